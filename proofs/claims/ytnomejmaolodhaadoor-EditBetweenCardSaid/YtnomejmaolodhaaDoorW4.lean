/- Part 4 of the library of this proof. -/
import Derived.Test.YtnomejmaolodhaaDoorW3
import Derived.Test.YtnomejmaolodhaaDoorProg
import Derived.KernelRfl
set_option linter.all false
namespace Go.Vc
open Go.Proofs
def c3 : VFn := ⟨219,.seq (.reg .false [⟨.some 5,.box 26 17 (.t 2),.none⟩,⟨.some 6,.mov (.c (.bool .false)),.none⟩]) (.seq (.seq (.reg .false [⟨.some 27,.mov (.t 0),.none⟩,⟨.some 28,.call (.c (.fn 4 [])) [.t 27],.none⟩,⟨.some 29,.mov (.t 28),.none⟩,⟨.some 30,.mov (.t 1),.some ((.t 29),.false)⟩,⟨.some 31,.call (.c (.fn 4 [])) [.t 30],.some ((.t 29),.false)⟩,⟨.some 32,.pick (.t 29) (.c (.bool .true)) (.t 31),.none⟩,⟨.some 33,.mov (.t 32),.none⟩,⟨.some 34,.fldA .false 4 1 (.t 5),.some ((.t 33),.false)⟩,⟨.some 35,.load .false 1 (.t 34),.some ((.t 33),.false)⟩,⟨.some 36,.call (.c (.fn 4 [])) [.t 35],.some ((.t 33),.false)⟩,⟨.some 37,.pick (.t 33) (.c (.bool .true)) (.t 36),.none⟩,⟨.some 38,.mov (.t 37),.none⟩,⟨.some 39,.mov (.t 0),.some ((.t 38),.false)⟩,⟨.some 40,.call (.c (.fn 5 [])) [.t 39],.some ((.t 38),.false)⟩,⟨.some 41,.not (.t 40),.some ((.t 38),.false)⟩,⟨.some 42,.pick (.t 38) (.c (.bool .true)) (.t 41),.none⟩,⟨.some 43,.mov (.t 42),.none⟩,⟨.some 44,.mov (.t 1),.some ((.t 43),.false)⟩,⟨.some 45,.call (.c (.fn 5 [])) [.t 44],.some ((.t 43),.false)⟩,⟨.some 46,.not (.t 45),.some ((.t 43),.false)⟩,⟨.some 47,.pick (.t 43) (.c (.bool .true)) (.t 46),.none⟩]) (.cond (.t 47) (.seq (.reg .false [⟨.some 48,.call (.c (.fn 6 [])) [],.none⟩,⟨.some 6,.mov (.t 48),.none⟩]) .ret) .skip)) (.seq (.reg .false [⟨.some 50,.mov (.t 0),.none⟩,⟨.some 51,.mov (.t 1),.none⟩,⟨.some 52,.call (.c (.fn 7 [])) [.t 50,.t 51],.none⟩,⟨.some 49,.mov (.t 52),.none⟩,⟨.some 53,.ext 0 (.t 49),.none⟩,⟨.some 54,.ext 1 (.t 49),.none⟩,⟨.some 7,.alloc 26 17 (.agg [.int .i64 0,.int .i64 0,.int .i64 0,.int .i64 0,.nils,.int .i64 0,.int .i64 0,.int .i64 0,.int .i64 0,.int .i64 0,.int .i64 0,.int .i64 0,.int .i64 0,.int .i64 0,.int .i64 0,.int .i64 0,.int .i64 0]),.none⟩,⟨.none,.store 17 (.t 7) (.t 53),.none⟩,⟨.some 8,.mov (.t 54),.none⟩]) (.seq (.reg .false [⟨.some 56,.mov (.t 0),.none⟩,⟨.some 57,.load .true 17 (.t 7),.none⟩,⟨.some 58,.call (.c (.fn 8 [])) [.t 56,.t 57],.none⟩,⟨.some 55,.mov (.t 58),.none⟩,⟨.some 59,.ext 0 (.t 55),.none⟩,⟨.some 60,.ext 1 (.t 55),.none⟩,⟨.some 9,.mov (.t 59),.none⟩,⟨.some 10,.mov (.t 60),.none⟩]) (.seq (.reg .false [⟨.some 62,.mov (.t 0),.none⟩,⟨.some 63,.mov (.t 0),.none⟩,⟨.some 64,.call (.c (.fn 7 [])) [.t 62,.t 63],.none⟩,⟨.some 61,.mov (.t 64),.none⟩,⟨.some 65,.ext 0 (.t 61),.none⟩,⟨.some 66,.ext 1 (.t 61),.none⟩,⟨.some 11,.alloc 26 17 (.agg [.int .i64 0,.int .i64 0,.int .i64 0,.int .i64 0,.nils,.int .i64 0,.int .i64 0,.int .i64 0,.int .i64 0,.int .i64 0,.int .i64 0,.int .i64 0,.int .i64 0,.int .i64 0,.int .i64 0,.int .i64 0,.int .i64 0]),.none⟩,⟨.none,.store 17 (.t 11) (.t 65),.none⟩,⟨.some 12,.mov (.t 66),.none⟩]) (.seq (.reg .false [⟨.some 68,.mov (.t 1),.none⟩,⟨.some 69,.mov (.t 0),.none⟩,⟨.some 70,.call (.c (.fn 7 [])) [.t 68,.t 69],.none⟩,⟨.some 67,.mov (.t 70),.none⟩,⟨.some 71,.ext 0 (.t 67),.none⟩,⟨.some 72,.ext 1 (.t 67),.none⟩,⟨.some 13,.alloc 26 17 (.agg [.int .i64 0,.int .i64 0,.int .i64 0,.int .i64 0,.nils,.int .i64 0,.int .i64 0,.int .i64 0,.int .i64 0,.int .i64 0,.int .i64 0,.int .i64 0,.int .i64 0,.int .i64 0,.int .i64 0,.int .i64 0,.int .i64 0]),.none⟩,⟨.none,.store 17 (.t 13) (.t 71),.none⟩,⟨.some 14,.mov (.t 72),.none⟩]) (.seq (.reg .false [⟨.some 74,.mov (.t 0),.none⟩,⟨.some 75,.load .true 17 (.t 7),.none⟩,⟨.some 76,.call (.c (.fn 9 [])) [.t 74,.t 75],.none⟩,⟨.some 73,.mov (.t 76),.none⟩,⟨.some 77,.ext 0 (.t 73),.none⟩,⟨.some 78,.ext 1 (.t 73),.none⟩,⟨.some 15,.alloc 26 17 (.agg [.int .i64 0,.int .i64 0,.int .i64 0,.int .i64 0,.nils,.int .i64 0,.int .i64 0,.int .i64 0,.int .i64 0,.int .i64 0,.int .i64 0,.int .i64 0,.int .i64 0,.int .i64 0,.int .i64 0,.int .i64 0,.int .i64 0]),.none⟩,⟨.none,.store 17 (.t 15) (.t 77),.none⟩,⟨.some 16,.mov (.t 78),.none⟩]) (.seq (.seq (.reg .false [⟨.some 79,.mov (.t 8),.none⟩,⟨.some 80,.bin .neq (.t 79) (.c (.int .i64 0)),.none⟩,⟨.some 81,.mov (.t 80),.none⟩,⟨.some 82,.mov (.t 10),.some ((.t 81),.false)⟩,⟨.some 83,.bin .neq (.t 82) (.c (.int .i64 0)),.some ((.t 81),.false)⟩,⟨.some 84,.pick (.t 81) (.c (.bool .true)) (.t 83),.none⟩,⟨.some 85,.mov (.t 84),.none⟩,⟨.some 86,.mov (.t 12),.some ((.t 85),.false)⟩,⟨.some 87,.bin .neq (.t 86) (.c (.int .i64 0)),.some ((.t 85),.false)⟩,⟨.some 88,.pick (.t 85) (.c (.bool .true)) (.t 87),.none⟩,⟨.some 89,.mov (.t 88),.none⟩,⟨.some 90,.mov (.t 14),.some ((.t 89),.false)⟩,⟨.some 91,.bin .neq (.t 90) (.c (.int .i64 0)),.some ((.t 89),.false)⟩,⟨.some 92,.pick (.t 89) (.c (.bool .true)) (.t 91),.none⟩,⟨.some 93,.mov (.t 92),.none⟩,⟨.some 94,.mov (.t 16),.some ((.t 93),.false)⟩,⟨.some 95,.bin .neq (.t 94) (.c (.int .i64 0)),.some ((.t 93),.false)⟩,⟨.some 96,.pick (.t 93) (.c (.bool .true)) (.t 95),.none⟩,⟨.some 97,.mov (.t 96),.none⟩,⟨.some 98,.mov (.t 9),.some ((.t 97),.false)⟩,⟨.some 99,.mov (.t 1),.some ((.t 97),.false)⟩,⟨.some 100,.call (.c (.fn 10 [])) [.t 98,.t 99],.some ((.t 97),.false)⟩,⟨.some 101,.not (.t 100),.some ((.t 97),.false)⟩,⟨.some 102,.pick (.t 97) (.c (.bool .true)) (.t 101),.none⟩,⟨.some 103,.mov (.t 102),.none⟩,⟨.some 104,.fldA .false 3 1 (.t 11),.some ((.t 103),.false)⟩,⟨.some 105,.load .false 1 (.t 104),.some ((.t 103),.false)⟩,⟨.some 106,.bin .neq (.t 105) (.c (.int .i64 0)),.some ((.t 103),.false)⟩,⟨.some 107,.pick (.t 103) (.c (.bool .true)) (.t 106),.none⟩,⟨.some 108,.mov (.t 107),.none⟩,⟨.some 109,.fldA .false 4 1 (.t 11),.some ((.t 108),.false)⟩,⟨.some 110,.load .false 1 (.t 109),.some ((.t 108),.false)⟩,⟨.some 111,.len .false (.t 110),.some ((.t 108),.false)⟩,⟨.some 112,.bin .neq (.t 111) (.c (.int .i64 0)),.some ((.t 108),.false)⟩,⟨.some 113,.pick (.t 108) (.c (.bool .true)) (.t 112),.none⟩,⟨.some 114,.mov (.t 113),.none⟩,⟨.some 115,.load .true 17 (.t 13),.some ((.t 114),.false)⟩,⟨.some 116,.load .true 17 (.t 15),.some ((.t 114),.false)⟩,⟨.some 117,.call (.c (.fn 11 [])) [.t 115,.t 116],.some ((.t 114),.false)⟩,⟨.some 118,.not (.t 117),.some ((.t 114),.false)⟩,⟨.some 119,.pick (.t 114) (.c (.bool .true)) (.t 118),.none⟩]) (.cond (.t 119) (.seq (.reg .false [⟨.some 6,.mov (.c (.bool .false)),.none⟩]) .ret) .skip)) (.seq (.reg .false [⟨.some 121,.mov (.t 0),.none⟩,⟨.some 122,.load .true 17 (.t 5),.none⟩,⟨.some 123,.call (.c (.fn 8 [])) [.t 121,.t 122],.none⟩,⟨.some 120,.mov (.t 123),.none⟩,⟨.some 124,.ext 0 (.t 120),.none⟩,⟨.some 125,.ext 1 (.t 120),.none⟩,⟨.some 9,.mov (.t 124),.none⟩,⟨.some 10,.mov (.t 125),.none⟩]) (.seq (.seq (.reg .false [⟨.some 126,.mov (.t 10),.none⟩,⟨.some 127,.bin .neq (.t 126) (.c (.int .i64 0)),.none⟩,⟨.some 128,.mov (.t 127),.none⟩,⟨.some 129,.fldA .false 0 1 (.t 5),.some ((.t 128),.false)⟩,⟨.some 130,.load .false 1 (.t 129),.some ((.t 128),.false)⟩,⟨.some 131,.bin .neq (.t 130) (.c (.int .i64 1)),.some ((.t 128),.false)⟩,⟨.some 132,.pick (.t 128) (.c (.bool .true)) (.t 131),.none⟩,⟨.some 133,.mov (.t 132),.none⟩,⟨.some 134,.fldA .false 1 1 (.t 5),.some ((.t 133),.false)⟩,⟨.some 135,.load .false 1 (.t 134),.some ((.t 133),.false)⟩,⟨.some 136,.bin .neq (.t 135) (.c (.int .i64 (-1))),.some ((.t 133),.false)⟩,⟨.some 137,.pick (.t 133) (.c (.bool .true)) (.t 136),.none⟩]) (.cond (.t 137) (.seq (.reg .false [⟨.some 138,.call (.c (.fn 6 [])) [],.none⟩,⟨.some 6,.mov (.t 138),.none⟩]) .ret) .skip)) (.seq (.reg .false [⟨.some 139,.mov (.t 9),.none⟩,⟨.some 140,.len .false (.t 139),.none⟩,⟨.some 141,.mov (.t 0),.none⟩,⟨.some 142,.len .false (.t 141),.none⟩,⟨.some 143,.bin .sub (.t 140) (.t 142),.none⟩,⟨.some 17,.mov (.t 143),.none⟩]) (.seq (.reg .false [⟨.some 144,.fldA .false 2 1 (.t 5),.none⟩,⟨.some 145,.load .false 1 (.t 144),.none⟩,⟨.some 146,.fldA .false 4 1 (.t 5),.none⟩,⟨.some 147,.load .false 1 (.t 146),.none⟩,⟨.some 148,.len .false (.t 147),.none⟩,⟨.some 149,.bin .add (.t 145) (.t 148),.none⟩,⟨.some 150,.mov (.t 17),.none⟩,⟨.some 151,.bin .sub (.t 149) (.t 150),.none⟩,⟨.some 18,.mov (.t 151),.none⟩]) (.seq (.seq (.reg .false [⟨.some 152,.fldA .false 2 1 (.t 5),.none⟩,⟨.some 153,.load .false 1 (.t 152),.none⟩,⟨.some 154,.bin .lss (.t 153) (.c (.int .i64 0)),.none⟩,⟨.some 155,.mov (.t 154),.none⟩,⟨.some 156,.mov (.t 18),.some ((.t 155),.false)⟩,⟨.some 157,.fldA .false 2 1 (.t 5),.some ((.t 155),.false)⟩,⟨.some 158,.load .false 1 (.t 157),.some ((.t 155),.false)⟩,⟨.some 159,.bin .lss (.t 156) (.t 158),.some ((.t 155),.false)⟩,⟨.some 160,.pick (.t 155) (.c (.bool .true)) (.t 159),.none⟩,⟨.some 161,.mov (.t 160),.none⟩,⟨.some 162,.mov (.t 18),.some ((.t 161),.false)⟩,⟨.some 163,.mov (.t 0),.some ((.t 161),.false)⟩,⟨.some 164,.len .false (.t 163),.some ((.t 161),.false)⟩,⟨.some 165,.bin .gtr (.t 162) (.t 164),.some ((.t 161),.false)⟩,⟨.some 166,.pick (.t 161) (.c (.bool .true)) (.t 165),.none⟩]) (.cond (.t 166) (.seq (.reg .false [⟨.some 6,.mov (.c (.bool .false)),.none⟩]) .ret) .skip)) (.seq (.reg .false [⟨.some 168,.mov (.t 0),.none⟩,⟨.some 169,.fldA .false 2 1 (.t 5),.none⟩,⟨.some 170,.load .false 1 (.t 169),.none⟩,⟨.some 171,.slice 20 (.t 168) .none (.some (.t 170)) .none,.none⟩,⟨.some 172,.call (.c (.fn 12 [])) [.t 171],.none⟩,⟨.some 167,.mov (.t 172),.none⟩,⟨.some 173,.ext 0 (.t 167),.none⟩,⟨.some 174,.ext 1 (.t 167),.none⟩,⟨.some 19,.mov (.t 173),.none⟩,⟨.some 20,.mov (.t 174),.none⟩]) (.seq (.reg .false [⟨.some 176,.fldA .false 4 1 (.t 5),.none⟩,⟨.some 177,.load .false 1 (.t 176),.none⟩,⟨.some 178,.call (.c (.fn 12 [])) [.t 177],.none⟩,⟨.some 175,.mov (.t 178),.none⟩,⟨.some 179,.ext 0 (.t 175),.none⟩,⟨.some 180,.ext 1 (.t 175),.none⟩,⟨.some 21,.mov (.t 179),.none⟩,⟨.some 22,.mov (.t 180),.none⟩]) (.seq (.reg .false [⟨.some 182,.mov (.t 0),.none⟩,⟨.some 183,.mov (.t 18),.none⟩,⟨.some 184,.slice 20 (.t 182) (.some (.t 183)) .none .none,.none⟩,⟨.some 185,.call (.c (.fn 12 [])) [.t 184],.none⟩,⟨.some 181,.mov (.t 185),.none⟩,⟨.some 186,.ext 0 (.t 181),.none⟩,⟨.some 187,.ext 1 (.t 181),.none⟩,⟨.some 23,.mov (.t 186),.none⟩,⟨.some 24,.mov (.t 187),.none⟩]) (.seq (.reg .false [⟨.some 189,.mov (.t 9),.none⟩,⟨.some 190,.call (.c (.fn 12 [])) [.t 189],.none⟩,⟨.some 188,.mov (.t 190),.none⟩,⟨.some 191,.ext 0 (.t 188),.none⟩,⟨.some 192,.ext 1 (.t 188),.none⟩,⟨.some 25,.mov (.t 191),.none⟩,⟨.some 26,.mov (.t 192),.none⟩]) (.seq (.reg .false [⟨.some 193,.mov (.t 20),.none⟩,⟨.some 194,.bin .eql (.t 193) (.c (.int .i64 0)),.none⟩,⟨.some 195,.mov (.t 194),.none⟩,⟨.some 196,.mov (.t 22),.some ((.t 195),.true)⟩,⟨.some 197,.bin .eql (.t 196) (.c (.int .i64 0)),.some ((.t 195),.true)⟩,⟨.some 198,.pick (.t 195) (.t 197) (.c (.bool .false)),.none⟩,⟨.some 199,.mov (.t 198),.none⟩,⟨.some 200,.mov (.t 24),.some ((.t 199),.true)⟩,⟨.some 201,.bin .eql (.t 200) (.c (.int .i64 0)),.some ((.t 199),.true)⟩,⟨.some 202,.pick (.t 199) (.t 201) (.c (.bool .false)),.none⟩,⟨.some 203,.mov (.t 202),.none⟩,⟨.some 204,.mov (.t 26),.some ((.t 203),.true)⟩,⟨.some 205,.bin .eql (.t 204) (.c (.int .i64 0)),.some ((.t 203),.true)⟩,⟨.some 206,.pick (.t 203) (.t 205) (.c (.bool .false)),.none⟩,⟨.some 207,.mov (.t 206),.none⟩,⟨.some 208,.mov (.t 25),.some ((.t 207),.true)⟩,⟨.some 209,.mov (.t 19),.some ((.t 207),.true)⟩,⟨.some 210,.mov (.t 21),.some ((.t 207),.true)⟩,⟨.some 211,.bin .add (.t 209) (.t 210),.some ((.t 207),.true)⟩,⟨.some 212,.mov (.t 23),.some ((.t 207),.true)⟩,⟨.some 213,.bin .add (.t 211) (.t 212),.some ((.t 207),.true)⟩,⟨.some 214,.bin .eql (.t 208) (.t 213),.some ((.t 207),.true)⟩,⟨.some 215,.pick (.t 207) (.t 214) (.c (.bool .false)),.none⟩,⟨.some 216,.mov (.t 215),.none⟩,⟨.some 217,.call (.c (.fn 6 [])) [],.some ((.t 216),.true)⟩,⟨.some 218,.pick (.t 216) (.t 217) (.c (.bool .false)),.none⟩,⟨.some 6,.mov (.t 218),.none⟩]) .ret))))))))))))))))),[.tmp (.t 6)]⟩
theorem e3 : cfn Tryd.prog Tryd.f3 = some c3 := by kernel_rfl
theorem k3 : callable Tryd.prog 3 = true := by kernel_rfl
def c4 : VFn := ⟨26,.seq (.reg .false [⟨.some 2,.mov (.c (.bool .false)),.none⟩]) (.seq (.reg .false [⟨.some 3,.mov (.c (.int .i64 0)),.none⟩]) (.seq (.seq (.reg .false [⟨.some 4,.mov (.c (.int .i64 0)),.none⟩]) (.block 0 (.loop (.seq (.seq (.reg .false [⟨.some 5,.mov (.t 4),.none⟩,⟨.some 6,.mov (.t 0),.none⟩,⟨.some 7,.len .false (.t 6),.none⟩,⟨.some 8,.bin .lss (.t 5) (.t 7),.none⟩]) (.cond (.t 8) .skip (.exit 0))) (.seq (.block 1 (.reg .false [⟨.some 11,.mov (.t 3),.none⟩,⟨.some 12,.mov (.t 0),.none⟩,⟨.some 13,.mov (.t 4),.none⟩,⟨.some 14,.idxA 20 (.t 12) (.t 13),.none⟩,⟨.some 15,.fldA .false 16 1 (.t 14),.none⟩,⟨.some 16,.load .false 1 (.t 15),.none⟩,⟨.some 17,.len .false (.t 16),.none⟩,⟨.some 18,.bin .add (.t 11) (.t 17),.none⟩,⟨.some 3,.mov (.t 18),.none⟩])) (.reg .false [⟨.some 9,.mov (.t 4),.none⟩,⟨.some 10,.bin .add (.t 9) (.c (.int .i64 1)),.none⟩,⟨.some 4,.mov (.t 10),.none⟩])))))) (.seq (.reg .false [⟨.some 19,.mov (.t 0),.none⟩,⟨.some 20,.len .false (.t 19),.none⟩,⟨.some 21,.bin .gtr (.t 20) (.c (.int .i64 40)),.none⟩,⟨.some 22,.mov (.t 21),.none⟩,⟨.some 23,.mov (.t 3),.some ((.t 22),.false)⟩,⟨.some 24,.bin .gtr (.t 23) (.c (.int .i64 200)),.some ((.t 22),.false)⟩,⟨.some 25,.pick (.t 22) (.c (.bool .true)) (.t 24),.none⟩,⟨.some 2,.mov (.t 25),.none⟩]) .ret))),[.tmp (.t 2)]⟩
theorem e4 : cfn Tryd.prog Tryd.f4 = some c4 := by kernel_rfl
theorem k4 : callable Tryd.prog 4 = true := by kernel_rfl
def c5 : VFn := ⟨73,.seq (.reg .false [⟨.some 2,.mov (.c (.bool .false)),.none⟩]) (.seq (.reg .false [⟨.some 6,.mov (.t 0),.none⟩,⟨.some 7,.len .false (.t 6),.none⟩,⟨.some 8,.bslice 3 1 [.t 7],.none⟩,⟨.some 3,.mov (.t 8),.none⟩]) (.seq (.seq (.reg .false [⟨.some 9,.mov (.t 0),.none⟩,⟨.some 10,.len .false (.t 9),.none⟩,⟨.some 11,.mov (.c (.int .i64 0)),.none⟩]) (.block 0 (.loop (.seq (.reg .false [⟨.some 12,.bin .lss (.t 11) (.t 10),.none⟩]) (.seq (.cond (.t 12) .skip (.exit 0)) (.seq (.block 1 (.seq (.reg .false [⟨.some 13,.mov (.t 11),.none⟩,⟨.some 14,.idxA 20 (.t 9) (.t 11),.none⟩,⟨.some 15,.load .true 20 (.t 14),.none⟩,⟨.some 5,.alloc 42 20 (.agg [.int .i64 0,.int .i64 0,.int .i64 0,.int .i64 0,.int .i64 0,.int .i64 0,.int .i64 0,.int .i64 0,.int .i64 0,.int .i64 0,.int .i64 0,.int .i64 0,.int .i64 0,.int .i64 0,.int .i64 0,.int .i64 0,.nils,.int .i64 0,.int .i64 0,.int .i64 0]),.none⟩,⟨.some 4,.mov (.t 13),.none⟩,⟨.none,.store 20 (.t 5) (.t 15),.none⟩]) (.seq (.block 2 (.loop (.seq (.seq (.reg .false [⟨.some 16,.mov (.t 3),.none⟩,⟨.some 17,.len .false (.t 16),.none⟩,⟨.some 18,.bin .gtr (.t 17) (.c (.int .i64 1)),.none⟩,⟨.some 19,.mov (.t 18),.none⟩,⟨.some 20,.mov (.t 3),.some ((.t 19),.true)⟩,⟨.some 21,.mov (.t 3),.some ((.t 19),.true)⟩,⟨.some 22,.len .false (.t 21),.some ((.t 19),.true)⟩,⟨.some 23,.bin .sub (.t 22) (.c (.int .i64 1)),.some ((.t 19),.true)⟩,⟨.some 24,.idxA 1 (.t 20) (.t 23),.some ((.t 19),.true)⟩,⟨.some 25,.load .false 1 (.t 24),.some ((.t 19),.true)⟩,⟨.some 26,.mov (.t 4),.some ((.t 19),.true)⟩,⟨.some 27,.bin .eql (.t 25) (.t 26),.some ((.t 19),.true)⟩,⟨.some 28,.pick (.t 19) (.t 27) (.c (.bool .false)),.none⟩]) (.cond (.t 28) .skip (.exit 2))) (.block 3 (.reg .false [⟨.some 29,.mov (.t 3),.none⟩,⟨.some 30,.mov (.t 3),.none⟩,⟨.some 31,.len .false (.t 30),.none⟩,⟨.some 32,.bin .sub (.t 31) (.c (.int .i64 1)),.none⟩,⟨.some 33,.slice 1 (.t 29) .none (.some (.t 32)) .none,.none⟩,⟨.some 3,.mov (.t 33),.none⟩]))))) (.seq (.seq (.reg .true [⟨.some 34,.load .true 20 (.t 5),.none⟩,⟨.some 35,.call (.c (.fn 13 [])) [.t 34],.none⟩,⟨.some 36,.not (.t 35),.none⟩,⟨.some 37,.mov (.t 36),.none⟩,⟨.some 38,.fldA .false 1 1 (.t 5),.some ((.t 37),.false)⟩,⟨.some 39,.load .false 1 (.t 38),.some ((.t 37),.false)⟩,⟨.some 40,.bin .lss (.t 39) (.c (.int .i64 1)),.some ((.t 37),.false)⟩,⟨.some 41,.pick (.t 37) (.c (.bool .true)) (.t 40),.none⟩,⟨.some 42,.mov (.t 41),.none⟩,⟨.some 43,.fldA .false 1 1 (.t 5),.some ((.t 42),.false)⟩,⟨.some 44,.load .false 1 (.t 43),.some ((.t 42),.false)⟩,⟨.some 45,.mov (.t 3),.some ((.t 42),.false)⟩,⟨.some 46,.mov (.t 3),.some ((.t 42),.false)⟩,⟨.some 47,.len .false (.t 46),.some ((.t 42),.false)⟩,⟨.some 48,.bin .sub (.t 47) (.c (.int .i64 1)),.some ((.t 42),.false)⟩,⟨.some 49,.idxA 1 (.t 45) (.t 48),.some ((.t 42),.false)⟩,⟨.some 50,.load .false 1 (.t 49),.some ((.t 42),.false)⟩,⟨.some 51,.mov (.t 4),.some ((.t 42),.false)⟩,⟨.some 52,.bin .sub (.t 50) (.t 51),.some ((.t 42),.false)⟩,⟨.some 53,.bin .gtr (.t 44) (.t 52),.some ((.t 42),.false)⟩,⟨.some 54,.pick (.t 42) (.c (.bool .true)) (.t 53),.none⟩,⟨.some 55,.mov (.t 54),.none⟩,⟨.some 56,.fldA .false 0 1 (.t 5),.some ((.t 55),.false)⟩,⟨.some 57,.load .false 1 (.t 56),.some ((.t 55),.false)⟩,⟨.some 58,.bin .neq (.t 57) (.c (.int .i64 1)),.some ((.t 55),.false)⟩,⟨.some 59,.mov (.t 58),.some ((.t 55),.false)⟩,⟨.some 60,.fldA .false 1 1 (.t 5),.some ((.t 59),.true)⟩,⟨.some 61,.load .false 1 (.t 60),.some ((.t 59),.true)⟩,⟨.some 62,.bin .gtr (.t 61) (.c (.int .i64 1)),.some ((.t 59),.true)⟩,⟨.some 63,.pick (.t 59) (.t 62) (.c (.bool .false)),.some ((.t 55),.false)⟩,⟨.some 64,.pick (.t 55) (.c (.bool .true)) (.t 63),.none⟩]) (.cond (.t 64) (.seq (.reg .false [⟨.some 2,.mov (.c (.bool .false)),.none⟩]) .ret) .skip)) (.reg .false [⟨.some 65,.mov (.t 3),.none⟩,⟨.some 66,.mov (.t 4),.none⟩,⟨.some 67,.fldA .false 1 1 (.t 5),.none⟩,⟨.some 68,.load .false 1 (.t 67),.none⟩,⟨.some 69,.bin .add (.t 66) (.t 68),.none⟩,⟨.some 70,.bslice 3 1 [.t 69],.none⟩,⟨.some 71,.append 3 1 8 (.t 65) (.t 70),.none⟩,⟨.some 3,.mov (.t 71),.none⟩]))))) (.reg .false [⟨.some 72,.bin .add (.t 11) (.c (.int .i64 1)),.none⟩,⟨.some 11,.mov (.t 72),.none⟩]))))))) (.seq (.reg .false [⟨.some 2,.mov (.c (.bool .true)),.none⟩]) .ret))),[.tmp (.t 2)]⟩
theorem e5 : cfn Tryd.prog Tryd.f5 = some c5 := by kernel_rfl
theorem k5 : callable Tryd.prog 5 = true := by kernel_rfl
def c6 : VFn := ⟨54,.seq (.reg .false [⟨.some 0,.mov (.c (.bool .false)),.none⟩]) (.seq (.reg .false [⟨.some 6,.call (.c (.fn 14 [])) [.c (.str [123,49,32,49,125,123,50,32,50,125,123,51,32,51,125])],.none⟩,⟨.some 7,.call (.c (.fn 15 [])) [.c (.int .i64 (-1)),.c (.int .i64 1),.c (.int .i64 1),.c (.str [123,52,32,52,125,123,53,32,53,125])],.none⟩,⟨.some 8,.call (.c (.fn 9 [])) [.t 6,.t 7],.none⟩,⟨.some 5,.mov (.t 8),.none⟩,⟨.some 9,.ext 0 (.t 5),.none⟩,⟨.some 10,.ext 1 (.t 5),.none⟩,⟨.some 1,.alloc 26 17 (.agg [.int .i64 0,.int .i64 0,.int .i64 0,.int .i64 0,.nils,.int .i64 0,.int .i64 0,.int .i64 0,.int .i64 0,.int .i64 0,.int .i64 0,.int .i64 0,.int .i64 0,.int .i64 0,.int .i64 0,.int .i64 0,.int .i64 0]),.none⟩,⟨.none,.store 17 (.t 1) (.t 9),.none⟩,⟨.some 2,.mov (.t 10),.none⟩]) (.seq (.reg .false [⟨.some 12,.call (.c (.fn 14 [])) [.c (.str [123,49,32,49,125,123,50,32,50,125,123,51,32,51,125])],.none⟩,⟨.some 13,.call (.c (.fn 14 [])) [.c (.str [123,49,32,49,125,123,51,32,51,125])],.none⟩,⟨.some 14,.call (.c (.fn 7 [])) [.t 12,.t 13],.none⟩,⟨.some 11,.mov (.t 14),.none⟩,⟨.some 15,.ext 0 (.t 11),.none⟩,⟨.some 16,.ext 1 (.t 11),.none⟩,⟨.some 3,.alloc 26 17 (.agg [.int .i64 0,.int .i64 0,.int .i64 0,.int .i64 0,.nils,.int .i64 0,.int .i64 0,.int .i64 0,.int .i64 0,.int .i64 0,.int .i64 0,.int .i64 0,.int .i64 0,.int .i64 0,.int .i64 0,.int .i64 0,.int .i64 0]),.none⟩,⟨.none,.store 17 (.t 3) (.t 15),.none⟩,⟨.some 4,.mov (.t 16),.none⟩]) (.seq (.reg .true [⟨.some 17,.call (.c (.fn 15 [])) [.c (.int .i64 (-1)),.c (.int .i64 1),.c (.int .i64 1),.c (.str [123,52,32,52,125,123,53,32,53,125])],.none⟩,⟨.some 18,.call (.c (.fn 16 [])) [.c (.str [123,49,32,49,125,123,50,32,50,125,123,51,32,51,125]),.t 17,.c (.str [123,49,32,49,125,123,52,32,52,125,123,53,32,53,125,123,51,32,51,125])],.none⟩,⟨.some 19,.mov (.t 18),.none⟩,⟨.some 20,.mov (.t 2),.some ((.t 19),.true)⟩,⟨.some 21,.bin .eql (.t 20) (.c (.int .i64 0)),.some ((.t 19),.true)⟩,⟨.some 22,.pick (.t 19) (.t 21) (.c (.bool .false)),.none⟩,⟨.some 23,.mov (.t 22),.none⟩,⟨.some 24,.load .true 17 (.t 1),.some ((.t 23),.true)⟩,⟨.some 25,.call (.c (.fn 15 [])) [.c (.int .i64 (-1)),.c (.int .i64 1),.c (.int .i64 2),.c (.str [123,50,32,50,125])],.some ((.t 23),.true)⟩,⟨.some 26,.call (.c (.fn 11 [])) [.t 24,.t 25],.some ((.t 23),.true)⟩,⟨.some 27,.pick (.t 23) (.t 26) (.c (.bool .false)),.none⟩,⟨.some 28,.mov (.t 27),.none⟩,⟨.some 29,.call (.c (.fn 15 [])) [.c (.int .i64 0),.c (.int .i64 2),.c (.int .i64 0),.c (.str [123,50,32,50,125])],.some ((.t 28),.true)⟩,⟨.some 30,.call (.c (.fn 16 [])) [.c (.str [91,123,49,32,49,125,93]),.t 29,.c (.str [91,123,49,32,49,125,123,50,32,50,125,93])],.some ((.t 28),.true)⟩,⟨.some 31,.pick (.t 28) (.t 30) (.c (.bool .false)),.none⟩,⟨.some 32,.mov (.t 31),.none⟩,⟨.some 33,.call (.c (.fn 15 [])) [.c (.int .i64 (-1)),.c (.int .i64 1),.c (.int .i64 0),.c (.str [])],.some ((.t 32),.true)⟩,⟨.some 34,.call (.c (.fn 17 [])) [.c (.str [91,123,49,32,49,125,93]),.t 33],.some ((.t 32),.true)⟩,⟨.some 35,.pick (.t 32) (.t 34) (.c (.bool .false)),.none⟩,⟨.some 36,.mov (.t 35),.none⟩,⟨.some 37,.call (.c (.fn 15 [])) [.c (.int .i64 0),.c (.int .i64 3),.c (.int .i64 0),.c (.str [])],.some ((.t 36),.true)⟩,⟨.some 38,.call (.c (.fn 17 [])) [.c (.str [91,123,49,32,49,125,93]),.t 37],.some ((.t 36),.true)⟩,⟨.some 39,.pick (.t 36) (.t 38) (.c (.bool .false)),.none⟩,⟨.some 40,.mov (.t 39),.none⟩,⟨.some 41,.call (.c (.fn 18 [])) [],.some ((.t 40),.true)⟩,⟨.some 42,.build [.int .i64 0,.int .i64 0,.int .i64 0,.int .i64 0,.nils,.int .i64 0,.int .i64 0,.int .i64 0,.int .i64 0,.int .i64 0,.int .i64 0,.int .i64 0,.int .i64 0,.int .i64 0,.int .i64 0,.int .i64 0,.int .i64 0] [(0,(1,(.c (.int .i64 2)))),(2,(1,(.c (.int .i64 1)))),(5,(12,(.t 41)))],.some ((.t 40),.true)⟩,⟨.some 43,.call (.c (.fn 17 [])) [.c (.str [91,123,49,32,49,125,93]),.t 42],.some ((.t 40),.true)⟩,⟨.some 44,.pick (.t 40) (.t 43) (.c (.bool .false)),.none⟩,⟨.some 45,.mov (.t 44),.none⟩,⟨.some 46,.mov (.t 4),.some ((.t 45),.true)⟩,⟨.some 47,.bin .eql (.t 46) (.c (.int .i64 0)),.some ((.t 45),.true)⟩,⟨.some 48,.pick (.t 45) (.t 47) (.c (.bool .false)),.none⟩,⟨.some 49,.mov (.t 48),.none⟩,⟨.some 50,.load .true 17 (.t 3),.some ((.t 49),.true)⟩,⟨.some 51,.call (.c (.fn 15 [])) [.c (.int .i64 (-1)),.c (.int .i64 1),.c (.int .i64 1),.c (.str [])],.some ((.t 49),.true)⟩,⟨.some 52,.call (.c (.fn 11 [])) [.t 50,.t 51],.some ((.t 49),.true)⟩,⟨.some 53,.pick (.t 49) (.t 52) (.c (.bool .false)),.none⟩,⟨.some 0,.mov (.t 53),.none⟩]) .ret))),[.tmp (.t 0)]⟩
theorem e6 : cfn Tryd.prog Tryd.f6 = some c6 := by kernel_rfl
theorem k6 : callable Tryd.prog 6 = true := by kernel_rfl
def c7 : VFn := ⟨57,.seq (.reg .false [⟨.some 4,.alloc 26 17 (.agg [.int .i64 0,.int .i64 0,.int .i64 0,.int .i64 0,.nils,.int .i64 0,.int .i64 0,.int .i64 0,.int .i64 0,.int .i64 0,.int .i64 0,.int .i64 0,.int .i64 0,.int .i64 0,.int .i64 0,.int .i64 0,.int .i64 0]),.none⟩,⟨.some 5,.mov (.c (.int .i64 0)),.none⟩]) (.seq (.seq (.reg .false [⟨.some 12,.mov (.t 0),.none⟩,⟨.some 13,.call (.c (.fn 5 [])) [.t 12],.none⟩,⟨.some 14,.not (.t 13),.none⟩,⟨.some 15,.mov (.t 14),.none⟩,⟨.some 16,.mov (.t 1),.some ((.t 15),.false)⟩,⟨.some 17,.call (.c (.fn 5 [])) [.t 16],.some ((.t 15),.false)⟩,⟨.some 18,.not (.t 17),.some ((.t 15),.false)⟩,⟨.some 19,.pick (.t 15) (.c (.bool .true)) (.t 18),.none⟩]) (.cond (.t 19) (.seq (.reg .false [⟨.some 20,.build [.int .i64 0,.int .i64 0,.int .i64 0,.int .i64 0,.nils,.int .i64 0,.int .i64 0,.int .i64 0,.int .i64 0,.int .i64 0,.int .i64 0,.int .i64 0,.int .i64 0,.int .i64 0,.int .i64 0,.int .i64 0,.int .i64 0] [],.none⟩,⟨.none,.store 17 (.t 4) (.t 20),.none⟩,⟨.some 5,.mov (.c (.int .i64 4)),.none⟩]) .ret) .skip)) (.seq (.reg .false [⟨.some 21,.mov (.t 0),.none⟩,⟨.some 22,.call (.c (.fn 19 [])) [.t 21],.none⟩,⟨.some 23,.mov (.t 1),.none⟩,⟨.some 24,.call (.c (.fn 19 [])) [.t 23],.none⟩,⟨.some 6,.mov (.t 22),.none⟩,⟨.some 7,.mov (.t 24),.none⟩]) (.seq (.reg .false [⟨.some 25,.mov (.t 6),.none⟩,⟨.some 26,.mov (.t 7),.none⟩,⟨.some 27,.call (.c (.fn 20 [])) [.t 25,.t 26,.c (.fn 21 [])],.none⟩,⟨.some 8,.mov (.t 27),.none⟩]) (.seq (.reg .false [⟨.some 28,.mov (.t 6),.none⟩,⟨.some 29,.mov (.t 8),.none⟩,⟨.some 30,.slice 1 (.t 28) .none (.some (.t 29)) .none,.none⟩,⟨.some 31,.call (.c (.fn 22 [])) [.t 30],.none⟩,⟨.some 32,.len .false (.t 31),.none⟩,⟨.some 9,.mov (.t 32),.none⟩]) (.seq (.reg .true [⟨.some 33,.mov (.t 6),.none⟩,⟨.some 34,.mov (.t 8),.none⟩,⟨.some 35,.slice 1 (.t 33) (.some (.t 34)) .none .none,.none⟩,⟨.some 36,.mov (.t 7),.none⟩,⟨.some 37,.mov (.t 8),.none⟩,⟨.some 38,.slice 1 (.t 36) (.some (.t 37)) .none .none,.none⟩,⟨.some 6,.mov (.t 35),.none⟩,⟨.some 7,.mov (.t 38),.none⟩]) (.seq (.reg .false [⟨.some 39,.mov (.t 6),.none⟩,⟨.some 40,.mov (.t 7),.none⟩,⟨.some 41,.call (.c (.fn 20 [])) [.t 39,.t 40,.c (.fn 23 [])],.none⟩,⟨.some 10,.mov (.t 41),.none⟩]) (.seq (.reg .false [⟨.some 42,.mov (.t 7),.none⟩,⟨.some 43,.mov (.t 7),.none⟩,⟨.some 44,.len .false (.t 43),.none⟩,⟨.some 45,.mov (.t 10),.none⟩,⟨.some 46,.bin .sub (.t 44) (.t 45),.none⟩,⟨.some 47,.slice 1 (.t 42) .none (.some (.t 46)) .none,.none⟩,⟨.some 48,.call (.c (.fn 22 [])) [.t 47],.none⟩,⟨.some 11,.mov (.t 48),.none⟩]) (.seq (.reg .false [⟨.some 49,.mov (.t 9),.none⟩,⟨.some 50,.mov (.t 6),.none⟩,⟨.some 51,.len .false (.t 50),.none⟩,⟨.some 52,.mov (.t 10),.none⟩,⟨.some 53,.bin .sub (.t 51) (.t 52),.none⟩,⟨.some 54,.mov (.t 11),.none⟩,⟨.some 55,.call (.c (.fn 24 [])) [.t 54],.none⟩,⟨.some 56,.build [.int .i64 0,.int .i64 0,.int .i64 0,.int .i64 0,.nils,.int .i64 0,.int .i64 0,.int .i64 0,.int .i64 0,.int .i64 0,.int .i64 0,.int .i64 0,.int .i64 0,.int .i64 0,.int .i64 0,.int .i64 0,.int .i64 0] [(0,(1,(.c (.int .i64 1)))),(1,(1,(.c (.int .i64 (-1))))),(2,(1,(.t 49))),(3,(1,(.t 53))),(4,(1,(.t 55)))],.none⟩,⟨.none,.store 17 (.t 4) (.t 56),.none⟩,⟨.some 5,.mov (.c (.int .i64 0)),.none⟩]) .ret)))))))),[.cell .true 17 (.t 4),.tmp (.t 5)]⟩
theorem e7 : cfn Tryd.prog Tryd.f7 = some c7 := by kernel_rfl
theorem k7 : callable Tryd.prog 7 = true := by kernel_rfl
def c8 : VFn := ⟨40,.seq (.reg .false [⟨.some 3,.box 26 17 (.t 1),.none⟩,⟨.some 4,.mov (.c .nils),.none⟩,⟨.some 5,.mov (.c (.int .i64 0)),.none⟩]) (.seq (.seq (.reg .false [⟨.some 8,.mov (.t 0),.none⟩,⟨.some 9,.call (.c (.fn 5 [])) [.t 8],.none⟩,⟨.some 10,.not (.t 9),.none⟩,⟨.some 11,.mov (.t 10),.none⟩,⟨.some 12,.fldA .false 0 1 (.t 3),.some ((.t 11),.false)⟩,⟨.some 13,.load .false 1 (.t 12),.some ((.t 11),.false)⟩,⟨.some 14,.bin .lss (.t 13) (.c (.int .i64 1)),.some ((.t 11),.false)⟩,⟨.some 15,.pick (.t 11) (.c (.bool .true)) (.t 14),.none⟩,⟨.some 16,.mov (.t 15),.none⟩,⟨.some 17,.fldA .false 0 1 (.t 3),.some ((.t 16),.false)⟩,⟨.some 18,.load .false 1 (.t 17),.some ((.t 16),.false)⟩,⟨.some 19,.bin .gtr (.t 18) (.c (.int .i64 2)),.some ((.t 16),.false)⟩,⟨.some 20,.pick (.t 16) (.c (.bool .true)) (.t 19),.none⟩]) (.cond (.t 20) (.seq (.reg .false [⟨.some 4,.mov (.c .nils),.none⟩,⟨.some 5,.mov (.c (.int .i64 4)),.none⟩]) .ret) .skip)) (.seq (.reg .true [⟨.some 22,.call (.c (.fn 25 [])) [],.none⟩,⟨.some 23,.fldA .false 0 1 (.t 3),.none⟩,⟨.some 24,.load .false 1 (.t 23),.none⟩,⟨.some 25,.idxV .false 3 1 (.t 22) (.t 24),.none⟩,⟨.some 26,.load .true 17 (.t 3),.none⟩,⟨.some 27,.mov (.t 0),.none⟩,⟨.some 28,.build [.int .i64 0,.int .i64 0,.int .i64 0,.int .i64 0,.nils,.int .i64 0,.int .i64 0,.int .i64 0,.int .i64 0,.int .i64 0,.int .i64 0,.int .i64 0,.int .i64 0,.int .i64 0,.int .i64 0,.int .i64 0,.int .i64 0,.nils] [(0,(17,(.t 26))),(17,(1,(.t 27)))],.none⟩,⟨.some 29,.call (.t 25) [.t 28],.none⟩,⟨.some 21,.mov (.t 29),.none⟩,⟨.some 30,.ext 0 (.t 21),.none⟩,⟨.some 31,.ext 1 (.t 21),.none⟩,⟨.some 6,.mov (.t 30),.none⟩,⟨.some 7,.mov (.t 31),.none⟩]) (.seq (.seq (.reg .false [⟨.some 32,.mov (.t 7),.none⟩,⟨.some 33,.not (.t 32),.none⟩,⟨.some 34,.mov (.t 33),.none⟩,⟨.some 35,.mov (.t 6),.some ((.t 34),.false)⟩,⟨.some 36,.call (.c (.fn 5 [])) [.t 35],.some ((.t 34),.false)⟩,⟨.some 37,.not (.t 36),.some ((.t 34),.false)⟩,⟨.some 38,.pick (.t 34) (.c (.bool .true)) (.t 37),.none⟩]) (.cond (.t 38) (.seq (.reg .false [⟨.some 4,.mov (.c .nils),.none⟩,⟨.some 5,.mov (.c (.int .i64 4)),.none⟩]) .ret) .skip)) (.seq (.reg .false [⟨.some 39,.mov (.t 6),.none⟩,⟨.some 4,.mov (.t 39),.none⟩,⟨.some 5,.mov (.c (.int .i64 0)),.none⟩]) .ret)))),[.tmp (.t 4),.tmp (.t 5)]⟩
theorem e8 : cfn Tryd.prog Tryd.f8 = some c8 := by kernel_rfl
theorem k8 : callable Tryd.prog 8 = true := by kernel_rfl
def c9 : VFn := ⟨58,.seq (.reg .false [⟨.some 3,.box 26 17 (.t 1),.none⟩,⟨.some 4,.alloc 26 17 (.agg [.int .i64 0,.int .i64 0,.int .i64 0,.int .i64 0,.nils,.int .i64 0,.int .i64 0,.int .i64 0,.int .i64 0,.int .i64 0,.int .i64 0,.int .i64 0,.int .i64 0,.int .i64 0,.int .i64 0,.int .i64 0,.int .i64 0]),.none⟩,⟨.some 5,.mov (.c (.int .i64 0)),.none⟩]) (.seq (.seq (.reg .false [⟨.some 12,.mov (.t 0),.none⟩,⟨.some 13,.load .true 17 (.t 3),.none⟩,⟨.some 14,.call (.c (.fn 8 [])) [.t 12,.t 13],.none⟩,⟨.some 11,.mov (.t 14),.none⟩,⟨.some 15,.ext 0 (.t 11),.none⟩,⟨.some 16,.ext 1 (.t 11),.none⟩,⟨.some 6,.mov (.t 15),.none⟩,⟨.some 7,.mov (.t 16),.none⟩]) (.seq (.reg .false [⟨.some 17,.mov (.t 7),.none⟩,⟨.some 18,.bin .neq (.t 17) (.c (.int .i64 0)),.none⟩]) (.cond (.t 18) (.seq (.reg .false [⟨.some 19,.build [.int .i64 0,.int .i64 0,.int .i64 0,.int .i64 0,.nils,.int .i64 0,.int .i64 0,.int .i64 0,.int .i64 0,.int .i64 0,.int .i64 0,.int .i64 0,.int .i64 0,.int .i64 0,.int .i64 0,.int .i64 0,.int .i64 0] [],.none⟩,⟨.some 20,.mov (.t 7),.none⟩,⟨.none,.store 17 (.t 4) (.t 19),.none⟩,⟨.some 5,.mov (.t 20),.none⟩]) .ret) .skip))) (.seq (.seq (.reg .false [⟨.some 21,.fldA .false 0 1 (.t 3),.none⟩,⟨.some 22,.load .false 1 (.t 21),.none⟩,⟨.some 23,.bin .eql (.t 22) (.c (.int .i64 2)),.none⟩]) (.cond (.t 23) (.seq (.reg .true [⟨.some 24,.fldA .false 0 1 (.t 3),.none⟩,⟨.some 25,.load .false 1 (.t 24),.none⟩,⟨.some 26,.fldA .false 2 1 (.t 3),.none⟩,⟨.some 27,.load .false 1 (.t 26),.none⟩,⟨.some 28,.mov (.t 0),.none⟩,⟨.some 29,.fldA .false 2 1 (.t 3),.none⟩,⟨.some 30,.load .false 1 (.t 29),.none⟩,⟨.some 31,.idxA 20 (.t 28) (.t 30),.none⟩,⟨.some 32,.fldA .true 2 12 (.t 31),.none⟩,⟨.some 33,.load .true 12 (.t 32),.none⟩,⟨.some 34,.build [.int .i64 0,.int .i64 0,.int .i64 0,.int .i64 0,.nils,.int .i64 0,.int .i64 0,.int .i64 0,.int .i64 0,.int .i64 0,.int .i64 0,.int .i64 0,.int .i64 0,.int .i64 0,.int .i64 0,.int .i64 0,.int .i64 0] [(0,(1,(.t 25))),(2,(1,(.t 27))),(5,(12,(.t 33)))],.none⟩,⟨.none,.store 17 (.t 4) (.t 34),.none⟩,⟨.some 5,.mov (.c (.int .i64 0)),.none⟩]) .ret) .skip)) (.seq (.reg .false [⟨.some 36,.load .true 17 (.t 3),.none⟩,⟨.some 37,.mov (.t 0),.none⟩,⟨.some 38,.build [.int .i64 0,.int .i64 0,.int .i64 0,.int .i64 0,.nils,.int .i64 0,.int .i64 0,.int .i64 0,.int .i64 0,.int .i64 0,.int .i64 0,.int .i64 0,.int .i64 0,.int .i64 0,.int .i64 0,.int .i64 0,.int .i64 0,.nils] [(0,(17,(.t 36))),(17,(1,(.t 37)))],.none⟩,⟨.some 39,.call (.c (.fn 26 [])) [.t 38],.none⟩,⟨.some 35,.mov (.t 39),.none⟩,⟨.some 40,.ext 0 (.t 35),.none⟩,⟨.some 41,.ext 1 (.t 35),.none⟩,⟨.some 42,.ext 2 (.t 35),.none⟩,⟨.some 8,.mov (.t 40),.none⟩,⟨.some 9,.mov (.t 41),.none⟩,⟨.some 10,.mov (.t 42),.none⟩]) (.seq (.reg .true [⟨.some 43,.fldA .false 0 1 (.t 3),.none⟩,⟨.some 44,.load .false 1 (.t 43),.none⟩,⟨.some 45,.fldA .false 1 1 (.t 3),.none⟩,⟨.some 46,.load .false 1 (.t 45),.none⟩,⟨.some 47,.fldA .false 2 1 (.t 3),.none⟩,⟨.some 48,.load .false 1 (.t 47),.none⟩,⟨.some 49,.fldA .false 4 1 (.t 3),.none⟩,⟨.some 50,.load .false 1 (.t 49),.none⟩,⟨.some 51,.call (.c (.fn 27 [])) [.t 50],.none⟩,⟨.some 52,.mov (.t 0),.none⟩,⟨.some 53,.mov (.t 8),.none⟩,⟨.some 54,.mov (.t 9),.none⟩,⟨.some 55,.slice 20 (.t 52) (.some (.t 53)) (.some (.t 54)) .none,.none⟩,⟨.some 56,.call (.c (.fn 24 [])) [.t 55],.none⟩,⟨.some 57,.build [.int .i64 0,.int .i64 0,.int .i64 0,.int .i64 0,.nils,.int .i64 0,.int .i64 0,.int .i64 0,.int .i64 0,.int .i64 0,.int .i64 0,.int .i64 0,.int .i64 0,.int .i64 0,.int .i64 0,.int .i64 0,.int .i64 0] [(0,(1,(.t 44))),(1,(1,(.t 46))),(2,(1,(.t 48))),(3,(1,(.t 51))),(4,(1,(.t 56)))],.none⟩,⟨.none,.store 17 (.t 4) (.t 57),.none⟩,⟨.some 5,.mov (.c (.int .i64 0)),.none⟩]) .ret)))),[.cell .true 17 (.t 4),.tmp (.t 5)]⟩
theorem e9 : cfn Tryd.prog Tryd.f9 = some c9 := by kernel_rfl
theorem k9 : callable Tryd.prog 9 = true := by kernel_rfl
def c10 : VFn := ⟨27,.seq (.reg .false [⟨.some 4,.mov (.c (.bool .false)),.none⟩]) (.seq (.seq (.reg .false [⟨.some 6,.mov (.t 0),.none⟩,⟨.some 7,.len .false (.t 6),.none⟩,⟨.some 8,.mov (.t 1),.none⟩,⟨.some 9,.len .false (.t 8),.none⟩,⟨.some 10,.bin .neq (.t 7) (.t 9),.none⟩]) (.cond (.t 10) (.seq (.reg .false [⟨.some 4,.mov (.c (.bool .false)),.none⟩]) .ret) .skip)) (.seq (.seq (.reg .false [⟨.some 5,.mov (.c (.int .i64 0)),.none⟩]) (.block 0 (.loop (.seq (.seq (.reg .false [⟨.some 11,.mov (.t 5),.none⟩,⟨.some 12,.mov (.t 0),.none⟩,⟨.some 13,.len .false (.t 12),.none⟩,⟨.some 14,.bin .lss (.t 11) (.t 13),.none⟩]) (.cond (.t 14) .skip (.exit 0))) (.seq (.block 1 (.seq (.reg .true [⟨.some 17,.mov (.t 0),.none⟩,⟨.some 18,.mov (.t 5),.none⟩,⟨.some 19,.idxA 20 (.t 17) (.t 18),.none⟩,⟨.some 20,.load .true 20 (.t 19),.none⟩,⟨.some 21,.mov (.t 1),.none⟩,⟨.some 22,.mov (.t 5),.none⟩,⟨.some 23,.idxA 20 (.t 21) (.t 22),.none⟩,⟨.some 24,.load .true 20 (.t 23),.none⟩,⟨.some 25,.call (.c (.fn 28 [])) [.t 20,.t 24],.none⟩,⟨.some 26,.not (.t 25),.none⟩]) (.cond (.t 26) (.seq (.reg .false [⟨.some 4,.mov (.c (.bool .false)),.none⟩]) .ret) .skip))) (.reg .false [⟨.some 15,.mov (.t 5),.none⟩,⟨.some 16,.bin .add (.t 15) (.c (.int .i64 1)),.none⟩,⟨.some 5,.mov (.t 16),.none⟩])))))) (.seq (.reg .false [⟨.some 4,.mov (.c (.bool .true)),.none⟩]) .ret))),[.tmp (.t 4)]⟩
theorem e10 : cfn Tryd.prog Tryd.f10 = some c10 := by kernel_rfl
theorem k10 : callable Tryd.prog 10 = true := by kernel_rfl
def c11 : VFn := ⟨45,.seq (.reg .false [⟨.some 2,.box 26 17 (.t 0),.none⟩,⟨.some 3,.box 26 17 (.t 1),.none⟩,⟨.some 4,.mov (.c (.bool .false)),.none⟩]) (.seq (.reg .false [⟨.some 5,.fldA .false 0 1 (.t 2),.none⟩,⟨.some 6,.load .false 1 (.t 5),.none⟩,⟨.some 7,.fldA .false 0 1 (.t 3),.none⟩,⟨.some 8,.load .false 1 (.t 7),.none⟩,⟨.some 9,.bin .eql (.t 6) (.t 8),.none⟩,⟨.some 10,.mov (.t 9),.none⟩,⟨.some 11,.fldA .false 1 1 (.t 2),.some ((.t 10),.true)⟩,⟨.some 12,.load .false 1 (.t 11),.some ((.t 10),.true)⟩,⟨.some 13,.fldA .false 1 1 (.t 3),.some ((.t 10),.true)⟩,⟨.some 14,.load .false 1 (.t 13),.some ((.t 10),.true)⟩,⟨.some 15,.bin .eql (.t 12) (.t 14),.some ((.t 10),.true)⟩,⟨.some 16,.pick (.t 10) (.t 15) (.c (.bool .false)),.none⟩,⟨.some 17,.mov (.t 16),.none⟩,⟨.some 18,.fldA .false 2 1 (.t 2),.some ((.t 17),.true)⟩,⟨.some 19,.load .false 1 (.t 18),.some ((.t 17),.true)⟩,⟨.some 20,.fldA .false 2 1 (.t 3),.some ((.t 17),.true)⟩,⟨.some 21,.load .false 1 (.t 20),.some ((.t 17),.true)⟩,⟨.some 22,.bin .eql (.t 19) (.t 21),.some ((.t 17),.true)⟩,⟨.some 23,.pick (.t 17) (.t 22) (.c (.bool .false)),.none⟩,⟨.some 24,.mov (.t 23),.none⟩,⟨.some 25,.fldA .false 3 1 (.t 2),.some ((.t 24),.true)⟩,⟨.some 26,.load .false 1 (.t 25),.some ((.t 24),.true)⟩,⟨.some 27,.fldA .false 3 1 (.t 3),.some ((.t 24),.true)⟩,⟨.some 28,.load .false 1 (.t 27),.some ((.t 24),.true)⟩,⟨.some 29,.bin .eql (.t 26) (.t 28),.some ((.t 24),.true)⟩,⟨.some 30,.pick (.t 24) (.t 29) (.c (.bool .false)),.none⟩,⟨.some 31,.mov (.t 30),.none⟩,⟨.some 32,.fldA .true 5 12 (.t 2),.some ((.t 31),.true)⟩,⟨.some 33,.load .true 12 (.t 32),.some ((.t 31),.true)⟩,⟨.some 34,.fldA .true 5 12 (.t 3),.some ((.t 31),.true)⟩,⟨.some 35,.load .true 12 (.t 34),.some ((.t 31),.true)⟩,⟨.some 36,.eqS .false [0,0,0,0,0,0,0,0,0,0,0,0] (.t 33) (.t 35),.some ((.t 31),.true)⟩,⟨.some 37,.pick (.t 31) (.t 36) (.c (.bool .false)),.none⟩,⟨.some 38,.mov (.t 37),.none⟩,⟨.some 39,.fldA .false 4 1 (.t 2),.some ((.t 38),.true)⟩,⟨.some 40,.load .false 1 (.t 39),.some ((.t 38),.true)⟩,⟨.some 41,.fldA .false 4 1 (.t 3),.some ((.t 38),.true)⟩,⟨.some 42,.load .false 1 (.t 41),.some ((.t 38),.true)⟩,⟨.some 43,.call (.c (.fn 29 [])) [.t 40,.t 42],.some ((.t 38),.true)⟩,⟨.some 44,.pick (.t 38) (.t 43) (.c (.bool .false)),.none⟩,⟨.some 4,.mov (.t 44),.none⟩]) .ret),[.tmp (.t 4)]⟩
theorem e11 : cfn Tryd.prog Tryd.f11 = some c11 := by kernel_rfl
theorem k11 : callable Tryd.prog 11 = true := by kernel_rfl
def c12 : VFn := ⟨15,.seq (.reg .false [⟨.some 2,.mov (.c (.str [])),.none⟩,⟨.some 3,.mov (.c (.int .i64 0)),.none⟩]) (.seq (.seq (.reg .false [⟨.some 6,.mov (.t 0),.none⟩,⟨.some 7,.call (.c (.fn 5 [])) [.t 6],.none⟩,⟨.some 8,.not (.t 7),.none⟩]) (.cond (.t 8) (.seq (.reg .false [⟨.some 2,.mov (.c (.str [])),.none⟩,⟨.some 3,.mov (.c (.int .i64 4)),.none⟩]) .ret) .skip)) (.seq (.reg .false [⟨.some 4,.alloc 70 2 (.agg [.nilp,.nils]),.none⟩]) (.seq (.reg .false [⟨.some 5,.alloc 71 1 .nilfn,.none⟩]) (.seq (.reg .false [⟨.some 9,.mkfn 30 [.t 4,.t 5],.none⟩,⟨.none,.store 1 (.t 5) (.t 9),.none⟩]) (.seq (.reg .false [⟨.some 10,.load .false 1 (.t 5),.none⟩,⟨.some 11,.mov (.t 0),.none⟩,⟨.some 12,.call (.t 10) [.t 11,.c (.str [10])],.none⟩]) (.seq (.reg .false [⟨.some 13,.fldA .true 0 2 (.t 4),.none⟩,⟨.some 14,.call (.c (.fn 35 [])) [.t 13],.none⟩,⟨.some 2,.mov (.t 14),.none⟩,⟨.some 3,.mov (.c (.int .i64 0)),.none⟩]) .ret)))))),[.tmp (.t 2),.tmp (.t 3)]⟩
theorem e12 : cfn Tryd.prog Tryd.f12 = some c12 := by kernel_rfl
theorem k12 : callable Tryd.prog 12 = true := by kernel_rfl
def c13 : VFn := ⟨136,.seq (.reg .false [⟨.some 1,.box 42 20 (.t 0),.none⟩,⟨.some 2,.mov (.c (.bool .false)),.none⟩]) (.seq (.reg .false [⟨.some 6,.build [.int .i64 0,.int .i64 0] [(0,(1,(.c (.int .i64 1)))),(1,(1,(.c (.int .i64 1099511627776))))],.none⟩,⟨.some 3,.alloc 81 2 (.agg [.int .i64 0,.int .i64 0]),.none⟩,⟨.none,.store 2 (.t 3) (.t 6),.none⟩]) (.seq (.reg .false [⟨.some 7,.fldA .true 2 12 (.t 1),.none⟩,⟨.some 8,.load .true 12 (.t 7),.none⟩,⟨.some 9,.build [.int .i64 0,.int .i64 0,.int .i64 0,.int .i64 0,.int .i64 0,.int .i64 0,.int .i64 0,.int .i64 0,.int .i64 0,.int .i64 0,.int .i64 0,.int .i64 0] [],.none⟩,⟨.some 10,.eqS .false [0,0,0,0,0,0,0,0,0,0,0,0] (.t 8) (.t 9),.none⟩,⟨.some 4,.mov (.t 10),.none⟩]) (.seq (.reg .false [⟨.some 11,.fldA .false 14 1 (.t 1),.none⟩,⟨.some 12,.load .false 1 (.t 11),.none⟩,⟨.some 13,.bin .eql (.t 12) (.c (.int .i64 0)),.none⟩,⟨.some 14,.mov (.t 13),.none⟩,⟨.some 15,.fldA .false 15 1 (.t 1),.some ((.t 14),.true)⟩,⟨.some 16,.load .false 1 (.t 15),.some ((.t 14),.true)⟩,⟨.some 17,.bin .eql (.t 16) (.c (.int .i64 0)),.some ((.t 14),.true)⟩,⟨.some 18,.pick (.t 14) (.t 17) (.c (.bool .false)),.none⟩,⟨.some 19,.mov (.t 18),.none⟩,⟨.some 20,.fldA .false 16 1 (.t 1),.some ((.t 19),.true)⟩,⟨.some 21,.load .false 1 (.t 20),.some ((.t 19),.true)⟩,⟨.some 22,.len .false (.t 21),.some ((.t 19),.true)⟩,⟨.some 23,.bin .eql (.t 22) (.c (.int .i64 0)),.some ((.t 19),.true)⟩,⟨.some 24,.pick (.t 19) (.t 23) (.c (.bool .false)),.none⟩,⟨.some 5,.mov (.t 24),.none⟩]) (.seq (.seq (.reg .false [⟨.some 25,.fldA .false 0 1 (.t 1),.none⟩,⟨.some 26,.load .false 1 (.t 25),.none⟩]) (.block 0 (.seq (.reg .false [⟨.some 28,.bin .eql (.t 26) (.c (.int .i64 1)),.none⟩,⟨.some 27,.mov (.t 28),.none⟩]) (.cond (.t 27) (.seq (.reg .false [⟨.some 29,.mov (.t 5),.none⟩,⟨.some 30,.mov (.t 29),.none⟩,⟨.some 31,.fldA .false 18 1 (.t 1),.some ((.t 30),.true)⟩,⟨.some 32,.load .false 1 (.t 31),.some ((.t 30),.true)⟩,⟨.some 33,.bin .eql (.t 32) (.c (.int .i64 0)),.some ((.t 30),.true)⟩,⟨.some 34,.pick (.t 30) (.t 33) (.c (.bool .false)),.none⟩,⟨.some 35,.mov (.t 34),.none⟩,⟨.some 36,.fldA .false 19 1 (.t 1),.some ((.t 35),.true)⟩,⟨.some 37,.load .false 1 (.t 36),.some ((.t 35),.true)⟩,⟨.some 38,.bin .eql (.t 37) (.c (.int .i64 0)),.some ((.t 35),.true)⟩,⟨.some 39,.pick (.t 35) (.t 38) (.c (.bool .false)),.none⟩,⟨.some 40,.mov (.t 39),.none⟩,⟨.some 41,.fldA .false 17 1 (.t 1),.some ((.t 40),.true)⟩,⟨.some 42,.load .false 1 (.t 41),.some ((.t 40),.true)⟩,⟨.some 43,.bin .eql (.t 42) (.c (.int .i64 0)),.some ((.t 40),.true)⟩,⟨.some 44,.pick (.t 40) (.t 43) (.c (.bool .false)),.none⟩,⟨.some 45,.mov (.t 44),.none⟩,⟨.some 46,.fldA .true 2 12 (.t 1),.some ((.t 45),.true)⟩,⟨.some 47,.load .true 12 (.t 46),.some ((.t 45),.true)⟩,⟨.some 48,.call (.c (.fn 36 [])) [.t 47],.some ((.t 45),.true)⟩,⟨.some 49,.pick (.t 45) (.t 48) (.c (.bool .false)),.none⟩,⟨.some 2,.mov (.t 49),.none⟩]) .ret) (.seq (.reg .false [⟨.some 51,.bin .eql (.t 26) (.c (.int .i64 2)),.none⟩,⟨.some 50,.mov (.t 51),.none⟩]) (.cond (.t 50) (.seq (.reg .false [⟨.some 52,.mov (.t 4),.none⟩,⟨.some 53,.mov (.t 52),.none⟩,⟨.some 54,.fldA .false 18 1 (.t 1),.some ((.t 53),.true)⟩,⟨.some 55,.load .false 1 (.t 54),.some ((.t 53),.true)⟩,⟨.some 56,.bin .eql (.t 55) (.c (.int .i64 0)),.some ((.t 53),.true)⟩,⟨.some 57,.pick (.t 53) (.t 56) (.c (.bool .false)),.none⟩,⟨.some 58,.mov (.t 57),.none⟩,⟨.some 59,.fldA .false 19 1 (.t 1),.some ((.t 58),.true)⟩,⟨.some 60,.load .false 1 (.t 59),.some ((.t 58),.true)⟩,⟨.some 61,.bin .eql (.t 60) (.c (.int .i64 0)),.some ((.t 58),.true)⟩,⟨.some 62,.pick (.t 58) (.t 61) (.c (.bool .false)),.none⟩,⟨.some 63,.mov (.t 62),.none⟩,⟨.some 64,.fldA .false 17 1 (.t 1),.some ((.t 63),.true)⟩,⟨.some 65,.load .false 1 (.t 64),.some ((.t 63),.true)⟩,⟨.some 66,.bin .eql (.t 65) (.c (.int .i64 0)),.some ((.t 63),.true)⟩,⟨.some 67,.pick (.t 63) (.t 66) (.c (.bool .false)),.none⟩,⟨.some 68,.mov (.t 67),.none⟩,⟨.some 69,.load .true 2 (.t 3),.some ((.t 68),.true)⟩,⟨.some 70,.fldA .false 14 1 (.t 1),.some ((.t 68),.true)⟩,⟨.some 71,.load .false 1 (.t 70),.some ((.t 68),.true)⟩,⟨.some 72,.bslice 3 1 [.t 71],.some ((.t 68),.true)⟩,⟨.some 73,.call (.c (.fn 37 [])) [.t 69,.t 72],.some ((.t 68),.true)⟩,⟨.some 74,.pick (.t 68) (.t 73) (.c (.bool .false)),.none⟩,⟨.some 75,.mov (.t 74),.none⟩,⟨.some 76,.load .true 2 (.t 3),.some ((.t 75),.true)⟩,⟨.some 77,.fldA .false 16 1 (.t 1),.some ((.t 75),.true)⟩,⟨.some 78,.load .false 1 (.t 77),.some ((.t 75),.true)⟩,⟨.some 79,.call (.c (.fn 37 [])) [.t 76,.t 78],.some ((.t 75),.true)⟩,⟨.some 80,.pick (.t 75) (.t 79) (.c (.bool .false)),.none⟩,⟨.some 81,.mov (.t 80),.none⟩,⟨.some 82,.build [.int .i64 0,.int .i64 0] [(0,(1,(.c (.int .i64 0)))),(1,(1,(.c (.int .i64 1099511627776))))],.some ((.t 81),.true)⟩,⟨.some 83,.fldA .false 15 1 (.t 1),.some ((.t 81),.true)⟩,⟨.some 84,.load .false 1 (.t 83),.some ((.t 81),.true)⟩,⟨.some 85,.bslice 3 1 [.t 84],.some ((.t 81),.true)⟩,⟨.some 86,.call (.c (.fn 37 [])) [.t 82,.t 85],.some ((.t 81),.true)⟩,⟨.some 87,.pick (.t 81) (.t 86) (.c (.bool .false)),.none⟩,⟨.some 88,.mov (.t 87),.none⟩,⟨.some 89,.fldA .false 16 1 (.t 1),.some ((.t 88),.true)⟩,⟨.some 90,.load .false 1 (.t 89),.some ((.t 88),.true)⟩,⟨.some 91,.len .false (.t 90),.some ((.t 88),.true)⟩,⟨.some 92,.bin .gtr (.t 91) (.c (.int .i64 0)),.some ((.t 88),.true)⟩,⟨.some 93,.pick (.t 88) (.t 92) (.c (.bool .false)),.none⟩,⟨.some 2,.mov (.t 93),.none⟩]) .ret) (.seq (.reg .false [⟨.some 95,.bin .eql (.t 26) (.c (.int .i64 3)),.none⟩,⟨.some 94,.mov (.t 95),.none⟩]) (.cond (.t 94) (.seq (.reg .false [⟨.some 96,.mov (.t 4),.none⟩,⟨.some 97,.mov (.t 96),.none⟩,⟨.some 98,.mov (.t 5),.some ((.t 97),.true)⟩,⟨.some 99,.pick (.t 97) (.t 98) (.c (.bool .false)),.none⟩,⟨.some 100,.mov (.t 99),.none⟩,⟨.some 101,.fldA .false 17 1 (.t 1),.some ((.t 100),.true)⟩,⟨.some 102,.load .false 1 (.t 101),.some ((.t 100),.true)⟩,⟨.some 103,.bin .eql (.t 102) (.c (.int .i64 0)),.some ((.t 100),.true)⟩,⟨.some 104,.pick (.t 100) (.t 103) (.c (.bool .false)),.none⟩,⟨.some 105,.mov (.t 104),.none⟩,⟨.some 106,.load .true 2 (.t 3),.some ((.t 105),.true)⟩,⟨.some 107,.fldA .false 18 1 (.t 1),.some ((.t 105),.true)⟩,⟨.some 108,.load .false 1 (.t 107),.some ((.t 105),.true)⟩,⟨.some 109,.fldA .false 19 1 (.t 1),.some ((.t 105),.true)⟩,⟨.some 110,.load .false 1 (.t 109),.some ((.t 105),.true)⟩,⟨.some 111,.bslice 3 1 [.t 108,.t 110],.some ((.t 105),.true)⟩,⟨.some 112,.call (.c (.fn 37 [])) [.t 106,.t 111],.some ((.t 105),.true)⟩,⟨.some 113,.pick (.t 105) (.t 112) (.c (.bool .false)),.none⟩,⟨.some 2,.mov (.t 113),.none⟩]) .ret) (.seq (.reg .false [⟨.some 115,.bin .eql (.t 26) (.c (.int .i64 4)),.none⟩,⟨.some 114,.mov (.t 115),.none⟩]) (.cond (.t 114) (.seq (.reg .false [⟨.some 116,.mov (.t 4),.none⟩,⟨.some 117,.mov (.t 116),.none⟩,⟨.some 118,.mov (.t 5),.some ((.t 117),.true)⟩,⟨.some 119,.pick (.t 117) (.t 118) (.c (.bool .false)),.none⟩,⟨.some 120,.mov (.t 119),.none⟩,⟨.some 121,.load .true 2 (.t 3),.some ((.t 120),.true)⟩,⟨.some 122,.fldA .false 18 1 (.t 1),.some ((.t 120),.true)⟩,⟨.some 123,.load .false 1 (.t 122),.some ((.t 120),.true)⟩,⟨.some 124,.fldA .false 19 1 (.t 1),.some ((.t 120),.true)⟩,⟨.some 125,.load .false 1 (.t 124),.some ((.t 120),.true)⟩,⟨.some 126,.bslice 3 1 [.t 123,.t 125],.some ((.t 120),.true)⟩,⟨.some 127,.call (.c (.fn 37 [])) [.t 121,.t 126],.some ((.t 120),.true)⟩,⟨.some 128,.pick (.t 120) (.t 127) (.c (.bool .false)),.none⟩,⟨.some 129,.mov (.t 128),.none⟩,⟨.some 130,.build [.int .i64 0,.int .i64 0] [(0,(1,(.c (.int .i64 1)))),(1,(1,(.c (.int .i64 2))))],.some ((.t 129),.true)⟩,⟨.some 131,.fldA .false 17 1 (.t 1),.some ((.t 129),.true)⟩,⟨.some 132,.load .false 1 (.t 131),.some ((.t 129),.true)⟩,⟨.some 133,.bslice 3 1 [.t 132],.some ((.t 129),.true)⟩,⟨.some 134,.call (.c (.fn 37 [])) [.t 130,.t 133],.some ((.t 129),.true)⟩,⟨.some 135,.pick (.t 129) (.t 134) (.c (.bool .false)),.none⟩,⟨.some 2,.mov (.t 135),.none⟩]) .ret) .skip)))))))))) (.seq (.reg .false [⟨.some 2,.mov (.c (.bool .false)),.none⟩]) .ret))))),[.tmp (.t 2)]⟩
theorem e13 : cfn Tryd.prog Tryd.f13 = some c13 := by kernel_rfl
theorem k13 : callable Tryd.prog 13 = true := by kernel_rfl
def c14 : VFn := ⟨13,.seq (.reg .false [⟨.some 2,.mov (.c .nils),.none⟩]) (.seq (.reg .false [⟨.some 7,.mov (.t 0),.none⟩,⟨.some 8,.call (.c (.fn 38 [])) [.t 7],.none⟩,⟨.some 6,.mov (.t 8),.none⟩,⟨.some 9,.ext 0 (.t 6),.none⟩,⟨.some 10,.ext 1 (.t 6),.none⟩,⟨.some 11,.ext 2 (.t 6),.none⟩,⟨.some 3,.mov (.t 9),.none⟩,⟨.some 4,.mov (.t 10),.none⟩,⟨.some 5,.mov (.t 11),.none⟩]) (.seq (.reg .false [⟨.some 12,.mov (.t 3),.none⟩,⟨.some 2,.mov (.t 12),.none⟩]) .ret)),[.tmp (.t 2)]⟩
theorem e14 : cfn Tryd.prog Tryd.f14 = some c14 := by kernel_rfl
theorem k14 : callable Tryd.prog 14 = true := by kernel_rfl
def c15 : VFn := ⟨15,.seq (.reg .false [⟨.some 8,.alloc 26 17 (.agg [.int .i64 0,.int .i64 0,.int .i64 0,.int .i64 0,.nils,.int .i64 0,.int .i64 0,.int .i64 0,.int .i64 0,.int .i64 0,.int .i64 0,.int .i64 0,.int .i64 0,.int .i64 0,.int .i64 0,.int .i64 0,.int .i64 0]),.none⟩]) (.seq (.reg .false [⟨.some 9,.mov (.t 0),.none⟩,⟨.some 10,.mov (.t 1),.none⟩,⟨.some 11,.mov (.t 2),.none⟩,⟨.some 12,.mov (.t 3),.none⟩,⟨.some 13,.call (.c (.fn 14 [])) [.t 12],.none⟩,⟨.some 14,.build [.int .i64 0,.int .i64 0,.int .i64 0,.int .i64 0,.nils,.int .i64 0,.int .i64 0,.int .i64 0,.int .i64 0,.int .i64 0,.int .i64 0,.int .i64 0,.int .i64 0,.int .i64 0,.int .i64 0,.int .i64 0,.int .i64 0] [(0,(1,(.c (.int .i64 1)))),(1,(1,(.t 9))),(2,(1,(.t 10))),(3,(1,(.t 11))),(4,(1,(.t 13)))],.none⟩,⟨.none,.store 17 (.t 8) (.t 14),.none⟩]) .ret),[.cell .true 17 (.t 8)]⟩
theorem e15 : cfn Tryd.prog Tryd.f15 = some c15 := by kernel_rfl
theorem k15 : callable Tryd.prog 15 = true := by kernel_rfl
def c16 : VFn := ⟨24,.seq (.reg .false [⟨.some 4,.box 26 17 (.t 1),.none⟩,⟨.some 6,.mov (.c (.bool .false)),.none⟩]) (.seq (.reg .true [⟨.some 10,.mov (.t 0),.none⟩,⟨.some 11,.call (.c (.fn 14 [])) [.t 10],.none⟩,⟨.some 12,.load .true 17 (.t 4),.none⟩,⟨.some 13,.call (.c (.fn 8 [])) [.t 11,.t 12],.none⟩,⟨.some 9,.mov (.t 13),.none⟩,⟨.some 14,.ext 0 (.t 9),.none⟩,⟨.some 15,.ext 1 (.t 9),.none⟩,⟨.some 7,.mov (.t 14),.none⟩,⟨.some 8,.mov (.t 15),.none⟩]) (.seq (.reg .false [⟨.some 16,.mov (.t 8),.none⟩,⟨.some 17,.bin .eql (.t 16) (.c (.int .i64 0)),.none⟩,⟨.some 18,.mov (.t 17),.none⟩,⟨.some 19,.mov (.t 7),.some ((.t 18),.true)⟩,⟨.some 20,.mov (.t 2),.some ((.t 18),.true)⟩,⟨.some 21,.call (.c (.fn 14 [])) [.t 20],.some ((.t 18),.true)⟩,⟨.some 22,.call (.c (.fn 10 [])) [.t 19,.t 21],.some ((.t 18),.true)⟩,⟨.some 23,.pick (.t 18) (.t 22) (.c (.bool .false)),.none⟩,⟨.some 6,.mov (.t 23),.none⟩]) .ret)),[.tmp (.t 6)]⟩
theorem e16 : cfn Tryd.prog Tryd.f16 = some c16 := by kernel_rfl
theorem k16 : callable Tryd.prog 16 = true := by kernel_rfl
def c17 : VFn := ⟨34,.seq (.reg .false [⟨.some 3,.box 26 17 (.t 1),.none⟩,⟨.some 4,.mov (.c (.bool .false)),.none⟩]) (.seq (.reg .true [⟨.some 10,.mov (.t 0),.none⟩,⟨.some 11,.call (.c (.fn 14 [])) [.t 10],.none⟩,⟨.some 12,.load .true 17 (.t 3),.none⟩,⟨.some 13,.call (.c (.fn 8 [])) [.t 11,.t 12],.none⟩,⟨.some 9,.mov (.t 13),.none⟩,⟨.some 14,.ext 0 (.t 9),.none⟩,⟨.some 15,.ext 1 (.t 9),.none⟩,⟨.some 5,.mov (.t 14),.none⟩,⟨.some 6,.mov (.t 15),.none⟩]) (.seq (.reg .true [⟨.some 17,.mov (.t 0),.none⟩,⟨.some 18,.call (.c (.fn 14 [])) [.t 17],.none⟩,⟨.some 19,.load .true 17 (.t 3),.none⟩,⟨.some 20,.call (.c (.fn 9 [])) [.t 18,.t 19],.none⟩,⟨.some 16,.mov (.t 20),.none⟩,⟨.some 21,.ext 0 (.t 16),.none⟩,⟨.some 22,.ext 1 (.t 16),.none⟩,⟨.some 7,.alloc 26 17 (.agg [.int .i64 0,.int .i64 0,.int .i64 0,.int .i64 0,.nils,.int .i64 0,.int .i64 0,.int .i64 0,.int .i64 0,.int .i64 0,.int .i64 0,.int .i64 0,.int .i64 0,.int .i64 0,.int .i64 0,.int .i64 0,.int .i64 0]),.none⟩,⟨.none,.store 17 (.t 7) (.t 21),.none⟩,⟨.some 8,.mov (.t 22),.none⟩]) (.seq (.reg .false [⟨.some 23,.mov (.t 5),.none⟩,⟨.some 24,.len .false (.t 23),.none⟩,⟨.some 25,.bin .eql (.t 24) (.c (.int .i64 0)),.none⟩,⟨.some 26,.mov (.t 25),.none⟩,⟨.some 27,.mov (.t 6),.some ((.t 26),.true)⟩,⟨.some 28,.bin .eql (.t 27) (.c (.int .i64 4)),.some ((.t 26),.true)⟩,⟨.some 29,.pick (.t 26) (.t 28) (.c (.bool .false)),.none⟩,⟨.some 30,.mov (.t 29),.none⟩,⟨.some 31,.mov (.t 8),.some ((.t 30),.true)⟩,⟨.some 32,.bin .eql (.t 31) (.c (.int .i64 4)),.some ((.t 30),.true)⟩,⟨.some 33,.pick (.t 30) (.t 32) (.c (.bool .false)),.none⟩,⟨.some 4,.mov (.t 33),.none⟩]) .ret))),[.tmp (.t 4)]⟩
theorem e17 : cfn Tryd.prog Tryd.f17 = some c17 := by kernel_rfl
theorem k17 : callable Tryd.prog 17 = true := by kernel_rfl
def c18 : VFn := ⟨2,.seq (.reg .false [⟨.some 0,.alloc 24 12 (.agg [.int .i64 0,.int .i64 0,.int .i64 0,.int .i64 0,.int .i64 0,.int .i64 0,.int .i64 0,.int .i64 0,.int .i64 0,.int .i64 0,.int .i64 0,.int .i64 0]),.none⟩]) (.seq (.reg .false [⟨.some 1,.build [.int .i64 0,.int .i64 0,.int .i64 0,.int .i64 0,.int .i64 0,.int .i64 0,.int .i64 0,.int .i64 0,.int .i64 0,.int .i64 0,.int .i64 0,.int .i64 0] [(5,(1,(.c (.int .i64 2)))),(6,(1,(.c (.int .i64 2))))],.none⟩,⟨.none,.store 12 (.t 0) (.t 1),.none⟩]) .ret),[.cell .true 12 (.t 0)]⟩
theorem e18 : cfn Tryd.prog Tryd.f18 = some c18 := by kernel_rfl
theorem k18 : callable Tryd.prog 18 = true := by kernel_rfl
def c19 : VFn := ⟨28,.seq (.reg .false [⟨.some 2,.mov (.c .nils),.none⟩]) (.seq (.reg .false [⟨.some 3,.mov (.c .nils),.none⟩]) (.seq (.seq (.reg .false [⟨.some 6,.mov (.t 0),.none⟩,⟨.some 7,.call (.c (.fn 39 [])) [.t 6,.c (.int .i64 (-1))],.none⟩,⟨.some 8,.len .false (.t 7),.none⟩,⟨.some 9,.mov (.c (.int .i64 0)),.none⟩]) (.block 0 (.loop (.seq (.reg .false [⟨.some 10,.bin .lss (.t 9) (.t 8),.none⟩]) (.seq (.cond (.t 10) .skip (.exit 0)) (.seq (.block 1 (.seq (.reg .false [⟨.some 11,.idxA 1 (.t 7) (.t 9),.none⟩,⟨.some 12,.load .false 1 (.t 11),.none⟩,⟨.some 5,.mov (.t 12),.none⟩]) (.reg .false [⟨.some 13,.mov (.t 3),.none⟩,⟨.some 14,.mov (.t 0),.none⟩,⟨.some 15,.mov (.t 5),.none⟩,⟨.some 16,.mov (.t 5),.none⟩,⟨.some 17,.mov (.t 0),.none⟩,⟨.some 18,.mov (.t 5),.none⟩,⟨.some 19,.idxA 20 (.t 17) (.t 18),.none⟩,⟨.some 20,.fldA .false 1 1 (.t 19),.none⟩,⟨.some 21,.load .false 1 (.t 20),.none⟩,⟨.some 22,.bin .add (.t 16) (.t 21),.none⟩,⟨.some 23,.slice 20 (.t 14) (.some (.t 15)) (.some (.t 22)) .none,.none⟩,⟨.some 24,.bslice 22 1 [.t 23],.none⟩,⟨.some 25,.append 22 1 24 (.t 13) (.t 24),.none⟩,⟨.some 3,.mov (.t 25),.none⟩]))) (.reg .false [⟨.some 26,.bin .add (.t 9) (.c (.int .i64 1)),.none⟩,⟨.some 9,.mov (.t 26),.none⟩]))))))) (.seq (.reg .false [⟨.some 27,.mov (.t 3),.none⟩,⟨.some 2,.mov (.t 27),.none⟩]) .ret))),[.tmp (.t 2)]⟩
theorem e19 : cfn Tryd.prog Tryd.f19 = some c19 := by kernel_rfl
theorem k19 : callable Tryd.prog 19 = true := by kernel_rfl
def c20 : VFn := ⟨29,.seq (.reg .false [⟨.some 6,.mov (.c (.int .i64 0)),.none⟩]) (.seq (.reg .false [⟨.some 7,.mov (.c (.int .i64 0)),.none⟩]) (.seq (.block 0 (.loop (.seq (.seq (.reg .false [⟨.some 8,.mov (.t 7),.none⟩,⟨.some 9,.mov (.t 0),.none⟩,⟨.some 10,.len .false (.t 9),.none⟩,⟨.some 11,.mov (.t 1),.none⟩,⟨.some 12,.len .false (.t 11),.none⟩,⟨.some 13,.minmax .false (.t 10) (.t 12),.none⟩,⟨.some 14,.bin .lss (.t 8) (.t 13),.none⟩,⟨.some 15,.mov (.t 14),.none⟩,⟨.some 16,.mov (.t 2),.some ((.t 15),.true)⟩,⟨.some 17,.mov (.t 0),.some ((.t 15),.true)⟩,⟨.some 18,.mov (.t 7),.some ((.t 15),.true)⟩,⟨.some 19,.call (.t 16) [.t 17,.t 18],.some ((.t 15),.true)⟩,⟨.some 20,.mov (.t 2),.some ((.t 15),.true)⟩,⟨.some 21,.mov (.t 1),.some ((.t 15),.true)⟩,⟨.some 22,.mov (.t 7),.some ((.t 15),.true)⟩,⟨.some 23,.call (.t 20) [.t 21,.t 22],.some ((.t 15),.true)⟩,⟨.some 24,.call (.c (.fn 29 [])) [.t 19,.t 23],.some ((.t 15),.true)⟩,⟨.some 25,.pick (.t 15) (.t 24) (.c (.bool .false)),.none⟩]) (.cond (.t 25) .skip (.exit 0))) (.block 1 (.reg .false [⟨.some 26,.mov (.t 7),.none⟩,⟨.some 27,.bin .add (.t 26) (.c (.int .i64 1)),.none⟩,⟨.some 7,.mov (.t 27),.none⟩]))))) (.seq (.reg .false [⟨.some 28,.mov (.t 7),.none⟩,⟨.some 6,.mov (.t 28),.none⟩]) .ret))),[.tmp (.t 6)]⟩
theorem e20 : cfn Tryd.prog Tryd.f20 = some c20 := by kernel_rfl
theorem k20 : callable Tryd.prog 20 = true := by kernel_rfl
def c21 : VFn := ⟨9,.seq (.reg .false [⟨.some 4,.mov (.c .nils),.none⟩]) (.seq (.reg .false [⟨.some 5,.mov (.t 0),.none⟩,⟨.some 6,.mov (.t 1),.none⟩,⟨.some 7,.idxA 1 (.t 5) (.t 6),.none⟩,⟨.some 8,.load .false 1 (.t 7),.none⟩,⟨.some 4,.mov (.t 8),.none⟩]) .ret),[.tmp (.t 4)]⟩
theorem e21 : cfn Tryd.prog Tryd.f21 = some c21 := by kernel_rfl
theorem k21 : callable Tryd.prog 21 = true := by kernel_rfl
def c22 : VFn := ⟨36,.seq (.reg .false [⟨.some 2,.mov (.c .nils),.none⟩]) (.seq (.reg .false [⟨.some 3,.mov (.c (.int .i64 0)),.none⟩]) (.seq (.seq (.reg .false [⟨.some 9,.mov (.t 0),.none⟩,⟨.some 10,.len .false (.t 9),.none⟩,⟨.some 11,.mov (.c (.int .i64 0)),.none⟩]) (.block 0 (.loop (.seq (.reg .false [⟨.some 12,.bin .lss (.t 11) (.t 10),.none⟩]) (.seq (.cond (.t 12) .skip (.exit 0)) (.seq (.block 1 (.seq (.reg .false [⟨.some 13,.idxA 1 (.t 9) (.t 11),.none⟩,⟨.some 14,.load .false 1 (.t 13),.none⟩,⟨.some 5,.mov (.t 14),.none⟩]) (.seq (.reg .false [⟨.some 15,.mov (.t 3),.none⟩,⟨.some 16,.mov (.t 5),.none⟩,⟨.some 17,.len .false (.t 16),.none⟩,⟨.some 18,.bin .add (.t 15) (.t 17),.none⟩,⟨.some 3,.mov (.t 18),.none⟩]) (.seq (.reg .false [⟨.some 19,.mov (.t 3),.none⟩,⟨.some 20,.bin .lss (.t 19) (.c (.int .i64 0)),.none⟩]) (.cond (.t 20) (.reg .false [⟨.some 21,.more (.mkI 9) [.c (.str [108,101,110,32,111,117,116,32,111,102,32,114,97,110,103,101])],.none⟩,⟨.none,.bad,.none⟩]) .skip))))) (.reg .false [⟨.some 22,.bin .add (.t 11) (.c (.int .i64 1)),.none⟩,⟨.some 11,.mov (.t 22),.none⟩]))))))) (.seq (.reg .false [⟨.some 23,.mov (.t 3),.none⟩,⟨.some 24,.call (.c (.fn 40 [])) [.c .nils,.t 23],.none⟩,⟨.some 6,.mov (.t 24),.none⟩]) (.seq (.seq (.reg .false [⟨.some 25,.mov (.t 0),.none⟩,⟨.some 26,.len .false (.t 25),.none⟩,⟨.some 27,.mov (.c (.int .i64 0)),.none⟩]) (.block 2 (.loop (.seq (.reg .false [⟨.some 28,.bin .lss (.t 27) (.t 26),.none⟩]) (.seq (.cond (.t 28) .skip (.exit 2)) (.seq (.block 3 (.seq (.reg .false [⟨.some 29,.idxA 1 (.t 25) (.t 27),.none⟩,⟨.some 30,.load .false 1 (.t 29),.none⟩,⟨.some 8,.mov (.t 30),.none⟩]) (.reg .false [⟨.some 31,.mov (.t 6),.none⟩,⟨.some 32,.mov (.t 8),.none⟩,⟨.some 33,.append 42 20 176 (.t 31) (.t 32),.none⟩,⟨.some 6,.mov (.t 33),.none⟩]))) (.reg .false [⟨.some 34,.bin .add (.t 27) (.c (.int .i64 1)),.none⟩,⟨.some 27,.mov (.t 34),.none⟩]))))))) (.seq (.reg .false [⟨.some 35,.mov (.t 6),.none⟩,⟨.some 2,.mov (.t 35),.none⟩]) .ret))))),[.tmp (.t 2)]⟩
theorem e22 : cfn Tryd.prog Tryd.f22 = some c22 := by kernel_rfl
theorem k22 : callable Tryd.prog 22 = true := by kernel_rfl
def c23 : VFn := ⟨13,.seq (.reg .false [⟨.some 4,.mov (.c .nils),.none⟩]) (.seq (.reg .false [⟨.some 5,.mov (.t 0),.none⟩,⟨.some 6,.mov (.t 0),.none⟩,⟨.some 7,.len .false (.t 6),.none⟩,⟨.some 8,.bin .sub (.t 7) (.c (.int .i64 1)),.none⟩,⟨.some 9,.mov (.t 1),.none⟩,⟨.some 10,.bin .sub (.t 8) (.t 9),.none⟩,⟨.some 11,.idxA 1 (.t 5) (.t 10),.none⟩,⟨.some 12,.load .false 1 (.t 11),.none⟩,⟨.some 4,.mov (.t 12),.none⟩]) .ret),[.tmp (.t 4)]⟩
theorem e23 : cfn Tryd.prog Tryd.f23 = some c23 := by kernel_rfl
theorem k23 : callable Tryd.prog 23 = true := by kernel_rfl
def c24 : VFn := ⟨24,.seq (.reg .false [⟨.some 2,.mov (.c .nils),.none⟩]) (.seq (.reg .false [⟨.some 5,.mov (.t 0),.none⟩,⟨.some 6,.call (.c (.fn 41 [])) [.t 5],.none⟩,⟨.some 3,.mov (.t 6),.none⟩]) (.seq (.seq (.reg .false [⟨.some 7,.mov (.t 3),.none⟩,⟨.some 8,.len .false (.t 7),.none⟩,⟨.some 9,.mov (.c (.int .i64 0)),.none⟩]) (.block 0 (.loop (.seq (.reg .false [⟨.some 10,.bin .lss (.t 9) (.t 8),.none⟩]) (.seq (.cond (.t 10) .skip (.exit 0)) (.seq (.block 1 (.seq (.reg .false [⟨.some 11,.mov (.t 9),.none⟩,⟨.some 4,.mov (.t 11),.none⟩]) (.reg .false [⟨.some 12,.mov (.t 3),.none⟩,⟨.some 13,.mov (.t 4),.none⟩,⟨.some 14,.mov (.t 3),.none⟩,⟨.some 15,.mov (.t 4),.none⟩,⟨.some 16,.idxA 20 (.t 14) (.t 15),.none⟩,⟨.some 17,.fldA .false 16 1 (.t 16),.none⟩,⟨.some 18,.load .false 1 (.t 17),.none⟩,⟨.some 19,.call (.c (.fn 42 [])) [.t 18],.none⟩,⟨.some 20,.idxA 20 (.t 12) (.t 13),.none⟩,⟨.some 21,.fldA .false 16 1 (.t 20),.none⟩,⟨.none,.store 1 (.t 21) (.t 19),.none⟩]))) (.reg .false [⟨.some 22,.bin .add (.t 9) (.c (.int .i64 1)),.none⟩,⟨.some 9,.mov (.t 22),.none⟩]))))))) (.seq (.reg .false [⟨.some 23,.mov (.t 3),.none⟩,⟨.some 2,.mov (.t 23),.none⟩]) .ret))),[.tmp (.t 2)]⟩
theorem e24 : cfn Tryd.prog Tryd.f24 = some c24 := by kernel_rfl
theorem k24 : callable Tryd.prog 24 = true := by kernel_rfl
def c25 : VFn := ⟨2,.seq (.reg .false [⟨.some 0,.alloc 57 3 (.agg [.nilfn,.nilfn,.nilfn]),.none⟩]) (.seq (.reg .false [⟨.some 1,.build [.nilfn,.nilfn,.nilfn] [(1,(1,(.c (.fn 43 [])))),(2,(1,(.c (.fn 44 []))))],.none⟩,⟨.none,.store 3 (.t 0) (.t 1),.none⟩]) .ret),[.cell .true 3 (.t 0)]⟩
theorem e25 : cfn Tryd.prog Tryd.f25 = some c25 := by kernel_rfl
theorem k25 : callable Tryd.prog 25 = true := by kernel_rfl
def c26 : VFn := ⟨55,.seq (.reg .false [⟨.some 1,.box 60 18 (.t 0),.none⟩,⟨.some 2,.mov (.c (.int .i64 0)),.none⟩,⟨.some 3,.mov (.c (.int .i64 0)),.none⟩,⟨.some 4,.mov (.c (.bool .false)),.none⟩]) (.seq (.seq (.reg .false [⟨.some 7,.fldA .true 0 17 (.t 1),.none⟩,⟨.some 8,.fldA .false 1 1 (.t 7),.none⟩,⟨.some 9,.load .false 1 (.t 8),.none⟩,⟨.some 10,.bin .neq (.t 9) (.c (.int .i64 (-1))),.none⟩,⟨.some 11,.mov (.t 10),.none⟩,⟨.some 12,.load .true 18 (.t 1),.some ((.t 11),.true)⟩,⟨.some 13,.fldA .true 0 17 (.t 1),.some ((.t 11),.true)⟩,⟨.some 14,.fldA .false 1 1 (.t 13),.some ((.t 11),.true)⟩,⟨.some 15,.load .false 1 (.t 14),.some ((.t 11),.true)⟩,⟨.some 16,.call (.c (.fn 45 [])) [.t 12,.t 15],.some ((.t 11),.true)⟩,⟨.some 17,.not (.t 16),.some ((.t 11),.true)⟩,⟨.some 18,.pick (.t 11) (.t 17) (.c (.bool .false)),.none⟩]) (.cond (.t 18) (.seq (.reg .false [⟨.some 2,.mov (.c (.int .i64 0)),.none⟩,⟨.some 3,.mov (.c (.int .i64 0)),.none⟩,⟨.some 4,.mov (.c (.bool .false)),.none⟩]) .ret) .skip)) (.seq (.reg .false [⟨.some 19,.load .true 18 (.t 1),.none⟩,⟨.some 20,.call (.c (.fn 46 [])) [.t 19],.none⟩,⟨.some 5,.mov (.t 20),.none⟩]) (.seq (.reg .false [⟨.some 21,.mov (.t 5),.none⟩,⟨.some 22,.fldA .true 0 17 (.t 1),.none⟩,⟨.some 23,.fldA .false 2 1 (.t 22),.none⟩,⟨.some 24,.load .false 1 (.t 23),.none⟩,⟨.some 25,.call (.c (.fn 47 [])) [.t 21,.t 24],.none⟩,⟨.some 6,.mov (.t 25),.none⟩]) (.seq (.seq (.reg .false [⟨.some 26,.mov (.t 6),.none⟩,⟨.some 27,.bin .lss (.t 26) (.c (.int .i64 0)),.none⟩,⟨.some 28,.mov (.t 27),.none⟩,⟨.some 29,.fldA .true 0 17 (.t 1),.some ((.t 28),.false)⟩,⟨.some 30,.fldA .false 3 1 (.t 29),.some ((.t 28),.false)⟩,⟨.some 31,.load .false 1 (.t 30),.some ((.t 28),.false)⟩,⟨.some 32,.bin .lss (.t 31) (.c (.int .i64 0)),.some ((.t 28),.false)⟩,⟨.some 33,.pick (.t 28) (.c (.bool .true)) (.t 32),.none⟩,⟨.some 34,.mov (.t 33),.none⟩,⟨.some 35,.fldA .true 0 17 (.t 1),.some ((.t 34),.false)⟩,⟨.some 36,.fldA .false 3 1 (.t 35),.some ((.t 34),.false)⟩,⟨.some 37,.load .false 1 (.t 36),.some ((.t 34),.false)⟩,⟨.some 38,.mov (.t 5),.some ((.t 34),.false)⟩,⟨.some 39,.len .false (.t 38),.some ((.t 34),.false)⟩,⟨.some 40,.mov (.t 6),.some ((.t 34),.false)⟩,⟨.some 41,.bin .sub (.t 39) (.t 40),.some ((.t 34),.false)⟩,⟨.some 42,.bin .geq (.t 37) (.t 41),.some ((.t 34),.false)⟩,⟨.some 43,.pick (.t 34) (.c (.bool .true)) (.t 42),.none⟩]) (.cond (.t 43) (.seq (.reg .false [⟨.some 2,.mov (.c (.int .i64 0)),.none⟩,⟨.some 3,.mov (.c (.int .i64 0)),.none⟩,⟨.some 4,.mov (.c (.bool .false)),.none⟩]) .ret) .skip)) (.seq (.reg .true [⟨.some 44,.fldA .true 0 17 (.t 1),.none⟩,⟨.some 45,.fldA .false 2 1 (.t 44),.none⟩,⟨.some 46,.load .false 1 (.t 45),.none⟩,⟨.some 47,.mov (.t 5),.none⟩,⟨.some 48,.mov (.t 6),.none⟩,⟨.some 49,.fldA .true 0 17 (.t 1),.none⟩,⟨.some 50,.fldA .false 3 1 (.t 49),.none⟩,⟨.some 51,.load .false 1 (.t 50),.none⟩,⟨.some 52,.bin .add (.t 48) (.t 51),.none⟩,⟨.some 53,.idxA 1 (.t 47) (.t 52),.none⟩,⟨.some 54,.load .false 1 (.t 53),.none⟩,⟨.some 2,.mov (.t 46),.none⟩,⟨.some 3,.mov (.t 54),.none⟩,⟨.some 4,.mov (.c (.bool .true)),.none⟩]) .ret))))),[.tmp (.t 2),.tmp (.t 3),.tmp (.t 4)]⟩
theorem e26 : cfn Tryd.prog Tryd.f26 = some c26 := by kernel_rfl
theorem k26 : callable Tryd.prog 26 = true := by kernel_rfl
def c27 : VFn := ⟨6,.seq (.reg .false [⟨.some 2,.mov (.c (.int .i64 0)),.none⟩]) (.seq (.reg .false [⟨.some 3,.mov (.t 0),.none⟩,⟨.some 4,.call (.c (.fn 39 [])) [.t 3,.c (.int .i64 (-1))],.none⟩,⟨.some 5,.len .false (.t 4),.none⟩,⟨.some 2,.mov (.t 5),.none⟩]) .ret),[.tmp (.t 2)]⟩
theorem e27 : cfn Tryd.prog Tryd.f27 = some c27 := by kernel_rfl
theorem k27 : callable Tryd.prog 27 = true := by kernel_rfl
def c28 : VFn := ⟨87,.seq (.reg .false [⟨.some 2,.box 42 20 (.t 0),.none⟩,⟨.some 3,.box 42 20 (.t 1),.none⟩,⟨.some 4,.mov (.c (.bool .false)),.none⟩]) (.seq (.seq (.reg .false [⟨.some 6,.fldA .false 0 1 (.t 2),.none⟩,⟨.some 7,.load .false 1 (.t 6),.none⟩,⟨.some 8,.fldA .false 0 1 (.t 3),.none⟩,⟨.some 9,.load .false 1 (.t 8),.none⟩,⟨.some 10,.bin .neq (.t 7) (.t 9),.none⟩,⟨.some 11,.mov (.t 10),.none⟩,⟨.some 12,.fldA .false 1 1 (.t 2),.some ((.t 11),.false)⟩,⟨.some 13,.load .false 1 (.t 12),.some ((.t 11),.false)⟩,⟨.some 14,.fldA .false 1 1 (.t 3),.some ((.t 11),.false)⟩,⟨.some 15,.load .false 1 (.t 14),.some ((.t 11),.false)⟩,⟨.some 16,.bin .neq (.t 13) (.t 15),.some ((.t 11),.false)⟩,⟨.some 17,.pick (.t 11) (.c (.bool .true)) (.t 16),.none⟩,⟨.some 18,.mov (.t 17),.none⟩,⟨.some 19,.fldA .true 2 12 (.t 2),.some ((.t 18),.false)⟩,⟨.some 20,.load .true 12 (.t 19),.some ((.t 18),.false)⟩,⟨.some 21,.fldA .true 2 12 (.t 3),.some ((.t 18),.false)⟩,⟨.some 22,.load .true 12 (.t 21),.some ((.t 18),.false)⟩,⟨.some 23,.eqS .true [0,0,0,0,0,0,0,0,0,0,0,0] (.t 20) (.t 22),.some ((.t 18),.false)⟩,⟨.some 24,.pick (.t 18) (.c (.bool .true)) (.t 23),.none⟩,⟨.some 25,.mov (.t 24),.none⟩,⟨.some 26,.fldA .false 14 1 (.t 2),.some ((.t 25),.false)⟩,⟨.some 27,.load .false 1 (.t 26),.some ((.t 25),.false)⟩,⟨.some 28,.fldA .false 14 1 (.t 3),.some ((.t 25),.false)⟩,⟨.some 29,.load .false 1 (.t 28),.some ((.t 25),.false)⟩,⟨.some 30,.bin .neq (.t 27) (.t 29),.some ((.t 25),.false)⟩,⟨.some 31,.pick (.t 25) (.c (.bool .true)) (.t 30),.none⟩,⟨.some 32,.mov (.t 31),.none⟩,⟨.some 33,.fldA .false 15 1 (.t 2),.some ((.t 32),.false)⟩,⟨.some 34,.load .false 1 (.t 33),.some ((.t 32),.false)⟩,⟨.some 35,.fldA .false 15 1 (.t 3),.some ((.t 32),.false)⟩,⟨.some 36,.load .false 1 (.t 35),.some ((.t 32),.false)⟩,⟨.some 37,.bin .neq (.t 34) (.t 36),.some ((.t 32),.false)⟩,⟨.some 38,.pick (.t 32) (.c (.bool .true)) (.t 37),.none⟩,⟨.some 39,.mov (.t 38),.none⟩,⟨.some 40,.fldA .false 17 1 (.t 2),.some ((.t 39),.false)⟩,⟨.some 41,.load .false 1 (.t 40),.some ((.t 39),.false)⟩,⟨.some 42,.fldA .false 17 1 (.t 3),.some ((.t 39),.false)⟩,⟨.some 43,.load .false 1 (.t 42),.some ((.t 39),.false)⟩,⟨.some 44,.bin .neq (.t 41) (.t 43),.some ((.t 39),.false)⟩,⟨.some 45,.pick (.t 39) (.c (.bool .true)) (.t 44),.none⟩,⟨.some 46,.mov (.t 45),.none⟩,⟨.some 47,.fldA .false 18 1 (.t 2),.some ((.t 46),.false)⟩,⟨.some 48,.load .false 1 (.t 47),.some ((.t 46),.false)⟩,⟨.some 49,.fldA .false 18 1 (.t 3),.some ((.t 46),.false)⟩,⟨.some 50,.load .false 1 (.t 49),.some ((.t 46),.false)⟩,⟨.some 51,.bin .neq (.t 48) (.t 50),.some ((.t 46),.false)⟩,⟨.some 52,.pick (.t 46) (.c (.bool .true)) (.t 51),.none⟩,⟨.some 53,.mov (.t 52),.none⟩,⟨.some 54,.fldA .false 19 1 (.t 2),.some ((.t 53),.false)⟩,⟨.some 55,.load .false 1 (.t 54),.some ((.t 53),.false)⟩,⟨.some 56,.fldA .false 19 1 (.t 3),.some ((.t 53),.false)⟩,⟨.some 57,.load .false 1 (.t 56),.some ((.t 53),.false)⟩,⟨.some 58,.bin .neq (.t 55) (.t 57),.some ((.t 53),.false)⟩,⟨.some 59,.pick (.t 53) (.c (.bool .true)) (.t 58),.none⟩,⟨.some 60,.mov (.t 59),.none⟩,⟨.some 61,.fldA .false 16 1 (.t 2),.some ((.t 60),.false)⟩,⟨.some 62,.load .false 1 (.t 61),.some ((.t 60),.false)⟩,⟨.some 63,.len .false (.t 62),.some ((.t 60),.false)⟩,⟨.some 64,.fldA .false 16 1 (.t 3),.some ((.t 60),.false)⟩,⟨.some 65,.load .false 1 (.t 64),.some ((.t 60),.false)⟩,⟨.some 66,.len .false (.t 65),.some ((.t 60),.false)⟩,⟨.some 67,.bin .neq (.t 63) (.t 66),.some ((.t 60),.false)⟩,⟨.some 68,.pick (.t 60) (.c (.bool .true)) (.t 67),.none⟩]) (.cond (.t 68) (.seq (.reg .false [⟨.some 4,.mov (.c (.bool .false)),.none⟩]) .ret) .skip)) (.seq (.seq (.reg .false [⟨.some 5,.mov (.c (.int .i64 0)),.none⟩]) (.block 0 (.loop (.seq (.seq (.reg .false [⟨.some 69,.mov (.t 5),.none⟩,⟨.some 70,.fldA .false 16 1 (.t 2),.none⟩,⟨.some 71,.load .false 1 (.t 70),.none⟩,⟨.some 72,.len .false (.t 71),.none⟩,⟨.some 73,.bin .lss (.t 69) (.t 72),.none⟩]) (.cond (.t 73) .skip (.exit 0))) (.seq (.block 1 (.seq (.reg .true [⟨.some 76,.fldA .false 16 1 (.t 2),.none⟩,⟨.some 77,.load .false 1 (.t 76),.none⟩,⟨.some 78,.mov (.t 5),.none⟩,⟨.some 79,.idxA 1 (.t 77) (.t 78),.none⟩,⟨.some 80,.load .false 1 (.t 79),.none⟩,⟨.some 81,.fldA .false 16 1 (.t 3),.none⟩,⟨.some 82,.load .false 1 (.t 81),.none⟩,⟨.some 83,.mov (.t 5),.none⟩,⟨.some 84,.idxA 1 (.t 82) (.t 83),.none⟩,⟨.some 85,.load .false 1 (.t 84),.none⟩,⟨.some 86,.bin .neq (.t 80) (.t 85),.none⟩]) (.cond (.t 86) (.seq (.reg .false [⟨.some 4,.mov (.c (.bool .false)),.none⟩]) .ret) .skip))) (.reg .false [⟨.some 74,.mov (.t 5),.none⟩,⟨.some 75,.bin .add (.t 74) (.c (.int .i64 1)),.none⟩,⟨.some 5,.mov (.t 75),.none⟩])))))) (.seq (.reg .false [⟨.some 4,.mov (.c (.bool .true)),.none⟩]) .ret))),[.tmp (.t 4)]⟩
theorem e28 : cfn Tryd.prog Tryd.f28 = some c28 := by kernel_rfl
theorem k28 : callable Tryd.prog 28 = true := by kernel_rfl
def c29 : VFn := ⟨8,.seq (.reg .false [⟨.some 4,.mov (.c (.bool .false)),.none⟩]) (.seq (.reg .false [⟨.some 5,.mov (.t 0),.none⟩,⟨.some 6,.mov (.t 1),.none⟩,⟨.some 7,.call (.c (.fn 48 [])) [.t 5,.t 6,.c (.fn 49 [])],.none⟩,⟨.some 4,.mov (.t 7),.none⟩]) .ret),[.tmp (.t 4)]⟩
theorem e29 : cfn Tryd.prog Tryd.f29 = some c29 := by kernel_rfl
theorem k29 : callable Tryd.prog 29 = true := by kernel_rfl
def c30 : VFn := ⟨36,.block 0 (.loop (.seq (.seq (.reg .false [⟨.some 7,.mov (.t 0),.none⟩,⟨.some 8,.len .false (.t 7),.none⟩,⟨.some 9,.bin .gtr (.t 8) (.c (.int .i64 0)),.none⟩]) (.cond (.t 9) .skip (.exit 0))) (.block 1 (.seq (.reg .false [⟨.some 10,.mov (.t 0),.none⟩,⟨.some 11,.idxA 20 (.t 10) (.c (.int .i64 0)),.none⟩,⟨.some 12,.load .true 20 (.t 11),.none⟩,⟨.some 6,.alloc 42 20 (.agg [.int .i64 0,.int .i64 0,.int .i64 0,.int .i64 0,.int .i64 0,.int .i64 0,.int .i64 0,.int .i64 0,.int .i64 0,.int .i64 0,.int .i64 0,.int .i64 0,.int .i64 0,.int .i64 0,.int .i64 0,.int .i64 0,.nils,.int .i64 0,.int .i64 0,.int .i64 0]),.none⟩,⟨.none,.store 20 (.t 6) (.t 12),.none⟩]) (.seq (.seq (.reg .false [⟨.some 13,.fldA .false 0 1 (.t 6),.none⟩,⟨.some 14,.load .false 1 (.t 13),.none⟩,⟨.some 15,.bin .eql (.t 14) (.c (.int .i64 1)),.none⟩]) (.cond (.t 15) (.seq (.reg .false [⟨.some 16,.fldA .true 2 12 (.t 6),.none⟩,⟨.some 17,.load .true 12 (.t 16),.none⟩,⟨.some 18,.call (.c (.fn 31 [])) [.t 2,.t 17],.none⟩]) (.seq (.regL [⟨.some 19,.load .false 1 (.t 3),.none⟩,⟨.some 20,.mov (.t 0),.none⟩,⟨.some 21,.fldA .false 1 1 (.t 6),.none⟩,⟨.some 22,.load .false 1 (.t 21),.none⟩,⟨.some 23,.slice 20 (.t 20) (.some (.c (.int .i64 1))) (.some (.t 22)) .none,.none⟩] [⟨.some 24,.call (.t 19) [.t 23,.c (.str [])],.none⟩]) (.reg .false [⟨.some 25,.fldA .true 0 2 (.t 2),.none⟩,⟨.some 26,.call (.c (.fn 32 [])) [.t 25,.c (.int .u8 93)],.none⟩]))) (.reg .false [⟨.some 27,.load .true 20 (.t 6),.none⟩,⟨.some 28,.call (.c (.fn 33 [])) [.t 2,.t 27],.none⟩]))) (.seq (.reg .false [⟨.some 29,.fldA .true 0 2 (.t 2),.none⟩,⟨.some 30,.mov (.t 1),.none⟩,⟨.some 31,.call (.c (.fn 34 [])) [.t 29,.t 30],.none⟩]) (.reg .false [⟨.some 32,.mov (.t 0),.none⟩,⟨.some 33,.fldA .false 1 1 (.t 6),.none⟩,⟨.some 34,.load .false 1 (.t 33),.none⟩,⟨.some 35,.slice 20 (.t 32) (.some (.t 34)) .none .none,.none⟩,⟨.some 0,.mov (.t 35),.none⟩]))))))),[]⟩
theorem e30 : cfn Tryd.prog Tryd.f30 = some c30 := by kernel_rfl
theorem k30 : callable Tryd.prog 30 = true := by kernel_rfl
def c31 : VFn := ⟨32,.seq (.reg .false [⟨.some 3,.box 24 12 (.t 1),.none⟩]) (.seq (.reg .false [⟨.some 6,.mov (.t 0),.none⟩,⟨.some 7,.nilCheck (.t 6),.none⟩,⟨.some 8,.fldA .true 0 2 (.t 7),.none⟩,⟨.some 9,.call (.c (.fn 32 [])) [.t 8,.c (.int .u8 91)],.none⟩]) (.seq (.reg .false [⟨.some 10,.load .true 12 (.t 3),.none⟩,⟨.some 11,.call (.c (.fn 51 [])) [.t 10],.none⟩,⟨.some 12,.mov (.c (.int .i64 0)),.none⟩]) (.block 0 (.loop (.seq (.reg .false [⟨.some 13,.bin .lss (.t 12) (.c (.int .i64 12)),.none⟩]) (.seq (.cond (.t 13) .skip (.exit 0)) (.seq (.block 1 (.seq (.reg .false [⟨.some 14,.idxV .true 12 3 (.t 11) (.t 12),.none⟩,⟨.some 5,.alloc 97 3 (.agg [.int .u8 0,.int .i64 0,.int .i64 0]),.none⟩,⟨.none,.store 3 (.t 5) (.t 14),.none⟩]) (.seq (.reg .false [⟨.some 15,.fldA .false 1 1 (.t 5),.none⟩,⟨.some 16,.load .false 1 (.t 15),.none⟩,⟨.some 17,.fldA .false 2 1 (.t 5),.none⟩,⟨.some 18,.load .false 1 (.t 17),.none⟩,⟨.some 19,.bin .neq (.t 16) (.t 18),.none⟩]) (.cond (.t 19) (.seq (.regL [⟨.some 20,.mov (.t 0),.none⟩,⟨.some 21,.nilCheck (.t 20),.none⟩,⟨.some 22,.fldA .true 0 2 (.t 21),.none⟩,⟨.some 23,.fldA .false 0 1 (.t 5),.none⟩,⟨.some 24,.load .false 1 (.t 23),.none⟩] [⟨.some 25,.call (.c (.fn 32 [])) [.t 22,.t 24],.none⟩]) (.reg .false [⟨.some 26,.mov (.t 0),.none⟩,⟨.some 27,.fldA .false 1 1 (.t 5),.none⟩,⟨.some 28,.load .false 1 (.t 27),.none⟩,⟨.some 29,.bslice 3 1 [.t 28],.none⟩,⟨.some 30,.call (.c (.fn 52 [])) [.t 26,.t 29],.none⟩])) .skip)))) (.reg .false [⟨.some 31,.bin .add (.t 12) (.c (.int .i64 1)),.none⟩,⟨.some 12,.mov (.t 31),.none⟩])))))))),[]⟩
theorem e31 : cfn Tryd.prog Tryd.f31 = some c31 := by kernel_rfl
theorem k31 : callable Tryd.prog 31 = true := by kernel_rfl
def c32 : VFn := ⟨17,.seq (.reg .false [⟨.some 4,.mov (.c .niliface),.none⟩]) (.seq (.reg .false [⟨.some 5,.mov (.t 0),.none⟩,⟨.some 6,.call (.c (.fn 53 [])) [.t 5],.none⟩]) (.seq (.reg .false [⟨.some 7,.mov (.t 0),.none⟩,⟨.some 8,.mov (.t 0),.none⟩,⟨.some 9,.nilCheck (.t 8),.none⟩,⟨.some 10,.fldA .false 1 1 (.t 9),.none⟩,⟨.some 11,.load .false 1 (.t 10),.none⟩,⟨.some 12,.mov (.t 1),.none⟩,⟨.some 13,.bslice 5 1 [.t 12],.none⟩,⟨.some 14,.append 5 1 1 (.t 11) (.t 13),.none⟩,⟨.some 15,.nilCheck (.t 7),.none⟩,⟨.some 16,.fldA .false 1 1 (.t 15),.none⟩,⟨.none,.store 1 (.t 16) (.t 14),.none⟩]) (.seq (.reg .false [⟨.some 4,.mov (.c .niliface),.none⟩]) .ret))),[.tmp (.t 4)]⟩
theorem e32 : cfn Tryd.prog Tryd.f32 = some c32 := by kernel_rfl
theorem k32 : callable Tryd.prog 32 = true := by kernel_rfl
def c33 : VFn := ⟨65,.seq (.reg .false [⟨.some 3,.box 42 20 (.t 1),.none⟩]) (.seq (.reg .false [⟨.some 4,.fldA .false 0 1 (.t 3),.none⟩,⟨.some 5,.load .false 1 (.t 4),.none⟩]) (.block 0 (.seq (.reg .false [⟨.some 7,.bin .eql (.t 5) (.c (.int .i64 2)),.none⟩,⟨.some 6,.mov (.t 7),.none⟩]) (.cond (.t 6) (.seq (.reg .false [⟨.some 8,.mov (.t 0),.none⟩,⟨.some 9,.nilCheck (.t 8),.none⟩,⟨.some 10,.fldA .true 0 2 (.t 9),.none⟩,⟨.some 11,.call (.c (.fn 32 [])) [.t 10,.c (.int .u8 40)],.none⟩]) (.seq (.reg .false [⟨.some 12,.mov (.t 0),.none⟩,⟨.some 13,.fldA .false 14 1 (.t 3),.none⟩,⟨.some 14,.load .false 1 (.t 13),.none⟩,⟨.some 15,.fldA .false 15 1 (.t 3),.none⟩,⟨.some 16,.load .false 1 (.t 15),.none⟩,⟨.some 17,.bslice 3 1 [.t 14,.t 16],.none⟩,⟨.some 18,.fldA .false 16 1 (.t 3),.none⟩,⟨.some 19,.load .false 1 (.t 18),.none⟩,⟨.some 20,.append 3 1 8 (.t 17) (.t 19),.none⟩,⟨.some 21,.call (.c (.fn 52 [])) [.t 12,.t 20],.none⟩]) (.reg .false [⟨.some 22,.mov (.t 0),.none⟩,⟨.some 23,.nilCheck (.t 22),.none⟩,⟨.some 24,.fldA .true 0 2 (.t 23),.none⟩,⟨.some 25,.call (.c (.fn 32 [])) [.t 24,.c (.int .u8 41)],.none⟩]))) (.seq (.reg .false [⟨.some 27,.bin .eql (.t 5) (.c (.int .i64 3)),.none⟩,⟨.some 26,.mov (.t 27),.none⟩]) (.cond (.t 26) (.seq (.reg .false [⟨.some 28,.mov (.t 0),.none⟩,⟨.some 29,.nilCheck (.t 28),.none⟩,⟨.some 30,.fldA .true 0 2 (.t 29),.none⟩,⟨.some 31,.call (.c (.fn 32 [])) [.t 30,.c (.int .u8 123)],.none⟩]) (.seq (.reg .false [⟨.some 32,.mov (.t 0),.none⟩,⟨.some 33,.fldA .false 18 1 (.t 3),.none⟩,⟨.some 34,.load .false 1 (.t 33),.none⟩,⟨.some 35,.fldA .false 19 1 (.t 3),.none⟩,⟨.some 36,.load .false 1 (.t 35),.none⟩,⟨.some 37,.bslice 3 1 [.t 34,.t 36],.none⟩,⟨.some 38,.call (.c (.fn 52 [])) [.t 32,.t 37],.none⟩]) (.reg .false [⟨.some 39,.mov (.t 0),.none⟩,⟨.some 40,.nilCheck (.t 39),.none⟩,⟨.some 41,.fldA .true 0 2 (.t 40),.none⟩,⟨.some 42,.call (.c (.fn 32 [])) [.t 41,.c (.int .u8 125)],.none⟩]))) (.seq (.reg .false [⟨.some 44,.bin .eql (.t 5) (.c (.int .i64 4)),.none⟩,⟨.some 43,.mov (.t 44),.none⟩]) (.cond (.t 43) (.seq (.regL [⟨.some 45,.mov (.t 0),.none⟩,⟨.some 46,.nilCheck (.t 45),.none⟩,⟨.some 47,.fldA .true 0 2 (.t 46),.none⟩,⟨.some 48,.build [.str [],.str [],.str []] [(1,(1,(.c (.str [76])))),(2,(1,(.c (.str [82]))))],.none⟩,⟨.some 49,.fldA .false 17 1 (.t 3),.none⟩,⟨.some 50,.load .false 1 (.t 49),.none⟩,⟨.some 51,.idxV .false 3 1 (.t 48) (.t 50),.none⟩,⟨.some 52,.bin .add (.c (.str [60])) (.t 51),.none⟩] [⟨.some 53,.call (.c (.fn 34 [])) [.t 47,.t 52],.none⟩]) (.seq (.reg .false [⟨.some 54,.mov (.t 0),.none⟩,⟨.some 55,.fldA .false 18 1 (.t 3),.none⟩,⟨.some 56,.load .false 1 (.t 55),.none⟩,⟨.some 57,.fldA .false 19 1 (.t 3),.none⟩,⟨.some 58,.load .false 1 (.t 57),.none⟩,⟨.some 59,.bslice 3 1 [.t 56,.t 58],.none⟩,⟨.some 60,.call (.c (.fn 52 [])) [.t 54,.t 59],.none⟩]) (.reg .false [⟨.some 61,.mov (.t 0),.none⟩,⟨.some 62,.nilCheck (.t 61),.none⟩,⟨.some 63,.fldA .true 0 2 (.t 62),.none⟩,⟨.some 64,.call (.c (.fn 32 [])) [.t 63,.c (.int .u8 62)],.none⟩]))) .skip)))))))),[]⟩
theorem e33 : cfn Tryd.prog Tryd.f33 = some c33 := by kernel_rfl
theorem k33 : callable Tryd.prog 33 = true := by kernel_rfl
def c34 : VFn := ⟨19,.seq (.reg .false [⟨.some 4,.mov (.c (.int .i64 0)),.none⟩,⟨.some 5,.mov (.c .niliface),.none⟩]) (.seq (.reg .false [⟨.some 6,.mov (.t 0),.none⟩,⟨.some 7,.call (.c (.fn 53 [])) [.t 6],.none⟩]) (.seq (.reg .false [⟨.some 8,.mov (.t 0),.none⟩,⟨.some 9,.mov (.t 0),.none⟩,⟨.some 10,.nilCheck (.t 9),.none⟩,⟨.some 11,.fldA .false 1 1 (.t 10),.none⟩,⟨.some 12,.load .false 1 (.t 11),.none⟩,⟨.some 13,.mov (.t 1),.none⟩,⟨.some 14,.append 5 1 1 (.t 12) (.t 13),.none⟩,⟨.some 15,.nilCheck (.t 8),.none⟩,⟨.some 16,.fldA .false 1 1 (.t 15),.none⟩,⟨.none,.store 1 (.t 16) (.t 14),.none⟩]) (.seq (.reg .false [⟨.some 17,.mov (.t 1),.none⟩,⟨.some 18,.len .true (.t 17),.none⟩,⟨.some 4,.mov (.t 18),.none⟩,⟨.some 5,.mov (.c .niliface),.none⟩]) .ret))),[.tmp (.t 4),.tmp (.t 5)]⟩
theorem e34 : cfn Tryd.prog Tryd.f34 = some c34 := by kernel_rfl
theorem k34 : callable Tryd.prog 34 = true := by kernel_rfl
def c36 : VFn := ⟨56,.seq (.reg .false [⟨.some 1,.box 24 12 (.t 0),.none⟩,⟨.some 2,.mov (.c (.bool .false)),.none⟩]) (.seq (.reg .false [⟨.some 6,.build [.int .i64 0,.int .i64 0] [(0,(1,(.c (.int .i64 0)))),(1,(1,(.c (.int .i64 1099511627776))))],.none⟩,⟨.some 7,.build [.int .i64 0,.int .i64 0] [(0,(1,(.c (.int .i64 1)))),(1,(1,(.c (.int .i64 1099511627776))))],.none⟩,⟨.some 3,.alloc 81 2 (.agg [.int .i64 0,.int .i64 0]),.none⟩,⟨.some 4,.alloc 81 2 (.agg [.int .i64 0,.int .i64 0]),.none⟩,⟨.none,.store 2 (.t 3) (.t 6),.none⟩,⟨.none,.store 2 (.t 4) (.t 7),.none⟩]) (.seq (.reg .false [⟨.some 8,.load .true 2 (.t 3),.none⟩,⟨.some 9,.fldA .false 0 1 (.t 1),.none⟩,⟨.some 10,.load .false 1 (.t 9),.none⟩,⟨.some 11,.fldA .false 1 1 (.t 1),.none⟩,⟨.some 12,.load .false 1 (.t 11),.none⟩,⟨.some 13,.fldA .false 2 1 (.t 1),.none⟩,⟨.some 14,.load .false 1 (.t 13),.none⟩,⟨.some 15,.fldA .false 3 1 (.t 1),.none⟩,⟨.some 16,.load .false 1 (.t 15),.none⟩,⟨.some 17,.fldA .false 4 1 (.t 1),.none⟩,⟨.some 18,.load .false 1 (.t 17),.none⟩,⟨.some 19,.fldA .false 7 1 (.t 1),.none⟩,⟨.some 20,.load .false 1 (.t 19),.none⟩,⟨.some 21,.bslice 3 1 [.t 10,.t 12,.t 14,.t 16,.t 18,.t 20],.none⟩,⟨.some 22,.call (.c (.fn 37 [])) [.t 8,.t 21],.none⟩,⟨.some 23,.mov (.t 22),.none⟩,⟨.some 24,.load .true 2 (.t 4),.some ((.t 23),.true)⟩,⟨.some 25,.fldA .false 5 1 (.t 1),.some ((.t 23),.true)⟩,⟨.some 26,.load .false 1 (.t 25),.some ((.t 23),.true)⟩,⟨.some 27,.fldA .false 6 1 (.t 1),.some ((.t 23),.true)⟩,⟨.some 28,.load .false 1 (.t 27),.some ((.t 23),.true)⟩,⟨.some 29,.bslice 3 1 [.t 26,.t 28],.some ((.t 23),.true)⟩,⟨.some 30,.call (.c (.fn 37 [])) [.t 24,.t 29],.some ((.t 23),.true)⟩,⟨.some 31,.pick (.t 23) (.t 30) (.c (.bool .false)),.none⟩,⟨.some 5,.mov (.t 31),.none⟩]) (.seq (.reg .false [⟨.some 32,.mov (.t 5),.none⟩,⟨.some 33,.mov (.t 32),.none⟩,⟨.some 34,.build [.int .i64 0,.int .i64 0] [(0,(1,(.c (.int .i64 0)))),(1,(1,(.c (.int .i64 4))))],.some ((.t 33),.true)⟩,⟨.some 35,.fldA .false 8 1 (.t 1),.some ((.t 33),.true)⟩,⟨.some 36,.load .false 1 (.t 35),.some ((.t 33),.true)⟩,⟨.some 37,.fldA .false 9 1 (.t 1),.some ((.t 33),.true)⟩,⟨.some 38,.load .false 1 (.t 37),.some ((.t 33),.true)⟩,⟨.some 39,.bslice 3 1 [.t 36,.t 38],.some ((.t 33),.true)⟩,⟨.some 40,.call (.c (.fn 37 [])) [.t 34,.t 39],.some ((.t 33),.true)⟩,⟨.some 41,.pick (.t 33) (.t 40) (.c (.bool .false)),.none⟩,⟨.some 42,.mov (.t 41),.none⟩,⟨.some 43,.build [.int .i64 0,.int .i64 0] [(0,(1,(.c (.int .i64 0)))),(1,(1,(.c (.int .i64 1))))],.some ((.t 42),.true)⟩,⟨.some 44,.fldA .false 10 1 (.t 1),.some ((.t 42),.true)⟩,⟨.some 45,.load .false 1 (.t 44),.some ((.t 42),.true)⟩,⟨.some 46,.bslice 3 1 [.t 45],.some ((.t 42),.true)⟩,⟨.some 47,.call (.c (.fn 37 [])) [.t 43,.t 46],.some ((.t 42),.true)⟩,⟨.some 48,.pick (.t 42) (.t 47) (.c (.bool .false)),.none⟩,⟨.some 49,.mov (.t 48),.none⟩,⟨.some 50,.build [.int .i64 0,.int .i64 0] [(0,(1,(.c (.int .i64 0)))),(1,(1,(.c (.int .i64 3))))],.some ((.t 49),.true)⟩,⟨.some 51,.fldA .false 11 1 (.t 1),.some ((.t 49),.true)⟩,⟨.some 52,.load .false 1 (.t 51),.some ((.t 49),.true)⟩,⟨.some 53,.bslice 3 1 [.t 52],.some ((.t 49),.true)⟩,⟨.some 54,.call (.c (.fn 37 [])) [.t 50,.t 53],.some ((.t 49),.true)⟩,⟨.some 55,.pick (.t 49) (.t 54) (.c (.bool .false)),.none⟩,⟨.some 2,.mov (.t 55),.none⟩]) .ret))),[.tmp (.t 2)]⟩
theorem e36 : cfn Tryd.prog Tryd.f36 = some c36 := by kernel_rfl
theorem k36 : callable Tryd.prog 36 = true := by kernel_rfl
def c37 : VFn := ⟨9,.seq (.reg .false [⟨.some 2,.box 81 2 (.t 0),.none⟩,⟨.some 4,.mov (.c (.bool .false)),.none⟩]) (.seq (.reg .false [⟨.some 5,.mov (.t 1),.none⟩,⟨.some 6,.mkfn 55 [.t 2],.none⟩,⟨.some 7,.call (.c (.fn 54 [])) [.t 5,.t 6],.none⟩,⟨.some 8,.not (.t 7),.none⟩,⟨.some 4,.mov (.t 8),.none⟩]) .ret),[.tmp (.t 4)]⟩
theorem e37 : cfn Tryd.prog Tryd.f37 = some c37 := by kernel_rfl
theorem k37 : callable Tryd.prog 37 = true := by kernel_rfl
def c38 : VFn := ⟨39,.seq (.reg .false [⟨.some 2,.mov (.c .nils),.none⟩,⟨.some 3,.mov (.c (.int .i64 0)),.none⟩,⟨.some 4,.mov (.c (.int .i64 0)),.none⟩]) (.seq (.reg .false [⟨.some 10,.mov (.t 0),.none⟩,⟨.some 11,.call (.c (.fn 56 [])) [.t 10],.none⟩,⟨.some 9,.mov (.t 11),.none⟩,⟨.some 12,.ext 0 (.t 9),.none⟩,⟨.some 13,.ext 1 (.t 9),.none⟩,⟨.some 14,.ext 2 (.t 9),.none⟩,⟨.some 5,.mov (.t 12),.none⟩,⟨.some 6,.mov (.t 13),.none⟩,⟨.some 7,.mov (.t 14),.none⟩]) (.seq (.seq (.reg .false [⟨.some 15,.mov (.t 7),.none⟩,⟨.some 16,.bin .neq (.t 15) (.c (.int .i64 0)),.none⟩]) (.cond (.t 16) (.seq (.reg .false [⟨.some 17,.mov (.t 6),.none⟩,⟨.some 18,.mov (.t 7),.none⟩,⟨.some 2,.mov (.c .nils),.none⟩,⟨.some 3,.mov (.t 17),.none⟩,⟨.some 4,.mov (.t 18),.none⟩]) .ret) .skip)) (.seq (.reg .false [⟨.some 19,.mov (.t 5),.none⟩,⟨.some 20,.call (.c (.fn 57 [])) [.t 19,.c (.int .i64 0)],.none⟩,⟨.some 8,.alloc 108 3 (.agg [.nils,.int .i64 0,.int .i64 0]),.none⟩,⟨.none,.store 3 (.t 8) (.t 20),.none⟩]) (.seq (.seq (.reg .false [⟨.some 21,.fldA .false 1 1 (.t 8),.none⟩,⟨.some 22,.load .false 1 (.t 21),.none⟩,⟨.some 23,.mov (.t 5),.none⟩,⟨.some 24,.len .false (.t 23),.none⟩,⟨.some 25,.bin .lss (.t 22) (.t 24),.none⟩]) (.cond (.t 25) (.seq (.reg .true [⟨.some 26,.mov (.t 5),.none⟩,⟨.some 27,.fldA .false 1 1 (.t 8),.none⟩,⟨.some 28,.load .false 1 (.t 27),.none⟩,⟨.some 29,.idxA 4 (.t 26) (.t 28),.none⟩,⟨.some 30,.fldA .false 3 1 (.t 29),.none⟩,⟨.some 31,.load .false 1 (.t 30),.none⟩,⟨.some 2,.mov (.c .nils),.none⟩,⟨.some 3,.mov (.t 31),.none⟩,⟨.some 4,.mov (.c (.int .i64 1)),.none⟩]) .ret) .skip)) (.seq (.seq (.reg .false [⟨.some 32,.fldA .false 2 1 (.t 8),.none⟩,⟨.some 33,.load .false 1 (.t 32),.none⟩,⟨.some 34,.bin .eql (.t 33) (.c (.int .i64 1)),.none⟩]) (.cond (.t 34) (.seq (.reg .false [⟨.some 35,.mov (.t 0),.none⟩,⟨.some 36,.len .true (.t 35),.none⟩,⟨.some 2,.mov (.c .nils),.none⟩,⟨.some 3,.mov (.t 36),.none⟩,⟨.some 4,.mov (.c (.int .i64 1)),.none⟩]) .ret) .skip)) (.seq (.reg .false [⟨.some 37,.fldA .false 0 1 (.t 8),.none⟩,⟨.some 38,.load .false 1 (.t 37),.none⟩,⟨.some 2,.mov (.t 38),.none⟩,⟨.some 3,.mov (.c (.int .i64 0)),.none⟩,⟨.some 4,.mov (.c (.int .i64 0)),.none⟩]) .ret)))))),[.tmp (.t 2),.tmp (.t 3),.tmp (.t 4)]⟩
theorem e38 : cfn Tryd.prog Tryd.f38 = some c38 := by kernel_rfl
theorem k38 : callable Tryd.prog 38 = true := by kernel_rfl
def c39 : VFn := ⟨45,.seq (.reg .false [⟨.some 4,.mov (.c .nils),.none⟩]) (.seq (.reg .false [⟨.some 9,.mov (.t 0),.none⟩,⟨.some 10,.call (.c (.fn 58 [])) [.t 9],.none⟩,⟨.some 5,.alloc 114 1 (.agg [.nils]),.none⟩,⟨.none,.store 1 (.t 5) (.t 10),.none⟩]) (.seq (.reg .true [⟨.some 11,.fldA .false 0 1 (.t 5),.none⟩,⟨.some 12,.load .false 1 (.t 11),.none⟩,⟨.some 13,.len .false (.t 12),.none⟩,⟨.some 6,.mov (.c (.int .i64 0)),.none⟩,⟨.some 7,.mov (.t 13),.none⟩]) (.seq (.seq (.reg .false [⟨.some 14,.mov (.t 1),.none⟩,⟨.some 15,.bin .neq (.t 14) (.c (.int .i64 (-1))),.none⟩]) (.cond (.t 15) (.seq (.seq (.reg .false [⟨.some 16,.fldA .false 0 1 (.t 5),.none⟩,⟨.some 17,.load .false 1 (.t 16),.none⟩,⟨.some 18,.mov (.t 1),.none⟩,⟨.some 19,.call (.c (.fn 59 [])) [.t 17,.t 18],.none⟩,⟨.some 20,.not (.t 19),.none⟩]) (.cond (.t 20) (.seq (.reg .false [⟨.some 4,.mov (.c .nils),.none⟩]) .ret) .skip)) (.reg .true [⟨.some 21,.mov (.t 1),.none⟩,⟨.some 22,.bin .add (.t 21) (.c (.int .i64 1)),.none⟩,⟨.some 23,.mov (.t 1),.none⟩,⟨.some 24,.mov (.t 0),.none⟩,⟨.some 25,.mov (.t 1),.none⟩,⟨.some 26,.idxA 20 (.t 24) (.t 25),.none⟩,⟨.some 27,.fldA .false 1 1 (.t 26),.none⟩,⟨.some 28,.load .false 1 (.t 27),.none⟩,⟨.some 29,.bin .add (.t 23) (.t 28),.none⟩,⟨.some 6,.mov (.t 22),.none⟩,⟨.some 7,.mov (.t 29),.none⟩])) .skip)) (.seq (.reg .false [⟨.some 8,.mov (.c .nils),.none⟩]) (.seq (.block 0 (.loop (.seq (.seq (.reg .false [⟨.some 30,.mov (.t 6),.none⟩,⟨.some 31,.mov (.t 7),.none⟩,⟨.some 32,.bin .lss (.t 30) (.t 31),.none⟩]) (.cond (.t 32) .skip (.exit 0))) (.block 1 (.reg .true [⟨.some 33,.mov (.t 8),.none⟩,⟨.some 34,.mov (.t 6),.none⟩,⟨.some 35,.bslice 3 1 [.t 34],.none⟩,⟨.some 36,.append 3 1 8 (.t 33) (.t 35),.none⟩,⟨.some 37,.mov (.t 6),.none⟩,⟨.some 38,.mov (.t 0),.none⟩,⟨.some 39,.mov (.t 6),.none⟩,⟨.some 40,.idxA 20 (.t 38) (.t 39),.none⟩,⟨.some 41,.fldA .false 1 1 (.t 40),.none⟩,⟨.some 42,.load .false 1 (.t 41),.none⟩,⟨.some 43,.bin .add (.t 37) (.t 42),.none⟩,⟨.some 8,.mov (.t 36),.none⟩,⟨.some 6,.mov (.t 43),.none⟩]))))) (.seq (.reg .false [⟨.some 44,.mov (.t 8),.none⟩,⟨.some 4,.mov (.t 44),.none⟩]) .ret)))))),[.tmp (.t 4)]⟩
theorem e39 : cfn Tryd.prog Tryd.f39 = some c39 := by kernel_rfl
theorem k39 : callable Tryd.prog 39 = true := by kernel_rfl
def c40 : VFn := ⟨27,.seq (.reg .false [⟨.some 4,.mov (.c .nils),.none⟩]) (.seq (.seq (.reg .false [⟨.some 5,.mov (.t 1),.none⟩,⟨.some 6,.bin .lss (.t 5) (.c (.int .i64 0)),.none⟩]) (.cond (.t 6) (.reg .false [⟨.some 7,.more (.mkI 9) [.c (.str [99,97,110,110,111,116,32,98,101,32,110,101,103,97,116,105,118,101])],.none⟩,⟨.none,.bad,.none⟩]) .skip)) (.seq (.seq (.reg .false [⟨.some 8,.mov (.t 1),.none⟩,⟨.some 9,.mov (.t 0),.none⟩,⟨.some 10,.cap (.t 9),.none⟩,⟨.some 11,.mov (.t 0),.none⟩,⟨.some 12,.len .false (.t 11),.none⟩,⟨.some 13,.bin .sub (.t 10) (.t 12),.none⟩,⟨.some 14,.bin .sub (.t 8) (.t 13),.none⟩,⟨.some 1,.mov (.t 14),.none⟩]) (.seq (.reg .false [⟨.some 15,.mov (.t 1),.none⟩,⟨.some 16,.bin .gtr (.t 15) (.c (.int .i64 0)),.none⟩]) (.cond (.t 16) (.reg .false [⟨.some 17,.mov (.t 0),.none⟩,⟨.some 18,.mov (.t 0),.none⟩,⟨.some 19,.cap (.t 18),.none⟩,⟨.some 20,.slice 20 (.t 17) .none (.some (.t 19)) .none,.none⟩,⟨.some 21,.mov (.t 1),.none⟩,⟨.some 22,.appz 42 20 176 (.agg [.int .i64 0,.int .i64 0,.int .i64 0,.int .i64 0,.int .i64 0,.int .i64 0,.int .i64 0,.int .i64 0,.int .i64 0,.int .i64 0,.int .i64 0,.int .i64 0,.int .i64 0,.int .i64 0,.int .i64 0,.int .i64 0,.nils,.int .i64 0,.int .i64 0,.int .i64 0]) (.t 20) (.t 21),.none⟩,⟨.some 23,.mov (.t 0),.none⟩,⟨.some 24,.len .false (.t 23),.none⟩,⟨.some 25,.slice 20 (.t 22) .none (.some (.t 24)) .none,.none⟩,⟨.some 0,.mov (.t 25),.none⟩]) .skip))) (.seq (.reg .false [⟨.some 26,.mov (.t 0),.none⟩,⟨.some 4,.mov (.t 26),.none⟩]) .ret))),[.tmp (.t 4)]⟩
theorem e40 : cfn Tryd.prog Tryd.f40 = some c40 := by kernel_rfl
theorem k40 : callable Tryd.prog 40 = true := by kernel_rfl
def c41 : VFn := ⟨8,.seq (.reg .false [⟨.some 2,.mov (.c .nils),.none⟩]) (.seq (.seq (.reg .false [⟨.some 3,.mov (.t 0),.none⟩,⟨.some 4,.binB .false (.t 3) (.c (.iface 0 .undef)),.none⟩]) (.cond (.t 4) (.seq (.reg .false [⟨.some 2,.mov (.c .nils),.none⟩]) .ret) .skip)) (.seq (.reg .false [⟨.some 5,.bslice 42 20 [],.none⟩,⟨.some 6,.mov (.t 0),.none⟩,⟨.some 7,.append 42 20 176 (.t 5) (.t 6),.none⟩,⟨.some 2,.mov (.t 7),.none⟩]) .ret)),[.tmp (.t 2)]⟩
theorem e41 : cfn Tryd.prog Tryd.f41 = some c41 := by kernel_rfl
theorem k41 : callable Tryd.prog 41 = true := by kernel_rfl
def c42 : VFn := ⟨8,.seq (.reg .false [⟨.some 2,.mov (.c .nils),.none⟩]) (.seq (.seq (.reg .false [⟨.some 3,.mov (.t 0),.none⟩,⟨.some 4,.binB .false (.t 3) (.c (.iface 0 .undef)),.none⟩]) (.cond (.t 4) (.seq (.reg .false [⟨.some 2,.mov (.c .nils),.none⟩]) .ret) .skip)) (.seq (.reg .false [⟨.some 5,.bslice 3 1 [],.none⟩,⟨.some 6,.mov (.t 0),.none⟩,⟨.some 7,.append 3 1 8 (.t 5) (.t 6),.none⟩,⟨.some 2,.mov (.t 7),.none⟩]) .ret)),[.tmp (.t 2)]⟩
theorem e42 : cfn Tryd.prog Tryd.f42 = some c42 := by kernel_rfl
theorem k42 : callable Tryd.prog 42 = true := by kernel_rfl
def c43 : VFn := ⟨78,.seq (.reg .false [⟨.some 1,.box 60 18 (.t 0),.none⟩,⟨.some 2,.mov (.c .nils),.none⟩,⟨.some 3,.mov (.c (.bool .false)),.none⟩]) (.seq (.reg .false [⟨.some 12,.load .true 18 (.t 1),.none⟩,⟨.some 13,.call (.c (.fn 26 [])) [.t 12],.none⟩,⟨.some 11,.mov (.t 13),.none⟩,⟨.some 14,.ext 0 (.t 11),.none⟩,⟨.some 15,.ext 1 (.t 11),.none⟩,⟨.some 16,.ext 2 (.t 11),.none⟩,⟨.some 4,.mov (.t 14),.none⟩,⟨.some 5,.mov (.t 15),.none⟩,⟨.some 6,.mov (.t 16),.none⟩]) (.seq (.seq (.reg .false [⟨.some 17,.mov (.t 6),.none⟩,⟨.some 18,.not (.t 17),.none⟩,⟨.some 19,.mov (.t 18),.none⟩,⟨.some 20,.fldA .true 0 17 (.t 1),.some ((.t 19),.false)⟩,⟨.some 21,.fldA .false 4 1 (.t 20),.some ((.t 19),.false)⟩,⟨.some 22,.load .false 1 (.t 21),.some ((.t 19),.false)⟩,⟨.some 23,.call (.c (.fn 5 [])) [.t 22],.some ((.t 19),.false)⟩,⟨.some 24,.not (.t 23),.some ((.t 19),.false)⟩,⟨.some 25,.pick (.t 19) (.c (.bool .true)) (.t 24),.none⟩,⟨.some 26,.mov (.t 25),.none⟩,⟨.some 27,.fldA .true 0 17 (.t 1),.some ((.t 26),.false)⟩,⟨.some 28,.fldA .true 5 12 (.t 27),.some ((.t 26),.false)⟩,⟨.some 29,.load .true 12 (.t 28),.some ((.t 26),.false)⟩,⟨.some 30,.build [.int .i64 0,.int .i64 0,.int .i64 0,.int .i64 0,.int .i64 0,.int .i64 0,.int .i64 0,.int .i64 0,.int .i64 0,.int .i64 0,.int .i64 0,.int .i64 0] [],.some ((.t 26),.false)⟩,⟨.some 31,.eqS .true [0,0,0,0,0,0,0,0,0,0,0,0] (.t 29) (.t 30),.some ((.t 26),.false)⟩,⟨.some 32,.pick (.t 26) (.c (.bool .true)) (.t 31),.none⟩]) (.cond (.t 32) (.seq (.reg .false [⟨.some 2,.mov (.c .nils),.none⟩,⟨.some 3,.mov (.c (.bool .false)),.none⟩]) .ret) .skip)) (.seq (.reg .false [⟨.some 33,.fldA .false 17 1 (.t 1),.none⟩,⟨.some 34,.load .false 1 (.t 33),.none⟩,⟨.some 35,.call (.c (.fn 24 [])) [.t 34],.none⟩,⟨.some 36,.mov (.t 4),.none⟩,⟨.some 37,.mov (.t 4),.none⟩,⟨.some 38,.slice 20 (.t 35) .none (.some (.t 36)) (.some (.t 37)),.none⟩,⟨.some 7,.mov (.t 38),.none⟩]) (.seq (.reg .true [⟨.some 39,.mov (.t 7),.none⟩,⟨.some 40,.fldA .true 0 17 (.t 1),.none⟩,⟨.some 41,.fldA .false 4 1 (.t 40),.none⟩,⟨.some 42,.load .false 1 (.t 41),.none⟩,⟨.some 43,.call (.c (.fn 24 [])) [.t 42],.none⟩,⟨.some 44,.append 42 20 176 (.t 39) (.t 43),.none⟩,⟨.some 45,.fldA .false 17 1 (.t 1),.none⟩,⟨.some 46,.load .false 1 (.t 45),.none⟩,⟨.some 47,.mov (.t 5),.none⟩,⟨.some 48,.slice 20 (.t 46) (.some (.t 47)) .none .none,.none⟩,⟨.some 49,.call (.c (.fn 24 [])) [.t 48],.none⟩,⟨.some 50,.append 42 20 176 (.t 44) (.t 49),.none⟩,⟨.some 8,.mov (.t 50),.none⟩]) (.seq (.reg .false [⟨.some 51,.fldA .true 0 17 (.t 1),.none⟩,⟨.some 52,.fldA .false 4 1 (.t 51),.none⟩,⟨.some 53,.load .false 1 (.t 52),.none⟩,⟨.some 54,.len .false (.t 53),.none⟩,⟨.some 55,.mov (.t 5),.none⟩,⟨.some 56,.mov (.t 4),.none⟩,⟨.some 57,.bin .sub (.t 55) (.t 56),.none⟩,⟨.some 58,.bin .sub (.t 54) (.t 57),.none⟩,⟨.some 9,.mov (.t 58),.none⟩]) (.seq (.seq (.reg .false [⟨.some 59,.fldA .true 0 17 (.t 1),.none⟩,⟨.some 60,.fldA .false 1 1 (.t 59),.none⟩,⟨.some 61,.load .false 1 (.t 60),.none⟩,⟨.some 10,.mov (.t 61),.none⟩]) (.block 0 (.loop (.seq (.seq (.reg .false [⟨.some 62,.mov (.t 10),.none⟩,⟨.some 63,.bin .geq (.t 62) (.c (.int .i64 0)),.none⟩]) (.cond (.t 63) .skip (.exit 0))) (.seq (.block 1 (.reg .false [⟨.some 68,.mov (.t 8),.none⟩,⟨.some 69,.mov (.t 10),.none⟩,⟨.some 70,.idxA 20 (.t 68) (.t 69),.none⟩,⟨.some 71,.fldA .false 1 1 (.t 70),.none⟩,⟨.some 72,.load .false 1 (.t 71),.none⟩,⟨.some 73,.mov (.t 9),.none⟩,⟨.some 74,.bin .add (.t 72) (.t 73),.none⟩,⟨.some 75,.idxA 20 (.t 68) (.t 69),.none⟩,⟨.some 76,.fldA .false 1 1 (.t 75),.none⟩,⟨.none,.store 1 (.t 76) (.t 74),.none⟩])) (.reg .false [⟨.some 64,.fldA .false 17 1 (.t 1),.none⟩,⟨.some 65,.load .false 1 (.t 64),.none⟩,⟨.some 66,.mov (.t 10),.none⟩,⟨.some 67,.call (.c (.fn 60 [])) [.t 65,.t 66],.none⟩,⟨.some 10,.mov (.t 67),.none⟩])))))) (.seq (.reg .false [⟨.some 77,.mov (.t 8),.none⟩,⟨.some 2,.mov (.t 77),.none⟩,⟨.some 3,.mov (.c (.bool .true)),.none⟩]) .ret))))))),[.tmp (.t 2),.tmp (.t 3)]⟩
theorem e43 : cfn Tryd.prog Tryd.f43 = some c43 := by kernel_rfl
theorem k43 : callable Tryd.prog 43 = true := by kernel_rfl
def c44 : VFn := ⟨43,.seq (.reg .false [⟨.some 1,.box 60 18 (.t 0),.none⟩,⟨.some 2,.mov (.c .nils),.none⟩,⟨.some 3,.mov (.c (.bool .false)),.none⟩]) (.seq (.seq (.reg .false [⟨.some 5,.load .true 18 (.t 1),.none⟩,⟨.some 6,.fldA .true 0 17 (.t 1),.none⟩,⟨.some 7,.fldA .false 2 1 (.t 6),.none⟩,⟨.some 8,.load .false 1 (.t 7),.none⟩,⟨.some 9,.call (.c (.fn 45 [])) [.t 5,.t 8],.none⟩,⟨.some 10,.not (.t 9),.none⟩,⟨.some 11,.mov (.t 10),.none⟩,⟨.some 12,.fldA .true 0 17 (.t 1),.some ((.t 11),.false)⟩,⟨.some 13,.fldA .false 1 1 (.t 12),.some ((.t 11),.false)⟩,⟨.some 14,.load .false 1 (.t 13),.some ((.t 11),.false)⟩,⟨.some 15,.bin .neq (.t 14) (.c (.int .i64 0)),.some ((.t 11),.false)⟩,⟨.some 16,.pick (.t 11) (.c (.bool .true)) (.t 15),.none⟩,⟨.some 17,.mov (.t 16),.none⟩,⟨.some 18,.fldA .true 0 17 (.t 1),.some ((.t 17),.false)⟩,⟨.some 19,.fldA .false 3 1 (.t 18),.some ((.t 17),.false)⟩,⟨.some 20,.load .false 1 (.t 19),.some ((.t 17),.false)⟩,⟨.some 21,.bin .neq (.t 20) (.c (.int .i64 0)),.some ((.t 17),.false)⟩,⟨.some 22,.pick (.t 17) (.c (.bool .true)) (.t 21),.none⟩,⟨.some 23,.mov (.t 22),.none⟩,⟨.some 24,.fldA .true 0 17 (.t 1),.some ((.t 23),.false)⟩,⟨.some 25,.fldA .false 4 1 (.t 24),.some ((.t 23),.false)⟩,⟨.some 26,.load .false 1 (.t 25),.some ((.t 23),.false)⟩,⟨.some 27,.len .false (.t 26),.some ((.t 23),.false)⟩,⟨.some 28,.bin .gtr (.t 27) (.c (.int .i64 0)),.some ((.t 23),.false)⟩,⟨.some 29,.pick (.t 23) (.c (.bool .true)) (.t 28),.none⟩]) (.cond (.t 29) (.seq (.reg .false [⟨.some 2,.mov (.c .nils),.none⟩,⟨.some 3,.mov (.c (.bool .false)),.none⟩]) .ret) .skip)) (.seq (.reg .false [⟨.some 30,.fldA .false 17 1 (.t 1),.none⟩,⟨.some 31,.load .false 1 (.t 30),.none⟩,⟨.some 32,.call (.c (.fn 24 [])) [.t 31],.none⟩,⟨.some 4,.mov (.t 32),.none⟩]) (.seq (.reg .false [⟨.some 33,.mov (.t 4),.none⟩,⟨.some 34,.fldA .true 0 17 (.t 1),.none⟩,⟨.some 35,.fldA .false 2 1 (.t 34),.none⟩,⟨.some 36,.load .false 1 (.t 35),.none⟩,⟨.some 37,.fldA .true 0 17 (.t 1),.none⟩,⟨.some 38,.fldA .true 5 12 (.t 37),.none⟩,⟨.some 39,.load .true 12 (.t 38),.none⟩,⟨.some 40,.idxA 20 (.t 33) (.t 36),.none⟩,⟨.some 41,.fldA .true 2 12 (.t 40),.none⟩,⟨.none,.store 12 (.t 41) (.t 39),.none⟩]) (.seq (.reg .false [⟨.some 42,.mov (.t 4),.none⟩,⟨.some 2,.mov (.t 42),.none⟩,⟨.some 3,.mov (.c (.bool .true)),.none⟩]) .ret)))),[.tmp (.t 2),.tmp (.t 3)]⟩
theorem e44 : cfn Tryd.prog Tryd.f44 = some c44 := by kernel_rfl
theorem k44 : callable Tryd.prog 44 = true := by kernel_rfl
def c45 : VFn := ⟨23,.seq (.reg .false [⟨.some 2,.box 60 18 (.t 0),.none⟩,⟨.some 4,.mov (.c (.bool .false)),.none⟩]) (.seq (.reg .false [⟨.some 5,.mov (.t 1),.none⟩,⟨.some 6,.bin .geq (.t 5) (.c (.int .i64 0)),.none⟩,⟨.some 7,.mov (.t 6),.none⟩,⟨.some 8,.mov (.t 1),.some ((.t 7),.true)⟩,⟨.some 9,.fldA .false 17 1 (.t 2),.some ((.t 7),.true)⟩,⟨.some 10,.load .false 1 (.t 9),.some ((.t 7),.true)⟩,⟨.some 11,.len .false (.t 10),.some ((.t 7),.true)⟩,⟨.some 12,.bin .lss (.t 8) (.t 11),.some ((.t 7),.true)⟩,⟨.some 13,.pick (.t 7) (.t 12) (.c (.bool .false)),.none⟩,⟨.some 14,.mov (.t 13),.none⟩,⟨.some 15,.fldA .false 17 1 (.t 2),.some ((.t 14),.true)⟩,⟨.some 16,.load .false 1 (.t 15),.some ((.t 14),.true)⟩,⟨.some 17,.mov (.t 1),.some ((.t 14),.true)⟩,⟨.some 18,.idxA 20 (.t 16) (.t 17),.some ((.t 14),.true)⟩,⟨.some 19,.fldA .false 0 1 (.t 18),.some ((.t 14),.true)⟩,⟨.some 20,.load .false 1 (.t 19),.some ((.t 14),.true)⟩,⟨.some 21,.bin .eql (.t 20) (.c (.int .i64 1)),.some ((.t 14),.true)⟩,⟨.some 22,.pick (.t 14) (.t 21) (.c (.bool .false)),.none⟩,⟨.some 4,.mov (.t 22),.none⟩]) .ret),[.tmp (.t 4)]⟩
theorem e45 : cfn Tryd.prog Tryd.f45 = some c45 := by kernel_rfl
theorem k45 : callable Tryd.prog 45 = true := by kernel_rfl
def c46 : VFn := ⟨41,.seq (.reg .false [⟨.some 1,.box 60 18 (.t 0),.none⟩,⟨.some 2,.mov (.c .nils),.none⟩]) (.seq (.reg .false [⟨.some 6,.fldA .false 17 1 (.t 1),.none⟩,⟨.some 7,.load .false 1 (.t 6),.none⟩,⟨.some 8,.fldA .true 0 17 (.t 1),.none⟩,⟨.some 9,.fldA .false 1 1 (.t 8),.none⟩,⟨.some 10,.load .false 1 (.t 9),.none⟩,⟨.some 11,.call (.c (.fn 39 [])) [.t 7,.t 10],.none⟩,⟨.some 12,.call (.c (.fn 61 [])) [.t 11],.none⟩,⟨.some 3,.mov (.t 12),.none⟩]) (.seq (.reg .false [⟨.some 13,.fldA .true 0 17 (.t 1),.none⟩,⟨.some 14,.fldA .false 1 1 (.t 13),.none⟩,⟨.some 15,.load .false 1 (.t 14),.none⟩,⟨.some 16,.bin .add (.t 15) (.c (.int .i64 1)),.none⟩,⟨.some 4,.mov (.t 16),.none⟩]) (.seq (.seq (.reg .false [⟨.some 17,.mov (.t 3),.none⟩,⟨.some 18,.len .false (.t 17),.none⟩,⟨.some 5,.mov (.t 18),.none⟩]) (.seq (.reg .false [⟨.some 19,.mov (.t 5),.none⟩,⟨.some 20,.bin .gtr (.t 19) (.c (.int .i64 0)),.none⟩]) (.cond (.t 20) (.reg .true [⟨.some 21,.mov (.t 3),.none⟩,⟨.some 22,.mov (.t 5),.none⟩,⟨.some 23,.bin .sub (.t 22) (.c (.int .i64 1)),.none⟩,⟨.some 24,.idxA 1 (.t 21) (.t 23),.none⟩,⟨.some 25,.load .false 1 (.t 24),.none⟩,⟨.some 26,.fldA .false 17 1 (.t 1),.none⟩,⟨.some 27,.load .false 1 (.t 26),.none⟩,⟨.some 28,.mov (.t 3),.none⟩,⟨.some 29,.mov (.t 5),.none⟩,⟨.some 30,.bin .sub (.t 29) (.c (.int .i64 1)),.none⟩,⟨.some 31,.idxA 1 (.t 28) (.t 30),.none⟩,⟨.some 32,.load .false 1 (.t 31),.none⟩,⟨.some 33,.idxA 20 (.t 27) (.t 32),.none⟩,⟨.some 34,.fldA .false 1 1 (.t 33),.none⟩,⟨.some 35,.load .false 1 (.t 34),.none⟩,⟨.some 36,.bin .add (.t 25) (.t 35),.none⟩,⟨.some 4,.mov (.t 36),.none⟩]) .skip))) (.seq (.reg .false [⟨.some 37,.mov (.t 3),.none⟩,⟨.some 38,.mov (.t 4),.none⟩,⟨.some 39,.bslice 3 1 [.t 38],.none⟩,⟨.some 40,.append 3 1 8 (.t 37) (.t 39),.none⟩,⟨.some 2,.mov (.t 40),.none⟩]) .ret)))),[.tmp (.t 2)]⟩
theorem e46 : cfn Tryd.prog Tryd.f46 = some c46 := by kernel_rfl
theorem k46 : callable Tryd.prog 46 = true := by kernel_rfl
def c47 : VFn := ⟨19,.seq (.reg .false [⟨.some 4,.mov (.c (.int .i64 0)),.none⟩]) (.seq (.seq (.reg .false [⟨.some 6,.mov (.t 0),.none⟩,⟨.some 7,.len .false (.t 6),.none⟩,⟨.some 8,.mov (.c (.int .i64 0)),.none⟩]) (.block 0 (.loop (.seq (.reg .false [⟨.some 9,.bin .lss (.t 8) (.t 7),.none⟩]) (.seq (.cond (.t 9) .skip (.exit 0)) (.seq (.block 1 (.seq (.reg .false [⟨.some 10,.mov (.t 8),.none⟩,⟨.some 5,.mov (.t 10),.none⟩]) (.seq (.reg .false [⟨.some 11,.mov (.t 1),.none⟩,⟨.some 12,.mov (.t 0),.none⟩,⟨.some 13,.mov (.t 5),.none⟩,⟨.some 14,.idxA 1 (.t 12) (.t 13),.none⟩,⟨.some 15,.load .false 1 (.t 14),.none⟩,⟨.some 16,.bin .eql (.t 11) (.t 15),.none⟩]) (.cond (.t 16) (.seq (.reg .false [⟨.some 17,.mov (.t 5),.none⟩,⟨.some 4,.mov (.t 17),.none⟩]) .ret) .skip)))) (.reg .false [⟨.some 18,.bin .add (.t 8) (.c (.int .i64 1)),.none⟩,⟨.some 8,.mov (.t 18),.none⟩]))))))) (.seq (.reg .false [⟨.some 4,.mov (.c (.int .i64 (-1))),.none⟩]) .ret)),[.tmp (.t 4)]⟩
theorem e47 : cfn Tryd.prog Tryd.f47 = some c47 := by kernel_rfl
theorem k47 : callable Tryd.prog 47 = true := by kernel_rfl
def c48 : VFn := ⟨32,.seq (.reg .false [⟨.some 6,.mov (.c (.bool .false)),.none⟩]) (.seq (.seq (.reg .false [⟨.some 10,.mov (.t 0),.none⟩,⟨.some 11,.len .false (.t 10),.none⟩,⟨.some 12,.mov (.t 1),.none⟩,⟨.some 13,.len .false (.t 12),.none⟩,⟨.some 14,.bin .neq (.t 11) (.t 13),.none⟩]) (.cond (.t 14) (.seq (.reg .false [⟨.some 6,.mov (.c (.bool .false)),.none⟩]) .ret) .skip)) (.seq (.seq (.reg .false [⟨.some 15,.mov (.t 0),.none⟩,⟨.some 16,.len .false (.t 15),.none⟩,⟨.some 17,.mov (.c (.int .i64 0)),.none⟩]) (.block 0 (.loop (.seq (.reg .false [⟨.some 18,.bin .lss (.t 17) (.t 16),.none⟩]) (.seq (.cond (.t 18) .skip (.exit 0)) (.seq (.block 1 (.seq (.reg .false [⟨.some 19,.mov (.t 17),.none⟩,⟨.some 20,.idxA 20 (.t 15) (.t 17),.none⟩,⟨.some 21,.load .true 20 (.t 20),.none⟩,⟨.some 8,.alloc 42 20 (.agg [.int .i64 0,.int .i64 0,.int .i64 0,.int .i64 0,.int .i64 0,.int .i64 0,.int .i64 0,.int .i64 0,.int .i64 0,.int .i64 0,.int .i64 0,.int .i64 0,.int .i64 0,.int .i64 0,.int .i64 0,.int .i64 0,.nils,.int .i64 0,.int .i64 0,.int .i64 0]),.none⟩,⟨.some 7,.mov (.t 19),.none⟩,⟨.none,.store 20 (.t 8) (.t 21),.none⟩]) (.seq (.reg .false [⟨.some 22,.mov (.t 1),.none⟩,⟨.some 23,.mov (.t 7),.none⟩,⟨.some 24,.idxA 20 (.t 22) (.t 23),.none⟩,⟨.some 25,.load .true 20 (.t 24),.none⟩,⟨.some 9,.alloc 42 20 (.agg [.int .i64 0,.int .i64 0,.int .i64 0,.int .i64 0,.int .i64 0,.int .i64 0,.int .i64 0,.int .i64 0,.int .i64 0,.int .i64 0,.int .i64 0,.int .i64 0,.int .i64 0,.int .i64 0,.int .i64 0,.int .i64 0,.nils,.int .i64 0,.int .i64 0,.int .i64 0]),.none⟩,⟨.none,.store 20 (.t 9) (.t 25),.none⟩]) (.seq (.reg .false [⟨.some 26,.mov (.t 2),.none⟩,⟨.some 27,.load .true 20 (.t 8),.none⟩,⟨.some 28,.load .true 20 (.t 9),.none⟩,⟨.some 29,.call (.t 26) [.t 27,.t 28],.none⟩,⟨.some 30,.not (.t 29),.none⟩]) (.cond (.t 30) (.seq (.reg .false [⟨.some 6,.mov (.c (.bool .false)),.none⟩]) .ret) .skip))))) (.reg .false [⟨.some 31,.bin .add (.t 17) (.c (.int .i64 1)),.none⟩,⟨.some 17,.mov (.t 31),.none⟩]))))))) (.seq (.reg .false [⟨.some 6,.mov (.c (.bool .true)),.none⟩]) .ret))),[.tmp (.t 6)]⟩
theorem e48 : cfn Tryd.prog Tryd.f48 = some c48 := by kernel_rfl
theorem k48 : callable Tryd.prog 48 = true := by kernel_rfl
def c49 : VFn := ⟨68,.seq (.reg .false [⟨.some 2,.box 42 20 (.t 0),.none⟩,⟨.some 3,.box 42 20 (.t 1),.none⟩,⟨.some 4,.mov (.c (.bool .false)),.none⟩]) (.seq (.reg .false [⟨.some 6,.fldA .false 16 1 (.t 2),.none⟩,⟨.some 7,.load .false 1 (.t 6),.none⟩,⟨.some 8,.fldA .false 16 1 (.t 3),.none⟩,⟨.some 9,.load .false 1 (.t 8),.none⟩,⟨.some 10,.call (.c (.fn 50 [])) [.t 7,.t 9],.none⟩,⟨.some 5,.mov (.t 10),.none⟩]) (.seq (.reg .false [⟨.some 11,.mov (.t 5),.none⟩,⟨.some 12,.mov (.t 11),.none⟩,⟨.some 13,.fldA .false 0 1 (.t 2),.some ((.t 12),.true)⟩,⟨.some 14,.load .false 1 (.t 13),.some ((.t 12),.true)⟩,⟨.some 15,.fldA .false 0 1 (.t 3),.some ((.t 12),.true)⟩,⟨.some 16,.load .false 1 (.t 15),.some ((.t 12),.true)⟩,⟨.some 17,.bin .eql (.t 14) (.t 16),.some ((.t 12),.true)⟩,⟨.some 18,.pick (.t 12) (.t 17) (.c (.bool .false)),.none⟩,⟨.some 19,.mov (.t 18),.none⟩,⟨.some 20,.fldA .false 1 1 (.t 2),.some ((.t 19),.true)⟩,⟨.some 21,.load .false 1 (.t 20),.some ((.t 19),.true)⟩,⟨.some 22,.fldA .false 1 1 (.t 3),.some ((.t 19),.true)⟩,⟨.some 23,.load .false 1 (.t 22),.some ((.t 19),.true)⟩,⟨.some 24,.bin .eql (.t 21) (.t 23),.some ((.t 19),.true)⟩,⟨.some 25,.pick (.t 19) (.t 24) (.c (.bool .false)),.none⟩,⟨.some 26,.mov (.t 25),.none⟩,⟨.some 27,.fldA .true 2 12 (.t 2),.some ((.t 26),.true)⟩,⟨.some 28,.load .true 12 (.t 27),.some ((.t 26),.true)⟩,⟨.some 29,.fldA .true 2 12 (.t 3),.some ((.t 26),.true)⟩,⟨.some 30,.load .true 12 (.t 29),.some ((.t 26),.true)⟩,⟨.some 31,.eqS .false [0,0,0,0,0,0,0,0,0,0,0,0] (.t 28) (.t 30),.some ((.t 26),.true)⟩,⟨.some 32,.pick (.t 26) (.t 31) (.c (.bool .false)),.none⟩,⟨.some 33,.mov (.t 32),.none⟩,⟨.some 34,.fldA .false 14 1 (.t 2),.some ((.t 33),.true)⟩,⟨.some 35,.load .false 1 (.t 34),.some ((.t 33),.true)⟩,⟨.some 36,.fldA .false 14 1 (.t 3),.some ((.t 33),.true)⟩,⟨.some 37,.load .false 1 (.t 36),.some ((.t 33),.true)⟩,⟨.some 38,.bin .eql (.t 35) (.t 37),.some ((.t 33),.true)⟩,⟨.some 39,.pick (.t 33) (.t 38) (.c (.bool .false)),.none⟩,⟨.some 40,.mov (.t 39),.none⟩,⟨.some 41,.fldA .false 15 1 (.t 2),.some ((.t 40),.true)⟩,⟨.some 42,.load .false 1 (.t 41),.some ((.t 40),.true)⟩,⟨.some 43,.fldA .false 15 1 (.t 3),.some ((.t 40),.true)⟩,⟨.some 44,.load .false 1 (.t 43),.some ((.t 40),.true)⟩,⟨.some 45,.bin .eql (.t 42) (.t 44),.some ((.t 40),.true)⟩,⟨.some 46,.pick (.t 40) (.t 45) (.c (.bool .false)),.none⟩,⟨.some 47,.mov (.t 46),.none⟩,⟨.some 48,.fldA .false 17 1 (.t 2),.some ((.t 47),.true)⟩,⟨.some 49,.load .false 1 (.t 48),.some ((.t 47),.true)⟩,⟨.some 50,.fldA .false 17 1 (.t 3),.some ((.t 47),.true)⟩,⟨.some 51,.load .false 1 (.t 50),.some ((.t 47),.true)⟩,⟨.some 52,.bin .eql (.t 49) (.t 51),.some ((.t 47),.true)⟩,⟨.some 53,.pick (.t 47) (.t 52) (.c (.bool .false)),.none⟩,⟨.some 54,.mov (.t 53),.none⟩,⟨.some 55,.fldA .false 18 1 (.t 2),.some ((.t 54),.true)⟩,⟨.some 56,.load .false 1 (.t 55),.some ((.t 54),.true)⟩,⟨.some 57,.fldA .false 18 1 (.t 3),.some ((.t 54),.true)⟩,⟨.some 58,.load .false 1 (.t 57),.some ((.t 54),.true)⟩,⟨.some 59,.bin .eql (.t 56) (.t 58),.some ((.t 54),.true)⟩,⟨.some 60,.pick (.t 54) (.t 59) (.c (.bool .false)),.none⟩,⟨.some 61,.mov (.t 60),.none⟩,⟨.some 62,.fldA .false 19 1 (.t 2),.some ((.t 61),.true)⟩,⟨.some 63,.load .false 1 (.t 62),.some ((.t 61),.true)⟩,⟨.some 64,.fldA .false 19 1 (.t 3),.some ((.t 61),.true)⟩,⟨.some 65,.load .false 1 (.t 64),.some ((.t 61),.true)⟩,⟨.some 66,.bin .eql (.t 63) (.t 65),.some ((.t 61),.true)⟩,⟨.some 67,.pick (.t 61) (.t 66) (.c (.bool .false)),.none⟩,⟨.some 4,.mov (.t 67),.none⟩]) .ret)),[.tmp (.t 4)]⟩
theorem e49 : cfn Tryd.prog Tryd.f49 = some c49 := by kernel_rfl
theorem k49 : callable Tryd.prog 49 = true := by kernel_rfl
def c50 : VFn := ⟨26,.seq (.reg .false [⟨.some 4,.mov (.c (.bool .false)),.none⟩]) (.seq (.seq (.reg .false [⟨.some 6,.mov (.t 0),.none⟩,⟨.some 7,.len .false (.t 6),.none⟩,⟨.some 8,.mov (.t 1),.none⟩,⟨.some 9,.len .false (.t 8),.none⟩,⟨.some 10,.bin .neq (.t 7) (.t 9),.none⟩]) (.cond (.t 10) (.seq (.reg .false [⟨.some 4,.mov (.c (.bool .false)),.none⟩]) .ret) .skip)) (.seq (.seq (.reg .false [⟨.some 11,.mov (.t 0),.none⟩,⟨.some 12,.len .false (.t 11),.none⟩,⟨.some 13,.mov (.c (.int .i64 0)),.none⟩]) (.block 0 (.loop (.seq (.reg .false [⟨.some 14,.bin .lss (.t 13) (.t 12),.none⟩]) (.seq (.cond (.t 14) .skip (.exit 0)) (.seq (.block 1 (.seq (.reg .false [⟨.some 15,.mov (.t 13),.none⟩,⟨.some 5,.mov (.t 15),.none⟩]) (.seq (.reg .true [⟨.some 16,.mov (.t 0),.none⟩,⟨.some 17,.mov (.t 5),.none⟩,⟨.some 18,.idxA 1 (.t 16) (.t 17),.none⟩,⟨.some 19,.load .false 1 (.t 18),.none⟩,⟨.some 20,.mov (.t 1),.none⟩,⟨.some 21,.mov (.t 5),.none⟩,⟨.some 22,.idxA 1 (.t 20) (.t 21),.none⟩,⟨.some 23,.load .false 1 (.t 22),.none⟩,⟨.some 24,.bin .neq (.t 19) (.t 23),.none⟩]) (.cond (.t 24) (.seq (.reg .false [⟨.some 4,.mov (.c (.bool .false)),.none⟩]) .ret) .skip)))) (.reg .false [⟨.some 25,.bin .add (.t 13) (.c (.int .i64 1)),.none⟩,⟨.some 13,.mov (.t 25),.none⟩]))))))) (.seq (.reg .false [⟨.some 4,.mov (.c (.bool .true)),.none⟩]) .ret))),[.tmp (.t 4)]⟩
theorem e50 : cfn Tryd.prog Tryd.f50 = some c50 := by kernel_rfl
theorem k50 : callable Tryd.prog 50 = true := by kernel_rfl
def c51 : VFn := ⟨66,.seq (.reg .false [⟨.some 1,.box 24 12 (.t 0),.none⟩,⟨.some 2,.alloc 98 36 (.agg [.int .u8 0,.int .i64 0,.int .i64 0,.int .u8 0,.int .i64 0,.int .i64 0,.int .u8 0,.int .i64 0,.int .i64 0,.int .u8 0,.int .i64 0,.int .i64 0,.int .u8 0,.int .i64 0,.int .i64 0,.int .u8 0,.int .i64 0,.int .i64 0,.int .u8 0,.int .i64 0,.int .i64 0,.int .u8 0,.int .i64 0,.int .i64 0,.int .u8 0,.int .i64 0,.int .i64 0,.int .u8 0,.int .i64 0,.int .i64 0,.int .u8 0,.int .i64 0,.int .i64 0,.int .u8 0,.int .i64 0,.int .i64 0]),.none⟩]) (.seq (.reg .false [⟨.some 4,.call (.c (.fn 18 [])) [],.none⟩,⟨.some 3,.alloc 24 12 (.agg [.int .i64 0,.int .i64 0,.int .i64 0,.int .i64 0,.int .i64 0,.int .i64 0,.int .i64 0,.int .i64 0,.int .i64 0,.int .i64 0,.int .i64 0,.int .i64 0]),.none⟩,⟨.none,.store 12 (.t 3) (.t 4),.none⟩]) (.seq (.reg .false [⟨.some 5,.fldA .false 0 1 (.t 1),.none⟩,⟨.some 6,.load .false 1 (.t 5),.none⟩,⟨.some 7,.fldA .false 0 1 (.t 3),.none⟩,⟨.some 8,.load .false 1 (.t 7),.none⟩,⟨.some 9,.build [.int .u8 0,.int .i64 0,.int .i64 0] [(0,(1,(.c (.int .u8 109)))),(1,(1,(.t 6))),(2,(1,(.t 8)))],.none⟩,⟨.some 10,.fldA .false 1 1 (.t 1),.none⟩,⟨.some 11,.load .false 1 (.t 10),.none⟩,⟨.some 12,.fldA .false 1 1 (.t 3),.none⟩,⟨.some 13,.load .false 1 (.t 12),.none⟩,⟨.some 14,.build [.int .u8 0,.int .i64 0,.int .i64 0] [(0,(1,(.c (.int .u8 110)))),(1,(1,(.t 11))),(2,(1,(.t 13)))],.none⟩,⟨.some 15,.fldA .false 2 1 (.t 1),.none⟩,⟨.some 16,.load .false 1 (.t 15),.none⟩,⟨.some 17,.fldA .false 2 1 (.t 3),.none⟩,⟨.some 18,.load .false 1 (.t 17),.none⟩,⟨.some 19,.build [.int .u8 0,.int .i64 0,.int .i64 0] [(0,(1,(.c (.int .u8 112)))),(1,(1,(.t 16))),(2,(1,(.t 18)))],.none⟩,⟨.some 20,.fldA .false 3 1 (.t 1),.none⟩,⟨.some 21,.load .false 1 (.t 20),.none⟩,⟨.some 22,.fldA .false 3 1 (.t 3),.none⟩,⟨.some 23,.load .false 1 (.t 22),.none⟩,⟨.some 24,.build [.int .u8 0,.int .i64 0,.int .i64 0] [(0,(1,(.c (.int .u8 113)))),(1,(1,(.t 21))),(2,(1,(.t 23)))],.none⟩,⟨.some 25,.fldA .false 4 1 (.t 1),.none⟩,⟨.some 26,.load .false 1 (.t 25),.none⟩,⟨.some 27,.fldA .false 4 1 (.t 3),.none⟩,⟨.some 28,.load .false 1 (.t 27),.none⟩,⟨.some 29,.build [.int .u8 0,.int .i64 0,.int .i64 0] [(0,(1,(.c (.int .u8 105)))),(1,(1,(.t 26))),(2,(1,(.t 28)))],.none⟩,⟨.some 30,.fldA .false 5 1 (.t 1),.none⟩,⟨.some 31,.load .false 1 (.t 30),.none⟩,⟨.some 32,.fldA .false 5 1 (.t 3),.none⟩,⟨.some 33,.load .false 1 (.t 32),.none⟩,⟨.some 34,.build [.int .u8 0,.int .i64 0,.int .i64 0] [(0,(1,(.c (.int .u8 111)))),(1,(1,(.t 31))),(2,(1,(.t 33)))],.none⟩,⟨.some 35,.fldA .false 6 1 (.t 1),.none⟩,⟨.some 36,.load .false 1 (.t 35),.none⟩,⟨.some 37,.fldA .false 6 1 (.t 3),.none⟩,⟨.some 38,.load .false 1 (.t 37),.none⟩,⟨.some 39,.build [.int .u8 0,.int .i64 0,.int .i64 0] [(0,(1,(.c (.int .u8 119)))),(1,(1,(.t 36))),(2,(1,(.t 38)))],.none⟩,⟨.some 40,.fldA .false 7 1 (.t 1),.none⟩,⟨.some 41,.load .false 1 (.t 40),.none⟩,⟨.some 42,.fldA .false 7 1 (.t 3),.none⟩,⟨.some 43,.load .false 1 (.t 42),.none⟩,⟨.some 44,.build [.int .u8 0,.int .i64 0,.int .i64 0] [(0,(1,(.c (.int .u8 104)))),(1,(1,(.t 41))),(2,(1,(.t 43)))],.none⟩,⟨.some 45,.fldA .false 8 1 (.t 1),.none⟩,⟨.some 46,.load .false 1 (.t 45),.none⟩,⟨.some 47,.fldA .false 8 1 (.t 3),.none⟩,⟨.some 48,.load .false 1 (.t 47),.none⟩,⟨.some 49,.build [.int .u8 0,.int .i64 0,.int .i64 0] [(0,(1,(.c (.int .u8 66)))),(1,(1,(.t 46))),(2,(1,(.t 48)))],.none⟩,⟨.some 50,.fldA .false 9 1 (.t 1),.none⟩,⟨.some 51,.load .false 1 (.t 50),.none⟩,⟨.some 52,.fldA .false 9 1 (.t 3),.none⟩,⟨.some 53,.load .false 1 (.t 52),.none⟩,⟨.some 54,.build [.int .u8 0,.int .i64 0,.int .i64 0] [(0,(1,(.c (.int .u8 65)))),(1,(1,(.t 51))),(2,(1,(.t 53)))],.none⟩,⟨.some 55,.fldA .false 10 1 (.t 1),.none⟩,⟨.some 56,.load .false 1 (.t 55),.none⟩,⟨.some 57,.fldA .false 10 1 (.t 3),.none⟩,⟨.some 58,.load .false 1 (.t 57),.none⟩,⟨.some 59,.build [.int .u8 0,.int .i64 0,.int .i64 0] [(0,(1,(.c (.int .u8 73)))),(1,(1,(.t 56))),(2,(1,(.t 58)))],.none⟩,⟨.some 60,.fldA .false 11 1 (.t 1),.none⟩,⟨.some 61,.load .false 1 (.t 60),.none⟩,⟨.some 62,.fldA .false 11 1 (.t 3),.none⟩,⟨.some 63,.load .false 1 (.t 62),.none⟩,⟨.some 64,.build [.int .u8 0,.int .i64 0,.int .i64 0] [(0,(1,(.c (.int .u8 99)))),(1,(1,(.t 61))),(2,(1,(.t 63)))],.none⟩,⟨.some 65,.build [.int .u8 0,.int .i64 0,.int .i64 0,.int .u8 0,.int .i64 0,.int .i64 0,.int .u8 0,.int .i64 0,.int .i64 0,.int .u8 0,.int .i64 0,.int .i64 0,.int .u8 0,.int .i64 0,.int .i64 0,.int .u8 0,.int .i64 0,.int .i64 0,.int .u8 0,.int .i64 0,.int .i64 0,.int .u8 0,.int .i64 0,.int .i64 0,.int .u8 0,.int .i64 0,.int .i64 0,.int .u8 0,.int .i64 0,.int .i64 0,.int .u8 0,.int .i64 0,.int .i64 0,.int .u8 0,.int .i64 0,.int .i64 0] [(0,(3,(.t 9))),(3,(3,(.t 14))),(6,(3,(.t 19))),(9,(3,(.t 24))),(12,(3,(.t 29))),(15,(3,(.t 34))),(18,(3,(.t 39))),(21,(3,(.t 44))),(24,(3,(.t 49))),(27,(3,(.t 54))),(30,(3,(.t 59))),(33,(3,(.t 64)))],.none⟩,⟨.none,.store 36 (.t 2) (.t 65),.none⟩]) .ret)),[.cell .true 36 (.t 2)]⟩
theorem e51 : cfn Tryd.prog Tryd.f51 = some c51 := by kernel_rfl
theorem k51 : callable Tryd.prog 51 = true := by kernel_rfl
def c52 : VFn := ⟨26,.seq (.reg .false [⟨.some 6,.mov (.t 1),.none⟩,⟨.some 7,.len .false (.t 6),.none⟩,⟨.some 8,.mov (.c (.int .i64 0)),.none⟩]) (.block 0 (.loop (.seq (.reg .false [⟨.some 9,.bin .lss (.t 8) (.t 7),.none⟩]) (.seq (.cond (.t 9) .skip (.exit 0)) (.seq (.block 1 (.seq (.reg .false [⟨.some 10,.mov (.t 8),.none⟩,⟨.some 11,.idxA 1 (.t 6) (.t 8),.none⟩,⟨.some 12,.load .false 1 (.t 11),.none⟩,⟨.some 4,.mov (.t 10),.none⟩,⟨.some 5,.mov (.t 12),.none⟩]) (.seq (.seq (.reg .false [⟨.some 13,.mov (.t 4),.none⟩,⟨.some 14,.bin .gtr (.t 13) (.c (.int .i64 0)),.none⟩]) (.cond (.t 14) (.reg .false [⟨.some 15,.mov (.t 0),.none⟩,⟨.some 16,.nilCheck (.t 15),.none⟩,⟨.some 17,.fldA .true 0 2 (.t 16),.none⟩,⟨.some 18,.call (.c (.fn 32 [])) [.t 17,.c (.int .u8 32)],.none⟩]) .skip)) (.regL [⟨.some 19,.mov (.t 0),.none⟩,⟨.some 20,.nilCheck (.t 19),.none⟩,⟨.some 21,.fldA .true 0 2 (.t 20),.none⟩,⟨.some 22,.mov (.t 5),.none⟩,⟨.some 23,.call (.c (.fn 62 [])) [.t 22],.none⟩] [⟨.some 24,.call (.c (.fn 34 [])) [.t 21,.t 23],.none⟩])))) (.reg .false [⟨.some 25,.bin .add (.t 8) (.c (.int .i64 1)),.none⟩,⟨.some 8,.mov (.t 25),.none⟩])))))),[]⟩
theorem e52 : cfn Tryd.prog Tryd.f52 = some c52 := by kernel_rfl
theorem k52 : callable Tryd.prog 52 = true := by kernel_rfl
def c54 : VFn := ⟨9,.seq (.reg .false [⟨.some 4,.mov (.c (.bool .false)),.none⟩]) (.seq (.reg .false [⟨.some 5,.mov (.t 0),.none⟩,⟨.some 6,.mov (.t 1),.none⟩,⟨.some 7,.call (.c (.fn 64 [])) [.t 5,.t 6],.none⟩,⟨.some 8,.bin .geq (.t 7) (.c (.int .i64 0)),.none⟩,⟨.some 4,.mov (.t 8),.none⟩]) .ret),[.tmp (.t 4)]⟩
theorem e54 : cfn Tryd.prog Tryd.f54 = some c54 := by kernel_rfl
theorem k54 : callable Tryd.prog 54 = true := by kernel_rfl
def c55 : VFn := ⟨14,.seq (.reg .false [⟨.some 3,.mov (.c (.bool .false)),.none⟩]) (.seq (.reg .false [⟨.some 4,.mov (.t 0),.none⟩,⟨.some 5,.fldA .false 0 1 (.t 1),.none⟩,⟨.some 6,.load .false 1 (.t 5),.none⟩,⟨.some 7,.bin .lss (.t 4) (.t 6),.none⟩,⟨.some 8,.mov (.t 7),.none⟩,⟨.some 9,.mov (.t 0),.some ((.t 8),.false)⟩,⟨.some 10,.fldA .false 1 1 (.t 1),.some ((.t 8),.false)⟩,⟨.some 11,.load .false 1 (.t 10),.some ((.t 8),.false)⟩,⟨.some 12,.bin .gtr (.t 9) (.t 11),.some ((.t 8),.false)⟩,⟨.some 13,.pick (.t 8) (.c (.bool .true)) (.t 12),.none⟩,⟨.some 3,.mov (.t 13),.none⟩]) .ret),[.tmp (.t 3)]⟩
theorem e55 : cfn Tryd.prog Tryd.f55 = some c55 := by kernel_rfl
theorem k55 : callable Tryd.prog 55 = true := by kernel_rfl
def c56 : VFn := ⟨102,.seq (.reg .false [⟨.some 2,.mov (.c .nils),.none⟩,⟨.some 3,.mov (.c (.int .i64 0)),.none⟩,⟨.some 4,.mov (.c (.int .i64 0)),.none⟩]) (.seq (.reg .false [⟨.some 5,.mov (.c .nils),.none⟩]) (.seq (.reg .false [⟨.some 6,.mov (.c (.int .i64 0)),.none⟩]) (.seq (.seq (.reg .false [⟨.some 7,.mov (.c (.int .i64 0)),.none⟩]) (.block 0 (.loop (.seq (.seq (.reg .false [⟨.some 12,.mov (.t 7),.none⟩,⟨.some 13,.mov (.t 0),.none⟩,⟨.some 14,.len .true (.t 13),.none⟩,⟨.some 15,.bin .lss (.t 12) (.t 14),.none⟩]) (.cond (.t 15) .skip (.exit 0))) (.block 1 (.seq (.reg .false [⟨.some 16,.mov (.t 0),.none⟩,⟨.some 17,.mov (.t 7),.none⟩,⟨.some 18,.call (.c (.fn 65 [])) [.t 16,.t 17],.none⟩,⟨.some 8,.mov (.t 18),.none⟩]) (.seq (.seq (.reg .false [⟨.some 19,.mov (.t 8),.none⟩,⟨.some 20,.bin .eql (.t 19) (.c (.int .i64 0)),.none⟩]) (.cond (.t 20) (.seq (.reg .false [⟨.some 21,.mov (.t 7),.none⟩,⟨.some 2,.mov (.c .nils),.none⟩,⟨.some 3,.mov (.t 21),.none⟩,⟨.some 4,.mov (.c (.int .i64 1)),.none⟩]) .ret) .skip)) (.seq (.reg .false [⟨.some 22,.mov (.t 0),.none⟩,⟨.some 23,.mov (.t 7),.none⟩,⟨.some 24,.idxS (.t 22) (.t 23),.none⟩,⟨.some 9,.mov (.t 24),.none⟩]) (.seq (.seq (.reg .false [⟨.some 25,.mov (.t 6),.none⟩,⟨.some 26,.bin .eql (.t 25) (.c (.int .i64 1)),.none⟩]) (.cond (.t 26) (.seq (.seq (.reg .false [⟨.some 27,.mov (.t 9),.none⟩,⟨.some 28,.bin .eql (.t 27) (.c (.int .u8 10)),.none⟩]) (.cond (.t 28) (.reg .false [⟨.some 6,.mov (.c (.int .i64 0)),.none⟩]) .skip)) (.seq (.reg .false [⟨.some 29,.mov (.t 7),.none⟩,⟨.some 30,.mov (.t 8),.none⟩,⟨.some 31,.bin .add (.t 29) (.t 30),.none⟩,⟨.some 7,.mov (.t 31),.none⟩]) (.exit 1))) .skip)) (.seq (.seq (.reg .false [⟨.some 32,.mov (.t 9),.none⟩,⟨.some 33,.bin .eql (.t 32) (.c (.int .u8 35)),.none⟩]) (.cond (.t 33) (.reg .false [⟨.some 6,.mov (.c (.int .i64 1)),.none⟩]) .skip)) (.seq (.seq (.reg .false [⟨.some 34,.mov (.t 9),.none⟩,⟨.some 35,.bin .eql (.t 34) (.c (.int .u8 35)),.none⟩,⟨.some 36,.mov (.t 35),.none⟩,⟨.some 37,.mov (.t 9),.some ((.t 36),.false)⟩,⟨.some 38,.bin .eql (.t 37) (.c (.int .u8 32)),.some ((.t 36),.false)⟩,⟨.some 39,.pick (.t 36) (.c (.bool .true)) (.t 38),.none⟩,⟨.some 40,.mov (.t 39),.none⟩,⟨.some 41,.mov (.t 9),.some ((.t 40),.false)⟩,⟨.some 42,.bin .eql (.t 41) (.c (.int .u8 9)),.some ((.t 40),.false)⟩,⟨.some 43,.pick (.t 40) (.c (.bool .true)) (.t 42),.none⟩,⟨.some 44,.mov (.t 43),.none⟩,⟨.some 45,.mov (.t 9),.some ((.t 44),.false)⟩,⟨.some 46,.bin .eql (.t 45) (.c (.int .u8 10)),.some ((.t 44),.false)⟩,⟨.some 47,.pick (.t 44) (.c (.bool .true)) (.t 46),.none⟩]) (.cond (.t 47) (.seq (.reg .false [⟨.some 48,.mov (.t 7),.none⟩,⟨.some 49,.bin .add (.t 48) (.c (.int .i64 1)),.none⟩,⟨.some 7,.mov (.t 49),.none⟩]) (.exit 1)) .skip)) (.seq (.seq (.reg .false [⟨.some 50,.mov (.t 0),.none⟩,⟨.some 51,.mov (.t 7),.none⟩,⟨.some 52,.call (.c (.fn 66 [])) [.t 50,.t 51,.c (.int .u8 48),.c (.int .u8 57)],.none⟩,⟨.some 53,.not (.t 52),.none⟩]) (.cond (.t 53) (.seq (.reg .false [⟨.some 54,.mov (.t 5),.none⟩,⟨.some 55,.mov (.t 0),.none⟩,⟨.some 56,.mov (.t 7),.none⟩,⟨.some 57,.mov (.t 8),.none⟩,⟨.some 58,.call (.c (.fn 67 [])) [.t 55,.t 56,.t 57],.none⟩,⟨.some 59,.mov (.t 7),.none⟩,⟨.some 60,.build [.int .i64 0,.int .i32 0,.int .i64 0,.int .i64 0] [(0,(1,(.c (.int .i64 1)))),(1,(1,(.t 58))),(3,(1,(.t 59)))],.none⟩,⟨.some 61,.bslice 111 4 [.t 60],.none⟩,⟨.some 62,.append 111 4 32 (.t 54) (.t 61),.none⟩,⟨.some 5,.mov (.t 62),.none⟩]) (.seq (.reg .false [⟨.some 63,.mov (.t 7),.none⟩,⟨.some 64,.mov (.t 8),.none⟩,⟨.some 65,.bin .add (.t 63) (.t 64),.none⟩,⟨.some 7,.mov (.t 65),.none⟩]) (.exit 1))) .skip)) (.seq (.reg .false [⟨.some 66,.mov (.t 7),.none⟩,⟨.some 10,.mov (.c (.int .i64 0)),.none⟩,⟨.some 11,.mov (.t 66),.none⟩]) (.seq (.block 2 (.loop (.seq (.seq (.reg .false [⟨.some 67,.mov (.t 0),.none⟩,⟨.some 68,.mov (.t 11),.none⟩,⟨.some 69,.call (.c (.fn 66 [])) [.t 67,.t 68,.c (.int .u8 48),.c (.int .u8 57)],.none⟩]) (.cond (.t 69) .skip (.exit 2))) (.block 3 (.seq (.reg .false [⟨.some 70,.mov (.t 10),.none⟩,⟨.some 71,.bin .mul (.c (.int .i64 10)) (.t 70),.none⟩,⟨.some 72,.mov (.t 0),.none⟩,⟨.some 73,.mov (.t 11),.none⟩,⟨.some 74,.idxS (.t 72) (.t 73),.none⟩,⟨.some 75,.bin .sub (.t 74) (.c (.int .u8 48)),.none⟩,⟨.some 76,.convI .i64 (.t 75),.none⟩,⟨.some 77,.bin .add (.t 71) (.t 76),.none⟩,⟨.some 78,.minmax .false (.t 77) (.c (.int .i64 2199023255552)),.none⟩,⟨.some 10,.mov (.t 78),.none⟩]) (.reg .false [⟨.some 79,.mov (.t 11),.none⟩,⟨.some 80,.bin .add (.t 79) (.c (.int .i64 1)),.none⟩,⟨.some 11,.mov (.t 80),.none⟩])))))) (.seq (.seq (.reg .false [⟨.some 81,.mov (.t 10),.none⟩,⟨.some 82,.bin .gtr (.t 81) (.c (.int .i64 1099511627776)),.none⟩,⟨.some 83,.mov (.t 82),.none⟩,⟨.some 84,.mov (.t 9),.some ((.t 83),.false)⟩,⟨.some 85,.bin .eql (.t 84) (.c (.int .u8 48)),.some ((.t 83),.false)⟩,⟨.some 86,.mov (.t 85),.some ((.t 83),.false)⟩,⟨.some 87,.mov (.t 11),.some ((.t 86),.true)⟩,⟨.some 88,.mov (.t 7),.some ((.t 86),.true)⟩,⟨.some 89,.bin .add (.t 88) (.c (.int .i64 1)),.some ((.t 86),.true)⟩,⟨.some 90,.bin .gtr (.t 87) (.t 89),.some ((.t 86),.true)⟩,⟨.some 91,.pick (.t 86) (.t 90) (.c (.bool .false)),.some ((.t 83),.false)⟩,⟨.some 92,.pick (.t 83) (.c (.bool .true)) (.t 91),.none⟩]) (.cond (.t 92) (.seq (.reg .false [⟨.some 93,.mov (.t 7),.none⟩,⟨.some 2,.mov (.c .nils),.none⟩,⟨.some 3,.mov (.t 93),.none⟩,⟨.some 4,.mov (.c (.int .i64 1)),.none⟩]) .ret) .skip)) (.seq (.reg .false [⟨.some 94,.mov (.t 5),.none⟩,⟨.some 95,.mov (.t 10),.none⟩,⟨.some 96,.mov (.t 7),.none⟩,⟨.some 97,.build [.int .i64 0,.int .i32 0,.int .i64 0,.int .i64 0] [(0,(1,(.c (.int .i64 2)))),(2,(1,(.t 95))),(3,(1,(.t 96)))],.none⟩,⟨.some 98,.bslice 111 4 [.t 97],.none⟩,⟨.some 99,.append 111 4 32 (.t 94) (.t 98),.none⟩,⟨.some 5,.mov (.t 99),.none⟩]) (.reg .false [⟨.some 100,.mov (.t 11),.none⟩,⟨.some 7,.mov (.t 100),.none⟩]))))))))))))))))) (.seq (.reg .false [⟨.some 101,.mov (.t 5),.none⟩,⟨.some 2,.mov (.t 101),.none⟩,⟨.some 3,.mov (.c (.int .i64 0)),.none⟩,⟨.some 4,.mov (.c (.int .i64 0)),.none⟩]) .ret)))),[.tmp (.t 2),.tmp (.t 3),.tmp (.t 4)]⟩
theorem e56 : cfn Tryd.prog Tryd.f56 = some c56 := by kernel_rfl
theorem k56 : callable Tryd.prog 56 = true := by kernel_rfl
def c57 : VFn := ⟨49,.seq (.reg .false [⟨.some 4,.alloc 108 3 (.agg [.nils,.int .i64 0,.int .i64 0]),.none⟩]) (.seq (.reg .false [⟨.some 7,.mov (.t 1),.none⟩,⟨.some 8,.build [.nils,.int .i64 0,.int .i64 0] [(0,(1,(.c .nils))),(1,(1,(.t 7))),(2,(1,(.c (.int .i64 0))))],.none⟩,⟨.some 5,.alloc 108 3 (.agg [.nils,.int .i64 0,.int .i64 0]),.none⟩,⟨.none,.store 3 (.t 5) (.t 8),.none⟩]) (.seq (.block 0 (.loop (.seq (.seq (.reg .false [⟨.some 9,.mov (.t 0),.none⟩,⟨.some 10,.fldA .false 1 1 (.t 5),.none⟩,⟨.some 11,.load .false 1 (.t 10),.none⟩,⟨.some 12,.call (.c (.fn 68 [])) [.t 9,.t 11,.c (.int .i32 91)],.none⟩,⟨.some 13,.mov (.t 12),.none⟩,⟨.some 14,.mov (.t 0),.some ((.t 13),.false)⟩,⟨.some 15,.fldA .false 1 1 (.t 5),.some ((.t 13),.false)⟩,⟨.some 16,.load .false 1 (.t 15),.some ((.t 13),.false)⟩,⟨.some 17,.call (.c (.fn 68 [])) [.t 14,.t 16,.c (.int .i32 40)],.some ((.t 13),.false)⟩,⟨.some 18,.pick (.t 13) (.c (.bool .true)) (.t 17),.none⟩,⟨.some 19,.mov (.t 18),.none⟩,⟨.some 20,.mov (.t 0),.some ((.t 19),.false)⟩,⟨.some 21,.fldA .false 1 1 (.t 5),.some ((.t 19),.false)⟩,⟨.some 22,.load .false 1 (.t 21),.some ((.t 19),.false)⟩,⟨.some 23,.call (.c (.fn 68 [])) [.t 20,.t 22,.c (.int .i32 123)],.some ((.t 19),.false)⟩,⟨.some 24,.pick (.t 19) (.c (.bool .true)) (.t 23),.none⟩,⟨.some 25,.mov (.t 24),.none⟩,⟨.some 26,.mov (.t 0),.some ((.t 25),.false)⟩,⟨.some 27,.fldA .false 1 1 (.t 5),.some ((.t 25),.false)⟩,⟨.some 28,.load .false 1 (.t 27),.some ((.t 25),.false)⟩,⟨.some 29,.call (.c (.fn 68 [])) [.t 26,.t 28,.c (.int .i32 60)],.some ((.t 25),.false)⟩,⟨.some 30,.pick (.t 25) (.c (.bool .true)) (.t 29),.none⟩]) (.cond (.t 30) .skip (.exit 0))) (.block 1 (.seq (.reg .false [⟨.some 31,.mov (.t 0),.none⟩,⟨.some 32,.fldA .false 1 1 (.t 5),.none⟩,⟨.some 33,.load .false 1 (.t 32),.none⟩,⟨.some 34,.call (.c (.fn 69 [])) [.t 31,.t 33],.none⟩,⟨.some 6,.alloc 108 3 (.agg [.nils,.int .i64 0,.int .i64 0]),.none⟩,⟨.none,.store 3 (.t 6) (.t 34),.none⟩]) (.seq (.seq (.reg .false [⟨.some 35,.fldA .false 2 1 (.t 6),.none⟩,⟨.some 36,.load .false 1 (.t 35),.none⟩,⟨.some 37,.bin .eql (.t 36) (.c (.int .i64 1)),.none⟩]) (.cond (.t 37) (.seq (.reg .false [⟨.some 38,.load .true 3 (.t 6),.none⟩,⟨.none,.store 3 (.t 4) (.t 38),.none⟩]) .ret) .skip)) (.seq (.reg .false [⟨.some 39,.fldA .false 0 1 (.t 5),.none⟩,⟨.some 40,.load .false 1 (.t 39),.none⟩,⟨.some 41,.fldA .false 0 1 (.t 6),.none⟩,⟨.some 42,.load .false 1 (.t 41),.none⟩,⟨.some 43,.append 42 20 176 (.t 40) (.t 42),.none⟩,⟨.some 44,.fldA .false 0 1 (.t 5),.none⟩,⟨.none,.store 1 (.t 44) (.t 43),.none⟩]) (.reg .false [⟨.some 45,.fldA .false 1 1 (.t 6),.none⟩,⟨.some 46,.load .false 1 (.t 45),.none⟩,⟨.some 47,.fldA .false 1 1 (.t 5),.none⟩,⟨.none,.store 1 (.t 47) (.t 46),.none⟩])))))))) (.seq (.reg .false [⟨.some 48,.load .true 3 (.t 5),.none⟩,⟨.none,.store 3 (.t 4) (.t 48),.none⟩]) .ret))),[.cell .true 3 (.t 4)]⟩
theorem e57 : cfn Tryd.prog Tryd.f57 = some c57 := by kernel_rfl
theorem k57 : callable Tryd.prog 57 = true := by kernel_rfl
def c58 : VFn := ⟨9,.seq (.reg .false [⟨.some 2,.alloc 114 1 (.agg [.nils]),.none⟩]) (.seq (.seq (.reg .false [⟨.some 3,.mov (.t 0),.none⟩,⟨.some 4,.call (.c (.fn 5 [])) [.t 3],.none⟩,⟨.some 5,.not (.t 4),.none⟩]) (.cond (.t 5) (.seq (.reg .false [⟨.some 6,.build [.nils] [],.none⟩,⟨.none,.store 1 (.t 2) (.t 6),.none⟩]) .ret) .skip)) (.seq (.reg .false [⟨.some 7,.mov (.t 0),.none⟩,⟨.some 8,.build [.nils] [(0,(1,(.t 7)))],.none⟩,⟨.none,.store 1 (.t 2) (.t 8),.none⟩]) .ret)),[.cell .true 1 (.t 2)]⟩
theorem e58 : cfn Tryd.prog Tryd.f58 = some c58 := by kernel_rfl
theorem k58 : callable Tryd.prog 58 = true := by kernel_rfl
def c59 : VFn := ⟨13,.seq (.reg .false [⟨.some 4,.mov (.c (.bool .false)),.none⟩]) (.seq (.reg .false [⟨.some 5,.mov (.t 1),.none⟩,⟨.some 6,.bin .geq (.t 5) (.c (.int .i64 0)),.none⟩,⟨.some 7,.mov (.t 6),.none⟩,⟨.some 8,.mov (.t 1),.some ((.t 7),.true)⟩,⟨.some 9,.mov (.t 0),.some ((.t 7),.true)⟩,⟨.some 10,.len .false (.t 9),.some ((.t 7),.true)⟩,⟨.some 11,.bin .lss (.t 8) (.t 10),.some ((.t 7),.true)⟩,⟨.some 12,.pick (.t 7) (.t 11) (.c (.bool .false)),.none⟩,⟨.some 4,.mov (.t 12),.none⟩]) .ret),[.tmp (.t 4)]⟩
theorem e59 : cfn Tryd.prog Tryd.f59 = some c59 := by kernel_rfl
theorem k59 : callable Tryd.prog 59 = true := by kernel_rfl
def c60 : VFn := ⟨12,.seq (.reg .false [⟨.some 4,.alloc 3 1 (.int .i64 0),.none⟩]) (.seq (.seq (.reg .false [⟨.some 6,.mov (.t 0),.none⟩,⟨.some 7,.call (.c (.fn 58 [])) [.t 6],.none⟩,⟨.some 8,.mov (.t 1),.none⟩,⟨.some 9,.call (.c (.fn 70 [])) [.t 7,.t 8],.none⟩]) (.block 0 (.rangeF (.t 9) [10] (.reg .false [⟨.some 5,.mov (.t 10),.none⟩]) (.block 1 (.seq (.reg .false [⟨.some 11,.mov (.t 5),.none⟩,⟨.none,.store 1 (.t 4) (.t 11),.none⟩]) .ret))))) (.seq (.reg .false [⟨.none,.store 1 (.t 4) (.c (.int .i64 (-1))),.none⟩]) .ret)),[.cell .false 1 (.t 4)]⟩
theorem e60 : cfn Tryd.prog Tryd.f60 = some c60 := by kernel_rfl
theorem k60 : callable Tryd.prog 60 = true := by kernel_rfl
def c61 : VFn := ⟨9,.seq (.reg .false [⟨.some 2,.mov (.c .nils),.none⟩]) (.seq (.reg .false [⟨.some 3,.mov (.t 0),.none⟩,⟨.some 4,.mov (.t 0),.none⟩,⟨.some 5,.len .false (.t 4),.none⟩,⟨.some 6,.mov (.t 0),.none⟩,⟨.some 7,.len .false (.t 6),.none⟩,⟨.some 8,.slice 1 (.t 3) .none (.some (.t 5)) (.some (.t 7)),.none⟩,⟨.some 2,.mov (.t 8),.none⟩]) .ret),[.tmp (.t 2)]⟩
theorem e61 : cfn Tryd.prog Tryd.f61 = some c61 := by kernel_rfl
theorem k61 : callable Tryd.prog 61 = true := by kernel_rfl
def c64 : VFn := ⟨19,.seq (.reg .false [⟨.some 4,.mov (.c (.int .i64 0)),.none⟩]) (.seq (.seq (.reg .false [⟨.some 6,.mov (.t 0),.none⟩,⟨.some 7,.len .false (.t 6),.none⟩,⟨.some 8,.mov (.c (.int .i64 0)),.none⟩]) (.block 0 (.loop (.seq (.reg .false [⟨.some 9,.bin .lss (.t 8) (.t 7),.none⟩]) (.seq (.cond (.t 9) .skip (.exit 0)) (.seq (.block 1 (.seq (.reg .false [⟨.some 10,.mov (.t 8),.none⟩,⟨.some 5,.mov (.t 10),.none⟩]) (.seq (.reg .false [⟨.some 11,.mov (.t 1),.none⟩,⟨.some 12,.mov (.t 0),.none⟩,⟨.some 13,.mov (.t 5),.none⟩,⟨.some 14,.idxA 1 (.t 12) (.t 13),.none⟩,⟨.some 15,.load .false 1 (.t 14),.none⟩,⟨.some 16,.call (.t 11) [.t 15],.none⟩]) (.cond (.t 16) (.seq (.reg .false [⟨.some 17,.mov (.t 5),.none⟩,⟨.some 4,.mov (.t 17),.none⟩]) .ret) .skip)))) (.reg .false [⟨.some 18,.bin .add (.t 8) (.c (.int .i64 1)),.none⟩,⟨.some 8,.mov (.t 18),.none⟩]))))))) (.seq (.reg .false [⟨.some 4,.mov (.c (.int .i64 (-1))),.none⟩]) .ret)),[.tmp (.t 4)]⟩
theorem e64 : cfn Tryd.prog Tryd.f64 = some c64 := by kernel_rfl
theorem k64 : callable Tryd.prog 64 = true := by kernel_rfl
def c65 : VFn := ⟨114,.seq (.reg .false [⟨.some 4,.mov (.c (.int .i64 0)),.none⟩]) (.seq (.seq (.reg .false [⟨.some 5,.mov (.t 0),.none⟩,⟨.some 6,.mov (.t 1),.none⟩,⟨.some 7,.call (.c (.fn 66 [])) [.t 5,.t 6,.c (.int .u8 0),.c (.int .u8 127)],.none⟩]) (.cond (.t 7) (.seq (.reg .false [⟨.some 4,.mov (.c (.int .i64 1)),.none⟩]) .ret) .skip)) (.seq (.seq (.reg .false [⟨.some 8,.mov (.t 0),.none⟩,⟨.some 9,.mov (.t 1),.none⟩,⟨.some 10,.call (.c (.fn 66 [])) [.t 8,.t 9,.c (.int .u8 194),.c (.int .u8 223)],.none⟩,⟨.some 11,.mov (.t 10),.none⟩,⟨.some 12,.mov (.t 0),.some ((.t 11),.true)⟩,⟨.some 13,.mov (.t 1),.some ((.t 11),.true)⟩,⟨.some 14,.bin .add (.t 13) (.c (.int .i64 1)),.some ((.t 11),.true)⟩,⟨.some 15,.call (.c (.fn 72 [])) [.t 12,.t 14,.c (.int .i64 1)],.some ((.t 11),.true)⟩,⟨.some 16,.pick (.t 11) (.t 15) (.c (.bool .false)),.none⟩]) (.cond (.t 16) (.seq (.reg .false [⟨.some 4,.mov (.c (.int .i64 2)),.none⟩]) .ret) .skip)) (.seq (.seq (.reg .false [⟨.some 17,.mov (.t 0),.none⟩,⟨.some 18,.mov (.t 1),.none⟩,⟨.some 19,.call (.c (.fn 66 [])) [.t 17,.t 18,.c (.int .u8 224),.c (.int .u8 224)],.none⟩,⟨.some 20,.mov (.t 19),.none⟩,⟨.some 21,.mov (.t 0),.some ((.t 20),.true)⟩,⟨.some 22,.mov (.t 1),.some ((.t 20),.true)⟩,⟨.some 23,.bin .add (.t 22) (.c (.int .i64 1)),.some ((.t 20),.true)⟩,⟨.some 24,.call (.c (.fn 66 [])) [.t 21,.t 23,.c (.int .u8 160),.c (.int .u8 191)],.some ((.t 20),.true)⟩,⟨.some 25,.pick (.t 20) (.t 24) (.c (.bool .false)),.none⟩,⟨.some 26,.mov (.t 25),.none⟩,⟨.some 27,.mov (.t 0),.some ((.t 26),.true)⟩,⟨.some 28,.mov (.t 1),.some ((.t 26),.true)⟩,⟨.some 29,.bin .add (.t 28) (.c (.int .i64 2)),.some ((.t 26),.true)⟩,⟨.some 30,.call (.c (.fn 72 [])) [.t 27,.t 29,.c (.int .i64 1)],.some ((.t 26),.true)⟩,⟨.some 31,.pick (.t 26) (.t 30) (.c (.bool .false)),.none⟩,⟨.some 32,.mov (.t 31),.none⟩,⟨.some 33,.mov (.t 0),.some ((.t 32),.false)⟩,⟨.some 34,.mov (.t 1),.some ((.t 32),.false)⟩,⟨.some 35,.call (.c (.fn 66 [])) [.t 33,.t 34,.c (.int .u8 225),.c (.int .u8 236)],.some ((.t 32),.false)⟩,⟨.some 36,.mov (.t 35),.some ((.t 32),.false)⟩,⟨.some 37,.mov (.t 0),.some ((.t 36),.true)⟩,⟨.some 38,.mov (.t 1),.some ((.t 36),.true)⟩,⟨.some 39,.bin .add (.t 38) (.c (.int .i64 1)),.some ((.t 36),.true)⟩,⟨.some 40,.call (.c (.fn 72 [])) [.t 37,.t 39,.c (.int .i64 2)],.some ((.t 36),.true)⟩,⟨.some 41,.pick (.t 36) (.t 40) (.c (.bool .false)),.some ((.t 32),.false)⟩,⟨.some 42,.pick (.t 32) (.c (.bool .true)) (.t 41),.none⟩,⟨.some 43,.mov (.t 42),.none⟩,⟨.some 44,.mov (.t 0),.some ((.t 43),.false)⟩,⟨.some 45,.mov (.t 1),.some ((.t 43),.false)⟩,⟨.some 46,.call (.c (.fn 66 [])) [.t 44,.t 45,.c (.int .u8 237),.c (.int .u8 237)],.some ((.t 43),.false)⟩,⟨.some 47,.mov (.t 46),.some ((.t 43),.false)⟩,⟨.some 48,.mov (.t 0),.some ((.t 47),.true)⟩,⟨.some 49,.mov (.t 1),.some ((.t 47),.true)⟩,⟨.some 50,.bin .add (.t 49) (.c (.int .i64 1)),.some ((.t 47),.true)⟩,⟨.some 51,.call (.c (.fn 66 [])) [.t 48,.t 50,.c (.int .u8 128),.c (.int .u8 159)],.some ((.t 47),.true)⟩,⟨.some 52,.pick (.t 47) (.t 51) (.c (.bool .false)),.some ((.t 43),.false)⟩,⟨.some 53,.mov (.t 52),.some ((.t 43),.false)⟩,⟨.some 54,.mov (.t 0),.some ((.t 53),.true)⟩,⟨.some 55,.mov (.t 1),.some ((.t 53),.true)⟩,⟨.some 56,.bin .add (.t 55) (.c (.int .i64 2)),.some ((.t 53),.true)⟩,⟨.some 57,.call (.c (.fn 72 [])) [.t 54,.t 56,.c (.int .i64 1)],.some ((.t 53),.true)⟩,⟨.some 58,.pick (.t 53) (.t 57) (.c (.bool .false)),.some ((.t 43),.false)⟩,⟨.some 59,.pick (.t 43) (.c (.bool .true)) (.t 58),.none⟩,⟨.some 60,.mov (.t 59),.none⟩,⟨.some 61,.mov (.t 0),.some ((.t 60),.false)⟩,⟨.some 62,.mov (.t 1),.some ((.t 60),.false)⟩,⟨.some 63,.call (.c (.fn 66 [])) [.t 61,.t 62,.c (.int .u8 238),.c (.int .u8 239)],.some ((.t 60),.false)⟩,⟨.some 64,.mov (.t 63),.some ((.t 60),.false)⟩,⟨.some 65,.mov (.t 0),.some ((.t 64),.true)⟩,⟨.some 66,.mov (.t 1),.some ((.t 64),.true)⟩,⟨.some 67,.bin .add (.t 66) (.c (.int .i64 1)),.some ((.t 64),.true)⟩,⟨.some 68,.call (.c (.fn 72 [])) [.t 65,.t 67,.c (.int .i64 2)],.some ((.t 64),.true)⟩,⟨.some 69,.pick (.t 64) (.t 68) (.c (.bool .false)),.some ((.t 60),.false)⟩,⟨.some 70,.pick (.t 60) (.c (.bool .true)) (.t 69),.none⟩]) (.cond (.t 70) (.seq (.reg .false [⟨.some 4,.mov (.c (.int .i64 3)),.none⟩]) .ret) .skip)) (.seq (.seq (.reg .false [⟨.some 71,.mov (.t 0),.none⟩,⟨.some 72,.mov (.t 1),.none⟩,⟨.some 73,.call (.c (.fn 66 [])) [.t 71,.t 72,.c (.int .u8 240),.c (.int .u8 240)],.none⟩,⟨.some 74,.mov (.t 73),.none⟩,⟨.some 75,.mov (.t 0),.some ((.t 74),.true)⟩,⟨.some 76,.mov (.t 1),.some ((.t 74),.true)⟩,⟨.some 77,.bin .add (.t 76) (.c (.int .i64 1)),.some ((.t 74),.true)⟩,⟨.some 78,.call (.c (.fn 66 [])) [.t 75,.t 77,.c (.int .u8 144),.c (.int .u8 191)],.some ((.t 74),.true)⟩,⟨.some 79,.pick (.t 74) (.t 78) (.c (.bool .false)),.none⟩,⟨.some 80,.mov (.t 79),.none⟩,⟨.some 81,.mov (.t 0),.some ((.t 80),.true)⟩,⟨.some 82,.mov (.t 1),.some ((.t 80),.true)⟩,⟨.some 83,.bin .add (.t 82) (.c (.int .i64 2)),.some ((.t 80),.true)⟩,⟨.some 84,.call (.c (.fn 72 [])) [.t 81,.t 83,.c (.int .i64 2)],.some ((.t 80),.true)⟩,⟨.some 85,.pick (.t 80) (.t 84) (.c (.bool .false)),.none⟩,⟨.some 86,.mov (.t 85),.none⟩,⟨.some 87,.mov (.t 0),.some ((.t 86),.false)⟩,⟨.some 88,.mov (.t 1),.some ((.t 86),.false)⟩,⟨.some 89,.call (.c (.fn 66 [])) [.t 87,.t 88,.c (.int .u8 241),.c (.int .u8 243)],.some ((.t 86),.false)⟩,⟨.some 90,.mov (.t 89),.some ((.t 86),.false)⟩,⟨.some 91,.mov (.t 0),.some ((.t 90),.true)⟩,⟨.some 92,.mov (.t 1),.some ((.t 90),.true)⟩,⟨.some 93,.bin .add (.t 92) (.c (.int .i64 1)),.some ((.t 90),.true)⟩,⟨.some 94,.call (.c (.fn 72 [])) [.t 91,.t 93,.c (.int .i64 3)],.some ((.t 90),.true)⟩,⟨.some 95,.pick (.t 90) (.t 94) (.c (.bool .false)),.some ((.t 86),.false)⟩,⟨.some 96,.pick (.t 86) (.c (.bool .true)) (.t 95),.none⟩,⟨.some 97,.mov (.t 96),.none⟩,⟨.some 98,.mov (.t 0),.some ((.t 97),.false)⟩,⟨.some 99,.mov (.t 1),.some ((.t 97),.false)⟩,⟨.some 100,.call (.c (.fn 66 [])) [.t 98,.t 99,.c (.int .u8 244),.c (.int .u8 244)],.some ((.t 97),.false)⟩,⟨.some 101,.mov (.t 100),.some ((.t 97),.false)⟩,⟨.some 102,.mov (.t 0),.some ((.t 101),.true)⟩,⟨.some 103,.mov (.t 1),.some ((.t 101),.true)⟩,⟨.some 104,.bin .add (.t 103) (.c (.int .i64 1)),.some ((.t 101),.true)⟩,⟨.some 105,.call (.c (.fn 66 [])) [.t 102,.t 104,.c (.int .u8 128),.c (.int .u8 143)],.some ((.t 101),.true)⟩,⟨.some 106,.pick (.t 101) (.t 105) (.c (.bool .false)),.some ((.t 97),.false)⟩,⟨.some 107,.mov (.t 106),.some ((.t 97),.false)⟩,⟨.some 108,.mov (.t 0),.some ((.t 107),.true)⟩,⟨.some 109,.mov (.t 1),.some ((.t 107),.true)⟩,⟨.some 110,.bin .add (.t 109) (.c (.int .i64 2)),.some ((.t 107),.true)⟩,⟨.some 111,.call (.c (.fn 72 [])) [.t 108,.t 110,.c (.int .i64 2)],.some ((.t 107),.true)⟩,⟨.some 112,.pick (.t 107) (.t 111) (.c (.bool .false)),.some ((.t 97),.false)⟩,⟨.some 113,.pick (.t 97) (.c (.bool .true)) (.t 112),.none⟩]) (.cond (.t 113) (.seq (.reg .false [⟨.some 4,.mov (.c (.int .i64 4)),.none⟩]) .ret) .skip)) (.seq (.reg .false [⟨.some 4,.mov (.c (.int .i64 0)),.none⟩]) .ret))))),[.tmp (.t 4)]⟩
theorem e65 : cfn Tryd.prog Tryd.f65 = some c65 := by kernel_rfl
theorem k65 : callable Tryd.prog 65 = true := by kernel_rfl
def c66 : VFn := ⟨27,.seq (.reg .false [⟨.some 8,.mov (.c (.bool .false)),.none⟩]) (.seq (.reg .false [⟨.some 9,.mov (.t 1),.none⟩,⟨.some 10,.mov (.t 0),.none⟩,⟨.some 11,.len .true (.t 10),.none⟩,⟨.some 12,.bin .lss (.t 9) (.t 11),.none⟩,⟨.some 13,.mov (.t 12),.none⟩,⟨.some 14,.mov (.t 0),.some ((.t 13),.true)⟩,⟨.some 15,.mov (.t 1),.some ((.t 13),.true)⟩,⟨.some 16,.idxS (.t 14) (.t 15),.some ((.t 13),.true)⟩,⟨.some 17,.mov (.t 2),.some ((.t 13),.true)⟩,⟨.some 18,.bin .geq (.t 16) (.t 17),.some ((.t 13),.true)⟩,⟨.some 19,.pick (.t 13) (.t 18) (.c (.bool .false)),.none⟩,⟨.some 20,.mov (.t 19),.none⟩,⟨.some 21,.mov (.t 0),.some ((.t 20),.true)⟩,⟨.some 22,.mov (.t 1),.some ((.t 20),.true)⟩,⟨.some 23,.idxS (.t 21) (.t 22),.some ((.t 20),.true)⟩,⟨.some 24,.mov (.t 3),.some ((.t 20),.true)⟩,⟨.some 25,.bin .leq (.t 23) (.t 24),.some ((.t 20),.true)⟩,⟨.some 26,.pick (.t 20) (.t 25) (.c (.bool .false)),.none⟩,⟨.some 8,.mov (.t 26),.none⟩]) .ret),[.tmp (.t 8)]⟩
theorem e66 : cfn Tryd.prog Tryd.f66 = some c66 := by kernel_rfl
theorem k66 : callable Tryd.prog 66 = true := by kernel_rfl
def c67 : VFn := ⟨43,.seq (.reg .false [⟨.some 6,.mov (.c (.int .i32 0)),.none⟩]) (.seq (.seq (.reg .false [⟨.some 10,.mov (.t 2),.none⟩,⟨.some 11,.bin .eql (.t 10) (.c (.int .i64 1)),.none⟩]) (.cond (.t 11) (.seq (.reg .false [⟨.some 12,.mov (.t 0),.none⟩,⟨.some 13,.mov (.t 1),.none⟩,⟨.some 14,.idxS (.t 12) (.t 13),.none⟩,⟨.some 15,.convI .i32 (.t 14),.none⟩,⟨.some 6,.mov (.t 15),.none⟩]) .ret) .skip)) (.seq (.reg .false [⟨.some 16,.bslice 3 1 [.c (.int .i64 0),.c (.int .i64 0),.c (.int .i64 192),.c (.int .i64 224),.c (.int .i64 240)],.none⟩,⟨.some 7,.mov (.t 16),.none⟩]) (.seq (.reg .true [⟨.some 17,.mov (.t 0),.none⟩,⟨.some 18,.mov (.t 1),.none⟩,⟨.some 19,.idxS (.t 17) (.t 18),.none⟩,⟨.some 20,.convI .i64 (.t 19),.none⟩,⟨.some 21,.mov (.t 7),.none⟩,⟨.some 22,.mov (.t 2),.none⟩,⟨.some 23,.idxA 1 (.t 21) (.t 22),.none⟩,⟨.some 24,.load .false 1 (.t 23),.none⟩,⟨.some 25,.bin .sub (.t 20) (.t 24),.none⟩,⟨.some 8,.mov (.t 25),.none⟩]) (.seq (.seq (.reg .false [⟨.some 9,.mov (.c (.int .i64 1)),.none⟩]) (.block 0 (.loop (.seq (.seq (.reg .false [⟨.some 26,.mov (.t 9),.none⟩,⟨.some 27,.mov (.t 2),.none⟩,⟨.some 28,.bin .lss (.t 26) (.t 27),.none⟩]) (.cond (.t 28) .skip (.exit 0))) (.seq (.block 1 (.reg .false [⟨.some 31,.mov (.t 8),.none⟩,⟨.some 32,.bin .mul (.c (.int .i64 64)) (.t 31),.none⟩,⟨.some 33,.mov (.t 0),.none⟩,⟨.some 34,.mov (.t 1),.none⟩,⟨.some 35,.mov (.t 9),.none⟩,⟨.some 36,.bin .add (.t 34) (.t 35),.none⟩,⟨.some 37,.idxS (.t 33) (.t 36),.none⟩,⟨.some 38,.convI .i64 (.t 37),.none⟩,⟨.some 39,.bin .add (.t 32) (.t 38),.none⟩,⟨.some 40,.bin .sub (.t 39) (.c (.int .i64 128)),.none⟩,⟨.some 8,.mov (.t 40),.none⟩])) (.reg .false [⟨.some 29,.mov (.t 9),.none⟩,⟨.some 30,.bin .add (.t 29) (.c (.int .i64 1)),.none⟩,⟨.some 9,.mov (.t 30),.none⟩])))))) (.seq (.reg .false [⟨.some 41,.mov (.t 8),.none⟩,⟨.some 42,.convI .i32 (.t 41),.none⟩,⟨.some 6,.mov (.t 42),.none⟩]) .ret))))),[.tmp (.t 6)]⟩
theorem e67 : cfn Tryd.prog Tryd.f67 = some c67 := by kernel_rfl
theorem k67 : callable Tryd.prog 67 = true := by kernel_rfl
def c68 : VFn := ⟨28,.seq (.reg .false [⟨.some 6,.mov (.c (.bool .false)),.none⟩]) (.seq (.reg .false [⟨.some 7,.mov (.t 1),.none⟩,⟨.some 8,.mov (.t 0),.none⟩,⟨.some 9,.len .false (.t 8),.none⟩,⟨.some 10,.bin .lss (.t 7) (.t 9),.none⟩,⟨.some 11,.mov (.t 10),.none⟩,⟨.some 12,.mov (.t 0),.some ((.t 11),.true)⟩,⟨.some 13,.mov (.t 1),.some ((.t 11),.true)⟩,⟨.some 14,.idxA 4 (.t 12) (.t 13),.some ((.t 11),.true)⟩,⟨.some 15,.fldA .false 0 1 (.t 14),.some ((.t 11),.true)⟩,⟨.some 16,.load .false 1 (.t 15),.some ((.t 11),.true)⟩,⟨.some 17,.bin .eql (.t 16) (.c (.int .i64 1)),.some ((.t 11),.true)⟩,⟨.some 18,.pick (.t 11) (.t 17) (.c (.bool .false)),.none⟩,⟨.some 19,.mov (.t 18),.none⟩,⟨.some 20,.mov (.t 0),.some ((.t 19),.true)⟩,⟨.some 21,.mov (.t 1),.some ((.t 19),.true)⟩,⟨.some 22,.idxA 4 (.t 20) (.t 21),.some ((.t 19),.true)⟩,⟨.some 23,.fldA .false 1 1 (.t 22),.some ((.t 19),.true)⟩,⟨.some 24,.load .false 1 (.t 23),.some ((.t 19),.true)⟩,⟨.some 25,.mov (.t 2),.some ((.t 19),.true)⟩,⟨.some 26,.bin .eql (.t 24) (.t 25),.some ((.t 19),.true)⟩,⟨.some 27,.pick (.t 19) (.t 26) (.c (.bool .false)),.none⟩,⟨.some 6,.mov (.t 27),.none⟩]) .ret),[.tmp (.t 6)]⟩
theorem e68 : cfn Tryd.prog Tryd.f68 = some c68 := by kernel_rfl
theorem k68 : callable Tryd.prog 68 = true := by kernel_rfl
def c69 : VFn := ⟨46,.seq (.reg .false [⟨.some 4,.alloc 108 3 (.agg [.nils,.int .i64 0,.int .i64 0]),.none⟩]) (.seq (.seq (.reg .false [⟨.some 5,.mov (.t 0),.none⟩,⟨.some 6,.mov (.t 1),.none⟩,⟨.some 7,.call (.c (.fn 68 [])) [.t 5,.t 6,.c (.int .i32 91)],.none⟩]) (.cond (.t 7) (.seq (.reg .false [⟨.some 8,.mov (.t 0),.none⟩,⟨.some 9,.mov (.t 1),.none⟩,⟨.some 10,.call (.c (.fn 73 [])) [.t 8,.t 9],.none⟩,⟨.none,.store 3 (.t 4) (.t 10),.none⟩]) .ret) .skip)) (.seq (.seq (.reg .false [⟨.some 11,.mov (.t 0),.none⟩,⟨.some 12,.mov (.t 1),.none⟩,⟨.some 13,.call (.c (.fn 68 [])) [.t 11,.t 12,.c (.int .i32 40)],.none⟩]) (.cond (.t 13) (.seq (.reg .false [⟨.some 14,.mov (.t 0),.none⟩,⟨.some 15,.mov (.t 1),.none⟩,⟨.some 16,.call (.c (.fn 74 [])) [.t 14,.t 15],.none⟩,⟨.none,.store 3 (.t 4) (.t 16),.none⟩]) .ret) .skip)) (.seq (.seq (.reg .false [⟨.some 17,.mov (.t 0),.none⟩,⟨.some 18,.mov (.t 1),.none⟩,⟨.some 19,.call (.c (.fn 68 [])) [.t 17,.t 18,.c (.int .i32 123)],.none⟩]) (.cond (.t 19) (.seq (.reg .false [⟨.some 20,.mov (.t 0),.none⟩,⟨.some 21,.mov (.t 1),.none⟩,⟨.some 22,.bin .add (.t 21) (.c (.int .i64 1)),.none⟩,⟨.some 23,.build [.int .i64 0,.int .i64 0,.int .i64 0,.int .i64 0,.int .i64 0,.int .i64 0,.int .i64 0,.int .i64 0,.int .i64 0,.int .i64 0,.int .i64 0,.int .i64 0,.int .i64 0,.int .i64 0,.int .i64 0,.int .i64 0,.nils,.int .i64 0,.int .i64 0,.int .i64 0] [(0,(1,(.c (.int .i64 3)))),(1,(1,(.c (.int .i64 1))))],.none⟩,⟨.some 24,.call (.c (.fn 75 [])) [.t 20,.t 22,.t 23,.c (.int .i32 125)],.none⟩,⟨.none,.store 3 (.t 4) (.t 24),.none⟩]) .ret) .skip)) (.seq (.seq (.reg .false [⟨.some 25,.mov (.t 0),.none⟩,⟨.some 26,.mov (.t 1),.none⟩,⟨.some 27,.bin .add (.t 26) (.c (.int .i64 1)),.none⟩,⟨.some 28,.call (.c (.fn 68 [])) [.t 25,.t 27,.c (.int .i32 76)],.none⟩]) (.cond (.t 28) (.seq (.reg .false [⟨.some 29,.mov (.t 0),.none⟩,⟨.some 30,.mov (.t 1),.none⟩,⟨.some 31,.bin .add (.t 30) (.c (.int .i64 2)),.none⟩,⟨.some 32,.build [.int .i64 0,.int .i64 0,.int .i64 0,.int .i64 0,.int .i64 0,.int .i64 0,.int .i64 0,.int .i64 0,.int .i64 0,.int .i64 0,.int .i64 0,.int .i64 0,.int .i64 0,.int .i64 0,.int .i64 0,.int .i64 0,.nils,.int .i64 0,.int .i64 0,.int .i64 0] [(0,(1,(.c (.int .i64 4)))),(1,(1,(.c (.int .i64 1)))),(17,(1,(.c (.int .i64 1))))],.none⟩,⟨.some 33,.call (.c (.fn 75 [])) [.t 29,.t 31,.t 32,.c (.int .i32 62)],.none⟩,⟨.none,.store 3 (.t 4) (.t 33),.none⟩]) .ret) .skip)) (.seq (.seq (.reg .false [⟨.some 34,.mov (.t 0),.none⟩,⟨.some 35,.mov (.t 1),.none⟩,⟨.some 36,.bin .add (.t 35) (.c (.int .i64 1)),.none⟩,⟨.some 37,.call (.c (.fn 68 [])) [.t 34,.t 36,.c (.int .i32 82)],.none⟩]) (.cond (.t 37) (.seq (.reg .false [⟨.some 38,.mov (.t 0),.none⟩,⟨.some 39,.mov (.t 1),.none⟩,⟨.some 40,.bin .add (.t 39) (.c (.int .i64 2)),.none⟩,⟨.some 41,.build [.int .i64 0,.int .i64 0,.int .i64 0,.int .i64 0,.int .i64 0,.int .i64 0,.int .i64 0,.int .i64 0,.int .i64 0,.int .i64 0,.int .i64 0,.int .i64 0,.int .i64 0,.int .i64 0,.int .i64 0,.int .i64 0,.nils,.int .i64 0,.int .i64 0,.int .i64 0] [(0,(1,(.c (.int .i64 4)))),(1,(1,(.c (.int .i64 1)))),(17,(1,(.c (.int .i64 2))))],.none⟩,⟨.some 42,.call (.c (.fn 75 [])) [.t 38,.t 40,.t 41,.c (.int .i32 62)],.none⟩,⟨.none,.store 3 (.t 4) (.t 42),.none⟩]) .ret) .skip)) (.seq (.reg .false [⟨.some 43,.mov (.t 1),.none⟩,⟨.some 44,.bin .add (.t 43) (.c (.int .i64 1)),.none⟩,⟨.some 45,.build [.nils,.int .i64 0,.int .i64 0] [(0,(1,(.c .nils))),(1,(1,(.t 44))),(2,(1,(.c (.int .i64 1))))],.none⟩,⟨.none,.store 3 (.t 4) (.t 45),.none⟩]) .ret)))))),[.cell .true 3 (.t 4)]⟩
theorem e69 : cfn Tryd.prog Tryd.f69 = some c69 := by kernel_rfl
theorem k69 : callable Tryd.prog 69 = true := by kernel_rfl
def c70 : VFn := ⟨6,.seq (.reg .false [⟨.some 2,.box 114 1 (.t 0),.none⟩,⟨.some 3,.box 3 1 (.t 1),.none⟩,⟨.some 4,.mov (.c .nilfn),.none⟩]) (.seq (.reg .false [⟨.some 5,.mkfn 76 [.t 2,.t 3],.none⟩,⟨.some 4,.mov (.t 5),.none⟩]) .ret),[.tmp (.t 4)]⟩
theorem e70 : cfn Tryd.prog Tryd.f70 = some c70 := by kernel_rfl
theorem k70 : callable Tryd.prog 70 = true := by kernel_rfl
def c72 : VFn := ⟨19,.seq (.reg .false [⟨.some 6,.mov (.c (.bool .false)),.none⟩]) (.seq (.seq (.reg .false [⟨.some 7,.mov (.c (.int .i64 0)),.none⟩]) (.block 0 (.loop (.seq (.seq (.reg .false [⟨.some 8,.mov (.t 7),.none⟩,⟨.some 9,.mov (.t 2),.none⟩,⟨.some 10,.bin .lss (.t 8) (.t 9),.none⟩]) (.cond (.t 10) .skip (.exit 0))) (.seq (.block 1 (.seq (.reg .false [⟨.some 13,.mov (.t 0),.none⟩,⟨.some 14,.mov (.t 1),.none⟩,⟨.some 15,.mov (.t 7),.none⟩,⟨.some 16,.bin .add (.t 14) (.t 15),.none⟩,⟨.some 17,.call (.c (.fn 66 [])) [.t 13,.t 16,.c (.int .u8 128),.c (.int .u8 191)],.none⟩,⟨.some 18,.not (.t 17),.none⟩]) (.cond (.t 18) (.seq (.reg .false [⟨.some 6,.mov (.c (.bool .false)),.none⟩]) .ret) .skip))) (.reg .false [⟨.some 11,.mov (.t 7),.none⟩,⟨.some 12,.bin .add (.t 11) (.c (.int .i64 1)),.none⟩,⟨.some 7,.mov (.t 12),.none⟩])))))) (.seq (.reg .false [⟨.some 6,.mov (.c (.bool .true)),.none⟩]) .ret)),[.tmp (.t 6)]⟩
theorem e72 : cfn Tryd.prog Tryd.f72 = some c72 := by kernel_rfl
theorem k72 : callable Tryd.prog 72 = true := by kernel_rfl
def c73 : VFn := ⟨85,.seq (.reg .false [⟨.some 4,.alloc 108 3 (.agg [.nils,.int .i64 0,.int .i64 0]),.none⟩]) (.seq (.reg .false [⟨.some 12,.mov (.t 1),.none⟩,⟨.some 13,.bin .add (.t 12) (.c (.int .i64 1)),.none⟩,⟨.some 1,.mov (.t 13),.none⟩]) (.seq (.reg .false [⟨.some 14,.build [.int .i64 0,.int .i64 0,.int .i64 0,.int .i64 0,.int .i64 0,.int .i64 0,.int .i64 0,.int .i64 0,.int .i64 0,.int .i64 0,.int .i64 0,.int .i64 0] [(5,(1,(.c (.int .i64 2)))),(6,(1,(.c (.int .i64 2))))],.none⟩,⟨.some 5,.alloc 24 12 (.agg [.int .i64 0,.int .i64 0,.int .i64 0,.int .i64 0,.int .i64 0,.int .i64 0,.int .i64 0,.int .i64 0,.int .i64 0,.int .i64 0,.int .i64 0,.int .i64 0]),.none⟩,⟨.none,.store 12 (.t 5) (.t 14),.none⟩]) (.seq (.reg .false [⟨.some 6,.mov (.c (.str [])),.none⟩]) (.seq (.block 0 (.loop (.seq (.seq (.reg .false [⟨.some 15,.mov (.t 0),.none⟩,⟨.some 16,.mov (.t 1),.none⟩,⟨.some 17,.mov (.t 6),.none⟩,⟨.some 18,.call (.c (.fn 79 [])) [.t 15,.t 16,.t 17],.none⟩,⟨.some 19,.bin .neq (.t 18) (.c (.int .u8 0)),.none⟩]) (.cond (.t 19) .skip (.exit 0))) (.block 1 (.seq (.reg .false [⟨.some 20,.mov (.t 0),.none⟩,⟨.some 21,.mov (.t 1),.none⟩,⟨.some 22,.mov (.t 6),.none⟩,⟨.some 23,.call (.c (.fn 79 [])) [.t 20,.t 21,.t 22],.none⟩,⟨.some 7,.mov (.t 23),.none⟩]) (.seq (.reg .false [⟨.some 25,.mov (.t 7),.none⟩,⟨.some 26,.call (.c (.fn 80 [])) [.t 25],.none⟩,⟨.some 24,.mov (.t 26),.none⟩,⟨.some 27,.ext 0 (.t 24),.none⟩,⟨.some 28,.ext 1 (.t 24),.none⟩,⟨.some 8,.mov (.t 27),.none⟩,⟨.some 9,.mov (.t 28),.none⟩]) (.seq (.seq (.reg .false [⟨.some 29,.mov (.t 0),.none⟩,⟨.some 30,.mov (.t 1),.none⟩,⟨.some 31,.bin .add (.t 30) (.c (.int .i64 1)),.none⟩,⟨.some 32,.mov (.t 8),.none⟩,⟨.some 33,.mov (.t 9),.none⟩,⟨.some 34,.call (.c (.fn 81 [])) [.t 29,.t 31,.t 32,.t 33],.none⟩,⟨.some 35,.not (.t 34),.none⟩]) (.cond (.t 35) (.seq (.reg .false [⟨.some 36,.mov (.t 1),.none⟩,⟨.some 37,.bin .add (.t 36) (.c (.int .i64 1)),.none⟩,⟨.some 38,.build [.nils,.int .i64 0,.int .i64 0] [(0,(1,(.c .nils))),(1,(1,(.t 37))),(2,(1,(.c (.int .i64 1))))],.none⟩,⟨.none,.store 3 (.t 4) (.t 38),.none⟩]) .ret) .skip)) (.seq (.reg .true [⟨.some 39,.load .true 12 (.t 5),.none⟩,⟨.some 40,.mov (.t 7),.none⟩,⟨.some 41,.mov (.t 0),.none⟩,⟨.some 42,.mov (.t 1),.none⟩,⟨.some 43,.bin .add (.t 42) (.c (.int .i64 1)),.none⟩,⟨.some 44,.idxA 4 (.t 41) (.t 43),.none⟩,⟨.some 45,.fldA .false 2 1 (.t 44),.none⟩,⟨.some 46,.load .false 1 (.t 45),.none⟩,⟨.some 47,.call (.c (.fn 82 [])) [.t 39,.t 40,.t 46],.none⟩,⟨.none,.store 12 (.t 5) (.t 47),.none⟩]) (.seq (.reg .false [⟨.some 48,.mov (.t 6),.none⟩,⟨.some 49,.mov (.t 7),.none⟩,⟨.some 50,.bslice 5 1 [.t 49],.none⟩,⟨.some 51,.bstr (.t 50),.none⟩,⟨.some 52,.bin .add (.t 48) (.t 51),.none⟩,⟨.some 6,.mov (.t 52),.none⟩]) (.reg .false [⟨.some 53,.mov (.t 1),.none⟩,⟨.some 54,.bin .add (.t 53) (.c (.int .i64 2)),.none⟩,⟨.some 1,.mov (.t 54),.none⟩])))))))))) (.seq (.reg .false [⟨.some 55,.mov (.t 0),.none⟩,⟨.some 56,.mov (.t 1),.none⟩,⟨.some 57,.call (.c (.fn 57 [])) [.t 55,.t 56],.none⟩,⟨.some 10,.alloc 108 3 (.agg [.nils,.int .i64 0,.int .i64 0]),.none⟩,⟨.none,.store 3 (.t 10) (.t 57),.none⟩]) (.seq (.seq (.reg .false [⟨.some 58,.fldA .false 2 1 (.t 10),.none⟩,⟨.some 59,.load .false 1 (.t 58),.none⟩,⟨.some 60,.bin .eql (.t 59) (.c (.int .i64 1)),.none⟩]) (.cond (.t 60) (.seq (.reg .false [⟨.some 61,.load .true 3 (.t 10),.none⟩,⟨.none,.store 3 (.t 4) (.t 61),.none⟩]) .ret) .skip)) (.seq (.seq (.reg .false [⟨.some 62,.mov (.t 0),.none⟩,⟨.some 63,.fldA .false 1 1 (.t 10),.none⟩,⟨.some 64,.load .false 1 (.t 63),.none⟩,⟨.some 65,.call (.c (.fn 68 [])) [.t 62,.t 64,.c (.int .i32 93)],.none⟩,⟨.some 66,.not (.t 65),.none⟩]) (.cond (.t 66) (.seq (.reg .false [⟨.some 67,.fldA .false 1 1 (.t 10),.none⟩,⟨.some 68,.load .false 1 (.t 67),.none⟩,⟨.some 69,.build [.nils,.int .i64 0,.int .i64 0] [(0,(1,(.c .nils))),(1,(1,(.t 68))),(2,(1,(.c (.int .i64 1))))],.none⟩,⟨.none,.store 3 (.t 4) (.t 69),.none⟩]) .ret) .skip)) (.seq (.reg .false [⟨.some 70,.fldA .false 0 1 (.t 10),.none⟩,⟨.some 71,.load .false 1 (.t 70),.none⟩,⟨.some 72,.len .false (.t 71),.none⟩,⟨.some 73,.bin .add (.c (.int .i64 1)) (.t 72),.none⟩,⟨.some 74,.load .true 12 (.t 5),.none⟩,⟨.some 75,.build [.int .i64 0,.int .i64 0,.int .i64 0,.int .i64 0,.int .i64 0,.int .i64 0,.int .i64 0,.int .i64 0,.int .i64 0,.int .i64 0,.int .i64 0,.int .i64 0,.int .i64 0,.int .i64 0,.int .i64 0,.int .i64 0,.nils,.int .i64 0,.int .i64 0,.int .i64 0] [(0,(1,(.c (.int .i64 1)))),(1,(1,(.t 73))),(2,(12,(.t 74)))],.none⟩,⟨.some 11,.alloc 42 20 (.agg [.int .i64 0,.int .i64 0,.int .i64 0,.int .i64 0,.int .i64 0,.int .i64 0,.int .i64 0,.int .i64 0,.int .i64 0,.int .i64 0,.int .i64 0,.int .i64 0,.int .i64 0,.int .i64 0,.int .i64 0,.int .i64 0,.nils,.int .i64 0,.int .i64 0,.int .i64 0]),.none⟩,⟨.none,.store 20 (.t 11) (.t 75),.none⟩]) (.seq (.reg .true [⟨.some 76,.load .true 20 (.t 11),.none⟩,⟨.some 77,.bslice 42 20 [.t 76],.none⟩,⟨.some 78,.fldA .false 0 1 (.t 10),.none⟩,⟨.some 79,.load .false 1 (.t 78),.none⟩,⟨.some 80,.append 42 20 176 (.t 77) (.t 79),.none⟩,⟨.some 81,.fldA .false 1 1 (.t 10),.none⟩,⟨.some 82,.load .false 1 (.t 81),.none⟩,⟨.some 83,.bin .add (.t 82) (.c (.int .i64 1)),.none⟩,⟨.some 84,.build [.nils,.int .i64 0,.int .i64 0] [(0,(1,(.t 80))),(1,(1,(.t 83))),(2,(1,(.c (.int .i64 0))))],.none⟩,⟨.none,.store 3 (.t 4) (.t 84),.none⟩]) .ret))))))))),[.cell .true 3 (.t 4)]⟩
theorem e73 : cfn Tryd.prog Tryd.f73 = some c73 := by kernel_rfl
theorem k73 : callable Tryd.prog 73 = true := by kernel_rfl
def c74 : VFn := ⟨73,.seq (.reg .false [⟨.some 4,.alloc 108 3 (.agg [.nils,.int .i64 0,.int .i64 0]),.none⟩]) (.seq (.seq (.reg .false [⟨.some 7,.mov (.t 0),.none⟩,⟨.some 8,.mov (.t 1),.none⟩,⟨.some 9,.bin .add (.t 8) (.c (.int .i64 1)),.none⟩,⟨.some 10,.call (.c (.fn 83 [])) [],.none⟩,⟨.some 11,.call (.c (.fn 81 [])) [.t 7,.t 9,.c (.int .i64 1),.t 10],.none⟩,⟨.some 12,.not (.t 11),.none⟩]) (.cond (.t 12) (.seq (.reg .false [⟨.some 13,.mov (.t 1),.none⟩,⟨.some 14,.bin .add (.t 13) (.c (.int .i64 1)),.none⟩,⟨.some 15,.build [.nils,.int .i64 0,.int .i64 0] [(0,(1,(.c .nils))),(1,(1,(.t 14))),(2,(1,(.c (.int .i64 1))))],.none⟩,⟨.none,.store 3 (.t 4) (.t 15),.none⟩]) .ret) .skip)) (.seq (.seq (.reg .false [⟨.some 16,.mov (.t 0),.none⟩,⟨.some 17,.mov (.t 1),.none⟩,⟨.some 18,.bin .add (.t 17) (.c (.int .i64 2)),.none⟩,⟨.some 19,.call (.c (.fn 83 [])) [],.none⟩,⟨.some 20,.call (.c (.fn 81 [])) [.t 16,.t 18,.c (.int .i64 0),.t 19],.none⟩,⟨.some 21,.not (.t 20),.none⟩]) (.cond (.t 21) (.seq (.reg .false [⟨.some 22,.mov (.t 1),.none⟩,⟨.some 23,.bin .add (.t 22) (.c (.int .i64 2)),.none⟩,⟨.some 24,.build [.nils,.int .i64 0,.int .i64 0] [(0,(1,(.c .nils))),(1,(1,(.t 23))),(2,(1,(.c (.int .i64 1))))],.none⟩,⟨.none,.store 3 (.t 4) (.t 24),.none⟩]) .ret) .skip)) (.seq (.reg .true [⟨.some 25,.mov (.t 0),.none⟩,⟨.some 26,.mov (.t 1),.none⟩,⟨.some 27,.bin .add (.t 26) (.c (.int .i64 1)),.none⟩,⟨.some 28,.idxA 4 (.t 25) (.t 27),.none⟩,⟨.some 29,.fldA .false 2 1 (.t 28),.none⟩,⟨.some 30,.load .false 1 (.t 29),.none⟩,⟨.some 31,.mov (.t 0),.none⟩,⟨.some 32,.mov (.t 1),.none⟩,⟨.some 33,.bin .add (.t 32) (.c (.int .i64 2)),.none⟩,⟨.some 34,.idxA 4 (.t 31) (.t 33),.none⟩,⟨.some 35,.fldA .false 2 1 (.t 34),.none⟩,⟨.some 36,.load .false 1 (.t 35),.none⟩,⟨.some 37,.build [.int .i64 0,.int .i64 0,.int .i64 0,.int .i64 0,.int .i64 0,.int .i64 0,.int .i64 0,.int .i64 0,.int .i64 0,.int .i64 0,.int .i64 0,.int .i64 0,.int .i64 0,.int .i64 0,.int .i64 0,.int .i64 0,.nils,.int .i64 0,.int .i64 0,.int .i64 0] [(0,(1,(.c (.int .i64 2)))),(1,(1,(.c (.int .i64 1)))),(14,(1,(.t 30))),(15,(1,(.t 36)))],.none⟩,⟨.some 5,.alloc 42 20 (.agg [.int .i64 0,.int .i64 0,.int .i64 0,.int .i64 0,.int .i64 0,.int .i64 0,.int .i64 0,.int .i64 0,.int .i64 0,.int .i64 0,.int .i64 0,.int .i64 0,.int .i64 0,.int .i64 0,.int .i64 0,.int .i64 0,.nils,.int .i64 0,.int .i64 0,.int .i64 0]),.none⟩,⟨.none,.store 20 (.t 5) (.t 37),.none⟩]) (.seq (.reg .false [⟨.some 38,.mov (.t 1),.none⟩,⟨.some 39,.bin .add (.t 38) (.c (.int .i64 3)),.none⟩,⟨.some 6,.mov (.t 39),.none⟩]) (.seq (.block 0 (.loop (.seq (.seq (.reg .false [⟨.some 40,.mov (.t 0),.none⟩,⟨.some 41,.mov (.t 6),.none⟩,⟨.some 42,.call (.c (.fn 83 [])) [],.none⟩,⟨.some 43,.call (.c (.fn 81 [])) [.t 40,.t 41,.c (.int .i64 1),.t 42],.none⟩]) (.cond (.t 43) .skip (.exit 0))) (.block 1 (.seq (.reg .true [⟨.some 44,.fldA .false 16 1 (.t 5),.none⟩,⟨.some 45,.load .false 1 (.t 44),.none⟩,⟨.some 46,.mov (.t 0),.none⟩,⟨.some 47,.mov (.t 6),.none⟩,⟨.some 48,.idxA 4 (.t 46) (.t 47),.none⟩,⟨.some 49,.fldA .false 2 1 (.t 48),.none⟩,⟨.some 50,.load .false 1 (.t 49),.none⟩,⟨.some 51,.bslice 3 1 [.t 50],.none⟩,⟨.some 52,.append 3 1 8 (.t 45) (.t 51),.none⟩,⟨.some 53,.fldA .false 16 1 (.t 5),.none⟩,⟨.none,.store 1 (.t 53) (.t 52),.none⟩]) (.reg .false [⟨.some 54,.mov (.t 6),.none⟩,⟨.some 55,.bin .add (.t 54) (.c (.int .i64 1)),.none⟩,⟨.some 6,.mov (.t 55),.none⟩])))))) (.seq (.seq (.reg .false [⟨.some 56,.fldA .false 16 1 (.t 5),.none⟩,⟨.some 57,.load .false 1 (.t 56),.none⟩,⟨.some 58,.len .false (.t 57),.none⟩,⟨.some 59,.bin .eql (.t 58) (.c (.int .i64 0)),.none⟩,⟨.some 60,.mov (.t 59),.none⟩,⟨.some 61,.mov (.t 0),.some ((.t 60),.false)⟩,⟨.some 62,.mov (.t 6),.some ((.t 60),.false)⟩,⟨.some 63,.call (.c (.fn 68 [])) [.t 61,.t 62,.c (.int .i32 41)],.some ((.t 60),.false)⟩,⟨.some 64,.not (.t 63),.some ((.t 60),.false)⟩,⟨.some 65,.pick (.t 60) (.c (.bool .true)) (.t 64),.none⟩]) (.cond (.t 65) (.seq (.reg .false [⟨.some 66,.mov (.t 6),.none⟩,⟨.some 67,.build [.nils,.int .i64 0,.int .i64 0] [(0,(1,(.c .nils))),(1,(1,(.t 66))),(2,(1,(.c (.int .i64 1))))],.none⟩,⟨.none,.store 3 (.t 4) (.t 67),.none⟩]) .ret) .skip)) (.seq (.reg .false [⟨.some 68,.load .true 20 (.t 5),.none⟩,⟨.some 69,.bslice 42 20 [.t 68],.none⟩,⟨.some 70,.mov (.t 6),.none⟩,⟨.some 71,.bin .add (.t 70) (.c (.int .i64 1)),.none⟩,⟨.some 72,.build [.nils,.int .i64 0,.int .i64 0] [(0,(1,(.t 69))),(1,(1,(.t 71))),(2,(1,(.c (.int .i64 0))))],.none⟩,⟨.none,.store 3 (.t 4) (.t 72),.none⟩]) .ret))))))),[.cell .true 3 (.t 4)]⟩
theorem e74 : cfn Tryd.prog Tryd.f74 = some c74 := by kernel_rfl
theorem k74 : callable Tryd.prog 74 = true := by kernel_rfl
def c75 : VFn := ⟨52,.seq (.reg .false [⟨.some 6,.box 42 20 (.t 2),.none⟩,⟨.some 8,.alloc 108 3 (.agg [.nils,.int .i64 0,.int .i64 0]),.none⟩]) (.seq (.seq (.reg .false [⟨.some 9,.mov (.c (.int .i64 0)),.none⟩]) (.block 0 (.loop (.seq (.seq (.reg .false [⟨.some 10,.mov (.t 9),.none⟩,⟨.some 11,.bin .lss (.t 10) (.c (.int .i64 2)),.none⟩]) (.cond (.t 11) .skip (.exit 0))) (.seq (.block 1 (.seq (.reg .false [⟨.some 14,.mov (.t 0),.none⟩,⟨.some 15,.mov (.t 1),.none⟩,⟨.some 16,.mov (.t 9),.none⟩,⟨.some 17,.bin .add (.t 15) (.t 16),.none⟩,⟨.some 18,.call (.c (.fn 83 [])) [],.none⟩,⟨.some 19,.call (.c (.fn 81 [])) [.t 14,.t 17,.c (.int .i64 1),.t 18],.none⟩,⟨.some 20,.not (.t 19),.none⟩]) (.cond (.t 20) (.seq (.reg .false [⟨.some 21,.mov (.t 1),.none⟩,⟨.some 22,.mov (.t 9),.none⟩,⟨.some 23,.bin .add (.t 21) (.t 22),.none⟩,⟨.some 24,.build [.nils,.int .i64 0,.int .i64 0] [(0,(1,(.c .nils))),(1,(1,(.t 23))),(2,(1,(.c (.int .i64 1))))],.none⟩,⟨.none,.store 3 (.t 8) (.t 24),.none⟩]) .ret) .skip))) (.reg .false [⟨.some 12,.mov (.t 9),.none⟩,⟨.some 13,.bin .add (.t 12) (.c (.int .i64 1)),.none⟩,⟨.some 9,.mov (.t 13),.none⟩])))))) (.seq (.seq (.reg .false [⟨.some 25,.mov (.t 0),.none⟩,⟨.some 26,.mov (.t 1),.none⟩,⟨.some 27,.bin .add (.t 26) (.c (.int .i64 2)),.none⟩,⟨.some 28,.mov (.t 3),.none⟩,⟨.some 29,.call (.c (.fn 68 [])) [.t 25,.t 27,.t 28],.none⟩,⟨.some 30,.not (.t 29),.none⟩]) (.cond (.t 30) (.seq (.reg .false [⟨.some 31,.mov (.t 1),.none⟩,⟨.some 32,.bin .add (.t 31) (.c (.int .i64 2)),.none⟩,⟨.some 33,.build [.nils,.int .i64 0,.int .i64 0] [(0,(1,(.c .nils))),(1,(1,(.t 32))),(2,(1,(.c (.int .i64 1))))],.none⟩,⟨.none,.store 3 (.t 8) (.t 33),.none⟩]) .ret) .skip)) (.seq (.reg .false [⟨.some 34,.mov (.t 0),.none⟩,⟨.some 35,.mov (.t 1),.none⟩,⟨.some 36,.idxA 4 (.t 34) (.t 35),.none⟩,⟨.some 37,.fldA .false 2 1 (.t 36),.none⟩,⟨.some 38,.load .false 1 (.t 37),.none⟩,⟨.some 39,.fldA .false 18 1 (.t 6),.none⟩,⟨.none,.store 1 (.t 39) (.t 38),.none⟩]) (.seq (.reg .false [⟨.some 40,.mov (.t 0),.none⟩,⟨.some 41,.mov (.t 1),.none⟩,⟨.some 42,.bin .add (.t 41) (.c (.int .i64 1)),.none⟩,⟨.some 43,.idxA 4 (.t 40) (.t 42),.none⟩,⟨.some 44,.fldA .false 2 1 (.t 43),.none⟩,⟨.some 45,.load .false 1 (.t 44),.none⟩,⟨.some 46,.fldA .false 19 1 (.t 6),.none⟩,⟨.none,.store 1 (.t 46) (.t 45),.none⟩]) (.seq (.reg .false [⟨.some 47,.load .true 20 (.t 6),.none⟩,⟨.some 48,.bslice 42 20 [.t 47],.none⟩,⟨.some 49,.mov (.t 1),.none⟩,⟨.some 50,.bin .add (.t 49) (.c (.int .i64 3)),.none⟩,⟨.some 51,.build [.nils,.int .i64 0,.int .i64 0] [(0,(1,(.t 48))),(1,(1,(.t 50))),(2,(1,(.c (.int .i64 0))))],.none⟩,⟨.none,.store 3 (.t 8) (.t 51),.none⟩]) .ret))))),[.cell .true 3 (.t 8)]⟩
theorem e75 : cfn Tryd.prog Tryd.f75 = some c75 := by kernel_rfl
theorem k75 : callable Tryd.prog 75 = true := by kernel_rfl
def c76 : VFn := ⟨25,.seq (.seq (.reg .false [⟨.some 5,.fldA .false 0 1 (.t 1),.none⟩,⟨.some 6,.load .false 1 (.t 5),.none⟩,⟨.some 7,.load .false 1 (.t 2),.none⟩,⟨.some 8,.call (.c (.fn 59 [])) [.t 6,.t 7],.none⟩,⟨.some 9,.not (.t 8),.none⟩]) (.cond (.t 9) .ret .skip)) (.seq (.reg .false [⟨.some 10,.fldA .false 0 1 (.t 1),.none⟩,⟨.some 11,.load .false 1 (.t 10),.none⟩,⟨.some 12,.load .false 1 (.t 2),.none⟩,⟨.some 13,.call (.c (.fn 77 [])) [.t 11,.t 12],.none⟩,⟨.some 4,.mov (.t 13),.none⟩]) (.block 0 (.loop (.seq (.seq (.reg .false [⟨.some 14,.mov (.t 4),.none⟩,⟨.some 15,.bin .geq (.t 14) (.c (.int .i64 0)),.none⟩,⟨.some 16,.mov (.t 15),.none⟩,⟨.some 17,.mov (.t 0),.some ((.t 16),.true)⟩,⟨.some 18,.mov (.t 4),.some ((.t 16),.true)⟩,⟨.some 19,.call (.t 17) [.t 18],.some ((.t 16),.true)⟩,⟨.some 20,.pick (.t 16) (.t 19) (.c (.bool .false)),.none⟩]) (.cond (.t 20) .skip (.exit 0))) (.seq (.block 1 .skip) (.reg .false [⟨.some 21,.fldA .false 0 1 (.t 1),.none⟩,⟨.some 22,.load .false 1 (.t 21),.none⟩,⟨.some 23,.mov (.t 4),.none⟩,⟨.some 24,.call (.c (.fn 77 [])) [.t 22,.t 23],.none⟩,⟨.some 4,.mov (.t 24),.none⟩])))))),[]⟩
theorem e76 : cfn Tryd.prog Tryd.f76 = some c76 := by kernel_rfl
theorem k76 : callable Tryd.prog 76 = true := by kernel_rfl
def c77 : VFn := ⟨22,.seq (.reg .false [⟨.some 4,.mov (.c (.int .i64 0)),.none⟩]) (.seq (.seq (.reg .false [⟨.some 6,.mov (.t 1),.none⟩,⟨.some 7,.bin .sub (.t 6) (.c (.int .i64 1)),.none⟩,⟨.some 5,.mov (.t 7),.none⟩]) (.block 0 (.loop (.seq (.seq (.reg .false [⟨.some 8,.mov (.t 5),.none⟩,⟨.some 9,.bin .geq (.t 8) (.c (.int .i64 0)),.none⟩]) (.cond (.t 9) .skip (.exit 0))) (.seq (.block 1 (.seq (.reg .false [⟨.some 12,.mov (.t 1),.none⟩,⟨.some 13,.mov (.t 5),.none⟩,⟨.some 14,.mov (.t 0),.none⟩,⟨.some 15,.mov (.t 5),.none⟩,⟨.some 16,.idxA 20 (.t 14) (.t 15),.none⟩,⟨.some 17,.fldA .false 1 1 (.t 16),.none⟩,⟨.some 18,.load .false 1 (.t 17),.none⟩,⟨.some 19,.bin .add (.t 13) (.t 18),.none⟩,⟨.some 20,.bin .lss (.t 12) (.t 19),.none⟩]) (.cond (.t 20) (.seq (.reg .false [⟨.some 21,.mov (.t 5),.none⟩,⟨.some 4,.mov (.t 21),.none⟩]) .ret) .skip))) (.reg .false [⟨.some 10,.mov (.t 5),.none⟩,⟨.some 11,.bin .sub (.t 10) (.c (.int .i64 1)),.none⟩,⟨.some 5,.mov (.t 11),.none⟩])))))) (.seq (.reg .false [⟨.some 4,.mov (.c (.int .i64 (-1))),.none⟩]) .ret)),[.tmp (.t 4)]⟩
theorem e77 : cfn Tryd.prog Tryd.f77 = some c77 := by kernel_rfl
theorem k77 : callable Tryd.prog 77 = true := by kernel_rfl
def c79 : VFn := ⟨41,.seq (.reg .false [⟨.some 6,.mov (.c (.int .u8 0)),.none⟩]) (.seq (.reg .false [⟨.some 10,.call (.c (.fn 88 [])) [],.none⟩,⟨.some 7,.mov (.t 10),.none⟩]) (.seq (.seq (.reg .false [⟨.some 8,.mov (.c (.int .i64 0)),.none⟩]) (.block 0 (.loop (.seq (.seq (.reg .false [⟨.some 11,.mov (.t 8),.none⟩,⟨.some 12,.mov (.t 7),.none⟩,⟨.some 13,.len .true (.t 12),.none⟩,⟨.some 14,.bin .lss (.t 11) (.t 13),.none⟩]) (.cond (.t 14) .skip (.exit 0))) (.seq (.block 1 (.seq (.seq (.reg .false [⟨.some 17,.mov (.t 0),.none⟩,⟨.some 18,.mov (.t 1),.none⟩,⟨.some 19,.mov (.t 7),.none⟩,⟨.some 20,.mov (.t 8),.none⟩,⟨.some 21,.idxS (.t 19) (.t 20),.none⟩,⟨.some 22,.convI .i32 (.t 21),.none⟩,⟨.some 23,.call (.c (.fn 68 [])) [.t 17,.t 18,.t 22],.none⟩,⟨.some 24,.not (.t 23),.none⟩]) (.cond (.t 24) (.exit 1) .skip)) (.seq (.seq (.reg .false [⟨.some 9,.mov (.c (.int .i64 0)),.none⟩]) (.block 2 (.loop (.seq (.seq (.reg .false [⟨.some 25,.mov (.t 9),.none⟩,⟨.some 26,.mov (.t 2),.none⟩,⟨.some 27,.len .true (.t 26),.none⟩,⟨.some 28,.bin .lss (.t 25) (.t 27),.none⟩]) (.cond (.t 28) .skip (.exit 2))) (.seq (.block 3 (.seq (.reg .true [⟨.some 31,.mov (.t 2),.none⟩,⟨.some 32,.mov (.t 9),.none⟩,⟨.some 33,.idxS (.t 31) (.t 32),.none⟩,⟨.some 34,.mov (.t 7),.none⟩,⟨.some 35,.mov (.t 8),.none⟩,⟨.some 36,.idxS (.t 34) (.t 35),.none⟩,⟨.some 37,.bin .eql (.t 33) (.t 36),.none⟩]) (.cond (.t 37) (.seq (.reg .false [⟨.some 6,.mov (.c (.int .u8 0)),.none⟩]) .ret) .skip))) (.reg .false [⟨.some 29,.mov (.t 9),.none⟩,⟨.some 30,.bin .add (.t 29) (.c (.int .i64 1)),.none⟩,⟨.some 9,.mov (.t 30),.none⟩])))))) (.seq (.reg .false [⟨.some 38,.mov (.t 7),.none⟩,⟨.some 39,.mov (.t 8),.none⟩,⟨.some 40,.idxS (.t 38) (.t 39),.none⟩,⟨.some 6,.mov (.t 40),.none⟩]) .ret)))) (.reg .false [⟨.some 15,.mov (.t 8),.none⟩,⟨.some 16,.bin .add (.t 15) (.c (.int .i64 1)),.none⟩,⟨.some 8,.mov (.t 16),.none⟩])))))) (.seq (.reg .false [⟨.some 6,.mov (.c (.int .u8 0)),.none⟩]) .ret))),[.tmp (.t 6)]⟩
theorem e79 : cfn Tryd.prog Tryd.f79 = some c79 := by kernel_rfl
theorem k79 : callable Tryd.prog 79 = true := by kernel_rfl
def c80 : VFn := ⟨26,.seq (.reg .false [⟨.some 2,.mov (.c (.int .i64 0)),.none⟩,⟨.some 3,.mov (.c (.int .i64 0)),.none⟩]) (.seq (.seq (.reg .false [⟨.some 4,.mov (.t 0),.none⟩,⟨.some 5,.bin .eql (.t 4) (.c (.int .u8 111)),.none⟩,⟨.some 6,.mov (.t 5),.none⟩,⟨.some 7,.mov (.t 0),.some ((.t 6),.false)⟩,⟨.some 8,.bin .eql (.t 7) (.c (.int .u8 119)),.some ((.t 6),.false)⟩,⟨.some 9,.pick (.t 6) (.c (.bool .true)) (.t 8),.none⟩,⟨.some 10,.mov (.t 9),.none⟩,⟨.some 11,.mov (.t 0),.some ((.t 10),.false)⟩,⟨.some 12,.bin .eql (.t 11) (.c (.int .u8 104)),.some ((.t 10),.false)⟩,⟨.some 13,.pick (.t 10) (.c (.bool .true)) (.t 12),.none⟩]) (.cond (.t 13) (.seq (.reg .false [⟨.some 14,.call (.c (.fn 83 [])) [],.none⟩,⟨.some 2,.mov (.c (.int .i64 1)),.none⟩,⟨.some 3,.mov (.t 14),.none⟩]) .ret) .skip)) (.seq (.seq (.reg .false [⟨.some 15,.mov (.t 0),.none⟩,⟨.some 16,.bin .eql (.t 15) (.c (.int .u8 66)),.none⟩,⟨.some 17,.mov (.t 16),.none⟩,⟨.some 18,.mov (.t 0),.some ((.t 17),.false)⟩,⟨.some 19,.bin .eql (.t 18) (.c (.int .u8 65)),.some ((.t 17),.false)⟩,⟨.some 20,.pick (.t 17) (.c (.bool .true)) (.t 19),.none⟩]) (.cond (.t 20) (.seq (.reg .false [⟨.some 2,.mov (.c (.int .i64 0)),.none⟩,⟨.some 3,.mov (.c (.int .i64 4)),.none⟩]) .ret) .skip)) (.seq (.seq (.reg .false [⟨.some 21,.mov (.t 0),.none⟩,⟨.some 22,.bin .eql (.t 21) (.c (.int .u8 73)),.none⟩]) (.cond (.t 22) (.seq (.reg .false [⟨.some 2,.mov (.c (.int .i64 0)),.none⟩,⟨.some 3,.mov (.c (.int .i64 1)),.none⟩]) .ret) .skip)) (.seq (.seq (.reg .false [⟨.some 23,.mov (.t 0),.none⟩,⟨.some 24,.bin .eql (.t 23) (.c (.int .u8 99)),.none⟩]) (.cond (.t 24) (.seq (.reg .false [⟨.some 2,.mov (.c (.int .i64 0)),.none⟩,⟨.some 3,.mov (.c (.int .i64 3)),.none⟩]) .ret) .skip)) (.seq (.reg .false [⟨.some 25,.call (.c (.fn 83 [])) [],.none⟩,⟨.some 2,.mov (.c (.int .i64 0)),.none⟩,⟨.some 3,.mov (.t 25),.none⟩]) .ret))))),[.tmp (.t 2),.tmp (.t 3)]⟩
theorem e80 : cfn Tryd.prog Tryd.f80 = some c80 := by kernel_rfl
theorem k80 : callable Tryd.prog 80 = true := by kernel_rfl
def c81 : VFn := ⟨39,.seq (.reg .false [⟨.some 8,.mov (.c (.bool .false)),.none⟩]) (.seq (.reg .false [⟨.some 9,.mov (.t 1),.none⟩,⟨.some 10,.mov (.t 0),.none⟩,⟨.some 11,.len .false (.t 10),.none⟩,⟨.some 12,.bin .lss (.t 9) (.t 11),.none⟩,⟨.some 13,.mov (.t 12),.none⟩,⟨.some 14,.mov (.t 0),.some ((.t 13),.true)⟩,⟨.some 15,.mov (.t 1),.some ((.t 13),.true)⟩,⟨.some 16,.idxA 4 (.t 14) (.t 15),.some ((.t 13),.true)⟩,⟨.some 17,.fldA .false 0 1 (.t 16),.some ((.t 13),.true)⟩,⟨.some 18,.load .false 1 (.t 17),.some ((.t 13),.true)⟩,⟨.some 19,.bin .eql (.t 18) (.c (.int .i64 2)),.some ((.t 13),.true)⟩,⟨.some 20,.pick (.t 13) (.t 19) (.c (.bool .false)),.none⟩,⟨.some 21,.mov (.t 20),.none⟩,⟨.some 22,.mov (.t 0),.some ((.t 21),.true)⟩,⟨.some 23,.mov (.t 1),.some ((.t 21),.true)⟩,⟨.some 24,.idxA 4 (.t 22) (.t 23),.some ((.t 21),.true)⟩,⟨.some 25,.fldA .false 2 1 (.t 24),.some ((.t 21),.true)⟩,⟨.some 26,.load .false 1 (.t 25),.some ((.t 21),.true)⟩,⟨.some 27,.mov (.t 2),.some ((.t 21),.true)⟩,⟨.some 28,.bin .geq (.t 26) (.t 27),.some ((.t 21),.true)⟩,⟨.some 29,.pick (.t 21) (.t 28) (.c (.bool .false)),.none⟩,⟨.some 30,.mov (.t 29),.none⟩,⟨.some 31,.mov (.t 0),.some ((.t 30),.true)⟩,⟨.some 32,.mov (.t 1),.some ((.t 30),.true)⟩,⟨.some 33,.idxA 4 (.t 31) (.t 32),.some ((.t 30),.true)⟩,⟨.some 34,.fldA .false 2 1 (.t 33),.some ((.t 30),.true)⟩,⟨.some 35,.load .false 1 (.t 34),.some ((.t 30),.true)⟩,⟨.some 36,.mov (.t 3),.some ((.t 30),.true)⟩,⟨.some 37,.bin .leq (.t 35) (.t 36),.some ((.t 30),.true)⟩,⟨.some 38,.pick (.t 30) (.t 37) (.c (.bool .false)),.none⟩,⟨.some 8,.mov (.t 38),.none⟩]) .ret),[.tmp (.t 8)]⟩
theorem e81 : cfn Tryd.prog Tryd.f81 = some c81 := by kernel_rfl
theorem k81 : callable Tryd.prog 81 = true := by kernel_rfl
def c82 : VFn := ⟨57,.seq (.reg .false [⟨.some 3,.box 24 12 (.t 0),.none⟩,⟨.some 6,.alloc 24 12 (.agg [.int .i64 0,.int .i64 0,.int .i64 0,.int .i64 0,.int .i64 0,.int .i64 0,.int .i64 0,.int .i64 0,.int .i64 0,.int .i64 0,.int .i64 0,.int .i64 0]),.none⟩]) (.seq (.seq (.reg .false [⟨.some 7,.mov (.t 1),.none⟩]) (.block 0 (.seq (.reg .false [⟨.some 9,.bin .eql (.t 7) (.c (.int .u8 109)),.none⟩,⟨.some 8,.mov (.t 9),.none⟩]) (.cond (.t 8) (.reg .false [⟨.some 10,.mov (.t 2),.none⟩,⟨.some 11,.fldA .false 0 1 (.t 3),.none⟩,⟨.none,.store 1 (.t 11) (.t 10),.none⟩]) (.seq (.reg .false [⟨.some 13,.bin .eql (.t 7) (.c (.int .u8 110)),.none⟩,⟨.some 12,.mov (.t 13),.none⟩]) (.cond (.t 12) (.reg .false [⟨.some 14,.mov (.t 2),.none⟩,⟨.some 15,.fldA .false 1 1 (.t 3),.none⟩,⟨.none,.store 1 (.t 15) (.t 14),.none⟩]) (.seq (.reg .false [⟨.some 17,.bin .eql (.t 7) (.c (.int .u8 112)),.none⟩,⟨.some 16,.mov (.t 17),.none⟩]) (.cond (.t 16) (.reg .false [⟨.some 18,.mov (.t 2),.none⟩,⟨.some 19,.fldA .false 2 1 (.t 3),.none⟩,⟨.none,.store 1 (.t 19) (.t 18),.none⟩]) (.seq (.reg .false [⟨.some 21,.bin .eql (.t 7) (.c (.int .u8 113)),.none⟩,⟨.some 20,.mov (.t 21),.none⟩]) (.cond (.t 20) (.reg .false [⟨.some 22,.mov (.t 2),.none⟩,⟨.some 23,.fldA .false 3 1 (.t 3),.none⟩,⟨.none,.store 1 (.t 23) (.t 22),.none⟩]) (.seq (.reg .false [⟨.some 25,.bin .eql (.t 7) (.c (.int .u8 105)),.none⟩,⟨.some 24,.mov (.t 25),.none⟩]) (.cond (.t 24) (.reg .false [⟨.some 26,.mov (.t 2),.none⟩,⟨.some 27,.fldA .false 4 1 (.t 3),.none⟩,⟨.none,.store 1 (.t 27) (.t 26),.none⟩]) (.seq (.reg .false [⟨.some 29,.bin .eql (.t 7) (.c (.int .u8 111)),.none⟩,⟨.some 28,.mov (.t 29),.none⟩]) (.cond (.t 28) (.reg .false [⟨.some 30,.mov (.t 2),.none⟩,⟨.some 31,.fldA .false 5 1 (.t 3),.none⟩,⟨.none,.store 1 (.t 31) (.t 30),.none⟩]) (.seq (.reg .false [⟨.some 33,.bin .eql (.t 7) (.c (.int .u8 119)),.none⟩,⟨.some 32,.mov (.t 33),.none⟩]) (.cond (.t 32) (.reg .false [⟨.some 34,.mov (.t 2),.none⟩,⟨.some 35,.fldA .false 6 1 (.t 3),.none⟩,⟨.none,.store 1 (.t 35) (.t 34),.none⟩]) (.seq (.reg .false [⟨.some 37,.bin .eql (.t 7) (.c (.int .u8 104)),.none⟩,⟨.some 36,.mov (.t 37),.none⟩]) (.cond (.t 36) (.reg .false [⟨.some 38,.mov (.t 2),.none⟩,⟨.some 39,.fldA .false 7 1 (.t 3),.none⟩,⟨.none,.store 1 (.t 39) (.t 38),.none⟩]) (.seq (.reg .false [⟨.some 41,.bin .eql (.t 7) (.c (.int .u8 66)),.none⟩,⟨.some 40,.mov (.t 41),.none⟩]) (.cond (.t 40) (.reg .false [⟨.some 42,.mov (.t 2),.none⟩,⟨.some 43,.fldA .false 8 1 (.t 3),.none⟩,⟨.none,.store 1 (.t 43) (.t 42),.none⟩]) (.seq (.reg .false [⟨.some 45,.bin .eql (.t 7) (.c (.int .u8 65)),.none⟩,⟨.some 44,.mov (.t 45),.none⟩]) (.cond (.t 44) (.reg .false [⟨.some 46,.mov (.t 2),.none⟩,⟨.some 47,.fldA .false 9 1 (.t 3),.none⟩,⟨.none,.store 1 (.t 47) (.t 46),.none⟩]) (.seq (.reg .false [⟨.some 49,.bin .eql (.t 7) (.c (.int .u8 73)),.none⟩,⟨.some 48,.mov (.t 49),.none⟩]) (.cond (.t 48) (.reg .false [⟨.some 50,.mov (.t 2),.none⟩,⟨.some 51,.fldA .false 10 1 (.t 3),.none⟩,⟨.none,.store 1 (.t 51) (.t 50),.none⟩]) (.seq (.reg .false [⟨.some 53,.bin .eql (.t 7) (.c (.int .u8 99)),.none⟩,⟨.some 52,.mov (.t 53),.none⟩]) (.cond (.t 52) (.reg .false [⟨.some 54,.mov (.t 2),.none⟩,⟨.some 55,.fldA .false 11 1 (.t 3),.none⟩,⟨.none,.store 1 (.t 55) (.t 54),.none⟩]) .skip)))))))))))))))))))))))))) (.seq (.reg .false [⟨.some 56,.load .true 12 (.t 3),.none⟩,⟨.none,.store 12 (.t 6) (.t 56),.none⟩]) .ret)),[.cell .true 12 (.t 6)]⟩
theorem e82 : cfn Tryd.prog Tryd.f82 = some c82 := by kernel_rfl
theorem k82 : callable Tryd.prog 82 = true := by kernel_rfl
def c83 : VFn := ⟨1,.seq (.reg .false [⟨.some 0,.mov (.c (.int .i64 0)),.none⟩]) (.seq (.reg .false [⟨.some 0,.mov (.c (.int .i64 1099511627776)),.none⟩]) .ret),[.tmp (.t 0)]⟩
theorem e83 : cfn Tryd.prog Tryd.f83 = some c83 := by kernel_rfl
theorem k83 : callable Tryd.prog 83 = true := by kernel_rfl
def c88 : VFn := ⟨1,.seq (.reg .false [⟨.some 0,.mov (.c (.str [])),.none⟩]) (.seq (.reg .false [⟨.some 0,.mov (.c (.str [109,110,112,113,105,111,119,104,66,65,73,99])),.none⟩]) .ret),[.tmp (.t 0)]⟩
theorem e88 : cfn Tryd.prog Tryd.f88 = some c88 := by kernel_rfl
theorem k88 : callable Tryd.prog 88 = true := by kernel_rfl
end Go.Vc
namespace Go.Vc
open Go.Proofs
def firstI (p : Int → Bool) : List Int → Int
  | [] => -1
  | x :: l => if p x then 0 else if firstI p l < 0 then -1 else firstI p l + 1
def firstAt (p : Int → Bool) (i : Nat) (l : List Int) : Int := if firstI p l < 0 then -1 else firstI p l + i
theorem firstI_ge (p : Int → Bool) : ∀ l, -1 ≤ firstI p l
  | [] => by simp [firstI]
  | x :: l => by
    have := firstI_ge p l
    simp only [firstI]
    split
    · omega
    · split <;> omega
theorem firstI_at (p : Int → Bool) (l : List Int) : firstI p l = firstAt p 0 l := by
  have := firstI_ge p l
  unfold firstAt
  split <;> omega
theorem indexFunc_c {σ : Store} {sv : V} {l : List Int} {f : FuncId} {caps : List V} {p : Int → Bool} (hr : Reads σ 1 false sv (l.map vI)) (hl : l.length ≤ 200000000000000)
    (hf : ∀ n ∈ l, Contract Tryd.prog f (vI n :: caps) σ fun r σ' => r = .bool (p n) ∧ σ' = σ) :
    Contract Tryd.prog 64 [sv, .fn f caps] σ fun r σ' => r = vI (firstI p l) ∧ σ' = σ := by
  have hlen : lenV false sv = some (vI (l.length : Int)) := by simpa using hr.1
  refine Contract.of_runs Tryd.func64 e64 k64 (by simp [c64]) ?_
  (refine Runs.of_step Orc.nothing 300 ?_; simp -implicitDefEqProofs only [BB,seval,effR_some,effD_some,← decide_not,okind,vpre,vpure,intBin,intPre,strBin,strPre,popTo,argSlots,fldV,fldAV,subCells,idxVV,idxAAV,idxSV,sliceV,sliceSV,boundV,szIs,storeOp,storeS,setRowV,eff,extV,buildV,splice,eqSV,fitsL,eqCells,eqCell,minmaxV,capV,binBV,nilCheckV,bytesV,V.cells,V.stays,Orc.nothing,c64,hlen])
  refine Runs.loop (fun m st => ∃ i : Nat, i ≤ l.length ∧ m = l.length - i ∧ firstI p l = firstAt p i (l.drop i) ∧ st.σ = σ ∧ st.s 0 = sv ∧ st.s 1 = .fn f caps ∧ st.s 7 = vI l.length ∧ st.s 8 = vI i) l.length ?_ ?_
  · exact ⟨0, by omega, by omega, firstI_at p l, rfl, rfl, rfl, rfl, rfl⟩
  · rintro m ⟨s, σ'⟩ ⟨i, hi, rfl, hp, hσ, h0, h1, h7, h8⟩
    simp only at h0 h1 h7 h8 hσ
    subst hσ
    (refine Runs.of_step Orc.nothing 300 ?_; simp -implicitDefEqProofs only [BB,seval,effR_some,effD_some,← decide_not,okind,vpre,vpure,intBin,intPre,strBin,strPre,popTo,argSlots,fldV,fldAV,subCells,idxVV,idxAAV,idxSV,sliceV,sliceSV,boundV,szIs,storeOp,storeS,setRowV,eff,extV,buildV,splice,eqSV,fitsL,eqCells,eqCell,minmaxV,capV,binBV,nilCheckV,bytesV,V.cells,V.stays,Orc.nothing,h0,h1,h7,h8])
    constructor
    · intro hlt
      have hlt' : i < l.length := by omega
      have hd : l.drop i = l[i] :: l.drop (i + 1) := List.drop_eq_getElem_cons hlt'
      obtain ⟨pp, e1, e2⟩ := hr.2 i (vI l[i]) (by simp [hlt'])
      simp -implicitDefEqProofs only [BB,seval,effR_some,effD_some,← decide_not,okind,vpre,vpure,intBin,intPre,strBin,strPre,popTo,argSlots,fldV,fldAV,subCells,idxVV,idxAAV,idxSV,sliceV,sliceSV,boundV,szIs,storeOp,storeS,setRowV,eff,extV,buildV,splice,eqSV,fitsL,eqCells,eqCell,minmaxV,capV,binBV,nilCheckV,bytesV,V.cells,V.stays,e1,e2,s_r_stop]
      refine Runs.pcall rfl rfl rfl (hf l[i] (List.getElem_mem hlt')) ?_
      (refine Runs.of_step Orc.nothing 300 ?_; simp -implicitDefEqProofs only [BB,seval,effR_some,effD_some,← decide_not,okind,vpre,vpure,intBin,intPre,strBin,strPre,popTo,argSlots,fldV,fldAV,subCells,idxVV,idxAAV,idxSV,sliceV,sliceSV,boundV,szIs,storeOp,storeS,setRowV,eff,extV,buildV,splice,eqSV,fitsL,eqCells,eqCell,minmaxV,capV,binBV,nilCheckV,bytesV,V.cells,V.stays,Orc.nothing,h0,h1,h7,h8])
      cases hpx : p l[i]
      · simp -implicitDefEqProofs only [BB,seval,effR_some,effD_some,← decide_not,okind,vpre,vpure,intBin,intPre,strBin,strPre,popTo,argSlots,fldV,fldAV,subCells,idxVV,idxAAV,idxSV,sliceV,sliceSV,boundV,szIs,storeOp,storeS,setRowV,eff,extV,buildV,splice,eqSV,fitsL,eqCells,eqCell,minmaxV,capV,binBV,nilCheckV,bytesV,V.cells,V.stays,h8]
        refine ⟨inR_i64 (by omega) (by omega), _, ?_, i + 1, by omega, rfl, ?_, h0, h1, h7, ?_⟩
        · omega
        · rw [hp, hd]
          simp only [firstAt,firstI,hpx,Bool.false_eq_true,if_false]
          have := firstI_ge p (l.drop (i + 1))
          repeat' split
          all_goals omega
        · simp
      · simp -implicitDefEqProofs only [BB,seval,effR_some,effD_some,← decide_not,okind,vpre,vpure,intBin,intPre,strBin,strPre,popTo,argSlots,fldV,fldAV,subCells,idxVV,idxAAV,idxSV,sliceV,sliceSV,boundV,szIs,storeOp,storeS,setRowV,eff,extV,buildV,splice,eqSV,fitsL,eqCells,eqCell,minmaxV,capV,binBV,nilCheckV,bytesV,V.cells,V.stays]
        refine RetV.same ?_
        rw [hp, hd]
        simp [firstAt, firstI, hpx]
    · intro hge
      have : i = l.length := by omega
      refine RetV.same ?_
      rw [hp, this, List.drop_length]
      rfl
end Go.Vc
namespace Go.Vc
open Go.Proofs
def Nd.ok (x : Nd) : Bool :=
  if x.kind = 1 then x.st.ok && decide (x.line = 0) && decide (x.space = 0) && decide (x.words.length = 0) && decide (x.side = 0) && decide (x.w = 0) && decide (x.h = 0)
  else if x.st ≠ Sty.zero then false
  else if x.kind = 2 then x.words.all (isFrom · 1 mx) && decide (0 < x.words.length) && isFrom x.line 1 mx && isFrom x.space 0 mx && decide (x.side = 0) && decide (x.w = 0) && decide (x.h = 0)
  else decide (x.line = 0) && decide (x.space = 0) && decide (x.words.length = 0) && isFrom x.w 1 mx && isFrom x.h 1 mx &&
    (decide (x.kind = 3) && decide (x.side = 0) || decide (x.kind = 4) && isFrom x.side 1 2)
theorem lenV_encI (l : List Int) : lenV false (encI l) = some (.int .i64 l.length) := by simp [encI, lenV]
theorem dec_true (b : Bool) : V.bool b = V.bool (decide (b = true)) := by cases b <;> rfl
theorem idxAV_encI {σ : Store} {l : List Int} {i : Nat} (h : i < l.length) : idxAV σ 1 (encI l) (.int .i64 i) = some (.rp (.int .i64 l[i])) := by
  simp [encI, idxAV, h]
end Go.Vc
namespace Go.Vc
open Go.Proofs
theorem idxAV_encNs {σ : Store} {l : List Nd} {i : Nat} (h : i < l.length) : idxAV σ 20 (encNs l) (.int .i64 i) = some (.rp (.agg (Nd.cells l[i]))) := by
  simp [encNs, idxAV, h, encN]
def rowsB (l : List Nd) (a e : Nat) : Bool :=
  if _h : a < e then
    match l[a]? with
    | none => false
    | some x => if _hx : 1 ≤ x.size ∧ x.size ≤ (e : Int) - a then
        (decide (x.kind = 1) || decide (x.size ≤ 1)) && rowsB l (a + 1) (a + x.size.toNat) && rowsB l (a + x.size.toNat) e else false
  else true
termination_by e - a
decreasing_by all_goals omega
end Go.Vc
namespace Go.Vc
open Go.Proofs
def Fine (l : List Nd) : Prop := l.length ≤ 10000 ∧ ∀ x ∈ l, x.words.length ≤ 200000000000000
def isB (l : List Nd) : Bool := l.all Nd.ok && rowsB l 0 l.length
theorem loadV_rp_node (σ : Store) (x : Nd) : loadV σ true 20 (.rp (.agg x.cells)) = some (encN x) := rfl
end Go.Vc
namespace Go.Vc
open Go.Proofs
theorem rowsB_size (l : List Nd) : ∀ (m a e : Nat), e - a < m → e ≤ l.length → rowsB l a e = true → ∀ k, a ≤ k → (h : k < e) → (h2 : k < l.length) → 1 ≤ l[k].size ∧ l[k].size ≤ (e : Int) - k ∧ (l[k].kind = 1 ∨ l[k].size ≤ 1)
  | 0, _, _, h, _, _ => by omega
  | m + 1, a, e, hm, he, hr => by
    intro k hk hke h2
    have hae : a < e := by omega
    have ha : a < l.length := by omega
    rw [rowsB, dif_pos hae] at hr
    have hga : l[a]? = some l[a] := by simp [ha]
    rw [hga] at hr
    simp only at hr
    split at hr
    · rename_i hx
      simp only [Bool.and_eq_true,Bool.or_eq_true,decide_eq_true_eq] at hr
      obtain ⟨⟨h3, h4⟩, h5⟩ := hr
      by_cases hka : k = a
      · subst hka; exact ⟨hx.1, hx.2, h3⟩
      · by_cases hin : k < a + l[a].size.toNat
        · obtain ⟨g1, g2, g3⟩ := rowsB_size l m (a + 1) (a + l[a].size.toNat) (by omega) (by omega) h4 k (by omega) hin h2
          exact ⟨g1, by omega, g3⟩
        · exact rowsB_size l m (a + l[a].size.toNat) e (by omega) he h5 k (by omega) hke h2
    · cases hr
structure Sm where
  (depth pieces nodes heights : Int)
deriving DecidableEq
def Sm.cells (s : Sm) : List V := [vI s.depth, vI s.pieces, vI s.nodes, vI s.heights]
def Sm.fine (s : Sm) (k : Int) : Prop := (0 ≤ s.depth ∧ s.depth ≤ k) ∧ (0 ≤ s.pieces ∧ s.pieces ≤ k * 200000000000000) ∧ (0 ≤ s.heights ∧ s.heights ≤ 1099511627777)
end Go.Vc
namespace Go.Vc
open Go.Proofs
def Sm.zero : Sm := ⟨0, 0, 0, 0⟩
end Go.Vc
namespace Go.Vc
open Go.Proofs
theorem firstI_any (p : Int → Bool) : ∀ l, decide (firstI p l ≥ 0) = l.any p
  | [] => by simp [firstI]
  | x :: l => by
    have ih := firstI_any p l
    simp only [firstI,List.any_cons]
    have hg := firstI_ge p l
    rw [← ih, Bool.eq_iff_iff]
    simp only [decide_eq_true_eq,Bool.or_eq_true]
    split
    · rename_i h; simp [h]
    · rename_i h
      simp only [h,Bool.false_eq_true,false_or]

      by_cases hx : firstI p l < 0
      · rw [if_pos hx]; constructor <;> intro hh <;> simp at hh ⊢ <;> omega
      · rw [if_neg hx]; constructor <;> intro hh <;> simp at hh ⊢ <;> omega
theorem containsFunc_c {σ : Store} {sv : V} {l : List Int} {f : FuncId} {caps : List V} {p : Int → Bool} (hr : Reads σ 1 false sv (l.map vI)) (hl : l.length ≤ 200000000000000)
    (hf : ∀ n ∈ l, Contract Tryd.prog f (vI n :: caps) σ fun r σ' => r = .bool (p n) ∧ σ' = σ) :
    Contract Tryd.prog 54 [sv, .fn f caps] σ fun r σ' => r = .bool (l.any p) ∧ σ' = σ := by
  refine Contract.of_runs Tryd.func54 e54 k54 (by simp [c54]) ?_
  (refine Runs.of_step Orc.nothing 300 ?_; simp -implicitDefEqProofs only [BB,seval,effR_some,effD_some,← decide_not,okind,vpre,vpure,intBin,intPre,strBin,strPre,popTo,argSlots,fldV,fldAV,subCells,idxVV,idxAAV,idxSV,sliceV,sliceSV,boundV,szIs,storeOp,storeS,setRowV,eff,extV,buildV,splice,eqSV,fitsL,eqCells,eqCell,minmaxV,capV,binBV,nilCheckV,bytesV,V.cells,V.stays,Orc.nothing,c54])
  refine Runs.pcall rfl rfl rfl (indexFunc_c hr hl hf) ?_
  (refine Runs.of_step Orc.nothing 300 ?_; simp -implicitDefEqProofs only [BB,seval,effR_some,effD_some,← decide_not,okind,vpre,vpure,intBin,intPre,strBin,strPre,popTo,argSlots,fldV,fldAV,subCells,idxVV,idxAAV,idxSV,sliceV,sliceSV,boundV,szIs,storeOp,storeS,setRowV,eff,extV,buildV,splice,eqSV,fitsL,eqCells,eqCell,minmaxV,capV,binBV,nilCheckV,bytesV,V.cells,V.stays,Orc.nothing])
  refine RetV.same ?_
  rw [← firstI_any]
theorem has1_c {σ : Store} {id : Nat} {a b : Int} (h : σ id = some ⟨81, 2, [.agg [vI a, vI b]]⟩) (n : Int) :
    Contract Tryd.prog 55 [vI n, .ptr id 0 0] σ fun r σ' => r = .bool (!isFrom n a b) ∧ σ' = σ := by
  refine Contract.of_runs Tryd.func55 e55 k55 (by simp [c55]) ?_
  (refine Runs.of_step Orc.nothing 300 ?_; simp -implicitDefEqProofs only [BB,seval,effR_some,effD_some,← decide_not,okind,vpre,vpure,intBin,intPre,strBin,strPre,popTo,argSlots,fldV,fldAV,subCells,idxVV,idxAAV,idxSV,sliceV,sliceSV,boundV,szIs,storeOp,storeS,setRowV,eff,extV,buildV,splice,eqSV,fitsL,eqCells,eqCell,minmaxV,capV,binBV,nilCheckV,bytesV,V.cells,V.stays,Orc.nothing,c55,h])
  refine And.intro (fun h => ?_) (fun h => ?_)
  · refine RetV.same ?_
    congr 1
    simp only [isFrom]
    rw [← decide_not, decide_eq_decide]
    omega
  · refine RetV.same ?_
    have : ¬ (n ≥ a ∧ n ≤ b) := by omega
    simp only [isFrom,this,decide_false,Bool.not_false]
theorem Reads.mono {σ σ' : Store} {sz : Nat} {agg : Bool} {sv : V} {rows : List V} (h : SubStore σ σ') (hr : Reads σ sz agg sv rows) : Reads σ' sz agg sv rows := by
  refine ⟨hr.1, fun i v hv => ?_⟩
  obtain ⟨p, h1, h2⟩ := hr.2 i v hv
  refine ⟨p, ?_, ?_⟩
  · cases sv <;> simp only [idxAV,reduceCtorEq] at h1 ⊢
    · exact h1
    · rename_i id off len
      cases ho : σ id with
      | none => rw [ho] at h1; cases h1
      | some ob => rw [ho] at h1; rw [h id ob ho]; exact h1
  · cases p <;> simp only [loadV,reduceCtorEq] at h2 ⊢
    · rename_i id i k
      cases ho : σ id with
      | none => rw [ho] at h2; cases h2
      | some ob => rw [ho] at h2; rw [h id ob ho]; exact h2
    · exact h2
theorem has_c {σ : Store} {sv : V} {l : List Int} {a b : Int} (hr : Reads σ 1 false sv (l.map vI)) (hl : l.length ≤ 200000000000000) :
    Contract Tryd.prog 37 [.agg [vI a, vI b], sv] σ fun r σ' => r = .bool (l.all fun n => isFrom n a b) ∧ σ' = σ := by
  refine Contract.of_runs Tryd.func37 e37 k37 (by simp [c37]) ?_
  (refine Runs.of_step Orc.nothing 300 ?_; simp -implicitDefEqProofs only [BB,seval,effR_some,effD_some,← decide_not,okind,vpre,vpure,intBin,intPre,strBin,strPre,popTo,argSlots,fldV,fldAV,subCells,idxVV,idxAAV,idxSV,sliceV,sliceSV,boundV,szIs,storeOp,storeS,setRowV,eff,extV,buildV,splice,eqSV,fitsL,eqCells,eqCell,minmaxV,capV,binBV,nilCheckV,bytesV,V.cells,V.stays,Orc.nothing,c37])
  intro id hid
  refine Runs.pcall rfl rfl rfl (containsFunc_c (p := fun n => !isFrom n a b) (hr.mono ((SubStore.refl σ).upd hid)) hl (fun n _ => has1_c upd_same n)) ?_
  (refine Runs.of_step Orc.nothing 300 ?_; simp -implicitDefEqProofs only [BB,seval,effR_some,effD_some,← decide_not,okind,vpre,vpure,intBin,intPre,strBin,strPre,popTo,argSlots,fldV,fldAV,subCells,idxVV,idxAAV,idxSV,sliceV,sliceSV,boundV,szIs,storeOp,storeS,setRowV,eff,extV,buildV,splice,eqSV,fitsL,eqCells,eqCell,minmaxV,capV,binBV,nilCheckV,bytesV,V.cells,V.stays,Orc.nothing])
  refine RetV.pure ((SubStore.refl σ).upd hid) ?_
  rw [List.all_eq_not_any_not]
end Go.Vc
namespace Go.Vc
open Go.Proofs
def intsOf : List V → Option (List Int)
  | [] => some []
  | .int .i64 n :: l => (intsOf l).map (n :: ·)
  | _ => none
theorem intsOf_eq : ∀ {l : List V} {m : List Int}, intsOf l = some m → l = m.map vI
  | [], m, h => by simp [intsOf] at h; subst h; rfl
  | v :: l, m, h => by
    cases v <;> try (simp [intsOf] at h)
    rename_i k n
    cases k <;> try (simp [intsOf] at h)
    obtain ⟨m', h1, rfl⟩ := h
    rw [intsOf_eq h1]; rfl
theorem intsOf_map (m : List Int) : intsOf (m.map vI) = some m := by
  induction m with
  | nil => rfl
  | cons n m ih => simp [intsOf, ih]
def readInts (σ : Store) : V → Option (List Int)
  | .own id off len => match σ id with
      | some ob => if ob.sz = 1 ∧ off + len ≤ ob.rows.length ∧ len ≤ 200000000000000 then (if (intsOf ob.rows).isSome then intsOf ((ob.rows.drop off).take len) else none) else none
      | none => none
  | .sl 1 rows => if rows.length ≤ 200000000000000 then intsOf rows else none
  | _ => none
theorem readInts_reads {σ : Store} {sv : V} {l : List Int} (h : readInts σ sv = some l) : Reads σ 1 false sv (l.map vI) ∧ l.length ≤ 200000000000000 := by
  unfold readInts at h
  split at h
  · rename_i id off len
    split at h
    · rename_i ob hob
      split at h
      · rename_i hc
        split at h
        · rename_i hi
          have he := intsOf_eq h
          obtain ⟨m, hm⟩ := Option.isSome_iff_exists.1 hi
          have hm := intsOf_eq hm
          have hr := Reads.own (σ := σ) hob hc.1 hc.2.1 (fun r hr => by rw [hm] at hr; simp only [List.mem_map] at hr; obtain ⟨n, _, rfl⟩ := hr; rfl)
          rw [he] at hr
          have hl : l.length = len := by
            have := congrArg List.length he
            simp at this
            omega
          exact ⟨hr, by omega⟩
        · cases h
      · cases h
    · cases h
  · rename_i rows
    split at h
    · rename_i hc
      have he := intsOf_eq h
      subst he
      exact ⟨Reads.ints, by simpa using hc⟩
    · cases h
  · cases h
theorem readInts_mono {σ σ' : Store} (hs : SubStore σ σ') {sv : V} {l : List Int} (h : readInts σ sv = some l) : readInts σ' sv = some l := by
  unfold readInts at h ⊢
  split at h
  · split at h
    · rename_i ob hob
      simp only [hs _ _ hob]
      exact h
    · cases h
  · exact h
  · cases h
theorem readInts_encI (σ : Store) {l : List Int} (h : l.length ≤ 200000000000000) : readInts σ (encI l) = some l := by
  simp only [encI,readInts,List.length_map,if_pos h]
  exact intsOf_map l
def o10 (f : FuncId) (args : List V) (σ : Store) : Option V := if f = 37 then (match args with
  | [.agg [.int .i64 a, .int .i64 b], sv] => (readInts σ sv).map fun l => .bool (l.all fun n => isFrom n a b)
  | _ => none) else none
def O10 : Orc Tryd.prog where
  get := o10
  up f args σ σ' v hs h := by
    unfold o10 at h ⊢
    split at h
    · rename_i hf
      rw [if_pos hf]
      split at h
      · simp only [Option.map_eq_some_iff] at h ⊢
        obtain ⟨l, h1, h2⟩ := h
        exact ⟨l, readInts_mono hs h1, h2⟩
      · cases h
    · cases h
  ok f args σ v h := by
    unfold o10 at h
    split at h
    · rename_i hf
      subst hf
      split at h
      · simp only [Option.map_eq_some_iff] at h
        obtain ⟨l, h1, rfl⟩ := h
        obtain ⟨g1, g2⟩ := readInts_reads h1
        exact has_c g1 g2
      · cases h
    · cases h
theorem O10_65 (a b : Int) (sv : V) (σ : Store) : O10.get 37 [.agg [.int .i64 a, .int .i64 b], sv] σ = (readInts σ sv).map fun l => .bool (l.all fun n => isFrom n a b) := rfl
theorem readInts_own (σ : Store) (id off len : Nat) : readInts σ (.own id off len) = match σ id with
      | some ob => if ob.sz = 1 ∧ off + len ≤ ob.rows.length ∧ len ≤ 200000000000000 then (if (intsOf ob.rows).isSome then intsOf ((ob.rows.drop off).take len) else none) else none
      | none => none := rfl
theorem intsOf_int (n : Int) (l : List V) : intsOf (.int .i64 n :: l) = (intsOf l).map (n :: ·) := rfl
theorem intsOf_nil : intsOf [] = some [] := rfl
set_option maxRecDepth 100000 in
theorem styled_c (s : Sty) : PFun Tryd.prog 36 [.agg s.cells] (.bool s.ok) := fun σ => by
  refine Contract.of_runs Tryd.func36 e36 k36 (by simp [c36]) ?_
  refine Runs.mix 6 ?_
  (refine Runs.of_step O10 300 ?_; simp -implicitDefEqProofs only [BB,seval,← decide_not,okind,vpre,vpure,intBin,intPre,strBin,strPre,popTo,argSlots,fldV,fldAV,subCells,idxVV,idxAAV,idxSV,sliceV,sliceSV,boundV,szIs,storeOp,storeS,setRowV,eff,extV,buildV,splice,eqSV,fitsL,eqCells,eqCell,minmaxV,capV,binBV,nilCheckV,bytesV,V.cells,V.stays,c36,Sty.cells])
  refine effR_new fun id1 σ1 s1 a1 f1 => ?_
  simp -implicitDefEqProofs only [BB,seval,← decide_not,okind,vpre,vpure,intBin,intPre,strBin,strPre,popTo,argSlots,fldV,fldAV,subCells,idxVV,idxAAV,idxSV,sliceV,sliceSV,boundV,szIs,storeOp,storeS,setRowV,eff,extV,buildV,splice,eqSV,fitsL,eqCells,eqCell,minmaxV,capV,binBV,nilCheckV,bytesV,V.cells,V.stays]
  refine effR_new fun id3 σ2 s2 a3 f3 => ?_
  have n13 := ne_new a1 f3
  have a1 := s2 _ _ a1
  simp -implicitDefEqProofs only [BB,seval,← decide_not,okind,vpre,vpure,intBin,intPre,strBin,strPre,popTo,argSlots,fldV,fldAV,subCells,idxVV,idxAAV,idxSV,sliceV,sliceSV,boundV,szIs,storeOp,storeS,setRowV,eff,extV,buildV,splice,eqSV,fitsL,eqCells,eqCell,minmaxV,capV,binBV,nilCheckV,bytesV,V.cells,V.stays,a1]
  refine effR_new fun id4 σ3 s3 a4 f4 => ?_
  have n14 := ne_new a1 f4
  have n34 := ne_new a3 f4
  have a1 := s3 _ _ a1
  have a3 := s3 _ _ a3
  have hs : SubStore σ σ3 := (s1.trans s2).trans s3
  have g3 : σ id3 = none := s1.none f3
  have g4 : σ id4 = none := (s1.trans s2).none f4
  simp -implicitDefEqProofs only [BB,seval,← decide_not,okind,vpre,vpure,intBin,intPre,strBin,strPre,popTo,argSlots,fldV,fldAV,subCells,idxVV,idxAAV,idxSV,sliceV,sliceSV,boundV,szIs,storeOp,storeS,setRowV,eff,extV,buildV,splice,eqSV,fitsL,eqCells,eqCell,minmaxV,capV,binBV,nilCheckV,bytesV,V.cells,V.stays,a1,a3,a4,upd_ne n34,upd_ne n34.symm,upd_ne n13,upd_ne n14]
  have hs' := fun o o' => (hs.updK (o := o) g3).updK (o := o') g4
  refine effR_new fun id5 σ4 s4 a5 f5 => ?_
  have a1 := s4 id1 _ (by rw [upd_ne n14, upd_ne n13]; exact a1)
  have a4 := s4 id4 _ upd_same
  have hs := (hs' _ _).trans s4
  simp -implicitDefEqProofs only [BB,seval,← decide_not,okind,vpre,vpure,intBin,intPre,strBin,strPre,popTo,argSlots,fldV,fldAV,subCells,idxVV,idxAAV,idxSV,sliceV,sliceSV,boundV,szIs,storeOp,storeS,setRowV,eff,extV,buildV,splice,eqSV,fitsL,eqCells,eqCell,minmaxV,capV,binBV,nilCheckV,bytesV,V.cells,V.stays,a1,a4,a5,O10_65,readInts_own,intsOf_int,intsOf_nil,isFrom,← Bool.decide_and]
  refine And.intro (fun p0 => ?_) (fun p0 => RetV.pure hs (by rw [V.bool.injEq]; symm; rw [Bool.eq_false_iff]; intro h; simp [Sty.ok, isFrom, mx] at h; omega))
  refine effR_new fun id6 σ5 s5 a6 f6 => ?_
  have a1 := s5 _ _ a1
  have hs := hs.trans s5
  simp -implicitDefEqProofs only [BB,seval,← decide_not,okind,vpre,vpure,intBin,intPre,strBin,strPre,popTo,argSlots,fldV,fldAV,subCells,idxVV,idxAAV,idxSV,sliceV,sliceSV,boundV,szIs,storeOp,storeS,setRowV,eff,extV,buildV,splice,eqSV,fitsL,eqCells,eqCell,minmaxV,capV,binBV,nilCheckV,bytesV,V.cells,V.stays,a1,a6,O10_65,readInts_own,intsOf_int,intsOf_nil,isFrom,← Bool.decide_and]
  refine And.intro (fun p1 => ?_) (fun p1 => RetV.pure hs (by rw [V.bool.injEq]; symm; rw [Bool.eq_false_iff]; intro h; simp [Sty.ok, isFrom, mx] at h; omega))
  refine effR_new fun id7 σ6 s6 a7 f7 => ?_
  have a1 := s6 _ _ a1
  have hs := hs.trans s6
  simp -implicitDefEqProofs only [BB,seval,← decide_not,okind,vpre,vpure,intBin,intPre,strBin,strPre,popTo,argSlots,fldV,fldAV,subCells,idxVV,idxAAV,idxSV,sliceV,sliceSV,boundV,szIs,storeOp,storeS,setRowV,eff,extV,buildV,splice,eqSV,fitsL,eqCells,eqCell,minmaxV,capV,binBV,nilCheckV,bytesV,V.cells,V.stays,a1,a7,O10_65,readInts_own,intsOf_int,intsOf_nil,isFrom,← Bool.decide_and]
  refine And.intro (fun p2 => ?_) (fun p2 => RetV.pure hs (by rw [V.bool.injEq]; symm; rw [Bool.eq_false_iff]; intro h; simp [Sty.ok, isFrom, mx] at h; omega))
  refine effR_new fun id8 σ7 s7 a8 f8 => ?_
  have a1 := s7 _ _ a1
  have hs := hs.trans s7
  simp -implicitDefEqProofs only [BB,seval,← decide_not,okind,vpre,vpure,intBin,intPre,strBin,strPre,popTo,argSlots,fldV,fldAV,subCells,idxVV,idxAAV,idxSV,sliceV,sliceSV,boundV,szIs,storeOp,storeS,setRowV,eff,extV,buildV,splice,eqSV,fitsL,eqCells,eqCell,minmaxV,capV,binBV,nilCheckV,bytesV,V.cells,V.stays,a1,a8,O10_65,readInts_own,intsOf_int,intsOf_nil,isFrom,← Bool.decide_and]
  refine And.intro (fun p3 => ?_) (fun p3 => RetV.pure hs (by rw [V.bool.injEq]; symm; rw [Bool.eq_false_iff]; intro h; simp [Sty.ok, isFrom, mx] at h; omega))
  refine effR_new fun id9 σ8 s8 a9 f9 => ?_
  have a1 := s8 _ _ a1
  have hs := hs.trans s8
  simp -implicitDefEqProofs only [BB,seval,← decide_not,okind,vpre,vpure,intBin,intPre,strBin,strPre,popTo,argSlots,fldV,fldAV,subCells,idxVV,idxAAV,idxSV,sliceV,sliceSV,boundV,szIs,storeOp,storeS,setRowV,eff,extV,buildV,splice,eqSV,fitsL,eqCells,eqCell,minmaxV,capV,binBV,nilCheckV,bytesV,V.cells,V.stays,a1,a9,O10_65,readInts_own,intsOf_int,intsOf_nil,isFrom,← Bool.decide_and]
  refine RetV.pure hs ?_
  rw [V.bool.injEq, Bool.eq_iff_iff]
  simp [Sty.ok, isFrom, mx]
  omega
end Go.Vc
namespace Go.Vc
open Go.Proofs
def o12 (f : FuncId) (args : List V) (σ : Store) : Option V := if f = 37 then (match args with
  | [.agg [.int .i64 a, .int .i64 b], sv] => (readInts σ sv).map fun l => .bool (l.all fun n => isFrom n a b)
  | _ => none) else if f = 36 then (match args with
  | [.agg [.int .i64 a, .int .i64 b, .int .i64 c, .int .i64 d, .int .i64 e, .int .i64 f, .int .i64 g, .int .i64 h, .int .i64 i, .int .i64 j, .int .i64 k, .int .i64 l]] => some (.bool (Sty.ok ⟨a, b, c, d, e, f, g, h, i, j, k, l⟩))
  | _ => none) else none
def O12 : Orc Tryd.prog where
  get := o12
  up f args σ σ' v hs h := by
    unfold o12 at h ⊢
    split at h
    · rename_i hf
      rw [if_pos hf]
      split at h
      · simp only [Option.map_eq_some_iff] at h ⊢
        obtain ⟨l, h1, h2⟩ := h
        exact ⟨l, readInts_mono hs h1, h2⟩
      · cases h
    · rename_i hf
      rw [if_neg hf]
      exact h
  ok f args σ v h := by
    unfold o12 at h
    split at h
    · rename_i hf
      subst hf
      split at h
      · simp only [Option.map_eq_some_iff] at h
        obtain ⟨l, h1, rfl⟩ := h
        obtain ⟨g1, g2⟩ := readInts_reads h1
        exact has_c g1 g2
      · cases h
    · split at h
      · rename_i hf
        subst hf
        split at h
        · simp only [Option.some.injEq] at h
          subst h
          exact styled_c ⟨_, _, _, _, _, _, _, _, _, _, _, _⟩ σ
        · cases h
      · cases h
theorem O12_65 (a b : Int) (sv : V) (σ : Store) : O12.get 37 [.agg [.int .i64 a, .int .i64 b], sv] σ = (readInts σ sv).map fun l => .bool (l.all fun n => isFrom n a b) := rfl
theorem O12_64 (a b c d e f g h i j k l : Int) (σ : Store) : O12.get 36 [.agg [.int .i64 a, .int .i64 b, .int .i64 c, .int .i64 d, .int .i64 e, .int .i64 f, .int .i64 g, .int .i64 h, .int .i64 i, .int .i64 j, .int .i64 k, .int .i64 l]] σ =
  some (.bool (Sty.ok ⟨a, b, c, d, e, f, g, h, i, j, k, l⟩)) := rfl
theorem isZero_eq (s : Sty) : (decide (s.top = 0) && (decide (s.bottom = 0) && (decide (s.padTop = 0) && (decide (s.padBottom = 0) && (decide (s.inset = 0) && (decide (s.orphans = 0) && (decide (s.widows = 0) && (decide (s.head = 0) &&
    (decide (s.before = 0) && (decide (s.after = 0) && (decide (s.inside = 0) && decide (s.clear = 0)))))))))))) = decide (s = Sty.zero) := by
  rw [Bool.eq_iff_iff]
  cases s
  simp [Sty.zero]
set_option maxRecDepth 100000 in
theorem fits_c4 (x : Nd) (hl : x.words.length ≤ 200000000000000) (k4 : x.kind = 4) : PFun Tryd.prog 13 [encN x] (.bool x.ok) := fun σ => by
  refine Contract.of_runs Tryd.func13 e13 k13 (by simp [c13]) ?_
  refine Runs.mix 6 ?_
  (refine Runs.of_step O12 300 ?_; simp -implicitDefEqProofs only [BB,seval,← decide_not,okind,vpre,vpure,intBin,intPre,strBin,strPre,popTo,argSlots,fldV,fldAV,subCells,idxVV,idxAAV,idxSV,sliceV,sliceSV,boundV,szIs,storeOp,storeS,setRowV,eff,extV,buildV,splice,eqSV,fitsL,eqCells,eqCell,minmaxV,capV,binBV,nilCheckV,bytesV,V.cells,V.stays,c13,encN,Nd.cells])
  refine effR_new fun id1 σ1 s1 a1 f1 => ?_
  simp -implicitDefEqProofs only [BB,seval,← decide_not,okind,vpre,vpure,intBin,intPre,strBin,strPre,popTo,argSlots,fldV,fldAV,subCells,idxVV,idxAAV,idxSV,sliceV,sliceSV,boundV,szIs,storeOp,storeS,setRowV,eff,extV,buildV,splice,eqSV,fitsL,eqCells,eqCell,minmaxV,capV,binBV,nilCheckV,bytesV,V.cells,V.stays,a1]
  refine effR_new fun id3 σ2 s2 a3 f3 => ?_
  have n13 := ne_new a1 f3
  have a1 := s2 _ _ a1
  have hs := (s1.trans s2).updK (s1.none f3) (o := ⟨81, 2, [.agg [vI 1, vI 1099511627776]]⟩)
  have hok3 : x.ok = (decide (x.st = Sty.zero) && (decide (x.line = 0) && decide (x.space = 0) && decide (x.words.length = 0) && isFrom x.w 1 mx && isFrom x.h 1 mx && isFrom x.side 1 2)) := by
    by_cases hst : x.st = Sty.zero <;> simp [Nd.ok, k4, hst]
  simp -implicitDefEqProofs only [BB,seval,← decide_not,okind,vpre,vpure,intBin,intPre,strBin,strPre,popTo,argSlots,fldV,fldAV,subCells,idxVV,idxAAV,idxSV,sliceV,sliceSV,boundV,szIs,storeOp,storeS,setRowV,eff,extV,buildV,splice,eqSV,fitsL,eqCells,eqCell,minmaxV,capV,binBV,nilCheckV,bytesV,V.cells,V.stays,a1,a3,upd_ne n13,isZero_eq,lenV_encI,k4,O12_64,cR_b,upd_same]
  refine And.intro (fun e1 => And.intro (fun e2 => And.intro (fun z => And.intro (fun w => ?_) (fun w => ?_)) (fun z => ?_)) (fun e2 => ?_)) (fun e1 => ?_)
  · refine effR_new fun id4 σ3 s3 a4 f4 => ?_
    have a1 := s3 id1 _ (by rw [upd_ne n13]; exact a1)
    have a3 := s3 id3 _ upd_same
    have hs := hs.trans s3
    simp -implicitDefEqProofs only [BB,seval,← decide_not,okind,vpre,vpure,intBin,intPre,strBin,strPre,popTo,argSlots,fldV,fldAV,subCells,idxVV,idxAAV,idxSV,sliceV,sliceSV,boundV,szIs,storeOp,storeS,setRowV,eff,extV,buildV,splice,eqSV,fitsL,eqCells,eqCell,minmaxV,capV,binBV,nilCheckV,bytesV,V.cells,V.stays,a1,a3,a4,O12_65,readInts_own,intsOf_int,intsOf_nil,isFrom,List.all_cons,List.all_nil,← Bool.decide_and]
    refine And.intro (fun q1 => ?_) (fun q1 => RetV.pure hs ?_)
    · refine effR_new fun id5 σ4 s4 a5 f5 => ?_
      have a1 := s4 _ _ a1
      have hs := hs.trans s4
      simp -implicitDefEqProofs only [BB,seval,← decide_not,okind,vpre,vpure,intBin,intPre,strBin,strPre,popTo,argSlots,fldV,fldAV,subCells,idxVV,idxAAV,idxSV,sliceV,sliceSV,boundV,szIs,storeOp,storeS,setRowV,eff,extV,buildV,splice,eqSV,fitsL,eqCells,eqCell,minmaxV,capV,binBV,nilCheckV,bytesV,V.cells,V.stays,a1,a5,O12_65,readInts_own,intsOf_int,intsOf_nil,isFrom,List.all_cons,List.all_nil,← Bool.decide_and]
      refine RetV.pure hs ?_
      rw [V.bool.injEq, hok3, Bool.eq_iff_iff]
      simp only [isFrom,mx]
      simp at w
      simp [e1, e2, z, w]
      omega
    · rw [V.bool.injEq, hok3, Bool.eq_iff_iff]
      simp only [isFrom,mx]
      simp [e1, e2, z]
      omega
  all_goals (repeat' (first
    | with_reducible refine And.intro (fun h => ?_) (fun h => ?_)
    | with_reducible refine RetV.pure hs ?_))
  all_goals (rw [V.bool.injEq, hok3, Bool.eq_iff_iff]; simp_all)
set_option maxRecDepth 100000 in
theorem fits_c (x : Nd) (hl : x.words.length ≤ 200000000000000) : PFun Tryd.prog 13 [encN x] (.bool x.ok) := fun σ => by
  by_cases k4 : x.kind = 4
  · exact fits_c4 x hl k4 σ
  refine Contract.of_runs Tryd.func13 e13 k13 (by simp [c13]) ?_
  refine Runs.mix 6 ?_
  (refine Runs.of_step O12 300 ?_; simp -implicitDefEqProofs only [BB,seval,← decide_not,okind,vpre,vpure,intBin,intPre,strBin,strPre,popTo,argSlots,fldV,fldAV,subCells,idxVV,idxAAV,idxSV,sliceV,sliceSV,boundV,szIs,storeOp,storeS,setRowV,eff,extV,buildV,splice,eqSV,fitsL,eqCells,eqCell,minmaxV,capV,binBV,nilCheckV,bytesV,V.cells,V.stays,c13,encN,Nd.cells])
  refine effR_new fun id1 σ1 s1 a1 f1 => ?_
  simp -implicitDefEqProofs only [BB,seval,← decide_not,okind,vpre,vpure,intBin,intPre,strBin,strPre,popTo,argSlots,fldV,fldAV,subCells,idxVV,idxAAV,idxSV,sliceV,sliceSV,boundV,szIs,storeOp,storeS,setRowV,eff,extV,buildV,splice,eqSV,fitsL,eqCells,eqCell,minmaxV,capV,binBV,nilCheckV,bytesV,V.cells,V.stays,a1]
  refine effR_new fun id3 σ2 s2 a3 f3 => ?_
  have n13 := ne_new a1 f3
  have a1 := s2 _ _ a1
  have hs := (s1.trans s2).updK (s1.none f3) (o := ⟨81, 2, [.agg [vI 1, vI 1099511627776]]⟩)
  have hz : (x.kind = 1 → x.ok = (x.st.ok && decide (x.line = 0) && decide (x.space = 0) && decide (x.words.length = 0) && decide (x.side = 0) && decide (x.w = 0) && decide (x.h = 0))) := fun h => by simp [Nd.ok, h]
  have hwl : x.words.length ≤ 200000000000000 := by omega
  by_cases k1 : x.kind = 1
  · simp -implicitDefEqProofs only [BB,seval,← decide_not,okind,vpre,vpure,intBin,intPre,strBin,strPre,popTo,argSlots,fldV,fldAV,subCells,idxVV,idxAAV,idxSV,sliceV,sliceSV,boundV,szIs,storeOp,storeS,setRowV,eff,extV,buildV,splice,eqSV,fitsL,eqCells,eqCell,minmaxV,capV,binBV,nilCheckV,bytesV,V.cells,V.stays,a1,a3,upd_ne n13,isZero_eq,lenV_encI,k1,O12_64,cR_b]
    rw [hz k1]
    repeat' (first
      | with_reducible refine And.intro (fun h => ?_) (fun h => ?_)
      | with_reducible refine RetV.pure hs ?_)
    all_goals (rw [V.bool.injEq, Bool.eq_iff_iff]; simp_all)
  · by_cases k2 : x.kind = 2
    · by_cases e1 : x.line = 0
      · have hok0 : x.ok = false := by
          by_cases hst : x.st = Sty.zero <;> simp [Nd.ok, k2, hst, e1, isFrom]
        rw [hok0]
        simp -implicitDefEqProofs only [BB,seval,← decide_not,okind,vpre,vpure,intBin,intPre,strBin,strPre,popTo,argSlots,fldV,fldAV,subCells,idxVV,idxAAV,idxSV,sliceV,sliceSV,boundV,szIs,storeOp,storeS,setRowV,eff,extV,buildV,splice,eqSV,fitsL,eqCells,eqCell,minmaxV,capV,binBV,nilCheckV,bytesV,V.cells,V.stays,a1,a3,upd_ne n13,isZero_eq,lenV_encI,k1,k2,e1,O12_64,cR_b,upd_same]
        repeat' (first
          | with_reducible refine And.intro (fun h => ?_) (fun h => ?_)
          | with_reducible refine RetV.pure hs rfl
          | (refine effR_new fun id4 σ3 s3 a4 f4 => ?_
             have a1 := s3 id1 _ (by rw [upd_ne n13]; exact a1)
             have a3 := s3 id3 _ upd_same
             simp -implicitDefEqProofs only [BB,seval,← decide_not,okind,vpre,vpure,intBin,intPre,strBin,strPre,popTo,argSlots,fldV,fldAV,subCells,idxVV,idxAAV,idxSV,sliceV,sliceSV,boundV,szIs,storeOp,storeS,setRowV,eff,extV,buildV,splice,eqSV,fitsL,eqCells,eqCell,minmaxV,capV,binBV,nilCheckV,bytesV,V.cells,V.stays,a1,a3,a4,O12_65,readInts_own,intsOf_int,intsOf_nil,isFrom,List.all_cons,List.all_nil,false_and]
             exact RetV.pure (hs.trans s3) rfl))
      · simp -implicitDefEqProofs only [BB,seval,← decide_not,okind,vpre,vpure,intBin,intPre,strBin,strPre,popTo,argSlots,fldV,fldAV,subCells,idxVV,idxAAV,idxSV,sliceV,sliceSV,boundV,szIs,storeOp,storeS,setRowV,eff,extV,buildV,splice,eqSV,fitsL,eqCells,eqCell,minmaxV,capV,binBV,nilCheckV,bytesV,V.cells,V.stays,a1,a3,upd_ne n13,isZero_eq,lenV_encI,k1,k2,e1,O12_64,cR_b,upd_same]
        have hok2 : x.ok = (decide (x.st = Sty.zero) && (x.words.all (isFrom · 1 mx) && decide (0 < x.words.length) && isFrom x.line 1 mx && isFrom x.space 0 mx && decide (x.side = 0) && decide (x.w = 0) && decide (x.h = 0))) := by
          by_cases hst : x.st = Sty.zero <;> simp [Nd.ok, k2, hst]
        refine And.intro (fun z => ?_) (fun z => RetV.pure hs (by rw [hok2]; simp_all))
        refine And.intro (fun w1 => ?_) (fun w1 => RetV.pure hs (by rw [hok2]; simp [w1]))
        refine And.intro (fun w2 => ?_) (fun w2 => RetV.pure hs (by rw [hok2]; simp [w2]))
        refine And.intro (fun w3 => ?_) (fun w3 => RetV.pure hs (by rw [hok2]; simp [w3]))
        refine effR_new fun id4 σ3 s3 a4 f4 => ?_
        have a1 := s3 id1 _ (by rw [upd_ne n13]; exact a1)
        have a3 := s3 id3 _ upd_same
        have hs := hs.trans s3
        simp -implicitDefEqProofs only [BB,seval,← decide_not,okind,vpre,vpure,intBin,intPre,strBin,strPre,popTo,argSlots,fldV,fldAV,subCells,idxVV,idxAAV,idxSV,sliceV,sliceSV,boundV,szIs,storeOp,storeS,setRowV,eff,extV,buildV,splice,eqSV,fitsL,eqCells,eqCell,minmaxV,capV,binBV,nilCheckV,bytesV,V.cells,V.stays,a1,a3,a4,O12_65,readInts_own,intsOf_int,intsOf_nil,readInts_encI _ hwl,cR_b,dec_true (List.all _ _)]
        refine And.intro (fun q1 => ?_) (fun q1 => RetV.pure hs (by rw [hok2]; simp [mx] at q1 ⊢; simp [q1]))
        refine And.intro (fun q2 => ?_) (fun q2 => RetV.pure hs (by rw [hok2]; simp only [mx,q2]; simp))
        refine effR_new fun id5 σ4 s4 a5 f5 => ?_
        have a1 := s4 _ _ a1
        have hs := hs.trans s4
        simp -implicitDefEqProofs only [BB,seval,← decide_not,okind,vpre,vpure,intBin,intPre,strBin,strPre,popTo,argSlots,fldV,fldAV,subCells,idxVV,idxAAV,idxSV,sliceV,sliceSV,boundV,szIs,storeOp,storeS,setRowV,eff,extV,buildV,splice,eqSV,fitsL,eqCells,eqCell,minmaxV,capV,binBV,nilCheckV,bytesV,V.cells,V.stays,a1,a5,O12_65,readInts_own,intsOf_int,intsOf_nil,readInts_encI _ hwl,cR_b,lenV_encI,dec_true (List.all _ _)]
        refine And.intro (fun q3 => ?_) (fun q3 => RetV.pure hs (by rw [hok2]; simp [mx] at q3 ⊢; simp [q3]))
        refine RetV.pure hs ?_
        rw [hok2]
        simp only [mx,q1,q2,q3,z,w1,w2,w3]
        simp
    · have hok3 : x.ok = (decide (x.st = Sty.zero) && (decide (x.line = 0) && decide (x.space = 0) && decide (x.words.length = 0) && isFrom x.w 1 mx && isFrom x.h 1 mx &&
          (decide (x.kind = 3) && decide (x.side = 0) || decide (x.kind = 4) && isFrom x.side 1 2))) := by
        by_cases hst : x.st = Sty.zero <;> simp [Nd.ok, k1, k2, hst]
      by_cases k3 : x.kind = 3
      · simp -implicitDefEqProofs only [BB,seval,← decide_not,okind,vpre,vpure,intBin,intPre,strBin,strPre,popTo,argSlots,fldV,fldAV,subCells,idxVV,idxAAV,idxSV,sliceV,sliceSV,boundV,szIs,storeOp,storeS,setRowV,eff,extV,buildV,splice,eqSV,fitsL,eqCells,eqCell,minmaxV,capV,binBV,nilCheckV,bytesV,V.cells,V.stays,a1,a3,upd_ne n13,isZero_eq,lenV_encI,k1,k2,k3,O12_64,cR_b,upd_same]
        repeat' (first
          | with_reducible refine And.intro (fun h => ?_) (fun h => ?_)
          | with_reducible refine RetV.pure hs ?_
          | (refine effR_new fun id4 σ3 s3 a4 f4 => ?_
             have a1 := s3 id1 _ (by rw [upd_ne n13]; exact a1)
             have a3 := s3 id3 _ upd_same
             simp -implicitDefEqProofs only [BB,seval,← decide_not,okind,vpre,vpure,intBin,intPre,strBin,strPre,popTo,argSlots,fldV,fldAV,subCells,idxVV,idxAAV,idxSV,sliceV,sliceSV,boundV,szIs,storeOp,storeS,setRowV,eff,extV,buildV,splice,eqSV,fitsL,eqCells,eqCell,minmaxV,capV,binBV,nilCheckV,bytesV,V.cells,V.stays,a1,a3,a4,O12_65,readInts_own,intsOf_int,intsOf_nil,isFrom,List.all_cons,List.all_nil,← Bool.decide_and]
             refine RetV.pure (hs.trans s3) ?_))
        all_goals (rw [V.bool.injEq, hok3, Bool.eq_iff_iff]; simp_all [isFrom, mx] <;> omega)
      · simp -implicitDefEqProofs only [BB,seval,← decide_not,okind,vpre,vpure,intBin,intPre,strBin,strPre,popTo,argSlots,fldV,fldAV,subCells,idxVV,idxAAV,idxSV,sliceV,sliceSV,boundV,szIs,storeOp,storeS,setRowV,eff,extV,buildV,splice,eqSV,fitsL,eqCells,eqCell,minmaxV,capV,binBV,nilCheckV,bytesV,V.cells,V.stays,a1,a3,upd_ne n13,isZero_eq,lenV_encI,k1,k2,k3,k4,O12_64,cR_b,upd_same]
        repeat' (first
          | with_reducible refine And.intro (fun h => ?_) (fun h => ?_)
          | with_reducible refine RetV.pure hs ?_)
        all_goals (rw [V.bool.injEq, hok3]; simp [k3, k4])
end Go.Vc
namespace Go.Vc
open Go.Proofs
def pops (i : Nat) : List Int → List Int
  | a :: b :: s => if a = i then pops i (b :: s) else a :: b :: s
  | s => s
def isS : List Nd → Nat → List Int → Bool
  | [], _, _ => true
  | x :: r, i, stk => match pops i stk with
    | [] => false
    | a :: s => if x.ok = true ∧ 1 ≤ x.size ∧ x.size ≤ a - i ∧ (x.kind = 1 ∨ x.size ≤ 1) then isS r (i + 1) ((i + x.size) :: a :: s) else false
def Asc (n : Nat) : Nat → List Int → Prop
  | lo, [] => lo = n
  | lo, a :: s => (lo : Int) ≤ a ∧ Asc n a.toNat s
def chainB (l : List Nd) : Nat → List Int → Bool
  | _, [] => true
  | lo, a :: s => rowsB l lo a.toNat && chainB l a.toNat s
theorem rowsB_nil (l : List Nd) (a : Nat) : rowsB l a a = true := by rw [rowsB, dif_neg (Nat.lt_irrefl a)]
theorem pops_law (l : List Nd) (n i : Nat) (hi : i < n) : ∀ stk, Asc n i stk → ∃ a s, pops i stk = a :: s ∧ (i : Int) < a ∧ Asc n i (a :: s) ∧ chainB l i (a :: s) = chainB l i stk
  | [], h => by simp only [Asc] at h; omega
  | [a], h => by
    have h' := h
    simp only [Asc] at h'
    exact ⟨a, [], rfl, by omega, h, rfl⟩
  | a :: b :: s, h => by
    by_cases ha : a = i
    · have h' := h.2
      rw [ha, Int.toNat_natCast] at h'
      obtain ⟨c, t, g1, g2, g3, g4⟩ := pops_law l n i hi (b :: s) h'
      refine ⟨c, t, by simp [pops, ha, g1], g2, g3, ?_⟩
      rw [g4]
      show _ = (rowsB l i a.toNat && chainB l a.toNat (b :: s))
      rw [ha, Int.toNat_natCast, rowsB_nil, Bool.true_and]
    · have h' := h.1
      exact ⟨a, b :: s, by simp [pops, ha], by omega, h, rfl⟩
theorem isS_law (l : List Nd) : ∀ (r : List Nd) (i : Nat) (stk : List Int), l.drop i = r → Asc l.length i stk → isS r i stk = (r.all Nd.ok && chainB l i stk)
  | [], i, stk, hr, hs => by
    have hi : l.length ≤ i := by simpa using hr
    have key : ∀ (stk : List Int) (lo : Nat), l.length ≤ lo → Asc l.length lo stk → chainB l lo stk = true := by
      intro stk
      induction stk with
      | nil => intro _ _ _; rfl
      | cons a s ih =>
        intro lo hlo h
        have h1 := h.1
        simp only [chainB]
        rw [ih a.toNat (by omega) h.2, rowsB, Bool.and_true]
        split
        · have : l[lo]? = none := by simp [hlo]
          rw [this]
          -- past the end: only an empty row
          have hend : ∀ (stk : List Int) (lo : Nat), Asc l.length lo stk → lo ≤ l.length := by
            intro stk
            induction stk with
            | nil => intro lo h; simp only [Asc] at h; omega
            | cons b t ih => intro lo h; have := h.1; have := ih _ h.2; omega
          have := hend _ _ h.2
          omega
        · rfl
    simp [isS, key stk i hi hs]
  | x :: r, i, stk, hr, hs => by
    have hi : i < l.length := by
      rcases Nat.lt_or_ge i l.length with h | h
      · exact h
      · rw [List.drop_eq_nil_of_le h] at hr; cases hr
    have hx : l[i]? = some x := by
      have : (l.drop i)[0]? = some x := by rw [hr]; rfl
      simpa using this
    have hr' : l.drop (i + 1) = r := by
      have : (l.drop i).drop 1 = r := by rw [hr]; rfl
      simpa using this
    obtain ⟨a, s, h1, h2, h3, h4⟩ := pops_law l l.length i hi stk hs
    rw [isS, h1]
    simp only
    rw [← h4]
    simp only [chainB,List.all_cons]
    have hrow : rowsB l i a.toNat = if _hx : 1 ≤ x.size ∧ x.size ≤ (a.toNat : Int) - i then
        (decide (x.kind = 1) || decide (x.size ≤ 1)) && rowsB l (i + 1) (i + x.size.toNat) && rowsB l (i + x.size.toNat) a.toNat else false := by
      rw [rowsB, dif_pos (by omega), hx]
    rw [hrow]
    have hat : (a.toNat : Int) = a := by omega
    rw [hat]
    by_cases hc : 1 ≤ x.size ∧ x.size ≤ a - i
    · rw [dif_pos hc]
      have e : (i + x.size).toNat = i + x.size.toNat := by omega
      have ih := isS_law l r (i + 1) ((i + x.size) :: a :: s) hr' ⟨by omega, by rw [e]; omega, h3.2⟩
      by_cases hk : x.ok = true ∧ (x.kind = 1 ∨ x.size ≤ 1)
      · rw [if_pos ⟨hk.1, hc.1, hc.2, hk.2⟩, ih]
        simp only [chainB,e,hk.1,Bool.true_and]
        have : (decide (x.kind = 1) || decide (x.size ≤ 1)) = true := by simpa using hk.2
        rw [this, Bool.true_and, Bool.and_assoc]
      · rw [if_neg (fun h => hk ⟨h.1, h.2.2.2⟩)]
        symm
        rw [Bool.eq_false_iff]
        intro h
        simp only [Bool.and_eq_true,Bool.or_eq_true,decide_eq_true_eq] at h
        exact hk ⟨h.1.1, h.2.1.1.1⟩
    · rw [dif_neg hc, if_neg (fun h => hc ⟨h.2.1, h.2.2.1⟩)]
      simp
theorem isS_isB (l : List Nd) : isS l 0 [(l.length : Int)] = isB l := by
  rw [isS_law l l 0 [(l.length : Int)] rfl ⟨by omega, by simp [Asc]⟩]
  simp [chainB, isB]
end Go.Vc
namespace Go.Vc
open Go.Proofs
def o14 (f : FuncId) (args : List V) : Option V := if f = 13 then (match args with
  | [.agg [.int .i64 a0, .int .i64 a1, .int .i64 a2, .int .i64 a3, .int .i64 a4, .int .i64 a5, .int .i64 a6, .int .i64 a7, .int .i64 a8, .int .i64 a9, .int .i64 a10, .int .i64 a11, .int .i64 a12, .int .i64 a13, .int .i64 a14, .int .i64 a15, .sl 1 rows, .int .i64 a17, .int .i64 a18, .int .i64 a19]] =>
    (intsOf rows).bind fun ws => if ws.length ≤ 200000000000000 then some (.bool (Nd.ok ⟨a0, a1, ⟨a2, a3, a4, a5, a6, a7, a8, a9, a10, a11, a12, a13⟩, a14, a15, ws, a17, a18, a19⟩)) else none
  | _ => none) else none
def O14 : Orc Tryd.prog where
  get f args _ := o14 f args
  ok f args σ v h := by
    unfold o14 at h
    split at h
    · rename_i hf
      subst hf
      split at h
      · rw [Option.bind_eq_some_iff] at h
        obtain ⟨ws, h1, h2⟩ := h
        split at h2
        · rename_i hw
          simp only [Option.some.injEq] at h2
          subst h2
          rw [intsOf_eq h1]
          exact fits_c ⟨_, _, ⟨_, _, _, _, _, _, _, _, _, _, _, _⟩, _, _, ws, _, _, _⟩ hw σ
        · cases h2
      · cases h
    · cases h
theorem O14_35 {x : Nd} (hw : x.words.length ≤ 200000000000000) (σ : Store) : O14.get 13 [.agg [.int .i64 x.kind, .int .i64 x.size, .int .i64 x.st.top, .int .i64 x.st.bottom, .int .i64 x.st.padTop, .int .i64 x.st.padBottom, .int .i64 x.st.inset, .int .i64 x.st.orphans, .int .i64 x.st.widows, .int .i64 x.st.head, .int .i64 x.st.before, .int .i64 x.st.after, .int .i64 x.st.inside, .int .i64 x.st.clear, .int .i64 x.line, .int .i64 x.space, encI x.words, .int .i64 x.side, .int .i64 x.w, .int .i64 x.h]] σ =
    some (.bool x.ok) := by
  show ((intsOf (x.words.map vI)).bind fun ws => if ws.length ≤ 200000000000000 then some (V.bool (Nd.ok ⟨x.kind, x.size, ⟨x.st.top, x.st.bottom, x.st.padTop, x.st.padBottom, x.st.inset, x.st.orphans, x.st.widows, x.st.head, x.st.before, x.st.after, x.st.inside, x.st.clear⟩, x.line, x.space, ws, x.side, x.w, x.h⟩)) else none) = _
  rw [intsOf_map, Option.bind_some, if_pos hw]
theorem ends_top {rows : List V} {k : Nat} {a : Int} {s : List Int} (hk : k = (a :: s).length) (ht : rows.take k = (a :: s).reverse.map vI) : rows[k - 1]? = some (.int .i64 a) ∧ rows.take (k - 1) = s.reverse.map vI := by
  simp only [List.length_cons] at hk
  have h1 : (rows.take k)[k - 1]? = rows[k - 1]? := by rw [List.getElem?_take, if_pos (by omega)]
  constructor
  · rw [← h1, ht, hk]
    simp
  · have h2 : rows.take (k - 1) = (rows.take k).take (k - 1) := by rw [List.take_take]; congr 1; omega
    rw [h2, ht, hk]
    simp
theorem Asc.le {n : Nat} : ∀ {stk : List Int} {lo : Nat}, Asc n lo stk → lo ≤ n
  | [], lo, h => by simp only [Asc] at h; omega
  | a :: s, lo, h => by have h1 := h.1; have h2 := Asc.le h.2; omega
set_option maxRecDepth 100000 in
theorem isv_c (l : List Nd) (hl : Fine l) : PFun Tryd.prog 5 [encNs l] (.bool (isB l)) := fun σ => by
  have hl0 := hl
  obtain ⟨hl1, hl2⟩ := hl
  refine Contract.of_runs Tryd.func5 e5 k5 (by simp [c5]) ?_
  refine Runs.mix 6 ?_
  (refine Runs.of_step Orc.nothing 300 ?_; simp -implicitDefEqProofs only [BB,seval,effR_some,effD_some,← decide_not,okind,vpre,vpure,intBin,intPre,strBin,strPre,popTo,argSlots,fldV,fldAV,subCells,idxVV,idxAAV,idxSV,sliceV,sliceSV,boundV,szIs,storeOp,storeS,setRowV,eff,extV,buildV,splice,eqSV,fitsL,eqCells,eqCell,minmaxV,capV,binBV,nilCheckV,bytesV,V.cells,V.stays,Orc.nothing,c5,lenV_encNs])
  intro e0 he0
  refine Runs.loop (fun m st => ∃ i stk e k rows, i ≤ l.length ∧ m = l.length - i ∧ isB l = isS (l.drop i) i stk ∧ Asc l.length i stk ∧ stk ≠ [] ∧ stk.length ≤ i + 1 ∧ SubStore σ st.σ ∧ st.σ e = some ⟨3, 1, rows⟩ ∧ σ e = none ∧ k = stk.length ∧ k ≤ rows.length ∧ rows.take k = stk.reverse.map vI ∧
    st.s 3 = .own e 0 k ∧ st.s 9 = encNs l ∧ st.s 10 = vI l.length ∧ st.s 11 = vI i) l.length ?_ ?_
  · refine ⟨0, [(l.length : Int)], e0, 1, [vI l.length], by omega, by omega, by rw [← isS_isB]; rfl, ⟨by omega, by simp [Asc]⟩, by simp, by simp, (SubStore.refl σ).upd he0, upd_same, he0, rfl, by simp, rfl, rfl, rfl, rfl, rfl⟩
  · rintro m ⟨s, σ'⟩ ⟨i, stk, e, k, rows, hi, rfl, hB, hasc, hne, hsl, hsub, hrow, hnew, hk, hkr, htk, h3, h9, h10, h11⟩
    simp only at hsub hrow h3 h9 h10 h11
    refine Runs.mix 6 ?_
    (refine Runs.of_step Orc.nothing 300 ?_; simp -implicitDefEqProofs only [BB,seval,effR_some,effD_some,← decide_not,okind,vpre,vpure,intBin,intPre,strBin,strPre,popTo,argSlots,fldV,fldAV,subCells,idxVV,idxAAV,idxSV,sliceV,sliceSV,boundV,szIs,storeOp,storeS,setRowV,eff,extV,buildV,splice,eqSV,fitsL,eqCells,eqCell,minmaxV,capV,binBV,nilCheckV,bytesV,V.cells,V.stays,Orc.nothing,h3,h9,h10,h11])
    refine And.intro (fun hlt => ?_) (fun hge => ?_)
    · have hlt' : i < l.length := by simp at hlt; omega
      have hd : l.drop i = l[i] :: l.drop (i + 1) := List.drop_eq_getElem_cons hlt'
      have hxw : l[i].words.length ≤ 200000000000000 := hl2 _ (List.getElem_mem hlt')
      rw [hd] at hB
      generalize hxe : l[i] = x at *
      simp -implicitDefEqProofs only [BB,seval,effR_some,effD_some,← decide_not,okind,vpre,vpure,intBin,intPre,strBin,strPre,popTo,argSlots,fldV,fldAV,subCells,idxVV,idxAAV,idxSV,sliceV,sliceSV,boundV,szIs,storeOp,storeS,setRowV,eff,extV,buildV,splice,eqSV,fitsL,eqCells,eqCell,minmaxV,capV,binBV,nilCheckV,bytesV,V.cells,V.stays,idxAV_encNs hlt',hxe,loadV_rp_node,h3,h9,h10,h11,Nd.cells]
      intro id5 hid5
      replace hid5 : σ' id5 = none := hid5
      have n5e : e ≠ id5 := by rintro rfl; rw [hrow] at hid5; cases hid5
      have n5n : σ id5 = none := hsub.none hid5
      refine Runs.loop (fun m st => ∃ stk' k', m = stk'.length ∧ pops i stk = pops i stk' ∧ Asc l.length i stk' ∧ stk' ≠ [] ∧ stk'.length ≤ stk.length ∧ st.σ = upd σ' id5 ⟨42, 20, [.agg x.cells]⟩ ∧ k' = stk'.length ∧ k' ≤ rows.length ∧ rows.take k' = stk'.reverse.map vI ∧
        st.s 3 = .own e 0 k' ∧ st.s 4 = vI i ∧ st.s 5 = .ptr id5 0 0 ∧ st.s 9 = encNs l ∧ st.s 10 = vI l.length ∧ st.s 11 = vI i) stk.length ?_ ?_
      · exact ⟨stk, k, rfl, rfl, hasc, hne, Nat.le_refl _, rfl, hk, hkr, htk, h3, rfl, rfl, h9, h10, h11⟩
      · rintro m ⟨s, σ''⟩ ⟨stk', k', rfl, hpop, hasc', hne', hsl', hσ, hk', hkr', htk', h3, h4, h5, h9, h10, h11⟩
        simp only at hσ h3 h4 h5 h9 h10 h11
        subst hσ
        obtain ⟨a, tl, rfl⟩ := List.exists_cons_of_ne_nil hne'
        obtain ⟨htop, htk2⟩ := ends_top hk' htk'
        have hkpos : 1 ≤ k' := by rw [hk']; simp
        have g0 : (k' : Int) - 1 < k' := by omega
        have g1 : (0 : Int) ≤ (k' : Int) - 1 := by omega
        have g2 : (k' : Int) - 1 ≤ k' := by omega
        have g3 : ((k' : Int) - 1).toNat = k' - 1 := by omega
        have hrng : inR .i64 ((k' : Int) - 1) := inR_i64 (by omega) (by omega)
        refine Runs.mix 6 ?_
        (refine Runs.of_step O14 300 ?_; simp -implicitDefEqProofs only [BB,seval,effR_some,effD_some,← decide_not,okind,vpre,vpure,intBin,intPre,strBin,strPre,popTo,argSlots,fldV,fldAV,subCells,idxVV,idxAAV,idxSV,sliceV,sliceSV,boundV,szIs,storeOp,storeS,setRowV,eff,extV,buildV,splice,eqSV,fitsL,eqCells,eqCell,minmaxV,capV,binBV,nilCheckV,bytesV,V.cells,V.stays,h3,h4,h5,h9,h10,h11,upd_ne n5e,hrow,g0,g1,g2,g3,Int.le_refl,Int.toNat_zero,Nat.sub_zero,htop,cR_b,Nd.cells,O14_35 hxw,dec_true (Nd.ok x)])
        refine And.intro (fun h1 => ⟨hrng, And.intro (fun h2 => ?_) (fun h2 => ?_)⟩) (fun h1 => ?_)
        · obtain ⟨b, tl', rfl⟩ : ∃ b tl', tl = b :: tl' := by
            cases tl with
            | nil => simp at hk'; omega
            | cons b tl' => exact ⟨b, tl', rfl⟩
          have hp2 : pops i (a :: b :: tl') = pops i (b :: tl') := by simp [pops, h2]
          have ha2 := hasc'.2
          rw [h2, Int.toNat_natCast] at ha2
          refine ⟨hrng, _, ?_, b :: tl', k' - 1, rfl, by rw [hpop, hp2], ha2, by simp, ?_, ?_, by omega, htk2, rfl⟩
          · simp
          · simp only [List.length_cons] at hsl' ⊢; omega
          · simp only [List.length_cons] at hk' ⊢; omega
        all_goals
          have hps : pops i (a :: tl) = a :: tl := by
            cases tl with
            | nil => rfl
            | cons b tl' =>
              have : a ≠ i := by first
                | simpa using h2
                | (exfalso; simp at hk' h1; omega)
              simp [pops, this]
          obtain ⟨c, t, p1, p2, p3, p4⟩ := pops_law l l.length i hlt' (a :: tl) hasc'
          rw [hps, List.cons.injEq] at p1
          obtain ⟨rfl, rfl⟩ := p1
          have hIs : isB l = if x.ok = true ∧ 1 ≤ x.size ∧ x.size ≤ a - i ∧ (x.kind = 1 ∨ x.size ≤ 1) then isS (l.drop (i + 1)) (i + 1) ((i + x.size) :: a :: tl) else false := by
            rw [hB, isS, hpop, hps]
          have hale := Asc.le p3.2
          have hlenk : (rows.take k').length = k' := by simp; omega
          have hstk : k' ≤ i + 1 := by rw [hk']; omega
          have happ : x.ok = true ∧ 1 ≤ x.size ∧ x.size ≤ a - i ∧ (x.kind = 1 ∨ x.size ≤ 1) → ∀ (X Y : Ob) (id id1 : Nat), upd σ' id5 X id = none → upd (upd σ' id5 X) id Y id1 = none →
              isB l = isS (l.drop (i + 1)) (i + 1) ((i + x.size) :: a :: tl) ∧ Asc l.length (i + 1) ((i + x.size) :: a :: tl) ∧ SubStore σ (upd (del (upd (upd σ' id5 X) id Y) e) id1 ⟨3, 1, rows.take k' ++ [.int .i64 (i + x.size)]⟩) ∧ σ id1 = none ∧
              (rows.take k' ++ [V.int .i64 (i + x.size)]).take (k' + 1) = ((i + x.size) :: a :: tl).reverse.map vI := by
            intro hc X Y id id1 hid hid1
            rw [upd_none] at hid
            rw [upd_none, upd_none] at hid1
            rw [if_pos hc] at hIs
            refine ⟨hIs, ⟨by omega, ?_, p3.2⟩, ?_, hsub.none hid1.2.2, ?_⟩
            · have : (i + x.size).toNat = i + x.size.toNat := by omega
              omega
            · exact SubStore.updK (SubStore.delK ((hsub.updK n5n).updK (hsub.none hid.2)) hnew) (hsub.none hid1.2.2)
            · rw [List.take_of_length_le (by simp; omega), htk']
              simp
          refine And.intro (fun q1 => And.intro (fun q2 => ⟨hrng, inR_i64 (by omega) (by omega), And.intro (fun q3 => And.intro (fun q4 => And.intro (fun q5 => ?_) (fun q5 => ?_)) (fun q4 => ?_)) (fun q3 => ?_)⟩) (fun q2 => ?_)) (fun q1 => ?_)
          · refine RetV.pure (hsub.upd hid5) ?_
            rw [hIs, if_neg]
            rintro ⟨c1, c2, c3, c4⟩
            omega
          · refine ⟨inR_i64 (by omega) (by omega), ?_⟩
            intro id hid
            have hid' := (upd_none.1 hid).2
            have nie : e ≠ id := by rintro rfl; rw [hrow] at hid'; cases hid'
            have hd1 : ∀ σ, σ e = some ⟨3, 1, rows⟩ → dstRows σ 3 1 (.own e 0 k') = some (rows.take k', some e) := by
              intro σ hσ
              simp only [dstRows,hσ]
              rw [if_pos ⟨trivial, trivial, trivial, hkr'⟩]
            have hs1 : ∀ σ, σ id = some ⟨3, 1, [.int .i64 (i + x.size)]⟩ → srcRows σ 1 (.own id 0 1) = some [.int .i64 (i + x.size)] := by
              intro σ hσ
              simp only [srcRows,hσ]
              rw [if_pos (by simp)]
              simp
            have hb : (k' + 1) * 9 ≤ 140737488355328 := by omega
            simp -implicitDefEqProofs only [BB,seval,effR_some,effD_some,← decide_not,okind,vpre,vpure,intBin,intPre,strBin,strPre,popTo,argSlots,fldV,fldAV,subCells,idxVV,idxAAV,idxSV,sliceV,sliceSV,boundV,szIs,storeOp,storeS,setRowV,eff,extV,buildV,splice,eqSV,fitsL,eqCells,eqCell,minmaxV,capV,binBV,nilCheckV,bytesV,V.cells,V.stays,hd1,hs1,upd_ne n5e,upd_ne nie,hrow,hlenk,hb,delO,h3,h4,h5,h9,h10,h11]
            intro id1 hid1
            obtain ⟨z1, z2, z3, z4, z5⟩ := happ ⟨by simpa using q1, by omega, by omega, by first | (left; simpa using q4) | (right; simp at q5; omega)⟩ _ _ id id1 hid hid1
            refine ⟨inR_i64 (by omega) (by omega), _, ?_, i + 1, _, id1, k' + 1, _, by omega, rfl, z1, z2, by simp, ?_, z3, upd_same, z4, ?_, ?_, z5, rfl, ?_⟩
            · omega
            · simp only [List.length_cons] at hk' hsl' ⊢; omega
            · simp only [List.length_cons] at hk' ⊢; omega
            · simp; omega
            · simp
          · refine ⟨inR_i64 (by omega) (by omega), ?_⟩
            intro id hid
            have hid' := (upd_none.1 hid).2
            have nie : e ≠ id := by rintro rfl; rw [hrow] at hid'; cases hid'
            have hd1 : ∀ σ, σ e = some ⟨3, 1, rows⟩ → dstRows σ 3 1 (.own e 0 k') = some (rows.take k', some e) := by
              intro σ hσ
              simp only [dstRows,hσ]
              rw [if_pos ⟨trivial, trivial, trivial, hkr'⟩]
            have hs1 : ∀ σ, σ id = some ⟨3, 1, [.int .i64 (i + x.size)]⟩ → srcRows σ 1 (.own id 0 1) = some [.int .i64 (i + x.size)] := by
              intro σ hσ
              simp only [srcRows,hσ]
              rw [if_pos (by simp)]
              simp
            have hb : (k' + 1) * 9 ≤ 140737488355328 := by omega
            simp -implicitDefEqProofs only [BB,seval,effR_some,effD_some,← decide_not,okind,vpre,vpure,intBin,intPre,strBin,strPre,popTo,argSlots,fldV,fldAV,subCells,idxVV,idxAAV,idxSV,sliceV,sliceSV,boundV,szIs,storeOp,storeS,setRowV,eff,extV,buildV,splice,eqSV,fitsL,eqCells,eqCell,minmaxV,capV,binBV,nilCheckV,bytesV,V.cells,V.stays,hd1,hs1,upd_ne n5e,upd_ne nie,hrow,hlenk,hb,delO,h3,h4,h5,h9,h10,h11]
            intro id1 hid1
            obtain ⟨z1, z2, z3, z4, z5⟩ := happ ⟨by simpa using q1, by omega, by omega, by first | (left; simpa using q4) | (right; simp at q5; omega)⟩ _ _ id id1 hid hid1
            refine ⟨inR_i64 (by omega) (by omega), _, ?_, i + 1, _, id1, k' + 1, _, by omega, rfl, z1, z2, by simp, ?_, z3, upd_same, z4, ?_, ?_, z5, rfl, ?_⟩
            · omega
            · simp only [List.length_cons] at hk' hsl' ⊢; omega
            · simp only [List.length_cons] at hk' ⊢; omega
            · simp; omega
            · simp
          · refine RetV.pure (hsub.upd hid5) ?_
            rw [hIs, if_neg]
            rintro ⟨c1, c2, c3, c4⟩
            omega
          · refine RetV.pure (hsub.upd hid5) ?_
            rw [hIs, if_neg]
            rintro ⟨c1, c2, c3, c4⟩
            omega
          · refine RetV.pure (hsub.upd hid5) ?_
            rw [hIs, if_neg]
            rintro ⟨c1, c2, c3, c4⟩
            exact q1 (by simp [c1])
    · have hi' : i = l.length := by simp at hge; omega
      refine RetV.pure hsub ?_
      rw [hB, hi', List.drop_length]; rfl
end Go.Vc
namespace Go.Vc
open Go.Proofs
theorem Reads.nils (σ : Store) : Reads σ 1 false .nils [] := ⟨rfl, fun i v h => by simp at h⟩
end Go.Vc
namespace Go.Vc
open Go.Proofs
def EndsV (K σ : Store) (v : V) (ends : List Int) (B : Nat) : Prop :=
  (v = .nils ∧ ends = []) ∨ ∃ (e k : Nat) (full : List Int), v = .own e 0 k ∧ σ e = some ⟨3, 1, full.map vI⟩ ∧ K e = none ∧ k ≤ full.length ∧ full.length ≤ B ∧ full.take k = ends
theorem EndsV.new {K σ σ' : Store} {v : V} {ends : List Int} {B id : Nat} {o : Ob} (h : EndsV K σ v ends B) (hs : SubStore σ σ') (hid : σ id = none) : EndsV (upd K id o) σ' v ends B := by
  rcases h with h | ⟨e, k, full, h0, h1, h2, h3⟩
  · exact .inl h
  · exact .inr ⟨e, k, full, h0, hs _ _ h1, by rw [upd_ne (ne_new h1 hid)]; exact h2, h3⟩
theorem EndsV.less {K K' σ : Store} {v : V} {ends : List Int} {B : Nat} (h : EndsV K' σ v ends B) (hs : SubStore K K') : EndsV K σ v ends B := by
  rcases h with h | ⟨e, k, full, h0, h1, h2, h3⟩
  · exact .inl h
  · exact .inr ⟨e, k, full, h0, h1, hs.none h2, h3⟩
end Go.Vc
namespace Go.Vc
open Go.Proofs
theorem loadV_rp_encI (σ : Store) (l : List Int) : loadV σ false 1 (.rp (encI l)) = some (encI l) := rfl
theorem encI_cells (l : List Int) : (encI l).cells = [encI l] := rfl
theorem encI_stays (l : List Int) : (encI l).stays = true := rfl
end Go.Vc
namespace Go.Vc
open Go.Proofs
theorem styEq (s t : Sty) : (decide (s.top = t.top) && (decide (s.bottom = t.bottom) && (decide (s.padTop = t.padTop) && (decide (s.padBottom = t.padBottom) && (decide (s.inset = t.inset) && (decide (s.orphans = t.orphans) && (decide (s.widows = t.widows) && (decide (s.head = t.head) &&
    (decide (s.before = t.before) && (decide (s.after = t.after) && (decide (s.inside = t.inside) && decide (s.clear = t.clear)))))))))))) = decide (s = t) := by
  rw [Bool.eq_iff_iff]
  cases s; cases t
  simp
set_option maxRecDepth 100000 in
theorem one5_c (a b : Nd) (ha : a.words.length ≤ 200000000000000) (hb : b.words.length ≤ 200000000000000) : PFun Tryd.prog 28 [encN a, encN b] (.bool (decide (a = b))) := fun σ => by
  refine Contract.of_runs Tryd.func28 e28 k28 (by simp [c28]) ?_
  refine Runs.mix 6 ?_
  (refine Runs.of_step Orc.nothing 300 ?_; simp -implicitDefEqProofs only [BB,seval,← decide_not,okind,vpre,vpure,intBin,intPre,strBin,strPre,popTo,argSlots,fldV,fldAV,subCells,idxVV,idxAAV,idxSV,sliceV,sliceSV,boundV,szIs,storeOp,storeS,setRowV,eff,extV,buildV,splice,eqSV,fitsL,eqCells,eqCell,minmaxV,capV,binBV,nilCheckV,bytesV,V.cells,V.stays,Orc.nothing,c28,encN,Nd.cells])
  refine effR_new fun id2 σ1 s1 a2 f2 => ?_
  simp -implicitDefEqProofs only [BB,seval,← decide_not,okind,vpre,vpure,intBin,intPre,strBin,strPre,popTo,argSlots,fldV,fldAV,subCells,idxVV,idxAAV,idxSV,sliceV,sliceSV,boundV,szIs,storeOp,storeS,setRowV,eff,extV,buildV,splice,eqSV,fitsL,eqCells,eqCell,minmaxV,capV,binBV,nilCheckV,bytesV,V.cells,V.stays,a2]
  refine effR_new fun id3 σ2 s2 a3 f3 => ?_
  have n23 := ne_new a2 f3
  have a2 := s2 _ _ a2
  have hs := s1.trans s2
  simp -implicitDefEqProofs only [BB,seval,← decide_not,okind,vpre,vpure,intBin,intPre,strBin,strPre,popTo,argSlots,fldV,fldAV,subCells,idxVV,idxAAV,idxSV,sliceV,sliceSV,boundV,szIs,storeOp,storeS,setRowV,eff,extV,buildV,splice,eqSV,fitsL,eqCells,eqCell,minmaxV,capV,binBV,nilCheckV,bytesV,V.cells,V.stays,a2,a3,styEq,lenV_encI]
  refine And.intro (fun c1 => And.intro (fun c2 => And.intro (fun c3 => And.intro (fun c4 => And.intro (fun c5 => And.intro (fun c6 => And.intro (fun c7 => And.intro (fun c8 => And.intro (fun c9 => ?_) (fun c9 => ?_)) (fun c8 => ?_)) (fun c7 => ?_)) (fun c6 => ?_)) (fun c5 => ?_)) (fun c4 => ?_)) (fun c3 => ?_)) (fun c2 => ?_)) (fun c1 => ?_)
  case refine_2 =>
    have hl : a.words.length = b.words.length := by
      have : (a.words.length : Int) = b.words.length := by simpa using c9
      omega
    have hab : a = b ↔ a.words = b.words := by
      constructor
      · rintro rfl; rfl
      · intro hw
        cases a; cases b
        simp_all
    refine Runs.loop (fun m st => ∃ i : Nat, i ≤ a.words.length ∧ m = a.words.length - i ∧ a.words.take i = b.words.take i ∧ st.σ = σ2 ∧ st.s 2 = .ptr id2 0 0 ∧ st.s 3 = .ptr id3 0 0 ∧ st.s 5 = vI i) a.words.length ?_ ?_
    · exact ⟨0, by omega, by omega, rfl, rfl, rfl, rfl, rfl⟩
    · rintro m ⟨s, σ'⟩ ⟨i, hi, rfl, ht, hσ, h2, h3, h5⟩
      simp only at hσ h2 h3 h5
      subst hσ
      refine Runs.mix 6 ?_
      (refine Runs.of_step Orc.nothing 300 ?_; simp -implicitDefEqProofs only [BB,seval,effR_some,effD_some,← decide_not,okind,vpre,vpure,intBin,intPre,strBin,strPre,popTo,argSlots,fldV,fldAV,subCells,idxVV,idxAAV,idxSV,sliceV,sliceSV,boundV,szIs,storeOp,storeS,setRowV,eff,extV,buildV,splice,eqSV,fitsL,eqCells,eqCell,minmaxV,capV,binBV,nilCheckV,bytesV,V.cells,V.stays,Orc.nothing,h2,h3,h5,a2,a3,lenV_encI])
      refine And.intro (fun hlt => ?_) (fun hge => ?_)
      · have hlt' : i < a.words.length := by omega
        have hlt2 : i < b.words.length := by omega
        simp -implicitDefEqProofs only [BB,seval,effR_some,effD_some,← decide_not,okind,vpre,vpure,intBin,intPre,strBin,strPre,popTo,argSlots,fldV,fldAV,subCells,idxVV,idxAAV,idxSV,sliceV,sliceSV,boundV,szIs,storeOp,storeS,setRowV,eff,extV,buildV,splice,eqSV,fitsL,eqCells,eqCell,minmaxV,capV,binBV,nilCheckV,bytesV,V.cells,V.stays,idxAV_encI hlt',idxAV_encI hlt2,a2,a3,h2,h3,h5]
        refine And.intro (fun hd => ?_) (fun hd => ?_)
        · refine RetV.pure hs ?_
          rw [V.bool.injEq]; symm
          rw [decide_eq_false_iff_not, hab]
          intro hw
          apply hd
          simp [hw]
        · refine ⟨inR_i64 (by omega) (by omega), _, ?_, i + 1, by omega, rfl, ?_, ?_⟩
          · omega
          · rw [List.take_succ_eq_append_getElem hlt', List.take_succ_eq_append_getElem hlt2, ht]
            have : a.words[i] = b.words[i] := by simpa using hd
            rw [this]
          · simp
      · have hie : i = a.words.length := by omega
        refine RetV.pure hs ?_
        rw [V.bool.injEq]; symm
        rw [decide_eq_true_eq, hab]
        rw [hie, List.take_length] at ht
        rw [ht, hl, List.take_length]
  all_goals (refine RetV.pure hs ?_; rw [V.bool.injEq]; symm; rw [decide_eq_false_iff_not]; rintro rfl; simp at *)
def ndOf : V → Option Nd
  | .agg [.int .i64 a0, .int .i64 a1, .int .i64 a2, .int .i64 a3, .int .i64 a4, .int .i64 a5, .int .i64 a6, .int .i64 a7, .int .i64 a8, .int .i64 a9, .int .i64 a10, .int .i64 a11, .int .i64 a12, .int .i64 a13, .int .i64 a14, .int .i64 a15, .sl 1 rows, .int .i64 a17, .int .i64 a18, .int .i64 a19] =>
    (intsOf rows).bind fun ws => if ws.length ≤ 200000000000000 then some ⟨a0, a1, ⟨a2, a3, a4, a5, a6, a7, a8, a9, a10, a11, a12, a13⟩, a14, a15, ws, a17, a18, a19⟩ else none
  | _ => none
theorem ndOf_eq {v : V} {x : Nd} (h : ndOf v = some x) : v = encN x ∧ x.words.length ≤ 200000000000000 := by
  unfold ndOf at h
  split at h
  · rw [Option.bind_eq_some_iff] at h
    obtain ⟨ws, h1, h2⟩ := h
    split at h2
    · rename_i hw
      simp only [Option.some.injEq] at h2
      subst h2
      rw [intsOf_eq h1]
      exact ⟨rfl, hw⟩
    · cases h2
  · cases h
theorem ndOf_enc {x : Nd} (hw : x.words.length ≤ 200000000000000) : ndOf (.agg [.int .i64 x.kind, .int .i64 x.size, .int .i64 x.st.top, .int .i64 x.st.bottom, .int .i64 x.st.padTop, .int .i64 x.st.padBottom, .int .i64 x.st.inset, .int .i64 x.st.orphans, .int .i64 x.st.widows, .int .i64 x.st.head, .int .i64 x.st.before, .int .i64 x.st.after, .int .i64 x.st.inside, .int .i64 x.st.clear, .int .i64 x.line, .int .i64 x.space, encI x.words, .int .i64 x.side, .int .i64 x.w, .int .i64 x.h]) = some x := by
  show ((intsOf (x.words.map vI)).bind fun ws => if ws.length ≤ 200000000000000 then some (Nd.mk x.kind x.size ⟨x.st.top, x.st.bottom, x.st.padTop, x.st.padBottom, x.st.inset, x.st.orphans, x.st.widows, x.st.head, x.st.before, x.st.after, x.st.inside, x.st.clear⟩ x.line x.space ws x.side x.w x.h) else none) = _
  rw [intsOf_map, Option.bind_some, if_pos hw]
def o22 (f : FuncId) (args : List V) : Option V := if f = 28 then (match args with
  | [v, u] => (ndOf v).bind fun x => (ndOf u).bind fun y => some (.bool (decide (x = y)))
  | _ => none) else none
def O22 : Orc Tryd.prog where
  get f args _ := o22 f args
  ok f args σ v h := by
    unfold o22 at h
    split at h
    · rename_i hf
      subst hf
      split at h
      · rw [Option.bind_eq_some_iff] at h
        obtain ⟨x, h1, h2⟩ := h
        rw [Option.bind_eq_some_iff] at h2
        obtain ⟨y, h3, h4⟩ := h2
        simp only [Option.some.injEq] at h4
        subst h4
        obtain ⟨rfl, hx⟩ := ndOf_eq h1
        obtain ⟨rfl, hy⟩ := ndOf_eq h3
        exact one5_c x y hx hy σ
      · cases h
    · cases h
theorem O22_38 (v u : V) (σ : Store) : O22.get 28 [v, u] σ = (ndOf v).bind fun x => (ndOf u).bind fun y => some (.bool (decide (x = y))) := rfl
set_option maxRecDepth 100000 in
theorem same5_c (a b : List Nd) (ha : Fine a) (hb : Fine b) : PFun Tryd.prog 10 [encNs a, encNs b] (.bool (decide (a = b))) := fun σ => by
  refine Contract.of_runs Tryd.func10 e10 k10 (by simp [c10]) ?_
  refine Runs.mix 6 ?_
  (refine Runs.of_step Orc.nothing 300 ?_; simp -implicitDefEqProofs only [BB,seval,effR_some,effD_some,← decide_not,okind,vpre,vpure,intBin,intPre,strBin,strPre,popTo,argSlots,fldV,fldAV,subCells,idxVV,idxAAV,idxSV,sliceV,sliceSV,boundV,szIs,storeOp,storeS,setRowV,eff,extV,buildV,splice,eqSV,fitsL,eqCells,eqCell,minmaxV,capV,binBV,nilCheckV,bytesV,V.cells,V.stays,Orc.nothing,c10,lenV_encNs])
  refine And.intro (fun hl => ?_) (fun hl => ?_)
  · refine RetV.same ?_
    rw [V.bool.injEq]; symm
    rw [decide_eq_false_iff_not]
    rintro rfl
    simp at hl
  · have hl : a.length = b.length := by
      have : (a.length : Int) = b.length := by simpa using hl
      omega
    refine Runs.loop (fun m st => ∃ i : Nat, i ≤ a.length ∧ m = a.length - i ∧ a.take i = b.take i ∧ st.σ = σ ∧ st.s 0 = encNs a ∧ st.s 1 = encNs b ∧ st.s 5 = vI i) a.length ?_ ?_
    · exact ⟨0, by omega, by omega, rfl, rfl, rfl, rfl, rfl⟩
    · rintro m ⟨s, σ'⟩ ⟨i, hi, rfl, ht, hσ, h0, h1, h5⟩
      simp only at hσ h0 h1 h5
      subst hσ
      have hal := ha.1
      refine Runs.mix 6 ?_
      (refine Runs.of_step O22 300 ?_; simp -implicitDefEqProofs only [BB,seval,effR_some,effD_some,← decide_not,okind,vpre,vpure,intBin,intPre,strBin,strPre,popTo,argSlots,fldV,fldAV,subCells,idxVV,idxAAV,idxSV,sliceV,sliceSV,boundV,szIs,storeOp,storeS,setRowV,eff,extV,buildV,splice,eqSV,fitsL,eqCells,eqCell,minmaxV,capV,binBV,nilCheckV,bytesV,V.cells,V.stays,h0,h1,h5,lenV_encNs])
      refine And.intro (fun hlt => ?_) (fun hge => ?_)
      · have hlt' : i < a.length := by omega
        have hlt2 : i < b.length := by omega
        have hx := ha.2 _ (List.getElem_mem hlt')
        have hy := hb.2 _ (List.getElem_mem hlt2)
        have hta := List.take_succ_eq_append_getElem hlt'
        have htb := List.take_succ_eq_append_getElem hlt2
        have hxe : a[i]? = some a[i] := by simp [hlt']
        have hye : b[i]? = some b[i] := by simp [hlt2]
        generalize hxg : a[i] = x at *
        generalize hyg : b[i] = y at *
        simp -implicitDefEqProofs only [BB,seval,effR_some,effD_some,← decide_not,okind,vpre,vpure,intBin,intPre,strBin,strPre,popTo,argSlots,fldV,fldAV,subCells,idxVV,idxAAV,idxSV,sliceV,sliceSV,boundV,szIs,storeOp,storeS,setRowV,eff,extV,buildV,splice,eqSV,fitsL,eqCells,eqCell,minmaxV,capV,binBV,nilCheckV,bytesV,V.cells,V.stays,idxAV_encNs hlt',idxAV_encNs hlt2,hxg,hyg,Nd.cells,O22_38,ndOf_enc hx,ndOf_enc hy,Option.bind_some,h0,h1,h5]
        refine And.intro (fun hd => ?_) (fun hd => ?_)
        · refine RetV.same ?_
          rw [V.bool.injEq]; symm
          rw [decide_eq_false_iff_not]
          rintro rfl
          rw [hxe] at hye
          simp at hye
          exact hd hye
        · refine ⟨inR_i64 (by omega) (by omega), _, ?_, i + 1, by omega, rfl, ?_, ?_⟩
          · omega
          · rw [hta, htb, ht]
            have : x = y := by simpa using hd
            rw [this]
          · simp
      · have hie : i = a.length := by omega
        refine RetV.same ?_
        rw [V.bool.injEq]; symm
        rw [decide_eq_true_eq]
        rw [hie, List.take_length] at ht
        rw [ht, hl, List.take_length]
end Go.Vc
