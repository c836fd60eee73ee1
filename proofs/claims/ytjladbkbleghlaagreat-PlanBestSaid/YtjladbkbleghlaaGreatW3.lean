/- Part 3 of the library of this proof. -/
import Derived.Test.YtjladbkbleghlaaGreatW2
import Derived.Test.YtjladbkbleghlaaGreatProg
import Derived.KernelRfl
set_option linter.all false
set_option maxHeartbeats 8000000
namespace Go.Vc
open Go.Proofs Go.Proofs.Tryz
section
variable (P:Program) (n:Nat) (L:List Nat)
def lj:Code->bM
 |.skip=>.skip
 |.region id ops draw=>if L.contains (id*2)then .vg ((ops.toList.take (ops.size-1)).map (bJ P n ops)) ((ops.toList.drop (ops.size-1)).map (bJ P n ops))else if L.contains (id*2+1)then .O4 (ops.toList.map (bJ P n ops)) (ops.toList.map λo=>(o.after.toList.filter (Region.binds .any)).map (·.on))else .Oz draw (ops.toList.map (bJ P n ops))
 |.seq a b=>.seq (lj a) (lj b)
 |.cond c a b=>.cond (cx n c) (lj a) (lj b)
 |.block id a=>.block id (lj a)
 |.loop a=>.loop (lj a)
 |.exit id=>.exit id
 |.ret=>.ret
 |.rangeFunc g ps a c=>.fK (cx n g) ps.toList (lj a) (lj c)
 |_=>.bad
end
def J1(P:Program)(fn:Func)(L:List Nat):Lx:=match fn.body with
 |some c=>⟨fn.ntmps,lj P fn.ntmps L c,fn.results.toList.map (ye P fn.ntmps)⟩
 |none=>⟨0,.skip,[]⟩
structure Kc(fn:Func)(L:List Nat:=[]) where
 c:Lx
 h:J1 prog fn L=c:=by conv=>lhs;cbv
set_option cbv.maxSteps 1000000000
set_option maxRecDepth 1000000
def c3:Lx:=({c:=_}:Kc f3).1
def e3:Fo prog 3 f3 c3:=.mk func3
def c5:Lx:=({c:=_}:Kc f5).1
def e5:Fo prog 5 f5 c5:=.mk func5
def c6:Lx:=({c:=_}:Kc f6).1
def e6:Fo prog 6 f6 c6:=.mk func6
def c7:Lx:=({c:=_}:Kc f7 [11]).1
def e7:Fo prog 7 f7 c7:=.mk func7
def c8:Lx:=({c:=_}:Kc f8).1
def e8:Fo prog 8 f8 c8:=.mk func8
def c9:Lx:=({c:=_}:Kc f9 [37]).1
def e9:Fo prog 9 f9 c9:=.mk func9
def c10:Lx:=({c:=_}:Kc f10).1
def e10:Fo prog 10 f10 c10:=.mk func10
def Wl:Lx:=({c:=_}:Kc f11).1
def e11:Fo prog 11 f11 Wl:=.mk func11
def c13:Lx:=({c:=_}:Kc f13).1
def e13:Fo prog 13 f13 c13:=.mk func13
def c14:Lx:=({c:=_}:Kc f14).1
def e14:Fo prog 14 f14 c14:=.mk func14
def YS:Lx:=({c:=_}:Kc f15).1
def e15:Fo prog 15 f15 YS:=.mk func15
def c16:Lx:=({c:=_}:Kc f16).1
def e16:Fo prog 16 f16 c16:=.mk func16
def c17:Lx:=({c:=_}:Kc f17).1
def e17:Fo prog 17 f17 c17:=.mk func17
def c18:Lx:=({c:=_}:Kc f18).1
def e18:Fo prog 18 f18 c18:=.mk func18
def YT:Lx:=({c:=_}:Kc f19 [15]).1
def e19:Fo prog 19 f19 YT:=.mk func19
def Xz:Lx:=({c:=_}:Kc f20 [7]).1
def e20:Fo prog 20 f20 Xz:=.mk func20
def c21:Lx:=({c:=_}:Kc f21).1
def e21:Fo prog 21 f21 c21:=.mk func21
def c22:Lx:=({c:=_}:Kc f22).1
def e22:Fo prog 22 f22 c22:=.mk func22
def c23:Lx:=({c:=_}:Kc f23).1
def e23:Fo prog 23 f23 c23:=.mk func23
def c24:Lx:=({c:=_}:Kc f24).1
def e24:Fo prog 24 f24 c24:=.mk func24
def c25:Lx:=({c:=_}:Kc f25 [11]).1
def e25:Fo prog 25 f25 c25:=.mk func25
def c26:Lx:=({c:=_}:Kc f26).1
def e26:Fo prog 26 f26 c26:=.mk func26
def c27:Lx:=({c:=_}:Kc f27).1
def e27:Fo prog 27 f27 c27:=.mk func27
def c28:Lx:=({c:=_}:Kc f28).1
def e28:Fo prog 28 f28 c28:=.mk func28
def c29:Lx:=({c:=_}:Kc f29).1
def e29:Fo prog 29 f29 c29:=.mk func29
def c30:Lx:=({c:=_}:Kc f30).1
def e30:Fo prog 30 f30 c30:=.mk func30
def c31:Lx:=({c:=_}:Kc f31).1
def e31:Fo prog 31 f31 c31:=.mk func31
def c32:Lx:=({c:=_}:Kc f32).1
def e32:Fo prog 32 f32 c32:=.mk func32
def c33:Lx:=({c:=_}:Kc f33 [27]).1
def e33:Fo prog 33 f33 c33:=.mk func33
def c35:Lx:=({c:=_}:Kc f35).1
def e35:Fo prog 35 f35 c35:=.mk func35
def c36:Lx:=({c:=_}:Kc f36).1
def e36:Fo prog 36 f36 c36:=.mk func36
def c37:Lx:=({c:=_}:Kc f37).1
def e37:Fo prog 37 f37 c37:=.mk func37
def c38:Lx:=({c:=_}:Kc f38).1
def e38:Fo prog 38 f38 c38:=.mk func38
def c39:Lx:=({c:=_}:Kc f39).1
def e39:Fo prog 39 f39 c39:=.mk func39
def c40:Lx:=({c:=_}:Kc f40).1
def e40:Fo prog 40 f40 c40:=.mk func40
def c41:Lx:=({c:=_}:Kc f41).1
def e41:Fo prog 41 f41 c41:=.mk func41
def c42:Lx:=({c:=_}:Kc f42).1
def e42:Fo prog 42 f42 c42:=.mk func42
def c43:Lx:=({c:=_}:Kc f43).1
def e43:Fo prog 43 f43 c43:=.mk func43
def c44:Lx:=({c:=_}:Kc f44).1
def e44:Fo prog 44 f44 c44:=.mk func44
def c45:Lx:=({c:=_}:Kc f45).1
def e45:Fo prog 45 f45 c45:=.mk func45
def c46:Lx:=({c:=_}:Kc f46).1
def e46:Fo prog 46 f46 c46:=.mk func46
def c47:Lx:=({c:=_}:Kc f47).1
def e47:Fo prog 47 f47 c47:=.mk func47
def c48:Lx:=({c:=_}:Kc f48).1
def e48:Fo prog 48 f48 c48:=.mk func48
def c49:Lx:=({c:=_}:Kc f49).1
def e49:Fo prog 49 f49 c49:=.mk func49
def c50:Lx:=({c:=_}:Kc f50).1
def e50:Fo prog 50 f50 c50:=.mk func50
def c51:Lx:=({c:=_}:Kc f51).1
def e51:Fo prog 51 f51 c51:=.mk func51
def c52:Lx:=({c:=_}:Kc f52).1
def e52:Fo prog 52 f52 c52:=.mk func52
def c53:Lx:=({c:=_}:Kc f53).1
def e53:Fo prog 53 f53 c53:=.mk func53
def c54:Lx:=({c:=_}:Kc f54).1
def e54:Fo prog 54 f54 c54:=.mk func54
def c55:Lx:=({c:=_}:Kc f55).1
def e55:Fo prog 55 f55 c55:=.mk func55
def c56:Lx:=({c:=_}:Kc f56).1
def e56:Fo prog 56 f56 c56:=.mk func56
def c57:Lx:=({c:=_}:Kc f57).1
def e57:Fo prog 57 f57 c57:=.mk func57
def c58:Lx:=({c:=_}:Kc f58).1
def e58:Fo prog 58 f58 c58:=.mk func58
def c65:Lx:=({c:=_}:Kc f65).1
def e65:Fo prog 65 f65 c65:=.mk func65
def c66:Lx:=({c:=_}:Kc f66).1
def e66:Fo prog 66 f66 c66:=.mk func66
def c67:Lx:=({c:=_}:Kc f67).1
def XA:Fo prog 67 f67 c67:=.mk func67
def YU:Lx:=({c:=_}:Kc f68).1
def e68:Fo prog 68 f68 YU:=.mk func68
def YV:Lx:=({c:=_}:Kc f69).1
def e69:Fo prog 69 f69 YV:=.mk func69
def c70:Lx:=({c:=_}:Kc f70).1
def e70:Fo prog 70 f70 c70:=.mk func70
def c71:Lx:=({c:=_}:Kc f71).1
def e71:Fo prog 71 f71 c71:=.mk func71
def c72:Lx:=({c:=_}:Kc f72).1
def e72:Fo prog 72 f72 c72:=.mk func72
def c73:Lx:=({c:=_}:Kc f73).1
def e73:Fo prog 73 f73 c73:=.mk func73
def YW:Lx:=({c:=_}:Kc f74).1
def e74:Fo prog 74 f74 YW:=.mk func74
def c75:Lx:=({c:=_}:Kc f75).1
def e75:Fo prog 75 f75 c75:=.mk func75
def c76:Lx:=({c:=_}:Kc f76).1
def e76:Fo prog 76 f76 c76:=.mk func76
def c77:Lx:=({c:=_}:Kc f77).1
def e77:Fo prog 77 f77 c77:=.mk func77
def c78:Lx:=({c:=_}:Kc f78).1
def e78:Fo prog 78 f78 c78:=.mk func78
def c79:Lx:=({c:=_}:Kc f79).1
def e79:Fo prog 79 f79 c79:=.mk func79
def c80:Lx:=({c:=_}:Kc f80).1
def e80:Fo prog 80 f80 c80:=.mk func80
def c81:Lx:=({c:=_}:Kc f81).1
def e81:Fo prog 81 f81 c81:=.mk func81
def c82:Lx:=({c:=_}:Kc f82).1
def e82:Fo prog 82 f82 c82:=.mk func82
def c83:Lx:=({c:=_}:Kc f83).1
def e83:Fo prog 83 f83 c83:=.mk func83
def c84:Lx:=({c:=_}:Kc f84).1
def e84:Fo prog 84 f84 c84:=.mk func84
def c85:Lx:=({c:=_}:Kc f85).1
def e85:Fo prog 85 f85 c85:=.mk func85
def c86:Lx:=({c:=_}:Kc f86).1
def e86:Fo prog 86 f86 c86:=.mk func86
def c87:Lx:=({c:=_}:Kc f87).1
def e87:Fo prog 87 f87 c87:=.mk func87
def c88:Lx:=({c:=_}:Kc f88).1
def e88:Fo prog 88 f88 c88:=.mk func88
def c89:Lx:=({c:=_}:Kc f89).1
def e89:Fo prog 89 f89 c89:=.mk func89
def c90:Lx:=({c:=_}:Kc f90).1
def e90:Fo prog 90 f90 c90:=.mk func90
def c91:Lx:=({c:=_}:Kc f91).1
def e91:Fo prog 91 f91 c91:=.mk func91
def c92:Lx:=({c:=_}:Kc f92).1
def e92:Fo prog 92 f92 c92:=.mk func92
def c93:Lx:=({c:=_}:Kc f93).1
def e93:Fo prog 93 f93 c93:=.mk func93
def c94:Lx:=({c:=_}:Kc f94).1
def e94:Fo prog 94 f94 c94:=.mk func94
def c95:Lx:=({c:=_}:Kc f95).1
def e95:Fo prog 95 f95 c95:=.mk func95
def c96:Lx:=({c:=_}:Kc f96).1
def e96:Fo prog 96 f96 c96:=.mk func96
def XB:Lx:=({c:=_}:Kc f97).1
def e97:Fo prog 97 f97 XB:=.mk func97
def HP:Lx:=({c:=_}:Kc f105).1
def JG:Fo prog 105 f105 HP:=.mk func105
def HU:Lx:=({c:=_}:Kc f106).1
def Li:Fo prog 106 f106 HU:=.mk func106
def Im:Lx:=({c:=_}:Kc f107).1
def Ku:Fo prog 107 f107 Im:=.mk func107
def ID:Lx:=({c:=_}:Kc f108).1
def I9:Fo prog 108 f108 ID:=.mk func108
def Iw:Lx:=({c:=_}:Kc f109).1
def Kl:Fo prog 109 f109 Iw:=.mk func109
def HL:Lx:=({c:=_}:Kc f110).1
def JS:Fo prog 110 f110 HL:=.mk func110
def Ix:Lx:=({c:=_}:Kc f111).1
def K2:Fo prog 111 f111 Ix:=.mk func111
def BY:Lx:=({c:=_}:Kc f112).1
def JO:Fo prog 112 f112 BY:=.mk func112
def F8:Lx:=({c:=_}:Kc f113).1
def JR:Fo prog 113 f113 F8:=.mk func113
def Ho:Lx:=({c:=_}:Kc f114).1
def Lm:Fo prog 114 f114 Ho:=.mk func114
def F9:Lx:=({c:=_}:Kc f115).1
def II:Fo prog 115 f115 F9:=.mk func115
def GL:Lx:=({c:=_}:Kc f116 [12]).1
def Ke:Fo prog 116 f116 GL:=.mk func116
def H0:Lx:=({c:=_}:Kc f117 [9,13]).1
def KD:Fo prog 117 f117 H0:=.mk func117
def HB:Lx:=({c:=_}:Kc f118).1
def KF:Fo prog 118 f118 HB:=.mk func118
def Hs:Lx:=({c:=_}:Kc f119 [3]).1
def Kj:Fo prog 119 f119 Hs:=.mk func119
def Hz:Lx:=({c:=_}:Kc f120 [5]).1
def J6:Fo prog 120 f120 Hz:=.mk func120
def IA:Lx:=({c:=_}:Kc f121).1
def J3:Fo prog 121 f121 IA:=.mk func121
def Gy:Lx:=({c:=_}:Kc f122).1
def JT:Fo prog 122 f122 Gy:=.mk func122
def GU:Lx:=({c:=_}:Kc f123).1
def KM:Fo prog 123 f123 GU:=.mk func123
def Gh:Lx:=({c:=_}:Kc f124).1
def Kb:Fo prog 124 f124 Gh:=.mk func124
def HD:Lx:=({c:=_}:Kc f125).1
def JL:Fo prog 125 f125 HD:=.mk func125
def Gt:Lx:=({c:=_}:Kc f130).1
def KL:Fo prog 130 f130 Gt:=.mk func130
def F7:Lx:=({c:=_}:Kc f131).1
def KC:Fo prog 131 f131 F7:=.mk func131
def Ip:Lx:=({c:=_}:Kc f132).1
def Ky:Fo prog 132 f132 Ip:=.mk func132
def Hd:Lx:=({c:=_}:Kc f133).1
def IN:Fo prog 133 f133 Hd:=.mk func133
def Hp:Lx:=({c:=_}:Kc f134).1
def Kx:Fo prog 134 f134 Hp:=.mk func134
def HK:Lx:=({c:=_}:Kc f135).1
def Kh:Fo prog 135 f135 HK:=.mk func135
def Gl:Lx:=({c:=_}:Kc f136).1
def JC:Fo prog 136 f136 Gl:=.mk func136
def GW:Lx:=({c:=_}:Kc f137).1
def K5:Fo prog 137 f137 GW:=.mk func137
def Iz:Lx:=({c:=_}:Kc f138).1
def K9:Fo prog 138 f138 Iz:=.mk func138
def G8:Lx:=({c:=_}:Kc f139).1
def Lo:Fo prog 139 f139 G8:=.mk func139
def G5:Lx:=({c:=_}:Kc f140).1
def KU:Fo prog 140 f140 G5:=.mk func140
def H8:Lx:=({c:=_}:Kc f141).1
def Kq:Fo prog 141 f141 H8:=.mk func141
def H6:Lx:=({c:=_}:Kc f142 [5]).1
def KA:Fo prog 142 f142 H6:=.mk func142
def HF:Lx:=({c:=_}:Kc f143 [9]).1
def J5:Fo prog 143 f143 HF:=.mk func143
def Ga:Lx:=({c:=_}:Kc f144 [5]).1
def JM:Fo prog 144 f144 Ga:=.mk func144
def H9:Lx:=({c:=_}:Kc f145).1
def Ka:Fo prog 145 f145 H9:=.mk func145
def G3:Lx:=({c:=_}:Kc f146).1
def JF:Fo prog 146 f146 G3:=.mk func146
def H7:Lx:=({c:=_}:Kc f147).1
def JD:Fo prog 147 f147 H7:=.mk func147
def Gd:Lx:=({c:=_}:Kc f148).1
def Lf:Fo prog 148 f148 Gd:=.mk func148
def GP:Lx:=({c:=_}:Kc f149).1
def Lg:Fo prog 149 f149 GP:=.mk func149
def Gp:Lx:=({c:=_}:Kc f150).1
def Kf:Fo prog 150 f150 Gp:=.mk func150
def GJ:Lx:=({c:=_}:Kc f151).1
def Lq:Fo prog 151 f151 GJ:=.mk func151
def GD:Lx:=({c:=_}:Kc f152).1
def K1:Fo prog 152 f152 GD:=.mk func152
def G7:Lx:=({c:=_}:Kc f153).1
def KH:Fo prog 153 f153 G7:=.mk func153
def GV:Lx:=({c:=_}:Kc f154).1
def Km:Fo prog 154 f154 GV:=.mk func154
def HQ:Lx:=({c:=_}:Kc f159).1
def JE:Fo prog 159 f159 HQ:=.mk func159
def EL:Lx:=({c:=_}:Kc f160).1
def K8:Fo prog 160 f160 EL:=.mk func160
def Gf:Lx:=({c:=_}:Kc f161).1
def JW:Fo prog 161 f161 Gf:=.mk func161
def Iq:Lx:=({c:=_}:Kc f162).1
def KO:Fo prog 162 f162 Iq:=.mk func162
def He:Lx:=({c:=_}:Kc f163).1
def JJ:Fo prog 163 f163 He:=.mk func163
def HT:Lx:=({c:=_}:Kc f164).1
def Le:Fo prog 164 f164 HT:=.mk func164
def HZ:Lx:=({c:=_}:Kc f165).1
def JH:Fo prog 165 f165 HZ:=.mk func165
def Ht:Lx:=({c:=_}:Kc f166).1
def J4:Fo prog 166 f166 Ht:=.mk func166
def HH:Lx:=({c:=_}:Kc f167).1
def KX:Fo prog 167 f167 HH:=.mk func167
def Io:Lx:=({c:=_}:Kc f168).1
def JK:Fo prog 168 f168 Io:=.mk func168
def HW:Lx:=({c:=_}:Kc f169).1
def J9:Fo prog 169 f169 HW:=.mk func169
def Hb:Lx:=({c:=_}:Kc f170).1
def KY:Fo prog 170 f170 Hb:=.mk func170
def Du:Lx:=({c:=_}:Kc f171).1
def Kt:Fo prog 171 f171 Du:=.mk func171
def HM:Lx:=({c:=_}:Kc f172).1
def Kw:Fo prog 172 f172 HM:=.mk func172
def Hh:Lx:=({c:=_}:Kc f173).1
def JY:Fo prog 173 f173 Hh:=.mk func173
def GY:Lx:=({c:=_}:Kc f174).1
def JV:Fo prog 174 f174 GY:=.mk func174
def EI:Lx:=({c:=_}:Kc f175).1
def KB:Fo prog 175 f175 EI:=.mk func175
def GM:Lx:=({c:=_}:Kc f176).1
def Ki:Fo prog 176 f176 GM:=.mk func176
def Gv:Lx:=({c:=_}:Kc f182).1
def JB:Fo prog 182 f182 Gv:=.mk func182
def Gj:Lx:=({c:=_}:Kc f183).1
def JP:Fo prog 183 f183 Gj:=.mk func183
def F5:Lx:=({c:=_}:Kc f184).1
def KJ:Fo prog 184 f184 F5:=.mk func184
def Ii:Lx:=({c:=_}:Kc f185).1
def Kv:Fo prog 185 f185 Ii:=.mk func185
def G6:Lx:=({c:=_}:Kc f186).1
def Lh:Fo prog 186 f186 G6:=.mk func186
def Ie:Lx:=({c:=_}:Kc f187).1
def KE:Fo prog 187 f187 Ie:=.mk func187
def GC:Lx:=({c:=_}:Kc f188).1
def Ld:Fo prog 188 f188 GC:=.mk func188
def Gn:Lx:=({c:=_}:Kc f189).1
def K6:Fo prog 189 f189 Gn:=.mk func189
def DK:Lx:=({c:=_}:Kc f190).1
def Kz:Fo prog 190 f190 DK:=.mk func190
def E5:Lx:=({c:=_}:Kc f191).1
def KG:Fo prog 191 f191 E5:=.mk func191
def Ik:Lx:=({c:=_}:Kc f192 [8]).1
def JX:Fo prog 192 f192 Ik:=.mk func192
def GB:Lx:=({c:=_}:Kc f193).1
def JU:Fo prog 193 f193 GB:=.mk func193
def GR:Lx:=({c:=_}:Kc f194).1
def KQ:Fo prog 194 f194 GR:=.mk func194
def Fe:Lx:=({c:=_}:Kc f195).1
def Lc:Fo prog 195 f195 Fe:=.mk func195
def GH:Lx:=({c:=_}:Kc f196).1
def KN:Fo prog 196 f196 GH:=.mk func196
def Gs:Lx:=({c:=_}:Kc f197).1
def IP:Fo prog 197 f197 Gs:=.mk func197
def Hv:Lx:=({c:=_}:Kc f198).1
def Kk:Fo prog 198 f198 Hv:=.mk func198
def IE:Lx:=({c:=_}:Kc f201).1
def JI:Fo prog 201 f201 IE:=.mk func201
def Ha:Lx:=({c:=_}:Kc f202).1
def KZ:Fo prog 202 f202 Ha:=.mk func202
def Ia:Lx:=({c:=_}:Kc f203).1
def KW:Fo prog 203 f203 Ia:=.mk func203
def GS:Lx:=({c:=_}:Kc f204).1
def Lb:Fo prog 204 f204 GS:=.mk func204
def Hq:Lx:=({c:=_}:Kc f205).1
def JN:Fo prog 205 f205 Hq:=.mk func205
def GX:Lx:=({c:=_}:Kc f206).1
def KK:Fo prog 206 f206 GX:=.mk func206
def Ij:Lx:=({c:=_}:Kc f207).1
def KS:Fo prog 207 f207 Ij:=.mk func207
def Gz:Lx:=({c:=_}:Kc f208).1
def JZ:Fo prog 208 f208 Gz:=.mk func208
def G0:Lx:=({c:=_}:Kc f211).1
def Jr:Fo prog 211 f211 G0:=.mk func211
def Iy:Lx:=({c:=_}:Kc f212).1
def Ko:Fo prog 212 f212 Iy:=.mk func212
def Gx:Lx:=({c:=_}:Kc f213).1
def Je:Fo prog 213 f213 Gx:=.mk func213
def Iu:Lx:=({c:=_}:Kc f215).1
def J0:Fo prog 215 f215 Iu:=.mk func215
end Go.Vc
