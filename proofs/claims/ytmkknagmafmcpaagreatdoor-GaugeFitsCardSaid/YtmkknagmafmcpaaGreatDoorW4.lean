/- Part 4 of the library of this proof. -/
import Derived.Test.YtmkknagmafmcpaaGreatDoorW3
import Derived.Test.YtmkknagmafmcpaaGreatDoorProg
import Derived.KernelRfl
set_option linter.all false
set_option maxHeartbeats 8000000
open Go.Proofs.Tryz
namespace Go.Vc
open Go.Proofs
section
variable (P:Program) (n:Nat) (L:List Nat)
def lu:Code->bh
 |.skip=>.skip
 |.region id ops draw=>if L.contains (id*2)then .yk ((ops.toList.take (ops.size-1)).map (cq P n ops)) ((ops.toList.drop (ops.size-1)).map (cq P n ops))else if L.contains (id*2+1)then .kI (ops.toList.map (cq P n ops)) (ops.toList.map λo=>(o.after.toList.filter (Region.binds .any)).map (·.on))else .VP draw (ops.toList.map (cq P n ops))
 |.seq a b=>.seq (lu a) (lu b)
 |.cond c a b=>.cond (cx n c) (lu a) (lu b)
 |.block id a=>.block id (lu a)
 |.loop a=>.loop (lu a)
 |.exit id=>.exit id
 |.ret=>.ret
 |.rangeFunc g ps a c=>.eK (cx n g) ps.toList (lu a) (lu c)
 |_=>.bad
end
def Ol(P:Program)(fn:Func)(L:List Nat):PH:=match fn.body with
 |some c=>⟨fn.ntmps,lu P fn.ntmps L c,fn.results.toList.map (zH P fn.ntmps)⟩
 |none=>⟨0,.skip,[]⟩
structure Kc(fn:Func)(L:List Nat:=[]) where
 c:PH
 h:Ol prog fn L=c:=by conv=>lhs;cbv
set_option cbv.maxSteps 1000000000
set_option maxRecDepth 1000000
def c3:PH:=({c:=_}:Kc f3).1
def e3:Fo prog 3 f3 c3:=.mk func3
def c4:PH:=({c:=_}:Kc f4).1
def e4:Fo prog 4 f4 c4:=.mk func4
def c5:PH:=({c:=_}:Kc f5).1
def e5:Fo prog 5 f5 c5:=.mk func5
def c6:PH:=({c:=_}:Kc f6).1
def e6:Fo prog 6 f6 c6:=.mk func6
def c7:PH:=({c:=_}:Kc f7).1
def e7:Fo prog 7 f7 c7:=.mk func7
def c8:PH:=({c:=_}:Kc f8).1
def e8:Fo prog 8 f8 c8:=.mk func8
def c9:PH:=({c:=_}:Kc f9).1
def e9:Fo prog 9 f9 c9:=.mk func9
def c10:PH:=({c:=_}:Kc f10).1
def e10:Fo prog 10 f10 c10:=.mk func10
def c11:PH:=({c:=_}:Kc f11).1
def e11:Fo prog 11 f11 c11:=.mk func11
def c12:PH:=({c:=_}:Kc f12).1
def e12:Fo prog 12 f12 c12:=.mk func12
def c13:PH:=({c:=_}:Kc f13).1
def e13:Fo prog 13 f13 c13:=.mk func13
def c14:PH:=({c:=_}:Kc f14 [27]).1
def e14:Fo prog 14 f14 c14:=.mk func14
def c15:PH:=({c:=_}:Kc f15).1
def e15:Fo prog 15 f15 c15:=.mk func15
def c16:PH:=({c:=_}:Kc f16).1
def YM:Fo prog 16 f16 c16:=.mk func16
def c17:PH:=({c:=_}:Kc f17).1
def e17:Fo prog 17 f17 c17:=.mk func17
def c18:PH:=({c:=_}:Kc f18).1
def e18:Fo prog 18 f18 c18:=.mk func18
def c19:PH:=({c:=_}:Kc f19).1
def e19:Fo prog 19 f19 c19:=.mk func19
def c20:PH:=({c:=_}:Kc f20).1
def e20:Fo prog 20 f20 c20:=.mk func20
def c21:PH:=({c:=_}:Kc f21).1
def e21:Fo prog 21 f21 c21:=.mk func21
def SF:PH:=({c:=_}:Kc f22 [5,13,17]).1
def e22:Fo prog 22 f22 SF:=.mk func22
def c24:PH:=({c:=_}:Kc f24).1
def ZO:Fo prog 24 f24 c24:=.mk func24
def c25:PH:=({c:=_}:Kc f25).1
def e25:Fo prog 25 f25 c25:=.mk func25
def c26:PH:=({c:=_}:Kc f26).1
def e26:Fo prog 26 f26 c26:=.mk func26
def c27:PH:=({c:=_}:Kc f27).1
def e27:Fo prog 27 f27 c27:=.mk func27
def c28:PH:=({c:=_}:Kc f28).1
def e28:Fo prog 28 f28 c28:=.mk func28
def c29:PH:=({c:=_}:Kc f29).1
def e29:Fo prog 29 f29 c29:=.mk func29
def c30:PH:=({c:=_}:Kc f30).1
def e30:Fo prog 30 f30 c30:=.mk func30
def c31:PH:=({c:=_}:Kc f31).1
def e31:Fo prog 31 f31 c31:=.mk func31
def c32:PH:=({c:=_}:Kc f32).1
def e32:Fo prog 32 f32 c32:=.mk func32
def c33:PH:=({c:=_}:Kc f33).1
def e33:Fo prog 33 f33 c33:=.mk func33
def c34:PH:=({c:=_}:Kc f34).1
def e34:Fo prog 34 f34 c34:=.mk func34
def c35:PH:=({c:=_}:Kc f35).1
def e35:Fo prog 35 f35 c35:=.mk func35
def c36:PH:=({c:=_}:Kc f36).1
def e36:Fo prog 36 f36 c36:=.mk func36
def c37:PH:=({c:=_}:Kc f37).1
def e37:Fo prog 37 f37 c37:=.mk func37
def c38:PH:=({c:=_}:Kc f38).1
def e38:Fo prog 38 f38 c38:=.mk func38
def c39:PH:=({c:=_}:Kc f39).1
def e39:Fo prog 39 f39 c39:=.mk func39
def c40:PH:=({c:=_}:Kc f40 [15,31,35]).1
def e40:Fo prog 40 f40 c40:=.mk func40
def c41:PH:=({c:=_}:Kc f41).1
def e41:Fo prog 41 f41 c41:=.mk func41
def c42:PH:=({c:=_}:Kc f42).1
def e42:Fo prog 42 f42 c42:=.mk func42
def c43:PH:=({c:=_}:Kc f43).1
def e43:Fo prog 43 f43 c43:=.mk func43
def c44:PH:=({c:=_}:Kc f44).1
def e44:Fo prog 44 f44 c44:=.mk func44
def c45:PH:=({c:=_}:Kc f45).1
def e45:Fo prog 45 f45 c45:=.mk func45
def c46:PH:=({c:=_}:Kc f46 [12]).1
def e46:Fo prog 46 f46 c46:=.mk func46
def c47:PH:=({c:=_}:Kc f47 [9,13]).1
def e47:Fo prog 47 f47 c47:=.mk func47
def c48:PH:=({c:=_}:Kc f48).1
def e48:Fo prog 48 f48 c48:=.mk func48
def c49:PH:=({c:=_}:Kc f49 [3]).1
def e49:Fo prog 49 f49 c49:=.mk func49
def c50:PH:=({c:=_}:Kc f50 [5]).1
def e50:Fo prog 50 f50 c50:=.mk func50
def c51:PH:=({c:=_}:Kc f51).1
def e51:Fo prog 51 f51 c51:=.mk func51
def c52:PH:=({c:=_}:Kc f52).1
def e52:Fo prog 52 f52 c52:=.mk func52
def c55:PH:=({c:=_}:Kc f55).1
def e55:Fo prog 55 f55 c55:=.mk func55
def c56:PH:=({c:=_}:Kc f56).1
def e56:Fo prog 56 f56 c56:=.mk func56
def c59:PH:=({c:=_}:Kc f59).1
def e59:Fo prog 59 f59 c59:=.mk func59
def c60:PH:=({c:=_}:Kc f60).1
def e60:Fo prog 60 f60 c60:=.mk func60
def c61:PH:=({c:=_}:Kc f61).1
def e61:Fo prog 61 f61 c61:=.mk func61
def c62:PH:=({c:=_}:Kc f62).1
def e62:Fo prog 62 f62 c62:=.mk func62
def c63:PH:=({c:=_}:Kc f63).1
def e63:Fo prog 63 f63 c63:=.mk func63
def c64:PH:=({c:=_}:Kc f64).1
def e64:Fo prog 64 f64 c64:=.mk func64
def c65:PH:=({c:=_}:Kc f65).1
def e65:Fo prog 65 f65 c65:=.mk func65
def c66:PH:=({c:=_}:Kc f66).1
def e66:Fo prog 66 f66 c66:=.mk func66
def c67:PH:=({c:=_}:Kc f67).1
def e67:Fo prog 67 f67 c67:=.mk func67
def c68:PH:=({c:=_}:Kc f68).1
def e68:Fo prog 68 f68 c68:=.mk func68
def c69:PH:=({c:=_}:Kc f69).1
def e69:Fo prog 69 f69 c69:=.mk func69
def c70:PH:=({c:=_}:Kc f70).1
def e70:Fo prog 70 f70 c70:=.mk func70
def c71:PH:=({c:=_}:Kc f71).1
def e71:Fo prog 71 f71 c71:=.mk func71
def c72:PH:=({c:=_}:Kc f72 [9]).1
def e72:Fo prog 72 f72 c72:=.mk func72
def c73:PH:=({c:=_}:Kc f73).1
def e73:Fo prog 73 f73 c73:=.mk func73
def c74:PH:=({c:=_}:Kc f74 [11]).1
def e74:Fo prog 74 f74 c74:=.mk func74
def c75:PH:=({c:=_}:Kc f75).1
def e75:Fo prog 75 f75 c75:=.mk func75
def c76:PH:=({c:=_}:Kc f76).1
def e76:Fo prog 76 f76 c76:=.mk func76
def c77:PH:=({c:=_}:Kc f77).1
def e77:Fo prog 77 f77 c77:=.mk func77
def c78:PH:=({c:=_}:Kc f78).1
def e78:Fo prog 78 f78 c78:=.mk func78
def c79:PH:=({c:=_}:Kc f79).1
def e79:Fo prog 79 f79 c79:=.mk func79
def c80:PH:=({c:=_}:Kc f80).1
def e80:Fo prog 80 f80 c80:=.mk func80
def c81:PH:=({c:=_}:Kc f81).1
def e81:Fo prog 81 f81 c81:=.mk func81
def c82:PH:=({c:=_}:Kc f82).1
def e82:Fo prog 82 f82 c82:=.mk func82
def c83:PH:=({c:=_}:Kc f83 [5]).1
def e83:Fo prog 83 f83 c83:=.mk func83
def c84:PH:=({c:=_}:Kc f84 [9]).1
def e84:Fo prog 84 f84 c84:=.mk func84
def c85:PH:=({c:=_}:Kc f85 [5]).1
def e85:Fo prog 85 f85 c85:=.mk func85
def c86:PH:=({c:=_}:Kc f86).1
def e86:Fo prog 86 f86 c86:=.mk func86
def c87:PH:=({c:=_}:Kc f87).1
def e87:Fo prog 87 f87 c87:=.mk func87
def c88:PH:=({c:=_}:Kc f88).1
def e88:Fo prog 88 f88 c88:=.mk func88
def HG:PH:=({c:=_}:Kc f100).1
def Om:Fo prog 100 f100 HG:=.mk func100
def JP:PH:=({c:=_}:Kc f101).1
def OX:Fo prog 101 f101 JP:=.mk func101
def c105:PH:=({c:=_}:Kc f105).1
def Me:Fo prog 105 f105 c105:=.mk func105
def KN:PH:=({c:=_}:Kc f106).1
def OO:Fo prog 106 f106 KN:=.mk func106
def c107:PH:=({c:=_}:Kc f107).1
def MZ:Fo prog 107 f107 c107:=.mk func107
def F9:PH:=({c:=_}:Kc f108).1
def MA:Fo prog 108 f108 F9:=.mk func108
def c109:PH:=({c:=_}:Kc f109).1
def PA:Fo prog 109 f109 c109:=.mk func109
def LW:PH:=({c:=_}:Kc f110).1
def N5:Fo prog 110 f110 LW:=.mk func110
def K0:PH:=({c:=_}:Kc f111).1
def Ow:Fo prog 111 f111 K0:=.mk func111
def Ll:PH:=({c:=_}:Kc f112).1
def NK:Fo prog 112 f112 Ll:=.mk func112
def EM:PH:=({c:=_}:Kc f113).1
def PB:Fo prog 113 f113 EM:=.mk func113
def KO:PH:=({c:=_}:Kc f114).1
def Oh:Fo prog 114 f114 KO:=.mk func114
def LU:PH:=({c:=_}:Kc f115).1
def NP:Fo prog 115 f115 LU:=.mk func115
def c116:PH:=({c:=_}:Kc f116).1
def Ox:Fo prog 116 f116 c116:=.mk func116
def c117:PH:=({c:=_}:Kc f117).1
def Ps:Fo prog 117 f117 c117:=.mk func117
def Kw:PH:=({c:=_}:Kc f118).1
def N2:Fo prog 118 f118 Kw:=.mk func118
def c119:PH:=({c:=_}:Kc f119).1
def Ou:Fo prog 119 f119 c119:=.mk func119
def LM:PH:=({c:=_}:Kc f120).1
def Nz:Fo prog 120 f120 LM:=.mk func120
def Lh:PH:=({c:=_}:Kc f121).1
def ND:Fo prog 121 f121 Lh:=.mk func121
def KA:PH:=({c:=_}:Kc f122).1
def Nu:Fo prog 122 f122 KA:=.mk func122
def L6:PH:=({c:=_}:Kc f123).1
def NC:Fo prog 123 f123 L6:=.mk func123
def c124:PH:=({c:=_}:Kc f124).1
def Pk:Fo prog 124 f124 c124:=.mk func124
def Ha:PH:=({c:=_}:Kc f125 [5]).1
def OL:Fo prog 125 f125 Ha:=.mk func125
def Ld:PH:=({c:=_}:Kc f126 [11]).1
def NL:Fo prog 126 f126 Ld:=.mk func126
def c127:PH:=({c:=_}:Kc f127).1
def OT:Fo prog 127 f127 c127:=.mk func127
def Hy:PH:=({c:=_}:Kc f128).1
def O0:Fo prog 128 f128 Hy:=.mk func128
def KX:PH:=({c:=_}:Kc f129).1
def OB:Fo prog 129 f129 KX:=.mk func129
def c130:PH:=({c:=_}:Kc f130).1
def OE:Fo prog 130 f130 c130:=.mk func130
def c131:PH:=({c:=_}:Kc f131).1
def NN:Fo prog 131 f131 c131:=.mk func131
def Lg:PH:=({c:=_}:Kc f132).1
def OC:Fo prog 132 f132 Lg:=.mk func132
def KL:PH:=({c:=_}:Kc f133).1
def Oc:Fo prog 133 f133 KL:=.mk func133
def J9:PH:=({c:=_}:Kc f134).1
def OM:Fo prog 134 f134 J9:=.mk func134
def Li:PH:=({c:=_}:Kc f135).1
def O2:Fo prog 135 f135 Li:=.mk func135
def KC:PH:=({c:=_}:Kc f136).1
def N9:Fo prog 136 f136 KC:=.mk func136
def LH:PH:=({c:=_}:Kc f149).1
def NX:Fo prog 149 f149 LH:=.mk func149
def c156:PH:=({c:=_}:Kc f156).1
def Mo:Fo prog 156 f156 c156:=.mk func156
def c157:PH:=({c:=_}:Kc f157).1
def Ph:Fo prog 157 f157 c157:=.mk func157
def Ku:PH:=({c:=_}:Kc f158).1
def NH:Fo prog 158 f158 Ku:=.mk func158
def c159:PH:=({c:=_}:Kc f159).1
def Ml:Fo prog 159 f159 c159:=.mk func159
def c160:PH:=({c:=_}:Kc f160).1
def On:Fo prog 160 f160 c160:=.mk func160
def JX:PH:=({c:=_}:Kc f161).1
def Px:Fo prog 161 f161 JX:=.mk func161
def c162:PH:=({c:=_}:Kc f162).1
def OW:Fo prog 162 f162 c162:=.mk func162
def Lp:PH:=({c:=_}:Kc f163).1
def NO:Fo prog 163 f163 Lp:=.mk func163
def c164:PH:=({c:=_}:Kc f164).1
def Pc:Fo prog 164 f164 c164:=.mk func164
def L7:PH:=({c:=_}:Kc f165).1
def Ns:Fo prog 165 f165 L7:=.mk func165
def Lw:PH:=({c:=_}:Kc f166).1
def O3:Fo prog 166 f166 Lw:=.mk func166
def c167:PH:=({c:=_}:Kc f167).1
def Og:Fo prog 167 f167 c167:=.mk func167
def c168:PH:=({c:=_}:Kc f168).1
def NB:Fo prog 168 f168 c168:=.mk func168
def K7:PH:=({c:=_}:Kc f169).1
def Po:Fo prog 169 f169 K7:=.mk func169
def KP:PH:=({c:=_}:Kc f170).1
def NI:Fo prog 170 f170 KP:=.mk func170
def c171:PH:=({c:=_}:Kc f171).1
def NS:Fo prog 171 f171 c171:=.mk func171
def Kr:PH:=({c:=_}:Kc f172).1
def Py:Fo prog 172 f172 Kr:=.mk func172
def c173:PH:=({c:=_}:Kc f173).1
def Oy:Fo prog 173 f173 c173:=.mk func173
def IB:PH:=({c:=_}:Kc f174).1
def O6:Fo prog 174 f174 IB:=.mk func174
def c175:PH:=({c:=_}:Kc f175).1
def Nt:Fo prog 175 f175 c175:=.mk func175
def LV:PH:=({c:=_}:Kc f176).1
def Ot:Fo prog 176 f176 LV:=.mk func176
def LJ:PH:=({c:=_}:Kc f177).1
def NU:Fo prog 177 f177 LJ:=.mk func177
def LN:PH:=({c:=_}:Kc f178).1
def OK:Fo prog 178 f178 LN:=.mk func178
def JN:PH:=({c:=_}:Kc f179).1
def Nx:Fo prog 179 f179 JN:=.mk func179
def KG:PH:=({c:=_}:Kc f180).1
def Nv:Fo prog 180 f180 KG:=.mk func180
def Ko:PH:=({c:=_}:Kc f181).1
def OG:Fo prog 181 f181 Ko:=.mk func181
def c182:PH:=({c:=_}:Kc f182).1
def PF:Fo prog 182 f182 c182:=.mk func182
def c183:PH:=({c:=_}:Kc f183).1
def OA:Fo prog 183 f183 c183:=.mk func183
def Lc:PH:=({c:=_}:Kc f184).1
def Ny:Fo prog 184 f184 Lc:=.mk func184
def KV:PH:=({c:=_}:Kc f185).1
def Pa:Fo prog 185 f185 KV:=.mk func185
def Ke:PH:=({c:=_}:Kc f186).1
def Pj:Fo prog 186 f186 Ke:=.mk func186
def LF:PH:=({c:=_}:Kc f200).1
def O7:Fo prog 200 f200 LF:=.mk func200
def c201:PH:=({c:=_}:Kc f201).1
def Pt:Fo prog 201 f201 c201:=.mk func201
def JT:PH:=({c:=_}:Kc f202).1
def Mi:Fo prog 202 f202 JT:=.mk func202
def c203:PH:=({c:=_}:Kc f203).1
def NF:Fo prog 203 f203 c203:=.mk func203
def KT:PH:=({c:=_}:Kc f204).1
def O1:Fo prog 204 f204 KT:=.mk func204
def Lz:PH:=({c:=_}:Kc f205).1
def Pw:Fo prog 205 f205 Lz:=.mk func205
def c206:PH:=({c:=_}:Kc f206).1
def Of:Fo prog 206 f206 c206:=.mk func206
def EO:PH:=({c:=_}:Kc f207).1
def NT:Fo prog 207 f207 EO:=.mk func207
def c208:PH:=({c:=_}:Kc f208).1
def O4:Fo prog 208 f208 c208:=.mk func208
def Lb:PH:=({c:=_}:Kc f209).1
def Pm:Fo prog 209 f209 Lb:=.mk func209
def c210:PH:=({c:=_}:Kc f210).1
def Oj:Fo prog 210 f210 c210:=.mk func210
def Ie:PH:=({c:=_}:Kc f211).1
def Pg:Fo prog 211 f211 Ie:=.mk func211
def c212:PH:=({c:=_}:Kc f212).1
def OD:Fo prog 212 f212 c212:=.mk func212
def c213:PH:=({c:=_}:Kc f213).1
def NQ:Fo prog 213 f213 c213:=.mk func213
def Lt:PH:=({c:=_}:Kc f214).1
def O5:Fo prog 214 f214 Lt:=.mk func214
def Lf:PH:=({c:=_}:Kc f215).1
def Oo:Fo prog 215 f215 Lf:=.mk func215
def Kq:PH:=({c:=_}:Kc f216).1
def Pz:Fo prog 216 f216 Kq:=.mk func216
def Md:PH:=({c:=_}:Kc f217).1
def Pe:Fo prog 217 f217 Md:=.mk func217
def c218:PH:=({c:=_}:Kc f218).1
def NZ:Fo prog 218 f218 c218:=.mk func218
def JO:PH:=({c:=_}:Kc f219).1
def Pu:Fo prog 219 f219 JO:=.mk func219
def LI:PH:=({c:=_}:Kc f220).1
def NA:Fo prog 220 f220 LI:=.mk func220
def LP:PH:=({c:=_}:Kc f221).1
def NJ:Fo prog 221 f221 LP:=.mk func221
def c222:PH:=({c:=_}:Kc f222).1
def OJ:Fo prog 222 f222 c222:=.mk func222
def K5:PH:=({c:=_}:Kc f223).1
def NW:Fo prog 223 f223 K5:=.mk func223
def JS:PH:=({c:=_}:Kc f224).1
def N6:Fo prog 224 f224 JS:=.mk func224
def Lr:PH:=({c:=_}:Kc f225).1
def N3:Fo prog 225 f225 Lr:=.mk func225
def c226:PH:=({c:=_}:Kc f226).1
def Od:Fo prog 226 f226 c226:=.mk func226
def c227:PH:=({c:=_}:Kc f227).1
def Pb:Fo prog 227 f227 c227:=.mk func227
def c228:PH:=({c:=_}:Kc f228).1
def Oe:Fo prog 228 f228 c228:=.mk func228
def c229:PH:=({c:=_}:Kc f229).1
def PD:Fo prog 229 f229 c229:=.mk func229
def K2:PH:=({c:=_}:Kc f230).1
def OZ:Fo prog 230 f230 K2:=.mk func230
def KU:PH:=({c:=_}:Kc f231).1
def ON:Fo prog 231 f231 KU:=.mk func231
def c232:PH:=({c:=_}:Kc f232).1
def NM:Fo prog 232 f232 c232:=.mk func232
def c233:PH:=({c:=_}:Kc f233).1
def Pd:Fo prog 233 f233 c233:=.mk func233
def c234:PH:=({c:=_}:Kc f234).1
def OU:Fo prog 234 f234 c234:=.mk func234
def Gr:PH:=({c:=_}:Kc f242).1
def Pv:Fo prog 242 f242 Gr:=.mk func242
def H9:PH:=({c:=_}:Kc f243).1
def Oz:Fo prog 243 f243 H9:=.mk func243
def K3:PH:=({c:=_}:Kc f244 [8]).1
def Pf:Fo prog 244 f244 K3:=.mk func244
def LG:PH:=({c:=_}:Kc f245).1
def OF:Fo prog 245 f245 LG:=.mk func245
def KH:PH:=({c:=_}:Kc f246).1
def O8:Fo prog 246 f246 KH:=.mk func246
def HH:PH:=({c:=_}:Kc f247).1
def N1:Fo prog 247 f247 HH:=.mk func247
def JZ:PH:=({c:=_}:Kc f248).1
def NV:Fo prog 248 f248 JZ:=.mk func248
def J4:PH:=({c:=_}:Kc f249).1
def MU:Fo prog 249 f249 J4:=.mk func249
def Km:PH:=({c:=_}:Kc f250).1
def PE:Fo prog 250 f250 Km:=.mk func250
def Kl:PH:=({c:=_}:Kc f251).1
def Oa:Fo prog 251 f251 Kl:=.mk func251
def JR:PH:=({c:=_}:Kc f252).1
def Na:Fo prog 252 f252 JR:=.mk func252
def KF:PH:=({c:=_}:Kc f253).1
def Mt:Fo prog 253 f253 KF:=.mk func253
def Kg:PH:=({c:=_}:Kc f254).1
def OP:Fo prog 254 f254 Kg:=.mk func254
def La:PH:=({c:=_}:Kc f255).1
def Nr:Fo prog 255 f255 La:=.mk func255
def KW:PH:=({c:=_}:Kc f256).1
def Nw:Fo prog 256 f256 KW:=.mk func256
def L8:PH:=({c:=_}:Kc f259).1
def OS:Fo prog 259 f259 L8:=.mk func259
def LC:PH:=({c:=_}:Kc f260).1
def O9:Fo prog 260 f260 LC:=.mk func260
def K1:PH:=({c:=_}:Kc f261).1
def OR:Fo prog 261 f261 K1:=.mk func261
def Kb:PH:=({c:=_}:Kc f262).1
def PC:Fo prog 262 f262 Kb:=.mk func262
def Lq:PH:=({c:=_}:Kc f263).1
def Nq:Fo prog 263 f263 Lq:=.mk func263
def J0:PH:=({c:=_}:Kc f264).1
def OI:Fo prog 264 f264 J0:=.mk func264
end Go.Vc
