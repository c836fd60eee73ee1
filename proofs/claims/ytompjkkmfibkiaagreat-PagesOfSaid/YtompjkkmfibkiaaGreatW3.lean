import Derived.Test.YtompjkkmfibkiaaGreatW2
import Derived.Test.YtompjkkmfibkiaaGreatProg
import Derived.KernelRfl
set_option linter.all false
set_option maxHeartbeats 8000000
open Go.Proofs.Tryz
namespace Go.Vc
open Go.Proofs
section
variable (P:Program) (n:Nat) (L:List Nat)
def mD:Code->bN
 |.skip=>.skip
 |.region id ops draw=>if L.contains (id*2)then .ua ((ops.toList.take (ops.size-1)).map (cW P n ops)) ((ops.toList.drop (ops.size-1)).map (cW P n ops))else if L.contains (id*2+1)then .regA (ops.toList.map (cW P n ops)) (ops.toList.map λo=>(o.after.toList.filter (Region.binds .any)).map (·.on))else .reg draw (ops.toList.map (cW P n ops))
 |.seq a b=>.seq (mD a) (mD b)
 |.cond c a b=>.cond (cx n c) (mD a) (mD b)
 |.block id a=>.block id (mD a)
 |.loop a=>.loop (mD a)
 |.exit id=>.exit id
 |.ret=>.ret
 |.rangeFunc g ps a c=>.eN (cx n g) ps.toList (mD a) (mD c)
 |_=>.bad
end
def Wc(P:Program)(fn:Func)(L:List Nat):P':=match fn.body with
 |some c=>⟨fn.ntmps,mD P fn.ntmps L c,fn.results.toList.map (Ak P fn.ntmps)⟩
 |none=>⟨0,.skip,[]⟩
structure Kc(fn:Func)(L:List Nat:=[]) where
 c:P'
 h:Wc prog fn L=c:=by conv=>lhs;cbv
set_option cbv.maxSteps 1000000000
set_option maxRecDepth 1000000
def c4:P':=({c:=_}:Kc f4).1
def e4:Fo prog 4 f4 c4:=.mk func4
def c7:P':=({c:=_}:Kc f7).1
def e7:Fo prog 7 f7 c7:=.mk func7
def c8:P':=({c:=_}:Kc f8 [27]).1
def e8:Fo prog 8 f8 c8:=.mk func8
def c9:P':=({c:=_}:Kc f9).1
def e9:Fo prog 9 f9 c9:=.mk func9
def c10:P':=({c:=_}:Kc f10).1
def e10:Fo prog 10 f10 c10:=.mk func10
def c12:P':=({c:=_}:Kc f12).1
def e12:Fo prog 12 f12 c12:=.mk func12
def c14:P':=({c:=_}:Kc f14).1
def e14:Fo prog 14 f14 c14:=.mk func14
def c16:P':=({c:=_}:Kc f16).1
def e16:Fo prog 16 f16 c16:=.mk func16
def c17:P':=({c:=_}:Kc f17).1
def e17:Fo prog 17 f17 c17:=.mk func17
def c18:P':=({c:=_}:Kc f18 [15,31,35]).1
def e18:Fo prog 18 f18 c18:=.mk func18
def c19:P':=({c:=_}:Kc f19).1
def e19:Fo prog 19 f19 c19:=.mk func19
def c20:P':=({c:=_}:Kc f20).1
def e20:Fo prog 20 f20 c20:=.mk func20
def c21:P':=({c:=_}:Kc f21 [25,45,63]).1
def e21:Fo prog 21 f21 c21:=.mk func21
def c22:P':=({c:=_}:Kc f22).1
def e22:Fo prog 22 f22 c22:=.mk func22
def c23:P':=({c:=_}:Kc f23).1
def e23:Fo prog 23 f23 c23:=.mk func23
def c24:P':=({c:=_}:Kc f24).1
def e24:Fo prog 24 f24 c24:=.mk func24
def c25:P':=({c:=_}:Kc f25).1
def e25:Fo prog 25 f25 c25:=.mk func25
def c26:P':=({c:=_}:Kc f26).1
def e26:Fo prog 26 f26 c26:=.mk func26
def c29:P':=({c:=_}:Kc f29).1
def e29:Fo prog 29 f29 c29:=.mk func29
def c30:P':=({c:=_}:Kc f30).1
def e30:Fo prog 30 f30 c30:=.mk func30
def c31:P':=({c:=_}:Kc f31).1
def e31:Fo prog 31 f31 c31:=.mk func31
def c32:P':=({c:=_}:Kc f32).1
def e32:Fo prog 32 f32 c32:=.mk func32
def c33:P':=({c:=_}:Kc f33).1
def e33:Fo prog 33 f33 c33:=.mk func33
def c34:P':=({c:=_}:Kc f34).1
def e34:Fo prog 34 f34 c34:=.mk func34
def c35:P':=({c:=_}:Kc f35).1
def e35:Fo prog 35 f35 c35:=.mk func35
def c36:P':=({c:=_}:Kc f36).1
def e36:Fo prog 36 f36 c36:=.mk func36
def c37:P':=({c:=_}:Kc f37).1
def e37:Fo prog 37 f37 c37:=.mk func37
def c38:P':=({c:=_}:Kc f38).1
def e38:Fo prog 38 f38 c38:=.mk func38
def c39:P':=({c:=_}:Kc f39).1
def e39:Fo prog 39 f39 c39:=.mk func39
def c40:P':=({c:=_}:Kc f40).1
def e40:Fo prog 40 f40 c40:=.mk func40
def c41:P':=({c:=_}:Kc f41).1
def e41:Fo prog 41 f41 c41:=.mk func41
def c42:P':=({c:=_}:Kc f42).1
def e42:Fo prog 42 f42 c42:=.mk func42
def c43:P':=({c:=_}:Kc f43).1
def e43:Fo prog 43 f43 c43:=.mk func43
def c44:P':=({c:=_}:Kc f44).1
def e44:Fo prog 44 f44 c44:=.mk func44
def c47:P':=({c:=_}:Kc f47).1
def e47:Fo prog 47 f47 c47:=.mk func47
def c48:P':=({c:=_}:Kc f48).1
def e48:Fo prog 48 f48 c48:=.mk func48
def c49:P':=({c:=_}:Kc f49).1
def e49:Fo prog 49 f49 c49:=.mk func49
def c50:P':=({c:=_}:Kc f50).1
def e50:Fo prog 50 f50 c50:=.mk func50
def c52:P':=({c:=_}:Kc f52).1
def e52:Fo prog 52 f52 c52:=.mk func52
def c53:P':=({c:=_}:Kc f53 [9]).1
def e53:Fo prog 53 f53 c53:=.mk func53
def c54:P':=({c:=_}:Kc f54).1
def e54:Fo prog 54 f54 c54:=.mk func54
def c55:P':=({c:=_}:Kc f55 [11]).1
def e55:Fo prog 55 f55 c55:=.mk func55
def c56:P':=({c:=_}:Kc f56).1
def e56:Fo prog 56 f56 c56:=.mk func56
def c57:P':=({c:=_}:Kc f57).1
def e57:Fo prog 57 f57 c57:=.mk func57
def c58:P':=({c:=_}:Kc f58).1
def e58:Fo prog 58 f58 c58:=.mk func58
def c59:P':=({c:=_}:Kc f59).1
def e59:Fo prog 59 f59 c59:=.mk func59
def c60:P':=({c:=_}:Kc f60).1
def e60:Fo prog 60 f60 c60:=.mk func60
def c61:P':=({c:=_}:Kc f61).1
def e61:Fo prog 61 f61 c61:=.mk func61
def c62:P':=({c:=_}:Kc f62).1
def e62:Fo prog 62 f62 c62:=.mk func62
def c63:P':=({c:=_}:Kc f63).1
def e63:Fo prog 63 f63 c63:=.mk func63
def c64:P':=({c:=_}:Kc f64).1
def e64:Fo prog 64 f64 c64:=.mk func64
def c65:P':=({c:=_}:Kc f65).1
def e65:Fo prog 65 f65 c65:=.mk func65
def c66:P':=({c:=_}:Kc f66).1
def e66:Fo prog 66 f66 c66:=.mk func66
def c67:P':=({c:=_}:Kc f67).1
def e67:Fo prog 67 f67 c67:=.mk func67
def c68:P':=({c:=_}:Kc f68).1
def e68:Fo prog 68 f68 c68:=.mk func68
def c69:P':=({c:=_}:Kc f69).1
def e69:Fo prog 69 f69 c69:=.mk func69
def c70:P':=({c:=_}:Kc f70 [17]).1
def e70:Fo prog 70 f70 c70:=.mk func70
def c71:P':=({c:=_}:Kc f71).1
def e71:Fo prog 71 f71 c71:=.mk func71
def c72:P':=({c:=_}:Kc f72).1
def e72:Fo prog 72 f72 c72:=.mk func72
def c74:P':=({c:=_}:Kc f74).1
def e74:Fo prog 74 f74 c74:=.mk func74
def c75:P':=({c:=_}:Kc f75).1
def e75:Fo prog 75 f75 c75:=.mk func75
def c76:P':=({c:=_}:Kc f76).1
def e76:Fo prog 76 f76 c76:=.mk func76
def c77:P':=({c:=_}:Kc f77).1
def e77:Fo prog 77 f77 c77:=.mk func77
def c78:P':=({c:=_}:Kc f78).1
def e78:Fo prog 78 f78 c78:=.mk func78
def c79:P':=({c:=_}:Kc f79).1
def e79:Fo prog 79 f79 c79:=.mk func79
def c80:P':=({c:=_}:Kc f80).1
def e80:Fo prog 80 f80 c80:=.mk func80
def c81:P':=({c:=_}:Kc f81).1
def e81:Fo prog 81 f81 c81:=.mk func81
def c82:P':=({c:=_}:Kc f82).1
def e82:Fo prog 82 f82 c82:=.mk func82
def c83:P':=({c:=_}:Kc f83).1
def e83:Fo prog 83 f83 c83:=.mk func83
def c84:P':=({c:=_}:Kc f84).1
def e84:Fo prog 84 f84 c84:=.mk func84
def c85:P':=({c:=_}:Kc f85).1
def e85:Fo prog 85 f85 c85:=.mk func85
def c86:P':=({c:=_}:Kc f86).1
def e86:Fo prog 86 f86 c86:=.mk func86
def c87:P':=({c:=_}:Kc f87).1
def e87:Fo prog 87 f87 c87:=.mk func87
def c88:P':=({c:=_}:Kc f88).1
def e88:Fo prog 88 f88 c88:=.mk func88
def c89:P':=({c:=_}:Kc f89).1
def e89:Fo prog 89 f89 c89:=.mk func89
def c90:P':=({c:=_}:Kc f90).1
def e90:Fo prog 90 f90 c90:=.mk func90
def c91:P':=({c:=_}:Kc f91).1
def e91:Fo prog 91 f91 c91:=.mk func91
def c92:P':=({c:=_}:Kc f92).1
def e92:Fo prog 92 f92 c92:=.mk func92
def c93:P':=({c:=_}:Kc f93).1
def e93:Fo prog 93 f93 c93:=.mk func93
def c94:P':=({c:=_}:Kc f94).1
def e94:Fo prog 94 f94 c94:=.mk func94
def c95:P':=({c:=_}:Kc f95).1
def e95:Fo prog 95 f95 c95:=.mk func95
def c96:P':=({c:=_}:Kc f96).1
def e96:Fo prog 96 f96 c96:=.mk func96
def c97:P':=({c:=_}:Kc f97).1
def e97:Fo prog 97 f97 c97:=.mk func97
def c98:P':=({c:=_}:Kc f98).1
def e98:Fo prog 98 f98 c98:=.mk func98
def c99:P':=({c:=_}:Kc f99).1
def e99:Fo prog 99 f99 c99:=.mk func99
def Qi:P':=({c:=_}:Kc f100).1
def UO:Fo prog 100 f100 Qi:=.mk func100
def RT:P':=({c:=_}:Kc f101).1
def Ui:Fo prog 101 f101 RT:=.mk func101
def RL:P':=({c:=_}:Kc f102).1
def UX:Fo prog 102 f102 RL:=.mk func102
def Ru:P':=({c:=_}:Kc f103).1
def Wn:Fo prog 103 f103 Ru:=.mk func103
def Lm:P':=({c:=_}:Kc f104 [5]).1
def VU:Fo prog 104 f104 Lm:=.mk func104
def Pa:P':=({c:=_}:Kc f105 [11]).1
def Vx:Fo prog 105 f105 Pa:=.mk func105
def RU:P':=({c:=_}:Kc f106).1
def To:Fo prog 106 f106 RU:=.mk func106
def Q5:P':=({c:=_}:Kc f107).1
def U8:Fo prog 107 f107 Q5:=.mk func107
def SO:P':=({c:=_}:Kc f108).1
def Vu:Fo prog 108 f108 SO:=.mk func108
def Sn:P':=({c:=_}:Kc f109).1
def Ud:Fo prog 109 f109 Sn:=.mk func109
def Ki:P':=({c:=_}:Kc f110).1
def UH:Fo prog 110 f110 Ki:=.mk func110
def R4:P':=({c:=_}:Kc f111).1
def UL:Fo prog 111 f111 R4:=.mk func111
def P6:P':=({c:=_}:Kc f112).1
def TZ:Fo prog 112 f112 P6:=.mk func112
def O3:P':=({c:=_}:Kc f113).1
def Vd:Fo prog 113 f113 O3:=.mk func113
def QX:P':=({c:=_}:Kc f116).1
def Tt:Fo prog 116 f116 QX:=.mk func116
def Py:P':=({c:=_}:Kc f117).1
def VY:Fo prog 117 f117 Py:=.mk func117
def Sl:P':=({c:=_}:Kc f118).1
def Ql:Fo prog 118 f118 Sl:=.mk func118
def RD:P':=({c:=_}:Kc f119).1
def UB:Fo prog 119 f119 RD:=.mk func119
def Qz:P':=({c:=_}:Kc f120).1
def UN:Fo prog 120 f120 Qz:=.mk func120
def Nb:P':=({c:=_}:Kc f121).1
def Q1:Fo prog 121 f121 Nb:=.mk func121
def M4:P':=({c:=_}:Kc f122).1
def Pp:Fo prog 122 f122 M4:=.mk func122
def OP:P':=({c:=_}:Kc f123).1
def Tz:Fo prog 123 f123 OP:=.mk func123
def Qp:P':=({c:=_}:Kc f124).1
def VA:Fo prog 124 f124 Qp:=.mk func124
def QH:P':=({c:=_}:Kc f125).1
def Uo:Fo prog 125 f125 QH:=.mk func125
def Pc:P':=({c:=_}:Kc f126).1
def Vo:Fo prog 126 f126 Pc:=.mk func126
def KH:P':=({c:=_}:Kc f127).1
def TY:Fo prog 127 f127 KH:=.mk func127
def Qr:P':=({c:=_}:Kc f128).1
def V8:Fo prog 128 f128 Qr:=.mk func128
def R3:P':=({c:=_}:Kc f129 [12]).1
def TI:Fo prog 129 f129 R3:=.mk func129
def OO:P':=({c:=_}:Kc f130 [9,13]).1
def Vz:Fo prog 130 f130 OO:=.mk func130
def Qv:P':=({c:=_}:Kc f131).1
def TH:Fo prog 131 f131 Qv:=.mk func131
def QM:P':=({c:=_}:Kc f132 [3]).1
def Wo:Fo prog 132 f132 QM:=.mk func132
def RB:P':=({c:=_}:Kc f133 [5]).1
def Wb:Fo prog 133 f133 RB:=.mk func133
def Q6:P':=({c:=_}:Kc f134).1
def Ts:Fo prog 134 f134 Q6:=.mk func134
def Tb:P':=({c:=_}:Kc f135).1
def U0:Fo prog 135 f135 Tb:=.mk func135
def PW:P':=({c:=_}:Kc f136).1
def UU:Fo prog 136 f136 PW:=.mk func136
def Rj:P':=({c:=_}:Kc f137).1
def Wm:Fo prog 137 f137 Rj:=.mk func137
def RF:P':=({c:=_}:Kc f138).1
def Wg:Fo prog 138 f138 RF:=.mk func138
def Se:P':=({c:=_}:Kc f139).1
def UF:Fo prog 139 f139 Se:=.mk func139
def Qt:P':=({c:=_}:Kc f140).1
def UZ:Fo prog 140 f140 Qt:=.mk func140
def RQ:P':=({c:=_}:Kc f141).1
def Wv:Fo prog 141 f141 RQ:=.mk func141
def Rv:P':=({c:=_}:Kc f142).1
def TM:Fo prog 142 f142 Rv:=.mk func142
def O2:P':=({c:=_}:Kc f143).1
def Ws:Fo prog 143 f143 O2:=.mk func143
def PS:P':=({c:=_}:Kc f144).1
def VG:Fo prog 144 f144 PS:=.mk func144
def Sy:P':=({c:=_}:Kc f145).1
def Ul:Fo prog 145 f145 Sy:=.mk func145
def OY:P':=({c:=_}:Kc f146).1
def U9:Fo prog 146 f146 OY:=.mk func146
def PA:P':=({c:=_}:Kc f147).1
def V1:Fo prog 147 f147 PA:=.mk func147
def Ro:P':=({c:=_}:Kc f148).1
def Wi:Fo prog 148 f148 Ro:=.mk func148
def Si:P':=({c:=_}:Kc f149).1
def Tw:Fo prog 149 f149 Si:=.mk func149
def KS:P':=({c:=_}:Kc f150).1
def U2:Fo prog 150 f150 KS:=.mk func150
def O5:P':=({c:=_}:Kc f151).1
def Uj:Fo prog 151 f151 O5:=.mk func151
def Rh:P':=({c:=_}:Kc f152).1
def Uv:Fo prog 152 f152 Rh:=.mk func152
def QR:P':=({c:=_}:Kc f153).1
def V3:Fo prog 153 f153 QR:=.mk func153
def Pg:P':=({c:=_}:Kc f154).1
def Vi:Fo prog 154 f154 Pg:=.mk func154
def R5:P':=({c:=_}:Kc f155).1
def Wj:Fo prog 155 f155 R5:=.mk func155
def NU:P':=({c:=_}:Kc f156).1
def U4:Fo prog 156 f156 NU:=.mk func156
def Qq:P':=({c:=_}:Kc f157).1
def TW:Fo prog 157 f157 Qq:=.mk func157
def RR:P':=({c:=_}:Kc f158).1
def Tp:Fo prog 158 f158 RR:=.mk func158
def SG:P':=({c:=_}:Kc f159).1
def Uf:Fo prog 159 f159 SG:=.mk func159
def Tg:P':=({c:=_}:Kc f160).1
def UM:Fo prog 160 f160 Tg:=.mk func160
def JY:P':=({c:=_}:Kc f161).1
def Vp:Fo prog 161 f161 JY:=.mk func161
def NB:P':=({c:=_}:Kc f167).1
def U1:Fo prog 167 f167 NB:=.mk func167
def Sr:P':=({c:=_}:Kc f168).1
def T9:Fo prog 168 f168 Sr:=.mk func168
def OT:P':=({c:=_}:Kc f169).1
def VW:Fo prog 169 f169 OT:=.mk func169
def Rk:P':=({c:=_}:Kc f170).1
def Vg:Fo prog 170 f170 Rk:=.mk func170
def PV:P':=({c:=_}:Kc f171).1
def RP:Fo prog 171 f171 PV:=.mk func171
def Sa:P':=({c:=_}:Kc f172).1
def Vr:Fo prog 172 f172 Sa:=.mk func172
def OS:P':=({c:=_}:Kc f173).1
def UW:Fo prog 173 f173 OS:=.mk func173
def PL:P':=({c:=_}:Kc f174).1
def UA:Fo prog 174 f174 PL:=.mk func174
def SW:P':=({c:=_}:Kc f175).1
def Us:Fo prog 175 f175 SW:=.mk func175
def Qb:P':=({c:=_}:Kc f176).1
def VP:Fo prog 176 f176 Qb:=.mk func176
def RJ:P':=({c:=_}:Kc f177).1
def Uu:Fo prog 177 f177 RJ:=.mk func177
def PU:P':=({c:=_}:Kc f178).1
def TJ:Fo prog 178 f178 PU:=.mk func178
def QD:P':=({c:=_}:Kc f179 [5]).1
def V7:Fo prog 179 f179 QD:=.mk func179
def Qg:P':=({c:=_}:Kc f180 [9]).1
def UQ:Fo prog 180 f180 Qg:=.mk func180
def OM:P':=({c:=_}:Kc f181 [5]).1
def Vw:Fo prog 181 f181 OM:=.mk func181
def Q2:P':=({c:=_}:Kc f182).1
def Uw:Fo prog 182 f182 Q2:=.mk func182
def Re:P':=({c:=_}:Kc f183).1
def VT:Fo prog 183 f183 Re:=.mk func183
def QF:P':=({c:=_}:Kc f184).1
def TG:Fo prog 184 f184 QF:=.mk func184
def Sb:P':=({c:=_}:Kc f185).1
def Tq:Fo prog 185 f185 Sb:=.mk func185
def Sj:P':=({c:=_}:Kc f186).1
def VJ:Fo prog 186 f186 Sj:=.mk func186
def R8:P':=({c:=_}:Kc f187).1
def Tx:Fo prog 187 f187 R8:=.mk func187
def OV:P':=({c:=_}:Kc f188).1
def V0:Fo prog 188 f188 OV:=.mk func188
def QZ:P':=({c:=_}:Kc f189).1
def VE:Fo prog 189 f189 QZ:=.mk func189
def SA:P':=({c:=_}:Kc f190).1
def Uq:Fo prog 190 f190 SA:=.mk func190
def P8:P':=({c:=_}:Kc f191).1
def U3:Fo prog 191 f191 P8:=.mk func191
def RK:P':=({c:=_}:Kc f192).1
def V6:Fo prog 192 f192 RK:=.mk func192
def SF:P':=({c:=_}:Kc f193).1
def Vf:Fo prog 193 f193 SF:=.mk func193
def Sz:P':=({c:=_}:Kc f194).1
def V4:Fo prog 194 f194 Sz:=.mk func194
def Sk:P':=({c:=_}:Kc f195).1
def UC:Fo prog 195 f195 Sk:=.mk func195
def SZ:P':=({c:=_}:Kc f196).1
def Ub:Fo prog 196 f196 SZ:=.mk func196
def Rt:P':=({c:=_}:Kc f197).1
def VL:Fo prog 197 f197 Rt:=.mk func197
def Pt:P':=({c:=_}:Kc f198).1
def Tu:Fo prog 198 f198 Pt:=.mk func198
def Ps:P':=({c:=_}:Kc f199).1
def VS:Fo prog 199 f199 Ps:=.mk func199
def NV:P':=({c:=_}:Kc f200).1
def Wl:Fo prog 200 f200 NV:=.mk func200
def OQ:P':=({c:=_}:Kc f201).1
def VB:Fo prog 201 f201 OQ:=.mk func201
def Qn:P':=({c:=_}:Kc f202).1
def U7:Fo prog 202 f202 Qn:=.mk func202
def La:P':=({c:=_}:Kc f203).1
def Ux:Fo prog 203 f203 La:=.mk func203
def QL:P':=({c:=_}:Kc f204).1
def Vq:Fo prog 204 f204 QL:=.mk func204
def PK:P':=({c:=_}:Kc f205).1
def T1:Fo prog 205 f205 PK:=.mk func205
def PD:P':=({c:=_}:Kc f206).1
def Wp:Fo prog 206 f206 PD:=.mk func206
def Q3:P':=({c:=_}:Kc f207).1
def Vb:Fo prog 207 f207 Q3:=.mk func207
def ON:P':=({c:=_}:Kc f208).1
def Uk:Fo prog 208 f208 ON:=.mk func208
def QC:P':=({c:=_}:Kc f209).1
def VC:Fo prog 209 f209 QC:=.mk func209
def RH:P':=({c:=_}:Kc f210).1
def VQ:Fo prog 210 f210 RH:=.mk func210
def Rf:P':=({c:=_}:Kc f211).1
def Vy:Fo prog 211 f211 Rf:=.mk func211
def QN:P':=({c:=_}:Kc f212).1
def Ur:Fo prog 212 f212 QN:=.mk func212
def RI:P':=({c:=_}:Kc f213).1
def Ut:Fo prog 213 f213 RI:=.mk func213
def SN:P':=({c:=_}:Kc f214).1
def Ue:Fo prog 214 f214 SN:=.mk func214
def QU:P':=({c:=_}:Kc f215).1
def Uz:Fo prog 215 f215 QU:=.mk func215
def SY:P':=({c:=_}:Kc f216).1
def Ua:Fo prog 216 f216 SY:=.mk func216
def PJ:P':=({c:=_}:Kc f217).1
def Ww:Fo prog 217 f217 PJ:=.mk func217
def Rg:P':=({c:=_}:Kc f222).1
def VZ:Fo prog 222 f222 Rg:=.mk func222
def Sq:P':=({c:=_}:Kc f223).1
def V9:Fo prog 223 f223 Sq:=.mk func223
def PO:P':=({c:=_}:Kc f224).1
def TU:Fo prog 224 f224 PO:=.mk func224
def Qh:P':=({c:=_}:Kc f225).1
def PN:Fo prog 225 f225 Qh:=.mk func225
def PC:P':=({c:=_}:Kc f226).1
def Tv:Fo prog 226 f226 PC:=.mk func226
def SX:P':=({c:=_}:Kc f227).1
def Wd:Fo prog 227 f227 SX:=.mk func227
def OU:P':=({c:=_}:Kc f228).1
def TL:Fo prog 228 f228 OU:=.mk func228
def Oq:P':=({c:=_}:Kc f229).1
def TN:Fo prog 229 f229 Oq:=.mk func229
def Rl:P':=({c:=_}:Kc f230).1
def U6:Fo prog 230 f230 Rl:=.mk func230
def Qj:P':=({c:=_}:Kc f231).1
def Vm:Fo prog 231 f231 Qj:=.mk func231
def Ta:P':=({c:=_}:Kc f232).1
def Wa:Fo prog 232 f232 Ta:=.mk func232
def RA:P':=({c:=_}:Kc f233).1
def We:Fo prog 233 f233 RA:=.mk func233
def SK:P':=({c:=_}:Kc f234).1
def T0:Fo prog 234 f234 SK:=.mk func234
def Rq:P':=({c:=_}:Kc f235).1
def Wf:Fo prog 235 f235 Rq:=.mk func235
def Qs:P':=({c:=_}:Kc f236).1
def UP:Fo prog 236 f236 Qs:=.mk func236
def RN:P':=({c:=_}:Kc f237).1
def V2:Fo prog 237 f237 RN:=.mk func237
def Rd:P':=({c:=_}:Kc f238).1
def US:Fo prog 238 f238 Rd:=.mk func238
def Tc:P':=({c:=_}:Kc f239).1
def VF:Fo prog 239 f239 Tc:=.mk func239
def Ly:P':=({c:=_}:Kc f240).1
def Ti:Fo prog 240 f240 Ly:=.mk func240
def Qc:P':=({c:=_}:Kc f241).1
def Uy:Fo prog 241 f241 Qc:=.mk func241
def Sf:P':=({c:=_}:Kc f242).1
def VO:Fo prog 242 f242 Sf:=.mk func242
def Su:P':=({c:=_}:Kc f243).1
def Vj:Fo prog 243 f243 Su:=.mk func243
def NH:P':=({c:=_}:Kc f244).1
def Ug:Fo prog 244 f244 NH:=.mk func244
def QI:P':=({c:=_}:Kc f245).1
def Un:Fo prog 245 f245 QI:=.mk func245
def SB:P':=({c:=_}:Kc f246).1
def UK:Fo prog 246 f246 SB:=.mk func246
def SL:P':=({c:=_}:Kc f247).1
def Wu:Fo prog 247 f247 SL:=.mk func247
def Sw:P':=({c:=_}:Kc f248).1
def TK:Fo prog 248 f248 Sw:=.mk func248
def QK:P':=({c:=_}:Kc f249).1
def TB:Fo prog 249 f249 QK:=.mk func249
def PE:P':=({c:=_}:Kc f250).1
def TR:Fo prog 250 f250 PE:=.mk func250
def K8:P':=({c:=_}:Kc f251).1
def UI:Fo prog 251 f251 K8:=.mk func251
def Ri:P':=({c:=_}:Kc f252).1
def Th:Fo prog 252 f252 Ri:=.mk func252
def Qo:P':=({c:=_}:Kc f253).1
def Ph:Fo prog 253 f253 Qo:=.mk func253
def PG:P':=({c:=_}:Kc f254).1
def Rr:Fo prog 254 f254 PG:=.mk func254
def P7:P':=({c:=_}:Kc f255).1
def Tm:Fo prog 255 f255 P7:=.mk func255
def So:P':=({c:=_}:Kc f261).1
def U5:Fo prog 261 f261 So:=.mk func261
def Rw:P':=({c:=_}:Kc f262).1
def TE:Fo prog 262 f262 Rw:=.mk func262
def SC:P':=({c:=_}:Kc f263).1
def Vl:Fo prog 263 f263 SC:=.mk func263
def OZ:P':=({c:=_}:Kc f264).1
def TT:Fo prog 264 f264 OZ:=.mk func264
def Rp:P':=({c:=_}:Kc f265).1
def TV:Fo prog 265 f265 Rp:=.mk func265
def SU:P':=({c:=_}:Kc f266).1
def Ve:Fo prog 266 f266 SU:=.mk func266
def Qm:P':=({c:=_}:Kc f267).1
def Uc:Fo prog 267 f267 Qm:=.mk func267
def RG:P':=({c:=_}:Kc f268).1
def VD:Fo prog 268 f268 RG:=.mk func268
def Km:P':=({c:=_}:Kc f269).1
def VI:Fo prog 269 f269 Km:=.mk func269
def Nx:P':=({c:=_}:Kc f270).1
def Tk:Fo prog 270 f270 Nx:=.mk func270
def QB:P':=({c:=_}:Kc f271 [8]).1
def Tl:Fo prog 271 f271 QB:=.mk func271
def QT:P':=({c:=_}:Kc f272).1
def TQ:Fo prog 272 f272 QT:=.mk func272
def Qk:P':=({c:=_}:Kc f273).1
def Wq:Fo prog 273 f273 Qk:=.mk func273
def Nq:P':=({c:=_}:Kc f274).1
def UT:Fo prog 274 f274 Nq:=.mk func274
def Ra:P':=({c:=_}:Kc f275).1
def Ty:Fo prog 275 f275 Ra:=.mk func275
def Pb:P':=({c:=_}:Kc f276).1
def SD:Fo prog 276 f276 Pb:=.mk func276
def SR:P':=({c:=_}:Kc f277).1
def Um:Fo prog 277 f277 SR:=.mk func277
def SS:P':=({c:=_}:Kc f278).1
def Vk:Fo prog 278 f278 SS:=.mk func278
def Pj:P':=({c:=_}:Kc f279).1
def UE:Fo prog 279 f279 Pj:=.mk func279
def RC:P':=({c:=_}:Kc f280).1
def Vn:Fo prog 280 f280 RC:=.mk func280
def QJ:P':=({c:=_}:Kc f281).1
def Up:Fo prog 281 f281 QJ:=.mk func281
def Pq:P':=({c:=_}:Kc f282).1
def TP:Fo prog 282 f282 Pq:=.mk func282
def SJ:P':=({c:=_}:Kc f284).1
def TS:Fo prog 284 f284 SJ:=.mk func284
def O9:P':=({c:=_}:Kc f285).1
def Uh:Fo prog 285 f285 O9:=.mk func285
def Pf:P':=({c:=_}:Kc f286).1
def Vt:Fo prog 286 f286 Pf:=.mk func286
def Rz:P':=({c:=_}:Kc f287).1
def Tj:Fo prog 287 f287 Rz:=.mk func287
def Pu:P':=({c:=_}:Kc f288).1
def TF:Fo prog 288 f288 Pu:=.mk func288
def Te:P':=({c:=_}:Kc f289).1
def Vv:Fo prog 289 f289 Te:=.mk func289
def Q0:P':=({c:=_}:Kc f290).1
def UD:Fo prog 290 f290 Q0:=.mk func290
def Pw:P':=({c:=_}:Kc f291).1
def UJ:Fo prog 291 f291 Pw:=.mk func291
def P3:P':=({c:=_}:Kc f292).1
def Wh:Fo prog 292 f292 P3:=.mk func292
def Po:P':=({c:=_}:Kc f293).1
def Sg:Fo prog 293 f293 Po:=.mk func293
def Sx:P':=({c:=_}:Kc f294).1
def V5:Fo prog 294 f294 Sx:=.mk func294
def RS:P':=({c:=_}:Kc f295).1
def PB:Fo prog 295 f295 RS:=.mk func295
def OR:P':=({c:=_}:Kc f296).1
def VM:Fo prog 296 f296 OR:=.mk func296
end Go.Vc
