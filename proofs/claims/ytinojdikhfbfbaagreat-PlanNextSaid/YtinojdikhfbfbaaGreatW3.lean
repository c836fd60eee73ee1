import Derived.Test.YtinojdikhfbfbaaGreatW2
import Derived.Test.YtinojdikhfbfbaaGreatProg
import Derived.KernelRfl
set_option linter.all false
set_option maxHeartbeats 8000000
open Go.Proofs.Tryz
namespace Go.Vc
open Go.Proofs
section
variable (P:Program) (n:Nat) (L:List Nat)
def mj:Code->bP
 |.skip=>.skip
 |.region id ops draw=>if L.contains (id*2)then .xU ((ops.toList.take (ops.size-1)).map (bL P n ops)) ((ops.toList.drop (ops.size-1)).map (bL P n ops))else if L.contains (id*2+1)then .Wv (ops.toList.map (bL P n ops)) (ops.toList.map λo=>(o.after.toList.filter (Region.binds .any)).map (·.on))else .VL draw (ops.toList.map (bL P n ops))
 |.seq a b=>.seq (mj a) (mj b)
 |.cond c a b=>.cond (cx n c) (mj a) (mj b)
 |.block id a=>.block id (mj a)
 |.loop a=>.loop (mj a)
 |.exit id=>.exit id
 |.ret=>.ret
 |.rangeFunc g ps a c=>.gi (cx n g) ps.toList (mj a) (mj c)
 |_=>.bad
end
def Qo(P:Program)(fn:Func)(L:List Nat):RB:=match fn.body with
 |some c=>⟨fn.ntmps,mj P fn.ntmps L c,fn.results.toList.map (zF P fn.ntmps)⟩
 |none=>⟨0,.skip,[]⟩
structure Kc(fn:Func)(L:List Nat:=[]) where
 c:RB
 h:Qo prog fn L=c:=by conv=>lhs;cbv
set_option cbv.maxSteps 1000000000
set_option maxRecDepth 1000000
def c3:RB:=({c:=_}:Kc f3).1
def e3:Fo prog 3 f3 c3:=.mk func3
def c6:RB:=({c:=_}:Kc f6).1
def e6:Fo prog 6 f6 c6:=.mk func6
def c7:RB:=({c:=_}:Kc f7).1
def e7:Fo prog 7 f7 c7:=.mk func7
def c8:RB:=({c:=_}:Kc f8).1
def e8:Fo prog 8 f8 c8:=.mk func8
def c9:RB:=({c:=_}:Kc f9).1
def e9:Fo prog 9 f9 c9:=.mk func9
def c10:RB:=({c:=_}:Kc f10).1
def e10:Fo prog 10 f10 c10:=.mk func10
def c11:RB:=({c:=_}:Kc f11).1
def e11:Fo prog 11 f11 c11:=.mk func11
def c12:RB:=({c:=_}:Kc f12 [37]).1
def e12:Fo prog 12 f12 c12:=.mk func12
def c13:RB:=({c:=_}:Kc f13).1
def e13:Fo prog 13 f13 c13:=.mk func13
def c16:RB:=({c:=_}:Kc f16 [11]).1
def e16:Fo prog 16 f16 c16:=.mk func16
def c17:RB:=({c:=_}:Kc f17).1
def e17:Fo prog 17 f17 c17:=.mk func17
def c20:RB:=({c:=_}:Kc f20).1
def e20:Fo prog 20 f20 c20:=.mk func20
def c21:RB:=({c:=_}:Kc f21).1
def e21:Fo prog 21 f21 c21:=.mk func21
def c22:RB:=({c:=_}:Kc f22).1
def e22:Fo prog 22 f22 c22:=.mk func22
def c23:RB:=({c:=_}:Kc f23).1
def e23:Fo prog 23 f23 c23:=.mk func23
def c24:RB:=({c:=_}:Kc f24 [15]).1
def e24:Fo prog 24 f24 c24:=.mk func24
def c25:RB:=({c:=_}:Kc f25).1
def e25:Fo prog 25 f25 c25:=.mk func25
def c26:RB:=({c:=_}:Kc f26 [11]).1
def e26:Fo prog 26 f26 c26:=.mk func26
def c27:RB:=({c:=_}:Kc f27).1
def e27:Fo prog 27 f27 c27:=.mk func27
def c28:RB:=({c:=_}:Kc f28).1
def e28:Fo prog 28 f28 c28:=.mk func28
def c29:RB:=({c:=_}:Kc f29).1
def e29:Fo prog 29 f29 c29:=.mk func29
def c30:RB:=({c:=_}:Kc f30).1
def e30:Fo prog 30 f30 c30:=.mk func30
def c31:RB:=({c:=_}:Kc f31 [17]).1
def e31:Fo prog 31 f31 c31:=.mk func31
def c32:RB:=({c:=_}:Kc f32).1
def e32:Fo prog 32 f32 c32:=.mk func32
def c33:RB:=({c:=_}:Kc f33).1
def e33:Fo prog 33 f33 c33:=.mk func33
def c34:RB:=({c:=_}:Kc f34).1
def e34:Fo prog 34 f34 c34:=.mk func34
def c35:RB:=({c:=_}:Kc f35).1
def e35:Fo prog 35 f35 c35:=.mk func35
def c36:RB:=({c:=_}:Kc f36).1
def e36:Fo prog 36 f36 c36:=.mk func36
def c37:RB:=({c:=_}:Kc f37).1
def e37:Fo prog 37 f37 c37:=.mk func37
def c38:RB:=({c:=_}:Kc f38).1
def e38:Fo prog 38 f38 c38:=.mk func38
def c43:RB:=({c:=_}:Kc f43 [7]).1
def e43:Fo prog 43 f43 c43:=.mk func43
def c44:RB:=({c:=_}:Kc f44).1
def e44:Fo prog 44 f44 c44:=.mk func44
def c45:RB:=({c:=_}:Kc f45).1
def e45:Fo prog 45 f45 c45:=.mk func45
def c46:RB:=({c:=_}:Kc f46).1
def e46:Fo prog 46 f46 c46:=.mk func46
def c47:RB:=({c:=_}:Kc f47).1
def e47:Fo prog 47 f47 c47:=.mk func47
def c48:RB:=({c:=_}:Kc f48).1
def e48:Fo prog 48 f48 c48:=.mk func48
def c50:RB:=({c:=_}:Kc f50).1
def e50:Fo prog 50 f50 c50:=.mk func50
def c51:RB:=({c:=_}:Kc f51).1
def e51:Fo prog 51 f51 c51:=.mk func51
def c52:RB:=({c:=_}:Kc f52 [27]).1
def e52:Fo prog 52 f52 c52:=.mk func52
def c53:RB:=({c:=_}:Kc f53).1
def e53:Fo prog 53 f53 c53:=.mk func53
def c54:RB:=({c:=_}:Kc f54).1
def e54:Fo prog 54 f54 c54:=.mk func54
def c55:RB:=({c:=_}:Kc f55).1
def e55:Fo prog 55 f55 c55:=.mk func55
def c56:RB:=({c:=_}:Kc f56).1
def e56:Fo prog 56 f56 c56:=.mk func56
def c57:RB:=({c:=_}:Kc f57).1
def e57:Fo prog 57 f57 c57:=.mk func57
def c58:RB:=({c:=_}:Kc f58).1
def e58:Fo prog 58 f58 c58:=.mk func58
def c59:RB:=({c:=_}:Kc f59).1
def e59:Fo prog 59 f59 c59:=.mk func59
def c60:RB:=({c:=_}:Kc f60).1
def e60:Fo prog 60 f60 c60:=.mk func60
def c61:RB:=({c:=_}:Kc f61).1
def e61:Fo prog 61 f61 c61:=.mk func61
def c62:RB:=({c:=_}:Kc f62).1
def e62:Fo prog 62 f62 c62:=.mk func62
def c63:RB:=({c:=_}:Kc f63).1
def e63:Fo prog 63 f63 c63:=.mk func63
def c64:RB:=({c:=_}:Kc f64).1
def e64:Fo prog 64 f64 c64:=.mk func64
def c65:RB:=({c:=_}:Kc f65).1
def e65:Fo prog 65 f65 c65:=.mk func65
def c66:RB:=({c:=_}:Kc f66).1
def e66:Fo prog 66 f66 c66:=.mk func66
def c67:RB:=({c:=_}:Kc f67).1
def e67:Fo prog 67 f67 c67:=.mk func67
def c68:RB:=({c:=_}:Kc f68).1
def e68:Fo prog 68 f68 c68:=.mk func68
def c69:RB:=({c:=_}:Kc f69).1
def e69:Fo prog 69 f69 c69:=.mk func69
def c70:RB:=({c:=_}:Kc f70).1
def e70:Fo prog 70 f70 c70:=.mk func70
def c71:RB:=({c:=_}:Kc f71).1
def e71:Fo prog 71 f71 c71:=.mk func71
def c72:RB:=({c:=_}:Kc f72).1
def e72:Fo prog 72 f72 c72:=.mk func72
def c73:RB:=({c:=_}:Kc f73).1
def e73:Fo prog 73 f73 c73:=.mk func73
def c74:RB:=({c:=_}:Kc f74).1
def e74:Fo prog 74 f74 c74:=.mk func74
def c75:RB:=({c:=_}:Kc f75).1
def e75:Fo prog 75 f75 c75:=.mk func75
def c76:RB:=({c:=_}:Kc f76).1
def e76:Fo prog 76 f76 c76:=.mk func76
def c77:RB:=({c:=_}:Kc f77).1
def e77:Fo prog 77 f77 c77:=.mk func77
def c78:RB:=({c:=_}:Kc f78).1
def e78:Fo prog 78 f78 c78:=.mk func78
def c79:RB:=({c:=_}:Kc f79).1
def e79:Fo prog 79 f79 c79:=.mk func79
def c80:RB:=({c:=_}:Kc f80).1
def e80:Fo prog 80 f80 c80:=.mk func80
def c81:RB:=({c:=_}:Kc f81).1
def e81:Fo prog 81 f81 c81:=.mk func81
def c82:RB:=({c:=_}:Kc f82).1
def e82:Fo prog 82 f82 c82:=.mk func82
def c83:RB:=({c:=_}:Kc f83).1
def e83:Fo prog 83 f83 c83:=.mk func83
def c84:RB:=({c:=_}:Kc f84).1
def e84:Fo prog 84 f84 c84:=.mk func84
def c85:RB:=({c:=_}:Kc f85).1
def e85:Fo prog 85 f85 c85:=.mk func85
def c86:RB:=({c:=_}:Kc f86).1
def e86:Fo prog 86 f86 c86:=.mk func86
def c87:RB:=({c:=_}:Kc f87).1
def e87:Fo prog 87 f87 c87:=.mk func87
def c88:RB:=({c:=_}:Kc f88).1
def e88:Fo prog 88 f88 c88:=.mk func88
def c89:RB:=({c:=_}:Kc f89).1
def e89:Fo prog 89 f89 c89:=.mk func89
def c90:RB:=({c:=_}:Kc f90).1
def e90:Fo prog 90 f90 c90:=.mk func90
def c91:RB:=({c:=_}:Kc f91).1
def e91:Fo prog 91 f91 c91:=.mk func91
def c92:RB:=({c:=_}:Kc f92).1
def e92:Fo prog 92 f92 c92:=.mk func92
def c93:RB:=({c:=_}:Kc f93).1
def e93:Fo prog 93 f93 c93:=.mk func93
def c94:RB:=({c:=_}:Kc f94).1
def e94:Fo prog 94 f94 c94:=.mk func94
def c95:RB:=({c:=_}:Kc f95).1
def e95:Fo prog 95 f95 c95:=.mk func95
def c96:RB:=({c:=_}:Kc f96).1
def e96:Fo prog 96 f96 c96:=.mk func96
def c97:RB:=({c:=_}:Kc f97).1
def e97:Fo prog 97 f97 c97:=.mk func97
def c98:RB:=({c:=_}:Kc f98).1
def e98:Fo prog 98 f98 c98:=.mk func98
def c99:RB:=({c:=_}:Kc f99).1
def e99:Fo prog 99 f99 c99:=.mk func99
def Mr:RB:=({c:=_}:Kc f100).1
def Qy:Fo prog 100 f100 Mr:=.mk func100
def MM:RB:=({c:=_}:Kc f101).1
def Qg:Fo prog 101 f101 MM:=.mk func101
def HK:RB:=({c:=_}:Kc f102).1
def Qp:Fo prog 102 f102 HK:=.mk func102
def Of:RB:=({c:=_}:Kc f103).1
def Rw:Fo prog 103 f103 Of:=.mk func103
def Nt:RB:=({c:=_}:Kc f104).1
def Rf:Fo prog 104 f104 Nt:=.mk func104
def LL:RB:=({c:=_}:Kc f105).1
def PJ:Fo prog 105 f105 LL:=.mk func105
def Ok:RB:=({c:=_}:Kc f106).1
def Px:Fo prog 106 f106 Ok:=.mk func106
def Md:RB:=({c:=_}:Kc f107).1
def Q8:Fo prog 107 f107 Md:=.mk func107
def NC:RB:=({c:=_}:Kc f108).1
def Rp:Fo prog 108 f108 NC:=.mk func108
def MP:RB:=({c:=_}:Kc f109).1
def PK:Fo prog 109 f109 MP:=.mk func109
def Mo:RB:=({c:=_}:Kc f110).1
def Pj:Fo prog 110 f110 Mo:=.mk func110
def MH:RB:=({c:=_}:Kc f111).1
def QA:Fo prog 111 f111 MH:=.mk func111
def Lo:RB:=({c:=_}:Kc f112).1
def Pc:Fo prog 112 f112 Lo:=.mk func112
def N2:RB:=({c:=_}:Kc f113).1
def Qf:Fo prog 113 f113 N2:=.mk func113
def N5:RB:=({c:=_}:Kc f114).1
def QL:Fo prog 114 f114 N5:=.mk func114
def LV:RB:=({c:=_}:Kc f115).1
def Rv:Fo prog 115 f115 LV:=.mk func115
def ML:RB:=({c:=_}:Kc f116).1
def Ri:Fo prog 116 f116 ML:=.mk func116
def LY:RB:=({c:=_}:Kc f117).1
def OS:Fo prog 117 f117 LY:=.mk func117
def E8:RB:=({c:=_}:Kc f118).1
def PH:Fo prog 118 f118 E8:=.mk func118
def M4:RB:=({c:=_}:Kc f119).1
def PL:Fo prog 119 f119 M4:=.mk func119
def Mq:RB:=({c:=_}:Kc f120).1
def O6:Fo prog 120 f120 Mq:=.mk func120
def HV:RB:=({c:=_}:Kc f121).1
def OP:Fo prog 121 f121 HV:=.mk func121
def Hv:RB:=({c:=_}:Kc f122).1
def Pv:Fo prog 122 f122 Hv:=.mk func122
def MN:RB:=({c:=_}:Kc f123).1
def Pp:Fo prog 123 f123 MN:=.mk func123
def Ol:RB:=({c:=_}:Kc f124).1
def OY:Fo prog 124 f124 Ol:=.mk func124
def NL:RB:=({c:=_}:Kc f125).1
def Oo:Fo prog 125 f125 NL:=.mk func125
def Oh:RB:=({c:=_}:Kc f126).1
def Re:Fo prog 126 f126 Oh:=.mk func126
def Mf:RB:=({c:=_}:Kc f127).1
def Qa:Fo prog 127 f127 Mf:=.mk func127
def Nl:RB:=({c:=_}:Kc f128).1
def PN:Fo prog 128 f128 Nl:=.mk func128
def Oz:RB:=({c:=_}:Kc f129).1
def QT:Fo prog 129 f129 Oz:=.mk func129
def Mp:RB:=({c:=_}:Kc f130).1
def QG:Fo prog 130 f130 Mp:=.mk func130
def OK:RB:=({c:=_}:Kc f131).1
def P6:Fo prog 131 f131 OK:=.mk func131
def No:RB:=({c:=_}:Kc f132).1
def PE:Fo prog 132 f132 No:=.mk func132
def L0:RB:=({c:=_}:Kc f133).1
def Q5:Fo prog 133 f133 L0:=.mk func133
def Lq:RB:=({c:=_}:Kc f134).1
def Pb:Fo prog 134 f134 Lq:=.mk func134
def M8:RB:=({c:=_}:Kc f135).1
def Pu:Fo prog 135 f135 M8:=.mk func135
def MI:RB:=({c:=_}:Kc f136).1
def Po:Fo prog 136 f136 MI:=.mk func136
def IB:RB:=({c:=_}:Kc f137).1
def ON:Fo prog 137 f137 IB:=.mk func137
def Ll:RB:=({c:=_}:Kc f138).1
def Ov:Fo prog 138 f138 Ll:=.mk func138
def JL:RB:=({c:=_}:Kc f139).1
def Nk:Fo prog 139 f139 JL:=.mk func139
def Mc:RB:=({c:=_}:Kc f140).1
def Pd:Fo prog 140 f140 Mc:=.mk func140
def OD:RB:=({c:=_}:Kc f141).1
def P5:Fo prog 141 f141 OD:=.mk func141
def Lx:RB:=({c:=_}:Kc f142).1
def Qs:Fo prog 142 f142 Lx:=.mk func142
def N4:RB:=({c:=_}:Kc f143 [12]).1
def Pf:Fo prog 143 f143 N4:=.mk func143
def N8:RB:=({c:=_}:Kc f144 [9,13]).1
def QH:Fo prog 144 f144 N8:=.mk func144
def N6:RB:=({c:=_}:Kc f145).1
def Ru:Fo prog 145 f145 N6:=.mk func145
def MD:RB:=({c:=_}:Kc f146 [3]).1
def O9:Fo prog 146 f146 MD:=.mk func146
def Me:RB:=({c:=_}:Kc f147 [5]).1
def QV:Fo prog 147 f147 Me:=.mk func147
def LG:RB:=({c:=_}:Kc f148).1
def PO:Fo prog 148 f148 LG:=.mk func148
def OL:RB:=({c:=_}:Kc f149).1
def Pe:Fo prog 149 f149 OL:=.mk func149
def NK:RB:=({c:=_}:Kc f150).1
def OU:Fo prog 150 f150 NK:=.mk func150
def Nv:RB:=({c:=_}:Kc f151).1
def PW:Fo prog 151 f151 Nv:=.mk func151
def Mh:RB:=({c:=_}:Kc f152).1
def Rb:Fo prog 152 f152 Mh:=.mk func152
def M1:RB:=({c:=_}:Kc f153).1
def MY:Fo prog 153 f153 M1:=.mk func153
def Mn:RB:=({c:=_}:Kc f154).1
def O8:Fo prog 154 f154 Mn:=.mk func154
def LX:RB:=({c:=_}:Kc f155).1
def QU:Fo prog 155 f155 LX:=.mk func155
def LA:RB:=({c:=_}:Kc f156).1
def PA:Fo prog 156 f156 LA:=.mk func156
def Od:RB:=({c:=_}:Kc f157).1
def O0:Fo prog 157 f157 Od:=.mk func157
def M0:RB:=({c:=_}:Kc f158).1
def Qt:Fo prog 158 f158 M0:=.mk func158
def MS:RB:=({c:=_}:Kc f159).1
def Qm:Fo prog 159 f159 MS:=.mk func159
def NF:RB:=({c:=_}:Kc f160).1
def Ph:Fo prog 160 f160 NF:=.mk func160
def M3:RB:=({c:=_}:Kc f161).1
def Qr:Fo prog 161 f161 M3:=.mk func161
def Lr:RB:=({c:=_}:Kc f162).1
def PM:Fo prog 162 f162 Lr:=.mk func162
def Lv:RB:=({c:=_}:Kc f163).1
def Pg:Fo prog 163 f163 Lv:=.mk func163
def LF:RB:=({c:=_}:Kc f164).1
def Qi:Fo prog 164 f164 LF:=.mk func164
def KD:RB:=({c:=_}:Kc f165).1
def Ps:Fo prog 165 f165 KD:=.mk func165
def LD:RB:=({c:=_}:Kc f166).1
def PR:Fo prog 166 f166 LD:=.mk func166
def Oc:RB:=({c:=_}:Kc f167).1
def OV:Fo prog 167 f167 Oc:=.mk func167
def OC:RB:=({c:=_}:Kc f168).1
def Rs:Fo prog 168 f168 OC:=.mk func168
def Lm:RB:=({c:=_}:Kc f169).1
def PC:Fo prog 169 f169 Lm:=.mk func169
def Mg:RB:=({c:=_}:Kc f170).1
def Qn:Fo prog 170 f170 Mg:=.mk func170
def MQ:RB:=({c:=_}:Kc f171).1
def Rd:Fo prog 171 f171 MQ:=.mk func171
def Ls:RB:=({c:=_}:Kc f172).1
def Qe:Fo prog 172 f172 Ls:=.mk func172
def M6:RB:=({c:=_}:Kc f173).1
def Q3:Fo prog 173 f173 M6:=.mk func173
def MF:RB:=({c:=_}:Kc f174).1
def Rz:Fo prog 174 f174 MF:=.mk func174
def NU:RB:=({c:=_}:Kc f175).1
def Rc:Fo prog 175 f175 NU:=.mk func175
def OI:RB:=({c:=_}:Kc f176 [5]).1
def Qh:Fo prog 176 f176 OI:=.mk func176
def NS:RB:=({c:=_}:Kc f177 [9]).1
def Rq:Fo prog 177 f177 NS:=.mk func177
def Ms:RB:=({c:=_}:Kc f178 [5]).1
def Rk:Fo prog 178 f178 Ms:=.mk func178
def Ng:RB:=({c:=_}:Kc f179).1
def OX:Fo prog 179 f179 Ng:=.mk func179
def Mx:RB:=({c:=_}:Kc f180).1
def P0:Fo prog 180 f180 Mx:=.mk func180
def Mz:RB:=({c:=_}:Kc f181).1
def Ql:Fo prog 181 f181 Mz:=.mk func181
def MG:RB:=({c:=_}:Kc f182).1
def PZ:Fo prog 182 f182 MG:=.mk func182
def LM:RB:=({c:=_}:Kc f183).1
def PQ:Fo prog 183 f183 LM:=.mk func183
def NA:RB:=({c:=_}:Kc f184).1
def Qz:Fo prog 184 f184 NA:=.mk func184
def N1:RB:=({c:=_}:Kc f185).1
def P8:Fo prog 185 f185 N1:=.mk func185
def Ny:RB:=({c:=_}:Kc f186).1
def PB:Fo prog 186 f186 Ny:=.mk func186
def MW:RB:=({c:=_}:Kc f187).1
def PS:Fo prog 187 f187 MW:=.mk func187
def Ly:RB:=({c:=_}:Kc f188).1
def QD:Fo prog 188 f188 Ly:=.mk func188
def Oj:RB:=({c:=_}:Kc f189).1
def QE:Fo prog 189 f189 Oj:=.mk func189
def My:RB:=({c:=_}:Kc f190).1
def MV:Fo prog 190 f190 My:=.mk func190
def Nr:RB:=({c:=_}:Kc f191).1
def Qb:Fo prog 191 f191 Nr:=.mk func191
def MZ:RB:=({c:=_}:Kc f192).1
def Qx:Fo prog 192 f192 MZ:=.mk func192
def NI:RB:=({c:=_}:Kc f193).1
def Rt:Fo prog 193 f193 NI:=.mk func193
def LR:RB:=({c:=_}:Kc f194).1
def Qu:Fo prog 194 f194 LR:=.mk func194
def Nj:RB:=({c:=_}:Kc f195).1
def PX:Fo prog 195 f195 Nj:=.mk func195
def Oy:RB:=({c:=_}:Kc f196).1
def OR:Fo prog 196 f196 Oy:=.mk func196
def OM:RB:=({c:=_}:Kc f197).1
def Q6:Fo prog 197 f197 OM:=.mk func197
def HD:RB:=({c:=_}:Kc f198).1
def Ry:Fo prog 198 f198 HD:=.mk func198
def M7:RB:=({c:=_}:Kc f199).1
def Pz:Fo prog 199 f199 M7:=.mk func199
def LN:RB:=({c:=_}:Kc f200).1
def Q2:Fo prog 200 f200 LN:=.mk func200
def N0:RB:=({c:=_}:Kc f201).1
def O5:Fo prog 201 f201 N0:=.mk func201
def KJ:RB:=({c:=_}:Kc f202).1
def QB:Fo prog 202 f202 KJ:=.mk func202
def N3:RB:=({c:=_}:Kc f203).1
def O2:Fo prog 203 f203 N3:=.mk func203
def NB:RB:=({c:=_}:Kc f204).1
def QI:Fo prog 204 f204 NB:=.mk func204
def NW:RB:=({c:=_}:Kc f205).1
def QR:Fo prog 205 f205 NW:=.mk func205
def NP:RB:=({c:=_}:Kc f206).1
def O3:Fo prog 206 f206 NP:=.mk func206
def Ot:RB:=({c:=_}:Kc f207).1
def Q1:Fo prog 207 f207 Ot:=.mk func207
def LC:RB:=({c:=_}:Kc f208).1
def Py:Fo prog 208 f208 LC:=.mk func208
def ND:RB:=({c:=_}:Kc f209).1
def Qw:Fo prog 209 f209 ND:=.mk func209
def MA:RB:=({c:=_}:Kc f210).1
def Rj:Fo prog 210 f210 MA:=.mk func210
def NM:RB:=({c:=_}:Kc f211).1
def Q9:Fo prog 211 f211 NM:=.mk func211
def MC:RB:=({c:=_}:Kc f212).1
def Qd:Fo prog 212 f212 MC:=.mk func212
def Hw:RB:=({c:=_}:Kc f213).1
def QK:Fo prog 213 f213 Hw:=.mk func213
def LU:RB:=({c:=_}:Kc f214).1
def OQ:Fo prog 214 f214 LU:=.mk func214
def MU:RB:=({c:=_}:Kc f215).1
def Pw:Fo prog 215 f215 MU:=.mk func215
def Mb:RB:=({c:=_}:Kc f216).1
def Rl:Fo prog 216 f216 Mb:=.mk func216
def JP:RB:=({c:=_}:Kc f217).1
def QX:Fo prog 217 f217 JP:=.mk func217
def Nf:RB:=({c:=_}:Kc f218).1
def Pt:Fo prog 218 f218 Nf:=.mk func218
def Oe:RB:=({c:=_}:Kc f219).1
def Qk:Fo prog 219 f219 Oe:=.mk func219
def Mj:RB:=({c:=_}:Kc f220).1
def QC:Fo prog 220 f220 Mj:=.mk func220
def Mt:RB:=({c:=_}:Kc f221).1
def Rx:Fo prog 221 f221 Mt:=.mk func221
def L6:RB:=({c:=_}:Kc f222).1
def Qc:Fo prog 222 f222 L6:=.mk func222
def NZ:RB:=({c:=_}:Kc f223).1
def OZ:Fo prog 223 f223 NZ:=.mk func223
def Mk:RB:=({c:=_}:Kc f224).1
def QN:Fo prog 224 f224 Mk:=.mk func224
def Mi:RB:=({c:=_}:Kc f225).1
def P9:Fo prog 225 f225 Mi:=.mk func225
def Nx:RB:=({c:=_}:Kc f226).1
def OT:Fo prog 226 f226 Nx:=.mk func226
def Oa:RB:=({c:=_}:Kc f227).1
def Pm:Fo prog 227 f227 Oa:=.mk func227
def LW:RB:=({c:=_}:Kc f228).1
def Rr:Fo prog 228 f228 LW:=.mk func228
def OE:RB:=({c:=_}:Kc f229).1
def QJ:Fo prog 229 f229 OE:=.mk func229
def I1:RB:=({c:=_}:Kc f230).1
def QQ:Fo prog 230 f230 I1:=.mk func230
def KO:RB:=({c:=_}:Kc f231).1
def Q0:Fo prog 231 f231 KO:=.mk func231
def Mw:RB:=({c:=_}:Kc f232 [8]).1
def Q4:Fo prog 232 f232 Mw:=.mk func232
def N7:RB:=({c:=_}:Kc f233).1
def OO:Fo prog 233 f233 N7:=.mk func233
def L3:RB:=({c:=_}:Kc f234).1
def Ra:Fo prog 234 f234 L3:=.mk func234
def KG:RB:=({c:=_}:Kc f235).1
def QF:Fo prog 235 f235 KG:=.mk func235
def L4:RB:=({c:=_}:Kc f236).1
def PU:Fo prog 236 f236 L4:=.mk func236
def Nw:RB:=({c:=_}:Kc f237).1
def Nu:Fo prog 237 f237 Nw:=.mk func237
def Np:RB:=({c:=_}:Kc f238).1
def Qj:Fo prog 238 f238 Np:=.mk func238
def NV:RB:=({c:=_}:Kc f239).1
def OW:Fo prog 239 f239 NV:=.mk func239
def Ns:RB:=({c:=_}:Kc f240).1
def P7:Fo prog 240 f240 Ns:=.mk func240
def MT:RB:=({c:=_}:Kc f241).1
def QW:Fo prog 241 f241 MT:=.mk func241
def L9:RB:=({c:=_}:Kc f242).1
def Rh:Fo prog 242 f242 L9:=.mk func242
def Nn:RB:=({c:=_}:Kc f243).1
def Pk:Fo prog 243 f243 Nn:=.mk func243
def Om:RB:=({c:=_}:Kc f244).1
def PI:Fo prog 244 f244 Om:=.mk func244
def Ou:RB:=({c:=_}:Kc f245).1
def Ro:Fo prog 245 f245 Ou:=.mk func245
def LP:RB:=({c:=_}:Kc f246).1
def QZ:Fo prog 246 f246 LP:=.mk func246
def Ma:RB:=({c:=_}:Kc f247).1
def L7:Fo prog 247 f247 Ma:=.mk func247
def LK:RB:=({c:=_}:Kc f248).1
def Pa:Fo prog 248 f248 LK:=.mk func248
def LZ:RB:=({c:=_}:Kc f249).1
def Ox:Fo prog 249 f249 LZ:=.mk func249
def NH:RB:=({c:=_}:Kc f250).1
def QP:Fo prog 250 f250 NH:=.mk func250
end Go.Vc
