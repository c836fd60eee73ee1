/- Part 3 of the library of this proof. -/
import Derived.Test.YtjladbkbleghlaaGreatW2
import Derived.Test.YtjladbkbleghlaaGreatProg
import Derived.KernelRfl
set_option linter.all false
set_option maxHeartbeats 8000000
namespace Go.Vc
open Go.Proofs Go.Proofs.Tryz
section
variable (P:Program) (n:Nat) (L:List Nat)
def l8:Code->bM
 |.skip=>.skip
 |.region id ops draw=>if L.contains (id*2)then .xG ((ops.toList.take (ops.size-1)).map (bT P n ops)) ((ops.toList.drop (ops.size-1)).map (bT P n ops))else if L.contains (id*2+1)then .Uv (ops.toList.map (bT P n ops)) (ops.toList.map λo=>(o.after.toList.filter (Region.binds .any)).map (·.on))else .TB draw (ops.toList.map (bT P n ops))
 |.seq a b=>.seq (l8 a) (l8 b)
 |.cond c a b=>.cond (cx n c) (l8 a) (l8 b)
 |.block id a=>.block id (l8 a)
 |.loop a=>.loop (l8 a)
 |.exit id=>.exit id
 |.ret=>.ret
 |.rangeFunc g ps a c=>.fk (cx n g) ps.toList (l8 a) (l8 c)
 |_=>.bad
end
def Nu(P:Program)(fn:Func)(L:List Nat):PJ:=match fn.body with
 |some c=>⟨fn.ntmps,l8 P fn.ntmps L c,fn.results.toList.map (yR P fn.ntmps)⟩
 |none=>⟨0,.skip,[]⟩
structure Kc(fn:Func)(L:List Nat:=[]) where
 c:PJ
 h:Nu prog fn L=c:=by conv=>lhs;cbv
set_option cbv.maxSteps 1000000000
set_option maxRecDepth 1000000
def c4:PJ:=({c:=_}:Kc f4).1
def e4:Fo prog 4 f4 c4:=.mk func4
def c5:PJ:=({c:=_}:Kc f5).1
def e5:Fo prog 5 f5 c5:=.mk func5
def c6:PJ:=({c:=_}:Kc f6).1
def e6:Fo prog 6 f6 c6:=.mk func6
def c7:PJ:=({c:=_}:Kc f7 [11]).1
def e7:Fo prog 7 f7 c7:=.mk func7
def c8:PJ:=({c:=_}:Kc f8).1
def e8:Fo prog 8 f8 c8:=.mk func8
def c9:PJ:=({c:=_}:Kc f9 [37]).1
def e9:Fo prog 9 f9 c9:=.mk func9
def c10:PJ:=({c:=_}:Kc f10).1
def e10:Fo prog 10 f10 c10:=.mk func10
def c12:PJ:=({c:=_}:Kc f12).1
def e12:Fo prog 12 f12 c12:=.mk func12
def c13:PJ:=({c:=_}:Kc f13).1
def e13:Fo prog 13 f13 c13:=.mk func13
def c14:PJ:=({c:=_}:Kc f14).1
def e14:Fo prog 14 f14 c14:=.mk func14
def c15:PJ:=({c:=_}:Kc f15).1
def e15:Fo prog 15 f15 c15:=.mk func15
def c16:PJ:=({c:=_}:Kc f16).1
def e16:Fo prog 16 f16 c16:=.mk func16
def c17:PJ:=({c:=_}:Kc f17).1
def e17:Fo prog 17 f17 c17:=.mk func17
def c18:PJ:=({c:=_}:Kc f18).1
def e18:Fo prog 18 f18 c18:=.mk func18
def c19:PJ:=({c:=_}:Kc f19 [15]).1
def e19:Fo prog 19 f19 c19:=.mk func19
def c20:PJ:=({c:=_}:Kc f20 [7]).1
def e20:Fo prog 20 f20 c20:=.mk func20
def c21:PJ:=({c:=_}:Kc f21).1
def e21:Fo prog 21 f21 c21:=.mk func21
def c22:PJ:=({c:=_}:Kc f22).1
def e22:Fo prog 22 f22 c22:=.mk func22
def c23:PJ:=({c:=_}:Kc f23).1
def e23:Fo prog 23 f23 c23:=.mk func23
def c24:PJ:=({c:=_}:Kc f24).1
def ZO:Fo prog 24 f24 c24:=.mk func24
def c25:PJ:=({c:=_}:Kc f25 [11]).1
def e25:Fo prog 25 f25 c25:=.mk func25
def c26:PJ:=({c:=_}:Kc f26).1
def e26:Fo prog 26 f26 c26:=.mk func26
def c27:PJ:=({c:=_}:Kc f27).1
def e27:Fo prog 27 f27 c27:=.mk func27
def c28:PJ:=({c:=_}:Kc f28).1
def e28:Fo prog 28 f28 c28:=.mk func28
def c29:PJ:=({c:=_}:Kc f29).1
def e29:Fo prog 29 f29 c29:=.mk func29
def c30:PJ:=({c:=_}:Kc f30).1
def e30:Fo prog 30 f30 c30:=.mk func30
def c31:PJ:=({c:=_}:Kc f31).1
def e31:Fo prog 31 f31 c31:=.mk func31
def c32:PJ:=({c:=_}:Kc f32).1
def e32:Fo prog 32 f32 c32:=.mk func32
def c33:PJ:=({c:=_}:Kc f33 [27]).1
def e33:Fo prog 33 f33 c33:=.mk func33
def c34:PJ:=({c:=_}:Kc f34).1
def e34:Fo prog 34 f34 c34:=.mk func34
def c35:PJ:=({c:=_}:Kc f35).1
def e35:Fo prog 35 f35 c35:=.mk func35
def c36:PJ:=({c:=_}:Kc f36).1
def e36:Fo prog 36 f36 c36:=.mk func36
def c37:PJ:=({c:=_}:Kc f37).1
def e37:Fo prog 37 f37 c37:=.mk func37
def c38:PJ:=({c:=_}:Kc f38).1
def e38:Fo prog 38 f38 c38:=.mk func38
def c39:PJ:=({c:=_}:Kc f39).1
def e39:Fo prog 39 f39 c39:=.mk func39
def c40:PJ:=({c:=_}:Kc f40).1
def e40:Fo prog 40 f40 c40:=.mk func40
def c41:PJ:=({c:=_}:Kc f41).1
def e41:Fo prog 41 f41 c41:=.mk func41
def c42:PJ:=({c:=_}:Kc f42).1
def e42:Fo prog 42 f42 c42:=.mk func42
def c43:PJ:=({c:=_}:Kc f43).1
def e43:Fo prog 43 f43 c43:=.mk func43
def c44:PJ:=({c:=_}:Kc f44).1
def e44:Fo prog 44 f44 c44:=.mk func44
def c45:PJ:=({c:=_}:Kc f45).1
def e45:Fo prog 45 f45 c45:=.mk func45
def c46:PJ:=({c:=_}:Kc f46).1
def e46:Fo prog 46 f46 c46:=.mk func46
def c47:PJ:=({c:=_}:Kc f47).1
def e47:Fo prog 47 f47 c47:=.mk func47
def c48:PJ:=({c:=_}:Kc f48).1
def e48:Fo prog 48 f48 c48:=.mk func48
def c49:PJ:=({c:=_}:Kc f49).1
def e49:Fo prog 49 f49 c49:=.mk func49
def c50:PJ:=({c:=_}:Kc f50).1
def e50:Fo prog 50 f50 c50:=.mk func50
def c51:PJ:=({c:=_}:Kc f51).1
def e51:Fo prog 51 f51 c51:=.mk func51
def c52:PJ:=({c:=_}:Kc f52).1
def e52:Fo prog 52 f52 c52:=.mk func52
def c53:PJ:=({c:=_}:Kc f53).1
def e53:Fo prog 53 f53 c53:=.mk func53
def c54:PJ:=({c:=_}:Kc f54).1
def e54:Fo prog 54 f54 c54:=.mk func54
def c55:PJ:=({c:=_}:Kc f55).1
def e55:Fo prog 55 f55 c55:=.mk func55
def c56:PJ:=({c:=_}:Kc f56).1
def e56:Fo prog 56 f56 c56:=.mk func56
def c57:PJ:=({c:=_}:Kc f57).1
def e57:Fo prog 57 f57 c57:=.mk func57
def c58:PJ:=({c:=_}:Kc f58).1
def e58:Fo prog 58 f58 c58:=.mk func58
def c59:PJ:=({c:=_}:Kc f59).1
def e59:Fo prog 59 f59 c59:=.mk func59
def c60:PJ:=({c:=_}:Kc f60).1
def e60:Fo prog 60 f60 c60:=.mk func60
def c61:PJ:=({c:=_}:Kc f61).1
def e61:Fo prog 61 f61 c61:=.mk func61
def c62:PJ:=({c:=_}:Kc f62).1
def e62:Fo prog 62 f62 c62:=.mk func62
def c63:PJ:=({c:=_}:Kc f63 [15,31,35]).1
def e63:Fo prog 63 f63 c63:=.mk func63
def c64:PJ:=({c:=_}:Kc f64).1
def e64:Fo prog 64 f64 c64:=.mk func64
def c65:PJ:=({c:=_}:Kc f65).1
def e65:Fo prog 65 f65 c65:=.mk func65
def c66:PJ:=({c:=_}:Kc f66).1
def e66:Fo prog 66 f66 c66:=.mk func66
def c67:PJ:=({c:=_}:Kc f67).1
def e67:Fo prog 67 f67 c67:=.mk func67
def c68:PJ:=({c:=_}:Kc f68).1
def e68:Fo prog 68 f68 c68:=.mk func68
def c69:PJ:=({c:=_}:Kc f69).1
def e69:Fo prog 69 f69 c69:=.mk func69
def c70:PJ:=({c:=_}:Kc f70).1
def e70:Fo prog 70 f70 c70:=.mk func70
def c71:PJ:=({c:=_}:Kc f71).1
def e71:Fo prog 71 f71 c71:=.mk func71
def c72:PJ:=({c:=_}:Kc f72).1
def e72:Fo prog 72 f72 c72:=.mk func72
def c73:PJ:=({c:=_}:Kc f73).1
def e73:Fo prog 73 f73 c73:=.mk func73
def c74:PJ:=({c:=_}:Kc f74).1
def e74:Fo prog 74 f74 c74:=.mk func74
def c75:PJ:=({c:=_}:Kc f75).1
def e75:Fo prog 75 f75 c75:=.mk func75
def c76:PJ:=({c:=_}:Kc f76).1
def e76:Fo prog 76 f76 c76:=.mk func76
def c77:PJ:=({c:=_}:Kc f77).1
def e77:Fo prog 77 f77 c77:=.mk func77
def c78:PJ:=({c:=_}:Kc f78).1
def e78:Fo prog 78 f78 c78:=.mk func78
def c79:PJ:=({c:=_}:Kc f79).1
def e79:Fo prog 79 f79 c79:=.mk func79
def c80:PJ:=({c:=_}:Kc f80).1
def e80:Fo prog 80 f80 c80:=.mk func80
def c81:PJ:=({c:=_}:Kc f81).1
def e81:Fo prog 81 f81 c81:=.mk func81
def c82:PJ:=({c:=_}:Kc f82).1
def e82:Fo prog 82 f82 c82:=.mk func82
def c83:PJ:=({c:=_}:Kc f83).1
def e83:Fo prog 83 f83 c83:=.mk func83
def c84:PJ:=({c:=_}:Kc f84).1
def e84:Fo prog 84 f84 c84:=.mk func84
def c85:PJ:=({c:=_}:Kc f85).1
def e85:Fo prog 85 f85 c85:=.mk func85
def c86:PJ:=({c:=_}:Kc f86).1
def e86:Fo prog 86 f86 c86:=.mk func86
def c87:PJ:=({c:=_}:Kc f87).1
def e87:Fo prog 87 f87 c87:=.mk func87
def c88:PJ:=({c:=_}:Kc f88).1
def e88:Fo prog 88 f88 c88:=.mk func88
def c89:PJ:=({c:=_}:Kc f89).1
def e89:Fo prog 89 f89 c89:=.mk func89
def c90:PJ:=({c:=_}:Kc f90).1
def e90:Fo prog 90 f90 c90:=.mk func90
def c91:PJ:=({c:=_}:Kc f91).1
def e91:Fo prog 91 f91 c91:=.mk func91
def c92:PJ:=({c:=_}:Kc f92).1
def e92:Fo prog 92 f92 c92:=.mk func92
def c93:PJ:=({c:=_}:Kc f93).1
def e93:Fo prog 93 f93 c93:=.mk func93
def c94:PJ:=({c:=_}:Kc f94).1
def e94:Fo prog 94 f94 c94:=.mk func94
def c95:PJ:=({c:=_}:Kc f95).1
def e95:Fo prog 95 f95 c95:=.mk func95
def c96:PJ:=({c:=_}:Kc f96).1
def e96:Fo prog 96 f96 c96:=.mk func96
def c97:PJ:=({c:=_}:Kc f97).1
def e97:Fo prog 97 f97 c97:=.mk func97
def c98:PJ:=({c:=_}:Kc f98).1
def e98:Fo prog 98 f98 c98:=.mk func98
def c99:PJ:=({c:=_}:Kc f99 [9]).1
def e99:Fo prog 99 f99 c99:=.mk func99
def Md:PJ:=({c:=_}:Kc f100).1
def Pz:Fo prog 100 f100 Md:=.mk func100
def Mm:PJ:=({c:=_}:Kc f101 [11]).1
def O7:Fo prog 101 f101 Mm:=.mk func101
def Jr:PJ:=({c:=_}:Kc f102).1
def NL:Fo prog 102 f102 Jr:=.mk func102
def Ki:PJ:=({c:=_}:Kc f103).1
def NI:Fo prog 103 f103 Ki:=.mk func103
def LR:PJ:=({c:=_}:Kc f104).1
def NY:Fo prog 104 f104 LR:=.mk func104
def LG:PJ:=({c:=_}:Kc f105).1
def O3:Fo prog 105 f105 LG:=.mk func105
def Kf:PJ:=({c:=_}:Kc f106).1
def O4:Fo prog 106 f106 Kf:=.mk func106
def LB:PJ:=({c:=_}:Kc f107).1
def OC:Fo prog 107 f107 LB:=.mk func107
def JB:PJ:=({c:=_}:Kc f108).1
def M9:Fo prog 108 f108 JB:=.mk func108
def KO:PJ:=({c:=_}:Kc f109).1
def OG:Fo prog 109 f109 KO:=.mk func109
def JS:PJ:=({c:=_}:Kc f110).1
def OL:Fo prog 110 f110 JS:=.mk func110
def LP:PJ:=({c:=_}:Kc f111).1
def Pg:Fo prog 111 f111 LP:=.mk func111
def FV:PJ:=({c:=_}:Kc f112).1
def NU:Fo prog 112 f112 FV:=.mk func112
def LH:PJ:=({c:=_}:Kc f113).1
def Oj:Fo prog 113 f113 LH:=.mk func113
def Mg:PJ:=({c:=_}:Kc f114).1
def Ow:Fo prog 114 f114 Mg:=.mk func114
def Mb:PJ:=({c:=_}:Kc f115).1
def Nq:Fo prog 115 f115 Mb:=.mk func115
def Lr:PJ:=({c:=_}:Kc f116 [12]).1
def Oa:Fo prog 116 f116 Lr:=.mk func116
def JY:PJ:=({c:=_}:Kc f117 [9,13]).1
def Oh:Fo prog 117 f117 JY:=.mk func117
def Kx:PJ:=({c:=_}:Kc f118).1
def OH:Fo prog 118 f118 Kx:=.mk func118
def Kz:PJ:=({c:=_}:Kc f119 [3]).1
def OI:Fo prog 119 f119 Kz:=.mk func119
def Kr:PJ:=({c:=_}:Kc f120 [5]).1
def PC:Fo prog 120 f120 Kr:=.mk func120
def JO:PJ:=({c:=_}:Kc f121).1
def OR:Fo prog 121 f121 JO:=.mk func121
def Kh:PJ:=({c:=_}:Kc f122).1
def NW:Fo prog 122 f122 Kh:=.mk func122
def Jj:PJ:=({c:=_}:Kc f123).1
def O8:Fo prog 123 f123 Jj:=.mk func123
def Jw:PJ:=({c:=_}:Kc f124).1
def Of:Fo prog 124 f124 Jw:=.mk func124
def KK:PJ:=({c:=_}:Kc f125).1
def Pe:Fo prog 125 f125 KK:=.mk func125
def J6:PJ:=({c:=_}:Kc f126).1
def NA:Fo prog 126 f126 J6:=.mk func126
def KL:PJ:=({c:=_}:Kc f127).1
def N7:Fo prog 127 f127 KL:=.mk func127
def E1:PJ:=({c:=_}:Kc f128 [5]).1
def Pv:Fo prog 128 f128 E1:=.mk func128
def JF:PJ:=({c:=_}:Kc f129 [11]).1
def NQ:Fo prog 129 f129 JF:=.mk func129
def Jt:PJ:=({c:=_}:Kc f130).1
def O9:Fo prog 130 f130 Jt:=.mk func130
def Lz:PJ:=({c:=_}:Kc f131).1
def Nz:Fo prog 131 f131 Lz:=.mk func131
def Kg:PJ:=({c:=_}:Kc f132).1
def Oo:Fo prog 132 f132 Kg:=.mk func132
def L5:PJ:=({c:=_}:Kc f133).1
def MS:Fo prog 133 f133 L5:=.mk func133
def KG:PJ:=({c:=_}:Kc f134).1
def Pp:Fo prog 134 f134 KG:=.mk func134
def KJ:PJ:=({c:=_}:Kc f135).1
def NF:Fo prog 135 f135 KJ:=.mk func135
def Mr:PJ:=({c:=_}:Kc f136).1
def Px:Fo prog 136 f136 Mr:=.mk func136
def KD:PJ:=({c:=_}:Kc f137).1
def Py:Fo prog 137 f137 KD:=.mk func137
def Mf:PJ:=({c:=_}:Kc f138).1
def Pq:Fo prog 138 f138 Mf:=.mk func138
def JI:PJ:=({c:=_}:Kc f139).1
def O1:Fo prog 139 f139 JI:=.mk func139
def LV:PJ:=({c:=_}:Kc f140).1
def PB:Fo prog 140 f140 LV:=.mk func140
def LY:PJ:=({c:=_}:Kc f141).1
def Po:Fo prog 141 f141 LY:=.mk func141
def L9:PJ:=({c:=_}:Kc f142 [5]).1
def Nt:Fo prog 142 f142 L9:=.mk func142
def LU:PJ:=({c:=_}:Kc f143 [9]).1
def O5:Fo prog 143 f143 LU:=.mk func143
def Jl:PJ:=({c:=_}:Kc f144 [5]).1
def OD:Fo prog 144 f144 Jl:=.mk func144
def Jz:PJ:=({c:=_}:Kc f145).1
def NO:Fo prog 145 f145 Jz:=.mk func145
def Lp:PJ:=({c:=_}:Kc f146).1
def PD:Fo prog 146 f146 Lp:=.mk func146
def JT:PJ:=({c:=_}:Kc f147).1
def Nv:Fo prog 147 f147 JT:=.mk func147
def K8:PJ:=({c:=_}:Kc f148).1
def NM:Fo prog 148 f148 K8:=.mk func148
def LS:PJ:=({c:=_}:Kc f149).1
def NV:Fo prog 149 f149 LS:=.mk func149
def My:PJ:=({c:=_}:Kc f150).1
def Pu:Fo prog 150 f150 My:=.mk func150
def K5:PJ:=({c:=_}:Kc f151).1
def Ou:Fo prog 151 f151 K5:=.mk func151
def Ku:PJ:=({c:=_}:Kc f152).1
def O2:Fo prog 152 f152 Ku:=.mk func152
def Mp:PJ:=({c:=_}:Kc f153).1
def NC:Fo prog 153 f153 Mp:=.mk func153
def Mj:PJ:=({c:=_}:Kc f154).1
def Oz:Fo prog 154 f154 Mj:=.mk func154
def Mc:PJ:=({c:=_}:Kc f155).1
def NG:Fo prog 155 f155 Mc:=.mk func155
def Kw:PJ:=({c:=_}:Kc f156).1
def NK:Fo prog 156 f156 Kw:=.mk func156
def KN:PJ:=({c:=_}:Kc f157).1
def ND:Fo prog 157 f157 KN:=.mk func157
def JQ:PJ:=({c:=_}:Kc f158).1
def OY:Fo prog 158 f158 JQ:=.mk func158
def J9:PJ:=({c:=_}:Kc f159).1
def Nw:Fo prog 159 f159 J9:=.mk func159
def Ht:PJ:=({c:=_}:Kc f160).1
def Ny:Fo prog 160 f160 Ht:=.mk func160
def Kk:PJ:=({c:=_}:Kc f161).1
def OB:Fo prog 161 f161 Kk:=.mk func161
def K6:PJ:=({c:=_}:Kc f162).1
def N6:Fo prog 162 f162 K6:=.mk func162
def Kl:PJ:=({c:=_}:Kc f163).1
def OE:Fo prog 163 f163 Kl:=.mk func163
def Ma:PJ:=({c:=_}:Kc f164).1
def N5:Fo prog 164 f164 Ma:=.mk func164
def JL:PJ:=({c:=_}:Kc f165).1
def Pt:Fo prog 165 f165 JL:=.mk func165
def Kt:PJ:=({c:=_}:Kc f166).1
def Pm:Fo prog 166 f166 Kt:=.mk func166
def JV:PJ:=({c:=_}:Kc f167).1
def OO:Fo prog 167 f167 JV:=.mk func167
def Ko:PJ:=({c:=_}:Kc f168).1
def Ox:Fo prog 168 f168 Ko:=.mk func168
def Me:PJ:=({c:=_}:Kc f169).1
def Oc:Fo prog 169 f169 Me:=.mk func169
def Ji:PJ:=({c:=_}:Kc f170).1
def O6:Fo prog 170 f170 Ji:=.mk func170
def E2:PJ:=({c:=_}:Kc f171).1
def NS:Fo prog 171 f171 E2:=.mk func171
def JD:PJ:=({c:=_}:Kc f172).1
def NN:Fo prog 172 f172 JD:=.mk func172
def Mn:PJ:=({c:=_}:Kc f173).1
def OW:Fo prog 173 f173 Mn:=.mk func173
def Mv:PJ:=({c:=_}:Kc f174).1
def OP:Fo prog 174 f174 Mv:=.mk func174
def Iu:PJ:=({c:=_}:Kc f175).1
def N8:Fo prog 175 f175 Iu:=.mk func175
def KV:PJ:=({c:=_}:Kc f176).1
def OU:Fo prog 176 f176 KV:=.mk func176
def JP:PJ:=({c:=_}:Kc f177).1
def PA:Fo prog 177 f177 JP:=.mk func177
def Jq:PJ:=({c:=_}:Kc f178).1
def ON:Fo prog 178 f178 Jq:=.mk func178
def Mx:PJ:=({c:=_}:Kc f179).1
def NR:Fo prog 179 f179 Mx:=.mk func179
def KS:PJ:=({c:=_}:Kc f180).1
def OM:Fo prog 180 f180 KS:=.mk func180
def Lu:PJ:=({c:=_}:Kc f181).1
def Ot:Fo prog 181 f181 Lu:=.mk func181
def Mt:PJ:=({c:=_}:Kc f182).1
def O0:Fo prog 182 f182 Mt:=.mk func182
def Ms:PJ:=({c:=_}:Kc f183).1
def OZ:Fo prog 183 f183 Ms:=.mk func183
def Lt:PJ:=({c:=_}:Kc f184).1
def NT:Fo prog 184 f184 Lt:=.mk func184
def L3:PJ:=({c:=_}:Kc f185).1
def NB:Fo prog 185 f185 L3:=.mk func185
def J0:PJ:=({c:=_}:Kc f186).1
def NJ:Fo prog 186 f186 J0:=.mk func186
def Jy:PJ:=({c:=_}:Kc f187).1
def OV:Fo prog 187 f187 Jy:=.mk func187
def LJ:PJ:=({c:=_}:Kc f188).1
def OT:Fo prog 188 f188 LJ:=.mk func188
def JW:PJ:=({c:=_}:Kc f189).1
def N9:Fo prog 189 f189 JW:=.mk func189
def Fk:PJ:=({c:=_}:Kc f190).1
def OA:Fo prog 190 f190 Fk:=.mk func190
def IH:PJ:=({c:=_}:Kc f191).1
def OF:Fo prog 191 f191 IH:=.mk func191
def Lv:PJ:=({c:=_}:Kc f192 [8]).1
def Pc:Fo prog 192 f192 Lv:=.mk func192
def K2:PJ:=({c:=_}:Kc f193).1
def N2:Fo prog 193 f193 K2:=.mk func193
def LQ:PJ:=({c:=_}:Kc f194).1
def Oq:Fo prog 194 f194 LQ:=.mk func194
def Ha:PJ:=({c:=_}:Kc f195).1
def N4:Fo prog 195 f195 Ha:=.mk func195
def LN:PJ:=({c:=_}:Kc f196).1
def Pf:Fo prog 196 f196 LN:=.mk func196
def LC:PJ:=({c:=_}:Kc f197).1
def MT:Fo prog 197 f197 LC:=.mk func197
def JE:PJ:=({c:=_}:Kc f198).1
def Pd:Fo prog 198 f198 JE:=.mk func198
def KZ:PJ:=({c:=_}:Kc f199).1
def MN:Fo prog 199 f199 KZ:=.mk func199
def LA:PJ:=({c:=_}:Kc f200).1
def Oe:Fo prog 200 f200 LA:=.mk func200
def JZ:PJ:=({c:=_}:Kc f201).1
def NP:Fo prog 201 f201 JZ:=.mk func201
def JR:PJ:=({c:=_}:Kc f202).1
def Ph:Fo prog 202 f202 JR:=.mk func202
def Lk:PJ:=({c:=_}:Kc f203).1
def Pb:Fo prog 203 f203 Lk:=.mk func203
def JM:PJ:=({c:=_}:Kc f204).1
def N1:Fo prog 204 f204 JM:=.mk func204
def Lq:PJ:=({c:=_}:Kc f205).1
def OQ:Fo prog 205 f205 Lq:=.mk func205
def Km:PJ:=({c:=_}:Kc f206).1
def N0:Fo prog 206 f206 Km:=.mk func206
def J3:PJ:=({c:=_}:Kc f207).1
def Ol:Fo prog 207 f207 J3:=.mk func207
def KA:PJ:=({c:=_}:Kc f208).1
def NH:Fo prog 208 f208 KA:=.mk func208
def LX:PJ:=({c:=_}:Kc f209).1
def Pw:Fo prog 209 f209 LX:=.mk func209
def K9:PJ:=({c:=_}:Kc f210).1
def N3:Fo prog 210 f210 K9:=.mk func210
def KB:PJ:=({c:=_}:Kc f211).1
def Nb:Fo prog 211 f211 KB:=.mk func211
def Jm:PJ:=({c:=_}:Kc f212).1
def Pj:Fo prog 212 f212 Jm:=.mk func212
def JA:PJ:=({c:=_}:Kc f213).1
def MB:Fo prog 213 f213 JA:=.mk func213
def KW:PJ:=({c:=_}:Kc f214).1
def Ps:Fo prog 214 f214 KW:=.mk func214
def La:PJ:=({c:=_}:Kc f215).1
def Pa:Fo prog 215 f215 La:=.mk func215
end Go.Vc
