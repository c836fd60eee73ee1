import Derived.Test.YtinojdikhfbfbaaGreatW2
import Derived.Test.YtinojdikhfbfbaaGreatProg
import Derived.KernelRfl
set_option linter.all false
set_option maxHeartbeats 8000000
open Go.Proofs.Tryz
namespace Go.Vc
open Go.Proofs
section
variable (P:Program) (n:Nat) (L:List Nat)
def mE:Code->bV
 |.skip=>.skip
 |.region id ops draw=>if L.contains (id*2)then .xQ ((ops.toList.take (ops.size-1)).map (bO P n ops)) ((ops.toList.drop (ops.size-1)).map (bO P n ops))else if L.contains (id*2+1)then .WY (ops.toList.map (bO P n ops)) (ops.toList.map λo=>(o.after.toList.filter (Region.binds .any)).map (·.on))else .Wb draw (ops.toList.map (bO P n ops))
 |.seq a b=>.seq (mE a) (mE b)
 |.cond c a b=>.cond (cx n c) (mE a) (mE b)
 |.block id a=>.block id (mE a)
 |.loop a=>.loop (mE a)
 |.exit id=>.exit id
 |.ret=>.ret
 |.rangeFunc g ps a c=>.gX (cx n g) ps.toList (mE a) (mE c)
 |_=>.bad
end
def PJ(P:Program)(fn:Func)(L:List Nat):RY:=match fn.body with
 |some c=>⟨fn.ntmps,mE P fn.ntmps L c,fn.results.toList.map (y6 P fn.ntmps)⟩
 |none=>⟨0,.skip,[]⟩
structure Kc(fn:Func)(L:List Nat:=[]) where
 c:RY
 h:PJ prog fn L=c:=by conv=>lhs;cbv
set_option cbv.maxSteps 1000000000
set_option maxRecDepth 1000000
def c4:RY:=({c:=_}:Kc f4).1
def e4:Fo prog 4 f4 c4:=.mk func4
def c6:RY:=({c:=_}:Kc f6).1
def e6:Fo prog 6 f6 c6:=.mk func6
def c7:RY:=({c:=_}:Kc f7).1
def e7:Fo prog 7 f7 c7:=.mk func7
def c8:RY:=({c:=_}:Kc f8).1
def e8:Fo prog 8 f8 c8:=.mk func8
def c10:RY:=({c:=_}:Kc f10).1
def e10:Fo prog 10 f10 c10:=.mk func10
def c11:RY:=({c:=_}:Kc f11).1
def e11:Fo prog 11 f11 c11:=.mk func11
def c12:RY:=({c:=_}:Kc f12 [37]).1
def e12:Fo prog 12 f12 c12:=.mk func12
def c13:RY:=({c:=_}:Kc f13).1
def e13:Fo prog 13 f13 c13:=.mk func13
def c14:RY:=({c:=_}:Kc f14).1
def e14:Fo prog 14 f14 c14:=.mk func14
def c15:RY:=({c:=_}:Kc f15 [5]).1
def e15:Fo prog 15 f15 c15:=.mk func15
def c16:RY:=({c:=_}:Kc f16 [11]).1
def e16:Fo prog 16 f16 c16:=.mk func16
def c17:RY:=({c:=_}:Kc f17).1
def e17:Fo prog 17 f17 c17:=.mk func17
def c20:RY:=({c:=_}:Kc f20).1
def e20:Fo prog 20 f20 c20:=.mk func20
def c21:RY:=({c:=_}:Kc f21).1
def e21:Fo prog 21 f21 c21:=.mk func21
def c22:RY:=({c:=_}:Kc f22).1
def e22:Fo prog 22 f22 c22:=.mk func22
def c23:RY:=({c:=_}:Kc f23).1
def e23:Fo prog 23 f23 c23:=.mk func23
def c24:RY:=({c:=_}:Kc f24 [15]).1
def e24:Fo prog 24 f24 c24:=.mk func24
def c25:RY:=({c:=_}:Kc f25).1
def e25:Fo prog 25 f25 c25:=.mk func25
def c26:RY:=({c:=_}:Kc f26 [11]).1
def e26:Fo prog 26 f26 c26:=.mk func26
def c27:RY:=({c:=_}:Kc f27).1
def e27:Fo prog 27 f27 c27:=.mk func27
def c28:RY:=({c:=_}:Kc f28).1
def e28:Fo prog 28 f28 c28:=.mk func28
def c29:RY:=({c:=_}:Kc f29).1
def e29:Fo prog 29 f29 c29:=.mk func29
def c30:RY:=({c:=_}:Kc f30).1
def e30:Fo prog 30 f30 c30:=.mk func30
def c31:RY:=({c:=_}:Kc f31 [17]).1
def e31:Fo prog 31 f31 c31:=.mk func31
def c32:RY:=({c:=_}:Kc f32).1
def e32:Fo prog 32 f32 c32:=.mk func32
def c33:RY:=({c:=_}:Kc f33).1
def e33:Fo prog 33 f33 c33:=.mk func33
def c34:RY:=({c:=_}:Kc f34).1
def e34:Fo prog 34 f34 c34:=.mk func34
def c35:RY:=({c:=_}:Kc f35).1
def e35:Fo prog 35 f35 c35:=.mk func35
def c36:RY:=({c:=_}:Kc f36).1
def e36:Fo prog 36 f36 c36:=.mk func36
def c37:RY:=({c:=_}:Kc f37).1
def e37:Fo prog 37 f37 c37:=.mk func37
def c38:RY:=({c:=_}:Kc f38).1
def e38:Fo prog 38 f38 c38:=.mk func38
def c39:RY:=({c:=_}:Kc f39).1
def e39:Fo prog 39 f39 c39:=.mk func39
def c40:RY:=({c:=_}:Kc f40).1
def e40:Fo prog 40 f40 c40:=.mk func40
def c41:RY:=({c:=_}:Kc f41).1
def e41:Fo prog 41 f41 c41:=.mk func41
def c42:RY:=({c:=_}:Kc f42).1
def e42:Fo prog 42 f42 c42:=.mk func42
def c43:RY:=({c:=_}:Kc f43 [7]).1
def e43:Fo prog 43 f43 c43:=.mk func43
def c44:RY:=({c:=_}:Kc f44).1
def e44:Fo prog 44 f44 c44:=.mk func44
def c45:RY:=({c:=_}:Kc f45).1
def e45:Fo prog 45 f45 c45:=.mk func45
def c46:RY:=({c:=_}:Kc f46).1
def e46:Fo prog 46 f46 c46:=.mk func46
def c47:RY:=({c:=_}:Kc f47).1
def e47:Fo prog 47 f47 c47:=.mk func47
def c48:RY:=({c:=_}:Kc f48).1
def e48:Fo prog 48 f48 c48:=.mk func48
def c50:RY:=({c:=_}:Kc f50).1
def e50:Fo prog 50 f50 c50:=.mk func50
def c51:RY:=({c:=_}:Kc f51).1
def e51:Fo prog 51 f51 c51:=.mk func51
def c52:RY:=({c:=_}:Kc f52 [27]).1
def e52:Fo prog 52 f52 c52:=.mk func52
def c53:RY:=({c:=_}:Kc f53).1
def e53:Fo prog 53 f53 c53:=.mk func53
def c54:RY:=({c:=_}:Kc f54).1
def e54:Fo prog 54 f54 c54:=.mk func54
def c55:RY:=({c:=_}:Kc f55).1
def e55:Fo prog 55 f55 c55:=.mk func55
def c56:RY:=({c:=_}:Kc f56).1
def e56:Fo prog 56 f56 c56:=.mk func56
def c57:RY:=({c:=_}:Kc f57).1
def e57:Fo prog 57 f57 c57:=.mk func57
def c58:RY:=({c:=_}:Kc f58).1
def e58:Fo prog 58 f58 c58:=.mk func58
def c59:RY:=({c:=_}:Kc f59).1
def e59:Fo prog 59 f59 c59:=.mk func59
def c60:RY:=({c:=_}:Kc f60).1
def e60:Fo prog 60 f60 c60:=.mk func60
def c61:RY:=({c:=_}:Kc f61).1
def e61:Fo prog 61 f61 c61:=.mk func61
def c62:RY:=({c:=_}:Kc f62).1
def e62:Fo prog 62 f62 c62:=.mk func62
def c63:RY:=({c:=_}:Kc f63).1
def e63:Fo prog 63 f63 c63:=.mk func63
def c64:RY:=({c:=_}:Kc f64).1
def e64:Fo prog 64 f64 c64:=.mk func64
def c65:RY:=({c:=_}:Kc f65).1
def e65:Fo prog 65 f65 c65:=.mk func65
def c66:RY:=({c:=_}:Kc f66).1
def e66:Fo prog 66 f66 c66:=.mk func66
def c67:RY:=({c:=_}:Kc f67).1
def e67:Fo prog 67 f67 c67:=.mk func67
def c68:RY:=({c:=_}:Kc f68).1
def e68:Fo prog 68 f68 c68:=.mk func68
def c69:RY:=({c:=_}:Kc f69).1
def e69:Fo prog 69 f69 c69:=.mk func69
def c70:RY:=({c:=_}:Kc f70).1
def e70:Fo prog 70 f70 c70:=.mk func70
def c71:RY:=({c:=_}:Kc f71).1
def e71:Fo prog 71 f71 c71:=.mk func71
def c72:RY:=({c:=_}:Kc f72).1
def e72:Fo prog 72 f72 c72:=.mk func72
def c73:RY:=({c:=_}:Kc f73).1
def e73:Fo prog 73 f73 c73:=.mk func73
def c74:RY:=({c:=_}:Kc f74).1
def e74:Fo prog 74 f74 c74:=.mk func74
def c75:RY:=({c:=_}:Kc f75).1
def e75:Fo prog 75 f75 c75:=.mk func75
def c76:RY:=({c:=_}:Kc f76).1
def e76:Fo prog 76 f76 c76:=.mk func76
def c77:RY:=({c:=_}:Kc f77).1
def e77:Fo prog 77 f77 c77:=.mk func77
def c78:RY:=({c:=_}:Kc f78).1
def e78:Fo prog 78 f78 c78:=.mk func78
def c79:RY:=({c:=_}:Kc f79).1
def e79:Fo prog 79 f79 c79:=.mk func79
def c80:RY:=({c:=_}:Kc f80).1
def e80:Fo prog 80 f80 c80:=.mk func80
def c81:RY:=({c:=_}:Kc f81).1
def e81:Fo prog 81 f81 c81:=.mk func81
def c82:RY:=({c:=_}:Kc f82).1
def e82:Fo prog 82 f82 c82:=.mk func82
def c83:RY:=({c:=_}:Kc f83).1
def e83:Fo prog 83 f83 c83:=.mk func83
def c84:RY:=({c:=_}:Kc f84).1
def e84:Fo prog 84 f84 c84:=.mk func84
def c85:RY:=({c:=_}:Kc f85).1
def e85:Fo prog 85 f85 c85:=.mk func85
def c86:RY:=({c:=_}:Kc f86).1
def e86:Fo prog 86 f86 c86:=.mk func86
def c87:RY:=({c:=_}:Kc f87).1
def e87:Fo prog 87 f87 c87:=.mk func87
def c88:RY:=({c:=_}:Kc f88).1
def e88:Fo prog 88 f88 c88:=.mk func88
def c89:RY:=({c:=_}:Kc f89).1
def e89:Fo prog 89 f89 c89:=.mk func89
def c90:RY:=({c:=_}:Kc f90).1
def e90:Fo prog 90 f90 c90:=.mk func90
def c91:RY:=({c:=_}:Kc f91).1
def e91:Fo prog 91 f91 c91:=.mk func91
def c92:RY:=({c:=_}:Kc f92).1
def e92:Fo prog 92 f92 c92:=.mk func92
def c93:RY:=({c:=_}:Kc f93).1
def e93:Fo prog 93 f93 c93:=.mk func93
def c94:RY:=({c:=_}:Kc f94).1
def e94:Fo prog 94 f94 c94:=.mk func94
def c95:RY:=({c:=_}:Kc f95).1
def e95:Fo prog 95 f95 c95:=.mk func95
def c96:RY:=({c:=_}:Kc f96).1
def e96:Fo prog 96 f96 c96:=.mk func96
def c97:RY:=({c:=_}:Kc f97).1
def e97:Fo prog 97 f97 c97:=.mk func97
def c98:RY:=({c:=_}:Kc f98).1
def e98:Fo prog 98 f98 c98:=.mk func98
def c99:RY:=({c:=_}:Kc f99).1
def e99:Fo prog 99 f99 c99:=.mk func99
def MQ:RY:=({c:=_}:Kc f100).1
def Rs:Fo prog 100 f100 MQ:=.mk func100
def Nu:RY:=({c:=_}:Kc f101).1
def Rj:Fo prog 101 f101 Nu:=.mk func101
def IZ:RY:=({c:=_}:Kc f102).1
def Qf:Fo prog 102 f102 IZ:=.mk func102
def Oz:RY:=({c:=_}:Kc f103).1
def QG:Fo prog 103 f103 Oz:=.mk func103
def N1:RY:=({c:=_}:Kc f104).1
def PV:Fo prog 104 f104 N1:=.mk func104
def Mh:RY:=({c:=_}:Kc f105).1
def RU:Fo prog 105 f105 Mh:=.mk func105
def OP:RY:=({c:=_}:Kc f106).1
def Qn:Fo prog 106 f106 OP:=.mk func106
def M1:RY:=({c:=_}:Kc f107).1
def Qj:Fo prog 107 f107 M1:=.mk func107
def L7:RY:=({c:=_}:Kc f108).1
def RO:Fo prog 108 f108 L7:=.mk func108
def Nb:RY:=({c:=_}:Kc f109).1
def RH:Fo prog 109 f109 Nb:=.mk func109
def MB:RY:=({c:=_}:Kc f110).1
def QQ:Fo prog 110 f110 MB:=.mk func110
def Mz:RY:=({c:=_}:Kc f111).1
def Qm:Fo prog 111 f111 Mz:=.mk func111
def Oq:RY:=({c:=_}:Kc f112).1
def RG:Fo prog 112 f112 Oq:=.mk func112
def OG:RY:=({c:=_}:Kc f113).1
def Q5:Fo prog 113 f113 OG:=.mk func113
def Mt:RY:=({c:=_}:Kc f114).1
def Pz:Fo prog 114 f114 Mt:=.mk func114
def NY:RY:=({c:=_}:Kc f115).1
def Q0:Fo prog 115 f115 NY:=.mk func115
def N8:RY:=({c:=_}:Kc f116).1
def P6:Fo prog 116 f116 N8:=.mk func116
def No:RY:=({c:=_}:Kc f117).1
def PO:Fo prog 117 f117 No:=.mk func117
def GJ:RY:=({c:=_}:Kc f118).1
def PE:Fo prog 118 f118 GJ:=.mk func118
def O3:RY:=({c:=_}:Kc f119).1
def Q6:Fo prog 119 f119 O3:=.mk func119
def O5:RY:=({c:=_}:Kc f120).1
def PZ:Fo prog 120 f120 O5:=.mk func120
def H6:RY:=({c:=_}:Kc f121).1
def Pd:Fo prog 121 f121 H6:=.mk func121
def Ig:RY:=({c:=_}:Kc f122).1
def QC:Fo prog 122 f122 Ig:=.mk func122
def MG:RY:=({c:=_}:Kc f123).1
def Qs:Fo prog 123 f123 MG:=.mk func123
def NU:RY:=({c:=_}:Kc f124).1
def PN:Fo prog 124 f124 NU:=.mk func124
def Ma:RY:=({c:=_}:Kc f125).1
def LL:Fo prog 125 f125 Ma:=.mk func125
def NR:RY:=({c:=_}:Kc f126).1
def P8:Fo prog 126 f126 NR:=.mk func126
def N2:RY:=({c:=_}:Kc f127).1
def Rz:Fo prog 127 f127 N2:=.mk func127
def Ni:RY:=({c:=_}:Kc f128).1
def Rc:Fo prog 128 f128 Ni:=.mk func128
def MV:RY:=({c:=_}:Kc f129).1
def PR:Fo prog 129 f129 MV:=.mk func129
def OT:RY:=({c:=_}:Kc f130).1
def Pp:Fo prog 130 f130 OT:=.mk func130
def LZ:RY:=({c:=_}:Kc f131).1
def QT:Fo prog 131 f131 LZ:=.mk func131
def Md:RY:=({c:=_}:Kc f132).1
def Q7:Fo prog 132 f132 Md:=.mk func132
def Oa:RY:=({c:=_}:Kc f133).1
def Ri:Fo prog 133 f133 Oa:=.mk func133
def Of:RY:=({c:=_}:Kc f134).1
def P0:Fo prog 134 f134 Of:=.mk func134
def MC:RY:=({c:=_}:Kc f135).1
def Qu:Fo prog 135 f135 MC:=.mk func135
def Og:RY:=({c:=_}:Kc f136).1
def PD:Fo prog 136 f136 Og:=.mk func136
def Je:RY:=({c:=_}:Kc f137).1
def Px:Fo prog 137 f137 Je:=.mk func137
def Lw:RY:=({c:=_}:Kc f138).1
def M5:Fo prog 138 f138 Lw:=.mk func138
def KG:RY:=({c:=_}:Kc f139).1
def On:Fo prog 139 f139 KG:=.mk func139
def M8:RY:=({c:=_}:Kc f140).1
def Qr:Fo prog 140 f140 M8:=.mk func140
def LX:RY:=({c:=_}:Kc f141).1
def Ra:Fo prog 141 f141 LX:=.mk func141
def Na:RY:=({c:=_}:Kc f142).1
def QS:Fo prog 142 f142 Na:=.mk func142
def Nf:RY:=({c:=_}:Kc f143 [12]).1
def RP:Fo prog 143 f143 Nf:=.mk func143
def LN:RY:=({c:=_}:Kc f144 [9,13]).1
def Pc:Fo prog 144 f144 LN:=.mk func144
def OI:RY:=({c:=_}:Kc f145).1
def QD:Fo prog 145 f145 OI:=.mk func145
def ML:RY:=({c:=_}:Kc f146 [3]).1
def RF:Fo prog 146 f146 ML:=.mk func146
def MJ:RY:=({c:=_}:Kc f147 [5]).1
def Pf:Fo prog 147 f147 MJ:=.mk func147
def Ng:RY:=({c:=_}:Kc f148).1
def Qo:Fo prog 148 f148 Ng:=.mk func148
def Ns:RY:=({c:=_}:Kc f149).1
def Rd:Fo prog 149 f149 Ns:=.mk func149
def NK:RY:=({c:=_}:Kc f150).1
def QE:Fo prog 150 f150 NK:=.mk func150
def MT:RY:=({c:=_}:Kc f151).1
def Rw:Fo prog 151 f151 MT:=.mk func151
def MI:RY:=({c:=_}:Kc f152).1
def P7:Fo prog 152 f152 MI:=.mk func152
def Nn:RY:=({c:=_}:Kc f153).1
def Mm:Fo prog 153 f153 Nn:=.mk func153
def Ot:RY:=({c:=_}:Kc f154).1
def QZ:Fo prog 154 f154 Ot:=.mk func154
def OC:RY:=({c:=_}:Kc f155).1
def RB:Fo prog 155 f155 OC:=.mk func155
def Ol:RY:=({c:=_}:Kc f156).1
def RI:Fo prog 156 f156 Ol:=.mk func156
def OX:RY:=({c:=_}:Kc f157).1
def Ru:Fo prog 157 f157 OX:=.mk func157
def Nw:RY:=({c:=_}:Kc f158).1
def Q4:Fo prog 158 f158 Nw:=.mk func158
def OK:RY:=({c:=_}:Kc f159).1
def Qx:Fo prog 159 f159 OK:=.mk func159
def Oo:RY:=({c:=_}:Kc f160).1
def P9:Fo prog 160 f160 Oo:=.mk func160
def MD:RY:=({c:=_}:Kc f161).1
def PG:Fo prog 161 f161 MD:=.mk func161
def NH:RY:=({c:=_}:Kc f162).1
def Qb:Fo prog 162 f162 NH:=.mk func162
def MY:RY:=({c:=_}:Kc f163).1
def Qi:Fo prog 163 f163 MY:=.mk func163
def OD:RY:=({c:=_}:Kc f164).1
def QH:Fo prog 164 f164 OD:=.mk func164
def K8:RY:=({c:=_}:Kc f165).1
def PH:Fo prog 165 f165 K8:=.mk func165
def Mg:RY:=({c:=_}:Kc f166).1
def PA:Fo prog 166 f166 Mg:=.mk func166
def LV:RY:=({c:=_}:Kc f167).1
def Rl:Fo prog 167 f167 LV:=.mk func167
def Ms:RY:=({c:=_}:Kc f168).1
def QR:Fo prog 168 f168 Ms:=.mk func168
def NI:RY:=({c:=_}:Kc f169).1
def Rp:Fo prog 169 f169 NI:=.mk func169
def Mx:RY:=({c:=_}:Kc f170).1
def PX:Fo prog 170 f170 Mx:=.mk func170
def Mn:RY:=({c:=_}:Kc f171).1
def Q8:Fo prog 171 f171 Mn:=.mk func171
def NP:RY:=({c:=_}:Kc f172).1
def P5:Fo prog 172 f172 NP:=.mk func172
def Mp:RY:=({c:=_}:Kc f173).1
def P4:Fo prog 173 f173 Mp:=.mk func173
def My:RY:=({c:=_}:Kc f174).1
def QM:Fo prog 174 f174 My:=.mk func174
def L5:RY:=({c:=_}:Kc f175).1
def Rk:Fo prog 175 f175 L5:=.mk func175
def Ox:RY:=({c:=_}:Kc f176 [5]).1
def QU:Fo prog 176 f176 Ox:=.mk func176
def Mj:RY:=({c:=_}:Kc f177 [9]).1
def QK:Fo prog 177 f177 Mj:=.mk func177
def NF:RY:=({c:=_}:Kc f178 [5]).1
def RL:Fo prog 178 f178 NF:=.mk func178
def MK:RY:=({c:=_}:Kc f179).1
def Qv:Fo prog 179 f179 MK:=.mk func179
def O2:RY:=({c:=_}:Kc f180).1
def Qt:Fo prog 180 f180 O2:=.mk func180
def LY:RY:=({c:=_}:Kc f181).1
def Ph:Fo prog 181 f181 LY:=.mk func181
def MM:RY:=({c:=_}:Kc f182).1
def PB:Fo prog 182 f182 MM:=.mk func182
def Mq:RY:=({c:=_}:Kc f183).1
def QN:Fo prog 183 f183 Mq:=.mk func183
def OE:RY:=({c:=_}:Kc f184).1
def Pg:Fo prog 184 f184 OE:=.mk func184
def OU:RY:=({c:=_}:Kc f185).1
def Qq:Fo prog 185 f185 OU:=.mk func185
def OH:RY:=({c:=_}:Kc f186).1
def Q2:Fo prog 186 f186 OH:=.mk func186
def M4:RY:=({c:=_}:Kc f187).1
def Pm:Fo prog 187 f187 M4:=.mk func187
def O8:RY:=({c:=_}:Kc f188).1
def Rh:Fo prog 188 f188 O8:=.mk func188
def N9:RY:=({c:=_}:Kc f189).1
def Q9:Fo prog 189 f189 N9:=.mk func189
def OS:RY:=({c:=_}:Kc f190).1
def LQ:Fo prog 190 f190 OS:=.mk func190
def MR:RY:=({c:=_}:Kc f191).1
def QB:Fo prog 191 f191 MR:=.mk func191
def Mc:RY:=({c:=_}:Kc f192).1
def Qk:Fo prog 192 f192 Mc:=.mk func192
def Om:RY:=({c:=_}:Kc f193).1
def Rv:Fo prog 193 f193 Om:=.mk func193
def ND:RY:=({c:=_}:Kc f194).1
def Qy:Fo prog 194 f194 ND:=.mk func194
def Nl:RY:=({c:=_}:Kc f195).1
def Qz:Fo prog 195 f195 Nl:=.mk func195
def M7:RY:=({c:=_}:Kc f196).1
def PL:Fo prog 196 f196 M7:=.mk func196
def NV:RY:=({c:=_}:Kc f197).1
def Pb:Fo prog 197 f197 NV:=.mk func197
def IQ:RY:=({c:=_}:Kc f198).1
def RA:Fo prog 198 f198 IQ:=.mk func198
def OM:RY:=({c:=_}:Kc f199).1
def RQ:Fo prog 199 f199 OM:=.mk func199
def Nh:RY:=({c:=_}:Kc f200).1
def QF:Fo prog 200 f200 Nh:=.mk func200
def MW:RY:=({c:=_}:Kc f201).1
def Rb:Fo prog 201 f201 MW:=.mk func201
def Kt:RY:=({c:=_}:Kc f202).1
def Ql:Fo prog 202 f202 Kt:=.mk func202
def O0:RY:=({c:=_}:Kc f203).1
def QV:Fo prog 203 f203 O0:=.mk func203
def Ov:RY:=({c:=_}:Kc f204).1
def Qd:Fo prog 204 f204 Ov:=.mk func204
def ME:RY:=({c:=_}:Kc f205).1
def Rx:Fo prog 205 f205 ME:=.mk func205
def Nt:RY:=({c:=_}:Kc f206).1
def Qa:Fo prog 206 f206 Nt:=.mk func206
def L6:RY:=({c:=_}:Kc f207).1
def Pu:Fo prog 207 f207 L6:=.mk func207
def N7:RY:=({c:=_}:Kc f208).1
def RR:Fo prog 208 f208 N7:=.mk func208
def MZ:RY:=({c:=_}:Kc f209).1
def QP:Fo prog 209 f209 MZ:=.mk func209
def L0:RY:=({c:=_}:Kc f210).1
def Pe:Fo prog 210 f210 L0:=.mk func210
def N6:RY:=({c:=_}:Kc f211).1
def RJ:Fo prog 211 f211 N6:=.mk func211
def Nq:RY:=({c:=_}:Kc f212).1
def QI:Fo prog 212 f212 Nq:=.mk func212
def HJ:RY:=({c:=_}:Kc f213).1
def PW:Fo prog 213 f213 HJ:=.mk func213
def NA:RY:=({c:=_}:Kc f214).1
def Re:Fo prog 214 f214 NA:=.mk func214
def O9:RY:=({c:=_}:Kc f215).1
def Pv:Fo prog 215 f215 O9:=.mk func215
def ON:RY:=({c:=_}:Kc f216).1
def RS:Fo prog 216 f216 ON:=.mk func216
def KV:RY:=({c:=_}:Kc f217).1
def Rq:Fo prog 217 f217 KV:=.mk func217
def MU:RY:=({c:=_}:Kc f218).1
def Po:Fo prog 218 f218 MU:=.mk func218
def OA:RY:=({c:=_}:Kc f219).1
def PY:Fo prog 219 f219 OA:=.mk func219
def Ou:RY:=({c:=_}:Kc f220).1
def Pq:Fo prog 220 f220 Ou:=.mk func220
def N5:RY:=({c:=_}:Kc f221).1
def Rt:Fo prog 221 f221 N5:=.mk func221
def Ml:RY:=({c:=_}:Kc f222).1
def QW:Fo prog 222 f222 Ml:=.mk func222
def Oe:RY:=({c:=_}:Kc f223).1
def QA:Fo prog 223 f223 Oe:=.mk func223
def L4:RY:=({c:=_}:Kc f224).1
def Q1:Fo prog 224 f224 L4:=.mk func224
def N0:RY:=({c:=_}:Kc f225).1
def RV:Fo prog 225 f225 N0:=.mk func225
def LK:RY:=({c:=_}:Kc f226).1
def PK:Fo prog 226 f226 LK:=.mk func226
def N3:RY:=({c:=_}:Kc f227).1
def PQ:Fo prog 227 f227 N3:=.mk func227
def Oj:RY:=({c:=_}:Kc f228).1
def Rr:Fo prog 228 f228 Oj:=.mk func228
def MN:RY:=({c:=_}:Kc f229).1
def Pw:Fo prog 229 f229 MN:=.mk func229
def Jh:RY:=({c:=_}:Kc f230).1
def RM:Fo prog 230 f230 Jh:=.mk func230
def Kk:RY:=({c:=_}:Kc f231).1
def Q3:Fo prog 231 f231 Kk:=.mk func231
def Mv:RY:=({c:=_}:Kc f232 [8]).1
def Qh:Fo prog 232 f232 Mv:=.mk func232
def NT:RY:=({c:=_}:Kc f233).1
def Qc:Fo prog 233 f233 NT:=.mk func233
def Ow:RY:=({c:=_}:Kc f234).1
def RT:Fo prog 234 f234 Ow:=.mk func234
def KD:RY:=({c:=_}:Kc f235).1
def QJ:Fo prog 235 f235 KD:=.mk func235
def Ok:RY:=({c:=_}:Kc f236).1
def Ro:Fo prog 236 f236 Ok:=.mk func236
def OL:RY:=({c:=_}:Kc f237).1
def L3:Fo prog 237 f237 OL:=.mk func237
def Nx:RY:=({c:=_}:Kc f238).1
def RC:Fo prog 238 f238 Nx:=.mk func238
def Nz:RY:=({c:=_}:Kc f239).1
def Rg:Fo prog 239 f239 Nz:=.mk func239
def NW:RY:=({c:=_}:Kc f240).1
def Py:Fo prog 240 f240 NW:=.mk func240
def MH:RY:=({c:=_}:Kc f241).1
def PC:Fo prog 241 f241 MH:=.mk func241
def NQ:RY:=({c:=_}:Kc f242).1
def RD:Fo prog 242 f242 NQ:=.mk func242
def MO:RY:=({c:=_}:Kc f243).1
def Pk:Fo prog 243 f243 MO:=.mk func243
def NL:RY:=({c:=_}:Kc f244).1
def Qe:Fo prog 244 f244 NL:=.mk func244
def Mr:RY:=({c:=_}:Kc f245).1
def Pj:Fo prog 245 f245 Mr:=.mk func245
def O6:RY:=({c:=_}:Kc f246).1
def PS:Fo prog 246 f246 O6:=.mk func246
def NJ:RY:=({c:=_}:Kc f247).1
def Mf:Fo prog 247 f247 NJ:=.mk func247
def M6:RY:=({c:=_}:Kc f248).1
def QL:Fo prog 248 f248 M6:=.mk func248
def MF:RY:=({c:=_}:Kc f249).1
def OJ:Fo prog 249 f249 MF:=.mk func249
def OZ:RY:=({c:=_}:Kc f250).1
def RK:Fo prog 250 f250 OZ:=.mk func250
end Go.Vc
