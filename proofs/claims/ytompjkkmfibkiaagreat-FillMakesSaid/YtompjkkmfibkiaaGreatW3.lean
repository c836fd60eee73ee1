import Derived.Test.YtompjkkmfibkiaaGreatW2
import Derived.Test.YtompjkkmfibkiaaGreatProg
import Derived.KernelRfl
set_option linter.all false
set_option maxHeartbeats 8000000
open Go.Proofs.Tryz
namespace Go.Vc
open Go.Proofs
section
variable (P:Program) (n:Nat) (L:List Nat)
def mo:Code->bW
 |.skip=>.skip
 |.region id ops draw=>if L.contains (id*2)then .tV ((ops.toList.take (ops.size-1)).map (dg P n ops)) ((ops.toList.drop (ops.size-1)).map (dg P n ops))else if L.contains (id*2+1)then .regA (ops.toList.map (dg P n ops)) (ops.toList.map λo=>(o.after.toList.filter (Region.binds .any)).map (·.on))else .reg draw (ops.toList.map (dg P n ops))
 |.seq a b=>.seq (mo a) (mo b)
 |.cond c a b=>.cond (cx n c) (mo a) (mo b)
 |.block id a=>.block id (mo a)
 |.loop a=>.loop (mo a)
 |.exit id=>.exit id
 |.ret=>.ret
 |.rangeFunc g ps a c=>.fk (cx n g) ps.toList (mo a) (mo c)
 |_=>.bad
end
def U7(P:Program)(fn:Func)(L:List Nat):U':=match fn.body with
 |some c=>⟨fn.ntmps,mo P fn.ntmps L c,fn.results.toList.map (Bc P fn.ntmps)⟩
 |none=>⟨0,.skip,[]⟩
structure Kc(fn:Func)(L:List Nat:=[]) where
 c:U'
 h:U7 prog fn L=c:=by conv=>lhs;cbv
set_option cbv.maxSteps 1000000000
set_option maxRecDepth 1000000
def c3:U':=({c:=_}:Kc f3 [37]).1
def e3:Fo prog 3 f3 c3:=.mk func3
def c5:U':=({c:=_}:Kc f5).1
def e5:Fo prog 5 f5 c5:=.mk func5
def c6:U':=({c:=_}:Kc f6).1
def e6:Fo prog 6 f6 c6:=.mk func6
def c7:U':=({c:=_}:Kc f7).1
def e7:Fo prog 7 f7 c7:=.mk func7
def c8:U':=({c:=_}:Kc f8 [27]).1
def e8:Fo prog 8 f8 c8:=.mk func8
def c9:U':=({c:=_}:Kc f9).1
def e9:Fo prog 9 f9 c9:=.mk func9
def c10:U':=({c:=_}:Kc f10).1
def e10:Fo prog 10 f10 c10:=.mk func10
def c11:U':=({c:=_}:Kc f11).1
def e11:Fo prog 11 f11 c11:=.mk func11
def c12:U':=({c:=_}:Kc f12).1
def e12:Fo prog 12 f12 c12:=.mk func12
def c13:U':=({c:=_}:Kc f13).1
def e13:Fo prog 13 f13 c13:=.mk func13
def c14:U':=({c:=_}:Kc f14).1
def e14:Fo prog 14 f14 c14:=.mk func14
def c15:U':=({c:=_}:Kc f15).1
def e15:Fo prog 15 f15 c15:=.mk func15
def c16:U':=({c:=_}:Kc f16).1
def e16:Fo prog 16 f16 c16:=.mk func16
def c17:U':=({c:=_}:Kc f17).1
def e17:Fo prog 17 f17 c17:=.mk func17
def c18:U':=({c:=_}:Kc f18 [15,31,35]).1
def e18:Fo prog 18 f18 c18:=.mk func18
def c19:U':=({c:=_}:Kc f19).1
def e19:Fo prog 19 f19 c19:=.mk func19
def c20:U':=({c:=_}:Kc f20).1
def e20:Fo prog 20 f20 c20:=.mk func20
def c21:U':=({c:=_}:Kc f21 [25,45,63]).1
def e21:Fo prog 21 f21 c21:=.mk func21
def c27:U':=({c:=_}:Kc f27).1
def e27:Fo prog 27 f27 c27:=.mk func27
def c28:U':=({c:=_}:Kc f28 [5]).1
def e28:Fo prog 28 f28 c28:=.mk func28
def c29:U':=({c:=_}:Kc f29).1
def e29:Fo prog 29 f29 c29:=.mk func29
def c30:U':=({c:=_}:Kc f30).1
def e30:Fo prog 30 f30 c30:=.mk func30
def c31:U':=({c:=_}:Kc f31).1
def e31:Fo prog 31 f31 c31:=.mk func31
def c32:U':=({c:=_}:Kc f32).1
def e32:Fo prog 32 f32 c32:=.mk func32
def c33:U':=({c:=_}:Kc f33).1
def e33:Fo prog 33 f33 c33:=.mk func33
def c34:U':=({c:=_}:Kc f34).1
def e34:Fo prog 34 f34 c34:=.mk func34
def c35:U':=({c:=_}:Kc f35).1
def e35:Fo prog 35 f35 c35:=.mk func35
def c36:U':=({c:=_}:Kc f36).1
def e36:Fo prog 36 f36 c36:=.mk func36
def c37:U':=({c:=_}:Kc f37).1
def e37:Fo prog 37 f37 c37:=.mk func37
def c38:U':=({c:=_}:Kc f38).1
def e38:Fo prog 38 f38 c38:=.mk func38
def c39:U':=({c:=_}:Kc f39).1
def e39:Fo prog 39 f39 c39:=.mk func39
def c40:U':=({c:=_}:Kc f40).1
def e40:Fo prog 40 f40 c40:=.mk func40
def c41:U':=({c:=_}:Kc f41).1
def e41:Fo prog 41 f41 c41:=.mk func41
def c42:U':=({c:=_}:Kc f42).1
def e42:Fo prog 42 f42 c42:=.mk func42
def c43:U':=({c:=_}:Kc f43).1
def e43:Fo prog 43 f43 c43:=.mk func43
def c44:U':=({c:=_}:Kc f44).1
def e44:Fo prog 44 f44 c44:=.mk func44
def c45:U':=({c:=_}:Kc f45).1
def e45:Fo prog 45 f45 c45:=.mk func45
def c46:U':=({c:=_}:Kc f46).1
def e46:Fo prog 46 f46 c46:=.mk func46
def c47:U':=({c:=_}:Kc f47).1
def e47:Fo prog 47 f47 c47:=.mk func47
def c48:U':=({c:=_}:Kc f48).1
def e48:Fo prog 48 f48 c48:=.mk func48
def c49:U':=({c:=_}:Kc f49).1
def e49:Fo prog 49 f49 c49:=.mk func49
def c50:U':=({c:=_}:Kc f50).1
def e50:Fo prog 50 f50 c50:=.mk func50
def c51:U':=({c:=_}:Kc f51).1
def e51:Fo prog 51 f51 c51:=.mk func51
def c52:U':=({c:=_}:Kc f52).1
def e52:Fo prog 52 f52 c52:=.mk func52
def c53:U':=({c:=_}:Kc f53 [9]).1
def e53:Fo prog 53 f53 c53:=.mk func53
def c54:U':=({c:=_}:Kc f54).1
def e54:Fo prog 54 f54 c54:=.mk func54
def c55:U':=({c:=_}:Kc f55 [11]).1
def e55:Fo prog 55 f55 c55:=.mk func55
def c56:U':=({c:=_}:Kc f56).1
def e56:Fo prog 56 f56 c56:=.mk func56
def c57:U':=({c:=_}:Kc f57).1
def e57:Fo prog 57 f57 c57:=.mk func57
def c58:U':=({c:=_}:Kc f58).1
def e58:Fo prog 58 f58 c58:=.mk func58
def c59:U':=({c:=_}:Kc f59).1
def e59:Fo prog 59 f59 c59:=.mk func59
def c60:U':=({c:=_}:Kc f60).1
def e60:Fo prog 60 f60 c60:=.mk func60
def c61:U':=({c:=_}:Kc f61).1
def e61:Fo prog 61 f61 c61:=.mk func61
def c62:U':=({c:=_}:Kc f62).1
def e62:Fo prog 62 f62 c62:=.mk func62
def c63:U':=({c:=_}:Kc f63).1
def e63:Fo prog 63 f63 c63:=.mk func63
def c64:U':=({c:=_}:Kc f64).1
def e64:Fo prog 64 f64 c64:=.mk func64
def c65:U':=({c:=_}:Kc f65).1
def e65:Fo prog 65 f65 c65:=.mk func65
def c66:U':=({c:=_}:Kc f66).1
def e66:Fo prog 66 f66 c66:=.mk func66
def c67:U':=({c:=_}:Kc f67).1
def e67:Fo prog 67 f67 c67:=.mk func67
def c68:U':=({c:=_}:Kc f68).1
def e68:Fo prog 68 f68 c68:=.mk func68
def c69:U':=({c:=_}:Kc f69).1
def e69:Fo prog 69 f69 c69:=.mk func69
def c70:U':=({c:=_}:Kc f70 [17]).1
def e70:Fo prog 70 f70 c70:=.mk func70
def c71:U':=({c:=_}:Kc f71).1
def e71:Fo prog 71 f71 c71:=.mk func71
def c72:U':=({c:=_}:Kc f72).1
def e72:Fo prog 72 f72 c72:=.mk func72
def c78:U':=({c:=_}:Kc f78).1
def e78:Fo prog 78 f78 c78:=.mk func78
def c79:U':=({c:=_}:Kc f79).1
def e79:Fo prog 79 f79 c79:=.mk func79
def c80:U':=({c:=_}:Kc f80).1
def e80:Fo prog 80 f80 c80:=.mk func80
def c81:U':=({c:=_}:Kc f81).1
def e81:Fo prog 81 f81 c81:=.mk func81
def c82:U':=({c:=_}:Kc f82).1
def e82:Fo prog 82 f82 c82:=.mk func82
def c83:U':=({c:=_}:Kc f83).1
def e83:Fo prog 83 f83 c83:=.mk func83
def c84:U':=({c:=_}:Kc f84).1
def e84:Fo prog 84 f84 c84:=.mk func84
def c85:U':=({c:=_}:Kc f85).1
def e85:Fo prog 85 f85 c85:=.mk func85
def c86:U':=({c:=_}:Kc f86).1
def e86:Fo prog 86 f86 c86:=.mk func86
def c87:U':=({c:=_}:Kc f87).1
def e87:Fo prog 87 f87 c87:=.mk func87
def c88:U':=({c:=_}:Kc f88).1
def e88:Fo prog 88 f88 c88:=.mk func88
def c89:U':=({c:=_}:Kc f89).1
def e89:Fo prog 89 f89 c89:=.mk func89
def c90:U':=({c:=_}:Kc f90).1
def e90:Fo prog 90 f90 c90:=.mk func90
def c91:U':=({c:=_}:Kc f91).1
def e91:Fo prog 91 f91 c91:=.mk func91
def c92:U':=({c:=_}:Kc f92).1
def e92:Fo prog 92 f92 c92:=.mk func92
def c93:U':=({c:=_}:Kc f93).1
def e93:Fo prog 93 f93 c93:=.mk func93
def c94:U':=({c:=_}:Kc f94).1
def e94:Fo prog 94 f94 c94:=.mk func94
def c95:U':=({c:=_}:Kc f95).1
def e95:Fo prog 95 f95 c95:=.mk func95
def c96:U':=({c:=_}:Kc f96).1
def e96:Fo prog 96 f96 c96:=.mk func96
def c97:U':=({c:=_}:Kc f97).1
def e97:Fo prog 97 f97 c97:=.mk func97
def c98:U':=({c:=_}:Kc f98).1
def e98:Fo prog 98 f98 c98:=.mk func98
def c99:U':=({c:=_}:Kc f99).1
def e99:Fo prog 99 f99 c99:=.mk func99
def N9:U':=({c:=_}:Kc f100).1
def Uz:Fo prog 100 f100 N9:=.mk func100
def Py:U':=({c:=_}:Kc f101).1
def Uw:Fo prog 101 f101 Py:=.mk func101
def QH:U':=({c:=_}:Kc f102).1
def Tc:Fo prog 102 f102 QH:=.mk func102
def R7:U':=({c:=_}:Kc f103).1
def Vj:Fo prog 103 f103 R7:=.mk func103
def KG:U':=({c:=_}:Kc f104 [5]).1
def Te:Fo prog 104 f104 KG:=.mk func104
def QV:U':=({c:=_}:Kc f105 [11]).1
def UP:Fo prog 105 f105 QV:=.mk func105
def PE:U':=({c:=_}:Kc f106).1
def TS:Fo prog 106 f106 PE:=.mk func106
def Rt:U':=({c:=_}:Kc f107).1
def TJ:Fo prog 107 f107 Rt:=.mk func107
def Pa:U':=({c:=_}:Kc f108).1
def SK:Fo prog 108 f108 Pa:=.mk func108
def PS:U':=({c:=_}:Kc f109).1
def SO:Fo prog 109 f109 PS:=.mk func109
def Kt:U':=({c:=_}:Kc f110).1
def Uy:Fo prog 110 f110 Kt:=.mk func110
def Q4:U':=({c:=_}:Kc f111).1
def UJ:Fo prog 111 f111 Q4:=.mk func111
def RY:U':=({c:=_}:Kc f112).1
def SB:Fo prog 112 f112 RY:=.mk func112
def Pd:U':=({c:=_}:Kc f113).1
def Sj:Fo prog 113 f113 Pd:=.mk func113
def NS:U':=({c:=_}:Kc f121).1
def Oz:Fo prog 121 f121 NS:=.mk func121
def MH:U':=({c:=_}:Kc f122).1
def R3:Fo prog 122 f122 MH:=.mk func122
def PX:U':=({c:=_}:Kc f123).1
def Vn:Fo prog 123 f123 PX:=.mk func123
def O9:U':=({c:=_}:Kc f124).1
def TG:Fo prog 124 f124 O9:=.mk func124
def Pt:U':=({c:=_}:Kc f125).1
def TI:Fo prog 125 f125 Pt:=.mk func125
def O2:U':=({c:=_}:Kc f126).1
def TT:Fo prog 126 f126 O2:=.mk func126
def Lf:U':=({c:=_}:Kc f127).1
def UW:Fo prog 127 f127 Lf:=.mk func127
def OM:U':=({c:=_}:Kc f128).1
def Us:Fo prog 128 f128 OM:=.mk func128
def OO:U':=({c:=_}:Kc f129 [12]).1
def Tb:Fo prog 129 f129 OO:=.mk func129
def Ol:U':=({c:=_}:Kc f130 [9,13]).1
def TV:Fo prog 130 f130 Ol:=.mk func130
def OP:U':=({c:=_}:Kc f131).1
def Sn:Fo prog 131 f131 OP:=.mk func131
def Pk:U':=({c:=_}:Kc f132 [3]).1
def SY:Fo prog 132 f132 Pk:=.mk func132
def Rg:U':=({c:=_}:Kc f133 [5]).1
def Tl:Fo prog 133 f133 Rg:=.mk func133
def QB:U':=({c:=_}:Kc f134).1
def TU:Fo prog 134 f134 QB:=.mk func134
def OK:U':=({c:=_}:Kc f135).1
def Uu:Fo prog 135 f135 OK:=.mk func135
def RF:U':=({c:=_}:Kc f136).1
def Va:Fo prog 136 f136 RF:=.mk func136
def Qo:U':=({c:=_}:Kc f137).1
def SU:Fo prog 137 f137 Qo:=.mk func137
def On:U':=({c:=_}:Kc f138).1
def Uo:Fo prog 138 f138 On:=.mk func138
def P0:U':=({c:=_}:Kc f139).1
def UO:Fo prog 139 f139 P0:=.mk func139
def OV:U':=({c:=_}:Kc f140).1
def SW:Fo prog 140 f140 OV:=.mk func140
def Q6:U':=({c:=_}:Kc f141).1
def U6:Fo prog 141 f141 Q6:=.mk func141
def Qk:U':=({c:=_}:Kc f142).1
def Vl:Fo prog 142 f142 Qk:=.mk func142
def PZ:U':=({c:=_}:Kc f143).1
def U0:Fo prog 143 f143 PZ:=.mk func143
def Q8:U':=({c:=_}:Kc f144).1
def TZ:Fo prog 144 f144 Q8:=.mk func144
def Qw:U':=({c:=_}:Kc f145).1
def Tq:Fo prog 145 f145 Qw:=.mk func145
def O6:U':=({c:=_}:Kc f146).1
def UE:Fo prog 146 f146 O6:=.mk func146
def Qh:U':=({c:=_}:Kc f147).1
def Uq:Fo prog 147 f147 Qh:=.mk func147
def PH:U':=({c:=_}:Kc f148).1
def Vk:Fo prog 148 f148 PH:=.mk func148
def P7:U':=({c:=_}:Kc f149).1
def TD:Fo prog 149 f149 P7:=.mk func149
def KC:U':=({c:=_}:Kc f150).1
def UN:Fo prog 150 f150 KC:=.mk func150
def PN:U':=({c:=_}:Kc f151).1
def Tx:Fo prog 151 f151 PN:=.mk func151
def Oy:U':=({c:=_}:Kc f152).1
def SC:Fo prog 152 f152 Oy:=.mk func152
def Pe:U':=({c:=_}:Kc f153).1
def Ut:Fo prog 153 f153 Pe:=.mk func153
def QL:U':=({c:=_}:Kc f154).1
def T9:Fo prog 154 f154 QL:=.mk func154
def O0:U':=({c:=_}:Kc f155).1
def Vy:Fo prog 155 f155 O0:=.mk func155
def Nw:U':=({c:=_}:Kc f156).1
def U3:Fo prog 156 f156 Nw:=.mk func156
def PA:U':=({c:=_}:Kc f157).1
def TP:Fo prog 157 f157 PA:=.mk func157
def Rl:U':=({c:=_}:Kc f158).1
def Uc:Fo prog 158 f158 Rl:=.mk func158
def Rr:U':=({c:=_}:Kc f159).1
def SJ:Fo prog 159 f159 Rr:=.mk func159
def OE:U':=({c:=_}:Kc f160).1
def Tj:Fo prog 160 f160 OE:=.mk func160
def KV:U':=({c:=_}:Kc f161).1
def S1:Fo prog 161 f161 KV:=.mk func161
def QZ:U':=({c:=_}:Kc f168).1
def SP:Fo prog 168 f168 QZ:=.mk func168
def RL:U':=({c:=_}:Kc f169).1
def SQ:Fo prog 169 f169 RL:=.mk func169
def Qy:U':=({c:=_}:Kc f170).1
def U8:Fo prog 170 f170 Qy:=.mk func170
def Px:U':=({c:=_}:Kc f171).1
def Ov:Fo prog 171 f171 Px:=.mk func171
def PL:U':=({c:=_}:Kc f172).1
def TE:Fo prog 172 f172 PL:=.mk func172
def Ok:U':=({c:=_}:Kc f173).1
def Tg:Fo prog 173 f173 Ok:=.mk func173
def Ps:U':=({c:=_}:Kc f174).1
def T1:Fo prog 174 f174 Ps:=.mk func174
def P3:U':=({c:=_}:Kc f175).1
def Tz:Fo prog 175 f175 P3:=.mk func175
def Qt:U':=({c:=_}:Kc f176).1
def Ux:Fo prog 176 f176 Qt:=.mk func176
def RH:U':=({c:=_}:Kc f177).1
def Sr:Fo prog 177 f177 RH:=.mk func177
def Rz:U':=({c:=_}:Kc f178).1
def Vb:Fo prog 178 f178 Rz:=.mk func178
def Qc:U':=({c:=_}:Kc f179 [5]).1
def Ud:Fo prog 179 f179 Qc:=.mk func179
def RN:U':=({c:=_}:Kc f180 [9]).1
def Uj:Fo prog 180 f180 RN:=.mk func180
def Oa:U':=({c:=_}:Kc f181 [5]).1
def Vt:Fo prog 181 f181 Oa:=.mk func181
def OC:U':=({c:=_}:Kc f182).1
def Vp:Fo prog 182 f182 OC:=.mk func182
def PV:U':=({c:=_}:Kc f183).1
def Sy:Fo prog 183 f183 PV:=.mk func183
def QD:U':=({c:=_}:Kc f184).1
def UC:Fo prog 184 f184 QD:=.mk func184
def Rj:U':=({c:=_}:Kc f185).1
def UH:Fo prog 185 f185 Rj:=.mk func185
def Od:U':=({c:=_}:Kc f186).1
def UZ:Fo prog 186 f186 Od:=.mk func186
def O3:U':=({c:=_}:Kc f187).1
def Vz:Fo prog 187 f187 O3:=.mk func187
def RJ:U':=({c:=_}:Kc f188).1
def SF:Fo prog 188 f188 RJ:=.mk func188
def Oc:U':=({c:=_}:Kc f189).1
def Tv:Fo prog 189 f189 Oc:=.mk func189
def Qi:U':=({c:=_}:Kc f190).1
def Ue:Fo prog 190 f190 Qi:=.mk func190
def Rn:U':=({c:=_}:Kc f191).1
def Sx:Fo prog 191 f191 Rn:=.mk func191
def Q9:U':=({c:=_}:Kc f192).1
def Um:Fo prog 192 f192 Q9:=.mk func192
def N7:U':=({c:=_}:Kc f193).1
def Ub:Fo prog 193 f193 N7:=.mk func193
def Re:U':=({c:=_}:Kc f194).1
def UR:Fo prog 194 f194 Re:=.mk func194
def P6:U':=({c:=_}:Kc f195).1
def UT:Fo prog 195 f195 P6:=.mk func195
def P5:U':=({c:=_}:Kc f196).1
def UQ:Fo prog 196 f196 P5:=.mk func196
def QC:U':=({c:=_}:Kc f197).1
def Vs:Fo prog 197 f197 QC:=.mk func197
def Oq:U':=({c:=_}:Kc f198).1
def Sq:Fo prog 198 f198 Oq:=.mk func198
def ON:U':=({c:=_}:Kc f199).1
def Vu:Fo prog 199 f199 ON:=.mk func199
def Ns:U':=({c:=_}:Kc f200).1
def Sv:Fo prog 200 f200 Ns:=.mk func200
def Pj:U':=({c:=_}:Kc f201).1
def TA:Fo prog 201 f201 Pj:=.mk func201
def Pf:U':=({c:=_}:Kc f202).1
def U5:Fo prog 202 f202 Pf:=.mk func202
def JJ:U':=({c:=_}:Kc f203).1
def Ur:Fo prog 203 f203 JJ:=.mk func203
def OS:U':=({c:=_}:Kc f204).1
def T0:Fo prog 204 f204 OS:=.mk func204
def RB:U':=({c:=_}:Kc f205).1
def TM:Fo prog 205 f205 RB:=.mk func205
def PG:U':=({c:=_}:Kc f206).1
def To:Fo prog 206 f206 PG:=.mk func206
def Ql:U':=({c:=_}:Kc f207).1
def Su:Fo prog 207 f207 Ql:=.mk func207
def P4:U':=({c:=_}:Kc f208).1
def UK:Fo prog 208 f208 P4:=.mk func208
def Pc:U':=({c:=_}:Kc f209).1
def Ul:Fo prog 209 f209 Pc:=.mk func209
def OZ:U':=({c:=_}:Kc f210).1
def So:Fo prog 210 f210 OZ:=.mk func210
def OQ:U':=({c:=_}:Kc f211).1
def Tu:Fo prog 211 f211 OQ:=.mk func211
def OJ:U':=({c:=_}:Kc f212).1
def Tk:Fo prog 212 f212 OJ:=.mk func212
def PW:U':=({c:=_}:Kc f213).1
def Vv:Fo prog 213 f213 PW:=.mk func213
def OT:U':=({c:=_}:Kc f214).1
def US:Fo prog 214 f214 OT:=.mk func214
def QK:U':=({c:=_}:Kc f215).1
def TR:Fo prog 215 f215 QK:=.mk func215
def RD:U':=({c:=_}:Kc f216).1
def Vg:Fo prog 216 f216 RD:=.mk func216
def Qa:U':=({c:=_}:Kc f217).1
def SL:Fo prog 217 f217 Qa:=.mk func217
def PM:U':=({c:=_}:Kc f222).1
def SZ:Fo prog 222 f222 PM:=.mk func222
def P9:U':=({c:=_}:Kc f223).1
def U9:Fo prog 223 f223 P9:=.mk func223
def QI:U':=({c:=_}:Kc f224).1
def SX:Fo prog 224 f224 QI:=.mk func224
def Pq:U':=({c:=_}:Kc f225).1
def Q7:Fo prog 225 f225 Pq:=.mk func225
def Qp:U':=({c:=_}:Kc f226).1
def SA:Fo prog 226 f226 Qp:=.mk func226
def RQ:U':=({c:=_}:Kc f227).1
def SV:Fo prog 227 f227 RQ:=.mk func227
def Q1:U':=({c:=_}:Kc f228).1
def UL:Fo prog 228 f228 Q1:=.mk func228
def NA:U':=({c:=_}:Kc f229).1
def Vd:Fo prog 229 f229 NA:=.mk func229
def PU:U':=({c:=_}:Kc f230).1
def TH:Fo prog 230 f230 PU:=.mk func230
def Pz:U':=({c:=_}:Kc f231).1
def Sp:Fo prog 231 f231 Pz:=.mk func231
def RU:U':=({c:=_}:Kc f232).1
def Vh:Fo prog 232 f232 RU:=.mk func232
def QW:U':=({c:=_}:Kc f233).1
def Ts:Fo prog 233 f233 QW:=.mk func233
def R5:U':=({c:=_}:Kc f234).1
def Sf:Fo prog 234 f234 R5:=.mk func234
def Oh:U':=({c:=_}:Kc f235).1
def UG:Fo prog 235 f235 Oh:=.mk func235
def OR:U':=({c:=_}:Kc f236).1
def Up:Fo prog 236 f236 OR:=.mk func236
def QS:U':=({c:=_}:Kc f237).1
def U2:Fo prog 237 f237 QS:=.mk func237
def OI:U':=({c:=_}:Kc f238).1
def Tt:Fo prog 238 f238 OI:=.mk func238
def OG:U':=({c:=_}:Kc f239).1
def TN:Fo prog 239 f239 OG:=.mk func239
def JB:U':=({c:=_}:Kc f240).1
def SS:Fo prog 240 f240 JB:=.mk func240
def OH:U':=({c:=_}:Kc f241).1
def Ti:Fo prog 241 f241 OH:=.mk func241
def Qg:U':=({c:=_}:Kc f242).1
def Tw:Fo prog 242 f242 Qg:=.mk func242
def PC:U':=({c:=_}:Kc f243).1
def Tf:Fo prog 243 f243 PC:=.mk func243
def NP:U':=({c:=_}:Kc f244).1
def Vm:Fo prog 244 f244 NP:=.mk func244
def RO:U':=({c:=_}:Kc f245).1
def UY:Fo prog 245 f245 RO:=.mk func245
def RX:U':=({c:=_}:Kc f246).1
def UM:Fo prog 246 f246 RX:=.mk func246
def QM:U':=({c:=_}:Kc f247).1
def TB:Fo prog 247 f247 QM:=.mk func247
def Q5:U':=({c:=_}:Kc f248).1
def Ss:Fo prog 248 f248 Q5:=.mk func248
def RV:U':=({c:=_}:Kc f249).1
def Vf:Fo prog 249 f249 RV:=.mk func249
def Oo:U':=({c:=_}:Kc f250).1
def Un:Fo prog 250 f250 Oo:=.mk func250
def JY:U':=({c:=_}:Kc f251).1
def TL:Fo prog 251 f251 JY:=.mk func251
def Pg:U':=({c:=_}:Kc f252).1
def Sw:Fo prog 252 f252 Pg:=.mk func252
def Ry:U':=({c:=_}:Kc f253).1
def PD:Fo prog 253 f253 Ry:=.mk func253
def OL:U':=({c:=_}:Kc f254).1
def RT:Fo prog 254 f254 OL:=.mk func254
def RK:U':=({c:=_}:Kc f255).1
def TW:Fo prog 255 f255 RK:=.mk func255
def Qf:U':=({c:=_}:Kc f261).1
def Sz:Fo prog 261 f261 Qf:=.mk func261
def QA:U':=({c:=_}:Kc f262).1
def Ui:Fo prog 262 f262 QA:=.mk func262
def RZ:U':=({c:=_}:Kc f263).1
def UX:Fo prog 263 f263 RZ:=.mk func263
def RM:U':=({c:=_}:Kc f264).1
def SR:Fo prog 264 f264 RM:=.mk func264
def Qj:U':=({c:=_}:Kc f265).1
def Vw:Fo prog 265 f265 Qj:=.mk func265
def QN:U':=({c:=_}:Kc f266).1
def UB:Fo prog 266 f266 QN:=.mk func266
def Sa:U':=({c:=_}:Kc f267).1
def UF:Fo prog 267 f267 Sa:=.mk func267
def OA:U':=({c:=_}:Kc f268).1
def Sd:Fo prog 268 f268 OA:=.mk func268
def Jq:U':=({c:=_}:Kc f269).1
def TK:Fo prog 269 f269 Jq:=.mk func269
def NJ:U':=({c:=_}:Kc f270).1
def Se:Fo prog 270 f270 NJ:=.mk func270
def QR:U':=({c:=_}:Kc f271 [8]).1
def SE:Fo prog 271 f271 QR:=.mk func271
def Ow:U':=({c:=_}:Kc f272).1
def Vi:Fo prog 272 f272 Ow:=.mk func272
def Rc:U':=({c:=_}:Kc f273).1
def Sh:Fo prog 273 f273 Rc:=.mk func273
def NO:U':=({c:=_}:Kc f274).1
def UU:Fo prog 274 f274 NO:=.mk func274
def Oj:U':=({c:=_}:Kc f275).1
def SD:Fo prog 275 f275 Oj:=.mk func275
def Ri:U':=({c:=_}:Kc f276).1
def Rk:Fo prog 276 f276 Ri:=.mk func276
def OD:U':=({c:=_}:Kc f277).1
def Uf:Fo prog 277 f277 OD:=.mk func277
def Pw:U':=({c:=_}:Kc f278).1
def Ua:Fo prog 278 f278 Pw:=.mk func278
def Rb:U':=({c:=_}:Kc f279).1
def U1:Fo prog 279 f279 Rb:=.mk func279
def Ot:U':=({c:=_}:Kc f280).1
def TF:Fo prog 280 f280 Ot:=.mk func280
def PO:U':=({c:=_}:Kc f281).1
def UA:Fo prog 281 f281 PO:=.mk func281
def Pu:U':=({c:=_}:Kc f282).1
def TQ:Fo prog 282 f282 Pu:=.mk func282
def Ph:U':=({c:=_}:Kc f284).1
def Tm:Fo prog 284 f284 Ph:=.mk func284
def Rp:U':=({c:=_}:Kc f285).1
def Uv:Fo prog 285 f285 Rp:=.mk func285
def Qq:U':=({c:=_}:Kc f286).1
def Vr:Fo prog 286 f286 Qq:=.mk func286
def Ou:U':=({c:=_}:Kc f287).1
def Ug:Fo prog 287 f287 Ou:=.mk func287
def Qe:U':=({c:=_}:Kc f288).1
def TY:Fo prog 288 f288 Qe:=.mk func288
def OU:U':=({c:=_}:Kc f289).1
def UD:Fo prog 289 f289 OU:=.mk func289
def Om:U':=({c:=_}:Kc f290).1
def Ta:Fo prog 290 f290 Om:=.mk func290
def Rv:U':=({c:=_}:Kc f291).1
def U4:Fo prog 291 f291 Rv:=.mk func291
def Q0:U':=({c:=_}:Kc f292).1
def SH:Fo prog 292 f292 Q0:=.mk func292
def Qx:U':=({c:=_}:Kc f293).1
def RS:Fo prog 293 f293 Qx:=.mk func293
def Pv:U':=({c:=_}:Kc f294).1
def Si:Fo prog 294 f294 Pv:=.mk func294
def Pb:U':=({c:=_}:Kc f295).1
def R8:Fo prog 295 f295 Pb:=.mk func295
def RG:U':=({c:=_}:Kc f296).1
def Vx:Fo prog 296 f296 RG:=.mk func296
end Go.Vc
