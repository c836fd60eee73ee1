/- Part 3 of the library of this proof. -/
import Derived.Test.YtdaelobhgmdoeaaGreatW2
import Derived.Test.YtdaelobhgmdoeaaGreatProg
import Derived.KernelRfl
set_option linter.all false
set_option maxHeartbeats 8000000
namespace Go.Vc
open Go.Proofs Go.Proofs.Tryz
section
variable (P:Program) (n:Nat) (L:List Nat)
def mM:Code->bG
 |.skip=>.skip
 |.region id ops draw=>if L.contains (id*2)then .uM ((ops.toList.take (ops.size-1)).map (bM P n ops)) ((ops.toList.drop (ops.size-1)).map (bM P n ops))else if L.contains (id*2+1)then .regA (ops.toList.map (bM P n ops)) (ops.toList.map λo=>(o.after.toList.filter (Region.binds .any)).map (·.on))else .Za draw (ops.toList.map (bM P n ops))
 |.seq a b=>.seq (mM a) (mM b)
 |.cond c a b=>.cond (cx n c) (mM a) (mM b)
 |.block id a=>.block id (mM a)
 |.loop a=>.loop (mM a)
 |.exit id=>.exit id
 |.ret=>.ret
 |.rangeFunc g ps a c=>.ej (cx n g) ps.toList (mM a) (mM c)
 |_=>.bad
end
def TZ(P:Program)(fn:Func)(L:List Nat):WD:=match fn.body with
 |some c=>⟨fn.ntmps,mM P fn.ntmps L c,fn.results.toList.map (Bi P fn.ntmps)⟩
 |none=>⟨0,.skip,[]⟩
structure Kc(fn:Func)(L:List Nat:=[]) where
 c:WD
 h:TZ prog fn L=c:=by conv=>lhs;cbv
set_option cbv.maxSteps 1000000000
set_option maxRecDepth 1000000
def c6:WD:=({c:=_}:Kc f6).1
def e6:Fo prog 6 f6 c6:=.mk func6
def c9:WD:=({c:=_}:Kc f9).1
def e9:Fo prog 9 f9 c9:=.mk func9
def c10:WD:=({c:=_}:Kc f10).1
def e10:Fo prog 10 f10 c10:=.mk func10
def c11:WD:=({c:=_}:Kc f11).1
def e11:Fo prog 11 f11 c11:=.mk func11
def c12:WD:=({c:=_}:Kc f12).1
def e12:Fo prog 12 f12 c12:=.mk func12
def c13:WD:=({c:=_}:Kc f13).1
def e13:Fo prog 13 f13 c13:=.mk func13
def c16:WD:=({c:=_}:Kc f16).1
def e16:Fo prog 16 f16 c16:=.mk func16
def c17:WD:=({c:=_}:Kc f17).1
def e17:Fo prog 17 f17 c17:=.mk func17
def c18:WD:=({c:=_}:Kc f18).1
def e18:Fo prog 18 f18 c18:=.mk func18
def c19:WD:=({c:=_}:Kc f19).1
def e19:Fo prog 19 f19 c19:=.mk func19
def c23:WD:=({c:=_}:Kc f23 [27]).1
def e23:Fo prog 23 f23 c23:=.mk func23
def c24:WD:=({c:=_}:Kc f24).1
def e24:Fo prog 24 f24 c24:=.mk func24
def c25:WD:=({c:=_}:Kc f25).1
def e25:Fo prog 25 f25 c25:=.mk func25
def c26:WD:=({c:=_}:Kc f26).1
def e26:Fo prog 26 f26 c26:=.mk func26
def c27:WD:=({c:=_}:Kc f27).1
def e27:Fo prog 27 f27 c27:=.mk func27
def c28:WD:=({c:=_}:Kc f28 [13,14]).1
def e28:Fo prog 28 f28 c28:=.mk func28
def c29:WD:=({c:=_}:Kc f29).1
def e29:Fo prog 29 f29 c29:=.mk func29
def c30:WD:=({c:=_}:Kc f30).1
def e30:Fo prog 30 f30 c30:=.mk func30
def c31:WD:=({c:=_}:Kc f31).1
def e31:Fo prog 31 f31 c31:=.mk func31
def c32:WD:=({c:=_}:Kc f32).1
def e32:Fo prog 32 f32 c32:=.mk func32
def c33:WD:=({c:=_}:Kc f33).1
def e33:Fo prog 33 f33 c33:=.mk func33
def c34:WD:=({c:=_}:Kc f34).1
def e34:Fo prog 34 f34 c34:=.mk func34
def c35:WD:=({c:=_}:Kc f35 [3]).1
def e35:Fo prog 35 f35 c35:=.mk func35
def c36:WD:=({c:=_}:Kc f36).1
def e36:Fo prog 36 f36 c36:=.mk func36
def c37:WD:=({c:=_}:Kc f37).1
def e37:Fo prog 37 f37 c37:=.mk func37
def c44:WD:=({c:=_}:Kc f44).1
def e44:Fo prog 44 f44 c44:=.mk func44
def c45:WD:=({c:=_}:Kc f45).1
def e45:Fo prog 45 f45 c45:=.mk func45
def c46:WD:=({c:=_}:Kc f46).1
def e46:Fo prog 46 f46 c46:=.mk func46
def c47:WD:=({c:=_}:Kc f47).1
def e47:Fo prog 47 f47 c47:=.mk func47
def c48:WD:=({c:=_}:Kc f48).1
def e48:Fo prog 48 f48 c48:=.mk func48
def c49:WD:=({c:=_}:Kc f49).1
def e49:Fo prog 49 f49 c49:=.mk func49
def c50:WD:=({c:=_}:Kc f50).1
def e50:Fo prog 50 f50 c50:=.mk func50
def c51:WD:=({c:=_}:Kc f51).1
def e51:Fo prog 51 f51 c51:=.mk func51
def c52:WD:=({c:=_}:Kc f52).1
def e52:Fo prog 52 f52 c52:=.mk func52
def c53:WD:=({c:=_}:Kc f53).1
def e53:Fo prog 53 f53 c53:=.mk func53
def c54:WD:=({c:=_}:Kc f54).1
def e54:Fo prog 54 f54 c54:=.mk func54
def c55:WD:=({c:=_}:Kc f55).1
def e55:Fo prog 55 f55 c55:=.mk func55
def c56:WD:=({c:=_}:Kc f56).1
def e56:Fo prog 56 f56 c56:=.mk func56
def c57:WD:=({c:=_}:Kc f57).1
def e57:Fo prog 57 f57 c57:=.mk func57
def c58:WD:=({c:=_}:Kc f58 [15,31,35]).1
def e58:Fo prog 58 f58 c58:=.mk func58
def c59:WD:=({c:=_}:Kc f59).1
def e59:Fo prog 59 f59 c59:=.mk func59
def c60:WD:=({c:=_}:Kc f60).1
def e60:Fo prog 60 f60 c60:=.mk func60
def c61:WD:=({c:=_}:Kc f61).1
def e61:Fo prog 61 f61 c61:=.mk func61
def c62:WD:=({c:=_}:Kc f62).1
def e62:Fo prog 62 f62 c62:=.mk func62
def c63:WD:=({c:=_}:Kc f63).1
def e63:Fo prog 63 f63 c63:=.mk func63
def c64:WD:=({c:=_}:Kc f64).1
def e64:Fo prog 64 f64 c64:=.mk func64
def c65:WD:=({c:=_}:Kc f65).1
def e65:Fo prog 65 f65 c65:=.mk func65
def c66:WD:=({c:=_}:Kc f66).1
def e66:Fo prog 66 f66 c66:=.mk func66
def c67:WD:=({c:=_}:Kc f67).1
def e67:Fo prog 67 f67 c67:=.mk func67
def c68:WD:=({c:=_}:Kc f68).1
def e68:Fo prog 68 f68 c68:=.mk func68
def c69:WD:=({c:=_}:Kc f69).1
def e69:Fo prog 69 f69 c69:=.mk func69
def c70:WD:=({c:=_}:Kc f70).1
def e70:Fo prog 70 f70 c70:=.mk func70
def c71:WD:=({c:=_}:Kc f71).1
def e71:Fo prog 71 f71 c71:=.mk func71
def c72:WD:=({c:=_}:Kc f72).1
def e72:Fo prog 72 f72 c72:=.mk func72
def c73:WD:=({c:=_}:Kc f73).1
def e73:Fo prog 73 f73 c73:=.mk func73
def c74:WD:=({c:=_}:Kc f74).1
def e74:Fo prog 74 f74 c74:=.mk func74
def c75:WD:=({c:=_}:Kc f75).1
def e75:Fo prog 75 f75 c75:=.mk func75
def c76:WD:=({c:=_}:Kc f76).1
def e76:Fo prog 76 f76 c76:=.mk func76
def RC:WD:=({c:=_}:Kc f101).1
def UK:Fo prog 101 f101 RC:=.mk func101
def QV:WD:=({c:=_}:Kc f102).1
def UO:Fo prog 102 f102 QV:=.mk func102
def PU:WD:=({c:=_}:Kc f103).1
def TF:Fo prog 103 f103 PU:=.mk func103
def Pc:WD:=({c:=_}:Kc f104).1
def Us:Fo prog 104 f104 Pc:=.mk func104
def QH:WD:=({c:=_}:Kc f105).1
def Tq:Fo prog 105 f105 QH:=.mk func105
def Qc:WD:=({c:=_}:Kc f106).1
def TM:Fo prog 106 f106 Qc:=.mk func106
def Ph:WD:=({c:=_}:Kc f107).1
def U3:Fo prog 107 f107 Ph:=.mk func107
def NH:WD:=({c:=_}:Kc f108).1
def Vm:Fo prog 108 f108 NH:=.mk func108
def N4:WD:=({c:=_}:Kc f109).1
def Uo:Fo prog 109 f109 N4:=.mk func109
def O6:WD:=({c:=_}:Kc f110).1
def Ux:Fo prog 110 f110 O6:=.mk func110
def Qa:WD:=({c:=_}:Kc f111).1
def Wj:Fo prog 111 f111 Qa:=.mk func111
def GM:WD:=({c:=_}:Kc f112).1
def VU:Fo prog 112 f112 GM:=.mk func112
def V0:WD:=({c:=_}:Kc f113).1
def So:Fo prog 113 f113 V0:=.mk func113
def Ok:WD:=({c:=_}:Kc f114).1
def UG:Fo prog 114 f114 Ok:=.mk func114
def Hg:WD:=({c:=_}:Kc f115 [9]).1
def VS:Fo prog 115 f115 Hg:=.mk func115
def Q1:WD:=({c:=_}:Kc f116).1
def Tv:Fo prog 116 f116 Q1:=.mk func116
def Qv:WD:=({c:=_}:Kc f117 [11]).1
def Wt:Fo prog 117 f117 Qv:=.mk func117
def O1:WD:=({c:=_}:Kc f118).1
def VT:Fo prog 118 f118 O1:=.mk func118
def PM:WD:=({c:=_}:Kc f119).1
def TY:Fo prog 119 f119 PM:=.mk func119
def NZ:WD:=({c:=_}:Kc f120).1
def Tw:Fo prog 120 f120 NZ:=.mk func120
def Pk:WD:=({c:=_}:Kc f121).1
def Wp:Fo prog 121 f121 Pk:=.mk func121
def NQ:WD:=({c:=_}:Kc f122).1
def Uf:Fo prog 122 f122 NQ:=.mk func122
def P6:WD:=({c:=_}:Kc f123).1
def U2:Fo prog 123 f123 P6:=.mk func123
def Qn:WD:=({c:=_}:Kc f124).1
def Uy:Fo prog 124 f124 Qn:=.mk func124
def Rn:WD:=({c:=_}:Kc f125).1
def Vq:Fo prog 125 f125 Rn:=.mk func125
def Re:WD:=({c:=_}:Kc f126).1
def Uw:Fo prog 126 f126 Re:=.mk func126
def Oy:WD:=({c:=_}:Kc f127).1
def VQ:Fo prog 127 f127 Oy:=.mk func127
def RJ:WD:=({c:=_}:Kc f128).1
def V3:Fo prog 128 f128 RJ:=.mk func128
def NG:WD:=({c:=_}:Kc f129).1
def Tp:Fo prog 129 f129 NG:=.mk func129
def Rz:WD:=({c:=_}:Kc f130).1
def Tx:Fo prog 130 f130 Rz:=.mk func130
def Ra:WD:=({c:=_}:Kc f131).1
def UX:Fo prog 131 f131 Ra:=.mk func131
def Uc:WD:=({c:=_}:Kc f132).1
def SN:Fo prog 132 f132 Uc:=.mk func132
def Rf:WD:=({c:=_}:Kc f133).1
def TD:Fo prog 133 f133 Rf:=.mk func133
def N9:WD:=({c:=_}:Kc f134).1
def Ws:Fo prog 134 f134 N9:=.mk func134
def NL:WD:=({c:=_}:Kc f135).1
def UI:Fo prog 135 f135 NL:=.mk func135
def HK:WD:=({c:=_}:Kc f154).1
def R5:Fo prog 154 f154 HK:=.mk func154
def H0:WD:=({c:=_}:Kc f155).1
def SY:Fo prog 155 f155 H0:=.mk func155
def PV:WD:=({c:=_}:Kc f156).1
def Vs:Fo prog 156 f156 PV:=.mk func156
def Qy:WD:=({c:=_}:Kc f157).1
def Vj:Fo prog 157 f157 Qy:=.mk func157
def QB:WD:=({c:=_}:Kc f158).1
def Vd:Fo prog 158 f158 QB:=.mk func158
def Ql:WD:=({c:=_}:Kc f159).1
def Wd:Fo prog 159 f159 Ql:=.mk func159
def H3:WD:=({c:=_}:Kc f160).1
def TU:Fo prog 160 f160 H3:=.mk func160
def Q2:WD:=({c:=_}:Kc f161).1
def Wl:Fo prog 161 f161 Q2:=.mk func161
def PZ:WD:=({c:=_}:Kc f162 [12]).1
def U7:Fo prog 162 f162 PZ:=.mk func162
def Pu:WD:=({c:=_}:Kc f163 [9,13]).1
def Tk:Fo prog 163 f163 Pu:=.mk func163
def Rc:WD:=({c:=_}:Kc f164).1
def Va:Fo prog 164 f164 Rc:=.mk func164
def N1:WD:=({c:=_}:Kc f165 [3]).1
def Up:Fo prog 165 f165 N1:=.mk func165
def Qf:WD:=({c:=_}:Kc f166 [5]).1
def Ul:Fo prog 166 f166 Qf:=.mk func166
def NW:WD:=({c:=_}:Kc f167).1
def Ub:Fo prog 167 f167 NW:=.mk func167
def Om:WD:=({c:=_}:Kc f168).1
def Tu:Fo prog 168 f168 Om:=.mk func168
def OD:WD:=({c:=_}:Kc f169).1
def Un:Fo prog 169 f169 OD:=.mk func169
def Rb:WD:=({c:=_}:Kc f170).1
def UB:Fo prog 170 f170 Rb:=.mk func170
def Po:WD:=({c:=_}:Kc f171).1
def Ts:Fo prog 171 f171 Po:=.mk func171
def N0:WD:=({c:=_}:Kc f172).1
def TP:Fo prog 172 f172 N0:=.mk func172
def RA:WD:=({c:=_}:Kc f173).1
def TB:Fo prog 173 f173 RA:=.mk func173
def PH:WD:=({c:=_}:Kc f174).1
def V5:Fo prog 174 f174 PH:=.mk func174
def NF:WD:=({c:=_}:Kc f175).1
def TR:Fo prog 175 f175 NF:=.mk func175
def Oe:WD:=({c:=_}:Kc f176).1
def Uz:Fo prog 176 f176 Oe:=.mk func176
def QI:WD:=({c:=_}:Kc f177).1
def Wr:Fo prog 177 f177 QI:=.mk func177
def OX:WD:=({c:=_}:Kc f178).1
def Ue:Fo prog 178 f178 OX:=.mk func178
def OB:WD:=({c:=_}:Kc f179).1
def TE:Fo prog 179 f179 OB:=.mk func179
def IX:WD:=({c:=_}:Kc f180 [5]).1
def VZ:Fo prog 180 f180 IX:=.mk func180
def Pv:WD:=({c:=_}:Kc f181 [11]).1
def TA:Fo prog 181 f181 Pv:=.mk func181
def Km:WD:=({c:=_}:Kc f182).1
def UY:Fo prog 182 f182 Km:=.mk func182
def TV:WD:=({c:=_}:Kc f183).1
def SK:Fo prog 183 f183 TV:=.mk func183
def MZ:WD:=({c:=_}:Kc f184).1
def U5:Fo prog 184 f184 MZ:=.mk func184
def PJ:WD:=({c:=_}:Kc f185).1
def Vl:Fo prog 185 f185 PJ:=.mk func185
def OZ:WD:=({c:=_}:Kc f186).1
def Vh:Fo prog 186 f186 OZ:=.mk func186
def P3:WD:=({c:=_}:Kc f187).1
def VJ:Fo prog 187 f187 P3:=.mk func187
def O8:WD:=({c:=_}:Kc f188).1
def Ur:Fo prog 188 f188 O8:=.mk func188
def PG:WD:=({c:=_}:Kc f189).1
def Uu:Fo prog 189 f189 PG:=.mk func189
def L7:WD:=({c:=_}:Kc f190).1
def US:Fo prog 190 f190 L7:=.mk func190
def KQ:WD:=({c:=_}:Kc f191).1
def U4:Fo prog 191 f191 KQ:=.mk func191
def PQ:WD:=({c:=_}:Kc f210).1
def Ty:Fo prog 210 f210 PQ:=.mk func210
def Qj:WD:=({c:=_}:Kc f211).1
def TI:Fo prog 211 f211 Qj:=.mk func211
def NN:WD:=({c:=_}:Kc f212).1
def V4:Fo prog 212 f212 NN:=.mk func212
def QE:WD:=({c:=_}:Kc f213).1
def R4:Fo prog 213 f213 QE:=.mk func213
def Og:WD:=({c:=_}:Kc f214).1
def UQ:Fo prog 214 f214 Og:=.mk func214
def Pb:WD:=({c:=_}:Kc f215).1
def WC:Fo prog 215 f215 Pb:=.mk func215
def Ru:WD:=({c:=_}:Kc f216).1
def Wi:Fo prog 216 f216 Ru:=.mk func216
def Q5:WD:=({c:=_}:Kc f217).1
def Ww:Fo prog 217 f217 Q5:=.mk func217
def NU:WD:=({c:=_}:Kc f218).1
def TG:Fo prog 218 f218 NU:=.mk func218
def QD:WD:=({c:=_}:Kc f219).1
def To:Fo prog 219 f219 QD:=.mk func219
def QJ:WD:=({c:=_}:Kc f220).1
def V6:Fo prog 220 f220 QJ:=.mk func220
def Rd:WD:=({c:=_}:Kc f221 [5]).1
def Wg:Fo prog 221 f221 Rd:=.mk func221
def OJ:WD:=({c:=_}:Kc f222 [9]).1
def Wo:Fo prog 222 f222 OJ:=.mk func222
def PA:WD:=({c:=_}:Kc f223 [5]).1
def VO:Fo prog 223 f223 PA:=.mk func223
def Ol:WD:=({c:=_}:Kc f224).1
def UP:Fo prog 224 f224 Ol:=.mk func224
def Rh:WD:=({c:=_}:Kc f225).1
def Ut:Fo prog 225 f225 Rh:=.mk func225
def P0:WD:=({c:=_}:Kc f226).1
def V8:Fo prog 226 f226 P0:=.mk func226
def O9:WD:=({c:=_}:Kc f227).1
def V2:Fo prog 227 f227 O9:=.mk func227
def On:WD:=({c:=_}:Kc f228).1
def TN:Fo prog 228 f228 On:=.mk func228
def NJ:WD:=({c:=_}:Kc f229).1
def Wc:Fo prog 229 f229 NJ:=.mk func229
def Qi:WD:=({c:=_}:Kc f230).1
def Wh:Fo prog 230 f230 Qi:=.mk func230
def OT:WD:=({c:=_}:Kc f231).1
def UA:Fo prog 231 f231 OT:=.mk func231
def Ov:WD:=({c:=_}:Kc f232).1
def Ve:Fo prog 232 f232 Ov:=.mk func232
def PB:WD:=({c:=_}:Kc f233).1
def U8:Fo prog 233 f233 PB:=.mk func233
def NY:WD:=({c:=_}:Kc f234).1
def Tt:Fo prog 234 f234 NY:=.mk func234
def NM:WD:=({c:=_}:Kc f235).1
def TL:Fo prog 235 f235 NM:=.mk func235
def Pt:WD:=({c:=_}:Kc f236).1
def WB:Fo prog 236 f236 Pt:=.mk func236
def ON:WD:=({c:=_}:Kc f237).1
def Tl:Fo prog 237 f237 ON:=.mk func237
def NT:WD:=({c:=_}:Kc f238).1
def VP:Fo prog 238 f238 NT:=.mk func238
def LS:WD:=({c:=_}:Kc f239).1
def UF:Fo prog 239 f239 LS:=.mk func239
def O5:WD:=({c:=_}:Kc f240).1
def UM:Fo prog 240 f240 O5:=.mk func240
def Ps:WD:=({c:=_}:Kc f241).1
def UN:Fo prog 241 f241 Ps:=.mk func241
def PC:WD:=({c:=_}:Kc f242).1
def Wm:Fo prog 242 f242 PC:=.mk func242
def Oa:WD:=({c:=_}:Kc f243).1
def UW:Fo prog 243 f243 Oa:=.mk func243
def O3:WD:=({c:=_}:Kc f244).1
def VH:Fo prog 244 f244 O3:=.mk func244
def Ot:WD:=({c:=_}:Kc f257).1
def V9:Fo prog 257 f257 Ot:=.mk func257
def Pm:WD:=({c:=_}:Kc f258).1
def Vw:Fo prog 258 f258 Pm:=.mk func258
def Q3:WD:=({c:=_}:Kc f259).1
def VI:Fo prog 259 f259 Q3:=.mk func259
def OC:WD:=({c:=_}:Kc f260).1
def Se:Fo prog 260 f260 OC:=.mk func260
def RG:WD:=({c:=_}:Kc f261).1
def VK:Fo prog 261 f261 RG:=.mk func261
def P9:WD:=({c:=_}:Kc f262).1
def TK:Fo prog 262 f262 P9:=.mk func262
def Qz:WD:=({c:=_}:Kc f263).1
def Vz:Fo prog 263 f263 Qz:=.mk func263
def Lo:WD:=({c:=_}:Kc f264).1
def TH:Fo prog 264 f264 Lo:=.mk func264
def PL:WD:=({c:=_}:Kc f265).1
def U0:Fo prog 265 f265 PL:=.mk func265
def Oj:WD:=({c:=_}:Kc f266).1
def VN:Fo prog 266 f266 Oj:=.mk func266
def NO:WD:=({c:=_}:Kc f267).1
def Vy:Fo prog 267 f267 NO:=.mk func267
def RI:WD:=({c:=_}:Kc f268).1
def Wu:Fo prog 268 f268 RI:=.mk func268
def PE:WD:=({c:=_}:Kc f269).1
def UR:Fo prog 269 f269 PE:=.mk func269
def OK:WD:=({c:=_}:Kc f270).1
def VB:Fo prog 270 f270 OK:=.mk func270
def QK:WD:=({c:=_}:Kc f271).1
def UJ:Fo prog 271 f271 QK:=.mk func271
def Rv:WD:=({c:=_}:Kc f272).1
def Tm:Fo prog 272 f272 Rv:=.mk func272
def OH:WD:=({c:=_}:Kc f273).1
def UD:Fo prog 273 f273 OH:=.mk func273
def NP:WD:=({c:=_}:Kc f274).1
def UH:Fo prog 274 f274 NP:=.mk func274
def Ku:WD:=({c:=_}:Kc f275).1
def UC:Fo prog 275 f275 Ku:=.mk func275
def O2:WD:=({c:=_}:Kc f276).1
def Wb:Fo prog 276 f276 O2:=.mk func276
def Rg:WD:=({c:=_}:Kc f277).1
def VC:Fo prog 277 f277 Rg:=.mk func277
def OF:WD:=({c:=_}:Kc f278).1
def UL:Fo prog 278 f278 OF:=.mk func278
def Lh:WD:=({c:=_}:Kc f279).1
def VW:Fo prog 279 f279 Lh:=.mk func279
def NV:WD:=({c:=_}:Kc f280).1
def V1:Fo prog 280 f280 NV:=.mk func280
def IZ:WD:=({c:=_}:Kc f281).1
def Wf:Fo prog 281 f281 IZ:=.mk func281
def RD:WD:=({c:=_}:Kc f282).1
def Wq:Fo prog 282 f282 RD:=.mk func282
def N8:WD:=({c:=_}:Kc f283).1
def Tz:Fo prog 283 f283 N8:=.mk func283
def Rp:WD:=({c:=_}:Kc f284).1
def U1:Fo prog 284 f284 Rp:=.mk func284
def Rk:WD:=({c:=_}:Kc f285).1
def Wn:Fo prog 285 f285 Rk:=.mk func285
def N7:WD:=({c:=_}:Kc f286).1
def VY:Fo prog 286 f286 N7:=.mk func286
def QM:WD:=({c:=_}:Kc f287).1
def Vp:Fo prog 287 f287 QM:=.mk func287
def Qd:WD:=({c:=_}:Kc f288).1
def Vt:Fo prog 288 f288 Qd:=.mk func288
def Qm:WD:=({c:=_}:Kc f289).1
def T1:Fo prog 289 f289 Qm:=.mk func289
def OG:WD:=({c:=_}:Kc f290).1
def UU:Fo prog 290 f290 OG:=.mk func290
def NI:WD:=({c:=_}:Kc f291).1
def TQ:Fo prog 291 f291 NI:=.mk func291
def Qr:WD:=({c:=_}:Kc f292).1
def Ua:Fo prog 292 f292 Qr:=.mk func292
def Qw:WD:=({c:=_}:Kc f293).1
def Vk:Fo prog 293 f293 Qw:=.mk func293
def OE:WD:=({c:=_}:Kc f294).1
def Uk:Fo prog 294 f294 OE:=.mk func294
def Rx:WD:=({c:=_}:Kc f295).1
def TT:Fo prog 295 f295 Rx:=.mk func295
def Q4:WD:=({c:=_}:Kc f302).1
def Wv:Fo prog 302 f302 Q4:=.mk func302
def OU:WD:=({c:=_}:Kc f303).1
def Vr:Fo prog 303 f303 OU:=.mk func303
def Rt:WD:=({c:=_}:Kc f304).1
def VE:Fo prog 304 f304 Rt:=.mk func304
def QW:WD:=({c:=_}:Kc f305).1
def TW:Fo prog 305 f305 QW:=.mk func305
def QP:WD:=({c:=_}:Kc f306).1
def Wz:Fo prog 306 f306 QP:=.mk func306
def Oo:WD:=({c:=_}:Kc f307).1
def Wa:Fo prog 307 f307 Oo:=.mk func307
def Pw:WD:=({c:=_}:Kc f308).1
def Vn:Fo prog 308 f308 Pw:=.mk func308
def N3:WD:=({c:=_}:Kc f309).1
def Uh:Fo prog 309 f309 N3:=.mk func309
def I1:WD:=({c:=_}:Kc f310).1
def Vg:Fo prog 310 f310 I1:=.mk func310
def LQ:WD:=({c:=_}:Kc f311).1
def WA:Fo prog 311 f311 LQ:=.mk func311
def Pq:WD:=({c:=_}:Kc f312 [8]).1
def Uv:Fo prog 312 f312 Pq:=.mk func312
def O0:WD:=({c:=_}:Kc f313).1
def V7:Fo prog 313 f313 O0:=.mk func313
def Of:WD:=({c:=_}:Kc f314).1
def Vx:Fo prog 314 f314 Of:=.mk func314
def Mj:WD:=({c:=_}:Kc f315).1
def Ug:Fo prog 315 f315 Mj:=.mk func315
def Pp:WD:=({c:=_}:Kc f316).1
def VG:Fo prog 316 f316 Pp:=.mk func316
def Pj:WD:=({c:=_}:Kc f317).1
def SI:Fo prog 317 f317 Pj:=.mk func317
def Pa:WD:=({c:=_}:Kc f318).1
def Uj:Fo prog 318 f318 Pa:=.mk func318
def N5:WD:=({c:=_}:Kc f319).1
def Uq:Fo prog 319 f319 N5:=.mk func319
def Oh:WD:=({c:=_}:Kc f320).1
def S1:Fo prog 320 f320 Oh:=.mk func320
def NS:WD:=({c:=_}:Kc f321).1
def Sr:Fo prog 321 f321 NS:=.mk func321
def Qu:WD:=({c:=_}:Kc f322).1
def T9:Fo prog 322 f322 Qu:=.mk func322
def Qk:WD:=({c:=_}:Kc f326).1
def UT:Fo prog 326 f326 Qk:=.mk func326
def Rq:WD:=({c:=_}:Kc f327).1
def Vb:Fo prog 327 f327 Rq:=.mk func327
def QU:WD:=({c:=_}:Kc f328).1
def Vv:Fo prog 328 f328 QU:=.mk func328
def P5:WD:=({c:=_}:Kc f329).1
def VF:Fo prog 329 f329 P5:=.mk func329
def O4:WD:=({c:=_}:Kc f330).1
def T0:Fo prog 330 f330 O4:=.mk func330
def QX:WD:=({c:=_}:Kc f331).1
def U6:Fo prog 331 f331 QX:=.mk func331
def Q9:WD:=({c:=_}:Kc f332).1
def VA:Fo prog 332 f332 Q9:=.mk func332
def QQ:WD:=({c:=_}:Kc f333).1
def VL:Fo prog 333 f333 QQ:=.mk func333
def OA:WD:=({c:=_}:Kc f334).1
def Wy:Fo prog 334 f334 OA:=.mk func334
def PK:WD:=({c:=_}:Kc f335).1
def SP:Fo prog 335 f335 PK:=.mk func335
def Pe:WD:=({c:=_}:Kc f336).1
def Um:Fo prog 336 f336 Pe:=.mk func336
def ND:WD:=({c:=_}:Kc f337).1
def RY:Fo prog 337 f337 ND:=.mk func337
def QN:WD:=({c:=_}:Kc f338).1
def UE:Fo prog 338 f338 QN:=.mk func338
end Go.Vc
