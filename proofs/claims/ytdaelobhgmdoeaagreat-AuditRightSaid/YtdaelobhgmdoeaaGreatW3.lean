/- Part 3 of the library of this proof. -/
import Derived.Test.YtdaelobhgmdoeaaGreatW2
import Derived.Test.YtdaelobhgmdoeaaGreatProg
import Derived.KernelRfl
set_option linter.all false
set_option maxHeartbeats 8000000
namespace Go.Vc
open Go.Proofs Go.Proofs.Tryz
section
variable (P:Program) (n:Nat) (L:List Nat)
def mV:Code->bc
 |.skip=>.skip
 |.region id ops draw=>if L.contains (id*2)then .ny ((ops.toList.take (ops.size-1)).map (bF P n ops)) ((ops.toList.drop (ops.size-1)).map (bF P n ops))else if L.contains (id*2+1)then .regA (ops.toList.map (bF P n ops)) (ops.toList.map λo=>(o.after.toList.filter (Region.binds .any)).map (·.on))else .reg draw (ops.toList.map (bF P n ops))
 |.seq a b=>.seq (mV a) (mV b)
 |.cond c a b=>.cond (cx n c) (mV a) (mV b)
 |.block id a=>.block id (mV a)
 |.loop a=>.loop (mV a)
 |.exit id=>.exit id
 |.ret=>.ret
 |.rangeFunc g ps a c=>.cA (cx n g) ps.toList (mV a) (mV c)
 |_=>.bad
end
def Ww(P:Program)(fn:Func)(L:List Nat):Yh:=match fn.body with
 |some c=>⟨fn.ntmps,mV P fn.ntmps L c,fn.results.toList.map (Bc P fn.ntmps)⟩
 |none=>⟨0,.skip,[]⟩
structure Kc(fn:Func)(L:List Nat:=[]) where
 c:Yh
 h:Ww prog fn L=c:=by conv=>lhs;cbv
set_option cbv.maxSteps 1000000000
set_option maxRecDepth 1000000
def c3:Yh:=({c:=_}:Kc f3).1
def e3:Fo prog 3 f3 c3:=.mk func3
def c7:Yh:=({c:=_}:Kc f7).1
def e7:Fo prog 7 f7 c7:=.mk func7
def c9:Yh:=({c:=_}:Kc f9).1
def e9:Fo prog 9 f9 c9:=.mk func9
def c10:Yh:=({c:=_}:Kc f10).1
def e10:Fo prog 10 f10 c10:=.mk func10
def c11:Yh:=({c:=_}:Kc f11).1
def e11:Fo prog 11 f11 c11:=.mk func11
def c12:Yh:=({c:=_}:Kc f12).1
def e12:Fo prog 12 f12 c12:=.mk func12
def c13:Yh:=({c:=_}:Kc f13).1
def e13:Fo prog 13 f13 c13:=.mk func13
def c15:Yh:=({c:=_}:Kc f15).1
def e15:Fo prog 15 f15 c15:=.mk func15
def c22:Yh:=({c:=_}:Kc f22).1
def e22:Fo prog 22 f22 c22:=.mk func22
def c23:Yh:=({c:=_}:Kc f23 [27]).1
def e23:Fo prog 23 f23 c23:=.mk func23
def c24:Yh:=({c:=_}:Kc f24).1
def e24:Fo prog 24 f24 c24:=.mk func24
def c25:Yh:=({c:=_}:Kc f25).1
def e25:Fo prog 25 f25 c25:=.mk func25
def c26:Yh:=({c:=_}:Kc f26).1
def e26:Fo prog 26 f26 c26:=.mk func26
def c27:Yh:=({c:=_}:Kc f27).1
def e27:Fo prog 27 f27 c27:=.mk func27
def c28:Yh:=({c:=_}:Kc f28 [13,14]).1
def e28:Fo prog 28 f28 c28:=.mk func28
def c29:Yh:=({c:=_}:Kc f29).1
def e29:Fo prog 29 f29 c29:=.mk func29
def c30:Yh:=({c:=_}:Kc f30).1
def e30:Fo prog 30 f30 c30:=.mk func30
def c31:Yh:=({c:=_}:Kc f31).1
def e31:Fo prog 31 f31 c31:=.mk func31
def c32:Yh:=({c:=_}:Kc f32).1
def e32:Fo prog 32 f32 c32:=.mk func32
def c44:Yh:=({c:=_}:Kc f44).1
def e44:Fo prog 44 f44 c44:=.mk func44
def c45:Yh:=({c:=_}:Kc f45).1
def e45:Fo prog 45 f45 c45:=.mk func45
def c46:Yh:=({c:=_}:Kc f46).1
def e46:Fo prog 46 f46 c46:=.mk func46
def c47:Yh:=({c:=_}:Kc f47).1
def e47:Fo prog 47 f47 c47:=.mk func47
def c48:Yh:=({c:=_}:Kc f48).1
def e48:Fo prog 48 f48 c48:=.mk func48
def c49:Yh:=({c:=_}:Kc f49).1
def e49:Fo prog 49 f49 c49:=.mk func49
def c50:Yh:=({c:=_}:Kc f50).1
def e50:Fo prog 50 f50 c50:=.mk func50
def c51:Yh:=({c:=_}:Kc f51).1
def e51:Fo prog 51 f51 c51:=.mk func51
def c52:Yh:=({c:=_}:Kc f52).1
def e52:Fo prog 52 f52 c52:=.mk func52
def c53:Yh:=({c:=_}:Kc f53).1
def e53:Fo prog 53 f53 c53:=.mk func53
def c54:Yh:=({c:=_}:Kc f54).1
def e54:Fo prog 54 f54 c54:=.mk func54
def c55:Yh:=({c:=_}:Kc f55).1
def e55:Fo prog 55 f55 c55:=.mk func55
def c56:Yh:=({c:=_}:Kc f56).1
def e56:Fo prog 56 f56 c56:=.mk func56
def c57:Yh:=({c:=_}:Kc f57).1
def e57:Fo prog 57 f57 c57:=.mk func57
def c58:Yh:=({c:=_}:Kc f58 [15,31,35]).1
def e58:Fo prog 58 f58 c58:=.mk func58
def c59:Yh:=({c:=_}:Kc f59).1
def e59:Fo prog 59 f59 c59:=.mk func59
def c60:Yh:=({c:=_}:Kc f60).1
def e60:Fo prog 60 f60 c60:=.mk func60
def c61:Yh:=({c:=_}:Kc f61).1
def e61:Fo prog 61 f61 c61:=.mk func61
def c62:Yh:=({c:=_}:Kc f62).1
def e62:Fo prog 62 f62 c62:=.mk func62
def c63:Yh:=({c:=_}:Kc f63).1
def e63:Fo prog 63 f63 c63:=.mk func63
def c64:Yh:=({c:=_}:Kc f64).1
def e64:Fo prog 64 f64 c64:=.mk func64
def c65:Yh:=({c:=_}:Kc f65).1
def e65:Fo prog 65 f65 c65:=.mk func65
def c66:Yh:=({c:=_}:Kc f66).1
def e66:Fo prog 66 f66 c66:=.mk func66
def Ss:Yh:=({c:=_}:Kc f101).1
def WK:Fo prog 101 f101 Ss:=.mk func101
def Rb:Yh:=({c:=_}:Kc f102).1
def XU:Fo prog 102 f102 Rb:=.mk func102
def Tk:Yh:=({c:=_}:Kc f103).1
def VG:Fo prog 103 f103 Tk:=.mk func103
def Sd:Yh:=({c:=_}:Kc f104).1
def WM:Fo prog 104 f104 Sd:=.mk func104
def QR:Yh:=({c:=_}:Kc f105).1
def Vb:Fo prog 105 f105 QR:=.mk func105
def QN:Yh:=({c:=_}:Kc f106).1
def Xt:Fo prog 106 f106 QN:=.mk func106
def Qv:Yh:=({c:=_}:Kc f107).1
def Xj:Fo prog 107 f107 Qv:=.mk func107
def SE:Yh:=({c:=_}:Kc f108).1
def Vl:Fo prog 108 f108 SE:=.mk func108
def Rc:Yh:=({c:=_}:Kc f109).1
def XR:Fo prog 109 f109 Rc:=.mk func109
def Pz:Yh:=({c:=_}:Kc f110).1
def VL:Fo prog 110 f110 Pz:=.mk func110
def Qd:Yh:=({c:=_}:Kc f111).1
def Xg:Fo prog 111 f111 Qd:=.mk func111
def Hu:Yh:=({c:=_}:Kc f112).1
def VH:Fo prog 112 f112 Hu:=.mk func112
def WG:Yh:=({c:=_}:Kc f113).1
def UX:Fo prog 113 f113 WG:=.mk func113
def Rh:Yh:=({c:=_}:Kc f114).1
def Wt:Fo prog 114 f114 Rh:=.mk func114
def GY:Yh:=({c:=_}:Kc f115 [9]).1
def VB:Fo prog 115 f115 GY:=.mk func115
def Tl:Yh:=({c:=_}:Kc f116).1
def U1:Fo prog 116 f116 Tl:=.mk func116
def R8:Yh:=({c:=_}:Kc f117 [11]).1
def Xq:Fo prog 117 f117 R8:=.mk func117
def RJ:Yh:=({c:=_}:Kc f118).1
def Xr:Fo prog 118 f118 RJ:=.mk func118
def OW:Yh:=({c:=_}:Kc f119).1
def Vt:Fo prog 119 f119 OW:=.mk func119
def Pj:Yh:=({c:=_}:Kc f120).1
def XP:Fo prog 120 f120 Pj:=.mk func120
def PS:Yh:=({c:=_}:Kc f121).1
def X1:Fo prog 121 f121 PS:=.mk func121
def Rv:Yh:=({c:=_}:Kc f122).1
def WA:Fo prog 122 f122 Rv:=.mk func122
def QG:Yh:=({c:=_}:Kc f123).1
def V8:Fo prog 123 f123 QG:=.mk func123
def QP:Yh:=({c:=_}:Kc f124).1
def Xb:Fo prog 124 f124 QP:=.mk func124
def P5:Yh:=({c:=_}:Kc f125).1
def WI:Fo prog 125 f125 P5:=.mk func125
def Sz:Yh:=({c:=_}:Kc f126).1
def VI:Fo prog 126 f126 Sz:=.mk func126
def SD:Yh:=({c:=_}:Kc f127).1
def Xh:Fo prog 127 f127 SD:=.mk func127
def Qz:Yh:=({c:=_}:Kc f128).1
def X9:Fo prog 128 f128 Qz:=.mk func128
def SL:Yh:=({c:=_}:Kc f129).1
def VA:Fo prog 129 f129 SL:=.mk func129
def Qc:Yh:=({c:=_}:Kc f130).1
def VE:Fo prog 130 f130 Qc:=.mk func130
def Rx:Yh:=({c:=_}:Kc f131).1
def VO:Fo prog 131 f131 Rx:=.mk func131
def JK:Yh:=({c:=_}:Kc f154).1
def Ty:Fo prog 154 f154 JK:=.mk func154
def JO:Yh:=({c:=_}:Kc f155).1
def Tu:Fo prog 155 f155 JO:=.mk func155
def Rr:Yh:=({c:=_}:Kc f156).1
def Xx:Fo prog 156 f156 Rr:=.mk func156
def Qb:Yh:=({c:=_}:Kc f157).1
def V3:Fo prog 157 f157 Qb:=.mk func157
def Sa:Yh:=({c:=_}:Kc f158).1
def U4:Fo prog 158 f158 Sa:=.mk func158
def O5:Yh:=({c:=_}:Kc f159).1
def Wb:Fo prog 159 f159 O5:=.mk func159
def IK:Yh:=({c:=_}:Kc f160).1
def Xm:Fo prog 160 f160 IK:=.mk func160
def Pv:Yh:=({c:=_}:Kc f161).1
def W6:Fo prog 161 f161 Pv:=.mk func161
def Px:Yh:=({c:=_}:Kc f162 [12]).1
def Vs:Fo prog 162 f162 Px:=.mk func162
def RH:Yh:=({c:=_}:Kc f163 [9,13]).1
def Wz:Fo prog 163 f163 RH:=.mk func163
def QH:Yh:=({c:=_}:Kc f164).1
def V1:Fo prog 164 f164 QH:=.mk func164
def RW:Yh:=({c:=_}:Kc f165 [3]).1
def Wd:Fo prog 165 f165 RW:=.mk func165
def RV:Yh:=({c:=_}:Kc f166 [5]).1
def X7:Fo prog 166 f166 RV:=.mk func166
def Su:Yh:=({c:=_}:Kc f167).1
def Wq:Fo prog 167 f167 Su:=.mk func167
def Sx:Yh:=({c:=_}:Kc f168).1
def Vz:Fo prog 168 f168 Sx:=.mk func168
def RP:Yh:=({c:=_}:Kc f169).1
def Vh:Fo prog 169 f169 RP:=.mk func169
def SJ:Yh:=({c:=_}:Kc f170).1
def Wp:Fo prog 170 f170 SJ:=.mk func170
def Tc:Yh:=({c:=_}:Kc f171).1
def Wy:Fo prog 171 f171 Tc:=.mk func171
def Q8:Yh:=({c:=_}:Kc f172).1
def W7:Fo prog 172 f172 Q8:=.mk func172
def PI:Yh:=({c:=_}:Kc f173).1
def Xs:Fo prog 173 f173 PI:=.mk func173
def O2:Yh:=({c:=_}:Kc f174).1
def Wo:Fo prog 174 f174 O2:=.mk func174
def P8:Yh:=({c:=_}:Kc f175).1
def WH:Fo prog 175 f175 P8:=.mk func175
def QX:Yh:=({c:=_}:Kc f176).1
def XL:Fo prog 176 f176 QX:=.mk func176
def OZ:Yh:=({c:=_}:Kc f177).1
def X5:Fo prog 177 f177 OZ:=.mk func177
def Qs:Yh:=({c:=_}:Kc f178).1
def VW:Fo prog 178 f178 Qs:=.mk func178
def Ps:Yh:=({c:=_}:Kc f179).1
def U9:Fo prog 179 f179 Ps:=.mk func179
def Ly:Yh:=({c:=_}:Kc f180 [5]).1
def Wv:Fo prog 180 f180 Ly:=.mk func180
def RL:Yh:=({c:=_}:Kc f181 [11]).1
def X2:Fo prog 181 f181 RL:=.mk func181
def Kv:Yh:=({c:=_}:Kc f182).1
def Wj:Fo prog 182 f182 Kv:=.mk func182
def WR:Yh:=({c:=_}:Kc f183).1
def UG:Fo prog 183 f183 WR:=.mk func183
def L3:Yh:=({c:=_}:Kc f184).1
def Vv:Fo prog 184 f184 L3:=.mk func184
def S1:Yh:=({c:=_}:Kc f185).1
def Xw:Fo prog 185 f185 S1:=.mk func185
def Ph:Yh:=({c:=_}:Kc f186).1
def Vf:Fo prog 186 f186 Ph:=.mk func186
def PW:Yh:=({c:=_}:Kc f188).1
def Xp:Fo prog 188 f188 PW:=.mk func188
def Qh:Yh:=({c:=_}:Kc f210).1
def X8:Fo prog 210 f210 Qh:=.mk func210
def Tj:Yh:=({c:=_}:Kc f211).1
def Vn:Fo prog 211 f211 Tj:=.mk func211
def Pt:Yh:=({c:=_}:Kc f212).1
def Ws:Fo prog 212 f212 Pt:=.mk func212
def RQ:Yh:=({c:=_}:Kc f213).1
def Ul:Fo prog 213 f213 RQ:=.mk func213
def QF:Yh:=({c:=_}:Kc f214).1
def V7:Fo prog 214 f214 QF:=.mk func214
def R6:Yh:=({c:=_}:Kc f215).1
def W1:Fo prog 215 f215 R6:=.mk func215
def Rl:Yh:=({c:=_}:Kc f216).1
def Xo:Fo prog 216 f216 Rl:=.mk func216
def Rd:Yh:=({c:=_}:Kc f217).1
def Wc:Fo prog 217 f217 Rd:=.mk func217
def Sp:Yh:=({c:=_}:Kc f218).1
def Xc:Fo prog 218 f218 Sp:=.mk func218
def QM:Yh:=({c:=_}:Kc f219).1
def Ya:Fo prog 219 f219 QM:=.mk func219
def Ql:Yh:=({c:=_}:Kc f220).1
def WZ:Fo prog 220 f220 Ql:=.mk func220
def Ry:Yh:=({c:=_}:Kc f221 [5]).1
def Vk:Fo prog 221 f221 Ry:=.mk func221
def Q4:Yh:=({c:=_}:Kc f222 [9]).1
def U3:Fo prog 222 f222 Q4:=.mk func222
def QV:Yh:=({c:=_}:Kc f223 [5]).1
def V9:Fo prog 223 f223 QV:=.mk func223
def Qm:Yh:=({c:=_}:Kc f224).1
def U2:Fo prog 224 f224 Qm:=.mk func224
def QD:Yh:=({c:=_}:Kc f225).1
def WT:Fo prog 225 f225 QD:=.mk func225
def PD:Yh:=({c:=_}:Kc f226).1
def Xz:Fo prog 226 f226 PD:=.mk func226
def Pa:Yh:=({c:=_}:Kc f227).1
def W5:Fo prog 227 f227 Pa:=.mk func227
def R4:Yh:=({c:=_}:Kc f228).1
def Vp:Fo prog 228 f228 R4:=.mk func228
def Q9:Yh:=({c:=_}:Kc f229).1
def XF:Fo prog 229 f229 Q9:=.mk func229
def QW:Yh:=({c:=_}:Kc f230).1
def XK:Fo prog 230 f230 QW:=.mk func230
def PU:Yh:=({c:=_}:Kc f231).1
def Va:Fo prog 231 f231 PU:=.mk func231
def P4:Yh:=({c:=_}:Kc f232).1
def WC:Fo prog 232 f232 P4:=.mk func232
def Sb:Yh:=({c:=_}:Kc f233).1
def XY:Fo prog 233 f233 Sb:=.mk func233
def PC:Yh:=({c:=_}:Kc f234).1
def WE:Fo prog 234 f234 PC:=.mk func234
def PV:Yh:=({c:=_}:Kc f235).1
def Vy:Fo prog 235 f235 PV:=.mk func235
def Pq:Yh:=({c:=_}:Kc f236).1
def V6:Fo prog 236 f236 Pq:=.mk func236
def Q5:Yh:=({c:=_}:Kc f237).1
def X4:Fo prog 237 f237 Q5:=.mk func237
def Qn:Yh:=({c:=_}:Kc f238).1
def WY:Fo prog 238 f238 Qn:=.mk func238
def MZ:Yh:=({c:=_}:Kc f239).1
def Vu:Fo prog 239 f239 MZ:=.mk func239
def SS:Yh:=({c:=_}:Kc f240).1
def Vr:Fo prog 240 f240 SS:=.mk func240
def Rf:Yh:=({c:=_}:Kc f241).1
def Xv:Fo prog 241 f241 Rf:=.mk func241
def RY:Yh:=({c:=_}:Kc f242).1
def VK:Fo prog 242 f242 RY:=.mk func242
def P9:Yh:=({c:=_}:Kc f243).1
def Wg:Fo prog 243 f243 P9:=.mk func243
def QK:Yh:=({c:=_}:Kc f244).1
def VS:Fo prog 244 f244 QK:=.mk func244
def Se:Yh:=({c:=_}:Kc f257).1
def Vd:Fo prog 257 f257 Se:=.mk func257
def Qr:Yh:=({c:=_}:Kc f258).1
def VZ:Fo prog 258 f258 Qr:=.mk func258
def Re:Yh:=({c:=_}:Kc f259).1
def W2:Fo prog 259 f259 Re:=.mk func259
def Tm:Yh:=({c:=_}:Kc f260).1
def TU:Fo prog 260 f260 Tm:=.mk func260
def O8:Yh:=({c:=_}:Kc f261).1
def Wl:Fo prog 261 f261 O8:=.mk func261
def Qg:Yh:=({c:=_}:Kc f262).1
def VP:Fo prog 262 f262 Qg:=.mk func262
def RB:Yh:=({c:=_}:Kc f263).1
def X0:Fo prog 263 f263 RB:=.mk func263
def Mz:Yh:=({c:=_}:Kc f264).1
def Xk:Fo prog 264 f264 Mz:=.mk func264
def P7:Yh:=({c:=_}:Kc f265).1
def XE:Fo prog 265 f265 P7:=.mk func265
def Sf:Yh:=({c:=_}:Kc f266).1
def Xl:Fo prog 266 f266 Sf:=.mk func266
def Qi:Yh:=({c:=_}:Kc f267).1
def WL:Fo prog 267 f267 Qi:=.mk func267
def QB:Yh:=({c:=_}:Kc f268).1
def VD:Fo prog 268 f268 QB:=.mk func268
def QQ:Yh:=({c:=_}:Kc f269).1
def XD:Fo prog 269 f269 QQ:=.mk func269
def Rq:Yh:=({c:=_}:Kc f270).1
def V0:Fo prog 270 f270 Rq:=.mk func270
def Ta:Yh:=({c:=_}:Kc f271).1
def W9:Fo prog 271 f271 Ta:=.mk func271
def PZ:Yh:=({c:=_}:Kc f272).1
def VQ:Fo prog 272 f272 PZ:=.mk func272
def Rt:Yh:=({c:=_}:Kc f273).1
def V2:Fo prog 273 f273 Rt:=.mk func273
def PX:Yh:=({c:=_}:Kc f274).1
def X6:Fo prog 274 f274 PX:=.mk func274
def Kl:Yh:=({c:=_}:Kc f275).1
def W3:Fo prog 275 f275 Kl:=.mk func275
def Qp:Yh:=({c:=_}:Kc f276).1
def Xy:Fo prog 276 f276 Qp:=.mk func276
def RI:Yh:=({c:=_}:Kc f277).1
def WO:Fo prog 277 f277 RI:=.mk func277
def QE:Yh:=({c:=_}:Kc f278).1
def XN:Fo prog 278 f278 QE:=.mk func278
def L4:Yh:=({c:=_}:Kc f279).1
def XH:Fo prog 279 f279 L4:=.mk func279
def Ri:Yh:=({c:=_}:Kc f280).1
def XM:Fo prog 280 f280 Ri:=.mk func280
def Is:Yh:=({c:=_}:Kc f281).1
def Wf:Fo prog 281 f281 Is:=.mk func281
def Sy:Yh:=({c:=_}:Kc f282).1
def WQ:Fo prog 282 f282 Sy:=.mk func282
def Pf:Yh:=({c:=_}:Kc f283).1
def XQ:Fo prog 283 f283 Pf:=.mk func283
def QA:Yh:=({c:=_}:Kc f284).1
def X3:Fo prog 284 f284 QA:=.mk func284
def Th:Yh:=({c:=_}:Kc f285).1
def WX:Fo prog 285 f285 Th:=.mk func285
def QS:Yh:=({c:=_}:Kc f286).1
def XZ:Fo prog 286 f286 QS:=.mk func286
def SZ:Yh:=({c:=_}:Kc f287).1
def Wn:Fo prog 287 f287 SZ:=.mk func287
def SR:Yh:=({c:=_}:Kc f288).1
def Vw:Fo prog 288 f288 SR:=.mk func288
def PG:Yh:=({c:=_}:Kc f289).1
def Xe:Fo prog 289 f289 PG:=.mk func289
def Sv:Yh:=({c:=_}:Kc f290).1
def U8:Fo prog 290 f290 Sv:=.mk func290
def RG:Yh:=({c:=_}:Kc f291).1
def U7:Fo prog 291 f291 RG:=.mk func291
def Qe:Yh:=({c:=_}:Kc f292).1
def We:Fo prog 292 f292 Qe:=.mk func292
def SP:Yh:=({c:=_}:Kc f293).1
def Wu:Fo prog 293 f293 SP:=.mk func293
def PO:Yh:=({c:=_}:Kc f294).1
def VF:Fo prog 294 f294 PO:=.mk func294
def PL:Yh:=({c:=_}:Kc f295).1
def Vo:Fo prog 295 f295 PL:=.mk func295
def RT:Yh:=({c:=_}:Kc f302).1
def V4:Fo prog 302 f302 RT:=.mk func302
def SF:Yh:=({c:=_}:Kc f303).1
def XG:Fo prog 303 f303 SF:=.mk func303
def P0:Yh:=({c:=_}:Kc f304).1
def Ve:Fo prog 304 f304 P0:=.mk func304
def Sk:Yh:=({c:=_}:Kc f305).1
def VM:Fo prog 305 f305 Sk:=.mk func305
def Ru:Yh:=({c:=_}:Kc f306).1
def Xa:Fo prog 306 f306 Ru:=.mk func306
def Rz:Yh:=({c:=_}:Kc f307).1
def WB:Fo prog 307 f307 Rz:=.mk func307
def QU:Yh:=({c:=_}:Kc f308).1
def XX:Fo prog 308 f308 QU:=.mk func308
def Ro:Yh:=({c:=_}:Kc f309).1
def Wm:Fo prog 309 f309 Ro:=.mk func309
def KA:Yh:=({c:=_}:Kc f310).1
def Wh:Fo prog 310 f310 KA:=.mk func310
def Na:Yh:=({c:=_}:Kc f311).1
def WW:Fo prog 311 f311 Na:=.mk func311
def PF:Yh:=({c:=_}:Kc f312 [8]).1
def Vx:Fo prog 312 f312 PF:=.mk func312
def RC:Yh:=({c:=_}:Kc f313).1
def VC:Fo prog 313 f313 RC:=.mk func313
def RZ:Yh:=({c:=_}:Kc f314).1
def U6:Fo prog 314 f314 RZ:=.mk func314
def N4:Yh:=({c:=_}:Kc f315).1
def XJ:Fo prog 315 f315 N4:=.mk func315
def Pu:Yh:=({c:=_}:Kc f316).1
def Wr:Fo prog 316 f316 Pu:=.mk func316
def Q2:Yh:=({c:=_}:Kc f317).1
def TR:Fo prog 317 f317 Q2:=.mk func317
def Rj:Yh:=({c:=_}:Kc f318).1
def WN:Fo prog 318 f318 Rj:=.mk func318
def PB:Yh:=({c:=_}:Kc f319).1
def Xf:Fo prog 319 f319 PB:=.mk func319
def RK:Yh:=({c:=_}:Kc f320).1
def TM:Fo prog 320 f320 RK:=.mk func320
def QL:Yh:=({c:=_}:Kc f321).1
def Ts:Fo prog 321 f321 QL:=.mk func321
def R3:Yh:=({c:=_}:Kc f322).1
def Vj:Fo prog 322 f322 R3:=.mk func322
def Q7:Yh:=({c:=_}:Kc f326).1
def U5:Fo prog 326 f326 Q7:=.mk func326
def O1:Yh:=({c:=_}:Kc f327).1
def VY:Fo prog 327 f327 O1:=.mk func327
def QC:Yh:=({c:=_}:Kc f328).1
def XW:Fo prog 328 f328 QC:=.mk func328
def Qx:Yh:=({c:=_}:Kc f329).1
def Vg:Fo prog 329 f329 Qx:=.mk func329
def Te:Yh:=({c:=_}:Kc f330).1
def Xi:Fo prog 330 f330 Te:=.mk func330
def SN:Yh:=({c:=_}:Kc f331).1
def XB:Fo prog 331 f331 SN:=.mk func331
def PK:Yh:=({c:=_}:Kc f332).1
def WV:Fo prog 332 f332 PK:=.mk func332
def SU:Yh:=({c:=_}:Kc f333).1
def XA:Fo prog 333 f333 SU:=.mk func333
def QJ:Yh:=({c:=_}:Kc f334).1
def VT:Fo prog 334 f334 QJ:=.mk func334
def RA:Yh:=({c:=_}:Kc f335).1
def UQ:Fo prog 335 f335 RA:=.mk func335
def Pe:Yh:=({c:=_}:Kc f336).1
def XI:Fo prog 336 f336 Pe:=.mk func336
def PQ:Yh:=({c:=_}:Kc f337).1
def Ug:Fo prog 337 f337 PQ:=.mk func337
def Q6:Yh:=({c:=_}:Kc f338).1
def Xu:Fo prog 338 f338 Q6:=.mk func338
end Go.Vc
