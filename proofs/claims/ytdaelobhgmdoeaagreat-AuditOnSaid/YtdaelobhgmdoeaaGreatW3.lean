/- Part 3 of the library of this proof. -/
import Derived.Test.YtdaelobhgmdoeaaGreatW2
import Derived.Test.YtdaelobhgmdoeaaGreatProg
import Derived.KernelRfl
set_option linter.all false
set_option maxHeartbeats 8000000
namespace Go.Vc
open Go.Proofs Go.Proofs.Tryz
section
variable (P:Program) (n:Nat) (L:List Nat)
def mD:Code->bf
 |.skip=>.skip
 |.region id ops draw=>if L.contains (id*2)then .nq ((ops.toList.take (ops.size-1)).map (bI P n ops)) ((ops.toList.drop (ops.size-1)).map (bI P n ops))else if L.contains (id*2+1)then .regA (ops.toList.map (bI P n ops)) (ops.toList.map λo=>(o.after.toList.filter (Region.binds .any)).map (·.on))else .reg draw (ops.toList.map (bI P n ops))
 |.seq a b=>.seq (mD a) (mD b)
 |.cond c a b=>.cond (cx n c) (mD a) (mD b)
 |.block id a=>.block id (mD a)
 |.loop a=>.loop (mD a)
 |.exit id=>.exit id
 |.ret=>.ret
 |.rangeFunc g ps a c=>.cA (cx n g) ps.toList (mD a) (mD c)
 |_=>.bad
end
def Xf(P:Program)(fn:Func)(L:List Nat):Yb:=match fn.body with
 |some c=>⟨fn.ntmps,mD P fn.ntmps L c,fn.results.toList.map (A7 P fn.ntmps)⟩
 |none=>⟨0,.skip,[]⟩
structure Kc(fn:Func)(L:List Nat:=[]) where
 c:Yb
 h:Xf prog fn L=c:=by conv=>lhs;cbv
set_option cbv.maxSteps 1000000000
set_option maxRecDepth 1000000
def c4:Yb:=({c:=_}:Kc f4).1
def e4:Fo prog 4 f4 c4:=.mk func4
def c7:Yb:=({c:=_}:Kc f7).1
def e7:Fo prog 7 f7 c7:=.mk func7
def c9:Yb:=({c:=_}:Kc f9).1
def e9:Fo prog 9 f9 c9:=.mk func9
def c10:Yb:=({c:=_}:Kc f10).1
def e10:Fo prog 10 f10 c10:=.mk func10
def c11:Yb:=({c:=_}:Kc f11).1
def e11:Fo prog 11 f11 c11:=.mk func11
def c12:Yb:=({c:=_}:Kc f12).1
def e12:Fo prog 12 f12 c12:=.mk func12
def c13:Yb:=({c:=_}:Kc f13).1
def e13:Fo prog 13 f13 c13:=.mk func13
def c14:Yb:=({c:=_}:Kc f14).1
def e14:Fo prog 14 f14 c14:=.mk func14
def c15:Yb:=({c:=_}:Kc f15).1
def e15:Fo prog 15 f15 c15:=.mk func15
def c22:Yb:=({c:=_}:Kc f22).1
def e22:Fo prog 22 f22 c22:=.mk func22
def c23:Yb:=({c:=_}:Kc f23 [27]).1
def e23:Fo prog 23 f23 c23:=.mk func23
def c24:Yb:=({c:=_}:Kc f24).1
def e24:Fo prog 24 f24 c24:=.mk func24
def c25:Yb:=({c:=_}:Kc f25).1
def e25:Fo prog 25 f25 c25:=.mk func25
def c26:Yb:=({c:=_}:Kc f26).1
def e26:Fo prog 26 f26 c26:=.mk func26
def c27:Yb:=({c:=_}:Kc f27).1
def e27:Fo prog 27 f27 c27:=.mk func27
def c28:Yb:=({c:=_}:Kc f28 [13,14]).1
def e28:Fo prog 28 f28 c28:=.mk func28
def c29:Yb:=({c:=_}:Kc f29).1
def e29:Fo prog 29 f29 c29:=.mk func29
def c30:Yb:=({c:=_}:Kc f30).1
def e30:Fo prog 30 f30 c30:=.mk func30
def c31:Yb:=({c:=_}:Kc f31).1
def e31:Fo prog 31 f31 c31:=.mk func31
def c32:Yb:=({c:=_}:Kc f32).1
def e32:Fo prog 32 f32 c32:=.mk func32
def c44:Yb:=({c:=_}:Kc f44).1
def e44:Fo prog 44 f44 c44:=.mk func44
def c45:Yb:=({c:=_}:Kc f45).1
def e45:Fo prog 45 f45 c45:=.mk func45
def c46:Yb:=({c:=_}:Kc f46).1
def e46:Fo prog 46 f46 c46:=.mk func46
def c47:Yb:=({c:=_}:Kc f47).1
def e47:Fo prog 47 f47 c47:=.mk func47
def c48:Yb:=({c:=_}:Kc f48).1
def e48:Fo prog 48 f48 c48:=.mk func48
def c49:Yb:=({c:=_}:Kc f49).1
def e49:Fo prog 49 f49 c49:=.mk func49
def c50:Yb:=({c:=_}:Kc f50).1
def e50:Fo prog 50 f50 c50:=.mk func50
def c51:Yb:=({c:=_}:Kc f51).1
def e51:Fo prog 51 f51 c51:=.mk func51
def c52:Yb:=({c:=_}:Kc f52).1
def e52:Fo prog 52 f52 c52:=.mk func52
def c53:Yb:=({c:=_}:Kc f53).1
def e53:Fo prog 53 f53 c53:=.mk func53
def c54:Yb:=({c:=_}:Kc f54).1
def e54:Fo prog 54 f54 c54:=.mk func54
def c55:Yb:=({c:=_}:Kc f55).1
def e55:Fo prog 55 f55 c55:=.mk func55
def c56:Yb:=({c:=_}:Kc f56).1
def e56:Fo prog 56 f56 c56:=.mk func56
def c57:Yb:=({c:=_}:Kc f57).1
def e57:Fo prog 57 f57 c57:=.mk func57
def c58:Yb:=({c:=_}:Kc f58 [15,31,35]).1
def e58:Fo prog 58 f58 c58:=.mk func58
def c59:Yb:=({c:=_}:Kc f59).1
def e59:Fo prog 59 f59 c59:=.mk func59
def c60:Yb:=({c:=_}:Kc f60).1
def e60:Fo prog 60 f60 c60:=.mk func60
def c61:Yb:=({c:=_}:Kc f61).1
def e61:Fo prog 61 f61 c61:=.mk func61
def c62:Yb:=({c:=_}:Kc f62).1
def e62:Fo prog 62 f62 c62:=.mk func62
def c63:Yb:=({c:=_}:Kc f63).1
def e63:Fo prog 63 f63 c63:=.mk func63
def c64:Yb:=({c:=_}:Kc f64).1
def e64:Fo prog 64 f64 c64:=.mk func64
def c65:Yb:=({c:=_}:Kc f65).1
def e65:Fo prog 65 f65 c65:=.mk func65
def c66:Yb:=({c:=_}:Kc f66).1
def e66:Fo prog 66 f66 c66:=.mk func66
def Pd:Yb:=({c:=_}:Kc f101).1
def Wb:Fo prog 101 f101 Pd:=.mk func101
def Py:Yb:=({c:=_}:Kc f102).1
def WQ:Fo prog 102 f102 Py:=.mk func102
def Pc:Yb:=({c:=_}:Kc f103).1
def WM:Fo prog 103 f103 Pc:=.mk func103
def Ro:Yb:=({c:=_}:Kc f104).1
def Wd:Fo prog 104 f104 Ro:=.mk func104
def QW:Yb:=({c:=_}:Kc f105).1
def Wn:Fo prog 105 f105 QW:=.mk func105
def Qw:Yb:=({c:=_}:Kc f106).1
def XU:Fo prog 106 f106 Qw:=.mk func106
def Pb:Yb:=({c:=_}:Kc f107).1
def Wm:Fo prog 107 f107 Pb:=.mk func107
def Rp:Yb:=({c:=_}:Kc f108).1
def Xm:Fo prog 108 f108 Rp:=.mk func108
def RP:Yb:=({c:=_}:Kc f109).1
def XF:Fo prog 109 f109 RP:=.mk func109
def Qk:Yb:=({c:=_}:Kc f110).1
def WV:Fo prog 110 f110 Qk:=.mk func110
def R6:Yb:=({c:=_}:Kc f111).1
def Xw:Fo prog 111 f111 R6:=.mk func111
def HS:Yb:=({c:=_}:Kc f112).1
def VS:Fo prog 112 f112 HS:=.mk func112
def UR:Yb:=({c:=_}:Kc f113).1
def Ub:Fo prog 113 f113 UR:=.mk func113
def QB:Yb:=({c:=_}:Kc f114).1
def Wg:Fo prog 114 f114 QB:=.mk func114
def GG:Yb:=({c:=_}:Kc f115 [9]).1
def VT:Fo prog 115 f115 GG:=.mk func115
def R4:Yb:=({c:=_}:Kc f116).1
def Wc:Fo prog 116 f116 R4:=.mk func116
def QJ:Yb:=({c:=_}:Kc f117 [11]).1
def US:Fo prog 117 f117 QJ:=.mk func117
def O5:Yb:=({c:=_}:Kc f118).1
def W6:Fo prog 118 f118 O5:=.mk func118
def Qq:Yb:=({c:=_}:Kc f119).1
def Xi:Fo prog 119 f119 Qq:=.mk func119
def OK:Yb:=({c:=_}:Kc f120).1
def VN:Fo prog 120 f120 OK:=.mk func120
def Pf:Yb:=({c:=_}:Kc f121).1
def Vg:Fo prog 121 f121 Pf:=.mk func121
def Sx:Yb:=({c:=_}:Kc f122).1
def UZ:Fo prog 122 f122 Sx:=.mk func122
def Rw:Yb:=({c:=_}:Kc f123).1
def WL:Fo prog 123 f123 Rw:=.mk func123
def QF:Yb:=({c:=_}:Kc f124).1
def XY:Fo prog 124 f124 QF:=.mk func124
def QE:Yb:=({c:=_}:Kc f125).1
def Xg:Fo prog 125 f125 QE:=.mk func125
def Rr:Yb:=({c:=_}:Kc f126).1
def XV:Fo prog 126 f126 Rr:=.mk func126
def P5:Yb:=({c:=_}:Kc f127).1
def Wt:Fo prog 127 f127 P5:=.mk func127
def OW:Yb:=({c:=_}:Kc f128).1
def Wr:Fo prog 128 f128 OW:=.mk func128
def Rj:Yb:=({c:=_}:Kc f129).1
def Vw:Fo prog 129 f129 Rj:=.mk func129
def PU:Yb:=({c:=_}:Kc f130).1
def VQ:Fo prog 130 f130 PU:=.mk func130
def Q9:Yb:=({c:=_}:Kc f131).1
def Wa:Fo prog 131 f131 Q9:=.mk func131
def JX:Yb:=({c:=_}:Kc f154).1
def Uz:Fo prog 154 f154 JX:=.mk func154
def Ir:Yb:=({c:=_}:Kc f155).1
def Tv:Fo prog 155 f155 Ir:=.mk func155
def OL:Yb:=({c:=_}:Kc f156).1
def XZ:Fo prog 156 f156 OL:=.mk func156
def Se:Yb:=({c:=_}:Kc f157).1
def UY:Fo prog 157 f157 Se:=.mk func157
def OO:Yb:=({c:=_}:Kc f158).1
def Vy:Fo prog 158 f158 OO:=.mk func158
def Sg:Yb:=({c:=_}:Kc f159).1
def UO:Fo prog 159 f159 Sg:=.mk func159
def Kb:Yb:=({c:=_}:Kc f160).1
def VI:Fo prog 160 f160 Kb:=.mk func160
def Ta:Yb:=({c:=_}:Kc f161).1
def VW:Fo prog 161 f161 Ta:=.mk func161
def Rk:Yb:=({c:=_}:Kc f162 [12]).1
def Xb:Fo prog 162 f162 Rk:=.mk func162
def QU:Yb:=({c:=_}:Kc f163 [9,13]).1
def Vi:Fo prog 163 f163 QU:=.mk func163
def O1:Yb:=({c:=_}:Kc f164).1
def W5:Fo prog 164 f164 O1:=.mk func164
def Q3:Yb:=({c:=_}:Kc f165 [3]).1
def U6:Fo prog 165 f165 Q3:=.mk func165
def PB:Yb:=({c:=_}:Kc f166 [5]).1
def VF:Fo prog 166 f166 PB:=.mk func166
def SM:Yb:=({c:=_}:Kc f167).1
def Wz:Fo prog 167 f167 SM:=.mk func167
def Qi:Yb:=({c:=_}:Kc f168).1
def WW:Fo prog 168 f168 Qi:=.mk func168
def OV:Yb:=({c:=_}:Kc f169).1
def VB:Fo prog 169 f169 OV:=.mk func169
def Pk:Yb:=({c:=_}:Kc f170).1
def WR:Fo prog 170 f170 Pk:=.mk func170
def Q8:Yb:=({c:=_}:Kc f171).1
def VZ:Fo prog 171 f171 Q8:=.mk func171
def RR:Yb:=({c:=_}:Kc f172).1
def W1:Fo prog 172 f172 RR:=.mk func172
def O3:Yb:=({c:=_}:Kc f173).1
def Wp:Fo prog 173 f173 O3:=.mk func173
def Sj:Yb:=({c:=_}:Kc f174).1
def UU:Fo prog 174 f174 Sj:=.mk func174
def RV:Yb:=({c:=_}:Kc f175).1
def XM:Fo prog 175 f175 RV:=.mk func175
def Qt:Yb:=({c:=_}:Kc f176).1
def Xc:Fo prog 176 f176 Qt:=.mk func176
def Re:Yb:=({c:=_}:Kc f177).1
def WY:Fo prog 177 f177 Re:=.mk func177
def Qe:Yb:=({c:=_}:Kc f178).1
def VG:Fo prog 178 f178 Qe:=.mk func178
def RF:Yb:=({c:=_}:Kc f179).1
def VL:Fo prog 179 f179 RF:=.mk func179
def J0:Yb:=({c:=_}:Kc f180 [5]).1
def W8:Fo prog 180 f180 J0:=.mk func180
def Ry:Yb:=({c:=_}:Kc f181 [11]).1
def XN:Fo prog 181 f181 Ry:=.mk func181
def JJ:Yb:=({c:=_}:Kc f182).1
def Vl:Fo prog 182 f182 JJ:=.mk func182
def Vh:Yb:=({c:=_}:Kc f183).1
def TH:Fo prog 183 f183 Vh:=.mk func183
def M7:Yb:=({c:=_}:Kc f184).1
def Vd:Fo prog 184 f184 M7:=.mk func184
def PN:Yb:=({c:=_}:Kc f185).1
def VU:Fo prog 185 f185 PN:=.mk func185
def Rx:Yb:=({c:=_}:Kc f186).1
def Xd:Fo prog 186 f186 Rx:=.mk func186
def SG:Yb:=({c:=_}:Kc f188).1
def Vx:Fo prog 188 f188 SG:=.mk func188
def RK:Yb:=({c:=_}:Kc f210).1
def WH:Fo prog 210 f210 RK:=.mk func210
def SD:Yb:=({c:=_}:Kc f211).1
def XA:Fo prog 211 f211 SD:=.mk func211
def Q6:Yb:=({c:=_}:Kc f212).1
def Xh:Fo prog 212 f212 Q6:=.mk func212
def RW:Yb:=({c:=_}:Kc f213).1
def TW:Fo prog 213 f213 RW:=.mk func213
def OP:Yb:=({c:=_}:Kc f214).1
def XJ:Fo prog 214 f214 OP:=.mk func214
def OX:Yb:=({c:=_}:Kc f215).1
def W4:Fo prog 215 f215 OX:=.mk func215
def OU:Yb:=({c:=_}:Kc f216).1
def Vr:Fo prog 216 f216 OU:=.mk func216
def Qr:Yb:=({c:=_}:Kc f217).1
def U3:Fo prog 217 f217 Qr:=.mk func217
def O8:Yb:=({c:=_}:Kc f218).1
def Vb:Fo prog 218 f218 O8:=.mk func218
def Pw:Yb:=({c:=_}:Kc f219).1
def XL:Fo prog 219 f219 Pw:=.mk func219
def Sf:Yb:=({c:=_}:Kc f220).1
def Xj:Fo prog 220 f220 Sf:=.mk func220
def Qh:Yb:=({c:=_}:Kc f221 [5]).1
def UQ:Fo prog 221 f221 Qh:=.mk func221
def Pt:Yb:=({c:=_}:Kc f222 [9]).1
def WK:Fo prog 222 f222 Pt:=.mk func222
def Pj:Yb:=({c:=_}:Kc f223 [5]).1
def XD:Fo prog 223 f223 Pj:=.mk func223
def QH:Yb:=({c:=_}:Kc f224).1
def Vs:Fo prog 224 f224 QH:=.mk func224
def SI:Yb:=({c:=_}:Kc f225).1
def WE:Fo prog 225 f225 SI:=.mk func225
def Ph:Yb:=({c:=_}:Kc f226).1
def Va:Fo prog 226 f226 Ph:=.mk func226
def Sq:Yb:=({c:=_}:Kc f227).1
def W9:Fo prog 227 f227 Sq:=.mk func227
def Q4:Yb:=({c:=_}:Kc f228).1
def Xl:Fo prog 228 f228 Q4:=.mk func228
def OZ:Yb:=({c:=_}:Kc f229).1
def V5:Fo prog 229 f229 OZ:=.mk func229
def RQ:Yb:=({c:=_}:Kc f230).1
def U7:Fo prog 230 f230 RQ:=.mk func230
def QP:Yb:=({c:=_}:Kc f231).1
def Wf:Fo prog 231 f231 QP:=.mk func231
def Q7:Yb:=({c:=_}:Kc f232).1
def V9:Fo prog 232 f232 Q7:=.mk func232
def QA:Yb:=({c:=_}:Kc f233).1
def V8:Fo prog 233 f233 QA:=.mk func233
def SX:Yb:=({c:=_}:Kc f234).1
def Xq:Fo prog 234 f234 SX:=.mk func234
def RI:Yb:=({c:=_}:Kc f235).1
def Xu:Fo prog 235 f235 RI:=.mk func235
def Sw:Yb:=({c:=_}:Kc f236).1
def Xt:Fo prog 236 f236 Sw:=.mk func236
def Ru:Yb:=({c:=_}:Kc f237).1
def XX:Fo prog 237 f237 Ru:=.mk func237
def O2:Yb:=({c:=_}:Kc f238).1
def VD:Fo prog 238 f238 O2:=.mk func238
def MT:Yb:=({c:=_}:Kc f239).1
def UX:Fo prog 239 f239 MT:=.mk func239
def Sn:Yb:=({c:=_}:Kc f240).1
def UW:Fo prog 240 f240 Sn:=.mk func240
def Sy:Yb:=({c:=_}:Kc f241).1
def XR:Fo prog 241 f241 Sy:=.mk func241
def PV:Yb:=({c:=_}:Kc f242).1
def Ve:Fo prog 242 f242 PV:=.mk func242
def QM:Yb:=({c:=_}:Kc f243).1
def Vo:Fo prog 243 f243 QM:=.mk func243
def QC:Yb:=({c:=_}:Kc f244).1
def VC:Fo prog 244 f244 QC:=.mk func244
def QT:Yb:=({c:=_}:Kc f257).1
def Wq:Fo prog 257 f257 QT:=.mk func257
def Sr:Yb:=({c:=_}:Kc f258).1
def Xv:Fo prog 258 f258 Sr:=.mk func258
def RJ:Yb:=({c:=_}:Kc f259).1
def W2:Fo prog 259 f259 RJ:=.mk func259
def Q1:Yb:=({c:=_}:Kc f260).1
def UE:Fo prog 260 f260 Q1:=.mk func260
def SE:Yb:=({c:=_}:Kc f261).1
def We:Fo prog 261 f261 SE:=.mk func261
def RG:Yb:=({c:=_}:Kc f262).1
def Xx:Fo prog 262 f262 RG:=.mk func262
def RA:Yb:=({c:=_}:Kc f263).1
def WD:Fo prog 263 f263 RA:=.mk func263
def LM:Yb:=({c:=_}:Kc f264).1
def VM:Fo prog 264 f264 LM:=.mk func264
def ON:Yb:=({c:=_}:Kc f265).1
def VJ:Fo prog 265 f265 ON:=.mk func265
def SQ:Yb:=({c:=_}:Kc f266).1
def Wu:Fo prog 266 f266 SQ:=.mk func266
def R3:Yb:=({c:=_}:Kc f267).1
def V0:Fo prog 267 f267 R3:=.mk func267
def RN:Yb:=({c:=_}:Kc f268).1
def WA:Fo prog 268 f268 RN:=.mk func268
def SU:Yb:=({c:=_}:Kc f269).1
def VO:Fo prog 269 f269 SU:=.mk func269
def Sk:Yb:=({c:=_}:Kc f270).1
def VK:Fo prog 270 f270 Sk:=.mk func270
def RL:Yb:=({c:=_}:Kc f271).1
def Xa:Fo prog 271 f271 RL:=.mk func271
def QR:Yb:=({c:=_}:Kc f272).1
def WU:Fo prog 272 f272 QR:=.mk func272
def Ss:Yb:=({c:=_}:Kc f273).1
def VH:Fo prog 273 f273 Ss:=.mk func273
def Rz:Yb:=({c:=_}:Kc f274).1
def WB:Fo prog 274 f274 Rz:=.mk func274
def Ki:Yb:=({c:=_}:Kc f275).1
def Vn:Fo prog 275 f275 Ki:=.mk func275
def Pz:Yb:=({c:=_}:Kc f276).1
def VP:Fo prog 276 f276 Pz:=.mk func276
def Pa:Yb:=({c:=_}:Kc f277).1
def Vu:Fo prog 277 f277 Pa:=.mk func277
def Sb:Yb:=({c:=_}:Kc f278).1
def Wl:Fo prog 278 f278 Sb:=.mk func278
def Nv:Yb:=({c:=_}:Kc f279).1
def U0:Fo prog 279 f279 Nv:=.mk func279
def Qv:Yb:=({c:=_}:Kc f280).1
def V7:Fo prog 280 f280 Qv:=.mk func280
def JP:Yb:=({c:=_}:Kc f281).1
def WO:Fo prog 281 f281 JP:=.mk func281
def SO:Yb:=({c:=_}:Kc f282).1
def Vm:Fo prog 282 f282 SO:=.mk func282
def P0:Yb:=({c:=_}:Kc f283).1
def W3:Fo prog 283 f283 P0:=.mk func283
def PI:Yb:=({c:=_}:Kc f284).1
def U9:Fo prog 284 f284 PI:=.mk func284
def P8:Yb:=({c:=_}:Kc f285).1
def Xz:Fo prog 285 f285 P8:=.mk func285
def P7:Yb:=({c:=_}:Kc f286).1
def V4:Fo prog 286 f286 P7:=.mk func286
def Sl:Yb:=({c:=_}:Kc f287).1
def Wj:Fo prog 287 f287 Sl:=.mk func287
def PJ:Yb:=({c:=_}:Kc f288).1
def U1:Fo prog 288 f288 PJ:=.mk func288
def RD:Yb:=({c:=_}:Kc f289).1
def Wy:Fo prog 289 f289 RD:=.mk func289
def Qg:Yb:=({c:=_}:Kc f290).1
def VY:Fo prog 290 f290 Qg:=.mk func290
def SZ:Yb:=({c:=_}:Kc f291).1
def WI:Fo prog 291 f291 SZ:=.mk func291
def R5:Yb:=({c:=_}:Kc f292).1
def U2:Fo prog 292 f292 R5:=.mk func292
def QN:Yb:=({c:=_}:Kc f293).1
def U5:Fo prog 293 f293 QN:=.mk func293
def P6:Yb:=({c:=_}:Kc f294).1
def XQ:Fo prog 294 f294 P6:=.mk func294
def O4:Yb:=({c:=_}:Kc f295).1
def Xk:Fo prog 295 f295 O4:=.mk func295
def O9:Yb:=({c:=_}:Kc f302).1
def WX:Fo prog 302 f302 O9:=.mk func302
def QI:Yb:=({c:=_}:Kc f303).1
def Xe:Fo prog 303 f303 QI:=.mk func303
def P3:Yb:=({c:=_}:Kc f304).1
def UT:Fo prog 304 f304 P3:=.mk func304
def Q5:Yb:=({c:=_}:Kc f305).1
def Wv:Fo prog 305 f305 Q5:=.mk func305
def O7:Yb:=({c:=_}:Kc f306).1
def Vj:Fo prog 306 f306 O7:=.mk func306
def QX:Yb:=({c:=_}:Kc f307).1
def V1:Fo prog 307 f307 QX:=.mk func307
def PZ:Yb:=({c:=_}:Kc f308).1
def XH:Fo prog 308 f308 PZ:=.mk func308
def Si:Yb:=({c:=_}:Kc f309).1
def Vq:Fo prog 309 f309 Si:=.mk func309
def Ku:Yb:=({c:=_}:Kc f310).1
def Ww:Fo prog 310 f310 Ku:=.mk func310
def Lz:Yb:=({c:=_}:Kc f311).1
def WJ:Fo prog 311 f311 Lz:=.mk func311
def SN:Yb:=({c:=_}:Kc f312 [8]).1
def Ws:Fo prog 312 f312 SN:=.mk func312
def Qz:Yb:=({c:=_}:Kc f313).1
def VE:Fo prog 313 f313 Qz:=.mk func313
def SW:Yb:=({c:=_}:Kc f314).1
def V6:Fo prog 314 f314 SW:=.mk func314
def Mr:Yb:=({c:=_}:Kc f315).1
def VA:Fo prog 315 f315 Mr:=.mk func315
def Qy:Yb:=({c:=_}:Kc f316).1
def Wo:Fo prog 316 f316 Qy:=.mk func316
def RS:Yb:=({c:=_}:Kc f317).1
def Tk:Fo prog 317 f317 RS:=.mk func317
def SC:Yb:=({c:=_}:Kc f318).1
def W7:Fo prog 318 f318 SC:=.mk func318
def P4:Yb:=({c:=_}:Kc f319).1
def XE:Fo prog 319 f319 P4:=.mk func319
def Pu:Yb:=({c:=_}:Kc f320).1
def TJ:Fo prog 320 f320 Pu:=.mk func320
def SA:Yb:=({c:=_}:Kc f321).1
def T1:Fo prog 321 f321 SA:=.mk func321
def QQ:Yb:=({c:=_}:Kc f322).1
def XB:Fo prog 322 f322 QQ:=.mk func322
def Rq:Yb:=({c:=_}:Kc f326).1
def Vk:Fo prog 326 f326 Rq:=.mk func326
def RU:Yb:=({c:=_}:Kc f327).1
def WN:Fo prog 327 f327 RU:=.mk func327
def O0:Yb:=({c:=_}:Kc f328).1
def Wh:Fo prog 328 f328 O0:=.mk func328
def RC:Yb:=({c:=_}:Kc f329).1
def Vv:Fo prog 329 f329 RC:=.mk func329
def Sc:Yb:=({c:=_}:Kc f330).1
def Vt:Fo prog 330 f330 Sc:=.mk func330
def OY:Yb:=({c:=_}:Kc f331).1
def U4:Fo prog 331 f331 OY:=.mk func331
def Qx:Yb:=({c:=_}:Kc f332).1
def U8:Fo prog 332 f332 Qx:=.mk func332
def RB:Yb:=({c:=_}:Kc f333).1
def WG:Fo prog 333 f333 RB:=.mk func333
def RY:Yb:=({c:=_}:Kc f334).1
def XK:Fo prog 334 f334 RY:=.mk func334
def Qo:Yb:=({c:=_}:Kc f335).1
def TD:Fo prog 335 f335 Qo:=.mk func335
def Sh:Yb:=({c:=_}:Kc f336).1
def XP:Fo prog 336 f336 Sh:=.mk func336
def PM:Yb:=({c:=_}:Kc f337).1
def Te:Fo prog 337 f337 PM:=.mk func337
def R9:Yb:=({c:=_}:Kc f338).1
def WZ:Fo prog 338 f338 R9:=.mk func338
end Go.Vc
