/- Part 3 of the library of this proof. -/
import Derived.Test.YtdaelobhgmdoeaaGreatW2
import Derived.Test.YtdaelobhgmdoeaaGreatProg
import Derived.KernelRfl
set_option linter.all false
set_option maxHeartbeats 8000000
namespace Go.Vc
open Go.Proofs Go.Proofs.Tryz
section
variable (P:Program) (n:Nat) (L:List Nat)
def mJ:Code->bc
 |.skip=>.skip
 |.region id ops draw=>if L.contains (id*2)then .nB ((ops.toList.take (ops.size-1)).map (bG P n ops)) ((ops.toList.drop (ops.size-1)).map (bG P n ops))else if L.contains (id*2+1)then .regA (ops.toList.map (bG P n ops)) (ops.toList.map λo=>(o.after.toList.filter (Region.binds .any)).map (·.on))else .reg draw (ops.toList.map (bG P n ops))
 |.seq a b=>.seq (mJ a) (mJ b)
 |.cond c a b=>.cond (cx n c) (mJ a) (mJ b)
 |.block id a=>.block id (mJ a)
 |.loop a=>.loop (mJ a)
 |.exit id=>.exit id
 |.ret=>.ret
 |.rangeFunc g ps a c=>.cE (cx n g) ps.toList (mJ a) (mJ c)
 |_=>.bad
end
def XX(P:Program)(fn:Func)(L:List Nat):Yh:=match fn.body with
 |some c=>⟨fn.ntmps,mJ P fn.ntmps L c,fn.results.toList.map (Bx P fn.ntmps)⟩
 |none=>⟨0,.skip,[]⟩
structure Kc(fn:Func)(L:List Nat:=[]) where
 c:Yh
 h:XX prog fn L=c:=by conv=>lhs;cbv
set_option cbv.maxSteps 1000000000
set_option maxRecDepth 1000000
def c3:Yh:=({c:=_}:Kc f3).1
def e3:Fo prog 3 f3 c3:=.mk func3
def c7:Yh:=({c:=_}:Kc f7).1
def e7:Fo prog 7 f7 c7:=.mk func7
def c9:Yh:=({c:=_}:Kc f9).1
def e9:Fo prog 9 f9 c9:=.mk func9
def c10:Yh:=({c:=_}:Kc f10).1
def e10:Fo prog 10 f10 c10:=.mk func10
def c11:Yh:=({c:=_}:Kc f11).1
def e11:Fo prog 11 f11 c11:=.mk func11
def c12:Yh:=({c:=_}:Kc f12).1
def e12:Fo prog 12 f12 c12:=.mk func12
def c13:Yh:=({c:=_}:Kc f13).1
def e13:Fo prog 13 f13 c13:=.mk func13
def c15:Yh:=({c:=_}:Kc f15).1
def e15:Fo prog 15 f15 c15:=.mk func15
def c22:Yh:=({c:=_}:Kc f22).1
def e22:Fo prog 22 f22 c22:=.mk func22
def c23:Yh:=({c:=_}:Kc f23 [27]).1
def e23:Fo prog 23 f23 c23:=.mk func23
def c24:Yh:=({c:=_}:Kc f24).1
def e24:Fo prog 24 f24 c24:=.mk func24
def c25:Yh:=({c:=_}:Kc f25).1
def e25:Fo prog 25 f25 c25:=.mk func25
def c26:Yh:=({c:=_}:Kc f26).1
def e26:Fo prog 26 f26 c26:=.mk func26
def c27:Yh:=({c:=_}:Kc f27).1
def e27:Fo prog 27 f27 c27:=.mk func27
def c28:Yh:=({c:=_}:Kc f28 [13,14]).1
def e28:Fo prog 28 f28 c28:=.mk func28
def c29:Yh:=({c:=_}:Kc f29).1
def e29:Fo prog 29 f29 c29:=.mk func29
def c30:Yh:=({c:=_}:Kc f30).1
def e30:Fo prog 30 f30 c30:=.mk func30
def c31:Yh:=({c:=_}:Kc f31).1
def e31:Fo prog 31 f31 c31:=.mk func31
def c32:Yh:=({c:=_}:Kc f32).1
def e32:Fo prog 32 f32 c32:=.mk func32
def c44:Yh:=({c:=_}:Kc f44).1
def e44:Fo prog 44 f44 c44:=.mk func44
def c45:Yh:=({c:=_}:Kc f45).1
def e45:Fo prog 45 f45 c45:=.mk func45
def c46:Yh:=({c:=_}:Kc f46).1
def e46:Fo prog 46 f46 c46:=.mk func46
def c47:Yh:=({c:=_}:Kc f47).1
def e47:Fo prog 47 f47 c47:=.mk func47
def c48:Yh:=({c:=_}:Kc f48).1
def e48:Fo prog 48 f48 c48:=.mk func48
def c49:Yh:=({c:=_}:Kc f49).1
def e49:Fo prog 49 f49 c49:=.mk func49
def c50:Yh:=({c:=_}:Kc f50).1
def e50:Fo prog 50 f50 c50:=.mk func50
def c51:Yh:=({c:=_}:Kc f51).1
def e51:Fo prog 51 f51 c51:=.mk func51
def c52:Yh:=({c:=_}:Kc f52).1
def e52:Fo prog 52 f52 c52:=.mk func52
def c53:Yh:=({c:=_}:Kc f53).1
def e53:Fo prog 53 f53 c53:=.mk func53
def c54:Yh:=({c:=_}:Kc f54).1
def e54:Fo prog 54 f54 c54:=.mk func54
def c55:Yh:=({c:=_}:Kc f55).1
def e55:Fo prog 55 f55 c55:=.mk func55
def c56:Yh:=({c:=_}:Kc f56).1
def e56:Fo prog 56 f56 c56:=.mk func56
def c57:Yh:=({c:=_}:Kc f57).1
def e57:Fo prog 57 f57 c57:=.mk func57
def c58:Yh:=({c:=_}:Kc f58 [15,31,35]).1
def e58:Fo prog 58 f58 c58:=.mk func58
def c59:Yh:=({c:=_}:Kc f59).1
def e59:Fo prog 59 f59 c59:=.mk func59
def c60:Yh:=({c:=_}:Kc f60).1
def e60:Fo prog 60 f60 c60:=.mk func60
def c61:Yh:=({c:=_}:Kc f61).1
def e61:Fo prog 61 f61 c61:=.mk func61
def c62:Yh:=({c:=_}:Kc f62).1
def e62:Fo prog 62 f62 c62:=.mk func62
def c63:Yh:=({c:=_}:Kc f63).1
def e63:Fo prog 63 f63 c63:=.mk func63
def c64:Yh:=({c:=_}:Kc f64).1
def e64:Fo prog 64 f64 c64:=.mk func64
def c65:Yh:=({c:=_}:Kc f65).1
def e65:Fo prog 65 f65 c65:=.mk func65
def c66:Yh:=({c:=_}:Kc f66).1
def e66:Fo prog 66 f66 c66:=.mk func66
def PZ:Yh:=({c:=_}:Kc f101).1
def VG:Fo prog 101 f101 PZ:=.mk func101
def Sd:Yh:=({c:=_}:Kc f102).1
def Xo:Fo prog 102 f102 Sd:=.mk func102
def So:Yh:=({c:=_}:Kc f103).1
def V2:Fo prog 103 f103 So:=.mk func103
def Su:Yh:=({c:=_}:Kc f104).1
def Vv:Fo prog 104 f104 Su:=.mk func104
def RV:Yh:=({c:=_}:Kc f105).1
def W2:Fo prog 105 f105 RV:=.mk func105
def To:Yh:=({c:=_}:Kc f106).1
def W1:Fo prog 106 f106 To:=.mk func106
def RM:Yh:=({c:=_}:Kc f107).1
def W8:Fo prog 107 f107 RM:=.mk func107
def Sj:Yh:=({c:=_}:Kc f108).1
def XA:Fo prog 108 f108 Sj:=.mk func108
def RN:Yh:=({c:=_}:Kc f109).1
def VH:Fo prog 109 f109 RN:=.mk func109
def QK:Yh:=({c:=_}:Kc f110).1
def Vk:Fo prog 110 f110 QK:=.mk func110
def QS:Yh:=({c:=_}:Kc f111).1
def Xf:Fo prog 111 f111 QS:=.mk func111
def H8:Yh:=({c:=_}:Kc f112).1
def Xi:Fo prog 112 f112 H8:=.mk func112
def VB:Yh:=({c:=_}:Kc f113).1
def TP:Fo prog 113 f113 VB:=.mk func113
def Rk:Yh:=({c:=_}:Kc f114).1
def Vn:Fo prog 114 f114 Rk:=.mk func114
def H5:Yh:=({c:=_}:Kc f115 [9]).1
def XR:Fo prog 115 f115 H5:=.mk func115
def Pq:Yh:=({c:=_}:Kc f116).1
def WZ:Fo prog 116 f116 Pq:=.mk func116
def Rx:Yh:=({c:=_}:Kc f117 [11]).1
def V5:Fo prog 117 f117 Rx:=.mk func117
def QX:Yh:=({c:=_}:Kc f118).1
def WI:Fo prog 118 f118 QX:=.mk func118
def PL:Yh:=({c:=_}:Kc f119).1
def X0:Fo prog 119 f119 PL:=.mk func119
def QR:Yh:=({c:=_}:Kc f120).1
def W7:Fo prog 120 f120 QR:=.mk func120
def PU:Yh:=({c:=_}:Kc f121).1
def X6:Fo prog 121 f121 PU:=.mk func121
def RK:Yh:=({c:=_}:Kc f122).1
def WA:Fo prog 122 f122 RK:=.mk func122
def Sl:Yh:=({c:=_}:Kc f123).1
def Wb:Fo prog 123 f123 Sl:=.mk func123
def PC:Yh:=({c:=_}:Kc f124).1
def Ve:Fo prog 124 f124 PC:=.mk func124
def RJ:Yh:=({c:=_}:Kc f125).1
def WY:Fo prog 125 f125 RJ:=.mk func125
def PN:Yh:=({c:=_}:Kc f126).1
def Xu:Fo prog 126 f126 PN:=.mk func126
def R5:Yh:=({c:=_}:Kc f127).1
def Xp:Fo prog 127 f127 R5:=.mk func127
def O6:Yh:=({c:=_}:Kc f128).1
def XZ:Fo prog 128 f128 O6:=.mk func128
def Tm:Yh:=({c:=_}:Kc f129).1
def XF:Fo prog 129 f129 Tm:=.mk func129
def Qk:Yh:=({c:=_}:Kc f130).1
def X3:Fo prog 130 f130 Qk:=.mk func130
def PV:Yh:=({c:=_}:Kc f131).1
def VI:Fo prog 131 f131 PV:=.mk func131
def Lt:Yh:=({c:=_}:Kc f154).1
def Tw:Fo prog 154 f154 Lt:=.mk func154
def JO:Yh:=({c:=_}:Kc f155).1
def TN:Fo prog 155 f155 JO:=.mk func155
def Ry:Yh:=({c:=_}:Kc f156).1
def Xb:Fo prog 156 f156 Ry:=.mk func156
def QM:Yh:=({c:=_}:Kc f157).1
def W5:Fo prog 157 f157 QM:=.mk func157
def QH:Yh:=({c:=_}:Kc f158).1
def U7:Fo prog 158 f158 QH:=.mk func158
def QL:Yh:=({c:=_}:Kc f159).1
def Xx:Fo prog 159 f159 QL:=.mk func159
def Kz:Yh:=({c:=_}:Kc f160).1
def XL:Fo prog 160 f160 Kz:=.mk func160
def Pe:Yh:=({c:=_}:Kc f161).1
def WW:Fo prog 161 f161 Pe:=.mk func161
def Rf:Yh:=({c:=_}:Kc f162 [12]).1
def V1:Fo prog 162 f162 Rf:=.mk func162
def RS:Yh:=({c:=_}:Kc f163 [9,13]).1
def Xy:Fo prog 163 f163 RS:=.mk func163
def PD:Yh:=({c:=_}:Kc f164).1
def WH:Fo prog 164 f164 PD:=.mk func164
def Qt:Yh:=({c:=_}:Kc f165 [3]).1
def Xw:Fo prog 165 f165 Qt:=.mk func165
def Sb:Yh:=({c:=_}:Kc f166 [5]).1
def WE:Fo prog 166 f166 Sb:=.mk func166
def QN:Yh:=({c:=_}:Kc f167).1
def Vl:Fo prog 167 f167 QN:=.mk func167
def RG:Yh:=({c:=_}:Kc f168).1
def VW:Fo prog 168 f168 RG:=.mk func168
def P9:Yh:=({c:=_}:Kc f169).1
def VT:Fo prog 169 f169 P9:=.mk func169
def SP:Yh:=({c:=_}:Kc f170).1
def Xs:Fo prog 170 f170 SP:=.mk func170
def O1:Yh:=({c:=_}:Kc f171).1
def XE:Fo prog 171 f171 O1:=.mk func171
def Qe:Yh:=({c:=_}:Kc f172).1
def Wy:Fo prog 172 f172 Qe:=.mk func172
def Q9:Yh:=({c:=_}:Kc f173).1
def WC:Fo prog 173 f173 Q9:=.mk func173
def Pd:Yh:=({c:=_}:Kc f174).1
def Wv:Fo prog 174 f174 Pd:=.mk func174
def QB:Yh:=({c:=_}:Kc f175).1
def W9:Fo prog 175 f175 QB:=.mk func175
def SF:Yh:=({c:=_}:Kc f176).1
def Wj:Fo prog 176 f176 SF:=.mk func176
def PB:Yh:=({c:=_}:Kc f177).1
def U9:Fo prog 177 f177 PB:=.mk func177
def Qr:Yh:=({c:=_}:Kc f178).1
def Wr:Fo prog 178 f178 Qr:=.mk func178
def Sw:Yh:=({c:=_}:Kc f179).1
def Vi:Fo prog 179 f179 Sw:=.mk func179
def Lj:Yh:=({c:=_}:Kc f180 [5]).1
def V7:Fo prog 180 f180 Lj:=.mk func180
def Qs:Yh:=({c:=_}:Kc f181 [11]).1
def XJ:Fo prog 181 f181 Qs:=.mk func181
def JR:Yh:=({c:=_}:Kc f182).1
def X4:Fo prog 182 f182 JR:=.mk func182
def Xc:Yh:=({c:=_}:Kc f183).1
def UZ:Fo prog 183 f183 Xc:=.mk func183
def NP:Yh:=({c:=_}:Kc f184).1
def Xk:Fo prog 184 f184 NP:=.mk func184
def Ru:Yh:=({c:=_}:Kc f185).1
def Wa:Fo prog 185 f185 Ru:=.mk func185
def Ri:Yh:=({c:=_}:Kc f186).1
def U2:Fo prog 186 f186 Ri:=.mk func186
def Sr:Yh:=({c:=_}:Kc f188).1
def Vj:Fo prog 188 f188 Sr:=.mk func188
def Ta:Yh:=({c:=_}:Kc f210).1
def V9:Fo prog 210 f210 Ta:=.mk func210
def RB:Yh:=({c:=_}:Kc f211).1
def W6:Fo prog 211 f211 RB:=.mk func211
def PJ:Yh:=({c:=_}:Kc f212).1
def Xh:Fo prog 212 f212 PJ:=.mk func212
def R8:Yh:=({c:=_}:Kc f213).1
def Uf:Fo prog 213 f213 R8:=.mk func213
def Qz:Yh:=({c:=_}:Kc f214).1
def Vd:Fo prog 214 f214 Qz:=.mk func214
def Qf:Yh:=({c:=_}:Kc f215).1
def W3:Fo prog 215 f215 Qf:=.mk func215
def Qi:Yh:=({c:=_}:Kc f216).1
def Wd:Fo prog 216 f216 Qi:=.mk func216
def R9:Yh:=({c:=_}:Kc f217).1
def WO:Fo prog 217 f217 R9:=.mk func217
def P8:Yh:=({c:=_}:Kc f218).1
def WK:Fo prog 218 f218 P8:=.mk func218
def Qc:Yh:=({c:=_}:Kc f219).1
def Wi:Fo prog 219 f219 Qc:=.mk func219
def QD:Yh:=({c:=_}:Kc f220).1
def Wz:Fo prog 220 f220 QD:=.mk func220
def R4:Yh:=({c:=_}:Kc f221 [5]).1
def Wl:Fo prog 221 f221 R4:=.mk func221
def Q4:Yh:=({c:=_}:Kc f222 [9]).1
def VA:Fo prog 222 f222 Q4:=.mk func222
def Q3:Yh:=({c:=_}:Kc f223 [5]).1
def WJ:Fo prog 223 f223 Q3:=.mk func223
def Pw:Yh:=({c:=_}:Kc f224).1
def WL:Fo prog 224 f224 Pw:=.mk func224
def R6:Yh:=({c:=_}:Kc f225).1
def VJ:Fo prog 225 f225 R6:=.mk func225
def Sz:Yh:=({c:=_}:Kc f226).1
def Wm:Fo prog 226 f226 Sz:=.mk func226
def PF:Yh:=({c:=_}:Kc f227).1
def XH:Fo prog 227 f227 PF:=.mk func227
def PK:Yh:=({c:=_}:Kc f228).1
def Vx:Fo prog 228 f228 PK:=.mk func228
def P5:Yh:=({c:=_}:Kc f229).1
def Vz:Fo prog 229 f229 P5:=.mk func229
def Q6:Yh:=({c:=_}:Kc f230).1
def WD:Fo prog 230 f230 Q6:=.mk func230
def RI:Yh:=({c:=_}:Kc f231).1
def Ya:Fo prog 231 f231 RI:=.mk func231
def Rn:Yh:=({c:=_}:Kc f232).1
def Vf:Fo prog 232 f232 Rn:=.mk func232
def Pa:Yh:=({c:=_}:Kc f233).1
def XW:Fo prog 233 f233 Pa:=.mk func233
def SR:Yh:=({c:=_}:Kc f234).1
def VM:Fo prog 234 f234 SR:=.mk func234
def SL:Yh:=({c:=_}:Kc f235).1
def Wt:Fo prog 235 f235 SL:=.mk func235
def Re:Yh:=({c:=_}:Kc f236).1
def XO:Fo prog 236 f236 Re:=.mk func236
def PQ:Yh:=({c:=_}:Kc f237).1
def XD:Fo prog 237 f237 PQ:=.mk func237
def Rr:Yh:=({c:=_}:Kc f238).1
def VS:Fo prog 238 f238 Rr:=.mk func238
def N9:Yh:=({c:=_}:Kc f239).1
def Wp:Fo prog 239 f239 N9:=.mk func239
def PG:Yh:=({c:=_}:Kc f240).1
def X8:Fo prog 240 f240 PG:=.mk func240
def QQ:Yh:=({c:=_}:Kc f241).1
def VY:Fo prog 241 f241 QQ:=.mk func241
def Qb:Yh:=({c:=_}:Kc f242).1
def Wn:Fo prog 242 f242 Qb:=.mk func242
def QV:Yh:=({c:=_}:Kc f243).1
def VO:Fo prog 243 f243 QV:=.mk func243
def RT:Yh:=({c:=_}:Kc f244).1
def U3:Fo prog 244 f244 RT:=.mk func244
def Sx:Yh:=({c:=_}:Kc f257).1
def Vw:Fo prog 257 f257 Sx:=.mk func257
def Rq:Yh:=({c:=_}:Kc f258).1
def Vr:Fo prog 258 f258 Rq:=.mk func258
def SG:Yh:=({c:=_}:Kc f259).1
def WQ:Fo prog 259 f259 SG:=.mk func259
def SW:Yh:=({c:=_}:Kc f260).1
def Us:Fo prog 260 f260 SW:=.mk func260
def O2:Yh:=({c:=_}:Kc f261).1
def Ww:Fo prog 261 f261 O2:=.mk func261
def Sn:Yh:=({c:=_}:Kc f262).1
def Xv:Fo prog 262 f262 Sn:=.mk func262
def Sh:Yh:=({c:=_}:Kc f263).1
def XG:Fo prog 263 f263 Sh:=.mk func263
def Me:Yh:=({c:=_}:Kc f264).1
def Vh:Fo prog 264 f264 Me:=.mk func264
def Ph:Yh:=({c:=_}:Kc f265).1
def VQ:Fo prog 265 f265 Ph:=.mk func265
def SZ:Yh:=({c:=_}:Kc f266).1
def X9:Fo prog 266 f266 SZ:=.mk func266
def Qo:Yh:=({c:=_}:Kc f267).1
def Vp:Fo prog 267 f267 Qo:=.mk func267
def P0:Yh:=({c:=_}:Kc f268).1
def U0:Fo prog 268 f268 P0:=.mk func268
def PM:Yh:=({c:=_}:Kc f269).1
def XN:Fo prog 269 f269 PM:=.mk func269
def Q8:Yh:=({c:=_}:Kc f270).1
def V3:Fo prog 270 f270 Q8:=.mk func270
def Sy:Yh:=({c:=_}:Kc f271).1
def XQ:Fo prog 271 f271 Sy:=.mk func271
def O3:Yh:=({c:=_}:Kc f272).1
def WN:Fo prog 272 f272 O3:=.mk func272
def QT:Yh:=({c:=_}:Kc f273).1
def Wg:Fo prog 273 f273 QT:=.mk func273
def Tl:Yh:=({c:=_}:Kc f274).1
def Wh:Fo prog 274 f274 Tl:=.mk func274
def KB:Yh:=({c:=_}:Kc f275).1
def VN:Fo prog 275 f275 KB:=.mk func275
def Q5:Yh:=({c:=_}:Kc f276).1
def U5:Fo prog 276 f276 Q5:=.mk func276
def RA:Yh:=({c:=_}:Kc f277).1
def Xe:Fo prog 277 f277 RA:=.mk func277
def QZ:Yh:=({c:=_}:Kc f278).1
def Xq:Fo prog 278 f278 QZ:=.mk func278
def MC:Yh:=({c:=_}:Kc f279).1
def Xm:Fo prog 279 f279 MC:=.mk func279
def SY:Yh:=({c:=_}:Kc f280).1
def VC:Fo prog 280 f280 SY:=.mk func280
def Ja:Yh:=({c:=_}:Kc f281).1
def XK:Fo prog 281 f281 Ja:=.mk func281
def Pc:Yh:=({c:=_}:Kc f282).1
def VD:Fo prog 282 f282 Pc:=.mk func282
def Pj:Yh:=({c:=_}:Kc f283).1
def Vm:Fo prog 283 f283 Pj:=.mk func283
def RP:Yh:=({c:=_}:Kc f284).1
def Wo:Fo prog 284 f284 RP:=.mk func284
def SK:Yh:=({c:=_}:Kc f285).1
def V4:Fo prog 285 f285 SK:=.mk func285
def QP:Yh:=({c:=_}:Kc f286).1
def U6:Fo prog 286 f286 QP:=.mk func286
def O8:Yh:=({c:=_}:Kc f287).1
def VP:Fo prog 287 f287 O8:=.mk func287
def Rg:Yh:=({c:=_}:Kc f288).1
def VL:Fo prog 288 f288 Rg:=.mk func288
def Py:Yh:=({c:=_}:Kc f289).1
def U1:Fo prog 289 f289 Py:=.mk func289
def Pm:Yh:=({c:=_}:Kc f290).1
def Wc:Fo prog 290 f290 Pm:=.mk func290
def Px:Yh:=({c:=_}:Kc f291).1
def Xa:Fo prog 291 f291 Px:=.mk func291
def Sg:Yh:=({c:=_}:Kc f292).1
def XI:Fo prog 292 f292 Sg:=.mk func292
def PA:Yh:=({c:=_}:Kc f293).1
def Vy:Fo prog 293 f293 PA:=.mk func293
def O0:Yh:=({c:=_}:Kc f294).1
def WM:Fo prog 294 f294 O0:=.mk func294
def SE:Yh:=({c:=_}:Kc f295).1
def XU:Fo prog 295 f295 SE:=.mk func295
def Tf:Yh:=({c:=_}:Kc f302).1
def XY:Fo prog 302 f302 Tf:=.mk func302
def Tg:Yh:=({c:=_}:Kc f303).1
def XM:Fo prog 303 f303 Tg:=.mk func303
def Sq:Yh:=({c:=_}:Kc f304).1
def Xd:Fo prog 304 f304 Sq:=.mk func304
def Sp:Yh:=({c:=_}:Kc f305).1
def Xj:Fo prog 305 f305 Sp:=.mk func305
def PX:Yh:=({c:=_}:Kc f306).1
def XB:Fo prog 306 f306 PX:=.mk func306
def PW:Yh:=({c:=_}:Kc f307).1
def Vu:Fo prog 307 f307 PW:=.mk func307
def QE:Yh:=({c:=_}:Kc f308).1
def Xz:Fo prog 308 f308 QE:=.mk func308
def OZ:Yh:=({c:=_}:Kc f309).1
def V8:Fo prog 309 f309 OZ:=.mk func309
def Ko:Yh:=({c:=_}:Kc f310).1
def WV:Fo prog 310 f310 Ko:=.mk func310
def Mt:Yh:=({c:=_}:Kc f311).1
def Vb:Fo prog 311 f311 Mt:=.mk func311
def O9:Yh:=({c:=_}:Kc f312 [8]).1
def Vo:Fo prog 312 f312 O9:=.mk func312
def Pg:Yh:=({c:=_}:Kc f313).1
def V0:Fo prog 313 f313 Pg:=.mk func313
def Rl:Yh:=({c:=_}:Kc f314).1
def Xt:Fo prog 314 f314 Rl:=.mk func314
def Nf:Yh:=({c:=_}:Kc f315).1
def U8:Fo prog 315 f315 Nf:=.mk func315
def Se:Yh:=({c:=_}:Kc f316).1
def Xl:Fo prog 316 f316 Se:=.mk func316
def Tp:Yh:=({c:=_}:Kc f317).1
def TQ:Fo prog 317 f317 Tp:=.mk func317
def QA:Yh:=({c:=_}:Kc f318).1
def Vq:Fo prog 318 f318 QA:=.mk func318
def RL:Yh:=({c:=_}:Kc f319).1
def WB:Fo prog 319 f319 RL:=.mk func319
def P6:Yh:=({c:=_}:Kc f320).1
def TM:Fo prog 320 f320 P6:=.mk func320
def RX:Yh:=({c:=_}:Kc f321).1
def T0:Fo prog 321 f321 RX:=.mk func321
def SA:Yh:=({c:=_}:Kc f322).1
def W4:Fo prog 322 f322 SA:=.mk func322
def Rh:Yh:=({c:=_}:Kc f326).1
def VZ:Fo prog 326 f326 Rh:=.mk func326
def Qd:Yh:=({c:=_}:Kc f327).1
def Vs:Fo prog 327 f327 Qd:=.mk func327
def SX:Yh:=({c:=_}:Kc f328).1
def VU:Fo prog 328 f328 SX:=.mk func328
def RD:Yh:=({c:=_}:Kc f329).1
def WR:Fo prog 329 f329 RD:=.mk func329
def QJ:Yh:=({c:=_}:Kc f330).1
def Wq:Fo prog 330 f330 QJ:=.mk func330
def Te:Yh:=({c:=_}:Kc f331).1
def Va:Fo prog 331 f331 Te:=.mk func331
def PS:Yh:=({c:=_}:Kc f332).1
def Vt:Fo prog 332 f332 PS:=.mk func332
def OW:Yh:=({c:=_}:Kc f333).1
def X7:Fo prog 333 f333 OW:=.mk func333
def QF:Yh:=({c:=_}:Kc f334).1
def Xg:Fo prog 334 f334 QF:=.mk func334
def RQ:Yh:=({c:=_}:Kc f335).1
def Up:Fo prog 335 f335 RQ:=.mk func335
def Qw:Yh:=({c:=_}:Kc f336).1
def WX:Fo prog 336 f336 Qw:=.mk func336
def SD:Yh:=({c:=_}:Kc f337).1
def UJ:Fo prog 337 f337 SD:=.mk func337
def SN:Yh:=({c:=_}:Kc f338).1
def Ws:Fo prog 338 f338 SN:=.mk func338
end Go.Vc
