/- Part 12 of the library of this proof. -/
import Derived.Test.YtmkknagmafmcpaaGreatDoorW11
import Derived.Shelf.Small.Strs
import Derived.Shelf.Strconv.Itoa3
import Derived.Shelf.Strconv.Atoi
import Derived.Shelf.Strconv.ErrVarAll
import Derived.Lib.AppendIntMem
import Derived.Shelf.Strings.Prefix
import Derived.Test.YtmkknagmafmcpaaGreatDoorProg
import Derived.Lib.ItoaNum
import Derived.Lib.AtoiAll
import Derived.Lib.Bytealg
import Derived.Shelf.Strings.Search1
import Derived.Shelf.Strings.Builder2
import Derived.Shelf.Strings.Count
set_option linter.all false
set_option maxHeartbeats 8000000
set_option maxRecDepth 100000
open Go.Proofs.Tryz
namespace Go.Proofs
open Go.Shelf
def Tryz.yj:Go.Shelf.Ren:=⟨fun|171=>58|243=>104|246=>155|283=>196|284=>197|285=>198|286=>199|129=>99|317=>238|318=>239|319=>240|320=>241|337=>257|338=>258|n=>n,fun|3=>3|9=>9|2=>2|4=>4|171=>315|0=>0|53=>206|37=>255|5=>5|173=>317|212=>359|51=>204|20=>20|213=>360|46=>140|232=>375|233=>376|n=>n,fun|17=>3|18=>6|19=>7|n=>n⟩
def Tryz.ES:Go.Proofs.LaysM.n171 prog Tryz.yj:={
 mixed:=by kernel_rfl
 f129:=func99.trans (congrArg some (by kernel_rfl))
 f171:=func58.trans (congrArg some (by kernel_rfl))
 f243:=func104.trans (congrArg some (by kernel_rfl))
 f246:=func155.trans (congrArg some (by kernel_rfl))
 f283:=func196.trans (congrArg some (by kernel_rfl))
 f284:=func197.trans (congrArg some (by kernel_rfl))
 f285:=func198.trans (congrArg some (by kernel_rfl))
 f286:=func199.trans (congrArg some (by kernel_rfl))
 f317:=func238.trans (congrArg some (by kernel_rfl))
 f318:=func239.trans (congrArg some (by kernel_rfl))
 f319:=func240.trans (congrArg some (by kernel_rfl))
 f320:=func241.trans (congrArg some (by kernel_rfl))
 f337:=func257.trans (congrArg some (by kernel_rfl))
 f338:=func258.trans (congrArg some (by kernel_rfl))
 t0:=underlying0
 a0:=Tryz.isAgg0
 z0:=Tryz.sizeOf0
 v0:=Tryz.zeroValue0
 t2:=underlying2
 a2:=Tryz.isAgg2
 z2:=Tryz.sizeOf2
 v2:=Tryz.zeroValue2
 t3:=underlying3
 a3:=Tryz.isAgg3
 z3:=Tryz.sizeOf3
 v3:=Tryz.zeroValue3
 t4:=underlying4
 a4:=Tryz.isAgg4
 z4:=Tryz.sizeOf4
 v4:=Tryz.zeroValue4
 t5:=underlying5
 a5:=Tryz.isAgg5
 z5:=Tryz.sizeOf5
 v5:=Tryz.zeroValue5
 t9:=underlying9
 a9:=Tryz.isAgg9
 z9:=Tryz.sizeOf9
 v9:=Tryz.zeroValue9
 t20:=underlying20
 a20:=Tryz.isAgg20
 z20:=Tryz.sizeOf20
 v20:=Tryz.zeroValue20
 t37:=underlying255
 a37:=Tryz.isAgg255
 z37:=Tryz.sizeOf255
 v37:=Tryz.zeroValue255
 t46:=underlying140
 a46:=Tryz.isAgg140
 z46:=Tryz.sizeOf140
 v46:=Tryz.zeroValue140
 t51:=underlying204
 a51:=Tryz.isAgg204
 z51:=Tryz.sizeOf204
 v51:=Tryz.zeroValue204
 t53:=underlying206
 a53:=Tryz.isAgg206
 z53:=Tryz.sizeOf206
 v53:=Tryz.zeroValue206
 t171:=underlying315
 a171:=Tryz.isAgg315
 z171:=Tryz.sizeOf315
 v171:=Tryz.zeroValue315
 t173:=underlying317
 a173:=Tryz.isAgg317
 z173:=Tryz.sizeOf317
 v173:=Tryz.zeroValue317
 t212:=underlying359
 a212:=Tryz.isAgg359
 z212:=Tryz.sizeOf359
 v212:=Tryz.zeroValue359
 t213:=underlying360
 a213:=Tryz.isAgg360
 z213:=Tryz.sizeOf360
 t232:=underlying375
 a232:=Tryz.isAgg375
 z232:=Tryz.sizeOf375
 v232:=Tryz.zeroValue375
 t233:=underlying376
 a233:=Tryz.isAgg376
 z233:=Tryz.sizeOf376
 v233:=Tryz.zeroValue376
 g17:=by kernel_rfl
 g18:=by kernel_rfl
 g19:=by kernel_rfl
 i0:=by kernel_rfl
 i2:=by kernel_rfl
 i3:=by kernel_rfl
 i4:=by kernel_rfl
 i5:=by kernel_rfl
 i9:=by kernel_rfl
 i20:=by kernel_rfl
 i37:=by kernel_rfl
 i46:=by kernel_rfl
 i51:=by kernel_rfl
 i53:=by kernel_rfl
 i171:=by kernel_rfl
 i173:=by kernel_rfl
 i212:=by kernel_rfl
 i232:=by kernel_rfl
 i233:=by kernel_rfl
 m17:=by kernel_rfl
 m18:=by kernel_rfl
 m19:=by kernel_rfl }
def Tryz.w8:Go.Shelf.Ren:=⟨fun|172=>57|244=>102|245=>103|247=>150|279=>151|280=>152|281=>153|282=>154|287=>193|316=>194|171=>58|205=>195|321=>236|322=>237|243=>104|246=>155|283=>196|284=>197|285=>198|286=>199|129=>99|317=>238|318=>239|319=>240|320=>241|337=>257|338=>258|n=>n,fun|9=>9|3=>3|75=>144|76=>145|4=>4|5=>5|167=>254|37=>255|0=>0|85=>256|2=>2|168=>258|53=>206|175=>309|46=>140|210=>313|127=>354|145=>357|143=>355|21=>21|171=>315|173=>317|212=>359|51=>204|20=>20|213=>360|232=>375|233=>376|80=>378|n=>n,fun|15=>1|16=>2|17=>3|18=>6|19=>7|n=>n⟩
def Tryz.FG:Go.Proofs.LaysC.n172 prog Tryz.w8:={
 mixed:=by kernel_rfl
 f129:=func99.trans (congrArg some (by kernel_rfl))
 f171:=func58.trans (congrArg some (by kernel_rfl))
 f172:=func57.trans (congrArg some (by kernel_rfl))
 f205:=func195.trans (congrArg some (by kernel_rfl))
 f243:=func104.trans (congrArg some (by kernel_rfl))
 f244:=func102.trans (congrArg some (by kernel_rfl))
 f245:=func103.trans (congrArg some (by kernel_rfl))
 f246:=func155.trans (congrArg some (by kernel_rfl))
 f247:=func150.trans (congrArg some (by kernel_rfl))
 f279:=func151.trans (congrArg some (by kernel_rfl))
 f280:=func152.trans (congrArg some (by kernel_rfl))
 f281:=func153.trans (congrArg some (by kernel_rfl))
 f282:=func154.trans (congrArg some (by kernel_rfl))
 f283:=func196.trans (congrArg some (by kernel_rfl))
 f284:=func197.trans (congrArg some (by kernel_rfl))
 f285:=func198.trans (congrArg some (by kernel_rfl))
 f286:=func199.trans (congrArg some (by kernel_rfl))
 f287:=func193.trans (congrArg some (by kernel_rfl))
 f316:=func194.trans (congrArg some (by kernel_rfl))
 f317:=func238.trans (congrArg some (by kernel_rfl))
 f318:=func239.trans (congrArg some (by kernel_rfl))
 f319:=func240.trans (congrArg some (by kernel_rfl))
 f320:=func241.trans (congrArg some (by kernel_rfl))
 f321:=func236.trans (congrArg some (by kernel_rfl))
 f322:=func237.trans (congrArg some (by kernel_rfl))
 f337:=func257.trans (congrArg some (by kernel_rfl))
 f338:=func258.trans (congrArg some (by kernel_rfl))
 t0:=underlying0
 a0:=Tryz.isAgg0
 z0:=Tryz.sizeOf0
 v0:=Tryz.zeroValue0
 t2:=underlying2
 a2:=Tryz.isAgg2
 z2:=Tryz.sizeOf2
 v2:=Tryz.zeroValue2
 t3:=underlying3
 a3:=Tryz.isAgg3
 z3:=Tryz.sizeOf3
 v3:=Tryz.zeroValue3
 t4:=underlying4
 a4:=Tryz.isAgg4
 z4:=Tryz.sizeOf4
 v4:=Tryz.zeroValue4
 t5:=underlying5
 a5:=Tryz.isAgg5
 z5:=Tryz.sizeOf5
 v5:=Tryz.zeroValue5
 t9:=underlying9
 a9:=Tryz.isAgg9
 z9:=Tryz.sizeOf9
 v9:=Tryz.zeroValue9
 t20:=underlying20
 a20:=Tryz.isAgg20
 z20:=Tryz.sizeOf20
 v20:=Tryz.zeroValue20
 t21:=underlying21
 a21:=Tryz.isAgg21
 z21:=Tryz.sizeOf21
 v21:=Tryz.zeroValue21
 t37:=underlying255
 a37:=Tryz.isAgg255
 z37:=Tryz.sizeOf255
 v37:=Tryz.zeroValue255
 t46:=underlying140
 a46:=Tryz.isAgg140
 z46:=Tryz.sizeOf140
 v46:=Tryz.zeroValue140
 t51:=underlying204
 a51:=Tryz.isAgg204
 z51:=Tryz.sizeOf204
 v51:=Tryz.zeroValue204
 t53:=underlying206
 a53:=Tryz.isAgg206
 z53:=Tryz.sizeOf206
 v53:=Tryz.zeroValue206
 t75:=underlying144
 a75:=Tryz.isAgg144
 z75:=Tryz.sizeOf144
 v75:=Tryz.zeroValue144
 t76:=underlying145
 a76:=Tryz.isAgg145
 z76:=Tryz.sizeOf145
 v76:=Tryz.zeroValue145
 t85:=underlying256
 a85:=Tryz.isAgg256
 z85:=Tryz.sizeOf256
 v85:=Tryz.zeroValue256
 t127:=underlying354
 a127:=Tryz.isAgg354
 z127:=Tryz.sizeOf354
 v127:=Tryz.zeroValue354
 t143:=underlying355
 a143:=Tryz.isAgg355
 z143:=Tryz.sizeOf355
 v143:=Tryz.zeroValue355
 t145:=underlying357
 a145:=Tryz.isAgg357
 z145:=Tryz.sizeOf357
 v145:=Tryz.zeroValue357
 t167:=underlying254
 a167:=Tryz.isAgg254
 z167:=Tryz.sizeOf254
 v167:=Tryz.zeroValue254
 t168:=underlying258
 a168:=Tryz.isAgg258
 z168:=Tryz.sizeOf258
 v168:=Tryz.zeroValue258
 t171:=underlying315
 a171:=Tryz.isAgg315
 z171:=Tryz.sizeOf315
 v171:=Tryz.zeroValue315
 t173:=underlying317
 a173:=Tryz.isAgg317
 z173:=Tryz.sizeOf317
 v173:=Tryz.zeroValue317
 t175:=underlying309
 a175:=Tryz.isAgg309
 z175:=Tryz.sizeOf309
 v175:=Tryz.zeroValue309
 t210:=underlying313
 a210:=Tryz.isAgg313
 z210:=Tryz.sizeOf313
 v210:=Tryz.zeroValue313
 t212:=underlying359
 a212:=Tryz.isAgg359
 z212:=Tryz.sizeOf359
 v212:=Tryz.zeroValue359
 t213:=underlying360
 a213:=Tryz.isAgg360
 z213:=Tryz.sizeOf360
 t232:=underlying375
 a232:=Tryz.isAgg375
 z232:=Tryz.sizeOf375
 v232:=Tryz.zeroValue375
 t233:=underlying376
 a233:=Tryz.isAgg376
 z233:=Tryz.sizeOf376
 v233:=Tryz.zeroValue376
 g15:=by kernel_rfl
 g16:=by kernel_rfl
 g17:=by kernel_rfl
 g18:=by kernel_rfl
 g19:=by kernel_rfl
 t80:=underlying378
 a80:=Tryz.isAgg378
 z80:=Tryz.sizeOf378
 v80:=Tryz.zeroValue378
 i0:=by kernel_rfl
 i2:=by kernel_rfl
 i3:=by kernel_rfl
 i4:=by kernel_rfl
 i5:=by kernel_rfl
 i9:=by kernel_rfl
 i20:=by kernel_rfl
 i21:=by kernel_rfl
 i37:=by kernel_rfl
 i46:=by kernel_rfl
 i51:=by kernel_rfl
 i53:=by kernel_rfl
 i75:=by kernel_rfl
 i76:=by kernel_rfl
 i80:=by kernel_rfl
 i85:=by kernel_rfl
 i127:=by kernel_rfl
 i143:=by kernel_rfl
 i145:=by kernel_rfl
 i167:=by kernel_rfl
 i168:=by kernel_rfl
 i171:=by kernel_rfl
 i173:=by kernel_rfl
 i175:=by kernel_rfl
 i210:=by kernel_rfl
 i212:=by kernel_rfl
 i232:=by kernel_rfl
 i233:=by kernel_rfl
 m15:=by kernel_rfl
 m16:=by kernel_rfl
 m17:=by kernel_rfl
 m18:=by kernel_rfl
 m19:=by kernel_rfl
 c0:=by kernel_rfl
 c2:=by kernel_rfl
 c3:=by kernel_rfl
 c4:=by kernel_rfl
 c5:=by kernel_rfl
 c9:=by kernel_rfl
 c20:=by kernel_rfl
 c21:=by kernel_rfl
 c37:=by kernel_rfl
 c46:=by kernel_rfl
 c51:=by kernel_rfl
 c53:=by kernel_rfl
 c75:=by kernel_rfl
 c76:=by kernel_rfl
 c80:=by kernel_rfl
 c85:=by kernel_rfl
 c127:=by kernel_rfl
 c143:=by kernel_rfl
 c145:=by kernel_rfl
 c167:=by kernel_rfl
 c168:=by kernel_rfl
 c171:=by kernel_rfl
 c173:=by kernel_rfl
 c175:=by kernel_rfl
 c210:=by kernel_rfl
 c212:=by kernel_rfl
 c213:=by kernel_rfl
 c232:=by kernel_rfl
 c233:=by kernel_rfl }
end Go.Proofs
namespace Go.Vc
open Go.Proofs Go.RowKit Go.Shelf
def Sat.below{w0 w w':World}{QA:Nat->Prop}{I:Mu}{U:ag}(h:Sat w0 QA I U w)(hb:Below w.heap.size w w'):Sat w0 QA I U w':=by
 have hk:cG (aB I U) (aB I U) w w':=λb C' hn=>⟨hn,hb.block b C'⟩
 refine⟨iq h.size hb.size,hb.os.trans h.os,hb.tape.trans h.tape,hb.output.trans h.output,λb C' hn=>(hb.block b (Nat.lt_of_lt_of_le C' h.size)).trans (h.same b C' hn),h.fin,h.inj,
  λid ob ho=>?_,h.fresh,h.Se⟩
 exact(h.obj id ob ho).mono (cm.refl I) hk hb.size λb sz cap hp=>hb.block b (aB.lt h ⟨id,ob,sz,cap,ho,hp⟩)
def aP.Jb{P:Program}{f:FuncId}{args:List V}{v:V}{vals:List Value}(QT:eJ P f=true)(QB:∀I ow w l,aq I ow w args l->l=vals)
 (h:∀w,Ai w->Calls P f vals.toArray w λe w'=>∃x,e=.returned x/\(∀I ow,A' I ow w' v x)/\Below w.heap.size w w'):aP P f args v:=by
 intro U;refine⟨QT,λI w l hs hr=>?_⟩;obtain rfl:=QB _ _ _ _ hr;obtain⟨b,ho,_,hb⟩:=hs.kQ;refine(h w (Ai.pV (λi hi=>(hb i hi).2) ho)).mono ?_;rintro e w' ⟨x,rfl,hx,hb⟩;exact⟨v,U,I,x,rfl,⟨rfl,rfl⟩,cm.refl I,hs.below hb,hx _ _⟩
def HQ(n:Int)(h0:-9223372036854775808<=n)(h1:n<=9223372036854775807):aP prog 58 [vI n] (.str (Lib.itoa n)):=by
 refine aP.Jb (vals:=[.int .i64 n]) (by kernel_rfl) (λI ow w l h=>?_) λw hO=>?_
 .simpa[aq,A']using h
 .refine(Any.strconv_Itoa Tryz.ES n h0 h1 w hO.1).mono ?_;rintro e w' ⟨rfl,k,os,rfl⟩;exact⟨_,rfl,λ_ _=>by simp[A'],Lib.below_grow _ w (Qh _) k os⟩
def spL(c:UInt8):List UInt8->List (List UInt8)
 |[]=>[[]]
 |b::l=>if b=c then[]::spL c l else match spL c l with
   |p::ps=>(b::p)::ps
   |[]=>[[b]]
def yX(c:UInt8):∀l:List UInt8,(Lib.indexByte l c=-1/\spL c l=[l]/\c∉l)\/
 ∃k:Nat,Lib.indexByte l c=k/\k<l.length/\spL c l=l.take k::spL c (l.drop (k+1))/\l=l.take k++c::l.drop (k+1)/\c∉l.take k
 |[]=>.inl ⟨rfl,rfl,by simp⟩
 |b::l=>by
  simp only[Lib.indexByte,spL];by_cases h:b=c
  .subst h;exact .inr ⟨0,by simp,by simp,by simp,by simp,by simp⟩
  .have hb:(b==c)=false:=by simpa using h
   rw[aF h];rcases yX c l with⟨h1,h2,h3⟩|⟨k,h1,h2,h3,h4,h5⟩
   .left;rw[h1,h2];exact⟨by simp[hb],rfl,by simp[h3,Ne.symm h]⟩
   .right;refine⟨k+1,?_,by simp;omega,?_,?_,?_⟩
    .rw[h1];have:((k:Int)==-1)=false:=by rw[beq_eq_false_iff_ne];omega
     simp[hb,this]
    .rw[h3];rfl
    .simp only[BG,MJ,List.cons_append];rw[<-h4]
    .simp[h5,Ne.symm h]
end Go.Vc
namespace Go.Proofs
open Go.Shelf
def Tryz.yy:Go.Shelf.Ren:=⟨fun|217=>143|266=>188|n=>n,fun|9=>9|5=>5|3=>3|n=>n,fun|n=>n⟩
def Tryz.I3:Go.Proofs.Lays.n217 prog Tryz.yy:={
 mixed:=by kernel_rfl
 f217:=func143.trans (congrArg some (by kernel_rfl))
 f266:=func188.trans (congrArg some (by kernel_rfl))
 t3:=underlying3
 a3:=Tryz.isAgg3
 z3:=Tryz.sizeOf3
 v3:=Tryz.zeroValue3
 t5:=underlying5
 a5:=Tryz.isAgg5
 z5:=Tryz.sizeOf5
 v5:=Tryz.zeroValue5
 t9:=underlying9
 a9:=Tryz.isAgg9
 z9:=Tryz.sizeOf9
 v9:=Tryz.zeroValue9 }
end Go.Proofs
namespace Go.Vc
open Go.Proofs Go.RowKit Go.Shelf
def M8(s:List UInt8)(c:UInt8):aP prog 143 [.str s,.int .u8 c.toNat] (vI (Lib.indexByte s c)):=by
 refine aP.Jb (vals:=[.string ⟨s.toArray⟩,.int .u8 c.toNat]) (by kernel_rfl) (λI ow w l h=>?_) (λw _=>?_)
 .simpa[aq,A']using h
 .refine(Any.stringslite_IndexByte Tryz.I3 ⟨s.toArray⟩ c.toNat w).mono ?_;rintro e w' ⟨rfl,rfl⟩;exact⟨_,rfl,λ_ _=>by simp[A'],Below.refl _ _⟩
def Jp(s:List UInt8)(c:UInt8):aP prog 100 [.str s,.str [c]] (vI (Lib.indexByte s c)):=λU=>by
 refine Om.r (by simp[HG]) ?_;refine ad.mix 14 ?_;have hx:fb (.str [c]) (.int .i64 0)=some (.int .u8 c.toNat):=rfl;by_cases h:s=[c]
 .subst h;have q:([c]=[c])=True:=by simp
  apply sR;simp only[go_sem,seval,av,ax,HG,q,Int.natCast_one,Nat.reduceAdd];exact au.same (by simp[Lib.indexByte])
 .have q:([c]=s)=False:=by simp;exact λe=>h e.symm
  apply sR;simp only[BB,seval,av,ax,<-decide_not,bp,eT,aH,dF,dG,dB,dE,dH,bO,jm,dZ,bx,fa,cQ,cJ,cy,bI,gI,ct,bH,bM,QW,jg,cP,bJ,iy,di,bY,cO,cF,ji,binBV,bD,cX,V.cells,V.stays,Qw.nothing,HG,q,hx,Int.natCast_one,Nat.reduceAdd];refine ad.ay rfl rfl rfl (M8 s c _) ?_;apply sR;simp only[go_sem,seval,av,ax];exact au.same rfl
def MS(s:List UInt8)(c:UInt8):aP prog 149 [.str s,.str [c]] (vI (Lib.indexByte s c)):=λU=>by
 refine NX.r (by simp[LH]) ?_;refine ad.mix 5 ?_;apply sR;simp only[go_sem,seval,av,ax,LH];refine ad.ay rfl rfl rfl (Jp s c _) ?_;apply sR;simp only[go_sem,seval,av,ax];exact au.same rfl
def FV(c:UInt8)(s:List UInt8):V:=if Lib.indexByte s c<0 then .PI [.str s,.str [],.bool false]
 else .PI [.str (s.take (Lib.indexByte s c).toNat),.str (s.drop ((Lib.indexByte s c).toNat+1)),.bool true]
def JM{s:List UInt8}{k:Nat}(h:k<=s.length):cy (.str s) none (some (vI k))=some (.str (s.take k)):=by
 simp only[cy,bI];rw[aE (by omega)];simp
def Cm{s:List UInt8}{k:Nat}(h:k<=s.length):cy (.str s) (some (vI k)) none=some (.str (s.drop k)):=by
 simp only[cy,bI];rw[aE (by omega),show((s.length:Int)).toNat-((k:Int)).toNat=s.length-k by omega,eL,kT (by simp)]
def L3(s:List UInt8)(c:UInt8)(hs:s.length<=1000000000):aP prog 55 [.str s,.str [c]] (FV c s):=λU=>by
 refine e55.r (by simp[c55]) ?_;refine ad.mix 8 ?_;apply sR;simp only[go_sem,seval,av,ax,c55];refine ad.ay rfl rfl rfl (Jp s c _) ?_;unfold FV;rcases yX c s with⟨h1,_⟩|⟨k,h1,h2,_⟩
 .rw[h1];have q:((-1:Int)>=0)=False:=by simp
  apply sR;simp only[go_sem,seval,av,ax,q];exact au.same (by simp)
 .rw[h1];have q:((k:Int)>=0)=True:=by simp
  have s1:=JM (s:=s) (k:=k) (by omega);have s2:=Cm (s:=s) (k:=k+1) (by omega);have e1:((k+1:Nat):Int)=(k:Int)+1:=by omega
  rw[e1]at s2;have r1:PM .i64 ((k:Int)+1):=ak;apply sR;simp only[BB,seval,av,ax,<-decide_not,bp,eT,aH,dF,dG,dB,dE,dH,bO,jm,dZ,bx,fa,cQ,fb,cJ,bI,gI,ct,bH,bM,QW,jg,cP,bJ,iy,di,bY,cO,cF,ji,binBV,bD,cX,V.cells,V.stays,Qw.nothing,q,s1,s2,r1,Int.natCast_one,Nat.reduceAdd];exact au.same (by rw[aF (by omega)];simp)
def J1(s:List UInt8)(c:UInt8)(hs:s.length<=1000000000):aP prog 24 [.str s,.str [c]] (FV c s):=λU=>by
 refine ZO.r (by simp[c24]) ?_;refine ad.mix 7 ?_;apply sR;simp only[go_sem,seval,av,ax,c24];refine ad.ay rfl rfl rfl (L3 s c hs _) ?_;unfold FV;split
 .apply sR;simp only[go_sem,seval,av,ax];exact au.same rfl
 .apply sR;simp only[go_sem,seval,av,ax];exact au.same rfl
end Go.Vc
namespace Go.Proofs
open Go.Shelf
def Tryz.yG:Go.Shelf.Ren:=⟨fun|138=>148|143=>149|195=>190|217=>143|218=>192|219=>100|224=>145|225=>144|266=>188|267=>146|314=>189|n=>n,fun|0=>0|3=>3|4=>4|5=>5|9=>9|46=>140|51=>204|146=>304|n=>n,fun|1=>0|n=>n⟩
def Tryz.IS:Go.Proofs.Lays.n138 prog Tryz.yG:={
 mixed:=by kernel_rfl
 f138:=func148.trans (congrArg some (by kernel_rfl))
 f143:=func149.trans (congrArg some (by kernel_rfl))
 f195:=func190.trans (congrArg some (by kernel_rfl))
 f217:=func143.trans (congrArg some (by kernel_rfl))
 f218:=func192.trans (congrArg some (by kernel_rfl))
 f219:=func100.trans (congrArg some (by kernel_rfl))
 f224:=func145.trans (congrArg some (by kernel_rfl))
 f225:=func144.trans (congrArg some (by kernel_rfl))
 f266:=func188.trans (congrArg some (by kernel_rfl))
 f267:=func146.trans (congrArg some (by kernel_rfl))
 f314:=func189.trans (congrArg some (by kernel_rfl))
 t0:=underlying0
 a0:=Tryz.isAgg0
 z0:=Tryz.sizeOf0
 v0:=Tryz.zeroValue0
 t3:=underlying3
 a3:=Tryz.isAgg3
 z3:=Tryz.sizeOf3
 v3:=Tryz.zeroValue3
 t4:=underlying4
 a4:=Tryz.isAgg4
 z4:=Tryz.sizeOf4
 v4:=Tryz.zeroValue4
 t5:=underlying5
 a5:=Tryz.isAgg5
 z5:=Tryz.sizeOf5
 v5:=Tryz.zeroValue5
 t9:=underlying9
 a9:=Tryz.isAgg9
 z9:=Tryz.sizeOf9
 v9:=Tryz.zeroValue9
 t46:=underlying140
 a46:=Tryz.isAgg140
 z46:=Tryz.sizeOf140
 v46:=Tryz.zeroValue140
 t51:=underlying204
 a51:=Tryz.isAgg204
 z51:=Tryz.sizeOf204
 v51:=Tryz.zeroValue204
 t146:=underlying304
 a146:=Tryz.isAgg304
 z146:=Tryz.sizeOf304
 v146:=Tryz.zeroValue304
 g1:=by kernel_rfl }
end Go.Proofs
namespace Go.Vc
open Go.Proofs Go.RowKit Go.Shelf
def I4(s:List UInt8)(c:UInt8):aP prog 148 [.str s,.str [c]] (vI (Lib.countByte s c)):=by
 refine aP.Jb (vals:=[.string ⟨s.toArray⟩,.string ⟨#[c]⟩]) (by kernel_rfl) (λI ow w l h=>?_) λw _=>?_
 .simpa[aq,A']using h
 .refine(Any.strings_Count_one Tryz.IS ⟨s.toArray⟩ c w).mono ?_;rintro e w' ⟨rfl,rfl⟩;exact⟨_,rfl,λ_ _=>by simp[A'],Below.refl _ _⟩
def bB(c:UInt8):List UInt8->List (List UInt8)
 |[]=>[[]]
 |b::l=>if b=c then[]::bB c l else match bB c l with
   |p::ps=>(b::p)::ps
   |[]=>[[b]]
def qI(c:UInt8):∀l,bB c l≠[]
 |[]=>by simp[bB]
 |b::l=>by
  simp only[bB];split
  .simp
  .split<;>simp
def ue(c:UInt8):∀l,(bB c l).length=l.count c+1
 |[]=>by simp[bB]
 |b::l=>by
  have ih:=ue c l;simp only[bB];by_cases h:b=c
  .subst h;rw[aE rfl];simp[ih]
  .rw[aF h,List.count_cons_of_ne h];cases hs:bB c l with
   |nil=>exact absurd hs (qI c l)
   |cons p ps=>rw[hs]at ih;simpa using ih
def mV(c:UInt8):∀l:List UInt8,(Lib.indexByte l c=-1/\bB c l=[l])\/∃k:Nat,Lib.indexByte l c=k/\k<l.length/\bB c l=l.take k::bB c (l.drop (k+1))
 |[]=>.inl ⟨rfl,rfl⟩
 |b::l=>by
  simp only[Lib.indexByte,bB];by_cases h:b=c
  .subst h;exact .inr ⟨0,by simp,by simp,by simp⟩
  .have hb:(b==c)=false:=by simpa using h
   rw[aF h];rcases mV c l with⟨h1,h2⟩|⟨k,h1,h2,h3⟩
   .left;rw[h1,h2];exact⟨by simp[hb],rfl⟩
   .right;refine⟨k+1,?_,by simp;omega,?_⟩
    .rw[h1];have:((k:Int)==-1)=false:=by rw[beq_eq_false_iff_ne];omega
     simp[hb,this]
    .rw[h3];rfl
def encS(l:List (List UInt8)):V:=.sl 1 (l.map .str)
def DR(s:List UInt8)(c:UInt8)(hs:s.length<=1000000000):aP prog 101 [.str s,.str [c],vI 0,vI (-1)] (encS (bB c s)):=λU=>by
 refine OX.r (by simp[JP]) ?_;refine ad.mix 12 ?_;have q0:([c]=([]:List UInt8))=False:=by simp
 have QT:s.count c<=s.length:=List.count_le_length;have hlen:=ue c s;have r1:PM .i64 ((s.count c:Int)+1):=ak;have r2:PM .i64 ((s.length:Int)+1):=ak;have r3:PM .i64 ((s.count c:Int)+1-1):=ak;have qm:((s.length:Int)+1<(s.count c:Int)+1)=False:=by simp;omega
 have e1:((s.count c:Int)+1-1)=(s.count c:Int):=by omega
 have e2:((s.count c:Int)+1).toNat=s.count c+1:=by omega
 have q2:(0<=(s.count c:Int)+1/\(s.count c+1)*17<=140737488355328)=True:=by simp;omega
 apply sR;simp only[go_sem,seval,JP,q0];refine ad.ay rfl rfl rfl (I4 s c _) ?_;have ZN:Lib.countByte s c=s.count c:=rfl;rw[ZN];apply sR;simp only[go_sem,seval,r1,r2,r3,qm,e1,e2,q2];refine ae λSs Z1 s1 a9 f9=>?_;simp only[go_sem,seval,e1,r3];generalize hn:s.count c=n at*;refine⟨ak,?_⟩;refine ad.loop (λm st=>∃(i:Nat) (u:List UInt8) (done:List (List UInt8)),i<=n/\m=n-i/\done.length=i/\bB c s=done++bB c u/\u.length<=s.length/\aa U st.U/\
  st.U Ss=some ⟨9,1,done.map .str++List.replicate (n+1-i) (.str [])⟩/\st.s 0=.str u/\st.s 1=.str [c]/\st.s 2=vI 0/\st.s 3=vI n/\st.s 9=.own Ss 0 (n+1)/\st.s 10=vI i) n ?_ ?_
 .exact⟨0,s,[],by omega,by omega,rfl,rfl,by omega,s1,by simpa using a9,rfl,rfl,rfl,rfl,rfl,rfl⟩
 .rintro m ⟨s',Z'⟩ ⟨i,u,done,hi,rfl,hdl,VD,hul,B',QD,h0,h1,h2,h3,h9,To⟩;simp only at B' QD h0 h1 h2 h3 h9 To;refine ad.mix 12 ?_;have hul2:(bB c u).length=n+1-i:=by
   have:=congrArg List.length VD;rw[fB,hlen,hdl]at this;omega
  by_cases C':i<n
  .have P':((i:Int)<(n:Int))=True:=by simp;omega
   apply sR;simp only[go_sem,seval,h0,h1,h2,h3,h9,To,P'];refine ad.ay rfl rfl rfl (MS u c _) ?_;rcases mV c u with⟨g1,g2⟩|⟨k,g1,g2,g3⟩
   .rw[g2]at hul2;simp at hul2;omega
   .rw[g1];have w1:((k:Int)<0)=False:=by simp
    have z1:=JM (s:=u) (k:=k) (by omega);have z2:=Cm (s:=u) (k:=k+1) (by omega);have e3:((k+1:Nat):Int)=(k:Int)+1:=by omega
    rw[e3]at z2;have e4:(k:Int)+0=k:=by omega
    have t1:PM .i64 (k:Int):=ak;have t2:PM .i64 ((k:Int)+1):=ak;have t3:PM .i64 ((i:Int)+1):=ak;have E':bL Z' 1 (.own Ss 0 (n+1)) (vI i)=some (.ptr Ss i 0):=by
     simp only[bL,QD];rw[aE (by simp;omega)];simp
    have P8:bH Z' 1 (.ptr Ss i 0) (.str (u.take k))=some (u' Z' Ss ⟨9,1,(done.map V.str++List.replicate (n+1-i) (V.str [])).set i (.str (u.take k))⟩):=by
     have QG:(done.map V.str++List.replicate (n+1-i) (V.str []))[i]?=some (V.str []):=by
      rw[Er (by simp;omega)];simp[hdl,List.getElem?_replicate];omega
     simp only[bH,QD,QG];rfl
    have Q9:(done.map V.str++List.replicate (n+1-i) (V.str [])).set i (.str (u.take k))=(done++[u.take k]).map V.str++List.replicate (n+1-(i+1)) (V.str []):=by
     rw[List.set_append_right _ _ (by simp;omega),eo,gw];congr 1;rw[cL,hdl,Nat.sub_self,show n+1-i=(n+1-(i+1))+1 by omega,List.replicate_succ];rfl
    apply sR;simp only[BB,seval,<-decide_not,bp,eT,aH,dF,dG,dB,dE,dH,bO,jm,dZ,bx,fa,cQ,fb,cJ,bI,gI,ct,bM,QW,jg,cP,bJ,iy,di,bY,cO,cF,ji,binBV,bD,cX,V.cells,V.stays,Qw.nothing,h0,h1,h2,h3,h9,To,w1,e4,t1,t2,z1,z2,E',P8,Int.natCast_one,Nat.reduceAdd,t3];refine⟨_,by omega,i+1,u.drop (k+1),done++[u.take k],by omega,rfl,by simp[hdl],?_,by simp;omega,?_,?_⟩
    .rw[VD,g3];simp
    .exact B'.az f9
    .rw[Q9];simp
  .obtain rfl:i=n:=by omega
   have P':((i:Int)<(i:Int))=False:=by simp
   obtain⟨u1,hu1⟩:∃u1,bB c u=[u1]:=by
    rw[show i+1-i=1 by omega]at hul2;exact List.length_eq_one_iff.1 hul2
   have hu:u1=u:=by
    rcases mV c u with⟨_,g2⟩|⟨k,_,_,g3⟩
    .rw[g2]at hu1;simpa using hu1.symm
    .rw[g3]at hu1;have:=qI c (u.drop (k+1));simp at hu1;exact absurd hu1.2 this
   subst hu;rw[hu1]at VD;rw[show i+1-i=1 by omega]at QD;have E':bL Z' 1 (.own Ss 0 (i+1)) (vI i)=some (.ptr Ss i 0):=by
    simp only[bL,QD];rw[aE (by simp;omega)];simp
   have P8:bH Z' 1 (.ptr Ss i 0) (.str u1)=some (u' Z' Ss ⟨9,1,(bB c s).map .str⟩):=by
    have QG:(done.map V.str++List.replicate 1 (V.str []))[i]?=some (.str []):=by
     rw[Er (by simp;omega)];simp[hdl]
    have Q9:(done.map V.str++List.replicate 1 (V.str [])).set i (.str u1)=(bB c s).map V.str:=by
     rw[VD,eo,List.set_append_right _ _ (by simp;omega)];simp[hdl]
    simp only[bH,QD,QG];rw[<-Q9];rfl
   have r5:PM .i64 ((i:Int)+1):=ak;have Ty:cJ (u' Z' Ss ⟨9,1,(bB c s).map .str⟩) 1 (.own Ss 0 (i+1)) none (some (vI ((i:Int)+1))) none=some (.own Ss 0 (i+1)):=by
    simp only[cJ,bI,gI,af];rw[aE ⟨by omega,by omega,by omega,by omega,by simp⟩];simp
   apply sR;simp only[BB,seval,<-decide_not,bp,eT,aH,dF,dG,dB,dE,dH,bO,jm,dZ,bx,fa,cQ,fb,cy,bI,gI,ct,bM,QW,jg,cP,bJ,iy,di,bY,cO,cF,ji,binBV,bD,cX,V.cells,V.stays,Qw.nothing,h0,h1,h2,h3,h9,To,P',E',P8,Ty,r5];have WR:i+1=((bB c s).map V.str).length:=by rw[cL,hlen]
   exact(aN.new (K:=U) (e:=9) (sz:=1) WR (af (U:=Z') (id:=Ss)) f9).zn (B'.az f9) rfl
def HL(s:List UInt8)(c:UInt8)(hs:s.length<=1000000000):aP prog 56 [.str s,.str [c]] (encS (bB c s)):=λU=>by
 refine e56.r (by simp[c56]) ?_;refine ad.mix 5 ?_;apply sR;simp only[go_sem,seval,av,ax,c56];refine ad.ay rfl rfl rfl (DR s c hs _) ?_;apply sR;simp only[go_sem,seval,av,ax];exact au.same rfl
def uC(n:Int):Bool:=decide (bz n≠n)
def Hw(n:Int):aP prog 106 [vI n] (.bool (uC n)):=λU=>by
 refine OO.r (by simp[KN]) ?_;refine ad.mix 3 ?_;apply sR;simp only[go_sem,seval,av,ax,KN];refine ad.ay rfl rfl rfl (iO n _) ?_;apply sR;simp only[go_sem,seval,av,ax];exact au.same rfl
def D4(l:List Int)(hl:l.length<=1000000000):aP prog 156 [encI l,.fn 106 []] (vI (match l.findIdx? uC with|some i=>i|none=>-1)):=λU=>by
 refine Mo.r (by simp[c156]) ?_;refine ad.mix 9 ?_;apply sR;simp only[go_sem,seval,av,ax,c156,eO];refine ad.loop (λm st=>∃i:Nat,i<=l.length/\m=l.length-i/\st.U=U/\(∀k,∀h:k<l.length,k<i->uC l[k]=false)/\st.s 0=encI l/\st.s 1=.fn 106 []/\st.s 7=vI l.length/\st.s 8=vI i) l.length ?_ ?_
 .exact⟨0,by omega,by omega,rfl,λ_ _ h=>by omega,rfl,rfl,rfl,rfl⟩
 .rintro m ⟨s',Z'⟩ ⟨i,hi,rfl,P3,Qa,h0,h1,h7,h8⟩;simp only at P3 h0 h1 h7 h8;subst P3;refine ad.mix 9 ?_;by_cases C':i<l.length
  .have P':((i:Int)<(l.length:Int))=True:=by simp;omega
   have E':=gG (U:=Z') C';have r1:PM .i64 ((i:Int)+1):=ak;apply sR;simp only[go_sem,seval,av,ax,h0,h1,h7,h8,P',E'];refine ad.ay rfl rfl rfl (Hw l[i] _) ?_;cases hb:uC l[i]
   .apply sR;simp only[go_sem,seval,av,ax,h0,h1,h7,h8,r1];refine⟨_,by omega,i+1,by omega,rfl,λk hk hki=>?_,by simp[h0,h1,h7]⟩;rcases Nat.lt_or_ge k i with g|g
    .exact Qa k hk g
    .obtain rfl:k=i:=by omega
     exact hb
   .apply sR;simp only[go_sem,seval,av,ax,h0,h1,h7,h8];refine au.same ?_;have:l.findIdx? uC=some i:=List.findIdx?_eq_some_iff_getElem.2 ⟨C',hb,λj hj=>by simpa using Qa j (by omega) hj⟩;rw[this]
  .have P':((i:Int)<(l.length:Int))=False:=by simp;omega
   apply sR;simp only[go_sem,seval,av,ax,h0,h1,h7,h8,P'];refine au.same ?_;have:l.findIdx? uC=none:=List.findIdx?_eq_none_iff.2 λx hx=>by
    obtain⟨k,hk,rfl⟩:=List.mem_iff_getElem.1 hx;exact Qa k hk (by omega)
   rw[this]
def BV(l:List Int)(hl:l.length<=1000000000):aP prog 105 [encI l,.fn 106 []] (.bool (l.any uC)):=λU=>by
 refine Me.r (by simp[c105]) ?_;refine ad.mix 5 ?_;apply sR;simp only[go_sem,seval,av,ax,c105];refine ad.ay rfl rfl rfl (D4 l hl _) ?_;cases h:l.findIdx? uC with
 |none=>
  have ha:l.any uC=false:=by
   rw[List.any_eq_false];intro x hx;simp[List.findIdx?_eq_none_iff.1 h x hx]
  apply sR;simp only[go_sem,seval,av,ax];exact au.same (by rw[ha]<;>simp)
 |some i=>
  obtain⟨h1,h2,_⟩:=List.findIdx?_eq_some_iff_getElem.1 h;have ha:l.any uC=true:=Lm.2 ⟨_,QF h1,h2⟩;apply sR;simp only[go_sem,seval,av,ax];exact au.same (by rw[ha]<;>simp)
def w9(x:Rq):Bool:=!([x.no,x.kind,x.used,x.free].any uC)
def Ff(x:Rq):aP prog 59 [bX x] (.bool (w9 x)):=λU=>by
 refine e59.r (by simp[c59]) ?_;refine ad.mix 3 ?_;apply sR;simp only[go_sem,seval,c59,bX];refine ae λSn Z1 s1 a1 f1=>?_;simp only[go_sem,seval,a1];refine ae λRs Z2 s2 a2 f2=>?_;simp only[go_sem,seval];have hc:=aP.borrow (U:=Z2) (args:=[.own Rs 0 4,.fn 106 []]) (args':=[encI [x.no,x.kind,x.used,x.free],.fn 106 []])
  ⟨by have:=Wk.own (cV Z2) a2 (Z':=fe) rfl (off:=0) (len:=4) (by simp);exact this,Wk.fn trivial,trivial⟩ (BV _ (by simp)) rfl
 refine ad.ay rfl rfl rfl hc ?_;apply sR;simp only[go_sem,seval];exact au.pure (s1.trans s2) rfl
open Go.Proofs Go.RowKit Go.Shelf
def fw(w:List UInt8):Int:=match Lib.atoiAll w with
 |.ok k=>k
 |_=>0
def okW(w:List UInt8):Bool:=match Lib.atoiAll w with
 |.ok k=>decide (Lib.itoa k=w)
 |_=>false
def tL:Rq:=⟨0,0,0,0⟩
def lN(s:List UInt8):Rq×Bool:=match bB 32 s with
 |[a,b,c,d]=>if okW a&&(okW b&&(okW c&&okW d))then(⟨fw a,fw b,fw c,fw d⟩,w9 ⟨fw a,fw b,fw c,fw d⟩)else(tL,false)
 |_=>(tL,false)
def nO(s:List UInt8):V:=.PI [bX (lN s).1,.bool (lN s).2]
def GG{U:ag}{l:List (List UInt8)}{i:Nat}(h:i<l.length):bL U 1 (encS l) (vI i)=some (.rp (.str l[i])):=by
 unfold encS bL;simp[h]
def zC(l:List (List UInt8)):dY false (encS l)=some (vI l.length):=by simp[encS,dY]
def x6(U:ag)(sz:Nat)(l:List UInt8):bT U false sz (.rp (.str l))=some (.str l):=rfl
def CH{U:ag}{id j:Nat}{o:Ob}(h:j≠id):u' U id o j=U j:=by unfold u';rw[aF h]
def j2(l:List (List UInt8))(i:Nat):List V:=(l.take i).map (λw=>vI (fw w))++List.replicate (4-i) (vI 0)
def Dg(l:List (List UInt8))(i:Nat)(hl:l.length=4)(hi:i<=4):(j2 l i).length=4:=by simp[j2];omega
def D6(l:List (List UInt8))(i:Nat)(hl:l.length=4)(hi:i<4):bJ (j2 l i) i [vI (fw (l[i]'(by omega)))]=j2 l (i+1):=by
 match l,hl with
 |[a,b,c,d],_=>
  have:i=0\/i=1\/i=2\/i=3:=by omega
  rcases this with rfl|rfl|rfl|rfl<;>simp[j2,bJ,List.replicate]
def mE(c:UInt8):∀(s w:List UInt8),w∈bB c s->w.length<=s.length
 |[],w,h=>by simp[bB]at h;simp[h]
 |b::s,w,h=>by
  have ih:=mE c s;unfold bB at h;split at h
  .simp only[cD]at h;rcases h with rfl|h
   .simp
   .have:=ih w h;simp;omega
  .split at h
   .rename_i p ps hp;simp only[cD]at h;rcases h with rfl|h
    .have:=ih p (by rw[hp];simp);simp;omega
    .have:=ih w (by rw[hp];simp[h]);simp;omega
   .simp only[cD,List.not_mem_nil,or_false]at h;subst h;simp
def H0(s:List UInt8)(hl:s.length<=1000000000)(k:Int)(h:Lib.atoiAll s=.ok k):aP prog 57 [.str s] (.PI [vI k,.QN]):=by
 have RM:(⟨s.toArray⟩:ByteArray).size=s.length:=by simp[ByteArray.size]
 refine aP.Jb (vals:=[.string ⟨s.toArray⟩]) (by kernel_rfl) (λI ow w l h=>by simpa[aq,A']using h) λw hO=>?_;refine(Any.strconv_Atoi_ok Tryz.FG ⟨s.toArray⟩ (by omega) k (by simpa using h) w).mono ?_;rintro e w' ⟨rfl,hw⟩;refine⟨_,rfl,λ_ _=>by simp[A',aq],?_⟩;rcases hw with rfl|⟨t,rfl⟩
 .exact Below.refl _ _
 .exact Lib.bytesWorld_below _ _ _
def HM(s:List UInt8):Bool:=decide ((bB 32 s).length≠4)||(bB 32 s).all λw=>match Lib.atoiAll w with
 |.ok _=>true
 |_=>false
def HK{s:List UInt8}(h:HM s=true)(h4:(bB 32 s).length=4):∀w∈bB 32 s,∃k,Lib.atoiAll w=.ok k:=λw hw=>by
 unfold HM at h;rw[Sz (by omega),Bool.false_or]at h;have:=eQ.1 h w hw;cases h1:Lib.atoiAll w with
 |ok k=>exact⟨k,rfl⟩
 |_=>rw[h1]at this;cases this
def Kd(s:List UInt8)(hs:s.length<=1000000000)(hk:HM s=true):aP prog 25 [.str s] (nO s):=λU=>by
 refine e25.r (by simp[c25]) ?_;refine ad.mix 12 ?_;apply sR;simp only[go_sem,seval,c25];refine ae λRs Z1 s1 a2 f2=>?_;simp only[go_sem,seval];refine ad.ay rfl rfl rfl (HL s 32 hs _) ?_;apply sR;simp only[go_sem,seval];refine ae λQl Z2 s2 a5 f5=>?_;have VF:Rs≠Ql:=ao a2 f5;have a2:=s2 _ _ a2;have Tv:=s1.trans s2;have z5:U Ql=none:=s1.none f5;have zero:∀(A:Ob) (B:Ob),au (.PI [.agg [.int .i64 0,.int .i64 0,.int .i64 0,.int .i64 0],.bool false]) (u' (u' Z2 Ql A) Rs B) λr Z'=>r=.PI [bX tL,.bool false]/\Z'=U:=λA B=>au.pure ((Tv.az z5).az f2) rfl;by_cases h4:(bB 32 s).length=4
 .obtain⟨a,b,c,d,hl⟩:∃a b c d,bB 32 s=[a,b,c,d]:=by
   match h:bB 32 s,h4 with
   |[a,b,c,d],_=>exact⟨a,b,c,d,rfl⟩
  have hR:lN s=if okW a&&(okW b&&(okW c&&okW d))then(⟨fw a,fw b,fw c,fw d⟩,w9 ⟨fw a,fw b,fw c,fw d⟩)else(tL,false):=by unfold lN;rw[hl]
  have hfalse:(okW a&&(okW b&&(okW c&&okW d)))=false->nO s=.PI [bX tL,.bool false]:=λh=>by unfold nO;rw[hR,h];rfl
  have Yj:∀w∈bB 32 s,w.length<=1000000000:=λw hw=>iq (mE 32 s w hw) hs;rw[hl]at Yj|-;have q1:(((4:Nat):Int)≠4)=False:=by simp
  simp only[go_sem,seval,zC,q1];obtain⟨l,hl4,Tu⟩:∃l:List (List UInt8),l.length=4/\l=[a,b,c,d]:=⟨_,rfl,rfl⟩
  have hw':∀i,∀h:i<4,(l[i]'(by omega)).length<=1000000000:=λi h=>Yj _ (by rw[<-Tu];exact QF _);have RG:∀i,∀h:i<4,∃k,Lib.atoiAll (l[i]'(by omega))=.ok k:=λi h=>by
   have hm:(l[i]'(by omega))∈bB 32 s:=by rw[hl,<-Tu];exact QF _
   have:=HK hk h4 _ hm;exact this
  rw[<-Tu];refine ad.loop (λm st=>∃i:Nat,i<=4/\m=4-i/\st.U=u' Z2 Ql ⟨124,4,[.agg (j2 l i)]⟩/\(∀k,∀h:k<4,k<i->okW (l[k]'(by omega))=true)/\st.s 2=.ptr Rs 0 0/\st.s 5=.ptr Ql 0 0/\st.s 17=encS l/\st.s 18=vI 4/\st.s 19=vI i) 4 ?_ ?_
  .exact⟨0,by omega,by omega,by rw[qt];rw[a5];rfl,λ_ _ h=>by omega,rfl,rfl,rfl,rfl,rfl⟩
  .rintro m ⟨s',Z'⟩ ⟨i,hi,rfl,P3,Qa,h2,h5,h17,h18,h19⟩;simp only at P3 h2 h5 h17 h18 h19;subst P3;refine ad.mix 20 ?_;by_cases C':i<4
   .have P':((i:Int)<4)=True:=by simp;omega
    have E':=GG (U:=u' Z2 Ql ⟨124,4,[.agg (j2 l i)]⟩) (l:=l) (i:=i) (by omega);apply sR;simp only[go_sem,seval,h2,h5,h17,h18,h19,P',E',x6];obtain⟨k,k0⟩:=RG i C';refine ad.ay rfl rfl rfl (H0 _ (hw' i C') k k0 _) ?_;have b2:(u' Z2 Ql ⟨124,4,[.agg (j2 l i)]⟩) Rs=some ⟨42,4,[.agg [vI 0,vI 0,vI 0,vI 0]]⟩:=by rw[CH VF];exact a2
    have hbad:okW (l[i]'(by omega))=false->(okW a&&(okW b&&(okW c&&okW d)))=false:=λhb=>by
     subst Tu;have:i=0\/i=1\/i=2\/i=3:=by omega
     rcases this with rfl|rfl|rfl|rfl<;>simp at hb<;>simp[hb]
    have k2:fw (l[i]'(by omega))=k:=by simp[fw,k0]
    have P4:okW (l[i]'(by omega))=decide (Lib.itoa k=(l[i]'(by omega))):=by simp[okW,k0]
    have k4:=(Lib.atoiAll_bounds k0).1;have k5:=(Lib.atoiAll_bounds k0).2
    (refine ad.aY Qw.nothing 10 ?_;simp only[go_sem,seval,cg,h2,h5,h17,h18,h19])
    refine ad.Ov rfl rfl (b:=true) (.inl ⟨rfl,rfl⟩) ?_;have UI:(true != true)=false:=rfl;apply sR;simp only[go_sem,seval,h2,h5,h17,h18,h19,k2,UI];refine ad.ay rfl rfl rfl (HQ k k4 k5 _) ?_;by_cases he:Lib.itoa k=l[i]'(by omega)
    .have PZ:(Lib.itoa k≠l[i]'(by omega))=False:=by simp[he]
     have hiA:cQ false 4 1 (.ptr Ql 0 0) (vI i)=some (.ptr Ql 0 i):=by
      simp only[cQ];rw[aE (by simp;omega)];simp
     have P8:bH (u' Z2 Ql ⟨124,4,[.agg (j2 l i)]⟩) 1 (.ptr Ql 0 i) (vI k)=some (u' Z2 Ql ⟨124,4,[.agg (j2 l (i+1))]⟩):=by
      have Q9:=D6 l i hl4 C';rw[k2]at Q9;have e:bM (.agg (j2 l i)) i 1 (vI k)=some (.agg (j2 l (i+1))):=by
       have h1:=Dg l i hl4 hi;unfold bM;rw[aE ⟨rfl,rfl⟩,aF (by simp[V.cells,h1]),aE (by simp[V.cells,h1];omega),<-Q9];rfl
      simp only[bH,af,EE,e,bZ,List.set_cons_zero]
     have r1:PM .i64 ((i:Int)+1):=ak;apply sR;simp only[BB,seval,<-decide_not,bp,eT,aH,dF,dG,dB,dE,dH,bO,jm,dZ,bx,fa,fb,cJ,cy,bI,gI,ct,bM,QW,jg,cP,bJ,iy,di,bY,cO,cF,ji,binBV,bD,cX,V.cells,V.stays,Qw.nothing,h2,h5,h17,h18,h19,PZ,hiA,P8,r1];refine⟨_,by omega,i+1,by omega,rfl,rfl,?_,by simp[h2,h5,h17,h18]⟩;intro j hj Sl;rcases Nat.lt_or_ge j i with g|g
     .exact Qa j hj g
     .obtain rfl:j=i:=by omega
      rw[P4];exact SP he
    .have PZ:(Lib.itoa k≠l[i]'(by omega))=True:=by simp[he]
     apply sR;simp only[go_sem,seval,h2,h5,h17,h18,h19,PZ,b2];rw[hfalse ?_]
     .exact zero _ _
     .have hb:okW (l[i]'(by omega))=false:=by rw[P4];exact Sz he
      subst Tu;have:i=0\/i=1\/i=2\/i=3:=by omega
      rcases this with rfl|rfl|rfl|rfl<;>simp at hb<;>simp[hb]
   .have P':((i:Int)<4)=False:=by simp;omega
    obtain rfl:i=4:=by omega
    have hn4:j2 l 4=[vI (fw a),vI (fw b),vI (fw c),vI (fw d)]:=by rw[Tu];rfl
    have hok4:(okW a&&(okW b&&(okW c&&okW d)))=true:=by
     subst Tu;have w0:=Qa 0 (by omega) (by omega);have w1:=Qa 1 (by omega) (by omega);have w2:=Qa 2 (by omega) (by omega);have w3:=Qa 3 (by omega) (by omega);simp at w0 w1 w2 w3;simp[w0,w1,w2,w3]
    have SC:nO s=.PI [bX ⟨fw a,fw b,fw c,fw d⟩,.bool (w9 ⟨fw a,fw b,fw c,fw d⟩)]:=by unfold nO;rw[hR,hok4];rfl
    have b2:(u' Z2 Ql ⟨124,4,[.agg (j2 l 4)]⟩) Rs=some ⟨42,4,[.agg [vI 0,vI 0,vI 0,vI 0]]⟩:=by rw[CH VF];exact a2
    rw[SC];have n52:Ql≠Rs:=λe=>VF e.symm;rw[hn4]at b2|-;generalize fw a=na,fw b=nb,fw c=nc,fw d=nd at*;have i0:cQ false 4 1 (.ptr Ql 0 0) (vI 0)=some (.ptr Ql 0 0):=rfl;have i1:cQ false 4 1 (.ptr Ql 0 0) (vI 1)=some (.ptr Ql 0 1):=rfl;have i2:cQ false 4 1 (.ptr Ql 0 0) (vI 2)=some (.ptr Ql 0 2):=rfl;have i3:cQ false 4 1 (.ptr Ql 0 0) (vI 3)=some (.ptr Ql 0 3):=rfl;apply sR;simp only[BB,seval,<-decide_not,bp,eT,aH,dF,dG,dB,dE,dH,bO,jm,dZ,bx,fa,fb,cJ,cy,bI,gI,ct,bH,bM,QW,jg,cP,bJ,iy,di,bY,cO,cF,ji,binBV,bD,cX,V.cells,V.stays,Qw.nothing,h2,h5,h17,h18,h19,P',af,i0,i1,i2,i3];refine ae λid10 Z3 s3 a3 f3=>?_;have n10:Rs≠id10:=ao b2 f3;have c2:=s3 _ _ b2;simp only[go_sem,seval,a3,af];refine Go.FZ rfl rfl rfl (Ff ⟨na,nb,nc,nd⟩) ?_;apply sG;simp only[go_sem,seval,h2,ab n10,c2,af];have B':=(Tv.az (o:=⟨124,4,[.agg [vI na,vI nb,vI nc,vI nd]]⟩) z5)
    exact au.pure (((B'.trans s3).az (B'.none f3)).az f2) rfl
 .have q1:(((bB 32 s).length:Int)≠4)=True:=by simp;omega
  have hR:nO s=.PI [bX tL,.bool false]:=by
   have:lN s=(tL,false):=by
    unfold lN;split
    .rename_i h;rw[h]at h4;simp at h4
    .rfl
   unfold nO;rw[this]
  simp only[go_sem,seval,zC,q1,a2];rw[hR];have:=zero ⟨124,4,[.agg [.int .i64 0,.int .i64 0,.int .i64 0,.int .i64 0]]⟩ ⟨42,4,[.agg [.int .i64 0,.int .i64 0,.int .i64 0,.int .i64 0]]⟩
  rwa [qt a5]at this
def Yc:List (List UInt8)->Nat->Except Nat (List Rq)
 |[],_=>.ok []
 |[p],n=>if p=[]then .ok []else .error (n+1)
 |p::q::ps,n=>if(lN p).2 then(match Yc (q::ps) (n+1)with
   |.ok l=>.ok ((lN p).1::l)
   |.error e=>.error e)else .error (n+1)
def Hh(d:List Rq):Except Nat (List Rq)->Except Nat (List Rq)
 |.ok l=>.ok (d++l)
 |.error e=>.error e
def rdV:Except Nat (List Rq)->V
 |.ok l=>.PI [.sl 4 (l.map bX),vI 0,vI 0]
 |.error n=>.PI [.sl 4 [],vI n,vI 1]
def Az(s:List UInt8):nO s=.PI [bX (lN s).1,.bool (lN s).2]:=rfl
def F8(s:List UInt8)(hs:s.length<=1000000000)(hk:(bB 10 s).all HM=true):aP prog 10 [.str s] (rdV (Yc (bB 10 s) 0)):=λU=>by
 have hf:∀p∈bB 10 s,aP prog 25 [.str p] (nO p):=λp hp=>Kd p (iq (mE 10 s p hp) hs) (eQ.1 hk p hp);refine e10.r (by simp[c10]) ?_;refine ad.mix 12 ?_;apply sR;simp only[go_sem,seval,av,ax,c10];refine ad.loop (λm st=>∃(u:List UInt8) (n:Nat) (d:List Rq),u.length<=s.length/\m=u.length/\n+u.length<=s.length/\d.length<=n/\(∀p∈bB 10 u,aP prog 25 [.str p] (nO p))/\
  Yc (bB 10 s) 0=Hh d (Yc (bB 10 u) n)/\aa U st.U/\aN U st.U 42 4 (st.s 2) (d.map bX)/\st.s 0=.str u/\st.s 3=vI n) s.length ?_ ?_
 .refine⟨s,0,[],by omega,rfl,by omega,by simp,hf,?_,aa.refl U,aN.start,rfl,rfl⟩;cases Yc (bB 10 s) 0<;>rfl
 .rintro m ⟨s',Z'⟩ ⟨u,n,d,hu,rfl,hn,hd,hfu,hp,B',QH,h0,h3⟩;simp only at h0 h3 B' QH;generalize Xk:s' 2=v2 at*;refine ad.mix 12 ?_;by_cases Tz:u=[]
  .subst Tz;have q1:(([]:List UInt8)≠[])=False:=by simp
   apply sR;simp only[go_sem,seval,av,ax,h0,Xk,h3,q1];refine⟨_,U,B',Wk.PI (vs':=[.sl 4 (d.map bX),vI 0,vI 0]) ⟨QH.wk (aa.refl U) B',Wk.refl B' _,Wk.refl B' _,trivial⟩,?_,rfl⟩;rw[hp];simp[bB,Yc,Hh,rdV]
  .have q1:(u≠[])=True:=by simp[Tz]
   have hul:0<u.length:=rK.2 Tz;have r1:PM .i64 ((n:Int)+1):=ak;apply sR;simp only[go_sem,seval,av,ax,h0,Xk,h3,q1,r1];refine ad.ay rfl rfl rfl (J1 u 10 (by omega) _) ?_;unfold FV;rcases mV 10 u with⟨g1,g2⟩|⟨k,g1,g2,g3⟩
   .have hff:=hfu u (by rw[g2];simp);rw[Az]at hff;rw[g1,aE (by omega)];apply sR;simp only[go_sem,seval,av,ax,h0,Xk,h3];refine ad.ay rfl rfl rfl (hff _) ?_;generalize SC:lN u=fr at*;apply sR;simp only[go_sem,seval,h0,Xk,h3];refine ae λYP Z8 s8 a8 f8=>?_;simp only[go_sem,seval,a8,bX,h0,Xk,h3];have k8:=(B'.trans s8).az (o:=⟨42,4,[.agg [vI fr.1.no,vI fr.1.kind,vI fr.1.used,vI fr.1.free]]⟩) (B'.none f8);refine⟨_,U,k8,Wk.PI (vs':=[.sl 4 [],vI (n+1),vI 1]) ⟨Wk.aL 4,Wk.refl k8 _,Wk.refl k8 _,trivial⟩,?_,rfl⟩;rw[hp,g2];simp[Yc,Tz,Hh,rdV]
   .have hff:=hfu (u.take k) (by rw[g3];simp);rw[Az]at hff;rw[g1,aF (by omega)];have e3:((k:Int)).toNat=k:=by simp
    rw[e3];apply sR;simp only[go_sem,seval,av,ax,h0,Xk,h3];refine ad.ay rfl rfl rfl (hff _) ?_;generalize SC:lN (u.take k)=fr at*;obtain⟨f,ok⟩:=fr;have PZ:=qI 10 (u.drop (k+1));have SY:Yc (bB 10 u) n=if ok then(match Yc (bB 10 (u.drop (k+1))) (n+1)with
     |.ok l=>.ok (f::l)
     |.error e=>.error e)else .error (n+1):=by
     rw[g3];cases h:bB 10 (u.drop (k+1))with
     |nil=>exact absurd h PZ
     |cons q ps=>simp only[Yc,SC]
    cases ok
    .apply sR;simp only[go_sem,seval,h0,Xk,h3];refine ae λYP Z8 s8 a8 f8=>?_;simp only[go_sem,seval,a8,bX,h0,Xk,h3];have k8:=(B'.trans s8).az (o:=⟨42,4,[.agg [vI f.no,vI f.kind,vI f.used,vI f.free]]⟩) (B'.none f8);refine⟨_,U,k8,Wk.PI (vs':=[.sl 4 [],vI (n+1),vI 1]) ⟨Wk.aL 4,Wk.refl k8 _,Wk.refl k8 _,trivial⟩,?_,rfl⟩;rw[hp,SY];simp[Hh,rdV]
    .apply sR;simp only[go_sem,seval,h0,Xk,h3];refine ae λYP Z8 s8 a8 f8=>?_;simp only[go_sem,seval,a8,bX,h0,Xk,h3];have k8:=(B'.trans s8).az (o:=⟨42,4,[.agg [vI f.no,vI f.kind,vI f.used,vI f.free]]⟩) (B'.none f8);refine ae λSn Z1 s1 a1 f1=>?_;obtain⟨PU,QV,Qx⟩:=QH.dst ((s8.az f8).trans s1);have s2:=k8.trans s1;have Qp:(d.length+1)*33<=140737488355328:=by omega
     simp only[go_sem,seval,QV,cW a1,cL,Qp,h0,h3];refine dI λRs Z2 s3 a2 f2=>?_;have s4:=(Qx U (aa.refl _) Z1 s2).trans s3;have hdl:(u.drop (k+1)).length=u.length-(k+1):=by simp
     simp only[go_sem,seval,h0,h3];refine⟨_,?_,u.drop (k+1),n+1,d++[f],by omega,rfl,by omega,by simp;omega,λp hp=>hfu p (by rw[g3];exact List.mem_cons_of_mem _ hp),?_,s4,?_,rfl,by simp⟩
     .omega
     .rw[hp,SY];cases Yc (bB 10 (u.drop (k+1))) (n+1)<;>simp[Hh]
     .exact aN.new (by simp) (by rw[a2];simp[bX]) (s2.none f2)
open Go.Proofs
def zX(neg:Bool)(t u:Rq):iy neg [0,0,0,0] (bX t) (bX u)=some (.bool (if neg then !decide (t=u)else decide (t=u))):=by
 have h2:bY [vI t.no,vI t.kind,vI t.used,vI t.free] [vI u.no,vI u.kind,vI u.used,vI u.free]=some (decide (t=u)):=by
  simp only[bY,cO,if_true,bb,Bool.and_true];rw[Bool.eq_iff_iff];cases t;cases u;simp
 unfold bX;simp only[iy];rw[aE ⟨rfl,rfl⟩,h2]
 all_goals rfl
def GO(a b:List Rq)(ha:a.length<=1000000000):aP prog 13 [bW a,bW b] (.bool (decide (a=b))):=λU=>by
 refine e13.r (by simp[c13]) ?_;refine ad.mix 6 ?_;by_cases hl:a.length=b.length
 .have q1:((a.length:Int)≠(b.length:Int))=False:=by simp;omega
  apply sR;simp only[go_sem,seval,av,ax,c13,iQ,q1];refine ad.loop (λm st=>∃i:Nat,i<=a.length/\m=a.length-i/\decide (a=b)=decide (a.drop i=b.drop i)/\st.U=U/\st.s 0=bW a/\st.s 1=bW b/\st.s 5=vI i) a.length ?_ ?_
  .exact⟨0,by omega,by omega,rfl,rfl,rfl,rfl,rfl⟩
  .rintro m ⟨s',Z'⟩ ⟨i,hi,rfl,hp,P3,h0,h1,h5⟩;simp only at P3 h0 h1 h5;subst P3;refine ad.mix 6 ?_;by_cases C':i<a.length
   .have P':((i:Int)<(a.length:Int))=True:=by simp;omega
    have hltb:i<b.length:=by omega
    have U6:PM .i64 ((i:Int)+1):=ak;have da:=gT C';have db:=gT hltb;have ia:=px (U:=Z') C';have ib:=px (U:=Z') hltb;rw[da,db]at hp;by_cases he:a[i]=b[i]
    .have hq:iy true [0,0,0,0] (bX a[i]) (bX b[i])=some (.bool false):=by rw[zX];simp[he]
     apply sR;simp only[BB,seval,av,ax,<-decide_not,bp,eT,aH,dF,dG,dB,dE,dH,bO,jm,dZ,bx,fa,cQ,fb,cJ,cy,bI,gI,ct,bH,bM,QW,jg,cP,bJ,di,bY,cO,cF,ji,binBV,bD,cX,V.cells,V.stays,Qw.nothing,h0,h1,h5,iQ,P',hq,ia,ib,Iv,U6];refine⟨_,by omega,i+1,by omega,rfl,?_,by simp⟩;rw[hp];simp only[List.cons.injEq,he,true_and]
    .have hq:iy true [0,0,0,0] (bX a[i]) (bX b[i])=some (.bool true):=by rw[zX];simp[he]
     apply sR;simp only[BB,seval,av,ax,<-decide_not,bp,eT,aH,dF,dG,dB,dE,dH,bO,jm,dZ,bx,fa,cQ,fb,cJ,cy,bI,gI,ct,bH,bM,QW,jg,cP,bJ,di,bY,cO,cF,ji,binBV,bD,cX,V.cells,V.stays,Qw.nothing,h0,h1,h5,iQ,P',hq,ia,ib,Iv];refine au.same ?_;rw[hp];simp only[List.cons.injEq,he,false_and,decide_false]
   .have P':((i:Int)<(a.length:Int))=False:=by simp;omega
    apply sR;simp only[go_sem,seval,av,ax,h0,h1,h5,iQ,P'];refine au.same ?_;rw[hp,Dv (by omega),Dv (by omega)];rfl
 .have q1:((a.length:Int)≠(b.length:Int))=True:=by simp;omega
  apply sR;simp only[go_sem,seval,av,ax,c13,iQ,q1];exact au.same (by rw[Sz (λe=>hl (by rw[e]))])
def GQ(i:Nat)(n:Int):Rq:=if n=0 then⟨i+1,3,0,10⟩else⟨i+1,1,n,10-n⟩
def lR:Nat->List Int->List Rq
 |_,[]=>[]
 |i,n::l=>GQ i n::lR (i+1) l
def wF(n:Int):∀(l:List Int) (i:Nat),lR i (l++[n])=lR i l++[GQ (i+l.length) n]
 |[],i=>rfl
 |y::l,i=>by
  rw[List.cons_append,lR,wF n l (i+1),lR,Rc,show i+1+l.length=i+(l.length+1) by omega];rfl
def zZ:∀(l:List Int) (i:Nat),(lR i l).length=l.length
 |[],_=>rfl
 |y::l,i=>by simp[lR,zZ l (i+1)]
def Nc(l:List Int)(hl:l.length<=1000000)(hr:∀n∈l,0<=n/\n<=1000)(U:ag)(A:V)(p:Nat->V)(hlen:dY false A=some (vI l.length))(Vr:∀Z',aa U Z'->∀i,i<l.length->bL Z' 1 A (vI i)=some (p i))
 (hld:∀Z',aa U Z'->∀i,∀h:i<l.length,bT Z' false 1 (p i)=some (vI l[i])):aC prog 12 [A] U λr Z'=>r=bW (lR 0 l)/\Z'=U:=by
 refine e12.r (by simp[c12]) ?_;refine ad.mix 6 ?_;apply sR;simp only[go_sem,seval,av,ax,c12];refine ad.loop (λm st=>∃i:Nat,i<=l.length/\m=l.length-i/\aa U st.U/\aN U st.U 42 4 (st.s 3) ((lR 0 (l.take i)).map bX)/\st.s 0=A/\st.s 4=vI i) l.length ?_ ?_
 .exact⟨0,by omega,by omega,aa.refl U,aN.start,rfl,rfl⟩
 .rintro m ⟨s',Z'⟩ ⟨i,hi,rfl,B',QH,h0,h4⟩;simp only at B' QH h0 h4;generalize hv3:s' 3=v3 at*;refine ad.mix 6 ?_;by_cases C':i<l.length
  .have P':((i:Int)<(l.length:Int))=True:=by simp;omega
   have x1:=Vr Z' B' i C';have y1:=hld Z' B' i C';have hn:=hr l[i] (QF C');have r1:PM .i64 ((i:Int)+1):=ak;have r2:PM .i64 (10-l[i]):=ak;have Qn:l.take (i+1)=l.take i++[l[i]]:=by rw[Ax,SQ C'];rfl
   have hsn:lR 0 (l.take (i+1))=lR 0 (l.take i)++[GQ i l[i]]:=by
    rw[Qn,wF,jt,show 0+min i l.length=i by omega]
   have Tu:(lR 0 (l.take i)).length=i:=by rw[zZ];simp;omega
   have hixn:∀Yh,aa U Yh->bL Yh 1 A (vI i)=some (p i):=λYh h=>Vr Yh h i C';have hldn:∀Yh,aa U Yh->bT Yh false 1 (p i)=some (vI l[i]):=λYh h=>hld Yh h i C';generalize l[i]=n at*;generalize hpi:p i=pi at*;by_cases hz:n=0
   .have hz':(n=0)=True:=by simp[hz]
    apply sR;simp only[go_sem,seval,h0,hv3,h4,hlen,P',x1,y1,r1,r2,hz'];refine bj λQl Z5 s5 a5 f5=>?_;have kA:=(B'.trans s5).az (o:=⟨42,4,[.agg [vI (i+1),vI 1,vI n,vI (10-n)]]⟩) (B'.none f5);have x2:=hixn _ kA;have y2:=hldn _ kA;simp only[go_sem,seval,a5,h0,hv3,h4,hlen,x2,y2,hz',r1];have k5:=(B'.trans s5).az (o:=⟨42,4,[.agg [vI (i+1),vI 3,vI 0,vI 10]]⟩) (B'.none f5);refine ae λSn Z1 s1 a1 f1=>?_;obtain⟨PU,QV,Qx⟩:=QH.dst ((s5.az f5).trans s1);have s2:=k5.trans s1;have Qp:(i+1)*33<=140737488355328:=by omega
    simp only[go_sem,seval,QV,cW a1,cL,Tu,Qp,h0,h4];refine dI λRs Z2 s3 a2 f2=>?_;have s4:=(Qx U (aa.refl _) Z1 s2).trans s3;simp only[go_sem,seval,h0,h4,r1];refine⟨_,?_,i+1,by omega,rfl,s4,?_,by simp[h0]⟩
    .omega
    .rw[hsn];exact aN.new (by simp[Tu]) (by rw[a2];simp[bX,GQ,hz]) (s2.none f2)
   .have hz':(n=0)=False:=by simp[hz]
    apply sR;simp only[go_sem,seval,h0,hv3,h4,hlen,P',x1,y1,r1,r2,hz'];refine bj λQl Z5 s5 a5 f5=>?_;have kA:=(B'.trans s5).az (o:=⟨42,4,[.agg [vI (i+1),vI 1,vI n,vI (10-n)]]⟩) (B'.none f5);have x2:=hixn _ kA;have y2:=hldn _ kA;simp only[go_sem,seval,a5,h0,hv3,h4,hlen,x2,y2,hz',r1];have k5:=(B'.trans s5).az (o:=⟨42,4,[.agg [vI (i+1),vI 1,vI n,vI (10-n)]]⟩) (B'.none f5);refine ae λSn Z1 s1 a1 f1=>?_;obtain⟨PU,QV,Qx⟩:=QH.dst ((s5.az f5).trans s1);have s2:=k5.trans s1;have Qp:(i+1)*33<=140737488355328:=by omega
    simp only[go_sem,seval,QV,cW a1,cL,Tu,Qp,h0,h4];refine dI λRs Z2 s3 a2 f2=>?_;have s4:=(Qx U (aa.refl _) Z1 s2).trans s3;simp only[go_sem,seval,h0,h4,r1];refine⟨_,?_,i+1,by omega,rfl,s4,?_,by simp[h0]⟩
    .omega
    .rw[hsn];exact aN.new (by simp[Tu]) (by rw[a2];simp[bX,GQ,hz]) (s2.none f2)
  .have P':((i:Int)<(l.length:Int))=False:=by simp;omega
   obtain rfl:i=l.length:=by omega
   rw[hU]at QH;apply sR;simp only[go_sem,seval,h0,hv3,h4,hlen,P'];exact QH.zn B' rfl
def IU(l:List Int)(hl:l.length<=1000000)(hr:∀n∈l,0<=n/\n<=1000)(U:ag)(id:Nat)(hid:U id=some ⟨3,1,l.map vI⟩):aC prog 12 [.own id 0 l.length] U λr Z'=>r=bW (lR 0 l)/\Z'=U:=
 Nc l hl hr U _ (λi=>.ptr id i 0) rfl (λZ' hs i h=>by simp[bL,hs _ _ hid,h]) (λZ' hs i h=>by simp[bT,hs _ _ hid,h,V.cells])
def M5:aP prog 10 [.str [50,32,49,32,57,32,49,10]] (.PI [bW [⟨2,1,9,1⟩],vI 0,vI 0]):=by
 have h:=F8 [50,32,49,32,57,32,49,10] (by simp) (by kernel_rfl);have e:Yc (bB 10 [50,32,49,32,57,32,49,10]) 0=.ok [⟨2,1,9,1⟩]:=by kernel_rfl
 rw[e]at h;exact h
def M9:aP prog 10 [.str [50,32,49,32,57,32,49,10,50,32,49,32,48,57,32,49,10]] (.PI [bW [],vI 2,vI 1]):=by
 have h:=F8 [50,32,49,32,57,32,49,10,50,32,49,32,48,57,32,49,10] (by simp) (by kernel_rfl);have e:Yc (bB 10 [50,32,49,32,57,32,49,10,50,32,49,32,48,57,32,49,10]) 0=.error 2:=by kernel_rfl
 rw[e]at h;exact h
def OQ:aP prog 8 [bW (lR 0 [9,0,4,9])] (.agg [vI 4,vI 1,vI 22,vI 18,vI 0,vI 2]):=by
 have h:=Gz (lR 0 [9,0,4,9]) (by simp[lR]);have e:HZ (fW 0 U4 (lR 0 [9,0,4,9]))=.agg [vI 4,vI 1,vI 22,vI 18,vI 0,vI 2]:=by kernel_rfl
 rw[e]at h;exact h
def N0:aP prog 8 [bW []] (.agg [vI 0,vI 0,vI 0,vI 0,vI (-1),vI (-1)]):=Gz [] (by simp)
def ME:aP prog 13 [bW [⟨2,1,9,1⟩],bW [⟨2,1,9,1⟩]] (.bool true):=by
 have h:=GO [⟨2,1,9,1⟩] [⟨2,1,9,1⟩] (by simp);simpa using h
def pgA:Q7:=⟨2,1,[],[⟨0,0,0,0,0,0,3⟩,⟨0,1,0,0,5,0,4⟩],[]⟩
def Gc:aP prog 4 [] (.bool true):=λU=>by
 refine e4.r (by simp[c4]) ?_;refine ad.mix 9 ?_;apply sR;simp only[go_sem,seval,c4];refine ae λid11 Z1 s1 Qt f11=>?_;simp only[go_sem,seval];refine ae λSn Z2 s2 a1 f1=>?_;simp only[go_sem,seval,a1];refine ae λRs Z3 s3 a2 f2=>?_;have m1:=ao Qt f1;have b11:=s3 _ _ ((ab m1).trans (s2 _ _ Qt));have b1:=s3 _ _ (af (U:=Z2) (id:=Sn) (o:=⟨45,5,[.agg [.int .i64 2,.int .i64 1,.aL,.own id11 0 2,.aL]]⟩));have m2:Sn≠Rs:=ao af f2;have m3:id11≠Rs:=ao ((ab m1).trans (s2 _ _ Qt)) f2;have c1:=(ab (o:=⟨42,4,[.agg [.int .i64 2,.int .i64 1,.int .i64 9,.int .i64 1]]⟩) m2).trans b1;have c11:=(ab (o:=⟨42,4,[.agg [.int .i64 2,.int .i64 1,.int .i64 9,.int .i64 1]]⟩) m3).trans b11;simp only[go_sem,seval,a2];refine ad.ay rfl rfl rfl (M5 _) ?_;apply sR;simp only[go_sem,seval];refine ad.ay rfl rfl rfl (M9 _) ?_;have k0:aa U (u' Z3 Rs ⟨42,4,[.agg [.int .i64 2,.int .i64 1,.int .i64 9,.int .i64 1]]⟩):=(((((s1.trans s2).az (s1.none f1)).trans s3)).az (((s1.trans s2).az (s1.none f1)).none f2))
 have c2:(u' Z3 Rs ⟨42,4,[.agg [.int .i64 2,.int .i64 1,.int .i64 9,.int .i64 1]]⟩) Rs=_:=af;generalize u' Z3 Rs ⟨42,4,[.agg [.int .i64 2,.int .i64 1,.int .i64 9,.int .i64 1]]⟩=ZB at*;apply sR;simp only[go_sem,seval,c1,c2];refine Go.tC (v:=.agg [vI 2,vI 1,vI 9,vI 1]) rfl rfl rfl (λZ8 h8=>aP.borrow (args':=[bw pgA,vI 10])
  ⟨Wk.agg ⟨Wk.refl (cV Z8) _,Wk.refl (cV Z8) _,Wk.aL 7,by have:=Wk.own (cV Z8) (h8 _ _ c11) (Z':=fe) rfl (off:=0) (len:=2) (by simp);exact this,Wk.aL 7,trivial⟩,Wk.refl (cV Z8) _,trivial⟩
  (B8 pgA 10 (λi=>by match i with|0=>simp[Ya,pgA]|1=>simp[Ya,pgA]|2=>simp[Ya,pgA]|i+3=>simp[Ya])) rfl) ?_
 apply sG;simp only[go_sem,seval,c2];refine bj λRp Z4 s4 a29 f29=>?_;have c2':=s4 _ _ c2;have k1:=k0.trans s4;simp only[go_sem,seval];refine Go.tC (v:=bW (lR 0 [9,0,4,9])) rfl rfl rfl (λZ8 h8=>IU [9,0,4,9] (by simp) (by simp) Z8 Rp (h8 _ _ a29)) ?_;apply sG;simp only[go_sem,seval];refine Go.FZ rfl rfl rfl OQ ?_;apply sG;simp only[go_sem,seval,c2'];refine Go.tC rfl rfl rfl (λZ8 h8=>aP.borrow (args':=[bW []]) ⟨Wk.aL 4,trivial⟩ N0 rfl) ?_;apply sG;simp only[go_sem,seval,c2'];refine bj λid43 Z5 s5 a43 f43=>?_;have k2:=k1.trans s5;simp only[go_sem,seval];refine Go.tC rfl rfl rfl (λZ8 h8=>aP.borrow (args':=[bW [⟨2,1,9,1⟩],bW [⟨2,1,9,1⟩]])
  ⟨Wk.refl (cV Z8) _,by have:=Wk.own (cV Z8) (h8 _ _ a43) (Z':=fe) rfl (off:=0) (len:=1) (by simp);exact this,trivial⟩ ME rfl) ?_
 apply sG;simp only[go_sem,seval];exact au.pure k2 rfl
open Go.Proofs
def ri{P:List Q7}{j:Nat}(h:j<P.length):aU (P.take (j+1))=aU (P.take j)++P[j].fs:=by
 unfold aU;rw[SO h,eo,List.flatten_append];simp
def Eh(P:List Q7)(j:Nat):(aU (P.take j)).length<=(aU P).length:=by
 have:aU P=aU (P.take j)++aU (P.drop j):=by
  unfold aU;rw[<-List.flatten_append,<-eo,nG]
 rw[this,fB];omega
def tH:∀(P:List Q7),(∀p∈P,p.fs.length<=1000000)->(aU P).length<=P.length*1000000
 |[],_=>by simp[aU]
 |p::P,h=>by
  have h1:=h p (by simp);have h2:=tH P λq hq=>h q (by simp[hq]);unfold aU at*;rw[dO,List.flatten_cons,fB,Rc];omega
def Ic(n:Nat):WB n []=List.replicate n (vI 0):=by
 refine List.ext_getElem? λi=>?_;by_cases h:i<n
 .rw[nA _ h];simp[h,fP]
 .rw[nF (by rw[pt];omega),nF (by simp;omega)]
def pF(k:Int):∀L:List Qk,(∀x∈L,0<=x.h)->0<=fP k L
 |[],_=>by simp[fP]
 |x::r,h=>by
  have h1:=h x (by simp);have h2:=pF k r λy hy=>h y (by simp[hy]);rw[fP];split<;>omega
def jy(m:Tk):(HZ m).cells=[vI m.Qr,vI m.blank,vI m.used,vI m.free,vI m.full,vI m.Sy]:=rfl
def tX(m:Tk):(HZ m).stays=true:=rfl
def AB(aw:aP prog 4 [] (.bool true))(l:List Nd)(hlen:l.length<=1000000000000)(hw:∀x∈l,x.words.length<=200000000000000)(w h:Int):
 aP prog 3 [aM l,vI w,vI h] (.bool true):=λU=>by
 refine e3.r (by simp[c3]) ?_;have hs:=aa.refl U;have UE:=eU l;have q0:((0:Int)≠0)=False:=PG (λh=>h rfl);refine ad.mix 25 ?_;apply sR;simp only[go_sem,seval,c3];refine ad.eh (λst=>st.U=U/\st.s 0=aM l/\st.s 1=vI w/\st.s 2=vI h/\∃c:Int,st.s 7=vI c)
  (λm st=>∃(i:Nat) (c:Int),i<=l.length/\m=l.length-i/\st.U=U/\st.s 0=aM l/\st.s 1=vI w/\st.s 2=vI h/\st.s 7=vI c/\st.s 8=vI i) l.length ?_ ?_ ?_
 .exact⟨0,0,by omega,by omega,rfl,rfl,rfl,rfl,rfl,rfl⟩
 .rintro m ⟨S,J⟩ ⟨i,c,hi,rfl,P3,t0,t1,t2,t7,t8⟩;simp only at P3 t0 t1 t2 t7 t8;subst P3;refine ad.mix 25 ?_;by_cases C':i<l.length
  .have q1:((i:Int)<l.length)=True:=PK;have Q8:=λU=>dJ (U:=U) (l:=l) (a:=i) C';have hlw:=ej l[i].words;have r1:PM .i64 ((i:Int)+1):=ak
   (refine ad.aY Qw.nothing 20 ?_;simp only[go_sem,seval,cg,t0,t7,t8,UE,q1,Q8,Nd.cells,hlw,u5])
   refine ad.NY rfl rfl rfl rfl ?_;apply sR;simp only[go_sem,seval,t0,t1,t2,t8,r1];exact⟨_,by omega,i+1,_,by omega,rfl,rfl,rfl⟩
  .have q1:((i:Int)<l.length)=False:=PG;apply sR;simp only[go_sem,seval,t0,t8,UE,q1];exact⟨t1,t2,c,t7⟩
 rintro⟨S,J⟩ ⟨P3,t0,t1,t2,c,t7⟩;simp only at P3 t0 t1 t2 t7;subst P3;refine ad.mix 25 ?_;by_cases h30:(l.length:Int)>30
 .have q1:((l.length:Int)>30)=True:=PK h30;apply sR;simp only[go_sem,seval,t0,t7,UE,q1];refine ad.ay rfl rfl rfl (aw _) ?_;apply sR;simp only[go_sem,seval];exact au.pure hs rfl
 have q1:((l.length:Int)>30)=False:=PG h30;by_cases h150:c>150
 .have q2:(c>150)=True:=PK h150;apply sR;simp only[go_sem,seval,t0,t7,UE,q1,q2];refine ad.ay rfl rfl rfl (aw _) ?_;apply sR;simp only[go_sem,seval];exact au.pure hs rfl
 have q2:(c>150)=False:=PG h150;have hl:eY l:=⟨by omega,hw⟩
 apply sR;simp only[go_sem,seval,t0,t1,t2,t7,UE,q1,q2];refine ad.ay rfl rfl rfl (Ek l hl w h _) ?_;by_cases he:jJ l w h=0
 case neg=>
  rw[aF he];obtain⟨g,e,hfa⟩:=FW l hl w;have q3:(jJ l w h≠0)=True:=PK he;have hgc:(qU g).cells=[bC g.atoms,aJ g.g',vI g.PJ]:=rfl;have hgs:(qU g).stays=true:=rfl;apply sR;simp only[go_sem,seval,t0,t1];refine ad.ay rfl rfl rfl (hfa _) ?_;apply sR;simp only[go_sem,seval,hgs];refine ae λi11 Xq TK Qt f11=>?_;have Wv:=hs.none f11;replace hs:=hs.trans TK;simp only[go_sem,seval,Qt,hgc,hgs,q3];refine ad.ay rfl rfl rfl (aw _) ?_;apply sR;simp only[go_sem,seval];exact au.pure (hs.az Wv) rfl
 rw[aE he];have hb:=wC hl he;have Uv:=II hl he;obtain⟨hw',hh',hc⟩:=kU he;have Rj:=D2 hb;have hpts:=yJ hb (ug he);have hbh:(gv l w h).h=h:=rfl;rw[hbh]at Rj;have XF:=λp=>BT hb (p:=p);have hPl:=Dr (gv l w h);generalize gv l w h=b at*;generalize gg b=P at*;have hgc:(jv b).cells=[bC b.atoms,aJ b.PX,vI b.PJ]:=rfl;have hgs:(jv b).stays=true:=rfl;have Yr:=sU P;have Tq:=iV b.atoms;have R8:=hb.len;apply sR;simp only[go_sem,seval,t0,t1];refine ad.ay rfl rfl rfl (Uv _) ?_;apply sR;simp only[go_sem,seval,hgs];refine ae λi11 Xq TK Qt f11=>?_;have Wv:=hs.none f11;replace hs:=hs.trans TK;by_cases h200:(P.length:Int)>200
 .have q3:((P.length:Int)>200)=True:=PK h200;simp only[go_sem,seval,Qt,hgc,hgs,q0,q3,Yr];refine ad.ay rfl rfl rfl (aw _) ?_;apply sR;simp only[go_sem,seval];exact au.pure (hs.az Wv) rfl
 have q3:((P.length:Int)>200)=False:=PG h200;have hPn:P.length<=200:=by omega
 have hga:=LK P h (by have:=hh'.1;omega) hh'.2 (λp hp=>by obtain⟨g1,g2,g3⟩:=XF p hp;exact⟨Rj p hp,by omega,by omega,g3⟩) (by omega);have hFlen:=tH P λp hp=>(XF p hp).2.1;generalize hL:P.map (oF h)=L at*;have hLl:L.length=P.length:=by rw[<-hL,cL]
 have hlL:=iQ L;have qm:(0<=(b.atoms.length:Int)/\b.atoms.length*9<=140737488355328)=True:=eq_true ⟨by omega,by omega⟩;have q4:((L.length:Int)≠P.length)=False:=PG;simp only[go_sem,seval,Qt,t2,hgc,hgs,q0,q3,Yr,aA,aT,aD,aV];refine ad.ay rfl rfl rfl (hga _) ?_;apply sR;simp only[go_sem,seval,Yr,hlL,q0,q4,af,hgc,Tq,fq,qm,eL,aA,aT];generalize QZ:u' _ i11 _=Y11;replace Qt:=(congrFun QZ i11).symm.trans af;replace hs:=Eq.subst (motive:=aa _) QZ (hs.az Wv);clear QZ;refine ae λi14 Z14 s14 Q2 f14=>?_;have n1114:=ao Qt f14;replace Qt:=s14 _ _ Qt;have z14:=hs.none f14;replace hs:=hs.trans s14;have Ru:∀p:Q7,(bw p).cells=[vI p.no,vI p.kind,aO p.hs,aO p.fs,aO p.ls]:=λ_=>rfl;have TD:∀p:Q7,(bw p).stays=true:=λ_=>rfl;have hFc:∀l:List Qk,(aO l).cells=[aO l]:=λ_=>rfl;have TL:∀f:Qk,(aZ f).cells=[vI f.node,vI f.atom,vI f.fr,vI f.x,vI f.y,vI f.w,vI f.h]:=λ_=>rfl;have Rr:∀f:Qk,(aZ f).stays=true:=λ_=>rfl;have hnn:∀m:Int,(m≠m)=False:=λm=>PG λh=>h rfl;have hh0:=hh'.1;have hh1:=hh'.2;have QQ:∀x∈aU P,0<=x.h:=λx hx=>by
  unfold aU at hx;obtain⟨L',h1,h2⟩:=List.mem_flatten.1 hx;obtain⟨p,h3,rfl⟩:=eI.1 h1;exact((Rj p h3).2.2.2.1 x h2).2.1
 obtain⟨gX,RF,hmany,ZD⟩:=hpts;have hhi:∀k:Nat,k<b.atoms.length->(Rx b.atoms k).h<=18014398509481984:=λk hk=>by rw[bn hk];exact(hb.tight _ (QF hk)).2.2.2
 generalize hn:b.atoms.length=n at*;rw[<-Ic]at Q2;simp only[go_sem,seval];refine ad.eh (λst=>aa J st.U/\st.U i11=some ⟨36,3,[jv b]⟩/\st.U i14=some ⟨3,1,WB n (aU P)⟩/\st.s 9=dk P/\st.s 11=.ptr i11 0 0/\st.s 13=bW L/\st.s 14=.own i14 0 n/\st.s 15=vI (aU P).length/\st.s 16=vI (gZ L)/\st.s 17=vI (cS L))
  (λm st=>∃j:Nat,j<=P.length/\m=P.length-j/\aa J st.U/\st.U i11=some ⟨36,3,[jv b]⟩/\st.U i14=some ⟨3,1,WB n (aU (P.take j))⟩/\st.s 2=vI h/\st.s 9=dk P/\st.s 11=.ptr i11 0 0/\st.s 13=bW L/\st.s 14=.own i14 0 n/\
    st.s 15=vI (aU (P.take j)).length/\st.s 16=vI (gZ (L.take j))/\st.s 17=vI (cS (L.take j))/\st.s 18=vI j) P.length ?_ ?_ ?_
 .exact⟨0,by omega,rfl,hs,Qt,Q2,t2,rfl,rfl,rfl,rfl,rfl,rfl,rfl,rfl⟩
 .clear Qt Q2 hs;rintro m ⟨S,Z1⟩ ⟨j,hj,rfl,hs,Qt,Q2,u2,u9,Sa,U3,Vz,ZE,u16,u17,u18⟩;simp only at hs Qt Q2 u2 u9 Sa U3 Vz ZE u16 u17 u18;refine ad.mix 25 ?_;by_cases C':j<P.length
  .have q5:((j:Int)<P.length)=True:=PK;have hltL:j<L.length:=by omega
   have Yd:=λU=>sW (U:=U) C';have hixL:=λU=>px (U:=U) hltL;have hLj:L[j]=oF h P[j]:=by subst hL;simp
   have TE:=QF C';obtain⟨⟨g0,g1⟩,TN,-⟩:=Rj _ TE;have hu3:P[j].kind=3->jQ P[j]=0:=λe=>by
    obtain⟨e1,e2,e3⟩:=TN e;unfold jQ;rw[e1,e2,e3];rfl
   have Su:=(XF _ TE).2.1;have htL:L.take (j+1)=L.take j++[oF h P[j]]:=by rw[SO hltL,hLj]
   have hcq:gZ (L.take (j+1))=gZ (L.take j)+if P[j].kind=3 then 1 else 0:=by rw[htL,zl];rfl
   have huq:cS (L.take (j+1))=cS (L.take j)+jQ P[j]:=by rw[htL,wa];simp[cS,oF]
   have hur:=wB (h:=h) (L.take j) (λx hx=>by
    have:=qw hx;rw[<-hL]at this;obtain⟨p,hp,rfl⟩:=eI.1 this;exact(Rj p hp).1) (by omega)
   have hlt2:(L.take j).length<=200:=by rw[jt];omega
   have hur2:cS (L.take j)<=200*1099511627776:=by
    have h1:=hur.2;have:((L.take j).length:Int)*h<=200*1099511627776:=Int.mul_le_mul (by omega) hh1 (by omega) (by omega);omega
   have QT:=CD (L.take j);have hxc:(bX L[j]).cells=[vI P[j].no,vI P[j].kind,vI (jQ P[j]),vI (h-jQ P[j])]:=by rw[hLj];rfl
   have SD:aU P=(aU (P.take j)++P[j].fs)++aU (P.drop (j+1)):=by
    rw[<-ri C'];unfold aU;rw[<-List.flatten_append,<-eo,nG]
   have Qn:=ri C';have Uc:=Eh P j;have hur0:=hur.1;generalize L[j]=x at*;generalize jQ P[j]=u at*;generalize P[j]=p at*;generalize cS (L.take j)=σ at*;generalize gZ (L.take j)=B at*;have r1:PM .i64 (u+(h-u)):=ak;have r2:PM .i64 (σ+u):=ak;have r3:PM .i64 ((B:Int)+1):=ak;have r4:PM .i64 ((j:Int)+1):=ak;have c0:(u<0)=False:=PG;have c1:(u>h)=False:=PG;have c2:(u+(h-u)≠h)=False:=PG;have Rv:(bX x).stays=true:=rfl;have Vu:=yi p.fs;apply sR;simp only[go_sem,seval,u2,u9,Sa,U3,Vz,ZE,u16,u17,u18,Yr,q5,hixL,Iv,hxc,Rv];refine ae λi19 Z19 XC TB f19=>?_;have n1119:=ao Qt f19;replace Qt:=XC _ _ Qt;have n1419:=ao Q2 f19;replace Q2:=XC _ _ Q2;have z19:=hs.none f19;replace hs:=hs.trans XC;by_cases hk:p.kind=3
   .have k1:(p.kind=3)=True:=PK hk;have c3:(u≠0)=False:=PG (by rw[hu3 hk];omega);simp only[go_sem,seval,TB,u2,u9,Sa,U3,Vz,ZE,u16,u17,u18,Yd,hxc,Rv,Ru,hnn,c0,c1,c2,c3,k1,r1,r2,r3];have YM:((gZ (L.take (j+1)):Nat):Int)=(B:Int)+1:=by rw[hcq,aE hk];omega
    generalize Sk:u' _ i19 _=Y19;replace TB:=(congrFun Sk i19).symm.trans af;replace Qt:=((congrFun Sk i11).symm.trans (ab n1119)).trans Qt;replace Q2:=((congrFun Sk i14).symm.trans (ab n1419)).trans Q2;replace hs:=Eq.subst (motive:=aa _) Sk (hs.az z19);clear Sk;refine ad.eh (λst=>aa J st.U/\st.U i11=some ⟨36,3,[jv b]⟩/\st.U i14=some ⟨3,1,WB n (aU (P.take (j+1)))⟩/\st.s 2=vI h/\st.s 9=dk P/\st.s 11=.ptr i11 0 0/\st.s 13=bW L/\st.s 14=.own i14 0 n/\
     st.s 15=vI (aU (P.take (j+1))).length/\st.s 16=vI (gZ (L.take (j+1)))/\st.s 17=vI (cS (L.take (j+1)))/\st.s 18=vI j)
     (λm st=>∃i:Nat,i<=p.fs.length/\m=p.fs.length-i/\aa J st.U/\st.U i11=some ⟨36,3,[jv b]⟩/\st.U i14=some ⟨3,1,WB n (aU (P.take j)++p.fs.take i)⟩/\st.s 2=vI h/\st.s 9=dk P/\st.s 11=.ptr i11 0 0/\st.s 13=bW L/\st.s 14=.own i14 0 n/\
       st.s 15=vI ((aU (P.take j)).length+i:Nat)/\st.s 16=vI (gZ (L.take (j+1)))/\st.s 17=vI (cS (L.take (j+1)))/\st.s 18=vI j/\st.s 20=vI i) p.fs.length ?_ ?_ ?_
    .exact⟨0,by omega,rfl,hs,Qt,by simpa using Q2,u2,u9,Sa,U3,Vz,ZE,(by first|exact congrArg vI YM.symm|exact u16.trans (congrArg vI YM.symm)),congrArg vI huq.symm,u18,rfl⟩
    .clear Qt Q2 TB hs YM;rintro m ⟨S,Z2⟩ ⟨i,hi,rfl,hs,Qt,Q2,v2,v9,v11,TU,Uq,Ub,Ur,Us,Xd,v20⟩;simp only at hs Qt Q2 v2 v9 v11 TU Uq Ub Ur Us Xd v20;refine ad.mix 25 ?_;by_cases Yb:i<p.fs.length
     .have qi:((i:Int)<p.fs.length)=True:=PK;have Vr:=λU=>sy (U:=U) Yb;have ZC:aU (P.take j)++p.fs.take (i+1)=(aU (P.take j)++p.fs.take i)++[p.fs[i]]:=by rw[SO Yb,gw]
      have hG:aU P=(aU (P.take j)++p.fs.take i)++(p.fs[i]::(p.fs.drop (i+1)++aU (P.drop (j+1)))):=by
       rw[SD,gw,gw];congr 1;rw[<-List.cons_append,<-gT Yb,<-gw,nG]
      obtain⟨xa0,xa1⟩:=RF p.fs[i] (by rw[hG];simp);obtain⟨a,ha⟩:∃a:Nat,p.fs[i].atom=a:=⟨p.fs[i].atom.toNat,by omega⟩
      have han:a<n:=by omega
      have hsa:=gX a han;have hha:=hhi a han;have hp0:∀y∈(aU (P.take j)++p.fs.take i)++(p.fs[i]::(p.fs.drop (i+1)++aU (P.drop (j+1)))),0<=y.h:=by rw[<-hG];exact QQ
      rw[hG,mM,fP,aE ha]at hsa;have s1':=pF a (aU (P.take j)++p.fs.take i) λy hy=>hp0 y (List.mem_append_left _ hy);have s2':=hp0 p.fs[i] (List.mem_append_right _ (by simp));have s3':=pF a (p.fs.drop (i+1)++aU (P.drop (j+1))) λy hy=>hp0 y (List.mem_append_right _ (List.mem_cons_of_mem _ hy));have Q9:=Cl (n:=n) (aU (P.take j)++p.fs.take i) p.fs[i] ha han;have QG:=nA (n:=n) (aU (P.take j)++p.fs.take i) han;have hGl:(aU (P.take j)).length+i<=1000000000:=by omega
      clear hG hp0 SD;generalize aU (P.take j)++p.fs.take i=G at*;generalize p.fs[i]=y at*;have w1:PM .i64 (fP a G+y.h):=ak;have w2:PM .i64 ((i:Int)+1):=ak;have w3:PM .i64 ((((aU (P.take j)).length+i:Nat):Int)+1):=ak;have w4:((a:Int)<0)=False:=PG;have w5:((a:Int)>=n)=False:=PG;have w6:(0<=(a:Int)/\(a:Int)<n)=True:=eq_true ⟨by omega,by omega⟩;have hyc:(aZ y).cells=[vI y.node,vI a,vI y.fr,vI y.x,vI y.y,vI y.w,vI y.h]:=by rw[TL,ha]
      apply sR;simp only[go_sem,seval,v2,v9,v11,TU,Uq,Ub,Ur,Us,Xd,v20,qi,Yd,Ru,zd,Vu,Vr,HV,hyc,Rr];refine ae λi21 Z21 s21 a21 f21=>?_;have ZF:=ao Qt f21;replace Qt:=s21 _ _ Qt;have ZG:=ao Q2 f21;replace Q2:=s21 _ _ Q2;have z21:=hs.none f21;replace hs:=hs.trans s21;simp only[go_sem,seval,a21,Q2,v2,v9,v11,TU,Uq,Ub,Ur,Us,Xd,v20,hyc,Rr,w1,w2,w3,w4,w5,w6,ab ZG,af,QG,Q9,eL];refine⟨_,?_,i+1,by omega,rfl,(hs.az z21).az z14,(ab n1114).trans ((ab ZF).trans Qt),?_,rfl,rfl⟩
      .omega
      .rw[ZC];all_goals exact af
     .have qi:((i:Int)<p.fs.length)=False:=PG;obtain rfl:i=p.fs.length:=by omega
      rw[hU,<-Qn]at Q2;rw[<-fB,<-Qn]at Ub;apply sR;simp only[go_sem,seval,v2,v9,v11,TU,Uq,Ub,Ur,Us,Xd,v20,qi,Yd,Ru,zd,Vu];exact⟨hs,Qt,Q2⟩
    .clear Qt Q2 TB hs YM;rintro⟨S,Z2⟩ ⟨hs,Qt,Q2,v2,v9,v11,TU,Uq,Ub,Ur,Us,Xd⟩;simp only at hs Qt Q2 v2 v9 v11 TU Uq Ub Ur Us Xd;refine ad.mix 25 ?_;apply sR;simp only[go_sem,seval,v2,v9,v11,TU,Uq,Ub,Ur,Us,Xd,r4];exact⟨_,by omega,j+1,by omega,rfl,hs,Qt,Q2,rfl,rfl,rfl,rfl⟩
   .have k1:(p.kind=3)=False:=PG hk;simp only[go_sem,seval,TB,u2,u9,Sa,U3,Vz,ZE,u16,u17,u18,Yd,hxc,Rv,Ru,hnn,c0,c1,c2,k1,r1,r2,r3];have YM:((gZ (L.take (j+1)):Nat):Int)=(B:Int):=by rw[hcq,aF hk];omega
    generalize Sk:u' _ i19 _=Y19;replace TB:=(congrFun Sk i19).symm.trans af;replace Qt:=((congrFun Sk i11).symm.trans (ab n1119)).trans Qt;replace Q2:=((congrFun Sk i14).symm.trans (ab n1419)).trans Q2;replace hs:=Eq.subst (motive:=aa _) Sk (hs.az z19);clear Sk;refine ad.eh (λst=>aa J st.U/\st.U i11=some ⟨36,3,[jv b]⟩/\st.U i14=some ⟨3,1,WB n (aU (P.take (j+1)))⟩/\st.s 2=vI h/\st.s 9=dk P/\st.s 11=.ptr i11 0 0/\st.s 13=bW L/\st.s 14=.own i14 0 n/\
     st.s 15=vI (aU (P.take (j+1))).length/\st.s 16=vI (gZ (L.take (j+1)))/\st.s 17=vI (cS (L.take (j+1)))/\st.s 18=vI j)
     (λm st=>∃i:Nat,i<=p.fs.length/\m=p.fs.length-i/\aa J st.U/\st.U i11=some ⟨36,3,[jv b]⟩/\st.U i14=some ⟨3,1,WB n (aU (P.take j)++p.fs.take i)⟩/\st.s 2=vI h/\st.s 9=dk P/\st.s 11=.ptr i11 0 0/\st.s 13=bW L/\st.s 14=.own i14 0 n/\
       st.s 15=vI ((aU (P.take j)).length+i:Nat)/\st.s 16=vI (gZ (L.take (j+1)))/\st.s 17=vI (cS (L.take (j+1)))/\st.s 18=vI j/\st.s 20=vI i) p.fs.length ?_ ?_ ?_
    .exact⟨0,by omega,rfl,hs,Qt,by simpa using Q2,u2,u9,Sa,U3,Vz,ZE,(by first|exact congrArg vI YM.symm|exact u16.trans (congrArg vI YM.symm)),congrArg vI huq.symm,u18,rfl⟩
    .clear Qt Q2 TB hs YM;rintro m ⟨S,Z2⟩ ⟨i,hi,rfl,hs,Qt,Q2,v2,v9,v11,TU,Uq,Ub,Ur,Us,Xd,v20⟩;simp only at hs Qt Q2 v2 v9 v11 TU Uq Ub Ur Us Xd v20;refine ad.mix 25 ?_;by_cases Yb:i<p.fs.length
     .have qi:((i:Int)<p.fs.length)=True:=PK;have Vr:=λU=>sy (U:=U) Yb;have ZC:aU (P.take j)++p.fs.take (i+1)=(aU (P.take j)++p.fs.take i)++[p.fs[i]]:=by rw[SO Yb,gw]
      have hG:aU P=(aU (P.take j)++p.fs.take i)++(p.fs[i]::(p.fs.drop (i+1)++aU (P.drop (j+1)))):=by
       rw[SD,gw,gw];congr 1;rw[<-List.cons_append,<-gT Yb,<-gw,nG]
      obtain⟨xa0,xa1⟩:=RF p.fs[i] (by rw[hG];simp);obtain⟨a,ha⟩:∃a:Nat,p.fs[i].atom=a:=⟨p.fs[i].atom.toNat,by omega⟩
      have han:a<n:=by omega
      have hsa:=gX a han;have hha:=hhi a han;have hp0:∀y∈(aU (P.take j)++p.fs.take i)++(p.fs[i]::(p.fs.drop (i+1)++aU (P.drop (j+1)))),0<=y.h:=by rw[<-hG];exact QQ
      rw[hG,mM,fP,aE ha]at hsa;have s1':=pF a (aU (P.take j)++p.fs.take i) λy hy=>hp0 y (List.mem_append_left _ hy);have s2':=hp0 p.fs[i] (List.mem_append_right _ (by simp));have s3':=pF a (p.fs.drop (i+1)++aU (P.drop (j+1))) λy hy=>hp0 y (List.mem_append_right _ (List.mem_cons_of_mem _ hy));have Q9:=Cl (n:=n) (aU (P.take j)++p.fs.take i) p.fs[i] ha han;have QG:=nA (n:=n) (aU (P.take j)++p.fs.take i) han;have hGl:(aU (P.take j)).length+i<=1000000000:=by omega
      clear hG hp0 SD;generalize aU (P.take j)++p.fs.take i=G at*;generalize p.fs[i]=y at*;have w1:PM .i64 (fP a G+y.h):=ak;have w2:PM .i64 ((i:Int)+1):=ak;have w3:PM .i64 ((((aU (P.take j)).length+i:Nat):Int)+1):=ak;have w4:((a:Int)<0)=False:=PG;have w5:((a:Int)>=n)=False:=PG;have w6:(0<=(a:Int)/\(a:Int)<n)=True:=eq_true ⟨by omega,by omega⟩;have hyc:(aZ y).cells=[vI y.node,vI a,vI y.fr,vI y.x,vI y.y,vI y.w,vI y.h]:=by rw[TL,ha]
      apply sR;simp only[go_sem,seval,v2,v9,v11,TU,Uq,Ub,Ur,Us,Xd,v20,qi,Yd,Ru,zd,Vu,Vr,HV,hyc,Rr];refine ae λi21 Z21 s21 a21 f21=>?_;have ZF:=ao Qt f21;replace Qt:=s21 _ _ Qt;have ZG:=ao Q2 f21;replace Q2:=s21 _ _ Q2;have z21:=hs.none f21;replace hs:=hs.trans s21;simp only[go_sem,seval,a21,Q2,v2,v9,v11,TU,Uq,Ub,Ur,Us,Xd,v20,hyc,Rr,w1,w2,w3,w4,w5,w6,ab ZG,af,QG,Q9,eL];refine⟨_,?_,i+1,by omega,rfl,(hs.az z21).az z14,(ab n1114).trans ((ab ZF).trans Qt),?_,rfl,rfl⟩
      .omega
      .rw[ZC];all_goals exact af
     .have qi:((i:Int)<p.fs.length)=False:=PG;obtain rfl:i=p.fs.length:=by omega
      rw[hU,<-Qn]at Q2;rw[<-fB,<-Qn]at Ub;apply sR;simp only[go_sem,seval,v2,v9,v11,TU,Uq,Ub,Ur,Us,Xd,v20,qi,Yd,Ru,zd,Vu];exact⟨hs,Qt,Q2⟩
    .clear Qt Q2 TB hs YM;rintro⟨S,Z2⟩ ⟨hs,Qt,Q2,v2,v9,v11,TU,Uq,Ub,Ur,Us,Xd⟩;simp only at hs Qt Q2 v2 v9 v11 TU Uq Ub Ur Us Xd;refine ad.mix 25 ?_;apply sR;simp only[go_sem,seval,v2,v9,v11,TU,Uq,Ub,Ur,Us,Xd,r4];exact⟨_,by omega,j+1,by omega,rfl,hs,Qt,Q2,rfl,rfl,rfl,rfl⟩
  .have q5:((j:Int)<P.length)=False:=PG;rw[kT (by omega)]at Q2 ZE;rw[kT (by omega)]at u16 u17;apply sR;simp only[go_sem,seval,u2,u9,Sa,U3,Vz,ZE,u16,u17,u18,Yr,q5];exact⟨hs,Qt,Q2⟩
 .clear Qt Q2 hs;rintro⟨S,Z1⟩ ⟨hs,Qt,Q2,u9,Sa,U3,Vz,ZE,u16,u17⟩;simp only at hs Qt Q2 u9 Sa U3 Vz ZE u16 u17;refine ad.mix 25 ?_;apply sR;simp only[go_sem,seval];refine ad.eh (λst=>st.U=Z1/\st.s 9=dk P/\st.s 13=bW L/\st.s 14=.own i14 0 n/\st.s 15=vI (aU P).length/\st.s 16=vI (gZ L)/\st.s 17=vI (cS L))
   (λm st=>∃i:Nat,i<=n/\m=n-i/\st.U=Z1/\st.s 9=dk P/\st.s 11=.ptr i11 0 0/\st.s 13=bW L/\st.s 14=.own i14 0 n/\st.s 15=vI (aU P).length/\st.s 16=vI (gZ L)/\st.s 17=vI (cS L)/\st.s 22=vI i) n ?_ ?_ ?_
  .exact⟨0,by omega,rfl,rfl,u9,Sa,U3,Vz,ZE,u16,u17,rfl⟩
  .rintro m ⟨S,Z2⟩ ⟨i,hi,rfl,hZ2,v9,v11,TU,Uq,Ub,Ur,Us,v22⟩;simp only at hZ2 v9 v11 TU Uq Ub Ur Us v22;subst hZ2;refine ad.mix 25 ?_;by_cases Yb:i<n
   .have qi:((i:Int)<n)=True:=PK;have hib:i<b.atoms.length:=by omega
    have Vr:=λU=>iD (U:=U) hib;have hsa:=gX i Yb;rw[bn hib]at hsa;have QG:=nA (n:=n) (aU P) Yb;rw[hsa]at QG;have hRl:=pt n (aU P);have w7:(0<=(i:Int))=True:=PK;have w2:PM .i64 ((i:Int)+1):=ak;generalize b.atoms[i]=y at*;generalize WB n (aU P)=R at*;apply sR;simp only[go_sem,seval,v9,v11,TU,Uq,Ub,Ur,Us,v22,qi,Qt,Q2,w7,hRl,QG,hgc,fq,Vr,mi,hnn,w2,eL];exact⟨_,by omega,i+1,by omega,rfl,rfl⟩
   .have qi:((i:Int)<n)=False:=PG;apply sR;simp only[go_sem,seval,v9,v11,TU,Uq,Ub,Ur,Us,v22,qi]
  .rintro⟨S,Z2⟩ ⟨hZ2,v9,TU,Uq,Ub,Ur,Us⟩;simp only at hZ2 v9 TU Uq Ub Ur Us;subst hZ2;refine ad.mix 25 ?_;obtain⟨m1,m2,m3⟩:=IG (l:=L) λx hx=>by
    rw[<-hL]at hx;obtain⟨p,hp,rfl⟩:=eI.1 hx;exact(Rj p hp).1.1
   rw[hLl]at m1;have p1:=Gz L (by omega);generalize fW 0 U4 L=M at*;apply sR;simp only[go_sem,seval,TU];refine ad.ay rfl rfl rfl (p1 _) ?_;apply sR;simp only[go_sem,seval,jy,tX];refine ae λi23 Z23 s23 a23 f23=>?_;have z23:=hs.none f23;replace hs:=hs.trans s23;simp only[go_sem,seval,a23,jy,tX,v9];refine ad.call rfl rfl rfl (ER P (λp hp=>(XF p hp).2.1) (by omega) (by omega) _) ?_;rintro r Z' ⟨⟨ks,rfl,YI⟩,rfl⟩;have ZR:=eO ks;have e1:(M.Qr=P.length)=True:=PK m1;have e2:(M.blank=gZ L)=True:=PK m2;have e3:(((aU P).length:Int)>=n)=True:=PK;have VD:n<(aU P).length↔0<ks.length:=by
    rw[ZD,YI];constructor
    .rintro⟨k,-,h2⟩;exact⟨k,h2⟩
    .rintro⟨k,h2⟩;have:∃x∈aU P,x.atom=k:=by
      refine Classical.byContradiction λQf=>?_;have:ew k (aU P)=0:=by
       clear h2 YI ZD;generalize aU P=F at Qf
       induction F with
       |nil=>rfl
       |cons x r ih=>
        rw[ew,aF (λe=>Qf ⟨x,by simp,e⟩),ih λ⟨y,hy,e⟩=>Qf ⟨y,by simp[hy],e⟩]
      omega
     obtain⟨x,hx,rfl⟩:=this;obtain⟨g1,g2⟩:=RF x hx;obtain⟨a,ha⟩:∃a:Nat,x.atom=a:=⟨x.atom.toNat,by omega⟩
     exact⟨a,by omega,by rw[<-ha];exact h2⟩
   have e5:(((aU P).length:Int)>n)=((ks.length:Int)>0):=propext ⟨λh=>by have:=VD.1 (by omega);omega,λh=>by have:=VD.2 (by omega);omega⟩;have e6:∀x:Bool,(x==x)=true:=λx=>beq_self_eq_true x;rcases m3 with m3|m3
   .have e7:(cS L>1099511627776)=True:=PK m3;apply sR;simp only[go_sem,seval,v9,TU,Uq,Ub,Ur,Us,af,jy,Yr,ZR,e1,e2,e3,e5,e6,e7];refine ad.ay rfl rfl rfl (aw _) ?_;apply sR;simp only[go_sem,seval];exact au.pure (hs.az z23) rfl
   .have e8:(M.used=cS L)=True:=PK m3;by_cases e7:cS L>1099511627776
    .have e7:(cS L>1099511627776)=True:=PK e7;apply sR;simp only[go_sem,seval,v9,TU,Uq,Ub,Ur,Us,af,jy,Yr,ZR,e1,e2,e3,e5,e6,e7];refine ad.ay rfl rfl rfl (aw _) ?_;apply sR;simp only[go_sem,seval];exact au.pure (hs.az z23) rfl
    .have e7:(cS L>1099511627776)=False:=PG e7;apply sR;simp only[go_sem,seval,v9,TU,Uq,Ub,Ur,Us,af,jy,Yr,ZR,e1,e2,e3,e5,e6,e7,e8];refine ad.ay rfl rfl rfl (aw _) ?_;apply sR;simp only[go_sem,seval];exact au.pure (hs.az z23) rfl
end Go.Vc
