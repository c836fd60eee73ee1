import Derived.Test.YtompjkkmfibkiaaGreatW9
set_option linter.all false
set_option maxHeartbeats 8000000
set_option maxRecDepth 100000
open Go.Proofs.Tryz
namespace Go.Vc
open Go.Proofs
def bW.rt:bW->bW
 |.seq _ b=>b
 |c=>c
def iJ{i j:Nat}(h:i≠j):(∀(U:ad) (o:Ob),C' U i o j=U j)/\∀(U:ad) (o:Ob),C' U j o i=U i:=⟨λ_ _=>ab h.symm,λ_ _=>ab h⟩
def DK(l:List WE)(s:W7)(VZ:Int):(j3 l s VZ).y=0:=by
 unfold j3;split<;>rfl
def vO(b:Bk)(x:Wx):Wx:=(x.add [cU x.high (j3 b.atoms x.s x.body)]).put (dS b.atoms b.VH x.s (x.s.atom+1) 0 0 x.body).1
def xJ(b:Bk)(x:Wx):XY:=⟨fG b.atoms x.s x.body,(dS b.atoms b.VH x.s (x.s.atom+1) 0 0 x.body).2⟩
def tD4:List (List Nat):=[[],[],[1],[2,1],[3,2,1],[],[5],[6,5],[7,6,5],[8,7,6,5],[0,4,9,3,2,1,8,7,6,5],[10,0,4,9,3,2,1,8,7,6,5],[11,10,0,4,9,3,2,1,8,7,6,5],[11,10,0,4,9,3,2,1,8,7,6,5],[],[],[14,12,10,0,1,2,3,4,5,6,7,8,9,11,15],[15,13,16,0,1,2,3,4,5,6,7,8,9,10,11,12,14]]
def Lc(b:Bk)(hb:BkOk b)(x:Wx)(hm:de b.atoms x.s)(hd:x.s.done<=1152921504606846976)(hx:x.fs.length<=1000000)(hxl:x.ls.length<=1000000)(hh:0<=x.high/\x.high<=1152921504606846976)(u v:Int)
 {K U:ad}{i1:Nat}{vh vf vl:V}(hJ:Yn b K i1 x U vh vf vl):
 au prog 104 [.ptr i1 0 0,vI u,vI v] U λr Z'=>∃vf' ZR,r=bl (xJ b x)/\Yn b K i1 (vO b x) Z' vh vf' ZR:=by
 refine Te.q ?_;have X6:bu b=.agg [aF b.nodes,vI b.w,vI b.h,bn b.atoms,aC b.VH,vI b.VA,bG b.V4]:=rfl;have a1:=hJ.row;rw[dO]at a1;obtain⟨ch,sh⟩:=hJ.oh.vc;have hlen:=hb.len;refine ai.mix 12 ?_;have hs:=aa.refl U;apply sR;simp only[go_sem,seval,KG];refine ar hs λi6 Z6 s6 a6 f6 z6 hs=>?_;obtain⟨n16,a1⟩:=VB a1 f6 s6;have k6:K i6=none:=hJ.sub.none f6;have hJ6:=hJ.pf s6 f6 a6;clear hJ;simp only[go_sem,seval,a1,X6,iu,cp];have Wr:=MG b.atoms hb.V3 x.s hd x.body;have hw0:=DK b.atoms x.s x.body;unfold vO xJ;have W5:=Hs b.atoms hb.V3 b.VH hb.ZH hb.flo x.s hd (x.s.atom+1) 0 0 x.body (by omega) (by omega);have hrg:=oI hb hd (to:=x.s.atom+1) (kept:=0) (shift:=0) (body:=x.body) (by omega) (by omega);generalize j3 b.atoms x.s x.body=w at*;generalize fG b.atoms x.s x.body=nx at*;generalize dS b.atoms b.VH x.s (x.s.atom+1) 0 0 x.body=R at*;rw[aZ]at Wr W5;obtain⟨cf,sf⟩:=hJ6.of.vc;obtain⟨cl,sl⟩:=hJ6.ol.vc;have nc:(aZ nx).cells=[vI nx.atom,vI nx.done,.bool nx.free]:=rfl;have ns:(aZ nx).stays=true:=rfl;have fin:∀(S:Nat->V) (J:ad) (i8 i9:Nat),aa Z6 J->((∀(U:ad) (o:Ob),C' U i8 o i9=U i9)/\∀(U:ad) (o:Ob),C' U i9 o i8=U i8)->Z6 i8=none->Z6 i9=none->J i8=some ⟨123,7,[.agg [vI w.node,vI w.atom,vI w.fr,vI w.x,vI w.y,vI w.w,vI w.h]]⟩->J i9=some ⟨24,3,[.agg [vI nx.atom,vI nx.done,.bool nx.free]]⟩->
  S 0=.ptr i1 0 0->S 6=.ptr i6 0 0->S 7=bn b.atoms->S 8=.ptr i8 0 0->S 9=.ptr i9 0 0->
  ai prog 89 [It.code KG.code.rt.rt.rt] ⟨S,J⟩ λst=>Ret [.cell true 4 (.t 6)] st λr Z'=>∃vf' ZR,r=bl ⟨nx,R.2⟩/\Yn b K i1 ((x.add [cU x.high w]).put R.1) Z' vh vf' ZR:=by
  intro S J i8 i9 hsY hn z8 z9 a8 a9 t0 t6 t7 t8 t9;have n69:=aU a6 z9;have k9:=hJ6.sub.none z9;have hJ:=hJ6.pf hsY z9 a9;have n18:i1≠i8:=aU a1 z8;have a1:=hJ.row;rw[dO]at a1;have r2:VO .i64 (w.y+x.high):=ae;have r3:VO .i64 (x.s.atom+1):=ae (by have:=hm.1;omega) (by have:=hm.1;omega);have hs:=aa.refl J;have z8:=z8;refine mS 12 ?_;simp only[go_sem,seval,KG,bW.rt,t0,t6,t7,t8,t9,a8,a1,r2,ab n18,cf,sf];generalize Xm:C' J i8 _=Y8;have Zy:Yn b (C' K i6 ⟨27,4,[.agg [vI 0,vI 0,.bool false,.aO]]⟩) i1 x Y8 vh vf vl:=hJ6.mono (Xm▸hsY.az z8);replace a8:=WC Xm;replace a9:=((congrFun Xm i9).symm.trans (hn.1 _ _)).trans a9;replace hJ:=hJ6.pf (Xm▸hsY.az z8) z9 a9;clear Xm;refine bB λi50 Z50 s50 a50 f50=>?_;have ZE:=hJ.mono s50;obtain⟨idA,Wi,hgr⟩:=AY ZE.sub ZE.no ZE.row ZE.of;have YG:(x.fs.map aP).length<=1000000:=by simpa using hx
  generalize hrw:x.fs.map aP=rows at*;have V1:(rows.length+1)*57<=140737488355328:=by omega
  simp only[go_sem,seval,Wi,bJ a50,V1];refine eQ λi51 Z51 s51 a51 f51=>?_;obtain⟨b1,hg⟩:=hgr Z51 i51 _ s51 a51 f51;rw[dO]at b1;obtain⟨g1,g2,g3⟩:=hg (dO b (x.add [cU x.high w]) vh (.own i51 0 (rows.length+1)) vl);have hJa:Yn b (C' (C' K i6 ⟨27,4,[.agg [vI 0,vI 0,.bool false,.aO]]⟩) i9 ⟨24,3,[.agg [vI nx.atom,vI nx.done,.bool nx.free]]⟩) i1 (x.add [cU x.high w]) (C' Z51 i1 (dO b (x.add [cU x.high w]) vh (.own i51 0 (rows.length+1)) vl)) vh (.own i51 0 (rows.length+1)) vl:=by
   obtain⟨k1,k2⟩:=g3 _ _ ZE.oh ZE.hf.symm;obtain⟨k3,k4⟩:=g3 _ _ ZE.ol ZE.fl;rw[jm]at g2 k2 k4;refine⟨ag,k1,?_,k3,k2.symm,ZE.hl,k4,g1,ZE.no⟩;show ay _ _ _ _ _ ((x.fs++[cU x.high w]).map aP);rw[dG,hrw];exact g2
  have hya:(x.add [cU x.high w]).high=x.high:=rfl;have hys:(x.add [cU x.high w]).ls=x.ls:=rfl;have hxl':(x.add [cU x.high w]).ls.length<=1000000:=hxl;generalize hY:x.add [cU x.high w]=y at*;simp only[go_sem,seval,b1,t0,t6,t7,t8,t9,ch,sh,cl,sl,X6,iu,EO,r3];generalize hq1:C' Z51 i1 _=Y1;have hJb:=hJa;rw[show C' Z51 i1 (dO b y vh (.own i51 0 (rows.length+1)) vl)=Y1 by rw[<-hq1,dO,<-hY];rfl]at hJb;clear hJa hq1;refine pJ rfl W5 ?_;apply sG;simp only[go_sem,seval,t0];refine Xv rfl (ou b R.1 hrg.1 y hxl' (λf hf=>by
   have:=hrg.2 f hf;rw[hya];exact ae) hJb) ?_
  rintro r Z' ⟨ZR,Yv⟩;have c9:=Yv.sub _ _ ag;have c6:=Yv.sub i6 _ ((ab n69).trans ag);apply sR;simp only[go_sem,seval,t6,t9,c9,c6,aX,aY];exact WZ ⟨_,ZR,rfl,(Yv.narrow k9).drop k6 _⟩
 have a8:True:=trivial;have a9:True:=trivial;have hn:True:=trivial;have Wm:=aa.refl Z6;refine ai.ug (by kernel_rfl) 8 (.fork tD4 [0,1,2,3,4,5,6,7,8,9] [10,14,15] [(.fork (sX tD4 [(14,[10,0,4,9,3,2,1,8,7,6,5]),(15,[10,0,4,9,3,2,1,8,7,6,5]),(16,[10,0,4,9,3,2,1,8,7,6,5,14,12,11,15]),(17,[10,0,4,9,3,2,1,8,7,6,5,15,13,16,11,12,14])]) [10,11,12,13] [14,15] [(.leaf (sX tD4 [(14,[10,0,4,9,3,2,1,8,7,6,5]),(15,[14,10,0,4,9,3,2,1,8,7,6,5]),(16,[14,10,0,4,9,3,2,1,8,7,6,5,12,11,15]),(17,[14,10,0,4,9,3,2,1,8,7,6,5,15,13,16,11,12])]) [14,15,16,17]),(.leaf (sX tD4 [(14,[15,10,0,4,9,3,2,1,8,7,6,5]),(15,[10,0,4,9,3,2,1,8,7,6,5]),(16,[15,10,0,4,9,3,2,1,8,7,6,5,14,12,11]),(17,[15,10,0,4,9,3,2,1,8,7,6,5,13,16,11,12,14])]) [15,14,16,17])]),(.fork (sX tD4 [(10,[14,0,4,9,3,2,1,8,7,6,5]),(11,[14,10,0,4,9,3,2,1,8,7,6,5]),(12,[14,11,10,0,4,9,3,2,1,8,7,6,5]),(13,[14,11,10,0,4,9,3,2,1,8,7,6,5]),(15,[14]),(17,[14,15,13,16,0,1,2,3,4,5,6,7,8,9,10,11,12])]) [14] [10,15] [(.leaf (sX tD4 [(10,[14,0,4,9,3,2,1,8,7,6,5]),(11,[14,10,0,4,9,3,2,1,8,7,6,5]),(12,[14,11,10,0,4,9,3,2,1,8,7,6,5]),(13,[14,11,10,0,4,9,3,2,1,8,7,6,5]),(15,[10,14,0,4,9,3,2,1,8,7,6,5]),(16,[10,14,0,4,9,3,2,1,8,7,6,5,12,11,15]),(17,[10,14,0,4,9,3,2,1,8,7,6,5,15,13,16,11,12])]) [10,11,12,13,15,16,17]),(.leaf (sX tD4 [(10,[15,14,0,4,9,3,2,1,8,7,6,5]),(11,[15,14,10,0,4,9,3,2,1,8,7,6,5]),(12,[15,14,11,10,0,4,9,3,2,1,8,7,6,5]),(13,[15,14,11,10,0,4,9,3,2,1,8,7,6,5]),(15,[14]),(16,[15,14,12,10,0,1,2,3,4,5,6,7,8,9,11]),(17,[15,14,13,16,0,1,2,3,4,5,6,7,8,9,10,11,12])]) [15,10,11,12,13,16,17])]),(.fork (sX tD4 [(10,[15,0,4,9,3,2,1,8,7,6,5]),(11,[15,10,0,4,9,3,2,1,8,7,6,5]),(12,[15,11,10,0,4,9,3,2,1,8,7,6,5]),(13,[15,11,10,0,4,9,3,2,1,8,7,6,5]),(14,[15]),(16,[15,14,12,10,0,1,2,3,4,5,6,7,8,9,11])]) [15] [10,14] [(.leaf (sX tD4 [(10,[15,0,4,9,3,2,1,8,7,6,5]),(11,[15,10,0,4,9,3,2,1,8,7,6,5]),(12,[15,11,10,0,4,9,3,2,1,8,7,6,5]),(13,[15,11,10,0,4,9,3,2,1,8,7,6,5]),(14,[10,15,0,4,9,3,2,1,8,7,6,5]),(16,[10,15,0,4,9,3,2,1,8,7,6,5,14,12,11]),(17,[10,15,0,4,9,3,2,1,8,7,6,5,13,16,11,12,14])]) [10,11,12,13,14,16,17]),(.leaf (sX tD4 [(10,[14,15,0,4,9,3,2,1,8,7,6,5]),(11,[14,15,10,0,4,9,3,2,1,8,7,6,5]),(12,[14,15,11,10,0,4,9,3,2,1,8,7,6,5]),(13,[14,15,11,10,0,4,9,3,2,1,8,7,6,5]),(14,[15]),(16,[14,15,12,10,0,1,2,3,4,5,6,7,8,9,11]),(17,[14,15,13,16,0,1,2,3,4,5,6,7,8,9,10,11,12])]) [14,10,11,12,13,16,17])])]) (by kernel_rfl) ?_;refine GT.Rh (its:=[0,2,4,6,8,10,12,14,16,18]) (by kernel_rfl) ?_;refine cd (n:=0) [] [0,2,4,6,8,10,12,14,16,18] [_,_,_,_,_,_,_,_,_,_] rfl rfl ?_;simp only[go_sem,seval,a1,aP,nc,ns,a8,a9,hn];refine⟨?_,?_,?_⟩
 .refine GT.pk (its:=[20,22,24,26]) (by kernel_rfl) ?_;refine reP rfl (Wr _) ?_;refine cd (n:=0) [] [22,24,26] [_,_,_] rfl rfl ?_;simp only[go_sem,seval,a1,aP,nc,ns,a8,a9,hn];refine⟨?_,?_⟩
  .refine GT.gH (its:=[28,30,32,34]) (by kernel_rfl) ?_;refine cd (n:=0) [] [28,30,32,34] [_,_,_,_] rfl rfl ?_;simp only[go_sem,seval,a1,aP,nc,ns,a8,a9,hn];refine bB λi8 Z8 s8 a8 f8=>?_;replace a1:=s8 _ _ a1
   try replace hn:=iJ (aU a9 f8).symm
   try replace a9:=s8 _ _ a9
   have z8:=Wm.none f8;replace Wm:=Wm.trans s8;simp only[go_sem,seval,a1,aP,nc,ns,a8,a9,hn];refine bB λi9 Z9 s9 a9 f9=>?_;replace a1:=s9 _ _ a1
   try replace hn:=iJ (aU a8 f9)
   try replace a8:=s9 _ _ a8
   have z9:=Wm.none f9;replace Wm:=Wm.trans s9;simp only[go_sem,seval,a1,aP,nc,ns,a8,a9,hn];exact fin _ _ i8 i9 ((Wm.az z8).az z9) hn z8 z9 ((hn.2 _ _).trans ag) ag rfl rfl rfl rfl rfl
  .refine GT.gH (its:=[30,28,32,34]) (by kernel_rfl) ?_;refine cd (n:=0) [] [30,28,32,34] [_,_,_,_] rfl rfl ?_;simp only[go_sem,seval,a1,aP,nc,ns,a8,a9,hn];refine bB λi9 Z9 s9 a9 f9=>?_;replace a1:=s9 _ _ a1
   try replace hn:=iJ (aU a8 f9)
   try replace a8:=s9 _ _ a8
   have z9:=Wm.none f9;replace Wm:=Wm.trans s9;simp only[go_sem,seval,a1,aP,nc,ns,a8,a9,hn];refine bB λi8 Z8 s8 a8 f8=>?_;replace a1:=s8 _ _ a1
   try replace hn:=iJ (aU a9 f8).symm
   try replace a9:=s8 _ _ a9
   have z8:=Wm.none f8;replace Wm:=Wm.trans s8;simp only[go_sem,seval,a1,aP,nc,ns,a8,a9,hn];exact fin _ _ i8 i9 ((Wm.az z8).az z9) hn z8 z9 ((hn.2 _ _).trans ag) ag rfl rfl rfl rfl rfl
 .refine GT.pk (its:=[28,9,19]) (by kernel_rfl) ?_;refine cd (n:=0) [9,19] [28] [_] rfl rfl ?_;simp only[go_sem,seval,a1,aP,nc,ns,a8,a9,hn];refine bB λi8 Z8 s8 a8 f8=>?_;replace a1:=s8 _ _ a1
  try replace hn:=iJ (aU a9 f8).symm
  try replace a9:=s8 _ _ a9
  have z8:=Wm.none f8;replace Wm:=Wm.trans s8;simp only[go_sem,seval,a1,aP,nc,ns,a8,a9,hn];refine cT rfl (by simp only[go_sem,seval,a1,aP,nc,ns,a8,a9,hn]) ?_;refine cT rfl (by simp only[go_sem,seval,a1,aP,nc,ns,a8,a9,hn]) ?_;refine⟨?_,?_⟩
  .refine GT.gH (its:=[20,22,24,26,30,32,34]) (by kernel_rfl) ?_;refine reP rfl (Wr _) ?_;refine cd (n:=0) [] [22,24,26,30,32,34] [_,_,_,_,_,_] rfl rfl ?_;simp only[go_sem,seval,a1,aP,nc,ns,a8,a9,hn];refine bB λi9 Z9 s9 a9 f9=>?_;replace a1:=s9 _ _ a1
   try replace hn:=iJ (aU a8 f9)
   try replace a8:=s9 _ _ a8
   have z9:=Wm.none f9;replace Wm:=Wm.trans s9;simp only[go_sem,seval,a1,aP,nc,ns,a8,a9,hn];exact fin _ _ i8 i9 ((Wm.az z8).az z9) hn z8 z9 ((hn.2 _ _).trans ag) ag rfl rfl rfl rfl rfl
  .refine GT.gH (its:=[30,9,19,20,22,24,26,32,34]) (by kernel_rfl) ?_;refine cd (n:=0) [9,19,20,22,24,26,32,34] [30] [_] rfl rfl ?_;simp only[go_sem,seval,a1,aP,nc,ns,a8,a9,hn];refine bB λi9 Z9 s9 a9 f9=>?_;replace a1:=s9 _ _ a1
   try replace hn:=iJ (aU a8 f9)
   try replace a8:=s9 _ _ a8
   have z9:=Wm.none f9;replace Wm:=Wm.trans s9;simp only[go_sem,seval,a1,aP,nc,ns,a8,a9,hn];refine cT rfl (by simp only[go_sem,seval,a1,aP,nc,ns,a8,a9,hn]) ?_;refine cT rfl (by simp only[go_sem,seval,a1,aP,nc,ns,a8,a9,hn]) ?_;refine reP rfl (Wr _) ?_;refine cd (n:=0) [] [22,24,26,32,34] [_,_,_,_,_] rfl rfl ?_;simp only[go_sem,seval,a1,aP,nc,ns,a8,a9,hn];exact fin _ _ i8 i9 ((Wm.az z8).az z9) hn z8 z9 ((hn.2 _ _).trans ag) ag rfl rfl rfl rfl rfl
 .refine GT.pk (its:=[30,9,19]) (by kernel_rfl) ?_;refine cd (n:=0) [9,19] [30] [_] rfl rfl ?_;simp only[go_sem,seval,a1,aP,nc,ns,a8,a9,hn];refine bB λi9 Z9 s9 a9 f9=>?_;replace a1:=s9 _ _ a1
  try replace hn:=iJ (aU a8 f9)
  try replace a8:=s9 _ _ a8
  have z9:=Wm.none f9;replace Wm:=Wm.trans s9;simp only[go_sem,seval,a1,aP,nc,ns,a8,a9,hn];refine cT rfl (by simp only[go_sem,seval,a1,aP,nc,ns,a8,a9,hn]) ?_;refine cT rfl (by simp only[go_sem,seval,a1,aP,nc,ns,a8,a9,hn]) ?_;refine⟨?_,?_⟩
  .refine GT.gH (its:=[20,22,24,26,28,32,34]) (by kernel_rfl) ?_;refine reP rfl (Wr _) ?_;refine cd (n:=0) [] [22,24,26,28,32,34] [_,_,_,_,_,_] rfl rfl ?_;simp only[go_sem,seval,a1,aP,nc,ns,a8,a9,hn];refine bB λi8 Z8 s8 a8 f8=>?_;replace a1:=s8 _ _ a1
   try replace hn:=iJ (aU a9 f8).symm
   try replace a9:=s8 _ _ a9
   have z8:=Wm.none f8;replace Wm:=Wm.trans s8;simp only[go_sem,seval,a1,aP,nc,ns,a8,a9,hn];exact fin _ _ i8 i9 ((Wm.az z8).az z9) hn z8 z9 ((hn.2 _ _).trans ag) ag rfl rfl rfl rfl rfl
  .refine GT.gH (its:=[28,9,19,20,22,24,26,32,34]) (by kernel_rfl) ?_;refine cd (n:=0) [9,19,20,22,24,26,32,34] [28] [_] rfl rfl ?_;simp only[go_sem,seval,a1,aP,nc,ns,a8,a9,hn];refine bB λi8 Z8 s8 a8 f8=>?_;replace a1:=s8 _ _ a1
   try replace hn:=iJ (aU a9 f8).symm
   try replace a9:=s8 _ _ a9
   have z8:=Wm.none f8;replace Wm:=Wm.trans s8;simp only[go_sem,seval,a1,aP,nc,ns,a8,a9,hn];refine cT rfl (by simp only[go_sem,seval,a1,aP,nc,ns,a8,a9,hn]) ?_;refine cT rfl (by simp only[go_sem,seval,a1,aP,nc,ns,a8,a9,hn]) ?_;refine reP rfl (Wr _) ?_;refine cd (n:=0) [] [22,24,26,32,34] [_,_,_,_,_] rfl rfl ?_;simp only[go_sem,seval,a1,aP,nc,ns,a8,a9,hn];exact fin _ _ i8 i9 ((Wm.az z8).az z9) hn z8 z9 ((hn.2 _ _).trans ag) ag rfl rfl rfl rfl rfl
open Go.Proofs
def rK{b:Bk}(hb:BkOk b){s:W7}(h:de b.atoms s):0<=s.done/\s.done<=18014398509481984:=by
 obtain⟨⟨h0,h1⟩,h2,h3⟩:=h;obtain⟨k,hk⟩:∃k:Nat,s.atom=k:=⟨s.atom.toNat,by omega⟩
 have YP:k<b.atoms.length:=by omega
 have:=hb.tight _ (Ws YP);rw[hk,bp YP]at h3;omega
def pg{b:Bk}(hb:BkOk b)(k:Int):-18014398509481984<=ga b.atoms k/\ga b.atoms k<=36028797018963968:=by
 unfold ga;split
 .rename_i h;obtain⟨n,rfl⟩:∃n:Nat,k=n:=⟨k.toNat,by omega⟩
  have hn:n<b.atoms.length:=by omega
  have:=hb.tight _ (Ws hn);rw[bp hn];omega
 .omega
def FG{b:Bk}(hb:BkOk b)(s:W7)(VZ:Int):-1152921504606846976<=gZ b.atoms s VZ/\gZ b.atoms s VZ<=2305843009213693952:=by
 unfold gZ lj;split
 .split
  .rename_i h;have h1:=pg hb (s.atom-1);obtain⟨n,hn⟩:∃n:Nat,s.atom=n:=⟨s.atom.toNat,by omega⟩
   have Xe:n<b.atoms.length:=by omega
   have:=hb.tight _ (Ws Xe);rw[hn]at h1|-;rw[bp Xe];omega
  .omega
 .omega
def n9{l:List WE}{s:W7}{kept shift body:Int}:iT l s kept shift body<=l.length:=by
 unfold iT;split
 .rename_i h;have:=D9 (gG l s kept shift body) (l.length-s.atom.toNat);have:=h.1;omega
 .omega
def Ff(ah:Fd->Fd->Bool->Bool):∀(xs:List Fd) (d:Fd),(fb ah xs d).1=d\/(fb ah xs d).1∈xs:=by
 have key:∀(xs:List Fd) (p:Fd×Bool),(xs.foldl (fQ ah) p).1=p.1\/(xs.foldl (fQ ah) p).1∈xs:=by
  intro xs
  induction xs with
  |nil=>intro p;exact .inl rfl
  |cons x xs ih=>
   intro p;rw[gC];rcases ih (fQ ah p x)with h|h
   .rw[h];unfold fQ;split
    .exact .inr (by simp)
    .exact .inl rfl
   .exact .inr (by simp[h])
 exact λxs d=>key xs (d,false)
def F7{xs:List Fd}(h:xs≠[])(d:Fd):(fb iF xs d).1∈xs:=by
 obtain⟨x,xs,rfl⟩:∃x l,xs=x::l:=by cases xs with
  |nil=>exact absurd rfl h
  |cons x l=>exact⟨x,l,rfl⟩
 unfold fb;rw[gC];have:fQ iF (d,false) x=(x,true):=by simp[fQ,iF]
 rw[this];have key:∀(xs:List Fd) (p:Fd×Bool),(xs.foldl (fQ iF) p).1=p.1\/(xs.foldl (fQ iF) p).1∈xs:=by
  intro xs
  induction xs with
  |nil=>intro p;exact .inl rfl
  |cons x xs ih=>
   intro p;rw[gC];rcases ih (fQ iF p x)with h|h
   .rw[h];unfold fQ;split
    .exact .inr (by simp)
    .exact .inl rfl
   .exact .inr (by simp[h])
 rcases key xs (x,true)with h|h
 .rw[h];simp
 .simp[h]
def re{b:List Xt}{i fit:Int}(h:eG b i fit)(hf:fit<=(b.length:Int)-1):∃c:Nat,qf b i fit=c/\i<c/\(c:Int)<=fit:=by
 obtain⟨_,h1,h2,h3⟩:=h;have mem:∀x∈(btw b (i+1) fit).map (jr b),∃c:Nat,x.i=c/\i<c/\(c:Int)<=fit:=λx hx=>by
  obtain⟨k,hk,rfl⟩:=gM.1 hx;unfold btw mv at hk;rw[List.mem_range'_1]at hk;exact⟨k,rfl,by omega,by omega⟩
 unfold qf;split
 .refine mem _ (F7 ?_ _);intro e;have:=congrArg List.length e;simp[btw,mv]at this;omega
 .rename_i hn;rcases Ff fI ((btw b (i+1) fit).map (jr b)) tX with h|h
  .exact absurd (show jM b (i+1) fit<0 by unfold jM;rw[h];decide) hn
  .exact mem _ h
def Yn.set{b:Bk}{K:ad}{ix:Nat}{x:Wx}{U:ad}{vh vf vl:V}(h:Yn b K ix x U vh vf vl)(x':Wx)(h1:x'.hs=x.hs)(h2:x'.fs=x.fs)(h3:x'.ls=x.ls):Yn b K ix x' (C' U ix (dO b x' vh vf vl)) vh vf vl:=by
 have k2:bE K ix ix≠none:=λh=>(aQ.1 h).1 rfl;exact⟨Vc.ag,h1▸h.oh.ab k2,h2▸h.of.ab k2,h3▸h.ol.ab k2,h.hf,h.hl,h.fl,h.sub.az h.no,h.no⟩
def eW(b:Bk)(x:Wx):Int:=gZ b.atoms x.s (x.body-x.shift)
def fq(b:Bk)(x:Wx):Int:=iT b.atoms x.s (eW b x) x.shift x.body
def zn(b:Bk)(x:Wx):Int:=qf b.V4 x.s.atom (fq b x)
def vq(b:Bk)(x:Wx)(kept:Int)(cut:Nat):Wx:=(x.add (cN b x kept (cut-x.s.atom.toNat))).put (dS b.atoms b.VH x.s cut kept x.shift x.body).1
def C3(b:Bk)(x:Wx)(kept:Int)(cut:Nat):XY:=⟨⟨cut,0,decide ((b.V4.getD cut ⟨0,0,0⟩).forced≠0)⟩,(dS b.atoms b.VH x.s cut kept x.shift x.body).2⟩
def gq(b:Bk)(x:Wx):Wx:=if eG b.V4 x.s.atom (fq b x)then vq b { x with kind:=1 } (eW b x) (zn b x).toNat else vO b { x with kind:=1 }
def jA(b:Bk)(x:Wx):XY:=if eG b.V4 x.s.atom (fq b x)then C3 b { x with kind:=1 } (eW b x) (zn b x).toNat else xJ b { x with kind:=1 }
def LC(b:Bk)(hb:BkOk b)(x:Wx)(hm:de b.atoms x.s)(hx:x.fs.length<=1000000)(hxl:x.ls.length<=1000000)(hh:0<=x.high/\x.high<=1125899906842624)(hbd:0<=x.body/\x.body<=1125899906842624)
 (YO:0<=x.shift/\x.shift<=1125899906842624){K U:ad}{i1:Nat}{vh vf vl:V}(hJ:Yn b K i1 x U vh vf vl):
 au prog 58 [.ptr i1 0 0] U λr Z'=>∃vf' ZR,r=bl (jA b x)/\Yn b K i1 (gq b x) Z' vh vf' ZR:=by
 refine e58.q ?_;have hs:=aa.refl U;have X6:bu b=.agg [aF b.nodes,vI b.w,vI b.h,bn b.atoms,aC b.VH,vI b.VA,bG b.V4]:=rfl;have a1:=hJ.row;rw[dO]at a1;obtain⟨ch,sh⟩:=hJ.oh.vc;obtain⟨cf,sf⟩:=hJ.of.vc;obtain⟨cl,sl⟩:=hJ.ol.vc;have hd:=rK hb hm;have hk:=FG hb x.s (x.body-x.shift);have hlen:=hb.len;have WX:=hb.brk;have hKc:=LF b.atoms hb.V3 x.s (x.body-x.shift);have hRc:=II b.atoms hb.V3 x.s (by omega) (eW b x) x.shift x.body hk ⟨by omega,by omega⟩;have hCc:=NU b.V4 (by omega) x.s.atom (fq b x);have ZL:fq b x<=b.atoms.length:=n9;have hcr:eG b.V4 x.s.atom (fq b x)->∃c:Nat,zn b x=c/\x.s.atom<c/\(c:Int)<=fq b x:=λh=>re h (by omega);have hXk:eW b x=gZ b.atoms x.s (x.body-x.shift):=rfl;rw[<-hXk]at hKc hk;have hXr:fq b x=iT b.atoms x.s (eW b x) x.shift x.body:=rfl;rw[<-hXr]at hRc;have hXc:zn b x=qf b.V4 x.s.atom (fq b x):=rfl;rw[<-hXc]at hCc;have r1:VO .i64 (x.body-x.shift):=ae;rw[aZ]at hKc hRc;unfold gq jA;generalize eW b x=kept at*;generalize fq b x=reach at*;generalize zn b x=cut at*;refine mS 8 ?_;simp only[go_sem,seval,c58];refine ar hs λi2 Z2 s2 a2 f2 z2 hs=>?_;obtain⟨n12,a1⟩:=VB a1 f2 s2;have k2:K i2=none:=hJ.sub.none f2;have hJ2:=hJ.pf s2 f2 a2;simp only[go_sem,seval,a1,X6,iu,r1];refine pJ rfl hKc ?_;apply sG;simp only[go_sem,seval,a1,X6,G4];refine pJ rfl hRc ?_;apply sG;simp only[go_sem,seval];refine pJ rfl hCc ?_;have hJs:=hJ2.set { x with kind:=1 } rfl rfl rfl;rw[dO]at hJs;by_cases VE:eG b.V4 x.s.atom reach
 .obtain⟨c,rfl,h1,h2⟩:=hcr VE;rw[WJ VE,av VE,av VE,av VE,fp];apply sG;simp only[go_sem,seval,a1];generalize hq1:C' Z2 i1 _=Y1 at*;have hw:au prog 105 [.ptr i1 0 0,vI kept,vI c] Y1 λr Z'=>∃vf' ZR,r=bl (C3 b { x with kind:=1 } kept c)/\Yn b (C' K i2 ⟨27,4,[.agg [vI 0,vI 0,.bool false,.aO]]⟩) i1 (vq b { x with kind:=1 } kept c) Z' vh vf' ZR:=Ja b hb { x with kind:=1 } hm (by show x.s.done<=_;omega) hx hxl (by show 0<=x.high/\x.high<=_;omega) kept hk (by show 0<=x.shift/\x.shift<=_;omega) c (by show x.s.atom<=_;omega) (by omega) hJs;generalize C3 b { x with kind:=1 } kept c=Z at*;generalize vq b { x with kind:=1 } kept c=Y at*;refine ai.lZ rfl rfl rfl hw ?_;rintro r Z' ⟨vf',ZR,rfl,Yv⟩;have c2:=Yv.sub _ _ ag;apply sR;simp only[go_sem,seval,c2,bl,aX,aY];exact WZ ⟨vf',ZR,rfl,Yv.drop k2 _⟩
 .rw[WW VE,aD VE,aD VE,aD VE];apply sG;simp only[go_sem,seval,a1];generalize hq1:C' Z2 i1 _=Y1 at*;have hw:au prog 104 [.ptr i1 0 0,vI kept,vI 0] Y1 λr Z'=>∃vf' ZR,r=bl (xJ b { x with kind:=1 })/\Yn b (C' K i2 ⟨27,4,[.agg [vI 0,vI 0,.bool false,.aO]]⟩) i1 (vO b { x with kind:=1 }) Z' vh vf' ZR:=Lc b hb { x with kind:=1 } hm (by show x.s.done<=_;omega) hx hxl (by show 0<=x.high/\x.high<=_;omega) kept 0 hJs;generalize xJ b { x with kind:=1 }=Z at*;generalize vO b { x with kind:=1 }=Y at*;refine ai.lZ rfl rfl rfl hw ?_;rintro r Z' ⟨vf',ZR,rfl,Yv⟩;have c2:=Yv.sub _ _ ag;apply sR;simp only[go_sem,seval,c2,bl,aX,aY];exact WZ ⟨vf',ZR,rfl,Yv.drop k2 _⟩
open Go.Proofs
def jc(body:Int)(f:O'):Bool:=decide (f.y+f.h<=body)
def wm(b:Bk)(x:Wx):Wx:={ (x.put (b.VH.takeWhile (jc x.body)))with kind:=2 }
def oR(b:Bk)(x:Wx):XY:=⟨⟨0,0,false⟩,b.VH.dropWhile (jc x.body)⟩
def tF{P:List O'}{j:Nat}(h:j<=P.length):∀U,eI U 7 (aC P) none (some (.int .i64 j)) none=some (aC (P.take j)):=λU=>by
 have h1:(j:Int)<=P.length:=by omega
 simp only[aC,eI,cP,cO];rw[av ⟨Int.le_refl _,by omega,h1,Int.le_refl _,trivial⟩];simp[List.map_take]
def qi{α:Type}{p:α->Bool}:∀{l:List α} {j:Nat},(∀x∈l.take j,p x=true)->(∀x,l[j]?=some x->p x=false)->j<=l.length->l.takeWhile p=l.take j/\l.dropWhile p=l.drop j
 |[],j,_,_,h=>by simp
 |x::l,0,_,h2,_=>by
  have:=h2 x rfl;simp[List.takeWhile_cons,List.dropWhile_cons,this]
 |x::l,j+1,h1,h2,h=>by
  have hx:=h1 x (by simp);have ih:=qi (p:=p) (l:=l) (j:=j) (λy hy=>h1 y (by simp[hy])) (λy hy=>h2 y (by simpa using hy)) (by simpa using h);simp[List.takeWhile_cons,List.dropWhile_cons,hx,ih.1,ih.2]
def I8(b:Bk)(hb:BkOk b)(x:Wx)(hxl:x.ls.length<=1000000)(hh:0<=x.high/\x.high<=1125899906842624){K U:ad}{i1:Nat}{vh vf vl:V}(hJ:Yn b K i1 x U vh vf vl):
 au prog 54 [.ptr i1 0 0] U λr Z'=>∃ZR,r=bl (oR b x)/\Yn b K i1 (wm b x) Z' vh vf ZR:=by
 refine e54.q ?_;have hs:=aa.refl U;have X6:bu b=.agg [aF b.nodes,vI b.w,vI b.h,bn b.atoms,aC b.VH,vI b.VA,bG b.V4]:=rfl;have a1:=hJ.row;rw[dO]at a1;obtain⟨ch,sh⟩:=hJ.oh.vc;obtain⟨cf,sf⟩:=hJ.of.vc;obtain⟨cl,sl⟩:=hJ.ol.vc;have hfn:=hb.ZH;have hlp:=cQ b.VH;unfold wm oR;refine mS 5 ?_;simp only[go_sem,seval,c54];refine ar hs λi2 Z2 s2 a2 f2 z2 hs=>?_;obtain⟨n12,a1⟩:=VB a1 f2 s2;have k2:K i2=none:=hJ.sub.none f2;have hJ2:=hJ.pf s2 f2 a2;simp only[go_sem,seval,a1,X6,EO];refine ai.gy (λst=>∃j:Nat,j<=b.VH.length/\b.VH.takeWhile (jc x.body)=b.VH.take j/\b.VH.dropWhile (jc x.body)=b.VH.drop j/\st.U=Z2/\st.s 0=.ptr i1 0 0/\st.s 2=.ptr i2 0 0/\st.s 3=vI j/\st.s 4=aC b.VH)
  (λm st=>∃j:Nat,j<=b.VH.length/\m=b.VH.length-j/\(∀f∈b.VH.take j,jc x.body f=true)/\st.U=Z2/\st.s 0=.ptr i1 0 0/\st.s 2=.ptr i2 0 0/\st.s 3=vI j/\st.s 4=aC b.VH) b.VH.length ?_ ?_ ?_
 .exact⟨0,by omega,rfl,by simp,rfl,rfl,rfl,rfl,rfl⟩
 .rintro m ⟨S,J⟩ ⟨j,hj,rfl,WY,V7,t0,t2,t3,t4⟩;simp only at V7 t0 t2 t3 t4;subst V7;refine ai.mix 5 ?_;by_cases B':j<b.VH.length
  .have q:=qT B';have VC:=λU=>ed (U:=U) B';have YG:aG b.VH[j]=.agg [vI b.VH[j].node,vI b.VH[j].side,vI b.VH[j].anchor,vI b.VH[j].x,vI b.VH[j].y,vI b.VH[j].w,vI b.VH[j].h]:=rfl;obtain⟨_,⟨o1,o2⟩,_,o3,o4⟩:=hb.flo _ (Ws B');have V9:b.VH.take (j+1)=b.VH.take j++[b.VH[j]]:=XH B';have XE:b.VH[j]?=some b.VH[j]:=Zq6 B';generalize b.VH[j]=f at*;have r1:VO .i64 (f.y+f.h):=ae;have r2:=rI j;by_cases hle:f.y+f.h<=x.body
   .have q1:(f.y+f.h<=x.body)=True:=L' hle;apply sR;simp only[go_sem,seval,t0,t2,t3,t4,hlp,q,VC,YG,a1,r1,q1,r2];refine⟨_,?_,j+1,by omega,rfl,?_,by simp[t0,t2,t4]⟩
    .omega
    .rw[V9];intro g hg;rcases ec.1 hg with hg|hg
     .exact WY g hg
     .simp at hg;subst hg;exact WJ hle
   .have q1:(f.y+f.h<=x.body)=False:=H' hle;apply sR;simp only[go_sem,seval,t0,t2,t3,t4,hlp,q,VC,YG,a1,r1,q1];obtain⟨e1,e2⟩:=qi WY (λg hg=>by rw[XE]at hg;cases hg;exact WW hle) hj;exact⟨j,hj,e1,e2,by simp[t0,t2,t3,t4]⟩
  .have q:=qF B';apply sR;simp only[go_sem,seval,t0,t2,t3,t4,hlp,q,a1];obtain⟨e1,e2⟩:=qi WY (λg hg=>by rw[wW (by omega)]at hg;cases hg) hj;exact⟨j,hj,e1,e2,by simp[t0,t2,t3,t4]⟩
 .rintro⟨S,J⟩ ⟨j,hj,e1,e2,V7,t0,t2,t3,t4⟩;simp only at V7 t0 t2 t3 t4;subst V7;rw[e1,e2];have Zr:=tF hj;have hsl2:=jS hj;refine mS 5 ?_;simp only[BB,seval,<-decide_not,br,eL,aJ,cY,eN,fm,gk,eP,cS,mZ,gn,bP,jy,gA,gV,eT,cP,lu,dJ,dn,cF,Xl,mj,dT,cE,jV,ef,cX,dV,dP,nN,binBV,dk,ei,V.cells,V.stays,Xu.nothing,t0,t2,t3,t4,Zr];refine Xv rfl (ou b (b.VH.take j) (by rw[jN];omega) x hxl (λf hf=>by
   obtain⟨_,⟨o1,o2⟩,_,o3,o4⟩:=hb.flo f (rQ hf);exact ae) hJ2) ?_
  rintro r Z' ⟨ZR,Yv⟩;have c2:=Yv.sub _ _ ag;have b1:=Yv.row;have n12':i1≠i2:=n12;rw[dO]at b1;generalize x.put (b.VH.take j)=y at*;have hJs:=Yv.set { y with kind:=2 } rfl rfl rfl;rw[dO]at hJs;apply sR;simp only[BB,seval,<-decide_not,br,eL,aJ,cY,eN,fm,gk,eP,cS,mZ,gn,bP,jy,gA,gV,eT,cP,lu,dJ,dn,cF,Xl,mj,dT,cE,jV,ef,cX,dV,dP,nN,binBV,dk,ei,V.cells,V.stays,Xu.nothing,t0,t2,t3,t4,b1,hsl2];generalize hq1:C' Z' i1 _=Y1 at*;replace c2:=hJs.sub _ _ ag;refine pS rfl (AO (b.VH.drop j) (by rw[ri];omega) _) ?_;simp only[go_sem,seval,c2,t2,aX,aY];exact WZ ⟨ZR,rfl,hJs.drop k2 _⟩
open Go.Proofs
def bW.lt:bW->bW
 |.seq a _=>a
 |c=>c
def bW.bd:bW->bW
 |.block _ a=>a
 |c=>c
structure BkFull(b:Bk):Prop extends BkOk b where
 qs:ep b.nodes
 isb:Wg b.nodes=true
 h1:1<=b.h
 h2:b.h<=1099511627776
 nod:∀a∈b.atoms,0<=a.node/\a.node<b.nodes.length
def bj(b:Bk)(s:W7):Kp:=if b.atoms=[]then⟨[],0,b.h⟩else um b.nodes (Zz b.atoms (min s.atom ((b.atoms.length:Int)-1))).node b.h
def hdS(l:List Nd)(w:Int)(p:List XR×Int)(a:Int):List XR×Int:=(p.1++[⟨a,-1,0,0,p.2,w,(XA l a).head⟩],p.2+(XA l a).head)
def YJ(l:List Nd)(w:Int)(L:List Int):List XR×Int:=L.foldl (hdS l w) ([],0)
def vg(l:List Nd)(w:Int)(L:List Int)(a:Int):YJ l w (L++[a])=hdS l w (YJ l w L) a:=by
 unfold YJ;rw[kZ];rfl
def yV(l:List Nd)(w:Int):∀(L:List Int),(YJ l w L).1.length=L.length:=by
 have key:∀(L:List Int) (p:List XR×Int),(L.foldl (hdS l w) p).1.length=p.1.length+L.length:=by
  intro L
  induction L with
  |nil=>intro p;rfl
  |cons a L ih=>intro p;rw[gC,ih];simp[hdS];omega
 intro L;have:=key L ([],0);simpa[YJ]using this
def zy(l:List Nd)(w:Int)(L:List Int)(h:∀a∈L,0<=(XA l a).head)(j:Nat):0<=(YJ l w (L.take j)).2/\(YJ l w (L.take j)).2<=(YJ l w L).2:=by
 have key:∀(L:List Int),(∀a∈L,0<=(XA l a).head)->∀(p:List XR×Int),p.2<=(L.foldl (hdS l w) p).2:=by
  intro L
  induction L with
  |nil=>intro _ p;exact Int.le_refl _
  |cons a L ih=>
   intro h p;rw[gC];have h1:=ih (λx hx=>h x (by simp[hx])) (hdS l w p a);have h2:=h a (by simp);simp only[hdS]at h1|-;omega
 refine⟨key (L.take j) (λa ha=>h a (rQ ha)) ([],0),?_⟩;have e:YJ l w L=(L.drop j).foldl (hdS l w) (YJ l w (L.take j)):=by
  rw[YJ,YJ,<-kZ,ua]
 rw[e];exact key _ (λa ha=>h a (List.mem_of_mem_drop ha)) _
def vY{l:List Nd}{L:List Int}{h:Int}:∀m,m<=L.length->∀a∈(ig l L h m).VU,a∈L
 |0,_,a,ha=>by simp[ig]at ha
 |m+1,hm,a,ha=>by
  rw[ig,ir]at ha;split at ha
  .exact vY m (by omega) a ha
  .simp only[ec,jO]at ha;rcases ha with ha|ha
   .exact vY m (by omega) a ha
   .rw[ha];have B':L.length-1-m<L.length:=by omega
    have hg:L.getD (L.length-1-m) 0=L[L.length-1-m]:=by simp[B']
    rw[hg];exact Ws B'
def rT{l:List Nd}{L:List Int}{h w:Int}:∀m,(YJ l w (ig l L h m).VU).2=(ig l L h m).high
 |0=>rfl
 |m+1=>by
  rw[ig,ir];split
  .exact rT m
  .simp only[vg,hdS];rw[rT m]
structure Rq(b:Bk)(k:Kp):Prop where
 len:k.VU.length<=1000000
 mem:∀a∈k.VU,∃n:Nat,a=n/\n<b.nodes.length
 sum:(YJ b.nodes b.w k.VU).2=k.high
 high:0<=k.high/\k.high<=1099511627776
 body:0<=k.body/\k.body<=1099511627776
def qx{b:Bk}(hb:BkFull b)(s:W7):Rq b (bj b s):=by
 have h1:=hb.h1;have h2:=hb.h2;have hn:b.nodes.length<=100000:=by have:=hb.qs.1;omega
 unfold bj;split
 .exact⟨by simp,by simp,rfl,by simp,by simp;omega⟩
 .unfold um;split
  .rename_i hc;obtain⟨_,h3,h4⟩:=hc;generalize (Zz b.atoms (min s.atom ((b.atoms.length:Int)-1))).node=a at*;have ha:a.toNat<b.nodes.length:=by omega
   have hrg:∀x∈abv b.nodes a.toNat,∃n:Nat,x=n/\n<b.nodes.length:=λx hx=>by
    obtain⟨n,h1,h2⟩:=qK ha x hx;exact⟨n,h1,by omega⟩
   have hi:=qm hb.isb hrg (by omega:0<=b.h) (abv b.nodes a.toNat).length (Wa _);have hl:(abv b.nodes a.toNat).length<=b.nodes.length+1:=j6 _ _ _;unfold qh;exact⟨by omega,λx hx=>hrg x (vY _ (Wa _) x hx),rT _,by omega,by omega⟩
  .exact⟨by simp,by simp,rfl,by simp,by simp⟩
def cq(b:Bk)(s:W7)(hv:V):Wx:=⟨hv,(bj b s).high,(bj b s).body,s,0,(YJ b.nodes b.w (bj b s).VU).1,[],[],0⟩
def IC(b:Bk)(hb:BkFull b)(s:W7)(Wm:0<=s.atom)(U:ad):
 au prog 53 [.rp (bu b),aZ s] U λr Z'=>∃i1 vh hv,r=.ptr i1 0 0/\Yn b U i1 (cq b s hv) Z' vh .aO .aO:=by
 refine e53.q ?_;have hs:=aa.refl U;have X6:bu b=.agg [aF b.nodes,vI b.w,vI b.h,bn b.atoms,aC b.VH,vI b.VA,bG b.V4]:=rfl;have XF:(aZ s).cells=[vI s.atom,vI s.done,.bool s.free]:=rfl;have hss:(aZ s).stays=true:=rfl;have Xs:=gj b.atoms;have hlen:=hb.len;refine mS 11 ?_;simp only[go_sem,seval,c53,XF,hss];refine ar hs λi3 Z3 s3 a3 f3 z3 hs=>?_;rw[aZ]at a3;simp only[go_sem,seval,a3,X6];refine wN hs λi19 Y19 s19 ZC f19 z19 hs=>?_;obtain⟨n319,a3⟩:=VB a3 f19 s19;have hr:=qx hb s;unfold cq;have hJ0:∀(hv:V) (k:Kp) (J:ad),J i19=some (dO b ⟨hv,k.high,k.body,s,0,[],[],[],0⟩ .aO .aO .aO)->aa U J->Yn b U i19 ⟨hv,k.high,k.body,s,0,[],[],[],0⟩ J .aO .aO .aO:=λhv k J h h2=>
  ⟨h,ay.start,ay.start,ay.start,bX.aO _,bX.aO _,bX.aO _,h2,z19⟩
 have fin:∀(S:Nat->V) (J:ad) (hv:V),dX false hv=some (.int .i64 (bj b s).VU.length)->(∀(j:Nat) (h:j<(bj b s).VU.length) (U:ad),bO U 1 hv (.int .i64 j)=some (.rp (vI (bj b s).VU[j])))->
  J i19=some (dO b ⟨hv,(bj b s).high,(bj b s).body,s,0,[],[],[],0⟩ .aO .aO .aO)->aa U J->S 0=.rp (bu b)->S 5=.ptr i19 0 0->S 7=vI 0->S 57=hv->S 58=vI (bj b s).VU.length->S 59=vI 0->
  ai prog 96 [It.code c53.code.rt.rt.rt.rt.lt.rt.bd,It.inBlock 0,It.code c53.code.rt.rt.rt.rt.rt] ⟨S,J⟩ λst=>Ret [.tmp (.t 4)] st λr Z'=>∃i1 vh hv,r=.ptr i1 0 0/\Yn b U i1 ⟨hv,(bj b s).high,(bj b s).body,s,0,(YJ b.nodes b.w (bj b s).VU).1,[],[],0⟩ Z' vh .aO .aO:=by
  intro S J hv hlL WG h19 hsY t0 t5 t7 t57 t58 t59;have hJ:=hJ0 _ _ _ h19 hsY;clear hJ0 h19 hsY hs a3 ZC;generalize bj b s=k at*;obtain⟨L,high,body⟩:=k;obtain⟨r1,r2,r3,⟨r4,r5⟩,_⟩:=hr;simp only at r1 r2 r3 r4 r5 hJ hlL WG t58|-;have hh0:∀a∈L,0<=(XA b.nodes a).head:=λa ha=>by
   obtain⟨n,rfl,hn⟩:=r2 a ha;rw[eU hn];exact(fw hb.isb hn).st.head.1
  have ZC:=hJ.row;rw[dO]at ZC;refine ai.mix 60 ?_;simp only[c53,bW.rt,bW.lt,bW.bd];refine ai.loop (λm st=>∃(j:Nat) (vh:V),j<=L.length/\m=L.length-j/\Yn b U i19 ⟨hv,high,body,s,0,(YJ b.nodes b.w (L.take j)).1,[],[],0⟩ st.U vh .aO .aO/\st.s 0=.rp (bu b)/\st.s 5=.ptr i19 0 0/\st.s 7=vI (YJ b.nodes b.w (L.take j)).2/\st.s 57=hv/\st.s 58=vI L.length/\st.s 59=vI j) L.length ?_ ?_
  .exact⟨0,.aO,by omega,rfl,hJ,t0,t5,t7,t57,t58,t59⟩
  .clear hJ ZC t0 t5 t7 t57 t58 t59;rintro m ⟨S,J⟩ ⟨j,vh,hj,rfl,hJ,t0,t5,t7,t57,t58,t59⟩;simp only at hJ t0 t5 t7 t57 t58 t59;refine ai.mix 60 ?_;by_cases B':j<L.length
   .have q:=qT B';obtain⟨n,hn,Xe⟩:=r2 _ (Ws B');have VC:=WG j B';have WQ:=λU=>im b.nodes Xe U;have eY:=zy b.nodes b.w L hh0 j;have hsum1:=zy b.nodes b.w L hh0 (j+1);have hlk:=yV b.nodes b.w (L.take j);have Yi:(L.take j).length=j:=by rw[jN];omega
    have V9:L.take (j+1)=L.take j++[(n:Int)]:=by rw[XH B',hn]
    have Yl:YJ b.nodes b.w (L.take (j+1))=hdS b.nodes b.w (YJ b.nodes b.w (L.take j)) n:=by rw[V9,vg]
    rw[r3]at eY hsum1;rw[Yl]at hsum1;rw[hn]at VC;generalize YJ b.nodes b.w (L.take j)=X at*;obtain⟨F,y⟩:=X;simp only[hdS,eU Xe]at eY hsum1 hlk hJ t7 Yl;have q1:VO .i64 (y+b.nodes[n].st.head):=ae;have q2:=rI j;have ZC:=hJ.row;rw[dO]at ZC;obtain⟨cv,sv⟩:=hJ.oh.vc;generalize b.nodes[n]=nd at*;have hs:=aa.refl J;apply sR;simp only[go_sem,seval,t0,t5,t7,t57,t58,t59,q,VC,WQ,Nd.cells,ZC,X6,Po,cv,sv];refine bB λi86 Z86 s86 a86 f86=>?_;have hJ5:=hJ.mono s86;obtain⟨idA,Wi,hgr⟩:=AY hJ5.sub hJ5.no hJ5.row hJ5.oh;have YG:(F.map aP).length<=1000000:=by rw[cO];omega
    generalize hrw:F.map aP=rows at*;have V1:(rows.length+1)*57<=140737488355328:=by omega
    simp only[go_sem,seval,Wi,bJ a86,V1];refine eQ λi87 Z87 s87 a87 f87=>?_;obtain⟨b1,hg⟩:=hgr Z87 i87 _ s87 a87 f87;rw[dO]at b1;obtain⟨g1,g2,g3⟩:=hg (dO b ⟨hv,high,body,s,0,F++[⟨n,-1,0,0,y,b.w,nd.st.head⟩],[],[],0⟩ (.own i87 0 (rows.length+1)) .aO .aO);simp only[go_sem,seval,b1,t0,t5,t7,t57,t58,t59,cv,sv,q1,q2];refine⟨_,?_,j+1,.own i87 0 (rows.length+1),by omega,rfl,?_,rfl,?_,rfl⟩
    .omega
    .rw[Yl];rw[jm]at g2;refine⟨ag,?_,ay.start,ay.start,(bX.aO _).symm,(bX.aO _).symm,bX.aO _,g1,hJ.no⟩;show ay _ _ _ _ _ ((F++[_]).map aP);rw[dG,hrw];exact g2
    .rw[Yl]
   .have q:=qF B';have XS:j=L.length:=by omega
    rw[XS,eF]at hJ;apply sR;simp only[go_sem,seval,t0,t5,t7,t57,t58,t59,q];exact WZ ⟨i19,vh,hv,rfl,hJ⟩
 by_cases he:b.atoms=[]
 .have q:((b.atoms.length:Int)>0)=False:=by rw[he];simp
  have hre:bj b s=⟨[],0,b.h⟩:=av he;simp only[go_sem,seval,ZC,a3,iu,Xs,X6,q];rw[hre]at fin|-;rw[<-X6]at ZC;refine fin _ _ .aO rfl (λj h=>by simp at h) ZC hs ?_ ?_ ?_ ?_ ?_ ?_<;>rfl
 .have hl0:0<b.atoms.length:=ud.2 he;have q:((b.atoms.length:Int)>0)=True:=L';have r1:VO .i64 ((b.atoms.length:Int)-1):=ae;obtain⟨k,hk⟩:∃k:Nat,min s.atom ((b.atoms.length:Int)-1)=k:=⟨(min s.atom ((b.atoms.length:Int)-1)).toNat,by omega⟩
  have YP:k<b.atoms.length:=by omega
  have VC:=λU=>ey (U:=U) YP;have hre:bj b s=um b.nodes b.atoms[k].node b.h:=by rw[bj,aD he,hk,bp YP]
  have hc:=QG b.nodes hb.qs b.atoms[k].node b.h;rw[<-hre]at hc;simp only[go_sem,seval,ZC,a3,iu,Xs,X6,q,cp];refine ai.rY (by kernel_rfl) [0,1,2,3,4,5,6,7,8,9,10,11,12,13,14,15,16,17,18,19,20,21,22,23,24,25] [[],[],[1],[1,2],[1,2,3],[],[5],[5,6],[5,6,7],[5,6,7,8],[],[10],[],[12],[10,11,12,13],[5,6,7,8,9,10,11,12,13,14],[5,6,7,8,9,10,11,12,13,14,15],[5,6,7,8,9,10,11,12,13,14,15,16],[],[18],[18,19],[18,19,20],[1,2,3,4,5,6,7,8,9,10,11,12,13,14,15,16,17,18,19,20,21],[0,1,2,3,4,5,6,7,8,9,10,11,12,13,14,15,16,17,18,19,20,21,22],[0,1,2,3,4,5,6,7,8,9,10,11,12,13,14,15,16,17,18,19,20,21,22,23],[0,1,2,3,4,5,6,7,8,9,10,11,12,13,14,15,16,17,18,19,20,21,22,23,24]] [0,2,4,6,8,10,12,14,16,18,20,22,24,26,28,30,32,34,36,38,40,42,44,46,48,50] (by kernel_rfl) (by kernel_rfl) ?_;refine cd (n:=0) [44,46,48,50] [0,2,4,6,8,10,12,14,16,18,20,22,24,26,28,30,32,34,36,38,40,42] [_,_,_,_,_,_,_,_,_,_,_,_,_,_,_,_,_,_,_,_,_,_] rfl rfl ?_;simp only[go_sem,seval,ZC,a3,X6,iu,Po,r1,dD,hk,VC,bC];rw[j7]at hc;refine reP rfl (hc _) ?_;refine cd (n:=0) [] [46,48,50] [_,_,_] rfl rfl ?_;simp only[go_sem,seval,ZC,aj,al];have hlL:=dd (bj b s).VU;apply sR;simp only[go_sem,seval,hlL];rw[<-X6];refine fin _ _ (bb (bj b s).VU) hlL (λj h U=>du h) ag (hs.az z19) ?_ ?_ ?_ ?_ ?_ ?_<;>rfl
open Go.Proofs
def bkE(b:Bk):bu b=.agg [aF b.nodes,vI b.w,vI b.h,bn b.atoms,aC b.VH,vI b.VA,bG b.V4]:=rfl
def uD(b:Bk)(hb:1<=b.h):aL prog 47 [.rp (bu b)] (.bool false):=λU=>by
 refine e47.q ?_;have q:(b.h=0)=False:=H';refine mS 3 ?_;simp only[go_sem,seval,c47,bkE,q,tj];exact ak.same rfl
def x7(b:Bk)(hb:BkFull b)(U:ad):au prog 14 [.rp (bu b)] U λr Z'=>aa U Z'/\ay U Z' 102 3 r (b.V4.map bY):=by
 refine e14.q ?_;have h1:=hb.brk;have h2:=hb.len;refine mS 3 ?_;simp only[go_sem,seval,c14];refine pS rfl (uD b hb.h1 _) ?_;simp only[go_sem,seval,bkE,G4];refine Xv rfl (we func50 (e50.b.trans rfl) e50.c (b.V4.map bY) (by simp;omega) _) ?_;rintro r Z' ⟨hs,ho⟩;apply sR;simp only[go_sem,seval];exact WZ ⟨hs,ho⟩
def MB(b:Bk):V:=.agg [bn b.atoms,aC b.VH,vI b.VA]
def ET(b:Bk)(hb:BkFull b):aL prog 12 [.rp (bu b)] (MB b):=λU=>by
 refine e12.q ?_;have hs:=aa.refl U;have h2:=hb.len;have h3:=hb.ZH;refine mS 4 ?_;simp only[go_sem,seval,c12];refine ar hs λi2 Z2 s2 a2 f2 z2 hs=>?_;simp only[go_sem,seval];refine pS rfl (uD b hb.h1 _) ?_;simp only[go_sem,seval,bkE];refine ar hs λi3 Z3 s3 a3 f3 z3 hs=>?_;obtain⟨n23,a2⟩:=VB a2 f3 s3;simp only[go_sem,seval,a3,aI,aX,aH,aY];generalize hq3:C' _ i3 _=X3;replace a3:=WC hq3;replace a2:=VN hq3 n23 a2;replace hs:=WD hq3 hs z3;refine pJ rfl (Hp b.atoms (by omega)) ?_;apply sG;simp only[go_sem,seval,a3];refine pJ rfl (AO b.VH (by omega)) ?_;apply sG;simp only[go_sem,seval,a3,a2,aI,aX,aH,aY,ab n23,ab n23];exact ak.pure ((hs.az z3).az z2) rfl
def oH(b:Bk)(hb:BkFull b):aL prog 16 [.rp (bu b)] (bl ⟨⟨0,0,true⟩,[]⟩):=λU=>by
 refine e16.q ?_;have hs:=aa.refl U;refine mS 4 ?_;simp only[go_sem,seval,c16];refine ar hs λi2 Z2 s2 a2 f2 z2 hs=>?_;simp only[go_sem,seval];refine pS rfl (uD b hb.h1 _) ?_;simp only[go_sem,seval,a2];refine⟨_,U,hs.az z2,Wk.agg (vs':=[vI 0,vI 0,.bool true,aC []]) ⟨Wk.refl (hs.az z2) _,Wk.refl (hs.az z2) _,Wk.refl (hs.az z2) _,Wk.aO 7,trivial⟩,rfl,rfl⟩
def qV(a:O'):∀(p:List O') (i:Nat),ky a p i=-1\/∃k:Nat,ky a p i=((i+k:Nat):Int)/\k<p.length
 |[],_=>.inl rfl
 |q::r,i=>by
  rw[ky];split
  .exact .inr ⟨0,rfl,by simp⟩
  .rcases qV a r (i+1)with h|⟨k,h1,h2⟩
   .exact .inl h
   .exact .inr ⟨k+1,by rw[h1];congr 1;omega,by simp;omega⟩
def jn(VH:List O'):List O'->Nat->Bool
 |[],_=>true
 |x::r,V3=>if ky x (VH.drop V3) 0<0 then false else jn VH r (V3+(ky x (VH.drop V3) 0).toNat+1)
def jP(b:Bk)(s:XY):Prop:=jn b.VH s.bw 0=true/\(de b.atoms s.s\/s.s.atom=b.atoms.length/\s.s.done=0)
instance (b:Bk) (s:XY):Decidable (jP b s):=by unfold jP;infer_instance
def Lb(b:Bk)(hb:BkFull b)(s:XY)(hp:s.bw.length<=1000000):aL prog 59 [.rp (bu b),bl s] (.bool (decide (jP b s))):=λU=>by
 refine e59.q ?_;have hs:=aa.refl U;have h2:=hb.len;have h3:=hb.ZH;have hlp:=cQ s.bw;have XD:=gj b.atoms;refine mS 13 ?_;simp only[go_sem,seval,c59,bl,aX,aY];refine ar hs λi3 Z3 s3 a3 f3 z3 hs=>?_;simp only[go_sem,seval,a3,hlp];refine ai.loop (λm st=>∃(j V3:Nat),j<=s.bw.length/\m=s.bw.length-j/\V3<=b.VH.length/\jn b.VH s.bw 0=jn b.VH (s.bw.drop j) V3/\aa U st.U/\st.U i3=some ⟨27,4,[.agg [vI s.s.atom,vI s.s.done,.bool s.s.free,aC s.bw]]⟩/\st.s 0=.rp (bu b)/\st.s 3=.ptr i3 0 0/\st.s 5=vI V3/\st.s 10=aC s.bw/\st.s 11=vI s.bw.length/\st.s 12=vI j) s.bw.length ?_ ?_
 .exact⟨0,0,by omega,rfl,by omega,rfl,hs,a3,rfl,rfl,rfl,rfl,rfl,rfl⟩
 .clear hs a3;rintro m ⟨S,J⟩ ⟨j,V3,hj,rfl,XG,heq,hs,a3,t0,t3,t5,t10,t11,t12⟩;simp only at hs a3 t0 t3 t5 t10 t11 t12;refine ai.mix 13 ?_;by_cases B':j<s.bw.length
  .have q:=qT B';have VC:=λU=>ed (U:=U) B';have YG:aG s.bw[j]=.agg [vI s.bw[j].node,vI s.bw[j].side,vI s.bw[j].anchor,vI s.bw[j].x,vI s.bw[j].y,vI s.bw[j].w,vI s.bw[j].h]:=rfl;have hd:s.bw.drop j=s.bw[j]::s.bw.drop (j+1):=ju B';rw[hd,jn]at heq;have Zr:=jS XG;generalize s.bw[j]=f at*;have hic:=Iv (b.VH.drop V3) (by rw[ri];omega) f;rw[YG]at hic;have r1:=rI j;apply sR;simp only[go_sem,seval,t0,t3,t5,t10,t11,t12,q,VC,YG];refine ar hs λi7 Z7 s7 a7 f7 z7 hs=>?_;obtain⟨n37,a3⟩:=VB a3 f7 s7;simp only[BB,seval,<-decide_not,br,eL,aJ,cY,eN,fm,gk,eP,cS,mZ,gn,bP,jy,gA,gV,eT,cP,lu,dJ,dn,cF,Xl,mj,dT,cE,jV,ef,cX,dV,dP,nN,binBV,dk,ei,V.cells,V.stays,a7,bkE,EO,t0,t3,t5,t10,t11,t12,Zr];generalize Xb:C' _ i7 _=Y7;replace a7:=WC Xb;replace a3:=VN Xb n37 a3;replace hs:=WD Xb hs z7;refine pJ rfl hic ?_;have Xs:(b.VH.drop V3).length=b.VH.length-V3:=ri;rcases qV f (b.VH.drop V3) 0 with h|⟨k,h,hk⟩
   .rw[h]at heq|-;rw[av (by omega)]at heq;have hf:decide (jP b s)=false:=WW λhm=>by rw[jP,heq]at hm;cases hm.1
    apply sG;simp only[go_sem,seval,t0,t3,t5,t10,t11,t12];rw[hf];exact ak.pure hs rfl
   .rw[h,fU]at heq|-;rw[aD (by omega),fp]at heq;have q1:((k:Int)<0)=False:=H';have r2:=rI k;have r3:VO .i64 ((V3:Int)+(k+1)):=ae;apply sG;simp only[go_sem,seval,t0,t3,t5,t10,t11,t12,q1,r1,r2,r3];refine⟨_,?_,j+1,V3+k+1,by omega,rfl,by omega,heq,hs,a3,rfl,?_,rfl⟩
    .omega
    .show V.int _ _=V.int _ _;congr 1
  .have q:=qF B';have XS:j=s.bw.length:=by omega
   rw[XS,xp,jn]at heq;have hmc:=rG b.atoms s.s;rw[aZ]at hmc;apply sR;simp only[go_sem,seval,t0,t3,t5,t10,t11,t12,q,a3,bkE,iu];refine pJ rfl hmc ?_;have fin:∀v:Bool,decide (jP b s)=v->ak (.bool v) J λr Z'=>r=.bool (decide (jP b s))/\Z'=U:=λv h=>by rw[h];exact ak.pure hs rfl
   by_cases hm:de b.atoms s.s
   .have f:=fin true (WJ ⟨heq,.inl hm⟩);rw[WJ hm];generalize decide (jP b s)=B at*;apply sG;simp only[go_sem,seval];exact f
   rw[WW hm];by_cases ha:s.s.atom=b.atoms.length
   .by_cases hd:s.s.done=0
    .have f:=fin true (WJ ⟨heq,.inr ⟨ha,hd⟩⟩);generalize decide (jP b s)=B at*;have q1:(s.s.atom=(b.atoms.length:Int))=True:=L' ha;have q2:(s.s.done=0)=True:=L' hd;apply sG;simp only[go_sem,seval,t0,t3,a3,bkE,iu,XD,q1,q2];exact f
    .have f:=fin false (WW λh=>by rcases h.2 with h|h;exact hm h;exact hd h.2)
     generalize decide (jP b s)=B at*;have q1:(s.s.atom=(b.atoms.length:Int))=True:=L' ha;have q2:(s.s.done=0)=False:=H' hd;apply sG;simp only[go_sem,seval,t0,t3,a3,bkE,iu,XD,q1,q2];exact f
   .have f:=fin false (WW λh=>by rcases h.2 with h|h;exact hm h;exact ha h.1)
    generalize decide (jP b s)=B at*;have q1:(s.s.atom=(b.atoms.length:Int))=False:=H' ha;apply sG;simp only[go_sem,seval,t0,t3,a3,bkE,iu,XD,q1];exact f
def ic(b:Bk)(s:XY):Prop:=¬jP b s\/s.s.atom=b.atoms.length/\s.s.free=false/\s.bw=[]
instance (b:Bk) (s:XY):Decidable (ic b s):=by unfold ic;infer_instance
def qo(b:Bk)(hb:BkFull b)(s:XY)(hp:s.bw.length<=1000000):aL prog 19 [.rp (bu b),bl s] (.bool (decide (ic b s))):=λU=>by
 refine e19.q ?_;have hs:=aa.refl U;have h2:=hb.len;have hlp:=cQ s.bw;have XD:=gj b.atoms;have hmc:=Lb b hb s hp;rw[bl]at hmc;refine mS 5 ?_;simp only[go_sem,seval,c19,bl,aX,aY];refine ar hs λi3 Z3 s3 a3 f3 z3 hs=>?_;simp only[go_sem,seval];refine pS rfl (uD b hb.h1 _) ?_;simp only[go_sem,seval,a3];refine pR rfl (hmc _) ?_;have fin:∀v:Bool,decide (ic b s)=v->ak (.bool v) Z3 λr Z'=>r=.bool (decide (ic b s))/\Z'=U:=λv h=>by rw[h];exact ak.pure hs rfl
 by_cases hm:jP b s
 .rw[WJ hm];by_cases ha:s.s.atom=b.atoms.length
  .have q1:(s.s.atom=(b.atoms.length:Int))=True:=L' ha;by_cases hf:s.s.free=true
   .have f:=fin false (WW λh=>by rcases h with h|h;exact h hm;rw[hf]at h;cases h.2.1)
    generalize decide (ic b s)=B at*;rw[hf]at a3;apply sR;simp only[go_sem,seval,a3,bkE,iu,XD,q1];exact f
   .have hf':s.s.free=false:=by simpa using hf
    by_cases hn:s.bw=[]
    .have f:=fin true (WJ (.inr ⟨ha,hf',hn⟩));generalize decide (ic b s)=B at*;have q2:((s.bw.length:Int)=0)=True:=L' (by rw[hn];rfl);rw[hf']at a3;apply sR;simp only[go_sem,seval,a3,bkE,iu,XD,q1,hlp,q2];exact f
    .have f:=fin false (WW λh=>by rcases h with h|h;exact h hm;exact hn h.2.2)
     generalize decide (ic b s)=B at*;have q2:((s.bw.length:Int)=0)=False:=H' (by have:=ud.2 hn;omega);rw[hf']at a3;apply sR;simp only[go_sem,seval,a3,bkE,iu,XD,q1,hlp,q2];exact f
  .have f:=fin false (WW λh=>by rcases h with h|h;exact h hm;exact ha h.1)
   generalize decide (ic b s)=B at*;have q1:(s.s.atom=(b.atoms.length:Int))=False:=H' ha;apply sR;simp only[go_sem,seval,a3,bkE,iu,XD,q1];exact f
 .rw[WW hm];have f:=fin true (WJ (.inl hm));generalize decide (ic b s)=B at*;apply sR;simp only[go_sem,seval];exact f
open Go.Proofs
structure Pag where
 (no kind:Int)
 (hs fs ls:List XR)
def bQ(l:List XR):V:=.sl 7 (l.map aP)
def ew(p:Pag):V:=.agg [vI p.no,vI p.kind,bQ p.hs,bQ p.fs,bQ p.ls]
def uq{s:Nat->V}{U:ad}{a1 a2:Bool}{n1 n2 d e t:Nat}{Post:V->ad->Prop}:
 Ret [.cell a1 n1 (.t d),.cell a2 n2 (.t e),.tmp (.t t)] ⟨s,U⟩ Post=ez (cj U a1 n1 (s d)) λv=>ez (cj U a2 n2 (s e)) λw=>ak (.VG [v,w,s t]) U Post:=by
 unfold Ret ak oL;simp only[fL,iV,VX.ev];cases cj U a1 n1 (s d)<;>cases cj U a2 n2 (s e)<;>simp[ez]
def oD{body:Int}:∀(l:List O') (sh:Int),0<=sh->sh<=body->(∀f∈l,0<=f.h)->(cC body l sh).1.length<=l.length/\(∀m∈(cC body l sh).1,0<=m.y/\m.y<=body)/\0<=(cC body l sh).2.2/\(cC body l sh).2.2<=body
 |[],sh,h0,h1,_=>by simp[cC];omega
 |f::r,sh,h0,h1,hh=>by
  rw[cC];have hf:=hh f (by simp);split
  .simp;omega
  .rename_i hc;obtain⟨g1,g2,g3,g4⟩:=oD (body:=body) r (sh+min f.h body) (by omega) (by omega) (λg hg=>hh g (by simp[hg]));refine⟨by simp;omega,λm hm=>?_,g3,g4⟩;rcases et.1 hm with rfl|hm
   .simp only;omega
   .exact g2 m hm
def Dn{l:List Nd}{x:Kp}{a:Int}(h:1<=x.body):1<=(ir l x a).body:=by
 unfold ir;split
 .exact h
 .simp only;omega
def ry{l:List Nd}{L:List Int}{h:Int}(hh:1<=h):∀m,1<=(ig l L h m).body
 |0=>hh
 |m+1=>Dn (ry hh m)
def kD{b:Bk}(hb:BkFull b)(s:W7)(h0:0<=s.atom):1<=(bj b s).body:=by
 have h1:=hb.h1;unfold bj;split
 .exact h1
 .rename_i he;have hl0:0<b.atoms.length:=ud.2 he;obtain⟨k,hk⟩:∃k:Nat,min s.atom ((b.atoms.length:Int)-1)=k:=⟨(min s.atom ((b.atoms.length:Int)-1)).toNat,by omega⟩
  have YP:k<b.atoms.length:=by omega
  have hn:=hb.nod _ (Ws YP);rw[hk,bp YP];have hm:gS b.nodes b.h=true:=by simp[gS,hb.isb,hb.h1,hb.h2]
  unfold um;rw[av ⟨hm,hn⟩];exact ry h1 _
def kE{VH:List O'}:∀(p:List O') (V3:Nat),jn VH p V3=true->∀f∈p,f∈VH
 |[],_,_,f,hf=>by cases hf
 |x::r,V3,h,f,hf=>by
  rw[jn]at h;split at h
  .cases h
  .rename_i hk;rcases et.1 hf with rfl|hf
   .have key:∀(l:List O') (i:Nat),¬ky f l i<0->f∈l:=by
     intro l
     induction l with
     |nil=>intro i h;simp[ky]at h
     |cons q l ih=>
      intro i h;rw[ky]at h;split at h
      .rename_i e;simp[e]
      .exact List.mem_cons_of_mem _ (ih _ h)
    exact List.mem_of_mem_drop (key _ _ hk)
   .exact kE r _ h f hf
def mP(x:Wx):Pag:=⟨0,x.kind,x.hs,x.fs,x.ls⟩
def fj(b:Bk)(s:XY):Wx:={ (({ cq b s.s .aO with shift:=(cC (bj b s.s).body s.bw 0).2.2 }:Wx).put (cC (bj b s.s).body s.bw 0).1)with kind:=0 }
def nV(b:Bk)(s:XY):Prop:=s.s.atom=b.atoms.length\/(cC (bj b s.s).body s.bw 0).2.1≠[]\/(cC (bj b s.s).body s.bw 0).2.2>0/\fO b.atoms s.s>(bj b s.s).body-(cC (bj b s.s).body s.bw 0).2.2
instance (b:Bk) (s:XY):Decidable (nV b s):=by unfold nV;infer_instance
def dK(b:Bk)(s:XY):Pag×XY:=
 if b.atoms=[]/\s.s.free=true then(mP (wm b (cq b s.s .aO)),oR b (cq b s.s .aO))
 else if nV b s then(mP { fj b s with kind:=2 },⟨⟨s.s.atom,s.s.done,s.s.free&&decide (s.s.atom<b.atoms.length)⟩,(cC (bj b s.s).body s.bw 0).2.1⟩)
 else(mP (gq b (fj b s)),jA b (fj b s))
def sC(b:Bk)(x:Wx)(h:V):mP (gq b { x with VU:=h })=mP (gq b x)/\jA b { x with VU:=h }=jA b x:=by
 unfold gq jA;by_cases hc:eG b.V4 x.s.atom (fq b x)
 .rw[av (show eG b.V4 ({ x with VU:=h }:Wx).s.atom (fq b { x with VU:=h })from hc),av (show eG b.V4 ({ x with VU:=h }:Wx).s.atom (fq b { x with VU:=h })from hc),av hc,av hc];exact⟨rfl,rfl⟩
 .rw[aD (show¬eG b.V4 ({ x with VU:=h }:Wx).s.atom (fq b { x with VU:=h })from hc),aD (show¬eG b.V4 ({ x with VU:=h }:Wx).s.atom (fq b { x with VU:=h })from hc),aD hc,aD hc];exact⟨rfl,rfl⟩
def Yn.az{b:Bk}{K:ad}{ix:Nat}{x:Wx}{U:ad}{vh vf vl:V}(h:Yn b K ix x U vh vf vl){i:Nat}{o:Ob}(hi:K i=some o)(o':Ob):Yn b (C' K i o') ix x (C' U i o') vh vf vl:=by
 have hn:ix≠i:=λe=>by have:=h.no;subst e;rw[this]at hi;cases hi
 have key:∀{v rows},ay (bE K ix) U 123 7 v rows->ay (bE (C' K i o') ix) (C' U i o') 123 7 v rows:=λhv=>by
  rcases hv with h|⟨a,e,h3,h4⟩
  .exact .inl h
  .have hk:=(aQ.1 h4).2;have ha:a≠i:=λe=>by subst e;rw[hk]at hi;cases hi
   exact .inr ⟨a,e,(Vc.ab ha).trans h3,aQ.2 ⟨(aQ.1 h4).1,(Vc.ab ha).trans hk⟩⟩
 refine⟨(Vc.ab hn).trans h.row,key h.oh,key h.of,key h.ol,h.hf,h.hl,h.fl,λa q ha=>?_,(Vc.ab hn).trans h.no⟩;by_cases e:a=i
 .subst e;rw[Vc.ag]at ha|-;exact ha
 .rw[Vc.ab e]at ha|-;exact h.sub _ _ ha
def Yn.ret{b:Bk}{K Z0:ad}{ix:Nat}{x:Wx}{U:ad}{vh vf vl:V}(h:Yn b K ix x U vh vf vl)(h0:aa Z0 K)(S:V)(e:Int):
 ak (.VG [.agg [vI 0,vI x.kind,vh,vf,vl],S,vI e]) U λr Z'=>r=.VG [ew (mP x),S,vI e]/\Z'=Z0:=by
 have hs:=h0.trans h.sub;have hK:aa Z0 (bE K ix):=λi o hh=>by
  rw[bE,aD (λe=>by rw[e]at hh;have:=h0 _ _ hh;rw[h.no]at this;cases this)];exact h0 _ _ hh
 exact⟨_,Z0,hs,Wk.VG (vs':=[ew (mP x),S,vI e]) ⟨Wk.agg (vs':=[vI 0,vI x.kind,bQ x.hs,bQ x.fs,bQ x.ls]) ⟨Wk.refl hs _,Wk.refl hs _,h.oh.wk hK hs,h.of.wk hK hs,h.ol.wk hK hs,trivial⟩,Wk.refl hs _,Wk.refl hs _,trivial⟩,rfl,rfl⟩
def Er(b:Bk)(hb:BkFull b)(hfh:∀f∈b.VH,0<=f.h)(s:XY)(hp:s.bw.length<=1000000):
 aL prog 18 [.rp (bu b),bl s] (if ic b s then .VG [ew ⟨0,0,[],[],[]⟩,bl ⟨⟨0,0,false⟩,[]⟩,vI 4]else .VG [ew (dK b s).1,bl (dK b s).2,vI 0]):=λU=>by
 refine e18.q ?_;have hs:=aa.refl U;have h2:=hb.len;have hlp:=cQ s.bw;have XD:=gj b.atoms;have hec:=qo b hb s hp;rw[bl]at hec;refine mS 12 ?_;simp only[go_sem,seval,c18,bl,aX,aY];refine ar hs λi3 Z3 s3 a3 f3 z3 hs=>?_;simp only[go_sem,seval];refine ar hs λi4 Z4 s4 a4 f4 z4 hs=>?_;obtain⟨n34,a3⟩:=VB a3 f4 s4;simp only[go_sem,seval];refine ar hs λi5 Z5 s5 a5 f5 z5 hs=>?_;obtain⟨n35,a3⟩:=VB a3 f5 s5;obtain⟨XQ,a4⟩:=VB a4 f5 s5;simp only[go_sem,seval,a3];refine pR rfl (hec _) ?_;by_cases hm:ic b s
 .rw[av hm,WJ hm];have n54:=XQ.symm;apply sR;simp only[go_sem,seval,a4,a5,ab XQ,ab n54,uq];have VW:=(hs.az (o:=⟨58,5,[.agg [vI 0,vI 0,.aO,.aO,.aO]]⟩) z4).az (o:=⟨27,4,[.agg [vI 0,vI 0,.bool false,.aO]]⟩) z5;exact⟨_,U,VW,Wk.VG (vs':=[ew ⟨0,0,[],[],[]⟩,bl ⟨⟨0,0,false⟩,[]⟩,vI 4]) ⟨Wk.agg (vs':=[vI 0,vI 0,bQ [],bQ [],bQ []]) ⟨Wk.refl VW _,Wk.refl VW _,Wk.aO 7,Wk.aO 7,Wk.aO 7,trivial⟩,Wk.agg (vs':=[vI 0,vI 0,.bool false,aC []]) ⟨Wk.refl VW _,Wk.refl VW _,Wk.refl VW _,Wk.aO 7,trivial⟩,Wk.refl VW _,trivial⟩,rfl,rfl⟩
 .rw[aD hm,WW hm];have Xz:jP b s:=Decidable.byContradiction λh=>hm (.inl h);have hnot:¬(s.s.atom=b.atoms.length/\s.s.free=false/\s.bw=[]):=λh=>hm (.inr h);have XG:0<=s.s.atom:=by rcases Xz.2 with h|h;exact h.1.1;omega
  have hph:∀f∈s.bw,0<=f.h:=λf hf=>hfh f (kE _ _ Xz.1 f hf);have XZ:=qx hb s.s;have hr1:=kD hb s.s XG;have hbc:=IC b hb s.s XG Z5;rw[aZ]at hbc;apply sR;simp only[go_sem,seval,a3,bkE,iu];refine Xv rfl hbc ?_;rintro r Z6 ⟨i1,vh,hv,rfl,hJ⟩;have c3:=hJ.sub _ _ a3;have xs:(cq b s.s hv).s=s.s:=rfl;have xb:(cq b s.s hv).body=(bj b s.s).body:=rfl;have xh:(cq b s.s hv).high=(bj b s.s).high:=rfl;have xl:(cq b s.s hv).ls=[]:=rfl;have xf:(cq b s.s hv).fs=[]:=rfl;have xk:(cq b s.s hv).kind=0:=rfl;have hs5:aa U Z5:=hs;by_cases h0:b.atoms=[]/\s.s.free=true
  .obtain⟨h01,h02⟩:=h0;have q1:((b.atoms.length:Int)=0)=True:=L' (by rw[h01];rfl);rw[dK,av ⟨h01,h02⟩];have hlc:=I8 b hb.toBkOk (cq b s.s hv) (by rw[xl];simp) (by rw[xh];have:=XZ.high;omega) hJ;have e1:mP (wm b (cq b s.s .aO))=mP (wm b (cq b s.s hv)):=rfl;have e2:oR b (cq b s.s .aO)=oR b (cq b s.s hv):=rfl;rw[e1,e2];generalize wm b (cq b s.s hv)=X at*;generalize oR b (cq b s.s hv)=Z at*;rw[h02]at c3;apply sR;simp only[go_sem,seval,q1,XD,c3,bkE,iu];refine Xv rfl hlc ?_;rintro r Z7 ⟨ZR,rfl,hJ7⟩;have d5:=hJ7.sub _ _ a5;apply sR;simp only[go_sem,seval,d5,bl,aX,aY,cp];have Zy:=hJ7.az a5 ⟨27,4,[.agg [vI Z.s.atom,vI Z.s.done,.bool Z.s.free,aC Z.bw]]⟩;generalize Xm:C' Z7 i5 _=Y8 at*;have b1:=Zy.row;rw[dO]at b1;have b5:=Zy.sub _ _ ag;have b4:=Zy.sub i4 _ ((ab XQ).trans a4);obtain⟨ch,sh⟩:=Zy.oh.vc;obtain⟨cf,sf⟩:=Zy.of.vc;obtain⟨cl,sl⟩:=Zy.ol.vc;have n54:=XQ.symm;refine ai.rY (by kernel_rfl) [0,1,2,3,4,5,6,7] [[],[0],[0,1],[0,1,2],[],[0,1,2,3],[0,1,2,3,4,5],[0,1,2,3,4,5,6]] [0,2,4,6,8,10,9,12,14] (by kernel_rfl) (by kernel_rfl) ?_;refine cd (n:=0) [9,12,14] [0,2,4,6,8,10] [_,_,_,_,_,_] rfl rfl ?_;simp only[go_sem,seval,b1,b4,b5,ch,sh,cf,sf,cl,sl,aX,aY,ab n54,ab XQ];refine cT rfl (by simp only[go_sem,seval,b1,b4,b5,ab n54,ab XQ]) ?_;refine cd (n:=0) [] [12,14] [_,_] rfl rfl ?_;simp only[go_sem,seval,b1,b4,b5,ch,sh,cf,sf,cl,sl,aX,aY,ab n54,ab XQ];apply sR;simp only[go_sem,seval,b1,b4,b5,uq,ab n54,ab XQ];exact((Zy.az ((ab XQ).trans a4) _).az ((ab n54).trans ag) _).ret (((hs5.az z5).az z4).az z5) _ _
  .have hpr:dK b s=if nV b s then(mP { fj b s with kind:=2 },⟨⟨s.s.atom,s.s.done,s.s.free&&decide (s.s.atom<b.atoms.length)⟩,(cC (bj b s.s).body s.bw 0).2.1⟩)else(mP (gq b (fj b s)),jA b (fj b s)):=by rw[dK,aD h0]
   have htc:=ME s.bw hp (bj b s.s).body hr1 (by have:=XZ.body;omega) hph;obtain⟨g1,g2,g3,g4⟩:=oD (body:=(bj b s.s).body) s.bw 0 (Int.le_refl _) (by omega) hph;have hlc:=J3 b.atoms hb.V3 s.s (by
    rcases Xz.2 with h|h
    .have:=rK hb.toBkOk h;omega
    .omega)
   rw[aZ]at hlc;have b1:=hJ.row;simp only[dO,cq]at b1;have hfw:=LC b hb.toBkOk;have hX:∀x:Wx,x=({ cq b s.s hv with shift:=(cC (bj b s.s).body s.bw 0).2.2 }:Wx).put (cC (bj b s.s).body s.bw 0).1->mP { x with kind:=2 }=mP { fj b s with kind:=2 }/\mP (gq b x)=mP (gq b (fj b s))/\jA b x=jA b (fj b s):=λx hx=>by
    subst hx;exact⟨rfl,(sC b (fj b s) hv).1,(sC b (fj b s) hv).2⟩
   have YB:nV b s->dK b s=_:=λh=>hpr.trans (av h);have hp2:¬nV b s->dK b s=_:=λh=>hpr.trans (aD h);clear hpr;unfold nV at YB hp2;generalize fj b s=TX at*;generalize cC (bj b s.s).body s.bw 0=T at*;obtain⟨put,left,sh'⟩:=T;simp only at htc g1 g2 g3 g4 hX YB hp2;have hll:=cQ left;have hq:(((b.atoms.length:Int)=0)=True/\s.s.free=false)\/(((b.atoms.length:Int)=0)=False/\True):=by
    by_cases he:b.atoms=[]
    .exact .inl ⟨L' (by rw[he];rfl),by
      cases hfr:s.s.free
      .rfl
      .exact absurd ⟨he,hfr⟩ h0⟩
    .exact .inr ⟨H' (by have:=ud.2 he;omega),trivial⟩
   rcases hq with⟨q,hf⟩|⟨q,hf⟩
   all_goals
    apply sR;simp only[go_sem,seval,q,hf,XD,c3,b1,bkE,iu];refine pJ rfl htc ?_;apply sG;simp only[go_sem,seval,b1];generalize Xb:C' Z6 i1 _=Y7;have hJ7:Yn b Z5 i1 { cq b s.s hv with shift:=sh' } Y7 vh .aO .aO:=by
     rw[<-Xb];exact hJ.set _ rfl rfl rfl
    refine Xv rfl (ou b put (by omega) { cq b s.s hv with shift:=sh' } (by simp[cq]) (λf hf=>by
     have:=g2 f hf;have:=XZ.high;have:=XZ.body;exact ae (by show _<=f.y+(bj b s.s).high;omega) (by show f.y+(bj b s.s).high<=_;omega)) hJ7) ?_
    rintro-Z8 ⟨ZR,Zy⟩;obtain⟨x1,x2,x3⟩:=hX _ rfl;have c3:=Zy.sub _ _ a3;have d5:=Zy.sub _ _ a5;have b1:=Zy.row;have ys:(Wx.put { cq b s.s hv with shift:=sh' } put).s=s.s:=rfl;have yb:(Wx.put { cq b s.s hv with shift:=sh' } put).body=(bj b s.s).body:=rfl;have yh:(Wx.put { cq b s.s hv with shift:=sh' } put).high=(bj b s.s).high:=rfl;have yw:(Wx.put { cq b s.s hv with shift:=sh' } put).shift=sh':=rfl;have yf:(Wx.put { cq b s.s hv with shift:=sh' } put).fs.length<=1000000:=by simp[Wx.put,cq]
    have yl:(Wx.put { cq b s.s hv with shift:=sh' } put).ls.length<=1000000:=by simp[Wx.put,cq];omega
    generalize Wx.put { cq b s.s hv with shift:=sh' } put=Y at*;rw[dO]at b1;have n15:i1≠i5:=λe=>by have:=Zy.no;rw[e,a5]at this;cases this
    have n51:=n15.symm;have n54:=XQ.symm;have r1:VO .i64 ((bj b s.s).body-sh'):=ae (by omega) (by have:=XZ.body;omega);rw[<-yb]at r1 YB hp2;by_cases hfull:s.s.atom=b.atoms.length\/left≠[]\/sh'>0/\fO b.atoms s.s>Y.body-sh'
    .rw[YB hfull,<-x1];have hw:((s.s.atom=(b.atoms.length:Int))=True/\True/\True/\True)\/((s.s.atom=(b.atoms.length:Int))=False/\((left.length:Int)>0)=True/\True/\True)\/
      ((s.s.atom=(b.atoms.length:Int))=False/\((left.length:Int)>0)=False/\(sh'>0)=True/\(fO b.atoms s.s>Y.body-sh')=True):=by
      by_cases hA:s.s.atom=b.atoms.length
      .exact .inl ⟨L' hA,trivial,trivial,trivial⟩
      by_cases hB:left=[]
      .obtain⟨hC,hD⟩:=(hfull.resolve_left hA).resolve_left (λh=>h hB);exact .inr (.inr ⟨H' hA,H' (by rw[hB];simp),L' hC,L' hD⟩)
      .exact .inr (.inl ⟨H' hA,L' (by have:=ud.2 hB;omega),trivial,trivial⟩)
     obtain⟨VAL,hV⟩:∃VAL:Bool,VAL=(s.s.free&&decide (s.s.atom<b.atoms.length)):=⟨_,rfl⟩
     have n13:i3≠i1:=λe=>by have:=Zy.no;rw[<-e,a3]at this;cases this
     cases hfr:s.s.free
     all_goals
      simp only[hfr,Bool.false_and,Bool.true_and]at hV;rw[hfr]at hlc;rcases hw with⟨qA,qB,qC,qD⟩|⟨qA,qB,qC,qD⟩|⟨qA,qB,qC,qD⟩
      all_goals
       apply sR;simp only[go_sem,seval,c3,d5,b1,XD,hll,qA,qB,qC,bkE,iu,hfr,ab n15,ab n51,ab n13,ab n35,cp,aX,aY]
       try
        refine pJ rfl hlc ?_;apply sG;simp only[go_sem,seval,c3,d5,b1,r1,qD,XD,hll,bkE,iu,hfr,ab n15,ab n51,ab n13,ab n35,cp,aX,aY]
       generalize Xm:C' (C' Z8 i1 _) i5 _=Y8;have Zy:Yn b (C' Z5 i5 ⟨27,4,[.agg [vI s.s.atom,vI s.s.done,.bool VAL,aC left]]⟩) i1 { Y with kind:=2 } Y8 vh .aO ZR:=by
        rw[<-Xm,hV];exact(Zy.set { Y with kind:=2 } rfl rfl rfl).az a5 _
       clear Xm;have b1:=Zy.row;rw[dO]at b1;have b5:=Zy.sub _ _ ag;rw[hV]at b5;have b4:=Zy.sub i4 _ ((ab XQ).trans a4);obtain⟨ch,sh⟩:=Zy.oh.vc;obtain⟨cf,sf⟩:=Zy.of.vc;obtain⟨cl,sl⟩:=Zy.ol.vc;refine ai.rY (by kernel_rfl) [0,1,2,3,4,5,6,7] [[],[0],[0,1],[0,1,2],[],[0,1,2,3],[0,1,2,3,4,5],[0,1,2,3,4,5,6]] [0,2,4,6,8,10,9,12,14] (by kernel_rfl) (by kernel_rfl) ?_;refine cd (n:=0) [9,12,14] [0,2,4,6,8,10] [_,_,_,_,_,_] rfl rfl ?_;simp only[go_sem,seval,b1,b4,b5,ch,sh,cf,sf,cl,sl,aX,aY,ab n54,ab XQ];refine cT rfl (by simp only[go_sem,seval,b1,b4,b5,ab n54,ab XQ]) ?_;refine cd (n:=0) [] [12,14] [_,_] rfl rfl ?_;simp only[go_sem,seval,b1,b4,b5,ch,sh,cf,sf,cl,sl,aX,aY,ab n54,ab XQ];apply sR;simp only[go_sem,seval,b1,b4,b5,uq,ab n54,ab XQ];exact((Zy.az ((ab XQ).trans a4) _).az ((ab n54).trans ag) _).ret (((hs5.az z5).az z4).az z5) _ _
    .rw[hp2 hfull,<-x2,<-x3];have hA:¬s.s.atom=b.atoms.length:=λh=>hfull (.inl h);have hm':de b.atoms s.s:=Xz.2.resolve_right λh=>hA h.1;have hw:((s.s.atom=(b.atoms.length:Int))=False/\((left.length:Int)>0)=False/\(sh'>0)=False/\True)\/((s.s.atom=(b.atoms.length:Int))=False/\((left.length:Int)>0)=False/\(sh'>0)=True/\(fO b.atoms s.s>Y.body-sh')=False):=by
      have hB:left=[]:=Decidable.byContradiction λh=>hfull (.inr (.inl h));have hB':((left.length:Int)>0)=False:=H' (by rw[hB];simp);by_cases hC:sh'>0
      .exact .inr ⟨H' hA,hB',L' hC,H' λh=>hfull (.inr (.inr ⟨hC,h⟩))⟩
      .exact .inl ⟨H' hA,hB',H' hC,trivial⟩
     have hwf:=hfw Y (by rw[ys];exact hm') yf yl (by rw[yh];have:=XZ.high;omega) (by rw[yb];have:=XZ.body;omega) (by rw[yw];have:=XZ.body;omega) Zy;generalize gq b Y=X at*;generalize jA b Y=Z at*;rcases hw with⟨qA,qB,qC,qD⟩|⟨qA,qB,qC,qD⟩
     all_goals
      apply sR;simp only[go_sem,seval,c3,XD,qA,hll,qB,qC,bkE,iu]
      try
       refine pJ rfl hlc ?_;apply sG;simp only[go_sem,seval,b1,r1,qD]
      refine Xv rfl hwf ?_;rintro-Z9 ⟨vf',vl'',rfl,ZE⟩;have e5:=ZE.sub _ _ a5;apply sR;simp only[go_sem,seval,e5,bl,aX,aY,cp];have Zy:=ZE.az a5 ⟨27,4,[.agg [vI Z.s.atom,vI Z.s.done,.bool Z.s.free,aC Z.bw]]⟩;generalize Xm:C' Z9 i5 _=Y8 at*;have b1:=Zy.row;rw[dO]at b1;have b5:=Zy.sub _ _ ag;have b4:=Zy.sub i4 _ ((ab XQ).trans a4);obtain⟨ch,sh⟩:=Zy.oh.vc;obtain⟨cf,sf⟩:=Zy.of.vc;obtain⟨cl,sl⟩:=Zy.ol.vc;refine ai.rY (by kernel_rfl) [0,1,2,3,4,5,6,7] [[],[0],[0,1],[0,1,2],[],[0,1,2,3],[0,1,2,3,4,5],[0,1,2,3,4,5,6]] [0,2,4,6,8,10,9,12,14] (by kernel_rfl) (by kernel_rfl) ?_;refine cd (n:=0) [9,12,14] [0,2,4,6,8,10] [_,_,_,_,_,_] rfl rfl ?_;simp only[go_sem,seval,b1,b4,b5,ch,sh,cf,sf,cl,sl,aX,aY,ab n54,ab XQ];refine cT rfl (by simp only[go_sem,seval,b1,b4,b5,ab n54,ab XQ]) ?_;refine cd (n:=0) [] [12,14] [_,_] rfl rfl ?_;simp only[go_sem,seval,b1,b4,b5,ch,sh,cf,sf,cl,sl,aX,aY,ab n54,ab XQ];apply sR;simp only[go_sem,seval,b1,b4,b5,uq,ab n54,ab XQ];exact((Zy.az ((ab XQ).trans a4) _).az ((ab n54).trans ag) _).ret (((hs5.az z5).az z4).az z5) _ _
def blk(cnt:Nat->Nat)(a n:Nat):List Int:=(List.range' a n).flatMap λi=>List.replicate (cnt i) (i:Int)
def kQ(cnt:Nat->Nat)(a:Nat):blk cnt a 0=[]:=rfl
def jh(cnt:Nat->Nat)(a n:Nat):blk cnt a (n+1)=List.replicate (cnt a) (a:Int)++blk cnt (a+1) n:=by
 simp[blk,List.range'_succ]
def nZ{f g:Nat->Nat}:∀(n a:Nat),(∀i,a<=i->i<a+n->f i=g i)->blk f a n=blk g a n
 |0,_,_=>rfl
 |n+1,a,h=>by
  rw[jh,jh,h a (Wa a) (by omega),nZ n (a+1) (λi h1 h2=>h i (by omega) (by omega))]
def B8(cnt:Nat->Nat):∀(n a m:Nat),blk cnt a (n+m)=blk cnt a n++blk cnt (a+n) m
 |0,a,m=>by simp[kQ]
 |n+1,a,m=>by
  rw[show n+1+m=(n+m)+1 by omega,jh,jh,B8 cnt n (a+1) m,lq,show a+1+n=a+(n+1) by omega]
def JI(f g:Nat->Nat)(a n m:Nat):blk f a n++blk g (a+n) m=blk (λi=>if i<a+n then f i else g i) a (n+m):=by
 rw[B8];congr 1
 .exact nZ n a λi h1 h2=>by simp[h2]
 .exact nZ m (a+n) λi h1 h2=>by simp[show¬i<a+n by omega]
structure AtI(C:Int)(x:WE):Prop where
 y0:0<=x.y
 y1:x.y<=C
 h0:1<=x.h
 h1:x.h<=1099511627776
def AtI.mono{B C:Int}{x:WE}(h:AtI B x)(hB:B<=C):AtI C x:=⟨h.y0,Int.le_trans h.y1 hB,h.h0,h.h1⟩
def tk(a:Nat)(h:Int):∀(L:List Ln) (s:WS),(eX a h s L).atoms=s.atoms++L.map (fZ a h)
 |[],s=>by simp[eX]
 |x::L,s=>by
  have:=tk a h L (s.put (fZ a h x));simp only[eX,gC]at this|-;rw[this];simp[WS.put]
def Jw(a:Nat)(h:Int)(L:List Ln):(L.map (fZ a h)).map (·.node)=List.replicate L.length (a:Int):=by
 rw[List.map_map]
 induction L with
 |nil=>rfl
 |cons x L ih=>rw[fF,ih];rfl
def Gh{l:List Nd}{a e:Nat}(he:e<=l.length)(h:bS l a e=true)(hae:a<e)(hk:(Wu l a).kind≠1):VM l a<=1:=by
 have ha:a<l.length:=by omega
 rw[jT ha]at hk;rw[bS,dif_pos hae]at h;simp only[Zq6 ha]at h;split at h
 .simp only[Ba,lP,X7]at h;have:=h.1.1.resolve_left hk;simp only[VM,Zq6 ha,Option.map_some,Option.getD_some];omega
 .cases h
structure A1(l:List Nd)(s t:WS)(a e C:Nat):Prop where
 V3:∀x∈t.atoms,AtI (1099511627776*(C:Int)) x
 nodes:∃cnt,t.atoms.map (·.node)=s.atoms.map (·.node)++blk cnt a (e-a)/\∀i,a<=i->i<e->okN (Wu l i) (cnt i)=true
def A1.join{l:List Nd}{s t u:WS}{a m e C D:Nat}(h1:a<=m)(h2:m<=e)(hA:A1 l s t a m C)(hB:A1 l t u m e D):A1 l s u a e D:=by
 obtain⟨_,f,hf,ZI⟩:=hA;obtain⟨XG,g,hg,Yp⟩:=hB;refine⟨XG,λi=>if i<m then f i else g i,?_,λi h3 h4=>?_⟩
 .rw[hg,hf,lq];congr 1;obtain⟨n,rfl⟩:∃n,m=a+n:=⟨m-a,by omega⟩
  obtain⟨k,rfl⟩:∃k,e=a+n+k:=⟨e-(a+n),by omega⟩
  rw[show a+n-a=n by omega,show a+n+k-(a+n)=k by omega,show a+n+k-a=n+k by omega,JI]
 .simp only;split
  .exact ZI i h3 (by omega)
  .exact Yp i (by omega) h4
def uB{l:List Nd}{rs:List Rm}(hD:DOk l rs):∀(k a e:Nat) (s:WS) (C:Nat),e-a<=k->a<=e->e<=l.length->bS l a e=true->gd s C->(∀x∈s.atoms,AtI (1099511627776*(C:Int)) x)->A1 l s (dt l rs k a e s) a e (C+Wy l a e)
 |0,a,e,s,C,hk,hae,_,_,h,hx=>by
  obtain rfl:a=e:=by omega
  refine⟨λx Wl=>(hx x Wl).mono (by omega),λ_=>0,by simp[dt,kQ],λi h1 h2=>by omega⟩
 |k+1,a,e,s,C,hk,hae,he,hr,h,hx=>by
  rw[dt];by_cases B':a<e
  .rw[av B'];obtain⟨h1,h2⟩:=cA he hr (Wa a) B';obtain⟨h3,h4⟩:=df he hr B';have Wb:NOk (Wu l a):=by rw[jT (by omega)];exact fw hD.isb (by omega)
   have hc1:Wy l a e=Wy l a (a+(VM l a).toNat)+Wy l (a+(VM l a).toNat) e:=eR (by omega) (by omega) he;have hc2:Wy l a (a+(VM l a).toNat)=4+(Wu l a).words.length+Wy l (a+1) (a+(VM l a).toNat):=nU (by omega) (by omega);have step:∀t,gd t (C+Wy l a (a+(VM l a).toNat))->A1 l s t a (a+(VM l a).toNat) (C+Wy l a (a+(VM l a).toNat))->A1 l s (dt l rs k (a+(VM l a).toNat) e t) a e (C+Wy l a e):=λt ht hA=>by
    rw[hc1,<-Nat.add_assoc];exact hA.join (by omega) (by omega) (uB hD k _ e t _ (by omega) (by omega) he h3 ht hA.V3)
   have one:∀(t:WS) (n:Nat),okN (Wu l a) n=true->(VM l a).toNat=1->t.atoms.map (·.node)=s.atoms.map (·.node)++List.replicate n (a:Int)->(∀x∈t.atoms,AtI (1099511627776*((C+Wy l a (a+(VM l a).toNat):Nat):Int)) x)->A1 l s t a (a+(VM l a).toNat) (C+Wy l a (a+(VM l a).toNat)):=λt n hn W9 hm XG=>by
    refine⟨XG,λ_=>n,?_,λi h5 h6=>?_⟩
    .rw[hm,W9,show a+1-a=1 by omega,jh,kQ,jt]
    .obtain rfl:i=a:=by omega
     exact hn
   obtain⟨⟨hf,p1,p2,p3,p4⟩,p5,p6⟩:=h;have hI:gd s C:=⟨⟨hf,p1,p2,p3,p4⟩,p5,p6⟩
   by_cases k1:(Wu l a).kind=1
   .rw[av k1];have hI2:=iN hD k (a+1) (a+(VM l a).toNat) _ _ (by omega) (by omega) (by omega) h4 (gg hI Wb.st);have hA2:=uB hD k (a+1) (a+(VM l a).toNat) (s.enter (Wu l a).st) (C+2) (by omega) (by omega) (by omega) h4 (gg hI Wb.st) (λx Wl=>(hx x Wl).mono (by omega));refine step _ ((kN hI2 Wb.st).more (by omega)) ?_;obtain⟨XG,cnt,hc,hco⟩:=hA2;refine⟨λx Wl=>(XG x Wl).mono (by omega),λi=>if i=a then 0 else cnt i,?_,λi h5 h6=>?_⟩
    .have e1:(s.enter (Wu l a).st).atoms=s.atoms:=rfl;rw[e1]at hc;show(dt l rs k (a+1) (a+(VM l a).toNat) (s.enter (Wu l a).st)).atoms.map (·.node)=_;rw[hc];congr 1;obtain⟨m,hm⟩:∃m,(VM l a).toNat=m+1:=⟨(VM l a).toNat-1,by omega⟩
     rw[hm,show a+(m+1)-(a+1)=m by omega,show a+(m+1)-a=m+1 by omega,jh];simp only[if_true,List.replicate_zero,iC];exact nZ m (a+1) λi h5 h6=>by simp[show i≠a by omega]
    .simp only;split
     .rename_i e;subst e;simp[okN,k1]
     .exact hco i (by omega) h6
   .rw[aD k1];have W9:(VM l a).toNat=1:=by
     have:=Gh he hr B' k1;omega
    by_cases k2:(Wu l a).kind=2
    .rw[av k2];refine step _ ((l7 hI Wb a).more (by omega)) ?_;have hl:=Wb.line;obtain⟨hw0,hl1⟩:=Wb.text k2;have hLl:=kL s.u' (Wu l a).words (Wu l a).space (Wu l a).line (fE rs a) (Wu l a).words.length 0 (s.VD.y+s.VD.m);have hLb:=jo (ws:=(Wu l a).words) (space:=(Wu l a).space) (s:=fE rs a) (λf hf'=>(hf f hf').yB) hl.1 (Wu l a).words.length 0 (s.VD.y+s.VD.m);have hLn:da s.u' (Wu l a).words (Wu l a).space (Wu l a).line (fE rs a) (Wu l a).words.length 0 (s.VD.y+s.VD.m)≠[]:=by
      obtain⟨m,hm⟩:∃m,(Wu l a).words.length=m+1:=⟨(Wu l a).words.length-1,by omega⟩
      rw[hm,da,av (by omega)];simp
     have hte:(s.text rs a (Wu l a)).atoms=s.atoms++(da s.u' (Wu l a).words (Wu l a).space (Wu l a).line (fE rs a) (Wu l a).words.length 0 (s.VD.y+s.VD.m)).map (fZ a (Wu l a).line):=tk a _ _ s;generalize da s.u' (Wu l a).words (Wu l a).space (Wu l a).line (fE rs a) (Wu l a).words.length 0 (s.VD.y+s.VD.m)=L at*;have hL0:=ud.2 hLn;have hmul:(Wu l a).line*((Wu l a).words.length:Int)<=1099511627776*((Wu l a).words.length:Int):=Int.mul_le_mul_of_nonneg_right hl.2 (by omega);refine one _ L.length (by simp only[okN,k2,if_true,X7];omega) W9 (by rw[hte,dG,Jw]) (λx Wl=>?_);rw[hte]at Wl;rcases ec.1 Wl with Wl|Wl
     .exact(hx x Wl).mono (by omega)
     .obtain⟨y,hy,rfl⟩:=gM.1 Wl;have:=hLb y hy;refine⟨?_,?_,hl1,hl.2⟩<;>simp only[fZ]<;>omega
    .rw[aD k2];by_cases k3:(Wu l a).kind=3
     .rw[av k3];refine step _ ((mc hI Wb a).more (by omega)) ?_;have hyr:=fe (w:=(Wu l a).w) (high:=(Wu l a).h) (y:=s.VD.y+s.VD.m) (s:=fE rs a) (λf hf'=>(hf f hf').yB);have hbx:=Wb.box (.inl k3);have hh:=Wb.h;refine one _ 1 (by simp[okN,k3]) W9 (by simp[WS.mono,WS.put]) (λx Wl=>?_);simp only[WS.mono,WS.put]at Wl;rcases ec.1 Wl with Wl|Wl
      .exact(hx x Wl).mono (by omega)
      .simp only[jO]at Wl;subst Wl;refine⟨?_,?_,?_,?_⟩<;>simp only<;>omega
     .rw[aD k3];have k4:(Wu l a).kind=4:=by rcases Wb.kind with h|h|h|h;exact absurd h k1;exact absurd h k2;exact absurd h k3;exact h
      refine step _ ((kJ hD hI (by omega) Wb k4).more (by omega)) ?_;exact one _ 0 (by simp[okN,k4]) W9 (by simp[WS.float]) (λx Wl=>(hx x Wl).mono (by omega))
  .rw[aD B'];obtain rfl:a=e:=by omega
   exact⟨λx Wl=>(hx x Wl).mono (by omega),λ_=>0,by simp[kQ],λi h1 h2=>by omega⟩
def IU(i:Int)(L:List Int)(h:∀x∈L,x≠i):∀k,tG i (List.replicate k i++L)=k
 |0=>by
  cases L with
  |nil=>rfl
  |cons x L=>rw[List.replicate_zero,iC,tG,aD (h x (by simp))]
 |k+1=>by rw[List.replicate_succ,List.cons_append,tG,av rfl,IU i L h k]
def yW{cnt:Nat->Nat}:∀{n a:Nat} {x:Int},x∈blk cnt a n->∃i:Nat,x=i/\a<=i/\i<a+n
 |0,_,_,h=>by simp[kQ]at h
 |n+1,a,x,h=>by
  rw[jh]at h;rcases ec.1 h with h|h
  .exact⟨a,(List.mem_replicate.1 h).2,by omega,by omega⟩
  .obtain⟨i,h1,h2,h3⟩:=yW h;exact⟨i,h1,by omega,by omega⟩
def zY{cnt:Nat->Nat}{of:List Int}:∀(r:List Nd) (i V3:Nat),of.drop V3=blk cnt i r.length->V3<=of.length->(∀j (h:j<r.length),okN r[j] (cnt (i+j))=true)->A8 of r i V3=true
 |[],i,V3,h,hl,_=>by
  have:of.length<=V3:=by
   have:=congrArg List.length h;simp[kQ]at this;omega
  simp[A8];omega
 |x::r,i,V3,h,hl,ho=>by
  rw[XU,jh]at h;have ht:mz of V3 i=cnt i:=by
   rw[mz,h];exact IU _ _ (λy hy=>by obtain⟨j,h1,h2,_⟩:=yW hy;omega) _
  rw[A8,ht];have h0:=ho 0 (by simp);simp only[List.getElem_cons_zero,Nat.add_zero]at h0;rw[h0,Bool.true_and];have hd:of.drop (V3+cnt i)=blk cnt (i+1) r.length:=by
   rw[<-List.drop_drop,h,C4 (by simp)];simp
  refine zY r (i+1) _ hd ?_ (λj hj=>?_)
  .have:=congrArg List.length h;simp at this;omega
  .have:=ho (j+1) (by simpa using hj);simp only[List.getElem_cons_succ]at this
   rwa [show i+1+j=i+(j+1) by omega]
structure N8(l:List Nd)(w:Int):Prop where
 may:rX l ((dv l w).atoms.map (·.node))=true
 nod:∀a∈(dv l w).atoms,0<=a.node/\a.node<l.length
 V3:∀x∈(dv l w).atoms,AtI (1099511627776*((Wy l 0 l.length:Nat):Int)) x
 len:(dv l w).atoms.length<=Wy l 0 l.length
 ZH:(dv l w).u'.length<=Wy l 0 l.length
 flo:∀f∈(dv l w).u',FOk (1099511627776*((Wy l 0 l.length:Nat):Int)) f
def ze{l:List Nd}(hb:Wg l=true)(hn:l.length<=2000){w:Int}(h1:1<=w)(h2:w<=1099511627776):N8 l w:=by
 have hD:=rz hb hn h1 h2;have hr:bS l 0 l.length=true:=by simp only[Wg,Ba]at hb;exact hb.2
 have hI:gd ⟨[],[],0,⟨0,0⟩⟩ 0:=⟨⟨by simp,by simp,by simp,by simp,by simp⟩,by simp,by simp⟩
 have hA:=uB hD l.length 0 l.length ⟨[],[],0,⟨0,0⟩⟩ 0 (by omega) (by omega) (Wa _) hr hI (by simp);have hJ:=iN hD l.length 0 l.length ⟨[],[],0,⟨0,0⟩⟩ 0 (by omega) (by omega) (Wa _) hr hI;rw[fU]at hA hJ;have ha:(dv l w).atoms=(dt l (cI l w) l.length 0 l.length ⟨[],[],0,⟨0,0⟩⟩).atoms:=rfl;have hf:(dv l w).u'=(dt l (cI l w) l.length 0 l.length ⟨[],[],0,⟨0,0⟩⟩).u'.map (lW (dt l (cI l w) l.length 0 l.length ⟨[],[],0,⟨0,0⟩⟩).atoms.length):=rfl;obtain⟨XG,cnt,hc,hco⟩:=hA;rw[List.map_nil,iC,Nat.sub_zero]at hc;refine⟨?_,λa hm=>?_,by rw[ha];exact XG,by rw[ha];exact hJ.V3,by rw[hf,cO];exact hJ.fl,λf hm=>?_⟩
 .rw[ha,hc];refine zY (cnt:=cnt) l 0 0 (by simpa using hc) (Nat.zero_le _) (λj hj=>?_);have:=hco j (Nat.zero_le _) hj;rw[jT hj]at this
  rwa [fU]
 .have hm':a.node∈blk cnt 0 l.length:=by rw[<-hc,<-ha];exact List.mem_map_of_mem hm
  obtain⟨i,e,_,hi⟩:=yW hm';omega
 .rw[hf]at hm;obtain⟨g,hg,rfl⟩:=gM.1 hm;have:=hJ.bd.fl g hg;exact⟨this.1,this.2,this.3,this.4,this.5,this.6,this.7,this.8⟩
def vw:∀(l:List Nd),(∀x∈l,NOk x)->((l.map λn=>4+n.words.length).sum:Nat)<=4*(l.length:Int)+lL l/\∀x∈l,(x.words.length:Int)<=lL l
 |[],_=>by simp[lL]
 |x::l,h=>by
  obtain⟨h1,h2⟩:=vw l (λy hy=>h y (by simp[hy]));have hx:=h x (by simp);have hp:(x.words.length:Int)<=pof x/\0<=pof x:=by
   unfold pof;by_cases k1:x.kind=1
   .have:=hx.nowords (by omega);simp[k1,this]
   .by_cases k2:x.kind=2
    .simp[k2]
    .have:=hx.nowords k2;simp[k1,k2,this]
  have hp0:0<=lL l:=by
   have:∀l:List Nd,0<=lL l:=by
    intro l
    induction l with
    |nil=>simp[lL]
    |cons y l ih=>
     have:0<=pof y:=by unfold pof;split;omega;split;omega;omega
     simp only[lL];omega
   exact this l
  refine⟨by simp only[fF,List.sum_cons,XU,lL];omega,λy hy=>?_⟩;rcases et.1 hy with rfl|hy
  .simp only[lL];omega
  .have:=h2 y hy;simp only[lL];omega
structure RP(l:List Nd):Prop where
 isb:Wg l=true
 len:l.length<=2000
 words:∀x∈l,x.words.length<=2000
 Wy:Wy l 0 l.length<=10000
def p9{l:List Nd}(h:eS l=0):RP l:=by
 unfold eS at h;split at h
 .rename_i hb;split at h
  .cases h
  .rename_i hc;have WY:l.all Nd.ok=true:=by simp only[Wg,Ba]at hb;exact hb.1
   rw[iR,av hb,wA l WY l.length (Wa _),eF]at hc;simp only[not_or]at hc;obtain⟨h1,h2⟩:=vw l (λx hx=>by obtain⟨i,hi,rfl⟩:=List.getElem_of_mem hx;exact fw hb hi);refine⟨hb,by omega,λx hx=>by have:=h2 x hx;omega,?_⟩;have:Vc.Wy l 0 l.length=(l.map λn=>4+n.words.length).sum:=by unfold Vc.Wy;rw[eF,CB]
   omega
 .cases h
mutual
/-- without frozen rows -/
def V.nf:V->Bool
 |.int ..|.bool _|.str _|.aO|.YD|.WT|.Wt|.own ..|.ptr ..=>true
 |.agg cs|.VG cs=>nfL cs
 |.iface _ v=>v.nf
 |.sl _ rows=>rows.isEmpty
 |_=>false
def nfL:List V->Bool
 |[]=>true
 |v::vs=>v.nf&&nfL vs
end
mutual
def E'.nf{I:Mu}{ow XC:Nat->Prop}{w:World}:∀{v:V} {x:Value},v.nf=true->E' I ow w v x->E' I XC w v x
 |.int ..,_,_,h=>by simpa[E']using h
 |.bool _,_,_,h=>by simpa[E']using h
 |.str _,_,_,h=>by simpa[E']using h
 |.aO,_,_,h=>by simpa[E']using h
 |.YD,_,_,h=>by simpa[E']using h
 |.WT,_,_,h=>by simpa[E']using h
 |.Wt,_,_,h=>by simpa[E']using h
 |.agg cs,x,hv,h=>by
  simp only[V.nf]at hv;simp only[E']at h|-;obtain⟨VI,rfl,h1,h2⟩:=h;exact⟨VI,rfl,aq.nf hv h1,h2⟩
 |.VG cs,x,hv,h=>by
  simp only[V.nf]at hv;simp only[E']at h|-;obtain⟨VI,rfl,h1⟩:=h;exact⟨VI,rfl,aq.nf hv h1⟩
 |.iface t v,x,hv,h=>by
  simp only[V.nf]at hv;simp only[E']at h|-;obtain⟨y,rfl,h1⟩:=h;exact⟨y,rfl,E'.nf hv h1⟩
 |.undef,_,hv,_=>by simp[V.nf]at hv
 |.sl sz rows,_,hv,h=>by
  simp only[V.nf,List.isEmpty_iff]at hv;subst hv;simp only[E']at h|-;obtain⟨a,cap,h1,h2,_⟩:=h;exact⟨a,cap,h1,h2,.inl trivial⟩
 |.own ..,_,_,h=>by simpa only[E']using h
 |.ptr ..,_,_,h=>by simpa only[E']using h
 |.rp _,_,hv,_=>by simp[V.nf]at hv
 |.fn ..,_,hv,_=>by simp[V.nf]at hv
 |.bm ..,_,hv,_=>by simp[V.nf]at hv
 |.raw _,_,hv,_=>by simp[V.nf]at hv
 |.obj _,_,hv,_=>by simp[V.nf]at hv
 |.gp _,_,hv,_=>by simp[V.nf]at hv
 |.yl _,_,hv,_=>by simp[V.nf]at hv
 |.mp _,_,hv,_=>by simp[V.nf]at hv
def aq.nf{I:Mu}{ow XC:Nat->Prop}{w:World}:∀{vs:List V} {l:List Value},nfL vs=true->aq I ow w vs l->aq I XC w vs l
 |[],l,_,h=>by simpa[aq]using h
 |u::us,l,hv,h=>by
  simp only[nfL,Ba]at hv;simp only[aq]at h|-;obtain⟨y,ys,rfl,h1,h2⟩:=h;exact⟨y,ys,rfl,E'.nf hv.1 h1,aq.nf hv.2 h2⟩
end
def aT.nf{I:Mu}{ow XC:Nat->Prop}{w:World}:∀{vs:List V} {b off:Nat},nfL vs=true->aT I ow w vs b off->aT I XC w vs b off
 |[],_,_,_,h=>by simp[aT]
 |v::vs,b,off,hv,h=>by
  simp only[nfL,Ba]at hv;simp only[aT]at h|-;obtain⟨⟨x,h1,h2,h3⟩,h4⟩:=h;exact⟨⟨x,h1,E'.nf hv.1 h2,h3⟩,aT.nf hv.2 h4⟩
def I7{v:V}(h:v.nf=true):nfL v.cells=true:=by
 cases v<;>simp_all [V.nf,V.cells,nfL]
def bg.nf{I:Mu}{ow XC:Nat->Prop}{w:World}:∀{rs:List V} {b off sz:Nat},nfL rs=true->bg I ow w rs b off sz->bg I XC w rs b off sz
 |[],_,_,_,_,_=>by simp[bg]
 |r::rs,b,off,sz,hv,h=>by
  simp only[nfL,Ba]at hv;simp only[bg]at h|-;exact⟨h.1,(dM ..).2 (aT.nf (I7 hv.1) ((dM ..).1 h.2.1)),bg.nf hv.2 h.2.2⟩
def mB.nf{I:Mu}{ow XC:Nat->Prop}{w:World}{o:Ob}{p:Pl}(hn:nfL o.rows=true)(hz:o.sz≠0)(h:mB I ow w o p):mB I XC w o p:=by
 cases p with
 |dI=>exact h
 |nil=>exact h
 |WH b sz cap=>
  rcases h with⟨cur,h1,h2,h3,h4,h5,h6,h7⟩|⟨_,h2,_⟩
  .exact .inl ⟨cur,h1,h2,h3,h4,h5,h6,bg.nf hn h7⟩
  .exact absurd h2 hz
def au.Qz{P:Program}{f:FuncId}{args args':List V}{U:ad}{Post0:V->ad->Prop}(hw:WkL U fW args args')(h:au P f args' fW Post0)
 (hn:∀r Z',Post0 r Z'->r.nf=true/\∀id o,Z' id=some o->nfL o.rows=true/\o.sz≠0/\o.rows≠[]):
 au P f args U λr Z2=>∃Z',Post0 r Z'/\aa U Z2/\aa Z' Z2/\∀id o,Z' id=some o->U id=none:=by
 refine⟨h.1,?_⟩;intro I w VI hs hr;have Wm:Sat w (aE I fW) I fW w:=by
  have:=hs.drop (eu U);exact⟨Wa _,rfl,rfl,rfl,λ_ _ _=>rfl,this.fin,this.inj,this.obj,λb hb _=>hb,this.lU⟩
 refine(h.2 I w VI Wm (WkL.all hs hw hr)).mono ?_;rintro e w' ⟨r,Z',Y',val,rfl,hp,hle,VW,XJ⟩;obtain⟨hrn,Xi⟩:=hn r Z' hp;have Wb:∀b,¬aE I fW b:=λb ⟨_,_,_,_,h,_⟩=>by simp[fW]at h
 have Xa:∀b,b<w.heap.size->w'.heap[b]?=w.heap[b]?:=λb hb=>VW.same b hb (Wb b);have W3:∀id o,U id=some o->Y' id=I id:=λid o ho=>hle id (λe=>by
  have:=hs.obj id o ho;rw[e]at this;exact this)
 have Zl:∀b,aE Y' Z' b->w.heap.size<=b:=λb hb=>Nat.le_of_not_lt λhl=>Wb b (VW.fresh b hb hl);have hdis:∀id o,Z' id=some o->U id=none:=λid o ho=>by
  cases hc:U id with
  |none=>rfl
  |some o2=>
   exfalso;have e1:=W3 id o2 hc;have b1:=hs.obj id o2 hc;have b2:=VW.obj id o ho;rw[e1]at b2;cases hp:I id with
   |dI=>rw[hp]at b1;exact b1
   |nil=>rw[hp]at b2;exact(Xi id o ho).2.2 b2
   |WH b sz cap=>
    have h1:=aE.lt hs ⟨id,o2,sz,cap,hc,hp⟩;have h2:=Zl b ⟨id,o,sz,cap,ho,e1.trans hp⟩;omega
 obtain⟨Z2,hZ2⟩:∃Z2:ad,Z2=λid=>(U id).or (Z' id):=⟨_,rfl⟩
 have k1:aa U Z2:=λid o ho=>by rw[hZ2];simp[ho]
 have k2:aa Z' Z2:=λid o ho=>by rw[hZ2];simp[hdis id o ho,ho]
 have hcase:∀id o,Z2 id=some o->U id=some o\/Z' id=some o:=λid o ho=>by
  rw[hZ2]at ho;cases hc:U id with
  |none=>simp only[hc,Option.none_or]at ho;exact .inr ho
  |some o2=>simp only[hc,Option.some_or]at ho;exact .inl ho
 have hown:∀b,aE Y' Z2 b->b<w.heap.size->aE I U b:=λb ⟨id,o,sz,cap,g1,g2⟩ hb=>by
  rcases hcase id o g1 with g|g
  .exact⟨id,o,sz,cap,g,W3 id o g▸g2⟩
  .have:=Zl b ⟨id,o,sz,cap,g,g2⟩;omega
 have hk:di (aE I U) (aE Y' Z2) w w':=λb hb hn=>⟨λho=>hn (hown b ho hb),Xa b hb⟩
 refine⟨r,Z2,Y',val,rfl,⟨Z',hp,k1,k2,hdis⟩,hle,?_,E'.nf hrn XJ⟩;refine⟨VW.size,VW.os,VW.tape,VW.output,λb hb _=>Xa b hb,VW.fin,?_,?_,hown,hs.Za⟩
 .intro id Xn o o' b sz cap XP W2 h1 h2 h3 h4;rcases hcase id o h1 with g1|g1<;>rcases hcase Xn o' h2 with g2|g2
  .exact hs.inj id Xn o o' b sz cap XP W2 g1 g2 (W3 id o g1▸h3) (W3 Xn o' g2▸h4)
  .have a1:=aE.lt hs ⟨id,o,sz,cap,g1,W3 id o g1▸h3⟩;have a2:=Zl b ⟨Xn,o',XP,W2,g2,h4⟩;omega
  .have a1:=aE.lt hs ⟨Xn,o',XP,W2,g2,W3 Xn o' g2▸h4⟩;have a2:=Zl b ⟨id,o,sz,cap,g1,h3⟩;omega
  .exact VW.inj id Xn o o' b sz cap XP W2 g1 g2 h3 h4
 .intro id o ho;rcases hcase id o ho with g|g
  .rw[W3 id o g];refine(hs.obj id o g).mono hle hk VW.size λb sz cap hp=>Xa b ?_;exact aE.lt hs ⟨id,o,sz,cap,g,hp⟩
  .exact mB.nf (Xi id o g).1 (Xi id o g).2.1 (VW.obj id o g)
mutual
def Fz.mono{U J:ad}{N N':Nat->Prop}(hs:aa U J)(hN:∀id,N id->N' id):∀{v u:V},Fz U N v u->Fz J N' v u
 |_,_,.same v h=>.same v h
 |_,_,.own id off len ob rows h1 h2 h3 h4=>.own id off len ob rows (hs _ _ h1) (hN _ h2) h3 (XK.mono hs hN h4)
 |_,_,.nil sz=>.nil sz
 |_,_,.own0 id off sz=>.own0 id off sz
 |_,_,.sl sz rows rows' h=>.sl sz rows rows' (XK.mono hs hN h)
 |_,_,.agg cs ds h=>.agg cs ds (XK.mono hs hN h)
 |_,_,.VG cs ds h=>.VG cs ds (XK.mono hs hN h)
 |_,_,.ptr id i ob r u h1 h2 h3 h4=>.ptr id i ob r u (hs _ _ h1) (hN _ h2) h3 (Fz.mono hs hN h4)
 |_,_,.fn f cs ds h=>.fn f cs ds (XK.mono hs hN h)
 |_,_,.bm f cs ds h=>.bm f cs ds (XK.mono hs hN h)
 |_,_,.iface t v u h=>.iface t v u (Fz.mono hs hN h)
def XK.mono{U J:ad}{N N':Nat->Prop}(hs:aa U J)(hN:∀id,N id->N' id):∀{vs us:List V},XK U N vs us->XK J N' vs us
 |_,_,.nil=>.nil
 |_,_,.cons v u vs us h h'=>.cons v u vs us (Fz.mono hs hN h) (XK.mono hs hN h')
end
def px(J:ad):ad:=λid=>(J id).bind λo=>if nfL o.rows=true/\o.sz≠0/\o.rows≠[]then some o else none
def zh{J:ad}{id:Nat}{o:Ob}(h:px J id=some o):J id=some o/\nfL o.rows=true/\o.sz≠0/\o.rows≠[]:=by
 unfold px at h;cases hc:J id with
 |none=>rw[hc]at h;cases h
 |some o'=>
  simp only[hc,Option.bind_some]at h;split at h
  .rename_i hq;cases h;exact⟨rfl,hq⟩
  .cases h
def D8{J:ad}{id:Nat}{o:Ob}(h:J id=some o)(h1:nfL o.rows=true)(h2:o.sz≠0)(h3:o.rows≠[]):px J id=some o:=by
 unfold px;rw[h,Option.bind_some,av ⟨h1,h2,h3⟩]
def au.Rf{P:Program}{f:FuncId}{args args':List V}{U:ad}{u:V}(hw:WkL U fW args args')
 (h:au P f args' fW λr Z'=>r.nf=true/\Fz (px Z') (λid=>px Z' id≠none) r u):au P f args U λr Z'=>r=u/\Z'=U:=by
 have h2:au P f args' fW λr Z'=>r.nf=true/\Fz Z' (λid=>Z' id≠none) r u/\∀id o,Z' id=some o->nfL o.rows=true/\o.sz≠0/\o.rows≠[]:=
  h.Da λr Z' ⟨g1,g2⟩=>⟨r,px Z',λ_ _ h=>(zh h).1,Wk.refl (λ_ _ h=>(zh h).1) r,g1,g2,λ_ _ h=>(zh h).2⟩
 refine(au.Qz hw h2 λr Z' ⟨g1,_,g3⟩=>⟨g1,g3⟩).Da ?_;rintro r Z2 ⟨Z',⟨_,g2,_⟩,k1,k2,k3⟩;refine⟨u,U,k1,(g2.mono (N':=λid=>U id=none) k2 λid hi=>?_).wk k1 λ_ h=>h,rfl,rfl⟩;cases hc:Z' id with
 |none=>exact absurd hc hi
 |some o=>exact k3 id o hc
open Go.Proofs
def ai.Ew{P:Program}{n:Nat}{Q:St->Prop}{s:Nat->V}{U K:ad}{todo:List It}(l ds:List Nat){e sz:Nat}{v:V}{rows:List V}(hK:aa K U)(ho:ay K U e sz v rows)
 (hs:∀d∈ds,s d=v)(hr:ai P n todo ⟨λi=>if ds.contains i then .sl sz rows else lV l s i,K⟩ Q):ai P n todo ⟨s,U⟩ Q:=by
 refine ai.weaken ⟨hK,λi=>?_⟩ hr;show Wk U K (s i) _;by_cases hi:ds.contains i=true
 .simp only[av hi];rw[hs i (by simpa using hi)];exact ho.wk (aa.refl K) hK
 .simp only[aD hi];unfold lV;split
  .exact Wk.refl hK _
  .exact Wk.undef _
def ofR(l:List Nd)(w:Int):List Int:=(dv l w).atoms.map (·.node)
def gY(l:List Nd)(w h:Int):Bk:=⟨l,w,h,(dv l w).atoms,(dv l w).u',(dv l w).VA,p7 l (ofR l w)⟩
def mQ(n:Int):Prop:=1<=n/\n<=1099511627776
instance (n:Int):Decidable (mQ n):=by unfold mQ;infer_instance
def gz(l:List Nd)(w h:Int):Int:=if¬(mQ w/\mQ h)then 3 else if eS l≠0 then eS l else if(iR l).1.VF>mulR (dW l h) 32768 then 2 else 0
def vU(l:List Nd)(w h:Int):V:=if gz l w h=0 then .rp (bu (gY l w h))else .YD
def dz.IE{K U:ad}{id:Nat}{o:Ob}(hK:K id≠none):∀{l:List Nd} {rows:List V},dz K U l rows->dz K (C' U id o) l rows
 |[],[],_=>trivial
 |_::_,_::_,⟨⟨w,h1,h2⟩,h⟩=>⟨⟨w,h1,h2.ab hK⟩,dz.IE hK h⟩
 |[],_::_,h=>h.elim
 |_::_,[],h=>h.elim
def ln.IE{K U:ad}{id:Nat}{o:Ob}(hK:K id≠none){v:V}{l:List Nd}(h:ln K U v l):ln K (C' U id o) v l:=by
 obtain⟨rows,ho,hr⟩:=h;exact⟨rows,ho.ab hK,hr.IE hK⟩
def nK{α:Type}{f:α->V}(h:∀a,(f a).gx=true):∀l:List α,jx (l.map f)=true
 |[]=>rfl
 |a::l=>by simp only[fF,jx,h a,nK h l,Bool.and_self]
def UI(l:List Int)(U:ad):cj U false 1 (.rp (bb l))=some (bb l):=rfl
def pd(vn:V)(w h:Int)(va vf:V)(ht:Int)(vb:V):Ob:=⟨85,7,[.agg [vn,vI w,vI h,va,vf,vI ht,vb]]⟩
def u9{α:Type}{f:α->V}(h:∀a,(f a).nf=true):∀l:List α,nfL (l.map f)=true
 |[]=>rfl
 |a::l=>by simp only[fF,nfL,h a,u9 h l,Bool.and_self]
def NN(J:ad):Nat->Prop:=λid=>px J id≠none
def ay.fzN{K J:ad}{e sz:Nat}{v:V}{rows rows':List V}(h:ay K J e sz v rows)(hz:sz≠0)(hn:nfL rows=true)(hf:XK (px J) (NN J) rows rows'):Fz (px J) (NN J) v (.sl sz rows')/\v.nf=true:=by
 rcases h with⟨rfl,rfl⟩|⟨id,rfl,ho,_⟩
 .cases hf;exact⟨.nil sz,rfl⟩
 .cases rows with
  |nil=>cases hf;exact⟨.own0 ..,rfl⟩
  |cons r rs=>
   have hc:=D8 ho hn hz (by simp);exact⟨.own id 0 _ ⟨e,sz,r::rs⟩ rows' hc (by rw[NN,hc];simp) (by simp) (by rw[CB,eF];exact hf),rfl⟩
def dz.fzN{K J:ad}:∀{l:List Nd} {rows:List V},dz K J l rows->nfL rows=true/\XK (px J) (NN J) rows (l.map gm)
 |[],[],_=>⟨rfl,.nil⟩
 |x::_,_::_,⟨⟨w,h1,h2⟩,h⟩=>by
  obtain⟨g1,g2⟩:=h2.fzN (by decide) (u9 (λ_=>rfl) _) (XK.same _ (yi _));obtain⟨g3,g4⟩:=dz.fzN h;rw[h1];exact⟨by simp[ndW,nfL,V.nf,g2,g3],.cons _ _ _ _ (Md g1) g4⟩
 |[],_::_,h=>h.elim
 |_::_,[],h=>h.elim
def Hl{K K1 K2 J:ad}{ib:Nat}{b:Bk}{vn va vf vb:V}(hr:J ib=some (pd vn b.w b.h va vf b.VA vb))(ho:ln K J vn b.nodes)(ha:ay K1 J 90 8 va (b.atoms.map bC))(hf:ay K1 J 100 7 vf (b.VH.map aG))(hb:ay K2 J 102 3 vb (b.V4.map bY)):
 ak (.VG [.ptr ib 0 0,vI 0]) J λr Z'=>r.nf=true/\Fz (px Z') (NN Z') r (.VG [.rp (bu b),vI 0]):=by
 obtain⟨rows,ho,hrw⟩:=ho;obtain⟨n1,n2⟩:=ho.fzN (by decide) hrw.fzN.1 hrw.fzN.2;obtain⟨a1,a2⟩:=ha.fzN (by decide) (u9 (λ_=>rfl) _) (XK.same _ (nK (λ_=>rfl) _));obtain⟨f1,f2⟩:=hf.fzN (by decide) (u9 (λ_=>rfl) _) (XK.same _ (nK (λ_=>rfl) _));obtain⟨b1,b2⟩:=hb.fzN (by decide) (u9 (λ_=>rfl) _) (XK.same _ (nK (λ_=>rfl) _));have hc:=D8 hr (by simp[pd,nfL,V.nf,n2,a2,f2,b2]) (by simp[pd]) (by simp[pd]);have i1:∀n:Int,Fz (px J) (NN J) (vI n) (vI n):=λ_=>.same _ rfl;exact⟨_,J,aa.refl J,Wk.refl (aa.refl J) _,rfl,.VG _ _ (.cons _ _ _ _ (.ptr ib 0 _ _ _ hc (by rw[NN,hc];simp) rfl (.agg _ _ (.cons _ _ _ _ n1 (.cons _ _ _ _ (i1 _) (.cons _ _ _ _ (i1 _) (.cons _ _ _ _ a1 (.cons _ _ _ _ f1 (.cons _ _ _ _ (i1 _) (.cons _ _ _ _ b1 .nil)))))))))
  (XK.same [vI 0] rfl))⟩
def uo{v:V}{J:ad}(h:v.nf=true)(h1:v.gx=true):ak v J λr Z'=>r.nf=true/\Fz (px Z') (NN Z') r v:=⟨_,J,aa.refl J,Wk.refl (aa.refl J) _,h,.same _ h1⟩
def OY(U:ad)(l:List Nd)(hl:ep l)(w h:Int):au prog 8 [aF l,vI w,vI h] U λr Z'=>r.nf=true/\Fz (px Z') (NN Z') r (.VG [vU l w h,vI (gz l w h)]):=by
 refine e8.q ?_;have hs:=aa.refl U;have bad:∀n:Int,gz l w h=n->n≠0->(vU l w h=.YD/\gz l w h=n):=λn hn h0=>⟨by rw[vU,aD (by rw[hn];exact h0)],hn⟩
 refine ai.mix 16 ?_;by_cases hw:mQ w
 .have mw:=rP w;rw[show decide (1<=w/\w<=1099511627776)=true from WJ hw]at mw;apply sR;simp only[go_sem,seval,c8];refine pS rfl (mw _) ?_;simp only[go_sem,seval];by_cases hh:mQ h
  .have mh:=rP h;rw[show decide (1<=h/\h<=1099511627776)=true from WJ hh]at mh;refine pS rfl (mh _) ?_;simp only[go_sem,seval];refine pR rfl (A6 l hl _) ?_;by_cases hc:eS l=0
   .have q:(eS l≠0)=False:=H' (λh=>h hc);have hck:=A6 l hl;rw[hc]at hck q|-;apply sR;simp only[go_sem,seval,q];refine pS rfl (BW l hl _) ?_;simp only[go_sem,seval,Sm.cells];refine ar hs λi9 Z9 s9 a9 f9 z9 hs=>?_;simp only[go_sem,seval,a9];generalize Wz:C' _ i9 _=Y9;replace a9:=WC Wz;replace hs:=WD Wz hs z9;refine pJ rfl (Ji l hl h) ?_;apply sG;simp only[go_sem,seval];refine pJ rfl (Ru (dW l h) 32768) ?_;have hE:gz l w h=if(iR l).1.VF>mulR (dW l h) 32768 then 2 else 0:=by rw[gz,aD (λh=>h ⟨hw,hh⟩),aD (λh=>h hc)]
    by_cases hlim:(iR l).1.VF>mulR (dW l h) 32768
    .have q1:((iR l).1.VF>mulR (dW l h) 32768)=True:=L' hlim;obtain⟨e1,e2⟩:=bad 2 (by rw[hE,av hlim]) (by decide);rw[e1,e2];apply sG;simp only[go_sem,seval,q1];exact uo rfl rfl
    have q1:((iR l).1.VF>mulR (dW l h) 32768)=False:=H' hlim;have e2:gz l w h=0:=by rw[hE,aD hlim]
    have e1:vU l w h=.rp (bu (gY l w h)):=by rw[vU,av e2]
    rw[e1,e2];obtain⟨hisb,hn2,hwo,hcs⟩:=p9 hc;have hG:=ze hisb hn2 hw.1 hw.2;have YG:=λs0=>ML s0 l hl hisb hn2 (λx hx=>by have:=hwo x hx;omega) (by omega) hck w hw.1 hw.2;apply sG;simp only[go_sem,seval,q1];refine Xv rfl (LB l hl.1 _) ?_;rintro vn Z10 ⟨hs10,ho10⟩;replace ho10:=ho10.o9 hs;replace hs:=hs.trans hs10;obtain⟨cn,sn⟩:=ho10.vc;have Xe:=ho10.len;rw[cO]at Xe;apply sR;simp only[go_sem,seval,cn,sn];refine ar hs λi46 Z46 s46 a46 f46 z46 hs=>?_;have ho46:ay (bE U i46) Z46 48 20 vn (l.map gm):=by
     rcases ho10 with h|⟨id,h3,h4,h5⟩
     .exact .inl h
     .exact .inr ⟨id,h3,s46 _ _ h4,aQ.2 ⟨λe=>(by rw[e,f46]at h4;cases h4),h5⟩⟩
    have k46:bE U i46 i46≠none:=λh=>(aQ.1 h).1 rfl;simp only[go_sem,seval,a46,Xe];refine ai.gy (λst=>aa U st.U/\ln (bE U i46) st.U vn l/\st.U i46=some (pd vn w h .aO .aO 0 .aO)/\st.s 0=aF l/\st.s 1=vI w/\st.s 11=.ptr i46 0 0)
     (λm st=>∃(i:Nat) (rows:List V),i<=l.length/\m=l.length-i/\aa U st.U/\ay (bE U i46) st.U 48 20 vn rows/\rows.length=l.length/\dz (bE U i46) st.U (l.take i) (rows.take i)/\rows.drop i=(l.drop i).map gm/\st.U i46=some (pd vn w h .aO .aO 0 .aO)/\
       st.s 0=aF l/\st.s 1=vI w/\st.s 11=.ptr i46 0 0/\st.s 51=vI l.length/\st.s 52=vI i) l.length ?_ ?_ ?_
    .exact⟨0,l.map gm,by omega,rfl,hs,ho46,by simp,trivial,by simp,a46,rfl,rfl,rfl,rfl,rfl⟩
    .clear hs ho46 a46 ho10 a9;rintro m ⟨S,J⟩ ⟨i,rows,hi,rfl,hs,ho,hn,hr,hd,hb,t0,t1,t11,t51,t52⟩;simp only at hs ho hr hb t0 t1 t11 t51 t52;refine ai.mix 60 ?_;by_cases B':i<l.length
     .have q:=qT B';obtain⟨id,rfl,M',hkid⟩:∃id,vn=.own id 0 rows.length/\J id=some ⟨48,20,rows⟩/\bE U i46 id=none:=by
       rcases ho with⟨_,h0⟩|h
       .rw[h0]at hn;simp at hn;omega
       .exact h
      have hdc:(l.drop i)=l[i]::l.drop (i+1):=ju B';have hw':=hwo _ (Ws B');have V9:l.take (i+1)=l.take i++[l[i]]:=XH B';have WQ:=λU=>im l B' U;generalize hxe:l[i]=x at*;have hrow':rows[i]?=some (.agg x.cells):=by
       have:(rows.drop i)[0]?=some (gm x):=by rw[hd,hdc];rfl
       rw[N2]at this;exact this
      have V2:id≠i46:=(aQ.1 hkid).1;have hio:∀X':ad,X' id=some ⟨48,20,rows⟩->bO X' 20 (.own id 0 rows.length) (.int .i64 i)=some (.ptr id i 0):=λX' h=>jX h (by omega);have r1:=rI i;rw[pd]at hb;apply sR;simp only[go_sem,seval,t51,t52,q,cp];refine ai.rY (by kernel_rfl) [0,1,2,3,4,5,6,7,8,9,10,11,12,13] [[],[0],[0,1],[0,1,2],[],[],[],[5,6],[5,6,7],[5,6,7,8],[5,6,7,8,9],[0,1,2,3,4,5,6,7,8,9,10],[0,1,2,3,4,5,6,7,8,9,10,11],[0,1,2,3,4,5,6,7,8,9,10,11,12]] [0,2,4,6,8,10,12,14,16,18,20,7,22,24,26] (by kernel_rfl) (by kernel_rfl) ?_;refine cd (n:=0) [20,7,22,24,26] [0,2,4,6,8,10,12,14,16,18] [_,_,_,_,_,_,_,_,_,_] rfl rfl ?_;simp only[go_sem,seval,t0,t11,hb,WQ,Nd.cells,UI];refine RE.call rfl rfl rfl rfl rfl (I0 x.words (by omega) _) ?_;rintro wv Z2 ⟨Yr,Zm⟩;simp only at Yr Zm;have hid2:=Yr _ _ M';have V1:=Yr _ _ hb;obtain⟨cw,sw⟩:=Zm.vc;have hio2:=hio _ hid2;refine cT rfl (by simp only[go_sem,seval,V1]) ?_;refine cd (n:=0) [] [22,24,26] [_,_,_] rfl rfl ?_;simp only[go_sem,seval,hio2,hid2,hrow',Nd.cells,cw,sw];have hsf:aa U (C' Z2 id ⟨48,20,rows.set i (ndW x wv)⟩):=(hs.trans Yr).az (aQ.1 hkid).2;have Xf:∀j,j≠id->∀o,Z2 j=some o->C' Z2 id ⟨48,20,rows.set i (ndW x wv)⟩ j=some o:=λj hj o hjo=>by rw[ab hj];exact hjo
      have h1:=(hr.mono Yr).kept hid2 Xf;have h2:ay (bE U i46) (C' Z2 id ⟨48,20,rows.set i (ndW x wv)⟩) 3 1 wv (x.words.map vI):=by
       rcases Zm with h|⟨iw,e1,e2,e3⟩
       .exact .inl h
       .have n1:iw≠id:=λe=>by rw[e,hid2]at e2;simp at e2
        refine .inr ⟨iw,e1,by rw[ab n1];exact e2,aQ.2 ⟨λe=>(by rw[e,hb]at e3;cases e3),hs.none e3⟩⟩
      have h3:(rows.set i (ndW x wv)).take (i+1)=rows.take i++[ndW x wv]:=by
       rw[XH (by simp;omega),List.take_set_of_le (by omega)];simp
      apply sR;simp only[go_sem,seval,t0,t1,t11,t51,t52,r1];refine⟨_,?_,i+1,rows.set i (ndW x wv),by omega,rfl,hsf,.inr ⟨id,by rw[List.length_set],ag,hkid⟩,by simp[hn],?_,?_,?_,rfl⟩
      .omega
      .rw[h3,V9];exact h1.app ⟨⟨wv,rfl,h2⟩,trivial⟩
      .rw[List.drop_set_of_lt (by omega)];have:rows.drop (i+1)=(rows.drop i).drop 1:=by simp
       rw[this,hd,hdc];rfl
      .exact(ab V2.symm).trans V1
     .have q:=qF B';have Yh:i=l.length:=by omega
      subst Yh;rw[eF,nq (by omega)]at hr;apply sR;simp only[go_sem,seval,t0,t1,t11,t51,t52,q];exact⟨hs,⟨rows,ho,hr⟩,hb⟩
    .clear hs ho46 a46 ho10 a9;rintro⟨S,J⟩ ⟨hs,how,hb,t0,t1,t11⟩;simp only at hs how hb t0 t1 t11;have YX:=hG.len;have hbr:=λs0=>MN s0 l hl hisb (ofR l w) (by rw[ofR,cO];omega) (λx hx=>by
      obtain⟨a,ha,rfl⟩:=gM.1 hx;exact hG.nod a ha) hG.may
     have hofe:ofR l w=(dv l w).atoms.map (·.node):=rfl;rw[pd]at hb;refine mS 16 ?_;simp only[go_sem,seval,t0,t1,t11];refine Xv rfl (YG _) ?_;rintro r Y1 ⟨s1,va,vf,rfl,g1,g2⟩;obtain⟨ca,sa⟩:=g1.vc;obtain⟨cf,sf⟩:=g2.vc;have XD:=g1.len;rw[cO]at XD;have kb:J i46≠none:=by rw[hb];simp
     replace hb:=s1 _ _ hb;replace how:=how.mono s1;replace hs:=hs.trans s1;apply sR;simp only[go_sem,seval,t11,hb,XD];generalize hq:C' Y1 i46 _=Y0;have hb0:Y0 i46=some (pd vn w h va vf (dv l w).VA .aO):=by rw[<-hq];exact ag
     have Wm:aa U Y0:=hq▸hs.az z46;have how0:ln (bE U i46) Y0 vn l:=hq▸how.IE k46;replace g1:ay J Y0 _ _ _ _:=hq▸g1.ab kb;replace g2:ay J Y0 _ _ _ _:=hq▸g2.ab kb;clear hq hs how hb;refine ai.gy (λst=>aa Y0 st.U/\ay Y0 st.U 3 1 (st.s 13) ((ofR l w).map vI)/\st.s 0=aF l/\st.s 11=.ptr i46 0 0)
      (λm st=>∃j:Nat,j<=(dv l w).atoms.length/\m=(dv l w).atoms.length-j/\aa Y0 st.U/\ay Y0 st.U 3 1 (st.s 13) ((((dv l w).atoms.take j).map (·.node)).map vI)/\st.s 0=aF l/\st.s 11=.ptr i46 0 0/\st.s 82=va/\st.s 83=vI (dv l w).atoms.length/\st.s 84=vI j) (dv l w).atoms.length ?_ ?_ ?_
     .exact⟨0,by omega,rfl,aa.refl _,ay.start,t0,t11,rfl,rfl,rfl⟩
     .clear t0 t1 t11;rintro m ⟨S,J⟩ ⟨j,hj,rfl,hsj,ho,t0,t11,t82,t83,t84⟩;simp only at hsj ho t0 t11 t82 t83 t84;generalize hv13:S 13=v13 at ho;refine ai.mix 85 ?_;by_cases B':j<(dv l w).atoms.length
      .have q:((j:Int)<(dv l w).atoms.length)=True:=L';obtain⟨ia,rfl,hia⟩:∃ia,va=.own ia 0 ((dv l w).atoms.map bC).length/\J ia=some ⟨90,8,(dv l w).atoms.map bC⟩:=by
        rcases g1 with⟨_,h0⟩|⟨ia,e1,e2,_⟩
        .rw[List.map_eq_nil_iff]at h0;rw[h0]at B';simp at B'
        .exact⟨ia,e1,hsj _ _ e2⟩
       have VC:=jX hia (i:=j) (by rw[cO];exact B');have XE:((dv l w).atoms.map bC)[j]?=some (bC (dv l w).atoms[j]):=by rw[tW,Zq6 B'];rfl
       have V8:(((dv l w).atoms.take (j+1)).map (·.node)).map vI=(((dv l w).atoms.take j).map (·.node)).map vI++[vI (dv l w).atoms[j].node]:=by
        rw[XH B',dG,dG];rfl
       have Xc:((((dv l w).atoms.take j).map (·.node)).map vI).length=j:=by rw[cO,cO,jN];omega
       have XG:bC (dv l w).atoms[j]=.agg [vI (dv l w).atoms[j].kind,vI (dv l w).atoms[j].node,vI (dv l w).atoms[j].fr,vI (dv l w).atoms[j].to,vI (dv l w).atoms[j].x,vI (dv l w).atoms[j].y,vI (dv l w).atoms[j].w,vI (dv l w).atoms[j].h]:=rfl;generalize (((dv l w).atoms.take j).map (·.node)).map vI=rows at*;generalize (dv l w).atoms[j]=x at*;have r1:=rI j;have hs:=aa.refl J;apply sR;simp only[go_sem,seval,t82,t83,t84,q,VC,hia,XE,XG];refine ar hs λi15 Z15 Yu WN f15 z15 hs=>?_;simp only[go_sem,seval,WN,hv13];generalize XM:C' _ i15 _=Y15;replace WN:=WC XM;replace hs:=WD XM hs z15;refine aA λi91 Z91 s91 a91 f91=>?_;obtain⟨idA,Wi,VL⟩:=ho.dst (hs.trans s91);have V1:(rows.length+1)*9<=140737488355328:=by omega
       simp only[go_sem,seval,Wi,bJ a91,V1];refine bt λi92 Z92 s92 a92 f92=>?_;have k92:=(VL Y0 (aa.refl _) Z91 (hsj.trans (hs.trans s91))).trans s92;have n92:Y0 i92=none:=(hsj.trans (hs.trans s91)).none f92;simp only[go_sem,seval,t0,t11,t82,t83,t84,r1];refine⟨_,?_,j+1,by omega,rfl,k92,?_,rfl⟩
       .omega
       .rw[V8];exact ay.new (by simp) a92 n92
      .have q:((j:Int)<(dv l w).atoms.length)=False:=H';have XS:j=(dv l w).atoms.length:=by omega
       rw[XS,eF,<-hofe]at ho;apply sR;simp only[go_sem,seval,t0,t11,t83,t84,hv13,q];exact⟨hsj,ho⟩
     .clear t0 t1 t11;rintro⟨S,J⟩ ⟨hsj,ho,t0,t11⟩;simp only at hsj ho t0 t11;refine ai.Ew [0,11] [13] hsj ho (by simp) ?_;generalize hS:(λi=>if[13].contains i then V.sl 1 ((ofR l w).map vI)else lV [0,11] S i)=S';have u0:S' 0=aF l:=by rw[<-hS];exact t0
      have u11:S' 11=.ptr i46 0 0:=by rw[<-hS];exact t11
      have u13:S' 13=bb (ofR l w):=by rw[<-hS];rfl
      clear hS t0 t11;refine ai.mix 16 ?_;rw[pd]at hb0;apply sR;simp only[go_sem,seval,u0,u11,u13];refine Xv rfl (hbr _) ?_;rintro r Y2 ⟨s2,vb,rfl,gb⟩;obtain⟨cb,sb⟩:=gb.vc;have kb0:Y0 i46≠none:=by rw[hb0];simp
      replace hb0:=s2 _ _ hb0;apply sR;simp only[go_sem,seval,u11,hb0,cb,sb];exact Hl (b:=gY l w h) ag ((how0.mono s2).IE k46) ((g1.mono s2).ab kb) ((g2.mono s2).ab kb) (gb.ab kb0)
   .have q:(eS l≠0)=True:=L' hc;obtain⟨e1,e2⟩:=bad (eS l) (by rw[gz,aD (λh=>h ⟨hw,hh⟩),av hc]) hc;rw[e1,e2];apply sR;simp only[go_sem,seval,q];exact uo rfl rfl
  .have mh:=rP h;rw[show decide (1<=h/\h<=1099511627776)=false from WW hh]at mh;obtain⟨e1,e2⟩:=bad 3 (by rw[gz,av (λh=>hh h.2)]) (by decide);rw[e1,e2];refine pS rfl (mh _) ?_;simp only[go_sem,seval];exact uo rfl rfl
 .have mw:=rP w;rw[show decide (1<=w/\w<=1099511627776)=false from WW hw]at mw;obtain⟨e1,e2⟩:=bad 3 (by rw[gz,av (λh=>hw h.1)]) (by decide);rw[e1,e2];apply sR;simp only[go_sem,seval,c8];refine pS rfl (mw _) ?_;simp only[go_sem,seval];exact uo rfl rfl
def LY(l:List Nd)(hl:ep l)(w h:Int){U:ad}{args:List V}(hw:WkL U fW args [aF l,vI w,vI h]):au prog 8 args U λr Z'=>r=.VG [vU l w h,vI (gz l w h)]/\Z'=U:=
 au.Rf hw (OY fW l hl w h)
def Qs(l:List Nd)(hl:ep l)(w h:Int):aL prog 8 [aF l,vI w,vI h] (.VG [vU l w h,vI (gz l w h)]):=λU=>by
 refine LY l hl w h ?_;simp only[WkL];exact⟨Wk.refl (eu U) _,Wk.refl (eu U) _,Wk.refl (eu U) _,trivial⟩
def rU{l:List Nd}{w h:Int}(he:gz l w h=0):mQ w/\mQ h/\eS l=0:=by
 unfold gz at he;split at he
 .cases he
 .rename_i h1;split at he
  .rename_i h2;exact absurd he h2
  .rename_i h2;exact⟨Decidable.byContradiction λh=>h1 (λg=>h g.1),Decidable.byContradiction λh=>h1 (λg=>h g.2),Decidable.byContradiction h2⟩
def FK{l:List Nd}(hl:ep l){w h:Int}(he:gz l w h=0):BkFull (gY l w h)/\∀f∈(gY l w h).VH,0<=f.h:=by
 obtain⟨hw,hh,hc⟩:=rU he;obtain⟨hisb,hn,hwo,hcs⟩:=p9 hc;have hG:=ze hisb hn hw.1 hw.2;have hl1:=hG.len;have hl2:=hG.ZH;have hb:(1099511627776:Int)*((Wy l 0 l.length:Nat):Int)<=10995116277760000:=by omega
 have ht:∀a∈(dv l w).atoms,-18014398509481984<=a.y/\a.y<=18014398509481984/\0<=a.h/\a.h<=18014398509481984:=λa ha=>by
  have:=hG.V3 a ha;have h0:=this.y0;have h1:=this.y1;have h2:=this.h0;have h3:=this.h1;omega
 refine⟨⟨⟨⟨?_,λa ha=>?_⟩,ht,?_,?_,λf hf=>(hG.flo f hf).ok (by omega),?_⟩,hl,hisb,hh.1,hh.2,hG.nod⟩,λf hf=>(hG.flo f hf).h0⟩
 .show(dv l w).atoms.length<=_;omega
 .have:=ht a ha;omega
 .show(dv l w).atoms.length<=_;omega
 .show(dv l w).u'.length<=_;omega
 .show(p7 l (ofR l w)).length=(dv l w).atoms.length+1;unfold p7 ofR;simp
def xQ{body:Int}(f:O')(r:List O'):(cC body (f::r) 0).2.1.length<(f::r).length:=by
 have key:∀(l:List O') (sh:Int),(cC body l sh).2.1.length<=l.length:=by
  intro l
  induction l with
  |nil=>intro sh;simp[cC]
  |cons g l ih=>
   intro sh;rw[cC];split
   .simp
   .have:=ih (sh+min g.h body);simp only[XU];omega
 rw[cC,aD (by omega)];have:=key r (0+min f.h body);simp only[XU];omega
def ni{b:Bk}{s:W7}{to kept shift body:Int}:(dS b.atoms b.VH s to kept shift body).2.length<=b.VH.length:=by
 unfold dS;split
 .have h1:=n7 (uk b.atoms s kept) shift body (cW b.VH s to);have h2:(cW b.VH s to).length<=b.VH.length:=kG _ _ _;omega
 .simp
inductive kO(b:Bk)(x:Wx):XY->Prop
 |whole (c:Nat) (fr:Bool) (p:List O') (h1:x.s.atom<c) (h2:c<=b.atoms.length) (h3:p.length<=b.VH.length):kO b x ⟨⟨c,0,fr⟩,p⟩
 |more (d:Int) (p:List O') (h1:x.s.done<d) (h2:d<(Zz b.atoms x.s.atom).h) (h3:p.length<=b.VH.length):kO b x ⟨⟨x.s.atom,d,false⟩,p⟩
def xP{b:Bk}(hb:BkOk b){x:Wx}(hm:de b.atoms x.s)(Xd:∀a∈b.atoms,1<=a.h)(hbody:1<=x.body):kO b x (jA b x):=by
 have ZL:fq b x<=b.atoms.length:=n9;have WX:=hb.brk;unfold jA;split
 .rename_i VE;obtain⟨c,h1,h2,h3⟩:=re VE (by omega);rw[show zn b x=c from h1,fp];exact .whole c _ _ h2 (by omega) ni
 .unfold xJ fG;have hso:uj b.atoms x.s x.body:=⟨hm,hbody⟩
  rw[av (show uj b.atoms ({ x with kind:=1 }:Wx).s ({ x with kind:=1 }:Wx).body from hso)];obtain⟨⟨h0,h1⟩,h2,h3⟩:=hm;obtain⟨k,hk⟩:∃k:Nat,x.s.atom=k:=⟨x.s.atom.toNat,by omega⟩
  have YP:k<b.atoms.length:=by omega
  have hp:=Xd _ (Ws YP);have ha:Zz b.atoms x.s.atom=b.atoms[k]:=by rw[hk,bp YP]
  rw[ha]at h3;have hph:(iM b.atoms x.s.atom).h=b.atoms[k].h:=by rw[iM,ha]
  unfold jY;have e1:(fo b.atoms x.s x.body).fr=x.s.done:=rfl;have e2:(fo b.atoms x.s x.body).atom=x.s.atom:=rfl;have e3:(fo b.atoms x.s x.body).h=min (b.atoms[k].h-x.s.done) x.body:=by rw[<-hph];rfl
  split
  .rename_i B';have Wo:x.s.done+min (b.atoms[k].h-x.s.done) x.body<(Zz b.atoms x.s.atom).h:=by rw[<-e3];exact B'
   have:=kO.more (b:=b) (x:=x) (x.s.done+min (b.atoms[k].h-x.s.done) x.body) (dS b.atoms b.VH x.s (x.s.atom+1) 0 0 x.body).2 (by omega) Wo ni;rw[<-e3]at this;exact this
  .have:=kO.whole (b:=b) (x:=x) (k+1) false (dS b.atoms b.VH x.s (x.s.atom+1) 0 0 x.body).2 (by omega) (by omega) ni;have e4:((k+1:Nat):Int)=x.s.atom+1:=by omega
   rw[e4]at this;exact this
structure SkI(s:WS):Prop where
 pw:s.atoms.Pairwise λa b=>a.y+a.h<=b.y
 q:∀a∈s.atoms,a.y+a.h<=s.VD.y
def SkI.put{s:WS}(h:SkI s){a:WE}(h1:s.VD.y<=a.y)(h2:0<=a.h):SkI (s.put a):=by
 refine⟨?_,λx hx=>?_⟩
 .simp only[WS.put];rw[List.pairwise_append];refine⟨h.pw,by simp,λx hx y hy=>?_⟩;simp only[jO]at hy;subst hy;have:=h.q x hx;omega
 .simp only[WS.put]at hx|-;rcases ec.1 hx with hx|hx
  .have:=h.q x hx;omega
  .simp only[jO]at hx;subst hx;omega
def SkI.VD{s:WS}(h:SkI s){p:Pn}(hp:s.VD.y<=p.y):SkI { s with VD:=p }:=⟨h.pw,λa ha=>by have:=h.q a ha;simp only;omega⟩
def DQ{p:Pn}{m d:Int}(h0:0<=p.m)(hd:0<=d):p.y<=(dQ p m d).y:=by
 simp only[dQ,ld];(repeat' split)<;>omega
def JF{p:Pn}{m d:Int}(h0:0<=p.m)(hd:0<=d):p.y<=(kz p m d).y:=by
 simp only[kz,ld];(repeat' split)<;>(try simp only)<;>omega
def SkI.enter{s:WS}(h:SkI s)(h0:0<=s.VD.m){t:Xh}(ht:SOk t):SkI (s.enter t):=by
 have hp:=ht.VJ.1;unfold WS.enter;simp only;refine h.VD ?_;split
 .have hc:s.VD.y<=(eV s.VD (cH (fX t.clear) s.u').1).y/\0<=(eV s.VD (cH (fX t.clear) s.u').1).m:=by
   unfold eV;split<;>(try simp only)<;>omega
  exact Int.le_trans hc.1 (DQ hc.2 hp)
 .exact DQ h0 hp
def SkI.leave{s:WS}(h:SkI s)(h0:0<=s.VD.m){t:Xh}(ht:SOk t):SkI (s.leave t):=h.VD (JF h0 ht.T'.1)
def SkI.text{rs:List Rm}{s:WS}{C:Nat}(h:gd s C)(hk:SkI s){n:Nd}(hn:NOk n)(a:Nat):SkI (s.text rs a n):=by
 obtain⟨⟨hf,h1,h2,h3,h4⟩,h5,h6⟩:=h;have hl:=hn.line;have key:∀(k i:Nat) (y:Int) (t:WS),t.VD.y<=y->SkI t->SkI ((da s.u' n.words n.space n.line (fE rs a) k i y).foldl (λs x=>s.put (fZ a n.line x)) t):=by
  intro k
  induction k with
  |zero=>intro i y t _ ht;exact ht
  |succ k ih=>
   intro i y t hy ht;rw[da];split
   .rw[gC];have hyr:y<=(mi s.u' n.words n.space n.line i y (fE rs a)).y:=(fe (λf hf'=>(hf f hf').yB)).1;refine ih _ _ _ ?_ (ht.put (by simp only[fZ];omega) hl.1);simp only[WS.put,fZ];omega
   .exact ht
 exact key _ _ _ s (by omega) hk
def vH{l:List Nd}{rs:List Rm}(hD:DOk l rs):∀(k a e:Nat) (s:WS) (C:Nat),e-a<=k->a<=e->e<=l.length->bS l a e=true->gd s C->SkI s->SkI (dt l rs k a e s)
 |0,a,e,s,C,_,hae,_,_,_,h=>h
 |k+1,a,e,s,C,hk,hae,he,hr,h,hs=>by
  rw[dt];by_cases B':a<e
  .rw[av B'];obtain⟨h1,h2⟩:=cA he hr (Wa a) B';obtain⟨h3,h4⟩:=df he hr B';have Wb:NOk (Wu l a):=by rw[jT (by omega)];exact fw hD.isb (by omega)
   have step:∀t,(∃D,gd t D)->SkI t->SkI (dt l rs k (a+(VM l a).toNat) e t):=λt ⟨D,ht⟩ hA=>
    vH hD k _ e t D (by omega) (by omega) he h3 ht hA
   have hm:=h.bd.m0;split
   .have hI2:=iN hD k (a+1) (a+(VM l a).toNat) _ _ (by omega) (by omega) (by omega) h4 (gg h Wb.st);have hS2:=vH hD k (a+1) (a+(VM l a).toNat) _ _ (by omega) (by omega) (by omega) h4 (gg h Wb.st) (hs.enter hm Wb.st);exact step _ ⟨_,kN hI2 Wb.st⟩ (hS2.leave hI2.bd.m0 Wb.st)
   .split
    .exact step _ ⟨_,l7 h Wb a⟩ (SkI.text h hs Wb a)
    .split
     .refine step _ ⟨_,mc h Wb a⟩ ?_;have hyr:=fe (w:=(Wu l a).w) (high:=(Wu l a).h) (y:=s.VD.y+s.VD.m) (s:=fE rs a) (λf hf'=>(h.bd.fl f hf').yB);exact hs.put (by simp only;omega) Wb.h.1
     .have k4:(Wu l a).kind=4:=by rename_i g1 g2 g3;rcases Wb.kind with h|h|h|h;exact absurd h g1;exact absurd h g2;exact absurd h g3;exact h
      exact step _ ⟨_,kJ hD h (by omega) Wb k4⟩ ⟨hs.pw,hs.q⟩
  .rw[aD B'];exact hs
def JH{l:List Nd}(hb:Wg l=true)(hn:l.length<=2000){w:Int}(h1:1<=w)(h2:w<=1099511627776):(dv l w).atoms.Pairwise λa b=>a.y+a.h<=b.y:=by
 have hD:=rz hb hn h1 h2;have hr:bS l 0 l.length=true:=by simp only[Wg,Ba]at hb;exact hb.2
 have hI:gd ⟨[],[],0,⟨0,0⟩⟩ 0:=⟨⟨by simp,by simp,by simp,by simp,by simp⟩,by simp,by simp⟩
 exact(vH hD l.length 0 l.length ⟨[],[],0,⟨0,0⟩⟩ 0 (by omega) (by omega) (Wa _) hr hI ⟨by simp,by simp⟩).pw
def za{l:List WE}(h:l.Pairwise λa b=>a.y+a.h<=b.y){i j:Nat}(hij:i<j)(hj:j<l.length):l[i].y+l[i].h<=l[j].y:=List.pairwise_iff_getElem.1 h i j (by omega) hj hij
def sy{p:Nat->Bool}{n:Nat}(hm:∀i j,i<=j->j<n->p i=true->p j=true):∀(f i j:Nat),j-i<=f->i<=j->j<=n->(∀x,x<i->p x=false)->(j<n->p j=true)->
 (∀x,x<lR p f i j->p x=false)/\(lR p f i j<n->p (lR p f i j)=true)/\lR p f i j<=j
 |0,i,j,hf,hij,_,h1,h2=>by
  obtain rfl:i=j:=by omega
  exact⟨h1,h2,Wa _⟩
 |f+1,i,j,hf,hij,hjn,h1,h2=>by
  rw[lR];split
  .rename_i B';split
   .rename_i hp;obtain⟨g1,g2,g3⟩:=sy hm f i ((i+j)/2) (by omega) (by omega) (by omega) h1 (λ_=>hp);exact⟨g1,g2,by omega⟩
   .rename_i hp;have hp':p ((i+j)/2)=false:=by simpa using hp
    refine sy hm f ((i+j)/2+1) j (by omega) (by omega) hjn (λx hx=>?_) h2;cases Wl:p x with
    |false=>rfl
    |true=>rw[hm x ((i+j)/2) (by omega) (by omega) Wl]at hp';cases hp'
  .obtain rfl:i=j:=by omega
   exact⟨h1,h2,Wa _⟩
def pP{b:Bk}(hk:b.atoms.Pairwise λx y=>x.y+x.h<=y.y)(Xd:∀a∈b.atoms,1<=a.h){s:W7}(hm:de b.atoms s)(kept shift body:Int):
 ∃r:Nat,iT b.atoms s kept shift body=r/\s.atom<=r/\r<=b.atoms.length/\(∀k (h:k<b.atoms.length),s.atom<=k->k<r->cD b.atoms s kept shift k+b.atoms[k].h<=body)/\∀h:r<b.atoms.length,cD b.atoms s kept shift r+b.atoms[r].h>body:=by
 have hm0:=hm;obtain⟨⟨h0,h1⟩,h2,h3⟩:=hm;obtain⟨a,ha⟩:∃a:Nat,s.atom=a:=⟨s.atom.toNat,by omega⟩
 have YX:a<b.atoms.length:=by omega
 have Yy:∀k (h:k<b.atoms.length),a<=k->cD b.atoms s kept shift k=b.atoms[k].y-b.atoms[a].y-s.done+kept+shift:=λk h hak=>by
  rw[cD,av ⟨hm0,by omega,by omega⟩,fH,av ⟨⟨h0,h1⟩,by omega,by omega⟩,ha,bp h,bp YX]
 have hby:∀n (h:a+n<b.atoms.length),gG b.atoms s kept shift body n=decide (b.atoms[a+n].y-b.atoms[a].y-s.done+kept+shift+b.atoms[a+n].h>body):=λn h=>by
  have e:s.atom+(n:Int)=((a+n:Nat):Int):=by omega
  rw[gG,e,Yy _ h (by omega),bp h]
 have hmono:∀i j,i<=j->j<b.atoms.length-a->gG b.atoms s kept shift body i=true->gG b.atoms s kept shift body j=true:=λi j hij hj hb=>by
  rcases Nat.eq_or_lt_of_le hij with rfl|B'
  .exact hb
  .have hi2:a+i<b.atoms.length:=by omega
   have hj2:a+j<b.atoms.length:=by omega
   rw[hby i hi2]at hb;rw[hby j hj2];have h5:=za hk (show a+i<a+j by omega) hj2;have h6:=Xd _ (Ws hj2);have YT:=of_decide_eq_true hb;exact WJ (by omega)
 have hs:=sy hmono (b.atoms.length-a) 0 (b.atoms.length-a) (by omega) (by omega) (Wa _) (λx hx=>by omega) (λh=>by omega);have hsr:lR (gG b.atoms s kept shift body) (b.atoms.length-a) 0 (b.atoms.length-a)=Cs (gG b.atoms s kept shift body) (b.atoms.length-a):=rfl;rw[hsr]at hs;obtain⟨g1,g2,g3⟩:=hs;refine⟨a+Cs (gG b.atoms s kept shift body) (b.atoms.length-a),?_,by omega,by omega,λk h hak hkr=>?_,λh=>?_⟩
 .rw[iT,av hm0,ha,fp];rfl
 .have hka:a<=k:=by omega
  have:=g1 (k-a) (by omega);rw[hby (k-a) (by omega)]at this;have h5:=of_decide_eq_false this;rw[Yy k h hka];have e:a+(k-a)=k:=by omega
  simp only[e]at h5;omega
 .have:=g2 (by omega);rw[hby _ h]at this;have h5:=of_decide_eq_true this;rw[Yy _ h (by omega)];omega
def mF{l:List Nd}{a:Nat}:∀(k:Nat) (x:Int),x∈dH l a k->cB l x a=true
 |0,_,h=>by simp[dH]at h
 |k+1,x,h=>by
  rw[dH]at h;split at h
  .rename_i hk;rcases et.1 h with rfl|h
   .exact hk
   .exact mF k x h
  .exact mF k x h
def HP(l:List Nd)(of:List Int)(k:Nat):0<=dN l of k 3/\dN l of k 3<=7:=by
 simp only[dN,Cd];cases kP l of k 0<;>cases kP l of k 1<;>cases kP l of k 2<;>simp
def zj:∀(all:List Int),dc all=0\/2<=dc all/\dc all<=4:=by
 have key:∀(all:List Int) (o:Int),(o=0\/2<=o/\o<=4)->(all.foldl kx o=0\/2<=all.foldl kx o/\all.foldl kx o<=4):=by
  intro all
  induction all with
  |nil=>intro o h;exact h
  |cons x all ih=>
   intro o h;rw[gC];refine ih _ ?_;unfold kx mN
   (repeat' split)<;>omega
 exact λall=>key all 0 (.inl rfl)
def Lu{l:List Nd}(hb:Wg l=true){of:List Int}(Wr:∀x∈of,0<=x/\x<l.length):nB (p7 l of)=true:=by
 have hlen:(p7 l of).length=of.length+1:=by simp[p7]
 simp only[nB,Ba,fM,List.mem_range,X7];refine⟨λk hk=>?_,by omega⟩;rw[hlen]at hk;have hg:WR (p7 l of) k=ZF l of k:=by simp[WR,p7,hk]
 unfold ik;rw[hg,hlen];refine WJ ?_;have Xa:0<k->k<of.length->of.getD k 0=of.getD (k-1) 0->jg l of k=0:=λh0 h1 he=>by
  have W4:of.getD k 0=of[k]:=by simp[h1]
  have hr:=Wr _ (Ws h1);have hh:∀x∈abv l (of.getD k 0).toNat,hAt l of x k=true/\hAt l of x ((k:Int)-1)=true:=λx hx=>by
   rw[W4]at hx;have B':of[k].toNat<l.length:=by omega
   rw[Cv hb B']at hx;have Wl:=mF _ _ hx;rw[iP]at Wl;have e1:((k:Int)-1).toNat=k-1:=by omega
   have e2:((k:Int)).toNat=k:=by omega
   have e3:(of[k].toNat:Int)=of[k]:=by omega
   rw[e3]at Wl;unfold hAt vM;rw[av (by omega),av (by omega),e1,e2,<-he,W4];exact⟨WJ ⟨Wl.2.2.1,Wl.2.2.2⟩,WJ ⟨Wl.2.2.1,Wl.2.2.2⟩⟩
  have e1:((k:Int)-1).toNat=k-1:=by omega
  have e2:((k:Int)).toNat=k:=by omega
  have he1:chR l of ((k:Int)-1) (λb=>!hAt l of b k)=[]:=by
   unfold chR;rw[av (by omega),e1,<-he,List.filter_eq_nil_iff];intro x hx;rw[(hh x hx).1];simp
  have he2:chR l of k (λb=>!hAt l of b ((k:Int)-1))=[]:=by
   unfold chR;rw[av (by omega),e2,List.filter_eq_nil_iff];intro x hx;rw[(hh x hx).2];simp
  unfold jg iD;rw[aD (by omega),cK,he1,he2];rfl
 have hend:k=of.length->jg l of k=0:=λh=>by
  unfold jg iD;rw[av h];rfl
 have hfv:=zj (iD l of k);have hbr:=HP l of k;change jg l of k=0\/2<=jg l of k/\jg l of k<=4 at hfv;unfold nJ ZF;simp only[X7,decide_eq_false_iff_not];unfold dx mq;by_cases h0:k=0
 .rw[av h0,av (show k=0\/k=of.length from .inl h0)];refine⟨λ_=>rfl,λh=>absurd (by omega) h,λh=>absurd (by omega) h,?_,.inl (by split<;>rfl)⟩;rcases hfv with h|h
  .exact .inl h
  .exact .inr ⟨h.1,h.2,by omega,by omega⟩
 .rw[aD h0];by_cases h1:k=of.length
  .rw[av h1,av (show k=0\/k=of.length from .inr h1)];exact⟨λh=>absurd h (by omega),λ_ _=>rfl,λ_ h=>absurd (by omega) h,.inl (hend h1),.inl (by split<;>rfl)⟩
  .rw[aD h1,aD (show¬(k=0\/k=of.length) by omega)];by_cases h2:of.getD k 0=of.getD (k-1) 0
   .rw[av h2];have hf:=Xa (by omega) (by omega) h2;refine⟨λh=>absurd h (by omega),λ_ h=>absurd h (by omega),λ_ _=>.inr rfl,.inl hf,?_⟩;rw[av hf];rcases Int.lt_or_le 0 (dN l of k 3)with h|h
    .exact .inr ⟨.inr rfl,hf,h,by omega⟩
    .exact .inl (by omega)
   .rw[aD h2];refine⟨λh=>absurd h (by omega),λ_ h=>absurd h (by omega),λ_ _=>.inl rfl,?_,?_⟩
    .rcases hfv with h|h
     .exact .inl h
     .exact .inr ⟨h.1,h.2,by omega,by omega⟩
    .by_cases hf:jg l of k=0
     .rw[av hf];rcases Int.lt_or_le 0 (dN l of k 3)with h|h
      .exact .inr ⟨.inl rfl,hf,h,by omega⟩
      .exact .inl (by omega)
     .rw[aD hf];exact .inl rfl
def inF(top e:Int)(l:List XR):Prop:=∀f∈l,top<=f.y/\0<=f.h/\f.y+f.h<=e
def zK{top e:Int}{l m:List XR}(h1:inF top e l)(h2:inF top e m):inF top e (l++m):=λf hf=>(ec.1 hf).elim (h1 f) (h2 f)
def Br{l:List Nd}{x:Kp}{a:Int}(h:∀n∈x.VU,1<=(XA l n).head):∀n∈(ir l x a).VU,1<=(XA l n).head:=λn hn=>by
 unfold ir at hn;split at hn
 .exact h n hn
 .rename_i hc;rcases ec.1 hn with hn|hn
  .exact h n hn
  .rw[jO.1 hn];omega
def vX{l:List Nd}{L:List Int}{h:Int}:∀m,∀n∈(ig l L h m).VU,1<=(XA l n).head
 |0=>λn hn=>by simp[ig]at hn
 |m+1=>by rw[ig];exact Br (vX m)
def Nf{l:List Nd}{w:Int}:∀(L:List Int),(∀n∈L,1<=(XA l n).head)->0<=(YJ l w L).2/\(∀f∈(YJ l w L).1,0<=f.y/\0<=f.h/\f.y+f.h<=(YJ l w L).2)/\((YJ l w L).1.map (·.h)).sum=(YJ l w L).2:=λL=>by
 suffices key:∀(L:List Int) (p:List XR×Int),(∀n∈L,1<=(XA l n).head)->0<=p.2->(∀f∈p.1,0<=f.y/\0<=f.h/\f.y+f.h<=p.2)->(p.1.map (·.h)).sum=p.2->
  0<=(L.foldl (hdS l w) p).2/\(∀f∈(L.foldl (hdS l w) p).1,0<=f.y/\0<=f.h/\f.y+f.h<=(L.foldl (hdS l w) p).2)/\((L.foldl (hdS l w) p).1.map (·.h)).sum=(L.foldl (hdS l w) p).2 from
  λh=>key L ([],0) h (Int.le_refl _) (λf hf=>by cases hf) rfl
 intro L
 induction L with
 |nil=>intro p _ h1 h2 h3;exact⟨h1,h2,h3⟩
 |cons a L ih=>
  intro p h h1 h2 h3;have ha:=h a (by simp);refine ih _ (λn hn=>h n (by simp[hn])) ?_ (λf hf=>?_) ?_
  .simp only[hdS];omega
  .simp only[hdS]at hf|-;rcases ec.1 hf with hf|hf
   .have:=h2 f hf;omega
   .rw[jO.1 hf];simp only;omega
  .simp only[hdS,dG,List.sum_append,h3,fF,List.map_nil,List.sum_cons,List.sum_nil];omega
def I4{b:Bk}(hb:BkFull b)(s:W7)(h0:0<=s.atom):0<=(bj b s).high/\1<=(bj b s).body/\(bj b s).high+(bj b s).body=b.h/\inF 0 (bj b s).high (YJ b.nodes b.w (bj b s).VU).1/\((YJ b.nodes b.w (bj b s).VU).1.map (·.h)).sum=(bj b s).high:=by
 have hk:=qx hb s;have hbd:=kD hb s h0;have hh:∀n∈(bj b s).VU,1<=(XA b.nodes n).head:=by
  unfold bj;split
  .intro n hn;cases hn
  .unfold um;split
   .exact vX _
   .intro n hn;cases hn
 obtain⟨g1,g2,g3⟩:=Nf (l:=b.nodes) (w:=b.w) _ hh;rw[hk.sum]at g2 g3;refine⟨hk.high.1,hbd,?_,g2,g3⟩;have h1:=hb.h1;revert hbd;unfold bj;split
 .intro _;simp
 .unfold um;split
  .rename_i hc;intro _;obtain⟨_,h3,h4⟩:=hc;generalize (Zz b.atoms (min s.atom ((b.atoms.length:Int)-1))).node=a at*;have ha:a.toNat<b.nodes.length:=by omega
   have hrg:∀x∈abv b.nodes a.toNat,∃n:Nat,x=n/\n<b.nodes.length:=λx hx=>by
    obtain⟨n,h1,h2⟩:=qK ha x hx;exact⟨n,h1,by omega⟩
   exact(qm hb.isb hrg (by omega:0<=b.h) (abv b.nodes a.toNat).length (Wa _)).2.2.2
  .intro h;exact absurd h (by simp)
def Eu{body:Int}(hb:0<=body):∀(l:List O') (sh:Int),0<=sh->sh<=body->(∀f∈l,0<=f.h)->∀m∈(cC body l sh).1,0<=m.y/\0<=m.h/\m.y+m.h<=body
 |[],sh,_,_,_=>λm hm=>by simp[cC]at hm
 |f::r,sh,h0,h1,hf=>λm hm=>by
  rw[cC]at hm;have:=hf f (by simp);split at hm
  .cases hm
  .rename_i hc;rcases et.1 hm with rfl|hm
   .simp only;omega
   .exact Eu hb r _ (by omega) (by omega) (λg hg=>hf g (by simp[hg])) m hm
def Ha{top shift body:Int}(YO:0<=shift):∀{L:List O'},(∀f∈L,0<=f.h)->∀m∈(jB top shift body L).1,0<=m.y/\0<=m.h/\m.y+m.h<=body:=by
 suffices key:∀(L:List O') (x:List O'×List O'),(∀f∈L,0<=f.h)->(∀m∈x.1,0<=m.y/\0<=m.h/\m.y+m.h<=body)->
  ∀m∈(L.foldl (λx f=>jw body x f (bV top shift f)) x).1,0<=m.y/\0<=m.h/\m.y+m.h<=body from
  λ{L} h=>key L ([],[]) h (λm hm=>by cases hm)
 intro L
 induction L with
 |nil=>intro x _ h m hm;exact h m hm
 |cons f L ih=>
  intro x hL h;refine ih _ (λg hg=>hL g (by simp[hg])) λm hm=>?_;have hf:=hL f (by simp);simp only[jw]at hm;split at hm
  .exact h m hm
  .rename_i hl;rcases ec.1 hm with hm|hm
   .exact h m hm
   .rw[jO.1 hm];unfold mM at hl;have hl':¬(x.2≠[]\/(bV top shift f).y+(bV top shift f).h>body):=λh=>hl (WJ h);simp only[bV]at hl'|-;omega
def EW:∀{l:List O'} {a b:Int} {f:O'},f∈AV l a b->f∈l:=λh=>(rC.1 h).1
def AD{b:Bk}(hfh:∀f∈b.VH,0<=f.h){s:W7}{to kept shift body:Int}(YO:0<=shift):∀m∈(dS b.atoms b.VH s to kept shift body).1,0<=m.y/\0<=m.h/\m.y+m.h<=body:=by
 unfold dS;split
 .exact Ha YO λf hf=>hfh f (EW hf)
 .intro m hm;cases hm
def zc{high body:Int}{l:List O'}(h:∀m∈l,0<=m.y/\0<=m.h/\m.y+m.h<=body):inF high (high+body) (l.map (db high)):=λf hf=>by
 obtain⟨m,hm,rfl⟩:=gM.1 hf;have:=h m hm;simp only[db];omega
def wE:∀(xs:List Fd) (d:Fd),(fb fI xs d=(d,false)/\∀x∈xs,x.b.forced=0)\/∃L x R,xs=L++x::R/\(∀y∈L,y.b.forced=0)/\x.b.forced≠0/\fb fI xs d=(x,true)
 |[],d=>.inl ⟨rfl,λx h=>(by cases h)⟩
 |a::xs,d=>by
  have stay:∀(l:List Fd) (x:Fd),l.foldl (fQ fI) (x,true)=(x,true):=by
   intro l
   induction l with
   |nil=>intro x;rfl
   |cons y l ih=>intro x;rw[gC];exact ih x
  by_cases h:a.b.forced=0
  .have e:fb fI (a::xs) d=fb fI xs d:=by
    unfold fb;rw[gC,fQ,fI];simp[h]
   rw[e];rcases wE xs d with⟨h1,h2⟩|⟨L,x,R,h1,h2,h3,h4⟩
   .exact .inl ⟨h1,λx hx=>(et.1 hx).elim (λe=>e▸h) (h2 x)⟩
   .exact .inr ⟨a::L,x,R,by rw[h1];rfl,λy hy=>(et.1 hy).elim (λe=>e▸h) (h2 y),h3,h4⟩
  .refine .inr ⟨[],a,xs,rfl,λy hy=>(by cases hy),h,?_⟩;unfold fb;rw[gC,fQ,fI];simp only[h,Bool.not_false,ne_eq,not_false_eq_true,decide_true,Bool.and_self,if_true];exact stay xs a
def FD(d:Fd):∀(xs:List Fd) (a:Fd),∃L x R,xs++[a]=L++x::R/\fb iF (xs++[a]) d=(x,true)/\(∀y∈L,x.b.V6<=y.b.V6)/\∀y∈R,x.b.V6<y.b.V6:=by
 suffices key:∀n (xs:List Fd) (a:Fd),xs.length=n->∃L x R,xs++[a]=L++x::R/\fb iF (xs++[a]) d=(x,true)/\(∀y∈L,x.b.V6<=y.b.V6)/\∀y∈R,x.b.V6<y.b.V6 from
  λxs a=>key _ xs a rfl
 intro n
 induction n with
 |zero=>
  intro xs a h;obtain rfl:=List.length_eq_zero_iff.1 h;exact⟨[],a,[],rfl,by simp[fb,fQ,iF],λy h=>(by cases h),λy h=>by cases h⟩
 |succ n ih=>
  intro xs a h;rcases List.eq_nil_or_concat xs with rfl|⟨ys,z,rfl⟩
  .cases h
  .rw[List.concat_eq_append]at h|-;obtain⟨L,x,R,h1,h2,h3,h4⟩:=ih ys z (by simpa using h);rw[pZ,h2];unfold fQ iF;by_cases hr:a.b.V6<=x.b.V6
   .refine⟨ys++[z],a,[],rfl,by simp[hr],λy hy=>?_,λy hy=>by cases hy⟩;rw[h1]at hy;rcases ec.1 hy with hy|hy
    .have:=h3 y hy;omega
    .rcases et.1 hy with rfl|hy
     .exact hr
     .have:=h4 y hy;omega
   .refine⟨L,x,R++[a],by rw[h1];simp,by simp[hr],h3,λy hy=>?_⟩;rcases ec.1 hy with hy|hy
    .exact h4 y hy
    .rw[jO.1 hy];omega
def xZ{b:List Xt}{fr to:Int}{L R:List Fd}{x:Fd}(h:(btw b fr to).map (jr b)=L++x::R):
 ∃c:Nat,x=jr b c/\max fr 0<=c/\c<max fr 0+mv b fr to/\(∀k:Nat,max fr 0<=k->k<c->jr b k∈L)/\∀k:Nat,c<k->k<max fr 0+mv b fr to->jr b k∈R:=by
 have hlen:=congrArg List.length h;simp only[btw,cO,List.length_range',jm,XU]at hlen;have XE:∀k:Nat,max fr 0<=k->k<max fr 0+mv b fr to->(L++x::R)[k-(max fr 0).toNat]?=some (jr b k):=λk h1 h2=>by
  rw[<-h,btw,tW,List.getElem?_range' (by omega)];simp only[Option.map_some,Nat.one_mul];rw[show(max fr 0).toNat+(k-(max fr 0).toNat)=k by omega]
 refine⟨(max fr 0).toNat+L.length,?_,by omega,by omega,λk h1 h2=>?_,λk h1 h2=>?_⟩
 .have:=XE ((max fr 0).toNat+L.length) (by omega) (by omega);rw[show(max fr 0).toNat+L.length-(max fr 0).toNat=L.length by omega]at this;simpa using this
 .have:=XE k h1 (by omega);rw[HE (by omega)]at this;exact zE this
 .have:=XE k (by omega) (by omega);rw[JD (by omega),show k-(max fr 0).toNat-L.length=(k-((max fr 0).toNat+L.length)-1)+1 by omega,Dq]at this;exact zE this
def Hc{b:List Xt}{i fit:Int}(h:eG b i fit)(hf:fit<=(b.length:Int)-1):
 ∃c:Nat,qf b i fit=c/\i<c/\(c:Int)<=fit/\∀k:Nat,i<k->(k:Int)<=fit->(k<c->(WR b k).forced=0)/\((WR b c).forced=0->k≠c->(WR b k).forced=0/\(WR b c).V6<=(WR b k).V6/\(c<k->(WR b k).V6≠(WR b c).V6)):=by
 obtain⟨_,h1,h2,h3⟩:=h;have hn:max (i+1) 0=i+1:=by omega
 have hb:mv b (i+1) fit=(fit-i).toNat:=by unfold mv;omega
 unfold qf jM AA;rcases wE ((btw b (i+1) fit).map (jr b)) tX with⟨e,hz⟩|⟨L,x,R,e1,e2,e3,e4⟩
 .rw[e,av (show tX.i<0 by decide)];have hz':∀k:Nat,i<k->(k:Int)<=fit->(WR b k).forced=0:=λk g1 g2=>by
   refine hz (jr b k) (gM.2 ⟨k,?_,rfl⟩);rw[btw,List.mem_range'_1];omega
  have V2:(btw b (i+1) fit).map (jr b)≠[]:=λe=>by
   have:=congrArg List.length e;simp[btw,hb]at this;omega
  rcases List.eq_nil_or_concat ((btw b (i+1) fit).map (jr b))with e|⟨ys,z,e⟩
  .exact absurd e V2
  .rw[List.concat_eq_append]at e;obtain⟨L,x,R,f1,f2,f3,f4⟩:=FD tX ys z;rw[<-e]at f1 f2;obtain⟨c,rfl,g1,g2,g3,g4⟩:=xZ f1;rw[f2];refine⟨c,rfl,by omega,by omega,λk k1 k2=>⟨λ_=>hz' k k1 k2,λ_ hk=>⟨hz' k k1 k2,?_,λB'=>?_⟩⟩⟩
   .rcases Nat.lt_or_gt_of_ne hk with hk|hk
    .exact f3 _ (g3 k (by omega) hk)
    .exact Int.le_of_lt (f4 _ (g4 k hk (by omega)))
   .have:=f4 _ (g4 k B' (by omega));exact λe=>by simp only[jr]at this;omega
 .obtain⟨c,rfl,g1,g2,g3,g4⟩:=xZ e1;rw[e4,aD (show¬(jr b c).i<0 from λh=>by simp only[jr]at h;omega)];exact⟨c,rfl,by omega,by omega,λk k1 k2=>⟨λhk=>e2 _ (g3 k (by omega) hk),λhc=>absurd hc e3⟩⟩
inductive DF(b:Bk)(s t:W7)(fs:List XR)(top body:Int):Prop
 |more (h1:t.atom=s.atom) (h2:fs.length=1) (h3:fO b.atoms s>body) (h4:∀f,fs[0]?=some f->f.h=body) (h5:t.done=s.done+body)
 |whole (c r:Nat) (y:Int) (h1:t=⟨c,0,decide ((WR b.V4 c).forced≠0)⟩) (h2:s.atom<c) (h3:c<=r) (h4:r<=b.atoms.length) (h5:fs.length+s.atom=c) (h6:∀f,fs[0]?=some f->f.y=top+y)
    (h7:∀k (h:k<b.atoms.length),s.atom<=k->k<r->(if s.atom<k then y+(b.atoms[k].y-(Zz b.atoms s.atom).y-s.done)else y)+(if k=s.atom then fO b.atoms s else b.atoms[k].h)<=body)
    (h8:∀(h:r<b.atoms.length),(if s.atom<r then y+(b.atoms[r].y-(Zz b.atoms s.atom).y-s.done)else y)+(if r=s.atom then fO b.atoms s else b.atoms[r].h)>body)
    (h9:∀k:Nat,s.atom<k->k<=r->(k<c->(WR b.V4 k).forced=0)/\((WR b.V4 c).forced=0->k≠c->(WR b.V4 k).forced=0/\(WR b.V4 c).V6<=(WR b.V4 k).V6/\(c<k->(WR b.V4 k).V6≠(WR b.V4 c).V6)))
structure Jd(b:Bk)(x:Wx)(fs:List XR)(t:W7):Prop where
 ne:0<fs.length
 fin:inF x.high (x.high+x.body) fs
 fst:∀f,fs[0]?=some f->f.atom=x.s.atom/\f.fr=x.s.done
 cut:DF b x.s t fs x.high x.body
structure jF(b:Bk):Prop extends BkFull b where
 YF:b.atoms.Pairwise λx y=>x.y+x.h<=y.y
 pos:∀a∈b.atoms,1<=a.h
 top:∀a∈b.atoms,0<=a.y
 mayb:nB b.V4=true
 fh:∀f∈b.VH,0<=f.h
 fy:∀f∈b.VH,0<=f.y
def Dj{b:Bk}(hb:jF b)(k:Int):0<=lj b.atoms k:=by
 unfold lj;split
 .rename_i h;obtain⟨n,rfl⟩:∃n:Nat,k=n:=⟨k.toNat,by omega⟩
  have hn:n<b.atoms.length:=by omega
  rw[bp hn];unfold ga;split
  .rename_i h2;have e:(n:Int)-1=((n-1:Nat):Int):=by omega
   rw[e,bp (by omega)];have:=za hb.YF (show n-1<n by omega) hn;omega
  .have:=hb.top _ (Ws hn);omega
 .exact Int.le_refl _
def Gb{b:Bk}(hb:jF b){x:Wx}(hm:de b.atoms x.s)(hx:x.fs=[])
 (hbody:1<=x.body)(YO:0<=x.shift)(hnf:¬(x.shift>0/\fO b.atoms x.s>x.body-x.shift)):Jd b x (gq b x).fs (jA b x).s:=by
 have hk:=hb.YF;have Xd:=hb.pos;have X6:=hb.mayb;obtain⟨r,hr,hr1,hr2,hr3,hr4⟩:=pP hk Xd hm (eW b x) x.shift x.body;have hm0:=hm;obtain⟨⟨h0,h1⟩,h2,h3⟩:=hm;obtain⟨a,ha⟩:∃a:Nat,x.s.atom=a:=⟨x.s.atom.toNat,by omega⟩
 have YX:a<b.atoms.length:=by omega
 have hag:Zz b.atoms x.s.atom=b.atoms[a]:=by rw[ha,bp YX]
 have hpa:=Xd _ (Ws YX);have WX:=hb.brk;have hleft:fO b.atoms x.s=b.atoms[a].h-x.s.done:=by rw[fO,av hm0,hag]
 rw[hag]at h3;have hl0:1<=fO b.atoms x.s:=by rw[hleft];omega
 have Yy:∀kept sh k (h:k<b.atoms.length),a<=k->cD b.atoms x.s kept sh k=b.atoms[k].y-b.atoms[a].y-x.s.done+kept+sh:=λkept sh k h hak=>by
  rw[cD,av ⟨hm0,by omega,by omega⟩,fH,av ⟨⟨h0,h1⟩,by omega,by omega⟩,hag,bp h]
 have hkept:eW b x=0\/0<=eW b x/\x.s.done=0/\eW b x+fO b.atoms x.s<=x.body-x.shift:=by
  unfold eW gZ;split
  .rename_i hc;obtain⟨_,_,hd,hg⟩:=hc;rw[hleft];rw[hag]at hg;exact .inr ⟨Dj hb _,hd,hg⟩
  .exact .inl rfl
 have hrX:fq b x=r:=hr;unfold gq jA;by_cases VE:eG b.V4 x.s.atom (fq b x)
 .rw[av VE,av VE];obtain⟨c,c1,c2,c3,c4⟩:=Hc VE (by rw[hrX];omega);rw[show zn b x=c from c1,fp];rw[hrX]at c3 c4;have hlen:(cN b { x with kind:=1 } (eW b x) (c-x.s.atom.toNat)).length=c-a:=by
   rw[cN,cO,List.length_range,ha,fp]
  have YE:(vq b { x with kind:=1 } (eW b x) c).fs=cN b { x with kind:=1 } (eW b x) (c-x.s.atom.toNat):=by
   simp only[vq,Wx.put,Wx.add,hx,iC]
  have XG:∀i (h:i<c-a),(cN b { x with kind:=1 } (eW b x) (c-x.s.atom.toNat))[i]?=some (cU x.high (dU b.atoms x.s (eW b x) x.shift ((a+i:Nat):Int))):=λi h=>by
   rw[cN,tW,List.getElem?_range (by rw[ha];omega),Option.map_some,ha];rfl
  have hwh:∀k (h:k<b.atoms.length),a<=k->(dU b.atoms x.s (eW b x) x.shift k).y=cD b.atoms x.s (eW b x) x.shift k+(if k=a then x.s.done else 0)/\(dU b.atoms x.s (eW b x) x.shift k).h=b.atoms[k].h-(if k=a then x.s.done else 0)/\(dU b.atoms x.s (eW b x) x.shift k).atom=k/\(dU b.atoms x.s (eW b x) x.shift k).fr=if k=a then x.s.done else 0:=λk h hak=>by
   rw[dU,av ⟨hm0,by omega,by omega⟩];by_cases e:k=a
   .rw[av (by omega),av e];simp only[XR.cm,nP,iM,bp h];exact⟨trivial,trivial,trivial,trivial⟩
   .rw[aD (by omega),aD e];simp only[nP,iM,bp h];exact⟨(Int.add_zero _).symm,(Int.sub_zero _).symm,trivial,trivial⟩
  have hfirst:(cN b { x with kind:=1 } (eW b x) (c-x.s.atom.toNat))[0]?=some (cU x.high (dU b.atoms x.s (eW b x) x.shift ((a:Nat):Int))):=XG 0 (by omega);obtain⟨w1,w2,w3,w4⟩:=hwh a YX (Wa _);rw[av rfl]at w1 w2 w4;have hpa0:=Yy (eW b x) x.shift a YX (Wa _);have hk0:0<=eW b x:=by rcases hkept with h|h<;>omega
  refine⟨by rw[YE,hlen];omega,λf hf=>?_,λf hf=>?_,?_⟩
  .rw[YE]at hf;obtain⟨i,hi⟩:=Kk hf;have Xx:i<c-a:=by
    rw[<-hlen];exact(pq.1 hi).1
   rw[XG i Xx]at hi;obtain rfl:=Option.some.inj hi;obtain⟨v1,v2,-,-⟩:=hwh (a+i) (by omega) (by omega);have hpl':=Yy (eW b x) x.shift (a+i) (by omega) (by omega);have XX:=hr3 (a+i) (by omega) (by omega) (by omega);have hph:=Xd _ (Ws (show a+i<b.atoms.length by omega));simp only[cU];rw[v1,v2];rw[hpl']at XX|-;by_cases e:i=0
   .subst e;simp only[Nat.add_zero,if_true]at XX|-;omega
   .rw[aD (by omega)];have VP:=za hk (show a<a+i by omega) (by omega);omega
  .rw[YE,hfirst]at hf;obtain rfl:=Option.some.inj hf;simp only[cU];rw[w3,w4];exact⟨ha.symm,rfl⟩
  .refine .whole c r (eW b x+x.shift) rfl c2 (by omega) hr2 (by rw[YE,hlen];omega) (λf hf=>?_) (λk h h1 h2=>?_) (λh=>?_) (λk h1 h2=>c4 k h1 (by omega))
   .rw[YE,hfirst]at hf;obtain rfl:=Option.some.inj hf;simp only[cU];rw[w1,hpa0];omega
   .have:=hr3 k h h1 h2;rw[Yy _ _ k h (by omega)]at this;rw[hag];by_cases e:(k:Int)=x.s.atom
    .obtain rfl:k=a:=by omega
     rw[aD (by omega),av e,hleft];omega
    .rw[av (by omega),aD e];omega
   .have:=hr4 h;rw[Yy _ _ r h (by omega)]at this;rw[hag];by_cases e:(r:Int)=x.s.atom
    .obtain rfl:r=a:=by omega
     rw[aD (by omega),av e,hleft];omega
    .rw[av (by omega),aD e];omega
 .rw[aD VE,aD VE];have hra:r=a:=by
   have:¬x.s.atom<fq b x:=λh=>VE ⟨X6,h0,by omega,h⟩;omega
  have hgt:=hr4 (by omega);subst hra;rw[Yy _ _ r YX (Wa _)]at hgt;have hk0:eW b x=0/\x.shift=0:=by
   rw[hleft]at hkept hnf;rcases hkept with h|h<;>omega
  have hso:uj b.atoms ({ x with kind:=1 }:Wx).s ({ x with kind:=1 }:Wx).body:=⟨hm0,hbody⟩
  have YE:(vO b { x with kind:=1 }).fs=[cU x.high (j3 b.atoms x.s x.body)]:=by
   simp only[vO,Wx.put,Wx.add,hx,iC]
  have Zr:j3 b.atoms x.s x.body=⟨b.atoms[r].node,x.s.atom,x.s.done,b.atoms[r].x,0,b.atoms[r].w,x.body⟩:=by
   rw[j3,av (show uj b.atoms x.s x.body from hso),fo];simp only[XR.cut,XR.cm,iM,hag];congr 1;omega
  have hnx:fG b.atoms x.s x.body=⟨x.s.atom,x.s.done+x.body,false⟩:=by
   rw[fG,av (show uj b.atoms x.s x.body from hso)];rw[j3,av (show uj b.atoms x.s x.body from hso)]at Zr;rw[Zr];simp only[jY,hag];rw[av (by omega)]
  rw[Zr]at YE;refine⟨by rw[YE];exact Nat.one_pos,λf hf=>?_,λf hf=>?_,.more ?_ (by rw[YE];rfl) (by rw[hleft];omega) (λf hf=>?_) ?_⟩
  .rw[YE,jO]at hf;subst hf;simp only[cU];omega
  .rw[YE]at hf;obtain rfl:=Option.some.inj hf;exact⟨rfl,rfl⟩
  .show(fG b.atoms x.s x.body).atom=_;rw[hnx]
  .rw[YE]at hf;obtain rfl:=Option.some.inj hf;rfl
  .show(fG b.atoms x.s x.body).done=_;rw[hnx]
def Th(s t:XY)(n:Int):Prop:=t.s.atom>s.s.atom\/t.s.atom=s.s.atom/\t.s.done>s.s.done\/t.s.atom=s.s.atom/\t.s.done=s.s.done/\(t.bw.length<s.bw.length\/t.s.atom=n/\t.s.free=false)
structure GK(b:Bk)(s:XY)(p:Pag)(t:XY):Prop where
 no:p.no=0
 onw:Th s t b.atoms.length
 sum:(p.hs.map (·.h)).sum=(bj b s.s).high
 hd:inF 0 (bj b s.s).high p.hs
 fl:inF (bj b s.s).high b.h p.fs
 lo:inF (bj b s.s).high b.h p.ls
 kd:p.kind=1\/p.kind=2
 no':p.kind=2->p.fs=[]
 cut:p.kind=1->de b.atoms s.s/\0<p.fs.length/\(∀f,p.fs[0]?=some f->f.atom=s.s.atom/\f.fr=s.s.done)/\DF b s.s t.s p.fs (bj b s.s).high (bj b s.s).body
def Jf{α:Type}{p:α->Bool}:∀(l:List α),∀x∈l.takeWhile p,p x=true
 |[],x,h=>by cases h
 |a::l,x,h=>by
  rw[List.takeWhile_cons]at h;split at h
  .rename_i ha;rcases et.1 h with rfl|h
   .exact ha
   .exact Jf l x h
  .cases h
def HJ{b:Bk}(hb:jF b){x:Wx}(YO:0<=x.shift)(h:inF x.high (x.high+x.body) x.ls):inF x.high (x.high+x.body) (gq b x).ls:=by
 unfold gq;split
 .exact zK h (zc (AD hb.fh YO))
 .exact zK h (zc (AD hb.fh (Int.le_refl _)))
def sT(b:Bk)(x:Wx):(gq b x).hs=x.hs/\(gq b x).kind=1:=by
 unfold gq;split<;>exact⟨rfl,rfl⟩
def yC{b:Bk}(hb:jF b){s:XY}(he:¬ic b s):GK b s (dK b s).1 (dK b s).2:=by
 have Xz:jP b s:=Decidable.byContradiction λh=>he (.inl h);have hnot:¬(s.s.atom=b.atoms.length/\s.s.free=false/\s.bw=[]):=λh=>he (.inr h);have XG:0<=s.s.atom:=by rcases Xz.2 with h|h;exact h.1.1;omega
 obtain⟨r1,r2,r3,r4,r5⟩:=I4 hb.toBkFull s.s XG;have hpf:∀f∈s.bw,0<=f.h:=λf hf=>hb.fh f (kE _ _ Xz.1 f hf);have htop:inF (bj b s.s).high ((bj b s.s).high+(bj b s.s).body) ((cC (bj b s.s).body s.bw 0).1.map (db (bj b s.s).high)):=zc (Eu (by omega) _ 0 (Int.le_refl _) (by omega) hpf);have YO:=(oD (body:=(bj b s.s).body) s.bw 0 (Int.le_refl _) (by omega) hpf).2.2;unfold dK;split
 .rename_i h0;obtain⟨h1,h2⟩:=h0;have hn:s.s.atom=0/\s.s.done=0:=by
   rcases Xz.2 with h|h
   .have:=h.1;rw[h1]at this;simp at this;omega
   .rw[h1]at h;simpa using h
  have hrv:bj b s.s=⟨[],0,b.h⟩:=by rw[bj,av h1]
  refine⟨rfl,.inr (.inr ⟨?_,?_,.inr ⟨?_,rfl⟩⟩),r5,r4,λf hf=>(by cases hf),?_,.inr rfl,λ_=>rfl,λh=>?_⟩
  .simp[oR,hn]
  .simp[oR,hn]
  .simp[oR,h1]
  .rw[<-r3];refine zc (high:=(bj b s.s).high) (body:=(bj b s.s).body) λm hm=>?_;have h4:m.y+m.h<=(bj b s.s).body:=of_decide_eq_true (Jf _ m hm);have h5:m∈b.VH:=(List.takeWhile_sublist _).mem hm;exact⟨hb.fy m h5,hb.fh m h5,h4⟩
  .exact absurd h (show¬((2:Int)=1) by decide)
 .split
  .rename_i hf;refine⟨rfl,?_,r5,r4,λf hf=>(by cases hf),by rw[<-r3];exact htop,.inr rfl,λ_=>rfl,λh=>absurd h (show¬((2:Int)=1) by decide)⟩;refine .inr (.inr ⟨rfl,rfl,?_⟩);cases hp:s.bw with
   |cons f r=>exact .inl (xQ f r)
   |nil=>
    unfold nV at hf;rw[hp]at hf;simp only[cC]at hf;have ha:s.s.atom=b.atoms.length:=by
     rcases hf with h|h|h
     .exact h
     .exact absurd rfl h
     .omega
    exact .inr ⟨ha,by simp[ha]⟩
  .rename_i hf;have hm:de b.atoms s.s:=Xz.2.resolve_right λh=>hf (.inl h.1);have hfn:=xP (x:=fj b s) hb.toBkOk hm hb.pos r2;have hfg:=Gb hb (x:=fj b s) hm rfl r2 YO.1 (λh=>hf (.inr (.inr h)));have hls:=HJ hb (x:=fj b s) YO.1 (zK (l:=[]) (λf hf=>(by cases hf)) htop);have hoth:=sT b (fj b s);have xs:(fj b s).s=s.s:=rfl;have xh:(fj b s).high=(bj b s.s).high:=rfl;have xb:(fj b s).body=(bj b s.s).body:=rfl;rw[xh,xb,r3]at hls;obtain⟨f1,f2,f3,f4⟩:=hfg;rw[xh,xb]at f2 f4;rw[r3]at f2;refine⟨rfl,?_,?_,?_,f2,hls,.inl hoth.2,λh=>?_,λ_=>⟨hm,f1,f3,f4⟩⟩
   .generalize jA b (fj b s)=z at hfn;cases hfn with
    |whole c fr p g1 g2 g3=>exact .inl g1
    |more d p g1 g2 g3=>exact .inr (.inl ⟨rfl,g1⟩)
   .show((gq b (fj b s)).hs.map _).sum=_;rw[hoth.1];exact r5
   .show inF _ _ (gq b (fj b s)).hs;rw[hoth.1];exact r4
   .have:(gq b (fj b s)).kind=2:=h;rw[hoth.2]at this;cases this
def l4{l:List Nd}(hl:ep l){w h:Int}(he:gz l w h=0):jF (gY l w h):=by
 obtain⟨hw,hh,hc⟩:=rU he;obtain⟨hisb,hn,hwo,hcs⟩:=p9 hc;have hG:=ze hisb hn hw.1 hw.2;obtain⟨h1,h2⟩:=FK hl he;refine⟨h1,JH hisb hn hw.1 hw.2,λa ha=>(hG.V3 a ha).h0,λa ha=>(hG.V3 a ha).y0,?_,h2,λf hf=>(hG.flo f hf).y0⟩;show nB (p7 l (ofR l w))=true;refine Lu hisb λx hx=>?_;unfold ofR at hx;obtain⟨a,ha,rfl⟩:=gM.1 hx;exact hG.nod a ha
def EH{cnt:Nat->Nat}:∀{n a:Nat} {x:Int},x∈blk cnt a n->∃i:Nat,x=i/\a<=i/\i<a+n/\0<cnt i
 |0,a,x,h=>by rw[kQ]at h;cases h
 |n+1,a,x,h=>by
  rw[jh]at h;rcases ec.1 h with h|h
  .obtain⟨h1,rfl⟩:=List.mem_replicate.1 h;exact⟨a,rfl,Wa _,by omega,by omega⟩
  .obtain⟨i,h1,h2,h3,h4⟩:=EH h;exact⟨i,h1,by omega,by omega,h4⟩
def Ig{l:List Nd}(hb:Wg l=true)(hn:l.length<=2000){w:Int}(h1:1<=w)(h2:w<=1099511627776):∀a∈(dv l w).atoms,∃i:Nat,a.node=i/\i<l.length/\((Wu l i).kind=2\/(Wu l i).kind=3):=λa ha=>by
 have hD:=rz hb hn h1 h2;have hr:bS l 0 l.length=true:=by simp only[Wg,Ba]at hb;exact hb.2
 have hI:gd ⟨[],[],0,⟨0,0⟩⟩ 0:=⟨⟨by simp,by simp,by simp,by simp,by simp⟩,by simp,by simp⟩
 obtain⟨-,cnt,hc,hco⟩:=uB hD l.length 0 l.length ⟨[],[],0,⟨0,0⟩⟩ 0 (by omega) (by omega) (Wa _) hr hI (by simp);have hm:a.node∈(dt l (cI l w) l.length 0 l.length ⟨[],[],0,⟨0,0⟩⟩).atoms.map (·.node):=gM.2 ⟨a,ha,rfl⟩;rw[hc]at hm;simp only[List.map_nil,iC]at hm;obtain⟨i,e,_,h3,h4⟩:=EH hm;refine⟨i,e,by omega,?_⟩;have:=hco i (Nat.zero_le _) (by omega);unfold okN at this;split at this
 .rename_i k;exact .inl k
 .split at this
  .rename_i k;exact .inr k
  .have:=of_decide_eq_true this;omega
def xX{l:List Nd}{h:Int}(hh:1<=h):∀n,1<=ie l h n
 |0=>hh
 |n+1=>by
  have h1:=xX (l:=l) hh n;have h2:1<=(qh l n h).body:=ry hh _;rw[ie];split<;>omega
def J9{l:List Nd}{h:Int}(hb:Wg l=true)(h1:1<=h)(h2:h<=1099511627776):gS l h=true:=by
 unfold gS;rw[hb];simp[h1,h2]
def kO.bw{b:Bk}{x:Wx}{t:XY}(h:kO b x t):t.bw.length<=b.VH.length:=by
 cases h with
 |whole c fr p h1 h2 h3=>exact h3
 |more d p h1 h2 h3=>exact h3
open Go.Proofs
def Fu{b:Bk}(hb:jF b){s:XY}(hp:s.bw.length<=1000000)(he:¬ic b s):(dK b s).2.bw.length<=1000000:=by
 have Xz:jP b s:=Decidable.byContradiction λh=>he (.inl h);have YG:=hb.ZH;have XG:0<=s.s.atom:=by rcases Xz.2 with h|h;exact h.1.1;omega
 unfold dK;split
 .have:(b.VH.dropWhile (jc (cq b s.s .aO).body)).length<=b.VH.length:=(List.dropWhile_sublist _).length_le;show(b.VH.dropWhile (jc (cq b s.s .aO).body)).length<=_;omega
 .split
  .show(cC (bj b s.s).body s.bw 0).2.1.length<=_;cases hpp:s.bw with
   |cons f r=>have:=xQ (body:=(bj b s.s).body) f r;rw[hpp]at hp;simp only[XU]at this hp;omega
   |nil=>simp[cC]
  .rename_i hf;have hm:de b.atoms s.s:=Xz.2.resolve_right λh=>hf (.inl h.1);have:=(xP (x:=fj b s) hb.toBkOk hm hb.pos (kD hb.toBkFull s.s XG)).bw;show(jA b (fj b s)).bw.length<=_;omega
def FW(b:Bk)(hb:BkFull b):aL prog 14 [.rp (bu b)] (bG b.V4):=λU=>
 (x7 b hb U).Da λ_ _ h=>h.2.pX h.1 rfl
def Cf{x:O'}:∀(p:List O') (i k:Nat),ky x p i=((i+k:Nat):Int)->p[k]?=some x
 |[],i,k,h=>by simp[ky]at h;omega
 |q::p,i,k,h=>by
  rw[ky]at h;split at h
  .rename_i e;obtain rfl:k=0:=by omega
   simp[e]
  .rcases qV x p (i+1)with h2|⟨m,h2,_⟩
   .rw[h2]at h;omega
   .have hk:k=m+1:=by rw[h2]at h;omega
    subst hk;rw[Dq];exact Cf p (i+1) m h2
def AQ{VH:List O'}:∀(p:List O') (V3:Nat),jn VH p V3=true->p.Sublist (VH.drop V3)
 |[],V3,_=>List.nil_sublist _
 |x::r,V3,h=>by
  rw[jn]at h;split at h
  .cases h
  .rename_i hk;rcases qV x (VH.drop V3) 0 with e|⟨k,e,Xf⟩
   .exact absurd (by rw[e];decide) hk
   .rw[e,fU,fp]at h;have hx:=Cf _ 0 k e;obtain⟨hl,hg⟩:=pq.1 hx;have hr:=AQ r _ h;have e1:VH.drop V3=(VH.drop V3).take k++x::(VH.drop V3).drop (k+1):=by
     conv=>lhs;rw[<-ua k (VH.drop V3)]
     rw[ju hl,hg]
    rw[e1,List.drop_drop,show V3+(k+1)=V3+k+1 by omega];exact(List.Sublist.cons_cons x hr).trans (List.sublist_append_right _ _)
def SdI(s:WS):Prop:=∀f∈s.u',f.side=1\/f.side=2
def SdI.same{s t:WS}(h:SdI s)(e:t.u'=s.u'):SdI t:=λf hf=>h f (e▸hf)
def sD(rs:List Rm)(s:WS)(a:Nat)(n:Nd):(s.text rs a n).u'=s.u':=by
 unfold WS.text;generalize da s.u' n.words n.space n.line (fE rs a) n.words.length 0 (s.VD.y+s.VD.m)=L
 suffices key:∀(L:List Ln) (t:WS),(L.foldl (λs x=>s.put (fZ a n.line x)) t).u'=t.u' from key L s
 intro L
 induction L with
 |nil=>intro t;rfl
 |cons x L ih=>intro t;rw[gC,ih];rfl
def rN{l:List Nd}{rs:List Rm}(hb:Wg l=true):∀(k a e:Nat) (s:WS),a<=e->e<=l.length->bS l a e=true->SdI s->SdI (dt l rs k a e s)
 |0,a,e,s,_,_,_,h=>h
 |k+1,a,e,s,hae,he,hr,h=>by
  rw[dt];by_cases B':a<e
  .rw[av B'];obtain⟨h1,h2⟩:=cA he hr (Wa a) B';obtain⟨h3,h4⟩:=df he hr B';have Wb:NOk (Wu l a):=by rw[jT (by omega)];exact fw hb (by omega)
   have step:∀t,SdI t->SdI (dt l rs k (a+(VM l a).toNat) e t):=λt hA=>rN hb k _ e t (by omega) he h3 hA;split
   .refine step _ (SdI.same (rN hb k (a+1) (a+(VM l a).toNat) (s.enter (Wu l a).st) (by omega) (by omega) h4 (h.same rfl)) rfl)
   .split
    .exact step _ (h.same (sD _ _ _ _))
    .split
     .exact step _ (h.same rfl)
     .have k4:(Wu l a).kind=4:=by rename_i g1 g2 g3;rcases Wb.kind with h|h|h|h;exact absurd h g1;exact absurd h g2;exact absurd h g3;exact h
      refine step _ λf hf=>?_;have hf:f∈s.u'++[iZ s.u' ⟨a,(Wu l a).side,s.atoms.length,0,0,(Wu l a).w,(Wu l a).h⟩ (s.VD.y+s.VD.m) (fE rs a)]:=hf;rcases ec.1 hf with hf|hf
      .exact h f hf
      .rw[jO.1 hf];show(Wu l a).side=1\/(Wu l a).side=2;have:=Wb.fl k4;have:=Wb.side.2;omega
  .rw[aD B'];exact h
open Go.Proofs
def Cu{y high:Int}{f:O'}:eJ y high f=true↔f.h>0/\f.y<y+max high 1/\f.y+f.h>y:=by
 unfold eJ nL;split
 .rename_i h;simp only at h;simp only[decide_true,Bool.not_true,gi,false_iff];omega
 .rename_i h;simp only at h;have V2:¬((⟨max f.y y,min (f.y+f.h) (y+max high 1)⟩:Wq)=⟨0,0⟩):=by
   intro e;have e1:=congrArg Wq.a e;have e2:=congrArg Wq.b e;simp only at e1 e2;omega
  simp only[V2,decide_false,Bool.not_false,true_iff];omega
def F6{f:O'}{s:Wq}:iq f s=s↔(f.side=1/\f.x+f.w<=s.a)\/(f.side≠1/\s.b<=f.x):=by
 obtain⟨a,b⟩:=s;unfold iq;by_cases h:f.side=1
 .rw[av h];simp only[Wq.mk.injEq,h,true_and,and_true,not_true,false_and,or_false,ne_eq];omega
 .rw[aD h];simp only[Wq.mk.injEq,h,true_and,false_and,false_or,ne_eq,not_false_eq_true];omega
def CJ{l:List O'}{y high:Int}{s:Wq}{i:Nat}(h:i<l.length):bZ (l.take (i+1)) y high s=if eJ y high l[i]=true then iq l[i] (bZ (l.take i) y high s)else bZ (l.take i) y high s:=by
 unfold bZ;rw[lF _ _ h,kZ];cases eJ y high l[i]<;>rfl
def CE{l:List O'}{y high:Int}{s:Wq}{i:Nat}(h:i<l.length):cL (l.take (i+1)) y high s=if eJ y high l[i]=true then je s (cL (l.take i) y high s) l[i]else cL (l.take i) y high s:=by
 unfold cL;rw[lF _ _ h,kZ];cases eJ y high l[i]<;>rfl
def vm{tell:O'->Int×Bool}{l:List O'}{i:Nat}(h:i<l.length):cH tell (l.take (i+1))=iy tell (cH tell (l.take i)) l[i]:=by
 unfold cH;rw[XH h,kZ];rfl
def Cc{s:Wq}:∀{l:List O'} {t:Wq},s.a<=t.a->t.b<=s.b->(t≠s\/∃f∈l,iq f s≠s)->l.foldl (λs f=>iq f s) t≠s
 |[],t,_,_,h=>by simpa using h
 |f::l,t,h1,h2,h=>by
  have h3:=DH f t;rw[gC];refine Cc (Int.le_trans h1 h3.1) (Int.le_trans h3.2 h2) ?_;rcases h with h|⟨g,hg,h⟩
  .left;intro e;apply h;obtain⟨ta,tb⟩:=t;obtain⟨sa,sb⟩:=s;rw[e]at h3;simp only[Wq.mk.injEq]at h1 h2 h3|-;omega
  .rcases et.1 hg with rfl|hg
   .left;intro e;apply h;obtain⟨ta,tb⟩:=t;obtain⟨sa,sb⟩:=s;unfold iq at e|-;by_cases h4:g.side=1<;>simp only[h4,if_true,if_false,Wq.mk.injEq,true_and,and_true]at e h1 h2|-<;>omega
   .exact .inr ⟨g,hg,h⟩
def Gn{l:List O'}{y high:Int}{s:Wq}:(cL l y high s).2=true↔bZ l y high s≠s:=by
 refine⟨λh=>?_,my⟩;refine Cc (Int.le_refl _) (Int.le_refl _) (.inr (Classical.byContradiction λhn=>?_));have WY:∀f∈l.filter (eJ y high),iq f s=s:=λf hf=>Classical.byContradiction λhe=>hn ⟨f,hf,he⟩;have:∀(m:List O') (a:Int×Bool),(∀f∈m,iq f s=s)->m.foldl (je s) a=a:=by
  intro m
  induction m with
  |nil=>intro a _;rfl
  |cons f m ih=>
   intro a hm;rw[gC,show je s a f=a by unfold je;rw[av (.inl (hm f (by simp)))]];exact ih a λg hg=>hm g (by simp[hg])
 unfold cL at h;rw[this _ _ WY]at h;cases h
def mf{l:List O'}{w high y:Int}{s:Wq}:mK l w high s y=true↔(cL l y high s).2=false\/w<=fB (bZ l y high s):=by
 have h:=Gn (l:=l) (y:=y) (high:=high) (s:=s);simp only[mK,lP,X7];cases hn:(cL l y high s).2
 .rw[hn]at h;have:bZ l y high s=s:=Classical.byContradiction λV2=>by simpa using h.2 V2
  simp[this]
 .rw[hn]at h;have:=h.1 rfl;simp[this]
def D0{l:List O'}{y high:Int}{s:Wq}(h:gtJ l y=0):(cL l y high s).2=false:=by
 cases hn:(cL l y high s).2
 .rfl
 .have:=mA (fa hn);omega
def wo{l:List O'}{w high:Int}{s:Wq}:∀(k k':Nat) (y:Int),gtJ l y<=k->gtJ l y<=k'->kr l w high s k y=kr l w high s k' y
 |0,k',y,h,_=>by
  have hf:mK l w high s y=true:=mf.2 (.inl (D0 (by omega)));cases k'<;>simp[kr,hf]
 |k+1,0,y,_,h=>by
  have hf:mK l w high s y=true:=mf.2 (.inl (D0 (by omega)));simp[kr,hf]
 |k+1,k'+1,y,h,h'=>by
  simp only[kr];by_cases hf:mK l w high s y=true
  .simp[hf]
  .simp only[hf,gi,if_false];have hn:(cL l y high s).2=true:=by
    cases hn:(cL l y high s).2
    .exact absurd (mf.2 (.inl hn)) hf
    .rfl
   have:=mA (fa hn);exact wo k k' _ (by omega) (by omega)
def Iu(l:List O')(y:Int):gtJ l y<=l.length:=List.length_filter_le _ _
def GX{l:List O'}{w high y:Int}{s:Wq}:gQ l w high s y=if(cL l y high s).2=false\/w<=fB (bZ l y high s)then y else gQ l w high s (cL l y high s).1:=by
 have e:gQ l w high s y=kr l w high s (l.length+1) y:=wo _ _ _ (Iu l y) (by have:=Iu l y;omega);rw[e,kr];by_cases hf:mK l w high s y=true
 .rw[av hf,av (mf.1 hf)]
 .rw[aD hf,aD (λh=>hf (mf.2 h))];rfl
def ot{l:List O'}{w high y:Int}{s:Wq}:kY l w high s y=true↔(cL l y high s).2=false\/fB (bZ l y high s)>=w:=by
 simp[kY]
def wL{l:List O'}{w high:Int}{s:Wq}{k:Nat}{y:Int}(h:kY l w high s y=true):jd l w high s k y=y:=by
 cases k<;>simp[jd,h]
def G2{l:List O'}{w high:Int}{s:Wq}{k:Nat}{y:Int}(hk:gtJ l y<=k)(h:kY l w high s y=false):∃k',k=k'+1/\gtJ l (cL l y high s).1<=k'/\jd l w high s k y=jd l w high s k' (cL l y high s).1:=by
 have hn:(cL l y high s).2=true:=by
  cases hn:(cL l y high s).2
  .rw[ot.2 (.inl hn)]at h;cases h
  .rfl
 have:=mA (fa hn);obtain⟨k',rfl⟩:∃k',k=k'+1:=⟨k-1,by omega⟩
 exact⟨k',rfl,by omega,by rw[jd,h];rfl⟩
open Go.Proofs
def vd(l:List Nd)(w:Int):Nat->Nat->Rm
 |0,_=>⟨0,w⟩
 |k+1,a=>if dh l a<0 then⟨0,w⟩else jG (vd l w k (dh l a).toNat) (tY l (dh l a).toNat)
def lD(l:List Nd)(w:Int)(a:Nat):Rm:=vd l w (a+1) a
def uN{l:List Nd}{w:Int}:∀(k j a:Nat),a<k->a<j->vd l w k a=vd l w j a
 |0,_,_,h,_=>by omega
 |_+1,0,_,_,h=>by omega
 |k+1,j+1,a,h,h'=>by
  have hr:=eo l a;rw[vd,vd];split
  .rfl
  .rw[uN k j (dh l a).toNat (by omega) (by omega)]
def Bs{l:List Nd}{w:Int}{a:Nat}:lD l w a=if dh l a<0 then⟨0,w⟩else jG (lD l w (dh l a).toNat) (tY l (dh l a).toNat):=by
 have hr:=eo l a;unfold lD;rw[vd];split
 .rfl
 .rw[uN a ((dh l a).toNat+1) _ (by omega) (by omega)]
def zL(l:List Nd)(w:Int)(p:Int):Rm:=if p<0 then⟨0,w⟩else jG (lD l w p.toNat) (tY l p.toNat)
def si{l:List Nd}{w:Int}:∀(k b a e:Nat) (p:Int) (r:Rm),e<=l.length->Mw l p a e->r=zL l w p->e-b<=k->a<=b->b<=e->bS l b e=true->(∀i,a<=i->i<b->(i:Int)+VM l i<=b)->
 ∀j,b<=j->j<e->(dq l k b e r)[j-b]?=some (lD l w j)
 |0,b,a,e,p,r,_,_,_,h,_,_,_,_,j,h1,h2=>by omega
 |k+1,b,a,e,p,r,he,hA,hr,hk,Zs,hbe,hrw,hpre,j,h1,h2=>by
  have B':b<e:=by omega
  have hb:b<l.length:=by omega
  obtain⟨hend,Wc⟩:=cA he hrw (Wa b) B';obtain⟨hr2,hin⟩:=df he hrw B';rw[dq,av B'];have hp:dh l b=p:=by
   rcases hA with⟨rfl,rfl⟩|⟨q,rfl,rfl,hq⟩
   .exact x8 hb b (Wa _) (λi hi=>hpre i (by omega) hi)
   .exact Dx hb (by omega) b (by omega) (Wa _) (λi h1 h2=>hpre i (by omega) h2)
  have hrb:r=lD l w b:=by rw[hr,Bs,hp];rfl
  by_cases e1:j=b
  .subst e1;rw[Nat.sub_self,IY,hrb]
  .obtain⟨d,rfl⟩:∃d,j=b+1+d:=⟨j-b-1,by omega⟩
   rw[show b+1+d-b=d+1 by omega,Dq];have Xs:=jL (l:=l) (e:=b+(VM l b).toNat) (by omega) k (b+1) (jG r (tY l b)) (by omega) (by omega) hin;have hri:jG r (tY l b)=zL l w (b:Int):=by
    unfold zL;rw[aD (by omega),hrb];rfl
   by_cases h3:b+1+d<b+(VM l b).toNat
   .rw[HE (by omega)];have:=si (w:=w) k (b+1) (b+1) (b+(VM l b).toNat) b _ (by omega) (.inr ⟨b,rfl,rfl,by omega⟩) hri (by omega) (Wa _) (by omega) hin (λi h1 h2=>by omega) (b+1+d) (by omega) h3
    rwa [show b+1+d-(b+1)=d by omega]at this
   .rw[JD (by omega),Xs];have:=si (w:=w) k (b+(VM l b).toNat) a e p r he hA hr (by omega) (by omega) (by omega) hr2 (λi h1 h2=>by
     by_cases e2:i<b
     .have:=hpre i h1 e2;omega
     .by_cases e3:i=b
      .subst e3;omega
      .have:=(cA (by omega) hin (k:=i) (by omega) h2).1;omega) (b+1+d) (by omega) h2
    rwa [show b+1+d-(b+(VM l b).toNat)=d-(b+(VM l b).toNat-(b+1)) by omega]at this
def xU{l:List Nd}(hb:Wg l=true){w:Int}{a:Nat}(ha:a<l.length):(cI l w).getD a ⟨0,0⟩=lD l w a:=by
 have hr:bS l 0 l.length=true:=by simp only[Wg,Ba]at hb;exact hb.2
 have:=si (w:=w) l.length 0 0 l.length (-1) ⟨0,w⟩ (Wa _) (.inl ⟨rfl,rfl⟩) (by simp[zL]) (by omega) (Wa _) (by omega) hr (λi _ h=>by omega) a (by omega) ha;rw[Nat.sub_zero]at this;unfold cI;rw[xA,this];rfl
def AB{l:List Nd}(hb:Wg l=true)(hn:l.length<=2000){w:Int}(h1:1<=w)(h2:w<=1099511627776){a:Nat}(ha:a<l.length):(lD l w a).ok:=by
 have hr:bS l 0 l.length=true:=by simp only[Wg,Ba]at hb;exact hb.2
 have hlen:(cI l w).length=l.length:=by unfold cI;rw[jL (Wa _) _ _ _ (by omega) (by omega) hr];omega
 rw[<-xU hb ha,xA,Zq6 (by omega),Option.getD_some];exact oz hb _ _ _ _ (Wa _) hr ⟨by simp,by simp,h1,h2⟩ _ (Ws _)
def CT{l:List Nd}(hb:Wg l=true){w:Int}{a:Nat}(ha:a<l.length):fE (cI l w) a=⟨(lD l w a).x,(lD l w a).x+(lD l w a).w⟩:=by
 unfold fE;rw[xU hb ha]
def qO(l:List Nd)(rs:List Rm)(s:WS)(a:Nat):WS:=
 if(Wu l a).kind=1 then(dt l rs (a+(VM l a).toNat-(a+1)) (a+1) (a+(VM l a).toNat) (s.enter (Wu l a).st)).leave (Wu l a).st
 else if(Wu l a).kind=2 then s.text rs a (Wu l a)else if(Wu l a).kind=3 then WS.mono l rs s a (Wu l a)else s.float rs a (Wu l a)
def vp{l:List Nd}{rs:List Rm}{b e:Nat}(he:e<=l.length)(hr:bS l b e=true)(B':b<e)(s:WS):
 dt l rs (e-b) b e s=dt l rs (e-(b+(VM l b).toNat)) (b+(VM l b).toNat) e (qO l rs s b):=yD he hr B' s
def wi{l:List Nd}{rs:List Rm}{e:Nat}(s:WS):dt l rs (e-e) e e s=s:=by rw[Nat.sub_self];rfl
def hiF(h:Int)(l:List O'):Int:=l.foldl (λh f=>max h (f.y+f.h)) h
def Eh:∀(l:List O') (a:Int) (p:Int),(∀f∈l,f.side=1\/f.side=2)->(l.foldl (iy (fX 3)) (a,true)).2=true/\max p (l.foldl (iy (fX 3)) (a,true)).1=hiF (max p a) l
 |[],a,p,_=>⟨rfl,rfl⟩
 |f::l,a,p,h=>by
  have hf:(fX 3 f).2=true:=by
   rcases h f (by simp)with e|e<;>simp only[fX,e]<;>decide
  have h1:iy (fX 3) (a,true) f=(max a (f.y+f.h),true):=by
   unfold iy;rw[hf];simp only[fX,true_and,Bool.true_eq_false,false_or];split
   .congr 1;omega
   .congr 1;omega
  obtain⟨g1,g2⟩:=Eh l (max a (f.y+f.h)) p (λg hg=>h g (by simp[hg]));rw[gC,h1];refine⟨g1,?_⟩;rw[g2];unfold hiF;rw[gC];congr 1;omega
def Kx{s:WS}(h:SdI s):wz s=hiF (s.VD.y+s.VD.m) s.u':=by
 unfold wz cH;unfold SdI at h;cases hl:s.u' with
 |nil=>simp[hiF]
 |cons f l=>
  rw[hl]at h;have hf:(fX 3 f).2=true:=by
   rcases h f (by simp)with e|e<;>simp only[fX,e]<;>decide
  have h1:iy (fX 3) (0,false) f=(f.y+f.h,true):=by
   unfold iy;rw[hf];simp[fX]
  obtain⟨g1,g2⟩:=Eh l (f.y+f.h) (s.VD.y+s.VD.m) (λg hg=>h g (by simp[hg]));rw[gC,h1,av g1,g2];rfl
def Hv{h:Int}{l:List O'}{i:Nat}(hi:i<l.length):hiF h (l.take (i+1))=max (hiF h (l.take i)) (l[i].y+l[i].h):=by
 unfold hiF;rw[XH hi,kZ];rfl
def AnI(s:WS):Prop:=∀f∈s.u',0<=f.anchor
def AnI.same{s t:WS}(h:AnI s)(e:t.u'=s.u'):AnI t:=λf hf=>h f (e▸hf)
def w8{l:List Nd}{rs:List Rm}:∀(k a e:Nat) (s:WS),AnI s->AnI (dt l rs k a e s)
 |0,_,_,_,h=>h
 |k+1,a,e,s,h=>by
  rw[dt];by_cases B':a<e
  .rw[av B'];refine w8 k _ e _ ?_;split
   .exact AnI.same (w8 k _ _ _ (h.same (t:=s.enter (Wu l a).st) rfl)) rfl
   .split
    .exact h.same (sD _ _ _ _)
    .split
     .exact h.same rfl
     .intro f hf;simp only[WS.float,nt,ec,jO]at hf;rcases hf with hf|rfl
      .exact h f hf
      .simp[iZ]
  .rw[aD B'];exact h
def H4{n:Nat}{f:O'}(h:0<=f.anchor):lW n f=if f.anchor>=n then{ f with anchor:=max ((n:Int)-1) 0 }else f:=by
 obtain⟨a,b,c,d,e,g,i⟩:=f;unfold lW;simp only at h|-;split
 .congr 1;omega
 .congr 1;omega
def jq(l:List Nd)(of:List Int)(i:Nat)(k:Int):Bool:=decide (0<=k/\k<of.length)&&cB l i (of.getD k.toNat 0)
def j9(l:List Nd)(p:Nat->Bool)(n:Nat):List Int:=((List.range n).filter λi=>decide (kdI l i=1)&&p i).map λ(i:Nat)=>(i:Int)
def ml{l:List Nd}{p:Nat->Bool}{n:Nat}:j9 l p (n+1)=j9 l p n++if kdI l n=1/\p n=true then[(n:Int)]else[]:=by
 unfold j9;rw[List.range_succ,List.filter_append,dG];congr 1;by_cases h1:kdI l n=1<;>cases h2:p n<;>simp[h1,h2]
def mI{l:List Nd}{a:Nat}:∀n:Nat,dH l a n=(((List.range n).filter λ(i:Nat)=>cB l i a).map λ(i:Nat)=>(i:Int)).reverse
 |0=>rfl
 |n+1=>by
  rw[dH,List.range_succ,List.filter_append,dG,List.reverse_append,<-mI n];cases h:cB l n a<;>simp[h]
def An{l:List Nd}(hb:Wg l=true){i a:Nat}(hia:i<a)(h:cB l i a=true):kdI l i=1:=by
 obtain⟨h1,h2,h3,h4⟩:=iP.1 h;have Xx:i<l.length:=by omega
 obtain⟨g1,g2,g3⟩:=uU hb Xx;rw[My Xx];rw[fp,iB Xx]at h4;rcases g3 with g3|g3
 .exact g3
 .omega
def Ep{l:List Nd}{p:Nat->Bool}{a:Nat}:∀d:Nat,(∀i,a<=i->i<a+d->kdI l i=1->p i=false)->j9 l p (a+d)=j9 l p a
 |0,_=>rfl
 |d+1,h=>by
  rw[<-Nat.add_assoc,ml,Ep d λi h1 h2=>h i h1 (by omega)];rw[aD,jt];rintro⟨h1,h2⟩;rw[h (a+d) (by omega) (by omega) h1]at h2;cases h2
def nS(p:Int->Bool):∀L:List Nat,(L.map λ(i:Nat)=>(i:Int)).filter p=(L.filter λ(i:Nat)=>p i).map λ(i:Nat)=>(i:Int)
 |[]=>rfl
 |x::L=>by
  rw[fF,List.filter_cons,List.filter_cons,nS p L];cases p x<;>simp
def Dl{l:List Nd}(hb:Wg l=true){of:List Int}(Wr:∀x∈of,(0<=x/\x<l.length)/\kdI l x.toNat≠1)(k:Int)(p:Int->Bool):
 chR l of k p=(j9 l (λi=>jq l of i k&&p i) l.length).reverse:=by
 unfold chR;split
 .rename_i hk;have hkn:k.toNat<of.length:=by omega
  have aaa:=Ws hkn;obtain⟨⟨h1,h2⟩,h3⟩:=Wr _ aaa;have ZK:of.getD k.toNat 0=of[k.toNat]:=by simp[hkn]
  have hrf:∀i,jq l of i k=cB l i of[k.toNat]:=λi=>by
   unfold jq;rw[ZK,WJ hk,Bool.true_and]
  rw[ZK];generalize of[k.toNat]=x at*;obtain⟨a,rfl⟩:∃a:Nat,x=a:=⟨x.toNat,by omega⟩
  rw[fp]at h3|-;have YX:a<l.length:=by omega
  rw[Cv hb YX,mI,List.filter_reverse,nS,List.filter_filter];have hd:l.length=a+(l.length-a):=by omega
  rw[hd,Ep (l.length-a) λi h4 h5 h6=>?_]
  .unfold j9;congr 2;refine List.filter_congr λi hi=>?_;rw[List.mem_range]at hi;simp only[hrf];cases hh:cB l i a
   .simp
   .simp[An hb hi hh]
  .rw[hrf];have:cB l i a=false:=by
    cases hh:cB l i a
    .rfl
    .have:=iP.1 hh;have:i=a:=by omega
     subst this;exact absurd h6 h3
   rw[this];rfl
 .rename_i hk;have:j9 l (λi=>jq l of i k&&p i) l.length=[]:=by
   unfold j9;rw[List.map_eq_nil_iff,List.filter_eq_nil_iff];intro i _;unfold jq;rw[WW hk];simp
  rw[this];rfl
def zi{l:List Nd}{of:List Int}(Wr:∀x∈of,(0<=x/\x<l.length)/\kdI l x.toNat≠1){i:Nat}(hi:i<l.length)(k:Int):hAt l of i k=jq l of i k:=by
 unfold hAt jq;split
 .rename_i hk;have hkn:k.toNat<of.length:=by omega
  obtain⟨⟨h1,h2⟩,h3⟩:=Wr _ (Ws hkn);have ZK:of.getD k.toNat 0=of[k.toNat]:=by simp[hkn]
  rw[ZK,WJ hk,Bool.true_and];rw[Bool.eq_iff_iff,iP];simp only[vM,X7];omega
 .rename_i hk;rw[WW hk];rfl
def qe{l:List Nd}{p q:Nat->Bool}{n:Nat}(h:∀i,i<n->p i=q i):j9 l p n=j9 l q n:=by
 unfold j9;congr 1;exact List.filter_congr λi hi=>by rw[h i (List.mem_range.1 hi)]
def JT{l:List Nd}(hb:Wg l=true){of:List Int}(Wr:∀x∈of,(0<=x/\x<l.length)/\kdI l x.toNat≠1)(k:Nat):
 cK l of k=⟨(j9 l (λi=>jq l of i ((k:Int)-1)&&!jq l of i k) l.length).reverse,j9 l (λi=>jq l of i k&&!jq l of i ((k:Int)-1)) l.length,
  (j9 l (λi=>jq l of i ((k:Int)-1)&&jq l of i k) l.length).reverse,if 0<k/\k<of.length/\of.getD k 0=of.getD (k-1) 0 then of.getD k 0 else -1⟩:=by
 unfold cK;rw[Dl hb Wr,Dl hb Wr,Dl hb Wr,List.reverse_reverse];refine congr (congr (congr (congrArg Kn.mk ?_) ?_) ?_) rfl
 .exact congrArg List.reverse (qe λi hi=>by rw[zi Wr hi])
 .exact qe λi hi=>by rw[zi Wr hi]
 .exact congrArg List.reverse (qe λi hi=>by rw[zi Wr hi,Bool.and_comm])
def jj(all:List Int):Int:=match all.reverse.find? λn=>decide (n=3\/n=4)with
 |some n=>n
 |none=>if 2∈all then 2 else 0
def zo(L:List Int)(n:Int):dc (L++[n])=kx (dc L) n:=by unfold dc;rw[kZ];rfl
def yR(L:List Int)(n:Int):jj (L++[n])=if n=3\/n=4 then n else if n=2 then(if jj L=0 then 2 else jj L)else jj L:=by
 unfold jj;rw[List.reverse_append,List.reverse_singleton,List.singleton_append,List.find?_cons];by_cases h:n=3\/n=4
 .rw[WJ h,av h]
 .rw[WW h,aD h];simp only[ec,jO];cases hf:L.reverse.find? λn=>decide (n=3\/n=4)with
  |some m=>
   have:=List.find?_some hf;simp only[X7]at this;simp only;split
   .rw[aD (by omega)]
   .rfl
  |none=>
   simp only;by_cases h2:n=2
   .subst h2;simp only[or_true,if_true];by_cases h4:2∈L<;>simp[h4]
   .have:¬(2=n):=λe=>h2 e.symm;simp only[this,or_false,h2,if_false]
def xF:∀(n:Nat) (L:List Int),L.length=n->dc L=jj L
 |0,L,h=>by rw[pV h];rfl
 |n+1,L,h=>by
  have V2:L≠[]:=λe=>by rw[e]at h;cases h
  rw[<-List.dropLast_concat_getLast V2,zo,yR,xF n _ (by rw[List.length_dropLast];omega)];generalize L.getLast V2=m;generalize jj L.dropLast=q;unfold kx mN;by_cases h1:m=3\/m=4
  .simp[h1]
  .by_cases h2:m=2
   .subst h2;simp
   .simp[h1,h2]
def Sg(a b c:Bool):Cd (Cd (Cd 0 0 a) 1 b) 2 c=(if a then 1 else 0)+2*(if b then 1 else 0)+4*(if c then 1 else 0):=by
 cases a<;>cases b<;>cases c<;>rfl
def KZ{l:List Nd}{of:List Int}{k:Nat}:mq l of k=if k=0\/k=of.length then 0 else
 (if Fx l of (cK l of k).text k then 1 else 0)+2*(if qJ l (cK l of k)then 1 else 0)+4*(if 1∈iD l of k then 1 else 0):=by
 unfold mq;split
 .rfl
 .simp only[dN,kP,Sg];simp
def D5{α:Type}(f:α->Int):∀(L:List α) (m:Int),(m=0\/m=1)->(∀x∈L,0<=f x/\f x<=1)->L.foldl (λm x=>max m (f x)) m=if m=1\/(L.any λx=>decide (f x=1))=true then 1 else 0
 |[],m,h,_=>by rcases h with rfl|rfl<;>simp
 |x::L,m,h,hL=>by
  have hx:=hL x (by simp);rw[gC,D5 f L _ (by omega) λy hy=>hL y (by simp[hy])];rw[List.any_cons];by_cases e:f x=1
  .simp[e];have:max m 1=1:=by omega
   simp[this]
  .have:f x=0:=by omega
   have hm:max m (f x)=m:=by omega
   rw[hm];simp[e]
def jv(l:List Nd)(a:Nat)(h:Int):Nat->Kp
 |0=>⟨[],0,h⟩
 |n+1=>if cB l n a=true then ir l (jv l a h n) n else jv l a h n
def xR{l:List Nd}{L:List Int}{h:Int}:∀m,m<=L.length->ig l L h m=(L.reverse.take m).foldl (ir l) ⟨[],0,h⟩
 |0,_=>rfl
 |m+1,hm=>by
  have hml:m<L.reverse.length:=by rw[List.length_reverse];omega
  rw[ig,xR m (by omega),XH hml,kZ];have:L.getD (L.length-1-m) 0=L.reverse[m]:=by
   rw[List.getElem_reverse];have:L.length-1-m<L.length:=by omega
   simp[this]
  rw[this];rfl
def uM{l:List Nd}{a:Nat}{h:Int}:∀n,jv l a h n=(((List.range n).filter λ(i:Nat)=>cB l i a).map λ(i:Nat)=>(i:Int)).foldl (ir l) ⟨[],0,h⟩
 |0=>rfl
 |n+1=>by
  rw[jv,List.range_succ,List.filter_append,dG,kZ,<-uM n];cases hh:cB l n a<;>simp[hh]
def LK{l:List Nd}(hb:Wg l=true){a:Nat}(ha:a<l.length){h:Int}:qh l a h=jv l a h a:=by
 unfold qh;rw[xR _ (Wa _),nq (by rw[List.length_reverse];exact Wa _),Cv hb ha,mI,List.reverse_reverse,uM]
def AN{l:List Nd}{x:Kp}{a:Int}(h0:0<=(XA l a).head):ir l x a=if(XA l a).head=0\/(XA l a).head>=x.body then x else⟨x.VU++[a],x.high+(XA l a).head,x.body-(XA l a).head⟩:=by
 unfold ir;by_cases h:(XA l a).head=0\/(XA l a).head>=x.body
 .rw[av (by omega),av h]
 .rw[aD (by omega),aD h]
def yJ{l:List Nd}(hb:Wg l=true){a:Nat}{h:Int}(hh:1<=h):∀n,n<=l.length->(jv l a h n).VU.length<=n/\0<=(jv l a h n).high/\1<=(jv l a h n).body/\(jv l a h n).high+(jv l a h n).body=h
 |0,_=>by simp[jv];omega
 |n+1,hn=>by
  obtain⟨h1,h2,h3,h4⟩:=yJ hb hh (a:=a) n (by omega);have h0:0<=(XA l (n:Int)).head:=by
   rw[eU (by omega)];exact(fw hb (by omega)).st.head.1
  rw[jv];split
  .rw[AN h0];split
   .exact⟨by omega,h2,h3,h4⟩
   .simp only[jm,XU,List.length_nil];omega
  .exact⟨by omega,h2,h3,h4⟩
def BQ{l:List Nd}{h:Int}{j:Nat}:ie l h (j+1)=if(Wu l j).kind=2\/(Wu l j).kind=3 then min (ie l h j) (qh l j h).body else ie l h j:=rfl
def bq(b:List Xt)(i n:Nat):Fd×Bool:=fb iF ((List.range' (i+1) n).map (jr b)) tX
def Eb{b:List Xt}{i n:Nat}:bq b i (n+1)=if iF (jr b (i+1+n)) (bq b i n).1 (bq b i n).2 then(jr b (i+1+n),true)else bq b i n:=by
 unfold bq;rw[List.range'_concat,dG,List.map_singleton,pZ,Nat.one_mul];rfl
def CO{b:List Xt}{i:Nat}:∀n,((bq b i n).2=false/\(bq b i n).1=tX/\n=0)\/∃c,(bq b i n).2=true/\(bq b i n).1=jr b c/\i+1<=c/\c<i+1+n
 |0=>.inl ⟨rfl,rfl,rfl⟩
 |n+1=>by
  right;rw[Eb];rcases CO (b:=b) (i:=i) n with⟨h1,_,rfl⟩|⟨c,h1,h2,h3,h4⟩
  .rw[av (by simp[iF,h1])];exact⟨_,rfl,rfl,by omega,by omega⟩
  .split
   .exact⟨_,rfl,rfl,by omega,by omega⟩
   .exact⟨c,h1,h2,h3,by omega⟩
def LH{b:List Xt}{i n:Nat}:(bq b i (n+1)).1.i=if(bq b i n).1.i<0\/(WR b (i+1+n)).V6<=(WR b (bq b i n).1.i.toNat).V6 then((i+1+n:Nat):Int)else(bq b i n).1.i:=by
 rw[Eb];rcases CO (b:=b) (i:=i) n with⟨h1,h2,rfl⟩|⟨c,h1,h2,h3,h4⟩
 .rw[av (by simp[iF,h1]),av (.inl (by rw[h2];decide))];rfl
 .have e1:(jr b c).i=(c:Int):=rfl;have e2:(jr b c).b=WR b c:=rfl;have e3:(jr b (i+1+n)).b=WR b (i+1+n):=rfl;rw[h2,h1,e1,fp];unfold iF;rw[e2,e3];simp only[Bool.not_true,Bool.false_or,X7];by_cases h:(WR b (i+1+n)).V6<=(WR b c).V6
  .rw[av h,av (.inr h)];rfl
  .rw[aD h,aD (by omega),h2];rfl
def Di(b:List Xt)(i:Nat)(to:Int):btw b ((i:Int)+1) to=List.range' (i+1) (mv b ((i:Int)+1) to):=by
 unfold btw;rw[show(max ((i:Int)+1) 0).toNat=i+1 by omega]
def I2{b:List Xt}{i:Nat}{to:Int}:AA b ((i:Int)+1) to=(bq b i (mv b ((i:Int)+1) to)).1.i:=by
 unfold AA bq;rw[Di]
def Jr{b:List Xt}{i:Nat}{to:Int}:mv b ((i:Int)+1) to=(min to ((b.length:Int)-1)-i).toNat:=by
 unfold mv;congr 1;omega
def uR:∀(l:List Fd) (x:Fd),l.foldl (fQ fI) (x,true)=(x,true)
 |[],x=>rfl
 |y::l,x=>by rw[gC];exact uR l x
def pC:∀(l:List Fd) (d:Fd),(∀x∈l,x.b.forced=0)->fb fI l d=(d,false)
 |[],d,_=>rfl
 |y::l,d,h=>by
  unfold fb;rw[gC,show fQ fI (d,false) y=(d,false) by simp[fQ,fI,h y (by simp)]];exact pC l d λx hx=>h x (by simp[hx])
def Ci{b:List Xt}{i:Nat}{to:Int}(h:∀k:Nat,i<k->k<=i+mv b ((i:Int)+1) to->(WR b k).forced=0):jM b ((i:Int)+1) to=-1:=by
 unfold jM;rw[Di,pC]
 .rfl
 .intro x hx;obtain⟨k,hk,rfl⟩:=gM.1 hx;rw[List.mem_range'_1]at hk;exact h k (by omega) (by omega)
def F4{b:List Xt}{i j:Nat}{to:Int}(hj:j<mv b ((i:Int)+1) to)(h:∀k:Nat,i<k->k<=i+j->(WR b k).forced=0)(hf:(WR b (i+1+j)).forced≠0):jM b ((i:Int)+1) to=((i+1+j:Nat):Int):=by
 unfold jM;obtain⟨r,hr⟩:∃r,mv b ((i:Int)+1) to=j+(r+1):=⟨mv b ((i:Int)+1) to-j-1,by omega⟩
 rw[Di,hr,<-List.range'_append_1,dG];unfold fb;rw[kZ];have h1:=pC ((List.range' (i+1) j).map (jr b)) tX λx hx=>by
  obtain⟨k,hk,rfl⟩:=gM.1 hx;rw[List.mem_range'_1]at hk;exact h k (by omega) (by omega)
 unfold fb at h1;rw[h1,List.range'_succ,fF,gC];have h2:fQ fI (tX,false) (jr b (i+1+j))=(jr b (i+1+j),true):=by
  have e3:(jr b (i+1+j)).b=WR b (i+1+j):=rfl;simp[fQ,fI,e3,hf]
 rw[h2,uR];rfl
def uW(b:List Xt)(i fit:Int):Int:=if eG b i fit then qf b i fit else -1
open Go.Proofs
def Ik(l:List WE)(hl:jU l)(hpw:l.Pairwise λx y=>x.y+x.h<=y.y)(Xd:∀a∈l,1<=a.h)(s:W7)(hm:de l s)(hd:s.done<=1152921504606846976)(kept shift body:Int)(hk:-1152921504606846976<=kept/\kept<=1152921504606846976)(YO:0<=shift/\shift<=1152921504606846976):
 aL prog 69 [bn l,aZ s,vI kept,vI shift,vI body] (vI (iT l s kept shift body)):=λU=>by
 refine e69.q ?_;have hs:=aa.refl U;have hc:=lG l s;rw[WJ hm]at hc;have Xs:=gj l;have hll:=hl.len;obtain⟨r,h1,h2,h3,h4,h5⟩:=pP (b:=⟨[],0,0,l,[],0,[]⟩) hpw Xd hm kept shift body;simp only at h1 h3 h4 h5;rw[h1];have XX:=λ(k:Nat) (W4:s.atom<=k) (Xf:k<l.length)=>LG l hl s hm hd kept shift body k hk YO W4 Xf;have hm0:=hm;obtain⟨a,d,fr⟩:=s;obtain⟨⟨g0,g1⟩,g2,g3⟩:=hm;simp only at g0 g1 g2 g3 hd h2 h4 h5 XX;obtain⟨n,rfl⟩:∃n:Nat,a=n:=⟨a.toNat,by omega⟩
 refine mS 12 ?_;simp only[go_sem,seval,c69,aZ];refine ar hs λi6 Z6 s6 a6 f6 _ hs=>?_;simp only[go_sem,seval,a6];refine pS rfl (hc _) ?_;simp only[go_sem,seval,a6];refine ai.loop (λm st=>∃k:Nat,n<=k/\k<=r/\m=r-k/\aa U st.U/\st.U i6=some ⟨24,3,[.agg [vI n,vI d,.bool fr]]⟩/\st.s 0=bn l/\st.s 2=vI kept/\st.s 3=vI shift/\st.s 4=vI body/\st.s 6=.ptr i6 0 0/\st.s 11=vI k) (r-n) ?_ ?_
 .exact⟨n,by omega,by omega,rfl,hs,a6,rfl,rfl,rfl,rfl,rfl,rfl⟩
 .clear a6;rintro m ⟨S,J⟩ ⟨k,hnk,hkr,rfl,hs,a6,k0,k2,k3,k4,k6,YM⟩;simp only at hs a6 k0 k2 k3 k4 k6 YM;refine ai.mix 12 ?_;by_cases B':k<l.length
  .have q:=qT B';have r1:=rI k;have hft:=XX k (by omega) B';apply sR;simp only[go_sem,seval,k0,k2,k3,k4,k6,YM,q,Xs,a6];refine pR rfl (hft _) ?_;by_cases hkr2:k<r
   .have q2:(cD l ⟨n,d,fr⟩ kept shift k+l[k].h<=body)=True:=L' (h4 k B' (by omega) hkr2);apply sR;simp only[go_sem,seval,k0,k2,k3,k4,k6,YM,q2,r1,a6];exact⟨_,by omega,k+1,by omega,by omega,rfl,hs,by simp⟩
   .obtain rfl:k=r:=by omega
    have q2:(cD l ⟨n,d,fr⟩ kept shift k+l[k].h<=body)=False:=H' (by have:=h5 B';omega);apply sR;simp only[go_sem,seval,YM,q2];exact ak.pure hs rfl
  .have q:=qF B';obtain rfl:k=r:=by omega
   apply sR;simp only[go_sem,seval,k0,YM,q,Xs];exact ak.pure hs rfl
def KO(b:List Xt)(k m:Nat)(hk:k<b.length)(hm:m<k):aL prog 110 [bG b,vI k,vI m] (.bool (decide ((WR b k).V6<=(WR b m).V6))):=λU=>by
 refine Uy.q ?_;have hs:=aa.refl U;have hn:dX false (bG b)=some (.int .i64 b.length):=by simp[bG,dX]
 have hml:m<b.length:=by omega
 have hik:∀U,bO U 3 (bG b) (.int .i64 k)=some (.rp (bY b[k])):=λU=>by simp[bG,bO,hk]
 have him:∀U,bO U 3 (bG b) (.int .i64 m)=some (.rp (bY b[m])):=λU=>by simp[bG,bO,hml]
 have e1:WR b k=b[k]:=by simp[WR,hk]
 have e2:WR b m=b[m]:=by simp[WR,hml]
 rw[e1,e2];generalize b[k]=x at*;generalize b[m]=z at*;have q1:((k:Int)<0)=False:=H';have q2:((m:Int)<0)=False:=H';have q3:((k:Int)>=b.length)=False:=H';have q4:((m:Int)>=b.length)=False:=H';have q5:((k:Int)>m)=True:=L';refine ai.mix 7 ?_;by_cases h1:x.V6<z.V6
 .have q6:(x.V6<z.V6)=True:=L' h1;apply sR;simp only[go_sem,seval,Kt,hn,q1,q2,q3,q4,q6,hik,him,bY];exact ak.pure hs (by rw[WJ (show x.V6<=z.V6 by omega)])
 .have q6:(x.V6<z.V6)=False:=H' h1;by_cases h2:x.V6=z.V6
  .have q7:(x.V6=z.V6)=True:=L' h2;apply sR;simp only[go_sem,seval,Kt,hn,q1,q2,q3,q4,q5,q6,q7,hik,him,bY];exact ak.pure hs (by rw[WJ (show x.V6<=z.V6 by omega)])
  .have q7:(x.V6=z.V6)=False:=H' h2;apply sR;simp only[go_sem,seval,Kt,hn,q1,q2,q3,q4,q6,q7,hik,him,bY];exact ak.pure hs (by rw[WW (show¬x.V6<=z.V6 by omega)])
def GW(b:List Xt)(i:Nat):Prop:=
 ((0<i/\(i:Int)<(b.length:Int)-1)->(WR b i).cls=1\/(WR b i).cls=2)/\
 (¬(0<i/\(i:Int)<(b.length:Int)-1)->(WR b i).cls=if 0<i/\(i:Int)=(b.length:Int)-1 then 3 else 0)/\
 ((WR b i).forced=0\/(WR b i).forced=2\/(WR b i).forced=3\/(WR b i).forced=4)/\
 ((WR b i).forced≠0->(WR b i).cls≠2/\(WR b i).cls≠3/\(WR b i).V6=0)/\
 (0<=(WR b i).V6/\(WR b i).V6<=7)/\(¬(0<i/\(i:Int)<(b.length:Int)-1)->(WR b i).V6=0)
def sK{b:List Xt}{i:Nat}(hi:i<b.length):ik b i=true↔GW b i:=by
 unfold ik GW nJ;generalize WR b i=x;obtain⟨c,f,r⟩:=x;simp only[X7,decide_eq_false_iff_not];by_cases h0:(i:Int)=0
 .have q0:((i:Int)=0)=True:=L' h0;have q1:(0<i)=False:=H';simp only[q0,q1,false_and,if_false,not_true,not_false_eq_true,true_implies,false_implies,true_and,and_true,if_true];omega
 .have q0:((i:Int)=0)=False:=H' h0;have q1:(0<i)=True:=L';by_cases h2:(i:Int)=(b.length:Int)-1
  .have q2:((i:Int)=(b.length:Int)-1)=True:=L' h2;have q3:((i:Int)<(b.length:Int)-1)=False:=H';simp only[q0,q1,q2,q3,true_and,and_false,if_true,not_true,not_false_eq_true,true_implies,false_implies,and_true];omega
  .have q2:((i:Int)=(b.length:Int)-1)=False:=H' h2;have q3:((i:Int)<(b.length:Int)-1)=True:=L';simp only[q0,q1,q2,q3,true_and,if_false,not_true,not_false_eq_true,true_implies,false_implies,and_true];omega
def GD{b:List Xt}:nB b=true↔(∀i,i<b.length->GW b i)/\0<b.length:=by
 unfold nB;rw[Ba,fM,X7];constructor
 .rintro⟨h1,h2⟩;exact⟨λi hi=>(sK hi).1 (h1 i (List.mem_range.2 hi)),by omega⟩
 .rintro⟨h1,h2⟩;exact⟨λi hi=>(sK (List.mem_range.1 hi)).2 (h1 i (List.mem_range.1 hi)),by omega⟩
def yx{top shift body:Int}:∀(L:List O') (p q:List O'),q≠[]->L.foldl (λx f=>jw body x f (bV top shift f)) (p,q)=(p,q++L)
 |[],p,q,_=>by simp
 |f::L,p,q,h=>by
  have hl:jw body (p,q) f (bV top shift f)=(p,q++[f]):=by
   unfold jw mM;simp[h]
  rw[gC,hl,yx L p (q++[f]) (by simp)];simp
def Jg{top shift body:Int}{L:List O'}{j:Nat}(hj:j<L.length)(h:∀i (h:i<L.length),i<j->(bV top shift L[i]).y+L[i].h<=body)(hf:(bV top shift L[j]).y+L[j].h>body):
 jB top shift body L=((L.take j).map (bV top shift),L.drop j):=by
 have h1:∀i,i<=j->(L.take i).foldl (λx f=>jw body x f (bV top shift f)) ([],[])=((L.take i).map (bV top shift),[]):=by
  intro i
  induction i with
  |zero=>intro _;rfl
  |succ i ih=>
   intro hi;have Xx:i<L.length:=by omega
   rw[XH Xx,kZ,ih (by omega),dG];have:=h i Xx (by omega);have hm:(bV top shift L[i]).h=L[i].h:=rfl;simp only[gC,List.foldl_nil,jw,mM,ne_eq,not_true,false_or,hm];rw[WW (by omega)];simp
 unfold jB
 conv=>lhs;rw[<-ua j L]
 rw[kZ,h1 j (Wa _),ju hj,gC];have hm:(bV top shift L[j]).h=L[j].h:=rfl;have hl:jw body ((L.take j).map (bV top shift),[]) L[j] (bV top shift L[j])=((L.take j).map (bV top shift),[L[j]]):=by
  simp only[jw,mM,ne_eq,not_true,false_or,hm];rw[WJ (by omega)];simp
 rw[hl,yx _ _ _ (by simp)];rfl
def Fy{top shift body:Int}{L:List O'}(h:∀i (h:i<L.length),(bV top shift L[i]).y+L[i].h<=body):jB top shift body L=(L.map (bV top shift),[]):=by
 have h1:∀i,i<=L.length->(L.take i).foldl (λx f=>jw body x f (bV top shift f)) ([],[])=((L.take i).map (bV top shift),[]):=by
  intro i
  induction i with
  |zero=>intro _;rfl
  |succ i ih=>
   intro hi;have Xx:i<L.length:=by omega
   rw[XH Xx,kZ,ih (by omega),dG];have:=h i Xx;have hm:(bV top shift L[i]).h=L[i].h:=rfl;simp only[gC,List.foldl_nil,jw,mM,ne_eq,not_true,false_or,hm];rw[WW (by omega)];simp
 have:=h1 L.length (Wa _);rw[eF]at this;exact this
def Bh(b:Bk)(s:XY):Pag×XY:=
 if b.atoms=[]/\s.s.free=true then(⟨0,2,[],[],(b.VH.takeWhile (jc b.h)).map (db 0)⟩,⟨⟨0,0,false⟩,b.VH.dropWhile (jc b.h)⟩)
 else if s.s.atom=b.atoms.length then
  (⟨0,2,(YJ b.nodes b.w (bj b s.s).VU).1,[],(cC (bj b s.s).body s.bw 0).1.map (db (bj b s.s).high)⟩,⟨⟨b.atoms.length,0,false⟩,(cC (bj b s.s).body s.bw 0).2.1⟩)
 else if(cC (bj b s.s).body s.bw 0).2.1≠[]\/((cC (bj b s.s).body s.bw 0).2.2>0/\fO b.atoms s.s>(bj b s.s).body-(cC (bj b s.s).body s.bw 0).2.2)then
  (⟨0,2,(YJ b.nodes b.w (bj b s.s).VU).1,[],(cC (bj b s.s).body s.bw 0).1.map (db (bj b s.s).high)⟩,⟨s.s,(cC (bj b s.s).body s.bw 0).2.1⟩)
 else if uW b.V4 s.s.atom (iT b.atoms s.s (gZ b.atoms s.s ((bj b s.s).body-(cC (bj b s.s).body s.bw 0).2.2)) (cC (bj b s.s).body s.bw 0).2.2 (bj b s.s).body)<0 then
  (⟨0,1,(YJ b.nodes b.w (bj b s.s).VU).1,[cU (bj b s.s).high (j3 b.atoms s.s ((bj b s.s).body-(cC (bj b s.s).body s.bw 0).2.2))],
    (cC (bj b s.s).body s.bw 0).1.map (db (bj b s.s).high)++(dS b.atoms b.VH s.s (s.s.atom+1) 0 0 (bj b s.s).body).1.map (db (bj b s.s).high)⟩,
   ⟨fG b.atoms s.s ((bj b s.s).body-(cC (bj b s.s).body s.bw 0).2.2),(dS b.atoms b.VH s.s (s.s.atom+1) 0 0 (bj b s.s).body).2⟩)
 else
  let sh:=(cC (bj b s.s).body s.bw 0).2.2
  let kept:=gZ b.atoms s.s ((bj b s.s).body-sh)
  let cut:=uW b.V4 s.s.atom (iT b.atoms s.s kept sh (bj b s.s).body)
  (⟨0,1,(YJ b.nodes b.w (bj b s.s).VU).1,(List.range (cut.toNat-s.s.atom.toNat)).map λi:Nat=>cU (bj b s.s).high (dU b.atoms s.s kept sh (s.s.atom+(i:Nat))),
    (cC (bj b s.s).body s.bw 0).1.map (db (bj b s.s).high)++(dS b.atoms b.VH s.s cut kept sh (bj b s.s).body).1.map (db (bj b s.s).high)⟩,
   ⟨⟨cut,0,decide ((WR b.V4 cut.toNat).forced≠0)⟩,(dS b.atoms b.VH s.s cut kept sh (bj b s.s).body).2⟩)
def Bu{b:List Xt}{i fit:Int}(hf:fit<=(b.length:Int)-1):(uW b i fit<0↔¬eG b i fit)/\(eG b i fit->uW b i fit=qf b i fit/\∃c:Nat,qf b i fit=c):=by
 unfold uW;by_cases h:eG b i fit
 .obtain⟨c,h1,h2,h3⟩:=re h hf;rw[av h];exact⟨⟨λh'=>by omega,λh'=>absurd h h'⟩,λ_=>⟨rfl,c,h1⟩⟩
 .rw[aD h];exact⟨⟨λ_=>h,λ_=>by omega⟩,λh'=>absurd h' h⟩
def Jk{b:Bk}(hb:BkFull b)(hk:b.atoms.Pairwise λx y=>x.y+x.h<=y.y)(Xd:∀a∈b.atoms,1<=a.h){s:W7}(hm:de b.atoms s){sh body:Int}(hl:fO b.atoms s<=body-sh):
 s.atom<iT b.atoms s (gZ b.atoms s (body-sh)) sh body:=by
 obtain⟨r,h1,h2,h3,h4,h5⟩:=pP (b:=b) hk Xd hm (gZ b.atoms s (body-sh)) sh body;rw[h1];by_cases e:s.atom=r
 .exfalso;have hm0:=hm;obtain⟨⟨g0,g1⟩,g2,g3⟩:=hm;have hr:r<b.atoms.length:=by omega
  have:=h5 hr;rw[cD,av ⟨hm0,by omega,by omega⟩,fH,av ⟨⟨g0,g1⟩,by omega,by omega⟩,e]at this;rw[fO,av hm0,e,bp hr]at hl;unfold gZ at this;split at this
  .rename_i hc;obtain⟨c1,c2,c3,c4⟩:=hc;rw[e,bp hr]at c4;rw[e]at this;omega
  .omega
 .omega
def ID{b:Bk}(hb:BkFull b)(hk:b.atoms.Pairwise λx y=>x.y+x.h<=y.y)(Xd:∀a∈b.atoms,1<=a.h)(hmb:nB b.V4=true){s:XY}(hm:jP b s)(hpd:∀f∈s.bw,0<=f.h):dK b s=Bh b s:=by
 have hbrk:=hb.brk;have hrs:b.atoms=[]->bj b s.s=⟨[],0,b.h⟩:=λh=>by unfold bj;rw[av h]
 unfold dK Bh;by_cases h1:b.atoms=[]/\s.s.free=true
 .rw[av h1,av h1];simp only[mP,wm,oR,cq,Wx.put,hrs h1.1,YJ,List.foldl_nil,iC]
 .rw[aD h1,aD h1];by_cases h2:s.s.atom=b.atoms.length
  .rw[av (show nV b s from .inl h2),av h2];have hd:s.s.done=0:=by
    rcases hm.2 with h|h
    .have:=h.1.2;omega
    .exact h.2
   simp only[mP,fj,cq,Wx.put,iC,h2,hd,Int.lt_irrefl,decide_false,Bool.and_false]
  .rw[aD h2];have hf:de b.atoms s.s:=hm.2.resolve_right λh=>h2 h.1;by_cases h3:(cC (bj b s.s).body s.bw 0).2.1≠[]\/((cC (bj b s.s).body s.bw 0).2.2>0/\fO b.atoms s.s>(bj b s.s).body-(cC (bj b s.s).body s.bw 0).2.2)
   .rw[av (show nV b s from .inr h3),av h3];have:decide (s.s.atom<(b.atoms.length:Int))=true:=WJ hf.1.2;simp only[mP,fj,cq,Wx.put,iC,this,Bool.and_true]
   .rw[aD (show¬nV b s from λh=>h.elim h2 h3),aD h3];have XX:iT b.atoms s.s (gZ b.atoms s.s ((bj b s.s).body-(cC (bj b s.s).body s.bw 0).2.2)) (cC (bj b s.s).body s.bw 0).2.2 (bj b s.s).body<=(b.V4.length:Int)-1:=by
     have:=n9 (l:=b.atoms) (s:=s.s) (kept:=gZ b.atoms s.s ((bj b s.s).body-(cC (bj b s.s).body s.bw 0).2.2)) (shift:=(cC (bj b s.s).body s.bw 0).2.2) (body:=(bj b s.s).body);omega
    obtain⟨c1,c2⟩:=Bu (i:=s.s.atom) XX;have YO:0<=(cC (bj b s.s).body s.bw 0).2.2:=(oD (body:=(bj b s.s).body) s.bw 0 (Int.le_refl _) (by have:=kD hb s.s hf.1.1;omega) hpd).2.2.1;by_cases h4:eG b.V4 s.s.atom (iT b.atoms s.s (gZ b.atoms s.s ((bj b s.s).body-(cC (bj b s.s).body s.bw 0).2.2)) (cC (bj b s.s).body s.bw 0).2.2 (bj b s.s).body)
    .rw[aD (λh=>(c1.1 h) h4)];obtain⟨c3,c,c4⟩:=c2 h4;simp only[c3,c4];have h4':eG b.V4 (fj b s).s.atom (fq b (fj b s)):=h4;have c4':zn b (fj b s)=c:=c4;unfold gq jA;rw[av h4',av h4',c4'];rfl
    .rw[av (c1.2 h4)];have h4':¬eG b.V4 (fj b s).s.atom (fq b (fj b s)):=h4;have hz:(cC (bj b s.s).body s.bw 0).2.2=0:=Classical.byContradiction λhz=>h4 ⟨hmb,hf.1.1,by have:=hf.1.2;omega,by
      refine Jk hb hk Xd hf ?_;refine Classical.byContradiction λhle=>h3 (.inr ⟨by omega,by omega⟩)⟩
     unfold gq jA;rw[aD h4',aD h4',hz,Int.sub_zero];rfl
open Go.Proofs
def NK{b:List Xt}{i n:Nat}:(n=0/\(bq b i n).1.i=-1)\/∃c:Nat,(bq b i n).1.i=c/\i+1<=c/\c<i+1+n:=by
 rcases CO (b:=b) (i:=i) n with⟨_,h2,h3⟩|⟨c,_,h2,h3,h4⟩
 .exact .inl ⟨h3,by rw[h2];rfl⟩
 .exact .inr ⟨c,by rw[h2];rfl,h3,h4⟩
def NW(b:List Xt)(hb:b.length<=1000000)(hmb:nB b=true)(Xz:aL prog 109 [bG b] (.bool (nB b)))(i:Nat)(hi:(i:Int)<(b.length:Int)-1)(fit:Int):
 aL prog 68 [bG b,vI i,vI fit] (vI (uW b i fit)):=λU=>by
 refine e68.q ?_;have hs:=aa.refl U;have hn:=uP b;rw[hmb]at Xz;have q1:((i:Int)<0)=False:=H';have q2:((i:Int)>=(b.length:Int)-1)=False:=H';have r1:VO .i64 ((b.length:Int)-1):=ae;have r2:=rI i;obtain⟨N,hN⟩:∃N,N=mv b ((i:Int)+1) fit:=⟨_,rfl⟩
 have hNe:N=(min fit ((b.length:Int)-1)-i).toNat:=by rw[hN,Jr]
 obtain⟨C,hC⟩:∃C,C=uW b i fit:=⟨_,rfl⟩
 rw[<-hC];have VE:0<N->eG b i fit:=λh=>⟨hmb,by omega,hi,by omega⟩
 have Wb:N=0->¬eG b i fit:=λh h'=>by have:=h'.2.2.2;omega
 refine mS 10 ?_;simp only[go_sem,seval,c68];refine pS rfl (Xz _) ?_;simp only[go_sem,seval,hn,q1,q2,r1,r2];refine ai.loop (λm st=>∃j:Nat,j<=N/\m=N-j/\(∀k:Nat,i<k->k<=i+j->(WR b k).forced=0)/\aa U st.U/\st.s 0=bG b/\st.s 1=vI i/\st.s 2=vI fit/\st.s 7=vI (i+1+j:Nat)) N ?_ ?_
 .exact⟨0,by omega,rfl,λk h1 h2=>by omega,hs,rfl,rfl,rfl,rfl⟩
 .rintro m ⟨S,J⟩ ⟨j,hj,rfl,hz,hs,k0,k1,k2,k7⟩;simp only at hs k0 k1 k2 k7;refine ai.mix 10 ?_;by_cases B':j<N
  .have q3:(((i+1+j:Nat):Int)<=fit)=True:=L';have q4:(((i+1+j:Nat):Int)<b.length)=True:=L';have YP:i+1+j<b.length:=by omega
   have WG:=λU=>rR (U:=U) YP;have eg:WR b (i+1+j)=b[i+1+j]:=by simp[WR,YP]
   have XG:=F4 (b:=b) (i:=i) (j:=j) (to:=fit) (by omega) hz;rw[eg]at XG;generalize hx:b[i+1+j]=x at*;have r3:VO .i64 (((i+1+j:Nat):Int)+1):=ae;by_cases hf:x.forced=0
   .have q5:(x.forced=0)=True:=L' hf;have q6:(x.forced≠0)=False:=H' (λh=>h hf);apply sR;simp only[go_sem,seval,k0,k1,k2,k7,q3,q4,hn,WG,bY,q6,r3];exact⟨_,by omega,j+1,by omega,rfl,λk h1 h2=>by
     by_cases e:k=i+1+j
     .rw[e,eg];exact hf
     .exact hz k h1 (by omega),hs,by simp[vI];omega⟩
   .have q5:(x.forced=0)=False:=H' hf;have q6:(x.forced≠0)=True:=L' hf;have h2:=XG hf;apply sR;simp only[go_sem,seval,k0,k2,k7,q3,q4,hn,WG,bY,q6];refine ak.pure hs ?_;rw[hC,uW,av (VE (by omega)),qf,h2,aD (by omega)]
  .obtain rfl:j=N:=by omega
   have hnone:=Ci (b:=b) (i:=i) (to:=fit) (by rw[<-hN];exact hz);have fin:C=(bq b i j).1.i:=by
    rcases Nat.eq_zero_or_pos j with h|h
    .rw[hC,uW,aD (Wb h),h];rfl
    .rw[hC,uW,av (VE h),qf,hnone,av (by omega),I2,<-hN]
   have q34:(((i+1+j:Nat):Int)<=fit)=False\/(((i+1+j:Nat):Int)<=fit)=True/\(((i+1+j:Nat):Int)<b.length)=False:=by
    by_cases h:((i+1+j:Nat):Int)<=fit
    .exact .inr ⟨L' h,H'⟩
    .exact .inl (H' h)
   rcases q34 with q3|⟨q3,q4⟩
   case' inl=>
    apply sR;simp only[go_sem,seval,k1,k2,k7,q3,r2]
   case' inr=>
    apply sR;simp only[go_sem,seval,k0,k1,k2,k7,q3,q4,hn,r2]
   all_goals
    clear k7;refine ai.loop (λm st=>∃t:Nat,t<=j/\m=j-t/\aa U st.U/\st.s 0=bG b/\st.s 1=vI i/\st.s 2=vI fit/\st.s 8=vI (bq b i t).1.i/\st.s 9=vI (i+1+t:Nat)) j ?_ ?_
    .exact⟨0,by omega,rfl,hs,k0,k1,k2,rfl,rfl⟩
    .clear k0 k1 k2 hs;rintro m ⟨S,J⟩ ⟨t,ht,rfl,hs,k0,k1,k2,k8,k9⟩;simp only at hs k0 k1 k2 k8 k9;refine ai.mix 10 ?_;by_cases Yi:t<j
     .have q5:(((i+1+t:Nat):Int)<=fit)=True:=L';have q6:(((i+1+t:Nat):Int)<b.length)=True:=L';have r3:VO .i64 (((i+1+t:Nat):Int)+1):=ae;have hov:=LH (b:=b) (i:=i) (n:=t);rcases NK (b:=b) (i:=i) (n:=t)with⟨h1,h2⟩|⟨c,h2,h3,h4⟩
      .rw[h2]at k8 hov;have q7:((-1:Int)<0)=True:=L';rw[av (.inl (by omega))]at hov;apply sR;simp only[go_sem,seval,k0,k1,k2,k8,k9,q5,q6,hn,q7,r3];exact⟨_,by omega,t+1,by omega,rfl,hs,by simp[vI,hov];omega⟩
      .rw[h2]at k8 hov;have q7:((c:Int)<0)=False:=H';rw[fp]at hov;have hoc:=KO b (i+1+t) c (by omega) (by omega);apply sR;simp only[go_sem,seval,k0,k2,k8,k9,q5,q6,hn,q7];refine pR rfl (hoc _) ?_;by_cases hr:(WR b (i+1+t)).V6<=(WR b c).V6
       .have q8:((WR b (i+1+t)).V6<=(WR b c).V6)=True:=L' hr;rw[av (.inr hr)]at hov;apply sR;simp only[go_sem,seval,k0,k1,k2,k9,q8,r3];exact⟨_,by omega,t+1,by omega,rfl,hs,by simp[vI,hov];omega⟩
       .have q8:((WR b (i+1+t)).V6<=(WR b c).V6)=False:=H' hr;rw[aD (by omega)]at hov;apply sR;simp only[go_sem,seval,k0,k1,k2,k8,k9,q8,r3];exact⟨_,by omega,t+1,by omega,rfl,hs,by simp[vI,hov];omega⟩
     .obtain rfl:t=j:=by omega
      first
       |(apply sR;simp only[go_sem,seval,k0,k1,k2,k8,k9,q3,hn])
        exact ak.pure hs (by rw[fin])
       |(apply sR;simp only[go_sem,seval,k0,k2,k8,k9,q3,q4,hn])
        exact ak.pure hs (by rw[fin])
open Go.Proofs
def JW(s:Wq):aL prog 249 [aV s] (.bool (decide (s.b<=s.a))):=λU=>by
 refine Vf.q ?_;apply sR;simp only[go_sem,seval,RV,aV];refine aA λi1 Z1 s1 a1 f1=>?_;simp only[go_sem,seval,a1];exact ak.pure s1 rfl
def Cn(s:Wq)(ha:W1 s.a)(hb:W1 s.b):aL prog 198 [aV s] (vI (fB s)):=λU=>by
 obtain⟨h1,h2⟩:=ha;obtain⟨h3,h4⟩:=hb;refine Sq.q ?_;apply sR;simp only[go_sem,seval,Oq,aV];refine aA λi1 Z1 s1 a1 f1=>?_;simp only[go_sem,seval,a1];refine pS rfl (JW ⟨_,_⟩ _) ?_;simp only[go_sem,seval,a1];unfold fB;refine And.intro (λh=>?_) (λh=>?_)
 .rw[av h];exact ak.pure s1 rfl
 .rw[aD h];exact⟨ae,ak.pure s1 rfl⟩
def B7(f:O')(y high:Int)(hf:f.ok)(hy:W1 y)(hh:Bq high):aL prog 248 [aG f,vI y,vI high] (.bool (eJ y high f)):=λU=>by
 obtain⟨⟨x1,x2⟩,⟨y1,y2⟩,⟨w1,w2⟩,h1,h2⟩:=hf;obtain⟨g1,g2⟩:=hy;obtain⟨g3,g4⟩:=hh;have hm:=Cu (y:=y) (high:=high) (f:=f);have r1:VO .i64 (y+max high 1):=ae;have r2:VO .i64 (f.y+f.h):=ae;generalize hM:max high 1=M at*;have hM':(if high>1 then high else 1)=M:=by omega
 have hM2:max 1 high=M:=by omega
 refine Ss.q ?_;have hs:=aa.refl U;refine mS 7 ?_;simp only[go_sem,seval,Q5,aG];refine ar hs λi3 Z3 s3 a3 f3 _ hs=>?_;by_cases p1:f.h>0
 .have q1:(f.h>0)=True:=L' p1;by_cases p2:f.y<y+M
  .have q2:(f.y<y+M)=True:=L' p2;simp only[go_sem,seval,a3,q1,q2,r1,r2,hM,ct];exact ak.pure hs (by simp only[V.bool.injEq];rw[Bool.eq_iff_iff,hm];simp[p1,p2])
  .have q2:(f.y<y+M)=False:=H' p2;simp only[go_sem,seval,a3,q1,q2,r1,hM,ct];exact ak.pure hs (by simp only[V.bool.injEq];rw[eq_comm,Bool.eq_false_iff];intro e;exact p2 (hm.1 e).2.1)
 .have q1:(f.h>0)=False:=H' p1;simp only[go_sem,seval,a3,q1];exact ak.pure hs (by simp only[V.bool.injEq];rw[eq_comm,Bool.eq_false_iff];intro e;exact p1 (hm.1 e).1)
def HS(l:List O')(y high:Int)(s:Wq)(hl:l.length<=1000000)(VE:∀f∈l,f.ok)(hy:W1 y)(hh:Bq high):aL prog 196 [aC l,vI y,vI high,aV s] (aV (bZ l y high s)):=λU=>by
 refine UQ.q ?_;have hs:=aa.refl U;have hn:=cQ l;refine mS 10 ?_;simp only[go_sem,seval,P5,aV];refine ar hs λi7 Z7 s7 a7 f7 z7 hs=>?_;simp only[go_sem,seval];refine ar hs λi8 Z8 s8 a8 f8 z8 hs=>?_;obtain⟨YW,a7⟩:=VB a7 f8 s8;simp only[go_sem,seval];refine ai.loop (λm st=>∃(i:Nat) (b:Wq),i<=l.length/\m=l.length-i/\b=bZ (l.take i) y high s/\aa U st.U/\st.U i7=some ⟨219,2,[.agg [vI b.a,vI b.b]]⟩/\st.U i8=some ⟨219,2,[.agg [vI 0,vI 0]]⟩/\st.s 0=aC l/\st.s 1=vI y/\st.s 2=vI high/\st.s 7=.ptr i7 0 0/\st.s 8=.ptr i8 0 0/\st.s 9=vI i) l.length ?_ ?_
 .exact⟨0,s,by omega,rfl,rfl,hs,a7,a8,rfl,rfl,rfl,rfl,rfl,rfl⟩
 .clear a7 a8;rintro m ⟨S,J⟩ ⟨i,b,hi,rfl,hb,hs,a7,a8,k0,k1,k2,k7,k8,k9⟩;simp only at hs a7 a8 k0 k1 k2 k7 k8 k9;refine ai.mix 10 ?_;by_cases B':i<l.length
  .have q:=qT B';have WG:=λU=>ed (U:=U) B';have V9:=CJ (y:=y) (high:=high) (s:=s) B';have hfok:=VE _ (Ws B');generalize l[i]=f at*;have eY:VO .i64 (f.x+f.w):=by obtain⟨⟨x1,x2⟩,_,⟨w1,w2⟩,_⟩:=hfok;exact ae
   rw[<-hb]at V9;apply sR;simp only[go_sem,seval,k0,k9,hn,q,WG,aG];refine ar hs λi10 Z10 XV Wn f10 YK hs=>?_;obtain⟨YN,a7⟩:=VB a7 f10 XV;obtain⟨n810,a8⟩:=VB a8 f10 XV;simp only[go_sem,seval,Wn,k1,k2];generalize Ww:C' _ i10 _=Y10;replace Wn:=WC Ww;replace a7:=VN Ww YN a7;replace a8:=VN Ww n810 a8;replace hs:=WD Ww hs YK;refine pR rfl (B7 f y high hfok hy hh _) ?_;cases hm:eJ y high f
   .rw[aD (by rw[hm];simp)]at V9;apply sR;simp only[go_sem,seval,k0,k1,k2,k7,k8,k9,a7,a8];exact⟨ae,_,by omega,i+1,b,by omega,rfl,V9.symm,hs,by simp⟩
   .rw[av hm]at V9;unfold iq at V9;by_cases Zf:f.side=1
    .have q1:(f.side=1)=True:=L' Zf;rw[av Zf]at V9;apply sR;simp only[go_sem,seval,k0,k1,k2,k7,k8,k9,a7,Wn,q1,eY,ct];exact⟨ae,_,by omega,i+1,_,by omega,rfl,V9.symm,hs.az z7,rfl,by first|rfl|exact a8|exact(ab YW.symm).trans a8|exact(ab YW).trans a8,by simp⟩
    .have q1:(f.side=1)=False:=H' Zf;rw[aD Zf]at V9;apply sR;simp only[go_sem,seval,k0,k1,k2,k7,k8,k9,a7,Wn,q1,dD];exact⟨ae,_,by omega,i+1,_,by omega,rfl,V9.symm,hs.az z7,rfl,by first|rfl|exact a8|exact(ab YW.symm).trans a8|exact(ab YW).trans a8,by simp⟩
  .have q:=qF B';obtain rfl:i=l.length:=by omega
   rw[eF]at hb;apply sR;simp only[go_sem,seval,k0,k7,k8,k9,hn,q,a7,a8];exact ak.pure (hs.az z8) (by rw[<-hb])
def Dz(l:List O')(y high:Int)(s:Wq)(hl:l.length<=1000000)(VE:∀f∈l,f.ok)(hy:W1 y)(hh:Bq high):aL prog 197 [aC l,vI y,vI high,aV s] (.VG [vI (cL l y high s).1,.bool (cL l y high s).2]):=λU=>by
 refine Vs.q ?_;have hs:=aa.refl U;have hn:=cQ l;refine mS 13 ?_;simp only[go_sem,seval,QC,aV];refine ar hs λi7 Z7 s7 a7 f7 _ hs=>?_;simp only[go_sem,seval];refine ai.loop (λm st=>∃(i:Nat) (b:Int) (fd:Bool),i<=l.length/\m=l.length-i/\cL (l.take i) y high s=(b,fd)/\aa U st.U/\st.U i7=some ⟨219,2,[.agg [vI s.a,vI s.b]]⟩/\st.s 0=aC l/\st.s 1=vI y/\st.s 2=vI high/\st.s 7=.ptr i7 0 0/\st.s 10=vI b/\st.s 11=.bool fd/\st.s 12=vI i) l.length ?_ ?_
 .exact⟨0,0,false,by omega,rfl,rfl,hs,a7,rfl,rfl,rfl,rfl,rfl,rfl,rfl⟩
 .clear a7;rintro m ⟨S,J⟩ ⟨i,b,fd,hi,rfl,hb,hs,a7,k0,k1,k2,k7,XW,YM,Xk⟩;simp only at hs a7 k0 k1 k2 k7 XW YM Xk;refine ai.mix 13 ?_;by_cases B':i<l.length
  .have q:=qT B';have WG:=λU=>ed (U:=U) B';have V9:=CE (y:=y) (high:=high) (s:=s) B';have hfok:=VE _ (Ws B');generalize l[i]=f at*;have eY:VO .i64 (f.x+f.w):=by obtain⟨⟨x1,x2⟩,_,⟨w1,w2⟩,_⟩:=hfok;exact ae
   have ZS:VO .i64 (f.y+f.h):=by obtain⟨_,⟨x1,x2⟩,_,⟨w1,w2⟩⟩:=hfok;exact ae
   rw[hb]at V9;apply sR;simp only[go_sem,seval,k0,Xk,hn,q,WG,aG];refine ar hs λi13 Z13 s13 Xy f13 z13 hs=>?_;obtain⟨n713,a7⟩:=VB a7 f13 s13;simp only[go_sem,seval,Xy,k1,k2];generalize hq13:C' _ i13 _=Y13;replace Xy:=WC hq13;replace a7:=VN hq13 n713 a7;replace hs:=WD hq13 hs z13;refine pR rfl (B7 f y high hfok hy hh _) ?_;have hcs:=F6 (f:=f) (s:=s);cases hm:eJ y high f
   .rw[aD (by rw[hm];simp)]at V9;apply sR;simp only[go_sem,seval,k0,k1,k2,k7,XW,YM,Xk,a7];exact⟨ae,_,by omega,i+1,_,_,by omega,rfl,V9,hs,by simp⟩
   .rw[av hm]at V9;unfold je at V9;have go:¬iq f s=s->∀(c:Bool),c=(!fd||decide (f.y+f.h<b))->cL (l.take (i+1)) y high s=if c then(f.y+f.h,true)else(b,fd):=λh c hc=>by
     rw[V9,hc];simp only[h,false_or];cases fd
     .simp
     .by_cases h2:f.y+f.h<b
      .simp[h2];try omega
      .simp[h2];try omega
    by_cases Zf:f.side=1
    .have q1:(f.side=1)=True:=L' Zf;have q1b:(f.side≠1)=False:=H' (λh=>h Zf);by_cases hx:f.x+f.w<=s.a
     .have q2:(f.x+f.w<=s.a)=True:=L' hx;rw[av (.inl (hcs.2 (.inl ⟨Zf,hx⟩)))]at V9;apply sR;simp only[go_sem,seval,k0,k1,k2,k7,XW,YM,Xk,a7,Xy,q1,q2,eY];exact⟨ae,_,by omega,i+1,_,_,by omega,rfl,V9,hs,by simp⟩
     .have q2:(f.x+f.w<=s.a)=False:=H' hx;have V2:¬iq f s=s:=λe=>by rcases hcs.1 e with h|h;exact hx h.2;exact h.1 Zf
      cases fd
      .have g:=go V2 true rfl;apply sR;simp only[go_sem,seval,k0,k1,k2,k7,YM,Xk,a7,Xy,q1,q1b,q2,eY,ZS];exact⟨ae,_,by omega,i+1,_,_,by omega,rfl,g,hs,by simp⟩
      .by_cases WL:f.y+f.h<b
       .have q3:(f.y+f.h<b)=True:=L' WL;have g:=go V2 true (by simp[WL]);apply sR;simp only[go_sem,seval,k0,k1,k2,k7,XW,YM,Xk,a7,Xy,q1,q1b,q2,q3,eY,ZS];exact⟨ae,_,by omega,i+1,_,_,by omega,rfl,g,hs,by simp⟩
       .have q3:(f.y+f.h<b)=False:=H' WL;have g:=go V2 false (by simp[WL]);apply sR;simp only[go_sem,seval,k0,k1,k2,k7,XW,YM,Xk,a7,Xy,q1,q1b,q2,q3,eY,ZS];exact⟨ae,_,by omega,i+1,_,_,by omega,rfl,g,hs,by simp⟩
    .have q1:(f.side=1)=False:=H' Zf;have q1b:(f.side≠1)=True:=L' Zf;by_cases hx:f.x>=s.b
     .have q2:(f.x>=s.b)=True:=L' hx;rw[av (.inl (hcs.2 (.inr ⟨Zf,hx⟩)))]at V9;apply sR;simp only[go_sem,seval,k0,k1,k2,k7,XW,YM,Xk,a7,Xy,q1,q1b,q2];exact⟨ae,_,by omega,i+1,_,_,by omega,rfl,V9,hs,by simp⟩
     .have q2:(f.x>=s.b)=False:=H' hx;have V2:¬iq f s=s:=λe=>by rcases hcs.1 e with h|h;exact Zf h.1;exact hx h.2
      cases fd
      .have g:=go V2 true rfl;apply sR;simp only[go_sem,seval,k0,k1,k2,k7,YM,Xk,a7,Xy,q1,q1b,q2,ZS];exact⟨ae,_,by omega,i+1,_,_,by omega,rfl,g,hs,by simp⟩
      .by_cases WL:f.y+f.h<b
       .have q3:(f.y+f.h<b)=True:=L' WL;have g:=go V2 true (by simp[WL]);apply sR;simp only[go_sem,seval,k0,k1,k2,k7,XW,YM,Xk,a7,Xy,q1,q1b,q2,q3,ZS];exact⟨ae,_,by omega,i+1,_,_,by omega,rfl,g,hs,by simp⟩
       .have q3:(f.y+f.h<b)=False:=H' WL;have g:=go V2 false (by simp[WL]);apply sR;simp only[go_sem,seval,k0,k1,k2,k7,XW,YM,Xk,a7,Xy,q1,q1b,q2,q3,ZS];exact⟨ae,_,by omega,i+1,_,_,by omega,rfl,g,hs,by simp⟩
  .have q:=qF B';obtain rfl:i=l.length:=by omega
   rw[eF]at hb;apply sR;simp only[go_sem,seval,k0,XW,YM,Xk,hn,q];exact ak.pure hs (by rw[hb])
def M5(l:List O')(hl:l.length<=1000000):aL prog 250 [aC l] (.VG [vI (cH lv l).1,.bool (cH lv l).2]):=λU=>by
 refine Un.q ?_;have hs:=aa.refl U;have hn:=cQ l;refine mS 6 ?_;simp only[go_sem,seval,Oo];refine ai.loop (λm st=>∃(i:Nat) (b:Int),i<=l.length/\m=l.length-i/\cH lv (l.take i)=(b,decide (0<i))/\aa U st.U/\st.s 0=aC l/\st.s 4=vI b/\st.s 5=vI i) l.length ?_ ?_
 .exact⟨0,0,by omega,rfl,rfl,hs,rfl,rfl,rfl⟩
 .rintro m ⟨S,J⟩ ⟨i,b,hi,rfl,hb,hs,k0,k4,k5⟩;simp only at hs k0 k4 k5;refine ai.mix 6 ?_;by_cases B':i<l.length
  .have q:=qT B';have WG:=λU=>ed (U:=U) B';have V9:=vm (tell:=lv) B';generalize l[i]=f at*;rw[hb]at V9;have hd:decide (0<i+1)=true:=WJ (by omega);by_cases h0:i=0
   .have q0:((i:Int)=0)=True:=L';have hd0:decide (0<i)=false:=WW (by omega);have e:iy lv (b,decide (0<i)) f=(f.y,decide (0<i+1)):=by rw[hd,hd0];simp[iy,lv]
    rw[e]at V9;apply sR;simp only[go_sem,seval,k0,k5,hn,q,q0,WG,aG];exact⟨ae,_,by omega,i+1,_,by omega,rfl,V9,hs,by simp⟩
   .have q0:((i:Int)=0)=False:=H';have hd0:decide (0<i)=true:=WJ (by omega);rw[hd0]at V9;by_cases h1:f.y>b
    .have q1:(f.y>b)=True:=L' h1;have e:iy lv (b,true) f=(f.y,decide (0<i+1)):=by rw[hd];simp[iy,lv,h1]
     rw[e]at V9;apply sR;simp only[go_sem,seval,k0,k4,k5,hn,q,q0,q1,WG,aG];exact⟨ae,_,by omega,i+1,_,by omega,rfl,V9,hs,by simp⟩
    .have q1:(f.y>b)=False:=H' h1;have e:iy lv (b,true) f=(b,decide (0<i+1)):=by rw[hd];simp[iy,lv,h1]
     rw[e]at V9;apply sR;simp only[go_sem,seval,k0,k4,k5,hn,q,q0,q1,WG,aG];exact⟨ae,_,by omega,i+1,_,by omega,rfl,V9,hs,by simp⟩
  .have q:=qF B';obtain rfl:i=l.length:=by omega
   rw[eF]at hb;apply sR;simp only[go_sem,seval,k0,k4,k5,hn,q];exact ak.pure hs (by rw[hb];simp)
end Go.Vc
