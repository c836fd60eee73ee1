import Derived.Test.YtompjkkmfibkiaaGreatW10
set_option linter.all false
set_option maxHeartbeats 8000000
set_option maxRecDepth 100000
open Go.Proofs.Tryz
namespace Go.Vc
open Go.Proofs
def DG(l:List O')(w high:Int)(s:Wq)(hl:l.length<=1000000)(VE:∀f∈l,f.ok)(hh:Bq high)(W9:W1 s.a/\W1 s.b):∀(n:Nat) (y:Int),gtJ l y<n->W1 y->
 aL prog 147 [aC l,vI w,vI high,vI y,aV s] (.VG [aV (bZ l (gQ l w high s y) high s),vI (gQ l w high s y)]):=by
 intro n
 induction n with
 |zero=>intro y h;omega
 |succ n ih=>?_
 intro y hn hy U;refine Uq.q ?_;have hs:=aa.refl U;refine mS 13 ?_;simp only[go_sem,seval,Qh,aV];refine ar hs λi9 Z9 s9 a9 f9 _ hs=>?_;simp only[go_sem,seval];refine ar hs λi10 Z10 XV Wn f10 YK hs=>?_;replace a9:=XV _ _ a9;simp only[go_sem,seval,a9];refine pR rfl (HS l y high s hl VE hy hh _) ?_;have hbo:=jk (y:=y) (high:=high) VE W9;have XZ:=GX (l:=l) (w:=w) (high:=high) (y:=y) (s:=s);obtain⟨b,hb⟩:∃b,b=bZ l y high s:=⟨_,rfl⟩
 rw[<-hb]at XZ hbo|-;apply sR;simp only[go_sem,seval,aV];refine ar hs λi12 Y12 s12 a12 f12 z12 hs=>?_;obtain⟨n912,a9⟩:=VB a9 f12 s12;obtain⟨n1012,Wn⟩:=VB Wn f12 s12;simp only[go_sem,seval,a12,a9,ab n912];generalize Xp:C' _ i12 _=Z12;replace a12:=WC Xp;replace a9:=VN Xp n912 a9;replace Wn:=VN Xp n1012 Wn;replace hs:=WD Xp hs z12;refine pR rfl (Dz l y high s hl VE hy hh _) ?_;cases hn2:(cL l y high s).2
 .rw[hn2]at XZ;rw[av (.inl rfl)]at XZ;rw[XZ,<-hb];apply sR;simp only[go_sem,seval,a12,Wn];exact ak.pure (hs.az YK) rfl
 .have hdec:=mA (fa hn2);have hnb:=yS VE hn2;rw[hn2]at XZ;apply sR;simp only[go_sem,seval,a12];refine pR rfl (Cn b hbo.1 hbo.2 _) ?_;by_cases hw:w<=fB b
  .have q:(fB b>=w)=True:=L' hw;rw[av (.inr hw)]at XZ;rw[XZ,<-hb];apply sR;simp only[go_sem,seval,a12,Wn,q];exact ak.pure (hs.az YK) rfl
  .have q:(fB b>=w)=False:=H' hw;rw[aD (by simp[hw])]at XZ;rw[XZ];apply sR;simp only[go_sem,seval,a9,q];refine pS rfl (ih _ (by omega) hnb _) ?_;simp only[go_sem,seval,Wn,aV];exact ak.pure (hs.az YK) rfl
open Go.Proofs
def LD(fs:List O')(f:O')(y:Int)(s:Wq)(hl:fs.length<=1000000)(VE:∀f∈fs,f.ok)(hy:W1 y)(hh:Bq f.h)(hw:Bq f.w)(W9:W1 s.a/\W1 s.b):
 aL prog 199 [aC fs,aG f,vI y,aV s] (.VG [vI (l9 fs f y s),vI (j0 fs f y s)]):=λU=>by
 refine Vu.q ?_;have hs:=aa.refl U;have hn:=cQ fs;refine mS 15 ?_;simp only[go_sem,seval,ON,aG,aV];refine ar hs λi5 Z5 s5 a5 f5 _ hs=>?_;simp only[go_sem,seval];refine ar hs λi7 Z7 s7 a7 f7 _ hs=>?_;replace a5:=s7 _ _ a5;simp only[go_sem,seval];refine pR rfl (M5 fs hl _) ?_;have Zq:=EL (y:=y) VE hy;obtain⟨Y,hY⟩:∃Y,Y=j0 fs f y s:=⟨_,rfl⟩
 have hX:l9 fs f y s=if f.side=1 then(bZ fs Y f.h s).a else max (bZ fs Y f.h s).a ((bZ fs Y f.h s).b-f.w):=by rw[hY];rfl
 rw[hX,<-hY];have hYd:Y=jd fs f.w f.h s fs.length (mT fs y):=hY;clear hX hY;have hbo:=jk (y:=Y) (high:=f.h) VE W9;obtain⟨z,hz⟩:∃z,z=mT fs y:=⟨_,rfl⟩
 rw[<-hz]at hYd Zq;unfold mT at hz;generalize hS:cH lv fs=S at*;obtain⟨t,sm⟩:=S;simp only at hz;clear hS;rcases(show(sm=false/\z=y)\/(sm=true/\¬t>y/\z=y)\/(sm=true/\t>y/\z=t) by
  cases sm
  .exact .inl ⟨rfl,hz⟩
  .by_cases h:t>y
   .exact .inr (.inr ⟨rfl,h,by rw[hz];simp;omega⟩)
   .exact .inr (.inl ⟨rfl,h,by rw[hz];simp;omega⟩))with⟨rfl,rfl⟩|⟨rfl,hgt,rfl⟩|⟨rfl,hgt,rfl⟩
 case' inl=>
  apply sR;simp only[go_sem,seval]
 case' inr.inl=>
  have q:(t>z)=False:=H' hgt;apply sR;simp only[go_sem,seval,q]
 case' inr.inr=>
  have q:(z>y)=True:=L' hgt;apply sR;simp only[go_sem,seval,q]
 all_goals
  refine ai.gy (λst=>aa U st.U/\st.U i5=some ⟨100,7,[.agg [vI f.node,vI f.side,vI f.anchor,vI f.x,vI f.y,vI f.w,vI f.h]]⟩/\st.U i7=some ⟨219,2,[.agg [vI s.a,vI s.b]]⟩/\st.s 0=aC fs/\st.s 2=vI Y/\st.s 5=.ptr i5 0 0/\st.s 7=.ptr i7 0 0/\W1 Y)
   (λm st=>∃(y':Int) (i k:Nat),m=gtJ fs y'/\i+k=fs.length/\gtJ fs y'<=k/\Y=jd fs f.w f.h s k y'/\W1 y'/\aa U st.U/\st.U i5=some ⟨100,7,[.agg [vI f.node,vI f.side,vI f.anchor,vI f.x,vI f.y,vI f.w,vI f.h]]⟩/\st.U i7=some ⟨219,2,[.agg [vI s.a,vI s.b]]⟩/\st.s 0=aC fs/\st.s 2=vI y'/\st.s 5=.ptr i5 0 0/\st.s 7=.ptr i7 0 0/\st.s 12=vI i) (gtJ fs z) ?_ ?_ ?_
  .exact⟨z,0,fs.length,rfl,by omega,Iu _ _,hYd,Zq,hs,a5,a7,rfl,rfl,rfl,rfl,rfl⟩
  .clear a5 a7 hYd Zq;rintro m ⟨S,J⟩ ⟨y',i,k,rfl,hik,hk,hYd,Zq,hs,a5,a7,k0,k2,k5,k7,Xk⟩;simp only at hs a5 a7 k0 k2 k5 k7 Xk;refine ai.mix 15 ?_;have q:((i:Int)<=fs.length)=True:=L';have V1:=jk (y:=y') (high:=f.h) VE W9;apply sR;simp only[go_sem,seval,k0,k2,k5,k7,Xk,hn,q,a5,a7];refine pJ rfl (HS fs y' f.h s hl VE Zq hh) ?_;apply sG;simp only[go_sem,seval];refine pJ rfl (Cn _ V1.1 V1.2) ?_;by_cases hle:fB (bZ fs y' f.h s)>=f.w
   .have q1:(fB (bZ fs y' f.h s)>=f.w)=True:=L' hle;rw[wL (ot.2 (.inr hle))]at hYd;subst hYd;apply sG;simp only[go_sem,seval,k0,k2,k5,k7,a5,a7,q1];exact⟨hs,Zq⟩
   .have q1:(fB (bZ fs y' f.h s)>=f.w)=False:=H' hle;apply sG;simp only[go_sem,seval,k0,k2,k5,k7,a5,a7,q1];refine pR rfl (Dz fs y' f.h s hl VE Zq hh _) ?_;cases hn2:(cL fs y' f.h s).2
    .rw[wL (ot.2 (.inl hn2))]at hYd;subst hYd;apply sR;simp only[go_sem,seval,k0,k2,k5,k7,a5,a7];exact⟨hs,Zq⟩
    .have hdb:kY fs f.w f.h s y'=false:=by
      rw[Bool.eq_false_iff];intro e;rcases ot.1 e with e|e
      .rw[hn2]at e;cases e
      .exact hle e
     obtain⟨k',rfl,h1,h2⟩:=G2 hk hdb;have hdec:=mA (fa hn2);apply sR;simp only[go_sem,seval,k0,k5,k7,Xk,a5,a7];exact⟨ae,_,hdec,_,i+1,k',rfl,by omega,h1,by rw[hYd,h2],yS VE hn2,hs,by simp⟩
  .clear a5 a7 hYd Zq;rintro⟨S,J⟩ ⟨hs,a5,a7,k0,k2,k5,k7,hYq⟩;simp only at hs a5 a7 k0 k2 k5 k7;refine ai.mix 15 ?_;have hbo:=hbo;apply sR;simp only[go_sem,seval,k0,k2,k5,k7,a5,a7];refine pR rfl (HS fs Y f.h s hl VE hYq hh _) ?_;obtain⟨b,hb⟩:∃b,b=bZ fs Y f.h s:=⟨_,rfl⟩
   rw[<-hb]at hbo|-;obtain⟨⟨b1,b2⟩,b3,b4⟩:=hbo;obtain⟨w1,w2⟩:=hw;apply sR;simp only[go_sem,seval,aV];refine ar hs λi15 Z15 Yu WN f15 z15 hs=>?_;obtain⟨n515,a5⟩:=VB a5 f15 Yu;obtain⟨n715,a7⟩:=VB a7 f15 Yu;by_cases Zf:f.side=1
   .have q1:(f.side=1)=True:=L' Zf;rw[av Zf];simp only[go_sem,seval,WN,a5,k2,k5,q1,ab n515];exact ak.pure (hs.az z15) rfl
   .have q1:(f.side=1)=False:=H' Zf;rw[aD Zf];have r1:VO .i64 (b.b-f.w):=ae;simp only[go_sem,seval,WN,a5,k2,k5,q1,r1,ct,ab n515];exact ak.pure (hs.az z15) rfl
open Go.Proofs
def zP(ws:List Int)(i k:Nat):Int:=xB ((ws.take k).drop i)
def vW(ws:List Int)(i:Nat):zP ws i i=0:=by
 unfold zP;rw[List.drop_of_length_le (by rw[jN];omega)];rfl
def yr{ws:List Int}{i k:Nat}(hik:i<=k)(h:k<ws.length):zP ws i (k+1)=zP ws i k+ws[k]:=by
 unfold zP;rw[XH h,C4 (by simp;omega),tN,wu]
def AF{ws:List Int}{space:Int}(h:WOk ws space){i:Nat}:∀d:Nat,i+d<=ws.length->0<=zP ws i (i+d)/\zP ws i (i+d)<=1099511627776*d
 |0,_=>by rw[Nat.add_zero,vW];omega
 |d+1,hd=>by
  have ih:=AF h d (i:=i) (by omega);have hx:=h.get (i:=i+d) (by omega);rw[<-Nat.add_assoc,yr (by omega) (by omega)];omega
def zH(ws:List Int)(space:Int)(hw:WOk ws space)(i j:Nat)(hij:i<j)(hj:j<=ws.length):aL prog 280 [bb ws,vI space,vI i,vI j] (vI (kc ws space i j)):=λU=>by
 refine TF.q ?_;have hs:=aa.refl U;have hn:=dd ws;have Xs:=hw.len;obtain⟨s0,s1⟩:0<=space/\space<=1099511627776:=⟨hw.s0,hw.s1⟩
 obtain⟨P,hP⟩:∃P:Int,P=((j:Int)-i-1)*space:=⟨_,rfl⟩
 have p0:0<=P:=by rw[hP];exact Int.mul_nonneg (by omega) s0
 have p1:P<=100000*1099511627776:=by rw[hP];exact Int.mul_le_mul (by omega) s1 s0 (by omega)
 have q1:((i:Int)<0)=False:=H';have q2:((i:Int)>=ws.length)=False:=H';have q3:((j:Int)<=i)=False:=H';have q4:((j:Int)>ws.length)=False:=H';have r1:VO .i64 ((j:Int)-i):=ae;have r2:VO .i64 ((j:Int)-i-1):=ae;have r3:VO .i64 P:=ae;have hP':=hP.symm;refine mS 11 ?_;simp only[go_sem,seval,Ot,hn,q1,q2,q3,q4,r1,r2,r3,hP'];refine ai.loop (λm st=>∃d:Nat,i+d<=j/\m=j-(i+d)/\aa U st.U/\st.s 0=bb ws/\st.s 3=vI j/\st.s 9=vI (P+zP ws i (i+d))/\st.s 10=vI (i+d:Nat)) (j-i) ?_ ?_
 .exact⟨0,by omega,rfl,hs,rfl,rfl,by rw[Nat.add_zero,vW,Int.add_zero];rfl,rfl⟩
 .rintro m ⟨S,J⟩ ⟨d,hd,rfl,hs,k0,k3,k9,XW⟩;simp only at hs k0 k3 k9 XW;refine ai.mix 11 ?_;by_cases B':i+d<j
  .have q:(((i+d:Nat):Int)<j)=True:=L';have Yi:i+d<ws.length:=by omega
   have WG:=λU=>du (U:=U) Yi;have hsr:=AF hw (i:=i) d (by omega);have XF:=yr (ws:=ws) (i:=i) (k:=i+d) (by omega) Yi;have hx:=hw.get Yi;generalize ws[i+d]=x at*;have r4:VO .i64 (P+zP ws i (i+d)+x):=ae;have r5:VO .i64 (((i+d:Nat):Int)+1):=ae;apply sR;simp only[go_sem,seval,k0,k3,k9,XW,q,WG,r4,r5];exact⟨_,by omega,d+1,by omega,rfl,hs,by rw[<-Nat.add_assoc,XF];simp[vI];omega,by simp[vI];omega⟩
  .have q:(((i+d:Nat):Int)<j)=False:=H';have e:i+d=j:=by omega
   rw[e]at k9 XW q;apply sR;simp only[go_sem,seval,k3,k9,XW,q];refine ak.pure hs ?_;unfold kc;rw[<-hP];rfl
def Lw(ws:List Int)(space width:Int)(hw:WOk ws space)(i:Nat)(hi:i<ws.length):aL prog 247 [bb ws,vI space,vI width,vI i] (tE i (jl ws space width i).1 (jl ws space width i).2):=λU=>by
 refine TB.q ?_;have hs:=aa.refl U;have hn:=dd ws;have Xs:=hw.len;have q1:((i:Int)<0)=False:=H';have q2:((i:Int)>=ws.length)=False:=H';have r1:=rI i;refine mS 10 ?_;simp only[go_sem,seval,QM];refine ar hs λi8 Z8 s8 a8 f8 z8 hs=>?_;simp only[go_sem,seval,hn,q1,q2,r1];have h0:jl ws space width i=kS space width (ws.drop (i+1)) (i+1) (kc ws space i (i+1)):=by
  rw[FP hi];unfold jl;simp[hi]
 obtain⟨T,hT⟩:∃T,T=jl ws space width i:=⟨_,rfl⟩
 rw[<-hT]at h0|-;refine ai.loop (λm st=>∃j:Nat,i<j/\j<=ws.length/\m=ws.length-j/\T=kS space width (ws.drop j) j (kc ws space i j)/\aa U st.U/\st.U i8=some ⟨315,3,[.agg [vI 0,vI 0,vI 0]]⟩/\st.s 0=bb ws/\st.s 1=vI space/\st.s 2=vI width/\st.s 3=vI i/\st.s 8=.ptr i8 0 0/\st.s 9=vI j) (ws.length-(i+1)) ?_ ?_
 .exact⟨i+1,by omega,by omega,rfl,h0,hs,a8,rfl,rfl,rfl,rfl,rfl,rfl⟩
 .clear a8;rintro m ⟨S,J⟩ ⟨j,hij,hj,rfl,hTj,hs,a8,k0,k1,k2,k3,k8,k9⟩;simp only at hs a8 k0 k1 k2 k3 k8 k9;refine ai.mix 10 ?_;have VP:=C9 (ws:=ws) (space:=space) (width:=width) hij;rw[<-hTj]at VP;by_cases B':j<ws.length
  .have q:=qT B';have r2:=rI j;apply sR;simp only[go_sem,seval,k0,k1,k3,k9,q,hn,r2];refine pR rfl (zH ws space hw i (j+1) (by omega) (by omega) _) ?_;by_cases hle:kc ws space i (j+1)<=width
   .have q3:(kc ws space i (j+1)<=width)=True:=L' hle;rw[av ⟨B',hle⟩]at VP;apply sR;simp only[go_sem,seval,k0,k1,k2,k3,k8,k9,q3,r2];exact⟨_,by omega,j+1,by omega,by omega,rfl,VP,hs,a8,by simp⟩
   .have q3:(kc ws space i (j+1)<=width)=False:=H' hle;rw[aD (λh=>hle h.2)]at VP;apply sR;simp only[go_sem,seval,k0,k1,k2,k3,k9,q3];refine pS rfl (zH ws space hw i j hij hj _) ?_;simp only[go_sem,seval,k8,a8];rw[VP];exact ak.pure (hs.az z8) rfl
  .have q:=qF B';rw[aD (λh=>B' h.1)]at VP;apply sR;simp only[go_sem,seval,k0,k1,k3,k9,q,hn];refine pS rfl (zH ws space hw i j hij hj _) ?_;simp only[go_sem,seval,k8,a8];rw[VP];exact ak.pure (hs.az z8) rfl
open Go.Proofs
def Iz(l:List O')(w high y:Int)(s:Wq)(hl:l.length<=1000000)(VE:∀f∈l,f.ok)(hy:W1 y)(hh:Bq high)(W9:W1 s.a/\W1 s.b):
 aL prog 147 [aC l,vI w,vI high,vI y,aV s] (.VG [aV (bZ l (gQ l w high s y) high s),vI (gQ l w high s y)]):=DG l w high s hl VE hh W9 (gtJ l y+1) y (Nat.lt_succ_self _) hy
def KX(fs:List O')(ws:List Int)(space high:Int)(i:Nat)(y:Int)(s:Wq)(hl:fs.length<=1000000)(VE:∀f∈fs,f.ok)(hy:W1 y)(hh:Bq high)(W9:W1 s.a/\W1 s.b)(hw:WOk ws space)(hi:i<ws.length):
 aL prog 195 [aC fs,bb ws,vI space,vI high,vI i,vI y,aV s] (ji (mi fs ws space high i y s)):=λU=>by
 refine UT.q ?_;have hs:=aa.refl U;have hn:=dd ws;have VC:=λU=>du (U:=U) hi;have q0:((i:Int)<0)=False:=H';have q1:((i:Int)>=ws.length)=False:=H';refine mS 18 ?_;simp only[go_sem,seval,P6,aV];refine ar hs λi13 Z13 s13 Xy f13 _ hs=>?_;simp only[go_sem,seval];refine ar hs λi14 Z14 s14 Yf f14 z14 hs=>?_;replace Xy:=s14 _ _ Xy;simp only[go_sem,seval,Xy,hn,VC,q0,q1];have ZK:ws.getD i 0=ws[i]:=by simp[hi]
 obtain⟨V3,XG⟩:∃a,a=gQ fs ws[i] high s y:=⟨_,rfl⟩
 have XZ:=Iz fs ws[i] high y s hl VE hy hh W9;rw[<-XG]at XZ;have hbo:=jk (y:=V3) (high:=high) VE W9;unfold mi;rw[ZK];simp only;rw[<-XG];obtain⟨b,hb⟩:∃b,b=bZ fs V3 high s:=⟨_,rfl⟩
 rw[<-hb]at XZ hbo|-;refine pJ rfl XZ ?_;apply sG;simp only[go_sem,seval,aV];refine wN hs λi15 Z15 Yu WN f15 z15 hs=>?_;obtain⟨n1315,Xy⟩:=VB Xy f15 Yu;obtain⟨n1415,Yf⟩:=VB Yf f15 Yu;simp only[go_sem,seval,WN];generalize XM:C' _ i15 _=Y15;replace WN:=WC XM;replace Xy:=VN XM n1315 Xy;replace Yf:=VN XM n1415 Yf;replace hs:=WD XM hs z15;refine pS rfl (Cn b hbo.1 hbo.2 _) ?_;simp only[go_sem,seval];refine pS rfl (Lw ws space (fB b) hw i hi _) ?_;simp only[go_sem,seval,tE];refine ar hs λi17 Z17 s17 ZA f17 z17 hs=>?_;obtain⟨n1317,Xy⟩:=VB Xy f17 s17;obtain⟨n1417,Yf⟩:=VB Yf f17 s17;obtain⟨n1517,WN⟩:=VB WN f17 s17;simp only[go_sem,seval,ZA,WN,Yf,ab n1417,ab n1517];exact ak.pure ((hs.az z17).az z14) rfl
def Hz(p:Pn)(low:Int)(h1:Bq p.y)(h2:Bq p.m):aL prog 143 [dC p,vI low] (dC (eV p low)):=λU=>by
 obtain⟨g1,g2⟩:=h1;obtain⟨g3,g4⟩:=h2;refine U0.q ?_;have hs:=aa.refl U;have r1:VO .i64 (p.y+p.m):=ae;refine mS 5 ?_;simp only[go_sem,seval,PZ,dC];refine ar hs λi2 Z2 s2 a2 f2 _ hs=>?_;simp only[go_sem,seval];refine ar hs λi4 Z4 s4 a4 f4 z4 hs=>?_;obtain⟨n24,a2⟩:=VB a2 f4 s4;unfold eV;by_cases h:low>p.y+p.m
 .have q:(low>p.y+p.m)=True:=L' h;rw[av h];simp only[go_sem,seval,a4,a2,q,r1];exact ak.pure (hs.az z4) rfl
 .have q:(low>p.y+p.m)=False:=H' h;rw[aD h];simp only[go_sem,seval,a4,a2,q,r1];exact ak.pure (hs.az z4) rfl
def G1(l:List Nd)(hb:Wg l=true)(hn:l.length<=2000)(w:Int)(hw1:1<=w)(Zm:w<=1099511627776):∀(n a:Nat),a<n->a<l.length->aL prog 141 [aF l,vI a,vI w] (j1 (lD l w a)):=by
 intro n
 induction n with
 |zero=>intro a h;omega
 |succ n ih=>?_
 intro a han ha U;refine U6.q ?_;have hs:=aa.refl U;refine mS 10 ?_;simp only[go_sem,seval,Q6];refine ar hs λi6 Z6 s6 a6 f6 z6 hs=>?_;simp only[go_sem,seval];refine pR rfl (BA l (by omega) a ha _) ?_;have hrg:=eo l a;have heq:=Bs (l:=l) (w:=w) (a:=a);by_cases hp:dh l a<0
 .have q:(dh l a<0)=True:=L' hp;rw[av hp]at heq;rw[heq];apply sR;simp only[go_sem,seval,a6,q];exact ak.pure (hs.az z6) rfl
 .have q:(dh l a<0)=False:=H' hp;rw[aD hp]at heq;obtain⟨p,hpe⟩:∃p:Nat,dh l a=p:=⟨(dh l a).toNat,by omega⟩
  have Yy:p<l.length:=by omega
  rw[hpe]at q heq;rw[fp]at heq;have VE:=AB hb hn hw1 Zm Yy;obtain⟨k1,k2,k3,k4⟩:=VE;have hins:tY l p=l[p].st.Wf:=by simp[tY,Yy]
  have VP:=(fw hb Yy).st.Wf;have WG:=λU=>bR (U:=U) Yy;rw[heq];unfold jG;rw[hins];apply sR;simp only[go_sem,seval,hpe,q];refine pR rfl (ih p (by omega) Yy _) ?_;generalize lD l w p=r at*;generalize l[p]=nd at*;have r1:VO .i64 (r.x+nd.st.Wf):=ae;have r2:VO .i64 (r.w-nd.st.Wf):=ae;have r3:VO .i64 (r.w-nd.st.Wf-nd.st.Wf):=ae;have e3:r.w-2*nd.st.Wf=r.w-nd.st.Wf-nd.st.Wf:=by omega
  rw[e3];apply sR;simp only[go_sem,seval,j1];refine ar hs λi8 Z8 s8 a8 f8 z8 hs=>?_;obtain⟨n68,a6⟩:=VB a6 f8 s8;simp only[go_sem,seval,a8,a6,WG,Nd.cells,r1,r2,r3,dD,ct,ab n68];exact ak.pure ((hs.az z8).az z6) rfl
open Go.Proofs
def B0(p:Pn)(WB pad:Int)(h1:Bq p.y)(h2:Bq p.m)(h3:Bq WB)(h4:Bq pad):aL prog 144 [dC p,vI WB,vI pad] (dC (dQ p WB pad)):=λU=>by
 obtain⟨g1,g2⟩:=h1;obtain⟨g3,g4⟩:=h2;obtain⟨g5,g6⟩:=h3;obtain⟨g7,g8⟩:=h4;refine TZ.q ?_;have hs:=aa.refl U;obtain⟨py,pm⟩:=p;simp only at g1 g2 g3 g4;unfold dQ;have r1:VO .i64 (py+pm):=ae;have r2:VO .i64 (py+pm+pad):=ae;have r3:VO .i64 (py+WB):=ae;have r4:VO .i64 (py+WB+pad):=ae;refine mS 7 ?_;simp only[go_sem,seval,Q8,dC];refine ar hs λi3 Z3 s3 a3 f3 z3 hs=>?_;simp only[go_sem,seval];refine ar hs λi6 Z6 s6 a6 f6 z6 hs=>?_;obtain⟨n36,a3⟩:=VB a3 f6 s6;by_cases hm:WB>pm
 .have q1:(WB>pm)=True:=L' hm;have e:max pm WB=WB:=by omega
  by_cases hp:pad>0
  .have q2:(pad>0)=True:=L' hp;simp only[go_sem,seval,a6,a3,q1,q2,r3,r4,ab n36.symm];exact ak.pure ((hs.az z3).az z6) (by unfold ld;simp[hp,e,vI]<;>omega)
  .have q2:(pad>0)=False:=H' hp;simp only[go_sem,seval,a6,a3,q1,q2,ab n36.symm];exact ak.pure ((hs.az z3).az z6) (by unfold ld;simp[hp,e,vI]<;>omega)
 .have q1:(WB>pm)=False:=H' hm;have e:max pm WB=pm:=by omega
  by_cases hp:pad>0
  .have q2:(pad>0)=True:=L' hp;simp only[go_sem,seval,a6,a3,q1,q2,r1,r2];exact ak.pure (hs.az z6) (by unfold ld;simp[hp,e,vI]<;>omega)
  .have q2:(pad>0)=False:=H' hp;simp only[go_sem,seval,a6,a3,q1,q2];exact ak.pure (hs.az z6) (by unfold ld;simp[hp,e,vI]<;>omega)
def Ai(p:Pn)(WB pad:Int)(h1:Bq p.y)(h2:Bq p.m)(h3:Bq WB)(h4:Bq pad):aL prog 145 [dC p,vI WB,vI pad] (dC (kz p WB pad)):=λU=>by
 obtain⟨g1,g2⟩:=h1;obtain⟨g3,g4⟩:=h2;obtain⟨g5,g6⟩:=h3;obtain⟨g7,g8⟩:=h4;refine Tq.q ?_;have hs:=aa.refl U;obtain⟨py,pm⟩:=p;simp only at g1 g2 g3 g4;unfold kz;have r1:VO .i64 (py+pm):=ae;have r2:VO .i64 (py+pm+pad):=ae;refine mS 7 ?_;simp only[go_sem,seval,Qw,dC];refine ar hs λi3 Z3 s3 a3 f3 z3 hs=>?_;simp only[go_sem,seval];refine ar hs λi6 Z6 s6 a6 f6 z6 hs=>?_;obtain⟨n36,a3⟩:=VB a3 f6 s6;by_cases hp:pad>0
 .have q2:(pad>0)=True:=L' hp;by_cases hm:WB>0
  .have q1:(WB>0)=True:=L' hm;simp only[go_sem,seval,a6,a3,q1,q2,r1,r2,ab n36.symm];exact ak.pure ((hs.az z3).az z6) (by unfold ld;simp[hp,vI]<;>omega)
  .have q1:(WB>0)=False:=H' hm;simp only[go_sem,seval,a6,a3,q1,q2,r1,r2,ab n36.symm];exact ak.pure ((hs.az z3).az z6) (by unfold ld;simp[hp,vI]<;>omega)
 .have q2:(pad>0)=False:=H' hp;by_cases hm:WB>pm
  .have q1:(WB>pm)=True:=L' hm;simp only[go_sem,seval,a6,a3,q1,q2,ab n36.symm];exact ak.pure ((hs.az z3).az z6) (by unfold ld;simp[hp,vI]<;>omega)
  .have q1:(WB>pm)=False:=H' hm;simp only[go_sem,seval,a6,a3,q1,q2];exact ak.pure (hs.az z6) (by unfold ld;simp[hp,vI]<;>omega)
open Go.Proofs
def wj{U:ad}{id e sz:Nat}(h:U id=some ⟨e,sz,[]⟩):bL U e sz (.own id 0 0)=some ([],some id):=by
 simp only[bL,h];rw[av (by simp)];simp
def ER(l:List O')(W6:Int)(hl:l.length<=1000000)(VE:∀f∈l,f.ok):aL prog 142 [aC l,vI W6] (.VG [vI (cH (fX W6) l).1,.bool (cH (fX W6) l).2]):=λU=>by
 refine Vl.q ?_;have hs:=aa.refl U;have hn:=cQ l;refine mS 9 ?_;simp only[go_sem,seval,Qk];refine ai.loop (λm st=>∃(i:Nat) (b:Int) (fd:Bool),i<=l.length/\m=l.length-i/\cH (fX W6) (l.take i)=(b,fd)/\aa U st.U/\st.s 0=aC l/\st.s 1=vI W6/\st.s 6=vI b/\st.s 7=.bool fd/\st.s 8=vI i) l.length ?_ ?_
 .exact⟨0,0,false,by omega,rfl,rfl,hs,rfl,rfl,rfl,rfl,rfl⟩
 .rintro m ⟨S,J⟩ ⟨i,b,fd,hi,rfl,hb,hs,k0,k1,k6,k7,k8⟩;simp only at hs k0 k1 k6 k7 k8;refine ai.mix 9 ?_;by_cases B':i<l.length
  .have q:=qT B';have WG:=λU=>ed (U:=U) B';have V9:=vm (tell:=fX W6) B';have hfok:=VE _ (Ws B');generalize l[i]=f at*;have ZS:VO .i64 (f.y+f.h):=by obtain⟨_,⟨x1,x2⟩,_,⟨w1,w2⟩⟩:=hfok;exact ae
   rw[hb]at V9;have go:Mz f.side W6≠0->∀c:Bool,c=(!fd||decide (f.y+f.h>b))->cH (fX W6) (l.take (i+1))=if c then(f.y+f.h,true)else(b,fd):=λhz c hc=>by
    rw[V9,hc];unfold iy fX;cases fd<;>simp[hz]
   have no:Mz f.side W6=0->cH (fX W6) (l.take (i+1))=(b,fd):=λhz=>by rw[V9];simp[iy,fX,hz]
   cases fd
   .apply sR;simp only[go_sem,seval,k0,k1,k6,k7,k8,hn,q,WG,aG,ZS];refine And.intro (λhz=>?_) (λhz=>?_)
    .exact⟨ae,_,by omega,i+1,_,_,by omega,rfl,no hz,hs,by simp⟩
    .have g:=go hz true rfl;exact⟨ae,_,by omega,i+1,_,_,by omega,rfl,g,hs,by simp⟩
   .by_cases WL:f.y+f.h>b
    .have q3:(f.y+f.h>b)=True:=L' WL;apply sR;simp only[go_sem,seval,k0,k1,k6,k7,k8,hn,q,WG,aG,q3,ZS];refine And.intro (λhz=>?_) (λhz=>?_)
     .exact⟨ae,_,by omega,i+1,_,_,by omega,rfl,no hz,hs,by simp⟩
     .have g:=go hz true (by simp[WL]);exact⟨ae,_,by omega,i+1,_,_,by omega,rfl,g,hs,by simp⟩
    .have q3:(f.y+f.h>b)=False:=H' WL;apply sR;simp only[go_sem,seval,k0,k1,k6,k7,k8,hn,q,WG,aG,q3,ZS];refine And.intro (λhz=>?_) (λhz=>?_)
     .exact⟨ae,_,by omega,i+1,_,_,by omega,rfl,no hz,hs,by simp⟩
     .have g:=go hz false (by simp[WL]);exact⟨ae,_,by omega,i+1,_,_,by omega,rfl,g,hs,by simp⟩
  .have q:=qF B';obtain rfl:i=l.length:=by omega
   rw[eF]at hb;apply sR;simp only[go_sem,seval,k0,k6,k7,k8,hn,q];exact ak.pure hs (by rw[hb])
open Go.Proofs
def Hd(l:List Nd)(hl:l.length<=1000000000)(of:List Int)(i:Nat)(k:Int):aL prog 251 [aF l,bb of,vI i,vI k] (.bool (jq l of i k)):=λU=>by
 refine TL.q ?_;have hs:=aa.refl U;have hn:=dd of;unfold jq;refine ai.mix 9 ?_;by_cases h0:k>=0
 .have q0:(k>=0)=True:=L' h0;by_cases h1:k<of.length
  .have q1:(k<of.length)=True:=L' h1;obtain⟨n,rfl⟩:∃n:Nat,k=n:=⟨k.toNat,by omega⟩
   have hn2:n<of.length:=by omega
   have WG:=λU=>du (U:=U) hn2;have ZK:of.getD ((n:Int)).toNat 0=of[n]:=by simp[hn2]
   rw[WJ (show(0:Int)<=n/\(n:Int)<of.length by omega),Bool.true_and,ZK];generalize of[n]=x at*;apply sR;simp only[go_sem,seval,JY,q0,q1,hn,WG];refine pS rfl (DT l hl i x _) ?_;simp only[go_sem,seval];exact ak.pure hs rfl
  .have q1:(k<of.length)=False:=H' h1;rw[WW (λh=>h1 h.2),Bool.false_and];apply sR;simp only[go_sem,seval,JY,q0,q1,hn];exact ak.pure hs rfl
 .have q0:(k>=0)=False:=H' h0;rw[WW (λh=>h0 h.1),Bool.false_and];apply sR;simp only[go_sem,seval,JY,q0];exact ak.pure hs rfl
open Go.Proofs
def rS(l:List O')(high:Int)(hl:l.length<=1000000)(hr:∀f∈l,VO .i64 (f.y+high)):aL prog 65 [aC l,vI high] (bQ (l.map (db high))):=λU=>by
 refine e65.q ?_;have hs:=aa.refl U;have hn:=cQ l;refine mS 7 ?_;simp only[go_sem,seval,c65];refine ai.loop (λm st=>∃i:Nat,i<=l.length/\m=l.length-i/\aa U st.U/\ay U st.U 123 7 (st.s 5) (((l.take i).map (db high)).map aP)/\st.s 0=aC l/\st.s 1=vI high/\st.s 6=vI i) l.length ?_ ?_
 .exact⟨0,by omega,rfl,hs,ay.start,rfl,rfl,rfl⟩
 .clear hs;rintro m ⟨S,J⟩ ⟨i,hi,rfl,hs,VQ,k0,k1,k6⟩;simp only at hs VQ k0 k1 k6;generalize hv5:S 5=v5 at VQ;refine ai.mix 7 ?_;by_cases B':i<l.length
  .have q:=qT B';have WG:=λU=>ed (U:=U) B';have eY:=hr _ (Ws B');have Xc:(((l.take i).map (db high)).map aP).length=i:=by simp;omega
   have V1:(i+1)*57<=140737488355328:=by omega
   have V9:((l.take (i+1)).map (db high)).map aP=((l.take i).map (db high)).map aP++[aP (db high l[i])]:=by
    rw[XH B'];simp only[dG,fF,List.map_nil]
   generalize l[i]=f at*;apply sR;simp only[go_sem,seval,k0,k1,k6,hv5,q,hn,WG,aG,eY];refine bB λi42 Z42 s42 a42 f42=>?_;obtain⟨idA,Wi,VL⟩:=VQ.dst s42;simp only[go_sem,seval,Wi,bJ a42,Xc,V1];refine eQ λi43 Z43 s43 a43 f43=>?_;have k43:=(VL U (aa.refl U) Z42 (hs.trans s42)).trans s43;have n43:U i43=none:=(hs.trans s42).none f43;simp only[go_sem,seval,k0,k1,k6];refine⟨ae,_,by omega,i+1,by omega,rfl,k43,?_,by simp⟩;rw[V9];exact ay.new (by simp;omega) a43 n43
  .have q:=qF B';obtain rfl:i=l.length:=by omega
   apply sR;simp only[go_sem,seval,k0,k6,hv5,q,hn];refine VQ.pX hs ?_;rw[eF];rfl
open Go.Proofs
def H7(l:List WE)(hl:jU l)(s:W7)(hm:de l s)(hd:s.done<=1152921504606846976)(kept shift:Int)(k:Nat)(hk:-1152921504606846976<=kept/\kept<=1152921504606846976)(YO:0<=shift/\shift<=1152921504606846976)(W4:s.atom<=k)(Xf:k<l.length):
 aL prog 72 [bn l,aZ s,vI kept,vI shift,vI k] (aP (dU l s kept shift k)):=λU=>by
 refine e72.q ?_;have hs:=aa.refl U;have hc:=lG l s;have Xs:=gj l;rw[WJ hm]at hc;have hpc:=Ce l hl s hm hd kept shift k hk YO W4 Xf;have WG:=λU=>ey (U:=U) Xf;have hy:=hl.rng _ (Ws Xf);unfold dU;rw[av ⟨hm,W4,by omega⟩];have Yy:(k:Int)=s.atom->cD l s kept shift k+s.done=kept+shift:=λe=>by
  rw[cD,av ⟨hm,W4,by omega⟩,fH,av ⟨hm.1,by omega,by omega⟩,e];omega
 unfold nP iM;rw[bp Xf];generalize hP:cD l s kept shift k=P at*;obtain⟨a,d,fr⟩:=s;have hm0:=hm;obtain⟨⟨h0,h1⟩,h2,h3⟩:=hm;simp only at h0 h1 h2 h3 hd W4 Yy|-;obtain⟨n,rfl⟩:∃n:Nat,a=n:=⟨a.toNat,by omega⟩
 have q1:((k:Int)<n)=False:=H';have q2:((k:Int)>=l.length)=False:=H';generalize hx:l[k]=x at*;have r1:VO .i64 (x.h-d):=ae;have r2:VO .i64 (kept+shift):=ae;refine mS 12 ?_;simp only[go_sem,seval,c72,aZ];refine ar hs λi6 Z6 s6 a6 f6 _ hs=>?_;simp only[go_sem,seval];refine ar hs λi10 Z10 XV Wn f10 YK hs=>?_;replace a6:=XV _ _ a6;simp only[go_sem,seval,a6];refine pS rfl (hc _) ?_;simp only[go_sem,seval,a6,Xs,q1,q2,WG,bC];refine ar hs λi11 Z11 Zu X2 f11 z11 hs=>?_;obtain⟨Yw,a6⟩:=VB a6 f11 Zu;obtain⟨WV,Wn⟩:=VB Wn f11 Zu;by_cases e:(k:Int)=n
 .have q3:((k:Int)=n)=True:=L' e;rw[av e,Yy e];simp only[go_sem,seval,X2,Wn,a6,q3,r1,r2,ab Yw,ab WV];exact ak.pure ((hs.az z11).az YK) rfl
 .have q3:((k:Int)=n)=False:=H' e;rw[aD e];simp only[go_sem,seval,X2,a6,q3,ab Yw];generalize WA:C' _ i11 _=Y11;replace X2:=WC WA;replace a6:=VN WA Yw a6;replace Wn:=VN WA WV Wn;replace hs:=WD WA hs z11;refine pJ rfl hpc ?_;apply sG;simp only[go_sem,seval,X2,Wn];exact ak.pure (hs.az YK) rfl
open Go.Proofs
def E3{s:W7}(h0:0<=s.done){to:Int}{f:O'}:(!sH (if s.done>0 then s.atom+1 else s.atom) to f)=decide (f.anchor<to/\(f.anchor>s.atom\/f.anchor=s.atom/\s.done=0)):=by
 unfold sH;rw[Bool.eq_iff_iff];simp only[Bool.not_eq_true',decide_eq_false_iff_not,X7];split<;>omega
def y3{l:List O'}{s:W7}(h0:0<=s.done){to:Int}{i:Nat}(hi:i<l.length):
 cW (l.take (i+1)) s to=cW (l.take i) s to++if l[i].anchor<to/\(l[i].anchor>s.atom\/l[i].anchor=s.atom/\s.done=0)then[l[i]]else[]:=by
 unfold cW AV ph;rw[lF _ _ hi];congr 1;simp only[E3 h0,X7]
def E4(l:List O')(hl:l.length<=1000000)(s:W7)(h0:0<=s.done)(to:Int):aL prog 112 [aC l,aZ s,vI to] (aC (cW l s to)):=λU=>by
 refine SB.q ?_;have hs:=aa.refl U;have hn:=cQ l;have htake:=λ(i:Nat) (hi:i<l.length)=>y3 (s:=s) (to:=to) h0 hi;have hlen:=λ(i:Nat)=>show(cW (l.take i) s to).length<=i from j2 (kG _ _ _) (by rw[jN];omega)
 have hT:cW (l.take l.length) s to=cW l s to:=by rw[eF]
 have hZ:cW (l.take 0) s to=[]:=rfl;obtain⟨a,d,fr⟩:=s;simp only at h0 htake;generalize hC:(λi:Nat=>cW (l.take i) ⟨a,d,fr⟩ to)=C;have hCi:∀i,cW (l.take i) ⟨a,d,fr⟩ to=C i:=λi=>by rw[<-hC]
 simp only[hCi]at htake hlen hT hZ;rw[<-hT];refine mS 10 ?_;simp only[go_sem,seval,RY,aZ];refine ar hs λi4 Z4 s4 a4 f4 _ hs=>?_;simp only[go_sem,seval];refine ai.loop (λm st=>∃i:Nat,i<=l.length/\m=l.length-i/\aa U st.U/\ay U st.U 100 7 (st.s 7) ((C i).map aG)/\st.U i4=some ⟨24,3,[.agg [vI a,vI d,.bool fr]]⟩/\st.s 0=aC l/\st.s 2=vI to/\st.s 4=.ptr i4 0 0/\st.s 8=vI i) l.length ?_ ?_
 .exact⟨0,by omega,rfl,hs,by rw[hZ];exact ay.start,a4,rfl,rfl,rfl,rfl⟩
 .clear a4 hs;rintro m ⟨S,J⟩ ⟨i,hi,rfl,hs,VQ,a4,k0,k2,k4,k8⟩;simp only at hs VQ a4 k0 k2 k4 k8;generalize Ym:S 7=v7 at VQ;refine ai.mix 10 ?_;by_cases B':i<l.length
  .have q:=qT B';have WG:=λU=>ed (U:=U) B';have V9:=htake i B';have Xs:=hlen i;have Xc:((C i).map aG).length=(C i).length:=by simp
   have V1:((C i).length+1)*57<=140737488355328:=by omega
   generalize l[i]=f at*;have skip:¬(f.anchor<to/\(f.anchor>a\/f.anchor=a/\d=0))->C (i+1)=C i:=λh=>by rw[V9,aD h,jt]
   have put:(f.anchor<to/\(f.anchor>a\/f.anchor=a/\d=0))->C (i+1)=C i++[f]:=λh=>by rw[V9,av h]
   have r1:=rI i;by_cases c1:f.anchor<to
   .have q1:(f.anchor<to)=True:=L' c1;rcases(show(f.anchor>a)\/(¬f.anchor>a/\f.anchor=a/\d=0)\/(¬f.anchor>a/\f.anchor=a/\¬d=0)\/(¬f.anchor>a/\¬f.anchor=a) by omega)with c2|⟨c2,c3,c4⟩|⟨c2,c3,c4⟩|⟨c2,c3⟩
    case' inl=>
     have q2:(f.anchor>a)=True:=L' c2;have hp:=put ⟨c1,.inl c2⟩;apply sR;simp only[go_sem,seval,k0,k2,k4,k8,Ym,a4,q,hn,WG,aG,q1,q2]
    case' inr.inl=>
     have q2:(f.anchor>a)=False:=H' c2;have q3:(f.anchor=a)=True:=L' c3;have q4:(d=0)=True:=L' c4;have hp:=put ⟨c1,.inr ⟨c3,c4⟩⟩;apply sR;simp only[go_sem,seval,k0,k2,k4,k8,Ym,a4,q,hn,WG,aG,q1,q2,q3,q4]
    case inr.inr.inl=>
     have q2:(f.anchor>a)=False:=H' c2;have q3:(f.anchor=a)=True:=L' c3;have q4:(d=0)=False:=H' c4;apply sR;simp only[go_sem,seval,k0,k2,k4,k8,Ym,a4,q,hn,WG,aG,q1,q2,q3,q4,r1];exact⟨_,by omega,i+1,by omega,rfl,hs,by rw[skip (by omega)];exact VQ,by simp⟩
    case inr.inr.inr=>
     have q2:(f.anchor>a)=False:=H' c2;have q3:(f.anchor=a)=False:=H' c3;apply sR;simp only[go_sem,seval,k0,k2,k4,k8,Ym,a4,q,hn,WG,aG,q1,q2,q3,r1];exact⟨_,by omega,i+1,by omega,rfl,hs,by rw[skip (by omega)];exact VQ,by simp⟩
    all_goals
     refine aA λi46 Z46 s46 a46 f46=>?_;obtain⟨idA,Wi,VL,WM,ZO⟩:=VQ.mn s46;have b4:Vc.bN Z46 idA i4=some ⟨24,3,[.agg [vI a,vI d,.bool fr]]⟩:=by rw[WM i4 _ a4 (.inr (by simp))];exact s46 _ _ a4
     simp only[go_sem,seval,Wi,bJ a46,Xc,V1];refine bt λi47 Z47 s47 a47 f47=>?_;have k47:=(VL U (aa.refl U) Z46 (hs.trans s46)).trans s47;have n47:U i47=none:=(hs.trans s46).none f47;have c4:=s47 _ _ b4;simp only[go_sem,seval,k0,k2,k4,k8,r1,c4];refine⟨_,by omega,i+1,by omega,rfl,k47,?_,by simp⟩;rw[hp,dG];exact ay.new (by simp) a47 n47
   .have q1:(f.anchor<to)=False:=H' c1;apply sR;simp only[go_sem,seval,k0,k2,k4,k8,Ym,a4,q,hn,WG,aG,q1,r1];exact⟨_,by omega,i+1,by omega,rfl,hs,by rw[skip (by omega)];exact VQ,by simp⟩
  .have q:=qF B';obtain rfl:i=l.length:=by omega
   apply sR;simp only[go_sem,seval,k0,k8,Ym,q,hn];exact VQ.pX hs rfl
open Go.Proofs
def D2(l:List Nd)(hl:ep l)(h:Int)(his:aL prog 90 [aF l] (.bool (Wg l))):aL prog 92 [aF l,vI h] (.bool (gS l h)):=λU=>by
 refine e92.q ?_;have hs:=aa.refl U;unfold gS;refine ai.mix 5 ?_;by_cases h0:h>=1
 .have q0:(h>=1)=True:=L' h0;by_cases h1:h<=1099511627776
  .have q1:(h<=1099511627776)=True:=L' h1;rw[WJ ⟨h0,h1⟩,Bool.true_and];apply sR;simp only[go_sem,seval,c92,q0,q1];refine pS rfl (his _) ?_;simp only[go_sem,seval];exact ak.pure hs rfl
  .have q1:(h<=1099511627776)=False:=H' h1;rw[WW (λe=>h1 e.2),Bool.false_and];apply sR;simp only[go_sem,seval,c92,q0,q1];exact ak.pure hs rfl
 .have q0:(h>=1)=False:=H' h0;rw[WW (λe=>h0 e.1),Bool.false_and];apply sR;simp only[go_sem,seval,c92,q0];exact ak.pure hs rfl
def rf{l:List Nd}{p:Nat->Bool}:∀n,(j9 l p n).length<=n
 |0=>by simp[j9]
 |n+1=>by
  rw[ml,jm];have:=rf (l:=l) (p:=p) n;split<;>simp<;>omega
def EY{l:List Nd}{L:List Int}{i:Nat}(h:i<L.length):(L.take (i+1)).flatMap (iL l)=(L.take i).flatMap (iL l)++iL l L[i]:=by
 rw[XH h,List.flatMap_append];simp
def FH{l:List Nd}{L:List Int}{i:Nat}(h:i<L.length):(L.take (i+1)).map (λb=>(XA l b).after)=(L.take i).map (λb=>(XA l b).after)++[(XA l L[i]).after]:=by
 rw[XH h,dG];simp
def Ar{of:List Int}{t:Int}{k:Nat}:∀i,i<=k->(fT of t k i).2=0
 |0,_=>rfl
 |i+1,h=>by
  have:=Ar (of:=of) (t:=t) i (by omega:i<=k);rw[fT];split
  .rw[av (by omega)];exact this
  .exact this
def vT(L:List Int):Int:=if 1∈L then 1 else 0
def Gg{L:List Int}{i:Nat}(h:i<L.length):vT (L.take (i+1))=if L[i]=1 then 1 else vT (L.take i):=by
 unfold vT;rw[XH h];simp only[ec,jO];by_cases e:L[i]=1
 .simp[e]
 .have:¬(1=L[i]):=λh=>e h.symm;simp[e,this]
def oO(l:List Nd)(L:List Int):Int:=L.foldl (λm b=>max m (XA l b).inside) 0
def EX{l:List Nd}{L:List Int}{i:Nat}(h:i<L.length):oO l (L.take (i+1))=max (oO l (L.take i)) (XA l L[i]).inside:=by
 unfold oO;rw[XH h,kZ];rfl
def Lp{l:List Nd}{x:Kn}(h:∀b∈x.both,0<=(XA l b).inside/\(XA l b).inside<=1):oO l x.both=if qJ l x then 1 else 0:=by
 unfold oO;rw[D5 (λb=>(XA l b).inside) _ _ (.inl rfl) h];simp[qJ]
open Go.Proofs
def B1{U:ad}{id e sz:Nat}{r:V}(h:U id=some ⟨e,sz,[r]⟩):bL U e sz (.own id 0 1)=some ([r],some id):=by
 simp[bL,h]
def ay.bT{K U:ad}{e sz i:Nat}{v:V}{rows:List V}{o p:Ob}(h:ay K U e sz v rows)(hi:U i=some p)(V2:p.elem≠e):ay K (C' U i o) e sz v rows:=by
 rcases h with h|⟨id,g1,g2,g3⟩
 .exact .inl h
 .refine .inr ⟨id,g1,?_,g3⟩;rw[Vc.ab (λe'=>by rw[e',hi]at g2;cases g2;exact V2 rfl)];exact g2
def ay.dE{K U:ad}{e sz i:Nat}{v:V}{rows:List V}{p:Ob}(h:ay K U e sz v rows)(hi:U i=some p)(V2:p.elem≠e):∀n,v≠.own i 0 n:=λn hv=>by
 subst hv;rcases h with⟨h,_⟩|⟨id,h,g2,_⟩
 .cases h
 .cases h;rw[hi]at g2;cases g2;exact V2 rfl
def ay.CH{K U:ad}{e sz:Nat}{v:V}{rows:List V}(h:ay K U e sz v rows){idA:Option Nat}(h1:∀i,idA=some i->∀n,v≠.own i 0 n):ay K (Vc.bN U idA) e sz v rows:=by
 rcases h with h|⟨a,rfl,ho,hk⟩
 .exact .inl h
 .refine .inr ⟨a,rfl,?_,hk⟩;cases idA with
  |none=>exact ho
  |some i=>
   have:a≠i:=λe=>h1 i rfl _ (by rw[e]);simp only[Vc.bN];rw[cc this];exact ho
def ay.pI{K ZJ Z1:ad}{e sz:Nat}{v:V}{rows:List V}(h:ay K ZJ e sz v rows)(hs:aa ZJ Z1):
 ∃idA,bL Z1 e sz v=some (rows,idA)/\(∀i,idA=some i->v=.own i 0 rows.length)/\(∀j,(∀n,v≠.own j 0 n)->∀Z2:ad,Vc.bN Z2 idA j=Z2 j)/\(∀K':ad,aa K' K->∀Z2,aa K' Z2->aa K' (Vc.bN Z2 idA)):=by
 rcases h with⟨rfl,rfl⟩|⟨id,rfl,ho,hk⟩
 .exact⟨none,rfl,λ_ h=>(by cases h),λ_ _ _=>rfl,λ_ _ _ h=>h⟩
 .refine⟨some id,?_,λi h=>(by cases h;rfl),λj hj Z2=>cc λe'=>hj rows.length (by rw[e']),λK' hK Z2 h=>h.oN (hK.none hk)⟩;simp only[bL,hs _ _ ho];rw[av ⟨trivial,trivial,trivial,Wa _⟩,eF]
structure KnJ(Z0:ad)(i6 i7:Nat)(E B O:List Int)(U:ad):Prop where
 sub:aa Z0 U
 no:Z0 i7=none
 no6:Z0 i6=none
 r6:U i6=some ⟨259,4,[.agg [.aO,.aO,.aO,vI 0]]⟩
 ne:i6≠i7
 row:∃ve vb vo,U i7=some ⟨259,4,[.agg [ve,vb,vo,vI (-1)]]⟩/\ay Z0 U 3 1 ve (E.map vI)/\ay Z0 U 3 1 vb (B.map vI)/\ay Z0 U 3 1 vo (O.map vI)/\bX vb ve/\bX vb vo
def C6(l:List Nd)(hb:Wg l=true)(hn:l.length<=2000)(of:List Int)(Xi:of.length<=1000000)(Wr:∀x∈of,(0<=x/\x<l.length)/\kdI l x.toNat≠1)(k:Nat)(hk:k<=of.length):
 aL prog 201 [aF l,bb of,vI k] (gF (cK l of k)):=λU=>by
 refine TA.q ?_;have hs:=aa.refl U;have Xs:=bU l;have WL:=dd of;have hH:=λ(i:Nat) (k:Int)=>Hd l (by omega) of i k;rw[JT hb Wr];generalize hpE:(λi=>jq l of i ((k:Int)-1)&&!jq l of i k)=pE;generalize hpB:(λi=>jq l of i k&&!jq l of i ((k:Int)-1))=pB;generalize hpO:(λi=>jq l of i ((k:Int)-1)&&jq l of i k)=pO;have eE:∀i,pE i=(jq l of i ((k:Int)-1)&&!jq l of i k):=λi=>by rw[<-hpE]
 have eB:∀i,pB i=(jq l of i k&&!jq l of i ((k:Int)-1)):=λi=>by rw[<-hpB]
 have eO:∀i,pO i=(jq l of i ((k:Int)-1)&&jq l of i k):=λi=>by rw[<-hpO]
 clear hpE hpB hpO;refine mS 11 ?_;simp only[go_sem,seval,Pj];refine ar hs λi6 Z6 s6 a6 f6 z6 hs=>?_;simp only[go_sem,seval];refine ar hs λi7 Z7 s7 a7 f7 z7 hs=>?_;obtain⟨Zw,a6⟩:=VB a6 f7 s7;simp only[go_sem,seval,a7];generalize Xb:C' _ i7 _=Y7;replace a7:=WC Xb;replace a6:=VN Xb Zw a6;replace hs:=WD Xb hs z7;have hJ0:KnJ U i6 i7 [] [] [] Y7:=⟨hs,z7,z6,a6,Zw,_,_,_,a7,ay.start,ay.start,ay.start,bX.aO _,bX.aO _⟩
 refine ai.loop (λm st=>∃i:Nat,i<=l.length/\m=l.length-i/\KnJ U i6 i7 (j9 l pE i).reverse (j9 l pB i) (j9 l pO i).reverse st.U/\st.s 0=aF l/\st.s 1=bb of/\st.s 2=vI k/\st.s 6=.ptr i6 0 0/\st.s 7=.ptr i7 0 0/\st.s 8=vI i) l.length ?_ ?_
 .exact⟨0,by omega,rfl,hJ0,rfl,rfl,rfl,rfl,rfl,rfl⟩
 .clear hs a6 a7 hJ0;rintro m ⟨S,J⟩ ⟨i,hi,rfl,hJ,k0,k1,k2,k6,k7,k8⟩;simp only at hJ k0 k1 k2 k6 k7 k8;obtain⟨ve,vb,vo,a7,hve,hvb,hvo,hbe,hbo⟩:=hJ.row;have a6:=hJ.r6;obtain⟨ce,se⟩:=hve.vc;obtain⟨cb,sb⟩:=hvb.vc;obtain⟨co,so⟩:=hvo.vc;refine ai.mix 11 ?_;by_cases B':i<l.length
  .have q:=qT B';have WQ:=λU=>bR (U:=U) (l:=l) (a:=i) B';have r1:=rI i;have r2:VO .i64 ((k:Int)-1):=ae;have hkd:kdI l i=l[i].kind:=by simp[kdI,B']
   have sE:=ml (l:=l) (p:=pE) (n:=i);have sB:=ml (l:=l) (p:=pB) (n:=i);have sO:=ml (l:=l) (p:=pO) (n:=i);have lE:=rf (l:=l) (p:=pE) i;have lB:=rf (l:=l) (p:=pB) i;have lO:=rf (l:=l) (p:=pO) i;rw[eE,hkd]at sE;rw[eB,hkd]at sB;rw[eO,hkd]at sO;have h1:=hH i ((k:Int)-1);have h2:=hH i k;generalize j9 l pE i=E at*;generalize j9 l pB i=B at*;generalize j9 l pO i=O at*;generalize l[i]=x at*;by_cases W4:x.kind=1
   .have q1:(x.kind≠1)=False:=H' (λh=>h W4);simp only[W4,true_and]at sE sB sO;apply sR;simp only[go_sem,seval,k0,k1,k2,k8,Xs,q,WQ,Nd.cells,q1,r2];refine pS rfl (h1 _) ?_;simp only[go_sem,seval,k0,k1,k2,k8];refine pR rfl (h2 _) ?_;cases ha:jq l of i ((k:Int)-1)<;>cases hb:jq l of i k
    all_goals rw[ha,hb]at sE sB sO
    all_goals simp only[Bool.not_true,Bool.not_false,Bool.and_self,Bool.and_true,Bool.and_false,if_true,gi,if_false,jt]at sE sB sO
    .apply sR;simp only[go_sem,seval,k0,k1,k2,k6,k7,k8,r1];exact⟨_,by omega,i+1,by omega,rfl,by rw[sE,sB,sO];exact hJ,by simp⟩
    .apply sR;simp only[go_sem,seval,k7,k8,a7];refine aA λi54 Z54 s54 a54 f54=>?_;obtain⟨idA,Wi,hdv,WM,VL⟩:=hvb.pI s54;have b7:=(WM i7 (hvb.dE a7 (by simp)) Z54).trans (s54 _ _ a7);have b6:=(WM i6 (hvb.dE a6 (by simp)) Z54).trans (s54 _ _ a6);have gE:=(hve.mono s54).CH (idA:=idA) λj hj n hv=>hbe _ _ _ _ (hdv j hj) hv rfl;have gO:=(hvo.mono s54).CH (idA:=idA) λj hj n hv=>hbo _ _ _ _ (hdv j hj) hv rfl;have Xc:(B.map vI).length=B.length:=by simp
     have V1:(B.length+1)*9<=140737488355328:=by omega
     simp only[go_sem,seval,Wi,bJ a54,Xc,V1];refine bt λi55 Z55 s55 a55 f55=>?_;have k55:=(VL U (aa.refl U) Z54 (hJ.sub.trans s54)).trans s55;have n55:U i55=none:=(hJ.sub.trans s54).none f55;have c7:=s55 _ _ b7;have c6:=s55 _ _ b6;have apE:bX (.own i55 0 (B.length+1)) ve:=bX.new (hve.mono s54) f55;have apO:bX (.own i55 0 (B.length+1)) vo:=bX.new (hvo.mono s54) f55;replace gE:=gE.mono s55;replace gO:=gO.mono s55;simp only[go_sem,seval,k0,k1,k2,k6,k7,k8,c7];have Zl:ay U Z55 3 1 (.own i55 0 (B.length+1)) ((B++[(i:Int)]).map vI):=ay.new (by simp) (by rw[a55,dG];rfl) n55;refine⟨r1,_,by omega,i+1,by omega,rfl,?_,by simp[vI]⟩;rw[sE,sB,sO];exact⟨k55.az hJ.no,hJ.no,hJ.no6,(ab hJ.ne).trans c6,hJ.ne,_,_,_,ag,gE.bT c7 (by simp),Zl.bT c7 (by simp),gO.bT c7 (by simp),apE,apO⟩
    .apply sR;simp only[go_sem,seval,k8];refine aA λi41 Z41 s41 a41 f41=>?_;have b7:=s41 _ _ a7;have Xc:(E.reverse.map vI).length=E.length:=by simp
     have V1:(1+E.length)*9<=140737488355328:=by omega
     simp only[go_sem,seval,k7,b7,B1 a41,hve.src s41,Xc,V1];refine bt λi44 Z44 s44 a44 f44=>?_;have s4:aa J Z44:=(s41.oN f41).trans s44;have n44:=hJ.sub.none (s41.none f44);have c7:=s4 _ _ a7;have c6:=s4 _ _ a6;simp only[go_sem,seval,k0,k1,k2,k6,k7,k8,c7];have Zl:ay U Z44 3 1 (.own i44 0 (1+E.length)) (((i:Int)::E.reverse).map vI):=ay.new (by simp;omega) a44 n44;have hap:bX vb (.own i44 0 (1+E.length)):=(bX.new hvb (s41.none f44)).symm;have gB:=hvb.mono s4;have gO:=hvo.mono s4;refine⟨r1,_,by omega,i+1,by omega,rfl,?_,by simp[vI]⟩;rw[sE,sB,sO,List.reverse_append,List.reverse_singleton,List.singleton_append];exact⟨(hJ.sub.trans s4).az hJ.no,hJ.no,hJ.no6,(ab hJ.ne).trans c6,hJ.ne,_,_,_,ag,Zl.bT c7 (by simp),gB.bT c7 (by simp),gO.bT c7 (by simp),hap,hbo⟩
    .apply sR;simp only[go_sem,seval,k8];refine aA λi41 Z41 s41 a41 f41=>?_;have b7:=s41 _ _ a7;have Xc:(O.reverse.map vI).length=O.length:=by simp
     have V1:(1+O.length)*9<=140737488355328:=by omega
     simp only[go_sem,seval,k7,b7,B1 a41,hvo.src s41,Xc,V1];refine bt λi44 Z44 s44 a44 f44=>?_;have s4:aa J Z44:=(s41.oN f41).trans s44;have n44:=hJ.sub.none (s41.none f44);have c7:=s4 _ _ a7;have c6:=s4 _ _ a6;simp only[go_sem,seval,k0,k1,k2,k6,k7,k8,c7];have Zl:ay U Z44 3 1 (.own i44 0 (1+O.length)) (((i:Int)::O.reverse).map vI):=ay.new (by simp;omega) a44 n44;have hap:bX vb (.own i44 0 (1+O.length)):=(bX.new hvb (s41.none f44)).symm;have gE:=hve.mono s4;have gB:=hvb.mono s4;refine⟨r1,_,by omega,i+1,by omega,rfl,?_,by simp[vI]⟩;rw[sE,sB,sO,List.reverse_append,List.reverse_singleton,List.singleton_append];exact⟨(hJ.sub.trans s4).az hJ.no,hJ.no,hJ.no6,(ab hJ.ne).trans c6,hJ.ne,_,_,_,ag,gE.bT c7 (by simp),gB.bT c7 (by simp),Zl.bT c7 (by simp),hbe,hap⟩
   .have q1:(x.kind≠1)=True:=L' W4;simp only[W4,false_and,if_false,jt]at sE sB sO;apply sR;simp only[go_sem,seval,k0,k1,k2,k6,k7,k8,Xs,q,WQ,Nd.cells,q1,r1];exact⟨_,by omega,i+1,by omega,rfl,by rw[sE,sB,sO];exact hJ,by simp⟩
  .have q:=qF B';obtain rfl:i=l.length:=by omega
   generalize (j9 l pE l.length).reverse=E at*;generalize j9 l pB l.length=B at*;generalize (j9 l pO l.length).reverse=O at*;have fin:∀(t:Int) (Z1:ad),aa U Z1->Z1 i6=some ⟨259,4,[.agg [.aO,.aO,.aO,vI 0]]⟩->ay U Z1 3 1 ve (E.map vI)->ay U Z1 3 1 vb (B.map vI)->ay U Z1 3 1 vo (O.map vI)->
    ak (.agg [ve,vb,vo,vI t]) (C' Z1 i6 ⟨259,4,[.agg [ve,vb,vo,vI t]]⟩) λr Z'=>r=gF ⟨E,B,O,t⟩/\Z'=U:=by
    intro t Z1 h1 h6 g1 g2 g3;have VP:aa U (C' Z1 i6 ⟨259,4,[.agg [ve,vb,vo,vI t]]⟩):=h1.az hJ.no6;have p1:=g1.bT (o:=⟨259,4,[.agg [ve,vb,vo,vI t]]⟩) h6 (by simp);have p2:=g2.bT (o:=⟨259,4,[.agg [ve,vb,vo,vI t]]⟩) h6 (by simp);have p3:=g3.bT (o:=⟨259,4,[.agg [ve,vb,vo,vI t]]⟩) h6 (by simp);exact⟨_,U,VP,Wk.agg (vs':=[bb E,bb B,bb O,vI t]) ⟨p1.wk (aa.refl U) VP,p2.wk (aa.refl U) VP,p3.wk (aa.refl U) VP,Wk.refl VP _,trivial⟩,rfl,rfl⟩
   have c6:∀o,C' J i7 o i6=some ⟨259,4,[.agg [.aO,.aO,.aO,vI 0]]⟩:=λo=>(ab hJ.ne).trans a6;rcases Nat.eq_zero_or_pos k with rfl|h0
   .have q3:((((0:Nat):Int))>0)=False:=H';rw[aD (by omega)];apply sR;simp only[go_sem,seval,k0,k2,k6,k7,k8,Xs,q,a7,a6];exact fin _ _ hJ.sub a6 hve hvb hvo
   have q3:((k:Int)>0)=True:=L';by_cases h1:k<of.length
   .have q4:=qT h1;have q5:=ae (m:=((k-1:Nat):Int)) (by omega) (by omega);have q6:((k:Int)-1)=((k-1:Nat):Int):=by omega
    have q7:=λU=>du (U:=U) h1;have q8:=λU=>du (U:=U) (l:=of) (i:=k-1) (by omega);have g1:of.getD k 0=of[k]:=by simp[h1]
    have g2:of.getD (k-1) 0=of[k-1]:=by have:k-1<of.length:=by omega
                                        simp[this]
    by_cases h2:of.getD k 0=of.getD (k-1) 0
    .have q9:(of[k]=of[k-1])=True:=L' (by rw[<-g1,<-g2];exact h2);rw[av ⟨h0,h1,h2⟩,g1];apply sR;simp only[go_sem,seval,k0,k1,k2,k6,k7,k8,Xs,q,WL,q3,q4,q5,q6,q7,q8,q9,a7,c6];exact fin _ _ (hJ.sub.az hJ.no) (c6 _) (hve.bT a7 (by simp)) (hvb.bT a7 (by simp)) (hvo.bT a7 (by simp))
    .have q9:(of[k]=of[k-1])=False:=H' (by rw[<-g1,<-g2];exact h2);rw[aD (λh=>h2 h.2.2)];apply sR;simp only[go_sem,seval,k0,k1,k2,k6,k7,k8,Xs,q,WL,q3,q4,q5,q6,q7,q8,q9,a7,a6];exact fin _ _ hJ.sub a6 hve hvb hvo
   .have q4:=qF h1;rw[aD (λh=>h1 h.2.1)];apply sR;simp only[go_sem,seval,k0,k1,k2,k6,k7,k8,Xs,q,WL,q3,q4,a7,a6];exact fin _ _ hJ.sub a6 hve hvb hvo
open Go.Proofs
def CA{L:List Int}{j:Nat}(hj:j<L.length)(h:∀i (h:i<L.length),j<i->¬(L[i]=3\/L[i]=4))(hf:L[j]=3\/L[j]=4):jj L=L[j]:=by
 have hL:L.take j++L[j]::L.drop (j+1)=L:=by rw[<-ju hj,ua]
 have h2:∀x∈L.drop (j+1),¬(x=3\/x=4):=by
  intro x hx;obtain⟨i,hi,rfl⟩:=List.mem_iff_getElem.1 hx;rw[List.getElem_drop];rw[ri]at hi;exact h _ (by omega) (by omega)
 have e:L.reverse.find? (λn=>decide (n=3\/n=4))=some L[j]:=by
  generalize L[j]=x at*;rw[<-hL,List.reverse_append,List.reverse_cons,lq,List.find?_append,List.find?_eq_none.2 (λy hy=>by simpa using h2 y (Kd.1 hy))];simp[hf]
 unfold jj;rw[e]
def Dc{L:List Int}(h:∀i (h:i<L.length),¬(L[i]=3\/L[i]=4)):jj L=if 2∈L then 2 else 0:=by
 have e:L.reverse.find? (λn=>decide (n=3\/n=4))=none:=List.find?_eq_none.2 λy hy=>by
  obtain⟨i,hi,rfl⟩:=List.mem_iff_getElem.1 (Kd.1 hy);simpa using h i hi
 unfold jj;rw[e]
def Et{l:List Nd}{of:List Int}(Wr:∀x∈of,(0<=x/\x<l.length)/\kdI l x.toNat≠1)(k:Nat):(∀b∈(cK l of k).ends,∃n:Nat,b=n/\n<l.length)/\(∀b∈(cK l of k).XT,∃n:Nat,b=n/\n<l.length)/\∀b∈(cK l of k).both,∃n:Nat,b=n/\n<l.length:=by
 have h0:∀x∈of,0<=x/\x<l.length:=λx hx=>(Wr x hx).1;exact⟨nX h0,λb hb=>nX h0 b (Kd.1 hb),nX h0⟩
def EJ{l:List Nd}(hn:l.length<=2000)(of:List Int)(k:Nat):(cK l of k).ends.length<=100001/\(cK l of k).XT.length<=100001/\(cK l of k).both.length<=100001:=by
 refine⟨lI (by omega),?_,lI (by omega)⟩;show(chR l of k _).reverse.length<=_;rw[List.length_reverse];exact lI (by omega)
def By(l:List Nd)(hb:Wg l=true)(hn:l.length<=2000)(of:List Int)(Xi:of.length<=1000000)(Wr:∀x∈of,(0<=x/\x<l.length)/\kdI l x.toNat≠1)(k:Nat)(hk:k<=of.length):
 aL prog 200 [aF l,bb of,vI k] (bb (iD l of k)):=λU=>by
 refine Sv.q ?_;have hs:=aa.refl U;have hkc:=C6 l hb hn of Xi Wr k hk;have WL:=dd of;obtain⟨gE,gB,-⟩:=Et Wr k;obtain⟨lE,lB,-⟩:=EJ hn of k;unfold iD;refine ai.mix 12 ?_;by_cases he:k=of.length
 .have q:((k:Int)=of.length)=True:=L';rw[av he];apply sR;simp only[go_sem,seval,Ns,WL,q];exact(ay.start (e:=0) (sz:=1)).pX hs rfl
 .have q:((k:Int)=of.length)=False:=H';rw[aD he];generalize cK l of k=x at*;obtain⟨E,B,C,tx⟩:=x;simp only at gE gB lE lB;have hlE:=dd E;have hlB:=dd B;apply sR;simp only[go_sem,seval,Ns,WL,q];refine pS rfl (hkc _) ?_;simp only[go_sem,seval,gF];refine ar hs λi8 Z8 s8 a8 f8 z8 hs=>?_;simp only[go_sem,seval,a8];generalize Xm:C' _ i8 _=Y8;replace a8:=WC Xm;replace hs:=WD Xm hs z8;refine ai.loop (λm st=>∃i:Nat,i<=E.length/\m=E.length-i/\aa U st.U/\ay U st.U 3 1 (st.s 7) (((E.take i).map λb=>(XA l b).after).map vI)/\st.U i8=some ⟨259,4,[.agg [bb E,bb B,bb C,vI tx]]⟩/\st.s 0=aF l/\st.s 8=.ptr i8 0 0/\st.s 9=vI i) E.length ?_ ?_
  .exact⟨0,by omega,rfl,hs,ay.start,a8,rfl,rfl,rfl⟩
  .clear a8 hs;rintro m ⟨S,J⟩ ⟨i,hi,rfl,hs,VQ,a8,k0,k8,k9⟩;simp only at hs VQ a8 k0 k8 k9;generalize Ym:S 7=v7 at VQ;refine ai.mix 12 ?_;by_cases B':i<E.length
   .have q1:=qT B';have WG:=λU=>du (U:=U) B';obtain⟨n,hen,Xe⟩:=gE _ (Ws B');have V9:=FH (l:=l) B';rw[hen]at WG V9;rw[eU Xe]at V9;have WQ:=λU=>bR (U:=U) (l:=l) (a:=n) Xe;have r1:=rI i;have Xc:(((E.take i).map λb=>(XA l b).after).map vI).length=i:=by simp;omega
    have V1:(i+1)*9<=140737488355328:=by omega
    generalize l[n]=nd at*;apply sR;simp only[go_sem,seval,k0,k8,k9,Ym,a8,q1,hlE,WG,WQ,Nd.cells];refine aA λi38 Z38 s38 a38 f38=>?_;obtain⟨idA,Wi,hdv,WM,VL⟩:=VQ.pI s38;have b8:=(WM i8 (VQ.dE a8 (by simp)) Z38).trans (s38 _ _ a8);simp only[go_sem,seval,Wi,bJ a38,Xc,V1];refine bt λi39 Z39 s39 a39 f39=>?_;have k39:=(VL U (aa.refl U) Z38 (hs.trans s38)).trans s39;have n39:U i39=none:=(hs.trans s38).none f39;have c8:=s39 _ _ b8;simp only[go_sem,seval,k0,k8,k9,r1,c8];refine⟨_,by omega,i+1,by omega,rfl,k39,?_,by simp⟩;rw[V9,dG];exact ay.new (by simp;omega) a39 n39
   .have q1:=qF B';obtain rfl:i=E.length:=by omega
    rw[eF]at VQ;apply sR;simp only[go_sem,seval,k8,k9,a8,q1,hlE];generalize hAE:(E.map λb=>(XA l b).after)=AE at*;have hAl:AE.length<=100001:=by rw[<-hAE,cO];exact lE
    have Xj:AM l ⟨E,B,C,tx⟩=AE++B.flatMap (iL l):=by rw[<-hAE];rfl
    rw[Xj];refine ai.loop (λm st=>∃i:Nat,i<=B.length/\m=B.length-i/\aa U st.U/\ay U st.U 3 1 (st.s 7) ((AE++(B.take i).flatMap (iL l)).map vI)/\st.U i8=some ⟨259,4,[.agg [bb E,bb B,bb C,vI tx]]⟩/\st.s 0=aF l/\st.s 8=.ptr i8 0 0/\st.s 10=vI i) B.length ?_ ?_
    .exact⟨0,by omega,rfl,hs,by rw[List.take_zero,List.flatMap_nil,jt];show ay _ _ _ _ (S 7) _;rw[Ym];exact VQ,a8,k0,k8,rfl⟩
    .clear a8 hs VQ k0 k8 k9 Ym hi;rintro m ⟨S,J⟩ ⟨i,hi,rfl,hs,VQ,a8,k0,k8,XW⟩;simp only at hs VQ a8 k0 k8 XW;generalize Ym:S 7=v7 at VQ;refine ai.mix 12 ?_;by_cases B':i<B.length
     .have q1:=qT B';have WG:=λU=>du (U:=U) B';obtain⟨n,hen,Xe⟩:=gB _ (Ws B');have V9:=EY (l:=l) B';rw[hen]at WG V9;have WQ:=λU=>bR (U:=U) (l:=l) (a:=n) Xe;have hbg:iL l (n:Int)=(if 0<l[n].st.head then[2]else[])++[l[n].st.before]:=by unfold iL;rw[eU Xe]
      rw[hbg]at V9;have r1:=rI i;have hll:((B.take i).flatMap (iL l)).length<=2*i:=j2 (wG _ (Ap l) _) (by rw[jN];omega);have Xc:((AE++(B.take i).flatMap (iL l)).map vI).length=(AE++(B.take i).flatMap (iL l)).length:=by simp
      have hlb:(AE++(B.take i).flatMap (iL l)).length<=400000:=by rw[jm];omega
      have hRn:AE++(B.take (i+1)).flatMap (iL l)=(AE++(B.take i).flatMap (iL l))++((if 0<l[n].st.head then[2]else[])++[l[n].st.before]):=by rw[V9,lq]
      generalize AE++(B.take i).flatMap (iL l)=R at*;have V1:(R.length+1)*9<=140737488355328:=by omega
      generalize l[n]=nd at*;have Wm:=hs;replace hs:=aa.refl J;apply sR;simp only[go_sem,seval,k0,k8,XW,a8,q1,hlB,WG,WQ,Nd.cells];refine ar hs λi11 Z11 Zu X2 f11 z11 hs=>?_;obtain⟨n811,a8⟩:=VB a8 f11 Zu;have hout1:=(VQ.mono Zu)
      by_cases hd:nd.st.head>0
      .have q2:(nd.st.head>0)=True:=L' hd;simp only[go_sem,seval,Ym,X2,q2];generalize WA:C' Z11 i11 _=Y11;have a11':=(congrFun WA i11).symm.trans ag;have a8':=((congrFun WA i8).symm.trans (ab n811)).trans a8;have hout2:ay U Y11 3 1 v7 (R.map vI):=by rw[<-WA];exact hout1.bT X2 (by simp)
       have W9:aa U Y11:=by rw[<-WA];exact(Wm.trans Zu).az ((Wm.trans (aa.refl J)).none z11)
       clear WA;refine aA λi60 Z60 s60 a60 f60=>?_;obtain⟨idA,Wi,hdv,WM,VL⟩:=hout2.pI s60;have b8:=(WM i8 (hout2.dE a8' (by simp)) Z60).trans (s60 _ _ a8');have b11:=(WM i11 (hout2.dE a11' (by simp)) Z60).trans (s60 _ _ a11');simp only[go_sem,seval,Wi,bJ a60,Xc,V1];refine bt λi61 Z61 s61 a61 f61=>?_;have k61:=(VL U (aa.refl U) Z60 (W9.trans s60)).trans s61;have n61:U i61=none:=(W9.trans s60).none f61;have c8:=s61 _ _ b8;have c11:=s61 _ _ b11;have hout3:ay U Z61 3 1 (.own i61 0 (R.length+1)) ((R++[2]).map vI):=ay.new (by simp) (by rw[a61,dG];rfl) n61;have hlm3:((R++[(2:Int)]).map vI).length=R.length+1:=by simp
       have hb3:(R.length+1+1)*9<=140737488355328:=by omega
       simp only[go_sem,seval,c11];refine aA λi65 Z65 s65 a65 f65=>?_;obtain⟨idB,hdb,hdvB,hdB1,hdelB⟩:=hout3.pI s65;have d8:=(hdB1 i8 (hout3.dE c8 (by simp)) Z65).trans (s65 _ _ c8);simp only[go_sem,seval,hdb,bJ a65,hlm3,hb3];refine bt λi66 Z66 s66 a66 f66=>?_;have k66:=(hdelB U (aa.refl U) Z65 (k61.trans s65)).trans s66;have n66:U i66=none:=(k61.trans s65).none f66;have e8:=s66 _ _ d8;simp only[go_sem,seval,k0,k8,XW,r1,e8];refine⟨_,by omega,i+1,by omega,rfl,k66,?_,by simp⟩;rw[hRn,av hd];exact ay.new (by simp) (by rw[a66];simp) n66
      .have q2:(nd.st.head>0)=False:=H' hd;simp only[go_sem,seval,Ym,X2,q2];generalize WA:C' Z11 i11 _=Y11;have a8':=((congrFun WA i8).symm.trans (ab n811)).trans a8;have hout2:ay U Y11 3 1 v7 (R.map vI):=by rw[<-WA];exact hout1.bT X2 (by simp)
       have W9:aa U Y11:=by rw[<-WA];exact(Wm.trans Zu).az ((Wm.trans (aa.refl J)).none z11)
       clear WA;refine aA λi65 Z65 s65 a65 f65=>?_;obtain⟨idB,hdb,hdvB,hdB1,hdelB⟩:=hout2.pI s65;have d8:=(hdB1 i8 (hout2.dE a8' (by simp)) Z65).trans (s65 _ _ a8');simp only[go_sem,seval,hdb,bJ a65,Xc,V1];refine bt λi66 Z66 s66 a66 f66=>?_;have k66:=(hdelB U (aa.refl U) Z65 (W9.trans s65)).trans s66;have n66:U i66=none:=(W9.trans s65).none f66;have e8:=s66 _ _ d8;simp only[go_sem,seval,k0,k8,XW,r1,e8];refine⟨_,by omega,i+1,by omega,rfl,k66,?_,by simp⟩;rw[hRn,aD (by omega),iC];exact ay.new (by simp) (by rw[a66];simp) n66
     .have q1:=qF B';obtain rfl:i=B.length:=by omega
      rw[eF]at VQ;apply sR;simp only[go_sem,seval,k8,XW,Ym,a8,q1,hlB];exact VQ.pX hs rfl
open Go.Proofs
def MD(l:List Nd)(hb:Wg l=true)(hn:l.length<=2000)(of:List Int)(Xi:of.length<=1000000)(Wr:∀x∈of,(0<=x/\x<l.length)/\kdI l x.toNat≠1)(k:Nat)(hk:k<=of.length):
 aL prog 149 [aF l,bb of,vI k] (vI (jg l of k)):=λU=>by
 refine TD.q ?_;have hs:=aa.refl U;have hac:=By l hb hn of Xi Wr k hk;have hAl:=mD (l:=l) (by omega) of k;unfold jg;rw[xF _ _ rfl];generalize iD l of k=A at*;have hlA:=dd A;have r0:VO .i64 ((A.length:Int)-1):=ae;refine mS 10 ?_;simp only[go_sem,seval,P7];refine pS rfl (hac _) ?_;simp only[go_sem,seval,hlA,r0];refine ai.loop (λm st=>∃j:Nat,j<=A.length/\m=j/\(∀i (h:i<A.length),j<=i->¬(A[i]=3\/A[i]=4))/\st.U=U/\st.s 7=bb A/\st.s 8=vI ((j:Int)-1)) A.length ?_ ?_
 .exact⟨A.length,by omega,rfl,λi h h'=>by omega,rfl,rfl,rfl⟩
 .rintro m ⟨S,J⟩ ⟨j,hj,rfl,hz,V7,k7,k8⟩;simp only at V7 k7 k8;subst V7;refine ai.mix 10 ?_;rcases Nat.eq_zero_or_pos m with rfl|Xd
  .have q:(((0:Nat):Int)-1>=0)=False:=H';rw[Dc λi h=>hz i h (by omega)];apply sR;simp only[go_sem,seval,k8];refine ai.loop (λm st=>∃i:Nat,i<=A.length/\m=A.length-i/\2∉A.take i/\st.U=J/\st.s 7=bb A/\st.s 9=vI i) A.length ?_ ?_
   .exact⟨0,by omega,rfl,by simp,rfl,k7,rfl⟩
   .clear k7 k8;rintro m ⟨S,U⟩ ⟨i,hi,rfl,hz,V7,k7,k9⟩;simp only at V7 k7 k9;subst V7;refine ai.mix 10 ?_;by_cases B':i<A.length
    .have q1:=qT B';have WG:=λU=>du (U:=U) B';have aaa:A[i]∈A:=Ws B';have V9:A.take (i+1)=A.take i++[A[i]]:=XH B';have r1:=rI i;generalize A[i]=x at*;by_cases hx:x=2
     .have q2:(x=2)=True:=L' hx;rw[av (by rw[<-hx];exact aaa)];apply sR;simp only[go_sem,seval,k7,k9,q1,hlA,WG,q2];exact ak.pure hs rfl
     .have q2:(x=2)=False:=H' hx;apply sR;simp only[go_sem,seval,k7,k9,q1,hlA,WG,q2,r1];refine⟨_,by omega,i+1,by omega,rfl,?_,by simp[vI]⟩;rw[V9];simp only[ec,jO,not_or];exact⟨hz,λh=>hx h.symm⟩
    .have q1:=qF B';obtain rfl:i=A.length:=by omega
     rw[eF]at hz;rw[aD hz];apply sR;simp only[go_sem,seval,k7,k9,q1,hlA];exact ak.pure hs rfl
  .obtain⟨j,rfl⟩:∃j,m=j+1:=⟨m-1,by omega⟩
   have e1:(((j+1:Nat):Int)-1)=j:=by omega
   rw[e1]at k8;have q:((j:Int)>=0)=True:=L';have B':j<A.length:=by omega
   have WG:=λU=>du (U:=U) B';have XG:=CA B' (λi h h'=>hz i h (by omega));have r1:VO .i64 ((j:Int)-1):=ae;generalize hx:A[j]=x at*;by_cases h3:x=3
   .have q3:(x=3)=True:=L' h3;rw[XG (.inl h3)];apply sR;simp only[go_sem,seval,k7,k8,q,WG,q3];exact ak.pure hs rfl
   .have q3:(x=3)=False:=H' h3;by_cases h4:x=4
    .have q4:(x=4)=True:=L' h4;rw[XG (.inr h4)];apply sR;simp only[go_sem,seval,k7,k8,q,WG,q3,q4];exact ak.pure hs rfl
    .have q4:(x=4)=False:=H' h4;apply sR;simp only[go_sem,seval,k7,k8,q,WG,q3,q4,r1];refine⟨_,by omega,j,by omega,rfl,λi h h'=>?_,by simp[vI]⟩;by_cases e:i=j
     .subst e;rw[hx];omega
     .exact hz i h (by omega)
def vi(f:Nat->Int)(i:Nat):((List.range (i+1)).map f).map vI=((List.range i).map f).map vI++[vI (f i)]:=by
 rw[List.range_succ,dG,dG];rfl
def Li(l:List Nd)(hb:Wg l=true)(hn:l.length<=2000)(of:List Int)(Xi:of.length<=1000000)(Wr:∀x∈of,(0<=x/\x<l.length)/\kdI l x.toNat≠1):
 aL prog 95 [aF l,bb of] (bb (tL l of)):=λU=>by
 refine e95.q ?_;have hs:=aa.refl U;have hac:=λk hk=>MD l hb hn of Xi Wr k hk;have WL:=dd of;unfold tL;generalize jg l of=F at*;generalize hX:bb ((List.range (of.length+1)).map F)=X;refine mS 7 ?_;simp only[go_sem,seval,c95];refine ai.loop (λm st=>∃i:Nat,i<=of.length+1/\m=of.length+1-i/\aa U st.U/\ay U st.U 3 1 (st.s 5) (((List.range i).map F).map vI)/\st.s 0=aF l/\st.s 1=bb of/\st.s 6=vI i) (of.length+1) ?_ ?_
 .exact⟨0,by omega,rfl,hs,ay.start,rfl,rfl,rfl⟩
 .clear hs;rintro m ⟨S,J⟩ ⟨i,hi,rfl,hs,VQ,k0,k1,k6⟩;simp only at hs VQ k0 k1 k6;generalize hv5:S 5=v5 at VQ;refine ai.mix 7 ?_;by_cases B':i<=of.length
  .have q:((i:Int)<=of.length)=True:=L';have r1:=rI i;have Xc:(((List.range i).map F).map vI).length=i:=by simp
   have V1:(i+1)*9<=140737488355328:=by omega
   apply sR;simp only[go_sem,seval,k0,k1,k6,hv5,q,WL];refine pS rfl (hac i B' _) ?_;simp only[go_sem,seval];refine aA λi38 Z38 s38 a38 f38=>?_;obtain⟨idA,Wi,VL⟩:=VQ.dst s38;simp only[go_sem,seval,Wi,bJ a38,Xc,V1];refine bt λi39 Z39 s39 a39 f39=>?_;have k39:=(VL U (aa.refl U) Z38 (hs.trans s38)).trans s39;have n39:U i39=none:=(hs.trans s38).none f39;simp only[go_sem,seval,k0,k1,k6,r1];refine⟨_,by omega,i+1,by omega,rfl,k39,?_,by simp⟩;rw[vi];exact ay.new (by simp) a39 n39
  .have q:((i:Int)<=of.length)=False:=H';obtain rfl:i=of.length+1:=by omega
   apply sR;simp only[go_sem,seval,k1,k6,hv5,q,WL];exact VQ.pX hs hX
open Go.Proofs
def Gs(l:List Nd)(hb:Wg l=true)(hn:l.length<=2000)(of:List Int)(Xi:of.length<=1000000)(Wr:∀x∈of,(0<=x/\x<l.length)/\kdI l x.toNat≠1)(k:Nat)(hk:k<=of.length):
 aL prog 202 [aF l,bb of,vI k] (.VG [vI (jI of (cK l of k).text k).1,vI (jI of (cK l of k).text k).2]):=λU=>by
 refine U5.q ?_;have hs:=aa.refl U;have hkc:=C6 l hb hn of Xi Wr k hk;have WL:=dd of;generalize cK l of k=x at*;obtain⟨E,B,C,t⟩:=x;simp only at hkc|-;refine mS 13 ?_;simp only[go_sem,seval,Pf];refine pR rfl (hkc _) ?_;unfold jI;by_cases ht:t<0
 .have q:(t<0)=True:=L' ht;rw[av ht];apply sR;simp only[go_sem,seval,gF,q];exact ak.pure hs rfl
 .have q:(t<0)=False:=H' ht;rw[aD ht];apply sR;simp only[go_sem,seval,gF,q];refine ai.loop (λm st=>∃i:Nat,i<=k/\m=k-i/\st.U=U/\st.s 1=bb of/\st.s 2=vI k/\st.s 8=vI t/\st.s 9=vI (fT of t k i).1/\st.s 10=vI 0/\st.s 11=vI i) k ?_ ?_
  .exact⟨0,by omega,rfl,rfl,rfl,rfl,rfl,rfl,rfl,rfl⟩
  .rintro m ⟨S,J⟩ ⟨i,hi,rfl,V7,k1,k2,k8,k9,XW,YM⟩;simp only at V7 k1 k2 k8 k9 XW YM;subst V7;refine ai.mix 13 ?_;by_cases B':i<k
   .have q1:((i:Int)<k)=True:=L';have Xx:i<of.length:=by omega
    have WG:=λU=>du (U:=U) Xx;have ZK:of.getD i 0=of[i]:=by simp[Xx]
    have VP:fT of t k (i+1)=if of.getD i 0=t then if i<k then((fT of t k i).1+1,(fT of t k i).2)else((fT of t k i).1,(fT of t k i).2+1)else fT of t k i:=rfl
    rw[ZK,av B']at VP;have hle:=(uz of t k i).1;have r1:=rI i;have r2:VO .i64 (((fT of t k i).1:Int)+1):=ae;generalize of[i]=y at*;by_cases hy:y=t
    .have q2:(y=t)=True:=L' hy;rw[av hy]at VP;apply sR;simp only[go_sem,seval,k1,k2,k8,k9,XW,YM,q1,WG,q2,r1,r2];exact⟨_,by omega,i+1,by omega,rfl,by simp[VP,vI]⟩
    .have q2:(y=t)=False:=H' hy;rw[aD hy]at VP;apply sR;simp only[go_sem,seval,k1,k2,k8,k9,XW,YM,q1,WG,q2,r1];exact⟨_,by omega,i+1,by omega,rfl,by simp[VP,vI]⟩
   .have q1:((i:Int)<k)=False:=H';obtain rfl:i=k:=by omega
    have h0:=Ar (of:=of) (t:=t) i (Wa _);apply sR;simp only[go_sem,seval,k2,YM,q1];refine ai.loop (λm st=>∃j:Nat,i<=j/\j<=of.length/\m=of.length-j/\st.U=J/\st.s 1=bb of/\st.s 8=vI t/\st.s 9=vI (fT of t i j).1/\st.s 10=vI (fT of t i j).2/\st.s 12=vI j) (of.length-i) ?_ ?_
    .exact⟨i,by omega,by omega,rfl,rfl,k1,k8,k9,by rw[h0];exact XW,rfl⟩
    .clear k1 k2 k8 k9 XW YM;rintro m ⟨S,U⟩ ⟨j,hij,hj,rfl,V7,k1,k8,k9,XW,Xk⟩;simp only at V7 k1 k8 k9 XW Xk;subst V7;refine ai.mix 13 ?_;by_cases B':j<of.length
     .have q2:=qT B';have WG:=λU=>du (U:=U) B';have ZK:of.getD j 0=of[j]:=by simp[B']
      have VP:fT of t i (j+1)=if of.getD j 0=t then if j<i then((fT of t i j).1+1,(fT of t i j).2)else((fT of t i j).1,(fT of t i j).2+1)else fT of t i j:=rfl
      rw[ZK,aD (show¬j<i by omega)]at VP;have hle:=(uz of t i j).2;have r1:=rI j;have r2:VO .i64 (((fT of t i j).2:Int)+1):=ae;generalize of[j]=y at*;by_cases hy:y=t
      .have q3:(y=t)=True:=L' hy;rw[av hy]at VP;apply sR;simp only[go_sem,seval,k1,k8,k9,XW,Xk,WL,q2,WG,q3,r1,r2];exact⟨_,by omega,j+1,by omega,by omega,rfl,by simp[VP,vI]⟩
      .have q3:(y=t)=False:=H' hy;rw[aD hy]at VP;apply sR;simp only[go_sem,seval,k1,k8,k9,XW,Xk,WL,q2,WG,q3,r1];exact⟨_,by omega,j+1,by omega,by omega,rfl,by simp[VP,vI]⟩
     .have q2:=qF B';obtain rfl:j=of.length:=by omega
      apply sR;simp only[go_sem,seval,k1,k9,XW,Xk,WL,q2];exact ak.pure hs rfl
open Go.Proofs
def Ny(l:List Nd)(hb:Wg l=true)(hn:l.length<=2000)(of:List Int)(Xi:of.length<=1000000)(Wr:∀x∈of,(0<=x/\x<l.length)/\kdI l x.toNat≠1)(k:Nat)(hk:k<=of.length):
 aL prog 150 [aF l,bb of,vI k] (vI (mq l of k)):=λU=>by
 refine UN.q ?_;have hs:=aa.refl U;have hkc:=C6 l hb hn of Xi Wr k hk;have hlc:=Gs l hb hn of Xi Wr k hk;have hac:=By l hb hn of Xi Wr k hk;have hAl:=mD (l:=l) (by omega) of k;have WL:=dd of;obtain⟨-,-,gO⟩:=Et Wr k;obtain⟨-,-,lO⟩:=EJ hn of k;have htx:=BL (λx hx=>(Wr x hx).1) k;rw[KZ];have hwi:∀b∈(cK l of k).both,0<=(XA l b).inside/\(XA l b).inside<=1:=λb YT=>by
  obtain⟨n,rfl,Xe⟩:=gO b YT;rw[eU Xe];exact(fw hb Xe).st.inside
 have hins:=Lp hwi;rw[<-hins];have hfw:(if Fx l of (cK l of k).text k=true then(1:Int)else 0)=if 0<=(cK l of k).text/\(((jI of (cK l of k).text k).1:Int)<(jE l (cK l of k).text).VK\/((jI of (cK l of k).text k).2:Int)<(jE l (cK l of k).text).VY)then 1 else 0:=by
  unfold Fx;by_cases h:(cK l of k).text<0
  .rw[av h,aD (by simp),aD (λh'=>by omega)]
  .rw[aD h];simp only[X7,show(0<=(cK l of k).text)=True from L',true_and]
 rw[hfw];have hpc:=λ(a:Nat) (ha:a<l.length)=>BA l (by omega) a ha;have hI:0<=oO l (cK l of k).both/\oO l (cK l of k).both<=1:=by rw[hins];split<;>omega
 clear hfw hins;generalize cK l of k=x at*;obtain⟨E,B,O,t⟩:=x;simp only at gO lO htx hwi hkc hlc hI|-;have hlO:=dd O;generalize iD l of k=A at*;have hlA:=dd A;generalize jI of t k=X at*;obtain⟨a,b⟩:=X;simp only at hlc|-;refine ai.mix 19 ?_;by_cases h0:k=0\/k=of.length
 .rw[av h0];by_cases h1:k=0
  .have q0:((k:Int)=0)=True:=L';apply sR;simp only[go_sem,seval,KC,q0];exact ak.pure hs rfl
  .have q0:((k:Int)=0)=False:=H';have q1:((k:Int)=of.length)=True:=L';apply sR;simp only[go_sem,seval,KC,WL,q0,q1];exact ak.pure hs rfl
 rw[aD h0];obtain⟨ANS,hANS⟩:∃z,z=(if 0<=t/\((a:Int)<(jE l t).VK\/(b:Int)<(jE l t).VY)then(1:Int)else 0)+2*oO l O+4*(if 1∈A then 1 else 0):=⟨_,rfl⟩
 rw[<-hANS];have q0:((k:Int)=0)=False:=H';have q1:((k:Int)=of.length)=False:=H';apply sR;simp only[go_sem,seval,KC,WL,q0,q1];refine pS rfl (hkc _) ?_;simp only[go_sem,seval,gF];refine ar hs λi7 Z7 s7 a7 f7 z7 hs=>?_;by_cases ht:t<0
 case' pos=>
  have q2:(t>=0)=False:=H';generalize Zr:jE l t=sd at*;obtain⟨sm,hsm⟩:∃sm:Int,sm=0:=⟨0,rfl⟩
  have eY:(if 0<=t/\((a:Int)<sd.VK\/(b:Int)<sd.VY)then(1:Int)else 0)=sm:=by rw[hsm,aD (λh=>by omega)]
  simp only[go_sem,seval,a7,q2];generalize Xb:C' _ i7 _=Y7;replace a7:=WC Xb;replace hs:=WD Xb hs z7
 case' neg=>
  have q2:(t>=0)=True:=L';obtain⟨n,hnt⟩:∃n:Nat,t=n:=⟨t.toNat,by omega⟩
  have hpn:=hpc n (by omega);have hpr:=eo l n;have Zf:jE l t=if 0<=dh l n then XA l (dh l n)else pT:=by unfold jE;rw[hnt];rfl
  rw[<-hnt]at hpn;simp only[go_sem,seval,a7,q2];generalize Xb:C' _ i7 _=Y7;replace a7:=WC Xb;replace hs:=WD Xb hs z7;apply sR;simp only[go_sem,seval];refine pR rfl (hpn _) ?_;generalize dh l n=pr at*;rcases Decidable.em (pr>=0)with hp|hp
  case' inl=>
   have q3:(pr>=0)=True:=L' hp;obtain⟨m,rfl⟩:∃m:Nat,pr=m:=⟨pr.toNat,by omega⟩
   have hml:m<l.length:=by omega
   have WQ:=λU=>bR (U:=U) (l:=l) (a:=m) hml;rw[show jE l t=l[m].st by rw[Zf,av (by omega),eU hml]]at hANS;apply sR;simp only[go_sem,seval,q3,WQ,Nd.cells];generalize l[m].st=sd at*;refine pR rfl (hlc _) ?_;by_cases ha:(a:Int)<sd.VK
   case' pos=>
    have q4:((a:Int)<sd.VK)=True:=L' ha;obtain⟨sm,hsm⟩:∃sm:Int,sm=1:=⟨1,rfl⟩
    have eY:(if 0<=t/\((a:Int)<sd.VK\/(b:Int)<sd.VY)then(1:Int)else 0)=sm:=by rw[hsm];exact av ⟨by omega,.inl ha⟩
    apply sR;simp only[go_sem,seval,q4]
   case' neg=>
    have q4:((a:Int)<sd.VK)=False:=H' ha;by_cases hbw:(b:Int)<sd.VY
    case' pos=>
     have q5:((b:Int)<sd.VY)=True:=L' hbw;obtain⟨sm,hsm⟩:∃sm:Int,sm=1:=⟨1,rfl⟩
     have eY:(if 0<=t/\((a:Int)<sd.VK\/(b:Int)<sd.VY)then(1:Int)else 0)=sm:=by rw[hsm];exact av ⟨by omega,.inr hbw⟩
     apply sR;simp only[go_sem,seval,q4,q5]
    case' neg=>
     have q5:((b:Int)<sd.VY)=False:=H' hbw;obtain⟨sm,hsm⟩:∃sm:Int,sm=0:=⟨0,rfl⟩
     have eY:(if 0<=t/\((a:Int)<sd.VK\/(b:Int)<sd.VY)then(1:Int)else 0)=sm:=by rw[hsm];exact aD (λh=>by omega)
     apply sR;simp only[go_sem,seval,q4,q5]
  case' inr=>
   have q3:(pr>=0)=False:=H' hp;rw[show jE l t=pT by rw[Zf,aD (by omega)]]at hANS;generalize Zr:pT=sd at hANS;have e1:sd.VK=2:=by rw[<-Zr];rfl
   have e2:sd.VY=2:=by rw[<-Zr];rfl
   apply sR;simp only[go_sem,seval,q3];refine pR rfl (hlc _) ?_;by_cases ha:(a:Int)<sd.VK
   case' pos=>
    have q4:((a:Int)<2)=True:=L';obtain⟨sm,hsm⟩:∃sm:Int,sm=1:=⟨1,rfl⟩
    have eY:(if 0<=t/\((a:Int)<sd.VK\/(b:Int)<sd.VY)then(1:Int)else 0)=sm:=by rw[hsm];exact av ⟨by omega,.inl ha⟩
    apply sR;simp only[go_sem,seval,q4]
   case' neg=>
    have q4:((a:Int)<2)=False:=H';by_cases hbw:(b:Int)<sd.VY
    case' pos=>
     have q5:((b:Int)<2)=True:=L';obtain⟨sm,hsm⟩:∃sm:Int,sm=1:=⟨1,rfl⟩
     have eY:(if 0<=t/\((a:Int)<sd.VK\/(b:Int)<sd.VY)then(1:Int)else 0)=sm:=by rw[hsm];exact av ⟨by omega,.inr hbw⟩
     apply sR;simp only[go_sem,seval,q4,q5]
    case' neg=>
     have q5:((b:Int)<2)=False:=H';obtain⟨sm,hsm⟩:∃sm:Int,sm=0:=⟨0,rfl⟩
     have eY:(if 0<=t/\((a:Int)<sd.VK\/(b:Int)<sd.VY)then(1:Int)else 0)=sm:=by rw[hsm];exact aD (λh=>by omega)
     apply sR;simp only[go_sem,seval,q4,q5]
 all_goals
  clear hlc;rw[eY]at hANS;clear eY;have hsm1:0<=sm/\sm<=1:=by omega
  refine ai.loop (λm st=>∃i:Nat,i<=O.length/\m=O.length-i/\aa U st.U/\st.U i7=some ⟨259,4,[.agg [bb E,bb B,bb O,vI t]]⟩/\st.s 0=aF l/\st.s 1=bb of/\st.s 2=vI k/\st.s 7=.ptr i7 0 0/\st.s 8=vI sm/\st.s 14=vI (oO l (O.take i))/\st.s 15=vI i) O.length ?_ ?_
  .exact⟨0,by omega,rfl,hs,a7,rfl,rfl,rfl,rfl,by rw[hsm];rfl,rfl,rfl⟩
  .clear hs a7;rintro m ⟨S,J⟩ ⟨i,hi,rfl,hs,a7,k0,k1,k2,k7,k8,k14,k15⟩;simp only at hs a7 k0 k1 k2 k7 k8 k14 k15;refine ai.mix 19 ?_;by_cases B':i<O.length
   .have u1:=qT B';have WG:=λU=>du (U:=U) B';obtain⟨n,hen,Xe⟩:=gO _ (Ws B');have V9:=EX (l:=l) B';rw[hen]at WG V9;rw[eU Xe]at V9;have WQ:=λU=>bR (U:=U) (l:=l) (a:=n) Xe;have r1:=rI i;generalize l[n]=nd at*;apply sR;simp only[go_sem,seval,k0,k1,k2,k7,k8,k14,k15,a7,u1,hlO,WG,WQ,Nd.cells,ct,r1];exact⟨_,by omega,i+1,by omega,rfl,hs,by simp[V9,vI]⟩
   .have u1:=qF B';obtain rfl:i=O.length:=by omega
    rw[eF]at k14;apply sR;simp only[go_sem,seval,k0,k1,k2,k7,k15,a7,u1,hlO];refine pS rfl (hac _) ?_;simp only[go_sem,seval];refine ai.loop (λm st=>∃i:Nat,i<=A.length/\m=A.length-i/\aa U st.U/\st.s 8=vI sm/\st.s 14=vI (oO l O)/\st.s 16=vI (vT (A.take i))/\st.s 17=bb A/\st.s 18=vI i) A.length ?_ ?_
    .exact⟨0,by omega,rfl,hs,k8,k14,rfl,rfl,rfl⟩
    .clear hs k0 k1 k2 k7 k8 k14 k15 hi hac;rintro m ⟨S,J⟩ ⟨i,hi,rfl,hs,k8,k14,k16,k17,k18⟩;simp only at hs k8 k14 k16 k17 k18;refine ai.mix 19 ?_;by_cases B':i<A.length
     .have u1:=qT B';have WG:=λU=>du (U:=U) B';have V9:=Gg B';have r1:=rI i;generalize A[i]=y at*;by_cases hy:y=1
      .have u2:(y=1)=True:=L' hy;rw[av hy]at V9;apply sR;simp only[go_sem,seval,k8,k14,k17,k18,u1,hlA,WG,u2,r1];exact⟨_,by omega,i+1,by omega,rfl,hs,by simp[V9,vI]⟩
      .have u2:(y=1)=False:=H' hy;rw[aD hy]at V9;apply sR;simp only[go_sem,seval,k8,k14,k16,k17,k18,u1,hlA,WG,u2,r1];exact⟨_,by omega,i+1,by omega,rfl,hs,by simp[V9,vI]⟩
     .have u1:=qF B';obtain rfl:i=A.length:=by omega
      rw[eF]at k16;have hh:vT A=0\/vT A=1:=by unfold vT;split<;>simp
      rw[show(if 1∈A then(1:Int)else 0)=vT A from rfl]at hANS;have r1:VO .i64 (2*oO l O):=ae;have r2:VO .i64 (sm+2*oO l O):=ae;have r3:VO .i64 (4*vT A):=ae;have r4:VO .i64 (sm+2*oO l O+4*vT A):=ae;generalize vT A=q at*;generalize oO l O=w at*;apply sR;simp only[go_sem,seval,k8,k14,k16,k17,k18,u1,hlA,r1,r2,r3,r4];exact ak.pure hs (by rw[hANS])
open Go.Proofs
def KW(l:List Nd)(hb:Wg l=true)(hn:l.length<=2000)(of:List Int)(Xi:of.length<=1000000)(Wr:∀x∈of,(0<=x/\x<l.length)/\kdI l x.toNat≠1):
 aL prog 96 [aF l,bb of] (bb (tC l of)):=λU=>by
 refine e96.q ?_;have hs:=aa.refl U;have hac:=λk hk=>Ny l hb hn of Xi Wr k hk;have WL:=dd of;unfold tC;generalize mq l of=F at*;generalize hX:bb ((List.range (of.length+1)).map F)=X;refine mS 7 ?_;simp only[go_sem,seval,c96];refine ai.loop (λm st=>∃i:Nat,i<=of.length+1/\m=of.length+1-i/\aa U st.U/\ay U st.U 3 1 (st.s 5) (((List.range i).map F).map vI)/\st.s 0=aF l/\st.s 1=bb of/\st.s 6=vI i) (of.length+1) ?_ ?_
 .exact⟨0,by omega,rfl,hs,ay.start,rfl,rfl,rfl⟩
 .clear hs;rintro m ⟨S,J⟩ ⟨i,hi,rfl,hs,VQ,k0,k1,k6⟩;simp only at hs VQ k0 k1 k6;generalize hv5:S 5=v5 at VQ;refine ai.mix 7 ?_;by_cases B':i<=of.length
  .have q:((i:Int)<=of.length)=True:=L';have r1:=rI i;have Xc:(((List.range i).map F).map vI).length=i:=by simp
   have V1:(i+1)*9<=140737488355328:=by omega
   apply sR;simp only[go_sem,seval,k0,k1,k6,hv5,q,WL];refine pS rfl (hac i B' _) ?_;simp only[go_sem,seval];refine aA λi38 Z38 s38 a38 f38=>?_;obtain⟨idA,Wi,VL⟩:=VQ.dst s38;simp only[go_sem,seval,Wi,bJ a38,Xc,V1];refine bt λi39 Z39 s39 a39 f39=>?_;have k39:=(VL U (aa.refl U) Z38 (hs.trans s38)).trans s39;have n39:U i39=none:=(hs.trans s38).none f39;simp only[go_sem,seval,k0,k1,k6,r1];refine⟨_,by omega,i+1,by omega,rfl,k39,?_,by simp⟩;rw[vi];exact ay.new (by simp) a39 n39
  .have q:((i:Int)<=of.length)=False:=H';obtain rfl:i=of.length+1:=by omega
   apply sR;simp only[go_sem,seval,k1,k6,hv5,q,WL];exact VQ.pX hs hX
def Lg(l:List Nd)(hb:Wg l=true)(hn:l.length<=2000)(of:List Int)(Xi:of.length<=1000000)(Wr:∀x∈of,(0<=x/\x<l.length)/\kdI l x.toNat≠1):
 aL prog 43 [aF l,bb of] (bG (p7 l of)):=λU=>by
 refine e43.q ?_;have hs:=aa.refl U;have Zi:=Li l hb hn of Xi Wr;have hrc:=KW l hb hn of Xi Wr;have WL:=dd of;have hbkR:∀k,ZF l of k=⟨dx of k,jg l of k,if jg l of k=0 then mq l of k else 0⟩:=λ_=>rfl;unfold tL at Zi;unfold tC at hrc;generalize hX:bG (p7 l of)=X;generalize jg l of=F at*;generalize mq l of=R at*;refine mS 10 ?_;simp only[go_sem,seval,c43];refine pS rfl (Zi _) ?_;simp only[go_sem,seval];refine pS rfl (hrc _) ?_;simp only[go_sem,seval];clear Zi hrc;obtain⟨vF,hvF⟩:∃v,v=bb ((List.range (of.length+1)).map F):=⟨_,rfl⟩
 obtain⟨vR,hvR⟩:∃v,v=bb ((List.range (of.length+1)).map R):=⟨_,rfl⟩
 have hi5:∀j:Nat,j<of.length+1->∀U,bO U 1 vF (.int .i64 j)=some (.rp (vI (F j))):=λj h U=>by rw[hvF];exact D1 h
 have hi6:∀j:Nat,j<of.length+1->∀U,bO U 1 vR (.int .i64 j)=some (.rp (vI (R j))):=λj h U=>by rw[hvR];exact D1 h
 refine ai.loop (λm st=>∃j:Nat,j<=of.length+1/\m=of.length+1-j/\aa U st.U/\ay U st.U 102 3 (st.s 7) (((List.range j).map (ZF l of)).map bY)/\st.s 0=aF l/\st.s 1=bb of/\st.s 5=vF/\st.s 6=vR/\st.s 8=vI j) (of.length+1) ?_ ?_
 .exact⟨0,by omega,rfl,hs,ay.start,rfl,rfl,by rw[hvF,List.range_succ];rfl,by rw[hvR,List.range_succ];rfl,rfl⟩
 .clear hs hvF hvR;rintro m ⟨S,J⟩ ⟨j,hj,rfl,hs,VQ,t0,t1,t5,t6,t8⟩;simp only at hs VQ t0 t1 t5 t6 t8;generalize Ym:S 7=v7 at VQ;refine ai.mix 10 ?_;by_cases B':j<=of.length
  .have q:((j:Int)<=of.length)=True:=L';have r1:=rI j;have V8:(((List.range (j+1)).map (ZF l of)).map bY)=(((List.range j).map (ZF l of)).map bY)++[bY (ZF l of j)]:=by
    rw[List.range_succ];simp
   have Xc:(((List.range j).map (ZF l of)).map bY).length=j:=by simp
   replace hi5:=hi5 j (by omega);replace hi6:=hi6 j (by omega);generalize ((List.range j).map (ZF l of)).map bY=rows at*;have Wm:=hs;replace hs:=aa.refl J;apply sR;simp only[go_sem,seval,t1,t5,t6,t8,WL,q,hi5,hi6];refine wN hs λi9 Z9 s9 a9 f9 _ hs=>?_;by_cases hz:F j=0
   .have q2:(F j≠0)=False:=H' (λh=>h hz);have hbk0:bY (ZF l of j)=.agg [vI (dx of j),vI (F j),vI (R j)]:=by rw[hbkR,av hz];rfl
    rcases(show(j=0/\of.length=0)\/(j=0/\of.length≠0)\/(0<j/\j=of.length)\/(0<j/\j<of.length/\of.getD (j-1) 0=of.getD j 0)\/(0<j/\j<of.length/\of.getD (j-1) 0≠of.getD j 0) by
     by_cases e:of.getD (j-1) 0=of.getD j 0<;>simp only[e,ne_eq,not_true,not_false_eq_true,and_true,and_false]<;>omega)with⟨g1,g2⟩|⟨g1,g2⟩|⟨g1,g2⟩|⟨g1,g2,g3⟩|⟨g1,g2,g3⟩
    .have w1:((j:Int)>0)=False:=H';have w2:((j:Int)<of.length)=False:=H';have w3:((j:Int)=of.length)=True:=L';have w4:((j:Int)=0)=True:=L';have X6:bY (ZF l of j)=.agg [vI 0,vI (F j),vI (R j)]:=by rw[hbk0,show dx of j=0 by rw[dx,av g1]]
     simp only[go_sem,seval,a9,t1,t5,Ym,t8,hi5,WL,q2,w1,w3,w4];generalize Wz:C' _ i9 _=Y9;have YR:aa J Y9:=by rw[<-Wz];exact s9.az f9
     clear Wz;refine aA λi58 Z58 Yd a58 f58=>?_;obtain⟨idA,Wi,VL,WM,ZO⟩:=VQ.mn (YR.trans Yd);have V1:(rows.length+1)*25<=140737488355328:=by omega
     simp only[go_sem,seval,Wi,bJ a58,V1];refine bt λi59 Z59 s59 a59 f59=>?_;have k59:=(VL U (aa.refl _) Z58 (Wm.trans (YR.trans Yd))).trans s59;have n59:U i59=none:=(Wm.trans (YR.trans Yd)).none f59;simp only[go_sem,seval,t0,t1,t5,t6,t8,r1];refine⟨_,?_,j+1,by omega,rfl,k59,?_,by simp⟩
     .omega
     .rw[V8,X6];exact ay.new (by simp) a59 n59
    .have w1:((j:Int)>0)=False:=H';have w2:((j:Int)<of.length)=True:=L';have w3:((j:Int)=of.length)=False:=H';have w4:((j:Int)=0)=True:=L';have X6:bY (ZF l of j)=.agg [vI 0,vI (F j),vI (R j)]:=by rw[hbk0,show dx of j=0 by rw[dx,av g1]]
     simp only[go_sem,seval,a9,t1,t5,Ym,t8,hi5,WL,q2,w1,w3,w4];generalize Wz:C' _ i9 _=Y9;have YR:aa J Y9:=by rw[<-Wz];exact s9.az f9
     clear Wz;refine aA λi58 Z58 Yd a58 f58=>?_;obtain⟨idA,Wi,VL,WM,ZO⟩:=VQ.mn (YR.trans Yd);have V1:(rows.length+1)*25<=140737488355328:=by omega
     simp only[go_sem,seval,Wi,bJ a58,V1];refine bt λi59 Z59 s59 a59 f59=>?_;have k59:=(VL U (aa.refl _) Z58 (Wm.trans (YR.trans Yd))).trans s59;have n59:U i59=none:=(Wm.trans (YR.trans Yd)).none f59;simp only[go_sem,seval,t0,t1,t5,t6,t8,r1];refine⟨_,?_,j+1,by omega,rfl,k59,?_,by simp⟩
     .omega
     .rw[V8,X6];exact ay.new (by simp) a59 n59
    .have w1:((j:Int)>0)=True:=L';have w2:((j:Int)<of.length)=False:=H';have w3:((j:Int)=of.length)=True:=L';have w4:((j:Int)=0)=False:=H';have X6:bY (ZF l of j)=.agg [vI 3,vI (F j),vI (R j)]:=by rw[hbk0,show dx of j=3 by rw[dx,aD (by omega),av g2]]
     simp only[go_sem,seval,a9,t1,t5,Ym,t8,hi5,WL,q2,w1,w2,w3,w4];generalize Wz:C' _ i9 _=Y9;have YR:aa J Y9:=by rw[<-Wz];exact s9.az f9
     clear Wz;refine aA λi58 Z58 Yd a58 f58=>?_;obtain⟨idA,Wi,VL,WM,ZO⟩:=VQ.mn (YR.trans Yd);have V1:(rows.length+1)*25<=140737488355328:=by omega
     simp only[go_sem,seval,Wi,bJ a58,V1];refine bt λi59 Z59 s59 a59 f59=>?_;have k59:=(VL U (aa.refl _) Z58 (Wm.trans (YR.trans Yd))).trans s59;have n59:U i59=none:=(Wm.trans (YR.trans Yd)).none f59;simp only[go_sem,seval,t0,t1,t5,t6,t8,r1];refine⟨_,?_,j+1,by omega,rfl,k59,?_,by simp⟩
     .omega
     .rw[V8,X6];exact ay.new (by simp) a59 n59
    .have w1:((j:Int)>0)=True:=L';have w2:((j:Int)<of.length)=True:=L';have w3:((j:Int)=of.length)=False:=H';have w4:((j:Int)=0)=False:=H';have x1:=λU=>du (U:=U) (l:=of) (i:=j-1) (by omega);have x2:=λU=>du (U:=U) g2;have x3:((j:Int)-1)=((j-1:Nat):Int):=by omega
     have x4:=ae (m:=((j-1:Nat):Int)) (by omega) (by omega);have e1:of.getD j 0=of[j]:=by simp[g2]
     have e2:of.getD (j-1) 0=of[j-1]:=by have:j-1<of.length:=by omega
                                         simp[this]
     have w5:(of[j-1]=of[j])=True:=L' (by rw[<-e1,<-e2];exact g3);have X6:bY (ZF l of j)=.agg [vI 2,vI (F j),vI (R j)]:=by rw[hbk0,show dx of j=2 by rw[dx,aD (by omega),aD (by omega),av g3.symm]]
     simp only[go_sem,seval,a9,t1,t5,Ym,t8,hi5,WL,q2,w1,w2,w3,w4,x1,x2,x3,x4,w5];generalize Wz:C' _ i9 _=Y9;have YR:aa J Y9:=by rw[<-Wz];exact s9.az f9
     clear Wz;refine aA λi58 Z58 Yd a58 f58=>?_;obtain⟨idA,Wi,VL,WM,ZO⟩:=VQ.mn (YR.trans Yd);have V1:(rows.length+1)*25<=140737488355328:=by omega
     simp only[go_sem,seval,Wi,bJ a58,V1];refine bt λi59 Z59 s59 a59 f59=>?_;have k59:=(VL U (aa.refl _) Z58 (Wm.trans (YR.trans Yd))).trans s59;have n59:U i59=none:=(Wm.trans (YR.trans Yd)).none f59;simp only[go_sem,seval,t0,t1,t5,t6,t8,r1];refine⟨_,?_,j+1,by omega,rfl,k59,?_,by simp⟩
     .omega
     .rw[V8,X6];exact ay.new (by simp) a59 n59
    .have w1:((j:Int)>0)=True:=L';have w2:((j:Int)<of.length)=True:=L';have w3:((j:Int)=of.length)=False:=H';have w4:((j:Int)=0)=False:=H';have x1:=λU=>du (U:=U) (l:=of) (i:=j-1) (by omega);have x2:=λU=>du (U:=U) g2;have x3:((j:Int)-1)=((j-1:Nat):Int):=by omega
     have x4:=ae (m:=((j-1:Nat):Int)) (by omega) (by omega);have e1:of.getD j 0=of[j]:=by simp[g2]
     have e2:of.getD (j-1) 0=of[j-1]:=by have:j-1<of.length:=by omega
                                         simp[this]
     have w5:(of[j-1]=of[j])=False:=H' (by rw[<-e1,<-e2];exact g3);have X6:bY (ZF l of j)=.agg [vI 1,vI (F j),vI (R j)]:=by rw[hbk0,show dx of j=1 by rw[dx,aD (by omega),aD (by omega),aD (λh=>g3 h.symm)]]
     simp only[go_sem,seval,a9,t1,t5,Ym,t8,hi5,WL,q2,w1,w2,w3,w4,x1,x2,x3,x4,w5];generalize Wz:C' _ i9 _=Y9;have YR:aa J Y9:=by rw[<-Wz];exact s9.az f9
     clear Wz;refine aA λi58 Z58 Yd a58 f58=>?_;obtain⟨idA,Wi,VL,WM,ZO⟩:=VQ.mn (YR.trans Yd);have V1:(rows.length+1)*25<=140737488355328:=by omega
     simp only[go_sem,seval,Wi,bJ a58,V1];refine bt λi59 Z59 s59 a59 f59=>?_;have k59:=(VL U (aa.refl _) Z58 (Wm.trans (YR.trans Yd))).trans s59;have n59:U i59=none:=(Wm.trans (YR.trans Yd)).none f59;simp only[go_sem,seval,t0,t1,t5,t6,t8,r1];refine⟨_,?_,j+1,by omega,rfl,k59,?_,by simp⟩
     .omega
     .rw[V8,X6];exact ay.new (by simp) a59 n59
   .have q2:(F j≠0)=True:=L' hz;have hbk0:bY (ZF l of j)=.agg [vI (dx of j),vI (F j),vI (0)]:=by rw[hbkR,aD hz];rfl
    rcases(show(j=0/\of.length=0)\/(j=0/\of.length≠0)\/(0<j/\j=of.length)\/(0<j/\j<of.length/\of.getD (j-1) 0=of.getD j 0)\/(0<j/\j<of.length/\of.getD (j-1) 0≠of.getD j 0) by
     by_cases e:of.getD (j-1) 0=of.getD j 0<;>simp only[e,ne_eq,not_true,not_false_eq_true,and_true,and_false]<;>omega)with⟨g1,g2⟩|⟨g1,g2⟩|⟨g1,g2⟩|⟨g1,g2,g3⟩|⟨g1,g2,g3⟩
    .have w1:((j:Int)>0)=False:=H';have w2:((j:Int)<of.length)=False:=H';have w3:((j:Int)=of.length)=True:=L';have w4:((j:Int)=0)=True:=L';have X6:bY (ZF l of j)=.agg [vI 0,vI (F j),vI (0)]:=by rw[hbk0,show dx of j=0 by rw[dx,av g1]]
     simp only[go_sem,seval,a9,t1,t5,Ym,t8,hi5,WL,q2,w1,w3,w4];generalize Wz:C' _ i9 _=Y9;have YR:aa J Y9:=by rw[<-Wz];exact s9.az f9
     clear Wz;refine aA λi58 Z58 Yd a58 f58=>?_;obtain⟨idA,Wi,VL,WM,ZO⟩:=VQ.mn (YR.trans Yd);have V1:(rows.length+1)*25<=140737488355328:=by omega
     simp only[go_sem,seval,Wi,bJ a58,V1];refine bt λi59 Z59 s59 a59 f59=>?_;have k59:=(VL U (aa.refl _) Z58 (Wm.trans (YR.trans Yd))).trans s59;have n59:U i59=none:=(Wm.trans (YR.trans Yd)).none f59;simp only[go_sem,seval,t0,t1,t5,t6,t8,r1];refine⟨_,?_,j+1,by omega,rfl,k59,?_,by simp⟩
     .omega
     .rw[V8,X6];exact ay.new (by simp) a59 n59
    .have w1:((j:Int)>0)=False:=H';have w2:((j:Int)<of.length)=True:=L';have w3:((j:Int)=of.length)=False:=H';have w4:((j:Int)=0)=True:=L';have X6:bY (ZF l of j)=.agg [vI 0,vI (F j),vI (0)]:=by rw[hbk0,show dx of j=0 by rw[dx,av g1]]
     simp only[go_sem,seval,a9,t1,t5,Ym,t8,hi5,WL,q2,w1,w3,w4];generalize Wz:C' _ i9 _=Y9;have YR:aa J Y9:=by rw[<-Wz];exact s9.az f9
     clear Wz;refine aA λi58 Z58 Yd a58 f58=>?_;obtain⟨idA,Wi,VL,WM,ZO⟩:=VQ.mn (YR.trans Yd);have V1:(rows.length+1)*25<=140737488355328:=by omega
     simp only[go_sem,seval,Wi,bJ a58,V1];refine bt λi59 Z59 s59 a59 f59=>?_;have k59:=(VL U (aa.refl _) Z58 (Wm.trans (YR.trans Yd))).trans s59;have n59:U i59=none:=(Wm.trans (YR.trans Yd)).none f59;simp only[go_sem,seval,t0,t1,t5,t6,t8,r1];refine⟨_,?_,j+1,by omega,rfl,k59,?_,by simp⟩
     .omega
     .rw[V8,X6];exact ay.new (by simp) a59 n59
    .have w1:((j:Int)>0)=True:=L';have w2:((j:Int)<of.length)=False:=H';have w3:((j:Int)=of.length)=True:=L';have w4:((j:Int)=0)=False:=H';have X6:bY (ZF l of j)=.agg [vI 3,vI (F j),vI (0)]:=by rw[hbk0,show dx of j=3 by rw[dx,aD (by omega),av g2]]
     simp only[go_sem,seval,a9,t1,t5,Ym,t8,hi5,WL,q2,w1,w2,w3,w4];generalize Wz:C' _ i9 _=Y9;have YR:aa J Y9:=by rw[<-Wz];exact s9.az f9
     clear Wz;refine aA λi58 Z58 Yd a58 f58=>?_;obtain⟨idA,Wi,VL,WM,ZO⟩:=VQ.mn (YR.trans Yd);have V1:(rows.length+1)*25<=140737488355328:=by omega
     simp only[go_sem,seval,Wi,bJ a58,V1];refine bt λi59 Z59 s59 a59 f59=>?_;have k59:=(VL U (aa.refl _) Z58 (Wm.trans (YR.trans Yd))).trans s59;have n59:U i59=none:=(Wm.trans (YR.trans Yd)).none f59;simp only[go_sem,seval,t0,t1,t5,t6,t8,r1];refine⟨_,?_,j+1,by omega,rfl,k59,?_,by simp⟩
     .omega
     .rw[V8,X6];exact ay.new (by simp) a59 n59
    .have w1:((j:Int)>0)=True:=L';have w2:((j:Int)<of.length)=True:=L';have w3:((j:Int)=of.length)=False:=H';have w4:((j:Int)=0)=False:=H';have x1:=λU=>du (U:=U) (l:=of) (i:=j-1) (by omega);have x2:=λU=>du (U:=U) g2;have x3:((j:Int)-1)=((j-1:Nat):Int):=by omega
     have x4:=ae (m:=((j-1:Nat):Int)) (by omega) (by omega);have e1:of.getD j 0=of[j]:=by simp[g2]
     have e2:of.getD (j-1) 0=of[j-1]:=by have:j-1<of.length:=by omega
                                         simp[this]
     have w5:(of[j-1]=of[j])=True:=L' (by rw[<-e1,<-e2];exact g3);have X6:bY (ZF l of j)=.agg [vI 2,vI (F j),vI (0)]:=by rw[hbk0,show dx of j=2 by rw[dx,aD (by omega),aD (by omega),av g3.symm]]
     simp only[go_sem,seval,a9,t1,t5,Ym,t8,hi5,WL,q2,w1,w2,w3,w4,x1,x2,x3,x4,w5];generalize Wz:C' _ i9 _=Y9;have YR:aa J Y9:=by rw[<-Wz];exact s9.az f9
     clear Wz;refine aA λi58 Z58 Yd a58 f58=>?_;obtain⟨idA,Wi,VL,WM,ZO⟩:=VQ.mn (YR.trans Yd);have V1:(rows.length+1)*25<=140737488355328:=by omega
     simp only[go_sem,seval,Wi,bJ a58,V1];refine bt λi59 Z59 s59 a59 f59=>?_;have k59:=(VL U (aa.refl _) Z58 (Wm.trans (YR.trans Yd))).trans s59;have n59:U i59=none:=(Wm.trans (YR.trans Yd)).none f59;simp only[go_sem,seval,t0,t1,t5,t6,t8,r1];refine⟨_,?_,j+1,by omega,rfl,k59,?_,by simp⟩
     .omega
     .rw[V8,X6];exact ay.new (by simp) a59 n59
    .have w1:((j:Int)>0)=True:=L';have w2:((j:Int)<of.length)=True:=L';have w3:((j:Int)=of.length)=False:=H';have w4:((j:Int)=0)=False:=H';have x1:=λU=>du (U:=U) (l:=of) (i:=j-1) (by omega);have x2:=λU=>du (U:=U) g2;have x3:((j:Int)-1)=((j-1:Nat):Int):=by omega
     have x4:=ae (m:=((j-1:Nat):Int)) (by omega) (by omega);have e1:of.getD j 0=of[j]:=by simp[g2]
     have e2:of.getD (j-1) 0=of[j-1]:=by have:j-1<of.length:=by omega
                                         simp[this]
     have w5:(of[j-1]=of[j])=False:=H' (by rw[<-e1,<-e2];exact g3);have X6:bY (ZF l of j)=.agg [vI 1,vI (F j),vI (0)]:=by rw[hbk0,show dx of j=1 by rw[dx,aD (by omega),aD (by omega),aD (λh=>g3 h.symm)]]
     simp only[go_sem,seval,a9,t1,t5,Ym,t8,hi5,WL,q2,w1,w2,w3,w4,x1,x2,x3,x4,w5];generalize Wz:C' _ i9 _=Y9;have YR:aa J Y9:=by rw[<-Wz];exact s9.az f9
     clear Wz;refine aA λi58 Z58 Yd a58 f58=>?_;obtain⟨idA,Wi,VL,WM,ZO⟩:=VQ.mn (YR.trans Yd);have V1:(rows.length+1)*25<=140737488355328:=by omega
     simp only[go_sem,seval,Wi,bJ a58,V1];refine bt λi59 Z59 s59 a59 f59=>?_;have k59:=(VL U (aa.refl _) Z58 (Wm.trans (YR.trans Yd))).trans s59;have n59:U i59=none:=(Wm.trans (YR.trans Yd)).none f59;simp only[go_sem,seval,t0,t1,t5,t6,t8,r1];refine⟨_,?_,j+1,by omega,rfl,k59,?_,by simp⟩
     .omega
     .rw[V8,X6];exact ay.new (by simp) a59 n59
  .have q:((j:Int)<=of.length)=False:=H';obtain rfl:j=of.length+1:=by omega
   apply sR;simp only[go_sem,seval,t1,Ym,t8,WL,q];exact VQ.pX hs hX
end Go.Vc
