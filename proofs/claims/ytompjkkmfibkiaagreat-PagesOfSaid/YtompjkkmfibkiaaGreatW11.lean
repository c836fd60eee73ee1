import Derived.Test.YtompjkkmfibkiaaGreatW10
set_option linter.all false
set_option maxHeartbeats 8000000
set_option maxRecDepth 100000
open Go.Proofs.Tryz
namespace Go.Vc
open Go.Proofs
def J1(s:Xr):aE prog 249 [aP s] (.bool (decide (s.b<=s.a))):=λU=>by
 refine TB.q ?_;apply sR;simp only[go_sem,seval,QK,aP];refine aj λi1 Z1 s1 a1 f1=>?_;simp only[go_sem,seval,a1];exact ai.pure s1 rfl
def CP(s:Xr)(ha:XU s.a)(hb:XU s.b):aE prog 198 [aP s] (vI (fj s)):=λU=>by
 obtain⟨h1,h2⟩:=ha;obtain⟨h3,h4⟩:=hb;refine Tu.q ?_;apply sR;simp only[go_sem,seval,Pt,aP];refine aj λi1 Z1 s1 a1 f1=>?_;simp only[go_sem,seval,a1];refine pS rfl (J1 ⟨_,_⟩ _) ?_;simp only[go_sem,seval,a1];unfold fj;refine And.intro (λh=>?_) (λh=>?_)
 .rw[ak h];exact ai.pure s1 rfl
 .rw[au h];exact⟨ae,ai.pure s1 rfl⟩
def Ap(f:T')(y high:Int)(hf:f.ok)(hy:XU y)(hh:Bq high):aE prog 248 [az f,vI y,vI high] (.bool (ew y high f)):=λU=>by
 obtain⟨⟨x1,x2⟩,⟨y1,y2⟩,⟨w1,w2⟩,h1,h2⟩:=hf;obtain⟨g1,g2⟩:=hy;obtain⟨g3,g4⟩:=hh;have hm:=DA (y:=y) (high:=high) (f:=f);have r1:WI .i64 (y+max high 1):=ae;have r2:WI .i64 (f.y+f.h):=ae;generalize hM:max high 1=M at*;have hM':(if high>1 then high else 1)=M:=by omega
 refine TK.q ?_;have hs:=aa.refl U;refine mS 7 ?_;simp only[go_sem,seval,Sw,az];refine al hs λi3 Z3 s3 a3 f3 _ hs=>?_;by_cases p1:f.h>0
 .have q1:(f.h>0)=True:=L' p1;by_cases p2:f.y<y+M
  .have q2:(f.y<y+M)=True:=L' p2;simp only[go_sem,seval,a3,q1,q2,r1,r2,hM,cg];exact ai.pure hs (by simp only[V.bool.injEq];rw[Bool.eq_iff_iff,hm];simp[p1,p2])
  .have q2:(f.y<y+M)=False:=H' p2;simp only[go_sem,seval,a3,q1,q2,r1,hM,cg];exact ai.pure hs (by simp only[V.bool.injEq];rw[eq_comm,Bool.eq_false_iff];intro e;exact p2 (hm.1 e).2.1)
 .have q1:(f.h>0)=False:=H' p1;simp only[go_sem,seval,a3,q1];exact ai.pure hs (by simp only[V.bool.injEq];rw[eq_comm,Bool.eq_false_iff];intro e;exact p1 (hm.1 e).1)
def HC(l:List T')(y high:Int)(s:Xr)(hl:l.length<=1000000)(WB:∀f∈l,f.ok)(hy:XU y)(hh:Bq high):aE prog 196 [ax l,vI y,vI high,aP s] (aP (bM l y high s)):=λU=>by
 refine Ub.q ?_;have hs:=aa.refl U;have hn:=cF l;refine mS 10 ?_;simp only[go_sem,seval,SZ,aP];refine al hs λi7 Z7 s7 a7 f7 z7 hs=>?_;simp only[go_sem,seval];refine al hs λi8 Z8 s8 a8 f8 z8 hs=>?_;obtain⟨n78,a7⟩:=WG a7 f8 s8;simp only[go_sem,seval];refine ag.loop (λm st=>∃(i:Nat) (b:Xr),i<=l.length/\m=l.length-i/\b=bM (l.take i) y high s/\aa U st.U/\st.U i7=some ⟨219,2,[.agg [vI b.a,vI b.b]]⟩/\st.U i8=some ⟨219,2,[.agg [vI 0,vI 0]]⟩/\st.s 0=ax l/\st.s 1=vI y/\st.s 2=vI high/\st.s 7=.ptr i7 0 0/\st.s 8=.ptr i8 0 0/\st.s 9=vI i) l.length ?_ ?_
 .exact⟨0,s,by omega,rfl,rfl,hs,a7,a8,rfl,rfl,rfl,rfl,rfl,rfl⟩
 .clear a7 a8;rintro m ⟨S,J⟩ ⟨i,b,hi,rfl,hb,hs,a7,a8,k0,k1,k2,k7,k8,k9⟩;simp only at hs a7 a8 k0 k1 k2 k7 k8 k9;refine ag.mix 10 ?_;by_cases B':i<l.length
  .have q:=qT B';have Xx:=λU=>dO (U:=U) B';have W4:=Dd (y:=y) (high:=high) (s:=s) B';have hfok:=WB _ (Xo B');generalize l[i]=f at*;have eI:WI .i64 (f.x+f.w):=by obtain⟨⟨x1,x2⟩,_,⟨w1,w2⟩,_⟩:=hfok;exact ae
   rw[<-hb]at W4;apply sR;simp only[go_sem,seval,k0,k9,hn,q,Xx,az];refine al hs λi10 Z10 Yt Xm f10 Zn hs=>?_;obtain⟨n710,a7⟩:=WG a7 f10 Yt;obtain⟨n810,a8⟩:=WG a8 f10 Yt;simp only[go_sem,seval,Xm,k1,k2];generalize Xu:C' _ i10 _=Y10;replace Xm:=XD Xu;replace a7:=WQ Xu n710 a7;replace a8:=WQ Xu n810 a8;replace hs:=Xz Xu hs Zn;refine pR rfl (Ap f y high hfok hy hh _) ?_;cases hm:ew y high f
   .rw[au (by rw[hm];simp)]at W4;apply sR;simp only[go_sem,seval,k0,k1,k2,k7,k8,k9,a7,a8];exact⟨ae,_,by omega,i+1,b,by omega,rfl,W4.symm,hs,by simp⟩
   .rw[ak hm]at W4;unfold gN at W4;by_cases hsd:f.side=1
    .have q1:(f.side=1)=True:=L' hsd;rw[ak hsd]at W4;apply sR;simp only[go_sem,seval,k0,k1,k2,k7,k8,k9,a7,Xm,q1,eI,cg];exact⟨ae,_,by omega,i+1,_,by omega,rfl,W4.symm,hs.ao z7,rfl,by first|rfl|exact a8|exact(ab n78.symm).trans a8|exact(ab n78).trans a8,by simp⟩
    .have q1:(f.side=1)=False:=H' hsd;rw[au hsd]at W4;apply sR;simp only[go_sem,seval,k0,k1,k2,k7,k8,k9,a7,Xm,q1,dN];exact⟨ae,_,by omega,i+1,_,by omega,rfl,W4.symm,hs.ao z7,rfl,by first|rfl|exact a8|exact(ab n78.symm).trans a8|exact(ab n78).trans a8,by simp⟩
  .have q:=qF B';obtain rfl:i=l.length:=by omega
   rw[dR]at hb;apply sR;simp only[go_sem,seval,k0,k7,k8,k9,hn,q,a7,a8];exact ai.pure (hs.ao z8) (by rw[<-hb])
def El(l:List T')(y high:Int)(s:Xr)(hl:l.length<=1000000)(WB:∀f∈l,f.ok)(hy:XU y)(hh:Bq high):aE prog 197 [ax l,vI y,vI high,aP s] (.WC [vI (cC l y high s).1,.bool (cC l y high s).2]):=λU=>by
 refine VL.q ?_;have hs:=aa.refl U;have hn:=cF l;refine mS 13 ?_;simp only[go_sem,seval,Rt,aP];refine al hs λi7 Z7 s7 a7 f7 _ hs=>?_;simp only[go_sem,seval];refine ag.loop (λm st=>∃(i:Nat) (b:Int) (fd:Bool),i<=l.length/\m=l.length-i/\cC (l.take i) y high s=(b,fd)/\aa U st.U/\st.U i7=some ⟨219,2,[.agg [vI s.a,vI s.b]]⟩/\st.s 0=ax l/\st.s 1=vI y/\st.s 2=vI high/\st.s 7=.ptr i7 0 0/\st.s 10=vI b/\st.s 11=.bool fd/\st.s 12=vI i) l.length ?_ ?_
 .exact⟨0,0,false,by omega,rfl,rfl,hs,a7,rfl,rfl,rfl,rfl,rfl,rfl,rfl⟩
 .clear a7;rintro m ⟨S,J⟩ ⟨i,b,fd,hi,rfl,hb,hs,a7,k0,k1,k2,k7,Zs,ZM,Zi⟩;simp only at hs a7 k0 k1 k2 k7 Zs ZM Zi;refine ag.mix 13 ?_;by_cases B':i<l.length
  .have q:=qT B';have Xx:=λU=>dO (U:=U) B';have W4:=Dp (y:=y) (high:=high) (s:=s) B';have hfok:=WB _ (Xo B');generalize l[i]=f at*;have eI:WI .i64 (f.x+f.w):=by obtain⟨⟨x1,x2⟩,_,⟨w1,w2⟩,_⟩:=hfok;exact ae
   have hsum2:WI .i64 (f.y+f.h):=by obtain⟨_,⟨x1,x2⟩,_,⟨w1,w2⟩⟩:=hfok;exact ae
   rw[hb]at W4;apply sR;simp only[go_sem,seval,k0,Zi,hn,q,Xx,az];refine al hs λi13 Z13 s13 XM f13 z13 hs=>?_;obtain⟨n713,a7⟩:=WG a7 f13 s13;simp only[go_sem,seval,XM,k1,k2];generalize hq13:C' _ i13 _=Y13;replace XM:=XD hq13;replace a7:=WQ hq13 n713 a7;replace hs:=Xz hq13 hs z13;refine pR rfl (Ap f y high hfok hy hh _) ?_;have hcs:=FV (f:=f) (s:=s);cases hm:ew y high f
   .rw[au (by rw[hm];simp)]at W4;apply sR;simp only[go_sem,seval,k0,k1,k2,k7,Zs,ZM,Zi,a7];exact⟨ae,_,by omega,i+1,_,_,by omega,rfl,W4,hs,by simp⟩
   .rw[ak hm]at W4;unfold iK at W4;have go:¬gN f s=s->∀(c:Bool),c=(!fd||decide (f.y+f.h<b))->cC (l.take (i+1)) y high s=if c then(f.y+f.h,true)else(b,fd):=λh c hc=>by
     rw[W4,hc];simp only[h,false_or];cases fd
     .simp
     .by_cases h2:f.y+f.h<b
      .simp[h2];try omega
      .simp[h2];try omega
    by_cases hsd:f.side=1
    .have q1:(f.side=1)=True:=L' hsd;have q1b:(f.side≠1)=False:=H' (λh=>h hsd);by_cases hx:f.x+f.w<=s.a
     .have q2:(f.x+f.w<=s.a)=True:=L' hx;rw[ak (.inl (hcs.2 (.inl ⟨hsd,hx⟩)))]at W4;apply sR;simp only[go_sem,seval,k0,k1,k2,k7,Zs,ZM,Zi,a7,XM,q1,q2,eI];exact⟨ae,_,by omega,i+1,_,_,by omega,rfl,W4,hs,by simp⟩
     .have q2:(f.x+f.w<=s.a)=False:=H' hx;have WZ:¬gN f s=s:=λe=>by rcases hcs.1 e with h|h;exact hx h.2;exact h.1 hsd
      cases fd
      .have g:=go WZ true rfl;apply sR;simp only[go_sem,seval,k0,k1,k2,k7,ZM,Zi,a7,XM,q1,q1b,q2,eI,hsum2];exact⟨ae,_,by omega,i+1,_,_,by omega,rfl,g,hs,by simp⟩
      .by_cases XI:f.y+f.h<b
       .have q3:(f.y+f.h<b)=True:=L' XI;have g:=go WZ true (by simp[XI]);apply sR;simp only[go_sem,seval,k0,k1,k2,k7,Zs,ZM,Zi,a7,XM,q1,q1b,q2,q3,eI,hsum2];exact⟨ae,_,by omega,i+1,_,_,by omega,rfl,g,hs,by simp⟩
       .have q3:(f.y+f.h<b)=False:=H' XI;have g:=go WZ false (by simp[XI]);apply sR;simp only[go_sem,seval,k0,k1,k2,k7,Zs,ZM,Zi,a7,XM,q1,q1b,q2,q3,eI,hsum2];exact⟨ae,_,by omega,i+1,_,_,by omega,rfl,g,hs,by simp⟩
    .have q1:(f.side=1)=False:=H' hsd;have q1b:(f.side≠1)=True:=L' hsd;by_cases hx:f.x>=s.b
     .have q2:(f.x>=s.b)=True:=L' hx;rw[ak (.inl (hcs.2 (.inr ⟨hsd,hx⟩)))]at W4;apply sR;simp only[go_sem,seval,k0,k1,k2,k7,Zs,ZM,Zi,a7,XM,q1,q1b,q2];exact⟨ae,_,by omega,i+1,_,_,by omega,rfl,W4,hs,by simp⟩
     .have q2:(f.x>=s.b)=False:=H' hx;have WZ:¬gN f s=s:=λe=>by rcases hcs.1 e with h|h;exact hsd h.1;exact hx h.2
      cases fd
      .have g:=go WZ true rfl;apply sR;simp only[go_sem,seval,k0,k1,k2,k7,ZM,Zi,a7,XM,q1,q1b,q2,hsum2];exact⟨ae,_,by omega,i+1,_,_,by omega,rfl,g,hs,by simp⟩
      .by_cases XI:f.y+f.h<b
       .have q3:(f.y+f.h<b)=True:=L' XI;have g:=go WZ true (by simp[XI]);apply sR;simp only[go_sem,seval,k0,k1,k2,k7,Zs,ZM,Zi,a7,XM,q1,q1b,q2,q3,hsum2];exact⟨ae,_,by omega,i+1,_,_,by omega,rfl,g,hs,by simp⟩
       .have q3:(f.y+f.h<b)=False:=H' XI;have g:=go WZ false (by simp[XI]);apply sR;simp only[go_sem,seval,k0,k1,k2,k7,Zs,ZM,Zi,a7,XM,q1,q1b,q2,q3,hsum2];exact⟨ae,_,by omega,i+1,_,_,by omega,rfl,g,hs,by simp⟩
  .have q:=qF B';obtain rfl:i=l.length:=by omega
   rw[dR]at hb;apply sR;simp only[go_sem,seval,k0,Zs,ZM,Zi,hn,q];exact ai.pure hs (by rw[hb])
def On(l:List T')(hl:l.length<=1000000):aE prog 250 [ax l] (.WC [vI (cy ld l).1,.bool (cy ld l).2]):=λU=>by
 refine TR.q ?_;have hs:=aa.refl U;have hn:=cF l;refine mS 6 ?_;simp only[go_sem,seval,PE];refine ag.loop (λm st=>∃(i:Nat) (b:Int),i<=l.length/\m=l.length-i/\cy ld (l.take i)=(b,decide (0<i))/\aa U st.U/\st.s 0=ax l/\st.s 4=vI b/\st.s 5=vI i) l.length ?_ ?_
 .exact⟨0,0,by omega,rfl,rfl,hs,rfl,rfl,rfl⟩
 .rintro m ⟨S,J⟩ ⟨i,b,hi,rfl,hb,hs,k0,k4,k5⟩;simp only at hs k0 k4 k5;refine ag.mix 6 ?_;by_cases B':i<l.length
  .have q:=qT B';have Xx:=λU=>dO (U:=U) B';have W4:=wC (tell:=ld) B';generalize l[i]=f at*;rw[hb]at W4;have hd:decide (0<i+1)=true:=XK (by omega);by_cases h0:i=0
   .have q0:((i:Int)=0)=True:=L';have hd0:decide (0<i)=false:=XJ (by omega);have e:gQ ld (b,decide (0<i)) f=(f.y,decide (0<i+1)):=by rw[hd,hd0];simp[gQ,ld]
    rw[e]at W4;apply sR;simp only[go_sem,seval,k0,k5,hn,q,q0,Xx,az];exact⟨ae,_,by omega,i+1,_,by omega,rfl,W4,hs,by simp⟩
   .have q0:((i:Int)=0)=False:=H';have hd0:decide (0<i)=true:=XK (by omega);rw[hd0]at W4;by_cases h1:f.y>b
    .have q1:(f.y>b)=True:=L' h1;have e:gQ ld (b,true) f=(f.y,decide (0<i+1)):=by rw[hd];simp[gQ,ld,h1]
     rw[e]at W4;apply sR;simp only[go_sem,seval,k0,k4,k5,hn,q,q0,q1,Xx,az];exact⟨ae,_,by omega,i+1,_,by omega,rfl,W4,hs,by simp⟩
    .have q1:(f.y>b)=False:=H' h1;have e:gQ ld (b,true) f=(b,decide (0<i+1)):=by rw[hd];simp[gQ,ld,h1]
     rw[e]at W4;apply sR;simp only[go_sem,seval,k0,k4,k5,hn,q,q0,q1,Xx,az];exact⟨ae,_,by omega,i+1,_,by omega,rfl,W4,hs,by simp⟩
  .have q:=qF B';obtain rfl:i=l.length:=by omega
   rw[dR]at hb;apply sR;simp only[go_sem,seval,k0,k4,k5,hn,q];exact ai.pure hs (by rw[hb];simp)
open Go.Proofs
def E0(l:List T')(w high:Int)(s:Xr)(hl:l.length<=1000000)(WB:∀f∈l,f.ok)(hh:Bq high)(X7:XU s.a/\XU s.b):∀(n:Nat) (y:Int),gtJ l y<n->XU y->
 aE prog 147 [ax l,vI w,vI high,vI y,aP s] (.WC [aP (bM l (fX l w high s y) high s),vI (fX l w high s y)]):=by
 intro n
 induction n with
 |zero=>intro y h;omega
 |succ n ih=>?_
 intro y hn hy U;refine V1.q ?_;have hs:=aa.refl U;refine mS 13 ?_;simp only[go_sem,seval,PA,aP];refine al hs λi9 Z9 s9 a9 f9 _ hs=>?_;simp only[go_sem,seval];refine al hs λi10 Z10 Yt Xm f10 Zn hs=>?_;replace a9:=Yt _ _ a9;simp only[go_sem,seval,a9];refine pR rfl (HC l y high s hl WB hy hh _) ?_;have hbo:=iQ (y:=y) (high:=high) WB X7;have YU:=JD (l:=l) (w:=w) (high:=high) (y:=y) (s:=s);obtain⟨b,hb⟩:∃b,b=bM l y high s:=⟨_,rfl⟩
 rw[<-hb]at YU hbo|-;apply sR;simp only[go_sem,seval,aP];refine al hs λi12 Y12 s12 a12 f12 z12 hs=>?_;obtain⟨n912,a9⟩:=WG a9 f12 s12;obtain⟨n1012,Xm⟩:=WG Xm f12 s12;simp only[go_sem,seval,a12,a9,ab n912];generalize ZQ:C' _ i12 _=Z12;replace a12:=XD ZQ;replace a9:=WQ ZQ n912 a9;replace Xm:=WQ ZQ n1012 Xm;replace hs:=Xz ZQ hs z12;refine pR rfl (El l y high s hl WB hy hh _) ?_;cases hn2:(cC l y high s).2
 .rw[hn2]at YU;rw[ak (.inl rfl)]at YU;rw[YU,<-hb];apply sR;simp only[go_sem,seval,a12,Xm];exact ai.pure (hs.ao Zn) rfl
 .have hdec:=mr (eR hn2);have hnb:=zC WB hn2;rw[hn2]at YU;apply sR;simp only[go_sem,seval,a12];refine pR rfl (CP b hbo.1 hbo.2 _) ?_;by_cases hw:w<=fj b
  .have q:(fj b>=w)=True:=L' hw;rw[ak (.inr hw)]at YU;rw[YU,<-hb];apply sR;simp only[go_sem,seval,a12,Xm,q];exact ai.pure (hs.ao Zn) rfl
  .have q:(fj b>=w)=False:=H' hw;rw[au (by simp[hw])]at YU;rw[YU];apply sR;simp only[go_sem,seval,a9,q];refine pS rfl (ih _ (by omega) hnb _) ?_;simp only[go_sem,seval,Xm,aP];exact ai.pure (hs.ao Zn) rfl
open Go.Proofs
def LH(fs:List T')(f:T')(y:Int)(s:Xr)(hl:fs.length<=1000000)(WB:∀f∈fs,f.ok)(hy:XU y)(hh:Bq f.h)(hw:Bq f.w)(X7:XU s.a/\XU s.b):
 aE prog 199 [ax fs,az f,vI y,aP s] (.WC [vI (lY fs f y s),vI (jX fs f y s)]):=λU=>by
 refine VS.q ?_;have hs:=aa.refl U;have hn:=cF fs;refine mS 15 ?_;simp only[go_sem,seval,Ps,az,aP];refine al hs λi5 Z5 s5 a5 f5 _ hs=>?_;simp only[go_sem,seval];refine al hs λi7 Z7 s7 a7 f7 _ hs=>?_;replace a5:=s7 _ _ a5;simp only[go_sem,seval];refine pR rfl (On fs hl _) ?_;have hty:=Ez (y:=y) WB hy;obtain⟨Y,hY⟩:∃Y,Y=jX fs f y s:=⟨_,rfl⟩
 have hX:lY fs f y s=if f.side=1 then(bM fs Y f.h s).a else max (bM fs Y f.h s).a ((bM fs Y f.h s).b-f.w):=by rw[hY];rfl
 rw[hX,<-hY];have hYd:Y=iH fs f.w f.h s fs.length (mN fs y):=hY;clear hX hY;have hbo:=iQ (y:=Y) (high:=f.h) WB X7;obtain⟨z,hz⟩:∃z,z=mN fs y:=⟨_,rfl⟩
 rw[<-hz]at hYd hty;unfold mN at hz;generalize hS:cy ld fs=S at*;obtain⟨t,sm⟩:=S;simp only at hz;clear hS;rcases(show(sm=false/\z=y)\/(sm=true/\¬t>y/\z=y)\/(sm=true/\t>y/\z=t) by
  cases sm
  .exact .inl ⟨rfl,hz⟩
  .by_cases h:t>y
   .exact .inr (.inr ⟨rfl,h,by rw[hz];simp;omega⟩)
   .exact .inr (.inl ⟨rfl,h,by rw[hz];simp;omega⟩))with⟨rfl,rfl⟩|⟨rfl,hgt,rfl⟩|⟨rfl,hgt,rfl⟩
 case' inl=>
  apply sR;simp only[go_sem,seval]
 case' inr.inl=>
  have q:(t>z)=False:=H' hgt;apply sR;simp only[go_sem,seval,q]
 case' inr.inr=>
  have q:(z>y)=True:=L' hgt;apply sR;simp only[go_sem,seval,q]
 all_goals
  refine ag.fP (λst=>aa U st.U/\st.U i5=some ⟨100,7,[.agg [vI f.node,vI f.side,vI f.anchor,vI f.x,vI f.y,vI f.w,vI f.h]]⟩/\st.U i7=some ⟨219,2,[.agg [vI s.a,vI s.b]]⟩/\st.s 0=ax fs/\st.s 2=vI Y/\st.s 5=.ptr i5 0 0/\st.s 7=.ptr i7 0 0/\XU Y)
   (λm st=>∃(y':Int) (i k:Nat),m=gtJ fs y'/\i+k=fs.length/\gtJ fs y'<=k/\Y=iH fs f.w f.h s k y'/\XU y'/\aa U st.U/\st.U i5=some ⟨100,7,[.agg [vI f.node,vI f.side,vI f.anchor,vI f.x,vI f.y,vI f.w,vI f.h]]⟩/\st.U i7=some ⟨219,2,[.agg [vI s.a,vI s.b]]⟩/\st.s 0=ax fs/\st.s 2=vI y'/\st.s 5=.ptr i5 0 0/\st.s 7=.ptr i7 0 0/\st.s 12=vI i) (gtJ fs z) ?_ ?_ ?_
  .exact⟨z,0,fs.length,rfl,by omega,HU _ _,hYd,hty,hs,a5,a7,rfl,rfl,rfl,rfl,rfl⟩
  .clear a5 a7 hYd hty;rintro m ⟨S,J⟩ ⟨y',i,k,rfl,hik,hk,hYd,hty,hs,a5,a7,k0,k2,k5,k7,Zi⟩;simp only at hs a5 a7 k0 k2 k5 k7 Zi;refine ag.mix 15 ?_;have q:((i:Int)<=fs.length)=True:=L';have W1:=iQ (y:=y') (high:=f.h) WB X7;apply sR;simp only[go_sem,seval,k0,k2,k5,k7,Zi,hn,q,a5,a7];refine pJ rfl (HC fs y' f.h s hl WB hty hh) ?_;apply sG;simp only[go_sem,seval];refine pJ rfl (CP _ W1.1 W1.2) ?_;by_cases hle:fj (bM fs y' f.h s)>=f.w
   .have q1:(fj (bM fs y' f.h s)>=f.w)=True:=L' hle;rw[wL (oJ.2 (.inr hle))]at hYd;subst hYd;apply sG;simp only[go_sem,seval,k0,k2,k5,k7,a5,a7,q1];exact⟨hs,hty⟩
   .have q1:(fj (bM fs y' f.h s)>=f.w)=False:=H' hle;apply sG;simp only[go_sem,seval,k0,k2,k5,k7,a5,a7,q1];refine pR rfl (El fs y' f.h s hl WB hty hh _) ?_;cases hn2:(cC fs y' f.h s).2
    .rw[wL (oJ.2 (.inl hn2))]at hYd;subst hYd;apply sR;simp only[go_sem,seval,k0,k2,k5,k7,a5,a7];exact⟨hs,hty⟩
    .have hdb:kT fs f.w f.h s y'=false:=by
      rw[Bool.eq_false_iff];intro e;rcases oJ.1 e with e|e
      .rw[hn2]at e;cases e
      .exact hle e
     obtain⟨k',rfl,h1,h2⟩:=Jb hk hdb;have hdec:=mr (eR hn2);apply sR;simp only[go_sem,seval,k0,k5,k7,Zi,a5,a7];exact⟨ae,_,hdec,_,i+1,k',rfl,by omega,h1,by rw[hYd,h2],zC WB hn2,hs,by simp⟩
  .clear a5 a7 hYd hty;rintro⟨S,J⟩ ⟨hs,a5,a7,k0,k2,k5,k7,hYq⟩;simp only at hs a5 a7 k0 k2 k5 k7;refine ag.mix 15 ?_;have hbo:=hbo;apply sR;simp only[go_sem,seval,k0,k2,k5,k7,a5,a7];refine pR rfl (HC fs Y f.h s hl WB hYq hh _) ?_;obtain⟨b,hb⟩:∃b,b=bM fs Y f.h s:=⟨_,rfl⟩
   rw[<-hb]at hbo|-;obtain⟨⟨b1,b2⟩,b3,b4⟩:=hbo;obtain⟨w1,w2⟩:=hw;apply sR;simp only[go_sem,seval,aP];refine al hs λi15 Y15 s15 a15 f15 z15 hs=>?_;obtain⟨n515,a5⟩:=WG a5 f15 s15;obtain⟨n715,a7⟩:=WG a7 f15 s15;by_cases hsd:f.side=1
   .have q1:(f.side=1)=True:=L' hsd;rw[ak hsd];simp only[go_sem,seval,a15,a5,k2,k5,q1,ab n515];exact ai.pure (hs.ao z15) rfl
   .have q1:(f.side=1)=False:=H' hsd;rw[au hsd];have r1:WI .i64 (b.b-f.w):=ae;simp only[go_sem,seval,a15,a5,k2,k5,q1,r1,cg,ab n515];exact ai.pure (hs.ao z15) rfl
open Go.Proofs
def Ad(ws:List Int)(i k:Nat):Int:=xC ((ws.take k).drop i)
def vd(ws:List Int)(i:Nat):Ad ws i i=0:=by
 unfold Ad;rw[List.drop_of_length_le (by rw[jb];omega)];rfl
def yI{ws:List Int}{i k:Nat}(hik:i<=k)(h:k<ws.length):Ad ws i (k+1)=Ad ws i k+ws[k]:=by
 unfold Ad;rw[Yz h,CR (by simp;omega),tA,uX]
def Cz{ws:List Int}{space:Int}(h:WOk ws space){i:Nat}:∀d:Nat,i+d<=ws.length->0<=Ad ws i (i+d)/\Ad ws i (i+d)<=1099511627776*d
 |0,_=>by rw[Nat.add_zero,vd];omega
 |d+1,hd=>by
  have ih:=Cz h d (i:=i) (by omega);have hx:=h.get (i:=i+d) (by omega);rw[<-Nat.add_assoc,yI (by omega) (by omega)];omega
def zd(ws:List Int)(space:Int)(hw:WOk ws space)(i j:Nat)(hij:i<j)(hj:j<=ws.length):aE prog 280 [aN ws,vI space,vI i,vI j] (vI (jR ws space i j)):=λU=>by
 refine Vn.q ?_;have hs:=aa.refl U;have hn:=cV ws;have Yp:=hw.len;obtain⟨s0,s1⟩:0<=space/\space<=1099511627776:=⟨hw.s0,hw.s1⟩
 obtain⟨P,hP⟩:∃P:Int,P=((j:Int)-i-1)*space:=⟨_,rfl⟩
 have p0:0<=P:=by rw[hP];exact Int.mul_nonneg (by omega) s0
 have p1:P<=100000*1099511627776:=by rw[hP];exact Int.mul_le_mul (by omega) s1 s0 (by omega)
 have q1:((i:Int)<0)=False:=H';have q2:((i:Int)>=ws.length)=False:=H';have q3:((j:Int)<=i)=False:=H';have q4:((j:Int)>ws.length)=False:=H';have r1:WI .i64 ((j:Int)-i):=ae;have r2:WI .i64 ((j:Int)-i-1):=ae;have r3:WI .i64 P:=ae;have hP':=hP.symm;refine mS 11 ?_;simp only[go_sem,seval,RC,hn,q1,q2,q3,q4,r1,r2,r3,hP'];refine ag.loop (λm st=>∃d:Nat,i+d<=j/\m=j-(i+d)/\aa U st.U/\st.s 0=aN ws/\st.s 3=vI j/\st.s 9=vI (P+Ad ws i (i+d))/\st.s 10=vI (i+d:Nat)) (j-i) ?_ ?_
 .exact⟨0,by omega,rfl,hs,rfl,rfl,by rw[Nat.add_zero,vd,Int.add_zero];rfl,rfl⟩
 .rintro m ⟨S,J⟩ ⟨d,hd,rfl,hs,k0,k3,k9,Zs⟩;simp only at hs k0 k3 k9 Zs;refine ag.mix 11 ?_;by_cases B':i+d<j
  .have q:(((i+d:Nat):Int)<j)=True:=L';have YR:i+d<ws.length:=by omega
   have Xx:=λU=>de (U:=U) YR;have hsr:=Cz hw (i:=i) d (by omega);have hsc:=yI (ws:=ws) (i:=i) (k:=i+d) (by omega) YR;have hx:=hw.get YR;generalize ws[i+d]=x at*;have r4:WI .i64 (P+Ad ws i (i+d)+x):=ae;have r5:WI .i64 (((i+d:Nat):Int)+1):=ae;apply sR;simp only[go_sem,seval,k0,k3,k9,Zs,q,Xx,r4,r5];exact⟨_,by omega,d+1,by omega,rfl,hs,by rw[<-Nat.add_assoc,hsc];simp[vI];omega,by simp[vI];omega⟩
  .have q:(((i+d:Nat):Int)<j)=False:=H';have e:i+d=j:=by omega
   rw[e]at k9 Zs q;apply sR;simp only[go_sem,seval,k3,k9,Zs,q];refine ai.pure hs ?_;unfold jR;rw[<-hP];rfl
def J5(ws:List Int)(space width:Int)(hw:WOk ws space)(i:Nat)(hi:i<ws.length):aE prog 247 [aN ws,vI space,vI width,vI i] (sK i (iS ws space width i).1 (iS ws space width i).2):=λU=>by
 refine Wu.q ?_;have hs:=aa.refl U;have hn:=cV ws;have Yp:=hw.len;have q1:((i:Int)<0)=False:=H';have q2:((i:Int)>=ws.length)=False:=H';have r1:=rI i;refine mS 10 ?_;simp only[go_sem,seval,SL];refine al hs λi8 Z8 s8 a8 f8 z8 hs=>?_;simp only[go_sem,seval,hn,q1,q2,r1];have h0:iS ws space width i=kZ space width (ws.drop (i+1)) (i+1) (jR ws space i (i+1)):=by
  rw[Gl hi];unfold iS;simp[hi]
 obtain⟨T,hT⟩:∃T,T=iS ws space width i:=⟨_,rfl⟩
 rw[<-hT]at h0|-;refine ag.loop (λm st=>∃j:Nat,i<j/\j<=ws.length/\m=ws.length-j/\T=kZ space width (ws.drop j) j (jR ws space i j)/\aa U st.U/\st.U i8=some ⟨315,3,[.agg [vI 0,vI 0,vI 0]]⟩/\st.s 0=aN ws/\st.s 1=vI space/\st.s 2=vI width/\st.s 3=vI i/\st.s 8=.ptr i8 0 0/\st.s 9=vI j) (ws.length-(i+1)) ?_ ?_
 .exact⟨i+1,by omega,by omega,rfl,h0,hs,a8,rfl,rfl,rfl,rfl,rfl,rfl⟩
 .clear a8;rintro m ⟨S,J⟩ ⟨j,hij,hj,rfl,hTj,hs,a8,k0,k1,k2,k3,k8,k9⟩;simp only at hs a8 k0 k1 k2 k3 k8 k9;refine ag.mix 10 ?_;have WM:=DJ (ws:=ws) (space:=space) (width:=width) hij;rw[<-hTj]at WM;by_cases B':j<ws.length
  .have q:=qT B';have r2:=rI j;apply sR;simp only[go_sem,seval,k0,k1,k3,k9,q,hn,r2];refine pR rfl (zd ws space hw i (j+1) (by omega) (by omega) _) ?_;by_cases hle:jR ws space i (j+1)<=width
   .have q3:(jR ws space i (j+1)<=width)=True:=L' hle;rw[ak ⟨B',hle⟩]at WM;apply sR;simp only[go_sem,seval,k0,k1,k2,k3,k8,k9,q3,r2];exact⟨_,by omega,j+1,by omega,by omega,rfl,WM,hs,a8,by simp⟩
   .have q3:(jR ws space i (j+1)<=width)=False:=H' hle;rw[au (λh=>hle h.2)]at WM;apply sR;simp only[go_sem,seval,k0,k1,k2,k3,k9,q3];refine pS rfl (zd ws space hw i j hij hj _) ?_;simp only[go_sem,seval,k8,a8];rw[WM];exact ai.pure (hs.ao z8) rfl
  .have q:=qF B';rw[au (λh=>B' h.1)]at WM;apply sR;simp only[go_sem,seval,k0,k1,k3,k9,q,hn];refine pS rfl (zd ws space hw i j hij hj _) ?_;simp only[go_sem,seval,k8,a8];rw[WM];exact ai.pure (hs.ao z8) rfl
open Go.Proofs
def JT(l:List T')(w high y:Int)(s:Xr)(hl:l.length<=1000000)(WB:∀f∈l,f.ok)(hy:XU y)(hh:Bq high)(X7:XU s.a/\XU s.b):
 aE prog 147 [ax l,vI w,vI high,vI y,aP s] (.WC [aP (bM l (fX l w high s y) high s),vI (fX l w high s y)]):=E0 l w high s hl WB hh X7 (gtJ l y+1) y (Nat.lt_succ_self _) hy
def J0(fs:List T')(ws:List Int)(space high:Int)(i:Nat)(y:Int)(s:Xr)(hl:fs.length<=1000000)(WB:∀f∈fs,f.ok)(hy:XU y)(hh:Bq high)(X7:XU s.a/\XU s.b)(hw:WOk ws space)(hi:i<ws.length):
 aE prog 195 [ax fs,aN ws,vI space,vI high,vI i,vI y,aP s] (jm (lZ fs ws space high i y s)):=λU=>by
 refine UC.q ?_;have hs:=aa.refl U;have hn:=cV ws;have Wz:=λU=>de (U:=U) hi;have q0:((i:Int)<0)=False:=H';have q1:((i:Int)>=ws.length)=False:=H';refine mS 18 ?_;simp only[go_sem,seval,Sk,aP];refine al hs λi13 Z13 s13 XM f13 _ hs=>?_;simp only[go_sem,seval];refine al hs λi14 Z14 s14 a14 f14 z14 hs=>?_;replace XM:=s14 _ _ XM;simp only[go_sem,seval,XM,hn,Wz,q0,q1];have hgd:ws.getD i 0=ws[i]:=by simp[hi]
 obtain⟨W3,Yg⟩:∃a,a=fX fs ws[i] high s y:=⟨_,rfl⟩
 have YU:=JT fs ws[i] high y s hl WB hy hh X7;rw[<-Yg]at YU;have hbo:=iQ (y:=W3) (high:=high) WB X7;unfold lZ;rw[hgd];simp only;rw[<-Yg];obtain⟨b,hb⟩:∃b,b=bM fs W3 high s:=⟨_,rfl⟩
 rw[<-hb]at YU hbo|-;refine pJ rfl YU ?_;apply sG;simp only[go_sem,seval,aP];refine vS hs λi15 Y15 s15 a15 f15 z15 hs=>?_;obtain⟨n1315,XM⟩:=WG XM f15 s15;obtain⟨n1415,a14⟩:=WG a14 f15 s15;simp only[go_sem,seval,a15];generalize YQ:C' _ i15 _=Z15;replace a15:=XD YQ;replace XM:=WQ YQ n1315 XM;replace a14:=WQ YQ n1415 a14;replace hs:=Xz YQ hs z15;refine pS rfl (CP b hbo.1 hbo.2 _) ?_;simp only[go_sem,seval];refine pS rfl (J5 ws space (fj b) hw i hi _) ?_;simp only[go_sem,seval,sK];refine al hs λi17 Y17 s17 a17 f17 z17 hs=>?_;replace XM:=s17 _ _ XM;obtain⟨n1417,a14⟩:=WG a14 f17 s17;obtain⟨n1517,a15⟩:=WG a15 f17 s17;simp only[go_sem,seval,a17,a15,a14,ab n1417,ab n1517];exact ai.pure ((hs.ao z17).ao z14) rfl
def IN(p:Pn)(low:Int)(h1:Bq p.y)(h2:Bq p.m):aE prog 143 [di p,vI low] (di (eH p low)):=λU=>by
 obtain⟨g1,g2⟩:=h1;obtain⟨g3,g4⟩:=h2;refine Ws.q ?_;have hs:=aa.refl U;have r1:WI .i64 (p.y+p.m):=ae;refine mS 5 ?_;simp only[go_sem,seval,O2,di];refine al hs λi2 Z2 s2 a2 f2 _ hs=>?_;simp only[go_sem,seval];refine al hs λi4 Z4 s4 a4 f4 z4 hs=>?_;replace a2:=s4 _ _ a2;unfold eH;by_cases h:low>p.y+p.m
 .have q:(low>p.y+p.m)=True:=L' h;rw[ak h];simp only[go_sem,seval,a4,a2,q,r1];exact ai.pure (hs.ao z4) rfl
 .have q:(low>p.y+p.m)=False:=H' h;rw[au h];simp only[go_sem,seval,a4,a2,q,r1];exact ai.pure (hs.ao z4) rfl
def HK(l:List Nd)(hb:Xh l=true)(hn:l.length<=2000)(w:Int)(hw1:1<=w)(hw2:w<=1099511627776):∀(n a:Nat),a<n->a<l.length->aE prog 141 [ay l,vI a,vI w] (jU (ln l w a)):=by
 intro n
 induction n with
 |zero=>intro a h;omega
 |succ n ih=>?_
 intro a han ha U;refine Wv.q ?_;have hs:=aa.refl U;refine mS 10 ?_;simp only[go_sem,seval,RQ];refine al hs λi6 Z6 s6 a6 f6 z6 hs=>?_;simp only[go_sem,seval];refine pR rfl (B6 l (by omega) a ha _) ?_;have hrg:=dU l a;have heq:=AO (l:=l) (w:=w) (a:=a);by_cases hp:db l a<0
 .have q:(db l a<0)=True:=L' hp;rw[ak hp]at heq;rw[heq];apply sR;simp only[go_sem,seval,a6,q];exact ai.pure (hs.ao z6) rfl
 .have q:(db l a<0)=False:=H' hp;rw[au hp]at heq;obtain⟨p,hpe⟩:∃p:Nat,db l a=p:=⟨(db l a).toNat,by omega⟩
  have ZE:p<l.length:=by omega
  rw[hpe]at q heq;rw[eU]at heq;have WB:=Al hb hn hw1 hw2 ZE;obtain⟨k1,k2,k3,k4⟩:=WB;have hins:tV l p=l[p].st.Xl:=by simp[tV,ZE]
  have WM:=(ec hb ZE).st.Xl;have Xx:=λU=>bI (U:=U) ZE;rw[heq];unfold jB;rw[hins];apply sR;simp only[go_sem,seval,hpe,q];refine pR rfl (ih p (by omega) ZE _) ?_;generalize ln l w p=r at*;generalize l[p]=nd at*;have r1:WI .i64 (r.x+nd.st.Xl):=ae;have r2:WI .i64 (r.w-nd.st.Xl):=ae;have r3:WI .i64 (r.w-nd.st.Xl-nd.st.Xl):=ae;have e3:r.w-2*nd.st.Xl=r.w-nd.st.Xl-nd.st.Xl:=by omega
  rw[e3];apply sR;simp only[go_sem,seval,jU];refine al hs λi8 Z8 s8 a8 f8 z8 hs=>?_;obtain⟨n68,a6⟩:=WG a6 f8 s8;simp only[go_sem,seval,a8,a6,Xx,Nd.cells,r1,r2,r3,dN,cg,ab n68];exact ai.pure ((hs.ao z8).ao z6) rfl
open Go.Proofs
def B2(p:Pn)(Xy pad:Int)(h1:Bq p.y)(h2:Bq p.m)(h3:Bq Xy)(h4:Bq pad):aE prog 144 [di p,vI Xy,vI pad] (di (dF p Xy pad)):=λU=>by
 obtain⟨g1,g2⟩:=h1;obtain⟨g3,g4⟩:=h2;obtain⟨g5,g6⟩:=h3;obtain⟨g7,g8⟩:=h4;refine VG.q ?_;have hs:=aa.refl U;obtain⟨py,pm⟩:=p;simp only at g1 g2 g3 g4;unfold dF;have r1:WI .i64 (py+pm):=ae;have r2:WI .i64 (py+pm+pad):=ae;have r3:WI .i64 (py+Xy):=ae;have r4:WI .i64 (py+Xy+pad):=ae;refine mS 7 ?_;simp only[go_sem,seval,PS,di];refine al hs λi3 Z3 s3 a3 f3 z3 hs=>?_;simp only[go_sem,seval];refine al hs λi6 Z6 s6 a6 f6 z6 hs=>?_;obtain⟨n36,a3⟩:=WG a3 f6 s6;by_cases hm:Xy>pm
 .have q1:(Xy>pm)=True:=L' hm;have e:max pm Xy=Xy:=by omega
  by_cases hp:pad>0
  .have q2:(pad>0)=True:=L' hp;simp only[go_sem,seval,a6,a3,q1,q2,r3,r4,ab n36.symm];exact ai.pure ((hs.ao z3).ao z6) (by unfold kX;simp[hp,e,vI]<;>omega)
  .have q2:(pad>0)=False:=H' hp;simp only[go_sem,seval,a6,a3,q1,q2,ab n36.symm];exact ai.pure ((hs.ao z3).ao z6) (by unfold kX;simp[hp,e,vI]<;>omega)
 .have q1:(Xy>pm)=False:=H' hm;have e:max pm Xy=pm:=by omega
  by_cases hp:pad>0
  .have q2:(pad>0)=True:=L' hp;simp only[go_sem,seval,a6,a3,q1,q2,r1,r2];exact ai.pure (hs.ao z6) (by unfold kX;simp[hp,e,vI]<;>omega)
  .have q2:(pad>0)=False:=H' hp;simp only[go_sem,seval,a6,a3,q1,q2];exact ai.pure (hs.ao z6) (by unfold kX;simp[hp,e,vI]<;>omega)
def Bc(p:Pn)(Xy pad:Int)(h1:Bq p.y)(h2:Bq p.m)(h3:Bq Xy)(h4:Bq pad):aE prog 145 [di p,vI Xy,vI pad] (di (j9 p Xy pad)):=λU=>by
 obtain⟨g1,g2⟩:=h1;obtain⟨g3,g4⟩:=h2;obtain⟨g5,g6⟩:=h3;obtain⟨g7,g8⟩:=h4;refine Ul.q ?_;have hs:=aa.refl U;obtain⟨py,pm⟩:=p;simp only at g1 g2 g3 g4;unfold j9;have r1:WI .i64 (py+pm):=ae;have r2:WI .i64 (py+pm+pad):=ae;refine mS 7 ?_;simp only[go_sem,seval,Sy,di];refine al hs λi3 Z3 s3 a3 f3 z3 hs=>?_;simp only[go_sem,seval];refine al hs λi6 Z6 s6 a6 f6 z6 hs=>?_;obtain⟨n36,a3⟩:=WG a3 f6 s6;by_cases hp:pad>0
 .have q2:(pad>0)=True:=L' hp;by_cases hm:Xy>0
  .have q1:(Xy>0)=True:=L' hm;simp only[go_sem,seval,a6,a3,q1,q2,r1,r2,ab n36.symm];exact ai.pure ((hs.ao z3).ao z6) (by unfold kX;simp[hp,vI]<;>omega)
  .have q1:(Xy>0)=False:=H' hm;simp only[go_sem,seval,a6,a3,q1,q2,r1,r2,ab n36.symm];exact ai.pure ((hs.ao z3).ao z6) (by unfold kX;simp[hp,vI]<;>omega)
 .have q2:(pad>0)=False:=H' hp;by_cases hm:Xy>pm
  .have q1:(Xy>pm)=True:=L' hm;simp only[go_sem,seval,a6,a3,q1,q2,ab n36.symm];exact ai.pure ((hs.ao z3).ao z6) (by unfold kX;simp[hp,vI]<;>omega)
  .have q1:(Xy>pm)=False:=H' hm;simp only[go_sem,seval,a6,a3,q1,q2];exact ai.pure (hs.ao z6) (by unfold kX;simp[hp,vI]<;>omega)
open Go.Proofs
def wF{U:ad}{id e sz:Nat}(h:U id=some ⟨e,sz,[]⟩):bC U e sz (.own id 0 0)=some ([],some id):=by
 simp only[bC,h];rw[ak (by simp)];simp
def FZ(l:List T')(XZ:Int)(hl:l.length<=1000000)(WB:∀f∈l,f.ok):aE prog 142 [ax l,vI XZ] (.WC [vI (cy (fS XZ) l).1,.bool (cy (fS XZ) l).2]):=λU=>by
 refine TM.q ?_;have hs:=aa.refl U;have hn:=cF l;refine mS 9 ?_;simp only[go_sem,seval,Rv];refine ag.loop (λm st=>∃(i:Nat) (b:Int) (fd:Bool),i<=l.length/\m=l.length-i/\cy (fS XZ) (l.take i)=(b,fd)/\aa U st.U/\st.s 0=ax l/\st.s 1=vI XZ/\st.s 6=vI b/\st.s 7=.bool fd/\st.s 8=vI i) l.length ?_ ?_
 .exact⟨0,0,false,by omega,rfl,rfl,hs,rfl,rfl,rfl,rfl,rfl⟩
 .rintro m ⟨S,J⟩ ⟨i,b,fd,hi,rfl,hb,hs,k0,k1,k6,k7,k8⟩;simp only at hs k0 k1 k6 k7 k8;refine ag.mix 9 ?_;by_cases B':i<l.length
  .have q:=qT B';have Xx:=λU=>dO (U:=U) B';have W4:=wC (tell:=fS XZ) B';have hfok:=WB _ (Xo B');generalize l[i]=f at*;have hsum2:WI .i64 (f.y+f.h):=by obtain⟨_,⟨x1,x2⟩,_,⟨w1,w2⟩⟩:=hfok;exact ae
   rw[hb]at W4;have go:OL f.side XZ≠0->∀c:Bool,c=(!fd||decide (f.y+f.h>b))->cy (fS XZ) (l.take (i+1))=if c then(f.y+f.h,true)else(b,fd):=λhz c hc=>by
    rw[W4,hc];unfold gQ fS;cases fd<;>simp[hz]
   have no:OL f.side XZ=0->cy (fS XZ) (l.take (i+1))=(b,fd):=λhz=>by rw[W4];simp[gQ,fS,hz]
   cases fd
   .apply sR;simp only[go_sem,seval,k0,k1,k6,k7,k8,hn,q,Xx,az,hsum2];refine And.intro (λhz=>?_) (λhz=>?_)
    .exact⟨ae,_,by omega,i+1,_,_,by omega,rfl,no hz,hs,by simp⟩
    .have g:=go hz true rfl;exact⟨ae,_,by omega,i+1,_,_,by omega,rfl,g,hs,by simp⟩
   .by_cases XI:f.y+f.h>b
    .have q3:(f.y+f.h>b)=True:=L' XI;apply sR;simp only[go_sem,seval,k0,k1,k6,k7,k8,hn,q,Xx,az,q3,hsum2];refine And.intro (λhz=>?_) (λhz=>?_)
     .exact⟨ae,_,by omega,i+1,_,_,by omega,rfl,no hz,hs,by simp⟩
     .have g:=go hz true (by simp[XI]);exact⟨ae,_,by omega,i+1,_,_,by omega,rfl,g,hs,by simp⟩
    .have q3:(f.y+f.h>b)=False:=H' XI;apply sR;simp only[go_sem,seval,k0,k1,k6,k7,k8,hn,q,Xx,az,q3,hsum2];refine And.intro (λhz=>?_) (λhz=>?_)
     .exact⟨ae,_,by omega,i+1,_,_,by omega,rfl,no hz,hs,by simp⟩
     .have g:=go hz false (by simp[XI]);exact⟨ae,_,by omega,i+1,_,_,by omega,rfl,g,hs,by simp⟩
  .have q:=qF B';obtain rfl:i=l.length:=by omega
   rw[dR]at hb;apply sR;simp only[go_sem,seval,k0,k6,k7,k8,hn,q];exact ai.pure hs (by rw[hb])
open Go.Proofs
def IV(l:List Nd)(hl:l.length<=1000000000)(of:List Int)(i:Nat)(k:Int):aE prog 251 [ay l,aN of,vI i,vI k] (.bool (iU l of i k)):=λU=>by
 refine UI.q ?_;have hs:=aa.refl U;have hn:=cV of;unfold iU;refine ag.mix 9 ?_;by_cases h0:k>=0
 .have q0:(k>=0)=True:=L' h0;by_cases h1:k<of.length
  .have q1:(k<of.length)=True:=L' h1;obtain⟨n,rfl⟩:∃n:Nat,k=n:=⟨k.toNat,by omega⟩
   have hn2:n<of.length:=by omega
   have Xx:=λU=>de (U:=U) hn2;have hgd:of.getD ((n:Int)).toNat 0=of[n]:=by simp[hn2]
   rw[XK (show(0:Int)<=n/\(n:Int)<of.length by omega),Bool.true_and,hgd];generalize of[n]=x at*;apply sR;simp only[go_sem,seval,K8,q0,q1,hn,Xx];refine pS rfl (E1 l hl i x _) ?_;simp only[go_sem,seval];exact ai.pure hs rfl
  .have q1:(k<of.length)=False:=H' h1;rw[XJ (λh=>h1 h.2),Bool.false_and];apply sR;simp only[go_sem,seval,K8,q0,q1,hn];exact ai.pure hs rfl
 .have q0:(k>=0)=False:=H' h0;rw[XJ (λh=>h0 h.1),Bool.false_and];apply sR;simp only[go_sem,seval,K8,q0];exact ai.pure hs rfl
open Go.Proofs
def rP(l:List T')(high:Int)(hl:l.length<=1000000)(hr:∀f∈l,WI .i64 (f.y+high)):aE prog 65 [ax l,vI high] (aG (l.map (cO high))):=λU=>by
 refine e65.q ?_;have hs:=aa.refl U;have hn:=cF l;refine mS 7 ?_;simp only[go_sem,seval,c65];refine ag.loop (λm st=>∃i:Nat,i<=l.length/\m=l.length-i/\aa U st.U/\aq U st.U 123 7 (st.s 5) (((l.take i).map (cO high)).map aJ)/\st.s 0=ax l/\st.s 1=vI high/\st.s 6=vI i) l.length ?_ ?_
 .exact⟨0,by omega,rfl,hs,aq.start,rfl,rfl,rfl⟩
 .clear hs;rintro m ⟨S,J⟩ ⟨i,hi,rfl,hs,WR,k0,k1,k6⟩;simp only at hs WR k0 k1 k6;generalize hv5:S 5=v5 at WR;refine ag.mix 7 ?_;by_cases B':i<l.length
  .have q:=qT B';have Xx:=λU=>dO (U:=U) B';have eI:=hr _ (Xo B');have Yd:(((l.take i).map (cO high)).map aJ).length=i:=by simp;omega
   have W1:(i+1)*57<=140737488355328:=by omega
   have W4:((l.take (i+1)).map (cO high)).map aJ=((l.take i).map (cO high)).map aJ++[aJ (cO high l[i])]:=by
    rw[Yz B'];simp only[cX,eV,List.map_nil]
   generalize l[i]=f at*;apply sR;simp only[go_sem,seval,k0,k1,k6,hv5,q,hn,Xx,az,eI];refine bF λi42 Z42 s42 a42 f42=>?_;obtain⟨idA,Xg,WK⟩:=WR.dst s42;simp only[go_sem,seval,Xg,bl a42,Yd,W1];refine eu λi43 Z43 s43 a43 f43=>?_;have k43:=(WK U (aa.refl U) Z42 (hs.trans s42)).trans s43;have n43:U i43=none:=(hs.trans s42).none f43;simp only[go_sem,seval,k0,k1,k6];refine⟨ae,_,by omega,i+1,by omega,rfl,k43,?_,by simp⟩;rw[W4];exact aq.new (by simp;omega) a43 n43
  .have q:=qF B';obtain rfl:i=l.length:=by omega
   apply sR;simp only[go_sem,seval,k0,k6,hv5,q,hn];refine WR.ni hs ?_;rw[dR];rfl
open Go.Proofs
def Ig(l:List XA)(hl:jz l)(s:XP)(hm:cT l s)(hd:s.done<=1152921504606846976)(kept shift:Int)(k:Nat)(hk:-1152921504606846976<=kept/\kept<=1152921504606846976)(ZR:0<=shift/\shift<=1152921504606846976)(X6:s.atom<=k)(Yf:k<l.length):
 aE prog 72 [aT l,aL s,vI kept,vI shift,vI k] (aJ (dK l s kept shift k)):=λU=>by
 refine e72.q ?_;have hs:=aa.refl U;have hc:=lz l s;have Yp:=eL l;rw[XK hm]at hc;have hpc:=AI l hl s hm hd kept shift k hk ZR X6 Yf;have Xx:=λU=>dS (U:=U) Yf;have hy:=hl.rng _ (Xo Yf);unfold dK;rw[ak ⟨hm,X6,by omega⟩];have ZE:(k:Int)=s.atom->cj l s kept shift k+s.done=kept+shift:=λe=>by
  rw[cj,ak ⟨hm,X6,by omega⟩,fp,ak ⟨hm.1,by omega,by omega⟩,e];omega
 unfold nr ia;rw[aV Yf];generalize hP:cj l s kept shift k=P at*;obtain⟨a,d,fr⟩:=s;have hm0:=hm;obtain⟨⟨h0,h1⟩,h2,h3⟩:=hm;simp only at h0 h1 h2 h3 hd X6 ZE|-;obtain⟨n,rfl⟩:∃n:Nat,a=n:=⟨a.toNat,by omega⟩
 have q1:((k:Int)<n)=False:=H';have q2:((k:Int)>=l.length)=False:=H';generalize hx:l[k]=x at*;have r1:WI .i64 (x.h-d):=ae;have r2:WI .i64 (kept+shift):=ae;refine mS 12 ?_;simp only[go_sem,seval,c72,aL];refine al hs λi6 Z6 s6 a6 f6 _ hs=>?_;simp only[go_sem,seval];refine al hs λi10 Z10 Yt Xm f10 Zn hs=>?_;replace a6:=Yt _ _ a6;simp only[go_sem,seval,a6];refine pS rfl (hc _) ?_;simp only[go_sem,seval,a6,Yp,q1,q2,Xx,bE];refine al hs λi11 Z11 s11 XF f11 z11 hs=>?_;obtain⟨n611,a6⟩:=WG a6 f11 s11;obtain⟨YA,Xm⟩:=WG Xm f11 s11;by_cases e:(k:Int)=n
 .have q3:((k:Int)=n)=True:=L' e;rw[ak e,ZE e];simp only[go_sem,seval,XF,Xm,a6,q3,r1,r2,ab n611,ab YA];exact ai.pure ((hs.ao z11).ao Zn) rfl
 .have q3:((k:Int)=n)=False:=H' e;rw[au e];simp only[go_sem,seval,XF,a6,q3,ab n611];generalize Xs:C' _ i11 _=Y11;replace XF:=XD Xs;replace a6:=WQ Xs n611 a6;replace Xm:=WQ Xs YA Xm;replace hs:=Xz Xs hs z11;refine pJ rfl hpc ?_;apply sG;simp only[go_sem,seval,XF,Xm];exact ai.pure (hs.ao Zn) rfl
open Go.Proofs
def GH{s:XP}(h0:0<=s.done){to:Int}{f:T'}:(!sT (if s.done>0 then s.atom+1 else s.atom) to f)=decide (f.anchor<to/\(f.anchor>s.atom\/f.anchor=s.atom/\s.done=0)):=by
 unfold sT;rw[Bool.eq_iff_iff];simp only[Bool.not_eq_true',decide_eq_false_iff_not,YX];split<;>omega
def zR{l:List T'}{s:XP}(h0:0<=s.done){to:Int}{i:Nat}(hi:i<l.length):
 cN (l.take (i+1)) s to=cN (l.take i) s to++if l[i].anchor<to/\(l[i].anchor>s.atom\/l[i].anchor=s.atom/\s.done=0)then[l[i]]else[]:=by
 unfold cN Bi oW;rw[lp _ _ hi];congr 1;simp only[GH h0,YX]
def GF(l:List T')(hl:l.length<=1000000)(s:XP)(h0:0<=s.done)(to:Int):aE prog 112 [ax l,aL s,vI to] (ax (cN l s to)):=λU=>by
 refine TZ.q ?_;have hs:=aa.refl U;have hn:=cF l;have htake:=λ(i:Nat) (hi:i<l.length)=>zR (s:=s) (to:=to) h0 hi;have hlen:=λ(i:Nat)=>show(cN (l.take i) s to).length<=i from jP (kx _ _ _) (by rw[jb];omega)
 have hT:cN (l.take l.length) s to=cN l s to:=by rw[dR]
 have hZ:cN (l.take 0) s to=[]:=rfl;obtain⟨a,d,fr⟩:=s;simp only at h0 htake;generalize hC:(λi:Nat=>cN (l.take i) ⟨a,d,fr⟩ to)=C;have hCi:∀i,cN (l.take i) ⟨a,d,fr⟩ to=C i:=λi=>by rw[<-hC]
 simp only[hCi]at htake hlen hT hZ;rw[<-hT];refine mS 10 ?_;simp only[go_sem,seval,P6,aL];refine al hs λi4 Z4 s4 a4 f4 _ hs=>?_;simp only[go_sem,seval];refine ag.loop (λm st=>∃i:Nat,i<=l.length/\m=l.length-i/\aa U st.U/\aq U st.U 100 7 (st.s 7) ((C i).map az)/\st.U i4=some ⟨24,3,[.agg [vI a,vI d,.bool fr]]⟩/\st.s 0=ax l/\st.s 2=vI to/\st.s 4=.ptr i4 0 0/\st.s 8=vI i) l.length ?_ ?_
 .exact⟨0,by omega,rfl,hs,by rw[hZ];exact aq.start,a4,rfl,rfl,rfl,rfl⟩
 .clear a4 hs;rintro m ⟨S,J⟩ ⟨i,hi,rfl,hs,WR,a4,k0,k2,k4,k8⟩;simp only at hs WR a4 k0 k2 k4 k8;generalize ZD:S 7=v7 at WR;refine ag.mix 10 ?_;by_cases B':i<l.length
  .have q:=qT B';have Xx:=λU=>dO (U:=U) B';have W4:=htake i B';have Yp:=hlen i;have Yd:((C i).map az).length=(C i).length:=by simp
   have W1:((C i).length+1)*57<=140737488355328:=by omega
   generalize l[i]=f at*;have skip:¬(f.anchor<to/\(f.anchor>a\/f.anchor=a/\d=0))->C (i+1)=C i:=λh=>by rw[W4,au h,iN]
   have put:(f.anchor<to/\(f.anchor>a\/f.anchor=a/\d=0))->C (i+1)=C i++[f]:=λh=>by rw[W4,ak h]
   have r1:=rI i;by_cases c1:f.anchor<to
   .have q1:(f.anchor<to)=True:=L' c1;rcases(show(f.anchor>a)\/(¬f.anchor>a/\f.anchor=a/\d=0)\/(¬f.anchor>a/\f.anchor=a/\¬d=0)\/(¬f.anchor>a/\¬f.anchor=a) by omega)with c2|⟨c2,c3,c4⟩|⟨c2,c3,c4⟩|⟨c2,c3⟩
    case' inl=>
     have q2:(f.anchor>a)=True:=L' c2;have hp:=put ⟨c1,.inl c2⟩;apply sR;simp only[go_sem,seval,k0,k2,k4,k8,ZD,a4,q,hn,Xx,az,q1,q2]
    case' inr.inl=>
     have q2:(f.anchor>a)=False:=H' c2;have q3:(f.anchor=a)=True:=L' c3;have q4:(d=0)=True:=L' c4;have hp:=put ⟨c1,.inr ⟨c3,c4⟩⟩;apply sR;simp only[go_sem,seval,k0,k2,k4,k8,ZD,a4,q,hn,Xx,az,q1,q2,q3,q4]
    case inr.inr.inl=>
     have q2:(f.anchor>a)=False:=H' c2;have q3:(f.anchor=a)=True:=L' c3;have q4:(d=0)=False:=H' c4;apply sR;simp only[go_sem,seval,k0,k2,k4,k8,ZD,a4,q,hn,Xx,az,q1,q2,q3,q4,r1];exact⟨_,by omega,i+1,by omega,rfl,hs,by rw[skip (by omega)];exact WR,by simp⟩
    case inr.inr.inr=>
     have q2:(f.anchor>a)=False:=H' c2;have q3:(f.anchor=a)=False:=H' c3;apply sR;simp only[go_sem,seval,k0,k2,k4,k8,ZD,a4,q,hn,Xx,az,q1,q2,q3,r1];exact⟨_,by omega,i+1,by omega,rfl,hs,by rw[skip (by omega)];exact WR,by simp⟩
    all_goals
     refine aj λi46 Z46 s46 a46 f46=>?_;obtain⟨idA,Xg,WK,XG,hd2⟩:=WR.mE s46;have b4:Vc.bz Z46 idA i4=some ⟨24,3,[.agg [vI a,vI d,.bool fr]]⟩:=by rw[XG i4 _ a4 (.inr (by simp))];exact s46 _ _ a4
     simp only[go_sem,seval,Xg,bl a46,Yd,W1];refine aX λi47 Z47 s47 a47 f47=>?_;have k47:=(WK U (aa.refl U) Z46 (hs.trans s46)).trans s47;have n47:U i47=none:=(hs.trans s46).none f47;have c4:=s47 _ _ b4;simp only[go_sem,seval,k0,k2,k4,k8,r1,c4];refine⟨_,by omega,i+1,by omega,rfl,k47,?_,by simp⟩;rw[hp,cX];exact aq.new (by simp) a47 n47
   .have q1:(f.anchor<to)=False:=H' c1;apply sR;simp only[go_sem,seval,k0,k2,k4,k8,ZD,a4,q,hn,Xx,az,q1,r1];exact⟨_,by omega,i+1,by omega,rfl,hs,by rw[skip (by omega)];exact WR,by simp⟩
  .have q:=qF B';obtain rfl:i=l.length:=by omega
   apply sR;simp only[go_sem,seval,k0,k8,ZD,q,hn];exact WR.ni hs rfl
open Go.Proofs
def EX(l:List Nd)(hl:dz l)(h:Int)(his:aE prog 90 [ay l] (.bool (Xh l))):aE prog 92 [ay l,vI h] (.bool (gj l h)):=λU=>by
 refine e92.q ?_;have hs:=aa.refl U;unfold gj;refine ag.mix 5 ?_;by_cases h0:h>=1
 .have q0:(h>=1)=True:=L' h0;by_cases h1:h<=1099511627776
  .have q1:(h<=1099511627776)=True:=L' h1;rw[XK ⟨h0,h1⟩,Bool.true_and];apply sR;simp only[go_sem,seval,c92,q0,q1];refine pS rfl (his _) ?_;simp only[go_sem,seval];exact ai.pure hs rfl
  .have q1:(h<=1099511627776)=False:=H' h1;rw[XJ (λe=>h1 e.2),Bool.false_and];apply sR;simp only[go_sem,seval,c92,q0,q1];exact ai.pure hs rfl
 .have q0:(h>=1)=False:=H' h0;rw[XJ (λe=>h0 e.1),Bool.false_and];apply sR;simp only[go_sem,seval,c92,q0];exact ai.pure hs rfl
open Go.Proofs
def Io(b:Bk)(p:YN)(s:XP)(no:Nat)(X7:s.done=0->p.kind=1->0<=s.atom/\s.atom<b.WT.length):aE prog 77 [br b,bB p,aL s,vI no] (.bool (decide (p.kind=1/\s.done=0/\((XB b.WT s.atom.toNat).forced=3/\no%2=1\/(XB b.WT s.atom.toNat).forced=4/\no%2=0)))):=λU=>by
 refine e77.q ?_;have hs:=aa.refl U;have Ze:br b=.agg [ay b.nodes,vI b.w,vI b.h,aT b.atoms,ax b.WA,vI b.U',aY b.WT]:=rfl;have hpg:bB p=.agg [vI p.no,vI p.kind,aG p.hs,aG p.fs,aG p.ls]:=rfl;obtain⟨a,d,fr⟩:=s;simp only at X7|-;refine ag.mix 10 ?_;have cb:(aY b.WT).cells=[aY b.WT]:=rfl;have sb:(aY b.WT).stays=true:=rfl;have cf:∀l:List Yx,(aG l).cells=[aG l]:=λ_=>rfl;have sf:∀l:List Yx,(aG l).stays=true:=λ_=>rfl;have htm:(no:Int).tmod 2=(no:Int)%2:=Int.tmod_eq_emod_of_nonneg (by omega);apply sR;simp only[go_sem,seval,c77,aL,Ze,hpg];refine al hs λi4 Z4 s4 a4 f4 _ hs=>?_;simp only[go_sem,seval];refine al hs λi5 Z5 s5 a5 f5 _ hs=>?_;replace a4:=s5 _ _ a4;simp only[go_sem,seval];refine al hs λi6 Z6 s6 a6 f6 _ hs=>?_;obtain⟨n46,a4⟩:=WG a4 f6 s6;obtain⟨n56,a5⟩:=WG a5 f6 s6;by_cases h1:p.kind=1
 .have q1:(p.kind≠1)=False:=H' (λh=>h h1);by_cases h2:d=0
  .have q2:(d≠0)=False:=H' (λh=>h h2);obtain⟨g1,g2⟩:=X7 h2 h1;obtain⟨n,rfl⟩:∃n:Nat,a=n:=⟨a.toNat,by omega⟩
   have Yb:n<b.WT.length:=by omega
   have Xx:=λU=>nN (U:=U) Yb;have hg:XB b.WT ((n:Int)).toNat=b.WT[n]:=by simp[XB,Yb]
   rw[hg];generalize b.WT[n]=x at*;by_cases h3:x.forced=3
   .have q3:(x.forced=3)=True:=L' h3;have q4:(x.forced=4)=False:=H';simp only[go_sem,seval,a6,a5,a4,q1,q2,q3,q4,Xx,bX,htm];exact⟨λh=>ai.pure hs (by first|(simp[h1,h2];done)|(simp[h1,h2];omega)),λh=>ai.pure hs (by first|(simp[h1,h2];done)|(simp[h1,h2];omega))⟩
   .have q3:(x.forced=3)=False:=H' h3;by_cases h4:x.forced=4
    .have q4:(x.forced=4)=True:=L' h4;simp only[go_sem,seval,a6,a5,a4,q1,q2,q3,q4,Xx,bX,htm];exact ai.pure hs (by first|(simp[h1,h2];done)|(simp[h1,h2];omega))
    .have q4:(x.forced=4)=False:=H' h4;simp only[go_sem,seval,a6,a5,a4,q1,q2,q3,q4,Xx,bX];exact ai.pure hs (by first|(simp[h1,h2];done)|(simp[h1,h2];omega))
  .have q2:(d≠0)=True:=L' h2;simp only[go_sem,seval,a6,a5,q1,q2];exact ai.pure hs (by first|(simp[h1,h2];done)|(simp[h1,h2];omega))
 .have q1:(p.kind≠1)=True:=L' h1;simp only[go_sem,seval,a5,q1];exact ai.pure hs (by simp[h1])
def qv{l:List Nd}{p:Nat->Bool}:∀n,(jT l p n).length<=n
 |0=>by simp[jT]
 |n+1=>by
  rw[l3,gn];have:=qv (l:=l) (p:=p) n;split<;>simp<;>omega
def F8{l:List Nd}{L:List Int}{i:Nat}(h:i<L.length):(L.take (i+1)).flatMap (ic l)=(L.take i).flatMap (ic l)++ic l L[i]:=by
 rw[Yz h,List.flatMap_append];simp
def GG{l:List Nd}{L:List Int}{i:Nat}(h:i<L.length):(L.take (i+1)).map (λb=>(Yw l b).after)=(L.take i).map (λb=>(Yw l b).after)++[(Yw l L[i]).after]:=by
 rw[Yz h,cX];simp
def Bb{of:List Int}{t:Int}{k:Nat}:∀i,i<=k->(fI of t k i).2=0
 |0,_=>rfl
 |i+1,h=>by
  have:=Bb (of:=of) (t:=t) i (by omega:i<=k);rw[fI];split
  .rw[ak (by omega)];exact this
  .exact this
def vX(L:List Int):Int:=if 1∈L then 1 else 0
def Fp{L:List Int}{i:Nat}(h:i<L.length):vX (L.take (i+1))=if L[i]=1 then 1 else vX (L.take i):=by
 unfold vX;rw[Yz h];simp only[dH,ja];by_cases e:L[i]=1
 .simp[e]
 .have:¬(1=L[i]):=λh=>e h.symm;simp[e,this]
def oQ(l:List Nd)(L:List Int):Int:=L.foldl (λm b=>max m (Yw l b).inside) 0
def Fl{l:List Nd}{L:List Int}{i:Nat}(h:i<L.length):oQ l (L.take (i+1))=max (oQ l (L.take i)) (Yw l L[i]).inside:=by
 unfold oQ;rw[Yz h,kN];rfl
def Ml{l:List Nd}{x:Kn}(h:∀b∈x.both,0<=(Yw l b).inside/\(Yw l b).inside<=1):oQ l x.both=if qu l x then 1 else 0:=by
 unfold oQ;rw[Fk (λb=>(Yw l b).inside) _ _ (.inl rfl) h];simp[qu]
open Go.Proofs
def AG{U:ad}{id e sz:Nat}{r:V}(h:U id=some ⟨e,sz,[r]⟩):bC U e sz (.own id 0 1)=some ([r],some id):=by
 simp[bC,h]
def aq.bH{K U:ad}{e sz i:Nat}{v:V}{rows:List V}{o p:Ob}(h:aq K U e sz v rows)(hi:U i=some p)(WZ:p.elem≠e):aq K (C' U i o) e sz v rows:=by
 rcases h with h|⟨id,g1,g2,g3⟩
 .exact .inl h
 .refine .inr ⟨id,g1,?_,g3⟩;rw[Vc.ab (λe'=>by rw[e',hi]at g2;cases g2;exact WZ rfl)];exact g2
def aq.ck{K U:ad}{e sz i:Nat}{v:V}{rows:List V}{p:Ob}(h:aq K U e sz v rows)(hi:U i=some p)(WZ:p.elem≠e):∀n,v≠.own i 0 n:=λn hv=>by
 subst hv;rcases h with⟨h,_⟩|⟨id,h,g2,_⟩
 .cases h
 .cases h;rw[hi]at g2;cases g2;exact WZ rfl
def aq.C0{K U:ad}{e sz:Nat}{v:V}{rows:List V}(h:aq K U e sz v rows){idA:Option Nat}(h1:∀i,idA=some i->∀n,v≠.own i 0 n):aq K (Vc.bz U idA) e sz v rows:=by
 rcases h with h|⟨a,rfl,ho,hk⟩
 .exact .inl h
 .refine .inr ⟨a,rfl,?_,hk⟩;cases idA with
  |none=>exact ho
  |some i=>
   have:a≠i:=λe=>h1 i rfl _ (by rw[e]);simp only[Vc.bz];rw[cA this];exact ho
def aq.mM{K ZJ Z1:ad}{e sz:Nat}{v:V}{rows:List V}(h:aq K ZJ e sz v rows)(hs:aa ZJ Z1):
 ∃idA,bC Z1 e sz v=some (rows,idA)/\(∀i,idA=some i->v=.own i 0 rows.length)/\(∀j,(∀n,v≠.own j 0 n)->∀Z2:ad,Vc.bz Z2 idA j=Z2 j)/\(∀K':ad,aa K' K->∀Z2,aa K' Z2->aa K' (Vc.bz Z2 idA)):=by
 rcases h with⟨rfl,rfl⟩|⟨id,rfl,ho,hk⟩
 .exact⟨none,rfl,λ_ h=>(by cases h),λ_ _ _=>rfl,λ_ _ _ h=>h⟩
 .refine⟨some id,?_,λi h=>(by cases h;rfl),λj hj Z2=>cA λe'=>hj rows.length (by rw[e']),λK' hK Z2 h=>h.pI (hK.none hk)⟩;simp only[bC,hs _ _ ho];rw[ak ⟨trivial,trivial,trivial,Xc _⟩,dR]
structure KnJ(Z0:ad)(i6 i7:Nat)(E B O:List Int)(U:ad):Prop where
 sub:aa Z0 U
 no:Z0 i7=none
 no6:Z0 i6=none
 r6:U i6=some ⟨259,4,[.agg [.aB,.aB,.aB,vI 0]]⟩
 ne:i6≠i7
 row:∃ve vb vo,U i7=some ⟨259,4,[.agg [ve,vb,vo,vI (-1)]]⟩/\aq Z0 U 3 1 ve (E.map vI)/\aq Z0 U 3 1 vb (B.map vI)/\aq Z0 U 3 1 vo (O.map vI)/\bL vb ve/\bL vb vo
def Dc(l:List Nd)(hb:Xh l=true)(hn:l.length<=2000)(of:List Int)(Yq:of.length<=1000000)(Xt:∀x∈of,(0<=x/\x<l.length)/\kdI l x.toNat≠1)(k:Nat)(hk:k<=of.length):
 aE prog 201 [ay l,aN of,vI k] (ik (cq l of k)):=λU=>by
 refine VB.q ?_;have hs:=aa.refl U;have Yp:=bK l;have XI:=cV of;have hH:=λ(i:Nat) (k:Int)=>IV l (by omega) of i k;rw[Lb hb Xt];generalize hpE:(λi=>iU l of i ((k:Int)-1)&&!iU l of i k)=pE;generalize hpB:(λi=>iU l of i k&&!iU l of i ((k:Int)-1))=pB;generalize hpO:(λi=>iU l of i ((k:Int)-1)&&iU l of i k)=pO;have eE:∀i,pE i=(iU l of i ((k:Int)-1)&&!iU l of i k):=λi=>by rw[<-hpE]
 have eB:∀i,pB i=(iU l of i k&&!iU l of i ((k:Int)-1)):=λi=>by rw[<-hpB]
 have eO:∀i,pO i=(iU l of i ((k:Int)-1)&&iU l of i k):=λi=>by rw[<-hpO]
 clear hpE hpB hpO;refine mS 11 ?_;simp only[go_sem,seval,OQ];refine al hs λi6 Z6 s6 a6 f6 z6 hs=>?_;simp only[go_sem,seval];refine al hs λi7 Z7 s7 a7 f7 z7 hs=>?_;obtain⟨n67,a6⟩:=WG a6 f7 s7;simp only[go_sem,seval,a7];generalize Yl:C' _ i7 _=Y7;replace a7:=XD Yl;replace a6:=WQ Yl n67 a6;replace hs:=Xz Yl hs z7;have hJ0:KnJ U i6 i7 [] [] [] Y7:=⟨hs,z7,z6,a6,n67,_,_,_,a7,aq.start,aq.start,aq.start,bL.aB _,bL.aB _⟩
 refine ag.loop (λm st=>∃i:Nat,i<=l.length/\m=l.length-i/\KnJ U i6 i7 (jT l pE i).reverse (jT l pB i) (jT l pO i).reverse st.U/\st.s 0=ay l/\st.s 1=aN of/\st.s 2=vI k/\st.s 6=.ptr i6 0 0/\st.s 7=.ptr i7 0 0/\st.s 8=vI i) l.length ?_ ?_
 .exact⟨0,by omega,rfl,hJ0,rfl,rfl,rfl,rfl,rfl,rfl⟩
 .clear hs a6 a7 hJ0;rintro m ⟨S,J⟩ ⟨i,hi,rfl,hJ,k0,k1,k2,k6,k7,k8⟩;simp only at hJ k0 k1 k2 k6 k7 k8;obtain⟨ve,vb,vo,a7,hve,hvb,hvo,hbe,hbo⟩:=hJ.row;have a6:=hJ.r6;obtain⟨ce,se⟩:=hve.vc;obtain⟨cb,sb⟩:=hvb.vc;obtain⟨co,so⟩:=hvo.vc;refine ag.mix 11 ?_;by_cases B':i<l.length
  .have q:=qT B';have XO:=λU=>bI (U:=U) (l:=l) (a:=i) B';have r1:=rI i;have r2:WI .i64 ((k:Int)-1):=ae;have hkd:kdI l i=l[i].kind:=by simp[kdI,B']
   have sE:=l3 (l:=l) (p:=pE) (n:=i);have sB:=l3 (l:=l) (p:=pB) (n:=i);have sO:=l3 (l:=l) (p:=pO) (n:=i);have lE:=qv (l:=l) (p:=pE) i;have lB:=qv (l:=l) (p:=pB) i;have lO:=qv (l:=l) (p:=pO) i;rw[eE,hkd]at sE;rw[eB,hkd]at sB;rw[eO,hkd]at sO;have h1:=hH i ((k:Int)-1);have h2:=hH i k;generalize jT l pE i=E at*;generalize jT l pB i=B at*;generalize jT l pO i=O at*;generalize l[i]=x at*;by_cases X6:x.kind=1
   .have q1:(x.kind≠1)=False:=H' (λh=>h X6);simp only[X6,true_and]at sE sB sO;apply sR;simp only[go_sem,seval,k0,k1,k2,k8,Yp,q,XO,Nd.cells,q1,r2];refine pS rfl (h1 _) ?_;simp only[go_sem,seval,k0,k1,k2,k8];refine pR rfl (h2 _) ?_;cases ha:iU l of i ((k:Int)-1)<;>cases hb:iU l of i k
    all_goals rw[ha,hb]at sE sB sO
    all_goals simp only[Bool.not_true,Bool.not_false,Bool.and_self,Bool.and_true,Bool.and_false,if_true,fO,if_false,iN]at sE sB sO
    .apply sR;simp only[go_sem,seval,k0,k1,k2,k6,k7,k8,r1];exact⟨_,by omega,i+1,by omega,rfl,by rw[sE,sB,sO];exact hJ,by simp⟩
    .apply sR;simp only[go_sem,seval,k7,k8,a7];refine aj λi54 Z54 s54 a54 f54=>?_;obtain⟨idA,Xg,hdv,XG,WK⟩:=hvb.mM s54;have b7:=(XG i7 (hvb.ck a7 (by simp)) Z54).trans (s54 _ _ a7);have b6:=(XG i6 (hvb.ck a6 (by simp)) Z54).trans (s54 _ _ a6);have gE:=(hve.mono s54).C0 (idA:=idA) λj hj n hv=>hbe _ _ _ _ (hdv j hj) hv rfl;have gO:=(hvo.mono s54).C0 (idA:=idA) λj hj n hv=>hbo _ _ _ _ (hdv j hj) hv rfl;have Yd:(B.map vI).length=B.length:=by simp
     have W1:(B.length+1)*9<=140737488355328:=by omega
     simp only[go_sem,seval,Xg,bl a54,Yd,W1];refine aX λi55 Z55 s55 a55 f55=>?_;have k55:=(WK U (aa.refl U) Z54 (hJ.sub.trans s54)).trans s55;have n55:U i55=none:=(hJ.sub.trans s54).none f55;have c7:=s55 _ _ b7;have c6:=s55 _ _ b6;have apE:bL (.own i55 0 (B.length+1)) ve:=bL.new (hve.mono s54) f55;have apO:bL (.own i55 0 (B.length+1)) vo:=bL.new (hvo.mono s54) f55;replace gE:=gE.mono s55;replace gO:=gO.mono s55;simp only[go_sem,seval,k0,k1,k2,k6,k7,k8,c7];have hnew:aq U Z55 3 1 (.own i55 0 (B.length+1)) ((B++[(i:Int)]).map vI):=aq.new (by simp) (by rw[a55,cX];rfl) n55;refine⟨r1,_,by omega,i+1,by omega,rfl,?_,by simp[vI]⟩;rw[sE,sB,sO];exact⟨k55.ao hJ.no,hJ.no,hJ.no6,(ab hJ.ne).trans c6,hJ.ne,_,_,_,af,gE.bH c7 (by simp),hnew.bH c7 (by simp),gO.bH c7 (by simp),apE,apO⟩
    .apply sR;simp only[go_sem,seval,k8];refine aj λi41 Z41 s41 a41 f41=>?_;have b7:=s41 _ _ a7;have Yd:(E.reverse.map vI).length=E.length:=by simp
     have W1:(1+E.length)*9<=140737488355328:=by omega
     simp only[go_sem,seval,k7,b7,AG a41,hve.src s41,Yd,W1];refine aX λi44 Z44 s44 a44 f44=>?_;have s4:aa J Z44:=(s41.pI f41).trans s44;have n44:=hJ.sub.none (s41.none f44);have c7:=s4 _ _ a7;have c6:=s4 _ _ a6;simp only[go_sem,seval,k0,k1,k2,k6,k7,k8,c7];have hnew:aq U Z44 3 1 (.own i44 0 (1+E.length)) (((i:Int)::E.reverse).map vI):=aq.new (by simp;omega) a44 n44;have hap:bL vb (.own i44 0 (1+E.length)):=(bL.new hvb (s41.none f44)).symm;have gB:=hvb.mono s4;have gO:=hvo.mono s4;refine⟨r1,_,by omega,i+1,by omega,rfl,?_,by simp[vI]⟩;rw[sE,sB,sO,List.reverse_append,List.reverse_singleton,List.singleton_append];exact⟨(hJ.sub.trans s4).ao hJ.no,hJ.no,hJ.no6,(ab hJ.ne).trans c6,hJ.ne,_,_,_,af,hnew.bH c7 (by simp),gB.bH c7 (by simp),gO.bH c7 (by simp),hap,hbo⟩
    .apply sR;simp only[go_sem,seval,k8];refine aj λi41 Z41 s41 a41 f41=>?_;have b7:=s41 _ _ a7;have Yd:(O.reverse.map vI).length=O.length:=by simp
     have W1:(1+O.length)*9<=140737488355328:=by omega
     simp only[go_sem,seval,k7,b7,AG a41,hvo.src s41,Yd,W1];refine aX λi44 Z44 s44 a44 f44=>?_;have s4:aa J Z44:=(s41.pI f41).trans s44;have n44:=hJ.sub.none (s41.none f44);have c7:=s4 _ _ a7;have c6:=s4 _ _ a6;simp only[go_sem,seval,k0,k1,k2,k6,k7,k8,c7];have hnew:aq U Z44 3 1 (.own i44 0 (1+O.length)) (((i:Int)::O.reverse).map vI):=aq.new (by simp;omega) a44 n44;have hap:bL vb (.own i44 0 (1+O.length)):=(bL.new hvb (s41.none f44)).symm;have gE:=hve.mono s4;have gB:=hvb.mono s4;refine⟨r1,_,by omega,i+1,by omega,rfl,?_,by simp[vI]⟩;rw[sE,sB,sO,List.reverse_append,List.reverse_singleton,List.singleton_append];exact⟨(hJ.sub.trans s4).ao hJ.no,hJ.no,hJ.no6,(ab hJ.ne).trans c6,hJ.ne,_,_,_,af,gE.bH c7 (by simp),gB.bH c7 (by simp),hnew.bH c7 (by simp),hbe,hap⟩
   .have q1:(x.kind≠1)=True:=L' X6;simp only[X6,false_and,if_false,iN]at sE sB sO;apply sR;simp only[go_sem,seval,k0,k1,k2,k6,k7,k8,Yp,q,XO,Nd.cells,q1,r1];exact⟨_,by omega,i+1,by omega,rfl,by rw[sE,sB,sO];exact hJ,by simp⟩
  .have q:=qF B';obtain rfl:i=l.length:=by omega
   generalize (jT l pE l.length).reverse=E at*;generalize jT l pB l.length=B at*;generalize (jT l pO l.length).reverse=O at*;have fin:∀(t:Int) (Z1:ad),aa U Z1->Z1 i6=some ⟨259,4,[.agg [.aB,.aB,.aB,vI 0]]⟩->aq U Z1 3 1 ve (E.map vI)->aq U Z1 3 1 vb (B.map vI)->aq U Z1 3 1 vo (O.map vI)->
    ai (.agg [ve,vb,vo,vI t]) (C' Z1 i6 ⟨259,4,[.agg [ve,vb,vo,vI t]]⟩) λr Z'=>r=ik ⟨E,B,O,t⟩/\Z'=U:=by
    intro t Z1 h1 h6 g1 g2 g3;have WM:aa U (C' Z1 i6 ⟨259,4,[.agg [ve,vb,vo,vI t]]⟩):=h1.ao hJ.no6;have p1:=g1.bH (o:=⟨259,4,[.agg [ve,vb,vo,vI t]]⟩) h6 (by simp);have p2:=g2.bH (o:=⟨259,4,[.agg [ve,vb,vo,vI t]]⟩) h6 (by simp);have p3:=g3.bH (o:=⟨259,4,[.agg [ve,vb,vo,vI t]]⟩) h6 (by simp);exact⟨_,U,WM,Wk.agg (vs':=[aN E,aN B,aN O,vI t]) ⟨p1.wk (aa.refl U) WM,p2.wk (aa.refl U) WM,p3.wk (aa.refl U) WM,Wk.refl WM _,trivial⟩,rfl,rfl⟩
   have c6:∀o,C' J i7 o i6=some ⟨259,4,[.agg [.aB,.aB,.aB,vI 0]]⟩:=λo=>(ab hJ.ne).trans a6;rcases Nat.eq_zero_or_pos k with rfl|h0
   .have q3:((((0:Nat):Int))>0)=False:=H';rw[au (by omega)];apply sR;simp only[go_sem,seval,k0,k2,k6,k7,k8,Yp,q,a7,a6];exact fin _ _ hJ.sub a6 hve hvb hvo
   have q3:((k:Int)>0)=True:=L';by_cases h1:k<of.length
   .have q4:=qT h1;have q5:=ae (m:=((k-1:Nat):Int)) (by omega) (by omega);have q6:((k:Int)-1)=((k-1:Nat):Int):=by omega
    have q7:=λU=>de (U:=U) h1;have q8:=λU=>de (U:=U) (l:=of) (i:=k-1) (by omega);have g1:of.getD k 0=of[k]:=by simp[h1]
    have g2:of.getD (k-1) 0=of[k-1]:=by have:k-1<of.length:=by omega
                                        simp[this]
    by_cases h2:of.getD k 0=of.getD (k-1) 0
    .have q9:(of[k]=of[k-1])=True:=L' (by rw[<-g1,<-g2];exact h2);rw[ak ⟨h0,h1,h2⟩,g1];apply sR;simp only[go_sem,seval,k0,k1,k2,k6,k7,k8,Yp,q,XI,q3,q4,q5,q6,q7,q8,q9,a7,c6];exact fin _ _ (hJ.sub.ao hJ.no) (c6 _) (hve.bH a7 (by simp)) (hvb.bH a7 (by simp)) (hvo.bH a7 (by simp))
    .have q9:(of[k]=of[k-1])=False:=H' (by rw[<-g1,<-g2];exact h2);rw[au (λh=>h2 h.2.2)];apply sR;simp only[go_sem,seval,k0,k1,k2,k6,k7,k8,Yp,q,XI,q3,q4,q5,q6,q7,q8,q9,a7,a6];exact fin _ _ hJ.sub a6 hve hvb hvo
   .have q4:=qF h1;rw[au (λh=>h1 h.2.1)];apply sR;simp only[go_sem,seval,k0,k1,k2,k6,k7,k8,Yp,q,XI,q3,q4,a7,a6];exact fin _ _ hJ.sub a6 hve hvb hvo
open Go.Proofs
def CN{L:List Int}{j:Nat}(hj:j<L.length)(h:∀i (h:i<L.length),j<i->¬(L[i]=3\/L[i]=4))(hf:L[j]=3\/L[j]=4):iW L=L[j]:=by
 have hL:L.take j++L[j]::L.drop (j+1)=L:=by rw[<-iT hj,rZ]
 have h2:∀x∈L.drop (j+1),¬(x=3\/x=4):=by
  intro x hx;obtain⟨i,hi,rfl⟩:=List.mem_iff_getElem.1 hx;rw[List.getElem_drop];rw[re]at hi;exact h _ (by omega) (by omega)
 have e:L.reverse.find? (λn=>decide (n=3\/n=4))=some L[j]:=by
  generalize L[j]=x at*;rw[<-hL,List.reverse_append,List.reverse_cons,lh,List.find?_append,List.find?_eq_none.2 (λy hy=>by simpa using h2 y (Lw.1 hy))];simp[hf]
 unfold iW;rw[e]
def DB{L:List Int}(h:∀i (h:i<L.length),¬(L[i]=3\/L[i]=4)):iW L=if 2∈L then 2 else 0:=by
 have e:L.reverse.find? (λn=>decide (n=3\/n=4))=none:=List.find?_eq_none.2 λy hy=>by
  obtain⟨i,hi,rfl⟩:=List.mem_iff_getElem.1 (Lw.1 hy);simpa using h i hi
 unfold iW;rw[e]
def EY{l:List Nd}{of:List Int}(Xt:∀x∈of,(0<=x/\x<l.length)/\kdI l x.toNat≠1)(k:Nat):(∀b∈(cq l of k).ends,∃n:Nat,b=n/\n<l.length)/\(∀b∈(cq l of k).YL,∃n:Nat,b=n/\n<l.length)/\∀b∈(cq l of k).both,∃n:Nat,b=n/\n<l.length:=by
 have h0:∀x∈of,0<=x/\x<l.length:=λx hx=>(Xt x hx).1;exact⟨oL h0,λb hb=>oL h0 b (Lw.1 hb),oL h0⟩
def EF{l:List Nd}(hn:l.length<=2000)(of:List Int)(k:Nat):(cq l of k).ends.length<=100001/\(cq l of k).YL.length<=100001/\(cq l of k).both.length<=100001:=by
 refine⟨lu (by omega),?_,lu (by omega)⟩;show(chR l of k _).reverse.length<=_;rw[List.length_reverse];exact lu (by omega)
def BJ(l:List Nd)(hb:Xh l=true)(hn:l.length<=2000)(of:List Int)(Yq:of.length<=1000000)(Xt:∀x∈of,(0<=x/\x<l.length)/\kdI l x.toNat≠1)(k:Nat)(hk:k<=of.length):
 aE prog 200 [ay l,aN of,vI k] (aN (gX l of k)):=λU=>by
 refine Wl.q ?_;have hs:=aa.refl U;have hkc:=Dc l hb hn of Yq Xt k hk;have XI:=cV of;obtain⟨gE,gB,-⟩:=EY Xt k;obtain⟨lE,lB,-⟩:=EF hn of k;unfold gX;refine ag.mix 12 ?_;by_cases he:k=of.length
 .have q:((k:Int)=of.length)=True:=L';rw[ak he];apply sR;simp only[go_sem,seval,NV,XI,q];exact(aq.start (e:=0) (sz:=1)).ni hs rfl
 .have q:((k:Int)=of.length)=False:=H';rw[au he];generalize cq l of k=x at*;obtain⟨E,B,C,tx⟩:=x;simp only at gE gB lE lB;have hlE:=cV E;have hlB:=cV B;apply sR;simp only[go_sem,seval,NV,XI,q];refine pS rfl (hkc _) ?_;simp only[go_sem,seval,ik];refine al hs λi8 Z8 s8 a8 f8 z8 hs=>?_;simp only[go_sem,seval,a8];generalize Yc:C' _ i8 _=Y8;replace a8:=XD Yc;replace hs:=Xz Yc hs z8;refine ag.loop (λm st=>∃i:Nat,i<=E.length/\m=E.length-i/\aa U st.U/\aq U st.U 3 1 (st.s 7) (((E.take i).map λb=>(Yw l b).after).map vI)/\st.U i8=some ⟨259,4,[.agg [aN E,aN B,aN C,vI tx]]⟩/\st.s 0=ay l/\st.s 8=.ptr i8 0 0/\st.s 9=vI i) E.length ?_ ?_
  .exact⟨0,by omega,rfl,hs,aq.start,a8,rfl,rfl,rfl⟩
  .clear a8 hs;rintro m ⟨S,J⟩ ⟨i,hi,rfl,hs,WR,a8,k0,k8,k9⟩;simp only at hs WR a8 k0 k8 k9;generalize ZD:S 7=v7 at WR;refine ag.mix 12 ?_;by_cases B':i<E.length
   .have q1:=qT B';have Xx:=λU=>de (U:=U) B';obtain⟨n,hen,Yb⟩:=gE _ (Xo B');have W4:=GG (l:=l) B';rw[hen]at Xx W4;rw[eG Yb]at W4;have XO:=λU=>bI (U:=U) (l:=l) (a:=n) Yb;have r1:=rI i;have Yd:(((E.take i).map λb=>(Yw l b).after).map vI).length=i:=by simp;omega
    have W1:(i+1)*9<=140737488355328:=by omega
    generalize l[n]=nd at*;apply sR;simp only[go_sem,seval,k0,k8,k9,ZD,a8,q1,hlE,Xx,XO,Nd.cells];refine aj λi38 Z38 s38 a38 f38=>?_;obtain⟨idA,Xg,hdv,XG,WK⟩:=WR.mM s38;have b8:=(XG i8 (WR.ck a8 (by simp)) Z38).trans (s38 _ _ a8);simp only[go_sem,seval,Xg,bl a38,Yd,W1];refine aX λi39 Z39 s39 a39 f39=>?_;have k39:=(WK U (aa.refl U) Z38 (hs.trans s38)).trans s39;have n39:U i39=none:=(hs.trans s38).none f39;have c8:=s39 _ _ b8;simp only[go_sem,seval,k0,k8,k9,r1,c8];refine⟨_,by omega,i+1,by omega,rfl,k39,?_,by simp⟩;rw[W4,cX];exact aq.new (by simp;omega) a39 n39
   .have q1:=qF B';obtain rfl:i=E.length:=by omega
    rw[dR]at WR;apply sR;simp only[go_sem,seval,k8,k9,a8,q1,hlE];generalize hAE:(E.map λb=>(Yw l b).after)=AE at*;have hAl:AE.length<=100001:=by rw[<-hAE,cJ];exact lE
    have XV:Cy l ⟨E,B,C,tx⟩=AE++B.flatMap (ic l):=by rw[<-hAE];rfl
    rw[XV];refine ag.loop (λm st=>∃i:Nat,i<=B.length/\m=B.length-i/\aa U st.U/\aq U st.U 3 1 (st.s 7) ((AE++(B.take i).flatMap (ic l)).map vI)/\st.U i8=some ⟨259,4,[.agg [aN E,aN B,aN C,vI tx]]⟩/\st.s 0=ay l/\st.s 8=.ptr i8 0 0/\st.s 10=vI i) B.length ?_ ?_
    .exact⟨0,by omega,rfl,hs,by rw[List.take_zero,List.flatMap_nil,iN];show aq _ _ _ _ (S 7) _;rw[ZD];exact WR,a8,k0,k8,rfl⟩
    .clear a8 hs WR k0 k8 k9 ZD hi;rintro m ⟨S,J⟩ ⟨i,hi,rfl,hs,WR,a8,k0,k8,Zs⟩;simp only at hs WR a8 k0 k8 Zs;generalize ZD:S 7=v7 at WR;refine ag.mix 12 ?_;by_cases B':i<B.length
     .have q1:=qT B';have Xx:=λU=>de (U:=U) B';obtain⟨n,hen,Yb⟩:=gB _ (Xo B');have W4:=F8 (l:=l) B';rw[hen]at Xx W4;have XO:=λU=>bI (U:=U) (l:=l) (a:=n) Yb;have hbg:ic l (n:Int)=(if 0<l[n].st.head then[2]else[])++[l[n].st.before]:=by unfold ic;rw[eG Yb]
      rw[hbg]at W4;have r1:=rI i;have hll:((B.take i).flatMap (ic l)).length<=2*i:=jP (xg _ (Cm l) _) (by rw[jb];omega);have Yd:((AE++(B.take i).flatMap (ic l)).map vI).length=(AE++(B.take i).flatMap (ic l)).length:=by simp
      have hlb:(AE++(B.take i).flatMap (ic l)).length<=400000:=by rw[gn];omega
      have hRn:AE++(B.take (i+1)).flatMap (ic l)=(AE++(B.take i).flatMap (ic l))++((if 0<l[n].st.head then[2]else[])++[l[n].st.before]):=by rw[W4,lh]
      generalize AE++(B.take i).flatMap (ic l)=R at*;have W1:(R.length+1)*9<=140737488355328:=by omega
      generalize l[n]=nd at*;have Xn:=hs;replace hs:=aa.refl J;apply sR;simp only[go_sem,seval,k0,k8,Zs,a8,q1,hlB,Xx,XO,Nd.cells];refine al hs λi11 Z11 s11 XF f11 z11 hs=>?_;obtain⟨n811,a8⟩:=WG a8 f11 s11;have hout1:=(WR.mono s11)
      by_cases hd:nd.st.head>0
      .have q2:(nd.st.head>0)=True:=L' hd;simp only[go_sem,seval,ZD,XF,q2];generalize Xs:C' Z11 i11 _=Y11;have a11':=(congrFun Xs i11).symm.trans af;have a8':=((congrFun Xs i8).symm.trans (ab n811)).trans a8;have hout2:aq U Y11 3 1 v7 (R.map vI):=by rw[<-Xs];exact hout1.bH XF (by simp)
       have X7:aa U Y11:=by rw[<-Xs];exact(Xn.trans s11).ao ((Xn.trans (aa.refl J)).none z11)
       clear Xs;refine aj λi60 Z60 s60 a60 f60=>?_;obtain⟨idA,Xg,hdv,XG,WK⟩:=hout2.mM s60;have b8:=(XG i8 (hout2.ck a8' (by simp)) Z60).trans (s60 _ _ a8');have b11:=(XG i11 (hout2.ck a11' (by simp)) Z60).trans (s60 _ _ a11');simp only[go_sem,seval,Xg,bl a60,Yd,W1];refine aX λi61 Z61 s61 a61 f61=>?_;have k61:=(WK U (aa.refl U) Z60 (X7.trans s60)).trans s61;have n61:U i61=none:=(X7.trans s60).none f61;have c8:=s61 _ _ b8;have c11:=s61 _ _ b11;have hout3:aq U Z61 3 1 (.own i61 0 (R.length+1)) ((R++[2]).map vI):=aq.new (by simp) (by rw[a61,cX];rfl) n61;have hlm3:((R++[(2:Int)]).map vI).length=R.length+1:=by simp
       have hb3:(R.length+1+1)*9<=140737488355328:=by omega
       simp only[go_sem,seval,c11];refine aj λi65 Z65 s65 a65 f65=>?_;obtain⟨idB,hdb,hdvB,hdB1,hdelB⟩:=hout3.mM s65;have d8:=(hdB1 i8 (hout3.ck c8 (by simp)) Z65).trans (s65 _ _ c8);simp only[go_sem,seval,hdb,bl a65,hlm3,hb3];refine aX λi66 Z66 s66 a66 f66=>?_;have k66:=(hdelB U (aa.refl U) Z65 (k61.trans s65)).trans s66;have n66:U i66=none:=(k61.trans s65).none f66;have e8:=s66 _ _ d8;simp only[go_sem,seval,k0,k8,Zs,r1,e8];refine⟨_,by omega,i+1,by omega,rfl,k66,?_,by simp⟩;rw[hRn,ak hd];exact aq.new (by simp) (by rw[a66];simp) n66
      .have q2:(nd.st.head>0)=False:=H' hd;simp only[go_sem,seval,ZD,XF,q2];generalize Xs:C' Z11 i11 _=Y11;have a8':=((congrFun Xs i8).symm.trans (ab n811)).trans a8;have hout2:aq U Y11 3 1 v7 (R.map vI):=by rw[<-Xs];exact hout1.bH XF (by simp)
       have X7:aa U Y11:=by rw[<-Xs];exact(Xn.trans s11).ao ((Xn.trans (aa.refl J)).none z11)
       clear Xs;refine aj λi65 Z65 s65 a65 f65=>?_;obtain⟨idB,hdb,hdvB,hdB1,hdelB⟩:=hout2.mM s65;have d8:=(hdB1 i8 (hout2.ck a8' (by simp)) Z65).trans (s65 _ _ a8');simp only[go_sem,seval,hdb,bl a65,Yd,W1];refine aX λi66 Z66 s66 a66 f66=>?_;have k66:=(hdelB U (aa.refl U) Z65 (X7.trans s65)).trans s66;have n66:U i66=none:=(X7.trans s65).none f66;have e8:=s66 _ _ d8;simp only[go_sem,seval,k0,k8,Zs,r1,e8];refine⟨_,by omega,i+1,by omega,rfl,k66,?_,by simp⟩;rw[hRn,au (by omega),jE];exact aq.new (by simp) (by rw[a66];simp) n66
     .have q1:=qF B';obtain rfl:i=B.length:=by omega
      rw[dR]at WR;apply sR;simp only[go_sem,seval,k8,Zs,ZD,a8,q1,hlB];exact WR.ni hs rfl
open Go.Proofs
def N0(l:List Nd)(hb:Xh l=true)(hn:l.length<=2000)(of:List Int)(Yq:of.length<=1000000)(Xt:∀x∈of,(0<=x/\x<l.length)/\kdI l x.toNat≠1)(k:Nat)(hk:k<=of.length):
 aE prog 149 [ay l,aN of,vI k] (vI (iO l of k)):=λU=>by
 refine Tw.q ?_;have hs:=aa.refl U;have hac:=BJ l hb hn of Yq Xt k hk;have hAl:=mv (l:=l) (by omega) of k;unfold iO;rw[yO _ _ rfl];generalize gX l of k=A at*;have hlA:=cV A;have r0:WI .i64 ((A.length:Int)-1):=ae;refine mS 10 ?_;simp only[go_sem,seval,Si];refine pS rfl (hac _) ?_;simp only[go_sem,seval,hlA,r0];refine ag.loop (λm st=>∃j:Nat,j<=A.length/\m=j/\(∀i (h:i<A.length),j<=i->¬(A[i]=3\/A[i]=4))/\st.U=U/\st.s 7=aN A/\st.s 8=vI ((j:Int)-1)) A.length ?_ ?_
 .exact⟨A.length,by omega,rfl,λi h h'=>by omega,rfl,rfl,rfl⟩
 .rintro m ⟨S,J⟩ ⟨j,hj,rfl,hz,WY,k7,k8⟩;simp only at WY k7 k8;subst WY;refine ag.mix 10 ?_;rcases Nat.eq_zero_or_pos m with rfl|XH
  .have q:(((0:Nat):Int)-1>=0)=False:=H';rw[DB λi h=>hz i h (by omega)];apply sR;simp only[go_sem,seval,k8];refine ag.loop (λm st=>∃i:Nat,i<=A.length/\m=A.length-i/\2∉A.take i/\st.U=J/\st.s 7=aN A/\st.s 9=vI i) A.length ?_ ?_
   .exact⟨0,by omega,rfl,by simp,rfl,k7,rfl⟩
   .clear k7 k8;rintro m ⟨S,U⟩ ⟨i,hi,rfl,hz,WY,k7,k9⟩;simp only at WY k7 k9;subst WY;refine ag.mix 10 ?_;by_cases B':i<A.length
    .have q1:=qT B';have Xx:=λU=>de (U:=U) B';have hmem:A[i]∈A:=Xo B';have W4:A.take (i+1)=A.take i++[A[i]]:=Yz B';have r1:=rI i;generalize A[i]=x at*;by_cases hx:x=2
     .have q2:(x=2)=True:=L' hx;rw[ak (by rw[<-hx];exact hmem)];apply sR;simp only[go_sem,seval,k7,k9,q1,hlA,Xx,q2];exact ai.pure hs rfl
     .have q2:(x=2)=False:=H' hx;apply sR;simp only[go_sem,seval,k7,k9,q1,hlA,Xx,q2,r1];refine⟨_,by omega,i+1,by omega,rfl,?_,by simp[vI]⟩;rw[W4];simp only[dH,ja,not_or];exact⟨hz,λh=>hx h.symm⟩
    .have q1:=qF B';obtain rfl:i=A.length:=by omega
     rw[dR]at hz;rw[au hz];apply sR;simp only[go_sem,seval,k7,k9,q1,hlA];exact ai.pure hs rfl
  .obtain⟨j,rfl⟩:∃j,m=j+1:=⟨m-1,by omega⟩
   have e1:(((j+1:Nat):Int)-1)=j:=by omega
   rw[e1]at k8;have q:((j:Int)>=0)=True:=L';have B':j<A.length:=by omega
   have Xx:=λU=>de (U:=U) B';have Yg:=CN B' (λi h h'=>hz i h (by omega));have r1:WI .i64 ((j:Int)-1):=ae;generalize hx:A[j]=x at*;by_cases h3:x=3
   .have q3:(x=3)=True:=L' h3;rw[Yg (.inl h3)];apply sR;simp only[go_sem,seval,k7,k8,q,Xx,q3];exact ai.pure hs rfl
   .have q3:(x=3)=False:=H' h3;by_cases h4:x=4
    .have q4:(x=4)=True:=L' h4;rw[Yg (.inr h4)];apply sR;simp only[go_sem,seval,k7,k8,q,Xx,q3,q4];exact ai.pure hs rfl
    .have q4:(x=4)=False:=H' h4;apply sR;simp only[go_sem,seval,k7,k8,q,Xx,q3,q4,r1];refine⟨_,by omega,j,by omega,rfl,λi h h'=>?_,by simp[vI]⟩;by_cases e:i=j
     .subst e;rw[hx];omega
     .exact hz i h (by omega)
def wM(f:Nat->Int)(i:Nat):((List.range (i+1)).map f).map vI=((List.range i).map f).map vI++[vI (f i)]:=by
 rw[List.range_succ,cX,cX];rfl
def KU(l:List Nd)(hb:Xh l=true)(hn:l.length<=2000)(of:List Int)(Yq:of.length<=1000000)(Xt:∀x∈of,(0<=x/\x<l.length)/\kdI l x.toNat≠1):
 aE prog 95 [ay l,aN of] (aN (th l of)):=λU=>by
 refine e95.q ?_;have hs:=aa.refl U;have hac:=λk hk=>N0 l hb hn of Yq Xt k hk;have XI:=cV of;unfold th;generalize iO l of=F at*;generalize hX:aN ((List.range (of.length+1)).map F)=X;refine mS 7 ?_;simp only[go_sem,seval,c95];refine ag.loop (λm st=>∃i:Nat,i<=of.length+1/\m=of.length+1-i/\aa U st.U/\aq U st.U 3 1 (st.s 5) (((List.range i).map F).map vI)/\st.s 0=ay l/\st.s 1=aN of/\st.s 6=vI i) (of.length+1) ?_ ?_
 .exact⟨0,by omega,rfl,hs,aq.start,rfl,rfl,rfl⟩
 .clear hs;rintro m ⟨S,J⟩ ⟨i,hi,rfl,hs,WR,k0,k1,k6⟩;simp only at hs WR k0 k1 k6;generalize hv5:S 5=v5 at WR;refine ag.mix 7 ?_;by_cases B':i<=of.length
  .have q:((i:Int)<=of.length)=True:=L';have r1:=rI i;have Yd:(((List.range i).map F).map vI).length=i:=by simp
   have W1:(i+1)*9<=140737488355328:=by omega
   apply sR;simp only[go_sem,seval,k0,k1,k6,hv5,q,XI];refine pS rfl (hac i B' _) ?_;simp only[go_sem,seval];refine aj λi38 Z38 s38 a38 f38=>?_;obtain⟨idA,Xg,WK⟩:=WR.dst s38;simp only[go_sem,seval,Xg,bl a38,Yd,W1];refine aX λi39 Z39 s39 a39 f39=>?_;have k39:=(WK U (aa.refl U) Z38 (hs.trans s38)).trans s39;have n39:U i39=none:=(hs.trans s38).none f39;simp only[go_sem,seval,k0,k1,k6,r1];refine⟨_,by omega,i+1,by omega,rfl,k39,?_,by simp⟩;rw[wM];exact aq.new (by simp) a39 n39
  .have q:((i:Int)<=of.length)=False:=H';obtain rfl:i=of.length+1:=by omega
   apply sR;simp only[go_sem,seval,k1,k6,hv5,q,XI];exact WR.ni hs hX
open Go.Proofs
def Ii(l:List Nd)(hb:Xh l=true)(hn:l.length<=2000)(of:List Int)(Yq:of.length<=1000000)(Xt:∀x∈of,(0<=x/\x<l.length)/\kdI l x.toNat≠1)(k:Nat)(hk:k<=of.length):
 aE prog 202 [ay l,aN of,vI k] (.WC [vI (jw of (cq l of k).text k).1,vI (jw of (cq l of k).text k).2]):=λU=>by
 refine U7.q ?_;have hs:=aa.refl U;have hkc:=Dc l hb hn of Yq Xt k hk;have XI:=cV of;generalize cq l of k=x at*;obtain⟨E,B,C,t⟩:=x;simp only at hkc|-;refine mS 13 ?_;simp only[go_sem,seval,Qn];refine pR rfl (hkc _) ?_;unfold jw;by_cases ht:t<0
 .have q:(t<0)=True:=L' ht;rw[ak ht];apply sR;simp only[go_sem,seval,ik,q];exact ai.pure hs rfl
 .have q:(t<0)=False:=H' ht;rw[au ht];apply sR;simp only[go_sem,seval,ik,q];refine ag.loop (λm st=>∃i:Nat,i<=k/\m=k-i/\st.U=U/\st.s 1=aN of/\st.s 2=vI k/\st.s 8=vI t/\st.s 9=vI (fI of t k i).1/\st.s 10=vI 0/\st.s 11=vI i) k ?_ ?_
  .exact⟨0,by omega,rfl,rfl,rfl,rfl,rfl,rfl,rfl,rfl⟩
  .rintro m ⟨S,J⟩ ⟨i,hi,rfl,WY,k1,k2,k8,k9,Zs,ZM⟩;simp only at WY k1 k2 k8 k9 Zs ZM;subst WY;refine ag.mix 13 ?_;by_cases B':i<k
   .have q1:((i:Int)<k)=True:=L';have Yv:i<of.length:=by omega
    have Xx:=λU=>de (U:=U) Yv;have hgd:of.getD i 0=of[i]:=by simp[Yv]
    have WM:fI of t k (i+1)=if of.getD i 0=t then if i<k then((fI of t k i).1+1,(fI of t k i).2)else((fI of t k i).1,(fI of t k i).2+1)else fI of t k i:=rfl
    rw[hgd,ak B']at WM;have hle:=(uB of t k i).1;have r1:=rI i;have r2:WI .i64 (((fI of t k i).1:Int)+1):=ae;generalize of[i]=y at*;by_cases hy:y=t
    .have q2:(y=t)=True:=L' hy;rw[ak hy]at WM;apply sR;simp only[go_sem,seval,k1,k2,k8,k9,Zs,ZM,q1,Xx,q2,r1,r2];exact⟨_,by omega,i+1,by omega,rfl,by simp[WM,vI]⟩
    .have q2:(y=t)=False:=H' hy;rw[au hy]at WM;apply sR;simp only[go_sem,seval,k1,k2,k8,k9,Zs,ZM,q1,Xx,q2,r1];exact⟨_,by omega,i+1,by omega,rfl,by simp[WM,vI]⟩
   .have q1:((i:Int)<k)=False:=H';obtain rfl:i=k:=by omega
    have h0:=Bb (of:=of) (t:=t) i (Xc _);apply sR;simp only[go_sem,seval,k2,ZM,q1];refine ag.loop (λm st=>∃j:Nat,i<=j/\j<=of.length/\m=of.length-j/\st.U=J/\st.s 1=aN of/\st.s 8=vI t/\st.s 9=vI (fI of t i j).1/\st.s 10=vI (fI of t i j).2/\st.s 12=vI j) (of.length-i) ?_ ?_
    .exact⟨i,by omega,by omega,rfl,rfl,k1,k8,k9,by rw[h0];exact Zs,rfl⟩
    .clear k1 k2 k8 k9 Zs ZM;rintro m ⟨S,U⟩ ⟨j,hij,hj,rfl,WY,k1,k8,k9,Zs,Zi⟩;simp only at WY k1 k8 k9 Zs Zi;subst WY;refine ag.mix 13 ?_;by_cases B':j<of.length
     .have q2:=qT B';have Xx:=λU=>de (U:=U) B';have hgd:of.getD j 0=of[j]:=by simp[B']
      have WM:fI of t i (j+1)=if of.getD j 0=t then if j<i then((fI of t i j).1+1,(fI of t i j).2)else((fI of t i j).1,(fI of t i j).2+1)else fI of t i j:=rfl
      rw[hgd,au (show¬j<i by omega)]at WM;have hle:=(uB of t i j).2;have r1:=rI j;have r2:WI .i64 (((fI of t i j).2:Int)+1):=ae;generalize of[j]=y at*;by_cases hy:y=t
      .have q3:(y=t)=True:=L' hy;rw[ak hy]at WM;apply sR;simp only[go_sem,seval,k1,k8,k9,Zs,Zi,XI,q2,Xx,q3,r1,r2];exact⟨_,by omega,j+1,by omega,by omega,rfl,by simp[WM,vI]⟩
      .have q3:(y=t)=False:=H' hy;rw[au hy]at WM;apply sR;simp only[go_sem,seval,k1,k8,k9,Zs,Zi,XI,q2,Xx,q3,r1];exact⟨_,by omega,j+1,by omega,by omega,rfl,by simp[WM,vI]⟩
     .have q2:=qF B';obtain rfl:j=of.length:=by omega
      apply sR;simp only[go_sem,seval,k1,k9,Zs,Zi,XI,q2];exact ai.pure hs rfl
open Go.Proofs
def Ny(l:List Nd)(hb:Xh l=true)(hn:l.length<=2000)(of:List Int)(Yq:of.length<=1000000)(Xt:∀x∈of,(0<=x/\x<l.length)/\kdI l x.toNat≠1)(k:Nat)(hk:k<=of.length):
 aE prog 150 [ay l,aN of,vI k] (vI (mC l of k)):=λU=>by
 refine U2.q ?_;have hs:=aa.refl U;have hkc:=Dc l hb hn of Yq Xt k hk;have hlc:=Ii l hb hn of Yq Xt k hk;have hac:=BJ l hb hn of Yq Xt k hk;have hAl:=mv (l:=l) (by omega) of k;have XI:=cV of;obtain⟨-,-,gO⟩:=EY Xt k;obtain⟨-,-,lO⟩:=EF hn of k;have htx:=Cx (λx hx=>(Xt x hx).1) k;rw[KL];have hwi:∀b∈(cq l of k).both,0<=(Yw l b).inside/\(Yw l b).inside<=1:=λb ZV=>by
  obtain⟨n,rfl,Yb⟩:=gO b ZV;rw[eG Yb];exact(ec hb Yb).st.inside
 have hins:=Ml hwi;rw[<-hins];have hfw:(if Fm l of (cq l of k).text k=true then(1:Int)else 0)=if 0<=(cq l of k).text/\(((jw of (cq l of k).text k).1:Int)<(jA l (cq l of k).text).WE\/((jw of (cq l of k).text k).2:Int)<(jA l (cq l of k).text).WW)then 1 else 0:=by
  unfold Fm;by_cases h:(cq l of k).text<0
  .rw[ak h,au (by simp),au (λh'=>by omega)]
  .rw[au h];simp only[YX,show(0<=(cq l of k).text)=True from L',true_and]
 rw[hfw];have hpc:=λ(a:Nat) (ha:a<l.length)=>B6 l (by omega) a ha;have hI:0<=oQ l (cq l of k).both/\oQ l (cq l of k).both<=1:=by rw[hins];split<;>omega
 clear hfw hins;generalize cq l of k=x at*;obtain⟨E,B,O,t⟩:=x;simp only at gO lO htx hwi hkc hlc hI|-;have hlO:=cV O;generalize gX l of k=A at*;have hlA:=cV A;generalize jw of t k=X at*;obtain⟨a,b⟩:=X;simp only at hlc|-;refine ag.mix 19 ?_;by_cases h0:k=0\/k=of.length
 .rw[ak h0];by_cases h1:k=0
  .have q0:((k:Int)=0)=True:=L';apply sR;simp only[go_sem,seval,KS,q0];exact ai.pure hs rfl
  .have q0:((k:Int)=0)=False:=H';have q1:((k:Int)=of.length)=True:=L';apply sR;simp only[go_sem,seval,KS,XI,q0,q1];exact ai.pure hs rfl
 rw[au h0];obtain⟨ANS,hANS⟩:∃z,z=(if 0<=t/\((a:Int)<(jA l t).WE\/(b:Int)<(jA l t).WW)then(1:Int)else 0)+2*oQ l O+4*(if 1∈A then 1 else 0):=⟨_,rfl⟩
 rw[<-hANS];have q0:((k:Int)=0)=False:=H';have q1:((k:Int)=of.length)=False:=H';apply sR;simp only[go_sem,seval,KS,XI,q0,q1];refine pS rfl (hkc _) ?_;simp only[go_sem,seval,ik];refine al hs λi7 Z7 s7 a7 f7 z7 hs=>?_;by_cases ht:t<0
 case' pos=>
  have q2:(t>=0)=False:=H';generalize hsl:jA l t=sd at*;obtain⟨sm,hsm⟩:∃sm:Int,sm=0:=⟨0,rfl⟩
  have eI:(if 0<=t/\((a:Int)<sd.WE\/(b:Int)<sd.WW)then(1:Int)else 0)=sm:=by rw[hsm,au (λh=>by omega)]
  simp only[go_sem,seval,a7,q2];generalize Yl:C' _ i7 _=Y7;replace a7:=XD Yl;replace hs:=Xz Yl hs z7
 case' neg=>
  have q2:(t>=0)=True:=L';obtain⟨n,hnt⟩:∃n:Nat,t=n:=⟨t.toNat,by omega⟩
  have hpn:=hpc n (by omega);have hpr:=dU l n;have hsd:jA l t=if 0<=db l n then Yw l (db l n)else pz:=by unfold jA;rw[hnt];rfl
  rw[<-hnt]at hpn;simp only[go_sem,seval,a7,q2];generalize Yl:C' _ i7 _=Y7;replace a7:=XD Yl;replace hs:=Xz Yl hs z7;apply sR;simp only[go_sem,seval];refine pR rfl (hpn _) ?_;generalize db l n=pr at*;rcases Decidable.em (pr>=0)with hp|hp
  case' inl=>
   have q3:(pr>=0)=True:=L' hp;obtain⟨m,rfl⟩:∃m:Nat,pr=m:=⟨pr.toNat,by omega⟩
   have hml:m<l.length:=by omega
   have XO:=λU=>bI (U:=U) (l:=l) (a:=m) hml;rw[show jA l t=l[m].st by rw[hsd,ak (by omega),eG hml]]at hANS;apply sR;simp only[go_sem,seval,q3,XO,Nd.cells];generalize l[m].st=sd at*;refine pR rfl (hlc _) ?_;by_cases ha:(a:Int)<sd.WE
   case' pos=>
    have q4:((a:Int)<sd.WE)=True:=L' ha;obtain⟨sm,hsm⟩:∃sm:Int,sm=1:=⟨1,rfl⟩
    have eI:(if 0<=t/\((a:Int)<sd.WE\/(b:Int)<sd.WW)then(1:Int)else 0)=sm:=by rw[hsm];exact ak ⟨by omega,.inl ha⟩
    apply sR;simp only[go_sem,seval,q4]
   case' neg=>
    have q4:((a:Int)<sd.WE)=False:=H' ha;by_cases hbw:(b:Int)<sd.WW
    case' pos=>
     have q5:((b:Int)<sd.WW)=True:=L' hbw;obtain⟨sm,hsm⟩:∃sm:Int,sm=1:=⟨1,rfl⟩
     have eI:(if 0<=t/\((a:Int)<sd.WE\/(b:Int)<sd.WW)then(1:Int)else 0)=sm:=by rw[hsm];exact ak ⟨by omega,.inr hbw⟩
     apply sR;simp only[go_sem,seval,q4,q5]
    case' neg=>
     have q5:((b:Int)<sd.WW)=False:=H' hbw;obtain⟨sm,hsm⟩:∃sm:Int,sm=0:=⟨0,rfl⟩
     have eI:(if 0<=t/\((a:Int)<sd.WE\/(b:Int)<sd.WW)then(1:Int)else 0)=sm:=by rw[hsm];exact au (λh=>by omega)
     apply sR;simp only[go_sem,seval,q4,q5]
  case' inr=>
   have q3:(pr>=0)=False:=H' hp;rw[show jA l t=pz by rw[hsd,au (by omega)]]at hANS;generalize hsl:pz=sd at hANS;have e1:sd.WE=2:=by rw[<-hsl];rfl
   have e2:sd.WW=2:=by rw[<-hsl];rfl
   apply sR;simp only[go_sem,seval,q3];refine pR rfl (hlc _) ?_;by_cases ha:(a:Int)<sd.WE
   case' pos=>
    have q4:((a:Int)<2)=True:=L';obtain⟨sm,hsm⟩:∃sm:Int,sm=1:=⟨1,rfl⟩
    have eI:(if 0<=t/\((a:Int)<sd.WE\/(b:Int)<sd.WW)then(1:Int)else 0)=sm:=by rw[hsm];exact ak ⟨by omega,.inl ha⟩
    apply sR;simp only[go_sem,seval,q4]
   case' neg=>
    have q4:((a:Int)<2)=False:=H';by_cases hbw:(b:Int)<sd.WW
    case' pos=>
     have q5:((b:Int)<2)=True:=L';obtain⟨sm,hsm⟩:∃sm:Int,sm=1:=⟨1,rfl⟩
     have eI:(if 0<=t/\((a:Int)<sd.WE\/(b:Int)<sd.WW)then(1:Int)else 0)=sm:=by rw[hsm];exact ak ⟨by omega,.inr hbw⟩
     apply sR;simp only[go_sem,seval,q4,q5]
    case' neg=>
     have q5:((b:Int)<2)=False:=H';obtain⟨sm,hsm⟩:∃sm:Int,sm=0:=⟨0,rfl⟩
     have eI:(if 0<=t/\((a:Int)<sd.WE\/(b:Int)<sd.WW)then(1:Int)else 0)=sm:=by rw[hsm];exact au (λh=>by omega)
     apply sR;simp only[go_sem,seval,q4,q5]
 all_goals
  clear hlc;rw[eI]at hANS;clear eI;have hsm1:0<=sm/\sm<=1:=by omega
  refine ag.loop (λm st=>∃i:Nat,i<=O.length/\m=O.length-i/\aa U st.U/\st.U i7=some ⟨259,4,[.agg [aN E,aN B,aN O,vI t]]⟩/\st.s 0=ay l/\st.s 1=aN of/\st.s 2=vI k/\st.s 7=.ptr i7 0 0/\st.s 8=vI sm/\st.s 14=vI (oQ l (O.take i))/\st.s 15=vI i) O.length ?_ ?_
  .exact⟨0,by omega,rfl,hs,a7,rfl,rfl,rfl,rfl,by rw[hsm];rfl,rfl,rfl⟩
  .clear hs a7;rintro m ⟨S,J⟩ ⟨i,hi,rfl,hs,a7,k0,k1,k2,k7,k8,k14,k15⟩;simp only at hs a7 k0 k1 k2 k7 k8 k14 k15;refine ag.mix 19 ?_;by_cases B':i<O.length
   .have u1:=qT B';have Xx:=λU=>de (U:=U) B';obtain⟨n,hen,Yb⟩:=gO _ (Xo B');have W4:=Fl (l:=l) B';rw[hen]at Xx W4;rw[eG Yb]at W4;have XO:=λU=>bI (U:=U) (l:=l) (a:=n) Yb;have r1:=rI i;generalize l[n]=nd at*;apply sR;simp only[go_sem,seval,k0,k1,k2,k7,k8,k14,k15,a7,u1,hlO,Xx,XO,Nd.cells,cg,r1];exact⟨_,by omega,i+1,by omega,rfl,hs,by simp[W4,vI]⟩
   .have u1:=qF B';obtain rfl:i=O.length:=by omega
    rw[dR]at k14;apply sR;simp only[go_sem,seval,k0,k1,k2,k7,k15,a7,u1,hlO];refine pS rfl (hac _) ?_;simp only[go_sem,seval];refine ag.loop (λm st=>∃i:Nat,i<=A.length/\m=A.length-i/\aa U st.U/\st.s 8=vI sm/\st.s 14=vI (oQ l O)/\st.s 16=vI (vX (A.take i))/\st.s 17=aN A/\st.s 18=vI i) A.length ?_ ?_
    .exact⟨0,by omega,rfl,hs,k8,k14,rfl,rfl,rfl⟩
    .clear hs k0 k1 k2 k7 k8 k14 k15 hi hac;rintro m ⟨S,J⟩ ⟨i,hi,rfl,hs,k8,k14,k16,k17,k18⟩;simp only at hs k8 k14 k16 k17 k18;refine ag.mix 19 ?_;by_cases B':i<A.length
     .have u1:=qT B';have Xx:=λU=>de (U:=U) B';have W4:=Fp B';have r1:=rI i;generalize A[i]=y at*;by_cases hy:y=1
      .have u2:(y=1)=True:=L' hy;rw[ak hy]at W4;apply sR;simp only[go_sem,seval,k8,k14,k17,k18,u1,hlA,Xx,u2,r1];exact⟨_,by omega,i+1,by omega,rfl,hs,by simp[W4,vI]⟩
      .have u2:(y=1)=False:=H' hy;rw[au hy]at W4;apply sR;simp only[go_sem,seval,k8,k14,k16,k17,k18,u1,hlA,Xx,u2,r1];exact⟨_,by omega,i+1,by omega,rfl,hs,by simp[W4,vI]⟩
     .have u1:=qF B';obtain rfl:i=A.length:=by omega
      rw[dR]at k16;have hh:vX A=0\/vX A=1:=by unfold vX;split<;>simp
      rw[show(if 1∈A then(1:Int)else 0)=vX A from rfl]at hANS;have r1:WI .i64 (2*oQ l O):=ae;have r2:WI .i64 (sm+2*oQ l O):=ae;have r3:WI .i64 (4*vX A):=ae;have r4:WI .i64 (sm+2*oQ l O+4*vX A):=ae;generalize vX A=q at*;generalize oQ l O=w at*;apply sR;simp only[go_sem,seval,k8,k14,k16,k17,k18,u1,hlA,r1,r2,r3,r4];exact ai.pure hs (by rw[hANS])
open Go.Proofs
def Kx(l:List Nd)(hb:Xh l=true)(hn:l.length<=2000)(of:List Int)(Yq:of.length<=1000000)(Xt:∀x∈of,(0<=x/\x<l.length)/\kdI l x.toNat≠1):
 aE prog 96 [ay l,aN of] (aN (tv l of)):=λU=>by
 refine e96.q ?_;have hs:=aa.refl U;have hac:=λk hk=>Ny l hb hn of Yq Xt k hk;have XI:=cV of;unfold tv;generalize mC l of=F at*;generalize hX:aN ((List.range (of.length+1)).map F)=X;refine mS 7 ?_;simp only[go_sem,seval,c96];refine ag.loop (λm st=>∃i:Nat,i<=of.length+1/\m=of.length+1-i/\aa U st.U/\aq U st.U 3 1 (st.s 5) (((List.range i).map F).map vI)/\st.s 0=ay l/\st.s 1=aN of/\st.s 6=vI i) (of.length+1) ?_ ?_
 .exact⟨0,by omega,rfl,hs,aq.start,rfl,rfl,rfl⟩
 .clear hs;rintro m ⟨S,J⟩ ⟨i,hi,rfl,hs,WR,k0,k1,k6⟩;simp only at hs WR k0 k1 k6;generalize hv5:S 5=v5 at WR;refine ag.mix 7 ?_;by_cases B':i<=of.length
  .have q:((i:Int)<=of.length)=True:=L';have r1:=rI i;have Yd:(((List.range i).map F).map vI).length=i:=by simp
   have W1:(i+1)*9<=140737488355328:=by omega
   apply sR;simp only[go_sem,seval,k0,k1,k6,hv5,q,XI];refine pS rfl (hac i B' _) ?_;simp only[go_sem,seval];refine aj λi38 Z38 s38 a38 f38=>?_;obtain⟨idA,Xg,WK⟩:=WR.dst s38;simp only[go_sem,seval,Xg,bl a38,Yd,W1];refine aX λi39 Z39 s39 a39 f39=>?_;have k39:=(WK U (aa.refl U) Z38 (hs.trans s38)).trans s39;have n39:U i39=none:=(hs.trans s38).none f39;simp only[go_sem,seval,k0,k1,k6,r1];refine⟨_,by omega,i+1,by omega,rfl,k39,?_,by simp⟩;rw[wM];exact aq.new (by simp) a39 n39
  .have q:((i:Int)<=of.length)=False:=H';obtain rfl:i=of.length+1:=by omega
   apply sR;simp only[go_sem,seval,k1,k6,hv5,q,XI];exact WR.ni hs hX
def Ku(l:List Nd)(hb:Xh l=true)(hn:l.length<=2000)(of:List Int)(Yq:of.length<=1000000)(Xt:∀x∈of,(0<=x/\x<l.length)/\kdI l x.toNat≠1):
 aE prog 43 [ay l,aN of] (aY (oU l of)):=λU=>by
 refine e43.q ?_;have hs:=aa.refl U;have hfc:=KU l hb hn of Yq Xt;have hrc:=Kx l hb hn of Yq Xt;have XI:=cV of;have hbkR:∀k,bkR l of k=⟨dj of k,iO l of k,if iO l of k=0 then mC l of k else 0⟩:=λ_=>rfl;unfold th at hfc;unfold tv at hrc;generalize hX:aY (oU l of)=X;generalize iO l of=F at*;generalize mC l of=R at*;refine mS 10 ?_;simp only[go_sem,seval,c43];refine pS rfl (hfc _) ?_;simp only[go_sem,seval];refine pS rfl (hrc _) ?_;simp only[go_sem,seval];clear hfc hrc;obtain⟨vF,hvF⟩:∃v,v=aN ((List.range (of.length+1)).map F):=⟨_,rfl⟩
 obtain⟨vR,hvR⟩:∃v,v=aN ((List.range (of.length+1)).map R):=⟨_,rfl⟩
 have hi5:∀j:Nat,j<of.length+1->∀U,bp U 1 vF (.int .i64 j)=some (.rp (vI (F j))):=λj h U=>by rw[hvF];exact E9 h
 have hi6:∀j:Nat,j<of.length+1->∀U,bp U 1 vR (.int .i64 j)=some (.rp (vI (R j))):=λj h U=>by rw[hvR];exact E9 h
 refine ag.loop (λm st=>∃j:Nat,j<=of.length+1/\m=of.length+1-j/\aa U st.U/\aq U st.U 102 3 (st.s 7) (((List.range j).map (bkR l of)).map bX)/\st.s 0=ay l/\st.s 1=aN of/\st.s 5=vF/\st.s 6=vR/\st.s 8=vI j) (of.length+1) ?_ ?_
 .exact⟨0,by omega,rfl,hs,aq.start,rfl,rfl,by rw[hvF,List.range_succ];rfl,by rw[hvR,List.range_succ];rfl,rfl⟩
 .clear hs hvF hvR;rintro m ⟨S,J⟩ ⟨j,hj,rfl,hs,WR,t0,t1,t5,t6,t8⟩;simp only at hs WR t0 t1 t5 t6 t8;generalize ZD:S 7=v7 at WR;refine ag.mix 10 ?_;by_cases B':j<=of.length
  .have q:((j:Int)<=of.length)=True:=L';have r1:=rI j;have W8:(((List.range (j+1)).map (bkR l of)).map bX)=(((List.range j).map (bkR l of)).map bX)++[bX (bkR l of j)]:=by
    rw[List.range_succ];simp
   have Yd:(((List.range j).map (bkR l of)).map bX).length=j:=by simp
   replace hi5:=hi5 j (by omega);replace hi6:=hi6 j (by omega);generalize ((List.range j).map (bkR l of)).map bX=rows at*;have Xn:=hs;replace hs:=aa.refl J;apply sR;simp only[go_sem,seval,t1,t5,t6,t8,XI,q,hi5,hi6];refine vS hs λi9 Z9 s9 a9 f9 _ hs=>?_;by_cases hz:F j=0
   .have q2:(F j≠0)=False:=H' (λh=>h hz);have hbk0:bX (bkR l of j)=.agg [vI (dj of j),vI (F j),vI (R j)]:=by rw[hbkR,ak hz];rfl
    rcases(show(j=0/\of.length=0)\/(j=0/\of.length≠0)\/(0<j/\j=of.length)\/(0<j/\j<of.length/\of.getD (j-1) 0=of.getD j 0)\/(0<j/\j<of.length/\of.getD (j-1) 0≠of.getD j 0) by
     by_cases e:of.getD (j-1) 0=of.getD j 0<;>simp only[e,ne_eq,not_true,not_false_eq_true,and_true,and_false]<;>omega)with⟨g1,g2⟩|⟨g1,g2⟩|⟨g1,g2⟩|⟨g1,g2,g3⟩|⟨g1,g2,g3⟩
    .have w1:((j:Int)>0)=False:=H';have w3:((j:Int)=of.length)=True:=L';have w4:((j:Int)=0)=True:=L';have Ze:bX (bkR l of j)=.agg [vI 0,vI (F j),vI (R j)]:=by rw[hbk0,show dj of j=0 by rw[dj,ak g1]]
     simp only[go_sem,seval,a9,t1,t5,ZD,t8,hi5,XI,q2,w1,w3,w4];generalize Xw:C' _ i9 _=Y9;have ZT:aa J Y9:=by rw[<-Xw];exact s9.ao f9
     clear Xw;refine aj λi58 Z58 YS a58 f58=>?_;obtain⟨idA,Xg,WK,XG,hd2⟩:=WR.mE (ZT.trans YS);have W1:(rows.length+1)*25<=140737488355328:=by omega
     simp only[go_sem,seval,Xg,bl a58,W1];refine aX λi59 Z59 s59 a59 f59=>?_;have k59:=(WK U (aa.refl _) Z58 (Xn.trans (ZT.trans YS))).trans s59;have n59:U i59=none:=(Xn.trans (ZT.trans YS)).none f59;simp only[go_sem,seval,t0,t1,t5,t6,t8,r1];refine⟨_,?_,j+1,by omega,rfl,k59,?_,by simp⟩
     .omega
     .rw[W8,Ze];exact aq.new (by simp) a59 n59
    .have w1:((j:Int)>0)=False:=H';have w3:((j:Int)=of.length)=False:=H';have w4:((j:Int)=0)=True:=L';have Ze:bX (bkR l of j)=.agg [vI 0,vI (F j),vI (R j)]:=by rw[hbk0,show dj of j=0 by rw[dj,ak g1]]
     simp only[go_sem,seval,a9,t1,t5,ZD,t8,hi5,XI,q2,w1,w3,w4];generalize Xw:C' _ i9 _=Y9;have ZT:aa J Y9:=by rw[<-Xw];exact s9.ao f9
     clear Xw;refine aj λi58 Z58 YS a58 f58=>?_;obtain⟨idA,Xg,WK,XG,hd2⟩:=WR.mE (ZT.trans YS);have W1:(rows.length+1)*25<=140737488355328:=by omega
     simp only[go_sem,seval,Xg,bl a58,W1];refine aX λi59 Z59 s59 a59 f59=>?_;have k59:=(WK U (aa.refl _) Z58 (Xn.trans (ZT.trans YS))).trans s59;have n59:U i59=none:=(Xn.trans (ZT.trans YS)).none f59;simp only[go_sem,seval,t0,t1,t5,t6,t8,r1];refine⟨_,?_,j+1,by omega,rfl,k59,?_,by simp⟩
     .omega
     .rw[W8,Ze];exact aq.new (by simp) a59 n59
    .have w1:((j:Int)>0)=True:=L';have w2:((j:Int)<of.length)=False:=H';have w3:((j:Int)=of.length)=True:=L';have w4:((j:Int)=0)=False:=H';have Ze:bX (bkR l of j)=.agg [vI 3,vI (F j),vI (R j)]:=by rw[hbk0,show dj of j=3 by rw[dj,au (by omega),ak g2]]
     simp only[go_sem,seval,a9,t1,t5,ZD,t8,hi5,XI,q2,w1,w2,w3,w4];generalize Xw:C' _ i9 _=Y9;have ZT:aa J Y9:=by rw[<-Xw];exact s9.ao f9
     clear Xw;refine aj λi58 Z58 YS a58 f58=>?_;obtain⟨idA,Xg,WK,XG,hd2⟩:=WR.mE (ZT.trans YS);have W1:(rows.length+1)*25<=140737488355328:=by omega
     simp only[go_sem,seval,Xg,bl a58,W1];refine aX λi59 Z59 s59 a59 f59=>?_;have k59:=(WK U (aa.refl _) Z58 (Xn.trans (ZT.trans YS))).trans s59;have n59:U i59=none:=(Xn.trans (ZT.trans YS)).none f59;simp only[go_sem,seval,t0,t1,t5,t6,t8,r1];refine⟨_,?_,j+1,by omega,rfl,k59,?_,by simp⟩
     .omega
     .rw[W8,Ze];exact aq.new (by simp) a59 n59
    .have w1:((j:Int)>0)=True:=L';have w2:((j:Int)<of.length)=True:=L';have w3:((j:Int)=of.length)=False:=H';have w4:((j:Int)=0)=False:=H';have x1:=λU=>de (U:=U) (l:=of) (i:=j-1) (by omega);have x2:=λU=>de (U:=U) g2;have x3:((j:Int)-1)=((j-1:Nat):Int):=by omega
     have x4:=ae (m:=((j-1:Nat):Int)) (by omega) (by omega);have e1:of.getD j 0=of[j]:=by simp[g2]
     have e2:of.getD (j-1) 0=of[j-1]:=by have:j-1<of.length:=by omega
                                         simp[this]
     have w5:(of[j-1]=of[j])=True:=L' (by rw[<-e1,<-e2];exact g3);have Ze:bX (bkR l of j)=.agg [vI 2,vI (F j),vI (R j)]:=by rw[hbk0,show dj of j=2 by rw[dj,au (by omega),au (by omega),ak g3.symm]]
     simp only[go_sem,seval,a9,t1,t5,ZD,t8,hi5,XI,q2,w1,w2,w3,w4,x1,x2,x3,x4,w5];generalize Xw:C' _ i9 _=Y9;have ZT:aa J Y9:=by rw[<-Xw];exact s9.ao f9
     clear Xw;refine aj λi58 Z58 YS a58 f58=>?_;obtain⟨idA,Xg,WK,XG,hd2⟩:=WR.mE (ZT.trans YS);have W1:(rows.length+1)*25<=140737488355328:=by omega
     simp only[go_sem,seval,Xg,bl a58,W1];refine aX λi59 Z59 s59 a59 f59=>?_;have k59:=(WK U (aa.refl _) Z58 (Xn.trans (ZT.trans YS))).trans s59;have n59:U i59=none:=(Xn.trans (ZT.trans YS)).none f59;simp only[go_sem,seval,t0,t1,t5,t6,t8,r1];refine⟨_,?_,j+1,by omega,rfl,k59,?_,by simp⟩
     .omega
     .rw[W8,Ze];exact aq.new (by simp) a59 n59
    .have w1:((j:Int)>0)=True:=L';have w2:((j:Int)<of.length)=True:=L';have w3:((j:Int)=of.length)=False:=H';have w4:((j:Int)=0)=False:=H';have x1:=λU=>de (U:=U) (l:=of) (i:=j-1) (by omega);have x2:=λU=>de (U:=U) g2;have x3:((j:Int)-1)=((j-1:Nat):Int):=by omega
     have x4:=ae (m:=((j-1:Nat):Int)) (by omega) (by omega);have e1:of.getD j 0=of[j]:=by simp[g2]
     have e2:of.getD (j-1) 0=of[j-1]:=by have:j-1<of.length:=by omega
                                         simp[this]
     have w5:(of[j-1]=of[j])=False:=H' (by rw[<-e1,<-e2];exact g3);have Ze:bX (bkR l of j)=.agg [vI 1,vI (F j),vI (R j)]:=by rw[hbk0,show dj of j=1 by rw[dj,au (by omega),au (by omega),au (λh=>g3 h.symm)]]
     simp only[go_sem,seval,a9,t1,t5,ZD,t8,hi5,XI,q2,w1,w2,w3,w4,x1,x2,x3,x4,w5];generalize Xw:C' _ i9 _=Y9;have ZT:aa J Y9:=by rw[<-Xw];exact s9.ao f9
     clear Xw;refine aj λi58 Z58 YS a58 f58=>?_;obtain⟨idA,Xg,WK,XG,hd2⟩:=WR.mE (ZT.trans YS);have W1:(rows.length+1)*25<=140737488355328:=by omega
     simp only[go_sem,seval,Xg,bl a58,W1];refine aX λi59 Z59 s59 a59 f59=>?_;have k59:=(WK U (aa.refl _) Z58 (Xn.trans (ZT.trans YS))).trans s59;have n59:U i59=none:=(Xn.trans (ZT.trans YS)).none f59;simp only[go_sem,seval,t0,t1,t5,t6,t8,r1];refine⟨_,?_,j+1,by omega,rfl,k59,?_,by simp⟩
     .omega
     .rw[W8,Ze];exact aq.new (by simp) a59 n59
   .have q2:(F j≠0)=True:=L' hz;have hbk0:bX (bkR l of j)=.agg [vI (dj of j),vI (F j),vI (0)]:=by rw[hbkR,au hz];rfl
    rcases(show(j=0/\of.length=0)\/(j=0/\of.length≠0)\/(0<j/\j=of.length)\/(0<j/\j<of.length/\of.getD (j-1) 0=of.getD j 0)\/(0<j/\j<of.length/\of.getD (j-1) 0≠of.getD j 0) by
     by_cases e:of.getD (j-1) 0=of.getD j 0<;>simp only[e,ne_eq,not_true,not_false_eq_true,and_true,and_false]<;>omega)with⟨g1,g2⟩|⟨g1,g2⟩|⟨g1,g2⟩|⟨g1,g2,g3⟩|⟨g1,g2,g3⟩
    .have w1:((j:Int)>0)=False:=H';have w3:((j:Int)=of.length)=True:=L';have w4:((j:Int)=0)=True:=L';have Ze:bX (bkR l of j)=.agg [vI 0,vI (F j),vI (0)]:=by rw[hbk0,show dj of j=0 by rw[dj,ak g1]]
     simp only[go_sem,seval,a9,t1,t5,ZD,t8,hi5,XI,q2,w1,w3,w4];generalize Xw:C' _ i9 _=Y9;have ZT:aa J Y9:=by rw[<-Xw];exact s9.ao f9
     clear Xw;refine aj λi58 Z58 YS a58 f58=>?_;obtain⟨idA,Xg,WK,XG,hd2⟩:=WR.mE (ZT.trans YS);have W1:(rows.length+1)*25<=140737488355328:=by omega
     simp only[go_sem,seval,Xg,bl a58,W1];refine aX λi59 Z59 s59 a59 f59=>?_;have k59:=(WK U (aa.refl _) Z58 (Xn.trans (ZT.trans YS))).trans s59;have n59:U i59=none:=(Xn.trans (ZT.trans YS)).none f59;simp only[go_sem,seval,t0,t1,t5,t6,t8,r1];refine⟨_,?_,j+1,by omega,rfl,k59,?_,by simp⟩
     .omega
     .rw[W8,Ze];exact aq.new (by simp) a59 n59
    .have w1:((j:Int)>0)=False:=H';have w3:((j:Int)=of.length)=False:=H';have w4:((j:Int)=0)=True:=L';have Ze:bX (bkR l of j)=.agg [vI 0,vI (F j),vI (0)]:=by rw[hbk0,show dj of j=0 by rw[dj,ak g1]]
     simp only[go_sem,seval,a9,t1,t5,ZD,t8,hi5,XI,q2,w1,w3,w4];generalize Xw:C' _ i9 _=Y9;have ZT:aa J Y9:=by rw[<-Xw];exact s9.ao f9
     clear Xw;refine aj λi58 Z58 YS a58 f58=>?_;obtain⟨idA,Xg,WK,XG,hd2⟩:=WR.mE (ZT.trans YS);have W1:(rows.length+1)*25<=140737488355328:=by omega
     simp only[go_sem,seval,Xg,bl a58,W1];refine aX λi59 Z59 s59 a59 f59=>?_;have k59:=(WK U (aa.refl _) Z58 (Xn.trans (ZT.trans YS))).trans s59;have n59:U i59=none:=(Xn.trans (ZT.trans YS)).none f59;simp only[go_sem,seval,t0,t1,t5,t6,t8,r1];refine⟨_,?_,j+1,by omega,rfl,k59,?_,by simp⟩
     .omega
     .rw[W8,Ze];exact aq.new (by simp) a59 n59
    .have w1:((j:Int)>0)=True:=L';have w2:((j:Int)<of.length)=False:=H';have w3:((j:Int)=of.length)=True:=L';have w4:((j:Int)=0)=False:=H';have Ze:bX (bkR l of j)=.agg [vI 3,vI (F j),vI (0)]:=by rw[hbk0,show dj of j=3 by rw[dj,au (by omega),ak g2]]
     simp only[go_sem,seval,a9,t1,t5,ZD,t8,hi5,XI,q2,w1,w2,w3,w4];generalize Xw:C' _ i9 _=Y9;have ZT:aa J Y9:=by rw[<-Xw];exact s9.ao f9
     clear Xw;refine aj λi58 Z58 YS a58 f58=>?_;obtain⟨idA,Xg,WK,XG,hd2⟩:=WR.mE (ZT.trans YS);have W1:(rows.length+1)*25<=140737488355328:=by omega
     simp only[go_sem,seval,Xg,bl a58,W1];refine aX λi59 Z59 s59 a59 f59=>?_;have k59:=(WK U (aa.refl _) Z58 (Xn.trans (ZT.trans YS))).trans s59;have n59:U i59=none:=(Xn.trans (ZT.trans YS)).none f59;simp only[go_sem,seval,t0,t1,t5,t6,t8,r1];refine⟨_,?_,j+1,by omega,rfl,k59,?_,by simp⟩
     .omega
     .rw[W8,Ze];exact aq.new (by simp) a59 n59
    .have w1:((j:Int)>0)=True:=L';have w2:((j:Int)<of.length)=True:=L';have w3:((j:Int)=of.length)=False:=H';have w4:((j:Int)=0)=False:=H';have x1:=λU=>de (U:=U) (l:=of) (i:=j-1) (by omega);have x2:=λU=>de (U:=U) g2;have x3:((j:Int)-1)=((j-1:Nat):Int):=by omega
     have x4:=ae (m:=((j-1:Nat):Int)) (by omega) (by omega);have e1:of.getD j 0=of[j]:=by simp[g2]
     have e2:of.getD (j-1) 0=of[j-1]:=by have:j-1<of.length:=by omega
                                         simp[this]
     have w5:(of[j-1]=of[j])=True:=L' (by rw[<-e1,<-e2];exact g3);have Ze:bX (bkR l of j)=.agg [vI 2,vI (F j),vI (0)]:=by rw[hbk0,show dj of j=2 by rw[dj,au (by omega),au (by omega),ak g3.symm]]
     simp only[go_sem,seval,a9,t1,t5,ZD,t8,hi5,XI,q2,w1,w2,w3,w4,x1,x2,x3,x4,w5];generalize Xw:C' _ i9 _=Y9;have ZT:aa J Y9:=by rw[<-Xw];exact s9.ao f9
     clear Xw;refine aj λi58 Z58 YS a58 f58=>?_;obtain⟨idA,Xg,WK,XG,hd2⟩:=WR.mE (ZT.trans YS);have W1:(rows.length+1)*25<=140737488355328:=by omega
     simp only[go_sem,seval,Xg,bl a58,W1];refine aX λi59 Z59 s59 a59 f59=>?_;have k59:=(WK U (aa.refl _) Z58 (Xn.trans (ZT.trans YS))).trans s59;have n59:U i59=none:=(Xn.trans (ZT.trans YS)).none f59;simp only[go_sem,seval,t0,t1,t5,t6,t8,r1];refine⟨_,?_,j+1,by omega,rfl,k59,?_,by simp⟩
     .omega
     .rw[W8,Ze];exact aq.new (by simp) a59 n59
    .have w1:((j:Int)>0)=True:=L';have w2:((j:Int)<of.length)=True:=L';have w3:((j:Int)=of.length)=False:=H';have w4:((j:Int)=0)=False:=H';have x1:=λU=>de (U:=U) (l:=of) (i:=j-1) (by omega);have x2:=λU=>de (U:=U) g2;have x3:((j:Int)-1)=((j-1:Nat):Int):=by omega
     have x4:=ae (m:=((j-1:Nat):Int)) (by omega) (by omega);have e1:of.getD j 0=of[j]:=by simp[g2]
     have e2:of.getD (j-1) 0=of[j-1]:=by have:j-1<of.length:=by omega
                                         simp[this]
     have w5:(of[j-1]=of[j])=False:=H' (by rw[<-e1,<-e2];exact g3);have Ze:bX (bkR l of j)=.agg [vI 1,vI (F j),vI (0)]:=by rw[hbk0,show dj of j=1 by rw[dj,au (by omega),au (by omega),au (λh=>g3 h.symm)]]
     simp only[go_sem,seval,a9,t1,t5,ZD,t8,hi5,XI,q2,w1,w2,w3,w4,x1,x2,x3,x4,w5];generalize Xw:C' _ i9 _=Y9;have ZT:aa J Y9:=by rw[<-Xw];exact s9.ao f9
     clear Xw;refine aj λi58 Z58 YS a58 f58=>?_;obtain⟨idA,Xg,WK,XG,hd2⟩:=WR.mE (ZT.trans YS);have W1:(rows.length+1)*25<=140737488355328:=by omega
     simp only[go_sem,seval,Xg,bl a58,W1];refine aX λi59 Z59 s59 a59 f59=>?_;have k59:=(WK U (aa.refl _) Z58 (Xn.trans (ZT.trans YS))).trans s59;have n59:U i59=none:=(Xn.trans (ZT.trans YS)).none f59;simp only[go_sem,seval,t0,t1,t5,t6,t8,r1];refine⟨_,?_,j+1,by omega,rfl,k59,?_,by simp⟩
     .omega
     .rw[W8,Ze];exact aq.new (by simp) a59 n59
  .have q:((j:Int)<=of.length)=False:=H';obtain rfl:j=of.length+1:=by omega
   apply sR;simp only[go_sem,seval,t1,ZD,t8,XI,q];exact WR.ni hs hX
end Go.Vc
