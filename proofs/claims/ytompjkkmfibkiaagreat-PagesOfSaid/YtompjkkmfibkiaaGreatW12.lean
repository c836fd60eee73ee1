import Derived.Test.YtompjkkmfibkiaaGreatW11
set_option linter.all false
set_option maxHeartbeats 8000000
set_option maxRecDepth 100000
open Go.Proofs.Tryz
namespace Go.Vc
open Go.Proofs
def Kh(b:List Yr)(XW:b.length<=1000000)(hmb:nX b=true):aE prog 109 [aY b] (.bool (nX b)):=λU=>by
 refine Ud.q ?_;have hs:=aa.refl U;have hn:=wP b;obtain⟨XR,XH⟩:=IK.1 hmb;rw[hmb];have r0:WI .i64 ((b.length:Int)-1):=ae;refine mS 7 ?_;simp only[go_sem,seval,Sn];refine ag.loop (λm st=>∃i:Nat,i<=b.length/\m=b.length-i/\aa U st.U/\st.s 0=aY b/\st.s 3=vI i) b.length ?_ ?_
 .exact⟨0,by omega,rfl,hs,rfl,rfl⟩
 .clear hs;rintro m ⟨S,J⟩ ⟨i,hi,rfl,hs,k0,k3⟩;simp only at hs k0 k3;refine ag.mix 7 ?_;by_cases B':i<b.length
  .have q:=qT B';have Xx:=λU=>nN (U:=U) B';obtain⟨g1,g2,g3,g4,g5,g6⟩:=XR i B';have eg:XB b i=b[i]:=by simp[XB,B']
   rw[eg]at g1 g2 g3 g4 g5 g6;generalize b[i]=x at*;have r1:=rI i;have Xn:=hs;replace hs:=aa.refl J;obtain⟨c,f,r⟩:=x;simp only at g1 g2 g3 g4 g5 g6;apply sR;simp only[go_sem,seval,k0,k3,hn,q,Xx,bX];refine al hs λi4 Z4 s4 a4 f4 _ hs=>?_;have z1:=Xn.none f4;rcases Nat.eq_zero_or_pos i with h0|h0
   .have w1:((i:Int)>0)=False:=H';have hc:=g2 (by omega);rw[au (by omega)]at hc;obtain rfl:r=0:=g6 (by omega);subst hc;rcases g3 with rfl|rfl|rfl|rfl
    all_goals
     simp only[go_sem,seval,a4,k0,k3,w1,r1];exact⟨_,by omega,i+1,by omega,rfl,(Xn.trans s4).ao z1,by simp[vI]⟩
   .have w1:((i:Int)>0)=True:=L';by_cases hl:(i:Int)=(b.length:Int)-1
    .have w2:((i:Int)=(b.length:Int)-1)=True:=L' hl;have w3:((i:Int)<(b.length:Int)-1)=False:=H';have hc:=g2 (by omega);rw[ak ⟨h0,hl⟩]at hc;obtain rfl:r=0:=g6 (by omega);subst hc;obtain rfl:f=0:=Decidable.byContradiction λh=>(g4 h).2.1 rfl;simp only[go_sem,seval,a4,k0,k3,hn,w1,w2,w3,r0,r1];exact⟨_,by omega,i+1,by omega,rfl,(Xn.trans s4).ao z1,by simp[vI]⟩
    .have w2:((i:Int)=(b.length:Int)-1)=False:=H' hl;have w3:((i:Int)<(b.length:Int)-1)=True:=L';have w4:(r<0)=False:=H';have w5:(r>7)=False:=H';by_cases hf:f=0
     .subst hf;rcases g1 ⟨h0,by omega⟩with rfl|rfl
      all_goals
       simp only[go_sem,seval,a4,k0,k3,hn,w1,w2,w3,w4,w5,r0,r1];exact⟨_,by omega,i+1,by omega,rfl,(Xn.trans s4).ao z1,by simp[vI]⟩
     .obtain⟨c2,c3,rfl⟩:=g4 hf;obtain rfl:c=1:=(g1 ⟨h0,by omega⟩).resolve_right c2;rcases g3 with rfl|rfl|rfl|rfl
      .exact absurd rfl hf
      all_goals
       simp only[go_sem,seval,a4,k0,k3,hn,w1,w2,w3,r0,r1];exact⟨_,by omega,i+1,by omega,rfl,(Xn.trans s4).ao z1,by simp[vI]⟩
  .have q:=qF B';have q2:((b.length:Int)>0)=True:=L';apply sR;simp only[go_sem,seval,k0,k3,hn,q,q2];exact ai.pure hs rfl
def uj(n:Int):aE prog 38 [vI n] (.bool (decide (mO n))):=λU=>by
 refine e38.q ?_;have hs:=aa.refl U;refine ag.mix 3 ?_;by_cases h0:n>=1
 .have q0:(n>=1)=True:=L' h0;by_cases h1:n<=1099511627776
  .have q1:(n<=1099511627776)=True:=L' h1;rw[show decide (mO n)=true from XK ⟨h0,h1⟩];apply sR;simp only[go_sem,seval,c38,q0,q1];exact ai.pure hs rfl
  .have q1:(n<=1099511627776)=False:=H' h1;rw[show decide (mO n)=false from XJ λh=>h1 h.2];apply sR;simp only[go_sem,seval,c38,q0,q1];exact ai.pure hs rfl
 .have q0:(n>=1)=False:=H' h0;rw[show decide (mO n)=false from XJ λh=>h0 h.1];apply sR;simp only[go_sem,seval,c38,q0];exact ai.pure hs rfl
open Go.Proofs
def HM(l:List Nd)(hl:dz l)(hb:Xh l=true)(hn:l.length<=2000)(his:aE prog 90 [ay l] (.bool (Xh l)))(a:Nat)(ha:a<l.length)(h:Int)(h1:1<=h)(h2:h<=1099511627776):
 aE prog 93 [ay l,vI a,vI h] (jL (px l a h)):=λU=>by
 refine e93.q ?_;have hs:=aa.refl U;have Yp:=bK l;have hmc:=EX l hl h his;have hm:gj l h=true:=by unfold gj;rw[hb,XK ⟨h1,h2⟩];rfl
 rw[hm]at hmc;rw[KY hb ha];have q1:((a:Int)<0)=False:=H';have q2:((a:Int)>=l.length)=False:=H';refine mS 10 ?_;simp only[go_sem,seval,c93];refine al hs λi6 Z6 s6 a6 f6 z6 hs=>?_;simp only[go_sem,seval];refine pS rfl (hmc _) ?_;simp only[go_sem,seval,q1,q2,Yp];refine al hs λi7 Z7 s7 a7 f7 z7 hs=>?_;obtain⟨n67,a6⟩:=WG a6 f7 s7;simp only[go_sem,seval,a7];generalize Yl:C' _ i7 _=Y7;replace a7:=XD Yl;replace a6:=WQ Yl n67 a6;replace hs:=Xz Yl hs z7;have WM:∀i,i<l.length->je l a h (i+1)=if cd l i a=true then gP l (je l a h i) i else je l a h i:=λi _=>rfl
 have hiv:=λi hi=>yk hb (a:=a) h1 i hi;generalize hX:je l a h a=X;have hZ:je l a h 0=⟨[],0,h⟩:=rfl;generalize je l a h=H at*;refine ag.loop (λm st=>∃i:Nat,i<=a/\m=a-i/\aa U st.U/\(∃vh,st.U i7=some ⟨107,3,[.agg [vh,vI (H i).high,vI (H i).body]]⟩/\aq U st.U 3 1 vh ((H i).WU.map vI))/\st.U i6=some ⟨107,3,[.agg [.aB,vI 0,vI 0]]⟩/\st.s 0=ay l/\st.s 1=vI a/\st.s 6=.ptr i6 0 0/\st.s 7=.ptr i7 0 0/\st.s 8=vI i) a ?_ ?_
 .exact⟨0,by omega,rfl,hs,⟨.aB,by rw[hZ];exact a7,by rw[hZ];exact aq.start⟩,a6,rfl,rfl,rfl,rfl,rfl⟩
 .clear a7 a6 hs;rintro m ⟨S,J⟩ ⟨i,hi,rfl,hs,⟨vh,a7,hvh⟩,a6,k0,k1,k6,k7,k8⟩;simp only at hs a7 hvh a6 k0 k1 k6 k7 k8;obtain⟨ch,sh⟩:=hvh.vc;refine ag.mix 10 ?_;by_cases B':i<a
  .have q3:((i:Int)<a)=True:=L';have Yv:i<l.length:=by omega
   have XO:=λU=>bI (U:=U) (l:=l) (a:=i) Yv;have hhead:=(ec hb Yv).st.head;have Yh:=uN hb Yv;have Zv:=WM i Yv;have hhd:(Yw l (i:Int)).head=l[i].st.head:=by rw[eG Yv]
   have hho:cd l (i:Int) (a:Int)=decide (¬((i:Int)+l[i].size<=a)):=by
    rw[Bool.eq_iff_iff];simp[cd,mL,WJ,Yv];omega
   rw[An (by rw[hhd];exact hhead.1),hho,hhd]at Zv;obtain⟨v1,v2,v3,v4⟩:=hiv i (by omega);generalize H i=Y at*;generalize l[i]=nd at*;have r1:=rI i;have r2:WI .i64 ((i:Int)+nd.size):=ae;by_cases c1:(i:Int)+nd.size<=a
   .have w1:((i:Int)+nd.size<=a)=True:=L' c1;rw[au (by simp;omega)]at Zv;apply sR;simp only[go_sem,seval,k0,k1,k6,k7,k8,q3,XO,Nd.cells,a7,a6,w1,r1,r2];exact⟨_,by omega,i+1,by omega,rfl,hs,⟨vh,by rw[Zv],by rw[Zv];exact hvh⟩,by simp[vI]⟩
   .have w1:((i:Int)+nd.size<=a)=False:=H' c1;rw[ak (by simp;omega)]at Zv;by_cases c2:nd.st.head=0
    .have w2:(nd.st.head=0)=True:=L' c2;rw[ak (.inl c2)]at Zv;apply sR;simp only[go_sem,seval,k0,k1,k6,k7,k8,q3,XO,Nd.cells,a7,a6,w1,w2,r1,r2];exact⟨_,by omega,i+1,by omega,rfl,hs,⟨vh,by rw[Zv],by rw[Zv];exact hvh⟩,by simp[vI]⟩
    .have w2:(nd.st.head=0)=False:=H' c2;by_cases c3:nd.st.head>=Y.body
     .have w3:(nd.st.head>=Y.body)=True:=L' c3;rw[ak (.inr c3)]at Zv;apply sR;simp only[go_sem,seval,k0,k1,k6,k7,k8,q3,XO,Nd.cells,a7,a6,w1,w2,w3,r1,r2];exact⟨_,by omega,i+1,by omega,rfl,hs,⟨vh,by rw[Zv],by rw[Zv];exact hvh⟩,by simp[vI]⟩
     .have w3:(nd.st.head>=Y.body)=False:=H' c3;rw[au (by omega)]at Zv;have r3:WI .i64 (Y.high+nd.st.head):=ae;have r4:WI .i64 (Y.body-nd.st.head):=ae;have Yd:(Y.WU.map vI).length=Y.WU.length:=by simp
      have W1:(Y.WU.length+1)*9<=140737488355328:=by omega
      apply sR;simp only[go_sem,seval,k0,k1,k7,k8,q3,XO,Nd.cells,a7,w1,w2,w3,r2];refine aj λi60 Z60 s60 a60 f60=>?_;obtain⟨idA,Xg,hdv,XG,WK⟩:=hvh.mM s60;have b7:=(XG i7 (hvh.ck a7 (by simp)) Z60).trans (s60 _ _ a7);have b6:=(XG i6 (hvh.ck a6 (by simp)) Z60).trans (s60 _ _ a6);simp only[go_sem,seval,Xg,bl a60,Yd,W1];refine aX λi61 Z61 s61 a61 f61=>?_;have k61:=(WK U (aa.refl U) Z60 (hs.trans s60)).trans s61;have n61:U i61=none:=(hs.trans s60).none f61;have c7:=s61 _ _ b7;have c6:=s61 _ _ b6;have hnew:aq U Z61 3 1 (.own i61 0 (Y.WU.length+1)) ((Y.WU++[(i:Int)]).map vI):=aq.new (by simp) (by rw[a61,cX];rfl) n61;simp only[go_sem,seval,k0,k1,k6,k7,k8,c7,r1,r3,r4];refine⟨_,by omega,i+1,by omega,rfl,k61.ao z7,⟨_,by rw[Zv],by rw[Zv];exact hnew.bH c7 (by simp)⟩,(ab n67).trans c6,by simp[vI]⟩
  .have q3:((i:Int)<a)=False:=H';obtain rfl:i=a:=by omega
   rw[hX]at a7 hvh;apply sR;simp only[go_sem,seval,k1,k6,k7,k8,q3,a7,a6];have hst0:∀o,aa U (C' J i6 o):=λo=>hs.ao z6;exact⟨_,U,hst0 _,Wk.agg (vs':=[aN X.WU,vI X.high,vI X.body]) ⟨(hvh.bH a6 (by simp)).wk (aa.refl U) (hst0 _),Wk.refl (hst0 _) _,Wk.refl (hst0 _) _,trivial⟩,rfl,rfl⟩
def Ip(l:List Nd)(hl:dz l)(hb:Xh l=true)(hn:l.length<=2000)(his:aE prog 90 [ay l] (.bool (Xh l)))(h:Int)(h1:1<=h)(h2:h<=1099511627776):
 aE prog 41 [ay l,vI h] (vI (cM l h)):=λU=>by
 refine e41.q ?_;have hs:=aa.refl U;have Yp:=bK l;have hmc:=EX l hl h his;have hm:gj l h=true:=by unfold gj;rw[hb,XK ⟨h1,h2⟩];rfl
 rw[hm]at hmc;unfold cM;rw[ak hm];have Xt:=λ(a:Nat) (ha:a<l.length)=>HM l hl hb hn his a ha h h1 h2;refine mS 7 ?_;simp only[go_sem,seval,c41];refine pS rfl (hmc _) ?_;simp only[go_sem,seval];refine ag.loop (λm st=>∃i:Nat,i<=l.length/\m=l.length-i/\st.U=U/\st.s 0=ay l/\st.s 1=vI h/\st.s 5=vI (fD l h i)/\st.s 6=vI i) l.length ?_ ?_
 .exact⟨0,by omega,rfl,rfl,rfl,rfl,rfl,rfl⟩
 .rintro m ⟨S,J⟩ ⟨i,hi,rfl,WY,k0,k1,k5,k6⟩;simp only at WY k0 k1 k5 k6;subst WY;refine ag.mix 7 ?_;by_cases B':i<l.length
  .have q:=qT B';have XO:=λU=>bI (U:=U) (l:=l) (a:=i) B';have WM:=CJ (l:=l) (h:=h) (j:=i);rw[gF B']at WM;have hoc:=Xt i B';generalize l[i]=nd at*;have r1:=rI i;by_cases c1:nd.kind=2
   .have w1:(nd.kind=2)=True:=L' c1;rw[ak (.inl c1)]at WM;apply sR;simp only[go_sem,seval,k0,k1,k5,k6,Yp,q,XO,Nd.cells,w1];refine pS rfl (hoc _) ?_;simp only[go_sem,seval,k0,k1,k6,jL,dN,r1];exact⟨_,by omega,i+1,by omega,rfl,by simp[WM,vI]⟩
   .have w1:(nd.kind=2)=False:=H' c1;by_cases c2:nd.kind=3
    .have w2:(nd.kind=3)=True:=L' c2;rw[ak (.inr c2)]at WM;apply sR;simp only[go_sem,seval,k0,k1,k5,k6,Yp,q,XO,Nd.cells,w1,w2];refine pS rfl (hoc _) ?_;simp only[go_sem,seval,k0,k1,k6,jL,dN,r1];exact⟨_,by omega,i+1,by omega,rfl,by simp[WM,vI]⟩
    .have w2:(nd.kind=3)=False:=H' c2;rw[au (by omega)]at WM;apply sR;simp only[go_sem,seval,k0,k1,k5,k6,Yp,q,XO,Nd.cells,w1,w2,r1];exact⟨_,by omega,i+1,by omega,rfl,by simp[WM,vI]⟩
  .have q:=qF B';obtain rfl:i=l.length:=by omega
   apply sR;simp only[go_sem,seval,k0,k5,k6,Yp,q];exact ai.pure hs rfl
open Go.Proofs
def Mr(P:List T')(hP:P.length<=1000000)(body:Int)(hb0:1<=body)(hb1:body<=1099511627776)(hh:∀f∈P,0<=f.h):
 aE prog 64 [ax P,vI body] (.WC [ax (bZ body P 0).1,ax (bZ body P 0).2.1,vI (bZ body P 0).2.2]):=λU=>by
 refine e64.q ?_;have hs:=aa.refl U;have hlp:=cF P;obtain⟨X,hX⟩:∃X,X=bZ body P 0:=⟨_,rfl⟩
 rw[<-hX];refine mS 11 ?_;simp only[go_sem,seval,c64];refine ag.loop (λm st=>∃(j:Nat) (acc:List T') (sh:Int),j<=P.length/\m=P.length-j/\acc.length=j/\X=(acc++(bZ body (P.drop j) sh).1,(bZ body (P.drop j) sh).2)/\0<=sh/\sh<=body/\aa U st.U/\aq U st.U 100 7 (st.s 7) (acc.map az)/\st.s 0=ax P/\st.s 1=vI body/\st.s 8=vI sh/\st.s 9=vI j) P.length ?_ ?_
 .exact⟨0,[],0,by omega,rfl,rfl,hX,by omega,by omega,hs,aq.start,rfl,rfl,rfl,rfl⟩
 .clear hs hX;rintro m ⟨S,J⟩ ⟨j,acc,sh,hj,rfl,ZN,hX,h0,h1,hs,ho,k0,k1,k8,k9⟩;simp only at hs ho k0 k1 k8 k9;generalize ZD:S 7=v7 at ho;refine ag.mix 11 ?_;by_cases B':j<P.length
  .have q:=qT B';have Wz:=λU=>dO (U:=U) B';have hf0:=hh _ (Xo B');have hd:P.drop j=P[j]::P.drop (j+1):=iT B';have Zh:az P[j]=.agg [vI P[j].node,vI P[j].side,vI P[j].anchor,vI P[j].x,vI P[j].y,vI P[j].w,vI P[j].h]:=rfl;rw[hd,bZ]at hX;have hfst:=hd;generalize P[j]=f at*;have r1:=rI j;have r2:WI .i64 (sh+min f.h body):=ae;have hsZ:=hs;replace hs:=aa.refl J;apply sR;simp only[go_sem,seval,k0,k9,q,hlp,Wz,Zh];refine al hs λi10 Z10 Yt Xm f10 Zn hs=>?_;by_cases hgt:sh+min f.h body>body
   .have q2:(sh+min f.h body>body)=True:=L' hgt;rw[ak hgt]at hX;simp only[go_sem,seval,Xm,k1,k8,ZD,dN,r2,q2];generalize Xu:C' Z10 i10 _=Y10;have s10':aa J Y10:=by rw[<-Xu];exact Yt.ao f10
    have ho10:=ho.mono s10';clear Xu;refine aj λi36 Z36 s36 a36 f36=>?_;have hsl:=λU=>jx (U:=U) (P:=P) (j:=j) (by omega);have hsrc:∀U,bc U 7 (ax (P.drop j))=some ((P.drop j).map az):=λU=>by simp[ax,bc]
    have Yd:((P.drop j).map az).length=P.length-j:=by simp
    have W1:(P.length-j)*57<=140737488355328:=by omega
    simp only[BB,seval,aZ,eD,aD,YV,k0,k9,hsl,wF a36,hsrc,Yd,W1];refine aX λi40 Z40 s40 a40 f40=>?_;have s4:aa Y10 Z40:=(s36.pI f36).trans s40;have n40:U i40=none:=((hsZ.trans s10').trans s36).none f40;have ho40:=ho10.mono s4;have hs40:=(hsZ.trans s10').trans s4;have hn40:aq U Z40 100 7 (.own i40 0 (P.length-j)) ((P.drop j).map az):=aq.new (by simp) a40 n40;simp only[go_sem,seval,k8];rw[hX];exact⟨_,U,hs40,Wk.WC (vs':=[ax acc,ax (P.drop j),vI sh]) ⟨ho40.wk (aa.refl U) hs40,hn40.wk (aa.refl U) hs40,Wk.refl hs40 _,trivial⟩,by rw[hd,iN],rfl⟩
   .have q2:(sh+min f.h body>body)=False:=H' hgt;rw[au hgt]at hX;simp only[go_sem,seval,Xm,k1,k8,ZD,dN,r2,q2];generalize Xu:C' Z10 i10 _=Y10;have a10':=(congrFun Xu i10).symm.trans af;have s10':aa J Y10:=by rw[<-Xu];exact Yt.ao f10
    have ho10:=ho.mono s10';clear Xu;refine aj λi44 Z44 s44 a44 f44=>?_;obtain⟨idA,Xg,hdv,XG,WK⟩:=ho10.mM s44;have b10:=(XG i10 (λn hv=>by
     rcases ho with⟨h,_⟩|⟨id,h,h2,_⟩
     .rw[h]at hv;cases hv
     .rw[h]at hv;cases hv;rw[h2]at Zn;cases Zn) Z44).trans (s44 _ _ a10')
    have Yd:(acc.map az).length=j:=by simp[ZN]
    have W1:(j+1)*57<=140737488355328:=by omega
    simp only[go_sem,seval,Xg,bl a44,Yd,W1];refine aX λi45 Z45 s45 a45 f45=>?_;have k45:=(WK U (aa.refl U) Z44 ((hsZ.trans s10').trans s44)).trans s45;have ZW:U i45=none:=((hsZ.trans s10').trans s44).none f45;have c10:=s45 _ _ b10;simp only[go_sem,seval,k0,k1,k8,k9,c10,r1,r2];refine⟨_,by omega,j+1,acc++[{ f with y:=sh,h:=min f.h body }],sh+min f.h body,by omega,rfl,by simp[ZN],by rw[hX];simp,by omega,by omega,k45,?_,by simp[vI]⟩;exact aq.new (by simp[ZN]) (by rw[a45,cX];rfl) ZW
  .have q:=qF B';obtain rfl:j=P.length:=by omega
   rw[xD]at hX;apply sR;simp only[go_sem,seval,k0,k8,k9,ZD,q,hlp];rw[hX];exact⟨_,U,hs,Wk.WC (vs':=[ax acc,ax [],vI sh]) ⟨ho.wk (aa.refl U) hs,Wk.aB 7,Wk.refl hs _,trivial⟩,by simp[bZ],rfl⟩
open Go.Proofs
def E7(l:List XA)(hl:jz l)(fl:List T')(Zh:fl.length<=1000000)(hfo:∀f∈fl,f.ok)(s:XP)(hm:cT l s)(hd:s.done<=1152921504606846976)(to kept shift body:Int)(hk:-1152921504606846976<=kept/\kept<=2305843009213693952)(ZR:0<=shift/\shift<=1152921504606846976):
 aE prog 71 [aT l,ax fl,aL s,vI to,vI kept,vI shift,vI body] (.WC [ax (dG l fl s to kept shift body).1,ax (dG l fl s to kept shift body).2]):=λU=>by
 refine e71.q ?_;have hs:=aa.refl U;have hc:=lz l s;rw[XK hm]at hc;unfold dG;rw[ak hm];have Yk:=GF fl Zh s hm.2.1 to;have hCl:(cN fl s to).length<=fl.length:=kx _ _ _;have hCo:∀f∈cN fl s to,f.ok:=λf hf=>hfo f (sD.1 hf).1;generalize cN fl s to=C at*;have hlC:=cF C;obtain⟨a,d,fr⟩:=s;obtain⟨⟨h0,h1⟩,h2,h3⟩:=hm;simp only at h0 h1 h2 h3 hd;obtain⟨n,rfl⟩:∃n:Nat,a=n:=⟨a.toNat,by omega⟩
 have Yb:n<l.length:=by omega
 have hixA:=λU=>dS (U:=U) Yb;have hya:=hl.rng _ (Xo Yb);unfold tY;rw[aV Yb];generalize l[n]=W3 at*;obtain⟨X,hX⟩:∃X,X=jh (W3.y+d-kept) shift body C:=⟨_,rfl⟩
 rw[<-hX];refine mS 21 ?_;simp only[go_sem,seval,c71,aL];refine al hs λi9 Z9 s9 a9 f9 _ hs=>?_;simp only[go_sem,seval,a9];refine pS rfl (hc _) ?_;simp only[go_sem,seval,a9];refine pS rfl (Yk _) ?_;simp only[go_sem,seval];refine ag.loop (λm st=>∃i:Nat,i<=C.length/\m=C.length-i/\(∀k (h:k<C.length),k<i->(bJ (W3.y+d-kept) shift C[k]).y+C[k].h<=body)/\aa U st.U/\aq U st.U 100 7 (st.s 17) (((C.take i).map (bJ (W3.y+d-kept) shift)).map az)/\st.U i9=some ⟨24,3,[.agg [vI n,vI d,.bool fr]]⟩/\st.s 0=aT l/\st.s 4=vI kept/\st.s 5=vI shift/\st.s 6=vI body/\st.s 9=.ptr i9 0 0/\st.s 16=ax C/\st.s 18=vI i) C.length ?_ ?_
 .exact⟨0,by omega,rfl,λk h h'=>by omega,hs,aq.start,a9,rfl,rfl,rfl,rfl,rfl,rfl,rfl⟩
 .clear a9 hs;rintro m ⟨S,J⟩ ⟨i,hi,rfl,hz,hs,ho,a9,k0,k4,k5,k6,k9,k16,k18⟩;simp only at hs ho a9 k0 k4 k5 k6 k9 k16 k18;generalize hv17:S 17=v17 at ho;refine ag.mix 21 ?_;by_cases B':i<C.length
  .have q:=qT B';have Xx:=λU=>dO (U:=U) B';have hfo:=hCo _ (Xo B');have Yg:=Iv (top:=W3.y+d-kept) (shift:=shift) (body:=body) B' (λk h h'=>hz k h h');have W4:C.take (i+1)=C.take i++[C[i]]:=Yz B';have Zh:az C[i]=.agg [vI C[i].node,vI C[i].side,vI C[i].anchor,vI C[i].x,vI C[i].y,vI C[i].w,vI C[i].h]:=rfl;generalize hf:C[i]=f at*;obtain⟨o0,⟨o1,o2⟩,o3,⟨o4,o5⟩⟩:=hfo;have r1:=rI i;have r2:WI .i64 (f.y-W3.y):=ae;have r3:WI .i64 (f.y-W3.y-d):=ae;have r4:WI .i64 (f.y-W3.y-d+kept):=ae;have hmv:(bJ (W3.y+d-kept) shift f).y=max 0 (f.y-W3.y-d+kept)+shift:=by simp only[bJ];omega
   have hme:az (bJ (W3.y+d-kept) shift f)=.agg [vI f.node,vI f.side,vI f.anchor,vI f.x,vI (max 0 (f.y-W3.y-d+kept)+shift),vI f.w,vI f.h]:=by
    show V.agg [vI f.node,vI f.side,vI f.anchor,vI f.x,vI (bJ (W3.y+d-kept) shift f).y,vI f.w,vI f.h]=_;rw[hmv]
   rw[hmv]at Yg;have r5:WI .i64 (max 0 (f.y-W3.y-d+kept)+shift):=ae;have r6:WI .i64 (max 0 (f.y-W3.y-d+kept)+shift+f.h):=ae;have hsZ:=hs;replace hs:=aa.refl J;apply sR;simp only[go_sem,seval,k16,k18,q,hlC,Xx,Zh];refine al hs λi19 Y19 s19 a19 f19 z19 hs=>?_;obtain⟨n919,a9⟩:=WG a9 f19 s19;by_cases hneg:f.y-W3.y-d+kept<0
   .have q1:(f.y-W3.y-d+kept<0)=True:=L' hneg;rw[show max 0 (f.y-W3.y-d+kept)=0 by omega]at Yg hme hmv r5 r6;by_cases hgt:0+shift+f.h>body
    .have q2:(0+shift+f.h>body)=True:=L' hgt;have hsl:=λU=>jx (U:=U) (P:=C) (j:=i) (by omega);rw[Yg (by omega)]at hX;simp only[BB,seval,aZ,eD,aD,dT,gW,jg,cP,jJ,gd,fo,V.cells,V.stays,a19,a9,k0,k4,k5,k6,k9,k16,k18,hv17,hixA,bE,hsl,r2,r3,r4,r5,r6,q1,q2,ab n919];generalize Yy:C' _ i19 _=Z19;have s19':aa J Z19:=by rw[<-Yy];exact s19.ao f19
     have ho19:=ho.mono s19';clear Yy;rw[hX];have WM:=hsZ.trans s19';exact⟨_,U,WM,Wk.WC (vs':=[ax ((C.take i).map (bJ (W3.y+d-kept) shift)),ax (C.drop i)]) ⟨ho19.wk (aa.refl U) WM,Wk.refl WM _,trivial⟩,rfl,rfl⟩
    .have q2:(0+shift+f.h>body)=False:=H' hgt;simp only[go_sem,seval,a19,a9,k0,k4,k5,k6,k9,hv17,hixA,bE,r2,r3,r4,r5,r6,q1,q2,ab n919];generalize Yy:C' _ i19 _=Z19;have s19':aa J Z19:=by rw[<-Yy];first|exact s19.ao f19|exact(s19.ao f19).ao f19
     have ho19:=ho.mono s19';have a9':=((congrFun Yy i9).symm.trans (ab n919)).trans a9;clear Yy;refine aj λi72 Z72 s72 a72 f72=>?_;obtain⟨idA,Xg,hdv,XG,WK⟩:=ho19.mM s72;have b9:=(XG i9 (ho19.ck a9' (by simp)) Z72).trans (s72 _ _ a9');have Yd:(((C.take i).map (bJ (W3.y+d-kept) shift)).map az).length=i:=by simp;omega
     have W1:(i+1)*57<=140737488355328:=by omega
     simp only[go_sem,seval,Xg,bl a72,Yd,W1];refine aX λi73 Z73 s73 a73 f73=>?_;have k73:=(WK U (aa.refl U) Z72 ((hsZ.trans s19').trans s72)).trans s73;have n73:U i73=none:=((hsZ.trans s19').trans s72).none f73;have c9:=s73 _ _ b9;simp only[go_sem,seval,k0,k4,k5,k6,k9,k16,k18,r1];refine⟨_,by omega,i+1,by omega,rfl,λk h h'=>?_,k73,?_,c9,by simp[vI]⟩
     .by_cases e:k=i
      .subst e;rw[hf,hmv];omega
      .exact hz k h (by omega)
     .rw[W4,cX,cX,List.map_singleton,List.map_singleton,hme];exact aq.new (by simp;omega) a73 n73
   .have q1:(f.y-W3.y-d+kept<0)=False:=H' hneg;rw[show max 0 (f.y-W3.y-d+kept)=f.y-W3.y-d+kept by omega]at Yg hme hmv r5 r6;by_cases hgt:f.y-W3.y-d+kept+shift+f.h>body
    .have q2:(f.y-W3.y-d+kept+shift+f.h>body)=True:=L' hgt;have hsl:=λU=>jx (U:=U) (P:=C) (j:=i) (by omega);rw[Yg (by omega)]at hX;simp only[BB,seval,aZ,eD,aD,dT,gW,jg,cP,jJ,gd,fo,V.cells,V.stays,a19,a9,k0,k4,k5,k6,k9,k16,k18,hv17,hixA,bE,hsl,r2,r3,r4,r5,r6,q1,q2,ab n919];generalize Yy:C' _ i19 _=Z19;have s19':aa J Z19:=by rw[<-Yy];exact s19.ao f19
     have ho19:=ho.mono s19';clear Yy;rw[hX];have WM:=hsZ.trans s19';exact⟨_,U,WM,Wk.WC (vs':=[ax ((C.take i).map (bJ (W3.y+d-kept) shift)),ax (C.drop i)]) ⟨ho19.wk (aa.refl U) WM,Wk.refl WM _,trivial⟩,rfl,rfl⟩
    .have q2:(f.y-W3.y-d+kept+shift+f.h>body)=False:=H' hgt;simp only[go_sem,seval,a19,a9,k0,k4,k5,k6,k9,hv17,hixA,bE,r2,r3,r4,r5,r6,q1,q2,ab n919];generalize Yy:C' _ i19 _=Z19;have s19':aa J Z19:=by rw[<-Yy];first|exact s19.ao f19|exact(s19.ao f19).ao f19
     have ho19:=ho.mono s19';have a9':=((congrFun Yy i9).symm.trans (ab n919)).trans a9;clear Yy;refine aj λi72 Z72 s72 a72 f72=>?_;obtain⟨idA,Xg,hdv,XG,WK⟩:=ho19.mM s72;have b9:=(XG i9 (ho19.ck a9' (by simp)) Z72).trans (s72 _ _ a9');have Yd:(((C.take i).map (bJ (W3.y+d-kept) shift)).map az).length=i:=by simp;omega
     have W1:(i+1)*57<=140737488355328:=by omega
     simp only[go_sem,seval,Xg,bl a72,Yd,W1];refine aX λi73 Z73 s73 a73 f73=>?_;have k73:=(WK U (aa.refl U) Z72 ((hsZ.trans s19').trans s72)).trans s73;have n73:U i73=none:=((hsZ.trans s19').trans s72).none f73;have c9:=s73 _ _ b9;simp only[go_sem,seval,k0,k4,k5,k6,k9,k16,k18,r1];refine⟨_,by omega,i+1,by omega,rfl,λk h h'=>?_,k73,?_,c9,by simp[vI]⟩
     .by_cases e:k=i
      .subst e;rw[hf,hmv];omega
      .exact hz k h (by omega)
     .rw[W4,cX,cX,List.map_singleton,List.map_singleton,hme];exact aq.new (by simp;omega) a73 n73
  .have q:=qF B';obtain rfl:i=C.length:=by omega
   rw[dR]at ho;apply sR;simp only[go_sem,seval,k16,k18,hv17,q,hlC];rw[hX,Gd λk h=>hz k h h];exact⟨_,U,hs,Wk.WC (vs':=[ax (C.map (bJ (W3.y+d-kept) shift)),ax []]) ⟨ho.wk (aa.refl U) hs,Wk.aB 7,trivial⟩,rfl,rfl⟩
open Go.Proofs
def LS(l:List XA)(hl:jz l)(s:XP)(hm:cT l s)(hd:s.done<=1152921504606846976)(WX:Int)(h1:1<=WX):aE prog 70 [aT l,aL s,vI WX] (.WC [aJ (jV l s WX),aL (fm l s WX)]):=λU=>by
 refine e70.q ?_;have hs:=aa.refl U;have hll:=hl.len;have hc:=lz l s;rw[XK hm]at hc;unfold jV fm;rw[ak ⟨hm,h1⟩,ak ⟨hm,h1⟩];obtain⟨a,d,fr⟩:=s;obtain⟨⟨h0,h1'⟩,h2,h3⟩:=hm;simp only at h0 h1' h2 h3 hd;obtain⟨n,rfl⟩:∃n:Nat,a=n:=⟨a.toNat,by omega⟩
 have Yb:n<l.length:=by omega
 have Xx:=λU=>dS (U:=U) Yb;have hy:=hl.rng _ (Xo Yb);rw[aV Yb]at h3;have hX:eZ l ⟨n,d,fr⟩ WX=⟨l[n].node,n,d,l[n].x,0,l[n].w,min (l[n].h-d) WX⟩:=by
  simp only[eZ,ia,Yx.bS,Yx.cut,aV Yb]
 have hY:jI l (eZ l ⟨n,d,fr⟩ WX)=if d+min (l[n].h-d) WX<l[n].h then⟨n,d+min (l[n].h-d) WX,false⟩else⟨(n:Int)+1,0,false⟩:=by
  rw[hX,jI];simp only[aV Yb]
 generalize jI l (eZ l ⟨n,d,fr⟩ WX)=Y at*;generalize eZ l ⟨n,d,fr⟩ WX=X at*;generalize l[n]=x at*;have w1:(WX<1)=False:=H';have r1:WI .i64 (x.h-d):=ae;have r2:=rI n;have r3:WI .i64 (d+min (x.h-d) WX):=ae;refine mS 11 ?_;simp only[go_sem,seval,c70,aL];refine al hs λi4 Z4 s4 a4 f4 z4 hs=>?_;simp only[go_sem,seval];refine al hs λi6 Z6 s6 a6 f6 z6 hs=>?_;obtain⟨n46,a4⟩:=WG a4 f6 s6;simp only[go_sem,seval];refine al hs λi7 Z7 s7 a7 f7 z7 hs=>?_;obtain⟨n47,a4⟩:=WG a4 f7 s7;obtain⟨n67,a6⟩:=WG a6 f7 s7;simp only[go_sem,seval,a4];refine pS rfl (hc _) ?_;simp only[go_sem,seval,a4,w1,Xx,bE];refine al hs λi8 Z8 s8 a8 f8 z8 hs=>?_;obtain⟨ZS,a4⟩:=WG a4 f8 s8;obtain⟨n68,a6⟩:=WG a6 f8 s8;obtain⟨n78,a7⟩:=WG a7 f8 s8;simp only[go_sem,seval,a8,a4,r1,r2,dN,ab ZS];generalize Yc:C' _ i8 _=Y8;replace a8:=XD Yc;replace a4:=WQ Yc ZS a4;replace a6:=WQ Yc n68 a6;replace a7:=WQ Yc n78 a7;replace hs:=Xz Yc hs z8;refine al hs λi10 Z10 Yt Xm f10 Zn hs=>?_;obtain⟨n410,a4⟩:=WG a4 f10 Yt;obtain⟨n610,a6⟩:=WG a6 f10 Yt;obtain⟨n710,a7⟩:=WG a7 f10 Yt;obtain⟨n810,a8⟩:=WG a8 f10 Yt;by_cases B':d+min (x.h-d) WX<x.h
 .have w2:(d+min (x.h-d) WX<x.h)=True:=L' B';rw[ak B']at hY;simp only[go_sem,seval,Xm,a8,a4,r3,w2,cm,ab n410,ab n810];generalize Xu:C' _ i10 _=Y10;replace Xm:=XD Xu;replace a4:=WQ Xu n410 a4;replace a6:=WQ Xu n610 a6;replace a7:=WQ Xu n710 a7;replace a8:=WQ Xu n810 a8;replace hs:=Xz Xu hs Zn;refine ag.wm (by kernel_rfl) 8 (.leaf [[],[0],[],[2],[],[4],[],[6],[],[8],[],[1,3,5,7,9,10,0,2,4,6,8],[],[11,0,1,2,3,4,5,6,7,8,9,10],[12,13,0,1,2,3,4,5,6,7,8,9,10,11]] [0,1,2,3,4,5,6,7,8,9,10,11,12,13,14]) (by kernel_rfl) ?_;refine GT.gZ (its:=[0,2,4,6,8,10,12,14,16,18,20,22,24,26,25,28]) (by kernel_rfl) ?_;refine cI (n:=0) [25,28] [0,2,4,6,8,10,12,14,16,18,20,22,24,26] [_,_,_,_,_,_,_,_,_,_,_,_,_,_] rfl rfl ?_;simp only[go_sem,seval,a4,a8,Xm,a6];refine dy rfl (by simp only[go_sem,seval,Xm,ab n610.symm]) ?_;refine cI (n:=0) [] [28] [_] rfl rfl ?_;simp only[go_sem,seval,a7,ab n67.symm];apply sR;simp only[go_sem,seval,ab n67,cc]
  first
   |exact ai.pure ((hs.ao z6).ao z7) (by rw[hX,hY];rfl)
   |exact ai.pure ((hs.ao z7).ao z6) (by rw[hX,hY];rfl)
 .have w2:(d+min (x.h-d) WX<x.h)=False:=H' B';rw[au B']at hY;simp only[go_sem,seval,Xm,a8,a4,r3,w2,cm,ab n410,ab n810];generalize Xu:C' _ i10 _=Y10;replace Xm:=XD Xu;replace a4:=WQ Xu n410 a4;replace a6:=WQ Xu n610 a6;replace a7:=WQ Xu n710 a7;replace a8:=WQ Xu n810 a8;replace hs:=Xz Xu hs Zn;refine ag.wm (by kernel_rfl) 8 (.leaf [[],[0],[],[2],[],[4],[],[6],[],[8],[],[1,3,5,7,9,10,0,2,4,6,8],[],[11,0,1,2,3,4,5,6,7,8,9,10],[12,13,0,1,2,3,4,5,6,7,8,9,10,11]] [0,1,2,3,4,5,6,7,8,9,10,11,12,13,14]) (by kernel_rfl) ?_;refine GT.gZ (its:=[0,2,4,6,8,10,12,14,16,18,20,22,24,26,25,28]) (by kernel_rfl) ?_;refine cI (n:=0) [25,28] [0,2,4,6,8,10,12,14,16,18,20,22,24,26] [_,_,_,_,_,_,_,_,_,_,_,_,_,_] rfl rfl ?_;simp only[go_sem,seval,a4,a8,Xm,a6];refine dy rfl (by simp only[go_sem,seval,Xm,ab n610.symm]) ?_;refine cI (n:=0) [] [28] [_] rfl rfl ?_;simp only[go_sem,seval,a7,ab n67.symm];apply sR;simp only[go_sem,seval,ab n67,cc]
  first
   |exact ai.pure ((hs.ao z6).ao z7) (by rw[hX,hY];rfl)
   |exact ai.pure ((hs.ao z7).ao z6) (by rw[hX,hY];rfl)
open Go.Proofs
section
variable {P:Program} {n:Nat} {st:St} {Q:St->Prop} {k:List It}
def Hf{o:Op}{x y:VX}(h:Xb P n o=.bin .sub x y):∃t x0 y0 yt,o=.binOp .sub t x0 y0 yt/\cx n x0=x/\cx n y0=y:=by
 cases o
 case binOp op' t x0 y0 yt=>
  simp only[Xb,cG]at h
  repeat' split at h
  all_goals first
   |(simp only[Xd.bin.injEq]at h;obtain⟨rfl,h2,h3⟩:=h;exact⟨t,x0,y0,yt,rfl,h2,h3⟩)
   |cases h
   |(cases op'<;>cases h)
 case call c=>
  obtain⟨callee,args,argTypes⟩:=c;cases callee
  case builtin b=>cases b<;>simp only[Xb]at h<;>(repeat' split at h)<;>cases h
  all_goals (simp only[Xb]at h;cases h)
 case unOp op t x=>cases op<;>simp only[Xb]at h<;>cases h
 case makeFunc f a b=>cases f<;>simp only[Xb]at h<;>(repeat' split at h)<;>cases h
 all_goals (simp only[Xb]at h;(repeat' split at h)<;>cases h)
def ag.Pd{i:aC}{l:List aC}{x y:VX}{kk:IntKind}{a b:Int}(hw:bg st.s i.g=some true)(ho:i.op=.bin .sub x y)(hx:x.ev st.s=.int kk a)(hy:y.ev st.s=.int kk b)
 (h:ag P n (.ops l::k) ⟨aO st.s i.dst (.int kk (kk.wrap (a-b))),st.U⟩ Q):ag P n (.ops (i::l)::k) st Q:=by
 refine ag.ins (by rw[ho];simp) hw λF hn I act w o all hi hs next Q' WN=>?_
 subst hn;obtain⟨WO,hd⟩:=ee hi;rw[ho]at WO;obtain⟨t,x0,y0,yt,g1,rfl,rfl⟩:=Hf WO;have ex:act.eval x0=.int kk a:=by
  have:=cL hs x0;rw[hx]at this;simpa[G']using this
 have ey:act.eval y0=.int kk b:=by
  have:=cL hs y0;rw[hy]at this;simpa[G']using this
 have Xq:(execOp act.eval o).run P w=.ok (.value (.int kk (kk.wrap (a-b)))) w:=by
  unfold execOp;rw[g1];simp[ex,ey,eqGuard,binOp,Op.intArith]
 unfold Oper.wp;rw[Xq];refine WN _ _ _ ⟨I,?_⟩ h;have:=hs.pure (d:=o.dst) (v:=.int kk (kk.wrap (a-b))) (x:=.int kk (kk.wrap (a-b))) (by simp[G']);rw[<-hd];exact this
end
def zg(h:Int):Prop:=-9223372036854775808<=h/\h<=9223372036854775807
def Lh(x:Int):zg (IntKind.i64.wrap x):=by unfold zg;rw[IntKind.wrap_i64];omega
def IX(x B:Int)(hB:0<=B):0<=(if B<if 0>x then 0 else x then B else if 0>x then 0 else x)/\(if B<if 0>x then 0 else x then B else if 0>x then 0 else x)<=B:=by
 by_cases h:0>x
 .simp only[ak h];split<;>omega
 .simp only[au h];split<;>omega
def CQ{l:List Nd}{i:Nat}{c:Int}(h:i<l.length)(hw:∀x∈l.take i,(x.words.length:Int)<=c)(hc:0<=c):∀x∈l.take (i+1),(x.words.length:Int)<=c+l[i].words.length:=λx hx=>by
 rw[Yz h]at hx;rcases dH.1 hx with h1|h1
 .have:=hw x h1;omega
 .rw[ja.1 h1];omega
def K0(l:List Nd)(hlen:l.length<=1000000000000)(hw:∀x∈l,x.words.length<=200000000000000)(h:Int)(hh:zg h)(U:ad):
 av prog 22 [ay l,vI h] U λr Z'=>(∃x,r=.bool x/\(x=false->l.length<=30/\∀x∈l,x.words.length<=120))/\Z'=U:=by
 refine e22.q ?_;have Yp:=bK l;refine ag.mix 9 ?_;by_cases h30:l.length<=30
 .have q0:((l.length:Int)>30)=False:=H';apply sR;simp only[go_sem,seval,c22,Yp,q0];refine ag.fP (λst=>st.U=U/\st.s 0=ay l/\st.s 1=vI h/\∃c g:Int,st.s 5=vI c/\st.s 6=vI g/\0<=g/\g<=1152921504606846976/\∀x∈l,(x.words.length:Int)<=c)
   (λm st=>∃(i:Nat) (c g:Int),i<=l.length/\m=l.length-i/\st.U=U/\st.s 0=ay l/\st.s 1=vI h/\st.s 5=vI c/\0<=c/\c<=i*200000000000000/\st.s 6=vI g/\0<=g/\g<=i*3300000000000/\st.s 7=vI i/\∀x∈l.take i,(x.words.length:Int)<=c) l.length ?_ ?_ ?_
  .exact⟨0,0,0,by omega,by omega,rfl,rfl,rfl,rfl,by omega,by omega,rfl,by omega,by omega,rfl,λx hx=>by simp at hx⟩
  .rintro m ⟨S,J⟩ ⟨i,c,g,hi,rfl,WY,t0,t1,t5,hc0,hc1,t6,hg0,hg1,t7,hwc⟩;simp only at WY t0 t1 t5 t6 t7;subst WY;refine ag.mix 9 ?_;by_cases B':i<l.length
   .have q1:=qT B';have XO:=λU=>bI (U:=U) (l:=l) (a:=i) B';have hwi:=hw _ (Xo B');have hlw:=dn l[i].words;have r1:=rI i;have r2:WI .i64 (c+l[i].words.length):=ae;have hwd:=CQ B' hwc hc0;apply sR;simp only[go_sem,seval,t0,t1,t5,t6,t7,Yp,q1,XO,Nd.cells,hlw,r1,r2,lC];obtain⟨b0,b1⟩:=IX l[i].line 8589934592 (by omega);obtain⟨d0,d1⟩:=IX l[i].h 2199023255552 (by omega);have e0:0<=(if 120<(l[i].words.length:Int)then 120 else(l[i].words.length:Int))/\(if 120<(l[i].words.length:Int)then 120 else(l[i].words.length:Int))<=120:=by split<;>omega
    obtain⟨e0,e1⟩:=e0;generalize (if 8589934592<if 0>l[i].line then 0 else l[i].line then 8589934592 else if 0>l[i].line then 0 else l[i].line)=A at*;generalize (if 2199023255552<if 0>l[i].h then 0 else l[i].h then 2199023255552 else if 0>l[i].h then 0 else l[i].h)=B at*;generalize (if 120<(l[i].words.length:Int)then 120 else(l[i].words.length:Int))=C at*;have m0:=Int.mul_nonneg b0 e0;have m1:=Int.mul_le_mul b1 e1 e0 (by omega:(0:Int)<=8589934592);generalize A*C=M at*;exact⟨ae,ae,ae,_,by omega,i+1,_,_,by omega,rfl,rfl,by omega,by omega,rfl,by omega,by omega,rfl,hwd⟩
   .have q1:=qF B';apply sR;simp only[go_sem,seval,t0,t7,Yp,q1];exact⟨t1,c,g,t5,t6,hg0,by omega,by rwa [lf (by omega)]at hwc⟩
  .rintro⟨S,J⟩ ⟨WY,t0,t1,c,g,t5,t6,hg0,hg1,hwc⟩;simp only at WY t0 t1 t5 t6;subst WY;refine mS 9 ?_;simp only[go_sem,seval];refine ag.fP (λst=>st.U=J/\∃h':Int,st.s 1=vI h'/\zg h'/\st.s 5=vI c/\st.s 6=vI g)
    (λm st=>∃(i:Nat) (h':Int),i<=l.length/\m=l.length-i/\st.U=J/\st.s 0=ay l/\st.s 1=vI h'/\zg h'/\st.s 5=vI c/\st.s 6=vI g/\st.s 8=vI i) l.length ?_ ?_ ?_
   .exact⟨0,h,by omega,by omega,rfl,t0,t1,hh,t5,t6,rfl⟩
   .rintro m ⟨S,X'⟩ ⟨i,h',hi,rfl,WY,t0,t1,hh',t5,t6,t8⟩;simp only at WY t0 t1 t5 t6 t8;subst WY;refine ag.mix 9 ?_;by_cases B':i<l.length
    .have q1:=qT B';have XO:=λU=>bI (U:=U) (l:=l) (a:=i) B';have r1:=rI i;by_cases hb:h'=-9223372036854775808
     ·(refine ag.bn Yi.nothing 22 ?_;simp only[go_sem,seval,me,t0,t1,t8,Yp,q1,XO,Nd.cells])
      refine ag.Pd rfl rfl rfl rfl ?_;generalize IntKind.i64.wrap (h'-1)=X
      (refine ag.bn Yi.nothing 2 ?_;simp only[go_sem,seval,me])
      refine ag.Pd rfl rfl rfl rfl ?_;generalize hX:IntKind.i64.wrap _=Y;have hY:zg Y:=by rw[<-hX];exact Lh _
      apply sR;simp only[go_sem,seval,t8,r1,t5,t6,t0];exact⟨_,by omega,i+1,_,by omega,rfl,rfl,hY,rfl⟩
     .apply sR;simp only[go_sem,seval,t0,t1,t5,t6,t8,Yp,q1,XO,Nd.cells,r1];have hz:0<=(if(if 0>h'-1 then 0 else h'-1)<(if 0>l[i].st.head then 0 else l[i].st.head)then(if 0>h'-1 then 0 else h'-1)else if 0>l[i].st.head then 0 else l[i].st.head)/\
       (if(if 0>h'-1 then 0 else h'-1)<(if 0>l[i].st.head then 0 else l[i].st.head)then(if 0>h'-1 then 0 else h'-1)else if 0>l[i].st.head then 0 else l[i].st.head)<=(if 0>h'-1 then 0 else h'-1):=by
       have h1:0<=(if 0>h'-1 then 0 else h'-1):=by split<;>omega
       have h2:0<=(if 0>l[i].st.head then 0 else l[i].st.head):=by split<;>omega
       generalize (if 0>h'-1 then 0 else h'-1)=A at*;generalize (if 0>l[i].st.head then 0 else l[i].st.head)=B at*;split<;>omega
      have hx:(if 0>h'-1 then 0 else h'-1)=0\/(if 0>h'-1 then 0 else h'-1)=h'-1/\h'>=1:=by split<;>omega
      generalize (if(if 0>h'-1 then 0 else h'-1)<(if 0>l[i].st.head then 0 else l[i].st.head)then(if 0>h'-1 then 0 else h'-1)else if 0>l[i].st.head then 0 else l[i].st.head)=Z at*;unfold zg at hh';exact⟨ae,ae,_,by omega,i+1,_,by omega,rfl,rfl,⟨by omega,by omega⟩,rfl⟩
    .have q1:=qF B';apply sR;simp only[go_sem,seval,t0,t8,Yp,q1];exact⟨h',t1,hh',t5,t6⟩
   .rintro⟨S,X'⟩ ⟨WY,h',t1,hh',t5,t6⟩;simp only at WY t1 t5 t6;subst WY;refine ag.mix 9 ?_;have fin:∀x:Bool,(x=false->c<=120)->ai (.bool x) X' λr Z'=>(∃x,r=.bool x/\(x=false->l.length<=30/\∀x∈l,x.words.length<=120))/\Z'=X':=λx hx=>XX ⟨⟨_,rfl,λh=>⟨h30,λy hy=>by have:=hwc y hy;have:=hx h;omega⟩⟩,rfl⟩;by_cases p1:c>120
    .have q1:(c>120)=True:=L' p1;apply sR;simp only[go_sem,seval,t5,q1];exact fin _ (λh=>by cases h)
    .have q1:(c>120)=False:=H' p1;by_cases p2:h'>=1
     .have q2:(h'>=1)=True:=L' p2;have q3:(h'=0)=False:=H';have hq0:=Int.tdiv_nonneg hg0 (by omega:0<=h');have hq1:=Int.tdiv_le_self h' hg0;have r1:WI .i64 (g.tdiv h'):=ae;by_cases p4:g.tdiv h'>3000
      .have q4:(g.tdiv h'>3000)=True:=L' p4;apply sR;simp only[go_sem,seval,t1,t5,t6,q1,q2,q3,q4,r1];exact fin _ (λ_=>by omega)
      .have q4:(g.tdiv h'>3000)=False:=H' p4;apply sR;simp only[go_sem,seval,t1,t5,t6,q1,q2,q3,q4,r1];exact fin _ (λ_=>by omega)
     .have q2:(h'>=1)=False:=H' p2;apply sR;simp only[go_sem,seval,t1,t5,q1,q2];exact fin _ (λ_=>by omega)
 .have q0:((l.length:Int)>30)=True:=L';apply sR;simp only[go_sem,seval,c22,Yp,q0];exact XX ⟨⟨_,rfl,λh=>by cases h⟩,rfl⟩
open Go.Proofs
def LK(l:List Yx):dv false (aG l)=some (.int .i64 l.length):=by simp[aG,dv]
open Go.Proofs
def qL(l:List YN):dv false (dg l)=some (.int .i64 l.length):=by simp[dg,dv]
def xz{U:ad}{l:List YN}{i:Nat}(h:i<l.length):bp U 5 (dg l) (.int .i64 i)=some (.rp (bB l[i])):=by simp[dg,bp,h,bB]
def RV(U:ad)(l:List Yx):bO U false 1 (.rp (aG l))=some (aG l):=rfl
def EA(sz:Nat)(ks:List Nat):P':=⟨26,.seq (.reg false [⟨some 4,.mov (.c (.bool false)),none⟩]) (.seq (.seq (.reg false [⟨some 6,.mov (.t 0),none⟩,⟨some 7,.len false (.t 6),none⟩,⟨some 8,.mov (.t 1),none⟩,⟨some 9,.len false (.t 8),none⟩,⟨some 10,.bin .neq (.t 7) (.t 9),none⟩]) (.cond (.t 10) (.seq (.reg false [⟨some 4,.mov (.c (.bool false)),none⟩]) .ret) .skip)) (.seq (.seq (.reg false [⟨some 5,.mov (.c (.int .i64 0)),none⟩]) (.block 0 (.loop (.seq (.seq (.reg false [⟨some 11,.mov (.t 5),none⟩,⟨some 12,.mov (.t 0),none⟩,⟨some 13,.len false (.t 12),none⟩,⟨some 14,.bin .lss (.t 11) (.t 13),none⟩]) (.cond (.t 14) .skip (.exit 0))) (.seq (.block 1 (.seq (.reg true [⟨some 17,.mov (.t 0),none⟩,⟨some 18,.mov (.t 5),none⟩,⟨some 19,.idxA sz (.t 17) (.t 18),none⟩,⟨some 20,.load true sz (.t 19),none⟩,⟨some 21,.mov (.t 1),none⟩,⟨some 22,.mov (.t 5),none⟩,⟨some 23,.idxA sz (.t 21) (.t 22),none⟩,⟨some 24,.load true sz (.t 23),none⟩,⟨some 25,.eqS true ks (.t 20) (.t 24),none⟩]) (.cond (.t 25) (.seq (.reg false [⟨some 4,.mov (.c (.bool false)),none⟩]) .ret) .skip))) (.reg false [⟨some 15,.mov (.t 5),none⟩,⟨some 16,.bin .add (.t 15) (.c (.int .i64 1)),none⟩,⟨some 5,.mov (.t 16),none⟩])))))) (.seq (.reg false [⟨some 4,.mov (.c (.bool true)),none⟩]) .ret))),[.tmp (.t 4)]⟩
def Lf{P:Program}{f:FuncId}{fn:Func}(hf:P.funcs[f]?=some fn){sz:Nat}{ks:List Nat}(hc:cfn P fn=some (EA sz ks))(hk:fE P f=true){α:Type}[DecidableEq α](enc:α->V)
 (he:∀a b,vG true ks (enc a) (enc b)=some (.bool (decide (a≠b))))(hl:∀U a,bO U true sz (.rp (enc a))=some (enc a))(xs ys:List α)(hx:xs.length<=1000000000000):
 aE P f [.sl sz (xs.map enc),.sl sz (ys.map enc)] (.bool (decide (xs=ys))):=λU=>by
 refine av.mf hf hc hk (by simp[EA]) ?_;refine ag.mix 6 ?_;have n1:dv false (.sl sz (xs.map enc))=some (.int .i64 xs.length):=by simp[dv]
 have n2:dv false (.sl sz (ys.map enc))=some (.int .i64 ys.length):=by simp[dv]
 by_cases hlen:xs.length=ys.length
 .have q:((xs.length:Int)≠ys.length)=False:=H';apply sR;simp only[go_sem,seval,EA,n1,n2,q];refine ag.loop (λm st=>∃j,j<=xs.length/\m=xs.length-j/\xs.take j=ys.take j/\st.s 0=.sl sz (xs.map enc)/\st.s 1=.sl sz (ys.map enc)/\st.s 5=.int .i64 j/\st.U=U) xs.length ⟨0,by omega,rfl,rfl,rfl,rfl,rfl,rfl⟩ ?_;rintro m ⟨S,Z'⟩ ⟨j,hj,rfl,ht,t0,t1,t5,WY⟩;simp only at t0 t1 t5 WY;subst WY;refine ag.mix 6 ?_;by_cases B':j<xs.length
  .have q1:=qT B';have YR:j<ys.length:=by omega
   have i1:∀U,bp U sz (.sl sz (xs.map enc)) (.int .i64 j)=some (.rp (enc xs[j])):=λU=>by simp[bp,B']
   have i2:∀U,bp U sz (.sl sz (ys.map enc)) (.int .i64 j)=some (.rp (enc ys[j])):=λU=>by simp[bp,YR]
   have hee:=he xs[j] ys[j];have tx:=Yz B';have ty:=Yz YR;by_cases hq:xs[j]=ys[j]
   .rw[show decide (xs[j]≠ys[j])=false by simpa using hq]at hee;apply sR;simp only[BB,seval,aZ,eD,aD,dT,gW,Yi.nothing,t0,t1,t5,n1,q1,i1,i2,hl,hee];exact⟨ae,_,by omega,j+1,by omega,rfl,by rw[tx,ty,ht,hq],by simp⟩
   .rw[show decide (xs[j]≠ys[j])=true by simpa using hq]at hee;apply sR;simp only[BB,seval,aZ,eD,aD,dT,gW,Yi.nothing,t0,t1,t5,n1,q1,i1,i2,hl,hee];refine ai.same ?_;have:¬xs=ys:=λh=>hq (by simp only[h]);rw[XJ this]
  .have q1:=qF B';apply sR;simp only[go_sem,seval,t0,t5,n1,q1];refine ai.same ?_;rw[lf (by omega),lf (by omega)]at ht;rw[XK ht]
 .have q:((xs.length:Int)≠ys.length)=True:=L';apply sR;simp only[go_sem,seval,EA,n1,n2,q];refine ai.same ?_;rw[XJ λh=>hlen (by rw[h])]
open Go.Proofs
def yn(l:List Yx):(aG l).cells=[aG l]:=rfl
def yK(l:List Yx):(aG l).stays=true:=rfl
def Nc(a b:Yx):vG true [0,0,0,0,0,0,0] (aJ a) (aJ b)=some (.bool (decide (a≠b))):=by
 obtain⟨a1,a2,a3,a4,a5,a6,a7⟩:=a;obtain⟨b1,b2,b3,b4,b5,b6,b7⟩:=b;simp only[vG,aJ,jN,ki,l8,vI,YI,List.length_nil,true_and,↓reduceIte,ne_eq,Yx.mk.injEq];by_cases h1:a1=b1<;>simp[h1]
def NW(a b:T'):vG true [0,0,0,0,0,0,0] (az a) (az b)=some (.bool (decide (a≠b))):=by
 obtain⟨a1,a2,a3,a4,a5,a6,a7⟩:=a;obtain⟨b1,b2,b3,b4,b5,b6,b7⟩:=b;simp only[vG,az,jN,ki,l8,vI,YI,List.length_nil,true_and,↓reduceIte,ne_eq,T'.mk.injEq];by_cases h1:a1=b1<;>simp[h1]
def SE(p:YN):∀U:ad,bO U true 5 (.rp (bB p))=some (bB p):=λ_=>rfl
def jr(p:YN):(bB p).cells=[vI p.no,vI p.kind,aG p.hs,aG p.fs,aG p.ls]:=rfl
def yD(p:YN):(bB p).stays=true:=rfl
def xe(a b:List Yx)(h:a.length<=2000000):aE prog 60 [aG a,aG b] (.bool (decide (a=b))):=
 Lf func60 (sz:=7) (ks:=[0,0,0,0,0,0,0]) (e60.b.trans rfl) e60.c aJ Nc (λ_ _=>rfl) a b (by omega)
instance:DecidableEq YN:=λa b=>decidable_of_iff (a.no=b.no/\a.kind=b.kind/\a.hs=b.hs/\a.fs=b.fs/\a.ls=b.ls) (by cases a;cases b;simp)
def N5(p q:YN)(hp:p.hs.length<=2000000/\p.fs.length<=2000000/\p.ls.length<=2000000):aE prog 20 [bB p,bB q] (.bool (decide (p=q))):=λU=>by
 refine e20.q ?_;have hs:=aa.refl U;have c1:=xe p.hs q.hs hp.1;have c2:=xe p.fs q.fs hp.2.1;have c3:=xe p.ls q.ls hp.2.2;generalize hX:decide (p=q)=X;have hX':(p.no=q.no/\p.kind=q.kind/\p.hs=q.hs/\p.fs=q.fs/\p.ls=q.ls)↔p=q:=by cases p;cases q;simp
 refine mS 5 ?_;simp only[go_sem,seval,c20,jr,yD];refine al hs λi2 Z2 s2 a2 f2 _ hs=>?_;simp only[go_sem,seval,jr,yD];refine al hs λi3 Z3 s3 a3 f3 _ hs=>?_;replace a2:=s3 _ _ a2;by_cases h1:p.no=q.no
 .have q1:(p.no=q.no)=True:=L' h1;by_cases h2:p.kind=q.kind
  .have q2:(p.kind=q.kind)=True:=L' h2;simp only[go_sem,seval,a2,a3,q1,q2,jr];refine pR rfl (c1 _) ?_;by_cases h3:p.hs=q.hs
   .rw[XK h3];apply sR;simp only[go_sem,seval,a2,a3,jr];refine pR rfl (c2 _) ?_;by_cases h4:p.fs=q.fs
    .rw[XK h4];apply sR;simp only[go_sem,seval,a2,a3,jr];refine pR rfl (c3 _) ?_;by_cases h5:p.ls=q.ls
     .rw[XK h5];apply sR;simp only[go_sem,seval];exact ai.pure hs (by rw[<-hX,XK (hX'.1 ⟨h1,h2,h3,h4,h5⟩)])
     .rw[XJ h5];apply sR;simp only[go_sem,seval];exact ai.pure hs (by rw[<-hX,XJ λh=>h5 (hX'.2 h).2.2.2.2])
    .rw[XJ h4];apply sR;simp only[go_sem,seval];exact ai.pure hs (by rw[<-hX,XJ λh=>h4 (hX'.2 h).2.2.2.1])
   .rw[XJ h3];apply sR;simp only[go_sem,seval];exact ai.pure hs (by rw[<-hX,XJ λh=>h3 (hX'.2 h).2.2.1])
  .have q2:(p.kind=q.kind)=False:=H' h2;simp only[go_sem,seval,a2,a3,q1,q2,jr];exact ai.pure hs (by rw[<-hX,XJ λh=>h2 (hX'.2 h).2.1])
 .have q1:(p.no=q.no)=False:=H' h1;simp only[go_sem,seval,a2,a3,q1,jr];exact ai.pure hs (by rw[<-hX,XJ λh=>h1 (hX'.2 h).1])
def Kb(xs ys:List YN)(hx:xs.length<=10000000000)(hl:∀p∈xs,p.hs.length<=2000000/\p.fs.length<=2000000/\p.ls.length<=2000000):aE prog 26 [dg xs,dg ys] (.bool (decide (xs=ys))):=λU=>by
 refine e26.q ?_;have n1:=qL xs;have n2:=qL ys;refine ag.mix 6 ?_;by_cases hlen:xs.length=ys.length
 .have q:((xs.length:Int)≠ys.length)=False:=H';apply sR;simp only[go_sem,seval,c26,n1,n2,q];refine ag.loop (λm st=>∃j,j<=xs.length/\m=xs.length-j/\xs.take j=ys.take j/\st.s 0=dg xs/\st.s 1=dg ys/\st.s 5=.int .i64 j/\st.U=U) xs.length ⟨0,by omega,rfl,rfl,rfl,rfl,rfl,rfl⟩ ?_;rintro m ⟨S,Z'⟩ ⟨j,hj,rfl,ht,t0,t1,t5,WY⟩;simp only at t0 t1 t5 WY;subst WY;refine ag.mix 6 ?_;by_cases B':j<xs.length
  .have q1:=qT B';have YR:j<ys.length:=by omega
   have i1:=λU=>xz (U:=U) B';have i2:=λU=>xz (U:=U) YR;have hee:=N5 xs[j] ys[j] (hl _ (Xo B'));have tx:=Yz B';have ty:=Yz YR;have r1:=rI j;have hxy:xs[j]≠ys[j]->xs≠ys:=λhn h=>hn (by simp only[h]);generalize xs[j]=x at*;generalize ys[j]=y at*;have l1:=SE x;have l2:=SE y;apply sR;simp only[go_sem,seval,t0,t1,t5,n1,q1,i1,i2,l1,l2];refine pJ rfl hee ?_;by_cases hq:x=y
   .rw[XK hq];apply sG;simp only[go_sem,seval,t0,t1,t5,r1];exact⟨_,by omega,j+1,by omega,rfl,by rw[tx,ty,ht,hq],by simp⟩
   .rw[XJ hq];apply sG;simp only[go_sem,seval];exact ai.same (by rw[XJ (hxy hq)])
  .have q1:=qF B';apply sR;simp only[go_sem,seval,t0,t5,n1,q1];refine ai.same ?_;rw[lf (by omega),lf (by omega)]at ht;rw[XK ht]
 .have q:((xs.length:Int)≠ys.length)=True:=L';apply sR;simp only[go_sem,seval,c26,n1,n2,q];exact ai.same (by rw[XJ λh=>hlen (by rw[h])])
open Go.Proofs
def nG(b:Bk):br b=.agg [ay b.nodes,vI b.w,vI b.h,aT b.atoms,ax b.WA,vI b.U',aY b.WT]:=rfl
structure BkQ(b:Bk):Prop extends BkFull b where
 nn:b.nodes.length<=2000
 his:aE prog 90 [ay b.nodes] (.bool (Xh b.nodes))
def KB{b:Bk}(hb:BkQ b){s:XP}(h0:0<=s.atom)(WZ:b.atoms≠[]):∃k n:Nat,min s.atom ((b.atoms.length:Int)-1)=k/\∃hk:k<b.atoms.length,b.atoms[k].node=n/\n<b.nodes.length/\aU b s=px b.nodes n b.h:=by
 have XH:=rW.2 WZ;obtain⟨k,hk⟩:∃k:Nat,min s.atom ((b.atoms.length:Int)-1)=k:=⟨(min s.atom ((b.atoms.length:Int)-1)).toNat,by omega⟩
 have Zb:k<b.atoms.length:=by omega
 obtain⟨g1,g2⟩:=hb.nod _ (Xo Zb);obtain⟨n,hn⟩:∃n:Nat,b.atoms[k].node=n:=⟨b.atoms[k].node.toNat,by omega⟩
 refine⟨k,n,hk,Zb,hn,by omega,?_⟩;have hm:gj b.nodes b.h=true:=by
  unfold gj;rw[hb.isb,XK ⟨hb.h1,hb.h2⟩];rfl
 rw[aU,au WZ,hk,aV Zb,hn,rK,ak ⟨hm,by omega,by omega⟩,eU]
def Kk(b:Bk)(hb:BkQ b)(s:XP)(h0:0<=s.atom):aE prog 62 [br b,aL s] (jL (aU b s)):=λU=>by
 refine e62.q ?_;have hs:=aa.refl U;have Yo:=eL b.atoms;have ZN:=hb.len;refine mS 6 ?_;simp only[go_sem,seval,c62,nG,aL];refine al hs λi2 Z2 s2 a2 f2 _ hs=>?_;simp only[go_sem,seval];refine al hs λi3 Z3 s3 a3 f3 _ hs=>?_;replace a2:=s3 _ _ a2;simp only[go_sem,seval];refine al hs λi4 Z4 s4 a4 f4 z4 hs=>?_;obtain⟨n24,a2⟩:=WG a2 f4 s4;obtain⟨n34,a3⟩:=WG a3 f4 s4;have hkc:∀x:Kp,(jL x).cells=[aN x.WU,vI x.high,vI x.body]:=λ_=>rfl;have hks:∀x:Kp,(jL x).stays=true:=λ_=>rfl;by_cases WZ:b.atoms=[]
 .have q:((b.atoms.length:Int)=0)=True:=L' (by rw[WZ];rfl);simp only[go_sem,seval,a2,a4,Yo,q];rw[show aU b s=⟨[],0,b.h⟩from ak WZ];exact⟨_,U,hs.ao z4,Wk.agg (vs':=[aN [],vI 0,vI b.h]) ⟨Wk.aB 1,Wk.refl (hs.ao z4) _,Wk.refl (hs.ao z4) _,trivial⟩,rfl,rfl⟩
 .have XH:=rW.2 WZ;have q:((b.atoms.length:Int)=0)=False:=H';obtain⟨k,n,hk,Zb,hn,Yb,hr⟩:=KB hb h0 WZ;have hoc:=HM b.nodes hb.qQ hb.isb hb.nn hb.his n Yb b.h hb.h1 hb.h2;rw[hr];have r1:WI .i64 ((b.atoms.length:Int)-1):=ae;have Xx:=λU=>dS (U:=U) Zb;generalize b.atoms[k]=x at*;have hxe:bE x=.agg [vI x.kind,vI n,vI x.fr,vI x.to,vI x.x,vI x.y,vI x.w,vI x.h]:=by rw[<-hn];rfl
  simp only[go_sem,seval,a2,a3,Yo,q,r1,dN,hk,Xx,hxe];refine pJ rfl hoc ?_;generalize px b.nodes n b.h=X at*;apply sG;simp only[go_sem,seval,a4,hkc,hks];exact ai.pure (hs.ao z4) rfl
def H8(b:Bk)(hb:BkQ b)(X:Kp)(hX:Pm b X):aE prog 63 [br b,jL X] (aG (ZK b.nodes b.w X.WU).1):=λU=>by
 refine e63.q ?_;have hs:=aa.refl U;obtain⟨H,hi,bo⟩:=X;have hlen:=hX.len;have hmem:=hX.mem;have eI:=hX.sum;have hhi:=hX.high;simp only at hlen hmem eI hhi;have hlH:=cV H;have h0:∀a∈H,0<=(Yw b.nodes a).head:=λa ha=>by
  obtain⟨n,rfl,Yb⟩:=hmem a ha;rw[eG Yb];exact(ec hb.isb Yb).st.head.1
 have hps:=Aj b.nodes b.w H h0;have Zh:=zK b.nodes b.w;have WM:∀i (h:i<H.length),ZK b.nodes b.w (H.take (i+1))=hdS b.nodes b.w (ZK b.nodes b.w (H.take i)) H[i]:=λi h=>by rw[Yz h,uR]
 refine mS 9 ?_;simp only[go_sem,seval,c63,nG,jL];refine al hs λi2 Z2 s2 a2 f2 _ hs=>?_;simp only[go_sem,seval];refine al hs λi3 Z3 s3 a3 f3 _ hs=>?_;obtain⟨n23,a2⟩:=WG a2 f3 s3;simp only[go_sem,seval];refine ag.loop (λm st=>∃i:Nat,i<=H.length/\m=H.length-i/\aa U st.U/\aq U st.U 123 7 (st.s 5) ((ZK b.nodes b.w (H.take i)).1.map aJ)/\st.U i2=some ⟨40,7,[.agg [ay b.nodes,vI b.w,vI b.h,aT b.atoms,ax b.WA,vI b.U',aY b.WT]]⟩/\st.U i3=some ⟨107,3,[.agg [aN H,vI hi,vI bo]]⟩/\st.s 2=.ptr i2 0 0/\st.s 3=.ptr i3 0 0/\st.s 6=vI (ZK b.nodes b.w (H.take i)).2/\st.s 7=vI i) H.length ?_ ?_
 .exact⟨0,by omega,rfl,hs,aq.start,a2,a3,rfl,rfl,rfl,rfl⟩
 .clear a2 a3 hs;rintro m ⟨S,J⟩ ⟨i,hi',rfl,hs,ho,a2,a3,k2,k3,k6,k7⟩;simp only at hs ho a2 a3 k2 k3 k6 k7;generalize hv5:S 5=v5 at ho;refine ag.mix 9 ?_;by_cases B':i<H.length
  .have q:=qT B';have Xx:=λU=>de (U:=U) B';obtain⟨n,hen,Yb⟩:=hmem _ (Xo B');have Zv:=WM i B';have hp1:=hps i;have hp2:=hps (i+1);have hfl':=Zh (H.take i);rw[jb,Nat.min_eq_left (by omega)]at hfl';rw[hen]at Xx Zv;have XO:=λU=>bI (U:=U) (l:=b.nodes) (a:=n) Yb;rw[hdS,eG Yb]at Zv;rw[Zv]at hp2;have r1:=rI i;generalize b.nodes[n]=nd at*;generalize ZK b.nodes b.w (H.take i)=Y at*;obtain⟨F,y⟩:=Y;simp only at Zv hp1 hp2 hfl' ho k6;have r2:WI .i64 (y+nd.st.head):=ae;have Yd:(F.map aJ).length=i:=by simp[hfl']
   have W1:(i+1)*57<=140737488355328:=by omega
   apply sR;simp only[go_sem,seval,k2,k3,k6,k7,hv5,a2,a3,q,hlH,Xx,XO,Nd.cells];refine bF λi38 Z38 s38 a38 f38=>?_;obtain⟨idA,Xg,hdv,XG,WK⟩:=ho.mM s38;have b2:=(XG i2 (ho.ck a2 (by simp)) Z38).trans (s38 _ _ a2);have b3:=(XG i3 (ho.ck a3 (by simp)) Z38).trans (s38 _ _ a3);simp only[go_sem,seval,Xg,bl a38,Yd,W1];refine eu λi39 Z39 s39 a39 f39=>?_;have k39:=(WK U (aa.refl U) Z38 (hs.trans s38)).trans s39;have n39:U i39=none:=(hs.trans s38).none f39;have c2:=s39 _ _ b2;have c3:=s39 _ _ b3;simp only[go_sem,seval,k2,k3,k6,k7,r1,r2,c2,c3];refine⟨_,by omega,i+1,by omega,rfl,k39,?_,by simp[vI,Zv]⟩;rw[Zv,cX];exact aq.new (by simp;omega) (by rw[a39];rfl) n39
  .have q:=qF B';obtain rfl:i=H.length:=by omega
   rw[dR]at ho;apply sR;simp only[go_sem,seval,k3,k7,hv5,a3,q,hlH];exact ho.ni hs rfl
open Go.Proofs
def u5{x:T'}:∀(p:List T') (i j:Nat) (hj:j<p.length),(∀k (h:k<p.length),k<j->p[k]≠x)->p[j]=x->kg x p i=((i+j:Nat):Int)
 |[],_,j,hj,_,_=>by simp at hj
 |q::r,i,0,_,_,h=>by
  have:x=q:=h.symm;rw[kg,ak this];rfl
 |q::r,i,j+1,hj,hn,h=>by
  have h0:q≠x:=hn 0 (by simp) (by omega);rw[kg,au (λe=>h0 e.symm),u5 r (i+1) j (by simpa using hj) (λk hk hkj=>by
   have:=hn (k+1) (by simp;omega) (by omega);simpa using this) (by simpa using h)]
  congr 1;omega
def Eo{x:T'}:∀(p:List T') (i:Nat),(∀k (h:k<p.length),p[k]≠x)->kg x p i=-1
 |[],_,_=>rfl
 |q::r,i,h=>by
  have h0:q≠x:=h 0 (by simp);rw[kg,au (λe=>h0 e.symm)];exact Eo r (i+1) λk hk=>by
   have:=h (k+1) (by simp;omega);simpa using this
def L3{WA r:List T'}{x:T'}{a j:Nat}(haj:a<=j)(hj:j<WA.length)(hn:∀k (h:k<WA.length),a<=k->k<j->WA[k]≠x)(hx:WA[j]=x):iR WA (x::r) a=iR WA r (j+1):=by
 have e:kg x (WA.drop a) 0=((0+(j-a):Nat):Int):=by
  refine u5 _ 0 (j-a) (by rw[re];omega) (λk hk hkj=>?_) ?_
  .rw[List.getElem_drop];rw[re]at hk;exact hn _ (by omega) (by omega) (by omega)
  .rw[List.getElem_drop];have:a+(j-a)=j:=by omega
   simp only[this];exact hx
 rw[iR,e,au (by omega)];congr 1;omega
def K9{WA r:List T'}{x:T'}{a:Nat}(hn:∀k (h:k<WA.length),a<=k->WA[k]≠x):iR WA (x::r) a=false:=by
 rw[iR,Eo _ 0 (λk hk=>?_),ak (by omega)];rw[List.getElem_drop];rw[re]at hk;exact hn _ (by omega) (by omega)
def KV(b:Bk)(hb:BkFull b)(s:YG)(hp:s.bu.length<=1000000):aE prog 52 [br b,bP s] (.bool (decide (iZ b s))):=λU=>by
 refine e52.q ?_;have hs:=aa.refl U;have Yo:=eL b.atoms;have hlf:=cF b.WA;have Zh:=hb.flen;have hfc:=lz b.atoms s.s;obtain⟨⟨a,d,fr⟩,P⟩:=s;simp only at hp hfc;have hlp:=cF P;have hX:decide (iZ b ⟨⟨a,d,fr⟩,P⟩)=(iR b.WA P 0&&decide (cT b.atoms ⟨a,d,fr⟩\/a=b.atoms.length/\d=0)):=by
  rw[Bool.eq_iff_iff,decide_eq_true_iff,Ba,decide_eq_true_iff];exact Iff.rfl
 rw[hX];generalize hR:iR b.WA P 0=R;refine mS 7 ?_;simp only[go_sem,seval,c52,nG,bP];refine al hs λi2 Z2 s2 a2 f2 _ hs=>?_;simp only[go_sem,seval];refine al hs λi3 Z3 s3 a3 f3 _ hs=>?_;replace a2:=s3 _ _ a2;simp only[go_sem,seval];refine ag.loop (λm st=>∃i a':Nat,i<=P.length/\a'<=b.WA.length/\m=P.length-i/\R=iR b.WA (P.drop i) a'/\aa U st.U/\st.U i2=some ⟨40,7,[.agg [ay b.nodes,vI b.w,vI b.h,aT b.atoms,ax b.WA,vI b.U',aY b.WT]]⟩/\st.U i3=some ⟨27,4,[.agg [vI a,vI d,.bool fr,ax P]]⟩/\st.s 2=.ptr i2 0 0/\st.s 3=.ptr i3 0 0/\st.s 5=vI a'/\st.s 6=vI i) P.length ?_ ?_
 .exact⟨0,0,by omega,by omega,rfl,hR.symm,hs,a2,a3,rfl,rfl,rfl,rfl⟩
 .clear a2 a3 hs;rintro m ⟨S,J⟩ ⟨i,a',hi,ha',rfl,hRi,hs,a2,a3,k2,k3,k5,k6⟩;simp only at hs a2 a3 k2 k3 k5 k6;refine ag.mix 7 ?_;by_cases B':i<P.length
  .have q:=qT B';have hixP:=λU=>dO (U:=U) B';have hdP:P.drop i=P[i]::P.drop (i+1):=iT B';rw[hdP]at hRi;have hxe:az P[i]=.agg [vI P[i].node,vI P[i].side,vI P[i].anchor,vI P[i].x,vI P[i].y,vI P[i].w,vI P[i].h]:=rfl;generalize P[i]=x at*;have ldx:∀U,bO U true 7 (.rp (az x))=some (az x):=λ_=>rfl;have r1:=rI i;apply sR;simp only[go_sem,seval,k3,k6,a3,hlp,q];refine ag.fP (λst=>∃j:Nat,a'<=j/\j<=b.WA.length/\(∀k (h:k<b.WA.length),a'<=k->k<j->b.WA[k]≠x)/\(∀h:j<b.WA.length,b.WA[j]=x)/\st.U=J/\st.s 2=.ptr i2 0 0/\st.s 3=.ptr i3 0 0/\st.s 5=vI j/\st.s 6=vI i)
    (λm st=>∃j:Nat,a'<=j/\j<=b.WA.length/\m=b.WA.length-j/\(∀k (h:k<b.WA.length),a'<=k->k<j->b.WA[k]≠x)/\st.U=J/\st.s 2=.ptr i2 0 0/\st.s 3=.ptr i3 0 0/\st.s 5=vI j/\st.s 6=vI i) (b.WA.length-a') ?_ ?_ ?_
   .exact⟨a',by omega,ha',rfl,λk h h1 h2=>by omega,rfl,k2,k3,k5,k6⟩
   .clear k2 k3 k5 k6;rintro m ⟨S,X'⟩ ⟨j,haj,hj,rfl,hz,WY,k2,k3,k5,k6⟩;simp only at WY k2 k3 k5 k6;subst WY;refine ag.mix 7 ?_;by_cases hjl:j<b.WA.length
    .have u:=qT hjl;have hixF:=λU=>dO (U:=U) hjl;have hz2:b.WA[j]≠x->∀k (h:k<b.WA.length),a'<=k->k<j+1->b.WA[k]≠x:=λhn k h h1 h2=>by
      by_cases e:k=j
      .subst e;exact hn
      .exact hz k h h1 (by omega)
     have hz3:b.WA[j]=x->∀h:j<b.WA.length,b.WA[j]=x:=λe _=>e;have heq:=NW b.WA[j] x;have r2:=rI j;have ldy:∀U,bO U true 7 (.rp (az b.WA[j]))=some (az b.WA[j]):=λ_=>rfl;by_cases hyx:b.WA[j]=x
     .rw[XJ (λh=>h hyx)]at heq;have hz4:=hz3 hyx;clear hz2 hz3 hyx;generalize b.WA[j]=y at heq hixF ldy;apply sR;simp only[BB,seval,aZ,eD,aD,dT,gW,jj,jg,Yi.nothing,k2,k3,k5,k6,a2,a3,hlf,u,hixF,hixP,ldx,ldy,heq,V.xX];exact⟨j,haj,hj,hz,hz4,rfl⟩
     .rw[XK hyx]at heq;have hz4:=hz2 hyx;clear hz2 hz3 hyx;generalize b.WA[j]=y at heq hixF ldy;apply sR;simp only[BB,seval,aZ,eD,aD,dT,gW,jg,Yi.nothing,k2,k3,k5,k6,a2,a3,hlf,u,hixF,hixP,ldx,ldy,heq,r2,V.xX];exact⟨_,by omega,j+1,by omega,by omega,rfl,hz4,by simp[vI]⟩
    .have u:=qF hjl;apply sR;simp only[go_sem,seval,k2,k3,k5,k6,a2,hlf,u];exact⟨j,haj,hj,hz,λh=>absurd h hjl,rfl⟩
   .clear k2 k3 k5 k6;rintro⟨S,X'⟩ ⟨j,haj,hj,hz,hjx,WY,k2,k3,k5,k6⟩;simp only at WY k2 k3 k5 k6;subst WY;refine ag.mix 7 ?_;by_cases hjl:j=b.WA.length
    .have u:((j:Int)=b.WA.length)=True:=L';rw[hRi,K9 λk h h1=>hz k h h1 (by omega),Bool.false_and];apply sR;simp only[go_sem,seval,k2,k5,a2,hlf,u];exact ai.pure hs rfl
    .have u:((j:Int)=b.WA.length)=False:=H';have r2:=rI j;rw[L3 haj (by omega) hz (hjx (by omega))]at hRi;apply sR;simp only[go_sem,seval,k2,k3,k5,k6,a2,a3,hlf,u,r1,r2];exact⟨_,by omega,i+1,j+1,by omega,by omega,rfl,hRi,hs,by simp[vI]⟩
  .have q:=qF B';rw[List.drop_of_length_le (by omega),iR]at hRi;rw[hRi,Bool.true_and];apply sR;simp only[go_sem,seval,k2,k3,k6,a2,a3,hlp,q];refine pR rfl (hfc _) ?_;by_cases hm:cT b.atoms ⟨a,d,fr⟩
   .rw[XK hm,XK (.inl hm)];apply sR;simp only[go_sem,seval];exact ai.pure hs rfl
   .rw[XJ hm];by_cases h1:a=b.atoms.length
    .have u1:(a=b.atoms.length)=True:=L' h1;by_cases h2:d=0
     .have u2:(d=0)=True:=L' h2;rw[XK (.inr ⟨h1,h2⟩)];apply sR;simp only[go_sem,seval,k2,k3,a2,a3,Yo,u1,u2];exact ai.pure hs rfl
     .have u2:(d=0)=False:=H' h2;rw[XJ (λh=>h.elim hm λh=>h2 h.2)];apply sR;simp only[go_sem,seval,k2,k3,a2,a3,Yo,u1,u2];exact ai.pure hs rfl
    .have u1:(a=b.atoms.length)=False:=H' h1;rw[XJ (λh=>h.elim hm λh=>h1 h.1)];apply sR;simp only[go_sem,seval,k2,k3,a2,a3,Yo,u1];exact ai.pure hs rfl
def L5(b:Bk)(hb:BkFull b)(s:YG)(hp:s.bu.length<=1000000):aE prog 17 [br b,bP s] (.bool (decide (gA b s))):=λU=>by
 refine e17.q ?_;have hs:=aa.refl U;have Yo:=eL b.atoms;have hmc:=KV b hb s hp;have hX:gA b s↔(¬iZ b s\/s.s.atom=b.atoms.length/\s.s.free=false/\s.bu=[]):=Iff.rfl;have hD:decide (gA b s)=(!decide (iZ b s)||(decide (s.s.atom=b.atoms.length)&&(!s.s.free&&decide (s.bu=[])))):=by
  rw[Bool.eq_iff_iff];simp[hX]
 rw[hD];clear hX hD;generalize decide (iZ b s)=M at*;obtain⟨⟨a,d,fr⟩,P⟩:=s;simp only at hp hmc|-;have hlp:=cF P;have hP:((P.length:Int)=0)=(P=[]):=by
  apply propext;constructor
  .intro h;exact rf (by omega)
  .rintro rfl;rfl
 refine mS 5 ?_;simp only[go_sem,seval,c17,nG,bP];refine al hs λi2 Z2 s2 a2 f2 _ hs=>?_;simp only[go_sem,seval];refine al hs λi3 Z3 s3 a3 f3 _ hs=>?_;replace a2:=s3 _ _ a2;simp only[go_sem,seval,a2,a3];refine pR rfl (hmc _) ?_;cases M
 .apply sR;simp only[go_sem,seval];exact ai.pure hs rfl
 by_cases h1:a=b.atoms.length
 .have u1:(a=b.atoms.length)=True:=L' h1;rw[XK h1];cases fr
  .by_cases h2:P=[]
   .have u2:((P.length:Int)=0)=True:=by rw[hP];exact L' h2
    rw[XK h2];apply sR;simp only[go_sem,seval,a2,a3,Yo,hlp,u1,u2];exact ai.pure hs rfl
   .have u2:((P.length:Int)=0)=False:=by rw[hP];exact H' h2
    rw[XJ h2];apply sR;simp only[go_sem,seval,a2,a3,Yo,hlp,u1,u2];exact ai.pure hs rfl
  .apply sR;simp only[go_sem,seval,a2,a3,Yo,u1];exact ai.pure hs rfl
 .have u1:(a=b.atoms.length)=False:=H' h1;rw[XJ h1];apply sR;simp only[go_sem,seval,a2,a3,Yo,u1];exact ai.pure hs rfl
open Go.Proofs
def Dv(l:List T')(high:Int)(hl:l.length<=1000000)(hr:∀f∈l,WI .i64 (f.y+high))(U:ad):av prog 65 [ax l,vI high] U λr Z'=>aa U Z'/\aq U Z' 123 7 r ((l.map (cO high)).map aJ):=by
 refine e65.q ?_;have hs:=aa.refl U;have hn:=cF l;refine mS 7 ?_;simp only[go_sem,seval,c65];refine ag.loop (λm st=>∃i:Nat,i<=l.length/\m=l.length-i/\aa U st.U/\aq U st.U 123 7 (st.s 5) (((l.take i).map (cO high)).map aJ)/\st.s 0=ax l/\st.s 1=vI high/\st.s 6=vI i) l.length ?_ ?_
 .exact⟨0,by omega,rfl,hs,aq.start,rfl,rfl,rfl⟩
 .clear hs;rintro m ⟨S,J⟩ ⟨i,hi,rfl,hs,WR,k0,k1,k6⟩;simp only at hs WR k0 k1 k6;generalize hv5:S 5=v5 at WR;refine ag.mix 7 ?_;by_cases B':i<l.length
  .have q:=qT B';have Xx:=λU=>dO (U:=U) B';have eI:=hr _ (Xo B');have Yd:(((l.take i).map (cO high)).map aJ).length=i:=by simp;omega
   have W1:(i+1)*57<=140737488355328:=by omega
   have W4:((l.take (i+1)).map (cO high)).map aJ=((l.take i).map (cO high)).map aJ++[aJ (cO high l[i])]:=by
    rw[Yz B'];simp only[cX,eV,List.map_nil]
   generalize l[i]=f at*;apply sR;simp only[go_sem,seval,k0,k1,k6,hv5,q,hn,Xx,az,eI];refine bF λi42 Z42 s42 a42 f42=>?_;obtain⟨idA,Xg,WK⟩:=WR.dst s42;simp only[go_sem,seval,Xg,bl a42,Yd,W1];refine eu λi43 Z43 s43 a43 f43=>?_;have k43:=(WK U (aa.refl U) Z42 (hs.trans s42)).trans s43;have n43:U i43=none:=(hs.trans s42).none f43;simp only[go_sem,seval,k0,k1,k6];refine⟨ae,_,by omega,i+1,by omega,rfl,k43,?_,by simp⟩;rw[W4];exact aq.new (by simp;omega) a43 n43
  .have q:=qF B';obtain rfl:i=l.length:=by omega
   apply sR;simp only[go_sem,seval,k0,k6,hv5,q,hn];rw[dR]at WR;exact XX ⟨hs,WR⟩
def He(b:Bk)(hb:jH b):aE prog 61 [br b] (.WC [bB ⟨0,2,[],[],(b.WA.takeWhile (ij b.h)).map (cO 0)⟩,bP ⟨⟨0,0,false⟩,b.WA.dropWhile (ij b.h)⟩]):=λU=>by
 refine e61.q ?_;have hs:=aa.refl U;have hlf:=cF b.WA;have Zh:=hb.flen;have hfo:=hb.flo;have hfl0:=λ(l:List T') hl hr=>rP l 0 hl hr;refine mS 6 ?_;simp only[go_sem,seval,c61,nG];refine al hs λi1 Z1 s1 a1 f1 _ hs=>?_;simp only[go_sem,seval];refine al hs λi2 Z2 s2 a2 f2 z2 hs=>?_;replace a1:=s2 _ _ a1;simp only[go_sem,seval];refine al hs λi3 Z3 s3 a3 f3 z3 hs=>?_;replace a1:=s3 _ _ a1;obtain⟨n23,a2⟩:=WG a2 f3 s3;simp only[go_sem,seval,a1];refine ag.fP (λst=>∃j:Nat,j<=b.WA.length/\b.WA.takeWhile (ij b.h)=b.WA.take j/\b.WA.dropWhile (ij b.h)=b.WA.drop j/\st.U=Z3/\st.s 1=.ptr i1 0 0/\st.s 2=.ptr i2 0 0/\st.s 3=.ptr i3 0 0/\st.s 4=ax b.WA/\st.s 5=vI j)
  (λm st=>∃j:Nat,j<=b.WA.length/\m=b.WA.length-j/\(∀x∈b.WA.take j,ij b.h x=true)/\st.U=Z3/\st.s 1=.ptr i1 0 0/\st.s 2=.ptr i2 0 0/\st.s 3=.ptr i3 0 0/\st.s 4=ax b.WA/\st.s 5=vI j) b.WA.length ?_ ?_ ?_
 .exact⟨0,by omega,rfl,by simp,rfl,rfl,rfl,rfl,rfl,rfl⟩
 .rintro m ⟨S,J⟩ ⟨j,hj,rfl,hz,WY,k1,k2,k3,k4,k5⟩;simp only at WY k1 k2 k3 k4 k5;subst WY;refine ag.mix 6 ?_;by_cases B':j<b.WA.length
  .have q:=qT B';have Xx:=λU=>dO (U:=U) B';have W4:b.WA.take (j+1)=b.WA.take j++[b.WA[j]]:=Yz B';have ZO:b.WA[j]?=some b.WA[j]:=by simp[B']
   obtain⟨o0,⟨o1,o2⟩,o3,⟨o4,o5⟩⟩:=hfo _ (Xo B');generalize b.WA[j]=f at*;have r1:=rI j;have r2:WI .i64 (f.y+f.h):=ae;by_cases hle:f.y+f.h<=b.h
   .have q2:(f.y+f.h<=b.h)=True:=L' hle;apply sR;simp only[go_sem,seval,k1,k2,k3,k4,k5,a1,hlf,q,Xx,az,r1,r2,q2];refine⟨_,by omega,j+1,by omega,rfl,λx hx=>?_,by simp[vI]⟩;rw[W4]at hx;rcases dH.1 hx with hx|hx
    .exact hz x hx
    .rw[ja.1 hx];exact XK hle
   .have q2:(f.y+f.h<=b.h)=False:=H' hle;apply sR;simp only[go_sem,seval,k1,k2,k3,k4,k5,a1,hlf,q,Xx,az,r2,q2];obtain⟨e1,e2⟩:=qk (p:=ij b.h) hz (λx hx=>by rw[ZO]at hx;cases hx;exact XJ hle) hj;exact⟨j,hj,e1,e2,rfl⟩
  .have q:=qF B';apply sR;simp only[go_sem,seval,k1,k2,k3,k4,k5,hlf,q];obtain⟨e1,e2⟩:=qk (p:=ij b.h) hz (λx hx=>by rw[xi (by omega)]at hx;cases hx) hj;exact⟨j,hj,e1,e2,rfl⟩
 .rintro⟨S,J⟩ ⟨j,hj,e1,e2,WY,k1,k2,k3,k4,k5⟩;simp only at WY k1 k2 k3 k4 k5;subst WY;refine ag.mix 6 ?_;rw[e1,e2];have hsl1:=λU=>sU (U:=U) hj;have hsl2:=λU=>jx (U:=U) hj;have hfc:=hfl0 (b.WA.take j) (by rw[jb];omega) (λf hf=>by
   obtain⟨_,⟨o1,o2⟩,_⟩:=hfo f (rB hf);exact ae)
  have hsrc:∀U,bc U 7 (ax (b.WA.drop j))=some ((b.WA.drop j).map az):=λU=>by simp[ax,bc]
  have Yd:((b.WA.drop j).map az).length=b.WA.length-j:=by simp
  have W1:(b.WA.length-j)*57<=140737488355328:=by omega
  apply sR;simp only[BB,seval,aZ,eD,aD,Yi.nothing,k4,k5,hsl1];refine pJ rfl hfc ?_;generalize hFF:aG ((b.WA.take j).map (cO 0))=FF;have hFc:FF.cells=[FF]:=by rw[<-hFF];rfl
  have hFs:FF.stays=true:=by rw[<-hFF];rfl
  apply sG;simp only[go_sem,seval,hFc,hFs];refine bF λi36 Z36 s36 a36 f36=>?_;simp only[BB,seval,aZ,eD,aD,YV,k4,k5,hsl2,wF a36,hsrc,Yd,W1];refine eu λi40 Z40 s40 a40 f40=>?_;have s4:aa J Z40:=(s36.pI f36).trans s40;have n40:U i40=none:=(hs.trans s36).none f40;have c2:=s4 _ _ a2;have c3:=s4 _ _ a3;have hs40:=hs.trans s4;have hn40:aq U Z40 100 7 (.own i40 0 (b.WA.length-j)) ((b.WA.drop j).map az):=aq.new (by simp) a40 n40;simp only[go_sem,seval,k2,k3,c2,c3,ab n23.symm,ab n23,cc];have hn1:=(hn40.bH (o:=⟨58,5,[.agg [vI 0,vI 2,.aB,.aB,FF]]⟩) c2 (by simp))
  have hn2:=(hn1.bH (i:=i3) (o:=⟨27,4,[.agg [vI 0,vI 0,.bool false,.own i40 0 (b.WA.length-j)]]⟩) ((ab n23.symm).trans c3) (by simp))
  have WM:=(hs40.ao (o:=⟨58,5,[.agg [vI 0,vI 2,.aB,.aB,FF]]⟩) z2).ao (o:=⟨27,4,[.agg [vI 0,vI 0,.bool false,.own i40 0 (b.WA.length-j)]]⟩) z3;subst hFF;exact⟨_,U,WM,Wk.WC (vs':=[bB ⟨0,2,[],[],(b.WA.take j).map (cO 0)⟩,bP ⟨⟨0,0,false⟩,b.WA.drop j⟩]) ⟨Wk.agg (vs':=[vI 0,vI 2,aG [],aG [],aG ((b.WA.take j).map (cO 0))]) ⟨Wk.refl WM _,Wk.refl WM _,Wk.aB 7,Wk.aB 7,Wk.refl WM _,trivial⟩,Wk.agg (vs':=[vI 0,vI 0,.bool false,ax (b.WA.drop j)]) ⟨Wk.refl WM _,Wk.refl WM _,Wk.refl WM _,hn2.wk (aa.refl U) WM,trivial⟩,trivial⟩,rfl,rfl⟩
open Go.Proofs
def pt{b:Bk}{s:XP}{to kept shift body:Int}:(dG b.atoms b.WA s to kept shift body).1.length<=b.WA.length:=by
 unfold dG;split
 .have h1:=ou (tY b.atoms s kept) shift body (cN b.WA s to);have h2:(cN b.WA s to).length<=b.WA.length:=kx _ _ _;omega
 .simp
def Br{b:Bk}(hb:BkOk b){s:YG}(h:iZ b s):s.bu.length<=1000000:=by
 have h1:=(BA _ 0 h.1).length_le;rw[Du]at h1;have:=hb.flen;omega
def Jq{b:Bk}(hb:jH b){s:YG}(he:¬gA b s):(bY b s).1.hs.length<=1000000/\(bY b s).1.fs.length<=1000000/\(bY b s).1.ls.length<=2000000:=by
 have X9:iZ b s:=Decidable.byContradiction λh=>he (.inl h);have Yg:0<=s.s.atom:=by rcases X9.2 with h|h;exact h.1.1;omega
 have hg:=yg hb he;have ZE:=Br hb.toBkOk X9;have Zh:=hb.flen;have ZN:=hb.len;have YU:=qh hb.toBkFull s.s;have hr1:=jn hb.toBkFull s.s Yg;have hpf:∀f∈s.bu,0<=f.h:=λf hf=>hb.fh f (kA _ _ X9.1 f hf);have htl:=(nY (body:=(aU b s.s).body) s.bu 0 (Int.le_refl _) (by omega) hpf).1;refine⟨?_,?_,?_⟩
 .have h1:((ZK b.nodes b.w (aU b s.s).WU).1).length<=1000000:=by rw[zK];exact YU.len
  unfold bY;split
  .exact h1
  .split
   .exact h1
   .show(fM b (er b s)).hs.length<=_;rw[(nb b (er b s)).1];exact h1
 .rcases hg.kd with k|k
  .obtain⟨hm,h1,-,hc⟩:=hg.cut k;cases hc with
   |more q1 q2 q3 q4 q5=>omega
   |whole c r y q1 q2 q3 q4 q5 q6 q7 q8 q9=>omega
  .rw[hg.no' k];simp
 .have h0:(er b s).ls.length<=1000000:=by
   show([]++(bZ (aU b s.s).body s.bu 0).1.map (cO (aU b s.s).high)).length<=_;rw[jE,cJ];omega
  unfold bY;split
  .show([]++(b.WA.takeWhile (ij _)).map (cO _)).length<=_;rw[jE,cJ];have:=(List.takeWhile_sublist (l:=b.WA) (ij (bW b s.s .aB).body)).length_le;omega
  .split
   .exact jP h0 (by omega)
   .show(fM b (er b s)).ls.length<=_;unfold fM;split
    .show((er b s).ls++((dG b.atoms b.WA _ _ _ _ _).1).map _).length<=_;rw[gn,cJ];have:=pt (b:=b) (s:=({ er b s with kind:=1 }:Wx).s) (to:=((ze b (er b s)).toNat:Int)) (kept:=eJ b (er b s)) (shift:=({ er b s with kind:=1 }:Wx).shift) (body:=({ er b s with kind:=1 }:Wx).body);exact jP (Nat.add_le_add h0 (jP pt Zh)) (by omega)
    .show((er b s).ls++((dG b.atoms b.WA _ _ _ _ _).1).map _).length<=_;rw[gn,cJ];exact jP (Nat.add_le_add h0 (jP pt Zh)) (by omega)
open Go.Proofs
def aq.wV{K U:ad}{e sz i:Nat}{v:V}{rows:List V}{o:Ob}(h:aq K U e sz v rows)(h1:∀n,v≠.own i 0 n):aq K (C' U i o) e sz v rows:=by
 rcases h with h|⟨a,rfl,ho,hk⟩
 .exact .inl h
 .exact .inr ⟨a,rfl,by rw[Vc.ab (λe=>h1 _ (by rw[e]))];exact ho,hk⟩
def aq.pV{K U:ad}{e sz i:Nat}{v:V}{rows:List V}(h:aq K U e sz v rows)(hi:U i=none):∀n,v≠.own i 0 n:=λn hv=>by
 subst hv;rcases h with⟨h,_⟩|⟨id,h,g2,_⟩
 .cases h
 .cases h;rw[hi]at g2;cases g2
def Er(l:List Yx):∀U,bc U 7 (aG l)=some (l.map aJ):=λU=>by simp[aG,bc]
def DM{b:Bk}(hb:BkOk b)(s:XP)(WX:Int):-1152921504606846976<=gw b.atoms s WX/\gw b.atoms s WX<=1152921504606846976:=by
 unfold gw kS;split
 .split
  .rename_i h;have h1:=pc hb (s.atom-1);obtain⟨n,hn⟩:∃n:Nat,s.atom=n:=⟨s.atom.toNat,by omega⟩
   have Yb:n<b.atoms.length:=by omega
   have:=hb.tight _ (Xo Yb);rw[hn]at h1|-;rw[aV Yb];omega
  .omega
 .omega
def KE(b:Bk)(hb:BkQ b)(hg:jH b)(s:YG)(hm:iZ b s):aE prog 21 [br b,bP s] (.WC [bB (By b s).1,bP (By b s).2]):=λU=>by
 refine e21.q ?_;have hs:=aa.refl U;have h2:=hb.len;have ZE:=Br hb.toBkOk hm;have Yo:=eL b.atoms;have hph:∀f∈s.bu,0<=f.h:=λf hf=>hg.fh f (kA _ _ hm.1 f hf);have Yg:0<=s.s.atom:=by rcases hm.2 with h|h;exact h.1.1;omega
 have hdn:0<=s.s.done/\s.s.done<=18014398509481984:=by
  rcases hm.2 with h|h
  .exact rD hb.toBkOk h
  .omega
 have YU:=qh hb.toBkFull s.s;have hr1:=jn hb.toBkFull s.s Yg;have hrc:=Kk b hb s.s Yg;have hhc:=H8 b hb (aU b s.s) YU;have hac:=He b hg;have hlc:=Mp b.atoms hb.W3 s.s (by omega);have hmF:=hm.2;rw[nG]at hrc hhc hac;unfold By;obtain⟨⟨a,d,fr⟩,P⟩:=s;simp only at ZE hph Yg hdn YU hr1 hrc hhc hlc hmF|-;generalize aU b ⟨a,d,fr⟩=R at*;obtain⟨H,hi,bo⟩:=R;have hhi:=YU.high;have hbo:=YU.body;simp only at hr1 hhi hbo hhc|-;have htc:=Mr P ZE bo hr1 hbo.2 hph;obtain⟨g1,g2,g3,g4⟩:=nY (body:=bo) P 0 (Int.le_refl _) (by omega) hph;generalize bZ bo P 0=T at*;obtain⟨put,left,sh⟩:=T;simp only at htc g1 g2 g3 g4|-;have hfc:=λU=>Dv put hi (by omega) (λf hf=>by obtain⟨h1,h2⟩:=g2 f hf;exact ae) U;have hlP:=cF left;generalize hHH:(ZK b.nodes b.w H).1=HH at*;have hpc:∀p:YN,(bB p).cells=[vI p.no,vI p.kind,aG p.hs,aG p.fs,aG p.ls]:=λ_=>rfl;have hpp:∀p:YN,(bB p).stays=true:=λ_=>rfl;have hsc:∀x:YG,(bP x).cells=[vI x.s.atom,vI x.s.done,.bool x.s.free,ax x.bu]:=λ_=>rfl;have hss:∀x:YG,(bP x).stays=true:=λ_=>rfl;have hcz:=yn;have Yh:=yK;have fin:∀(Z1:ad) (kind:Int) (vf vl:V) (F L:List Yx) (x y:Int) (z:Bool) (Q:List T'),aa U Z1->aq U Z1 123 7 vf (F.map aJ)->aq U Z1 123 7 vl (L.map aJ)->
  ai (.WC [.agg [vI 0,vI kind,aG HH,vf,vl],.agg [vI x,vI y,.bool z,ax Q]]) Z1 λr Z'=>r=.WC [bB ⟨0,kind,HH,F,L⟩,bP ⟨⟨x,y,z⟩,Q⟩]/\Z'=U:=by
  intro Z1 kind vf vl F L x y z Q WM hF hL;exact⟨_,U,WM,Wk.WC (vs':=[bB ⟨0,kind,HH,F,L⟩,bP ⟨⟨x,y,z⟩,Q⟩]) ⟨Wk.agg (vs':=[vI 0,vI kind,aG HH,aG F,aG L]) ⟨Wk.refl WM _,Wk.refl WM _,Wk.refl WM _,hF.wk (aa.refl U) WM,hL.wk (aa.refl U) WM,trivial⟩,Wk.refl WM _,trivial⟩,rfl,rfl⟩
 refine ag.mix 23 ?_;have hes:bP ⟨⟨a,d,fr⟩,P⟩=.agg [vI a,vI d,.bool fr,ax P]:=rfl;have hee:aL ⟨a,d,fr⟩=.agg [vI a,vI d,.bool fr]:=rfl;apply sR;simp only[go_sem,seval,c21,nG,hes];refine al hs λi2 Z2 s2 a2 f2 _ hs=>?_;simp only[go_sem,seval];refine al hs λi3 Z3 s3 a3 f3 _ hs=>?_;replace a2:=s3 _ _ a2;simp only[go_sem,seval];refine al hs λi4 Z4 s4 a4 f4 z4 hs=>?_;obtain⟨n24,a2⟩:=WG a2 f4 s4;obtain⟨n34,a3⟩:=WG a3 f4 s4;simp only[go_sem,seval];refine al hs λi5 Z5 s5 a5 f5 z5 hs=>?_;replace a2:=s5 _ _ a2;replace a3:=s5 _ _ a3;obtain⟨ZW,a4⟩:=WG a4 f5 s5;by_cases h1:b.atoms=[]/\fr=true
 .rw[ak h1];obtain⟨h1,rfl⟩:=h1;have q:((b.atoms.length:Int)=0)=True:=L' (by rw[h1];rfl);simp only[go_sem,seval,a2,a3,Yo,q];refine pR rfl (hac _) ?_;generalize (⟨0,2,[],[],(b.WA.takeWhile (ij b.h)).map (cO 0)⟩:YN)=p;generalize (⟨⟨0,0,false⟩,b.WA.dropWhile (ij b.h)⟩:YG)=t;apply sR;simp only[go_sem,seval,a4,a5,hpc,hpp,hsc,hss,ab ZW,ab ZW.symm,cc];exact ai.pure ((hs.ao z4).ao z5) rfl
 rw[au h1];have q1:((b.atoms.length:Int)=0)=False\/((b.atoms.length:Int)=0)=True/\fr=false:=by
  by_cases h:b.atoms=[]
  .exact .inr ⟨L' (by rw[h];rfl),by cases fr;rfl;exact absurd ⟨h,rfl⟩ h1⟩
  .have:=rW.2 h;exact .inl (H')
 rcases q1 with q1|⟨q1,rfl⟩
 case inr=>
  have ha:a=b.atoms.length:=by
   rcases hmF with h|h
   .have:=h.1;simp only at this;have q:(b.atoms.length:Int)=0:=of_eq_true q1;omega
   .exact h.1
  simp only[go_sem,seval,a2,a3,Yo,q1];refine pS rfl (hrc _) ?_;simp only[go_sem,seval,jL];refine al hs λi7 Z7 s7 a7 f7 z7 hs=>?_;obtain⟨n27,a2⟩:=WG a2 f7 s7;obtain⟨n37,a3⟩:=WG a3 f7 s7;obtain⟨n47,a4⟩:=WG a4 f7 s7;obtain⟨n57,a5⟩:=WG a5 f7 s7;simp only[go_sem,seval,a7];generalize Yl:C' _ i7 _=Y7;replace a7:=XD Yl;replace a2:=WQ Yl n27 a2;replace a3:=WQ Yl n37 a3;replace a4:=WQ Yl n47 a4;replace a5:=WQ Yl n57 a5;replace hs:=Xz Yl hs z7;simp only[go_sem,seval,a7,a2];refine pS rfl (hhc _) ?_;simp only[go_sem,seval,hcz,Yh];refine al hs λi8 Z8 s8 a8 f8 z8 hs=>?_;obtain⟨n28,a2⟩:=WG a2 f8 s8;obtain⟨n38,a3⟩:=WG a3 f8 s8;obtain⟨ZS,a4⟩:=WG a4 f8 s8;obtain⟨n58,a5⟩:=WG a5 f8 s8;obtain⟨n78,a7⟩:=WG a7 f8 s8;simp only[go_sem,seval,a8];generalize Yc:C' _ i8 _=Y8;replace a8:=XD Yc;replace a2:=WQ Yc n28 a2;replace a3:=WQ Yc n38 a3;replace a4:=WQ Yc ZS a4;replace a5:=WQ Yc n58 a5;replace a7:=WQ Yc n78 a7;replace hs:=Xz Yc hs z8;simp only[go_sem,seval,a7,a3];refine pS rfl (htc _) ?_;simp only[go_sem,seval,a7];refine Yn rfl (hfc _) ?_;rintro vl Z9 ⟨s9,hvl⟩;replace hvl:=hvl.pj hs;replace hs:=hs.trans s9;replace a2:=s9 _ _ a2;replace a3:=s9 _ _ a3;replace a4:=s9 _ _ a4;replace a5:=s9 _ _ a5;replace a7:=s9 _ _ a7;replace a8:=s9 _ _ a8;obtain⟨cvl,svl⟩:=hvl.vc;have r1:WI .i64 (bo-sh):=ae;generalize hFL:put.map (cO hi)=FL at*;have hn45:=ZW.symm;have q2:(a=b.atoms.length)=True:=L' ha;rw[ak ha];apply sR;simp only[go_sem,seval,a8,a7,a3,a4,a5,cvl,svl,r1,q2,Yo,ab n78,ab n38,ab ZS,ab n58,ab ZW,ab hn45,cc,bU,bT];have v1:=hvl.bH (o:=⟨58,5,[.agg [vI 0,vI 2,aG HH,.aB,vl]]⟩) a8 (by simp);have v2:=v1.bH (i:=i4) (o:=⟨58,5,[.agg [vI 0,vI 2,aG HH,.aB,vl]]⟩) ((ab ZS).trans a4) (by simp);have v3:=v2.bH (i:=i5) (o:=⟨27,4,[.agg [vI b.atoms.length,vI 0,.bool false,ax left]]⟩) ((ab hn45).trans ((ab n58).trans a5)) (by simp);exact fin _ _ _ _ _ _ _ _ _ _ (((hs.ao z8).ao z4).ao z5) aq.start v3
 case inl=>
  simp only[go_sem,seval,a2,a3,Yo,q1];refine pS rfl (hrc _) ?_;simp only[go_sem,seval,jL];refine al hs λi7 Z7 s7 a7 f7 z7 hs=>?_;obtain⟨n27,a2⟩:=WG a2 f7 s7;obtain⟨n37,a3⟩:=WG a3 f7 s7;obtain⟨n47,a4⟩:=WG a4 f7 s7;obtain⟨n57,a5⟩:=WG a5 f7 s7;simp only[go_sem,seval,a7];generalize Yl:C' _ i7 _=Y7;replace a7:=XD Yl;replace a2:=WQ Yl n27 a2;replace a3:=WQ Yl n37 a3;replace a4:=WQ Yl n47 a4;replace a5:=WQ Yl n57 a5;replace hs:=Xz Yl hs z7;simp only[go_sem,seval,a7,a2];refine pS rfl (hhc _) ?_;simp only[go_sem,seval,hcz,Yh];refine al hs λi8 Z8 s8 a8 f8 z8 hs=>?_;obtain⟨n28,a2⟩:=WG a2 f8 s8;obtain⟨n38,a3⟩:=WG a3 f8 s8;obtain⟨ZS,a4⟩:=WG a4 f8 s8;obtain⟨n58,a5⟩:=WG a5 f8 s8;obtain⟨n78,a7⟩:=WG a7 f8 s8;simp only[go_sem,seval,a8];generalize Yc:C' _ i8 _=Y8;replace a8:=XD Yc;replace a2:=WQ Yc n28 a2;replace a3:=WQ Yc n38 a3;replace a4:=WQ Yc ZS a4;replace a5:=WQ Yc n58 a5;replace a7:=WQ Yc n78 a7;replace hs:=Xz Yc hs z8;simp only[go_sem,seval,a7,a3];refine pS rfl (htc _) ?_;simp only[go_sem,seval,a7];refine Yn rfl (hfc _) ?_;rintro vl Z9 ⟨s9,hvl⟩;replace hvl:=hvl.pj hs;replace hs:=hs.trans s9;replace a2:=s9 _ _ a2;replace a3:=s9 _ _ a3;replace a4:=s9 _ _ a4;replace a5:=s9 _ _ a5;replace a7:=s9 _ _ a7;replace a8:=s9 _ _ a8;obtain⟨cvl,svl⟩:=hvl.vc;have r1:WI .i64 (bo-sh):=ae;generalize hFL:put.map (cO hi)=FL at*;have hn45:=ZW.symm;by_cases ha:a=b.atoms.length
  .have ha':=ha;have q2:(a=b.atoms.length)=True:=L' ha;rw[ak ha];apply sR;simp only[go_sem,seval,a8,a7,a3,a4,a5,cvl,svl,r1,q2,Yo,ab n78,ab n38,ab ZS,ab n58,ab ZW,ab hn45,cc,bU,bT];have v1:=hvl.bH (o:=⟨58,5,[.agg [vI 0,vI 2,aG HH,.aB,vl]]⟩) a8 (by simp);have v2:=v1.bH (i:=i4) (o:=⟨58,5,[.agg [vI 0,vI 2,aG HH,.aB,vl]]⟩) ((ab ZS).trans a4) (by simp);have v3:=v2.bH (i:=i5) (o:=⟨27,4,[.agg [vI b.atoms.length,vI 0,.bool false,ax left]]⟩) ((ab hn45).trans ((ab n58).trans a5)) (by simp);exact fin _ _ _ _ _ _ _ _ _ _ (((hs.ao z8).ao z4).ao z5) aq.start v3
  .have q2:(a=b.atoms.length)=False:=H' ha;rw[au ha];have hfm:=hmF.resolve_right λh=>ha h.1;have hleft:(left≠[])↔(left.length:Int)>0:=by
    constructor
    .intro h;have:=rW.2 h;omega
    .intro h e;rw[e]at h;simp at h
   by_cases w1:(left.length:Int)>0
   .have q3:((left.length:Int)>0)=True:=L' w1;rw[ak (.inl (hleft.2 w1))];apply sR;simp only[go_sem,seval,a8,a7,a3,cvl,svl,r1,q2,q3,Yo,hlP,ab n78,ab n38,cm];generalize hqP:C' _ i8 _=ZP;have hvl_:aq U ZP 123 7 vl (FL.map aJ):=by rw[<-hqP];exact hvl.bH a8 (by simp)
    replace a8:=XD hqP;replace a7:=WQ hqP n78 a7;replace a2:=WQ hqP n28 a2;replace a3:=WQ hqP n38 a3;replace a4:=WQ hqP ZS a4;replace a5:=WQ hqP n58 a5;replace hs:=Xz hqP hs z8;have v45:∀o p,aq U (C' (C' ZP i4 o) i5 p) 123 7 vl (FL.map aJ):=λo p=>(hvl_.bH a4 (by simp)).bH ((ab hn45).trans a5) (by simp);refine ag.wm (by kernel_rfl) 8 (.leaf [[],[],[1],[],[2,3,1],[0],[4,5,0,1,2,3]] [0,1,2,3,4,5,6]) (by kernel_rfl) ?_;refine GT.gZ (its:=[0,2,4,6,8,10,5,12]) (by kernel_rfl) ?_;refine cI (n:=0) [5,12] [0,2,4,6,8,10] [_,_,_,_,_,_] rfl rfl ?_;simp only[go_sem,seval,a8,a3,a4,bU,bT];refine dy rfl (by simp only[go_sem,seval,a3,ab n34]) ?_;refine cI (n:=0) [] [12] [_] rfl rfl ?_;simp only[go_sem,seval,a5,ab hn45];apply sR;simp only[go_sem,seval,ab ZW,cc]
    first
     |exact fin _ _ _ _ _ _ _ _ _ _ ((hs.ao z4).ao z5) aq.start (v45 _ _)
     |exact fin _ _ _ _ _ _ _ _ _ _ ((hs.ao z5).ao z4) aq.start (v54 _ _)
   .have q3:((left.length:Int)>0)=False:=H' w1;have hle:left=[]:=rf (by omega);have hfa:0<=a/\a<b.atoms.length:=hfm.1;have hxa:∃n:Nat,a=n/\n<b.atoms.length:=⟨a.toNat,by omega,by omega⟩
    obtain⟨n,rfl,Yb⟩:=hxa;have hl1:1<=eY b.atoms ⟨n,d,fr⟩:=by
     have hh:=hg.pos _ (Xo Yb);have h3:=hfm.2.2;simp only at h3;rw[eY,ak hfm];simp only;rw[aV Yb]at h3|-;omega
    by_cases w2:sh>0
    case' pos=>
     have q4:(sh>0)=True:=L' w2;by_cases w3:eY b.atoms ⟨n,d,fr⟩>bo-sh
     case' pos=>
      have q5:(eY b.atoms ⟨n,d,fr⟩>bo-sh)=True:=L' w3;rw[ak (.inr ⟨w2,w3⟩)];apply sR;simp only[go_sem,seval,a8,a7,a3,cvl,svl,r1,q2,q3,q4,Yo,hlP,ab n78,ab n38];refine pR rfl (hlc _) ?_;generalize eY b.atoms ⟨n,d,fr⟩=lft at*;apply sR;simp only[go_sem,seval,q5,cm];generalize hqP:C' _ i8 _=ZP;have hvl_:aq U ZP 123 7 vl (FL.map aJ):=by rw[<-hqP];exact hvl.bH a8 (by simp)
      replace a8:=XD hqP;replace a7:=WQ hqP n78 a7;replace a2:=WQ hqP n28 a2;replace a3:=WQ hqP n38 a3;replace a4:=WQ hqP ZS a4;replace a5:=WQ hqP n58 a5;replace hs:=Xz hqP hs z8;have v45:∀o p,aq U (C' (C' ZP i4 o) i5 p) 123 7 vl (FL.map aJ):=λo p=>(hvl_.bH a4 (by simp)).bH ((ab hn45).trans a5) (by simp);refine ag.wm (by kernel_rfl) 8 (.leaf [[],[],[1],[],[2,3,1],[0],[4,5,0,1,2,3]] [0,1,2,3,4,5,6]) (by kernel_rfl) ?_;refine GT.gZ (its:=[0,2,4,6,8,10,5,12]) (by kernel_rfl) ?_;refine cI (n:=0) [5,12] [0,2,4,6,8,10] [_,_,_,_,_,_] rfl rfl ?_;simp only[go_sem,seval,a8,a3,a4,bU,bT];refine dy rfl (by simp only[go_sem,seval,a3,ab n34]) ?_;refine cI (n:=0) [] [12] [_] rfl rfl ?_;simp only[go_sem,seval,a5,ab hn45];apply sR;simp only[go_sem,seval,ab ZW,cc]
      first
       |exact fin _ _ _ _ _ _ _ _ _ _ ((hs.ao z4).ao z5) aq.start (v45 _ _)
       |exact fin _ _ _ _ _ _ _ _ _ _ ((hs.ao z5).ao z4) aq.start (v54 _ _)
     case' neg=>
      have q5:(eY b.atoms ⟨n,d,fr⟩>bo-sh)=False:=H' w3;rw[au (λh=>h.elim (λh=>h hle) λh=>w3 h.2)];have har:1<=bo-sh:=by omega
      apply sR;simp only[go_sem,seval,a8,a7,a3,cvl,svl,r1,q2,q3,q4,Yo,hlP,ab n78,ab n38];refine pR rfl (hlc _) ?_;generalize eY b.atoms ⟨n,d,fr⟩=lft at*;apply sR;simp only[go_sem,seval,a3,q5,ab n38]
    case' neg=>
     have q4:(sh>0)=False:=H' w2;rw[au (λh=>h.elim (λh=>h hle) λh=>w2 h.1)];have har:1<=bo-sh:=by omega
     apply sR;simp only[go_sem,seval,a8,a7,a3,cvl,svl,r1,q2,q3,q4,Yo,hlP,ab n78,ab n38]
    all_goals
     generalize hqP:C' _ i8 _=ZP;have hvl_:aq U ZP 123 7 vl (FL.map aJ):=by rw[<-hqP];exact hvl.bH a8 (by simp)
     replace a8:=XD hqP;replace a7:=WQ hqP n78 a7;replace a2:=WQ hqP n28 a2;replace a3:=WQ hqP n38 a3;replace a4:=WQ hqP ZS a4;replace a5:=WQ hqP n58 a5;replace hs:=Xz hqP hs z8;have hkc:=Lp b.atoms hb.W3 ⟨n,d,fr⟩ (bo-sh);have hkr:=DM hb.toBkOk ⟨n,d,fr⟩ (bo-sh);generalize hKE:gw b.atoms ⟨n,d,fr⟩ (bo-sh)=kp at*;have hrch:=HG b.atoms hb.W3 hg.ZG hg.pos ⟨n,d,fr⟩ hfm (by simp only;omega) kp sh bo hkr ⟨by omega,by omega⟩;have hrl:=oC (l:=b.atoms) (s:=⟨n,d,fr⟩) (kept:=kp) (shift:=sh) (body:=bo);have hwc:=λ(k:Nat) h1 h2=>Ig b.atoms hb.W3 ⟨n,d,fr⟩ hfm (by simp only;omega) kp sh k hkr ⟨by omega,by omega⟩ h1 h2;have hwr:=λ(k:Int)=>vJ hb.W3 (s:=⟨n,d,fr⟩) (by simp only;omega) (by simp only;omega) (kept:=kp) (shift:=sh) ⟨by omega,by omega⟩ ⟨by omega,by omega⟩ k;generalize iz b.atoms ⟨n,d,fr⟩ kp sh bo=ft at*;have XW:=hb.brk;have Yk:=Nv b.WT (by omega) hg.mayb (Kh b.WT (by omega) hg.mayb) n (by omega) ft;obtain⟨hcn,hcp⟩:=B4 (b:=b.WT) (i:=n) (fit:=ft) (by omega);generalize uM b.WT n ft=C at*;rw[hee]at hkc hrch;refine pS rfl (hkc _) ?_;simp only[go_sem,seval,a7,a2,a3];refine pJ rfl hrch ?_;apply sG;simp only[go_sem,seval];refine pJ rfl Yk ?_;have hfcc:∀x:Yx,(aJ x).cells=[vI x.node,vI x.atom,vI x.fr,vI x.x,vI x.y,vI x.w,vI x.h]:=λ_=>rfl;have hfss:∀x:Yx,(aJ x).stays=true:=λ_=>rfl;have hscc:∀x:XP,(aL x).cells=[vI x.atom,vI x.done,.bool x.free]:=λ_=>rfl;have hsss:∀x:XP,(aL x).stays=true:=λ_=>rfl;by_cases hC:C<0
     .have q6:(C<0)=True:=L' hC;rw[ak hC];have hsl:=LS b.atoms hb.W3 ⟨n,d,fr⟩ hfm (by simp only;omega) (bo-sh) har;have hsy:=Fa b.atoms ⟨n,d,fr⟩ (bo-sh);have hhr:=oz hb.toBkOk (s:=⟨n,d,fr⟩) (by simp only;omega) (to:=(n:Int)+1) (kept:=0) (shift:=0) (body:=bo) (by omega) (by omega);have hh2:=E7 b.atoms hb.W3 b.WA hb.flen hb.flo ⟨n,d,fr⟩ hfm (by simp only;omega) ((n:Int)+1) 0 0 bo (by omega) (by omega);generalize jV b.atoms ⟨n,d,fr⟩ (bo-sh)=W at*;generalize fm b.atoms ⟨n,d,fr⟩ (bo-sh)=NX at*;generalize dG b.atoms b.WA ⟨n,d,fr⟩ ((n:Int)+1) 0 0 bo=HR at*;obtain⟨hp1,hp2⟩:=HR;simp only at hhr hh2|-;rw[hee]at hsl hh2;apply sG;simp only[go_sem,seval,a3,q6];refine pS rfl (hsl _) ?_;simp only[go_sem,seval];refine al hs λi15 Y15 s15 a15 f15 z15 hs=>?_;obtain⟨n215,a2⟩:=WG a2 f15 s15;obtain⟨n315,a3⟩:=WG a3 f15 s15;obtain⟨n415,a4⟩:=WG a4 f15 s15;obtain⟨n515,a5⟩:=WG a5 f15 s15;obtain⟨n715,a7⟩:=WG a7 f15 s15;obtain⟨n815,a8⟩:=WG a8 f15 s15;have hv15:=hvl_.mono s15;have nn15:=hvl_.pV f15;simp only[go_sem,seval];refine al hs λi16 Z16 s16 a16 f16 z16 hs=>?_;obtain⟨n216,a2⟩:=WG a2 f16 s16;obtain⟨n316,a3⟩:=WG a3 f16 s16;obtain⟨n416,a4⟩:=WG a4 f16 s16;obtain⟨n516,a5⟩:=WG a5 f16 s16;obtain⟨n716,a7⟩:=WG a7 f16 s16;obtain⟨n816,a8⟩:=WG a8 f16 s16;obtain⟨n1516,a15⟩:=WG a15 f16 s16;have hv16:=hv15.mono s16;have r7:WI .i64 (W.y+hi):=ae;simp only[go_sem,seval,a16,a15,a7,hfcc,hfss,hscc,hsss,r7,ab n715,ab n1516.symm,ab n1516,ab n716];generalize hqX:C' (C' (C' _ i15 _) i16 _) i15 _=ZX;have b15:ZX i15=some ⟨123,7,[aJ (cH hi W)]⟩:=by rw[<-hqX];exact af
      have b16:ZX i16=some ⟨24,3,[aL NX]⟩:=by rw[<-hqX];exact(ab n1516.symm).trans af
      replace a2:=((congrFun hqX i2).symm.trans ((ab n215).trans ((ab n216).trans (ab n215)))).trans a2;replace a3:=((congrFun hqX i3).symm.trans ((ab n315).trans ((ab n316).trans (ab n315)))).trans a3;replace a4:=((congrFun hqX i4).symm.trans ((ab n415).trans ((ab n416).trans (ab n415)))).trans a4;replace a5:=((congrFun hqX i5).symm.trans ((ab n515).trans ((ab n516).trans (ab n515)))).trans a5;replace a7:=((congrFun hqX i7).symm.trans ((ab n715).trans ((ab n716).trans (ab n715)))).trans a7;replace a8:=((congrFun hqX i8).symm.trans ((ab n815).trans ((ab n816).trans (ab n815)))).trans a8;have hvX:aq U ZX 123 7 vl (FL.map aJ):=by rw[<-hqX];exact((hv16.wV nn15).wV (hv15.pV f16)).wV nn15
      replace hs:aa U ZX:=by rw[<-hqX];exact((hs.ao z15).ao z16).ao z15
      clear hqX hv15 hv16 hvl_;rw[aJ]at b15;refine aj λi33 Z33 s33 a33 f33=>?_;have n33:=hs.none f33;have hv33:=hvX.mono s33;have hap:bL (.own i33 0 1) vl:=bL.new hvX f33;have YF:aq U Z33 123 7 (.own i33 0 1) ([cH hi W].map aJ):=aq.new rfl (by rw[a33];rfl) n33;replace hs:=hs.trans s33;replace a2:=s33 _ _ a2;replace a3:=s33 _ _ a3;replace a4:=s33 _ _ a4;replace a5:=s33 _ _ a5;replace a7:=s33 _ _ a7;replace a8:=s33 _ _ a8;replace b16:=s33 _ _ b16;simp only[go_sem,seval,a8];generalize hqY:C' Z33 i8 _=ZY;have hvY:aq U ZY 123 7 vl (FL.map aJ):=by rw[<-hqY];exact hv33.bH a8 (by simp)
      have hfY:aq U ZY 123 7 (.own i33 0 1) ([cH hi W].map aJ):=by rw[<-hqY];exact YF.bH a8 (by simp)
      replace b16:=((congrFun hqY _).symm.trans (ab n816.symm)).trans b16;replace a8:=XD hqY;replace a2:=WQ hqY n28 a2;replace a3:=WQ hqY n38 a3;replace a4:=WQ hqY ZS a4;replace a5:=WQ hqY n58 a5;replace a7:=WQ hqY n78 a7;replace hs:=Xz hqY hs z8;clear hv33 YF hvX;have r8:=rI n;simp only[go_sem,seval,a7,a2,a3,r8];refine pR rfl (hh2 _) ?_;have hf2:=rP hp1 hi hhr.1 (λf hf=>by obtain⟨h1,h2⟩:=hhr.2 f hf;exact ae);apply sR;simp only[go_sem,seval,a8,a7];refine pJ rfl hf2 ?_;obtain⟨idA,Xg,hdv,XG,WK⟩:=hvY.mM (aa.refl ZY);have hFLl:(FL.map aJ).length<=1000000:=by rw[<-hFL,cJ,cJ];omega
      have hml:((hp1.map (cO hi)).map aJ).length=hp1.length:=by simp
      have W1:((FL.map aJ).length+hp1.length)*57<=140737488355328:=by have:=hhr.1;omega
      have hb3:(FL.length+hp1.length)*57<=140737488355328:=by rw[cJ]at W1;exact W1
      have hml2:(FL.map aJ).length=FL.length:=by simp
      apply sG;simp only[go_sem,seval,Xg,Er,hml,hml2,hb3];refine eu λi57 Z57 s57 a57 f57=>?_;have hf57:=(hfY.C0 (idA:=idA) λj hj n hv=>hap _ _ _ _ hv (hdv j hj) rfl).mono s57;have n57:=hs.none f57;have hl57:aq U Z57 123 7 (.own i57 0 (FL.length+hp1.length)) ((FL++hp1.map (cO hi)).map aJ):=aq.new (by simp) (by rw[a57,cX]) n57;replace b16:=s57 _ _ ((XG i16 (hvY.ck b16 (by simp)) _).trans b16);replace a2:=s57 _ _ ((XG i2 (hvY.ck a2 (by simp)) _).trans a2);replace a3:=s57 _ _ ((XG i3 (hvY.ck a3 (by simp)) _).trans a3);replace a4:=s57 _ _ ((XG i4 (hvY.ck a4 (by simp)) _).trans a4);replace a5:=s57 _ _ ((XG i5 (hvY.ck a5 (by simp)) _).trans a5);replace a7:=s57 _ _ ((XG i7 (hvY.ck a7 (by simp)) _).trans a7);replace a8:=s57 _ _ ((XG i8 (hvY.ck a8 (by simp)) _).trans a8);replace hs:=(WK U (aa.refl U) ZY hs).trans s57;simp only[go_sem,seval,a8,cm];generalize hqZ:C' Z57 i8 _=ZZ;have hfZ:aq U ZZ 123 7 (.own i33 0 1) ([cH hi W].map aJ):=by rw[<-hqZ];exact hf57.bH a8 (by simp)
      have hlZ:aq U ZZ 123 7 (.own i57 0 (FL.length+hp1.length)) ((FL++hp1.map (cO hi)).map aJ):=by rw[<-hqZ];exact hl57.bH a8 (by simp)
      replace b16:=((congrFun hqZ _).symm.trans (ab n816.symm)).trans b16;replace a8:=XD hqZ;replace a2:=WQ hqZ n28 a2;replace a3:=WQ hqZ n38 a3;replace a4:=WQ hqZ ZS a4;replace a5:=WQ hqZ n58 a5;replace a7:=WQ hqZ n78 a7;replace hs:=Xz hqZ hs z8;have b16':=b16;rw[aL]at b16';have v45:∀o p,aq U (C' (C' ZZ i4 o) i5 p) 123 7 (.own i57 0 (FL.length+hp1.length)) ((FL++hp1.map (cO hi)).map aJ):=λo p=>(hlZ.bH a4 (by simp)).bH ((ab hn45).trans a5) (by simp);have w45:∀o p,aq U (C' (C' ZZ i4 o) i5 p) 123 7 (.own i33 0 1) ([cH hi W].map aJ):=λo p=>(hfZ.bH a4 (by simp)).bH ((ab hn45).trans a5) (by simp);refine ag.wm (by kernel_rfl) 8 (.leaf [[],[],[],[1,2],[0],[3,4,0,1,2]] [0,1,2,3,4,5]) (by kernel_rfl) ?_;refine GT.gZ (its:=[0,2,4,6,8,3,10]) (by kernel_rfl) ?_;refine cI (n:=0) [3,10] [0,2,4,6,8] [_,_,_,_,_] rfl rfl ?_;simp only[go_sem,seval,a8,a4,b16',bU,bT];refine dy rfl (by simp only[go_sem,seval,b16',ab n416.symm]) ?_;refine cI (n:=0) [] [10] [_] rfl rfl ?_;simp only[go_sem,seval,a5,ab hn45];apply sR;simp only[go_sem,seval,ab ZW,cc]
      first
       |exact fin _ _ _ _ _ _ _ _ _ _ ((hs.ao z4).ao z5) (w45 _ _) (v45 _ _)
       |exact fin _ _ _ _ _ _ _ _ _ _ ((hs.ao z5).ao z4) (w54 _ _) (v54 _ _)
     .have q6:(C<0)=False:=H' hC;rw[au hC];have WB:ei b.WT n ft:=Decidable.byContradiction λh=>hC (hcn.2 h);obtain⟨hce,-⟩:=hcp WB;obtain⟨c,hc1,hc2,Zy⟩:=rb WB (by omega);rw[hc1]at hce;clear hcn hcp hc1 WB;subst hce;have hc2':n<c:=by omega
      have Yj:c<b.WT.length:=by omega
      have hhr:=oz hb.toBkOk (s:=⟨n,d,fr⟩) (by simp only;omega) (to:=c) (kept:=kp) (shift:=sh) (body:=bo) (by omega) (by omega);have hh2:=E7 b.atoms hb.W3 b.WA hb.flen hb.flo ⟨n,d,fr⟩ hfm (by simp only;omega) c kp sh bo (by omega) (by omega);simp only[eU];generalize dG b.atoms b.WA ⟨n,d,fr⟩ c kp sh bo=HR at*;obtain⟨hp1,hp2⟩:=HR;simp only at hhr hh2|-;have hbg:XB b.WT c=b.WT[c]:=by simp[XB,Yj]
      have hixB:=λU=>nN (U:=U) Yj;rw[<-hbg]at hixB;generalize hbf:decide ((XB b.WT c).forced≠0)=bf;have Xw:((XB b.WT c).forced≠0)=(bf=true):=by rw[<-hbf,YX]
      generalize XB b.WT c=bx at*;have hwr':=λk:Nat=>hwr ((n:Int)+k);have hwc':∀k:Nat,n<=k->k<b.atoms.length->aE prog 72 [aT b.atoms,aL ⟨n,d,fr⟩,vI kp,vI sh,vI k] (aJ (dK b.atoms ⟨n,d,fr⟩ kp sh ((n:Int)+((k-n:Nat):Int)))):=λk h1 h2=>by
       have:=hwc k (by simp only;omega) h2;rw[show(n:Int)+((k-n:Nat):Int)=k by omega];exact this
      clear hwc hwr;obtain⟨G,hG⟩:∃G:Nat->Yx,G=λi:Nat=>cH hi (dK b.atoms ⟨n,d,fr⟩ kp sh ((n:Int)+(i:Nat))):=⟨_,rfl⟩
      have hGi:∀i:Nat,aJ (G i)=aJ (cH hi (dK b.atoms ⟨n,d,fr⟩ kp sh ((n:Int)+(i:Nat)))):=λi=>by rw[hG]
      rw[<-hG];clear hG;apply sG;simp only[go_sem,seval,a3,q6];refine ag.loop (λm st=>∃(k:Nat) (vf:V),n<=k/\k<=c/\m=c-k/\aa U st.U/\aq U st.U 123 7 vf (((List.range (k-n)).map G).map aJ)/\aq U st.U 123 7 vl (FL.map aJ)/\bL vf vl/\st.U i8=some ⟨58,5,[.agg [vI 0,vI 1,aG HH,vf,vl]]⟩/\
       st.U i2=some ⟨40,7,[.agg [ay b.nodes,vI b.w,vI b.h,aT b.atoms,ax b.WA,vI b.U',aY b.WT]]⟩/\st.U i3=some ⟨27,4,[.agg [vI n,vI d,.bool fr,ax P]]⟩/\st.U i4=some ⟨58,5,[.agg [vI 0,vI 0,.aB,.aB,.aB]]⟩/\st.U i5=some ⟨27,4,[.agg [vI 0,vI 0,.bool false,.aB]]⟩/\st.U i7=some ⟨107,3,[.agg [aN H,vI hi,vI bo]]⟩/\
       st.s 2=.ptr i2 0 0/\st.s 3=.ptr i3 0 0/\st.s 4=.ptr i4 0 0/\st.s 5=.ptr i5 0 0/\st.s 6=aT b.atoms/\st.s 7=.ptr i7 0 0/\st.s 8=.ptr i8 0 0/\st.s 11=vI sh/\st.s 13=vI kp/\st.s 14=vI c/\st.s 19=vI k) (c-n) ?_ ?_
      .exact⟨n,.aB,by omega,by omega,rfl,hs,by rw[Nat.sub_self];exact aq.start,hvl_,bL.aB _,a8,a2,a3,a4,a5,a7,rfl,rfl,rfl,rfl,rfl,rfl,rfl,rfl,rfl,rfl,rfl⟩
      .clear hs hvl_ a2 a3 a4 a5 a7 a8;rintro m ⟨S,J⟩ ⟨k,vf,hnk,hkc2,rfl,hs,YF,hvl,hap,a8,a2,a3,a4,a5,a7,k2,k3,k4,k5,k6,k7,k8,ZM,k13,k14,k19⟩;simp only at hs YF hvl hap a8 a2 a3 a4 a5 a7 k2 k3 k4 k5 k6 k7 k8 ZM k13 k14 k19;obtain⟨cvf,svf⟩:=YF.vc;refine ag.mix 23 ?_;by_cases Zb:k<c
       .have u1:((k:Int)<c)=True:=L';have r9:=rI k;have hw1:=hwc' k hnk (by omega);have hw2:=hwr' (k-n);have hw3:=hGi (k-n);rw[hee]at hw1;have hrg:List.range (k+1-n)=List.range (k-n)++[k-n]:=by rw[show k+1-n=(k-n)+1 by omega,List.range_succ]
        generalize dK b.atoms ⟨n,d,fr⟩ kp sh ((n:Int)+((k-n:Nat):Int))=W at*;have r7:WI .i64 (W.y+hi):=ae;have hlF:(((List.range (k-n)).map G).map aJ).length=k-n:=by simp
        have W1:(k-n+1)*57<=140737488355328:=by omega
        apply sR;simp only[go_sem,seval,k3,k6,ZM,k13,k14,k19,a3,u1];refine pS rfl (hw1 _) ?_;simp only[go_sem,seval];refine al hs λi20 Z20 s20 a20 f20 z20 hs=>?_;obtain⟨n220,a2⟩:=WG a2 f20 s20;obtain⟨n320,a3⟩:=WG a3 f20 s20;obtain⟨n420,a4⟩:=WG a4 f20 s20;obtain⟨n520,a5⟩:=WG a5 f20 s20;obtain⟨n720,a7⟩:=WG a7 f20 s20;obtain⟨n820,a8⟩:=WG a8 f20 s20;have hf20:=YF.mono s20;have hl20:=hvl.mono s20;have nf20:=YF.pV f20;have nl20:=hvl.pV f20;simp only[go_sem,seval,a20,k7,k8,a8,a7,hfcc,hfss,r7,ab n720,ab n820];generalize hqX:C' _ i20 _=ZX;have b20:ZX i20=some ⟨123,7,[aJ (cH hi W)]⟩:=by rw[<-hqX];exact af
        replace a2:=WQ hqX n220 a2;replace a3:=WQ hqX n320 a3;replace a4:=WQ hqX n420 a4;replace a5:=WQ hqX n520 a5;replace a7:=WQ hqX n720 a7;replace a8:=WQ hqX n820 a8;have hfX:aq U ZX 123 7 vf (((List.range (k-n)).map G).map aJ):=by rw[<-hqX];exact hf20.wV nf20
        have hlX:aq U ZX 123 7 vl (FL.map aJ):=by rw[<-hqX];exact hl20.wV nl20
        replace hs:aa U ZX:=by rw[<-hqX];exact hs.ao z20
        clear hqX hf20 hl20;rw[aJ]at b20;refine aj λi87 Z87 s87 a87 f87=>?_;obtain⟨idA,Xg,hdv,XG,WK⟩:=hfX.mM s87;simp only[go_sem,seval,Xg,bl a87,hlF,W1];refine aX λi88 Z88 s88 a88 f88=>?_;have hl88:=((hlX.mono s87).C0 (idA:=idA) λj hj n hv=>hap _ _ _ _ (hdv j hj) hv rfl).mono s88;have n88:=(hs.trans s87).none f88;have hap8:bL (.own i88 0 (k-n+1)) vl:=bL.new (hlX.mono s87) f88;have hf88:aq U Z88 123 7 (.own i88 0 (k-n+1)) (((List.range (k+1-n)).map G).map aJ):=aq.new (by simp;omega) (by rw[a88,hrg,cX,cX,List.map_singleton,List.map_singleton,hw3];rfl) n88;replace a2:=s88 _ _ ((XG i2 (hfX.ck a2 (by simp)) _).trans (s87 _ _ a2));replace a3:=s88 _ _ ((XG i3 (hfX.ck a3 (by simp)) _).trans (s87 _ _ a3));replace a4:=s88 _ _ ((XG i4 (hfX.ck a4 (by simp)) _).trans (s87 _ _ a4));replace a5:=s88 _ _ ((XG i5 (hfX.ck a5 (by simp)) _).trans (s87 _ _ a5));replace a7:=s88 _ _ ((XG i7 (hfX.ck a7 (by simp)) _).trans (s87 _ _ a7));replace a8:=s88 _ _ ((XG i8 (hfX.ck a8 (by simp)) _).trans (s87 _ _ a8));replace hs:=(WK U (aa.refl U) Z87 (hs.trans s87)).trans s88;simp only[go_sem,seval,k2,k3,k4,k5,k6,k7,k8,ZM,k13,k14,k19,a8,r9];refine⟨_,by omega,k+1,.own i88 0 (k-n+1),by omega,by omega,rfl,hs.ao z8,hf88.bH a8 (by simp),hl88.bH a8 (by simp),hap8,rfl,(ab n28).trans a2,(ab n38).trans a3,(ab ZS).trans a4,(ab n58).trans a5,(ab n78).trans a7,by simp[vI]⟩
       .have u1:((k:Int)<c)=False:=H';obtain rfl:k=c:=by omega
        rw[hee]at hh2;generalize (List.range (k-n)).map G=FF at*;apply sR;simp only[go_sem,seval,k2,k3,k6,k7,ZM,k13,k14,k19,a7,a2,a3,u1];refine pR rfl (hh2 _) ?_;have hf2:=rP hp1 hi hhr.1 (λf hf=>by obtain⟨h1,h2⟩:=hhr.2 f hf;exact ae);apply sR;simp only[go_sem,seval,k7,k8,a8,a7];refine pJ rfl hf2 ?_;obtain⟨idA,Xg,hdv,XG,WK⟩:=hvl.mM (aa.refl J);have hFLl:(FL.map aJ).length<=1000000:=by rw[<-hFL,cJ,cJ];omega
        have hml:((hp1.map (cO hi)).map aJ).length=hp1.length:=by simp
        have W1:((FL.map aJ).length+hp1.length)*57<=140737488355328:=by have:=hhr.1;omega
        have hb3:(FL.length+hp1.length)*57<=140737488355328:=by rw[cJ]at W1;exact W1
        have hml2:(FL.map aJ).length=FL.length:=by simp
        apply sG;simp only[go_sem,seval,Xg,Er,hml,hml2,hb3];refine eu λi57 Z57 s57 a57 f57=>?_;have hf57:=(YF.C0 (idA:=idA) λj hj n hv=>hap _ _ _ _ hv (hdv j hj) rfl).mono s57;have n57:=hs.none f57;have hl57:aq U Z57 123 7 (.own i57 0 (FL.length+hp1.length)) ((FL++hp1.map (cO hi)).map aJ):=aq.new (by simp) (by rw[a57,cX]) n57;replace a2:=s57 _ _ ((XG i2 (hvl.ck a2 (by simp)) _).trans a2);replace a3:=s57 _ _ ((XG i3 (hvl.ck a3 (by simp)) _).trans a3);replace a4:=s57 _ _ ((XG i4 (hvl.ck a4 (by simp)) _).trans a4);replace a5:=s57 _ _ ((XG i5 (hvl.ck a5 (by simp)) _).trans a5);replace a7:=s57 _ _ ((XG i7 (hvl.ck a7 (by simp)) _).trans a7);replace a8:=s57 _ _ ((XG i8 (hvl.ck a8 (by simp)) _).trans a8);replace hs:=(WK U (aa.refl U) J hs).trans s57;simp only[go_sem,seval,k8,a8,cm];generalize hqZ:C' Z57 i8 _=ZZ;have hfZ:aq U ZZ 123 7 vf (FF.map aJ):=by rw[<-hqZ];exact hf57.bH a8 (by simp)
        have hlZ:aq U ZZ 123 7 (.own i57 0 (FL.length+hp1.length)) ((FL++hp1.map (cO hi)).map aJ):=by rw[<-hqZ];exact hl57.bH a8 (by simp)
        replace a8:=XD hqZ;replace a2:=WQ hqZ n28 a2;replace a3:=WQ hqZ n38 a3;replace a4:=WQ hqZ ZS a4;replace a5:=WQ hqZ n58 a5;replace a7:=WQ hqZ n78 a7;replace hs:=Xz hqZ hs z8;have v45:∀o p,aq U (C' (C' ZZ i4 o) i5 p) 123 7 (.own i57 0 (FL.length+hp1.length)) ((FL++hp1.map (cO hi)).map aJ):=λo p=>(hlZ.bH a4 (by simp)).bH ((ab hn45).trans a5) (by simp);have w45:∀o p,aq U (C' (C' ZZ i4 o) i5 p) 123 7 vf (FF.map aJ):=λo p=>(hfZ.bH a4 (by simp)).bH ((ab hn45).trans a5) (by simp);have hxb:bX bx=.agg [vI bx.cls,vI bx.forced,vI bx.W6]:=rfl;cases bf
        case' false=>
         have q10:(bx.forced≠0)=False:=by rw[Xw];simp
        case' true=>
         have q10:(bx.forced≠0)=True:=by rw[Xw];simp
        all_goals
         refine ag.wm (by kernel_rfl) 8 (.leaf [[],[],[],[2],[],[3,4,2],[5,3,4,2],[6,5,3,4,2],[7,6,5,3,4,2],[1,8,7,6,5,3,4,2],[],[9,10,1,8,7,6,5,3,4,2],[0],[11,12,0,1,2,3,4,5,6,7,8,9,10]] [0,1,2,3,4,5,6,7,8,9,10,11,12,13]) (by kernel_rfl) ?_;refine GT.gZ (its:=[0,2,4,6,8,10,12,14,16,18,20,22,24,7,11,15,26]) (by kernel_rfl) ?_;refine cI (n:=0) [7,11,15,26] [0,2,4,6,8,10,12,14,16,18,20,22,24] [_,_,_,_,_,_,_,_,_,_,_,_,_] rfl rfl ?_;simp only[go_sem,seval,k2,k4,k8,k14,a8,a2,a4,hixB,hxb,q10,bU,bT];refine dy rfl (by simp only[go_sem,seval,a2,ab n24]) ?_;refine dy rfl (by simp only[go_sem,seval,hixB,hxb]) ?_;refine dy rfl (by simp only[go_sem,seval]) ?_;refine cI (n:=0) [] [26] [_] rfl rfl ?_;simp only[go_sem,seval,k5,a5,ab hn45];apply sR;simp only[go_sem,seval,k4,k5,ab ZW,cc]
         first
          |exact fin _ _ _ _ _ _ _ _ _ _ ((hs.ao z4).ao z5) (w45 _ _) (v45 _ _)
          |exact fin _ _ _ _ _ _ _ _ _ _ ((hs.ao z5).ao z4) (w54 _ _) (v54 _ _)
open Go.Proofs
def aq.dP{K U:ad}{e sz i:Nat}{v:V}{rows:List V}{p:Ob}(h:aq K U e sz v rows)(hi:U i=some p)(WZ:p.elem≠e)(o:Ob):aq (Vc.C' K i o) U e sz v rows:=by
 rcases h with h|⟨a,rfl,ho,hk⟩
 .exact .inl h
 .refine .inr ⟨a,rfl,ho,?_⟩;rw[Vc.ab (λe'=>by subst e';rw[hi]at ho;cases ho;exact WZ rfl)];exact hk
def aa.dP{K U:ad}{i:Nat}{o:Ob}(h:aa K U)(hi:U i=some o):aa (Vc.C' K i o) U:=λj p hj=>by
 by_cases e:j=i
 .subst e;rw[Vc.af]at hj;cases hj;exact hi
 .rw[Vc.ab e]at hj;exact h _ _ hj
def K3(vf:V){K U:ad}(fs:List T')(YF:aq K U 100 7 vf (fs.map az))(f:T')(y:Int)(s:Xr)(hl:fs.length<=1000000)(WB:∀f∈fs,f.ok)(hy:XU y)(hh:Bq f.h)(hw:Bq f.w)(X7:XU s.a/\XU s.b):
 av prog 148 [vf,az f,vI y,aP s] U λr Z'=>aa U Z'/\aq U Z' 100 7 r ((nU fs f y s).map az):=by
 refine Wi.q ?_;have hs:=aa.refl U;refine mS 9 ?_;simp only[go_sem,seval,Ro,az,aP];refine al hs λi5 Z5 s5 a5 f5 z5 hs=>?_;simp only[go_sem,seval];refine al hs λi7 Z7 s7 a7 f7 _ hs=>?_;replace a5:=s7 _ _ a5;simp only[go_sem,seval,a7,a5];have ZD:=YF.mono hs;refine pS rfl (aE.ud (args':=[ax fs,az f,vI y,aP s]) ⟨ZD.zL.at,ZH _,ZH _,ZH _,trivial⟩ (LH fs f y s hl WB hy hh hw X7) rfl) ?_;simp only[go_sem,seval,a5];generalize hq5:C' Z7 i5 _=Y5;have b5:Y5 i5=some ⟨100,7,[az (iC fs f y s)]⟩:=by rw[<-hq5];exact af
 have hs5:aa U Y5:=by rw[<-hq5];exact hs.ao z5
 clear hq5;have ZE:az (iC fs f y s)=.agg [vI f.node,vI f.side,vI f.anchor,vI (lY fs f y s),vI (jX fs f y s),vI f.w,vI f.h]:=rfl;rw[ZE]at b5;have Yd:(fs.map az).length=fs.length:=by simp
 have hb1:fs.length*57<=140737488355328:=by omega
 have W1:(fs.length+1)*57<=140737488355328:=by omega
 have hres:fs.map az++[V.agg [vI f.node,vI f.side,vI f.anchor,vI (lY fs f y s),vI (jX fs f y s),vI f.w,vI f.h]]=(nU fs f y s).map az:=by simp[nU,<-ZE]
 refine bF λi19 Y19 s19 a19 f19=>?_;have n519:=aQ b5 f19;have b5':=s19 _ _ b5;have hd19:=wF a19;have z19:=hs5.none f19;have hsrc:=YF.src (hs5.trans s19);simp only[go_sem,seval,hd19,hsrc,Yd,hb1,jE,List.length_nil,kf];refine eu λi21 Z21 s21 a21 f21=>?_;have hs21:aa U Z21:=((hs5.trans s19).pI z19).trans s21;have b5'':=s21 _ _ ((cA n519).trans b5');have n21:U i21=none:=(hs5.trans s19).none f21;simp only[go_sem,seval,b5''];refine bF λi23 Z23 s23 a23 f23=>?_;obtain⟨idA,Xg,WK⟩:=(aq.new (K:=U) (n:=fs.length) (rows:=fs.map az) (by simp) a21 n21).dst s23;simp only[go_sem,seval,Xg,bl a23,Yd,W1,hres];refine eu λi24 Z24 s24 a24 f24=>?_;have k24:=(WK U (aa.refl U) Z23 (hs21.trans s23)).trans s24;have n24:U i24=none:=(hs21.trans s23).none f24;simp only[go_sem,seval];exact XX ⟨k24,aq.new (by simp[nU]) a24 n24⟩
def IF(vf:V){U:ad}(fs:List T')(YF:u9 U vf (ax fs))(ws:List Int)(space high:Int)(y:Int)(s:Xr)(hl:fs.length<=1000000)(WB:∀f∈fs,f.ok)(B:Int)(hB:∀f∈fs,f.y+f.h<=B)(hB1:B<=1152921504606846976)(hy0:0<=y)(hy:y<=B)(hh:0<=high)(hh1:high<=1099511627776)
 (X7:XU s.a/\XU s.b)(hw:WOk ws space):av prog 146 [vf,aN ws,vI space,vI high,vI y,aP s] U λr Z'=>aa U Z'/\aq U Z' 225 5 r ((cz fs ws space high s ws.length 0 y).map jm):=by
 refine U9.q ?_;have hs:=aa.refl U;have hn:=cV ws;have Yp:=hw.len;refine mS 16 ?_;simp only[go_sem,seval,OY,aP];refine al hs λi11 Z11 s11 XF f11 _ hs=>?_;simp only[go_sem,seval];generalize hG:cz fs ws space high s ws.length 0 y=G;refine ag.loop (λm st=>∃(i k:Nat) (y':Int) (acc:List Ln),m=ws.length-i/\i<=ws.length/\ws.length-i<=k/\acc.length<=i/\G=acc++cz fs ws space high s k i y'/\0<=y'/\y'<=B+1099511627776*i/\aa U st.U/\aq U st.U 225 5 (st.s 13) (acc.map jm)/\
  st.U i11=some ⟨219,2,[.agg [vI s.a,vI s.b]]⟩/\st.s 0=vf/\st.s 1=aN ws/\st.s 2=vI space/\st.s 3=vI high/\st.s 4=vI y'/\st.s 11=.ptr i11 0 0/\st.s 14=vI i) ws.length ?_ ?_
 .exact⟨0,ws.length,y,[],rfl,by omega,by omega,by simp,hG.symm,hy0,by omega,hs,aq.start,XF,rfl,rfl,rfl,rfl,rfl,rfl,rfl⟩
 .rintro m ⟨S,J⟩ ⟨i,k,y',acc,rfl,hi,hk,ZN,hg,hy1,hy2,E',WR,b11,t0,t1,t2,t3,t4,t11,t14⟩;simp only at E' WR b11 t0 t1 t2 t3 t4 t11 t14;generalize hv13:S 13=v13 at WR;refine ag.mix 16 ?_;by_cases B':i<ws.length
  .have q:=qT B';obtain⟨k,rfl⟩:∃k',k=k'+1:=⟨k-1,by omega⟩
   rw[cz,ak B']at hg;have hty:=tD (space:=space) (width:=fj (bM fs (fX fs (ws.getD i 0) high s y') high s)) B';have hyr:=eS (w:=ws.getD i 0) (high:=high) (y:=y') (s:=s) hB;have hx:=J0 fs ws space high i y' s hl WB ⟨by omega,by omega⟩ ⟨by omega,by omega⟩ X7 hw B';obtain⟨x,hxe⟩:∃x,x=lZ fs ws space high i y' s:=⟨_,rfl⟩
   have x1:∃j:Nat,x.to=j/\i<j/\j<=ws.length:=by rw[hxe];exact⟨_,rfl,hty⟩
   have x2:y'<=x.y/\x.y<=max y' B:=by rw[hxe];exact hyr
   rw[<-hxe]at hg hx;clear hxe hty hyr;obtain⟨j,hj,hij,hjl⟩:=x1;rw[hj,eU]at hg;apply sR;simp only[go_sem,seval,t0,t1,t2,t3,t4,t11,t14,b11,hn,q];refine pR rfl (aE.ud (args':=[ax fs,aN ws,vI space,vI high,vI i,vI y',aP s]) ⟨(YF.mono E').at,ZH _,ZH _,ZH _,ZH _,ZH _,ZH _,trivial⟩ hx rfl) ?_;have hc:=sH x;have WM:=sP x;have hag:V.agg [vI x.fr,vI x.to,vI x.x,vI x.y,vI x.w]=jm x:=rfl;apply sR;simp only[go_sem,seval];refine aj λi15 Y15 s15 a15 f15=>?_;simp only[go_sem,seval,a15,hv13,hc,WM,hag];generalize YQ:C' Y15 i15 _=Z15;have b15:Z15 i15=some ⟨225,5,[.agg [vI x.fr,vI x.to,vI x.x,vI x.y,vI x.w]]⟩:=by rw[<-YQ];exact af
   have s15':aa J Z15:=by rw[<-YQ];exact s15.ao f15
   clear YQ;refine aj λi30 Z30 s30 a30 f30=>?_;obtain⟨idA,Xg,WK,XG,hd2⟩:=WR.mE (s15'.trans s30);have W1:(acc.length+1)*41<=140737488355328:=by omega
   have Yd:(acc.map jm).length=acc.length:=by simp
   simp only[go_sem,seval,Xg,bl a30,Yd,W1];refine aX λi31 Z31 s31 a31 f31=>?_;have k31:=(WK U (aa.refl _) Z30 (E'.trans (s15'.trans s30))).trans s31;have n31:U i31=none:=(E'.trans (s15'.trans s30)).none f31;have c15:Z31 i15=some ⟨225,5,[.agg [vI x.fr,vI x.to,vI x.x,vI x.y,vI x.w]]⟩:=s31 _ _ (by rw[hd2 i15 f15];exact s30 _ _ b15);have c11:Z31 i11=some ⟨219,2,[.agg [vI s.a,vI s.b]]⟩:=s31 _ _ (by rw[XG i11 _ b11 (.inr (by simp))];exact s30 _ _ (s15' _ _ b11));have r1:WI .i64 (x.y+high):=ae;simp only[go_sem,seval,t0,t1,t2,t3,t11,c15,hj,r1];refine⟨_,?_,j,k,x.y+high,acc++[x],rfl,hjl,by omega,by simp;omega,by rw[hg];simp,by omega,by omega,k31,?_,c11,by simp⟩
   .omega
   .rw[cX];exact aq.new (by simp) a31 n31
  .have q:=qF B';apply sR;simp only[go_sem,seval,t1,t14,hv13,hn,q];have:cz fs ws space high s k i y'=[]:=by
    cases k with
    |zero=>rfl
    |succ k=>rw[cz,au B']
   rw[this,iN]at hg;refine XX ⟨E',?_⟩;rw[hg];exact WR
def Ac{l:List Nd}{rs:List Rm}(hD:DOk l rs){s:WS}{C a:Nat}(h:fk s C)(ha:a<l.length)(X7:1<=WJ l a)(Yh:a+(WJ l a).toNat<=l.length)(h4:bG l (a+1) (a+(WJ l a).toNat)=true):
 fk (qq l rs s a) (C+Xv l a (a+(WJ l a).toNat)):=by
 have Xa:NOk (W7 l a):=by rw[gF ha];exact ec hD.isb ha
 have hc2:Xv l a (a+(WJ l a).toNat)=4+(W7 l a).words.length+Xv l (a+1) (a+(WJ l a).toNat):=nm (by omega) (by omega);unfold qq;rw[hc2];split
 .exact(jD (gG hD _ (a+1) (a+(WJ l a).toNat) _ _ (Xc _) (by omega) (by omega) h4 (et h Xa.st)) Xa.st).more (by omega)
 .split
  .exact(ky h Xa a).more (by omega)
  .split
   .exact(ku h Xa a).more (by omega)
   .rename_i g1 g2 g3;exact(jG hD h ha Xa (by have:=Xa.kind;omega)).more (by omega)
open Go.Proofs
def aq.CX{K U:ad}{e e' sz sz':Nat}{v u:V}{rows WH:List V}(h:aq K U e sz v rows)(h':aq K U e' sz' u WH)(WZ:e≠e'):bL v u:=by
 rintro a n b m rfl rfl rfl;rcases h with⟨h,_⟩|⟨i,h,h2,_⟩
 .cases h
 .rcases h' with⟨h',_⟩|⟨j,h',h2',_⟩
  .cases h'
  .cases h;cases h';rw[h2]at h2';cases h2';exact WZ rfl
def vP(a:Nat)(h:Int):∀(L:List Ln) (s:WS),(eK a h s L).u'=s.u'
 |[],_=>rfl
 |y::L,s=>by
  have:=vP a h L (s.put (eQ a h y));simpa[eK,WS.put]using this
def VH(l:List Nd)(w:Int)(a C:Nat):Prop:=∀(s:WS) (va vf:V) (K U:ad),aa K U->aq K U 90 8 va (s.atoms.map bE)->aq K U 100 7 vf (s.u'.map az)->fk s C->
 av prog 94 [.agg [va,vf,vI s.U',vI s.Wy.y,vI s.Wy.m],ay l,vI a,vI w] U λr Z'=>∃va' vf',r=.agg [va',vf',vI (qq l (cB l w) s a).U',vI (qq l (cB l w) s a).Wy.y,vI (qq l (cB l w) s a).Wy.m]/\
  aa K Z'/\aq K Z' 90 8 va' ((qq l (cB l w) s a).atoms.map bE)/\aq K Z' 100 7 vf' ((qq l (cB l w) s a).u'.map az)
def NJ(l:List Nd)(w:Int)(hb:Xh l=true)(hn:l.length<=2000)(hw1:1<=w)(hw2:w<=1099511627776)(hwl:∀n∈l,n.words.length<=10000):∀(m a C:Nat),l.length-a<m->a<l.length->1<=WJ l a->a+(WJ l a).toNat<=l.length->
 bG l (a+1) (a+(WJ l a).toNat)=true->C+Xv l a (a+(WJ l a).toNat)<=50000->VH l w a C:=by
 intro m
 induction m with
 |zero=>intro a C h;omega
 |succ m ih=>?_
 intro a C hm ha X7 Yh h4 hC s va vf K U hK hva YF hI;have hD:=pn hb hn hw1 hw2;obtain⟨ca,sa⟩:=hva.vc;obtain⟨cf,sf⟩:=YF.vc;have hB:=hI.bd;have hm1:=hB.m1;have hm0:=hB.m0;have hy0:=hB.y0;have hyB:=hB.yB;have Zh:=hI.fl;have ZN:=hI.W3;have Xa:=ec hb ha;have Wz:=gJ l ha;have XO:=gF ha;have hszn:=gY ha;have hwn:=hwl _ (Xo ha);have hRc:=HK l hb hn w hw1 hw2 (a+1) a (by omega) ha;have hsp:=CV hb ha (w:=w);have hSp:=hD.span ha;have hrok:=Al hb hn hw1 hw2 ha;rw[hsp]at hSp;generalize ln l w a=R at*;obtain⟨k1,k2,k3,k4⟩:=hrok;have r1:WI .i64 (R.x+R.w):=ae;have r2:WI .i64 (s.Wy.y+s.Wy.m):=ae;refine e94.q ?_;have hs:=aa.refl U;have Xe:qq l (cB l w) s a=if l[a].kind=1 then(cU l (cB l w) (a+(WJ l a).toNat-(a+1)) (a+1) (a+(WJ l a).toNat) (s.enter l[a].st)).leave l[a].st
  else if l[a].kind=2 then s.text (cB l w) a l[a]else if l[a].kind=3 then WS.mono l (cB l w) s a l[a]else s.float (cB l w) a l[a]:=by unfold qq;rw[XO]
 generalize qq l (cB l w) s a=Z at*;generalize hx:l[a]=x at*;refine mS 22 ?_;simp only[go_sem,seval,c94];refine al hs λi4 Z4 s4 a4 f4 z4 hs=>?_;simp only[go_sem,seval];refine al hs λi8 Z8 s8 a8 f8 z8 hs=>?_;obtain⟨ZS,a4⟩:=WG a4 f8 s8;simp only[go_sem,seval,Wz,Nd.cells];refine al hs λi9 Z9 s9 a9 f9 z9 hs=>?_;obtain⟨n49,a4⟩:=WG a4 f9 s9;obtain⟨n89,a8⟩:=WG a8 f9 s9;simp only[go_sem,seval,a9];generalize Xw:C' _ i9 _=Y9;replace a9:=XD Xw;replace a4:=WQ Xw n49 a4;replace a8:=WQ Xw n89 a8;replace hs:=Xz Xw hs z9;refine pS rfl (hRc _) ?_;simp only[go_sem,seval,jU];refine al hs λi10 Z10 Yt Xm f10 Zn hs=>?_;obtain⟨n410,a4⟩:=WG a4 f10 Yt;obtain⟨n810,a8⟩:=WG a8 f10 Yt;obtain⟨n910,a9⟩:=WG a9 f10 Yt;simp only[go_sem,seval,Xm,r1];generalize Xu:C' _ i10 _=Y10;replace Xm:=XD Xu;replace a4:=WQ Xu n410 a4;replace a8:=WQ Xu n810 a8;replace a9:=WQ Xu n910 a9;replace hs:=Xz Xu hs Zn;refine al hs λi11 Z11 s11 XF f11 z11 hs=>?_;obtain⟨n411,a4⟩:=WG a4 f11 s11;obtain⟨n811,a8⟩:=WG a8 f11 s11;obtain⟨n911,a9⟩:=WG a9 f11 s11;obtain⟨YA,Xm⟩:=WG Xm f11 s11;simp only[go_sem,seval,XF];generalize Xs:C' _ i11 _=Y11;replace XF:=XD Xs;replace a4:=WQ Xs n411 a4;replace a8:=WQ Xs n811 a8;replace a9:=WQ Xs n911 a9;replace Xm:=WQ Xs YA Xm;replace hs:=Xz Xs hs z11;have hva1:=hva.mono hs;have hvf1:=YF.mono hs;replace z4:=hK.none z4;replace z8:=hK.none z8;replace z9:=hK.none z9;replace Zn:=hK.none Zn;replace z11:=hK.none z11;replace hs:=hK.trans hs;clear hva YF hK;rcases Xa.kind with hk|hk|hk|hk
 .rw[ak hk]at Xe;simp only[go_sem,seval,a9,a4,r2,hk];have q3:((a:Int)+x.size)=((a+(WJ l a).toNat:Nat):Int):=by rw[<-hszn];omega
  have q2:((a:Int)+1)=((a+1:Nat):Int):=by omega
  have WM:=Xa.st;have g1:=WM.top;have g2:=WM.WD;have g3:=WM.WV;have g4:=WM.O';have hI1:=et hI Xa.st;have hcst:Xv l a (a+(WJ l a).toNat)=4+(W7 l a).words.length+Xv l (a+1) (a+(WJ l a).toNat):=nm (by omega) (by omega);obtain⟨s1,ZI⟩:∃z,z=s.enter x.st:=⟨_,rfl⟩
  rw[<-ZI]at hI1 Xe;unfold WS.enter at ZI;simp only at ZI;have r5:=rI a;have r6:WI .i64 ((a+(WJ l a).toNat:Nat):Int):=ae;refine pR rfl (aE.ud (args':=[ax s.u',vI x.st.clear]) ⟨hvf1.zL.at,ZH _,trivial⟩ (FZ s.u' x.st.clear (by omega) (hB.flo (by omega))) rfl) ?_;cases hlow:(cy (fS x.st.clear) s.u').2
  .rw[hlow]at ZI;simp only[fO,↓reduceIte]at ZI;apply sR;simp only[go_sem,seval,a4,a9];obtain⟨p,hp⟩:∃p:Pn,p=s.Wy:=⟨_,rfl⟩
   have hs1e':s1={ s with Wy:=dF p x.st.top x.st.WD }:=by rw[ZI,hp]
   obtain⟨hp1,hp2,hp3,hp4⟩:0<=p.y/\0<=p.m/\p.m<=1099511627776/\p.y+p.m<=1099511627776*(C:Int):=by rw[hp];exact⟨hy0,hm0,hm1,hyB⟩
   rw[<-hp]at a4|-;clear hp;generalize Y11=Y5 at*;have hva5:=hva1;have hvf5:=hvf1;clear hva1 hvf1;have hec:=B2 p x.st.top x.st.WD ⟨by omega,by omega⟩ ⟨by omega,by omega⟩ ⟨by omega,by omega⟩ ⟨by omega,by omega⟩;rw[di]at hec;refine pS rfl (hec _) ?_;simp only[go_sem,seval,a4,di,r5];generalize hq6:C' Y5 i4 _=Y6;have hva6:aq K Y6 90 8 va (s1.atoms.map bE):=by rw[<-hq6,hs1e'];exact hva5.bH a4 (by simp)
   have hvf6:aq K Y6 100 7 vf (s1.u'.map az):=by rw[<-hq6,hs1e'];exact hvf5.bH a4 (by simp)
   have b4:Y6 i4=some ⟨162,5,[.agg [va,vf,vI s1.U',vI s1.Wy.y,vI s1.Wy.m]]⟩:=by rw[<-hq6,hs1e'];exact af
   replace a8:=WQ hq6 ZS.symm a8;replace a9:=WQ hq6 n49.symm a9;replace hs:=Xz hq6 hs z4;clear hq6 a4 hva5 hvf5;refine ag.loop (λq st=>∃(b:Nat) (s':WS) (va vf:V),q=a+(WJ l a).toNat-b/\a+1<=b/\b<=a+(WJ l a).toNat/\bG l b (a+(WJ l a).toNat)=true/\
    cU l (cB l w) (a+(WJ l a).toNat-(a+1)) (a+1) (a+(WJ l a).toNat) s1=cU l (cB l w) (a+(WJ l a).toNat-b) b (a+(WJ l a).toNat) s'/\fk s' (C+2+Xv l (a+1) b)/\
    aa K st.U/\aq K st.U 90 8 va (s'.atoms.map bE)/\aq K st.U 100 7 vf (s'.u'.map az)/\
    st.U i4=some ⟨162,5,[.agg [va,vf,vI s'.U',vI s'.Wy.y,vI s'.Wy.m]]⟩/\st.U i8=some ⟨162,5,[.agg [.aB,.aB,vI 0,vI 0,vI 0]]⟩/\st.U i9=some ⟨48,20,[.agg (Nd.cells x)]⟩/\
    st.s 1=ay l/\st.s 2=vI a/\st.s 3=vI w/\st.s 4=.ptr i4 0 0/\st.s 8=.ptr i8 0 0/\st.s 9=.ptr i9 0 0/\st.s 15=vI b) (a+(WJ l a).toNat-(a+1)) ?_ ?_
   .exact⟨a+1,s1,va,vf,rfl,Xc _,by omega,h4,rfl,by rw[uq];exact hI1,hs,hva6,hvf6,b4,a8,a9,rfl,rfl,rfl,rfl,rfl,rfl,by rw[<-q2];rfl⟩
   .clear hs hva6 hvf6 b4 a8 a9 ca cf sa sf;rintro q ⟨S,J⟩ ⟨b,s',va,vf,rfl,hab,hbe,hbB,heq,hIb,hs,hva,YF,a4,a8,a9,t1,t2,t3,t4,t8,t9,t15⟩;simp only at hs hva YF a4 a8 a9 t1 t2 t3 t4 t8 t9 t15;obtain⟨ca,sa⟩:=hva.vc;obtain⟨cf,sf⟩:=YF.vc;rw[Nd.cells]at a9;refine ag.mix 22 ?_;by_cases B':b<a+(WJ l a).toNat
    .have u1:((b:Int)<((a+(WJ l a).toNat:Nat):Int))=True:=L';obtain⟨h1,h2⟩:=bV Yh hbB (Xc b) B';obtain⟨h3,h4'⟩:=cK Yh hbB B';have XW:b<l.length:=by omega
     have hc1:Xv l (a+1) (a+(WJ l a).toNat)=Xv l (a+1) b+Xv l b (a+(WJ l a).toNat):=eA hab hbe Yh;have hc2:Xv l b (a+(WJ l a).toNat)=Xv l b (b+(WJ l b).toNat)+Xv l (b+(WJ l b).toNat) (a+(WJ l a).toNat):=eA (by omega) (by omega) Yh;have hc4:Xv l (a+1) (b+(WJ l b).toNat)=Xv l (a+1) b+Xv l b (b+(WJ l b).toNat):=eA hab (by omega) (by omega);have hszb:=gY XW;have hidb:=gJ l XW;have q4:((b:Int)+l[b].size)=((b+(WJ l b).toNat:Nat):Int):=by rw[hszb];omega
     have r7:WI .i64 ((b:Int)+l[b].size):=ae;have hK0:aa K (C' (C' (C' K i4 ⟨162,5,[.agg [va,vf,vI s'.U',vI s'.Wy.y,vI s'.Wy.m]]⟩) i8 ⟨162,5,[.agg [.aB,.aB,vI 0,vI 0,vI 0]]⟩) i9 ⟨48,20,[.agg (Nd.cells x)]⟩):=(((aa.refl K).ao z4).ao z8).ao z9;have XY:=ih b (C+2+Xv l (a+1) b) (by omega) XW h2 (by omega) h4' (by omega) s' va vf _ J (((hs.dP a4).dP a8).dP a9) (((hva.dP a4 (by simp) _).dP a8 (by simp) _).dP a9 (by simp) _) (((YF.dP a4 (by simp) _).dP a8 (by simp) _).dP a9 (by simp) _) hIb;have hI2:=Ac hD hIb XW h2 (by omega) h4';have YU:=wB (rs:=cB l w) Yh hbB B' s';generalize qq l (cB l w) s' b=s2 at*;rw[Nd.cells]at hK0;apply sR;simp only[go_sem,seval,t1,t2,t3,t4,t9,t15,a4,a9,q3,r6,u1];refine Yn rfl XY ?_;rintro r Z6 ⟨va2,vf2,rfl,hs6,hva2,hvf2⟩;obtain⟨ca2,sa2⟩:=hva2.vc;obtain⟨cf2,sf2⟩:=hvf2.vc;have c9:=hs6 _ _ af;have c8:=hs6 _ _ ((ab n89).trans af);have c4:=hs6 _ _ ((ab n49).trans ((ab ZS).trans af));replace hva2:=hva2.pj hK0;replace hvf2:=hvf2.pj hK0;replace hs6:=hK0.trans hs6;apply sR;simp only[go_sem,seval,t1,t2,t3,t4,t8,t9,t15,c4,c8,c9,hidb,Nd.cells,r7,ab ZS.symm,ab n49.symm];refine⟨_,?_,b+(WJ l b).toNat,s2,va2,vf2,rfl,by omega,by omega,h3,by rw[heq,YU],by rw[hc4,<-Nat.add_assoc];exact hI2,hs6.ao z4,hva2.bH c4 (by simp),hvf2.bH c4 (by simp),rfl,by simp[vI,q4]⟩;omega
    .have u1:((b:Int)<((a+(WJ l a).toNat:Nat):Int))=False:=H';obtain rfl:b=a+(WJ l a).toNat:=by omega
     rw[vw]at heq;rw[heq]at Xe;have e1:=hIb.bd.m1;have e2:=hIb.bd.m0;have e3:=hIb.bd.y0;have e4:=hIb.bd.yB;have hlc:=Bc s'.Wy x.st.WV x.st.O' ⟨by omega,by omega⟩ ⟨by omega,by omega⟩ ⟨by omega,by omega⟩ ⟨by omega,by omega⟩;rw[di]at hlc;apply sR;simp only[go_sem,seval,t2,t4,t9,t15,a4,a9,q3,r6,u1];refine pS rfl (hlc _) ?_;simp only[go_sem,seval,t4,t8,t9,a4,a8,a9,hk,di,ab ZS.symm,ab n49.symm];have c8:∀o,C' J i4 o i8=_:=λo=>(ab ZS.symm).trans a8;refine XX ⟨va,vf,by rw[Xe];rfl,(hs.ao z4).ao z8,?_,?_⟩
     .rw[Xe];exact(hva.bH a4 (by simp)).bH (c8 _) (by simp)
     .rw[Xe];exact(YF.bH a4 (by simp)).bH (c8 _) (by simp)
  .rw[hlow]at ZI;simp only[↓reduceIte]at ZI;obtain⟨f,hfm,e1,_⟩:=kC hlow;have e2:(cy (fS x.st.clear) s.u').1=f.y+f.h:=e1;have hff:=hB.fl f hfm;have hff1:=hff.yB;have hff2:=hff.y0;have hff3:=hff.h0;generalize (cy (fS x.st.clear) s.u').1=low at*;have Yk:=IN s.Wy low ⟨by omega,by omega⟩ ⟨by omega,by omega⟩;rw[di]at Yk;apply sR;simp only[go_sem,seval,a4];refine pR rfl (Yk _) ?_;have hcp:0<=(eH s.Wy low).y/\0<=(eH s.Wy low).m/\(eH s.Wy low).m<=1099511627776/\(eH s.Wy low).y+(eH s.Wy low).m<=1099511627776*(C:Int):=by
    unfold eH;split
    .simp only;omega
    .omega
   apply sR;simp only[go_sem,seval,a4,di];generalize eH s.Wy low=p at*;have hs1e':s1={ s with Wy:=dF p x.st.top x.st.WD }:=ZI;obtain⟨hp1,hp2,hp3,hp4⟩:=hcp;generalize hq5:C' Y11 i4 _=Y5;have hva5:aq K Y5 90 8 va (s.atoms.map bE):=by rw[<-hq5];exact hva1.bH a4 (by simp)
   have hvf5:aq K Y5 100 7 vf (s.u'.map az):=by rw[<-hq5];exact hvf1.bH a4 (by simp)
   replace a4:=XD hq5;replace a8:=WQ hq5 ZS.symm a8;replace a9:=WQ hq5 n49.symm a9;replace hs:=Xz hq5 hs z4;clear hq5 hva1 hvf1;simp only[go_sem,seval,a9];have hec:=B2 p x.st.top x.st.WD ⟨by omega,by omega⟩ ⟨by omega,by omega⟩ ⟨by omega,by omega⟩ ⟨by omega,by omega⟩;rw[di]at hec;refine pS rfl (hec _) ?_;simp only[go_sem,seval,a4,di,r5];generalize hq6:C' Y5 i4 _=Y6;have hva6:aq K Y6 90 8 va (s1.atoms.map bE):=by rw[<-hq6,hs1e'];exact hva5.bH a4 (by simp)
   have hvf6:aq K Y6 100 7 vf (s1.u'.map az):=by rw[<-hq6,hs1e'];exact hvf5.bH a4 (by simp)
   have b4:Y6 i4=some ⟨162,5,[.agg [va,vf,vI s1.U',vI s1.Wy.y,vI s1.Wy.m]]⟩:=by rw[<-hq6,hs1e'];exact af
   replace a8:=WQ hq6 ZS.symm a8;replace a9:=WQ hq6 n49.symm a9;replace hs:=Xz hq6 hs z4;clear hq6 a4 hva5 hvf5;refine ag.loop (λq st=>∃(b:Nat) (s':WS) (va vf:V),q=a+(WJ l a).toNat-b/\a+1<=b/\b<=a+(WJ l a).toNat/\bG l b (a+(WJ l a).toNat)=true/\
    cU l (cB l w) (a+(WJ l a).toNat-(a+1)) (a+1) (a+(WJ l a).toNat) s1=cU l (cB l w) (a+(WJ l a).toNat-b) b (a+(WJ l a).toNat) s'/\fk s' (C+2+Xv l (a+1) b)/\
    aa K st.U/\aq K st.U 90 8 va (s'.atoms.map bE)/\aq K st.U 100 7 vf (s'.u'.map az)/\
    st.U i4=some ⟨162,5,[.agg [va,vf,vI s'.U',vI s'.Wy.y,vI s'.Wy.m]]⟩/\st.U i8=some ⟨162,5,[.agg [.aB,.aB,vI 0,vI 0,vI 0]]⟩/\st.U i9=some ⟨48,20,[.agg (Nd.cells x)]⟩/\
    st.s 1=ay l/\st.s 2=vI a/\st.s 3=vI w/\st.s 4=.ptr i4 0 0/\st.s 8=.ptr i8 0 0/\st.s 9=.ptr i9 0 0/\st.s 15=vI b) (a+(WJ l a).toNat-(a+1)) ?_ ?_
   .exact⟨a+1,s1,va,vf,rfl,Xc _,by omega,h4,rfl,by rw[uq];exact hI1,hs,hva6,hvf6,b4,a8,a9,rfl,rfl,rfl,rfl,rfl,rfl,by rw[<-q2];rfl⟩
   .clear hs hva6 hvf6 b4 a8 a9 ca cf sa sf;rintro q ⟨S,J⟩ ⟨b,s',va,vf,rfl,hab,hbe,hbB,heq,hIb,hs,hva,YF,a4,a8,a9,t1,t2,t3,t4,t8,t9,t15⟩;simp only at hs hva YF a4 a8 a9 t1 t2 t3 t4 t8 t9 t15;obtain⟨ca,sa⟩:=hva.vc;obtain⟨cf,sf⟩:=YF.vc;rw[Nd.cells]at a9;refine ag.mix 22 ?_;by_cases B':b<a+(WJ l a).toNat
    .have u1:((b:Int)<((a+(WJ l a).toNat:Nat):Int))=True:=L';obtain⟨h1,h2⟩:=bV Yh hbB (Xc b) B';obtain⟨h3,h4'⟩:=cK Yh hbB B';have XW:b<l.length:=by omega
     have hc1:Xv l (a+1) (a+(WJ l a).toNat)=Xv l (a+1) b+Xv l b (a+(WJ l a).toNat):=eA hab hbe Yh;have hc2:Xv l b (a+(WJ l a).toNat)=Xv l b (b+(WJ l b).toNat)+Xv l (b+(WJ l b).toNat) (a+(WJ l a).toNat):=eA (by omega) (by omega) Yh;have hc4:Xv l (a+1) (b+(WJ l b).toNat)=Xv l (a+1) b+Xv l b (b+(WJ l b).toNat):=eA hab (by omega) (by omega);have hszb:=gY XW;have hidb:=gJ l XW;have q4:((b:Int)+l[b].size)=((b+(WJ l b).toNat:Nat):Int):=by rw[hszb];omega
     have r7:WI .i64 ((b:Int)+l[b].size):=ae;have hK0:aa K (C' (C' (C' K i4 ⟨162,5,[.agg [va,vf,vI s'.U',vI s'.Wy.y,vI s'.Wy.m]]⟩) i8 ⟨162,5,[.agg [.aB,.aB,vI 0,vI 0,vI 0]]⟩) i9 ⟨48,20,[.agg (Nd.cells x)]⟩):=(((aa.refl K).ao z4).ao z8).ao z9;have XY:=ih b (C+2+Xv l (a+1) b) (by omega) XW h2 (by omega) h4' (by omega) s' va vf _ J (((hs.dP a4).dP a8).dP a9) (((hva.dP a4 (by simp) _).dP a8 (by simp) _).dP a9 (by simp) _) (((YF.dP a4 (by simp) _).dP a8 (by simp) _).dP a9 (by simp) _) hIb;have hI2:=Ac hD hIb XW h2 (by omega) h4';have YU:=wB (rs:=cB l w) Yh hbB B' s';generalize qq l (cB l w) s' b=s2 at*;rw[Nd.cells]at hK0;apply sR;simp only[go_sem,seval,t1,t2,t3,t4,t9,t15,a4,a9,q3,r6,u1];refine Yn rfl XY ?_;rintro r Z6 ⟨va2,vf2,rfl,hs6,hva2,hvf2⟩;obtain⟨ca2,sa2⟩:=hva2.vc;obtain⟨cf2,sf2⟩:=hvf2.vc;have c9:=hs6 _ _ af;have c8:=hs6 _ _ ((ab n89).trans af);have c4:=hs6 _ _ ((ab n49).trans ((ab ZS).trans af));replace hva2:=hva2.pj hK0;replace hvf2:=hvf2.pj hK0;replace hs6:=hK0.trans hs6;apply sR;simp only[go_sem,seval,t1,t2,t3,t4,t8,t9,t15,c4,c8,c9,hidb,Nd.cells,r7,ab ZS.symm,ab n49.symm];refine⟨_,?_,b+(WJ l b).toNat,s2,va2,vf2,rfl,by omega,by omega,h3,by rw[heq,YU],by rw[hc4,<-Nat.add_assoc];exact hI2,hs6.ao z4,hva2.bH c4 (by simp),hvf2.bH c4 (by simp),rfl,by simp[vI,q4]⟩;omega
    .have u1:((b:Int)<((a+(WJ l a).toNat:Nat):Int))=False:=H';obtain rfl:b=a+(WJ l a).toNat:=by omega
     rw[vw]at heq;rw[heq]at Xe;have e1:=hIb.bd.m1;have e2:=hIb.bd.m0;have e3:=hIb.bd.y0;have e4:=hIb.bd.yB;have hlc:=Bc s'.Wy x.st.WV x.st.O' ⟨by omega,by omega⟩ ⟨by omega,by omega⟩ ⟨by omega,by omega⟩ ⟨by omega,by omega⟩;rw[di]at hlc;apply sR;simp only[go_sem,seval,t2,t4,t9,t15,a4,a9,q3,r6,u1];refine pS rfl (hlc _) ?_;simp only[go_sem,seval,t4,t8,t9,a4,a8,a9,hk,di,ab ZS.symm,ab n49.symm];have c8:∀o,C' J i4 o i8=_:=λo=>(ab ZS.symm).trans a8;refine XX ⟨va,vf,by rw[Xe];rfl,(hs.ao z4).ao z8,?_,?_⟩
     .rw[Xe];exact(hva.bH a4 (by simp)).bH (c8 _) (by simp)
     .rw[Xe];exact(YF.bH a4 (by simp)).bH (c8 _) (by simp)
 .rw[au (by omega),ak hk]at Xe;simp only[go_sem,seval,XF,a9,a4,r2,hk];have hlb:=Xa.line;have hwok:WOk x.words x.space:=⟨by omega,λz hz=>by have:=Xa.words z hz;omega,Xa.space.1,Xa.space.2⟩
  unfold WS.text at Xe;rw[hsp]at Xe;have hLl:=jq s.u' x.words x.space x.line ⟨R.x,R.x+R.w⟩ x.words.length 0 (s.Wy.y+s.Wy.m);have hLb:=iV (ws:=x.words) (space:=x.space) (s:=⟨R.x,R.x+R.w⟩) (λf hf=>(hB.fl f hf).yB) hlb.1 x.words.length 0 (s.Wy.y+s.Wy.m);have htc:=(IF vf s.u' hvf1.zL x.words x.space x.line (s.Wy.y+s.Wy.m) ⟨R.x,R.x+R.w⟩ (by omega) (hB.flo (by omega)) (1099511627776*(C:Int)) (λf hf=>(hB.fl f hf).yB) (by omega) (by omega) (by omega) hlb.1 hlb.2 ⟨⟨by simp only;omega,by simp only;omega⟩,⟨by simp only;omega,by simp only;omega⟩⟩ hwok).GW λ_ _ h=>h.2.ni (v0:=j0 (cz s.u' x.words x.space x.line ⟨R.x,R.x+R.w⟩ x.words.length 0 (s.Wy.y+s.Wy.m))) h.1 rfl;generalize cz s.u' x.words x.space x.line ⟨R.x,R.x+R.w⟩ x.words.length 0 (s.Wy.y+s.Wy.m)=L at*;have hnL:dv false (j0 L)=some (.int .i64 L.length):=by simp[j0,dv]
  have hmul:x.line*(x.words.length:Int)<=1099511627776*10000:=Int.mul_le_mul hlb.2 (by omega) (by omega) (by omega);rw[aP]at htc;simp only at htc;refine pS rfl htc ?_;simp only[go_sem,seval];have hZ:Z=eK a x.line s L:=Xe;clear Xe;refine ag.loop (λm st=>∃(j:Nat) (va':V),j<=L.length/\m=L.length-j/\aa K st.U/\aq K st.U 90 8 va' ((eK a x.line s (L.take j)).atoms.map bE)/\aq K st.U 100 7 vf (s.u'.map az)/\
   st.U i4=some ⟨162,5,[.agg [va',vf,vI (eK a x.line s (L.take j)).U',vI (eK a x.line s (L.take j)).Wy.y,vI (eK a x.line s (L.take j)).Wy.m]]⟩/\
   st.U i8=some ⟨162,5,[.agg [.aB,.aB,vI 0,vI 0,vI 0]]⟩/\st.U i9=some ⟨48,20,[.agg (Nd.cells x)]⟩/\st.s 2=vI a/\st.s 4=.ptr i4 0 0/\st.s 8=.ptr i8 0 0/\st.s 9=.ptr i9 0 0/\st.s 16=j0 L/\st.s 17=vI j) L.length ?_ ?_
  .exact⟨0,va,by omega,rfl,hs,hva1,hvf1,a4,a8,a9,rfl,rfl,rfl,rfl,rfl,rfl⟩
  .clear hs hva1 hvf1 a4 a8 a9 ca sa;rintro m ⟨S,J⟩ ⟨j,va,hj,rfl,hs,hva,YF,a4,a8,a9,k2',k4',k8',k9',k16,k17⟩;simp only at hs hva YF a4 a8 a9 k2' k4' k8' k9' k16 k17;obtain⟨ca,sa⟩:=hva.vc;refine ag.mix 22 ?_;rw[Nd.cells]at a9;by_cases B':j<L.length
   .have u1:=qT B';have Xx:∀U,bp U 5 (j0 L) (.int .i64 j)=some (.rp (jm L[j])):=λU=>by simp[j0,bp,B']
    have W4:=vk (a:=a) (h:=x.line) (s:=s) B';have hbd:=hLb L[j] (Xo B');have ZE:=oH a x.line (L.take j) s;rw[jb,Nat.min_eq_left (by omega)]at ZE;have hpf:(eK a x.line s (L.take (j+1))).u'=s.u'/\(eK a x.line s (L.take (j+1))).U'=(eK a x.line s (L.take j)).U':=by rw[W4];exact⟨vP _ _ _ _,rfl⟩
    generalize L[j]=y at*;have hen':jm y=.agg [vI y.fr,vI y.to,vI y.x,vI y.y,vI y.w]:=rfl;generalize eK a x.line s (L.take j)=T at*;have r3:WI .i64 (y.y+x.line):=ae;have r4:=rI j;apply sR;simp only[go_sem,seval,k16,k17,hnL,u1,Xx,hen'];refine al hs λi18 Z18 s18 a18 f18 z18 hs=>?_;obtain⟨n418,a4⟩:=WG a4 f18 s18;obtain⟨n818,a8⟩:=WG a8 f18 s18;obtain⟨n918,a9⟩:=WG a9 f18 s18;have ha18:=hva.mono s18;have hf18:=YF.mono s18;simp only[go_sem,seval,a18,k2',k4',k9',a4,a9,ab n418,ab n918];generalize hq18:C' Z18 i18 _=Y18;replace ha18:aq K Y18 90 8 va (T.atoms.map bE):=by rw[<-hq18];exact ha18.bH a18 (by simp)
    replace hf18:aq K Y18 100 7 vf (s.u'.map az):=by rw[<-hq18];exact hf18.bH a18 (by simp)
    replace a18:=XD hq18;replace a4:=WQ hq18 n418 a4;replace a8:=WQ hq18 n818 a8;replace a9:=WQ hq18 n918 a9;replace hs:=Xz hq18 hs z18;refine aj λi85 Z85 s85 a85 f85=>?_;obtain⟨idA,Xg,hdv,XG,WK⟩:=ha18.mM s85;have hap:=ha18.CX hf18 (by simp);have Yd:(T.atoms.map bE).length=T.atoms.length:=by simp
    have W1:(T.atoms.length+1)*65<=140737488355328:=by omega
    simp only[go_sem,seval,Xg,bl a85,Yd,W1];refine aX λi86 Z86 s86 a86 f86=>?_;have hf86:=((hf18.mono s85).C0 (idA:=idA) λj hj n hv=>hap _ _ _ _ (hdv j hj) hv rfl).mono s86;have n86:=(hs.trans s85).none f86;have ha86:aq K Z86 90 8 (.own i86 0 (T.atoms.length+1)) ((T.atoms++[eQ a x.line y]).map bE):=aq.new (by simp) (by rw[a86,cX];rfl) n86;replace a4:=s86 _ _ ((XG i4 (ha18.ck a4 (by simp)) _).trans (s85 _ _ a4));replace a8:=s86 _ _ ((XG i8 (ha18.ck a8 (by simp)) _).trans (s85 _ _ a8));replace a9:=s86 _ _ ((XG i9 (ha18.ck a9 (by simp)) _).trans (s85 _ _ a9));replace a18:=s86 _ _ ((XG i18 (ha18.ck a18 (by simp)) _).trans (s85 _ _ a18));replace hs:=(WK K (aa.refl K) Z85 (hs.trans s85)).trans s86;simp only[go_sem,seval,k2',k4',k8',k9',k16,k17,a4,a8,a9,a18,r3,r4,ab ZS.symm,ab n49.symm,ab n418.symm];refine⟨_,by omega,j+1,.own i86 0 (T.atoms.length+1),by omega,rfl,hs.ao z4,?_,hf86.bH a4 (by simp),?_,rfl,by simp[vI]⟩
    .rw[W4];exact ha86.bH a4 (by simp)
    .rw[W4];rfl
   .have u1:=qF B';obtain rfl:j=L.length:=by omega
    rw[dR]at hva a4;apply sR;simp only[go_sem,seval,k4',k8',k9',k16,k17,a4,a8,a9,hk,hnL,u1];exact XX ⟨va,vf,by rw[hZ],hs.ao z8,by rw[hZ];exact hva.bH a8 (by simp),by rw[hZ,vP];exact YF.bH a8 (by simp)⟩
 .rw[au (by omega),au (by omega),ak hk]at Xe;simp only[go_sem,seval,XF,a9,a4,r2,hk];have hyr:=eS (w:=x.w) (high:=x.h) (y:=s.Wy.y+s.Wy.m) (s:=ep (cB l w) a) (λf hf=>(hB.fl f hf).yB);have hws:=Xa.w;have hhs:=Xa.h;unfold WS.mono at Xe;rw[hsp]at Xe hyr;replace Xe:Z=s.put ⟨2,a,0,0,(bM s.u' (fX s.u' x.w x.h ⟨R.x,R.x+R.w⟩ (s.Wy.y+s.Wy.m)) x.h ⟨R.x,R.x+R.w⟩).a,fX s.u' x.w x.h ⟨R.x,R.x+R.w⟩ (s.Wy.y+s.Wy.m),x.w,x.h⟩:=Xe;have hrc:=E0 s.u' x.w x.h ⟨R.x,R.x+R.w⟩ (by omega) (hB.flo (by omega)) ⟨by omega,by omega⟩ ⟨⟨by simp only;omega,by simp only;omega⟩,⟨by simp only;omega,by simp only;omega⟩⟩ (gtJ s.u' (s.Wy.y+s.Wy.m)+1) (s.Wy.y+s.Wy.m) (by omega) ⟨by omega,by omega⟩;generalize Yg:fX s.u' x.w x.h ⟨R.x,R.x+R.w⟩ (s.Wy.y+s.Wy.m)=W3 at*;generalize bM s.u' W3 x.h ⟨R.x,R.x+R.w⟩=bd at*;rw[aP]at hrc;simp only at hrc;refine pS rfl (aE.ud (args':=[ax s.u',vI x.w,vI x.h,vI (s.Wy.y+s.Wy.m),.agg [vI R.x,vI (R.x+R.w)]]) ⟨hvf1.zL.at,ZH _,ZH _,ZH _,ZH _,trivial⟩ hrc rfl) ?_;simp only[go_sem,seval,aP];refine al hs λi19 Y19 s19 a19 f19 z19 hs=>?_;obtain⟨n419,a4⟩:=WG a4 f19 s19;obtain⟨n819,a8⟩:=WG a8 f19 s19;obtain⟨n919,a9⟩:=WG a9 f19 s19;have ha19:=hva1.mono s19;have hf19:=hvf1.mono s19;have r3:WI .i64 (W3+x.h):=ae;simp only[go_sem,seval,a19];generalize Yy:C' Y19 i19 _=Z19;replace ha19:aq K Z19 90 8 va (s.atoms.map bE):=by rw[<-Yy];exact ha19.bH a19 (by simp)
  replace hf19:aq K Z19 100 7 vf (s.u'.map az):=by rw[<-Yy];exact hf19.bH a19 (by simp)
  replace a19:=XD Yy;replace a4:=WQ Yy n419 a4;replace a8:=WQ Yy n819 a8;replace a9:=WQ Yy n919 a9;replace hs:=Xz Yy hs z19;simp only[go_sem,seval,a19,a9,a4,hk];refine aj λi85 Z85 s85 a85 f85=>?_;obtain⟨idA,Xg,hdv,XG,WK⟩:=ha19.mM s85;have hap:=ha19.CX hf19 (by simp);have Yd:(s.atoms.map bE).length=s.atoms.length:=by simp
  have W1:(s.atoms.length+1)*65<=140737488355328:=by omega
  simp only[go_sem,seval,Xg,bl a85,Yd,W1];refine aX λi86 Z86 s86 a86 f86=>?_;have hf86:=((hf19.mono s85).C0 (idA:=idA) λj hj n hv=>hap _ _ _ _ (hdv j hj) hv rfl).mono s86;have n86:=(hs.trans s85).none f86;have ha86:aq K Z86 90 8 (.own i86 0 (s.atoms.length+1)) ((s.atoms++[(⟨2,a,0,0,bd.a,W3,x.w,x.h⟩:XA)]).map bE):=aq.new (by simp) (by rw[a86,cX];rfl) n86;replace a4:=s86 _ _ ((XG i4 (ha19.ck a4 (by simp)) _).trans (s85 _ _ a4));replace a8:=s86 _ _ ((XG i8 (ha19.ck a8 (by simp)) _).trans (s85 _ _ a8));replace a9:=s86 _ _ ((XG i9 (ha19.ck a9 (by simp)) _).trans (s85 _ _ a9));replace hs:=(WK K (aa.refl K) Z85 (hs.trans s85)).trans s86;simp only[go_sem,seval,a4,a8,a9,hk,r3,ab ZS.symm,ab n49.symm];have c8:∀o,C' Z86 i4 o i8=_:=λo=>(ab ZS.symm).trans a8;refine XX ⟨.own i86 0 (s.atoms.length+1),vf,by rw[Xe];rfl,(hs.ao z4).ao z8,?_,?_⟩
  .rw[Xe];exact(ha86.bH a4 (by simp)).bH (c8 _) (by simp)
  .rw[Xe];exact(hf86.bH a4 (by simp)).bH (c8 _) (by simp)
 .rw[au (by omega),au (by omega),au (by omega)]at Xe;have Yo:dv false va=some (.int .i64 s.atoms.length):=by rw[hva1.len];simp
  simp only[go_sem,seval,a9,a4,r2,hk,Yo];refine al hs λi21 Z21 s21 a21 f21 z21 hs=>?_;obtain⟨n421,a4⟩:=WG a4 f21 s21;obtain⟨n821,a8⟩:=WG a8 f21 s21;obtain⟨n921,a9⟩:=WG a9 f21 s21;obtain⟨n1121,XF⟩:=WG XF f21 s21;have ha21:=hva1.mono s21;have hf21:=hvf1.mono s21;have nf21:=hvf1.pV f21;simp only[go_sem,seval,a21,XF,a4,ab n421,ab n1121];generalize hq21:C' Z21 i21 _=Y21;replace ha21:aq K Y21 90 8 va (s.atoms.map bE):=by rw[<-hq21];exact ha21.bH a21 (by simp)
  replace hf21:aq K Y21 100 7 vf (s.u'.map az):=by rw[<-hq21];exact hf21.wV nf21
  replace a21:=XD hq21;replace a4:=WQ hq21 n421 a4;replace a8:=WQ hq21 n821 a8;replace a9:=WQ hq21 n921 a9;replace hs:=Xz hq21 hs z21;have hws:=Xa.w;have hhs:=Xa.h;have hput:=K3 vf s.u' hf21 ⟨a,x.side,s.atoms.length,0,0,x.w,x.h⟩ (s.Wy.y+s.Wy.m) ⟨R.x,R.x+R.w⟩ (by omega) (hB.flo (by omega)) ⟨by omega,by omega⟩ (show Bq x.h from⟨by omega,by omega⟩) (show Bq x.w from⟨by omega,by omega⟩) ⟨⟨by simp only;omega,by simp only;omega⟩,⟨by simp only;omega,by simp only;omega⟩⟩;rw[aP,az]at hput;unfold WS.float at Xe;rw[hsp]at Xe;simp only at hput;generalize nU s.u' ⟨a,x.side,s.atoms.length,0,0,x.w,x.h⟩ (s.Wy.y+s.Wy.m) ⟨R.x,R.x+R.w⟩=PF at*;refine Yn rfl hput ?_;rintro vr Z6 ⟨s6,hvr⟩;replace hvr:=hvr.pj hs;replace hs:=hs.trans s6;replace a4:=s6 _ _ a4;replace a8:=s6 _ _ a8;have ha6:=ha21.mono s6;obtain⟨cr,sr⟩:=hvr.vc;apply sR;simp only[go_sem,seval,a4,a8,cr,sr,ab ZS.symm];have c8:∀o,C' Z6 i4 o i8=_:=λo=>(ab ZS.symm).trans a8;refine XX ⟨va,vr,by rw[Xe],(hs.ao z4).ao z8,?_,?_⟩
  .rw[Xe];exact(ha6.bH a4 (by simp)).bH (c8 _) (by simp)
  .rw[Xe];exact(hvr.bH a4 (by simp)).bH (c8 _) (by simp)
open Go.Proofs
def Ge{α:Type}{l:List α}{j:Nat}{x:α}(h:l[j]?=some x):l.set j x=l:=by
 obtain⟨hj,rfl⟩:=oR.1 h;simp
def Gj(n:Nat)(l:List T'):fi n l.length l=l.map (lP n):=by
 unfold fi;rw[dR,xD,iN]
def KG(l:List Nd)(hl:dz l)(w:Int)(hw1:1<=w)(hw2:w<=1099511627776)(hck:dZ l=0):aE prog 42 [ay l,vI w] (.WC [x6 (cY l w),vI 0]):=λU=>by
 obtain⟨hb,hn,hwo,hcs⟩:=nK hck;have Yk:=Ev l hl;rw[hck]at Yk;have hD:=pn hb hn hw1 hw2;have hr:bG l 0 l.length=true:=by simp only[Xh,Ba]at hb;exact hb.2
 have Yp:=bK l;have Xe:=NJ l w hb hn hw1 hw2 (λx hx=>by have:=hwo x hx;omega);have hgl:cY l w=⟨(cU l (cB l w) (l.length-0) 0 l.length ⟨[],[],0,⟨0,0⟩⟩).fin.atoms,(cU l (cB l w) (l.length-0) 0 l.length ⟨[],[],0,⟨0,0⟩⟩).fin.u',(cU l (cB l w) (l.length-0) 0 l.length ⟨[],[],0,⟨0,0⟩⟩).fin.U'⟩:=rfl;have hI0:fk ⟨[],[],0,⟨0,0⟩⟩ 0:=⟨⟨by simp,by simp,by simp,by simp,by simp⟩,by simp,by simp⟩
 have hsd:=rS (rs:=cB l w) hb (l.length-0) 0 l.length ⟨[],[],0,⟨0,0⟩⟩ (by omega) (Xc _) hr (λf hf=>by simp at hf);have han:=xy (l:=l) (rs:=cB l w) (l.length-0) 0 l.length ⟨[],[],0,⟨0,0⟩⟩ (λf hf=>by simp at hf);rw[hgl];refine e42.q ?_;have hs:=aa.refl U;have q1:(w<1)=False:=H';have q2:(w>1099511627776)=False:=H';have q3:((0:Int)≠0)=False:=H' (λh=>h rfl);refine mS 11 ?_;simp only[go_sem,seval,c42];refine al hs λi4 Z4 s4 a4 f4 z4 hs=>?_;simp only[go_sem,seval,q1,q2];refine pS rfl (Yk _) ?_;simp only[go_sem,seval,q3];refine al hs λi7 Z7 s7 a7 f7 z7 hs=>?_;obtain⟨n47,a4⟩:=WG a4 f7 s7;simp only[go_sem,seval,a7];generalize Yl:C' _ i7 _=Y7;replace a7:=XD Yl;replace a4:=WQ Yl n47 a4;replace hs:=Xz Yl hs z7;obtain⟨X2,hFIN⟩:∃z,z=cU l (cB l w) (l.length-0) 0 l.length ⟨[],[],0,⟨0,0⟩⟩:=⟨_,rfl⟩
 rw[<-hFIN]at hsd han|-;refine ag.loop (λq st=>∃(b:Nat) (s':WS) (va vf:V),q=l.length-b/\b<=l.length/\bG l b l.length=true/\X2=cU l (cB l w) (l.length-b) b l.length s'/\fk s' (Xv l 0 b)/\
  aa U st.U/\aq U st.U 90 8 va (s'.atoms.map bE)/\aq U st.U 100 7 vf (s'.u'.map az)/\
  st.U i7=some ⟨162,5,[.agg [va,vf,vI s'.U',vI s'.Wy.y,vI s'.Wy.m]]⟩/\st.U i4=some ⟨37,3,[.agg [.aB,.aB,vI 0]]⟩/\
  st.s 0=ay l/\st.s 1=vI w/\st.s 4=.ptr i4 0 0/\st.s 7=.ptr i7 0 0/\st.s 8=vI b) l.length ?_ ?_
 .exact⟨0,⟨[],[],0,⟨0,0⟩⟩,.aB,.aB,by omega,by omega,hr,hFIN,by rw[uq];exact hI0,hs,aq.start,aq.start,a7,a4,rfl,rfl,rfl,rfl,rfl⟩
 .clear hs a4 a7 hFIN hI0;rintro q ⟨S,J⟩ ⟨b,s',va,vf,rfl,hbe,hbB,heq,hIb,hs,hva,YF,a7,a4,t0,t1,t4,t7,t8⟩;simp only at hs hva YF a7 a4 t0 t1 t4 t7 t8;obtain⟨ca,sa⟩:=hva.vc;obtain⟨cf,sf⟩:=YF.vc;refine ag.mix 11 ?_;by_cases B':b<l.length
  .have u1:=qT B';obtain⟨h1,h2⟩:=bV (Xc _) hbB (Xc b) B';obtain⟨h3,h4'⟩:=cK (Xc _) hbB B';have hc1:Xv l 0 l.length=Xv l 0 b+Xv l b l.length:=eA (by omega) (by omega) (Xc _);have hc2:Xv l b l.length=Xv l b (b+(WJ l b).toNat)+Xv l (b+(WJ l b).toNat) l.length:=eA (by omega) (by omega) (Xc _);have hc4:Xv l 0 (b+(WJ l b).toNat)=Xv l 0 b+Xv l b (b+(WJ l b).toNat):=eA (by omega) (by omega) (by omega);have hszb:=gY B';have hidb:=gJ l B';have q4:((b:Int)+l[b].size)=((b+(WJ l b).toNat:Nat):Int):=by rw[hszb];omega
   have r7:WI .i64 ((b:Int)+l[b].size):=ae;have hK0:aa U (C' (C' U i7 ⟨162,5,[.agg [va,vf,vI s'.U',vI s'.Wy.y,vI s'.Wy.m]]⟩) i4 ⟨37,3,[.agg [.aB,.aB,vI 0]]⟩):=((aa.refl U).ao z7).ao z4;have XY:=Xe (l.length-b+1) b (Xv l 0 b) (by omega) B' h2 (by omega) h4' (by omega) s' va vf _ J ((hs.dP a7).dP a4) ((hva.dP a7 (by simp) _).dP a4 (by simp) _) ((YF.dP a7 (by simp) _).dP a4 (by simp) _) hIb;have hI2:=Ac hD hIb B' h2 (by omega) h4';have YU:=wB (rs:=cB l w) (Xc _) hbB B' s';generalize qq l (cB l w) s' b=s2 at*;apply sR;simp only[go_sem,seval,t0,t1,t7,t8,a7,Yp,u1];refine Yn rfl XY ?_;rintro r Z6 ⟨va2,vf2,rfl,hs6,hva2,hvf2⟩;obtain⟨ca2,sa2⟩:=hva2.vc;obtain⟨cf2,sf2⟩:=hvf2.vc;have c4:=hs6 _ _ af;have c7:=hs6 _ _ ((ab n47.symm).trans af);replace hva2:=hva2.pj hK0;replace hvf2:=hvf2.pj hK0;replace hs6:=hK0.trans hs6;apply sR;simp only[go_sem,seval,t0,t1,t4,t7,t8,c4,c7,hidb,Nd.cells,r7,ab n47];refine⟨_,?_,b+(WJ l b).toNat,s2,va2,vf2,rfl,by omega,h3,by rw[heq,YU],by rw[hc4];exact hI2,hs6.ao z7,hva2.bH c7 (by simp),hvf2.bH c7 (by simp),by simp[vI,q4]⟩;omega
  .have u1:=qF B';obtain rfl:b=l.length:=by omega
   rw[vw]at heq;subst heq;have e1:=hIb.bd.m1;have e2:=hIb.bd.m0;have e3:=hIb.bd.y0;have e4:=hIb.bd.yB;have r5:WI .i64 (X2.Wy.y+X2.Wy.m):=ae;have ZN:=hIb.W3;have Zh:=hIb.fl;have hflo:=hIb.bd.fl;have XV:X2.fin={ X2 with U':=vZ X2,u':=X2.u'.map (lP X2.atoms.length) }:=rfl;rw[LM hsd]at XV;rw[XV];clear XV;simp only;apply sR;simp only[go_sem,seval,t0,t7,t8,a7,Yp,u1,r5];refine ag.loop (λq st=>∃(j:Nat),j<=X2.u'.length/\q=X2.u'.length-j/\aa U st.U/\aq U st.U 90 8 va (X2.atoms.map bE)/\aq U st.U 100 7 vf ((fi X2.atoms.length j X2.u').map az)/\
    st.U i7=some ⟨162,5,[.agg [va,vf,vI (hiF (X2.Wy.y+X2.Wy.m) (X2.u'.take j)),vI X2.Wy.y,vI X2.Wy.m]]⟩/\st.U i4=some ⟨37,3,[.agg [.aB,.aB,vI 0]]⟩/\
    st.s 4=.ptr i4 0 0/\st.s 7=.ptr i7 0 0/\st.s 9=vI j) X2.u'.length ?_ ?_
   .exact⟨0,by omega,rfl,hs.ao z7,hva.bH a7 (by simp),by simpa[fi]using YF.bH a7 (by simp),af,(ab n47).trans a4,t4,t7,rfl⟩
   .clear hs hva YF a7 a4 t0 t1 t4 t7 t8;rintro q ⟨S,J⟩ ⟨j,hj,rfl,hs,hva,YF,a7,a4,t4,t7,t9⟩;simp only at hs hva YF a7 a4 t4 t7 t9;refine ag.mix 11 ?_;have hlen4:=kz X2.atoms.length j X2.u';have hlf:dv false vf=some (.int .i64 X2.u'.length):=by rw[YF.len,cJ,hlen4]
    have Yo:dv false va=some (.int .i64 X2.atoms.length):=by rw[hva.len];simp
    by_cases B':j<X2.u'.length
    .have u2:=qT B';have hvf0:=YF;obtain⟨id,hve,h2,h3⟩:∃id,vf=.own id 0 X2.u'.length/\J id=some ⟨100,7,(fi X2.atoms.length j X2.u').map az⟩/\U id=none:=by
      rcases YF with⟨_,h0⟩|⟨id,h1,h2,h3⟩
      .exfalso;have:=congrArg List.length h0;rw[cJ,hlen4]at this;simp only[List.length_nil]at this;omega
      .rw[cJ,hlen4]at h1;exact⟨id,h1,h2,h3⟩
     have YJ:=rN (n:=X2.atoms.length) B';have hset:=sx (n:=X2.atoms.length) B';have hget2:((fi X2.atoms.length j X2.u').map az)[j]?=some (az X2.u'[j]):=by rw[xc,YJ];rfl
     have hrl:((fi X2.atoms.length j X2.u').map az).length=X2.u'.length:=by rw[cJ,hlen4]
     have M':∀X':ad,X' id=some ⟨100,7,(fi X2.atoms.length j X2.u').map az⟩->bp X' 7 vf (.int .i64 j)=some (.ptr id j 0):=λX' h=>by rw[hve,<-hrl];exact kc h (by rw[hrl];exact B')
     have hfo:=hflo _ (Xo B');have hf0:=han _ (Xo B');have haf:=Jl (n:=X2.atoms.length) hf0;have hht:=IA (h:=X2.Wy.y+X2.Wy.m) B';generalize X2.u'[j]=f at*;have hen:az f=.agg [vI f.node,vI f.side,vI f.anchor,vI f.x,vI f.y,vI f.w,vI f.h]:=rfl;have hfy:=hfo.y0;have hfb:=hfo.yB;have hfh:=hfo.h0;have r6:WI .i64 (f.y+f.h):=ae;have r7:WI .i64 ((X2.atoms.length:Int)-1):=ae;have r8:=rI j;obtain⟨ca,sa⟩:=hva.vc;obtain⟨cf,sf⟩:=hvf0.vc;rw[hen]at hget2;generalize hRW:(fi X2.atoms.length j X2.u').map az=RW at*;have hsZ:=hs;replace hs:=aa.refl J;have a7_:=a7;have a4_:=a4;apply sR;simp only[go_sem,seval,t7,t9,a7,hlf,u2,h2,M' J h2,hget2];refine al hs λi10 Z10 Yt Xm f10 Zn hs=>?_;obtain⟨n410,a4⟩:=WG a4 f10 Yt;obtain⟨n710,a7⟩:=WG a7 f10 Yt;have nid:id≠i10:=aQ h2 f10;have h2':=Yt _ _ h2;have ni7:id≠i7:=λe=>by
      rw[e,(show J i7=_ from a7_)]at h2;cases h2
     have nid4:id≠i4:=λe=>by rw[e,a4_]at h2;cases h2
     have hva10:=hva.mono Yt;by_cases ZO:f.anchor>=X2.atoms.length
     .have u3:(f.anchor>=X2.atoms.length)=True:=L' ZO;rw[ak ZO]at haf;simp only[go_sem,seval,Xm,a7,t7,t9,r6,r7,cg,Yo,u3,ab n710,ab n710.symm];generalize hqX:C' (C' _ i10 _) i7 _=ZX;have b7:ZX i7=some ⟨162,5,[.agg [va,vf,vI (max (hiF (X2.Wy.y+X2.Wy.m) (X2.u'.take j)) (f.y+f.h)),vI X2.Wy.y,vI X2.Wy.m]]⟩:=by rw[<-hqX];exact af
      have b4:=((congrFun hqX i4).symm.trans ((ab n47).trans (ab n410))).trans a4;have bD:=((congrFun hqX id).symm.trans ((ab ni7).trans (ab nid))).trans h2';have hvaX:aq U ZX 90 8 va (X2.atoms.map bE):=by rw[<-hqX];exact(hva10.bH Xm (by simp)).bH ((ab n710).trans a7) (by simp)
      have hsX:aa U ZX:=by rw[<-hqX];exact((hsZ.trans Yt).ao (hsZ.none Zn)).ao z7
      clear hqX;have hap:=hvaX.CX (aq.new (K:=U) (n:=RW.length) rfl bD h3) (by simp);simp only[go_sem,seval,t4,t7,t9,r8,M' ZX bD,bD,hget2];refine⟨_,by omega,j+1,by omega,rfl,hsX.ao h3,hvaX.wV λn hv=>hap _ _ _ _ hv rfl rfl,.inr ⟨id,by rw[hve,cJ,kz],by rw[af,<-hset,List.map_set,hRW,haf];rfl,h3⟩,by rw[hht];exact(ab (Ne.symm ni7)).trans b7,(ab (Ne.symm nid4)).trans b4,by simp[vI]⟩
     .have u3:(f.anchor>=X2.atoms.length)=False:=H' ZO;rw[au ZO]at haf;rw[haf,Ge YJ]at hset;simp only[go_sem,seval,Xm,a7,t4,t7,t9,r6,r8,cg,Yo,u3,ab n410,ab n710,ab n710.symm,ab n47];have hvf10:=((hvf0.mono Yt).wV (o:=⟨100,7,[.agg [vI f.node,vI f.side,vI f.anchor,vI f.x,vI f.y,vI f.w,vI f.h]]⟩) (hvf0.pV f10)).bH (i:=i7) (o:=⟨162,5,[.agg [va,vf,vI (max (hiF (X2.Wy.y+X2.Wy.m) (X2.u'.take j)) (f.y+f.h)),vI X2.Wy.y,vI X2.Wy.m]]⟩) ((ab n710).trans a7) (by simp);refine⟨_,by omega,j+1,by omega,rfl,((hsZ.trans Yt).ao (hsZ.none Zn)).ao z7,(hva10.bH Xm (by simp)).bH ((ab n710).trans a7) (by simp),by rw[<-hset,hRW];exact hvf10,by rw[hht],a4,by simp[vI]⟩
    .have u2:=qF B';obtain rfl:j=X2.u'.length:=by omega
     rw[Gj]at YF;rw[dR]at a7;obtain⟨ca,sa⟩:=hva.vc;obtain⟨cf,sf⟩:=YF.vc;apply sR;simp only[go_sem,seval,t4,t7,t9,a7,a4,hlf,u2];have WM:∀o,aa U (C' J i4 o):=λo=>hs.ao z4;exact⟨_,U,WM _,Wk.WC (vs':=[x6 ⟨X2.atoms,X2.u'.map (lP X2.atoms.length),hiF (X2.Wy.y+X2.Wy.m) X2.u'⟩,vI 0]) ⟨Wk.agg (vs':=[aT X2.atoms,ax (X2.u'.map (lP X2.atoms.length)),vI (hiF (X2.Wy.y+X2.Wy.m) X2.u')]) ⟨(hva.bH a4 (by simp)).wk (aa.refl U) (WM _),(YF.bH a4 (by simp)).wk (aa.refl U) (WM _),Wk.refl (WM _) _,trivial⟩,Wk.refl (WM _) _,trivial⟩,rfl,rfl⟩
open Go.Proofs
def HL{L H:Int}(h1:1<=L)(h2:L<=1099511627776)(h3:H<=1099511627776):H>mulR L 32768↔L<=33554432/\H>L*32768:=by
 have e:du 32768=32768:=by decide
 have e2:(1099511627776:Int).tdiv (max 32768 (-32768))=33554432:=by decide
 have e3:(-1099511627776:Int).tdiv (max 32768 (-32768))=-33554432:=by decide
 have e4:du L=L:=by unfold du;omega
 unfold mulR;rw[e,e2,e3,e4];by_cases hb:L>33554432
 .rw[ak ⟨by decide,.inl hb⟩,ak (by rw[XJ (by omega)];decide)];omega
 .rw[au (λh=>by have:=h.2;omega)];omega
def Md{l:List Nd}(h:dZ l=0):(gl l).1.V'<=1099511627776:=by
 have hb:=(nK h).1;unfold dZ at h;rw[ak hb]at h;split at h
 .cases h
 .omega
def LV{l:List Nd}(hb:Xh l=true)(hn:l.length<=2000){w:Int}(h1:1<=w)(h2:w<=1099511627776):∀x∈ofR l w,(0<=x/\x<l.length)/\kdI l x.toNat≠1:=λx hx=>by
 obtain⟨a,ha,rfl⟩:=gb.1 hx;obtain⟨i,e1,e2,e3⟩:=A9 hb hn h1 h2 a ha;rw[e1];refine⟨by omega,?_⟩;rw[eU];have:kdI l i=(W7 l i).kind:=by rw[gF e2];simp[kdI,e2]
 rw[this];omega
def C7(l:List Nd)(w h:Int):V:=if fK l w h=0 then br (dX l w h)else .agg [.aB,vI 0,vI 0,.aB,.aB,vI 0,.aB]
def Na(l:List Nd)(hl:dz l)(w h:Int):aE prog 9 [ay l,vI w,vI h] (.WC [C7 l w h,vI (fK l w h)]):=λU=>by
 refine e9.q ?_;have hs:=aa.refl U;have Yk:=Ev l hl;have bad:∀n:Int,fK l w h=n->n≠0->(C7 l w h=.agg [.aB,vI 0,vI 0,.aB,.aB,vI 0,.aB]/\fK l w h=n):=λn hn h0=>⟨by rw[C7,au (by rw[hn];exact h0)],hn⟩
 refine ag.mix 15 ?_;by_cases hw:mO w
 .have mw:=uj w;rw[show decide (mO w)=true from XK hw]at mw;apply sR;simp only[go_sem,seval,c9];refine al hs λi6 Z6 s6 a6 f6 z6 hs=>?_;simp only[go_sem,seval];refine pS rfl (mw _) ?_;simp only[go_sem,seval];by_cases hh:mO h
  .have mh:=uj h;rw[show decide (mO h)=true from XK hh]at mh;refine pS rfl (mh _) ?_;simp only[go_sem,seval];refine pR rfl (Yk _) ?_;by_cases hc:dZ l=0
   .obtain⟨hb,hn,hwo,hcs⟩:=nK hc;have hgc:=Bn l hl;have hlc:=Ip l hl hb hn (Ng l hl) h hh.1 hh.2;have hfc:=KG l hl w hw.1 hw.2 hc;have hG:=wa hb hn hw.1 hw.2;have ZN:=hG.len;have hbc:=Ku l hb hn (ofR l w) (by rw[ofR,cJ];omega) (LV hb hn hw.1 hw.2);have hE:fK l w h=if(gl l).1.V'>mulR (cM l h) 32768 then 2 else 0:=by rw[fK,au (λh=>h ⟨hw,hh⟩),au (λh=>h hc)]
    have hm:=EE hb hh.1 hh.2;have hL:cM l h=fD l h l.length:=by rw[cM,ak hm]
    have hp:1<=cM l h:=by rw[hL];exact rv hh.1 _
    have hq:cM l h<=h:=by
     rw[hL];clear hL hp hE hlc;have:∀n,fD l h n<=h:=by
      intro n
      induction n with
      |zero=>exact Int.le_refl _
      |succ n ih=>rw[fD];split<;>omega
     exact this _
    have hh2:=hh.2;have hmb:=HL hp (by omega) (Md hc);rw[hc];have qz:((0:Int)≠0)=False:=H' (λh=>h rfl);generalize hSM:(gl l).1=SM at*;generalize hS2:(gl l).2=S2 at*;apply sR;simp only[go_sem,seval,qz];refine pS rfl (hgc _) ?_;simp only[go_sem,seval,Sm.cells];refine al hs λi9 Z9 s9 a9 f9 z9 hs=>?_;obtain⟨n69,a6⟩:=WG a6 f9 s9;simp only[go_sem,seval,a9];generalize Xw:C' _ i9 _=Y9;replace a9:=XD Xw;replace a6:=WQ Xw n69 a6;replace hs:=Xz Xw hs z9;refine pR rfl (hlc _) ?_;have r1:WI .i64 (cM l h*32768):=by
     by_cases hx:cM l h<=33554432
     .exact ae
     .exact ae
    by_cases hlim:SM.V'>mulR (cM l h) 32768
    .obtain⟨g1,g2⟩:=hmb.1 hlim;have q1:(cM l h<=33554432)=True:=L' g1;have q2:(SM.V'>cM l h*32768)=True:=L' g2;obtain⟨e1,e2⟩:=bad 2 (by rw[hE,ak hlim]) (by decide);rw[e1,e2];generalize cM l h=LE at*;apply sR;simp only[go_sem,seval,a9,a6,q1,q2,r1];exact ai.pure (hs.ao z6) rfl
    .have hq1:((cM l h<=33554432)=False)\/((cM l h<=33554432)=True/\(SM.V'>cM l h*32768)=False):=by
      by_cases g1:cM l h<=33554432
      .exact .inr ⟨L' g1,H' λg2=>hlim (hmb.2 ⟨g1,g2⟩)⟩
      .exact .inl (H' g1)
     have e2:fK l w h=0:=by rw[hE,au hlim]
     have e1:C7 l w h=br (dX l w h):=by rw[C7,ak e2]
     rw[e1,e2];have Ze:br (dX l w h)=.agg [ay l,vI w,vI h,aT (cY l w).atoms,ax (cY l w).u',vI (cY l w).U',aY (oU l (ofR l w))]:=rfl;rw[Ze];clear Ze e1 e2 bad hE hmb hlim hL hm;generalize cM l h=LE at*;have hofe:ofR l w=(cY l w).atoms.map (·.node):=rfl;generalize ofR l w=OF at*;generalize oU l OF=BK at*;rw[x6]at hfc;generalize cY l w=GA at*;have Yo:=eL GA.atoms;rcases hq1 with q1|⟨q1,q2⟩
     case' inl=>
      apply sR;simp only[go_sem,seval,q1,cp,eh]
     case' inr=>
      apply sR;simp only[go_sem,seval,a9,q1,q2,r1,cp,eh]
     all_goals
      refine al hs λi12 Y12 s12 a12 f12 z12 hs=>?_;obtain⟨n612,a6⟩:=WG a6 f12 s12;obtain⟨n912,a9⟩:=WG a9 f12 s12;simp only[go_sem,seval,a12];generalize ZQ:C' _ i12 _=Z12;replace a12:=XD ZQ;replace a6:=WQ ZQ n612 a6;replace a9:=WQ ZQ n912 a9;replace hs:=Xz ZQ hs z12;refine pS rfl (hfc _) ?_;simp only[go_sem,seval,a12];generalize ZQ:C' _ i12 _=Z12;replace a12:=XD ZQ;replace a6:=WQ ZQ n612 a6;replace a9:=WQ ZQ n912 a9;replace hs:=Xz ZQ hs z12;refine ag.fP (λst=>aa Z12 st.U/\aq Z12 st.U 3 1 (st.s 13) (OF.map vI)/\st.s 0=ay l/\st.s 6=.ptr i6 0 0/\st.s 12=.ptr i12 0 0)
       (λm st=>∃j:Nat,j<=GA.atoms.length/\m=GA.atoms.length-j/\aa Z12 st.U/\aq Z12 st.U 3 1 (st.s 13) (((GA.atoms.take j).map (·.node)).map vI)/\st.s 0=ay l/\st.s 6=.ptr i6 0 0/\st.s 12=.ptr i12 0 0/\st.s 14=vI j) GA.atoms.length ?_ ?_ ?_
      .exact⟨0,by omega,rfl,aa.refl _,aq.start,rfl,rfl,rfl,rfl⟩
      .rintro m ⟨S,J⟩ ⟨j,hj,rfl,hsj,ho,t0,t6,t12,t14⟩;simp only at hsj ho t0 t6 t12 t14;have b12:=hsj _ _ a12;generalize hv13:S 13=v13 at ho;refine ag.mix 15 ?_;by_cases B':j<GA.atoms.length
       .have u1:=qT B';have Wz:=λU=>dS (U:=U) B';have W8:((GA.atoms.take (j+1)).map (·.node)).map vI=((GA.atoms.take j).map (·.node)).map vI++[vI GA.atoms[j].node]:=by
         rw[Yz B',cX,cX];rfl
        have Yd:(((GA.atoms.take j).map (·.node)).map vI).length=j:=by rw[cJ,cJ,jb];omega
        have hae:bE GA.atoms[j]=.agg [vI GA.atoms[j].kind,vI GA.atoms[j].node,vI GA.atoms[j].fr,vI GA.atoms[j].to,vI GA.atoms[j].x,vI GA.atoms[j].y,vI GA.atoms[j].w,vI GA.atoms[j].h]:=rfl;generalize ((GA.atoms.take j).map (·.node)).map vI=rows at*;generalize GA.atoms[j]=x at*;have r2:=rI j;have W1:(rows.length+1)*9<=140737488355328:=by omega
        apply sR;simp only[go_sem,seval,t12,t14,b12,hv13,Yo,u1,Wz,hae];refine aj λi91 Z91 s91 a91 f91=>?_;obtain⟨idA,Xg,WK⟩:=ho.dst s91;simp only[go_sem,seval,Xg,bl a91,W1];refine aX λi92 Z92 s92 a92 f92=>?_;have k92:=(WK Z12 (aa.refl _) Z91 (hsj.trans s91)).trans s92;have n92:Z12 i92=none:=(hsj.trans s91).none f92;simp only[go_sem,seval,t0,t6,t12,t14,r2];refine⟨_,by omega,j+1,by omega,rfl,k92,?_,by simp[vI]⟩;rw[W8];exact aq.new (by simp) a92 n92
       .have u1:=qF B';have YK:j=GA.atoms.length:=by omega
        rw[YK,dR,<-hofe]at ho;apply sR;simp only[go_sem,seval,t0,t6,t12,t14,b12,hv13,Yo,u1];exact⟨hsj,ho⟩
      .rintro⟨S,J⟩ ⟨hsj,ho,t0,t6,t12⟩;simp only at hsj ho t0 t6 t12;refine ag.EP [0,6,12] [13] hsj ho (by simp) ?_;generalize hS:(λi=>if[13].contains i then V.sl 1 (OF.map vI)else wq [0,6,12] S i)=S';have u0:S' 0=ay l:=by rw[<-hS];exact t0
       have u6:S' 6=.ptr i6 0 0:=by rw[<-hS];exact t6
       have u12:S' 12=.ptr i12 0 0:=by rw[<-hS];exact t12
       have u13:S' 13=aN OF:=by rw[<-hS];rfl
       clear hS t0 t6 t12;refine mS 15 ?_;simp only[go_sem,seval,u0,u13];refine pS rfl (hbc _) ?_;simp only[go_sem,seval,u6,u12,a12,a6,j8,j6,ab n612];exact ai.pure ((hs.ao z12).ao z6) rfl
   .obtain⟨e1,e2⟩:=bad (dZ l) (by rw[fK,au (λh=>h ⟨hw,hh⟩),ak hc]) hc;have q:(dZ l≠0)=True:=L' hc;rw[e1,e2];generalize dZ l=K at*;apply sR;simp only[go_sem,seval,q,a6];exact ai.pure (hs.ao z6) rfl
  .have mh:=uj h;rw[show decide (mO h)=false from XJ hh]at mh;obtain⟨e1,e2⟩:=bad 3 (by rw[fK,ak (λh=>hh h.2)]) (by decide);rw[e1,e2];refine pS rfl (mh _) ?_;simp only[go_sem,seval,a6];exact ai.pure (hs.ao z6) rfl
 .have mw:=uj w;rw[show decide (mO w)=false from XJ hw]at mw;obtain⟨e1,e2⟩:=bad 3 (by rw[fK,ak (λh=>hw h.1)]) (by decide);rw[e1,e2];apply sR;simp only[go_sem,seval,c9];refine al hs λi6 Z6 s6 a6 f6 z6 hs=>?_;simp only[go_sem,seval];refine pS rfl (mw _) ?_;simp only[go_sem,seval,a6];exact ai.pure (hs.ao z6) rfl
open Go.Proofs
def av.zD{P:Program}{f:FuncId}{args args':List V}{U:ad}{Post:V->ad->Prop}(hw:WkL U U args args')(h:av P f args' U Post):av P f args U Post:=
 ⟨h.1,λI w WL hs hr=>h.2 I w WL hs (WkL.all hs hw hr)⟩
def EZ{n:Nat}(h:n<=2000000000):(n+1)*89<=140737488355328/\(n+1+1)*89<=140737488355328:=by omega
def Cr{n:Nat}(h:n<=2000000000):WI .i64 ((n:Int)+1)/\WI .i64 (((n+1:Nat):Int)+1):=⟨ae,ae⟩
def lb2{n f:Nat}(h:(n:Int)+2*((f+1:Nat):Int)<=2000000002):(n:Int)+1+2*(f:Int)<=2000000002/\(n:Int)+2+2*(f:Int)<=2000000002:=by omega
def Ms{α:Type}(L:List α)(x y:α):(((L++[x])++[y]).length:Int)=(L.length:Int)+2:=by simp
def Mv{α:Type}(L:List α)(x:α):((L++[x]).length:Int)=(L.length:Int)+1:=by simp
def Gb{b:Bk}{s:YG}(h0:0<=s.s.done)(n:Nat):(0<=jO b s/\((n:Int)+1)%2≠jO b s)↔
 ((bY b s).1.kind=1/\s.s.done=0/\((XB b.WT s.s.atom.toNat).forced=3/\(n+1)%2=1\/(XB b.WT s.s.atom.toNat).forced=4/\(n+1)%2=0)):=by
 unfold jO vy;generalize (XB b.WT s.s.atom.toNat).forced=F;split
 .rename_i h;constructor
  .rintro⟨h1,_⟩;omega
  .rintro⟨h1,h2,_⟩;rcases h with h|h
   .exact absurd h1 h
   .omega
 .rename_i h;have h1:(bY b s).1.kind=1:=Decidable.byContradiction λe=>h (.inl e);rw[h1];simp only[true_and];by_cases h3:F=3
  .rw[ak h3];omega
  .rw[au h3];by_cases h4:F=4
   .rw[ak h4];omega
   .rw[au h4];omega
def OC{l:List Nd}(hl:dz l){w h:Int}(he:fK l w h=0):BkQ (dX l w h):=by
 obtain⟨hw,hh,hc⟩:=oD he;obtain⟨hisb,hn,hwo,hcs⟩:=nK hc;exact⟨(oK hl he).toBkFull,hn,Ng l hl⟩
def A6(l:List Nd)(hl:dz l)(w h:Int):aE prog 25 [ay l,vI w,vI h] (if fK l w h=0 then .WC [dg (fv (dX l w h)),vI 0]else .WC [.aB,vI (fK l w h)]):=λU=>by
 refine e25.q ?_;have hs:=aa.refl U;have hnc:=Na l hl w h;refine ag.mix 14 ?_;by_cases he:fK l w h=0
 .have hb:=oK hl he;have hq:=OC hl he;have hL:=wb he;rw[C7,ak he]at hnc;rw[ak he];rw[he]at hnc;generalize dX l w h=b at*;generalize cM l h=L at*;have q1:((0:Int)≠0)=False:=H' (λh=>h rfl);have Yo:=eL b.atoms;have hlf:=cF b.WA;have ZN:=hb.len;have Zh:=hb.flen;have hbrl:=hb.brk;have r1:WI .i64 ((b.atoms.length:Int)+b.WA.length):=ae;rw[nG]at hnc;apply sR;simp only[go_sem,seval,c25];refine pS rfl (hnc _) ?_;simp only[go_sem,seval];refine al hs λi8 Z8 s8 a8 f8 z8 hs=>?_;simp only[go_sem,seval,a8,q1];generalize Yc:C' _ i8 _=Y8;replace a8:=XD Yc;replace hs:=Xz Yc hs z8;by_cases hz:(b.atoms.length:Int)+b.WA.length=0
  .have q2:((b.atoms.length:Int)+b.WA.length=0)=True:=L' hz;rw[show fv b=tX [none] by unfold fv;rw[ak hz];rfl];simp only[go_sem,seval,a8,q2,r1,Yo,hlf];refine aj λi35 Z35 s35 a35 f35=>?_;simp only[go_sem,seval];have n35:=hs.none f35;have ho:aq U Z35 58 5 (.own i35 0 1) (kL [none]):=aq.new rfl (by rw[a35];rfl) n35;have hf:Fz Z35 (λid=>U id=none) (.WC [.own i35 0 1,vI 0]) (.WC [dg (tX [none]),vI 0]):=.WC _ _ (.cons _ _ _ _ (ho.N3 (λ_ h=>h) (Ah _)) (Za.same [vI 0] rfl));exact⟨_,U,hs.trans s35,hf.wk (hs.trans s35) (λ_ h=>h),rfl,rfl⟩
  .have q2:((b.atoms.length:Int)+b.WA.length=0)=False:=H' hz;have hPR:fv b=tX (shK b 1000000001 ⟨⟨0,0,true⟩,[]⟩ 0):=by unfold fv;rw[au hz]
   rw[hPR];clear hPR;have hmu:=x8 hL;generalize hSH:shK b 1000000001 ⟨⟨0,0,true⟩,[]⟩ 0=SH;simp only[go_sem,seval,a8,q2,r1,Yo,hlf];refine al hs λi11 Z11 s11 XF f11 z11 hs=>?_;obtain⟨n811,a8⟩:=WG a8 f11 s11;simp only[go_sem,seval,XF];generalize Xs:C' _ i11 _=Y11;replace XF:=XD Xs;replace a8:=WQ Xs n811 a8;replace hs:=Xz Xs hs z11;refine ag.loop (λm st=>∃(s:YG) (L0:List (Option YN)),mu2 b L s<m/\SH=L0++shK b m s L0.length/\(L0.length:Int)+2*m<=2000000002/\s.bu.length<=1000000/\aa U st.U/\aq U st.U 58 5 (st.s 10) (kL L0)/\
    st.U i8=some ⟨40,7,[.agg [ay b.nodes,vI b.w,vI b.h,aT b.atoms,ax b.WA,vI b.U',aY b.WT]]⟩/\(∃vp,st.U i11=some ⟨27,4,[.agg [vI s.s.atom,vI s.s.done,.bool s.s.free,vp]]⟩/\vp.cells=[vp]/\∀J,Wk J J vp (ax s.bu))/\
    st.s 8=.ptr i8 0 0/\st.s 11=.ptr i11 0 0) 1000000001 ?_ ?_
   .refine⟨⟨⟨0,0,true⟩,[]⟩,[],by omega,by rw[jE,<-hSH];rfl,by simp,by simp,hs,aq.start,a8,⟨.aB,XF,rfl,λ_=>Wk.aB 7⟩,rfl,rfl⟩
   .clear hs a8 XF hSH hmu;rintro m ⟨S,J⟩ ⟨s,L0,hm,hx,hlb,hp,hs,ho,a8,⟨vp,XF,hvc,hvp⟩,k8,ZM⟩;simp only at hs ho a8 XF k8 ZM;obtain⟨f,rfl⟩:∃f,m=f+1:=⟨m-1,by omega⟩
    have hL2:L0.length<=2000000000:=by omega
    generalize hv10:S 10=v10 at ho;refine ag.mix 14 ?_;have hec:=L5 b hb.toBkFull s hp;have hes:bP s=.agg [vI s.s.atom,vI s.s.done,.bool s.s.free,ax s.bu]:=rfl;have hee:aL s.s=.agg [vI s.s.atom,vI s.s.done,.bool s.s.free]:=rfl;rw[nG,hes]at hec;apply sR;simp only[go_sem,seval,k8,ZM,a8,XF];have hwk:∀J,WkL J J [.agg [ay b.nodes,vI b.w,vI b.h,aT b.atoms,ax b.WA,vI b.U',aY b.WT],.agg [vI s.s.atom,vI s.s.done,.bool s.s.free,vp]] [.agg [ay b.nodes,vI b.w,vI b.h,aT b.atoms,ax b.WA,vI b.U',aY b.WT],.agg [vI s.s.atom,vI s.s.done,.bool s.s.free,ax s.bu]]:=λJ=>⟨Wk.refl (aa.refl J) _,Wk.agg ⟨Wk.refl (aa.refl J) _,Wk.refl (aa.refl J) _,Wk.refl (aa.refl J) _,hvp J,trivial⟩,trivial⟩
    refine pR rfl (av.zD (hwk _) (hec _)) ?_;by_cases hen:gA b s
    .rw[XK hen];apply sR;simp only[go_sem,seval,hv10];rw[shK,ak hen,iN]at hx;subst hx;have hf:Fz J (λid=>U id=none) (.WC [v10,vI 0]) (.WC [dg (tX SH),vI 0]):=.WC _ _ (.cons _ _ _ _ (ho.N3 (λ_ h=>h) (Ah _)) (Za.same [vI 0] rfl));exact⟨_,U,hs,hf.wk hs (λ_ h=>h),rfl,rfl⟩
    rw[XJ hen];have X9:iZ b s:=Decidable.byContradiction λh=>hen (.inl h);have Yg:0<=s.s.atom/\s.s.atom<b.WT.length:=by
     rcases X9.2 with h|h
     .have:=h.1;omega
     .omega
    have hdn:0<=s.s.done:=by
     rcases X9.2 with h|h
     .exact h.2.1
     .omega
    have hgc:=KE b hq hb s X9;have hpe:=JK hb.toBkFull hb.ZG hb.pos hb.mayb X9 (λf hf=>hb.fh f (kA _ _ X9.1 f hf));rw[<-hpe,nG,hes]at hgc;have hmn:=Cg hb hL hen;have hpn:=yP hb hp hen;have hwi:=Gb (b:=b) hdn L0.length;have hwc:=Io b (bY b s).1 s.s (L0.length+1) (λ_ _=>Yg);rw[shK,au hen]at hx;clear hpe;generalize jO b s=W at*;generalize bY b s=PQ at*;obtain⟨p,t⟩:=PQ;simp only at hgc hmn hpn hwi hwc hx;apply sR;simp only[go_sem,seval,k8,ZM,a8,XF];refine pR rfl (av.zD (hwk _) (hgc _)) ?_;have hpe:bB p=.agg [vI p.no,vI p.kind,aG p.hs,aG p.fs,aG p.ls]:=rfl;have hte:bP t=.agg [vI t.s.atom,vI t.s.done,.bool t.s.free,ax t.bu]:=rfl;have hcz:=yn;have Yh:=yK;have hn12:=λ(i:Nat) (h:J i=none)=>ho.pV h;rw[hpe,hte];apply sR;simp only[go_sem,seval];have Xn:=hs;replace hs:=aa.refl J;refine al hs λi12 Y12 s12 a12 f12 z12 hs=>?_;obtain⟨n812,a8⟩:=WG a8 f12 s12;obtain⟨n1112,XF⟩:=WG XF f12 s12;simp only[go_sem,seval];refine al hs λi13 Z13 s13 XM f13 z13 hs=>?_;obtain⟨n813,a8⟩:=WG a8 f13 s13;obtain⟨n1113,XF⟩:=WG XF f13 s13;obtain⟨n1213,a12⟩:=WG a12 f13 s13;simp only[go_sem,seval,XM,a12,ab n1213.symm];generalize hqX:C' (C' _ i12 _) i13 _=ZX;replace a8:=((congrFun hqX i8).symm.trans ((ab n813).trans (ab n812))).trans a8;replace XF:=((congrFun hqX i11).symm.trans ((ab n1113).trans (ab n1112))).trans XF;have b12:ZX i12=some ⟨58,5,[.agg [vI p.no,vI p.kind,aG p.hs,aG p.fs,aG p.ls]]⟩:=by rw[<-hqX];exact(ab n1213).trans af
    have b13:ZX i13=some ⟨27,4,[.agg [vI t.s.atom,vI t.s.done,.bool t.s.free,ax t.bu]]⟩:=by rw[<-hqX];exact af
    have hoX:aq U ZX 58 5 v10 (kL L0):=by rw[<-hqX];exact(((ho.mono s12).mono s13).wV (hn12 i12 f12)).bH ((ab n1213.symm).trans XM) (by simp)
    have nv12:=hn12 i12 f12;replace hs:aa U ZX:=by rw[<-hqX];exact((Xn.trans hs).ao (Xn.none z12)).ao (Xn.none z13)
    replace z12:=Xn.none z12;replace z13:=Xn.none z13;clear hqX ho Xn a12 XM;have a12:=b12;have XM:=b13;clear b12 b13;have hlen:dv false v10=some (.int .i64 L0.length):=by rw[hoX.len,kY]
    have r2:=(Cr hL2).1;have hcast:((L0.length+1:Nat):Int)=(L0.length:Int)+1:=by omega
    rw[hcast,nG,hpe,hee]at hwc;simp only[go_sem,seval,k8,ZM,a8,XF,a12,hv10,hlen,r2];refine pR rfl (hwc _) ?_;have hlm1:(kL L0).length=L0.length:=kY L0;have hb1:=(EZ hL2).1;have W1:=(EZ hL2).2;by_cases hwr:0<=W/\((L0.length:Int)+1)%2≠W
    .rw[ak hwr]at hx;rw[XK (hwi.1 hwr)];clear hwi hwr hwc;apply sR;simp only[go_sem,seval,hv10,hlen,r2];refine aj λi6a Z6a s6a a6a f6a=>?_;obtain⟨ida,hdaa,hdva,Xg,hdela⟩:=hoX.mM s6a;simp only[go_sem,seval,hdaa,bl a6a,hlm1,hb1];refine aX λi7a Z7a s7a a7a f7a=>?_;have n7a:U i7a=none:=(hs.trans s6a).none f7a;have nva:∀n,V.own i7a 0 (L0.length+1)≠.own i12 0 n:=λn h=>by
      injection h with h1 _ _
      rw[h1,s6a _ _ a12]at f7a;cases f7a
     have hoa:aq U Z7a 58 5 (.own i7a 0 (L0.length+1)) (kL (L0++[none])):=aq.new (by rw[kY];simp) (by rw[a7a,og];rfl) n7a;replace a8:=s7a _ _ ((Xg i8 (hoX.ck a8 (by simp)) _).trans (s6a _ _ a8));replace XF:=s7a _ _ ((Xg i11 (hoX.ck XF (by simp)) _).trans (s6a _ _ XF));replace a12:=s7a _ _ ((Xg i12 nv12 _).trans (s6a _ _ a12));replace XM:=s7a _ _ ((Xg i13 (hoX.ck XM (by simp)) _).trans (s6a _ _ XM));replace hs:=(hdela U (aa.refl U) Z6a (hs.trans s6a)).trans s7a;have r3:=(Cr hL2).2;clear hlm1;have hlm2:(kL (L0++[none])).length=L0.length+1:=by rw[kY];simp
     simp only[go_sem,seval,a12,r3];generalize hqY:C' _ i12 _=ZY;replace a8:=WQ hqY n812 a8;replace XF:=WQ hqY n1112 XF;replace XM:=WQ hqY n1213.symm XM;have hoY:aq U ZY 58 5 (.own i7a 0 (L0.length+1)) (kL (L0++[none])):=by rw[<-hqY];exact hoa.wV nva
     replace hs:=Xz hqY hs z12;clear hqY a12;refine aj λi6b Z6b s6b a6b f6b=>?_;obtain⟨idb,hdab,hdvb,hdb,hdelb⟩:=hoY.mM s6b;simp only[go_sem,seval,hdab,bl a6b,hlm2,W1];refine aX λi7b Z7b s7b a7b f7b=>?_;have n7b:U i7b=none:=(hs.trans s6b).none f7b;have XL:aq U Z7b 58 5 (.own i7b 0 (L0.length+1+1)) (kL (L0++[none]++[some p])):=aq.new (by rw[kY,gn];simp) (by rw[a7b];rw[og (L0++[none]) (some p),gn];rfl) n7b;replace a8:=s7b _ _ ((hdb i8 (hoY.ck a8 (by simp)) _).trans (s6b _ _ a8));replace XF:=s7b _ _ ((hdb i11 (hoY.ck XF (by simp)) _).trans (s6b _ _ XF));replace XM:=s7b _ _ ((hdb i13 (hoY.ck XM (by simp)) _).trans (s6b _ _ XM));replace hs:=(hdelb U (aa.refl U) Z6b (hs.trans s6b)).trans s7b;simp only[go_sem,seval,k8,ZM,a8,XF,XM,ab n811];refine⟨f,by omega,t,(L0++[none])++[some p],Nat.lt_of_lt_of_le hmn (Nat.le_of_lt_succ hm),?_,?_,hpn,hs.ao z11,XL.bH XF (by simp),?_⟩
     .rw[hx,Ms];simp
     .rw[Ms];exact(lb2 hlb).2
     .exact⟨_,rfl,rfl,λJ=>Wk.refl (aa.refl J) _⟩
    .rw[au hwr]at hx;rw[XJ (λh=>hwr (hwi.2 h))];clear hwi hwr hwc;apply sR;simp only[go_sem,seval,a12,hv10,hlen,r2];generalize hqY:C' _ i12 _=ZY;replace a8:=WQ hqY n812 a8;replace XF:=WQ hqY n1112 XF;replace XM:=WQ hqY n1213.symm XM;have hoY:aq U ZY 58 5 v10 (kL (L0)):=by rw[<-hqY];exact hoX.wV nv12
     replace hs:=Xz hqY hs z12;clear hqY a12;refine aj λi6b Z6b s6b a6b f6b=>?_;obtain⟨idb,hdab,hdvb,hdb,hdelb⟩:=hoY.mM s6b;simp only[go_sem,seval,hdab,bl a6b,hlm1,hb1];refine aX λi7b Z7b s7b a7b f7b=>?_;have n7b:U i7b=none:=(hs.trans s6b).none f7b;have XL:aq U Z7b 58 5 (.own i7b 0 (L0.length+1)) (kL (L0++[some p])):=aq.new (by rw[kY,gn];rfl) (by rw[a7b,og];rfl) n7b;replace a8:=s7b _ _ ((hdb i8 (hoY.ck a8 (by simp)) _).trans (s6b _ _ a8));replace XF:=s7b _ _ ((hdb i11 (hoY.ck XF (by simp)) _).trans (s6b _ _ XF));replace XM:=s7b _ _ ((hdb i13 (hoY.ck XM (by simp)) _).trans (s6b _ _ XM));replace hs:=(hdelb U (aa.refl U) Z6b (hs.trans s6b)).trans s7b;simp only[go_sem,seval,k8,ZM,a8,XF,XM,ab n811];refine⟨f,by omega,t,L0++[some p],Nat.lt_of_lt_of_le hmn (Nat.le_of_lt_succ hm),?_,?_,hpn,hs.ao z11,XL.bH XF (by simp),?_⟩
     .rw[hx,Mv];simp
     .rw[Mv];exact(lb2 hlb).1
     .exact⟨_,rfl,rfl,λJ=>Wk.refl (aa.refl J) _⟩
 .rw[C7,au he]at hnc;rw[au he];have q1:(fK l w h≠0)=True:=L' he;generalize fK l w h=E at*;apply sR;simp only[go_sem,seval,c25];refine pS rfl (hnc _) ?_;simp only[go_sem,seval];refine al hs λi8 Z8 s8 a8 f8 z8 hs=>?_;simp only[go_sem,seval,a8,q1];exact ai.pure (hs.ao z8) rfl
open Go.Proofs
def rQ(b:Bk):(fv b).length<=10000000000:=by
 unfold fv;split
 .simp
 .have h1:(tX (shK b 1000000001 ⟨⟨0,0,true⟩,[]⟩ 0)).length=(shK b 1000000001 ⟨⟨0,0,true⟩,[]⟩ 0).length:=by unfold tX;simp
  have:=ug b 1000000001 ⟨⟨0,0,true⟩,[]⟩ 0;omega
open Go.Proofs
def Fb(p:YN):Prop:=p.hs.length<=1000000/\p.fs.length<=1000000/\p.ls.length<=2000000
def wU{b:Bk}(hb:jH b):∀(f:Nat) (s:YG) (no:Int) (p:YN),some p∈shK b f s no->Fb p
 |0,_,_,p,h=>by cases h
 |f+1,s,no,p,h=>by
  rw[shK]at h;by_cases he:gA b s
  .rw[ak he]at h;cases h
  .rw[au he]at h;have hl:=Jq hb he;split at h
   .rcases dJ.1 h with h|h
    .cases h
    .rcases dJ.1 h with h|h
     .cases h;exact hl
     .exact wU hb f _ _ p h
   .rcases dJ.1 h with h|h
    .cases h;exact hl
    .exact wU hb f _ _ p h
def Av{b:Bk}(hb:jH b){p:YN}(h:p∈fv b):Fb p:=by
 unfold fv at h;split at h
 .rw[ja.1 h];exact⟨by simp,by simp,by simp⟩
 .unfold tX at h;obtain⟨k,hk,rfl⟩:=gb.1 h;cases hx:(shK b 1000000001 ⟨⟨0,0,true⟩,[]⟩ 0).getD k none with
  |none=>exact⟨by simp[pgN],by simp[pgN],by simp[pgN]⟩
  |some q=>
   refine wU hb 1000000001 ⟨⟨0,0,true⟩,[]⟩ 0 q ?_;rw[sc]at hx;cases hy:(shK b 1000000001 ⟨⟨0,0,true⟩,[]⟩ 0)[k]? with
   |none=>rw[hy]at hx;cases hx
   |some y=>
    rw[hy]at hx;have:y=some q:=hx;rw[<-this];exact xB hy
def CL(aw:aE prog 23 [] (.bool true))(l:List Nd)(hlen:l.length<=1000000000000)(hw:∀x∈l,x.words.length<=200000000000000)(w h:Int)(hh:zg h):
 aE prog 4 [ay l,vI w,vI h] (.bool true):=λU=>by
 refine e4.q ?_;have hs:=aa.refl U;refine mS 12 ?_;simp only[go_sem,seval,c4];refine Yn rfl (K0 l hlen hw h hh _) ?_;rintro r Z' ⟨⟨x,rfl,hx⟩,rfl⟩;cases x with
 |true=>
  apply sR;simp only[go_sem,seval];refine pS rfl (aw _) ?_;simp only[go_sem,seval];exact ai.pure hs rfl
 |false=>
  obtain⟨h30,hw120⟩:=hx rfl;have hl:dz l:=⟨by omega,hw⟩
  obtain⟨P,E,vp,hwp,hp1,hp2,hPn,hPl⟩:∃(P:List YN) (E:Int) (vp:V),(∀J,Wk J J vp (dg P))/\aE prog 24 [ay l,vI w,vI h] (.WC [vp,vI E])/\aE prog 25 [ay l,vI w,vI h] (.WC [vp,vI E])/\P.length<=10000000000/\∀p∈P,Fb p:=by
   by_cases he:fK l w h=0
   .have h1:=ot l hl w h;have h2:=A6 l hl w h;rw[ak he]at h1 h2;exact⟨_,_,_,λJ=>Wk.refl (aa.refl J) _,h1,h2,rQ _,λp hp=>Av (oK hl he) hp⟩
   .have h1:=ot l hl w h;have h2:=A6 l hl w h;rw[au he]at h1 h2;exact⟨[],_,_,λJ=>Wk.aB 5,h1,h2,by simp,λp hp=>by cases hp⟩
  have Yh:∀U,av prog 26 [vp,vp] U λr Z'=>r=.bool true/\Z'=U:=λU=>by
   have h1:=Kb P P hPn (λp hp=>by have:=hPl p hp;unfold Fb at this;omega) U;rw[XK rfl]at h1;exact av.zD (args':=[dg P,dg P]) ⟨hwp U,hwp U,trivial⟩ h1
  have hs5:=L7 l l hl hl;rw[XK rfl]at hs5;have qe:(E=E)=True:=eq_self E;apply sR;simp only[go_sem,seval];refine pS rfl (P0 l ⟨by omega,λx hx=>by have:=hw120 x hx;omega⟩ _) ?_;simp only[go_sem,seval];refine pS rfl (hp1 _) ?_;simp only[go_sem,seval];refine pS rfl (hp2 _) ?_;simp only[go_sem,seval];refine pS rfl (Yh _) ?_;simp only[go_sem,seval];refine pS rfl (hs5 _) ?_;simp only[go_sem,seval];refine pS rfl (aw _) ?_;simp only[go_sem,seval];exact ai.pure hs rfl
open Go.Proofs
def Kq{U:ad}{id e n:Nat}{rows:List V}(h:U id=some ⟨e,7,rows⟩):iE U 7 (.own id 0 n) none (some (.int .i64 n)) (some (.int .i64 n))=some (.own id 0 n):=by
 simp[iE,fc,zV,h]
def Mh{K U:ad}{e:Nat}{v:V}{rows:List V}(h:aq K U e 7 v rows):av prog 167 [v] U λr Z'=>r=v/\Z'=U:=by
 refine U1.q ?_;refine ag.mix 9 ?_;rcases h with⟨rfl,_⟩|⟨id,rfl,ho,_⟩
 .apply sR;simp only[go_sem,seval,NB];exact ai.same rfl
 .have hsl:=Kq (n:=rows.length) ho;apply sR;simp only[BB,seval,aZ,eD,aD,fW,Yi.nothing,NB,hsl];exact ai.same rfl
def Lo(l:List Yx)(U:ad):bc U 7 (aG l)=some (l.map aJ):=by simp[aG,bc]
def K4(p:YN):aE prog 117 [bB p] (aG p.fs):=λU=>by
 refine VY.q ?_;have hs:=aa.refl U;refine mS 5 ?_;simp only[go_sem,seval,Py,bB];refine al hs λi1 Z1 s1 a1 f1 _ hs=>?_;simp only[go_sem,seval,a1];exact ai.pure hs rfl
def Kt(l:List YN)(hl:l.length<=10000000000)(hf:∀j,j<=l.length->((l.take j).flatMap (·.fs)).length<=100000000000)(U:ad):
 av prog 116 [dg l,.fn 117 []] U λr Z'=>aa U Z'/\aq U Z' 123 7 r ((l.flatMap (·.fs)).map aJ):=by
 refine Tt.q ?_;have hn:=qL l;refine mS 11 ?_;simp only[go_sem,seval,QX,hn];refine ag.loop (λm st=>∃j:Nat,j<=l.length/\m=l.length-j/\st.s 1=.fn 117 []/\st.s 8=dg l/\st.s 9=vI l.length/\st.s 10=vI j/\aq U st.U 123 7 (st.s 5) (((l.take j).flatMap (·.fs)).map aJ)/\aa U st.U) l.length ⟨0,by omega,rfl,rfl,rfl,rfl,rfl,aq.start,aa.refl U⟩ ?_;rintro m ⟨s',Z'⟩ ⟨j,hj,rfl,h1,h8,h9,h10,h5,WY⟩;simp only at h1 h8 h9 h10 h5 WY;generalize hv:s' 5=v at h5;refine ag.mix 22 ?_;by_cases B':j<l.length
 .obtain⟨p,hp⟩:∃p,l[j]?=some p:=⟨l[j],by simp[B']⟩
  have hi:∀U,bp U 5 (dg l) (.int .i64 j)=some (.rp (bB p)):=λU=>by simp[dg,bp,hp]
  have hc:((j:Int)<l.length)=True:=by simp;omega
  have hld:∀U,bO U true 5 (.rp (bB p))=some (bB p):=λ_=>rfl;have hP:bB p=.agg [vI p.no,vI p.kind,aG p.hs,aG p.fs,aG p.ls]:=rfl;have hs:=aa.refl Z';have htk0:(l.take (j+1)).flatMap (·.fs)=(l.take j).flatMap (·.fs)++p.fs:=by rw[Hm,hp];simp
  have Zh:=hf (j+1) (by omega);rw[htk0,gn]at Zh;apply sR;simp only[go_sem,seval,h8,h9,h10,hi,hc,hld];refine al hs λi7 Z7 s7 a7 f7 z7 hs=>?_;simp only[go_sem,seval,a7,h1,hv,hP];generalize Yl:C' _ i7 _=Y7;replace a7:=XD Yl;replace hs:=Xz Yl hs z7;refine pR rfl (K4 p _) ?_;obtain⟨idA,hd,WK⟩:=(h5.mono hs).dst (aa.refl _);have hsr:=λU=>Lo p.fs U;have hb:(((l.take j).flatMap (·.fs)).length+p.fs.length)*57<=140737488355328:=by omega
  have W4:((l.take (j+1)).flatMap (·.fs)).map aJ=((l.take j).flatMap (·.fs)).map aJ++p.fs.map aJ:=by
   rw[htk0,cX]
  apply sR;simp only[go_sem,seval,hd,hsr,hb,cJ];refine aX λi18 Z18 s18 a18 f18=>?_;simp only[go_sem,seval,h1,h8,h9,h10];exact⟨ae,l.length-(j+1),by omega,j+1,by omega,rfl,by simp[vI],by rw[W4];exact aq.new (by simp) a18 (WY.none (hs.none f18)),(WK U (aa.refl _) _ (WY.trans hs)).trans s18⟩
 .have hc:((j:Int)<l.length)=False:=by simp;omega
  apply sR;simp only[go_sem,seval,h9,h10,hv,hc];have:l.take j=l:=lf (by omega);rw[this]at h5;refine Yn rfl (Mh h5) ?_;rintro r Z2 ⟨rfl,rfl⟩;apply sR;simp only[go_sem,seval];exact XX ⟨WY,h5⟩
def GI(l:List YN)(hl:l.length<=10000000000)(hf:∀j,j<=l.length->((l.take j).flatMap (·.fs)).length<=100000000000):aE prog 74 [dg l] (aG (l.flatMap (·.fs))):=λU=>by
 refine e74.q ?_;refine mS 5 ?_;simp only[go_sem,seval,c74];refine Yn rfl (Kt l hl hf U) ?_;rintro r Z2 ⟨h1,h2⟩;apply sR;simp only[go_sem,seval];exact h2.ni h1 rfl
def isOk:List YN->List UInt8->List UInt8->Nat->Bool
 |[],[],_,_=>true
 |p::P,k::ks,n::ns,i=>decide (p.no=(i:Int)+1)&&decide (48<=k.toNat)&&decide (p.kind=(k.toNat:Int)-48)&&decide (48<=n.toNat)&&decide ((p.fs.length:Int)=(n.toNat:Int)-48)&&isOk P ks ns (i+1)
 |_,_,_,_=>false
def Bo:∀{P:List YN} {ks ns:List UInt8} {i0:Nat},isOk P ks ns i0=true->P.length=ks.length/\∀i (h:i<P.length),∃k n,ks[i]?=some k/\ns[i]?=some n/\P[i].no=(i0:Int)+i+1/\48<=k.toNat/\P[i].kind=(k.toNat:Int)-48/\48<=n.toNat/\(P[i].fs.length:Int)=(n.toNat:Int)-48
 |[],[],_,_,_=>⟨rfl,λi h=>by simp at h⟩
 |p::P,[],_,_,h=>by simp[isOk]at h
 |[],k::ks,_,_,h=>by simp[isOk]at h
 |p::P,k::ks,[],_,h=>by simp[isOk]at h
 |p::P,k::ks,n::ns,i0,h=>by
  simp only[isOk,Ba,YX]at h;obtain⟨⟨⟨⟨⟨h1,h2⟩,h3⟩,h4⟩,h5⟩,h6⟩:=h;obtain⟨g1,g2⟩:=Bo h6;refine⟨by simp[g1],λi hi=>?_⟩;cases i with
  |zero=>exact⟨k,n,rfl,rfl,by simpa using h1,h2,h3,h4,h5⟩
  |succ i=>
   obtain⟨k',n',e1,e2,e3,e4⟩:=g2 i (by simpa using hi);exact⟨k',n',e1,e2,by rw[List.getElem_cons_succ,e3];omega,by simpa using e4⟩
def wO(s ks ns:List UInt8)(l:List Nd)(hl:dz l)(x y:V)(Xt:aE prog 73 [.str s] (.WC [ay l,x,y]))(he:fK l 8 20=0)(WB:isOk (fv (dX l 8 20)) ks ns 0=true):
 aE prog 75 [.str s,.str ks,.str ns] (.bool true):=λU=>by
 refine e75.q ?_;have hs:=aa.refl U;have hpg:=ot l hl 8 20;rw[ak he]at hpg;have hPl:=rQ (dX l 8 20);generalize fv (dX l 8 20)=P at*;obtain⟨g1,g2⟩:=Bo WB;have hlP:=qL P;have q0:((0:Int)≠0)=False:=H' (λh=>h rfl);have q1:((P.length:Int)≠ks.length)=False:=H' (λh=>h (by omega));have hpc:∀p:YN,(bB p).cells=[vI p.no,vI p.kind,aG p.hs,aG p.fs,aG p.ls]:=λ_=>rfl;refine mS 13 ?_;simp only[go_sem,seval,c75];refine pS rfl (Xt _) ?_;simp only[go_sem,seval];refine pS rfl (hpg _) ?_;simp only[go_sem,seval,q0,q1,hlP];refine ag.loop (λm st=>∃i:Nat,i<=P.length/\m=P.length-i/\st.U=U/\st.s 1=.str ks/\st.s 2=.str ns/\st.s 10=dg P/\st.s 12=vI i) P.length ?_ ?_
 .exact⟨0,by omega,rfl,rfl,rfl,rfl,rfl,rfl⟩
 .rintro m ⟨S,J⟩ ⟨i,hi,rfl,WY,t1,t2,t10,t12⟩;simp only at WY t1 t2 t10 t12;subst WY;refine ag.mix 13 ?_;by_cases B':i<P.length
  .have p1:=qT B';have r1:=rI i;have hpi:=λU=>xz (U:=U) B';obtain⟨k,n,e1,e2,e3,e4,e5,e6,e7⟩:=g2 i B';generalize P[i]=p at*;have hlf:=LK p.fs;have hk:l7 (.str ks) (.int .i64 i)=some (.int .u8 k.toNat):=by simp[l7,e1]
   have hn:l7 (.str ns) (.int .i64 i)=some (.int .u8 n.toNat):=by simp[l7,e2]
   have r2:WI .u8 ((k.toNat:Int)-48):=by
    have:=k.toNat_lt;unfold WI;simp[IntKind.wrap,IntKind.bits,IntKind.signed];omega
   have r3:WI .u8 ((n.toNat:Int)-48):=by
    have:=n.toNat_lt;unfold WI;simp[IntKind.wrap,IntKind.bits,IntKind.signed];omega
   have p2:(p.no≠(i:Int)+1)=False:=H' (λh=>h (by omega));have p3:(p.kind≠(k.toNat:Int)-48)=False:=H' (λh=>h e5);have p4:((p.fs.length:Int)≠(n.toNat:Int)-48)=False:=H' (λh=>h e7);apply sR;simp only[BB,seval,aZ,eD,aD,dT,gW,jg,cP,Yi.nothing,t1,t2,t10,t12,hlP,p1,hpi,hpc,RV,hlf,hk,hn,r1,r2,r3,p2,p3,p4];have:=k.toNat_lt;have:=n.toNat_lt;exact⟨ae,ae,_,by omega,i+1,by omega,rfl,rfl⟩
  .have p1:=qF B';apply sR;simp only[go_sem,seval,t10,t12,hlP,p1];exact ai.pure hs rfl
def N7(l:List Nd)(hl:dz l)(s1 s2 s3 s4:List UInt8)(x y:V)(Xt:aE prog 73 [.str [123,51,32,52,53,125]] (.WC [ay l,x,y]))(he:fK l 8 20=0)
 (f0 f1 f2:Yx)(hfs:(fv (dX l 8 20)).flatMap (·.fs)=[f0,f1,f2])(hj:∀j,j<=(fv (dX l 8 20)).length->(((fv (dX l 8 20)).take j).flatMap (·.fs)).length<=100000000000)(e1:f0.h=20)(e2:f1.fr=20)(e3:f2.h=5)
 (i1:aE prog 75 [.str [123,51,32,52,53,125],.str [49,49,49],.str [49,49,49]] (.bool true))(i2:aE prog 75 [.str [123,51,32,53,125,91,66,51,32,123,51,32,54,125,93],.str [49,49],.str [49,49]] (.bool true))
 (i3:aE prog 75 [.str [123,51,32,53,125,91,66,52,32,123,51,32,54,125,93],.str [49,51,49],.str [49,48,49]] (.bool true))(i4:aE prog 75 [.str [91,66,51,32,123,51,32,54,125,93],.str [51,49],.str [48,49]] (.bool true))
 (i5:aE prog 75 [.str [],.str [51],.str [48]] (.bool true)):aE prog 23 [] (.bool true):=λU=>by
 refine e23.q ?_;have hs:=aa.refl U;have hpg:=ot l hl 8 20;rw[ak he]at hpg;have Yg:=GI _ (rQ (dX l 8 20)) hj;rw[hfs]at Yg;generalize fv (dX l 8 20)=P at*;have Yp:dv false (aG [f0,f1,f2])=some (.int .i64 3):=by simp[aG,dv]
 have x0:∀U,bp U 7 (aG [f0,f1,f2]) (.int .i64 0)=some (.rp (aJ f0)):=λU=>by simp[aG,bp,aJ]
 have x1:∀U,bp U 7 (aG [f0,f1,f2]) (.int .i64 1)=some (.rp (aJ f1)):=λU=>by simp[aG,bp,aJ]
 have x2:∀U,bp U 7 (aG [f0,f1,f2]) (.int .i64 2)=some (.rp (aJ f2)):=λU=>by simp[aG,bp,aJ]
 have hfc:∀f:Yx,(aJ f).cells=[vI f.node,vI f.atom,vI f.fr,vI f.x,vI f.y,vI f.w,vI f.h]:=λ_=>rfl;have y0:(f0.h=20)=True:=L' e1;have y1:(f1.fr=20)=True:=L' e2;have y2:(f2.h=5)=True:=L' e3;generalize aG [f0,f1,f2]=FR at*;refine mS 7 ?_;simp only[go_sem,seval,c23];refine pS rfl (Xt _) ?_;simp only[go_sem,seval];refine pS rfl (hpg _) ?_;simp only[go_sem,seval];refine pS rfl (Yg _) ?_;simp only[go_sem,seval];refine pS rfl (i1 _) ?_;simp only[go_sem,seval,Yp,x0,x1,x2,hfc,y0,y1,y2];refine pS rfl (i2 _) ?_;simp only[go_sem,seval];refine pS rfl (i3 _) ?_;simp only[go_sem,seval];refine pS rfl (i4 _) ?_;simp only[go_sem,seval];refine pS rfl (i5 _) ?_;simp only[go_sem,seval];exact ai.pure hs rfl
end Go.Vc
