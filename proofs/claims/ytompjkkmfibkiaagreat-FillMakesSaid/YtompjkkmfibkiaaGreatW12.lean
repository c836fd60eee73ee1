import Derived.Test.YtompjkkmfibkiaaGreatW11
set_option linter.all false
set_option maxHeartbeats 8000000
set_option maxRecDepth 100000
open Go.Proofs.Tryz
namespace Go.Vc
open Go.Proofs
def KK(b:List Xt)(WX:b.length<=1000000)(hmb:nB b=true):aL prog 109 [bG b] (.bool (nB b)):=λU=>by
 refine SO.q ?_;have hs:=aa.refl U;have hn:=uP b;obtain⟨WY,Xd⟩:=GD.1 hmb;rw[hmb];have r0:VO .i64 ((b.length:Int)-1):=ae;refine mS 7 ?_;simp only[go_sem,seval,PS];refine ai.loop (λm st=>∃i:Nat,i<=b.length/\m=b.length-i/\aa U st.U/\st.s 0=bG b/\st.s 3=vI i) b.length ?_ ?_
 .exact⟨0,by omega,rfl,hs,rfl,rfl⟩
 .clear hs;rintro m ⟨S,J⟩ ⟨i,hi,rfl,hs,k0,k3⟩;simp only at hs k0 k3;refine ai.mix 7 ?_;by_cases B':i<b.length
  .have q:=qT B';have WG:=λU=>rR (U:=U) B';obtain⟨g1,g2,g3,g4,g5,g6⟩:=WY i B';have eg:WR b i=b[i]:=by simp[WR,B']
   rw[eg]at g1 g2 g3 g4 g5 g6;generalize b[i]=x at*;have r1:=rI i;have Wm:=hs;replace hs:=aa.refl J;obtain⟨c,f,r⟩:=x;simp only at g1 g2 g3 g4 g5 g6;apply sR;simp only[go_sem,seval,k0,k3,hn,q,WG,bY];refine ar hs λi4 Z4 s4 a4 f4 _ hs=>?_;have z1:=Wm.none f4;rcases Nat.eq_zero_or_pos i with h0|h0
   .have w1:((i:Int)>0)=False:=H';have hc:=g2 (by omega);rw[aD (by omega)]at hc;obtain rfl:r=0:=g6 (by omega);subst hc;rcases g3 with rfl|rfl|rfl|rfl
    all_goals
     simp only[go_sem,seval,a4,k0,k3,w1,r1];exact⟨_,by omega,i+1,by omega,rfl,(Wm.trans s4).az z1,by simp[vI]⟩
   .have w1:((i:Int)>0)=True:=L';by_cases hl:(i:Int)=(b.length:Int)-1
    .have w2:((i:Int)=(b.length:Int)-1)=True:=L' hl;have w3:((i:Int)<(b.length:Int)-1)=False:=H';have hc:=g2 (by omega);rw[av ⟨h0,hl⟩]at hc;obtain rfl:r=0:=g6 (by omega);subst hc;obtain rfl:f=0:=Decidable.byContradiction λh=>(g4 h).2.1 rfl;simp only[go_sem,seval,a4,k0,k3,hn,w1,w2,w3,r0,r1];exact⟨_,by omega,i+1,by omega,rfl,(Wm.trans s4).az z1,by simp[vI]⟩
    .have w2:((i:Int)=(b.length:Int)-1)=False:=H' hl;have w3:((i:Int)<(b.length:Int)-1)=True:=L';have w4:(r<0)=False:=H';have w5:(r>7)=False:=H';by_cases hf:f=0
     .subst hf;rcases g1 ⟨h0,by omega⟩with rfl|rfl
      all_goals
       simp only[go_sem,seval,a4,k0,k3,hn,w1,w2,w3,w4,w5,r0,r1];exact⟨_,by omega,i+1,by omega,rfl,(Wm.trans s4).az z1,by simp[vI]⟩
     .obtain⟨c2,c3,rfl⟩:=g4 hf;obtain rfl:c=1:=(g1 ⟨h0,by omega⟩).resolve_right c2;rcases g3 with rfl|rfl|rfl|rfl
      .exact absurd rfl hf
      all_goals
       simp only[go_sem,seval,a4,k0,k3,hn,w1,w2,w3,r0,r1];exact⟨_,by omega,i+1,by omega,rfl,(Wm.trans s4).az z1,by simp[vI]⟩
  .have q:=qF B';have q2:((b.length:Int)>0)=True:=L';apply sR;simp only[go_sem,seval,k0,k3,hn,q,q2];exact ak.pure hs rfl
def uv(n:Int):aL prog 38 [vI n] (.bool (decide (mQ n))):=λU=>by
 refine e38.q ?_;have hs:=aa.refl U;refine ai.mix 3 ?_;by_cases h0:n>=1
 .have q0:(n>=1)=True:=L' h0;by_cases h1:n<=1099511627776
  .have q1:(n<=1099511627776)=True:=L' h1;rw[show decide (mQ n)=true from WJ ⟨h0,h1⟩];apply sR;simp only[go_sem,seval,c38,q0,q1];exact ak.pure hs rfl
  .have q1:(n<=1099511627776)=False:=H' h1;rw[show decide (mQ n)=false from WW λh=>h1 h.2];apply sR;simp only[go_sem,seval,c38,q0,q1];exact ak.pure hs rfl
 .have q0:(n>=1)=False:=H' h0;rw[show decide (mQ n)=false from WW λh=>h0 h.1];apply sR;simp only[go_sem,seval,c38,q0];exact ak.pure hs rfl
open Go.Proofs
def GS(l:List Nd)(hl:ep l)(hb:Wg l=true)(hn:l.length<=2000)(his:aL prog 90 [aF l] (.bool (Wg l)))(a:Nat)(ha:a<l.length)(h:Int)(h1:1<=h)(h2:h<=1099511627776):
 aL prog 93 [aF l,vI a,vI h] (j7 (qh l a h)):=λU=>by
 refine e93.q ?_;have hs:=aa.refl U;have Xs:=bU l;have hmc:=D2 l hl h his;have hm:gS l h=true:=by unfold gS;rw[hb,WJ ⟨h1,h2⟩];rfl
 rw[hm]at hmc;rw[LK hb ha];have q1:((a:Int)<0)=False:=H';have q2:((a:Int)>=l.length)=False:=H';refine mS 10 ?_;simp only[go_sem,seval,c93];refine ar hs λi6 Z6 s6 a6 f6 z6 hs=>?_;simp only[go_sem,seval];refine pS rfl (hmc _) ?_;simp only[go_sem,seval,q1,q2,Xs];refine ar hs λi7 Z7 s7 a7 f7 z7 hs=>?_;obtain⟨Zw,a6⟩:=VB a6 f7 s7;simp only[go_sem,seval,a7];generalize Xb:C' _ i7 _=Y7;replace a7:=WC Xb;replace a6:=VN Xb Zw a6;replace hs:=WD Xb hs z7;have VP:∀i,i<l.length->jv l a h (i+1)=if cB l i a=true then ir l (jv l a h i) i else jv l a h i:=λi _=>rfl
 have hiv:=λi hi=>yJ hb (a:=a) h1 i hi;generalize hX:jv l a h a=X;have hZ:jv l a h 0=⟨[],0,h⟩:=rfl;generalize jv l a h=H at*;refine ai.loop (λm st=>∃i:Nat,i<=a/\m=a-i/\aa U st.U/\(∃vh,st.U i7=some ⟨107,3,[.agg [vh,vI (H i).high,vI (H i).body]]⟩/\ay U st.U 3 1 vh ((H i).VU.map vI))/\st.U i6=some ⟨107,3,[.agg [.aO,vI 0,vI 0]]⟩/\st.s 0=aF l/\st.s 1=vI a/\st.s 6=.ptr i6 0 0/\st.s 7=.ptr i7 0 0/\st.s 8=vI i) a ?_ ?_
 .exact⟨0,by omega,rfl,hs,⟨.aO,by rw[hZ];exact a7,by rw[hZ];exact ay.start⟩,a6,rfl,rfl,rfl,rfl,rfl⟩
 .clear a7 a6 hs;rintro m ⟨S,J⟩ ⟨i,hi,rfl,hs,⟨vh,a7,hvh⟩,a6,k0,k1,k6,k7,k8⟩;simp only at hs a7 hvh a6 k0 k1 k6 k7 k8;obtain⟨ch,sh⟩:=hvh.vc;refine ai.mix 10 ?_;by_cases B':i<a
  .have q3:((i:Int)<a)=True:=L';have Xx:i<l.length:=by omega
   have WQ:=λU=>bR (U:=U) (l:=l) (a:=i) Xx;have hhead:=(fw hb Xx).st.head;have Xr:=uU hb Xx;have Yx:=VP i Xx;have hhd:(XA l (i:Int)).head=l[i].st.head:=by rw[eU Xx]
   have hho:cB l (i:Int) (a:Int)=decide (¬((i:Int)+l[i].size<=a)):=by
    rw[Bool.eq_iff_iff];simp[cB,mO,VM,Xx];omega
   rw[AN (by rw[hhd];exact hhead.1),hho,hhd]at Yx;obtain⟨v1,v2,v3,v4⟩:=hiv i (by omega);generalize H i=Y at*;generalize l[i]=nd at*;have r1:=rI i;have r2:VO .i64 ((i:Int)+nd.size):=ae;by_cases c1:(i:Int)+nd.size<=a
   .have w1:((i:Int)+nd.size<=a)=True:=L' c1;rw[aD (by simp;omega)]at Yx;apply sR;simp only[go_sem,seval,k0,k1,k6,k7,k8,q3,WQ,Nd.cells,a7,a6,w1,r1,r2];exact⟨_,by omega,i+1,by omega,rfl,hs,⟨vh,by rw[Yx],by rw[Yx];exact hvh⟩,by simp[vI]⟩
   .have w1:((i:Int)+nd.size<=a)=False:=H' c1;rw[av (by simp;omega)]at Yx;by_cases c2:nd.st.head=0
    .have w2:(nd.st.head=0)=True:=L' c2;rw[av (.inl c2)]at Yx;apply sR;simp only[go_sem,seval,k0,k1,k6,k7,k8,q3,WQ,Nd.cells,a7,a6,w1,w2,r1,r2];exact⟨_,by omega,i+1,by omega,rfl,hs,⟨vh,by rw[Yx],by rw[Yx];exact hvh⟩,by simp[vI]⟩
    .have w2:(nd.st.head=0)=False:=H' c2;by_cases c3:nd.st.head>=Y.body
     .have w3:(nd.st.head>=Y.body)=True:=L' c3;rw[av (.inr c3)]at Yx;apply sR;simp only[go_sem,seval,k0,k1,k6,k7,k8,q3,WQ,Nd.cells,a7,a6,w1,w2,w3,r1,r2];exact⟨_,by omega,i+1,by omega,rfl,hs,⟨vh,by rw[Yx],by rw[Yx];exact hvh⟩,by simp[vI]⟩
     .have w3:(nd.st.head>=Y.body)=False:=H' c3;rw[aD (by omega)]at Yx;have r3:VO .i64 (Y.high+nd.st.head):=ae;have r4:VO .i64 (Y.body-nd.st.head):=ae;have Xc:(Y.VU.map vI).length=Y.VU.length:=by simp
      have V1:(Y.VU.length+1)*9<=140737488355328:=by omega
      apply sR;simp only[go_sem,seval,k0,k1,k7,k8,q3,WQ,Nd.cells,a7,w1,w2,w3,r2];refine aA λi60 Z60 s60 a60 f60=>?_;obtain⟨idA,Wi,hdv,WM,VL⟩:=hvh.pI s60;have b7:=(WM i7 (hvh.dE a7 (by simp)) Z60).trans (s60 _ _ a7);have b6:=(WM i6 (hvh.dE a6 (by simp)) Z60).trans (s60 _ _ a6);simp only[go_sem,seval,Wi,bJ a60,Xc,V1];refine bt λi61 Z61 s61 a61 f61=>?_;have k61:=(VL U (aa.refl U) Z60 (hs.trans s60)).trans s61;have n61:U i61=none:=(hs.trans s60).none f61;have c7:=s61 _ _ b7;have c6:=s61 _ _ b6;have Zl:ay U Z61 3 1 (.own i61 0 (Y.VU.length+1)) ((Y.VU++[(i:Int)]).map vI):=ay.new (by simp) (by rw[a61,dG];rfl) n61;simp only[go_sem,seval,k0,k1,k6,k7,k8,c7,r1,r3,r4];refine⟨_,by omega,i+1,by omega,rfl,k61.az z7,⟨_,by rw[Yx],by rw[Yx];exact Zl.bT c7 (by simp)⟩,(ab Zw).trans c6,by simp[vI]⟩
  .have q3:((i:Int)<a)=False:=H';obtain rfl:i=a:=by omega
   rw[hX]at a7 hvh;apply sR;simp only[go_sem,seval,k1,k6,k7,k8,q3,a7,a6];have hst0:∀o,aa U (C' J i6 o):=λo=>hs.az z6;exact⟨_,U,hst0 _,Wk.agg (vs':=[bb X.VU,vI X.high,vI X.body]) ⟨(hvh.bT a6 (by simp)).wk (aa.refl U) (hst0 _),Wk.refl (hst0 _) _,Wk.refl (hst0 _) _,trivial⟩,rfl,rfl⟩
def Hb(l:List Nd)(hl:ep l)(hb:Wg l=true)(hn:l.length<=2000)(his:aL prog 90 [aF l] (.bool (Wg l)))(h:Int)(h1:1<=h)(h2:h<=1099511627776):
 aL prog 41 [aF l,vI h] (vI (dW l h)):=λU=>by
 refine e41.q ?_;have hs:=aa.refl U;have Xs:=bU l;have hmc:=D2 l hl h his;have hm:gS l h=true:=by unfold gS;rw[hb,WJ ⟨h1,h2⟩];rfl
 rw[hm]at hmc;unfold dW;rw[av hm];have Wr:=λ(a:Nat) (ha:a<l.length)=>GS l hl hb hn his a ha h h1 h2;refine mS 7 ?_;simp only[go_sem,seval,c41];refine pS rfl (hmc _) ?_;simp only[go_sem,seval];refine ai.loop (λm st=>∃i:Nat,i<=l.length/\m=l.length-i/\st.U=U/\st.s 0=aF l/\st.s 1=vI h/\st.s 5=vI (ie l h i)/\st.s 6=vI i) l.length ?_ ?_
 .exact⟨0,by omega,rfl,rfl,rfl,rfl,rfl,rfl⟩
 .rintro m ⟨S,J⟩ ⟨i,hi,rfl,V7,k0,k1,k5,k6⟩;simp only at V7 k0 k1 k5 k6;subst V7;refine ai.mix 7 ?_;by_cases B':i<l.length
  .have q:=qT B';have WQ:=λU=>bR (U:=U) (l:=l) (a:=i) B';have VP:=BQ (l:=l) (h:=h) (j:=i);rw[jT B']at VP;have hoc:=Wr i B';generalize l[i]=nd at*;have r1:=rI i;by_cases c1:nd.kind=2
   .have w1:(nd.kind=2)=True:=L' c1;rw[av (.inl c1)]at VP;apply sR;simp only[go_sem,seval,k0,k1,k5,k6,Xs,q,WQ,Nd.cells,w1];refine pS rfl (hoc _) ?_;simp only[go_sem,seval,k0,k1,k6,j7,dD,r1];exact⟨_,by omega,i+1,by omega,rfl,by simp[VP,vI]⟩
   .have w1:(nd.kind=2)=False:=H' c1;by_cases c2:nd.kind=3
    .have w2:(nd.kind=3)=True:=L' c2;rw[av (.inr c2)]at VP;apply sR;simp only[go_sem,seval,k0,k1,k5,k6,Xs,q,WQ,Nd.cells,w1,w2];refine pS rfl (hoc _) ?_;simp only[go_sem,seval,k0,k1,k6,j7,dD,r1];exact⟨_,by omega,i+1,by omega,rfl,by simp[VP,vI]⟩
    .have w2:(nd.kind=3)=False:=H' c2;rw[aD (by omega)]at VP;apply sR;simp only[go_sem,seval,k0,k1,k5,k6,Xs,q,WQ,Nd.cells,w1,w2,r1];exact⟨_,by omega,i+1,by omega,rfl,by simp[VP,vI]⟩
  .have q:=qF B';obtain rfl:i=l.length:=by omega
   apply sR;simp only[go_sem,seval,k0,k5,k6,Xs,q];exact ak.pure hs rfl
open Go.Proofs
def Kv(P:List O')(hP:P.length<=1000000)(body:Int)(hb0:1<=body)(hb1:body<=1099511627776)(hh:∀f∈P,0<=f.h):
 aL prog 64 [aC P,vI body] (.VG [aC (cC body P 0).1,aC (cC body P 0).2.1,vI (cC body P 0).2.2]):=λU=>by
 refine e64.q ?_;have hs:=aa.refl U;have hlp:=cQ P;obtain⟨X,hX⟩:∃X,X=cC body P 0:=⟨_,rfl⟩
 rw[<-hX];refine mS 11 ?_;simp only[go_sem,seval,c64];refine ai.loop (λm st=>∃(j:Nat) (acc:List O') (sh:Int),j<=P.length/\m=P.length-j/\acc.length=j/\X=(acc++(cC body (P.drop j) sh).1,(cC body (P.drop j) sh).2)/\0<=sh/\sh<=body/\aa U st.U/\ay U st.U 100 7 (st.s 7) (acc.map aG)/\st.s 0=aC P/\st.s 1=vI body/\st.s 8=vI sh/\st.s 9=vI j) P.length ?_ ?_
 .exact⟨0,[],0,by omega,rfl,rfl,hX,by omega,by omega,hs,ay.start,rfl,rfl,rfl,rfl⟩
 .clear hs hX;rintro m ⟨S,J⟩ ⟨j,acc,sh,hj,rfl,YX,hX,h0,h1,hs,ho,k0,k1,k8,k9⟩;simp only at hs ho k0 k1 k8 k9;generalize Ym:S 7=v7 at ho;refine ai.mix 11 ?_;by_cases B':j<P.length
  .have q:=qT B';have VC:=λU=>ed (U:=U) B';have hf0:=hh _ (Ws B');have hd:P.drop j=P[j]::P.drop (j+1):=ju B';have YG:aG P[j]=.agg [vI P[j].node,vI P[j].side,vI P[j].anchor,vI P[j].x,vI P[j].y,vI P[j].w,vI P[j].h]:=rfl;rw[hd,cC]at hX;have hfst:=hd;generalize P[j]=f at*;have r1:=rI j;have r2:VO .i64 (sh+min f.h body):=ae;have hsZ:=hs;replace hs:=aa.refl J;apply sR;simp only[go_sem,seval,k0,k9,q,hlp,VC,YG];refine ar hs λi10 Z10 XV Wn f10 YK hs=>?_;by_cases hgt:sh+min f.h body>body
   .have q2:(sh+min f.h body>body)=True:=L' hgt;rw[av hgt]at hX;simp only[go_sem,seval,Wn,k1,k8,Ym,dD,r2,q2];generalize Ww:C' Z10 i10 _=Y10;have s10':aa J Y10:=by rw[<-Ww];exact XV.az f10
    have ho10:=ho.mono s10';clear Ww;refine aA λi36 Z36 s36 a36 f36=>?_;have Zr:=λU=>jS (U:=U) (P:=P) (j:=j) (by omega);have hsrc:∀U,bM U 7 (aC (P.drop j))=some ((P.drop j).map aG):=λU=>by simp[aC,bM]
    have Xc:((P.drop j).map aG).length=P.length-j:=by simp
    have V1:(P.length-j)*57<=140737488355328:=by omega
    simp only[BB,seval,br,eL,aJ,Xl,k0,k9,Zr,wj a36,hsrc,Xc,V1];refine bt λi40 Z40 s40 a40 f40=>?_;have s4:aa Y10 Z40:=(s36.oN f36).trans s40;have n40:U i40=none:=((hsZ.trans s10').trans s36).none f40;have ho40:=ho10.mono s4;have hs40:=(hsZ.trans s10').trans s4;have hn40:ay U Z40 100 7 (.own i40 0 (P.length-j)) ((P.drop j).map aG):=ay.new (by simp) a40 n40;simp only[go_sem,seval,k8];rw[hX];exact⟨_,U,hs40,Wk.VG (vs':=[aC acc,aC (P.drop j),vI sh]) ⟨ho40.wk (aa.refl U) hs40,hn40.wk (aa.refl U) hs40,Wk.refl hs40 _,trivial⟩,by rw[hd,jt],rfl⟩
   .have q2:(sh+min f.h body>body)=False:=H' hgt;rw[aD hgt]at hX;simp only[go_sem,seval,Wn,k1,k8,Ym,dD,r2,q2];generalize Ww:C' Z10 i10 _=Y10;have a10':=(congrFun Ww i10).symm.trans ag;have s10':aa J Y10:=by rw[<-Ww];exact XV.az f10
    have ho10:=ho.mono s10';clear Ww;refine aA λi44 Z44 s44 a44 f44=>?_;obtain⟨idA,Wi,hdv,WM,VL⟩:=ho10.pI s44;have b10:=(WM i10 (λn hv=>by
     rcases ho with⟨h,_⟩|⟨id,h,h2,_⟩
     .rw[h]at hv;cases hv
     .rw[h]at hv;cases hv;rw[h2]at YK;cases YK) Z44).trans (s44 _ _ a10')
    have Xc:(acc.map aG).length=j:=by simp[YX]
    have V1:(j+1)*57<=140737488355328:=by omega
    simp only[go_sem,seval,Wi,bJ a44,Xc,V1];refine bt λi45 Z45 s45 a45 f45=>?_;have k45:=(VL U (aa.refl U) Z44 ((hsZ.trans s10').trans s44)).trans s45;have XQ:U i45=none:=((hsZ.trans s10').trans s44).none f45;have c10:=s45 _ _ b10;simp only[go_sem,seval,k0,k1,k8,k9,c10,r1,r2];refine⟨_,by omega,j+1,acc++[{ f with y:=sh,h:=min f.h body }],sh+min f.h body,by omega,rfl,by simp[YX],by rw[hX];simp,by omega,by omega,k45,?_,by simp[vI]⟩;exact ay.new (by simp[YX]) (by rw[a45,dG];rfl) XQ
  .have q:=qF B';obtain rfl:j=P.length:=by omega
   rw[xp]at hX;apply sR;simp only[go_sem,seval,k0,k8,k9,Ym,q,hlp];rw[hX];exact⟨_,U,hs,Wk.VG (vs':=[aC acc,aC [],vI sh]) ⟨ho.wk (aa.refl U) hs,Wk.aO 7,Wk.refl hs _,trivial⟩,by simp[cC],rfl⟩
open Go.Proofs
def Ed(l:List WE)(hl:jU l)(fl:List O')(YG:fl.length<=1000000)(ZI:∀f∈fl,f.ok)(s:W7)(hm:de l s)(hd:s.done<=1152921504606846976)(to kept shift body:Int)(hk:-1152921504606846976<=kept/\kept<=2305843009213693952)(YO:0<=shift/\shift<=1152921504606846976):
 aL prog 71 [bn l,aC fl,aZ s,vI to,vI kept,vI shift,vI body] (.VG [aC (dS l fl s to kept shift body).1,aC (dS l fl s to kept shift body).2]):=λU=>by
 refine e71.q ?_;have hs:=aa.refl U;have hc:=lG l s;rw[WJ hm]at hc;unfold dS;rw[av hm];have Xo:=E4 fl YG s hm.2.1 to;have hCl:(cW fl s to).length<=fl.length:=kG _ _ _;have hCo:∀f∈cW fl s to,f.ok:=λf hf=>ZI f (rC.1 hf).1;generalize cW fl s to=C at*;have hlC:=cQ C;obtain⟨a,d,fr⟩:=s;obtain⟨⟨h0,h1⟩,h2,h3⟩:=hm;simp only at h0 h1 h2 h3 hd;obtain⟨n,rfl⟩:∃n:Nat,a=n:=⟨a.toNat,by omega⟩
 have Xe:n<l.length:=by omega
 have hixA:=λU=>ey (U:=U) Xe;have hya:=hl.rng _ (Ws Xe);unfold uk;rw[bp Xe];generalize l[n]=V3 at*;obtain⟨X,hX⟩:∃X,X=jB (V3.y+d-kept) shift body C:=⟨_,rfl⟩
 rw[<-hX];refine mS 21 ?_;simp only[go_sem,seval,c71,aZ];refine ar hs λi9 Z9 s9 a9 f9 _ hs=>?_;simp only[go_sem,seval,a9];refine pS rfl (hc _) ?_;simp only[go_sem,seval,a9];refine pS rfl (Xo _) ?_;simp only[go_sem,seval];refine ai.loop (λm st=>∃i:Nat,i<=C.length/\m=C.length-i/\(∀k (h:k<C.length),k<i->(bV (V3.y+d-kept) shift C[k]).y+C[k].h<=body)/\aa U st.U/\ay U st.U 100 7 (st.s 17) (((C.take i).map (bV (V3.y+d-kept) shift)).map aG)/\st.U i9=some ⟨24,3,[.agg [vI n,vI d,.bool fr]]⟩/\st.s 0=bn l/\st.s 4=vI kept/\st.s 5=vI shift/\st.s 6=vI body/\st.s 9=.ptr i9 0 0/\st.s 16=aC C/\st.s 18=vI i) C.length ?_ ?_
 .exact⟨0,by omega,rfl,λk h h'=>by omega,hs,ay.start,a9,rfl,rfl,rfl,rfl,rfl,rfl,rfl⟩
 .clear a9 hs;rintro m ⟨S,J⟩ ⟨i,hi,rfl,hz,hs,ho,a9,k0,k4,k5,k6,k9,k16,k18⟩;simp only at hs ho a9 k0 k4 k5 k6 k9 k16 k18;generalize hv17:S 17=v17 at ho;refine ai.mix 21 ?_;by_cases B':i<C.length
  .have q:=qT B';have WG:=λU=>ed (U:=U) B';have ZI:=hCo _ (Ws B');have XG:=Jg (top:=V3.y+d-kept) (shift:=shift) (body:=body) B' (λk h h'=>hz k h h');have V9:C.take (i+1)=C.take i++[C[i]]:=XH B';have YG:aG C[i]=.agg [vI C[i].node,vI C[i].side,vI C[i].anchor,vI C[i].x,vI C[i].y,vI C[i].w,vI C[i].h]:=rfl;generalize hf:C[i]=f at*;obtain⟨o0,⟨o1,o2⟩,o3,⟨o4,o5⟩⟩:=ZI;have r1:=rI i;have r2:VO .i64 (f.y-V3.y):=ae;have r3:VO .i64 (f.y-V3.y-d):=ae;have r4:VO .i64 (f.y-V3.y-d+kept):=ae;have hmv:(bV (V3.y+d-kept) shift f).y=max 0 (f.y-V3.y-d+kept)+shift:=by simp only[bV];omega
   have hme:aG (bV (V3.y+d-kept) shift f)=.agg [vI f.node,vI f.side,vI f.anchor,vI f.x,vI (max 0 (f.y-V3.y-d+kept)+shift),vI f.w,vI f.h]:=by
    show V.agg [vI f.node,vI f.side,vI f.anchor,vI f.x,vI (bV (V3.y+d-kept) shift f).y,vI f.w,vI f.h]=_;rw[hmv]
   rw[hmv]at XG;have r5:VO .i64 (max 0 (f.y-V3.y-d+kept)+shift):=ae;have r6:VO .i64 (max 0 (f.y-V3.y-d+kept)+shift+f.h):=ae;have hsZ:=hs;replace hs:=aa.refl J;apply sR;simp only[go_sem,seval,k16,k18,q,hlC,WG,YG];refine ar hs λi19 Y19 s19 ZC f19 z19 hs=>?_;obtain⟨n919,a9⟩:=VB a9 f19 s19;by_cases hneg:f.y-V3.y-d+kept<0
   .have q1:(f.y-V3.y-d+kept<0)=True:=L' hneg;rw[show max 0 (f.y-V3.y-d+kept)=0 by omega]at XG hme hmv r5 r6;by_cases hgt:0+shift+f.h>body
    .have q2:(0+shift+f.h>body)=True:=L' hgt;have Zr:=λU=>jS (U:=U) (P:=C) (j:=i) (by omega);rw[XG (by omega)]at hX;simp only[BB,seval,br,eL,aJ,cY,eN,gn,bP,dJ,dn,cF,V.cells,V.stays,ZC,a9,k0,k4,k5,k6,k9,k16,k18,hv17,hixA,bC,Zr,r2,r3,r4,r5,r6,q1,q2,ab n919];generalize XB:C' _ i19 _=Z19;have s19':aa J Z19:=by rw[<-XB];exact s19.az f19
     have ho19:=ho.mono s19';clear XB;rw[hX];have VP:=hsZ.trans s19';exact⟨_,U,VP,Wk.VG (vs':=[aC ((C.take i).map (bV (V3.y+d-kept) shift)),aC (C.drop i)]) ⟨ho19.wk (aa.refl U) VP,Wk.refl VP _,trivial⟩,rfl,rfl⟩
    .have q2:(0+shift+f.h>body)=False:=H' hgt;simp only[go_sem,seval,ZC,a9,k0,k4,k5,k6,k9,hv17,hixA,bC,r2,r3,r4,r5,r6,q1,q2,ab n919];generalize XB:C' _ i19 _=Z19;have s19':aa J Z19:=by rw[<-XB];first|exact s19.az f19|exact(s19.az f19).az f19
     have ho19:=ho.mono s19';have a9':=((congrFun XB i9).symm.trans (ab n919)).trans a9;clear XB;refine aA λi72 Z72 s72 a72 f72=>?_;obtain⟨idA,Wi,hdv,WM,VL⟩:=ho19.pI s72;have b9:=(WM i9 (ho19.dE a9' (by simp)) Z72).trans (s72 _ _ a9');have Xc:(((C.take i).map (bV (V3.y+d-kept) shift)).map aG).length=i:=by simp;omega
     have V1:(i+1)*57<=140737488355328:=by omega
     simp only[go_sem,seval,Wi,bJ a72,Xc,V1];refine bt λi73 Z73 s73 a73 f73=>?_;have k73:=(VL U (aa.refl U) Z72 ((hsZ.trans s19').trans s72)).trans s73;have n73:U i73=none:=((hsZ.trans s19').trans s72).none f73;have c9:=s73 _ _ b9;simp only[go_sem,seval,k0,k4,k5,k6,k9,k16,k18,r1];refine⟨_,by omega,i+1,by omega,rfl,λk h h'=>?_,k73,?_,c9,by simp[vI]⟩
     .by_cases e:k=i
      .subst e;rw[hf,hmv];omega
      .exact hz k h (by omega)
     .rw[V9,dG,dG,List.map_singleton,List.map_singleton,hme];exact ay.new (by simp;omega) a73 n73
   .have q1:(f.y-V3.y-d+kept<0)=False:=H' hneg;rw[show max 0 (f.y-V3.y-d+kept)=f.y-V3.y-d+kept by omega]at XG hme hmv r5 r6;by_cases hgt:f.y-V3.y-d+kept+shift+f.h>body
    .have q2:(f.y-V3.y-d+kept+shift+f.h>body)=True:=L' hgt;have Zr:=λU=>jS (U:=U) (P:=C) (j:=i) (by omega);rw[XG (by omega)]at hX;simp only[BB,seval,br,eL,aJ,cY,eN,gn,bP,dJ,dn,cF,V.cells,V.stays,ZC,a9,k0,k4,k5,k6,k9,k16,k18,hv17,hixA,bC,Zr,r2,r3,r4,r5,r6,q1,q2,ab n919];generalize XB:C' _ i19 _=Z19;have s19':aa J Z19:=by rw[<-XB];exact s19.az f19
     have ho19:=ho.mono s19';clear XB;rw[hX];have VP:=hsZ.trans s19';exact⟨_,U,VP,Wk.VG (vs':=[aC ((C.take i).map (bV (V3.y+d-kept) shift)),aC (C.drop i)]) ⟨ho19.wk (aa.refl U) VP,Wk.refl VP _,trivial⟩,rfl,rfl⟩
    .have q2:(f.y-V3.y-d+kept+shift+f.h>body)=False:=H' hgt;simp only[go_sem,seval,ZC,a9,k0,k4,k5,k6,k9,hv17,hixA,bC,r2,r3,r4,r5,r6,q1,q2,ab n919];generalize XB:C' _ i19 _=Z19;have s19':aa J Z19:=by rw[<-XB];first|exact s19.az f19|exact(s19.az f19).az f19
     have ho19:=ho.mono s19';have a9':=((congrFun XB i9).symm.trans (ab n919)).trans a9;clear XB;refine aA λi72 Z72 s72 a72 f72=>?_;obtain⟨idA,Wi,hdv,WM,VL⟩:=ho19.pI s72;have b9:=(WM i9 (ho19.dE a9' (by simp)) Z72).trans (s72 _ _ a9');have Xc:(((C.take i).map (bV (V3.y+d-kept) shift)).map aG).length=i:=by simp;omega
     have V1:(i+1)*57<=140737488355328:=by omega
     simp only[go_sem,seval,Wi,bJ a72,Xc,V1];refine bt λi73 Z73 s73 a73 f73=>?_;have k73:=(VL U (aa.refl U) Z72 ((hsZ.trans s19').trans s72)).trans s73;have n73:U i73=none:=((hsZ.trans s19').trans s72).none f73;have c9:=s73 _ _ b9;simp only[go_sem,seval,k0,k4,k5,k6,k9,k16,k18,r1];refine⟨_,by omega,i+1,by omega,rfl,λk h h'=>?_,k73,?_,c9,by simp[vI]⟩
     .by_cases e:k=i
      .subst e;rw[hf,hmv];omega
      .exact hz k h (by omega)
     .rw[V9,dG,dG,List.map_singleton,List.map_singleton,hme];exact ay.new (by simp;omega) a73 n73
  .have q:=qF B';obtain rfl:i=C.length:=by omega
   rw[eF]at ho;apply sR;simp only[go_sem,seval,k16,k18,hv17,q,hlC];rw[hX,Fy λk h=>hz k h h];exact⟨_,U,hs,Wk.VG (vs':=[aC (C.map (bV (V3.y+d-kept) shift)),aC []]) ⟨ho.wk (aa.refl U) hs,Wk.aO 7,trivial⟩,rfl,rfl⟩
open Go.Proofs
def Ls(l:List WE)(hl:jU l)(s:W7)(hm:de l s)(hd:s.done<=1152921504606846976)(VZ:Int)(h1:1<=VZ):aL prog 70 [bn l,aZ s,vI VZ] (.VG [aP (j3 l s VZ),aZ (fG l s VZ)]):=λU=>by
 refine e70.q ?_;have hs:=aa.refl U;have hll:=hl.len;have hc:=lG l s;rw[WJ hm]at hc;unfold j3 fG;rw[av ⟨hm,h1⟩,av ⟨hm,h1⟩];obtain⟨a,d,fr⟩:=s;obtain⟨⟨h0,h1'⟩,h2,h3⟩:=hm;simp only at h0 h1' h2 h3 hd;obtain⟨n,rfl⟩:∃n:Nat,a=n:=⟨a.toNat,by omega⟩
 have Xe:n<l.length:=by omega
 have WG:=λU=>ey (U:=U) Xe;have hy:=hl.rng _ (Ws Xe);rw[bp Xe]at h3;have hX:fo l ⟨n,d,fr⟩ VZ=⟨l[n].node,n,d,l[n].x,0,l[n].w,min (l[n].h-d) VZ⟩:=by
  simp only[fo,iM,XR.cm,XR.cut,bp Xe]
 have hY:jY l (fo l ⟨n,d,fr⟩ VZ)=if d+min (l[n].h-d) VZ<l[n].h then⟨n,d+min (l[n].h-d) VZ,false⟩else⟨(n:Int)+1,0,false⟩:=by
  rw[hX,jY];simp only[bp Xe]
 generalize jY l (fo l ⟨n,d,fr⟩ VZ)=Y at*;generalize fo l ⟨n,d,fr⟩ VZ=X at*;generalize l[n]=x at*;have w1:(VZ<1)=False:=H';have r1:VO .i64 (x.h-d):=ae;have r2:=rI n;have r3:VO .i64 (d+min (x.h-d) VZ):=ae;refine mS 11 ?_;simp only[go_sem,seval,c70,aZ];refine ar hs λi4 Z4 s4 a4 f4 z4 hs=>?_;simp only[go_sem,seval];refine ar hs λi6 Z6 s6 a6 f6 z6 hs=>?_;obtain⟨n46,a4⟩:=VB a4 f6 s6;simp only[go_sem,seval];refine ar hs λi7 Z7 s7 a7 f7 z7 hs=>?_;obtain⟨n47,a4⟩:=VB a4 f7 s7;obtain⟨Zw,a6⟩:=VB a6 f7 s7;simp only[go_sem,seval,a4];refine pS rfl (hc _) ?_;simp only[go_sem,seval,a4,w1,WG,bC];refine ar hs λi8 Z8 s8 a8 f8 z8 hs=>?_;obtain⟨YQ,a4⟩:=VB a4 f8 s8;obtain⟨n68,a6⟩:=VB a6 f8 s8;obtain⟨YW,a7⟩:=VB a7 f8 s8;simp only[go_sem,seval,a8,a4,r1,r2,dD,ab YQ];generalize Xm:C' _ i8 _=Y8;replace a8:=WC Xm;replace a4:=VN Xm YQ a4;replace a6:=VN Xm n68 a6;replace a7:=VN Xm YW a7;replace hs:=WD Xm hs z8;refine ar hs λi10 Z10 XV Wn f10 YK hs=>?_;obtain⟨n410,a4⟩:=VB a4 f10 XV;obtain⟨n610,a6⟩:=VB a6 f10 XV;obtain⟨YN,a7⟩:=VB a7 f10 XV;obtain⟨n810,a8⟩:=VB a8 f10 XV;by_cases B':d+min (x.h-d) VZ<x.h
 .have w2:(d+min (x.h-d) VZ<x.h)=True:=L' B';rw[av B']at hY;simp only[go_sem,seval,Wn,a8,a4,r3,w2,cp,ab n410,ab n810];generalize Ww:C' _ i10 _=Y10;replace Wn:=WC Ww;replace a4:=VN Ww n410 a4;replace a6:=VN Ww n610 a6;replace a7:=VN Ww YN a7;replace a8:=VN Ww n810 a8;replace hs:=WD Ww hs YK;refine ai.ug (by kernel_rfl) 8 (.leaf [[],[0],[],[2],[],[4],[],[6],[],[8],[],[1,3,5,7,9,10,0,2,4,6,8],[],[11,0,1,2,3,4,5,6,7,8,9,10],[12,13,0,1,2,3,4,5,6,7,8,9,10,11]] [0,1,2,3,4,5,6,7,8,9,10,11,12,13,14]) (by kernel_rfl) ?_;refine GT.gH (its:=[0,2,4,6,8,10,12,14,16,18,20,22,24,26,25,28]) (by kernel_rfl) ?_;refine cd (n:=0) [25,28] [0,2,4,6,8,10,12,14,16,18,20,22,24,26] [_,_,_,_,_,_,_,_,_,_,_,_,_,_] rfl rfl ?_;simp only[go_sem,seval,a4,a8,Wn,a6];refine cT rfl (by simp only[go_sem,seval,Wn,ab n610.symm]) ?_;refine cd (n:=0) [] [28] [_] rfl rfl ?_;simp only[go_sem,seval,a7,ab Zw.symm];apply sR;simp only[go_sem,seval,ab Zw,cz]
  first
   |exact ak.pure ((hs.az z6).az z7) (by rw[hX,hY];rfl)
   |exact ak.pure ((hs.az z7).az z6) (by rw[hX,hY];rfl)
 .have w2:(d+min (x.h-d) VZ<x.h)=False:=H' B';rw[aD B']at hY;simp only[go_sem,seval,Wn,a8,a4,r3,w2,cp,ab n410,ab n810];generalize Ww:C' _ i10 _=Y10;replace Wn:=WC Ww;replace a4:=VN Ww n410 a4;replace a6:=VN Ww n610 a6;replace a7:=VN Ww YN a7;replace a8:=VN Ww n810 a8;replace hs:=WD Ww hs YK;refine ai.ug (by kernel_rfl) 8 (.leaf [[],[0],[],[2],[],[4],[],[6],[],[8],[],[1,3,5,7,9,10,0,2,4,6,8],[],[11,0,1,2,3,4,5,6,7,8,9,10],[12,13,0,1,2,3,4,5,6,7,8,9,10,11]] [0,1,2,3,4,5,6,7,8,9,10,11,12,13,14]) (by kernel_rfl) ?_;refine GT.gH (its:=[0,2,4,6,8,10,12,14,16,18,20,22,24,26,25,28]) (by kernel_rfl) ?_;refine cd (n:=0) [25,28] [0,2,4,6,8,10,12,14,16,18,20,22,24,26] [_,_,_,_,_,_,_,_,_,_,_,_,_,_] rfl rfl ?_;simp only[go_sem,seval,a4,a8,Wn,a6];refine cT rfl (by simp only[go_sem,seval,Wn,ab n610.symm]) ?_;refine cd (n:=0) [] [28] [_] rfl rfl ?_;simp only[go_sem,seval,a7,ab Zw.symm];apply sR;simp only[go_sem,seval,ab Zw,cz]
  first
   |exact ak.pure ((hs.az z6).az z7) (by rw[hX,hY];rfl)
   |exact ak.pure ((hs.az z7).az z6) (by rw[hX,hY];rfl)
instance:DecidableEq Pag:=λa b=>decidable_of_iff (a.no=b.no/\a.kind=b.kind/\a.hs=b.hs/\a.fs=b.fs/\a.ls=b.ls) (by cases a;cases b;simp)
open Go.Proofs
def JZ(l:List XR):dX false (bQ l)=some (.int .i64 l.length):=by simp[bQ,dX]
def Ea(sz:Nat)(ks:List Nat):U':=⟨26,.seq (.reg false [⟨some 4,.mov (.c (.bool false)),none⟩]) (.seq (.seq (.reg false [⟨some 6,.mov (.t 0),none⟩,⟨some 7,.len false (.t 6),none⟩,⟨some 8,.mov (.t 1),none⟩,⟨some 9,.len false (.t 8),none⟩,⟨some 10,.bin .neq (.t 7) (.t 9),none⟩]) (.cond (.t 10) (.seq (.reg false [⟨some 4,.mov (.c (.bool false)),none⟩]) .ret) .skip)) (.seq (.seq (.reg false [⟨some 5,.mov (.c (.int .i64 0)),none⟩]) (.block 0 (.loop (.seq (.seq (.reg false [⟨some 11,.mov (.t 5),none⟩,⟨some 12,.mov (.t 0),none⟩,⟨some 13,.len false (.t 12),none⟩,⟨some 14,.bin .lss (.t 11) (.t 13),none⟩]) (.cond (.t 14) .skip (.exit 0))) (.seq (.block 1 (.seq (.reg true [⟨some 17,.mov (.t 0),none⟩,⟨some 18,.mov (.t 5),none⟩,⟨some 19,.idxA sz (.t 17) (.t 18),none⟩,⟨some 20,.load true sz (.t 19),none⟩,⟨some 21,.mov (.t 1),none⟩,⟨some 22,.mov (.t 5),none⟩,⟨some 23,.idxA sz (.t 21) (.t 22),none⟩,⟨some 24,.load true sz (.t 23),none⟩,⟨some 25,.eqS true ks (.t 20) (.t 24),none⟩]) (.cond (.t 25) (.seq (.reg false [⟨some 4,.mov (.c (.bool false)),none⟩]) .ret) .skip))) (.reg false [⟨some 15,.mov (.t 5),none⟩,⟨some 16,.bin .add (.t 15) (.c (.int .i64 1)),none⟩,⟨some 5,.mov (.t 16),none⟩])))))) (.seq (.reg false [⟨some 4,.mov (.c (.bool true)),none⟩]) .ret))),[.tmp (.t 4)]⟩
def qk{P:Program}{f:FuncId}{fn:Func}(hf:P.funcs[f]?=some fn){sz:Nat}{ks:List Nat}(hc:cfn P fn=some (Ea sz ks))(hk:fK P f=true){α:Type}[DecidableEq α](enc:α->V)
 (he:∀a b,jV true ks (enc a) (enc b)=some (.bool (decide (a≠b))))(hl:∀U a,cj U true sz (.rp (enc a))=some (enc a))(xs ys:List α)(hx:xs.length<=1000000000000):
 aL P f [.sl sz (xs.map enc),.sl sz (ys.map enc)] (.bool (decide (xs=ys))):=λU=>by
 refine au.mC hf hc hk (by simp[Ea]) ?_;refine ai.mix 6 ?_;have n1:dX false (.sl sz (xs.map enc))=some (.int .i64 xs.length):=by simp[dX]
 have n2:dX false (.sl sz (ys.map enc))=some (.int .i64 ys.length):=by simp[dX]
 by_cases hlen:xs.length=ys.length
 .have q:((xs.length:Int)≠ys.length)=False:=H';apply sR;simp only[go_sem,seval,Ea,n1,n2,q];refine ai.loop (λm st=>∃j,j<=xs.length/\m=xs.length-j/\xs.take j=ys.take j/\st.s 0=.sl sz (xs.map enc)/\st.s 1=.sl sz (ys.map enc)/\st.s 5=.int .i64 j/\st.U=U) xs.length ⟨0,by omega,rfl,rfl,rfl,rfl,rfl,rfl⟩ ?_;rintro m ⟨S,Z'⟩ ⟨j,hj,rfl,ht,t0,t1,t5,V7⟩;simp only at t0 t1 t5 V7;subst V7;refine ai.mix 6 ?_;by_cases B':j<xs.length
  .have q1:=qT B';have Yi:j<ys.length:=by omega
   have i1:∀U,bO U sz (.sl sz (xs.map enc)) (.int .i64 j)=some (.rp (enc xs[j])):=λU=>by simp[bO,B']
   have i2:∀U,bO U sz (.sl sz (ys.map enc)) (.int .i64 j)=some (.rp (enc ys[j])):=λU=>by simp[bO,Yi]
   have hee:=he xs[j] ys[j];have tx:=XH B';have ty:=XH Yi;by_cases hq:xs[j]=ys[j]
   .rw[show decide (xs[j]≠ys[j])=false by simpa using hq]at hee;apply sR;simp only[BB,seval,<-decide_not,br,eL,aJ,cY,eN,fm,gk,eP,cS,mZ,gn,bP,jy,gA,gV,eI,eT,cP,lu,dJ,dn,cF,Xl,mj,dT,cE,ef,cX,dV,dP,nN,binBV,dk,ei,V.cells,V.stays,Xu.nothing,t0,t1,t5,n1,q1,i1,i2,hl,hee];exact⟨ae,_,by omega,j+1,by omega,rfl,by rw[tx,ty,ht,hq],by simp⟩
   .rw[show decide (xs[j]≠ys[j])=true by simpa using hq]at hee;apply sR;simp only[BB,seval,<-decide_not,br,eL,aJ,cY,eN,fm,gk,eP,cS,mZ,gn,bP,jy,gA,gV,eI,eT,cP,lu,dJ,dn,cF,Xl,mj,dT,cE,ef,cX,dV,dP,nN,binBV,dk,ei,V.cells,V.stays,Xu.nothing,t0,t1,t5,n1,q1,i1,i2,hl,hee];refine ak.same ?_;have:¬xs=ys:=λh=>hq (by simp only[h]);rw[WW this]
  .have q1:=qF B';apply sR;simp only[go_sem,seval,t0,t1,t5,n1,q1];refine ak.same ?_;rw[nq (by omega),nq (by omega)]at ht;rw[WJ ht]
 .have q:((xs.length:Int)≠ys.length)=True:=L';apply sR;simp only[go_sem,seval,Ea,n1,n2,q];refine ak.same ?_;rw[WW λh=>hlen (by rw[h])]
open Go.Proofs
def F1(l:List XR):(bQ l).cells=[bQ l]:=rfl
def Fw(l:List XR):(bQ l).stays=true:=rfl
def NY(a b:XR):jV true [0,0,0,0,0,0,0] (aP a) (aP b)=some (.bool (decide (a≠b))):=by
 obtain⟨a1,a2,a3,a4,a5,a6,a7⟩:=a;obtain⟨b1,b2,b3,b4,b5,b6,b7⟩:=b;simp only[jV,aP,ef,cX,dV,vI,XU,List.length_nil,true_and,↓reduceIte,ne_eq,XR.mk.injEq];by_cases h1:a1=b1<;>simp[h1]
def NZ(a b:WE):jV true [0,0,0,0,0,0,0,0] (bC a) (bC b)=some (.bool (decide (a≠b))):=by
 obtain⟨a1,a2,a3,a4,a5,a6,a7,a8⟩:=a;obtain⟨b1,b2,b3,b4,b5,b6,b7,b8⟩:=b;simp only[jV,bC,ef,cX,dV,vI,XU,List.length_nil,true_and,↓reduceIte,ne_eq,WE.mk.injEq];by_cases h1:a1=b1<;>simp[h1]
def Co(a b:O'):jV true [0,0,0,0,0,0,0] (aG a) (aG b)=some (.bool (decide (a≠b))):=by
 obtain⟨a1,a2,a3,a4,a5,a6,a7⟩:=a;obtain⟨b1,b2,b3,b4,b5,b6,b7⟩:=b;simp only[jV,aG,ef,cX,dV,vI,XU,List.length_nil,true_and,↓reduceIte,ne_eq,O'.mk.injEq];by_cases h1:a1=b1<;>simp[h1]
def MA(a b:Xt):jV true [0,0,0] (bY a) (bY b)=some (.bool (decide (a≠b))):=by
 obtain⟨a1,a2,a3⟩:=a;obtain⟨b1,b2,b3⟩:=b;simp only[jV,bY,ef,cX,dV,vI,XU,List.length_nil,true_and,↓reduceIte,ne_eq,Xt.mk.injEq];by_cases h1:a1=b1<;>simp[h1]
def Ib(a b:List WE)(h:a.length<=1000000000):aL prog 45 [bn a,bn b] (.bool (decide (a=b))):=
 qk func45 (sz:=8) (ks:=[0,0,0,0,0,0,0,0]) (e45.b.trans rfl) e45.c bC NZ (λ_ _=>rfl) a b (by omega)
def Hx(a b:List O')(h:a.length<=1000000000):aL prog 46 [aC a,aC b] (.bool (decide (a=b))):=
 qk func46 (sz:=7) (ks:=[0,0,0,0,0,0,0]) (e46.b.trans rfl) e46.c aG Co (λ_ _=>rfl) a b (by omega)
def Hh(a b:List Xt)(h:a.length<=1000000000):aL prog 13 [bG a,bG b] (.bool (decide (a=b))):=
 qk func13 (sz:=3) (ks:=[0,0,0]) (e13.b.trans rfl) e13.c bY MA (λ_ _=>rfl) a b (by omega)
def BN(a b:List O')(h:a.length<=1000000000):aL prog 51 [aC a,aC b] (.bool (decide (a=b))):=
 qk func51 (sz:=7) (ks:=[0,0,0,0,0,0,0]) (e51.b.trans rfl) e51.c aG Co (λ_ _=>rfl) a b (by omega)
def jR(p:Pag):(ew p).cells=[vI p.no,vI p.kind,bQ p.hs,bQ p.fs,bQ p.ls]:=rfl
def xS(p:Pag):(ew p).stays=true:=rfl
def wJ(a b:List XR)(h:a.length<=2000000):aL prog 60 [bQ a,bQ b] (.bool (decide (a=b))):=
 qk func60 (sz:=7) (ks:=[0,0,0,0,0,0,0]) (e60.b.trans rfl) e60.c aP NY (λ_ _=>rfl) a b (by omega)
def Ht(p q:Pag)(hp:p.hs.length<=2000000/\p.fs.length<=2000000/\p.ls.length<=2000000):aL prog 20 [ew p,ew q] (.bool (decide (p=q))):=λU=>by
 refine e20.q ?_;have hs:=aa.refl U;have c1:=wJ p.hs q.hs hp.1;have c2:=wJ p.fs q.fs hp.2.1;have c3:=wJ p.ls q.ls hp.2.2;generalize hX:decide (p=q)=X;have hX':(p.no=q.no/\p.kind=q.kind/\p.hs=q.hs/\p.fs=q.fs/\p.ls=q.ls)↔p=q:=by cases p;cases q;simp
 refine mS 5 ?_;simp only[go_sem,seval,c20,jR,xS];refine ar hs λi2 Z2 s2 a2 f2 _ hs=>?_;simp only[go_sem,seval,jR,xS];refine ar hs λi3 Z3 s3 a3 f3 _ hs=>?_;replace a2:=s3 _ _ a2;by_cases h1:p.no=q.no
 .have q1:(p.no=q.no)=True:=L' h1;by_cases h2:p.kind=q.kind
  .have q2:(p.kind=q.kind)=True:=L' h2;simp only[go_sem,seval,a2,a3,q1,q2,jR];refine pR rfl (c1 _) ?_;by_cases h3:p.hs=q.hs
   .rw[WJ h3];apply sR;simp only[go_sem,seval,a2,a3,jR];refine pR rfl (c2 _) ?_;by_cases h4:p.fs=q.fs
    .rw[WJ h4];apply sR;simp only[go_sem,seval,a2,a3,jR];refine pR rfl (c3 _) ?_;by_cases h5:p.ls=q.ls
     .rw[WJ h5];apply sR;simp only[go_sem,seval];exact ak.pure hs (by rw[<-hX,WJ (hX'.1 ⟨h1,h2,h3,h4,h5⟩)])
     .rw[WW h5];apply sR;simp only[go_sem,seval];exact ak.pure hs (by rw[<-hX,WW λh=>h5 (hX'.2 h).2.2.2.2])
    .rw[WW h4];apply sR;simp only[go_sem,seval];exact ak.pure hs (by rw[<-hX,WW λh=>h4 (hX'.2 h).2.2.2.1])
   .rw[WW h3];apply sR;simp only[go_sem,seval];exact ak.pure hs (by rw[<-hX,WW λh=>h3 (hX'.2 h).2.2.1])
  .have q2:(p.kind=q.kind)=False:=H' h2;simp only[go_sem,seval,a2,a3,q1,q2,jR];exact ak.pure hs (by rw[<-hX,WW λh=>h2 (hX'.2 h).2.1])
 .have q1:(p.no=q.no)=False:=H' h1;simp only[go_sem,seval,a2,a3,q1,jR];exact ak.pure hs (by rw[<-hX,WW λh=>h1 (hX'.2 h).1])
def IZ(a b:Gal)(ha:a.atoms.length<=1000000/\a.u'.length<=1000000)(Zs:a=b):aL prog 11 [yq a,yq b] (.bool true):=λU=>by
 subst Zs;refine e11.q ?_;have hs:=aa.refl U;have c1:=Ib a.atoms a.atoms (by omega);have c2:=Hx a.u' a.u' (by omega);rw[WJ rfl]at c1 c2;refine mS 5 ?_;simp only[go_sem,seval,c11,yq];refine ar hs λi2 Z2 s2 a2 f2 _ hs=>?_;simp only[go_sem,seval];refine ar hs λi3 Z3 s3 a3 f3 _ hs=>?_;replace a2:=s3 _ _ a2;simp only[go_sem,seval,a2,a3];refine pS rfl (c1 _) ?_;simp only[go_sem,seval,a2,a3];refine pS rfl (c2 _) ?_;simp only[go_sem,seval];exact ak.pure hs rfl
def wC(x y:XY)(hx:x.bw.length<=1000000):aL prog 15 [bl x,bl y] (.bool (decide (x.s.atom=y.s.atom/\x.s.done=y.s.done/\x.s.free=y.s.free/\x.bw=y.bw))):=λU=>by
 refine e15.q ?_;have hs:=aa.refl U;have c1:=BN x.bw y.bw (by omega);obtain⟨⟨a,d,f⟩,P⟩:=x;obtain⟨⟨a',d',f'⟩,P'⟩:=y;simp only at c1|-;have eqs:jV false [0,0,1] (.agg [vI a,vI d,.bool f]) (.agg [vI a',vI d',.bool f'])=some (.bool (decide (a=a'/\d=d'/\f=f'))):=by
  simp only[jV,ef,cX,dV,vI,XU,List.length_nil,true_and,↓reduceIte];by_cases h1:a=a'<;>by_cases h2:d=d'<;>cases f<;>cases f'<;>simp[h1,h2]
 refine mS 5 ?_;simp only[go_sem,seval,c15,bl];refine ar hs λi2 Z2 s2 a2 f2 z2 hs=>?_;simp only[go_sem,seval];refine ar hs λi3 Z3 s3 a3 f3 z3 hs=>?_;obtain⟨n23,a2⟩:=VB a2 f3 s3;by_cases h:a=a'/\d=d'/\f=f'
 .rw[WJ h]at eqs;simp only[BB,seval,br,eL,aJ,gn,a2,a3,eqs,V.oG];refine pS rfl (c1 _) ?_;simp only[go_sem,seval];exact ak.pure hs (by simp[h])
 .rw[WW h]at eqs;simp only[BB,seval,br,eL,aJ,gn,a2,a3,eqs,V.oG];refine ak.pure hs ?_;congr 1;exact(WW λh'=>h ⟨h'.1,h'.2.1,h'.2.2.1⟩).symm
open Go.Proofs
def oW(b:Bk):bu b=.agg [aF b.nodes,vI b.w,vI b.h,bn b.atoms,aC b.VH,vI b.VA,bG b.V4]:=rfl
structure BkQ(b:Bk):Prop extends BkFull b where
 nn:b.nodes.length<=2000
 his:aL prog 90 [aF b.nodes] (.bool (Wg b.nodes))
def KU{b:Bk}(hb:BkQ b){s:W7}(h0:0<=s.atom)(V2:b.atoms≠[]):∃k n:Nat,min s.atom ((b.atoms.length:Int)-1)=k/\∃hk:k<b.atoms.length,b.atoms[k].node=n/\n<b.nodes.length/\bj b s=qh b.nodes n b.h:=by
 have Xd:=ud.2 V2;obtain⟨k,hk⟩:∃k:Nat,min s.atom ((b.atoms.length:Int)-1)=k:=⟨(min s.atom ((b.atoms.length:Int)-1)).toNat,by omega⟩
 have YP:k<b.atoms.length:=by omega
 obtain⟨g1,g2⟩:=hb.nod _ (Ws YP);obtain⟨n,hn⟩:∃n:Nat,b.atoms[k].node=n:=⟨b.atoms[k].node.toNat,by omega⟩
 refine⟨k,n,hk,YP,hn,by omega,?_⟩;have hm:gS b.nodes b.h=true:=by
  unfold gS;rw[hb.isb,WJ ⟨hb.h1,hb.h2⟩];rfl
 rw[bj,aD V2,hk,bp YP,hn,um,av ⟨hm,by omega,by omega⟩,fp]
def Kq(b:Bk)(hb:BkQ b)(s:W7)(h0:0<=s.atom):aL prog 62 [bu b,aZ s] (j7 (bj b s)):=λU=>by
 refine e62.q ?_;have hs:=aa.refl U;have XD:=gj b.atoms;have YX:=hb.len;refine mS 6 ?_;simp only[go_sem,seval,c62,oW,aZ];refine ar hs λi2 Z2 s2 a2 f2 _ hs=>?_;simp only[go_sem,seval];refine ar hs λi3 Z3 s3 a3 f3 _ hs=>?_;replace a2:=s3 _ _ a2;simp only[go_sem,seval];refine ar hs λi4 Z4 s4 a4 f4 z4 hs=>?_;obtain⟨n24,a2⟩:=VB a2 f4 s4;obtain⟨n34,a3⟩:=VB a3 f4 s4;have hkc:∀x:Kp,(j7 x).cells=[bb x.VU,vI x.high,vI x.body]:=λ_=>rfl;have hks:∀x:Kp,(j7 x).stays=true:=λ_=>rfl;by_cases V2:b.atoms=[]
 .have q:((b.atoms.length:Int)=0)=True:=L' (by rw[V2];rfl);simp only[go_sem,seval,a2,a4,XD,q];rw[show bj b s=⟨[],0,b.h⟩from av V2];exact⟨_,U,hs.az z4,Wk.agg (vs':=[bb [],vI 0,vI b.h]) ⟨Wk.aO 1,Wk.refl (hs.az z4) _,Wk.refl (hs.az z4) _,trivial⟩,rfl,rfl⟩
 .have Xd:=ud.2 V2;have q:((b.atoms.length:Int)=0)=False:=H';obtain⟨k,n,hk,YP,hn,Xe,hr⟩:=KU hb h0 V2;have hoc:=GS b.nodes hb.qs hb.isb hb.nn hb.his n Xe b.h hb.h1 hb.h2;rw[hr];have r1:VO .i64 ((b.atoms.length:Int)-1):=ae;have WG:=λU=>ey (U:=U) YP;generalize b.atoms[k]=x at*;have hxe:bC x=.agg [vI x.kind,vI n,vI x.fr,vI x.to,vI x.x,vI x.y,vI x.w,vI x.h]:=by rw[<-hn];rfl
  simp only[go_sem,seval,a2,a3,XD,q,r1,dD,hk,WG,hxe];refine pJ rfl hoc ?_;generalize qh b.nodes n b.h=X at*;apply sG;simp only[go_sem,seval,a4,hkc,hks];exact ak.pure (hs.az z4) rfl
def Hk(b:Bk)(hb:BkQ b)(X:Kp)(hX:Rq b X):aL prog 63 [bu b,j7 X] (bQ (YJ b.nodes b.w X.VU).1):=λU=>by
 refine e63.q ?_;have hs:=aa.refl U;obtain⟨H,hi,bo⟩:=X;have hlen:=hX.len;have aaa:=hX.mem;have eY:=hX.sum;have hhi:=hX.high;simp only at hlen aaa eY hhi;have hlH:=dd H;have h0:∀a∈H,0<=(XA b.nodes a).head:=λa ha=>by
  obtain⟨n,rfl,Xe⟩:=aaa a ha;rw[eU Xe];exact(fw hb.isb Xe).st.head.1
 have hps:=zy b.nodes b.w H h0;have YG:=yV b.nodes b.w;have VP:∀i (h:i<H.length),YJ b.nodes b.w (H.take (i+1))=hdS b.nodes b.w (YJ b.nodes b.w (H.take i)) H[i]:=λi h=>by rw[XH h,vg]
 refine mS 9 ?_;simp only[go_sem,seval,c63,oW,j7];refine ar hs λi2 Z2 s2 a2 f2 _ hs=>?_;simp only[go_sem,seval];refine ar hs λi3 Z3 s3 a3 f3 _ hs=>?_;obtain⟨n23,a2⟩:=VB a2 f3 s3;simp only[go_sem,seval];refine ai.loop (λm st=>∃i:Nat,i<=H.length/\m=H.length-i/\aa U st.U/\ay U st.U 123 7 (st.s 5) ((YJ b.nodes b.w (H.take i)).1.map aP)/\st.U i2=some ⟨40,7,[.agg [aF b.nodes,vI b.w,vI b.h,bn b.atoms,aC b.VH,vI b.VA,bG b.V4]]⟩/\st.U i3=some ⟨107,3,[.agg [bb H,vI hi,vI bo]]⟩/\st.s 2=.ptr i2 0 0/\st.s 3=.ptr i3 0 0/\st.s 6=vI (YJ b.nodes b.w (H.take i)).2/\st.s 7=vI i) H.length ?_ ?_
 .exact⟨0,by omega,rfl,hs,ay.start,a2,a3,rfl,rfl,rfl,rfl⟩
 .clear a2 a3 hs;rintro m ⟨S,J⟩ ⟨i,hi',rfl,hs,ho,a2,a3,k2,k3,k6,k7⟩;simp only at hs ho a2 a3 k2 k3 k6 k7;generalize hv5:S 5=v5 at ho;refine ai.mix 9 ?_;by_cases B':i<H.length
  .have q:=qT B';have WG:=λU=>du (U:=U) B';obtain⟨n,hen,Xe⟩:=aaa _ (Ws B');have Yx:=VP i B';have YB:=hps i;have hp2:=hps (i+1);have hfl':=YG (H.take i);rw[jN,Nat.min_eq_left (by omega)]at hfl';rw[hen]at WG Yx;have WQ:=λU=>bR (U:=U) (l:=b.nodes) (a:=n) Xe;rw[hdS,eU Xe]at Yx;rw[Yx]at hp2;have r1:=rI i;generalize b.nodes[n]=nd at*;generalize YJ b.nodes b.w (H.take i)=Y at*;obtain⟨F,y⟩:=Y;simp only at Yx YB hp2 hfl' ho k6;have r2:VO .i64 (y+nd.st.head):=ae;have Xc:(F.map aP).length=i:=by simp[hfl']
   have V1:(i+1)*57<=140737488355328:=by omega
   apply sR;simp only[go_sem,seval,k2,k3,k6,k7,hv5,a2,a3,q,hlH,WG,WQ,Nd.cells];refine bB λi38 Z38 s38 a38 f38=>?_;obtain⟨idA,Wi,hdv,WM,VL⟩:=ho.pI s38;have b2:=(WM i2 (ho.dE a2 (by simp)) Z38).trans (s38 _ _ a2);have b3:=(WM i3 (ho.dE a3 (by simp)) Z38).trans (s38 _ _ a3);simp only[go_sem,seval,Wi,bJ a38,Xc,V1];refine eQ λi39 Z39 s39 a39 f39=>?_;have k39:=(VL U (aa.refl U) Z38 (hs.trans s38)).trans s39;have n39:U i39=none:=(hs.trans s38).none f39;have c2:=s39 _ _ b2;have c3:=s39 _ _ b3;simp only[go_sem,seval,k2,k3,k6,k7,r1,r2,c2,c3];refine⟨_,by omega,i+1,by omega,rfl,k39,?_,by simp[vI,Yx]⟩;rw[Yx,dG];exact ay.new (by simp;omega) (by rw[a39];rfl) n39
  .have q:=qF B';obtain rfl:i=H.length:=by omega
   rw[eF]at ho;apply sR;simp only[go_sem,seval,k3,k7,hv5,a3,q,hlH];exact ho.pX hs rfl
open Go.Proofs
def wK{x:O'}:∀(p:List O') (i j:Nat) (hj:j<p.length),(∀k (h:k<p.length),k<j->p[k]≠x)->p[j]=x->ky x p i=((i+j:Nat):Int)
 |[],_,j,hj,_,_=>by simp at hj
 |q::r,i,0,_,_,h=>by
  have:x=q:=h.symm;rw[ky,av this];rfl
 |q::r,i,j+1,hj,hn,h=>by
  have h0:q≠x:=hn 0 (by simp) (by omega);rw[ky,aD (λe=>h0 e.symm),wK r (i+1) j (by simpa using hj) (λk hk hkj=>by
   have:=hn (k+1) (by simp;omega) (by omega);simpa using this) (by simpa using h)]
  congr 1;omega
def DU{x:O'}:∀(p:List O') (i:Nat),(∀k (h:k<p.length),p[k]≠x)->ky x p i=-1
 |[],_,_=>rfl
 |q::r,i,h=>by
  have h0:q≠x:=h 0 (by simp);rw[ky,aD (λe=>h0 e.symm)];exact DU r (i+1) λk hk=>by
   have:=h (k+1) (by simp;omega);simpa using this
def J4{VH r:List O'}{x:O'}{a j:Nat}(haj:a<=j)(hj:j<VH.length)(hn:∀k (h:k<VH.length),a<=k->k<j->VH[k]≠x)(hx:VH[j]=x):jn VH (x::r) a=jn VH r (j+1):=by
 have e:ky x (VH.drop a) 0=((0+(j-a):Nat):Int):=by
  refine wK _ 0 (j-a) (by rw[ri];omega) (λk hk hkj=>?_) ?_
  .rw[List.getElem_drop];rw[ri]at hk;exact hn _ (by omega) (by omega) (by omega)
  .rw[List.getElem_drop];have:a+(j-a)=j:=by omega
   simp only[this];exact hx
 rw[jn,e,aD (by omega)];congr 1;omega
def JC{VH r:List O'}{x:O'}{a:Nat}(hn:∀k (h:k<VH.length),a<=k->VH[k]≠x):jn VH (x::r) a=false:=by
 rw[jn,DU _ 0 (λk hk=>?_),av (by omega)];rw[List.getElem_drop];rw[ri]at hk;exact hn _ (by omega) (by omega)
def K6(b:Bk)(hb:BkFull b)(s:XY)(hp:s.bw.length<=1000000):aL prog 52 [bu b,bl s] (.bool (decide (jP b s))):=λU=>by
 refine e52.q ?_;have hs:=aa.refl U;have XD:=gj b.atoms;have hlf:=cQ b.VH;have YG:=hb.ZH;have Zi:=lG b.atoms s.s;obtain⟨⟨a,d,fr⟩,P⟩:=s;simp only at hp Zi;have hlp:=cQ P;have hX:decide (jP b ⟨⟨a,d,fr⟩,P⟩)=(jn b.VH P 0&&decide (de b.atoms ⟨a,d,fr⟩\/a=b.atoms.length/\d=0)):=by
  rw[Bool.eq_iff_iff,decide_eq_true_iff,Ba,decide_eq_true_iff];exact Iff.rfl
 rw[hX];generalize hR:jn b.VH P 0=R;refine mS 7 ?_;simp only[go_sem,seval,c52,oW,bl];refine ar hs λi2 Z2 s2 a2 f2 _ hs=>?_;simp only[go_sem,seval];refine ar hs λi3 Z3 s3 a3 f3 _ hs=>?_;replace a2:=s3 _ _ a2;simp only[go_sem,seval];refine ai.loop (λm st=>∃i a':Nat,i<=P.length/\a'<=b.VH.length/\m=P.length-i/\R=jn b.VH (P.drop i) a'/\aa U st.U/\st.U i2=some ⟨40,7,[.agg [aF b.nodes,vI b.w,vI b.h,bn b.atoms,aC b.VH,vI b.VA,bG b.V4]]⟩/\st.U i3=some ⟨27,4,[.agg [vI a,vI d,.bool fr,aC P]]⟩/\st.s 2=.ptr i2 0 0/\st.s 3=.ptr i3 0 0/\st.s 5=vI a'/\st.s 6=vI i) P.length ?_ ?_
 .exact⟨0,0,by omega,by omega,rfl,hR.symm,hs,a2,a3,rfl,rfl,rfl,rfl⟩
 .clear a2 a3 hs;rintro m ⟨S,J⟩ ⟨i,a',hi,ha',rfl,hRi,hs,a2,a3,k2,k3,k5,k6⟩;simp only at hs a2 a3 k2 k3 k5 k6;refine ai.mix 7 ?_;by_cases B':i<P.length
  .have q:=qT B';have hixP:=λU=>ed (U:=U) B';have hdP:P.drop i=P[i]::P.drop (i+1):=ju B';rw[hdP]at hRi;have hxe:aG P[i]=.agg [vI P[i].node,vI P[i].side,vI P[i].anchor,vI P[i].x,vI P[i].y,vI P[i].w,vI P[i].h]:=rfl;generalize P[i]=x at*;have ldx:∀U,cj U true 7 (.rp (aG x))=some (aG x):=λ_=>rfl;have r1:=rI i;apply sR;simp only[go_sem,seval,k3,k6,a3,hlp,q];refine ai.gy (λst=>∃j:Nat,a'<=j/\j<=b.VH.length/\(∀k (h:k<b.VH.length),a'<=k->k<j->b.VH[k]≠x)/\(∀h:j<b.VH.length,b.VH[j]=x)/\st.U=J/\st.s 2=.ptr i2 0 0/\st.s 3=.ptr i3 0 0/\st.s 5=vI j/\st.s 6=vI i)
    (λm st=>∃j:Nat,a'<=j/\j<=b.VH.length/\m=b.VH.length-j/\(∀k (h:k<b.VH.length),a'<=k->k<j->b.VH[k]≠x)/\st.U=J/\st.s 2=.ptr i2 0 0/\st.s 3=.ptr i3 0 0/\st.s 5=vI j/\st.s 6=vI i) (b.VH.length-a') ?_ ?_ ?_
   .exact⟨a',by omega,ha',rfl,λk h h1 h2=>by omega,rfl,k2,k3,k5,k6⟩
   .clear k2 k3 k5 k6;rintro m ⟨S,X'⟩ ⟨j,haj,hj,rfl,hz,V7,k2,k3,k5,k6⟩;simp only at V7 k2 k3 k5 k6;subst V7;refine ai.mix 7 ?_;by_cases Zv:j<b.VH.length
    .have u:=qT Zv;have hixF:=λU=>ed (U:=U) Zv;have hz2:b.VH[j]≠x->∀k (h:k<b.VH.length),a'<=k->k<j+1->b.VH[k]≠x:=λhn k h h1 h2=>by
      by_cases e:k=j
      .subst e;exact hn
      .exact hz k h h1 (by omega)
     have hz3:b.VH[j]=x->∀h:j<b.VH.length,b.VH[j]=x:=λe _=>e;have heq:=Co b.VH[j] x;have r2:=rI j;have ldy:∀U,cj U true 7 (.rp (aG b.VH[j]))=some (aG b.VH[j]):=λ_=>rfl;by_cases hyx:b.VH[j]=x
     .rw[WW (λh=>h hyx)]at heq;have hz4:=hz3 hyx;clear hz2 hz3 hyx;generalize b.VH[j]=y at heq hixF ldy;apply sR;simp only[BB,seval,br,eL,aJ,cY,eN,eP,gn,Xu.nothing,k2,k3,k5,k6,a2,a3,hlf,u,hixF,hixP,ldx,ldy,heq,V.oG];exact⟨j,haj,hj,hz,hz4,rfl⟩
     .rw[WJ hyx]at heq;have hz4:=hz2 hyx;clear hz2 hz3 hyx;generalize b.VH[j]=y at heq hixF ldy;apply sR;simp only[BB,seval,br,eL,aJ,cY,eN,gn,Xu.nothing,k2,k3,k5,k6,a2,a3,hlf,u,hixF,hixP,ldx,ldy,heq,r2,V.oG];exact⟨_,by omega,j+1,by omega,by omega,rfl,hz4,by simp[vI]⟩
    .have u:=qF Zv;apply sR;simp only[go_sem,seval,k2,k3,k5,k6,a2,hlf,u];exact⟨j,haj,hj,hz,λh=>absurd h Zv,rfl⟩
   .clear k2 k3 k5 k6;rintro⟨S,X'⟩ ⟨j,haj,hj,hz,hjx,V7,k2,k3,k5,k6⟩;simp only at V7 k2 k3 k5 k6;subst V7;refine ai.mix 7 ?_;by_cases Zv:j=b.VH.length
    .have u:((j:Int)=b.VH.length)=True:=L';rw[hRi,JC λk h h1=>hz k h h1 (by omega),Bool.false_and];apply sR;simp only[go_sem,seval,k2,k5,a2,hlf,u];exact ak.pure hs rfl
    .have u:((j:Int)=b.VH.length)=False:=H';have r2:=rI j;rw[J4 haj (by omega) hz (hjx (by omega))]at hRi;apply sR;simp only[go_sem,seval,k2,k3,k5,k6,a2,a3,hlf,u,r1,r2];exact⟨_,by omega,i+1,j+1,by omega,by omega,rfl,hRi,hs,by simp[vI]⟩
  .have q:=qF B';rw[List.drop_of_length_le (by omega),jn]at hRi;rw[hRi,Bool.true_and];apply sR;simp only[go_sem,seval,k2,k3,k6,a2,a3,hlp,q];refine pR rfl (Zi _) ?_;by_cases hm:de b.atoms ⟨a,d,fr⟩
   .rw[WJ hm,WJ (.inl hm)];apply sR;simp only[go_sem,seval];exact ak.pure hs rfl
   .rw[WW hm];by_cases h1:a=b.atoms.length
    .have u1:(a=b.atoms.length)=True:=L' h1;by_cases h2:d=0
     .have u2:(d=0)=True:=L' h2;rw[WJ (.inr ⟨h1,h2⟩)];apply sR;simp only[go_sem,seval,k2,k3,a2,a3,XD,u1,u2];exact ak.pure hs rfl
     .have u2:(d=0)=False:=H' h2;rw[WW (λh=>h.elim hm λh=>h2 h.2)];apply sR;simp only[go_sem,seval,k2,k3,a2,a3,XD,u1,u2];exact ak.pure hs rfl
    .have u1:(a=b.atoms.length)=False:=H' h1;rw[WW (λh=>h.elim hm λh=>h1 h.1)];apply sR;simp only[go_sem,seval,k2,k3,a2,a3,XD,u1];exact ak.pure hs rfl
def Ee(b:Bk)(hb:BkFull b)(s:XY)(hp:s.bw.length<=1000000):aL prog 17 [bu b,bl s] (.bool (decide (ic b s))):=λU=>by
 refine e17.q ?_;have hs:=aa.refl U;have XD:=gj b.atoms;have hmc:=K6 b hb s hp;have hX:ic b s↔(¬jP b s\/s.s.atom=b.atoms.length/\s.s.free=false/\s.bw=[]):=Iff.rfl;have hD:decide (ic b s)=(!decide (jP b s)||(decide (s.s.atom=b.atoms.length)&&(!s.s.free&&decide (s.bw=[])))):=by
  rw[Bool.eq_iff_iff];simp[hX]
 rw[hD];clear hX hD;generalize decide (jP b s)=M at*;obtain⟨⟨a,d,fr⟩,P⟩:=s;simp only at hp hmc|-;have hlp:=cQ P;have hP:((P.length:Int)=0)=(P=[]):=by
  apply propext;constructor
  .intro h;exact pV (by omega)
  .rintro rfl;rfl
 refine mS 5 ?_;simp only[go_sem,seval,c17,oW,bl];refine ar hs λi2 Z2 s2 a2 f2 _ hs=>?_;simp only[go_sem,seval];refine ar hs λi3 Z3 s3 a3 f3 _ hs=>?_;obtain⟨n23,a2⟩:=VB a2 f3 s3;simp only[go_sem,seval,a2,a3];refine pR rfl (hmc _) ?_;cases M
 .apply sR;simp only[go_sem,seval];exact ak.pure hs rfl
 by_cases h1:a=b.atoms.length
 .have u1:(a=b.atoms.length)=True:=L' h1;rw[WJ h1];cases fr
  .by_cases h2:P=[]
   .have u2:((P.length:Int)=0)=True:=by rw[hP];exact L' h2
    rw[WJ h2];apply sR;simp only[go_sem,seval,a2,a3,XD,hlp,u1,u2];exact ak.pure hs rfl
   .have u2:((P.length:Int)=0)=False:=by rw[hP];exact H' h2
    rw[WW h2];apply sR;simp only[go_sem,seval,a2,a3,XD,hlp,u1,u2];exact ak.pure hs rfl
  .apply sR;simp only[go_sem,seval,a2,a3,XD,u1];exact ak.pure hs rfl
 .have u1:(a=b.atoms.length)=False:=H' h1;rw[WW h1];apply sR;simp only[go_sem,seval,a2,a3,XD,u1];exact ak.pure hs rfl
open Go.Proofs
def CQ(l:List O')(high:Int)(hl:l.length<=1000000)(hr:∀f∈l,VO .i64 (f.y+high))(U:ad):au prog 65 [aC l,vI high] U λr Z'=>aa U Z'/\ay U Z' 123 7 r ((l.map (db high)).map aP):=by
 refine e65.q ?_;have hs:=aa.refl U;have hn:=cQ l;refine mS 7 ?_;simp only[go_sem,seval,c65];refine ai.loop (λm st=>∃i:Nat,i<=l.length/\m=l.length-i/\aa U st.U/\ay U st.U 123 7 (st.s 5) (((l.take i).map (db high)).map aP)/\st.s 0=aC l/\st.s 1=vI high/\st.s 6=vI i) l.length ?_ ?_
 .exact⟨0,by omega,rfl,hs,ay.start,rfl,rfl,rfl⟩
 .clear hs;rintro m ⟨S,J⟩ ⟨i,hi,rfl,hs,VQ,k0,k1,k6⟩;simp only at hs VQ k0 k1 k6;generalize hv5:S 5=v5 at VQ;refine ai.mix 7 ?_;by_cases B':i<l.length
  .have q:=qT B';have WG:=λU=>ed (U:=U) B';have eY:=hr _ (Ws B');have Xc:(((l.take i).map (db high)).map aP).length=i:=by simp;omega
   have V1:(i+1)*57<=140737488355328:=by omega
   have V9:((l.take (i+1)).map (db high)).map aP=((l.take i).map (db high)).map aP++[aP (db high l[i])]:=by
    rw[XH B'];simp only[dG,fF,List.map_nil]
   generalize l[i]=f at*;apply sR;simp only[go_sem,seval,k0,k1,k6,hv5,q,hn,WG,aG,eY];refine bB λi42 Z42 s42 a42 f42=>?_;obtain⟨idA,Wi,VL⟩:=VQ.dst s42;simp only[go_sem,seval,Wi,bJ a42,Xc,V1];refine eQ λi43 Z43 s43 a43 f43=>?_;have k43:=(VL U (aa.refl U) Z42 (hs.trans s42)).trans s43;have n43:U i43=none:=(hs.trans s42).none f43;simp only[go_sem,seval,k0,k1,k6];refine⟨ae,_,by omega,i+1,by omega,rfl,k43,?_,by simp⟩;rw[V9];exact ay.new (by simp;omega) a43 n43
  .have q:=qF B';obtain rfl:i=l.length:=by omega
   apply sR;simp only[go_sem,seval,k0,k6,hv5,q,hn];rw[eF]at VQ;exact WZ ⟨hs,VQ⟩
def Hn(b:Bk)(hb:jF b):aL prog 61 [bu b] (.VG [ew ⟨0,2,[],[],(b.VH.takeWhile (jc b.h)).map (db 0)⟩,bl ⟨⟨0,0,false⟩,b.VH.dropWhile (jc b.h)⟩]):=λU=>by
 refine e61.q ?_;have hs:=aa.refl U;have hlf:=cQ b.VH;have YG:=hb.ZH;have ZI:=hb.flo;have hfl0:=λ(l:List O') hl hr=>rS l 0 hl hr;refine mS 6 ?_;simp only[go_sem,seval,c61,oW];refine ar hs λi1 Z1 s1 a1 f1 _ hs=>?_;simp only[go_sem,seval];refine ar hs λi2 Z2 s2 a2 f2 z2 hs=>?_;replace a1:=s2 _ _ a1;simp only[go_sem,seval];refine ar hs λi3 Z3 s3 a3 f3 z3 hs=>?_;obtain⟨n13,a1⟩:=VB a1 f3 s3;obtain⟨n23,a2⟩:=VB a2 f3 s3;simp only[go_sem,seval,a1];refine ai.gy (λst=>∃j:Nat,j<=b.VH.length/\b.VH.takeWhile (jc b.h)=b.VH.take j/\b.VH.dropWhile (jc b.h)=b.VH.drop j/\st.U=Z3/\st.s 1=.ptr i1 0 0/\st.s 2=.ptr i2 0 0/\st.s 3=.ptr i3 0 0/\st.s 4=aC b.VH/\st.s 5=vI j)
  (λm st=>∃j:Nat,j<=b.VH.length/\m=b.VH.length-j/\(∀x∈b.VH.take j,jc b.h x=true)/\st.U=Z3/\st.s 1=.ptr i1 0 0/\st.s 2=.ptr i2 0 0/\st.s 3=.ptr i3 0 0/\st.s 4=aC b.VH/\st.s 5=vI j) b.VH.length ?_ ?_ ?_
 .exact⟨0,by omega,rfl,by simp,rfl,rfl,rfl,rfl,rfl,rfl⟩
 .rintro m ⟨S,J⟩ ⟨j,hj,rfl,hz,V7,k1,k2,k3,k4,k5⟩;simp only at V7 k1 k2 k3 k4 k5;subst V7;refine ai.mix 6 ?_;by_cases B':j<b.VH.length
  .have q:=qT B';have WG:=λU=>ed (U:=U) B';have V9:b.VH.take (j+1)=b.VH.take j++[b.VH[j]]:=XH B';have YU:b.VH[j]?=some b.VH[j]:=by simp[B']
   obtain⟨o0,⟨o1,o2⟩,o3,⟨o4,o5⟩⟩:=ZI _ (Ws B');generalize b.VH[j]=f at*;have r1:=rI j;have r2:VO .i64 (f.y+f.h):=ae;by_cases hle:f.y+f.h<=b.h
   .have q2:(f.y+f.h<=b.h)=True:=L' hle;apply sR;simp only[go_sem,seval,k1,k2,k3,k4,k5,a1,hlf,q,WG,aG,r1,r2,q2];refine⟨_,by omega,j+1,by omega,rfl,λx hx=>?_,by simp[vI]⟩;rw[V9]at hx;rcases ec.1 hx with hx|hx
    .exact hz x hx
    .rw[jO.1 hx];exact WJ hle
   .have q2:(f.y+f.h<=b.h)=False:=H' hle;apply sR;simp only[go_sem,seval,k1,k2,k3,k4,k5,a1,hlf,q,WG,aG,r2,q2];obtain⟨e1,e2⟩:=qi (p:=jc b.h) hz (λx hx=>by rw[YU]at hx;cases hx;exact WW hle) hj;exact⟨j,hj,e1,e2,rfl⟩
  .have q:=qF B';apply sR;simp only[go_sem,seval,k1,k2,k3,k4,k5,hlf,q];obtain⟨e1,e2⟩:=qi (p:=jc b.h) hz (λx hx=>by rw[wW (by omega)]at hx;cases hx) hj;exact⟨j,hj,e1,e2,rfl⟩
 .rintro⟨S,J⟩ ⟨j,hj,e1,e2,V7,k1,k2,k3,k4,k5⟩;simp only at V7 k1 k2 k3 k4 k5;subst V7;refine ai.mix 6 ?_;rw[e1,e2];have hsl1:=λU=>tF (U:=U) hj;have hsl2:=λU=>jS (U:=U) hj;have Zi:=hfl0 (b.VH.take j) (by rw[jN];omega) (λf hf=>by
   obtain⟨_,⟨o1,o2⟩,_⟩:=ZI f (rQ hf);exact ae)
  have hsrc:∀U,bM U 7 (aC (b.VH.drop j))=some ((b.VH.drop j).map aG):=λU=>by simp[aC,bM]
  have Xc:((b.VH.drop j).map aG).length=b.VH.length-j:=by simp
  have V1:(b.VH.length-j)*57<=140737488355328:=by omega
  apply sR;simp only[BB,seval,br,eL,aJ,Xu.nothing,k4,k5,hsl1];refine pJ rfl Zi ?_;generalize hFF:bQ ((b.VH.take j).map (db 0))=FF;have hFc:FF.cells=[FF]:=by rw[<-hFF];rfl
  have hFs:FF.stays=true:=by rw[<-hFF];rfl
  apply sG;simp only[go_sem,seval,hFc,hFs];refine bB λi36 Z36 s36 a36 f36=>?_;simp only[BB,seval,br,eL,aJ,Xl,k4,k5,hsl2,wj a36,hsrc,Xc,V1];refine eQ λi40 Z40 s40 a40 f40=>?_;have s4:aa J Z40:=(s36.oN f36).trans s40;have n40:U i40=none:=(hs.trans s36).none f40;have c2:=s4 _ _ a2;have c3:=s4 _ _ a3;have hs40:=hs.trans s4;have hn40:ay U Z40 100 7 (.own i40 0 (b.VH.length-j)) ((b.VH.drop j).map aG):=ay.new (by simp) a40 n40;simp only[go_sem,seval,k2,k3,c2,c3,ab n23.symm,ab n23,cz];have hn1:=(hn40.bT (o:=⟨58,5,[.agg [vI 0,vI 2,.aO,.aO,FF]]⟩) c2 (by simp))
  have hn2:=(hn1.bT (i:=i3) (o:=⟨27,4,[.agg [vI 0,vI 0,.bool false,.own i40 0 (b.VH.length-j)]]⟩) ((ab n23.symm).trans c3) (by simp))
  have VP:=(hs40.az (o:=⟨58,5,[.agg [vI 0,vI 2,.aO,.aO,FF]]⟩) z2).az (o:=⟨27,4,[.agg [vI 0,vI 0,.bool false,.own i40 0 (b.VH.length-j)]]⟩) z3;subst hFF;exact⟨_,U,VP,Wk.VG (vs':=[ew ⟨0,2,[],[],(b.VH.take j).map (db 0)⟩,bl ⟨⟨0,0,false⟩,b.VH.drop j⟩]) ⟨Wk.agg (vs':=[vI 0,vI 2,bQ [],bQ [],bQ ((b.VH.take j).map (db 0))]) ⟨Wk.refl VP _,Wk.refl VP _,Wk.aO 7,Wk.aO 7,Wk.refl VP _,trivial⟩,Wk.agg (vs':=[vI 0,vI 0,.bool false,aC (b.VH.drop j)]) ⟨Wk.refl VP _,Wk.refl VP _,Wk.refl VP _,hn2.wk (aa.refl U) VP,trivial⟩,trivial⟩,rfl,rfl⟩
open Go.Proofs
def pF{b:Bk}{s:W7}{to kept shift body:Int}:(dS b.atoms b.VH s to kept shift body).1.length<=b.VH.length:=by
 unfold dS;split
 .have h1:=n7 (uk b.atoms s kept) shift body (cW b.VH s to);have h2:(cW b.VH s to).length<=b.VH.length:=kG _ _ _;omega
 .simp
def vJ{b:Bk}(hb:BkOk b){s:XY}(h:jP b s):s.bw.length<=1000000:=by
 have h1:=(AQ _ 0 h.1).length_le;rw[CB]at h1;have:=hb.ZH;omega
def IX{b:Bk}(hb:jF b){s:XY}(he:¬ic b s):(dK b s).1.hs.length<=1000000/\(dK b s).1.fs.length<=1000000/\(dK b s).1.ls.length<=2000000:=by
 have Xz:jP b s:=Decidable.byContradiction λh=>he (.inl h);have XG:0<=s.s.atom:=by rcases Xz.2 with h|h;exact h.1.1;omega
 have hg:=yC hb he;have Yy:=vJ hb.toBkOk Xz;have YG:=hb.ZH;have YX:=hb.len;have XZ:=qx hb.toBkFull s.s;have hr1:=kD hb.toBkFull s.s XG;have hpf:∀f∈s.bw,0<=f.h:=λf hf=>hb.fh f (kE _ _ Xz.1 f hf);have htl:=(oD (body:=(bj b s.s).body) s.bw 0 (Int.le_refl _) (by omega) hpf).1;refine⟨?_,?_,?_⟩
 .have h1:((YJ b.nodes b.w (bj b s.s).VU).1).length<=1000000:=by rw[yV];exact XZ.len
  unfold dK;split
  .exact h1
  .split
   .exact h1
   .show(gq b (fj b s)).hs.length<=_;rw[(sT b (fj b s)).1];exact h1
 .rcases hg.kd with k|k
  .obtain⟨hm,h1,-,hc⟩:=hg.cut k;have ha:=hm.1;cases hc with
   |more q1 q2 q3 q4 q5=>omega
   |whole c r y q1 q2 q3 q4 q5 q6 q7 q8 q9=>omega
  .rw[hg.no' k];simp
 .have h0:(fj b s).ls.length<=1000000:=by
   show([]++(cC (bj b s.s).body s.bw 0).1.map (db (bj b s.s).high)).length<=_;rw[iC,cO];omega
  unfold dK;split
  .show([]++(b.VH.takeWhile (jc _)).map (db _)).length<=_;rw[iC,cO];have:=(List.takeWhile_sublist (l:=b.VH) (jc (cq b s.s .aO).body)).length_le;omega
  .split
   .exact j2 h0 (by omega)
   .show(gq b (fj b s)).ls.length<=_;unfold gq;split
    .show((fj b s).ls++((dS b.atoms b.VH _ _ _ _ _).1).map _).length<=_;rw[jm,cO];have:=pF (b:=b) (s:=({ fj b s with kind:=1 }:Wx).s) (to:=((zn b (fj b s)).toNat:Int)) (kept:=eW b (fj b s)) (shift:=({ fj b s with kind:=1 }:Wx).shift) (body:=({ fj b s with kind:=1 }:Wx).body);exact j2 (Nat.add_le_add h0 (j2 pF YG)) (by omega)
    .show((fj b s).ls++((dS b.atoms b.VH _ _ _ _ _).1).map _).length<=_;rw[jm,cO];exact j2 (Nat.add_le_add h0 (j2 pF YG)) (by omega)
open Go.Proofs
def ay.Al{K U:ad}{e sz i:Nat}{v:V}{rows:List V}{o:Ob}(h:ay K U e sz v rows)(h1:∀n,v≠.own i 0 n):ay K (C' U i o) e sz v rows:=by
 rcases h with h|⟨a,rfl,ho,hk⟩
 .exact .inl h
 .exact .inr ⟨a,rfl,by rw[Vc.ab (λe=>h1 _ (by rw[e]))];exact ho,hk⟩
def ay.ru{K U:ad}{e sz i:Nat}{v:V}{rows:List V}(h:ay K U e sz v rows)(hi:U i=none):∀n,v≠.own i 0 n:=λn hv=>by
 subst hv;rcases h with⟨h,_⟩|⟨id,h,g2,_⟩
 .cases h
 .cases h;rw[hi]at g2;cases g2
def D7(l:List XR):∀U,bM U 7 (bQ l)=some (l.map aP):=λU=>by simp[bQ,bM]
def CK{b:Bk}(hb:BkOk b)(s:W7)(VZ:Int):-1152921504606846976<=gZ b.atoms s VZ/\gZ b.atoms s VZ<=1152921504606846976:=by
 unfold gZ lj;split
 .split
  .rename_i h;have h1:=pg hb (s.atom-1);obtain⟨n,hn⟩:∃n:Nat,s.atom=n:=⟨s.atom.toNat,by omega⟩
   have Xe:n<b.atoms.length:=by omega
   have:=hb.tight _ (Ws Xe);rw[hn]at h1|-;rw[bp Xe];omega
  .omega
 .omega
def KS(b:Bk)(hb:BkQ b)(hg:jF b)(s:XY)(hm:jP b s):aL prog 21 [bu b,bl s] (.VG [ew (Bh b s).1,bl (Bh b s).2]):=λU=>by
 refine e21.q ?_;have hs:=aa.refl U;have h2:=hb.len;have Yy:=vJ hb.toBkOk hm;have XD:=gj b.atoms;have hph:∀f∈s.bw,0<=f.h:=λf hf=>hg.fh f (kE _ _ hm.1 f hf);have XG:0<=s.s.atom:=by rcases hm.2 with h|h;exact h.1.1;omega
 have hdn:0<=s.s.done/\s.s.done<=18014398509481984:=by
  rcases hm.2 with h|h
  .exact rK hb.toBkOk h
  .omega
 have XZ:=qx hb.toBkFull s.s;have hr1:=kD hb.toBkFull s.s XG;have hrc:=Kq b hb s.s XG;have hhc:=Hk b hb (bj b s.s) XZ;have hac:=Hn b hg;have hlc:=Ki b.atoms hb.V3 s.s (by omega);have hmF:=hm.2;rw[oW]at hrc hhc hac;unfold Bh;obtain⟨⟨a,d,fr⟩,P⟩:=s;simp only at Yy hph XG hdn XZ hr1 hrc hhc hlc hmF|-;generalize bj b ⟨a,d,fr⟩=R at*;obtain⟨H,hi,bo⟩:=R;have hhi:=XZ.high;have hbo:=XZ.body;simp only at hr1 hhi hbo hhc|-;have htc:=Kv P Yy bo hr1 hbo.2 hph;obtain⟨g1,g2,g3,g4⟩:=oD (body:=bo) P 0 (Int.le_refl _) (by omega) hph;generalize cC bo P 0=T at*;obtain⟨put,left,sh⟩:=T;simp only at htc g1 g2 g3 g4|-;have Zi:=λU=>CQ put hi (by omega) (λf hf=>by obtain⟨h1,h2⟩:=g2 f hf;exact ae) U;have hlP:=cQ left;generalize hHH:(YJ b.nodes b.w H).1=HH at*;have hpc:∀p:Pag,(ew p).cells=[vI p.no,vI p.kind,bQ p.hs,bQ p.fs,bQ p.ls]:=λ_=>rfl;have hpp:∀p:Pag,(ew p).stays=true:=λ_=>rfl;have XF:∀x:XY,(bl x).cells=[vI x.s.atom,vI x.s.done,.bool x.s.free,aC x.bw]:=λ_=>rfl;have hss:∀x:XY,(bl x).stays=true:=λ_=>rfl;have hcz:=F1;have Xr:=Fw;have fin:∀(Z1:ad) (kind:Int) (vf vl:V) (F L:List XR) (x y:Int) (z:Bool) (Q:List O'),aa U Z1->ay U Z1 123 7 vf (F.map aP)->ay U Z1 123 7 vl (L.map aP)->
  ak (.VG [.agg [vI 0,vI kind,bQ HH,vf,vl],.agg [vI x,vI y,.bool z,aC Q]]) Z1 λr Z'=>r=.VG [ew ⟨0,kind,HH,F,L⟩,bl ⟨⟨x,y,z⟩,Q⟩]/\Z'=U:=by
  intro Z1 kind vf vl F L x y z Q VP hF hL;exact⟨_,U,VP,Wk.VG (vs':=[ew ⟨0,kind,HH,F,L⟩,bl ⟨⟨x,y,z⟩,Q⟩]) ⟨Wk.agg (vs':=[vI 0,vI kind,bQ HH,bQ F,bQ L]) ⟨Wk.refl VP _,Wk.refl VP _,Wk.refl VP _,hF.wk (aa.refl U) VP,hL.wk (aa.refl U) VP,trivial⟩,Wk.refl VP _,trivial⟩,rfl,rfl⟩
 refine ai.mix 23 ?_;have hes:bl ⟨⟨a,d,fr⟩,P⟩=.agg [vI a,vI d,.bool fr,aC P]:=rfl;have hee:aZ ⟨a,d,fr⟩=.agg [vI a,vI d,.bool fr]:=rfl;apply sR;simp only[go_sem,seval,c21,oW,hes];refine ar hs λi2 Z2 s2 a2 f2 _ hs=>?_;simp only[go_sem,seval];refine ar hs λi3 Z3 s3 a3 f3 _ hs=>?_;obtain⟨n23,a2⟩:=VB a2 f3 s3;simp only[go_sem,seval];refine ar hs λi4 Z4 s4 a4 f4 z4 hs=>?_;obtain⟨n24,a2⟩:=VB a2 f4 s4;obtain⟨n34,a3⟩:=VB a3 f4 s4;simp only[go_sem,seval];refine ar hs λi5 Z5 s5 a5 f5 z5 hs=>?_;obtain⟨n25,a2⟩:=VB a2 f5 s5;obtain⟨n35,a3⟩:=VB a3 f5 s5;obtain⟨XQ,a4⟩:=VB a4 f5 s5;by_cases h1:b.atoms=[]/\fr=true
 .rw[av h1];obtain⟨h1,rfl⟩:=h1;have q:((b.atoms.length:Int)=0)=True:=L' (by rw[h1];rfl);simp only[go_sem,seval,a2,a3,XD,q];refine pR rfl (hac _) ?_;generalize (⟨0,2,[],[],(b.VH.takeWhile (jc b.h)).map (db 0)⟩:Pag)=p;generalize (⟨⟨0,0,false⟩,b.VH.dropWhile (jc b.h)⟩:XY)=t;apply sR;simp only[go_sem,seval,a4,a5,hpc,hpp,XF,hss,ab XQ,ab XQ.symm,cz];exact ak.pure ((hs.az z4).az z5) rfl
 rw[aD h1];have q1:((b.atoms.length:Int)=0)=False\/((b.atoms.length:Int)=0)=True/\fr=false:=by
  by_cases h:b.atoms=[]
  .exact .inr ⟨L' (by rw[h];rfl),by cases fr;rfl;exact absurd ⟨h,rfl⟩ h1⟩
  .have:=ud.2 h;exact .inl (H')
 rcases q1 with q1|⟨q1,rfl⟩
 case inr=>
  have ha:a=b.atoms.length:=by
   rcases hmF with h|h
   .have:=h.1;simp only at this;have q:(b.atoms.length:Int)=0:=of_eq_true q1;omega
   .exact h.1
  simp only[go_sem,seval,a2,a3,XD,q1];refine pS rfl (hrc _) ?_;simp only[go_sem,seval,j7];refine ar hs λi7 Z7 s7 a7 f7 z7 hs=>?_;obtain⟨n27,a2⟩:=VB a2 f7 s7;obtain⟨n37,a3⟩:=VB a3 f7 s7;obtain⟨n47,a4⟩:=VB a4 f7 s7;obtain⟨n57,a5⟩:=VB a5 f7 s7;simp only[go_sem,seval,a7];generalize Xb:C' _ i7 _=Y7;replace a7:=WC Xb;replace a2:=VN Xb n27 a2;replace a3:=VN Xb n37 a3;replace a4:=VN Xb n47 a4;replace a5:=VN Xb n57 a5;replace hs:=WD Xb hs z7;simp only[go_sem,seval,a7,a2];refine pS rfl (hhc _) ?_;simp only[go_sem,seval,hcz,Xr];refine ar hs λi8 Z8 s8 a8 f8 z8 hs=>?_;obtain⟨n28,a2⟩:=VB a2 f8 s8;obtain⟨n38,a3⟩:=VB a3 f8 s8;obtain⟨YQ,a4⟩:=VB a4 f8 s8;obtain⟨n58,a5⟩:=VB a5 f8 s8;obtain⟨YW,a7⟩:=VB a7 f8 s8;simp only[go_sem,seval,a8];generalize Xm:C' _ i8 _=Y8;replace a8:=WC Xm;replace a2:=VN Xm n28 a2;replace a3:=VN Xm n38 a3;replace a4:=VN Xm YQ a4;replace a5:=VN Xm n58 a5;replace a7:=VN Xm YW a7;replace hs:=WD Xm hs z8;simp only[go_sem,seval,a7,a3];refine pS rfl (htc _) ?_;simp only[go_sem,seval,a7];refine Xv rfl (Zi _) ?_;rintro vl Z9 ⟨s9,ZV⟩;replace ZV:=ZV.o9 hs;replace hs:=hs.trans s9;replace a2:=s9 _ _ a2;replace a3:=s9 _ _ a3;replace a4:=s9 _ _ a4;replace a5:=s9 _ _ a5;replace a7:=s9 _ _ a7;replace a8:=s9 _ _ a8;obtain⟨cvl,svl⟩:=ZV.vc;have r1:VO .i64 (bo-sh):=ae;generalize hFL:put.map (db hi)=FL at*;have hn45:=XQ.symm;have q2:(a=b.atoms.length)=True:=L' ha;rw[av ha];apply sR;simp only[go_sem,seval,a8,a7,a3,a4,a5,cvl,svl,r1,q2,XD,ab YW,ab n38,ab YQ,ab n58,ab XQ,ab hn45,cz,aX,aY];have v1:=ZV.bT (o:=⟨58,5,[.agg [vI 0,vI 2,bQ HH,.aO,vl]]⟩) a8 (by simp);have v2:=v1.bT (i:=i4) (o:=⟨58,5,[.agg [vI 0,vI 2,bQ HH,.aO,vl]]⟩) ((ab YQ).trans a4) (by simp);have v3:=v2.bT (i:=i5) (o:=⟨27,4,[.agg [vI b.atoms.length,vI 0,.bool false,aC left]]⟩) ((ab hn45).trans ((ab n58).trans a5)) (by simp);exact fin _ _ _ _ _ _ _ _ _ _ (((hs.az z8).az z4).az z5) ay.start v3
 case inl=>
  simp only[go_sem,seval,a2,a3,XD,q1];refine pS rfl (hrc _) ?_;simp only[go_sem,seval,j7];refine ar hs λi7 Z7 s7 a7 f7 z7 hs=>?_;obtain⟨n27,a2⟩:=VB a2 f7 s7;obtain⟨n37,a3⟩:=VB a3 f7 s7;obtain⟨n47,a4⟩:=VB a4 f7 s7;obtain⟨n57,a5⟩:=VB a5 f7 s7;simp only[go_sem,seval,a7];generalize Xb:C' _ i7 _=Y7;replace a7:=WC Xb;replace a2:=VN Xb n27 a2;replace a3:=VN Xb n37 a3;replace a4:=VN Xb n47 a4;replace a5:=VN Xb n57 a5;replace hs:=WD Xb hs z7;simp only[go_sem,seval,a7,a2];refine pS rfl (hhc _) ?_;simp only[go_sem,seval,hcz,Xr];refine ar hs λi8 Z8 s8 a8 f8 z8 hs=>?_;obtain⟨n28,a2⟩:=VB a2 f8 s8;obtain⟨n38,a3⟩:=VB a3 f8 s8;obtain⟨YQ,a4⟩:=VB a4 f8 s8;obtain⟨n58,a5⟩:=VB a5 f8 s8;obtain⟨YW,a7⟩:=VB a7 f8 s8;simp only[go_sem,seval,a8];generalize Xm:C' _ i8 _=Y8;replace a8:=WC Xm;replace a2:=VN Xm n28 a2;replace a3:=VN Xm n38 a3;replace a4:=VN Xm YQ a4;replace a5:=VN Xm n58 a5;replace a7:=VN Xm YW a7;replace hs:=WD Xm hs z8;simp only[go_sem,seval,a7,a3];refine pS rfl (htc _) ?_;simp only[go_sem,seval,a7];refine Xv rfl (Zi _) ?_;rintro vl Z9 ⟨s9,ZV⟩;replace ZV:=ZV.o9 hs;replace hs:=hs.trans s9;replace a2:=s9 _ _ a2;replace a3:=s9 _ _ a3;replace a4:=s9 _ _ a4;replace a5:=s9 _ _ a5;replace a7:=s9 _ _ a7;replace a8:=s9 _ _ a8;obtain⟨cvl,svl⟩:=ZV.vc;have r1:VO .i64 (bo-sh):=ae;generalize hFL:put.map (db hi)=FL at*;have hn45:=XQ.symm;by_cases ha:a=b.atoms.length
  .have ha':=ha;have q2:(a=b.atoms.length)=True:=L' ha;rw[av ha];apply sR;simp only[go_sem,seval,a8,a7,a3,a4,a5,cvl,svl,r1,q2,XD,ab YW,ab n38,ab YQ,ab n58,ab XQ,ab hn45,cz,aX,aY];have v1:=ZV.bT (o:=⟨58,5,[.agg [vI 0,vI 2,bQ HH,.aO,vl]]⟩) a8 (by simp);have v2:=v1.bT (i:=i4) (o:=⟨58,5,[.agg [vI 0,vI 2,bQ HH,.aO,vl]]⟩) ((ab YQ).trans a4) (by simp);have v3:=v2.bT (i:=i5) (o:=⟨27,4,[.agg [vI b.atoms.length,vI 0,.bool false,aC left]]⟩) ((ab hn45).trans ((ab n58).trans a5)) (by simp);exact fin _ _ _ _ _ _ _ _ _ _ (((hs.az z8).az z4).az z5) ay.start v3
  .have q2:(a=b.atoms.length)=False:=H' ha;rw[aD ha];have hfm:=hmF.resolve_right λh=>ha h.1;have hleft:(left≠[])↔(left.length:Int)>0:=by
    constructor
    .intro h;have:=ud.2 h;omega
    .intro h e;rw[e]at h;simp at h
   by_cases w1:(left.length:Int)>0
   .have q3:((left.length:Int)>0)=True:=L' w1;rw[av (.inl (hleft.2 w1))];apply sR;simp only[go_sem,seval,a8,a7,a3,cvl,svl,r1,q2,q3,XD,hlP,ab YW,ab n38,cp];generalize hqP:C' _ i8 _=ZP;have hvl_:ay U ZP 123 7 vl (FL.map aP):=by rw[<-hqP];exact ZV.bT a8 (by simp)
    replace a8:=WC hqP;replace a7:=VN hqP YW a7;replace a2:=VN hqP n28 a2;replace a3:=VN hqP n38 a3;replace a4:=VN hqP YQ a4;replace a5:=VN hqP n58 a5;replace hs:=WD hqP hs z8;have v45:∀o p,ay U (C' (C' ZP i4 o) i5 p) 123 7 vl (FL.map aP):=λo p=>(hvl_.bT a4 (by simp)).bT ((ab hn45).trans a5) (by simp);refine ai.ug (by kernel_rfl) 8 (.leaf [[],[],[1],[],[2,3,1],[0],[4,5,0,1,2,3]] [0,1,2,3,4,5,6]) (by kernel_rfl) ?_;refine GT.gH (its:=[0,2,4,6,8,10,5,12]) (by kernel_rfl) ?_;refine cd (n:=0) [5,12] [0,2,4,6,8,10] [_,_,_,_,_,_] rfl rfl ?_;simp only[go_sem,seval,a8,a3,a4,aX,aY];refine cT rfl (by simp only[go_sem,seval,a3,ab n34]) ?_;refine cd (n:=0) [] [12] [_] rfl rfl ?_;simp only[go_sem,seval,a5,ab hn45];apply sR;simp only[go_sem,seval,ab XQ,cz]
    first
     |exact fin _ _ _ _ _ _ _ _ _ _ ((hs.az z4).az z5) ay.start (v45 _ _)
     |exact fin _ _ _ _ _ _ _ _ _ _ ((hs.az z5).az z4) ay.start (v54 _ _)
   .have q3:((left.length:Int)>0)=False:=H' w1;have hle:left=[]:=pV (by omega);have hfa:0<=a/\a<b.atoms.length:=hfm.1;have hxa:∃n:Nat,a=n/\n<b.atoms.length:=⟨a.toNat,by omega,by omega⟩
    obtain⟨n,rfl,Xe⟩:=hxa;have hl1:1<=fO b.atoms ⟨n,d,fr⟩:=by
     have hh:=hg.pos _ (Ws Xe);have h3:=hfm.2.2;simp only at h3;rw[fO,av hfm];simp only;rw[bp Xe]at h3|-;omega
    by_cases w2:sh>0
    case' pos=>
     have q4:(sh>0)=True:=L' w2;by_cases w3:fO b.atoms ⟨n,d,fr⟩>bo-sh
     case' pos=>
      have q5:(fO b.atoms ⟨n,d,fr⟩>bo-sh)=True:=L' w3;rw[av (.inr ⟨w2,w3⟩)];apply sR;simp only[go_sem,seval,a8,a7,a3,cvl,svl,r1,q2,q3,q4,XD,hlP,ab YW,ab n38];refine pR rfl (hlc _) ?_;generalize fO b.atoms ⟨n,d,fr⟩=lft at*;apply sR;simp only[go_sem,seval,q5,cp];generalize hqP:C' _ i8 _=ZP;have hvl_:ay U ZP 123 7 vl (FL.map aP):=by rw[<-hqP];exact ZV.bT a8 (by simp)
      replace a8:=WC hqP;replace a7:=VN hqP YW a7;replace a2:=VN hqP n28 a2;replace a3:=VN hqP n38 a3;replace a4:=VN hqP YQ a4;replace a5:=VN hqP n58 a5;replace hs:=WD hqP hs z8;have v45:∀o p,ay U (C' (C' ZP i4 o) i5 p) 123 7 vl (FL.map aP):=λo p=>(hvl_.bT a4 (by simp)).bT ((ab hn45).trans a5) (by simp);refine ai.ug (by kernel_rfl) 8 (.leaf [[],[],[1],[],[2,3,1],[0],[4,5,0,1,2,3]] [0,1,2,3,4,5,6]) (by kernel_rfl) ?_;refine GT.gH (its:=[0,2,4,6,8,10,5,12]) (by kernel_rfl) ?_;refine cd (n:=0) [5,12] [0,2,4,6,8,10] [_,_,_,_,_,_] rfl rfl ?_;simp only[go_sem,seval,a8,a3,a4,aX,aY];refine cT rfl (by simp only[go_sem,seval,a3,ab n34]) ?_;refine cd (n:=0) [] [12] [_] rfl rfl ?_;simp only[go_sem,seval,a5,ab hn45];apply sR;simp only[go_sem,seval,ab XQ,cz]
      first
       |exact fin _ _ _ _ _ _ _ _ _ _ ((hs.az z4).az z5) ay.start (v45 _ _)
       |exact fin _ _ _ _ _ _ _ _ _ _ ((hs.az z5).az z4) ay.start (v54 _ _)
     case' neg=>
      have q5:(fO b.atoms ⟨n,d,fr⟩>bo-sh)=False:=H' w3;rw[aD (λh=>h.elim (λh=>h hle) λh=>w3 h.2)];have har:1<=bo-sh:=by omega
      apply sR;simp only[go_sem,seval,a8,a7,a3,cvl,svl,r1,q2,q3,q4,XD,hlP,ab YW,ab n38];refine pR rfl (hlc _) ?_;generalize fO b.atoms ⟨n,d,fr⟩=lft at*;apply sR;simp only[go_sem,seval,a3,q5,ab n38]
    case' neg=>
     have q4:(sh>0)=False:=H' w2;rw[aD (λh=>h.elim (λh=>h hle) λh=>w2 h.1)];have har:1<=bo-sh:=by omega
     apply sR;simp only[go_sem,seval,a8,a7,a3,cvl,svl,r1,q2,q3,q4,XD,hlP,ab YW,ab n38]
    all_goals
     generalize hqP:C' _ i8 _=ZP;have hvl_:ay U ZP 123 7 vl (FL.map aP):=by rw[<-hqP];exact ZV.bT a8 (by simp)
     replace a8:=WC hqP;replace a7:=VN hqP YW a7;replace a2:=VN hqP n28 a2;replace a3:=VN hqP n38 a3;replace a4:=VN hqP YQ a4;replace a5:=VN hqP n58 a5;replace hs:=WD hqP hs z8;have hkc:=K3 b.atoms hb.V3 ⟨n,d,fr⟩ (bo-sh);have hkr:=CK hb.toBkOk ⟨n,d,fr⟩ (bo-sh);generalize hKE:gZ b.atoms ⟨n,d,fr⟩ (bo-sh)=kp at*;have hrch:=Ik b.atoms hb.V3 hg.YF hg.pos ⟨n,d,fr⟩ hfm (by simp only;omega) kp sh bo hkr ⟨by omega,by omega⟩;have ZL:=n9 (l:=b.atoms) (s:=⟨n,d,fr⟩) (kept:=kp) (shift:=sh) (body:=bo);have hwc:=λ(k:Nat) h1 h2=>H7 b.atoms hb.V3 ⟨n,d,fr⟩ hfm (by simp only;omega) kp sh k hkr ⟨by omega,by omega⟩ h1 h2;have hwr:=λ(k:Int)=>vy hb.V3 (s:=⟨n,d,fr⟩) (by simp only;omega) (by simp only;omega) (kept:=kp) (shift:=sh) ⟨by omega,by omega⟩ ⟨by omega,by omega⟩ k;generalize iT b.atoms ⟨n,d,fr⟩ kp sh bo=ft at*;have WX:=hb.brk;have Xo:=NW b.V4 (by omega) hg.mayb (KK b.V4 (by omega) hg.mayb) n (by omega) ft;obtain⟨hcn,hcp⟩:=Bu (b:=b.V4) (i:=n) (fit:=ft) (by omega);generalize uW b.V4 n ft=C at*;rw[hee]at hkc hrch;refine pS rfl (hkc _) ?_;simp only[go_sem,seval,a7,a2,a3];refine pJ rfl hrch ?_;apply sG;simp only[go_sem,seval];refine pJ rfl Xo ?_;have hfcc:∀x:XR,(aP x).cells=[vI x.node,vI x.atom,vI x.fr,vI x.x,vI x.y,vI x.w,vI x.h]:=λ_=>rfl;have hfss:∀x:XR,(aP x).stays=true:=λ_=>rfl;have hscc:∀x:W7,(aZ x).cells=[vI x.atom,vI x.done,.bool x.free]:=λ_=>rfl;have hsss:∀x:W7,(aZ x).stays=true:=λ_=>rfl;by_cases hC:C<0
     .have q6:(C<0)=True:=L' hC;rw[av hC];have Zr:=Ls b.atoms hb.V3 ⟨n,d,fr⟩ hfm (by simp only;omega) (bo-sh) har;have hsy:=DK b.atoms ⟨n,d,fr⟩ (bo-sh);have hhr:=oI hb.toBkOk (s:=⟨n,d,fr⟩) (by simp only;omega) (to:=(n:Int)+1) (kept:=0) (shift:=0) (body:=bo) (by omega) (by omega);have hh2:=Ed b.atoms hb.V3 b.VH hb.ZH hb.flo ⟨n,d,fr⟩ hfm (by simp only;omega) ((n:Int)+1) 0 0 bo (by omega) (by omega);generalize j3 b.atoms ⟨n,d,fr⟩ (bo-sh)=W at*;generalize fG b.atoms ⟨n,d,fr⟩ (bo-sh)=NX at*;generalize dS b.atoms b.VH ⟨n,d,fr⟩ ((n:Int)+1) 0 0 bo=HR at*;obtain⟨YB,hp2⟩:=HR;simp only at hhr hh2|-;rw[hee]at Zr hh2;apply sG;simp only[go_sem,seval,a3,q6];refine pS rfl (Zr _) ?_;simp only[go_sem,seval];refine ar hs λi15 Z15 Yu WN f15 z15 hs=>?_;obtain⟨n215,a2⟩:=VB a2 f15 Yu;obtain⟨n315,a3⟩:=VB a3 f15 Yu;obtain⟨n415,a4⟩:=VB a4 f15 Yu;obtain⟨n515,a5⟩:=VB a5 f15 Yu;obtain⟨n715,a7⟩:=VB a7 f15 Yu;obtain⟨n815,a8⟩:=VB a8 f15 Yu;have hv15:=hvl_.mono Yu;have nn15:=hvl_.ru f15;simp only[go_sem,seval];refine ar hs λi16 Z16 s16 ZG f16 z16 hs=>?_;obtain⟨n216,a2⟩:=VB a2 f16 s16;obtain⟨n316,a3⟩:=VB a3 f16 s16;obtain⟨n416,a4⟩:=VB a4 f16 s16;obtain⟨n516,a5⟩:=VB a5 f16 s16;obtain⟨n716,a7⟩:=VB a7 f16 s16;obtain⟨n816,a8⟩:=VB a8 f16 s16;obtain⟨n1516,WN⟩:=VB WN f16 s16;have hv16:=hv15.mono s16;have r7:VO .i64 (W.y+hi):=ae;simp only[go_sem,seval,ZG,WN,a7,hfcc,hfss,hscc,hsss,r7,ab n715,ab n1516.symm,ab n1516,ab n716];generalize YZ:C' (C' (C' _ i15 _) i16 _) i15 _=ZX;have b15:ZX i15=some ⟨123,7,[aP (cU hi W)]⟩:=by rw[<-YZ];exact ag
      have b16:ZX i16=some ⟨24,3,[aZ NX]⟩:=by rw[<-YZ];exact(ab n1516.symm).trans ag
      replace a2:=((congrFun YZ i2).symm.trans ((ab n215).trans ((ab n216).trans (ab n215)))).trans a2;replace a3:=((congrFun YZ i3).symm.trans ((ab n315).trans ((ab n316).trans (ab n315)))).trans a3;replace a4:=((congrFun YZ i4).symm.trans ((ab n415).trans ((ab n416).trans (ab n415)))).trans a4;replace a5:=((congrFun YZ i5).symm.trans ((ab n515).trans ((ab n516).trans (ab n515)))).trans a5;replace a7:=((congrFun YZ i7).symm.trans ((ab n715).trans ((ab n716).trans (ab n715)))).trans a7;replace a8:=((congrFun YZ i8).symm.trans ((ab n815).trans ((ab n816).trans (ab n815)))).trans a8;have hvX:ay U ZX 123 7 vl (FL.map aP):=by rw[<-YZ];exact((hv16.Al nn15).Al (hv15.ru f16)).Al nn15
      replace hs:aa U ZX:=by rw[<-YZ];exact((hs.az z15).az z16).az z15
      clear YZ hv15 hv16 hvl_;rw[aP]at b15;refine aA λi33 Z33 s33 a33 f33=>?_;have n33:=hs.none f33;have hv33:=hvX.mono s33;have hap:bX (.own i33 0 1) vl:=bX.new hvX f33;have XN:ay U Z33 123 7 (.own i33 0 1) ([cU hi W].map aP):=ay.new rfl (by rw[a33];rfl) n33;replace hs:=hs.trans s33;replace a2:=s33 _ _ a2;replace a3:=s33 _ _ a3;replace a4:=s33 _ _ a4;replace a5:=s33 _ _ a5;replace a7:=s33 _ _ a7;replace a8:=s33 _ _ a8;replace b16:=s33 _ _ b16;simp only[go_sem,seval,a8];generalize hqY:C' Z33 i8 _=ZY;have hvY:ay U ZY 123 7 vl (FL.map aP):=by rw[<-hqY];exact hv33.bT a8 (by simp)
      have hfY:ay U ZY 123 7 (.own i33 0 1) ([cU hi W].map aP):=by rw[<-hqY];exact XN.bT a8 (by simp)
      replace b16:=((congrFun hqY _).symm.trans (ab n816.symm)).trans b16;replace a8:=WC hqY;replace a2:=VN hqY n28 a2;replace a3:=VN hqY n38 a3;replace a4:=VN hqY YQ a4;replace a5:=VN hqY n58 a5;replace a7:=VN hqY YW a7;replace hs:=WD hqY hs z8;clear hv33 XN hvX;have r8:=rI n;simp only[go_sem,seval,a7,a2,a3,r8];refine pR rfl (hh2 _) ?_;have hf2:=rS YB hi hhr.1 (λf hf=>by obtain⟨h1,h2⟩:=hhr.2 f hf;exact ae);apply sR;simp only[go_sem,seval,a8,a7];refine pJ rfl hf2 ?_;obtain⟨idA,Wi,hdv,WM,VL⟩:=hvY.pI (aa.refl ZY);have hFLl:(FL.map aP).length<=1000000:=by rw[<-hFL,cO,cO];omega
      have hml:((YB.map (db hi)).map aP).length=YB.length:=by simp
      have V1:((FL.map aP).length+YB.length)*57<=140737488355328:=by have:=hhr.1;omega
      have hb3:(FL.length+YB.length)*57<=140737488355328:=by rw[cO]at V1;exact V1
      have hml2:(FL.map aP).length=FL.length:=by simp
      apply sG;simp only[go_sem,seval,Wi,D7,hml,hml2,hb3];refine eQ λi57 Z57 s57 a57 f57=>?_;have hf57:=(hfY.CH (idA:=idA) λj hj n hv=>hap _ _ _ _ hv (hdv j hj) rfl).mono s57;have n57:=hs.none f57;have hl57:ay U Z57 123 7 (.own i57 0 (FL.length+YB.length)) ((FL++YB.map (db hi)).map aP):=ay.new (by simp) (by rw[a57,dG]) n57;replace b16:=s57 _ _ ((WM i16 (hvY.dE b16 (by simp)) _).trans b16);replace a2:=s57 _ _ ((WM i2 (hvY.dE a2 (by simp)) _).trans a2);replace a3:=s57 _ _ ((WM i3 (hvY.dE a3 (by simp)) _).trans a3);replace a4:=s57 _ _ ((WM i4 (hvY.dE a4 (by simp)) _).trans a4);replace a5:=s57 _ _ ((WM i5 (hvY.dE a5 (by simp)) _).trans a5);replace a7:=s57 _ _ ((WM i7 (hvY.dE a7 (by simp)) _).trans a7);replace a8:=s57 _ _ ((WM i8 (hvY.dE a8 (by simp)) _).trans a8);replace hs:=(VL U (aa.refl U) ZY hs).trans s57;simp only[go_sem,seval,a8,cp];generalize hqZ:C' Z57 i8 _=ZZ;have hfZ:ay U ZZ 123 7 (.own i33 0 1) ([cU hi W].map aP):=by rw[<-hqZ];exact hf57.bT a8 (by simp)
      have hlZ:ay U ZZ 123 7 (.own i57 0 (FL.length+YB.length)) ((FL++YB.map (db hi)).map aP):=by rw[<-hqZ];exact hl57.bT a8 (by simp)
      replace b16:=((congrFun hqZ _).symm.trans (ab n816.symm)).trans b16;replace a8:=WC hqZ;replace a2:=VN hqZ n28 a2;replace a3:=VN hqZ n38 a3;replace a4:=VN hqZ YQ a4;replace a5:=VN hqZ n58 a5;replace a7:=VN hqZ YW a7;replace hs:=WD hqZ hs z8;have b16':=b16;rw[aZ]at b16';have v45:∀o p,ay U (C' (C' ZZ i4 o) i5 p) 123 7 (.own i57 0 (FL.length+YB.length)) ((FL++YB.map (db hi)).map aP):=λo p=>(hlZ.bT a4 (by simp)).bT ((ab hn45).trans a5) (by simp);have w45:∀o p,ay U (C' (C' ZZ i4 o) i5 p) 123 7 (.own i33 0 1) ([cU hi W].map aP):=λo p=>(hfZ.bT a4 (by simp)).bT ((ab hn45).trans a5) (by simp);refine ai.ug (by kernel_rfl) 8 (.leaf [[],[],[],[1,2],[0],[3,4,0,1,2]] [0,1,2,3,4,5]) (by kernel_rfl) ?_;refine GT.gH (its:=[0,2,4,6,8,3,10]) (by kernel_rfl) ?_;refine cd (n:=0) [3,10] [0,2,4,6,8] [_,_,_,_,_] rfl rfl ?_;simp only[go_sem,seval,a8,a4,b16',aX,aY];refine cT rfl (by simp only[go_sem,seval,b16',ab n416.symm]) ?_;refine cd (n:=0) [] [10] [_] rfl rfl ?_;simp only[go_sem,seval,a5,ab hn45];apply sR;simp only[go_sem,seval,ab XQ,cz]
      first
       |exact fin _ _ _ _ _ _ _ _ _ _ ((hs.az z4).az z5) (w45 _ _) (v45 _ _)
       |exact fin _ _ _ _ _ _ _ _ _ _ ((hs.az z5).az z4) (w54 _ _) (v54 _ _)
     .have q6:(C<0)=False:=H' hC;rw[aD hC];have VE:eG b.V4 n ft:=Decidable.byContradiction λh=>hC (hcn.2 h);obtain⟨hce,-⟩:=hcp VE;obtain⟨c,hc1,hc2,Yz⟩:=re VE (by omega);rw[hc1]at hce;clear hcn hcp hc1 VE;subst hce;have hc2':n<c:=by omega
      have Xg:c<b.V4.length:=by omega
      have hhr:=oI hb.toBkOk (s:=⟨n,d,fr⟩) (by simp only;omega) (to:=c) (kept:=kp) (shift:=sh) (body:=bo) (by omega) (by omega);have hh2:=Ed b.atoms hb.V3 b.VH hb.ZH hb.flo ⟨n,d,fr⟩ hfm (by simp only;omega) c kp sh bo (by omega) (by omega);simp only[fp];generalize dS b.atoms b.VH ⟨n,d,fr⟩ c kp sh bo=HR at*;obtain⟨YB,hp2⟩:=HR;simp only at hhr hh2|-;have hbg:WR b.V4 c=b.V4[c]:=by simp[WR,Xg]
      have hixB:=λU=>rR (U:=U) Xg;rw[<-hbg]at hixB;generalize hbf:decide ((WR b.V4 c).forced≠0)=bf;have Wz:((WR b.V4 c).forced≠0)=(bf=true):=by rw[<-hbf,X7]
      generalize WR b.V4 c=bx at*;have hwr':=λk:Nat=>hwr ((n:Int)+k);have hwc':∀k:Nat,n<=k->k<b.atoms.length->aL prog 72 [bn b.atoms,aZ ⟨n,d,fr⟩,vI kp,vI sh,vI k] (aP (dU b.atoms ⟨n,d,fr⟩ kp sh ((n:Int)+((k-n:Nat):Int)))):=λk h1 h2=>by
       have:=hwc k (by simp only;omega) h2;rw[show(n:Int)+((k-n:Nat):Int)=k by omega];exact this
      clear hwc hwr;obtain⟨G,hG⟩:∃G:Nat->XR,G=λi:Nat=>cU hi (dU b.atoms ⟨n,d,fr⟩ kp sh ((n:Int)+(i:Nat))):=⟨_,rfl⟩
      have hGi:∀i:Nat,aP (G i)=aP (cU hi (dU b.atoms ⟨n,d,fr⟩ kp sh ((n:Int)+(i:Nat)))):=λi=>by rw[hG]
      rw[<-hG];clear hG;apply sG;simp only[go_sem,seval,a3,q6];refine ai.loop (λm st=>∃(k:Nat) (vf:V),n<=k/\k<=c/\m=c-k/\aa U st.U/\ay U st.U 123 7 vf (((List.range (k-n)).map G).map aP)/\ay U st.U 123 7 vl (FL.map aP)/\bX vf vl/\st.U i8=some ⟨58,5,[.agg [vI 0,vI 1,bQ HH,vf,vl]]⟩/\
       st.U i2=some ⟨40,7,[.agg [aF b.nodes,vI b.w,vI b.h,bn b.atoms,aC b.VH,vI b.VA,bG b.V4]]⟩/\st.U i3=some ⟨27,4,[.agg [vI n,vI d,.bool fr,aC P]]⟩/\st.U i4=some ⟨58,5,[.agg [vI 0,vI 0,.aO,.aO,.aO]]⟩/\st.U i5=some ⟨27,4,[.agg [vI 0,vI 0,.bool false,.aO]]⟩/\st.U i7=some ⟨107,3,[.agg [bb H,vI hi,vI bo]]⟩/\
       st.s 2=.ptr i2 0 0/\st.s 3=.ptr i3 0 0/\st.s 4=.ptr i4 0 0/\st.s 5=.ptr i5 0 0/\st.s 6=bn b.atoms/\st.s 7=.ptr i7 0 0/\st.s 8=.ptr i8 0 0/\st.s 11=vI sh/\st.s 13=vI kp/\st.s 14=vI c/\st.s 19=vI k) (c-n) ?_ ?_
      .exact⟨n,.aO,by omega,by omega,rfl,hs,by rw[Nat.sub_self];exact ay.start,hvl_,bX.aO _,a8,a2,a3,a4,a5,a7,rfl,rfl,rfl,rfl,rfl,rfl,rfl,rfl,rfl,rfl,rfl⟩
      .clear hs hvl_ a2 a3 a4 a5 a7 a8;rintro m ⟨S,J⟩ ⟨k,vf,hnk,hkc2,rfl,hs,XN,ZV,hap,a8,a2,a3,a4,a5,a7,k2,k3,k4,k5,k6,k7,k8,YM,k13,k14,k19⟩;simp only at hs XN ZV hap a8 a2 a3 a4 a5 a7 k2 k3 k4 k5 k6 k7 k8 YM k13 k14 k19;obtain⟨cvf,svf⟩:=XN.vc;refine ai.mix 23 ?_;by_cases YP:k<c
       .have u1:((k:Int)<c)=True:=L';have r9:=rI k;have hw1:=hwc' k hnk (by omega);have Zm:=hwr' (k-n);have hw3:=hGi (k-n);rw[hee]at hw1;have hrg:List.range (k+1-n)=List.range (k-n)++[k-n]:=by rw[show k+1-n=(k-n)+1 by omega,List.range_succ]
        generalize dU b.atoms ⟨n,d,fr⟩ kp sh ((n:Int)+((k-n:Nat):Int))=W at*;have r7:VO .i64 (W.y+hi):=ae;have hlF:(((List.range (k-n)).map G).map aP).length=k-n:=by simp
        have V1:(k-n+1)*57<=140737488355328:=by omega
        apply sR;simp only[go_sem,seval,k3,k6,YM,k13,k14,k19,a3,u1];refine pS rfl (hw1 _) ?_;simp only[go_sem,seval];refine ar hs λi20 Z20 s20 a20 f20 z20 hs=>?_;obtain⟨n220,a2⟩:=VB a2 f20 s20;obtain⟨n320,a3⟩:=VB a3 f20 s20;obtain⟨n420,a4⟩:=VB a4 f20 s20;obtain⟨n520,a5⟩:=VB a5 f20 s20;obtain⟨n720,a7⟩:=VB a7 f20 s20;obtain⟨n820,a8⟩:=VB a8 f20 s20;have hf20:=XN.mono s20;have hl20:=ZV.mono s20;have nf20:=XN.ru f20;have nl20:=ZV.ru f20;simp only[go_sem,seval,a20,k7,k8,a8,a7,hfcc,hfss,r7,ab n720,ab n820];generalize YZ:C' _ i20 _=ZX;have b20:ZX i20=some ⟨123,7,[aP (cU hi W)]⟩:=by rw[<-YZ];exact ag
        replace a2:=VN YZ n220 a2;replace a3:=VN YZ n320 a3;replace a4:=VN YZ n420 a4;replace a5:=VN YZ n520 a5;replace a7:=VN YZ n720 a7;replace a8:=VN YZ n820 a8;have hfX:ay U ZX 123 7 vf (((List.range (k-n)).map G).map aP):=by rw[<-YZ];exact hf20.Al nf20
        have hlX:ay U ZX 123 7 vl (FL.map aP):=by rw[<-YZ];exact hl20.Al nl20
        replace hs:aa U ZX:=by rw[<-YZ];exact hs.az z20
        clear YZ hf20 hl20;rw[aP]at b20;refine aA λi87 Z87 s87 a87 f87=>?_;obtain⟨idA,Wi,hdv,WM,VL⟩:=hfX.pI s87;simp only[go_sem,seval,Wi,bJ a87,hlF,V1];refine bt λi88 Z88 s88 a88 f88=>?_;have hl88:=((hlX.mono s87).CH (idA:=idA) λj hj n hv=>hap _ _ _ _ (hdv j hj) hv rfl).mono s88;have n88:=(hs.trans s87).none f88;have hap8:bX (.own i88 0 (k-n+1)) vl:=bX.new (hlX.mono s87) f88;have hf88:ay U Z88 123 7 (.own i88 0 (k-n+1)) (((List.range (k+1-n)).map G).map aP):=ay.new (by simp;omega) (by rw[a88,hrg,dG,dG,List.map_singleton,List.map_singleton,hw3];rfl) n88;replace a2:=s88 _ _ ((WM i2 (hfX.dE a2 (by simp)) _).trans (s87 _ _ a2));replace a3:=s88 _ _ ((WM i3 (hfX.dE a3 (by simp)) _).trans (s87 _ _ a3));replace a4:=s88 _ _ ((WM i4 (hfX.dE a4 (by simp)) _).trans (s87 _ _ a4));replace a5:=s88 _ _ ((WM i5 (hfX.dE a5 (by simp)) _).trans (s87 _ _ a5));replace a7:=s88 _ _ ((WM i7 (hfX.dE a7 (by simp)) _).trans (s87 _ _ a7));replace a8:=s88 _ _ ((WM i8 (hfX.dE a8 (by simp)) _).trans (s87 _ _ a8));replace hs:=(VL U (aa.refl U) Z87 (hs.trans s87)).trans s88;simp only[go_sem,seval,k2,k3,k4,k5,k6,k7,k8,YM,k13,k14,k19,a8,r9];refine⟨_,by omega,k+1,.own i88 0 (k-n+1),by omega,by omega,rfl,hs.az z8,hf88.bT a8 (by simp),hl88.bT a8 (by simp),hap8,rfl,(ab n28).trans a2,(ab n38).trans a3,(ab YQ).trans a4,(ab n58).trans a5,(ab YW).trans a7,by simp[vI]⟩
       .have u1:((k:Int)<c)=False:=H';obtain rfl:k=c:=by omega
        rw[hee]at hh2;generalize (List.range (k-n)).map G=FF at*;apply sR;simp only[go_sem,seval,k2,k3,k6,k7,YM,k13,k14,k19,a7,a2,a3,u1];refine pR rfl (hh2 _) ?_;have hf2:=rS YB hi hhr.1 (λf hf=>by obtain⟨h1,h2⟩:=hhr.2 f hf;exact ae);apply sR;simp only[go_sem,seval,k7,k8,a8,a7];refine pJ rfl hf2 ?_;obtain⟨idA,Wi,hdv,WM,VL⟩:=ZV.pI (aa.refl J);have hFLl:(FL.map aP).length<=1000000:=by rw[<-hFL,cO,cO];omega
        have hml:((YB.map (db hi)).map aP).length=YB.length:=by simp
        have V1:((FL.map aP).length+YB.length)*57<=140737488355328:=by have:=hhr.1;omega
        have hb3:(FL.length+YB.length)*57<=140737488355328:=by rw[cO]at V1;exact V1
        have hml2:(FL.map aP).length=FL.length:=by simp
        apply sG;simp only[go_sem,seval,Wi,D7,hml,hml2,hb3];refine eQ λi57 Z57 s57 a57 f57=>?_;have hf57:=(XN.CH (idA:=idA) λj hj n hv=>hap _ _ _ _ hv (hdv j hj) rfl).mono s57;have n57:=hs.none f57;have hl57:ay U Z57 123 7 (.own i57 0 (FL.length+YB.length)) ((FL++YB.map (db hi)).map aP):=ay.new (by simp) (by rw[a57,dG]) n57;replace a2:=s57 _ _ ((WM i2 (ZV.dE a2 (by simp)) _).trans a2);replace a3:=s57 _ _ ((WM i3 (ZV.dE a3 (by simp)) _).trans a3);replace a4:=s57 _ _ ((WM i4 (ZV.dE a4 (by simp)) _).trans a4);replace a5:=s57 _ _ ((WM i5 (ZV.dE a5 (by simp)) _).trans a5);replace a7:=s57 _ _ ((WM i7 (ZV.dE a7 (by simp)) _).trans a7);replace a8:=s57 _ _ ((WM i8 (ZV.dE a8 (by simp)) _).trans a8);replace hs:=(VL U (aa.refl U) J hs).trans s57;simp only[go_sem,seval,k8,a8,cp];generalize hqZ:C' Z57 i8 _=ZZ;have hfZ:ay U ZZ 123 7 vf (FF.map aP):=by rw[<-hqZ];exact hf57.bT a8 (by simp)
        have hlZ:ay U ZZ 123 7 (.own i57 0 (FL.length+YB.length)) ((FL++YB.map (db hi)).map aP):=by rw[<-hqZ];exact hl57.bT a8 (by simp)
        replace a8:=WC hqZ;replace a2:=VN hqZ n28 a2;replace a3:=VN hqZ n38 a3;replace a4:=VN hqZ YQ a4;replace a5:=VN hqZ n58 a5;replace a7:=VN hqZ YW a7;replace hs:=WD hqZ hs z8;have v45:∀o p,ay U (C' (C' ZZ i4 o) i5 p) 123 7 (.own i57 0 (FL.length+YB.length)) ((FL++YB.map (db hi)).map aP):=λo p=>(hlZ.bT a4 (by simp)).bT ((ab hn45).trans a5) (by simp);have w45:∀o p,ay U (C' (C' ZZ i4 o) i5 p) 123 7 vf (FF.map aP):=λo p=>(hfZ.bT a4 (by simp)).bT ((ab hn45).trans a5) (by simp);have hxb:bY bx=.agg [vI bx.cls,vI bx.forced,vI bx.V6]:=rfl;cases bf
        case' false=>
         have q10:(bx.forced≠0)=False:=by rw[Wz];simp
        case' true=>
         have q10:(bx.forced≠0)=True:=by rw[Wz];simp
        all_goals
         refine ai.ug (by kernel_rfl) 8 (.leaf [[],[],[],[2],[],[3,4,2],[5,3,4,2],[6,5,3,4,2],[7,6,5,3,4,2],[1,8,7,6,5,3,4,2],[],[9,10,1,8,7,6,5,3,4,2],[0],[11,12,0,1,2,3,4,5,6,7,8,9,10]] [0,1,2,3,4,5,6,7,8,9,10,11,12,13]) (by kernel_rfl) ?_;refine GT.gH (its:=[0,2,4,6,8,10,12,14,16,18,20,22,24,7,11,15,26]) (by kernel_rfl) ?_;refine cd (n:=0) [7,11,15,26] [0,2,4,6,8,10,12,14,16,18,20,22,24] [_,_,_,_,_,_,_,_,_,_,_,_,_] rfl rfl ?_;simp only[go_sem,seval,k2,k4,k8,k14,a8,a2,a4,hixB,hxb,q10,aX,aY];refine cT rfl (by simp only[go_sem,seval,a2,ab n24]) ?_;refine cT rfl (by simp only[go_sem,seval,hixB,hxb]) ?_;refine cT rfl (by simp only[go_sem,seval]) ?_;refine cd (n:=0) [] [26] [_] rfl rfl ?_;simp only[go_sem,seval,k5,a5,ab hn45];apply sR;simp only[go_sem,seval,k4,k5,ab XQ,cz]
         first
          |exact fin _ _ _ _ _ _ _ _ _ _ ((hs.az z4).az z5) (w45 _ _) (v45 _ _)
          |exact fin _ _ _ _ _ _ _ _ _ _ ((hs.az z5).az z4) (w54 _ _) (v54 _ _)
open Go.Proofs
def ay.ej{K U:ad}{e sz i:Nat}{v:V}{rows:List V}{p:Ob}(h:ay K U e sz v rows)(hi:U i=some p)(V2:p.elem≠e)(o:Ob):ay (Vc.C' K i o) U e sz v rows:=by
 rcases h with h|⟨a,rfl,ho,hk⟩
 .exact .inl h
 .refine .inr ⟨a,rfl,ho,?_⟩;rw[Vc.ab (λe'=>by subst e';rw[hi]at ho;cases ho;exact V2 rfl)];exact hk
def aa.ej{K U:ad}{i:Nat}{o:Ob}(h:aa K U)(hi:U i=some o):aa (Vc.C' K i o) U:=λj p hj=>by
 by_cases e:j=i
 .subst e;rw[Vc.ag]at hj;cases hj;exact hi
 .rw[Vc.ab e]at hj;exact h _ _ hj
def KQ(vf:V){K U:ad}(fs:List O')(XN:ay K U 100 7 vf (fs.map aG))(f:O')(y:Int)(s:Wq)(hl:fs.length<=1000000)(VE:∀f∈fs,f.ok)(hy:W1 y)(hh:Bq f.h)(hw:Bq f.w)(W9:W1 s.a/\W1 s.b):
 au prog 148 [vf,aG f,vI y,aV s] U λr Z'=>aa U Z'/\ay U Z' 100 7 r ((nt fs f y s).map aG):=by
 refine Vk.q ?_;have hs:=aa.refl U;refine mS 9 ?_;simp only[go_sem,seval,PH,aG,aV];refine ar hs λi5 Z5 s5 a5 f5 z5 hs=>?_;simp only[go_sem,seval];refine ar hs λi7 Z7 s7 a7 f7 _ hs=>?_;obtain⟨n57,a5⟩:=VB a5 f7 s7;simp only[go_sem,seval,a7,a5];have Ym:=XN.mono hs;refine pS rfl (aL.ue (args':=[aC fs,aG f,vI y,aV s]) ⟨Ym.yZ.at,YH _,YH _,YH _,trivial⟩ (LD fs f y s hl VE hy hh hw W9) rfl) ?_;simp only[go_sem,seval,a5];generalize Ys:C' Z7 i5 _=Y5;have b5:Y5 i5=some ⟨100,7,[aG (iZ fs f y s)]⟩:=by rw[<-Ys];exact ag
 have hs5:aa U Y5:=by rw[<-Ys];exact hs.az z5
 clear Ys;have Yy:aG (iZ fs f y s)=.agg [vI f.node,vI f.side,vI f.anchor,vI (l9 fs f y s),vI (j0 fs f y s),vI f.w,vI f.h]:=rfl;rw[Yy]at b5;have Xc:(fs.map aG).length=fs.length:=by simp
 have hb1:fs.length*57<=140737488355328:=by omega
 have V1:(fs.length+1)*57<=140737488355328:=by omega
 have hres:fs.map aG++[V.agg [vI f.node,vI f.side,vI f.anchor,vI (l9 fs f y s),vI (j0 fs f y s),vI f.w,vI f.h]]=(nt fs f y s).map aG:=by simp[nt,<-Yy]
 refine bB λi19 Y19 s19 ZC f19=>?_;have n519:=aU b5 f19;have b5':=s19 _ _ b5;have hd19:=wj ZC;have z19:=hs5.none f19;have hsrc:=XN.src (hs5.trans s19);simp only[go_sem,seval,hd19,hsrc,Xc,hb1,iC,List.length_nil,fU];refine eQ λi21 Z21 s21 a21 f21=>?_;have hs21:aa U Z21:=((hs5.trans s19).oN z19).trans s21;have b5'':=s21 _ _ ((cc n519).trans b5');have n21:U i21=none:=(hs5.trans s19).none f21;simp only[go_sem,seval,b5''];refine bB λi23 Z23 s23 a23 f23=>?_;obtain⟨idA,Wi,VL⟩:=(ay.new (K:=U) (n:=fs.length) (rows:=fs.map aG) (by simp) a21 n21).dst s23;simp only[go_sem,seval,Wi,bJ a23,Xc,V1,hres];refine eQ λi24 Z24 s24 a24 f24=>?_;have k24:=(VL U (aa.refl U) Z23 (hs21.trans s23)).trans s24;have n24:U i24=none:=(hs21.trans s23).none f24;simp only[go_sem,seval];exact WZ ⟨k24,ay.new (by simp[nt]) a24 n24⟩
def Iy(vf:V){U:ad}(fs:List O')(XN:wg U vf (aC fs))(ws:List Int)(space high:Int)(y:Int)(s:Wq)(hl:fs.length<=1000000)(VE:∀f∈fs,f.ok)(B:Int)(hB:∀f∈fs,f.y+f.h<=B)(hB1:B<=1152921504606846976)(hy0:0<=y)(hy:y<=B)(hh:0<=high)(hh1:high<=1099511627776)
 (W9:W1 s.a/\W1 s.b)(hw:WOk ws space):au prog 146 [vf,bb ws,vI space,vI high,vI y,aV s] U λr Z'=>aa U Z'/\ay U Z' 225 5 r ((da fs ws space high s ws.length 0 y).map ji):=by
 refine UE.q ?_;have hs:=aa.refl U;have hn:=dd ws;have Xs:=hw.len;refine mS 16 ?_;simp only[go_sem,seval,O6,aV];refine ar hs λi11 Z11 Zu X2 f11 _ hs=>?_;simp only[go_sem,seval];generalize hG:da fs ws space high s ws.length 0 y=G;refine ai.loop (λm st=>∃(i k:Nat) (y':Int) (acc:List Ln),m=ws.length-i/\i<=ws.length/\ws.length-i<=k/\acc.length<=i/\G=acc++da fs ws space high s k i y'/\0<=y'/\y'<=B+1099511627776*i/\aa U st.U/\ay U st.U 225 5 (st.s 13) (acc.map ji)/\
  st.U i11=some ⟨219,2,[.agg [vI s.a,vI s.b]]⟩/\st.s 0=vf/\st.s 1=bb ws/\st.s 2=vI space/\st.s 3=vI high/\st.s 4=vI y'/\st.s 11=.ptr i11 0 0/\st.s 14=vI i) ws.length ?_ ?_
 .exact⟨0,ws.length,y,[],rfl,by omega,by omega,by simp,hG.symm,hy0,by omega,hs,ay.start,X2,rfl,rfl,rfl,rfl,rfl,rfl,rfl⟩
 .rintro m ⟨S,J⟩ ⟨i,k,y',acc,rfl,hi,hk,YX,hg,hy1,hy2,G',VQ,b11,t0,t1,t2,t3,t4,t11,t14⟩;simp only at G' VQ b11 t0 t1 t2 t3 t4 t11 t14;generalize hv13:S 13=v13 at VQ;refine ai.mix 16 ?_;by_cases B':i<ws.length
  .have q:=qT B';obtain⟨k,rfl⟩:∃k',k=k'+1:=⟨k-1,by omega⟩
   rw[da,av B']at hg;have Zq:=tB (space:=space) (width:=fB (bZ fs (gQ fs (ws.getD i 0) high s y') high s)) B';have hyr:=fe (w:=ws.getD i 0) (high:=high) (y:=y') (s:=s) hB;have hx:=KX fs ws space high i y' s hl VE ⟨by omega,by omega⟩ ⟨by omega,by omega⟩ W9 hw B';obtain⟨x,hxe⟩:∃x,x=mi fs ws space high i y' s:=⟨_,rfl⟩
   have x1:∃j:Nat,x.to=j/\i<j/\j<=ws.length:=by rw[hxe];exact⟨_,rfl,Zq⟩
   have x2:y'<=x.y/\x.y<=max y' B:=by rw[hxe];exact hyr
   rw[<-hxe]at hg hx;clear hxe Zq hyr;obtain⟨j,hj,hij,Zv⟩:=x1;rw[hj,fp]at hg;apply sR;simp only[go_sem,seval,t0,t1,t2,t3,t4,t11,t14,b11,hn,q];refine pR rfl (aL.ue (args':=[aC fs,bb ws,vI space,vI high,vI i,vI y',aV s]) ⟨(XN.mono G').at,YH _,YH _,YH _,YH _,YH _,YH _,trivial⟩ hx rfl) ?_;have hc:=tS x;have VP:=tz x;have Xg:(ji x).cells.length=5:=rfl;have hag:V.agg [vI x.fr,vI x.to,vI x.x,vI x.y,vI x.w]=ji x:=rfl;apply sR;simp only[go_sem,seval];refine aA λi15 Z15 Yu WN f15=>?_;simp only[go_sem,seval,WN,hv13,hc,VP,hag];generalize XM:C' Z15 i15 _=Y15;have b15:Y15 i15=some ⟨225,5,[.agg [vI x.fr,vI x.to,vI x.x,vI x.y,vI x.w]]⟩:=by rw[<-XM];exact ag
   have s15':aa J Y15:=by rw[<-XM];exact Yu.az f15
   clear XM;refine aA λi30 Z30 s30 a30 f30=>?_;obtain⟨idA,Wi,VL,WM,ZO⟩:=VQ.mn (s15'.trans s30);have V1:(acc.length+1)*41<=140737488355328:=by omega
   have Xc:(acc.map ji).length=acc.length:=by simp
   simp only[go_sem,seval,Wi,bJ a30,Xc,V1];refine bt λi31 Z31 s31 a31 f31=>?_;have k31:=(VL U (aa.refl _) Z30 (G'.trans (s15'.trans s30))).trans s31;have n31:U i31=none:=(G'.trans (s15'.trans s30)).none f31;have c15:Z31 i15=some ⟨225,5,[.agg [vI x.fr,vI x.to,vI x.x,vI x.y,vI x.w]]⟩:=s31 _ _ (by rw[ZO i15 f15];exact s30 _ _ b15);have c11:Z31 i11=some ⟨219,2,[.agg [vI s.a,vI s.b]]⟩:=s31 _ _ (by rw[WM i11 _ b11 (.inr (by simp))];exact s30 _ _ (s15' _ _ b11));have r1:VO .i64 (x.y+high):=ae;simp only[go_sem,seval,t0,t1,t2,t3,t11,c15,hj,r1];refine⟨_,?_,j,k,x.y+high,acc++[x],rfl,Zv,by omega,by simp;omega,by rw[hg];simp,by omega,by omega,k31,?_,c11,by simp⟩
   .omega
   .rw[dG];exact ay.new (by simp) a31 n31
  .have q:=qF B';apply sR;simp only[go_sem,seval,t1,t14,hv13,hn,q];have:da fs ws space high s k i y'=[]:=by
    cases k with
    |zero=>rfl
    |succ k=>rw[da,aD B']
   rw[this,jt]at hg;refine WZ ⟨G',?_⟩;rw[hg];exact VQ
def yN{l:List Nd}{rs:List Rm}(hD:DOk l rs){s:WS}{C a:Nat}(h:gd s C)(ha:a<l.length)(W9:1<=VM l a)(Xr:a+(VM l a).toNat<=l.length)(h4:bS l (a+1) (a+(VM l a).toNat)=true):
 gd (qO l rs s a) (C+Wy l a (a+(VM l a).toNat)):=by
 have Wb:NOk (Wu l a):=by rw[jT ha];exact fw hD.isb ha
 have hc2:Wy l a (a+(VM l a).toNat)=4+(Wu l a).words.length+Wy l (a+1) (a+(VM l a).toNat):=nU (by omega) (by omega);unfold qO;rw[hc2];split
 .exact(kN (iN hD _ (a+1) (a+(VM l a).toNat) _ _ (Wa _) (by omega) (by omega) h4 (gg h Wb.st)) Wb.st).more (by omega)
 .split
  .exact(l7 h Wb a).more (by omega)
  .split
   .exact(mc h Wb a).more (by omega)
   .rename_i g1 g2 g3;exact(kJ hD h ha Wb (by have:=Wb.kind;omega)).more (by omega)
open Go.Proofs
def ay.C8{K U:ad}{e e' sz XP:Nat}{v u:V}{rows rows':List V}(h:ay K U e sz v rows)(h':ay K U e' XP u rows')(V2:e≠e'):bX v u:=by
 rintro a n b m rfl rfl rfl;rcases h with⟨h,_⟩|⟨i,h,h2,_⟩
 .cases h
 .rcases h' with⟨h',_⟩|⟨j,h',h2',_⟩
  .cases h'
  .cases h;cases h';rw[h2]at h2';cases h2';exact V2 rfl
def wc(a:Nat)(h:Int):∀(L:List Ln) (s:WS),(eX a h s L).u'=s.u'
 |[],_=>rfl
 |y::L,s=>by
  have:=wc a h L (s.put (fZ a h y));simpa[eX,WS.put]using this
def Vq(l:List Nd)(w:Int)(a C:Nat):Prop:=∀(s:WS) (va vf:V) (K U:ad),aa K U->ay K U 90 8 va (s.atoms.map bC)->ay K U 100 7 vf (s.u'.map aG)->gd s C->
 au prog 94 [.agg [va,vf,vI s.VA,vI s.VD.y,vI s.VD.m],aF l,vI a,vI w] U λr Z'=>∃va' vf',r=.agg [va',vf',vI (qO l (cI l w) s a).VA,vI (qO l (cI l w) s a).VD.y,vI (qO l (cI l w) s a).VD.m]/\
  aa K Z'/\ay K Z' 90 8 va' ((qO l (cI l w) s a).atoms.map bC)/\ay K Z' 100 7 vf' ((qO l (cI l w) s a).u'.map aG)
def NV(l:List Nd)(w:Int)(hb:Wg l=true)(hn:l.length<=2000)(hw1:1<=w)(Zm:w<=1099511627776)(hwl:∀n∈l,n.words.length<=10000):∀(m a C:Nat),l.length-a<m->a<l.length->1<=VM l a->a+(VM l a).toNat<=l.length->
 bS l (a+1) (a+(VM l a).toNat)=true->C+Wy l a (a+(VM l a).toNat)<=50000->Vq l w a C:=by
 intro m
 induction m with
 |zero=>intro a C h;omega
 |succ m ih=>?_
 intro a C hm ha W9 Xr h4 hC s va vf K U hK ZT XN hI;have hD:=rz hb hn hw1 Zm;obtain⟨ca,sa⟩:=ZT.vc;obtain⟨cf,sf⟩:=XN.vc;have hB:=hI.bd;have hm1:=hB.m1;have hm0:=hB.m0;have hy0:=hB.y0;have hyB:=hB.yB;have YG:=hI.fl;have YX:=hI.V3;have Wb:=fw hb ha;have VC:=im l ha;have WQ:=jT ha;have hszn:=iB ha;have hwn:=hwl _ (Ws ha);have hRc:=G1 l hb hn w hw1 Zm (a+1) a (by omega) ha;have hsp:=CT hb ha (w:=w);have hSp:=hD.span ha;have hrok:=AB hb hn hw1 Zm ha;rw[hsp]at hSp;generalize lD l w a=R at*;obtain⟨k1,k2,k3,k4⟩:=hrok;have r1:VO .i64 (R.x+R.w):=ae;have r2:VO .i64 (s.VD.y+s.VD.m):=ae;refine e94.q ?_;have hs:=aa.refl U;have Wc:qO l (cI l w) s a=if l[a].kind=1 then(dt l (cI l w) (a+(VM l a).toNat-(a+1)) (a+1) (a+(VM l a).toNat) (s.enter l[a].st)).leave l[a].st
  else if l[a].kind=2 then s.text (cI l w) a l[a]else if l[a].kind=3 then WS.mono l (cI l w) s a l[a]else s.float (cI l w) a l[a]:=by unfold qO;rw[WQ]
 generalize qO l (cI l w) s a=Z at*;generalize hx:l[a]=x at*;refine mS 22 ?_;simp only[go_sem,seval,c94];refine ar hs λi4 Z4 s4 a4 f4 z4 hs=>?_;simp only[go_sem,seval];refine ar hs λi8 Z8 s8 a8 f8 z8 hs=>?_;obtain⟨YQ,a4⟩:=VB a4 f8 s8;simp only[go_sem,seval,VC,Nd.cells];refine ar hs λi9 Z9 s9 a9 f9 z9 hs=>?_;obtain⟨n49,a4⟩:=VB a4 f9 s9;obtain⟨n89,a8⟩:=VB a8 f9 s9;simp only[go_sem,seval,a9];generalize Wz:C' _ i9 _=Y9;replace a9:=WC Wz;replace a4:=VN Wz n49 a4;replace a8:=VN Wz n89 a8;replace hs:=WD Wz hs z9;refine pS rfl (hRc _) ?_;simp only[go_sem,seval,j1];refine ar hs λi10 Z10 XV Wn f10 YK hs=>?_;obtain⟨n410,a4⟩:=VB a4 f10 XV;obtain⟨n810,a8⟩:=VB a8 f10 XV;obtain⟨n910,a9⟩:=VB a9 f10 XV;simp only[go_sem,seval,Wn,r1];generalize Ww:C' _ i10 _=Y10;replace Wn:=WC Ww;replace a4:=VN Ww n410 a4;replace a8:=VN Ww n810 a8;replace a9:=VN Ww n910 a9;replace hs:=WD Ww hs YK;refine ar hs λi11 Z11 Zu X2 f11 z11 hs=>?_;obtain⟨n411,a4⟩:=VB a4 f11 Zu;obtain⟨n811,a8⟩:=VB a8 f11 Zu;obtain⟨n911,a9⟩:=VB a9 f11 Zu;obtain⟨WV,Wn⟩:=VB Wn f11 Zu;simp only[go_sem,seval,X2];generalize WA:C' _ i11 _=Y11;replace X2:=WC WA;replace a4:=VN WA n411 a4;replace a8:=VN WA n811 a8;replace a9:=VN WA n911 a9;replace Wn:=VN WA WV Wn;replace hs:=WD WA hs z11;have hva1:=ZT.mono hs;have hvf1:=XN.mono hs;replace z4:=hK.none z4;replace z8:=hK.none z8;replace z9:=hK.none z9;replace YK:=hK.none YK;replace z11:=hK.none z11;replace hs:=hK.trans hs;clear ZT XN hK;rcases Wb.kind with hk|hk|hk|hk
 .rw[av hk]at Wc;simp only[go_sem,seval,a9,a4,r2,hk];have q3:((a:Int)+x.size)=((a+(VM l a).toNat:Nat):Int):=by rw[<-hszn];omega
  have q2:((a:Int)+1)=((a+1:Nat):Int):=by omega
  have VP:=Wb.st;have g1:=VP.top;have g2:=VP.VJ;have g3:=VP.V0;have g4:=VP.T';have hI1:=gg hI Wb.st;have hcst:Wy l a (a+(VM l a).toNat)=4+(Wu l a).words.length+Wy l (a+1) (a+(VM l a).toNat):=nU (by omega) (by omega);obtain⟨s1,YI⟩:∃z,z=s.enter x.st:=⟨_,rfl⟩
  rw[<-YI]at hI1 Wc;unfold WS.enter at YI;simp only at YI;have r5:=rI a;have r6:VO .i64 ((a+(VM l a).toNat:Nat):Int):=ae;refine pR rfl (aL.ue (args':=[aC s.u',vI x.st.clear]) ⟨hvf1.yZ.at,YH _,trivial⟩ (ER s.u' x.st.clear (by omega) (hB.flo (by omega))) rfl) ?_;cases hlow:(cH (fX x.st.clear) s.u').2
  .rw[hlow]at YI;simp only[gi,↓reduceIte]at YI;apply sR;simp only[go_sem,seval,a4,a9];obtain⟨p,hp⟩:∃p:Pn,p=s.VD:=⟨_,rfl⟩
   have Zp:s1={ s with VD:=dQ p x.st.top x.st.VJ }:=by rw[YI,hp]
   obtain⟨YB,hp2,hp3,hp4⟩:0<=p.y/\0<=p.m/\p.m<=1099511627776/\p.y+p.m<=1099511627776*(C:Int):=by rw[hp];exact⟨hy0,hm0,hm1,hyB⟩
   rw[<-hp]at a4|-;clear hp;generalize Y11=Y5 at*;have hva5:=hva1;have hvf5:=hvf1;clear hva1 hvf1;have hec:=B0 p x.st.top x.st.VJ ⟨by omega,by omega⟩ ⟨by omega,by omega⟩ ⟨by omega,by omega⟩ ⟨by omega,by omega⟩;rw[dC]at hec;refine pS rfl (hec _) ?_;simp only[go_sem,seval,a4,dC,r5];generalize hq6:C' Y5 i4 _=Y6;have hva6:ay K Y6 90 8 va (s1.atoms.map bC):=by rw[<-hq6,Zp];exact hva5.bT a4 (by simp)
   have hvf6:ay K Y6 100 7 vf (s1.u'.map aG):=by rw[<-hq6,Zp];exact hvf5.bT a4 (by simp)
   have b4:Y6 i4=some ⟨162,5,[.agg [va,vf,vI s1.VA,vI s1.VD.y,vI s1.VD.m]]⟩:=by rw[<-hq6,Zp];exact ag
   replace a8:=VN hq6 YQ.symm a8;replace a9:=VN hq6 n49.symm a9;replace hs:=WD hq6 hs z4;clear hq6 a4 hva5 hvf5;refine ai.loop (λq st=>∃(b:Nat) (s':WS) (va vf:V),q=a+(VM l a).toNat-b/\a+1<=b/\b<=a+(VM l a).toNat/\bS l b (a+(VM l a).toNat)=true/\
    dt l (cI l w) (a+(VM l a).toNat-(a+1)) (a+1) (a+(VM l a).toNat) s1=dt l (cI l w) (a+(VM l a).toNat-b) b (a+(VM l a).toNat) s'/\gd s' (C+2+Wy l (a+1) b)/\
    aa K st.U/\ay K st.U 90 8 va (s'.atoms.map bC)/\ay K st.U 100 7 vf (s'.u'.map aG)/\
    st.U i4=some ⟨162,5,[.agg [va,vf,vI s'.VA,vI s'.VD.y,vI s'.VD.m]]⟩/\st.U i8=some ⟨162,5,[.agg [.aO,.aO,vI 0,vI 0,vI 0]]⟩/\st.U i9=some ⟨48,20,[.agg (Nd.cells x)]⟩/\
    st.s 1=aF l/\st.s 2=vI a/\st.s 3=vI w/\st.s 4=.ptr i4 0 0/\st.s 8=.ptr i8 0 0/\st.s 9=.ptr i9 0 0/\st.s 15=vI b) (a+(VM l a).toNat-(a+1)) ?_ ?_
   .exact⟨a+1,s1,va,vf,rfl,Wa _,by omega,h4,rfl,by rw[uE];exact hI1,hs,hva6,hvf6,b4,a8,a9,rfl,rfl,rfl,rfl,rfl,rfl,by rw[<-q2];rfl⟩
   .clear hs hva6 hvf6 b4 a8 a9 ca cf sa sf;rintro q ⟨S,J⟩ ⟨b,s',va,vf,rfl,Zs,hbe,hbB,heq,Zh,hs,ZT,XN,a4,a8,a9,t1,t2,t3,t4,t8,t9,t15⟩;simp only at hs ZT XN a4 a8 a9 t1 t2 t3 t4 t8 t9 t15;obtain⟨ca,sa⟩:=ZT.vc;obtain⟨cf,sf⟩:=XN.vc;rw[Nd.cells]at a9;refine ai.mix 22 ?_;by_cases B':b<a+(VM l a).toNat
    .have u1:((b:Int)<((a+(VM l a).toNat:Nat):Int))=True:=L';obtain⟨h1,h2⟩:=cA Xr hbB (Wa b) B';obtain⟨h3,h4'⟩:=df Xr hbB B';have WX:b<l.length:=by omega
     have hc1:Wy l (a+1) (a+(VM l a).toNat)=Wy l (a+1) b+Wy l b (a+(VM l a).toNat):=eR Zs hbe Xr;have hc2:Wy l b (a+(VM l a).toNat)=Wy l b (b+(VM l b).toNat)+Wy l (b+(VM l b).toNat) (a+(VM l a).toNat):=eR (by omega) (by omega) Xr;have hc4:Wy l (a+1) (b+(VM l b).toNat)=Wy l (a+1) b+Wy l b (b+(VM l b).toNat):=eR Zs (by omega) (by omega);have hszb:=iB WX;have hidb:=im l WX;have q4:((b:Int)+l[b].size)=((b+(VM l b).toNat:Nat):Int):=by rw[hszb];omega
     have r7:VO .i64 ((b:Int)+l[b].size):=ae;have hK0:aa K (C' (C' (C' K i4 ⟨162,5,[.agg [va,vf,vI s'.VA,vI s'.VD.y,vI s'.VD.m]]⟩) i8 ⟨162,5,[.agg [.aO,.aO,vI 0,vI 0,vI 0]]⟩) i9 ⟨48,20,[.agg (Nd.cells x)]⟩):=(((aa.refl K).az z4).az z8).az z9;have W5:=ih b (C+2+Wy l (a+1) b) (by omega) WX h2 (by omega) h4' (by omega) s' va vf _ J (((hs.ej a4).ej a8).ej a9) (((ZT.ej a4 (by simp) _).ej a8 (by simp) _).ej a9 (by simp) _) (((XN.ej a4 (by simp) _).ej a8 (by simp) _).ej a9 (by simp) _) Zh;have hI2:=yN hD Zh WX h2 (by omega) h4';have XZ:=vp (rs:=cI l w) Xr hbB B' s';generalize qO l (cI l w) s' b=s2 at*;rw[Nd.cells]at hK0;apply sR;simp only[go_sem,seval,t1,t2,t3,t4,t9,t15,a4,a9,q3,r6,u1];refine Xv rfl W5 ?_;rintro r Z6 ⟨va2,vf2,rfl,hs6,hva2,hvf2⟩;obtain⟨ca2,sa2⟩:=hva2.vc;obtain⟨cf2,sf2⟩:=hvf2.vc;have c9:=hs6 _ _ ag;have c8:=hs6 _ _ ((ab n89).trans ag);have c4:=hs6 _ _ ((ab n49).trans ((ab YQ).trans ag));replace hva2:=hva2.o9 hK0;replace hvf2:=hvf2.o9 hK0;replace hs6:=hK0.trans hs6;apply sR;simp only[go_sem,seval,t1,t2,t3,t4,t8,t9,t15,c4,c8,c9,hidb,Nd.cells,r7,ab YQ.symm,ab n49.symm];refine⟨_,?_,b+(VM l b).toNat,s2,va2,vf2,rfl,by omega,by omega,h3,by rw[heq,XZ],by rw[hc4,<-Nat.add_assoc];exact hI2,hs6.az z4,hva2.bT c4 (by simp),hvf2.bT c4 (by simp),rfl,by simp[vI,q4]⟩;omega
    .have u1:((b:Int)<((a+(VM l a).toNat:Nat):Int))=False:=H';obtain rfl:b=a+(VM l a).toNat:=by omega
     rw[wi]at heq;rw[heq]at Wc;have e1:=Zh.bd.m1;have e2:=Zh.bd.m0;have e3:=Zh.bd.y0;have e4:=Zh.bd.yB;have hlc:=Ai s'.VD x.st.V0 x.st.T' ⟨by omega,by omega⟩ ⟨by omega,by omega⟩ ⟨by omega,by omega⟩ ⟨by omega,by omega⟩;rw[dC]at hlc;apply sR;simp only[go_sem,seval,t2,t4,t9,t15,a4,a9,q3,r6,u1];refine pS rfl (hlc _) ?_;simp only[go_sem,seval,t4,t8,t9,a4,a8,a9,hk,dC,ab YQ.symm,ab n49.symm];have c8:∀o,C' J i4 o i8=_:=λo=>(ab YQ.symm).trans a8;refine WZ ⟨va,vf,by rw[Wc];rfl,(hs.az z4).az z8,?_,?_⟩
     .rw[Wc];exact(ZT.bT a4 (by simp)).bT (c8 _) (by simp)
     .rw[Wc];exact(XN.bT a4 (by simp)).bT (c8 _) (by simp)
  .rw[hlow]at YI;simp only[↓reduceIte]at YI;obtain⟨f,hfm,e1,_⟩:=kI hlow;have e2:(cH (fX x.st.clear) s.u').1=f.y+f.h:=e1;have hff:=hB.fl f hfm;have hff1:=hff.yB;have hff2:=hff.y0;have hff3:=hff.h0;generalize (cH (fX x.st.clear) s.u').1=low at*;have Xo:=Hz s.VD low ⟨by omega,by omega⟩ ⟨by omega,by omega⟩;rw[dC]at Xo;apply sR;simp only[go_sem,seval,a4];refine pR rfl (Xo _) ?_;have hcp:0<=(eV s.VD low).y/\0<=(eV s.VD low).m/\(eV s.VD low).m<=1099511627776/\(eV s.VD low).y+(eV s.VD low).m<=1099511627776*(C:Int):=by
    unfold eV;split
    .simp only;omega
    .omega
   apply sR;simp only[go_sem,seval,a4,dC];generalize eV s.VD low=p at*;have Zp:s1={ s with VD:=dQ p x.st.top x.st.VJ }:=YI;obtain⟨YB,hp2,hp3,hp4⟩:=hcp;generalize Ys:C' Y11 i4 _=Y5;have hva5:ay K Y5 90 8 va (s.atoms.map bC):=by rw[<-Ys];exact hva1.bT a4 (by simp)
   have hvf5:ay K Y5 100 7 vf (s.u'.map aG):=by rw[<-Ys];exact hvf1.bT a4 (by simp)
   replace a4:=WC Ys;replace a8:=VN Ys YQ.symm a8;replace a9:=VN Ys n49.symm a9;replace hs:=WD Ys hs z4;clear Ys hva1 hvf1;simp only[go_sem,seval,a9];have hec:=B0 p x.st.top x.st.VJ ⟨by omega,by omega⟩ ⟨by omega,by omega⟩ ⟨by omega,by omega⟩ ⟨by omega,by omega⟩;rw[dC]at hec;refine pS rfl (hec _) ?_;simp only[go_sem,seval,a4,dC,r5];generalize hq6:C' Y5 i4 _=Y6;have hva6:ay K Y6 90 8 va (s1.atoms.map bC):=by rw[<-hq6,Zp];exact hva5.bT a4 (by simp)
   have hvf6:ay K Y6 100 7 vf (s1.u'.map aG):=by rw[<-hq6,Zp];exact hvf5.bT a4 (by simp)
   have b4:Y6 i4=some ⟨162,5,[.agg [va,vf,vI s1.VA,vI s1.VD.y,vI s1.VD.m]]⟩:=by rw[<-hq6,Zp];exact ag
   replace a8:=VN hq6 YQ.symm a8;replace a9:=VN hq6 n49.symm a9;replace hs:=WD hq6 hs z4;clear hq6 a4 hva5 hvf5;refine ai.loop (λq st=>∃(b:Nat) (s':WS) (va vf:V),q=a+(VM l a).toNat-b/\a+1<=b/\b<=a+(VM l a).toNat/\bS l b (a+(VM l a).toNat)=true/\
    dt l (cI l w) (a+(VM l a).toNat-(a+1)) (a+1) (a+(VM l a).toNat) s1=dt l (cI l w) (a+(VM l a).toNat-b) b (a+(VM l a).toNat) s'/\gd s' (C+2+Wy l (a+1) b)/\
    aa K st.U/\ay K st.U 90 8 va (s'.atoms.map bC)/\ay K st.U 100 7 vf (s'.u'.map aG)/\
    st.U i4=some ⟨162,5,[.agg [va,vf,vI s'.VA,vI s'.VD.y,vI s'.VD.m]]⟩/\st.U i8=some ⟨162,5,[.agg [.aO,.aO,vI 0,vI 0,vI 0]]⟩/\st.U i9=some ⟨48,20,[.agg (Nd.cells x)]⟩/\
    st.s 1=aF l/\st.s 2=vI a/\st.s 3=vI w/\st.s 4=.ptr i4 0 0/\st.s 8=.ptr i8 0 0/\st.s 9=.ptr i9 0 0/\st.s 15=vI b) (a+(VM l a).toNat-(a+1)) ?_ ?_
   .exact⟨a+1,s1,va,vf,rfl,Wa _,by omega,h4,rfl,by rw[uE];exact hI1,hs,hva6,hvf6,b4,a8,a9,rfl,rfl,rfl,rfl,rfl,rfl,by rw[<-q2];rfl⟩
   .clear hs hva6 hvf6 b4 a8 a9 ca cf sa sf;rintro q ⟨S,J⟩ ⟨b,s',va,vf,rfl,Zs,hbe,hbB,heq,Zh,hs,ZT,XN,a4,a8,a9,t1,t2,t3,t4,t8,t9,t15⟩;simp only at hs ZT XN a4 a8 a9 t1 t2 t3 t4 t8 t9 t15;obtain⟨ca,sa⟩:=ZT.vc;obtain⟨cf,sf⟩:=XN.vc;rw[Nd.cells]at a9;refine ai.mix 22 ?_;by_cases B':b<a+(VM l a).toNat
    .have u1:((b:Int)<((a+(VM l a).toNat:Nat):Int))=True:=L';obtain⟨h1,h2⟩:=cA Xr hbB (Wa b) B';obtain⟨h3,h4'⟩:=df Xr hbB B';have WX:b<l.length:=by omega
     have hc1:Wy l (a+1) (a+(VM l a).toNat)=Wy l (a+1) b+Wy l b (a+(VM l a).toNat):=eR Zs hbe Xr;have hc2:Wy l b (a+(VM l a).toNat)=Wy l b (b+(VM l b).toNat)+Wy l (b+(VM l b).toNat) (a+(VM l a).toNat):=eR (by omega) (by omega) Xr;have hc4:Wy l (a+1) (b+(VM l b).toNat)=Wy l (a+1) b+Wy l b (b+(VM l b).toNat):=eR Zs (by omega) (by omega);have hszb:=iB WX;have hidb:=im l WX;have q4:((b:Int)+l[b].size)=((b+(VM l b).toNat:Nat):Int):=by rw[hszb];omega
     have r7:VO .i64 ((b:Int)+l[b].size):=ae;have hK0:aa K (C' (C' (C' K i4 ⟨162,5,[.agg [va,vf,vI s'.VA,vI s'.VD.y,vI s'.VD.m]]⟩) i8 ⟨162,5,[.agg [.aO,.aO,vI 0,vI 0,vI 0]]⟩) i9 ⟨48,20,[.agg (Nd.cells x)]⟩):=(((aa.refl K).az z4).az z8).az z9;have W5:=ih b (C+2+Wy l (a+1) b) (by omega) WX h2 (by omega) h4' (by omega) s' va vf _ J (((hs.ej a4).ej a8).ej a9) (((ZT.ej a4 (by simp) _).ej a8 (by simp) _).ej a9 (by simp) _) (((XN.ej a4 (by simp) _).ej a8 (by simp) _).ej a9 (by simp) _) Zh;have hI2:=yN hD Zh WX h2 (by omega) h4';have XZ:=vp (rs:=cI l w) Xr hbB B' s';generalize qO l (cI l w) s' b=s2 at*;rw[Nd.cells]at hK0;apply sR;simp only[go_sem,seval,t1,t2,t3,t4,t9,t15,a4,a9,q3,r6,u1];refine Xv rfl W5 ?_;rintro r Z6 ⟨va2,vf2,rfl,hs6,hva2,hvf2⟩;obtain⟨ca2,sa2⟩:=hva2.vc;obtain⟨cf2,sf2⟩:=hvf2.vc;have c9:=hs6 _ _ ag;have c8:=hs6 _ _ ((ab n89).trans ag);have c4:=hs6 _ _ ((ab n49).trans ((ab YQ).trans ag));replace hva2:=hva2.o9 hK0;replace hvf2:=hvf2.o9 hK0;replace hs6:=hK0.trans hs6;apply sR;simp only[go_sem,seval,t1,t2,t3,t4,t8,t9,t15,c4,c8,c9,hidb,Nd.cells,r7,ab YQ.symm,ab n49.symm];refine⟨_,?_,b+(VM l b).toNat,s2,va2,vf2,rfl,by omega,by omega,h3,by rw[heq,XZ],by rw[hc4,<-Nat.add_assoc];exact hI2,hs6.az z4,hva2.bT c4 (by simp),hvf2.bT c4 (by simp),rfl,by simp[vI,q4]⟩;omega
    .have u1:((b:Int)<((a+(VM l a).toNat:Nat):Int))=False:=H';obtain rfl:b=a+(VM l a).toNat:=by omega
     rw[wi]at heq;rw[heq]at Wc;have e1:=Zh.bd.m1;have e2:=Zh.bd.m0;have e3:=Zh.bd.y0;have e4:=Zh.bd.yB;have hlc:=Ai s'.VD x.st.V0 x.st.T' ⟨by omega,by omega⟩ ⟨by omega,by omega⟩ ⟨by omega,by omega⟩ ⟨by omega,by omega⟩;rw[dC]at hlc;apply sR;simp only[go_sem,seval,t2,t4,t9,t15,a4,a9,q3,r6,u1];refine pS rfl (hlc _) ?_;simp only[go_sem,seval,t4,t8,t9,a4,a8,a9,hk,dC,ab YQ.symm,ab n49.symm];have c8:∀o,C' J i4 o i8=_:=λo=>(ab YQ.symm).trans a8;refine WZ ⟨va,vf,by rw[Wc];rfl,(hs.az z4).az z8,?_,?_⟩
     .rw[Wc];exact(ZT.bT a4 (by simp)).bT (c8 _) (by simp)
     .rw[Wc];exact(XN.bT a4 (by simp)).bT (c8 _) (by simp)
 .rw[aD (by omega),av hk]at Wc;simp only[go_sem,seval,X2,a9,a4,r2,hk];have hlb:=Wb.line;have hwok:WOk x.words x.space:=⟨by omega,λz hz=>by have:=Wb.words z hz;omega,Wb.space.1,Wb.space.2⟩
  unfold WS.text at Wc;rw[hsp]at Wc;have hLl:=kL s.u' x.words x.space x.line ⟨R.x,R.x+R.w⟩ x.words.length 0 (s.VD.y+s.VD.m);have hLb:=jo (ws:=x.words) (space:=x.space) (s:=⟨R.x,R.x+R.w⟩) (λf hf=>(hB.fl f hf).yB) hlb.1 x.words.length 0 (s.VD.y+s.VD.m);have htc:=(Iy vf s.u' hvf1.yZ x.words x.space x.line (s.VD.y+s.VD.m) ⟨R.x,R.x+R.w⟩ (by omega) (hB.flo (by omega)) (1099511627776*(C:Int)) (λf hf=>(hB.fl f hf).yB) (by omega) (by omega) (by omega) hlb.1 hlb.2 ⟨⟨by simp only;omega,by simp only;omega⟩,⟨by simp only;omega,by simp only;omega⟩⟩ hwok).Da λ_ _ h=>h.2.pX (v0:=kf (da s.u' x.words x.space x.line ⟨R.x,R.x+R.w⟩ x.words.length 0 (s.VD.y+s.VD.m))) h.1 rfl;generalize da s.u' x.words x.space x.line ⟨R.x,R.x+R.w⟩ x.words.length 0 (s.VD.y+s.VD.m)=L at*;have hnL:dX false (kf L)=some (.int .i64 L.length):=by simp[kf,dX]
  have hmul:x.line*(x.words.length:Int)<=1099511627776*10000:=Int.mul_le_mul hlb.2 (by omega) (by omega) (by omega);rw[aV]at htc;simp only at htc;refine pS rfl htc ?_;simp only[go_sem,seval];have hZ:Z=eX a x.line s L:=Wc;clear Wc;refine ai.loop (λm st=>∃(j:Nat) (va':V),j<=L.length/\m=L.length-j/\aa K st.U/\ay K st.U 90 8 va' ((eX a x.line s (L.take j)).atoms.map bC)/\ay K st.U 100 7 vf (s.u'.map aG)/\
   st.U i4=some ⟨162,5,[.agg [va',vf,vI (eX a x.line s (L.take j)).VA,vI (eX a x.line s (L.take j)).VD.y,vI (eX a x.line s (L.take j)).VD.m]]⟩/\
   st.U i8=some ⟨162,5,[.agg [.aO,.aO,vI 0,vI 0,vI 0]]⟩/\st.U i9=some ⟨48,20,[.agg (Nd.cells x)]⟩/\st.s 2=vI a/\st.s 4=.ptr i4 0 0/\st.s 8=.ptr i8 0 0/\st.s 9=.ptr i9 0 0/\st.s 16=kf L/\st.s 17=vI j) L.length ?_ ?_
  .exact⟨0,va,by omega,rfl,hs,hva1,hvf1,a4,a8,a9,rfl,rfl,rfl,rfl,rfl,rfl⟩
  .clear hs hva1 hvf1 a4 a8 a9 ca sa;rintro m ⟨S,J⟩ ⟨j,va,hj,rfl,hs,ZT,XN,a4,a8,a9,k2',k4',k8',k9',k16,k17⟩;simp only at hs ZT XN a4 a8 a9 k2' k4' k8' k9' k16 k17;obtain⟨ca,sa⟩:=ZT.vc;refine ai.mix 22 ?_;rw[Nd.cells]at a9;by_cases B':j<L.length
   .have u1:=qT B';have WG:∀U,bO U 5 (kf L) (.int .i64 j)=some (.rp (ji L[j])):=λU=>by simp[kf,bO,B']
    have V9:=wP (a:=a) (h:=x.line) (s:=s) B';have hbd:=hLb L[j] (Ws B');have Yy:=oE a x.line (L.take j) s;rw[jN,Nat.min_eq_left (by omega)]at Yy;have hpf:(eX a x.line s (L.take (j+1))).u'=s.u'/\(eX a x.line s (L.take (j+1))).VA=(eX a x.line s (L.take j)).VA:=by rw[V9];exact⟨wc _ _ _ _,rfl⟩
    generalize L[j]=y at*;have hen':ji y=.agg [vI y.fr,vI y.to,vI y.x,vI y.y,vI y.w]:=rfl;generalize eX a x.line s (L.take j)=T at*;have r3:VO .i64 (y.y+x.line):=ae;have r4:=rI j;apply sR;simp only[go_sem,seval,k16,k17,hnL,u1,WG,hen'];refine ar hs λi18 Z18 s18 a18 f18 z18 hs=>?_;obtain⟨n418,a4⟩:=VB a4 f18 s18;obtain⟨n818,a8⟩:=VB a8 f18 s18;obtain⟨n918,a9⟩:=VB a9 f18 s18;have ha18:=ZT.mono s18;have hf18:=XN.mono s18;simp only[go_sem,seval,a18,k2',k4',k9',a4,a9,ab n418,ab n918];generalize hq18:C' Z18 i18 _=Y18;replace ha18:ay K Y18 90 8 va (T.atoms.map bC):=by rw[<-hq18];exact ha18.bT a18 (by simp)
    replace hf18:ay K Y18 100 7 vf (s.u'.map aG):=by rw[<-hq18];exact hf18.bT a18 (by simp)
    replace a18:=WC hq18;replace a4:=VN hq18 n418 a4;replace a8:=VN hq18 n818 a8;replace a9:=VN hq18 n918 a9;replace hs:=WD hq18 hs z18;refine aA λi85 Z85 s85 a85 f85=>?_;obtain⟨idA,Wi,hdv,WM,VL⟩:=ha18.pI s85;have hap:=ha18.C8 hf18 (by simp);have Xc:(T.atoms.map bC).length=T.atoms.length:=by simp
    have V1:(T.atoms.length+1)*65<=140737488355328:=by omega
    simp only[go_sem,seval,Wi,bJ a85,Xc,V1];refine bt λi86 Z86 s86 a86 f86=>?_;have hf86:=((hf18.mono s85).CH (idA:=idA) λj hj n hv=>hap _ _ _ _ (hdv j hj) hv rfl).mono s86;have n86:=(hs.trans s85).none f86;have ha86:ay K Z86 90 8 (.own i86 0 (T.atoms.length+1)) ((T.atoms++[fZ a x.line y]).map bC):=ay.new (by simp) (by rw[a86,dG];rfl) n86;replace a4:=s86 _ _ ((WM i4 (ha18.dE a4 (by simp)) _).trans (s85 _ _ a4));replace a8:=s86 _ _ ((WM i8 (ha18.dE a8 (by simp)) _).trans (s85 _ _ a8));replace a9:=s86 _ _ ((WM i9 (ha18.dE a9 (by simp)) _).trans (s85 _ _ a9));replace a18:=s86 _ _ ((WM i18 (ha18.dE a18 (by simp)) _).trans (s85 _ _ a18));replace hs:=(VL K (aa.refl K) Z85 (hs.trans s85)).trans s86;simp only[go_sem,seval,k2',k4',k8',k9',k16,k17,a4,a8,a9,a18,r3,r4,ab YQ.symm,ab n49.symm,ab n418.symm];refine⟨_,by omega,j+1,.own i86 0 (T.atoms.length+1),by omega,rfl,hs.az z4,?_,hf86.bT a4 (by simp),?_,rfl,by simp[vI]⟩
    .rw[V9];exact ha86.bT a4 (by simp)
    .rw[V9];rfl
   .have u1:=qF B';obtain rfl:j=L.length:=by omega
    rw[eF]at ZT a4;apply sR;simp only[go_sem,seval,k4',k8',k9',k16,k17,a4,a8,a9,hk,hnL,u1];exact WZ ⟨va,vf,by rw[hZ],hs.az z8,by rw[hZ];exact ZT.bT a8 (by simp),by rw[hZ,wc];exact XN.bT a8 (by simp)⟩
 .rw[aD (by omega),aD (by omega),av hk]at Wc;simp only[go_sem,seval,X2,a9,a4,r2,hk];have hyr:=fe (w:=x.w) (high:=x.h) (y:=s.VD.y+s.VD.m) (s:=fE (cI l w) a) (λf hf=>(hB.fl f hf).yB);have hws:=Wb.w;have hhs:=Wb.h;unfold WS.mono at Wc;rw[hsp]at Wc hyr;replace Wc:Z=s.put ⟨2,a,0,0,(bZ s.u' (gQ s.u' x.w x.h ⟨R.x,R.x+R.w⟩ (s.VD.y+s.VD.m)) x.h ⟨R.x,R.x+R.w⟩).a,gQ s.u' x.w x.h ⟨R.x,R.x+R.w⟩ (s.VD.y+s.VD.m),x.w,x.h⟩:=Wc;have hrc:=DG s.u' x.w x.h ⟨R.x,R.x+R.w⟩ (by omega) (hB.flo (by omega)) ⟨by omega,by omega⟩ ⟨⟨by simp only;omega,by simp only;omega⟩,⟨by simp only;omega,by simp only;omega⟩⟩ (gtJ s.u' (s.VD.y+s.VD.m)+1) (s.VD.y+s.VD.m) (by omega) ⟨by omega,by omega⟩;generalize XG:gQ s.u' x.w x.h ⟨R.x,R.x+R.w⟩ (s.VD.y+s.VD.m)=V3 at*;generalize bZ s.u' V3 x.h ⟨R.x,R.x+R.w⟩=bd at*;rw[aV]at hrc;simp only at hrc;refine pS rfl (aL.ue (args':=[aC s.u',vI x.w,vI x.h,vI (s.VD.y+s.VD.m),.agg [vI R.x,vI (R.x+R.w)]]) ⟨hvf1.yZ.at,YH _,YH _,YH _,YH _,trivial⟩ hrc rfl) ?_;simp only[go_sem,seval,aV];refine ar hs λi19 Y19 s19 ZC f19 z19 hs=>?_;obtain⟨n419,a4⟩:=VB a4 f19 s19;obtain⟨n819,a8⟩:=VB a8 f19 s19;obtain⟨n919,a9⟩:=VB a9 f19 s19;have ha19:=hva1.mono s19;have hf19:=hvf1.mono s19;have r3:VO .i64 (V3+x.h):=ae;simp only[go_sem,seval,ZC];generalize XB:C' Y19 i19 _=Z19;replace ha19:ay K Z19 90 8 va (s.atoms.map bC):=by rw[<-XB];exact ha19.bT ZC (by simp)
  replace hf19:ay K Z19 100 7 vf (s.u'.map aG):=by rw[<-XB];exact hf19.bT ZC (by simp)
  replace ZC:=WC XB;replace a4:=VN XB n419 a4;replace a8:=VN XB n819 a8;replace a9:=VN XB n919 a9;replace hs:=WD XB hs z19;simp only[go_sem,seval,ZC,a9,a4,hk];refine aA λi85 Z85 s85 a85 f85=>?_;obtain⟨idA,Wi,hdv,WM,VL⟩:=ha19.pI s85;have hap:=ha19.C8 hf19 (by simp);have Xc:(s.atoms.map bC).length=s.atoms.length:=by simp
  have V1:(s.atoms.length+1)*65<=140737488355328:=by omega
  simp only[go_sem,seval,Wi,bJ a85,Xc,V1];refine bt λi86 Z86 s86 a86 f86=>?_;have hf86:=((hf19.mono s85).CH (idA:=idA) λj hj n hv=>hap _ _ _ _ (hdv j hj) hv rfl).mono s86;have n86:=(hs.trans s85).none f86;have ha86:ay K Z86 90 8 (.own i86 0 (s.atoms.length+1)) ((s.atoms++[(⟨2,a,0,0,bd.a,V3,x.w,x.h⟩:WE)]).map bC):=ay.new (by simp) (by rw[a86,dG];rfl) n86;replace a4:=s86 _ _ ((WM i4 (ha19.dE a4 (by simp)) _).trans (s85 _ _ a4));replace a8:=s86 _ _ ((WM i8 (ha19.dE a8 (by simp)) _).trans (s85 _ _ a8));replace a9:=s86 _ _ ((WM i9 (ha19.dE a9 (by simp)) _).trans (s85 _ _ a9));replace hs:=(VL K (aa.refl K) Z85 (hs.trans s85)).trans s86;simp only[go_sem,seval,a4,a8,a9,hk,r3,ab YQ.symm,ab n49.symm];have c8:∀o,C' Z86 i4 o i8=_:=λo=>(ab YQ.symm).trans a8;refine WZ ⟨.own i86 0 (s.atoms.length+1),vf,by rw[Wc];rfl,(hs.az z4).az z8,?_,?_⟩
  .rw[Wc];exact(ha86.bT a4 (by simp)).bT (c8 _) (by simp)
  .rw[Wc];exact(hf86.bT a4 (by simp)).bT (c8 _) (by simp)
 .rw[aD (by omega),aD (by omega),aD (by omega)]at Wc;have XD:dX false va=some (.int .i64 s.atoms.length):=by rw[hva1.len];simp
  simp only[go_sem,seval,a9,a4,r2,hk,XD];refine ar hs λi21 Z21 s21 a21 f21 z21 hs=>?_;obtain⟨n421,a4⟩:=VB a4 f21 s21;obtain⟨n821,a8⟩:=VB a8 f21 s21;obtain⟨n921,a9⟩:=VB a9 f21 s21;obtain⟨n1121,X2⟩:=VB X2 f21 s21;have ha21:=hva1.mono s21;have hf21:=hvf1.mono s21;have nf21:=hvf1.ru f21;simp only[go_sem,seval,a21,X2,a4,ab n421,ab n1121];generalize hq21:C' Z21 i21 _=Y21;replace ha21:ay K Y21 90 8 va (s.atoms.map bC):=by rw[<-hq21];exact ha21.bT a21 (by simp)
  replace hf21:ay K Y21 100 7 vf (s.u'.map aG):=by rw[<-hq21];exact hf21.Al nf21
  replace a21:=WC hq21;replace a4:=VN hq21 n421 a4;replace a8:=VN hq21 n821 a8;replace a9:=VN hq21 n921 a9;replace hs:=WD hq21 hs z21;have hws:=Wb.w;have hhs:=Wb.h;have hput:=KQ vf s.u' hf21 ⟨a,x.side,s.atoms.length,0,0,x.w,x.h⟩ (s.VD.y+s.VD.m) ⟨R.x,R.x+R.w⟩ (by omega) (hB.flo (by omega)) ⟨by omega,by omega⟩ (show Bq x.h from⟨by omega,by omega⟩) (show Bq x.w from⟨by omega,by omega⟩) ⟨⟨by simp only;omega,by simp only;omega⟩,⟨by simp only;omega,by simp only;omega⟩⟩;rw[aV,aG]at hput;unfold WS.float at Wc;rw[hsp]at Wc;simp only at hput;generalize nt s.u' ⟨a,x.side,s.atoms.length,0,0,x.w,x.h⟩ (s.VD.y+s.VD.m) ⟨R.x,R.x+R.w⟩=PF at*;refine Xv rfl hput ?_;rintro vr Z6 ⟨s6,hvr⟩;replace hvr:=hvr.o9 hs;replace hs:=hs.trans s6;replace a4:=s6 _ _ a4;replace a8:=s6 _ _ a8;have ha6:=ha21.mono s6;obtain⟨cr,sr⟩:=hvr.vc;apply sR;simp only[go_sem,seval,a4,a8,cr,sr,ab YQ.symm];have c8:∀o,C' Z6 i4 o i8=_:=λo=>(ab YQ.symm).trans a8;refine WZ ⟨va,vr,by rw[Wc],(hs.az z4).az z8,?_,?_⟩
  .rw[Wc];exact(ha6.bT a4 (by simp)).bT (c8 _) (by simp)
  .rw[Wc];exact(hvr.bT a4 (by simp)).bT (c8 _) (by simp)
open Go.Proofs
def Gf{α:Type}{l:List α}{j:Nat}{x:α}(h:l[j]?=some x):l.set j x=l:=by
 obtain⟨hj,rfl⟩:=pq.1 h;simp
def Fi(n:Nat)(l:List O'):fD n l.length l=l.map (lW n):=by
 unfold fD;rw[eF,xp,jt]
def Lr(l:List Nd)(hl:ep l)(w:Int)(hw1:1<=w)(Zm:w<=1099511627776)(hck:eS l=0):aL prog 42 [aF l,vI w] (.VG [yq (dv l w),vI 0]):=λU=>by
 obtain⟨hb,hn,hwo,hcs⟩:=p9 hck;have Xo:=DA l hl;rw[hck]at Xo;have hD:=rz hb hn hw1 Zm;have hr:bS l 0 l.length=true:=by simp only[Wg,Ba]at hb;exact hb.2
 have Xs:=bU l;have Wc:=NV l w hb hn hw1 Zm (λx hx=>by have:=hwo x hx;omega);have hgl:dv l w=⟨(dt l (cI l w) (l.length-0) 0 l.length ⟨[],[],0,⟨0,0⟩⟩).fin.atoms,(dt l (cI l w) (l.length-0) 0 l.length ⟨[],[],0,⟨0,0⟩⟩).fin.u',(dt l (cI l w) (l.length-0) 0 l.length ⟨[],[],0,⟨0,0⟩⟩).fin.VA⟩:=rfl;have hI0:gd ⟨[],[],0,⟨0,0⟩⟩ 0:=⟨⟨by simp,by simp,by simp,by simp,by simp⟩,by simp,by simp⟩
 have Zf:=rN (rs:=cI l w) hb (l.length-0) 0 l.length ⟨[],[],0,⟨0,0⟩⟩ (by omega) (Wa _) hr (λf hf=>by simp at hf);have han:=w8 (l:=l) (rs:=cI l w) (l.length-0) 0 l.length ⟨[],[],0,⟨0,0⟩⟩ (λf hf=>by simp at hf);rw[hgl];refine e42.q ?_;have hs:=aa.refl U;have q1:(w<1)=False:=H';have q2:(w>1099511627776)=False:=H';have q3:((0:Int)≠0)=False:=H' (λh=>h rfl);refine mS 11 ?_;simp only[go_sem,seval,c42];refine ar hs λi4 Z4 s4 a4 f4 z4 hs=>?_;simp only[go_sem,seval,q1,q2];refine pS rfl (Xo _) ?_;simp only[go_sem,seval,q3];refine ar hs λi7 Z7 s7 a7 f7 z7 hs=>?_;obtain⟨n47,a4⟩:=VB a4 f7 s7;simp only[go_sem,seval,a7];generalize Xb:C' _ i7 _=Y7;replace a7:=WC Xb;replace a4:=VN Xb n47 a4;replace hs:=WD Xb hs z7;obtain⟨W8,hFIN⟩:∃z,z=dt l (cI l w) (l.length-0) 0 l.length ⟨[],[],0,⟨0,0⟩⟩:=⟨_,rfl⟩
 rw[<-hFIN]at Zf han|-;refine ai.loop (λq st=>∃(b:Nat) (s':WS) (va vf:V),q=l.length-b/\b<=l.length/\bS l b l.length=true/\W8=dt l (cI l w) (l.length-b) b l.length s'/\gd s' (Wy l 0 b)/\
  aa U st.U/\ay U st.U 90 8 va (s'.atoms.map bC)/\ay U st.U 100 7 vf (s'.u'.map aG)/\
  st.U i7=some ⟨162,5,[.agg [va,vf,vI s'.VA,vI s'.VD.y,vI s'.VD.m]]⟩/\st.U i4=some ⟨37,3,[.agg [.aO,.aO,vI 0]]⟩/\
  st.s 0=aF l/\st.s 1=vI w/\st.s 4=.ptr i4 0 0/\st.s 7=.ptr i7 0 0/\st.s 8=vI b) l.length ?_ ?_
 .exact⟨0,⟨[],[],0,⟨0,0⟩⟩,.aO,.aO,by omega,by omega,hr,hFIN,by rw[uE];exact hI0,hs,ay.start,ay.start,a7,a4,rfl,rfl,rfl,rfl,rfl⟩
 .clear hs a4 a7 hFIN hI0;rintro q ⟨S,J⟩ ⟨b,s',va,vf,rfl,hbe,hbB,heq,Zh,hs,ZT,XN,a7,a4,t0,t1,t4,t7,t8⟩;simp only at hs ZT XN a7 a4 t0 t1 t4 t7 t8;obtain⟨ca,sa⟩:=ZT.vc;obtain⟨cf,sf⟩:=XN.vc;refine ai.mix 11 ?_;by_cases B':b<l.length
  .have u1:=qT B';obtain⟨h1,h2⟩:=cA (Wa _) hbB (Wa b) B';obtain⟨h3,h4'⟩:=df (Wa _) hbB B';have hc1:Wy l 0 l.length=Wy l 0 b+Wy l b l.length:=eR (by omega) (by omega) (Wa _);have hc2:Wy l b l.length=Wy l b (b+(VM l b).toNat)+Wy l (b+(VM l b).toNat) l.length:=eR (by omega) (by omega) (Wa _);have hc4:Wy l 0 (b+(VM l b).toNat)=Wy l 0 b+Wy l b (b+(VM l b).toNat):=eR (by omega) (by omega) (by omega);have hszb:=iB B';have hidb:=im l B';have q4:((b:Int)+l[b].size)=((b+(VM l b).toNat:Nat):Int):=by rw[hszb];omega
   have r7:VO .i64 ((b:Int)+l[b].size):=ae;have hK0:aa U (C' (C' U i7 ⟨162,5,[.agg [va,vf,vI s'.VA,vI s'.VD.y,vI s'.VD.m]]⟩) i4 ⟨37,3,[.agg [.aO,.aO,vI 0]]⟩):=((aa.refl U).az z7).az z4;have W5:=Wc (l.length-b+1) b (Wy l 0 b) (by omega) B' h2 (by omega) h4' (by omega) s' va vf _ J ((hs.ej a7).ej a4) ((ZT.ej a7 (by simp) _).ej a4 (by simp) _) ((XN.ej a7 (by simp) _).ej a4 (by simp) _) Zh;have hI2:=yN hD Zh B' h2 (by omega) h4';have XZ:=vp (rs:=cI l w) (Wa _) hbB B' s';generalize qO l (cI l w) s' b=s2 at*;apply sR;simp only[go_sem,seval,t0,t1,t7,t8,a7,Xs,u1];refine Xv rfl W5 ?_;rintro r Z6 ⟨va2,vf2,rfl,hs6,hva2,hvf2⟩;obtain⟨ca2,sa2⟩:=hva2.vc;obtain⟨cf2,sf2⟩:=hvf2.vc;have c4:=hs6 _ _ ag;have c7:=hs6 _ _ ((ab n47.symm).trans ag);replace hva2:=hva2.o9 hK0;replace hvf2:=hvf2.o9 hK0;replace hs6:=hK0.trans hs6;apply sR;simp only[go_sem,seval,t0,t1,t4,t7,t8,c4,c7,hidb,Nd.cells,r7,ab n47];refine⟨_,?_,b+(VM l b).toNat,s2,va2,vf2,rfl,by omega,h3,by rw[heq,XZ],by rw[hc4];exact hI2,hs6.az z7,hva2.bT c7 (by simp),hvf2.bT c7 (by simp),by simp[vI,q4]⟩;omega
  .have u1:=qF B';obtain rfl:b=l.length:=by omega
   rw[wi]at heq;subst heq;have e1:=Zh.bd.m1;have e2:=Zh.bd.m0;have e3:=Zh.bd.y0;have e4:=Zh.bd.yB;have r5:VO .i64 (W8.VD.y+W8.VD.m):=ae;have YX:=Zh.V3;have YG:=Zh.fl;have hflo:=Zh.bd.fl;have Xj:W8.fin={ W8 with VA:=wz W8,u':=W8.u'.map (lW W8.atoms.length) }:=rfl;rw[Kx Zf]at Xj;rw[Xj];clear Xj;simp only;apply sR;simp only[go_sem,seval,t0,t7,t8,a7,Xs,u1,r5];refine ai.loop (λq st=>∃(j:Nat),j<=W8.u'.length/\q=W8.u'.length-j/\aa U st.U/\ay U st.U 90 8 va (W8.atoms.map bC)/\ay U st.U 100 7 vf ((fD W8.atoms.length j W8.u').map aG)/\
    st.U i7=some ⟨162,5,[.agg [va,vf,vI (hiF (W8.VD.y+W8.VD.m) (W8.u'.take j)),vI W8.VD.y,vI W8.VD.m]]⟩/\st.U i4=some ⟨37,3,[.agg [.aO,.aO,vI 0]]⟩/\
    st.s 4=.ptr i4 0 0/\st.s 7=.ptr i7 0 0/\st.s 9=vI j) W8.u'.length ?_ ?_
   .exact⟨0,by omega,rfl,hs.az z7,ZT.bT a7 (by simp),by simpa[fD]using XN.bT a7 (by simp),ag,(ab n47).trans a4,t4,t7,rfl⟩
   .clear hs ZT XN a7 a4 t0 t1 t4 t7 t8;rintro q ⟨S,J⟩ ⟨j,hj,rfl,hs,ZT,XN,a7,a4,t4,t7,t9⟩;simp only at hs ZT XN a7 a4 t4 t7 t9;refine ai.mix 11 ?_;have ZQ:=kH W8.atoms.length j W8.u';have hlf:dX false vf=some (.int .i64 W8.u'.length):=by rw[XN.len,cO,ZQ]
    have XD:dX false va=some (.int .i64 W8.atoms.length):=by rw[ZT.len];simp
    by_cases B':j<W8.u'.length
    .have u2:=qT B';have hvf0:=XN;obtain⟨id,hve,h2,h3⟩:∃id,vf=.own id 0 W8.u'.length/\J id=some ⟨100,7,(fD W8.atoms.length j W8.u').map aG⟩/\U id=none:=by
      rcases XN with⟨_,h0⟩|⟨id,h1,h2,h3⟩
      .exfalso;have:=congrArg List.length h0;rw[cO,ZQ]at this;simp only[List.length_nil]at this;omega
      .rw[cO,ZQ]at h1;exact⟨id,h1,h2,h3⟩
     have XE:=rZ (n:=W8.atoms.length) B';have hset:=rV (n:=W8.atoms.length) B';have hget2:((fD W8.atoms.length j W8.u').map aG)[j]?=some (aG W8.u'[j]):=by rw[tW,XE];rfl
     have ZL:((fD W8.atoms.length j W8.u').map aG).length=W8.u'.length:=by rw[cO,ZQ]
     have M':∀X':ad,X' id=some ⟨100,7,(fD W8.atoms.length j W8.u').map aG⟩->bO X' 7 vf (.int .i64 j)=some (.ptr id j 0):=λX' h=>by rw[hve,<-ZL];exact jX h (by rw[ZL];exact B')
     have ZI:=hflo _ (Ws B');have hf0:=han _ (Ws B');have haf:=H4 (n:=W8.atoms.length) hf0;have hht:=Hv (h:=W8.VD.y+W8.VD.m) B';generalize W8.u'[j]=f at*;have hen:aG f=.agg [vI f.node,vI f.side,vI f.anchor,vI f.x,vI f.y,vI f.w,vI f.h]:=rfl;have hfy:=ZI.y0;have hfb:=ZI.yB;have hfh:=ZI.h0;have r6:VO .i64 (f.y+f.h):=ae;have r7:VO .i64 ((W8.atoms.length:Int)-1):=ae;have r8:=rI j;obtain⟨ca,sa⟩:=ZT.vc;obtain⟨cf,sf⟩:=hvf0.vc;rw[hen]at hget2;generalize hRW:(fD W8.atoms.length j W8.u').map aG=RW at*;have hsZ:=hs;replace hs:=aa.refl J;have a7_:=a7;have a4_:=a4;apply sR;simp only[go_sem,seval,t7,t9,a7,hlf,u2,h2,M' J h2,hget2];refine ar hs λi10 Z10 XV Wn f10 YK hs=>?_;obtain⟨n410,a4⟩:=VB a4 f10 XV;obtain⟨YN,a7⟩:=VB a7 f10 XV;have nid:id≠i10:=aU h2 f10;have h2':=XV _ _ h2;have ni7:id≠i7:=λe=>by
      rw[e,(show J i7=_ from a7_)]at h2;cases h2
     have nid4:id≠i4:=λe=>by rw[e,a4_]at h2;cases h2
     have hva10:=ZT.mono XV;by_cases YU:f.anchor>=W8.atoms.length
     .have u3:(f.anchor>=W8.atoms.length)=True:=L' YU;rw[av YU]at haf;simp only[go_sem,seval,Wn,a7,t7,t9,r6,r7,ct,XD,u3,ab YN,ab YN.symm];generalize YZ:C' (C' _ i10 _) i7 _=ZX;have b7:ZX i7=some ⟨162,5,[.agg [va,vf,vI (max (hiF (W8.VD.y+W8.VD.m) (W8.u'.take j)) (f.y+f.h)),vI W8.VD.y,vI W8.VD.m]]⟩:=by rw[<-YZ];exact ag
      have b4:=((congrFun YZ i4).symm.trans ((ab n47).trans (ab n410))).trans a4;have bD:=((congrFun YZ id).symm.trans ((ab ni7).trans (ab nid))).trans h2';have hvaX:ay U ZX 90 8 va (W8.atoms.map bC):=by rw[<-YZ];exact(hva10.bT Wn (by simp)).bT ((ab YN).trans a7) (by simp)
      have hsX:aa U ZX:=by rw[<-YZ];exact((hsZ.trans XV).az (hsZ.none YK)).az z7
      clear YZ;have hap:=hvaX.C8 (ay.new (K:=U) (n:=RW.length) rfl bD h3) (by simp);simp only[go_sem,seval,t4,t7,t9,r8,M' ZX bD,bD,hget2];refine⟨_,by omega,j+1,by omega,rfl,hsX.az h3,hvaX.Al λn hv=>hap _ _ _ _ hv rfl rfl,.inr ⟨id,by rw[hve,cO,kH],by rw[ag,<-hset,List.map_set,hRW,haf];rfl,h3⟩,by rw[hht];exact(ab (Ne.symm ni7)).trans b7,(ab (Ne.symm nid4)).trans b4,by simp[vI]⟩
     .have u3:(f.anchor>=W8.atoms.length)=False:=H' YU;rw[aD YU]at haf;rw[haf,Gf XE]at hset;simp only[go_sem,seval,Wn,a7,t4,t7,t9,r6,r8,ct,XD,u3,ab n410,ab YN,ab YN.symm,ab n47];have hvf10:=((hvf0.mono XV).Al (o:=⟨100,7,[.agg [vI f.node,vI f.side,vI f.anchor,vI f.x,vI f.y,vI f.w,vI f.h]]⟩) (hvf0.ru f10)).bT (i:=i7) (o:=⟨162,5,[.agg [va,vf,vI (max (hiF (W8.VD.y+W8.VD.m) (W8.u'.take j)) (f.y+f.h)),vI W8.VD.y,vI W8.VD.m]]⟩) ((ab YN).trans a7) (by simp);refine⟨_,by omega,j+1,by omega,rfl,((hsZ.trans XV).az (hsZ.none YK)).az z7,(hva10.bT Wn (by simp)).bT ((ab YN).trans a7) (by simp),by rw[<-hset,hRW];exact hvf10,by rw[hht],a4,by simp[vI]⟩
    .have u2:=qF B';obtain rfl:j=W8.u'.length:=by omega
     rw[Fi]at XN;rw[eF]at a7;obtain⟨ca,sa⟩:=ZT.vc;obtain⟨cf,sf⟩:=XN.vc;apply sR;simp only[go_sem,seval,t4,t7,t9,a7,a4,hlf,u2];have VP:∀o,aa U (C' J i4 o):=λo=>hs.az z4;exact⟨_,U,VP _,Wk.VG (vs':=[yq ⟨W8.atoms,W8.u'.map (lW W8.atoms.length),hiF (W8.VD.y+W8.VD.m) W8.u'⟩,vI 0]) ⟨Wk.agg (vs':=[bn W8.atoms,aC (W8.u'.map (lW W8.atoms.length)),vI (hiF (W8.VD.y+W8.VD.m) W8.u')]) ⟨(ZT.bT a4 (by simp)).wk (aa.refl U) (VP _),(XN.bT a4 (by simp)).wk (aa.refl U) (VP _),Wk.refl (VP _) _,trivial⟩,Wk.refl (VP _) _,trivial⟩,rfl,rfl⟩
open Go.Proofs
def IM{L H:Int}(h1:1<=L)(h2:L<=1099511627776)(h3:H<=1099511627776):H>mulR L 32768↔L<=33554432/\H>L*32768:=by
 have e:eA 32768=32768:=by decide
 have e2:(1099511627776:Int).tdiv (max 32768 (-32768))=33554432:=by decide
 have e3:(-1099511627776:Int).tdiv (max 32768 (-32768))=-33554432:=by decide
 have e4:eA L=L:=by unfold eA;omega
 unfold mulR;rw[e,e2,e3,e4];by_cases hb:L>33554432
 .rw[av ⟨by decide,.inl hb⟩,av (by rw[WW (by omega)];decide)];omega
 .rw[aD (λh=>by have:=h.2;omega)];omega
def K4{l:List Nd}(h:eS l=0):(iR l).1.VF<=1099511627776:=by
 have hb:=(p9 h).1;unfold eS at h;rw[av hb]at h;split at h
 .cases h
 .omega
def JP{l:List Nd}(hb:Wg l=true)(hn:l.length<=2000){w:Int}(h1:1<=w)(h2:w<=1099511627776):∀x∈ofR l w,(0<=x/\x<l.length)/\kdI l x.toNat≠1:=λx hx=>by
 obtain⟨a,ha,rfl⟩:=gM.1 hx;obtain⟨i,e1,e2,e3⟩:=Ig hb hn h1 h2 a ha;rw[e1];refine⟨by omega,?_⟩;rw[fp];have:kdI l i=(Wu l i).kind:=by rw[jT e2];simp[kdI,e2]
 rw[this];omega
def Dr(l:List Nd)(w h:Int):V:=if gz l w h=0 then bu (gY l w h)else .agg [.aO,vI 0,vI 0,.aO,.aO,vI 0,.aO]
def Nn(l:List Nd)(hl:ep l)(w h:Int):aL prog 9 [aF l,vI w,vI h] (.VG [Dr l w h,vI (gz l w h)]):=λU=>by
 refine e9.q ?_;have hs:=aa.refl U;have Xo:=DA l hl;have bad:∀n:Int,gz l w h=n->n≠0->(Dr l w h=.agg [.aO,vI 0,vI 0,.aO,.aO,vI 0,.aO]/\gz l w h=n):=λn hn h0=>⟨by rw[Dr,aD (by rw[hn];exact h0)],hn⟩
 refine ai.mix 15 ?_;by_cases hw:mQ w
 .have mw:=uv w;rw[show decide (mQ w)=true from WJ hw]at mw;apply sR;simp only[go_sem,seval,c9];refine ar hs λi6 Z6 s6 a6 f6 z6 hs=>?_;simp only[go_sem,seval];refine pS rfl (mw _) ?_;simp only[go_sem,seval];by_cases hh:mQ h
  .have mh:=uv h;rw[show decide (mQ h)=true from WJ hh]at mh;refine pS rfl (mh _) ?_;simp only[go_sem,seval];refine pR rfl (Xo _) ?_;by_cases hc:eS l=0
   .obtain⟨hb,hn,hwo,hcs⟩:=p9 hc;have hgc:=AW l hl;have hlc:=Hb l hl hb hn (N1 l hl) h hh.1 hh.2;have Zi:=Lr l hl w hw.1 hw.2 hc;have hG:=ze hb hn hw.1 hw.2;have YX:=hG.len;have hbc:=Lg l hb hn (ofR l w) (by rw[ofR,cO];omega) (JP hb hn hw.1 hw.2);have hE:gz l w h=if(iR l).1.VF>mulR (dW l h) 32768 then 2 else 0:=by rw[gz,aD (λh=>h ⟨hw,hh⟩),aD (λh=>h hc)]
    have hm:=J9 hb hh.1 hh.2;have hL:dW l h=ie l h l.length:=by rw[dW,av hm]
    have hp:1<=dW l h:=by rw[hL];exact xX hh.1 _
    have hq:dW l h<=h:=by
     rw[hL];clear hL hp hE hlc;have:∀n,ie l h n<=h:=by
      intro n
      induction n with
      |zero=>exact Int.le_refl _
      |succ n ih=>rw[ie];split<;>omega
     exact this _
    have hh2:=hh.2;have hmb:=IM hp (by omega) (K4 hc);rw[hc];have qz:((0:Int)≠0)=False:=H' (λh=>h rfl);generalize hSM:(iR l).1=SM at*;generalize hS2:(iR l).2=S2 at*;apply sR;simp only[go_sem,seval,qz];refine pS rfl (hgc _) ?_;simp only[go_sem,seval,Sm.cells];refine ar hs λi9 Z9 s9 a9 f9 z9 hs=>?_;obtain⟨n69,a6⟩:=VB a6 f9 s9;simp only[go_sem,seval,a9];generalize Wz:C' _ i9 _=Y9;replace a9:=WC Wz;replace a6:=VN Wz n69 a6;replace hs:=WD Wz hs z9;refine pR rfl (hlc _) ?_;have r1:VO .i64 (dW l h*32768):=by
     by_cases hx:dW l h<=33554432
     .exact ae
     .exact ae
    by_cases hlim:SM.VF>mulR (dW l h) 32768
    .obtain⟨g1,g2⟩:=hmb.1 hlim;have q1:(dW l h<=33554432)=True:=L' g1;have q2:(SM.VF>dW l h*32768)=True:=L' g2;obtain⟨e1,e2⟩:=bad 2 (by rw[hE,av hlim]) (by decide);rw[e1,e2];generalize dW l h=LE at*;apply sR;simp only[go_sem,seval,a9,a6,q1,q2,r1];exact ak.pure (hs.az z6) rfl
    .have hq1:((dW l h<=33554432)=False)\/((dW l h<=33554432)=True/\(SM.VF>dW l h*32768)=False):=by
      by_cases g1:dW l h<=33554432
      .exact .inr ⟨L' g1,H' λg2=>hlim (hmb.2 ⟨g1,g2⟩)⟩
      .exact .inl (H' g1)
     have e2:gz l w h=0:=by rw[hE,aD hlim]
     have e1:Dr l w h=bu (gY l w h):=by rw[Dr,av e2]
     rw[e1,e2];have X6:bu (gY l w h)=.agg [aF l,vI w,vI h,bn (dv l w).atoms,aC (dv l w).u',vI (dv l w).VA,bG (p7 l (ofR l w))]:=rfl;rw[X6];clear X6 e1 e2 bad hE hmb hlim hL hm;generalize dW l h=LE at*;have hofe:ofR l w=(dv l w).atoms.map (·.node):=rfl;generalize ofR l w=OF at*;generalize p7 l OF=BK at*;rw[yq]at Zi;generalize dv l w=GA at*;have XD:=gj GA.atoms;rcases hq1 with q1|⟨q1,q2⟩
     case' inl=>
      apply sR;simp only[go_sem,seval,q1,af,aM]
     case' inr=>
      apply sR;simp only[go_sem,seval,a9,q1,q2,r1,af,aM]
     all_goals
      refine ar hs λi12 Y12 s12 a12 f12 z12 hs=>?_;obtain⟨n612,a6⟩:=VB a6 f12 s12;obtain⟨n912,a9⟩:=VB a9 f12 s12;simp only[go_sem,seval,a12];generalize Xp:C' _ i12 _=Z12;replace a12:=WC Xp;replace a6:=VN Xp n612 a6;replace a9:=VN Xp n912 a9;replace hs:=WD Xp hs z12;refine pS rfl (Zi _) ?_;simp only[go_sem,seval,a12];generalize Xp:C' _ i12 _=Z12;replace a12:=WC Xp;replace a6:=VN Xp n612 a6;replace a9:=VN Xp n912 a9;replace hs:=WD Xp hs z12;refine ai.gy (λst=>aa Z12 st.U/\ay Z12 st.U 3 1 (st.s 13) (OF.map vI)/\st.s 0=aF l/\st.s 6=.ptr i6 0 0/\st.s 12=.ptr i12 0 0)
       (λm st=>∃j:Nat,j<=GA.atoms.length/\m=GA.atoms.length-j/\aa Z12 st.U/\ay Z12 st.U 3 1 (st.s 13) (((GA.atoms.take j).map (·.node)).map vI)/\st.s 0=aF l/\st.s 6=.ptr i6 0 0/\st.s 12=.ptr i12 0 0/\st.s 14=vI j) GA.atoms.length ?_ ?_ ?_
      .exact⟨0,by omega,rfl,aa.refl _,ay.start,rfl,rfl,rfl,rfl⟩
      .rintro m ⟨S,J⟩ ⟨j,hj,rfl,hsj,ho,t0,t6,t12,t14⟩;simp only at hsj ho t0 t6 t12 t14;have b12:=hsj _ _ a12;generalize hv13:S 13=v13 at ho;refine ai.mix 15 ?_;by_cases B':j<GA.atoms.length
       .have u1:=qT B';have VC:=λU=>ey (U:=U) B';have V8:((GA.atoms.take (j+1)).map (·.node)).map vI=((GA.atoms.take j).map (·.node)).map vI++[vI GA.atoms[j].node]:=by
         rw[XH B',dG,dG];rfl
        have Xc:(((GA.atoms.take j).map (·.node)).map vI).length=j:=by rw[cO,cO,jN];omega
        have hae:bC GA.atoms[j]=.agg [vI GA.atoms[j].kind,vI GA.atoms[j].node,vI GA.atoms[j].fr,vI GA.atoms[j].to,vI GA.atoms[j].x,vI GA.atoms[j].y,vI GA.atoms[j].w,vI GA.atoms[j].h]:=rfl;generalize ((GA.atoms.take j).map (·.node)).map vI=rows at*;generalize GA.atoms[j]=x at*;have r2:=rI j;have V1:(rows.length+1)*9<=140737488355328:=by omega
        apply sR;simp only[go_sem,seval,t12,t14,b12,hv13,XD,u1,VC,hae];refine aA λi91 Z91 s91 a91 f91=>?_;obtain⟨idA,Wi,VL⟩:=ho.dst s91;simp only[go_sem,seval,Wi,bJ a91,V1];refine bt λi92 Z92 s92 a92 f92=>?_;have k92:=(VL Z12 (aa.refl _) Z91 (hsj.trans s91)).trans s92;have n92:Z12 i92=none:=(hsj.trans s91).none f92;simp only[go_sem,seval,t0,t6,t12,t14,r2];refine⟨_,by omega,j+1,by omega,rfl,k92,?_,by simp[vI]⟩;rw[V8];exact ay.new (by simp) a92 n92
       .have u1:=qF B';have XS:j=GA.atoms.length:=by omega
        rw[XS,eF,<-hofe]at ho;apply sR;simp only[go_sem,seval,t0,t6,t12,t14,b12,hv13,XD,u1];exact⟨hsj,ho⟩
      .rintro⟨S,J⟩ ⟨hsj,ho,t0,t6,t12⟩;simp only at hsj ho t0 t6 t12;refine ai.Ew [0,6,12] [13] hsj ho (by simp) ?_;generalize hS:(λi=>if[13].contains i then V.sl 1 (OF.map vI)else lV [0,6,12] S i)=S';have u0:S' 0=aF l:=by rw[<-hS];exact t0
       have u6:S' 6=.ptr i6 0 0:=by rw[<-hS];exact t6
       have u12:S' 12=.ptr i12 0 0:=by rw[<-hS];exact t12
       have u13:S' 13=bb OF:=by rw[<-hS];rfl
       clear hS t0 t6 t12;refine mS 15 ?_;simp only[go_sem,seval,u0,u13];refine pS rfl (hbc _) ?_;simp only[go_sem,seval,u6,u12,a12,a6,qw,ra,ab n612];exact ak.pure ((hs.az z12).az z6) rfl
   .obtain⟨e1,e2⟩:=bad (eS l) (by rw[gz,aD (λh=>h ⟨hw,hh⟩),av hc]) hc;have q:(eS l≠0)=True:=L' hc;rw[e1,e2];generalize eS l=K at*;apply sR;simp only[go_sem,seval,q,a6];exact ak.pure (hs.az z6) rfl
  .have mh:=uv h;rw[show decide (mQ h)=false from WW hh]at mh;obtain⟨e1,e2⟩:=bad 3 (by rw[gz,av (λh=>hh h.2)]) (by decide);rw[e1,e2];refine pS rfl (mh _) ?_;simp only[go_sem,seval,a6];exact ak.pure (hs.az z6) rfl
 .have mw:=uv w;rw[show decide (mQ w)=false from WW hw]at mw;obtain⟨e1,e2⟩:=bad 3 (by rw[gz,av (λh=>hw h.1)]) (by decide);rw[e1,e2];apply sR;simp only[go_sem,seval,c9];refine ar hs λi6 Z6 s6 a6 f6 z6 hs=>?_;simp only[go_sem,seval];refine pS rfl (mw _) ?_;simp only[go_sem,seval,a6];exact ak.pure (hs.az z6) rfl
open Go.Proofs
def au.DE{P:Program}{f:FuncId}{args args':List V}{U:ad}{Post:V->ad->Prop}(hw:WkL U U args args')(h:au P f args' U Post):au P f args U Post:=
 ⟨h.1,λI w VI hs hr=>h.2 I w VI hs (WkL.all hs hw hr)⟩
def Mv{l:List Nd}(hl:ep l){w h:Int}(he:gz l w h=0):BkQ (gY l w h):=by
 obtain⟨hw,hh,hc⟩:=rU he;obtain⟨hisb,hn,hwo,hcs⟩:=p9 hc;exact⟨(l4 hl he).toBkFull,hn,N1 l hl⟩
open Go.Proofs
def ay.Ve{K U:ad}{e sz:Nat}{v:V}{rows:List V}(h:ay K U e sz v rows):
 ∃idA,bL U e sz v=some (rows,idA)/\(∀Z2,aa K Z2->aa K (bN Z2 idA))/\∀i,idA=some i->∃e rows0,U i=some ⟨e,sz,rows0⟩:=by
 rcases h with⟨rfl,rfl⟩|⟨id,rfl,ho,hk⟩
 .exact⟨none,rfl,λ_ h=>h,λ_ h=>by cases h⟩
 .refine⟨some id,?_,λZ2 h=>h.oN hk,λi h=>by cases h;exact⟨_,_,ho⟩⟩;simp only[bL,ho];rw[av ⟨trivial,trivial,trivial,Wa _⟩,eF]
def N0(l:List Nd)(hl1:l.length<=10000)(hl2:∀x∈l,x.words.length<=1000000000)(U:ad):au prog 7 [aF l] U λr Z'=>aa U Z'/\ln U Z' r l:=by
 refine e7.q ?_;refine mS 6 ?_;simp only[go_sem,seval,c7];refine ai.loop (λm st=>∃i:Nat,i<=l.length/\m=l.length-i/\aa U st.U/\ln U st.U (st.s 3) (l.take i)/\st.s 0=aF l/\st.s 4=vI i) l.length ?_ ?_
 .exact⟨0,by omega,rfl,aa.refl U,ln.nil,rfl,rfl⟩
 .rintro m ⟨S,J⟩ ⟨i,hi,rfl,hs,⟨rows,ho,hr⟩,h0,h4⟩;simp only at hs ho hr h0 h4;generalize hv3:S 3=v3 at*;refine ai.mix 6 ?_;have Xs:=bU l;by_cases B':i<l.length
  .have q:=qT B';have WQ:=λU=>bR (U:=U) (l:=l) (a:=i) B';have hxw:=hl2 _ (Ws B');have V9:l.take (i+1)=l.take i++[l[i]]:=XH B';have hn:=hr.len;rw[jN]at hn;generalize l[i]=x at*;have r1:=rI i;have hK:=hs;clear hs;have hs:=aa.refl J;have hir:=qp;have hb:x.words.length*9<=140737488355328:=by omega
   have V1:(rows.length+1)*177<=140737488355328:=by omega
   apply sR;simp only[go_sem,seval,h0,h4,Xs,q,WQ,Nd.cells];refine ar hs λi5 Z5 s5 a5 f5 z5 hs=>?_;simp only[go_sem,seval,a5];generalize Ys:C' _ i5 _=Y5;replace a5:=WC Ys;replace hs:=WD Ys hs z5;refine ar hs λi16 Z16 s16 ZG f16 z16 hs=>?_;obtain⟨n516,a5⟩:=VB a5 f16 s16;have hd:bL Z16 3 1 (.own i16 0 0)=some ([],some i16):=by
    simp only[bL,ZG];rw[av (by simp)];simp
   simp only[go_sem,seval,h0,h4,WQ,Nd.cells,oU,hir,hd,hb,bN,cO,fU];refine Gx λi22 Z22 s22 a22 f22=>?_;have b5:=s22 i5 _ (by rw[cc n516];exact a5);have z22:=hs.none f22;have n522:=aU a5 f22;replace hs:=(hs.oN z16).trans s22;replace a5:=b5;simp only[go_sem,seval,a5,hv3];generalize Ys:C' _ i5 _=Y5;replace a5:=WC Ys;replace a22:=VN Ys n522.symm a22;replace hs:=WD Ys hs z5;refine ar hs λi26 Z26 s26 a26 f26 _ hs=>?_;replace a5:=s26 _ _ a5;replace a22:=s26 _ _ a22;obtain⟨idA,ZO,VL,hA⟩:=(ho.mono hs).Ve;have hsr:=bJ a26;simp only[go_sem,seval,ZO,hsr,V1];refine bt λi27 Z27 s27 a27 f27=>?_;have Yr:=hK.trans hs;have hs3:=(VL _ Yr).trans s27;have WI:dz U Z27 (l.take (i+1)) (rows++[ndW x (.own i22 0 x.words.length)]):=by
    rw[V9];exact dz.bN hA s27 ((hr.mono hs).app ⟨⟨_,rfl,ay.new (by simp) a22 (hK.none z22)⟩,trivial⟩)
   simp only[go_sem,seval,h0,h4,r1];exact⟨_,by omega,i+1,by omega,rfl,hs3,⟨_,ay.new (by simp) a27 (hK.none (hs.none f27)),WI⟩,rfl⟩
  .have q:=qF B';rw[nq (by omega)]at hr;apply sR;simp only[go_sem,seval,h0,hv3,h4,Xs,q];exact WZ ⟨hs,rows,ho,hr⟩
open Go.Proofs
def At{l:List Nd}{i:Nat}{c:Int}(h:i<l.length)(hw:∀x∈l.take i,(x.words.length:Int)<=c)(hc:0<=c):∀x∈l.take (i+1),(x.words.length:Int)<=c+l[i].words.length:=λx hx=>by
 rw[XH h]at hx;rcases ec.1 hx with h1|h1
 .have:=hw x h1;omega
 .rw[jO.1 h1];omega
def JN(l:List Nd)(hlen:l.length<=1000000000000)(hw:∀x∈l,x.words.length<=200000000000000)(U:ad):
 au prog 5 [aF l] U λr Z'=>(∃x,r=.bool x/\(x=false->l.length<=30/\∀x∈l,x.words.length<=120))/\Z'=U:=by
 refine e5.q ?_;have Xs:=bU l;refine ai.mix 5 ?_;by_cases h30:l.length<=30
 .have q0:((l.length:Int)>30)=False:=H';apply sR;simp only[go_sem,seval,c5,Xs,q0];refine ai.loop (λm st=>∃(i:Nat) (c:Int),i<=l.length/\m=l.length-i/\st.U=U/\st.s 0=aF l/\st.s 3=vI c/\0<=c/\c<=i*200000000000000/\st.s 4=vI i/\∀x∈l.take i,(x.words.length:Int)<=c) l.length ?_ ?_
  .exact⟨0,0,by omega,by omega,rfl,rfl,rfl,by omega,by omega,rfl,λx hx=>by simp at hx⟩
  .rintro m ⟨S,J⟩ ⟨i,c,hi,rfl,V7,t0,t3,hc0,hc1,t4,hwc⟩;simp only at V7 t0 t3 t4;subst V7;refine ai.mix 5 ?_;by_cases B':i<l.length
   .have q1:=qT B';have WQ:=λU=>bR (U:=U) (l:=l) (a:=i) B';have hwi:=hw _ (Ws B');have hlw:=cy l[i].words;have r1:=rI i;have r2:VO .i64 (c+l[i].words.length):=ae;have hwd:=At B' hwc hc0;apply sR;simp only[go_sem,seval,t0,t3,t4,Xs,q1,WQ,Nd.cells,hlw,r1,r2,oU];exact⟨_,by omega,i+1,_,by omega,rfl,rfl,by omega,by omega,rfl,hwd⟩
   .have q1:=qF B';by_cases hv:c>120
    .have q2:(c>120)=True:=L' hv;apply sR;simp only[go_sem,seval,t0,t3,t4,Xs,q1,q2];exact WZ ⟨⟨_,rfl,λh=>by cases h⟩,rfl⟩
    .have q2:(c>120)=False:=H' hv;apply sR;simp only[go_sem,seval,t0,t3,t4,Xs,q1,q2];exact WZ ⟨⟨_,rfl,λ_=>⟨h30,λy hy=>by have:=hwc y (by rwa [nq (by omega)]);omega⟩⟩,rfl⟩
 .have q0:((l.length:Int)>30)=True:=L';apply sR;simp only[go_sem,seval,c5,Xs,q0];exact WZ ⟨⟨_,rfl,λh=>by cases h⟩,rfl⟩
variable {P:Program} {n:Nat} {st:St} {Q:St->Prop} {k:List It} {I:Mu} {w:World}
def y7{F:Fr}{a:Act}(hs:dB F I st a w){o:Oper}{x:Operand}{t e:TypeId}{args:Array Operand}{argTypes:Array TypeId}{i:TypeInfo}{z:Value}
 (hoo:o.op=.call { callee:=.builtin .clear,args:=args,argTypes:=argTypes })(harg:args=#[x])(Zq:argTypes[0]?=some t)
 (ht:P.underlying t=some (.slice e))(hz:zeroOf P e=some (i,z))(h1:(cx F.n x).ev st.s=.aO):
 ∃y w',(execOp a.eval o).run P w=.ok (.value y) w'/\dB F I ⟨bc st.s (o.dst.filter (·<F.n)) (.VG []),st.U⟩ (a.put o.dst y) w':=by
 have hx:=dr hs x;rw[h1]at hx;simp only[E']at hx;have Wv:∀w',(Builtin.clear_ argTypes o.type #[a.eval x]).run P w=.ok (.tuple #[]) w'->(execOp a.eval o).run P w=.ok (.value (.tuple #[])) w':=by
  intro w' hw';unfold execOp;rw[hoo];simp[resolve,invoke,Go.builtin,harg,hw']
 have XJ:E' I (aE I st.U) w (.VG []) (.tuple #[]):=by simp only[E'];exact⟨[],rfl,by simp[aq]⟩
 refine⟨.tuple #[],w,Wv w ?_,hs.pure XJ⟩;rw[hx];simp[Builtin.clear_,Zq,run_underlying ht]
def ai.H6{i:aK}{l:List aK}{sz:Nat}{z:V}{xv:VX}(hw:bz st.s i.g=some true)(ho:i.op=.clear sz z xv)(h1:xv.ev st.s=.aO)
 (h:ai P n (.ops l::k) ⟨bc st.s i.dst (.VG []),st.U⟩ Q):ai P n (.ops (i::l)::k) st Q:=by
 refine ai.ins (by rw[ho];simp) hw λF hn I a w o all hi hs next Q' VT=>?_
 subst hn;obtain⟨VS,hd⟩:=ff hi;rw[ho]at VS;obtain⟨x,t,e,args,argTypes,ti,zv,g1,g2,g3,g4,g5,rfl,rfl,rfl⟩:=yg VS;obtain⟨y,w',hx,VW⟩:=y7 hs g1 g2 g3 g4 g5 h1;unfold Oper.wp;rw[hx];refine VT _ _ _ ⟨I,?_⟩ h;rw[<-hd];exact VW
open Go.Proofs
def Ie(K U:ad)(l:List Nd)(rows:List V):Prop:=∀(i:Nat) (x:Nd),l[i]?=some x->∃w,rows[i]?=some (ndW x w)/\(w=.aO\/∃id len ws,w=.own id 0 len/\U id=some ⟨3,1,ws⟩/\len<=ws.length/\K id=none)
def dz.SN{K U:ad}{l:List Nd}{rows:List V}(h:dz K U l rows):Ie K U l rows:=λi x hx=>by
 obtain⟨w,h1,h2⟩:=h.get i hx;refine⟨w,h1,?_⟩;rcases h2 with⟨h2,_⟩|⟨id,h2,h3,h4⟩
 .exact .inl h2
 .exact .inr ⟨id,_,_,h2,h3,Wa _,h4⟩
def Ie.C'{K U:ad}{l:List Nd}{rows:List V}(h:Ie K U l rows){id:Nat}{ws ws':List V}(ho:U id=some ⟨3,1,ws⟩)(hl:ws'.length=ws.length):Ie K (Vc.C' U id ⟨3,1,ws'⟩) l rows:=λi x hx=>by
 obtain⟨w,h1,h2⟩:=h i x hx;refine⟨w,h1,h2.imp (λh=>h) λ⟨j,len,vs,g1,g2,g3,g4⟩=>?_⟩;by_cases hj:j=id
 .subst hj;rw[ho]at g2;simp only[aS,Ob.mk.injEq,true_and]at g2;subst g2;exact⟨j,len,ws',g1,ag,by omega,g4⟩
 .exact⟨j,len,vs,g1,by rw[ab hj];exact g2,g3,g4⟩
def ln.vc{K U:ad}{v:V}{l:List Nd}(h:ln K U v l):v.cells=[v]/\v.stays=true:=by
 obtain⟨_,h,_⟩:=h;exact h.vc
def ln.same{K U:ad}{v:V}{l:List Nd}(h:ln K U v l)(hl:ep l):∀Z1,aa U Z1->au prog 10 [v,aF l] Z1 λr Z'=>r=.bool true/\Z'=Z1:=λZ1 h1=>by
 have q:=JU l l hl hl;rw[WJ rfl]at q;refine aL.borrow (args':=[aF l,aF l]) ?_ q rfl;simp only[WkL];exact⟨(h.mono h1).wk (eu _) (eu _),Wk.refl (eu _) _,trivial⟩
def ai.R4{P:Program}{n:Nat}{Q:St->Prop}{k:List It}{s:Nat->V}{U K:ad}(l:List Nat){i e sz:Nat}{rows rows':List V}(hK:aa K U)(hi:K i=some ⟨e,sz,rows⟩)(Xr:sz≠0)(hf:XK U (λid=>K id=none) rows rows')
 (h:ai P n k ⟨lV l s,C' K i ⟨e,sz,rows'⟩⟩ Q):ai P n k ⟨s,U⟩ Q:=λF hn kt hk a w hsF=>h F hn kt hk a w (by
 obtain⟨I,hm⟩:=hsF;have hk:=hm.sat.drop hK;have hOe:aE I (C' K i ⟨e,sz,rows'⟩)=aE I K:=by
  funext b;apply propext;constructor
  .rintro⟨id,x,XP,cap,h1,h2⟩;by_cases ee:id=i
   .subst ee;exact⟨id,_,XP,cap,hi,h2⟩
   .rw[ab ee]at h1;exact⟨id,x,XP,cap,h1,h2⟩
  .rintro⟨id,x,XP,cap,h1,h2⟩;by_cases ee:id=i
   .subst ee;exact⟨id,_,XP,cap,ag,h2⟩
   .exact⟨id,x,XP,cap,(ab ee).trans h1,h2⟩
 have hd:=XK.down hm.sat hK (λ_ h=>h) hf;have key:∀id x,C' K i ⟨e,sz,rows'⟩ id=some x->∃y,K id=some y:=λid x hx=>by
  by_cases ee:id=i
  .exact⟨_,ee▸hi⟩
  .rw[ab ee]at hx;exact⟨x,hx⟩
 have Zr:∀j,Wk U K (s j) (lV l s j):=λj=>by
  unfold lV;split
  .exact Wk.refl hK _
  .exact Wk.undef _
 refine⟨I,⟨hk.size,hk.os,hk.tape,hk.output,hk.same,hk.fin,?_,?_,λb hb=>hk.fresh b (hOe▸hb),hk.Za⟩,hm.le,hm.size,?_,λj hj=>?_⟩
 .intro id Xn x x' b sz cap XP W2 h1 h2 h3 h4;obtain⟨y,hy⟩:=key _ _ h1;obtain⟨y',hy'⟩:=key _ _ h2;exact hk.inj id Xn y y' b sz cap XP W2 hy hy' h3 h4
 .intro id x hx;replace hx:C' K i ⟨e,sz,rows'⟩ id=some x:=hx;show mB I (aE I (C' K i ⟨e,sz,rows'⟩)) w x (I id);rw[hOe];by_cases ee:id=i
  .subst ee;rw[ag]at hx;cases hx;have ho:=hm.sat.obj id _ (hK _ _ hi);cases hp:I id with
   |dI=>rw[hp]at ho;exact ho
   |nil=>
    rw[hp]at ho;have ho':rows=[]:=ho;exact pV (by rw[hd.2.2.2,ho'];rfl)
   |WH b sz cap=>
    rw[hp]at ho;rcases ho with⟨cur,h1,h2,h3,h4,h5,h6,h7⟩|⟨_,h2,_⟩
    .exact .inl ⟨cur,h1,h2,h3,h4,by rw[hd.2.2.2];exact h5,h6,hd.2.2.1 _ _ _ h7⟩
    .exact absurd h2 Xr
  .rw[ab ee]at hx;exact hk.obj id x hx
 .show IG F (aE I (C' K i ⟨e,sz,rows'⟩)) _ _;rw[hOe];exact hm.book.mR (di.sub w hK)
 .show E' I (aE I (C' K i ⟨e,sz,rows'⟩)) w _ _;rw[hOe];exact Zr j I _ _ _ _ hm.sat (hm.slot j hj))
def Aq(x:XY)(hx:x.bw.length<=1000000)(a d:Int)(f:Bool):aL prog 15 [bl x,.agg [vI a,vI d,.bool f,.aO]] (.bool (decide (x.s.atom=a/\x.s.done=d/\x.s.free=f/\x.bw=[]))):=λU=>
 au.DE (args':=[bl x,bl ⟨⟨a,d,f⟩,[]⟩]) (by
  simp only[WkL];exact⟨Wk.refl (aa.refl U) _,Wk.agg (vs':=[vI a,vI d,.bool f,.sl 7 []]) ⟨Wk.refl (aa.refl U) _,Wk.refl (aa.refl U) _,Wk.refl (aa.refl U) _,Wk.aO 7,trivial⟩,trivial⟩) (wC x ⟨⟨a,d,f⟩,[]⟩ hx U)
def Ml(p:Pag)(hp:p.hs.length<=2000000/\p.fs.length<=2000000/\p.ls.length<=2000000):aL prog 20 [ew p,.agg [vI 0,vI 0,.aO,.aO,.aO]] (.bool (decide (p=⟨0,0,[],[],[]⟩))):=λU=>
 au.DE (args':=[ew p,ew ⟨0,0,[],[],[]⟩]) (by
  simp only[WkL];exact⟨Wk.refl (aa.refl U) _,Wk.agg (vs':=[vI 0,vI 0,.sl 7 [],.sl 7 [],.sl 7 []]) ⟨Wk.refl (aa.refl U) _,Wk.refl (aa.refl U) _,Wk.aO 7,Wk.aO 7,Wk.aO 7,trivial⟩,trivial⟩) (Ht p ⟨0,0,[],[],[]⟩ hp U)
def tD5:List (List Nat):=[[],[0],[],[],[3],[2,4,3],[1,5,0,2,4,3],[],[7,6,5,0,1,2,3,4]]
def AR(aw:aL prog 6 [] (.bool true))(l:List Nd)(hlen:l.length<=1000000000000)(hw:∀x∈l,x.words.length<=200000000000000)(w h:Int)(s:XY):
 aL prog 3 [aF l,vI w,vI h,bl s] (.bool true):=λU=>by
 refine e3.q ?_;have hs:=aa.refl U;have XF:∀x:XY,(bl x).cells=[vI x.s.atom,vI x.s.done,.bool x.s.free,aC x.bw]:=λ_=>rfl;have hss:∀x:XY,(bl x).stays=true:=λ_=>rfl;have hlp:=cQ s.bw;have XL:∀x:Bool,(x==x)=true:=by simp
 refine mS 22 ?_;simp only[go_sem,seval,c3,XF,hss];refine ar hs λi7 Z7 s7 a7 f7 _ hs=>?_;simp only[go_sem,seval];refine Xv rfl (JN l hlen hw _) ?_;rintro r Z' ⟨⟨x,rfl,hx⟩,rfl⟩;cases x with
 |true=>
  apply sR;simp only[go_sem,seval];refine pS rfl (aw _) ?_;simp only[go_sem,seval];exact ak.pure hs rfl
 |false=>
  obtain⟨h30,hw120⟩:=hx rfl;have hl:ep l:=⟨by omega,hw⟩
  by_cases hp:s.bw.length>40
  .have q0:((s.bw.length:Int)>40)=True:=L';apply sR;simp only[go_sem,seval,a7,hlp,q0,XF];refine pS rfl (aw _) ?_;simp only[go_sem,seval];exact ak.pure hs rfl
  .have q0:((s.bw.length:Int)>40)=False:=H';apply sR;simp only[go_sem,seval,a7,hlp,q0,XF];refine Xv rfl (N0 l (by omega) (λx hx=>by have:=hw120 x hx;omega) _) ?_;rintro v9 Z9 ⟨s9,ho9⟩;obtain⟨c9,st9⟩:=ho9.vc;have a7o:=a7;replace a7:=s9 _ _ a7;replace hs:=hs.trans s9;have Xe:∀J,aa Z9 J->au prog 8 [v9,vI w,vI h] J λr Z'=>r=.VG [vU l w h,vI (gz l w h)]/\Z'=J:=λJ hτ=>by
    refine LY l hl w h ?_;simp only[WkL];exact⟨(ho9.mono hτ).wk (eu _) (eu _),Wk.refl (eu _) _,Wk.refl (eu _) _,trivial⟩
   have hqn:=Nn l hl w h;apply sR;simp only[go_sem,seval];refine pR rfl (Xe _ (aa.refl _)) ?_;by_cases he:gz l w h=0
   .have hb:=l4 hl he;have hbq:=Mv hl he;rw[Dr,av he]at hqn;rw[vU,av he];rw[he]at hqn|-;generalize gY l w h=b at*;have q1:((0:Int)≠0)=False:=H' (λh=>h rfl);have fin:∀(S:Nat->V) (J:ad) (i12 i15 i16:Nat) (hsY:aa U J) (z15:U i15=none) (z16:U i16=none) (a7:J i7=some ⟨27,4,[bl s]⟩) (a12:J i12=some ⟨40,7,[.agg [aF b.nodes,vI b.w,vI b.h,bn b.atoms,aC b.VH,vI b.VA,bG b.V4]]⟩)
     (WN:J i15=some ⟨27,4,[.agg [vI s.s.atom,vI s.s.done,.bool s.s.free,.own i16 0 s.bw.length]]⟩) (ZG:J i16=some ⟨100,7,s.bw.map aG⟩) (t7:S 7=.ptr i7 0 0) (t10:S 10=.rp (bu b)) (t12:S 12=.ptr i12 0 0) (t15:S 15=.ptr i15 0 0),
     ai prog 167 [It.code c3.code.rt.rt.rt.rt.rt.rt.rt.rt.rt.rt.rt.rt] ⟨S,J⟩ λst=>Ret [.tmp (.t 8)] st λr Z'=>r=.bool true/\Z'=U:=by
     intro S J i12 i15 i16 hsY z15 z16 a7 a12 WN ZG t7 t10 t12 t15;have m7:i7≠i16:=λe=>by rw[e,ZG]at a7;cases a7
     have m12:i12≠i16:=λe=>by rw[e,ZG]at a12;cases a12
     have m15:i15≠i16:=λe=>by rw[e,ZG]at WN;cases WN
     have m715:i7≠i15:=λe=>by rw[e,WN]at a7;cases a7
     have m1215:i12≠i15:=λe=>by rw[e,WN]at a12;cases a12
     have Wr:Fz J (λid=>del J i16 id=none) (.own i16 0 s.bw.length) (aC s.bw):=ay.fz (ay.new (K:=del J i16) (by simp) ZG (by simp[del])) (λ_ h=>h) (nK (λ_=>rfl) _);refine ai.R4 [7,10,12,15] (aa.vK J i16) ((cc m15).trans WN) (by decide) (rows':=[bl s]) (.cons _ _ _ _ (.agg _ _ (.cons _ _ _ _ (.same _ rfl) (.cons _ _ _ _ (.same _ rfl) (.cons _ _ _ _ (.same _ rfl) (.cons _ _ _ _ Wr .nil))))) .nil) ?_;generalize hT:C' (del J i16) i15 _=T;have hs:aa U T:=hT▸(hsY.oN z16).az z15;replace a7:=(congrFun hT i7).symm.trans ((ab m715).trans ((cc m7).trans a7));replace a12:=(congrFun hT i12).symm.trans ((ab m1215).trans ((cc m12).trans a12));replace WN:=(congrFun hT i15).symm.trans ag;clear hT hsY Wr ZG;have u7:lV [7,10,12,15] S 7=.ptr i7 0 0:=t7;have u10:lV [7,10,12,15] S 10=.rp (bu b):=t10;have u12:lV [7,10,12,15] S 12=.ptr i12 0 0:=t12;have u15:lV [7,10,12,15] S 15=.ptr i15 0 0:=t15;generalize lV [7,10,12,15] S=S' at*;clear t7 t10 t12 t15;have YB:s.bw.length<=1000000:=by omega
     have hpc:∀p:Pag,(ew p).cells=[vI p.no,vI p.kind,bQ p.hs,bQ p.fs,bQ p.ls]:=λ_=>rfl;have hps:∀p:Pag,(ew p).stays=true:=λ_=>rfl;obtain⟨p,t,g,E,hpg,hec,hbe,hcase⟩:∃(p:Pag) (t:XY) (g:Int) (E:Bool),aL prog 18 [.rp (bu b),bl s] (.VG [ew p,bl t,vI g])/\aL prog 17 [bu b,bl s] (.bool E)/\aL prog 19 [.rp (bu b),bl s] (.bool E)/\
      ((E=true/\p=⟨0,0,[],[],[]⟩/\t=⟨⟨0,0,false⟩,[]⟩/\g=4)\/(¬ic b s/\E=false/\p=(dK b s).1/\t=(dK b s).2/\g=0)):=by
      have hpg:=Er b hb.toBkFull hb.fh s YB;by_cases hen:ic b s
      .rw[av hen]at hpg;exact⟨_,_,_,_,hpg,Ee b hb.toBkFull s YB,qo b hb.toBkFull s YB,.inl ⟨WJ hen,rfl,rfl,rfl⟩⟩
      .rw[aD hen]at hpg;exact⟨_,_,_,_,hpg,Ee b hb.toBkFull s YB,qo b hb.toBkFull s YB,.inr ⟨hen,WW hen,rfl,rfl,rfl⟩⟩
     have W9:=wC s s YB;rw[WJ ⟨rfl,rfl,rfl,rfl⟩]at W9;rw[oW]at hec;refine mS 22 ?_;simp only[go_sem,seval,c3,bW.rt,u7,u12,a7,a12,XF];refine pS rfl (hec _) ?_;simp only[go_sem,seval,u10,u15,WN,XF];refine pS rfl (hpg _) ?_;simp only[go_sem,seval];refine ar hs λi17 Z17 s17 ZA f17 z17 hs=>?_;obtain⟨n717,a7⟩:=VB a7 f17 s17;obtain⟨n1217,a12⟩:=VB a12 f17 s17;obtain⟨n1517,WN⟩:=VB WN f17 s17;simp only[go_sem,seval];refine ar hs λi18 Z18 s18 a18 f18 z18 hs=>?_;obtain⟨n718,a7⟩:=VB a7 f18 s18;obtain⟨n1218,a12⟩:=VB a12 f18 s18;obtain⟨n1518,WN⟩:=VB WN f18 s18;obtain⟨n1718,ZA⟩:=VB ZA f18 s18;simp only[go_sem,seval,a18,ZA,WN,u10,u15,hpc,hps,XF,hss,ab n1518,ab n1517,ab n1718.symm];generalize YZ:C' (C' _ i17 _) i18 _=ZX;replace a7:=((congrFun YZ i7).symm.trans ((ab n718).trans (ab n717))).trans a7;replace a12:=((congrFun YZ i12).symm.trans ((ab n1218).trans (ab n1217))).trans a12;replace WN:=((congrFun YZ i15).symm.trans ((ab n1518).trans (ab n1517))).trans WN;replace ZA:=(congrFun YZ i17).symm.trans ((ab n1718).trans ag);replace a18:=WC YZ;replace hs:=Eq.subst (motive:=aa U) YZ ((hs.az z17).az z18);clear YZ;refine pS rfl (hbe _) ?_;simp only[go_sem,seval,XL,Bool.not_true,u7,u15,WN,a7,XF];refine pS rfl (W9 _) ?_;simp only[go_sem,seval,Bool.not_true];rcases hcase with⟨rfl,rfl,rfl,rfl⟩|⟨hen,rfl,rfl,rfl,rfl⟩
     .have w1:=Ml ⟨0,0,[],[],[]⟩ ⟨by simp,by simp,by simp⟩;have w2:=Aq ⟨⟨0,0,false⟩,[]⟩ (by simp) 0 0 false;rw[WJ rfl]at w1;rw[WJ ⟨rfl,rfl,rfl,rfl⟩]at w2;have q4:((4:Int)=4)=True:=L' rfl;simp only[go_sem,seval,ZA,hpc];refine pS rfl (w1 _) ?_;simp only[go_sem,seval,a18,XF];refine pS rfl (w2 _) ?_;simp only[go_sem,seval];refine pS rfl (aw _) ?_;simp only[go_sem,seval];exact ak.pure hs rfl
     .have Xz:jP b s:=Decidable.byContradiction λh=>hen (.inl h);have hqp:=KS b hbq hb s Xz;have hpe:=ID hb.toBkFull hb.YF hb.pos hb.mayb Xz (λf hf=>hb.fh f (kE _ _ Xz.1 f hf));have Yy:=IX hb hen;have htl:=Fu hb YB hen;rw[<-hpe,oW]at hqp;clear hpe hpg;generalize dK b s=PR at*;obtain⟨p,t⟩:=PR;simp only at hqp Yy htl|-;have w1:=Ht p p (by omega);have w2:=wC t t htl;rw[WJ rfl]at w1;rw[WJ ⟨rfl,rfl,rfl,rfl⟩]at w2;have q0':((0:Int)=0)=True:=L' rfl;simp only[go_sem,seval,u7,u12,a7,a12,XF];refine pS rfl (hqp _) ?_;simp only[go_sem,seval];refine ar hs λi20 Z20 s20 a20 f20 z20 hs=>?_;obtain⟨n1720,ZA⟩:=VB ZA f20 s20;obtain⟨n1820,a18⟩:=VB a18 f20 s20;simp only[go_sem,seval];refine ar hs λi21 Z21 s21 a21 f21 z21 hs=>?_;obtain⟨n1721,ZA⟩:=VB ZA f21 s21;obtain⟨n1821,a18⟩:=VB a18 f21 s21;obtain⟨n2021,a20⟩:=VB a20 f21 s21;simp only[go_sem,seval,a21,a20,ZA,hpc,hps,XF,hss,ab n2021,ab n1721,ab n1720,ab n2021.symm];refine pS rfl (w1 _) ?_;simp only[go_sem,seval,a18,XF,ab n1821,ab n1820];refine pS rfl (w2 _) ?_;simp only[go_sem,seval];refine pS rfl (aw _) ?_;simp only[go_sem,seval];exact ak.pure ((hs.az z20).az z21) rfl
    rw[oW]at hqn;apply sR;simp only[go_sem,seval];refine pS rfl (hqn _) ?_;simp only[go_sem,seval];refine ar hs λi12 Y12 s12 a12 f12 z12 hs=>?_;obtain⟨n712,a7⟩:=VB a7 f12 s12;simp only[go_sem,seval,a12,q1,tj,XL,Bool.not_true];generalize Xp:C' _ i12 _=Z12;have k9:aa Z9 Z12:=Xp▸s12.az f12;replace a12:=WC Xp;replace a7:=VN Xp n712 a7;replace hs:=WD Xp hs z12;refine pS rfl (ho9.same hl _ k9) ?_;simp only[go_sem,seval,tj];obtain⟨rows,VQ,hrw⟩:=ho9;have ZL:=hrw.len;refine ai.gy (λst=>aa Z' st.U/\ay Z' st.U 48 20 v9 rows/\st.U i12=some ⟨40,7,[.agg [aF b.nodes,vI b.w,vI b.h,bn b.atoms,aC b.VH,vI b.VA,bG b.V4]]⟩/\st.s 7=.ptr i7 0 0/\st.s 9=v9/\st.s 10=.rp (bu b)/\st.s 12=.ptr i12 0 0)
     (λm st=>∃i:Nat,i<=l.length/\m=l.length-i/\aa Z' st.U/\Ie Z' st.U l rows/\ay Z' st.U 48 20 v9 rows/\st.U i12=some ⟨40,7,[.agg [aF b.nodes,vI b.w,vI b.h,bn b.atoms,aC b.VH,vI b.VA,bG b.V4]]⟩/\st.s 7=.ptr i7 0 0/\st.s 9=v9/\st.s 10=.rp (bu b)/\st.s 12=.ptr i12 0 0/\st.s 14=vI i) l.length ?_ ?_ ?_
    .exact⟨0,by omega,rfl,s9.trans k9,(hrw.mono k9).SN,VQ.mono k9,a12,rfl,rfl,rfl,rfl,rfl⟩
    .rintro m ⟨S,J⟩ ⟨i,hi,rfl,hs7,hclr,ho,h12,t7,t9,t10,t12,t14⟩;simp only at hs7 hclr ho h12 t7 t9 t10 t12 t14;refine ai.mix 22 ?_;have Xs:=ho.len;rw[ZL]at Xs
     (refine ai.bH Xu.nothing 9 ?_;simp only[go_sem,seval,rB,t9,t14,Xs])
     refine And.intro (λh=>?_) (λh=>?_)
     .have B':i<l.length:=by omega
      obtain⟨id,rfl,WI⟩:∃id,v9=.own id 0 rows.length/\J id=some ⟨48,20,rows⟩:=by
       rcases ho with⟨_,h0⟩|⟨id,h1,h2,_⟩
       .rw[h0]at ZL;simp at ZL;omega
       .exact⟨id,h1,h2⟩
      obtain⟨u,hru,hu⟩:=hclr i _ (Zq6 B');have hc:(0:Int)<=(i:Int)/\(i:Int)<l.length:=by omega
      generalize l[i]=y at*;simp only[ndW]at hru;rcases hu with rfl|⟨idw,len,ws,rfl,g2,g3,g4⟩
      ·(refine ai.bH Xu.nothing 14 ?_;simp only[go_sem,seval,t9,t14,WI,ZL,hc,hru,fp])
       refine ai.H6 rfl rfl rfl ?_;apply sR;simp only[go_sem,seval,t7,t9,t10,t12,t14];exact⟨ae,_,by omega,i+1,by omega,rfl,hs7,hclr,by rw[<-ZL];exact ho,h12,by simp[ZL]⟩
      ·(refine ai.bH Xu.nothing 14 ?_;simp only[go_sem,seval,t9,t14,WI,ZL,hc,hru,fp])
       have V2:id≠idw:=λe=>by subst e;rw[WI]at g2;simp at g2
       have hne2:i12≠idw:=λe=>by subst e;rw[h12]at g2;simp at g2
       have hle:(ws.take 0++List.replicate len (V.int .i64 0)++ws.drop (0+len)).length=ws.length:=by simp;omega
       refine ai.clear (id:=idw) (off:=0) (len:=len) (ob:=⟨3,1,ws⟩) rfl rfl rfl g2 rfl (by simpa using g3) ?_;have k2:=hclr.C' g2 hle;have k3:=hs7.az (o:=⟨3,1,ws.take 0++List.replicate len (V.int .i64 0)++ws.drop (0+len)⟩) g4;have k4:ay Z' (C' J idw ⟨3,1,ws.take 0++List.replicate len (V.int .i64 0)++ws.drop (0+len)⟩) 48 20 (.own id 0 rows.length) rows:=by
        rcases ho with⟨h0,_⟩|⟨j,h1,h2,h3⟩
        .cases h0
        .injection h1 with h1
         subst h1;exact .inr ⟨id,rfl,(ab V2).trans h2,h3⟩
       have k5:=(ab (U:=J) (o:=⟨3,1,ws.take 0++List.replicate len (V.int .i64 0)++ws.drop (0+len)⟩) hne2).trans h12;generalize ws.take 0++List.replicate len (V.int .i64 0)++ws.drop (0+len)=ws' at*;apply sR;simp only[go_sem,seval,t7,t9,t10,t12,t14];exact⟨ae,_,by omega,i+1,by omega,rfl,k3,k2,by rw[<-ZL];exact k4,k5,by simp[ZL]⟩
     .apply sR;simp only[go_sem,seval,t7,t9,t10,t12];exact⟨hs7,ho,h12⟩
    .rintro⟨S,J⟩ ⟨hs7,ho,h12,t7,t9,t10,t12⟩;simp only at hs7 ho h12 t7 t9 t10 t12;refine mS 22 ?_;simp only[go_sem,seval,t9];rcases ho with⟨rfl,rfl⟩|⟨id,rfl,WI,hk⟩
     case' inl=>
      refine ai.H6 rfl rfl rfl ?_
     case' inr=>
      refine ai.clear (id:=id) (off:=0) (len:=rows.length) (ob:=⟨48,20,rows⟩) rfl rfl rfl WI rfl (by simp) ?_;have V2:i12≠id:=λe=>by subst e;rw[h12]at WI;simp at WI
      generalize hq:C' J id _=J;replace hs7:aa Z' J:=hq▸hs7.az hk;replace h12:=(congrFun hq i12).symm.trans ((ab V2).trans h12);clear hq WI hk V2
     all_goals
      have h7:=hs7 _ _ a7o;have hgs:=IZ ⟨b.atoms,b.VH,b.VA⟩ ⟨b.atoms,b.VH,b.VA⟩ ⟨by have:=hb.len;show b.atoms.length<=_;omega,hb.ZH⟩ rfl;apply sR;simp only[go_sem,seval,t10];have YX:=hb.len;have WX:=hb.brk;have Ya:=Hh b.V4 b.V4 (by omega);have hsn:=Aq ⟨⟨0,0,true⟩,[]⟩ (by simp) 0 0 true;rw[WJ rfl]at Ya;rw[WJ ⟨rfl,rfl,rfl,rfl⟩]at hsn;refine pJ rfl (ET b hb.toBkFull) ?_;apply sG;simp only[go_sem,seval,t12,h12];refine pJ rfl hgs ?_;apply sG;simp only[go_sem,seval,t10,Bool.not_true];refine pJ rfl (FW b hb.toBkFull) ?_;apply sG;simp only[go_sem,seval,t12,h12];refine pJ rfl Ya ?_;apply sG;simp only[go_sem,seval,t10,Bool.not_true];refine pJ rfl (oH b hb.toBkFull) ?_;apply sG;simp only[go_sem,seval];refine pJ rfl hsn ?_;apply sG;simp only[go_sem,seval,Bool.not_true];apply sR;simp only[go_sem,seval,t10];refine Xv rfl (x7 b hb.toBkFull _) ?_;rintro vb Zb ⟨sb,WO⟩;apply sR;simp only[go_sem,seval];obtain⟨idb,rfl,hrb,hkb⟩:∃id,vb=.own id 0 (b.V4.map bY).length/\Zb id=some ⟨102,3,b.V4.map bY⟩/\J id=none:=by
       rcases WO with⟨_,h0⟩|h0
       .rw[List.map_eq_nil_iff]at h0;rw[h0]at WX;simp at WX
       .exact h0
      have nb7:i7≠idb:=λe=>by rw[e,hkb]at h7;cases h7
      have nb12:i12≠idb:=λe=>by rw[e,hkb]at h12;cases h12
      refine ai.clear (id:=idb) (off:=0) (len:=(b.V4.map bY).length) (ob:=⟨102,3,b.V4.map bY⟩) rfl rfl rfl hrb rfl (by simp) ?_;generalize hqb:C' Zb idb _=Yc;have g7:=(congrFun hqb i7).symm.trans ((ab nb7).trans (sb _ _ h7));have g12:=(congrFun hqb i12).symm.trans ((ab nb12).trans (sb _ _ h12));have hsK:aa U Yc:=(s7.trans hs7).trans (hqb▸sb.az hkb);clear hqb hrb sb WO h7 h12 hs;have hs:=hsK;clear hsK;have hsr:∀U,bM U 7 (aC s.bw)=some (s.bw.map aG):=λ_=>by simp[bM,aC]
      have hbp:s.bw.length*57<=140737488355328:=by omega
      have hd:True:=trivial;have Yf:True:=trivial;have WN:True:=trivial;have ZG:True:=trivial;apply sR;simp only[go_sem,seval,cp];refine ai.ug (by kernel_rfl) 8 (.fork tD5 [0,1,3,4] [2,7] [(.fork (sX tD5 [(7,[2]),(8,[2,7,6,5,0,1,3,4])]) [2] [5,7] [(.leaf (sX tD5 [(7,[5,2,4,3]),(8,[5,2,4,3,7,6,0,1])]) [5,6,7,8]),(.leaf [[],[0],[],[],[3],[7,2,4,3],[7,2,1,5,0,4,3],[2],[7,2,6,5,0,1,3,4]] [7,5,6,8])]),(.leaf (sX tD5 [(2,[7]),(5,[7,2,4,3]),(6,[7,1,5,0,2,4,3])]) [7,2,5,6,8])]) (by kernel_rfl) ?_;refine GT.pk (its:=[0,2,6,8]) (by kernel_rfl) ?_;refine cd (n:=0) [] [0,2,6,8] [_,_,_,_] rfl rfl ?_;simp only[go_sem,seval,t7,g7,XF,cO,fU,iC];refine⟨?_,?_⟩
      .refine GT.pk (its:=[4,3,9]) (by kernel_rfl) ?_;refine cd (n:=0) [3,9] [4] [_] rfl rfl ?_;simp only[go_sem,seval,iC];refine bB λi14 Z14 s14 Yf f14=>?_;have n714:=aU g7 f14;have n1214:=aU g12 f14;have hd:∀J:ad,J i14=some ⟨100,7,[]⟩->bL J 100 7 (.own i14 0 0)=some ([],some i14):=λJ h=>by
        simp only[bL,h];rw[av (by simp)];simp
       replace g7:=s14 _ _ g7;replace g12:=s14 _ _ g12
       try have hn15:i15≠i14:=aU WN f14
       try replace WN:=s14 _ _ WN
       obtain⟨z14,hs⟩:=nwZ hs f14 s14;simp only[go_sem,seval];refine cT rfl (by simp only[go_sem,seval,g7,XF,fU]) ?_;refine cT rfl (by simp only[go_sem,seval,g7,XF]) ?_;refine⟨?_,?_⟩
       .refine GT.gH (its:=[10,3,12,14,3,16]) (by kernel_rfl) ?_;refine cd (n:=0) [3,12,14,3,16] [10] [_] rfl rfl ?_;simp only[go_sem,seval,hd,Yf,hsr,hbp,bN,cO,fU,iC];refine qI λi16 Z16 s16 ZG f16=>?_
        try have n1615:i16≠i15:=(aU WN f16).symm
        replace g7:=s16 _ _ (by rw[cc n714];exact g7);replace g12:=s16 _ _ (by rw[cc n1214];exact g12)
        try replace WN:=s16 _ _ (by rw[cc hn15];exact WN)
        have z16:=hs.none f16;replace hs:=(hs.oN z14).trans s16;simp only[go_sem,seval];refine cT rfl (by simp only[go_sem,seval,g7,XF,fU]) ?_;refine cd (n:=0) [3,16] [12,14] [_,_] rfl rfl ?_;simp only[go_sem,seval,fU,iC];refine bB λi15 Z15 Yu WN f15=>?_;have n715:=aU g7 f15;have n1215:=aU g12 f15
        try have n1615:=aU ZG f15
        replace g7:=Yu _ _ g7;replace g12:=Yu _ _ g12
        try have hn15:i15≠i14:=(aU Yf f15).symm
        try replace Yf:=Yu _ _ Yf
        try replace ZG:=Yu _ _ ZG
        obtain⟨z15,hs⟩:=nwZ hs f15 Yu;simp only[go_sem,seval];refine cT rfl (by simp only[go_sem,seval,g7,XF,fU]) ?_;refine cd (n:=0) [] [16] [_] rfl rfl ?_;simp only[go_sem,seval,WN,fU];exact fin _ _ i12 i15 i16 (hs.az z15) z15 z16 ((ab n715).trans g7) ((ab n1215).trans g12) ag ((ab n1615).trans ZG) t7 t10 t12 rfl
       .refine GT.gH (its:=[14,3,9,10,3,12,16]) (by kernel_rfl) ?_;refine cd (n:=0) [3,9,10,3,12,16] [14] [_] rfl rfl ?_;simp only[go_sem,seval];refine bB λi15 Z15 Yu WN f15=>?_;have n715:=aU g7 f15;have n1215:=aU g12 f15
        try have n1615:=aU ZG f15
        replace g7:=Yu _ _ g7;replace g12:=Yu _ _ g12
        try have hn15:i15≠i14:=(aU Yf f15).symm
        try replace Yf:=Yu _ _ Yf
        try replace ZG:=Yu _ _ ZG
        obtain⟨z15,hs⟩:=nwZ hs f15 Yu;simp only[go_sem,seval];refine cT rfl (by simp only[go_sem,seval,g7,XF,fU]) ?_;refine cT rfl (by simp only[go_sem,seval,g7,XF]) ?_;refine cd (n:=0) [3,12,16] [10] [_] rfl rfl ?_;simp only[go_sem,seval,hd,Yf,hsr,hbp,bN,cO,fU,iC];refine qI λi16 Z16 s16 ZG f16=>?_
        try have n1615:i16≠i15:=(aU WN f16).symm
        replace g7:=s16 _ _ (by rw[cc n714];exact g7);replace g12:=s16 _ _ (by rw[cc n1214];exact g12)
        try replace WN:=s16 _ _ (by rw[cc hn15];exact WN)
        have z16:=hs.none f16;replace hs:=(hs.oN z14).trans s16;simp only[go_sem,seval];refine cT rfl (by simp only[go_sem,seval,g7,XF,fU]) ?_;refine cd (n:=0) [] [12,16] [_,_] rfl rfl ?_;simp only[go_sem,seval,WN,fU,iC];exact fin _ _ i12 i15 i16 (hs.az z15) z15 z16 ((ab n715).trans g7) ((ab n1215).trans g12) ag ((ab n1615).trans ZG) t7 t10 t12 rfl
      .refine GT.gH (its:=[14,3,9,4,3,9,10,3,12,16]) (by kernel_rfl) ?_;refine cd (n:=0) [3,9,4,3,9,10,3,12,16] [14] [_] rfl rfl ?_;simp only[go_sem,seval];refine bB λi15 Z15 Yu WN f15=>?_;have n715:=aU g7 f15;have n1215:=aU g12 f15
       try have n1615:=aU ZG f15
       replace g7:=Yu _ _ g7;replace g12:=Yu _ _ g12
       try have hn15:i15≠i14:=(aU Yf f15).symm
       try replace Yf:=Yu _ _ Yf
       try replace ZG:=Yu _ _ ZG
       obtain⟨z15,hs⟩:=nwZ hs f15 Yu;simp only[go_sem,seval];refine cT rfl (by simp only[go_sem,seval,g7,XF,fU]) ?_;refine cT rfl (by simp only[go_sem,seval,g7,XF]) ?_;refine cd (n:=0) [3,9,10,3,12,16] [4] [_] rfl rfl ?_;simp only[go_sem,seval];refine bB λi14 Z14 s14 Yf f14=>?_;have n714:=aU g7 f14;have n1214:=aU g12 f14;have hd:∀J:ad,J i14=some ⟨100,7,[]⟩->bL J 100 7 (.own i14 0 0)=some ([],some i14):=λJ h=>by
        simp only[bL,h];rw[av (by simp)];simp
       replace g7:=s14 _ _ g7;replace g12:=s14 _ _ g12
       try have hn15:i15≠i14:=aU WN f14
       try replace WN:=s14 _ _ WN
       obtain⟨z14,hs⟩:=nwZ hs f14 s14;simp only[go_sem,seval];refine cT rfl (by simp only[go_sem,seval,g7,XF,fU]) ?_;refine cT rfl (by simp only[go_sem,seval,g7,XF]) ?_;refine cd (n:=0) [3,12,16] [10] [_] rfl rfl ?_;simp only[go_sem,seval,hd,Yf,hsr,hbp,bN,cO,fU,iC];refine qI λi16 Z16 s16 ZG f16=>?_
       try have n1615:i16≠i15:=(aU WN f16).symm
       replace g7:=s16 _ _ (by rw[cc n714];exact g7);replace g12:=s16 _ _ (by rw[cc n1214];exact g12)
       try replace WN:=s16 _ _ (by rw[cc hn15];exact WN)
       have z16:=hs.none f16;replace hs:=(hs.oN z14).trans s16;simp only[go_sem,seval];refine cT rfl (by simp only[go_sem,seval,g7,XF,fU]) ?_;refine cd (n:=0) [] [12,16] [_,_] rfl rfl ?_;simp only[go_sem,seval,WN,fU,iC];exact fin _ _ i12 i15 i16 (hs.az z15) z15 z16 ((ab n715).trans g7) ((ab n1215).trans g12) ag ((ab n1615).trans ZG) t7 t10 t12 rfl
   .rw[Dr,aD he]at hqn;rw[vU,aD he];have q1:(gz l w h≠0)=True:=L' he;have q2:(gz l w h≠gz l w h)=False:=H' λh=>h rfl;generalize gz l w h=E at*;apply sR;simp only[go_sem,seval];refine pS rfl (hqn _) ?_;simp only[go_sem,seval];refine ar hs λi12 Y12 s12 a12 f12 z12 hs=>?_;simp only[go_sem,seval,a12,q1,q2,tj,XL,Bool.not_true];refine pS rfl (ho9.same hl _ (s12.az f12)) ?_;simp only[go_sem,seval,tj];refine pS rfl (aw _) ?_;simp only[go_sem,seval];exact ak.pure (hs.az z12) rfl
end Go.Vc
