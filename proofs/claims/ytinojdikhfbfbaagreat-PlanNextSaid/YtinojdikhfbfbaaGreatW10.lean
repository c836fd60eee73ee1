import Derived.Test.YtinojdikhfbfbaaGreatW9
set_option linter.all false
set_option maxHeartbeats 8000000
set_option maxRecDepth 100000
open Go.Proofs.Tryz
namespace Go.Vc
open Go.Proofs
def tC(n:Int):aV prog 67 [vI n] (.bool (decide (mQ n))):=λU=>by
 refine e67.q ?_;have hs:=aa.refl U;refine aq.mix 3 ?_;by_cases h0:n>=1
 .have q0:(n>=1)=True:=RA h0;by_cases h1:n<=1099511627776
  .have q1:(n<=1099511627776)=True:=RA h1;rw[show decide (mQ n)=true from Tl ⟨h0,h1⟩];apply sR;simp only[go_sem,seval,c67,q0,q1];exact az.pure hs rfl
  .have q1:(n<=1099511627776)=False:=H' h1;rw[show decide (mQ n)=false from Tw λh=>h1 h.2];apply sR;simp only[go_sem,seval,c67,q0,q1];exact az.pure hs rfl
 .have q0:(n>=1)=False:=H' h0;rw[show decide (mQ n)=false from Tw λh=>h0 h.1];apply sR;simp only[go_sem,seval,c67,q0];exact az.pure hs rfl
open Go.Proofs
def G1(l:List Nd)(hl:dq l)(hb:Sc l=true)(hn:l.length<=2000)(his:aV prog 104 [aQ l] (.bool (Sc l)))(a:Nat)(ha:a<l.length)(h:Int)(h1:1<=h)(h2:h<=1099511627776):
 aV prog 51 [aQ l,vI a,vI h] (kH (pX l a h)):=λU=>by
 refine e51.q ?_;have hs:=aa.refl U;have T1:=bO l;have hmc:=Cx l hl h his;have hm:fW l h=true:=by unfold fW;rw[hb,Tl ⟨h1,h2⟩];rfl
 rw[hm]at hmc;rw[HC hb ha];have q1:((a:Int)<0)=False:=H';have q2:((a:Int)>=l.length)=False:=H';refine mS 10 ?_;simp only[go_sem,seval,c51];refine aG hs λi6 Z6 s6 a6 f6 z6 hs=>?_;simp only[go_sem,seval,a6];refine pS rfl (hmc _) ?_;simp only[go_sem,seval,q1,q2,T1];refine aG hs λi7 Z7 s7 a7 f7 z7 hs=>?_;obtain⟨TH,a6⟩:=RC a6 f7 s7;simp only[go_sem,seval,a7,ab TH,ab TH];generalize VZ:C' _ i7 _=Y7;replace a7:=SR VZ;replace a6:=R6 VZ TH a6;replace hs:=SL VZ hs z7;have RR:∀i,i<l.length->jm l a h (i+1)=if cc l i a=true then jo l (jm l a h i) i else jm l a h i:=λi _=>rfl
 have hiv:=λi hi=>wY hb (a:=a) h1 i hi;generalize hX:jm l a h a=X;have hZ:jm l a h 0=⟨[],0,h⟩:=rfl;generalize jm l a h=H at*;refine aq.loop (λm st=>∃i:Nat,i<=a/\m=a-i/\aa U st.U/\(∃vh,st.U i7=some ⟨63,3,[.agg [vh,vI (H i).high,vI (H i).body]]⟩/\aP U st.U 3 1 vh ((H i).Tk.map vI))/\st.U i6=some ⟨63,3,[.agg [.bj,vI 0,vI 0]]⟩/\st.s 0=aQ l/\st.s 1=vI a/\st.s 6=.ptr i6 0 0/\st.s 7=.ptr i7 0 0/\st.s 8=vI i) a ?_ ?_
 .exact⟨0,by omega,rfl,hs,⟨.bj,by rw[hZ];exact a7,by rw[hZ];exact aP.start⟩,a6,rfl,rfl,rfl,rfl,rfl⟩
 .clear a7 a6 hs;rintro m ⟨S,J⟩ ⟨i,hi,rfl,hs,⟨vh,a7,hvh⟩,a6,k0,k1,k6,k7,k8⟩;simp only at hs a7 hvh a6 k0 k1 k6 k7 k8;obtain⟨ch,sh⟩:=hvh.vc;refine aq.mix 10 ?_;by_cases u':i<a
  .have q3:((i:Int)<a)=True:=RA;have TM:i<l.length:=by omega
   have SI:=λU=>bI (U:=U) (l:=l) (a:=i) TM;have Xs:=(eJ hb TM).st.head;have Tt:=uK hb TM;have VE:=RR i TM;have hhd:(T9 l (i:Int)).head=l[i].st.head:=by rw[fX TM]
   have hho:cc l (i:Int) (a:Int)=decide (¬((i:Int)+l[i].size<=a)):=by
    rw[Bool.eq_iff_iff];simp[cc,mK,RJ,TM];omega
   rw[zy (by rw[hhd];exact Xs.1),hho,hhd]at VE;obtain⟨v1,v2,v3,v4⟩:=hiv i (by omega);generalize H i=Y at*;generalize l[i]=nd at*;have r1:=rI i;have r2:R0 .i64 ((i:Int)+nd.size):=ao;by_cases c1:(i:Int)+nd.size<=a
   .have w1:((i:Int)+nd.size<=a)=True:=RA c1;rw[aM (by simp;omega)]at VE;apply sR;simp only[go_sem,seval,k0,k1,k6,k7,k8,q3,SI,Nd.cells,a7,a6,w1,r1,r2,ch,sh];exact⟨_,by omega,i+1,by omega,rfl,hs,⟨vh,by rw[VE],by rw[VE];exact hvh⟩,by simp[vI]⟩
   .have w1:((i:Int)+nd.size<=a)=False:=H' c1;rw[aK (by simp;omega)]at VE;by_cases c2:nd.st.head=0
    .have w2:(nd.st.head=0)=True:=RA c2;rw[aK (.inl c2)]at VE;apply sR;simp only[go_sem,seval,k0,k1,k6,k7,k8,q3,SI,Nd.cells,a7,a6,w1,w2,r1,r2,ch,sh];exact⟨_,by omega,i+1,by omega,rfl,hs,⟨vh,by rw[VE],by rw[VE];exact hvh⟩,by simp[vI]⟩
    .have w2:(nd.st.head=0)=False:=H' c2;by_cases c3:nd.st.head>=Y.body
     .have w3:(nd.st.head>=Y.body)=True:=RA c3;rw[aK (.inr c3)]at VE;apply sR;simp only[go_sem,seval,k0,k1,k6,k7,k8,q3,SI,Nd.cells,a7,a6,w1,w2,w3,r1,r2,ch,sh];exact⟨_,by omega,i+1,by omega,rfl,hs,⟨vh,by rw[VE],by rw[VE];exact hvh⟩,by simp[vI]⟩
     .have w3:(nd.st.head>=Y.body)=False:=H' c3;rw[aM (by omega)]at VE;have r3:R0 .i64 (Y.high+nd.st.head):=ao;have r4:R0 .i64 (Y.body-nd.st.head):=ao;have Uh:(Y.Tk.map vI).length=Y.Tk.length:=by simp
      have Sh:(Y.Tk.length+1)*9<=140737488355328:=by omega
      apply sR;simp only[go_sem,seval,k0,k1,k6,k7,k8,q3,SI,Nd.cells,a7,a6,w1,w2,w3,r1,r2,ch,sh];refine aD λi60 Z60 s60 a60 f60=>?_;obtain⟨idA,SE,hdv,TW,RO⟩:=hvh.AX s60;have b7:=(TW i7 (hvh.j4 a7 (by simp)) Z60).trans (s60 _ _ a7);have b6:=(TW i6 (hvh.j4 a6 (by simp)) Z60).trans (s60 _ _ a6);simp only[go_sem,seval,SE,bN a60,Uh,Sh,k0,k1,k6,k7,k8];refine bk λi61 Z61 s61 a61 f61=>?_;have k61:=(RO U (aa.refl U) Z60 (hs.trans s60)).trans s61;have n61:U i61=none:=(hs.trans s60).none f61;have c7:=s61 _ _ b7;have c6:=s61 _ _ b6;have UQ:aP U Z61 3 1 (.own i61 0 (Y.Tk.length+1)) ((Y.Tk++[(i:Int)]).map vI):=aP.new (by simp) (by rw[a61,eQ];rfl) n61;simp only[go_sem,seval,k0,k1,k6,k7,k8,c7,ch,sh,r1,r3,r4];refine⟨_,by omega,i+1,by omega,rfl,k61.aL z7,⟨_,by rw[VE],by rw[VE];exact UQ.cI c7 (by simp)⟩,(ab TH).trans c6,by simp[vI]⟩
  .have q3:((i:Int)<a)=False:=H';obtain rfl:i=a:=by omega
   rw[hX]at a7 hvh;apply sR;simp only[go_sem,seval,k0,k1,k6,k7,k8,q3,a7,a6,ch,sh];have hst0:∀o,aa U (C' J i6 o):=λo=>hs.aL z6;exact⟨_,U,hst0 _,Wk.agg (vs':=[aX X.Tk,vI X.high,vI X.body]) ⟨(hvh.cI a6 (by simp)).wk (aa.refl U) (hst0 _),Wk.refl (hst0 _) _,Wk.refl (hst0 _) _,trivial⟩,rfl,rfl⟩
def E9(l:List Nd)(hl:dq l)(hb:Sc l=true)(hn:l.length<=2000)(his:aV prog 104 [aQ l] (.bool (Sc l)))(h:Int)(h1:1<=h)(h2:h<=1099511627776):
 aV prog 70 [aQ l,vI h] (vI (cP l h)):=λU=>by
 refine e70.q ?_;have hs:=aa.refl U;have T1:=bO l;have hmc:=Cx l hl h his;have hm:fW l h=true:=by unfold fW;rw[hb,Tl ⟨h1,h2⟩];rfl
 rw[hm]at hmc;unfold cP;rw[aK hm];have Sv:=λ(a:Nat) (ha:a<l.length)=>G1 l hl hb hn his a ha h h1 h2;refine mS 7 ?_;simp only[go_sem,seval,c70];refine pS rfl (hmc _) ?_;simp only[go_sem,seval];refine aq.loop (λm st=>∃i:Nat,i<=l.length/\m=l.length-i/\st.U=U/\st.s 0=aQ l/\st.s 1=vI h/\st.s 5=vI (fp l h i)/\st.s 6=vI i) l.length ?_ ?_
 .exact⟨0,by omega,rfl,rfl,rfl,rfl,rfl,rfl⟩
 .rintro m ⟨S,J⟩ ⟨i,hi,rfl,R8,k0,k1,k5,k6⟩;simp only at R8 k0 k1 k5 k6;subst R8;refine aq.mix 7 ?_;by_cases u':i<l.length
  .have q:=qT u';have SI:=λU=>bI (U:=U) (l:=l) (a:=i) u';have RR:=zp (l:=l) (h:=h) (j:=i);rw[gx u']at RR;have hoc:=Sv i u';generalize l[i]=nd at*;have r1:=rI i;by_cases c1:nd.kind=2
   .have w1:(nd.kind=2)=True:=RA c1;rw[aK (.inl c1)]at RR;apply sR;simp only[go_sem,seval,k0,k1,k5,k6,T1,q,SI,Nd.cells,w1];refine pS rfl (hoc _) ?_;simp only[go_sem,seval,k0,k1,k5,k6,kH,eh,r1];exact⟨_,by omega,i+1,by omega,rfl,by simp[k0,k1,RR,vI]⟩
   .have w1:(nd.kind=2)=False:=H' c1;by_cases c2:nd.kind=3
    .have w2:(nd.kind=3)=True:=RA c2;rw[aK (.inr c2)]at RR;apply sR;simp only[go_sem,seval,k0,k1,k5,k6,T1,q,SI,Nd.cells,w1,w2];refine pS rfl (hoc _) ?_;simp only[go_sem,seval,k0,k1,k5,k6,kH,eh,r1];exact⟨_,by omega,i+1,by omega,rfl,by simp[k0,k1,RR,vI]⟩
    .have w2:(nd.kind=3)=False:=H' c2;rw[aM (by omega)]at RR;apply sR;simp only[go_sem,seval,k0,k1,k5,k6,T1,q,SI,Nd.cells,w1,w2,r1];exact⟨_,by omega,i+1,by omega,rfl,by simp[k0,k1,k5,RR,vI]⟩
  .have q:=qF u';obtain rfl:i=l.length:=by omega
   apply sR;simp only[go_sem,seval,k0,k1,k5,k6,T1,q];exact az.pure hs rfl
open Go.Proofs
def HW(l:List SK)(hl:lS l)(s:RG)(hm:de l s)(hd:s.done<=1152921504606846976)(RQ:Int)(h1:1<=RQ):aV prog 31 [bK l,aO s,vI RQ] (.RM [cd (qn l s RQ),aO (fo l s RQ)]):=λU=>by
 refine e31.q ?_;have hs:=aa.refl U;have hll:=hl.len;have hc:=qw l s;rw[Tl hm]at hc;unfold qn fo;rw[aK ⟨hm,h1⟩,aK ⟨hm,h1⟩];obtain⟨a,d,fr⟩:=s;obtain⟨⟨h0,h1'⟩,h2,h3⟩:=hm;simp only at h0 h1' h2 h3 hd;obtain⟨n,rfl⟩:∃n:Nat,a=n:=⟨a.toNat,by omega⟩
 have TK:n<l.length:=by omega
 have SA:=λU=>fg (U:=U) TK;have hy:=hl.WZ _ (Sx TK);rw[bp TK]at h3;have hX:ez l ⟨n,d,fr⟩ RQ=⟨l[n].node,n,d,l[n].x,0,l[n].w,min (l[n].h-d) RQ⟩:=by
  simp only[ez,oP,Zf.dW,Zf.cut,bp TK]
 have hY:jI l (ez l ⟨n,d,fr⟩ RQ)=if d+min (l[n].h-d) RQ<l[n].h then⟨n,d+min (l[n].h-d) RQ,false⟩else⟨(n:Int)+1,0,false⟩:=by
  rw[hX,jI];simp only[bp TK]
 generalize jI l (ez l ⟨n,d,fr⟩ RQ)=Y at*;generalize ez l ⟨n,d,fr⟩ RQ=X at*;generalize l[n]=x at*;have w1:(RQ<1)=False:=H';have r1:R0 .i64 (x.h-d):=ao;have r2:=rI n;have r3:R0 .i64 (d+min (x.h-d) RQ):=ao;refine mS 11 ?_;simp only[go_sem,seval,c31,aO];refine aG hs λi4 Z4 s4 a4 f4 z4 hs=>?_;simp only[go_sem,seval,a4];refine aG hs λi6 Z6 s6 a6 f6 z6 hs=>?_;obtain⟨n46,a4⟩:=RC a4 f6 s6;simp only[go_sem,seval,a4];refine aG hs λi7 Z7 s7 a7 f7 z7 hs=>?_;obtain⟨Wo,a4⟩:=RC a4 f7 s7;obtain⟨TH,a6⟩:=RC a6 f7 s7;simp only[go_sem,seval,a4];refine pS rfl (hc _) ?_;simp only[go_sem,seval,a4,w1,SA,bz];refine aG hs λi8 Z8 s8 a8 f8 z8 hs=>?_;obtain⟨Vt,a4⟩:=RC a4 f8 s8;obtain⟨VU,a6⟩:=RC a6 f8 s8;obtain⟨VA,a7⟩:=RC a7 f8 s8;simp only[go_sem,seval,a8,a4,r1,r2,eh,ab Vt,ab VU,ab VA,ab VA];generalize Vf:C' _ i8 _=Y8;replace a8:=SR Vf;replace a4:=R6 Vf Vt a4;replace a6:=R6 Vf VU a6;replace a7:=R6 Vf VA a7;replace hs:=SL Vf hs z8;refine aG hs λi10 XP To RZ f10 Uq hs=>?_;obtain⟨U9,a4⟩:=RC a4 f10 To;obtain⟨Vl,a6⟩:=RC a6 f10 To;obtain⟨Ta,a7⟩:=RC a7 f10 To;obtain⟨VW,a8⟩:=RC a8 f10 To;by_cases u':d+min (x.h-d) RQ<x.h
 .have w2:(d+min (x.h-d) RQ<x.h)=True:=RA u';rw[aK u']at hY;simp only[go_sem,seval,RZ,a8,a4,r1,r2,r3,eh,w2,gq,ab U9,ab Vl,ab Ta,ab VW];generalize R5:C' _ i10 _=Y10;replace RZ:=SR R5;replace a4:=R6 R5 U9 a4;replace a6:=R6 R5 Vl a6;replace a7:=R6 R5 Ta a7;replace a8:=R6 R5 VW a8;replace hs:=SL R5 hs Uq;refine aq.vZ (by kernel_rfl) 8 (.leaf [[],[0],[],[2],[],[4],[],[6],[],[8],[],[1,3,5,7,9,10,0,2,4,6,8],[],[11,0,1,2,3,4,5,6,7,8,9,10],[12,13,0,1,2,3,4,5,6,7,8,9,10,11]] [0,1,2,3,4,5,6,7,8,9,10,11,12,13,14]) (by kernel_rfl) ?_;refine GT.gV (its:=[0,2,4,6,8,10,12,14,16,18,20,22,24,26,25,28]) (by kernel_rfl) ?_;refine cU (n:=0) [25,28] [0,2,4,6,8,10,12,14,16,18,20,22,24,26] [_,_,_,_,_,_,_,_,_,_,_,_,_,_] rfl rfl ?_;simp only[go_sem,seval,a4,a8,RZ,a6,a7,ab n46,ab VU.symm,ab Vl.symm,ab TH.symm,ab Wo,ab VA.symm,ab Ta.symm,ab TH];refine dI rfl (by simp only[go_sem,seval,a4,a8,RZ,a6,a7,ab n46,ab VU.symm,ab Vl.symm,ab TH.symm,ab Wo,ab VA.symm,ab Ta.symm,ab TH]) ?_;refine cU (n:=0) [] [28] [_] rfl rfl ?_;simp only[go_sem,seval,a4,a8,RZ,a6,a7,ab n46,ab VU.symm,ab Vl.symm,ab TH.symm,ab Wo,ab VA.symm,ab Ta.symm,ab TH];apply sR;simp only[go_sem,seval,a6,a7,ab TH,ab TH.symm,iu]
  first
   |exact az.pure ((hs.aL z6).aL z7) (by rw[hX,hY];rfl)
   |exact az.pure ((hs.aL z7).aL z6) (by rw[hX,hY];rfl)
 .have w2:(d+min (x.h-d) RQ<x.h)=False:=H' u';rw[aM u']at hY;simp only[go_sem,seval,RZ,a8,a4,r1,r2,r3,eh,w2,gq,ab U9,ab Vl,ab Ta,ab VW];generalize R5:C' _ i10 _=Y10;replace RZ:=SR R5;replace a4:=R6 R5 U9 a4;replace a6:=R6 R5 Vl a6;replace a7:=R6 R5 Ta a7;replace a8:=R6 R5 VW a8;replace hs:=SL R5 hs Uq;refine aq.vZ (by kernel_rfl) 8 (.leaf [[],[0],[],[2],[],[4],[],[6],[],[8],[],[1,3,5,7,9,10,0,2,4,6,8],[],[11,0,1,2,3,4,5,6,7,8,9,10],[12,13,0,1,2,3,4,5,6,7,8,9,10,11]] [0,1,2,3,4,5,6,7,8,9,10,11,12,13,14]) (by kernel_rfl) ?_;refine GT.gV (its:=[0,2,4,6,8,10,12,14,16,18,20,22,24,26,25,28]) (by kernel_rfl) ?_;refine cU (n:=0) [25,28] [0,2,4,6,8,10,12,14,16,18,20,22,24,26] [_,_,_,_,_,_,_,_,_,_,_,_,_,_] rfl rfl ?_;simp only[go_sem,seval,a4,a8,RZ,a6,a7,ab n46,ab VU.symm,ab Vl.symm,ab TH.symm,ab Wo,ab VA.symm,ab Ta.symm,ab TH];refine dI rfl (by simp only[go_sem,seval,a4,a8,RZ,a6,a7,ab n46,ab VU.symm,ab Vl.symm,ab TH.symm,ab Wo,ab VA.symm,ab Ta.symm,ab TH]) ?_;refine cU (n:=0) [] [28] [_] rfl rfl ?_;simp only[go_sem,seval,a4,a8,RZ,a6,a7,ab n46,ab VU.symm,ab Vl.symm,ab TH.symm,ab Wo,ab VA.symm,ab Ta.symm,ab TH];apply sR;simp only[go_sem,seval,a6,a7,ab TH,ab TH.symm,iu]
  first
   |exact az.pure ((hs.aL z6).aL z7) (by rw[hX,hY];rfl)
   |exact az.pure ((hs.aL z7).aL z6) (by rw[hX,hY];rfl)
def Ck(sz:Nat)(ks:List Nat):RB:=⟨26,.seq (.VL false [⟨some 4,.VK (.c (.bool false)),none⟩]) (.seq (.seq (.VL false [⟨some 6,.VK (.t 0),none⟩,⟨some 7,.len false (.t 6),none⟩,⟨some 8,.VK (.t 1),none⟩,⟨some 9,.len false (.t 8),none⟩,⟨some 10,.bin .neq (.t 7) (.t 9),none⟩]) (.cond (.t 10) (.seq (.VL false [⟨some 4,.VK (.c (.bool false)),none⟩]) .ret) .skip)) (.seq (.seq (.VL false [⟨some 5,.VK (.c (.int .i64 0)),none⟩]) (.block 0 (.loop (.seq (.seq (.VL false [⟨some 11,.VK (.t 5),none⟩,⟨some 12,.VK (.t 0),none⟩,⟨some 13,.len false (.t 12),none⟩,⟨some 14,.bin .lss (.t 11) (.t 13),none⟩]) (.cond (.t 14) .skip (.exit 0))) (.seq (.block 1 (.seq (.VL true [⟨some 17,.VK (.t 0),none⟩,⟨some 18,.VK (.t 5),none⟩,⟨some 19,.XD sz (.t 17) (.t 18),none⟩,⟨some 20,.load true sz (.t 19),none⟩,⟨some 21,.VK (.t 1),none⟩,⟨some 22,.VK (.t 5),none⟩,⟨some 23,.XD sz (.t 21) (.t 22),none⟩,⟨some 24,.load true sz (.t 23),none⟩,⟨some 25,.eqS true ks (.t 20) (.t 24),none⟩]) (.cond (.t 25) (.seq (.VL false [⟨some 4,.VK (.c (.bool false)),none⟩]) .ret) .skip))) (.VL false [⟨some 15,.VK (.t 5),none⟩,⟨some 16,.bin .add (.t 15) (.c (.int .i64 1)),none⟩,⟨some 5,.VK (.t 16),none⟩])))))) (.seq (.VL false [⟨some 4,.VK (.c (.bool true)),none⟩]) .ret))),[.tmp (.t 4)]⟩
def Ib{P:Program}{f:FuncId}{fn:Func}(hf:P.funcs[f]?=some fn){sz:Nat}{ks:List Nat}(hc:cfn P fn=some (Ck sz ks))(hk:gg P f=true){α:Type}[DecidableEq α](enc:α->V)
 (he:∀a b,mN true ks (enc a) (enc b)=some (.bool (decide (a≠b))))(hl:∀U a,cQ U true sz (.rp (enc a))=some (enc a))(xs ys:List α)(hx:xs.length<=1000000000000):
 aV P f [.sl sz (xs.map enc),.sl sz (ys.map enc)] (.bool (decide (xs=ys))):=λU=>by
 refine aB.nY hf hc hk (by simp[Ck]) ?_;refine aq.mix 6 ?_;have n1:ej false (.sl sz (xs.map enc))=some (.int .i64 xs.length):=by simp[ej]
 have n2:ej false (.sl sz (ys.map enc))=some (.int .i64 ys.length):=by simp[ej]
 by_cases hlen:xs.length=ys.length
 .have q:((xs.length:Int)≠ys.length)=False:=H';apply sR;simp only[go_sem,seval,Ck,n1,n2,q];refine aq.loop (λm st=>∃j,j<=xs.length/\m=xs.length-j/\xs.take j=ys.take j/\st.s 0=.sl sz (xs.map enc)/\st.s 1=.sl sz (ys.map enc)/\st.s 5=.int .i64 j/\st.U=U) xs.length ⟨0,by omega,rfl,rfl,rfl,rfl,rfl,rfl⟩ ?_;rintro m ⟨S,Z'⟩ ⟨j,hj,rfl,ht,t0,t1,t5,R8⟩;simp only at t0 t1 t5 R8;subst R8;refine aq.mix 6 ?_;by_cases u':j<xs.length
  .have q1:=qT u';have Wh:j<ys.length:=by omega
   have i1:∀U,bG U sz (.sl sz (xs.map enc)) (.int .i64 j)=some (.rp (enc xs[j])):=λU=>by simp[bG,u']
   have i2:∀U,bG U sz (.sl sz (ys.map enc)) (.int .i64 j)=some (.rp (enc ys[j])):=λU=>by simp[bG,Wh]
   have hee:=he xs[j] ys[j];have tx:=U0 u';have ty:=U0 Wh;by_cases hq:xs[j]=ys[j]
   .rw[show decide (xs[j]≠ys[j])=false by simpa using hq]at hee;apply sR;simp only[BB,seval,<-decide_not,bt,ga,aT,eN,eR,eS,eP,eH,bU,lx,ji,bF,gW,eV,gX,dE,dy,cj,jS,cV,cW,cN,Tm,ln,dN,bT,dP,cG,dL,dx,lA,binBV,bY,dS,V.cells,V.stays,Th.nothing,t0,t1,t5,n1,q1,i1,i2,hl,hee];exact⟨ao,_,by omega,j+1,by omega,rfl,by rw[tx,ty,ht,hq],by simp⟩
   .rw[show decide (xs[j]≠ys[j])=true by simpa using hq]at hee;apply sR;simp only[BB,seval,<-decide_not,bt,ga,aT,eN,eR,eS,eP,eH,bU,lx,ji,bF,gW,eV,gX,dE,dy,cj,jS,cV,cW,cN,Tm,ln,dN,bT,dP,cG,dL,dx,lA,binBV,bY,dS,V.cells,V.stays,Th.nothing,t0,t1,t5,n1,q1,i1,i2,hl,hee];refine az.same ?_;have:¬xs=ys:=λh=>hq (by simp only[h]);rw[Tw this]
  .have q1:=qF u';apply sR;simp only[go_sem,seval,t0,t1,t5,n1,q1];refine az.same ?_;rw[pL (by omega),pL (by omega)]at ht;rw[Tl ht]
 .have q:((xs.length:Int)≠ys.length)=True:=RA;apply sR;simp only[go_sem,seval,Ck,n1,n2,q];refine az.same ?_;rw[Tw λh=>hlen (by rw[h])]
open Go.Proofs
def oF(b:Bk):di b=.agg [aQ b.nodes,vI b.w,vI b.h,bK b.atoms,bg b.V1,vI b.RD,dh b.Sk]:=rfl
structure BkQ(b:Bk):Prop extends BkFull b where
 nn:b.nodes.length<=2000
 his:aV prog 104 [aQ b.nodes] (.bool (Sc b.nodes))
def H6{b:Bk}(hb:BkQ b){s:RG}(h0:0<=s.atom)(RU:b.atoms≠[]):∃k n:Nat,min s.atom ((b.atoms.length:Int)-1)=k/\∃hk:k<b.atoms.length,b.atoms[k].node=n/\n<b.nodes.length/\du b s=pX b.nodes n b.h:=by
 have TN:=BS.2 RU;obtain⟨k,hk⟩:∃k:Nat,min s.atom ((b.atoms.length:Int)-1)=k:=⟨(min s.atom ((b.atoms.length:Int)-1)).toNat,by omega⟩
 have Uj:k<b.atoms.length:=by omega
 obtain⟨g1,g2⟩:=hb.nod _ (Sx Uj);obtain⟨n,hn⟩:∃n:Nat,b.atoms[k].node=n:=⟨b.atoms[k].node.toNat,by omega⟩
 refine⟨k,n,hk,Uj,hn,by omega,?_⟩;have hm:fW b.nodes b.h=true:=by
  unfold fW;rw[hb.Zc,Tl ⟨hb.h1,hb.h2⟩];rfl
 rw[du,aM RU,hk,bp Uj,hn,vX,aK ⟨hm,by omega,by omega⟩,gu]
def CM(b:Bk)(hb:BkQ b)(s:RG)(h0:0<=s.atom):aV prog 21 [di b,aO s] (kH (du b s)):=λU=>by
 refine e21.q ?_;have hs:=aa.refl U;have TZ:=jw b.atoms;have WI:=hb.len;refine mS 6 ?_;simp only[go_sem,seval,c21,oF,aO,ad,al,ag,ai,aA,aC,aE,aF];refine aG hs λi2 Z2 s2 a2 f2 z2 hs=>?_;simp only[go_sem,seval,ad,al,ag,ai,aA,aC,aE,aF];refine aG hs λi3 Z3 s3 a3 f3 z3 hs=>?_;obtain⟨n23,a2⟩:=RC a2 f3 s3;simp only[go_sem,seval,ad,al,ag,ai,aA,aC,aE,aF];refine aG hs λi4 Z4 s4 a4 f4 z4 hs=>?_;obtain⟨YW,a2⟩:=RC a2 f4 s4;obtain⟨Ye,a3⟩:=RC a3 f4 s4;have hkc:∀x:Kp,(kH x).cells=[aX x.Tk,vI x.high,vI x.body]:=λ_=>rfl;have hks:∀x:Kp,(kH x).stays=true:=λ_=>rfl;by_cases RU:b.atoms=[]
 .have q:((b.atoms.length:Int)=0)=True:=RA (by rw[RU];rfl);simp only[go_sem,seval,a2,a3,a4,TZ,q,ab YW,ab Ye,ab Ye,ad,al,ag,ai,aA,aC,aE,aF];rw[show du b s=⟨[],0,b.h⟩from aK RU];exact⟨_,U,hs.aL z4,Wk.agg (vs':=[aX [],vI 0,vI b.h]) ⟨Wk.bj 1,Wk.refl (hs.aL z4) _,Wk.refl (hs.aL z4) _,trivial⟩,rfl,rfl⟩
 .have TN:=BS.2 RU;have q:((b.atoms.length:Int)=0)=False:=H';obtain⟨k,n,hk,Uj,hn,TK,hr⟩:=H6 hb h0 RU;have hoc:=G1 b.nodes hb.ry hb.Zc hb.nn hb.his n TK b.h hb.h1 hb.h2;rw[hr];have r1:R0 .i64 ((b.atoms.length:Int)-1):=ao;have SA:=λU=>fg (U:=U) Uj;generalize b.atoms[k]=x at*;have WG:bz x=.agg [vI x.kind,vI n,vI x.fr,vI x.to,vI x.x,vI x.y,vI x.w,vI x.h]:=by rw[<-hn];rfl
  simp only[go_sem,seval,a2,a3,a4,TZ,q,r1,eh,hk,SA,WG,ab YW,ab Ye,ab Ye,ad,al,ag,ai,aA,aC,aE,aF];refine pJ rfl hoc ?_;generalize pX b.nodes n b.h=X at*;apply sG;simp only[go_sem,seval,a4,a2,a3,hkc,hks,ab YW,ab Ye,ab Ye,ad,al,ag,ai,aA,aC,aE,aF];exact az.pure (hs.aL z4) rfl
open Go.Proofs
def aP.Lc{K U:ak}{e sz i:Nat}{v:V}{rows:List V}{o:Ob}(h:aP K U e sz v rows)(h1:∀n,v≠.own i 0 n):aP K (C' U i o) e sz v rows:=by
 rcases h with h|⟨a,rfl,ho,hk⟩
 .exact .inl h
 .exact .inr ⟨a,rfl,by rw[Vc.ab (λe=>h1 _ (by rw[e]))];exact ho,hk⟩
def aP.ET{K U:ak}{e sz i:Nat}{v:V}{rows:List V}(h:aP K U e sz v rows)(hi:U i=none):∀n,v≠.own i 0 n:=λn hv=>by
 subst hv;rcases h with⟨h,_⟩|⟨id,h,g2,_⟩
 .cases h
 .cases h;rw[hi]at g2;cases g2
def BN{b:Bk}(hb:BkOk b)(s:RG)(RQ:Int):-1152921504606846976<=ij b.atoms s RQ/\ij b.atoms s RQ<=1152921504606846976:=by
 unfold ij lC;split
 .split
  .rename_i h;have h1:=oN hb (s.atom-1);obtain⟨n,hn⟩:∃n:Nat,s.atom=n:=⟨s.atom.toNat,by omega⟩
   have TK:n<b.atoms.length:=by omega
   have:=hb.tight _ (Sx TK);rw[hn]at h1|-;rw[bp TK];omega
  .omega
 .omega
open Go.Proofs
def aP.dT{K U:ak}{e sz i:Nat}{v:V}{rows:List V}{p:Ob}(h:aP K U e sz v rows)(hi:U i=some p)(RU:p.elem≠e)(o:Ob):aP (Vc.C' K i o) U e sz v rows:=by
 rcases h with h|⟨a,rfl,ho,hk⟩
 .exact .inl h
 .refine .inr ⟨a,rfl,ho,?_⟩;rw[Vc.ab (λe'=>by subst e';rw[hi]at ho;cases ho;exact RU rfl)];exact hk
def aa.dT{K U:ak}{i:Nat}{o:Ob}(h:aa K U)(hi:U i=some o):aa (Vc.C' K i o) U:=λj p hj=>by
 by_cases e:j=i
 .subst e;rw[Vc.av]at hj;cases hj;exact hi
 .rw[Vc.ab e]at hj;exact h _ _ hj
def IC(vf:V){K U:ak}(fs:List RS)(Ul:aP K U 137 7 vf (fs.map bl))(f:RS)(y:Int)(s:Sn)(hl:fs.length<=1000000)(RP:∀f∈fs,f.ok)(hy:SJ y)(hh:Bq f.h)(hw:Bq f.w)(Tg:SJ s.a/\SJ s.b):
 aB prog 135 [vf,bl f,vI y,aW s] U λr Z'=>aa U Z'/\aP U Z' 137 7 r ((mU fs f y s).map bl):=by
 refine Pu.q ?_;have hs:=aa.refl U;refine mS 9 ?_;simp only[go_sem,seval,M8,bl,aW];refine aG hs λi5 Z5 s5 a5 f5 z5 hs=>?_;simp only[go_sem,seval,a5];refine aG hs λi7 Z7 s7 a7 f7 z7 hs=>?_;obtain⟨n57,a5⟩:=RC a5 f7 s7;simp only[go_sem,seval,a7,a5,ab n57,ab n57.symm];have TX:=Ul.mono hs;refine pS rfl (aV.td (args':=[bg fs,bl f,vI y,aW s]) ⟨TX.yK.at,Ur _,Ur _,Ur _,trivial⟩ (HQ fs f y s hl RP hy hh hw Tg) rfl) ?_;simp only[go_sem,seval,a7,a5,ab n57,ab n57.symm];generalize TL:C' Z7 i5 _=Y5;have b5:Y5 i5=some ⟨137,7,[bl (iK fs f y s)]⟩:=by rw[<-TL];exact av
 have Wf:aa U Y5:=by rw[<-TL];exact hs.aL z5
 clear TL;have V2:bl (iK fs f y s)=.agg [vI f.node,vI f.side,vI f.anchor,vI (lT fs f y s),vI (jT fs f y s),vI f.w,vI f.h]:=rfl;rw[V2]at b5;have Uh:(fs.map bl).length=fs.length:=by simp
 have U5:fs.length*57<=140737488355328:=by omega
 have Sh:(fs.length+1)*57<=140737488355328:=by omega
 have Wd:fs.map bl++[V.agg [vI f.node,vI f.side,vI f.anchor,vI (lT fs f y s),vI (jT fs f y s),vI f.w,vI f.h]]=(mU fs f y s).map bl:=by simp[mU,<-V2]
 refine bJ λi19 Z19 s19 a19 f19=>?_;have n519:=bb b5 f19;have b5':=s19 _ _ b5;have hd19:=Gg a19;have z19:=Wf.none f19;have XJ:=Ul.src (Wf.trans s19);simp only[go_sem,seval,hd19,XJ,Uh,U5,mL,List.length_nil,lF];refine qt λi21 Z21 s21 a21 f21=>?_;have hs21:aa U Z21:=((Wf.trans s19).x7 z19).trans s21;have b5'':=s21 _ _ ((eT n519).trans b5');have n21:U i21=none:=(Wf.trans s19).none f21;simp only[go_sem,seval,b5''];refine bJ λi23 Z23 s23 a23 f23=>?_;obtain⟨idA,SE,RO⟩:=(aP.new (K:=U) (n:=fs.length) (rows:=fs.map bl) (by simp) a21 n21).dst s23;simp only[go_sem,seval,SE,bN a23,Uh,Sh,Wd];refine qt λi24 Z24 s24 a24 f24=>?_;have k24:=(RO U (aa.refl U) Z23 (hs21.trans s23)).trans s24;have YW:U i24=none:=(hs21.trans s23).none f24;simp only[go_sem,seval];exact SG ⟨k24,aP.new (by simp[mU]) a24 YW⟩
def GG(vf:V){U:ak}(fs:List RS)(Ul:vv U vf (bg fs))(ws:List Int)(space high:Int)(y:Int)(s:Sn)(hl:fs.length<=1000000)(RP:∀f∈fs,f.ok)(B:Int)(hB:∀f∈fs,f.y+f.h<=B)(hB1:B<=1152921504606846976)(Za:0<=y)(hy:y<=B)(hh:0<=high)(hh1:high<=1099511627776)
 (Tg:SJ s.a/\SJ s.b)(hw:WOk ws space):aB prog 133 [vf,aX ws,vI space,vI high,vI y,aW s] U λr Z'=>aa U Z'/\aP U Z' 203 5 r ((cA fs ws space high s ws.length 0 y).map iX):=by
 refine Q5.q ?_;have hs:=aa.refl U;have hn:=db ws;have T1:=hw.len;refine mS 16 ?_;simp only[go_sem,seval,L0,aW];refine aG hs λi11 Yf Vb Ug f11 YE hs=>?_;simp only[go_sem,seval,Ug];generalize hG:cA fs ws space high s ws.length 0 y=G;refine aq.loop (λm st=>∃(i k:Nat) (y':Int) (acc:List Ln),m=ws.length-i/\i<=ws.length/\ws.length-i<=k/\acc.length<=i/\G=acc++cA fs ws space high s k i y'/\0<=y'/\y'<=B+1099511627776*i/\aa U st.U/\aP U st.U 203 5 (st.s 13) (acc.map iX)/\
  st.U i11=some ⟨195,2,[.agg [vI s.a,vI s.b]]⟩/\st.s 0=vf/\st.s 1=aX ws/\st.s 2=vI space/\st.s 3=vI high/\st.s 4=vI y'/\st.s 11=.ptr i11 0 0/\st.s 14=vI i) ws.length ?_ ?_
 .exact⟨0,ws.length,y,[],rfl,by omega,by omega,by simp,hG.symm,Za,by omega,hs,aP.start,Ug,rfl,rfl,rfl,rfl,rfl,rfl,rfl⟩
 .rintro m ⟨S,J⟩ ⟨i,k,y',acc,rfl,hi,hk,WI,hg,hy1,hy2,G',R3,b11,t0,t1,t2,t3,t4,t11,t14⟩;simp only at G' R3 b11 t0 t1 t2 t3 t4 t11 t14;generalize U8:S 13=v13 at R3;refine aq.mix 16 ?_;by_cases u':i<ws.length
  .have q:=qT u';obtain⟨k,rfl⟩:∃k',k=k'+1:=⟨k-1,by omega⟩
   rw[cA,aK u']at hg;have Vu:=sk (space:=space) (width:=fj (bM fs (fN fs (ws.getD i 0) high s y') high s)) u';have hyr:=eX (w:=ws.getD i 0) (high:=high) (y:=y') (s:=s) hB;have hx:=I4 fs ws space high i y' s hl RP ⟨by omega,by omega⟩ ⟨by omega,by omega⟩ Tg hw u';obtain⟨x,WG⟩:∃x,x=lP fs ws space high i y' s:=⟨_,rfl⟩
   have x1:∃j:Nat,x.to=j/\i<j/\j<=ws.length:=by rw[WG];exact⟨_,rfl,Vu⟩
   have x2:y'<=x.y/\x.y<=max y' B:=by rw[WG];exact hyr
   rw[<-WG]at hg hx;clear WG Vu hyr;obtain⟨j,hj,Xu,UG⟩:=x1;rw[hj,gu]at hg;apply sR;simp only[go_sem,seval,t0,t1,t2,t3,t4,t11,t14,b11,hn,q];refine pR rfl (aV.td (args':=[bg fs,aX ws,vI space,vI high,vI i,vI y',aW s]) ⟨(Ul.mono G').at,Ur _,Ur _,Ur _,Ur _,Ur _,Ur _,trivial⟩ hx rfl) ?_;have hc:=rA x;have RR:=sK x;have SU:(iX x).cells.length=5:=rfl;have hag:V.agg [vI x.fr,vI x.to,vI x.x,vI x.y,vI x.w]=iX x:=rfl;apply sR;simp only[go_sem,seval,t0,t1,t2,t3,t4,t11,t14,U8,hc,RR];refine aD λi15 Z15 Xa US f15=>?_;simp only[go_sem,seval,US,t0,t1,t2,t3,t4,t11,t14,U8,hc,SU,RR,hag];generalize Tv:C' Z15 i15 _=Y15;have b15:Y15 i15=some ⟨203,5,[.agg [vI x.fr,vI x.to,vI x.x,vI x.y,vI x.w]]⟩:=by rw[<-Tv];exact av
   have XS:aa J Y15:=by rw[<-Tv];exact Xa.aL f15
   clear Tv;refine aD λi30 Z30 s30 a30 f30=>?_;obtain⟨idA,SE,RO,TW,VY⟩:=R3.nM (XS.trans s30);have Sh:(acc.length+1)*41<=140737488355328:=by omega
   have Uh:(acc.map iX).length=acc.length:=by simp
   simp only[go_sem,seval,t0,t1,t2,t3,t4,t11,t14,U8,SE,bN a30,Uh,Sh];refine bk λi31 Z31 s31 a31 f31=>?_;have k31:=(RO U (aa.refl _) Z30 (G'.trans (XS.trans s30))).trans s31;have n31:U i31=none:=(G'.trans (XS.trans s30)).none f31;have c15:Z31 i15=some ⟨203,5,[.agg [vI x.fr,vI x.to,vI x.x,vI x.y,vI x.w]]⟩:=s31 _ _ (by rw[VY i15 f15];exact s30 _ _ b15);have c11:Z31 i11=some ⟨195,2,[.agg [vI s.a,vI s.b]]⟩:=s31 _ _ (by rw[TW i11 _ b11 (.inr (by simp))];exact s30 _ _ (XS _ _ b11));have r1:R0 .i64 (x.y+high):=ao;simp only[go_sem,seval,t0,t1,t2,t3,t4,t11,t14,c15,hj,r1];refine⟨_,?_,j,k,x.y+high,acc++[x],rfl,UG,by omega,by simp;omega,by rw[hg];simp,by omega,by omega,k31,?_,c11,by simp[t0,t1,t2,t3,t11]⟩
   .omega
   .rw[eQ];exact aP.new (by simp) a31 n31
  .have q:=qF u';apply sR;simp only[go_sem,seval,t0,t1,t2,t3,t4,t11,t14,U8,b11,hn,q];have:cA fs ws space high s k i y'=[]:=by
    cases k with
    |zero=>rfl
    |succ k=>rw[cA,aM u']
   rw[this,j6]at hg;refine SG ⟨G',?_⟩;rw[hg];exact R3
def xX{l:List Nd}{rs:List Rm}(hD:Zb l rs){s:WS}{C a:Nat}(h:fk s C)(ha:a<l.length)(Tg:1<=RJ l a)(Tt:a+(RJ l a).toNat<=l.length)(h4:bC l (a+1) (a+(RJ l a).toNat)=true):
 fk (qm l rs s a) (C+Ss l a (a+(RJ l a).toNat)):=by
 have R9:YZ (R4 l a):=by rw[gx ha];exact eJ hD.Zc ha
 have YQ:Ss l a (a+(RJ l a).toNat)=4+(R4 l a).words.length+Ss l (a+1) (a+(RJ l a).toNat):=nA (by omega) (by omega);unfold qm;rw[YQ];split
 .exact(jB (fZ hD _ (a+1) (a+(RJ l a).toNat) _ _ (Sf _) (by omega) (by omega) h4 (eu h R9.st)) R9.st).more (by omega)
 .split
  .exact(ke h R9 a).more (by omega)
  .split
   .exact(kf h R9 a).more (by omega)
   .rename_i g1 g2 g3;exact(jx hD h ha R9 (by have:=R9.kind;omega)).more (by omega)
open Go.Proofs
def aP.Bp{K U:ak}{e e' sz Uu:Nat}{v u:V}{rows rows':List V}(h:aP K U e sz v rows)(h':aP K U e' Uu u rows')(RU:e≠e'):fw v u:=by
 rintro a n b m rfl rfl rfl;rcases h with⟨h,_⟩|⟨i,h,h2,_⟩
 .cases h
 .rcases h' with⟨h',_⟩|⟨j,h',h2',_⟩
  .cases h'
  .cases h;cases h';rw[h2]at h2';cases h2';exact RU rfl
def vk(a:Nat)(h:Int):∀(L:List Ln) (s:WS),(eI a h s L).g'=s.g'
 |[],_=>rfl
 |y::L,s=>by
  have:=vk a h L (s.put (eM a h y));simpa[eI,WS.put]using this
def Pq(l:List Nd)(w:Int)(a C:Nat):Prop:=∀(s:WS) (va vf:V) (K U:ak),aa K U->aP K U 66 8 va (s.atoms.map bz)->aP K U 137 7 vf (s.g'.map bl)->fk s C->
 aB prog 106 [.agg [va,vf,vI s.RD,vI s.P'.y,vI s.P'.m],aQ l,vI a,vI w] U λr Z'=>∃va' vf',r=.agg [va',vf',vI (qm l (ct l w) s a).RD,vI (qm l (ct l w) s a).P'.y,vI (qm l (ct l w) s a).P'.m]/\
  aa K Z'/\aP K Z' 66 8 va' ((qm l (ct l w) s a).atoms.map bz)/\aP K Z' 137 7 vf' ((qm l (ct l w) s a).g'.map bl)
def Kv(l:List Nd)(w:Int)(hb:Sc l=true)(hn:l.length<=2000)(hw1:1<=w)(U3:w<=1099511627776)(hwl:∀n∈l,n.words.length<=10000):∀(m a C:Nat),l.length-a<m->a<l.length->1<=RJ l a->a+(RJ l a).toNat<=l.length->
 bC l (a+1) (a+(RJ l a).toNat)=true->C+Ss l a (a+(RJ l a).toNat)<=50000->Pq l w a C:=by
 intro m
 induction m with
 |zero=>intro a C h;omega
 |succ m ih=>?_
 intro a C hm ha Tg Tt h4 hC s va vf K U hK Vi Ul hI;have hD:=nI hb hn hw1 U3;obtain⟨ca,sa⟩:=Vi.vc;obtain⟨cf,sf⟩:=Ul.vc;have hB:=hI.bd;have Yo:=hB.m1;have Zd:=hB.m0;have Za:=hB.y0;have hyB:=hB.yB;have hfl:=hI.fl;have WI:=hI.Sl;have R9:=eJ hb ha;have RF:=ix l ha;have SI:=gx ha;have hszn:=gZ ha;have hwn:=hwl _ (Sx ha);have hRc:=Hb l hb hn w hw1 U3 (a+1) a (by omega) ha;have Vq:=B9 hb ha (w:=w);have hSp:=hD.span ha;have XU:=yT hb hn hw1 U3 ha;rw[Vq]at hSp;generalize kT l w a=R at*;obtain⟨k1,k2,k3,k4⟩:=XU;have r1:R0 .i64 (R.x+R.w):=ao;have r2:R0 .i64 (s.P'.y+s.P'.m):=ao;refine Px.q ?_;have hs:=aa.refl U;have Xx:∀n:Nd,V.agg (Nd.cells n)=gz n:=λ_=>rfl;have Sb:qm l (ct l w) s a=if l[a].kind=1 then(cM l (ct l w) (a+(RJ l a).toNat-(a+1)) (a+1) (a+(RJ l a).toNat) (s.enter l[a].st)).leave l[a].st
  else if l[a].kind=2 then s.text (ct l w) a l[a]else if l[a].kind=3 then WS.mono l (ct l w) s a l[a]else s.float (ct l w) a l[a]:=by unfold qm;rw[SI]
 generalize qm l (ct l w) s a=Z at*;generalize hx:l[a]=x at*;refine mS 22 ?_;simp only[go_sem,seval,Ok,ca,cf,sa,sf,ad,al];refine aG hs λi4 Z4 s4 a4 f4 z4 hs=>?_;simp only[go_sem,seval,ca,cf,sa,sf,ad,al];refine aG hs λi8 Z8 s8 a8 f8 z8 hs=>?_;obtain⟨Vt,a4⟩:=RC a4 f8 s8;simp only[go_sem,seval,ca,cf,sa,sf,ad,al,RF,Nd.cells,ae,af];refine aG hs λi9 Y9 s9 a9 f9 z9 hs=>?_;obtain⟨WJ,a4⟩:=RC a4 f9 s9;obtain⟨n89,a8⟩:=RC a8 f9 s9;simp only[go_sem,seval,a9,a4,ca,cf,sa,sf,ad,al,RF,ae,af];generalize Sy:C' _ i9 _=Z9;replace a9:=SR Sy;replace a4:=R6 Sy WJ a4;replace a8:=R6 Sy n89 a8;replace hs:=SL Sy hs z9;refine pS rfl (hRc _) ?_;simp only[go_sem,seval,jQ,ca,cf,sa,sf,ad,al,ae,af];refine aG hs λi10 XP To RZ f10 Uq hs=>?_;obtain⟨U9,a4⟩:=RC a4 f10 To;obtain⟨VW,a8⟩:=RC a8 f10 To;obtain⟨UU,a9⟩:=RC a9 f10 To;simp only[go_sem,seval,RZ,a9,a4,r1,r2,ca,cf,sa,sf,ad,al,ae,af];generalize R5:C' _ i10 _=Y10;replace RZ:=SR R5;replace a4:=R6 R5 U9 a4;replace a8:=R6 R5 VW a8;replace a9:=R6 R5 UU a9;replace hs:=SL R5 hs Uq;refine aG hs λi11 Yf Vb Ug f11 YE hs=>?_;obtain⟨XY,a4⟩:=RC a4 f11 Vb;obtain⟨n811,a8⟩:=RC a8 f11 Vb;obtain⟨Xh,a9⟩:=RC a9 f11 Vb;obtain⟨TR,RZ⟩:=RC RZ f11 Vb;simp only[go_sem,seval,Ug,RZ,a9,a4,r1,r2,ca,cf,sa,sf,ad,al,ae,af];generalize Tb:C' _ i11 _=Y11;replace Ug:=SR Tb;replace a4:=R6 Tb XY a4;replace a8:=R6 Tb n811 a8;replace a9:=R6 Tb Xh a9;replace RZ:=R6 Tb TR RZ;replace hs:=SL Tb hs YE;have X9:=Vi.mono hs;have Wp:=Ul.mono hs;replace z4:=hK.none z4;replace z8:=hK.none z8;replace z9:=hK.none z9;replace Uq:=hK.none Uq;replace YE:=hK.none YE;replace hs:=hK.trans hs;clear Vi Ul hK;rcases R9.kind with hk|hk|hk|hk
 .rw[aK hk]at Sb;simp only[go_sem,seval,Ug,RZ,a9,a4,r1,r2,hk,ca,cf,sa,sf,ad,al,ae,af];have q3:((a:Int)+x.size)=((a+(RJ l a).toNat:Nat):Int):=by rw[<-hszn];omega
  have q2:((a:Int)+1)=((a+1:Nat):Int):=by omega
  have RR:=R9.st;have g1:=RR.top;have g2:=RR.RH;have g3:=RR.RX;have g4:=RR.O';have hI1:=eu hI R9.st;have hcst:Ss l a (a+(RJ l a).toNat)=4+(R4 l a).words.length+Ss l (a+1) (a+(RJ l a).toNat):=nA (by omega) (by omega);obtain⟨s1,Ut⟩:∃z,z=s.enter x.st:=⟨_,rfl⟩
  rw[<-Ut]at hI1 Sb;unfold WS.enter at Ut;simp only at Ut;have r5:=rI a;have r6:R0 .i64 ((a+(RJ l a).toNat:Nat):Int):=ao;refine pR rfl (aV.td (args':=[bg s.g',vI x.st.clear]) ⟨Wp.yK.at,Ur _,trivial⟩ (Ef s.g' x.st.clear (by omega) (hB.flo (by omega))) rfl) ?_;cases Xg:(cu (fI x.st.clear) s.g').2
  .rw[Xg]at Ut;simp only[iP,↓reduceIte]at Ut;apply sR;simp only[go_sem,seval,ca,cf,sa,sf,ad,al,ae,af,a4,a9];obtain⟨p,hp⟩:∃p:Pn,p=s.P':=⟨_,rfl⟩
   have UY:s1={ s with P':=dK p x.st.top x.st.RH }:=by rw[Ut,hp]
   obtain⟨hp1,hp2,hp3,hp4⟩:0<=p.y/\0<=p.m/\p.m<=1099511627776/\p.y+p.m<=1099511627776*(C:Int):=by rw[hp];exact⟨Za,Zd,Yo,hyB⟩
   rw[<-hp]at a4|-;clear hp;generalize Y11=Y5 at*;have hva5:=X9;have hvf5:=Wp;clear X9 Wp;have YS:=zO p x.st.top x.st.RH ⟨by omega,by omega⟩ ⟨by omega,by omega⟩ ⟨by omega,by omega⟩ ⟨by omega,by omega⟩;rw[dd]at YS;refine pS rfl (YS _) ?_;simp only[go_sem,seval,a4,a9,dd,r5,ca,cf,sa,sf,ad,al,ae,af];generalize W1:C' Y5 i4 _=Y6;have hva6:aP K Y6 66 8 va (s1.atoms.map bz):=by rw[<-W1,UY];exact hva5.cI a4 (by simp)
   have hvf6:aP K Y6 137 7 vf (s1.g'.map bl):=by rw[<-W1,UY];exact hvf5.cI a4 (by simp)
   have b4:Y6 i4=some ⟨160,5,[.agg [va,vf,vI s1.RD,vI s1.P'.y,vI s1.P'.m]]⟩:=by rw[<-W1,UY];exact av
   replace a8:=R6 W1 Vt.symm a8;replace a9:=R6 W1 WJ.symm a9;replace hs:=SL W1 hs z4;clear W1 a4 hva5 hvf5;refine aq.loop (λq st=>∃(b:Nat) (s':WS) (va vf:V),q=a+(RJ l a).toNat-b/\a+1<=b/\b<=a+(RJ l a).toNat/\bC l b (a+(RJ l a).toNat)=true/\
    cM l (ct l w) (a+(RJ l a).toNat-(a+1)) (a+1) (a+(RJ l a).toNat) s1=cM l (ct l w) (a+(RJ l a).toNat-b) b (a+(RJ l a).toNat) s'/\fk s' (C+2+Ss l (a+1) b)/\
    aa K st.U/\aP K st.U 66 8 va (s'.atoms.map bz)/\aP K st.U 137 7 vf (s'.g'.map bl)/\
    st.U i4=some ⟨160,5,[.agg [va,vf,vI s'.RD,vI s'.P'.y,vI s'.P'.m]]⟩/\st.U i8=some ⟨160,5,[.agg [.bj,.bj,vI 0,vI 0,vI 0]]⟩/\st.U i9=some ⟨59,20,[.agg (Nd.cells x)]⟩/\
    st.s 1=aQ l/\st.s 2=vI a/\st.s 3=vI w/\st.s 4=.ptr i4 0 0/\st.s 8=.ptr i8 0 0/\st.s 9=.ptr i9 0 0/\st.s 15=vI b) (a+(RJ l a).toNat-(a+1)) ?_ ?_
   .exact⟨a+1,s1,va,vf,rfl,Sf _,by omega,h4,rfl,by rw[tp];exact hI1,hs,hva6,hvf6,b4,a8,a9,rfl,rfl,rfl,rfl,rfl,rfl,by rw[<-q2];rfl⟩
   .clear hs hva6 hvf6 b4 a8 a9 ca cf sa sf;rintro q ⟨S,J⟩ ⟨b,s',va,vf,rfl,Vw,Wr,Yi,heq,UN,hs,Vi,Ul,a4,a8,a9,t1,t2,t3,t4,t8,t9,t15⟩;simp only at hs Vi Ul a4 a8 a9 t1 t2 t3 t4 t8 t9 t15;obtain⟨ca,sa⟩:=Vi.vc;obtain⟨cf,sf⟩:=Ul.vc;rw[Nd.cells]at a9;refine aq.mix 22 ?_;by_cases u':b<a+(RJ l a).toNat
    .have u1:((b:Int)<((a+(RJ l a).toNat:Nat):Int))=True:=RA;obtain⟨h1,h2⟩:=bS Tt Yi (Sf b) u';obtain⟨h3,h4'⟩:=cE Tt Yi u';have SX:b<l.length:=by omega
     have Yn:Ss l (a+1) (a+(RJ l a).toNat)=Ss l (a+1) b+Ss l b (a+(RJ l a).toNat):=et Vw Wr Tt;have YQ:Ss l b (a+(RJ l a).toNat)=Ss l b (b+(RJ l b).toNat)+Ss l (b+(RJ l b).toNat) (a+(RJ l a).toNat):=et (by omega) (by omega) Tt;have hc4:Ss l (a+1) (b+(RJ l b).toNat)=Ss l (a+1) b+Ss l b (b+(RJ l b).toNat):=et Vw (by omega) (by omega);have Zq:=gZ SX;have hidb:=ix l SX;have q4:((b:Int)+l[b].size)=((b+(RJ l b).toNat:Nat):Int):=by rw[Zq];omega
     have r7:R0 .i64 ((b:Int)+l[b].size):=ao;have hK0:aa K (C' (C' (C' K i4 ⟨160,5,[.agg [va,vf,vI s'.RD,vI s'.P'.y,vI s'.P'.m]]⟩) i8 ⟨160,5,[.agg [.bj,.bj,vI 0,vI 0,vI 0]]⟩) i9 ⟨59,20,[.agg (Nd.cells x)]⟩):=(((aa.refl K).aL z4).aL z8).aL z9;have Uo:=ih b (C+2+Ss l (a+1) b) (by omega) SX h2 (by omega) h4' (by omega) s' va vf _ J (((hs.dT a4).dT a8).dT a9) (((Vi.dT a4 (by simp) _).dT a8 (by simp) _).dT a9 (by simp) _) (((Ul.dT a4 (by simp) _).dT a8 (by simp) _).dT a9 (by simp) _) UN;have ZW:=xX hD UN SX h2 (by omega) h4';have U2:=ux (rs:=ct l w) Tt Yi u' s';generalize qm l (ct l w) s' b=s2 at*;rw[Nd.cells]at hK0;apply sR;simp only[go_sem,seval,t1,t2,t3,t4,t8,t9,t15,a4,a9,q3,r6,u1,ca,cf,sa,sf,ad,al,ae,af];refine Tx rfl Uo ?_;rintro r Z6 ⟨va2,vf2,rfl,XA,VF,VG⟩;obtain⟨ca2,sa2⟩:=VF.vc;obtain⟨cf2,sf2⟩:=VG.vc;have c9:=XA _ _ av;have c8:=XA _ _ ((ab n89).trans av);have c4:=XA _ _ ((ab WJ).trans ((ab Vt).trans av));replace VF:=VF.nP hK0;replace VG:=VG.nP hK0;replace XA:=hK0.trans XA;apply sR;simp only[go_sem,seval,t1,t2,t3,t4,t8,t9,t15,c4,c8,c9,ca2,sa2,cf2,sf2,hidb,Nd.cells,r7,ab Vt.symm,ab WJ.symm,ca,cf,sa,sf,ad,al,ae,af];refine⟨_,?_,b+(RJ l b).toNat,s2,va2,vf2,rfl,by omega,by omega,h3,by rw[heq,U2],by rw[hc4,<-Nat.add_assoc];exact ZW,XA.aL z4,VF.cI c4 (by simp),VG.cI c4 (by simp),rfl,by simp[vI,q4]⟩;omega
    .have u1:((b:Int)<((a+(RJ l a).toNat:Nat):Int))=False:=H';obtain rfl:b=a+(RJ l a).toNat:=by omega
     rw[vD]at heq;rw[heq]at Sb;have e1:=UN.bd.m1;have e2:=UN.bd.m0;have e3:=UN.bd.y0;have e4:=UN.bd.yB;have YM:=zV s'.P' x.st.RX x.st.O' ⟨by omega,by omega⟩ ⟨by omega,by omega⟩ ⟨by omega,by omega⟩ ⟨by omega,by omega⟩;rw[dd]at YM;apply sR;simp only[go_sem,seval,t1,t2,t3,t4,t8,t9,t15,a4,a8,a9,q3,r6,u1,ca,cf,sa,sf,ad,al,ae,af];refine pS rfl (YM _) ?_;simp only[go_sem,seval,t1,t2,t3,t4,t8,t9,t15,a4,a8,a9,hk,dd,ab Vt.symm,ab WJ.symm,ab WJ.symm,ab Vt,ca,cf,sa,sf,ad,al,ae,af];have c8:∀o,C' J i4 o i8=_:=λo=>(ab Vt.symm).trans a8;refine SG ⟨va,vf,by rw[Sb];rfl,(hs.aL z4).aL z8,?_,?_⟩
     .rw[Sb];exact(Vi.cI a4 (by simp)).cI (c8 _) (by simp)
     .rw[Sb];exact(Ul.cI a4 (by simp)).cI (c8 _) (by simp)
  .rw[Xg]at Ut;simp only[↓reduceIte]at Ut;obtain⟨f,hfm,e1,_⟩:=kA Xg;have e2:(cu (fI x.st.clear) s.g').1=f.y+f.h:=e1;have hff:=hB.fl f hfm;have hff1:=hff.yB;have hff2:=hff.y0;have hff3:=hff.h0;generalize (cu (fI x.st.clear) s.g').1=low at*;have SW:=Hf s.P' low ⟨by omega,by omega⟩ ⟨by omega,by omega⟩;rw[dd]at SW;apply sR;simp only[go_sem,seval,ca,cf,sa,sf,ad,al,ae,af,a4,a9];refine pR rfl (SW _) ?_;have hcp:0<=(eC s.P' low).y/\0<=(eC s.P' low).m/\(eC s.P' low).m<=1099511627776/\(eC s.P' low).y+(eC s.P' low).m<=1099511627776*(C:Int):=by
    unfold eC;split
    .simp only;omega
    .omega
   apply sR;simp only[go_sem,seval,a4,a9,dd,ca,cf,sa,sf,ad,al,ae,af];generalize eC s.P' low=p at*;have UY:s1={ s with P':=dK p x.st.top x.st.RH }:=Ut;obtain⟨hp1,hp2,hp3,hp4⟩:=hcp;generalize TL:C' Y11 i4 _=Y5;have hva5:aP K Y5 66 8 va (s.atoms.map bz):=by rw[<-TL];exact X9.cI a4 (by simp)
   have hvf5:aP K Y5 137 7 vf (s.g'.map bl):=by rw[<-TL];exact Wp.cI a4 (by simp)
   replace a4:=SR TL;replace a8:=R6 TL Vt.symm a8;replace a9:=R6 TL WJ.symm a9;replace hs:=SL TL hs z4;clear TL X9 Wp;simp only[go_sem,seval,a4,a9,dd,ca,cf,sa,sf,ad,al,ae,af];have YS:=zO p x.st.top x.st.RH ⟨by omega,by omega⟩ ⟨by omega,by omega⟩ ⟨by omega,by omega⟩ ⟨by omega,by omega⟩;rw[dd]at YS;refine pS rfl (YS _) ?_;simp only[go_sem,seval,a4,a9,dd,r5,ca,cf,sa,sf,ad,al,ae,af];generalize W1:C' Y5 i4 _=Y6;have hva6:aP K Y6 66 8 va (s1.atoms.map bz):=by rw[<-W1,UY];exact hva5.cI a4 (by simp)
   have hvf6:aP K Y6 137 7 vf (s1.g'.map bl):=by rw[<-W1,UY];exact hvf5.cI a4 (by simp)
   have b4:Y6 i4=some ⟨160,5,[.agg [va,vf,vI s1.RD,vI s1.P'.y,vI s1.P'.m]]⟩:=by rw[<-W1,UY];exact av
   replace a8:=R6 W1 Vt.symm a8;replace a9:=R6 W1 WJ.symm a9;replace hs:=SL W1 hs z4;clear W1 a4 hva5 hvf5;refine aq.loop (λq st=>∃(b:Nat) (s':WS) (va vf:V),q=a+(RJ l a).toNat-b/\a+1<=b/\b<=a+(RJ l a).toNat/\bC l b (a+(RJ l a).toNat)=true/\
    cM l (ct l w) (a+(RJ l a).toNat-(a+1)) (a+1) (a+(RJ l a).toNat) s1=cM l (ct l w) (a+(RJ l a).toNat-b) b (a+(RJ l a).toNat) s'/\fk s' (C+2+Ss l (a+1) b)/\
    aa K st.U/\aP K st.U 66 8 va (s'.atoms.map bz)/\aP K st.U 137 7 vf (s'.g'.map bl)/\
    st.U i4=some ⟨160,5,[.agg [va,vf,vI s'.RD,vI s'.P'.y,vI s'.P'.m]]⟩/\st.U i8=some ⟨160,5,[.agg [.bj,.bj,vI 0,vI 0,vI 0]]⟩/\st.U i9=some ⟨59,20,[.agg (Nd.cells x)]⟩/\
    st.s 1=aQ l/\st.s 2=vI a/\st.s 3=vI w/\st.s 4=.ptr i4 0 0/\st.s 8=.ptr i8 0 0/\st.s 9=.ptr i9 0 0/\st.s 15=vI b) (a+(RJ l a).toNat-(a+1)) ?_ ?_
   .exact⟨a+1,s1,va,vf,rfl,Sf _,by omega,h4,rfl,by rw[tp];exact hI1,hs,hva6,hvf6,b4,a8,a9,rfl,rfl,rfl,rfl,rfl,rfl,by rw[<-q2];rfl⟩
   .clear hs hva6 hvf6 b4 a8 a9 ca cf sa sf;rintro q ⟨S,J⟩ ⟨b,s',va,vf,rfl,Vw,Wr,Yi,heq,UN,hs,Vi,Ul,a4,a8,a9,t1,t2,t3,t4,t8,t9,t15⟩;simp only at hs Vi Ul a4 a8 a9 t1 t2 t3 t4 t8 t9 t15;obtain⟨ca,sa⟩:=Vi.vc;obtain⟨cf,sf⟩:=Ul.vc;rw[Nd.cells]at a9;refine aq.mix 22 ?_;by_cases u':b<a+(RJ l a).toNat
    .have u1:((b:Int)<((a+(RJ l a).toNat:Nat):Int))=True:=RA;obtain⟨h1,h2⟩:=bS Tt Yi (Sf b) u';obtain⟨h3,h4'⟩:=cE Tt Yi u';have SX:b<l.length:=by omega
     have Yn:Ss l (a+1) (a+(RJ l a).toNat)=Ss l (a+1) b+Ss l b (a+(RJ l a).toNat):=et Vw Wr Tt;have YQ:Ss l b (a+(RJ l a).toNat)=Ss l b (b+(RJ l b).toNat)+Ss l (b+(RJ l b).toNat) (a+(RJ l a).toNat):=et (by omega) (by omega) Tt;have hc4:Ss l (a+1) (b+(RJ l b).toNat)=Ss l (a+1) b+Ss l b (b+(RJ l b).toNat):=et Vw (by omega) (by omega);have Zq:=gZ SX;have hidb:=ix l SX;have q4:((b:Int)+l[b].size)=((b+(RJ l b).toNat:Nat):Int):=by rw[Zq];omega
     have r7:R0 .i64 ((b:Int)+l[b].size):=ao;have hK0:aa K (C' (C' (C' K i4 ⟨160,5,[.agg [va,vf,vI s'.RD,vI s'.P'.y,vI s'.P'.m]]⟩) i8 ⟨160,5,[.agg [.bj,.bj,vI 0,vI 0,vI 0]]⟩) i9 ⟨59,20,[.agg (Nd.cells x)]⟩):=(((aa.refl K).aL z4).aL z8).aL z9;have Uo:=ih b (C+2+Ss l (a+1) b) (by omega) SX h2 (by omega) h4' (by omega) s' va vf _ J (((hs.dT a4).dT a8).dT a9) (((Vi.dT a4 (by simp) _).dT a8 (by simp) _).dT a9 (by simp) _) (((Ul.dT a4 (by simp) _).dT a8 (by simp) _).dT a9 (by simp) _) UN;have ZW:=xX hD UN SX h2 (by omega) h4';have U2:=ux (rs:=ct l w) Tt Yi u' s';generalize qm l (ct l w) s' b=s2 at*;rw[Nd.cells]at hK0;apply sR;simp only[go_sem,seval,t1,t2,t3,t4,t8,t9,t15,a4,a9,q3,r6,u1,ca,cf,sa,sf,ad,al,ae,af];refine Tx rfl Uo ?_;rintro r Z6 ⟨va2,vf2,rfl,XA,VF,VG⟩;obtain⟨ca2,sa2⟩:=VF.vc;obtain⟨cf2,sf2⟩:=VG.vc;have c9:=XA _ _ av;have c8:=XA _ _ ((ab n89).trans av);have c4:=XA _ _ ((ab WJ).trans ((ab Vt).trans av));replace VF:=VF.nP hK0;replace VG:=VG.nP hK0;replace XA:=hK0.trans XA;apply sR;simp only[go_sem,seval,t1,t2,t3,t4,t8,t9,t15,c4,c8,c9,ca2,sa2,cf2,sf2,hidb,Nd.cells,r7,ab Vt.symm,ab WJ.symm,ca,cf,sa,sf,ad,al,ae,af];refine⟨_,?_,b+(RJ l b).toNat,s2,va2,vf2,rfl,by omega,by omega,h3,by rw[heq,U2],by rw[hc4,<-Nat.add_assoc];exact ZW,XA.aL z4,VF.cI c4 (by simp),VG.cI c4 (by simp),rfl,by simp[vI,q4]⟩;omega
    .have u1:((b:Int)<((a+(RJ l a).toNat:Nat):Int))=False:=H';obtain rfl:b=a+(RJ l a).toNat:=by omega
     rw[vD]at heq;rw[heq]at Sb;have e1:=UN.bd.m1;have e2:=UN.bd.m0;have e3:=UN.bd.y0;have e4:=UN.bd.yB;have YM:=zV s'.P' x.st.RX x.st.O' ⟨by omega,by omega⟩ ⟨by omega,by omega⟩ ⟨by omega,by omega⟩ ⟨by omega,by omega⟩;rw[dd]at YM;apply sR;simp only[go_sem,seval,t1,t2,t3,t4,t8,t9,t15,a4,a8,a9,q3,r6,u1,ca,cf,sa,sf,ad,al,ae,af];refine pS rfl (YM _) ?_;simp only[go_sem,seval,t1,t2,t3,t4,t8,t9,t15,a4,a8,a9,hk,dd,ab Vt.symm,ab WJ.symm,ab WJ.symm,ab Vt,ca,cf,sa,sf,ad,al,ae,af];have c8:∀o,C' J i4 o i8=_:=λo=>(ab Vt.symm).trans a8;refine SG ⟨va,vf,by rw[Sb];rfl,(hs.aL z4).aL z8,?_,?_⟩
     .rw[Sb];exact(Vi.cI a4 (by simp)).cI (c8 _) (by simp)
     .rw[Sb];exact(Ul.cI a4 (by simp)).cI (c8 _) (by simp)
 .rw[aM (by omega),aK hk]at Sb;simp only[go_sem,seval,Ug,RZ,a9,a4,r1,r2,hk,ca,cf,sa,sf,ad,al,ae,af];have hlb:=R9.line;have hwok:WOk x.words x.space:=⟨by omega,λz hz=>by have:=R9.words z hz;omega,R9.space.1,R9.space.2⟩
  unfold WS.text at Sb;rw[Vq]at Sb;have hLl:=jt s.g' x.words x.space x.line ⟨R.x,R.x+R.w⟩ x.words.length 0 (s.P'.y+s.P'.m);have hLb:=iY (ws:=x.words) (space:=x.space) (s:=⟨R.x,R.x+R.w⟩) (λf hf=>(hB.fl f hf).yB) hlb.1 x.words.length 0 (s.P'.y+s.P'.m);have htc:=(GG vf s.g' Wp.yK x.words x.space x.line (s.P'.y+s.P'.m) ⟨R.x,R.x+R.w⟩ (by omega) (hB.flo (by omega)) (1099511627776*(C:Int)) (λf hf=>(hB.fl f hf).yB) (by omega) (by omega) (by omega) hlb.1 hlb.2 ⟨⟨by simp only;omega,by simp only;omega⟩,⟨by simp only;omega,by simp only;omega⟩⟩ hwok).yq λ_ _ h=>h.2.ns (v0:=jZ (cA s.g' x.words x.space x.line ⟨R.x,R.x+R.w⟩ x.words.length 0 (s.P'.y+s.P'.m))) h.1 rfl;generalize cA s.g' x.words x.space x.line ⟨R.x,R.x+R.w⟩ x.words.length 0 (s.P'.y+s.P'.m)=L at*;have hnL:ej false (jZ L)=some (.int .i64 L.length):=by simp[jZ,ej]
  have hmul:x.line*(x.words.length:Int)<=1099511627776*10000:=Int.mul_le_mul hlb.2 (by omega) (by omega) (by omega);rw[aW]at htc;simp only at htc;refine pS rfl htc ?_;simp only[go_sem,seval,ca,cf,sa,sf,ad,al,ae,af];have hZ:Z=eI a x.line s L:=Sb;clear Sb;refine aq.loop (λm st=>∃(j:Nat) (va':V),j<=L.length/\m=L.length-j/\aa K st.U/\aP K st.U 66 8 va' ((eI a x.line s (L.take j)).atoms.map bz)/\aP K st.U 137 7 vf (s.g'.map bl)/\
   st.U i4=some ⟨160,5,[.agg [va',vf,vI (eI a x.line s (L.take j)).RD,vI (eI a x.line s (L.take j)).P'.y,vI (eI a x.line s (L.take j)).P'.m]]⟩/\
   st.U i8=some ⟨160,5,[.agg [.bj,.bj,vI 0,vI 0,vI 0]]⟩/\st.U i9=some ⟨59,20,[.agg (Nd.cells x)]⟩/\st.s 2=vI a/\st.s 4=.ptr i4 0 0/\st.s 8=.ptr i8 0 0/\st.s 9=.ptr i9 0 0/\st.s 16=jZ L/\st.s 17=vI j) L.length ?_ ?_
  .exact⟨0,va,by omega,rfl,hs,X9,Wp,a4,a8,a9,rfl,rfl,rfl,rfl,rfl,rfl⟩
  .clear hs X9 Wp a4 a8 a9 ca sa;rintro m ⟨S,J⟩ ⟨j,va,hj,rfl,hs,Vi,Ul,a4,a8,a9,k2',k4',k8',k9',k16,k17⟩;simp only at hs Vi Ul a4 a8 a9 k2' k4' k8' k9' k16 k17;obtain⟨ca,sa⟩:=Vi.vc;refine aq.mix 22 ?_;rw[Nd.cells]at a9;by_cases u':j<L.length
   .have u1:=qT u';have SA:∀U,bG U 5 (jZ L) (.int .i64 j)=some (.rp (iX L[j])):=λU=>by simp[jZ,bG,u']
    have Sd:=ua (a:=a) (h:=x.line) (s:=s) u';have hbd:=hLb L[j] (Sx u');have V2:=oc a x.line (L.take j) s;rw[lQ,Nat.min_eq_left (by omega)]at V2;have hpf:(eI a x.line s (L.take (j+1))).g'=s.g'/\(eI a x.line s (L.take (j+1))).RD=(eI a x.line s (L.take j)).RD:=by rw[Sd];exact⟨vk _ _ _ _,rfl⟩
    generalize L[j]=y at*;have hen':iX y=.agg [vI y.fr,vI y.to,vI y.x,vI y.y,vI y.w]:=rfl;generalize eI a x.line s (L.take j)=T at*;have r3:R0 .i64 (y.y+x.line):=ao;have r4:=rI j;have Ty:=hs;apply sR;simp only[go_sem,seval,k2',k4',k8',k9',k16,k17,a4,a9,hnL,u1,SA,hen',ca,cf,sa,sf,ad,al,ae,af];refine aG hs λi18 Z18 s18 Ws f18 z18 hs=>?_;obtain⟨n418,a4⟩:=RC a4 f18 s18;obtain⟨n818,a8⟩:=RC a8 f18 s18;obtain⟨n918,a9⟩:=RC a9 f18 s18;have YP:=Vi.mono s18;have hf18:=Ul.mono s18;simp only[go_sem,seval,Ws,k2',k4',k8',k9',k16,k17,a4,a9,ab n418,ab n818,ab n918,ca,cf,sa,sf,ad,al,ae,af];generalize Vm:C' Z18 i18 _=Y18;replace YP:aP K Y18 66 8 va (T.atoms.map bz):=by rw[<-Vm];exact YP.cI Ws (by simp)
    replace hf18:aP K Y18 137 7 vf (s.g'.map bl):=by rw[<-Vm];exact hf18.cI Ws (by simp)
    replace Ws:=SR Vm;replace a4:=R6 Vm n418 a4;replace a8:=R6 Vm n818 a8;replace a9:=R6 Vm n918 a9;replace hs:=SL Vm hs z18;refine aD λi85 Z85 Zh a85 f85=>?_;obtain⟨idA,SE,hdv,TW,RO⟩:=YP.AX Zh;have hap:=YP.Bp hf18 (by simp);have Uh:(T.atoms.map bz).length=T.atoms.length:=by simp
    have Sh:(T.atoms.length+1)*65<=140737488355328:=by omega
    simp only[go_sem,seval,SE,bN a85,Uh,Sh,k2',k4',k8',k9',k16,k17];refine bk λi86 Z86 s86 a86 f86=>?_;have hf86:=((hf18.mono Zh).Ht (idA:=idA) λj hj n hv=>hap _ _ _ _ (hdv j hj) hv rfl).mono s86;have n86:=(hs.trans Zh).none f86;have ha86:aP K Z86 66 8 (.own i86 0 (T.atoms.length+1)) ((T.atoms++[eM a x.line y]).map bz):=aP.new (by simp) (by rw[a86,eQ];rfl) n86;replace a4:=s86 _ _ ((TW i4 (YP.j4 a4 (by simp)) _).trans (Zh _ _ a4));replace a8:=s86 _ _ ((TW i8 (YP.j4 a8 (by simp)) _).trans (Zh _ _ a8));replace a9:=s86 _ _ ((TW i9 (YP.j4 a9 (by simp)) _).trans (Zh _ _ a9));replace Ws:=s86 _ _ ((TW i18 (YP.j4 Ws (by simp)) _).trans (Zh _ _ Ws));replace hs:=(RO K (aa.refl K) Z85 (hs.trans Zh)).trans s86;simp only[go_sem,seval,k2',k4',k8',k9',k16,k17,a4,a8,a9,Ws,r3,r4,ab Vt.symm,ab WJ.symm,ab n418.symm,ca,cf,sa,sf,ad,al,ae,af];refine⟨_,by omega,j+1,.own i86 0 (T.atoms.length+1),by omega,rfl,hs.aL z4,?_,hf86.cI a4 (by simp),?_,rfl,by simp[vI]⟩
    .rw[Sd];exact ha86.cI a4 (by simp)
    .rw[Sd];rfl
   .have u1:=qF u';obtain rfl:j=L.length:=by omega
    rw[ik]at Vi a4;apply sR;simp only[go_sem,seval,k2',k4',k8',k9',k16,k17,a4,a8,a9,hk,hnL,u1,ab Vt.symm,ab WJ.symm,ab WJ.symm,ab Vt,ca,cf,sa,sf,ad,al,ae,af];exact SG ⟨va,vf,by rw[hZ],hs.aL z8,by rw[hZ];exact Vi.cI a8 (by simp),by rw[hZ,vk];exact Ul.cI a8 (by simp)⟩
 .rw[aM (by omega),aM (by omega),aK hk]at Sb;simp only[go_sem,seval,Ug,RZ,a9,a4,r1,r2,hk,ca,cf,sa,sf,ad,al,ae,af];have hyr:=eX (w:=x.w) (high:=x.h) (y:=s.P'.y+s.P'.m) (s:=eo (ct l w) a) (λf hf=>(hB.fl f hf).yB);have hws:=R9.w;have hhs:=R9.h;unfold WS.mono at Sb;rw[Vq]at Sb hyr;replace Sb:Z=s.put ⟨2,a,0,0,(bM s.g' (fN s.g' x.w x.h ⟨R.x,R.x+R.w⟩ (s.P'.y+s.P'.m)) x.h ⟨R.x,R.x+R.w⟩).a,fN s.g' x.w x.h ⟨R.x,R.x+R.w⟩ (s.P'.y+s.P'.m),x.w,x.h⟩:=Sb;have hrc:=Cw s.g' x.w x.h ⟨R.x,R.x+R.w⟩ (by omega) (hB.flo (by omega)) ⟨by omega,by omega⟩ ⟨⟨by simp only;omega,by simp only;omega⟩,⟨by simp only;omega,by simp only;omega⟩⟩ (WH s.g' (s.P'.y+s.P'.m)+1) (s.P'.y+s.P'.m) (by omega) ⟨by omega,by omega⟩;generalize UK:fN s.g' x.w x.h ⟨R.x,R.x+R.w⟩ (s.P'.y+s.P'.m)=Sl at*;generalize bM s.g' Sl x.h ⟨R.x,R.x+R.w⟩=bd at*;rw[aW]at hrc;simp only at hrc;refine pS rfl (aV.td (args':=[bg s.g',vI x.w,vI x.h,vI (s.P'.y+s.P'.m),.agg [vI R.x,vI (R.x+R.w)]]) ⟨Wp.yK.at,Ur _,Ur _,Ur _,Ur _,trivial⟩ hrc rfl) ?_;simp only[go_sem,seval,aW,ca,cf,sa,sf,ad,al,ae,af];refine aG hs λi19 Z19 s19 a19 f19 z19 hs=>?_;obtain⟨n419,a4⟩:=RC a4 f19 s19;obtain⟨n819,a8⟩:=RC a8 f19 s19;obtain⟨n919,a9⟩:=RC a9 f19 s19;have ZN:=X9.mono s19;have hf19:=Wp.mono s19;have r3:R0 .i64 (Sl+x.h):=ao;simp only[go_sem,seval,a19,a9,a4,hk,ca,cf,sa,sf,ad,al,ae,af];generalize ZO:C' Z19 i19 _=Y19;replace ZN:aP K Y19 66 8 va (s.atoms.map bz):=by rw[<-ZO];exact ZN.cI a19 (by simp)
  replace hf19:aP K Y19 137 7 vf (s.g'.map bl):=by rw[<-ZO];exact hf19.cI a19 (by simp)
  replace a19:=SR ZO;replace a4:=R6 ZO n419 a4;replace a8:=R6 ZO n819 a8;replace a9:=R6 ZO n919 a9;replace hs:=SL ZO hs z19;simp only[go_sem,seval,a19,a9,a4,hk,ca,cf,sa,sf,ad,al,ae,af];refine aD λi85 Z85 Zh a85 f85=>?_;obtain⟨idA,SE,hdv,TW,RO⟩:=ZN.AX Zh;have hap:=ZN.Bp hf19 (by simp);have Uh:(s.atoms.map bz).length=s.atoms.length:=by simp
  have Sh:(s.atoms.length+1)*65<=140737488355328:=by omega
  simp only[go_sem,seval,SE,bN a85,Uh,Sh];refine bk λi86 Z86 s86 a86 f86=>?_;have hf86:=((hf19.mono Zh).Ht (idA:=idA) λj hj n hv=>hap _ _ _ _ (hdv j hj) hv rfl).mono s86;have n86:=(hs.trans Zh).none f86;have ha86:aP K Z86 66 8 (.own i86 0 (s.atoms.length+1)) ((s.atoms++[(⟨2,a,0,0,bd.a,Sl,x.w,x.h⟩:SK)]).map bz):=aP.new (by simp) (by rw[a86,eQ];rfl) n86;replace a4:=s86 _ _ ((TW i4 (ZN.j4 a4 (by simp)) _).trans (Zh _ _ a4));replace a8:=s86 _ _ ((TW i8 (ZN.j4 a8 (by simp)) _).trans (Zh _ _ a8));replace a9:=s86 _ _ ((TW i9 (ZN.j4 a9 (by simp)) _).trans (Zh _ _ a9));replace hs:=(RO K (aa.refl K) Z85 (hs.trans Zh)).trans s86;simp only[go_sem,seval,a4,a8,a9,hk,r3,ab Vt.symm,ab WJ.symm,ab WJ.symm,ab Vt,ca,cf,sa,sf,ad,al,ae,af];have c8:∀o,C' Z86 i4 o i8=_:=λo=>(ab Vt.symm).trans a8;refine SG ⟨.own i86 0 (s.atoms.length+1),vf,by rw[Sb];rfl,(hs.aL z4).aL z8,?_,?_⟩
  .rw[Sb];exact(ha86.cI a4 (by simp)).cI (c8 _) (by simp)
  .rw[Sb];exact(hf86.cI a4 (by simp)).cI (c8 _) (by simp)
 .rw[aM (by omega),aM (by omega),aM (by omega)]at Sb;have TZ:ej false va=some (.int .i64 s.atoms.length):=by rw[X9.len];simp
  simp only[go_sem,seval,Ug,RZ,a9,a4,r1,r2,hk,TZ,ca,cf,sa,sf,ad,al,ae,af];refine aG hs λi21 Z21 s21 a21 f21 z21 hs=>?_;obtain⟨n421,a4⟩:=RC a4 f21 s21;obtain⟨n821,a8⟩:=RC a8 f21 s21;obtain⟨n921,a9⟩:=RC a9 f21 s21;obtain⟨n1121,Ug⟩:=RC Ug f21 s21;have ha21:=X9.mono s21;have hf21:=Wp.mono s21;have nf21:=Wp.ET f21;simp only[go_sem,seval,a21,Ug,a9,a4,hk,TZ,ab n421,ab n821,ab n921,ab n1121,ca,cf,sa,sf,ad,al,ae,af];generalize ZP:C' Z21 i21 _=Y21;replace ha21:aP K Y21 66 8 va (s.atoms.map bz):=by rw[<-ZP];exact ha21.cI a21 (by simp)
  replace hf21:aP K Y21 137 7 vf (s.g'.map bl):=by rw[<-ZP];exact hf21.Lc nf21
  replace a21:=SR ZP;replace a4:=R6 ZP n421 a4;replace a8:=R6 ZP n821 a8;replace a9:=R6 ZP n921 a9;replace hs:=SL ZP hs z21;have hws:=R9.w;have hhs:=R9.h;have hput:=IC vf s.g' hf21 ⟨a,x.side,s.atoms.length,0,0,x.w,x.h⟩ (s.P'.y+s.P'.m) ⟨R.x,R.x+R.w⟩ (by omega) (hB.flo (by omega)) ⟨by omega,by omega⟩ (show Bq x.h from⟨by omega,by omega⟩) (show Bq x.w from⟨by omega,by omega⟩) ⟨⟨by simp only;omega,by simp only;omega⟩,⟨by simp only;omega,by simp only;omega⟩⟩;rw[aW,bl]at hput;unfold WS.float at Sb;rw[Vq]at Sb;simp only at hput;generalize mU s.g' ⟨a,x.side,s.atoms.length,0,0,x.w,x.h⟩ (s.P'.y+s.P'.m) ⟨R.x,R.x+R.w⟩=PF at*;refine Tx rfl hput ?_;rintro vr Z6 ⟨s6,hvr⟩;replace hvr:=hvr.nP hs;replace hs:=hs.trans s6;replace a4:=s6 _ _ a4;replace a8:=s6 _ _ a8;have ha6:=ha21.mono s6;obtain⟨cr,sr⟩:=hvr.vc;apply sR;simp only[go_sem,seval,a4,a8,cr,sr,ab Vt.symm,ab WJ.symm,ab WJ.symm,ab Vt,ca,cf,sa,sf,ad,al,ae,af];have c8:∀o,C' Z6 i4 o i8=_:=λo=>(ab Vt.symm).trans a8;refine SG ⟨va,vr,by rw[Sb],(hs.aL z4).aL z8,?_,?_⟩
  .rw[Sb];exact(ha6.cI a4 (by simp)).cI (c8 _) (by simp)
  .rw[Sb];exact(hvr.cI a4 (by simp)).cI (c8 _) (by simp)
open Go.Proofs
def DK{α:Type}{l:List α}{j:Nat}{x:α}(h:l[j]?=some x):l.set j x=l:=by
 obtain⟨hj,rfl⟩:=ri.1 h;simp
def Eb(n:Nat)(l:List RS):fi n l.length l=l.map (lK n):=by
 unfold fi;rw[ik,vU,j6]
def IF(l:List Nd)(hl:dq l)(w:Int)(hw1:1<=w)(U3:w<=1099511627776)(hck:dU l=0):aV prog 71 [aQ l,vI w] (.RM [GL (cJ l w),vI 0]):=λU=>by
 obtain⟨hb,hn,hwo,Xo⟩:=mv hck;have SW:=Dh l hl;rw[hck]at SW;have hD:=nI hb hn hw1 U3;have hr:bC l 0 l.length=true:=by simp only[Sc,Ba]at hb;exact hb.2
 have T1:=bO l;have Sb:=Kv l w hb hn hw1 U3 (λx hx=>by have:=hwo x hx;omega);have hgl:cJ l w=⟨(cM l (ct l w) (l.length-0) 0 l.length ⟨[],[],0,⟨0,0⟩⟩).fin.atoms,(cM l (ct l w) (l.length-0) 0 l.length ⟨[],[],0,⟨0,0⟩⟩).fin.g',(cM l (ct l w) (l.length-0) 0 l.length ⟨[],[],0,⟨0,0⟩⟩).fin.RD⟩:=rfl;have hI0:fk ⟨[],[],0,⟨0,0⟩⟩ 0:=⟨⟨by simp,by simp,by simp,by simp,by simp⟩,by simp,by simp⟩
 have UM:=qX (rs:=ct l w) hb (l.length-0) 0 l.length ⟨[],[],0,⟨0,0⟩⟩ (by omega) (Sf _) hr (λf hf=>by simp at hf);have han:=uN (l:=l) (rs:=ct l w) (l.length-0) 0 l.length ⟨[],[],0,⟨0,0⟩⟩ (λf hf=>by simp at hf);rw[hgl];refine e71.q ?_;have hs:=aa.refl U;have q1:(w<1)=False:=H';have q2:(w>1099511627776)=False:=H';have q3:((0:Int)≠0)=False:=H' (λh=>h rfl);refine mS 11 ?_;simp only[go_sem,seval,c71,q1,q2];refine aG hs λi4 Z4 s4 a4 f4 z4 hs=>?_;simp only[go_sem,seval,q1,q2];refine pS rfl (SW _) ?_;simp only[go_sem,seval,q3];refine aG hs λi7 Z7 s7 a7 f7 z7 hs=>?_;obtain⟨Wo,a4⟩:=RC a4 f7 s7;simp only[go_sem,seval,a7,ab Wo,ab Wo];generalize VZ:C' _ i7 _=Y7;replace a7:=SR VZ;replace a4:=R6 VZ Wo a4;replace hs:=SL VZ hs z7;obtain⟨SO,hFIN⟩:∃z,z=cM l (ct l w) (l.length-0) 0 l.length ⟨[],[],0,⟨0,0⟩⟩:=⟨_,rfl⟩
 rw[<-hFIN]at UM han|-;refine aq.loop (λq st=>∃(b:Nat) (s':WS) (va vf:V),q=l.length-b/\b<=l.length/\bC l b l.length=true/\SO=cM l (ct l w) (l.length-b) b l.length s'/\fk s' (Ss l 0 b)/\
  aa U st.U/\aP U st.U 66 8 va (s'.atoms.map bz)/\aP U st.U 137 7 vf (s'.g'.map bl)/\
  st.U i7=some ⟨160,5,[.agg [va,vf,vI s'.RD,vI s'.P'.y,vI s'.P'.m]]⟩/\st.U i4=some ⟨28,3,[.agg [.bj,.bj,vI 0]]⟩/\
  st.s 0=aQ l/\st.s 1=vI w/\st.s 4=.ptr i4 0 0/\st.s 7=.ptr i7 0 0/\st.s 8=vI b) l.length ?_ ?_
 .exact⟨0,⟨[],[],0,⟨0,0⟩⟩,.bj,.bj,by omega,by omega,hr,hFIN,by rw[tp];exact hI0,hs,aP.start,aP.start,a7,a4,rfl,rfl,rfl,rfl,rfl⟩
 .clear hs a4 a7 hFIN hI0;rintro q ⟨S,J⟩ ⟨b,s',va,vf,rfl,Wr,Yi,heq,UN,hs,Vi,Ul,a7,a4,t0,t1,t4,t7,t8⟩;simp only at hs Vi Ul a7 a4 t0 t1 t4 t7 t8;obtain⟨ca,sa⟩:=Vi.vc;obtain⟨cf,sf⟩:=Ul.vc;refine aq.mix 11 ?_;by_cases u':b<l.length
  .have u1:=qT u';obtain⟨h1,h2⟩:=bS (Sf _) Yi (Sf b) u';obtain⟨h3,h4'⟩:=cE (Sf _) Yi u';have Yn:Ss l 0 l.length=Ss l 0 b+Ss l b l.length:=et (by omega) (by omega) (Sf _);have YQ:Ss l b l.length=Ss l b (b+(RJ l b).toNat)+Ss l (b+(RJ l b).toNat) l.length:=et (by omega) (by omega) (Sf _);have hc4:Ss l 0 (b+(RJ l b).toNat)=Ss l 0 b+Ss l b (b+(RJ l b).toNat):=et (by omega) (by omega) (by omega);have Zq:=gZ u';have hidb:=ix l u';have q4:((b:Int)+l[b].size)=((b+(RJ l b).toNat:Nat):Int):=by rw[Zq];omega
   have r7:R0 .i64 ((b:Int)+l[b].size):=ao;have z4':=z4;have hK0:aa U (C' (C' U i7 ⟨160,5,[.agg [va,vf,vI s'.RD,vI s'.P'.y,vI s'.P'.m]]⟩) i4 ⟨28,3,[.agg [.bj,.bj,vI 0]]⟩):=((aa.refl U).aL z7).aL z4;have Uo:=Sb (l.length-b+1) b (Ss l 0 b) (by omega) u' h2 (by omega) h4' (by omega) s' va vf _ J ((hs.dT a7).dT a4) ((Vi.dT a7 (by simp) _).dT a4 (by simp) _) ((Ul.dT a7 (by simp) _).dT a4 (by simp) _) UN;have ZW:=xX hD UN u' h2 (by omega) h4';have U2:=ux (rs:=ct l w) (Sf _) Yi u' s';generalize qm l (ct l w) s' b=s2 at*;apply sR;simp only[go_sem,seval,t0,t1,t4,t7,t8,a7,T1,u1,ad,al,ae,af];refine Tx rfl Uo ?_;rintro r Z6 ⟨va2,vf2,rfl,XA,VF,VG⟩;obtain⟨ca2,sa2⟩:=VF.vc;obtain⟨cf2,sf2⟩:=VG.vc;have c4:=XA _ _ av;have c7:=XA _ _ ((ab Wo.symm).trans av);replace VF:=VF.nP hK0;replace VG:=VG.nP hK0;replace XA:=hK0.trans XA;apply sR;simp only[go_sem,seval,t0,t1,t4,t7,t8,c4,c7,ca2,sa2,cf2,sf2,hidb,Nd.cells,r7,ab Wo,ab Wo,ad,al,ae,af];refine⟨_,?_,b+(RJ l b).toNat,s2,va2,vf2,rfl,by omega,h3,by rw[heq,U2],by rw[hc4];exact ZW,XA.aL z7,VF.cI c7 (by simp),VG.cI c7 (by simp),by simp[vI,q4]⟩;omega
  .have u1:=qF u';obtain rfl:b=l.length:=by omega
   rw[vD]at heq;subst heq;have e1:=UN.bd.m1;have e2:=UN.bd.m0;have e3:=UN.bd.y0;have e4:=UN.bd.yB;have r5:R0 .i64 (SO.P'.y+SO.P'.m):=ao;have WI:=UN.Sl;have hfl:=UN.fl;have hflo:=UN.bd.fl;have Sq:SO.fin={ SO with RD:=vM SO,g':=SO.g'.map (lK SO.atoms.length) }:=rfl;rw[Hz UM]at Sq;rw[Sq];clear Sq;simp only;apply sR;simp only[go_sem,seval,t0,t1,t4,t7,t8,a7,T1,u1,ca,sa,cf,sf,r5,ad,al,ae,af];refine aq.loop (λq st=>∃(j:Nat),j<=SO.g'.length/\q=SO.g'.length-j/\aa U st.U/\aP U st.U 66 8 va (SO.atoms.map bz)/\aP U st.U 137 7 vf ((fi SO.atoms.length j SO.g').map bl)/\
    st.U i7=some ⟨160,5,[.agg [va,vf,vI (hiF (SO.P'.y+SO.P'.m) (SO.g'.take j)),vI SO.P'.y,vI SO.P'.m]]⟩/\st.U i4=some ⟨28,3,[.agg [.bj,.bj,vI 0]]⟩/\
    st.s 4=.ptr i4 0 0/\st.s 7=.ptr i7 0 0/\st.s 9=vI j) SO.g'.length ?_ ?_
   .exact⟨0,by omega,rfl,hs.aL z7,Vi.cI a7 (by simp),by simpa[fi]using Ul.cI a7 (by simp),av,(ab Wo).trans a4,t4,t7,rfl⟩
   .clear hs Vi Ul a7 a4 t0 t1 t4 t7 t8;rintro q ⟨S,J⟩ ⟨j,hj,rfl,hs,Vi,Ul,a7,a4,t4,t7,t9⟩;simp only at hs Vi Ul a7 a4 t4 t7 t9;refine aq.mix 11 ?_;have Ve:=j9 SO.atoms.length j SO.g';have XX:ej false vf=some (.int .i64 SO.g'.length):=by rw[Ul.len,dC,Ve]
    have TZ:ej false va=some (.int .i64 SO.atoms.length):=by rw[Vi.len];simp
    by_cases u':j<SO.g'.length
    .have u2:=qT u';have hvf0:=Ul;obtain⟨id,hve,h2,h3⟩:∃id,vf=.own id 0 SO.g'.length/\J id=some ⟨137,7,(fi SO.atoms.length j SO.g').map bl⟩/\U id=none:=by
      rcases Ul with⟨_,h0⟩|⟨id,h1,h2,h3⟩
      .exfalso;have:=congrArg List.length h0;rw[dC,Ve]at this;simp only[List.length_nil]at this;omega
      .rw[dC,Ve]at h1;exact⟨id,h1,h2,h3⟩
     have TD:=rb (n:=SO.atoms.length) u';have VO:=qS (n:=SO.atoms.length) u';have VD:((fi SO.atoms.length j SO.g').map bl)[j]?=some (bl SO.g'[j]):=by rw[sP,TD];rfl
     have XI:((fi SO.atoms.length j SO.g').map bl).length=SO.g'.length:=by rw[dC,Ve]
     have L':∀X':ak,X' id=some ⟨137,7,(fi SO.atoms.length j SO.g').map bl⟩->bG X' 7 vf (.int .i64 j)=some (.ptr id j 0):=λX' h=>by rw[hve,<-XI];exact j5 h (by rw[XI];exact u')
     have W5:=hflo _ (Sx u');have hf0:=han _ (Sx u');have haf:=Gp (n:=SO.atoms.length) hf0;have hht:=Gn (h:=SO.P'.y+SO.P'.m) u';generalize SO.g'[j]=f at*;have Xx:bl f=.agg [vI f.node,vI f.side,vI f.anchor,vI f.x,vI f.y,vI f.w,vI f.h]:=rfl;have hfy:=W5.y0;have hfb:=W5.yB;have hfh:=W5.h0;have r6:R0 .i64 (f.y+f.h):=ao;have r7:R0 .i64 ((SO.atoms.length:Int)-1):=ao;have r8:=rI j;obtain⟨ca,sa⟩:=Vi.vc;obtain⟨cf,sf⟩:=hvf0.vc;rw[Xx]at VD;generalize hRW:(fi SO.atoms.length j SO.g').map bl=RW at*;have hsZ:=hs;replace hs:=aa.refl J;have a7_:=a7;have a4_:=a4;apply sR;simp only[go_sem,seval,t4,t7,t9,a7,XX,u2,h2,L' J h2,VD,ca,cf,ad,al,ae,af];refine aG hs λi10 XP To RZ f10 Uq hs=>?_;obtain⟨U9,a4⟩:=RC a4 f10 To;obtain⟨Ta,a7⟩:=RC a7 f10 To;have nid:id≠i10:=bb h2 f10;have h2':=To _ _ h2;have ni7:id≠i7:=λe=>by
      rw[e,(show J i7=_ from a7_)]at h2;cases h2
     have nid4:id≠i4:=λe=>by rw[e,a4_]at h2;cases h2
     have hva10:=Vi.mono To;by_cases U1:f.anchor>=SO.atoms.length
     .have u3:(f.anchor>=SO.atoms.length)=True:=RA U1;rw[aK U1]at haf;simp only[go_sem,seval,RZ,a7,t4,t7,t9,ca,cf,r6,r7,r8,bW,XX,TZ,u3,ab U9,ab Ta,ab Ta.symm,ab Wo,ad,al,ae,af];generalize hqX:C' (C' _ i10 _) i7 _=ZX;have b7:ZX i7=some ⟨160,5,[.agg [va,vf,vI (max (hiF (SO.P'.y+SO.P'.m) (SO.g'.take j)) (f.y+f.h)),vI SO.P'.y,vI SO.P'.m]]⟩:=by rw[<-hqX];exact av
      have b4:=((congrFun hqX i4).symm.trans ((ab Wo).trans (ab U9))).trans a4;have bD:=((congrFun hqX id).symm.trans ((ab ni7).trans (ab nid))).trans h2';have hvaX:aP U ZX 66 8 va (SO.atoms.map bz):=by rw[<-hqX];exact(hva10.cI RZ (by simp)).cI ((ab Ta).trans a7) (by simp)
      have hsX:aa U ZX:=by rw[<-hqX];exact((hsZ.trans To).aL (hsZ.none Uq)).aL z7
      clear hqX;have hap:=hvaX.Bp (aP.new (K:=U) (n:=RW.length) rfl bD h3) (by simp);simp only[go_sem,seval,b7,t4,t7,t9,ca,cf,r7,r8,XX,TZ,L' ZX bD,bD,VD,ad,al,ae,af];refine⟨_,by omega,j+1,by omega,rfl,hsX.aL h3,hvaX.Lc λn hv=>hap _ _ _ _ hv rfl rfl,.inr ⟨id,by rw[hve,dC,j9],by rw[av,<-VO,List.map_set,hRW,haf];rfl,h3⟩,by rw[hht];exact(ab (Ne.symm ni7)).trans b7,(ab (Ne.symm nid4)).trans b4,by simp[vI]⟩
     .have u3:(f.anchor>=SO.atoms.length)=False:=H' U1;rw[aM U1]at haf;rw[haf,DK TD]at VO;simp only[go_sem,seval,RZ,a7,t4,t7,t9,ca,cf,r6,r7,r8,bW,XX,TZ,u3,ab U9,ab Ta,ab Ta.symm,ab Wo,ad,al,ae,af];have hvf10:=((hvf0.mono To).Lc (o:=⟨137,7,[.agg [vI f.node,vI f.side,vI f.anchor,vI f.x,vI f.y,vI f.w,vI f.h]]⟩) (hvf0.ET f10)).cI (i:=i7) (o:=⟨160,5,[.agg [va,vf,vI (max (hiF (SO.P'.y+SO.P'.m) (SO.g'.take j)) (f.y+f.h)),vI SO.P'.y,vI SO.P'.m]]⟩) ((ab Ta).trans a7) (by simp);refine⟨_,by omega,j+1,by omega,rfl,((hsZ.trans To).aL (hsZ.none Uq)).aL z7,(hva10.cI RZ (by simp)).cI ((ab Ta).trans a7) (by simp),by rw[<-VO,hRW];exact hvf10,by rw[hht],a4,by simp[vI]⟩
    .have u2:=qF u';obtain rfl:j=SO.g'.length:=by omega
     rw[Eb]at Ul;rw[ik]at a7;obtain⟨ca,sa⟩:=Vi.vc;obtain⟨cf,sf⟩:=Ul.vc;apply sR;simp only[go_sem,seval,t4,t7,t9,a7,a4,XX,u2,ca,sa,cf,sf,ab Wo,ab Wo,ab Wo.symm,ad,al,ae,af];have RR:∀o,aa U (C' J i4 o):=λo=>hs.aL z4;exact⟨_,U,RR _,Wk.RM (vs':=[GL ⟨SO.atoms,SO.g'.map (lK SO.atoms.length),hiF (SO.P'.y+SO.P'.m) SO.g'⟩,vI 0]) ⟨Wk.agg (vs':=[bK SO.atoms,bg (SO.g'.map (lK SO.atoms.length)),vI (hiF (SO.P'.y+SO.P'.m) SO.g')]) ⟨(Vi.cI a4 (by simp)).wk (aa.refl U) (RR _),(Ul.cI a4 (by simp)).wk (aa.refl U) (RR _),Wk.refl (RR _) _,trivial⟩,Wk.refl (RR _) _,trivial⟩,rfl,rfl⟩
open Go.Proofs
def Fe{L H:Int}(h1:1<=L)(h2:L<=1099511627776)(h3:H<=1099511627776):H>mulR L 32768↔L<=33554432/\H>L*32768:=by
 have e:dt 32768=32768:=by decide
 have e2:(1099511627776:Int).tdiv (max 32768 (-32768))=33554432:=by decide
 have e3:(-1099511627776:Int).tdiv (max 32768 (-32768))=-33554432:=by decide
 have e4:dt L=L:=by unfold dt;omega
 unfold mulR;rw[e,e2,e3,e4];by_cases hb:L>33554432
 .rw[aK ⟨by decide,.inl hb⟩,aK (by rw[Tw (by omega)];decide)];omega
 .rw[aM (λh=>by have:=h.2;omega)];omega
def HL{l:List Nd}(h:dU l=0):(fS l).1.M'<=1099511627776:=by
 have hb:=(mv h).1;unfold dU at h;rw[aK hb]at h;split at h
 .cases h
 .omega
def IU{l:List Nd}(hb:Sc l=true)(hn:l.length<=2000){w:Int}(h1:1<=w)(h2:w<=1099511627776):∀x∈YO l w,(0<=x/\x<l.length)/\Wu l x.toNat≠1:=λx hx=>by
 obtain⟨a,ha,rfl⟩:=iD.1 hx;obtain⟨i,e1,e2,e3⟩:=yW hb hn h1 h2 a ha;rw[e1];refine⟨by omega,?_⟩;rw[gu];have:Wu l i=(R4 l i).kind:=by rw[gx e2];simp[Wu,e2]
 rw[this];omega
def Bf(l:List Nd)(w h:Int):V:=if eF l w h=0 then di (bH l w h)else .agg [.bj,vI 0,vI 0,.bj,.bj,vI 0,.bj]
def Ky(l:List Nd)(hl:dq l)(w h:Int):aV prog 50 [aQ l,vI w,vI h] (.RM [Bf l w h,vI (eF l w h)]):=λU=>by
 refine e50.q ?_;have hs:=aa.refl U;have SW:=Dh l hl;have bad:∀n:Int,eF l w h=n->n≠0->(Bf l w h=.agg [.bj,vI 0,vI 0,.bj,.bj,vI 0,.bj]/\eF l w h=n):=λn hn h0=>⟨by rw[Bf,aM (by rw[hn];exact h0)],hn⟩
 refine aq.mix 15 ?_;by_cases hw:mQ w
 .have mw:=tC w;rw[show decide (mQ w)=true from Tl hw]at mw;apply sR;simp only[go_sem,seval,c50];refine aG hs λi6 Z6 s6 a6 f6 z6 hs=>?_;simp only[go_sem,seval,a6];refine pS rfl (mw _) ?_;simp only[go_sem,seval];by_cases hh:mQ h
  .have mh:=tC h;rw[show decide (mQ h)=true from Tl hh]at mh;refine pS rfl (mh _) ?_;simp only[go_sem,seval];refine pR rfl (SW _) ?_;by_cases hc:dU l=0
   .obtain⟨hb,hn,hwo,Xo⟩:=mv hc;have X8:=zw l hl;have YM:=E9 l hl hb hn (KL l hl) h hh.1 hh.2;have ZI:=IF l hl w hw.1 hw.2 hc;have hG:=tS hb hn hw.1 hw.2;have WI:=hG.len;have hbc:=Ix l hb hn (YO l w) (by rw[YO,dC];omega) (IU hb hn hw.1 hw.2);have hE:eF l w h=if(fS l).1.M'>mulR (cP l h) 32768 then 2 else 0:=by rw[eF,aM (λh=>h ⟨hw,hh⟩),aM (λh=>h hc)]
    have hm:=De hb hh.1 hh.2;have hL:cP l h=fp l h l.length:=by rw[cP,aK hm]
    have hp:1<=cP l h:=by rw[hL];exact qY hh.1 _
    have hq:cP l h<=h:=by
     rw[hL];clear hL hp hE YM;have:∀n,fp l h n<=h:=by
      intro n
      induction n with
      |zero=>exact Int.le_refl _
      |succ n ih=>rw[fp];split<;>omega
     exact this _
    have hh2:=hh.2;have hmb:=Fe hp (by omega) (HL hc);rw[hc];have qz:((0:Int)≠0)=False:=H' (λh=>h rfl);generalize hSM:(fS l).1=SM at*;generalize hS2:(fS l).2=S2 at*;apply sR;simp only[go_sem,seval,qz];refine pS rfl (X8 _) ?_;simp only[go_sem,seval,Sm.cells];refine aG hs λi9 Y9 s9 a9 f9 z9 hs=>?_;obtain⟨XO,a6⟩:=RC a6 f9 s9;simp only[go_sem,seval,a9,a6,ab XO,ab XO];generalize Sy:C' _ i9 _=Z9;replace a9:=SR Sy;replace a6:=R6 Sy XO a6;replace hs:=SL Sy hs z9;refine pR rfl (YM _) ?_;have r1:R0 .i64 (cP l h*32768):=by
     by_cases hx:cP l h<=33554432
     .exact ao
     .exact ao
    by_cases Xj:SM.M'>mulR (cP l h) 32768
    .obtain⟨g1,g2⟩:=hmb.1 Xj;have q1:(cP l h<=33554432)=True:=RA g1;have q2:(SM.M'>cP l h*32768)=True:=RA g2;obtain⟨e1,e2⟩:=bad 2 (by rw[hE,aK Xj]) (by decide);rw[e1,e2];generalize cP l h=LE at*;apply sR;simp only[go_sem,seval,a9,a6,q1,q2,r1,ab XO,ab XO,ad,al,ag,ai,aA,aC,aE,aF,ae,af];exact az.pure (hs.aL z6) rfl
    .have hq1:((cP l h<=33554432)=False)\/((cP l h<=33554432)=True/\(SM.M'>cP l h*32768)=False):=by
      by_cases g1:cP l h<=33554432
      .exact .inr ⟨RA g1,H' λg2=>Xj (hmb.2 ⟨g1,g2⟩)⟩
      .exact .inl (H' g1)
     have e2:eF l w h=0:=by rw[hE,aM Xj]
     have e1:Bf l w h=di (bH l w h):=by rw[Bf,aK e2]
     rw[e1,e2];have Vg:di (bH l w h)=.agg [aQ l,vI w,vI h,bK (cJ l w).atoms,bg (cJ l w).g',vI (cJ l w).RD,dh (oU l (YO l w))]:=rfl;rw[Vg];clear Vg e1 e2 bad hE hmb Xj hL hm;generalize cP l h=LE at*;have hofe:YO l w=(cJ l w).atoms.map (·.node):=rfl;generalize YO l w=OF at*;generalize oU l OF=BK at*;rw[GL]at ZI;generalize cJ l w=GA at*;have TZ:=jw GA.atoms;rcases hq1 with q1|⟨q1,q2⟩
     case' inl=>
      apply sR;simp only[go_sem,seval,a9,a6,q1,r1,ab XO,ab XO,ad,al,ag,ai,aA,aC,aE,aF,ae,af]
     case' inr=>
      apply sR;simp only[go_sem,seval,a9,a6,q1,q2,r1,ab XO,ab XO,ad,al,ag,ai,aA,aC,aE,aF,ae,af]
     all_goals
      refine aG hs λi12 Y12 Xt a12 f12 z12 hs=>?_;obtain⟨n612,a6⟩:=RC a6 f12 Xt;obtain⟨XR,a9⟩:=RC a9 f12 Xt;simp only[go_sem,seval,a12,ab n612,ab XR,ad,al,ag,ai,aA,aC,aE,aF,ae,af];generalize Tj:C' _ i12 _=Z12;replace a12:=SR Tj;replace a6:=R6 Tj n612 a6;replace a9:=R6 Tj XR a9;replace hs:=SL Tj hs z12;refine pS rfl (ZI _) ?_;simp only[go_sem,seval,a12,ad,al,ag,ai,aA,aC,aE,aF,ae,af];generalize Tj:C' _ i12 _=Z12;replace a12:=SR Tj;replace a6:=R6 Tj n612 a6;replace a9:=R6 Tj XR a9;replace hs:=SL Tj hs z12;refine aq.kE (λst=>aa Z12 st.U/\aP Z12 st.U 3 1 (st.s 13) (OF.map vI)/\st.s 0=aQ l/\st.s 6=.ptr i6 0 0/\st.s 12=.ptr i12 0 0)
       (λm st=>∃j:Nat,j<=GA.atoms.length/\m=GA.atoms.length-j/\aa Z12 st.U/\aP Z12 st.U 3 1 (st.s 13) (((GA.atoms.take j).map (·.node)).map vI)/\st.s 0=aQ l/\st.s 6=.ptr i6 0 0/\st.s 12=.ptr i12 0 0/\st.s 14=vI j) GA.atoms.length ?_ ?_ ?_
      .exact⟨0,by omega,rfl,aa.refl _,aP.start,rfl,rfl,rfl,rfl⟩
      .rintro m ⟨S,J⟩ ⟨j,hj,rfl,Yk,ho,t0,t6,t12,t14⟩;simp only at Yk ho t0 t6 t12 t14;have Yg:=Yk _ _ a12;generalize U8:S 13=v13 at ho;refine aq.mix 15 ?_;by_cases u':j<GA.atoms.length
       .have u1:=qT u';have RF:=λU=>fg (U:=U) u';have Sa:((GA.atoms.take (j+1)).map (·.node)).map vI=((GA.atoms.take j).map (·.node)).map vI++[vI GA.atoms[j].node]:=by
         rw[U0 u',eQ,eQ];rfl
        have Uh:(((GA.atoms.take j).map (·.node)).map vI).length=j:=by rw[dC,dC,lQ];omega
        have WD:bz GA.atoms[j]=.agg [vI GA.atoms[j].kind,vI GA.atoms[j].node,vI GA.atoms[j].fr,vI GA.atoms[j].to,vI GA.atoms[j].x,vI GA.atoms[j].y,vI GA.atoms[j].w,vI GA.atoms[j].h]:=rfl;generalize ((GA.atoms.take j).map (·.node)).map vI=rows at*;generalize GA.atoms[j]=x at*;have r2:=rI j;have Sh:(rows.length+1)*9<=140737488355328:=by omega
        apply sR;simp only[go_sem,seval,t0,t6,t12,t14,Yg,U8,TZ,u1,RF,WD,ad,al,ag,ai,aA,aC,aE,aF,ae,af];refine aD λi91 Z91 s91 a91 f91=>?_;obtain⟨idA,SE,RO⟩:=ho.dst s91;simp only[go_sem,seval,SE,bN a91,Sh,t0,t6,t12,t14];refine bk λi92 Z92 s92 a92 f92=>?_;have k92:=(RO Z12 (aa.refl _) Z91 (Yk.trans s91)).trans s92;have n92:Z12 i92=none:=(Yk.trans s91).none f92;simp only[go_sem,seval,t0,t6,t12,t14,r2];refine⟨_,by omega,j+1,by omega,rfl,k92,?_,by simp[t0,t6,t12,vI]⟩;rw[Sa];exact aP.new (by simp) a92 n92
       .have u1:=qF u';have TT:j=GA.atoms.length:=by omega
        rw[TT,ik,<-hofe]at ho;apply sR;simp only[go_sem,seval,t0,t6,t12,t14,Yg,U8,TZ,u1,ad,al,ag,ai,aA,aC,aE,aF,ae,af];exact⟨Yk,ho⟩
      .rintro⟨S,J⟩ ⟨Yk,ho,t0,t6,t12⟩;simp only at Yk ho t0 t6 t12;refine aq.xC [0,6,12] [13] Yk ho (by simp) ?_;generalize hS:(λi=>if[13].contains i then V.sl 1 (OF.map vI)else AZ [0,6,12] S i)=S';have u0:S' 0=aQ l:=by rw[<-hS];exact t0
       have u6:S' 6=.ptr i6 0 0:=by rw[<-hS];exact t6
       have u12:S' 12=.ptr i12 0 0:=by rw[<-hS];exact t12
       have u13:S' 13=aX OF:=by rw[<-hS];rfl
       clear hS t0 t6 t12;refine mS 15 ?_;simp only[go_sem,seval,u0,u6,u12,u13];refine pS rfl (hbc _) ?_;simp only[go_sem,seval,u6,u12,a12,a6,ad,al,ag,ai,aA,aC,aE,aF,ae,af,ab n612,ab XR,ab n612];exact az.pure ((hs.aL z12).aL z6) rfl
   .obtain⟨e1,e2⟩:=bad (dU l) (by rw[eF,aM (λh=>h ⟨hw,hh⟩),aK hc]) hc;have q:(dU l≠0)=True:=RA hc;rw[e1,e2];generalize dU l=K at*;apply sR;simp only[go_sem,seval,q,a6];exact az.pure (hs.aL z6) rfl
  .have mh:=tC h;rw[show decide (mQ h)=false from Tw hh]at mh;obtain⟨e1,e2⟩:=bad 3 (by rw[eF,aK (λh=>hh h.2)]) (by decide);rw[e1,e2];refine pS rfl (mh _) ?_;simp only[go_sem,seval,a6];exact az.pure (hs.aL z6) rfl
 .have mw:=tC w;rw[show decide (mQ w)=false from Tw hw]at mw;obtain⟨e1,e2⟩:=bad 3 (by rw[eF,aK (λh=>hw h.1)]) (by decide);rw[e1,e2];apply sR;simp only[go_sem,seval,c50];refine aG hs λi6 Z6 s6 a6 f6 z6 hs=>?_;simp only[go_sem,seval,a6];refine pS rfl (mw _) ?_;simp only[go_sem,seval,a6];exact az.pure (hs.aL z6) rfl
open Go.Proofs
def FE{l:List Nd}(hl:dq l){w h:Int}(he:eF l w h=0):BkQ (bH l w h):=by
 obtain⟨hw,hh,hc⟩:=lL he;obtain⟨T',hn,hwo,Xo⟩:=mv hc;exact⟨(gS hl he).toBkFull,hn,KL l hl⟩
open Go.Proofs
section
variable {P:Program} {n:Nat} {st:St} {Q:St->Prop} {k:List It}
def Go.mT{i:aS}{l:List aS}{fx:VX}{xs:List VX}{f:FuncId}{caps:List V}{v:V}(hw:bn st.s i.g=some true)(ho:i.op=.call fx xs)
 (hf:fx.ev st.s=.fn f caps)(hc:∀Z1,aa st.U Z1->aB P f (xs.map (·.ev st.s)++caps) Z1 λr Z'=>r=v/\Z'=Z1)(h:Go P n (.d l k) ⟨aY st.s i.dst v,st.U⟩ Q):Go P n (.d (i::l) k) st Q:=by
 refine o5 hw ?_;rw[ho];exact⟨f,caps,v,hf,hc,h⟩
end
def au(s:RG):(aO s).cells=[vI s.atom,vI s.done,.bool s.free]:=rfl
def ar(s:RG):(aO s).stays=true:=rfl
def bZ(im:Nat):(V.mp im).cells=[.mp im]:=rfl
def bX(im:Nat):(V.mp im).stays=true:=rfl
def kU(x:UH):(da x).cells=[vI x.cls,vI x.forced,vI x.rank]:=rfl
def qk(b:Bk)(s:RG){U:ak}{i im:Nat}(h0:U i=some (mM b im)):
 aB prog 33 [.ptr i 0 0,aO s] U λr Z'=>r=.bool (decide (dD b s))/\Z'=U:=by
 refine e33.q ?_;have hs:=aa.refl U;have TZ:=jw b.atoms;rw[mM,pN]at h0;generalize hF:decide (dD b s)=F;refine mS 5 ?_;simp only[go_sem,seval,c33,au,ar];refine aG hs λi3 Z3 s3 a3 f3 z3 hs=>?_;replace h0:=s3 _ _ h0;by_cases hf:s.atom>=b.atoms.length
 .have q:(s.atom>=(b.atoms.length:Int))=True:=RA hf;simp only[go_sem,seval,h0,a3,q,TZ,au,ar,ag,ai,bZ,bX];exact az.pure hs (by rw[<-hF,Tl (show dD b s from hf)])
 .have q:(s.atom>=(b.atoms.length:Int))=False:=H' hf;simp only[go_sem,seval,h0,a3,q,TZ,au,ar,ag,ai,bZ,bX];exact az.pure hs (by rw[<-hF,Tw (show¬dD b s from hf)])
def pC{b:List UH}{k:Int}(h0:0<=k)(h1:k<b.length):∀U,bG U 3 (dh b) (.int .i64 k)=some (.rp (da (Um b k.toNat))):=λU=>by
 obtain⟨j,rfl⟩:∃j:Nat,k=j:=⟨k.toNat,by omega⟩
 have hj:j<b.length:=by omega
 have e:Um b ((j:Int)).toNat=b[j]:=by simp[Um,hj]
 rw[e];exact BQ hj
def pY(b:Bk)(s:RG)(h1:0<=s.atom/\s.atom<b.Sk.length){U:ak}{i im:Nat}(h0:U i=some (mM b im)):
 aB prog 35 [.ptr i 0 0,aO s] U λr Z'=>r=vI (cO b s)/\Z'=U:=by
 refine e35.q ?_;have hs:=aa.refl U;have SA:=pC h1.1 h1.2;rw[mM,pN]at h0;unfold cO;generalize Um b.Sk s.atom.toNat=B at*;refine mS 5 ?_;simp only[go_sem,seval,c35,au,ar];refine aG hs λi3 Z3 s3 a3 f3 z3 hs=>?_;replace h0:=s3 _ _ h0;by_cases hd:s.done>0
 .have q:(s.done>0)=True:=RA hd;rw[aK hd];simp only[go_sem,seval,h0,a3,q,au,ar];exact az.pure hs rfl
 .have q:(s.done>0)=False:=H' hd;rw[aM hd];simp only[go_sem,seval,h0,a3,q,SA,kU,au,ar,aE,aF,bZ,bX];exact az.pure hs rfl
def FJ(b:Bk)(k:Nat)(hk:k<b.Sk.length){U:ak}{i im:Nat}(h0:U i=some (mM b im)):
 aB prog 61 [.ptr i 0 0,vI k] U λr Z'=>r=aO (kQ b k)/\Z'=U:=by
 refine e61.q ?_;have hs:=aa.refl U;have SA:=pC (b:=b.Sk) (k:=k) (by omega) (by omega);rw[gu]at SA;rw[mM,pN]at h0;unfold kQ;generalize Um b.Sk k=B at*;refine mS 5 ?_;simp only[go_sem,seval,c61];refine aG hs λi4 Z4 s4 a4 f4 z4 hs=>?_;replace h0:=s4 _ _ h0;by_cases hd:B.forced=0
 .have q:(B.forced≠0)=False:=H' λh=>h hd;rw[Tw λh=>h hd];simp only[go_sem,seval,h0,a4,q,SA,kU,aE,aF,bZ,bX];exact az.pure (hs.aL z4) rfl
 .have q:(B.forced≠0)=True:=RA hd;rw[Tl hd];simp only[go_sem,seval,h0,a4,q,SA,kU,aE,aF,bZ,bX];exact az.pure (hs.aL z4) rfl
def yj(b:Bk)(s:RG):Prop:=de b.atoms s/\okP b s
instance (b:Bk) (s:RG):Decidable (yj b s):=by unfold yj okP;infer_instance
def Kw(b:Bk)(hbr:b.Sk.length=b.atoms.length+1)(s:RG){U:ak}{i im:Nat}(h0:U i=some (mM b im)):
 aB prog 25 [.ptr i 0 0,aO s] U λr Z'=>r=.bool (decide (yj b s))/\Z'=U:=by
 refine e25.q ?_;have hs:=aa.refl U;have hm:=xH b.atoms s;rw[mM,pN]at h0;generalize hF:decide (yj b s)=F;refine mS 5 ?_;simp only[go_sem,seval,c25,au,ar];refine aG hs λi3 Z3 s3 a3 f3 z3 hs=>?_;replace h0:=s3 _ _ h0;by_cases g1:de b.atoms s
 .rw[Tl g1]at hm;have SA:=pC (b:=b.Sk) (k:=s.atom) g1.1.1 (by have:=g1.1.2;omega);have hT:(s.free=true->s.done=0/\(s.atom=0\/(Um b.Sk s.atom.toNat).forced≠0))->F=true:=λh=>by rw[<-hF];exact Tl ⟨g1,h⟩
  have hN:¬(s.free=true->s.done=0/\(s.atom=0\/(Um b.Sk s.atom.toNat).forced≠0))->F=false:=λh=>by rw[<-hF];exact Tw λg=>h g.2
  clear hF;generalize Um b.Sk s.atom.toNat=B at*;simp only[go_sem,seval,h0,a3,au,ar,ag,ai,bZ,bX];refine pJ rfl hm ?_;cases g2:s.free
  .apply sG;simp only[go_sem,seval,h0,a3,g2,Bool.not_true,Bool.not_false,au,ar,aE,aF,bZ,bX];exact az.pure hs (by rw[hT (λh=>by rw[g2]at h;cases h)])
  .by_cases g3:s.done=0
   .have q3:(s.done=0)=True:=RA g3;by_cases g4:s.atom=0
    .have q4:(s.atom=0)=True:=RA g4;apply sG;simp only[go_sem,seval,h0,a3,g2,q3,q4,Bool.not_true,Bool.not_false,au,ar,aE,aF,bZ,bX];exact az.pure hs (by rw[hT (λ_=>⟨g3,.inl g4⟩)])
    .have q4:(s.atom=0)=False:=H' g4;by_cases g5:B.forced=0
     .have q5:(B.forced≠0)=False:=H' λh=>h g5;apply sG;simp only[go_sem,seval,h0,a3,g2,q3,q4,q5,SA,Bool.not_true,Bool.not_false,kU,au,ar,aE,aF,bZ,bX];exact az.pure hs (by rw[hN (λh=>(h g2).2.elim g4 λh=>h g5)])
     .have q5:(B.forced≠0)=True:=RA g5;apply sG;simp only[go_sem,seval,h0,a3,g2,q3,q4,q5,SA,Bool.not_true,Bool.not_false,kU,au,ar,aE,aF,bZ,bX];exact az.pure hs (by rw[hT (λ_=>⟨g3,.inr g5⟩)])
   .have q3:(s.done=0)=False:=H' g3;apply sG;simp only[go_sem,seval,h0,a3,g2,q3,Bool.not_true,Bool.not_false,au,ar,aE,aF,bZ,bX];exact az.pure hs (by rw[hN (λh=>g3 (h g2).1)])
 .rw[Tw g1]at hm;simp only[go_sem,seval,h0,a3,au,ar,ag,ai,bZ,bX];refine pJ rfl hm ?_;apply sG;simp only[go_sem,seval,Bool.not_false];exact az.pure hs (by rw[<-hF,Tw (λh=>g1 h.1)])
def oV(a b:Int):Int:=if a<b then -1 else if a>b then 1 else 0
def JH(a:Int):aV prog 66 [vI a] (.bool false):=λU=>by
 refine e66.q ?_;have q:(a≠a)=False:=H' λh=>h rfl;refine mS 3 ?_;simp only[go_sem,seval,c66,q];exact az.same rfl
def Gm(a b:Int):aV prog 38 [vI a,vI b] (vI (oV a b)):=λU=>by
 refine e38.q ?_;refine mS 7 ?_;simp only[go_sem,seval,c38];refine pS rfl (JH a _) ?_;simp only[go_sem,seval];refine pR rfl (JH b _) ?_;unfold oV;by_cases h1:a<b
 .have q1:(a<b)=True:=RA h1;apply sR;simp only[go_sem,seval,q1];exact az.same rfl
 .have q1:(a<b)=False:=H' h1;by_cases h2:a>b
  .have q2:(a>b)=True:=RA h2;apply sR;simp only[go_sem,seval,q1,q2];exact az.same rfl
  .have q2:(a>b)=False:=H' h2;apply sR;simp only[go_sem,seval,q1,q2];exact az.same rfl
open Go.Proofs
def orJ:List Int->Int
 |[]=>0
 |x::r=>if x≠0 then x else orJ r
def EL{l:List Int}{i:Nat}(h:i<l.length):orJ (l.drop i)=if l[i]≠0 then l[i]else orJ (l.drop (i+1)):=by
 rw[jM h,orJ]
def QM{U:ak}{v:V}(l:List Int)(hl:l.length<=1000000)(hr:Reads U 1 false v (l.map vI)):
 aB prog 37 [v] U λr Z'=>r=vI (orJ l)/\Z'=U:=by
 refine e37.q ?_;have hlv:ej false v=some (.int .i64 l.length):=by rw[hr.1,dC]
 refine mS 6 ?_;simp only[go_sem,seval,c37,hlv];refine aq.loop (λm st=>∃i:Nat,i<=l.length/\m=l.length-i/\orJ l=orJ (l.drop i)/\st.U=U/\st.s 3=vI 0/\st.s 6=v/\st.s 7=vI l.length/\st.s 8=vI i) l.length ?_ ?_
 .exact⟨0,by omega,rfl,rfl,rfl,rfl,rfl,rfl,rfl⟩
 .rintro m ⟨s,Z'⟩ ⟨i,hi,rfl,heq,R8,h3,h6,h7,h8⟩;simp only at R8 h3 h6 h7 h8;subst R8;refine aq.mix 6 ?_;by_cases u':i<l.length
  .have q:=qT u';have hd:=EL u';obtain⟨a,ha,TZ⟩:=hr.2 i (vI l[i]) (by simp[u']);have r1:=rI i;by_cases hx:l[i]=0
   .have q2:(l[i]≠0)=False:=H' λh=>h hx;rw[aM λh=>h hx]at hd;apply sR;simp only[go_sem,seval,h3,h6,h7,h8,q,q2,ha,TZ,r1];exact⟨_,by omega,i+1,by omega,rfl,by rw[heq,hd],by simp[h3,h6,h7]⟩
   .have q2:(l[i]≠0)=True:=RA hx;rw[aK hx]at hd;apply sR;simp only[go_sem,seval,h3,h6,h7,h8,q,q2,ha,TZ,r1];exact az.same (by rw[heq,hd])
  .have q:=qF u';have Uf:i=l.length:=by omega
   apply sR;simp only[go_sem,seval,h3,h6,h7,h8,q];exact az.same (by rw[heq,Uf,vU];rfl)
def vq{U:ak}{id e:Nat}{l:List Int}(h:U id=some ⟨e,1,l.map vI⟩):Reads U 1 false (.own id 0 l.length) (l.map vI):=
 ⟨by simp[ej],λi r hi=>by
  obtain⟨h1,h2⟩:=ri.1 hi;refine⟨.ptr id i 0,by have:=j5 h (i:=i) h1;rwa [dC]at this,?_⟩;rw[List.getElem_map]at h2;subst h2;simp only[cQ,h,hi];rfl⟩
instance (a b:Uk):Decidable (a.lt b):=by unfold Uk.lt;infer_instance
def OH(a b:Uk):(orJ [oV a.RT b.RT,oV a.Sr b.Sr]<0)=a.lt b:=by
 refine propext ?_;unfold Uk.lt;simp only[orJ,oV]
 (repeat' split)<;>omega
def JM(a b:Uk):aV prog 13 [iF a,iF b] (.bool (decide (a.lt b))):=λU=>by
 refine e13.q ?_;have hs:=aa.refl U;refine mS 5 ?_;simp only[go_sem,seval,c13,bu,br];refine aG hs λi2 Z2 s2 a2 f2 z2 hs=>?_;simp only[go_sem,seval,a2,bu,br];refine aG hs λi3 Z3 s3 a3 f3 z3 hs=>?_;obtain⟨n23,a2⟩:=RC a2 f3 s3;simp only[go_sem,seval,a2,a3,bu,br];refine pJ rfl (Gm _ _) ?_;apply sG;simp only[go_sem,seval,a2,a3,bu,br];refine pJ rfl (Gm _ _) ?_;apply sG;simp only[go_sem,seval];refine wx hs λi15 Z15 Xa US f15 z15 hs=>?_;obtain⟨n215,a2⟩:=RC a2 f15 Xa;obtain⟨n315,a3⟩:=RC a3 f15 Xa;simp only[go_sem,seval];refine Go.mT rfl rfl rfl (λZ1 h1=>QM [oV a.RT b.RT,oV a.Sr b.Sr] (by simp) ?_) ?_
 .have h15:=h1 _ _ US;exact vq (l:=[oV a.RT b.RT,oV a.Sr b.Sr]) h15
 .have q:=OH a b;by_cases u':a.lt b
  .rw[RA u']at q;rw[Tl u'];apply sG;simp only[go_sem,seval,q];exact az.pure hs rfl
  .rw[H' u']at q;rw[Tw u'];apply sG;simp only[go_sem,seval,q];exact az.pure hs rfl
def JO(a b:RG):mN false [0,0,1] (aO a) (aO b)=some (.bool (decide (a=b))):=by
 obtain⟨a1,a2,a3⟩:=a;obtain⟨b1,b2,b3⟩:=b;simp only[mN,aO,dP,cG,dL,vI,TI,List.length_nil,true_and,↓reduceIte,RG.mk.injEq];by_cases h1:a1=b1<;>by_cases h2:a2=b2<;>cases a3<;>cases b3<;>simp[h1,h2]
def CN(a b:RG):mN true [0,0,1] (aO a) (aO b)=some (.bool (decide (a≠b))):=by
 obtain⟨a1,a2,a3⟩:=a;obtain⟨b1,b2,b3⟩:=b;simp only[mN,aO,dP,cG,dL,vI,TI,List.length_nil,true_and,↓reduceIte,ne_eq,RG.mk.injEq];by_cases h1:a1=b1<;>by_cases h2:a2=b2<;>cases a3<;>cases b3<;>simp[h1,h2]
def oS(a:RG):List RG->Nat->Int
 |[],_=>-1
 |q::r,i=>if a=q then i else oS a r (i+1)
def B1{a:RG}{p:List RG}{i:Nat}(h:i<p.length):oS a (p.drop i) i=if a=p[i]then(i:Int)else oS a (p.drop (i+1)) (i+1):=by
 rw[jM h,oS]
def wN(a:RG):∀(p:List RG) (i:Nat),(oS a p i>=0)=(a∈p)
 |[],i=>by simp[oS]
 |q::r,i=>by
  rw[oS,dZ];split
  .rename_i h;simp[h]
  .rename_i h;rw[wN a r (i+1)];simp[h]
def aI(s:RG):V.agg [vI s.atom,vI s.done,.bool s.free]=aO s:=rfl
def Dn(p:List RG)(hp:p.length<=1000000000)(a:RG):aV prog 64 [cY p,aO a] (vI (oS a p 0)):=λU=>by
 refine e64.q ?_;have hs:=aa.refl U;have hlp:=ot p;refine mS 9 ?_;simp only[go_sem,seval,c64,au,ar];refine aG hs λi3 Z3 s3 a3 f3 z3 hs=>?_;simp only[go_sem,seval,hlp,au,ar];refine aq.loop (λm st=>∃(i:Nat),i<=p.length/\m=p.length-i/\oS a p 0=oS a (p.drop i) i/\st.U=Z3/\st.s 0=cY p/\st.s 3=.ptr i3 0 0/\st.s 7=vI p.length/\st.s 8=vI i) p.length ?_ ?_
 .exact⟨0,by omega,rfl,rfl,rfl,rfl,rfl,rfl,rfl⟩
 .rintro m ⟨s,Z'⟩ ⟨i,hi,rfl,heq,R8,h0,h3,h7,h8⟩;simp only at R8 h0 h3 h7 h8;subst R8;refine aq.mix 9 ?_;by_cases u':i<p.length
  .have q:=qT u';have hd:=B1 (a:=a) u';have RF:=λU=>mi (U:=U) u';have r1:=rI i;have hee:=JO a p[i];have Ya:=tI p[i];by_cases hc:a=p[i]
   .rw[Tl hc]at hee;apply sR;simp only[BB,seval,<-decide_not,bt,ga,aT,eN,eR,eS,eP,eH,bU,lx,ji,bF,gW,eV,gX,dE,dy,cj,jS,cV,cW,cN,Tm,ln,dN,bT,dP,cG,dL,dx,lA,binBV,bY,dS,Th.nothing,h0,h3,h7,h8,q,a3,RF,Ya,hee,au,ar,aI,V.gA,V.gy,V.fK,V.gH,V.iS,V.gG,V.fJ,V.jh,V.gJ,V.jg,V.gQ,V.gK,V.fG,V.gL,V.iT,V.gM,V.fE,V.jd,V.gP,V.ja];refine az.pure hs ?_;rw[heq,hd,aK hc]
   .rw[Tw hc]at hee;apply sR;simp only[BB,seval,<-decide_not,bt,ga,aT,eN,eR,eS,eP,eH,bU,lx,ji,bF,gW,eV,gX,dE,dy,cj,jS,cV,cW,cN,Tm,ln,dN,bT,dP,cG,dL,dx,lA,binBV,bY,dS,Th.nothing,h0,h3,h7,h8,q,a3,RF,Ya,hee,r1,au,ar,aI,V.gA,V.gy,V.fK,V.gH,V.iS,V.gG,V.fJ,V.jh,V.gJ,V.jg,V.gQ,V.gK,V.fG,V.gL,V.iT,V.gM,V.fE,V.jd,V.gP,V.ja];exact⟨_,by omega,i+1,by omega,rfl,by rw[heq,hd,aM hc],by simp[h0,h3,h7]⟩
  .have q:=qF u';have Uf:i=p.length:=by omega
   apply sR;simp only[go_sem,seval,h0,h3,h7,h8,q];refine az.pure hs ?_;rw[heq,Uf,vU];rfl
def G2(p:List RG)(hp:p.length<=1000000000)(a:RG):aV prog 34 [cY p,aO a] (.bool (decide (a∈p))):=λU=>by
 refine e34.q ?_;have hs:=aa.refl U;refine mS 5 ?_;simp only[go_sem,seval,c34,au,ar];refine aG hs λi3 Z3 s3 a3 f3 z3 hs=>?_;simp only[go_sem,seval,a3,au,ar,aI];refine pR rfl (Dn p hp a _) ?_;have q:=wN a p 0;by_cases hm:a∈p
 .rw[RA hm]at q;rw[Tl hm];apply sR;simp only[go_sem,seval,q];exact az.pure hs rfl
 .rw[H' hm]at q;rw[Tw hm];apply sR;simp only[go_sem,seval,q];exact az.pure hs rfl
def mG(p:RG->Bool):List RG->Nat->Int
 |[],_=>-1
 |f::r,i=>if p f then i else mG p r (i+1)
def B2{p:RG->Bool}{l:List RG}{i:Nat}(h:i<l.length):mG p (l.drop i) i=if p l[i]then(i:Int)else mG p (l.drop (i+1)) (i+1):=by
 rw[jM h,mG]
def qH(p:RG->Bool):∀(l:List RG) (i:Nat),(mG p l i>=0)=(l.any p=true)
 |[],i=>by simp[mG]
 |q::r,i=>by
  rw[mG,List.any_cons];cases h:p q
  .simp only[Bool.false_or,iP,if_false];exact qH p r (i+1)
  .simp
def EM{U:ak}(l:List RG)(hl:l.length<=1000000){g:V}{f:FuncId}{caps:List V}(p:RG->Bool)
 (hg:g=.bm f caps)(hf:∀x∈l,aB prog f (caps++[aO x]) U λr Z'=>r=.bool (p x)/\Z'=U):
 aB prog 65 [cY l,g] U λr Z'=>r=vI (mG p l 0)/\Z'=U:=by
 subst hg;refine e65.q ?_;have hlv:=ot l;refine mS 6 ?_;simp only[go_sem,seval,c65,hlv];refine aq.loop (λm st=>∃i:Nat,i<=l.length/\m=l.length-i/\mG p l 0=mG p (l.drop i) i/\st.U=U/\st.s 0=cY l/\st.s 1=.bm f caps/\st.s 7=vI l.length/\st.s 8=vI i) l.length ?_ ?_
 .exact⟨0,by omega,rfl,rfl,rfl,rfl,rfl,rfl,rfl⟩
 .rintro m ⟨s,Z'⟩ ⟨i,hi,rfl,heq,R8,h0,h1,h7,h8⟩;simp only at R8 h0 h1 h7 h8;subst R8;refine aq.mix 6 ?_;by_cases u':i<l.length
  .have q:=qT u';have hd:=B2 (p:=p) u';have RF:=λU=>mi (U:=U) u';have Ya:=tI l[i];have hfx:=hf l[i] (Sx u');have r1:=rI i;apply sR;simp only[go_sem,seval,h0,h1,h7,h8,q,RF,Ya];refine aq.mC rfl rfl rfl hfx ?_;rintro r Z2 ⟨rfl,rfl⟩;cases hp:p l[i]
   .rw[hp]at hd;apply sR;simp only[go_sem,seval,h0,h1,h7,h8,r1];exact⟨_,by omega,i+1,by omega,rfl,by rw[heq,hd];simp,by simp[h0,h1,h7]⟩
   .rw[hp]at hd;apply sR;simp only[go_sem,seval];exact az.same (by rw[heq,hd];simp)
  .have q:=qF u';have Uf:i=l.length:=by omega
   apply sR;simp only[go_sem,seval,h0,h7,h8,q];exact az.same (by rw[heq,Uf,vU];rfl)
def HJ{U:ak}(l:List RG)(hl:l.length<=1000000){f:FuncId}{caps:List V}(p:RG->Bool)
 (hf:∀x∈l,aB prog f (caps++[aO x]) U λr Z'=>r=.bool (p x)/\Z'=U):
 aB prog 36 [cY l,.bm f caps] U λr Z'=>r=.bool (l.any p)/\Z'=U:=by
 refine e36.q ?_;refine mS 5 ?_;simp only[go_sem,seval,c36];refine pR rfl (EM l hl p rfl hf) ?_;cases hm:l.any p
 .have q:(mG p l 0>=0)=False:=by rw[qH,hm];simp
  apply sR;simp only[go_sem,seval,q];exact az.same rfl
 .have q:(mG p l 0>=0)=True:=by rw[qH,hm];simp
  apply sR;simp only[go_sem,seval,q];exact az.same rfl
open Go.Proofs
def E2{b:Bk}{s:RG}(hm:de b.atoms s):du b s=vX b.nodes (UZ b.atoms s.atom).node b.h:=by
 have h1:=hm.1.2;have h2:=hm.1.1;have RU:b.atoms≠[]:=λh=>by rw[h]at h1;simp at h1;omega
 unfold du;rw[aM RU,show min s.atom ((b.atoms.length:Int)-1)=s.atom by omega]
def vO{b:Bk}(hb:dv b){s:RG}(hm:de b.atoms s):s.atom<=cp b s/\cp b s<=b.atoms.length:=by
 obtain⟨u,u1,u2,u3,-⟩:=ml hb.Up hb.pos hm (ij b.atoms s (du b s).body) 0 (du b s).body;unfold cp;rw[u1];omega
def xO{b:Bk}(hb:dv b){s:RG}(hm:de b.atoms s):s.done<=18014398509481984:=by
 obtain⟨k,hk⟩:∃k:Nat,s.atom=k:=⟨s.atom.toNat,by have:=hm.1.1;omega⟩
 have Uj:k<b.atoms.length:=by have:=hm.1.2;omega
 have h2:=hm.2.2;rw[hk,bp Uj]at h2;have:=(hb.tight _ (Sx Uj)).2.2.2;omega
def sx(b:Bk)(R j:Nat):List RG:=(List.range j).map λi=>kQ b (R-i)
def Bh(b:Bk)(R j:Nat):sx b R (j+1)=sx b R j++[kQ b (R-j)]:=by
 unfold sx;rw[List.range_succ,eQ];rfl
def tD3:List (List Nat):=[[],[0],[1,0],[2,1,0],[],[],[3,4,5,2,1,0],[6,3,4,5,2,1,0],[7,6,3,4,5,2,1,0],[7,6,3,4,5,2,1,0],[],[],[10,8,6,0,1,2,3,4,5,7,11],[11,9,12,0,1,2,3,4,5,6,7,8,10]]
def Cr(b:Bk)(hb:dv b)(s:RG)(hm:de b.atoms s){U:ak}{i im:Nat}(h0:U i=some (mM b im)):
 aB prog 26 [.ptr i 0 0,aO s] U λr Z'=>aa U Z'/\aP U Z' 24 3 r ((bB b s).map aO):=by
 refine e26.q ?_;have hs:=aa.refl U;have SX:=hb.len;have Vg:=hb.brk;obtain⟨k,hk⟩:∃k:Nat,s.atom=k:=⟨s.atom.toNat,by have:=hm.1.1;omega⟩
 have Uj:k<b.atoms.length:=by have:=hm.1.2;omega
 have RF:∀U,bG U 8 (bK b.atoms) (.int .i64 s.atom)=some (.rp (bz b.atoms[k])):=λU=>by rw[hk];exact fg Uj
 have hac:∀a:SK,(bz a).cells=[vI a.kind,vI a.node,vI a.fr,vI a.to,vI a.x,vI a.y,vI a.w,vI a.h]:=λ_=>rfl;have hrv:=E2 hm;have UK:UZ b.atoms s.atom=b.atoms[k]:=by rw[hk];exact bp Uj
 rw[UK]at hrv;have ho:=Nb b.nodes hb.ry b.atoms[k].node b.h;rw[<-hrv]at ho;have hd:=xO hb hm;have hkp:=Jb b.atoms hb.Sl s (du b s).body;have hkr:=DE hb.toBkOk s (du b s).body;have hrc:=Fj b.atoms hb.Sl s (by omega) (ij b.atoms s (du b s).body) 0 (du b s).body hkr ⟨by omega,by omega⟩;have Wx:=Ld b.atoms hb.Sl s (by omega) (du b s).body;have hRn:=vO hb hm;rw[show nR b.atoms s (ij b.atoms s (du b s).body) 0 (du b s).body=cp b s from rfl]at hrc;have hfi:=HY b.Sk (by omega) (s.atom+1) (cp b s);have Wz:=nX (b:=b.Sk) (i:=s.atom) (fit:=cp b s) hm.1.1 (by omega);have V':bB b s=if cp b s<=s.atom then[fo b.atoms s (du b s).body]else if fe b.Sk (s.atom+1) (cp b s)>=0 then[kQ b (fe b.Sk (s.atom+1) (cp b s)).toNat]else sx b (cp b s).toNat (cp b s-s.atom).toNat:=rfl
 have hh0:=h0;rw[mM,pN]at h0;generalize cp b s=R at*;generalize ij b.atoms s (du b s).body=KP at*;generalize du b s=rv at*;generalize fo b.atoms s rv.body=NX at*;generalize qn b.atoms s rv.body=FX at*;generalize fe b.Sk (s.atom+1) R=FR at*;have r1:R0 .i64 (s.atom+1):=ao;refine mS 13 ?_;simp only[go_sem,seval,c26,bP.rt,au,ar];refine aG hs λi3 Z3 s3 a3 f3 z3 hs=>?_;replace hh0:=s3 _ _ hh0;replace h0:=s3 _ _ h0;have z3':=z3;simp only[go_sem,seval,h0,a3,RF,hac,au,ar,ad,al,ag,ai,bZ,bX];refine pJ rfl ho ?_;apply sG;simp only[go_sem,seval,h0,a3,kH,au,ar,aI,ag,ai,bZ,bX];refine pJ rfl hkp ?_;apply sG;simp only[go_sem,seval,h0,a3,au,ar,aI,ag,ai,bZ,bX];refine pJ rfl hrc ?_;by_cases g1:R<=s.atom
 .have q1:(R<=s.atom)=True:=RA g1;rw[aK g1]at V';apply sG;simp only[go_sem,seval,bP.rt,h0,a3,q1,au,ar];have a8:True:=trivial;have a9:True:=trivial;have hn:True:=trivial;have nc:NX=NX:=rfl;refine aq.vZ (by kernel_rfl) 8 (.fork tD3 [0,1,2,3,4,5] [6,10,11] [(.fork (sX tD3 [(10,[6,3,4,5,2,1,0]),(11,[6,3,4,5,2,1,0]),(12,[6,3,4,5,2,1,0,10,8,7,11]),(13,[6,3,4,5,2,1,0,11,9,12,7,8,10])]) [6,7,8,9] [10,11] [(.leaf (sX tD3 [(10,[6,3,4,5,2,1,0]),(11,[10,6,3,4,5,2,1,0]),(12,[10,6,3,4,5,2,1,0,8,7,11]),(13,[10,6,3,4,5,2,1,0,11,9,12,7,8])]) [10,11,12,13]),(.leaf (sX tD3 [(10,[11,6,3,4,5,2,1,0]),(11,[6,3,4,5,2,1,0]),(12,[11,6,3,4,5,2,1,0,10,8,7]),(13,[11,6,3,4,5,2,1,0,9,12,7,8,10])]) [11,10,12,13])]),(.fork (sX tD3 [(6,[10,3,4,5,2,1,0]),(7,[10,6,3,4,5,2,1,0]),(8,[10,7,6,3,4,5,2,1,0]),(9,[10,7,6,3,4,5,2,1,0]),(11,[10]),(13,[10,11,9,12,0,1,2,3,4,5,6,7,8])]) [10] [6,11] [(.leaf [[],[0],[1,0],[2,1,0],[],[],[10,3,4,5,2,1,0],[10,6,3,4,5,2,1,0],[10,7,6,3,4,5,2,1,0],[10,7,6,3,4,5,2,1,0],[],[6,10,3,4,5,2,1,0],[6,10,3,4,5,2,1,0,8,7,11],[6,10,3,4,5,2,1,0,11,9,12,7,8]] [6,7,8,9,11,12,13]),(.leaf [[],[0],[1,0],[2,1,0],[],[],[11,10,3,4,5,2,1,0],[11,10,6,3,4,5,2,1,0],[11,10,7,6,3,4,5,2,1,0],[11,10,7,6,3,4,5,2,1,0],[],[10],[11,10,8,6,0,1,2,3,4,5,7],[11,10,9,12,0,1,2,3,4,5,6,7,8]] [11,6,7,8,9,12,13])]),(.fork (sX tD3 [(6,[11,3,4,5,2,1,0]),(7,[11,6,3,4,5,2,1,0]),(8,[11,7,6,3,4,5,2,1,0]),(9,[11,7,6,3,4,5,2,1,0]),(10,[11]),(12,[11,10,8,6,0,1,2,3,4,5,7])]) [11] [6,10] [(.leaf [[],[0],[1,0],[2,1,0],[],[],[11,3,4,5,2,1,0],[11,6,3,4,5,2,1,0],[11,7,6,3,4,5,2,1,0],[11,7,6,3,4,5,2,1,0],[6,11,3,4,5,2,1,0],[],[6,11,3,4,5,2,1,0,10,8,7],[6,11,3,4,5,2,1,0,9,12,7,8,10]] [6,7,8,9,10,12,13]),(.leaf [[],[0],[1,0],[2,1,0],[],[],[10,11,3,4,5,2,1,0],[10,11,6,3,4,5,2,1,0],[10,11,7,6,3,4,5,2,1,0],[10,11,7,6,3,4,5,2,1,0],[11],[],[10,11,8,6,0,1,2,3,4,5,7],[10,11,9,12,0,1,2,3,4,5,6,7,8]] [10,6,7,8,9,12,13])])]) (by kernel_rfl) ?_;refine GT.LJ (its:=[0,2,4,6,8,10]) (by kernel_rfl) ?_;refine cU (n:=0) [] [0,2,4,6,8,10] [_,_,_,_,_,_] rfl rfl ?_;simp only[go_sem,seval,h0,a3,a8,a9,hn,au,ar,aI,ag,ai,cd,bZ,bX];refine⟨?_,?_,?_⟩
  .refine GT.oQ (its:=[12,14,16,18]) (by kernel_rfl) ?_;refine Wt rfl (Wx _) ?_;refine cU (n:=0) [] [14,16,18] [_,_,_] rfl rfl ?_;simp only[go_sem,seval,h0,a3,a8,a9,hn,au,ar,aI,ag,ai,cd,bZ,bX];refine⟨?_,?_⟩
   .refine GT.gV (its:=[20,22,24,26]) (by kernel_rfl) ?_;refine cU (n:=0) [] [20,22,24,26] [_,_,_,_] rfl rfl ?_;simp only[go_sem,seval,h0,a3,a8,a9,hn,au,ar,aI,ag,ai,cd,bZ,bX];refine bJ λi8 Z8 s8 a8 f8=>?_;replace h0:=s8 _ _ h0;replace a3:=s8 _ _ a3
    try replace hn:=ig (bb a9 f8).symm
    try replace a9:=s8 _ _ a9
    obtain⟨z8,hs⟩:=Zv hs f8 s8;simp only[go_sem,seval,h0,a3,a8,a9,hn,au,ar,aI,ag,ai,cd,bZ,bX];refine bJ λi9 Y9 s9 a9 f9=>?_;replace h0:=s9 _ _ h0;replace a3:=s9 _ _ a3
    try replace hn:=ig (bb a8 f9)
    try replace a8:=s9 _ _ a8
    obtain⟨z9,hs⟩:=Zv hs f9 s9;simp only[go_sem,seval,h0,a3,a8,a9,hn,au,ar,aI,ag,ai,cd,bZ,bX];apply sR;simp only[go_sem,seval,au,ar,aI];refine aD λi62 Z62 s62 a62 f62=>?_;simp only[go_sem,seval];rw[V'];have hsF:=aa.trans ((hs.aL z8).aL z9) s62;have hnF:=aa.none ((hs.aL z8).aL z9) f62;exact SG ⟨hsF,aP.new rfl a62 hnF⟩
   .refine GT.gV (its:=[22,20,24,26]) (by kernel_rfl) ?_;refine cU (n:=0) [] [22,20,24,26] [_,_,_,_] rfl rfl ?_;simp only[go_sem,seval,h0,a3,a8,a9,hn,au,ar,aI,ag,ai,cd,bZ,bX];refine bJ λi9 Y9 s9 a9 f9=>?_;replace h0:=s9 _ _ h0;replace a3:=s9 _ _ a3
    try replace hn:=ig (bb a8 f9)
    try replace a8:=s9 _ _ a8
    obtain⟨z9,hs⟩:=Zv hs f9 s9;simp only[go_sem,seval,h0,a3,a8,a9,hn,au,ar,aI,ag,ai,cd,bZ,bX];refine bJ λi8 Z8 s8 a8 f8=>?_;replace h0:=s8 _ _ h0;replace a3:=s8 _ _ a3
    try replace hn:=ig (bb a9 f8).symm
    try replace a9:=s8 _ _ a9
    obtain⟨z8,hs⟩:=Zv hs f8 s8;simp only[go_sem,seval,h0,a3,a8,a9,hn,au,ar,aI,ag,ai,cd,bZ,bX];apply sR;simp only[go_sem,seval,au,ar,aI];refine aD λi62 Z62 s62 a62 f62=>?_;simp only[go_sem,seval];rw[V'];have hsF:=aa.trans ((hs.aL z8).aL z9) s62;have hnF:=aa.none ((hs.aL z8).aL z9) f62;exact SG ⟨hsF,aP.new rfl a62 hnF⟩
  .refine GT.oQ (its:=[20,7,9]) (by kernel_rfl) ?_;refine cU (n:=0) [7,9] [20] [_] rfl rfl ?_;simp only[go_sem,seval,h0,a3,a8,a9,hn,au,ar,aI,ag,ai,cd,bZ,bX];refine bJ λi8 Z8 s8 a8 f8=>?_;replace h0:=s8 _ _ h0;replace a3:=s8 _ _ a3
   try replace hn:=ig (bb a9 f8).symm
   try replace a9:=s8 _ _ a9
   obtain⟨z8,hs⟩:=Zv hs f8 s8;simp only[go_sem,seval,h0,a3,a8,a9,hn,au,ar,aI,ag,ai,cd,bZ,bX];refine dI rfl (by simp only[go_sem,seval,h0,a3,a8,a9,hn,au,ar,aI,ag,ai,cd,bZ,bX]) ?_;refine dI rfl (by simp only[go_sem,seval,h0,a3,a8,a9,hn,au,ar,aI,ag,ai,cd,bZ,bX]) ?_;refine⟨?_,?_⟩
   .refine GT.gV (its:=[12,14,16,18,22,24,26]) (by kernel_rfl) ?_;refine Wt rfl (Wx _) ?_;refine cU (n:=0) [] [14,16,18,22,24,26] [_,_,_,_,_,_] rfl rfl ?_;simp only[go_sem,seval,h0,a3,a8,a9,hn,au,ar,aI,ag,ai,cd,bZ,bX];refine bJ λi9 Y9 s9 a9 f9=>?_;replace h0:=s9 _ _ h0;replace a3:=s9 _ _ a3
    try replace hn:=ig (bb a8 f9)
    try replace a8:=s9 _ _ a8
    obtain⟨z9,hs⟩:=Zv hs f9 s9;simp only[go_sem,seval,h0,a3,a8,a9,hn,au,ar,aI,ag,ai,cd,bZ,bX];apply sR;simp only[go_sem,seval,au,ar,aI];refine aD λi62 Z62 s62 a62 f62=>?_;simp only[go_sem,seval];rw[V'];have hsF:=aa.trans ((hs.aL z8).aL z9) s62;have hnF:=aa.none ((hs.aL z8).aL z9) f62;exact SG ⟨hsF,aP.new rfl a62 hnF⟩
   .refine GT.gV (its:=[22,7,9,12,14,16,18,24,26]) (by kernel_rfl) ?_;refine cU (n:=0) [7,9,12,14,16,18,24,26] [22] [_] rfl rfl ?_;simp only[go_sem,seval,h0,a3,a8,a9,hn,au,ar,aI,ag,ai,cd,bZ,bX];refine bJ λi9 Y9 s9 a9 f9=>?_;replace h0:=s9 _ _ h0;replace a3:=s9 _ _ a3
    try replace hn:=ig (bb a8 f9)
    try replace a8:=s9 _ _ a8
    obtain⟨z9,hs⟩:=Zv hs f9 s9;simp only[go_sem,seval,h0,a3,a8,a9,hn,au,ar,aI,ag,ai,cd,bZ,bX];refine dI rfl (by simp only[go_sem,seval,h0,a3,a8,a9,hn,au,ar,aI,ag,ai,cd,bZ,bX]) ?_;refine dI rfl (by simp only[go_sem,seval,h0,a3,a8,a9,hn,au,ar,aI,ag,ai,cd,bZ,bX]) ?_;refine Wt rfl (Wx _) ?_;refine cU (n:=0) [] [14,16,18,24,26] [_,_,_,_,_] rfl rfl ?_;simp only[go_sem,seval,h0,a3,a8,a9,hn,au,ar,aI,ag,ai,cd,bZ,bX];apply sR;simp only[go_sem,seval,au,ar,aI];refine aD λi62 Z62 s62 a62 f62=>?_;simp only[go_sem,seval];rw[V'];have hsF:=aa.trans ((hs.aL z8).aL z9) s62;have hnF:=aa.none ((hs.aL z8).aL z9) f62;exact SG ⟨hsF,aP.new rfl a62 hnF⟩
  .refine GT.oQ (its:=[22,7,9]) (by kernel_rfl) ?_;refine cU (n:=0) [7,9] [22] [_] rfl rfl ?_;simp only[go_sem,seval,h0,a3,a8,a9,hn,au,ar,aI,ag,ai,cd,bZ,bX];refine bJ λi9 Y9 s9 a9 f9=>?_;replace h0:=s9 _ _ h0;replace a3:=s9 _ _ a3
   try replace hn:=ig (bb a8 f9)
   try replace a8:=s9 _ _ a8
   obtain⟨z9,hs⟩:=Zv hs f9 s9;simp only[go_sem,seval,h0,a3,a8,a9,hn,au,ar,aI,ag,ai,cd,bZ,bX];refine dI rfl (by simp only[go_sem,seval,h0,a3,a8,a9,hn,au,ar,aI,ag,ai,cd,bZ,bX]) ?_;refine dI rfl (by simp only[go_sem,seval,h0,a3,a8,a9,hn,au,ar,aI,ag,ai,cd,bZ,bX]) ?_;refine⟨?_,?_⟩
   .refine GT.gV (its:=[12,14,16,18,20,24,26]) (by kernel_rfl) ?_;refine Wt rfl (Wx _) ?_;refine cU (n:=0) [] [14,16,18,20,24,26] [_,_,_,_,_,_] rfl rfl ?_;simp only[go_sem,seval,h0,a3,a8,a9,hn,au,ar,aI,ag,ai,cd,bZ,bX];refine bJ λi8 Z8 s8 a8 f8=>?_;replace h0:=s8 _ _ h0;replace a3:=s8 _ _ a3
    try replace hn:=ig (bb a9 f8).symm
    try replace a9:=s8 _ _ a9
    obtain⟨z8,hs⟩:=Zv hs f8 s8;simp only[go_sem,seval,h0,a3,a8,a9,hn,au,ar,aI,ag,ai,cd,bZ,bX];apply sR;simp only[go_sem,seval,au,ar,aI];refine aD λi62 Z62 s62 a62 f62=>?_;simp only[go_sem,seval];rw[V'];have hsF:=aa.trans ((hs.aL z8).aL z9) s62;have hnF:=aa.none ((hs.aL z8).aL z9) f62;exact SG ⟨hsF,aP.new rfl a62 hnF⟩
   .refine GT.gV (its:=[20,7,9,12,14,16,18,24,26]) (by kernel_rfl) ?_;refine cU (n:=0) [7,9,12,14,16,18,24,26] [20] [_] rfl rfl ?_;simp only[go_sem,seval,h0,a3,a8,a9,hn,au,ar,aI,ag,ai,cd,bZ,bX];refine bJ λi8 Z8 s8 a8 f8=>?_;replace h0:=s8 _ _ h0;replace a3:=s8 _ _ a3
    try replace hn:=ig (bb a9 f8).symm
    try replace a9:=s8 _ _ a9
    obtain⟨z8,hs⟩:=Zv hs f8 s8;simp only[go_sem,seval,h0,a3,a8,a9,hn,au,ar,aI,ag,ai,cd,bZ,bX];refine dI rfl (by simp only[go_sem,seval,h0,a3,a8,a9,hn,au,ar,aI,ag,ai,cd,bZ,bX]) ?_;refine dI rfl (by simp only[go_sem,seval,h0,a3,a8,a9,hn,au,ar,aI,ag,ai,cd,bZ,bX]) ?_;refine Wt rfl (Wx _) ?_;refine cU (n:=0) [] [14,16,18,24,26] [_,_,_,_,_] rfl rfl ?_;simp only[go_sem,seval,h0,a3,a8,a9,hn,au,ar,aI,ag,ai,cd,bZ,bX];apply sR;simp only[go_sem,seval,au,ar,aI];refine aD λi62 Z62 s62 a62 f62=>?_;simp only[go_sem,seval];rw[V'];have hsF:=aa.trans ((hs.aL z8).aL z9) s62;have hnF:=aa.none ((hs.aL z8).aL z9) f62;exact SG ⟨hsF,aP.new rfl a62 hnF⟩
 .have q1:(R<=s.atom)=False:=H' g1;rw[aM g1]at V';apply sG;simp only[go_sem,seval,h0,a3,q1,r1,au,ar,aE,aF,bZ,bX];refine pJ rfl hfi ?_;by_cases g2:FR>=0
  .have q2:(FR>=0)=True:=RA g2;rw[aK g2]at V';have hfr2:=Wz g2;obtain⟨fn,rfl⟩:∃fn:Nat,FR=fn:=⟨FR.toNat,by omega⟩
   rw[gu]at V';apply sG;simp only[go_sem,seval,q2];refine pS rfl (FJ b fn (by omega) hh0) ?_;simp only[go_sem,seval,au,ar];refine aD λi77 Z77 s77 a77 f77=>?_;simp only[go_sem,seval];rw[V'];exact SG ⟨hs.trans s77,aP.new rfl a77 (hs.none f77)⟩
  .have q2:(FR>=0)=False:=H' g2;rw[aM g2]at V';apply sG;simp only[go_sem,seval,q2];obtain⟨Rn,rfl⟩:∃Rn:Nat,R=Rn:=⟨R.toNat,by omega⟩
   have e1:((Rn:Int)).toNat=Rn:=gu _;have e2:((Rn:Int)-s.atom).toNat=Rn-k:=by omega
   rw[e1,e2]at V';refine aq.loop (λm st=>∃(j:Nat) (v:V),j<=Rn-k/\m=Rn-k-j/\aa Z3 st.U/\aP Z3 st.U 24 3 v ((sx b Rn j).map aO)/\st.s 0=.ptr i 0 0/\st.s 3=.ptr i3 0 0/\st.s 11=v/\st.s 12=vI ((Rn-j:Nat):Int)) (Rn-k) ⟨0,.bj,by omega,rfl,aa.refl _,aP.start,rfl,rfl,rfl,rfl⟩ ?_;rintro m ⟨S,ω⟩ ⟨j,v,hj,rfl,hK,hv,t0,t3,t11,t12⟩;simp only at hK hv t0 t3 t11 t12;refine aq.mix 13 ?_;have b3:=hK _ _ a3;have b0:=hK _ _ hh0;by_cases u':j<Rn-k
   .have q3:(((Rn-j:Nat):Int)>s.atom)=True:=RA;have r2:R0 .i64 (((Rn-j:Nat):Int)-1):=ao;apply sR;simp only[go_sem,seval,t0,t3,t11,t12,b3,q3,au,ar];refine pS rfl (FJ b (Rn-j) (by omega) b0) ?_;simp only[go_sem,seval,au,ar];refine aD λi89 Z89 s89 a89 f89=>?_;obtain⟨idA,SE,RO⟩:=hv.dst s89;have U5:(((sx b Rn j).map aO).length+1)*25<=140737488355328:=by simp only[dC,sx,List.length_range];omega
    simp only[go_sem,seval,SE,bN a89,U5];refine bk λi90 Z90 s90 a90 f90=>?_;simp only[go_sem,seval,t12,r2];exact⟨_,by omega,j+1,.own i90 0 (((sx b Rn j).map aO).length+1),by omega,rfl,(RO Z3 (aa.refl _) Z89 (hK.trans s89)).trans s90,by rw[Bh,eQ];exact aP.new (by simp) a90 ((hK.trans s89).none f90),by simp[t0,t3];omega⟩
   .have q3:(((Rn-j:Nat):Int)>s.atom)=False:=H';apply sR;simp only[go_sem,seval,t3,t11,t12,b3,q3,au,ar];have TT:j=Rn-k:=by omega
    rw[V',<-TT];exact SG ⟨hs.trans hK,hv.nP hs⟩
open Go.Proofs
def Cc(x:Uk×RG):V.agg [vI x.1.RT,vI x.1.Sr,vI x.2.atom,vI x.2.done,.bool x.2.free]=lq x:=rfl
def vd:zf prog 24 ZL (λs:Ks=>aO s.1):=⟨Ia,Hi,HT,Hl⟩
def fm.C'{b:Bk}{K U:ak}{i im j:Nat}{o:Ob}(h:fm b K U i im)(hi:j≠i)(hm:j≠im)(hK:K j=none):fm b K (Vc.C' U j o) i im:=by
 obtain⟨g,⟨es,ck,ks,env,g1,g2⟩,g3⟩:=h.mp;exact⟨(ab hi.symm).trans h.row,⟨g,⟨es,ck,ks,env,(ab hm.symm).trans g1,g2⟩,g3⟩,h.ni,h.nm,h.sub.aL hK⟩
def fm.new{b:Bk}{K U:ak}{i im j:Nat}(h:fm b K U i im)(hj:U j=none):j≠i/\j≠im:=
 ⟨λe=>(by rw[e,h.row]at hj;cases hj),λe=>(by obtain⟨g,⟨es,ck,ks,env,g1,-⟩,-⟩:=h.mp;rw[e,g1]at hj;cases hj)⟩
def pP(b:Bk)(hb:dv b)(s:RG)(hm:de b.atoms s){U:ak}{i im:Nat}(h0:U i=some (mM b im)):
 aB prog 26 [.ptr i 0 0,aO s] U λr Z'=>r=cY (bB b s)/\Z'=U:=(Cr b hb s hm h0).yq λ_ _ h=>h.2.ns h.1 rfl
def zW:Uk×RG:=(⟨0,0⟩,⟨0,0,false⟩)
def lX{b:Bk}(hb:dv b){s:RG}(hm:de b.atoms s):(bB b s).length<=1000000:=by
 have h1:=vO hb hm;have h2:=hb.len;have h3:=hm.1.1;unfold bB;split
 .simp
 .split
  .simp
  .rw[dC,List.length_range];omega
def tD4:List (List Nat):=[[],[0],[1,0],[2,1,0],[],[3,4,2,1,0],[5,3,4,2,1,0],[6,5,3,4,2,1,0],[6,5,3,4,2,1,0],[],[9,7,0,1,2,3,4,5,6],[8,10,0,1,2,3,4,5,6,7,9]]
def tD5:List (List Nat):=[[],[0],[1,0],[2,1,0],[],[3,4,2,1,0],[5,3,4,2,1,0],[6,5,3,4,2,1,0],[6,5,3,4,2,1,0],[],[9,7,0,1,2,3,4,5,6],[8,10,0,1,2,3,4,5,6,7,9]]
def xD(b:Bk)(hb:dv b){L:Int}(hL:jG b L):∀(f:Nat) (s:RG),fY b s->Yl b s<f->∀(K U:ak) (i im:Nat),fm b K U i im->
 aB prog 43 [.ptr i 0 0,aO s] U λr Z'=>r=lq (dX b s)/\fm b K Z' i im
 |0,s,_,h,_,_,_,_,_=>by omega
 |f+1,s,hv,hf,K,U,i,im,hJ=>by
  refine e43.q ?_;have hs:=aa.refl U;refine mS 11 ?_;simp only[go_sem,seval,c43,bP.rt,au,ar];refine aG hs λi3 Z3 s3 a3 f3 z3 hs=>?_;simp only[go_sem,seval,a3,au,ar];refine aG hs λi4 Z4 s4 a4 f4 z4 hs=>?_;obtain⟨Ye,a3⟩:=RC a3 f4 s4;have UX:=hJ.mono hs;simp only[go_sem,seval,a3,au,ar,aI];refine pR rfl (qk b s UX.row) ?_;by_cases Sq:dD b s
  .rw[Tl Sq];apply sR;simp only[go_sem,seval,a4];obtain⟨n1,n2⟩:=hJ.new z4;exact SG ⟨by rw[E3 Sq];rfl,UX.C' n1 n2 (hJ.sub.none z4)⟩
  rw[Tw Sq];have hm:de b.atoms s:=hv.resolve_right λg=>Sq (by unfold dD;omega);have TY:=(dO hb).on s hv Sq;have hbp:=DX hb hv Sq;have TK:=lX hb hm;have hlN:=ot (bB b s);obtain⟨g,VM,hg⟩:=hJ.mp;have h0:=UX.row;rw[mM,pN]at h0;apply sR;simp only[go_sem,seval,bP.rt,bP.lt];have RP:okK s:=KA hm.1.1 (by have:=hm.1.2;have:=hb.len;omega) hm.2.1 (by have:=xO hb hm;omega);have a5:True:=trivial;cases Va:g ⟨s,RP⟩with
  |some v=>
   obtain rfl:=hg ⟨s,RP⟩ v Va;refine aq.vZ (by kernel_rfl) 8 (.fork tD4 [0,1,2,3,4] [5,9] [(.leaf (sX tD4 [(9,[5,3,4,2,1,0]),(10,[5,3,4,2,1,0,9,7,6]),(11,[5,3,4,2,1,0,8,10,6,7,9])]) [5,6,7,8,9,10,11]),(.leaf (sX tD4 [(5,[9,3,4,2,1,0]),(6,[9,5,3,4,2,1,0]),(7,[9,6,5,3,4,2,1,0]),(8,[9,6,5,3,4,2,1,0]),(11,[9,8,10,0,1,2,3,4,5,6,7])]) [9,5,6,7,8,10,11])]) (by kernel_rfl) ?_;refine GT.oQ (its:=[0,2,4,6,8]) (by kernel_rfl) ?_;refine cU (n:=0) [] [0,2,4,6,8] [_,_,_,_,_] rfl rfl ?_;simp only[go_sem,seval,h0,a3,a5,Va,au,ar,aI,dY,ed,Option.getD_some,Option.isSome_some,bZ,bX];refine⟨?_,?_⟩
   .refine GT.gV (its:=[10,12,14,16,18,20,22]) (by kernel_rfl) ?_;refine RE.look rfl rfl rfl rfl ⟨Ks,inferInstance,ZL,λs=>aO s.1,im,g,⟨s,RP⟩,vd,rfl,VM.sub hs,rfl,rfl⟩ ?_;refine cU (n:=0) [] [12,14,16,18,20,22] [_,_,_,_,_,_] rfl rfl ?_;simp only[go_sem,seval,h0,a3,a5,Va,au,ar,aI,dY,ed,Option.getD_some,Option.isSome_some,bZ,bX];refine bJ λi5 Z5 s5 a5 f5=>?_;have V6:=bb a4 f5;have YX:=bb a3 f5;replace h0:=s5 _ _ h0;replace a3:=s5 _ _ a3;replace a4:=s5 _ _ a4;obtain⟨z5,hs⟩:=Zv hs f5 s5;simp only[go_sem,seval,h0,a3,a5,Va,au,ar,aI,dY,ed,Option.getD_some,Option.isSome_some,bZ,bX];generalize TL:C' _ i5 _=Y5;replace a5:=SR TL;replace a3:=R6 TL YX a3;replace a4:=R6 TL V6 a4;replace hs:=SL TL hs z5;have XW:=hJ.mono hs;apply sR;simp only[go_sem,seval,a4,a5,dY,ed];obtain⟨n1,n2⟩:=hJ.new z4;exact SG ⟨rfl,XW.C' n1 n2 (hJ.sub.none z4)⟩
   .refine GT.gV (its:=[18,7,9,10,12,14,16,20,22]) (by kernel_rfl) ?_;refine cU (n:=0) [7,9,10,12,14,16,20,22] [18] [_] rfl rfl ?_;simp only[go_sem,seval,h0,a3,a5,Va,au,ar,aI,dY,ed,Option.getD_some,Option.isSome_some,bZ,bX];refine bJ λi5 Z5 s5 a5 f5=>?_;have V6:=bb a4 f5;have YX:=bb a3 f5;replace h0:=s5 _ _ h0;replace a3:=s5 _ _ a3;replace a4:=s5 _ _ a4;obtain⟨z5,hs⟩:=Zv hs f5 s5;simp only[go_sem,seval,h0,a3,a5,Va,au,ar,aI,dY,ed,Option.getD_some,Option.isSome_some,bZ,bX];refine dI rfl (by simp only[go_sem,seval,h0,a3,a5,Va,au,ar,aI,dY,ed,Option.getD_some,Option.isSome_some,bZ,bX]) ?_;refine dI rfl (by simp only[go_sem,seval,h0,a3,a5,Va,au,ar,aI,dY,ed,Option.getD_some,Option.isSome_some,bZ,bX]) ?_;refine RE.look rfl rfl rfl rfl ⟨Ks,inferInstance,ZL,λs=>aO s.1,im,g,⟨s,RP⟩,vd,rfl,VM.sub hs,rfl,rfl⟩ ?_;refine cU (n:=0) [] [12,14,16,20,22] [_,_,_,_,_] rfl rfl ?_;simp only[go_sem,seval,h0,a3,a5,Va,au,ar,aI,dY,ed,Option.getD_some,Option.isSome_some,bZ,bX];generalize TL:C' _ i5 _=Y5;replace a5:=SR TL;replace a3:=R6 TL YX a3;replace a4:=R6 TL V6 a4;replace hs:=SL TL hs z5;have XW:=hJ.mono hs;apply sR;simp only[go_sem,seval,a4,a5,dY,ed];obtain⟨n1,n2⟩:=hJ.new z4;exact SG ⟨rfl,XW.C' n1 n2 (hJ.sub.none z4)⟩
  |none=>
   have fin:∀(S:Nat->V) (J:ak),aa U J->J i3=some ⟨24,3,[.agg [vI s.atom,vI s.done,.bool s.free]]⟩->J i4=some ⟨97,5,[.agg [vI 0,vI 0,vI 0,vI 0,.bool false]]⟩->
    S 0=.ptr i 0 0->S 3=.ptr i3 0 0->S 4=.ptr i4 0 0->S 6=.bool false->
    aq prog 69 [It.code c43.code.rt.rt.lt.rt,It.code c43.code.rt.rt.rt] ⟨S,J⟩ λst=>Wq [.cell true 5 (.t 4)] st λr Z'=>r=lq (dX b s)/\fm b K Z' i im:=by
    clear hs a3 a4 h0 VM UX;intro S J hsY a3 a4 t0 t3 t4 t6;have hs:=aa.refl J;refine mS 11 ?_;simp only[go_sem,seval,c43,bP.rt,bP.lt,t0,t3,t4,t6];refine aG hs λi7 Z7 s7 a7 f7 z7 hs=>?_;obtain⟨n37,a3⟩:=RC a3 f7 s7;obtain⟨Wo,a4⟩:=RC a4 f7 s7;have hJ7:=hJ.mono (hsY.trans hs);simp only[go_sem,seval,t0,t3,t4,a3,aI];refine pS rfl (pP b hb s hm hJ7.row) ?_;simp only[go_sem,seval,hlN];have z7':=hsY.none z7;obtain⟨m3,k3⟩:=hJ.new z3;obtain⟨m4,k4⟩:=hJ.new z4;obtain⟨m7,k7⟩:=hJ.new z7';have K7:=hJ.sub.none z7';have K4:=hJ.sub.none z4;have K3:=hJ.sub.none z3;have SU:(pU b s).length=(bB b s).length:=by unfold pU;rw[dC]
    refine aq.loop (λm st=>∃(j:Nat) (o:Option (Uk×RG)),j<=(bB b s).length/\m=(bB b s).length-j/\(j=0/\o=none\/0<j/\∃y,o=some y)/\lR (pU b s) none=lR ((pU b s).drop j) o/\fm b K st.U i im/\
     st.U i3=some ⟨24,3,[.agg [vI s.atom,vI s.done,.bool s.free]]⟩/\st.U i4=some ⟨97,5,[.agg [vI 0,vI 0,vI 0,vI 0,.bool false]]⟩/\st.U i7=some ⟨97,5,[lq (o.getD zW)]⟩/\
     st.s 0=.ptr i 0 0/\st.s 3=.ptr i3 0 0/\st.s 4=.ptr i4 0 0/\st.s 7=.ptr i7 0 0/\st.s 28=cY (bB b s)/\st.s 29=vI (bB b s).length/\st.s 30=vI j) (bB b s).length ⟨0,none,by omega,rfl,.inl ⟨rfl,rfl⟩,rfl,hJ7,a3,a4,a7,t0,t3,t4,rfl,rfl,rfl,rfl⟩ ?_
    clear a3 a4 a7 t0 t3 t4 t6 hs hJ7;rintro m ⟨S',ω⟩ ⟨j,o,hj,rfl,hjo,ZV,Ym,a3,a4,a7,t0,t3,t4,t7,t28,t29,t30⟩;simp only at Ym a3 a4 a7 t0 t3 t4 t7 t28 t29 t30;refine aq.mix 11 ?_;by_cases u':j<(bB b s).length
    .have q:((j:Int)<(bB b s).length)=True:=RA;have RF:=λU=>mi (U:=U) u';have Ya:=tI (bB b s)[j];have UT:(bB b s)[j]∈bB b s:=Sx u';have hcd:(pU b s).drop j=((dX b (bB b s)[j]).1.on (cO b (bB b s)[j]),(bB b s)[j])::(pU b s).drop (j+1):=by
      rw[jM (by omega)];congr 1;simp[pU]
     rw[hcd]at ZV;clear hcd;generalize (bB b s)[j]=t at*;obtain⟨vt,mt⟩:=TY t UT;obtain⟨g1,g2,g3,g4⟩:=FP hb hL vt;obtain⟨g5,g6⟩:=p7 hb t;have hatt:0<=t.atom/\t.atom<b.Sk.length:=by
      have:=hb.brk;rcases vt with h|h
      .exact⟨h.1.1,by have:=h.1.2;omega⟩
      .omega
     have r1:R0 .i64 ((dX b t).1.RT+1):=ao;have r2:R0 .i64 ((dX b t).1.Sr+cO b t):=ao;have r3:=rI j;have hC:iF ((dX b t).1.on (cO b t))=.agg [vI ((dX b t).1.RT+1),vI ((dX b t).1.Sr+cO b t)]:=rfl;have hs:=aa.refl ω;apply sR;simp only[go_sem,seval,t0,t28,t29,t30,q,RF,Ya,au,ar];refine aG hs λi9 Y9 s9 a9 f9 z9 hs=>?_;obtain⟨n39,a3⟩:=RC a3 f9 s9;obtain⟨WJ,a4⟩:=RC a4 f9 s9;obtain⟨WX,a7⟩:=RC a7 f9 s9;simp only[go_sem,seval,a9,t0,t28,t29,t30,au,ar];generalize Sy:C' _ i9 _=Z9;replace a9:=SR Sy;replace a3:=R6 Sy n39 a3;replace a4:=R6 Sy WJ a4;replace a7:=R6 Sy WX a7;replace hs:=SL Sy hs z9;simp only[go_sem,seval,t0,a9,aI];have hJ9:=Ym.mono hs;obtain⟨m9,k9⟩:=Ym.new z9;refine Tx rfl (xD b hb hL f t vt (by omega) _ _ _ _ hJ9.off) ?_;rintro r X2 ⟨rfl,Ze⟩;have get:∀q o,q≠i->q≠im->Z9 q=some o->X2 q=some o:=λq o h1 h2 h3=>Ze.sub _ _ (by rw[ec h1 h2];exact h3);replace a3:=get _ _ m3 k3 a3;replace a4:=get _ _ m4 k4 a4;replace a7:=get _ _ m7 k7 a7;replace a9:=get _ _ m9 k9 a9;have ZF:=Ze.less hJ9.kZ;clear get Ze hJ9 Ym;replace hs:=aa.refl X2;generalize dX b t=B at*;have hW:V.agg [vI (B.1.RT+1),vI (B.1.Sr+cO b t),vI t.atom,vI t.done,.bool t.free]=lq (B.1.on (cO b t),t):=rfl;apply sR;simp only[go_sem,seval,t0,dY,ed];refine aG hs λi10 XP To RZ f10 Uq hs=>?_;obtain⟨n310,a3⟩:=RC a3 f10 To;obtain⟨U9,a4⟩:=RC a4 f10 To;obtain⟨Ta,a7⟩:=RC a7 f10 To;obtain⟨UU,a9⟩:=RC a9 f10 To;simp only[go_sem,seval,RZ];generalize R5:C' _ i10 _=Y10;replace RZ:=SR R5;replace a3:=R6 R5 n310 a3;replace a4:=R6 R5 U9 a4;replace a7:=R6 R5 Ta a7;replace a9:=R6 R5 UU a9;replace hs:=SL R5 hs Uq;have hJ10:=ZF.mono hs;refine⟨r1,?_⟩;simp only[go_sem,seval,t0,a9,RZ,au,ar,aI];refine Go.mT rfl rfl rfl (λZ1 h1=>pY b t hatt (h1 _ _ hJ10.row)) ?_;rcases hjo with⟨rfl,rfl⟩|⟨hj0,y,rfl⟩
     .have q50:(((0:Nat):Int)=0)=True:=RA rfl;apply sG;simp only[go_sem,seval,RZ,r2,q50];generalize R5:C' _ i10 _=Y10;replace RZ:=SR R5;replace a3:=R6 R5 n310 a3;replace a4:=R6 R5 U9 a4;replace a7:=R6 R5 Ta a7;replace a9:=R6 R5 UU a9;replace hs:=SL R5 hs Uq;have hJ11:=ZF.mono hs;rw[Option.getD_none]at a7;simp only[go_sem,seval,t0,t7,t30,a9,RZ,a7,q50,r3,au,ar,dY,ed];exact⟨ao (by decide) (by decide),_,by omega,1,some (B.1.on (cO b t),t),by omega,rfl,.inr ⟨by omega,_,rfl⟩,ZV,hJ11.C' m7 k7 K7,(ab n37).trans a3,(ab Wo).trans a4,rfl,by simp[t0,t3,t4,t7,t28,t29]⟩
     .have q50:((j:Int)=0)=False:=H';apply sG;simp only[go_sem,seval,RZ,r2,q50];generalize R5:C' _ i10 _=Y10;replace RZ:=SR R5;replace a3:=R6 R5 n310 a3;replace a4:=R6 R5 U9 a4;replace a7:=R6 R5 Ta a7;replace a9:=R6 R5 UU a9;replace hs:=SL R5 hs Uq;have hJ11:=ZF.mono hs;rw[Option.getD_some]at a7;simp only[go_sem,seval,t0,t7,a9,RZ,a7,q50,au,ar,dY,ed];refine pR rfl (JM (B.1.on (cO b t)) y.1 _) ?_;by_cases hl:(B.1.on (cO b t)).lt y.1
      .rw[Tl hl];apply sR;simp only[go_sem,seval,t0,t7,t30,a9,RZ,a7,r3,au,ar,dY,ed];exact⟨_,by omega,j+1,some (B.1.on (cO b t),t),by omega,rfl,.inr ⟨by omega,_,rfl⟩,by rw[ZV,lR,aK hl],hJ11.C' m7 k7 K7,(ab n37).trans a3,(ab Wo).trans a4,rfl,by simp[t0,t3,t4,t7,t28,t29]⟩
      .rw[Tw hl];apply sR;simp only[go_sem,seval,t30,r3];exact⟨_,by omega,j+1,some y,by omega,rfl,.inr ⟨by omega,_,rfl⟩,by rw[ZV,lR,aM hl],hJ11,a3,a4,by rw[Option.getD_some];exact a7,by simp[t0,t3,t4,t7,t28,t29]⟩
    .have q:((j:Int)<(bB b s).length)=False:=H'
     (refine aq.bx Th.nothing 8 ?_;simp only[go_sem,seval,pA,t0,t3,t4,t7,t29,t30,q])
     have TT:j=(bB b s).length:=by omega
     have hoe:o.getD zW=dX b s:=by rw[hbp,ZV,TT,<-SU,vU];rfl
     rw[hoe]at a7;have h0:=Ym.row;obtain⟨gω,hmZ,hgZ⟩:=Ym.mp;rw[mM,pN]at h0;refine aq.Q7 [6] rfl (XC.go 6 ?_);apply sG;simp only[go_sem,seval,t0,t3,t7,h0,a3,a7,au,ar,aI,dY,ed,Cc,bZ,bX,Er,List.take_zero];refine XC.sS (a:=⟨s,RP⟩) (by decide) rfl rfl vd rfl hmZ rfl rfl ?_;intro ob Ts hm';refine XC.nil ?_;have b4:=(ab (o:=ob) k4).trans a4;have b7:=(ab (o:=ob) k7).trans a7;have hJe:fm b K (Vc.C' ω im ob) i im:=⟨(ab Ym.ne).trans Ym.row,⟨_,hm',λs' v' hh=>by
      by_cases hss:(⟨s,RP⟩:Ks)=s'
      .rw[aK hss]at hh;rw[<-hss];exact(Option.some.inj hh).symm
      .rw[aM hss]at hh;exact hgZ s' v' hh⟩,Ym.ni,Ym.nm,Ym.sub.aL Ym.nm⟩
     apply sR;simp only[go_sem,seval,t4,t7,b4,b7,dY,ed];exact SG ⟨rfl,hJe.C' m4 k4 K4⟩
   refine aq.vZ (by kernel_rfl) 8 (.fork tD5 [0,1,2,3,4] [5,9] [(.leaf (sX tD5 [(9,[5,3,4,2,1,0]),(10,[5,3,4,2,1,0,9,7,6]),(11,[5,3,4,2,1,0,8,10,6,7,9])]) [5,6,7,8,9,10,11]),(.leaf (sX tD5 [(5,[9,3,4,2,1,0]),(6,[9,5,3,4,2,1,0]),(7,[9,6,5,3,4,2,1,0]),(8,[9,6,5,3,4,2,1,0]),(11,[9,8,10,0,1,2,3,4,5,6,7])]) [9,5,6,7,8,10,11])]) (by kernel_rfl) ?_;refine GT.oQ (its:=[0,2,4,6,8]) (by kernel_rfl) ?_;refine cU (n:=0) [] [0,2,4,6,8] [_,_,_,_,_] rfl rfl ?_;simp only[go_sem,seval,h0,a3,a5,Va,au,ar,aI,Option.getD_none,Option.isSome_none,bZ,bX];refine⟨?_,?_⟩
   .refine GT.gV (its:=[10,12,14,16,18,20,22]) (by kernel_rfl) ?_;refine RE.look rfl rfl rfl rfl ⟨Ks,inferInstance,ZL,λs=>aO s.1,im,g,⟨s,RP⟩,vd,rfl,VM.sub hs,rfl,rfl⟩ ?_;refine cU (n:=0) [] [12,14,16,18,20,22] [_,_,_,_,_,_] rfl rfl ?_;simp only[go_sem,seval,h0,a3,a5,Va,au,ar,aI,Option.getD_none,Option.isSome_none,bZ,bX];refine bJ λi5 Z5 s5 a5 f5=>?_;have V6:=bb a4 f5;have YX:=bb a3 f5;replace h0:=s5 _ _ h0;replace a3:=s5 _ _ a3;replace a4:=s5 _ _ a4;obtain⟨z5,hs⟩:=Zv hs f5 s5;simp only[go_sem,seval,h0,a3,a5,Va,au,ar,aI,Option.getD_none,Option.isSome_none,bZ,bX];exact fin _ _ (hs.aL z5) ((ab YX).trans a3) ((ab V6).trans a4) rfl rfl rfl rfl
   .refine GT.gV (its:=[18,7,9,10,12,14,16,20,22]) (by kernel_rfl) ?_;refine cU (n:=0) [7,9,10,12,14,16,20,22] [18] [_] rfl rfl ?_;simp only[go_sem,seval,h0,a3,a5,Va,au,ar,aI,Option.getD_none,Option.isSome_none,bZ,bX];refine bJ λi5 Z5 s5 a5 f5=>?_;have V6:=bb a4 f5;have YX:=bb a3 f5;replace h0:=s5 _ _ h0;replace a3:=s5 _ _ a3;replace a4:=s5 _ _ a4;obtain⟨z5,hs⟩:=Zv hs f5 s5;simp only[go_sem,seval,h0,a3,a5,Va,au,ar,aI,Option.getD_none,Option.isSome_none,bZ,bX];refine dI rfl (by simp only[go_sem,seval,h0,a3,a5,Va,au,ar,aI,Option.getD_none,Option.isSome_none,bZ,bX]) ?_;refine dI rfl (by simp only[go_sem,seval,h0,a3,a5,Va,au,ar,aI,Option.getD_none,Option.isSome_none,bZ,bX]) ?_;refine RE.look rfl rfl rfl rfl ⟨Ks,inferInstance,ZL,λs=>aO s.1,im,g,⟨s,RP⟩,vd,rfl,VM.sub hs,rfl,rfl⟩ ?_;refine cU (n:=0) [] [12,14,16,20,22] [_,_,_,_,_] rfl rfl ?_;simp only[go_sem,seval,h0,a3,a5,Va,au,ar,aI,Option.getD_none,Option.isSome_none,bZ,bX];exact fin _ _ (hs.aL z5) ((ab YX).trans a3) ((ab V6).trans a4) rfl rfl rfl rfl
open Go.Proofs
def Ux(l:List Nd)(w h:Int):Int:=if eF l w h≠0 then eF l w h else if((bH l w h).V1.length:Int)>0 then 4 else 0
def kz{l:List Nd}{w h:Int}(h0:Ux l w h=0):eF l w h=0/\(bH l w h).V1=[]:=by
 unfold Ux at h0;split at h0
 .rename_i g;exact absurd h0 g
 .rename_i g;split at h0
  .cases h0
  .rename_i g2;exact⟨Decidable.byContradiction g,tc (by omega)⟩
def Ga(l:List Nd)(hl:dq l)(w h:Int)(h0:Ux l w h≠0):aV prog 24 [aQ l,vI w,vI h] (.RM [.VJ,vI (Ux l w h)]):=λU=>by
 refine e24.q ?_;have hs:=aa.refl U;have hn:=Jr l hl w h;unfold yL at hn;refine mS 11 ?_;simp only[go_sem,seval,c24];refine pR rfl (hn _) ?_;unfold Ux at h0|-;by_cases he:eF l w h=0
 .have hb:=gS hl he;rw[aM (show¬(eF l w h≠0)from λk=>k he)]at h0|-;rw[aK he,he];generalize bH l w h=b at*;have XX:=jF b.V1;by_cases hf:(b.V1.length:Int)>0
  .rw[aK hf];have q1:((0:Int)≠0)=False:=H' λh=>h rfl;have q2:((b.V1.length:Int)>0)=True:=RA hf;have X8:(tU b).cells=[bK b.atoms,bg b.V1,vI b.RD]:=rfl;have Va:(tU b).stays=true:=rfl;apply sR;simp only[go_sem,seval,q1];refine pS rfl (wF b hb.toBkFull _) ?_;simp only[go_sem,seval,X8,Va];refine aG hs λi10 XP To RZ f10 Uq hs=>?_;simp only[go_sem,seval,RZ,X8,Va,XX,q2,ag,ai,aA,aC];exact az.pure (hs.aL Uq) rfl
  .rw[aM hf]at h0;exact absurd rfl h0
 .rw[aK (show eF l w h≠0 from he)]at h0|-;have q1:(eF l w h≠0)=True:=RA he;rw[aM he];generalize eF l w h=E at*;apply sR;simp only[go_sem,seval,q1];exact az.same rfl
def qu(l:List Nd)(hl:dq l)(w h:Int)(h0:Ux l w h=0)(U:ak):
 aB prog 24 [aQ l,vI w,vI h] U λr Z'=>∃i im,r=.RM [.ptr i 0 0,vI 0]/\fm (bH l w h) U Z' i im:=by
 refine e24.q ?_;have hs:=aa.refl U;obtain⟨he,hf⟩:=kz h0;have hn:=Jr l hl w h;unfold yL at hn;rw[aK he,he]at hn;have hb:=gS hl he;have Vg:(bH l w h).nodes=l:=rfl;have hbh:(bH l w h).h=h:=rfl;clear h0;generalize bH l w h=b at*;subst Vg;subst hbh;have XX:=jF b.V1;have q1:((0:Int)≠0)=False:=H' λh=>h rfl;have q2:((b.V1.length:Int)>0)=False:=H' (by rw[hf];decide);have X8:(tU b).cells=[bK b.atoms,bg b.V1,vI b.RD]:=rfl;have Va:(tU b).stays=true:=rfl;refine mS 11 ?_;simp only[go_sem,seval,c24];refine pS rfl (hn _) ?_;simp only[go_sem,seval,q1];refine pS rfl (wF b hb.toBkFull _) ?_;simp only[go_sem,seval,X8,Va];refine aG hs λi10 XP To RZ f10 Uq hs=>?_;simp only[go_sem,seval,RZ,X8,Va,ag,ai,aA,aC];generalize R5:C' _ i10 _=Y10;replace RZ:=SR R5;replace hs:=SL R5 hs Uq;simp only[go_sem,seval,RZ,X8,Va,XX,q2,ag,ai,aA,aC];refine aq.vZ (by kernel_rfl) 8 (.fork [[],[],[1],[],[3],[],[],[0,2,4,5,6,1,3],[7,0,2,4,5,6,1,3],[8,4,0,1,2,3,5,6,7],[9,0,1,2,3,4,5,6,7,8]] [0,1,2,3,5] [4,6] [(.leaf [[],[],[1],[],[3],[],[4,3],[4,3,0,2,5,6,1],[4,3,7,0,2,5,6,1],[4,3,8,0,1,2,5,6,7],[4,3,9,0,1,2,5,6,7,8]] [4,6,7,8,9,10]),(.leaf [[],[],[1],[],[6,3],[],[],[6,0,2,4,5,1,3],[6,7,0,2,4,5,1,3],[6,8,4,0,1,2,3,5,7],[6,9,0,1,2,3,4,5,7,8]] [6,4,7,8,9,10])]) (by kernel_rfl) ?_;refine GT.oQ (its:=[0,2,4,6,10]) (by kernel_rfl) ?_;refine cU (n:=0) [] [0,2,4,6,10] [_,_,_,_,_] rfl rfl ?_;simp only[go_sem,seval,RZ,X8,Va,ad,al,ag,ai,aA,aC,aE,aF,bZ,bX];refine⟨?_,?_⟩
 .refine GT.gV (its:=[8,5,12,5,14,16,18,20]) (by kernel_rfl) ?_;refine Wt rfl (wE b hb.toBkFull _) ?_;refine dI rfl (by simp only[go_sem,seval,RZ,X8,Va,ad,al,ag,ai,aA,aC,aE,aF,bZ,bX]) ?_;refine RE.mkMap rfl rfl rfl rfl λim him=>?_;replace RZ:=(ab (o:=gh (.map #[] 0) []) (bb RZ him)).trans RZ;have zm:=hs.none him;replace hs:=hs.aL (o:=gh (.map #[] 0) []) zm;refine dI rfl (by simp only[go_sem,seval,RZ,X8,Va,ad,al,ag,ai,aA,aC,aE,aF,bZ,bX]) ?_;refine cU (n:=0) [] [14,16,18,20] [_,_,_,_] rfl rfl ?_;simp only[go_sem,seval,RZ,X8,Va,ad,al,ag,ai,aA,aC,aE,aF,bZ,bX];refine wx hs λi35 Z35 s35 a35 f35 z35 hs=>?_;simp only[go_sem,seval,RZ,X8,Va,ad,al,ag,ai,aA,aC,aE,aF,bZ,bX];apply sR;simp only[go_sem,seval];exact SG ⟨i35,im,rfl,a35,⟨λ_=>none,oy.nil ZL (s35 _ _ av),λs v h=>by cases h⟩,z35,zm,hs⟩
 .refine GT.gV (its:=[12,5,8,5,14,16,18,20]) (by kernel_rfl) ?_;refine RE.mkMap rfl rfl rfl rfl λim him=>?_;replace RZ:=(ab (o:=gh (.map #[] 0) []) (bb RZ him)).trans RZ;have zm:=hs.none him;replace hs:=hs.aL (o:=gh (.map #[] 0) []) zm;refine dI rfl (by simp only[go_sem,seval,RZ,X8,Va,ad,al,ag,ai,aA,aC,aE,aF,bZ,bX]) ?_;refine Wt rfl (wE b hb.toBkFull _) ?_;refine dI rfl (by simp only[go_sem,seval,RZ,X8,Va,ad,al,ag,ai,aA,aC,aE,aF,bZ,bX]) ?_;refine cU (n:=0) [] [14,16,18,20] [_,_,_,_] rfl rfl ?_;simp only[go_sem,seval,RZ,X8,Va,ad,al,ag,ai,aA,aC,aE,aF,bZ,bX];refine wx hs λi35 Z35 s35 a35 f35 z35 hs=>?_;simp only[go_sem,seval,RZ,X8,Va,ad,al,ag,ai,aA,aC,aE,aF,bZ,bX];apply sR;simp only[go_sem,seval];exact SG ⟨i35,im,rfl,a35,⟨λ_=>none,oy.nil ZL (s35 _ _ av),λs v h=>by cases h⟩,z35,zm,hs⟩
open Go.Proofs
def fm.neR{b:Bk}{K U:ak}{i im a e:Nat}{rows:List V}(h:fm b K U i im)(ha:U a=some ⟨e,3,rows⟩):a≠i/\a≠im:=
 ⟨λg=>(by rw[g,h.row]at ha;simp[mM]at ha),λg=>(by obtain⟨_,⟨es,ck,ks,env,g1,-⟩,-⟩:=h.mp;rw[g,g1]at ha;simp[gh]at ha)⟩
def aP.neD{b:Bk}{K K' U:ak}{i im e a n:Nat}{v:V}{rows:List V}(ho:aP K U e 3 v rows)(h:fm b K' U i im)(hv:v=.own a 0 n):a≠i/\a≠im:=by
 rcases ho with⟨h1,-⟩|⟨id,h1,h2,-⟩
 .rw[h1]at hv;cases hv
 .rw[h1]at hv;cases hv;exact h.neR h2
def fm.del{b:Bk}{K U:ak}{i im:Nat}{idA:Option Nat}(h:fm b K U i im)(h1:∀a,idA=some a->(a≠i/\a≠im)/\K a=none):fm b K (Vc.bR U idA) i im:=by
 cases idA with
 |none=>exact h
 |some a=>
  obtain⟨⟨n1,n2⟩,n3⟩:=h1 a rfl;obtain⟨g,⟨es,ck,ks,env,g1,g2⟩,g3⟩:=h.mp;exact⟨(eT n1.symm).trans h.row,⟨g,⟨es,ck,ks,env,(eT n2.symm).trans g1,g2⟩,g3⟩,h.ni,h.nm,h.sub.x7 n3⟩
def zr{b:Bk}(hb:dv b){L:Int}(hL:jG b L){n:Nat}{s:RG}(hv:fY b s)(h:(n:Int)*L+kr b L s<=kr b L ⟨0,0,true⟩):n<=100000:=by
 have h0:=Bw hb hL hv;have hL1:=hL.pos;have UP:=hL.rest;have hna:=hL.na;have hm:((b.atoms.length:Int)-0)*L<=10000*L:=Int.mul_le_mul_of_nonneg_right (by omega) (by omega);have hp:kr b L ⟨0,0,true⟩<=42768*L:=by
  unfold kr;simp only[Int.toNat_zero];omega
 refine Decidable.byContradiction λhc=>?_;have:=Int.mul_le_mul_of_nonneg_right (show(100001:Int)<=n by omega) (show 0<=L by omega);omega
def Cv(b:Bk)(hb:dv b){L:Int}(hL:jG b L){K0 U:ak}{i im:Nat}(hJ:fm b K0 U i im)(fn:FuncId)(caps:List V)(on:RG->RG)(SB:∀s,fY b s->¬dD b s->on s∈bB b s)
 (hf:∀(J:ak) (s:RG),fY b s->¬dD b s->fm b (qU U i im) J i im->aB prog fn (aO s::caps) J λr X'=>r=aO (on s)/\fm b (qU J i im) X' i im):
 aB prog 44 [.ptr i 0 0,.fn fn caps] U λr Z'=>fm b (qU U i im) Z' i im/\aP (qU U i im) Z' 24 3 r ((lN b on iV ⟨0,0,true⟩).map aO):=by
 refine e44.q ?_;have hs:=aa.refl U;refine mS 7 ?_;simp only[go_sem,seval,c44];refine aG hs λi6 Z6 s6 a6 f6 z6 hs=>?_;simp only[go_sem,seval,a6];generalize W1:C' _ i6 _=Y6;replace a6:=SR W1;replace hs:=SL W1 hs z6;have hJ6:=hJ.off.mono hs;refine aq.loop (λm st=>∃(s:RG) (pre:List RG) (v:V) (i6 f:Nat),m=Yl b s/\fY b s/\Yl b s<f/\lN b on iV ⟨0,0,true⟩=pre++lN b on f s/\(pre.length:Int)*L+kr b L s<=kr b L ⟨0,0,true⟩/\
  fm b (qU U i im) st.U i im/\aP (qU U i im) st.U 24 3 v (pre.map aO)/\(∀n,v≠.own i6 0 n)/\st.U i6=some ⟨24,3,[aO s]⟩/\st.s 0=.ptr i 0 0/\st.s 1=.fn fn caps/\st.s 5=v/\st.s 6=.ptr i6 0 0)
  (Yl b ⟨0,0,true⟩) ⟨⟨0,0,true⟩,[],.bj,i6,iV,rfl,kd b hb,B7 hb,rfl,by simp,hJ6,aP.start,λn h=>(by cases h),a6,rfl,rfl,rfl,rfl⟩ ?_
 clear a6 z6 hJ6 hs;rintro m ⟨S,ω⟩ ⟨s,pre,v,i6,f,rfl,hv,hmf,Sd,hph,Ym,ho,hap,a6,t0,t1,t5,t6⟩;simp only at Ym ho a6 t0 t1 t5 t6;obtain⟨f,rfl⟩:∃f',f=f'+1:=⟨f-1,by omega⟩
 rw[lN]at Sd;refine mS 7 ?_;simp only[go_sem,seval,t0,t6,a6,au,ar,aI];refine pR rfl (qk b s Ym.row) ?_;by_cases Sq:dD b s
 .rw[Tl Sq];rw[aK Sq,j6]at Sd;apply sR;simp only[go_sem,seval,t5,Bool.not_true];rw[Sd];exact SG ⟨Ym,ho⟩
 .rw[Tw Sq];rw[aM Sq]at Sd;have UT:=SB s hv Sq;obtain⟨vt,mt⟩:=(dO hb).on s hv Sq _ UT;have RR:=A0 hb hL hv Sq UT;have V2:=zr hb hL hv hph;apply sR;simp only[go_sem,seval,t5,t6,a6,Bool.not_false,au,ar,aI];refine aD λi17 Z17 s17 a17 f17=>?_;obtain⟨idA,SE,YU⟩:=ho.QS s17;have U5:((pre.map aO).length+1)*25<=140737488355328:=by rw[dC];omega
  simp only[go_sem,seval,SE,bN a17,U5];refine bk λi18 Z18 s18 Ws f18=>?_;have hJ17:=Ym.mono s17;have hJ18:=(hJ17.del λa ha=>⟨ho.neD Ym (YU a ha).2.2,(YU a ha).1⟩).mono s18;have k18:=hJ17.sub.none f18;obtain⟨m18,m18'⟩:=hJ17.new f18;replace a6:Z18 i6=some ⟨24,3,[aO s]⟩:=s18 _ _ (by
   cases idA with
   |none=>exact s17 _ _ a6
   |some a=>exact(eT λg=>hap _ (by rw[g];exact(YU a rfl).2.2)).trans (s17 _ _ a6))
  have hs:=aa.refl Z18;simp only[go_sem,seval,t6,a6,au,ar,aI];refine aG hs λi20 Z20 s20 a20 f20 z20 hs=>?_;obtain⟨n1820,Ws⟩:=RC Ws f20 s20;simp only[go_sem,seval,a20,au,ar,aI];generalize hq20:C' _ i20 _=Y20;replace a20:=SR hq20;replace Ws:=R6 hq20 n1820 Ws;replace hs:=SL hq20 hs z20;simp only[go_sem,seval,t1,a20,au,ar,aI];have hJ20:=hJ18.mono hs;obtain⟨m20,m20'⟩:=hJ18.new z20;have k20:=hJ18.sub.none z20;refine Tx rfl (hf Y20 s hv Sq hJ20) ?_;rintro r X' ⟨rfl,V0⟩;replace a20:=V0.sub _ _ ((ec m20 m20').trans a20);replace Ws:=V0.sub _ _ ((ec m18 m18').trans Ws);have Ze:=V0.less hJ20.kZ;apply sR;simp only[go_sem,seval,a20,au,ar];exact⟨_,mt,on s,pre++[s],.own i18 0 ((pre.map aO).length+1),i20,f,rfl,vt,by omega,by rw[Sd,mR];rfl,by rw[kI,List.length_singleton,Int.natCast_add,Int.add_mul];simp only[Int.natCast_one,Int.one_mul];omega,Ze.C' m20 m20' k20,
   by rw[eQ];exact aP.new (by simp) ((ab n1820).trans Ws) k18,λn h=>(by cases h;exact n1820 rfl),av,by simp[t0,t1]⟩
open Go.Proofs
def A5{s:Nat->V}{U:ak}{a1:Bool}{n1 d e t:Nat}{Post:V->ak->Prop}:
 Wq [.tmp (.t t),.cell a1 n1 (.t d),.tmp (.t e)] ⟨s,U⟩ Post=dQ (cQ U a1 n1 (s d)) λv=>az (.RM [s t,v,s e]) U Post:=by
 unfold Wq az tf;simp only[iy,jA,VX.ev];cases cQ U a1 n1 (s d)<;>simp[dQ]
def Fu(x:Uk×RG):lx true 2 3 (lq x)=some (aO x.2):=rfl
def Ea(x:Uk×RG):lx true 0 2 (lq x)=some (iF x.1):=rfl
def Lg(b:Bk)(hb:dv b){L:Int}(hL:jG b L)(s:RG)(hv:fY b s){K J:ak}{i im i9:Nat}(hJ:fm b K J i im)(a9:J i9=some ⟨69,1,[.ptr i 0 0]⟩):
 aB prog 45 [aO s,.ptr i9 0 0] J λr X'=>r=aO (dX b s).2/\fm b K X' i im:=by
 refine e45.q ?_;have hs:=aa.refl J;refine mS 4 ?_;simp only[go_sem,seval,c45,au,ar];refine aG hs λi2 Z2 s2 a2 f2 z2 hs=>?_;obtain⟨n92,a9⟩:=RC a9 f2 s2;simp only[go_sem,seval,a2];refine aG hs λi3 Z3 s3 a3 f3 z3 hs=>?_;obtain⟨n23,a2⟩:=RC a2 f3 s3;obtain⟨n93,a9⟩:=RC a9 f3 s3;have ZF:=hJ.mono hs;obtain⟨n3,n3'⟩:=hJ.new z3;have k3:=hJ.sub.none z3;simp only[go_sem,seval,a9,a2,au,ar,aI];refine Tx rfl (xD b hb hL (Yl b s+1) s hv (by omega) _ _ _ _ ZF.off) ?_;rintro r Y2 ⟨rfl,Ze⟩;replace a3:=Ze.sub _ _ ((ec n3 n3').trans a3);have UX:=Ze.less ZF.kZ;apply sR;simp only[BB,seval,<-decide_not,bt,ga,aT,eN,eR,eS,eP,eH,bU,ji,bF,gW,eV,gX,dE,dy,cj,jS,cV,cW,cN,Tm,ln,dN,bT,mN,dP,cG,dL,dx,lA,binBV,bY,dS,Th.nothing,a3,Fu,au,ar,V.gA,V.gy,V.fK,V.gH,V.iS,V.gG,V.fJ,V.jh,V.gJ,V.jg,V.gQ,V.gK,V.fG,V.gL,V.iT,V.gM,V.fE,V.jd,V.gP,V.ja];exact SG ⟨rfl,UX.C' n3 n3' k3⟩
def IY{b:Bk}(hb:dv b)(s:RG)(hv:fY b s)(hf:¬dD b s):(dX b s).2∈bB b s:=by
 obtain⟨A,t,B,e1,e2,-⟩:=xf (rank:=cO b) (dflt:=(⟨0,0,false⟩:RG)) (dO hb) hv (tq hb hv) hf;unfold dX;rw[e2,e1];simp
def MK(l:List Nd)(hl:dq l)(w h:Int)(h0:Ux l w h=0)(U:ak):
 aB prog 16 [aQ l,vI w,vI h] U λr Z'=>∃v,r=.RM [v,iF (dX (bH l w h) ⟨0,0,true⟩).1,vI 0]/\aa U Z'/\aP U Z' 24 3 v ((Cp (bH l w h)).map aO):=by
 refine e16.q ?_;have hs:=aa.refl U;have hc:=λU=>qu l hl w h h0 U;obtain⟨he,-⟩:=kz h0;have hb:=gS hl he;have hL:=vG he;generalize bH l w h=b at*;have q0:((0:Int)≠0)=False:=H' λh=>h rfl;refine mS 10 ?_;simp only[go_sem,seval,c16,bP.rt];refine aG hs λi7 Z7 s7 a7 f7 z7 hs=>?_;simp only[go_sem,seval,a7];refine Tx rfl (hc _) ?_;rintro r Z1 ⟨i,im,rfl,hJ⟩;obtain⟨m7,m7'⟩:=hJ.neK a7;replace a7:=hJ.sub _ _ a7;replace hJ:=hJ.less hs;replace hs:=aa.refl Z1;apply sR;simp only[go_sem,seval];refine aG hs λi9 Y9 s9 a9 f9 z9 hs=>?_;obtain⟨WX,a7⟩:=RC a7 f9 s9;obtain⟨m9,m9'⟩:=hJ.new z9;have k9:=hJ.sub.none z9;simp only[go_sem,seval,a9,q0];generalize Sy:C' _ i9 _=Z9;replace a9:=SR Sy;replace a7:=R6 Sy WX a7;replace hs:=SL Sy hs z9;have hJ9:=hJ.mono hs;refine Tx rfl (xD b hb hL iV ⟨0,0,true⟩ (kd b hb) (B7 hb) _ _ _ _ hJ9.off) ?_;rintro r Z2 ⟨rfl,Ze⟩;replace a7:=Ze.sub _ _ ((ec m7 m7').trans a7);replace a9:=Ze.sub _ _ ((ec m9 m9').trans a9);have ZF:=Ze.less hJ9.kZ;clear Ze hJ9 hJ hs;have SB:=IY hb;apply sR;simp only[BB,seval,<-decide_not,bt,ga,aT,eN,eR,eS,eP,eH,bU,ji,bF,gW,eV,gX,dE,dy,cj,jS,cV,cW,cN,Tm,ln,dN,bT,mN,dP,cG,dL,dx,lA,binBV,bY,dS,Th.nothing,a7,Ea,bu,br,V.gA,V.gy,V.fK,V.gH,V.iS,V.gG,V.fJ,V.jh,V.gJ,V.jg,V.gQ,V.gK,V.fG,V.gL,V.iT,V.gM,V.fE,V.jd,V.gP,V.ja];have UX:=ZF.C' (o:=⟨44,2,[iF (dX b ⟨0,0,true⟩).1]⟩) m7 m7' z7;generalize hq:C' Z2 i7 ⟨44,2,[iF (dX b ⟨0,0,true⟩).1]⟩=Y7 at*;replace a7:=(congrFun hq i7).symm.trans av;replace a9:=((congrFun hq i9).symm.trans (ab WX.symm)).trans a9;clear hq ZF;refine aq.vZ (by kernel_rfl) 8 (.leaf [[],[],[0,1],[],[2,0,1],[3,4,0,1,2],[5,0,1,2,3,4]] [0,1,3,2,4,5,6]) (by kernel_rfl) ?_;refine GT.gV (its:=[0,2,6,4,7,8,10,12]) (by kernel_rfl) ?_;refine cU (n:=0) [4,7,8,10,12] [0,2,6] [_,_,_] rfl rfl ?_;simp only[go_sem,seval,a7,a9,bu,br];refine RE.call rfl rfl rfl rfl rfl (Cv b hb hL UX _ _ (λs=>(dX b s).2) SB (λJ s hv hf hJY=>Lg b hb hL s hv hJY.off (hJY.sub _ _ ((ec m9 m9').trans a9)))) ?_;rintro v Z3 ⟨XW,ho⟩;have k7:qU Y7 i im i7≠none:=by rw[ec m7 m7',a7];simp
 replace a7:=XW.sub _ _ ((ec m7 m7').trans a7);replace a9:=XW.sub _ _ ((ec m9 m9').trans a9);refine dI rfl (by simp only[go_sem,seval,a7,a9,bu,br]) ?_;refine cU (n:=0) [] [8,10,12] [_,_,_] rfl rfl ?_;simp only[go_sem,seval,a7,a9,bu,br];apply sR;simp only[go_sem,seval,A5,bu,br];exact SG ⟨v,rfl,(UX.kZ.trans XW.sub).aL z7,(ho.ab k7).nP UX.kZ⟩
def sD(l:List RG):mH (l.map aO)=true:=nE (f:=aO) (λ_=>rfl) l
def Jm(l:List Nd)(hl:dq l)(w h:Int)(h0:Ux l w h=0):
 aV prog 16 [aQ l,vI w,vI h] (.RM [cY (Cp (bH l w h)),iF (dX (bH l w h) ⟨0,0,true⟩).1,vI 0]):=λU=>by
 refine(MK l hl w h h0 U).yq λr Z' h=>?_;obtain⟨v,rfl,hs,ho⟩:=h;exact⟨_,U,hs,Fz.wk (N:=λid=>U id=none) (.RM _ _ (.cons _ _ _ _ (ho.JZ (λid h=>h) (TE.same _ (sD _))) (.cons _ _ _ _ (.same _ rfl) (.cons _ _ _ _ (.same _ rfl) .nil)))) hs (λ_ h=>h),rfl,rfl⟩
open Go.Proofs
def Fs{U:ak}{id e j:Nat}{rows:List V}{a x:RG}(h:U id=some ⟨e,3,rows⟩)(hj:rows[j]?=some (aO a)):cW U 3 (.ptr id j 0) (aO x)=some (C' U id ⟨e,3,rows.set j (aO x)⟩):=by
 have e1:cN (aO a) 0 3 (aO x)=some (aO x):=rfl;simp only[cW,h,hj,e1]
def Je{U:ak}{id e j:Nat}{rows:List V}{a:RG}(h:U id=some ⟨e,3,rows⟩)(hj:rows[j]?=some (aO a)):cQ U true 3 (.ptr id j 0)=some (aO a):=by
 simp only[cQ,h,hj];rfl
def Gq{U:ak}{id e:Nat}{rows:List V}{n:Nat}{k:Int}(h:U id=some ⟨e,3,rows⟩)(hn:n=rows.length)(h0:0<=k)(h1:k<n):bG U 3 (.own id 0 n) (.int .i64 k)=some (.ptr id k.toNat 0):=by
 simp only[bG,h];rw[aK ⟨trivial,h0,h1⟩];simp
def NT{U:ak}{id:Nat}(l:List RG)(RU:l≠[])(hl:l.length<=1000000)(h0:U id=some ⟨24,3,l.map aO⟩):
 aB prog 27 [.own id 0 l.length] U λ_ Z'=>Z'=C' U id ⟨24,3,l.reverse.map aO⟩:=by
 refine e27.q ?_;have TN:0<l.length:=BS.2 RU;have r0:R0 .i64 ((l.length:Int)-1):=ao;refine mS 4 ?_;simp only[go_sem,seval,c27,r0];refine aq.loop (λm st=>∃(k:Nat) (R:List RG),R.length=l.length/\k<=l.length/\m=l.length-k/\(∀q,q<l.length->R[q]?=if q<k\/l.length-k<=q then l[l.length-1-q]? else l[q]?)/\
  st.U=C' U id ⟨24,3,R.map aO⟩/\st.s 0=.own id 0 l.length/\st.s 2=vI k/\st.s 3=vI ((l.length:Int)-1-k)) l.length ⟨0,l,rfl,by omega,rfl,λq hq=>by simp;omega,(lG h0).symm,rfl,rfl,(by rw[show((l.length:Int)-1-(0:Nat))=(l.length:Int)-1 by simp];rfl)⟩ ?_
 rintro m ⟨S,ω⟩ ⟨k,R,hR,hk,rfl,hRq,R8,t0,t2,t3⟩;simp only at R8 t0 t2 t3;subst R8;refine aq.mix 4 ?_;by_cases u':(k:Int)<(l.length:Int)-1-k
 .have q1:((k:Int)<(l.length:Int)-1-k)=True:=RA u';have a0:(C' U id ⟨24,3,R.map aO⟩) id=some ⟨24,3,R.map aO⟩:=av;generalize hτ:C' U id ⟨24,3,R.map aO⟩=J at*;have SV:k<R.length:=by omega
  obtain⟨jn,hjn⟩:∃jn:Nat,(l.length:Int)-1-k=jn:=⟨l.length-1-k,by omega⟩
  have hj1:jn<R.length:=by omega
  rw[hjn]at t3 q1;have hx:(R.map aO)[jn]?=some (aO R[jn]):=by simp[hj1]
  have hy:(R.map aO)[k]?=some (aO R[k]):=by simp[SV]
  have i1:=Gq (k:=jn) a0 (show l.length=_ by rw[dC,hR]) (by omega) (by omega);have i2:=Gq (k:=k) a0 (show l.length=_ by rw[dC,hR]) (by omega) (by omega);rw[gu]at i1 i2;have l1:=Je a0 hx;have l2:=Je a0 hy;have s1:=Fs (x:=R[jn]) a0 hy;have b0:(C' J id ⟨24,3,(R.map aO).set k (aO R[jn])⟩) id=some ⟨24,3,(R.map aO).set k (aO R[jn])⟩:=av;generalize hY2:C' J id ⟨24,3,(R.map aO).set k (aO R[jn])⟩=Y2 at*;have hx2:((R.map aO).set k (aO R[jn]))[jn]?=some (aO R[jn]):=by
   rw[List.getElem?_set_ne (by omega)];exact hx
  have i3:=Gq (k:=jn) b0 (show l.length=_ by rw[List.length_set,dC,hR]) (by omega) (by omega);rw[gu]at i3;have s2:=Fs (x:=R[k]) b0 hx2;have r1:=rI k;have r2:R0 .i64 ((jn:Int)-1):=ao;apply sR;simp only[BB,seval,<-decide_not,bt,ga,aT,eN,eR,eS,eP,eH,bU,lx,ji,bF,gW,eV,gX,dE,dy,cj,jS,cV,cN,Tm,ln,dN,bT,mN,dP,cG,dL,dx,lA,binBV,bY,dS,V.cells,V.stays,Th.nothing,t0,t2,t3,q1,i1,i2,i3,l1,l2,s1,s2,r1,r2];refine⟨_,?_,k+1,(R.set k R[jn]).set jn R[k],by simp[hR],by omega,rfl,λq hq=>?_,?_,by simp[t0];omega⟩
  .omega
  .have hRk:=hRq k (by omega);have hRj:=hRq jn (by omega);rw[aM (by omega),VH SV]at hRk;rw[aM (by omega),VH hj1]at hRj;by_cases g1:q=jn
   .subst g1;rw[List.getElem?_set_self (by simp[hR];omega),aK (.inr (by omega)),show l.length-1-q=k by omega];exact hRk
   .rw[List.getElem?_set_ne (λe=>g1 e.symm)];by_cases g2:q=k
    .subst g2;rw[List.getElem?_set_self (by omega),aK (.inl (by omega)),show l.length-1-q=jn by omega];exact hRj
    .rw[List.getElem?_set_ne (λe=>g2 e.symm),hRq q hq];by_cases g3:q<k\/l.length-k<=q
     .rw[aK g3,aK (by omega)]
     .rw[aM g3,aM (by omega)]
  .rw[<-hY2,<-hτ,tk,tk,List.map_set,List.map_set]
 .have q1:((k:Int)<(l.length:Int)-1-k)=False:=H' u';apply sR;simp only[go_sem,seval,t2,t3,q1];have hRr:R=l.reverse:=by
   refine List.ext_getElem? λq=>?_;by_cases hq:q<l.length
   .rw[hRq q hq,List.getElem?_reverse hq];by_cases g3:q<k\/l.length-k<=q
    .rw[aK g3]
    .rw[aM g3,show l.length-1-q=q by omega]
   .rw[sW (by omega),sW (by simp;omega)]
  rw[hRr];exact SG rfl
def Hy(l:List Nd)(hl:dq l)(w h:Int)(s:RG)(h0:Ux l w h≠0):aV prog 8 [aQ l,vI w,vI h,aO s] (.RM [.bj,vI (Ux l w h)]):=λU=>by
 refine e8.q ?_;have hs:=aa.refl U;have hc:=Ga l hl w h h0;have q1:(Ux l w h≠0)=True:=RA h0;generalize Ux l w h=E at*;refine mS 13 ?_;simp only[go_sem,seval,c8,au,ar];refine aG hs λi7 Z7 s7 a7 f7 z7 hs=>?_;simp only[go_sem,seval,a7];refine pS rfl (hc _) ?_;simp only[go_sem,seval,q1];exact az.pure hs rfl
def zY(b:Bk)(s:RG):V:=if yj b s then .RM [cY (bB b s).reverse,vI 0]else .RM [.bj,vI 4]
def Cj(l:List Nd)(hl:dq l)(w h:Int)(s:RG)(h0:Ux l w h=0):aV prog 8 [aQ l,vI w,vI h,aO s] (zY (bH l w h) s):=λU=>by
 refine e8.q ?_;have hs:=aa.refl U;have hc:=λU=>qu l hl w h h0 U;obtain⟨he,-⟩:=kz h0;have hb:=gS hl he;generalize bH l w h=b at*;have q0:((0:Int)≠0)=False:=H' λh=>h rfl;unfold zY;refine mS 13 ?_;simp only[go_sem,seval,c8,au,ar];refine aG hs λi7 Z7 s7 a7 f7 z7 hs=>?_;simp only[go_sem,seval,a7];refine Tx rfl (hc _) ?_;rintro r Z1 ⟨i,im,rfl,hJ⟩;replace a7:=hJ.sub _ _ a7;replace hJ:=hJ.less hs;apply sR;simp only[go_sem,seval,q0,a7,au,ar,aI];refine pR rfl (Kw b hb.brk s hJ.row) ?_;by_cases hm:yj b s
 .rw[Tl hm,aK hm];have hf:¬dD b s:=by have:=hm.1.1.2;unfold dD;omega
  have RU:=(dO hb).ne s (.inl hm.1) hf;have TK:=lX hb hm.1;apply sR;simp only[go_sem,seval,a7,Bool.not_true,au,ar,aI];refine Tx rfl (Cr b hb s hm.1 hJ.row) ?_;rintro v Z2 ⟨UF,ho⟩;rcases ho with⟨-,hn⟩|⟨id,rfl,ha,hk⟩
  .have:=congrArg List.length hn;rw[dC,List.length_nil]at this;exact absurd (tc this) RU
  .rw[dC];apply sR;simp only[go_sem,seval];refine Tx rfl (NT (bB b s) RU TK ha) ?_;rintro r Z3 rfl;apply sR;simp only[go_sem,seval];have hsF:aa U (C' Z2 id ⟨24,3,(bB b s).reverse.map aO⟩):=(hJ.sub.trans UF).aL (hJ.sub.none hk);have ho:aP U (C' Z2 id ⟨24,3,(bB b s).reverse.map aO⟩) 24 3 (.own id 0 (bB b s).length) ((bB b s).reverse.map aO):=aP.new (by simp) av (hJ.sub.none hk);exact⟨_,U,hsF,Fz.wk (N:=λid=>U id=none) (.RM _ _ (.cons _ _ _ _ (ho.JZ (λid h=>h) (TE.same _ (sD _))) (.cons _ _ _ _ (.same _ rfl) .nil))) hsF (λ_ h=>h),rfl,rfl⟩
 .rw[Tw hm,aM hm];apply sR;simp only[go_sem,seval,Bool.not_false];exact az.pure hJ.sub rfl
open Go.Proofs
def Dw(rank:RG->Int){l:List RG}{j:Nat}(h:j<l.length)(m:RG):sU rank (l.drop j) m=sU rank (l.drop (j+1)) (if rank l[j]<rank m then l[j]else m):=by
 rw[jM h,sU]
def Lh{U:ak}(rank:RG->Int)(x:RG)(r:List RG)(hl:r.length<=1000000)(fn:FuncId)(caps:List V)
 (hf:∀Z1,aa U Z1->∀a∈x::r,∀m∈x::r,aB prog fn (aO a::aO m::caps) Z1 λv Z'=>v=vI (oV (rank a) (rank m))/\Z'=Z1):
 aB prog 47 [cY (x::r),.fn fn caps] U λv Z'=>v=aO (sU rank r x)/\Z'=U:=by
 refine e47.q ?_;have hs:=aa.refl U;obtain⟨l,hle⟩:∃l,l=x::r:=⟨_,rfl⟩
 have hll:l.length=r.length+1:=by rw[hle];rfl
 have hlv:=ot l;have hl0:l[0]'(by omega)=x:=by simp[hle]
 have SA:∀U,bG U 3 (cY l) (.int .i64 0)=some (.rp (aO x)):=λU=>by
  have:=mi (U:=U) (l:=l) (i:=0) (by omega);rw[hl0]at this;exact this
 have Ya:=tI x;have q1:((l.length:Int)<1)=False:=H';have TW:l.drop 1=r:=by rw[hle];rfl
 rw[<-hle]at hf|-;refine mS 7 ?_;simp only[go_sem,seval,c47];refine aG hs λi4 Z4 s4 a4 f4 z4 hs=>?_;simp only[go_sem,seval,hlv,q1,SA,Ya];refine aG hs λi5 Z5 s5 a5 f5 z5 hs=>?_;obtain⟨V6,a4⟩:=RC a4 f5 s5;simp only[go_sem,seval,a5,au,ar];generalize TL:C' _ i5 _=Y5;replace a5:=SR TL;replace a4:=R6 TL V6 a4;replace hs:=SL TL hs z5;refine aq.loop (λm st=>∃(j:Nat) (y:RG),1<=j/\j<=l.length/\m=l.length-j/\y∈l/\sU rank r x=sU rank (l.drop j) y/\aa U st.U/\st.U i4=some ⟨24,3,[.agg [vI 0,vI 0,.bool false]]⟩/\st.U i5=some ⟨24,3,[aO y]⟩/\
  st.s 0=cY l/\st.s 1=.fn fn caps/\st.s 4=.ptr i4 0 0/\st.s 5=.ptr i5 0 0/\st.s 6=vI j) (l.length-1) ⟨1,x,by omega,by omega,rfl,by rw[hle];simp,by rw[TW],hs,a4,a5,rfl,rfl,rfl,rfl,rfl⟩ ?_
 .clear a4 a5 hs;rintro m ⟨S,ω⟩ ⟨j,y,h1,hj,rfl,hy,Yb,hK,a4,a5,t0,t1,t4,t5,t6⟩;simp only at hK a4 a5 t0 t1 t4 t5 t6;refine aq.mix 7 ?_;by_cases u':j<l.length
  .have q:=qT u';have RF:=λU=>mi (U:=U) u';have Ya:=tI l[j];have UT:l[j]∈l:=Sx u';rw[Dw rank u']at Yb;generalize l[j]=a at*;have r1:=rI j;apply sR;simp only[go_sem,seval,t0,t1,t4,t5,t6,hlv,q,RF,Ya,a5,au,ar,aI];refine Go.mT rfl rfl rfl (λZ1 h=>hf Z1 (hK.trans h) a UT y hy) ?_;have V6:i4≠i5:=V6;by_cases hc:rank a<rank y
   .have q2:(oV (rank a) (rank y)<0)=True:=RA (by unfold oV;rw[aK hc];decide);rw[aK hc]at Yb;apply sG;simp only[go_sem,seval,t0,t1,t5,t6,q2,a5,RF,Ya,r1,au,ar,aI];exact⟨_,by omega,j+1,a,by omega,by omega,rfl,UT,Yb,hK.aL z5,(ab V6).trans a4,rfl,by simp[t0,t1,t4,t5]⟩
   .have q2:(oV (rank a) (rank y)<0)=False:=H' (by unfold oV;rw[aM hc];split<;>omega);rw[aM hc]at Yb;apply sG;simp only[go_sem,seval,t0,t1,t5,t6,q2,r1];exact⟨_,by omega,j+1,y,by omega,by omega,rfl,hy,Yb,hK,a4,a5,by simp[t0,t1,t4,t5]⟩
  .have q:=qF u';have TT:j=l.length:=by omega
   rw[TT,vU]at Yb;apply sR;simp only[go_sem,seval,t0,t4,t5,t6,hlv,q,a4,a5,au,ar,aI];exact az.pure (hK.aL z4) (by rw[Yb];rfl)
def KQ(b:Bk)(s t:RG)(h1:0<=s.atom/\s.atom<b.Sk.length)(h2:0<=t.atom/\t.atom<b.Sk.length){J:ak}{i im i9:Nat}(h0:J i=some (mM b im))(a9:J i9=some ⟨69,1,[.ptr i 0 0]⟩):
 aB prog 48 [aO s,aO t,.ptr i9 0 0] J λr X'=>r=vI (oV (cO b s) (cO b t))/\X'=J:=by
 refine e48.q ?_;have hs:=aa.refl J;refine mS 6 ?_;simp only[go_sem,seval,c48,au,ar];refine aG hs λi3 Z3 s3 a3 f3 z3 hs=>?_;obtain⟨n93,a9⟩:=RC a9 f3 s3;simp only[go_sem,seval,a3,au,ar];refine aG hs λi4 Z4 s4 a4 f4 z4 hs=>?_;obtain⟨Ye,a3⟩:=RC a3 f4 s4;obtain⟨n94,a9⟩:=RC a9 f4 s4;have hi:=hs _ _ h0;simp only[go_sem,seval,a9,a3,a4,au,ar,aI];refine Go.mT rfl rfl rfl (λZ1 h=>pY b s h1 (h _ _ hi)) ?_;apply sG;simp only[go_sem,seval,a9,a3,a4,au,ar,aI];refine Go.mT rfl rfl rfl (λZ1 h=>pY b t h2 (h _ _ hi)) ?_;apply sG;simp only[go_sem,seval];refine pJ rfl (Gm _ _) ?_;apply sG;simp only[go_sem,seval];exact az.pure hs rfl
def AR{b:Bk}(hb:dv b){s:RG}(hv:fY b s)(hf:¬dD b s):∀t∈bB b s,0<=t.atom/\t.atom<b.Sk.length:=λt ht=>by
 have:=hb.brk;rcases((dO hb).on s hv hf t ht).1 with h|h
 .exact⟨h.1.1,by have:=h.1.2;omega⟩
 .omega
def Lb(b:Bk)(hb:dv b)(s:RG)(hv:fY b s)(hf:¬dD b s){J:ak}{i im i9:Nat}(h0:J i=some (mM b im))(a9:J i9=some ⟨69,1,[.ptr i 0 0]⟩):
 aB prog 46 [aO s,.ptr i9 0 0] J λr X'=>r=aO (jN b s)/\X'=J:=by
 refine e46.q ?_;have hs:=aa.refl J;have hm:de b.atoms s:=hv.resolve_right λg=>hf (by unfold dD;omega);have RU:=(dO hb).ne s hv hf;have hbr:=AR hb hv hf;have TK:=lX hb hm;refine mS 4 ?_;simp only[go_sem,seval,c46,au,ar];refine aG hs λi2 Z2 s2 a2 f2 z2 hs=>?_;obtain⟨n92,a9⟩:=RC a9 f2 s2;simp only[go_sem,seval,a2];refine aG hs λi3 Z3 s3 a3 f3 z3 hs=>?_;obtain⟨n23,a2⟩:=RC a2 f3 s3;obtain⟨n93,a9⟩:=RC a9 f3 s3;have hi:=hs _ _ h0;simp only[go_sem,seval,a9,a2,au,ar,aI];refine pR rfl (pP b hb s hm hi) ?_;cases hN:bB b s with
 |nil=>exact absurd hN RU
 |cons x r=>
  have hg:jN b s=sU (cO b) r x:=by unfold jN;rw[hN]
  rw[hN]at hbr TK;apply sR;simp only[go_sem,seval];refine pS rfl (Lh (cO b) x r (by rw[TI]at TK;omega) _ _ (λZ1 h a ha m hm'=>KQ b a m (hbr a ha) (hbr m hm') (h _ _ hi) (h _ _ a9))) ?_;simp only[go_sem,seval,a3,au,ar,aI];exact az.pure (hs.aL z3) (by rw[hg])
open Go.Proofs
def re(b:Bk)(l:List RG):Int:=(l.map (cO b)).sum
def zE(b:Bk)(l:List RG)(s:RG):re b (l++[s])=re b l+cO b s:=by
 unfold re;rw[eQ,List.sum_append];simp
def yU{b:Bk}(hb:dv b){on:RG->RG}(SB:∀s,fY b s->¬dD b s->on s∈bB b s):∀(f:Nat) (s:RG),fY b s->∀t∈lN b on f s,fY b t/\¬dD b t
 |0,_,_,t,h=>by simp[lN]at h
 |f+1,s,hv,t,h=>by
  rw[lN]at h;by_cases hf:dD b s
  .rw[aK hf]at h;cases h
  .rw[aM hf]at h;rcases dZ.1 h with rfl|h
   .exact⟨hv,hf⟩
   .exact yU hb SB f (on s) ((dO hb).on s hv hf _ (SB s hv hf)).1 t h
def zt{b:Bk}(hb:dv b){L:Int}(hL:jG b L){on:RG->RG}(SB:∀s,fY b s->¬dD b s->on s∈bB b s):(lN b on iV ⟨0,0,true⟩).length<=100000:=by
 obtain⟨h1,h2⟩:=C1 hb SB iV ⟨0,0,true⟩ (kd b hb) (B7 hb);have h3:=tO hb hL _ _ (kd b hb) h1;have h4:=zr hb hL (n:=(onK b on iV ⟨0,0,true⟩).length) (s:=⟨b.atoms.length,0,false⟩) (.inr ⟨rfl,rfl⟩) (by
  have hr:jL b b.atoms.length=0:=by unfold jL;simp
  have e:kr b L ⟨(b.atoms.length:Nat),0,false⟩=0:=by
   unfold kr;simp only[Int.sub_self,Int.zero_mul,gu,hr];rfl
  rw[e];omega)
 rw[h2,List.length_dropLast,TI];omega
def yC(b:Bk):Uk:=⟨(kW b).length,re b ((kW b).drop 1)⟩
def aP.self{K U:ak}{e sz:Nat}{v:V}{rows:List V}(h:aP K U e sz v rows):∃idA,aP (Vc.bR U idA) U e sz v rows/\aa (Vc.bR U idA) U/\∀a,idA=some a->K a=none/\v=.own a 0 rows.length:=by
 rcases h with⟨h1,h2⟩|⟨id,h1,h2,h3⟩
 .exact⟨none,.inl ⟨h1,h2⟩,aa.refl _,λ_ h=>by cases h⟩
 .exact⟨some id,.inr ⟨id,h1,h2,by simp[Vc.bR,del]⟩,aa.yI U id,λa h=>by cases h;exact⟨h3,h1⟩⟩
def Es(l:List Nd)(hl:dq l)(w h:Int)(h0:Ux l w h=0):
 aV prog 17 [aQ l,vI w,vI h] (.RM [cY (kW (bH l w h)),iF (yC (bH l w h)),vI 0]):=λU=>by
 refine e17.q ?_;have hs:=aa.refl U;have hc:=λU=>qu l hl w h h0 U;obtain⟨he,-⟩:=kz h0;have hb:=gS hl he;have hL:=vG he;generalize bH l w h=b at*;have q0:((0:Int)≠0)=False:=H' λh=>h rfl;have SB:∀s,fY b s->¬dD b s->jN b s∈bB b s:=Bx hb;have hmy:=yU hb SB iV ⟨0,0,true⟩ (kd b hb);have T1:=zt hb hL SB;have Vg:=hb.brk;refine mS 11 ?_;simp only[go_sem,seval,c17,bP.rt];refine aG hs λi7 Z7 s7 a7 f7 z7 hs=>?_;simp only[go_sem,seval,a7];refine Tx rfl (hc _) ?_;rintro r Z1 ⟨i,im,rfl,hJ⟩;obtain⟨m7,m7'⟩:=hJ.neK a7;replace a7:=hJ.sub _ _ a7;replace hJ:=hJ.less hs;replace hs:=aa.refl Z1;apply sR;simp only[go_sem,seval];refine aG hs λi9 Y9 s9 a9 f9 z9 hs=>?_;obtain⟨WX,a7⟩:=RC a7 f9 s9;obtain⟨m9,m9'⟩:=hJ.new z9;have k9:=hJ.sub.none z9;simp only[go_sem,seval,a9,q0];generalize Sy:C' _ i9 _=Z9;replace a9:=SR Sy;replace a7:=R6 Sy WX a7;replace hs:=SL Sy hs z9;have hJ9:=hJ.mono hs;refine Tx rfl (Cv b hb hL hJ9 _ _ (jN b) SB (λJ s hv hf hJY=>(Lb b hb s hv hf hJY.row (hJY.sub _ _ ((ec m9 m9').trans a9))).mono λr X' h=>⟨h.1,by rw[h.2];exact hJY.off⟩)) ?_;rintro v Z3 ⟨UX,ho⟩;have k7:qU Z9 i im i7≠none:=by rw[ec m7 m7',a7];simp
 have k9':qU Z9 i im i9≠none:=by rw[ec m9 m9',a9];simp
 replace a7:=UX.sub _ _ ((ec m7 m7').trans a7);replace a9:=UX.sub _ _ ((ec m9 m9').trans a9);change aP _ _ _ _ _ ((kW b).map aO)at ho;change ∀t∈kW b,fY b t/\¬dD b t at hmy;change (kW b).length<=100000 at T1;unfold yC;generalize kW b=G at*;obtain⟨idA,ho2,G',L'⟩:=ho.self;have XW:fm b U (Vc.bR Z3 idA) i im:=(UX.less hJ9.kZ).del λa ha=>⟨ho.neD UX (L' a ha).2,hJ9.kZ.none (L' a ha).1⟩
 have b7:Vc.bR Z3 idA i7=some ⟨44,2,[.agg [vI 0,vI 0]]⟩:=by
  cases idA with
  |none=>exact a7
  |some a=>exact(eT λg=>k7 (by rw[g];exact(L' a rfl).1)).trans a7
 have b9:Vc.bR Z3 idA i9=some ⟨69,1,[.ptr i 0 0]⟩:=by
  cases idA with
  |none=>exact a9
  |some a=>exact(eT λg=>k9' (by rw[g];exact(L' a rfl).1)).trans a9
 refine aq.xC [7,9] [24] G' ho2 (λd hd=>by rw[jY.1 hd];rfl) ?_;clear a7 a9 ho ho2 G' L' UX k7 k9';generalize Vc.bR Z3 idA=J at*;have hlG:=ot G;rw[<-cY];apply sR;simp only[go_sem,seval,hlG];refine aq.loop (λm st=>∃(j:Nat) (c:Int),j<=G.length/\m=G.length-j/\c=re b ((G.take j).drop 1)/\0<=c/\c<=7*j/\fm b U st.U i im/\st.U i7=some ⟨44,2,[.agg [vI 0,vI c]]⟩/\st.U i9=some ⟨69,1,[.ptr i 0 0]⟩/\
  st.s 6=cY G/\st.s 7=.ptr i7 0 0/\st.s 9=.ptr i9 0 0/\st.s 26=vI G.length/\st.s 27=vI j) G.length ⟨0,0,by omega,rfl,by simp[re],by decide,by decide,XW,b7,b9,rfl,rfl,rfl,rfl,rfl⟩ ?_
 clear XW b7 b9;rintro m ⟨S,ω⟩ ⟨j,c,hj,rfl,hc,Vp,Yn,hJ,a7,a9,t6,t7,t9,t26,t27⟩;simp only at hJ a7 a9 t6 t7 t9 t26 t27;refine aq.mix 11 ?_;by_cases u':j<G.length
 .have p1:=qT u';have Sd:=U0 u';have RF:=λU=>mi (U:=U) u';have Ya:=tI G[j];obtain⟨vt,-⟩:=hmy G[j] (Sx u');have hrk:=p7 hb G[j];have UK:0<=G[j].atom/\G[j].atom<b.Sk.length:=by
   rcases vt with h|h
   .exact⟨h.1.1,by have:=h.1.2;omega⟩
   .omega
  generalize G[j]=t at*;have r1:=rI j;have r2:R0 .i64 (c+cO b t):=ao;by_cases hj0:j=0
  .subst hj0;have p2:(((0:Nat):Int)>0)=False:=H' (by decide);have p3:((0:Int)<(G.length:Int))=True:=RA;apply sR;simp only[go_sem,seval,t6,t7,t9,t26,t27,p1,p2,p3,r1];exact⟨ao (by decide) (by decide),_,by omega,1,c,by omega,rfl,by rw[hc,Sd];simp,Vp,by omega,hJ,a7,a9,by simp[t6,t7,t9,t26]⟩
  .have p2:((j:Int)>0)=True:=RA;apply sR;simp only[go_sem,seval,t6,t7,t9,t26,t27,p1,p2,a7,a9,RF,Ya,au,ar];refine Go.mT rfl rfl rfl (λZ1 h=>pY b t UK (h _ _ hJ.row)) ?_;apply sG;simp only[go_sem,seval,t6,t7,t9,t26,t27,a7,r1,r2];have htd:(G.take (j+1)).drop 1=(G.take j).drop 1++[t]:=by
    rw[Sd,Ad (by rw[lQ];omega)]
   exact⟨_,by omega,j+1,c+cO b t,by omega,rfl,by rw[htd,zE,hc],by omega,by omega,hJ.C' m7 m7' z7,rfl,(ab WX.symm).trans a9,by simp[t6,t7,t9,t26]⟩
 .have p1:=qF u';rw[pL (by omega)]at hc;apply sR;simp only[go_sem,seval,t6,t7,t9,t26,t27,p1,a7,hlG,A5];exact az.pure (hJ.sub.aL z7) (by rw[hc];rfl)
open Go.Proofs
def fa{s:Nat->V}{U:ak}{a1:Bool}{n1 d e t:Nat}{Post:V->ak->Prop}:
 Wq [.cell a1 n1 (.t d),.tmp (.t t),.tmp (.t e)] ⟨s,U⟩ Post=dQ (cQ U a1 n1 (s d)) λv=>az (.RM [v,s t,s e]) U Post:=by
 unfold Wq az tf;simp only[iy,jA,VX.ev];cases cQ U a1 n1 (s d)<;>simp[dQ]
def zI(b:Bk)(l:List RG):V:=match pV b l with
 |some c=>.RM [iF c,.bool true,vI 0]
 |none=>.RM [iF ⟨0,0⟩,.bool false,vI 0]
def pd{b:Bk}{l:List RG}{c:Uk}(h:pV b l=some c):zI b l=.RM [iF c,.bool true,vI 0]:=by unfold zI;rw[h]
def iG{b:Bk}{l:List RG}(h:pV b l=none):zI b l=.RM [.agg [vI 0,vI 0],.bool false,vI 0]:=by unfold zI;rw[h];rfl
def CW(l:List Nd)(hl:dq l)(w h:Int)(h0:Ux l w h=0)(P:List RG)(hP:P.length<=1000000):
 aV prog 12 [aQ l,vI w,vI h,cY P] (zI (bH l w h) P):=λU=>by
 refine e12.q ?_;have hs:=aa.refl U;have hc:=λU=>qu l hl w h h0 U;obtain⟨he,-⟩:=kz h0;have hb:=gS hl he;generalize bH l w h=b at*;have q0:((0:Int)≠0)=False:=H' λh=>h rfl;have Vg:=hb.brk;have hlP:=ot P;refine mS 16 ?_;simp only[go_sem,seval,c12,bP.rt];refine aG hs λi8 Z8 s8 a8 f8 z8 hs=>?_;simp only[go_sem,seval,a8];refine Tx rfl (hc _) ?_;rintro r Z1 ⟨i,im,rfl,hJ⟩;obtain⟨m8,m8'⟩:=hJ.neK a8;replace a8:=hJ.sub _ _ a8;replace hJ:=hJ.less hs;replace hs:=aa.refl Z1;apply sR;simp only[go_sem,seval,q0];refine aG hs λi12 Y12 Xt a12 f12 z12 hs=>?_;obtain⟨ZQ,a8⟩:=RC a8 f12 Xt;obtain⟨m12,m12'⟩:=hJ.new z12;have SF:=hJ.sub.none z12;simp only[go_sem,seval,a12];generalize Tj:C' _ i12 _=Z12;replace a12:=SR Tj;replace a8:=R6 Tj ZQ a8;replace hs:=SL Tj hs z12;have hJ1:=hJ.mono hs;simp only[go_sem,seval,hlP];have ZQ:=ZQ;refine aq.loop (λm st=>∃(j:Nat) (Sl:RG) (c:Uk),j<=P.length/\m=P.length-j/\pV b P=mq b Sl c (P.drop j)/\(c=⟨0,0⟩/\Sl=⟨0,0,true⟩\/1<=c.RT/\fY b Sl/\¬dD b Sl)/\0<=c.RT/\c.RT<=j/\0<=c.Sr/\c.Sr<=7*j/\
  fm b U st.U i im/\st.U i8=some ⟨44,2,[iF c]⟩/\st.U i12=some ⟨24,3,[aO Sl]⟩/\st.s 8=.ptr i8 0 0/\st.s 10=vI 0/\st.s 11=.ptr i 0 0/\st.s 12=.ptr i12 0 0/\st.s 27=cY P/\st.s 28=vI P.length/\st.s 29=vI j) P.length
  ⟨0,⟨0,0,true⟩,⟨0,0⟩,by omega,rfl,rfl,.inl ⟨rfl,rfl⟩,by decide,by decide,by decide,by decide,hJ1,a8,a12,rfl,rfl,rfl,rfl,rfl,rfl,rfl⟩ ?_
 clear hJ1 a8 a12 hs hJ;rintro m ⟨S,ω⟩ ⟨j,Sl,c,hj,rfl,SP,Xo,hp0,hp1,hr0,hr1,hJ,a8,a12,t8,t10,t11,t12,t27,t28,t29⟩;simp only at hJ a8 a12 t8 t10 t11 t12 t27 t28 t29;refine aq.mix 16 ?_;by_cases u':j<P.length
 .have p1:=qT u';have RF:=λU=>mi (U:=U) u';have Ya:=tI P[j];rw[jM u']at SP;generalize P[j]=s at*;have hs:=aa.refl ω;apply sR;simp only[go_sem,seval,t27,t28,t29,p1,RF,Ya,au,ar];refine aG hs λi14 Z14 s14 U7 f14 z14 hs=>?_;obtain⟨n814,a8⟩:=RC a8 f14 s14;obtain⟨n1214,a12⟩:=RC a12 f14 s14;simp only[go_sem,seval,U7,t11,t12,au,ar];generalize hq14:C' _ i14 _=Y14;replace U7:=SR hq14;replace a8:=R6 hq14 n814 a8;replace a12:=R6 hq14 n1214 a12;replace hs:=SL hq14 hs z14;have hJ1:=hJ.mono hs;simp only[go_sem,seval,t11,t12,a12,au,ar,aI];refine pR rfl (qk b Sl hJ1.row) ?_;have hfS:aa U Y14:=hJ.sub.trans hs;by_cases g1:dD b Sl
  .rw[Tl g1];have q3:True:=trivial;have p0:True:=trivial;have hn:pV b P=none:=by rw[SP,mq,aK (.inl g1)]
   rw[iG hn];apply sR;simp only[BB,seval,<-decide_not,bt,ga,aT,eN,eR,eS,eP,eH,bU,lx,ji,bF,gW,eV,gX,dE,dy,cj,jS,cV,cW,cN,Tm,ln,dN,bT,dP,cG,dL,dx,lA,binBV,bY,dS,Th.nothing,t8,t10,t11,t12,a8,a12,U7,q3,p0,bu,br,au,ar,aI,fa,V.gA,V.gy,V.fK,V.gH,V.iS,V.gG,V.fJ,V.jh,V.gJ,V.jg,V.gQ,V.gK,V.fG,V.gL,V.iT,V.gM,V.fE,V.jd,V.gP,V.ja];exact az.pure (hfS.aL z8) rfl
  rw[Tw g1];apply sR;simp only[go_sem,seval,t11,U7,au,ar,aI];refine pR rfl (qk b s hJ1.row) ?_;by_cases g2:dD b s
  .rw[Tl g2];have q3:True:=trivial;have p0:True:=trivial;have hn:pV b P=none:=by rw[SP,mq,aK (.inr (.inl g2))]
   rw[iG hn];apply sR;simp only[BB,seval,<-decide_not,bt,ga,aT,eN,eR,eS,eP,eH,bU,lx,ji,bF,gW,eV,gX,dE,dy,cj,jS,cV,cW,cN,Tm,ln,dN,bT,dP,cG,dL,dx,lA,binBV,bY,dS,Th.nothing,t8,t10,t11,t12,a8,a12,U7,q3,p0,bu,br,au,ar,aI,fa,V.gA,V.gy,V.fK,V.gH,V.iS,V.gG,V.fJ,V.jh,V.gJ,V.jg,V.gQ,V.gK,V.fG,V.gL,V.iT,V.gM,V.fE,V.jd,V.gP,V.ja];exact az.pure (hfS.aL z8) rfl
  rw[Tw g2];have q3:=CN s Sl;by_cases g3:s≠Sl/\c.RT=0
  .rw[Tl g3.1]at q3;have p0:(c.RT=0)=True:=RA g3.2;have hn:pV b P=none:=by rw[SP,mq,aK (.inr (.inr g3))]
   rw[iG hn];apply sR;simp only[BB,seval,<-decide_not,bt,ga,aT,eN,eR,eS,eP,eH,bU,lx,ji,bF,gW,eV,gX,dE,dy,cj,jS,cV,cW,cN,Tm,ln,dN,bT,dP,cG,dL,dx,lA,binBV,bY,dS,Th.nothing,t8,t10,t11,t12,a8,a12,U7,q3,p0,bu,br,au,ar,aI,fa,V.gA,V.gy,V.fK,V.gH,V.iS,V.gG,V.fJ,V.jh,V.gJ,V.jg,V.gQ,V.gK,V.fG,V.gL,V.iT,V.gM,V.fE,V.jd,V.gP,V.ja];exact az.pure (hfS.aL z8) rfl
  rw[mq,aM (λh=>h.elim g1 λh=>h.elim g2 g3)]at SP;have r3:=rI j;have r1:R0 .i64 (c.RT+1):=ao;by_cases g4:c.RT>0
  .have p4:(c.RT>0)=True:=RA g4;have p0:(c.RT=0)=False:=H';have vt:fY b Sl:=by
    rcases Xo with⟨h,-⟩|⟨-,h,-⟩
    .rw[h]at g4;exact absurd g4 (by decide)
    .exact h
   have hm:de b.atoms Sl:=vt.resolve_right λg=>g1 (by unfold dD;omega);have TK:=lX hb hm;have hrk:=p7 hb s;have r2:R0 .i64 (c.Sr+cO b s):=ao;rw[aK g4]at SP;cases hX:decide (s≠Sl)<;>rw[hX]at q3
   all_goals
    apply sR;simp only[BB,seval,<-decide_not,bt,ga,aT,eN,eR,eS,eP,eH,bU,lx,ji,bF,gW,eV,gX,dE,dy,cj,jS,cV,cW,cN,Tm,ln,dN,bT,dP,cG,dL,dx,lA,binBV,bY,dS,Th.nothing,t8,t11,t12,a8,a12,U7,q3,p0,p4,bu,br,au,ar,aI,V.gA,V.gy,V.fK,V.gH,V.iS,V.gG,V.fJ,V.jh,V.gJ,V.jg,V.gQ,V.gK,V.fG,V.gL,V.iT,V.gM,V.fE,V.jd,V.gP,V.ja];refine Go.mT rfl rfl rfl (λZ1 h=>pP b hb Sl hm (h _ _ hJ1.row)) ?_;apply sG;simp only[go_sem,seval,U7,au,ar,aI];refine pJ rfl (G2 (bB b Sl) (by omega) s) ?_;by_cases g5:s∈bB b Sl
    .rw[Tl g5];rw[aK g5]at SP;have vs:=((dO hb).on Sl vt g1 s g5).1;have UK:=AR hb vt g1 s g5;apply sG;simp only[go_sem,seval,t8,t11,a8,U7,Bool.not_true,bu,br,au,ar,aI];refine Go.mT rfl rfl rfl (λZ1 h=>pY b s UK (h _ _ hJ1.row)) ?_;apply sG;simp only[go_sem,seval,t8,t10,t11,t12,t27,t28,t29,a8,a12,U7,r1,r2,r3,ab ZQ.symm,ab n814.symm,ab ZQ,ab n1214.symm,bu,br,au,ar,aI];exact⟨_,by omega,j+1,s,⟨c.RT+1,c.Sr+cO b s⟩,by omega,rfl,SP,.inr ⟨(by show(1:Int)<=c.RT+1;omega),vs,g2⟩,(by show(0:Int)<=c.RT+1;omega),(by show c.RT+1<=((j+1:Nat):Int);omega),
      (by show 0<=c.Sr+cO b s;omega),(by show c.Sr+cO b s<=7*((j+1:Nat):Int);omega),((hJ1.C' m8 m8' z8).C' m12 m12' SF).C' m8 m8' z8,rfl,rfl,rfl⟩
    .rw[Tw g5];rw[aM g5]at SP;rw[iG SP];apply sG;simp only[go_sem,seval,t8,t10,a8,Bool.not_false,fa,bu,br];exact az.pure (hfS.aL z8) rfl
  .have p4:(c.RT>0)=False:=H' g4;have gs:s=Sl:=Decidable.byContradiction λh=>g3 ⟨h,by omega⟩;rw[Tw (λh=>h gs)]at q3;rw[aM g4]at SP;apply sR;simp only[BB,seval,<-decide_not,bt,ga,aT,eN,eR,eS,eP,eH,bU,lx,ji,bF,gW,eV,gX,dE,dy,cj,jS,cV,cW,cN,Tm,ln,dN,bT,dP,cG,dL,dx,lA,binBV,bY,dS,Th.nothing,t8,t10,t11,t12,t27,t28,t29,a8,a12,U7,q3,p4,r1,r3,ab ZQ.symm,ab n814.symm,ab ZQ,ab n1214.symm,bu,br,au,ar,aI,V.gA,V.gy,V.fK,V.gH,V.iS,V.gG,V.fJ,V.jh,V.gJ,V.jg,V.gQ,V.gK,V.fG,V.gL,V.iT,V.gM,V.fE,V.jd,V.gP,V.ja];have vs:fY b s:=by
    rw[gs];rcases Xo with⟨-,h⟩|⟨h,-⟩
    .rw[h];exact kd b hb
    .omega
   exact⟨_,by omega,j+1,s,⟨c.RT+1,c.Sr⟩,by omega,rfl,SP,.inr ⟨(by show(1:Int)<=c.RT+1;omega),vs,g2⟩,(by show(0:Int)<=c.RT+1;omega),(by show c.RT+1<=((j+1:Nat):Int);omega),
    hr0,(by show c.Sr<=7*((j+1:Nat):Int);omega),(hJ1.C' m12 m12' SF).C' m8 m8' z8,rfl,rfl,rfl⟩
 .have p1:=qF u';rw[ER (by omega),mq]at SP;by_cases g4:c.RT=0
  .have p0:(c.RT=0)=True:=RA g4;rw[aK g4]at SP;have TZ:=jw b.atoms;have h0:=hJ.row;rw[mM,pN]at h0;apply sR;simp only[go_sem,seval,t8,t27,t28,t29,p1,a8,p0,bu,br];by_cases g5:(b.atoms.length:Int)=0
   .have p5:((b.atoms.length:Int)=0)=True:=RA g5;rw[aK g5]at SP;rw[pd SP];refine aq.xG (by kernel_rfl) [0,1,2,3,4,5,6,7,8,9] [[],[],[1],[1,2],[1,2,3],[1,2,3,4],[1,2,3,4,5],[0],[0,1,2,3,4,5,6,7],[0,1,2,3,4,5,6,7,8]] [0,2,4,6,8,10,12,14,9,16,18] (by kernel_rfl) (by kernel_rfl) ?_;refine cU (n:=0) [9,16,18] [0,2,4,6,8,10,12,14] [_,_,_,_,_,_,_,_] rfl rfl ?_;simp only[go_sem,seval,t8,t11,a8,h0,TZ,p5,bu,br,ag,ai,bZ,bX];refine dI rfl (by simp only[go_sem,seval,t8,t11,a8,h0,TZ,p5,ab m8.symm,bu,br,ag,ai,bZ,bX]) ?_;refine cU (n:=0) [] [16,18] [_,_] rfl rfl ?_;simp only[go_sem,seval];apply sR;simp only[go_sem,seval,t8,fa];exact az.pure (hJ.sub.aL z8) rfl
   .have p5:((b.atoms.length:Int)=0)=False:=H' g5;rw[aM g5]at SP;rw[iG SP];refine aq.xG (by kernel_rfl) [0,1,2,3,4,5,6,7,8,9] [[],[],[1],[1,2],[1,2,3],[1,2,3,4],[1,2,3,4,5],[0],[0,1,2,3,4,5,6,7],[0,1,2,3,4,5,6,7,8]] [0,2,4,6,8,10,12,14,9,16,18] (by kernel_rfl) (by kernel_rfl) ?_;refine cU (n:=0) [9,16,18] [0,2,4,6,8,10,12,14] [_,_,_,_,_,_,_,_] rfl rfl ?_;simp only[go_sem,seval,t8,t11,a8,h0,TZ,p5,bu,br,ag,ai,bZ,bX];refine dI rfl (by simp only[go_sem,seval,t8,t11,a8,h0,TZ,p5,ab m8.symm,bu,br,ag,ai,bZ,bX]) ?_;refine cU (n:=0) [] [16,18] [_,_] rfl rfl ?_;simp only[go_sem,seval];apply sR;simp only[go_sem,seval,t8,fa];exact az.pure (hJ.sub.aL z8) rfl
  .have p0:(c.RT=0)=False:=H' g4;rw[aM g4]at SP;have vt:fY b Sl/\¬dD b Sl:=by
    rcases Xo with⟨h,-⟩|⟨-,h,h'⟩
    .rw[h]at g4;exact absurd rfl g4
    .exact⟨h,h'⟩
   have hm:de b.atoms Sl:=vt.1.resolve_right λg=>vt.2 (by unfold dD;omega);have TK:=lX hb hm;apply sR;simp only[go_sem,seval,t8,t11,t12,t27,t28,t29,p1,a8,a12,p0,bu,br,au,ar,aI];refine pS rfl (pP b hb Sl hm hJ.row) ?_;simp only[go_sem,seval,t11];refine pR rfl (HJ (bB b Sl) TK (λt=>decide (dD b t)) (λx hx=>qk b x hJ.row)) ?_;cases hany:(bB b Sl).any λt=>decide (dD b t)
   .rw[aM (by rw[hany];simp)]at SP;rw[iG SP];apply sR;simp only[go_sem,seval,t8,t10,a8,Bool.not_false,fa,bu,br];exact az.pure (hJ.sub.aL z8) rfl
   .rw[aK hany]at SP;rw[pd SP];apply sR;simp only[go_sem,seval,t8,t10,a8,Bool.not_true,fa,bu,br];exact az.pure (hJ.sub.aL z8) rfl
open Go.Proofs
section
variable {P:Program} {n:Nat} {st:St} {Q:St->Prop} {k:List It}
def G5{o:Op}{x y:VX}(h:Se P n o=.bin .add x y):∃t x0 y0 yt,o=.binOp .add t x0 y0 yt/\cx n x0=x/\cx n y0=y:=by
 cases o
 case binOp op' t x0 y0 yt=>
  simp only[Se,cH]at h
  repeat' split at h
  all_goals first
   |(simp only[Sj.bin.injEq]at h;obtain⟨rfl,h2,h3⟩:=h;exact⟨t,x0,y0,yt,rfl,h2,h3⟩)
   |cases h
   |(cases op'<;>cases h)
 case call c=>
  obtain⟨callee,args,argTypes⟩:=c;cases callee
  case builtin b=>cases b<;>simp only[Se]at h<;>(repeat' split at h)<;>cases h
  all_goals (simp only[Se]at h;cases h)
 case unOp op t x=>cases op<;>simp only[Se]at h<;>cases h
 case makeFunc f a b=>cases f<;>simp only[Se]at h<;>(repeat' split at h)<;>cases h
 all_goals (simp only[Se]at h;(repeat' split at h)<;>cases h)
def aq.P4{i:aS}{l:List aS}{x y:VX}{kk:IntKind}{a b:Int}(hw:bn st.s i.g=some true)(ho:i.op=.bin .add x y)(hx:x.ev st.s=.int kk a)(hy:y.ev st.s=.int kk b)
 (h:aq P n (.ops l::k) ⟨aY st.s i.dst (.int kk (kk.wrap (a+b))),st.U⟩ Q):aq P n (.ops (i::l)::k) st Q:=by
 refine aq.ins (by rw[ho];simp) hw λF hn I act w o all hi hs next Q' RK=>?_
 subst hn;obtain⟨RN,hd⟩:=eZ hi;rw[ho]at RN;obtain⟨t,x0,y0,yt,g1,rfl,rfl⟩:=G5 RN;have ex:act.eval x0=.int kk a:=by
  have:=cF hs x0;rw[hx]at this;simpa[E']using this
 have ey:act.eval y0=.int kk b:=by
  have:=cF hs y0;rw[hy]at this;simpa[E']using this
 have Su:(execOp act.eval o).run P w=.ok (.value (.int kk (kk.wrap (a+b)))) w:=by
  unfold execOp;rw[g1];simp[ex,ey,eqGuard,binOp,Op.intArith]
 unfold Oper.wp;rw[Su];refine RK _ _ _ ⟨I,?_⟩ h;have:=hs.pure (d:=o.dst) (v:=.int kk (kk.wrap (a+b))) (x:=.int kk (kk.wrap (a+b))) (by simp[E']);rw[<-hd];exact this
end
def zo{l:List Nd}{i:Nat}(h:i<l.length):nU (l.take (i+1))=nU (l.take i)+l[i].words.length:=by
 unfold nU;rw[U0 h,eQ,List.sum_append];simp
def w9:∀{l:List Nd},(∀x∈l,x.words.length<=200000000000000)->nU l<=l.length*200000000000000
 |[],_=>by simp[nU]
 |x::l,h=>by
  have h1:=h x (by simp);have h2:=w9 (l:=l) λy hy=>h y (by simp[hy]);unfold nU at*;simp only[fC,List.sum_cons,TI];omega
open Go.Proofs
def bxN:Nd:=⟨3,1,⟨0,0,0,0,0,0,0,0,0,0,0,0⟩,0,0,[],0,1,2⟩
def ZR:List Nd:=[bxN,bxN,bxN,bxN,bxN]
def bxV:V:=.agg [vI 3,vI 1,vI 0,vI 0,vI 0,vI 0,vI 0,vI 0,vI 0,vI 0,vI 0,vI 0,vI 0,vI 0,vI 0,vI 0,.bj,vI 0,vI 1,vI 2]
def rk(U:ak)(N:Nat->Prop):Fz U N bxV (.agg (Nd.cells bxN)):=by
 unfold bxV;have s:∀k:Int,Fz U N (vI k) (vI k):=λk=>.same _ rfl;exact .agg _ _ (.cons _ _ _ _ (s _) (.cons _ _ _ _ (s _) (.cons _ _ _ _ (s _) (.cons _ _ _ _ (s _) (.cons _ _ _ _ (s _) (.cons _ _ _ _ (s _) (.cons _ _ _ _ (s _) (.cons _ _ _ _ (s _) (.cons _ _ _ _ (s _) (.cons _ _ _ _ (s _)
  (.cons _ _ _ _ (s _) (.cons _ _ _ _ (s _) (.cons _ _ _ _ (s _) (.cons _ _ _ _ (s _) (.cons _ _ _ _ (s _) (.cons _ _ _ _ (s _) (.cons _ _ _ _ (.nil 1) (.cons _ _ _ _ (s _) (.cons _ _ _ _ (s _) (.cons _ _ _ _ (s _) .nil))))))))))))))))))))
def HS(U:ak):aB prog 22 [] U λr Z'=>aa U Z'/\aP U Z' 59 20 r [bxV,bxV,bxV,bxV,bxV]:=by
 refine e22.q ?_;refine mS 3 ?_;simp only[go_sem,seval,c22];refine aq.loop (λm st=>∃(j:Nat) (v:V),j<=5/\m=5-j/\aa U st.U/\aP U st.U 59 20 v (List.replicate j bxV)/\st.s 1=v/\st.s 2=vI j) 5 ⟨0,.bj,by omega,rfl,aa.refl _,aP.start,rfl,rfl⟩ ?_;rintro m ⟨S,ω⟩ ⟨j,v,hj,rfl,hK,ho,t1,t2⟩;simp only at hK ho t1 t2;refine aq.mix 3 ?_;by_cases u':j<5
 .have p1:((j:Int)<5)=True:=RA;have r1:=rI j;apply sR;simp only[go_sem,seval,t1,t2,p1];refine aD λi9 Y9 s9 a9 f9=>?_;obtain⟨idA,SE,RO⟩:=ho.dst s9;have U5:((List.replicate j bxV).length+1)*177<=140737488355328:=by rw[List.length_replicate];omega
  simp only[go_sem,seval,SE,bN a9,U5];refine bk λi10 XP To RZ f10=>?_;simp only[go_sem,seval,t2,r1];exact⟨_,by omega,j+1,.own i10 0 ((List.replicate j bxV).length+1),by omega,rfl,(RO U (aa.refl _) Y9 (hK.trans s9)).trans To,by rw[List.replicate_succ'];exact aP.new (by simp) RZ ((hK.trans s9).none f10),by simp⟩
 .have p1:((j:Int)<5)=False:=H';obtain rfl:j=5:=by omega
  apply sR;simp only[go_sem,seval,t1,t2,p1];exact SG ⟨hK,ho⟩
def Iy:aV prog 22 [] (aQ ZR):=λU=>by
 refine(HS U).yq λr Z' h=>?_;obtain⟨hs,ho⟩:=h;have f:=λU=>rk U (λid=>U id=none);exact⟨_,U,hs,Fz.wk (N:=λid=>U id=none) (ho.JZ (rows':=ZR.map λn=>.agg (Nd.cells n)) (λid h=>h) (.cons _ _ _ _ (rk _ _) (.cons _ _ _ _ (rk _ _) (.cons _ _ _ _ (rk _ _) (.cons _ _ _ _ (rk _ _) (.cons _ _ _ _ (rk _ _) .nil)))))) hs (λ_ h=>h),rfl,rfl⟩
def ZS(l:List Int)(j:Nat):List RG:=(List.range j).map λi=>⟨l.getD i 0,0,decide (i=0)⟩
def EW(l:List Int){j:Nat}(h:j<l.length):ZS l (j+1)=ZS l j++[⟨l[j],0,decide (j=0)⟩]:=by
 unfold ZS;rw[List.range_succ,eQ];simp[h]
def uS{U:ak}{v:V}(l:List Int)(hl:l.length<=1000000)(hr:Reads U 1 false v (l.map vI)):
 aB prog 23 [v] U λr Z'=>r=cY (ZS l l.length)/\Z'=U:=by
 refine e23.q ?_;have hlv:ej false v=some (.int .i64 l.length):=by rw[hr.1,dC]
 refine mS 5 ?_;simp only[go_sem,seval,c23];refine aq.loop (λm st=>∃(j:Nat) (u:V),j<=l.length/\m=l.length-j/\aa U st.U/\aP U st.U 24 3 u ((ZS l j).map aO)/\st.s 0=v/\st.s 3=u/\st.s 4=vI j) l.length ⟨0,.bj,by omega,rfl,aa.refl _,aP.start,rfl,rfl,rfl⟩ ?_;rintro m ⟨S,ω⟩ ⟨j,u,hj,rfl,hK,ho,t0,t3,t4⟩;simp only at hK ho t0 t3 t4;refine aq.mix 5 ?_;by_cases u':j<l.length
 .have p1:=qT u';have r1:=rI j;obtain⟨a,ha,TZ⟩:=(Reads.mono hK hr).2 j (vI l[j]) (by simp[u']);have RR:=EW l u';have U5:((ZS l j).map aO).length=j:=by unfold ZS;simp
  have hdc:decide ((j:Int)=0)=decide (j=0):=decide_eq_decide.2 (by omega);generalize hD:decide (j=0)=D at*;apply sR;simp only[go_sem,seval,t0,t3,t4,hlv,p1,ha,TZ];refine aD λi19 Z19 s19 a19 f19=>?_;obtain⟨idA,SE,RO⟩:=ho.dst s19;have Sh:(((ZS l j).map aO).length+1)*25<=140737488355328:=by rw[U5];omega
  simp only[go_sem,seval,SE,bN a19,Sh];refine bk λi20 Z20 s20 a20 f20=>?_;rw[hdc]at a20;simp only[go_sem,seval,t4,r1];exact⟨_,by omega,j+1,.own i20 0 (((ZS l j).map aO).length+1),by omega,rfl,(RO U (aa.refl _) Z19 (hK.trans s19)).trans s20,by rw[RR,eQ];exact aP.new (by simp) a20 ((hK.trans s19).none f20),by simp[t0]⟩
 .have p1:=qF u';obtain rfl:j=l.length:=by omega
  apply sR;simp only[go_sem,seval,t0,t3,t4,hlv,p1];exact ho.ns hK rfl
def tK(a b:List RG)(h:a.length<=1000000):aV prog 10 [cY a,cY b] (.bool (decide (a=b))):=
 Ib func10 (sz:=3) (ks:=[0,0,1]) (e10.b.trans rfl) e10.c aO CN (λ_ _=>rfl) a b (by omega)
def D7{α:Type}(f:Nat->α)(a n:Nat):((List.range n).map λi=>f (a+n-i)).reverse=(List.range n).map λi=>f (a+1+i):=by
 apply List.ext_getElem
 .simp
 .intro i h1 h2;simp only[List.length_reverse,dC,List.length_range]at h1;rw[List.getElem_reverse];simp only[List.getElem_map,List.getElem_range,dC,List.length_range];congr 1;omega
def ES{b:Bk}{s:RG}(h0:0<=s.atom):(bB b s).reverse=if cp b s<=s.atom then[fo b.atoms s (du b s).body]else if fe b.Sk (s.atom+1) (cp b s)>=0 then[kQ b (fe b.Sk (s.atom+1) (cp b s)).toNat]
 else(List.range (cp b s-s.atom).toNat).map λi=>kQ b (s.atom.toNat+1+i):=by
 unfold bB;split
 .rfl
 .split
  .rfl
  .rw[show(cp b s).toNat=s.atom.toNat+(cp b s-s.atom).toNat by omega];exact D7 (kQ b) _ _
end Go.Vc
