import Derived.Test.YtinojdikhfbfbaaGreatW9
set_option linter.all false
set_option maxHeartbeats 8000000
set_option maxRecDepth 100000
open Go.Proofs.Tryz
namespace Go.Vc
open Go.Proofs
def tB(n:Int):aX prog 67 [vI n] (.bool (decide (mX n))):=λU=>by
 refine e67.q ?_;have hs:=aa.refl U;refine ay.mix 3 ?_;by_cases h0:n>=1
 .have q0:(n>=1)=True:=RX h0;by_cases h1:n<=1099511627776
  .have q1:(n<=1099511627776)=True:=RX h1;rw[show decide (mX n)=true from Tv ⟨h0,h1⟩];apply sR;simp only[go_sem,seval,c67,q0,q1];exact aD.pure hs rfl
  .have q1:(n<=1099511627776)=False:=H' h1;rw[show decide (mX n)=false from TE λh=>h1 h.2];apply sR;simp only[go_sem,seval,c67,q0,q1];exact aD.pure hs rfl
 .have q0:(n>=1)=False:=H' h0;rw[show decide (mX n)=false from TE λh=>h0 h.1];apply sR;simp only[go_sem,seval,c67,q0];exact aD.pure hs rfl
open Go.Proofs
def Fq(l:List Nd)(hl:dN l)(hb:SA l=true)(hn:l.length<=2000)(his:aX prog 104 [aQ l] (.bool (SA l)))(a:Nat)(ha:a<l.length)(h:Int)(h1:1<=h)(h2:h<=1099511627776):
 aX prog 51 [aQ l,vI a,vI h] (kE (qj l a h)):=λU=>by
 refine e51.q ?_;have hs:=aa.refl U;have Ux:=bT l;have hmc:=CY l hl h his;have hm:gH l h=true:=by unfold gH;rw[hb,Tv ⟨h1,h2⟩];rfl
 rw[hm]at hmc;rw[H7 hb ha];have q1:((a:Int)<0)=False:=H';have q2:((a:Int)>=l.length)=False:=H';refine mS 10 ?_;simp only[go_sem,seval,c51];refine aE hs λi6 Z6 s6 a6 f6 z6 hs=>?_;simp only[go_sem,seval,a6];refine pS rfl (hmc _) ?_;simp only[go_sem,seval,q1,q2,Ux];refine aE hs λi7 Z7 s7 a7 f7 z7 hs=>?_;obtain⟨Uh,a6⟩:=RZ a6 f7 s7;simp only[go_sem,seval,a7,ad Uh,ad Uh];generalize Wo:C' _ i7 _=Y7;replace a7:=Ti Wo;replace a6:=So Wo Uh a6;replace hs:=Te Wo hs z7;have Sg:∀i,i<l.length->jw l a h (i+1)=if ct l i a=true then jy l (jw l a h i) i else jw l a h i:=λi _=>rfl
 have hiv:=λi hi=>xf hb (a:=a) h1 i hi;generalize hX:jw l a h a=X;have hZ:jw l a h 0=⟨[],0,h⟩:=rfl;generalize jw l a h=H at*;refine ay.loop (λm st=>∃i:Nat,i<=a/\m=a-i/\aa U st.U/\(∃vh,st.U i7=some ⟨63,3,[.agg [vh,vI (H i).high,vI (H i).body]]⟩/\aP U st.U 3 1 vh ((H i).TM.map vI))/\st.U i6=some ⟨63,3,[.agg [.bl,vI 0,vI 0]]⟩/\st.s 0=aQ l/\st.s 1=vI a/\st.s 6=.ptr i6 0 0/\st.s 7=.ptr i7 0 0/\st.s 8=vI i) a ?_ ?_
 .exact⟨0,by omega,rfl,hs,⟨.bl,by rw[hZ];exact a7,by rw[hZ];exact aP.start⟩,a6,rfl,rfl,rfl,rfl,rfl⟩
 .clear a7 a6 hs;rintro m ⟨S,J⟩ ⟨i,hi,rfl,hs,⟨vh,a7,hvh⟩,a6,k0,k1,k6,k7,k8⟩;simp only at hs a7 hvh a6 k0 k1 k6 k7 k8;obtain⟨ch,sh⟩:=hvh.vc;refine ay.mix 10 ?_;by_cases u':i<a
  .have q3:((i:Int)<a)=True:=RX;have Uk:i<l.length:=by omega
   have Th:=λU=>bN (U:=U) (l:=l) (a:=i) Uk;have XW:=(fA hb Uk).st.head;have TU:=vD hb Uk;have V4:=Sg i Uk;have hhd:(Uy l (i:Int)).head=l[i].st.head:=by rw[gG Uk]
   have hho:ct l (i:Int) (a:Int)=decide (¬((i:Int)+l[i].size<=a)):=by
    rw[Bool.eq_iff_iff];simp[ct,ng,R7,Uk];omega
   rw[zK (by rw[hhd];exact XW.1),hho,hhd]at V4;obtain⟨v1,v2,v3,v4⟩:=hiv i (by omega);generalize H i=Y at*;generalize l[i]=nd at*;have r1:=rI i;have r2:Sn .i64 ((i:Int)+nd.size):=ar;by_cases c1:(i:Int)+nd.size<=a
   .have w1:((i:Int)+nd.size<=a)=True:=RX c1;rw[aK (by simp;omega)]at V4;apply sR;simp only[go_sem,seval,k0,k1,k6,k7,k8,q3,Th,Nd.cells,a7,a6,w1,r1,r2,ch,sh];exact⟨_,by omega,i+1,by omega,rfl,hs,⟨vh,by rw[V4],by rw[V4];exact hvh⟩,by simp[vI]⟩
   .have w1:((i:Int)+nd.size<=a)=False:=H' c1;rw[aI (by simp;omega)]at V4;by_cases c2:nd.st.head=0
    .have w2:(nd.st.head=0)=True:=RX c2;rw[aI (.inl c2)]at V4;apply sR;simp only[go_sem,seval,k0,k1,k6,k7,k8,q3,Th,Nd.cells,a7,a6,w1,w2,r1,r2,ch,sh];exact⟨_,by omega,i+1,by omega,rfl,hs,⟨vh,by rw[V4],by rw[V4];exact hvh⟩,by simp[vI]⟩
    .have w2:(nd.st.head=0)=False:=H' c2;by_cases c3:nd.st.head>=Y.body
     .have w3:(nd.st.head>=Y.body)=True:=RX c3;rw[aI (.inr c3)]at V4;apply sR;simp only[go_sem,seval,k0,k1,k6,k7,k8,q3,Th,Nd.cells,a7,a6,w1,w2,w3,r1,r2,ch,sh];exact⟨_,by omega,i+1,by omega,rfl,hs,⟨vh,by rw[V4],by rw[V4];exact hvh⟩,by simp[vI]⟩
     .have w3:(nd.st.head>=Y.body)=False:=H' c3;rw[aK (by omega)]at V4;have r3:Sn .i64 (Y.high+nd.st.head):=ar;have r4:Sn .i64 (Y.body-nd.st.head):=ar;have UF:(Y.TM.map vI).length=Y.TM.length:=by simp
      have SF:(Y.TM.length+1)*9<=140737488355328:=by omega
      apply sR;simp only[go_sem,seval,k0,k1,k6,k7,k8,q3,Th,Nd.cells,a7,a6,w1,w2,w3,r1,r2,ch,sh];refine aF λi60 Z60 s60 a60 f60=>?_;obtain⟨idA,Ta,hdv,Us,Sd⟩:=hvh.AH s60;have b7:=(Us i7 (hvh.ke a7 (by simp)) Z60).trans (s60 _ _ a7);have b6:=(Us i6 (hvh.ke a6 (by simp)) Z60).trans (s60 _ _ a6);simp only[go_sem,seval,Ta,bR a60,UF,SF,k0,k1,k6,k7,k8];refine bn λi61 Z61 s61 a61 f61=>?_;have k61:=(Sd U (aa.refl U) Z60 (hs.trans s60)).trans s61;have n61:U i61=none:=(hs.trans s60).none f61;have c7:=s61 _ _ b7;have c6:=s61 _ _ b6;have Vd:aP U Z61 3 1 (.own i61 0 (Y.TM.length+1)) ((Y.TM++[(i:Int)]).map vI):=aP.new (by simp) (by rw[a61,fw];rfl) n61;simp only[go_sem,seval,k0,k1,k6,k7,k8,c7,ch,sh,r1,r3,r4];refine⟨_,by omega,i+1,by omega,rfl,k61.aL z7,⟨_,by rw[V4],by rw[V4];exact Vd.cT c7 (by simp)⟩,(ad Uh).trans c6,by simp[vI]⟩
  .have q3:((i:Int)<a)=False:=H';obtain rfl:i=a:=by omega
   rw[hX]at a7 hvh;apply sR;simp only[go_sem,seval,k0,k1,k6,k7,k8,q3,a7,a6,ch,sh];have hst0:∀o,aa U (C' J i6 o):=λo=>hs.aL z6;exact⟨_,U,hst0 _,Wk.agg (vs':=[aZ X.TM,vI X.high,vI X.body]) ⟨(hvh.cT a6 (by simp)).wk (aa.refl U) (hst0 _),Wk.refl (hst0 _) _,Wk.refl (hst0 _) _,trivial⟩,rfl,rfl⟩
def Hp(l:List Nd)(hl:dN l)(hb:SA l=true)(hn:l.length<=2000)(his:aX prog 104 [aQ l] (.bool (SA l)))(h:Int)(h1:1<=h)(h2:h<=1099511627776):
 aX prog 70 [aQ l,vI h] (vI (de l h)):=λU=>by
 refine e70.q ?_;have hs:=aa.refl U;have Ux:=bT l;have hmc:=CY l hl h his;have hm:gH l h=true:=by unfold gH;rw[hb,Tv ⟨h1,h2⟩];rfl
 rw[hm]at hmc;unfold de;rw[aI hm];have SR:=λ(a:Nat) (ha:a<l.length)=>Fq l hl hb hn his a ha h h1 h2;refine mS 7 ?_;simp only[go_sem,seval,c70];refine pS rfl (hmc _) ?_;simp only[go_sem,seval];refine ay.loop (λm st=>∃i:Nat,i<=l.length/\m=l.length-i/\st.U=U/\st.s 0=aQ l/\st.s 1=vI h/\st.s 5=vI (fU l h i)/\st.s 6=vI i) l.length ?_ ?_
 .exact⟨0,by omega,rfl,rfl,rfl,rfl,rfl,rfl⟩
 .rintro m ⟨S,J⟩ ⟨i,hi,rfl,Su,k0,k1,k5,k6⟩;simp only at Su k0 k1 k5 k6;subst Su;refine ay.mix 7 ?_;by_cases u':i<l.length
  .have q:=qT u';have Th:=λU=>bN (U:=U) (l:=l) (a:=i) u';have Sg:=Ag (l:=l) (h:=h) (j:=i);rw[gS u']at Sg;have hoc:=SR i u';generalize l[i]=nd at*;have r1:=rI i;by_cases c1:nd.kind=2
   .have w1:(nd.kind=2)=True:=RX c1;rw[aI (.inl c1)]at Sg;apply sR;simp only[go_sem,seval,k0,k1,k5,k6,Ux,q,Th,Nd.cells,w1];refine pS rfl (hoc _) ?_;simp only[go_sem,seval,k0,k1,k5,k6,kE,eP,r1];exact⟨_,by omega,i+1,by omega,rfl,by simp[k0,k1,Sg,vI]⟩
   .have w1:(nd.kind=2)=False:=H' c1;by_cases c2:nd.kind=3
    .have w2:(nd.kind=3)=True:=RX c2;rw[aI (.inr c2)]at Sg;apply sR;simp only[go_sem,seval,k0,k1,k5,k6,Ux,q,Th,Nd.cells,w1,w2];refine pS rfl (hoc _) ?_;simp only[go_sem,seval,k0,k1,k5,k6,kE,eP,r1];exact⟨_,by omega,i+1,by omega,rfl,by simp[k0,k1,Sg,vI]⟩
    .have w2:(nd.kind=3)=False:=H' c2;rw[aK (by omega)]at Sg;apply sR;simp only[go_sem,seval,k0,k1,k5,k6,Ux,q,Th,Nd.cells,w1,w2,r1];exact⟨_,by omega,i+1,by omega,rfl,by simp[k0,k1,k5,Sg,vI]⟩
  .have q:=qF u';obtain rfl:i=l.length:=by omega
   apply sR;simp only[go_sem,seval,k0,k1,k5,k6,Ux,q];exact aD.pure hs rfl
open Go.Proofs
def Jq(l:List Tk)(hl:lT l)(s:R3)(hm:dc l s)(hd:s.done<=1152921504606846976)(Sf:Int)(h1:1<=Sf):aX prog 31 [bL l,aN s,vI Sf] (.Sa [cz (pX l s Sf),aN (fS l s Sf)]):=λU=>by
 refine e31.q ?_;have hs:=aa.refl U;have hll:=hl.len;have hc:=tE l s;rw[Tv hm]at hc;unfold pX fS;rw[aI ⟨hm,h1⟩,aI ⟨hm,h1⟩];obtain⟨a,d,fr⟩:=s;obtain⟨⟨h0,h1'⟩,h2,h3⟩:=hm;simp only at h0 h1' h2 h3 hd;obtain⟨n,rfl⟩:∃n:Nat,a=n:=⟨a.toNat,by omega⟩
 have T9:n<l.length:=by omega
 have SW:=λU=>fK (U:=U) T9;have hy:=hl.Xv _ (SU T9);rw[bx T9]at h3;have hX:eU l ⟨n,d,fr⟩ Sf=⟨l[n].node,n,d,l[n].x,0,l[n].w,min (l[n].h-d) Sf⟩:=by
  simp only[eU,oZ,ZS.eK,ZS.cut,bx T9]
 have hY:jS l (eU l ⟨n,d,fr⟩ Sf)=if d+min (l[n].h-d) Sf<l[n].h then⟨n,d+min (l[n].h-d) Sf,false⟩else⟨(n:Int)+1,0,false⟩:=by
  rw[hX,jS];simp only[bx T9]
 generalize jS l (eU l ⟨n,d,fr⟩ Sf)=Y at*;generalize eU l ⟨n,d,fr⟩ Sf=X at*;generalize l[n]=x at*;have w1:(Sf<1)=False:=H';have r1:Sn .i64 (x.h-d):=ar;have r2:=rI n;have r3:Sn .i64 (d+min (x.h-d) Sf):=ar;refine mS 11 ?_;simp only[go_sem,seval,c31,aN];refine aE hs λi4 Z4 s4 a4 f4 z4 hs=>?_;simp only[go_sem,seval,a4];refine aE hs λi6 Z6 s6 a6 f6 z6 hs=>?_;obtain⟨ZL,a4⟩:=RZ a4 f6 s6;simp only[go_sem,seval,a4];refine aE hs λi7 Z7 s7 a7 f7 z7 hs=>?_;obtain⟨WQ,a4⟩:=RZ a4 f7 s7;obtain⟨Uh,a6⟩:=RZ a6 f7 s7;simp only[go_sem,seval,a4];refine pS rfl (hc _) ?_;simp only[go_sem,seval,a4,w1,SW,bC];refine aE hs λi8 Z8 s8 a8 f8 z8 hs=>?_;obtain⟨VP,a4⟩:=RZ a4 f8 s8;obtain⟨Wl,a6⟩:=RZ a6 f8 s8;obtain⟨V0,a7⟩:=RZ a7 f8 s8;simp only[go_sem,seval,a8,a4,r1,r2,eP,ad VP,ad Wl,ad V0,ad V0];generalize VC:C' _ i8 _=Y8;replace a8:=Ti VC;replace a4:=So VC VP a4;replace a6:=So VC Wl a6;replace a7:=So VC V0 a7;replace hs:=Te VC hs z8;refine aE hs λi10 XV TN Sb f10 UH hs=>?_;obtain⟨Vw,a4⟩:=RZ a4 f10 TN;obtain⟨VH,a6⟩:=RZ a6 f10 TN;obtain⟨TB,a7⟩:=RZ a7 f10 TN;obtain⟨Wm,a8⟩:=RZ a8 f10 TN;by_cases u':d+min (x.h-d) Sf<x.h
 .have w2:(d+min (x.h-d) Sf<x.h)=True:=RX u';rw[aI u']at hY;simp only[go_sem,seval,Sb,a8,a4,r1,r2,r3,eP,w2,gn,ad Vw,ad VH,ad TB,ad Wm];generalize Ss:C' _ i10 _=Y10;replace Sb:=Ti Ss;replace a4:=So Ss Vw a4;replace a6:=So Ss VH a6;replace a7:=So Ss TB a7;replace a8:=So Ss Wm a8;replace hs:=Te Ss hs UH;refine ay.tW (by kernel_rfl) 8 (.leaf [[],[0],[],[2],[],[4],[],[6],[],[8],[],[1,3,5,7,9,10,0,2,4,6,8],[],[11,0,1,2,3,4,5,6,7,8,9,10],[12,13,0,1,2,3,4,5,6,7,8,9,10,11]] [0,1,2,3,4,5,6,7,8,9,10,11,12,13,14]) (by kernel_rfl) ?_;refine GT.gN (its:=[0,2,4,6,8,10,12,14,16,18,20,22,24,26,25,28]) (by kernel_rfl) ?_;refine cY (n:=0) [25,28] [0,2,4,6,8,10,12,14,16,18,20,22,24,26] [_,_,_,_,_,_,_,_,_,_,_,_,_,_] rfl rfl ?_;simp only[go_sem,seval,a4,a8,Sb,a6,a7,ad ZL,ad Wl.symm,ad VH.symm,ad Uh.symm,ad WQ,ad V0.symm,ad TB.symm,ad Uh];refine eh rfl (by simp only[go_sem,seval,a4,a8,Sb,a6,a7,ad ZL,ad Wl.symm,ad VH.symm,ad Uh.symm,ad WQ,ad V0.symm,ad TB.symm,ad Uh]) ?_;refine cY (n:=0) [] [28] [_] rfl rfl ?_;simp only[go_sem,seval,a4,a8,Sb,a6,a7,ad ZL,ad Wl.symm,ad VH.symm,ad Uh.symm,ad WQ,ad V0.symm,ad TB.symm,ad Uh];apply sR;simp only[go_sem,seval,a6,a7,ad Uh,ad Uh.symm,iJ]
  first
   |exact aD.pure ((hs.aL z6).aL z7) (by rw[hX,hY];rfl)
   |exact aD.pure ((hs.aL z7).aL z6) (by rw[hX,hY];rfl)
 .have w2:(d+min (x.h-d) Sf<x.h)=False:=H' u';rw[aK u']at hY;simp only[go_sem,seval,Sb,a8,a4,r1,r2,r3,eP,w2,gn,ad Vw,ad VH,ad TB,ad Wm];generalize Ss:C' _ i10 _=Y10;replace Sb:=Ti Ss;replace a4:=So Ss Vw a4;replace a6:=So Ss VH a6;replace a7:=So Ss TB a7;replace a8:=So Ss Wm a8;replace hs:=Te Ss hs UH;refine ay.tW (by kernel_rfl) 8 (.leaf [[],[0],[],[2],[],[4],[],[6],[],[8],[],[1,3,5,7,9,10,0,2,4,6,8],[],[11,0,1,2,3,4,5,6,7,8,9,10],[12,13,0,1,2,3,4,5,6,7,8,9,10,11]] [0,1,2,3,4,5,6,7,8,9,10,11,12,13,14]) (by kernel_rfl) ?_;refine GT.gN (its:=[0,2,4,6,8,10,12,14,16,18,20,22,24,26,25,28]) (by kernel_rfl) ?_;refine cY (n:=0) [25,28] [0,2,4,6,8,10,12,14,16,18,20,22,24,26] [_,_,_,_,_,_,_,_,_,_,_,_,_,_] rfl rfl ?_;simp only[go_sem,seval,a4,a8,Sb,a6,a7,ad ZL,ad Wl.symm,ad VH.symm,ad Uh.symm,ad WQ,ad V0.symm,ad TB.symm,ad Uh];refine eh rfl (by simp only[go_sem,seval,a4,a8,Sb,a6,a7,ad ZL,ad Wl.symm,ad VH.symm,ad Uh.symm,ad WQ,ad V0.symm,ad TB.symm,ad Uh]) ?_;refine cY (n:=0) [] [28] [_] rfl rfl ?_;simp only[go_sem,seval,a4,a8,Sb,a6,a7,ad ZL,ad Wl.symm,ad VH.symm,ad Uh.symm,ad WQ,ad V0.symm,ad TB.symm,ad Uh];apply sR;simp only[go_sem,seval,a6,a7,ad Uh,ad Uh.symm,iJ]
  first
   |exact aD.pure ((hs.aL z6).aL z7) (by rw[hX,hY];rfl)
   |exact aD.pure ((hs.aL z7).aL z6) (by rw[hX,hY];rfl)
def CV(sz:Nat)(ks:List Nat):RY:=⟨26,.seq (.Wb false [⟨some 4,.Wa (.c (.bool false)),none⟩]) (.seq (.seq (.Wb false [⟨some 6,.Wa (.t 0),none⟩,⟨some 7,.len false (.t 6),none⟩,⟨some 8,.Wa (.t 1),none⟩,⟨some 9,.len false (.t 8),none⟩,⟨some 10,.bin .neq (.t 7) (.t 9),none⟩]) (.cond (.t 10) (.seq (.Wb false [⟨some 4,.Wa (.c (.bool false)),none⟩]) .ret) .skip)) (.seq (.seq (.Wb false [⟨some 5,.Wa (.c (.int .i64 0)),none⟩]) (.block 0 (.loop (.seq (.seq (.Wb false [⟨some 11,.Wa (.t 5),none⟩,⟨some 12,.Wa (.t 0),none⟩,⟨some 13,.len false (.t 12),none⟩,⟨some 14,.bin .lss (.t 11) (.t 13),none⟩]) (.cond (.t 14) .skip (.exit 0))) (.seq (.block 1 (.seq (.Wb true [⟨some 17,.Wa (.t 0),none⟩,⟨some 18,.Wa (.t 5),none⟩,⟨some 19,.Ye sz (.t 17) (.t 18),none⟩,⟨some 20,.load true sz (.t 19),none⟩,⟨some 21,.Wa (.t 1),none⟩,⟨some 22,.Wa (.t 5),none⟩,⟨some 23,.Ye sz (.t 21) (.t 22),none⟩,⟨some 24,.load true sz (.t 23),none⟩,⟨some 25,.eqS true ks (.t 20) (.t 24),none⟩]) (.cond (.t 25) (.seq (.Wb false [⟨some 4,.Wa (.c (.bool false)),none⟩]) .ret) .skip))) (.Wb false [⟨some 15,.Wa (.t 5),none⟩,⟨some 16,.bin .add (.t 15) (.c (.int .i64 1)),none⟩,⟨some 5,.Wa (.t 16),none⟩])))))) (.seq (.Wb false [⟨some 4,.Wa (.c (.bool true)),none⟩]) .ret))),[.tmp (.t 4)]⟩
def Jw{P:Program}{f:FuncId}{fn:Func}(hf:P.funcs[f]?=some fn){sz:Nat}{ks:List Nat}(hc:cfn P fn=some (CV sz ks))(hk:gQ P f=true){α:Type}[DecidableEq α](enc:α->V)
 (he:∀a b,ll true ks (enc a) (enc b)=some (.bool (decide (a≠b))))(hl:∀U a,dr U true sz (.rp (enc a))=some (enc a))(xs ys:List α)(hx:xs.length<=1000000000000):
 aX P f [.sl sz (xs.map enc),.sl sz (ys.map enc)] (.bool (decide (xs=ys))):=λU=>by
 refine aG.oq hf hc hk (by simp[CV]) ?_;refine ay.mix 6 ?_;have n1:eM false (.sl sz (xs.map enc))=some (.int .i64 xs.length):=by simp[eM]
 have n2:eM false (.sl sz (ys.map enc))=some (.int .i64 ys.length):=by simp[eM]
 by_cases hlen:xs.length=ys.length
 .have q:((xs.length:Int)≠ys.length)=False:=H';apply sR;simp only[go_sem,seval,CV,n1,n2,q];refine ay.loop (λm st=>∃j,j<=xs.length/\m=xs.length-j/\xs.take j=ys.take j/\st.s 0=.sl sz (xs.map enc)/\st.s 1=.sl sz (ys.map enc)/\st.s 5=.int .i64 j/\st.U=U) xs.length ⟨0,by omega,rfl,rfl,rfl,rfl,rfl,rfl⟩ ?_;rintro m ⟨S,Z'⟩ ⟨j,hj,rfl,ht,t0,t1,t5,Su⟩;simp only at t0 t1 t5 Su;subst Su;refine ay.mix 6 ?_;by_cases u':j<xs.length
  .have q1:=qT u';have WJ:j<ys.length:=by omega
   have i1:∀U,bI U sz (.sl sz (xs.map enc)) (.int .i64 j)=some (.rp (enc xs[j])):=λU=>by simp[bI,u']
   have i2:∀U,bI U sz (.sl sz (ys.map enc)) (.int .i64 j)=some (.rp (enc ys[j])):=λU=>by simp[bI,WJ]
   have Xt:=he xs[j] ys[j];have tx:=Vn u';have ty:=Vn WJ;by_cases hq:xs[j]=ys[j]
   .rw[show decide (xs[j]≠ys[j])=false by simpa using hq]at Xt;apply sR;simp only[BB,seval,<-decide_not,bp,fW,aV,dP,dR,dI,dQ,eo,bH,jE,gm,bu,fO,dM,fL,cP,cC,bQ,iB,cm,cB,cd,Ty,jD,cW,bJ,dp,bS,cN,cD,jH,binBV,bG,dj,V.cells,V.stays,Tx.nothing,t0,t1,t5,n1,q1,i1,i2,hl,Xt];exact⟨ar,_,by omega,j+1,by omega,rfl,by rw[tx,ty,ht,hq],by simp⟩
   .rw[show decide (xs[j]≠ys[j])=true by simpa using hq]at Xt;apply sR;simp only[BB,seval,<-decide_not,bp,fW,aV,dP,dR,dI,dQ,eo,bH,jE,gm,bu,fO,dM,fL,cP,cC,bQ,iB,cm,cB,cd,Ty,jD,cW,bJ,dp,bS,cN,cD,jH,binBV,bG,dj,V.cells,V.stays,Tx.nothing,t0,t1,t5,n1,q1,i1,i2,hl,Xt];refine aD.same ?_;have:¬xs=ys:=λh=>hq (by simp only[h]);rw[TE this]
  .have q1:=qF u';apply sR;simp only[go_sem,seval,t0,t1,t5,n1,q1];refine aD.same ?_;rw[qq (by omega),qq (by omega)]at ht;rw[Tv ht]
 .have q:((xs.length:Int)≠ys.length)=True:=RX;apply sR;simp only[go_sem,seval,CV,n1,n2,q];refine aD.same ?_;rw[TE λh=>hlen (by rw[h])]
open Go.Proofs
def j1(b:Bk):cX b=.agg [aQ b.nodes,vI b.w,vI b.h,bL b.atoms,bj b.V9,vI b.R1,dv b.SJ]:=rfl
structure BkQ(b:Bk):Prop extends BkFull b where
 nn:b.nodes.length<=2000
 his:aX prog 104 [aQ b.nodes] (.bool (SA b.nodes))
def IT{b:Bk}(hb:BkQ b){s:R3}(h0:0<=s.atom)(Sh:b.atoms≠[]):∃k n:Nat,min s.atom ((b.atoms.length:Int)-1)=k/\∃hk:k<b.atoms.length,b.atoms[k].node=n/\n<b.nodes.length/\dK b s=qj b.nodes n b.h:=by
 have Ul:=Bi.2 Sh;obtain⟨k,hk⟩:∃k:Nat,min s.atom ((b.atoms.length:Int)-1)=k:=⟨(min s.atom ((b.atoms.length:Int)-1)).toNat,by omega⟩
 have UG:k<b.atoms.length:=by omega
 obtain⟨g1,g2⟩:=hb.nod _ (SU UG);obtain⟨n,hn⟩:∃n:Nat,b.atoms[k].node=n:=⟨b.atoms[k].node.toNat,by omega⟩
 refine⟨k,n,hk,UG,hn,by omega,?_⟩;have hm:gH b.nodes b.h=true:=by
  unfold gH;rw[hb.ZQ,Tv ⟨hb.h1,hb.h2⟩];rfl
 rw[dK,aK Sh,hk,bx UG,hn,wh,aI ⟨hm,by omega,by omega⟩,gM]
def C4(b:Bk)(hb:BkQ b)(s:R3)(h0:0<=s.atom):aX prog 21 [cX b,aN s] (kE (dK b s)):=λU=>by
 refine e21.q ?_;have hs:=aa.refl U;have TZ:=iV b.atoms;have Xd:=hb.len;refine mS 6 ?_;simp only[go_sem,seval,c21,j1,aN,ab,ai,af,ae,av,au,ax,az];refine aE hs λi2 Z2 s2 a2 f2 z2 hs=>?_;simp only[go_sem,seval,ab,ai,af,ae,av,au,ax,az];refine aE hs λi3 Z3 s3 a3 f3 z3 hs=>?_;obtain⟨n23,a2⟩:=RZ a2 f3 s3;simp only[go_sem,seval,ab,ai,af,ae,av,au,ax,az];refine aE hs λi4 Z4 s4 a4 f4 z4 hs=>?_;obtain⟨VZ,a2⟩:=RZ a2 f4 s4;obtain⟨YJ,a3⟩:=RZ a3 f4 s4;have hkc:∀x:Kp,(kE x).cells=[aZ x.TM,vI x.high,vI x.body]:=λ_=>rfl;have hks:∀x:Kp,(kE x).stays=true:=λ_=>rfl;by_cases Sh:b.atoms=[]
 .have q:((b.atoms.length:Int)=0)=True:=RX (by rw[Sh];rfl);simp only[go_sem,seval,a2,a3,a4,TZ,q,ad VZ,ad YJ,ad YJ,ab,ai,af,ae,av,au,ax,az];rw[show dK b s=⟨[],0,b.h⟩from aI Sh];exact⟨_,U,hs.aL z4,Wk.agg (vs':=[aZ [],vI 0,vI b.h]) ⟨Wk.bl 1,Wk.refl (hs.aL z4) _,Wk.refl (hs.aL z4) _,trivial⟩,rfl,rfl⟩
 .have Ul:=Bi.2 Sh;have q:((b.atoms.length:Int)=0)=False:=H';obtain⟨k,n,hk,UG,hn,T9,hr⟩:=IT hb h0 Sh;have hoc:=Fq b.nodes hb.qQ hb.ZQ hb.nn hb.his n T9 b.h hb.h1 hb.h2;rw[hr];have r1:Sn .i64 ((b.atoms.length:Int)-1):=ar;have SW:=λU=>fK (U:=U) UG;generalize b.atoms[k]=x at*;have Wf:bC x=.agg [vI x.kind,vI n,vI x.fr,vI x.to,vI x.x,vI x.y,vI x.w,vI x.h]:=by rw[<-hn];rfl
  simp only[go_sem,seval,a2,a3,a4,TZ,q,r1,eP,hk,SW,Wf,ad VZ,ad YJ,ad YJ,ab,ai,af,ae,av,au,ax,az];refine pJ rfl hoc ?_;generalize qj b.nodes n b.h=X at*;apply sG;simp only[go_sem,seval,a4,a2,a3,hkc,hks,ad VZ,ad YJ,ad YJ,ab,ai,af,ae,av,au,ax,az];exact aD.pure (hs.aL z4) rfl
open Go.Proofs
def aP.K6{K U:al}{e sz i:Nat}{v:V}{rows:List V}{o:Ob}(h:aP K U e sz v rows)(h1:∀n,v≠.own i 0 n):aP K (C' U i o) e sz v rows:=by
 rcases h with h|⟨a,rfl,ho,hk⟩
 .exact .inl h
 .exact .inr ⟨a,rfl,by rw[Vc.ad (λe=>h1 _ (by rw[e]))];exact ho,hk⟩
def aP.Hl{K U:al}{e sz i:Nat}{v:V}{rows:List V}(h:aP K U e sz v rows)(hi:U i=none):∀n,v≠.own i 0 n:=λn hv=>by
 subst hv;rcases h with⟨h,_⟩|⟨id,h,g2,_⟩
 .cases h
 .cases h;rw[hi]at g2;cases g2
def BG{b:Bk}(hb:BkOk b)(s:R3)(Sf:Int):-1152921504606846976<=iz b.atoms s Sf/\iz b.atoms s Sf<=1152921504606846976:=by
 unfold iz lP;split
 .split
  .rename_i h;have h1:=oQ hb (s.atom-1);obtain⟨n,hn⟩:∃n:Nat,s.atom=n:=⟨s.atom.toNat,by omega⟩
   have T9:n<b.atoms.length:=by omega
   have:=hb.tight _ (SU T9);rw[hn]at h1|-;rw[bx T9];omega
  .omega
 .omega
open Go.Proofs
def aP.eD{K U:al}{e sz i:Nat}{v:V}{rows:List V}{p:Ob}(h:aP K U e sz v rows)(hi:U i=some p)(Sh:p.elem≠e)(o:Ob):aP (Vc.C' K i o) U e sz v rows:=by
 rcases h with h|⟨a,rfl,ho,hk⟩
 .exact .inl h
 .refine .inr ⟨a,rfl,ho,?_⟩;rw[Vc.ad (λe'=>by subst e';rw[hi]at ho;cases ho;exact Sh rfl)];exact hk
def aa.eD{K U:al}{i:Nat}{o:Ob}(h:aa K U)(hi:U i=some o):aa (Vc.C' K i o) U:=λj p hj=>by
 by_cases e:j=i
 .subst e;rw[Vc.aA]at hj;cases hj;exact hi
 .rw[Vc.ad e]at hj;exact h _ _ hj
def Ix(vf:V){K U:al}(fs:List Si)(UI:aP K U 137 7 vf (fs.map br))(f:Si)(y:Int)(s:SK)(hl:fs.length<=1000000)(Se:∀f∈fs,f.ok)(hy:Tj y)(hh:Bq f.h)(hw:Bq f.w)(TJ:Tj s.a/\Tj s.b):
 aG prog 135 [vf,br f,vI y,aY s] U λr Z'=>aa U Z'/\aP U Z' 137 7 r ((nL fs f y s).map br):=by
 refine Qu.q ?_;have hs:=aa.refl U;refine mS 9 ?_;simp only[go_sem,seval,MC,br,aY];refine aE hs λi5 Z5 s5 a5 f5 z5 hs=>?_;simp only[go_sem,seval,a5];refine aE hs λi7 Z7 s7 a7 f7 z7 hs=>?_;obtain⟨n57,a5⟩:=RZ a5 f7 s7;simp only[go_sem,seval,a7,a5,ad n57,ad n57.symm];have Ut:=UI.mono hs;refine pS rfl (aX.tf (args':=[bj fs,br f,vI y,aY s]) ⟨Ut.ye.at,UM _,UM _,UM _,trivial⟩ (HW fs f y s hl Se hy hh hw TJ) rfl) ?_;simp only[go_sem,seval,a7,a5,ad n57,ad n57.symm];generalize Uj:C' Z7 i5 _=Y5;have b5:Y5 i5=some ⟨137,7,[br (iS fs f y s)]⟩:=by rw[<-Uj];exact aA
 have WH:aa U Y5:=by rw[<-Uj];exact hs.aL z5
 clear Uj;have Wr:br (iS fs f y s)=.agg [vI f.node,vI f.side,vI f.anchor,vI (me fs f y s),vI (j4 fs f y s),vI f.w,vI f.h]:=rfl;rw[Wr]at b5;have UF:(fs.map br).length=fs.length:=by simp
 have Vs:fs.length*57<=140737488355328:=by omega
 have SF:(fs.length+1)*57<=140737488355328:=by omega
 have WE:fs.map br++[V.agg [vI f.node,vI f.side,vI f.anchor,vI (me fs f y s),vI (j4 fs f y s),vI f.w,vI f.h]]=(nL fs f y s).map br:=by simp[nL,<-Wr]
 refine bM λi19 Z19 s19 a19 f19=>?_;have n519:=bf b5 f19;have b5':=s19 _ _ b5;have hd19:=Gw a19;have z19:=WH.none f19;have Yk:=UI.src (WH.trans s19);simp only[go_sem,seval,hd19,Yk,UF,Vs,lS,List.length_nil,kQ];refine qs λi21 Z21 s21 a21 f21=>?_;have hs21:aa U Z21:=((WH.trans s19).uL z19).trans s21;have b5'':=s21 _ _ ((eV n519).trans b5');have n21:U i21=none:=(WH.trans s19).none f21;simp only[go_sem,seval,b5''];refine bM λi23 Z23 s23 a23 f23=>?_;obtain⟨idA,Ta,Sd⟩:=(aP.new (K:=U) (n:=fs.length) (rows:=fs.map br) (by simp) a21 n21).dst s23;simp only[go_sem,seval,Ta,bR a23,UF,SF,WE];refine qs λi24 Z24 s24 a24 f24=>?_;have k24:=(Sd U (aa.refl U) Z23 (hs21.trans s23)).trans s24;have VZ:U i24=none:=(hs21.trans s23).none f24;simp only[go_sem,seval];exact Tf ⟨k24,aP.new (by simp[nL]) a24 VZ⟩
def ER(vf:V){U:al}(fs:List Si)(UI:vu U vf (bj fs))(ws:List Int)(space high:Int)(y:Int)(s:SK)(hl:fs.length<=1000000)(Se:∀f∈fs,f.ok)(B:Int)(hB:∀f∈fs,f.y+f.h<=B)(hB1:B<=1152921504606846976)(ZO:0<=y)(hy:y<=B)(hh:0<=high)(hh1:high<=1099511627776)
 (TJ:Tj s.a/\Tj s.b)(hw:WOk ws space):aG prog 133 [vf,aZ ws,vI space,vI high,vI y,aY s] U λr Z'=>aa U Z'/\aP U Z' 203 5 r ((cM fs ws space high s ws.length 0 y).map jo):=by
 refine Ri.q ?_;have hs:=aa.refl U;have hn:=dz ws;have Ux:=hw.len;refine mS 16 ?_;simp only[go_sem,seval,Oa,aY];refine aE hs λi11 Yq Vq Ts f11 YK hs=>?_;simp only[go_sem,seval,Ts];generalize hG:cM fs ws space high s ws.length 0 y=G;refine ay.loop (λm st=>∃(i k:Nat) (y':Int) (acc:List Ln),m=ws.length-i/\i<=ws.length/\ws.length-i<=k/\acc.length<=i/\G=acc++cM fs ws space high s k i y'/\0<=y'/\y'<=B+1099511627776*i/\aa U st.U/\aP U st.U 203 5 (st.s 13) (acc.map jo)/\
  st.U i11=some ⟨195,2,[.agg [vI s.a,vI s.b]]⟩/\st.s 0=vf/\st.s 1=aZ ws/\st.s 2=vI space/\st.s 3=vI high/\st.s 4=vI y'/\st.s 11=.ptr i11 0 0/\st.s 14=vI i) ws.length ?_ ?_
 .exact⟨0,ws.length,y,[],rfl,by omega,by omega,by simp,hG.symm,ZO,by omega,hs,aP.start,Ts,rfl,rfl,rfl,rfl,rfl,rfl,rfl⟩
 .rintro m ⟨S,J⟩ ⟨i,k,y',acc,rfl,hi,hk,Xd,hg,hy1,hy2,G',Sq,b11,t0,t1,t2,t3,t4,t11,t14⟩;simp only at G' Sq b11 t0 t1 t2 t3 t4 t11 t14;generalize Vv:S 13=v13 at Sq;refine ay.mix 16 ?_;by_cases u':i<ws.length
  .have q:=qT u';obtain⟨k,rfl⟩:∃k',k=k'+1:=⟨k-1,by omega⟩
   rw[cM,aI u']at hg;have VQ:=rU (space:=space) (width:=fN (bP fs (gu fs (ws.getD i 0) high s y') high s)) u';have hyr:=fF (w:=ws.getD i 0) (high:=high) (y:=y') (s:=s) hB;have hx:=Ir fs ws space high i y' s hl Se ⟨by omega,by omega⟩ ⟨by omega,by omega⟩ TJ hw u';obtain⟨x,Wf⟩:∃x,x=lV fs ws space high i y' s:=⟨_,rfl⟩
   have x1:∃j:Nat,x.to=j/\i<j/\j<=ws.length:=by rw[Wf];exact⟨_,rfl,VQ⟩
   have x2:y'<=x.y/\x.y<=max y' B:=by rw[Wf];exact hyr
   rw[<-Wf]at hg hx;clear Wf VQ hyr;obtain⟨j,hj,XY,U3⟩:=x1;rw[hj,gM]at hg;apply sR;simp only[go_sem,seval,t0,t1,t2,t3,t4,t11,t14,b11,hn,q];refine pR rfl (aX.tf (args':=[bj fs,aZ ws,vI space,vI high,vI i,vI y',aY s]) ⟨(UI.mono G').at,UM _,UM _,UM _,UM _,UM _,UM _,trivial⟩ hx rfl) ?_;have hc:=rX x;have Sg:=rL x;have Tr:(jo x).cells.length=5:=rfl;have hag:V.agg [vI x.fr,vI x.to,vI x.x,vI x.y,vI x.w]=jo x:=rfl;apply sR;simp only[go_sem,seval,t0,t1,t2,t3,t4,t11,t14,Vv,hc,Sg];refine aF λi15 Z15 XD Vg f15=>?_;simp only[go_sem,seval,Vg,t0,t1,t2,t3,t4,t11,t14,Vv,hc,Tr,Sg,hag];generalize TW:C' Z15 i15 _=Y15;have b15:Y15 i15=some ⟨203,5,[.agg [vI x.fr,vI x.to,vI x.x,vI x.y,vI x.w]]⟩:=by rw[<-TW];exact aA
   have Yt:aa J Y15:=by rw[<-TW];exact XD.aL f15
   clear TW;refine aF λi30 Z30 s30 a30 f30=>?_;obtain⟨idA,Ta,Sd,Us,Wn⟩:=Sq.nM (Yt.trans s30);have SF:(acc.length+1)*41<=140737488355328:=by omega
   have UF:(acc.map jo).length=acc.length:=by simp
   simp only[go_sem,seval,t0,t1,t2,t3,t4,t11,t14,Vv,Ta,bR a30,UF,SF];refine bn λi31 Z31 s31 a31 f31=>?_;have k31:=(Sd U (aa.refl _) Z30 (G'.trans (Yt.trans s30))).trans s31;have n31:U i31=none:=(G'.trans (Yt.trans s30)).none f31;have c15:Z31 i15=some ⟨203,5,[.agg [vI x.fr,vI x.to,vI x.x,vI x.y,vI x.w]]⟩:=s31 _ _ (by rw[Wn i15 f15];exact s30 _ _ b15);have c11:Z31 i11=some ⟨195,2,[.agg [vI s.a,vI s.b]]⟩:=s31 _ _ (by rw[Us i11 _ b11 (.inr (by simp))];exact s30 _ _ (Yt _ _ b11));have r1:Sn .i64 (x.y+high):=ar;simp only[go_sem,seval,t0,t1,t2,t3,t4,t11,t14,c15,hj,r1];refine⟨_,?_,j,k,x.y+high,acc++[x],rfl,U3,by omega,by simp;omega,by rw[hg];simp,by omega,by omega,k31,?_,c11,by simp[t0,t1,t2,t3,t11]⟩
   .omega
   .rw[fw];exact aP.new (by simp) a31 n31
  .have q:=qF u';apply sR;simp only[go_sem,seval,t0,t1,t2,t3,t4,t11,t14,Vv,b11,hn,q];have:cM fs ws space high s k i y'=[]:=by
    cases k with
    |zero=>rfl
    |succ k=>rw[cM,aK u']
   rw[this,kr]at hg;refine Tf ⟨G',?_⟩;rw[hg];exact Sq
def xX{l:List Nd}{rs:List Rm}(hD:ZP l rs){s:WS}{C a:Nat}(h:fQ s C)(ha:a<l.length)(TJ:1<=R7 l a)(TU:a+(R7 l a).toNat<=l.length)(h4:bE l (a+1) (a+(R7 l a).toNat)=true):
 fQ (pZ l rs s a) (C+SP l a (a+(R7 l a).toNat)):=by
 have Sw:ZN (Sr l a):=by rw[gS ha];exact fA hD.ZQ ha
 have ZC:SP l a (a+(R7 l a).toNat)=4+(Sr l a).words.length+SP l (a+1) (a+(R7 l a).toNat):=nC (by omega) (by omega);unfold pZ;rw[ZC];split
 .exact(jF (gT hD _ (a+1) (a+(R7 l a).toNat) _ _ (SD _) (by omega) (by omega) h4 (fb h Sw.st)) Sw.st).more (by omega)
 .split
  .exact(kA h Sw a).more (by omega)
  .split
   .exact(kC h Sw a).more (by omega)
   .rename_i g1 g2 g3;exact(jG hD h ha Sw (by have:=Sw.kind;omega)).more (by omega)
open Go.Proofs
def aP.BY{K U:al}{e e' sz UP:Nat}{v u:V}{rows rows':List V}(h:aP K U e sz v rows)(h':aP K U e' UP u rows')(Sh:e≠e'):fT v u:=by
 rintro a n b m rfl rfl rfl;rcases h with⟨h,_⟩|⟨i,h,h2,_⟩
 .cases h
 .rcases h' with⟨h',_⟩|⟨j,h',h2',_⟩
  .cases h'
  .cases h;cases h';rw[h2]at h2';cases h2';exact Sh rfl
def vP(a:Nat)(h:Int):∀(L:List Ln) (s:WS),(fp a h s L).g'=s.g'
 |[],_=>rfl
 |y::L,s=>by
  have:=vP a h L (s.put (fv a h y));simpa[fp,WS.put]using this
def Qg(l:List Nd)(w:Int)(a C:Nat):Prop:=∀(s:WS) (va vf:V) (K U:al),aa K U->aP K U 66 8 va (s.atoms.map bC)->aP K U 137 7 vf (s.g'.map br)->fQ s C->
 aG prog 106 [.agg [va,vf,vI s.R1,vI s.P'.y,vI s.P'.m],aQ l,vI a,vI w] U λr Z'=>∃va' vf',r=.agg [va',vf',vI (pZ l (cG l w) s a).R1,vI (pZ l (cG l w) s a).P'.y,vI (pZ l (cG l w) s a).P'.m]/\
  aa K Z'/\aP K Z' 66 8 va' ((pZ l (cG l w) s a).atoms.map bC)/\aP K Z' 137 7 vf' ((pZ l (cG l w) s a).g'.map br)
def Lv(l:List Nd)(w:Int)(hb:SA l=true)(hn:l.length<=2000)(hw1:1<=w)(Vp:w<=1099511627776)(hwl:∀n∈l,n.words.length<=10000):∀(m a C:Nat),l.length-a<m->a<l.length->1<=R7 l a->a+(R7 l a).toNat<=l.length->
 bE l (a+1) (a+(R7 l a).toNat)=true->C+SP l a (a+(R7 l a).toNat)<=50000->Qg l w a C:=by
 intro m
 induction m with
 |zero=>intro a C h;omega
 |succ m ih=>?_
 intro a C hm ha TJ TU h4 hC s va vf K U hK VE UI hI;have hD:=nU hb hn hw1 Vp;obtain⟨ca,sa⟩:=VE.vc;obtain⟨cf,sf⟩:=UI.vc;have hB:=hI.bd;have YW:=hB.m1;have Yw:=hB.m0;have ZO:=hB.y0;have hyB:=hB.yB;have hfl:=hI.fl;have Xd:=hI.SI;have Sw:=fA hb ha;have R0:=iM l ha;have Th:=gS ha;have hszn:=ix ha;have hwn:=hwl _ (SU ha);have hRc:=FP l hb hn w hw1 Vp (a+1) a (by omega) ha;have VM:=Cf hb ha (w:=w);have hSp:=hD.span ha;have Yu:=AN hb hn hw1 Vp ha;rw[VM]at hSp;generalize lz l w a=R at*;obtain⟨k1,k2,k3,k4⟩:=Yu;have r1:Sn .i64 (R.x+R.w):=ar;have r2:Sn .i64 (s.P'.y+s.P'.m):=ar;refine Qn.q ?_;have hs:=aa.refl U;have X8:∀n:Nd,V.agg (Nd.cells n)=ie n:=λ_=>rfl;have Sz:pZ l (cG l w) s a=if l[a].kind=1 then(cZ l (cG l w) (a+(R7 l a).toNat-(a+1)) (a+1) (a+(R7 l a).toNat) (s.enter l[a].st)).leave l[a].st
  else if l[a].kind=2 then s.text (cG l w) a l[a]else if l[a].kind=3 then WS.mono l (cG l w) s a l[a]else s.float (cG l w) a l[a]:=by unfold pZ;rw[Th]
 generalize pZ l (cG l w) s a=Z at*;generalize hx:l[a]=x at*;refine mS 22 ?_;simp only[go_sem,seval,OP,ca,cf,sa,sf,ab,ai];refine aE hs λi4 Z4 s4 a4 f4 z4 hs=>?_;simp only[go_sem,seval,ca,cf,sa,sf,ab,ai];refine aE hs λi8 Z8 s8 a8 f8 z8 hs=>?_;obtain⟨VP,a4⟩:=RZ a4 f8 s8;simp only[go_sem,seval,ca,cf,sa,sf,ab,ai,R0,Nd.cells,ag,ak];refine aE hs λi9 Y9 s9 a9 f9 z9 hs=>?_;obtain⟨Xe,a4⟩:=RZ a4 f9 s9;obtain⟨n89,a8⟩:=RZ a8 f9 s9;simp only[go_sem,seval,a9,a4,ca,cf,sa,sf,ab,ai,R0,ag,ak];generalize Tb:C' _ i9 _=Z9;replace a9:=Ti Tb;replace a4:=So Tb Xe a4;replace a8:=So Tb n89 a8;replace hs:=Te Tb hs z9;refine pS rfl (hRc _) ?_;simp only[go_sem,seval,j0,ca,cf,sa,sf,ab,ai,ag,ak];refine aE hs λi10 XV TN Sb f10 UH hs=>?_;obtain⟨Vw,a4⟩:=RZ a4 f10 TN;obtain⟨Wm,a8⟩:=RZ a8 f10 TN;obtain⟨Vi,a9⟩:=RZ a9 f10 TN;simp only[go_sem,seval,Sb,a9,a4,r1,r2,ca,cf,sa,sf,ab,ai,ag,ak];generalize Ss:C' _ i10 _=Y10;replace Sb:=Ti Ss;replace a4:=So Ss Vw a4;replace a8:=So Ss Wm a8;replace a9:=So Ss Vi a9;replace hs:=Te Ss hs UH;refine aE hs λi11 Yq Vq Ts f11 YK hs=>?_;obtain⟨Yz,a4⟩:=RZ a4 f11 Vq;obtain⟨n811,a8⟩:=RZ a8 f11 Vq;obtain⟨XK,a9⟩:=RZ a9 f11 Vq;obtain⟨Ug,Sb⟩:=RZ Sb f11 Vq;simp only[go_sem,seval,Ts,Sb,a9,a4,r1,r2,ca,cf,sa,sf,ab,ai,ag,ak];generalize TD:C' _ i11 _=Y11;replace Ts:=Ti TD;replace a4:=So TD Yz a4;replace a8:=So TD n811 a8;replace a9:=So TD XK a9;replace Sb:=So TD Ug Sb;replace hs:=Te TD hs YK;have YE:=VE.mono hs;have WR:=UI.mono hs;replace z4:=hK.none z4;replace z8:=hK.none z8;replace z9:=hK.none z9;replace UH:=hK.none UH;replace YK:=hK.none YK;replace hs:=hK.trans hs;clear VE UI hK;rcases Sw.kind with hk|hk|hk|hk
 .rw[aI hk]at Sz;simp only[go_sem,seval,Ts,Sb,a9,a4,r1,r2,hk,ca,cf,sa,sf,ab,ai,ag,ak];have q3:((a:Int)+x.size)=((a+(R7 l a).toNat:Nat):Int):=by rw[<-hszn];omega
  have q2:((a:Int)+1)=((a+1:Nat):Int):=by omega
  have Sg:=Sw.st;have g1:=Sg.top;have g2:=Sg.R5;have g3:=Sg.Sk;have g4:=Sg.O';have hI1:=fb hI Sw.st;have hcst:SP l a (a+(R7 l a).toNat)=4+(Sr l a).words.length+SP l (a+1) (a+(R7 l a).toNat):=nC (by omega) (by omega);obtain⟨s1,UO⟩:∃z,z=s.enter x.st:=⟨_,rfl⟩
  rw[<-UO]at hI1 Sz;unfold WS.enter at UO;simp only at UO;have r5:=rI a;have r6:Sn .i64 ((a+(R7 l a).toNat:Nat):Int):=ar;refine pR rfl (aX.tf (args':=[bj s.g',vI x.st.clear]) ⟨WR.ye.at,UM _,trivial⟩ (EI s.g' x.st.clear (by omega) (hB.flo (by omega))) rfl) ?_;cases XJ:(cF (gk x.st.clear) s.g').2
  .rw[XJ]at UO;simp only[jb,↓reduceIte]at UO;apply sR;simp only[go_sem,seval,ca,cf,sa,sf,ab,ai,ag,ak,a4,a9];obtain⟨p,hp⟩:∃p:Pn,p=s.P':=⟨_,rfl⟩
   have Vl:s1={ s with P':=er p x.st.top x.st.R5 }:=by rw[UO,hp]
   obtain⟨hp1,hp2,hp3,hp4⟩:0<=p.y/\0<=p.m/\p.m<=1099511627776/\p.y+p.m<=1099511627776*(C:Int):=by rw[hp];exact⟨ZO,Yw,YW,hyB⟩
   rw[<-hp]at a4|-;clear hp;generalize Y11=Y5 at*;have hva5:=YE;have hvf5:=WR;clear YE WR;have Yj:=zz p x.st.top x.st.R5 ⟨by omega,by omega⟩ ⟨by omega,by omega⟩ ⟨by omega,by omega⟩ ⟨by omega,by omega⟩;rw[dx]at Yj;refine pS rfl (Yj _) ?_;simp only[go_sem,seval,a4,a9,dx,r5,ca,cf,sa,sf,ab,ai,ag,ak];generalize Wq:C' Y5 i4 _=Y6;have hva6:aP K Y6 66 8 va (s1.atoms.map bC):=by rw[<-Wq,Vl];exact hva5.cT a4 (by simp)
   have hvf6:aP K Y6 137 7 vf (s1.g'.map br):=by rw[<-Wq,Vl];exact hvf5.cT a4 (by simp)
   have b4:Y6 i4=some ⟨160,5,[.agg [va,vf,vI s1.R1,vI s1.P'.y,vI s1.P'.m]]⟩:=by rw[<-Wq,Vl];exact aA
   replace a8:=So Wq VP.symm a8;replace a9:=So Wq Xe.symm a9;replace hs:=Te Wq hs z4;clear Wq a4 hva5 hvf5;refine ay.loop (λq st=>∃(b:Nat) (s':WS) (va vf:V),q=a+(R7 l a).toNat-b/\a+1<=b/\b<=a+(R7 l a).toNat/\bE l b (a+(R7 l a).toNat)=true/\
    cZ l (cG l w) (a+(R7 l a).toNat-(a+1)) (a+1) (a+(R7 l a).toNat) s1=cZ l (cG l w) (a+(R7 l a).toNat-b) b (a+(R7 l a).toNat) s'/\fQ s' (C+2+SP l (a+1) b)/\
    aa K st.U/\aP K st.U 66 8 va (s'.atoms.map bC)/\aP K st.U 137 7 vf (s'.g'.map br)/\
    st.U i4=some ⟨160,5,[.agg [va,vf,vI s'.R1,vI s'.P'.y,vI s'.P'.m]]⟩/\st.U i8=some ⟨160,5,[.agg [.bl,.bl,vI 0,vI 0,vI 0]]⟩/\st.U i9=some ⟨59,20,[.agg (Nd.cells x)]⟩/\
    st.s 1=aQ l/\st.s 2=vI a/\st.s 3=vI w/\st.s 4=.ptr i4 0 0/\st.s 8=.ptr i8 0 0/\st.s 9=.ptr i9 0 0/\st.s 15=vI b) (a+(R7 l a).toNat-(a+1)) ?_ ?_
   .exact⟨a+1,s1,va,vf,rfl,SD _,by omega,h4,rfl,by rw[tt];exact hI1,hs,hva6,hvf6,b4,a8,a9,rfl,rfl,rfl,rfl,rfl,rfl,by rw[<-q2];rfl⟩
   .clear hs hva6 hvf6 b4 a8 a9 ca cf sa sf;rintro q ⟨S,J⟩ ⟨b,s',va,vf,rfl,VT,WU,YO,heq,U',hs,VE,UI,a4,a8,a9,t1,t2,t3,t4,t8,t9,t15⟩;simp only at hs VE UI a4 a8 a9 t1 t2 t3 t4 t8 t9 t15;obtain⟨ca,sa⟩:=VE.vc;obtain⟨cf,sf⟩:=UI.vc;rw[Nd.cells]at a9;refine ay.mix 22 ?_;by_cases u':b<a+(R7 l a).toNat
    .have u1:((b:Int)<((a+(R7 l a).toNat:Nat):Int))=True:=RX;obtain⟨h1,h2⟩:=cc TU YO (SD b) u';obtain⟨h3,h4'⟩:=cQ TU YO u';have Tu:b<l.length:=by omega
     have YV:SP l (a+1) (a+(R7 l a).toNat)=SP l (a+1) b+SP l b (a+(R7 l a).toNat):=eY VT WU TU;have ZC:SP l b (a+(R7 l a).toNat)=SP l b (b+(R7 l b).toNat)+SP l (b+(R7 l b).toNat) (a+(R7 l a).toNat):=eY (by omega) (by omega) TU;have hc4:SP l (a+1) (b+(R7 l b).toNat)=SP l (a+1) b+SP l b (b+(R7 l b).toNat):=eY VT (by omega) (by omega);have hszb:=ix Tu;have hidb:=iM l Tu;have q4:((b:Int)+l[b].size)=((b+(R7 l b).toNat:Nat):Int):=by rw[hszb];omega
     have r7:Sn .i64 ((b:Int)+l[b].size):=ar;have hK0:aa K (C' (C' (C' K i4 ⟨160,5,[.agg [va,vf,vI s'.R1,vI s'.P'.y,vI s'.P'.m]]⟩) i8 ⟨160,5,[.agg [.bl,.bl,vI 0,vI 0,vI 0]]⟩) i9 ⟨59,20,[.agg (Nd.cells x)]⟩):=(((aa.refl K).aL z4).aL z8).aL z9;have UK:=ih b (C+2+SP l (a+1) b) (by omega) Tu h2 (by omega) h4' (by omega) s' va vf _ J (((hs.eD a4).eD a8).eD a9) (((VE.eD a4 (by simp) _).eD a8 (by simp) _).eD a9 (by simp) _) (((UI.eD a4 (by simp) _).eD a8 (by simp) _).eD a9 (by simp) _) U';have hI2:=xX hD U' Tu h2 (by omega) h4';have Vo:=vS (rs:=cG l w) TU YO u' s';generalize pZ l (cG l w) s' b=s2 at*;rw[Nd.cells]at hK0;apply sR;simp only[go_sem,seval,t1,t2,t3,t4,t8,t9,t15,a4,a9,q3,r6,u1,ca,cf,sa,sf,ab,ai,ag,ak];refine TX rfl UK ?_;rintro r Z6 ⟨va2,vf2,rfl,Yb,V5,V6⟩;obtain⟨ca2,sa2⟩:=V5.vc;obtain⟨cf2,sf2⟩:=V6.vc;have c9:=Yb _ _ aA;have c8:=Yb _ _ ((ad n89).trans aA);have c4:=Yb _ _ ((ad Xe).trans ((ad VP).trans aA));replace V5:=V5.nk hK0;replace V6:=V6.nk hK0;replace Yb:=hK0.trans Yb;apply sR;simp only[go_sem,seval,t1,t2,t3,t4,t8,t9,t15,c4,c8,c9,ca2,sa2,cf2,sf2,hidb,Nd.cells,r7,ad VP.symm,ad Xe.symm,ca,cf,sa,sf,ab,ai,ag,ak];refine⟨_,?_,b+(R7 l b).toNat,s2,va2,vf2,rfl,by omega,by omega,h3,by rw[heq,Vo],by rw[hc4,<-Nat.add_assoc];exact hI2,Yb.aL z4,V5.cT c4 (by simp),V6.cT c4 (by simp),rfl,by simp[vI,q4]⟩;omega
    .have u1:((b:Int)<((a+(R7 l a).toNat:Nat):Int))=False:=H';obtain rfl:b=a+(R7 l a).toNat:=by omega
     rw[uk]at heq;rw[heq]at Sz;have e1:=U'.bd.m1;have e2:=U'.bd.m0;have e3:=U'.bd.y0;have e4:=U'.bd.yB;have Zu:=Bm s'.P' x.st.Sk x.st.O' ⟨by omega,by omega⟩ ⟨by omega,by omega⟩ ⟨by omega,by omega⟩ ⟨by omega,by omega⟩;rw[dx]at Zu;apply sR;simp only[go_sem,seval,t1,t2,t3,t4,t8,t9,t15,a4,a8,a9,q3,r6,u1,ca,cf,sa,sf,ab,ai,ag,ak];refine pS rfl (Zu _) ?_;simp only[go_sem,seval,t1,t2,t3,t4,t8,t9,t15,a4,a8,a9,hk,dx,ad VP.symm,ad Xe.symm,ad Xe.symm,ad VP,ca,cf,sa,sf,ab,ai,ag,ak];have c8:∀o,C' J i4 o i8=_:=λo=>(ad VP.symm).trans a8;refine Tf ⟨va,vf,by rw[Sz];rfl,(hs.aL z4).aL z8,?_,?_⟩
     .rw[Sz];exact(VE.cT a4 (by simp)).cT (c8 _) (by simp)
     .rw[Sz];exact(UI.cT a4 (by simp)).cT (c8 _) (by simp)
  .rw[XJ]at UO;simp only[↓reduceIte]at UO;obtain⟨f,hfm,e1,_⟩:=kT XJ;have e2:(cF (gk x.st.clear) s.g').1=f.y+f.h:=e1;have hff:=hB.fl f hfm;have hff1:=hff.yB;have hff2:=hff.y0;have hff3:=hff.h0;generalize (cF (gk x.st.clear) s.g').1=low at*;have SV:=Gz s.P' low ⟨by omega,by omega⟩ ⟨by omega,by omega⟩;rw[dx]at SV;apply sR;simp only[go_sem,seval,ca,cf,sa,sf,ab,ai,ag,ak,a4,a9];refine pR rfl (SV _) ?_;have hcp:0<=(fk s.P' low).y/\0<=(fk s.P' low).m/\(fk s.P' low).m<=1099511627776/\(fk s.P' low).y+(fk s.P' low).m<=1099511627776*(C:Int):=by
    unfold fk;split
    .simp only;omega
    .omega
   apply sR;simp only[go_sem,seval,a4,a9,dx,ca,cf,sa,sf,ab,ai,ag,ak];generalize fk s.P' low=p at*;have Vl:s1={ s with P':=er p x.st.top x.st.R5 }:=UO;obtain⟨hp1,hp2,hp3,hp4⟩:=hcp;generalize Uj:C' Y11 i4 _=Y5;have hva5:aP K Y5 66 8 va (s.atoms.map bC):=by rw[<-Uj];exact YE.cT a4 (by simp)
   have hvf5:aP K Y5 137 7 vf (s.g'.map br):=by rw[<-Uj];exact WR.cT a4 (by simp)
   replace a4:=Ti Uj;replace a8:=So Uj VP.symm a8;replace a9:=So Uj Xe.symm a9;replace hs:=Te Uj hs z4;clear Uj YE WR;simp only[go_sem,seval,a4,a9,dx,ca,cf,sa,sf,ab,ai,ag,ak];have Yj:=zz p x.st.top x.st.R5 ⟨by omega,by omega⟩ ⟨by omega,by omega⟩ ⟨by omega,by omega⟩ ⟨by omega,by omega⟩;rw[dx]at Yj;refine pS rfl (Yj _) ?_;simp only[go_sem,seval,a4,a9,dx,r5,ca,cf,sa,sf,ab,ai,ag,ak];generalize Wq:C' Y5 i4 _=Y6;have hva6:aP K Y6 66 8 va (s1.atoms.map bC):=by rw[<-Wq,Vl];exact hva5.cT a4 (by simp)
   have hvf6:aP K Y6 137 7 vf (s1.g'.map br):=by rw[<-Wq,Vl];exact hvf5.cT a4 (by simp)
   have b4:Y6 i4=some ⟨160,5,[.agg [va,vf,vI s1.R1,vI s1.P'.y,vI s1.P'.m]]⟩:=by rw[<-Wq,Vl];exact aA
   replace a8:=So Wq VP.symm a8;replace a9:=So Wq Xe.symm a9;replace hs:=Te Wq hs z4;clear Wq a4 hva5 hvf5;refine ay.loop (λq st=>∃(b:Nat) (s':WS) (va vf:V),q=a+(R7 l a).toNat-b/\a+1<=b/\b<=a+(R7 l a).toNat/\bE l b (a+(R7 l a).toNat)=true/\
    cZ l (cG l w) (a+(R7 l a).toNat-(a+1)) (a+1) (a+(R7 l a).toNat) s1=cZ l (cG l w) (a+(R7 l a).toNat-b) b (a+(R7 l a).toNat) s'/\fQ s' (C+2+SP l (a+1) b)/\
    aa K st.U/\aP K st.U 66 8 va (s'.atoms.map bC)/\aP K st.U 137 7 vf (s'.g'.map br)/\
    st.U i4=some ⟨160,5,[.agg [va,vf,vI s'.R1,vI s'.P'.y,vI s'.P'.m]]⟩/\st.U i8=some ⟨160,5,[.agg [.bl,.bl,vI 0,vI 0,vI 0]]⟩/\st.U i9=some ⟨59,20,[.agg (Nd.cells x)]⟩/\
    st.s 1=aQ l/\st.s 2=vI a/\st.s 3=vI w/\st.s 4=.ptr i4 0 0/\st.s 8=.ptr i8 0 0/\st.s 9=.ptr i9 0 0/\st.s 15=vI b) (a+(R7 l a).toNat-(a+1)) ?_ ?_
   .exact⟨a+1,s1,va,vf,rfl,SD _,by omega,h4,rfl,by rw[tt];exact hI1,hs,hva6,hvf6,b4,a8,a9,rfl,rfl,rfl,rfl,rfl,rfl,by rw[<-q2];rfl⟩
   .clear hs hva6 hvf6 b4 a8 a9 ca cf sa sf;rintro q ⟨S,J⟩ ⟨b,s',va,vf,rfl,VT,WU,YO,heq,U',hs,VE,UI,a4,a8,a9,t1,t2,t3,t4,t8,t9,t15⟩;simp only at hs VE UI a4 a8 a9 t1 t2 t3 t4 t8 t9 t15;obtain⟨ca,sa⟩:=VE.vc;obtain⟨cf,sf⟩:=UI.vc;rw[Nd.cells]at a9;refine ay.mix 22 ?_;by_cases u':b<a+(R7 l a).toNat
    .have u1:((b:Int)<((a+(R7 l a).toNat:Nat):Int))=True:=RX;obtain⟨h1,h2⟩:=cc TU YO (SD b) u';obtain⟨h3,h4'⟩:=cQ TU YO u';have Tu:b<l.length:=by omega
     have YV:SP l (a+1) (a+(R7 l a).toNat)=SP l (a+1) b+SP l b (a+(R7 l a).toNat):=eY VT WU TU;have ZC:SP l b (a+(R7 l a).toNat)=SP l b (b+(R7 l b).toNat)+SP l (b+(R7 l b).toNat) (a+(R7 l a).toNat):=eY (by omega) (by omega) TU;have hc4:SP l (a+1) (b+(R7 l b).toNat)=SP l (a+1) b+SP l b (b+(R7 l b).toNat):=eY VT (by omega) (by omega);have hszb:=ix Tu;have hidb:=iM l Tu;have q4:((b:Int)+l[b].size)=((b+(R7 l b).toNat:Nat):Int):=by rw[hszb];omega
     have r7:Sn .i64 ((b:Int)+l[b].size):=ar;have hK0:aa K (C' (C' (C' K i4 ⟨160,5,[.agg [va,vf,vI s'.R1,vI s'.P'.y,vI s'.P'.m]]⟩) i8 ⟨160,5,[.agg [.bl,.bl,vI 0,vI 0,vI 0]]⟩) i9 ⟨59,20,[.agg (Nd.cells x)]⟩):=(((aa.refl K).aL z4).aL z8).aL z9;have UK:=ih b (C+2+SP l (a+1) b) (by omega) Tu h2 (by omega) h4' (by omega) s' va vf _ J (((hs.eD a4).eD a8).eD a9) (((VE.eD a4 (by simp) _).eD a8 (by simp) _).eD a9 (by simp) _) (((UI.eD a4 (by simp) _).eD a8 (by simp) _).eD a9 (by simp) _) U';have hI2:=xX hD U' Tu h2 (by omega) h4';have Vo:=vS (rs:=cG l w) TU YO u' s';generalize pZ l (cG l w) s' b=s2 at*;rw[Nd.cells]at hK0;apply sR;simp only[go_sem,seval,t1,t2,t3,t4,t8,t9,t15,a4,a9,q3,r6,u1,ca,cf,sa,sf,ab,ai,ag,ak];refine TX rfl UK ?_;rintro r Z6 ⟨va2,vf2,rfl,Yb,V5,V6⟩;obtain⟨ca2,sa2⟩:=V5.vc;obtain⟨cf2,sf2⟩:=V6.vc;have c9:=Yb _ _ aA;have c8:=Yb _ _ ((ad n89).trans aA);have c4:=Yb _ _ ((ad Xe).trans ((ad VP).trans aA));replace V5:=V5.nk hK0;replace V6:=V6.nk hK0;replace Yb:=hK0.trans Yb;apply sR;simp only[go_sem,seval,t1,t2,t3,t4,t8,t9,t15,c4,c8,c9,ca2,sa2,cf2,sf2,hidb,Nd.cells,r7,ad VP.symm,ad Xe.symm,ca,cf,sa,sf,ab,ai,ag,ak];refine⟨_,?_,b+(R7 l b).toNat,s2,va2,vf2,rfl,by omega,by omega,h3,by rw[heq,Vo],by rw[hc4,<-Nat.add_assoc];exact hI2,Yb.aL z4,V5.cT c4 (by simp),V6.cT c4 (by simp),rfl,by simp[vI,q4]⟩;omega
    .have u1:((b:Int)<((a+(R7 l a).toNat:Nat):Int))=False:=H';obtain rfl:b=a+(R7 l a).toNat:=by omega
     rw[uk]at heq;rw[heq]at Sz;have e1:=U'.bd.m1;have e2:=U'.bd.m0;have e3:=U'.bd.y0;have e4:=U'.bd.yB;have Zu:=Bm s'.P' x.st.Sk x.st.O' ⟨by omega,by omega⟩ ⟨by omega,by omega⟩ ⟨by omega,by omega⟩ ⟨by omega,by omega⟩;rw[dx]at Zu;apply sR;simp only[go_sem,seval,t1,t2,t3,t4,t8,t9,t15,a4,a8,a9,q3,r6,u1,ca,cf,sa,sf,ab,ai,ag,ak];refine pS rfl (Zu _) ?_;simp only[go_sem,seval,t1,t2,t3,t4,t8,t9,t15,a4,a8,a9,hk,dx,ad VP.symm,ad Xe.symm,ad Xe.symm,ad VP,ca,cf,sa,sf,ab,ai,ag,ak];have c8:∀o,C' J i4 o i8=_:=λo=>(ad VP.symm).trans a8;refine Tf ⟨va,vf,by rw[Sz];rfl,(hs.aL z4).aL z8,?_,?_⟩
     .rw[Sz];exact(VE.cT a4 (by simp)).cT (c8 _) (by simp)
     .rw[Sz];exact(UI.cT a4 (by simp)).cT (c8 _) (by simp)
 .rw[aK (by omega),aI hk]at Sz;simp only[go_sem,seval,Ts,Sb,a9,a4,r1,r2,hk,ca,cf,sa,sf,ab,ai,ag,ak];have hlb:=Sw.line;have hwok:WOk x.words x.space:=⟨by omega,λz hz=>by have:=Sw.words z hz;omega,Sw.space.1,Sw.space.2⟩
  unfold WS.text at Sz;rw[VM]at Sz;have hLl:=jJ s.g' x.words x.space x.line ⟨R.x,R.x+R.w⟩ x.words.length 0 (s.P'.y+s.P'.m);have hLb:=jr (ws:=x.words) (space:=x.space) (s:=⟨R.x,R.x+R.w⟩) (λf hf=>(hB.fl f hf).yB) hlb.1 x.words.length 0 (s.P'.y+s.P'.m);have htc:=(ER vf s.g' WR.ye x.words x.space x.line (s.P'.y+s.P'.m) ⟨R.x,R.x+R.w⟩ (by omega) (hB.flo (by omega)) (1099511627776*(C:Int)) (λf hf=>(hB.fl f hf).yB) (by omega) (by omega) (by omega) hlb.1 hlb.2 ⟨⟨by simp only;omega,by simp only;omega⟩,⟨by simp only;omega,by simp only;omega⟩⟩ hwok).x9 λ_ _ h=>h.2.nG (v0:=kd (cM s.g' x.words x.space x.line ⟨R.x,R.x+R.w⟩ x.words.length 0 (s.P'.y+s.P'.m))) h.1 rfl;generalize cM s.g' x.words x.space x.line ⟨R.x,R.x+R.w⟩ x.words.length 0 (s.P'.y+s.P'.m)=L at*;have hnL:eM false (kd L)=some (.int .i64 L.length):=by simp[kd,eM]
  have hmul:x.line*(x.words.length:Int)<=1099511627776*10000:=Int.mul_le_mul hlb.2 (by omega) (by omega) (by omega);rw[aY]at htc;simp only at htc;refine pS rfl htc ?_;simp only[go_sem,seval,ca,cf,sa,sf,ab,ai,ag,ak];have hZ:Z=fp a x.line s L:=Sz;clear Sz;refine ay.loop (λm st=>∃(j:Nat) (va':V),j<=L.length/\m=L.length-j/\aa K st.U/\aP K st.U 66 8 va' ((fp a x.line s (L.take j)).atoms.map bC)/\aP K st.U 137 7 vf (s.g'.map br)/\
   st.U i4=some ⟨160,5,[.agg [va',vf,vI (fp a x.line s (L.take j)).R1,vI (fp a x.line s (L.take j)).P'.y,vI (fp a x.line s (L.take j)).P'.m]]⟩/\
   st.U i8=some ⟨160,5,[.agg [.bl,.bl,vI 0,vI 0,vI 0]]⟩/\st.U i9=some ⟨59,20,[.agg (Nd.cells x)]⟩/\st.s 2=vI a/\st.s 4=.ptr i4 0 0/\st.s 8=.ptr i8 0 0/\st.s 9=.ptr i9 0 0/\st.s 16=kd L/\st.s 17=vI j) L.length ?_ ?_
  .exact⟨0,va,by omega,rfl,hs,YE,WR,a4,a8,a9,rfl,rfl,rfl,rfl,rfl,rfl⟩
  .clear hs YE WR a4 a8 a9 ca sa;rintro m ⟨S,J⟩ ⟨j,va,hj,rfl,hs,VE,UI,a4,a8,a9,k2',k4',k8',k9',k16,k17⟩;simp only at hs VE UI a4 a8 a9 k2' k4' k8' k9' k16 k17;obtain⟨ca,sa⟩:=VE.vc;refine ay.mix 22 ?_;rw[Nd.cells]at a9;by_cases u':j<L.length
   .have u1:=qT u';have SW:∀U,bI U 5 (kd L) (.int .i64 j)=some (.rp (jo L[j])):=λU=>by simp[kd,bI,u']
    have SB:=u9 (a:=a) (h:=x.line) (s:=s) u';have hbd:=hLb L[j] (SU u');have Wr:=oe a x.line (L.take j) s;rw[mf,Nat.min_eq_left (by omega)]at Wr;have hpf:(fp a x.line s (L.take (j+1))).g'=s.g'/\(fp a x.line s (L.take (j+1))).R1=(fp a x.line s (L.take j)).R1:=by rw[SB];exact⟨vP _ _ _ _,rfl⟩
    generalize L[j]=y at*;have hen':jo y=.agg [vI y.fr,vI y.to,vI y.x,vI y.y,vI y.w]:=rfl;generalize fp a x.line s (L.take j)=T at*;have r3:Sn .i64 (y.y+x.line):=ar;have r4:=rI j;have TY:=hs;apply sR;simp only[go_sem,seval,k2',k4',k8',k9',k16,k17,a4,a9,hnL,u1,SW,hen',ca,cf,sa,sf,ab,ai,ag,ak];refine aE hs λi18 Z18 s18 WV f18 z18 hs=>?_;obtain⟨n418,a4⟩:=RZ a4 f18 s18;obtain⟨n818,a8⟩:=RZ a8 f18 s18;obtain⟨n918,a9⟩:=RZ a9 f18 s18;have Zy:=VE.mono s18;have hf18:=UI.mono s18;simp only[go_sem,seval,WV,k2',k4',k8',k9',k16,k17,a4,a9,ad n418,ad n818,ad n918,ca,cf,sa,sf,ab,ai,ag,ak];generalize VI:C' Z18 i18 _=Y18;replace Zy:aP K Y18 66 8 va (T.atoms.map bC):=by rw[<-VI];exact Zy.cT WV (by simp)
    replace hf18:aP K Y18 137 7 vf (s.g'.map br):=by rw[<-VI];exact hf18.cT WV (by simp)
    replace WV:=Ti VI;replace a4:=So VI n418 a4;replace a8:=So VI n818 a8;replace a9:=So VI n918 a9;replace hs:=Te VI hs z18;refine aF λi85 Z85 ZU a85 f85=>?_;obtain⟨idA,Ta,hdv,Us,Sd⟩:=Zy.AH ZU;have hap:=Zy.BY hf18 (by simp);have UF:(T.atoms.map bC).length=T.atoms.length:=by simp
    have SF:(T.atoms.length+1)*65<=140737488355328:=by omega
    simp only[go_sem,seval,Ta,bR a85,UF,SF,k2',k4',k8',k9',k16,k17];refine bn λi86 Z86 s86 a86 f86=>?_;have hf86:=((hf18.mono ZU).Im (idA:=idA) λj hj n hv=>hap _ _ _ _ (hdv j hj) hv rfl).mono s86;have n86:=(hs.trans ZU).none f86;have ha86:aP K Z86 66 8 (.own i86 0 (T.atoms.length+1)) ((T.atoms++[fv a x.line y]).map bC):=aP.new (by simp) (by rw[a86,fw];rfl) n86;replace a4:=s86 _ _ ((Us i4 (Zy.ke a4 (by simp)) _).trans (ZU _ _ a4));replace a8:=s86 _ _ ((Us i8 (Zy.ke a8 (by simp)) _).trans (ZU _ _ a8));replace a9:=s86 _ _ ((Us i9 (Zy.ke a9 (by simp)) _).trans (ZU _ _ a9));replace WV:=s86 _ _ ((Us i18 (Zy.ke WV (by simp)) _).trans (ZU _ _ WV));replace hs:=(Sd K (aa.refl K) Z85 (hs.trans ZU)).trans s86;simp only[go_sem,seval,k2',k4',k8',k9',k16,k17,a4,a8,a9,WV,r3,r4,ad VP.symm,ad Xe.symm,ad n418.symm,ca,cf,sa,sf,ab,ai,ag,ak];refine⟨_,by omega,j+1,.own i86 0 (T.atoms.length+1),by omega,rfl,hs.aL z4,?_,hf86.cT a4 (by simp),?_,rfl,by simp[vI]⟩
    .rw[SB];exact ha86.cT a4 (by simp)
    .rw[SB];rfl
   .have u1:=qF u';obtain rfl:j=L.length:=by omega
    rw[iC]at VE a4;apply sR;simp only[go_sem,seval,k2',k4',k8',k9',k16,k17,a4,a8,a9,hk,hnL,u1,ad VP.symm,ad Xe.symm,ad Xe.symm,ad VP,ca,cf,sa,sf,ab,ai,ag,ak];exact Tf ⟨va,vf,by rw[hZ],hs.aL z8,by rw[hZ];exact VE.cT a8 (by simp),by rw[hZ,vP];exact UI.cT a8 (by simp)⟩
 .rw[aK (by omega),aK (by omega),aI hk]at Sz;simp only[go_sem,seval,Ts,Sb,a9,a4,r1,r2,hk,ca,cf,sa,sf,ab,ai,ag,ak];have hyr:=fF (w:=x.w) (high:=x.h) (y:=s.P'.y+s.P'.m) (s:=eR (cG l w) a) (λf hf=>(hB.fl f hf).yB);have hws:=Sw.w;have hhs:=Sw.h;unfold WS.mono at Sz;rw[VM]at Sz hyr;replace Sz:Z=s.put ⟨2,a,0,0,(bP s.g' (gu s.g' x.w x.h ⟨R.x,R.x+R.w⟩ (s.P'.y+s.P'.m)) x.h ⟨R.x,R.x+R.w⟩).a,gu s.g' x.w x.h ⟨R.x,R.x+R.w⟩ (s.P'.y+s.P'.m),x.w,x.h⟩:=Sz;have hrc:=Dr s.g' x.w x.h ⟨R.x,R.x+R.w⟩ (by omega) (hB.flo (by omega)) ⟨by omega,by omega⟩ ⟨⟨by simp only;omega,by simp only;omega⟩,⟨by simp only;omega,by simp only;omega⟩⟩ (Xb s.g' (s.P'.y+s.P'.m)+1) (s.P'.y+s.P'.m) (by omega) ⟨by omega,by omega⟩;generalize U7:gu s.g' x.w x.h ⟨R.x,R.x+R.w⟩ (s.P'.y+s.P'.m)=SI at*;generalize bP s.g' SI x.h ⟨R.x,R.x+R.w⟩=bd at*;rw[aY]at hrc;simp only at hrc;refine pS rfl (aX.tf (args':=[bj s.g',vI x.w,vI x.h,vI (s.P'.y+s.P'.m),.agg [vI R.x,vI (R.x+R.w)]]) ⟨WR.ye.at,UM _,UM _,UM _,UM _,trivial⟩ hrc rfl) ?_;simp only[go_sem,seval,aY,ca,cf,sa,sf,ab,ai,ag,ak];refine aE hs λi19 Z19 s19 a19 f19 z19 hs=>?_;obtain⟨n419,a4⟩:=RZ a4 f19 s19;obtain⟨n819,a8⟩:=RZ a8 f19 s19;obtain⟨n919,a9⟩:=RZ a9 f19 s19;have ha19:=YE.mono s19;have hf19:=WR.mono s19;have r3:Sn .i64 (SI+x.h):=ar;simp only[go_sem,seval,a19,a9,a4,hk,ca,cf,sa,sf,ab,ai,ag,ak];generalize hq19:C' Z19 i19 _=Y19;replace ha19:aP K Y19 66 8 va (s.atoms.map bC):=by rw[<-hq19];exact ha19.cT a19 (by simp)
  replace hf19:aP K Y19 137 7 vf (s.g'.map br):=by rw[<-hq19];exact hf19.cT a19 (by simp)
  replace a19:=Ti hq19;replace a4:=So hq19 n419 a4;replace a8:=So hq19 n819 a8;replace a9:=So hq19 n919 a9;replace hs:=Te hq19 hs z19;simp only[go_sem,seval,a19,a9,a4,hk,ca,cf,sa,sf,ab,ai,ag,ak];refine aF λi85 Z85 ZU a85 f85=>?_;obtain⟨idA,Ta,hdv,Us,Sd⟩:=ha19.AH ZU;have hap:=ha19.BY hf19 (by simp);have UF:(s.atoms.map bC).length=s.atoms.length:=by simp
  have SF:(s.atoms.length+1)*65<=140737488355328:=by omega
  simp only[go_sem,seval,Ta,bR a85,UF,SF];refine bn λi86 Z86 s86 a86 f86=>?_;have hf86:=((hf19.mono ZU).Im (idA:=idA) λj hj n hv=>hap _ _ _ _ (hdv j hj) hv rfl).mono s86;have n86:=(hs.trans ZU).none f86;have ha86:aP K Z86 66 8 (.own i86 0 (s.atoms.length+1)) ((s.atoms++[(⟨2,a,0,0,bd.a,SI,x.w,x.h⟩:Tk)]).map bC):=aP.new (by simp) (by rw[a86,fw];rfl) n86;replace a4:=s86 _ _ ((Us i4 (ha19.ke a4 (by simp)) _).trans (ZU _ _ a4));replace a8:=s86 _ _ ((Us i8 (ha19.ke a8 (by simp)) _).trans (ZU _ _ a8));replace a9:=s86 _ _ ((Us i9 (ha19.ke a9 (by simp)) _).trans (ZU _ _ a9));replace hs:=(Sd K (aa.refl K) Z85 (hs.trans ZU)).trans s86;simp only[go_sem,seval,a4,a8,a9,hk,r3,ad VP.symm,ad Xe.symm,ad Xe.symm,ad VP,ca,cf,sa,sf,ab,ai,ag,ak];have c8:∀o,C' Z86 i4 o i8=_:=λo=>(ad VP.symm).trans a8;refine Tf ⟨.own i86 0 (s.atoms.length+1),vf,by rw[Sz];rfl,(hs.aL z4).aL z8,?_,?_⟩
  .rw[Sz];exact(ha86.cT a4 (by simp)).cT (c8 _) (by simp)
  .rw[Sz];exact(hf86.cT a4 (by simp)).cT (c8 _) (by simp)
 .rw[aK (by omega),aK (by omega),aK (by omega)]at Sz;have TZ:eM false va=some (.int .i64 s.atoms.length):=by rw[YE.len];simp
  simp only[go_sem,seval,Ts,Sb,a9,a4,r1,r2,hk,TZ,ca,cf,sa,sf,ab,ai,ag,ak];refine aE hs λi21 Z21 s21 a21 f21 z21 hs=>?_;obtain⟨n421,a4⟩:=RZ a4 f21 s21;obtain⟨n821,a8⟩:=RZ a8 f21 s21;obtain⟨n921,a9⟩:=RZ a9 f21 s21;obtain⟨n1121,Ts⟩:=RZ Ts f21 s21;have ha21:=YE.mono s21;have hf21:=WR.mono s21;have nf21:=WR.Hl f21;simp only[go_sem,seval,a21,Ts,a9,a4,hk,TZ,ad n421,ad n821,ad n921,ad n1121,ca,cf,sa,sf,ab,ai,ag,ak];generalize hq21:C' Z21 i21 _=Y21;replace ha21:aP K Y21 66 8 va (s.atoms.map bC):=by rw[<-hq21];exact ha21.cT a21 (by simp)
  replace hf21:aP K Y21 137 7 vf (s.g'.map br):=by rw[<-hq21];exact hf21.K6 nf21
  replace a21:=Ti hq21;replace a4:=So hq21 n421 a4;replace a8:=So hq21 n821 a8;replace a9:=So hq21 n921 a9;replace hs:=Te hq21 hs z21;have hws:=Sw.w;have hhs:=Sw.h;have hput:=Ix vf s.g' hf21 ⟨a,x.side,s.atoms.length,0,0,x.w,x.h⟩ (s.P'.y+s.P'.m) ⟨R.x,R.x+R.w⟩ (by omega) (hB.flo (by omega)) ⟨by omega,by omega⟩ (show Bq x.h from⟨by omega,by omega⟩) (show Bq x.w from⟨by omega,by omega⟩) ⟨⟨by simp only;omega,by simp only;omega⟩,⟨by simp only;omega,by simp only;omega⟩⟩;rw[aY,br]at hput;unfold WS.float at Sz;rw[VM]at Sz;simp only at hput;generalize nL s.g' ⟨a,x.side,s.atoms.length,0,0,x.w,x.h⟩ (s.P'.y+s.P'.m) ⟨R.x,R.x+R.w⟩=PF at*;refine TX rfl hput ?_;rintro vr Z6 ⟨s6,hvr⟩;replace hvr:=hvr.nk hs;replace hs:=hs.trans s6;replace a4:=s6 _ _ a4;replace a8:=s6 _ _ a8;have ha6:=ha21.mono s6;obtain⟨cr,sr⟩:=hvr.vc;apply sR;simp only[go_sem,seval,a4,a8,cr,sr,ad VP.symm,ad Xe.symm,ad Xe.symm,ad VP,ca,cf,sa,sf,ab,ai,ag,ak];have c8:∀o,C' Z6 i4 o i8=_:=λo=>(ad VP.symm).trans a8;refine Tf ⟨va,vr,by rw[Sz],(hs.aL z4).aL z8,?_,?_⟩
  .rw[Sz];exact(ha6.cT a4 (by simp)).cT (c8 _) (by simp)
  .rw[Sz];exact(hvr.cT a4 (by simp)).cT (c8 _) (by simp)
open Go.Proofs
def Ek{α:Type}{l:List α}{j:Nat}{x:α}(h:l[j]?=some x):l.set j x=l:=by
 obtain⟨hj,rfl⟩:=rz.1 h;simp
def Es(n:Nat)(l:List Si):fM n l.length l=l.map (mn n):=by
 unfold fM;rw[iC,uY,kr]
def Ii(l:List Nd)(hl:dN l)(w:Int)(hw1:1<=w)(Vp:w<=1099511627776)(hck:eC l=0):aX prog 71 [aQ l,vI w] (.Sa [GQ (cS l w),vI 0]):=λU=>by
 obtain⟨hb,hn,hwo,XR⟩:=mo hck;have SV:=Dk l hl;rw[hck]at SV;have hD:=nU hb hn hw1 Vp;have hr:bE l 0 l.length=true:=by simp only[SA,Ba]at hb;exact hb.2
 have Ux:=bT l;have Sz:=Lv l w hb hn hw1 Vp (λx hx=>by have:=hwo x hx;omega);have hgl:cS l w=⟨(cZ l (cG l w) (l.length-0) 0 l.length ⟨[],[],0,⟨0,0⟩⟩).fin.atoms,(cZ l (cG l w) (l.length-0) 0 l.length ⟨[],[],0,⟨0,0⟩⟩).fin.g',(cZ l (cG l w) (l.length-0) 0 l.length ⟨[],[],0,⟨0,0⟩⟩).fin.R1⟩:=rfl;have hI0:fQ ⟨[],[],0,⟨0,0⟩⟩ 0:=⟨⟨by simp,by simp,by simp,by simp,by simp⟩,by simp,by simp⟩
 have U9:=rC (rs:=cG l w) hb (l.length-0) 0 l.length ⟨[],[],0,⟨0,0⟩⟩ (by omega) (SD _) hr (λf hf=>by simp at hf);have han:=uM (l:=l) (rs:=cG l w) (l.length-0) 0 l.length ⟨[],[],0,⟨0,0⟩⟩ (λf hf=>by simp at hf);rw[hgl];refine e71.q ?_;have hs:=aa.refl U;have q1:(w<1)=False:=H';have q2:(w>1099511627776)=False:=H';have q3:((0:Int)≠0)=False:=H' (λh=>h rfl);refine mS 11 ?_;simp only[go_sem,seval,c71,q1,q2];refine aE hs λi4 Z4 s4 a4 f4 z4 hs=>?_;simp only[go_sem,seval,q1,q2];refine pS rfl (SV _) ?_;simp only[go_sem,seval,q3];refine aE hs λi7 Z7 s7 a7 f7 z7 hs=>?_;obtain⟨WQ,a4⟩:=RZ a4 f7 s7;simp only[go_sem,seval,a7,ad WQ,ad WQ];generalize Wo:C' _ i7 _=Y7;replace a7:=Ti Wo;replace a4:=So Wo WQ a4;replace hs:=Te Wo hs z7;obtain⟨Tm,hFIN⟩:∃z,z=cZ l (cG l w) (l.length-0) 0 l.length ⟨[],[],0,⟨0,0⟩⟩:=⟨_,rfl⟩
 rw[<-hFIN]at U9 han|-;refine ay.loop (λq st=>∃(b:Nat) (s':WS) (va vf:V),q=l.length-b/\b<=l.length/\bE l b l.length=true/\Tm=cZ l (cG l w) (l.length-b) b l.length s'/\fQ s' (SP l 0 b)/\
  aa U st.U/\aP U st.U 66 8 va (s'.atoms.map bC)/\aP U st.U 137 7 vf (s'.g'.map br)/\
  st.U i7=some ⟨160,5,[.agg [va,vf,vI s'.R1,vI s'.P'.y,vI s'.P'.m]]⟩/\st.U i4=some ⟨28,3,[.agg [.bl,.bl,vI 0]]⟩/\
  st.s 0=aQ l/\st.s 1=vI w/\st.s 4=.ptr i4 0 0/\st.s 7=.ptr i7 0 0/\st.s 8=vI b) l.length ?_ ?_
 .exact⟨0,⟨[],[],0,⟨0,0⟩⟩,.bl,.bl,by omega,by omega,hr,hFIN,by rw[tt];exact hI0,hs,aP.start,aP.start,a7,a4,rfl,rfl,rfl,rfl,rfl⟩
 .clear hs a4 a7 hFIN hI0;rintro q ⟨S,J⟩ ⟨b,s',va,vf,rfl,WU,YO,heq,U',hs,VE,UI,a7,a4,t0,t1,t4,t7,t8⟩;simp only at hs VE UI a7 a4 t0 t1 t4 t7 t8;obtain⟨ca,sa⟩:=VE.vc;obtain⟨cf,sf⟩:=UI.vc;refine ay.mix 11 ?_;by_cases u':b<l.length
  .have u1:=qT u';obtain⟨h1,h2⟩:=cc (SD _) YO (SD b) u';obtain⟨h3,h4'⟩:=cQ (SD _) YO u';have YV:SP l 0 l.length=SP l 0 b+SP l b l.length:=eY (by omega) (by omega) (SD _);have ZC:SP l b l.length=SP l b (b+(R7 l b).toNat)+SP l (b+(R7 l b).toNat) l.length:=eY (by omega) (by omega) (SD _);have hc4:SP l 0 (b+(R7 l b).toNat)=SP l 0 b+SP l b (b+(R7 l b).toNat):=eY (by omega) (by omega) (by omega);have hszb:=ix u';have hidb:=iM l u';have q4:((b:Int)+l[b].size)=((b+(R7 l b).toNat:Nat):Int):=by rw[hszb];omega
   have r7:Sn .i64 ((b:Int)+l[b].size):=ar;have z4':=z4;have hK0:aa U (C' (C' U i7 ⟨160,5,[.agg [va,vf,vI s'.R1,vI s'.P'.y,vI s'.P'.m]]⟩) i4 ⟨28,3,[.agg [.bl,.bl,vI 0]]⟩):=((aa.refl U).aL z7).aL z4;have UK:=Sz (l.length-b+1) b (SP l 0 b) (by omega) u' h2 (by omega) h4' (by omega) s' va vf _ J ((hs.eD a7).eD a4) ((VE.eD a7 (by simp) _).eD a4 (by simp) _) ((UI.eD a7 (by simp) _).eD a4 (by simp) _) U';have hI2:=xX hD U' u' h2 (by omega) h4';have Vo:=vS (rs:=cG l w) (SD _) YO u' s';generalize pZ l (cG l w) s' b=s2 at*;apply sR;simp only[go_sem,seval,t0,t1,t4,t7,t8,a7,Ux,u1,ab,ai,ag,ak];refine TX rfl UK ?_;rintro r Z6 ⟨va2,vf2,rfl,Yb,V5,V6⟩;obtain⟨ca2,sa2⟩:=V5.vc;obtain⟨cf2,sf2⟩:=V6.vc;have c4:=Yb _ _ aA;have c7:=Yb _ _ ((ad WQ.symm).trans aA);replace V5:=V5.nk hK0;replace V6:=V6.nk hK0;replace Yb:=hK0.trans Yb;apply sR;simp only[go_sem,seval,t0,t1,t4,t7,t8,c4,c7,ca2,sa2,cf2,sf2,hidb,Nd.cells,r7,ad WQ,ad WQ,ab,ai,ag,ak];refine⟨_,?_,b+(R7 l b).toNat,s2,va2,vf2,rfl,by omega,h3,by rw[heq,Vo],by rw[hc4];exact hI2,Yb.aL z7,V5.cT c7 (by simp),V6.cT c7 (by simp),by simp[vI,q4]⟩;omega
  .have u1:=qF u';obtain rfl:b=l.length:=by omega
   rw[uk]at heq;subst heq;have e1:=U'.bd.m1;have e2:=U'.bd.m0;have e3:=U'.bd.y0;have e4:=U'.bd.yB;have r5:Sn .i64 (Tm.P'.y+Tm.P'.m):=ar;have Xd:=U'.SI;have hfl:=U'.fl;have hflo:=U'.bd.fl;have SO:Tm.fin={ Tm with R1:=vy Tm,g':=Tm.g'.map (mn Tm.atoms.length) }:=rfl;rw[Ic U9]at SO;rw[SO];clear SO;simp only;apply sR;simp only[go_sem,seval,t0,t1,t4,t7,t8,a7,Ux,u1,ca,sa,cf,sf,r5,ab,ai,ag,ak];refine ay.loop (λq st=>∃(j:Nat),j<=Tm.g'.length/\q=Tm.g'.length-j/\aa U st.U/\aP U st.U 66 8 va (Tm.atoms.map bC)/\aP U st.U 137 7 vf ((fM Tm.atoms.length j Tm.g').map br)/\
    st.U i7=some ⟨160,5,[.agg [va,vf,vI (hiF (Tm.P'.y+Tm.P'.m) (Tm.g'.take j)),vI Tm.P'.y,vI Tm.P'.m]]⟩/\st.U i4=some ⟨28,3,[.agg [.bl,.bl,vI 0]]⟩/\
    st.s 4=.ptr i4 0 0/\st.s 7=.ptr i7 0 0/\st.s 9=vI j) Tm.g'.length ?_ ?_
   .exact⟨0,by omega,rfl,hs.aL z7,VE.cT a7 (by simp),by simpa[fM]using UI.cT a7 (by simp),aA,(ad WQ).trans a4,t4,t7,rfl⟩
   .clear hs VE UI a7 a4 t0 t1 t4 t7 t8;rintro q ⟨S,J⟩ ⟨j,hj,rfl,hs,VE,UI,a7,a4,t4,t7,t9⟩;simp only at hs VE UI a7 a4 t4 t7 t9;refine ay.mix 11 ?_;have VB:=kB Tm.atoms.length j Tm.g';have Yy:eM false vf=some (.int .i64 Tm.g'.length):=by rw[UI.len,dO,VB]
    have TZ:eM false va=some (.int .i64 Tm.atoms.length):=by rw[VE.len];simp
    by_cases u':j<Tm.g'.length
    .have u2:=qT u';have hvf0:=UI;obtain⟨id,hve,h2,h3⟩:∃id,vf=.own id 0 Tm.g'.length/\J id=some ⟨137,7,(fM Tm.atoms.length j Tm.g').map br⟩/\U id=none:=by
      rcases UI with⟨_,h0⟩|⟨id,h1,h2,h3⟩
      .exfalso;have:=congrArg List.length h0;rw[dO,VB]at this;simp only[List.length_nil]at this;omega
      .rw[dO,VB]at h1;exact⟨id,h1,h2,h3⟩
     have Ua:=rE (n:=Tm.atoms.length) u';have We:=qK (n:=Tm.atoms.length) u';have V3:((fM Tm.atoms.length j Tm.g').map br)[j]?=some (br Tm.g'[j]):=by rw[tg,Ua];rfl
     have XQ:((fM Tm.atoms.length j Tm.g').map br).length=Tm.g'.length:=by rw[dO,VB]
     have L':∀X':al,X' id=some ⟨137,7,(fM Tm.atoms.length j Tm.g').map br⟩->bI X' 7 vf (.int .i64 j)=some (.ptr id j 0):=λX' h=>by rw[hve,<-XQ];exact kj h (by rw[XQ];exact u')
     have Xy:=hflo _ (SU u');have hf0:=han _ (SU u');have haf:=Fp (n:=Tm.atoms.length) hf0;have hht:=GU (h:=Tm.P'.y+Tm.P'.m) u';generalize Tm.g'[j]=f at*;have X8:br f=.agg [vI f.node,vI f.side,vI f.anchor,vI f.x,vI f.y,vI f.w,vI f.h]:=rfl;have hfy:=Xy.y0;have hfb:=Xy.yB;have hfh:=Xy.h0;have r6:Sn .i64 (f.y+f.h):=ar;have r7:Sn .i64 ((Tm.atoms.length:Int)-1):=ar;have r8:=rI j;obtain⟨ca,sa⟩:=VE.vc;obtain⟨cf,sf⟩:=hvf0.vc;rw[X8]at V3;generalize hRW:(fM Tm.atoms.length j Tm.g').map br=RW at*;have hsZ:=hs;replace hs:=aa.refl J;have a7_:=a7;have a4_:=a4;apply sR;simp only[go_sem,seval,t4,t7,t9,a7,Yy,u2,h2,L' J h2,V3,ca,cf,ab,ai,ag,ak];refine aE hs λi10 XV TN Sb f10 UH hs=>?_;obtain⟨Vw,a4⟩:=RZ a4 f10 TN;obtain⟨TB,a7⟩:=RZ a7 f10 TN;have nid:id≠i10:=bf h2 f10;have h2':=TN _ _ h2;have ni7:id≠i7:=λe=>by
      rw[e,(show J i7=_ from a7_)]at h2;cases h2
     have nid4:id≠i4:=λe=>by rw[e,a4_]at h2;cases h2
     have hva10:=VE.mono TN;by_cases Ve:f.anchor>=Tm.atoms.length
     .have u3:(f.anchor>=Tm.atoms.length)=True:=RX Ve;rw[aI Ve]at haf;simp only[go_sem,seval,Sb,a7,t4,t7,t9,ca,cf,r6,r7,r8,cj,Yy,TZ,u3,ad Vw,ad TB,ad TB.symm,ad WQ,ab,ai,ag,ak];generalize hqX:C' (C' _ i10 _) i7 _=ZX;have b7:ZX i7=some ⟨160,5,[.agg [va,vf,vI (max (hiF (Tm.P'.y+Tm.P'.m) (Tm.g'.take j)) (f.y+f.h)),vI Tm.P'.y,vI Tm.P'.m]]⟩:=by rw[<-hqX];exact aA
      have b4:=((congrFun hqX i4).symm.trans ((ad WQ).trans (ad Vw))).trans a4;have bD:=((congrFun hqX id).symm.trans ((ad ni7).trans (ad nid))).trans h2';have hvaX:aP U ZX 66 8 va (Tm.atoms.map bC):=by rw[<-hqX];exact(hva10.cT Sb (by simp)).cT ((ad TB).trans a7) (by simp)
      have hsX:aa U ZX:=by rw[<-hqX];exact((hsZ.trans TN).aL (hsZ.none UH)).aL z7
      clear hqX;have hap:=hvaX.BY (aP.new (K:=U) (n:=RW.length) rfl bD h3) (by simp);simp only[go_sem,seval,b7,t4,t7,t9,ca,cf,r7,r8,Yy,TZ,L' ZX bD,bD,V3,ab,ai,ag,ak];refine⟨_,by omega,j+1,by omega,rfl,hsX.aL h3,hvaX.K6 λn hv=>hap _ _ _ _ hv rfl rfl,.inr ⟨id,by rw[hve,dO,kB],by rw[aA,<-We,List.map_set,hRW,haf];rfl,h3⟩,by rw[hht];exact(ad (Ne.symm ni7)).trans b7,(ad (Ne.symm nid4)).trans b4,by simp[vI]⟩
     .have u3:(f.anchor>=Tm.atoms.length)=False:=H' Ve;rw[aK Ve]at haf;rw[haf,Ek Ua]at We;simp only[go_sem,seval,Sb,a7,t4,t7,t9,ca,cf,r6,r7,r8,cj,Yy,TZ,u3,ad Vw,ad TB,ad TB.symm,ad WQ,ab,ai,ag,ak];have hvf10:=((hvf0.mono TN).K6 (o:=⟨137,7,[.agg [vI f.node,vI f.side,vI f.anchor,vI f.x,vI f.y,vI f.w,vI f.h]]⟩) (hvf0.Hl f10)).cT (i:=i7) (o:=⟨160,5,[.agg [va,vf,vI (max (hiF (Tm.P'.y+Tm.P'.m) (Tm.g'.take j)) (f.y+f.h)),vI Tm.P'.y,vI Tm.P'.m]]⟩) ((ad TB).trans a7) (by simp);refine⟨_,by omega,j+1,by omega,rfl,((hsZ.trans TN).aL (hsZ.none UH)).aL z7,(hva10.cT Sb (by simp)).cT ((ad TB).trans a7) (by simp),by rw[<-We,hRW];exact hvf10,by rw[hht],a4,by simp[vI]⟩
    .have u2:=qF u';obtain rfl:j=Tm.g'.length:=by omega
     rw[Es]at UI;rw[iC]at a7;obtain⟨ca,sa⟩:=VE.vc;obtain⟨cf,sf⟩:=UI.vc;apply sR;simp only[go_sem,seval,t4,t7,t9,a7,a4,Yy,u2,ca,sa,cf,sf,ad WQ,ad WQ,ad WQ.symm,ab,ai,ag,ak];have Sg:∀o,aa U (C' J i4 o):=λo=>hs.aL z4;exact⟨_,U,Sg _,Wk.Sa (vs':=[GQ ⟨Tm.atoms,Tm.g'.map (mn Tm.atoms.length),hiF (Tm.P'.y+Tm.P'.m) Tm.g'⟩,vI 0]) ⟨Wk.agg (vs':=[bL Tm.atoms,bj (Tm.g'.map (mn Tm.atoms.length)),vI (hiF (Tm.P'.y+Tm.P'.m) Tm.g')]) ⟨(VE.cT a4 (by simp)).wk (aa.refl U) (Sg _),(UI.cT a4 (by simp)).wk (aa.refl U) (Sg _),Wk.refl (Sg _) _,trivial⟩,Wk.refl (Sg _) _,trivial⟩,rfl,rfl⟩
open Go.Proofs
def E6{L H:Int}(h1:1<=L)(h2:L<=1099511627776)(h3:H<=1099511627776):H>mulR L 32768↔L<=33554432/\H>L*32768:=by
 have e:dJ 32768=32768:=by decide
 have e2:(1099511627776:Int).tdiv (max 32768 (-32768))=33554432:=by decide
 have e3:(-1099511627776:Int).tdiv (max 32768 (-32768))=-33554432:=by decide
 have e4:dJ L=L:=by unfold dJ;omega
 unfold mulR;rw[e,e2,e3,e4];by_cases hb:L>33554432
 .rw[aI ⟨by decide,.inl hb⟩,aI (by rw[TE (by omega)];decide)];omega
 .rw[aK (λh=>by have:=h.2;omega)];omega
def Jy{l:List Nd}(h:eC l=0):(gy l).1.M'<=1099511627776:=by
 have hb:=(mo h).1;unfold eC at h;rw[aI hb]at h;split at h
 .cases h
 .omega
def IY{l:List Nd}(hb:SA l=true)(hn:l.length<=2000){w:Int}(h1:1<=w)(h2:w<=1099511627776):∀x∈Zw l w,(0<=x/\x<l.length)/\WX l x.toNat≠1:=λx hx=>by
 obtain⟨a,ha,rfl⟩:=iE.1 hx;obtain⟨i,e1,e2,e3⟩:=AJ hb hn h1 h2 a ha;rw[e1];refine⟨by omega,?_⟩;rw[gM];have:WX l i=(Sr l i).kind:=by rw[gS e2];simp[WX,e2]
 rw[this];omega
def B3(l:List Nd)(w h:Int):V:=if fm l w h=0 then cX (bK l w h)else .agg [.bl,vI 0,vI 0,.bl,.bl,vI 0,.bl]
def Ld(l:List Nd)(hl:dN l)(w h:Int):aX prog 50 [aQ l,vI w,vI h] (.Sa [B3 l w h,vI (fm l w h)]):=λU=>by
 refine e50.q ?_;have hs:=aa.refl U;have SV:=Dk l hl;have bad:∀n:Int,fm l w h=n->n≠0->(B3 l w h=.agg [.bl,vI 0,vI 0,.bl,.bl,vI 0,.bl]/\fm l w h=n):=λn hn h0=>⟨by rw[B3,aK (by rw[hn];exact h0)],hn⟩
 refine ay.mix 15 ?_;by_cases hw:mX w
 .have mw:=tB w;rw[show decide (mX w)=true from Tv hw]at mw;apply sR;simp only[go_sem,seval,c50];refine aE hs λi6 Z6 s6 a6 f6 z6 hs=>?_;simp only[go_sem,seval,a6];refine pS rfl (mw _) ?_;simp only[go_sem,seval];by_cases hh:mX h
  .have mh:=tB h;rw[show decide (mX h)=true from Tv hh]at mh;refine pS rfl (mh _) ?_;simp only[go_sem,seval];refine pR rfl (SV _) ?_;by_cases hc:eC l=0
   .obtain⟨hb,hn,hwo,XR⟩:=mo hc;have YD:=Au l hl;have Zu:=Hp l hl hb hn (KF l hl) h hh.1 hh.2;have hfc:=Ii l hl w hw.1 hw.2 hc;have hG:=uw hb hn hw.1 hw.2;have Xd:=hG.len;have hbc:=HU l hb hn (Zw l w) (by rw[Zw,dO];omega) (IY hb hn hw.1 hw.2);have hE:fm l w h=if(gy l).1.M'>mulR (de l h) 32768 then 2 else 0:=by rw[fm,aK (λh=>h ⟨hw,hh⟩),aK (λh=>h hc)]
    have hm:=CK hb hh.1 hh.2;have hL:de l h=fU l h l.length:=by rw[de,aI hm]
    have hp:1<=de l h:=by rw[hL];exact rb hh.1 _
    have hq:de l h<=h:=by
     rw[hL];clear hL hp hE Zu;have:∀n,fU l h n<=h:=by
      intro n
      induction n with
      |zero=>exact Int.le_refl _
      |succ n ih=>rw[fU];split<;>omega
     exact this _
    have hh2:=hh.2;have hmb:=E6 hp (by omega) (Jy hc);rw[hc];have qz:((0:Int)≠0)=False:=H' (λh=>h rfl);generalize hSM:(gy l).1=SM at*;generalize hS2:(gy l).2=S2 at*;apply sR;simp only[go_sem,seval,qz];refine pS rfl (YD _) ?_;simp only[go_sem,seval,Sm.cells];refine aE hs λi9 Y9 s9 a9 f9 z9 hs=>?_;obtain⟨Yp,a6⟩:=RZ a6 f9 s9;simp only[go_sem,seval,a9,a6,ad Yp,ad Yp];generalize Tb:C' _ i9 _=Z9;replace a9:=Ti Tb;replace a6:=So Tb Yp a6;replace hs:=Te Tb hs z9;refine pR rfl (Zu _) ?_;have r1:Sn .i64 (de l h*32768):=by
     by_cases hx:de l h<=33554432
     .exact ar
     .exact ar
    by_cases XM:SM.M'>mulR (de l h) 32768
    .obtain⟨g1,g2⟩:=hmb.1 XM;have q1:(de l h<=33554432)=True:=RX g1;have q2:(SM.M'>de l h*32768)=True:=RX g2;obtain⟨e1,e2⟩:=bad 2 (by rw[hE,aI XM]) (by decide);rw[e1,e2];generalize de l h=LE at*;apply sR;simp only[go_sem,seval,a9,a6,q1,q2,r1,ad Yp,ad Yp,ab,ai,af,ae,av,au,ax,az,ag,ak];exact aD.pure (hs.aL z6) rfl
    .have hq1:((de l h<=33554432)=False)\/((de l h<=33554432)=True/\(SM.M'>de l h*32768)=False):=by
      by_cases g1:de l h<=33554432
      .exact .inr ⟨RX g1,H' λg2=>XM (hmb.2 ⟨g1,g2⟩)⟩
      .exact .inl (H' g1)
     have e2:fm l w h=0:=by rw[hE,aK XM]
     have e1:B3 l w h=cX (bK l w h):=by rw[B3,aI e2]
     rw[e1,e2];have Vy:cX (bK l w h)=.agg [aQ l,vI w,vI h,bL (cS l w).atoms,bj (cS l w).g',vI (cS l w).R1,dv (pD l (Zw l w))]:=rfl;rw[Vy];clear Vy e1 e2 bad hE hmb XM hL hm;generalize de l h=LE at*;have hofe:Zw l w=(cS l w).atoms.map (·.node):=rfl;generalize Zw l w=OF at*;generalize pD l OF=BK at*;rw[GQ]at hfc;generalize cS l w=GA at*;have TZ:=iV GA.atoms;rcases hq1 with q1|⟨q1,q2⟩
     case' inl=>
      apply sR;simp only[go_sem,seval,a9,a6,q1,r1,ad Yp,ad Yp,ab,ai,af,ae,av,au,ax,az,ag,ak]
     case' inr=>
      apply sR;simp only[go_sem,seval,a9,a6,q1,q2,r1,ad Yp,ad Yp,ab,ai,af,ae,av,au,ax,az,ag,ak]
     all_goals
      refine aE hs λi12 Y12 XX a12 f12 z12 hs=>?_;obtain⟨n612,a6⟩:=RZ a6 f12 XX;obtain⟨Ys,a9⟩:=RZ a9 f12 XX;simp only[go_sem,seval,a12,ad n612,ad Ys,ab,ai,af,ae,av,au,ax,az,ag,ak];generalize TL:C' _ i12 _=Z12;replace a12:=Ti TL;replace a6:=So TL n612 a6;replace a9:=So TL Ys a9;replace hs:=Te TL hs z12;refine pS rfl (hfc _) ?_;simp only[go_sem,seval,a12,ab,ai,af,ae,av,au,ax,az,ag,ak];generalize TL:C' _ i12 _=Z12;replace a12:=Ti TL;replace a6:=So TL n612 a6;replace a9:=So TL Ys a9;replace hs:=Te TL hs z12;refine ay.kY (λst=>aa Z12 st.U/\aP Z12 st.U 3 1 (st.s 13) (OF.map vI)/\st.s 0=aQ l/\st.s 6=.ptr i6 0 0/\st.s 12=.ptr i12 0 0)
       (λm st=>∃j:Nat,j<=GA.atoms.length/\m=GA.atoms.length-j/\aa Z12 st.U/\aP Z12 st.U 3 1 (st.s 13) (((GA.atoms.take j).map (·.node)).map vI)/\st.s 0=aQ l/\st.s 6=.ptr i6 0 0/\st.s 12=.ptr i12 0 0/\st.s 14=vI j) GA.atoms.length ?_ ?_ ?_
      .exact⟨0,by omega,rfl,aa.refl _,aP.start,rfl,rfl,rfl,rfl⟩
      .rintro m ⟨S,J⟩ ⟨j,hj,rfl,YR,ho,t0,t6,t12,t14⟩;simp only at YR ho t0 t6 t12 t14;have YL:=YR _ _ a12;generalize Vv:S 13=v13 at ho;refine ay.mix 15 ?_;by_cases u':j<GA.atoms.length
       .have u1:=qT u';have R0:=λU=>fK (U:=U) u';have Sx:((GA.atoms.take (j+1)).map (·.node)).map vI=((GA.atoms.take j).map (·.node)).map vI++[vI GA.atoms[j].node]:=by
         rw[Vn u',fw,fw];rfl
        have UF:(((GA.atoms.take j).map (·.node)).map vI).length=j:=by rw[dO,dO,mf];omega
        have W9:bC GA.atoms[j]=.agg [vI GA.atoms[j].kind,vI GA.atoms[j].node,vI GA.atoms[j].fr,vI GA.atoms[j].to,vI GA.atoms[j].x,vI GA.atoms[j].y,vI GA.atoms[j].w,vI GA.atoms[j].h]:=rfl;generalize ((GA.atoms.take j).map (·.node)).map vI=rows at*;generalize GA.atoms[j]=x at*;have r2:=rI j;have SF:(rows.length+1)*9<=140737488355328:=by omega
        apply sR;simp only[go_sem,seval,t0,t6,t12,t14,YL,Vv,TZ,u1,R0,W9,ab,ai,af,ae,av,au,ax,az,ag,ak];refine aF λi91 Z91 s91 a91 f91=>?_;obtain⟨idA,Ta,Sd⟩:=ho.dst s91;simp only[go_sem,seval,Ta,bR a91,SF,t0,t6,t12,t14];refine bn λi92 Z92 s92 a92 f92=>?_;have k92:=(Sd Z12 (aa.refl _) Z91 (YR.trans s91)).trans s92;have n92:Z12 i92=none:=(YR.trans s91).none f92;simp only[go_sem,seval,t0,t6,t12,t14,r2];refine⟨_,by omega,j+1,by omega,rfl,k92,?_,by simp[t0,t6,t12,vI]⟩;rw[Sx];exact aP.new (by simp) a92 n92
       .have u1:=qF u';have Up:j=GA.atoms.length:=by omega
        rw[Up,iC,<-hofe]at ho;apply sR;simp only[go_sem,seval,t0,t6,t12,t14,YL,Vv,TZ,u1,ab,ai,af,ae,av,au,ax,az,ag,ak];exact⟨YR,ho⟩
      .rintro⟨S,J⟩ ⟨YR,ho,t0,t6,t12⟩;simp only at YR ho t0 t6 t12;refine ay.qf [0,6,12] [13] YR ho (by simp) ?_;generalize hS:(λi=>if[13].contains i then V.sl 1 (OF.map vI)else Af [0,6,12] S i)=S';have u0:S' 0=aQ l:=by rw[<-hS];exact t0
       have u6:S' 6=.ptr i6 0 0:=by rw[<-hS];exact t6
       have u12:S' 12=.ptr i12 0 0:=by rw[<-hS];exact t12
       have u13:S' 13=aZ OF:=by rw[<-hS];rfl
       clear hS t0 t6 t12;refine mS 15 ?_;simp only[go_sem,seval,u0,u6,u12,u13];refine pS rfl (hbc _) ?_;simp only[go_sem,seval,u6,u12,a12,a6,ab,ai,af,ae,av,au,ax,az,ag,ak,ad n612,ad Ys,ad n612];exact aD.pure ((hs.aL z12).aL z6) rfl
   .obtain⟨e1,e2⟩:=bad (eC l) (by rw[fm,aK (λh=>h ⟨hw,hh⟩),aI hc]) hc;have q:(eC l≠0)=True:=RX hc;rw[e1,e2];generalize eC l=K at*;apply sR;simp only[go_sem,seval,q,a6];exact aD.pure (hs.aL z6) rfl
  .have mh:=tB h;rw[show decide (mX h)=false from TE hh]at mh;obtain⟨e1,e2⟩:=bad 3 (by rw[fm,aI (λh=>hh h.2)]) (by decide);rw[e1,e2];refine pS rfl (mh _) ?_;simp only[go_sem,seval,a6];exact aD.pure (hs.aL z6) rfl
 .have mw:=tB w;rw[show decide (mX w)=false from TE hw]at mw;obtain⟨e1,e2⟩:=bad 3 (by rw[fm,aI (λh=>hw h.1)]) (by decide);rw[e1,e2];apply sR;simp only[go_sem,seval,c50];refine aE hs λi6 Z6 s6 a6 f6 z6 hs=>?_;simp only[go_sem,seval,a6];refine pS rfl (mw _) ?_;simp only[go_sem,seval,a6];exact aD.pure (hs.aL z6) rfl
open Go.Proofs
def FV{l:List Nd}(hl:dN l){w h:Int}(he:fm l w h=0):BkQ (bK l w h):=by
 obtain⟨hw,hh,hc⟩:=l9 he;obtain⟨Uz,hn,hwo,XR⟩:=mo hc;exact⟨(ij hl he).toBkFull,hn,KF l hl⟩
open Go.Proofs
section
variable {P:Program} {n:Nat} {st:St} {Q:St->Prop} {k:List It}
def Go.nP{i:aU}{l:List aU}{fx:VX}{xs:List VX}{f:FuncId}{caps:List V}{v:V}(hw:bt st.s i.g=some true)(ho:i.op=.call fx xs)
 (hf:fx.ev st.s=.fn f caps)(hc:∀Z1,aa st.U Z1->aG P f (xs.map (·.ev st.s)++caps) Z1 λr Z'=>r=v/\Z'=Z1)(h:Go P n (.d l k) ⟨bb st.s i.dst v,st.U⟩ Q):Go P n (.d (i::l) k) st Q:=by
 refine o3 hw ?_;rw[ho];exact⟨f,caps,v,hf,hc,h⟩
end
def aq(s:R3):(aN s).cells=[vI s.atom,vI s.done,.bool s.free]:=rfl
def ao(s:R3):(aN s).stays=true:=rfl
def cq(im:Nat):(V.mp im).cells=[.mp im]:=rfl
def cp(im:Nat):(V.mp im).stays=true:=rfl
def mC(x:U4):(dy x).cells=[vI x.cls,vI x.forced,vI x.rank]:=rfl
def qi(b:Bk)(s:R3){U:al}{i im:Nat}(h0:U i=some (nh b im)):
 aG prog 33 [.ptr i 0 0,aN s] U λr Z'=>r=.bool (decide (bZ b s))/\Z'=U:=by
 refine e33.q ?_;have hs:=aa.refl U;have TZ:=iV b.atoms;rw[nh,qo]at h0;generalize hF:decide (bZ b s)=F;refine mS 5 ?_;simp only[go_sem,seval,c33,aq,ao];refine aE hs λi3 Z3 s3 a3 f3 z3 hs=>?_;replace h0:=s3 _ _ h0;by_cases hf:s.atom>=b.atoms.length
 .have q:(s.atom>=(b.atoms.length:Int))=True:=RX hf;simp only[go_sem,seval,h0,a3,q,TZ,aq,ao,af,ae,cq,cp];exact aD.pure hs (by rw[<-hF,Tv (show bZ b s from hf)])
 .have q:(s.atom>=(b.atoms.length:Int))=False:=H' hf;simp only[go_sem,seval,h0,a3,q,TZ,aq,ao,af,ae,cq,cp];exact aD.pure hs (by rw[<-hF,TE (show¬bZ b s from hf)])
def qv{b:List U4}{k:Int}(h0:0<=k)(h1:k<b.length):∀U,bI U 3 (dv b) (.int .i64 k)=some (.rp (dy (UR b k.toNat))):=λU=>by
 obtain⟨j,rfl⟩:∃j:Nat,k=j:=⟨k.toNat,by omega⟩
 have hj:j<b.length:=by omega
 have e:UR b ((j:Int)).toNat=b[j]:=by simp[UR,hj]
 rw[e];exact B5 hj
def qe(b:Bk)(s:R3)(h1:0<=s.atom/\s.atom<b.SJ.length){U:al}{i im:Nat}(h0:U i=some (nh b im)):
 aG prog 35 [.ptr i 0 0,aN s] U λr Z'=>r=vI (cH b s)/\Z'=U:=by
 refine e35.q ?_;have hs:=aa.refl U;have SW:=qv h1.1 h1.2;rw[nh,qo]at h0;unfold cH;generalize UR b.SJ s.atom.toNat=B at*;refine mS 5 ?_;simp only[go_sem,seval,c35,aq,ao];refine aE hs λi3 Z3 s3 a3 f3 z3 hs=>?_;replace h0:=s3 _ _ h0;by_cases hd:s.done>0
 .have q:(s.done>0)=True:=RX hd;rw[aI hd];simp only[go_sem,seval,h0,a3,q,aq,ao];exact aD.pure hs rfl
 .have q:(s.done>0)=False:=H' hd;rw[aK hd];simp only[go_sem,seval,h0,a3,q,SW,mC,aq,ao,ax,az,cq,cp];exact aD.pure hs rfl
def GV(b:Bk)(k:Nat)(hk:k<b.SJ.length){U:al}{i im:Nat}(h0:U i=some (nh b im)):
 aG prog 61 [.ptr i 0 0,vI k] U λr Z'=>r=aN (ku b k)/\Z'=U:=by
 refine e61.q ?_;have hs:=aa.refl U;have SW:=qv (b:=b.SJ) (k:=k) (by omega) (by omega);rw[gM]at SW;rw[nh,qo]at h0;unfold ku;generalize UR b.SJ k=B at*;refine mS 5 ?_;simp only[go_sem,seval,c61];refine aE hs λi4 Z4 s4 a4 f4 z4 hs=>?_;replace h0:=s4 _ _ h0;by_cases hd:B.forced=0
 .have q:(B.forced≠0)=False:=H' λh=>h hd;rw[TE λh=>h hd];simp only[go_sem,seval,h0,a4,q,SW,mC,ax,az,cq,cp];exact aD.pure (hs.aL z4) rfl
 .have q:(B.forced≠0)=True:=RX hd;rw[Tv hd];simp only[go_sem,seval,h0,a4,q,SW,mC,ax,az,cq,cp];exact aD.pure (hs.aL z4) rfl
def D8(b:Bk)(s:R3):Prop:=dc b.atoms s/\okP b s
instance (b:Bk) (s:R3):Decidable (D8 b s):=by unfold D8 okP;infer_instance
def Lt(b:Bk)(hbr:b.SJ.length=b.atoms.length+1)(s:R3){U:al}{i im:Nat}(h0:U i=some (nh b im)):
 aG prog 25 [.ptr i 0 0,aN s] U λr Z'=>r=.bool (decide (D8 b s))/\Z'=U:=by
 refine e25.q ?_;have hs:=aa.refl U;have hm:=xY b.atoms s;rw[nh,qo]at h0;generalize hF:decide (D8 b s)=F;refine mS 5 ?_;simp only[go_sem,seval,c25,aq,ao];refine aE hs λi3 Z3 s3 a3 f3 z3 hs=>?_;replace h0:=s3 _ _ h0;by_cases g1:dc b.atoms s
 .rw[Tv g1]at hm;have SW:=qv (b:=b.SJ) (k:=s.atom) g1.1.1 (by have:=g1.1.2;omega);have hT:(s.free=true->s.done=0/\(s.atom=0\/(UR b.SJ s.atom.toNat).forced≠0))->F=true:=λh=>by rw[<-hF];exact Tv ⟨g1,h⟩
  have hN:¬(s.free=true->s.done=0/\(s.atom=0\/(UR b.SJ s.atom.toNat).forced≠0))->F=false:=λh=>by rw[<-hF];exact TE λg=>h g.2
  clear hF;generalize UR b.SJ s.atom.toNat=B at*;simp only[go_sem,seval,h0,a3,aq,ao,af,ae,cq,cp];refine pJ rfl hm ?_;cases g2:s.free
  .apply sG;simp only[go_sem,seval,h0,a3,g2,Bool.not_true,Bool.not_false,aq,ao,ax,az,cq,cp];exact aD.pure hs (by rw[hT (λh=>by rw[g2]at h;cases h)])
  .by_cases g3:s.done=0
   .have q3:(s.done=0)=True:=RX g3;by_cases g4:s.atom=0
    .have q4:(s.atom=0)=True:=RX g4;apply sG;simp only[go_sem,seval,h0,a3,g2,q3,q4,Bool.not_true,Bool.not_false,aq,ao,ax,az,cq,cp];exact aD.pure hs (by rw[hT (λ_=>⟨g3,.inl g4⟩)])
    .have q4:(s.atom=0)=False:=H' g4;by_cases g5:B.forced=0
     .have q5:(B.forced≠0)=False:=H' λh=>h g5;apply sG;simp only[go_sem,seval,h0,a3,g2,q3,q4,q5,SW,Bool.not_true,Bool.not_false,mC,aq,ao,ax,az,cq,cp];exact aD.pure hs (by rw[hN (λh=>(h g2).2.elim g4 λh=>h g5)])
     .have q5:(B.forced≠0)=True:=RX g5;apply sG;simp only[go_sem,seval,h0,a3,g2,q3,q4,q5,SW,Bool.not_true,Bool.not_false,mC,aq,ao,ax,az,cq,cp];exact aD.pure hs (by rw[hT (λ_=>⟨g3,.inr g5⟩)])
   .have q3:(s.done=0)=False:=H' g3;apply sG;simp only[go_sem,seval,h0,a3,g2,q3,Bool.not_true,Bool.not_false,aq,ao,ax,az,cq,cp];exact aD.pure hs (by rw[hN (λh=>g3 (h g2).1)])
 .rw[TE g1]at hm;simp only[go_sem,seval,h0,a3,aq,ao,af,ae,cq,cp];refine pJ rfl hm ?_;apply sG;simp only[go_sem,seval,Bool.not_false];exact aD.pure hs (by rw[<-hF,TE (λh=>g1 h.1)])
def pg(a b:Int):Int:=if a<b then -1 else if a>b then 1 else 0
def JK(a:Int):aX prog 66 [vI a] (.bool false):=λU=>by
 refine e66.q ?_;have q:(a≠a)=False:=H' λh=>h rfl;refine mS 3 ?_;simp only[go_sem,seval,c66,q];exact aD.same rfl
def Ht(a b:Int):aX prog 38 [vI a,vI b] (vI (pg a b)):=λU=>by
 refine e38.q ?_;refine mS 7 ?_;simp only[go_sem,seval,c38];refine pS rfl (JK a _) ?_;simp only[go_sem,seval];refine pR rfl (JK b _) ?_;unfold pg;by_cases h1:a<b
 .have q1:(a<b)=True:=RX h1;apply sR;simp only[go_sem,seval,q1];exact aD.same rfl
 .have q1:(a<b)=False:=H' h1;by_cases h2:a>b
  .have q2:(a>b)=True:=RX h2;apply sR;simp only[go_sem,seval,q1,q2];exact aD.same rfl
  .have q2:(a>b)=False:=H' h2;apply sR;simp only[go_sem,seval,q1,q2];exact aD.same rfl
open Go.Proofs
def orJ:List Int->Int
 |[]=>0
 |x::r=>if x≠0 then x else orJ r
def EO{l:List Int}{i:Nat}(h:i<l.length):orJ (l.drop i)=if l[i]≠0 then l[i]else orJ (l.drop (i+1)):=by
 rw[jt h,orJ]
def PU{U:al}{v:V}(l:List Int)(hl:l.length<=1000000)(hr:Reads U 1 false v (l.map vI)):
 aG prog 37 [v] U λr Z'=>r=vI (orJ l)/\Z'=U:=by
 refine e37.q ?_;have hlv:eM false v=some (.int .i64 l.length):=by rw[hr.1,dO]
 refine mS 6 ?_;simp only[go_sem,seval,c37,hlv];refine ay.loop (λm st=>∃i:Nat,i<=l.length/\m=l.length-i/\orJ l=orJ (l.drop i)/\st.U=U/\st.s 3=vI 0/\st.s 6=v/\st.s 7=vI l.length/\st.s 8=vI i) l.length ?_ ?_
 .exact⟨0,by omega,rfl,rfl,rfl,rfl,rfl,rfl,rfl⟩
 .rintro m ⟨s,Z'⟩ ⟨i,hi,rfl,heq,Su,h3,h6,h7,h8⟩;simp only at Su h3 h6 h7 h8;subst Su;refine ay.mix 6 ?_;by_cases u':i<l.length
  .have q:=qT u';have hd:=EO u';obtain⟨a,ha,TZ⟩:=hr.2 i (vI l[i]) (by simp[u']);have r1:=rI i;by_cases hx:l[i]=0
   .have q2:(l[i]≠0)=False:=H' λh=>h hx;rw[aK λh=>h hx]at hd;apply sR;simp only[go_sem,seval,h3,h6,h7,h8,q,q2,ha,TZ,r1];exact⟨_,by omega,i+1,by omega,rfl,by rw[heq,hd],by simp[h3,h6,h7]⟩
   .have q2:(l[i]≠0)=True:=RX hx;rw[aI hx]at hd;apply sR;simp only[go_sem,seval,h3,h6,h7,h8,q,q2,ha,TZ,r1];exact aD.same (by rw[heq,hd])
  .have q:=qF u';have Uv:i=l.length:=by omega
   apply sR;simp only[go_sem,seval,h3,h6,h7,h8,q];exact aD.same (by rw[heq,Uv,uY];rfl)
def vX{U:al}{id e:Nat}{l:List Int}(h:U id=some ⟨e,1,l.map vI⟩):Reads U 1 false (.own id 0 l.length) (l.map vI):=
 ⟨by simp[eM],λi r hi=>by
  obtain⟨h1,h2⟩:=rz.1 hi;refine⟨.ptr id i 0,by have:=kj h (i:=i) h1;rwa [dO]at this,?_⟩;rw[List.getElem_map]at h2;subst h2;simp only[dr,h,hi];rfl⟩
instance (a b:Ue):Decidable (a.lt b):=by unfold Ue.lt;infer_instance
def NB(a b:Ue):(orJ [pg a.R4 b.R4,pg a.Sy b.Sy]<0)=a.lt b:=by
 refine propext ?_;unfold Ue.lt;simp only[orJ,pg]
 (repeat' split)<;>omega
def Fg(a b:Ue):aX prog 13 [dd a,dd b] (.bool (decide (a.lt b))):=λU=>by
 refine e13.q ?_;have hs:=aa.refl U;refine mS 5 ?_;simp only[go_sem,seval,c13,aT,aS];refine aE hs λi2 Z2 s2 a2 f2 z2 hs=>?_;simp only[go_sem,seval,a2,aT,aS];refine aE hs λi3 Z3 s3 a3 f3 z3 hs=>?_;obtain⟨n23,a2⟩:=RZ a2 f3 s3;simp only[go_sem,seval,a2,a3,aT,aS];refine pJ rfl (Ht _ _) ?_;apply sG;simp only[go_sem,seval,a2,a3,aT,aS];refine pJ rfl (Ht _ _) ?_;apply sG;simp only[go_sem,seval];refine xd hs λi15 Z15 XD Vg f15 z15 hs=>?_;obtain⟨n215,a2⟩:=RZ a2 f15 XD;obtain⟨n315,a3⟩:=RZ a3 f15 XD;simp only[go_sem,seval];refine Go.nP rfl rfl rfl (λZ1 h1=>PU [pg a.R4 b.R4,pg a.Sy b.Sy] (by simp) ?_) ?_
 .have h15:=h1 _ _ Vg;exact vX (l:=[pg a.R4 b.R4,pg a.Sy b.Sy]) h15
 .have q:=NB a b;by_cases u':a.lt b
  .rw[RX u']at q;rw[Tv u'];apply sG;simp only[go_sem,seval,q];exact aD.pure hs rfl
  .rw[H' u']at q;rw[TE u'];apply sG;simp only[go_sem,seval,q];exact aD.pure hs rfl
def ES(a b:R3):ll false [0,0,1] (aN a) (aN b)=some (.bool (decide (a=b))):=by
 obtain⟨a1,a2,a3⟩:=a;obtain⟨b1,b2,b3⟩:=b;simp only[ll,aN,dp,bS,cN,vI,Uf,List.length_nil,true_and,↓reduceIte,R3.mk.injEq];by_cases h1:a1=b1<;>by_cases h2:a2=b2<;>cases a3<;>cases b3<;>simp[h1,h2]
def yV(a b:R3):ll true [0,0,1] (aN a) (aN b)=some (.bool (decide (a≠b))):=by
 obtain⟨a1,a2,a3⟩:=a;obtain⟨b1,b2,b3⟩:=b;simp only[ll,aN,dp,bS,cN,vI,Uf,List.length_nil,true_and,↓reduceIte,ne_eq,R3.mk.injEq];by_cases h1:a1=b1<;>by_cases h2:a2=b2<;>cases a3<;>cases b3<;>simp[h1,h2]
def j7(a:R3):List R3->Nat->Int
 |[],_=>-1
 |q::r,i=>if a=q then i else j7 a r (i+1)
def wc{a:R3}{p:List R3}{i:Nat}(h:i<p.length):j7 a (p.drop i) i=if a=p[i]then(i:Int)else j7 a (p.drop (i+1)) (i+1):=by
 rw[jt h,j7]
def qJ(a:R3):∀(p:List R3) (i:Nat),(j7 a p i>=0)=(a∈p)
 |[],i=>by simp[j7]
 |q::r,i=>by
  rw[j7,ew];split
  .rename_i h;simp[h]
  .rename_i h;rw[qJ a r (i+1)];simp[h]
def aM(s:R3):V.agg [vI s.atom,vI s.done,.bool s.free]=aN s:=rfl
def DC(p:List R3)(hp:p.length<=1000000000)(a:R3):aX prog 64 [bU p,aN a] (vI (j7 a p 0)):=λU=>by
 refine e64.q ?_;have hs:=aa.refl U;have hlp:=jl p;refine mS 9 ?_;simp only[go_sem,seval,c64,aq,ao];refine aE hs λi3 Z3 s3 a3 f3 z3 hs=>?_;simp only[go_sem,seval,hlp,aq,ao];refine ay.loop (λm st=>∃(i:Nat),i<=p.length/\m=p.length-i/\j7 a p 0=j7 a (p.drop i) i/\st.U=Z3/\st.s 0=bU p/\st.s 3=.ptr i3 0 0/\st.s 7=vI p.length/\st.s 8=vI i) p.length ?_ ?_
 .exact⟨0,by omega,rfl,rfl,rfl,rfl,rfl,rfl,rfl⟩
 .rintro m ⟨s,Z'⟩ ⟨i,hi,rfl,heq,Su,h0,h3,h7,h8⟩;simp only at Su h0 h3 h7 h8;subst Su;refine ay.mix 9 ?_;by_cases u':i<p.length
  .have q:=qT u';have hd:=wc (a:=a) u';have R0:=λU=>iL (U:=U) u';have r1:=rI i;have Xt:=ES a p[i];have Wu:=mT p[i];by_cases hc:a=p[i]
   .rw[Tv hc]at Xt;apply sR;simp only[BB,seval,<-decide_not,bp,fW,aV,dP,dR,dI,dQ,eo,bH,jE,gm,bu,fO,dM,fL,cP,cC,bQ,iB,cm,cB,cd,Ty,jD,cW,bJ,dp,bS,cN,cD,jH,binBV,bG,dj,Tx.nothing,h0,h3,h7,h8,q,a3,R0,Wu,Xt,aq,ao,aM,V.dV,V.dW,V.df,V.dT,V.fa,V.ef,V.di,V.eW,V.dZ,V.eZ,V.ed,V.dX,V.dk,V.ee,V.fi,V.ec,V.dg,V.fc,V.dU,V.fg];refine aD.pure hs ?_;rw[heq,hd,aI hc]
   .rw[TE hc]at Xt;apply sR;simp only[BB,seval,<-decide_not,bp,fW,aV,dP,dR,dI,dQ,eo,bH,jE,gm,bu,fO,dM,fL,cP,cC,bQ,iB,cm,cB,cd,Ty,jD,cW,bJ,dp,bS,cN,cD,jH,binBV,bG,dj,Tx.nothing,h0,h3,h7,h8,q,a3,R0,Wu,Xt,r1,aq,ao,aM,V.dV,V.dW,V.df,V.dT,V.fa,V.ef,V.di,V.eW,V.dZ,V.eZ,V.ed,V.dX,V.dk,V.ee,V.fi,V.ec,V.dg,V.fc,V.dU,V.fg];exact⟨_,by omega,i+1,by omega,rfl,by rw[heq,hd,aK hc],by simp[h0,h3,h7]⟩
  .have q:=qF u';have Uv:i=p.length:=by omega
   apply sR;simp only[go_sem,seval,h0,h3,h7,h8,q];refine aD.pure hs ?_;rw[heq,Uv,uY];rfl
def Hr(p:List R3)(hp:p.length<=1000000000)(a:R3):aX prog 34 [bU p,aN a] (.bool (decide (a∈p))):=λU=>by
 refine e34.q ?_;have hs:=aa.refl U;refine mS 5 ?_;simp only[go_sem,seval,c34,aq,ao];refine aE hs λi3 Z3 s3 a3 f3 z3 hs=>?_;simp only[go_sem,seval,a3,aq,ao,aM];refine pR rfl (DC p hp a _) ?_;have q:=qJ a p 0;by_cases hm:a∈p
 .rw[RX hm]at q;rw[Tv hm];apply sR;simp only[go_sem,seval,q];exact aD.pure hs rfl
 .rw[H' hm]at q;rw[TE hm];apply sR;simp only[go_sem,seval,q];exact aD.pure hs rfl
def mW(p:R3->Bool):List R3->Nat->Int
 |[],_=>-1
 |f::r,i=>if p f then i else mW p r (i+1)
def BM{p:R3->Bool}{l:List R3}{i:Nat}(h:i<l.length):mW p (l.drop i) i=if p l[i]then(i:Int)else mW p (l.drop (i+1)) (i+1):=by
 rw[jt h,mW]
def qZ(p:R3->Bool):∀(l:List R3) (i:Nat),(mW p l i>=0)=(l.any p=true)
 |[],i=>by simp[mW]
 |q::r,i=>by
  rw[mW,List.any_cons];cases h:p q
  .simp only[Bool.false_or,jb,if_false];exact qZ p r (i+1)
  .simp
def Gx{U:al}(l:List R3)(hl:l.length<=1000000){g:V}{f:FuncId}{caps:List V}(p:R3->Bool)
 (hg:g=.bm f caps)(hf:∀x∈l,aG prog f (caps++[aN x]) U λr Z'=>r=.bool (p x)/\Z'=U):
 aG prog 65 [bU l,g] U λr Z'=>r=vI (mW p l 0)/\Z'=U:=by
 subst hg;refine e65.q ?_;have hlv:=jl l;refine mS 6 ?_;simp only[go_sem,seval,c65,hlv];refine ay.loop (λm st=>∃i:Nat,i<=l.length/\m=l.length-i/\mW p l 0=mW p (l.drop i) i/\st.U=U/\st.s 0=bU l/\st.s 1=.bm f caps/\st.s 7=vI l.length/\st.s 8=vI i) l.length ?_ ?_
 .exact⟨0,by omega,rfl,rfl,rfl,rfl,rfl,rfl,rfl⟩
 .rintro m ⟨s,Z'⟩ ⟨i,hi,rfl,heq,Su,h0,h1,h7,h8⟩;simp only at Su h0 h1 h7 h8;subst Su;refine ay.mix 6 ?_;by_cases u':i<l.length
  .have q:=qT u';have hd:=BM (p:=p) u';have R0:=λU=>iL (U:=U) u';have Wu:=mT l[i];have hfx:=hf l[i] (SU u');have r1:=rI i;apply sR;simp only[go_sem,seval,h0,h1,h7,h8,q,R0,Wu];refine ay.mR rfl rfl rfl hfx ?_;rintro r Z2 ⟨rfl,rfl⟩;cases hp:p l[i]
   .rw[hp]at hd;apply sR;simp only[go_sem,seval,h0,h1,h7,h8,r1];exact⟨_,by omega,i+1,by omega,rfl,by rw[heq,hd];simp,by simp[h0,h1,h7]⟩
   .rw[hp]at hd;apply sR;simp only[go_sem,seval];exact aD.same (by rw[heq,hd];simp)
  .have q:=qF u';have Uv:i=l.length:=by omega
   apply sR;simp only[go_sem,seval,h0,h7,h8,q];exact aD.same (by rw[heq,Uv,uY];rfl)
def Iy{U:al}(l:List R3)(hl:l.length<=1000000){f:FuncId}{caps:List V}(p:R3->Bool)
 (hf:∀x∈l,aG prog f (caps++[aN x]) U λr Z'=>r=.bool (p x)/\Z'=U):
 aG prog 36 [bU l,.bm f caps] U λr Z'=>r=.bool (l.any p)/\Z'=U:=by
 refine e36.q ?_;refine mS 5 ?_;simp only[go_sem,seval,c36];refine pR rfl (Gx l hl p rfl hf) ?_;cases hm:l.any p
 .have q:(mW p l 0>=0)=False:=by rw[qZ,hm];simp
  apply sR;simp only[go_sem,seval,q];exact aD.same rfl
 .have q:(mW p l 0>=0)=True:=by rw[qZ,hm];simp
  apply sR;simp only[go_sem,seval,q];exact aD.same rfl
open Go.Proofs
def EW{b:Bk}{s:R3}(hm:dc b.atoms s):dK b s=wh b.nodes (Vm b.atoms s.atom).node b.h:=by
 have h1:=hm.1.2;have h2:=hm.1.1;have Sh:b.atoms≠[]:=λh=>by rw[h]at h1;simp at h1;omega
 unfold dK;rw[aK Sh,show min s.atom ((b.atoms.length:Int)-1)=s.atom by omega]
def ui{b:Bk}(hb:dh b){s:R3}(hm:dc b.atoms s):s.atom<=cu b s/\cu b s<=b.atoms.length:=by
 obtain⟨u,u1,u2,u3,-⟩:=mv hb.UL hb.pos hm (iz b.atoms s (dK b s).body) 0 (dK b s).body;unfold cu;rw[u1];omega
def yK{b:Bk}(hb:dh b){s:R3}(hm:dc b.atoms s):s.done<=18014398509481984:=by
 obtain⟨k,hk⟩:∃k:Nat,s.atom=k:=⟨s.atom.toNat,by have:=hm.1.1;omega⟩
 have UG:k<b.atoms.length:=by have:=hm.1.2;omega
 have h2:=hm.2.2;rw[hk,bx UG]at h2;have:=(hb.tight _ (SU UG)).2.2.2;omega
def sK(b:Bk)(R j:Nat):List R3:=(List.range j).map λi=>ku b (R-i)
def BI(b:Bk)(R j:Nat):sK b R (j+1)=sK b R j++[ku b (R-j)]:=by
 unfold sK;rw[List.range_succ,fw];rfl
def tD3:List (List Nat):=[[],[0],[1,0],[2,1,0],[],[],[3,4,5,2,1,0],[6,3,4,5,2,1,0],[7,6,3,4,5,2,1,0],[7,6,3,4,5,2,1,0],[],[],[10,8,6,0,1,2,3,4,5,7,11],[11,9,12,0,1,2,3,4,5,6,7,8,10]]
def CO(b:Bk)(hb:dh b)(s:R3)(hm:dc b.atoms s){U:al}{i im:Nat}(h0:U i=some (nh b im)):
 aG prog 26 [.ptr i 0 0,aN s] U λr Z'=>aa U Z'/\aP U Z' 24 3 r ((bo b s).map aN):=by
 refine e26.q ?_;have hs:=aa.refl U;have Tu:=hb.len;have Vy:=hb.brk;obtain⟨k,hk⟩:∃k:Nat,s.atom=k:=⟨s.atom.toNat,by have:=hm.1.1;omega⟩
 have UG:k<b.atoms.length:=by have:=hm.1.2;omega
 have R0:∀U,bI U 8 (bL b.atoms) (.int .i64 s.atom)=some (.rp (bC b.atoms[k])):=λU=>by rw[hk];exact fK UG
 have hac:∀a:Tk,(bC a).cells=[vI a.kind,vI a.node,vI a.fr,vI a.to,vI a.x,vI a.y,vI a.w,vI a.h]:=λ_=>rfl;have hrv:=EW hm;have U7:Vm b.atoms s.atom=b.atoms[k]:=by rw[hk];exact bx UG
 rw[U7]at hrv;have ho:=LR b.nodes hb.qQ b.atoms[k].node b.h;rw[<-hrv]at ho;have hd:=yK hb hm;have hkp:=Iz b.atoms hb.SI s (dK b s).body;have hkr:=DN hb.toBkOk s (dK b s).body;have hrc:=G5 b.atoms hb.SI s (by omega) (iz b.atoms s (dK b s).body) 0 (dK b s).body hkr ⟨by omega,by omega⟩;have W2:=KN b.atoms hb.SI s (by omega) (dK b s).body;have hRn:=ui hb hm;rw[show nA b.atoms s (iz b.atoms s (dK b s).body) 0 (dK b s).body=cu b s from rfl]at hrc;have hfi:=Ip b.SJ (by omega) (s.atom+1) (cu b s);have W4:=oF (b:=b.SJ) (i:=s.atom) (fit:=cu b s) hm.1.1 (by omega);have WA:bo b s=if cu b s<=s.atom then[fS b.atoms s (dK b s).body]else if fH b.SJ (s.atom+1) (cu b s)>=0 then[ku b (fH b.SJ (s.atom+1) (cu b s)).toNat]else sK b (cu b s).toNat (cu b s-s.atom).toNat:=rfl
 have hh0:=h0;rw[nh,qo]at h0;generalize cu b s=R at*;generalize iz b.atoms s (dK b s).body=KP at*;generalize dK b s=rv at*;generalize fS b.atoms s rv.body=NX at*;generalize pX b.atoms s rv.body=FX at*;generalize fH b.SJ (s.atom+1) R=FR at*;have r1:Sn .i64 (s.atom+1):=ar;refine mS 13 ?_;simp only[go_sem,seval,c26,bV.rt,aq,ao];refine aE hs λi3 Z3 s3 a3 f3 z3 hs=>?_;replace hh0:=s3 _ _ hh0;replace h0:=s3 _ _ h0;have z3':=z3;simp only[go_sem,seval,h0,a3,R0,hac,aq,ao,ab,ai,af,ae,cq,cp];refine pJ rfl ho ?_;apply sG;simp only[go_sem,seval,h0,a3,kE,aq,ao,aM,af,ae,cq,cp];refine pJ rfl hkp ?_;apply sG;simp only[go_sem,seval,h0,a3,aq,ao,aM,af,ae,cq,cp];refine pJ rfl hrc ?_;by_cases g1:R<=s.atom
 .have q1:(R<=s.atom)=True:=RX g1;rw[aI g1]at WA;apply sG;simp only[go_sem,seval,bV.rt,h0,a3,q1,aq,ao];have a8:True:=trivial;have a9:True:=trivial;have hn:True:=trivial;have nc:NX=NX:=rfl;refine ay.tW (by kernel_rfl) 8 (.fork tD3 [0,1,2,3,4,5] [6,10,11] [(.fork (sX tD3 [(10,[6,3,4,5,2,1,0]),(11,[6,3,4,5,2,1,0]),(12,[6,3,4,5,2,1,0,10,8,7,11]),(13,[6,3,4,5,2,1,0,11,9,12,7,8,10])]) [6,7,8,9] [10,11] [(.leaf (sX tD3 [(10,[6,3,4,5,2,1,0]),(11,[10,6,3,4,5,2,1,0]),(12,[10,6,3,4,5,2,1,0,8,7,11]),(13,[10,6,3,4,5,2,1,0,11,9,12,7,8])]) [10,11,12,13]),(.leaf (sX tD3 [(10,[11,6,3,4,5,2,1,0]),(11,[6,3,4,5,2,1,0]),(12,[11,6,3,4,5,2,1,0,10,8,7]),(13,[11,6,3,4,5,2,1,0,9,12,7,8,10])]) [11,10,12,13])]),(.fork (sX tD3 [(6,[10,3,4,5,2,1,0]),(7,[10,6,3,4,5,2,1,0]),(8,[10,7,6,3,4,5,2,1,0]),(9,[10,7,6,3,4,5,2,1,0]),(11,[10]),(13,[10,11,9,12,0,1,2,3,4,5,6,7,8])]) [10] [6,11] [(.leaf [[],[0],[1,0],[2,1,0],[],[],[10,3,4,5,2,1,0],[10,6,3,4,5,2,1,0],[10,7,6,3,4,5,2,1,0],[10,7,6,3,4,5,2,1,0],[],[6,10,3,4,5,2,1,0],[6,10,3,4,5,2,1,0,8,7,11],[6,10,3,4,5,2,1,0,11,9,12,7,8]] [6,7,8,9,11,12,13]),(.leaf [[],[0],[1,0],[2,1,0],[],[],[11,10,3,4,5,2,1,0],[11,10,6,3,4,5,2,1,0],[11,10,7,6,3,4,5,2,1,0],[11,10,7,6,3,4,5,2,1,0],[],[10],[11,10,8,6,0,1,2,3,4,5,7],[11,10,9,12,0,1,2,3,4,5,6,7,8]] [11,6,7,8,9,12,13])]),(.fork (sX tD3 [(6,[11,3,4,5,2,1,0]),(7,[11,6,3,4,5,2,1,0]),(8,[11,7,6,3,4,5,2,1,0]),(9,[11,7,6,3,4,5,2,1,0]),(10,[11]),(12,[11,10,8,6,0,1,2,3,4,5,7])]) [11] [6,10] [(.leaf [[],[0],[1,0],[2,1,0],[],[],[11,3,4,5,2,1,0],[11,6,3,4,5,2,1,0],[11,7,6,3,4,5,2,1,0],[11,7,6,3,4,5,2,1,0],[6,11,3,4,5,2,1,0],[],[6,11,3,4,5,2,1,0,10,8,7],[6,11,3,4,5,2,1,0,9,12,7,8,10]] [6,7,8,9,10,12,13]),(.leaf [[],[0],[1,0],[2,1,0],[],[],[10,11,3,4,5,2,1,0],[10,11,6,3,4,5,2,1,0],[10,11,7,6,3,4,5,2,1,0],[10,11,7,6,3,4,5,2,1,0],[11],[],[10,11,8,6,0,1,2,3,4,5,7],[10,11,9,12,0,1,2,3,4,5,6,7,8]] [10,6,7,8,9,12,13])])]) (by kernel_rfl) ?_;refine GT.NM (its:=[0,2,4,6,8,10]) (by kernel_rfl) ?_;refine cY (n:=0) [] [0,2,4,6,8,10] [_,_,_,_,_,_] rfl rfl ?_;simp only[go_sem,seval,h0,a3,a8,a9,hn,aq,ao,aM,af,ae,cz,cq,cp];refine⟨?_,?_,?_⟩
  .refine GT.oY (its:=[12,14,16,18]) (by kernel_rfl) ?_;refine WW rfl (W2 _) ?_;refine cY (n:=0) [] [14,16,18] [_,_,_] rfl rfl ?_;simp only[go_sem,seval,h0,a3,a8,a9,hn,aq,ao,aM,af,ae,cz,cq,cp];refine⟨?_,?_⟩
   .refine GT.gN (its:=[20,22,24,26]) (by kernel_rfl) ?_;refine cY (n:=0) [] [20,22,24,26] [_,_,_,_] rfl rfl ?_;simp only[go_sem,seval,h0,a3,a8,a9,hn,aq,ao,aM,af,ae,cz,cq,cp];refine bM λi8 Z8 s8 a8 f8=>?_;replace h0:=s8 _ _ h0;replace a3:=s8 _ _ a3
    try replace hn:=iH (bf a9 f8).symm
    try replace a9:=s8 _ _ a9
    obtain⟨z8,hs⟩:=nwZ hs f8 s8;simp only[go_sem,seval,h0,a3,a8,a9,hn,aq,ao,aM,af,ae,cz,cq,cp];refine bM λi9 Y9 s9 a9 f9=>?_;replace h0:=s9 _ _ h0;replace a3:=s9 _ _ a3
    try replace hn:=iH (bf a8 f9)
    try replace a8:=s9 _ _ a8
    obtain⟨z9,hs⟩:=nwZ hs f9 s9;simp only[go_sem,seval,h0,a3,a8,a9,hn,aq,ao,aM,af,ae,cz,cq,cp];apply sR;simp only[go_sem,seval,aq,ao,aM];refine aF λi62 Z62 s62 a62 f62=>?_;simp only[go_sem,seval];rw[WA];have hsF:=aa.trans ((hs.aL z8).aL z9) s62;have hnF:=aa.none ((hs.aL z8).aL z9) f62;exact Tf ⟨hsF,aP.new rfl a62 hnF⟩
   .refine GT.gN (its:=[22,20,24,26]) (by kernel_rfl) ?_;refine cY (n:=0) [] [22,20,24,26] [_,_,_,_] rfl rfl ?_;simp only[go_sem,seval,h0,a3,a8,a9,hn,aq,ao,aM,af,ae,cz,cq,cp];refine bM λi9 Y9 s9 a9 f9=>?_;replace h0:=s9 _ _ h0;replace a3:=s9 _ _ a3
    try replace hn:=iH (bf a8 f9)
    try replace a8:=s9 _ _ a8
    obtain⟨z9,hs⟩:=nwZ hs f9 s9;simp only[go_sem,seval,h0,a3,a8,a9,hn,aq,ao,aM,af,ae,cz,cq,cp];refine bM λi8 Z8 s8 a8 f8=>?_;replace h0:=s8 _ _ h0;replace a3:=s8 _ _ a3
    try replace hn:=iH (bf a9 f8).symm
    try replace a9:=s8 _ _ a9
    obtain⟨z8,hs⟩:=nwZ hs f8 s8;simp only[go_sem,seval,h0,a3,a8,a9,hn,aq,ao,aM,af,ae,cz,cq,cp];apply sR;simp only[go_sem,seval,aq,ao,aM];refine aF λi62 Z62 s62 a62 f62=>?_;simp only[go_sem,seval];rw[WA];have hsF:=aa.trans ((hs.aL z8).aL z9) s62;have hnF:=aa.none ((hs.aL z8).aL z9) f62;exact Tf ⟨hsF,aP.new rfl a62 hnF⟩
  .refine GT.oY (its:=[20,7,9]) (by kernel_rfl) ?_;refine cY (n:=0) [7,9] [20] [_] rfl rfl ?_;simp only[go_sem,seval,h0,a3,a8,a9,hn,aq,ao,aM,af,ae,cz,cq,cp];refine bM λi8 Z8 s8 a8 f8=>?_;replace h0:=s8 _ _ h0;replace a3:=s8 _ _ a3
   try replace hn:=iH (bf a9 f8).symm
   try replace a9:=s8 _ _ a9
   obtain⟨z8,hs⟩:=nwZ hs f8 s8;simp only[go_sem,seval,h0,a3,a8,a9,hn,aq,ao,aM,af,ae,cz,cq,cp];refine eh rfl (by simp only[go_sem,seval,h0,a3,a8,a9,hn,aq,ao,aM,af,ae,cz,cq,cp]) ?_;refine eh rfl (by simp only[go_sem,seval,h0,a3,a8,a9,hn,aq,ao,aM,af,ae,cz,cq,cp]) ?_;refine⟨?_,?_⟩
   .refine GT.gN (its:=[12,14,16,18,22,24,26]) (by kernel_rfl) ?_;refine WW rfl (W2 _) ?_;refine cY (n:=0) [] [14,16,18,22,24,26] [_,_,_,_,_,_] rfl rfl ?_;simp only[go_sem,seval,h0,a3,a8,a9,hn,aq,ao,aM,af,ae,cz,cq,cp];refine bM λi9 Y9 s9 a9 f9=>?_;replace h0:=s9 _ _ h0;replace a3:=s9 _ _ a3
    try replace hn:=iH (bf a8 f9)
    try replace a8:=s9 _ _ a8
    obtain⟨z9,hs⟩:=nwZ hs f9 s9;simp only[go_sem,seval,h0,a3,a8,a9,hn,aq,ao,aM,af,ae,cz,cq,cp];apply sR;simp only[go_sem,seval,aq,ao,aM];refine aF λi62 Z62 s62 a62 f62=>?_;simp only[go_sem,seval];rw[WA];have hsF:=aa.trans ((hs.aL z8).aL z9) s62;have hnF:=aa.none ((hs.aL z8).aL z9) f62;exact Tf ⟨hsF,aP.new rfl a62 hnF⟩
   .refine GT.gN (its:=[22,7,9,12,14,16,18,24,26]) (by kernel_rfl) ?_;refine cY (n:=0) [7,9,12,14,16,18,24,26] [22] [_] rfl rfl ?_;simp only[go_sem,seval,h0,a3,a8,a9,hn,aq,ao,aM,af,ae,cz,cq,cp];refine bM λi9 Y9 s9 a9 f9=>?_;replace h0:=s9 _ _ h0;replace a3:=s9 _ _ a3
    try replace hn:=iH (bf a8 f9)
    try replace a8:=s9 _ _ a8
    obtain⟨z9,hs⟩:=nwZ hs f9 s9;simp only[go_sem,seval,h0,a3,a8,a9,hn,aq,ao,aM,af,ae,cz,cq,cp];refine eh rfl (by simp only[go_sem,seval,h0,a3,a8,a9,hn,aq,ao,aM,af,ae,cz,cq,cp]) ?_;refine eh rfl (by simp only[go_sem,seval,h0,a3,a8,a9,hn,aq,ao,aM,af,ae,cz,cq,cp]) ?_;refine WW rfl (W2 _) ?_;refine cY (n:=0) [] [14,16,18,24,26] [_,_,_,_,_] rfl rfl ?_;simp only[go_sem,seval,h0,a3,a8,a9,hn,aq,ao,aM,af,ae,cz,cq,cp];apply sR;simp only[go_sem,seval,aq,ao,aM];refine aF λi62 Z62 s62 a62 f62=>?_;simp only[go_sem,seval];rw[WA];have hsF:=aa.trans ((hs.aL z8).aL z9) s62;have hnF:=aa.none ((hs.aL z8).aL z9) f62;exact Tf ⟨hsF,aP.new rfl a62 hnF⟩
  .refine GT.oY (its:=[22,7,9]) (by kernel_rfl) ?_;refine cY (n:=0) [7,9] [22] [_] rfl rfl ?_;simp only[go_sem,seval,h0,a3,a8,a9,hn,aq,ao,aM,af,ae,cz,cq,cp];refine bM λi9 Y9 s9 a9 f9=>?_;replace h0:=s9 _ _ h0;replace a3:=s9 _ _ a3
   try replace hn:=iH (bf a8 f9)
   try replace a8:=s9 _ _ a8
   obtain⟨z9,hs⟩:=nwZ hs f9 s9;simp only[go_sem,seval,h0,a3,a8,a9,hn,aq,ao,aM,af,ae,cz,cq,cp];refine eh rfl (by simp only[go_sem,seval,h0,a3,a8,a9,hn,aq,ao,aM,af,ae,cz,cq,cp]) ?_;refine eh rfl (by simp only[go_sem,seval,h0,a3,a8,a9,hn,aq,ao,aM,af,ae,cz,cq,cp]) ?_;refine⟨?_,?_⟩
   .refine GT.gN (its:=[12,14,16,18,20,24,26]) (by kernel_rfl) ?_;refine WW rfl (W2 _) ?_;refine cY (n:=0) [] [14,16,18,20,24,26] [_,_,_,_,_,_] rfl rfl ?_;simp only[go_sem,seval,h0,a3,a8,a9,hn,aq,ao,aM,af,ae,cz,cq,cp];refine bM λi8 Z8 s8 a8 f8=>?_;replace h0:=s8 _ _ h0;replace a3:=s8 _ _ a3
    try replace hn:=iH (bf a9 f8).symm
    try replace a9:=s8 _ _ a9
    obtain⟨z8,hs⟩:=nwZ hs f8 s8;simp only[go_sem,seval,h0,a3,a8,a9,hn,aq,ao,aM,af,ae,cz,cq,cp];apply sR;simp only[go_sem,seval,aq,ao,aM];refine aF λi62 Z62 s62 a62 f62=>?_;simp only[go_sem,seval];rw[WA];have hsF:=aa.trans ((hs.aL z8).aL z9) s62;have hnF:=aa.none ((hs.aL z8).aL z9) f62;exact Tf ⟨hsF,aP.new rfl a62 hnF⟩
   .refine GT.gN (its:=[20,7,9,12,14,16,18,24,26]) (by kernel_rfl) ?_;refine cY (n:=0) [7,9,12,14,16,18,24,26] [20] [_] rfl rfl ?_;simp only[go_sem,seval,h0,a3,a8,a9,hn,aq,ao,aM,af,ae,cz,cq,cp];refine bM λi8 Z8 s8 a8 f8=>?_;replace h0:=s8 _ _ h0;replace a3:=s8 _ _ a3
    try replace hn:=iH (bf a9 f8).symm
    try replace a9:=s8 _ _ a9
    obtain⟨z8,hs⟩:=nwZ hs f8 s8;simp only[go_sem,seval,h0,a3,a8,a9,hn,aq,ao,aM,af,ae,cz,cq,cp];refine eh rfl (by simp only[go_sem,seval,h0,a3,a8,a9,hn,aq,ao,aM,af,ae,cz,cq,cp]) ?_;refine eh rfl (by simp only[go_sem,seval,h0,a3,a8,a9,hn,aq,ao,aM,af,ae,cz,cq,cp]) ?_;refine WW rfl (W2 _) ?_;refine cY (n:=0) [] [14,16,18,24,26] [_,_,_,_,_] rfl rfl ?_;simp only[go_sem,seval,h0,a3,a8,a9,hn,aq,ao,aM,af,ae,cz,cq,cp];apply sR;simp only[go_sem,seval,aq,ao,aM];refine aF λi62 Z62 s62 a62 f62=>?_;simp only[go_sem,seval];rw[WA];have hsF:=aa.trans ((hs.aL z8).aL z9) s62;have hnF:=aa.none ((hs.aL z8).aL z9) f62;exact Tf ⟨hsF,aP.new rfl a62 hnF⟩
 .have q1:(R<=s.atom)=False:=H' g1;rw[aK g1]at WA;apply sG;simp only[go_sem,seval,h0,a3,q1,r1,aq,ao,ax,az,cq,cp];refine pJ rfl hfi ?_;by_cases g2:FR>=0
  .have q2:(FR>=0)=True:=RX g2;rw[aI g2]at WA;have hfr2:=W4 g2;obtain⟨fn,rfl⟩:∃fn:Nat,FR=fn:=⟨FR.toNat,by omega⟩
   rw[gM]at WA;apply sG;simp only[go_sem,seval,q2];refine pS rfl (GV b fn (by omega) hh0) ?_;simp only[go_sem,seval,aq,ao];refine aF λi77 Z77 s77 a77 f77=>?_;simp only[go_sem,seval];rw[WA];exact Tf ⟨hs.trans s77,aP.new rfl a77 (hs.none f77)⟩
  .have q2:(FR>=0)=False:=H' g2;rw[aK g2]at WA;apply sG;simp only[go_sem,seval,q2];obtain⟨Rn,rfl⟩:∃Rn:Nat,R=Rn:=⟨R.toNat,by omega⟩
   have e1:((Rn:Int)).toNat=Rn:=gM _;have e2:((Rn:Int)-s.atom).toNat=Rn-k:=by omega
   rw[e1,e2]at WA;refine ay.loop (λm st=>∃(j:Nat) (v:V),j<=Rn-k/\m=Rn-k-j/\aa Z3 st.U/\aP Z3 st.U 24 3 v ((sK b Rn j).map aN)/\st.s 0=.ptr i 0 0/\st.s 3=.ptr i3 0 0/\st.s 11=v/\st.s 12=vI ((Rn-j:Nat):Int)) (Rn-k) ⟨0,.bl,by omega,rfl,aa.refl _,aP.start,rfl,rfl,rfl,rfl⟩ ?_;rintro m ⟨S,ω⟩ ⟨j,v,hj,rfl,hK,hv,t0,t3,t11,t12⟩;simp only at hK hv t0 t3 t11 t12;refine ay.mix 13 ?_;have b3:=hK _ _ a3;have b0:=hK _ _ hh0;by_cases u':j<Rn-k
   .have q3:(((Rn-j:Nat):Int)>s.atom)=True:=RX;have r2:Sn .i64 (((Rn-j:Nat):Int)-1):=ar;apply sR;simp only[go_sem,seval,t0,t3,t11,t12,b3,q3,aq,ao];refine pS rfl (GV b (Rn-j) (by omega) b0) ?_;simp only[go_sem,seval,aq,ao];refine aF λi89 Z89 s89 a89 f89=>?_;obtain⟨idA,Ta,Sd⟩:=hv.dst s89;have Vs:(((sK b Rn j).map aN).length+1)*25<=140737488355328:=by simp only[dO,sK,List.length_range];omega
    simp only[go_sem,seval,Ta,bR a89,Vs];refine bn λi90 Z90 s90 a90 f90=>?_;simp only[go_sem,seval,t12,r2];exact⟨_,by omega,j+1,.own i90 0 (((sK b Rn j).map aN).length+1),by omega,rfl,(Sd Z3 (aa.refl _) Z89 (hK.trans s89)).trans s90,by rw[BI,fw];exact aP.new (by simp) a90 ((hK.trans s89).none f90),by simp[t0,t3];omega⟩
   .have q3:(((Rn-j:Nat):Int)>s.atom)=False:=H';apply sR;simp only[go_sem,seval,t3,t11,t12,b3,q3,aq,ao];have Up:j=Rn-k:=by omega
    rw[WA,<-Up];exact Tf ⟨hs.trans hK,hv.nk hs⟩
open Go.Proofs
def BR(x:Ue×R3):V.agg [vI x.1.R4,vI x.1.Sy,vI x.2.atom,vI x.2.done,.bool x.2.free]=lM x:=rfl
def lg(x:Ue):V.agg [vI x.R4,vI x.Sy]=dd x:=rfl
def uU:AB prog 24 kvS (λs:Ks=>aN s.1):=⟨Jk,IC,Iq,Ik⟩
def fP.C'{b:Bk}{K U:al}{i im j:Nat}{o:Ob}(h:fP b K U i im)(hi:j≠i)(hm:j≠im)(hK:K j=none):fP b K (Vc.C' U j o) i im:=by
 obtain⟨g,⟨es,ck,ks,env,g1,g2⟩,g3⟩:=h.mp;exact⟨(ad hi.symm).trans h.row,⟨g,⟨es,ck,ks,env,(ad hm.symm).trans g1,g2⟩,g3⟩,h.ni,h.nm,h.sub.aL hK⟩
def fP.new{b:Bk}{K U:al}{i im j:Nat}(h:fP b K U i im)(hj:U j=none):j≠i/\j≠im:=
 ⟨λe=>(by rw[e,h.row]at hj;cases hj),λe=>(by obtain⟨g,⟨es,ck,ks,env,g1,-⟩,-⟩:=h.mp;rw[e,g1]at hj;cases hj)⟩
def p9(b:Bk)(hb:dh b)(s:R3)(hm:dc b.atoms s){U:al}{i im:Nat}(h0:U i=some (nh b im)):
 aG prog 26 [.ptr i 0 0,aN s] U λr Z'=>r=bU (bo b s)/\Z'=U:=(CO b hb s hm h0).x9 λ_ _ h=>h.2.nG h.1 rfl
def zW:Ue×R3:=(⟨0,0⟩,⟨0,0,false⟩)
def l6{b:Bk}(hb:dh b){s:R3}(hm:dc b.atoms s):(bo b s).length<=1000000:=by
 have h1:=ui hb hm;have h2:=hb.len;have h3:=hm.1.1;unfold bo;split
 .simp
 .split
  .simp
  .rw[dO,List.length_range];omega
def tD4:List (List Nat):=[[],[0],[1,0],[2,1,0],[],[3,4,2,1,0],[5,3,4,2,1,0],[6,5,3,4,2,1,0],[6,5,3,4,2,1,0],[],[9,7,0,1,2,3,4,5,6],[8,10,0,1,2,3,4,5,6,7,9]]
def tD5:List (List Nat):=[[],[0],[1,0],[2,1,0],[],[3,4,2,1,0],[5,3,4,2,1,0],[6,5,3,4,2,1,0],[6,5,3,4,2,1,0],[],[9,7,0,1,2,3,4,5,6],[8,10,0,1,2,3,4,5,6,7,9]]
def yn(b:Bk)(hb:dh b){L:Int}(hL:jQ b L):∀(f:Nat) (s:R3),gz b s->YS b s<f->∀(K U:al) (i im:Nat),fP b K U i im->
 aG prog 43 [.ptr i 0 0,aN s] U λr Z'=>r=lM (eF b s)/\fP b K Z' i im
 |0,s,_,h,_,_,_,_,_=>by omega
 |f+1,s,hv,hf,K,U,i,im,hJ=>by
  refine e43.q ?_;have hs:=aa.refl U;refine mS 11 ?_;simp only[go_sem,seval,c43,bV.rt,aq,ao];refine aE hs λi3 Z3 s3 a3 f3 z3 hs=>?_;simp only[go_sem,seval,a3,aq,ao];refine aE hs λi4 Z4 s4 a4 f4 z4 hs=>?_;obtain⟨YJ,a3⟩:=RZ a3 f4 s4;have Vk:=hJ.mono hs;simp only[go_sem,seval,a3,aq,ao,aM];refine pR rfl (qi b s Vk.row) ?_;by_cases SO:bZ b s
  .rw[Tv SO];apply sR;simp only[go_sem,seval,a4];obtain⟨n1,n2⟩:=hJ.new z4;exact Tf ⟨by rw[F6 SO];rfl,Vk.C' n1 n2 (hJ.sub.none z4)⟩
  rw[TE SO];have hm:dc b.atoms s:=hv.resolve_right λg=>SO (by unfold bZ;omega);have Uu:=(dF hb).on s hv SO;have hbp:=Ef hb hv SO;have T9:=l6 hb hm;have hlN:=jl (bo b s);obtain⟨g,Wc,hg⟩:=hJ.mp;have h0:=Vk.row;rw[nh,qo]at h0;apply sR;simp only[go_sem,seval,bV.rt,bV.lt];have Se:okK s:=LD hm.1.1 (by have:=hm.1.2;have:=hb.len;omega) hm.2.1 (by have:=yK hb hm;omega);have a5:True:=trivial;cases Vz:g ⟨s,Se⟩with
  |some v=>
   obtain rfl:=hg ⟨s,Se⟩ v Vz;refine ay.tW (by kernel_rfl) 8 (.fork tD4 [0,1,2,3,4] [5,9] [(.leaf (sX tD4 [(9,[5,3,4,2,1,0]),(10,[5,3,4,2,1,0,9,7,6]),(11,[5,3,4,2,1,0,8,10,6,7,9])]) [5,6,7,8,9,10,11]),(.leaf (sX tD4 [(5,[9,3,4,2,1,0]),(6,[9,5,3,4,2,1,0]),(7,[9,6,5,3,4,2,1,0]),(8,[9,6,5,3,4,2,1,0]),(11,[9,8,10,0,1,2,3,4,5,6,7])]) [9,5,6,7,8,10,11])]) (by kernel_rfl) ?_;refine GT.oY (its:=[0,2,4,6,8]) (by kernel_rfl) ?_;refine cY (n:=0) [] [0,2,4,6,8] [_,_,_,_,_] rfl rfl ?_;simp only[go_sem,seval,h0,a3,a5,Vz,aq,ao,aM,eJ,eI,Option.getD_some,Option.isSome_some,cq,cp];refine⟨?_,?_⟩
   .refine GT.gN (its:=[10,12,14,16,18,20,22]) (by kernel_rfl) ?_;refine RE.look rfl rfl rfl rfl ⟨Ks,inferInstance,kvS,λs=>aN s.1,im,g,⟨s,Se⟩,uU,rfl,Wc.sub hs,rfl,rfl⟩ ?_;refine cY (n:=0) [] [12,14,16,18,20,22] [_,_,_,_,_,_] rfl rfl ?_;simp only[go_sem,seval,h0,a3,a5,Vz,aq,ao,aM,eJ,eI,Option.getD_some,Option.isSome_some,cq,cp];refine bM λi5 Z5 s5 a5 f5=>?_;have Ww:=bf a4 f5;have ZI:=bf a3 f5;replace h0:=s5 _ _ h0;replace a3:=s5 _ _ a3;replace a4:=s5 _ _ a4;obtain⟨z5,hs⟩:=nwZ hs f5 s5;simp only[go_sem,seval,h0,a3,a5,Vz,aq,ao,aM,eJ,eI,Option.getD_some,Option.isSome_some,cq,cp];generalize Uj:C' _ i5 _=Y5;replace a5:=Ti Uj;replace a3:=So Uj ZI a3;replace a4:=So Uj Ww a4;replace hs:=Te Uj hs z5;have Yx:=hJ.mono hs;apply sR;simp only[go_sem,seval,a4,a5,eJ,eI];obtain⟨n1,n2⟩:=hJ.new z4;exact Tf ⟨rfl,Yx.C' n1 n2 (hJ.sub.none z4)⟩
   .refine GT.gN (its:=[18,7,9,10,12,14,16,20,22]) (by kernel_rfl) ?_;refine cY (n:=0) [7,9,10,12,14,16,20,22] [18] [_] rfl rfl ?_;simp only[go_sem,seval,h0,a3,a5,Vz,aq,ao,aM,eJ,eI,Option.getD_some,Option.isSome_some,cq,cp];refine bM λi5 Z5 s5 a5 f5=>?_;have Ww:=bf a4 f5;have ZI:=bf a3 f5;replace h0:=s5 _ _ h0;replace a3:=s5 _ _ a3;replace a4:=s5 _ _ a4;obtain⟨z5,hs⟩:=nwZ hs f5 s5;simp only[go_sem,seval,h0,a3,a5,Vz,aq,ao,aM,eJ,eI,Option.getD_some,Option.isSome_some,cq,cp];refine eh rfl (by simp only[go_sem,seval,h0,a3,a5,Vz,aq,ao,aM,eJ,eI,Option.getD_some,Option.isSome_some,cq,cp]) ?_;refine eh rfl (by simp only[go_sem,seval,h0,a3,a5,Vz,aq,ao,aM,eJ,eI,Option.getD_some,Option.isSome_some,cq,cp]) ?_;refine RE.look rfl rfl rfl rfl ⟨Ks,inferInstance,kvS,λs=>aN s.1,im,g,⟨s,Se⟩,uU,rfl,Wc.sub hs,rfl,rfl⟩ ?_;refine cY (n:=0) [] [12,14,16,20,22] [_,_,_,_,_] rfl rfl ?_;simp only[go_sem,seval,h0,a3,a5,Vz,aq,ao,aM,eJ,eI,Option.getD_some,Option.isSome_some,cq,cp];generalize Uj:C' _ i5 _=Y5;replace a5:=Ti Uj;replace a3:=So Uj ZI a3;replace a4:=So Uj Ww a4;replace hs:=Te Uj hs z5;have Yx:=hJ.mono hs;apply sR;simp only[go_sem,seval,a4,a5,eJ,eI];obtain⟨n1,n2⟩:=hJ.new z4;exact Tf ⟨rfl,Yx.C' n1 n2 (hJ.sub.none z4)⟩
  |none=>
   have fin:∀(S:Nat->V) (J:al),aa U J->J i3=some ⟨24,3,[.agg [vI s.atom,vI s.done,.bool s.free]]⟩->J i4=some ⟨97,5,[.agg [vI 0,vI 0,vI 0,vI 0,.bool false]]⟩->
    S 0=.ptr i 0 0->S 3=.ptr i3 0 0->S 4=.ptr i4 0 0->S 6=.bool false->
    ay prog 69 [It.code c43.code.rt.rt.lt.rt,It.code c43.code.rt.rt.rt] ⟨S,J⟩ λst=>WT [.cell true 5 (.t 4)] st λr Z'=>r=lM (eF b s)/\fP b K Z' i im:=by
    clear hs a3 a4 h0 Wc Vk;intro S J hsY a3 a4 t0 t3 t4 t6;have hs:=aa.refl J;refine mS 11 ?_;simp only[go_sem,seval,c43,bV.rt,bV.lt,t0,t3,t4,t6];refine aE hs λi7 Z7 s7 a7 f7 z7 hs=>?_;obtain⟨n37,a3⟩:=RZ a3 f7 s7;obtain⟨WQ,a4⟩:=RZ a4 f7 s7;have hJ7:=hJ.mono (hsY.trans hs);simp only[go_sem,seval,t0,t3,t4,a3,aM];refine pS rfl (p9 b hb s hm hJ7.row) ?_;simp only[go_sem,seval,hlN];have z7':=hsY.none z7;obtain⟨m3,k3⟩:=hJ.new z3;obtain⟨m4,k4⟩:=hJ.new z4;obtain⟨m7,k7⟩:=hJ.new z7';have K7:=hJ.sub.none z7';have K4:=hJ.sub.none z4;have K3:=hJ.sub.none z3;have Tr:(pQ b s).length=(bo b s).length:=by unfold pQ;rw[dO]
    refine ay.loop (λm st=>∃(j:Nat) (o:Option (Ue×R3)),j<=(bo b s).length/\m=(bo b s).length-j/\(j=0/\o=none\/0<j/\∃y,o=some y)/\lQ (pQ b s) none=lQ ((pQ b s).drop j) o/\fP b K st.U i im/\
     st.U i3=some ⟨24,3,[.agg [vI s.atom,vI s.done,.bool s.free]]⟩/\st.U i4=some ⟨97,5,[.agg [vI 0,vI 0,vI 0,vI 0,.bool false]]⟩/\st.U i7=some ⟨97,5,[lM (o.getD zW)]⟩/\
     st.s 0=.ptr i 0 0/\st.s 3=.ptr i3 0 0/\st.s 4=.ptr i4 0 0/\st.s 7=.ptr i7 0 0/\st.s 28=bU (bo b s)/\st.s 29=vI (bo b s).length/\st.s 30=vI j) (bo b s).length ⟨0,none,by omega,rfl,.inl ⟨rfl,rfl⟩,rfl,hJ7,a3,a4,a7,t0,t3,t4,rfl,rfl,rfl,rfl⟩ ?_
    clear a3 a4 a7 t0 t3 t4 t6 hs hJ7;rintro m ⟨S',ω⟩ ⟨j,o,hj,rfl,hjo,hpk,YT,a3,a4,a7,t0,t3,t4,t7,t28,t29,t30⟩;simp only at YT a3 a4 a7 t0 t3 t4 t7 t28 t29 t30;refine ay.mix 11 ?_;by_cases u':j<(bo b s).length
    .have q:((j:Int)<(bo b s).length)=True:=RX;have R0:=λU=>iL (U:=U) u';have Wu:=mT (bo b s)[j];have Vh:(bo b s)[j]∈bo b s:=SU u';have hcd:(pQ b s).drop j=((eF b (bo b s)[j]).1.on (cH b (bo b s)[j]),(bo b s)[j])::(pQ b s).drop (j+1):=by
      rw[jt (by omega)];congr 1;simp[pQ]
     rw[hcd]at hpk;clear hcd;generalize (bo b s)[j]=t at*;obtain⟨vt,mt⟩:=Uu t Vh;obtain⟨g1,g2,g3,g4⟩:=FB hb hL vt;obtain⟨g5,g6⟩:=nF hb t;have hatt:0<=t.atom/\t.atom<b.SJ.length:=by
      have:=hb.brk;rcases vt with h|h
      .exact⟨h.1.1,by have:=h.1.2;omega⟩
      .omega
     have r1:Sn .i64 ((eF b t).1.R4+1):=ar;have r2:Sn .i64 ((eF b t).1.Sy+cH b t):=ar;have r3:=rI j;have hC:dd ((eF b t).1.on (cH b t))=.agg [vI ((eF b t).1.R4+1),vI ((eF b t).1.Sy+cH b t)]:=rfl;have hs:=aa.refl ω;apply sR;simp only[go_sem,seval,t0,t28,t29,t30,q,R0,Wu,aq,ao];refine aE hs λi9 Y9 s9 a9 f9 z9 hs=>?_;obtain⟨n39,a3⟩:=RZ a3 f9 s9;obtain⟨Xe,a4⟩:=RZ a4 f9 s9;obtain⟨n79,a7⟩:=RZ a7 f9 s9;simp only[go_sem,seval,a9,t0,t28,t29,t30,aq,ao];generalize Tb:C' _ i9 _=Z9;replace a9:=Ti Tb;replace a3:=So Tb n39 a3;replace a4:=So Tb Xe a4;replace a7:=So Tb n79 a7;replace hs:=Te Tb hs z9;simp only[go_sem,seval,t0,a9,aM];have hJ9:=YT.mono hs;obtain⟨m9,k9⟩:=YT.new z9;refine TX rfl (yn b hb hL f t vt (by omega) _ _ _ _ hJ9.off) ?_;rintro r X2 ⟨rfl,ZR⟩;have get:∀q o,q≠i->q≠im->Z9 q=some o->X2 q=some o:=λq o h1 h2 h3=>ZR.sub _ _ (by rw[eH h1 h2];exact h3);replace a3:=get _ _ m3 k3 a3;replace a4:=get _ _ m4 k4 a4;replace a7:=get _ _ m7 k7 a7;replace a9:=get _ _ m9 k9 a9;have hJ3:=ZR.less hJ9.lq;clear get ZR hJ9 YT;replace hs:=aa.refl X2;generalize eF b t=B at*;have hW:V.agg [vI (B.1.R4+1),vI (B.1.Sy+cH b t),vI t.atom,vI t.done,.bool t.free]=lM (B.1.on (cH b t),t):=rfl;apply sR;simp only[go_sem,seval,t0,eJ,eI];refine aE hs λi10 XV TN Sb f10 UH hs=>?_;obtain⟨n310,a3⟩:=RZ a3 f10 TN;obtain⟨Vw,a4⟩:=RZ a4 f10 TN;obtain⟨TB,a7⟩:=RZ a7 f10 TN;obtain⟨Vi,a9⟩:=RZ a9 f10 TN;simp only[go_sem,seval,Sb];generalize Ss:C' _ i10 _=Y10;replace Sb:=Ti Ss;replace a3:=So Ss n310 a3;replace a4:=So Ss Vw a4;replace a7:=So Ss TB a7;replace a9:=So Ss Vi a9;replace hs:=Te Ss hs UH;have hJ10:=hJ3.mono hs;refine⟨r1,?_⟩;simp only[go_sem,seval,t0,a9,Sb,aq,ao,aM];refine Go.nP rfl rfl rfl (λZ1 h1=>qe b t hatt (h1 _ _ hJ10.row)) ?_;rcases hjo with⟨rfl,rfl⟩|⟨hj0,y,rfl⟩
     .have q50:(((0:Nat):Int)=0)=True:=RX rfl;apply sG;simp only[go_sem,seval,Sb,r2,q50];generalize Ss:C' _ i10 _=Y10;replace Sb:=Ti Ss;replace a3:=So Ss n310 a3;replace a4:=So Ss Vw a4;replace a7:=So Ss TB a7;replace a9:=So Ss Vi a9;replace hs:=Te Ss hs UH;have hJ11:=hJ3.mono hs;rw[Option.getD_none]at a7;simp only[go_sem,seval,t0,t7,t30,a9,Sb,a7,q50,r3,aq,ao,eJ,eI];exact⟨ar (by decide) (by decide),_,by omega,1,some (B.1.on (cH b t),t),by omega,rfl,.inr ⟨by omega,_,rfl⟩,hpk,hJ11.C' m7 k7 K7,(ad n37).trans a3,(ad WQ).trans a4,rfl,by simp[t0,t3,t4,t7,t28,t29]⟩
     .have q50:((j:Int)=0)=False:=H';apply sG;simp only[go_sem,seval,Sb,r2,q50];generalize Ss:C' _ i10 _=Y10;replace Sb:=Ti Ss;replace a3:=So Ss n310 a3;replace a4:=So Ss Vw a4;replace a7:=So Ss TB a7;replace a9:=So Ss Vi a9;replace hs:=Te Ss hs UH;have hJ11:=hJ3.mono hs;rw[Option.getD_some]at a7;simp only[go_sem,seval,t0,t7,a9,Sb,a7,q50,aq,ao,eJ,eI];refine pR rfl (Fg (B.1.on (cH b t)) y.1 _) ?_;by_cases hl:(B.1.on (cH b t)).lt y.1
      .rw[Tv hl];apply sR;simp only[go_sem,seval,t0,t7,t30,a9,Sb,a7,r3,aq,ao,eJ,eI];exact⟨_,by omega,j+1,some (B.1.on (cH b t),t),by omega,rfl,.inr ⟨by omega,_,rfl⟩,by rw[hpk,lQ,aI hl],hJ11.C' m7 k7 K7,(ad n37).trans a3,(ad WQ).trans a4,rfl,by simp[t0,t3,t4,t7,t28,t29]⟩
      .rw[TE hl];apply sR;simp only[go_sem,seval,t30,r3];exact⟨_,by omega,j+1,some y,by omega,rfl,.inr ⟨by omega,_,rfl⟩,by rw[hpk,lQ,aK hl],hJ11,a3,a4,by rw[Option.getD_some];exact a7,by simp[t0,t3,t4,t7,t28,t29]⟩
    .have q:((j:Int)<(bo b s).length)=False:=H'
     (refine ay.bB Tx.nothing 8 ?_;simp only[go_sem,seval,px,t0,t3,t4,t7,t29,t30,q])
     have Up:j=(bo b s).length:=by omega
     have hoe:o.getD zW=eF b s:=by rw[hbp,hpk,Up,<-Tr,uY];rfl
     rw[hoe]at a7;have h0:=YT.row;obtain⟨gω,hmZ,hgZ⟩:=YT.mp;rw[nh,qo]at h0;refine ay.Rf [6] rfl (XC.go 6 ?_);apply sG;simp only[go_sem,seval,t0,t3,t7,h0,a3,a7,aq,ao,aM,eJ,eI,BR,cq,cp,DX,List.take_zero];refine XC.tc (a:=⟨s,Se⟩) (by decide) rfl rfl uU rfl hmZ rfl rfl ?_;intro ob TT hm';refine XC.nil ?_;have b4:=(ad (o:=ob) k4).trans a4;have b7:=(ad (o:=ob) k7).trans a7;have hJe:fP b K (Vc.C' ω im ob) i im:=⟨(ad YT.ne).trans YT.row,⟨_,hm',λs' v' hh=>by
      by_cases hss:(⟨s,Se⟩:Ks)=s'
      .rw[aI hss]at hh;rw[<-hss];exact(Option.some.inj hh).symm
      .rw[aK hss]at hh;exact hgZ s' v' hh⟩,YT.ni,YT.nm,YT.sub.aL YT.nm⟩
     apply sR;simp only[go_sem,seval,t4,t7,b4,b7,eJ,eI];exact Tf ⟨rfl,hJe.C' m4 k4 K4⟩
   refine ay.tW (by kernel_rfl) 8 (.fork tD5 [0,1,2,3,4] [5,9] [(.leaf (sX tD5 [(9,[5,3,4,2,1,0]),(10,[5,3,4,2,1,0,9,7,6]),(11,[5,3,4,2,1,0,8,10,6,7,9])]) [5,6,7,8,9,10,11]),(.leaf (sX tD5 [(5,[9,3,4,2,1,0]),(6,[9,5,3,4,2,1,0]),(7,[9,6,5,3,4,2,1,0]),(8,[9,6,5,3,4,2,1,0]),(11,[9,8,10,0,1,2,3,4,5,6,7])]) [9,5,6,7,8,10,11])]) (by kernel_rfl) ?_;refine GT.oY (its:=[0,2,4,6,8]) (by kernel_rfl) ?_;refine cY (n:=0) [] [0,2,4,6,8] [_,_,_,_,_] rfl rfl ?_;simp only[go_sem,seval,h0,a3,a5,Vz,aq,ao,aM,Option.getD_none,Option.isSome_none,cq,cp];refine⟨?_,?_⟩
   .refine GT.gN (its:=[10,12,14,16,18,20,22]) (by kernel_rfl) ?_;refine RE.look rfl rfl rfl rfl ⟨Ks,inferInstance,kvS,λs=>aN s.1,im,g,⟨s,Se⟩,uU,rfl,Wc.sub hs,rfl,rfl⟩ ?_;refine cY (n:=0) [] [12,14,16,18,20,22] [_,_,_,_,_,_] rfl rfl ?_;simp only[go_sem,seval,h0,a3,a5,Vz,aq,ao,aM,Option.getD_none,Option.isSome_none,cq,cp];refine bM λi5 Z5 s5 a5 f5=>?_;have Ww:=bf a4 f5;have ZI:=bf a3 f5;replace h0:=s5 _ _ h0;replace a3:=s5 _ _ a3;replace a4:=s5 _ _ a4;obtain⟨z5,hs⟩:=nwZ hs f5 s5;simp only[go_sem,seval,h0,a3,a5,Vz,aq,ao,aM,Option.getD_none,Option.isSome_none,cq,cp];exact fin _ _ (hs.aL z5) ((ad ZI).trans a3) ((ad Ww).trans a4) rfl rfl rfl rfl
   .refine GT.gN (its:=[18,7,9,10,12,14,16,20,22]) (by kernel_rfl) ?_;refine cY (n:=0) [7,9,10,12,14,16,20,22] [18] [_] rfl rfl ?_;simp only[go_sem,seval,h0,a3,a5,Vz,aq,ao,aM,Option.getD_none,Option.isSome_none,cq,cp];refine bM λi5 Z5 s5 a5 f5=>?_;have Ww:=bf a4 f5;have ZI:=bf a3 f5;replace h0:=s5 _ _ h0;replace a3:=s5 _ _ a3;replace a4:=s5 _ _ a4;obtain⟨z5,hs⟩:=nwZ hs f5 s5;simp only[go_sem,seval,h0,a3,a5,Vz,aq,ao,aM,Option.getD_none,Option.isSome_none,cq,cp];refine eh rfl (by simp only[go_sem,seval,h0,a3,a5,Vz,aq,ao,aM,Option.getD_none,Option.isSome_none,cq,cp]) ?_;refine eh rfl (by simp only[go_sem,seval,h0,a3,a5,Vz,aq,ao,aM,Option.getD_none,Option.isSome_none,cq,cp]) ?_;refine RE.look rfl rfl rfl rfl ⟨Ks,inferInstance,kvS,λs=>aN s.1,im,g,⟨s,Se⟩,uU,rfl,Wc.sub hs,rfl,rfl⟩ ?_;refine cY (n:=0) [] [12,14,16,20,22] [_,_,_,_,_] rfl rfl ?_;simp only[go_sem,seval,h0,a3,a5,Vz,aq,ao,aM,Option.getD_none,Option.isSome_none,cq,cp];exact fin _ _ (hs.aL z5) ((ad ZI).trans a3) ((ad Ww).trans a4) rfl rfl rfl rfl
open Go.Proofs
def UX(l:List Nd)(w h:Int):Int:=if fm l w h≠0 then fm l w h else if((bK l w h).V9.length:Int)>0 then 4 else 0
def kN{l:List Nd}{w h:Int}(h0:UX l w h=0):fm l w h=0/\(bK l w h).V9=[]:=by
 unfold UX at h0;split at h0
 .rename_i g;exact absurd h0 g
 .rename_i g;split at h0
  .cases h0
  .rename_i g2;exact⟨Decidable.byContradiction g,td (by omega)⟩
def Hu(l:List Nd)(hl:dN l)(w h:Int)(h0:UX l w h≠0):aX prog 24 [aQ l,vI w,vI h] (.Sa [.V',vI (UX l w h)]):=λU=>by
 refine e24.q ?_;have hs:=aa.refl U;have hn:=JQ l hl w h;unfold xS at hn;refine mS 11 ?_;simp only[go_sem,seval,c24];refine pR rfl (hn _) ?_;unfold UX at h0|-;by_cases he:fm l w h=0
 .have hb:=ij hl he;rw[aK (show¬(fm l w h≠0)from λk=>k he)]at h0|-;rw[aI he,he];generalize bK l w h=b at*;have Yy:=jT b.V9;by_cases hf:(b.V9.length:Int)>0
  .rw[aI hf];have q1:((0:Int)≠0)=False:=H' λh=>h rfl;have q2:((b.V9.length:Int)>0)=True:=RX hf;have YD:(vU b).cells=[bL b.atoms,bj b.V9,vI b.R1]:=rfl;have Vz:(vU b).stays=true:=rfl;apply sR;simp only[go_sem,seval,q1];refine pS rfl (wY b hb.toBkFull _) ?_;simp only[go_sem,seval,YD,Vz];refine aE hs λi10 XV TN Sb f10 UH hs=>?_;simp only[go_sem,seval,Sb,YD,Vz,Yy,q2,af,ae,av,au];exact aD.pure (hs.aL UH) rfl
  .rw[aK hf]at h0;exact absurd rfl h0
 .rw[aI (show fm l w h≠0 from he)]at h0|-;have q1:(fm l w h≠0)=True:=RX he;rw[aK he];generalize fm l w h=E at*;apply sR;simp only[go_sem,seval,q1];exact aD.same rfl
def qD(l:List Nd)(hl:dN l)(w h:Int)(h0:UX l w h=0)(U:al):
 aG prog 24 [aQ l,vI w,vI h] U λr Z'=>∃i im,r=.Sa [.ptr i 0 0,vI 0]/\fP (bK l w h) U Z' i im:=by
 refine e24.q ?_;have hs:=aa.refl U;obtain⟨he,hf⟩:=kN h0;have hn:=JQ l hl w h;unfold xS at hn;rw[aI he,he]at hn;have hb:=ij hl he;have Vy:(bK l w h).nodes=l:=rfl;have hbh:(bK l w h).h=h:=rfl;clear h0;generalize bK l w h=b at*;subst Vy;subst hbh;have Yy:=jT b.V9;have q1:((0:Int)≠0)=False:=H' λh=>h rfl;have q2:((b.V9.length:Int)>0)=False:=H' (by rw[hf];decide);have YD:(vU b).cells=[bL b.atoms,bj b.V9,vI b.R1]:=rfl;have Vz:(vU b).stays=true:=rfl;refine mS 11 ?_;simp only[go_sem,seval,c24];refine pS rfl (hn _) ?_;simp only[go_sem,seval,q1];refine pS rfl (wY b hb.toBkFull _) ?_;simp only[go_sem,seval,YD,Vz];refine aE hs λi10 XV TN Sb f10 UH hs=>?_;simp only[go_sem,seval,Sb,YD,Vz,af,ae,av,au];generalize Ss:C' _ i10 _=Y10;replace Sb:=Ti Ss;replace hs:=Te Ss hs UH;simp only[go_sem,seval,Sb,YD,Vz,Yy,q2,af,ae,av,au];refine ay.tW (by kernel_rfl) 8 (.fork [[],[],[1],[],[3],[],[],[0,2,4,5,6,1,3],[7,0,2,4,5,6,1,3],[8,4,0,1,2,3,5,6,7],[9,0,1,2,3,4,5,6,7,8]] [0,1,2,3,5] [4,6] [(.leaf [[],[],[1],[],[3],[],[4,3],[4,3,0,2,5,6,1],[4,3,7,0,2,5,6,1],[4,3,8,0,1,2,5,6,7],[4,3,9,0,1,2,5,6,7,8]] [4,6,7,8,9,10]),(.leaf [[],[],[1],[],[6,3],[],[],[6,0,2,4,5,1,3],[6,7,0,2,4,5,1,3],[6,8,4,0,1,2,3,5,7],[6,9,0,1,2,3,4,5,7,8]] [6,4,7,8,9,10])]) (by kernel_rfl) ?_;refine GT.oY (its:=[0,2,4,6,10]) (by kernel_rfl) ?_;refine cY (n:=0) [] [0,2,4,6,10] [_,_,_,_,_] rfl rfl ?_;simp only[go_sem,seval,Sb,YD,Vz,ab,ai,af,ae,av,au,ax,az,cq,cp];refine⟨?_,?_⟩
 .refine GT.gN (its:=[8,5,12,5,14,16,18,20]) (by kernel_rfl) ?_;refine WW rfl (wU b hb.toBkFull _) ?_;refine eh rfl (by simp only[go_sem,seval,Sb,YD,Vz,ab,ai,af,ae,av,au,ax,az,cq,cp]) ?_;refine RE.mkMap rfl rfl rfl rfl λim him=>?_;replace Sb:=(ad (o:=gh (.map #[] 0) []) (bf Sb him)).trans Sb;have zm:=hs.none him;replace hs:=hs.aL (o:=gh (.map #[] 0) []) zm;refine eh rfl (by simp only[go_sem,seval,Sb,YD,Vz,ab,ai,af,ae,av,au,ax,az,cq,cp]) ?_;refine cY (n:=0) [] [14,16,18,20] [_,_,_,_] rfl rfl ?_;simp only[go_sem,seval,Sb,YD,Vz,ab,ai,af,ae,av,au,ax,az,cq,cp];refine xd hs λi35 Z35 s35 a35 f35 z35 hs=>?_;simp only[go_sem,seval,Sb,YD,Vz,ab,ai,af,ae,av,au,ax,az,cq,cp];apply sR;simp only[go_sem,seval];exact Tf ⟨i35,im,rfl,a35,⟨λ_=>none,oK.nil kvS (s35 _ _ aA),λs v h=>by cases h⟩,z35,zm,hs⟩
 .refine GT.gN (its:=[12,5,8,5,14,16,18,20]) (by kernel_rfl) ?_;refine RE.mkMap rfl rfl rfl rfl λim him=>?_;replace Sb:=(ad (o:=gh (.map #[] 0) []) (bf Sb him)).trans Sb;have zm:=hs.none him;replace hs:=hs.aL (o:=gh (.map #[] 0) []) zm;refine eh rfl (by simp only[go_sem,seval,Sb,YD,Vz,ab,ai,af,ae,av,au,ax,az,cq,cp]) ?_;refine WW rfl (wU b hb.toBkFull _) ?_;refine eh rfl (by simp only[go_sem,seval,Sb,YD,Vz,ab,ai,af,ae,av,au,ax,az,cq,cp]) ?_;refine cY (n:=0) [] [14,16,18,20] [_,_,_,_] rfl rfl ?_;simp only[go_sem,seval,Sb,YD,Vz,ab,ai,af,ae,av,au,ax,az,cq,cp];refine xd hs λi35 Z35 s35 a35 f35 z35 hs=>?_;simp only[go_sem,seval,Sb,YD,Vz,ab,ai,af,ae,av,au,ax,az,cq,cp];apply sR;simp only[go_sem,seval];exact Tf ⟨i35,im,rfl,a35,⟨λ_=>none,oK.nil kvS (s35 _ _ aA),λs v h=>by cases h⟩,z35,zm,hs⟩
open Go.Proofs
def fP.neR{b:Bk}{K U:al}{i im a e:Nat}{rows:List V}(h:fP b K U i im)(ha:U a=some ⟨e,3,rows⟩):a≠i/\a≠im:=
 ⟨λg=>(by rw[g,h.row]at ha;simp[nh]at ha),λg=>(by obtain⟨_,⟨es,ck,ks,env,g1,-⟩,-⟩:=h.mp;rw[g,g1]at ha;simp[gh]at ha)⟩
def aP.neD{b:Bk}{K K' U:al}{i im e a n:Nat}{v:V}{rows:List V}(ho:aP K U e 3 v rows)(h:fP b K' U i im)(hv:v=.own a 0 n):a≠i/\a≠im:=by
 rcases ho with⟨h1,-⟩|⟨id,h1,h2,-⟩
 .rw[h1]at hv;cases hv
 .rw[h1]at hv;cases hv;exact h.neR h2
def fP.del{b:Bk}{K U:al}{i im:Nat}{idA:Option Nat}(h:fP b K U i im)(h1:∀a,idA=some a->(a≠i/\a≠im)/\K a=none):fP b K (Vc.bW U idA) i im:=by
 cases idA with
 |none=>exact h
 |some a=>
  obtain⟨⟨n1,n2⟩,n3⟩:=h1 a rfl;obtain⟨g,⟨es,ck,ks,env,g1,g2⟩,g3⟩:=h.mp;exact⟨(eV n1.symm).trans h.row,⟨g,⟨es,ck,ks,env,(eV n2.symm).trans g1,g2⟩,g3⟩,h.ni,h.nm,h.sub.uL n3⟩
def Ak{b:Bk}(hb:dh b){L:Int}(hL:jQ b L){n:Nat}{s:R3}(hv:gz b s)(h:(n:Int)*L+kJ b L s<=kJ b L ⟨0,0,true⟩):n<=100000:=by
 have h0:=B8 hb hL hv;have hL1:=hL.pos;have Vb:=hL.rest;have hna:=hL.na;have hm:((b.atoms.length:Int)-0)*L<=10000*L:=Int.mul_le_mul_of_nonneg_right (by omega) (by omega);have hp:kJ b L ⟨0,0,true⟩<=42768*L:=by
  unfold kJ;simp only[Int.toNat_zero];omega
 refine Decidable.byContradiction λhc=>?_;have:=Int.mul_le_mul_of_nonneg_right (show(100001:Int)<=n by omega) (show 0<=L by omega);omega
def Dd(b:Bk)(hb:dh b){L:Int}(hL:jQ b L){K0 U:al}{i im:Nat}(hJ:fP b K0 U i im)(fn:FuncId)(caps:List V)(on:R3->R3)(SY:∀s,gz b s->¬bZ b s->on s∈bo b s)
 (hf:∀(J:al) (s:R3),gz b s->¬bZ b s->fP b (qP U i im) J i im->aG prog fn (aN s::caps) J λr X'=>r=aN (on s)/\fP b (qP J i im) X' i im):
 aG prog 44 [.ptr i 0 0,.fn fn caps] U λr Z'=>fP b (qP U i im) Z' i im/\aP (qP U i im) Z' 24 3 r ((l7 b on jj ⟨0,0,true⟩).map aN):=by
 refine e44.q ?_;have hs:=aa.refl U;refine mS 7 ?_;simp only[go_sem,seval,c44];refine aE hs λi6 Z6 s6 a6 f6 z6 hs=>?_;simp only[go_sem,seval,a6];generalize Wq:C' _ i6 _=Y6;replace a6:=Ti Wq;replace hs:=Te Wq hs z6;have hJ6:=hJ.off.mono hs;refine ay.loop (λm st=>∃(s:R3) (pre:List R3) (v:V) (i6 f:Nat),m=YS b s/\gz b s/\YS b s<f/\l7 b on jj ⟨0,0,true⟩=pre++l7 b on f s/\(pre.length:Int)*L+kJ b L s<=kJ b L ⟨0,0,true⟩/\
  fP b (qP U i im) st.U i im/\aP (qP U i im) st.U 24 3 v (pre.map aN)/\(∀n,v≠.own i6 0 n)/\st.U i6=some ⟨24,3,[aN s]⟩/\st.s 0=.ptr i 0 0/\st.s 1=.fn fn caps/\st.s 5=v/\st.s 6=.ptr i6 0 0)
  (YS b ⟨0,0,true⟩) ⟨⟨0,0,true⟩,[],.bl,i6,jj,rfl,jK b hb,Bz hb,rfl,by simp,hJ6,aP.start,λn h=>(by cases h),a6,rfl,rfl,rfl,rfl⟩ ?_
 clear a6 z6 hJ6 hs;rintro m ⟨S,ω⟩ ⟨s,pre,v,i6,f,rfl,hv,hmf,SB,hph,YT,ho,hap,a6,t0,t1,t5,t6⟩;simp only at YT ho a6 t0 t1 t5 t6;obtain⟨f,rfl⟩:∃f',f=f'+1:=⟨f-1,by omega⟩
 rw[l7]at SB;refine mS 7 ?_;simp only[go_sem,seval,t0,t6,a6,aq,ao,aM];refine pR rfl (qi b s YT.row) ?_;by_cases SO:bZ b s
 .rw[Tv SO];rw[aI SO,kr]at SB;apply sR;simp only[go_sem,seval,t5,Bool.not_true];rw[SB];exact Tf ⟨YT,ho⟩
 .rw[TE SO];rw[aK SO]at SB;have Vh:=SY s hv SO;obtain⟨vt,mt⟩:=(dF hb).on s hv SO _ Vh;have Sg:=zg hb hL hv SO Vh;have Wr:=Ak hb hL hv hph;apply sR;simp only[go_sem,seval,t5,t6,a6,Bool.not_false,aq,ao,aM];refine aF λi17 Z17 X6 Zi f17=>?_;obtain⟨idA,Ta,ZF⟩:=ho.P3 X6;have Vs:((pre.map aN).length+1)*25<=140737488355328:=by rw[dO];omega
  simp only[go_sem,seval,Ta,bR Zi,Vs];refine bn λi18 Z18 s18 WV f18=>?_;have hJ17:=YT.mono X6;have hJ18:=(hJ17.del λa ha=>⟨ho.neD YT (ZF a ha).2.2,(ZF a ha).1⟩).mono s18;have k18:=hJ17.sub.none f18;obtain⟨m18,m18'⟩:=hJ17.new f18;replace a6:Z18 i6=some ⟨24,3,[aN s]⟩:=s18 _ _ (by
   cases idA with
   |none=>exact X6 _ _ a6
   |some a=>exact(eV λg=>hap _ (by rw[g];exact(ZF a rfl).2.2)).trans (X6 _ _ a6))
  have hs:=aa.refl Z18;simp only[go_sem,seval,t6,a6,aq,ao,aM];refine aE hs λi20 Z20 s20 a20 f20 z20 hs=>?_;obtain⟨n1820,WV⟩:=RZ WV f20 s20;simp only[go_sem,seval,a20,aq,ao,aM];generalize hq20:C' _ i20 _=Y20;replace a20:=Ti hq20;replace WV:=So hq20 n1820 WV;replace hs:=Te hq20 hs z20;simp only[go_sem,seval,t1,a20,aq,ao,aM];have hJ20:=hJ18.mono hs;obtain⟨m20,m20'⟩:=hJ18.new z20;have k20:=hJ18.sub.none z20;refine TX rfl (hf Y20 s hv SO hJ20) ?_;rintro r X' ⟨rfl,Wp⟩;replace a20:=Wp.sub _ _ ((eH m20 m20').trans a20);replace WV:=Wp.sub _ _ ((eH m18 m18').trans WV);have ZR:=Wp.less hJ20.lq;apply sR;simp only[go_sem,seval,a20,aq,ao];exact⟨_,mt,on s,pre++[s],.own i18 0 ((pre.map aN).length+1),i20,f,rfl,vt,by omega,by rw[SB,mY];rfl,by rw[kL,List.length_singleton,Int.natCast_add,Int.add_mul];simp only[Int.natCast_one,Int.one_mul];omega,ZR.C' m20 m20' k20,
   by rw[fw];exact aP.new (by simp) ((ad n1820).trans WV) k18,λn h=>(by cases h;exact n1820 rfl),aA,by simp[t0,t1]⟩
open Go.Proofs
def zH{s:Nat->V}{U:al}{a1:Bool}{n1 d e t:Nat}{Post:V->al->Prop}:
 WT [.tmp (.t t),.cell a1 n1 (.t d),.tmp (.t e)] ⟨s,U⟩ Post=eA (dr U a1 n1 (s d)) λv=>aD (.Sa [s t,v,s e]) U Post:=by
 unfold WT aD tk;simp only[iT,jA,VX.ev];cases dr U a1 n1 (s d)<;>simp[eA]
def Fy(x:Ue×R3):jE true 2 3 (lM x)=some (aN x.2):=rfl
def Ec(x:Ue×R3):jE true 0 2 (lM x)=some (dd x.1):=rfl
def Ll(b:Bk)(hb:dh b){L:Int}(hL:jQ b L)(s:R3)(hv:gz b s){K J:al}{i im i9:Nat}(hJ:fP b K J i im)(a9:J i9=some ⟨69,1,[.ptr i 0 0]⟩):
 aG prog 45 [aN s,.ptr i9 0 0] J λr X'=>r=aN (eF b s).2/\fP b K X' i im:=by
 refine e45.q ?_;have hs:=aa.refl J;refine mS 4 ?_;simp only[go_sem,seval,c45,aq,ao];refine aE hs λi2 Z2 s2 a2 f2 z2 hs=>?_;obtain⟨n92,a9⟩:=RZ a9 f2 s2;simp only[go_sem,seval,a2];refine aE hs λi3 Z3 s3 a3 f3 z3 hs=>?_;obtain⟨n23,a2⟩:=RZ a2 f3 s3;obtain⟨n93,a9⟩:=RZ a9 f3 s3;have hJ3:=hJ.mono hs;obtain⟨n3,n3'⟩:=hJ.new z3;have k3:=hJ.sub.none z3;simp only[go_sem,seval,a9,a2,aq,ao,aM];refine TX rfl (yn b hb hL (YS b s+1) s hv (by omega) _ _ _ _ hJ3.off) ?_;rintro r Y2 ⟨rfl,ZR⟩;replace a3:=ZR.sub _ _ ((eH n3 n3').trans a3);have Vk:=ZR.less hJ3.lq;apply sR;simp only[BB,seval,<-decide_not,bp,fW,aV,dP,dR,dI,dQ,eo,bH,gm,bu,fO,dM,fL,cP,cC,bQ,iB,cm,cB,cd,Ty,jD,cW,bJ,ll,dp,bS,cN,cD,jH,binBV,bG,dj,Tx.nothing,a3,Fy,aq,ao,V.dV,V.dW,V.df,V.dT,V.fa,V.ef,V.di,V.eW,V.dZ,V.eZ,V.ed,V.dX,V.dk,V.ee,V.fi,V.ec,V.dg,V.fc,V.dU,V.fg];exact Tf ⟨rfl,Vk.C' n3 n3' k3⟩
def Jz{b:Bk}(hb:dh b)(s:R3)(hv:gz b s)(hf:¬bZ b s):(eF b s).2∈bo b s:=by
 obtain⟨A,t,B,e1,e2,-⟩:=wI (rank:=cH b) (dflt:=(⟨0,0,false⟩:R3)) (dF hb) hv (tN hb hv) hf;unfold eF;rw[e2,e1];simp
def Nc(l:List Nd)(hl:dN l)(w h:Int)(h0:UX l w h=0)(U:al):
 aG prog 16 [aQ l,vI w,vI h] U λr Z'=>∃v,r=.Sa [v,dd (eF (bK l w h) ⟨0,0,true⟩).1,vI 0]/\aa U Z'/\aP U Z' 24 3 v ((CT (bK l w h)).map aN):=by
 refine e16.q ?_;have hs:=aa.refl U;have hc:=λU=>qD l hl w h h0 U;obtain⟨he,-⟩:=kN h0;have hb:=ij hl he;have hL:=vK he;generalize bK l w h=b at*;have q0:((0:Int)≠0)=False:=H' λh=>h rfl;refine mS 10 ?_;simp only[go_sem,seval,c16,bV.rt];refine aE hs λi7 Z7 s7 a7 f7 z7 hs=>?_;simp only[go_sem,seval,a7];refine TX rfl (hc _) ?_;rintro r Z1 ⟨i,im,rfl,hJ⟩;obtain⟨m7,m7'⟩:=hJ.neK a7;replace a7:=hJ.sub _ _ a7;replace hJ:=hJ.less hs;replace hs:=aa.refl Z1;apply sR;simp only[go_sem,seval];refine aE hs λi9 Y9 s9 a9 f9 z9 hs=>?_;obtain⟨n79,a7⟩:=RZ a7 f9 s9;obtain⟨m9,m9'⟩:=hJ.new z9;have k9:=hJ.sub.none z9;simp only[go_sem,seval,a9,q0];generalize Tb:C' _ i9 _=Z9;replace a9:=Ti Tb;replace a7:=So Tb n79 a7;replace hs:=Te Tb hs z9;have hJ9:=hJ.mono hs;refine TX rfl (yn b hb hL jj ⟨0,0,true⟩ (jK b hb) (Bz hb) _ _ _ _ hJ9.off) ?_;rintro r Z2 ⟨rfl,ZR⟩;replace a7:=ZR.sub _ _ ((eH m7 m7').trans a7);replace a9:=ZR.sub _ _ ((eH m9 m9').trans a9);have hJ3:=ZR.less hJ9.lq;clear ZR hJ9 hJ hs;have SY:=Jz hb;apply sR;simp only[BB,seval,<-decide_not,bp,fW,aV,dP,dR,dI,dQ,eo,bH,gm,bu,fO,dM,fL,cP,cC,bQ,iB,cm,cB,cd,Ty,jD,cW,bJ,ll,dp,bS,cN,cD,jH,binBV,bG,dj,Tx.nothing,a7,Ec,aT,aS,V.dV,V.dW,V.df,V.dT,V.fa,V.ef,V.di,V.eW,V.dZ,V.eZ,V.ed,V.dX,V.dk,V.ee,V.fi,V.ec,V.dg,V.fc,V.dU,V.fg];have Vk:=hJ3.C' (o:=⟨44,2,[dd (eF b ⟨0,0,true⟩).1]⟩) m7 m7' z7;generalize hq:C' Z2 i7 ⟨44,2,[dd (eF b ⟨0,0,true⟩).1]⟩=Y7 at*;replace a7:=(congrFun hq i7).symm.trans aA;replace a9:=((congrFun hq i9).symm.trans (ad n79.symm)).trans a9;clear hq hJ3;refine ay.tW (by kernel_rfl) 8 (.leaf [[],[],[0,1],[],[2,0,1],[3,4,0,1,2],[5,0,1,2,3,4]] [0,1,3,2,4,5,6]) (by kernel_rfl) ?_;refine GT.gN (its:=[0,2,6,4,7,8,10,12]) (by kernel_rfl) ?_;refine cY (n:=0) [4,7,8,10,12] [0,2,6] [_,_,_] rfl rfl ?_;simp only[go_sem,seval,a7,a9,aT,aS];refine RE.call rfl rfl rfl rfl rfl (Dd b hb hL Vk _ _ (λs=>(eF b s).2) SY (λJ s hv hf hJY=>Ll b hb hL s hv hJY.off (hJY.sub _ _ ((eH m9 m9').trans a9)))) ?_;rintro v Z3 ⟨Yx,ho⟩;have k7:qP Y7 i im i7≠none:=by rw[eH m7 m7',a7];simp
 replace a7:=Yx.sub _ _ ((eH m7 m7').trans a7);replace a9:=Yx.sub _ _ ((eH m9 m9').trans a9);refine eh rfl (by simp only[go_sem,seval,a7,a9,aT,aS]) ?_;refine cY (n:=0) [] [8,10,12] [_,_,_] rfl rfl ?_;simp only[go_sem,seval,a7,a9,aT,aS];apply sR;simp only[go_sem,seval,zH,aT,aS];exact Tf ⟨v,rfl,(Vk.lq.trans Yx.sub).aL z7,(ho.ad k7).nk Vk.lq⟩
def rQ(l:List R3):mO (l.map aN)=true:=nJ (f:=aN) (λ_=>rfl) l
def J5(l:List Nd)(hl:dN l)(w h:Int)(h0:UX l w h=0):
 aX prog 16 [aQ l,vI w,vI h] (.Sa [bU (CT (bK l w h)),dd (eF (bK l w h) ⟨0,0,true⟩).1,vI 0]):=λU=>by
 refine(Nc l hl w h h0 U).x9 λr Z' h=>?_;obtain⟨v,rfl,hs,ho⟩:=h;exact⟨_,U,hs,Fz.wk (N:=λid=>U id=none) (.Sa _ _ (.cons _ _ _ _ (ho.Ko (λid h=>h) (Ub.same _ (rQ _))) (.cons _ _ _ _ (.same _ rfl) (.cons _ _ _ _ (.same _ rfl) .nil)))) hs (λ_ h=>h),rfl,rfl⟩
open Go.Proofs
def Hw{U:al}{id e j:Nat}{rows:List V}{a x:R3}(h:U id=some ⟨e,3,rows⟩)(hj:rows[j]?=some (aN a)):cB U 3 (.ptr id j 0) (aN x)=some (C' U id ⟨e,3,rows.set j (aN x)⟩):=by
 have e1:cd (aN a) 0 3 (aN x)=some (aN x):=rfl;simp only[cB,h,hj,e1]
def JT{U:al}{id e j:Nat}{rows:List V}{a:R3}(h:U id=some ⟨e,3,rows⟩)(hj:rows[j]?=some (aN a)):dr U true 3 (.ptr id j 0)=some (aN a):=by
 simp only[dr,h,hj];rfl
def E0{U:al}{id e:Nat}{rows:List V}{n:Nat}{k:Int}(h:U id=some ⟨e,3,rows⟩)(hn:n=rows.length)(h0:0<=k)(h1:k<n):bI U 3 (.own id 0 n) (.int .i64 k)=some (.ptr id k.toNat 0):=by
 simp only[bI,h];rw[aI ⟨trivial,h0,h1⟩];simp
def OY{U:al}{id:Nat}(l:List R3)(Sh:l≠[])(hl:l.length<=1000000)(h0:U id=some ⟨24,3,l.map aN⟩):
 aG prog 27 [.own id 0 l.length] U λ_ Z'=>Z'=C' U id ⟨24,3,l.reverse.map aN⟩:=by
 refine e27.q ?_;have Ul:0<l.length:=Bi.2 Sh;have r0:Sn .i64 ((l.length:Int)-1):=ar;refine mS 4 ?_;simp only[go_sem,seval,c27,r0];refine ay.loop (λm st=>∃(k:Nat) (R:List R3),R.length=l.length/\k<=l.length/\m=l.length-k/\(∀q,q<l.length->R[q]?=if q<k\/l.length-k<=q then l[l.length-1-q]? else l[q]?)/\
  st.U=C' U id ⟨24,3,R.map aN⟩/\st.s 0=.own id 0 l.length/\st.s 2=vI k/\st.s 3=vI ((l.length:Int)-1-k)) l.length ⟨0,l,rfl,by omega,rfl,λq hq=>by simp;omega,(mc h0).symm,rfl,rfl,(by rw[show((l.length:Int)-1-(0:Nat))=(l.length:Int)-1 by simp];rfl)⟩ ?_
 rintro m ⟨S,ω⟩ ⟨k,R,hR,hk,rfl,hRq,Su,t0,t2,t3⟩;simp only at Su t0 t2 t3;subst Su;refine ay.mix 4 ?_;by_cases u':(k:Int)<(l.length:Int)-1-k
 .have q1:((k:Int)<(l.length:Int)-1-k)=True:=RX u';have a0:(C' U id ⟨24,3,R.map aN⟩) id=some ⟨24,3,R.map aN⟩:=aA;generalize hτ:C' U id ⟨24,3,R.map aN⟩=J at*;have Tt:k<R.length:=by omega
  obtain⟨jn,hjn⟩:∃jn:Nat,(l.length:Int)-1-k=jn:=⟨l.length-1-k,by omega⟩
  have hj1:jn<R.length:=by omega
  rw[hjn]at t3 q1;have hx:(R.map aN)[jn]?=some (aN R[jn]):=by simp[hj1]
  have hy:(R.map aN)[k]?=some (aN R[k]):=by simp[Tt]
  have i1:=E0 (k:=jn) a0 (show l.length=_ by rw[dO,hR]) (by omega) (by omega);have i2:=E0 (k:=k) a0 (show l.length=_ by rw[dO,hR]) (by omega) (by omega);rw[gM]at i1 i2;have l1:=JT a0 hx;have l2:=JT a0 hy;have s1:=Hw (x:=R[jn]) a0 hy;have b0:(C' J id ⟨24,3,(R.map aN).set k (aN R[jn])⟩) id=some ⟨24,3,(R.map aN).set k (aN R[jn])⟩:=aA;generalize hY2:C' J id ⟨24,3,(R.map aN).set k (aN R[jn])⟩=Y2 at*;have hx2:((R.map aN).set k (aN R[jn]))[jn]?=some (aN R[jn]):=by
   rw[List.getElem?_set_ne (by omega)];exact hx
  have i3:=E0 (k:=jn) b0 (show l.length=_ by rw[List.length_set,dO,hR]) (by omega) (by omega);rw[gM]at i3;have s2:=Hw (x:=R[k]) b0 hx2;have r1:=rI k;have r2:Sn .i64 ((jn:Int)-1):=ar;apply sR;simp only[BB,seval,<-decide_not,bp,fW,aV,dP,dR,dI,dQ,eo,bH,jE,gm,bu,fO,dM,fL,cP,cC,bQ,iB,cm,cd,Ty,jD,cW,bJ,ll,dp,bS,cN,cD,jH,binBV,bG,dj,V.cells,V.stays,Tx.nothing,t0,t2,t3,q1,i1,i2,i3,l1,l2,s1,s2,r1,r2];refine⟨_,?_,k+1,(R.set k R[jn]).set jn R[k],by simp[hR],by omega,rfl,λq hq=>?_,?_,by simp[t0];omega⟩
  .omega
  .have hRk:=hRq k (by omega);have hRj:=hRq jn (by omega);rw[aK (by omega),V7 Tt]at hRk;rw[aK (by omega),V7 hj1]at hRj;by_cases g1:q=jn
   .subst g1;rw[List.getElem?_set_self (by simp[hR];omega),aI (.inr (by omega)),show l.length-1-q=k by omega];exact hRk
   .rw[List.getElem?_set_ne (λe=>g1 e.symm)];by_cases g2:q=k
    .subst g2;rw[List.getElem?_set_self (by omega),aI (.inl (by omega)),show l.length-1-q=jn by omega];exact hRj
    .rw[List.getElem?_set_ne (λe=>g2 e.symm),hRq q hq];by_cases g3:q<k\/l.length-k<=q
     .rw[aI g3,aI (by omega)]
     .rw[aK g3,aK (by omega)]
  .rw[<-hY2,<-hτ,tv,tv,List.map_set,List.map_set]
 .have q1:((k:Int)<(l.length:Int)-1-k)=False:=H' u';apply sR;simp only[go_sem,seval,t2,t3,q1];have hRr:R=l.reverse:=by
   refine List.ext_getElem? λq=>?_;by_cases hq:q<l.length
   .rw[hRq q hq,List.getElem?_reverse hq];by_cases g3:q<k\/l.length-k<=q
    .rw[aI g3]
    .rw[aK g3,show l.length-1-q=q by omega]
   .rw[tm (by omega),tm (by simp;omega)]
  rw[hRr];exact Tf rfl
def Hj(b:Bk)(s:R3):V:=if D8 b s then .Sa [bU (bo b s).reverse,vI 0]else .Sa [.bl,vI 4]
def I5(l:List Nd)(hl:dN l)(w h:Int)(s:R3)(h0:UX l w h=0):aX prog 8 [aQ l,vI w,vI h,aN s] (Hj (bK l w h) s):=λU=>by
 refine e8.q ?_;have hs:=aa.refl U;have hc:=λU=>qD l hl w h h0 U;obtain⟨he,-⟩:=kN h0;have hb:=ij hl he;generalize bK l w h=b at*;have q0:((0:Int)≠0)=False:=H' λh=>h rfl;unfold Hj;refine mS 13 ?_;simp only[go_sem,seval,c8,aq,ao];refine aE hs λi7 Z7 s7 a7 f7 z7 hs=>?_;simp only[go_sem,seval,a7];refine TX rfl (hc _) ?_;rintro r Z1 ⟨i,im,rfl,hJ⟩;replace a7:=hJ.sub _ _ a7;replace hJ:=hJ.less hs;apply sR;simp only[go_sem,seval,q0,a7,aq,ao,aM];refine pR rfl (Lt b hb.brk s hJ.row) ?_;by_cases hm:D8 b s
 .rw[Tv hm,aI hm];have hf:¬bZ b s:=by have:=hm.1.1.2;unfold bZ;omega
  have Sh:=(dF hb).ne s (.inl hm.1) hf;have T9:=l6 hb hm.1;apply sR;simp only[go_sem,seval,a7,Bool.not_true,aq,ao,aM];refine TX rfl (CO b hb s hm.1 hJ.row) ?_;rintro v Z2 ⟨U2,ho⟩;rcases ho with⟨-,hn⟩|⟨id,rfl,ha,hk⟩
  .have:=congrArg List.length hn;rw[dO,List.length_nil]at this;exact absurd (td this) Sh
  .rw[dO];apply sR;simp only[go_sem,seval];refine TX rfl (OY (bo b s) Sh T9 ha) ?_;rintro r Z3 rfl;apply sR;simp only[go_sem,seval];have hsF:aa U (C' Z2 id ⟨24,3,(bo b s).reverse.map aN⟩):=(hJ.sub.trans U2).aL (hJ.sub.none hk);have ho:aP U (C' Z2 id ⟨24,3,(bo b s).reverse.map aN⟩) 24 3 (.own id 0 (bo b s).length) ((bo b s).reverse.map aN):=aP.new (by simp) aA (hJ.sub.none hk);exact⟨_,U,hsF,Fz.wk (N:=λid=>U id=none) (.Sa _ _ (.cons _ _ _ _ (ho.Ko (λid h=>h) (Ub.same _ (rQ _))) (.cons _ _ _ _ (.same _ rfl) .nil))) hsF (λ_ h=>h),rfl,rfl⟩
 .rw[TE hm,aK hm];apply sR;simp only[go_sem,seval,Bool.not_false];exact aD.pure hJ.sub rfl
open Go.Proofs
def Ee(rank:R3->Int){l:List R3}{j:Nat}(h:j<l.length)(m:R3):te rank (l.drop j) m=te rank (l.drop (j+1)) (if rank l[j]<rank m then l[j]else m):=by
 rw[jt h,te]
def KA{U:al}(rank:R3->Int)(x:R3)(r:List R3)(hl:r.length<=1000000)(fn:FuncId)(caps:List V)
 (hf:∀Z1,aa U Z1->∀a∈x::r,∀m∈x::r,aG prog fn (aN a::aN m::caps) Z1 λv Z'=>v=vI (pg (rank a) (rank m))/\Z'=Z1):
 aG prog 47 [bU (x::r),.fn fn caps] U λv Z'=>v=aN (te rank r x)/\Z'=U:=by
 refine e47.q ?_;have hs:=aa.refl U;obtain⟨l,hle⟩:∃l,l=x::r:=⟨_,rfl⟩
 have hll:l.length=r.length+1:=by rw[hle];rfl
 have hlv:=jl l;have hl0:l[0]'(by omega)=x:=by simp[hle]
 have SW:∀U,bI U 3 (bU l) (.int .i64 0)=some (.rp (aN x)):=λU=>by
  have:=iL (U:=U) (l:=l) (i:=0) (by omega);rw[hl0]at this;exact this
 have Wu:=mT x;have q1:((l.length:Int)<1)=False:=H';have Us:l.drop 1=r:=by rw[hle];rfl
 rw[<-hle]at hf|-;refine mS 7 ?_;simp only[go_sem,seval,c47];refine aE hs λi4 Z4 s4 a4 f4 z4 hs=>?_;simp only[go_sem,seval,hlv,q1,SW,Wu];refine aE hs λi5 Z5 s5 a5 f5 z5 hs=>?_;obtain⟨Ww,a4⟩:=RZ a4 f5 s5;simp only[go_sem,seval,a5,aq,ao];generalize Uj:C' _ i5 _=Y5;replace a5:=Ti Uj;replace a4:=So Uj Ww a4;replace hs:=Te Uj hs z5;refine ay.loop (λm st=>∃(j:Nat) (y:R3),1<=j/\j<=l.length/\m=l.length-j/\y∈l/\te rank r x=te rank (l.drop j) y/\aa U st.U/\st.U i4=some ⟨24,3,[.agg [vI 0,vI 0,.bool false]]⟩/\st.U i5=some ⟨24,3,[aN y]⟩/\
  st.s 0=bU l/\st.s 1=.fn fn caps/\st.s 4=.ptr i4 0 0/\st.s 5=.ptr i5 0 0/\st.s 6=vI j) (l.length-1) ⟨1,x,by omega,by omega,rfl,by rw[hle];simp,by rw[Us],hs,a4,a5,rfl,rfl,rfl,rfl,rfl⟩ ?_
 .clear a4 a5 hs;rintro m ⟨S,ω⟩ ⟨j,y,h1,hj,rfl,hy,YG,hK,a4,a5,t0,t1,t4,t5,t6⟩;simp only at hK a4 a5 t0 t1 t4 t5 t6;refine ay.mix 7 ?_;by_cases u':j<l.length
  .have q:=qT u';have R0:=λU=>iL (U:=U) u';have Wu:=mT l[j];have Vh:l[j]∈l:=SU u';rw[Ee rank u']at YG;generalize l[j]=a at*;have r1:=rI j;apply sR;simp only[go_sem,seval,t0,t1,t4,t5,t6,hlv,q,R0,Wu,a5,aq,ao,aM];refine Go.nP rfl rfl rfl (λZ1 h=>hf Z1 (hK.trans h) a Vh y hy) ?_;have Ww:i4≠i5:=Ww;by_cases hc:rank a<rank y
   .have q2:(pg (rank a) (rank y)<0)=True:=RX (by unfold pg;rw[aI hc];decide);rw[aI hc]at YG;apply sG;simp only[go_sem,seval,t0,t1,t5,t6,q2,a5,R0,Wu,r1,aq,ao,aM];exact⟨_,by omega,j+1,a,by omega,by omega,rfl,Vh,YG,hK.aL z5,(ad Ww).trans a4,rfl,by simp[t0,t1,t4,t5]⟩
   .have q2:(pg (rank a) (rank y)<0)=False:=H' (by unfold pg;rw[aK hc];split<;>omega);rw[aK hc]at YG;apply sG;simp only[go_sem,seval,t0,t1,t5,t6,q2,r1];exact⟨_,by omega,j+1,y,by omega,by omega,rfl,hy,YG,hK,a4,a5,by simp[t0,t1,t4,t5]⟩
  .have q:=qF u';have Up:j=l.length:=by omega
   rw[Up,uY]at YG;apply sR;simp only[go_sem,seval,t0,t4,t5,t6,hlv,q,a4,a5,aq,ao,aM];exact aD.pure (hK.aL z4) (by rw[YG];rfl)
def Ky(b:Bk)(s t:R3)(h1:0<=s.atom/\s.atom<b.SJ.length)(h2:0<=t.atom/\t.atom<b.SJ.length){J:al}{i im i9:Nat}(h0:J i=some (nh b im))(a9:J i9=some ⟨69,1,[.ptr i 0 0]⟩):
 aG prog 48 [aN s,aN t,.ptr i9 0 0] J λr X'=>r=vI (pg (cH b s) (cH b t))/\X'=J:=by
 refine e48.q ?_;have hs:=aa.refl J;refine mS 6 ?_;simp only[go_sem,seval,c48,aq,ao];refine aE hs λi3 Z3 s3 a3 f3 z3 hs=>?_;obtain⟨n93,a9⟩:=RZ a9 f3 s3;simp only[go_sem,seval,a3,aq,ao];refine aE hs λi4 Z4 s4 a4 f4 z4 hs=>?_;obtain⟨YJ,a3⟩:=RZ a3 f4 s4;obtain⟨n94,a9⟩:=RZ a9 f4 s4;have hi:=hs _ _ h0;simp only[go_sem,seval,a9,a3,a4,aq,ao,aM];refine Go.nP rfl rfl rfl (λZ1 h=>qe b s h1 (h _ _ hi)) ?_;apply sG;simp only[go_sem,seval,a9,a3,a4,aq,ao,aM];refine Go.nP rfl rfl rfl (λZ1 h=>qe b t h2 (h _ _ hi)) ?_;apply sG;simp only[go_sem,seval];refine pJ rfl (Ht _ _) ?_;apply sG;simp only[go_sem,seval];exact aD.pure hs rfl
def zL{b:Bk}(hb:dh b){s:R3}(hv:gz b s)(hf:¬bZ b s):∀t∈bo b s,0<=t.atom/\t.atom<b.SJ.length:=λt ht=>by
 have:=hb.brk;rcases((dF hb).on s hv hf t ht).1 with h|h
 .exact⟨h.1.1,by have:=h.1.2;omega⟩
 .omega
def Lk(b:Bk)(hb:dh b)(s:R3)(hv:gz b s)(hf:¬bZ b s){J:al}{i im i9:Nat}(h0:J i=some (nh b im))(a9:J i9=some ⟨69,1,[.ptr i 0 0]⟩):
 aG prog 46 [aN s,.ptr i9 0 0] J λr X'=>r=aN (j6 b s)/\X'=J:=by
 refine e46.q ?_;have hs:=aa.refl J;have hm:dc b.atoms s:=hv.resolve_right λg=>hf (by unfold bZ;omega);have Sh:=(dF hb).ne s hv hf;have hbr:=zL hb hv hf;have T9:=l6 hb hm;refine mS 4 ?_;simp only[go_sem,seval,c46,aq,ao];refine aE hs λi2 Z2 s2 a2 f2 z2 hs=>?_;obtain⟨n92,a9⟩:=RZ a9 f2 s2;simp only[go_sem,seval,a2];refine aE hs λi3 Z3 s3 a3 f3 z3 hs=>?_;obtain⟨n23,a2⟩:=RZ a2 f3 s3;obtain⟨n93,a9⟩:=RZ a9 f3 s3;have hi:=hs _ _ h0;simp only[go_sem,seval,a9,a2,aq,ao,aM];refine pR rfl (p9 b hb s hm hi) ?_;cases hN:bo b s with
 |nil=>exact absurd hN Sh
 |cons x r=>
  have hg:j6 b s=te (cH b) r x:=by unfold j6;rw[hN]
  rw[hN]at hbr T9;apply sR;simp only[go_sem,seval];refine pS rfl (KA (cH b) x r (by rw[Uf]at T9;omega) _ _ (λZ1 h a ha m hm'=>Ky b a m (hbr a ha) (hbr m hm') (h _ _ hi) (h _ _ a9))) ?_;simp only[go_sem,seval,a3,aq,ao,aM];exact aD.pure (hs.aL z3) (by rw[hg])
open Go.Proofs
def rG(b:Bk)(l:List R3):Int:=(l.map (cH b)).sum
def zx(b:Bk)(l:List R3)(s:R3):rG b (l++[s])=rG b l+cH b s:=by
 unfold rG;rw[fw,List.sum_append];simp
def y8{b:Bk}(hb:dh b){on:R3->R3}(SY:∀s,gz b s->¬bZ b s->on s∈bo b s):∀(f:Nat) (s:R3),gz b s->∀t∈l7 b on f s,gz b t/\¬bZ b t
 |0,_,_,t,h=>by simp[l7]at h
 |f+1,s,hv,t,h=>by
  rw[l7]at h;by_cases hf:bZ b s
  .rw[aI hf]at h;cases h
  .rw[aK hf]at h;rcases ew.1 h with rfl|h
   .exact⟨hv,hf⟩
   .exact y8 hb SY f (on s) ((dF hb).on s hv hf _ (SY s hv hf)).1 t h
def zr{b:Bk}(hb:dh b){L:Int}(hL:jQ b L){on:R3->R3}(SY:∀s,gz b s->¬bZ b s->on s∈bo b s):(l7 b on jj ⟨0,0,true⟩).length<=100000:=by
 obtain⟨h1,h2⟩:=Df hb SY jj ⟨0,0,true⟩ (jK b hb) (Bz hb);have h3:=vC hb hL _ _ (jK b hb) h1;have h4:=Ak hb hL (n:=(onK b on jj ⟨0,0,true⟩).length) (s:=⟨b.atoms.length,0,false⟩) (.inr ⟨rfl,rfl⟩) (by
  have hr:jZ b b.atoms.length=0:=by unfold jZ;simp
  have e:kJ b L ⟨(b.atoms.length:Nat),0,false⟩=0:=by
   unfold kJ;simp only[Int.sub_self,Int.zero_mul,gM,hr];rfl
  rw[e];omega)
 rw[h2,List.length_dropLast,Uf];omega
def yC(b:Bk):Ue:=⟨(lu b).length,rG b ((lu b).drop 1)⟩
def aP.self{K U:al}{e sz:Nat}{v:V}{rows:List V}(h:aP K U e sz v rows):∃idA,aP (Vc.bW U idA) U e sz v rows/\aa (Vc.bW U idA) U/\∀a,idA=some a->K a=none/\v=.own a 0 rows.length:=by
 rcases h with⟨h1,h2⟩|⟨id,h1,h2,h3⟩
 .exact⟨none,.inl ⟨h1,h2⟩,aa.refl _,λ_ h=>by cases h⟩
 .exact⟨some id,.inr ⟨id,h1,h2,by simp[Vc.bW,del]⟩,aa.x7 U id,λa h=>by cases h;exact⟨h3,h1⟩⟩
def EA(l:List Nd)(hl:dN l)(w h:Int)(h0:UX l w h=0):
 aX prog 17 [aQ l,vI w,vI h] (.Sa [bU (lu (bK l w h)),dd (yC (bK l w h)),vI 0]):=λU=>by
 refine e17.q ?_;have hs:=aa.refl U;have hc:=λU=>qD l hl w h h0 U;obtain⟨he,-⟩:=kN h0;have hb:=ij hl he;have hL:=vK he;generalize bK l w h=b at*;have q0:((0:Int)≠0)=False:=H' λh=>h rfl;have SY:∀s,gz b s->¬bZ b s->j6 b s∈bo b s:=BT hb;have hmy:=y8 hb SY jj ⟨0,0,true⟩ (jK b hb);have Ux:=zr hb hL SY;have Vy:=hb.brk;refine mS 11 ?_;simp only[go_sem,seval,c17,bV.rt];refine aE hs λi7 Z7 s7 a7 f7 z7 hs=>?_;simp only[go_sem,seval,a7];refine TX rfl (hc _) ?_;rintro r Z1 ⟨i,im,rfl,hJ⟩;obtain⟨m7,m7'⟩:=hJ.neK a7;replace a7:=hJ.sub _ _ a7;replace hJ:=hJ.less hs;replace hs:=aa.refl Z1;apply sR;simp only[go_sem,seval];refine aE hs λi9 Y9 s9 a9 f9 z9 hs=>?_;obtain⟨n79,a7⟩:=RZ a7 f9 s9;obtain⟨m9,m9'⟩:=hJ.new z9;have k9:=hJ.sub.none z9;simp only[go_sem,seval,a9,q0];generalize Tb:C' _ i9 _=Z9;replace a9:=Ti Tb;replace a7:=So Tb n79 a7;replace hs:=Te Tb hs z9;have hJ9:=hJ.mono hs;refine TX rfl (Dd b hb hL hJ9 _ _ (j6 b) SY (λJ s hv hf hJY=>(Lk b hb s hv hf hJY.row (hJY.sub _ _ ((eH m9 m9').trans a9))).mono λr X' h=>⟨h.1,by rw[h.2];exact hJY.off⟩)) ?_;rintro v Z3 ⟨Vk,ho⟩;have k7:qP Z9 i im i7≠none:=by rw[eH m7 m7',a7];simp
 have k9':qP Z9 i im i9≠none:=by rw[eH m9 m9',a9];simp
 replace a7:=Vk.sub _ _ ((eH m7 m7').trans a7);replace a9:=Vk.sub _ _ ((eH m9 m9').trans a9);change aP _ _ _ _ _ ((lu b).map aN)at ho;change ∀t∈lu b,gz b t/\¬bZ b t at hmy;change (lu b).length<=100000 at Ux;unfold yC;generalize lu b=G at*;obtain⟨idA,ho2,G',L'⟩:=ho.self;have Yx:fP b U (Vc.bW Z3 idA) i im:=(Vk.less hJ9.lq).del λa ha=>⟨ho.neD Vk (L' a ha).2,hJ9.lq.none (L' a ha).1⟩
 have b7:Vc.bW Z3 idA i7=some ⟨44,2,[.agg [vI 0,vI 0]]⟩:=by
  cases idA with
  |none=>exact a7
  |some a=>exact(eV λg=>k7 (by rw[g];exact(L' a rfl).1)).trans a7
 have b9:Vc.bW Z3 idA i9=some ⟨69,1,[.ptr i 0 0]⟩:=by
  cases idA with
  |none=>exact a9
  |some a=>exact(eV λg=>k9' (by rw[g];exact(L' a rfl).1)).trans a9
 refine ay.qf [7,9] [24] G' ho2 (λd hd=>by rw[kc.1 hd];rfl) ?_;clear a7 a9 ho ho2 G' L' Vk k7 k9';generalize Vc.bW Z3 idA=J at*;have hlG:=jl G;rw[<-bU];apply sR;simp only[go_sem,seval,hlG];refine ay.loop (λm st=>∃(j:Nat) (c:Int),j<=G.length/\m=G.length-j/\c=rG b ((G.take j).drop 1)/\0<=c/\c<=7*j/\fP b U st.U i im/\st.U i7=some ⟨44,2,[.agg [vI 0,vI c]]⟩/\st.U i9=some ⟨69,1,[.ptr i 0 0]⟩/\
  st.s 6=bU G/\st.s 7=.ptr i7 0 0/\st.s 9=.ptr i9 0 0/\st.s 26=vI G.length/\st.s 27=vI j) G.length ⟨0,0,by omega,rfl,by simp[rG],by decide,by decide,Yx,b7,b9,rfl,rfl,rfl,rfl,rfl⟩ ?_
 clear Yx b7 b9;rintro m ⟨S,ω⟩ ⟨j,c,hj,rfl,hc,VL,YV,hJ,a7,a9,t6,t7,t9,t26,t27⟩;simp only at hJ a7 a9 t6 t7 t9 t26 t27;refine ay.mix 11 ?_;by_cases u':j<G.length
 .have p1:=qT u';have SB:=Vn u';have R0:=λU=>iL (U:=U) u';have Wu:=mT G[j];obtain⟨vt,-⟩:=hmy G[j] (SU u');have ZK:=nF hb G[j];have U7:0<=G[j].atom/\G[j].atom<b.SJ.length:=by
   rcases vt with h|h
   .exact⟨h.1.1,by have:=h.1.2;omega⟩
   .omega
  generalize G[j]=t at*;have r1:=rI j;have r2:Sn .i64 (c+cH b t):=ar;by_cases hj0:j=0
  .subst hj0;have p2:(((0:Nat):Int)>0)=False:=H' (by decide);have p3:((0:Int)<(G.length:Int))=True:=RX;apply sR;simp only[go_sem,seval,t6,t7,t9,t26,t27,p1,p2,p3,r1];exact⟨ar (by decide) (by decide),_,by omega,1,c,by omega,rfl,by rw[hc,SB];simp,VL,by omega,hJ,a7,a9,by simp[t6,t7,t9,t26]⟩
  .have p2:((j:Int)>0)=True:=RX;apply sR;simp only[go_sem,seval,t6,t7,t9,t26,t27,p1,p2,a7,a9,R0,Wu,aq,ao];refine Go.nP rfl rfl rfl (λZ1 h=>qe b t U7 (h _ _ hJ.row)) ?_;apply sG;simp only[go_sem,seval,t6,t7,t9,t26,t27,a7,r1,r2];have htd:(G.take (j+1)).drop 1=(G.take j).drop 1++[t]:=by
    rw[SB,zS (by rw[mf];omega)]
   exact⟨_,by omega,j+1,c+cH b t,by omega,rfl,by rw[htd,zx,hc],by omega,by omega,hJ.C' m7 m7' z7,rfl,(ad n79.symm).trans a9,by simp[t6,t7,t9,t26]⟩
 .have p1:=qF u';rw[qq (by omega)]at hc;apply sR;simp only[go_sem,seval,t6,t7,t9,t26,t27,p1,a7,hlG,zH];exact aD.pure (hJ.sub.aL z7) (by rw[hc];rfl)
open Go.Proofs
def ff{s:Nat->V}{U:al}{a1:Bool}{n1 d e t:Nat}{Post:V->al->Prop}:
 WT [.cell a1 n1 (.t d),.tmp (.t t),.tmp (.t e)] ⟨s,U⟩ Post=eA (dr U a1 n1 (s d)) λv=>aD (.Sa [v,s t,s e]) U Post:=by
 unfold WT aD tk;simp only[iT,jA,VX.ev];cases dr U a1 n1 (s d)<;>simp[eA]
def HQ(l:List Nd)(hl:dN l)(w h:Int)(vs:V)(h0:UX l w h≠0):aX prog 12 [aQ l,vI w,vI h,vs] (.Sa [dd ⟨0,0⟩,.bool false,vI (UX l w h)]):=λU=>by
 refine e12.q ?_;have hs:=aa.refl U;have hc:=Hu l hl w h h0;have q1:(UX l w h≠0)=True:=RX h0;generalize UX l w h=E at*;refine mS 16 ?_;simp only[go_sem,seval,c12];refine aE hs λi8 Z8 s8 a8 f8 z8 hs=>?_;simp only[go_sem,seval,a8];refine pS rfl (hc _) ?_;simp only[go_sem,seval,a8,q1,ff];exact aD.pure (hs.aL z8) rfl
def wL(b:Bk)(l:List R3):V:=match ji b l with
 |some c=>.Sa [dd c,.bool true,vI 0]
 |none=>.Sa [dd ⟨0,0⟩,.bool false,vI 0]
def mB{b:Bk}{l:List R3}{c:Ue}(h:ji b l=some c):wL b l=.Sa [dd c,.bool true,vI 0]:=by unfold wL;rw[h]
def gL{b:Bk}{l:List R3}(h:ji b l=none):wL b l=.Sa [.agg [vI 0,vI 0],.bool false,vI 0]:=by unfold wL;rw[h];rfl
def xJ(l:List Nd)(hl:dN l)(w h:Int)(h0:UX l w h=0)(P:List R3)(hP:P.length<=1000000):
 aX prog 12 [aQ l,vI w,vI h,bU P] (wL (bK l w h) P):=λU=>by
 refine e12.q ?_;have hs:=aa.refl U;have hc:=λU=>qD l hl w h h0 U;obtain⟨he,-⟩:=kN h0;have hb:=ij hl he;generalize bK l w h=b at*;have q0:((0:Int)≠0)=False:=H' λh=>h rfl;have Vy:=hb.brk;have YU:=jl P;refine mS 16 ?_;simp only[go_sem,seval,c12,bV.rt];refine aE hs λi8 Z8 s8 a8 f8 z8 hs=>?_;simp only[go_sem,seval,a8];refine TX rfl (hc _) ?_;rintro r Z1 ⟨i,im,rfl,hJ⟩;obtain⟨m8,m8'⟩:=hJ.neK a8;replace a8:=hJ.sub _ _ a8;replace hJ:=hJ.less hs;replace hs:=aa.refl Z1;apply sR;simp only[go_sem,seval,q0];refine aE hs λi12 Y12 XX a12 f12 z12 hs=>?_;obtain⟨n812,a8⟩:=RZ a8 f12 XX;obtain⟨m12,m12'⟩:=hJ.new z12;have Tc:=hJ.sub.none z12;simp only[go_sem,seval,a12];generalize TL:C' _ i12 _=Z12;replace a12:=Ti TL;replace a8:=So TL n812 a8;replace hs:=Te TL hs z12;have hJ1:=hJ.mono hs;simp only[go_sem,seval,YU];have n812:=n812;refine ay.loop (λm st=>∃(j:Nat) (SI:R3) (c:Ue),j<=P.length/\m=P.length-j/\ji b P=gA b SI c (P.drop j)/\(c=⟨0,0⟩/\SI=⟨0,0,true⟩\/1<=c.R4/\gz b SI/\¬bZ b SI)/\0<=c.R4/\c.R4<=j/\0<=c.Sy/\c.Sy<=7*j/\
  fP b U st.U i im/\st.U i8=some ⟨44,2,[dd c]⟩/\st.U i12=some ⟨24,3,[aN SI]⟩/\st.s 8=.ptr i8 0 0/\st.s 10=vI 0/\st.s 11=.ptr i 0 0/\st.s 12=.ptr i12 0 0/\st.s 27=bU P/\st.s 28=vI P.length/\st.s 29=vI j) P.length
  ⟨0,⟨0,0,true⟩,⟨0,0⟩,by omega,rfl,rfl,.inl ⟨rfl,rfl⟩,by decide,by decide,by decide,by decide,hJ1,a8,a12,rfl,rfl,rfl,rfl,rfl,rfl,rfl⟩ ?_
 clear hJ1 a8 a12 hs hJ;rintro m ⟨S,ω⟩ ⟨j,SI,c,hj,rfl,To,XR,hp0,hp1,hr0,hr1,hJ,a8,a12,t8,t10,t11,t12,t27,t28,t29⟩;simp only at hJ a8 a12 t8 t10 t11 t12 t27 t28 t29;refine ay.mix 16 ?_;by_cases u':j<P.length
 .have p1:=qT u';have R0:=λU=>iL (U:=U) u';have Wu:=mT P[j];rw[jt u']at To;generalize P[j]=s at*;have hs:=aa.refl ω;apply sR;simp only[go_sem,seval,t27,t28,t29,p1,R0,Wu,aq,ao];refine aE hs λi14 Z14 s14 Vu f14 z14 hs=>?_;obtain⟨n814,a8⟩:=RZ a8 f14 s14;obtain⟨n1214,a12⟩:=RZ a12 f14 s14;simp only[go_sem,seval,Vu,t11,t12,aq,ao];generalize hq14:C' _ i14 _=Y14;replace Vu:=Ti hq14;replace a8:=So hq14 n814 a8;replace a12:=So hq14 n1214 a12;replace hs:=Te hq14 hs z14;have hJ1:=hJ.mono hs;simp only[go_sem,seval,t11,t12,a12,aq,ao,aM];refine pR rfl (qi b SI hJ1.row) ?_;have hfS:aa U Y14:=hJ.sub.trans hs;by_cases g1:bZ b SI
  .rw[Tv g1];have q3:True:=trivial;have p0:True:=trivial;have hn:ji b P=none:=by rw[To,gA,aI (.inl g1)]
   rw[gL hn];apply sR;simp only[BB,seval,<-decide_not,bp,fW,aV,dP,dR,dI,dQ,eo,bH,jE,gm,bu,fO,dM,fL,cP,cC,bQ,iB,cm,cB,cd,Ty,jD,cW,bJ,dp,bS,cN,cD,jH,binBV,bG,dj,Tx.nothing,t8,t10,t11,t12,a8,a12,Vu,q3,p0,aT,aS,aq,ao,aM,ff,V.dV,V.dW,V.df,V.dT,V.fa,V.ef,V.di,V.eW,V.dZ,V.eZ,V.ed,V.dX,V.dk,V.ee,V.fi,V.ec,V.dg,V.fc,V.dU,V.fg];exact aD.pure (hfS.aL z8) rfl
  rw[TE g1];apply sR;simp only[go_sem,seval,t11,Vu,aq,ao,aM];refine pR rfl (qi b s hJ1.row) ?_;by_cases g2:bZ b s
  .rw[Tv g2];have q3:True:=trivial;have p0:True:=trivial;have hn:ji b P=none:=by rw[To,gA,aI (.inr (.inl g2))]
   rw[gL hn];apply sR;simp only[BB,seval,<-decide_not,bp,fW,aV,dP,dR,dI,dQ,eo,bH,jE,gm,bu,fO,dM,fL,cP,cC,bQ,iB,cm,cB,cd,Ty,jD,cW,bJ,dp,bS,cN,cD,jH,binBV,bG,dj,Tx.nothing,t8,t10,t11,t12,a8,a12,Vu,q3,p0,aT,aS,aq,ao,aM,ff,V.dV,V.dW,V.df,V.dT,V.fa,V.ef,V.di,V.eW,V.dZ,V.eZ,V.ed,V.dX,V.dk,V.ee,V.fi,V.ec,V.dg,V.fc,V.dU,V.fg];exact aD.pure (hfS.aL z8) rfl
  rw[TE g2];have q3:=yV s SI;by_cases g3:s≠SI/\c.R4=0
  .rw[Tv g3.1]at q3;have p0:(c.R4=0)=True:=RX g3.2;have hn:ji b P=none:=by rw[To,gA,aI (.inr (.inr g3))]
   rw[gL hn];apply sR;simp only[BB,seval,<-decide_not,bp,fW,aV,dP,dR,dI,dQ,eo,bH,jE,gm,bu,fO,dM,fL,cP,cC,bQ,iB,cm,cB,cd,Ty,jD,cW,bJ,dp,bS,cN,cD,jH,binBV,bG,dj,Tx.nothing,t8,t10,t11,t12,a8,a12,Vu,q3,p0,aT,aS,aq,ao,aM,ff,V.dV,V.dW,V.df,V.dT,V.fa,V.ef,V.di,V.eW,V.dZ,V.eZ,V.ed,V.dX,V.dk,V.ee,V.fi,V.ec,V.dg,V.fc,V.dU,V.fg];exact aD.pure (hfS.aL z8) rfl
  rw[gA,aK (λh=>h.elim g1 λh=>h.elim g2 g3)]at To;have r3:=rI j;have r1:Sn .i64 (c.R4+1):=ar;by_cases g4:c.R4>0
  .have p4:(c.R4>0)=True:=RX g4;have p0:(c.R4=0)=False:=H';have vt:gz b SI:=by
    rcases XR with⟨h,-⟩|⟨-,h,-⟩
    .rw[h]at g4;exact absurd g4 (by decide)
    .exact h
   have hm:dc b.atoms SI:=vt.resolve_right λg=>g1 (by unfold bZ;omega);have T9:=l6 hb hm;have ZK:=nF hb s;have r2:Sn .i64 (c.Sy+cH b s):=ar;rw[aI g4]at To;cases hX:decide (s≠SI)<;>rw[hX]at q3
   all_goals
    apply sR;simp only[BB,seval,<-decide_not,bp,fW,aV,dP,dR,dI,dQ,eo,bH,jE,gm,bu,fO,dM,fL,cP,cC,bQ,iB,cm,cB,cd,Ty,jD,cW,bJ,dp,bS,cN,cD,jH,binBV,bG,dj,Tx.nothing,t8,t11,t12,a8,a12,Vu,q3,p0,p4,aT,aS,aq,ao,aM,V.dV,V.dW,V.df,V.dT,V.fa,V.ef,V.di,V.eW,V.dZ,V.eZ,V.ed,V.dX,V.dk,V.ee,V.fi,V.ec,V.dg,V.fc,V.dU,V.fg];refine Go.nP rfl rfl rfl (λZ1 h=>p9 b hb SI hm (h _ _ hJ1.row)) ?_;apply sG;simp only[go_sem,seval,Vu,aq,ao,aM];refine pJ rfl (Hr (bo b SI) (by omega) s) ?_;by_cases g5:s∈bo b SI
    .rw[Tv g5];rw[aI g5]at To;have vs:=((dF hb).on SI vt g1 s g5).1;have U7:=zL hb vt g1 s g5;apply sG;simp only[go_sem,seval,t8,t11,a8,Vu,Bool.not_true,aT,aS,aq,ao,aM];refine Go.nP rfl rfl rfl (λZ1 h=>qe b s U7 (h _ _ hJ1.row)) ?_;apply sG;simp only[go_sem,seval,t8,t10,t11,t12,t27,t28,t29,a8,a12,Vu,r1,r2,r3,ad n812.symm,ad n814.symm,ad n812,ad n1214.symm,aT,aS,aq,ao,aM];exact⟨_,by omega,j+1,s,⟨c.R4+1,c.Sy+cH b s⟩,by omega,rfl,To,.inr ⟨(by show(1:Int)<=c.R4+1;omega),vs,g2⟩,(by show(0:Int)<=c.R4+1;omega),(by show c.R4+1<=((j+1:Nat):Int);omega),
      (by show 0<=c.Sy+cH b s;omega),(by show c.Sy+cH b s<=7*((j+1:Nat):Int);omega),((hJ1.C' m8 m8' z8).C' m12 m12' Tc).C' m8 m8' z8,rfl,rfl,rfl⟩
    .rw[TE g5];rw[aK g5]at To;rw[gL To];apply sG;simp only[go_sem,seval,t8,t10,a8,Bool.not_false,ff,aT,aS];exact aD.pure (hfS.aL z8) rfl
  .have p4:(c.R4>0)=False:=H' g4;have gs:s=SI:=Decidable.byContradiction λh=>g3 ⟨h,by omega⟩;rw[TE (λh=>h gs)]at q3;rw[aK g4]at To;apply sR;simp only[BB,seval,<-decide_not,bp,fW,aV,dP,dR,dI,dQ,eo,bH,jE,gm,bu,fO,dM,fL,cP,cC,bQ,iB,cm,cB,cd,Ty,jD,cW,bJ,dp,bS,cN,cD,jH,binBV,bG,dj,Tx.nothing,t8,t10,t11,t12,t27,t28,t29,a8,a12,Vu,q3,p4,r1,r3,ad n812.symm,ad n814.symm,ad n812,ad n1214.symm,aT,aS,aq,ao,aM,V.dV,V.dW,V.df,V.dT,V.fa,V.ef,V.di,V.eW,V.dZ,V.eZ,V.ed,V.dX,V.dk,V.ee,V.fi,V.ec,V.dg,V.fc,V.dU,V.fg];have vs:gz b s:=by
    rw[gs];rcases XR with⟨-,h⟩|⟨h,-⟩
    .rw[h];exact jK b hb
    .omega
   exact⟨_,by omega,j+1,s,⟨c.R4+1,c.Sy⟩,by omega,rfl,To,.inr ⟨(by show(1:Int)<=c.R4+1;omega),vs,g2⟩,(by show(0:Int)<=c.R4+1;omega),(by show c.R4+1<=((j+1:Nat):Int);omega),
    hr0,(by show c.Sy<=7*((j+1:Nat):Int);omega),(hJ1.C' m12 m12' Tc).C' m8 m8' z8,rfl,rfl,rfl⟩
 .have p1:=qF u';rw[HA (by omega),gA]at To;by_cases g4:c.R4=0
  .have p0:(c.R4=0)=True:=RX g4;rw[aI g4]at To;have TZ:=iV b.atoms;have h0:=hJ.row;rw[nh,qo]at h0;apply sR;simp only[go_sem,seval,t8,t27,t28,t29,p1,a8,p0,aT,aS];by_cases g5:(b.atoms.length:Int)=0
   .have p5:((b.atoms.length:Int)=0)=True:=RX g5;rw[aI g5]at To;rw[mB To];refine ay.yA (by kernel_rfl) [0,1,2,3,4,5,6,7,8,9] [[],[],[1],[1,2],[1,2,3],[1,2,3,4],[1,2,3,4,5],[0],[0,1,2,3,4,5,6,7],[0,1,2,3,4,5,6,7,8]] [0,2,4,6,8,10,12,14,9,16,18] (by kernel_rfl) (by kernel_rfl) ?_;refine cY (n:=0) [9,16,18] [0,2,4,6,8,10,12,14] [_,_,_,_,_,_,_,_] rfl rfl ?_;simp only[go_sem,seval,t8,t11,a8,h0,TZ,p5,aT,aS,af,ae,cq,cp];refine eh rfl (by simp only[go_sem,seval,t8,t11,a8,h0,TZ,p5,ad m8.symm,aT,aS,af,ae,cq,cp]) ?_;refine cY (n:=0) [] [16,18] [_,_] rfl rfl ?_;simp only[go_sem,seval];apply sR;simp only[go_sem,seval,t8,ff];exact aD.pure (hJ.sub.aL z8) rfl
   .have p5:((b.atoms.length:Int)=0)=False:=H' g5;rw[aK g5]at To;rw[gL To];refine ay.yA (by kernel_rfl) [0,1,2,3,4,5,6,7,8,9] [[],[],[1],[1,2],[1,2,3],[1,2,3,4],[1,2,3,4,5],[0],[0,1,2,3,4,5,6,7],[0,1,2,3,4,5,6,7,8]] [0,2,4,6,8,10,12,14,9,16,18] (by kernel_rfl) (by kernel_rfl) ?_;refine cY (n:=0) [9,16,18] [0,2,4,6,8,10,12,14] [_,_,_,_,_,_,_,_] rfl rfl ?_;simp only[go_sem,seval,t8,t11,a8,h0,TZ,p5,aT,aS,af,ae,cq,cp];refine eh rfl (by simp only[go_sem,seval,t8,t11,a8,h0,TZ,p5,ad m8.symm,aT,aS,af,ae,cq,cp]) ?_;refine cY (n:=0) [] [16,18] [_,_] rfl rfl ?_;simp only[go_sem,seval];apply sR;simp only[go_sem,seval,t8,ff];exact aD.pure (hJ.sub.aL z8) rfl
  .have p0:(c.R4=0)=False:=H' g4;rw[aK g4]at To;have vt:gz b SI/\¬bZ b SI:=by
    rcases XR with⟨h,-⟩|⟨-,h,h'⟩
    .rw[h]at g4;exact absurd rfl g4
    .exact⟨h,h'⟩
   have hm:dc b.atoms SI:=vt.1.resolve_right λg=>vt.2 (by unfold bZ;omega);have T9:=l6 hb hm;apply sR;simp only[go_sem,seval,t8,t11,t12,t27,t28,t29,p1,a8,a12,p0,aT,aS,aq,ao,aM];refine pS rfl (p9 b hb SI hm hJ.row) ?_;simp only[go_sem,seval,t11];refine pR rfl (Iy (bo b SI) T9 (λt=>decide (bZ b t)) (λx hx=>qi b x hJ.row)) ?_;cases hany:(bo b SI).any λt=>decide (bZ b t)
   .rw[aK (by rw[hany];simp)]at To;rw[gL To];apply sR;simp only[go_sem,seval,t8,t10,a8,Bool.not_false,ff,aT,aS];exact aD.pure (hJ.sub.aL z8) rfl
   .rw[aI hany]at To;rw[mB To];apply sR;simp only[go_sem,seval,t8,t10,a8,Bool.not_true,ff,aT,aS];exact aD.pure (hJ.sub.aL z8) rfl
open Go.Proofs
section
variable {P:Program} {n:Nat} {st:St} {Q:St->Prop} {k:List It}
def GF{o:Op}{x y:VX}(h:SC P n o=.bin .add x y):∃t x0 y0 yt,o=.binOp .add t x0 y0 yt/\cx n x0=x/\cx n y0=y:=by
 cases o
 case binOp op' t x0 y0 yt=>
  simp only[SC,cU]at h
  repeat' split at h
  all_goals first
   |(simp only[SH.bin.injEq]at h;obtain⟨rfl,h2,h3⟩:=h;exact⟨t,x0,y0,yt,rfl,h2,h3⟩)
   |cases h
   |(cases op'<;>cases h)
 case call c=>
  obtain⟨callee,args,argTypes⟩:=c;cases callee
  case builtin b=>cases b<;>simp only[SC]at h<;>(repeat' split at h)<;>cases h
  all_goals (simp only[SC]at h;cases h)
 case unOp op t x=>cases op<;>simp only[SC]at h<;>cases h
 case makeFunc f a b=>cases f<;>simp only[SC]at h<;>(repeat' split at h)<;>cases h
 all_goals (simp only[SC]at h;(repeat' split at h)<;>cases h)
def ay.Ps{i:aU}{l:List aU}{x y:VX}{kk:IntKind}{a b:Int}(hw:bt st.s i.g=some true)(ho:i.op=.bin .add x y)(hx:x.ev st.s=.int kk a)(hy:y.ev st.s=.int kk b)
 (h:ay P n (.ops l::k) ⟨bb st.s i.dst (.int kk (kk.wrap (a+b))),st.U⟩ Q):ay P n (.ops (i::l)::k) st Q:=by
 refine ay.ins (by rw[ho];simp) hw λF hn I act w o all hi hs next Q' R8=>?_
 subst hn;obtain⟨Sc,hd⟩:=fD hi;rw[ho]at Sc;obtain⟨t,x0,y0,yt,g1,rfl,rfl⟩:=GF Sc;have ex:act.eval x0=.int kk a:=by
  have:=cO hs x0;rw[hx]at this;simpa[E']using this
 have ey:act.eval y0=.int kk b:=by
  have:=cO hs y0;rw[hy]at this;simpa[E']using this
 have SQ:(execOp act.eval o).run P w=.ok (.value (.int kk (kk.wrap (a+b)))) w:=by
  unfold execOp;rw[g1];simp[ex,ey,eqGuard,binOp,Op.intArith]
 unfold Oper.wp;rw[SQ];refine R8 _ _ _ ⟨I,?_⟩ h;have:=hs.pure (d:=o.dst) (v:=.int kk (kk.wrap (a+b))) (x:=.int kk (kk.wrap (a+b))) (by simp[E']);rw[<-hd];exact this
end
def zC{l:List Nd}{i:Nat}(h:i<l.length):oc (l.take (i+1))=oc (l.take i)+l[i].words.length:=by
 unfold oc;rw[Vn h,fw,List.sum_append];simp
def wO:∀{l:List Nd},(∀x∈l,x.words.length<=200000000000000)->oc l<=l.length*200000000000000
 |[],_=>by simp[oc]
 |x::l,h=>by
  have h1:=h x (by simp);have h2:=wO (l:=l) λy hy=>h y (by simp[hy]);unfold oc at*;simp only[ga,List.sum_cons,Uf];omega
open Go.Proofs
def bxN:Nd:=⟨3,1,⟨0,0,0,0,0,0,0,0,0,0,0,0⟩,0,0,[],0,1,2⟩
def bx5:List Nd:=[bxN,bxN,bxN,bxN,bxN]
def bxV:V:=.agg [vI 3,vI 1,vI 0,vI 0,vI 0,vI 0,vI 0,vI 0,vI 0,vI 0,vI 0,vI 0,vI 0,vI 0,vI 0,vI 0,.bl,vI 0,vI 1,vI 2]
def rD(U:al)(N:Nat->Prop):Fz U N bxV (.agg (Nd.cells bxN)):=by
 unfold bxV;have s:∀k:Int,Fz U N (vI k) (vI k):=λk=>.same _ rfl;exact .agg _ _ (.cons _ _ _ _ (s _) (.cons _ _ _ _ (s _) (.cons _ _ _ _ (s _) (.cons _ _ _ _ (s _) (.cons _ _ _ _ (s _) (.cons _ _ _ _ (s _) (.cons _ _ _ _ (s _) (.cons _ _ _ _ (s _) (.cons _ _ _ _ (s _) (.cons _ _ _ _ (s _)
  (.cons _ _ _ _ (s _) (.cons _ _ _ _ (s _) (.cons _ _ _ _ (s _) (.cons _ _ _ _ (s _) (.cons _ _ _ _ (s _) (.cons _ _ _ _ (s _) (.cons _ _ _ _ (.nil 1) (.cons _ _ _ _ (s _) (.cons _ _ _ _ (s _) (.cons _ _ _ _ (s _) .nil))))))))))))))))))))
def Iw(U:al):aG prog 22 [] U λr Z'=>aa U Z'/\aP U Z' 59 20 r [bxV,bxV,bxV,bxV,bxV]:=by
 refine e22.q ?_;refine mS 3 ?_;simp only[go_sem,seval,c22];refine ay.loop (λm st=>∃(j:Nat) (v:V),j<=5/\m=5-j/\aa U st.U/\aP U st.U 59 20 v (List.replicate j bxV)/\st.s 1=v/\st.s 2=vI j) 5 ⟨0,.bl,by omega,rfl,aa.refl _,aP.start,rfl,rfl⟩ ?_;rintro m ⟨S,ω⟩ ⟨j,v,hj,rfl,hK,ho,t1,t2⟩;simp only at hK ho t1 t2;refine ay.mix 3 ?_;by_cases u':j<5
 .have p1:((j:Int)<5)=True:=RX;have r1:=rI j;apply sR;simp only[go_sem,seval,t1,t2,p1];refine aF λi9 Y9 s9 a9 f9=>?_;obtain⟨idA,Ta,Sd⟩:=ho.dst s9;have Vs:((List.replicate j bxV).length+1)*177<=140737488355328:=by rw[List.length_replicate];omega
  simp only[go_sem,seval,Ta,bR a9,Vs];refine bn λi10 XV TN Sb f10=>?_;simp only[go_sem,seval,t2,r1];exact⟨_,by omega,j+1,.own i10 0 ((List.replicate j bxV).length+1),by omega,rfl,(Sd U (aa.refl _) Y9 (hK.trans s9)).trans TN,by rw[List.replicate_succ'];exact aP.new (by simp) Sb ((hK.trans s9).none f10),by simp⟩
 .have p1:((j:Int)<5)=False:=H';obtain rfl:j=5:=by omega
  apply sR;simp only[go_sem,seval,t1,t2,p1];exact Tf ⟨hK,ho⟩
def HR:aX prog 22 [] (aQ bx5):=λU=>by
 refine(Iw U).x9 λr Z' h=>?_;obtain⟨hs,ho⟩:=h;have f:=λU=>rD U (λid=>U id=none);exact⟨_,U,hs,Fz.wk (N:=λid=>U id=none) (ho.Ko (rows':=bx5.map λn=>.agg (Nd.cells n)) (λid h=>h) (.cons _ _ _ _ (rD _ _) (.cons _ _ _ _ (rD _ _) (.cons _ _ _ _ (rD _ _) (.cons _ _ _ _ (rD _ _) (.cons _ _ _ _ (rD _ _) .nil)))))) hs (λ_ h=>h),rfl,rfl⟩
def stL(l:List Int)(j:Nat):List R3:=(List.range j).map λi=>⟨l.getD i 0,0,decide (i=0)⟩
def Hn(l:List Int){j:Nat}(h:j<l.length):stL l (j+1)=stL l j++[⟨l[j],0,decide (j=0)⟩]:=by
 unfold stL;rw[List.range_succ,fw];simp[h]
def uf{U:al}{v:V}(l:List Int)(hl:l.length<=1000000)(hr:Reads U 1 false v (l.map vI)):
 aG prog 23 [v] U λr Z'=>r=bU (stL l l.length)/\Z'=U:=by
 refine e23.q ?_;have hlv:eM false v=some (.int .i64 l.length):=by rw[hr.1,dO]
 refine mS 5 ?_;simp only[go_sem,seval,c23];refine ay.loop (λm st=>∃(j:Nat) (u:V),j<=l.length/\m=l.length-j/\aa U st.U/\aP U st.U 24 3 u ((stL l j).map aN)/\st.s 0=v/\st.s 3=u/\st.s 4=vI j) l.length ⟨0,.bl,by omega,rfl,aa.refl _,aP.start,rfl,rfl,rfl⟩ ?_;rintro m ⟨S,ω⟩ ⟨j,u,hj,rfl,hK,ho,t0,t3,t4⟩;simp only at hK ho t0 t3 t4;refine ay.mix 5 ?_;by_cases u':j<l.length
 .have p1:=qT u';have r1:=rI j;obtain⟨a,ha,TZ⟩:=(Reads.mono hK hr).2 j (vI l[j]) (by simp[u']);have Sg:=Hn l u';have Vs:((stL l j).map aN).length=j:=by unfold stL;simp
  have hdc:decide ((j:Int)=0)=decide (j=0):=decide_eq_decide.2 (by omega);generalize hD:decide (j=0)=D at*;apply sR;simp only[go_sem,seval,t0,t3,t4,hlv,p1,ha,TZ];refine aF λi19 Z19 s19 a19 f19=>?_;obtain⟨idA,Ta,Sd⟩:=ho.dst s19;have SF:(((stL l j).map aN).length+1)*25<=140737488355328:=by rw[Vs];omega
  simp only[go_sem,seval,Ta,bR a19,SF];refine bn λi20 Z20 s20 a20 f20=>?_;rw[hdc]at a20;simp only[go_sem,seval,t4,r1];exact⟨_,by omega,j+1,.own i20 0 (((stL l j).map aN).length+1),by omega,rfl,(Sd U (aa.refl _) Z19 (hK.trans s19)).trans s20,by rw[Sg,fw];exact aP.new (by simp) a20 ((hK.trans s19).none f20),by simp[t0]⟩
 .have p1:=qF u';obtain rfl:j=l.length:=by omega
  apply sR;simp only[go_sem,seval,t0,t3,t4,hlv,p1];exact ho.nG hK rfl
def tV(a b:List R3)(h:a.length<=1000000):aX prog 10 [bU a,bU b] (.bool (decide (a=b))):=
 Jw func10 (sz:=3) (ks:=[0,0,1]) (e10.b.trans rfl) e10.c aN yV (λ_ _=>rfl) a b (by omega)
def Ej{α:Type}(f:Nat->α)(a n:Nat):((List.range n).map λi=>f (a+n-i)).reverse=(List.range n).map λi=>f (a+1+i):=by
 apply List.ext_getElem
 .simp
 .intro i h1 h2;simp only[List.length_reverse,dO,List.length_range]at h1;rw[List.getElem_reverse];simp only[List.getElem_map,List.getElem_range,dO,List.length_range];congr 1;omega
def G8{b:Bk}{s:R3}(h0:0<=s.atom):(bo b s).reverse=if cu b s<=s.atom then[fS b.atoms s (dK b s).body]else if fH b.SJ (s.atom+1) (cu b s)>=0 then[ku b (fH b.SJ (s.atom+1) (cu b s)).toNat]
 else(List.range (cu b s-s.atom).toNat).map λi=>ku b (s.atom.toNat+1+i):=by
 unfold bo;split
 .rfl
 .split
  .rfl
  .rw[show(cu b s).toNat=s.atom.toNat+(cu b s-s.atom).toNat by omega];exact Ej (ku b) _ _
def Ey{b:Bk}(hb:dh b){s:R3}(hm:dc b.atoms s):∃x r,bo b s=x::r/\(bo b s).any (λt=>decide (bZ b t))=decide (bZ b x):=by
 have hf:¬bZ b s:=by have:=hm.1.2;unfold bZ;omega
 have Sh:=(dF hb).ne s (.inl hm) hf;unfold bo at Sh|-;split
 .exact⟨_,_,rfl,by simp⟩
 .split
  .exact⟨_,_,rfl,by simp⟩
  .rename_i h1 h2;rw[aK h1,aK h2]at Sh;cases hn:(cu b s-s.atom).toNat with
   |zero=>rw[hn]at Sh;simp at Sh
   |succ k=>
    rw[List.range_succ_eq_map,ga];refine⟨_,_,rfl,?_⟩;rw[List.any_cons];by_cases hx:bZ b (ku b ((cu b s).toNat-0))
    .rw[Tv hx,Bool.true_or]
    .rw[TE hx,Bool.false_or,List.any_eq_false];intro y hy;rw[List.map_map]at hy;obtain⟨i,_,rfl⟩:=iE.1 hy;rw[Bool.not_eq_true,TE];intro hy;apply hx;unfold bZ ku at hy|-;simp only[Function.comp_apply]at hy|-;omega
def CE{b:Bk}(hb:dh b){s t:R3}(hm:dc b.atoms s)(ht:t∈bo b s):gz b t/\t.atom<=b.atoms.length:=by
 have hf:¬bZ b s:=by have:=hm.1.2;unfold bZ;omega
 have h:=((dF hb).on s (.inl hm) hf t ht).1;refine⟨h,?_⟩;rcases h with h|h
 .have:=h.1.2;omega
 .omega
def zw{b:Bk}:ji b []=if b.atoms.length=0 then some ⟨0,0⟩else none:=by
 unfold ji gA;rw[aI rfl];by_cases h:b.atoms.length=0
 .rw[aI h,aI (by omega)]
 .rw[aK h,aK (by omega)]
def xl{b:Bk}{s:R3}{r:List R3}:ji b (s::r)=if b.atoms.length=0\/s≠⟨0,0,true⟩then none else gA b s ⟨1,0⟩ r:=by
 unfold ji;rw[gA];have e:bZ b ⟨0,0,true⟩↔b.atoms.length=0:=by unfold bZ;simp only;omega
 by_cases h:b.atoms.length=0\/s≠⟨0,0,true⟩
 .rw[aI h,aI];rcases h with h|h
  .exact .inl (e.2 h)
  .exact .inr (.inr ⟨h,rfl⟩)
 .rw[aK h];have h1:¬bZ b ⟨0,0,true⟩:=λg=>h (.inl (e.1 g));have h2:s=⟨0,0,true⟩:=Decidable.byContradiction λg=>h (.inr g);subst h2;rw[aK (by rintro(g|g|g);exact h1 g;exact h1 g;exact g.1 rfl),aK (by decide)]
  rfl
def DZ{b:Bk}{a s:R3}{c:Ue}{r:List R3}(hc:1<=c.R4)(ha:¬bZ b a):gA b a c (s::r)=if bZ b s\/s∉bo b a then none else gA b s ⟨c.R4+1,c.Sy+cH b s⟩ r:=by
 rw[gA];by_cases h:bZ b s
 .rw[aI (.inr (.inl h)),aI (.inl h)]
 .rw[aK (by rintro(g|g|g);exact ha g;exact h g;omega),aI (by omega)]
  by_cases h2:s∈bo b a
  .rw[aI h2,aK (by rintro(g|g);exact h g;exact g h2)]
  .rw[aK h2,aI (.inr h2)]
def EP{b:Bk}{a:R3}{c:Ue}(hc:1<=c.R4):gA b a c []=if(bo b a).any (λt=>decide (bZ b t))then some c else none:=by
 rw[gA,aK (by omega)]
end Go.Vc
