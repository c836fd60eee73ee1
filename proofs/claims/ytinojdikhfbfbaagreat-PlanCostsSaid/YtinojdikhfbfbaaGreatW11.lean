import Derived.Test.YtinojdikhfbfbaaGreatW10
set_option linter.all false
set_option maxHeartbeats 8000000
set_option maxRecDepth 100000
open Go.Proofs.Tryz
namespace Go.Vc
open Go.Proofs
def E9(b:List U4)(hb:b.length<=1000000)(i:Nat)(hi:i<=1000000)(fit:Int)(hf:fit<=(b.length:Int)-1):aX prog 32 [dv b,vI ((i:Int)+1),vI fit] (vI (fH b ((i:Int)+1) fit)):=λU=>by
 refine e32.q ?_;have hs:=aa.refl U;have hn:=Hh b;have hNe:=HE (b:=b) (i:=i) (to:=fit);refine mS 8 ?_;simp only[go_sem,seval,c32];refine ay.loop (λm st=>∃j:Nat,j<=b.length/\m=b.length-j/\(∀k:Nat,i<k->k<j->(k:Int)<=fit->(UR b k).forced=0)/\st.U=U/\st.s 0=dv b/\st.s 1=vI ((i:Int)+1)/\st.s 2=vI fit/\st.s 7=vI j) b.length ?_ ?_
 .exact⟨0,by omega,rfl,λk h1 h2=>by omega,rfl,rfl,rfl,rfl,rfl⟩
 .rintro m ⟨S,J⟩ ⟨j,hj,rfl,hz,Su,t0,t1,t2,t7⟩;simp only at Su t0 t1 t2 t7;subst Su;refine ay.mix 8 ?_;by_cases u':j<b.length
  .have q1:=qT u';have SW:=λU=>B5 (U:=U) u';have eg:UR b j=b[j]:=by simp[UR,u']
   rw[<-eg]at SW;have r1:=rI j;by_cases gr:(i:Int)+1<=j/\(j:Int)<=fit/\(UR b j).forced≠0
   .obtain⟨g1,g2,g3⟩:=gr;have q2:((j:Int)>=(i:Int)+1)=True:=RX g1;have q3:((j:Int)<=fit)=True:=RX g2;have q4:((UR b j).forced≠0)=True:=RX g3;have U7:=Eh (b:=b) (i:=i) (j:=j-i-1) (to:=fit) (by rw[hNe];omega) (λk h1 h2=>hz k h1 (by omega) (by omega)) (by rw[show i+1+(j-i-1)=j by omega];exact g3);rw[show i+1+(j-i-1)=j by omega]at U7;rw[U7];generalize UR b j=x at*;apply sR;simp only[go_sem,seval,t0,t1,t2,t7,q1,q2,q3,q4,hn,SW,dy];exact aD.pure hs rfl
   .have hz2:∀k:Nat,i<k->k<j+1->(k:Int)<=fit->(UR b k).forced=0:=λk h1 h2 h3=>by
     by_cases e:k=j
     .subst e;exact Decidable.byContradiction λh=>gr ⟨by omega,h3,h⟩
     .exact hz k h1 (by omega) h3
    have hq:(((j:Int)>=(i:Int)+1)=False)\/(((j:Int)>=(i:Int)+1)=True/\((j:Int)<=fit)=False)\/(((j:Int)>=(i:Int)+1)=True/\((j:Int)<=fit)=True/\((UR b j).forced≠0)=False):=by
     by_cases g1:(j:Int)>=(i:Int)+1
     .by_cases g2:(j:Int)<=fit
      .exact .inr (.inr ⟨RX g1,RX g2,H' λh=>gr ⟨g1,g2,h⟩⟩)
      .exact .inr (.inl ⟨RX g1,H' g2⟩)
     .exact .inl (H' g1)
    generalize UR b j=x at SW hq;rcases hq with q2|⟨q2,q3⟩|⟨q2,q3,q4⟩
    case' inl=>
     have q3:True:=trivial;have q4:True:=trivial
    case' inr.inl=>
     have q4:True:=trivial
    all_goals
     apply sR;simp only[go_sem,seval,t0,t1,t2,t7,q1,q2,q3,q4,hn,SW,dy,r1];exact⟨_,by omega,j+1,by omega,rfl,hz2,by simp[vI]⟩
  .have q1:=qF u';have hnone:=A1 (b:=b) (i:=i) (to:=fit) (λk h1 h2=>by
    rw[hNe]at h2;exact hz k h1 (by omega) (by omega))
   rw[hnone];apply sR;simp only[go_sem,seval,t0,t1,t2,t7,q1,hn];exact aD.pure hs rfl
def DT:aX prog 39 [] (aN ⟨0,0,true⟩):=λU=>by
 refine e39.q ?_;have hs:=aa.refl U;refine mS 1 ?_;simp only[go_sem,seval,c39];refine aE hs λi0 Z0 s0 a0 f0 z0 hs=>?_;simp only[go_sem,seval,a0];exact aD.pure (hs.aL z0) rfl
def yY(b:Bk)(s:R3):aX prog 40 [cX b,aN s] (.bool (decide (s.atom=b.atoms.length))):=λU=>by
 refine e40.q ?_;have hs:=aa.refl U;have TZ:=iV b.atoms;refine mS 5 ?_;simp only[go_sem,seval,c40,j1,ab,ai,af,ae,av,au,ax,az,aq,ao];refine aE hs λi2 Z2 s2 a2 f2 z2 hs=>?_;simp only[go_sem,seval,ab,ai,af,ae,av,au,ax,az,aq,ao];refine aE hs λi3 Z3 s3 a3 f3 z3 hs=>?_;obtain⟨n23,a2⟩:=RZ a2 f3 s3;by_cases h:s.atom=b.atoms.length
 .have q:(s.atom=b.atoms.length)=True:=RX h;simp only[go_sem,seval,a2,a3,TZ,q,ab,ai,af,ae,av,au,ax,az,aq,ao];exact aD.pure hs rfl
 .have q:(s.atom=b.atoms.length)=False:=H' h;simp only[go_sem,seval,a2,a3,TZ,q,ab,ai,af,ae,av,au,ax,az,aq,ao];exact aD.pure hs rfl
def GN(b:Bk)(s:R3)(h0:0<=s.atom/\s.atom<b.SJ.length):aX prog 42 [cX b,aN s] (vI (cH b s)):=λU=>by
 refine e42.q ?_;have hs:=aa.refl U;have SW:=qv (b:=b.SJ) (k:=s.atom) h0.1 h0.2;unfold cH;generalize UR b.SJ s.atom.toNat=B at*;refine mS 5 ?_;simp only[go_sem,seval,c42,j1,ab,ai,af,ae,av,au,ax,az,aq,ao];refine aE hs λi2 Z2 s2 a2 f2 z2 hs=>?_;simp only[go_sem,seval,ab,ai,af,ae,av,au,ax,az,aq,ao];refine aE hs λi3 Z3 s3 a3 f3 z3 hs=>?_;obtain⟨n23,a2⟩:=RZ a2 f3 s3;by_cases h:s.done>0
 .have q:(s.done>0)=True:=RX h;simp only[go_sem,seval,a2,a3,q,ab,ai,af,ae,av,au,ax,az,aq,ao];exact aD.pure hs rfl
 .have q:(s.done>0)=False:=H' h;simp only[go_sem,seval,a2,a3,q,SW,mC,ab,ai,af,ae,av,au,ax,az,aq,ao];exact aD.pure hs rfl
def Is(p:List R3)(hp:p.length<=1000000000)(a:R3):aX prog 41 [bU p,aN a] (vI (j7 a p 0)):=λU=>by
 refine e41.q ?_;have hs:=aa.refl U;have hlp:=jl p;refine mS 6 ?_;simp only[go_sem,seval,c41,aq,ao];refine aE hs λi3 Z3 s3 a3 f3 z3 hs=>?_;simp only[go_sem,seval,hlp,aq,ao];refine ay.loop (λm st=>∃(i:Nat),i<=p.length/\m=p.length-i/\j7 a p 0=j7 a (p.drop i) i/\st.U=Z3/\st.s 0=bU p/\st.s 3=.ptr i3 0 0/\st.s 5=vI i) p.length ?_ ?_
 .exact⟨0,by omega,rfl,rfl,rfl,rfl,rfl,rfl⟩
 .rintro m ⟨s,Z'⟩ ⟨i,hi,rfl,heq,Su,h0,h3,h5⟩;simp only at Su h0 h3 h5;subst Su;refine ay.mix 6 ?_;by_cases u':i<p.length
  .have q:=qT u';have hd:=wc (a:=a) u';have R0:=λU=>iL (U:=U) u';have r1:=rI i;have Xt:=ES p[i] a;have Wu:=mT p[i];by_cases hc:a=p[i]
   .rw[Tv hc.symm]at Xt;apply sR;simp only[BB,seval,<-decide_not,bp,fW,aV,dP,dR,dI,dQ,eo,bH,jE,gm,bu,fO,dM,fL,cP,cC,bQ,iB,cm,cB,cd,Ty,jD,cW,bJ,dp,bS,cN,cD,jH,binBV,bG,dj,Tx.nothing,h0,h3,h5,hlp,q,a3,R0,Wu,Xt,aq,ao,aM,V.dV,V.dW,V.df,V.dT,V.fa,V.ef,V.di,V.eW,V.dZ,V.eZ,V.ed,V.dX,V.dk,V.ee,V.fi,V.ec,V.dg,V.fc,V.dU,V.fg];refine aD.pure hs ?_;rw[heq,hd,aI hc]
   .rw[TE (λh=>hc h.symm)]at Xt;apply sR;simp only[BB,seval,<-decide_not,bp,fW,aV,dP,dR,dI,dQ,eo,bH,jE,gm,bu,fO,dM,fL,cP,cC,bQ,iB,cm,cB,cd,Ty,jD,cW,bJ,dp,bS,cN,cD,jH,binBV,bG,dj,Tx.nothing,h0,h3,h5,hlp,q,a3,R0,Wu,Xt,r1,aq,ao,aM,V.dV,V.dW,V.df,V.dT,V.fa,V.ef,V.di,V.eW,V.dZ,V.eZ,V.ed,V.dX,V.dk,V.ee,V.fi,V.ec,V.dg,V.fc,V.dU,V.fg];exact⟨_,by omega,i+1,by omega,rfl,by rw[heq,hd,aK hc],by simp[h0,h3]⟩
  .have q:=qF u';have Uv:i=p.length:=by omega
   apply sR;simp only[go_sem,seval,h0,h3,h5,hlp,q];refine aD.pure hs ?_;rw[heq,Uv,uY];rfl
def G4(a b:Ue):aX prog 14 [dd a,dd b] (.bool (decide (a.lt b))):=λU=>by
 refine e14.q ?_;have hs:=aa.refl U;have hT:(a.R4<b.R4\/a.R4=b.R4/\a.Sy<b.Sy)->decide (a.lt b)=true:=λh=>Tv h;have hN:¬(a.R4<b.R4\/a.R4=b.R4/\a.Sy<b.Sy)->decide (a.lt b)=false:=λh=>TE h;generalize decide (a.lt b)=X at*;obtain⟨a1,a2'⟩:=a;obtain⟨b1,b2'⟩:=b;simp only at hT hN;refine mS 5 ?_;simp only[go_sem,seval,c14,aT,aS];refine aE hs λi2 Z2 s2 a2 f2 z2 hs=>?_;simp only[go_sem,seval,aT,aS];refine aE hs λi3 Z3 s3 a3 f3 z3 hs=>?_;obtain⟨n23,a2⟩:=RZ a2 f3 s3;by_cases h1:a1<b1
 .have q1:(a1<b1)=True:=RX h1;simp only[go_sem,seval,a2,a3,q1,aT,aS];exact aD.pure hs (by rw[hT (.inl h1)])
 .have q1:(a1<b1)=False:=H' h1;by_cases h2:a1=b1
  .have q2:(a1=b1)=True:=RX h2;by_cases h3:a2'<b2'
   .have q3:(a2'<b2')=True:=RX h3;simp only[go_sem,seval,a2,a3,q1,q2,q3,aT,aS];exact aD.pure hs (by rw[hT (.inr ⟨h2,h3⟩)])
   .have q3:(a2'<b2')=False:=H' h3;simp only[go_sem,seval,a2,a3,q1,q2,q3,aT,aS];exact aD.pure hs (by rw[hN (λh=>h.elim h1 λh=>h3 h.2)])
  .have q2:(a1=b1)=False:=H' h2;simp only[go_sem,seval,a2,a3,q1,q2,aT,aS];exact aD.pure hs (by rw[hN (λh=>h.elim h1 λh=>h2 h.1)])
def l4:V:=.agg [.bl,vI 0,vI 0,.bl,.bl,vI 0,.bl]
def jN(l:List Nd)(w h:Int):V:=if UX l w h=0 then cX (bK l w h)else l4
def I3(l:List Nd)(hl:dN l)(w h:Int):aX prog 20 [aQ l,vI w,vI h] (.Sa [jN l w h,vI (UX l w h)]):=λU=>by
 refine e20.q ?_;have hs:=aa.refl U;have hqn:=Ld l hl w h;have h1:fm l w h=0->((bK l w h).V9.length:Int)>0->UX l w h=4/\jN l w h=l4:=λhe hf=>by
  have e:UX l w h=4:=by unfold UX;rw[aK (λk=>k he),aI hf]
  exact⟨e,by unfold jN;rw[aK (by rw[e];decide)]⟩
 have h2:fm l w h=0->¬((bK l w h).V9.length:Int)>0->UX l w h=0/\jN l w h=cX (bK l w h):=λhe hf=>by
  have e:UX l w h=0:=by unfold UX;rw[aK (λk=>k he),aK hf]
  exact⟨e,by unfold jN;rw[aI e]⟩
 have h3:fm l w h≠0->UX l w h=fm l w h/\jN l w h=l4:=λhe=>by
  have e:UX l w h=fm l w h:=by unfold UX;rw[aI he]
  exact⟨e,by unfold jN;rw[aK (by rw[e];exact he)]⟩
 generalize UX l w h=D at*;generalize jN l w h=V at*;refine mS 10 ?_;simp only[go_sem,seval,c20];refine aE hs λi6 Z6 s6 a6 f6 z6 hs=>?_;simp only[go_sem,seval];refine pR rfl (hqn _) ?_;by_cases he:fm l w h=0
 .replace h1:=h1 he;replace h2:=h2 he;rw[B3,aI he,he];have Yy:=jT (bK l w h).V9;generalize bK l w h=b at*;rw[j1]at h2|-;have q1:((0:Int)=0)=True:=RX rfl;apply sR;simp only[go_sem,seval,ab,ai,af,ae,av,au,ax,az,aq,ao];refine aE hs λi8 Z8 s8 a8 f8 z8 hs=>?_;obtain⟨Wl,a6⟩:=RZ a6 f8 s8;by_cases hf:(b.V9.length:Int)>0
  .have q2:((b.V9.length:Int)>0)=True:=RX hf;obtain⟨rfl,rfl⟩:=h1 hf;simp only[go_sem,seval,a6,a8,q1,q2,Yy,ad Wl,ad Wl,ab,ai,af,ae,av,au,ax,az,aq,ao];exact aD.pure ((hs.aL z8).aL z6) rfl
  .have q2:((b.V9.length:Int)>0)=False:=H' hf;obtain⟨rfl,rfl⟩:=h2 hf;simp only[go_sem,seval,a6,a8,q1,q2,Yy,ad Wl,ad Wl,ab,ai,af,ae,av,au,ax,az,aq,ao];exact aD.pure ((hs.aL z8).aL z6) rfl
 .obtain⟨rfl,rfl⟩:=h3 he;rw[B3,aK he];have q1:(fm l w h=0)=False:=H' he;generalize fm l w h=E at*;apply sR;simp only[go_sem,seval];refine aE hs λi8 Z8 s8 a8 f8 z8 hs=>?_;obtain⟨Wl,a6⟩:=RZ a6 f8 s8;simp only[go_sem,seval,a8,a6,q1,ad Wl,ad Wl];exact aD.pure ((hs.aL z8).aL z6) rfl
open Go.Proofs
def wA{b:List U4}{i:Nat}{to:Int}(h:fH b ((i:Int)+1) to>=0):(UR b (fH b ((i:Int)+1) to).toNat).forced≠0:=by
 unfold fH at*;rcases o5 ((btw b ((i:Int)+1) to).map (p7 b)) xM with⟨e,-⟩|⟨L,x,R,e1,-,e3,e4⟩
 .rw[e]at h;simp[xM]at h
 .rw[e4]at h|-;have hx:x∈(btw b ((i:Int)+1) to).map (p7 b):=by rw[e1];simp
  obtain⟨k,hk,rfl⟩:=iE.1 hx;have:((p7 b k).i).toNat=k:=by simp[p7]
  show(UR b ((p7 b k).i).toNat).forced≠0;rw[this];exact e3
def tQ(b:Bk)(k j:Nat):List R3:=(List.range j).map λi=>ku b (k+1+i)
def Co(b:Bk)(k j:Nat):tQ b k (j+1)=tQ b k j++[ku b (k+1+j)]:=by
 unfold tQ;rw[List.range_succ,fw];rfl
def Hi(b:Bk)(hb:dh b)(hq:BkQ b)(s:R3)(hm:dc b.atoms s):aX prog 11 [cX b,aN s] (bU (bo b s).reverse):=λU=>by
 refine e11.q ?_;have hs:=aa.refl U;have Tu:=hb.len;have Vy:=hb.brk;obtain⟨k,hk⟩:∃k:Nat,s.atom=k:=⟨s.atom.toNat,by have:=hm.1.1;omega⟩
 have UG:k<b.atoms.length:=by have:=hm.1.2;omega
 have hd:=yK hb hm;have hrv:=C4 b hq s hm.1.1;have Vo:=xj hb.toBkFull s hm.1.1;have hkp:=H4 b.atoms hb.SI s (dK b s).body;have hkr:=BG hb.toBkOk s (dK b s).body;have hrc:=GG b.atoms hb.SI hb.UL hb.pos s hm (by omega) (iz b.atoms s (dK b s).body) 0 (dK b s).body hkr ⟨by omega,by omega⟩;have W2:=Jq b.atoms hb.SI s hm (by omega) (dK b s).body Vo;have hRn:=ui hb hm;rw[show nA b.atoms s (iz b.atoms s (dK b s).body) 0 (dK b s).body=cu b s from rfl]at hrc;have hfi:=E9 b.SJ (by omega) k (by omega) (cu b s) (by omega);have W4:=oF (b:=b.SJ) (i:=s.atom) (fit:=cu b s) hm.1.1 (by omega);have hff:=wA (b:=b.SJ) (i:=k) (to:=cu b s);have WA:=G8 (b:=b) (s:=s) hm.1.1;rw[hk]at W4 WA;rw[gM]at WA;rw[j1]at hrv;generalize cu b s=R at*;generalize iz b.atoms s (dK b s).body=KP at*;generalize dK b s=rv at*;generalize fS b.atoms s rv.body=NX at*;generalize pX b.atoms s rv.body=FX at*;generalize fH b.SJ ((k:Int)+1) R=FR at*;have r1:=rI k;refine mS 14 ?_;simp only[go_sem,seval,c11,j1,ab,ai,af,ae,av,au,ax,az,aq,ao];refine aE hs λi2 Z2 s2 a2 f2 z2 hs=>?_;simp only[go_sem,seval,ab,ai,af,ae,av,au,ax,az,aq,ao];refine aE hs λi3 Z3 s3 a3 f3 z3 hs=>?_;obtain⟨n23,a2⟩:=RZ a2 f3 s3;simp only[go_sem,seval,a2,a3,aM,ab,ai,af,ae,av,au,ax,az,aq,ao];refine pS rfl (hrv _) ?_;simp only[go_sem,seval,a3,kE,aM,ab,ai,af,ae,av,au,ax,az,aq,ao];refine pS rfl (hkp _) ?_;simp only[go_sem,seval,a3,aM,ab,ai,af,ae,av,au,ax,az,aq,ao];refine pR rfl (hrc _) ?_;by_cases g1:R<=s.atom
 .have q1:(R<=s.atom)=True:=RX g1;rw[aI (by omega)]at WA;apply sR;simp only[go_sem,seval,a3,q1,aM,ab,ai,af,ae,av,au,ax,az,aq,ao];refine pR rfl (W2 _) ?_;have nc:NX=NX:=rfl;apply sR;simp only[go_sem,seval,cz,ab,ai,af,ae,av,au,ax,az,aq,ao];refine aE hs λi9 Y9 s9 a9 f9 z9 hs=>?_;simp only[go_sem,seval,ab,ai,af,ae,av,au,ax,az,aq,ao];refine aE hs λi10 XV TN Sb f10 UH hs=>?_;obtain⟨Vi,a9⟩:=RZ a9 f10 TN;simp only[go_sem,seval,a9,Sb,aM,ad Vi,ad Vi,ad Vi.symm,ad Vi.symm,ab,ai,af,ae,av,au,ax,az,aq,ao];refine aF λi42 Z42 s42 a42 f42=>?_;simp only[go_sem,seval];rw[WA];exact(aP.new (e:=24) (sz:=3) (rows:=[NX].map aN) rfl a42 (aa.none ((hs.aL z9).aL UH) f42)).nG (aa.trans ((hs.aL z9).aL UH) s42) rfl
 .have q1:(R<=s.atom)=False:=H' g1;rw[aK (by omega)]at WA;rw[hk]at q1;by_cases g2:FR>=0
  .have q2:(FR>=0)=True:=RX g2;rw[aI g2]at WA;have XB:ku b FR.toNat=⟨FR,0,true⟩:=by
    unfold ku;rw[Tv (hff g2),Int.toNat_of_nonneg g2]
   rw[XB]at WA;apply sR;simp only[go_sem,seval,a2,a3,hk,q1,r1,ab,ai,af,ae,av,au,ax,az,aq,ao];refine pS rfl (hfi _) ?_;simp only[go_sem,seval,q2];refine aF λi54 Z54 s54 a54 f54=>?_;simp only[go_sem,seval];rw[WA];exact(aP.new (e:=24) (sz:=3) (rows:=[(⟨FR,0,true⟩:R3)].map aN) rfl a54 (hs.none f54)).nG (hs.trans s54) rfl
  .have q2:(FR>=0)=False:=H' g2;rw[aK g2]at WA;obtain⟨Rn,rfl⟩:∃Rn:Nat,R=Rn:=⟨R.toNat,by omega⟩
   have e2:((Rn:Int)-k).toNat=Rn-k:=by omega
   rw[e2]at WA;apply sR;simp only[go_sem,seval,a2,a3,hk,q1,r1,ab,ai,af,ae,av,au,ax,az,aq,ao];refine pS rfl (hfi _) ?_;simp only[go_sem,seval,q2,a3,hk,r1,ab,ai,af,ae,av,au,ax,az,aq,ao];refine ay.loop (λm st=>∃(j:Nat) (v:V),j<=Rn-k/\m=Rn-k-j/\aa Z3 st.U/\aP Z3 st.U 24 3 v ((tQ b k j).map aN)/\st.s 2=.ptr i2 0 0/\st.s 8=vI Rn/\st.s 12=v/\st.s 13=vI ((k+1+j:Nat):Int)) (Rn-k) ⟨0,.bl,by omega,rfl,aa.refl _,aP.start,rfl,rfl,rfl,rfl⟩ ?_;rintro m ⟨S,ω⟩ ⟨j,v,hj,rfl,hK,hv,t2,t8,t12,t13⟩;simp only at hK hv t2 t8 t12 t13;refine ay.mix 14 ?_;have b2:=hK _ _ a2;by_cases u':j<Rn-k
   .have q3:(((k+1+j:Nat):Int)<=(Rn:Int))=True:=RX;have r2:Sn .i64 (((k+1+j:Nat):Int)+1):=ar;have SW:=qv (b:=b.SJ) (k:=((k+1+j:Nat):Int)) (by omega) (by omega);have hcu:aN (ku b (k+1+j))=.agg [vI ((k+1+j:Nat):Int),vI 0,.bool (decide ((UR b.SJ (k+1+j)).forced≠0))]:=rfl;rw[gM]at SW;generalize UR b.SJ (k+1+j)=B at*;have hsw:=aa.refl ω;apply sR;simp only[go_sem,seval,t2,t8,t12,t13,b2,q3,SW,mC,ab,ai,af,ae,av,au,ax,az,aq,ao];refine aF λi73 Z73 s73 a73 f73=>?_;obtain⟨idA,Ta,Sd⟩:=hv.dst s73;have Vs:(((tQ b k j).map aN).length+1)*25<=140737488355328:=by simp only[dO,tQ,List.length_range];omega
    simp only[go_sem,seval,Ta,bR a73,Vs];refine bn λi74 Z74 s74 a74 f74=>?_;simp only[go_sem,seval,t13,r2];exact⟨_,by omega,j+1,.own i74 0 (((tQ b k j).map aN).length+1),by omega,rfl,(Sd Z3 (aa.refl _) Z73 (hK.trans s73)).trans s74,by rw[Co,fw];exact aP.new (by simp) (by rw[a74];simp[hcu]) ((hK.trans s73).none f74),by simp[t2,t8];omega⟩
   .have q3:(((k+1+j:Nat):Int)<=(Rn:Int))=False:=H';apply sR;simp only[go_sem,seval,t2,t8,t12,t13,q3];have Up:j=Rn-k:=by omega
    rw[WA,<-Up];exact(hv.nk hs).nG (hs.trans hK) rfl
open Go.Proofs
set_option maxRecDepth 1000000
def b38(h:Int):Bk:=bK bx5 10 h
def f38:dN bx5:=⟨by decide,by decide⟩
def Gu:UX bx5 10 4=0:=by kernel_rfl
def RN:UX bx5 10 1=0:=by kernel_rfl
def Yc:CT (b38 4)=[⟨0,0,true⟩,⟨2,0,false⟩,⟨4,0,false⟩]:=by kernel_rfl
def QX:(eF (b38 4) ⟨0,0,true⟩).1=⟨3,0⟩:=by kernel_rfl
def g38:lu (b38 4)=[⟨0,0,true⟩,⟨2,0,false⟩,⟨4,0,false⟩]:=by kernel_rfl
def PI:yC (b38 4)=⟨3,0⟩:=by kernel_rfl
def n38:Hj (b38 4) ⟨0,0,true⟩=.Sa [bU [⟨1,0,false⟩,⟨2,0,false⟩],vI 0]:=by kernel_rfl
def m38:(eF (b38 1) ⟨0,0,true⟩).1.R4=10:=by kernel_rfl
def x38:ji (b38 4) (stL [0,1,3] 3)=some ⟨3,0⟩:=by kernel_rfl
def y38:ji (b38 4) (stL [0,3] 2)=none:=by kernel_rfl
open Go.Proofs
def Cn{U Z1:al}{i e:Nat}{l:List Int}(h:U i=some ⟨e,1,l.map vI⟩)(hs:aa U Z1):Reads Z1 1 false (.own i 0 l.length) (l.map vI):=vX (hs _ _ h)
def J6(a b:Ue):ll false [0,0] (dd a) (dd b)=some (.bool (decide (a.R4=b.R4/\a.Sy=b.Sy))):=by
 simp only[ll,dd,dp,bS,cN,vI,Uf,List.length_nil,true_and,↓reduceIte];by_cases h1:a.R4=b.R4<;>by_cases h2:a.Sy=b.Sy<;>simp[h1,h2]
def Ka:aX prog 7 [] (.bool true):=λU=>by
 refine e7.q ?_;have hs:=aa.refl U;have p1:=J5 bx5 f38 10 4 Gu;have p2:=EA bx5 f38 10 4 Gu;have p3:=I5 bx5 f38 10 4 ⟨0,0,true⟩ Gu;have p4:=J5 bx5 f38 10 1 RN;have p5:=xJ bx5 f38 10 4 Gu (stL [0,1,3] 3) (by decide);have p6:=xJ bx5 f38 10 4 Gu (stL [0,3] 2) (by decide);have hb:bK bx5 10 4=b38 4:=rfl;have Vs:bK bx5 10 1=b38 1:=rfl;rw[hb,Yc,QX]at p1;rw[hb,g38,PI]at p2;rw[hb,n38]at p3;rw[Vs]at p4;rw[hb,mB x38]at p5;rw[hb,gL y38]at p6;have m:=m38;generalize (eF (b38 1) ⟨0,0,true⟩).1=C at*;generalize CT (b38 1)=G at*;clear hb Vs;have hbx:=HR;generalize bx5=B at*;have q0:((0:Int)≠0)=False:=H' λh=>h rfl;have q10:(C.R4=10)=True:=RX m;refine mS 19 ?_;simp only[go_sem,seval,c7];refine pS rfl (hbx _) ?_;simp only[go_sem,seval];refine pS rfl (p1 _) ?_;simp only[go_sem,seval,aT,aS];refine aE hs λi2 Z2 s2 a2 f2 z2 hs=>?_;simp only[go_sem,seval,a2,aT,aS];generalize hq2:C' _ i2 _=Y2;replace a2:=Ti hq2;replace hs:=Te hq2 hs z2;refine pS rfl (hbx _) ?_;simp only[go_sem,seval];refine pS rfl (p2 _) ?_;simp only[go_sem,seval,aT,aS];refine aE hs λi5 Z5 s5 a5 f5 z5 hs=>?_;obtain⟨n25,a2⟩:=RZ a2 f5 s5;simp only[go_sem,seval,a5,aT,aS];generalize Uj:C' _ i5 _=Y5;replace a5:=Ti Uj;replace a2:=So Uj n25 a2;replace hs:=Te Uj hs z5;refine pS rfl (hbx _) ?_;simp only[go_sem,seval];refine pS rfl (p3 _) ?_;simp only[go_sem,seval];refine pS rfl (hbx _) ?_;simp only[go_sem,seval];refine pS rfl (p4 _) ?_;simp only[go_sem,seval,aT,aS];refine aE hs λi10 XV TN Sb f10 UH hs=>?_;obtain⟨n210,a2⟩:=RZ a2 f10 TN;obtain⟨n510,a5⟩:=RZ a5 f10 TN;simp only[go_sem,seval,Sb,aT,aS];generalize Ss:C' _ i10 _=Y10;replace Sb:=Ti Ss;replace a2:=So Ss n210 a2;replace a5:=So Ss n510 a5;replace hs:=Te Ss hs UH;refine pS rfl (hbx _) ?_;simp only[go_sem,seval];refine aE hs λi45 Z45 s45 a45 f45 z45 hs=>?_;obtain⟨n245,a2⟩:=RZ a2 f45 s45;obtain⟨n545,a5⟩:=RZ a5 f45 s45;obtain⟨n1045,Sb⟩:=RZ Sb f45 s45;simp only[go_sem,seval];refine pS rfl (uf [0,1,3] (by decide) (Cn (l:=[0,1,3]) a45 (aa.refl _))) ?_;simp only[go_sem,seval];refine pS rfl (p5 _) ?_;simp only[go_sem,seval,aT,aS];refine aE hs λi12 Y12 XX a12 f12 z12 hs=>?_;obtain⟨n212,a2⟩:=RZ a2 f12 XX;obtain⟨n512,a5⟩:=RZ a5 f12 XX;obtain⟨V1,Sb⟩:=RZ Sb f12 XX;simp only[go_sem,seval,a12,aT,aS];generalize TL:C' _ i12 _=Z12;replace a12:=Ti TL;replace a2:=So TL n212 a2;replace a5:=So TL n512 a5;replace Sb:=So TL V1 Sb;replace hs:=Te TL hs z12;refine pS rfl (hbx _) ?_;simp only[go_sem,seval];refine aE hs λi53 Z53 s53 a53 f53 z53 hs=>?_;obtain⟨n253,a2⟩:=RZ a2 f53 s53;obtain⟨n553,a5⟩:=RZ a5 f53 s53;obtain⟨n1053,Sb⟩:=RZ Sb f53 s53;obtain⟨n1253,a12⟩:=RZ a12 f53 s53;simp only[go_sem,seval];refine pS rfl (uf [0,3] (by decide) (Cn (l:=[0,3]) a53 (aa.refl _))) ?_;simp only[go_sem,seval];refine pS rfl (p6 _) ?_;simp only[go_sem,seval,aT,aS];refine aE hs λi15 Z15 XD Vg f15 z15 hs=>?_;obtain⟨n215,a2⟩:=RZ a2 f15 XD;obtain⟨n515,a5⟩:=RZ a5 f15 XD;obtain⟨n1015,Sb⟩:=RZ Sb f15 XD;obtain⟨n1215,a12⟩:=RZ a12 f15 XD;simp only[go_sem,seval,Vg,aT,aS];generalize TW:C' _ i15 _=Y15;replace Vg:=Ti TW;replace a2:=So TW n215 a2;replace a5:=So TW n515 a5;replace Sb:=So TW n1015 Sb;replace a12:=So TW n1215 a12;replace hs:=Te TW hs z15;refine aE hs λi18 Z18 s18 WV f18 z18 hs=>?_;obtain⟨n218,a2⟩:=RZ a2 f18 s18;obtain⟨n518,a5⟩:=RZ a5 f18 s18;obtain⟨n1018,Sb⟩:=RZ Sb f18 s18;obtain⟨n1218,a12⟩:=RZ a12 f18 s18;obtain⟨n1518,Vg⟩:=RZ Vg f18 s18;simp only[go_sem,seval,WV];generalize VI:C' _ i18 _=Y18;replace WV:=Ti VI;replace a2:=So VI n218 a2;replace a5:=So VI n518 a5;replace Sb:=So VI n1018 Sb;replace a12:=So VI n1218 a12;replace Vg:=So VI n1518 Vg;replace hs:=Te VI hs z18;have ZG:eM false (bU [⟨1,0,false⟩,⟨2,0,false⟩])=some (.int .i64 2):=rfl;have hi0:∀U,bI U 3 (bU [⟨1,0,false⟩,⟨2,0,false⟩]) (.int .i64 0)=some (.rp (aN ⟨1,0,false⟩)):=λ_=>rfl;have hi1:∀U,bI U 3 (bU [⟨1,0,false⟩,⟨2,0,false⟩]) (.int .i64 1)=some (.rp (aN ⟨2,0,false⟩)):=λ_=>rfl;simp only[go_sem,seval,q0,ZG];refine aE hs λi88 Z88 s88 a88 f88 z88 hs=>?_;obtain⟨n288,a2⟩:=RZ a2 f88 s88;obtain⟨n588,a5⟩:=RZ a5 f88 s88;obtain⟨n1088,Sb⟩:=RZ Sb f88 s88;obtain⟨n1288,a12⟩:=RZ a12 f88 s88;obtain⟨n1588,Vg⟩:=RZ Vg f88 s88;obtain⟨n1888,WV⟩:=RZ WV f88 s88;simp only[go_sem,seval];refine pS rfl (uf [0,2,4] (by decide) (Cn (l:=[0,2,4]) a88 (aa.refl _))) ?_;simp only[go_sem,seval];refine pR rfl (tV [⟨0,0,true⟩,⟨2,0,false⟩,⟨4,0,false⟩] (stL [0,2,4] 3) (by decide) _) ?_;rw[Tv (show([⟨0,0,true⟩,⟨2,0,false⟩,⟨4,0,false⟩]:List R3)=stL [0,2,4] 3 from by decide)];apply sR;simp only[go_sem,seval];refine pR rfl (tV [⟨0,0,true⟩,⟨2,0,false⟩,⟨4,0,false⟩] [⟨0,0,true⟩,⟨2,0,false⟩,⟨4,0,false⟩] (by decide) _) ?_;rw[Tv rfl];apply sR;simp only[go_sem,seval,a2,a5,Sb,a12,Vg,WV,hi0,hi1,q10,Bool.not_false,aT,aS,aq,ao];exact aD.pure hs rfl
open Go.Proofs
def rf(b:Bk)(k:Nat):Int:=((List.range k).map λi:Nat=>1+(Vm b.atoms i).h.tdiv (max (dK b ⟨i,0,false⟩).body 1)).sum
def wK(b:Bk)(k:Nat):rf b (k+1)=rf b k+(1+(Vm b.atoms k).h.tdiv (max (dK b ⟨k,0,false⟩).body 1)):=by
 unfold rf;rw[List.range_succ,fw,List.sum_append];simp
def AG{b:Bk}(hp:∀a∈b.atoms,1<=a.h):∀k,k<=b.atoms.length->0<=rf b k/\rf b k+jZ b k<=k+jZ b 0
 |0,_=>by simp[rf]
 |k+1,h=>by
  obtain⟨h1,h2⟩:=AG hp k (by omega);rw[wK];have h3:=mG (b:=b) (a:=k) (by omega);have h4:=bx (l:=b.atoms) (k:=k) (by omega);have h5:=hp _ (SU (l:=b.atoms) (n:=k) (by omega));rw[h4];have d0:=Int.tdiv_nonneg (a:=b.atoms[k].h) (b:=max (dK b ⟨k,0,false⟩).body 1) (by omega) (by omega);have d1:=Int.tdiv_le_self (a:=b.atoms[k].h) (max (dK b ⟨k,0,false⟩).body 1) (by omega);omega
def IB{l:List Nd}{w h:Int}(he:fm l w h=0):jZ (bK l w h) 0<=1099511627776:=by
 obtain⟨hsw,hsh,hc⟩:=l9 he;obtain⟨Uz,hn,-,-⟩:=mo hc;have h1:jZ (bK l w h) 0=XN (cS l w).atoms:=rfl;have h2:=Gk Uz hn hsw.1 hsw.2;have h3:(gy l).1.M'<=1099511627776:=by
  unfold eC at hc;rw[aI Uz]at hc;split at hc
  .cases hc
  .omega
 have h4:=vY Uz h3;omega
def zd(l:List Nd)(w h:Int)(v:V)(E:Int):Prop:=l.length<=30/\E=UX l w h/\v=jN l w h/\(E=0->(bK l w h).atoms.length<=40/\rf (bK l w h) (bK l w h).atoms.length<=120)
def KO(l:List Nd)(hlen:l.length<=1000000000000)(hw:∀x∈l,x.words.length<=200000000000000)(w h:Int)(U:al):
 aG prog 6 [aQ l,vI w,vI h] U λr Z'=>(∃(v:V) (E:Int) (ok:Bool),r=.Sa [v,vI E,.bool ok]/\(v=l4\/∃b,v=cX b)/\(ok=true->zd l w h v E))/\Z'=U:=by
 refine e6.q ?_;have Ux:=bT l;have hs:=aa.refl U;have fin:∀(v:V) (E:Int) (ok:Bool) (J:al),aa U J->(v=l4\/∃b,v=cX b)->(ok=true->zd l w h v E)->aD (.Sa [v,vI E,.bool ok]) J λr Z'=>(∃(v:V) (E:Int) (ok:Bool),r=.Sa [v,vI E,.bool ok]/\(v=l4\/∃b,v=cX b)/\(ok=true->zd l w h v E))/\Z'=U:=
  λv E ok J h1 h2 h3=>⟨_,U,h1,Wk.refl h1 _,⟨v,E,ok,rfl,h2,h3⟩,rfl⟩
 refine mS 16 ?_;simp only[go_sem,seval,c6];refine aE hs λi6 Z6 s6 a6 f6 z6 hs=>?_;simp only[go_sem,seval];refine ay.loop (λm st=>∃(i:Nat) (c:Int),i<=l.length/\m=l.length-i/\st.U=Z6/\st.s 0=aQ l/\st.s 1=vI w/\st.s 2=vI h/\st.s 6=.ptr i6 0 0/\st.s 9=vI c/\(l.length<=30->c=(oc (l.take i):Nat))/\st.s 10=vI i) l.length ⟨0,0,by omega,by omega,rfl,rfl,rfl,rfl,rfl,rfl,λ_=>by simp[oc],rfl⟩ ?_;rintro m ⟨s,Z'⟩ ⟨i,c,hi,rfl,Su,t0,t1,t2,t6,t9,hc,t10⟩;simp only at Su t0 t1 t2 t6 t9 t10;subst Su;refine ay.mix 16 ?_;by_cases u':i<l.length
 .have q1:=qT u';have hwi:=hw _ (SU u');have hws:=zC u';have Th:=λU=>bN (U:=U) (l:=l) (a:=i) u';have hlw:=cK l[i].words;have r1:=rI i
  (refine ay.bB Tx.nothing 20 ?_;simp only[go_sem,seval,px,t0,t9,t10,Ux,q1,Th,Nd.cells,hlw,wu])
  refine ay.Ps rfl rfl rfl rfl ?_;by_cases h60:l.length<=30
  .have hc':=hc h60;have hwr:IntKind.i64.wrap (c+(l[i].words.length:Int))=c+l[i].words.length:=by
    have fI:=wO (l:=l.take i) (λx hx=>hw x (ym hx));rw[mf]at fI;rw[IntKind.wrap_i64];omega
   rw[hwr];apply sR;simp only[go_sem,seval,t0,t1,t2,t6,t10,r1];exact⟨_,by omega,i+1,_,by omega,rfl,rfl,λ_=>by rw[hws,hc'];omega,rfl⟩
  .apply sR;simp only[go_sem,seval,t0,t1,t2,t6,t10,r1];exact⟨_,by omega,i+1,_,by omega,rfl,rfl,λg=>absurd g h60,rfl⟩
 .have q1:=qF u';by_cases g1:(l.length:Int)>30
  .have p1:((l.length:Int)>30)=True:=RX g1;apply sR;simp only[go_sem,seval,t0,t6,t9,t10,a6,Ux,q1,p1,ff];exact fin _ _ _ _ (hs.aL z6) (.inl rfl) (λh=>by cases h)
  .have p1:((l.length:Int)>30)=False:=H' g1;have hl:dN l:=⟨by omega,hw⟩
   by_cases g2:c>150
   .have p2:(c>150)=True:=RX g2;apply sR;simp only[go_sem,seval,t0,t6,t9,t10,a6,Ux,q1,p1,p2,ff];exact fin _ _ _ _ (hs.aL z6) (.inl rfl) (λh=>by cases h)
   .have p2:(c>150)=False:=H' g2;have hnc:=I3 l hl w h;apply sR;simp only[go_sem,seval,t0,t1,t2,t9,t10,Ux,q1,p1,p2];refine pR rfl (hnc _) ?_;by_cases e0:UX l w h=0
    .obtain⟨he,-⟩:=kN e0;have hb:=ij hl he;have hq:=FV hl he;have hsr:=AG hb.pos;have hr0:=IB he;have hrn:=mI hb.pos;have hM:jN l w h=cX (bK l w h):=aI e0;have hF:(bK l w h).atoms.length<=40->rf (bK l w h) (bK l w h).atoms.length<=120->zd l w h (cX (bK l w h)) 0:=λg1 g2=>⟨by omega,e0.symm,hM.symm,λ_=>⟨g1,g2⟩⟩
     rw[hM,e0];generalize bK l w h=b at*;have TZ:=iV b.atoms;have Tu:=hb.len;have q0:((0:Int)≠0)=False:=H' λh=>h rfl;rw[j1];apply sR;simp only[go_sem,seval,ab,ai,af,ae,av,au,ax,az,aq,ao];refine aE hs λi11 Yq Vq Ts f11 YK hs=>?_;obtain⟨Ud,a6⟩:=RZ a6 f11 Vq;simp only[go_sem,seval,Ts,q0,ab,ai,af,ae,av,au,ax,az,aq,ao];generalize TD:C' _ i11 _=Y11;replace Ts:=Ti TD;replace a6:=So TD Ud a6;replace hs:=Te TD hs YK;refine ay.loop (λm st=>∃j:Nat,j<=b.atoms.length/\m=b.atoms.length-j/\st.U=Y11/\st.s 6=.ptr i6 0 0/\st.s 11=.ptr i11 0 0/\st.s 12=vI 0/\st.s 13=vI (rf b j)/\st.s 14=vI j) b.atoms.length ⟨0,by omega,rfl,rfl,t6,rfl,rfl,rfl,rfl⟩ ?_;rintro m ⟨S,J⟩ ⟨j,hj,rfl,Su,k6,T',Tc,V8,VN⟩;simp only at Su k6 T' Tc V8 VN;subst Su;refine ay.mix 16 ?_;by_cases U3:j<b.atoms.length
     .have u1:=qT U3;have hrv:=C4 b hq ⟨j,0,false⟩ (by simp);have SW:=λU=>fK (U:=U) U3;have YR:=hsr j (by omega);have hsj1:=hsr (j+1) (by omega);have hrj:=hrn (j+1);have hp:=hb.pos _ (SU U3);have hsu:=wK b j;rw[bx U3]at hsu;have hE3:aN ⟨(j:Int),0,false⟩=.agg [vI j,vI 0,.bool false]:=rfl;rw[j1,hE3]at hrv;generalize dK b ⟨(j:Int),0,false⟩=rv at*;generalize b.atoms[j]=x at*;have hM1:(if 1>rv.body then 1 else rv.body)=max rv.body 1:=by split<;>omega
      have hM0:(max rv.body 1=0)=False:=H';have d0:=Int.tdiv_nonneg (a:=x.h) (b:=max rv.body 1) (by omega) (by omega);have r0:=rI j;have r2:Sn .i64 (x.h.tdiv (max rv.body 1)):=ar;have r3:Sn .i64 (1+x.h.tdiv (max rv.body 1)):=ar;have r4:Sn .i64 (rf b j+(1+x.h.tdiv (max rv.body 1))):=ar;apply sR;simp only[go_sem,seval,T',VN,Ts,TZ,u1,ab,ai,af,ae,av,au,ax,az,aq,ao];refine pS rfl (hrv _) ?_;simp only[go_sem,seval,k6,T',Tc,V8,VN,Ts,kE,SW,bC,hM1,hM0,r0,r2,r3,r4,ab,ai,af,ae,av,au,ax,az,aq,ao];exact⟨_,by omega,j+1,by omega,rfl,by simp[hsu,vI]⟩
     .have u1:=qF U3;obtain rfl:j=b.atoms.length:=by omega
      by_cases g4:(b.atoms.length:Int)<=40
      .have u2:((b.atoms.length:Int)<=40)=True:=RX g4;by_cases g5:rf b b.atoms.length<=120
       .have u3:(rf b b.atoms.length<=120)=True:=RX g5;apply sR;simp only[go_sem,seval,k6,T',Tc,V8,VN,Ts,a6,TZ,u1,u2,u3,ad Ud,ad Ud,ad Ud.symm,ad Ud.symm,ff,ab,ai,af,ae,av,au,ax,az,aq,ao];exact fin _ _ _ _ (hs.aL z6) (.inr ⟨b,rfl⟩) (λ_=>hF (by omega) g5)
       .have u3:(rf b b.atoms.length<=120)=False:=H' g5;apply sR;simp only[go_sem,seval,k6,T',Tc,V8,VN,Ts,a6,TZ,u1,u2,u3,ad Ud,ad Ud,ad Ud.symm,ad Ud.symm,ff,ab,ai,af,ae,av,au,ax,az,aq,ao];exact fin _ _ _ _ (hs.aL z6) (.inr ⟨b,rfl⟩) (λh=>by cases h)
      .have u2:((b.atoms.length:Int)<=40)=False:=H' g4;apply sR;simp only[go_sem,seval,k6,T',Tc,V8,VN,Ts,a6,TZ,u1,u2,ad Ud,ad Ud,ad Ud.symm,ad Ud.symm,ff,ab,ai,af,ae,av,au,ax,az,aq,ao];exact fin _ _ _ _ (hs.aL z6) (.inr ⟨b,rfl⟩) (λh=>by cases h)
    .have hM:jN l w h=l4:=aK e0;have q0:(UX l w h≠0)=True:=RX e0;have hF:zd l w h l4 (UX l w h):=⟨by omega,rfl,hM.symm,λh=>absurd h e0⟩
     rw[hM];generalize UX l w h=E at*;apply sR;simp only[go_sem,seval,l4];refine aE hs λi11 Yq Vq Ts f11 YK hs=>?_;obtain⟨Ud,a6⟩:=RZ a6 f11 Vq;simp only[go_sem,seval,Ts,a6,t6,q0,ad Ud,ad Ud,ff];exact fin _ _ _ _ ((hs.aL YK).aL z6) (.inl rfl) (λ_=>hF)
open Go.Proofs
def vT(b:Bk)(P:List R3):V:=match ji b P with
 |some c=>.Sa [dd c,.bool true]
 |none=>.Sa [dd ⟨0,0⟩,.bool false]
def pz{b:Bk}{l:List R3}{c:Ue}(h:ji b l=some c):vT b l=.Sa [dd c,.bool true]:=by unfold vT;rw[h]
def iN{b:Bk}{l:List R3}(h:ji b l=none):vT b l=.Sa [.agg [vI 0,vI 0],.bool false]:=by unfold vT;rw[h];rfl
def Hs(b:Bk)(hb:dh b)(hq:BkQ b)(P:List R3)(hP:P.length<=1000000):aX prog 15 [cX b,bU P] (vT b P):=λU=>by
 refine e15.q ?_;have hs:=aa.refl U;have TZ:=iV b.atoms;have Vy:=hb.brk;have Tu:=hb.len;refine mS 9 ?_;simp only[go_sem,seval,c15,j1,ab,ai,af,ae,av,au,ax,az,aq,ao,aT,aS];refine aE hs λi2 Z2 s2 a2 f2 z2 hs=>?_;simp only[go_sem,seval,ab,ai,af,ae,av,au,ax,az,aq,ao,aT,aS];refine aE hs λi4 Z4 s4 a4 f4 z4 hs=>?_;obtain⟨VZ,a2⟩:=RZ a2 f4 s4;have YU:=jl P;by_cases hz:b.atoms.length=0\/P=[]
 .have e:vT b P=.Sa [.agg [vI 0,vI 0],.bool (decide ((b.atoms.length:Int)=P.length))]:=by
   cases P with
   |nil=>
    by_cases h0:b.atoms.length=0
    .rw[pz (c:=⟨0,0⟩) (by rw[zw,aI h0]),Tv (by rw[h0];rfl)];rfl
    .rw[iN (by rw[zw,aK h0]),TE (by have:(([]:List R3).length:Int)=0:=rfl;omega)]
   |cons s r=>
    have h0:b.atoms.length=0:=hz.resolve_right (by simp);rw[iN (by rw[xl,aI (.inl h0)]),TE (by simp;omega)]
  rw[e];have hq3:(((b.atoms.length:Int)=0)=True)\/(((b.atoms.length:Int)=0)=False/\((P.length:Int)=0)=True):=by
   by_cases h0:b.atoms.length=0
   .exact .inl (RX)
   .exact .inr ⟨H',RX (by rw[hz.resolve_left h0];rfl)⟩
  rcases hq3 with q1|⟨q1,q2⟩
  case' inl=>
   have q2:True:=trivial
  all_goals
   simp only[go_sem,seval,a2,a4,q1,q2,TZ,YU,gn,ab,ai,af,ae,av,au,ax,az,aq,ao,aT,aS];refine ay.tW (by kernel_rfl) 8 (.leaf [[],[],[1],[2,1],[3,2,1],[],[5],[4,6,3,2,1,5],[0],[7,8,0,1,2,3,4,5,6]] [0,1,2,3,4,5,6,7,8,9]) (by kernel_rfl) ?_;refine GT.gN (its:=[0,2,4,6,8,10,12,14,16,7,18]) (by kernel_rfl) ?_;refine cY (n:=0) [7,18] [0,2,4,6,8,10,12,14,16] [_,_,_,_,_,_,_,_,_] rfl rfl ?_;simp only[go_sem,seval,a2,a4,TZ,YU,ad VZ,ad VZ,ad VZ.symm,ad VZ.symm,ab,ai,af,ae,av,au,ax,az,aq,ao,aT,aS];refine eh rfl (by simp only[go_sem,seval,a2,a4,TZ,YU,ad VZ,ad VZ,ad VZ.symm,ad VZ.symm,ab,ai,af,ae,av,au,ax,az,aq,ao,aT,aS]) ?_;refine cY (n:=0) [] [18] [_] rfl rfl ?_;simp only[go_sem,seval,a2,a4,TZ,YU,ad VZ,ad VZ,ad VZ.symm,ad VZ.symm,ab,ai,af,ae,av,au,ax,az,aq,ao,aT,aS];apply sR;simp only[go_sem,seval,a4,ab,ai,af,ae,av,au,ax,az,aq,ao,aT,aS];exact aD.pure (hs.aL z4) rfl
 .have hz0:b.atoms.length≠0:=λh=>hz (.inl h);have hPl:0<P.length:=Bi.2 λh=>hz (.inr h);have q1:((b.atoms.length:Int)=0)=False:=H';have q2:((P.length:Int)=0)=False:=H';have hP0:P=P[0]::P.drop 1:=by
   have:=jt hPl
   rwa [Gg]at this
  have SV:=xl (b:=b) (s:=P[0]) (r:=P.drop 1);rw[<-hP0]at SV;have hix0:=λU=>iL (U:=U) hPl;rw[Int.natCast_zero]at hix0;have Xt:=yV P[0] ⟨0,0,true⟩;have Wu:=mT P[0];simp only[go_sem,seval,a2,a4,q1,q2,TZ,YU,hix0,Wu,ab,ai,af,ae,av,au,ax,az,aq,ao,aT,aS];refine pJ rfl DT ?_;by_cases g0:P[0]=⟨0,0,true⟩
  .rw[TE (λh=>h g0)]at Xt;rw[aK (λh=>h.elim hz0 λh=>h g0)]at SV;have Yw:dc b.atoms P[0]:=by
    rw[g0];have h1:=jK b hb;exact h1.resolve_right λh=>hz0 (by have:=h.1;simp only at this;omega)
   apply sG;simp only[BB,seval,<-decide_not,bp,fW,aV,dP,dR,dI,dQ,eo,bH,jE,gm,bu,fO,dM,fL,cP,cC,bQ,iB,cm,cB,cd,Ty,jD,cW,bJ,dp,bS,cN,cD,jH,binBV,bG,dj,Tx.nothing,a4,Xt,YU,ab,ai,af,ae,av,au,ax,az,aq,ao,aT,aS,V.dV,V.dW,V.df,V.dT,V.fa,V.ef,V.di,V.eW,V.dZ,V.eZ,V.ed,V.dX,V.dk,V.ee,V.fi,V.ec,V.dg,V.fc,V.dU,V.fg];refine aE hs λi6 Z6 s6 a6 f6 z6 hs=>?_;obtain⟨n26,a2⟩:=RZ a2 f6 s6;obtain⟨ZL,a4⟩:=RZ a4 f6 s6;simp only[go_sem,seval,a6,a2,a4,ab,ai,af,ae,av,au,ax,az,aq,ao,aT,aS];generalize Wq:C' _ i6 _=Y6;replace a6:=Ti Wq;replace a2:=So Wq n26 a2;replace a4:=So Wq ZL a4;replace hs:=Te Wq hs z6;refine ay.loop (λm st=>∃(j:Nat) (R:Int),j<=P.length/\m=P.length-j/\(∀hj:j<P.length,ji b P=gA b P[j] ⟨j+1,R⟩ (P.drop (j+1))/\dc b.atoms P[j])/\(j=P.length->ji b P=some ⟨P.length,R⟩)/\0<=R/\R<=7*j/\aa U st.U/\
    st.U i2=some ⟨31,7,[.agg [aQ b.nodes,vI b.w,vI b.h,bL b.atoms,bj b.V9,vI b.R1,dv b.SJ]]⟩/\st.U i4=some ⟨44,2,[.agg [vI 0,vI 0]]⟩/\st.U i6=some ⟨44,2,[.agg [vI P.length,vI R]]⟩/\st.s 1=bU P/\st.s 2=.ptr i2 0 0/\st.s 4=.ptr i4 0 0/\st.s 6=.ptr i6 0 0/\st.s 7=vI j) P.length
    ⟨0,0,by omega,rfl,λ_=>⟨SV,Yw⟩,λh=>by omega,by omega,by omega,hs,a2,a4,a6,rfl,rfl,rfl,rfl,rfl⟩ ?_
   clear hs a2 a4 a6 SV Yw Xt Wu hix0 g0 hP0;rintro m ⟨S,J⟩ ⟨j,R,hj,rfl,W6,Zh,hR0,hR1,hs,a2,a4,a6,t1,t2,t4,t6,t7⟩;simp only at hs a2 a4 a6 t1 t2 t4 t6 t7;refine ay.mix 9 ?_;by_cases u':j<P.length
   .obtain⟨YQ,hm⟩:=W6 u';clear W6 Zh;have u1:((j:Int)<P.length)=True:=RX;have SW:=λU=>iL (U:=U) u';have Wu:=mT P[j];have hnc:=Hi b hb hq P[j] hm;have T9:=l6 hb hm;rw[j1]at hnc;have r1:=rI j;have hfa:¬bZ b P[j]:=by have:=hm.1.2;unfold bZ;omega
    apply sR;simp only[go_sem,seval,t1,t2,t7,a2,YU,u1,SW,Wu,ab,ai,af,ae,av,au,ax,az,aq,ao,aT,aS];refine pJ rfl hnc ?_;have hlL:=jl (bo b P[j]).reverse;by_cases hj1:j+1<P.length
    .have u2:((j:Int)+1<P.length)=True:=RX;have hix1:=λU=>iL (U:=U) hj1;rw[show((j+1:Nat):Int)=(j:Int)+1 from by omega]at hix1;have hld1:=mT P[j+1];rw[jt hj1,DZ (by show(1:Int)<=(j:Int)+1;omega) hfa]at YQ;have Yj:=yY b P[j+1];rw[j1]at Yj;have hhc:=Is (bo b P[j]).reverse (by rw[List.length_reverse];omega) P[j+1];have hqi:=qJ P[j+1] (bo b P[j]).reverse 0;rw[E4]at hqi;apply sG;simp only[go_sem,seval,t1,t2,t7,a2,YU,r1,u2,hix1,hld1,ab,ai,af,ae,av,au,ax,az,aq,ao,aT,aS];refine pJ rfl Yj ?_;by_cases g1:P[j+1].atom=b.atoms.length
     .rw[Tv g1];rw[aI (.inl (show bZ b P[j+1] by unfold bZ;omega))]at YQ;rw[iN YQ];apply sG;simp only[go_sem,seval,t4,a4,ab,ai,af,ae,av,au,ax,az,aq,ao,aT,aS];exact aD.pure (hs.aL z4) rfl
     .rw[TE g1];apply sG;simp only[go_sem,seval,t1,t7,YU,r1,hix1,hld1,ab,ai,af,ae,av,au,ax,az,aq,ao,aT,aS];refine pJ rfl hhc ?_;by_cases g2:P[j+1]∈bo b P[j]
      .have Ve:j7 P[j+1] (bo b P[j]).reverse 0>=0:=by rw[hqi];exact g2
       have u3:(j7 P[j+1] (bo b P[j]).reverse 0<0)=False:=H';have hnl2:=CE hb hm g2;have W1:¬bZ b P[j+1]:=by unfold bZ;omega
       have hms:dc b.atoms P[j+1]:=hnl2.1.resolve_right (λh=>g1 h.1);rw[aK (by rintro(h|h);exact W1 h;exact h g2)]at YQ
       have ZK:=GN b P[j+1] ⟨hms.1.1,by have:=hms.1.2;omega⟩;rw[j1]at ZK;have hrr:=nF hb P[j+1];have r2:Sn .i64 (R+cH b P[j+1]):=ar;apply sG;simp only[go_sem,seval,t1,t2,t6,t7,a2,a6,YU,r1,u3,hix1,hld1,ab,ai,af,ae,av,au,ax,az,aq,ao,aT,aS];refine pJ rfl ZK ?_;apply sG;simp only[go_sem,seval,t1,t2,t4,t6,t7,a6,r1,r2,ab,ai,af,ae,av,au,ax,az,aq,ao,aT,aS];exact⟨_,by omega,j+1,R+cH b P[j+1],by omega,rfl,λ_=>⟨YQ,hms⟩,λh=>by omega,by omega,by omega,hs.aL z6,(ad n26).trans a2,(ad ZL).trans a4,by simp⟩
      .have hlt0:¬(j7 P[j+1] (bo b P[j]).reverse 0>=0):=λh=>g2 (by rw[hqi]at h;exact h);have u3:(j7 P[j+1] (bo b P[j]).reverse 0<0)=True:=RX;rw[aI (.inr g2)]at YQ;rw[iN YQ];apply sG;simp only[go_sem,seval,t4,a4,u3,ab,ai,af,ae,av,au,ax,az,aq,ao,aT,aS];exact aD.pure (hs.aL z4) rfl
    .have u2:((j:Int)+1<P.length)=False:=H';obtain⟨x,rr,Wf,hany⟩:=Ey hb hm;have hxm:=CE hb hm (t:=x) (by rw[Wf];simp);rw[List.drop_of_length_le (by omega),EP (by show(1:Int)<=(j:Int)+1;omega),hany]at YQ;rw[show(bo b P[j]).reverse=rr.reverse++[x] by rw[Wf,List.reverse_cons]];have XQ:rr.length+1<=1000000:=by rw[Wf]at T9;simpa using T9
     have hlx:eM false (bU (rr.reverse++[x]))=some (.int .i64 ((rr.length:Int)+1)):=by rw[jl];simp
     have hixx:∀U,bI U 3 (bU (rr.reverse++[x])) (.int .i64 rr.length)=some (.rp (aN x)):=λU=>by
      rw[iL (U:=U) (l:=rr.reverse++[x]) (i:=rr.length) (by simp),List.getElem_append_right (by simp)];simp
     have e5:(rr.length:Int)+1-1=rr.length:=by omega
     have r3:Sn .i64 (rr.length:Int):=ar;have hldx:=mT x;have hex:=yY b x;rw[j1]at hex;apply sG;simp only[go_sem,seval,t1,t2,t7,a2,YU,hlx,r1,u2,e5,r3,hixx,hldx,ab,ai,af,ae,av,au,ax,az,aq,ao,aT,aS];refine pJ rfl hex ?_;by_cases g3:x.atom=b.atoms.length
     .rw[Tv g3];rw[Tv (show bZ b x by unfold bZ;omega),aI rfl]at YQ;apply sG;simp only[go_sem,seval,t1,t2,t4,t6,t7,r1,Bool.not_true,ab,ai,af,ae,av,au,ax,az,aq,ao,aT,aS];exact⟨_,by omega,j+1,R,by omega,rfl,λh=>by omega,λh=>by rw[YQ];congr 2;omega,by omega,by omega,hs,a2,a4,a6,by simp⟩
     .rw[TE g3];rw[TE (show¬bZ b x by unfold bZ;omega)]at YQ;rw[iN YQ];apply sG;simp only[go_sem,seval,t4,a4,Bool.not_false,ab,ai,af,ae,av,au,ax,az,aq,ao,aT,aS];exact aD.pure (hs.aL z4) rfl
   .have u1:=qF u';rw[pz (Zh (by omega))];apply sR;simp only[go_sem,seval,t1,t4,t6,t7,a4,a6,YU,u1,ab,ai,af,ae,av,au,ax,az,aq,ao,aT,aS];exact aD.pure (hs.aL z4) rfl
  .rw[Tv g0]at Xt;rw[aI (.inr g0)]at SV;rw[iN SV];apply sG;simp only[BB,seval,<-decide_not,bp,fW,aV,dP,dR,dI,dQ,eo,bH,jE,gm,bu,fO,dM,fL,cP,cC,bQ,iB,cm,cB,cd,Ty,jD,cW,bJ,dp,bS,cN,cD,jH,binBV,bG,dj,Tx.nothing,a4,Xt,ab,ai,af,ae,av,au,ax,az,aq,ao,aT,aS,V.dV,V.dW,V.df,V.dT,V.fa,V.ef,V.di,V.eW,V.dZ,V.eZ,V.ed,V.dX,V.dk,V.ee,V.fi,V.ec,V.dg,V.fc,V.dU,V.fg];exact aD.pure (hs.aL z4) rfl
open Go.Proofs
def A3(aw:aX prog 7 [] (.bool true))(l:List Nd)(hlen:l.length<=1000000000000)(hw:∀x∈l,x.words.length<=200000000000000)(w h:Int)(P:List R3)(x y:Ue):
 aX prog 4 [aQ l,vI w,vI h,bU P,dd x,dd y] (.bool true):=λU=>by
 refine e4.q ?_;have hs:=aa.refl U;have YU:=jl P;have Uo:∀x:Bool,(x==x)=true:=by simp
 refine mS 22 ?_;simp only[go_sem,seval,c4,ab,ai,af,ae,av,au,ax,az,aq,ao,aT,aS];refine aE hs λi10 XV TN Sb f10 UH hs=>?_;simp only[go_sem,seval,ab,ai,af,ae,av,au,ax,az,aq,ao,aT,aS];refine aE hs λi11 Yq Vq Ts f11 YK hs=>?_;obtain⟨Ug,Sb⟩:=RZ Sb f11 Vq;simp only[go_sem,seval,ab,ai,af,ae,av,au,ax,az,aq,ao,aT,aS];refine TX rfl (KO l hlen hw w h _) ?_;rintro r Z' ⟨⟨v,E,ok,rfl,hv,hM⟩,rfl⟩;cases ok with
 |false=>
  rcases hv with rfl|⟨b',rfl⟩
  case' inl=>rw[l4]
  case' inr=>rw[j1]
  all_goals
   apply sR;simp only[go_sem,seval,ab,ai,af,ae,av,au,ax,az,aq,ao,aT,aS];refine aE hs λi13 Z13 YN TF f13 z13 hs=>?_;obtain⟨Zz,Sb⟩:=RZ Sb f13 YN;obtain⟨ZA,Ts⟩:=RZ Ts f13 YN;simp only[go_sem,seval,TF,Bool.not_false,ab,ai,af,ae,av,au,ax,az,aq,ao,aT,aS];refine pS rfl (aw _) ?_;simp only[go_sem,seval];exact aD.pure (hs.aL z13) rfl
 |true=>
  by_cases hp:P.length>200
  .have qp:((P.length:Int)>200)=True:=RX;rcases hv with rfl|⟨b',rfl⟩
   case' inl=>rw[l4]
   case' inr=>rw[j1]
   all_goals
    apply sR;simp only[go_sem,seval,ab,ai,af,ae,av,au,ax,az,aq,ao,aT,aS];refine aE hs λi13 Z13 YN TF f13 z13 hs=>?_;obtain⟨Zz,Sb⟩:=RZ Sb f13 YN;obtain⟨ZA,Ts⟩:=RZ Ts f13 YN;simp only[go_sem,seval,TF,Bool.not_true,YU,qp,ab,ai,af,ae,av,au,ax,az,aq,ao,aT,aS];refine pS rfl (aw _) ?_;simp only[go_sem,seval];exact aD.pure (hs.aL z13) rfl
  .have qp:((P.length:Int)>200)=False:=H';obtain⟨h30,rfl,rfl,-⟩:=hM rfl;clear hM hv;have hl:dN l:=⟨by omega,hw⟩
   have hsr:∀U,cy U 3 (bU P)=some (P.map aN):=λ_=>by simp[cy,bU]
   have hbp:P.length*25<=140737488355328:=by omega
   have Xp:=tV P P (by omega);rw[Tv rfl]at Xp;have hl1:=Fg x y;have ZG:=G4 x y;generalize decide (x.lt y)=X at*;by_cases e0:UX l w h=0
   .have YF:=xJ l hl w h e0 P (by omega);obtain⟨he,-⟩:=kN e0;have hb:=ij hl he;have hbq:=FV hl he;rw[show jN l w h=cX (bK l w h)from aI e0,e0];generalize bK l w h=b at*;have hqc:=Hs b hb hbq P (by omega);obtain⟨c,k,e1,e2⟩:∃c k,wL b P=.Sa [dd c,.bool k,vI 0]/\vT b P=.Sa [dd c,.bool k]:=by
     cases hc:ji b P with
     |none=>exact⟨⟨0,0⟩,false,gL hc,iN hc⟩
     |some c=>exact⟨c,true,mB hc,pz hc⟩
    rw[e1]at YF;rw[e2,j1]at hqc;have q1:((0:Int)≠0)=False:=H' λh=>h rfl;have SV:=J6 c c;rw[Tv ⟨rfl,rfl⟩]at SV;rw[j1];apply sR;simp only[go_sem,seval,ab,ai,af,ae,av,au,ax,az,aq,ao,aT,aS];refine aE hs λi13 Z13 YN TF f13 z13 hs=>?_;obtain⟨Zz,Sb⟩:=RZ Sb f13 YN;obtain⟨ZA,Ts⟩:=RZ Ts f13 YN;simp only[go_sem,seval,TF,Bool.not_true,YU,qp,ab,ai,af,ae,av,au,ax,az,aq,ao,aT,aS];generalize UU:C' _ i13 _=Y13;replace TF:=Ti UU;replace Sb:=So UU Zz Sb;replace Ts:=So UU ZA Ts;replace hs:=Te UU hs z13;refine aF λi38 Z38 Yc a38 f38=>?_;have hd:bX Z38 24 3 (.own i38 0 0)=some ([],some i38):=by
     simp only[bX,a38];rw[aI (by simp)];simp
    simp only[go_sem,seval,hd,hsr,hbp,bW,dO,kQ,lS];refine zu λi40 Z40 s40 a40 f40=>?_;simp only[go_sem,seval];refine ay.qf [0,1,2,3,10,11,13,14,15,42,43,44] [16,45] ((aa.uL Yc f38).trans s40) (aP.new (e:=24) (sz:=3) (rows:=P.map aN) (n:=P.length) (by simp) a40 (Yc.none f40)) (by
     intro d hd;simp only[ew,List.not_mem_nil,or_false]at hd;rcases hd with rfl|rfl<;>rfl) ?_
    refine pS rfl (YF _) ?_;simp only[go_sem,seval,ab,ai,af,ae,av,au,ax,az,aq,ao,aT,aS];refine aE hs λi17 Z17 X6 Zi f17 z17 hs=>?_;obtain⟨n1017,Sb⟩:=RZ Sb f17 X6;obtain⟨n1117,Ts⟩:=RZ Ts f17 X6;obtain⟨Xc,TF⟩:=RZ TF f17 X6;simp only[go_sem,seval,Zi,q1,ab,ai,af,ae,av,au,ax,az,aq,ao,aT,aS];generalize Xl:C' _ i17 _=Y17;replace Zi:=Ti Xl;replace Sb:=So Xl n1017 Sb;replace Ts:=So Xl n1117 Ts;replace TF:=So Xl Xc TF;replace hs:=Te Xl hs z17;refine pJ rfl Xp ?_;apply sG;simp only[go_sem,seval,Sb,Ts,Bool.not_true,lg,ab,ai,af,ae,av,au,ax,az,aq,ao,aT,aS];refine pJ rfl hl1 ?_;apply sG;simp only[go_sem,seval,Sb,Ts,lg,ab,ai,af,ae,av,au,ax,az,aq,ao,aT,aS];refine pJ rfl ZG ?_;apply sG;simp only[go_sem,seval,TF,Uo,Bool.not_true,q1,ab,ai,af,ae,av,au,ax,az,aq,ao,aT,aS];apply sR;simp only[go_sem,seval,TF,q1,ab,ai,af,ae,av,au,ax,az,aq,ao,aT,aS];refine pS rfl (hqc _) ?_;simp only[go_sem,seval,ab,ai,af,ae,av,au,ax,az,aq,ao,aT,aS];refine aE hs λi20 Z20 s20 a20 f20 z20 hs=>?_;obtain⟨n1720,Zi⟩:=RZ Zi f20 s20;simp only[BB,seval,<-decide_not,bp,fW,aV,dP,dR,dI,dQ,eo,bH,jE,gm,bu,fO,dM,fL,cP,cC,bQ,iB,cm,cB,cd,Ty,jD,cW,bJ,dp,bS,cN,cD,jH,binBV,bG,dj,a20,Zi,SV,Uo,lg,ad n1720,ad n1720,ab,ai,af,ae,av,au,ax,az,aq,ao,aT,aS,V.dV,V.dW,V.df,V.dT,V.fa,V.ef,V.di,V.eW,V.dZ,V.eZ,V.ed,V.dX,V.dk,V.ee,V.fi,V.ec,V.dg,V.fc,V.dU,V.fg];refine pS rfl (aw _) ?_;simp only[go_sem,seval];exact aD.pure (hs.aL z20) rfl
   .have YF:=HQ l hl w h (bU P) e0;have p1:(UX l w h≠0)=True:=RX e0;have p2:(UX l w h≠UX l w h)=False:=H' λh=>h rfl;rw[show jN l w h=l4 from aK e0,l4];generalize UX l w h=D at*;have SV:=J6 ⟨0,0⟩ ⟨0,0⟩;rw[Tv ⟨rfl,rfl⟩]at SV;have hz1:ll false [0,0] (dd ⟨0,0⟩) (.agg [.int .i64 0,.int .i64 0])=some (.bool true):=SV;have hz2:ll false [0,0] (.agg [.int .i64 0,.int .i64 0]) (.agg [.int .i64 0,.int .i64 0])=some (.bool true):=SV;apply sR;simp only[go_sem,seval,ab,ai,af,ae,av,au,ax,az,aq,ao,aT,aS];refine aE hs λi13 Z13 YN TF f13 z13 hs=>?_;obtain⟨Zz,Sb⟩:=RZ Sb f13 YN;obtain⟨ZA,Ts⟩:=RZ Ts f13 YN;simp only[go_sem,seval,TF,Bool.not_true,YU,qp,ab,ai,af,ae,av,au,ax,az,aq,ao,aT,aS];generalize UU:C' _ i13 _=Y13;replace TF:=Ti UU;replace Sb:=So UU Zz Sb;replace Ts:=So UU ZA Ts;replace hs:=Te UU hs z13;refine aF λi38 Z38 Yc a38 f38=>?_;have hd:bX Z38 24 3 (.own i38 0 0)=some ([],some i38):=by
     simp only[bX,a38];rw[aI (by simp)];simp
    simp only[go_sem,seval,hd,hsr,hbp,bW,dO,kQ,lS];refine zu λi40 Z40 s40 a40 f40=>?_;simp only[go_sem,seval];refine ay.qf [0,1,2,3,10,11,13,14,15,42,43,44] [16,45] ((aa.uL Yc f38).trans s40) (aP.new (e:=24) (sz:=3) (rows:=P.map aN) (n:=P.length) (by simp) a40 (Yc.none f40)) (by
     intro d hd;simp only[ew,List.not_mem_nil,or_false]at hd;rcases hd with rfl|rfl<;>rfl) ?_
    refine pS rfl (YF _) ?_;simp only[go_sem,seval,ab,ai,af,ae,av,au,ax,az,aq,ao,aT,aS];refine aE hs λi17 Z17 X6 Zi f17 z17 hs=>?_;obtain⟨n1017,Sb⟩:=RZ Sb f17 X6;obtain⟨n1117,Ts⟩:=RZ Ts f17 X6;obtain⟨Xc,TF⟩:=RZ TF f17 X6;simp only[go_sem,seval,Zi,p2,ab,ai,af,ae,av,au,ax,az,aq,ao,aT,aS];generalize Xl:C' _ i17 _=Y17;replace Zi:=Ti Xl;replace Sb:=So Xl n1017 Sb;replace Ts:=So Xl n1117 Ts;replace TF:=So Xl Xc TF;replace hs:=Te Xl hs z17;refine pJ rfl Xp ?_;apply sG;simp only[go_sem,seval,Sb,Ts,Bool.not_true,lg,ab,ai,af,ae,av,au,ax,az,aq,ao,aT,aS];refine pJ rfl hl1 ?_;apply sG;simp only[go_sem,seval,Sb,Ts,lg,ab,ai,af,ae,av,au,ax,az,aq,ao,aT,aS];refine pJ rfl ZG ?_;apply sG;simp only[BB,seval,<-decide_not,bp,fW,aV,dP,dR,dI,dQ,eo,bH,jE,gm,bu,fO,dM,fL,cP,cC,bQ,iB,cm,cB,cd,Ty,jD,cW,bJ,dp,bS,cN,cD,jH,binBV,bG,dj,Tx.nothing,Zi,Uo,Bool.not_true,Bool.not_false,p1,SV,hz1,hz2,ab,ai,af,ae,av,au,ax,az,aq,ao,aT,aS,V.dV,V.dW,V.df,V.dT,V.fa,V.ef,V.di,V.eW,V.dZ,V.eZ,V.ed,V.dX,V.dk,V.ee,V.fi,V.ec,V.dg,V.fc,V.dU,V.fg];apply sR;simp only[go_sem,seval];refine pS rfl (aw _) ?_;simp only[go_sem,seval];exact aD.pure hs rfl
end Go.Vc
