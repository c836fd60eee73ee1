import Derived.Test.YtinojdikhfbfbaaGreatW10
set_option linter.all false
set_option maxHeartbeats 8000000
set_option maxRecDepth 100000
open Go.Proofs.Tryz
namespace Go.Vc
open Go.Proofs
def F3(b:List UH)(hb:b.length<=1000000)(i:Nat)(hi:i<=1000000)(fit:Int)(hf:fit<=(b.length:Int)-1):aV prog 32 [dh b,vI ((i:Int)+1),vI fit] (vI (fe b ((i:Int)+1) fit)):=λU=>by
 refine e32.q ?_;have hs:=aa.refl U;have hn:=GJ b;have hNe:=HH (b:=b) (i:=i) (to:=fit);refine mS 8 ?_;simp only[go_sem,seval,c32];refine aq.loop (λm st=>∃j:Nat,j<=b.length/\m=b.length-j/\(∀k:Nat,i<k->k<j->(k:Int)<=fit->(Um b k).forced=0)/\st.U=U/\st.s 0=dh b/\st.s 1=vI ((i:Int)+1)/\st.s 2=vI fit/\st.s 7=vI j) b.length ?_ ?_
 .exact⟨0,by omega,rfl,λk h1 h2=>by omega,rfl,rfl,rfl,rfl,rfl⟩
 .rintro m ⟨S,J⟩ ⟨j,hj,rfl,hz,R8,t0,t1,t2,t7⟩;simp only at R8 t0 t1 t2 t7;subst R8;refine aq.mix 8 ?_;by_cases u':j<b.length
  .have q1:=qT u';have SA:=λU=>BQ (U:=U) u';have eg:Um b j=b[j]:=by simp[Um,u']
   rw[<-eg]at SA;have r1:=rI j;by_cases gr:(i:Int)+1<=j/\(j:Int)<=fit/\(Um b j).forced≠0
   .obtain⟨g1,g2,g3⟩:=gr;have q2:((j:Int)>=(i:Int)+1)=True:=RA g1;have q3:((j:Int)<=fit)=True:=RA g2;have q4:((Um b j).forced≠0)=True:=RA g3;have UK:=D2 (b:=b) (i:=i) (j:=j-i-1) (to:=fit) (by rw[hNe];omega) (λk h1 h2=>hz k h1 (by omega) (by omega)) (by rw[show i+1+(j-i-1)=j by omega];exact g3);rw[show i+1+(j-i-1)=j by omega]at UK;rw[UK];generalize Um b j=x at*;apply sR;simp only[go_sem,seval,t0,t1,t2,t7,q1,q2,q3,q4,hn,SA,da];exact az.pure hs rfl
   .have hz2:∀k:Nat,i<k->k<j+1->(k:Int)<=fit->(Um b k).forced=0:=λk h1 h2 h3=>by
     by_cases e:k=j
     .subst e;exact Decidable.byContradiction λh=>gr ⟨by omega,h3,h⟩
     .exact hz k h1 (by omega) h3
    have hq:(((j:Int)>=(i:Int)+1)=False)\/(((j:Int)>=(i:Int)+1)=True/\((j:Int)<=fit)=False)\/(((j:Int)>=(i:Int)+1)=True/\((j:Int)<=fit)=True/\((Um b j).forced≠0)=False):=by
     by_cases g1:(j:Int)>=(i:Int)+1
     .by_cases g2:(j:Int)<=fit
      .exact .inr (.inr ⟨RA g1,RA g2,H' λh=>gr ⟨g1,g2,h⟩⟩)
      .exact .inr (.inl ⟨RA g1,H' g2⟩)
     .exact .inl (H' g1)
    generalize Um b j=x at SA hq;rcases hq with q2|⟨q2,q3⟩|⟨q2,q3,q4⟩
    case' inl=>
     have q3:True:=trivial;have q4:True:=trivial
    case' inr.inl=>
     have q4:True:=trivial
    all_goals
     apply sR;simp only[go_sem,seval,t0,t1,t2,t7,q1,q2,q3,q4,hn,SA,da,r1];exact⟨_,by omega,j+1,by omega,rfl,hz2,by simp[vI]⟩
  .have q1:=qF u';have hnone:=Au (b:=b) (i:=i) (to:=fit) (λk h1 h2=>by
    rw[hNe]at h2;exact hz k h1 (by omega) (by omega))
   rw[hnone];apply sR;simp only[go_sem,seval,t0,t1,t2,t7,q1,hn];exact az.pure hs rfl
def mJ:V:=.agg [.bj,vI 0,vI 0,.bj,.bj,vI 0,.bj]
def jC(l:List Nd)(w h:Int):V:=if Ux l w h=0 then di (bH l w h)else mJ
def Ih(l:List Nd)(hl:dq l)(w h:Int):aV prog 20 [aQ l,vI w,vI h] (.RM [jC l w h,vI (Ux l w h)]):=λU=>by
 refine e20.q ?_;have hs:=aa.refl U;have hqn:=Ky l hl w h;have h1:eF l w h=0->((bH l w h).V1.length:Int)>0->Ux l w h=4/\jC l w h=mJ:=λhe hf=>by
  have e:Ux l w h=4:=by unfold Ux;rw[aM (λk=>k he),aK hf]
  exact⟨e,by unfold jC;rw[aM (by rw[e];decide)]⟩
 have h2:eF l w h=0->¬((bH l w h).V1.length:Int)>0->Ux l w h=0/\jC l w h=di (bH l w h):=λhe hf=>by
  have e:Ux l w h=0:=by unfold Ux;rw[aM (λk=>k he),aM hf]
  exact⟨e,by unfold jC;rw[aK e]⟩
 have h3:eF l w h≠0->Ux l w h=eF l w h/\jC l w h=mJ:=λhe=>by
  have e:Ux l w h=eF l w h:=by unfold Ux;rw[aK he]
  exact⟨e,by unfold jC;rw[aM (by rw[e];exact he)]⟩
 generalize Ux l w h=D at*;generalize jC l w h=V at*;refine mS 10 ?_;simp only[go_sem,seval,c20];refine aG hs λi6 Z6 s6 a6 f6 z6 hs=>?_;simp only[go_sem,seval];refine pR rfl (hqn _) ?_;by_cases he:eF l w h=0
 .replace h1:=h1 he;replace h2:=h2 he;rw[Bf,aK he,he];have XX:=jF (bH l w h).V1;generalize bH l w h=b at*;rw[oF]at h2|-;have q1:((0:Int)=0)=True:=RA rfl;apply sR;simp only[go_sem,seval,ad,al,ag,ai,aA,aC,aE,aF,au,ar];refine aG hs λi8 Z8 s8 a8 f8 z8 hs=>?_;obtain⟨VU,a6⟩:=RC a6 f8 s8;by_cases hf:(b.V1.length:Int)>0
  .have q2:((b.V1.length:Int)>0)=True:=RA hf;obtain⟨rfl,rfl⟩:=h1 hf;simp only[go_sem,seval,a6,a8,q1,q2,XX,ab VU,ab VU,ad,al,ag,ai,aA,aC,aE,aF,au,ar];exact az.pure ((hs.aL z8).aL z6) rfl
  .have q2:((b.V1.length:Int)>0)=False:=H' hf;obtain⟨rfl,rfl⟩:=h2 hf;simp only[go_sem,seval,a6,a8,q1,q2,XX,ab VU,ab VU,ad,al,ag,ai,aA,aC,aE,aF,au,ar];exact az.pure ((hs.aL z8).aL z6) rfl
 .obtain⟨rfl,rfl⟩:=h3 he;rw[Bf,aM he];have q1:(eF l w h=0)=False:=H' he;generalize eF l w h=E at*;apply sR;simp only[go_sem,seval];refine aG hs λi8 Z8 s8 a8 f8 z8 hs=>?_;obtain⟨VU,a6⟩:=RC a6 f8 s8;simp only[go_sem,seval,a8,a6,q1,ab VU,ab VU];exact az.pure ((hs.aL z8).aL z6) rfl
def IV(b:Bk)(hbr:b.Sk.length=b.atoms.length+1)(s:RG):aV prog 9 [di b,aO s] (.bool (decide (yj b s))):=λU=>by
 refine e9.q ?_;have hs:=aa.refl U;have hm:=qw b.atoms s;generalize hF:decide (yj b s)=F;refine mS 5 ?_;simp only[go_sem,seval,c9,oF,ad,al,ag,ai,aA,aC,aE,aF,au,ar];refine aG hs λi2 Z2 s2 a2 f2 z2 hs=>?_;simp only[go_sem,seval,ad,al,ag,ai,aA,aC,aE,aF,au,ar];refine aG hs λi3 Z3 s3 a3 f3 z3 hs=>?_;obtain⟨n23,a2⟩:=RC a2 f3 s3;by_cases g1:de b.atoms s
 .rw[Tl g1]at hm;have SA:=pC (b:=b.Sk) (k:=s.atom) g1.1.1 (by have:=g1.1.2;omega);have hT:(s.free=true->s.done=0/\(s.atom=0\/(Um b.Sk s.atom.toNat).forced≠0))->F=true:=λh=>by rw[<-hF];exact Tl ⟨g1,h⟩
  have hN:¬(s.free=true->s.done=0/\(s.atom=0\/(Um b.Sk s.atom.toNat).forced≠0))->F=false:=λh=>by rw[<-hF];exact Tw λg=>h g.2
  clear hF;generalize Um b.Sk s.atom.toNat=B at*;simp only[go_sem,seval,a2,a3,ad,al,ag,ai,aA,aC,aE,aF,au,ar];refine pR rfl (hm _) ?_;cases g2:s.free
  .apply sR;simp only[go_sem,seval,a2,a3,g2,Bool.not_true,Bool.not_false,ad,al,ag,ai,aA,aC,aE,aF,au,ar];exact az.pure hs (by rw[hT (λh=>by rw[g2]at h;cases h)])
  .by_cases g3:s.done=0
   .have q3:(s.done=0)=True:=RA g3;by_cases g4:s.atom=0
    .have q4:(s.atom=0)=True:=RA g4;apply sR;simp only[go_sem,seval,a2,a3,g2,q3,q4,Bool.not_true,Bool.not_false,ad,al,ag,ai,aA,aC,aE,aF,au,ar];exact az.pure hs (by rw[hT (λ_=>⟨g3,.inl g4⟩)])
    .have q4:(s.atom=0)=False:=H' g4;by_cases g5:B.forced=0
     .have q5:(B.forced≠0)=False:=H' λh=>h g5;apply sR;simp only[go_sem,seval,a2,a3,g2,q3,q4,q5,SA,kU,Bool.not_true,Bool.not_false,ad,al,ag,ai,aA,aC,aE,aF,au,ar];exact az.pure hs (by rw[hN (λh=>(h g2).2.elim g4 λh=>h g5)])
     .have q5:(B.forced≠0)=True:=RA g5;apply sR;simp only[go_sem,seval,a2,a3,g2,q3,q4,q5,SA,kU,Bool.not_true,Bool.not_false,ad,al,ag,ai,aA,aC,aE,aF,au,ar];exact az.pure hs (by rw[hT (λ_=>⟨g3,.inr g5⟩)])
   .have q3:(s.done=0)=False:=H' g3;apply sR;simp only[go_sem,seval,a2,a3,g2,q3,Bool.not_true,Bool.not_false,ad,al,ag,ai,aA,aC,aE,aF,au,ar];exact az.pure hs (by rw[hN (λh=>g3 (h g2).1)])
 .rw[Tw g1]at hm;have hN:F=false:=by rw[<-hF];exact Tw λg=>g1 g.1
  simp only[go_sem,seval,a2,a3,ad,al,ag,ai,aA,aC,aE,aF,au,ar];refine pS rfl (hm _) ?_;simp only[go_sem,seval,Bool.not_false];exact az.pure hs (by rw[hN])
open Go.Proofs
def wi{b:List UH}{i:Nat}{to:Int}(h:fe b ((i:Int)+1) to>=0):(Um b (fe b ((i:Int)+1) to).toNat).forced≠0:=by
 unfold fe at*;rcases oW ((btw b ((i:Int)+1) to).map (pF b)) yg with⟨e,-⟩|⟨L,x,R,e1,-,e3,e4⟩
 .rw[e]at h;simp[yg]at h
 .rw[e4]at h|-;have hx:x∈(btw b ((i:Int)+1) to).map (pF b):=by rw[e1];simp
  obtain⟨k,hk,rfl⟩:=iD.1 hx;have:((pF b k).i).toNat=k:=by simp[pF]
  show(Um b ((pF b k).i).toNat).forced≠0;rw[this];exact e3
def uo(b:Bk)(k j:Nat):List RG:=(List.range j).map λi=>kQ b (k+1+i)
def Bt(b:Bk)(k j:Nat):uo b k (j+1)=uo b k j++[kQ b (k+1+j)]:=by
 unfold uo;rw[List.range_succ,eQ];rfl
def GM(b:Bk)(hb:dv b)(hq:BkQ b)(s:RG)(hm:de b.atoms s):aV prog 11 [di b,aO s] (cY (bB b s).reverse):=λU=>by
 refine e11.q ?_;have hs:=aa.refl U;have SX:=hb.len;have Vg:=hb.brk;obtain⟨k,hk⟩:∃k:Nat,s.atom=k:=⟨s.atom.toNat,by have:=hm.1.1;omega⟩
 have Uj:k<b.atoms.length:=by have:=hm.1.2;omega
 have hd:=xO hb hm;have hrv:=CM b hq s hm.1.1;have U2:=xc hb.toBkFull s hm.1.1;have hkp:=Ik b.atoms hb.Sl s (du b s).body;have hkr:=BN hb.toBkOk s (du b s).body;have hrc:=EC b.atoms hb.Sl hb.Up hb.pos s hm (by omega) (ij b.atoms s (du b s).body) 0 (du b s).body hkr ⟨by omega,by omega⟩;have Wx:=HW b.atoms hb.Sl s hm (by omega) (du b s).body U2;have hRn:=vO hb hm;rw[show nR b.atoms s (ij b.atoms s (du b s).body) 0 (du b s).body=cp b s from rfl]at hrc;have hfi:=F3 b.Sk (by omega) k (by omega) (cp b s) (by omega);have Wz:=nX (b:=b.Sk) (i:=s.atom) (fit:=cp b s) hm.1.1 (by omega);have hff:=wi (b:=b.Sk) (i:=k) (to:=cp b s);have V':=ES (b:=b) (s:=s) hm.1.1;rw[hk]at Wz V';rw[gu]at V';rw[oF]at hrv;generalize cp b s=R at*;generalize ij b.atoms s (du b s).body=KP at*;generalize du b s=rv at*;generalize fo b.atoms s rv.body=NX at*;generalize qn b.atoms s rv.body=FX at*;generalize fe b.Sk ((k:Int)+1) R=FR at*;have r1:=rI k;refine mS 14 ?_;simp only[go_sem,seval,c11,oF,ad,al,ag,ai,aA,aC,aE,aF,au,ar];refine aG hs λi2 Z2 s2 a2 f2 z2 hs=>?_;simp only[go_sem,seval,ad,al,ag,ai,aA,aC,aE,aF,au,ar];refine aG hs λi3 Z3 s3 a3 f3 z3 hs=>?_;obtain⟨n23,a2⟩:=RC a2 f3 s3;simp only[go_sem,seval,a2,a3,aI,ad,al,ag,ai,aA,aC,aE,aF,au,ar];refine pS rfl (hrv _) ?_;simp only[go_sem,seval,a3,kH,aI,ad,al,ag,ai,aA,aC,aE,aF,au,ar];refine pS rfl (hkp _) ?_;simp only[go_sem,seval,a3,aI,ad,al,ag,ai,aA,aC,aE,aF,au,ar];refine pR rfl (hrc _) ?_;by_cases g1:R<=s.atom
 .have q1:(R<=s.atom)=True:=RA g1;rw[aK (by omega)]at V';apply sR;simp only[go_sem,seval,a3,q1,aI,ad,al,ag,ai,aA,aC,aE,aF,au,ar];refine pR rfl (Wx _) ?_;have nc:NX=NX:=rfl;apply sR;simp only[go_sem,seval,cd,ad,al,ag,ai,aA,aC,aE,aF,au,ar];refine aG hs λi9 Y9 s9 a9 f9 z9 hs=>?_;simp only[go_sem,seval,ad,al,ag,ai,aA,aC,aE,aF,au,ar];refine aG hs λi10 XP To RZ f10 Uq hs=>?_;obtain⟨UU,a9⟩:=RC a9 f10 To;simp only[go_sem,seval,a9,RZ,aI,ab UU,ab UU,ab UU.symm,ab UU.symm,ad,al,ag,ai,aA,aC,aE,aF,au,ar];refine aD λi42 Z42 s42 a42 f42=>?_;simp only[go_sem,seval];rw[V'];exact(aP.new (e:=24) (sz:=3) (rows:=[NX].map aO) rfl a42 (aa.none ((hs.aL z9).aL Uq) f42)).ns (aa.trans ((hs.aL z9).aL Uq) s42) rfl
 .have q1:(R<=s.atom)=False:=H' g1;rw[aM (by omega)]at V';rw[hk]at q1;by_cases g2:FR>=0
  .have q2:(FR>=0)=True:=RA g2;rw[aK g2]at V';have W9:kQ b FR.toNat=⟨FR,0,true⟩:=by
    unfold kQ;rw[Tl (hff g2),Int.toNat_of_nonneg g2]
   rw[W9]at V';apply sR;simp only[go_sem,seval,a2,a3,hk,q1,r1,ad,al,ag,ai,aA,aC,aE,aF,au,ar];refine pS rfl (hfi _) ?_;simp only[go_sem,seval,q2];refine aD λi54 Z54 s54 a54 f54=>?_;simp only[go_sem,seval];rw[V'];exact(aP.new (e:=24) (sz:=3) (rows:=[(⟨FR,0,true⟩:RG)].map aO) rfl a54 (hs.none f54)).ns (hs.trans s54) rfl
  .have q2:(FR>=0)=False:=H' g2;rw[aM g2]at V';obtain⟨Rn,rfl⟩:∃Rn:Nat,R=Rn:=⟨R.toNat,by omega⟩
   have e2:((Rn:Int)-k).toNat=Rn-k:=by omega
   rw[e2]at V';apply sR;simp only[go_sem,seval,a2,a3,hk,q1,r1,ad,al,ag,ai,aA,aC,aE,aF,au,ar];refine pS rfl (hfi _) ?_;simp only[go_sem,seval,q2,a3,hk,r1,ad,al,ag,ai,aA,aC,aE,aF,au,ar];refine aq.loop (λm st=>∃(j:Nat) (v:V),j<=Rn-k/\m=Rn-k-j/\aa Z3 st.U/\aP Z3 st.U 24 3 v ((uo b k j).map aO)/\st.s 2=.ptr i2 0 0/\st.s 8=vI Rn/\st.s 12=v/\st.s 13=vI ((k+1+j:Nat):Int)) (Rn-k) ⟨0,.bj,by omega,rfl,aa.refl _,aP.start,rfl,rfl,rfl,rfl⟩ ?_;rintro m ⟨S,ω⟩ ⟨j,v,hj,rfl,hK,hv,t2,t8,t12,t13⟩;simp only at hK hv t2 t8 t12 t13;refine aq.mix 14 ?_;have b2:=hK _ _ a2;by_cases u':j<Rn-k
   .have q3:(((k+1+j:Nat):Int)<=(Rn:Int))=True:=RA;have r2:R0 .i64 (((k+1+j:Nat):Int)+1):=ao;have SA:=pC (b:=b.Sk) (k:=((k+1+j:Nat):Int)) (by omega) (by omega);have hcu:aO (kQ b (k+1+j))=.agg [vI ((k+1+j:Nat):Int),vI 0,.bool (decide ((Um b.Sk (k+1+j)).forced≠0))]:=rfl;rw[gu]at SA;generalize Um b.Sk (k+1+j)=B at*;have hsw:=aa.refl ω;apply sR;simp only[go_sem,seval,t2,t8,t12,t13,b2,q3,SA,kU,ad,al,ag,ai,aA,aC,aE,aF,au,ar];refine aD λi73 Z73 s73 a73 f73=>?_;obtain⟨idA,SE,RO⟩:=hv.dst s73;have U5:(((uo b k j).map aO).length+1)*25<=140737488355328:=by simp only[dC,uo,List.length_range];omega
    simp only[go_sem,seval,SE,bN a73,U5];refine bk λi74 Z74 s74 a74 f74=>?_;simp only[go_sem,seval,t13,r2];exact⟨_,by omega,j+1,.own i74 0 (((uo b k j).map aO).length+1),by omega,rfl,(RO Z3 (aa.refl _) Z73 (hK.trans s73)).trans s74,by rw[Bt,eQ];exact aP.new (by simp) (by rw[a74];simp[hcu]) ((hK.trans s73).none f74),by simp[t2,t8];omega⟩
   .have q3:(((k+1+j:Nat):Int)<=(Rn:Int))=False:=H';apply sR;simp only[go_sem,seval,t2,t8,t12,t13,q3];have TT:j=Rn-k:=by omega
    rw[V',<-TT];exact(hv.nP hs).ns (hs.trans hK) rfl
open Go.Proofs
set_option maxRecDepth 1000000
def b38(h:Int):Bk:=bH ZR 10 h
def f38:dq ZR:=⟨by decide,by decide⟩
def FD:Ux ZR 10 4=0:=by kernel_rfl
def PV:Ux ZR 10 1=0:=by kernel_rfl
def s38:Cp (b38 4)=[⟨0,0,true⟩,⟨2,0,false⟩,⟨4,0,false⟩]:=by kernel_rfl
def PD:(dX (b38 4) ⟨0,0,true⟩).1=⟨3,0⟩:=by kernel_rfl
def g38:kW (b38 4)=[⟨0,0,true⟩,⟨2,0,false⟩,⟨4,0,false⟩]:=by kernel_rfl
def Qq:yC (b38 4)=⟨3,0⟩:=by kernel_rfl
def n38:zY (b38 4) ⟨0,0,true⟩=.RM [cY [⟨1,0,false⟩,⟨2,0,false⟩],vI 0]:=by kernel_rfl
def m38:(dX (b38 1) ⟨0,0,true⟩).1.RT=10:=by kernel_rfl
def x38:pV (b38 4) (ZS [0,1,3] 3)=some ⟨3,0⟩:=by kernel_rfl
def y38:pV (b38 4) (ZS [0,3] 2)=none:=by kernel_rfl
open Go.Proofs
def Bi{U Z1:ak}{i e:Nat}{l:List Int}(h:U i=some ⟨e,1,l.map vI⟩)(hs:aa U Z1):Reads Z1 1 false (.own i 0 l.length) (l.map vI):=vq (hs _ _ h)
def JR:aV prog 7 [] (.bool true):=λU=>by
 refine e7.q ?_;have hs:=aa.refl U;have p1:=Jm ZR f38 10 4 FD;have p2:=Es ZR f38 10 4 FD;have p3:=Cj ZR f38 10 4 ⟨0,0,true⟩ FD;have p4:=Jm ZR f38 10 1 PV;have p5:=CW ZR f38 10 4 FD (ZS [0,1,3] 3) (by decide);have p6:=CW ZR f38 10 4 FD (ZS [0,3] 2) (by decide);have hb:bH ZR 10 4=b38 4:=rfl;have U5:bH ZR 10 1=b38 1:=rfl;rw[hb,s38,PD]at p1;rw[hb,g38,Qq]at p2;rw[hb,n38]at p3;rw[U5]at p4;rw[hb,pd x38]at p5;rw[hb,iG y38]at p6;have m:=m38;generalize (dX (b38 1) ⟨0,0,true⟩).1=C at*;generalize Cp (b38 1)=G at*;clear hb U5;have hbx:=Iy;generalize ZR=B at*;have q0:((0:Int)≠0)=False:=H' λh=>h rfl;have q10:(C.RT=10)=True:=RA m;refine mS 19 ?_;simp only[go_sem,seval,c7];refine pS rfl (hbx _) ?_;simp only[go_sem,seval];refine pS rfl (p1 _) ?_;simp only[go_sem,seval,bu,br];refine aG hs λi2 Z2 s2 a2 f2 z2 hs=>?_;simp only[go_sem,seval,a2,bu,br];generalize hq2:C' _ i2 _=Y2;replace a2:=SR hq2;replace hs:=SL hq2 hs z2;refine pS rfl (hbx _) ?_;simp only[go_sem,seval];refine pS rfl (p2 _) ?_;simp only[go_sem,seval,bu,br];refine aG hs λi5 Z5 s5 a5 f5 z5 hs=>?_;obtain⟨n25,a2⟩:=RC a2 f5 s5;simp only[go_sem,seval,a5,bu,br];generalize TL:C' _ i5 _=Y5;replace a5:=SR TL;replace a2:=R6 TL n25 a2;replace hs:=SL TL hs z5;refine pS rfl (hbx _) ?_;simp only[go_sem,seval];refine pS rfl (p3 _) ?_;simp only[go_sem,seval];refine pS rfl (hbx _) ?_;simp only[go_sem,seval];refine pS rfl (p4 _) ?_;simp only[go_sem,seval,bu,br];refine aG hs λi10 XP To RZ f10 Uq hs=>?_;obtain⟨n210,a2⟩:=RC a2 f10 To;obtain⟨n510,a5⟩:=RC a5 f10 To;simp only[go_sem,seval,RZ,bu,br];generalize R5:C' _ i10 _=Y10;replace RZ:=SR R5;replace a2:=R6 R5 n210 a2;replace a5:=R6 R5 n510 a5;replace hs:=SL R5 hs Uq;refine pS rfl (hbx _) ?_;simp only[go_sem,seval];refine aG hs λi45 Z45 s45 a45 f45 z45 hs=>?_;obtain⟨n245,a2⟩:=RC a2 f45 s45;obtain⟨n545,a5⟩:=RC a5 f45 s45;obtain⟨n1045,RZ⟩:=RC RZ f45 s45;simp only[go_sem,seval];refine pS rfl (uS [0,1,3] (by decide) (Bi (l:=[0,1,3]) a45 (aa.refl _))) ?_;simp only[go_sem,seval];refine pS rfl (p5 _) ?_;simp only[go_sem,seval,bu,br];refine aG hs λi12 Y12 Xt a12 f12 z12 hs=>?_;obtain⟨n212,a2⟩:=RC a2 f12 Xt;obtain⟨ZE,a5⟩:=RC a5 f12 Xt;obtain⟨VB,RZ⟩:=RC RZ f12 Xt;simp only[go_sem,seval,a12,bu,br];generalize Tj:C' _ i12 _=Z12;replace a12:=SR Tj;replace a2:=R6 Tj n212 a2;replace a5:=R6 Tj ZE a5;replace RZ:=R6 Tj VB RZ;replace hs:=SL Tj hs z12;refine pS rfl (hbx _) ?_;simp only[go_sem,seval];refine aG hs λi53 Z53 s53 a53 f53 z53 hs=>?_;obtain⟨n253,a2⟩:=RC a2 f53 s53;obtain⟨n553,a5⟩:=RC a5 f53 s53;obtain⟨n1053,RZ⟩:=RC RZ f53 s53;obtain⟨n1253,a12⟩:=RC a12 f53 s53;simp only[go_sem,seval];refine pS rfl (uS [0,3] (by decide) (Bi (l:=[0,3]) a53 (aa.refl _))) ?_;simp only[go_sem,seval];refine pS rfl (p6 _) ?_;simp only[go_sem,seval,bu,br];refine aG hs λi15 Z15 Xa US f15 z15 hs=>?_;obtain⟨n215,a2⟩:=RC a2 f15 Xa;obtain⟨n515,a5⟩:=RC a5 f15 Xa;obtain⟨n1015,RZ⟩:=RC RZ f15 Xa;obtain⟨n1215,a12⟩:=RC a12 f15 Xa;simp only[go_sem,seval,US,bu,br];generalize Tv:C' _ i15 _=Y15;replace US:=SR Tv;replace a2:=R6 Tv n215 a2;replace a5:=R6 Tv n515 a5;replace RZ:=R6 Tv n1015 RZ;replace a12:=R6 Tv n1215 a12;replace hs:=SL Tv hs z15;refine aG hs λi18 Z18 s18 Ws f18 z18 hs=>?_;obtain⟨n218,a2⟩:=RC a2 f18 s18;obtain⟨n518,a5⟩:=RC a5 f18 s18;obtain⟨n1018,RZ⟩:=RC RZ f18 s18;obtain⟨n1218,a12⟩:=RC a12 f18 s18;obtain⟨n1518,US⟩:=RC US f18 s18;simp only[go_sem,seval,Ws];generalize Vm:C' _ i18 _=Y18;replace Ws:=SR Vm;replace a2:=R6 Vm n218 a2;replace a5:=R6 Vm n518 a5;replace RZ:=R6 Vm n1018 RZ;replace a12:=R6 Vm n1218 a12;replace US:=R6 Vm n1518 US;replace hs:=SL Vm hs z18;have hl2:ej false (cY [⟨1,0,false⟩,⟨2,0,false⟩])=some (.int .i64 2):=rfl;have hi0:∀U,bG U 3 (cY [⟨1,0,false⟩,⟨2,0,false⟩]) (.int .i64 0)=some (.rp (aO ⟨1,0,false⟩)):=λ_=>rfl;have hi1:∀U,bG U 3 (cY [⟨1,0,false⟩,⟨2,0,false⟩]) (.int .i64 1)=some (.rp (aO ⟨2,0,false⟩)):=λ_=>rfl;simp only[go_sem,seval,q0,hl2];refine aG hs λi88 Z88 s88 a88 f88 z88 hs=>?_;obtain⟨n288,a2⟩:=RC a2 f88 s88;obtain⟨n588,a5⟩:=RC a5 f88 s88;obtain⟨n1088,RZ⟩:=RC RZ f88 s88;obtain⟨n1288,a12⟩:=RC a12 f88 s88;obtain⟨n1588,US⟩:=RC US f88 s88;obtain⟨n1888,Ws⟩:=RC Ws f88 s88;simp only[go_sem,seval];refine pS rfl (uS [0,2,4] (by decide) (Bi (l:=[0,2,4]) a88 (aa.refl _))) ?_;simp only[go_sem,seval];refine pR rfl (tK [⟨0,0,true⟩,⟨2,0,false⟩,⟨4,0,false⟩] (ZS [0,2,4] 3) (by decide) _) ?_;rw[Tl (show([⟨0,0,true⟩,⟨2,0,false⟩,⟨4,0,false⟩]:List RG)=ZS [0,2,4] 3 from by decide)];apply sR;simp only[go_sem,seval];refine pR rfl (tK [⟨0,0,true⟩,⟨2,0,false⟩,⟨4,0,false⟩] [⟨0,0,true⟩,⟨2,0,false⟩,⟨4,0,false⟩] (by decide) _) ?_;rw[Tl rfl];apply sR;simp only[go_sem,seval,a2,a5,RZ,a12,US,Ws,hi0,hi1,q10,Bool.not_false,bu,br,au,ar];exact az.pure hs rfl
open Go.Proofs
def qL(b:Bk)(k:Nat):Int:=((List.range k).map λi:Nat=>1+(UZ b.atoms i).h.tdiv (max (du b ⟨i,0,false⟩).body 1)).sum
def wo(b:Bk)(k:Nat):qL b (k+1)=qL b k+(1+(UZ b.atoms k).h.tdiv (max (du b ⟨k,0,false⟩).body 1)):=by
 unfold qL;rw[List.range_succ,eQ,List.sum_append];simp
def A2{b:Bk}(hp:∀a∈b.atoms,1<=a.h):∀k,k<=b.atoms.length->0<=qL b k/\qL b k+jL b k<=k+jL b 0
 |0,_=>by simp[qL]
 |k+1,h=>by
  obtain⟨h1,h2⟩:=A2 hp k (by omega);rw[wo];have h3:=l6 (b:=b) (a:=k) (by omega);have h4:=bp (l:=b.atoms) (k:=k) (by omega);have h5:=hp _ (Sx (l:=b.atoms) (n:=k) (by omega));rw[h4];have d0:=Int.tdiv_nonneg (a:=b.atoms[k].h) (b:=max (du b ⟨k,0,false⟩).body 1) (by omega) (by omega);have d1:=Int.tdiv_le_self (a:=b.atoms[k].h) (max (du b ⟨k,0,false⟩).body 1) (by omega);omega
def Ja{l:List Nd}{w h:Int}(he:eF l w h=0):jL (bH l w h) 0<=1099511627776:=by
 obtain⟨hsw,hsh,hc⟩:=lL he;obtain⟨T',hn,-,-⟩:=mv hc;have h1:jL (bH l w h) 0=Xk (cJ l w).atoms:=rfl;have h2:=EK T' hn hsw.1 hsw.2;have h3:(fS l).1.M'<=1099511627776:=by
  unfold dU at hc;rw[aK T']at hc;split at hc
  .cases hc
  .omega
 have h4:=tJ T' h3;omega
def AK(l:List Nd)(w h:Int)(v:V)(E:Int):Prop:=l.length<=30/\E=Ux l w h/\v=jC l w h/\(E=0->(bH l w h).atoms.length<=40/\qL (bH l w h) (bH l w h).atoms.length<=120)
def Kt(l:List Nd)(hlen:l.length<=1000000000000)(hw:∀x∈l,x.words.length<=200000000000000)(w h:Int)(U:ak):
 aB prog 6 [aQ l,vI w,vI h] U λr Z'=>(∃(v:V) (E:Int) (ok:Bool),r=.RM [v,vI E,.bool ok]/\(v=mJ\/∃b,v=di b)/\(ok=true->AK l w h v E))/\Z'=U:=by
 refine e6.q ?_;have T1:=bO l;have hs:=aa.refl U;have fin:∀(v:V) (E:Int) (ok:Bool) (J:ak),aa U J->(v=mJ\/∃b,v=di b)->(ok=true->AK l w h v E)->az (.RM [v,vI E,.bool ok]) J λr Z'=>(∃(v:V) (E:Int) (ok:Bool),r=.RM [v,vI E,.bool ok]/\(v=mJ\/∃b,v=di b)/\(ok=true->AK l w h v E))/\Z'=U:=
  λv E ok J h1 h2 h3=>⟨_,U,h1,Wk.refl h1 _,⟨v,E,ok,rfl,h2,h3⟩,rfl⟩
 refine mS 16 ?_;simp only[go_sem,seval,c6];refine aG hs λi6 Z6 s6 a6 f6 z6 hs=>?_;simp only[go_sem,seval];refine aq.loop (λm st=>∃(i:Nat) (c:Int),i<=l.length/\m=l.length-i/\st.U=Z6/\st.s 0=aQ l/\st.s 1=vI w/\st.s 2=vI h/\st.s 6=.ptr i6 0 0/\st.s 9=vI c/\(l.length<=30->c=(nU (l.take i):Nat))/\st.s 10=vI i) l.length ⟨0,0,by omega,by omega,rfl,rfl,rfl,rfl,rfl,rfl,λ_=>by simp[nU],rfl⟩ ?_;rintro m ⟨s,Z'⟩ ⟨i,c,hi,rfl,R8,t0,t1,t2,t6,t9,hc,t10⟩;simp only at R8 t0 t1 t2 t6 t9 t10;subst R8;refine aq.mix 16 ?_;by_cases u':i<l.length
 .have q1:=qT u';have hwi:=hw _ (Sx u');have hws:=zo u';have SI:=λU=>bI (U:=U) (l:=l) (a:=i) u';have hlw:=cC l[i].words;have r1:=rI i
  (refine aq.bx Th.nothing 20 ?_;simp only[go_sem,seval,pA,t0,t9,t10,T1,q1,SI,Nd.cells,hlw,wh])
  refine aq.P4 rfl rfl rfl rfl ?_;by_cases h60:l.length<=30
  .have hc':=hc h60;have hwr:IntKind.i64.wrap (c+(l[i].words.length:Int))=c+l[i].words.length:=by
    have fb:=w9 (l:=l.take i) (λx hx=>hw x (yu hx));rw[lQ]at fb;rw[IntKind.wrap_i64];omega
   rw[hwr];apply sR;simp only[go_sem,seval,t0,t1,t2,t6,t10,r1];exact⟨_,by omega,i+1,_,by omega,rfl,rfl,λ_=>by rw[hws,hc'];omega,rfl⟩
  .apply sR;simp only[go_sem,seval,t0,t1,t2,t6,t10,r1];exact⟨_,by omega,i+1,_,by omega,rfl,rfl,λg=>absurd g h60,rfl⟩
 .have q1:=qF u';by_cases g1:(l.length:Int)>30
  .have p1:((l.length:Int)>30)=True:=RA g1;apply sR;simp only[go_sem,seval,t0,t6,t9,t10,a6,T1,q1,p1,fa];exact fin _ _ _ _ (hs.aL z6) (.inl rfl) (λh=>by cases h)
  .have p1:((l.length:Int)>30)=False:=H' g1;have hl:dq l:=⟨by omega,hw⟩
   by_cases g2:c>150
   .have p2:(c>150)=True:=RA g2;apply sR;simp only[go_sem,seval,t0,t6,t9,t10,a6,T1,q1,p1,p2,fa];exact fin _ _ _ _ (hs.aL z6) (.inl rfl) (λh=>by cases h)
   .have p2:(c>150)=False:=H' g2;have hnc:=Ih l hl w h;apply sR;simp only[go_sem,seval,t0,t1,t2,t9,t10,T1,q1,p1,p2];refine pR rfl (hnc _) ?_;by_cases e0:Ux l w h=0
    .obtain⟨he,-⟩:=kz e0;have hb:=gS hl he;have hq:=FE hl he;have hsr:=A2 hb.pos;have hr0:=Ja he;have hrn:=mr hb.pos;have hM:jC l w h=di (bH l w h):=aK e0;have hF:(bH l w h).atoms.length<=40->qL (bH l w h) (bH l w h).atoms.length<=120->AK l w h (di (bH l w h)) 0:=λg1 g2=>⟨by omega,e0.symm,hM.symm,λ_=>⟨g1,g2⟩⟩
     rw[hM,e0];generalize bH l w h=b at*;have TZ:=jw b.atoms;have SX:=hb.len;have q0:((0:Int)≠0)=False:=H' λh=>h rfl;rw[oF];apply sR;simp only[go_sem,seval,ad,al,ag,ai,aA,aC,aE,aF,au,ar];refine aG hs λi11 Yf Vb Ug f11 YE hs=>?_;obtain⟨TG,a6⟩:=RC a6 f11 Vb;simp only[go_sem,seval,Ug,q0,ad,al,ag,ai,aA,aC,aE,aF,au,ar];generalize Tb:C' _ i11 _=Y11;replace Ug:=SR Tb;replace a6:=R6 Tb TG a6;replace hs:=SL Tb hs YE;refine aq.loop (λm st=>∃j:Nat,j<=b.atoms.length/\m=b.atoms.length-j/\st.U=Y11/\st.s 6=.ptr i6 0 0/\st.s 11=.ptr i11 0 0/\st.s 12=vI 0/\st.s 13=vI (qL b j)/\st.s 14=vI j) b.atoms.length ⟨0,by omega,rfl,rfl,t6,rfl,rfl,rfl,rfl⟩ ?_;rintro m ⟨S,J⟩ ⟨j,hj,rfl,R8,k6,TB,SF,VI,Vr⟩;simp only at R8 k6 TB SF VI Vr;subst R8;refine aq.mix 16 ?_;by_cases UG:j<b.atoms.length
     .have u1:=qT UG;have hrv:=CM b hq ⟨j,0,false⟩ (by simp);have SA:=λU=>fg (U:=U) UG;have Yk:=hsr j (by omega);have hsj1:=hsr (j+1) (by omega);have hrj:=hrn (j+1);have hp:=hb.pos _ (Sx UG);have hsu:=wo b j;rw[bp UG]at hsu;have hE3:aO ⟨(j:Int),0,false⟩=.agg [vI j,vI 0,.bool false]:=rfl;rw[oF,hE3]at hrv;generalize du b ⟨(j:Int),0,false⟩=rv at*;generalize b.atoms[j]=x at*;have hM1:(if 1>rv.body then 1 else rv.body)=max rv.body 1:=by split<;>omega
      have hM0:(max rv.body 1=0)=False:=H';have d0:=Int.tdiv_nonneg (a:=x.h) (b:=max rv.body 1) (by omega) (by omega);have r0:=rI j;have r2:R0 .i64 (x.h.tdiv (max rv.body 1)):=ao;have r3:R0 .i64 (1+x.h.tdiv (max rv.body 1)):=ao;have r4:R0 .i64 (qL b j+(1+x.h.tdiv (max rv.body 1))):=ao;apply sR;simp only[go_sem,seval,TB,Vr,Ug,TZ,u1,ad,al,ag,ai,aA,aC,aE,aF,au,ar];refine pS rfl (hrv _) ?_;simp only[go_sem,seval,k6,TB,SF,VI,Vr,Ug,kH,SA,bz,hM1,hM0,r0,r2,r3,r4,ad,al,ag,ai,aA,aC,aE,aF,au,ar];exact⟨_,by omega,j+1,by omega,rfl,by simp[hsu,vI]⟩
     .have u1:=qF UG;obtain rfl:j=b.atoms.length:=by omega
      by_cases g4:(b.atoms.length:Int)<=40
      .have u2:((b.atoms.length:Int)<=40)=True:=RA g4;by_cases g5:qL b b.atoms.length<=120
       .have u3:(qL b b.atoms.length<=120)=True:=RA g5;apply sR;simp only[go_sem,seval,k6,TB,SF,VI,Vr,Ug,a6,TZ,u1,u2,u3,ab TG,ab TG,ab TG.symm,ab TG.symm,fa,ad,al,ag,ai,aA,aC,aE,aF,au,ar];exact fin _ _ _ _ (hs.aL z6) (.inr ⟨b,rfl⟩) (λ_=>hF (by omega) g5)
       .have u3:(qL b b.atoms.length<=120)=False:=H' g5;apply sR;simp only[go_sem,seval,k6,TB,SF,VI,Vr,Ug,a6,TZ,u1,u2,u3,ab TG,ab TG,ab TG.symm,ab TG.symm,fa,ad,al,ag,ai,aA,aC,aE,aF,au,ar];exact fin _ _ _ _ (hs.aL z6) (.inr ⟨b,rfl⟩) (λh=>by cases h)
      .have u2:((b.atoms.length:Int)<=40)=False:=H' g4;apply sR;simp only[go_sem,seval,k6,TB,SF,VI,Vr,Ug,a6,TZ,u1,u2,ab TG,ab TG,ab TG.symm,ab TG.symm,fa,ad,al,ag,ai,aA,aC,aE,aF,au,ar];exact fin _ _ _ _ (hs.aL z6) (.inr ⟨b,rfl⟩) (λh=>by cases h)
    .have hM:jC l w h=mJ:=aM e0;have q0:(Ux l w h≠0)=True:=RA e0;have hF:AK l w h mJ (Ux l w h):=⟨by omega,rfl,hM.symm,λh=>absurd h e0⟩
     rw[hM];generalize Ux l w h=E at*;apply sR;simp only[go_sem,seval,mJ];refine aG hs λi11 Yf Vb Ug f11 YE hs=>?_;obtain⟨TG,a6⟩:=RC a6 f11 Vb;simp only[go_sem,seval,Ug,a6,t6,q0,ab TG,ab TG,fa];exact fin _ _ _ _ ((hs.aL YE).aL z6) (.inl rfl) (λ_=>hF)
def Cd(aw:aV prog 7 [] (.bool true))(l:List Nd)(hlen:l.length<=1000000000000)(hw:∀x∈l,x.words.length<=200000000000000)(w h:Int)(s:RG):
 aV prog 3 [aQ l,vI w,vI h,aO s] (.bool true):=λU=>by
 refine e3.q ?_;have hs:=aa.refl U;refine mS 14 ?_;simp only[go_sem,seval,c3,au,ar];refine aG hs λi7 Z7 s7 a7 f7 z7 hs=>?_;simp only[go_sem,seval,a7,ad,al,ag,ai,aA,aC,aE,aF,au,ar];refine Tx rfl (Kt l hlen hw w h _) ?_;rintro r Z' ⟨⟨v,E,ok,rfl,hv,hM⟩,rfl⟩;cases ok with
 |false=>
  rcases hv with rfl|⟨b',rfl⟩
  case' inl=>rw[mJ]
  case' inr=>rw[oF]
  all_goals
   apply sR;simp only[go_sem,seval,ad,al,ag,ai,aA,aC,aE,aF,au,ar];refine aG hs λi9 Y9 s9 a9 f9 z9 hs=>?_;obtain⟨WX,a7⟩:=RC a7 f9 s9;simp only[go_sem,seval,a9,Bool.not_false,ad,al,ag,ai,aA,aC,aE,aF,au,ar];refine pS rfl (aw _) ?_;simp only[go_sem,seval];exact az.pure (hs.aL z9) rfl
 |true=>
  obtain⟨h30,rfl,rfl,-⟩:=hM rfl;clear hM hv;have hl:dq l:=⟨by omega,hw⟩
  have q0:((0:Int)=0)=True:=RA rfl;have q1:((0:Int)≠0)=False:=H' λh=>h rfl;have q4:((4:Int)≠0)=True:=RA (by decide);have q5:((4:Int)=4)=True:=RA rfl;have q6:((4:Int)=0)=False:=H' (by decide);by_cases e0:Ux l w h=0
  .have hpn:=Cj l hl w h s e0;obtain⟨he,-⟩:=kz e0;have hb:=gS hl he;have hbq:=FE hl he;rw[show jC l w h=di (bH l w h)from aK e0,e0];generalize bH l w h=b at*;have hmc:=IV b hb.brk s;rw[oF]at hmc|-;apply sR;simp only[go_sem,seval,ad,al,ag,ai,aA,aC,aE,aF,au,ar];refine aG hs λi9 Y9 s9 a9 f9 z9 hs=>?_;obtain⟨WX,a7⟩:=RC a7 f9 s9;simp only[go_sem,seval,a9,a7,Bool.not_true,aI,ab WX,ab WX,ad,al,ag,ai,aA,aC,aE,aF,au,ar];generalize Sy:C' _ i9 _=Z9;replace a9:=SR Sy;replace a7:=R6 Sy WX a7;replace hs:=SL Sy hs z9;refine pR rfl (hpn _) ?_;by_cases hm:yj b s
   .rw[Tl hm]at hmc;rw[zY,aK hm];have hnc:=GM b hb hbq s hm.1;have W7:=tK (bB b s).reverse (bB b s).reverse (by rw[List.length_reverse];have:=lX hb hm.1;omega);rw[Tl rfl]at W7;rw[oF]at hnc;generalize (bB b s).reverse=L at*;apply sR;simp only[go_sem,seval,q0,a7,a9,aI,ad,al,ag,ai,aA,aC,aE,aF,au,ar];refine pS rfl (hmc _) ?_;simp only[go_sem,seval,q0,q1,a7,a9,Bool.not_true,aI,ad,al,ag,ai,aA,aC,aE,aF,au,ar];refine pS rfl (hnc _) ?_;simp only[go_sem,seval];refine pS rfl (W7 _) ?_;simp only[go_sem,seval];refine pS rfl (aw _) ?_;simp only[go_sem,seval];exact az.pure hs rfl
   .rw[Tw hm]at hmc;rw[zY,aM hm];apply sR;simp only[go_sem,seval,q0,a7,a9,aI,ad,al,ag,ai,aA,aC,aE,aF,au,ar];refine pS rfl (hmc _) ?_;simp only[go_sem,seval,q0,q4,q5,Bool.not_false];refine pS rfl (aw _) ?_;simp only[go_sem,seval];exact az.pure hs rfl
  .have hpn:=Hy l hl w h s e0;have p0:(Ux l w h=0)=False:=H' e0;have p1:(Ux l w h≠0)=True:=RA e0;have p2:(Ux l w h=Ux l w h)=True:=RA rfl;rw[show jC l w h=mJ from aM e0,mJ];generalize Ux l w h=D at*;apply sR;simp only[go_sem,seval];refine aG hs λi9 Y9 s9 a9 f9 z9 hs=>?_;obtain⟨WX,a7⟩:=RC a7 f9 s9;simp only[go_sem,seval,a9,a7,Bool.not_true,aI,ab WX,ab WX,ad,al,ag,ai,aA,aC,aE,aF,au,ar];refine pS rfl (hpn _) ?_;simp only[go_sem,seval,q0,p0,p1,p2];refine pS rfl (aw _) ?_;simp only[go_sem,seval];exact az.pure (hs.aL z9) rfl
end Go.Vc
