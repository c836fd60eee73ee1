/- Part 11 of the library of this proof. -/
import Derived.Test.YtdaelobhgmdoeaaGreatW10
set_option linter.all false
set_option maxHeartbeats 8000000
set_option maxRecDepth 100000
namespace Go.Vc
open Go.Proofs Go.Proofs.Tryz
def pH(b:Bk):V:=.agg [.rp (bc b),aW b.atoms,aB b.M',vI b.WG,bh b.L']
def D4:V:=.agg [.XY,.ay,.ay,vI 0,.ay]
def dJ(b:Bk):(pH b).cells=[.rp (bc b),aW b.atoms,aB b.M',vI b.WG,bh b.L']:=rfl
def o5(b:Bk):(pH b).stays=true:=rfl
def Dd(l:List Nd)(w h:Int):V:=if cE l w h=0 then pH (aP l w h)else D4
def Bf(l:List Nd)(hl:cT l)(w h:Int):aK prog 26 [aC l,vI w,vI h] (.WJ [Dd l w h,vI (cE l w h)]):=λU=>by
 refine e26.r (by simp[c26]) ?_;have hs:=aa.refl U;have hn:=IY l hl w h;unfold Cs at hn;refine ab.mix 9 ?_;apply sR;simp only[go_sem,seval,c26];refine ad λi6 Z6 s6 a6 f6=>?_;have z6:=hs.none f6;replace hs:=hs.trans s6;simp only[go_sem,seval];refine ab.au rfl rfl rfl (hn _) ?_;by_cases he:cE l w h=0
 .have hb:=de hl he;unfold Dd;rw[aq he,aq he,he];generalize aP l w h=b at*;have q:((0:Int)≠0)=False:=O' (λh=>h rfl);have hgc:(tg b).cells=[aW b.atoms,aB b.M',vI b.WG]:=rfl;have hgs:(tg b).stays=true:=rfl;apply sR;simp only[go_sem,seval,q];refine ab.au rfl rfl rfl (tf b hb.toBkFull _) ?_;apply sR;simp only[go_sem,seval];refine ab.au rfl rfl rfl (th b hb.toBkFull _) ?_;apply sR;simp only[go_sem,seval,a6,hgc,hgs,iN,iU];exact ak.pure (hs.av z6) rfl
 .have q:(cE l w h≠0)=True:=WE he;unfold Dd;rw[ao he,ao he];generalize cE l w h=E at*;apply sR;simp only[go_sem,seval,q,a6];exact ak.pure (hs.av z6) rfl
def IS(b:Bk)(hb:BkOk b):aK prog 63 [pH b] (.bool (decide ((b.atoms.length:Int)+b.M'.length=0))):=λU=>by
 refine e63.r (by simp[c63]) ?_;have hs:=aa.refl U;have h1:=fK b.atoms;have h2:=fM b.M';have Zh:=hb.len;have hfl:=hb.Zi;have r1:WR .i64 ((b.atoms.length:Int)+b.M'.length):=ai;refine ab.mix 3 ?_;apply sR;simp only[go_sem,seval,c63,dJ,o5];refine ad λi1 Z1 s1 a1 f1=>?_;replace hs:=hs.trans s1;simp only[go_sem,seval,a1,dJ,h1,h2,r1];exact ak.pure hs rfl
def I2(n:Int):aK prog 182 [vI n] (.bool (decide (nB n))):=λU=>by
 refine UY.r (by simp[Km]) ?_;generalize hX:decide (nB n)=X;refine ab.mix 3 ?_;by_cases h1:n< -1152921504606846976
 .have q:(n< -1152921504606846976)=True:=WE h1;apply sR;simp only[go_sem,seval,Km,q];exact ak.same (by rw[<-hX,XJ (.inl h1)])
 .have q:(n< -1152921504606846976)=False:=O' h1;by_cases h2:n>1152921504606846976
  .have q2:(n>1152921504606846976)=True:=WE h2;apply sR;simp only[go_sem,seval,Km,q,q2];exact ak.same (by rw[<-hX,XJ (.inr h2)])
  .have q2:(n>1152921504606846976)=False:=O' h2;apply sR;simp only[go_sem,seval,Km,q,q2];exact ak.same (by rw[<-hX,Xr λh=>h.elim h1 h2])
def F9(b:Bk)(f:T')(s:Xp):aK prog 123 [pH b,aJ f,aU s] (.bool (iC b f s)):=λU=>by
 refine U2.r (by simp[P6]) ?_;have hs:=aa.refl U;have h1:=fK b.atoms;have ZA:∀f:T',(aJ f).cells=[vI f.node,vI f.side,vI f.anchor,vI f.x,vI f.y,vI f.w,vI f.h]:=λ_=>rfl;have Yu:∀f:T',(aJ f).stays=true:=λ_=>rfl;generalize hX:iC b f s=X;unfold iC at hX;refine ab.mix 7 ?_;apply sR;simp only[go_sem,seval,P6,dJ,o5];refine ad λi3 Z3 s3 a3 f3=>?_;have z3:=hs.none f3;replace hs:=hs.trans s3;simp only[go_sem,seval,ZA,Yu];refine ad λi4 Z4 s4 a4 f4=>?_;have n34:=al a3 f4;replace a3:=s4 _ _ a3;have z4:=hs.none f4;replace hs:=hs.trans s4;simp only[go_sem,seval,bR,nS];refine ad λi5 Z5 s5 a5 f5=>?_;have n35:=al a3 f5;replace a3:=s5 _ _ a3;have n45:=al a4 f5;replace a4:=s5 _ _ a4;have z5:=hs.none f5;replace hs:=hs.trans s5;by_cases e0:(b.atoms.length:Int)=0
 .have q0:((b.atoms.length:Int)=0)=True:=WE e0;rw[aq e0]at hX;simp only[go_sem,seval,a3,a5,q0,h1,dJ,bR];exact ak.pure hs (by rw[<-hX])
 .have q0:((b.atoms.length:Int)=0)=False:=O' e0;rw[ao e0]at hX;by_cases e1:f.anchor<s.atom
  .have q1:(f.anchor<s.atom)=True:=WE e1;simp only[go_sem,seval,a3,a4,a5,q0,q1,h1,ZA,dJ,bR];exact ak.pure hs (by rw[<-hX,XJ (.inl e1)])
  .have q1:(f.anchor<s.atom)=False:=O' e1;by_cases e2:f.anchor=s.atom
   .have q2:(f.anchor=s.atom)=True:=WE e2;by_cases e3:s.done>0
    .have q3:(s.done>0)=True:=WE e3;simp only[go_sem,seval,a3,a4,a5,q0,q1,q2,q3,h1,ZA,dJ,bR];exact ak.pure hs (by rw[<-hX,XJ (.inr ⟨e2,e3⟩)])
    .have q3:(s.done>0)=False:=O' e3;simp only[go_sem,seval,a3,a4,a5,q0,q1,q2,q3,h1,ZA,dJ,bR];exact ak.pure hs (by rw[<-hX,Xr λh=>h.elim e1 λg=>e3 g.2])
   .have q2:(f.anchor=s.atom)=False:=O' e2;simp only[go_sem,seval,a3,a4,a5,q0,q1,q2,h1,ZA,dJ,bR];exact ak.pure hs (by rw[<-hX,Xr λh=>h.elim e1 λg=>e2 g.1])
def Mw(b:Bk)(XU:b.L'.length<=1000000)(p:Xd)(s:Xp)(h0:0<=s.atom)(h1:s.atom<b.L'.length)(no:Int)(Xa:0<=no):aK prog 65 [pH b,aL p,aU s,vI no] (.bool (decide (fv b p s no))):=λU=>by
 refine e65.r (by simp[c65]) ?_;have hs:=aa.refl U;obtain⟨k,hk⟩:∃k:Nat,s.atom=k:=⟨s.atom.toNat,by omega⟩
 have Yn:k<b.L'.length:=by omega
 have U':=λU=>qI (U:=U) Yn;have hg:Yt b.L' s.atom.toNat=b.L'[k]:=by rw[hk];simp[Yt,Yn]
 have hb3:∀x:YJ,(dt x).cells=[vI x.cls,vI x.forced,vI x.XD]:=λ_=>rfl;have htm:no.tmod 2=no%2:=Int.tmod_eq_emod_of_nonneg Xa;have XP:∀p:Xd,(aL p).cells=[vI p.no,vI p.kind,aE p.hs,aE p.fs,aE p.ls]:=λ_=>rfl;have ZP:∀p:Xd,(aL p).stays=true:=λ_=>rfl;have hD:decide (fv b p s no)=decide (p.kind=1/\¬s.done>0/\(b.L'[k].forced=3/\no%2=1\/b.L'[k].forced=4/\no%2=0)):=decide_eq_decide.2 (by unfold fv;rw[hg]);rw[hD];clear hD hg;generalize hX:decide (p.kind=1/\¬s.done>0/\(b.L'[k].forced=3/\no%2=1\/b.L'[k].forced=4/\no%2=0))=X;generalize b.L'[k]=x at*;refine ab.mix 10 ?_;apply sR;simp only[go_sem,seval,c65,dJ,o5];refine ad λi4 Z4 s4 a4 f4=>?_;replace hs:=hs.trans s4;simp only[go_sem,seval,XP,ZP];refine ad λi5 Z5 s5 a5 f5=>?_;replace a4:=s5 _ _ a4;replace hs:=hs.trans s5;simp only[go_sem,seval,bR,nS];refine ad λi6 Z6 s6 a6 f6=>?_;replace a4:=s6 _ _ a4;replace a5:=s6 _ _ a5;replace hs:=hs.trans s6;by_cases q1:p.kind=1
 .have q1':(p.kind≠1)=False:=O' (λh=>h q1);by_cases q2:s.done>0
  .have q2':(s.done>0)=True:=WE q2;simp only[go_sem,seval,a5,a6,q1',q2',XP,bR];exact ak.pure hs (by rw[<-hX,Xr λh=>h.2.1 q2])
  .have q2':(s.done>0)=False:=O' q2;by_cases q3:x.forced=3
   .have q3':(x.forced=3)=True:=WE q3;have q6:(x.forced=4)=False:=O';by_cases q4:no%2=1
    .have q4':(no.tmod 2=1)=True:=WE;simp only[go_sem,seval,a4,a5,a6,q1',q2',q3',q4',hk,U',hb3,XP,bR,dJ];exact ak.pure hs (by rw[<-hX,XJ ⟨q1,q2,.inl ⟨q3,q4⟩⟩])
    .have q4':(no.tmod 2=1)=False:=O';simp only[go_sem,seval,a4,a5,a6,q1',q2',q3',q4',q6,hk,U',hb3,XP,bR,dJ];exact ak.pure hs (by rw[<-hX,Xr];omega)
   .have q3':(x.forced=3)=False:=O' q3;by_cases q6:x.forced=4
    .have q6':(x.forced=4)=True:=WE q6;by_cases q4:no%2=0
     .have q4':(no.tmod 2=0)=True:=WE;simp only[go_sem,seval,a4,a5,a6,q1',q2',q3',q4',q6',hk,U',hb3,XP,bR,dJ];exact ak.pure hs (by rw[<-hX,XJ ⟨q1,q2,.inr ⟨q6,q4⟩⟩])
     .have q4':(no.tmod 2=0)=False:=O';simp only[go_sem,seval,a4,a5,a6,q1',q2',q3',q4',q6',hk,U',hb3,XP,bR,dJ];exact ak.pure hs (by rw[<-hX,Xr];omega)
    .have q6':(x.forced=4)=False:=O' q6;simp only[go_sem,seval,a4,a5,a6,q1',q2',q3',q6',hk,U',hb3,XP,bR,dJ];exact ak.pure hs (by rw[<-hX,Xr];omega)
 .have q1':(p.kind≠1)=True:=WE q1;simp only[go_sem,seval,a5,q1',XP];exact ak.pure hs (by rw[<-hX,Xr λh=>q1 h.1])
open Go.Proofs Go.Proofs.Tryz
def l4(b:Bk)(t:X6)(im:Nat):List V:=[.rp (bc b),aW b.atoms,aB b.M',vI b.WG,bh b.L',vI t.last.node,vI t.last.atom,vI t.last.fr,vI t.last.x,vI t.last.y,vI t.last.w,vI t.last.h,vI t.parts,vI t.B',.mp im]
def shF(t:X6)(n:Int):Option V:=if t.shown n=0 then none else some (vI (t.shown n))
structure eW(b:Bk)(t:X6)(K U:ag)(i im:Nat):Prop where
 row:U i=some ⟨153,15,[.agg (l4 b t im)]⟩
 mp:lT .i64 U im (shF t)
 ni:K i=none
 nm:K im=none
 sub:aa K U
def eW.ne{b:Bk}{t:X6}{K U:ag}{i im:Nat}(h:eW b t K U i im):i≠im:=h.mp.ne h.row (by decide)
def eW.mono{b:Bk}{t:X6}{K U J:ag}{i im:Nat}(h:eW b t K U i im)(hs:aa U J):eW b t K J i im:=⟨hs _ _ h.row,h.mp.sub hs,h.ni,h.nm,h.sub.trans hs⟩
def zi(fs:List Xs)(n:Int):(fs.filter λf=>decide (f.node=n)).length<=fs.length:=List.length_filter_le _ _
def ki(t:X6)(fs:List Xs):X6:={ t with shown:=λn=>t.shown n+(fs.filter λf=>decide (f.node=n)).length }
def Cj(t:X6)(fs:List Xs)(f:Xs):shF (ki t (fs++[f]))=λm=>if m=f.node then some (vI ((ki t fs).shown f.node+1:Nat))else shF (ki t fs) m:=by
 funext m;unfold shF ki;simp only[List.filter_append,iz];by_cases h:m=f.node
 .subst h;rw[aq rfl];simp;omega
 .rw[ao h];have:(List.filter (λg=>decide (g.node=m)) [f])=[]:=by
   rw[List.filter_cons];simp[Ne.symm h]
  rw[this];simp
def nH(t:X6)(p:Xd):X6:={ t with last:=p.fs.getLast?.getD t.last,parts:=t.parts+p.fs.length }
def ru(t:X6)(p:Xd):X6:={ nH t p with B':=t.B'+(if p.kind=2 then 1 else 0) }
def K5(t:X6)(p:Xd):ki (ru t p) p.ls=eX t p:=rfl
structure OP(b:Bk)(p:Xd)(K:ag)(i im:Nat)(u:X6)(st:St):Prop where
 pg:∃i3,st.U i3=some ⟨37,5,[aL p]⟩/\i3≠i/\i3≠im/\st.s 3=.ptr i3 0 0
 tj:eW b u K st.U i im
 s0:st.s 0=.ptr i 0 0
def eW.nem{b:Bk}{t:X6}{K U:ag}{i im j:Nat}(h:eW b t K U i im)(hf:U j=none):j≠im:=λe=>by
 obtain⟨es,ck,env,g1,-⟩:=h.mp;rw[e,g1]at hf;cases hf
def xz{b:Bk}{t u:X6}{K U:ag}{i im:Nat}(h:eW b t K U i im)(hu:u.shown=t.shown):eW b u K (C' U i ⟨153,15,[.agg (l4 b u im)]⟩) i im:=by
 obtain⟨es,clock,env,h1,h2⟩:=h.mp;refine⟨af,⟨es,clock,env,(ae (Ne.symm h.ne)).trans h1,?_⟩,h.ni,h.nm,h.sub.av h.ni⟩;have:shF u=shF t:=by unfold shF;rw[hu]
 rw[this];exact h2
def AH(b:Bk)(t:X6)(p:Xd)(hp:t.parts+p.fs.length<=1000000000000000000)(hf:t.B'<=1000000000000000000)(hn:∀n,t.shown n<=1000000000000000000)(hl:p.ls.length<=1000000000000000){K U:ag}{i im:Nat}(hJ:eW b t K U i im):
 ax prog 30 [.ptr i 0 0,aL p] U λr Z'=>r=.WJ []/\eW b (eX t p) K Z' i im:=by
 refine e30.r (by simp[c30]) ?_;have XP:∀p:Xd,(aL p).cells=[vI p.no,vI p.kind,aE p.hs,aE p.fs,aE p.ls]:=λ_=>rfl;have ZP:∀p:Xd,(aL p).stays=true:=λ_=>rfl;have hFc:∀l:List Xs,(aE l).cells=[aE l]:=λ_=>rfl;have hFs:∀l:List Xs,(aE l).stays=true:=λ_=>rfl;have ZA:∀f:Xs,(bl f).cells=[vI f.node,vI f.atom,vI f.fr,vI f.x,vI f.y,vI f.w,vI f.h]:=λ_=>rfl;have Yu:∀f:Xs,(bl f).stays=true:=λ_=>rfl;have ldR:∀(U:ag) (f:Xs),bF U true 7 (.rp (bl f))=some (bl f):=λ_ _=>rfl;have hmc:(V.mp im).cells=[.mp im]:=rfl;have hms:(V.mp im).stays=true:=rfl;have hlf:=jq p.fs;have hll:=jq p.ls;refine ab.mix 44 ?_;refine ab.seq (ab.cut (OP b p K i im t) ?_ ?_)
 .have hs:=aa.refl U;apply sR;simp only[go_sem,seval,c30,XP,ZP];refine ad λi3 Z3 s3 a3 f3=>?_;replace hs:=hs.trans s3;simp only[go_sem,seval];exact⟨⟨i3,a3,(al hJ.row f3).symm,hJ.nem f3,rfl⟩,hJ.mono s3,rfl⟩
 rintro⟨S,J⟩ ⟨⟨i3,a3,n3,n3m,t3⟩,hJ,t0⟩;simp only at a3 t3 hJ t0;refine ab.seq (ab.cut (OP b p K i im (nH t p)) ?_ ?_)
 .have h0:=hJ.row;unfold l4 at h0;refine ab.mix 44 ?_;by_cases hz:p.fs=[]
  .have q:((p.fs.length:Int)>0)=False:=O' (by rw[hz];decide);apply sR;simp only[go_sem,seval,t3,a3,XP,hlf,q];exact⟨⟨i3,a3,n3,n3m,t3⟩,by have e:nH t p=t:=(by unfold nH;rw[hz];rfl);rw[e];exact hJ,t0⟩
  .have H':=py.2 hz;have q:((p.fs.length:Int)>0)=True:=WE;have r1:WR .i64 ((p.fs.length:Int)-1):=ai;have r2:WR .i64 ((t.parts:Int)+p.fs.length):=ai;have hi:∀U,bp U 7 (aE p.fs) (.int .i64 ((p.fs.length:Int)-1))=some (.rp (bl p.fs[p.fs.length-1])):=λU=>by
    rw[show(p.fs.length:Int)-1=((p.fs.length-1:Nat):Int) by omega];exact u5 (by omega)
   have Zl:p.fs.getLast?.getD t.last=p.fs[p.fs.length-1]:=by rw[List.getLast?_eq_getElem?,ZF (by omega)];rfl
   have hJ2:=xz (u:=nH t p) hJ rfl;unfold l4 nH at hJ2;rw[Zl]at hJ2;unfold nH;rw[Zl];generalize p.fs[p.fs.length-1]=f at*;apply sR;simp only[go_sem,seval,t0,t3,a3,h0,XP,ZA,Yu,hlf,q,r1,r2,hi,ldR];exact⟨⟨i3,(ae n3).trans a3,n3,n3m,t3⟩,hJ2,t0⟩
 rintro⟨S,J⟩ ⟨⟨i3,a3,n3,n3m,t3⟩,hJ,t0⟩;simp only at a3 t3 hJ t0;refine ab.seq (ab.cut (OP b p K i im (ru t p)) ?_ ?_)
 .have h0:=hJ.row;unfold l4 nH at h0;refine ab.mix 44 ?_;by_cases hz:p.kind=2
  .have q:(p.kind=2)=True:=WE hz;have r1:WR .i64 ((t.B':Int)+1):=ai;have hJ2:=xz (u:=ru t p) hJ rfl;unfold l4 ru nH at hJ2;rw[aq hz]at hJ2;unfold ru nH;rw[aq hz];apply sR;simp only[go_sem,seval,t0,t3,a3,h0,XP,q,r1];exact⟨⟨i3,(ae n3).trans a3,n3,n3m,t3⟩,hJ2,t0⟩
  .have q:(p.kind=2)=False:=O' hz;apply sR;simp only[go_sem,seval,t3,a3,XP,q];exact⟨⟨i3,a3,n3,n3m,t3⟩,by have e:ru t p=nH t p:=(by unfold ru;rw[ao hz];rfl);rw[e];exact hJ,t0⟩
 rintro⟨S,J⟩ ⟨⟨i3,a3,n3,n3m,t3⟩,hJ,t0⟩;simp only at a3 t3 hJ t0;refine ab.mix 44 ?_;apply sR;simp only[go_sem,seval,t3,a3,XP,hll];rw[<-K5];have hus:(ru t p).shown=t.shown:=rfl;generalize ru t p=u at*;refine ab.loop (λm st=>∃j:Nat,j<=p.ls.length/\m=p.ls.length-j/\eW b (ki u (p.ls.take j)) K st.U i im/\st.s 0=.ptr i 0 0/\st.s 41=aE p.ls/\st.s 42=vI p.ls.length/\st.s 43=vI j) p.ls.length ?_ ?_
 .exact⟨0,by omega,rfl,by have e:ki u (p.ls.take 0)=u:=(by unfold ki;simp);rw[e];exact hJ,t0,rfl,rfl,rfl⟩
 .rintro m ⟨S,J⟩ ⟨j,hj,rfl,hJ,t0,t41,t42,t43⟩;simp only at hJ t0 t41 t42 t43;refine ab.mix 44 ?_;by_cases H':j<p.ls.length
  .have q1:((j:Int)<p.ls.length)=True:=WE;have hi:=λU=>u5 (U:=U) H';have XB:=ZS H';generalize p.ls[j]=f at*;have hs:=aa.refl J
   (refine ab.bt Yp.nothing 16 ?_;simp only[go_sem,seval,t41,t42,t43,q1,hi,ldR])
   refine ad λi6 Z6 s6 a6 f6=>?_;have z6:=hs.none f6;replace hs:=hs.trans s6;simp only[go_sem,seval,a6,ZA,Yu,jF];generalize ZX:C' _ i6 _=Y6;replace a6:=(congrFun ZX i6).symm.trans af;replace hs:=Eq.subst (motive:=aa _) ZX (hs.av z6);clear ZX;have hJ6:=hJ.mono hs;have h0:=hJ6.row;unfold l4 at h0;generalize hT:ki u (p.ls.take j)=T at*;have hN:T.shown f.node<=2000000000000000000:=by
    have h1:=hn f.node;have h2:=zi (p.ls.take j) f.node;rw[gO]at h2;rw[<-hT];unfold ki;rw[hus];simp only;omega
   have hg:(shF T f.node).getD (V.int .i64 0)=vI (T.shown f.node):=by
    unfold shF;split
    .rename_i h;rw[h];rfl
    .rfl
   have r1:WR .i64 ((T.shown f.node:Int)+1):=ai;refine ab.QS [6,8] rfl (XC.go 6 ?_);apply sG;simp only[go_sem,seval,a6,t0,h0,ZA,px,List.take_zero];refine XC.tB (by decide) rfl rfl rfl hJ6.mp rfl ?_;refine XC.go 1 ?_;apply sG;simp only[go_sem,seval,hg,r1];refine XC.Hp (by decide) rfl rfl rfl hJ6.mp rfl rfl λob Xz hm=>XC.nil ?_;apply sR;simp only[go_sem,seval,t43,t0,t41,t42];have hnew:eW b (ki u (p.ls.take (j+1))) K (C' Y6 im ob) i im:=by
    rw[XB];subst hT;refine⟨(ae hJ6.ne).trans hJ6.row,?_,hJ6.ni,hJ6.nm,hJ6.sub.av hJ6.nm⟩;rw[Cj];exact hm
   exact⟨ai,_,by omega,j+1,by omega,rfl,hnew,by simp[vI]⟩
  .have q1:((j:Int)<p.ls.length)=False:=O';apply sR;simp only[go_sem,seval,t42,t43,q1];rw[lg (by omega)]at hJ;rw[show c30.res=[]from rfl,xg];exact⟨_,_,aa.refl _,Wk.refl (aa.refl _) _,rfl,hJ⟩
open Go.Proofs Go.Proofs.Tryz
def kO(b:Bk)(t:X6):Xp:=
 if t.parts=0 then⟨0,0,decide ((b.atoms.length:Int)>0\/t.B'=0)⟩
 else if t.last.atom<0\/t.last.atom>=b.atoms.length\/nB t.last.fr\/nB t.last.h then⟨0,0,false⟩
 else if t.last.fr+t.last.h<(XV b.atoms t.last.atom).h then⟨t.last.atom,t.last.fr+t.last.h,false⟩
 else⟨t.last.atom+1,0,decide (t.last.atom+1<b.atoms.length/\(Yt b.L' (t.last.atom+1).toNat).forced≠0)⟩
def BN{b:Bk}{t:X6}{s:Xp}(h:gZ b t=some s):kO b t=s:=by
 unfold gZ at h;unfold kO;split at h
 .rename_i h1;rw[aq h1];exact Option.some.inj h
 .rename_i h1;rw[ao h1];split at h
  .cases h
  .rename_i h2;rw[ao h2];split at h
   .rename_i h3;rw[aq h3];split at h
    .exact Option.some.inj h
    .cases h
   .rename_i h3;rw[ao h3];exact Option.some.inj h
def ga(b:Bk)(t:X6):Bool:=
 if t.parts=0 then true
 else if t.last.atom<0\/t.last.atom>=b.atoms.length\/nB t.last.fr\/nB t.last.h then false
 else if t.last.fr+t.last.h<(XV b.atoms t.last.atom).h then decide (t.last.fr+t.last.h>0)
 else true
def yA(b:Bk)(t:X6):ga b t=(gZ b t).isSome:=by
 unfold ga gZ;split
 .rfl
 .split
  .rfl
  .split
   .split
    .rename_i h;rw[XJ h];rfl
    .rename_i h;rw[Xr h];rfl
   .rfl
def Jr(b:Bk)(hb:BkOk b)(t:X6){K U:ag}{i im:Nat}(hJ:eW b t K U i im):
 ax prog 121 [.ptr i 0 0] U λr Z'=>r=.WJ [aU (kO b t),.bool (ga b t)]/\Z'=U:=by
 refine Wp.r (by simp[Pk]) ?_;have hs:=aa.refl U;have h0:=hJ.row;unfold l4 at h0;have Zh:=hb.len;have XU:=hb.brk;have Zl:=fK b.atoms;have hmc:(V.mp im).cells=[.mp im]:=rfl;have hms:(V.mp im).stays=true:=rfl;have ZA:∀f:Xs,(bl f).cells=[vI f.node,vI f.atom,vI f.fr,vI f.x,vI f.y,vI f.w,vI f.h]:=λ_=>rfl;have Yu:∀f:Xs,(bl f).stays=true:=λ_=>rfl;refine ab.mix 9 ?_;apply sR;simp only[go_sem,seval,Pk];refine ad λi2 Z2 s2 a2 f2=>?_;have z2:=hs.none f2;replace hs:=hs.trans s2;replace h0:=s2 _ _ h0;by_cases hz:t.parts=0
 .have q1:((t.parts:Int)=0)=True:=WE;have eV:kO b t=⟨0,0,decide ((b.atoms.length:Int)>0\/t.B'=0)⟩:=by unfold kO;rw[aq hz]
  have eB:ga b t=true:=by unfold ga;rw[aq hz]
  rw[eV,eB];by_cases hn:(b.atoms.length:Int)>0
  .have q2:((b.atoms.length:Int)>0)=True:=WE hn;rw[XJ (.inl hn)];simp only[go_sem,seval,h0,a2,q1,q2,Zl];exact ak.pure (hs.av z2) rfl
  .have q2:((b.atoms.length:Int)>0)=False:=O' hn;by_cases hf:t.B'=0
   .have q3:((t.B':Int)=0)=True:=WE;rw[XJ (.inr hf)];simp only[go_sem,seval,h0,a2,q1,q2,q3,Zl];exact ak.pure (hs.av z2) rfl
   .have q3:((t.B':Int)=0)=False:=O';rw[Xr λh=>h.elim hn hf];simp only[go_sem,seval,h0,a2,q1,q2,q3,Zl];exact ak.pure (hs.av z2) rfl
 .have q1:((t.parts:Int)=0)=False:=O';have eV:kO b t=if t.last.atom<0\/t.last.atom>=b.atoms.length\/nB t.last.fr\/nB t.last.h then⟨0,0,false⟩
   else if t.last.fr+t.last.h<(XV b.atoms t.last.atom).h then⟨t.last.atom,t.last.fr+t.last.h,false⟩
   else⟨t.last.atom+1,0,decide (t.last.atom+1<b.atoms.length/\(Yt b.L' (t.last.atom+1).toNat).forced≠0)⟩:=by unfold kO;rw[ao hz]
  have eB:ga b t=if t.last.atom<0\/t.last.atom>=b.atoms.length\/nB t.last.fr\/nB t.last.h then false
   else if t.last.fr+t.last.h<(XV b.atoms t.last.atom).h then decide (t.last.fr+t.last.h>0)else true:=by unfold ga;rw[ao hz]
  have hag:V.agg [vI t.last.node,vI t.last.atom,vI t.last.fr,vI t.last.x,vI t.last.y,vI t.last.w,vI t.last.h]=bl t.last:=rfl;generalize kO b t=SV at*;generalize ga b t=SB at*;have c1:=I2 t.last.fr;have c2:=I2 t.last.h;by_cases p1:t.last.atom<0
  .have q2:(t.last.atom<0)=True:=WE p1;have q3:True:=trivial;rw[aq (.inl p1)]at eV eB;subst eV eB;simp only[go_sem,seval,h0,q1,Zl];refine ad λi5 Z5 s5 a5 f5=>?_;have n25:=al a2 f5;replace a2:=s5 _ _ a2;have z5:=hs.none f5;replace hs:=hs.trans s5;replace h0:=s5 _ _ h0;have n5:=al (s2 _ _ hJ.row) f5;simp only[go_sem,seval,a2,a5,hag,ZA,Yu,q2,ae n25];generalize X9:C' _ i5 _=Y5;replace a5:=(congrFun X9 i5).symm.trans af;replace a2:=((congrFun X9 i2).symm.trans (ae n25)).trans a2;replace h0:=((congrFun X9 i).symm.trans (ae n5)).trans h0;replace hs:=Eq.subst (motive:=aa _) X9 (hs.av z5);clear X9;exact ak.pure (hs.av z2) rfl
  have q2:(t.last.atom<0)=False:=O' p1;by_cases p2:t.last.atom>=b.atoms.length
  .have q3:(t.last.atom>=(b.atoms.length:Int))=True:=WE p2;rw[aq (.inr (.inl p2))]at eV eB;subst eV eB;simp only[go_sem,seval,h0,q1,Zl];refine ad λi5 Z5 s5 a5 f5=>?_;have n25:=al a2 f5;replace a2:=s5 _ _ a2;have z5:=hs.none f5;replace hs:=hs.trans s5;replace h0:=s5 _ _ h0;have n5:=al (s2 _ _ hJ.row) f5;simp only[go_sem,seval,a2,a5,hag,ZA,Yu,q2,q3,ae n25];generalize X9:C' _ i5 _=Y5;replace a5:=(congrFun X9 i5).symm.trans af;replace a2:=((congrFun X9 i2).symm.trans (ae n25)).trans a2;replace h0:=((congrFun X9 i).symm.trans (ae n5)).trans h0;replace hs:=Eq.subst (motive:=aa _) X9 (hs.av z5);clear X9;exact ak.pure (hs.av z2) rfl
  have q3:(t.last.atom>=(b.atoms.length:Int))=False:=O' p2;simp only[go_sem,seval,h0,q1,Zl];refine ad λi5 Z5 s5 a5 f5=>?_;have n25:=al a2 f5;replace a2:=s5 _ _ a2;have z5:=hs.none f5;replace hs:=hs.trans s5;replace h0:=s5 _ _ h0;have n5:=al (s2 _ _ hJ.row) f5;simp only[go_sem,seval,a5,hag,ZA,Yu,q2,q3];generalize X9:C' _ i5 _=Y5;replace a5:=(congrFun X9 i5).symm.trans af;replace a2:=((congrFun X9 i2).symm.trans (ae n25)).trans a2;replace h0:=((congrFun X9 i).symm.trans (ae n5)).trans h0;replace hs:=Eq.subst (motive:=aa _) X9 (hs.av z5);clear X9;refine ab.au rfl rfl rfl (c1 _) ?_;by_cases p3:nB t.last.fr
  .rw[XJ p3];rw[aq (.inr (.inr (.inl p3)))]at eV eB;subst eV eB;apply sR;simp only[go_sem,seval,a2];exact ak.pure (hs.av z2) rfl
  rw[Xr p3];apply sR;simp only[go_sem,seval,a5,ZA];refine ab.au rfl rfl rfl (c2 _) ?_;by_cases p4:nB t.last.h
  .rw[XJ p4];rw[aq (.inr (.inr (.inr p4)))]at eV eB;subst eV eB;apply sR;simp only[go_sem,seval,a2];exact ak.pure (hs.av z2) rfl
  rw[Xr p4];rw[ao λh=>h.elim p1 λh=>h.elim p2 λh=>h.elim p3 p4]at eV eB;unfold nB at p3 p4;obtain⟨k,hk⟩:∃k:Nat,t.last.atom=k:=⟨t.last.atom.toNat,by omega⟩
  have Yn:k<b.atoms.length:=by omega
  have U':=λU=>iP (U:=U) Yn;have hac:∀a:Xv,(cp a).cells=[vI a.kind,vI a.node,vI a.fr,vI a.to,vI a.x,vI a.y,vI a.w,vI a.h]:=λ_=>rfl;rw[hk,bg Yn]at eV eB;generalize b.atoms[k]=A at*;have r1:WR .i64 (t.last.fr+t.last.h):=ai;have r2:WR .i64 ((k:Int)+1):=ai;by_cases p5:t.last.fr+t.last.h<A.h
  .have q5:(t.last.fr+t.last.h<A.h)=True:=WE p5;rw[aq p5]at eV eB;subst eV eB;by_cases p6:t.last.fr+t.last.h>0
   .have q6:(t.last.fr+t.last.h>0)=True:=WE p6;rw[XJ p6];apply sR;simp only[go_sem,seval,h0,a2,a5,ZA,hk,U',hac,r1,q5,q6];exact ak.pure (hs.av z2) (by rw[<-hk];rfl)
   .have q6:(t.last.fr+t.last.h>0)=False:=O' p6;rw[Xr p6];apply sR;simp only[go_sem,seval,h0,a2,a5,ZA,hk,U',hac,r1,q5,q6];exact ak.pure (hs.av z2) (by rw[<-hk];rfl)
  .have q5:(t.last.fr+t.last.h<A.h)=False:=O' p5;rw[ao p5]at eV eB;subst eV eB;by_cases p6:(k:Int)+1<b.atoms.length
   .have q6:((k:Int)+1<(b.atoms.length:Int))=True:=WE p6;have hkb:k+1<b.L'.length:=by omega
    have hidb:∀U,bp U 3 (bh b.L') (.int .i64 ((k:Int)+1))=some (.rp (dt b.L'[k+1])):=λU=>by
     rw[show(k:Int)+1=((k+1:Nat):Int) by omega];exact qI hkb
    have hbG:Yt b.L' ((k:Int)+1).toNat=b.L'[k+1]:=by
     rw[show((k:Int)+1).toNat=k+1 by omega];simp[Yt,hkb]
    have hb3:∀x:YJ,(dt x).cells=[vI x.cls,vI x.forced,vI x.XD]:=λ_=>rfl;have hdd:decide ((k:Int)+1<b.atoms.length/\(Yt b.L' ((k:Int)+1).toNat).forced≠0)=decide (b.L'[k+1].forced≠0):=decide_eq_decide.2 (by rw[hbG];simp[p6]);rw[hdd];clear hdd hbG;generalize b.L'[k+1]=x at*;by_cases p7:x.forced=0
    .have q7:(x.forced≠0)=False:=O' λh=>h p7;rw[Xr λh=>h p7];apply sR;simp only[go_sem,seval,h0,a2,a5,ZA,hk,U',hac,r1,r2,q5,q6,q7,hidb,hb3];exact ak.pure (hs.av z2) rfl
    .have q7:(x.forced≠0)=True:=WE p7;rw[XJ p7];apply sR;simp only[go_sem,seval,h0,a2,a5,ZA,hk,U',hac,r1,r2,q5,q6,q7,hidb,hb3];exact ak.pure (hs.av z2) rfl
   .have q6:((k:Int)+1<(b.atoms.length:Int))=False:=O' p6;rw[Xr λh=>p6 h.1];apply sR;simp only[go_sem,seval,h0,a2,a5,ZA,hk,U',hac,r1,r2,q5,q6];exact ak.pure (hs.av z2) rfl
open Go.Proofs Go.Proofs.Tryz
def xB:∀(l:List Xd) (t:X6),(∀p∈l,p.fs.length<=1000000/\p.ls.length<=2000000)->(l.foldl eX t).parts<=t.parts+l.length*1000000/\(l.foldl eX t).B'<=t.B'+l.length/\∀n,(l.foldl eX t).shown n<=t.shown n+l.length*2000000
 |[],t,_=>by simp
 |p::l,t,h=>by
  obtain⟨h1,h2,h3⟩:=xB l (eX t p) λq hq=>h q (by simp[hq]);obtain⟨g1,g2⟩:=h p (by simp);rw[jm];have e1:(eX t p).parts=t.parts+p.fs.length:=rfl;have e2:(eX t p).B'<=t.B'+1:=by show t.B'+(if p.kind=2 then 1 else 0)<=_;split<;>omega
  refine⟨?_,?_,λn=>?_⟩
  .simp only[XX];omega
  .simp only[XX];omega
  .have e3:(eX t p).shown n=t.shown n+(p.ls.filter λf=>decide (f.node=n)).length:=rfl;have:=h3 n;have:=zi p.ls n;simp only[XX];omega
def qx{P:List Xd}(hP:∀p∈P,p.fs.length<=1000000/\p.ls.length<=2000000)(k:Nat):(cd .nil P k).parts<=P.length*1000000/\(cd .nil P k).B'<=P.length/\∀n,(cd .nil P k).shown n<=P.length*2000000:=by
 obtain⟨h1,h2,h3⟩:=xB (P.take k) .nil λp hp=>hP p (qp hp);have hl:(P.take k).length<=P.length:=by rw[gO];omega
 have e:cd .nil P k=(P.take k).foldl eX .nil:=rfl;have z1:X6.nil.parts=0:=rfl;have z2:X6.nil.B'=0:=rfl;have z3:∀n,X6.nil.shown n=0:=λ_=>rfl;rw[<-e]at h1 h2 h3;exact⟨by omega,by omega,λn=>by have:=h3 n;rw[z3]at this;omega⟩
def eW.C'{b:Bk}{t:X6}{K U:ag}{i im j:Nat}{o:Ob}(h:eW b t K U i im)(hi:j≠i)(hm:j≠im)(hK:aa K (C' U j o)):eW b t K (Vc.C' U j o) i im:=by
 obtain⟨es,ck,env,g1,g2⟩:=h.mp;exact⟨(ae (Ne.symm hi)).trans h.row,⟨es,ck,env,(ae (Ne.symm hm)).trans g1,g2⟩,h.ni,h.nm,hK⟩
def EF(b:Bk)(vp:V)(P:List Xd)(hlP:cP false vp=some (.int .i64 P.length))(hiP:∀(U:ag) (i:Nat) (h:i<P.length),bp U 5 vp (.int .i64 i)=some (.rp (aL P[i])))
 (hP:∀p∈P,p.fs.length<=1000000/\p.ls.length<=2000000)(hPl:P.length<=10000000000)(U:ag):
 ax prog 27 [pH b,vp] U λr Z'=>∃i im,r=.ptr i 0 0/\eW b (cd .nil P P.length) U Z' i im:=by
 refine e27.r (by simp[c27]) ?_;have hs:=aa.refl U;have XP:∀p:Xd,(aL p).cells=[vI p.no,vI p.kind,aE p.hs,aE p.fs,aE p.ls]:=λ_=>rfl;have ZP:∀p:Xd,(aL p).stays=true:=λ_=>rfl;have hFc:∀l:List Xs,(aE l).cells=[aE l]:=λ_=>rfl;have hFs:∀l:List Xs,(aE l).stays=true:=λ_=>rfl;have ldP:∀(U:ag) (p:Xd),bF U true 5 (.rp (aL p))=some (aL p):=λ_ _=>rfl;refine ab.mix 9 ?_;apply sR;simp only[go_sem,seval,c27,dJ,o5];refine ad λi2 Z2 s2 a2 f2=>?_;replace hs:=hs.trans s2;simp only[go_sem,seval,a2,dJ];refine ab.mkMap rfl rfl λim fm=>?_;have hmc:(V.mp im).cells=[.mp im]:=rfl;have hms:(V.mp im).stays=true:=rfl;have n2m:i2≠im:=al a2 fm;have zm:=hs.none fm;have hm0:lT .i64 (C' Z2 im (gh (.map #[] 0) [])) im (shF .nil):=⟨#[],0,[],af,⟨rfl,by simp,λm=>rfl,by simp⟩⟩
 replace a2:=(ae (o:=gh (.map #[] 0) []) n2m).trans a2;replace hs:=hs.av (o:=gh (.map #[] 0) []) zm;generalize C' Z2 im (gh (.map #[] 0) [])=J at*;apply sR;simp only[go_sem,seval,hmc,hms];refine ad λYm Z11 s11 Zk f11=>?_;have z11:=hs.none f11;replace hs:=hs.trans s11;have hJ0:eW b .nil U Z11 Ym im:=⟨by rw[Zk];rfl,hm0.sub s11,z11,zm,hs⟩
 simp only[go_sem,seval,hlP];have htb:=qx hP;generalize Z11=X' at*;clear hs Zk a2 hm0;refine ab.loop (λm st=>∃j:Nat,j<=P.length/\m=P.length-j/\eW b (cd .nil P j) U st.U Ym im/\st.s 5=.ptr Ym 0 0/\st.s 12=vp/\st.s 13=vI P.length/\st.s 14=vI j) P.length ?_ ?_
 .exact⟨0,by omega,rfl,hJ0,rfl,rfl,rfl,rfl⟩
 .rintro m ⟨S,ω⟩ ⟨j,hj,rfl,hJ,t5,t12,t13,t14⟩;simp only at hJ t5 t12 t13 t14;refine ab.mix 9 ?_;by_cases H':j<P.length
  .have q1:((j:Int)<P.length)=True:=WE;have hi:=λU=>hiP U j H';have hts:cd .nil P (j+1)=eX (cd .nil P j) P[j]:=sd (ZF H');obtain⟨b1,b2⟩:=hP _ (XI H');obtain⟨b3,b4,b5⟩:=htb j;generalize P[j]=p at*;have hs:=aa.refl ω;apply sR;simp only[go_sem,seval,t12,t13,t14,q1,hi,ldP];refine ad λi7 Z7 s7 a7 f7=>?_;have z7:=hs.none f7;replace hs:=hs.trans s7;simp only[go_sem,seval,a7,t5,XP,ZP];generalize YD:C' _ i7 _=Y7;replace a7:=(congrFun YD i7).symm.trans af;replace hs:=Eq.subst (motive:=aa _) YD (hs.av z7);clear YD;have hJ7:=hJ.mono hs;apply sR;simp only[go_sem,seval];refine ab.call rfl rfl rfl (AH b _ p (by omega) (by omega) (λn=>by have:=b5 n;omega) (by omega) hJ7) ?_;rintro r Z' ⟨rfl,YL⟩;have r1:WR .i64 ((j:Int)+1):=ai;apply sR;simp only[go_sem,seval,t14,t5,t12,t13,r1];exact⟨_,by omega,j+1,by omega,rfl,by rw[hts];exact YL,by simp⟩
  .have q1:((j:Int)<P.length)=False:=O';have Yq:j=P.length:=by omega
   subst Yq;apply sR;simp only[go_sem,seval,t13,t14,t5,q1];exact⟨_,_,aa.refl _,Wk.refl (aa.refl _) _,Ym,im,rfl,hJ⟩
open Go.Proofs Go.Proofs.Tryz
def FJ(b:Bk)(t:X6)(s:Xp)(f:T'):Bool:=iC b f s&&decide (t.shown f.node=0)
def JI(b:Bk)(t:X6)(s:Xp)(f:T'){K U:ag}{i im i1 i4:Nat}(hJ:eW b t K U i im)(a1:U i1=some ⟨86,1,[.ptr i 0 0]⟩)(a4:U i4=some ⟨42,3,[aU s]⟩):
 ax prog 122 [aJ f,.ptr i1 0 0,.ptr i4 0 0] U λr Z'=>r=.bool (FJ b t s f)/\Z'=U:=by
 refine Uf.r (by simp[NQ]) ?_;have hs:=aa.refl U;have ZA:∀f:T',(aJ f).cells=[vI f.node,vI f.side,vI f.anchor,vI f.x,vI f.y,vI f.w,vI f.h]:=λ_=>rfl;have Yu:∀f:T',(aJ f).stays=true:=λ_=>rfl;have hfa:∀f:T',V.agg [vI f.node,vI f.side,vI f.anchor,vI f.x,vI f.y,vI f.w,vI f.h]=aJ f:=λ_=>rfl;have hmc:(V.mp im).cells=[.mp im]:=rfl;have hms:(V.mp im).stays=true:=rfl;have XZ:=F9 b f s;refine ab.mix 5 ?_
 (refine ab.bt Yp.nothing 6 ?_;simp only[go_sem,seval,NQ,ZA,Yu])
 refine ad λi3 Z3 s3 a3 f3=>?_;replace hs:=hs.trans s3;simp only[go_sem,seval,jF];have hJ3:=hJ.mono s3;have h0:=hJ3.row;unfold l4 at h0;replace a1:=s3 _ _ a1;replace a4:=s3 _ _ a4;have hg:(shF t f.node).getD (V.int .i64 0)=vI (t.shown f.node):=by
  unfold shF;split
  .rename_i h;rw[h];rfl
  .rfl
 unfold FJ;refine ab.QS [14] rfl (XC.go 14 ?_);apply sG;simp only[go_sem,seval,h0,a1,a3,a4,ZA,bR,px,List.take_zero];rw[<-pH,<-aU,hfa];refine Go.bw rfl rfl rfl XZ ?_;cases hc:iC b f s
 .apply sG;simp only[go_sem,seval];refine XC.skip rfl (XC.go 3 ?_);apply sG;simp only[go_sem,seval,px,List.take_zero];refine XC.nil ?_;apply sR;simp only[go_sem,seval];exact ak.pure hs rfl
 .apply sG;simp only[go_sem,seval,h0,a1,a3,ZA];refine XC.tB (by decide) rfl rfl rfl hJ3.mp rfl (XC.go 3 ?_);by_cases hz:t.shown f.node=0
  .have q:((t.shown f.node:Int)=0)=True:=WE;rw[XJ hz];apply sG;simp only[go_sem,seval,hg,q,px,List.take_zero];refine XC.nil ?_;apply sR;simp only[go_sem,seval];exact ak.pure hs rfl
  .have q:((t.shown f.node:Int)=0)=False:=O';rw[Xr hz];apply sG;simp only[go_sem,seval,hg,q,px,List.take_zero];refine XC.nil ?_;apply sR;simp only[go_sem,seval];exact ak.pure hs rfl
open Go.Proofs Go.Proofs.Tryz
def mO(b:Bk)(t:X6):XE:=if ga b t=true then⟨kO b t,b.M'.filter (FJ b t (kO b t))⟩else⟨⟨0,0,false⟩,[]⟩
def tr{b:Bk}{t:X6}{s:XE}(h:stateT b t=some s):mO b t=s/\ga b t=true:=by
 unfold stateT at h;cases hs:gZ b t with
 |none=>rw[hs]at h;cases h
 |some s0=>
  rw[hs]at h;have hB:ga b t=true:=by rw[yA,hs];rfl
  refine⟨?_,hB⟩;unfold mO;rw[aq hB,BN hs];exact Option.some.inj h
def CD{b:Bk}{t:X6}(h:stateT b t=none):ga b t=false:=by
 unfold stateT at h;cases hs:gZ b t with
 |none=>rw[yA,hs];rfl
 |some s0=>rw[hs]at h;cases h
def BO(b:Bk)(hb:BkOk b)(t:X6){K U:ag}{i im:Nat}(hJ:eW b t K U i im):
 ax prog 64 [.ptr i 0 0] U λr Z'=>r=.WJ [bC (mO b t),.bool (ga b t)]/\Z'=U:=by
 refine e64.r (by simp[c64]) ?_;have hs:=aa.refl U;have hfl:=hb.Zi;have hln:=fM b.M';have ZA:∀f:T',(aJ f).cells=[vI f.node,vI f.side,vI f.anchor,vI f.x,vI f.y,vI f.w,vI f.h]:=λ_=>rfl;have Yu:∀f:T',(aJ f).stays=true:=λ_=>rfl;have hfa:∀f:T',V.agg [vI f.node,vI f.side,vI f.anchor,vI f.x,vI f.y,vI f.w,vI f.h]=aJ f:=λ_=>rfl;refine ab.mix 10 ?_;apply sR;simp only[go_sem,seval,c64];refine ad λi1 Z1 s1 a1 f1=>?_;replace hs:=hs.trans s1;simp only[go_sem,seval];refine ad λi2 Z2 s2 a2 f2=>?_;replace a1:=s2 _ _ a1;have z2:=hs.none f2;replace hs:=hs.trans s2;have hJ2:=hJ.mono hs;simp only[go_sem,seval,a1];refine ab.au rfl rfl rfl (Jr b hb t hJ2) ?_;unfold mO;generalize kO b t=s at*;apply sR;simp only[go_sem,seval];refine ad λi4 Z4 s4 a4 f4=>?_;have n14:=al a1 f4;replace a1:=s4 _ _ a1;have n24:=al a2 f4;replace a2:=s4 _ _ a2;have z4:=hs.none f4;replace hs:=hs.trans s4;simp only[go_sem,seval,a4,bR,nS];generalize Ys:C' _ i4 _=Y4;replace a4:=(congrFun Ys i4).symm.trans af;replace a1:=((congrFun Ys i1).symm.trans (ae n14)).trans a1;replace a2:=((congrFun Ys i2).symm.trans (ae n24)).trans a2;replace hs:=Eq.subst (motive:=aa _) Ys (hs.av z4);clear Ys;have hJ4:=hJ.mono hs;cases hB:ga b t
 .simp only[go_sem,seval,a2];have WT:=hs.av (o:=⟨45,4,[.agg [vI 0,vI 0,.bool false,.ay]]⟩) z2;exact⟨_,U,WT,Wk.WJ (vs':=[bC ⟨⟨0,0,false⟩,[]⟩,.bool false]) ⟨Wk.agg (vs':=[vI 0,vI 0,.bool false,aB []]) ⟨Wk.refl WT _,Wk.refl WT _,Wk.refl WT _,Wk.ay 7,trivial⟩,Wk.refl WT _,trivial⟩,rfl,rfl⟩
 .have h0:=hJ4.row;unfold l4 at h0;have ha4:=a4;rw[aU]at ha4;simp only[go_sem,seval,a4,bR];have hs4:=hs;refine ad λi6 Z6 s6 a6 f6=>?_;simp only[go_sem,seval,a6];generalize ZX:C' Z6 i6 _=Y6;have sA:aa Y4 Y6:=by rw[<-ZX];exact s6.av f6
  replace a6:=(congrFun ZX i6).symm.trans af;clear ZX;have b1:=sA _ _ a1;simp only[go_sem,seval,b1,sA _ _ hJ4.row,l4,hln];generalize hW:FJ b t s=W;have XL:b.M'.filter W=(b.M'.take b.M'.length).filter W:=by rw[iR]
  refine ab.eG (λst=>∃v,aa Y4 st.U/\st.U i6=some ⟨45,4,[.agg [vI s.atom,vI s.done,.bool s.free,v]]⟩/\aM (aX Y4 i6) st.U 150 7 v ((b.M'.filter W).map aJ)/\st.s 2=.ptr i2 0 0/\st.s 6=.ptr i6 0 0)
   (λm st=>∃(j:Nat) (v:V),j<=b.M'.length/\m=b.M'.length-j/\aa Y4 st.U/\st.U i6=some ⟨45,4,[.agg [vI s.atom,vI s.done,.bool s.free,v]]⟩/\aM (aX Y4 i6) st.U 150 7 v (((b.M'.take j).filter W).map aJ)/\st.s 2=.ptr i2 0 0/\st.s 6=.ptr i6 0 0/\st.s 7=.fn 122 [.ptr i1 0 0,.ptr i4 0 0]/\st.s 26=aB b.M'/\st.s 27=vI b.M'.length/\st.s 28=vI j) b.M'.length ?_ ?_ ?_
  .exact⟨0,.ay,by omega,rfl,sA,a6,aM.start,rfl,rfl,rfl,rfl,rfl,rfl⟩
  .clear a6 b1 sA;rintro m ⟨S,ω⟩ ⟨j,v,hj,rfl,sA,a6,ho,t2,t6,t7,t26,t27,t28⟩;simp only at sA a6 ho t2 t6 t7 t26 t27 t28;refine ab.mix 10 ?_;by_cases H':j<b.M'.length
   .have q1:((j:Int)<b.M'.length)=True:=WE;have U':=λU=>j2 (U:=U) H';have XB:=ZS H';have r1:WR .i64 ((j:Int)+1):=ai;have hln2:((b.M'.take j).filter W).length<=1000000:=by
     have:=List.length_filter_le W (b.M'.take j);rw[gO]at this;omega
    generalize b.M'[j]=f at*;have hs:=aa.refl ω;obtain⟨hvc,hvs⟩:=ho.vc;apply sR;simp only[go_sem,seval,t26,t27,t28,q1,U'];refine ad λi9 Z9 s9 a9 f9=>?_;have n69:=al a6 f9;replace a6:=s9 _ _ a6;have z9:=hs.none f9;replace hs:=hs.trans s9;simp only[go_sem,seval,a9,t7,ZA];generalize XQ:C' _ i9 _=Y9;replace a9:=(congrFun XQ i9).symm.trans af;replace a6:=((congrFun XQ i6).symm.trans (ae n69)).trans a6;replace hs:=Eq.subst (motive:=aa _) XQ (hs.av z9);clear XQ;apply sR;simp only[go_sem,seval];rw[hfa];have hsA:=sA.trans hs;refine ab.au rfl rfl rfl (JI b t s f (hJ4.mono hsA) (hsA _ _ a1) (hsA _ _ a4)) ?_;rw[hW];have ho9:=ho.mono hs;cases hwf:W f
    .have htf:(b.M'.take (j+1)).filter W=(b.M'.take j).filter W:=by rw[XB,List.filter_append];simp[hwf]
     apply sR;simp only[go_sem,seval,t2,t6,t7,t26,t27,t28,r1];exact⟨_,by omega,j+1,v,by omega,rfl,hsA,a6,by rw[htf];exact ho9,by simp⟩
    .have htf:(b.M'.take (j+1)).filter W=(b.M'.take j).filter W++[f]:=by rw[XB,List.filter_append];simp[hwf]
     apply sR;simp only[go_sem,seval,t6,a6,a9];rw[hfa];refine ad λi38 Z38 s38 a38 f38=>?_;have ho38:=ho9.mono s38;obtain⟨WW,Yj,hgr⟩:=y6 (hsA.trans s38) f6 (s38 _ _ a6) ho38;have XW:(((b.M'.take j).filter W).map aJ).length+1<=1000001:=by rw[dd];omega
     generalize hrw:((b.M'.take j).filter W).map aJ=rows at*;have hb3:(rows.length+1)*57<=140737488355328:=by omega
     simp only[go_sem,seval,Yj,du a38,hb3];refine eF λi39 Z39 s39 a39 f39=>?_;obtain⟨c6,hg⟩:=hgr Z39 i39 _ s39 a39 f39;obtain⟨g1,g2,-⟩:=hg ⟨45,4,[.agg [vI s.atom,vI s.done,.bool s.free,.own i39 0 (rows.length+1)]]⟩;simp only[go_sem,seval,c6,t2,t6,t7,t26,t27,t28,r1];have hle:(rows++[aJ f]).length=rows.length+1:=by simp
     rw[hle]at g2;exact⟨_,by omega,j+1,.own i39 0 (rows.length+1),by omega,rfl,g1,rfl,by rw[htf,gB,hrw];exact g2,by simp⟩
   .have q1:((j:Int)<b.M'.length)=False:=O';have Yq:j=b.M'.length:=by omega
    rw[Yq,iR]at ho;apply sR;simp only[go_sem,seval,t2,t6,t27,t28,q1];exact⟨v,sA,a6,ho⟩
  .rintro⟨S,ω⟩ ⟨v,sA',a6',ho,t2,t6⟩;simp only at sA' a6' ho t2 t6;obtain⟨hvc,hvs⟩:=ho.vc;refine ab.mix 10 ?_;have b2:=sA' _ _ a2;apply sR;simp only[go_sem,seval,t2,t6,a6',b2];have WT:=(hs4.trans sA').av (o:=⟨45,4,[.agg [vI s.atom,vI s.done,.bool s.free,v]]⟩) z2;have n26:i2≠i6:=λe=>by rw[<-e]at f6;rw[f6]at a2;cases a2
   have ZO:aX Y4 i6 i2≠none:=by rw[aX,ao n26,a2];simp
   have hK:aa U (aX Y4 i6):=λj o hh=>by
    have h1:=hs4 _ _ hh;rw[aX,ao (λe=>by rw[e,f6]at h1;cases h1)];exact h1
   exact⟨_,U,WT,Wk.WJ (vs':=[bC ⟨s,b.M'.filter W⟩,.bool true]) ⟨Wk.agg (vs':=[vI s.atom,vI s.done,.bool s.free,aB (b.M'.filter W)]) ⟨Wk.refl WT _,Wk.refl WT _,Wk.refl WT _,(ho.ae ZO).wk hK WT,trivial⟩,Wk.refl WT _,trivial⟩,rfl,rfl⟩
open Go.Proofs Go.Proofs.Tryz
def G1{b:Bk}(hb:BkOk b){s:XE}(h:gr b s):s.bx.length<=1000000:=by
 have h1:=(rh _ 0 h.1).length_le;rw[wV]at h1;have:=hb.Zi;omega
def x6(b:Bk)(t:X6)(no:Int):Xd:=if(b.atoms.length:Int)+b.M'.length=0 then⟨no,3,[],[],[]⟩else(dH b t no).getD ⟨0,0,[],[],[]⟩
def yU{b:Bk}{t:X6}{no:Int}{p:Xd}(h:dH b t no=some p):x6 b t no=p:=by
 unfold x6;split
 .rename_i h0;unfold dH at h;rw[aq h0]at h;split at h
  .exact Option.some.inj h
  .cases h
 .rw[h];rfl
def oq{U J:ag}(hs:aa U J)(n k:Int)(x:Bool):ak (.WJ [.agg [vI n,vI k,.ay,.ay,.ay],.bool x]) J λr Z'=>r=.WJ [aL ⟨n,k,[],[],[]⟩,.bool x]/\Z'=U:=
 ⟨_,U,hs,Wk.WJ (vs':=[aL ⟨n,k,[],[],[]⟩,.bool x]) ⟨Wk.agg (vs':=[vI n,vI k,aE [],aE [],aE []]) ⟨Wk.refl hs _,Wk.refl hs _,Wk.ay 7,Wk.ay 7,Wk.ay 7,trivial⟩,Wk.refl hs _,trivial⟩,rfl,rfl⟩
def vS(b:Bk)(hb:bJ b)(t:X6)(no:Int)(Xa:0<=no){K U:ag}{i im:Nat}(hJ:eW b t K U i im):
 ax prog 28 [.ptr i 0 0,vI no] U λr Z'=>r=.WJ [aL (x6 b t no),.bool (dH b t no).isSome]/\Z'=U:=by
 refine e28.r (by simp[c28]) ?_;have hs:=aa.refl U;have hmc:(V.mp im).cells=[.mp im]:=rfl;have hms:(V.mp im).stays=true:=rfl;have XP:∀p:Xd,(aL p).cells=[vI p.no,vI p.kind,aE p.hs,aE p.fs,aE p.ls]:=λ_=>rfl;have ZP:∀p:Xd,(aL p).stays=true:=λ_=>rfl;have hFc:∀l:List Xs,(aE l).cells=[aE l]:=λ_=>rfl;have hFs:∀l:List Xs,(aE l).stays=true:=λ_=>rfl;have h0:=hJ.row;unfold l4 at h0;have XU:=hb.brk;have Zh:=hb.len;have hec:=IS b hb.toBkOk;refine ab.mix 11 ?_;apply sR;simp only[go_sem,seval,c28];refine ad λi4 Z4 s4 a4 f4=>?_;have z4:=hs.none f4;replace hs:=hs.trans s4;replace h0:=s4 _ _ h0;simp only[go_sem,seval,h0];rw[<-pH];refine ab.au rfl rfl rfl (hec _) ?_;by_cases he0:(b.atoms.length:Int)+b.M'.length=0
 .rw[XJ he0];have eP:x6 b t no=⟨no,3,[],[],[]⟩:=by unfold x6;rw[aq he0]
  rw[eP];by_cases h1:no=1
  .have q1:(no=1)=True:=WE h1;have eA:(dH b t no).isSome=true:=by unfold dH;rw[aq he0,aq h1];rfl
   rw[eA];apply sR;simp only[go_sem,seval,a4,q1];exact oq (hs.av z4) _ _ _
  .have q1:(no=1)=False:=O' h1;have eA:(dH b t no).isSome=false:=by unfold dH;rw[aq he0,ao h1];rfl
   rw[eA];apply sR;simp only[go_sem,seval,a4,q1];exact oq (hs.av z4) _ _ _
 rw[Xr he0];have hJ4:=hJ.mono hs;have eP:x6 b t no=(dH b t no).getD ⟨0,0,[],[],[]⟩:=by unfold x6;rw[ao he0]
 rw[eP];clear eP;have eA:dH b t no=match stateT b t with
  |none=>none
  |some s=>if cH b s then none else if fv b (aG b s).1 s.s no then some ⟨no,3,[],[],[]⟩else some { (aG b s).1 with no:=no }:=by
  unfold dH;rw[ao he0];rfl
 apply sR;simp only[go_sem,seval];refine ab.au rfl rfl rfl (BO b hb.toBkOk t hJ4) ?_;have hcase:stateT b t=none/\ga b t=false\/∃s,stateT b t=some s/\mO b t=s/\ga b t=true:=by
  cases h:stateT b t with
  |none=>exact .inl ⟨rfl,CD h⟩
  |some s=>exact .inr ⟨s,rfl,tr h⟩
 generalize mO b t=s at*;apply sR;simp only[go_sem,seval];refine ad λi6 Z6 s6 a6 f6=>?_;have n46:=al a4 f6;replace a4:=s6 _ _ a4;have z6:=hs.none f6;replace hs:=hs.trans s6;simp only[go_sem,seval,a6,bu,eZ];generalize ZX:C' _ i6 _=Y6;replace a6:=(congrFun ZX i6).symm.trans af;replace a4:=((congrFun ZX i4).symm.trans (ae n46)).trans a4;replace hs:=Eq.subst (motive:=aa _) ZX (hs.av z6);clear ZX;rcases hcase with⟨e1,e2⟩|⟨s',e1,rfl,e2⟩
 .rw[e1]at eA;simp only at eA;rw[e2,eA];simp only[go_sem,seval,a4];exact oq (hs.av z4) _ _ _
 rw[e1]at eA;simp only at eA;rw[e2];have hJ6:=hJ.mono hs;have h0:=hJ6.row;unfold l4 at h0;have hpl:s.bx.length<=1000000:=by
  unfold stateT at e1;cases WY:gZ b t with
  |none=>rw[WY]at e1;cases e1
  |some s0=>
   rw[WY]at e1;have:=Option.some.inj e1;rw[<-this];exact jx (List.length_filter_le _ _) hb.Zi
 simp only[go_sem,seval,h0,a6,bu];rw[<-bC];refine Go.bw rfl rfl rfl (vj b hb.toBkFull s hpl) ?_;by_cases ZQ:cH b s
 .rw[aq ZQ]at eA;rw[XJ ZQ,eA];apply sG;simp only[go_sem,seval,a4];exact oq (hs.av z4) _ _ _
 rw[ao ZQ]at eA;rw[Xr ZQ];have Xq:gr b s:=Decidable.byContradiction λh=>ZQ (.inl h);have Yb:0<=s.s.atom/\s.s.atom<b.L'.length:=by
  rcases Xq.2 with h|h
  .have:=h.1;omega
  .omega
 have hpg:=AX b hb.toBkFull hb.fh s hpl;rw[ao ZQ]at hpg;have hsd:=Mw b (by omega) (aG b s).1 s.s Yb.1 Yb.2 no Xa;generalize aG b s=X at*;obtain⟨p,nx⟩:=X;simp only at hpg hsd eA;have fin:∀(S:Nat->V) (J:ag) (i8:Nat) (G':aa Y6 J) (z8:Y6 i8=none) (a8:J i8=some ⟨37,5,[aL p]⟩) (t0:S 0=.ptr i 0 0) (t1:S 1=vI no) (t4:S 4=.ptr i4 0 0) (t6:S 6=.ptr i6 0 0) (t8:S 8=.ptr i8 0 0),
  ab prog 62 [It.code c28.code.rt.rt.rt.rt.rt] ⟨S,J⟩ λst=>Ret [.cell true 5 (.t 4),.tmp (.t 5)] st λr Z'=>r=.WJ [aL ((dH b t no).getD ⟨0,0,[],[],[]⟩),.bool (dH b t no).isSome]/\Z'=U:=by
  intro S J i8 G' z8 a8 t0 t1 t4 t6 t8;have b0:=G' _ _ h0;have b4:=G' _ _ a4;have b6:=G' _ _ a6;have n48:i4≠i8:=al a4 z8;have z8':=hs.none z8;have hsZ:=hs.trans G';refine ab.mix 11 ?_;apply sR;simp only[go_sem,seval,c28,bG.rt,t0,t1,t6,t8,b0,a8,b6,bu,XP];rw[<-pH,mI];refine ab.au rfl rfl rfl (hsd _) ?_;by_cases hsi:fv b p s.s no
  .rw[aq hsi]at eA;rw[XJ hsi,eA];apply sR;simp only[go_sem,seval,t1,t4,b4];exact oq (hsZ.av z4) _ _ _
  .rw[ao hsi]at eA;rw[Xr hsi,eA];apply sR;simp only[go_sem,seval,t1,t4,t8,b4,a8,XP,ae n48];exact ak.pure ((hsZ.av z8').av z4) rfl
 apply sG;simp only[go_sem,seval,cK];have a8:True:=trivial;have a9:True:=trivial;have hn:True:=trivial;have W9:=aa.refl Y6;refine ab.D3 (by kernel_rfl) 8 (.fork [[],[0],[1,0],[2,1,0],[3,2,1,0],[],[4,5,3,2,1,0],[6,4,5,3,2,1,0],[7,6,4,5,3,2,1,0],[7,6,4,5,3,2,1,0],[7,6,4,5,3,2,1,0],[],[],[11,8,6,0,1,2,3,4,5,7,12],[12,9,13,0,1,2,3,4,5,6,7,8,11],[10,14,0,1,2,3,4,5,6,7,8,9,11,12,13]] [0,1,2,3,4,5] [6,11,12] [(.fork [[],[0],[1,0],[2,1,0],[3,2,1,0],[],[4,5,3,2,1,0],[6,4,5,3,2,1,0],[7,6,4,5,3,2,1,0],[7,6,4,5,3,2,1,0],[7,6,4,5,3,2,1,0],[6,4,5,3,2,1,0],[6,4,5,3,2,1,0],[6,4,5,3,2,1,0,11,8,7,12],[6,4,5,3,2,1,0,12,9,13,7,8,11],[6,4,5,3,2,1,0,10,14,7,8,9,11,12,13]] [6,7,8,9,10] [11,12] [(.leaf [[],[0],[1,0],[2,1,0],[3,2,1,0],[],[4,5,3,2,1,0],[6,4,5,3,2,1,0],[7,6,4,5,3,2,1,0],[7,6,4,5,3,2,1,0],[7,6,4,5,3,2,1,0],[6,4,5,3,2,1,0],[11,6,4,5,3,2,1,0],[11,6,4,5,3,2,1,0,8,7,12],[11,6,4,5,3,2,1,0,12,9,13,7,8],[11,6,4,5,3,2,1,0,10,14,7,8,9,12,13]] [11,12,13,14,15]),(.leaf [[],[0],[1,0],[2,1,0],[3,2,1,0],[],[4,5,3,2,1,0],[6,4,5,3,2,1,0],[7,6,4,5,3,2,1,0],[7,6,4,5,3,2,1,0],[7,6,4,5,3,2,1,0],[12,6,4,5,3,2,1,0],[6,4,5,3,2,1,0],[12,6,4,5,3,2,1,0,11,8,7],[12,6,4,5,3,2,1,0,9,13,7,8,11],[12,6,4,5,3,2,1,0,10,14,7,8,9,11,13]] [12,11,13,14,15])]),(.fork [[],[0],[1,0],[2,1,0],[3,2,1,0],[],[11,4,5,3,2,1,0],[11,6,4,5,3,2,1,0],[11,7,6,4,5,3,2,1,0],[11,7,6,4,5,3,2,1,0],[11,7,6,4,5,3,2,1,0],[],[11],[11,8,6,0,1,2,3,4,5,7,12],[11,12,9,13,0,1,2,3,4,5,6,7,8],[11,10,14,0,1,2,3,4,5,6,7,8,9,12,13]] [11] [6,12] [(.leaf [[],[0],[1,0],[2,1,0],[3,2,1,0],[],[11,4,5,3,2,1,0],[11,6,4,5,3,2,1,0],[11,7,6,4,5,3,2,1,0],[11,7,6,4,5,3,2,1,0],[11,7,6,4,5,3,2,1,0],[],[6,11,4,5,3,2,1,0],[6,11,4,5,3,2,1,0,8,7,12],[6,11,4,5,3,2,1,0,12,9,13,7,8],[6,11,4,5,3,2,1,0,10,14,7,8,9,12,13]] [6,7,8,9,10,12,13,14,15]),(.leaf [[],[0],[1,0],[2,1,0],[3,2,1,0],[],[12,11,4,5,3,2,1,0],[12,11,6,4,5,3,2,1,0],[12,11,7,6,4,5,3,2,1,0],[12,11,7,6,4,5,3,2,1,0],[12,11,7,6,4,5,3,2,1,0],[],[11],[12,11,8,6,0,1,2,3,4,5,7],[12,11,9,13,0,1,2,3,4,5,6,7,8],[12,11,10,14,0,1,2,3,4,5,6,7,8,9,13]] [12,6,7,8,9,10,13,14,15])]),(.fork [[],[0],[1,0],[2,1,0],[3,2,1,0],[],[12,4,5,3,2,1,0],[12,6,4,5,3,2,1,0],[12,7,6,4,5,3,2,1,0],[12,7,6,4,5,3,2,1,0],[12,7,6,4,5,3,2,1,0],[12],[],[12,11,8,6,0,1,2,3,4,5,7],[12,9,13,0,1,2,3,4,5,6,7,8,11],[12,10,14,0,1,2,3,4,5,6,7,8,9,11,13]] [12] [6,11] [(.leaf [[],[0],[1,0],[2,1,0],[3,2,1,0],[],[12,4,5,3,2,1,0],[12,6,4,5,3,2,1,0],[12,7,6,4,5,3,2,1,0],[12,7,6,4,5,3,2,1,0],[12,7,6,4,5,3,2,1,0],[6,12,4,5,3,2,1,0],[],[6,12,4,5,3,2,1,0,11,8,7],[6,12,4,5,3,2,1,0,9,13,7,8,11],[6,12,4,5,3,2,1,0,10,14,7,8,9,11,13]] [6,7,8,9,10,11,13,14,15]),(.leaf [[],[0],[1,0],[2,1,0],[3,2,1,0],[],[11,12,4,5,3,2,1,0],[11,12,6,4,5,3,2,1,0],[11,12,7,6,4,5,3,2,1,0],[11,12,7,6,4,5,3,2,1,0],[11,12,7,6,4,5,3,2,1,0],[12],[],[11,12,8,6,0,1,2,3,4,5,7],[11,12,9,13,0,1,2,3,4,5,6,7,8],[11,12,10,14,0,1,2,3,4,5,6,7,8,9,13]] [11,6,7,8,9,10,13,14,15])])]) (by kernel_rfl) ?_;refine GT.Nz (its:=[0,2,4,6,8,10]) (by kernel_rfl) ?_;refine RE.XG (n:=0) [] [0,2,4,6,8,10] [⟨(.some 38),(.W1 (.t 0)),.none⟩,⟨(.some 39),(.nilCheck (.t 38)),.none⟩,⟨(.some 40),(.W7 .true 0 5 (.t 39)),.none⟩,⟨(.some 41),(.W7 .false 0 1 (.t 40)),.none⟩,⟨(.some 42),(.load .false 1 (.t 41)),.none⟩,⟨(.some 43),(.load .true 4 (.t 6)),.none⟩] rfl rfl ?_;apply sG;simp only[go_sem,seval,h0,a6,bu];refine⟨?_,?_,?_⟩
 .refine GT.ny (its:=[12,14,16,18,20]) (by kernel_rfl) ?_;rw[<-bC];refine RE.au rfl rfl rfl rfl rfl (hpg _) ?_;refine RE.XG (n:=0) [] [14,16,18,20] [⟨(.some 37),(.W1 (.t 44)),.none⟩,⟨(.some 45),(.ext 0 (.t 37)),.none⟩,⟨(.some 46),(.ext 1 (.t 37)),.none⟩,⟨(.some 47),(.ext 2 (.t 37)),.none⟩] rfl rfl ?_;apply sG;simp only[go_sem,seval];refine⟨?_,?_⟩
  .refine GT.gm (its:=[22,24,26,28,30]) (by kernel_rfl) ?_;refine RE.XG (n:=0) [] [22,24,26,28,30] [⟨(.some 8),(.alloc 37 5 (.agg [(.int .i64 0),(.int .i64 0),.ay,.ay,.ay])),.none⟩,⟨(.some 9),(.alloc 45 4 (.agg [(.int .i64 0),(.int .i64 0),(.bool .false),.ay])),.none⟩,⟨.none,(.store 5 (.t 8) (.t 45)),.none⟩,⟨.none,(.store 4 (.t 9) (.t 46)),.none⟩,⟨(.some 10),(.W1 (.t 47)),.none⟩] rfl rfl ?_;apply sG;simp only[go_sem,seval];refine aS λi8 Z8 s8 a8 f8=>?_
   try replace hn:=bD (al a9 f8).symm
   try replace a9:=s8 _ _ a9
   have z8:=W9.none f8;replace h0:=s8 _ _ h0;replace a6:=s8 _ _ a6;replace W9:=W9.trans s8;simp only[go_sem,seval];refine aS λi9 Z9 s9 a9 f9=>?_
   try replace hn:=bD (al a8 f9)
   try replace a8:=s9 _ _ a8
   have z9:=W9.none f9;replace h0:=s9 _ _ h0;replace a6:=s9 _ _ a6;replace W9:=W9.trans s9;simp only[go_sem,seval,a8,a9,hn,bu,eZ,XP,ZP];exact fin _ _ i8 ((W9.av z8).av z9) z8 ((hn.2 _ _).trans af) rfl rfl rfl rfl rfl
  .refine GT.gm (its:=[24,22,26,28,30]) (by kernel_rfl) ?_;refine RE.XG (n:=0) [] [24,22,26,28,30] [⟨(.some 9),(.alloc 45 4 (.agg [(.int .i64 0),(.int .i64 0),(.bool .false),.ay])),.none⟩,⟨(.some 8),(.alloc 37 5 (.agg [(.int .i64 0),(.int .i64 0),.ay,.ay,.ay])),.none⟩,⟨.none,(.store 5 (.t 8) (.t 45)),.none⟩,⟨.none,(.store 4 (.t 9) (.t 46)),.none⟩,⟨(.some 10),(.W1 (.t 47)),.none⟩] rfl rfl ?_;apply sG;simp only[go_sem,seval];refine aS λi9 Z9 s9 a9 f9=>?_
   try replace hn:=bD (al a8 f9)
   try replace a8:=s9 _ _ a8
   have z9:=W9.none f9;replace h0:=s9 _ _ h0;replace a6:=s9 _ _ a6;replace W9:=W9.trans s9;simp only[go_sem,seval];refine aS λi8 Z8 s8 a8 f8=>?_
   try replace hn:=bD (al a9 f8).symm
   try replace a9:=s8 _ _ a9
   have z8:=W9.none f8;replace h0:=s8 _ _ h0;replace a6:=s8 _ _ a6;replace W9:=W9.trans s8;simp only[go_sem,seval,a8,a9,hn,bu,eZ,XP,ZP];exact fin _ _ i8 ((W9.av z8).av z9) z8 ((hn.2 _ _).trans af) rfl rfl rfl rfl rfl
 .refine GT.ny (its:=[22,9,11]) (by kernel_rfl) ?_;refine RE.XG (n:=0) [9,11] [22] [⟨(.some 8),(.alloc 37 5 (.agg [(.int .i64 0),(.int .i64 0),.ay,.ay,.ay])),.none⟩] rfl rfl ?_;apply sG;simp only[go_sem,seval];refine aS λi8 Z8 s8 a8 f8=>?_
  try replace hn:=bD (al a9 f8).symm
  try replace a9:=s8 _ _ a9
  have z8:=W9.none f8;replace h0:=s8 _ _ h0;replace a6:=s8 _ _ a6;replace W9:=W9.trans s8;simp only[go_sem,seval];refine RE.X2 rfl rfl rfl rfl rfl trivial (by simp only[go_sem,seval,h0]) ?_;refine RE.X2 rfl rfl rfl rfl rfl trivial (by simp only[go_sem,seval,a6,bu]) ?_;refine⟨?_,?_⟩
  .refine GT.gm (its:=[12,14,16,18,20,24,26,28,30]) (by kernel_rfl) ?_;rw[<-bC];refine RE.au rfl rfl rfl rfl rfl (hpg _) ?_;refine RE.XG (n:=0) [] [14,16,18,20,24,26,28,30] [⟨(.some 37),(.W1 (.t 44)),.none⟩,⟨(.some 45),(.ext 0 (.t 37)),.none⟩,⟨(.some 46),(.ext 1 (.t 37)),.none⟩,⟨(.some 47),(.ext 2 (.t 37)),.none⟩,⟨(.some 9),(.alloc 45 4 (.agg [(.int .i64 0),(.int .i64 0),(.bool .false),.ay])),.none⟩,⟨.none,(.store 5 (.t 8) (.t 45)),.none⟩,⟨.none,(.store 4 (.t 9) (.t 46)),.none⟩,⟨(.some 10),(.W1 (.t 47)),.none⟩] rfl rfl ?_;apply sG;simp only[go_sem,seval];refine aS λi9 Z9 s9 a9 f9=>?_
   try replace hn:=bD (al a8 f9)
   try replace a8:=s9 _ _ a8
   have z9:=W9.none f9;replace h0:=s9 _ _ h0;replace a6:=s9 _ _ a6;replace W9:=W9.trans s9;simp only[go_sem,seval,a8,a9,hn,bu,eZ,XP,ZP];exact fin _ _ i8 ((W9.av z8).av z9) z8 ((hn.2 _ _).trans af) rfl rfl rfl rfl rfl
  .refine GT.gm (its:=[24,9,11,12,14,16,18,20,26,28,30]) (by kernel_rfl) ?_;refine RE.XG (n:=0) [9,11,12,14,16,18,20,26,28,30] [24] [⟨(.some 9),(.alloc 45 4 (.agg [(.int .i64 0),(.int .i64 0),(.bool .false),.ay])),.none⟩] rfl rfl ?_;apply sG;simp only[go_sem,seval];refine aS λi9 Z9 s9 a9 f9=>?_
   try replace hn:=bD (al a8 f9)
   try replace a8:=s9 _ _ a8
   have z9:=W9.none f9;replace h0:=s9 _ _ h0;replace a6:=s9 _ _ a6;replace W9:=W9.trans s9;simp only[go_sem,seval];refine RE.X2 rfl rfl rfl rfl rfl trivial (by simp only[go_sem,seval,h0]) ?_;refine RE.X2 rfl rfl rfl rfl rfl trivial (by simp only[go_sem,seval,a6,bu]) ?_;rw[<-bC];refine RE.au rfl rfl rfl rfl rfl (hpg _) ?_;refine RE.XG (n:=0) [] [14,16,18,20,26,28,30] [⟨(.some 37),(.W1 (.t 44)),.none⟩,⟨(.some 45),(.ext 0 (.t 37)),.none⟩,⟨(.some 46),(.ext 1 (.t 37)),.none⟩,⟨(.some 47),(.ext 2 (.t 37)),.none⟩,⟨.none,(.store 5 (.t 8) (.t 45)),.none⟩,⟨.none,(.store 4 (.t 9) (.t 46)),.none⟩,⟨(.some 10),(.W1 (.t 47)),.none⟩] rfl rfl ?_;apply sG;simp only[go_sem,seval,a8,a9,hn,bu,eZ,XP,ZP];exact fin _ _ i8 ((W9.av z8).av z9) z8 ((hn.2 _ _).trans af) rfl rfl rfl rfl rfl
 .refine GT.ny (its:=[24,9,11]) (by kernel_rfl) ?_;refine RE.XG (n:=0) [9,11] [24] [⟨(.some 9),(.alloc 45 4 (.agg [(.int .i64 0),(.int .i64 0),(.bool .false),.ay])),.none⟩] rfl rfl ?_;apply sG;simp only[go_sem,seval];refine aS λi9 Z9 s9 a9 f9=>?_
  try replace hn:=bD (al a8 f9)
  try replace a8:=s9 _ _ a8
  have z9:=W9.none f9;replace h0:=s9 _ _ h0;replace a6:=s9 _ _ a6;replace W9:=W9.trans s9;simp only[go_sem,seval];refine RE.X2 rfl rfl rfl rfl rfl trivial (by simp only[go_sem,seval,h0]) ?_;refine RE.X2 rfl rfl rfl rfl rfl trivial (by simp only[go_sem,seval,a6,bu]) ?_;refine⟨?_,?_⟩
  .refine GT.gm (its:=[12,14,16,18,20,22,26,28,30]) (by kernel_rfl) ?_;rw[<-bC];refine RE.au rfl rfl rfl rfl rfl (hpg _) ?_;refine RE.XG (n:=0) [] [14,16,18,20,22,26,28,30] [⟨(.some 37),(.W1 (.t 44)),.none⟩,⟨(.some 45),(.ext 0 (.t 37)),.none⟩,⟨(.some 46),(.ext 1 (.t 37)),.none⟩,⟨(.some 47),(.ext 2 (.t 37)),.none⟩,⟨(.some 8),(.alloc 37 5 (.agg [(.int .i64 0),(.int .i64 0),.ay,.ay,.ay])),.none⟩,⟨.none,(.store 5 (.t 8) (.t 45)),.none⟩,⟨.none,(.store 4 (.t 9) (.t 46)),.none⟩,⟨(.some 10),(.W1 (.t 47)),.none⟩] rfl rfl ?_;apply sG;simp only[go_sem,seval];refine aS λi8 Z8 s8 a8 f8=>?_
   try replace hn:=bD (al a9 f8).symm
   try replace a9:=s8 _ _ a9
   have z8:=W9.none f8;replace h0:=s8 _ _ h0;replace a6:=s8 _ _ a6;replace W9:=W9.trans s8;simp only[go_sem,seval,a8,a9,hn,bu,eZ,XP,ZP];exact fin _ _ i8 ((W9.av z8).av z9) z8 ((hn.2 _ _).trans af) rfl rfl rfl rfl rfl
  .refine GT.gm (its:=[22,9,11,12,14,16,18,20,26,28,30]) (by kernel_rfl) ?_;refine RE.XG (n:=0) [9,11,12,14,16,18,20,26,28,30] [22] [⟨(.some 8),(.alloc 37 5 (.agg [(.int .i64 0),(.int .i64 0),.ay,.ay,.ay])),.none⟩] rfl rfl ?_;apply sG;simp only[go_sem,seval];refine aS λi8 Z8 s8 a8 f8=>?_
   try replace hn:=bD (al a9 f8).symm
   try replace a9:=s8 _ _ a9
   have z8:=W9.none f8;replace h0:=s8 _ _ h0;replace a6:=s8 _ _ a6;replace W9:=W9.trans s8;simp only[go_sem,seval];refine RE.X2 rfl rfl rfl rfl rfl trivial (by simp only[go_sem,seval,h0]) ?_;refine RE.X2 rfl rfl rfl rfl rfl trivial (by simp only[go_sem,seval,a6,bu]) ?_;rw[<-bC];refine RE.au rfl rfl rfl rfl rfl (hpg _) ?_;refine RE.XG (n:=0) [] [14,16,18,20,26,28,30] [⟨(.some 37),(.W1 (.t 44)),.none⟩,⟨(.some 45),(.ext 0 (.t 37)),.none⟩,⟨(.some 46),(.ext 1 (.t 37)),.none⟩,⟨(.some 47),(.ext 2 (.t 37)),.none⟩,⟨.none,(.store 5 (.t 8) (.t 45)),.none⟩,⟨.none,(.store 4 (.t 9) (.t 46)),.none⟩,⟨(.some 10),(.W1 (.t 47)),.none⟩] rfl rfl ?_;apply sG;simp only[go_sem,seval,a8,a9,hn,bu,eZ,XP,ZP];exact fin _ _ i8 ((W9.av z8).av z9) z8 ((hn.2 _ _).trans af) rfl rfl rfl rfl rfl
open Go.Proofs Go.Proofs.Tryz
def mF(a p:Xd):V:=.agg [vI a.no,vI a.kind,aE a.hs,aE a.fs,aE a.ls,vI p.no,vI p.kind,aE p.hs,aE p.fs,aE p.ls]
def cX(a p:Xd):(mF a p).cells=[vI a.no,vI a.kind,aE a.hs,aE a.fs,aE a.ls,vI p.no,vI p.kind,aE p.hs,aE p.fs,aE p.ls]:=rfl
def j7(a p:Xd):(mF a p).stays=true:=rfl
def e8(f:Xs):(bl f).cells=[vI f.node,vI f.atom,vI f.fr,vI f.x,vI f.y,vI f.w,vI f.h]:=rfl
def mD(f:Xs):(bl f).stays=true:=rfl
def Jg(a b:Xs):mW true [0,0,0,0,0,0,0] (bl a) (bl b)=some (.bool (decide (a≠b))):=by
 obtain⟨a1,a2,a3,a4,a5,a6,a7⟩:=a;obtain⟨b1,b2,b3,b4,b5,b6,b7⟩:=b;simp only[mW,bl,iM,fo,jh,vI,XX,List.length_nil,true_and,↓reduceIte,ne_eq,Xs.mk.injEq];by_cases h1:a1=b1<;>simp[h1]
def AT(a b:List Xs)(h:a.length<=1000000000000000):aK prog 183 [aE a,aE b] (.bool (decide (a=b))):=
 J4 func183 (SK.b.trans rfl) SK.c bl Jg (λ_ _=>rfl) a b h
def Ii{f:FuncId}(p:Xs->Xs->Bool)(xs ys:List Xs)(hx:xs.length<=1000000000000000)(hf:∀x y,aK prog f [bl x,bl y] (.bool (p x y))):
 aK prog 184 [aE xs,aE ys,.fn f []] (.bool (lf p xs ys)):=λU=>by
 refine U5.r (by simp[MZ]) ?_;refine ab.mix 10 ?_;have n1:=jq xs;have n2:=jq ys;have ldR:∀(U:ag) (f:Xs),bF U true 7 (.rp (bl f))=some (bl f):=λ_ _=>rfl;by_cases hlen:xs.length=ys.length
 .have q:((xs.length:Int)≠ys.length)=False:=O';apply sR;simp only[go_sem,seval,MZ,n1,n2,q];refine ab.loop (λm st=>∃j,j<=xs.length/\m=xs.length-j/\lf p xs ys=lf p (xs.drop j) (ys.drop j)/\st.s 1=aE ys/\st.s 2=.fn f []/\st.s 15=aE xs/\st.s 16=.int .i64 xs.length/\st.s 17=.int .i64 j/\aa U st.U) xs.length ⟨0,by omega,rfl,rfl,rfl,rfl,rfl,rfl,rfl,aa.refl _⟩ ?_;rintro m ⟨S,Z'⟩ ⟨j,hj,rfl,ht,t1,t2,t15,t16,t17,hs⟩;simp only at t1 t2 t15 t16 t17 hs;refine ab.mix 10 ?_;by_cases H':j<xs.length
  .have q1:((j:Int)<xs.length)=True:=WE;have hlt2:j<ys.length:=by omega
   have i1:=λU=>u5 (U:=U) H';have i2:=λU=>u5 (U:=U) hlt2;have hee:=hf xs[j] ys[j];rw[gF H',gF hlt2,lf]at ht;have r1:WR .i64 ((j:Int)+1):=ai;generalize xs[j]=x at*;generalize ys[j]=y at*;apply sR;simp only[go_sem,seval,t15,t16,t17,q1,i1,ldR];refine ad λi8 Z8 s8 a8 f8=>?_;have z8:=hs.none f8;replace hs:=hs.trans s8;simp only[go_sem,seval,a8,t1,i2,ldR,e8,mD];generalize Yf:C' _ i8 _=Y8;replace a8:=(congrFun Yf i8).symm.trans af;replace hs:=Eq.subst (motive:=aa _) Yf (hs.av z8);clear Yf;refine ad λi9 Z9 s9 a9 f9=>?_;have n89:=al a8 f9;replace a8:=s9 _ _ a8;have z9:=hs.none f9;replace hs:=hs.trans s9;simp only[go_sem,seval,a9,t2,e8,mD];generalize XQ:C' _ i9 _=Y9;replace a9:=(congrFun XQ i9).symm.trans af;replace a8:=((congrFun XQ i8).symm.trans (ae n89)).trans a8;replace hs:=Eq.subst (motive:=aa _) XQ (hs.av z9);clear XQ;simp only[go_sem,seval,a8,a9,e8];refine ab.au rfl rfl rfl (hee _) ?_;cases hp:p x y
   .apply sR;simp only[go_sem,seval];exact ak.pure hs (by rw[ht,hp];rfl)
   .apply sR;simp only[go_sem,seval,t1,t2,t15,t16,t17,r1];exact⟨_,by omega,j+1,by omega,rfl,by rw[ht,hp];rfl,by simp;exact hs⟩
  .have q1:((j:Int)<xs.length)=False:=O';apply sR;simp only[go_sem,seval,t16,t17,q1];refine ak.pure hs ?_;rw[ht,xF (by omega),xF (by omega)];rfl
 .have q:((xs.length:Int)≠ys.length)=True:=WE;apply sR;simp only[go_sem,seval,MZ,n1,n2,q];exact ak.same (by rw[vx hlen])
def xc{α β:Type}[DecidableEq β](g:α->β):∀(l m:List α),lf (λx y=>decide (g x=g y)) l m=decide (l.map g=m.map g)
 |[],[]=>by simp[lf]
 |[],y::m=>by simp[lf]
 |x::l,[]=>by simp[lf]
 |x::l,y::m=>by
  rw[lf,xc g l m];by_cases h:g x=g y
  .simp[h]
  .simp[h]
def K1(x y:Xs):aK prog 185 [bl x,bl y] (.bool (decide (uK x=uK y))):=λU=>by
 refine Vl.r (by simp[PJ]) ?_;have hs:=aa.refl U;generalize hX:decide (uK x=uK y)=X;unfold uK at hX;simp only[Prod.mk.injEq]at hX;refine ab.mix 5 ?_;apply sR;simp only[go_sem,seval,PJ,e8,mD];refine ad λi2 Z2 s2 a2 f2=>?_;replace hs:=hs.trans s2;simp only[go_sem,seval,e8,mD];refine ad λi3 Z3 s3 a3 f3=>?_;replace a2:=s3 _ _ a2;replace hs:=hs.trans s3;by_cases h1:x.node=y.node
 .have q1:(x.node=y.node)=True:=WE h1;by_cases h2:x.atom=y.atom
  .have q2:(x.atom=y.atom)=True:=WE h2;by_cases h3:x.fr=y.fr
   .have q3:(x.fr=y.fr)=True:=WE h3;by_cases h4:x.h=y.h
    .have q4:(x.h=y.h)=True:=WE h4;simp only[go_sem,seval,a2,a3,e8,q1,q2,q3,q4];exact ak.pure hs (by rw[<-hX];simp[h1,h2,h3,h4])
    .have q4:(x.h=y.h)=False:=O' h4;simp only[go_sem,seval,a2,a3,e8,q1,q2,q3,q4];exact ak.pure hs (by rw[<-hX];simp[h4])
   .have q3:(x.fr=y.fr)=False:=O' h3;simp only[go_sem,seval,a2,a3,e8,q1,q2,q3];exact ak.pure hs (by rw[<-hX];simp[h3])
  .have q2:(x.atom=y.atom)=False:=O' h2;simp only[go_sem,seval,a2,a3,e8,q1,q2];exact ak.pure hs (by rw[<-hX];simp[h2])
 .have q1:(x.node=y.node)=False:=O' h1;simp only[go_sem,seval,a2,a3,e8,q1];exact ak.pure hs (by rw[<-hX];simp[h1])
def MA(x y:Xs):aK prog 186 [bl x,bl y] (.bool (decide (x.node=y.node))):=λU=>by
 refine Vh.r (by simp[OZ]) ?_;have hs:=aa.refl U;refine ab.mix 5 ?_;apply sR;simp only[go_sem,seval,OZ,e8,mD];refine ad λi2 Z2 s2 a2 f2=>?_;replace hs:=hs.trans s2;simp only[go_sem,seval,e8,mD];refine ad λi3 Z3 s3 a3 f3=>?_;replace a2:=s3 _ _ a2;replace hs:=hs.trans s3;simp only[go_sem,seval,a2,a3,e8];exact ak.pure hs rfl
open Go.Proofs Go.Proofs.Tryz
def okR(a p:Xd):Nat->Bool
 |1=>decide (p.no=a.no)
 |2=>decide (a.kind≠3\/p.kind=3)
 |3=>decide (p.kind=a.kind/\(a.kind≠3\/¬((p.hs.length:Int)+p.fs.length+p.ls.length>0)))
 |4=>decide (p.hs=a.hs)
 |5=>decide (p.fs.map uK=a.fs.map uK)
 |6=>decide (p.fs=a.fs)
 |7=>decide (p.ls.map (·.node)=a.ls.map (·.node))
 |8=>decide (p.ls=a.ls)
 |_=>true
def pJ(p:Xd):Prop:=p.hs.length<=1000000000000000/\p.fs.length<=1000000000000000/\p.ls.length<=1000000000000000
def GX(a p:Xd):aK prog 124 [mF a p] (.bool (okR a p 1)):=λU=>by
 refine Uy.r (by simp[Qn]) ?_;have hs:=aa.refl U;refine ab.mix 3 ?_;apply sR;simp only[go_sem,seval,Qn,cX,j7];refine ad λi1 Z1 s1 a1 f1=>?_;replace hs:=hs.trans s1;simp only[go_sem,seval,a1,cX];exact ak.pure hs rfl
def LX(a p:Xd):aK prog 125 [mF a p] (.bool (okR a p 2)):=λU=>by
 refine Vq.r (by simp[Rn]) ?_;have hs:=aa.refl U;generalize hX:okR a p 2=X;simp only[okR]at hX;refine ab.mix 3 ?_;apply sR;simp only[go_sem,seval,Rn,cX,j7];refine ad λi1 Z1 s1 a1 f1=>?_;replace hs:=hs.trans s1;by_cases h1:a.kind=3
 .have q1:(a.kind≠3)=False:=O' λh=>h h1;simp only[go_sem,seval,a1,q1,cX];exact ak.pure hs (by rw[<-hX];simp[h1])
 .have q1:(a.kind≠3)=True:=WE h1;simp only[go_sem,seval,a1,q1,cX];exact ak.pure hs (by rw[<-hX];simp[h1])
def ME(a p:Xd)(hp:pJ p):aK prog 126 [mF a p] (.bool (okR a p 3)):=λU=>by
 refine Uw.r (by simp[Re]) ?_;have hs:=aa.refl U;generalize hX:okR a p 3=X;simp only[okR]at hX;have l1:=jq p.hs;have l2:=jq p.fs;have l3:=jq p.ls;obtain⟨g1,g2,g3⟩:=hp;have r1:WR .i64 ((p.hs.length:Int)+p.fs.length):=ai;have r2:WR .i64 ((p.hs.length:Int)+p.fs.length+p.ls.length):=ai;refine ab.mix 4 ?_;apply sR;simp only[go_sem,seval,Re,cX,j7];refine ad λi1 Z1 s1 a1 f1=>?_;replace hs:=hs.trans s1;by_cases h1:p.kind=a.kind
 .have q1:(p.kind=a.kind)=True:=WE h1;by_cases h2:a.kind=3
  .have q2:(a.kind≠3)=False:=O' λh=>h h2;by_cases h3:(p.hs.length:Int)+p.fs.length+p.ls.length>0
   .have q3:((p.hs.length:Int)+p.fs.length+p.ls.length>0)=True:=WE h3;simp only[go_sem,seval,a1,q1,q2,q3,l1,l2,l3,r1,r2,cX];exact ak.pure hs (by rw[<-hX,Xr λh=>h.2.elim (λg=>g h2) λg=>g h3])
   .have q3:((p.hs.length:Int)+p.fs.length+p.ls.length>0)=False:=O' h3;simp only[go_sem,seval,a1,q1,q2,q3,l1,l2,l3,r1,r2,cX];exact ak.pure hs (by rw[<-hX,XJ ⟨h1,.inr h3⟩])
  .have q2:(a.kind≠3)=True:=WE h2;simp only[go_sem,seval,a1,q1,q2,l1,l2,l3,r1,r2,cX];exact ak.pure hs (by rw[<-hX,XJ ⟨h1,.inl h2⟩])
 .have q1:(p.kind=a.kind)=False:=O' h1;simp only[go_sem,seval,a1,q1,l1,l2,l3,r1,r2,cX];exact ak.pure hs (by rw[<-hX,Xr λh=>h1 h.1])
def HV(a p:Xd)(hp:pJ p):aK prog 127 [mF a p] (.bool (okR a p 4)):=λU=>by
 refine VQ.r (by simp[Oy]) ?_;have hs:=aa.refl U;have hc:=AT p.hs a.hs hp.1;refine ab.mix 3 ?_;apply sR;simp only[go_sem,seval,Oy,cX,j7];refine ad λi1 Z1 s1 a1 f1=>?_;replace hs:=hs.trans s1;simp only[go_sem,seval,a1,cX];refine ab.au rfl rfl rfl (hc _) ?_;apply sR;simp only[go_sem,seval];exact ak.pure hs rfl
def NR(a p:Xd)(hp:pJ p):aK prog 128 [mF a p] (.bool (okR a p 5)):=λU=>by
 refine V3.r (by simp[RJ]) ?_;have hs:=aa.refl U;have hc:=Ii (λx y=>decide (uK x=uK y)) p.fs a.fs hp.2.1 K1;rw[xc uK]at hc;refine ab.mix 3 ?_;apply sR;simp only[go_sem,seval,RJ,cX,j7];refine ad λi1 Z1 s1 a1 f1=>?_;replace hs:=hs.trans s1;simp only[go_sem,seval,a1,cX];refine ab.au rfl rfl rfl (hc _) ?_;apply sR;simp only[go_sem,seval];exact ak.pure hs rfl
def Ir(a p:Xd)(hp:pJ p):aK prog 129 [mF a p] (.bool (okR a p 6)):=λU=>by
 refine Tp.r (by simp[NG]) ?_;have hs:=aa.refl U;have hc:=AT p.fs a.fs hp.2.1;refine ab.mix 3 ?_;apply sR;simp only[go_sem,seval,NG,cX,j7];refine ad λi1 Z1 s1 a1 f1=>?_;replace hs:=hs.trans s1;simp only[go_sem,seval,a1,cX];refine ab.au rfl rfl rfl (hc _) ?_;apply sR;simp only[go_sem,seval];exact ak.pure hs rfl
def Ge(a p:Xd)(hp:pJ p):aK prog 130 [mF a p] (.bool (okR a p 7)):=λU=>by
 refine Tx.r (by simp[Rz]) ?_;have hs:=aa.refl U;have hc:=Ii (λx y=>decide (x.node=y.node)) p.ls a.ls hp.2.2 MA;rw[xc (λx:Xs=>x.node)]at hc;refine ab.mix 3 ?_;apply sR;simp only[go_sem,seval,Rz,cX,j7];refine ad λi1 Z1 s1 a1 f1=>?_;replace hs:=hs.trans s1;simp only[go_sem,seval,a1,cX];refine ab.au rfl rfl rfl (hc _) ?_;apply sR;simp only[go_sem,seval];exact ak.pure hs rfl
def Kb(a p:Xd)(hp:pJ p):aK prog 131 [mF a p] (.bool (okR a p 8)):=λU=>by
 refine UX.r (by simp[Ra]) ?_;have hs:=aa.refl U;have hc:=AT p.ls a.ls hp.2.2;refine ab.mix 3 ?_;apply sR;simp only[go_sem,seval,Ra,cX,j7];refine ad λi1 Z1 s1 a1 f1=>?_;replace hs:=hs.trans s1;simp only[go_sem,seval,a1,cX];refine ab.au rfl rfl rfl (hc _) ?_;apply sR;simp only[go_sem,seval];exact ak.pure hs rfl
def KX:List V:=[.Xu,.fn 124 [],.fn 125 [],.fn 126 [],.fn 127 [],.fn 128 [],.fn 129 [],.fn 130 [],.fn 131 []]
def KE:aK prog 66 [] (.agg KX):=λU=>by
 refine e66.r (by simp[c66]) ?_;have hs:=aa.refl U;refine ab.mix 2 ?_;apply sR;simp only[go_sem,seval,c66];refine ad λi0 Z0 s0 a0 f0=>?_;have z0:=hs.none f0;replace hs:=hs.trans s0;simp only[go_sem,seval,a0];exact ak.pure (hs.av z0) rfl
def Lc(a p:Xd)(hp:pJ p):∀j,1<=j->j<9->∃f,KX[j]?=some (.fn f [])/\aK prog f [mF a p] (.bool (okR a p j))
 |0,h,_=>absurd h (by omega)
 |1,_,_=>⟨_,rfl,GX a p⟩
 |2,_,_=>⟨_,rfl,LX a p⟩
 |3,_,_=>⟨_,rfl,ME a p hp⟩
 |4,_,_=>⟨_,rfl,HV a p hp⟩
 |5,_,_=>⟨_,rfl,NR a p hp⟩
 |6,_,_=>⟨_,rfl,Ir a p hp⟩
 |7,_,_=>⟨_,rfl,Ge a p hp⟩
 |8,_,_=>⟨_,rfl,Kb a p hp⟩
 |n+9,_,h=>absurd h (by omega)
def Lt:(true != true)=false:=rfl
def MB:(false != true)=true:=rfl
def G6(a p:Xd){j:Nat}(h1:1<=j)(h9:j<9)(hb:∀i,1<=i->i<j->okR a p i=true)(hj:okR a p j=false):fi a p=j:=by
 have g:∀i,1<=i->i<j->okR a p i=true:=hb;unfold fi
 match j,h1,h9,g,hj with
 |1,_,_,g,hj=>simp only[okR,decide_eq_false_iff_not]at hj;rw[aq hj];rfl
 |2,_,_,g,hj=>
  have g1:=g 1 (by omega) (by omega);simp only[okR,decide_eq_false_iff_not,Zs]at hj g1;rw[ao (λh=>h g1),aq hj];rfl
 |3,_,_,g,hj=>
  have g1:=g 1 (by omega) (by omega);have g2:=g 2 (by omega) (by omega);simp only[okR,decide_eq_false_iff_not,Zs]at hj g1 g2;rw[ao (λh=>h g1),ao (λh=>h g2),aq hj];rfl
 |4,_,_,g,hj=>
  have g1:=g 1 (by omega) (by omega);have g2:=g 2 (by omega) (by omega);have g3:=g 3 (by omega) (by omega);simp only[okR,decide_eq_false_iff_not,Zs]at hj g1 g2 g3;rw[ao (λh=>h g1),ao (λh=>h g2),ao (λh=>h g3),aq hj];rfl
 |5,_,_,g,hj=>
  have g1:=g 1 (by omega) (by omega);have g2:=g 2 (by omega) (by omega);have g3:=g 3 (by omega) (by omega);have g4:=g 4 (by omega) (by omega);simp only[okR,decide_eq_false_iff_not,Zs]at hj g1 g2 g3 g4;rw[ao (λh=>h g1),ao (λh=>h g2),ao (λh=>h g3),ao (λh=>h g4),aq hj];rfl
 |6,_,_,g,hj=>
  have g1:=g 1 (by omega) (by omega);have g2:=g 2 (by omega) (by omega);have g3:=g 3 (by omega) (by omega);have g4:=g 4 (by omega) (by omega);have g5:=g 5 (by omega) (by omega);simp only[okR,decide_eq_false_iff_not,Zs]at hj g1 g2 g3 g4 g5;rw[ao (λh=>h g1),ao (λh=>h g2),ao (λh=>h g3),ao (λh=>h g4),ao (λh=>h g5),aq hj];rfl
 |7,_,_,g,hj=>
  have g1:=g 1 (by omega) (by omega);have g2:=g 2 (by omega) (by omega);have g3:=g 3 (by omega) (by omega);have g4:=g 4 (by omega) (by omega);have g5:=g 5 (by omega) (by omega);have g6:=g 6 (by omega) (by omega);simp only[okR,decide_eq_false_iff_not,Zs]at hj g1 g2 g3 g4 g5 g6;rw[ao (λh=>h g1),ao (λh=>h g2),ao (λh=>h g3),ao (λh=>h g4),ao (λh=>h g5),ao (λh=>h g6),aq hj];rfl
 |8,_,_,g,hj=>
  have g1:=g 1 (by omega) (by omega);have g2:=g 2 (by omega) (by omega);have g3:=g 3 (by omega) (by omega);have g4:=g 4 (by omega) (by omega);have g5:=g 5 (by omega) (by omega);have g6:=g 6 (by omega) (by omega);have g7:=g 7 (by omega) (by omega);simp only[okR,decide_eq_false_iff_not,Zs]at hj g1 g2 g3 g4 g5 g6 g7;rw[ao (λh=>h g1),ao (λh=>h g2),ao (λh=>h g3),ao (λh=>h g4),ao (λh=>h g5),ao (λh=>h g6),ao (λh=>h g7),aq hj];rfl
 |n+9,_,h,_,_=>omega
def Gn(a p:Xd)(hb:∀i,1<=i->i<9->okR a p i=true):fi a p=0:=by
 have g1:=hb 1 (by omega) (by omega);have g2:=hb 2 (by omega) (by omega);have g3:=hb 3 (by omega) (by omega);have g4:=hb 4 (by omega) (by omega);have g5:=hb 5 (by omega) (by omega);have g6:=hb 6 (by omega) (by omega);have g7:=hb 7 (by omega) (by omega);have g8:=hb 8 (by omega) (by omega);simp only[okR,Zs]at g1 g2 g3 g4 g5 g6 g7 g8;unfold fi;rw[ao (λh=>h g1),ao (λh=>h g2),ao (λh=>h g3),ao (λh=>h g4),ao (λh=>h g5),ao (λh=>h g6),ao (λh=>h g7),ao (λh=>h g8)]
def GB(a p:Xd)(hp:pJ p):aK prog 29 [mF a p] (vI (fi a p)):=λU=>by
 refine e29.r (by simp[c29]) ?_;have hs:=aa.refl U;refine ab.mix 7 ?_;apply sR;simp only[go_sem,seval,c29,cX,j7];refine ad λi1 Z1 s1 a1 f1=>?_;replace hs:=hs.trans s1;simp only[go_sem,seval];refine ab.au rfl rfl rfl (KE _) ?_;apply sR;simp only[go_sem,seval];refine ab.loop (λm st=>∃j:Nat,j<=9/\m=9-j/\(∀i,1<=i->i<j->okR a p i=true)/\aa U st.U/\st.U i1=some ⟨91,10,[mF a p]⟩/\st.s 1=.ptr i1 0 0/\st.s 5=.agg KX/\st.s 6=vI j) 9 ?_ ?_
 .exact⟨0,by omega,rfl,λi h1 h2=>by omega,hs,a1,rfl,rfl,rfl⟩
 .clear hs a1;rintro m ⟨S,J⟩ ⟨j,hj,rfl,hb,hs,a1,t1,t5,t6⟩;simp only at hs a1 t1 t5 t6;refine ab.mix 7 ?_;have r1:WR .i64 ((j:Int)+1):=ai;by_cases H':j<9
  .have q1:((j:Int)<9)=True:=WE;have b0:((0:Int)<=j)=True:=WE;have nfc:(V.Xu).cells=[.Xu]:=rfl;have nfs:(V.Xu).stays=true:=rfl;by_cases h0:j=0
   .have ig:KX[j]?=some .Xu:=by rw[h0];rfl
    (refine ab.bt Yp.nothing 19 ?_;simp only[go_sem,seval,jF,t5,t6,q1,b0,fc,Nat.mul_one,ig])
    refine ab.Sk rfl rfl (b:=true) (.inl ⟨rfl,rfl⟩) ?_;apply sR;simp only[go_sem,seval,Lt,t1,t5,t6,r1];exact⟨_,by omega,j+1,by omega,rfl,λi h1 h2=>by omega,hs,a1,by simp⟩
   .obtain⟨f,ig,hc⟩:=Lc a p hp j (by omega) H'
    (refine ab.bt Yp.nothing 19 ?_;simp only[go_sem,seval,jF,t5,t6,q1,b0,fc,Nat.mul_one,ig])
    refine ab.Sk rfl rfl (b:=false) (.inr ⟨_,_,rfl,rfl⟩) ?_;apply sR;simp only[go_sem,seval,MB,t1,a1,cX];refine ab.au rfl rfl rfl (hc _) ?_;cases hk:okR a p j
    .apply sR;simp only[go_sem,seval];exact ak.pure hs (by rw[G6 a p (by omega) H' hb hk])
    .apply sR;simp only[go_sem,seval,t1,t5,t6,r1];exact⟨_,by omega,j+1,by omega,rfl,λi h1 h2=>(Nat.lt_or_eq_of_le (Nat.le_of_lt_succ h2)).elim (hb i h1) λe=>by rw[e];exact hk,hs,a1,by simp⟩
  .have q1:((j:Int)<9)=False:=O';apply sR;simp only[go_sem,seval,t6,q1];exact ak.pure hs (by rw[Gn a p λi h1 h2=>hb i h1 (by omega)])
open Go.Proofs Go.Proofs.Tryz
def pY{b:Bk}{s:Xp}{to kept shift body:Int}:(cu b.atoms b.M' s to kept shift body).1.length<=b.M'.length:=by
 unfold cu;split
 .have h1:=pq (sQ b.atoms s kept) shift body (dG b.M' s to);have h2:(dG b.M' s to).length<=b.M'.length:=oU _ _ _;omega
 .simp
def Hm{b:Bk}(hb:bJ b){s:XE}(he:¬cH b s):(aG b s).1.hs.length<=1000000/\(aG b s).1.fs.length<=1000000/\(aG b s).1.ls.length<=2000000:=by
 have Xq:gr b s:=Decidable.byContradiction λh=>he (.inl h);have Yb:0<=s.s.atom:=by rcases Xq.2 with h|h;exact h.1.1;omega
 have hg:=eu hb he;have hpl:=G1 hb.toBkOk Xq;have hfl:=hb.Zi;have Zh:=hb.len;have hro:=nk hb.toBkFull s.s;have hr1:=gv hb.toBkFull s.s Yb;have hpf:∀f∈s.bx,0<=f.h:=λf hf=>hb.fh f (lY _ _ Xq.1 f hf);have htl:=(rL (body:=(aV b s.s).body) s.bx 0 (Int.le_refl _) (by omega) hpf).1;refine⟨?_,?_,?_⟩
 .have h1:((hdK b.nodes b.w (aV b s.s).WQ).1).length<=1000000:=by rw[EI];exact hro.len
  unfold aG;split
  .exact h1
  .split
   .exact h1
   .show(cZ b (bP b s)).hs.length<=_;rw[(iu b (bP b s)).1];exact h1
 .rcases hg.kd with k|k
  .obtain⟨hm,h1,-,hc⟩:=hg.cut k;cases hc with
   |more q1 q2 q3 q4 q5=>omega
   |whole c r y q1 q2 q3 q4 q5 q6 q7 q8 q9=>omega
  .rw[hg.no' k];simp
 .have h0:(bP b s).ls.length<=1000000:=by
   show([]++(cC (aV b s.s).body s.bx 0).1.map (mG (aV b s.s).high)).length<=_;rw[j6,dd];omega
  unfold aG;split
  .show([]++(b.M'.takeWhile (kf _)).map (mG _)).length<=_;rw[j6,dd];have:=(List.takeWhile_sublist (l:=b.M') (kf (bB b s.s .ay).body)).length_le;omega
  .split
   .exact jx h0 (by omega)
   .show(cZ b (bP b s)).ls.length<=_;unfold cZ;split
    .show((bP b s).ls++((cu b.atoms b.M' _ _ _ _ _).1).map _).length<=_;rw[iz,dd];have:=pY (b:=b) (s:=({ bP b s with kind:=1 }:Wx).s) (to:=((p9 b (bP b s)).toNat:Int)) (kept:=cD b (bP b s)) (shift:=({ bP b s with kind:=1 }:Wx).shift) (body:=({ bP b s with kind:=1 }:Wx).body);exact jx (Nat.add_le_add h0 (jx pY hfl)) (by omega)
    .show((bP b s).ls++((cu b.atoms b.M' _ _ _ _ _).1).map _).length<=_;rw[iz,dd];exact jx (Nat.add_le_add h0 (jx pY hfl)) (by omega)
def jl(b:Bk):(bL b).length<=10000000000:=by
 unfold bL;split
 .simp
 .have h1:(qS (ZE b 1000000001 ⟨⟨0,0,true⟩,[]⟩ 0)).length=(ZE b 1000000001 ⟨⟨0,0,true⟩,[]⟩ 0).length:=by unfold qS;simp
  have:=vd b 1000000001 ⟨⟨0,0,true⟩,[]⟩ 0;omega
def GL{b:Bk}(hb:bJ b){t:X6}{no:Int}{p:Xd}(h:dH b t no=some p):p.hs.length<=1000000/\p.fs.length<=1000000/\p.ls.length<=2000000:=by
 unfold dH at h;split at h
 .split at h
  .simp only[aI]at h;subst h;simp
  .cases h
 .split at h
  .cases h
  .split at h
   .cases h
   .rename_i he;split at h
    .simp only[aI]at h;subst h;simp
    .simp only[aI]at h;subst h;exact Hm hb he
def j8{l:List Nd}(hl:cT l){w h:Int}(he:cE l w h=0):∀p∈bL (aP l w h),p.hs.length<=1000000/\p.fs.length<=1000000/\p.ls.length<=2000000:=λp hp=>by
 obtain⟨i,hi⟩:=DE hp;have:=(mC hl he i (by have:=(jn.1 hi).1;omega)).1;exact GL (de hl he) (this.trans hi)
def Ja:∀(U:ag) (i:Nat) (h:i<([]:List Xd).length),bp U 5 .ay (.int .i64 i)=some (.rp (aL ([]:List Xd)[i])):=λ_ i h=>absurd h (by simp)
def Lu(x:Int×Int):V:=.agg [vI x.1,vI x.2]
def zI{R r:List Xd}{j:Nat}(h:R.take j=r.take j)(hj:j<=R.length)(hj2:j<=r.length):jA R r 0=jA (R.drop j) (r.drop j) j:=by
 have key:∀(j:Nat) (R r:List Xd) (i:Nat),R.take j=r.take j->j<=R.length->j<=r.length->jA R r i=jA (R.drop j) (r.drop j) (i+j):=by
  intro j
  induction j with
  |zero=>intro R r i _ _ _;rfl
  |succ j ih=>
   intro R r i h h1 h2;cases R with
   |nil=>simp at h1
   |cons a R=>
    cases r with
    |nil=>simp at h2
    |cons p r=>
     simp only[px,List.cons.injEq]at h;obtain⟨rfl,h⟩:=h;rw[jA,aq rfl,ih R r (i+1) h (by simpa using h1) (by simpa using h2),Em,Em,show i+1+j=i+(j+1) by omega]
 have:=key j R r 0 h hj hj2
 rwa [iV]at this
def I6(l:List Nd)(hl:cT l)(w h:Int)(vp:V)(P:List Xd)(hlP:cP false vp=some (.int .i64 P.length))(hiP:∀(U:ag) (i:Nat) (h:i<P.length),bp U 5 vp (.int .i64 i)=some (.rp (aL P[i])))
 (hPp:∀p∈P,pJ p)(hPl:P.length<=10000000000000):
 aK prog 10 [aC l,vI w,vI h,vp] (.WJ [if cE l w h=0 then Lu (jA (bL (aP l w h)) P 0)else Lu (0,0),vI (cE l w h)]):=λU=>by
 refine e10.r (by simp[c10]) ?_;have hs:=aa.refl U;have hbg:=Bf l hl w h;unfold Dd at hbg;have XP:∀p:Xd,(aL p).cells=[vI p.no,vI p.kind,aE p.hs,aE p.fs,aE p.ls]:=λ_=>rfl;have ZP:∀p:Xd,(aL p).stays=true:=λ_=>rfl;have ldP:∀(U:ag) (p:Xd),bF U true 5 (.rp (aL p))=some (aL p):=λ_ _=>rfl;refine ab.mix 20 ?_;apply sR;simp only[go_sem,seval,c10];refine ad λi8 Z8 s8 a8 f8=>?_;have z8:=hs.none f8;replace hs:=hs.trans s8;simp only[go_sem,seval];refine ab.au rfl rfl rfl (hbg _) ?_;by_cases he:cE l w h=0
 .have hb:=de hl he;have hbt:=λi=>mC hl he i;have hrl:=j8 hl he;have hrb:=tV hl he;have hPR:=jl (aP l w h);rw[aq he,aq he,he];generalize aP l w h=b at*;generalize bL b=R at*;have q0:((0:Int)≠0)=False:=O' (λh=>h rfl);have htb:=qx (P:=R) λp hp=>(hrl p hp).2;apply sR;simp only[go_sem,seval];refine ad λXk Z10 YP Xy f10=>?_;have n810:=al a8 f10;replace a8:=YP _ _ a8;have z10:=hs.none f10;replace hs:=hs.trans YP;simp only[go_sem,seval,Xy,q0,dJ,o5];generalize YB:C' _ Xk _=Y10;replace Xy:=(congrFun YB Xk).symm.trans af;replace a8:=((congrFun YB i8).symm.trans (ae n810)).trans a8;replace hs:=Eq.subst (motive:=aa _) YB (hs.av z10);clear YB;have hsO:=hs;refine ab.call rfl rfl rfl (EF b .ay [] rfl Ja (by simp) (by simp) _) ?_;rintro r Z' ⟨i,im,rfl,hJ⟩;have e0:cd .nil ([]:List Xd) ([]:List Xd).length=cd .nil R 0:=rfl;rw[e0]at hJ;generalize hV:jA R P 0=VV;apply sR;simp only[go_sem,seval,hlP];refine ab.eG (λst=>P.length<=R.length/\R.take P.length=P/\eW b (cd .nil R P.length) Y10 st.U i im/\st.s 3=vp/\st.s 8=.ptr i8 0 0/\st.s 12=.ptr i 0 0)
   (λm st=>∃j:Nat,j<=P.length/\m=P.length-j/\j<=R.length/\R.take j=P.take j/\eW b (cd .nil R j) Y10 st.U i im/\st.s 3=vp/\st.s 8=.ptr i8 0 0/\st.s 12=.ptr i 0 0/\st.s 33=vp/\st.s 34=vI P.length/\st.s 35=vI j) P.length ?_ ?_ ?_
  .exact⟨0,by omega,rfl,by omega,rfl,hJ,rfl,rfl,rfl,rfl,rfl,rfl⟩
  .rintro m ⟨S,ω⟩ ⟨j,hj,rfl,hjR,XB,hJ,t3,t8,t12,t33,t34,t35⟩;simp only at hJ t3 t8 t12 t33 t34 t35;refine ab.mix 20 ?_;by_cases H':j<P.length
   .have q1:((j:Int)<P.length)=True:=WE;have hi:=λU=>hiP U j H';have hpl:=hPp _ (XI H');have hvs:=zI XB hjR (by omega);rw[hV,gF H']at hvs;have htP:=ZS H';have hbtj:=(hbt j hjR).1;obtain⟨b3,b4,b5⟩:=htb j;have hac:=λ{V':ag} (hs:aa ω V')=>vS b hb (cd .nil R j) ((j:Int)+1) (by omega) (hJ.mono hs);have r1:WR .i64 ((j:Int)+1):=ai;generalize P[j]=p at*;have hs:=aa.refl ω;apply sR;simp only[go_sem,seval,t33,t34,t35,q1,hi,ldP];refine ad λi14 Z14 s14 a14 f14=>?_;have z14:=hs.none f14;replace hs:=hs.trans s14;simp only[go_sem,seval,a14,t12,r1,XP,ZP];generalize hq14:C' _ i14 _=Y14;replace a14:=(congrFun hq14 i14).symm.trans af;replace hs:=Eq.subst (motive:=aa _) hq14 (hs.av z14);clear hq14;refine ab.au rfl rfl rfl (hac hs) ?_;rw[hbtj];have ZL:=hJ.sub;cases hR:R[j]? with
    |none=>
     have hRl:=L8.1 hR;rw[xF hRl,jA]at hvs;apply sR;simp only[go_sem,seval];refine ad λi15 Y15 s15 a15 f15=>?_;have n1415:=al a14 f15;replace a14:=s15 _ _ a14;have z15:=hs.none f15;replace hs:=hs.trans s15;simp only[go_sem,seval,a15,XP,ZP];generalize Yk:C' _ i15 _=Z15;replace a15:=(congrFun Yk i15).symm.trans af;replace a14:=((congrFun Yk i14).symm.trans (ae n1415)).trans a14;replace hs:=Eq.subst (motive:=aa _) Yk (hs.av z15);clear Yk;have b8:=(ZL.trans hs) _ _ a8;simp only[go_sem,seval,t8,b8,r1,Option.isSome_none];rw[hvs];exact ak.pure ((hsO.trans (ZL.trans hs)).av z8) rfl
    |some a=>
     obtain⟨hRl,hRa⟩:=jn.1 hR;have ha:x6 b (cd .nil R j) ((j:Int)+1)=a:=yU (hbtj.trans hR);rw[ha];rw[gF hRl,hRa,jA]at hvs;have hjb:=GB a p hpl;apply sR;simp only[go_sem,seval];refine ad λi15 Y15 s15 a15 f15=>?_;have n1415:=al a14 f15;replace a14:=s15 _ _ a14;have z15:=hs.none f15;replace hs:=hs.trans s15;simp only[go_sem,seval,a15,XP,ZP];generalize Yk:C' _ i15 _=Z15;replace a15:=(congrFun Yk i15).symm.trans af;replace a14:=((congrFun Yk i14).symm.trans (ae n1415)).trans a14;replace hs:=Eq.subst (motive:=aa _) Yk (hs.av z15);clear Yk;simp only[go_sem,seval,a14,XP];refine ab.au rfl rfl rfl (hjb _) ?_;have hz:=BF (j:=a) (p:=p) (hrb a (by rw[<-hRa];exact XI hRl));have hrg:=DF a p;by_cases hap:a=p
     .rw[aq hap]at hvs;have hb0:fi a p=0:=hz.2 hap;have q2:((0:Int)>0)=False:=O';rw[hb0];obtain⟨-,l2,l3⟩:=hrl a (by rw[<-hRa];exact XI hRl);rw[hap]at l2 l3;apply sR;simp only[go_sem,seval,t12,q2,a14,XP];refine ab.call rfl rfl rfl (AH b _ p (by omega) (by omega) (λn=>by have:=b5 n;omega) (by omega) (hJ.mono hs)) ?_;rintro r Z'' ⟨rfl,YL⟩;have hts:cd .nil R (j+1)=eX (cd .nil R j) p:=by rw[<-hap];exact sd hR
      rw[<-hts]at YL;apply sR;simp only[go_sem,seval,t3,t8,t12,t33,t34,t35,r1];exact⟨_,by omega,j+1,by omega,rfl,by omega,by rw[htP,ZS hRl,hRa,XB,hap],YL,by simp⟩
     .rw[ao hap]at hvs;have hb0:fi a p≠0:=λe=>hap (hz.1 e);have q2:(fi a p>0)=True:=WE;have b8:=(ZL.trans hs) _ _ a8;apply sR;simp only[go_sem,seval,t8,q2,r1,b8];rw[hvs];exact ak.pure ((hsO.trans (ZL.trans hs)).av z8) rfl
   .have q1:((j:Int)<P.length)=False:=O';have Yq:j=P.length:=by omega
    subst Yq;rw[iR]at XB;apply sR;simp only[go_sem,seval,t34,t35,t3,t8,t12,q1];exact⟨hjR,XB,hJ⟩
  .rintro⟨S,ω⟩ ⟨hjR,XB,hJ,t3,t8,t12⟩;simp only at hJ t3 t8 t12;refine ab.mix 20 ?_;have r1:WR .i64 ((P.length:Int)+1):=ai;have hvs:=zI (by rw[XB,iR]) hjR (Xm _);rw[hV,zN]at hvs;have hbtj:=(hbt _ hjR).1;have hs:=aa.refl ω;have ZL:=hJ.sub;apply sR;simp only[go_sem,seval,t3,t12,hlP,r1];refine ab.au rfl rfl rfl (vS b hb (cd .nil R P.length) ((P.length:Int)+1) (by omega) hJ) ?_;rw[hbtj];cases hR:R[P.length]? with
   |none=>
    have hRl:=L8.1 hR;rw[xF hRl,jA]at hvs;apply sR;simp only[go_sem,seval];refine ad λi18 Z18 s18 a18 f18=>?_;have z18:=hs.none f18;replace hs:=hs.trans s18;simp only[go_sem,seval,a18,XP,ZP];generalize hq18:C' _ i18 _=Y18;replace a18:=(congrFun hq18 i18).symm.trans af;replace hs:=Eq.subst (motive:=aa _) hq18 (hs.av z18);clear hq18;have b8:=(ZL.trans hs) _ _ a8;simp only[go_sem,seval,t8,b8,Option.isSome_none];rw[hvs];exact ak.pure ((hsO.trans (ZL.trans hs)).av z8) rfl
   |some a=>
    obtain⟨hRl,hRa⟩:=jn.1 hR;rw[gF hRl,jA]at hvs;apply sR;simp only[go_sem,seval];refine ad λi18 Z18 s18 a18 f18=>?_;have z18:=hs.none f18;replace hs:=hs.trans s18;simp only[go_sem,seval,a18,XP,ZP];generalize hq18:C' _ i18 _=Y18;replace a18:=(congrFun hq18 i18).symm.trans af;replace hs:=Eq.subst (motive:=aa _) hq18 (hs.av z18);clear hq18;have b8:=(ZL.trans hs) _ _ a8;simp only[go_sem,seval,t3,t8,b8,hlP,r1];rw[hvs];exact ak.pure ((hsO.trans (ZL.trans hs)).av z8) rfl
 .rw[ao he,ao he];have q:(cE l w h≠0)=True:=WE he;generalize cE l w h=E at*;have hdz:D4.cells=[.XY,.ay,.ay,vI 0,.ay]:=rfl;have hds:D4.stays=true:=rfl;apply sR;simp only[go_sem,seval];refine ad λXk Z10 YP Xy f10=>?_;have n810:=al a8 f10;replace a8:=YP _ _ a8;have z10:=hs.none f10;replace hs:=hs.trans YP;simp only[go_sem,seval,Xy,a8,hdz,hds,q,ae n810];exact ak.pure ((hs.av z10).av z8) rfl
open Go.Proofs Go.Proofs.Tryz
def eW.less{b:Bk}{t:X6}{K K' U:ag}{i im:Nat}(h:eW b t K' U i im)(hk:aa K K'):eW b t K U i im:=⟨h.row,h.mp,hk.none h.ni,hk.none h.nm,hk.trans h.sub⟩
def eW.neK{b:Bk}{t:X6}{K U:ag}{i im j:Nat}{o:Ob}(h:eW b t K U i im)(hj:K j=some o):j≠i/\j≠im:=by
 constructor
 .intro e;rw[e,h.ni]at hj;cases hj
 .intro e;rw[e,h.nm]at hj;cases hj
def ze(P:List Xd):∀(U:ag) (i:Nat) (h:i<P.length),bp U 5 (bT P) (.int .i64 i)=some (.rp (aL P[i])):=λ_ _ h=>oR h
def vF{P:List Xd}{k:Nat}(h:k<=P.length):∀U,eK U 5 (bT P) none (some (.int .i64 k)) none=some (bT (P.take k)):=λU=>by
 have h1:(k:Int)<=P.length:=by omega
 simp only[bT,eK,bX,dd];rw[aq ⟨Int.le_refl _,by omega,by omega,by omega,trivial⟩];simp
def LK{s:Nat->V}{U:ag}{a1:Bool}{n1 d e t:Nat}{Post:V->ag->Prop}:
 Ret [.tmp (.t t),.cell a1 n1 (.t d),.tmp (.t e)] ⟨s,U⟩ Post=dy (bF U a1 n1 (s d)) λv=>ak (.WJ [s t,v,s e]) U Post:=by
 unfold Ret ak oN;simp only[eJ,gE,VX.ev];cases bF U a1 n1 (s d)<;>simp[dy]
def Jd(l:List Nd)(hl:cT l)(w h:Int)(he:cE l w h=0)(k:Nat)(hk:k<=(bL (aP l w h)).length)(P:List Xd)(hkP:k<=P.length)(hP:P.take k=(bL (aP l w h)).take k)(U:ag):
 ax prog 32 [aC l,vI w,vI h,bT P,vI k] U λr Z'=>∃i im,r=.WJ [.ptr i 0 0,bC (mO (aP l w h) (cd .nil (bL (aP l w h)) k)),vI 0]/\eW (aP l w h) (cd .nil (bL (aP l w h)) k) U Z' i im:=by
 refine e32.r (by simp[c32]) ?_;have hs:=aa.refl U;have hbg:=Bf l hl w h;unfold Dd at hbg;rw[aq he,he]at hbg;have hb:=de hl he;have hbt:=(mC hl he k hk).2;have hrl:=j8 hl he;have hPR:=jl (aP l w h);generalize aP l w h=b at*;generalize bL b=R at*;have hlR:=kQ P;have q0:((0:Int)≠0)=False:=O' (λh=>h rfl);have q1:((k:Int)<0)=False:=O';have q2:((k:Int)>P.length)=False:=O';have hsl:=vF hkP;rw[hP]at hsl;have ht:cd .nil (R.take k) (R.take k).length=cd .nil R k:=by
  unfold cd;rw[iR]
 have hJt:=λU=>EF b (bT (R.take k)) (R.take k) (kQ _) (ze _) (λp hp=>(hrl p (qp hp)).2) (by rw[gO];omega) U;rw[ht]at hJt;refine ab.mix 19 ?_;apply sR;simp only[go_sem,seval,c32];refine ad λYm Z11 s11 Zk f11=>?_;have z11:=hs.none f11;replace hs:=hs.trans s11;simp only[go_sem,seval];refine ab.au rfl rfl rfl (hbg _) ?_
 (refine ab.bt Yp.nothing 30 ?_;simp only[go_sem,seval])
 refine ad λi13 Y13 s13 Yr f13=>?_;have n1113:=al Zk f13;replace Zk:=s13 _ _ Zk;have z13:=hs.none f13;replace hs:=hs.trans s13;simp only[go_sem,seval,Yr,dJ,o5,q0,q1,q2,hlR,jF];generalize ZY:C' _ i13 _=Z13;replace Yr:=(congrFun ZY i13).symm.trans af;replace Zk:=((congrFun ZY Ym).symm.trans (ae n1113)).trans Zk;replace hs:=Eq.subst (motive:=aa _) ZY (hs.av z13);clear ZY;refine ab.QS [4] rfl (XC.go 4 ?_);apply sG;simp only[BB,seval,bf,ez,aF,ft,Yp.nothing,Yr,hsl,dJ];have hsO:=hs;refine XC.call (by decide) rfl rfl rfl (hJt _) ?_;rintro r Z' ⟨i,im,rfl,hJ⟩;refine XC.go 1 ?_;apply sG;simp only[go_sem,seval,px,List.take_zero];refine XC.nil ?_;have n11:=(hJ.neK Zk).1;have n11m:=(hJ.neK Zk).2;replace Zk:=hJ.sub _ _ Zk;have WY:ga b (cd .nil R k)=true:=by
  cases h:stateT b (cd .nil R k)with
  |none=>rw[h]at hbt;cases hbt
  |some s=>exact(tr h).2
 have hcs:=BO b hb.toBkOk (cd .nil R k) hJ;generalize mO b (cd .nil R k)=sv at*;rw[WY]at hcs;replace hs:=aa.refl Z';apply sR;simp only[go_sem,seval];refine ab.au rfl rfl rfl hcs ?_;apply sR;simp only[go_sem,seval];refine ad λi16 Z16 s16 a16 f16=>?_;have n1116:=al Zk f16;replace Zk:=s16 _ _ Zk;have z16:=hs.none f16;replace hs:=hs.trans s16;simp only[go_sem,seval,a16,bu,eZ];generalize hq16:C' _ i16 _=Y16;replace a16:=(congrFun hq16 i16).symm.trans af;replace Zk:=((congrFun hq16 Ym).symm.trans (ae n1116)).trans Zk;replace hs:=Eq.subst (motive:=aa _) hq16 (hs.av z16);clear hq16;have hJ6:=hJ.mono hs;simp only[go_sem,seval,Zk,LK];exact⟨_,_,aa.refl _,Wk.refl (aa.refl _) _,i,im,rfl,(hJ6.less hsO).C' n11 n11m ((hsO.trans hJ6.sub).av z11)⟩
open Go.Proofs Go.Proofs.Tryz
def GG(U:ag)(i im:Nat):ag:=λj=>if j=i\/j=im then none else U j
def nG{U:ag}{i im j:Nat}(h1:j≠i)(h2:j≠im):GG U i im j=U j:=ao λh=>h.elim h1 h2
def eW.off{b:Bk}{t:X6}{K U:ag}{i im:Nat}(h:eW b t K U i im):eW b t (GG U i im) U i im:=⟨h.row,h.mp,aq (.inl rfl),aq (.inr rfl),λj o hj=>by
 unfold GG at hj;split at hj
 .cases hj
 .exact hj⟩
def eW.Mi{b:Bk}{t:X6}{K U:ag}{i im:Nat}(h:eW b t K U i im):aa K (GG U i im):=λj o hj=>by
 obtain⟨h1,h2⟩:=h.neK hj;rw[nG h1 h2];exact h.sub _ _ hj
def eW.lV{b:Bk}{t:X6}{K K2 ω V':ag}{i im:Nat}(h:eW b t K ω i im)(hk:∀j,K2 j≠none->∀o,ω j=some o->V' j=some o)(hi:K2 i≠none)(hm:K2 im≠none)(hs:aa K V'):eW b t K V' i im:=by
 obtain⟨es,ck,env,g1,g2⟩:=h.mp;exact⟨hk _ hi _ h.row,⟨es,ck,env,hk _ hm _ g1,g2⟩,h.ni,h.nm,hs⟩
def G8(l:List Nd)(hl:cT l)(w h:Int)(he:cE l w h=0)(k:Nat)(hk:k<=(bL (aP l w h)).length)(P:List Xd)(hkP:k<=P.length)(hP:P.take k=(bL (aP l w h)).take k)(U:ag):
 ax prog 13 [aC l,vI w,vI h,bT P,vI k] U λr Z'=>∃v,r=.WJ [v,vI 0]/\aa U Z'/\aM U Z' 37 5 v (((bL (aP l w h)).drop k).map aL):=by
 refine e13.r (by simp[c13]) ?_;have hf:=λU=>Jd l hl w h he k hk P hkP hP U;have hb:=de hl he;have hbt:=λi=>mC hl he i;have hrl:=j8 hl he;have hPR:=jl (aP l w h);generalize aP l w h=b at*;generalize bL b=R at*;have htb:=qx (P:=R) λp hp=>(hrl p hp).2;have XP:∀p:Xd,(aL p).cells=[vI p.no,vI p.kind,aE p.hs,aE p.fs,aE p.ls]:=λ_=>rfl;have ZP:∀p:Xd,(aL p).stays=true:=λ_=>rfl;generalize mO b (cd .nil R k)=sv at*;have q0:((0:Int)≠0)=False:=O' (λh=>h rfl);have r0:WR .i64 ((k:Int)+1):=ai;refine ab.mix 19 ?_;apply sR;simp only[go_sem,seval,c13];refine ab.call rfl rfl rfl (hf _) ?_;rintro r Z' ⟨i,im,rfl,hJ⟩;apply sR;simp only[go_sem,seval];replace hs:=aa.refl Z';refine ad λi13 Y13 s13 Yr f13=>?_;have z13:=hs.none f13;replace hs:=hs.trans s13;simp only[go_sem,seval,Yr,bu,eZ,q0,r0];generalize ZY:C' _ i13 _=Z13;replace Yr:=(congrFun ZY i13).symm.trans af;replace hs:=Eq.subst (motive:=aa _) ZY (hs.av z13);clear ZY;have hJ3:=hJ.mono hs;have hK13:=hJ3.sub;have hK2i:Z13 i≠none:=by rw[hJ3.row];simp
 have hK2m:Z13 im≠none:=by obtain⟨es,ck,env,g1,-⟩:=hJ3.mp;rw[g1];simp
 refine ab.loop (λm st=>∃(j:Nat) (v:V),j<=R.length/\k<=j/\m=R.length-j/\eW b (cd .nil R j) U st.U i im/\aM Z13 st.U 37 5 v (((R.take j).drop k).map aL)/\aa (GG Z13 i im) st.U/\st.s 12=.ptr i 0 0/\st.s 15=v/\st.s 16=vI ((j:Int)+1)) (R.length-k) ?_ ?_
 .exact⟨k,.ay,hk,Xm _,rfl,hJ3,by rw[xF (by rw[gO];omega)];exact aM.start,hJ3.off.sub,rfl,rfl,rfl⟩
 .rintro m ⟨S,ω⟩ ⟨j,v,hj,hkj,rfl,hJ,ho,G',t12,t15,t16⟩;simp only at hJ ho G' t12 t15 t16;refine ab.mix 19 ?_;have hbtj:=(hbt j hj).1;have r1:WR .i64 ((j:Int)+1+1):=ai;obtain⟨b3,b4,b5⟩:=htb j;apply sR;simp only[go_sem,seval,t12,t16];refine ab.au rfl rfl rfl (vS b hb (cd .nil R j) ((j:Int)+1) (by omega) hJ) ?_;rw[hbtj];have hs:=aa.refl ω;cases hR:R[j]? with
  |none=>
   have hRl:=L8.1 hR;apply sR;simp only[go_sem,seval];refine ad λi17 Y17 s17 a17 f17=>?_;have z17:=hs.none f17;replace hs:=hs.trans s17;simp only[go_sem,seval,a17,t15,XP,ZP,Option.isSome_none];have hjR:R.take j=R:=lg hRl;rw[hjR]at ho;have Yu:=hs.av (o:=⟨37,5,[aL (x6 b (cd .nil R j) ((j:Int)+1))]⟩) z17;exact⟨_,_,aa.refl _,Wk.refl (aa.refl _) _,v,rfl,hJ.sub.trans Yu,(ho.Nf hK13).mono Yu⟩
  |some p=>
   obtain⟨hRl,hRa⟩:=jn.1 hR;have ha:x6 b (cd .nil R j) ((j:Int)+1)=p:=yU (hbtj.trans hR);rw[ha];obtain⟨hvc,hvs⟩:=ho.vc;apply sR;simp only[go_sem,seval];refine ad λi17 Y17 s17 a17 f17=>?_;have z17:=hs.none f17;replace hs:=hs.trans s17;simp only[go_sem,seval,a17,t15,XP,ZP];generalize hq17:C' _ i17 _=Z17;replace a17:=(congrFun hq17 i17).symm.trans af;replace hs:=Eq.subst (motive:=aa _) hq17 (hs.av z17);clear hq17;refine ad λi91 Z91 s91 a91 f91=>?_;have hlen:((R.take j).drop k).length<=10000000000:=by rw[oG,gO];omega
   obtain⟨WW,Yj,hdA⟩:=ho.Qp (hs.trans s91);have XW:((((R.take j).drop k).map aL).length+1)*89<=140737488355328:=by rw[dd];omega
   generalize Xo:((R.take j).drop k).map aL=rows at*;simp only[go_sem,seval,Yj,du a91,XW];refine eF λi92 Z92 s92 a92 f92=>?_;have dne:∀q,Z13 q≠none->Vc.bz Z91 WW q=Z91 q:=λq hq=>by
    cases WW with
    |none=>rfl
    |some a=>exact dg λe=>hq (by rw[e];exact(hdA a rfl).1)
   have Yl:∀q,Z13 q≠none->∀o,ω q=some o->Z92 q=some o:=λq hq o h=>s92 _ _ ((dne q hq).trans ((hs.trans s91) _ _ h));have c17:Z92 i17=some ⟨37,5,[aL p]⟩:=by
    refine s92 _ _ (Eq.trans ?_ (s91 _ _ a17));cases WW with
    |none=>rfl
    |some a=>exact dg λe=>by obtain⟨o,ho⟩:=(hdA a rfl).2.1;rw[<-e,z17]at ho;cases ho
   have YL:=hJ.lV Yl hK2i hK2m λq o hq=>Yl q (by rw[hK13 _ _ hq];simp) _ (hJ.sub _ _ hq);have n92:i92≠i:=λe=>by rw[e]at f92;have:=(hs.trans s91) _ _ hJ.row;rw[f92]at this;cases this
   have n92m:i92≠im:=λe=>by
    obtain⟨es,ck,env,g1,-⟩:=hJ.mp;rw[e]at f92;have:=(hs.trans s91) _ _ g1;rw[f92]at this;cases this
   have k92:Z13 i92=none:=by
    have:=((G'.trans hs).trans s91).none f92
    rwa [nG n92 n92m]at this
   obtain⟨-,l2,l3⟩:=hrl p (by rw[<-hRa];exact XI hRl);simp only[go_sem,seval,t12,c17,XP];refine ab.call rfl rfl rfl (AH b _ p (by omega) (by omega) (λn=>by have:=b5 n;omega) (by omega) YL.off) ?_;rintro r Z'' ⟨rfl,hJ''⟩;rw[<-sd hR]at hJ'';have ho2:aM Z13 Z'' 37 5 (.own i92 0 (rows.length+1)) (((R.take (j+1)).drop k).map aL):=by
    have XB:(R.take (j+1)).drop k=(R.take j).drop k++[p]:=by
     rw[ZS hRl,hRa,Eb (by rw[gO];omega)]
    rw[XB,gB,Xo];refine aM.new (by simp) (hJ''.sub _ _ ?_) k92;rw[nG n92 n92m];exact a92
   apply sR;simp only[go_sem,seval,t12,t16,r1];exact⟨_,by omega,j+1,.own i92 0 (rows.length+1),by omega,by omega,rfl,hJ''.less YL.Mi,ho2,λq o hq=>by
    unfold GG at hq;split at hq
    .cases hq
    .rename_i hn;refine hJ''.sub _ _ ?_;rw[nG (λe=>hn (.inl e)) (λe=>hn (.inr e))];exact Yl q (by rw[hq];simp) _ (G' _ _ (by rw[nG (λe=>hn (.inl e)) (λe=>hn (.inr e))];exact hq)),by simp⟩
def El(l:List Nd)(hl:cT l)(w h:Int)(he:cE l w h=0)(k:Nat)(hk:k<=(bL (aP l w h)).length)(P:List Xd)(hkP:k<=P.length)(hP:P.take k=(bL (aP l w h)).take k):
 aK prog 13 [aC l,vI w,vI h,bT P,vI k] (.WJ [bT ((bL (aP l w h)).drop k),vI 0]):=λU=>by
 refine(G8 l hl w h he k hk P hkP hP U).Gh λr Z' h=>?_;obtain⟨v,rfl,hs,ho⟩:=h;exact⟨_,U,hs,Fz.wk (N:=λid=>U id=none) (.WJ _ _ (.cons _ _ _ _ (ho.PY (λid h=>h) (YX.same _ (kE (f:=aL) oH _))) (.cons _ _ _ _ (.same _ rfl) .nil))) hs (λ_ h=>h),rfl,rfl⟩
open Go.Proofs Go.Proofs.Tryz
def KV(p:Xd):∀U:ag,bF U true 5 (.rp (aL p))=some (aL p):=λ_=>rfl
def fD(p:Xd):(aL p).cells=[vI p.no,vI p.kind,aE p.hs,aE p.fs,aE p.ls]:=rfl
def sk(p:Xd):(aL p).stays=true:=rfl
def sx(a b:List Xs)(h:a.length<=2000000):aK prog 31 [aE a,aE b] (.bool (decide (a=b))):=
 Mc func31 (sz:=7) (ks:=[0,0,0,0,0,0,0]) (e31.b.trans rfl) e31.c bl Jg (λ_ _=>rfl) a b (by omega)
def Fu(p q:Xd)(hp:p.hs.length<=2000000/\p.fs.length<=2000000/\p.ls.length<=2000000):aK prog 12 [aL p,aL q] (.bool (decide (p=q))):=λU=>by
 refine e12.r (by simp[c12]) ?_;have hs:=aa.refl U;have c1:=sx p.hs q.hs hp.1;have c2:=sx p.fs q.fs hp.2.1;have c3:=sx p.ls q.ls hp.2.2;generalize hX:decide (p=q)=X;have hX':(p.no=q.no/\p.kind=q.kind/\p.hs=q.hs/\p.fs=q.fs/\p.ls=q.ls)↔p=q:=by cases p;cases q;simp
 refine ab.mix 5 ?_;apply sR;simp only[go_sem,seval,c12,fD,sk];refine ad λi2 Z2 s2 a2 f2=>?_;replace hs:=hs.trans s2;simp only[go_sem,seval,fD,sk];refine ad λi3 Z3 s3 a3 f3=>?_;replace a2:=s3 _ _ a2;replace hs:=hs.trans s3;by_cases h1:p.no=q.no
 .have q1:(p.no=q.no)=True:=WE h1;by_cases h2:p.kind=q.kind
  .have q2:(p.kind=q.kind)=True:=WE h2;simp only[go_sem,seval,a2,a3,q1,q2,fD];refine ab.au rfl rfl rfl (c1 _) ?_;by_cases h3:p.hs=q.hs
   .rw[XJ h3];apply sR;simp only[go_sem,seval,a2,a3,fD];refine ab.au rfl rfl rfl (c2 _) ?_;by_cases h4:p.fs=q.fs
    .rw[XJ h4];apply sR;simp only[go_sem,seval,a2,a3,fD];refine ab.au rfl rfl rfl (c3 _) ?_;by_cases h5:p.ls=q.ls
     .rw[XJ h5];apply sR;simp only[go_sem,seval];exact ak.pure hs (by rw[<-hX,XJ (hX'.1 ⟨h1,h2,h3,h4,h5⟩)])
     .rw[Xr h5];apply sR;simp only[go_sem,seval];exact ak.pure hs (by rw[<-hX,Xr λh=>h5 (hX'.2 h).2.2.2.2])
    .rw[Xr h4];apply sR;simp only[go_sem,seval];exact ak.pure hs (by rw[<-hX,Xr λh=>h4 (hX'.2 h).2.2.2.1])
   .rw[Xr h3];apply sR;simp only[go_sem,seval];exact ak.pure hs (by rw[<-hX,Xr λh=>h3 (hX'.2 h).2.2.1])
  .have q2:(p.kind=q.kind)=False:=O' h2;simp only[go_sem,seval,a2,a3,q1,q2,fD];exact ak.pure hs (by rw[<-hX,Xr λh=>h2 (hX'.2 h).2.1])
 .have q1:(p.no=q.no)=False:=O' h1;simp only[go_sem,seval,a2,a3,q1,fD];exact ak.pure hs (by rw[<-hX,Xr λh=>h1 (hX'.2 h).1])
def Jc(xs ys:List Xd)(hx:xs.length<=10000000000)(hl:∀p∈xs,p.hs.length<=2000000/\p.fs.length<=2000000/\p.ls.length<=2000000):aK prog 11 [bT xs,bT ys] (.bool (decide (xs=ys))):=λU=>by
 refine e11.r (by simp[c11]) ?_;have n1:=kQ xs;have n2:=kQ ys;refine ab.mix 6 ?_;by_cases hlen:xs.length=ys.length
 .have q:((xs.length:Int)≠ys.length)=False:=O';apply sR;simp only[go_sem,seval,c11,n1,n2,q];refine ab.loop (λm st=>∃j,j<=xs.length/\m=xs.length-j/\xs.take j=ys.take j/\st.s 0=bT xs/\st.s 1=bT ys/\st.s 5=.int .i64 j/\st.U=U) xs.length ⟨0,by omega,rfl,rfl,rfl,rfl,rfl,rfl⟩ ?_;rintro m ⟨S,Z'⟩ ⟨j,hj,rfl,ht,t0,t1,t5,W4⟩;simp only at t0 t1 t5 W4;subst W4;refine ab.mix 6 ?_;by_cases H':j<xs.length
  .have q1:((j:Int)<xs.length)=True:=WE;have hlt2:j<ys.length:=by omega
   have i1:=λU=>oR (U:=U) H';have i2:=λU=>oR (U:=U) hlt2;have hee:=Fu xs[j] ys[j] (hl _ (XI H'));have tx:=ZS H';have ty:=ZS hlt2;have r1:WR .i64 ((j:Int)+1):=ai;have hxy:xs[j]≠ys[j]->xs≠ys:=λhn h=>hn (by simp only[h]);generalize xs[j]=x at*;generalize ys[j]=y at*;have l1:=KV x;have l2:=KV y;apply sR;simp only[go_sem,seval,t0,t1,t5,n1,q1,i1,i2,l1,l2];refine Go.bw rfl rfl rfl hee ?_;by_cases hq:x=y
   .rw[XJ hq];apply sG;simp only[go_sem,seval,t0,t1,t5,r1];exact⟨_,by omega,j+1,by omega,rfl,by rw[tx,ty,ht,hq],by simp⟩
   .rw[Xr hq];apply sG;simp only[go_sem,seval];exact ak.same (by rw[Xr (hxy hq)])
  .have q1:((j:Int)<xs.length)=False:=O';apply sR;simp only[go_sem,seval,t0,t5,n1,q1];refine ak.same ?_;rw[lg (by omega),lg (by omega)]at ht;rw[XJ ht]
 .have q:((xs.length:Int)≠ys.length)=True:=WE;apply sR;simp only[go_sem,seval,c11,n1,n2,q];exact ak.same (by rw[Xr λh=>hlen (by rw[h])])
def sH{a b:Bk}(ha:bJ a)(hb:bJ b)(hw:a.w=b.w)(hh:a.h=b.h):∀(f:Nat) (s:XE) (n:Nat),gr a s->gr b s->∃L,L.length+n=lA a b f s n/\L <+: ZE a f s n/\L <+: ZE b f s n
 |0,_,n,_,_=>⟨[],by simp[lA],List.nil_prefix,List.nil_prefix⟩
 |f+1,s,n,hma,hmb=>by
  by_cases ea:cH a s
  .exact⟨[],by rw[lA,aq ea];simp,List.nil_prefix,List.nil_prefix⟩
  .by_cases hs:eO a b s (aG a s).1.kind
   .obtain⟨g1,g2,g3⟩:=Ho ha hb hw hh ea hs;have eb:¬cH b s:=λeb=>Kh ha hmb eb ea hs;have ma:=wA ha ea;have mb:=wA hb eb;have wa:=mr (b:=a) (s:=s) ((n:Int)+1);have wb:=mr (b:=b) (s:=s) ((n:Int)+1);have g3':=g3 ((n:Int)+1);rw[lA,ao ea,ao (show¬¬eO a b s (aG a s).1.kind from λh=>h hs),ZE,ZE,ao ea,ao eb];by_cases hsd:fv a (aG a s).1 s.s ((n:Int)+1)
    .rw[aq hsd,aq (wa.1 hsd),aq (wb.1 (g3'.1 hsd)),<-g1];obtain⟨L,l1,l2,l3⟩:=sH ha hb hw hh f (aG a s).2 (n+2) ma (by rw[g1];exact mb);rw[show((n+2:Nat):Int)=(n:Int)+2 by omega]at l2 l3;exact⟨none::some (aG a s).1::L,by simp only[XX];omega,by simpa using l2,by simpa using l3⟩
    .rw[ao hsd,ao λg=>hsd (wa.2 g),ao λg=>hsd (g3'.2 (wb.2 g)),<-g1];obtain⟨L,l1,l2,l3⟩:=sH ha hb hw hh f (aG a s).2 (n+1) ma (by rw[g1];exact mb);rw[show((n+1:Nat):Int)=(n:Int)+1 by omega]at l2 l3;exact⟨some (aG a s).1::L,by simp only[XX];omega,by simpa using l2,by simpa using l3⟩
   .exact⟨[],by rw[lA,ao ea,aq hs];simp,List.nil_prefix,List.nil_prefix⟩
def zj{L M:List (Option Xd)}(h:L <+: M):(qS M).take L.length=qS L:=by
 obtain⟨t,rfl⟩:=h;refine List.ext_getElem? λi=>?_;rw[List.getElem?_take,wN,wN];split
 .rename_i hi;rw[Cv hi]
 .rename_i hi;rw[oE (show L.length<=i by omega)];rfl
def yI{l m:List Nd}(hl:cT l)(hm:cT m){w h:Int}(e1:cE l w h=0)(e2:cE m w h=0):
 jO (aP l w h) (aP m w h)<=(bL (aP l w h)).length/\jO (aP l w h) (aP m w h)<=(bL (aP m w h)).length/\
 (bL (aP l w h)).take (jO (aP l w h) (aP m w h))=(bL (aP m w h)).take (jO (aP l w h) (aP m w h)):=by
 have ha:=de hl e1;have hb:=de hm e2;have ma:=rX _ ha.pos;have mb:=rX _ hb.pos;have hw:(aP l w h).w=(aP m w h).w:=rfl;have hh:(aP l w h).h=(aP m w h).h:=rfl;generalize aP l w h=a at*;generalize aP m w h=b at*;unfold jO bL;by_cases h1:(a.atoms.length:Int)+a.M'.length=0
 .rw[aq h1,aq h1];by_cases hs:eO a b ⟨⟨0,0,false⟩,[]⟩ 3
  .rw[aq hs];have h2:(b.atoms.length:Int)+b.M'.length=0:=by
    unfold eO at hs;rw[aq (.inl (by omega))]at hs;have:=congrArg List.length hs.2;have:=hs.1;omega
   rw[aq h2];simp
  .rw[ao hs];simp
 .rw[ao h1,ao h1];by_cases h2:(b.atoms.length:Int)+b.M'.length=0
  .have:lA a b 1000000001 ⟨⟨0,0,true⟩,[]⟩ 0=0:=by
    rw[lA];split
    .rfl
    .rw[aq];intro hs;unfold eO at hs;rw[aq (.inr (by omega))]at hs;have:=hs.1;have:=congrArg List.length hs.2;omega
   rw[this];simp
  .rw[ao h2];obtain⟨L,q1,q2,q3⟩:=sH ha hb hw hh 1000000001 ⟨⟨0,0,true⟩,[]⟩ 0 ma mb;simp only[Int.ofNat_zero,Nat.add_zero]at q1 q2 q3;rw[<-q1,wi,wi];exact⟨q2.length_le,q3.length_le,by rw[zj q2,zj q3]⟩
open Go.Proofs Go.Proofs.Tryz
def sT(l:List Xs)(h:l.length<=2000000):aK prog 76 [aE l] (aE l):=
 wQ func76 (e76.b.trans rfl) e76.c (l.map bl) (by simp;omega)
def qE{U:ag}{id e sz:Nat}{rows:List V}{j c:Nat}{p x:V}(h:U id=some ⟨e,sz,rows⟩)(hj:rows[j]?=some p)(hs:ec p c 1 x=some p):fI U 1 (.ptr id j c) x=some U:=by
 have hset:rows.set j p=rows:=by
  obtain⟨h1,h2⟩:=jn.1 hj;rw[<-h2,List.set_getElem_self]
 simp only[fI,h,hj,hs,hset,aI];funext i;simp only[C'];split
 .rename_i e;rw[e,h]
 .rfl
def OO(l:List Xd)(hl1:l.length<=1000000000000)(hl2:∀p∈l,p.hs.length<=2000000/\p.fs.length<=2000000/\p.ls.length<=2000000)(U:ag):
 ax prog 37 [bT l] U λr Z'=>aa U Z'/\aM U Z' 37 5 r (l.map aL):=by
 refine e37.r (by simp[c37]) ?_;refine ab.mix 6 ?_;apply sR;simp only[go_sem,seval,c37];refine ab.call rfl rfl rfl (oJ func75 (e75.b.trans rfl) e75.c (l.map aL) (by simp;omega) _) ?_;rintro v Z1 ⟨YR,ho⟩;have hlv:=ho.len;rw[dd]at hlv;apply sR;simp only[go_sem,seval,hlv];refine ab.loop (λm st=>∃j:Nat,j<=l.length/\m=l.length-j/\aa U st.U/\aM U st.U 37 5 v (l.map aL)/\st.s 3=v/\st.s 8=v/\st.s 9=vI l.length/\st.s 10=vI j) l.length ⟨0,by omega,rfl,YR,ho,rfl,rfl,rfl,rfl⟩ ?_;clear ho YR;rintro m ⟨s',J⟩ ⟨j,hj,rfl,hK,ho,h3,h8,h9,h10⟩;simp only at hK ho h3 h8 h9 h10;refine ab.mix 11 ?_;by_cases H':j<l.length
 .have hc:((j:Int)<l.length)=True:=WE;rcases ho with⟨-,hn⟩|⟨id,rfl,ha,hk⟩
  .have:=congrArg List.length hn;rw[dd,List.length_nil]at this;omega
  .obtain⟨p,hp⟩:∃p:Xd,l[j]?=some p:=⟨l[j],by simp[H']⟩
   have hpm:=hl2 p (yk hp);have hpr:(l.map aL)[j]?=some (aL p):=by simp[hp]
   have hix:∀X':ag,X' id=some ⟨37,5,l.map aL⟩->bp X' 5 (.own id 0 (l.map aL).length) (.int .i64 j)=some (.ptr id j 0):=λX' h=>by
    simp only[bp,h,dd];rw[aq ⟨trivial,by omega,by omega⟩];simp
   have hi:=hix J ha;have hld:bF J true 5 (.ptr id j 0)=some (aL p):=by simp only[bF,ha,hpr];rfl
   have c1:=sT p.hs hpm.1;have c2:=sT p.fs hpm.2.1;have c3:=sT p.ls hpm.2.2;have e1:ec (aL p) 2 1 (aE p.hs)=some (aL p):=rfl;have e2:ec (aL p) 3 1 (aE p.fs)=some (aL p):=rfl;have e3:ec (aL p) 4 1 (aE p.ls)=some (aL p):=rfl;have hs:=aa.refl J;have r1:WR .i64 ((j:Int)+1):=ai;apply sR;simp only[go_sem,seval,h8,h9,h10,hc,hi,hld];refine ad λi5 Z5 s5 a5 f5=>?_;have z5:=hs.none f5;replace hs:=hs.trans s5;simp only[go_sem,seval,a5,fD,sk];generalize X9:C' _ i5 _=Y5;replace a5:=(congrFun X9 i5).symm.trans af;replace hs:=Eq.subst (motive:=aa _) X9 (hs.av z5);clear X9;have ha5:=hs _ _ ha;have hi5:=hix _ ha5;have f1:=qE ha5 hpr e1;have f2:=qE ha5 hpr e2;have f3:=qE ha5 hpr e3;refine Go.bw rfl rfl rfl c1 ?_;apply sG;simp only[go_sem,seval,a5,h3,fD];refine Go.bw rfl rfl rfl c2 ?_;apply sG;simp only[go_sem,seval,a5,fD];refine Go.bw rfl rfl rfl c3 ?_;apply sG;simp only[BB,seval,bf,ez,aF,dV,iJ,lx,jW,Yp.nothing,h3,h8,h9,h10,hi5,f1,f2,f3,r1];exact⟨_,by omega,j+1,by omega,rfl,hK.trans hs,.inr ⟨id,rfl,ha5,hk⟩,by simp⟩
 .have hc:((j:Int)<l.length)=False:=O';apply sR;simp only[go_sem,seval,h3,h10,h9,hc];exact⟨_,_,aa.refl _,Wk.refl (aa.refl _) _,hK,ho⟩
def Sh(l m:List Nd)(hl:cT l)(hm:cT m)(w h:Int)(e1:cE l w h=0)(e2:cE m w h=0)(U:ag):
 ax prog 19 [aC l,aC m,vI w,vI h,bT (bL (aP l w h))] U λr Z'=>∃v,r=.WJ [v,vI (jO (aP l w h) (aP m w h):Nat),vI 0]/\aa U Z'/\aM U Z' 37 5 v ((bL (aP m w h)).map aL):=by
 refine e19.r (by simp[c19]) ?_;have hs:=aa.refl U;have hc:=yW l m hl hm w h;have he:iK l m w h=0:=by unfold iK;rw[ao (λk=>k e1)];exact e2
 unfold Fw at hc;rw[aq he,he]at hc;have ha:=de hl e1;have hb:=de hm e2;have hL:=mV e1;have XU:=ha.brk;have Zh:=ha.len;obtain⟨k1,k2,k3⟩:=yI hl hm e1 e2;have hrl:=j8 hl e1;have hrb:=tV hl e1;have hP1:=jl (aP l w h);have hP2:=jl (aP m w h);have ck:=I6 l hl w h (bT (bL (aP l w h))) _ (kQ _) (ze _) (λp hp=>by have:=hrl p hp;unfold pJ;omega) (by omega);rw[aq e1,(yL _ _ 0 hrb).2 rfl,e1]at ck;have hre:=El m hm w h e2 _ k2 _ k1 k3;have how:=λU=>OO ((bL (aP l w h)).take (jO (aP l w h) (aP m w h))) (by rw[gO];omega) (λp hp=>by have:=hrl p (qp hp);omega) U;have hsl:=vF k1;rw[k3]at how hsl;have hlk:=y7 (aP l w h) (aP m w h) (by omega) (by omega);have hmy:=FV (aP l w h) (aP m w h) ha hb hL;clear hrb hrl k3;generalize bL (aP l w h)=R1 at*;generalize bL (aP m w h)=R2 at*;generalize aP l w h=A at*;generalize aP m w h=B at*;generalize jO A B=k at*;have fnd_c:(Lu (0,0)).cells=[vI 0,vI 0]:=rfl;have fnd_s:(Lu (0,0)).stays=true:=rfl;have q0:((0:Int)≠0)=False:=O' (λh=>h rfl);have q00:((0:Int)=0)=True:=WE rfl;refine ab.mix 18 ?_;apply sR;simp only[go_sem,seval,c19];refine ab.au rfl rfl rfl (hc _) ?_;apply sR;simp only[go_sem,seval];refine ad λi13 Y13 s13 Yr f13=>?_;have z13:=hs.none f13;replace hs:=hs.trans s13;simp only[go_sem,seval,Yr,eN,AJ];generalize ZY:C' _ i13 _=Z13;replace Yr:=(congrFun ZY i13).symm.trans af;replace hs:=Eq.subst (motive:=aa _) ZY (hs.av z13);clear ZY;apply sR;simp only[go_sem,seval];refine ab.au rfl rfl rfl (ck _) ?_;apply sR;simp only[go_sem,seval];refine ad λi14 Z14 s14 a14 f14=>?_;have n1314:=al Yr f14;replace Yr:=s14 _ _ Yr;have z14:=hs.none f14;replace hs:=hs.trans s14;simp only[go_sem,seval,a14,fnd_c,fnd_s];generalize hq14:C' _ i14 _=Y14;replace a14:=(congrFun hq14 i14).symm.trans af;replace Yr:=((congrFun hq14 i13).symm.trans (ae n1314)).trans Yr;replace hs:=Eq.subst (motive:=aa _) hq14 (hs.av z14);clear hq14;simp only[go_sem,seval,Yr,eN];rw[<-tS];refine ab.au rfl rfl rfl (hlk _) ?_;apply sR;simp only[go_sem,seval];refine ab.au rfl rfl rfl (hmy _) ?_;apply sR;simp only[go_sem,seval];refine ab.au rfl rfl rfl (hre _) ?_;apply sR;simp only[BB,seval,bf,ez,aF,ft,DV,Yp.nothing,hsl];refine ab.call rfl rfl rfl (how _) ?_;rintro r Z2 ⟨ZM,ho⟩;obtain⟨WW,hd,X7⟩:=ho.dst (aa.refl _);have hsr:bI Z2 5 (bT (R2.drop k))=some ((R2.drop k).map aL):=by simp[bT,bI]
 have XM:(((R2.take k).map aL).length+((R2.drop k).map aL).length)*89<=140737488355328:=by simp only[dd,gO,oG];omega
 apply sR;simp only[go_sem,seval,hd,hsr,XM];refine eF λi57 Z57 s57 a57 f57=>?_;have XF:(R2.take k).map aL++(R2.drop k).map aL=R2.map aL:=by rw[<-gB,uR]
 have hlen:((R2.take k).map aL).length+((R2.drop k).map aL).length=(R2.map aL).length:=by rw[<-iz,XF]
 rw[XF]at a57;simp only[go_sem,seval];exact⟨_,_,aa.refl _,Wk.refl (aa.refl _) _,_,rfl,(X7 U hs Z2 (hs.trans ZM)).trans s57,aM.new hlen a57 ((hs.trans ZM).none f57)⟩
def P7(l m:List Nd)(hl:cT l)(hm:cT m)(w h:Int)(e1:cE l w h=0)(e2:cE m w h=0):
 aK prog 19 [aC l,aC m,vI w,vI h,bT (bL (aP l w h))] (.WJ [bT (bL (aP m w h)),vI (jO (aP l w h) (aP m w h):Nat),vI 0]):=λU=>by
 refine(Sh l m hl hm w h e1 e2 U).Gh λr Z' h=>?_;obtain⟨v,rfl,hs,ho⟩:=h;exact⟨_,U,hs,Fz.wk (N:=λid=>U id=none) (.WJ _ _ (.cons _ _ _ _ (ho.PY (λid h=>h) (YX.same _ (kE (f:=aL) oH _))) (.cons _ _ _ _ (.same _ rfl) (.cons _ _ _ _ (.same _ rfl) .nil)))) hs (λ_ h=>h),rfl,rfl⟩
open Go.Proofs Go.Proofs.Tryz
def M4(l:List Nd):Prop:=l.length<=1000000000000/\∀x∈l,x.words.length<=200000000000000
open Go.Proofs Go.Proofs.Tryz
def Ei(aw:aK prog 17 [] (.bool true))(a b:List Nd)(ha:M4 a)(hb:M4 b)(w h:Int)(hh:Aa h):
 aK prog 6 [aC a,aC b,vI w,vI h] (.bool true):=λU=>by
 refine e6.r (by simp[c6]) ?_;have va:=λU=>CR a ha.1 ha.2 h hh .ay [] rfl za (by simp) (λp hp=>by cases hp) U;have vb:=λU=>CR b hb.1 hb.2 h hh .ay [] rfl za (by simp) (λp hp=>by cases hp) U;refine ab.mix 19 ?_;apply sR;simp only[go_sem,seval,c6];refine ab.call rfl rfl rfl (va _) ?_;rintro r Z' ⟨⟨x,rfl,hx⟩,rfl⟩;cases x with
 |true=>
  apply sR;simp only[go_sem,seval];refine ab.au rfl rfl rfl (aw _) ?_;apply sR;simp only[go_sem,seval];exact ak.same rfl
 |false=>
  apply sR;simp only[go_sem,seval];refine ab.call rfl rfl rfl (vb _) ?_;rintro r Z2 ⟨⟨y,rfl,hy⟩,rfl⟩;cases y with
  |true=>
   apply sR;simp only[go_sem,seval];refine ab.au rfl rfl rfl (aw _) ?_;apply sR;simp only[go_sem,seval];exact ak.same rfl
  |false=>
   have fa:cT a:=⟨by have:=(hx rfl).1;omega,ha.2⟩
   have fb:cT b:=⟨by have:=(hy rfl).1;omega,hb.2⟩
   have s1:=ET a b fa fb w h;have pa:=zH a fa w h;have pb:=zH b fb w h;have q0:((0:Int)≠0)=False:=O' (λh=>h rfl);have q00:((0:Int)=0)=True:=WE rfl;have qq:∀E:Int,(E≠E)=False:=λE=>O' (λh=>h rfl);clear va vb hx hy;by_cases e1:cE a w h=0
   .by_cases e2:cE b w h=0
    .have he:iK a b w h=0:=by unfold iK;rw[ao λk=>k e1];exact e2
     rw[aq he,he]at s1;rw[aq e1]at pa;rw[aq e2]at pb;obtain⟨k1,k2,k3⟩:=yI fa fb e1 e2;have Ya:=P7 a b fa fb w h e1 e2;have hrl:=j8 fa e1;have hrm:=j8 fb e2;have hP2:=jl (aP b w h);generalize jO (aP a w h) (aP b w h)=n at*;generalize bL (aP a w h)=R1 at*;generalize bL (aP b w h)=R2 at*;have hl1:=kQ R1;have hl2:=kQ R2;have sm:=Jc R2 R2 (by omega) (λp hp=>by have:=hrm p hp;omega);rw[XJ rfl]at sm;have p1:((n:Int)<0)=False:=O';have p2:((n:Int)>R1.length)=False:=O';have p3:((n:Int)>R2.length)=False:=O';apply sR;simp only[go_sem,seval];refine ab.au rfl rfl rfl (s1 _) ?_;apply sR;simp only[go_sem,seval];refine ab.au rfl rfl rfl (pa _) ?_;apply sR;simp only[go_sem,seval];refine ab.au rfl rfl rfl (pb _) ?_;apply sR;simp only[go_sem,seval,q0,hl1,hl2,p1,p2,p3];refine ab.loop (λm st=>∃i:Nat,i<=n/\m=n-i/\st.U=Z2/\st.s 0=aC a/\st.s 1=aC b/\st.s 2=vI w/\st.s 3=vI h/\st.s 9=vI n/\st.s 11=bT R1/\st.s 13=bT R2/\st.s 15=vI i) n ⟨0,by omega,rfl,rfl,rfl,rfl,rfl,rfl,rfl,rfl,rfl,rfl⟩ ?_;rintro m ⟨S,ω⟩ ⟨i,hi,rfl,W4,t0,t1,t2,t3,t9,t11,t13,t15⟩;simp only at W4 t0 t1 t2 t3 t9 t11 t13 t15;subst W4;refine ab.mix 19 ?_;by_cases H':i<n
     .have g1:((i:Int)<n)=True:=WE;have l1:i<R1.length:=by omega
      have l2:i<R2.length:=by omega
      have i1:=λU=>oR (U:=U) l1;have i2:=λU=>oR (U:=U) l2;have hee:=Fu R1[i] R2[i] (by have:=hrl _ (XI l1);omega);have heq:R1[i]=R2[i]:=by
       have h1:(R1.take n)[i]?=(R2.take n)[i]?:=by rw[k3]
       rw[List.getElem?_take_of_lt H',List.getElem?_take_of_lt H',ZF l1,ZF l2]at h1;exact Option.some.inj h1
      rw[XJ heq]at hee;have r1:WR .i64 ((i:Int)+1):=ai;have d1:=KV R1[i];have d2:=KV R2[i];apply sR;simp only[go_sem,seval,t9,t11,t13,t15,g1,i1,i2,d1,d2];refine Go.bw rfl rfl rfl hee ?_;apply sG;simp only[go_sem,seval,t0,t1,t2,t3,t9,t11,t13,t15,r1,Bool.not_true];exact⟨_,by omega,i+1,by omega,rfl,by simp⟩
     .have g1:((i:Int)<n)=False:=O';by_cases g6:(R1.length:Int)>60
      .have p6:((R1.length:Int)>60)=True:=WE g6;apply sR;simp only[go_sem,seval,t9,t11,t15,g1,hl1,p6];refine ab.au rfl rfl rfl (aw _) ?_;apply sR;simp only[go_sem,seval];exact ak.same rfl
      .have p6:((R1.length:Int)>60)=False:=O' g6;apply sR;simp only[go_sem,seval,t0,t1,t2,t3,t9,t11,t15,g1,hl1,p6];refine ab.au rfl rfl rfl (Ya _) ?_;have qn:((n:Int)=n)=True:=WE rfl;apply sR;simp only[go_sem,seval,t9,t13];refine ab.au rfl rfl rfl (sm _) ?_;apply sR;simp only[go_sem,seval];refine ab.au rfl rfl rfl (aw _) ?_;apply sR;simp only[go_sem,seval];exact ak.same rfl
    .have he:iK a b w h=cE b w h:=by unfold iK;rw[ao λk=>k e1]
     rw[he,ao e2]at s1;rw[aq e1]at pa;rw[ao e2]at pb;generalize cE b w h=E at*;have w1:(E≠0)=True:=WE e2;apply sR;simp only[go_sem,seval];refine ab.au rfl rfl rfl (s1 _) ?_;apply sR;simp only[go_sem,seval];refine ab.au rfl rfl rfl (pa _) ?_;apply sR;simp only[go_sem,seval];refine ab.au rfl rfl rfl (pb _) ?_;apply sR;simp only[go_sem,seval,qq,w1];refine ab.au rfl rfl rfl (aw _) ?_;apply sR;simp only[go_sem,seval];exact ak.same rfl
   .have he:iK a b w h=cE a w h:=by unfold iK;rw[aq e1]
    rw[he,ao e1]at s1;rw[ao e1]at pa;generalize cE a w h=E at*;have w1:(E≠0)=True:=WE e1;have w2:(E=0)=False:=O' e1;obtain⟨vv,F,hpb⟩:∃vv F,(if cE b w h=0 then V.WJ [bT (bL (aP b w h)),vI 0]else .WJ [.ay,vI (cE b w h)])=.WJ [vv,vI F]:=by split<;>exact⟨_,_,rfl⟩
    rw[hpb]at pb;apply sR;simp only[go_sem,seval];refine ab.au rfl rfl rfl (s1 _) ?_;apply sR;simp only[go_sem,seval];refine ab.au rfl rfl rfl (pa _) ?_;apply sR;simp only[go_sem,seval];refine ab.au rfl rfl rfl (pb _) ?_;apply sR;simp only[go_sem,seval,qq,w1,w2];refine ab.au rfl rfl rfl (aw _) ?_;apply sR;simp only[go_sem,seval];exact ak.same rfl
end Go.Vc
