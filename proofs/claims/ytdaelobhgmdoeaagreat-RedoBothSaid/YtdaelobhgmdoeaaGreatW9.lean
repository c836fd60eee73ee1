/- Part 9 of the library of this proof. -/
import Derived.Test.YtdaelobhgmdoeaaGreatW8
set_option linter.all false
set_option maxHeartbeats 8000000
set_option maxRecDepth 100000
namespace Go.Vc
open Go.Proofs Go.Proofs.Tryz
def pS{b:Bk}(hb:BkOk b){s:Sn}(h:bZ b.atoms s):0<=s.done/\s.done<=18014398509481984:=by
 obtain⟨⟨h0,h1⟩,h2,h3⟩:=h;obtain⟨k,hk⟩:∃k:Nat,s.atom=k:=⟨s.atom.toNat,by omega⟩
 have TR:k<b.atoms.length:=by omega
 have:=hb.tight _ (List.getElem_mem TR);rw[hk,bz TR]at h3;omega
def uD{b:Bk}(hb:BkOk b)(k:Int):-18014398509481984<=fE b.atoms k/\fE b.atoms k<=36028797018963968:=by
 unfold fE;split
 .rename_i h;obtain⟨n,rfl⟩:∃n:Nat,k=n:=⟨k.toNat,by omega⟩
  have hn:n<b.atoms.length:=by omega
  have:=hb.tight _ (List.getElem_mem hn);rw[bz hn];omega
 .omega
def vz{b:Bk}(hb:BkOk b)(s:Sn)(R5:Int):-1152921504606846976<=ie b.atoms s R5/\ie b.atoms s R5<=2305843009213693952:=by
 unfold ie la;split
 .split
  .rename_i h;have h1:=uD hb (s.atom-1);obtain⟨n,hn⟩:∃n:Nat,s.atom=n:=⟨s.atom.toNat,by omega⟩
   have Vb:n<b.atoms.length:=by omega
   have:=hb.tight _ (List.getElem_mem Vb);rw[hn]at h1|-;rw[bz Vb];omega
  .omega
 .omega
def pE{l:List Sk}{s:Sn}{kept shift body:Int}:iS l s kept shift body<=l.length:=by
 unfold iS;split
 .rename_i h;have:=Cp (fF l s kept shift body) (l.length-s.atom.toNat);have:=h.1;omega
 .omega
def DR(ah:Fd->Fd->Bool->Bool):∀(xs:List Fd) (d:Fd),(fC ah xs d).1=d\/(fC ah xs d).1∈xs:=by
 have key:∀(xs:List Fd) (p:Fd×Bool),(xs.foldl (gm ah) p).1=p.1\/(xs.foldl (gm ah) p).1∈xs:=by
  intro xs
  induction xs with
  |nil=>intro p;exact .inl rfl
  |cons x xs ih=>
   intro p;rw[List.foldl_cons];rcases ih (gm ah p x)with h|h
   .rw[h];unfold gm;split
    .exact .inr (by simp)
    .exact .inl rfl
   .exact .inr (by simp[h])
 exact λxs d=>key xs (d,false)
def Du{xs:List Fd}(h:xs≠[])(d:Fd):(fC jc xs d).1∈xs:=by
 obtain⟨x,xs,rfl⟩:∃x l,xs=x::l:=by cases xs with
  |nil=>exact absurd rfl h
  |cons x l=>exact⟨x,l,rfl⟩
 unfold fC;rw[List.foldl_cons];have:gm jc (d,false) x=(x,true):=by simp[gm,jc]
 rw[this];have key:∀(xs:List Fd) (p:Fd×Bool),(xs.foldl (gm jc) p).1=p.1\/(xs.foldl (gm jc) p).1∈xs:=by
  intro xs
  induction xs with
  |nil=>intro p;exact .inl rfl
  |cons x xs ih=>
   intro p;rw[List.foldl_cons];rcases ih (gm jc p x)with h|h
   .rw[h];unfold gm;split
    .exact .inr (by simp)
    .exact .inl rfl
   .exact .inr (by simp[h])
 rcases key xs (x,true)with h|h
 .rw[h];simp
 .simp[h]
def su{b:List Tw}{i fit:Int}(h:eO b i fit)(hf:fit<=(b.length:Int)-1):∃c:Nat,nE b i fit=c/\i<c/\(c:Int)<=fit:=by
 obtain⟨_,h1,h2,h3⟩:=h;have mem:∀x∈(Wb b (i+1) fit).map (kH b),∃c:Nat,x.i=c/\i<c/\(c:Int)<=fit:=λx hx=>by
  obtain⟨k,hk,rfl⟩:=List.mem_map.1 hx;unfold Wb rz at hk;rw[List.mem_range'_1]at hk;exact⟨k,rfl,by omega,by omega⟩
 unfold nE;split
 .refine mem _ (Du ?_ _);intro e;have:=congrArg List.length e;simp[Wb,rz]at this;omega
 .rename_i hn;rcases DR gT ((Wb b (i+1) fit).map (kH b)) yu with h|h
  .exact absurd (show kA b (i+1) fit<0 by unfold kA;rw[h];decide) hn
  .exact mem _ h
def TS.set{b:Bk}{K:ai}{ix:Nat}{x:Wx}{U:ai}{vh vf vl:V}(h:TS b K ix x U vh vf vl)(x':Wx)(h1:x'.hs=x.hs)(h2:x'.fs=x.fs)(h3:x'.ls=x.ls):TS b K ix x' (C' U ix (du b x' vh vf vl)) vh vf vl:=by
 have k2:bg K ix ix≠none:=λh=>(aM.1 h).1 rfl;exact⟨Vc.ag,h1▸h.oh.ab k2,h2▸h.of.ab k2,h3▸h.ol.ab k2,h.hf,h.hl,h.fl,h.sub.aE h.no,h.no⟩
def cV(b:Bk)(x:Wx):Int:=ie b.atoms x.s (x.body-x.shift)
def cG(b:Bk)(x:Wx):Int:=iS b.atoms x.s (cV b x) x.shift x.body
def p7(b:Bk)(x:Wx):Int:=nE b.L' x.s.atom (cG b x)
def pe(b:Bk)(x:Wx)(kept:Int)(cut:Nat):Wx:=(x.add (ck b x kept (cut-x.s.atom.toNat))).put (dD b.atoms b.RA x.s cut kept x.shift x.body).1
def xI(b:Bk)(x:Wx)(kept:Int)(cut:Nat):Sy:=⟨⟨cut,0,decide ((b.L'.getD cut ⟨0,0,0⟩).forced≠0)⟩,(dD b.atoms b.RA x.s cut kept x.shift x.body).2⟩
def eu(b:Bk)(x:Wx):Wx:=if eO b.L' x.s.atom (cG b x)then pe b { x with kind:=1 } (cV b x) (p7 b x).toNat else qp b { x with kind:=1 }
def eT(b:Bk)(x:Wx):Sy:=if eO b.L' x.s.atom (cG b x)then xI b { x with kind:=1 } (cV b x) (p7 b x).toNat else tS b { x with kind:=1 }
def Hj(b:Bk)(hb:BkOk b)(x:Wx)(hm:bZ b.atoms x.s)(hx:x.fs.length<=1000000)(hxl:x.ls.length<=1000000)(hh:0<=x.high/\x.high<=1125899906842624)(hbd:0<=x.body/\x.body<=1125899906842624)
 (U7:0<=x.shift/\x.shift<=1125899906842624){K U:ai}{i1:Nat}{vh vf vl:V}(hJ:TS b K i1 x U vh vf vl):
 aD prog 120 [.ptr i1 0 0] U λr Z'=>∃Vo UT,r=bX (eT b x)/\TS b K i1 (eu b x) Z' vh Vo UT:=by
 refine Ph.r (by simp[Jk]) ?_;have hs:=aa.refl U;have Vg:bt b=.agg [aK b.nodes,vI b.w,vI b.h,bl b.atoms,aH b.RA,vI b.Rw,bC b.L']:=rfl;have a1:=hJ.row;rw[du]at a1;obtain⟨ch,sh⟩:=hJ.oh.vc;obtain⟨cf,sf⟩:=hJ.of.vc;obtain⟨cl,sl⟩:=hJ.ol.vc;have hd:=pS hb hm;have hk:=vz hb x.s (x.body-x.shift);have hlen:=hb.len;have SD:=hb.brk;have WE:=CH b.atoms hb.RY x.s (x.body-x.shift);have hRc:=zP b.atoms hb.RY x.s (by omega) (cV b x) x.shift x.body hk ⟨by omega,by omega⟩;have hCc:=ML b.L' (by omega) x.s.atom (cG b x);have W3:cG b x<=b.atoms.length:=pE;have Zm:eO b.L' x.s.atom (cG b x)->∃c:Nat,p7 b x=c/\x.s.atom<c/\(c:Int)<=cG b x:=λh=>su h (by omega);have hXk:cV b x=ie b.atoms x.s (x.body-x.shift):=rfl;rw[<-hXk]at WE hk;have hXr:cG b x=iS b.atoms x.s (cV b x) x.shift x.body:=rfl;rw[<-hXr]at hRc;have hXc:p7 b x=nE b.L' x.s.atom (cG b x):=rfl;rw[<-hXc]at hCc;have r1:RM .i64 (x.body-x.shift):=ao (by omega) (by omega);rw[bj]at WE hRc;unfold eu eT;generalize cV b x=kept at*;generalize cG b x=reach at*;generalize p7 b x=cut at*;refine ad.mix 8 ?_;apply sR;simp only[go_sem,seval,Jk];refine af λi2 Z2 s2 a2 f2=>?_;have n12:=aq a1 f2;replace a1:=s2 _ _ a1;have z2:=hs.none f2;replace hs:=hs.trans s2;have k2:K i2=none:=hJ.sub.none f2;have hJ2:=hJ.ni s2 f2 a2;simp only[go_sem,seval,a1,Vg,gn,r1];refine Go.bO rfl rfl rfl WE ?_;apply sG;simp only[go_sem,seval,a1,Vg,Fi];refine Go.bO rfl rfl rfl hRc ?_;apply sG;simp only[go_sem,seval];refine Go.bO rfl rfl rfl hCc ?_;have X2:=hJ2.set { x with kind:=1 } rfl rfl rfl;rw[du]at X2;by_cases RC:eO b.L' x.s.atom reach
 .obtain⟨c,rfl,h1,h2⟩:=Zm RC;rw[decide_eq_true RC,if_pos RC,if_pos RC,if_pos RC,Int.toNat_natCast];apply sG;simp only[go_sem,seval,a1];generalize hq1:C' Z2 i1 _=Y1 at*;have hw:aD prog 181 [.ptr i1 0 0,vI kept,vI c] Y1 λr Z'=>∃Vo UT,r=bX (xI b { x with kind:=1 } kept c)/\TS b (C' K i2 ⟨45,4,[.agg [vI 0,vI 0,.bool false,.aC]]⟩) i1 (pe b { x with kind:=1 } kept c) Z' vh Vo UT:=EA b hb { x with kind:=1 } hm (by show x.s.done<=_;omega) hx hxl (by show 0<=x.high/\x.high<=_;omega) kept hk (by show 0<=x.shift/\x.shift<=_;omega) c (by show x.s.atom<=_;omega) (by omega) X2;generalize xI b { x with kind:=1 } kept c=Z at*;generalize pe b { x with kind:=1 } kept c=Y at*;refine ad.kJ rfl rfl rfl hw ?_;rintro r Z' ⟨Vo,UT,rfl,T0⟩;have c2:=T0.sub _ _ ag;apply sR;simp only[go_sem,seval,c2,bX,au,ar];exact⟨_,_,aa.refl _,Wk.refl (aa.refl _) _,Vo,UT,rfl,T0.drop k2 _⟩
 .rw[decide_eq_false RC,if_neg RC,if_neg RC,if_neg RC];apply sG;simp only[go_sem,seval,a1];generalize hq1:C' Z2 i1 _=Y1 at*;have hw:aD prog 180 [.ptr i1 0 0,vI kept,vI 0] Y1 λr Z'=>∃Vo UT,r=bX (tS b { x with kind:=1 })/\TS b (C' K i2 ⟨45,4,[.agg [vI 0,vI 0,.bool false,.aC]]⟩) i1 (qp b { x with kind:=1 }) Z' vh Vo UT:=Im b hb { x with kind:=1 } hm (by show x.s.done<=_;omega) hx hxl (by show 0<=x.high/\x.high<=_;omega) kept 0 X2;generalize tS b { x with kind:=1 }=Z at*;generalize qp b { x with kind:=1 }=Y at*;refine ad.kJ rfl rfl rfl hw ?_;rintro r Z' ⟨Vo,UT,rfl,T0⟩;have c2:=T0.sub _ _ ag;apply sR;simp only[go_sem,seval,c2,bX,au,ar];exact⟨_,_,aa.refl _,Wk.refl (aa.refl _) _,Vo,UT,rfl,T0.drop k2 _⟩
open Go.Proofs Go.Proofs.Tryz
def qL(body:Int)(f:P'):Bool:=decide (f.y+f.h<=body)
def sO(b:Bk)(x:Wx):Wx:={ (x.put (b.RA.takeWhile (qL x.body)))with kind:=2 }
def lV(b:Bk)(x:Wx):Sy:=⟨⟨0,0,false⟩,b.RA.dropWhile (qL x.body)⟩
def yx{P:List P'}{j:Nat}(h:j<=P.length):∀U,cL U 7 (aH P) none (some (.int .i64 j)) none=some (aH (P.take j)):=λU=>by
 have h1:(j:Int)<=P.length:=by omega
 simp only[aH,cL,bF,List.length_map];rw[if_pos ⟨Int.le_refl _,by omega,h1,Int.le_refl _,trivial⟩];simp[List.map_take]
def wU{α:Type}{p:α->Bool}:∀{l:List α} {j:Nat},(∀x∈l.take j,p x=true)->(∀x,l[j]?=some x->p x=false)->j<=l.length->l.takeWhile p=l.take j/\l.dropWhile p=l.drop j
 |[],j,_,_,h=>by simp
 |x::l,0,_,h2,_=>by
  have:=h2 x rfl;simp[List.takeWhile_cons,List.dropWhile_cons,this]
 |x::l,j+1,h1,h2,h=>by
  have hx:=h1 x (by simp);have ih:=wU (p:=p) (l:=l) (j:=j) (λy hy=>h1 y (by simp[hy])) (λy hy=>h2 y (by simpa using hy)) (by simpa using h);simp[List.takeWhile_cons,List.dropWhile_cons,hx,ih.1,ih.2]
def Es(b:Bk)(hb:BkOk b)(x:Wx)(hxl:x.ls.length<=1000000)(hh:0<=x.high/\x.high<=1125899906842624){K U:ai}{i1:Nat}{vh vf vl:V}(hJ:TS b K i1 x U vh vf vl):
 aD prog 116 [.ptr i1 0 0] U λr Z'=>∃UT,r=bX (lV b x)/\TS b K i1 (sO b x) Z' vh vf UT:=by
 refine OM.r (by simp[Ly]) ?_;have hs:=aa.refl U;have Vg:bt b=.agg [aK b.nodes,vI b.w,vI b.h,bl b.atoms,aH b.RA,vI b.Rw,bC b.L']:=rfl;have a1:=hJ.row;rw[du]at a1;obtain⟨ch,sh⟩:=hJ.oh.vc;obtain⟨cf,sf⟩:=hJ.of.vc;obtain⟨cl,sl⟩:=hJ.ol.vc;have hfn:=hb.Uz;have Yf:=gi b.RA;unfold sO lV;refine ad.mix 5 ?_;apply sR;simp only[go_sem,seval,Ly];refine af λi2 Z2 s2 a2 f2=>?_;have n12:=aq a1 f2;replace a1:=s2 _ _ a1;have z2:=hs.none f2;replace hs:=hs.trans s2;have k2:K i2=none:=hJ.sub.none f2;have hJ2:=hJ.ni s2 f2 a2;simp only[go_sem,seval,a1,Vg,BL];refine ad.fi (λst=>∃j:Nat,j<=b.RA.length/\b.RA.takeWhile (qL x.body)=b.RA.take j/\b.RA.dropWhile (qL x.body)=b.RA.drop j/\st.U=Z2/\st.s 0=.ptr i1 0 0/\st.s 2=.ptr i2 0 0/\st.s 3=vI j/\st.s 4=aH b.RA)
  (λm st=>∃j:Nat,j<=b.RA.length/\m=b.RA.length-j/\(∀f∈b.RA.take j,qL x.body f=true)/\st.U=Z2/\st.s 0=.ptr i1 0 0/\st.s 2=.ptr i2 0 0/\st.s 3=vI j/\st.s 4=aH b.RA) b.RA.length ?_ ?_ ?_
 .exact⟨0,by omega,rfl,by simp,rfl,rfl,rfl,rfl,rfl⟩
 .rintro m ⟨S,J⟩ ⟨j,hj,rfl,SK,R3,t0,t2,t3,t4⟩;simp only at R3 t0 t2 t3 t4;subst R3;refine ad.mix 5 ?_;by_cases H':j<b.RA.length
  .have q:((j:Int)<b.RA.length)=True:=eq_true (by omega);have Rv:=λU=>jX (U:=U) H';have U6:aQ b.RA[j]=.agg [vI b.RA[j].node,vI b.RA[j].side,vI b.RA[j].anchor,vI b.RA[j].x,vI b.RA[j].y,vI b.RA[j].w,vI b.RA[j].h]:=rfl;obtain⟨_,⟨o1,o2⟩,_,o3,o4⟩:=hb.YF _ (List.getElem_mem H');have SB:b.RA.take (j+1)=b.RA.take j++[b.RA[j]]:=List.take_succ_eq_append_getElem H';have Ut:b.RA[j]?=some b.RA[j]:=List.getElem?_eq_getElem H';generalize b.RA[j]=f at*;have r1:RM .i64 (f.y+f.h):=ao (by omega) (by omega);have r2:RM .i64 ((j:Int)+1):=ao (by omega) (by omega);by_cases hle:f.y+f.h<=x.body
   .have q1:(f.y+f.h<=x.body)=True:=eq_true hle;apply sR;simp only[go_sem,seval,t0,t2,t3,t4,Yf,q,Rv,U6,a1,r1,q1,r2];refine⟨_,?_,j+1,by omega,rfl,?_,by simp[t0,t2,t4]⟩
    .omega
    .rw[SB];intro g hg;rcases List.mem_append.1 hg with hg|hg
     .exact SK g hg
     .simp at hg;subst hg;exact decide_eq_true hle
   .have q1:(f.y+f.h<=x.body)=False:=eq_false hle;apply sR;simp only[go_sem,seval,t0,t2,t3,t4,Yf,q,Rv,U6,a1,r1,q1];obtain⟨e1,e2⟩:=wU SK (λg hg=>by rw[Ut]at hg;cases hg;exact decide_eq_false hle) hj;exact⟨j,hj,e1,e2,by simp[t0,t2,t3,t4]⟩
  .have q:((j:Int)<b.RA.length)=False:=eq_false (by omega);apply sR;simp only[go_sem,seval,t0,t2,t3,t4,Yf,q,a1];obtain⟨e1,e2⟩:=wU SK (λg hg=>by rw[List.getElem?_eq_none (by omega)]at hg;cases hg) hj;exact⟨j,hj,e1,e2,by simp[t0,t2,t3,t4]⟩
 .rintro⟨S,J⟩ ⟨j,hj,e1,e2,R3,t0,t2,t3,t4⟩;simp only at R3 t0 t2 t3 t4;subst R3;rw[e1,e2];have W2:=yx hj;have hsl2:=pJ hj;refine ad.mix 5 ?_;apply sR;simp only[BB,seval,<-decide_not,bx,fg,aL,cU,eJ,eo,eN,dY,cz,jQ,gx,bI,fH,dP,fq,cP,bF,iP,dh,cQ,cp,SG,jT,dd,cc,iO,dI,cd,dc,cZ,kG,binBV,bW,dp,V.cells,V.stays,TJ.nothing,t0,t2,t3,t4,W2];refine ad.call rfl rfl rfl (mF b (b.RA.take j) (by rw[List.length_take];omega) x hxl (λf hf=>by
   obtain⟨_,⟨o1,o2⟩,_,o3,o4⟩:=hb.YF f (List.mem_of_mem_take hf);exact ao (by omega) (by omega)) hJ2) ?_
  rintro r Z' ⟨UT,T0⟩;have c2:=T0.sub _ _ ag;have b1:=T0.row;have n12':i1≠i2:=n12;rw[du]at b1;generalize x.put (b.RA.take j)=y at*;have X2:=T0.set { y with kind:=2 } rfl rfl rfl;rw[du]at X2;apply sR;simp only[BB,seval,<-decide_not,bx,fg,aL,cU,eJ,eo,eN,dY,cz,jQ,gx,bI,fH,dP,fq,cP,bF,iP,dh,cQ,cp,SG,jT,dd,cc,iO,dI,cd,dc,cZ,kG,binBV,bW,dp,V.cells,V.stays,TJ.nothing,t0,t2,t3,t4,b1,hsl2];generalize hq1:C' Z' i1 _=Y1 at*;replace c2:=X2.sub _ _ ag;refine ad.aB rfl rfl rfl (y9 (b.RA.drop j) (by rw[List.length_drop];omega) _) ?_;apply sR;simp only[go_sem,seval,c2,t2,au,ar];exact⟨_,_,aa.refl _,Wk.refl (aa.refl _) _,UT,rfl,X2.drop k2 _⟩
open Go.Proofs Go.Proofs.Tryz
def bJ.lt:bJ->bJ
 |.seq a _=>a
 |c=>c
def bJ.bd:bJ->bJ
 |.block _ a=>a
 |c=>c
structure BkFull(b:Bk):Prop extends BkOk b where
 rE:dH b.nodes
 Yd:So b.nodes=true
 h1:1<=b.h
 h2:b.h<=1099511627776
 nod:∀a∈b.atoms,0<=a.node/\a.node<b.nodes.length
def bf(b:Bk)(s:Sn):Kp:=if b.atoms=[]then⟨[],0,b.h⟩else rq b.nodes (SM b.atoms (min s.atom ((b.atoms.length:Int)-1))).node b.h
def VU(l:List Nd)(w:Int)(p:List Tp×Int)(a:Int):List Tp×Int:=(p.1++[⟨a,-1,0,0,p.2,w,(Tk l a).head⟩],p.2+(Tk l a).head)
def UO(l:List Nd)(w:Int)(L:List Int):List Tp×Int:=L.foldl (VU l w) ([],0)
def zz(l:List Nd)(w:Int)(L:List Int)(a:Int):UO l w (L++[a])=VU l w (UO l w L) a:=by
 unfold UO;rw[List.foldl_append];rfl
def HE(l:List Nd)(w:Int):∀(L:List Int),(UO l w L).1.length=L.length:=by
 have key:∀(L:List Int) (p:List Tp×Int),(L.foldl (VU l w) p).1.length=p.1.length+L.length:=by
  intro L
  induction L with
  |nil=>intro p;rfl
  |cons a L ih=>intro p;rw[List.foldl_cons,ih];simp[VU];omega
 intro L;have:=key L ([],0);simpa[UO]using this
def B6(l:List Nd)(w:Int)(L:List Int)(h:∀a∈L,0<=(Tk l a).head)(j:Nat):0<=(UO l w (L.take j)).2/\(UO l w (L.take j)).2<=(UO l w L).2:=by
 have key:∀(L:List Int),(∀a∈L,0<=(Tk l a).head)->∀(p:List Tp×Int),p.2<=(L.foldl (VU l w) p).2:=by
  intro L
  induction L with
  |nil=>intro _ p;exact Int.le_refl _
  |cons a L ih=>
   intro h p;rw[List.foldl_cons];have h1:=ih (λx hx=>h x (by simp[hx])) (VU l w p a);have h2:=h a (by simp);simp only[VU]at h1|-;omega
 refine⟨key (L.take j) (λa ha=>h a (List.mem_of_mem_take ha)) ([],0),?_⟩;have e:UO l w L=(L.drop j).foldl (VU l w) (UO l w (L.take j)):=by
  rw[UO,UO,<-List.foldl_append,List.take_append_drop]
 rw[e];exact key _ (λa ha=>h a (List.mem_of_mem_drop ha)) _
def tf{l:List Nd}{L:List Int}{h:Int}:∀m,m<=L.length->∀a∈(gv l L h m).RG,a∈L
 |0,_,a,ha=>by simp[gv]at ha
 |m+1,hm,a,ha=>by
  rw[gv,jb]at ha;split at ha
  .exact tf m (by omega) a ha
  .simp only[List.mem_append,List.mem_singleton]at ha;rcases ha with ha|ha
   .exact tf m (by omega) a ha
   .rw[ha];have H':L.length-1-m<L.length:=by omega
    have hg:L.getD (L.length-1-m) 0=L[L.length-1-m]:=by simp[H']
    rw[hg];exact List.getElem_mem H'
def pM{l:List Nd}{L:List Int}{h w:Int}:∀m,(UO l w (gv l L h m).RG).2=(gv l L h m).high
 |0=>rfl
 |m+1=>by
  rw[gv,jb];split
  .exact pM m
  .simp only[zz,VU];rw[pM m]
structure Oy(b:Bk)(k:Kp):Prop where
 len:k.RG.length<=1000000
 mem:∀a∈k.RG,∃n:Nat,a=n/\n<b.nodes.length
 sum:(UO b.nodes b.w k.RG).2=k.high
 high:0<=k.high/\k.high<=1099511627776
 body:0<=k.body/\k.body<=1099511627776
def mO{b:Bk}(hb:BkFull b)(s:Sn):Oy b (bf b s):=by
 have h1:=hb.h1;have h2:=hb.h2;have hn:b.nodes.length<=100000:=by have:=hb.rE.1;omega
 unfold bf;split
 .exact⟨by simp,by simp,rfl,by simp,by simp;omega⟩
 .unfold rq;split
  .rename_i hc;obtain⟨_,h3,h4⟩:=hc;generalize (SM b.atoms (min s.atom ((b.atoms.length:Int)-1))).node=a at*;have ha:a.toNat<b.nodes.length:=by omega
   have WN:∀x∈Vu b.nodes a.toNat,∃n:Nat,x=n/\n<b.nodes.length:=λx hx=>by
    obtain⟨n,h1,h2⟩:=og ha x hx;exact⟨n,h1,by omega⟩
   have hi:=nX hb.Yd WN (by omega:0<=b.h) (Vu b.nodes a.toNat).length (Nat.le_refl _);have hl:(Vu b.nodes a.toNat).length<=b.nodes.length+1:=iR _ _ _;unfold xe;exact⟨by omega,λx hx=>WN x (tf _ (Nat.le_refl _) x hx),pM _,by omega,by omega⟩
  .exact⟨by simp,by simp,rfl,by simp,by simp⟩
def bY(b:Bk)(s:Sn)(hv:V):Wx:=⟨hv,(bf b s).high,(bf b s).body,s,0,(UO b.nodes b.w (bf b s).RG).1,[],[],0⟩
def Ex(b:Bk)(hb:BkFull b)(s:Sn)(Sj:0<=s.atom)(U:ai):
 aD prog 115 [.rp (bt b),bj s] U λr Z'=>∃i1 vh hv,r=.ptr i1 0 0/\TS b U i1 (bY b s hv) Z' vh .aC .aC:=by
 refine O5.r (by simp[Dx]) ?_;have hs:=aa.refl U;have Vg:bt b=.agg [aK b.nodes,vI b.w,vI b.h,bl b.atoms,aH b.RA,vI b.Rw,bC b.L']:=rfl;have Uj:(bj s).cells=[vI s.atom,vI s.done,.bool s.free]:=rfl;have U2:(bj s).stays=true:=rfl;have Vd:=gC b.atoms;have hlen:=hb.len;refine ad.mix 11 ?_;apply sR;simp only[go_sem,seval,Dx,Uj,U2];refine af λi3 Z3 s3 a3 f3=>?_;have z3:=hs.none f3;replace hs:=hs.trans s3;rw[bj]at a3;simp only[go_sem,seval,a3,Vg];refine bw λi19 Z19 s19 Xk f19=>?_;have n319:=aq a3 f19;replace a3:=s19 _ _ a3;have z19:=hs.none f19;replace hs:=hs.trans s19;have hr:=mO hb s;unfold bY;have hJ0:∀(hv:V) (k:Kp) (J:ai),J i19=some (du b ⟨hv,k.high,k.body,s,0,[],[],[],0⟩ .aC .aC .aC)->aa U J->TS b U i19 ⟨hv,k.high,k.body,s,0,[],[],[],0⟩ J .aC .aC .aC:=λhv k J h h2=>
  ⟨h,aT.start,aT.start,aT.start,dV.aC _,dV.aC _,dV.aC _,h2,z19⟩
 have fin:∀(S:Nat->V) (J:ai) (hv:V),dy false hv=some (.int .i64 (bf b s).RG.length)->(∀(j:Nat) (h:j<(bf b s).RG.length) (U:ai),bQ U 1 hv (.int .i64 j)=some (.rp (vI (bf b s).RG[j])))->
  J i19=some (du b ⟨hv,(bf b s).high,(bf b s).body,s,0,[],[],[],0⟩ .aC .aC .aC)->aa U J->S 0=.rp (bt b)->S 5=.ptr i19 0 0->S 7=vI 0->S 57=hv->S 58=vI (bf b s).RG.length->S 59=vI 0->
  ad prog 96 [It.code Dx.code.rt.rt.rt.rt.lt.rt.bd,It.inBlock 0,It.code Dx.code.rt.rt.rt.rt.rt] ⟨S,J⟩ λst=>VL [.tmp (.t 4)] st λr Z'=>∃i1 vh hv,r=.ptr i1 0 0/\TS b U i1 ⟨hv,(bf b s).high,(bf b s).body,s,0,(UO b.nodes b.w (bf b s).RG).1,[],[],0⟩ Z' vh .aC .aC:=by
  intro S J hv hlL hix h19 hsZ t0 t5 t7 t57 t58 t59;have hJ:=hJ0 _ _ _ h19 hsZ;clear hJ0 h19 hsZ hs a3 Xk;generalize bf b s=k at*;obtain⟨L,high,body⟩:=k;obtain⟨r1,r2,r3,⟨r4,r5⟩,_⟩:=hr;simp only at r1 r2 r3 r4 r5 hJ hlL hix t58|-;have hh0:∀a∈L,0<=(Tk b.nodes a).head:=λa ha=>by
   obtain⟨n,rfl,hn⟩:=r2 a ha;rw[jj hn];exact(gr hb.Yd hn).st.head.1
  have Xk:=hJ.row;rw[du]at Xk;refine ad.mix 60 ?_;simp only[Dx,bJ.rt,bJ.lt,bJ.bd];refine ad.loop (λm st=>∃(j:Nat) (vh:V),j<=L.length/\m=L.length-j/\TS b U i19 ⟨hv,high,body,s,0,(UO b.nodes b.w (L.take j)).1,[],[],0⟩ st.U vh .aC .aC/\st.s 0=.rp (bt b)/\st.s 5=.ptr i19 0 0/\st.s 7=vI (UO b.nodes b.w (L.take j)).2/\st.s 57=hv/\st.s 58=vI L.length/\st.s 59=vI j) L.length ?_ ?_
  .exact⟨0,.aC,by omega,rfl,hJ,t0,t5,t7,t57,t58,t59⟩
  .clear hJ Xk t0 t5 t7 t57 t58 t59;rintro m ⟨S,J⟩ ⟨j,vh,hj,rfl,hJ,t0,t5,t7,t57,t58,t59⟩;simp only at hJ t0 t5 t7 t57 t58 t59;refine ad.mix 60 ?_;by_cases H':j<L.length
   .have q:((j:Int)<L.length)=True:=eq_true (by omega);obtain⟨n,hn,Vb⟩:=r2 _ (List.getElem_mem H');have Rv:=hix j H';have Tm:=λU=>ji b.nodes Vb U;have jk:=B6 b.nodes b.w L hh0 j;have hsum1:=B6 b.nodes b.w L hh0 (j+1);have hlk:=HE b.nodes b.w (L.take j);have YM:(L.take j).length=j:=by rw[List.length_take];omega
    have SB:L.take (j+1)=L.take j++[(n:Int)]:=by rw[List.take_succ_eq_append_getElem H',hn]
    have V8:UO b.nodes b.w (L.take (j+1))=VU b.nodes b.w (UO b.nodes b.w (L.take j)) n:=by rw[SB,zz]
    rw[r3]at jk hsum1;rw[V8]at hsum1;rw[hn]at Rv;generalize UO b.nodes b.w (L.take j)=X at*;obtain⟨F,y⟩:=X;simp only[VU,jj Vb]at jk hsum1 hlk hJ t7 V8;have q1:RM .i64 (y+b.nodes[n].st.head):=ao (by omega) (by omega);have q2:RM .i64 ((j:Int)+1):=ao (by omega) (by omega);have Xk:=hJ.row;rw[du]at Xk;obtain⟨cv,sv⟩:=hJ.oh.vc;generalize b.nodes[n]=nd at*;have hs:=aa.refl J;apply sR;simp only[go_sem,seval,t0,t5,t7,t57,t58,t59,q,Rv,Tm,Nd.cells,Xk,Vg,Od,cv,sv];refine bw λi86 Z86 s86 a86 f86=>?_;have Wl:=hJ.mono s86;obtain⟨RN,Th,XY⟩:=yp Wl.sub Wl.no Wl.row Wl.oh;have U6:(F.map bo).length<=1000000:=by rw[List.length_map];omega
    generalize hrw:F.map bo=rows at*;have Sx:(rows.length+1)*57<=140737488355328:=by omega
    simp only[go_sem,seval,Th,dT a86,Sx];refine ju λi87 Z87 s87 a87 f87=>?_;obtain⟨b1,hg⟩:=XY Z87 i87 _ s87 a87 f87;rw[du]at b1;obtain⟨g1,g2,g3⟩:=hg (du b ⟨hv,high,body,s,0,F++[⟨n,-1,0,0,y,b.w,nd.st.head⟩],[],[],0⟩ (.own i87 0 (rows.length+1)) .aC .aC);simp only[go_sem,seval,b1,t0,t5,t7,t57,t58,t59,cv,sv,q1,q2];refine⟨_,?_,j+1,.own i87 0 (rows.length+1),by omega,rfl,?_,rfl,?_,rfl⟩
    .omega
    .rw[V8];rw[List.length_append]at g2;refine⟨ag,?_,aT.start,aT.start,(dV.aC _).symm,(dV.aC _).symm,dV.aC _,g1,hJ.no⟩;show aT _ _ _ _ _ ((F++[_]).map bo);rw[List.map_append,hrw];exact g2
    .rw[V8]
   .have q:((j:Int)<L.length)=False:=eq_false (by omega);have Tt:j=L.length:=by omega
    rw[Tt,List.take_length]at hJ;apply sR;simp only[go_sem,seval,t0,t5,t7,t57,t58,t59,q];exact⟨_,_,aa.refl _,Wk.refl (aa.refl _) _,i19,vh,hv,rfl,hJ⟩
 by_cases he:b.atoms=[]
 .have q:((b.atoms.length:Int)>0)=False:=by rw[he];simp
  have hre:bf b s=⟨[],0,b.h⟩:=if_pos he;simp only[go_sem,seval,Xk,a3,gn,Vd,Vg,q];rw[hre]at fin|-;rw[<-Vg]at Xk;refine fin _ _ .aC rfl (λj h=>by simp at h) Xk hs ?_ ?_ ?_ ?_ ?_ ?_<;>rfl
 .have hl0:0<b.atoms.length:=List.length_pos_iff.2 he;have q:((b.atoms.length:Int)>0)=True:=eq_true (by omega);have r1:RM .i64 ((b.atoms.length:Int)-1):=ao (by omega) (by omega);obtain⟨k,hk⟩:∃k:Nat,min s.atom ((b.atoms.length:Int)-1)=k:=⟨(min s.atom ((b.atoms.length:Int)-1)).toNat,by omega⟩
  have TR:k<b.atoms.length:=by omega
  have Rv:=λU=>iD (U:=U) TR;have hre:bf b s=rq b.nodes b.atoms[k].node b.h:=by rw[bf,if_neg he,hk,bz TR]
  have hc:=I8 b.nodes hb.rE b.atoms[k].node b.h;rw[<-hre]at hc;simp only[go_sem,seval,Xk,a3,gn,Vd,Vg,q,di];refine ad.rA (by kernel_rfl) [0,1,2,3,4,5,6,7,8,9,10,11,12,13,14,15,16,17,18,19,20,21,22,23,24,25] [[],[],[1],[1,2],[1,2,3],[],[5],[5,6],[5,6,7],[5,6,7,8],[],[10],[],[12],[10,11,12,13],[5,6,7,8,9,10,11,12,13,14],[5,6,7,8,9,10,11,12,13,14,15],[5,6,7,8,9,10,11,12,13,14,15,16],[],[18],[18,19],[18,19,20],[1,2,3,4,5,6,7,8,9,10,11,12,13,14,15,16,17,18,19,20,21],[0,1,2,3,4,5,6,7,8,9,10,11,12,13,14,15,16,17,18,19,20,21,22],[0,1,2,3,4,5,6,7,8,9,10,11,12,13,14,15,16,17,18,19,20,21,22,23],[0,1,2,3,4,5,6,7,8,9,10,11,12,13,14,15,16,17,18,19,20,21,22,23,24]] [0,2,4,6,8,10,12,14,16,18,20,22,24,26,28,30,32,34,36,38,40,42,44,46,48,50] (by kernel_rfl) (by kernel_rfl) ?_;refine RE.SC (n:=0) [44,46,48,50] [0,2,4,6,8,10,12,14,16,18,20,22,24,26,28,30,32,34,36,38,40,42] [⟨(.some 28),(.RJ (.t 5)),.none⟩,⟨(.some 29),(.RJ (.t 0)),.none⟩,⟨(.some 30),(.nilCheck (.t 29)),.none⟩,⟨(.some 31),(.RU .false 0 1 (.t 30)),.none⟩,⟨(.some 32),(.load .false 1 (.t 31)),.none⟩,⟨(.some 33),(.RJ (.t 0)),.none⟩,⟨(.some 34),(.nilCheck (.t 33)),.none⟩,⟨(.some 35),(.RU .true 3 3 (.t 34)),.none⟩,⟨(.some 36),(.RU .false 0 1 (.t 35)),.none⟩,⟨(.some 37),(.load .false 1 (.t 36)),.none⟩,⟨(.some 38),(.RU .false 0 1 (.t 3)),.none⟩,⟨(.some 39),(.load .false 1 (.t 38)),.none⟩,⟨(.some 40),(.RJ (.t 6)),.none⟩,⟨(.some 41),(.bin .sub (.t 40) (.c (.int .i64 1))),.none⟩,⟨(.some 42),(.RD .false (.t 39) (.t 41)),.none⟩,⟨(.some 43),(.Us 8 (.t 37) (.t 42)),.none⟩,⟨(.some 44),(.RU .false 1 1 (.t 43)),.none⟩,⟨(.some 45),(.load .false 1 (.t 44)),.none⟩,⟨(.some 46),(.RJ (.t 0)),.none⟩,⟨(.some 47),(.nilCheck (.t 46)),.none⟩,⟨(.some 48),(.RU .false 2 1 (.t 47)),.none⟩,⟨(.some 49),(.load .false 1 (.t 48)),.none⟩] rfl rfl ?_;apply sG;simp only[go_sem,seval,Xk,a3,Vg,gn,Od,r1,e8,hk,Rv,cF];rw[jF]at hc;refine RE.aB rfl rfl rfl rfl rfl (hc _) ?_;refine RE.SC (n:=0) [] [46,48,50] [⟨(.some 51),(.nilCheck (.t 28)),.none⟩,⟨(.some 52),(.RU .true 0 3 (.t 51)),.none⟩,⟨.none,(.store 3 (.t 52) (.t 50)),.none⟩] rfl rfl ?_;apply sG;simp only[go_sem,seval,Xk,aj,av];have hlL:=fG (bf b s).RG;apply sR;simp only[go_sem,seval,hlL];rw[<-Vg];refine fin _ _ (bn (bf b s).RG) hlL (λj h U=>gS h) ag (hs.aE z19) ?_ ?_ ?_ ?_ ?_ ?_<;>rfl
open Go.Proofs Go.Proofs.Tryz
def Xp(b:Bk):bt b=.agg [aK b.nodes,vI b.w,vI b.h,bl b.atoms,aH b.RA,vI b.Rw,bC b.L']:=rfl
def rR(b:Bk)(hb:1<=b.h):aV prog 60 [.rp (bt b)] (.bool false):=λU=>by
 refine e60.r (by simp[c60]) ?_;have q:(b.h=0)=False:=eq_false (by omega);refine ad.mix 3 ?_;apply sR;simp only[go_sem,seval,c60,Xp,q,CN];exact ay.same rfl
def Dr(b:Bk)(hb:BkFull b)(U:ai):aD prog 54 [.rp (bt b)] U λr Z'=>aa U Z'/\aT U Z' 168 3 r (b.L'.map dZ):=by
 refine e54.r (by simp[c54]) ?_;have h1:=hb.brk;have h2:=hb.len;refine ad.mix 3 ?_;apply sR;simp only[go_sem,seval,c54];refine ad.aB rfl rfl rfl (rR b hb.h1 _) ?_;apply sR;simp only[go_sem,seval,Xp,Fi];refine ad.call rfl rfl rfl (oe func113 (NQ.b.trans rfl) NQ.c (b.L'.map dZ) (by simp;omega) _) ?_;rintro r Z' ⟨hs,ho⟩;apply sR;simp only[go_sem,seval];exact⟨_,_,aa.refl _,Wk.refl (aa.refl _) _,hs,ho⟩
def xi(b:Bk):V:=.agg [bl b.atoms,aH b.RA,vI b.Rw]
def wx(b:Bk)(hb:BkFull b):aV prog 25 [.rp (bt b)] (xi b):=λU=>by
 refine e25.r (by simp[c25]) ?_;have hs:=aa.refl U;have h2:=hb.len;have h3:=hb.Uz;refine ad.mix 4 ?_;apply sR;simp only[go_sem,seval,c25];refine af λi2 Z2 s2 a2 f2=>?_;have z2:=hs.none f2;replace hs:=hs.trans s2;simp only[go_sem,seval];refine ad.aB rfl rfl rfl (rR b hb.h1 _) ?_;apply sR;simp only[go_sem,seval,Xp];refine af λi3 Z3 s3 a3 f3=>?_;have XD:=aq a2 f3;replace a2:=s3 _ _ a2;have z3:=hs.none f3;replace hs:=hs.trans s3;simp only[go_sem,seval,a3,ak,au,al,ar];generalize ZI:C' _ i3 _=X3;replace a3:=(congrFun ZI i3).symm.trans ag;replace a2:=((congrFun ZI i2).symm.trans (ab XD)).trans a2;replace hs:=Eq.subst (motive:=aa _) ZI (hs.aE z3);clear ZI;refine Go.bO rfl rfl rfl (EC b.atoms (by omega)) ?_;apply sG;simp only[go_sem,seval,a3];refine Go.bO rfl rfl rfl (y9 b.RA (by omega)) ?_;apply sG;simp only[go_sem,seval,a3,a2,ak,au,al,ar,ab XD,ab XD];exact ay.pure ((hs.aE z3).aE z2) rfl
def wb(b:Bk)(hb:BkFull b):aV prog 56 [.rp (bt b)] (bX ⟨⟨0,0,true⟩,[]⟩):=λU=>by
 refine e56.r (by simp[c56]) ?_;have hs:=aa.refl U;refine ad.mix 4 ?_;apply sR;simp only[go_sem,seval,c56];refine af λi2 Z2 s2 a2 f2=>?_;have z2:=hs.none f2;replace hs:=hs.trans s2;simp only[go_sem,seval];refine ad.aB rfl rfl rfl (rR b hb.h1 _) ?_;apply sR;simp only[go_sem,seval,a2];refine⟨_,U,hs.aE z2,Wk.agg (vs':=[vI 0,vI 0,.bool true,aH []]) ⟨Wk.refl (hs.aE z2) _,Wk.refl (hs.aE z2) _,Wk.refl (hs.aE z2) _,Wk.aC 7,trivial⟩,rfl,rfl⟩
def oX(a:P'):∀(p:List P') (i:Nat),kD a p i=-1\/∃k:Nat,kD a p i=((i+k:Nat):Int)/\k<p.length
 |[],_=>.inl rfl
 |q::r,i=>by
  rw[kD];split
  .exact .inr ⟨0,rfl,by simp⟩
  .rcases oX a r (i+1)with h|⟨k,h1,h2⟩
   .exact .inl h
   .exact .inr ⟨k+1,by rw[h1];congr 1;omega,by simp;omega⟩
def lA(RA:List P'):List P'->Nat->Bool
 |[],_=>true
 |x::r,RY=>if kD x (RA.drop RY) 0<0 then false else lA RA r (RY+(kD x (RA.drop RY) 0).toNat+1)
def gA(b:Bk)(s:Sy):Prop:=lA b.RA s.bM 0=true/\(bZ b.atoms s.s\/s.s.atom=b.atoms.length/\s.s.done=0)
instance (b:Bk) (s:Sy):Decidable (gA b s):=by unfold gA;infer_instance
def HN(b:Bk)(hb:BkFull b)(s:Sy)(hp:s.bM.length<=1000000):aV prog 114 [.rp (bt b),bX s] (.bool (decide (gA b s))):=λU=>by
 refine Qu.r (by simp[JQ]) ?_;have hs:=aa.refl U;have h2:=hb.len;have h3:=hb.Uz;have Yf:=gi s.bM;have UH:=gC b.atoms;refine ad.mix 13 ?_;apply sR;simp only[go_sem,seval,JQ,bX,au,ar];refine af λi3 Z3 s3 a3 f3=>?_;have z3:=hs.none f3;replace hs:=hs.trans s3;simp only[go_sem,seval,a3,Yf];refine ad.loop (λm st=>∃(j RY:Nat),j<=s.bM.length/\m=s.bM.length-j/\RY<=b.RA.length/\lA b.RA s.bM 0=lA b.RA (s.bM.drop j) RY/\aa U st.U/\st.U i3=some ⟨45,4,[.agg [vI s.s.atom,vI s.s.done,.bool s.s.free,aH s.bM]]⟩/\st.s 0=.rp (bt b)/\st.s 3=.ptr i3 0 0/\st.s 5=vI RY/\st.s 10=aH s.bM/\st.s 11=vI s.bM.length/\st.s 12=vI j) s.bM.length ?_ ?_
 .exact⟨0,0,by omega,rfl,by omega,rfl,hs,a3,rfl,rfl,rfl,rfl,rfl,rfl⟩
 .clear hs a3;rintro m ⟨S,J⟩ ⟨j,RY,hj,rfl,S1,heq,hs,a3,t0,t3,t5,t10,t11,t12⟩;simp only at hs a3 t0 t3 t5 t10 t11 t12;refine ad.mix 13 ?_;by_cases H':j<s.bM.length
  .have q:((j:Int)<s.bM.length)=True:=eq_true (by omega);have Rv:=λU=>jX (U:=U) H';have U6:aQ s.bM[j]=.agg [vI s.bM[j].node,vI s.bM[j].side,vI s.bM[j].anchor,vI s.bM[j].x,vI s.bM[j].y,vI s.bM[j].w,vI s.bM[j].h]:=rfl;have hd:s.bM.drop j=s.bM[j]::s.bM.drop (j+1):=List.drop_eq_getElem_cons H';rw[hd,lA]at heq;have W2:=pJ S1;generalize s.bM[j]=f at*;have hic:=F2 (b.RA.drop RY) (by rw[List.length_drop];omega) f;rw[U6]at hic;have r1:RM .i64 ((j:Int)+1):=ao (by omega) (by omega);apply sR;simp only[go_sem,seval,t0,t3,t5,t10,t11,t12,q,Rv,U6];refine af λi7 Z7 s7 a7 f7=>?_;have ZU:=aq a3 f7;replace a3:=s7 _ _ a3;have z7:=hs.none f7;replace hs:=hs.trans s7;simp only[BB,seval,<-decide_not,bx,fg,aL,cU,eJ,eo,eN,dY,cz,jQ,gx,bI,fH,dP,fq,cP,bF,iP,dh,cQ,cp,SG,jT,dd,cc,iO,dI,cd,dc,cZ,kG,binBV,bW,dp,V.cells,V.stays,a7,Xp,BL,t0,t3,t5,t10,t11,t12,W2];generalize Tu:C' _ i7 _=Y7;replace a7:=(congrFun Tu i7).symm.trans ag;replace a3:=((congrFun Tu i3).symm.trans (ab ZU)).trans a3;replace hs:=Eq.subst (motive:=aa _) Tu (hs.aE z7);clear Tu;refine Go.bO rfl rfl rfl hic ?_;have Vd:(b.RA.drop RY).length=b.RA.length-RY:=List.length_drop;rcases oX f (b.RA.drop RY) 0 with h|⟨k,h,hk⟩
   .rw[h]at heq|-;rw[if_pos (by omega)]at heq;have hf:decide (gA b s)=false:=decide_eq_false λhm=>by rw[gA,heq]at hm;cases hm.1
    apply sG;simp only[go_sem,seval,t0,t3,t5,t10,t11,t12];rw[hf];exact ay.pure hs rfl
   .rw[h,Nat.zero_add]at heq|-;rw[if_neg (by omega),Int.toNat_natCast]at heq;have q1:((k:Int)<0)=False:=eq_false (by omega);have r2:RM .i64 ((k:Int)+1):=ao (by omega) (by omega);have r3:RM .i64 ((RY:Int)+(k+1)):=ao (by omega) (by omega);apply sG;simp only[go_sem,seval,t0,t3,t5,t10,t11,t12,q1,r1,r2,r3];refine⟨_,?_,j+1,RY+k+1,by omega,rfl,by omega,heq,hs,a3,rfl,?_,rfl⟩
    .omega
    .show V.int _ _=V.int _ _;congr 1
  .have q:((j:Int)<s.bM.length)=False:=eq_false (by omega);have Tt:j=s.bM.length:=by omega
   rw[Tt,List.drop_length,lA]at heq;have hmc:=pZ b.atoms s.s;rw[bj]at hmc;apply sR;simp only[go_sem,seval,t0,t3,t5,t10,t11,t12,q,a3,Xp,gn];refine Go.bO rfl rfl rfl hmc ?_;have fin:∀v:Bool,decide (gA b s)=v->ay (.bool v) J λr Z'=>r=.bool (decide (gA b s))/\Z'=U:=λv h=>by rw[h];exact ay.pure hs rfl
   by_cases hm:bZ b.atoms s.s
   .have f:=fin true (decide_eq_true ⟨heq,.inl hm⟩);rw[decide_eq_true hm];generalize decide (gA b s)=B at*;apply sG;simp only[go_sem,seval];exact f
   rw[decide_eq_false hm];by_cases ha:s.s.atom=b.atoms.length
   .by_cases hd:s.s.done=0
    .have f:=fin true (decide_eq_true ⟨heq,.inr ⟨ha,hd⟩⟩);generalize decide (gA b s)=B at*;have q1:(s.s.atom=(b.atoms.length:Int))=True:=eq_true ha;have q2:(s.s.done=0)=True:=eq_true hd;apply sG;simp only[go_sem,seval,t0,t3,a3,Xp,gn,UH,q1,q2];exact f
    .have f:=fin false (decide_eq_false λh=>by rcases h.2 with h|h;exact hm h;exact hd h.2)
     generalize decide (gA b s)=B at*;have q1:(s.s.atom=(b.atoms.length:Int))=True:=eq_true ha;have q2:(s.s.done=0)=False:=eq_false hd;apply sG;simp only[go_sem,seval,t0,t3,a3,Xp,gn,UH,q1,q2];exact f
   .have f:=fin false (decide_eq_false λh=>by rcases h.2 with h|h;exact hm h;exact ha h.1)
    generalize decide (gA b s)=B at*;have q1:(s.s.atom=(b.atoms.length:Int))=False:=eq_false ha;apply sG;simp only[go_sem,seval,t0,t3,a3,Xp,gn,UH,q1];exact f
def da(b:Bk)(s:Sy):Prop:=¬gA b s\/s.s.atom=b.atoms.length/\s.s.free=false/\s.bM=[]
instance (b:Bk) (s:Sy):Decidable (da b s):=by unfold da;infer_instance
def xL(b:Bk)(hb:BkFull b)(s:Sy)(hp:s.bM.length<=1000000):aV prog 57 [.rp (bt b),bX s] (.bool (decide (da b s))):=λU=>by
 refine e57.r (by simp[c57]) ?_;have hs:=aa.refl U;have h2:=hb.len;have Yf:=gi s.bM;have UH:=gC b.atoms;have hmc:=HN b hb s hp;rw[bX]at hmc;refine ad.mix 5 ?_;apply sR;simp only[go_sem,seval,c57,bX,au,ar];refine af λi3 Z3 s3 a3 f3=>?_;have z3:=hs.none f3;replace hs:=hs.trans s3;simp only[go_sem,seval];refine ad.aB rfl rfl rfl (rR b hb.h1 _) ?_;apply sR;simp only[go_sem,seval,a3];refine ad.aB rfl rfl rfl (hmc _) ?_;have fin:∀v:Bool,decide (da b s)=v->ay (.bool v) Z3 λr Z'=>r=.bool (decide (da b s))/\Z'=U:=λv h=>by rw[h];exact ay.pure hs rfl
 by_cases hm:gA b s
 .rw[decide_eq_true hm];by_cases ha:s.s.atom=b.atoms.length
  .have q1:(s.s.atom=(b.atoms.length:Int))=True:=eq_true ha;by_cases hf:s.s.free=true
   .have f:=fin false (decide_eq_false λh=>by rcases h with h|h;exact h hm;rw[hf]at h;cases h.2.1)
    generalize decide (da b s)=B at*;rw[hf]at a3;apply sR;simp only[go_sem,seval,a3,Xp,gn,UH,q1];exact f
   .have U1:s.s.free=false:=by simpa using hf
    by_cases hn:s.bM=[]
    .have f:=fin true (decide_eq_true (.inr ⟨ha,U1,hn⟩));generalize decide (da b s)=B at*;have q2:((s.bM.length:Int)=0)=True:=eq_true (by rw[hn];rfl);rw[U1]at a3;apply sR;simp only[go_sem,seval,a3,Xp,gn,UH,q1,Yf,q2];exact f
    .have f:=fin false (decide_eq_false λh=>by rcases h with h|h;exact h hm;exact hn h.2.2)
     generalize decide (da b s)=B at*;have q2:((s.bM.length:Int)=0)=False:=eq_false (by have:=List.length_pos_iff.2 hn;omega);rw[U1]at a3;apply sR;simp only[go_sem,seval,a3,Xp,gn,UH,q1,Yf,q2];exact f
  .have f:=fin false (decide_eq_false λh=>by rcases h with h|h;exact h hm;exact ha h.1)
   generalize decide (da b s)=B at*;have q1:(s.s.atom=(b.atoms.length:Int))=False:=eq_false ha;apply sR;simp only[go_sem,seval,a3,Xp,gn,UH,q1];exact f
 .rw[decide_eq_false hm];have f:=fin true (decide_eq_true (.inl hm));generalize decide (da b s)=B at*;apply sR;simp only[go_sem,seval];exact f
open Go.Proofs Go.Proofs.Tryz
structure UB where
 (no kind:Int)
 (hs fs ls:List Tp)
def bb(l:List Tp):V:=.sl 7 (l.map bo)
def cE(p:UB):V:=.agg [vI p.no,vI p.kind,bb p.hs,bb p.fs,bb p.ls]
def rU{s:Nat->V}{U:ai}{a1 a2:Bool}{n1 n2 d e t:Nat}{Post:V->ai->Prop}:
 VL [.cell a1 n1 (.t d),.cell a2 n2 (.t e),.tmp (.t t)] ⟨s,U⟩ Post=dS (bT U a1 n1 (s d)) λv=>dS (bT U a2 n2 (s e)) λw=>ay (.RB [v,w,s t]) U Post:=by
 unfold VL ay mW;simp only[eV,gJ,VX.ev];cases bT U a1 n1 (s d)<;>cases bT U a2 n2 (s e)<;>simp[dS]
def rP{body:Int}:∀(l:List P') (sh:Int),0<=sh->sh<=body->(∀f∈l,0<=f.h)->(dC body l sh).1.length<=l.length/\(∀m∈(dC body l sh).1,0<=m.y/\m.y<=body)/\0<=(dC body l sh).2.2/\(dC body l sh).2.2<=body
 |[],sh,h0,h1,_=>by simp[dC];omega
 |f::r,sh,h0,h1,hh=>by
  rw[dC];have hf:=hh f (by simp);split
  .simp;omega
  .rename_i hc;obtain⟨g1,g2,g3,g4⟩:=rP (body:=body) r (sh+min f.h body) (by omega) (by omega) (λg hg=>hh g (by simp[hg]));refine⟨by simp;omega,λm hm=>?_,g3,g4⟩;rcases List.mem_cons.1 hm with rfl|hm
   .simp only;omega
   .exact g2 m hm
def A2{l:List Nd}{x:Kp}{a:Int}(h:1<=x.body):1<=(jb l x a).body:=by
 unfold jb;split
 .exact h
 .simp only;omega
def pV{l:List Nd}{L:List Int}{h:Int}(hh:1<=h):∀m,1<=(gv l L h m).body
 |0=>hh
 |m+1=>A2 (pV hh m)
def iu{b:Bk}(hb:BkFull b)(s:Sn)(h0:0<=s.atom):1<=(bf b s).body:=by
 have h1:=hb.h1;unfold bf;split
 .exact h1
 .rename_i he;have hl0:0<b.atoms.length:=List.length_pos_iff.2 he;obtain⟨k,hk⟩:∃k:Nat,min s.atom ((b.atoms.length:Int)-1)=k:=⟨(min s.atom ((b.atoms.length:Int)-1)).toNat,by omega⟩
  have TR:k<b.atoms.length:=by omega
  have hn:=hb.nod _ (List.getElem_mem TR);rw[hk,bz TR];have hm:iV b.nodes b.h=true:=by simp[iV,hb.Yd,hb.h1,hb.h2]
  unfold rq;rw[if_pos ⟨hm,hn⟩];exact pV h1 _
def mM{RA:List P'}:∀(p:List P') (RY:Nat),lA RA p RY=true->∀f∈p,f∈RA
 |[],_,_,f,hf=>by cases hf
 |x::r,RY,h,f,hf=>by
  rw[lA]at h;split at h
  .cases h
  .rename_i hk;rcases List.mem_cons.1 hf with rfl|hf
   .have key:∀(l:List P') (i:Nat),¬kD f l i<0->f∈l:=by
     intro l
     induction l with
     |nil=>intro i h;simp[kD]at h
     |cons q l ih=>
      intro i h;rw[kD]at h;split at h
      .rename_i e;simp[e]
      .exact List.mem_cons_of_mem _ (ih _ h)
    exact List.mem_of_mem_drop (key _ _ hk)
   .exact mM r _ h f hf
def jS(x:Wx):UB:=⟨0,x.kind,x.hs,x.fs,x.ls⟩
def dk(b:Bk)(s:Sy):Wx:={ (({ bY b s.s .aC with shift:=(dC (bf b s.s).body s.bM 0).2.2 }:Wx).put (dC (bf b s.s).body s.bM 0).1)with kind:=0 }
def jy(b:Bk)(s:Sy):Prop:=s.s.atom=b.atoms.length\/(dC (bf b s.s).body s.bM 0).2.1≠[]\/(dC (bf b s.s).body s.bM 0).2.2>0/\gQ b.atoms s.s>(bf b s.s).body-(dC (bf b s.s).body s.bM 0).2.2
instance (b:Bk) (s:Sy):Decidable (jy b s):=by unfold jy;infer_instance
def aW(b:Bk)(s:Sy):UB×Sy:=
 if b.atoms=[]/\s.s.free=true then(jS (sO b (bY b s.s .aC)),lV b (bY b s.s .aC))
 else if jy b s then(jS { dk b s with kind:=2 },⟨⟨s.s.atom,s.s.done,s.s.free&&decide (s.s.atom<b.atoms.length)⟩,(dC (bf b s.s).body s.bM 0).2.1⟩)
 else(jS (eu b (dk b s)),eT b (dk b s))
def ql(b:Bk)(x:Wx)(h:V):jS (eu b { x with RG:=h })=jS (eu b x)/\eT b { x with RG:=h }=eT b x:=by
 unfold eu eT;by_cases hc:eO b.L' x.s.atom (cG b x)
 .rw[if_pos (show eO b.L' ({ x with RG:=h }:Wx).s.atom (cG b { x with RG:=h })from hc),if_pos (show eO b.L' ({ x with RG:=h }:Wx).s.atom (cG b { x with RG:=h })from hc),if_pos hc,if_pos hc];exact⟨rfl,rfl⟩
 .rw[if_neg (show¬eO b.L' ({ x with RG:=h }:Wx).s.atom (cG b { x with RG:=h })from hc),if_neg (show¬eO b.L' ({ x with RG:=h }:Wx).s.atom (cG b { x with RG:=h })from hc),if_neg hc,if_neg hc];exact⟨rfl,rfl⟩
def TS.aE{b:Bk}{K:ai}{ix:Nat}{x:Wx}{U:ai}{vh vf vl:V}(h:TS b K ix x U vh vf vl){i:Nat}{o:Ob}(hi:K i=some o)(o':Ob):TS b (C' K i o') ix x (C' U i o') vh vf vl:=by
 have hn:ix≠i:=λe=>by have:=h.no;subst e;rw[this]at hi;cases hi
 have key:∀{v rows},aT (bg K ix) U 63 7 v rows->aT (bg (C' K i o') ix) (C' U i o') 63 7 v rows:=λhv=>by
  rcases hv with h|⟨a,e,h3,h4⟩
  .exact .inl h
  .have hk:=(aM.1 h4).2;have ha:a≠i:=λe=>by subst e;rw[hk]at hi;cases hi
   exact .inr ⟨a,e,(Vc.ab ha).trans h3,aM.2 ⟨(aM.1 h4).1,(Vc.ab ha).trans hk⟩⟩
 refine⟨(Vc.ab hn).trans h.row,key h.oh,key h.of,key h.ol,h.hf,h.hl,h.fl,λa q ha=>?_,(Vc.ab hn).trans h.no⟩;by_cases e:a=i
 .subst e;rw[Vc.ag]at ha|-;exact ha
 .rw[Vc.ab e]at ha|-;exact h.sub _ _ ha
def TS.ret{b:Bk}{K Z0:ai}{ix:Nat}{x:Wx}{U:ai}{vh vf vl:V}(h:TS b K ix x U vh vf vl)(h0:aa Z0 K)(S:V)(e:Int):
 ay (.RB [.agg [vI 0,vI x.kind,vh,vf,vl],S,vI e]) U λr Z'=>r=.RB [cE (jS x),S,vI e]/\Z'=Z0:=by
 have hs:=h0.trans h.sub;have hK:aa Z0 (bg K ix):=λi o hh=>by
  rw[bg,if_neg (λe=>by rw[e]at hh;have:=h0 _ _ hh;rw[h.no]at this;cases this)];exact h0 _ _ hh
 exact⟨_,Z0,hs,Wk.RB (vs':=[cE (jS x),S,vI e]) ⟨Wk.agg (vs':=[vI 0,vI x.kind,bb x.hs,bb x.fs,bb x.ls]) ⟨Wk.refl hs _,Wk.refl hs _,h.oh.wk hK hs,h.of.wk hK hs,h.ol.wk hK hs,trivial⟩,Wk.refl hs _,Wk.refl hs _,trivial⟩,rfl,rfl⟩
def BP(b:Bk)(hb:BkFull b)(hfh:∀f∈b.RA,0<=f.h)(s:Sy)(hp:s.bM.length<=1000000):
 aV prog 58 [.rp (bt b),bX s] (if da b s then .RB [cE ⟨0,0,[],[],[]⟩,bX ⟨⟨0,0,false⟩,[]⟩,vI 4]else .RB [cE (aW b s).1,bX (aW b s).2,vI 0]):=λU=>by
 refine e58.r (by simp[c58]) ?_;have hs:=aa.refl U;have h2:=hb.len;have Yf:=gi s.bM;have UH:=gC b.atoms;have Yn:=xL b hb s hp;rw[bX]at Yn;refine ad.mix 12 ?_;apply sR;simp only[go_sem,seval,c58,bX,au,ar];refine af λi3 Z3 s3 a3 f3=>?_;have z3:=hs.none f3;replace hs:=hs.trans s3;simp only[go_sem,seval];refine af λi4 Z4 s4 a4 f4=>?_;have YU:=aq a3 f4;replace a3:=s4 _ _ a3;have z4:=hs.none f4;replace hs:=hs.trans s4;simp only[go_sem,seval];refine af λi5 Z5 s5 a5 f5=>?_;have Yw:=aq a3 f5;replace a3:=s5 _ _ a3;have TL:=aq a4 f5;replace a4:=s5 _ _ a4;have z5:=hs.none f5;replace hs:=hs.trans s5;simp only[go_sem,seval,a3];refine ad.aB rfl rfl rfl (Yn _) ?_;by_cases hm:da b s
 .rw[if_pos hm,decide_eq_true hm];have Wi:=TL.symm;apply sR;simp only[go_sem,seval,a4,a5,ab TL,ab Wi,rU];have RP:=(hs.aE (o:=⟨37,5,[.agg [vI 0,vI 0,.aC,.aC,.aC]]⟩) z4).aE (o:=⟨45,4,[.agg [vI 0,vI 0,.bool false,.aC]]⟩) z5;exact⟨_,U,RP,Wk.RB (vs':=[cE ⟨0,0,[],[],[]⟩,bX ⟨⟨0,0,false⟩,[]⟩,vI 4]) ⟨Wk.agg (vs':=[vI 0,vI 0,bb [],bb [],bb []]) ⟨Wk.refl RP _,Wk.refl RP _,Wk.aC 7,Wk.aC 7,Wk.aC 7,trivial⟩,Wk.agg (vs':=[vI 0,vI 0,.bool false,aH []]) ⟨Wk.refl RP _,Wk.refl RP _,Wk.refl RP _,Wk.aC 7,trivial⟩,Wk.refl RP _,trivial⟩,rfl,rfl⟩
 .rw[if_neg hm,decide_eq_false hm];have Sl:gA b s:=Decidable.byContradiction λh=>hm (.inl h);have Yr:¬(s.s.atom=b.atoms.length/\s.s.free=false/\s.bM=[]):=λh=>hm (.inr h);have S1:0<=s.s.atom:=by rcases Sl.2 with h|h;exact h.1.1;omega
  have Zh:∀f∈s.bM,0<=f.h:=λf hf=>hfh f (mM _ _ Sl.1 f hf);have Wf:=mO hb s.s;have hr1:=iu hb s.s S1;have hbc:=Ex b hb s.s S1 Z5;rw[bj]at hbc;apply sR;simp only[go_sem,seval,a3,Xp,gn];refine ad.call rfl rfl rfl hbc ?_;rintro r Z6 ⟨i1,vh,hv,rfl,hJ⟩;have c3:=hJ.sub _ _ a3;have xs:(bY b s.s hv).s=s.s:=rfl;have xb:(bY b s.s hv).body=(bf b s.s).body:=rfl;have xh:(bY b s.s hv).high=(bf b s.s).high:=rfl;have xl:(bY b s.s hv).ls=[]:=rfl;have xf:(bY b s.s hv).fs=[]:=rfl;have xk:(bY b s.s hv).kind=0:=rfl;have VM:aa U Z5:=hs;by_cases h0:b.atoms=[]/\s.s.free=true
  .obtain⟨h01,h02⟩:=h0;have q1:((b.atoms.length:Int)=0)=True:=eq_true (by rw[h01];rfl);rw[aW,if_pos ⟨h01,h02⟩];have Xo:=Es b hb.toBkOk (bY b s.s hv) (by rw[xl];simp) (by rw[xh];have:=Wf.high;omega) hJ;have e1:jS (sO b (bY b s.s .aC))=jS (sO b (bY b s.s hv)):=rfl;have e2:lV b (bY b s.s .aC)=lV b (bY b s.s hv):=rfl;rw[e1,e2];generalize sO b (bY b s.s hv)=X at*;generalize lV b (bY b s.s hv)=Z at*;rw[h02]at c3;apply sR;simp only[go_sem,seval,q1,UH,c3,Xp,gn];refine ad.call rfl rfl rfl Xo ?_;rintro r Z7 ⟨UT,rfl,ZZ⟩;have d5:=ZZ.sub _ _ a5;apply sR;simp only[go_sem,seval,d5,bX,au,ar,di];have Ta:=ZZ.aE a5 ⟨45,4,[.agg [vI Z.s.atom,vI Z.s.done,.bool Z.s.free,aH Z.bM]]⟩;generalize SY:C' Z7 i5 _=Y8 at*;have b1:=Ta.row;rw[du]at b1;have b5:=Ta.sub _ _ ag;have b4:=Ta.sub i4 _ ((ab TL).trans a4);obtain⟨ch,sh⟩:=Ta.oh.vc;obtain⟨cf,sf⟩:=Ta.of.vc;obtain⟨cl,sl⟩:=Ta.ol.vc;have Wi:=TL.symm;refine ad.rA (by kernel_rfl) [0,1,2,3,4,5,6,7] [[],[0],[0,1],[0,1,2],[],[0,1,2,3],[0,1,2,3,4,5],[0,1,2,3,4,5,6]] [0,2,4,6,8,10,9,12,14] (by kernel_rfl) (by kernel_rfl) ?_;refine RE.SC (n:=0) [9,12,14] [0,2,4,6,8,10] [⟨(.some 36),(.RJ (.t 8)),.none⟩,⟨(.some 37),(.nilCheck (.t 36)),.none⟩,⟨(.some 38),(.RU .true 7 5 (.t 37)),.none⟩,⟨(.some 39),(.load .true 5 (.t 38)),.none⟩,⟨(.some 40),(.load .true 4 (.t 5)),.none⟩,⟨.none,(.store 5 (.t 4) (.t 39)),.none⟩] rfl rfl ?_;apply sG;simp only[go_sem,seval,b1,b4,b5,ch,sh,cf,sf,cl,sl,au,ar,ab Wi,ab TL];refine RE.SX rfl rfl rfl rfl rfl trivial (by simp only[go_sem,seval,b1,b4,b5,ab Wi,ab TL]) ?_;refine RE.SC (n:=0) [] [12,14] [⟨.none,(.store 4 (.t 5) (.t 40)),.none⟩,⟨(.some 6),(.RJ (.c (.int .i64 0))),.none⟩] rfl rfl ?_;apply sG;simp only[go_sem,seval,b1,b4,b5,ch,sh,cf,sf,cl,sl,au,ar,ab Wi,ab TL];apply sR;simp only[go_sem,seval,b1,b4,b5,rU,ab Wi,ab TL];exact((Ta.aE ((ab TL).trans a4) _).aE ((ab Wi).trans ag) _).ret (((VM.aE z5).aE z4).aE z5) _ _
  .have ZC:aW b s=if jy b s then(jS { dk b s with kind:=2 },⟨⟨s.s.atom,s.s.done,s.s.free&&decide (s.s.atom<b.atoms.length)⟩,(dC (bf b s.s).body s.bM 0).2.1⟩)else(jS (eu b (dk b s)),eT b (dk b s)):=by rw[aW,if_neg h0]
   have htc:=Ek s.bM hp (bf b s.s).body hr1 (by have:=Wf.body;omega) Zh;obtain⟨g1,g2,g3,g4⟩:=rP (body:=(bf b s.s).body) s.bM 0 (Int.le_refl _) (by omega) Zh;have Xo:=H8 b.atoms hb.RY s.s (by
    rcases Sl.2 with h|h
    .have:=pS hb.toBkOk h;omega
    .omega)
   rw[bj]at Xo;have b1:=hJ.row;simp only[du,bY]at b1;have hfw:=Hj b hb.toBkOk;have hX:∀x:Wx,x=({ bY b s.s hv with shift:=(dC (bf b s.s).body s.bM 0).2.2 }:Wx).put (dC (bf b s.s).body s.bM 0).1->jS { x with kind:=2 }=jS { dk b s with kind:=2 }/\jS (eu b x)=jS (eu b (dk b s))/\eT b x=eT b (dk b s):=λx hx=>by
    subst hx;exact⟨rfl,(ql b (dk b s) hv).1,(ql b (dk b s) hv).2⟩
   have hp1:jy b s->aW b s=_:=λh=>ZC.trans (if_pos h);have hp2:¬jy b s->aW b s=_:=λh=>ZC.trans (if_neg h);clear ZC;unfold jy at hp1 hp2;generalize dk b s=TX at*;generalize dC (bf b s.s).body s.bM 0=T at*;obtain⟨put,left,Xe⟩:=T;simp only at htc g1 g2 g3 g4 hX hp1 hp2;have Ye:=gi left;have hq:(((b.atoms.length:Int)=0)=True/\s.s.free=false)\/(((b.atoms.length:Int)=0)=False/\True):=by
    by_cases he:b.atoms=[]
    .exact .inl ⟨eq_true (by rw[he];rfl),by
      cases UM:s.s.free
      .rfl
      .exact absurd ⟨he,UM⟩ h0⟩
    .exact .inr ⟨eq_false (by have:=List.length_pos_iff.2 he;omega),trivial⟩
   rcases hq with⟨q,hf⟩|⟨q,hf⟩
   all_goals
    apply sR;simp only[go_sem,seval,q,hf,UH,c3,b1,Xp,gn];refine Go.bO rfl rfl rfl htc ?_;apply sG;simp only[go_sem,seval,b1];generalize Tu:C' Z6 i1 _=Y7;have ZZ:TS b Z5 i1 { bY b s.s hv with shift:=Xe } Y7 vh .aC .aC:=by
     rw[<-Tu];exact hJ.set _ rfl rfl rfl
    refine ad.call rfl rfl rfl (mF b put (by omega) { bY b s.s hv with shift:=Xe } (by simp[bY]) (λf hf=>by
     have:=g2 f hf;have:=Wf.high;have:=Wf.body;exact ao (by show _<=f.y+(bf b s.s).high;omega) (by show f.y+(bf b s.s).high<=_;omega)) ZZ) ?_
    rintro-Z8 ⟨UT,Ta⟩;obtain⟨x1,x2,x3⟩:=hX _ rfl;have c3:=Ta.sub _ _ a3;have d5:=Ta.sub _ _ a5;have b1:=Ta.row;have ys:(Wx.put { bY b s.s hv with shift:=Xe } put).s=s.s:=rfl;have yb:(Wx.put { bY b s.s hv with shift:=Xe } put).body=(bf b s.s).body:=rfl;have yh:(Wx.put { bY b s.s hv with shift:=Xe } put).high=(bf b s.s).high:=rfl;have yw:(Wx.put { bY b s.s hv with shift:=Xe } put).shift=Xe:=rfl;have yf:(Wx.put { bY b s.s hv with shift:=Xe } put).fs.length<=1000000:=by simp[Wx.put,bY]
    have yl:(Wx.put { bY b s.s hv with shift:=Xe } put).ls.length<=1000000:=by simp[Wx.put,bY];omega
    generalize Wx.put { bY b s.s hv with shift:=Xe } put=Y at*;rw[du]at b1;have Zf:i1≠i5:=λe=>by have:=Ta.no;rw[e,a5]at this;cases this
    have n51:=Zf.symm;have Wi:=TL.symm;have r1:RM .i64 ((bf b s.s).body-Xe):=ao (by omega) (by have:=Wf.body;omega);rw[<-yb]at r1 hp1 hp2;by_cases WX:s.s.atom=b.atoms.length\/left≠[]\/Xe>0/\gQ b.atoms s.s>Y.body-Xe
    .rw[hp1 WX,<-x1];have hw:((s.s.atom=(b.atoms.length:Int))=True/\True/\True/\True)\/((s.s.atom=(b.atoms.length:Int))=False/\((left.length:Int)>0)=True/\True/\True)\/
      ((s.s.atom=(b.atoms.length:Int))=False/\((left.length:Int)>0)=False/\(Xe>0)=True/\(gQ b.atoms s.s>Y.body-Xe)=True):=by
      by_cases hA:s.s.atom=b.atoms.length
      .exact .inl ⟨eq_true hA,trivial,trivial,trivial⟩
      by_cases hB:left=[]
      .obtain⟨hC,hD⟩:=(WX.resolve_left hA).resolve_left (λh=>h hB);exact .inr (.inr ⟨eq_false hA,eq_false (by rw[hB];simp),eq_true hC,eq_true hD⟩)
      .exact .inr (.inl ⟨eq_false hA,eq_true (by have:=List.length_pos_iff.2 hB;omega),trivial,trivial⟩)
     obtain⟨VAL,hV⟩:∃VAL:Bool,VAL=(s.s.free&&decide (s.s.atom<b.atoms.length)):=⟨_,rfl⟩
     have Vt:i3≠i1:=λe=>by have:=Ta.no;rw[<-e,a3]at this;cases this
     cases UM:s.s.free
     all_goals
      simp only[UM,Bool.false_and,Bool.true_and]at hV;rw[UM]at Xo;rcases hw with⟨qA,qB,qC,qD⟩|⟨qA,qB,qC,qD⟩|⟨qA,qB,qC,qD⟩
      all_goals
       apply sR;simp only[go_sem,seval,c3,d5,b1,UH,Ye,qA,qB,qC,Xp,gn,UM,ab Zf,ab n51,ab Vt,ab Yw,di,au,ar]
       try
        refine Go.bO rfl rfl rfl Xo ?_;apply sG;simp only[go_sem,seval,c3,d5,b1,r1,qD,UH,Ye,Xp,gn,UM,ab Zf,ab n51,ab Vt,ab Yw,di,au,ar]
       generalize SY:C' (C' Z8 i1 _) i5 _=Y8;have Ta:TS b (C' Z5 i5 ⟨45,4,[.agg [vI s.s.atom,vI s.s.done,.bool VAL,aH left]]⟩) i1 { Y with kind:=2 } Y8 vh .aC UT:=by
        rw[<-SY,hV];exact(Ta.set { Y with kind:=2 } rfl rfl rfl).aE a5 _
       clear SY;have b1:=Ta.row;rw[du]at b1;have b5:=Ta.sub _ _ ag;rw[hV]at b5;have b4:=Ta.sub i4 _ ((ab TL).trans a4);obtain⟨ch,sh⟩:=Ta.oh.vc;obtain⟨cf,sf⟩:=Ta.of.vc;obtain⟨cl,sl⟩:=Ta.ol.vc;refine ad.rA (by kernel_rfl) [0,1,2,3,4,5,6,7] [[],[0],[0,1],[0,1,2],[],[0,1,2,3],[0,1,2,3,4,5],[0,1,2,3,4,5,6]] [0,2,4,6,8,10,9,12,14] (by kernel_rfl) (by kernel_rfl) ?_;refine RE.SC (n:=0) [9,12,14] [0,2,4,6,8,10] [⟨(.some 110),(.RJ (.t 8)),.none⟩,⟨(.some 111),(.nilCheck (.t 110)),.none⟩,⟨(.some 112),(.RU .true 7 5 (.t 111)),.none⟩,⟨(.some 113),(.load .true 5 (.t 112)),.none⟩,⟨(.some 114),(.load .true 4 (.t 5)),.none⟩,⟨.none,(.store 5 (.t 4) (.t 113)),.none⟩] rfl rfl ?_;apply sG;simp only[go_sem,seval,b1,b4,b5,ch,sh,cf,sf,cl,sl,au,ar,ab Wi,ab TL];refine RE.SX rfl rfl rfl rfl rfl trivial (by simp only[go_sem,seval,b1,b4,b5,ab Wi,ab TL]) ?_;refine RE.SC (n:=0) [] [12,14] [⟨.none,(.store 4 (.t 5) (.t 114)),.none⟩,⟨(.some 6),(.RJ (.c (.int .i64 0))),.none⟩] rfl rfl ?_;apply sG;simp only[go_sem,seval,b1,b4,b5,ch,sh,cf,sf,cl,sl,au,ar,ab Wi,ab TL];apply sR;simp only[go_sem,seval,b1,b4,b5,rU,ab Wi,ab TL];exact((Ta.aE ((ab TL).trans a4) _).aE ((ab Wi).trans ag) _).ret (((VM.aE z5).aE z4).aE z5) _ _
    .rw[hp2 WX,<-x2,<-x3];have hA:¬s.s.atom=b.atoms.length:=λh=>WX (.inl h);have V1:bZ b.atoms s.s:=Sl.2.resolve_right λh=>hA h.1;have hw:((s.s.atom=(b.atoms.length:Int))=False/\((left.length:Int)>0)=False/\(Xe>0)=False/\True)\/((s.s.atom=(b.atoms.length:Int))=False/\((left.length:Int)>0)=False/\(Xe>0)=True/\(gQ b.atoms s.s>Y.body-Xe)=False):=by
      have hB:left=[]:=Decidable.byContradiction λh=>WX (.inr (.inl h));have hB':((left.length:Int)>0)=False:=eq_false (by rw[hB];simp);by_cases hC:Xe>0
      .exact .inr ⟨eq_false hA,hB',eq_true hC,eq_false λh=>WX (.inr (.inr ⟨hC,h⟩))⟩
      .exact .inl ⟨eq_false hA,hB',eq_false hC,trivial⟩
     have hwf:=hfw Y (by rw[ys];exact V1) yf yl (by rw[yh];have:=Wf.high;omega) (by rw[yb];have:=Wf.body;omega) (by rw[yw];have:=Wf.body;omega) Ta;generalize eu b Y=X at*;generalize eT b Y=Z at*;rcases hw with⟨qA,qB,qC,qD⟩|⟨qA,qB,qC,qD⟩
     all_goals
      apply sR;simp only[go_sem,seval,c3,UH,qA,Ye,qB,qC,Xp,gn]
      try
       refine Go.bO rfl rfl rfl Xo ?_;apply sG;simp only[go_sem,seval,b1,r1,qD]
      refine ad.call rfl rfl rfl hwf ?_;rintro-Z9 ⟨Vo,vl'',rfl,TA⟩;have e5:=TA.sub _ _ a5;apply sR;simp only[go_sem,seval,e5,bX,au,ar,di];have Ta:=TA.aE a5 ⟨45,4,[.agg [vI Z.s.atom,vI Z.s.done,.bool Z.s.free,aH Z.bM]]⟩;generalize SY:C' Z9 i5 _=Y8 at*;have b1:=Ta.row;rw[du]at b1;have b5:=Ta.sub _ _ ag;have b4:=Ta.sub i4 _ ((ab TL).trans a4);obtain⟨ch,sh⟩:=Ta.oh.vc;obtain⟨cf,sf⟩:=Ta.of.vc;obtain⟨cl,sl⟩:=Ta.ol.vc;refine ad.rA (by kernel_rfl) [0,1,2,3,4,5,6,7] [[],[0],[0,1],[0,1,2],[],[0,1,2,3],[0,1,2,3,4,5],[0,1,2,3,4,5,6]] [0,2,4,6,8,10,9,12,14] (by kernel_rfl) (by kernel_rfl) ?_;refine RE.SC (n:=0) [9,12,14] [0,2,4,6,8,10] [⟨(.some 117),(.RJ (.t 8)),.none⟩,⟨(.some 118),(.nilCheck (.t 117)),.none⟩,⟨(.some 119),(.RU .true 7 5 (.t 118)),.none⟩,⟨(.some 120),(.load .true 5 (.t 119)),.none⟩,⟨(.some 121),(.load .true 4 (.t 5)),.none⟩,⟨.none,(.store 5 (.t 4) (.t 120)),.none⟩] rfl rfl ?_;apply sG;simp only[go_sem,seval,b1,b4,b5,ch,sh,cf,sf,cl,sl,au,ar,ab Wi,ab TL];refine RE.SX rfl rfl rfl rfl rfl trivial (by simp only[go_sem,seval,b1,b4,b5,ab Wi,ab TL]) ?_;refine RE.SC (n:=0) [] [12,14] [⟨.none,(.store 4 (.t 5) (.t 121)),.none⟩,⟨(.some 6),(.RJ (.c (.int .i64 0))),.none⟩] rfl rfl ?_;apply sG;simp only[go_sem,seval,b1,b4,b5,ch,sh,cf,sf,cl,sl,au,ar,ab Wi,ab TL];apply sR;simp only[go_sem,seval,b1,b4,b5,rU,ab Wi,ab TL];exact((Ta.aE ((ab TL).trans a4) _).aE ((ab Wi).trans ag) _).ret (((VM.aE z5).aE z4).aE z5) _ _
def Xq(cnt:Nat->Nat)(a n:Nat):List Int:=(List.range' a n).flatMap λi=>List.replicate (cnt i) (i:Int)
def jJ(cnt:Nat->Nat)(a:Nat):Xq cnt a 0=[]:=rfl
def gZ(cnt:Nat->Nat)(a n:Nat):Xq cnt a (n+1)=List.replicate (cnt a) (a:Int)++Xq cnt (a+1) n:=by
 simp[Xq,List.range'_succ]
def mP{f g:Nat->Nat}:∀(n a:Nat),(∀i,a<=i->i<a+n->f i=g i)->Xq f a n=Xq g a n
 |0,_,_=>rfl
 |n+1,a,h=>by
  rw[gZ,gZ,h a (Nat.le_refl a) (by omega),mP n (a+1) (λi h1 h2=>h i (by omega) (by omega))]
def yO(cnt:Nat->Nat):∀(n a m:Nat),Xq cnt a (n+m)=Xq cnt a n++Xq cnt (a+n) m
 |0,a,m=>by simp[jJ]
 |n+1,a,m=>by
  rw[show n+1+m=(n+m)+1 by omega,gZ,gZ,yO cnt n (a+1) m,List.append_assoc,show a+1+n=a+(n+1) by omega]
def HD(f g:Nat->Nat)(a n m:Nat):Xq f a n++Xq g (a+n) m=Xq (λi=>if i<a+n then f i else g i) a (n+m):=by
 rw[yO];congr 1
 .exact mP n a λi h1 h2=>by simp[h2]
 .exact mP m (a+n) λi h1 h2=>by simp[show¬i<a+n by omega]
structure AtI(C:Int)(x:Sk):Prop where
 y0:0<=x.y
 y1:x.y<=C
 h0:1<=x.h
 h1:x.h<=1099511627776
def AtI.mono{B C:Int}{x:Sk}(h:AtI B x)(hB:B<=C):AtI C x:=⟨h.y0,Int.le_trans h.y1 hB,h.h0,h.h1⟩
def lK(a:Nat)(h:Int):∀(L:List Ln) (s:WS),(hU a h s L).atoms=s.atoms++L.map (fe a h)
 |[],s=>by simp[hU]
 |x::L,s=>by
  have:=lK a h L (s.put (fe a h x));simp only[hU,List.foldl_cons]at this|-;rw[this];simp[WS.put]
def Ha(a:Nat)(h:Int)(L:List Ln):(L.map (fe a h)).map (·.node)=List.replicate L.length (a:Int):=by
 rw[List.map_map]
 induction L with
 |nil=>rfl
 |cons x L ih=>rw[List.map_cons,ih];rfl
def Df{l:List Nd}{a e:Nat}(he:e<=l.length)(h:cq l a e=true)(Xa:a<e)(hk:(R4 l a).kind≠1):Sa l a<=1:=by
 have ha:a<l.length:=by omega
 rw[iU ha]at hk;rw[cq,dif_pos Xa]at h;simp only[List.getElem?_eq_getElem ha]at h;split at h
 .simp only[Ba,Bool.or_eq_true,decide_eq_true_eq]at h;have:=h.1.1.resolve_left hk;simp only[Sa,List.getElem?_eq_getElem ha,Option.map_some,Option.getD_some];omega
 .cases h
structure zH(l:List Nd)(s t:WS)(a e C:Nat):Prop where
 RY:∀x∈t.atoms,AtI (1099511627776*(C:Int)) x
 nodes:∃cnt,t.atoms.map (·.node)=s.atoms.map (·.node)++Xq cnt a (e-a)/\∀i,a<=i->i<e->okN (R4 l i) (cnt i)=true
def zH.join{l:List Nd}{s t u:WS}{a m e C D:Nat}(h1:a<=m)(h2:m<=e)(hA:zH l s t a m C)(hB:zH l t u m e D):zH l s u a e D:=by
 obtain⟨_,f,hf,Ws⟩:=hA;obtain⟨S1,g,hg,TG⟩:=hB;refine⟨S1,λi=>if i<m then f i else g i,?_,λi h3 h4=>?_⟩
 .rw[hg,hf,List.append_assoc];congr 1;obtain⟨n,rfl⟩:∃n,m=a+n:=⟨m-a,by omega⟩
  obtain⟨k,rfl⟩:∃k,e=a+n+k:=⟨e-(a+n),by omega⟩
  rw[show a+n-a=n by omega,show a+n+k-(a+n)=k by omega,show a+n+k-a=n+k by omega,HD]
 .simp only;split
  .exact Ws i h3 (by omega)
  .exact TG i (by omega) h4
def rH{l:List Nd}{rs:List Rm}(hD:YE l rs):∀(k a e:Nat) (s:WS) (C:Nat),e-a<=k->a<=e->e<=l.length->cq l a e=true->fU s C->(∀x∈s.atoms,AtI (1099511627776*(C:Int)) x)->zH l s (eA l rs k a e s) a e (C+Tb l a e)
 |0,a,e,s,C,hk,Xa,_,_,h,hx=>by
  obtain rfl:a=e:=by omega
  refine⟨λx R9=>(hx x R9).mono (by omega),λ_=>0,by simp[eA,jJ],λi h1 h2=>by omega⟩
 |k+1,a,e,s,C,hk,Xa,he,hr,h,hx=>by
  rw[eA];by_cases H':a<e
  .rw[if_pos H'];obtain⟨h1,h2⟩:=dt he hr (Nat.le_refl a) H';obtain⟨h3,h4⟩:=ej he hr H';have R7:Zb (R4 l a):=by rw[iU (by omega)];exact gr hD.Yd (by omega)
   have YQ:Tb l a e=Tb l a (a+(Sa l a).toNat)+Tb l (a+(Sa l a).toNat) e:=kN (by omega) (by omega) he;have hc2:Tb l a (a+(Sa l a).toNat)=4+(R4 l a).words.length+Tb l (a+1) (a+(Sa l a).toNat):=sF (by omega) (by omega);have step:∀t,fU t (C+Tb l a (a+(Sa l a).toNat))->zH l s t a (a+(Sa l a).toNat) (C+Tb l a (a+(Sa l a).toNat))->zH l s (eA l rs k (a+(Sa l a).toNat) e t) a e (C+Tb l a e):=λt ht hA=>by
    rw[YQ,<-Nat.add_assoc];exact hA.join (by omega) (by omega) (rH hD k _ e t _ (by omega) (by omega) he h3 ht hA.RY)
   have one:∀(t:WS) (n:Nat),okN (R4 l a) n=true->(Sa l a).toNat=1->t.atoms.map (·.node)=s.atoms.map (·.node)++List.replicate n (a:Int)->(∀x∈t.atoms,AtI (1099511627776*((C+Tb l a (a+(Sa l a).toNat):Nat):Int)) x)->zH l s t a (a+(Sa l a).toNat) (C+Tb l a (a+(Sa l a).toNat)):=λt n hn TI hm S1=>by
    refine⟨S1,λ_=>n,?_,λi h5 h6=>?_⟩
    .rw[hm,TI,show a+1-a=1 by omega,gZ,jJ,List.append_nil]
    .obtain rfl:i=a:=by omega
     exact hn
   obtain⟨⟨hf,p1,p2,p3,p4⟩,p5,p6⟩:=h;have hI:fU s C:=⟨⟨hf,p1,p2,p3,p4⟩,p5,p6⟩
   by_cases k1:(R4 l a).kind=1
   .rw[if_pos k1];have hI2:=gz hD k (a+1) (a+(Sa l a).toNat) _ _ (by omega) (by omega) (by omega) h4 (fk hI R7.st);have hA2:=rH hD k (a+1) (a+(Sa l a).toNat) (s.enter (R4 l a).st) (C+2) (by omega) (by omega) (by omega) h4 (fk hI R7.st) (λx R9=>(hx x R9).mono (by omega));refine step _ ((jP hI2 R7.st).more (by omega)) ?_;obtain⟨S1,cnt,hc,hco⟩:=hA2;refine⟨λx R9=>(S1 x R9).mono (by omega),λi=>if i=a then 0 else cnt i,?_,λi h5 h6=>?_⟩
    .have e1:(s.enter (R4 l a).st).atoms=s.atoms:=rfl;rw[e1]at hc;show(eA l rs k (a+1) (a+(Sa l a).toNat) (s.enter (R4 l a).st)).atoms.map (·.node)=_;rw[hc];congr 1;obtain⟨m,hm⟩:∃m,(Sa l a).toNat=m+1:=⟨(Sa l a).toNat-1,by omega⟩
     rw[hm,show a+(m+1)-(a+1)=m by omega,show a+(m+1)-a=m+1 by omega,gZ];simp only[if_true,List.replicate_zero,List.nil_append];exact mP m (a+1) λi h5 h6=>by simp[show i≠a by omega]
    .simp only;split
     .rename_i e;subst e;simp[okN,k1]
     .exact hco i (by omega) h6
   .rw[if_neg k1];have TI:(Sa l a).toNat=1:=by
     have:=Df he hr H' k1;omega
    by_cases k2:(R4 l a).kind=2
    .rw[if_pos k2];refine step _ ((kU hI R7 a).more (by omega)) ?_;have hl:=R7.line;obtain⟨hw0,hl1⟩:=R7.text k2;have hLl:=jx s.B' (R4 l a).words (R4 l a).space (R4 l a).line (eI rs a) (R4 l a).words.length 0 (s.RK.y+s.RK.m);have hLb:=jl (ws:=(R4 l a).words) (space:=(R4 l a).space) (s:=eI rs a) (λf U1=>(hf f U1).yB) hl.1 (R4 l a).words.length 0 (s.RK.y+s.RK.m);have hLn:dM s.B' (R4 l a).words (R4 l a).space (R4 l a).line (eI rs a) (R4 l a).words.length 0 (s.RK.y+s.RK.m)≠[]:=by
      obtain⟨m,hm⟩:∃m,(R4 l a).words.length=m+1:=⟨(R4 l a).words.length-1,by omega⟩
      rw[hm,dM,if_pos (by omega)];simp
     have hte:(s.text rs a (R4 l a)).atoms=s.atoms++(dM s.B' (R4 l a).words (R4 l a).space (R4 l a).line (eI rs a) (R4 l a).words.length 0 (s.RK.y+s.RK.m)).map (fe a (R4 l a).line):=lK a _ _ s;generalize dM s.B' (R4 l a).words (R4 l a).space (R4 l a).line (eI rs a) (R4 l a).words.length 0 (s.RK.y+s.RK.m)=L at*;have hL0:=List.length_pos_iff.2 hLn;have hmul:(R4 l a).line*((R4 l a).words.length:Int)<=1099511627776*((R4 l a).words.length:Int):=Int.mul_le_mul_of_nonneg_right hl.2 (by omega);refine one _ L.length (by simp only[okN,k2,if_true,decide_eq_true_eq];omega) TI (by rw[hte,List.map_append,Ha]) (λx R9=>?_);rw[hte]at R9;rcases List.mem_append.1 R9 with R9|R9
     .exact(hx x R9).mono (by omega)
     .obtain⟨y,hy,rfl⟩:=List.mem_map.1 R9;have:=hLb y hy;refine⟨?_,?_,hl1,hl.2⟩<;>simp only[fe]<;>omega
    .rw[if_neg k2];by_cases k3:(R4 l a).kind=3
     .rw[if_pos k3];refine step _ ((kF hI R7 a).more (by omega)) ?_;have hyr:=fV (w:=(R4 l a).w) (high:=(R4 l a).h) (y:=s.RK.y+s.RK.m) (s:=eI rs a) (λf U1=>(hf f U1).yB);have hbx:=R7.box (.inl k3);have hh:=R7.h;refine one _ 1 (by simp[okN,k3]) TI (by simp[WS.mono,WS.put]) (λx R9=>?_);simp only[WS.mono,WS.put]at R9;rcases List.mem_append.1 R9 with R9|R9
      .exact(hx x R9).mono (by omega)
      .simp only[List.mem_singleton]at R9;subst R9;refine⟨?_,?_,?_,?_⟩<;>simp only<;>omega
     .rw[if_neg k3];have k4:(R4 l a).kind=4:=by rcases R7.kind with h|h|h|h;exact absurd h k1;exact absurd h k2;exact absurd h k3;exact h
      refine step _ ((jr hD hI (by omega) R7 k4).more (by omega)) ?_;exact one _ 0 (by simp[okN,k4]) TI (by simp[WS.float]) (λx R9=>(hx x R9).mono (by omega))
  .rw[if_neg H'];obtain rfl:a=e:=by omega
   exact⟨λx R9=>(hx x R9).mono (by omega),λ_=>0,by simp[jJ],λi h1 h2=>by omega⟩
def E1(i:Int)(L:List Int)(h:∀x∈L,x≠i):∀k,tG i (List.replicate k i++L)=k
 |0=>by
  cases L with
  |nil=>rfl
  |cons x L=>rw[List.replicate_zero,List.nil_append,tG,if_neg (h x (by simp))]
 |k+1=>by rw[List.replicate_succ,List.cons_append,tG,if_pos rfl,E1 i L h k]
def xz{cnt:Nat->Nat}:∀{n a:Nat} {x:Int},x∈Xq cnt a n->∃i:Nat,x=i/\a<=i/\i<a+n
 |0,_,_,h=>by simp[jJ]at h
 |n+1,a,x,h=>by
  rw[gZ]at h;rcases List.mem_append.1 h with h|h
  .exact⟨a,(List.mem_replicate.1 h).2,by omega,by omega⟩
  .obtain⟨i,h1,h2,h3⟩:=xz h;exact⟨i,h1,by omega,by omega⟩
def At{cnt:Nat->Nat}{of:List Int}:∀(r:List Nd) (i RY:Nat),of.drop RY=Xq cnt i r.length->RY<=of.length->(∀j (h:j<r.length),okN r[j] (cnt (i+j))=true)->An of r i RY=true
 |[],i,RY,h,hl,_=>by
  have:of.length<=RY:=by
   have:=congrArg List.length h;simp[jJ]at this;omega
  simp[An];omega
 |x::r,i,RY,h,hl,ho=>by
  rw[List.length_cons,gZ]at h;have ht:lu of RY i=cnt i:=by
   rw[lu,h];exact E1 _ _ (λy hy=>by obtain⟨j,h1,h2,_⟩:=xz hy;omega) _
  rw[An,ht];have h0:=ho 0 (by simp);simp only[List.getElem_cons_zero,Nat.add_zero]at h0;rw[h0,Bool.true_and];have hd:of.drop (RY+cnt i)=Xq cnt (i+1) r.length:=by
   rw[<-List.drop_drop,h,List.drop_append_of_le_length (by simp)];simp
  refine At r (i+1) _ hd ?_ (λj hj=>?_)
  .have:=congrArg List.length h;simp at this;omega
  .have:=ho (j+1) (by simpa using hj);simp only[List.getElem_cons_succ]at this
   rwa [show i+1+j=i+(j+1) by omega]
structure NC(l:List Nd)(w:Int):Prop where
 may:pX l ((dj l w).atoms.map (·.node))=true
 nod:∀a∈(dj l w).atoms,0<=a.node/\a.node<l.length
 RY:∀x∈(dj l w).atoms,AtI (1099511627776*((Tb l 0 l.length:Nat):Int)) x
 len:(dj l w).atoms.length<=Tb l 0 l.length
 Uz:(dj l w).B'.length<=Tb l 0 l.length
 YF:∀f∈(dj l w).B',ZE (1099511627776*((Tb l 0 l.length:Nat):Int)) f
def xG{l:List Nd}(hb:So l=true)(hn:l.length<=2000){w:Int}(h1:1<=w)(h2:w<=1099511627776):NC l w:=by
 have hD:=uw hb hn h1 h2;have hr:cq l 0 l.length=true:=by simp only[So,Ba]at hb;exact hb.2
 have hI:fU ⟨[],[],0,⟨0,0⟩⟩ 0:=⟨⟨by simp,by simp,by simp,by simp,by simp⟩,by simp,by simp⟩
 have hA:=rH hD l.length 0 l.length ⟨[],[],0,⟨0,0⟩⟩ 0 (by omega) (by omega) (Nat.le_refl _) hr hI (by simp);have hJ:=gz hD l.length 0 l.length ⟨[],[],0,⟨0,0⟩⟩ 0 (by omega) (by omega) (Nat.le_refl _) hr hI;rw[Nat.zero_add]at hA hJ;have ha:(dj l w).atoms=(eA l (kW l w) l.length 0 l.length ⟨[],[],0,⟨0,0⟩⟩).atoms:=rfl;have hf:(dj l w).B'=(eA l (kW l w) l.length 0 l.length ⟨[],[],0,⟨0,0⟩⟩).B'.map (tL (eA l (kW l w) l.length 0 l.length ⟨[],[],0,⟨0,0⟩⟩).atoms.length):=rfl;obtain⟨S1,cnt,hc,hco⟩:=hA;rw[List.map_nil,List.nil_append,Nat.sub_zero]at hc;refine⟨?_,λa hm=>?_,by rw[ha];exact S1,by rw[ha];exact hJ.RY,by rw[hf,List.length_map];exact hJ.fl,λf hm=>?_⟩
 .rw[ha,hc];refine At (cnt:=cnt) l 0 0 (by simpa using hc) (Nat.zero_le _) (λj hj=>?_);have:=hco j (Nat.zero_le _) hj;rw[iU hj]at this
  rwa [Nat.zero_add]
 .have V1:a.node∈Xq cnt 0 l.length:=by rw[<-hc,<-ha];exact List.mem_map_of_mem hm
  obtain⟨i,e,_,hi⟩:=xz V1;omega
 .rw[hf]at hm;obtain⟨g,hg,rfl⟩:=List.mem_map.1 hm;have:=hJ.bd.fl g hg;exact⟨this.1,this.2,this.3,this.4,this.5,this.6,this.7,this.8⟩
def tH:∀(l:List Nd),(∀x∈l,Zb x)->((l.map λn=>4+n.words.length).sum:Nat)<=4*(l.length:Int)+kv l/\∀x∈l,(x.words.length:Int)<=kv l
 |[],_=>by simp[kv]
 |x::l,h=>by
  obtain⟨h1,h2⟩:=tH l (λy hy=>h y (by simp[hy]));have hx:=h x (by simp);have hp:(x.words.length:Int)<=pof x/\0<=pof x:=by
   unfold pof;by_cases k1:x.kind=1
   .have:=hx.Zd (by omega);simp[k1,this]
   .by_cases k2:x.kind=2
    .simp[k2]
    .have:=hx.Zd k2;simp[k1,k2,this]
  have hp0:0<=kv l:=by
   have:∀l:List Nd,0<=kv l:=by
    intro l
    induction l with
    |nil=>simp[kv]
    |cons y l ih=>
     have:0<=pof y:=by unfold pof;split;omega;split;omega;omega
     simp only[kv];omega
   exact this l
  refine⟨by simp only[List.map_cons,List.sum_cons,List.length_cons,kv];omega,λy hy=>?_⟩;rcases List.mem_cons.1 hy with rfl|hy
  .simp only[kv];omega
  .have:=h2 y hy;simp only[kv];omega
structure Nl(l:List Nd):Prop where
 Yd:So l=true
 len:l.length<=2000
 words:∀x∈l,x.words.length<=2000
 Tb:Tb l 0 l.length<=10000
def wT{l:List Nd}(h:gY l=0):Nl l:=by
 unfold gY at h;split at h
 .rename_i hb;split at h
  .cases h
  .rename_i hc;have SK:l.all Nd.ok=true:=by simp only[So,Ba]at hb;exact hb.1
   rw[iQ,if_pos hb,uv l SK l.length (Nat.le_refl _),List.take_length]at hc;simp only[not_or]at hc;obtain⟨h1,h2⟩:=tH l (λx hx=>by obtain⟨i,hi,rfl⟩:=List.getElem_of_mem hx;exact gr hb hi);refine⟨hb,by omega,λx hx=>by have:=h2 x hx;omega,?_⟩;have:Vc.Tb l 0 l.length=(l.map λn=>4+n.words.length).sum:=by unfold Vc.Tb;rw[List.take_length,List.drop_zero]
   omega
 .cases h
open Go.Proofs Go.Proofs.Tryz
def ad.HL{P:Program}{n:Nat}{Q:St->Prop}{s:Nat->V}{U K:ai}{todo:List It}(l ds:List Nat){e sz:Nat}{v:V}{rows:List V}(hK:aa K U)(ho:aT K U e sz v rows)
 (hs:∀d∈ds,s d=v)(hr:ad P n todo ⟨λi=>if ds.contains i then .sl sz rows else CB l s i,K⟩ Q):ad P n todo ⟨s,U⟩ Q:=by
 refine ad.weaken ⟨hK,λi=>?_⟩ hr;show Wk U K (s i) _;by_cases hi:ds.contains i=true
 .simp only[if_pos hi];rw[hs i (by simpa using hi)];exact ho.wk (aa.refl K) hK
 .simp only[if_neg hi];unfold CB;split
  .exact Wk.refl hK _
  .exact Wk.undef _
def ofR(l:List Nd)(w:Int):List Int:=(dj l w).atoms.map (·.node)
def bc(l:List Nd)(w h:Int):Bk:=⟨l,w,h,(dj l w).atoms,(dj l w).B',(dj l w).Rw,rv l (ofR l w)⟩
def yN(n:Int):Prop:=1<=n/\n<=1099511627776
instance (n:Int):Decidable (yN n):=by unfold yN;infer_instance
def ec(l:List Nd)(w h:Int):Int:=if¬(yN w/\yN h)then 3 else if gY l≠0 then gY l else if(iQ l).1.O'>mulR (gX l h) 32768 then 2 else 0
def Bf(l:List Nd)(w h:Int):V:=if ec l w h=0 then .rp (bt (bc l w h))else .Sc
def fY.EF{K U:ai}{id:Nat}{o:Ob}(hK:K id≠none):∀{l:List Nd} {rows:List V},fY K U l rows->fY K (C' U id o) l rows
 |[],[],_=>trivial
 |_::_,_::_,⟨⟨w,h1,h2⟩,h⟩=>⟨⟨w,h1,h2.ab hK⟩,fY.EF hK h⟩
 |[],_::_,h=>h.elim
 |_::_,[],h=>h.elim
def ym.EF{K U:ai}{id:Nat}{o:Ob}(hK:K id≠none){v:V}{l:List Nd}(h:ym K U v l):ym K (C' U id o) v l:=by
 obtain⟨rows,ho,hr⟩:=h;exact⟨rows,ho.ab hK,hr.EF hK⟩
def my{α:Type}{f:α->V}(h:∀a,(f a).eM=true):∀l:List α,gl (l.map f)=true
 |[]=>rfl
 |a::l=>by simp only[List.map_cons,gl,h a,my h l,Bool.and_self]
def P4(l:List Int)(U:ai):bT U false 1 (.rp (bn l))=some (bn l):=rfl
def tM(vn:V)(w h:Int)(va vf:V)(ht:Int)(vb:V):Ob:=⟨132,7,[.agg [vn,vI w,vI h,va,vf,vI ht,vb]]⟩
def Eh{U J:ai}{ib:Nat}{b:Bk}{vn:V}(hs:aa U J)(z:U ib=none)(hr:J ib=some (tM vn b.w b.h (bl b.atoms) (aH b.RA) b.Rw (bC b.L')))(ho:ym (bg U ib) J vn b.nodes):
 ay (.RB [.ptr ib 0 0,vI 0]) J λr Z'=>r=.RB [.rp (bt b),vI 0]/\Z'=U:=by
 have hN:∀id,bg U ib id=none->U id=none:=λid h=>(aM.1 h).2;have n1:gl [bl b.atoms,aH b.RA,vI b.Rw,bC b.L']=true:=by
  have a1:(bl b.atoms).eM=true:=my (f:=cF) (λ_=>rfl) b.atoms;have a2:(aH b.RA).eM=true:=my (f:=aQ) (λ_=>rfl) b.RA;have a3:(bC b.L').eM=true:=my (f:=dZ) (λ_=>rfl) b.L';simp only[gl,a1,a2,a3];rfl
 have hf:Fz J (λid=>U id=none) (.RB [.ptr ib 0 0,vI 0]) (.RB [.rp (bt b),vI 0]):=by
  refine .RB _ _ (.cons _ _ _ _ (.ptr ib 0 _ _ _ hr z rfl (.agg _ _ ?_)) (TK.same [vI 0] rfl));exact .cons _ _ _ _ (ho.fz hN) (.cons _ _ _ _ (.same _ rfl) (.cons _ _ _ _ (.same _ rfl) (TK.same _ n1)))
 exact⟨_,U,hs,hf.wk hs (λ_ h=>h),rfl,rfl⟩
def IJ(l:List Nd)(hl:dH l)(w h:Int):aV prog 23 [aK l,vI w,vI h] (.RB [Bf l w h,vI (ec l w h)]):=λU=>by
 refine e23.r (by simp[c23]) ?_;have hs:=aa.refl U;have bad:∀n:Int,ec l w h=n->n≠0->(Bf l w h=.Sc/\ec l w h=n):=λn hn h0=>⟨by rw[Bf,if_neg (by rw[hn];exact h0)],hn⟩
 refine ad.mix 16 ?_;by_cases hw:yN w
 .have mw:=pU w;rw[show decide (1<=w/\w<=1099511627776)=true from decide_eq_true hw]at mw;apply sR;simp only[go_sem,seval,c23];refine ad.aB rfl rfl rfl (mw _) ?_;apply sR;simp only[go_sem,seval];by_cases hh:yN h
  .have mh:=pU h;rw[show decide (1<=h/\h<=1099511627776)=true from decide_eq_true hh]at mh;refine ad.aB rfl rfl rfl (mh _) ?_;apply sR;simp only[go_sem,seval];refine ad.aB rfl rfl rfl (yI l hl _) ?_;by_cases hc:gY l=0
   .have q:(gY l≠0)=False:=eq_false (λh=>h hc);have hck:=yI l hl;rw[hc]at hck q|-;apply sR;simp only[go_sem,seval,q];refine ad.aB rfl rfl rfl (yi l hl _) ?_;apply sR;simp only[go_sem,seval,Sm.cells];refine af λi9 Z9 s9 a9 f9=>?_;have z9:=hs.none f9;replace hs:=hs.trans s9;simp only[go_sem,seval,a9];generalize SL:C' _ i9 _=Y9;replace a9:=(congrFun SL i9).symm.trans ag;replace hs:=Eq.subst (motive:=aa _) SL (hs.aE z9);clear SL;refine Go.bO rfl rfl rfl (FV l hl h) ?_;apply sG;simp only[go_sem,seval];refine Go.bO rfl rfl rfl (Ot (gX l h) 32768) ?_;have hE:ec l w h=if(iQ l).1.O'>mulR (gX l h) 32768 then 2 else 0:=by rw[ec,if_neg (λh=>h ⟨hw,hh⟩),if_neg (λh=>h hc)]
    by_cases hlim:(iQ l).1.O'>mulR (gX l h) 32768
    .have q1:((iQ l).1.O'>mulR (gX l h) 32768)=True:=eq_true hlim;obtain⟨e1,e2⟩:=bad 2 (by rw[hE,if_pos hlim]) (by decide);rw[e1,e2];apply sG;simp only[go_sem,seval,a9,q1];exact ay.pure hs rfl
    have q1:((iQ l).1.O'>mulR (gX l h) 32768)=False:=eq_false hlim;have e2:ec l w h=0:=by rw[hE,if_neg hlim]
    have e1:Bf l w h=.rp (bt (bc l w h)):=by rw[Bf,if_pos e2]
    rw[e1,e2];obtain⟨UJ,hn2,hwo,hcs⟩:=wT hc;have hG:=xG UJ hn2 hw.1 hw.2;have U6:=Mq l hl UJ hn2 (λx hx=>by have:=hwo x hx;omega) (by omega) hck w hw.1 hw.2;apply sG;simp only[go_sem,seval,a9,q1];refine ad.call rfl rfl rfl (Ic l hl.1 _) ?_;rintro vn WO ⟨hs10,YN⟩;replace YN:=YN.N8 hs;replace hs:=hs.trans hs10;obtain⟨cn,sn⟩:=YN.vc;have Vb:=YN.len;rw[List.length_map]at Vb;apply sR;simp only[go_sem,seval,cn,sn];refine af λUr Z46 s46 a46 f46=>?_;have z46:=hs.none f46;replace hs:=hs.trans s46;have ho46:aT (bg U Ur) Z46 59 20 vn (l.map iz):=by
     rcases YN with h|⟨id,h3,h4,h5⟩
     .exact .inl h
     .exact .inr ⟨id,h3,s46 _ _ h4,aM.2 ⟨λe=>(by rw[e,f46]at h4;cases h4),h5⟩⟩
    have k46:bg U Ur Ur≠none:=λh=>(aM.1 h).1 rfl;simp only[go_sem,seval,a46,Vb];refine ad.fi (λst=>aa U st.U/\ym (bg U Ur) st.U vn l/\st.U Ur=some (tM vn w h .aC .aC 0 .aC)/\st.s 0=aK l/\st.s 1=vI w/\st.s 11=.ptr Ur 0 0)
     (λm st=>∃(i:Nat) (rows:List V),i<=l.length/\m=l.length-i/\aa U st.U/\aT (bg U Ur) st.U 59 20 vn rows/\rows.length=l.length/\fY (bg U Ur) st.U (l.take i) (rows.take i)/\rows.drop i=(l.drop i).map iz/\st.U Ur=some (tM vn w h .aC .aC 0 .aC)/\
       st.s 0=aK l/\st.s 1=vI w/\st.s 11=.ptr Ur 0 0/\st.s 51=vI l.length/\st.s 52=vI i) l.length ?_ ?_ ?_
    .exact⟨0,l.map iz,by omega,rfl,hs,ho46,by simp,trivial,by simp,a46,rfl,rfl,rfl,rfl,rfl⟩
    .clear hs ho46 a46 YN a9;rintro m ⟨S,J⟩ ⟨i,rows,hi,rfl,hs,ho,hn,hr,hd,hb,t0,t1,t11,t51,t52⟩;simp only at hs ho hr hb t0 t1 t11 t51 t52;refine ad.mix 60 ?_;by_cases H':i<l.length
     .have q:((i:Int)<l.length)=True:=eq_true (by omega);obtain⟨id,rfl,M',WD⟩:∃id,vn=.own id 0 rows.length/\J id=some ⟨59,20,rows⟩/\bg U Ur id=none:=by
       rcases ho with⟨_,h0⟩|h
       .rw[h0]at hn;simp at hn;omega
       .exact h
      have hdc:(l.drop i)=l[i]::l.drop (i+1):=List.drop_eq_getElem_cons H';have Yo:=hwo _ (List.getElem_mem H');have SB:l.take (i+1)=l.take i++[l[i]]:=List.take_succ_eq_append_getElem H';have Tm:=λU=>ji l H' U;generalize YV:l[i]=x at*;have hrow':rows[i]?=some (.agg x.cells):=by
       have:(rows.drop i)[0]?=some (iz x):=by rw[hd,hdc];rfl
       rw[List.getElem?_drop]at this;exact this
      have R6:id≠Ur:=(aM.1 WD).1;have hio:∀X':ai,X' id=some ⟨59,20,rows⟩->bQ X' 20 (.own id 0 rows.length) (.int .i64 i)=some (.ptr id i 0):=λX' h=>j7 h (by omega);have r1:RM .i64 ((i:Int)+1):=ao (by omega) (by omega);rw[tM]at hb;apply sR;simp only[go_sem,seval,t0,t1,t11,t51,t52,q,di];refine ad.rA (by kernel_rfl) [0,1,2,3,4,5,6,7,8,9,10,11,12,13] [[],[0],[0,1],[0,1,2],[],[],[],[5,6],[5,6,7],[5,6,7,8],[5,6,7,8,9],[0,1,2,3,4,5,6,7,8,9,10],[0,1,2,3,4,5,6,7,8,9,10,11],[0,1,2,3,4,5,6,7,8,9,10,11,12]] [0,2,4,6,8,10,12,14,16,18,20,7,22,24,26] (by kernel_rfl) (by kernel_rfl) ?_;refine RE.SC (n:=0) [20,7,22,24,26] [0,2,4,6,8,10,12,14,16,18] [⟨(.some 55),(.RJ (.t 11)),.none⟩,⟨(.some 56),(.nilCheck (.t 55)),.none⟩,⟨(.some 57),(.RU .false 0 1 (.t 56)),.none⟩,⟨(.some 58),(.load .false 1 (.t 57)),.none⟩,⟨(.some 59),(.RJ (.t 12)),.none⟩,⟨(.some 60),(.RJ (.t 0)),.none⟩,⟨(.some 61),(.RJ (.t 12)),.none⟩,⟨(.some 62),(.Us 20 (.t 60) (.t 61)),.none⟩,⟨(.some 63),(.RU .false 16 1 (.t 62)),.none⟩,⟨(.some 64),(.load .false 1 (.t 63)),.none⟩] rfl rfl ?_;apply sG;simp only[go_sem,seval,t0,t11,hb,Tm,Nd.cells,P4];refine RE.call rfl rfl rfl rfl rfl (El x.words (by omega) _) ?_;rintro wv Z2 ⟨Uh,VC⟩;simp only at Uh VC;have Yu:=Uh _ _ M';have Sx:=Uh _ _ hb;obtain⟨cw,sw⟩:=VC.vc;have hio2:=hio _ Yu;refine RE.SX rfl rfl rfl rfl rfl trivial (by simp only[go_sem,seval,t0,t11,Sx]) ?_;refine RE.SC (n:=0) [] [22,24,26] [⟨(.some 66),(.Us 20 (.t 58) (.t 59)),.none⟩,⟨(.some 67),(.RU .false 16 1 (.t 66)),.none⟩,⟨.none,(.store 1 (.t 67) (.t 65)),.none⟩] rfl rfl ?_;apply sG;simp only[go_sem,seval,t0,t11,Sx,hio2,Yu,hrow',Nd.cells,cw,sw];have hk46:bg U Ur id=none:=WD;have hsf:aa U (C' Z2 id ⟨59,20,rows.set i (ndW x wv)⟩):=(hs.trans Uh).aE (aM.1 WD).2;have UK:∀j,j≠id->∀o,Z2 j=some o->C' Z2 id ⟨59,20,rows.set i (ndW x wv)⟩ j=some o:=λj hj o hjo=>by rw[ab hj];exact hjo
      have h1:=(hr.mono Uh).kept Yu UK;have TR:aa (bg U Ur) (bg J Ur):=λj o hj=>by
       unfold bg at hj|-;split
       .rename_i e;rw[if_pos e]at hj;exact hj
       .rename_i e;rw[if_neg e]at hj;exact hs _ _ hj
      have h2:aT (bg U Ur) (C' Z2 id ⟨59,20,rows.set i (ndW x wv)⟩) 3 1 wv (x.words.map vI):=by
       rcases VC with h|⟨iw,e1,e2,e3⟩
       .exact .inl h
       .have n1:iw≠id:=λe=>by rw[e,Yu]at e2;simp at e2
        refine .inr ⟨iw,e1,by rw[ab n1];exact e2,aM.2 ⟨λe=>(by rw[e,hb]at e3;cases e3),hs.none e3⟩⟩
      have h3:(rows.set i (ndW x wv)).take (i+1)=rows.take i++[ndW x wv]:=by
       rw[List.take_succ_eq_append_getElem (by simp;omega),List.take_set_of_le (by omega)];simp
      apply sR;simp only[go_sem,seval,t0,t1,t11,t51,t52,r1];refine⟨_,?_,i+1,rows.set i (ndW x wv),by omega,rfl,hsf,.inr ⟨id,by rw[List.length_set],ag,WD⟩,by simp[hn],?_,?_,?_,rfl⟩
      .omega
      .rw[h3,SB];exact h1.app ⟨⟨wv,rfl,h2⟩,trivial⟩
      .rw[List.drop_set_of_lt (by omega)];have:rows.drop (i+1)=(rows.drop i).drop 1:=by simp
       rw[this,hd,hdc];rfl
      .exact(ab R6.symm).trans Sx
     .have q:((i:Int)<l.length)=False:=eq_false (by omega);have Um:i=l.length:=by omega
      subst Um;rw[List.take_length,List.take_of_length_le (by omega)]at hr;apply sR;simp only[go_sem,seval,t0,t1,t11,t51,t52,q];exact⟨hs,⟨rows,ho,hr⟩,hb⟩
    .clear hs ho46 a46 YN a9;rintro⟨S,J⟩ ⟨hs,how,hb,t0,t1,t11⟩;simp only at hs how hb t0 t1 t11;have UH:=gC (dj l w).atoms;have Up:=hG.len;have hbr:=KH l hl UJ (ofR l w) (by rw[ofR,List.length_map];omega) (λx hx=>by
      obtain⟨a,ha,rfl⟩:=List.mem_map.1 hx;exact hG.nod a ha) hG.may
     have hofe:ofR l w=(dj l w).atoms.map (·.node):=rfl;rw[tM]at hb;rw[EP]at U6;refine ad.mix 16 ?_;apply sR;simp only[go_sem,seval,t0,t1,t11];refine ad.aB rfl rfl rfl (U6 _) ?_;apply sR;simp only[go_sem,seval,t11,hb,UH,ak,al,au,ar];generalize hq:C' J Ur _=Y0;have hb0:Y0 Ur=some (tM vn w h (bl (dj l w).atoms) (aH (dj l w).B') (dj l w).Rw .aC):=by rw[<-hq];exact ag
     have Sj:aa U Y0:=hq▸hs.aE z46;have how0:ym (bg U Ur) Y0 vn l:=hq▸how.EF k46;clear hq hs how hb;refine ad.fi (λst=>aa Y0 st.U/\aT Y0 st.U 3 1 (st.s 13) ((ofR l w).map vI)/\st.s 0=aK l/\st.s 11=.ptr Ur 0 0)
      (λm st=>∃j:Nat,j<=(dj l w).atoms.length/\m=(dj l w).atoms.length-j/\aa Y0 st.U/\aT Y0 st.U 3 1 (st.s 13) ((((dj l w).atoms.take j).map (·.node)).map vI)/\st.s 0=aK l/\st.s 11=.ptr Ur 0 0/\st.s 82=bl (dj l w).atoms/\st.s 83=vI (dj l w).atoms.length/\st.s 84=vI j) (dj l w).atoms.length ?_ ?_ ?_
     .exact⟨0,by omega,rfl,aa.refl _,aT.start,t0,t11,rfl,rfl,rfl⟩
     .clear t0 t1 t11;rintro m ⟨S,J⟩ ⟨j,hj,rfl,hsj,ho,t0,t11,t82,t83,t84⟩;simp only at hsj ho t0 t11 t82 t83 t84;generalize XR:S 13=v13 at ho;refine ad.mix 85 ?_;by_cases H':j<(dj l w).atoms.length
      .have q:((j:Int)<(dj l w).atoms.length)=True:=eq_true (by omega);have Rv:=λU=>iD (U:=U) H';have Se:(((dj l w).atoms.take (j+1)).map (·.node)).map vI=(((dj l w).atoms.take j).map (·.node)).map vI++[vI (dj l w).atoms[j].node]:=by
        rw[List.take_succ_eq_append_getElem H',List.map_append,List.map_append];rfl
       have WT:((((dj l w).atoms.take j).map (·.node)).map vI).length=j:=by rw[List.length_map,List.length_map,List.length_take];omega
       have S1:cF (dj l w).atoms[j]=.agg [vI (dj l w).atoms[j].kind,vI (dj l w).atoms[j].node,vI (dj l w).atoms[j].fr,vI (dj l w).atoms[j].to,vI (dj l w).atoms[j].x,vI (dj l w).atoms[j].y,vI (dj l w).atoms[j].w,vI (dj l w).atoms[j].h]:=rfl;generalize (((dj l w).atoms.take j).map (·.node)).map vI=rows at*;generalize (dj l w).atoms[j]=x at*;have r1:RM .i64 ((j:Int)+1):=ao (by omega) (by omega);have hs:=aa.refl J;apply sR;simp only[go_sem,seval,t0,t11,t82,t83,t84,XR,q,Rv,S1];refine af λZw Y15 s15 Xj f15=>?_;have z15:=hs.none f15;replace hs:=hs.trans s15;simp only[go_sem,seval,Xj,t0,t11,t82,t83,t84,XR];generalize Ux:C' _ Zw _=Z15;replace Xj:=(congrFun Ux Zw).symm.trans ag;replace hs:=Eq.subst (motive:=aa _) Ux (hs.aE z15);clear Ux;refine af λi91 Z91 s91 a91 f91=>?_;obtain⟨RN,Th,SQ⟩:=ho.dst (hs.trans s91);have Sx:(rows.length+1)*9<=140737488355328:=by omega
       simp only[go_sem,seval,Th,dT a91,Sx];refine ga λi92 Z92 s92 a92 f92=>?_;have k92:=(SQ Y0 (aa.refl _) Z91 (hsj.trans (hs.trans s91))).trans s92;have n92:Y0 i92=none:=(hsj.trans (hs.trans s91)).none f92;simp only[go_sem,seval,t0,t11,t82,t83,t84,r1];refine⟨_,?_,j+1,by omega,rfl,k92,?_,rfl⟩
       .omega
       .rw[Se];exact aT.new (by simp) a92 n92
      .have q:((j:Int)<(dj l w).atoms.length)=False:=eq_false (by omega);have Tt:j=(dj l w).atoms.length:=by omega
       rw[Tt,List.take_length,<-hofe]at ho;apply sR;simp only[go_sem,seval,t0,t11,t82,t83,t84,XR,q];exact⟨hsj,ho⟩
     .clear t0 t1 t11;rintro⟨S,J⟩ ⟨hsj,ho,t0,t11⟩;simp only at hsj ho t0 t11;refine ad.HL [0,11] [13] hsj ho (by simp) ?_;generalize hS:(λi=>if[13].contains i then V.sl 1 ((ofR l w).map vI)else CB [0,11] S i)=S';have u0:S' 0=aK l:=by rw[<-hS];exact t0
      have U8:S' 11=.ptr Ur 0 0:=by rw[<-hS];exact t11
      have Vp:S' 13=bn (ofR l w):=by rw[<-hS];rfl
      clear hS t0 t11;refine ad.mix 16 ?_;rw[tM]at hb0;apply sR;simp only[go_sem,seval,u0,U8,Vp];refine ad.aB rfl rfl rfl (hbr _) ?_;apply sR;simp only[go_sem,seval,U8,hb0,aJ,aI];exact Eh (b:=bc l w h) (Sj.aE z46) z46 ag (how0.EF k46)
   .have q:(gY l≠0)=True:=eq_true hc;obtain⟨e1,e2⟩:=bad (gY l) (by rw[ec,if_neg (λh=>h ⟨hw,hh⟩),if_pos hc]) hc;rw[e1,e2];apply sR;simp only[go_sem,seval,q];exact ay.pure hs rfl
  .have mh:=pU h;rw[show decide (1<=h/\h<=1099511627776)=false from decide_eq_false hh]at mh;obtain⟨e1,e2⟩:=bad 3 (by rw[ec,if_pos (λh=>hh h.2)]) (by decide);rw[e1,e2];refine ad.aB rfl rfl rfl (mh _) ?_;apply sR;simp only[go_sem,seval];exact ay.pure hs rfl
 .have mw:=pU w;rw[show decide (1<=w/\w<=1099511627776)=false from decide_eq_false hw]at mw;obtain⟨e1,e2⟩:=bad 3 (by rw[ec,if_pos (λh=>hw h.1)]) (by decide);rw[e1,e2];apply sR;simp only[go_sem,seval,c23];refine ad.aB rfl rfl rfl (mw _) ?_;apply sR;simp only[go_sem,seval];exact ay.pure hs rfl
def py{l:List Nd}{w h:Int}(he:ec l w h=0):yN w/\yN h/\gY l=0:=by
 unfold ec at he;split at he
 .cases he
 .rename_i h1;split at he
  .rename_i h2;exact absurd he h2
  .rename_i h2;exact⟨Decidable.byContradiction λh=>h1 (λg=>h g.1),Decidable.byContradiction λh=>h1 (λg=>h g.2),Decidable.byContradiction h2⟩
def Dw{l:List Nd}(hl:dH l){w h:Int}(he:ec l w h=0):BkFull (bc l w h)/\∀f∈(bc l w h).RA,0<=f.h:=by
 obtain⟨hw,hh,hc⟩:=py he;obtain⟨UJ,hn,hwo,hcs⟩:=wT hc;have hG:=xG UJ hn hw.1 hw.2;have hl1:=hG.len;have hl2:=hG.Uz;have hb:(1099511627776:Int)*((Tb l 0 l.length:Nat):Int)<=10995116277760000:=by omega
 have ht:∀a∈(dj l w).atoms,-18014398509481984<=a.y/\a.y<=18014398509481984/\0<=a.h/\a.h<=18014398509481984:=λa ha=>by
  have:=hG.RY a ha;have h0:=this.y0;have h1:=this.y1;have h2:=this.h0;have h3:=this.h1;omega
 refine⟨⟨⟨⟨?_,λa ha=>?_⟩,ht,?_,?_,λf hf=>(hG.YF f hf).ok (by omega),?_⟩,hl,UJ,hh.1,hh.2,hG.nod⟩,λf hf=>(hG.YF f hf).h0⟩
 .show(dj l w).atoms.length<=_;omega
 .have:=ht a ha;omega
 .show(dj l w).atoms.length<=_;omega
 .show(dj l w).B'.length<=_;omega
 .show(rv l (ofR l w)).length=(dj l w).atoms.length+1;unfold rv ofR;simp
def eR(b:Bk)(a:Nat):Int:=((b.atoms.drop a).map (·.h)).sum
def sK{b:Bk}{a:Nat}(h:a<b.atoms.length):eR b a=(b.atoms[a]).h+eR b (a+1):=by
 unfold eR;rw[List.drop_eq_getElem_cons h,List.map_cons,List.sum_cons]
def oM{b:Bk}(hp:∀a∈b.atoms,1<=a.h)(a:Nat):0<=eR b a:=by
 have key:∀l:List Sk,(∀a∈l,1<=a.h)->0<=(l.map (·.h)).sum:=by
  intro l
  induction l with
  |nil=>intro _;simp
  |cons x l ih=>
   intro h;have h1:=h x (by simp);have h2:=ih (λy hy=>h y (by simp[hy]));simp only[List.map_cons,List.sum_cons];omega
 exact key _ λx hx=>hp x (List.mem_of_mem_drop hx)
def yA{b:Bk}(hp:∀a∈b.atoms,1<=a.h)(a:Nat):∀n,eR b (a+n)<=eR b a
 |0=>Int.le_refl _
 |n+1=>by
  have ih:=yA hp a n;by_cases h:a+n<b.atoms.length
  .have h1:=sK h;have h2:=hp _ (List.getElem_mem h);rw[<-Nat.add_assoc];omega
  .have:eR b (a+(n+1))=eR b (a+n):=by
    unfold eR;rw[List.drop_of_length_le (by omega),List.drop_of_length_le (by omega)]
   omega
def pA{body:Int}(f:P')(r:List P'):(dC body (f::r) 0).2.1.length<(f::r).length:=by
 have key:∀(l:List P') (sh:Int),(dC body l sh).2.1.length<=l.length:=by
  intro l
  induction l with
  |nil=>intro sh;simp[dC]
  |cons g l ih=>
   intro sh;rw[dC];split
   .simp
   .have:=ih (sh+min g.h body);simp only[List.length_cons];omega
 rw[dC,if_neg (by omega)];have:=key r (0+min f.h body);simp only[List.length_cons];omega
def l7{b:Bk}{s:Sn}{to kept shift body:Int}:(dD b.atoms b.RA s to kept shift body).2.length<=b.RA.length:=by
 unfold dD;split
 .have h1:=qe (tJ b.atoms s kept) shift body (fI b.RA s to);have h2:(fI b.RA s to).length<=b.RA.length:=pG _ _ _;omega
 .simp
inductive jv(b:Bk)(x:Wx):Sy->Prop
 |whole (c:Nat) (fr:Bool) (p:List P') (h1:x.s.atom<c) (h2:c<=b.atoms.length) (h3:p.length<=b.RA.length):jv b x ⟨⟨c,0,fr⟩,p⟩
 |more (d:Int) (p:List P') (h1:x.s.done<d) (h2:d<(SM b.atoms x.s.atom).h) (h3:p.length<=b.RA.length):jv b x ⟨⟨x.s.atom,d,false⟩,p⟩
def pB{b:Bk}(hb:BkOk b){x:Wx}(hm:bZ b.atoms x.s)(SP:∀a∈b.atoms,1<=a.h)(V4:1<=x.body):jv b x (eT b x):=by
 have W3:cG b x<=b.atoms.length:=pE;have SD:=hb.brk;unfold eT;split
 .rename_i RC;obtain⟨c,h1,h2,h3⟩:=su RC (by omega);rw[show p7 b x=c from h1,Int.toNat_natCast];exact .whole c _ _ h2 (by omega) l7
 .unfold tS ew;have hso:ku b.atoms x.s x.body:=⟨hm,V4⟩
  rw[if_pos (show ku b.atoms ({ x with kind:=1 }:Wx).s ({ x with kind:=1 }:Wx).body from hso)];obtain⟨⟨h0,h1⟩,h2,h3⟩:=hm;obtain⟨k,hk⟩:∃k:Nat,x.s.atom=k:=⟨x.s.atom.toNat,by omega⟩
  have TR:k<b.atoms.length:=by omega
  have hp:=SP _ (List.getElem_mem TR);have ha:SM b.atoms x.s.atom=b.atoms[k]:=by rw[hk,bz TR]
  rw[ha]at h3;have Zh:(fp b.atoms x.s.atom).h=b.atoms[k].h:=by rw[fp,ha]
  unfold jh;have e1:(dR b.atoms x.s x.body).fr=x.s.done:=rfl;have e2:(dR b.atoms x.s x.body).atom=x.s.atom:=rfl;have e3:(dR b.atoms x.s x.body).h=min (b.atoms[k].h-x.s.done) x.body:=by rw[<-Zh];rfl
  split
  .rename_i H';have To:x.s.done+min (b.atoms[k].h-x.s.done) x.body<(SM b.atoms x.s.atom).h:=by rw[<-e3];exact H'
   have:=jv.more (b:=b) (x:=x) (x.s.done+min (b.atoms[k].h-x.s.done) x.body) (dD b.atoms b.RA x.s (x.s.atom+1) 0 0 x.body).2 (by omega) To l7;rw[<-e3]at this;exact this
  .have:=jv.whole (b:=b) (x:=x) (k+1) false (dD b.atoms b.RA x.s (x.s.atom+1) 0 0 x.body).2 (by omega) (by omega) l7;have e4:((k+1:Nat):Int)=x.s.atom+1:=by omega
   rw[e4]at this;exact this
structure Wo(s:WS):Prop where
 pw:s.atoms.Pairwise λa b=>a.y+a.h<=b.y
 q:∀a∈s.atoms,a.y+a.h<=s.RK.y
def Wo.put{s:WS}(h:Wo s){a:Sk}(h1:s.RK.y<=a.y)(h2:0<=a.h):Wo (s.put a):=by
 refine⟨?_,λx hx=>?_⟩
 .simp only[WS.put];rw[List.pairwise_append];refine⟨h.pw,by simp,λx hx y hy=>?_⟩;simp only[List.mem_singleton]at hy;subst hy;have:=h.q x hx;omega
 .simp only[WS.put]at hx|-;rcases List.mem_append.1 hx with hx|hx
  .have:=h.q x hx;omega
  .simp only[List.mem_singleton]at hx;subst hx;omega
def Wo.RK{s:WS}(h:Wo s){p:Pn}(hp:s.RK.y<=p.y):Wo { s with RK:=p }:=⟨h.pw,λa ha=>by have:=h.q a ha;simp only;omega⟩
def CV{p:Pn}{m d:Int}(h0:0<=p.m)(hd:0<=d):p.y<=(eD p m d).y:=by
 simp only[eD,ta];(repeat' split)<;>omega
def GW{p:Pn}{m d:Int}(h0:0<=p.m)(hd:0<=d):p.y<=(ln p m d).y:=by
 simp only[ln,ta];(repeat' split)<;>(try simp only)<;>omega
def Wo.enter{s:WS}(h:Wo s)(h0:0<=s.RK.m){t:SW}(ht:SOk t):Wo (s.enter t):=by
 have hp:=ht.RI.1;unfold WS.enter;simp only;refine h.RK ?_;split
 .have hc:s.RK.y<=(jf s.RK (ee (lC t.clear) s.B').1).y/\0<=(jf s.RK (ee (lC t.clear) s.B').1).m:=by
   unfold jf;split<;>(try simp only)<;>omega
  exact Int.le_trans hc.1 (CV hc.2 hp)
 .exact CV h0 hp
def Wo.leave{s:WS}(h:Wo s)(h0:0<=s.RK.m){t:SW}(ht:SOk t):Wo (s.leave t):=h.RK (GW h0 ht.Rx.1)
def Wo.text{rs:List Rm}{s:WS}{C:Nat}(h:fU s C)(hk:Wo s){n:Nd}(hn:Zb n)(a:Nat):Wo (s.text rs a n):=by
 obtain⟨⟨hf,h1,h2,h3,h4⟩,h5,h6⟩:=h;have hl:=hn.line;have key:∀(k i:Nat) (y:Int) (t:WS),t.RK.y<=y->Wo t->Wo ((dM s.B' n.words n.space n.line (eI rs a) k i y).foldl (λs x=>s.put (fe a n.line x)) t):=by
  intro k
  induction k with
  |zero=>intro i y t _ ht;exact ht
  |succ k ih=>
   intro i y t hy ht;rw[dM];split
   .rw[List.foldl_cons];have hyr:y<=(nv s.B' n.words n.space n.line i y (eI rs a)).y:=(fV (λf U1=>(hf f U1).yB)).1;refine ih _ _ _ ?_ (ht.put (by simp only[fe];omega) hl.1);simp only[WS.put,fe];omega
   .exact ht
 exact key _ _ _ s (by omega) hk
def tK{l:List Nd}{rs:List Rm}(hD:YE l rs):∀(k a e:Nat) (s:WS) (C:Nat),e-a<=k->a<=e->e<=l.length->cq l a e=true->fU s C->Wo s->Wo (eA l rs k a e s)
 |0,a,e,s,C,_,Xa,_,_,_,h=>h
 |k+1,a,e,s,C,hk,Xa,he,hr,h,hs=>by
  rw[eA];by_cases H':a<e
  .rw[if_pos H'];obtain⟨h1,h2⟩:=dt he hr (Nat.le_refl a) H';obtain⟨h3,h4⟩:=ej he hr H';have R7:Zb (R4 l a):=by rw[iU (by omega)];exact gr hD.Yd (by omega)
   have step:∀t,(∃D,fU t D)->Wo t->Wo (eA l rs k (a+(Sa l a).toNat) e t):=λt ⟨D,ht⟩ hA=>
    tK hD k _ e t D (by omega) (by omega) he h3 ht hA
   have hm:=h.bd.m0;split
   .have hI2:=gz hD k (a+1) (a+(Sa l a).toNat) _ _ (by omega) (by omega) (by omega) h4 (fk h R7.st);have hS2:=tK hD k (a+1) (a+(Sa l a).toNat) _ _ (by omega) (by omega) (by omega) h4 (fk h R7.st) (hs.enter hm R7.st);exact step _ ⟨_,jP hI2 R7.st⟩ (hS2.leave hI2.bd.m0 R7.st)
   .split
    .exact step _ ⟨_,kU h R7 a⟩ (Wo.text h hs R7 a)
    .split
     .refine step _ ⟨_,kF h R7 a⟩ ?_;have hyr:=fV (w:=(R4 l a).w) (high:=(R4 l a).h) (y:=s.RK.y+s.RK.m) (s:=eI rs a) (λf U1=>(h.bd.fl f U1).yB);exact hs.put (by simp only;omega) R7.h.1
     .have k4:(R4 l a).kind=4:=by rename_i g1 g2 g3;rcases R7.kind with h|h|h|h;exact absurd h g1;exact absurd h g2;exact absurd h g3;exact h
      exact step _ ⟨_,jr hD h (by omega) R7 k4⟩ ⟨hs.pw,hs.q⟩
  .rw[if_neg H'];exact hs
def Hx{l:List Nd}(hb:So l=true)(hn:l.length<=2000){w:Int}(h1:1<=w)(h2:w<=1099511627776):(dj l w).atoms.Pairwise λa b=>a.y+a.h<=b.y:=by
 have hD:=uw hb hn h1 h2;have hr:cq l 0 l.length=true:=by simp only[So,Ba]at hb;exact hb.2
 have hI:fU ⟨[],[],0,⟨0,0⟩⟩ 0:=⟨⟨by simp,by simp,by simp,by simp,by simp⟩,by simp,by simp⟩
 exact(tK hD l.length 0 l.length ⟨[],[],0,⟨0,0⟩⟩ 0 (by omega) (by omega) (Nat.le_refl _) hr hI ⟨by simp,by simp⟩).pw
def wY{l:List Sk}(h:l.Pairwise λa b=>a.y+a.h<=b.y){i j:Nat}(hij:i<j)(hj:j<l.length):l[i].y+l[i].h<=l[j].y:=List.pairwise_iff_getElem.1 h i j (by omega) hj hij
def p9{p:Nat->Bool}{n:Nat}(hm:∀i j,i<=j->j<n->p i=true->p j=true):∀(f i j:Nat),j-i<=f->i<=j->j<=n->(∀x,x<i->p x=false)->(j<n->p j=true)->
 (∀x,x<ky p f i j->p x=false)/\(ky p f i j<n->p (ky p f i j)=true)/\ky p f i j<=j
 |0,i,j,hf,hij,_,h1,h2=>by
  obtain rfl:i=j:=by omega
  exact⟨h1,h2,Nat.le_refl _⟩
 |f+1,i,j,hf,hij,hjn,h1,h2=>by
  rw[ky];split
  .rename_i H';split
   .rename_i hp;obtain⟨g1,g2,g3⟩:=p9 hm f i ((i+j)/2) (by omega) (by omega) (by omega) h1 (λ_=>hp);exact⟨g1,g2,by omega⟩
   .rename_i hp;have hp':p ((i+j)/2)=false:=by simpa using hp
    refine p9 hm f ((i+j)/2+1) j (by omega) (by omega) hjn (λx hx=>?_) h2;cases R9:p x with
    |false=>rfl
    |true=>rw[hm x ((i+j)/2) (by omega) (by omega) R9]at hp';cases hp'
  .obtain rfl:i=j:=by omega
   exact⟨h1,h2,Nat.le_refl _⟩
def gK{b:Bk}(hk:b.atoms.Pairwise λx y=>x.y+x.h<=y.y)(SP:∀a∈b.atoms,1<=a.h){s:Sn}(hm:bZ b.atoms s)(kept shift body:Int):
 ∃r:Nat,iS b.atoms s kept shift body=r/\s.atom<=r/\r<=b.atoms.length/\(∀k (h:k<b.atoms.length),s.atom<=k->k<r->dr b.atoms s kept shift k+b.atoms[k].h<=body)/\∀h:r<b.atoms.length,dr b.atoms s kept shift r+b.atoms[r].h>body:=by
 have Wj:=hm;obtain⟨⟨h0,h1⟩,h2,h3⟩:=hm;obtain⟨a,ha⟩:∃a:Nat,s.atom=a:=⟨s.atom.toNat,by omega⟩
 have Up:a<b.atoms.length:=by omega
 have VK:∀k (h:k<b.atoms.length),a<=k->dr b.atoms s kept shift k=b.atoms[k].y-b.atoms[a].y-s.done+kept+shift:=λk h hak=>by
  rw[dr,if_pos ⟨Wj,by omega,by omega⟩,gk,if_pos ⟨⟨h0,h1⟩,by omega,by omega⟩,ha,bz h,bz Up]
 have hby:∀n (h:a+n<b.atoms.length),fF b.atoms s kept shift body n=decide (b.atoms[a+n].y-b.atoms[a].y-s.done+kept+shift+b.atoms[a+n].h>body):=λn h=>by
  have e:s.atom+(n:Int)=((a+n:Nat):Int):=by omega
  rw[fF,e,VK _ h (by omega),bz h]
 have hmono:∀i j,i<=j->j<b.atoms.length-a->fF b.atoms s kept shift body i=true->fF b.atoms s kept shift body j=true:=λi j hij hj hb=>by
  rcases Nat.eq_or_lt_of_le hij with rfl|H'
  .exact hb
  .have hi2:a+i<b.atoms.length:=by omega
   have hj2:a+j<b.atoms.length:=by omega
   rw[hby i hi2]at hb;rw[hby j hj2];have h5:=wY hk (show a+i<a+j by omega) hj2;have h6:=SP _ (List.getElem_mem hj2);have UQ:=of_decide_eq_true hb;exact decide_eq_true (by omega)
 have hs:=p9 hmono (b.atoms.length-a) 0 (b.atoms.length-a) (by omega) (by omega) (Nat.le_refl _) (λx hx=>by omega) (λh=>by omega);have hsr:ky (fF b.atoms s kept shift body) (b.atoms.length-a) 0 (b.atoms.length-a)=BH (fF b.atoms s kept shift body) (b.atoms.length-a):=rfl;rw[hsr]at hs;obtain⟨g1,g2,g3⟩:=hs;refine⟨a+BH (fF b.atoms s kept shift body) (b.atoms.length-a),?_,by omega,by omega,λk h hak hkr=>?_,λh=>?_⟩
 .rw[iS,if_pos Wj,ha,Int.toNat_natCast];rfl
 .have hka:a<=k:=by omega
  have:=g1 (k-a) (by omega);rw[hby (k-a) (by omega)]at this;have h5:=of_decide_eq_false this;rw[VK k h hka];have e:a+(k-a)=k:=by omega
  simp only[e]at h5;omega
 .have:=g2 (by omega);rw[hby _ h]at this;have h5:=of_decide_eq_true this;rw[VK _ h (by omega)];omega
def k0{l:List Nd}{a:Nat}:∀(k:Nat) (x:Int),x∈gG l a k->gU l x a=true
 |0,_,h=>by simp[gG]at h
 |k+1,x,h=>by
  rw[gG]at h;split at h
  .rename_i hk;rcases List.mem_cons.1 h with rfl|h
   .exact hk
   .exact k0 k x h
  .exact k0 k x h
def En(l:List Nd)(of:List Int)(k:Nat):0<=dF l of k 3/\dF l of k 3<=7:=by
 simp only[dF,Ei];cases j8 l of k 0<;>cases j8 l of k 1<;>cases j8 l of k 2<;>simp
def xS:∀(all:List Int),dB all=0\/2<=dB all/\dB all<=4:=by
 have key:∀(all:List Int) (o:Int),(o=0\/2<=o/\o<=4)->(all.foldl j6 o=0\/2<=all.foldl j6 o/\all.foldl j6 o<=4):=by
  intro all
  induction all with
  |nil=>intro o h;exact h
  |cons x all ih=>
   intro o h;rw[List.foldl_cons];refine ih _ ?_;unfold j6 mq
   (repeat' split)<;>omega
 exact λall=>key all 0 (.inl rfl)
def HZ{l:List Nd}(hb:So l=true){of:List Int}(SS:∀x∈of,0<=x/\x<l.length):uK (rv l of)=true:=by
 have hlen:(rv l of).length=of.length+1:=by simp[rv]
 simp only[uK,Ba,List.all_eq_true,List.mem_range,decide_eq_true_eq];refine⟨λk hk=>?_,by omega⟩;rw[hlen]at hk;have hg:Ud (rv l of) k=Zg l of k:=by simp[Ud,rv,hk]
 unfold gW;rw[hg,hlen];refine decide_eq_true ?_;have TQ:0<k->k<of.length->of.getD k 0=of.getD (k-1) 0->je l of k=0:=λh0 h1 he=>by
  have T':of.getD k 0=of[k]:=by simp[h1]
  have hr:=SS _ (List.getElem_mem h1);have hh:∀x∈Vu l (of.getD k 0).toNat,Xn l of x k=true/\Xn l of x ((k:Int)-1)=true:=λx hx=>by
   rw[T']at hx;have H':of[k].toNat<l.length:=by omega
   rw[LJ hb H']at hx;have R9:=k0 _ _ hx;rw[lp]at R9;have e1:((k:Int)-1).toNat=k-1:=by omega
   have e2:((k:Int)).toNat=k:=by omega
   have e3:(of[k].toNat:Int)=of[k]:=by omega
   rw[e3]at R9;unfold Xn w9;rw[if_pos (by omega),if_pos (by omega),e1,e2,<-he,T'];exact⟨decide_eq_true ⟨R9.2.2.1,R9.2.2.2⟩,decide_eq_true ⟨R9.2.2.1,R9.2.2.2⟩⟩
  have e1:((k:Int)-1).toNat=k-1:=by omega
  have e2:((k:Int)).toNat=k:=by omega
  have he1:V' l of ((k:Int)-1) (λb=>!Xn l of b k)=[]:=by
   unfold V';rw[if_pos (by omega),e1,<-he,List.filter_eq_nil_iff];intro x hx;rw[(hh x hx).1];simp
  have he2:V' l of k (λb=>!Xn l of b ((k:Int)-1))=[]:=by
   unfold V';rw[if_pos (by omega),e2,List.filter_eq_nil_iff];intro x hx;rw[(hh x hx).2];simp
  unfold je jK;rw[if_neg (by omega),eC,he1,he2];rfl
 have hend:k=of.length->je l of k=0:=λh=>by
  unfold je jK;rw[if_pos h];rfl
 have hfv:=xS (jK l of k);have hbr:=En l of k;change je l of k=0\/2<=je l of k/\je l of k<=4 at hfv;unfold nW Zg;simp only[decide_eq_true_eq,decide_eq_false_iff_not];unfold pt pj;by_cases h0:k=0
 .rw[if_pos h0,if_pos (show k=0\/k=of.length from .inl h0)];refine⟨λ_=>rfl,λh=>absurd (by omega) h,λh=>absurd (by omega) h,?_,.inl (by split<;>rfl)⟩;rcases hfv with h|h
  .exact .inl h
  .exact .inr ⟨h.1,h.2,by omega,by omega⟩
 .rw[if_neg h0];by_cases h1:k=of.length
  .rw[if_pos h1,if_pos (show k=0\/k=of.length from .inr h1)];exact⟨λh=>absurd h (by omega),λ_ _=>rfl,λ_ h=>absurd (by omega) h,.inl (hend h1),.inl (by split<;>rfl)⟩
  .rw[if_neg h1,if_neg (show¬(k=0\/k=of.length) by omega)];by_cases h2:of.getD k 0=of.getD (k-1) 0
   .rw[if_pos h2];have hf:=TQ (by omega) (by omega) h2;refine⟨λh=>absurd h (by omega),λ_ h=>absurd h (by omega),λ_ _=>.inr rfl,.inl hf,?_⟩;rw[if_pos hf];rcases Int.lt_or_le 0 (dF l of k 3)with h|h
    .exact .inr ⟨.inr rfl,hf,h,by omega⟩
    .exact .inl (by omega)
   .rw[if_neg h2];refine⟨λh=>absurd h (by omega),λ_ h=>absurd h (by omega),λ_ _=>.inl rfl,?_,?_⟩
    .rcases hfv with h|h
     .exact .inl h
     .exact .inr ⟨h.1,h.2,by omega,by omega⟩
    .by_cases hf:je l of k=0
     .rw[if_pos hf];rcases Int.lt_or_le 0 (dF l of k 3)with h|h
      .exact .inr ⟨.inl rfl,hf,h,by omega⟩
      .exact .inl (by omega)
     .rw[if_neg hf];exact .inl rfl
def ZL(top e:Int)(l:List Tp):Prop:=∀f∈l,top<=f.y/\0<=f.h/\f.y+f.h<=e
def wN{top e:Int}{l m:List Tp}(h1:ZL top e l)(h2:ZL top e m):ZL top e (l++m):=λf hf=>(List.mem_append.1 hf).elim (h1 f) (h2 f)
def AD{l:List Nd}{x:Kp}{a:Int}(h:∀n∈x.RG,1<=(Tk l n).head):∀n∈(jb l x a).RG,1<=(Tk l n).head:=λn hn=>by
 unfold jb at hn;split at hn
 .exact h n hn
 .rename_i hc;rcases List.mem_append.1 hn with hn|hn
  .exact h n hn
  .rw[List.mem_singleton.1 hn];omega
def uq{l:List Nd}{L:List Int}{h:Int}:∀m,∀n∈(gv l L h m).RG,1<=(Tk l n).head
 |0=>λn hn=>by simp[gv]at hn
 |m+1=>by rw[gv];exact AD (uq m)
def Lo{l:List Nd}{w:Int}:∀(L:List Int),(∀n∈L,1<=(Tk l n).head)->0<=(UO l w L).2/\(∀f∈(UO l w L).1,0<=f.y/\0<=f.h/\f.y+f.h<=(UO l w L).2)/\((UO l w L).1.map (·.h)).sum=(UO l w L).2:=λL=>by
 suffices key:∀(L:List Int) (p:List Tp×Int),(∀n∈L,1<=(Tk l n).head)->0<=p.2->(∀f∈p.1,0<=f.y/\0<=f.h/\f.y+f.h<=p.2)->(p.1.map (·.h)).sum=p.2->
  0<=(L.foldl (VU l w) p).2/\(∀f∈(L.foldl (VU l w) p).1,0<=f.y/\0<=f.h/\f.y+f.h<=(L.foldl (VU l w) p).2)/\((L.foldl (VU l w) p).1.map (·.h)).sum=(L.foldl (VU l w) p).2 from
  λh=>key L ([],0) h (Int.le_refl _) (λf hf=>by cases hf) rfl
 intro L
 induction L with
 |nil=>intro p _ h1 h2 h3;exact⟨h1,h2,h3⟩
 |cons a L ih=>
  intro p h h1 h2 h3;have ha:=h a (by simp);refine ih _ (λn hn=>h n (by simp[hn])) ?_ (λf hf=>?_) ?_
  .simp only[VU];omega
  .simp only[VU]at hf|-;rcases List.mem_append.1 hf with hf|hf
   .have:=h2 f hf;omega
   .rw[List.mem_singleton.1 hf];simp only;omega
  .simp only[VU,List.map_append,List.sum_append,h3,List.map_cons,List.map_nil,List.sum_cons,List.sum_nil];omega
def oR{b:Bk}(hb:BkFull b)(s:Sn)(h0:0<=s.atom):0<=(bf b s).high/\1<=(bf b s).body/\(bf b s).high+(bf b s).body=b.h/\ZL 0 (bf b s).high (UO b.nodes b.w (bf b s).RG).1/\((UO b.nodes b.w (bf b s).RG).1.map (·.h)).sum=(bf b s).high:=by
 have hk:=mO hb s;have hbd:=iu hb s h0;have hh:∀n∈(bf b s).RG,1<=(Tk b.nodes n).head:=by
  unfold bf;split
  .intro n hn;cases hn
  .unfold rq;split
   .exact uq _
   .intro n hn;cases hn
 obtain⟨g1,g2,g3⟩:=Lo (l:=b.nodes) (w:=b.w) _ hh;rw[hk.sum]at g2 g3;refine⟨hk.high.1,hbd,?_,g2,g3⟩;have h1:=hb.h1;revert hbd;unfold bf;split
 .intro _;simp
 .unfold rq;split
  .rename_i hc;intro _;obtain⟨_,h3,h4⟩:=hc;generalize (SM b.atoms (min s.atom ((b.atoms.length:Int)-1))).node=a at*;have ha:a.toNat<b.nodes.length:=by omega
   have WN:∀x∈Vu b.nodes a.toNat,∃n:Nat,x=n/\n<b.nodes.length:=λx hx=>by
    obtain⟨n,h1,h2⟩:=og ha x hx;exact⟨n,h1,by omega⟩
   exact(nX hb.Yd WN (by omega:0<=b.h) (Vu b.nodes a.toNat).length (Nat.le_refl _)).2.2.2
  .intro h;exact absurd h (by simp)
def Ce{body:Int}(hb:0<=body):∀(l:List P') (sh:Int),0<=sh->sh<=body->(∀f∈l,0<=f.h)->∀m∈(dC body l sh).1,0<=m.y/\0<=m.h/\m.y+m.h<=body
 |[],sh,_,_,_=>λm hm=>by simp[dC]at hm
 |f::r,sh,h0,h1,hf=>λm hm=>by
  rw[dC]at hm;have:=hf f (by simp);split at hm
  .cases hm
  .rename_i hc;rcases List.mem_cons.1 hm with rfl|hm
   .simp only;omega
   .exact Ce hb r _ (by omega) (by omega) (λg hg=>hf g (by simp[hg])) m hm
def Gl{top shift body:Int}(U7:0<=shift):∀{L:List P'},(∀f∈L,0<=f.h)->∀m∈(jH top shift body L).1,0<=m.y/\0<=m.h/\m.y+m.h<=body:=by
 suffices key:∀(L:List P') (x:List P'×List P'),(∀f∈L,0<=f.h)->(∀m∈x.1,0<=m.y/\0<=m.h/\m.y+m.h<=body)->
  ∀m∈(L.foldl (λx f=>l9 body x f (fN top shift f)) x).1,0<=m.y/\0<=m.h/\m.y+m.h<=body from
  λ{L} h=>key L ([],[]) h (λm hm=>by cases hm)
 intro L
 induction L with
 |nil=>intro x _ h m hm;exact h m hm
 |cons f L ih=>
  intro x hL h;refine ih _ (λg hg=>hL g (by simp[hg])) λm hm=>?_;have hf:=hL f (by simp);simp only[l9]at hm;split at hm
  .exact h m hm
  .rename_i hl;rcases List.mem_append.1 hm with hm|hm
   .exact h m hm
   .rw[List.mem_singleton.1 hm];unfold qu at hl;have hl':¬(x.2≠[]\/(fN top shift f).y+(fN top shift f).h>body):=λh=>hl (decide_eq_true h);simp only[fN]at hl'|-;omega
def D0:∀{l:List P'} {a b:Int} {f:P'},f∈Ag l a b->f∈l:=λh=>(List.mem_filter.1 h).1
def yj{b:Bk}(hfh:∀f∈b.RA,0<=f.h){s:Sn}{to kept shift body:Int}(U7:0<=shift):∀m∈(dD b.atoms b.RA s to kept shift body).1,0<=m.y/\0<=m.h/\m.y+m.h<=body:=by
 unfold dD;split
 .exact Gl U7 λf hf=>hfh f (D0 hf)
 .intro m hm;cases hm
def xC{high body:Int}{l:List P'}(h:∀m∈l,0<=m.y/\0<=m.h/\m.y+m.h<=body):ZL high (high+body) (l.map (tF high)):=λf hf=>by
 obtain⟨m,hm,rfl⟩:=List.mem_map.1 hf;have:=h m hm;simp only[tF];omega
def tZ:∀(xs:List Fd) (d:Fd),(fC gT xs d=(d,false)/\∀x∈xs,x.b.forced=0)\/∃L x R,xs=L++x::R/\(∀y∈L,y.b.forced=0)/\x.b.forced≠0/\fC gT xs d=(x,true)
 |[],d=>.inl ⟨rfl,λx h=>(by cases h)⟩
 |a::xs,d=>by
  have stay:∀(l:List Fd) (x:Fd),l.foldl (gm gT) (x,true)=(x,true):=by
   intro l
   induction l with
   |nil=>intro x;rfl
   |cons y l ih=>intro x;rw[List.foldl_cons];exact ih x
  by_cases h:a.b.forced=0
  .have e:fC gT (a::xs) d=fC gT xs d:=by
    unfold fC;rw[List.foldl_cons,gm,gT];simp[h]
   rw[e];rcases tZ xs d with⟨h1,h2⟩|⟨L,x,R,h1,h2,h3,h4⟩
   .exact .inl ⟨h1,λx hx=>(List.mem_cons.1 hx).elim (λe=>e▸h) (h2 x)⟩
   .exact .inr ⟨a::L,x,R,by rw[h1];rfl,λy hy=>(List.mem_cons.1 hy).elim (λe=>e▸h) (h2 y),h3,h4⟩
  .refine .inr ⟨[],a,xs,rfl,λy hy=>(by cases hy),h,?_⟩;unfold fC;rw[List.foldl_cons,gm,gT];simp only[h,Bool.not_false,ne_eq,not_false_eq_true,decide_true,Bool.and_self,if_true];exact stay xs a
def Dg(d:Fd):∀(xs:List Fd) (a:Fd),∃L x R,xs++[a]=L++x::R/\fC jc (xs++[a]) d=(x,true)/\(∀y∈L,x.b.Sq<=y.b.Sq)/\∀y∈R,x.b.Sq<y.b.Sq:=by
 suffices key:∀n (xs:List Fd) (a:Fd),xs.length=n->∃L x R,xs++[a]=L++x::R/\fC jc (xs++[a]) d=(x,true)/\(∀y∈L,x.b.Sq<=y.b.Sq)/\∀y∈R,x.b.Sq<y.b.Sq from
  λxs a=>key _ xs a rfl
 intro n
 induction n with
 |zero=>
  intro xs a h;obtain rfl:=List.length_eq_zero_iff.1 h;exact⟨[],a,[],rfl,by simp[fC,gm,jc],λy h=>(by cases h),λy h=>by cases h⟩
 |succ n ih=>
  intro xs a h;rcases List.eq_nil_or_concat xs with rfl|⟨ys,z,rfl⟩
  .cases h
  .rw[List.concat_eq_append]at h|-;obtain⟨L,x,R,h1,h2,h3,h4⟩:=ih ys z (by simpa using h);rw[tq,h2];unfold gm jc;by_cases hr:a.b.Sq<=x.b.Sq
   .refine⟨ys++[z],a,[],rfl,by simp[hr],λy hy=>?_,λy hy=>by cases hy⟩;rw[h1]at hy;rcases List.mem_append.1 hy with hy|hy
    .have:=h3 y hy;omega
    .rcases List.mem_cons.1 hy with rfl|hy
     .exact hr
     .have:=h4 y hy;omega
   .refine⟨L,x,R++[a],by rw[h1];simp,by simp[hr],h3,λy hy=>?_⟩;rcases List.mem_append.1 hy with hy|hy
    .exact h4 y hy
    .rw[List.mem_singleton.1 hy];omega
def vZ{b:List Tw}{fr to:Int}{L R:List Fd}{x:Fd}(h:(Wb b fr to).map (kH b)=L++x::R):
 ∃c:Nat,x=kH b c/\max fr 0<=c/\c<max fr 0+rz b fr to/\(∀k:Nat,max fr 0<=k->k<c->kH b k∈L)/\∀k:Nat,c<k->k<max fr 0+rz b fr to->kH b k∈R:=by
 have hlen:=congrArg List.length h;simp only[Wb,List.length_map,List.length_range',List.length_append,List.length_cons]at hlen;have Ut:∀k:Nat,max fr 0<=k->k<max fr 0+rz b fr to->(L++x::R)[k-(max fr 0).toNat]?=some (kH b k):=λk h1 h2=>by
  rw[<-h,Wb,List.getElem?_map,List.getElem?_range' (by omega)];simp only[Option.map_some,Nat.one_mul];rw[show(max fr 0).toNat+(k-(max fr 0).toNat)=k by omega]
 refine⟨(max fr 0).toNat+L.length,?_,by omega,by omega,λk h1 h2=>?_,λk h1 h2=>?_⟩
 .have:=Ut ((max fr 0).toNat+L.length) (by omega) (by omega);rw[show(max fr 0).toNat+L.length-(max fr 0).toNat=L.length by omega]at this;simpa using this
 .have:=Ut k h1 (by omega);rw[List.getElem?_append_left (by omega)]at this;exact List.mem_of_getElem? this
 .have:=Ut k (by omega) (by omega);rw[List.getElem?_append_right (by omega),show k-(max fr 0).toNat-L.length=(k-((max fr 0).toNat+L.length)-1)+1 by omega,List.getElem?_cons_succ]at this;exact List.mem_of_getElem? this
def sY{b:List Tw}{i fit:Int}(h:eO b i fit)(hf:fit<=(b.length:Int)-1):
 ∃c:Nat,nE b i fit=c/\i<c/\(c:Int)<=fit/\∀k:Nat,i<k->(k:Int)<=fit->(k<c->(Ud b k).forced=0)/\((Ud b c).forced=0->k≠c->(Ud b k).forced=0/\(Ud b c).Sq<=(Ud b k).Sq/\(c<k->(Ud b k).Sq≠(Ud b c).Sq)):=by
 obtain⟨_,h1,h2,h3⟩:=h;have hn:max (i+1) 0=i+1:=by omega
 have hb:rz b (i+1) fit=(fit-i).toNat:=by unfold rz;omega
 unfold nE kA CJ;rcases tZ ((Wb b (i+1) fit).map (kH b)) yu with⟨e,hz⟩|⟨L,x,R,e1,e2,e3,e4⟩
 .rw[e,if_pos (show yu.i<0 by decide)];have hz':∀k:Nat,i<k->(k:Int)<=fit->(Ud b k).forced=0:=λk g1 g2=>by
   refine hz (kH b k) (List.mem_map.2 ⟨k,?_,rfl⟩);rw[Wb,List.mem_range'_1];omega
  have R6:(Wb b (i+1) fit).map (kH b)≠[]:=λe=>by
   have:=congrArg List.length e;simp[Wb,hb]at this;omega
  rcases List.eq_nil_or_concat ((Wb b (i+1) fit).map (kH b))with e|⟨ys,z,e⟩
  .exact absurd e R6
  .rw[List.concat_eq_append]at e;obtain⟨L,x,R,f1,f2,f3,f4⟩:=Dg yu ys z;rw[<-e]at f1 f2;obtain⟨c,rfl,g1,g2,g3,g4⟩:=vZ f1;rw[f2];refine⟨c,rfl,by omega,by omega,λk k1 k2=>⟨λ_=>hz' k k1 k2,λ_ hk=>⟨hz' k k1 k2,?_,λH'=>?_⟩⟩⟩
   .rcases Nat.lt_or_gt_of_ne hk with hk|hk
    .exact f3 _ (g3 k (by omega) hk)
    .exact Int.le_of_lt (f4 _ (g4 k hk (by omega)))
   .have:=f4 _ (g4 k H' (by omega));exact λe=>by simp only[kH]at this;omega
 .obtain⟨c,rfl,g1,g2,g3,g4⟩:=vZ e1;rw[e4,if_neg (show¬(kH b c).i<0 from λh=>by simp only[kH]at h;omega)];exact⟨c,rfl,by omega,by omega,λk k1 k2=>⟨λhk=>e2 _ (g3 k (by omega) hk),λhc=>absurd hc e3⟩⟩
inductive rK(b:Bk)(s t:Sn)(fs:List Tp)(top body:Int):Prop
 |more (h1:t.atom=s.atom) (h2:fs.length=1) (h3:gQ b.atoms s>body) (h4:∀f,fs[0]?=some f->f.h=body) (h5:t.done=s.done+body)
 |whole (c r:Nat) (y:Int) (h1:t=⟨c,0,decide ((Ud b.L' c).forced≠0)⟩) (h2:s.atom<c) (h3:c<=r) (h4:r<=b.atoms.length) (h5:fs.length+s.atom=c) (h6:∀f,fs[0]?=some f->f.y=top+y)
    (h7:∀k (h:k<b.atoms.length),s.atom<=k->k<r->(if s.atom<k then y+(b.atoms[k].y-(SM b.atoms s.atom).y-s.done)else y)+(if k=s.atom then gQ b.atoms s else b.atoms[k].h)<=body)
    (h8:∀(h:r<b.atoms.length),(if s.atom<r then y+(b.atoms[r].y-(SM b.atoms s.atom).y-s.done)else y)+(if r=s.atom then gQ b.atoms s else b.atoms[r].h)>body)
    (h9:∀k:Nat,s.atom<k->k<=r->(k<c->(Ud b.L' k).forced=0)/\((Ud b.L' c).forced=0->k≠c->(Ud b.L' k).forced=0/\(Ud b.L' c).Sq<=(Ud b.L' k).Sq/\(c<k->(Ud b.L' k).Sq≠(Ud b.L' c).Sq)))
structure Fa(b:Bk)(x:Wx)(fs:List Tp)(t:Sn):Prop where
 ne:0<fs.length
 fin:ZL x.high (x.high+x.body) fs
 fst:∀f,fs[0]?=some f->f.atom=x.s.atom/\f.fr=x.s.done
 cut:rK b x.s t fs x.high x.body
structure bP(b:Bk):Prop extends BkFull b where
 TN:b.atoms.Pairwise λx y=>x.y+x.h<=y.y
 pos:∀a∈b.atoms,1<=a.h
 top:∀a∈b.atoms,0<=a.y
 mayb:uK b.L'=true
 fh:∀f∈b.RA,0<=f.h
 fy:∀f∈b.RA,0<=f.y
def A9{b:Bk}(hb:bP b)(k:Int):0<=la b.atoms k:=by
 unfold la;split
 .rename_i h;obtain⟨n,rfl⟩:∃n:Nat,k=n:=⟨k.toNat,by omega⟩
  have hn:n<b.atoms.length:=by omega
  rw[bz hn];unfold fE;split
  .rename_i h2;have e:(n:Int)-1=((n-1:Nat):Int):=by omega
   rw[e,bz (by omega)];have:=wY hb.TN (show n-1<n by omega) hn;omega
  .have:=hb.top _ (List.getElem_mem hn);omega
 .exact Int.le_refl _
def DN{b:Bk}(hb:bP b){x:Wx}(hm:bZ b.atoms x.s)(hx:x.fs=[])
 (V4:1<=x.body)(U7:0<=x.shift)(Xv:¬(x.shift>0/\gQ b.atoms x.s>x.body-x.shift)):Fa b x (eu b x).fs (eT b x).s:=by
 have hk:=hb.TN;have SP:=hb.pos;have Vg:=hb.mayb;obtain⟨r,hr,hr1,hr2,hr3,hr4⟩:=gK hk SP hm (cV b x) x.shift x.body;have Wj:=hm;obtain⟨⟨h0,h1⟩,h2,h3⟩:=hm;obtain⟨a,ha⟩:∃a:Nat,x.s.atom=a:=⟨x.s.atom.toNat,by omega⟩
 have Up:a<b.atoms.length:=by omega
 have WH:SM b.atoms x.s.atom=b.atoms[a]:=by rw[ha,bz Up]
 have hpa:=SP _ (List.getElem_mem Up);have SD:=hb.brk;have WY:gQ b.atoms x.s=b.atoms[a].h-x.s.done:=by rw[gQ,if_pos Wj,WH]
 rw[WH]at h3;have hl0:1<=gQ b.atoms x.s:=by rw[WY];omega
 have VK:∀kept sh k (h:k<b.atoms.length),a<=k->dr b.atoms x.s kept sh k=b.atoms[k].y-b.atoms[a].y-x.s.done+kept+sh:=λkept sh k h hak=>by
  rw[dr,if_pos ⟨Wj,by omega,by omega⟩,gk,if_pos ⟨⟨h0,h1⟩,by omega,by omega⟩,WH,bz h]
 have hkept:cV b x=0\/0<=cV b x/\x.s.done=0/\cV b x+gQ b.atoms x.s<=x.body-x.shift:=by
  unfold cV ie;split
  .rename_i hc;obtain⟨_,_,hd,hg⟩:=hc;rw[WY];rw[WH]at hg;exact .inr ⟨A9 hb _,hd,hg⟩
  .exact .inl rfl
 have hrX:cG b x=r:=hr;unfold eu eT;by_cases RC:eO b.L' x.s.atom (cG b x)
 .rw[if_pos RC,if_pos RC];obtain⟨c,c1,c2,c3,c4⟩:=sY RC (by rw[hrX];omega);rw[show p7 b x=c from c1,Int.toNat_natCast];rw[hrX]at c3 c4;have hlen:(ck b { x with kind:=1 } (cV b x) (c-x.s.atom.toNat)).length=c-a:=by
   rw[ck,List.length_map,List.length_range,ha,Int.toNat_natCast]
  have TH:(pe b { x with kind:=1 } (cV b x) c).fs=ck b { x with kind:=1 } (cV b x) (c-x.s.atom.toNat):=by
   simp only[pe,Wx.put,Wx.add,hx,List.nil_append]
  have S1:∀i (h:i<c-a),(ck b { x with kind:=1 } (cV b x) (c-x.s.atom.toNat))[i]?=some (cD x.high (cT b.atoms x.s (cV b x) x.shift ((a+i:Nat):Int))):=λi h=>by
   rw[ck,List.getElem?_map,List.getElem?_range (by rw[ha];omega),Option.map_some,ha];rfl
  have hwh:∀k (h:k<b.atoms.length),a<=k->(cT b.atoms x.s (cV b x) x.shift k).y=dr b.atoms x.s (cV b x) x.shift k+(if k=a then x.s.done else 0)/\(cT b.atoms x.s (cV b x) x.shift k).h=b.atoms[k].h-(if k=a then x.s.done else 0)/\(cT b.atoms x.s (cV b x) x.shift k).atom=k/\(cT b.atoms x.s (cV b x) x.shift k).fr=if k=a then x.s.done else 0:=λk h hak=>by
   rw[cT,if_pos ⟨Wj,by omega,by omega⟩];by_cases e:k=a
   .rw[if_pos (by omega),if_pos e];simp only[Tp.bS,jA,fp,bz h];exact⟨trivial,trivial,trivial,trivial⟩
   .rw[if_neg (by omega),if_neg e];simp only[jA,fp,bz h];exact⟨(Int.add_zero _).symm,(Int.sub_zero _).symm,trivial,trivial⟩
  have Xc:(ck b { x with kind:=1 } (cV b x) (c-x.s.atom.toNat))[0]?=some (cD x.high (cT b.atoms x.s (cV b x) x.shift ((a:Nat):Int))):=S1 0 (by omega);obtain⟨w1,w2,w3,w4⟩:=hwh a Up (Nat.le_refl _);rw[if_pos rfl]at w1 w2 w4;have hpa0:=VK (cV b x) x.shift a Up (Nat.le_refl _);have Vi:0<=cV b x:=by rcases hkept with h|h<;>omega
  refine⟨by rw[TH,hlen];omega,λf hf=>?_,λf hf=>?_,?_⟩
  .rw[TH]at hf;obtain⟨i,hi⟩:=List.getElem?_of_mem hf;have Uw:i<c-a:=by
    rw[<-hlen];exact(List.getElem?_eq_some_iff.1 hi).1
   rw[S1 i Uw]at hi;obtain rfl:=Option.some.inj hi;obtain⟨v1,v2,-,-⟩:=hwh (a+i) (by omega) (by omega);have hpl':=VK (cV b x) x.shift (a+i) (by omega) (by omega);have Ul:=hr3 (a+i) (by omega) (by omega) (by omega);have Zh:=SP _ (List.getElem_mem (show a+i<b.atoms.length by omega));simp only[cD];rw[v1,v2];rw[hpl']at Ul|-;by_cases e:i=0
   .subst e;simp only[Nat.add_zero,if_true]at Ul|-;omega
   .rw[if_neg (by omega)];have RV:=wY hk (show a<a+i by omega) (by omega);omega
  .rw[TH,Xc]at hf;obtain rfl:=Option.some.inj hf;simp only[cD];rw[w3,w4];exact⟨ha.symm,rfl⟩
  .refine .whole c r (cV b x+x.shift) rfl c2 (by omega) hr2 (by rw[TH,hlen];omega) (λf hf=>?_) (λk h h1 h2=>?_) (λh=>?_) (λk h1 h2=>c4 k h1 (by omega))
   .rw[TH,Xc]at hf;obtain rfl:=Option.some.inj hf;simp only[cD];rw[w1,hpa0];omega
   .have:=hr3 k h h1 h2;rw[VK _ _ k h (by omega)]at this;rw[WH];by_cases e:(k:Int)=x.s.atom
    .obtain rfl:k=a:=by omega
     rw[if_neg (by omega),if_pos e,WY];omega
    .rw[if_pos (by omega),if_neg e];omega
   .have:=hr4 h;rw[VK _ _ r h (by omega)]at this;rw[WH];by_cases e:(r:Int)=x.s.atom
    .obtain rfl:r=a:=by omega
     rw[if_neg (by omega),if_pos e,WY];omega
    .rw[if_pos (by omega),if_neg e];omega
 .rw[if_neg RC,if_neg RC];have hra:r=a:=by
   have:¬x.s.atom<cG b x:=λh=>RC ⟨Vg,h0,by omega,h⟩;omega
  have hgt:=hr4 (by omega);subst hra;rw[VK _ _ r Up (Nat.le_refl _)]at hgt;have Vi:cV b x=0/\x.shift=0:=by
   rw[WY]at hkept Xv;rcases hkept with h|h<;>omega
  have hso:ku b.atoms ({ x with kind:=1 }:Wx).s ({ x with kind:=1 }:Wx).body:=⟨Wj,V4⟩
  have TH:(qp b { x with kind:=1 }).fs=[cD x.high (ij b.atoms x.s x.body)]:=by
   simp only[qp,Wx.put,Wx.add,hx,List.nil_append]
  have W2:ij b.atoms x.s x.body=⟨b.atoms[r].node,x.s.atom,x.s.done,b.atoms[r].x,0,b.atoms[r].w,x.body⟩:=by
   rw[ij,if_pos (show ku b.atoms x.s x.body from hso),dR];simp only[Tp.cut,Tp.bS,fp,WH];congr 1;omega
  have hnx:ew b.atoms x.s x.body=⟨x.s.atom,x.s.done+x.body,false⟩:=by
   rw[ew,if_pos (show ku b.atoms x.s x.body from hso)];rw[ij,if_pos (show ku b.atoms x.s x.body from hso)]at W2;rw[W2];simp only[jh,WH];rw[if_pos (by omega)]
  rw[W2]at TH;refine⟨by rw[TH];exact Nat.one_pos,λf hf=>?_,λf hf=>?_,.more ?_ (by rw[TH];rfl) (by rw[WY];omega) (λf hf=>?_) ?_⟩
  .rw[TH,List.mem_singleton]at hf;subst hf;simp only[cD];omega
  .rw[TH]at hf;obtain rfl:=Option.some.inj hf;exact⟨rfl,rfl⟩
  .show(ew b.atoms x.s x.body).atom=_;rw[hnx]
  .rw[TH]at hf;obtain rfl:=Option.some.inj hf;rfl
  .show(ew b.atoms x.s x.body).done=_;rw[hnx]
def O7(s t:Sy)(n:Int):Prop:=t.s.atom>s.s.atom\/t.s.atom=s.s.atom/\t.s.done>s.s.done\/t.s.atom=s.s.atom/\t.s.done=s.s.done/\(t.bM.length<s.bM.length\/t.s.atom=n/\t.s.free=false)
structure EE(b:Bk)(s:Sy)(p:UB)(t:Sy):Prop where
 no:p.no=0
 onw:O7 s t b.atoms.length
 sum:(p.hs.map (·.h)).sum=(bf b s.s).high
 hd:ZL 0 (bf b s.s).high p.hs
 fl:ZL (bf b s.s).high b.h p.fs
 lo:ZL (bf b s.s).high b.h p.ls
 kd:p.kind=1\/p.kind=2
 no':p.kind=2->p.fs=[]
 cut:p.kind=1->bZ b.atoms s.s/\0<p.fs.length/\(∀f,p.fs[0]?=some f->f.atom=s.s.atom/\f.fr=s.s.done)/\rK b s.s t.s p.fs (bf b s.s).high (bf b s.s).body
def Gt{α:Type}{p:α->Bool}:∀(l:List α),∀x∈l.takeWhile p,p x=true
 |[],x,h=>by cases h
 |a::l,x,h=>by
  rw[List.takeWhile_cons]at h;split at h
  .rename_i ha;rcases List.mem_cons.1 h with rfl|h
   .exact ha
   .exact Gt l x h
  .cases h
def FW{b:Bk}(hb:bP b){x:Wx}(U7:0<=x.shift)(h:ZL x.high (x.high+x.body) x.ls):ZL x.high (x.high+x.body) (eu b x).ls:=by
 unfold eu;split
 .exact wN h (xC (yj hb.fh U7))
 .exact wN h (xC (yj hb.fh (Int.le_refl _)))
def ke(b:Bk)(x:Wx):(eu b x).hs=x.hs/\(eu b x).kind=1:=by
 unfold eu;split<;>exact⟨rfl,rfl⟩
def iH{b:Bk}(hb:bP b){s:Sy}(he:¬da b s):EE b s (aW b s).1 (aW b s).2:=by
 have Sl:gA b s:=Decidable.byContradiction λh=>he (.inl h);have Yr:¬(s.s.atom=b.atoms.length/\s.s.free=false/\s.bM=[]):=λh=>he (.inr h);have S1:0<=s.s.atom:=by rcases Sl.2 with h|h;exact h.1.1;omega
 obtain⟨r1,r2,r3,r4,r5⟩:=oR hb.toBkFull s.s S1;have hpf:∀f∈s.bM,0<=f.h:=λf hf=>hb.fh f (mM _ _ Sl.1 f hf);have XN:ZL (bf b s.s).high ((bf b s.s).high+(bf b s.s).body) ((dC (bf b s.s).body s.bM 0).1.map (tF (bf b s.s).high)):=xC (Ce (by omega) _ 0 (Int.le_refl _) (by omega) hpf);have U7:=(rP (body:=(bf b s.s).body) s.bM 0 (Int.le_refl _) (by omega) hpf).2.2;unfold aW;split
 .rename_i h0;obtain⟨h1,h2⟩:=h0;have hn:s.s.atom=0/\s.s.done=0:=by
   rcases Sl.2 with h|h
   .have:=h.1;rw[h1]at this;simp at this;omega
   .rw[h1]at h;simpa using h
  have hrv:bf b s.s=⟨[],0,b.h⟩:=by rw[bf,if_pos h1]
  refine⟨rfl,.inr (.inr ⟨?_,?_,.inr ⟨?_,rfl⟩⟩),r5,r4,λf hf=>(by cases hf),?_,.inr rfl,λ_=>rfl,λh=>?_⟩
  .simp[lV,hn]
  .simp[lV,hn]
  .simp[lV,h1]
  .rw[<-r3];refine xC (high:=(bf b s.s).high) (body:=(bf b s.s).body) λm hm=>?_;have h4:m.y+m.h<=(bf b s.s).body:=of_decide_eq_true (Gt _ m hm);have h5:m∈b.RA:=(List.takeWhile_sublist _).mem hm;exact⟨hb.fy m h5,hb.fh m h5,h4⟩
  .exact absurd h (show¬((2:Int)=1) by decide)
 .split
  .rename_i hf;refine⟨rfl,?_,r5,r4,λf hf=>(by cases hf),by rw[<-r3];exact XN,.inr rfl,λ_=>rfl,λh=>absurd h (show¬((2:Int)=1) by decide)⟩;refine .inr (.inr ⟨rfl,rfl,?_⟩);cases hp:s.bM with
   |cons f r=>exact .inl (pA f r)
   |nil=>
    unfold jy at hf;rw[hp]at hf;simp only[dC]at hf;have ha:s.s.atom=b.atoms.length:=by
     rcases hf with h|h|h
     .exact h
     .exact absurd rfl h
     .omega
    exact .inr ⟨ha,by simp[ha]⟩
  .rename_i hf;have hm:bZ b.atoms s.s:=Sl.2.resolve_right λh=>hf (.inl h.1);have hfn:=pB (x:=dk b s) hb.toBkOk hm hb.pos r2;have hfg:=DN hb (x:=dk b s) hm rfl r2 U7.1 (λh=>hf (.inr (.inr h)));have hls:=FW hb (x:=dk b s) U7.1 (wN (l:=[]) (λf hf=>(by cases hf)) XN);have hoth:=ke b (dk b s);have xs:(dk b s).s=s.s:=rfl;have xh:(dk b s).high=(bf b s.s).high:=rfl;have xb:(dk b s).body=(bf b s.s).body:=rfl;rw[xh,xb,r3]at hls;obtain⟨f1,f2,f3,f4⟩:=hfg;rw[xh,xb]at f2 f4;rw[r3]at f2;refine⟨rfl,?_,?_,?_,f2,hls,.inl hoth.2,λh=>?_,λ_=>⟨hm,f1,f3,f4⟩⟩
   .generalize eT b (dk b s)=z at hfn;cases hfn with
    |whole c fr p g1 g2 g3=>exact .inl g1
    |more d p g1 g2 g3=>exact .inr (.inl ⟨rfl,g1⟩)
   .show((eu b (dk b s)).hs.map _).sum=_;rw[hoth.1];exact r5
   .show ZL _ _ (eu b (dk b s)).hs;rw[hoth.1];exact r4
   .have:(eu b (dk b s)).kind=2:=h;rw[hoth.2]at this;cases this
def gj{l:List Nd}(hl:dH l){w h:Int}(he:ec l w h=0):bP (bc l w h):=by
 obtain⟨hw,hh,hc⟩:=py he;obtain⟨UJ,hn,hwo,hcs⟩:=wT hc;have hG:=xG UJ hn hw.1 hw.2;obtain⟨h1,h2⟩:=Dw hl he;refine⟨h1,Hx UJ hn hw.1 hw.2,λa ha=>(hG.RY a ha).h0,λa ha=>(hG.RY a ha).y0,?_,h2,λf hf=>(hG.YF f hf).y0⟩;show uK (rv l (ofR l w))=true;refine HZ UJ λx hx=>?_;unfold ofR at hx;obtain⟨a,ha,rfl⟩:=List.mem_map.1 hx;exact hG.nod a ha
open Go.Proofs Go.Proofs.Tryz
def uo(b:List Tw)(p:UB)(s:Sn):Int:=
 if p.kind≠1\/s.done>0 then -1 else if(Ud b s.atom.toNat).forced=3 then 0 else if(Ud b s.atom.toNat).forced=4 then 1 else -1
def HG(b:List Tw)(hb:b.length<=1000000)(p:UB)(s:Sn)(h0:0<=s.atom)(h1:s.atom<b.length):aV prog 59 [bC b,cE p,bj s] (vI (uo b p s)):=λU=>by
 refine e59.r (by simp[c59]) ?_;have hs:=aa.refl U;obtain⟨no,kd,hh,ff,ll⟩:=p;obtain⟨a,d,fr⟩:=s;obtain⟨k,rfl⟩:∃k:Nat,a=k:=⟨a.toNat,by simp only at h0;omega⟩
 have hk:k<b.length:=by simp only at h1;omega
 have Uu:(cE ⟨no,kd,hh,ff,ll⟩).cells=[vI no,vI kd,bb hh,bb ff,bb ll]:=rfl;have hpp:(cE ⟨no,kd,hh,ff,ll⟩).stays=true:=rfl;have Uj:(bj ⟨k,d,fr⟩).cells=[vI k,vI d,.bool fr]:=rfl;have U2:(bj ⟨k,d,fr⟩).stays=true:=rfl;have SI:=aI b;have hbc:=aJ b;obtain⟨⟨c,f,r⟩,hf⟩:∃x,b[k]=x:=⟨_,rfl⟩
 have Rv:∀U,bQ U 3 (bC b) (.int .i64 k)=some (.rp (.agg [vI c,vI f,vI r])):=λU=>by rw[sX hk,hf,dZ]
 have hg:Ud b ((k:Int)).toNat=⟨c,f,r⟩:=by simp[Ud,hk,hf]
 have hR:uo b ⟨no,kd,hh,ff,ll⟩ ⟨k,d,fr⟩=if kd≠1\/d>0 then -1 else if f=3 then 0 else if f=4 then 1 else -1:=by simp only[uo,hg]
 generalize uo b ⟨no,kd,hh,ff,ll⟩ ⟨k,d,fr⟩=R at*;refine ad.mix 6 ?_;apply sR;simp only[go_sem,seval,c59,Uu,hpp,Uj,U2,SI,hbc];refine af λi4 Z4 s4 a4 f4=>?_;have z4:=hs.none f4;replace hs:=hs.trans s4;simp only[go_sem,seval,Uj];refine af λi5 Z5 s5 a5 f5=>?_;have TL:=aq a4 f5;replace a4:=s5 _ _ a4;have z5:=hs.none f5;replace hs:=hs.trans s5;by_cases q1:kd=1
 .have YO:(kd≠1)=False:=by simp[q1]
  by_cases q2:d>0
  .have ZM:(d>0)=True:=eq_true q2;simp only[go_sem,seval,a4,a5,YO,ZM,Uu,Uj];rw[if_pos (.inr q2)]at hR;exact ay.pure hs (congrArg vI hR.symm)
  .have ZM:(d>0)=False:=eq_false q2;rw[if_neg (λh=>h.elim (λh=>h q1) q2)]at hR;by_cases q3:f=3
   .have q3':(f=3)=True:=eq_true q3;simp only[go_sem,seval,a4,a5,YO,ZM,q3',Rv,Uu,Uj,SI,hbc];rw[if_pos q3]at hR;exact ay.pure hs (congrArg vI hR.symm)
   .have q3':(f=3)=False:=eq_false q3;rw[if_neg q3]at hR;by_cases q4:f=4
    .have q4':(f=4)=True:=eq_true q4;simp only[go_sem,seval,a4,a5,YO,ZM,q3',q4',Rv,Uu,Uj,SI,hbc];rw[if_pos q4]at hR;exact ay.pure hs (congrArg vI hR.symm)
    .have q4':(f=4)=False:=eq_false q4;simp only[go_sem,seval,a4,a5,YO,ZM,q3',q4',Rv,Uu,Uj,SI,hbc];rw[if_neg q4]at hR;exact ay.pure hs (congrArg vI hR.symm)
 .have YO:(kd≠1)=True:=eq_true q1;simp only[go_sem,seval,a4,a5,YO,Uu,Uj];rw[if_pos (.inl q1)]at hR;exact ay.pure hs (congrArg vI hR.symm)
open Go.Proofs Go.Proofs.Tryz
def xE{RZ i1 i2 e1 e2:Nat}{n:Int}{x:V}{U:ai}{Post:Bool->ai->Prop}(r1:RM .i64 (n+1))(h1:U i1=some ⟨e1,1,[vI n]⟩)(h2:U i2=some ⟨e2,1,[.yl RZ]⟩)(R6:i1≠i2)
 (hy:YC prog RZ [x] (C' U i1 ⟨e1,1,[vI (n+1)]⟩) Post):aD prog 55 [x,.ptr i1 0 0,.ptr i2 0 0] U λr Z'=>∃b,r=.bool b/\Post b Z':=by
 refine e55.r (by simp[c55]) ?_;refine ad.mix 6 ?_;apply sR;simp only[go_sem,seval,c55,h1,r1,h2,ab R6,ab R6.symm];refine ad.lN (Post:=Post) rfl rfl rfl hy ?_;intro b Z' hb;apply sR;simp only[go_sem,seval];exact⟨_,Z',aa.refl _,Wk.refl (aa.refl _) _,b,rfl,hb⟩
def Yh(x:Nd):Int:=if x.kind=2 then x.line*x.words.length else if x.kind=3 then x.h else 0
def Wd(l:List Nd):Nat->Int
 |0=>0
 |i+1=>Wd l i+Yh (R4 l i)
def nL{x:Nd}(h:Zb x):0<=Yh x:=by
 have h1:=h.line.1;have h2:=h.h.1;unfold Yh;split
 .exact Int.mul_nonneg h1 (by omega)
 .split<;>omega
def yG{l:List Nd}(hb:So l=true){a:Nat}:∀n,a+n<=l.length->Wd l a<=Wd l (a+n)
 |0,_=>Int.le_refl _
 |n+1,h=>by
  have ih:=yG (a:=a) hb n (by omega);have h1:Zb (R4 l (a+n)):=by rw[iU (show a+n<l.length by omega)];exact gr hb _
  have h2:=nL h1;rw[<-Nat.add_assoc,Wd];omega
def WZ(l:List Sk):Int:=(l.map (·.h)).sum
def Cm(l m:List Sk):WZ (l++m)=WZ l+WZ m:=by unfold WZ;rw[List.map_append,List.sum_append]
def xy{l:List Nd}{rs:List Rm}(hD:YE l rs):∀(k a e:Nat) (s:WS) (C:Nat),e-a<=k->a<=e->e<=l.length->cq l a e=true->fU s C->WZ s.atoms<=Wd l a->WZ (eA l rs k a e s).atoms<=Wd l e
 |0,a,e,s,C,hk,Xa,_,_,_,h=>by
  obtain rfl:a=e:=by omega
  exact h
 |k+1,a,e,s,C,hk,Xa,he,hr,h,hs=>by
  rw[eA];by_cases H':a<e
  .rw[if_pos H'];obtain⟨h1,h2⟩:=dt he hr (Nat.le_refl a) H';obtain⟨h3,h4⟩:=ej he hr H';have R7:Zb (R4 l a):=by rw[iU (by omega)];exact gr hD.Yd (by omega)
   have step:∀t,(∃D,fU t D)->WZ t.atoms<=Wd l (a+(Sa l a).toNat)->WZ (eA l rs k (a+(Sa l a).toNat) e t).atoms<=Wd l e:=λt ⟨D,ht⟩ hA=>
    xy hD k _ e t D (by omega) (by omega) he h3 ht hA
   have TI:Yh (R4 l a)+WZ s.atoms<=Wd l (a+1):=by rw[Wd];omega
   have one:Wd l (a+1)<=Wd l (a+(Sa l a).toNat):=by
    obtain⟨m,hm⟩:∃m,(Sa l a).toNat=1+m:=⟨(Sa l a).toNat-1,by omega⟩
    rw[hm,<-Nat.add_assoc];exact yG hD.Yd m (by omega)
   split
   .rename_i k1;have hz:Yh (R4 l a)=0:=by rw[Yh,if_neg (by omega),if_neg (by omega)]
    have hI2:=gz hD k (a+1) (a+(Sa l a).toNat) _ _ (by omega) (by omega) (by omega) h4 (fk h R7.st);have hS2:=xy hD k (a+1) (a+(Sa l a).toNat) _ _ (by omega) (by omega) (by omega) h4 (fk h R7.st) (show WZ s.atoms<=_ by omega);exact step _ ⟨_,jP hI2 R7.st⟩ hS2
   .split
    .rename_i k1 k2;refine step _ ⟨_,kU h R7 a⟩ (Int.le_trans ?_ one);have hp:=lK a (R4 l a).line (dM s.B' (R4 l a).words (R4 l a).space (R4 l a).line (eI rs a) (R4 l a).words.length 0 (s.RK.y+s.RK.m)) s;have hlen:=jx s.B' (R4 l a).words (R4 l a).space (R4 l a).line (eI rs a) (R4 l a).words.length 0 (s.RK.y+s.RK.m);have e:(s.text rs a (R4 l a)).atoms=_:=hp;rw[e,Cm];generalize dM s.B' (R4 l a).words (R4 l a).space (R4 l a).line (eI rs a) (R4 l a).words.length 0 (s.RK.y+s.RK.m)=L at*;have jk:WZ (L.map (fe a (R4 l a).line))=(R4 l a).line*L.length:=by
      clear e hp hlen
      induction L with
      |nil=>simp[WZ]
      |cons x L ih=>
       have:WZ ((x::L).map (fe a (R4 l a).line))=(R4 l a).line+WZ (L.map (fe a (R4 l a).line)):=rfl;rw[this,ih,List.length_cons,Int.natCast_add,Int.mul_add];omega
     have hle:(R4 l a).line*(L.length:Int)<=(R4 l a).line*((R4 l a).words.length:Int):=Int.mul_le_mul_of_nonneg_left (by omega) R7.line.1;have hz:Yh (R4 l a)=(R4 l a).line*((R4 l a).words.length:Int):=by rw[Yh,if_pos k2]
     omega
    .split
     .rename_i k1 k2 k3;refine step _ ⟨_,kF h R7 a⟩ (Int.le_trans ?_ one);have hz:Yh (R4 l a)=(R4 l a).h:=by rw[Yh,if_neg k2,if_pos k3]
      have e:(WS.mono l rs s a (R4 l a)).atoms=s.atoms++[⟨2,a,0,0,(dX s.B' (kS s.B' (R4 l a).w (R4 l a).h (eI rs a) (s.RK.y+s.RK.m)) (R4 l a).h (eI rs a)).a,kS s.B' (R4 l a).w (R4 l a).h (eI rs a) (s.RK.y+s.RK.m),(R4 l a).w,(R4 l a).h⟩]:=rfl;rw[e,Cm];simp only[WZ,List.map_cons,List.map_nil,List.sum_cons,List.sum_nil];simp only[WZ]at TI;omega
     .have k4:(R4 l a).kind=4:=by rename_i g1 g2 g3;rcases R7.kind with h|h|h|h;exact absurd h g1;exact absurd h g2;exact absurd h g3;exact h
      have hz:=nL R7;exact step _ ⟨_,jr hD h (by omega) R7 k4⟩ (show WZ s.atoms<=_ by omega)
  .rw[if_neg H'];obtain rfl:a=e:=by omega
   exact hs
def Mt{l:List Nd}(hb:So l=true)(hn:l.length<=2000){w:Int}(h1:1<=w)(h2:w<=1099511627776):WZ (dj l w).atoms<=Wd l l.length:=by
 have hD:=uw hb hn h1 h2;have hr:cq l 0 l.length=true:=by simp only[So,Ba]at hb;exact hb.2
 have hI:fU ⟨[],[],0,⟨0,0⟩⟩ 0:=⟨⟨by simp,by simp,by simp,by simp,by simp⟩,by simp,by simp⟩
 exact xy hD l.length 0 l.length ⟨[],[],0,⟨0,0⟩⟩ 0 (by omega) (by omega) (Nat.le_refl _) hr hI (by simp[WZ,Wd])
def Ay{l:List Nd}(hb:So l=true){s:Sm}(hs:0<=s.O'/\s.O'<=1099511627777):∀i,i<=l.length->0<=(gM l s i).O'/\(gM l s i).O'<=1099511627777/\min (Wd l i) 1099511627777<=(gM l s i).O'
 |0,_=>⟨hs.1,hs.2,by simp only[Wd,gM];omega⟩
 |i+1,hi=>by
  obtain⟨h1,h2,h3⟩:=Ay hb hs i (by omega);have R7:Zb (R4 l i):=by rw[iU (by omega)];exact gr hb (by omega)
  have hz:=nL R7;have RV:=R7.st;rw[gM,Wd,List.getElem?_eq_getElem (by omega)];rw[iU (show i<l.length by omega)]at R7 hz RV|-;simp only;unfold nN;split
  .rename_i k1;have e:Yh l[i]=0:=by rw[Yh,if_neg (by omega),if_neg (by omega)]
   have g1:=RV.top.1;have g2:=RV.RT.1;have g3:=RV.RI.1;have g4:=RV.Rx.1;have g5:=RV.head.1;simp only[jz];omega
  .split
   .rename_i k1 k2;have e:Yh l[i]=l[i].line*l[i].words.length:=by rw[Yh,if_pos k2]
    simp only;rw[rT ⟨h1,h2⟩ R7.line.1];omega
   .rename_i k1 k2;have hh:=R7.h.1;have e:Yh l[i]<=l[i].h:=by rw[Yh,if_neg k2];split<;>omega
    simp only[jz];omega
def Bz{l:List Nd}(hb:So l=true)(h:(iQ l).1.O'<=1099511627776):Wd l l.length<=(iQ l).1.O':=by
 unfold iQ at h|-;rw[if_pos hb]at h|-;have:=(Ay hb (s:=⟨0,0,l.length,0⟩) ⟨Int.le_refl _,(by decide:(0:Int)<=1099511627777)⟩ l.length (Nat.le_refl _)).2.2;simp only at h|-;omega
def CG{cnt:Nat->Nat}:∀{n a:Nat} {x:Int},x∈Xq cnt a n->∃i:Nat,x=i/\a<=i/\i<a+n/\0<cnt i
 |0,a,x,h=>by rw[jJ]at h;cases h
 |n+1,a,x,h=>by
  rw[gZ]at h;rcases List.mem_append.1 h with h|h
  .obtain⟨h1,rfl⟩:=List.mem_replicate.1 h;exact⟨a,rfl,Nat.le_refl _,by omega,by omega⟩
  .obtain⟨i,h1,h2,h3,h4⟩:=CG h;exact⟨i,h1,by omega,by omega,h4⟩
def FK{l:List Nd}(hb:So l=true)(hn:l.length<=2000){w:Int}(h1:1<=w)(h2:w<=1099511627776):∀a∈(dj l w).atoms,∃i:Nat,a.node=i/\i<l.length/\((R4 l i).kind=2\/(R4 l i).kind=3):=λa ha=>by
 have hD:=uw hb hn h1 h2;have hr:cq l 0 l.length=true:=by simp only[So,Ba]at hb;exact hb.2
 have hI:fU ⟨[],[],0,⟨0,0⟩⟩ 0:=⟨⟨by simp,by simp,by simp,by simp,by simp⟩,by simp,by simp⟩
 obtain⟨-,cnt,hc,hco⟩:=rH hD l.length 0 l.length ⟨[],[],0,⟨0,0⟩⟩ 0 (by omega) (by omega) (Nat.le_refl _) hr hI (by simp);have hm:a.node∈(eA l (kW l w) l.length 0 l.length ⟨[],[],0,⟨0,0⟩⟩).atoms.map (·.node):=List.mem_map.2 ⟨a,ha,rfl⟩;rw[hc]at hm;simp only[List.map_nil,List.nil_append]at hm;obtain⟨i,e,_,h3,h4⟩:=CG hm;refine⟨i,e,by omega,?_⟩;have:=hco i (Nat.zero_le _) (by omega);unfold okN at this;split at this
 .rename_i k;exact .inl k
 .split at this
  .rename_i k;exact .inr k
  .have:=of_decide_eq_true this;omega
def least_le{l:List Nd}{h:Int}:∀{n j:Nat},j<n->((R4 l j).kind=2\/(R4 l j).kind=3)->iB l h n<=(xe l j h).body
 |0,j,hj,_=>by omega
 |n+1,j,hj,hk=>by
  rw[iB];by_cases e:j=n
  .subst e;rw[if_pos hk];omega
  .have:=least_le (l:=l) (h:=h) (show j<n by omega) hk;split<;>omega
def ve{l:List Nd}{h:Int}(hh:1<=h):∀n,1<=iB l h n
 |0=>hh
 |n+1=>by
  have h1:=ve (l:=l) hh n;have h2:1<=(xe l n h).body:=pV hh _;rw[iB];split<;>omega
def IF{l:List Nd}{h:Int}(hb:So l=true)(h1:1<=h)(h2:h<=1099511627776):iV l h=true:=by
 unfold iV;rw[hb];simp[h1,h2]
structure oP(b:Bk)(L:Int):Prop where
 pos:1<=L
 body:∀s:Sn,0<=s.atom->b.atoms≠[]->L<=(bf b s).body
 rest:eR b 0<=L*32768
 na:b.atoms.length<=10000
 nf:b.RA.length<=10000
def HY{L:Int}(h1:1<=L):mulR L 32768<=L*32768:=by
 have e:dL 32768=32768:=by decide
 have e2:(1099511627776:Int).tdiv (max 32768 (-32768))=33554432:=by decide
 unfold mulR;rw[e,e2];have hc:dL L<=L/\0<=dL L:=by unfold dL;(repeat' split)<;>omega
 split
 .rename_i h;obtain⟨_,h|h⟩:=h
  .split<;>omega
  .exact absurd h (by have:(-1099511627776:Int).tdiv (max 32768 (-32768))=-33554432:=by decide
                      rw[this];omega)
 .have:=hc.1;omega
def sD{l:List Nd}{w h:Int}(he:ec l w h=0):oP (bc l w h) (gX l h):=by
 have he0:=he;obtain⟨hw,hh,hc⟩:=py he;obtain⟨UJ,hn,hwo,hcs⟩:=wT hc;have hG:=xG UJ hn hw.1 hw.2;have hl1:=hG.len;have hl2:=hG.Uz;have hm:=IF UJ hh.1 hh.2;have hL:gX l h=iB l h l.length:=by rw[gX,if_pos hm]
 have hp:1<=gX l h:=by rw[hL];exact ve hh.1 _
 refine⟨hp,λs h0 R6=>?_,?_,by show(dj l w).atoms.length<=_;omega,by show(dj l w).B'.length<=_;omega⟩
 .unfold bf;rw[if_neg R6];have hlen:0<(bc l w h).atoms.length:=List.length_pos_iff.2 R6;obtain⟨k,hk⟩:∃k:Nat,min s.atom (((bc l w h).atoms.length:Int)-1)=k:=⟨(min s.atom (((bc l w h).atoms.length:Int)-1)).toNat,by omega⟩
  have TR:k<(bc l w h).atoms.length:=by omega
  rw[hk,bz TR];obtain⟨i,e1,e2,e3⟩:=FK UJ hn hw.1 hw.2 _ (List.getElem_mem (show k<(dj l w).atoms.length from TR));have e4:(bc l w h).atoms[k].node=i:=e1;rw[e4,rq,hL];have V1:iV (bc l w h).nodes (bc l w h).h=true:=hm;rw[if_pos ⟨V1,by omega,show((i:Nat):Int)<(l.length:Nat) by omega⟩,Int.toNat_natCast];exact least_le e2 e3
 .have h1:eR (bc l w h) 0=WZ (dj l w).atoms:=rfl;have h2:=Mt UJ hn hw.1 hw.2;have h3:(iQ l).1.O'<=1099511627776:=by
   unfold gY at hc;rw[if_pos UJ]at hc;split at hc
   .cases hc
   .omega
  have h4:=Bz UJ h3;have h5:¬(iQ l).1.O'>mulR (gX l h) 32768:=λh=>by
   unfold ec at he0;rw[if_neg (λg=>g ⟨hw,hh⟩),if_neg (λg=>g hc),if_pos h]at he0;cases he0
  have h6:=HY hp;omega
def o6(b:Bk)(L:Int)(s:Sy):Int:=((b.atoms.length:Int)-s.s.atom)+(eR b s.s.atom.toNat-s.s.done)/L
def mu2(b:Bk)(L:Int)(s:Sy):Nat:=(o6 b L s).toNat*(2*b.RA.length+3)+(if s.s.free=true then b.RA.length+1 else 0)+s.bM.length
def jv.bM{b:Bk}{x:Wx}{t:Sy}(h:jv b x t):t.bM.length<=b.RA.length:=by
 cases h with
 |whole c fr p h1 h2 h3=>exact h3
 |more d p h1 h2 h3=>exact h3
def zk{b:Bk}(hb:bP b){L:Int}(hL:oP b L){s:Sy}(he:¬da b s):mu2 b L (aW b s).2<mu2 b L s:=by
 have Sl:gA b s:=Decidable.byContradiction λh=>he (.inl h);have Yr:¬(s.s.atom=b.atoms.length/\s.s.free=false/\s.bM=[]):=λh=>he (.inr h);have S1:0<=s.s.atom:=by rcases Sl.2 with h|h;exact h.1.1;omega
 have SP:=hb.pos;have hg:=iH hb he;have hcut:=hg.cut;revert hcut;unfold aW;split
 .rename_i h0;intro _;obtain⟨h1,h2⟩:=h0;have hr:∀a,eR b a=0:=λa=>by unfold eR;rw[h1];simp
  have hd:s.s.done=0/\s.s.atom=0:=by
   rcases Sl.2 with h|h
   .have:=h.1;rw[h1]at this;simp at this;omega
   .rw[h1]at h;simp at h;omega
  have hdl:(b.RA.dropWhile (qL (bY b s.s .aC).body)).length<=b.RA.length:=(List.dropWhile_sublist _).length_le;simp only[mu2,o6,lV,hr,h2,hd,h1,if_true];simp;omega
 .split
  .rename_i hf;intro _;unfold mu2 o6;simp only;cases hp:s.bM with
   |cons f r=>
    have:=pA (body:=(bf b s.s).body) f r;simp only[List.length_cons]at this;cases s.s.free<;>by_cases h:s.s.atom<b.atoms.length<;>simp[h]<;>omega
   |nil=>
    unfold jy at hf;rw[hp]at hf;simp only[dC]at hf;have ha:s.s.atom=b.atoms.length:=by
     rcases hf with h|h|h
     .exact h
     .exact absurd rfl h
     .omega
    have UM:s.s.free=true:=by
     cases h:s.s.free
     .exact absurd ⟨ha,h,hp⟩ Yr
     .rfl
    simp[dC,ha,UM]
  .rename_i hf;have hm:bZ b.atoms s.s:=Sl.2.resolve_right λh=>hf (.inl h.1);have R6:b.atoms≠[]:=λh=>by have:=hm.1;rw[h]at this;simp at this;omega
   have hbd:=hL.body s.s S1 R6;have hL1:=hL.pos;have hpd:=(pB (x:=dk b s) hb.toBkOk hm SP (iu hb.toBkFull s.s S1)).bM;intro hcut;have hkind:(jS (eu b (dk b s))).kind=1:=(ke b (dk b s)).2;obtain⟨-,-,-,hcg⟩:=hcut hkind;obtain⟨⟨h0,h1⟩,h2,h3⟩:=hm;obtain⟨k,hk⟩:∃k:Nat,s.s.atom=k:=⟨s.s.atom.toNat,by omega⟩
   have TR:k<b.atoms.length:=by omega
   have Zh:=SP _ (List.getElem_mem TR);have RV:=sK TR;have hnn:=oM SP (k+1);have Xm:gQ b.atoms s.s=b.atoms[k].h-s.s.done:=by rw[gQ,if_pos ⟨⟨h0,h1⟩,h2,h3⟩,hk,bz TR]
   rw[hk,bz TR]at h3;have key:∀t:Sy,t.bM.length<=b.RA.length->0<=o6 b L t->o6 b L t+1<=o6 b L s->mu2 b L t<mu2 b L s:=λt hp g1 g2=>by
    unfold mu2;have H':(o6 b L t).toNat+1<=(o6 b L s).toNat:=by omega
    have hmul:((o6 b L t).toNat+1)*(2*b.RA.length+3)<=(o6 b L s).toNat*(2*b.RA.length+3):=Nat.mul_le_mul_right _ H';rw[Nat.add_mul,Nat.one_mul]at hmul;have:(if t.s.free=true then b.RA.length+1 else 0)<=b.RA.length+1:=by split<;>omega
    omega
   refine key _ hpd ?_ ?_
   all_goals
    change rK b s.s (eT b (dk b s)).s _ _ _ at hcg;generalize eT b (dk b s)=z at*;unfold o6;simp only;cases hcg with
    |more q1 q2 q3 q4 q5=>
     rw[q1,q5,hk,Int.toNat_natCast];rw[Xm]at q3;have e1:0<=(eR b k-(s.s.done+(bf b s.s).body))/L:=Int.ediv_nonneg (by omega) (by omega);have e2:(eR b k-(s.s.done+(bf b s.s).body))/L<=(eR b k-s.s.done-L)/L:=Int.ediv_le_ediv (by omega) (by omega);have e3:(eR b k-s.s.done-L)/L=(eR b k-s.s.done)/L-1:=by
      have:=Int.add_mul_ediv_right (eR b k-s.s.done) (-1) (show L≠0 by omega);rw[show eR b k-s.s.done-L=eR b k-s.s.done+-1*L by omega,this];omega
     omega
    |whole c r y q1 q2 q3 q4 q5 q6 q7 q8 q9=>
     rw[hk]at q2;simp only[q1,hk,Int.toNat_natCast];have e0:=yA SP (k+1) (c-(k+1));rw[show k+1+(c-(k+1))=c by omega]at e0;have e1:0<=(eR b c-0)/L:=Int.ediv_nonneg (by have:=oM SP c;omega) (by omega);have e2:(eR b c-0)/L<=(eR b k-s.s.done)/L:=Int.ediv_le_ediv (by omega) (by omega);omega
def vE{b:Bk}{L:Int}(hL:oP b L):mu2 b L ⟨⟨0,0,true⟩,[]⟩<=1000000000:=by
 have h1:=hL.rest;have h2:=hL.na;have h3:=hL.nf;have h4:=hL.pos;have e:(eR b 0-0)/L<=32768:=by
  have:(eR b 0-0)/L<=(32768*L)/L:=Int.ediv_le_ediv (by omega) (by omega);rw[Int.mul_ediv_cancel _ (by omega)]at this;exact this
 have hw:(o6 b L ⟨⟨0,0,true⟩,[]⟩).toNat<=42768:=by
  unfold o6;simp only;have:(0:Int).toNat=0:=rfl;rw[this];omega
 unfold mu2;simp only[if_true,List.length_nil];have:(o6 b L ⟨⟨0,0,true⟩,[]⟩).toNat*(2*b.RA.length+3)<=42768*20003:=Nat.mul_le_mul hw (by omega);omega
open Go.Proofs Go.Proofs.Tryz
def ja(b:Bk)(s:Sy):Int:=uo b.L' (aW b s).1 s.s
def Wp(b:Bk):Nat->Sy->Int->List (Option UB)
 |0,_,_=>[]
 |f+1,s,no=>if da b s then[]else
  if 0<=ja b s/\(no+1)%2≠ja b s then none::some (aW b s).1::Wp b f (aW b s).2 (no+2)else some (aW b s).1::Wp b f (aW b s).2 (no+1)
def Vw:Option UB->V
 |none=>.iface 76 (.agg [])
 |some p=>.iface 74 (cE p)
structure ShJ(RZ e2 i2 i4 i6:Nat)(no:Int)(s:Sy)(ZJ U:ai):Prop where
 sub:aa ZJ U
 y:U i2=some ⟨e2,1,[.yl RZ]⟩
 n:U i4=some ⟨3,1,[vI no]⟩
 st:U i6=some ⟨45,4,[bX s]⟩
 n2:ZJ i2=none
 n4:ZJ i4=none
 n6:ZJ i6=none
 e24:i2≠i4
 e26:i2≠i6
 e46:i4≠i6
def ShJ.mono{RZ e2 i2 i4 i6:Nat}{no:Int}{s:Sy}{ZJ U J:ai}(h:ShJ RZ e2 i2 i4 i6 no s ZJ U)(hs:aa U J):ShJ RZ e2 i2 i4 i6 no s ZJ J:=
 ⟨h.sub.trans hs,hs _ _ h.y,hs _ _ h.n,hs _ _ h.st,h.n2,h.n4,h.n6,h.e24,h.e26,h.e46⟩
def ShJ.given{RZ e2 i2 i4 i6:Nat}{no:Int}{s:Sy}{ZJ U RX Z':ai}(h:ShJ RZ e2 i2 i4 i6 no s ZJ U)(hb:bh ZJ (C' U i4 ⟨3,1,[vI (no+1)]⟩) RX Z'):ShJ RZ e2 i2 i4 i6 (no+1) s RX Z':=by
 obtain⟨a1,a2⟩:=hb.2 i2 _ h.n2 (by rw[ab h.e24];exact h.y);obtain⟨b1,b2⟩:=hb.2 i4 _ h.n4 ag;obtain⟨c1,c2⟩:=hb.2 i6 _ h.n6 (by rw[ab h.e46.symm];exact h.st);exact⟨hb.1,a1,b1,c1,a2,b2,c2,h.e24,h.e26,h.e46⟩
def ShJ.next{RZ e2 i2 i4 i6:Nat}{no:Int}{s:Sy}{ZJ U WO:ai}{Sb:Nat}{o:Ob}(h:ShJ RZ e2 i2 i4 i6 no s ZJ U)(hs:aa (C' U i6 o) WO)(hf:C' U i6 o Sb=none)(t:Sy):
 ShJ RZ e2 i2 i4 Sb no t ZJ (C' WO Sb ⟨45,4,[bX t]⟩):=by
 have h1:=(h.sub.aE (o:=o) h.n6)
 have y':=hs _ _ ((ab h.e26 (o:=o)).trans h.y);have n':=hs _ _ ((ab h.e46 (o:=o)).trans h.n);have k2:i2≠Sb:=λe=>by rw[<-e,ab h.e26,h.y]at hf;cases hf
 have k4:i4≠Sb:=λe=>by rw[<-e,ab h.e46,h.n]at hf;cases hf
 have nn:ZJ Sb=none:=h1.none hf;exact⟨(h1.trans hs).aE nn,(ab k2).trans y',(ab k4).trans n',ag,h.n2,h.n4,nn,h.e24,k2,k4⟩
def Da{b:Bk}(hb:bP b){s:Sy}(hp:s.bM.length<=1000000)(he:¬da b s):(aW b s).2.bM.length<=1000000:=by
 have Sl:gA b s:=Decidable.byContradiction λh=>he (.inl h);have U6:=hb.Uz;have S1:0<=s.s.atom:=by rcases Sl.2 with h|h;exact h.1.1;omega
 unfold aW;split
 .have:(b.RA.dropWhile (qL (bY b s.s .aC).body)).length<=b.RA.length:=(List.dropWhile_sublist _).length_le;show(b.RA.dropWhile (qL (bY b s.s .aC).body)).length<=_;omega
 .split
  .show(dC (bf b s.s).body s.bM 0).2.1.length<=_;cases hpp:s.bM with
   |cons f r=>have:=pA (body:=(bf b s.s).body) f r;rw[hpp]at hp;simp only[List.length_cons]at this hp;omega
   |nil=>simp[dC]
  .rename_i hf;have hm:bZ b.atoms s.s:=Sl.2.resolve_right λh=>hf (.inl h.1);have:=(pB (x:=dk b s) hb.toBkOk hm hb.pos (iu hb.toBkFull s.s S1)).bM;show(eT b (dk b s)).bM.length<=_;omega
def wh(b:Bk)(hb:BkFull b):aV prog 54 [.rp (bt b)] (bC b.L'):=λU=>
 (Dr b hb U).GX λ_ _ h=>h.2.Et h.1 rfl
def zG(b:Bk)(hb:bP b){L:Int}(hL:oP b L):Iter prog 53 [.rp (.rp (bt b))] ((Wp b 1000000001 ⟨⟨0,0,true⟩,[]⟩ 0).map λx=>[Vw x]):=by
 refine⟨e53.c,λRZ τ Jx Z0 hy hJ=>?_⟩;refine(e53.r (by simp[c53]) ?_).2;have hs:=aa.refl Z0;have hmu:=vE hL;have SD:=hb.brk;have Up:=hb.len;have U6:=hb.Uz;have Uj:∀s:Sy,(bX s).cells=[vI s.s.atom,vI s.s.done,.bool s.s.free,aH s.bM]:=λ_=>rfl;have U2:∀s:Sy,(bX s).stays=true:=λ_=>rfl;have Uu:∀p:UB,(cE p).cells=[vI p.no,vI p.kind,bb p.hs,bb p.fs,bb p.ls]:=λ_=>rfl;have VS:∀p:UB,(cE p).stays=true:=λ_=>rfl;have ldB:∀U:ai,bT U false 1 (.rp (.rp (bt b)))=some (.rp (bt b)):=λU=>rfl;generalize hXS:(Wp b 1000000001 ⟨⟨0,0,true⟩,[]⟩ 0).map (λx=>[Vw x])=XS at*;refine ad.mix 8 ?_;apply sR;simp only[go_sem,seval,c53,ldB];refine af λi2 Z2 s2 a2 f2=>?_;have z2:=hs.none f2;replace hs:=hs.trans s2;simp only[go_sem,seval,ldB];refine ad.aB rfl rfl rfl (wh b hb.toBkFull _) ?_;apply sR;simp only[go_sem,seval,ldB,aJ,aI];refine af λi4 Z4 s4 a4 f4=>?_;have Yv:=aq a2 f4;replace a2:=s4 _ _ a2;have z4:=hs.none f4;replace hs:=hs.trans s4;simp only[go_sem,seval,a4,a2];generalize Tv:C' _ i4 _=Y4;replace a4:=(congrFun Tv i4).symm.trans ag;replace a2:=((congrFun Tv i2).symm.trans (ab Yv)).trans a2;replace hs:=Eq.subst (motive:=aa _) Tv (hs.aE z4);clear Tv;apply sR;simp only[go_sem,seval,ldB];refine ad.aB rfl rfl rfl (wb b hb.toBkFull _) ?_;apply sR;simp only[go_sem,seval];refine af λi6 Z6 s6 a6 f6=>?_;have Zu:=aq a4 f6;replace a4:=s6 _ _ a4;have n26:=aq a2 f6;replace a2:=s6 _ _ a2;have z6:=hs.none f6;replace hs:=hs.trans s6;simp only[go_sem,seval,a6,a4,a2,Uj,U2];generalize VT:C' _ i6 _=Y6;replace a6:=(congrFun VT i6).symm.trans ag;replace a4:=((congrFun VT i4).symm.trans (ab Zu)).trans a4;replace a2:=((congrFun VT i2).symm.trans (ab n26)).trans a2;replace hs:=Eq.subst (motive:=aa _) VT (hs.aE z6);clear VT;apply sR;simp only[go_sem,seval];have hJ0:ShJ RZ 140 i2 i4 i6 0 ⟨⟨0,0,true⟩,[]⟩ Z0 Y6:=⟨hs,a2,a4,a6,z2,z4,z6,Yv,n26,Zu⟩
 clear hs a2 a4 a6;generalize Y6=J at*;refine ad.loop (λm st=>∃(s:Sy) (no:Int) (pre:List (List V)) (ZJ:ai) (i6':Nat),mu2 b L s<m/\XS=pre++(Wp b m s no).map (λx=>[Vw x])/\τ pre ZJ/\
  ShJ RZ 140 i2 i4 i6' no s ZJ st.U/\st.s 0=.yl RZ/\st.s 1=.rp (.rp (bt b))/\st.s 3=bC b.L'/\st.s 4=.ptr i4 0 0/\st.s 5=.fn 55 [.ptr i4 0 0,.ptr i2 0 0]/\st.s 6=.ptr i6' 0 0/\
  0<=no/\no+2*m<=2000000002/\s.bM.length<=1000000) 1000000001 ?_ ?_
 .exact⟨⟨⟨0,0,true⟩,[]⟩,0,[],Z0,i6,by omega,by rw[List.nil_append,hXS],hJ,hJ0,rfl,rfl,rfl,rfl,rfl,rfl,by omega,by omega,by simp⟩
 clear hJ0 hJ;rintro m ⟨S,J⟩ ⟨s,no,pre,ZJ,i6,hm,hx,Tq,X2,t0,t1,t3,t4,t5,t6,hn0,hn1,hp⟩;simp only at X2 t0 t1 t3 t4 t5 t6;obtain⟨f,rfl⟩:∃f,m=f+1:=⟨m-1,by omega⟩
 have r6:=X2.st;refine ad.mix 8 ?_;apply sR;simp only[go_sem,seval,t0,t1,t3,t4,t5,t6,ldB,r6];refine ad.aB rfl rfl rfl (xL b hb.toBkFull s hp _) ?_;by_cases he:da b s
 .rw[decide_eq_true he];apply sR;simp only[go_sem,seval];rw[Wp,if_pos he,List.map_nil,List.append_nil]at hx;subst hx;exact⟨_,ZJ,X2.sub,Wk.refl X2.sub _,.inl Tq⟩
 rw[decide_eq_false he];apply sR;simp only[go_sem,seval,t0,t1,t3,t4,t5,t6,ldB,r6];refine ad.aB rfl rfl rfl (BP b hb.toBkFull hb.fh s hp _) ?_;rw[if_neg he];apply sR;simp only[go_sem,seval,t0,t1,t3,t4,t5,t6,ldB,r6];have hs:=aa.refl J;refine af λi7 Z7 s7 a7 f7=>?_;have z7:=hs.none f7;replace hs:=hs.trans s7;simp only[go_sem,seval];refine af λi8 Z8 s8 a8 f8=>?_;have XE:=aq a7 f8;replace a7:=s8 _ _ a7;have z8:=hs.none f8;replace hs:=hs.trans s8;simp only[go_sem,seval,a7,a8,Uu,VS];generalize Tu:C' _ i7 _=Y7;replace a7:=(congrFun Tu i7).symm.trans ag;replace a8:=((congrFun Tu i8).symm.trans (ab XE.symm)).trans a8;replace hs:=Eq.subst (motive:=aa _) Tu (hs.aE z7);clear Tu;simp only[go_sem,seval,a7,a8,Uj,U2];generalize SY:C' _ i8 _=Y8;replace a8:=(congrFun SY i8).symm.trans ag;replace a7:=((congrFun SY i7).symm.trans (ab XE)).trans a7;replace hs:=Eq.subst (motive:=aa _) SY (hs.aE z8);clear SY;have Ta:=X2.mono hs;have r6':=Ta.st;have r4:=Ta.n;have Sl:gA b s:=Decidable.byContradiction λh=>he (.inl h);have S1:0<=s.s.atom/\s.s.atom<b.L'.length:=by
  rcases Sl.2 with h|h
  .have:=h.1;omega
  .omega
 simp only[go_sem,seval,t0,t1,t3,t4,t5,t6,ldB,r6',a7,a8,Uu,VS,Uj,U2,aI,aJ];refine ad.aB rfl rfl rfl (HG b.L' (by omega) (aW b s).1 s.s S1.1 S1.2 _) ?_;rw[show uo b.L' (aW b s).1 s.s=ja b s from rfl];have hmn:=zk hb hL he;have hpn:=Da hb hp he;have r5:RM .i64 (no+1):=ao (by omega) (by omega);have m7:ZJ i7=none:=X2.sub.none z7;have m8:ZJ i8=none:=X2.sub.none z8;have d47:i7≠i4:=λe=>by have:=X2.n;rw[<-e,z7]at this;cases this
 have d48:i8≠i4:=λe=>by have:=X2.n;rw[<-e,z8]at this;cases this
 have htm:(no+1).tmod 2=(no+1)%2:=Int.tmod_eq_emod_of_nonneg (by omega);by_cases hw:0<=ja b s/\(no+1)%2≠ja b s
 .rw[Wp,if_neg he,if_pos hw]at hx;have q1:(ja b s>=0)=True:=eq_true hw.1;have q2:((no+1).tmod 2≠ja b s)=True:=eq_true (by rw[htm];exact hw.2);generalize ja b s=W at*;apply sR;simp only[go_sem,seval,t0,t1,t3,t4,t5,t6,r4,r5,q1,q2];refine ad.call rfl rfl rfl (xE (x:=.iface 76 (.agg [])) r5 Ta.n Ta.y Ta.e24.symm (hy pre _ _ ZJ _ hx Tq (Ta.sub.aE Ta.n4))) ?_;rintro _ Z8b ⟨b',rfl,ZJ8,SI,Sr⟩;have X6:=Ta.given SI;obtain⟨a7b,k7⟩:=SI.2 i7 _ m7 (by rw[ab d47];exact a7);obtain⟨a8b,k8⟩:=SI.2 i8 _ m8 (by rw[ab d48];exact a8);have r55:RM .i64 (no+1+1):=ao (by omega) (by omega);have UU:XS=(pre++[[Vw none]])++[.iface 74 (cE (aW b s).1)]::(Wp b f (aW b s).2 (no+1+1)).map (λx=>[Vw x]):=by
   rw[hx,show no+2=no+1+1 by omega];simp[Vw]
  rcases Sr with⟨rfl,Sr⟩|⟨rfl,Sr⟩
  .apply sR;simp only[go_sem,seval,t0,t1,t3,t4,t5,t6,a7b,Uu,VS];refine ad.call rfl rfl rfl (xE (x:=.iface 74 (cE (aW b s).1)) r55 X6.n X6.y X6.e24.symm (hy (pre++[[Vw none]]) _ _ ZJ8 _ UU Sr (X6.sub.aE X6.n4))) ?_;rintro _ Z9 ⟨b',rfl,ZJ9,SI,Sr⟩;have TA:=X6.given SI;obtain⟨a8',k8⟩:=SI.2 i8 _ k8 (by rw[ab d48];exact a8b);have r9:=TA.st;rcases Sr with⟨rfl,Sr⟩|⟨rfl,Sr⟩
   .apply sR;simp only[go_sem,seval,t0,t1,t3,t4,t5,t6,a8',r9,Uj,U2];refine af λSb WO TV Sg f10=>?_;simp only[go_sem,seval,Sg,Uj,U2];refine⟨f,by omega,(aW b s).2,(no+1)+1,(pre++[[Vw none]])++[[Vw (some (aW b s).1)]],ZJ9,Sb,by omega,?_,Sr,TA.next TV f10 _,?_⟩
    .rw[UU];simp[Vw]
    .simp[t0,t1,t3,t4,t5];exact⟨by omega,by omega,hpn⟩
   .apply sR;simp only[go_sem,seval];refine⟨_,ZJ9,TA.sub,Wk.refl TA.sub _,.inr ⟨_,?_,Sr⟩⟩;rw[UU];exact⟨(Wp b f (aW b s).2 ((no+1)+1)).map λx=>[Vw x],by simp⟩
  .apply sR;simp only[go_sem,seval];refine⟨_,ZJ8,X6.sub,Wk.refl X6.sub _,.inr ⟨_,?_,Sr⟩⟩;rw[hx];exact⟨(some (aW b s).1::Wp b f (aW b s).2 (no+2)).map λx=>[Vw x],by simp[Vw]⟩
 .rw[Wp,if_neg he,if_neg hw]at hx;have hq:(ja b s>=0)=False\/(ja b s>=0)=True/\((no+1).tmod 2≠ja b s)=False:=by
   by_cases h:ja b s>=0
   .exact .inr ⟨eq_true h,eq_false (λg=>hw ⟨h,by rw[<-htm];exact g⟩)⟩
   .exact .inl (eq_false h)
  generalize ja b s=W at*;have UU:XS=pre++[.iface 74 (cE (aW b s).1)]::(Wp b f (aW b s).2 (no+1)).map (λx=>[Vw x]):=hx;rcases hq with q1|⟨q1,q2⟩
  .apply sR;simp only[go_sem,seval,t0,t1,t3,t4,t5,t6,r4,r5,a7,Uu,VS,q1];refine ad.call rfl rfl rfl (xE (x:=.iface 74 (cE (aW b s).1)) r5 Ta.n Ta.y Ta.e24.symm (hy pre _ _ ZJ _ UU Tq (Ta.sub.aE Ta.n4))) ?_;rintro _ Z9 ⟨b',rfl,ZJ9,SI,Sr⟩;have TA:=Ta.given SI;obtain⟨a8',k8⟩:=SI.2 i8 _ m8 (by rw[ab d48];exact a8);have r9:=TA.st;rcases Sr with⟨rfl,Sr⟩|⟨rfl,Sr⟩
   .apply sR;simp only[go_sem,seval,t0,t1,t3,t4,t5,t6,a8',r9,Uj,U2];refine af λSb WO TV Sg f10=>?_;simp only[go_sem,seval,Sg,Uj,U2];refine⟨f,by omega,(aW b s).2,no+1,pre++[[Vw (some (aW b s).1)]],ZJ9,Sb,by omega,?_,Sr,TA.next TV f10 _,?_⟩
    .rw[UU];simp[Vw]
    .simp[t0,t1,t3,t4,t5];exact⟨by omega,by omega,hpn⟩
   .apply sR;simp only[go_sem,seval];refine⟨_,ZJ9,TA.sub,Wk.refl TA.sub _,.inr ⟨_,?_,Sr⟩⟩;rw[UU];exact⟨(Wp b f (aW b s).2 (no+1)).map λx=>[Vw x],by simp⟩
  .apply sR;simp only[go_sem,seval,t0,t1,t3,t4,t5,t6,r4,r5,a7,Uu,VS,q1,q2];refine ad.call rfl rfl rfl (xE (x:=.iface 74 (cE (aW b s).1)) r5 Ta.n Ta.y Ta.e24.symm (hy pre _ _ ZJ _ UU Tq (Ta.sub.aE Ta.n4))) ?_;rintro _ Z9 ⟨b',rfl,ZJ9,SI,Sr⟩;have TA:=Ta.given SI;obtain⟨a8',k8⟩:=SI.2 i8 _ m8 (by rw[ab d48];exact a8);have r9:=TA.st;rcases Sr with⟨rfl,Sr⟩|⟨rfl,Sr⟩
   .apply sR;simp only[go_sem,seval,t0,t1,t3,t4,t5,t6,a8',r9,Uj,U2];refine af λSb WO TV Sg f10=>?_;simp only[go_sem,seval,Sg,Uj,U2];refine⟨f,by omega,(aW b s).2,no+1,pre++[[Vw (some (aW b s).1)]],ZJ9,Sb,by omega,?_,Sr,TA.next TV f10 _,?_⟩
    .rw[UU];simp[Vw]
    .simp[t0,t1,t3,t4,t5];exact⟨by omega,by omega,hpn⟩
   .apply sR;simp only[go_sem,seval];refine⟨_,ZJ9,TA.sub,Wk.refl TA.sub _,.inr ⟨_,?_,Sr⟩⟩;rw[UU];exact⟨(Wp b f (aW b s).2 (no+1)).map λx=>[Vw x],by simp⟩
variable {P:Program} {n:Nat}
def Bv{o:Op}{xs:List VX}(h:R0 P n o=.more .pL xs):∃t,o=.alloc t/\nr P t=true:=by
 cases o
 case alloc t=>
  simp only[R0]at h;split at h
  .cases h
  .split at h
   .rename_i hn;exact⟨t,rfl,hn⟩
   .cases h
 case call c=>
  obtain⟨callee,args,argTypes⟩:=c;cases callee
  case builtin b=>cases b<;>simp only[R0]at h<;>(repeat' split at h)<;>cases h
  all_goals (simp only[R0]at h;cases h)
 case unOp op t x=>cases op<;>simp only[R0]at h<;>cases h
 case makeFunc f a b=>cases f<;>simp only[R0]at h<;>(repeat' split at h)<;>cases h
 case binOp op t x y yt=>cases op<;>simp only[R0,cN]at h<;>(repeat' split at h)<;>cases h
 all_goals (simp only[R0]at h;(repeat' split at h)<;>cases h)
def A4{o:Op}{xs:List VX}(h:R0 P n o=.more .qd xs):∃t x y,o=.store t x y/\nr P t=true/\xs=[cx n x,cx n y]:=by
 cases o
 case store t x y=>
  simp only[R0]at h;split at h
  .cases h
  .split at h
   .rename_i hn;simp only[RO.more.injEq,true_and]at h;exact⟨t,x,y,rfl,hn,h.symm⟩
   .cases h
 case call c=>
  obtain⟨callee,args,argTypes⟩:=c;cases callee
  case builtin b=>cases b<;>simp only[R0]at h<;>(repeat' split at h)<;>cases h
  all_goals (simp only[R0]at h;cases h)
 case unOp op t x=>cases op<;>simp only[R0]at h<;>cases h
 case makeFunc f a b=>cases f<;>simp only[R0]at h<;>(repeat' split at h)<;>cases h
 case binOp op t x y yt=>cases op<;>simp only[R0,cN]at h<;>(repeat' split at h)<;>cases h
 all_goals (simp only[R0]at h;(repeat' split at h)<;>cases h)
def ad.pL{st:St}{Q:St->Prop}{k:List It}{i:aN}{l:List aN}(hw:bu st.s i.g=some true)(ho:i.op=.more .pL [])
 (h:ad P n (.ops l::k) ⟨aX st.s i.dst (.rp (.agg [])),st.U⟩ Q):ad P n (.ops (i::l)::k) st Q:=by
 refine ad.ins (by rw[ho];simp) hw λF hn I a w o all hi hs next Q' RL=>?_
 subst hn;obtain⟨RH,hd⟩:=eF hi;rw[ho]at RH;obtain⟨t,g1,hn⟩:=Bv RH;have Sf:(execOp a.eval o).run P w=.ok (.value (.pointer (some ⟨w.heap.size,0,none⟩))) (w.alloc (.cells #[] t)):=by
  unfold execOp;rw[g1];simp[Instr.alloc,pF hn,newVar,newRow,Value.cells]
 unfold Oper.wp;rw[Sf];obtain⟨h1,hk⟩:=hs.sat.more (.cells #[] t);refine RL _ _ _ ⟨I,?_⟩ h;rw[<-hd];exact hs.step h1 (df.refl I) hk (by simp) (by simp only[E'];exact⟨w.heap.size,0,rfl,by simp,.inl rfl,by simp[bD,aU]⟩)
def ad.qd{st:St}{Q:St->Prop}{k:List It}{i:aN}{l:List aN}{xa xv:VX}{u:V}(hw:bu st.s i.g=some true)(ho:i.op=.more .qd [xa,xv])(ha:xa.ev st.s=.rp u)(hv:xv.ev st.s=.agg [])
 (h:ad P n (.ops l::k) ⟨aX st.s i.dst (.RB []),st.U⟩ Q):ad P n (.ops (i::l)::k) st Q:=by
 refine ad.ins (by rw[ho];simp) hw λF hn I a w o all hi hs next Q' RL=>?_
 subst hn;obtain⟨RH,hd⟩:=eF hi;rw[ho]at RH;obtain⟨t,x,y,g1,hn,g2⟩:=A4 RH;simp only[List.cons.injEq,and_true]at g2;obtain⟨rfl,rfl⟩:=g2;have R1:=cM hs x;have R2:=cM hs y;rw[ha]at R1;rw[hv]at R2;simp only[E']at R1 R2;obtain⟨b,off,e1,_⟩:=R1;obtain⟨RF,e2,e3,_⟩:=R2;simp only[aA]at e3;subst e3;obtain⟨ti,_,ZD,TF,_⟩:=mS hn;have Sf:(execOp a.eval o).run P w=.ok .skip w:=by
  unfold execOp;rw[g1];simp[Instr.storeAt,Instr.sureAddr,e1,e2,storeVar,sizeOf,typeInfo,ZD,TF,Value.cells,storeCells]
 unfold Oper.wp;rw[Sf];refine RL _ _ _ ⟨I,?_⟩ h;rw[<-hd];exact hs.pure (by simp[E',aA,undef])
open Go.Proofs Go.Proofs.Tryz
def EX(b:Bk):aV prog 24 [.rp (bt b)] (.fn 53 [.rp (.rp (bt b))]):=λU=>by
 refine e24.r (by simp[c24]) ?_;refine ad.mix 4 ?_;apply sR;simp only[go_sem,seval,c24];refine af λU4 Z1 s1 a1 f1=>?_;simp only[go_sem,seval];exact⟨_,U,s1,Wk.fn (vs':=[.rp (.rp (bt b))]) ⟨Wk.ptr s1 a1 f1,trivial⟩,rfl,rfl⟩
def pgN(k:Nat)(x:Option UB):UB:=match x with
 |none=>⟨(k:Int)+1,3,[],[],[]⟩
 |some p=>{ p with no:=(k:Int)+1 }
def AR(L:List (Option UB)):List UB:=(List.range L.length).map λk=>pgN k (L.getD k none)
def FC(L:List (Option UB)):(AR L).length=L.length:=by simp[AR]
def pgV(k:Nat)(x:Option UB):V:=match x with
 |none=>.agg [vI ((k:Int)+1),vI 3,.aC,.aC,.aC]
 |some p=>cE { p with no:=(k:Int)+1 }
def pP(L:List (Option UB)):List V:=(List.range L.length).map λk=>pgV k (L.getD k none)
def De(L:List (Option UB))(x:Option UB):pP (L++[x])=pP L++[pgV L.length x]:=by
 unfold pP;rw[List.length_append,List.length_singleton,List.range_succ,List.map_append];congr 1
 .refine List.map_congr_left λk hk=>?_;have:=List.mem_range.1 hk;rw[List.getD_eq_getElem?_getD,List.getD_eq_getElem?_getD,List.getElem?_append_left this]
 .simp
def GR(L:List (Option UB)):(pP L).length=L.length:=by simp[pP]
def xR(b:Bk):∀(f:Nat) (s:Sy) (no:Int),(Wp b f s no).length<=2*f
 |0,_,_=>by simp[Wp]
 |f+1,s,no=>by
  rw[Wp];split
  .simp
  .split
   .have:=xR b f (aW b s).2 (no+2);simp only[List.length_cons];omega
   .have:=xR b f (aW b s).2 (no+1);simp only[List.length_cons];omega
def lT(b:Bk):List UB:=if(b.atoms.length:Int)+b.RA.length=0 then[⟨1,3,[],[],[]⟩]else AR (Wp b 1000000001 ⟨⟨0,0,true⟩,[]⟩ 0)
open Go.Proofs Go.Proofs.Tryz
def bh.N6{ZJ U RX Z':ai}(h:bh ZJ U RX Z'){id:Nat}{o:Ob}(hn:U id=none)(hj:RX id=none):bh ZJ U RX (C' Z' id o):=
 ⟨h.1.aE hj,λi x h1 h2=>by
  obtain⟨h3,h4⟩:=h.2 i x h1 h2;have:i≠id:=λe=>by rw[e,hn]at h2;cases h2
  simp[Vc.C',this,h3,h4]⟩
def TK.maps{α:Type}{U:ai}{N:Nat->Prop}{f g:α->V}:∀{l:List α},(∀a∈l,Fz U N (f a) (g a))->TK U N (l.map f) (l.map g)
 |[],_=>.nil
 |a::l,h=>.cons _ _ _ _ (h a (by simp)) (TK.maps λx hx=>h x (by simp[hx]))
def zW(p:UB):(cE p).eM=true:=by
 have h:∀l:List Tp,(bb l).eM=true:=λl=>my (f:=bo) (λ_=>rfl) l;show gl [vI p.no,vI p.kind,bb p.hs,bb p.fs,bb p.ls]=true;simp only[gl,h];rfl
def He{U:ai}{N:Nat->Prop}(L:List (Option UB)):TK U N (pP L) ((AR L).map cE):=by
 unfold pP AR;rw[List.map_map];refine TK.maps λk _=>?_;simp only[Function.comp];cases L.getD k none with
 |none=>exact .agg _ _ (.cons _ _ _ _ (.same _ rfl) (.cons _ _ _ _ (.same _ rfl) (.cons _ _ _ _ (.nil 7) (.cons _ _ _ _ (.nil 7) (.cons _ _ _ _ (.nil 7) .nil)))))
 |some p=>exact .same _ (zW _)
def aT.PJ{K U:ai}{N:Nat->Prop}{e sz:Nat}{v:V}{rows Rz:List V}(h:aT K U e sz v rows)(hN:∀id,K id=none->N id)(hr:TK U N rows Rz):Fz U N v (.sl sz Rz):=by
 rcases h with⟨rfl,rfl⟩|⟨id,rfl,ho,hk⟩
 .cases hr;exact .nil sz
 .exact .own id 0 rows.length ⟨e,sz,rows⟩ Rz ho (hN id hk) (by simp) (by rw[List.drop_zero,List.take_length];exact hr)
def mC(L:List UB):V:=.sl 5 (L.map cE)
def DL(l:List Nd)(hl:dH l)(w h:Int):
 aV prog 9 [aK l,vI w,vI h] (if ec l w h=0 then .RB [mC (lT (bc l w h)),vI 0]else .RB [.aC,vI (ec l w h)]):=λU=>by
 refine e9.r (by simp[c9]) ?_;have hs:=aa.refl U;refine ad.mix 8 ?_;apply sR;simp only[go_sem,seval,c9];refine ad.aB rfl rfl rfl (IJ l hl w h _) ?_;by_cases he:ec l w h=0
 .have hb:=gj hl he;have hL:=sD he;rw[Bf,if_pos he,if_pos he,he];generalize bc l w h=b at*;generalize gX l h=L at*;have q1:((0:Int)≠0)=False:=eq_false (λh=>h rfl);apply sR;simp only[go_sem,seval,q1];refine af λSb WO TV Sg f10=>?_;have Vr:=hs.none f10;replace hs:=hs.trans TV;simp only[go_sem,seval,Sg];refine ad.aB rfl rfl rfl (EX b _) ?_;apply sR;simp only[go_sem,seval];generalize hS:mix 8 _ _=S;have S8:S 8=.rp (bt b):=by rw[<-hS];rfl
  have S10:S 10=.ptr Sb 0 0:=by rw[<-hS];rfl
  have S27:S 27=.fn 53 [.rp (.rp (bt b))]:=by rw[<-hS];rfl
  clear hS;have WM:=zG b hb hL;have hSl:=xR b 1000000001 ⟨⟨0,0,true⟩,[]⟩ 0;have hPR:lT b=if(b.atoms.length:Int)+b.RA.length=0 then[⟨1,3,[],[],[]⟩]else AR (Wp b 1000000001 ⟨⟨0,0,true⟩,[]⟩ 0):=rfl
  generalize lT b=PR at*;generalize Wp b 1000000001 ⟨⟨0,0,true⟩,[]⟩ 0=SH at*;refine ad.cX (g:=.t 27) (caps:=[.rp (.rp (bt b))]) S27 WM (λx hx=>?_) [] (λpre ZJ=>∃v,ZJ Sb=some ⟨23,1,[v]⟩/\aa U ZJ/\aT (bg U Sb) ZJ 37 5 v (pP (SH.take pre.length)))
   (λ_ _ _=>False) ?_ ?_ ?_ ?_ ?_
  .obtain⟨t,_,rfl⟩:=List.mem_map.1 hx;rfl
  .exact⟨.aC,Sg,TV,by simpa[pP]using aT.start⟩
  .rintro pre x post ZJ ZB Ub ⟨v,J10,Js,Jo⟩ G';obtain⟨t,ZD,rfl⟩:=oD (f:=Vw) Ub;have VK:pre.length<SH.length:=(List.getElem?_eq_some_iff.1 ZD).1;have hlen:(pre++[[Vw t]]).length=pre.length+1:=by simp
   have SB:pP (SH.take (pre.length+1))=pP (SH.take pre.length)++[pgV pre.length t]:=by
    rw[List.take_add_one,ZD,Option.toList_some,De,List.length_take,Nat.min_eq_left (by omega)]
   rw[hlen,SB];have Vb:(pP (SH.take pre.length)).length=pre.length:=by rw[GR,List.length_take];omega
   have Ve:=Jo.vc.1;have hvs:=Jo.vc.2;have hvl:=Jo.len;rw[Vb]at hvl;generalize Se:pP (SH.take pre.length)=rows at*;have Yc:=G' _ _ J10;generalize TD:mj S [28] [Vw t]=S0;have W8:S0 10=.ptr Sb 0 0:=by rw[<-TD];exact S10
   have T28:S0 28=Vw t:=by rw[<-TD];rfl
   clear TD;refine ad.mix 12 ?_;apply sR;simp only[go_sem,seval,W8,T28];apply sR;simp only[go_sem,seval,W8,T28];rw[aO];intro Ti f12;have m12:Sb≠Ti:=aq Yc f12;have r1:RM .i64 ((pre.length:Int)+1):=ao (by omega) (by omega);have Uu:∀p:UB,(cE p).cells=[vI p.no,vI p.kind,bb p.hs,bb p.fs,bb p.ls]:=λ_=>rfl;have Vv:∀l:List Tp,(bb l).cells=[bb l]:=λ_=>rfl;have TH:∀l:List Tp,(bb l).stays=true:=λ_=>rfl;have VS:∀p:UB,(cE p).stays=true:=λ_=>rfl;have Vn:=(bh.refl G').pN (o:=⟨37,5,[.agg [vI 0,vI 3,.aC,.aC,.aC]]⟩) f12;have y10:C' ZB Ti ⟨37,5,[.agg [vI 0,vI 3,.aC,.aC,.aC]]⟩ Sb=some ⟨23,1,[v]⟩:=by rw[ab m12];exact Yc
   have a12:C' ZB Ti ⟨37,5,[.agg [vI 0,vI 3,.aC,.aC,.aC]]⟩ Ti=some ⟨37,5,[.agg [vI 0,vI 3,.aC,.aC,.aC]]⟩:=ag;have Sx:(rows.length+1)*89<=140737488355328:=by omega
   have k2:bg U Sb Sb≠none:=λh=>(aM.1 h).1 rfl;have n12:ZJ Ti=none:=G'.none f12;cases t with
   |none=>
    simp only[go_sem,seval,W8,T28,Vw,GM];generalize C' ZB Ti ⟨37,5,[.agg [vI 0,vI 3,.aC,.aC,.aC]]⟩=X' at*;refine ad.pL rfl rfl ?_;refine ad.qd (u:=.agg []) rfl rfl rfl rfl ?_;apply sR;simp only[go_sem,seval,W8,y10,a12,Ve,hvs,hvl,r1,ab m12,ab m12.symm,Uu,VS];rw[aO];intro i45 f45;have y2:C' X' Ti (⟨37,5,[.agg [vI ((pre.length:Int)+1),vI 3,.aC,.aC,.aC]]⟩:Ob) Sb=some ⟨23,1,[v]⟩:=by rw[ab m12];exact y10
    have hB2:bh ZJ ZB ZJ (C' X' Ti (⟨37,5,[.agg [vI ((pre.length:Int)+1),vI 3,.aC,.aC,.aC]]⟩:Ob)):=Vn.N6 f12 n12;generalize C' X' Ti (⟨37,5,[.agg [vI ((pre.length:Int)+1),vI 3,.aC,.aC,.aC]]⟩:Ob)=Y2 at*;have hB3:=hB2.pN (o:=(⟨37,5,[.agg [vI ((pre.length:Int)+1),vI 3,.aC,.aC,.aC]]⟩:Ob)) f45;have y3:C' Y2 i45 (⟨37,5,[.agg [vI ((pre.length:Int)+1),vI 3,.aC,.aC,.aC]]⟩:Ob) Sb=some ⟨23,1,[v]⟩:=by rw[ab (aq y2 f45)];exact y2
    have a45:C' Y2 i45 (⟨37,5,[.agg [vI ((pre.length:Int)+1),vI 3,.aC,.aC,.aC]]⟩:Ob) i45=some (⟨37,5,[.agg [vI ((pre.length:Int)+1),vI 3,.aC,.aC,.aC]]⟩:Ob):=ag;generalize C' Y2 i45 (⟨37,5,[.agg [vI ((pre.length:Int)+1),vI 3,.aC,.aC,.aC]]⟩:Ob)=X3 at*;obtain⟨RN,Th,VD⟩:=Jo.DQ hB3.1;have U0:∀(i:Nat) (Zx:ai),bg U Sb i≠none->Vc.bK Zx RN i=Zx i:=λi Zx hk=>by
     cases RN with
     |none=>rfl
     |some a=>exact dK (λe=>hk (by rw[e];exact(VD a rfl).1))
    simp only[go_sem,seval,Th,dT a45,Sx,W8];rw[aO];intro Ur f46;have f46:X3 Ur=none:=f46;have m46:Sb≠Ur:=aq y3 f46;have f46':Vc.bK X3 RN Ur=none:=by
     cases RN with
     |none=>exact f46
     |some a=>simp only[Vc.bK,del];split<;>first|rfl|exact f46
    have y4:C' (Vc.bK X3 RN) Ur ⟨37,5,rows++[.agg [vI ((pre.length:Int)+1),vI 3,.aC,.aC,.aC]]⟩ Sb=some ⟨23,1,[v]⟩:=by rw[ab m46,U0 _ _ k2];exact y3
    have hB9:=((hB3.Eb (e:=RN) λi h=>(VD i h).2).new (o:=⟨37,5,rows++[.agg [vI ((pre.length:Int)+1),vI 3,.aC,.aC,.aC]]⟩) f46').set (id:=Sb) (o:=⟨23,1,[v]⟩) (o':=⟨23,1,[.own Ur 0 (rows.length+1)]⟩) (by rw[ab m46,U0 _ _ k2];exact J10);simp only[go_sem,seval,Ve,y4,W8];refine⟨_,hB9,.own Ur 0 (rows.length+1),ag,?_,?_⟩
    .refine aa.aE (λi o h=>?_) Vr;have h1:=Js _ _ h;rw[ab (aq (hB3.1 _ _ h1) f46),U0 _ _ (λhk=>by rw[(aM.1 hk).2]at h;cases h)];exact h1
    .refine aT.new (by simp) (by rw[ab m46.symm,ag];rfl) ?_;rw[aM];refine⟨m46.symm,?_⟩;cases h:U Ur with
     |none=>rfl
     |some o=>rw[hB3.1 _ _ (Js _ _ h)]at f46;cases f46
   |some p=>
    simp only[go_sem,seval,W8,T28,Vw,GM];generalize C' ZB Ti ⟨37,5,[.agg [vI 0,vI 3,.aC,.aC,.aC]]⟩=J at*;rw[aO];intro W9 f13;have m13:Ti≠W9:=aq a12 f13;have VN:Sb≠W9:=aq y10 f13;have Vn:=Vn.pN (o:=⟨74,5,[cE p]⟩) f13;have y10:C' J W9 ⟨74,5,[cE p]⟩ Sb=some ⟨23,1,[v]⟩:=by rw[ab VN];exact y10
    have a12:C' J W9 ⟨74,5,[cE p]⟩ Ti=some ⟨37,5,[.agg [vI 0,vI 3,.aC,.aC,.aC]]⟩:=by rw[ab m13];exact a12
    have TY:C' J W9 ⟨74,5,[cE p]⟩ W9=some ⟨74,5,[cE p]⟩:=ag;simp only[go_sem,seval,Uu,VS];generalize C' J W9 ⟨74,5,[cE p]⟩=X' at*;simp only[go_sem,seval,W8,y10,a12,TY,Ve,hvs,hvl,r1,ab m12,ab m12.symm,Uu,VS,Vv,TH];rw[aO];intro i45 f45;have y2:C' X' Ti (⟨37,5,[.agg [vI ((pre.length:Int)+1),vI p.kind,bb p.hs,bb p.fs,bb p.ls]]⟩:Ob) Sb=some ⟨23,1,[v]⟩:=by rw[ab m12];exact y10
    have hB2:bh ZJ ZB ZJ (C' X' Ti (⟨37,5,[.agg [vI ((pre.length:Int)+1),vI p.kind,bb p.hs,bb p.fs,bb p.ls]]⟩:Ob)):=Vn.N6 f12 n12;generalize C' X' Ti (⟨37,5,[.agg [vI ((pre.length:Int)+1),vI p.kind,bb p.hs,bb p.fs,bb p.ls]]⟩:Ob)=Y2 at*;have hB3:=hB2.pN (o:=(⟨37,5,[.agg [vI ((pre.length:Int)+1),vI p.kind,bb p.hs,bb p.fs,bb p.ls]]⟩:Ob)) f45;have y3:C' Y2 i45 (⟨37,5,[.agg [vI ((pre.length:Int)+1),vI p.kind,bb p.hs,bb p.fs,bb p.ls]]⟩:Ob) Sb=some ⟨23,1,[v]⟩:=by rw[ab (aq y2 f45)];exact y2
    have a45:C' Y2 i45 (⟨37,5,[.agg [vI ((pre.length:Int)+1),vI p.kind,bb p.hs,bb p.fs,bb p.ls]]⟩:Ob) i45=some (⟨37,5,[.agg [vI ((pre.length:Int)+1),vI p.kind,bb p.hs,bb p.fs,bb p.ls]]⟩:Ob):=ag;generalize C' Y2 i45 (⟨37,5,[.agg [vI ((pre.length:Int)+1),vI p.kind,bb p.hs,bb p.fs,bb p.ls]]⟩:Ob)=X3 at*;obtain⟨RN,Th,VD⟩:=Jo.DQ hB3.1;have U0:∀(i:Nat) (Zx:ai),bg U Sb i≠none->Vc.bK Zx RN i=Zx i:=λi Zx hk=>by
     cases RN with
     |none=>rfl
     |some a=>exact dK (λe=>hk (by rw[e];exact(VD a rfl).1))
    simp only[go_sem,seval,Th,dT a45,Sx,W8];rw[aO];intro Ur f46;have f46:X3 Ur=none:=f46;have m46:Sb≠Ur:=aq y3 f46;have f46':Vc.bK X3 RN Ur=none:=by
     cases RN with
     |none=>exact f46
     |some a=>simp only[Vc.bK,del];split<;>first|rfl|exact f46
    have y4:C' (Vc.bK X3 RN) Ur ⟨37,5,rows++[.agg [vI ((pre.length:Int)+1),vI p.kind,bb p.hs,bb p.fs,bb p.ls]]⟩ Sb=some ⟨23,1,[v]⟩:=by rw[ab m46,U0 _ _ k2];exact y3
    have hB9:=((hB3.Eb (e:=RN) λi h=>(VD i h).2).new (o:=⟨37,5,rows++[.agg [vI ((pre.length:Int)+1),vI p.kind,bb p.hs,bb p.fs,bb p.ls]]⟩) f46').set (id:=Sb) (o:=⟨23,1,[v]⟩) (o':=⟨23,1,[.own Ur 0 (rows.length+1)]⟩) (by rw[ab m46,U0 _ _ k2];exact J10);simp only[go_sem,seval,Ve,y4,W8];refine⟨_,hB9,.own Ur 0 (rows.length+1),ag,?_,?_⟩
    .refine aa.aE (λi o h=>?_) Vr;have h1:=Js _ _ h;rw[ab (aq (hB3.1 _ _ h1) f46),U0 _ _ (λhk=>by rw[(aM.1 hk).2]at h;cases h)];exact h1
    .refine aT.new (by simp) (by rw[ab m46.symm,ag];rfl) ?_;rw[aM];refine⟨m46.symm,?_⟩;cases h:U Ur with
     |none=>rfl
     |some o=>rw[hB3.1 _ _ (Js _ _ h)]at f46;cases f46
  .rintro Z' ⟨v,Sg,hs,Jo⟩;rw[List.length_map,List.take_length]at Jo;have Ve:=Jo.vc.1;have hvs:=Jo.vc.2;have UH:=gC b.atoms;have Xm:=gi b.RA;have U6:=hb.Uz;have Up:=hb.len;have rr:RM .i64 ((b.atoms.length:Int)+b.RA.length):=ao (by omega) (by omega);refine ad.mix 12 ?_;apply sR;simp only[go_sem,seval,S8,S10];refine ad.aB rfl rfl rfl (wx b hb.toBkFull _) ?_;apply sR;simp only[go_sem,seval,S8,S10,xi];have hK:aa U Z':=hs;have hs:=aa.refl Z';refine af λZw Y15 s15 Xj f15=>?_;have n1015:=aq Sg f15;replace Sg:=s15 _ _ Sg;have z15:=hs.none f15;replace hs:=hs.trans s15;simp only[go_sem,seval,Xj,Sg,S10,ak,al,au,ar];generalize Ux:C' _ Zw _=Z15;replace Xj:=(congrFun Ux Zw).symm.trans ag;replace Sg:=((congrFun Ux Sb).symm.trans (ab n1015)).trans Sg;replace hs:=Eq.subst (motive:=aa _) Ux (hs.aE z15);clear Ux;by_cases hz:(b.atoms.length:Int)+b.RA.length=0
   .have qz:((b.atoms.length:Int)+b.RA.length=0)=True:=eq_true hz;rw[if_pos hz]at hPR;simp only[go_sem,seval,Xj,Sg,S10,UH,Xm,rr,qz,ak,al,au,ar];have a10':=Sg;refine af λi58 Z58 s58 a58 f58=>?_;have n1058:=aq Sg f58;replace Sg:=s58 _ _ Sg;have z58:=hs.none f58;replace hs:=hs.trans s58;simp only[go_sem,seval,a58,Sg,S10,Ve,hvs];rw[hPR];have hs3:=(hK.trans hs).aE (id:=Sb) (o:=⟨23,1,[.own i58 0 1]⟩) Vr;have m58:Sb≠i58:=aq a10' f58;have hf:Fz (C' Z58 Sb ⟨23,1,[.own i58 0 1]⟩) (λid=>U id=none) (.RB [.own i58 0 1,vI 0]) (.RB [mC [⟨1,3,[],[],[]⟩],vI 0]):=
     .RB _ _ (.cons _ _ _ _ (.own i58 0 1 ⟨37,5,[.agg [vI 1,vI 3,.aC,.aC,.aC]]⟩ _ ((ab m58.symm).trans a58) (hK.none z58) (by simp) (TK.one (.agg _ _ (.cons _ _ _ _ (.same _ rfl) (.cons _ _ _ _ (.same _ rfl) (.cons _ _ _ _ (.nil 7) (.cons _ _ _ _ (.nil 7) (.cons _ _ _ _ (.nil 7) .nil)))))))) (TK.same [vI 0] rfl))
    exact⟨_,U,hs3,hf.wk hs3 (λ_ h=>h),rfl,rfl⟩
   .have qz:((b.atoms.length:Int)+b.RA.length=0)=False:=eq_false hz;rw[if_neg hz]at hPR;simp only[go_sem,seval,Xj,Sg,S10,UH,Xm,rr,qz,Ve,hvs,ak,al,au,ar];rw[hPR];have hf:Fz Z15 (λid=>U id=none) (.RB [v,vI 0]) (.RB [mC (AR SH),vI 0]):=
     .RB _ _ (.cons _ _ _ _ ((Jo.mono hs).PJ (λid h=>(aM.1 h).2) (He SH)) (TK.same [vI 0] rfl))
    exact⟨_,U,hK.trans hs,hf.wk (hK.trans hs) (λ_ h=>h),rfl,rfl⟩
  .intro id h;cases h
  .rintro pre Z' _ ⟨⟩
 .have q1:(ec l w h≠0)=True:=eq_true he;rw[if_neg he];apply sR;simp only[go_sem,seval,q1];exact ay.pure hs rfl
def ZN(l:List Sk):Int->Int->List Tp->Option (Int×Int)
 |a,d,[]=>some (a,d)
 |a,d,x::r=>
  if(0<=a/\a<l.length)/\x.atom=a/\x.node=(SM l a).node/\x.fr=d/\1<=x.h/\x.w=(SM l a).w/\x.x=(SM l a).x/\d+x.h<=(SM l a).h then
   (if d+x.h=(SM l a).h then ZN l (a+1) 0 r else if r=[]then some (a,d+x.h)else none)
  else none
def zb{b:Bk}(hb:bP b)(F:Int->Tp)(hF:∀k (h:k<b.atoms.length),F k=⟨b.atoms[k].node,k,0,b.atoms[k].x,(F k).y,b.atoms[k].w,b.atoms[k].h⟩):
 ∀(m k:Nat),k+m<=b.atoms.length->ZN b.atoms k 0 ((List.range m).map λi:Nat=>F ((k:Int)+i))=some (((k+m:Nat):Int),0)
 |0,k,_=>by simp[ZN]
 |m+1,k,h=>by
  have hk:k<b.atoms.length:=by omega
  have hp:=hb.pos _ (List.getElem_mem hk);rw[List.range_succ_eq_map,List.map_cons,List.map_map];have e:=hF k hk;have e0:F ((k:Int)+((0:Nat):Int))=F k:=by simp
  have ih:=zb hb F hF m (k+1) (by omega);rw[e0,ZN,bz hk,e];simp only;rw[if_pos ⟨⟨by omega,by omega⟩,trivial,trivial,trivial,hp,trivial,trivial,by omega⟩,if_pos (by omega)];have e1:((k:Int)+1)=((k+1:Nat):Int):=by omega
  have e2:((λi:Nat=>F ((k:Int)+i))∘Nat.succ)=λi:Nat=>F (((k+1:Nat):Int)+i):=by
   funext i;simp only[Function.comp];congr 1;omega
  rw[e1,e2,ih];congr 2;omega
def zQ{b:Bk}(hb:bP b){s:Sn}(hm:bZ b.atoms s){kept shift high:Int}{c:Nat}(h1:s.atom<c)(h2:c<=b.atoms.length):
 ZN b.atoms s.atom s.done ((List.range (c-s.atom.toNat)).map λi:Nat=>cD high (cT b.atoms s kept shift (s.atom+(i:Nat))))=some ((c:Int),0):=by
 have Wj:=hm;obtain⟨⟨h3,h4⟩,h5,h6⟩:=hm;obtain⟨a,ha⟩:∃a:Nat,s.atom=a:=⟨s.atom.toNat,by omega⟩
 have Up:a<b.atoms.length:=by omega
 rw[ha,bz Up]at h6;have hp:=hb.pos _ (List.getElem_mem Up);obtain⟨m,hmm⟩:∃m,c-s.atom.toNat=m+1:=⟨c-s.atom.toNat-1,by omega⟩
 rw[hmm,List.range_succ_eq_map,List.map_cons,List.map_map];have e0:cD high (cT b.atoms s kept shift (s.atom+((0:Nat):Int)))=⟨b.atoms[a].node,a,s.done,b.atoms[a].x,dr b.atoms s kept shift a+s.done+high,b.atoms[a].w,b.atoms[a].h-s.done⟩:=by
  have:s.atom+((0:Nat):Int)=a:=by omega
  rw[this,cT,if_pos ⟨Wj,by omega,by omega⟩,if_pos (by omega)];simp only[cD,Tp.bS,jA,fp,bz Up]
 let F:Int->Tp:=λk=>if k=s.atom then⟨b.atoms[a].node,k,0,b.atoms[a].x,0,b.atoms[a].w,b.atoms[a].h⟩else if s.atom<k then cD high (cT b.atoms s kept shift k)else⟨(SM b.atoms k).node,k,0,(SM b.atoms k).x,0,(SM b.atoms k).w,(SM b.atoms k).h⟩
 have hF:∀k (h:k<b.atoms.length),F k=⟨b.atoms[k].node,k,0,b.atoms[k].x,(F k).y,b.atoms[k].w,b.atoms[k].h⟩:=λk h=>by
  by_cases e:(k:Int)=s.atom
  .obtain rfl:k=a:=by omega
   simp only[F,if_pos e]
  .by_cases e2:s.atom<k
   .simp only[F,if_neg e,if_pos e2];rw[cT,if_pos ⟨Wj,by omega,by omega⟩,if_neg e];simp only[cD,jA,fp,bz h]
   .simp only[F,if_neg e,if_neg e2,bz h]
 have hr:=zb hb F hF m (a+1) (by omega);rw[e0,ZN,ha,bz Up];simp only;rw[if_pos ⟨⟨by omega,by omega⟩,trivial,trivial,trivial,by omega,trivial,trivial,by omega⟩,if_pos (by omega)];have e1:((a:Int)+1)=((a+1:Nat):Int):=by omega
 have e2:(List.range m).map ((λi:Nat=>cD high (cT b.atoms s kept shift ((a:Int)+(i:Nat))))∘Nat.succ)=(List.range m).map λi:Nat=>F (((a+1:Nat):Int)+i):=by
  refine List.map_congr_left λi _=>?_;have:((a:Int)+((Nat.succ i:Nat):Int))=((a+1:Nat):Int)+i:=by omega
  simp only[Function.comp,this];simp only[F];rw[if_neg (by omega),if_pos (by omega)]
 rw[e1,e2,hr];congr 2;omega
def Bx{b:Bk}(hb:bP b){s:Sy}(he:¬da b s):ZN b.atoms s.s.atom s.s.done (aW b s).1.fs=some ((aW b s).2.s.atom,(aW b s).2.s.done):=by
 have Sl:gA b s:=Decidable.byContradiction λh=>he (.inl h);have S1:0<=s.s.atom:=by rcases Sl.2 with h|h;exact h.1.1;omega
 have hg:=iH hb he;revert hg;unfold aW;split
 .rename_i h0;intro _;have hn:s.s.atom=0/\s.s.done=0:=by
   rcases Sl.2 with h|h
   .have:=h.1;rw[h0.1]at this;simp at this;omega
   .rw[h0.1]at h;simpa using h
  show ZN b.atoms s.s.atom s.s.done []=_;rw[ZN,hn.1,hn.2];rfl
 .split
  .intro _;rfl
  .rename_i hf;intro hg;have hm:bZ b.atoms s.s:=Sl.2.resolve_right λh=>hf (.inl h.1);have hkind:(jS (eu b (dk b s))).kind=1:=(ke b (dk b s)).2;obtain⟨-,g1,g2,hcg⟩:=hg.cut hkind;change ZN b.atoms s.s.atom s.s.done (eu b (dk b s)).fs=some ((eT b (dk b s)).s.atom,(eT b (dk b s)).s.done);change rK b s.s (eT b (dk b s)).s (eu b (dk b s)).fs _ _ at hcg;have W3:cG b (dk b s)<=b.atoms.length:=pE;have SD:=hb.brk;unfold eu eT at hcg|-;by_cases RC:eO b.L' (dk b s).s.atom (cG b (dk b s))
   .rw[if_pos RC,if_pos RC];obtain⟨c,c1,c2,c3⟩:=su RC (by omega);rw[show p7 b (dk b s)=c from c1,Int.toNat_natCast];have c2':s.s.atom<c:=c2;exact zQ hb hm c2' (by omega)
   .rw[if_neg RC,if_neg RC]at hcg|-;have hso:ku b.atoms s.s (bf b s.s).body:=⟨hm,iu hb.toBkFull s.s S1⟩
    obtain⟨⟨h3,h4⟩,h5,h6⟩:=hm;obtain⟨a,ha⟩:∃a:Nat,s.s.atom=a:=⟨s.s.atom.toNat,by omega⟩
    have Up:a<b.atoms.length:=by omega
    have hp:=hb.pos _ (List.getElem_mem Up);have hbd:=iu hb.toBkFull s.s S1;have WH:SM b.atoms s.s.atom=b.atoms[a]:=by rw[ha,bz Up]
    show ZN b.atoms s.s.atom s.s.done [cD (bf b s.s).high (ij b.atoms s.s (bf b s.s).body)]=some ((ew b.atoms s.s (bf b s.s).body).atom,(ew b.atoms s.s (bf b s.s).body).done);rw[ij,if_pos hso,ew,if_pos hso,dR,jh];simp only[ZN,cD,Tp.cut,Tp.bS,fp,WH];rw[WH]at h6;rw[if_pos ⟨⟨h3,h4⟩,trivial,trivial,trivial,by omega,trivial,trivial,by omega⟩];by_cases e:s.s.done+min (b.atoms[a].h-s.s.done) (bf b s.s).body=b.atoms[a].h
    .have H':¬(s.s.done+min (b.atoms[a].h-s.s.done) (bf b s.s).body<b.atoms[a].h):=by omega
     rw[if_pos e,if_neg H']
    .have H':s.s.done+min (b.atoms[a].h-s.s.done) (bf b s.s).body<b.atoms[a].h:=by omega
     rw[if_neg e,if_pos H'];simp
def zt{x:P'}{r:List P'}:∀(p:List P') (i:Nat),(x::r).Sublist p->∃k:Nat,kD x p i=((i+k:Nat):Int)/\r.Sublist (p.drop (k+1))
 |[],i,h=>by cases h
 |q::p,i,h=>by
  rw[kD];by_cases e:x=q
  .subst e;rw[if_pos rfl];exact⟨0,rfl,List.cons_sublist_cons.1 h⟩
  .rw[if_neg e];have h':(x::r).Sublist p:=by
    cases h with
    |cons _ h=>exact h
    |cons_cons _ h=>exact absurd rfl e
   obtain⟨k,h1,h2⟩:=zt p (i+1) h';exact⟨k+1,by rw[h1];congr 1;omega,by simpa using h2⟩
def zN{RA:List P'}:∀(p:List P') (RY:Nat),p.Sublist (RA.drop RY)->lA RA p RY=true
 |[],RY,_=>rfl
 |x::r,RY,h=>by
  obtain⟨k,h1,h2⟩:=zt _ 0 h;rw[Nat.zero_add]at h1;rw[lA,h1,if_neg (by omega),Int.toNat_natCast];refine zN r _ ?_;rw[List.drop_drop]at h2;rw[show RY+k+1=RY+(k+1) by omega];exact h2
def Az{x:P'}:∀(p:List P') (i k:Nat),kD x p i=((i+k:Nat):Int)->p[k]?=some x
 |[],i,k,h=>by simp[kD]at h;omega
 |q::p,i,k,h=>by
  rw[kD]at h;split at h
  .rename_i e;obtain rfl:k=0:=by omega
   simp[e]
  .rcases oX x p (i+1)with h2|⟨m,h2,_⟩
   .rw[h2]at h;omega
   .have hk:k=m+1:=by rw[h2]at h;omega
    subst hk;rw[List.getElem?_cons_succ];exact Az p (i+1) m h2
def tk{RA:List P'}:∀(p:List P') (RY:Nat),lA RA p RY=true->p.Sublist (RA.drop RY)
 |[],RY,_=>List.nil_sublist _
 |x::r,RY,h=>by
  rw[lA]at h;split at h
  .cases h
  .rename_i hk;rcases oX x (RA.drop RY) 0 with e|⟨k,e,UK⟩
   .exact absurd (by rw[e];decide) hk
   .rw[e,Nat.zero_add,Int.toNat_natCast]at h;have hx:=Az _ 0 k e;obtain⟨hl,hg⟩:=List.getElem?_eq_some_iff.1 hx;have hr:=tk r _ h;have e1:RA.drop RY=(RA.drop RY).take k++x::(RA.drop RY).drop (k+1):=by
     conv=>lhs;rw[<-List.take_append_drop k (RA.drop RY)]
     rw[List.drop_eq_getElem_cons hl,hg]
    rw[e1,List.drop_drop,show RY+(k+1)=RY+k+1 by omega];exact(List.Sublist.cons_cons x hr).trans (List.sublist_append_right _ _)
def zj{body:Int}:∀(l:List P') (sh:Int),(dC body l sh).2.1.Sublist l
 |[],_=>by simp[dC]
 |f::r,sh=>by
  rw[dC];split
  .exact List.Sublist.refl _
  .exact(zj r _).trans (List.sublist_cons_self _ _)
def C1{top shift body:Int}(L:List P'):(jH top shift body L).2.Sublist L:=by
 suffices key:∀(L L0:List P') (x:List P'×List P'),x.2.Sublist L0->(L.foldl (λx f=>l9 body x f (fN top shift f)) x).2.Sublist (L0++L)from by have h:=key L [] ([],[]) (List.Sublist.refl _);rw[List.nil_append]at h;exact h
 intro L
 induction L with
 |nil=>intro L0 x h;simpa using h
 |cons f L ih=>
  intro L0 x h;rw[List.foldl_cons,show L0++f::L=(L0++[f])++L by simp];refine ih _ _ ?_;simp only[l9];split
  .exact h.append (List.Sublist.refl _)
  .exact h.trans (List.sublist_append_left _ _)
def wg{b:Bk}{s:Sn}{to kept shift body:Int}:(dD b.atoms b.RA s to kept shift body).2.Sublist b.RA:=by
 unfold dD;split
 .exact(C1 _).trans List.filter_sublist
 .exact List.nil_sublist _
def tX{b:Bk}(hb:bP b){s:Sy}(he:¬da b s):gA b (aW b s).2:=by
 have Sl:gA b s:=Decidable.byContradiction λh=>he (.inl h);have hg:=iH hb he;have hp:s.bM.Sublist b.RA:=tk _ 0 Sl.1;refine⟨zN _ 0 ?_,?_⟩
 .rw[List.drop_zero];unfold aW;split
  .exact List.dropWhile_sublist _
  .split
   .exact(zj _ _).trans hp
   .show(eT b (dk b s)).bM.Sublist b.RA;unfold eT;split
    .exact wg
    .exact wg
 .rcases hg.kd with k|k
  .obtain⟨hm,-,-,hc⟩:=hg.cut k;have Wj:=hm;obtain⟨⟨h0,h1⟩,h2,h3⟩:=hm;cases hc with
   |more q1 q2 q3 q4 q5=>
    left;unfold gQ at q3;rw[if_pos Wj]at q3;have:=(oR hb.toBkFull s.s h0).2.1;refine⟨by omega,by omega,.inr ?_⟩;rw[q1];omega
   |whole c r y q1 q2 q3 q4 q5 q6 q7 q8 q9=>
    rw[q1];by_cases SJ:c=b.atoms.length
    .exact .inr ⟨by simp only;omega,rfl⟩
    .exact .inl ⟨⟨by simp only;omega,by simp only;omega⟩,Int.le_refl _,.inl rfl⟩
  .have hf:=hg.no' k;have TG:=Bx hb he;rw[hf,ZN]at TG;have e:=Option.some.inj TG;have e1:(aW b s).2.s.atom=s.s.atom:=(congrArg Prod.fst e).symm;have e2:(aW b s).2.s.done=s.s.done:=(congrArg Prod.snd e).symm;unfold bZ;rw[e1,e2];exact Sl.2
def pD(b:Bk)(SP:∀a∈b.atoms,1<=a.h):gA b ⟨⟨0,0,true⟩,[]⟩:=by
 refine⟨rfl,?_⟩;by_cases h:b.atoms.length=0
 .exact .inr ⟨by simp only;omega,rfl⟩
 .exact .inl ⟨⟨Int.le_refl _,by simp only;omega⟩,Int.le_refl _,.inl rfl⟩
def ig(b:Bk)(p:UB)(s:Sn)(no:Int):Prop:=p.kind=1/\¬s.done>0/\((Ud b.L' s.atom.toNat).forced=3/\no%2=1\/(Ud b.L' s.atom.toNat).forced=4/\no%2=0)
instance (b:Bk) (p:UB) (s:Sn) (no:Int):Decidable (ig b p s no):=by unfold ig;infer_instance
def Ec{b:Bk}{s:Sy}(no:Int):ig b (aW b s).1 s.s no↔0<=ja b s/\no%2≠ja b s:=by
 unfold ig ja uo;split
 .constructor
  .intro h;omega
  .intro h;omega
 .split
  .omega
  .split
   .omega
   .constructor
    .intro h;omega
    .intro h;omega
def dv(b:Bk)(s:Sy)(kind:Int):Int:=
 if kind≠1 then s.s.atom
 else iS b.atoms s.s (ie b.atoms s.s ((bf b s.s).body-(dC (bf b s.s).body s.bM 0).2.2)) (dC (bf b s.s).body s.bM 0).2.2 (bf b s.s).body
structure fL(a b:Bk)(s:Sn)(r:Int):Prop where
 r0:0<=r
 RY:∀k:Nat,(k:Int)<=r->a.atoms[k]?=b.atoms[k]?
 bk:∀k:Nat,(k:Int)<=r->Ud a.L' k=Ud b.L' k
 fl:(a.RA.filter λf=>decide (f.anchor<=r))=b.RA.filter λf=>decide (f.anchor<=r)
 hd:(bf a s).RG=(bf b s).RG
 st:∀n∈(bf a s).RG,(Tk a.nodes n).head=(Tk b.nodes n).head
 w:a.w=b.w
 h:a.h=b.h
def C5{l m:List Nd}{w:Int}{L:List Int}(h:∀n∈L,(Tk l n).head=(Tk m n).head):UO l w L=UO m w L:=by
 unfold UO
 suffices key:∀(L:List Int) (p:List Tp×Int),(∀n∈L,(Tk l n).head=(Tk m n).head)->L.foldl (VU l w) p=L.foldl (VU m w) p from key L _ h
 intro L
 induction L with
 |nil=>intro p _;rfl
 |cons x L ih=>
  intro p h;have e:VU l w p x=VU m w p x:=by unfold VU;rw[h x (by simp)]
  rw[List.foldl_cons,List.foldl_cons,e];exact ih _ λn hn=>h n (by simp[hn])
def fL.hdk{a b:Bk}{s:Sn}{r:Int}(h:fL a b s r):UO a.nodes a.w (bf a s).RG=UO b.nodes b.w (bf b s).RG:=by
 rw[C5 h.st,h.w,h.hd]
def fL.bf{a b:Bk}{s:Sn}{r:Int}(h:fL a b s r)(ha:BkFull a)(hb:BkFull b)(h0:0<=s.atom):bf a s=Go.Vc.bf b s:=by
 obtain⟨-,-,a3,-,a5⟩:=oR ha s h0;obtain⟨-,-,b3,-,b5⟩:=oR hb s h0;rw[h.hdk,b5]at a5;have:=h.h;have e:=h.hd;revert a3 a5 b3 e;generalize Go.Vc.bf a s=x;generalize Go.Vc.bf b s=y;intro a3 a5 b3 e;obtain⟨x1,x2,x3⟩:=x;obtain⟨y1,y2,y3⟩:=y;simp only at*;subst e;have e2:x2=y2:=by omega
 have e3:x3=y3:=by omega
 rw[e2,e3]
def fL.SM{a b:Bk}{s:Sn}{r:Int}(h:fL a b s r){k:Int}(hk:k<=r):SM a.atoms k=Go.Vc.SM b.atoms k:=by
 have h0:=h.r0;have:=h.RY k.toNat (by omega);unfold Go.Vc.SM;rw[List.getD_eq_getElem?_getD,List.getD_eq_getElem?_getD,this]
def fL.lt{a b:Bk}{s:Sn}{r:Int}(h:fL a b s r){k:Int}(h0:0<=k)(hk:k<=r):k<a.atoms.length↔k<b.atoms.length:=by
 have:=h.RY k.toNat (by omega);constructor
 .intro H';rw[List.getElem?_eq_getElem (show k.toNat<a.atoms.length by omega)]at this;have:=(List.getElem?_eq_some_iff.1 this.symm).1;omega
 .intro H';rw[List.getElem?_eq_getElem (show k.toNat<b.atoms.length by omega)]at this;have:=(List.getElem?_eq_some_iff.1 this).1;omega
def fL.bZ{a b:Bk}{s:Sn}{r:Int}(h:fL a b s r)(h1:s.atom<=r):bZ a.atoms s↔Go.Vc.bZ b.atoms s:=by
 unfold Go.Vc.bZ;rw[h.SM h1];constructor
 .rintro⟨⟨g1,g2⟩,g3⟩;exact⟨⟨g1,(h.lt g1 h1).1 g2⟩,g3⟩
 .rintro⟨⟨g1,g2⟩,g3⟩;exact⟨⟨g1,(h.lt g1 h1).2 g2⟩,g3⟩
def fL.gap{a b:Bk}{s:Sn}{r:Int}(h:fL a b s r){k:Int}(hk:k<=r):la a.atoms k=la b.atoms k:=by
 unfold la;by_cases h0:0<=k
 .have hb:fE a.atoms (k-1)=fE b.atoms (k-1):=by
   unfold fE;by_cases h1:0<=k-1
   .have:=h.lt h1 (by omega);rw[h.SM (show k-1<=r by omega)];by_cases h2:k-1<a.atoms.length
    .rw[if_pos ⟨h1,h2⟩,if_pos ⟨h1,this.1 h2⟩]
    .rw[if_neg λg=>h2 g.2,if_neg λg=>h2 (this.2 g.2)]
   .rw[if_neg λg=>h1 g.1,if_neg λg=>h1 g.1]
  have:=h.lt h0 hk;rw[h.SM hk,hb];by_cases h2:k<a.atoms.length
  .rw[if_pos ⟨h0,h2⟩,if_pos ⟨h0,this.1 h2⟩]
  .rw[if_neg λg=>h2 g.2,if_neg λg=>h2 (this.2 g.2)]
 .rw[if_neg λg=>h0 g.1,if_neg λg=>h0 g.1]
def fL.kept{a b:Bk}{s:Sn}{r:Int}(h:fL a b s r)(h1:s.atom<=r)(R5:Int):ie a.atoms s R5=ie b.atoms s R5:=by
 unfold ie;rw[h.gap h1,h.SM h1];by_cases hm:Go.Vc.bZ a.atoms s
 .have V1:=(h.bZ h1).1 hm;simp only[hm,V1,true_and]
 .have V1:¬Go.Vc.bZ b.atoms s:=λg=>hm ((h.bZ h1).2 g);simp only[hm,V1,false_and]
def fL.left{a b:Bk}{s:Sn}{r:Int}(h:fL a b s r)(h1:s.atom<=r):gQ a.atoms s=gQ b.atoms s:=by
 unfold gQ;rw[h.SM h1];by_cases hm:Go.Vc.bZ a.atoms s
 .rw[if_pos hm,if_pos ((h.bZ h1).1 hm)]
 .rw[if_neg hm,if_neg λg=>hm ((h.bZ h1).2 g)]
def fL.place{a b:Bk}{s:Sn}{r:Int}(h:fL a b s r)(h1:s.atom<=r)(kept shift:Int){k:Int}(hk:k<=r):dr a.atoms s kept shift k=dr b.atoms s kept shift k:=by
 unfold dr;by_cases hm:Go.Vc.bZ a.atoms s
 .have V1:=(h.bZ h1).1 hm;have h0:=hm.1.1;by_cases hsk:s.atom<=k
  .have hl:=h.lt (show 0<=k by omega) hk;by_cases h2:k<a.atoms.length
   .rw[if_pos ⟨hm,hsk,h2⟩,if_pos ⟨V1,hsk,hl.1 h2⟩];unfold gk;rw[if_pos ⟨hm.1,by omega,h2⟩,if_pos ⟨V1.1,by omega,hl.1 h2⟩,h.SM h1,h.SM hk]
   .rw[if_neg λg=>h2 g.2.2,if_neg λg=>h2 (hl.2 g.2.2)]
  .rw[if_neg λg=>hsk g.2.1,if_neg λg=>hsk g.2.1]
 .rw[if_neg λg=>hm g.1,if_neg λg=>hm ((h.bZ h1).2 g.1)]
def fL.whole{a b:Bk}{s:Sn}{r:Int}(h:fL a b s r)(h1:s.atom<=r)(kept shift:Int){k:Int}(hk:k<=r):cT a.atoms s kept shift k=cT b.atoms s kept shift k:=by
 unfold cT;have hp:∀y,jA a.atoms k y=jA b.atoms k y:=λy=>by unfold jA fp;rw[h.SM hk]
 by_cases hm:Go.Vc.bZ a.atoms s
 .have V1:=(h.bZ h1).1 hm;have h0:=hm.1.1;by_cases hsk:s.atom<=k
  .have hl:=h.lt (show 0<=k by omega) hk;by_cases h2:k<a.atoms.length
   .have c1:Go.Vc.bZ a.atoms s/\s.atom<=k/\k<a.atoms.length:=⟨hm,hsk,h2⟩
    have c2:Go.Vc.bZ b.atoms s/\s.atom<=k/\k<b.atoms.length:=⟨V1,hsk,hl.1 h2⟩
    rw[if_pos c1,if_pos c2,h.place h1 kept shift hk,hp]
   .rw[if_neg λg=>h2 g.2.2,if_neg λg=>h2 (hl.2 g.2.2)]
  .rw[if_neg λg=>hsk g.2.1,if_neg λg=>hsk g.2.1]
 .rw[if_neg λg=>hm g.1,if_neg λg=>hm ((h.bZ h1).2 g.1)]
def fL.reach{a b:Bk}(ha:bP a)(hb:bP b){s:Sn}{r:Int}(h:fL a b s r)(h1:s.atom<=r)(kept shift body:Int)(hm:Go.Vc.bZ a.atoms s)(hr:iS a.atoms s kept shift body=r):iS b.atoms s kept shift body=r:=by
 have V1:=(h.bZ h1).1 hm;obtain⟨x,x1,x2,x3,x4,x5⟩:=gK ha.TN ha.pos hm kept shift body;obtain⟨y,y1,y2,y3,y4,y5⟩:=gK hb.TN hb.pos V1 kept shift body;have h0:=hm.1.1;rw[y1,<-hr,x1];have hxr:(x:Int)=r:=by rw[<-hr,x1]
 rcases Nat.lt_trichotomy x y with hl|hl|hl
 ·
  exfalso;have hxb:x<b.atoms.length:=by omega
  have hxa:x<a.atoms.length:=by have:=(h.lt (k:=x) (by omega) (by omega)).2 (by omega);omega
  have q1:=x5 hxa;have q2:=y4 x hxb (by omega) hl;have e:=h.RY x (by omega);rw[List.getElem?_eq_getElem hxa,List.getElem?_eq_getElem hxb,Oi]at e;rw[h.place h1 kept shift (by omega),e]at q1;omega
 .rw[hl]
 .exfalso;have hya:y<a.atoms.length:=by omega
  have hyb:y<b.atoms.length:=by have:=(h.lt (k:=y) (by omega) (by omega)).1 (by omega);omega
  have q1:=y5 hyb;have q2:=x4 y hya (by omega) hl;have e:=h.RY y (by omega);rw[List.getElem?_eq_getElem hya,List.getElem?_eq_getElem hyb,Oi]at e;rw[h.place h1 kept shift (by omega),e]at q2;omega
def fL.called{a b:Bk}{s:Sn}{r:Int}(h:fL a b s r){to:Int}(ht:to<=r+1):fI a.RA s to=fI b.RA s to:=by
 unfold fI Ag lx sJ;generalize (if s.done>0 then s.atom+1 else s.atom)=fr;have key:∀L:List P',(L.filter λf=>!decide (f.anchor<fr\/f.anchor>=to))=(L.filter λf=>decide (f.anchor<=r)).filter λf=>!decide (f.anchor<fr\/f.anchor>=to):=λL=>by
  rw[List.filter_filter];refine List.filter_congr λf _=>?_;by_cases hc:f.anchor<fr\/f.anchor>=to
  .simp[hc]
  .have:f.anchor<=r:=by omega
   simp[hc,this]
 rw[key a.RA,key b.RA,h.fl]
def fL.here{a b:Bk}{s:Sn}{r:Int}(h:fL a b s r)(h1:s.atom<=r){to:Int}(ht:to<=r+1)(kept shift body:Int):dD a.atoms a.RA s to kept shift body=dD b.atoms b.RA s to kept shift body:=by
 unfold dD tJ;rw[h.called ht,h.SM h1];by_cases hm:Go.Vc.bZ a.atoms s
 .rw[if_pos hm,if_pos ((h.bZ h1).1 hm)]
 .rw[if_neg hm,if_neg λg=>hm ((h.bZ h1).2 g)]
def fL.nE{a b:Bk}{s:Sn}{r:Int}(h:fL a b s r)(h1:s.atom<=r)(h0:0<=s.atom)(ha:r<=(a.L'.length:Int)-1)(hb:r<=(b.L'.length:Int)-1):nE a.L' s.atom r=Go.Vc.nE b.L' s.atom r:=by
 have e:(Wb a.L' (s.atom+1) r).map (kH a.L')=(Wb b.L' (s.atom+1) r).map (kH b.L'):=by
  have e1:Wb a.L' (s.atom+1) r=Wb b.L' (s.atom+1) r:=by
   unfold Wb rz;rw[show min r ((a.L'.length:Int)-1)=r by omega,show min r ((b.L'.length:Int)-1)=r by omega]
  rw[e1];refine List.map_congr_left λk hk=>?_;unfold kH;rw[h.bk k ?_];unfold Wb rz at hk;have:=List.mem_range'_1.1 hk;omega
 unfold Go.Vc.nE kA CJ;rw[e]
def fL.top{a b:Bk}{s:Sy}{r:Int}(h:fL a b s.s r)(ha:BkFull a)(hb:BkFull b)(h0:0<=s.s.atom):dk a s=dk b s:=by
 have e1:=h.bf ha hb h0;have e2:=h.hdk;unfold dk bY;rw[e2,e1]
def fL.OO{a b:Bk}(ha:bP a)(hb:bP b){s:Sy}{r:Int}(h:fL a b s.s r)(h1:s.s.atom<=r)(hm:Go.Vc.bZ a.atoms s.s)(x:Wx)(hx:x.s=s.s)(hr:cG a x=r):eu a x=eu b x/\eT a x=eT b x/\cG b x=r:=by
 have V1:=(h.bZ h1).1 hm;have ek:cV a x=cV b x:=by unfold cV;rw[hx];exact h.kept h1 _
 have hr':cG b x=r:=by
  unfold cG at hr|-;rw[<-ek];rw[hx]at hr|-;exact h.reach ha hb h1 _ _ _ hm hr
 obtain⟨u,u1,u2,u3,-,-⟩:=gK ha.TN ha.pos hm (cV a x) x.shift x.body;obtain⟨v,v1,v2,v3,-,-⟩:=gK hb.TN hb.pos V1 (cV b x) x.shift x.body;have hra:r=u:=by rw[<-hr];unfold cG;rw[hx];exact u1
 have hrb:r=v:=by rw[<-hr'];unfold cG;rw[hx];exact v1
 have UH:=ha.brk;have Wm:=hb.brk;have ecut:p7 a x=p7 b x:=by
  unfold p7;rw[hr,hr',hx];exact h.nE h1 hm.1.1 (by omega) (by omega)
 have eok:eO a.L' x.s.atom (cG a x)↔eO b.L' x.s.atom (cG b x):=by
  unfold eO;rw[hr,hr',hx];have:=hm.1;have:=V1.1;constructor
  .rintro⟨-,g2,g3,g4⟩;exact⟨hb.mayb,g2,by omega,g4⟩
  .rintro⟨-,g2,g3,g4⟩;exact⟨ha.mayb,g2,by omega,g4⟩
 refine⟨?_,?_,hr'⟩
 .unfold eu;by_cases hc:eO a.L' x.s.atom (cG a x)
  .rw[if_pos hc,if_pos (eok.1 hc),<-ecut,<-ek];obtain⟨c,c1,c2,c3,-⟩:=sY hc (by rw[hr];omega);have hcx:p7 a x=c:=c1;rw[hcx];rw[hr]at c3;unfold pe ck;have e1:((List.range ((c:Int).toNat-x.s.atom.toNat)).map λi:Nat=>cD x.high (cT a.atoms x.s (cV a x) x.shift (x.s.atom+(i:Nat))))=(List.range ((c:Int).toNat-x.s.atom.toNat)).map λi:Nat=>cD x.high (cT b.atoms x.s (cV a x) x.shift (x.s.atom+(i:Nat))):=by
    refine List.map_congr_left λi hi=>?_;have W5:=List.mem_range.1 hi;have Wj:=hm.1.1;have hxa:x.s.atom=s.s.atom:=by rw[hx]
    have hk:x.s.atom+(i:Int)<=r:=by omega
    rw[hx]at hk|-;rw[h.whole h1 _ _ hk]
   have e2:dD a.atoms a.RA x.s (c:Int).toNat (cV a x) x.shift x.body=dD b.atoms b.RA x.s (c:Int).toNat (cV a x) x.shift x.body:=by
    rw[hx];exact h.here h1 (by omega) _ _ _
   simp only[e1,e2]
  .rw[if_neg hc,if_neg λg=>hc (eok.2 g)];unfold qp;have e1:ij a.atoms x.s x.body=ij b.atoms x.s x.body:=by
    have e0:dR a.atoms x.s x.body=dR b.atoms x.s x.body:=by unfold dR fp;rw[hx,h.SM h1]
    unfold ij;rw[hx]at e0|-;by_cases hq:1<=x.body
    .rw[if_pos (show ku a.atoms s.s x.body from⟨hm,hq⟩),if_pos (show ku b.atoms s.s x.body from⟨V1,hq⟩),e0]
    .rw[if_neg λg:ku a.atoms s.s x.body=>hq g.2,if_neg λg:ku b.atoms s.s x.body=>hq g.2]
   have e2:dD a.atoms a.RA x.s (x.s.atom+1) 0 0 x.body=dD b.atoms b.RA x.s (x.s.atom+1) 0 0 x.body:=by
    rw[hx];exact h.here h1 (by omega) _ _ _
   simp only[e1,e2]
 .unfold eT;by_cases hc:eO a.L' x.s.atom (cG a x)
  .rw[if_pos hc,if_pos (eok.1 hc),<-ecut,<-ek];obtain⟨c,c1,c2,c3,-⟩:=sY hc (by rw[hr];omega);have hcx:p7 a x=c:=c1;rw[hcx];rw[hr]at c3;unfold xI;have e2:dD a.atoms a.RA x.s (c:Int).toNat (cV a x) x.shift x.body=dD b.atoms b.RA x.s (c:Int).toNat (cV a x) x.shift x.body:=by
    rw[hx];exact h.here h1 (by omega) _ _ _
   have e3:a.L'.getD (c:Int).toNat ⟨0,0,0⟩=b.L'.getD (c:Int).toNat ⟨0,0,0⟩:=h.bk _ (by omega);simp only[e2,e3]
  .rw[if_neg hc,if_neg λg=>hc (eok.2 g)];unfold tS;have e1:ew a.atoms x.s x.body=ew b.atoms x.s x.body:=by
    have e0:dR a.atoms x.s x.body=dR b.atoms x.s x.body:=by unfold dR fp;rw[hx,h.SM h1]
    unfold ew;rw[hx]at e0|-;by_cases hq:1<=x.body
    .rw[if_pos (show ku a.atoms s.s x.body from⟨hm,hq⟩),if_pos (show ku b.atoms s.s x.body from⟨V1,hq⟩),e0];unfold jh;have:(dR b.atoms s.s x.body).atom=s.s.atom:=rfl;rw[this,h.SM h1]
    .rw[if_neg λg:ku a.atoms s.s x.body=>hq g.2,if_neg λg:ku b.atoms s.s x.body=>hq g.2]
   have e2:dD a.atoms a.RA x.s (x.s.atom+1) 0 0 x.body=dD b.atoms b.RA x.s (x.s.atom+1) 0 0 x.body:=by
    rw[hx];exact h.here h1 (by omega) _ _ _
   simp only[e1,e2]
def BU{b:Bk}(hb:bP b){s:Sy}{kind:Int}(hm:kind=1->Go.Vc.bZ b.atoms s.s):s.s.atom<=dv b s kind:=by
 unfold dv;split
 .omega
 .rename_i hk;obtain⟨u,u1,u2,-⟩:=gK hb.TN hb.pos (hm (by omega)) (ie b.atoms s.s ((bf b s.s).body-(dC (bf b s.s).body s.bM 0).2.2)) (dC (bf b s.s).body s.bM 0).2.2 (bf b s.s).body;rw[u1];exact u2
def fL.Ou{a b:Bk}(ha:bP a)(hb:bP b){s:Sy}(he:¬da a s)(h:fL a b s.s (dv a s (aW a s).1.kind))(na:a.atoms≠[])(nb:b.atoms≠[]):aW a s=aW b s/\dv b s (aW b s).1.kind=dv a s (aW a s).1.kind:=by
 have Sl:gA a s:=Decidable.byContradiction λh=>he (.inl h);have S1:0<=s.s.atom:=by rcases Sl.2 with h|h;exact h.1.1;omega
 have hg:=iH ha he;have h1:s.s.atom<=dv a s (aW a s).1.kind:=BU ha λk=>(hg.cut k).1;have e1:=h.bf ha.toBkFull hb.toBkFull S1;have e2:=h.top ha.toBkFull hb.toBkFull S1;have hn:s.s.atom=a.atoms.length↔s.s.atom=b.atoms.length:=by
  have hl:=h.lt S1 h1;have q:s.s.atom<=a.atoms.length:=by rcases Sl.2 with h|h;have:=h.1.2;omega;omega
  constructor
  .intro g;have:=h.RY s.s.atom.toNat (by omega);have hz:¬s.s.atom<b.atoms.length:=λg'=>by have:=hl.2 g';omega
   rcases Nat.lt_or_ge b.atoms.length a.atoms.length with g'|g'
   .have:=(h.lt (k:=b.atoms.length) (by omega) (by omega)).1 (by omega);omega
   .omega
  .intro g;have hz:¬s.s.atom<a.atoms.length:=λg'=>by have:=hl.1 g';omega
   omega
 have ef:jy a s↔jy b s:=by
  unfold jy;rw[hn,e1,h.left h1]
 have na':¬(a.atoms=[]/\s.s.free=true):=λg=>na g.1;have nb':¬(b.atoms=[]/\s.s.free=true):=λg=>nb g.1;unfold aW at h h1|-;rw[if_neg na']at h h1;rw[if_neg na',if_neg nb'];by_cases hf:jy a s
 .rw[if_pos hf]at h h1;rw[if_pos hf,if_pos (ef.1 hf),e2,e1];have hl:s.s.atom<a.atoms.length↔s.s.atom<b.atoms.length:=by
   have:=h.lt S1 (k:=s.s.atom) (by unfold dv;simp[jS]);exact this
  refine⟨by simp only[hl],?_⟩;unfold dv;simp[jS]
 .rw[if_neg hf]at h h1;have hm:Go.Vc.bZ a.atoms s.s:=Sl.2.resolve_right λg=>hf (.inl g.1);have hk:(jS (eu a (dk a s))).kind=1:=(ke a (dk a s)).2;rw[if_neg hf,if_neg λg=>hf (ef.2 g)];have hr:cG a (dk a s)=dv a s (jS (eu a (dk a s))).kind:=by
   unfold dv;rw[hk];rfl
  have Ub:(dk a s).s=s.s:=rfl;obtain⟨g1,g2,g3⟩:=h.OO ha hb h1 hm (dk a s) Ub hr;rw[<-e2,g1,g2];refine⟨rfl,?_⟩;rw[<-g1,<-hr];have hkb:(jS (eu a (dk a s))).kind=1:=hk;unfold dv;rw[hkb];rw[e2]at g3 hr|-;rw[hr,<-g3];rfl
def bL{α:Type}[DecidableEq α]:List α->List α->Nat
 |x::l,y::m=>if x=y then bL l m+1 else 0
 |_,_=>0
def rW{α:Type}[DecidableEq α]:∀(l m:List α),bL l m<=l.length/\bL l m<=m.length
 |[],m=>by simp[bL]
 |x::l,[]=>by simp[bL]
 |x::l,y::m=>by
  have:=rW l m;rw[bL];split<;>simp only[List.length_cons]<;>omega
def kT{α:Type}[DecidableEq α]:∀(l m:List α) (r:Nat),r<bL l m↔r<l.length/\∀k,k<=r->l[k]?=m[k]?
 |[],m,r=>by simp[bL]
 |x::l,[],r=>by
  simp only[bL];constructor
  .intro h;omega
  .intro h;have:=h.2 0 (Nat.zero_le r);simp at this
 |x::l,y::m,r=>by
  rw[bL];split
  .rename_i e;subst e;cases r with
   |zero=>simp
   |succ r=>
    have ih:=kT l m r;rw[show r+1<bL l m+1↔r<bL l m by omega,ih];simp only[List.length_cons];constructor
    .rintro⟨h1,h2⟩;refine⟨by omega,λk hk=>?_⟩;cases k with
     |zero=>rfl
     |succ k=>rw[List.getElem?_cons_succ,List.getElem?_cons_succ];exact h2 k (by omega)
    .rintro⟨h1,h2⟩;refine⟨by omega,λk hk=>?_⟩;have:=h2 (k+1) (by omega)
     rwa [List.getElem?_cons_succ,List.getElem?_cons_succ]at this
  .rename_i e;constructor
   .intro h;omega
   .intro h;have:=h.2 0 (Nat.zero_le r);simp only[List.getElem?_cons_zero,Oi]at this;exact absurd this e
def kI(b:Bk)(r:Int):List P':=b.RA.filter λf=>decide (f.anchor<=r)
def lh(a b:Bk)(s:Sn):Prop:=(bf a s).RG=(bf b s).RG/\∀n∈(bf a s).RG,(Tk a.nodes n).head=(Tk b.nodes n).head
instance (a b:Bk) (s:Sn):Decidable (lh a b s):=by unfold lh;infer_instance
def cy(a b:Bk)(s:Sy)(kind:Int):Prop:=
 if(a.atoms.length:Int)=0\/(b.atoms.length:Int)=0 then(a.atoms.length:Int)=b.atoms.length/\a.RA=b.RA
 else(dv a s kind<bL a.atoms b.atoms\/dv a s kind=a.atoms.length/\dv a s kind=b.atoms.length/\dv a s kind=bL a.atoms b.atoms)/\dv a s kind<bL a.L' b.L'/\kI a (dv a s kind)=kI b (dv a s kind)/\lh a b s.s
instance (a b:Bk) (s:Sy) (kind:Int):Decidable (cy a b s kind):=by unfold cy;infer_instance
def oC{b:Bk}(hb:bP b){s:Sy}(he:¬da b s):0<=s.s.atom/\s.s.atom<=dv b s (aW b s).1.kind/\dv b s (aW b s).1.kind<=b.atoms.length:=by
 have Sl:gA b s:=Decidable.byContradiction λh=>he (.inl h);have S1:0<=s.s.atom:=by rcases Sl.2 with h|h;exact h.1.1;omega
 have Up:s.s.atom<=b.atoms.length:=by rcases Sl.2 with h|h;have:=h.1.2;omega;omega
 have hg:=iH hb he;refine⟨S1,BU hb λk=>(hg.cut k).1,?_⟩;unfold dv;split
 .exact Up
 .rename_i hk;have hm:=(hg.cut (by omega)).1;obtain⟨u,u1,-,u3,-⟩:=gK hb.TN hb.pos hm (ie b.atoms s.s ((bf b s.s).body-(dC (bf b s.s).body s.bM 0).2.2)) (dC (bf b s.s).body s.bM 0).2.2 (bf b s.s).body;rw[u1];omega
def ml{a b:Bk}(ha:bP a){s:Sy}(he:¬da a s)(na:a.atoms≠[])(nb:b.atoms≠[])(hw:a.w=b.w)(hh:a.h=b.h):
 cy a b s (aW a s).1.kind↔fL a b s.s (dv a s (aW a s).1.kind)/\∀k:Nat,(k:Int)<=dv a s (aW a s).1.kind->a.L'[k]?=b.L'[k]?:=by
 obtain⟨r1,r2,r3⟩:=oC ha he;have SD:=ha.brk;have l1:=List.length_pos_iff.2 na;have l2:=List.length_pos_iff.2 nb;unfold cy;rw[if_neg (by omega)];generalize dv a s (aW a s).1.kind=r at*;obtain⟨q,rfl⟩:∃q:Nat,r=q:=⟨r.toNat,by omega⟩
 have Ww:(q:Int)<bL a.L' b.L'↔∀k:Nat,(k:Int)<=q->a.L'[k]?=b.L'[k]?:=by
  have:=kT a.L' b.L' q;constructor
  .intro h k hk;exact(this.1 (by omega)).2 k (by omega)
  .intro h;have:=this.2 ⟨by omega,λk hk=>h k (by omega)⟩;omega
 have V9:((q:Int)<bL a.atoms b.atoms\/(q:Int)=a.atoms.length/\(q:Int)=b.atoms.length/\(q:Int)=bL a.atoms b.atoms)↔∀k:Nat,(k:Int)<=q->a.atoms[k]?=b.atoms[k]?:=by
  have hl:=rW a.atoms b.atoms;constructor
  .rintro(h|⟨h1,h2,h3⟩) k hk
   .exact((kT a.atoms b.atoms q).1 (by omega)).2 k (by omega)
   .rcases Nat.lt_or_ge k q with hkq|hkq
    .exact((kT a.atoms b.atoms k).1 (by omega)).2 k (Nat.le_refl k)
    .rw[List.getElem?_eq_none (by omega),List.getElem?_eq_none (by omega)]
  .intro h;rcases Nat.lt_or_ge q a.atoms.length with hq|hq
   .left;have:=(kT a.atoms b.atoms q).2 ⟨hq,λk hk=>h k (by omega)⟩;omega
   .right;have hqa:q=a.atoms.length:=by omega
    have hn:=h q (Int.le_refl _);rw[List.getElem?_eq_none (by omega)]at hn;have hmb:=List.getElem?_eq_none_iff.1 hn.symm;have hld:q-1<bL a.atoms b.atoms:=(kT a.atoms b.atoms (q-1)).2 ⟨by omega,λk hk=>h k (by omega)⟩;refine⟨by omega,by omega,by omega⟩
 rw[V9,Ww];constructor
 .rintro⟨h1,h2,h3,h4,h5⟩;refine⟨⟨by omega,h1,λk hk=>?_,h3,h4,h5,hw,hh⟩,h2⟩;unfold Ud;rw[List.getD_eq_getElem?_getD,List.getD_eq_getElem?_getD,h2 k hk]
 .rintro⟨h,h2⟩;exact⟨h.RY,h2,h.fl,h.hd,h.st⟩
def D2{a b:Bk}(ha:bP a)(hb:bP b)(hw:a.w=b.w)(hh:a.h=b.h){s:Sy}(he:¬da a s)(hs:cy a b s (aW a s).1.kind):
 aW a s=aW b s/\cy b a s (aW b s).1.kind/\Ud a.L' s.s.atom.toNat=Ud b.L' s.s.atom.toNat\/a.atoms=[]/\b.atoms=[]/\aW a s=aW b s/\cy b a s (aW b s).1.kind:=by
 by_cases h0:(a.atoms.length:Int)=0\/(b.atoms.length:Int)=0
 .right;unfold cy at hs;rw[if_pos h0]at hs;have ea:a.atoms=[]:=List.eq_nil_of_length_eq_zero (by omega);have eb:b.atoms=[]:=List.eq_nil_of_length_eq_zero (by omega);have er:bf a s.s=bf b s.s:=by unfold bf;rw[if_pos ea,if_pos eb,hh]
  have erh:(bf b s.s).RG=[]:=by unfold bf;rw[if_pos eb]
  have eh:∀hv,bY a s.s hv=bY b s.s hv:=λhv=>by unfold bY;rw[er,erh];rfl
  have et:dk a s=dk b s:=by unfold dk;rw[eh,er]
  have Sl:gA a s:=Decidable.byContradiction λh=>he (.inl h);have S1:s.s.atom=0:=by
   rcases Sl.2 with h|h
   .have:=h.1;rw[ea]at this;simp at this;omega
   .rw[ea]at h;simpa using h.1
  have hf:jy a s:=.inl (by rw[S1,ea];rfl);have U1:jy b s:=.inl (by rw[S1,eb];rfl);have ep:aW a s=aW b s:=by
   unfold aW;by_cases UM:s.s.free=true
   .rw[if_pos ⟨ea,UM⟩,if_pos ⟨eb,UM⟩,eh];unfold sO lV;rw[hs.2]
   .rw[if_neg λg:a.atoms=[]/\s.s.free=true=>UM g.2,if_neg λg:b.atoms=[]/\s.s.free=true=>UM g.2,if_pos hf,if_pos U1,et,er,ea,eb]
  refine⟨ea,eb,ep,?_⟩;unfold cy;rw[if_pos (.inl (by rw[eb];rfl))];exact⟨by rw[ea,eb],hs.2.symm⟩
 .left;have na:a.atoms≠[]:=λe=>h0 (.inl (by rw[e];rfl));have nb:b.atoms≠[]:=λe=>h0 (.inr (by rw[e];rfl));obtain⟨hl,Vg⟩:=(ml ha he na nb hw hh).1 hs;obtain⟨g1,g2⟩:=hl.Ou ha hb he na nb;obtain⟨r1,r2,r3⟩:=oC ha he;have l1:=List.length_pos_iff.2 na;have l2:=List.length_pos_iff.2 nb;refine⟨g1,?_,hl.bk _ (by omega)⟩;unfold cy at hs|-;rw[if_neg (by omega)]at hs|-;rw[g2];obtain⟨h1,h2,h3,h4⟩:=hs;have s1:bL b.atoms a.atoms=bL a.atoms b.atoms:=by
   have key:∀{α:Type} [DecidableEq α] (l m:List α),bL l m=bL m l:=by
    intro α _ l
    induction l with
    |nil=>intro m;cases m<;>rfl
    |cons x l ih=>
     intro m;cases m with
     |nil=>rfl
     |cons y m=>
      simp only[bL,ih m];by_cases e:x=y
      .rw[if_pos e,if_pos e.symm]
      .rw[if_neg e,if_neg λg=>e g.symm]
   exact key _ _
  have s2:bL b.L' a.L'=bL a.L' b.L':=by
   have key:∀{α:Type} [DecidableEq α] (l m:List α),bL l m=bL m l:=by
    intro α _ l
    induction l with
    |nil=>intro m;cases m<;>rfl
    |cons x l ih=>
     intro m;cases m with
     |nil=>rfl
     |cons y m=>
      simp only[bL,ih m];by_cases e:x=y
      .rw[if_pos e,if_pos e.symm]
      .rw[if_neg e,if_neg λg=>e g.symm]
   exact key _ _
  rw[s1,s2];refine⟨by omega,h2,h3.symm,h4.1.symm,λn hn=>(h4.2 n (h4.1▸hn)).symm⟩
end Go.Vc
