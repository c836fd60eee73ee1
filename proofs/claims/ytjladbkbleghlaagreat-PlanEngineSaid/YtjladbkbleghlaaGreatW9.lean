/- Part 9 of the library of this proof. -/
import Derived.Test.YtjladbkbleghlaaGreatW8
set_option linter.all false
set_option maxHeartbeats 8000000
set_option maxRecDepth 100000
namespace Go.Vc
open Go.Proofs Go.Proofs.Tryz
def wQ{b:Bk}(hb:BkOk b){s:PH}(h:cM b.atoms s):0<=s.done/\s.done<=18014398509481984:=by
 obtain⟨⟨h0,h1⟩,h2,h3⟩:=h;obtain⟨k,hk⟩:∃k:Nat,s.atom=k:=⟨s.atom.toNat,by omega⟩
 have Q6:k<b.atoms.length:=by omega
 have:=hb.tight _ (QL Q6);rw[hk,bG Q6]at h3;omega
def vZ{b:Bk}(hb:BkOk b)(k:Int):-18014398509481984<=iV b.atoms k/\iV b.atoms k<=36028797018963968:=by
 unfold iV;split
 .rename_i h;obtain⟨n,rfl⟩:∃n:Nat,k=n:=⟨k.toNat,by omega⟩
  have hn:n<b.atoms.length:=by omega
  have:=hb.tight _ (QL hn);rw[bG hn];omega
 .omega
def xi{b:Bk}(hb:BkOk b)(s:PH)(Ql:Int):-1152921504606846976<=iz b.atoms s Ql/\iz b.atoms s Ql<=2305843009213693952:=by
 unfold iz nZ;split
 .split
  .rename_i h;have h1:=vZ hb (s.atom-1);obtain⟨n,hn⟩:∃n:Nat,s.atom=n:=⟨s.atom.toNat,by omega⟩
   have Si:n<b.atoms.length:=by omega
   have:=hb.tight _ (QL Si);rw[hn]at h1|-;rw[bG Si];omega
  .omega
 .omega
def xj{l:List QB}{s:PH}{kept shift body:Int}:lq l s kept shift body<=l.length:=by
 unfold lq;split
 .rename_i h;have:=CE (fO l s kept shift body) (l.length-s.atom.toNat);have:=h.1;omega
 .omega
def DI(ah:Fd->Fd->Bool->Bool):∀(xs:List Fd) (d:Fd),(fS ah xs d).1=d\/(fS ah xs d).1∈xs:=by
 have key:∀(xs:List Fd) (p:Fd×Bool),(xs.foldl (gL ah) p).1=p.1\/(xs.foldl (gL ah) p).1∈xs:=by
  intro xs
  induction xs with
  |nil=>intro p;exact .inl rfl
  |cons x xs ih=>
   intro p;rw[kf];rcases ih (gL ah p x)with h|h
   .rw[h];unfold gL;split
    .exact .inr (by simp)
    .exact .inl rfl
   .exact .inr (by simp[h])
 exact λxs d=>key xs (d,false)
def Dp{xs:List Fd}(h:xs≠[])(d:Fd):(fS jQ xs d).1∈xs:=by
 obtain⟨x,xs,rfl⟩:∃x l,xs=x::l:=by cases xs with
  |nil=>exact absurd rfl h
  |cons x l=>exact⟨x,l,rfl⟩
 unfold fS;rw[kf];have:gL jQ (d,false) x=(x,true):=by simp[gL,jQ]
 rw[this];have key:∀(xs:List Fd) (p:Fd×Bool),(xs.foldl (gL jQ) p).1=p.1\/(xs.foldl (gL jQ) p).1∈xs:=by
  intro xs
  induction xs with
  |nil=>intro p;exact .inl rfl
  |cons x xs ih=>
   intro p;rw[kf];rcases ih (gL jQ p x)with h|h
   .rw[h];unfold gL;split
    .exact .inr (by simp)
    .exact .inl rfl
   .exact .inr (by simp[h])
 rcases key xs (x,true)with h|h
 .rw[h];simp
 .simp[h]
def yY{b:List RX}{i fit:Int}(h:gb b i fit)(hf:fit<=(b.length:Int)-1):∃c:Nat,uN b i fit=c/\i<c/\(c:Int)<=fit:=by
 obtain⟨_,h1,h2,h3⟩:=h;have mem:∀x∈(UK b (i+1) fit).map (kO b),∃c:Nat,x.i=c/\i<c/\(c:Int)<=fit:=λx hx=>by
  obtain⟨k,hk,rfl⟩:=fM.1 hx;unfold UK sW at hk;rw[List.mem_range'_1]at hk;exact⟨k,rfl,by omega,by omega⟩
 unfold uN;split
 .refine mem _ (Dp ?_ _);intro e;have:=congrArg List.length e;simp[UK,sW]at this;omega
 .rename_i hn;rcases DI iQ ((UK b (i+1) fit).map (kO b)) uT with h|h
  .exact absurd (show fa b (i+1) fit<0 by unfold fa;rw[h];decide) hn
  .exact mem _ h
def RY.set{b:Bk}{K:ag}{ix:Nat}{x:Wx}{U:ag}{vh vf vl:V}(h:RY b K ix x U vh vf vl)(x':Wx)(h1:x'.hs=x.hs)(h2:x'.fs=x.fs)(h3:x'.ls=x.ls):RY b K ix x' (C' U ix (dF b x' vh vf vl)) vh vf vl:=by
 have k2:bo K ix ix≠none:=λh=>(aL.1 h).1 rfl;exact⟨Vc.af,h1▸h.oh.ab k2,h2▸h.of.ab k2,h3▸h.ol.ab k2,h.hf,h.hl,h.fl,h.sub.aD h.no,h.no⟩
def eA(b:Bk)(x:Wx):Int:=iz b.atoms x.s (x.body-x.shift)
def eH(b:Bk)(x:Wx):Int:=lq b.atoms x.s (eA b x) x.shift x.body
def yN(b:Bk)(x:Wx):Int:=uN b.PQ x.s.atom (eH b x)
def uZ(b:Bk)(x:Wx)(kept:Int)(cut:Nat):Wx:=(x.add (cO b x kept (cut-x.s.atom.toNat))).put (fB b.atoms b.P6 x.s cut kept x.shift x.body).1
def x8(b:Bk)(x:Wx)(kept:Int)(cut:Nat):Sf:=⟨⟨cut,0,decide ((b.PQ.getD cut ⟨0,0,0⟩).forced≠0)⟩,(fB b.atoms b.P6 x.s cut kept x.shift x.body).2⟩
def gV(b:Bk)(x:Wx):Wx:=if gb b.PQ x.s.atom (eH b x)then uZ b { x with kind:=1 } (eA b x) (yN b x).toNat else vp b { x with kind:=1 }
def iq(b:Bk)(x:Wx):Sf:=if gb b.PQ x.s.atom (eH b x)then x8 b { x with kind:=1 } (eA b x) (yN b x).toNat else uz b { x with kind:=1 }
def H4(b:Bk)(hb:BkOk b)(x:Wx)(hm:cM b.atoms x.s)(hx:x.fs.length<=1000000)(ZT:x.ls.length<=1000000)(hh:0<=x.high/\x.high<=1125899906842624)(YJ:0<=x.body/\x.body<=1125899906842624)
 (SZ:0<=x.shift/\x.shift<=1125899906842624){K U:ag}{i1:Nat}{vh vf vl:V}(hJ:RY b K i1 x U vh vf vl):
 aB prog 104 [.ptr i1 0 0] U λr Z'=>∃TV SV,r=dz (iq b x)/\RY b K i1 (gV b x) Z' vh TV SV:=by
 refine NY.r (by simp[LR]) ?_;have hs:=aa.refl U;have To:bW b=.agg [aQ b.nodes,vI b.w,vI b.h,bH b.atoms,aS b.P6,vI b.PM,bV b.PQ]:=rfl;have a1:=hJ.row;rw[dF]at a1;obtain⟨ch,sh⟩:=hJ.oh.vc;obtain⟨cf,sf⟩:=hJ.of.vc;obtain⟨cl,sl⟩:=hJ.ol.vc;have hd:=wQ hb hm;have hk:=xi hb x.s (x.body-x.shift);have hlen:=hb.len;have QX:=hb.WL;have VC:=CB b.atoms hb.Qf x.s (x.body-x.shift);have hRc:=Ah b.atoms hb.Qf x.s (by omega) (eA b x) x.shift x.body hk ⟨by omega,by omega⟩;have hCc:=Lm b.PQ (by omega) x.s.atom (eH b x);have VP:eH b x<=b.atoms.length:=xj;have Vu:gb b.PQ x.s.atom (eH b x)->∃c:Nat,yN b x=c/\x.s.atom<c/\(c:Int)<=eH b x:=λh=>yY h (by omega);have hXk:eA b x=iz b.atoms x.s (x.body-x.shift):=rfl;rw[<-hXk]at VC hk;have hXr:eH b x=lq b.atoms x.s (eA b x) x.shift x.body:=rfl;rw[<-hXr]at hRc;have hXc:yN b x=uN b.PQ x.s.atom (eH b x):=rfl;rw[<-hXc]at hCc;have r1:PY .i64 (x.body-x.shift):=ar;rw[aF]at VC hRc;unfold gV iq;generalize eA b x=kept at*;generalize eH b x=reach at*;generalize yN b x=cut at*;refine ae.mix 8 ?_;apply sR;simp only[go_sem,seval,LR];refine ad λi2 Z2 s2 a2 f2=>?_;have ZU:=al a1 f2;replace a1:=s2 _ _ a1;have z2:=hs.none f2;replace hs:=hs.trans s2;have k2:K i2=none:=hJ.sub.none f2;have Vk:=hJ.oE s2 f2 a2;simp only[go_sem,seval,a1,To,gJ,r1];refine Go.bZ rfl rfl rfl VC ?_;apply sG;simp only[go_sem,seval,a1,To,Ge];refine Go.bZ rfl rfl rfl hRc ?_;apply sG;simp only[go_sem,seval];refine Go.bZ rfl rfl rfl hCc ?_;have Wz:=Vk.set { x with kind:=1 } rfl rfl rfl;rw[dF]at Wz;by_cases P5:gb b.PQ x.s.atom reach
 .obtain⟨c,rfl,h1,h2⟩:=Vu P5;rw[Rt P5,aE P5,aE P5,aE P5,fp];apply sG;simp only[go_sem,seval,a1];generalize hq1:C' Z2 i1 _=Y1 at*;have hw:aB prog 129 [.ptr i1 0 0,vI kept,vI c] Y1 λr Z'=>∃TV SV,r=dz (x8 b { x with kind:=1 } kept c)/\RY b (C' K i2 ⟨134,4,[.agg [vI 0,vI 0,.bool false,.aT]]⟩) i1 (uZ b { x with kind:=1 } kept c) Z' vh TV SV:=FK b hb { x with kind:=1 } hm (by show x.s.done<=_;omega) hx ZT (by show 0<=x.high/\x.high<=_;omega) kept hk (by show 0<=x.shift/\x.shift<=_;omega) c (by show x.s.atom<=_;omega) (by omega) Wz;generalize x8 b { x with kind:=1 } kept c=Z at*;generalize uZ b { x with kind:=1 } kept c=Y at*;refine ae.kS rfl rfl rfl hw ?_;rintro r Z' ⟨TV,SV,rfl,RK⟩;have c2:=RK.sub _ _ af;apply sR;simp only[go_sem,seval,c2,dz,aO,aP];exact⟨_,_,aa.refl _,Wk.refl (aa.refl _) _,TV,SV,rfl,RK.drop k2 _⟩
 .rw[Rv P5,aH P5,aH P5,aH P5];apply sG;simp only[go_sem,seval,a1];generalize hq1:C' Z2 i1 _=Y1 at*;have hw:aB prog 128 [.ptr i1 0 0,vI kept,vI 0] Y1 λr Z'=>∃TV SV,r=dz (uz b { x with kind:=1 })/\RY b (C' K i2 ⟨134,4,[.agg [vI 0,vI 0,.bool false,.aT]]⟩) i1 (vp b { x with kind:=1 }) Z' vh TV SV:=Ia b hb { x with kind:=1 } hm (by show x.s.done<=_;omega) hx ZT (by show 0<=x.high/\x.high<=_;omega) kept 0 Wz;generalize uz b { x with kind:=1 }=Z at*;generalize vp b { x with kind:=1 }=Y at*;refine ae.kS rfl rfl rfl hw ?_;rintro r Z' ⟨TV,SV,rfl,RK⟩;have c2:=RK.sub _ _ af;apply sR;simp only[go_sem,seval,c2,dz,aO,aP];exact⟨_,_,aa.refl _,Wk.refl (aa.refl _) _,TV,SV,rfl,RK.drop k2 _⟩
open Go.Proofs Go.Proofs.Tryz
def rR(body:Int)(f:PI):Bool:=decide (f.y+f.h<=body)
def wF(b:Bk)(x:Wx):Wx:={ (x.put (b.P6.takeWhile (rR x.body)))with kind:=2 }
def oy(b:Bk)(x:Wx):Sf:=⟨⟨0,0,false⟩,b.P6.dropWhile (rR x.body)⟩
def yS{P:List PI}{j:Nat}(h:j<=P.length):∀U,cP U 7 (aS P) none (some (.int .i64 j)) none=some (aS (P.take j)):=λU=>by
 have h1:(j:Int)<=P.length:=by omega
 simp only[aS,cP,bR,du];rw[aE ⟨Int.le_refl _,by omega,h1,Int.le_refl _,trivial⟩];simp[List.map_take]
def xX{α:Type}{p:α->Bool}:∀{l:List α} {j:Nat},(∀x∈l.take j,p x=true)->(∀x,l[j]?=some x->p x=false)->j<=l.length->l.takeWhile p=l.take j/\l.dropWhile p=l.drop j
 |[],j,_,_,h=>by simp
 |x::l,0,_,h2,_=>by
  have:=h2 x rfl;simp[List.takeWhile_cons,List.dropWhile_cons,this]
 |x::l,j+1,h1,h2,h=>by
  have hx:=h1 x (by simp);have ih:=xX (p:=p) (l:=l) (j:=j) (λy hy=>h1 y (by simp[hy])) (λy hy=>h2 y (by simpa using hy)) (by simpa using h);simp[List.takeWhile_cons,List.dropWhile_cons,hx,ih.1,ih.2]
def EO(b:Bk)(hb:BkOk b)(x:Wx)(ZT:x.ls.length<=1000000)(hh:0<=x.high/\x.high<=1125899906842624){K U:ag}{i1:Nat}{vh vf vl:V}(hJ:RY b K i1 x U vh vf vl):
 aB prog 100 [.ptr i1 0 0] U λr Z'=>∃SV,r=dz (oy b x)/\RY b K i1 (wF b x) Z' vh vf SV:=by
 refine Pz.r (by simp[Md]) ?_;have hs:=aa.refl U;have To:bW b=.agg [aQ b.nodes,vI b.w,vI b.h,bH b.atoms,aS b.P6,vI b.PM,bV b.PQ]:=rfl;have a1:=hJ.row;rw[dF]at a1;obtain⟨ch,sh⟩:=hJ.oh.vc;obtain⟨cf,sf⟩:=hJ.of.vc;obtain⟨cl,sl⟩:=hJ.ol.vc;have hfn:=hb.Un;have V1:=fP b.P6;unfold wF oy;refine ae.mix 5 ?_;apply sR;simp only[go_sem,seval,Md];refine ad λi2 Z2 s2 a2 f2=>?_;have ZU:=al a1 f2;replace a1:=s2 _ _ a1;have z2:=hs.none f2;replace hs:=hs.trans s2;have k2:K i2=none:=hJ.sub.none f2;have Vk:=hJ.oE s2 f2 a2;simp only[go_sem,seval,a1,To,CN];refine ae.jd (λst=>∃j:Nat,j<=b.P6.length/\b.P6.takeWhile (rR x.body)=b.P6.take j/\b.P6.dropWhile (rR x.body)=b.P6.drop j/\st.U=Z2/\st.s 0=.ptr i1 0 0/\st.s 2=.ptr i2 0 0/\st.s 3=vI j/\st.s 4=aS b.P6)
  (λm st=>∃j:Nat,j<=b.P6.length/\m=b.P6.length-j/\(∀f∈b.P6.take j,rR x.body f=true)/\st.U=Z2/\st.s 0=.ptr i1 0 0/\st.s 2=.ptr i2 0 0/\st.s 3=vI j/\st.s 4=aS b.P6) b.P6.length ?_ ?_ ?_
 .exact⟨0,by omega,rfl,by simp,rfl,rfl,rfl,rfl,rfl⟩
 .rintro m ⟨S,J⟩ ⟨j,hj,rfl,Qz,Qj,t0,t2,t3,t4⟩;simp only at Qj t0 t2 t3 t4;subst Qj;refine ae.mix 5 ?_;by_cases H':j<b.P6.length
  .have q:((j:Int)<b.P6.length)=True:=PK;have O':=λU=>kP (U:=U) H';have Tu:aX b.P6[j]=.agg [vI b.P6[j].node,vI b.P6[j].side,vI b.P6[j].anchor,vI b.P6[j].x,vI b.P6[j].y,vI b.P6[j].w,vI b.P6[j].h]:=rfl;obtain⟨_,⟨o1,o2⟩,_,o3,o4⟩:=hb.Xc _ (QL H');have QF:b.P6.take (j+1)=b.P6.take j++[b.P6[j]]:=Tp H';have Rp:b.P6[j]?=some b.P6[j]:=Tq H';generalize b.P6[j]=f at*;have r1:PY .i64 (f.y+f.h):=ar;have r2:PY .i64 ((j:Int)+1):=ar;by_cases hle:f.y+f.h<=x.body
   .have q1:(f.y+f.h<=x.body)=True:=PK hle;apply sR;simp only[go_sem,seval,t0,t2,t3,t4,V1,q,O',Tu,a1,r1,q1,r2];refine⟨_,?_,j+1,by omega,rfl,?_,by simp[t0,t2,t4]⟩
    .omega
    .rw[QF];intro g hg;rcases ei.1 hg with hg|hg
     .exact Qz g hg
     .simp at hg;subst hg;exact Rt hle
   .have q1:(f.y+f.h<=x.body)=False:=PF hle;apply sR;simp only[go_sem,seval,t0,t2,t3,t4,V1,q,O',Tu,a1,r1,q1];obtain⟨e1,e2⟩:=xX Qz (λg hg=>by rw[Rp]at hg;cases hg;exact Rv hle) hj;exact⟨j,hj,e1,e2,by simp[t0,t2,t3,t4]⟩
  .have q:((j:Int)<b.P6.length)=False:=PF;apply sR;simp only[go_sem,seval,t0,t2,t3,t4,V1,q,a1];obtain⟨e1,e2⟩:=xX Qz (λg hg=>by rw[rC (by omega)]at hg;cases hg) hj;exact⟨j,hj,e1,e2,by simp[t0,t2,t3,t4]⟩
 .rintro⟨S,J⟩ ⟨j,hj,e1,e2,Qj,t0,t2,t3,t4⟩;simp only at Qj t0 t2 t3 t4;subst Qj;rw[e1,e2];have TD:=yS hj;have hsl2:=qW hj;refine ae.mix 5 ?_;apply sR;simp only[BB,seval,<-decide_not,bx,fb,aM,dn,dk,dp,dv,dG,bO,jj,fG,bz,eR,dr,eQ,cD,bR,gW,cm,cA,cd,QS,jv,cV,bP,jX,cX,bX,cQ,cC,jf,binBV,bK,cW,V.cells,V.stays,Rd.nothing,t0,t2,t3,t4,TD];refine ae.call rfl rfl rfl (nQ b (b.P6.take j) (by rw[kK];omega) x ZT (λf hf=>by
   obtain⟨_,⟨o1,o2⟩,_,o3,o4⟩:=hb.Xc f (qL hf);exact ar) Vk) ?_
  rintro r Z' ⟨SV,RK⟩;have c2:=RK.sub _ _ af;have b1:=RK.row;have n12':i1≠i2:=ZU;rw[dF]at b1;generalize x.put (b.P6.take j)=y at*;have Wz:=RK.set { y with kind:=2 } rfl rfl rfl;rw[dF]at Wz;apply sR;simp only[BB,seval,<-decide_not,bx,fb,aM,dn,dk,dp,dv,dG,bO,jj,fG,bz,eR,dr,eQ,cD,bR,gW,cm,cA,cd,QS,jv,cV,bP,jX,cX,bX,cQ,cC,jf,binBV,bK,cW,V.cells,V.stays,Rd.nothing,t0,t2,t3,t4,b1,hsl2];generalize hq1:C' Z' i1 _=Y1 at*;replace c2:=Wz.sub _ _ af;refine ae.aC rfl rfl rfl (zi (b.P6.drop j) (by rw[wh];omega) _) ?_;apply sR;simp only[go_sem,seval,c2,t2,aO,aP];exact⟨_,_,aa.refl _,Wk.refl (aa.refl _) _,SV,rfl,Wz.drop k2 _⟩
open Go.Proofs Go.Proofs.Tryz
def bM.lt:bM->bM
 |.seq a _=>a
 |c=>c
def bM.bd:bM->bM
 |.block _ a=>a
 |c=>c
structure BkFull(b:Bk):Prop extends BkOk b where
 sY:ed b.nodes
 WI:Qy b.nodes=true
 h1:1<=b.h
 h2:b.h<=1099511627776
 nod:∀a∈b.atoms,0<=a.node/\a.node<b.nodes.length
def bw(b:Bk)(s:PH):Kp:=if b.atoms=[]then⟨[],0,b.h⟩else rh b.nodes (R8 b.atoms (min s.atom ((b.atoms.length:Int)-1))).node b.h
def VK(l:List Nd)(w:Int)(p:List RR×Int)(a:Int):List RR×Int:=(p.1++[⟨a,-1,0,0,p.2,w,(SI l a).head⟩],p.2+(SI l a).head)
def Ty(l:List Nd)(w:Int)(L:List Int):List RR×Int:=L.foldl (VK l w) ([],0)
def Ao(l:List Nd)(w:Int)(L:List Int)(a:Int):Ty l w (L++[a])=VK l w (Ty l w L) a:=by
 unfold Ty;rw[wc];rfl
def HU(l:List Nd)(w:Int):∀(L:List Int),(Ty l w L).1.length=L.length:=by
 have key:∀(L:List Int) (p:List RR×Int),(L.foldl (VK l w) p).1.length=p.1.length+L.length:=by
  intro L
  induction L with
  |nil=>intro p;rfl
  |cons a L ih=>intro p;rw[kf,ih];simp[VK];omega
 intro L;have:=key L ([],0);simpa[Ty]using this
def Cv(l:List Nd)(w:Int)(L:List Int)(h:∀a∈L,0<=(SI l a).head)(j:Nat):0<=(Ty l w (L.take j)).2/\(Ty l w (L.take j)).2<=(Ty l w L).2:=by
 have key:∀(L:List Int),(∀a∈L,0<=(SI l a).head)->∀(p:List RR×Int),p.2<=(L.foldl (VK l w) p).2:=by
  intro L
  induction L with
  |nil=>intro _ p;exact Int.le_refl _
  |cons a L ih=>
   intro h p;rw[kf];have h1:=ih (λx hx=>h x (by simp[hx])) (VK l w p a);have h2:=h a (by simp);simp only[VK]at h1|-;omega
 refine⟨key (L.take j) (λa ha=>h a (qL ha)) ([],0),?_⟩;have e:Ty l w L=(L.drop j).foldl (VK l w) (Ty l w (L.take j)):=by
  rw[Ty,Ty,<-wc,ua]
 rw[e];exact key _ (λa ha=>h a (List.mem_of_mem_drop ha)) _
def uf{l:List Nd}{L:List Int}{h:Int}:∀m,m<=L.length->∀a∈(gP l L h m).Qa,a∈L
 |0,_,a,ha=>by simp[gP]at ha
 |m+1,hm,a,ha=>by
  rw[gP,jN]at ha;split at ha
  .exact uf m (by omega) a ha
  .simp only[ei,iW]at ha;rcases ha with ha|ha
   .exact uf m (by omega) a ha
   .rw[ha];have H':L.length-1-m<L.length:=by omega
    have hg:L.getD (L.length-1-m) 0=L[L.length-1-m]:=by simp[H']
    rw[hg];exact QL H'
def qu{l:List Nd}{L:List Int}{h w:Int}:∀m,(Ty l w (gP l L h m).Qa).2=(gP l L h m).high
 |0=>rfl
 |m+1=>by
  rw[gP,jN];split
  .exact qu m
  .simp only[Ao,VK];rw[qu m]
structure Og(b:Bk)(k:Kp):Prop where
 len:k.Qa.length<=1000000
 mem:∀a∈k.Qa,∃n:Nat,a=n/\n<b.nodes.length
 sum:(Ty b.nodes b.w k.Qa).2=k.high
 high:0<=k.high/\k.high<=1099511627776
 body:0<=k.body/\k.body<=1099511627776
def yk{b:Bk}(hb:BkFull b)(s:PH):Og b (bw b s):=by
 have h1:=hb.h1;have h2:=hb.h2;have hn:b.nodes.length<=100000:=by have:=hb.sY.1;omega
 unfold bw;split
 .exact⟨by simp,by simp,rfl,by simp,by simp;omega⟩
 .unfold rh;split
  .rename_i hc;obtain⟨_,h3,h4⟩:=hc;generalize (R8 b.atoms (min s.atom ((b.atoms.length:Int)-1))).node=a at*;have ha:a.toNat<b.nodes.length:=by omega
   have Vb:∀x∈TU b.nodes a.toNat,∃n:Nat,x=n/\n<b.nodes.length:=λx hx=>by
    obtain⟨n,h1,h2⟩:=pC ha x hx;exact⟨n,h1,by omega⟩
   have hi:=pV hb.WI Vb (by omega:0<=b.h) (TU b.nodes a.toNat).length (Qt _);have hl:(TU b.nodes a.toNat).length<=b.nodes.length+1:=jD _ _ _;unfold yG;exact⟨by omega,λx hx=>Vb x (uf _ (Qt _) x hx),qu _,by omega,by omega⟩
  .exact⟨by simp,by simp,rfl,by simp,by simp⟩
def cH(b:Bk)(s:PH)(hv:V):Wx:=⟨hv,(bw b s).high,(bw b s).body,s,0,(Ty b.nodes b.w (bw b s).Qa).1,[],[],0⟩
def G3(b:Bk)(hb:BkFull b)(s:PH)(QP:0<=s.atom)(U:ag):
 aB prog 99 [.rp (bW b),aF s] U λr Z'=>∃i1 vh hv,r=.ptr i1 0 0/\RY b U i1 (cH b s hv) Z' vh .aT .aT:=by
 refine e99.r (by simp[c99]) ?_;have hs:=aa.refl U;have To:bW b=.agg [aQ b.nodes,vI b.w,vI b.h,bH b.atoms,aS b.P6,vI b.PM,bV b.PQ]:=rfl;have SJ:(aF s).cells=[vI s.atom,vI s.done,.bool s.free]:=rfl;have Tc:(aF s).stays=true:=rfl;have Ui:=jm b.atoms;have hlen:=hb.len;refine ae.mix 11 ?_;apply sR;simp only[go_sem,seval,c99,SJ,Tc];refine ad λi3 Z3 s3 a3 f3=>?_;have z3:=hs.none f3;replace hs:=hs.trans s3;rw[aF]at a3;simp only[go_sem,seval,a3,To];refine bc λZt Z19 Yr Vd f19=>?_;have n319:=al a3 f19;replace a3:=Yr _ _ a3;have z19:=hs.none f19;replace hs:=hs.trans Yr;have hr:=yk hb s;unfold cH;have hJ0:∀(hv:V) (k:Kp) (J:ag),J Zt=some (dF b ⟨hv,k.high,k.body,s,0,[],[],[],0⟩ .aT .aT .aT)->aa U J->RY b U Zt ⟨hv,k.high,k.body,s,0,[],[],[],0⟩ J .aT .aT .aT:=λhv k J h h2=>
  ⟨h,aU.start,aU.start,aU.start,dZ.aT _,dZ.aT _,dZ.aT _,h2,z19⟩
 have fin:∀(S:Nat->V) (J:ag) (hv:V),dR false hv=some (.int .i64 (bw b s).Qa.length)->(∀(j:Nat) (h:j<(bw b s).Qa.length) (U:ag),bS U 1 hv (.int .i64 j)=some (.rp (vI (bw b s).Qa[j])))->
  J Zt=some (dF b ⟨hv,(bw b s).high,(bw b s).body,s,0,[],[],[],0⟩ .aT .aT .aT)->aa U J->S 0=.rp (bW b)->S 5=.ptr Zt 0 0->S 7=vI 0->S 57=hv->S 58=vI (bw b s).Qa.length->S 59=vI 0->
  ae prog 96 [It.code c99.code.rt.rt.rt.rt.lt.rt.bd,It.inBlock 0,It.code c99.code.rt.rt.rt.rt.rt] ⟨S,J⟩ λst=>TF [.tmp (.t 4)] st λr Z'=>∃i1 vh hv,r=.ptr i1 0 0/\RY b U i1 ⟨hv,(bw b s).high,(bw b s).body,s,0,(Ty b.nodes b.w (bw b s).Qa).1,[],[],0⟩ Z' vh .aT .aT:=by
  intro S J hv hlL VE h19 hsZ t0 t5 t7 t57 t58 t59;have hJ:=hJ0 _ _ _ h19 hsZ;clear hJ0 h19 hsZ hs a3 Vd;generalize bw b s=k at*;obtain⟨L,high,body⟩:=k;obtain⟨r1,r2,r3,⟨r4,r5⟩,_⟩:=hr;simp only at r1 r2 r3 r4 r5 hJ hlL VE t58|-;have XY:∀a∈L,0<=(SI b.nodes a).head:=λa ha=>by
   obtain⟨n,rfl,hn⟩:=r2 a ha;rw[j1 hn];exact(gO hb.WI hn).st.head.1
  have Vd:=hJ.row;rw[dF]at Vd;refine ae.mix 60 ?_;simp only[c99,bM.rt,bM.lt,bM.bd];refine ae.loop (λm st=>∃(j:Nat) (vh:V),j<=L.length/\m=L.length-j/\RY b U Zt ⟨hv,high,body,s,0,(Ty b.nodes b.w (L.take j)).1,[],[],0⟩ st.U vh .aT .aT/\st.s 0=.rp (bW b)/\st.s 5=.ptr Zt 0 0/\st.s 7=vI (Ty b.nodes b.w (L.take j)).2/\st.s 57=hv/\st.s 58=vI L.length/\st.s 59=vI j) L.length ?_ ?_
  .exact⟨0,.aT,by omega,rfl,hJ,t0,t5,t7,t57,t58,t59⟩
  .clear hJ Vd t0 t5 t7 t57 t58 t59;rintro m ⟨S,J⟩ ⟨j,vh,hj,rfl,hJ,t0,t5,t7,t57,t58,t59⟩;simp only at hJ t0 t5 t7 t57 t58 t59;refine ae.mix 60 ?_;by_cases H':j<L.length
   .have q:((j:Int)<L.length)=True:=PK;obtain⟨n,hn,Si⟩:=r2 _ (QL H');have O':=VE j H';have Rh:=λU=>jZ b.nodes Si U;have jA:=Cv b.nodes b.w L XY j;have Zv:=Cv b.nodes b.w L XY (j+1);have hlk:=HU b.nodes b.w (L.take j);have hlt2:(L.take j).length=j:=by rw[kK];omega
    have QF:L.take (j+1)=L.take j++[(n:Int)]:=by rw[Tp H',hn]
    have UG:Ty b.nodes b.w (L.take (j+1))=VK b.nodes b.w (Ty b.nodes b.w (L.take j)) n:=by rw[QF,Ao]
    rw[r3]at jA Zv;rw[UG]at Zv;rw[hn]at O';generalize Ty b.nodes b.w (L.take j)=X at*;obtain⟨F,y⟩:=X;simp only[VK,j1 Si]at jA Zv hlk hJ t7 UG;have q1:PY .i64 (y+b.nodes[n].st.head):=ar;have q2:PY .i64 ((j:Int)+1):=ar;have Vd:=hJ.row;rw[dF]at Vd;obtain⟨cv,sv⟩:=hJ.oh.vc;generalize b.nodes[n]=nd at*;have hs:=aa.refl J;apply sR;simp only[go_sem,seval,t0,t5,t7,t57,t58,t59,q,O',Rh,Nd.cells,Vd,To,M1,cv,sv];refine bc λi86 Z86 s86 a86 f86=>?_;have SG:=hJ.mono s86;obtain⟨PU,QW,Ww⟩:=At SG.sub SG.no SG.row SG.oh;have Tu:(F.map aY).length<=1000000:=by rw[du];omega
    generalize Zu:F.map aY=rows at*;have QD:(rows.length+1)*57<=140737488355328:=by omega
    simp only[go_sem,seval,QW,dj a86,QD];refine kB λi87 Z87 s87 a87 f87=>?_;obtain⟨b1,hg⟩:=Ww Z87 i87 _ s87 a87 f87;rw[dF]at b1;obtain⟨g1,g2,g3⟩:=hg (dF b ⟨hv,high,body,s,0,F++[⟨n,-1,0,0,y,b.w,nd.st.head⟩],[],[],0⟩ (.own i87 0 (rows.length+1)) .aT .aT);simp only[go_sem,seval,b1,t0,t5,t7,t57,t58,t59,cv,sv,q1,q2];refine⟨_,?_,j+1,.own i87 0 (rows.length+1),by omega,rfl,?_,rfl,?_,rfl⟩
    .omega
    .rw[UG];rw[gY]at g2;refine⟨af,?_,aU.start,aU.start,(dZ.aT _).symm,(dZ.aT _).symm,dZ.aT _,g1,hJ.no⟩;show aU _ _ _ _ _ ((F++[_]).map aY);rw[fC,Zu];exact g2
    .rw[UG]
   .have q:((j:Int)<L.length)=False:=PF;have Rf:j=L.length:=by omega
    rw[Rf,jK]at hJ;apply sR;simp only[go_sem,seval,t0,t5,t7,t57,t58,t59,q];exact⟨_,_,aa.refl _,Wk.refl (aa.refl _) _,Zt,vh,hv,rfl,hJ⟩
 by_cases he:b.atoms=[]
 .have q:((b.atoms.length:Int)>0)=False:=by rw[he];simp
  have hre:bw b s=⟨[],0,b.h⟩:=aE he;simp only[go_sem,seval,Vd,a3,gJ,Ui,To,q];rw[hre]at fin|-;rw[<-To]at Vd;refine fin _ _ .aT rfl (λj h=>by simp at h) Vd hs ?_ ?_ ?_ ?_ ?_ ?_<;>rfl
 .have hl0:0<b.atoms.length:=vM.2 he;have q:((b.atoms.length:Int)>0)=True:=PK;have r1:PY .i64 ((b.atoms.length:Int)-1):=ar;obtain⟨k,hk⟩:∃k:Nat,min s.atom ((b.atoms.length:Int)-1)=k:=⟨(min s.atom ((b.atoms.length:Int)-1)).toNat,by omega⟩
  have Q6:k<b.atoms.length:=by omega
  have O':=λU=>jr (U:=U) Q6;have hre:bw b s=rh b.nodes b.atoms[k].node b.h:=by rw[bw,aH he,hk,bG Q6]
  have hc:=Ja b.nodes hb.sY b.atoms[k].node b.h;rw[<-hre]at hc;simp only[go_sem,seval,Vd,a3,gJ,Ui,To,q,dL];refine ae.pF (by kernel_rfl) [0,1,2,3,4,5,6,7,8,9,10,11,12,13,14,15,16,17,18,19,20,21,22,23,24,25] [[],[],[1],[1,2],[1,2,3],[],[5],[5,6],[5,6,7],[5,6,7,8],[],[10],[],[12],[10,11,12,13],[5,6,7,8,9,10,11,12,13,14],[5,6,7,8,9,10,11,12,13,14,15],[5,6,7,8,9,10,11,12,13,14,15,16],[],[18],[18,19],[18,19,20],[1,2,3,4,5,6,7,8,9,10,11,12,13,14,15,16,17,18,19,20,21],[0,1,2,3,4,5,6,7,8,9,10,11,12,13,14,15,16,17,18,19,20,21,22],[0,1,2,3,4,5,6,7,8,9,10,11,12,13,14,15,16,17,18,19,20,21,22,23],[0,1,2,3,4,5,6,7,8,9,10,11,12,13,14,15,16,17,18,19,20,21,22,23,24]] [0,2,4,6,8,10,12,14,16,18,20,22,24,26,28,30,32,34,36,38,40,42,44,46,48,50] (by kernel_rfl) (by kernel_rfl) ?_;refine RE.Qx (n:=0) [44,46,48,50] [0,2,4,6,8,10,12,14,16,18,20,22,24,26,28,30,32,34,36,38,40,42] [⟨(.some 28),(.Qc (.t 5)),.none⟩,⟨(.some 29),(.Qc (.t 0)),.none⟩,⟨(.some 30),(.nilCheck (.t 29)),.none⟩,⟨(.some 31),(.P9 .false 0 1 (.t 30)),.none⟩,⟨(.some 32),(.load .false 1 (.t 31)),.none⟩,⟨(.some 33),(.Qc (.t 0)),.none⟩,⟨(.some 34),(.nilCheck (.t 33)),.none⟩,⟨(.some 35),(.P9 .true 3 3 (.t 34)),.none⟩,⟨(.some 36),(.P9 .false 0 1 (.t 35)),.none⟩,⟨(.some 37),(.load .false 1 (.t 36)),.none⟩,⟨(.some 38),(.P9 .false 0 1 (.t 3)),.none⟩,⟨(.some 39),(.load .false 1 (.t 38)),.none⟩,⟨(.some 40),(.Qc (.t 6)),.none⟩,⟨(.some 41),(.bin .sub (.t 40) (.c (.int .i64 1))),.none⟩,⟨(.some 42),(.TA .false (.t 39) (.t 41)),.none⟩,⟨(.some 43),(.TZ 8 (.t 37) (.t 42)),.none⟩,⟨(.some 44),(.P9 .false 1 1 (.t 43)),.none⟩,⟨(.some 45),(.load .false 1 (.t 44)),.none⟩,⟨(.some 46),(.Qc (.t 0)),.none⟩,⟨(.some 47),(.nilCheck (.t 46)),.none⟩,⟨(.some 48),(.P9 .false 2 1 (.t 47)),.none⟩,⟨(.some 49),(.load .false 1 (.t 48)),.none⟩] rfl rfl ?_;apply sG;simp only[go_sem,seval,Vd,a3,To,gJ,M1,r1,fo,hk,O',dC];rw[sP]at hc;refine RE.aC rfl rfl rfl rfl rfl (hc _) ?_;refine RE.Qx (n:=0) [] [46,48,50] [⟨(.some 51),(.nilCheck (.t 28)),.none⟩,⟨(.some 52),(.P9 .true 0 3 (.t 51)),.none⟩,⟨.none,(.store 3 (.t 52) (.t 50)),.none⟩] rfl rfl ?_;apply sG;simp only[go_sem,seval,Vd,ak,au];have hlL:=fU (bw b s).Qa;apply sR;simp only[go_sem,seval,hlL];rw[<-To];refine fin _ _ (bD (bw b s).Qa) hlL (λj h U=>iZ h) af (hs.aD z19) ?_ ?_ ?_ ?_ ?_ ?_<;>rfl
open Go.Proofs Go.Proofs.Tryz
def V2(b:Bk):bW b=.agg [aQ b.nodes,vI b.w,vI b.h,bH b.atoms,aS b.P6,vI b.PM,bV b.PQ]:=rfl
def tf(b:Bk)(hb:1<=b.h):bb prog 65 [.rp (bW b)] (.bool false):=λU=>by
 refine e65.r (by simp[c65]) ?_;have q:(b.h=0)=False:=PF;refine ae.mix 3 ?_;apply sR;simp only[go_sem,seval,c65,V2,q,GX];exact av.same rfl
def Dz(b:Bk)(hb:BkFull b)(U:ag):aB prog 42 [.rp (bW b)] U λr Z'=>aa U Z'/\aU U Z' 120 3 r (b.PQ.map fT):=by
 refine e42.r (by simp[c42]) ?_;have h1:=hb.WL;have h2:=hb.len;refine ae.mix 3 ?_;apply sR;simp only[go_sem,seval,c42];refine ae.aC rfl rfl rfl (tf b hb.h1 _) ?_;apply sR;simp only[go_sem,seval,V2,Ge];refine ae.call rfl rfl rfl (uC func76 (e76.b.trans rfl) e76.c (b.PQ.map fT) (by simp;omega) _) ?_;rintro r Z' ⟨hs,ho⟩;apply sR;simp only[go_sem,seval];exact⟨_,_,aa.refl _,Wk.refl (aa.refl _) _,hs,ho⟩
def ru(b:Bk):V:=.agg [bH b.atoms,aS b.P6,vI b.PM]
def qP(b:Bk)(hb:BkFull b):bb prog 35 [.rp (bW b)] (ru b):=λU=>by
 refine e35.r (by simp[c35]) ?_;have hs:=aa.refl U;have h2:=hb.len;have h3:=hb.Un;refine ae.mix 4 ?_;apply sR;simp only[go_sem,seval,c35];refine ad λi2 Z2 s2 a2 f2=>?_;have z2:=hs.none f2;replace hs:=hs.trans s2;simp only[go_sem,seval];refine ae.aC rfl rfl rfl (tf b hb.h1 _) ?_;apply sR;simp only[go_sem,seval,V2];refine ad λi3 Z3 s3 a3 f3=>?_;have n23:=al a2 f3;replace a2:=s3 _ _ a2;have z3:=hs.none f3;replace hs:=hs.trans s3;simp only[go_sem,seval,a3,aq,aO,ao,aP];generalize Yb:C' _ i3 _=X3;replace a3:=(congrFun Yb i3).symm.trans af;replace a2:=((congrFun Yb i2).symm.trans (ab n23)).trans a2;replace hs:=Eq.subst (motive:=aa _) Yb (hs.aD z3);clear Yb;refine Go.bZ rfl rfl rfl (GR b.atoms (by omega)) ?_;apply sG;simp only[go_sem,seval,a3];refine Go.bZ rfl rfl rfl (zi b.P6 (by omega)) ?_;apply sG;simp only[go_sem,seval,a3,a2,aq,aO,ao,aP,ab n23,ab n23];exact av.pure ((hs.aD z3).aD z2) rfl
def DD(b:Bk)(hb:BkFull b):bb prog 61 [.rp (bW b)] (dz ⟨⟨0,0,true⟩,[]⟩):=λU=>by
 refine e61.r (by simp[c61]) ?_;have hs:=aa.refl U;refine ae.mix 4 ?_;apply sR;simp only[go_sem,seval,c61];refine ad λi2 Z2 s2 a2 f2=>?_;have z2:=hs.none f2;replace hs:=hs.trans s2;simp only[go_sem,seval];refine ae.aC rfl rfl rfl (tf b hb.h1 _) ?_;apply sR;simp only[go_sem,seval,a2];refine⟨_,U,hs.aD z2,Wk.agg (vs':=[vI 0,vI 0,.bool true,aS []]) ⟨Wk.refl (hs.aD z2) _,Wk.refl (hs.aD z2) _,Wk.refl (hs.aD z2) _,Wk.aT 7,trivial⟩,rfl,rfl⟩
def A4(a:PI):∀(p:List PI) (i:Nat),oS a p i=-1\/∃k:Nat,oS a p i=((i+k:Nat):Int)/\k<p.length
 |[],_=>.inl rfl
 |q::r,i=>by
  rw[oS];split
  .exact .inr ⟨0,rfl,by simp⟩
  .rcases A4 a r (i+1)with h|⟨k,h1,h2⟩
   .exact .inl h
   .exact .inr ⟨k+1,by rw[h1];congr 1;omega,by simp;omega⟩
def rG(P6:List PI):List PI->Nat->Bool
 |[],_=>true
 |x::r,Qf=>if oS x (P6.drop Qf) 0<0 then false else rG P6 r (Qf+(oS x (P6.drop Qf) 0).toNat+1)
def mv(b:Bk)(s:Sf):Prop:=rG b.P6 s.cy 0=true/\(cM b.atoms s.s\/s.s.atom=b.atoms.length/\s.s.done=0)
instance (b:Bk) (s:Sf):Decidable (mv b s):=by unfold mv;infer_instance
def HF(b:Bk)(hb:BkFull b)(s:Sf)(hp:s.cy.length<=1000000):bb prog 98 [.rp (bW b),dz s] (.bool (decide (mv b s))):=λU=>by
 refine e98.r (by simp[c98]) ?_;have hs:=aa.refl U;have h2:=hb.len;have h3:=hb.Un;have V1:=fP s.cy;have RN:=jm b.atoms;refine ae.mix 13 ?_;apply sR;simp only[go_sem,seval,c98,dz,aO,aP];refine ad λi3 Z3 s3 a3 f3=>?_;have z3:=hs.none f3;replace hs:=hs.trans s3;simp only[go_sem,seval,a3,V1];refine ae.loop (λm st=>∃(j Qf:Nat),j<=s.cy.length/\m=s.cy.length-j/\Qf<=b.P6.length/\rG b.P6 s.cy 0=rG b.P6 (s.cy.drop j) Qf/\aa U st.U/\st.U i3=some ⟨134,4,[.agg [vI s.s.atom,vI s.s.done,.bool s.s.free,aS s.cy]]⟩/\st.s 0=.rp (bW b)/\st.s 3=.ptr i3 0 0/\st.s 5=vI Qf/\st.s 10=aS s.cy/\st.s 11=vI s.cy.length/\st.s 12=vI j) s.cy.length ?_ ?_
 .exact⟨0,0,by omega,rfl,by omega,rfl,hs,a3,rfl,rfl,rfl,rfl,rfl,rfl⟩
 .clear hs a3;rintro m ⟨S,J⟩ ⟨j,Qf,hj,rfl,RG,heq,hs,a3,t0,t3,t5,t10,t11,t12⟩;simp only at hs a3 t0 t3 t5 t10 t11 t12;refine ae.mix 13 ?_;by_cases H':j<s.cy.length
  .have q:((j:Int)<s.cy.length)=True:=PK;have O':=λU=>kP (U:=U) H';have Tu:aX s.cy[j]=.agg [vI s.cy[j].node,vI s.cy[j].side,vI s.cy[j].anchor,vI s.cy[j].x,vI s.cy[j].y,vI s.cy[j].w,vI s.cy[j].h]:=rfl;have hd:s.cy.drop j=s.cy[j]::s.cy.drop (j+1):=iy H';rw[hd,rG]at heq;have TD:=qW RG;generalize s.cy[j]=f at*;have hic:=Fx (b.P6.drop Qf) (by rw[wh];omega) f;rw[Tu]at hic;have r1:PY .i64 ((j:Int)+1):=ar;apply sR;simp only[go_sem,seval,t0,t3,t5,t10,t11,t12,q,O',Tu];refine ad λi7 Z7 s7 a7 f7=>?_;have X6:=al a3 f7;replace a3:=s7 _ _ a3;have z7:=hs.none f7;replace hs:=hs.trans s7;simp only[BB,seval,<-decide_not,bx,fb,aM,dn,dk,dp,dv,dG,bO,jj,fG,bz,eR,dr,eQ,cD,bR,gW,cm,cA,cd,QS,jv,cV,bP,jX,cX,bX,cQ,cC,jf,binBV,bK,cW,V.cells,V.stays,a7,V2,CN,t0,t3,t5,t10,t11,t12,TD];generalize Sx:C' _ i7 _=Y7;replace a7:=(congrFun Sx i7).symm.trans af;replace a3:=((congrFun Sx i3).symm.trans (ab X6)).trans a3;replace hs:=Eq.subst (motive:=aa _) Sx (hs.aD z7);clear Sx;refine Go.bZ rfl rfl rfl hic ?_;have Ui:(b.P6.drop Qf).length=b.P6.length-Qf:=wh;rcases A4 f (b.P6.drop Qf) 0 with h|⟨k,h,hk⟩
   .rw[h]at heq|-;rw[aE (by omega)]at heq;have hf:decide (mv b s)=false:=Rv λhm=>by rw[mv,heq]at hm;cases hm.1
    apply sG;simp only[go_sem,seval,t0,t3,t5,t10,t11,t12];rw[hf];exact av.pure hs rfl
   .rw[h,kI]at heq|-;rw[aH (by omega),fp]at heq;have q1:((k:Int)<0)=False:=PF;have r2:PY .i64 ((k:Int)+1):=ar;have r3:PY .i64 ((Qf:Int)+(k+1)):=ar;apply sG;simp only[go_sem,seval,t0,t3,t5,t10,t11,t12,q1,r1,r2,r3];refine⟨_,?_,j+1,Qf+k+1,by omega,rfl,by omega,heq,hs,a3,rfl,?_,rfl⟩
    .omega
    .show V.int _ _=V.int _ _;congr 1
  .have q:((j:Int)<s.cy.length)=False:=PF;have Rf:j=s.cy.length:=by omega
   rw[Rf,qx,rG]at heq;have hmc:=o7 b.atoms s.s;rw[aF]at hmc;apply sR;simp only[go_sem,seval,t0,t3,t5,t10,t11,t12,q,a3,V2,gJ];refine Go.bZ rfl rfl rfl hmc ?_;have fin:∀v:Bool,decide (mv b s)=v->av (.bool v) J λr Z'=>r=.bool (decide (mv b s))/\Z'=U:=λv h=>by rw[h];exact av.pure hs rfl
   by_cases hm:cM b.atoms s.s
   .have f:=fin true (Rt ⟨heq,.inl hm⟩);rw[Rt hm];generalize decide (mv b s)=B at*;apply sG;simp only[go_sem,seval];exact f
   rw[Rv hm];by_cases ha:s.s.atom=b.atoms.length
   .by_cases hd:s.s.done=0
    .have f:=fin true (Rt ⟨heq,.inr ⟨ha,hd⟩⟩);generalize decide (mv b s)=B at*;have q1:(s.s.atom=(b.atoms.length:Int))=True:=PK ha;have q2:(s.s.done=0)=True:=PK hd;apply sG;simp only[go_sem,seval,t0,t3,a3,V2,gJ,RN,q1,q2];exact f
    .have f:=fin false (Rv λh=>by rcases h.2 with h|h;exact hm h;exact hd h.2)
     generalize decide (mv b s)=B at*;have q1:(s.s.atom=(b.atoms.length:Int))=True:=PK ha;have q2:(s.s.done=0)=False:=PF hd;apply sG;simp only[go_sem,seval,t0,t3,a3,V2,gJ,RN,q1,q2];exact f
   .have f:=fin false (Rv λh=>by rcases h.2 with h|h;exact hm h;exact ha h.1)
    generalize decide (mv b s)=B at*;have q1:(s.s.atom=(b.atoms.length:Int))=False:=PF ha;apply sG;simp only[go_sem,seval,t0,t3,a3,V2,gJ,RN,q1];exact f
def iE(b:Bk)(s:Sf):Prop:=¬mv b s\/s.s.atom=b.atoms.length/\s.s.free=false/\s.cy=[]
instance (b:Bk) (s:Sf):Decidable (iE b s):=by unfold iE;infer_instance
def CK(b:Bk)(hb:BkFull b)(s:Sf)(hp:s.cy.length<=1000000):bb prog 62 [.rp (bW b),dz s] (.bool (decide (iE b s))):=λU=>by
 refine e62.r (by simp[c62]) ?_;have hs:=aa.refl U;have h2:=hb.len;have V1:=fP s.cy;have RN:=jm b.atoms;have hmc:=HF b hb s hp;rw[dz]at hmc;refine ae.mix 5 ?_;apply sR;simp only[go_sem,seval,c62,dz,aO,aP];refine ad λi3 Z3 s3 a3 f3=>?_;have z3:=hs.none f3;replace hs:=hs.trans s3;simp only[go_sem,seval];refine ae.aC rfl rfl rfl (tf b hb.h1 _) ?_;apply sR;simp only[go_sem,seval,a3];refine ae.aC rfl rfl rfl (hmc _) ?_;have fin:∀v:Bool,decide (iE b s)=v->av (.bool v) Z3 λr Z'=>r=.bool (decide (iE b s))/\Z'=U:=λv h=>by rw[h];exact av.pure hs rfl
 by_cases hm:mv b s
 .rw[Rt hm];by_cases ha:s.s.atom=b.atoms.length
  .have q1:(s.s.atom=(b.atoms.length:Int))=True:=PK ha;by_cases hf:s.s.free=true
   .have f:=fin false (Rv λh=>by rcases h with h|h;exact h hm;rw[hf]at h;cases h.2.1)
    generalize decide (iE b s)=B at*;rw[hf]at a3;apply sR;simp only[go_sem,seval,a3,V2,gJ,RN,q1];exact f
   .have Uj:s.s.free=false:=by simpa using hf
    by_cases hn:s.cy=[]
    .have f:=fin true (Rt (.inr ⟨ha,Uj,hn⟩));generalize decide (iE b s)=B at*;have q2:((s.cy.length:Int)=0)=True:=PK (by rw[hn];rfl);rw[Uj]at a3;apply sR;simp only[go_sem,seval,a3,V2,gJ,RN,q1,V1,q2];exact f
    .have f:=fin false (Rv λh=>by rcases h with h|h;exact h hm;exact hn h.2.2)
     generalize decide (iE b s)=B at*;have q2:((s.cy.length:Int)=0)=False:=PF (by have:=vM.2 hn;omega);rw[Uj]at a3;apply sR;simp only[go_sem,seval,a3,V2,gJ,RN,q1,V1,q2];exact f
  .have f:=fin false (Rv λh=>by rcases h with h|h;exact h hm;exact ha h.1)
   generalize decide (iE b s)=B at*;have q1:(s.s.atom=(b.atoms.length:Int))=False:=PF ha;apply sR;simp only[go_sem,seval,a3,V2,gJ,RN,q1];exact f
 .rw[Rv hm];have f:=fin true (Rt (.inl hm));generalize decide (iE b s)=B at*;apply sR;simp only[go_sem,seval];exact f
open Go.Proofs Go.Proofs.Tryz
structure SK where
 (no kind:Int)
 (hs fs ls:List RR)
def bn(l:List RR):V:=.sl 7 (l.map aY)
def cL(p:SK):V:=.agg [vI p.no,vI p.kind,bn p.hs,bn p.fs,bn p.ls]
def tu{s:Nat->V}{U:ag}{a1 a2:Bool}{n1 n2 d e t:Nat}{Post:V->ag->Prop}:
 TF [.cell a1 n1 (.t d),.cell a2 n2 (.t e),.tmp (.t t)] ⟨s,U⟩ Post=dq (cj U a1 n1 (s d)) λv=>dq (cj U a2 n2 (s e)) λw=>av (.PN [v,w,s t]) U Post:=by
 unfold TF av qF;simp only[gM,iU,VX.ev];cases cj U a1 n1 (s d)<;>cases cj U a2 n2 (s e)<;>simp[dq]
def yp{body:Int}:∀(l:List PI) (sh:Int),0<=sh->sh<=body->(∀f∈l,0<=f.h)->(eW body l sh).1.length<=l.length/\(∀m∈(eW body l sh).1,0<=m.y/\m.y<=body)/\0<=(eW body l sh).2.2/\(eW body l sh).2.2<=body
 |[],sh,h0,h1,_=>by simp[eW];omega
 |f::r,sh,h0,h1,hh=>by
  rw[eW];have hf:=hh f (by simp);split
  .simp;omega
  .rename_i hc;obtain⟨g1,g2,g3,g4⟩:=yp (body:=body) r (sh+min f.h body) (by omega) (by omega) (λg hg=>hh g (by simp[hg]));refine⟨by simp;omega,λm hm=>?_,g3,g4⟩;rcases dc.1 hm with rfl|hm
   .simp only;omega
   .exact g2 m hm
def BF{l:List Nd}{x:Kp}{a:Int}(h:1<=x.body):1<=(jN l x a).body:=by
 unfold jN;split
 .exact h
 .simp only;omega
def qT{l:List Nd}{L:List Int}{h:Int}(hh:1<=h):∀m,1<=(gP l L h m).body
 |0=>hh
 |m+1=>BF (qT hh m)
def j4{b:Bk}(hb:BkFull b)(s:PH)(h0:0<=s.atom):1<=(bw b s).body:=by
 have h1:=hb.h1;unfold bw;split
 .exact h1
 .rename_i he;have hl0:0<b.atoms.length:=vM.2 he;obtain⟨k,hk⟩:∃k:Nat,min s.atom ((b.atoms.length:Int)-1)=k:=⟨(min s.atom ((b.atoms.length:Int)-1)).toNat,by omega⟩
  have Q6:k<b.atoms.length:=by omega
  have hn:=hb.nod _ (QL Q6);rw[hk,bG Q6];have hm:jR b.nodes b.h=true:=by simp[jR,hb.WI,hb.h1,hb.h2]
  unfold rh;rw[aE ⟨hm,hn⟩];exact qT h1 _
def rf{P6:List PI}:∀(p:List PI) (Qf:Nat),rG P6 p Qf=true->∀f∈p,f∈P6
 |[],_,_,f,hf=>by cases hf
 |x::r,Qf,h,f,hf=>by
  rw[rG]at h;split at h
  .cases h
  .rename_i hk;rcases dc.1 hf with rfl|hf
   .have key:∀(l:List PI) (i:Nat),¬oS f l i<0->f∈l:=by
     intro l
     induction l with
     |nil=>intro i h;simp[oS]at h
     |cons q l ih=>
      intro i h;rw[oS]at h;split at h
      .rename_i e;simp[e]
      .exact List.mem_cons_of_mem _ (ih _ h)
    exact List.mem_of_mem_drop (key _ _ hk)
   .exact rf r _ h f hf
def nW(x:Wx):SK:=⟨0,x.kind,x.hs,x.fs,x.ls⟩
def fI(b:Bk)(s:Sf):Wx:={ (({ cH b s.s .aT with shift:=(eW (bw b s.s).body s.cy 0).2.2 }:Wx).put (eW (bw b s.s).body s.cy 0).1)with kind:=0 }
def mX(b:Bk)(s:Sf):Prop:=s.s.atom=b.atoms.length\/(eW (bw b s.s).body s.cy 0).2.1≠[]\/(eW (bw b s.s).body s.cy 0).2.2>0/\jP b.atoms s.s>(bw b s.s).body-(eW (bw b s.s).body s.cy 0).2.2
instance (b:Bk) (s:Sf):Decidable (mX b s):=by unfold mX;infer_instance
def cF(b:Bk)(s:Sf):SK×Sf:=
 if b.atoms=[]/\s.s.free=true then(nW (wF b (cH b s.s .aT)),oy b (cH b s.s .aT))
 else if mX b s then(nW { fI b s with kind:=2 },⟨⟨s.s.atom,s.s.done,s.s.free&&decide (s.s.atom<b.atoms.length)⟩,(eW (bw b s.s).body s.cy 0).2.1⟩)
 else(nW (gV b (fI b s)),iq b (fI b s))
def rT(b:Bk)(x:Wx)(h:V):nW (gV b { x with Qa:=h })=nW (gV b x)/\iq b { x with Qa:=h }=iq b x:=by
 unfold gV iq;by_cases hc:gb b.PQ x.s.atom (eH b x)
 .rw[aE (show gb b.PQ ({ x with Qa:=h }:Wx).s.atom (eH b { x with Qa:=h })from hc),aE (show gb b.PQ ({ x with Qa:=h }:Wx).s.atom (eH b { x with Qa:=h })from hc),aE hc,aE hc];exact⟨rfl,rfl⟩
 .rw[aH (show¬gb b.PQ ({ x with Qa:=h }:Wx).s.atom (eH b { x with Qa:=h })from hc),aH (show¬gb b.PQ ({ x with Qa:=h }:Wx).s.atom (eH b { x with Qa:=h })from hc),aH hc,aH hc];exact⟨rfl,rfl⟩
def RY.aD{b:Bk}{K:ag}{ix:Nat}{x:Wx}{U:ag}{vh vf vl:V}(h:RY b K ix x U vh vf vl){i:Nat}{o:Ob}(hi:K i=some o)(o':Ob):RY b (C' K i o') ix x (C' U i o') vh vf vl:=by
 have hn:ix≠i:=λe=>by have:=h.no;subst e;rw[this]at hi;cases hi
 have key:∀{v rows},aU (bo K ix) U 46 7 v rows->aU (bo (C' K i o') ix) (C' U i o') 46 7 v rows:=λhv=>by
  rcases hv with h|⟨a,e,h3,h4⟩
  .exact .inl h
  .have hk:=(aL.1 h4).2;have ha:a≠i:=λe=>by subst e;rw[hk]at hi;cases hi
   exact .inr ⟨a,e,(Vc.ab ha).trans h3,aL.2 ⟨(aL.1 h4).1,(Vc.ab ha).trans hk⟩⟩
 refine⟨(Vc.ab hn).trans h.row,key h.oh,key h.of,key h.ol,h.hf,h.hl,h.fl,λa q ha=>?_,(Vc.ab hn).trans h.no⟩;by_cases e:a=i
 .subst e;rw[Vc.af]at ha|-;exact ha
 .rw[Vc.ab e]at ha|-;exact h.sub _ _ ha
def RY.ret{b:Bk}{K Z0:ag}{ix:Nat}{x:Wx}{U:ag}{vh vf vl:V}(h:RY b K ix x U vh vf vl)(h0:aa Z0 K)(S:V)(e:Int):
 av (.PN [.agg [vI 0,vI x.kind,vh,vf,vl],S,vI e]) U λr Z'=>r=.PN [cL (nW x),S,vI e]/\Z'=Z0:=by
 have hs:=h0.trans h.sub;have hK:aa Z0 (bo K ix):=λi o hh=>by
  rw[bo,aH (λe=>by rw[e]at hh;have:=h0 _ _ hh;rw[h.no]at this;cases this)];exact h0 _ _ hh
 exact⟨_,Z0,hs,Wk.PN (vs':=[cL (nW x),S,vI e]) ⟨Wk.agg (vs':=[vI 0,vI x.kind,bn x.hs,bn x.fs,bn x.ls]) ⟨Wk.refl hs _,Wk.refl hs _,h.oh.wk hK hs,h.of.wk hK hs,h.ol.wk hK hs,trivial⟩,Wk.refl hs _,Wk.refl hs _,trivial⟩,rfl,rfl⟩
def HD(b:Bk)(hb:BkFull b)(hfh:∀f∈b.P6,0<=f.h)(s:Sf)(hp:s.cy.length<=1000000):
 bb prog 63 [.rp (bW b),dz s] (if iE b s then .PN [cL ⟨0,0,[],[],[]⟩,dz ⟨⟨0,0,false⟩,[]⟩,vI 4]else .PN [cL (cF b s).1,dz (cF b s).2,vI 0]):=λU=>by
 refine e63.r (by simp[c63]) ?_;have hs:=aa.refl U;have h2:=hb.len;have V1:=fP s.cy;have RN:=jm b.atoms;have XO:=CK b hb s hp;rw[dz]at XO;refine ae.mix 12 ?_;apply sR;simp only[go_sem,seval,c63,dz,aO,aP];refine ad λi3 Z3 s3 a3 f3=>?_;have z3:=hs.none f3;replace hs:=hs.trans s3;simp only[go_sem,seval];refine ad λi4 Z4 s4 a4 f4=>?_;have XU:=al a3 f4;replace a3:=s4 _ _ a3;have z4:=hs.none f4;replace hs:=hs.trans s4;simp only[go_sem,seval];refine ad λi5 Z5 s5 a5 f5=>?_;have Vg:=al a3 f5;replace a3:=s5 _ _ a3;have Rr:=al a4 f5;replace a4:=s5 _ _ a4;have z5:=hs.none f5;replace hs:=hs.trans s5;simp only[go_sem,seval,a3];refine ae.aC rfl rfl rfl (XO _) ?_;by_cases hm:iE b s
 .rw[aE hm,Rt hm];have UO:=Rr.symm;apply sR;simp only[go_sem,seval,a4,a5,ab Rr,ab UO,tu];have PZ:=(hs.aD (o:=⟨44,5,[.agg [vI 0,vI 0,.aT,.aT,.aT]]⟩) z4).aD (o:=⟨134,4,[.agg [vI 0,vI 0,.bool false,.aT]]⟩) z5;exact⟨_,U,PZ,Wk.PN (vs':=[cL ⟨0,0,[],[],[]⟩,dz ⟨⟨0,0,false⟩,[]⟩,vI 4]) ⟨Wk.agg (vs':=[vI 0,vI 0,bn [],bn [],bn []]) ⟨Wk.refl PZ _,Wk.refl PZ _,Wk.aT 7,Wk.aT 7,Wk.aT 7,trivial⟩,Wk.agg (vs':=[vI 0,vI 0,.bool false,aS []]) ⟨Wk.refl PZ _,Wk.refl PZ _,Wk.refl PZ _,Wk.aT 7,trivial⟩,Wk.refl PZ _,trivial⟩,rfl,rfl⟩
 .rw[aH hm,Rv hm];have RL:mv b s:=Decidable.byContradiction λh=>hm (.inl h);have Vw:¬(s.s.atom=b.atoms.length/\s.s.free=false/\s.cy=[]):=λh=>hm (.inr h);have RG:0<=s.s.atom:=by rcases RL.2 with h|h;exact h.1.1;omega
  have Yc:∀f∈s.cy,0<=f.h:=λf hf=>hfh f (rf _ _ RL.1 f hf);have UW:=yk hb s.s;have hr1:=j4 hb s.s RG;have hbc:=G3 b hb s.s RG Z5;rw[aF]at hbc;apply sR;simp only[go_sem,seval,a3,V2,gJ];refine ae.call rfl rfl rfl hbc ?_;rintro r Z6 ⟨i1,vh,hv,rfl,hJ⟩;have c3:=hJ.sub _ _ a3;have xs:(cH b s.s hv).s=s.s:=rfl;have xb:(cH b s.s hv).body=(bw b s.s).body:=rfl;have xh:(cH b s.s hv).high=(bw b s.s).high:=rfl;have xl:(cH b s.s hv).ls=[]:=rfl;have xf:(cH b s.s hv).fs=[]:=rfl;have xk:(cH b s.s hv).kind=0:=rfl;have Uo:aa U Z5:=hs;by_cases h0:b.atoms=[]/\s.s.free=true
  .obtain⟨h01,h02⟩:=h0;have q1:((b.atoms.length:Int)=0)=True:=PK (by rw[h01];rfl);rw[cF,aE ⟨h01,h02⟩];have hlc:=EO b hb.toBkOk (cH b s.s hv) (by rw[xl];simp) (by rw[xh];have:=UW.high;omega) hJ;have e1:nW (wF b (cH b s.s .aT))=nW (wF b (cH b s.s hv)):=rfl;have e2:oy b (cH b s.s .aT)=oy b (cH b s.s hv):=rfl;rw[e1,e2];generalize wF b (cH b s.s hv)=X at*;generalize oy b (cH b s.s hv)=Z at*;rw[h02]at c3;apply sR;simp only[go_sem,seval,q1,RN,c3,V2,gJ];refine ae.call rfl rfl rfl hlc ?_;rintro r Z7 ⟨SV,rfl,WK⟩;have d5:=WK.sub _ _ a5;apply sR;simp only[go_sem,seval,d5,dz,aO,aP,dL];have Rg:=WK.aD a5 ⟨134,4,[.agg [vI Z.s.atom,vI Z.s.done,.bool Z.s.free,aS Z.cy]]⟩;generalize Ra:C' Z7 i5 _=Y8 at*;have b1:=Rg.row;rw[dF]at b1;have b5:=Rg.sub _ _ af;have b4:=Rg.sub i4 _ ((ab Rr).trans a4);obtain⟨ch,sh⟩:=Rg.oh.vc;obtain⟨cf,sf⟩:=Rg.of.vc;obtain⟨cl,sl⟩:=Rg.ol.vc;have UO:=Rr.symm;refine ae.pF (by kernel_rfl) [0,1,2,3,4,5,6,7] [[],[0],[0,1],[0,1,2],[],[0,1,2,3],[0,1,2,3,4,5],[0,1,2,3,4,5,6]] [0,2,4,6,8,10,9,12,14] (by kernel_rfl) (by kernel_rfl) ?_;refine RE.Qx (n:=0) [9,12,14] [0,2,4,6,8,10] [⟨(.some 36),(.Qc (.t 8)),.none⟩,⟨(.some 37),(.nilCheck (.t 36)),.none⟩,⟨(.some 38),(.P9 .true 7 5 (.t 37)),.none⟩,⟨(.some 39),(.load .true 5 (.t 38)),.none⟩,⟨(.some 40),(.load .true 4 (.t 5)),.none⟩,⟨.none,(.store 5 (.t 4) (.t 39)),.none⟩] rfl rfl ?_;apply sG;simp only[go_sem,seval,b1,b4,b5,ch,sh,cf,sf,cl,sl,aO,aP,ab UO,ab Rr];refine RE.QQ rfl rfl rfl rfl rfl trivial (by simp only[go_sem,seval,b1,b4,b5,ab UO,ab Rr]) ?_;refine RE.Qx (n:=0) [] [12,14] [⟨.none,(.store 4 (.t 5) (.t 40)),.none⟩,⟨(.some 6),(.Qc (.c (.int .i64 0))),.none⟩] rfl rfl ?_;apply sG;simp only[go_sem,seval,b1,b4,b5,ch,sh,cf,sf,cl,sl,aO,aP,ab UO,ab Rr];apply sR;simp only[go_sem,seval,b1,b4,b5,tu,ab UO,ab Rr];exact((Rg.aD ((ab Rr).trans a4) _).aD ((ab UO).trans af) _).ret (((Uo.aD z5).aD z4).aD z5) _ _
  .have XB:cF b s=if mX b s then(nW { fI b s with kind:=2 },⟨⟨s.s.atom,s.s.done,s.s.free&&decide (s.s.atom<b.atoms.length)⟩,(eW (bw b s.s).body s.cy 0).2.1⟩)else(nW (gV b (fI b s)),iq b (fI b s)):=by rw[cF,aH h0]
   have htc:=L6 s.cy hp (bw b s.s).body hr1 (by have:=UW.body;omega) Yc;obtain⟨g1,g2,g3,g4⟩:=yp (body:=(bw b s.s).body) s.cy 0 (Int.le_refl _) (by omega) Yc;have hlc:=HB b.atoms hb.Qf s.s (by
    rcases RL.2 with h|h
    .have:=wQ hb.toBkOk h;omega
    .omega)
   rw[aF]at hlc;have b1:=hJ.row;simp only[dF,cH]at b1;have hfw:=H4 b hb.toBkOk;have hX:∀x:Wx,x=({ cH b s.s hv with shift:=(eW (bw b s.s).body s.cy 0).2.2 }:Wx).put (eW (bw b s.s).body s.cy 0).1->nW { x with kind:=2 }=nW { fI b s with kind:=2 }/\nW (gV b x)=nW (gV b (fI b s))/\iq b x=iq b (fI b s):=λx hx=>by
    subst hx;exact⟨rfl,(rT b (fI b s) hv).1,(rT b (fI b s) hv).2⟩
   have hp1:mX b s->cF b s=_:=λh=>XB.trans (aE h);have hp2:¬mX b s->cF b s=_:=λh=>XB.trans (aH h);clear XB;unfold mX at hp1 hp2;generalize fI b s=TX at*;generalize eW (bw b s.s).body s.cy 0=T at*;obtain⟨put,left,VL⟩:=T;simp only at htc g1 g2 g3 g4 hX hp1 hp2;have Wt:=fP left;have hq:(((b.atoms.length:Int)=0)=True/\s.s.free=false)\/(((b.atoms.length:Int)=0)=False/\True):=by
    by_cases he:b.atoms=[]
    .exact .inl ⟨PK (by rw[he];rfl),by
      cases SP:s.s.free
      .rfl
      .exact absurd ⟨he,SP⟩ h0⟩
    .exact .inr ⟨PF (by have:=vM.2 he;omega),trivial⟩
   rcases hq with⟨q,hf⟩|⟨q,hf⟩
   all_goals
    apply sR;simp only[go_sem,seval,q,hf,RN,c3,b1,V2,gJ];refine Go.bZ rfl rfl rfl htc ?_;apply sG;simp only[go_sem,seval,b1];generalize Sx:C' Z6 i1 _=Y7;have WK:RY b Z5 i1 { cH b s.s hv with shift:=VL } Y7 vh .aT .aT:=by
     rw[<-Sx];exact hJ.set _ rfl rfl rfl
    refine ae.call rfl rfl rfl (nQ b put (by omega) { cH b s.s hv with shift:=VL } (by simp[cH]) (λf hf=>by
     have:=g2 f hf;have:=UW.high;have:=UW.body;exact ar (by show _<=f.y+(bw b s.s).high;omega) (by show f.y+(bw b s.s).high<=_;omega)) WK) ?_
    rintro-Z8 ⟨SV,Rg⟩;obtain⟨x1,x2,x3⟩:=hX _ rfl;have c3:=Rg.sub _ _ a3;have d5:=Rg.sub _ _ a5;have b1:=Rg.row;have ys:(Wx.put { cH b s.s hv with shift:=VL } put).s=s.s:=rfl;have yb:(Wx.put { cH b s.s hv with shift:=VL } put).body=(bw b s.s).body:=rfl;have yh:(Wx.put { cH b s.s hv with shift:=VL } put).high=(bw b s.s).high:=rfl;have yw:(Wx.put { cH b s.s hv with shift:=VL } put).shift=VL:=rfl;have yf:(Wx.put { cH b s.s hv with shift:=VL } put).fs.length<=1000000:=by simp[Wx.put,cH]
    have yl:(Wx.put { cH b s.s hv with shift:=VL } put).ls.length<=1000000:=by simp[Wx.put,cH];omega
    generalize Wx.put { cH b s.s hv with shift:=VL } put=Y at*;rw[dF]at b1;have Yp:i1≠i5:=λe=>by have:=Rg.no;rw[e,a5]at this;cases this
    have n51:=Yp.symm;have UO:=Rr.symm;have r1:PY .i64 ((bw b s.s).body-VL):=ar (by omega) (by have:=UW.body;omega);rw[<-yb]at r1 hp1 hp2;by_cases Vn:s.s.atom=b.atoms.length\/left≠[]\/VL>0/\jP b.atoms s.s>Y.body-VL
    .rw[hp1 Vn,<-x1];have hw:((s.s.atom=(b.atoms.length:Int))=True/\True/\True/\True)\/((s.s.atom=(b.atoms.length:Int))=False/\((left.length:Int)>0)=True/\True/\True)\/
      ((s.s.atom=(b.atoms.length:Int))=False/\((left.length:Int)>0)=False/\(VL>0)=True/\(jP b.atoms s.s>Y.body-VL)=True):=by
      by_cases hA:s.s.atom=b.atoms.length
      .exact .inl ⟨PK hA,trivial,trivial,trivial⟩
      by_cases hB:left=[]
      .obtain⟨hC,hD⟩:=(Vn.resolve_left hA).resolve_left (λh=>h hB);exact .inr (.inr ⟨PF hA,PF (by rw[hB];simp),PK hC,PK hD⟩)
      .exact .inr (.inl ⟨PF hA,PK (by have:=vM.2 hB;omega),trivial,trivial⟩)
     obtain⟨VAL,hV⟩:∃VAL:Bool,VAL=(s.s.free&&decide (s.s.atom<b.atoms.length)):=⟨_,rfl⟩
     have UM:i3≠i1:=λe=>by have:=Rg.no;rw[<-e,a3]at this;cases this
     cases SP:s.s.free
     all_goals
      simp only[SP,Bool.false_and,Bool.true_and]at hV;rw[SP]at hlc;rcases hw with⟨qA,qB,qC,qD⟩|⟨qA,qB,qC,qD⟩|⟨qA,qB,qC,qD⟩
      all_goals
       apply sR;simp only[go_sem,seval,c3,d5,b1,RN,Wt,qA,qB,qC,V2,gJ,SP,ab Yp,ab n51,ab UM,ab Vg,dL,aO,aP]
       try
        refine Go.bZ rfl rfl rfl hlc ?_;apply sG;simp only[go_sem,seval,c3,d5,b1,r1,qD,RN,Wt,V2,gJ,SP,ab Yp,ab n51,ab UM,ab Vg,dL,aO,aP]
       generalize Ra:C' (C' Z8 i1 _) i5 _=Y8;have Rg:RY b (C' Z5 i5 ⟨134,4,[.agg [vI s.s.atom,vI s.s.done,.bool VAL,aS left]]⟩) i1 { Y with kind:=2 } Y8 vh .aT SV:=by
        rw[<-Ra,hV];exact(Rg.set { Y with kind:=2 } rfl rfl rfl).aD a5 _
       clear Ra;have b1:=Rg.row;rw[dF]at b1;have b5:=Rg.sub _ _ af;rw[hV]at b5;have b4:=Rg.sub i4 _ ((ab Rr).trans a4);obtain⟨ch,sh⟩:=Rg.oh.vc;obtain⟨cf,sf⟩:=Rg.of.vc;obtain⟨cl,sl⟩:=Rg.ol.vc;refine ae.pF (by kernel_rfl) [0,1,2,3,4,5,6,7] [[],[0],[0,1],[0,1,2],[],[0,1,2,3],[0,1,2,3,4,5],[0,1,2,3,4,5,6]] [0,2,4,6,8,10,9,12,14] (by kernel_rfl) (by kernel_rfl) ?_;refine RE.Qx (n:=0) [9,12,14] [0,2,4,6,8,10] [⟨(.some 110),(.Qc (.t 8)),.none⟩,⟨(.some 111),(.nilCheck (.t 110)),.none⟩,⟨(.some 112),(.P9 .true 7 5 (.t 111)),.none⟩,⟨(.some 113),(.load .true 5 (.t 112)),.none⟩,⟨(.some 114),(.load .true 4 (.t 5)),.none⟩,⟨.none,(.store 5 (.t 4) (.t 113)),.none⟩] rfl rfl ?_;apply sG;simp only[go_sem,seval,b1,b4,b5,ch,sh,cf,sf,cl,sl,aO,aP,ab UO,ab Rr];refine RE.QQ rfl rfl rfl rfl rfl trivial (by simp only[go_sem,seval,b1,b4,b5,ab UO,ab Rr]) ?_;refine RE.Qx (n:=0) [] [12,14] [⟨.none,(.store 4 (.t 5) (.t 114)),.none⟩,⟨(.some 6),(.Qc (.c (.int .i64 0))),.none⟩] rfl rfl ?_;apply sG;simp only[go_sem,seval,b1,b4,b5,ch,sh,cf,sf,cl,sl,aO,aP,ab UO,ab Rr];apply sR;simp only[go_sem,seval,b1,b4,b5,tu,ab UO,ab Rr];exact((Rg.aD ((ab Rr).trans a4) _).aD ((ab UO).trans af) _).ret (((Uo.aD z5).aD z4).aD z5) _ _
    .rw[hp2 Vn,<-x2,<-x3];have hA:¬s.s.atom=b.atoms.length:=λh=>Vn (.inl h);have Yy:cM b.atoms s.s:=RL.2.resolve_right λh=>hA h.1;have hw:((s.s.atom=(b.atoms.length:Int))=False/\((left.length:Int)>0)=False/\(VL>0)=False/\True)\/((s.s.atom=(b.atoms.length:Int))=False/\((left.length:Int)>0)=False/\(VL>0)=True/\(jP b.atoms s.s>Y.body-VL)=False):=by
      have hB:left=[]:=Decidable.byContradiction λh=>Vn (.inr (.inl h));have YI:((left.length:Int)>0)=False:=PF (by rw[hB];simp);by_cases hC:VL>0
      .exact .inr ⟨PF hA,YI,PK hC,PF λh=>Vn (.inr (.inr ⟨hC,h⟩))⟩
      .exact .inl ⟨PF hA,YI,PF hC,trivial⟩
     have hwf:=hfw Y (by rw[ys];exact Yy) yf yl (by rw[yh];have:=UW.high;omega) (by rw[yb];have:=UW.body;omega) (by rw[yw];have:=UW.body;omega) Rg;generalize gV b Y=X at*;generalize iq b Y=Z at*;rcases hw with⟨qA,qB,qC,qD⟩|⟨qA,qB,qC,qD⟩
     all_goals
      apply sR;simp only[go_sem,seval,c3,RN,qA,Wt,qB,qC,V2,gJ]
      try
       refine Go.bZ rfl rfl rfl hlc ?_;apply sG;simp only[go_sem,seval,b1,r1,qD]
      refine ae.call rfl rfl rfl hwf ?_;rintro-Z9 ⟨TV,vl'',rfl,QZ⟩;have e5:=QZ.sub _ _ a5;apply sR;simp only[go_sem,seval,e5,dz,aO,aP,dL];have Rg:=QZ.aD a5 ⟨134,4,[.agg [vI Z.s.atom,vI Z.s.done,.bool Z.s.free,aS Z.cy]]⟩;generalize Ra:C' Z9 i5 _=Y8 at*;have b1:=Rg.row;rw[dF]at b1;have b5:=Rg.sub _ _ af;have b4:=Rg.sub i4 _ ((ab Rr).trans a4);obtain⟨ch,sh⟩:=Rg.oh.vc;obtain⟨cf,sf⟩:=Rg.of.vc;obtain⟨cl,sl⟩:=Rg.ol.vc;refine ae.pF (by kernel_rfl) [0,1,2,3,4,5,6,7] [[],[0],[0,1],[0,1,2],[],[0,1,2,3],[0,1,2,3,4,5],[0,1,2,3,4,5,6]] [0,2,4,6,8,10,9,12,14] (by kernel_rfl) (by kernel_rfl) ?_;refine RE.Qx (n:=0) [9,12,14] [0,2,4,6,8,10] [⟨(.some 117),(.Qc (.t 8)),.none⟩,⟨(.some 118),(.nilCheck (.t 117)),.none⟩,⟨(.some 119),(.P9 .true 7 5 (.t 118)),.none⟩,⟨(.some 120),(.load .true 5 (.t 119)),.none⟩,⟨(.some 121),(.load .true 4 (.t 5)),.none⟩,⟨.none,(.store 5 (.t 4) (.t 120)),.none⟩] rfl rfl ?_;apply sG;simp only[go_sem,seval,b1,b4,b5,ch,sh,cf,sf,cl,sl,aO,aP,ab UO,ab Rr];refine RE.QQ rfl rfl rfl rfl rfl trivial (by simp only[go_sem,seval,b1,b4,b5,ab UO,ab Rr]) ?_;refine RE.Qx (n:=0) [] [12,14] [⟨.none,(.store 4 (.t 5) (.t 121)),.none⟩,⟨(.some 6),(.Qc (.c (.int .i64 0))),.none⟩] rfl rfl ?_;apply sG;simp only[go_sem,seval,b1,b4,b5,ch,sh,cf,sf,cl,sl,aO,aP,ab UO,ab Rr];apply sR;simp only[go_sem,seval,b1,b4,b5,tu,ab UO,ab Rr];exact((Rg.aD ((ab Rr).trans a4) _).aD ((ab UO).trans af) _).ret (((Uo.aD z5).aD z4).aD z5) _ _
def V3(cnt:Nat->Nat)(a n:Nat):List Int:=(List.range' a n).flatMap λi=>List.replicate (cnt i) (i:Int)
def kr(cnt:Nat->Nat)(a:Nat):V3 cnt a 0=[]:=rfl
def iN(cnt:Nat->Nat)(a n:Nat):V3 cnt a (n+1)=List.replicate (cnt a) (a:Int)++V3 cnt (a+1) n:=by
 simp[V3,List.range'_succ]
def nJ{f g:Nat->Nat}:∀(n a:Nat),(∀i,a<=i->i<a+n->f i=g i)->V3 f a n=V3 g a n
 |0,_,_=>rfl
 |n+1,a,h=>by
  rw[iN,iN,h a (Qt a) (by omega),nJ n (a+1) (λi h1 h2=>h i (by omega) (by omega))]
def AA(cnt:Nat->Nat):∀(n a m:Nat),V3 cnt a (n+m)=V3 cnt a n++V3 cnt (a+n) m
 |0,a,m=>by simp[kr]
 |n+1,a,m=>by
  rw[show n+1+m=(n+m)+1 by omega,iN,iN,AA cnt n (a+1) m,ly,show a+1+n=a+(n+1) by omega]
def IF(f g:Nat->Nat)(a n m:Nat):V3 f a n++V3 g (a+n) m=V3 (λi=>if i<a+n then f i else g i) a (n+m):=by
 rw[AA];congr 1
 .exact nJ n a λi h1 h2=>by simp[h2]
 .exact nJ m (a+n) λi h1 h2=>by simp[show¬i<a+n by omega]
structure AtI(C:Int)(x:QB):Prop where
 y0:0<=x.y
 y1:x.y<=C
 h0:1<=x.h
 h1:x.h<=1099511627776
def AtI.mono{B C:Int}{x:QB}(h:AtI B x)(hB:B<=C):AtI C x:=⟨h.y0,Int.le_trans h.y1 hB,h.h0,h.h1⟩
def nq(a:Nat)(h:Int):∀(L:List Ln) (s:WS),(iJ a h s L).atoms=s.atoms++L.map (fg a h)
 |[],s=>by simp[iJ]
 |x::L,s=>by
  have:=nq a h L (s.put (fg a h x));simp only[iJ,kf]at this|-;rw[this];simp[WS.put]
def Ix(a:Nat)(h:Int)(L:List Ln):(L.map (fg a h)).map (·.node)=List.replicate L.length (a:Int):=by
 rw[List.map_map]
 induction L with
 |nil=>rfl
 |cons x L ih=>rw[eD,ih];rfl
def D7{l:List Nd}{a e:Nat}(he:e<=l.length)(h:cJ l a e=true)(Vz:a<e)(hk:(Qg l a).kind≠1):Qn l a<=1:=by
 have ha:a<l.length:=by omega
 rw[jL ha]at hk;rw[cJ,dif_pos Vz]at h;simp only[Tq ha]at h;split at h
 .simp only[Ba,kJ,Sp]at h;have:=h.1.1.resolve_left hk;simp only[Qn,Tq ha,Option.map_some,Option.getD_some];omega
 .cases h
structure A8(l:List Nd)(s t:WS)(a e C:Nat):Prop where
 Qf:∀x∈t.atoms,AtI (1099511627776*(C:Int)) x
 nodes:∃cnt,t.atoms.map (·.node)=s.atoms.map (·.node)++V3 cnt a (e-a)/\∀i,a<=i->i<e->okN (Qg l i) (cnt i)=true
def A8.join{l:List Nd}{s t u:WS}{a m e C D:Nat}(h1:a<=m)(h2:m<=e)(hA:A8 l s t a m C)(hB:A8 l t u m e D):A8 l s u a e D:=by
 obtain⟨_,f,hf,UR⟩:=hA;obtain⟨RG,g,hg,RO⟩:=hB;refine⟨RG,λi=>if i<m then f i else g i,?_,λi h3 h4=>?_⟩
 .rw[hg,hf,ly];congr 1;obtain⟨n,rfl⟩:∃n,m=a+n:=⟨m-a,by omega⟩
  obtain⟨k,rfl⟩:∃k,e=a+n+k:=⟨e-(a+n),by omega⟩
  rw[show a+n-a=n by omega,show a+n+k-(a+n)=k by omega,show a+n+k-a=n+k by omega,IF]
 .simp only;split
  .exact UR i h3 (by omega)
  .exact RO i (by omega) h4
def tr{l:List Nd}{rs:List Rm}(hD:Xb l rs):∀(k a e:Nat) (s:WS) (C:Nat),e-a<=k->a<=e->e<=l.length->cJ l a e=true->gq s C->(∀x∈s.atoms,AtI (1099511627776*(C:Int)) x)->A8 l s (eF l rs k a e s) a e (C+Q9 l a e)
 |0,a,e,s,C,hk,Vz,_,_,h,hx=>by
  obtain rfl:a=e:=by omega
  refine⟨λx Qh=>(hx x Qh).mono (by omega),λ_=>0,by simp[eF,kr],λi h1 h2=>by omega⟩
 |k+1,a,e,s,C,hk,Vz,he,hr,h,hx=>by
  rw[eF];by_cases H':a<e
  .rw[aE H'];obtain⟨h1,h2⟩:=dB he hr (Qt a) H';obtain⟨h3,h4⟩:=er he hr H';have Qr:XE (Qg l a):=by rw[jL (by omega)];exact gO hD.WI (by omega)
   have Xt:Q9 l a e=Q9 l a (a+(Qn l a).toNat)+Q9 l (a+(Qn l a).toNat) e:=lS (by omega) (by omega) he;have Yx:Q9 l a (a+(Qn l a).toNat)=4+(Qg l a).words.length+Q9 l (a+1) (a+(Qn l a).toNat):=vd (by omega) (by omega);have step:∀t,gq t (C+Q9 l a (a+(Qn l a).toNat))->A8 l s t a (a+(Qn l a).toNat) (C+Q9 l a (a+(Qn l a).toNat))->A8 l s (eF l rs k (a+(Qn l a).toNat) e t) a e (C+Q9 l a e):=λt ht hA=>by
    rw[Xt,<-Nat.add_assoc];exact hA.join (by omega) (by omega) (tr hD k _ e t _ (by omega) (by omega) he h3 ht hA.Qf)
   have one:∀(t:WS) (n:Nat),okN (Qg l a) n=true->(Qn l a).toNat=1->t.atoms.map (·.node)=s.atoms.map (·.node)++List.replicate n (a:Int)->(∀x∈t.atoms,AtI (1099511627776*((C+Q9 l a (a+(Qn l a).toNat):Nat):Int)) x)->A8 l s t a (a+(Qn l a).toNat) (C+Q9 l a (a+(Qn l a).toNat)):=λt n hn Sn hm RG=>by
    refine⟨RG,λ_=>n,?_,λi h5 h6=>?_⟩
    .rw[hm,Sn,show a+1-a=1 by omega,iN,kr,kL]
    .obtain rfl:i=a:=by omega
     exact hn
   obtain⟨⟨hf,p1,p2,p3,p4⟩,p5,p6⟩:=h;have hI:gq s C:=⟨⟨hf,p1,p2,p3,p4⟩,p5,p6⟩
   by_cases k1:(Qg l a).kind=1
   .rw[aE k1];have hI2:=gT hD k (a+1) (a+(Qn l a).toNat) _ _ (by omega) (by omega) (by omega) h4 (fi hI Qr.st);have hA2:=tr hD k (a+1) (a+(Qn l a).toNat) (s.enter (Qg l a).st) (C+2) (by omega) (by omega) (by omega) h4 (fi hI Qr.st) (λx Qh=>(hx x Qh).mono (by omega));refine step _ ((j9 hI2 Qr.st).more (by omega)) ?_;obtain⟨RG,cnt,hc,hco⟩:=hA2;refine⟨λx Qh=>(RG x Qh).mono (by omega),λi=>if i=a then 0 else cnt i,?_,λi h5 h6=>?_⟩
    .have e1:(s.enter (Qg l a).st).atoms=s.atoms:=rfl;rw[e1]at hc;show(eF l rs k (a+1) (a+(Qn l a).toNat) (s.enter (Qg l a).st)).atoms.map (·.node)=_;rw[hc];congr 1;obtain⟨m,hm⟩:∃m,(Qn l a).toNat=m+1:=⟨(Qn l a).toNat-1,by omega⟩
     rw[hm,show a+(m+1)-(a+1)=m by omega,show a+(m+1)-a=m+1 by omega,iN];simp only[if_true,List.replicate_zero,mo];exact nJ m (a+1) λi h5 h6=>by simp[show i≠a by omega]
    .simp only;split
     .rename_i e;subst e;simp[okN,k1]
     .exact hco i (by omega) h6
   .rw[aH k1];have Sn:(Qn l a).toNat=1:=by
     have:=D7 he hr H' k1;omega
    by_cases k2:(Qg l a).kind=2
    .rw[aE k2];refine step _ ((lG hI Qr a).more (by omega)) ?_;have hl:=Qr.line;obtain⟨hw0,hl1⟩:=Qr.text k2;have hLl:=kH s.u' (Qg l a).words (Qg l a).space (Qg l a).line (eO rs a) (Qg l a).words.length 0 (s.PW.y+s.PW.m);have hLb:=jS (ws:=(Qg l a).words) (space:=(Qg l a).space) (s:=eO rs a) (λf Uj=>(hf f Uj).yB) hl.1 (Qg l a).words.length 0 (s.PW.y+s.PW.m);have hLn:dT s.u' (Qg l a).words (Qg l a).space (Qg l a).line (eO rs a) (Qg l a).words.length 0 (s.PW.y+s.PW.m)≠[]:=by
      obtain⟨m,hm⟩:∃m,(Qg l a).words.length=m+1:=⟨(Qg l a).words.length-1,by omega⟩
      rw[hm,dT,aE (by omega)];simp
     have hte:(s.text rs a (Qg l a)).atoms=s.atoms++(dT s.u' (Qg l a).words (Qg l a).space (Qg l a).line (eO rs a) (Qg l a).words.length 0 (s.PW.y+s.PW.m)).map (fg a (Qg l a).line):=nq a _ _ s;generalize dT s.u' (Qg l a).words (Qg l a).space (Qg l a).line (eO rs a) (Qg l a).words.length 0 (s.PW.y+s.PW.m)=L at*;have hL0:=vM.2 hLn;have hmul:(Qg l a).line*((Qg l a).words.length:Int)<=1099511627776*((Qg l a).words.length:Int):=Int.mul_le_mul_of_nonneg_right hl.2 (by omega);refine one _ L.length (by simp only[okN,k2,if_true,Sp];omega) Sn (by rw[hte,fC,Ix]) (λx Qh=>?_);rw[hte]at Qh;rcases ei.1 Qh with Qh|Qh
     .exact(hx x Qh).mono (by omega)
     .obtain⟨y,hy,rfl⟩:=fM.1 Qh;have:=hLb y hy;refine⟨?_,?_,hl1,hl.2⟩<;>simp only[fg]<;>omega
    .rw[aH k2];by_cases k3:(Qg l a).kind=3
     .rw[aE k3];refine step _ ((lN hI Qr a).more (by omega)) ?_;have hyr:=gm (w:=(Qg l a).w) (high:=(Qg l a).h) (y:=s.PW.y+s.PW.m) (s:=eO rs a) (λf Uj=>(hf f Uj).yB);have hbx:=Qr.box (.inl k3);have hh:=Qr.h;refine one _ 1 (by simp[okN,k3]) Sn (by simp[WS.mono,WS.put]) (λx Qh=>?_);simp only[WS.mono,WS.put]at Qh;rcases ei.1 Qh with Qh|Qh
      .exact(hx x Qh).mono (by omega)
      .simp only[iW]at Qh;subst Qh;refine⟨?_,?_,?_,?_⟩<;>simp only<;>omega
     .rw[aH k3];have k4:(Qg l a).kind=4:=by rcases Qr.kind with h|h|h|h;exact absurd h k1;exact absurd h k2;exact absurd h k3;exact h
      refine step _ ((ke hD hI (by omega) Qr k4).more (by omega)) ?_;exact one _ 0 (by simp[okN,k4]) Sn (by simp[WS.float]) (λx Qh=>(hx x Qh).mono (by omega))
  .rw[aH H'];obtain rfl:a=e:=by omega
   exact⟨λx Qh=>(hx x Qh).mono (by omega),λ_=>0,by simp[kr],λi h1 h2=>by omega⟩
def ET(i:Int)(L:List Int)(h:∀x∈L,x≠i):∀k,tG i (List.replicate k i++L)=k
 |0=>by
  cases L with
  |nil=>rfl
  |cons x L=>rw[List.replicate_zero,mo,tG,aH (h x (by simp))]
 |k+1=>by rw[List.replicate_succ,List.cons_append,tG,aE rfl,ET i L h k]
def x6{cnt:Nat->Nat}:∀{n a:Nat} {x:Int},x∈V3 cnt a n->∃i:Nat,x=i/\a<=i/\i<a+n
 |0,_,_,h=>by simp[kr]at h
 |n+1,a,x,h=>by
  rw[iN]at h;rcases ei.1 h with h|h
  .exact⟨a,(List.mem_replicate.1 h).2,by omega,by omega⟩
  .obtain⟨i,h1,h2,h3⟩:=x6 h;exact⟨i,h1,by omega,by omega⟩
def za{cnt:Nat->Nat}{of:List Int}:∀(r:List Nd) (i Qf:Nat),of.drop Qf=V3 cnt i r.length->Qf<=of.length->(∀j (h:j<r.length),okN r[j] (cnt (i+j))=true)->zX of r i Qf=true
 |[],i,Qf,h,hl,_=>by
  have:of.length<=Qf:=by
   have:=congrArg List.length h;simp[kr]at this;omega
  simp[zX];omega
 |x::r,i,Qf,h,hl,ho=>by
  rw[Q4,iN]at h;have ht:mi of Qf i=cnt i:=by
   rw[mi,h];exact ET _ _ (λy hy=>by obtain⟨j,h1,h2,_⟩:=x6 hy;omega) _
  rw[zX,ht];have h0:=ho 0 (by simp);simp only[List.getElem_cons_zero,Nat.add_zero]at h0;rw[h0,Bool.true_and];have hd:of.drop (Qf+cnt i)=V3 cnt (i+1) r.length:=by
   rw[<-List.drop_drop,h,FL (by simp)];simp
  refine za r (i+1) _ hd ?_ (λj hj=>?_)
  .have:=congrArg List.length h;simp at this;omega
  .have:=ho (j+1) (by simpa using hj);simp only[List.getElem_cons_succ]at this
   rwa [show i+1+j=i+(j+1) by omega]
structure MD(l:List Nd)(w:Int):Prop where
 may:qZ l ((di l w).atoms.map (·.node))=true
 nod:∀a∈(di l w).atoms,0<=a.node/\a.node<l.length
 Qf:∀x∈(di l w).atoms,AtI (1099511627776*((Q9 l 0 l.length:Nat):Int)) x
 len:(di l w).atoms.length<=Q9 l 0 l.length
 Un:(di l w).u'.length<=Q9 l 0 l.length
 Xc:∀f∈(di l w).u',X8 (1099511627776*((Q9 l 0 l.length:Nat):Int)) f
def uI{l:List Nd}(hb:Qy l=true)(hn:l.length<=2000){w:Int}(h1:1<=w)(h2:w<=1099511627776):MD l w:=by
 have hD:=tS hb hn h1 h2;have hr:cJ l 0 l.length=true:=by simp only[Qy,Ba]at hb;exact hb.2
 have hI:gq ⟨[],[],0,⟨0,0⟩⟩ 0:=⟨⟨by simp,by simp,by simp,by simp,by simp⟩,by simp,by simp⟩
 have hA:=tr hD l.length 0 l.length ⟨[],[],0,⟨0,0⟩⟩ 0 (by omega) (by omega) (Qt _) hr hI (by simp);have hJ:=gT hD l.length 0 l.length ⟨[],[],0,⟨0,0⟩⟩ 0 (by omega) (by omega) (Qt _) hr hI;rw[kI]at hA hJ;have ha:(di l w).atoms=(eF l (lJ l w) l.length 0 l.length ⟨[],[],0,⟨0,0⟩⟩).atoms:=rfl;have hf:(di l w).u'=(eF l (lJ l w) l.length 0 l.length ⟨[],[],0,⟨0,0⟩⟩).u'.map (tU (eF l (lJ l w) l.length 0 l.length ⟨[],[],0,⟨0,0⟩⟩).atoms.length):=rfl;obtain⟨RG,cnt,hc,hco⟩:=hA;rw[List.map_nil,mo,Nat.sub_zero]at hc;refine⟨?_,λa hm=>?_,by rw[ha];exact RG,by rw[ha];exact hJ.Qf,by rw[hf,du];exact hJ.fl,λf hm=>?_⟩
 .rw[ha,hc];refine za (cnt:=cnt) l 0 0 (by simpa using hc) (Nat.zero_le _) (λj hj=>?_);have:=hco j (Nat.zero_le _) hj;rw[jL hj]at this
  rwa [kI]
 .have Yy:a.node∈V3 cnt 0 l.length:=by rw[<-hc,<-ha];exact List.mem_map_of_mem hm
  obtain⟨i,e,_,hi⟩:=x6 Yy;omega
 .rw[hf]at hm;obtain⟨g,hg,rfl⟩:=fM.1 hm;have:=hJ.bd.fl g hg;exact⟨this.1,this.2,this.3,this.4,this.5,this.6,this.7,this.8⟩
def tN:∀(l:List Nd),(∀x∈l,XE x)->((l.map λn=>4+n.words.length).sum:Nat)<=4*(l.length:Int)+lC l/\∀x∈l,(x.words.length:Int)<=lC l
 |[],_=>by simp[lC]
 |x::l,h=>by
  obtain⟨h1,h2⟩:=tN l (λy hy=>h y (by simp[hy]));have hx:=h x (by simp);have hp:(x.words.length:Int)<=pof x/\0<=pof x:=by
   unfold pof;by_cases k1:x.kind=1
   .have:=hx.XF (by omega);simp[k1,this]
   .by_cases k2:x.kind=2
    .simp[k2]
    .have:=hx.XF k2;simp[k1,k2,this]
  have hp0:0<=lC l:=by
   have:∀l:List Nd,0<=lC l:=by
    intro l
    induction l with
    |nil=>simp[lC]
    |cons y l ih=>
     have:0<=pof y:=by unfold pof;split;omega;split;omega;omega
     simp only[lC];omega
   exact this l
  refine⟨by simp only[eD,List.sum_cons,Q4,lC];omega,λy hy=>?_⟩;rcases dc.1 hy with rfl|hy
  .simp only[lC];omega
  .have:=h2 y hy;simp only[lC];omega
structure MI(l:List Nd):Prop where
 WI:Qy l=true
 len:l.length<=2000
 words:∀x∈l,x.words.length<=2000
 Q9:Q9 l 0 l.length<=10000
def vG{l:List Nd}(h:ia l=0):MI l:=by
 unfold ia at h;split at h
 .rename_i hb;split at h
  .cases h
  .rename_i hc;have Qz:l.all Nd.ok=true:=by simp only[Qy,Ba]at hb;exact hb.1
   rw[ew,aE hb,vH l Qz l.length (Qt _),jK]at hc;simp only[not_or]at hc;obtain⟨h1,h2⟩:=tN l (λx hx=>by obtain⟨i,hi,rfl⟩:=List.getElem_of_mem hx;exact gO hb hi);refine⟨hb,by omega,λx hx=>by have:=h2 x hx;omega,?_⟩;have:Vc.Q9 l 0 l.length=(l.map λn=>4+n.words.length).sum:=by unfold Vc.Q9;rw[jK,zM]
   omega
 .cases h
open Go.Proofs Go.Proofs.Tryz
def ae.CJ{P:Program}{n:Nat}{Q:St->Prop}{s:Nat->V}{U K:ag}{todo:List It}(l ds:List Nat){e sz:Nat}{v:V}{rows:List V}(hK:aa K U)(ho:aU K U e sz v rows)
 (hs:∀d∈ds,s d=v)(hr:ae P n todo ⟨λi=>if ds.contains i then .sl sz rows else Cc l s i,K⟩ Q):ae P n todo ⟨s,U⟩ Q:=by
 refine ae.weaken ⟨hK,λi=>?_⟩ hr;show Wk U K (s i) _;by_cases hi:ds.contains i=true
 .simp only[aE hi];rw[hs i (by simpa using hi)];exact ho.wk (aa.refl K) hK
 .simp only[aH hi];unfold Cc;split
  .exact Wk.refl hK _
  .exact Wk.undef _
def XK(l:List Nd)(w:Int):List Int:=(di l w).atoms.map (·.node)
def bJ(l:List Nd)(w h:Int):Bk:=⟨l,w,h,(di l w).atoms,(di l w).u',(di l w).PM,qd l (XK l w)⟩
def y8(n:Int):Prop:=1<=n/\n<=1099511627776
instance (n:Int):Decidable (y8 n):=by unfold y8;infer_instance
def gN(l:List Nd)(w h:Int):Int:=if¬(y8 w/\y8 h)then 3 else if ia l≠0 then ia l else if(ew l).1.L'>mulR (cU l h) 32768 then 2 else 0
def AU(l:List Nd)(w h:Int):V:=if gN l w h=0 then .rp (bW (bJ l w h))else .Uu
def gd.ER{K U:ag}{id:Nat}{o:Ob}(hK:K id≠none):∀{l:List Nd} {rows:List V},gd K U l rows->gd K (C' U id o) l rows
 |[],[],_=>trivial
 |_::_,_::_,⟨⟨w,h1,h2⟩,h⟩=>⟨⟨w,h1,h2.ab hK⟩,gd.ER hK h⟩
 |[],_::_,h=>h.elim
 |_::_,[],h=>h.elim
def AH.ER{K U:ag}{id:Nat}{o:Ob}(hK:K id≠none){v:V}{l:List Nd}(h:AH K U v l):AH K (C' U id o) v l:=by
 obtain⟨rows,ho,hr⟩:=h;exact⟨rows,ho.ab hK,hr.ER hK⟩
def lV{α:Type}{f:α->V}(h:∀a,(f a).vX=true):∀l:List α,jB (l.map f)=true
 |[]=>rfl
 |a::l=>by simp only[eD,jB,h a,lV h l,Bool.and_self]
def OK(l:List Int)(U:ag):cj U false 1 (.rp (bD l))=some (bD l):=rfl
def vg(vn:V)(w h:Int)(va vf:V)(ht:Int)(vb:V):Ob:=⟨126,7,[.agg [vn,vI w,vI h,va,vf,vI ht,vb]]⟩
def FP{U J:ag}{ib:Nat}{b:Bk}{vn:V}(hs:aa U J)(z:U ib=none)(hr:J ib=some (vg vn b.w b.h (bH b.atoms) (aS b.P6) b.PM (bV b.PQ)))(ho:AH (bo U ib) J vn b.nodes):
 av (.PN [.ptr ib 0 0,vI 0]) J λr Z'=>r=.PN [.rp (bW b),vI 0]/\Z'=U:=by
 have hN:∀id,bo U ib id=none->U id=none:=λid h=>(aL.1 h).2;have n1:jB [bH b.atoms,aS b.P6,vI b.PM,bV b.PQ]=true:=by
  have a1:(bH b.atoms).vX=true:=lV (f:=dC) (λ_=>rfl) b.atoms;have a2:(aS b.P6).vX=true:=lV (f:=aX) (λ_=>rfl) b.P6;have a3:(bV b.PQ).vX=true:=lV (f:=fT) (λ_=>rfl) b.PQ;simp only[jB,a1,a2,a3];rfl
 have hf:Fz J (λid=>U id=none) (.PN [.ptr ib 0 0,vI 0]) (.PN [.rp (bW b),vI 0]):=by
  refine .PN _ _ (.cons _ _ _ _ (.ptr ib 0 _ _ _ hr z rfl (.agg _ _ ?_)) (RM.same [vI 0] rfl));exact .cons _ _ _ _ (ho.fz hN) (.cons _ _ _ _ (.same _ rfl) (.cons _ _ _ _ (.same _ rfl) (RM.same _ n1)))
 exact⟨_,U,hs,hf.wk hs (λ_ h=>h),rfl,rfl⟩
def FW(l:List Nd)(hl:ed l)(w h:Int):bb prog 33 [aQ l,vI w,vI h] (.PN [AU l w h,vI (gN l w h)]):=λU=>by
 refine e33.r (by simp[c33]) ?_;have hs:=aa.refl U;have bad:∀n:Int,gN l w h=n->n≠0->(AU l w h=.Uu/\gN l w h=n):=λn hn h0=>⟨by rw[AU,aH (by rw[hn];exact h0)],hn⟩
 refine ae.mix 16 ?_;by_cases hw:y8 w
 .have mw:=rm w;rw[show decide (1<=w/\w<=1099511627776)=true from Rt hw]at mw;apply sR;simp only[go_sem,seval,c33];refine ae.aC rfl rfl rfl (mw _) ?_;apply sR;simp only[go_sem,seval];by_cases hh:y8 h
  .have mh:=rm h;rw[show decide (1<=h/\h<=1099511627776)=true from Rt hh]at mh;refine ae.aC rfl rfl rfl (mh _) ?_;apply sR;simp only[go_sem,seval];refine ae.aC rfl rfl rfl (AB l hl _) ?_;by_cases hc:ia l=0
   .have q:(ia l≠0)=False:=PF (λh=>h hc);have hck:=AB l hl;rw[hc]at hck q|-;apply sR;simp only[go_sem,seval,q];refine ae.aC rfl rfl rfl (tK l hl _) ?_;apply sR;simp only[go_sem,seval,Sm.cells];refine ad λi9 Z9 s9 a9 f9=>?_;have z9:=hs.none f9;replace hs:=hs.trans s9;simp only[go_sem,seval,a9];generalize Qv:C' _ i9 _=Y9;replace a9:=(congrFun Qv i9).symm.trans af;replace hs:=Eq.subst (motive:=aa _) Qv (hs.aD z9);clear Qv;refine Go.bZ rfl rfl rfl (zY l hl h) ?_;apply sG;simp only[go_sem,seval];refine Go.bZ rfl rfl rfl (M3 (cU l h) 32768) ?_;have hE:gN l w h=if(ew l).1.L'>mulR (cU l h) 32768 then 2 else 0:=by rw[gN,aH (λh=>h ⟨hw,hh⟩),aH (λh=>h hc)]
    by_cases hlim:(ew l).1.L'>mulR (cU l h) 32768
    .have q1:((ew l).1.L'>mulR (cU l h) 32768)=True:=PK hlim;obtain⟨e1,e2⟩:=bad 2 (by rw[hE,aE hlim]) (by decide);rw[e1,e2];apply sG;simp only[go_sem,seval,a9,q1];exact av.pure hs rfl
    have q1:((ew l).1.L'>mulR (cU l h) 32768)=False:=PF hlim;have e2:gN l w h=0:=by rw[hE,aH hlim]
    have e1:AU l w h=.rp (bW (bJ l w h)):=by rw[AU,aE e2]
    rw[e1,e2];obtain⟨Rx,hn2,hwo,Yf⟩:=vG hc;have hG:=uI Rx hn2 hw.1 hw.2;have Tu:=Ka l hl Rx hn2 (λx hx=>by have:=hwo x hx;omega) (by omega) hck w hw.1 hw.2;apply sG;simp only[go_sem,seval,a9,q1];refine ae.call rfl rfl rfl (G4 l hl.1 _) ?_;rintro vn UP ⟨hs10,Xl⟩;replace Xl:=Xl.GZ hs;replace hs:=hs.trans hs10;obtain⟨cn,sn⟩:=Xl.vc;have Si:=Xl.len;rw[du]at Si;apply sR;simp only[go_sem,seval,cn,sn];refine ad λSl Z46 s46 a46 f46=>?_;have z46:=hs.none f46;replace hs:=hs.trans s46;have ho46:aU (bo U Sl) Z46 51 20 vn (l.map ji):=by
     rcases Xl with h|⟨id,h3,h4,h5⟩
     .exact .inl h
     .exact .inr ⟨id,h3,s46 _ _ h4,aL.2 ⟨λe=>(by rw[e,f46]at h4;cases h4),h5⟩⟩
    have k46:bo U Sl Sl≠none:=λh=>(aL.1 h).1 rfl;simp only[go_sem,seval,a46,Si];refine ae.jd (λst=>aa U st.U/\AH (bo U Sl) st.U vn l/\st.U Sl=some (vg vn w h .aT .aT 0 .aT)/\st.s 0=aQ l/\st.s 1=vI w/\st.s 11=.ptr Sl 0 0)
     (λm st=>∃(i:Nat) (rows:List V),i<=l.length/\m=l.length-i/\aa U st.U/\aU (bo U Sl) st.U 51 20 vn rows/\rows.length=l.length/\gd (bo U Sl) st.U (l.take i) (rows.take i)/\rows.drop i=(l.drop i).map ji/\st.U Sl=some (vg vn w h .aT .aT 0 .aT)/\
       st.s 0=aQ l/\st.s 1=vI w/\st.s 11=.ptr Sl 0 0/\st.s 51=vI l.length/\st.s 52=vI i) l.length ?_ ?_ ?_
    .exact⟨0,l.map ji,by omega,rfl,hs,ho46,by simp,trivial,by simp,a46,rfl,rfl,rfl,rfl,rfl⟩
    .clear hs ho46 a46 Xl a9;rintro m ⟨S,J⟩ ⟨i,rows,hi,rfl,hs,ho,hn,hr,hd,hb,t0,t1,t11,t51,t52⟩;simp only at hs ho hr hb t0 t1 t11 t51 t52;refine ae.mix 60 ?_;by_cases H':i<l.length
     .have q:((i:Int)<l.length)=True:=PK;obtain⟨id,rfl,M',U2⟩:∃id,vn=.own id 0 rows.length/\J id=some ⟨51,20,rows⟩/\bo U Sl id=none:=by
       rcases ho with⟨_,h0⟩|h
       .rw[h0]at hn;simp at hn;omega
       .exact h
      have hdc:(l.drop i)=l[i]::l.drop (i+1):=iy H';have hw':=hwo _ (QL H');have QF:l.take (i+1)=l.take i++[l[i]]:=Tp H';have Rh:=λU=>jZ l H' U;generalize Yi:l[i]=x at*;have hrow':rows[i]?=some (.agg x.cells):=by
       have:(rows.drop i)[0]?=some (ji x):=by rw[hd,hdc];rfl
       rw[Mi]at this;exact this
      have P':id≠Sl:=(aL.1 U2).1;have hio:∀X':ag,X' id=some ⟨51,20,rows⟩->bS X' 20 (.own id 0 rows.length) (.int .i64 i)=some (.ptr id i 0):=λX' h=>jY h (by omega);have r1:PY .i64 ((i:Int)+1):=ar;rw[vg]at hb;apply sR;simp only[go_sem,seval,t0,t1,t11,t51,t52,q,dL];refine ae.pF (by kernel_rfl) [0,1,2,3,4,5,6,7,8,9,10,11,12,13] [[],[0],[0,1],[0,1,2],[],[],[],[5,6],[5,6,7],[5,6,7,8],[5,6,7,8,9],[0,1,2,3,4,5,6,7,8,9,10],[0,1,2,3,4,5,6,7,8,9,10,11],[0,1,2,3,4,5,6,7,8,9,10,11,12]] [0,2,4,6,8,10,12,14,16,18,20,7,22,24,26] (by kernel_rfl) (by kernel_rfl) ?_;refine RE.Qx (n:=0) [20,7,22,24,26] [0,2,4,6,8,10,12,14,16,18] [⟨(.some 55),(.Qc (.t 11)),.none⟩,⟨(.some 56),(.nilCheck (.t 55)),.none⟩,⟨(.some 57),(.P9 .false 0 1 (.t 56)),.none⟩,⟨(.some 58),(.load .false 1 (.t 57)),.none⟩,⟨(.some 59),(.Qc (.t 12)),.none⟩,⟨(.some 60),(.Qc (.t 0)),.none⟩,⟨(.some 61),(.Qc (.t 12)),.none⟩,⟨(.some 62),(.TZ 20 (.t 60) (.t 61)),.none⟩,⟨(.some 63),(.P9 .false 16 1 (.t 62)),.none⟩,⟨(.some 64),(.load .false 1 (.t 63)),.none⟩] rfl rfl ?_;apply sG;simp only[go_sem,seval,t0,t11,hb,Rh,Nd.cells,OK];refine RE.call rfl rfl rfl rfl rfl (E3 x.words (by omega) _) ?_;rintro wv Z2 ⟨SQ,Ua⟩;simp only at SQ Ua;have W2:=SQ _ _ M';have QD:=SQ _ _ hb;obtain⟨cw,sw⟩:=Ua.vc;have hio2:=hio _ W2;refine RE.QQ rfl rfl rfl rfl rfl trivial (by simp only[go_sem,seval,t0,t11,QD]) ?_;refine RE.Qx (n:=0) [] [22,24,26] [⟨(.some 66),(.TZ 20 (.t 58) (.t 59)),.none⟩,⟨(.some 67),(.P9 .false 16 1 (.t 66)),.none⟩,⟨.none,(.store 1 (.t 67) (.t 65)),.none⟩] rfl rfl ?_;apply sG;simp only[go_sem,seval,t0,t11,QD,hio2,W2,hrow',Nd.cells,cw,sw];have hk46:bo U Sl id=none:=U2;have hsf:aa U (C' Z2 id ⟨51,20,rows.set i (ndW x wv)⟩):=(hs.trans SQ).aD (aL.1 U2).2;have SF:∀j,j≠id->∀o,Z2 j=some o->C' Z2 id ⟨51,20,rows.set i (ndW x wv)⟩ j=some o:=λj hj o hjo=>by rw[ab hj];exact hjo
      have h1:=(hr.mono SQ).kept W2 SF;have Q6:aa (bo U Sl) (bo J Sl):=λj o hj=>by
       unfold bo at hj|-;split
       .rename_i e;rw[aE e]at hj;exact hj
       .rename_i e;rw[aH e]at hj;exact hs _ _ hj
      have h2:aU (bo U Sl) (C' Z2 id ⟨51,20,rows.set i (ndW x wv)⟩) 3 1 wv (x.words.map vI):=by
       rcases Ua with h|⟨iw,e1,e2,e3⟩
       .exact .inl h
       .have n1:iw≠id:=λe=>by rw[e,W2]at e2;simp at e2
        refine .inr ⟨iw,e1,by rw[ab n1];exact e2,aL.2 ⟨λe=>(by rw[e,hb]at e3;cases e3),hs.none e3⟩⟩
      have h3:(rows.set i (ndW x wv)).take (i+1)=rows.take i++[ndW x wv]:=by
       rw[Tp (by simp;omega),List.take_set_of_le (by omega)];simp
      apply sR;simp only[go_sem,seval,t0,t1,t11,t51,t52,r1];refine⟨_,?_,i+1,rows.set i (ndW x wv),by omega,rfl,hsf,.inr ⟨id,by rw[List.length_set],af,U2⟩,by simp[hn],?_,?_,?_,rfl⟩
      .omega
      .rw[h3,QF];exact h1.app ⟨⟨wv,rfl,h2⟩,trivial⟩
      .rw[List.drop_set_of_lt (by omega)];have:rows.drop (i+1)=(rows.drop i).drop 1:=by simp
       rw[this,hd,hdc];rfl
      .exact(ab P'.symm).trans QD
     .have q:((i:Int)<l.length)=False:=PF;have RH:i=l.length:=by omega
      subst RH;rw[jK,nX (by omega)]at hr;apply sR;simp only[go_sem,seval,t0,t1,t11,t51,t52,q];exact⟨hs,⟨rows,ho,hr⟩,hb⟩
    .clear hs ho46 a46 Xl a9;rintro⟨S,J⟩ ⟨hs,how,hb,t0,t1,t11⟩;simp only at hs how hb t0 t1 t11;have RN:=jm (di l w).atoms;have Tx:=hG.len;have hbr:=KE l hl Rx (XK l w) (by rw[XK,du];omega) (λx hx=>by
      obtain⟨a,ha,rfl⟩:=fM.1 hx;exact hG.nod a ha) hG.may
     have hofe:XK l w=(di l w).atoms.map (·.node):=rfl;rw[vg]at hb;rw[FU]at Tu;refine ae.mix 16 ?_;apply sR;simp only[go_sem,seval,t0,t1,t11];refine ae.aC rfl rfl rfl (Tu _) ?_;apply sR;simp only[go_sem,seval,t11,hb,RN,aq,ao,aO,aP];generalize hq:C' J Sl _=Y0;have hb0:Y0 Sl=some (vg vn w h (bH (di l w).atoms) (aS (di l w).u') (di l w).PM .aT):=by rw[<-hq];exact af
     have QP:aa U Y0:=hq▸hs.aD z46;have how0:AH (bo U Sl) Y0 vn l:=hq▸how.ER k46;clear hq hs how hb;refine ae.jd (λst=>aa Y0 st.U/\aU Y0 st.U 3 1 (st.s 13) ((XK l w).map vI)/\st.s 0=aQ l/\st.s 11=.ptr Sl 0 0)
      (λm st=>∃j:Nat,j<=(di l w).atoms.length/\m=(di l w).atoms.length-j/\aa Y0 st.U/\aU Y0 st.U 3 1 (st.s 13) ((((di l w).atoms.take j).map (·.node)).map vI)/\st.s 0=aQ l/\st.s 11=.ptr Sl 0 0/\st.s 82=bH (di l w).atoms/\st.s 83=vI (di l w).atoms.length/\st.s 84=vI j) (di l w).atoms.length ?_ ?_ ?_
     .exact⟨0,by omega,rfl,aa.refl _,aU.start,t0,t11,rfl,rfl,rfl⟩
     .clear t0 t1 t11;rintro m ⟨S,J⟩ ⟨j,hj,rfl,hsj,ho,t0,t11,t82,t83,t84⟩;simp only at hsj ho t0 t11 t82 t83 t84;generalize Wo:S 13=v13 at ho;refine ae.mix 85 ?_;by_cases H':j<(di l w).atoms.length
      .have q:((j:Int)<(di l w).atoms.length)=True:=PK;have O':=λU=>jr (U:=U) H';have Qu:(((di l w).atoms.take (j+1)).map (·.node)).map vI=(((di l w).atoms.take j).map (·.node)).map vI++[vI (di l w).atoms[j].node]:=by
        rw[Tp H',fC,fC];rfl
       have Vf:((((di l w).atoms.take j).map (·.node)).map vI).length=j:=by rw[du,du,kK];omega
       have RG:dC (di l w).atoms[j]=.agg [vI (di l w).atoms[j].kind,vI (di l w).atoms[j].node,vI (di l w).atoms[j].fr,vI (di l w).atoms[j].to,vI (di l w).atoms[j].x,vI (di l w).atoms[j].y,vI (di l w).atoms[j].w,vI (di l w).atoms[j].h]:=rfl;generalize (((di l w).atoms.take j).map (·.node)).map vI=rows at*;generalize (di l w).atoms[j]=x at*;have r1:PY .i64 ((j:Int)+1):=ar;have hs:=aa.refl J;apply sR;simp only[go_sem,seval,t0,t11,t82,t83,t84,Wo,q,O',RG];refine ad λVW Y15 Vi SR f15=>?_;have z15:=hs.none f15;replace hs:=hs.trans Vi;simp only[go_sem,seval,SR,t0,t11,t82,t83,t84,Wo];generalize Rs:C' _ VW _=Z15;replace SR:=(congrFun Rs VW).symm.trans af;replace hs:=Eq.subst (motive:=aa _) Rs (hs.aD z15);clear Rs;refine ad λi91 Z91 s91 a91 f91=>?_;obtain⟨PU,QW,QJ⟩:=ho.dst (hs.trans s91);have QD:(rows.length+1)*9<=140737488355328:=by omega
       simp only[go_sem,seval,QW,dj a91,QD];refine ep λi92 Z92 s92 a92 f92=>?_;have k92:=(QJ Y0 (aa.refl _) Z91 (hsj.trans (hs.trans s91))).trans s92;have n92:Y0 i92=none:=(hsj.trans (hs.trans s91)).none f92;simp only[go_sem,seval,t0,t11,t82,t83,t84,r1];refine⟨_,?_,j+1,by omega,rfl,k92,?_,rfl⟩
       .omega
       .rw[Qu];exact aU.new (by simp) a92 n92
      .have q:((j:Int)<(di l w).atoms.length)=False:=PF;have Rf:j=(di l w).atoms.length:=by omega
       rw[Rf,jK,<-hofe]at ho;apply sR;simp only[go_sem,seval,t0,t11,t82,t83,t84,Wo,q];exact⟨hsj,ho⟩
     .clear t0 t1 t11;rintro⟨S,J⟩ ⟨hsj,ho,t0,t11⟩;simp only at hsj ho t0 t11;refine ae.CJ [0,11] [13] hsj ho (by simp) ?_;generalize hS:(λi=>if[13].contains i then V.sl 1 ((XK l w).map vI)else Cc [0,11] S i)=S';have u0:S' 0=aQ l:=by rw[<-hS];exact t0
      have Tm:S' 11=.ptr Sl 0 0:=by rw[<-hS];exact t11
      have u13:S' 13=bD (XK l w):=by rw[<-hS];rfl
      clear hS t0 t11;refine ae.mix 16 ?_;rw[vg]at hb0;apply sR;simp only[go_sem,seval,u0,Tm,u13];refine ae.aC rfl rfl rfl (hbr _) ?_;apply sR;simp only[go_sem,seval,Tm,hb0,bu,bt];exact FP (b:=bJ l w h) (QP.aD z46) z46 af (how0.ER k46)
   .have q:(ia l≠0)=True:=PK hc;obtain⟨e1,e2⟩:=bad (ia l) (by rw[gN,aH (λh=>h ⟨hw,hh⟩),aE hc]) hc;rw[e1,e2];apply sR;simp only[go_sem,seval,q];exact av.pure hs rfl
  .have mh:=rm h;rw[show decide (1<=h/\h<=1099511627776)=false from Rv hh]at mh;obtain⟨e1,e2⟩:=bad 3 (by rw[gN,aE (λh=>hh h.2)]) (by decide);rw[e1,e2];refine ae.aC rfl rfl rfl (mh _) ?_;apply sR;simp only[go_sem,seval];exact av.pure hs rfl
 .have mw:=rm w;rw[show decide (1<=w/\w<=1099511627776)=false from Rv hw]at mw;obtain⟨e1,e2⟩:=bad 3 (by rw[gN,aE (λh=>hw h.1)]) (by decide);rw[e1,e2];apply sR;simp only[go_sem,seval,c33];refine ae.aC rfl rfl rfl (mw _) ?_;apply sR;simp only[go_sem,seval];exact av.pure hs rfl
def nH{l:List Nd}{w h:Int}(he:gN l w h=0):y8 w/\y8 h/\ia l=0:=by
 unfold gN at he;split at he
 .cases he
 .rename_i h1;split at he
  .rename_i h2;exact absurd he h2
  .rename_i h2;exact⟨Decidable.byContradiction λh=>h1 (λg=>h g.1),Decidable.byContradiction λh=>h1 (λg=>h g.2),Decidable.byContradiction h2⟩
def DC{l:List Nd}(hl:ed l){w h:Int}(he:gN l w h=0):BkFull (bJ l w h)/\∀f∈(bJ l w h).P6,0<=f.h:=by
 obtain⟨hw,hh,hc⟩:=nH he;obtain⟨Rx,hn,hwo,Yf⟩:=vG hc;have hG:=uI Rx hn hw.1 hw.2;have hl1:=hG.len;have hl2:=hG.Un;have hb:(1099511627776:Int)*((Q9 l 0 l.length:Nat):Int)<=10995116277760000:=by omega
 have ht:∀a∈(di l w).atoms,-18014398509481984<=a.y/\a.y<=18014398509481984/\0<=a.h/\a.h<=18014398509481984:=λa ha=>by
  have:=hG.Qf a ha;have h0:=this.y0;have h1:=this.y1;have h2:=this.h0;have h3:=this.h1;omega
 refine⟨⟨⟨⟨?_,λa ha=>?_⟩,ht,?_,?_,λf hf=>(hG.Xc f hf).ok (by omega),?_⟩,hl,Rx,hh.1,hh.2,hG.nod⟩,λf hf=>(hG.Xc f hf).h0⟩
 .show(di l w).atoms.length<=_;omega
 .have:=ht a ha;omega
 .show(di l w).atoms.length<=_;omega
 .show(di l w).u'.length<=_;omega
 .show(qd l (XK l w)).length=(di l w).atoms.length+1;unfold qd XK;simp
def dO(b:Bk)(a:Nat):Int:=((b.atoms.drop a).map (·.h)).sum
def kC{b:Bk}{a:Nat}(h:a<b.atoms.length):dO b a=(b.atoms[a]).h+dO b (a+1):=by
 unfold dO;rw[iy h,eD,List.sum_cons]
def jU{b:Bk}(hp:∀a∈b.atoms,1<=a.h)(a:Nat):0<=dO b a:=by
 have key:∀l:List QB,(∀a∈l,1<=a.h)->0<=(l.map (·.h)).sum:=by
  intro l
  induction l with
  |nil=>intro _;simp
  |cons x l ih=>
   intro h;have h1:=h x (by simp);have h2:=ih (λy hy=>h y (by simp[hy]));simp only[eD,List.sum_cons];omega
 exact key _ λx hx=>hp x (List.mem_of_mem_drop hx)
def Ac{b:Bk}(hp:∀a∈b.atoms,1<=a.h)(a:Nat):∀n,dO b (a+n)<=dO b a
 |0=>Int.le_refl _
 |n+1=>by
  have ih:=Ac hp a n;by_cases h:a+n<b.atoms.length
  .have h1:=kC h;have h2:=hp _ (QL h);rw[<-Nat.add_assoc];omega
  .have:dO b (a+(n+1))=dO b (a+n):=by
    unfold dO;rw[List.drop_of_length_le (by omega),List.drop_of_length_le (by omega)]
   omega
def rE{body:Int}(f:PI)(r:List PI):(eW body (f::r) 0).2.1.length<(f::r).length:=by
 have key:∀(l:List PI) (sh:Int),(eW body l sh).2.1.length<=l.length:=by
  intro l
  induction l with
  |nil=>intro sh;simp[eW]
  |cons g l ih=>
   intro sh;rw[eW];split
   .simp
   .have:=ih (sh+min g.h body);simp only[Q4];omega
 rw[eW,aH (by omega)];have:=key r (0+min f.h body);simp only[Q4];omega
def mW{b:Bk}{s:PH}{to kept shift body:Int}:(fB b.atoms b.P6 s to kept shift body).2.length<=b.P6.length:=by
 unfold fB;split
 .have h1:=qH (vP b.atoms s kept) shift body (iK b.P6 s to);have h2:(iK b.P6 s to).length<=b.P6.length:=ry _ _ _;omega
 .simp
inductive kx(b:Bk)(x:Wx):Sf->Prop
 |whole (c:Nat) (fr:Bool) (p:List PI) (h1:x.s.atom<c) (h2:c<=b.atoms.length) (h3:p.length<=b.P6.length):kx b x ⟨⟨c,0,fr⟩,p⟩
 |more (d:Int) (p:List PI) (h1:x.s.done<d) (h2:d<(R8 b.atoms x.s.atom).h) (h3:p.length<=b.P6.length):kx b x ⟨⟨x.s.atom,d,false⟩,p⟩
def qG{b:Bk}(hb:BkOk b){x:Wx}(hm:cM b.atoms x.s)(QR:∀a∈b.atoms,1<=a.h)(UD:1<=x.body):kx b x (iq b x):=by
 have VP:eH b x<=b.atoms.length:=xj;have QX:=hb.WL;unfold iq;split
 .rename_i P5;obtain⟨c,h1,h2,h3⟩:=yY P5 (by omega);rw[show yN b x=c from h1,fp];exact .whole c _ _ h2 (by omega) mW
 .unfold uz dI;have hso:pY b.atoms x.s x.body:=⟨hm,UD⟩
  rw[aE (show pY b.atoms ({ x with kind:=1 }:Wx).s ({ x with kind:=1 }:Wx).body from hso)];obtain⟨⟨h0,h1⟩,h2,h3⟩:=hm;obtain⟨k,hk⟩:∃k:Nat,x.s.atom=k:=⟨x.s.atom.toNat,by omega⟩
  have Q6:k<b.atoms.length:=by omega
  have hp:=QR _ (QL Q6);have ha:R8 b.atoms x.s.atom=b.atoms[k]:=by rw[hk,bG Q6]
  rw[ha]at h3;have Yc:(iO b.atoms x.s.atom).h=b.atoms[k].h:=by rw[iO,ha]
  unfold jw;have e1:(eE b.atoms x.s x.body).fr=x.s.done:=rfl;have e2:(eE b.atoms x.s x.body).atom=x.s.atom:=rfl;have e3:(eE b.atoms x.s x.body).h=min (b.atoms[k].h-x.s.done) x.body:=by rw[<-Yc];rfl
  split
  .rename_i H';have Rw:x.s.done+min (b.atoms[k].h-x.s.done) x.body<(R8 b.atoms x.s.atom).h:=by rw[<-e3];exact H'
   have:=kx.more (b:=b) (x:=x) (x.s.done+min (b.atoms[k].h-x.s.done) x.body) (fB b.atoms b.P6 x.s (x.s.atom+1) 0 0 x.body).2 (by omega) Rw mW;rw[<-e3]at this;exact this
  .have:=kx.whole (b:=b) (x:=x) (k+1) false (fB b.atoms b.P6 x.s (x.s.atom+1) 0 0 x.body).2 (by omega) (by omega) mW;have e4:((k+1:Nat):Int)=x.s.atom+1:=by omega
   rw[e4]at this;exact this
structure UQ(s:WS):Prop where
 pw:s.atoms.Pairwise λa b=>a.y+a.h<=b.y
 q:∀a∈s.atoms,a.y+a.h<=s.PW.y
def UQ.put{s:WS}(h:UQ s){a:QB}(h1:s.PW.y<=a.y)(h2:0<=a.h):UQ (s.put a):=by
 refine⟨?_,λx hx=>?_⟩
 .simp only[WS.put];rw[List.pairwise_append];refine⟨h.pw,by simp,λx hx y hy=>?_⟩;simp only[iW]at hy;subst hy;have:=h.q x hx;omega
 .simp only[WS.put]at hx|-;rcases ei.1 hx with hx|hx
  .have:=h.q x hx;omega
  .simp only[iW]at hx;subst hx;omega
def UQ.PW{s:WS}(h:UQ s){p:Pn}(hp:s.PW.y<=p.y):UQ { s with PW:=p }:=⟨h.pw,λa ha=>by have:=h.q a ha;simp only;omega⟩
def C2{p:Pn}{m d:Int}(h0:0<=p.m)(hd:0<=d):p.y<=(eK p m d).y:=by
 simp only[eK,tF];(repeat' split)<;>omega
def IB{p:Pn}{m d:Int}(h0:0<=p.m)(hd:0<=d):p.y<=(mn p m d).y:=by
 simp only[mn,tF];(repeat' split)<;>(try simp only)<;>omega
def UQ.enter{s:WS}(h:UQ s)(h0:0<=s.PW.m){t:Ru}(ht:ZY t):UQ (s.enter t):=by
 have hp:=ht.PS.1;unfold WS.enter;simp only;refine h.PW ?_;split
 .have hc:s.PW.y<=(jT s.PW (ek (mH t.clear) s.u').1).y/\0<=(jT s.PW (ek (mH t.clear) s.u').1).m:=by
   unfold jT;split<;>(try simp only)<;>omega
  exact Int.le_trans hc.1 (C2 hc.2 hp)
 .exact C2 h0 hp
def UQ.leave{s:WS}(h:UQ s)(h0:0<=s.PW.m){t:Ru}(ht:ZY t):UQ (s.leave t):=h.PW (IB h0 ht.PG.1)
def UQ.text{rs:List Rm}{s:WS}{C:Nat}(h:gq s C)(hk:UQ s){n:Nd}(hn:XE n)(a:Nat):UQ (s.text rs a n):=by
 obtain⟨⟨hf,h1,h2,h3,h4⟩,h5,h6⟩:=h;have hl:=hn.line;have key:∀(k i:Nat) (y:Int) (t:WS),t.PW.y<=y->UQ t->UQ ((dT s.u' n.words n.space n.line (eO rs a) k i y).foldl (λs x=>s.put (fg a n.line x)) t):=by
  intro k
  induction k with
  |zero=>intro i y t _ ht;exact ht
  |succ k ih=>
   intro i y t hy ht;rw[dT];split
   .rw[kf];have hyr:y<=(oI s.u' n.words n.space n.line i y (eO rs a)).y:=(gm (λf Uj=>(hf f Uj).yB)).1;refine ih _ _ _ ?_ (ht.put (by simp only[fg];omega) hl.1);simp only[WS.put,fg];omega
   .exact ht
 exact key _ _ _ s (by omega) hk
def uL{l:List Nd}{rs:List Rm}(hD:Xb l rs):∀(k a e:Nat) (s:WS) (C:Nat),e-a<=k->a<=e->e<=l.length->cJ l a e=true->gq s C->UQ s->UQ (eF l rs k a e s)
 |0,a,e,s,C,_,Vz,_,_,_,h=>h
 |k+1,a,e,s,C,hk,Vz,he,hr,h,hs=>by
  rw[eF];by_cases H':a<e
  .rw[aE H'];obtain⟨h1,h2⟩:=dB he hr (Qt a) H';obtain⟨h3,h4⟩:=er he hr H';have Qr:XE (Qg l a):=by rw[jL (by omega)];exact gO hD.WI (by omega)
   have step:∀t,(∃D,gq t D)->UQ t->UQ (eF l rs k (a+(Qn l a).toNat) e t):=λt ⟨D,ht⟩ hA=>
    uL hD k _ e t D (by omega) (by omega) he h3 ht hA
   have hm:=h.bd.m0;split
   .have hI2:=gT hD k (a+1) (a+(Qn l a).toNat) _ _ (by omega) (by omega) (by omega) h4 (fi h Qr.st);have hS2:=uL hD k (a+1) (a+(Qn l a).toNat) _ _ (by omega) (by omega) (by omega) h4 (fi h Qr.st) (hs.enter hm Qr.st);exact step _ ⟨_,j9 hI2 Qr.st⟩ (hS2.leave hI2.bd.m0 Qr.st)
   .split
    .exact step _ ⟨_,lG h Qr a⟩ (UQ.text h hs Qr a)
    .split
     .refine step _ ⟨_,lN h Qr a⟩ ?_;have hyr:=gm (w:=(Qg l a).w) (high:=(Qg l a).h) (y:=s.PW.y+s.PW.m) (s:=eO rs a) (λf Uj=>(h.bd.fl f Uj).yB);exact hs.put (by simp only;omega) Qr.h.1
     .have k4:(Qg l a).kind=4:=by rename_i g1 g2 g3;rcases Qr.kind with h|h|h|h;exact absurd h g1;exact absurd h g2;exact absurd h g3;exact h
      exact step _ ⟨_,ke hD h (by omega) Qr k4⟩ ⟨hs.pw,hs.q⟩
  .rw[aH H'];exact hs
def G7{l:List Nd}(hb:Qy l=true)(hn:l.length<=2000){w:Int}(h1:1<=w)(h2:w<=1099511627776):(di l w).atoms.Pairwise λa b=>a.y+a.h<=b.y:=by
 have hD:=tS hb hn h1 h2;have hr:cJ l 0 l.length=true:=by simp only[Qy,Ba]at hb;exact hb.2
 have hI:gq ⟨[],[],0,⟨0,0⟩⟩ 0:=⟨⟨by simp,by simp,by simp,by simp,by simp⟩,by simp,by simp⟩
 exact(uL hD l.length 0 l.length ⟨[],[],0,⟨0,0⟩⟩ 0 (by omega) (by omega) (Qt _) hr hI ⟨by simp,by simp⟩).pw
def xJ{l:List QB}(h:l.Pairwise λa b=>a.y+a.h<=b.y){i j:Nat}(YZ:i<j)(hj:j<l.length):l[i].y+l[i].h<=l[j].y:=List.pairwise_iff_getElem.1 h i j (by omega) hj YZ
def rk{p:Nat->Bool}{n:Nat}(hm:∀i j,i<=j->j<n->p i=true->p j=true):∀(f i j:Nat),j-i<=f->i<=j->j<=n->(∀x,x<i->p x=false)->(j<n->p j=true)->
 (∀x,x<lA p f i j->p x=false)/\(lA p f i j<n->p (lA p f i j)=true)/\lA p f i j<=j
 |0,i,j,hf,YZ,_,h1,h2=>by
  obtain rfl:i=j:=by omega
  exact⟨h1,h2,Qt _⟩
 |f+1,i,j,hf,YZ,hjn,h1,h2=>by
  rw[lA];split
  .rename_i H';split
   .rename_i hp;obtain⟨g1,g2,g3⟩:=rk hm f i ((i+j)/2) (by omega) (by omega) (by omega) h1 (λ_=>hp);exact⟨g1,g2,by omega⟩
   .rename_i hp;have ZQ:p ((i+j)/2)=false:=by simpa using hp
    refine rk hm f ((i+j)/2+1) j (by omega) (by omega) hjn (λx hx=>?_) h2;cases Qh:p x with
    |false=>rfl
    |true=>rw[hm x ((i+j)/2) (by omega) (by omega) Qh]at ZQ;cases ZQ
  .obtain rfl:i=j:=by omega
   exact⟨h1,h2,Qt _⟩
def kg{b:Bk}(hk:b.atoms.Pairwise λx y=>x.y+x.h<=y.y)(QR:∀a∈b.atoms,1<=a.h){s:PH}(hm:cM b.atoms s)(kept shift body:Int):
 ∃r:Nat,lq b.atoms s kept shift body=r/\s.atom<=r/\r<=b.atoms.length/\(∀k (h:k<b.atoms.length),s.atom<=k->k<r->eo b.atoms s kept shift k+b.atoms[k].h<=body)/\∀h:r<b.atoms.length,eo b.atoms s kept shift r+b.atoms[r].h>body:=by
 have XH:=hm;obtain⟨⟨h0,h1⟩,h2,h3⟩:=hm;obtain⟨a,ha⟩:∃a:Nat,s.atom=a:=⟨s.atom.toNat,by omega⟩
 have Tx:a<b.atoms.length:=by omega
 have TY:∀k (h:k<b.atoms.length),a<=k->eo b.atoms s kept shift k=b.atoms[k].y-b.atoms[a].y-s.done+kept+shift:=λk h hak=>by
  rw[eo,aE ⟨XH,by omega,by omega⟩,gZ,aE ⟨⟨h0,h1⟩,by omega,by omega⟩,ha,bG h,bG Tx]
 have hby:∀n (h:a+n<b.atoms.length),fO b.atoms s kept shift body n=decide (b.atoms[a+n].y-b.atoms[a].y-s.done+kept+shift+b.atoms[a+n].h>body):=λn h=>by
  have e:s.atom+(n:Int)=((a+n:Nat):Int):=by omega
  rw[fO,e,TY _ h (by omega),bG h]
 have hmono:∀i j,i<=j->j<b.atoms.length-a->fO b.atoms s kept shift body i=true->fO b.atoms s kept shift body j=true:=λi j YZ hj hb=>by
  rcases Nat.eq_or_lt_of_le YZ with rfl|H'
  .exact hb
  .have hi2:a+i<b.atoms.length:=by omega
   have hj2:a+j<b.atoms.length:=by omega
   rw[hby i hi2]at hb;rw[hby j hj2];have h5:=xJ hk (show a+i<a+j by omega) hj2;have h6:=QR _ (QL hj2);have SO:=of_decide_eq_true hb;exact Rt (by omega)
 have hs:=rk hmono (b.atoms.length-a) 0 (b.atoms.length-a) (by omega) (by omega) (Qt _) (λx hx=>by omega) (λh=>by omega);have hsr:lA (fO b.atoms s kept shift body) (b.atoms.length-a) 0 (b.atoms.length-a)=BA (fO b.atoms s kept shift body) (b.atoms.length-a):=rfl;rw[hsr]at hs;obtain⟨g1,g2,g3⟩:=hs;refine⟨a+BA (fO b.atoms s kept shift body) (b.atoms.length-a),?_,by omega,by omega,λk h hak hkr=>?_,λh=>?_⟩
 .rw[lq,aE XH,ha,fp];rfl
 .have hka:a<=k:=by omega
  have:=g1 (k-a) (by omega);rw[hby (k-a) (by omega)]at this;have h5:=of_decide_eq_false this;rw[TY k h hka];have e:a+(k-a)=k:=by omega
  simp only[e]at h5;omega
 .have:=g2 (by omega);rw[hby _ h]at this;have h5:=of_decide_eq_true this;rw[TY _ h (by omega)];omega
def mc{l:List Nd}{a:Nat}:∀(k:Nat) (x:Int),x∈ig l a k->iL l x a=true
 |0,_,h=>by simp[ig]at h
 |k+1,x,h=>by
  rw[ig]at h;split at h
  .rename_i hk;rcases dc.1 h with rfl|h
   .exact hk
   .exact mc k x h
  .exact mc k x h
def Fg(l:List Nd)(of:List Int)(k:Nat):0<=dM l of k 3/\dM l of k 3<=7:=by
 simp only[dM,Ep];cases kY l of k 0<;>cases kY l of k 1<;>cases kY l of k 2<;>simp
def yc:∀(all:List Int),dx all=0\/2<=dx all/\dx all<=4:=by
 have key:∀(all:List Int) (o:Int),(o=0\/2<=o/\o<=4)->(all.foldl kX o=0\/2<=all.foldl kX o/\all.foldl kX o<=4):=by
  intro all
  induction all with
  |nil=>intro o h;exact h
  |cons x all ih=>
   intro o h;rw[kf];refine ih _ ?_;unfold kX mV
   (repeat' split)<;>omega
 exact λall=>key all 0 (.inl rfl)
def He{l:List Nd}(hb:Qy l=true){of:List Int}(Q7:∀x∈of,0<=x/\x<l.length):sQ (qd l of)=true:=by
 have hlen:(qd l of).length=of.length+1:=by simp[qd]
 simp only[sQ,Ba,fv,List.mem_range,Sp];refine⟨λk hk=>?_,by omega⟩;rw[hlen]at hk;have hg:Rz (qd l of) k=Xi l of k:=by simp[Rz,qd,hk]
 unfold gw;rw[hg,hlen];refine Rt ?_;have RV:0<k->k<of.length->of.getD k 0=of.getD (k-1) 0->jJ l of k=0:=λh0 h1 he=>by
  have R0:of.getD k 0=of[k]:=by simp[h1]
  have hr:=Q7 _ (QL h1);have hh:∀x∈TU l (of.getD k 0).toNat,V0 l of x k=true/\V0 l of x ((k:Int)-1)=true:=λx hx=>by
   rw[R0]at hx;have H':of[k].toNat<l.length:=by omega
   rw[KF hb H']at hx;have Qh:=mc _ _ hx;rw[l9]at Qh;have e1:((k:Int)-1).toNat=k-1:=by omega
   have e2:((k:Int)).toNat=k:=by omega
   have e3:(of[k].toNat:Int)=of[k]:=by omega
   rw[e3]at Qh;unfold V0 yi;rw[aE (by omega),aE (by omega),e1,e2,<-he,R0];exact⟨Rt ⟨Qh.2.2.1,Qh.2.2.2⟩,Rt ⟨Qh.2.2.1,Qh.2.2.2⟩⟩
  have e1:((k:Int)-1).toNat=k-1:=by omega
  have e2:((k:Int)).toNat=k:=by omega
  have he1:UI l of ((k:Int)-1) (λb=>!V0 l of b k)=[]:=by
   unfold UI;rw[aE (by omega),e1,<-he,List.filter_eq_nil_iff];intro x hx;rw[(hh x hx).1];simp
  have he2:UI l of k (λb=>!V0 l of b ((k:Int)-1))=[]:=by
   unfold UI;rw[aE (by omega),e2,List.filter_eq_nil_iff];intro x hx;rw[(hh x hx).2];simp
  unfold jJ jM;rw[aH (by omega),eM,he1,he2];rfl
 have hend:k=of.length->jJ l of k=0:=λh=>by
  unfold jJ jM;rw[aE h];rfl
 have hfv:=yc (jM l of k);have hbr:=Fg l of k;change jJ l of k=0\/2<=jJ l of k/\jJ l of k<=4 at hfv;unfold mA Xi;simp only[Sp,decide_eq_false_iff_not];unfold qn qV;by_cases h0:k=0
 .rw[aE h0,aE (show k=0\/k=of.length from .inl h0)];refine⟨λ_=>rfl,λh=>absurd (by omega) h,λh=>absurd (by omega) h,?_,.inl (by split<;>rfl)⟩;rcases hfv with h|h
  .exact .inl h
  .exact .inr ⟨h.1,h.2,by omega,by omega⟩
 .rw[aH h0];by_cases h1:k=of.length
  .rw[aE h1,aE (show k=0\/k=of.length from .inr h1)];exact⟨λh=>absurd h (by omega),λ_ _=>rfl,λ_ h=>absurd (by omega) h,.inl (hend h1),.inl (by split<;>rfl)⟩
  .rw[aH h1,aH (show¬(k=0\/k=of.length) by omega)];by_cases h2:of.getD k 0=of.getD (k-1) 0
   .rw[aE h2];have hf:=RV (by omega) (by omega) h2;refine⟨λh=>absurd h (by omega),λ_ h=>absurd h (by omega),λ_ _=>.inr rfl,.inl hf,?_⟩;rw[aE hf];rcases Int.lt_or_le 0 (dM l of k 3)with h|h
    .exact .inr ⟨.inr rfl,hf,h,by omega⟩
    .exact .inl (by omega)
   .rw[aH h2];refine⟨λh=>absurd h (by omega),λ_ h=>absurd h (by omega),λ_ _=>.inl rfl,?_,?_⟩
    .rcases hfv with h|h
     .exact .inl h
     .exact .inr ⟨h.1,h.2,by omega,by omega⟩
    .by_cases hf:jJ l of k=0
     .rw[aE hf];rcases Int.lt_or_le 0 (dM l of k 3)with h|h
      .exact .inr ⟨.inl rfl,hf,h,by omega⟩
      .exact .inl (by omega)
     .rw[aH hf];exact .inl rfl
def Yd(top e:Int)(l:List RR):Prop:=∀f∈l,top<=f.y/\0<=f.h/\f.y+f.h<=e
def xH{top e:Int}{l m:List RR}(h1:Yd top e l)(h2:Yd top e m):Yd top e (l++m):=λf hf=>(ei.1 hf).elim (h1 f) (h2 f)
def zl{l:List Nd}{x:Kp}{a:Int}(h:∀n∈x.Qa,1<=(SI l n).head):∀n∈(jN l x a).Qa,1<=(SI l n).head:=λn hn=>by
 unfold jN at hn;split at hn
 .exact h n hn
 .rename_i hc;rcases ei.1 hn with hn|hn
  .exact h n hn
  .rw[iW.1 hn];omega
def ub{l:List Nd}{L:List Int}{h:Int}:∀m,∀n∈(gP l L h m).Qa,1<=(SI l n).head
 |0=>λn hn=>by simp[gP]at hn
 |m+1=>by rw[gP];exact zl (ub m)
def LK{l:List Nd}{w:Int}:∀(L:List Int),(∀n∈L,1<=(SI l n).head)->0<=(Ty l w L).2/\(∀f∈(Ty l w L).1,0<=f.y/\0<=f.h/\f.y+f.h<=(Ty l w L).2)/\((Ty l w L).1.map (·.h)).sum=(Ty l w L).2:=λL=>by
 suffices key:∀(L:List Int) (p:List RR×Int),(∀n∈L,1<=(SI l n).head)->0<=p.2->(∀f∈p.1,0<=f.y/\0<=f.h/\f.y+f.h<=p.2)->(p.1.map (·.h)).sum=p.2->
  0<=(L.foldl (VK l w) p).2/\(∀f∈(L.foldl (VK l w) p).1,0<=f.y/\0<=f.h/\f.y+f.h<=(L.foldl (VK l w) p).2)/\((L.foldl (VK l w) p).1.map (·.h)).sum=(L.foldl (VK l w) p).2 from
  λh=>key L ([],0) h (Int.le_refl _) (λf hf=>by cases hf) rfl
 intro L
 induction L with
 |nil=>intro p _ h1 h2 h3;exact⟨h1,h2,h3⟩
 |cons a L ih=>
  intro p h h1 h2 h3;have ha:=h a (by simp);refine ih _ (λn hn=>h n (by simp[hn])) ?_ (λf hf=>?_) ?_
  .simp only[VK];omega
  .simp only[VK]at hf|-;rcases ei.1 hf with hf|hf
   .have:=h2 f hf;omega
   .rw[iW.1 hf];simp only;omega
  .simp only[VK,fC,List.sum_append,h3,eD,List.map_nil,List.sum_cons,List.sum_nil];omega
def Fb{b:Bk}(hb:BkFull b)(s:PH)(h0:0<=s.atom):0<=(bw b s).high/\1<=(bw b s).body/\(bw b s).high+(bw b s).body=b.h/\Yd 0 (bw b s).high (Ty b.nodes b.w (bw b s).Qa).1/\((Ty b.nodes b.w (bw b s).Qa).1.map (·.h)).sum=(bw b s).high:=by
 have hk:=yk hb s;have YJ:=j4 hb s h0;have hh:∀n∈(bw b s).Qa,1<=(SI b.nodes n).head:=by
  unfold bw;split
  .intro n hn;cases hn
  .unfold rh;split
   .exact ub _
   .intro n hn;cases hn
 obtain⟨g1,g2,g3⟩:=LK (l:=b.nodes) (w:=b.w) _ hh;rw[hk.sum]at g2 g3;refine⟨hk.high.1,YJ,?_,g2,g3⟩;have h1:=hb.h1;revert YJ;unfold bw;split
 .intro _;simp
 .unfold rh;split
  .rename_i hc;intro _;obtain⟨_,h3,h4⟩:=hc;generalize (R8 b.atoms (min s.atom ((b.atoms.length:Int)-1))).node=a at*;have ha:a.toNat<b.nodes.length:=by omega
   have Vb:∀x∈TU b.nodes a.toNat,∃n:Nat,x=n/\n<b.nodes.length:=λx hx=>by
    obtain⟨n,h1,h2⟩:=pC ha x hx;exact⟨n,h1,by omega⟩
   exact(pV hb.WI Vb (by omega:0<=b.h) (TU b.nodes a.toNat).length (Qt _)).2.2.2
  .intro h;exact absurd h (by simp)
def Cr{body:Int}(hb:0<=body):∀(l:List PI) (sh:Int),0<=sh->sh<=body->(∀f∈l,0<=f.h)->∀m∈(eW body l sh).1,0<=m.y/\0<=m.h/\m.y+m.h<=body
 |[],sh,_,_,_=>λm hm=>by simp[eW]at hm
 |f::r,sh,h0,h1,hf=>λm hm=>by
  rw[eW]at hm;have:=hf f (by simp);split at hm
  .cases hm
  .rename_i hc;rcases dc.1 hm with rfl|hm
   .simp only;omega
   .exact Cr hb r _ (by omega) (by omega) (λg hg=>hf g (by simp[hg])) m hm
def Gi{top shift body:Int}(SZ:0<=shift):∀{L:List PI},(∀f∈L,0<=f.h)->∀m∈(kF top shift body L).1,0<=m.y/\0<=m.h/\m.y+m.h<=body:=by
 suffices key:∀(L:List PI) (x:List PI×List PI),(∀f∈L,0<=f.h)->(∀m∈x.1,0<=m.y/\0<=m.h/\m.y+m.h<=body)->
  ∀m∈(L.foldl (λx f=>mS body x f (fZ top shift f)) x).1,0<=m.y/\0<=m.h/\m.y+m.h<=body from
  λ{L} h=>key L ([],[]) h (λm hm=>by cases hm)
 intro L
 induction L with
 |nil=>intro x _ h m hm;exact h m hm
 |cons f L ih=>
  intro x hL h;refine ih _ (λg hg=>hL g (by simp[hg])) λm hm=>?_;have hf:=hL f (by simp);simp only[mS]at hm;split at hm
  .exact h m hm
  .rename_i hl;rcases ei.1 hm with hm|hm
   .exact h m hm
   .rw[iW.1 hm];unfold si at hl;have hl':¬(x.2≠[]\/(fZ top shift f).y+(fZ top shift f).h>body):=λh=>hl (Rt h);simp only[fZ]at hl'|-;omega
def D8:∀{l:List PI} {a b:Int} {f:PI},f∈Ck l a b->f∈l:=λh=>(sX.1 h).1
def zg{b:Bk}(hfh:∀f∈b.P6,0<=f.h){s:PH}{to kept shift body:Int}(SZ:0<=shift):∀m∈(fB b.atoms b.P6 s to kept shift body).1,0<=m.y/\0<=m.h/\m.y+m.h<=body:=by
 unfold fB;split
 .exact Gi SZ λf hf=>hfh f (D8 hf)
 .intro m hm;cases hm
def xW{high body:Int}{l:List PI}(h:∀m∈l,0<=m.y/\0<=m.h/\m.y+m.h<=body):Yd high (high+body) (l.map (vC high)):=λf hf=>by
 obtain⟨m,hm,rfl⟩:=fM.1 hf;have:=h m hm;simp only[vC];omega
def l6:∀(xs:List Fd) (d:Fd),(fS iQ xs d=(d,false)/\∀x∈xs,x.b.forced=0)\/∃L x R,xs=L++x::R/\(∀y∈L,y.b.forced=0)/\x.b.forced≠0/\fS iQ xs d=(x,true)
 |[],d=>.inl ⟨rfl,λx h=>(by cases h)⟩
 |a::xs,d=>by
  have stay:∀(l:List Fd) (x:Fd),l.foldl (gL iQ) (x,true)=(x,true):=by
   intro l
   induction l with
   |nil=>intro x;rfl
   |cons y l ih=>intro x;rw[kf];exact ih x
  by_cases h:a.b.forced=0
  .have e:fS iQ (a::xs) d=fS iQ xs d:=by
    unfold fS;rw[kf,gL,iQ];simp[h]
   rw[e];rcases l6 xs d with⟨h1,h2⟩|⟨L,x,R,h1,h2,h3,h4⟩
   .exact .inl ⟨h1,λx hx=>(dc.1 hx).elim (λe=>e▸h) (h2 x)⟩
   .exact .inr ⟨a::L,x,R,by rw[h1];rfl,λy hy=>(dc.1 hy).elim (λe=>e▸h) (h2 y),h3,h4⟩
  .refine .inr ⟨[],a,xs,rfl,λy hy=>(by cases hy),h,?_⟩;unfold fS;rw[kf,gL,iQ];simp only[h,Bool.not_false,ne_eq,not_false_eq_true,decide_true,Bool.and_self,if_true];exact stay xs a
def DV(d:Fd):∀(xs:List Fd) (a:Fd),∃L x R,xs++[a]=L++x::R/\fS jQ (xs++[a]) d=(x,true)/\(∀y∈L,x.b.rank<=y.b.rank)/\∀y∈R,x.b.rank<y.b.rank:=by
 suffices key:∀n (xs:List Fd) (a:Fd),xs.length=n->∃L x R,xs++[a]=L++x::R/\fS jQ (xs++[a]) d=(x,true)/\(∀y∈L,x.b.rank<=y.b.rank)/\∀y∈R,x.b.rank<y.b.rank from
  λxs a=>key _ xs a rfl
 intro n
 induction n with
 |zero=>
  intro xs a h;obtain rfl:=List.length_eq_zero_iff.1 h;exact⟨[],a,[],rfl,by simp[fS,gL,jQ],λy h=>(by cases h),λy h=>by cases h⟩
 |succ n ih=>
  intro xs a h;rcases List.eq_nil_or_concat xs with rfl|⟨ys,z,rfl⟩
  .cases h
  .rw[List.concat_eq_append]at h|-;obtain⟨L,x,R,h1,h2,h3,h4⟩:=ih ys z (by simpa using h);rw[uE,h2];unfold gL jQ;by_cases hr:a.b.rank<=x.b.rank
   .refine⟨ys++[z],a,[],rfl,by simp[hr],λy hy=>?_,λy hy=>by cases hy⟩;rw[h1]at hy;rcases ei.1 hy with hy|hy
    .have:=h3 y hy;omega
    .rcases dc.1 hy with rfl|hy
     .exact hr
     .have:=h4 y hy;omega
   .refine⟨L,x,R++[a],by rw[h1];simp,by simp[hr],h3,λy hy=>?_⟩;rcases ei.1 hy with hy|hy
    .exact h4 y hy
    .rw[iW.1 hy];omega
def wM{b:List RX}{fr to:Int}{L R:List Fd}{x:Fd}(h:(UK b fr to).map (kO b)=L++x::R):
 ∃c:Nat,x=kO b c/\max fr 0<=c/\c<max fr 0+sW b fr to/\(∀k:Nat,max fr 0<=k->k<c->kO b k∈L)/\∀k:Nat,c<k->k<max fr 0+sW b fr to->kO b k∈R:=by
 have hlen:=congrArg List.length h;simp only[UK,du,List.length_range',gY,Q4]at hlen;have Rp:∀k:Nat,max fr 0<=k->k<max fr 0+sW b fr to->(L++x::R)[k-(max fr 0).toNat]?=some (kO b k):=λk h1 h2=>by
  rw[<-h,UK,ph,List.getElem?_range' (by omega)];simp only[Option.map_some,Nat.one_mul];rw[show(max fr 0).toNat+(k-(max fr 0).toNat)=k by omega]
 refine⟨(max fr 0).toNat+L.length,?_,by omega,by omega,λk h1 h2=>?_,λk h1 h2=>?_⟩
 .have:=Rp ((max fr 0).toNat+L.length) (by omega) (by omega);rw[show(max fr 0).toNat+L.length-(max fr 0).toNat=L.length by omega]at this;simpa using this
 .have:=Rp k h1 (by omega);rw[Fc (by omega)]at this;exact vK this
 .have:=Rp k (by omega) (by omega);rw[HX (by omega),show k-(max fr 0).toNat-L.length=(k-((max fr 0).toNat+L.length)-1)+1 by omega,EH]at this;exact vK this
def A7{b:List RX}{i fit:Int}(h:gb b i fit)(hf:fit<=(b.length:Int)-1):
 ∃c:Nat,uN b i fit=c/\i<c/\(c:Int)<=fit/\∀k:Nat,i<k->(k:Int)<=fit->(k<c->(Rz b k).forced=0)/\((Rz b c).forced=0->k≠c->(Rz b k).forced=0/\(Rz b c).rank<=(Rz b k).rank/\(c<k->(Rz b k).rank≠(Rz b c).rank)):=by
 obtain⟨_,h1,h2,h3⟩:=h;have hn:max (i+1) 0=i+1:=by omega
 have hb:sW b (i+1) fit=(fit-i).toNat:=by unfold sW;omega
 unfold uN fa Ft;rcases l6 ((UK b (i+1) fit).map (kO b)) uT with⟨e,hz⟩|⟨L,x,R,e1,e2,e3,e4⟩
 .rw[e,aE (show uT.i<0 by decide)];have hz':∀k:Nat,i<k->(k:Int)<=fit->(Rz b k).forced=0:=λk g1 g2=>by
   refine hz (kO b k) (fM.2 ⟨k,?_,rfl⟩);rw[UK,List.mem_range'_1];omega
  have P':(UK b (i+1) fit).map (kO b)≠[]:=λe=>by
   have:=congrArg List.length e;simp[UK,hb]at this;omega
  rcases List.eq_nil_or_concat ((UK b (i+1) fit).map (kO b))with e|⟨ys,z,e⟩
  .exact absurd e P'
  .rw[List.concat_eq_append]at e;obtain⟨L,x,R,f1,f2,f3,f4⟩:=DV uT ys z;rw[<-e]at f1 f2;obtain⟨c,rfl,g1,g2,g3,g4⟩:=wM f1;rw[f2];refine⟨c,rfl,by omega,by omega,λk k1 k2=>⟨λ_=>hz' k k1 k2,λ_ hk=>⟨hz' k k1 k2,?_,λH'=>?_⟩⟩⟩
   .rcases Nat.lt_or_gt_of_ne hk with hk|hk
    .exact f3 _ (g3 k (by omega) hk)
    .exact Int.le_of_lt (f4 _ (g4 k hk (by omega)))
   .have:=f4 _ (g4 k H' (by omega));exact λe=>by simp only[kO]at this;omega
 .obtain⟨c,rfl,g1,g2,g3,g4⟩:=wM e1;rw[e4,aH (show¬(kO b c).i<0 from λh=>by simp only[kO]at h;omega)];exact⟨c,rfl,by omega,by omega,λk k1 k2=>⟨λhk=>e2 _ (g3 k (by omega) hk),λhc=>absurd hc e3⟩⟩
inductive xO(b:Bk)(s t:PH)(fs:List RR)(top body:Int):Prop
 |more (h1:t.atom=s.atom) (h2:fs.length=1) (h3:jP b.atoms s>body) (h4:∀f,fs[0]?=some f->f.h=body) (h5:t.done=s.done+body)
 |whole (c r:Nat) (y:Int) (h1:t=⟨c,0,decide ((Rz b.PQ c).forced≠0)⟩) (h2:s.atom<c) (h3:c<=r) (h4:r<=b.atoms.length) (h5:fs.length+s.atom=c) (h6:∀f,fs[0]?=some f->f.y=top+y)
    (h7:∀k (h:k<b.atoms.length),s.atom<=k->k<r->(if s.atom<k then y+(b.atoms[k].y-(R8 b.atoms s.atom).y-s.done)else y)+(if k=s.atom then jP b.atoms s else b.atoms[k].h)<=body)
    (h8:∀(h:r<b.atoms.length),(if s.atom<r then y+(b.atoms[r].y-(R8 b.atoms s.atom).y-s.done)else y)+(if r=s.atom then jP b.atoms s else b.atoms[r].h)>body)
    (h9:∀k:Nat,s.atom<k->k<=r->(k<c->(Rz b.PQ k).forced=0)/\((Rz b.PQ c).forced=0->k≠c->(Rz b.PQ k).forced=0/\(Rz b.PQ c).rank<=(Rz b.PQ k).rank/\(c<k->(Rz b.PQ k).rank≠(Rz b.PQ c).rank)))
structure GW(b:Bk)(x:Wx)(fs:List RR)(t:PH):Prop where
 ne:0<fs.length
 fin:Yd x.high (x.high+x.body) fs
 fst:∀f,fs[0]?=some f->f.atom=x.s.atom/\f.fr=x.s.done
 cut:xO b x.s t fs x.high x.body
structure bU(b:Bk):Prop extends BkFull b where
 R4:b.atoms.Pairwise λx y=>x.y+x.h<=y.y
 pos:∀a∈b.atoms,1<=a.h
 top:∀a∈b.atoms,0<=a.y
 mayb:sQ b.PQ=true
 fh:∀f∈b.P6,0<=f.h
 fy:∀f∈b.P6,0<=f.y
def B0{b:Bk}(hb:bU b)(k:Int):0<=nZ b.atoms k:=by
 unfold nZ;split
 .rename_i h;obtain⟨n,rfl⟩:∃n:Nat,k=n:=⟨k.toNat,by omega⟩
  have hn:n<b.atoms.length:=by omega
  rw[bG hn];unfold iV;split
  .rename_i h2;have e:(n:Int)-1=((n-1:Nat):Int):=by omega
   rw[e,bG (by omega)];have:=xJ hb.R4 (show n-1<n by omega) hn;omega
  .have:=hb.top _ (QL hn);omega
 .exact Int.le_refl _
def DL{b:Bk}(hb:bU b){x:Wx}(hm:cM b.atoms x.s)(hx:x.fs=[])
 (UD:1<=x.body)(SZ:0<=x.shift)(Vt:¬(x.shift>0/\jP b.atoms x.s>x.body-x.shift)):GW b x (gV b x).fs (iq b x).s:=by
 have hk:=hb.R4;have QR:=hb.pos;have To:=hb.mayb;obtain⟨r,hr,hr1,hr2,hr3,hr4⟩:=kg hk QR hm (eA b x) x.shift x.body;have XH:=hm;obtain⟨⟨h0,h1⟩,h2,h3⟩:=hm;obtain⟨a,ha⟩:∃a:Nat,x.s.atom=a:=⟨x.s.atom.toNat,by omega⟩
 have Tx:a<b.atoms.length:=by omega
 have hag:R8 b.atoms x.s.atom=b.atoms[a]:=by rw[ha,bG Tx]
 have hpa:=QR _ (QL Tx);have QX:=hb.WL;have Vo:jP b.atoms x.s=b.atoms[a].h-x.s.done:=by rw[jP,aE XH,hag]
 rw[hag]at h3;have hl0:1<=jP b.atoms x.s:=by rw[Vo];omega
 have TY:∀kept sh k (h:k<b.atoms.length),a<=k->eo b.atoms x.s kept sh k=b.atoms[k].y-b.atoms[a].y-x.s.done+kept+sh:=λkept sh k h hak=>by
  rw[eo,aE ⟨XH,by omega,by omega⟩,gZ,aE ⟨⟨h0,h1⟩,by omega,by omega⟩,hag,bG h]
 have Zw:eA b x=0\/0<=eA b x/\x.s.done=0/\eA b x+jP b.atoms x.s<=x.body-x.shift:=by
  unfold eA iz;split
  .rename_i hc;obtain⟨_,_,hd,hg⟩:=hc;rw[Vo];rw[hag]at hg;exact .inr ⟨B0 hb _,hd,hg⟩
  .exact .inl rfl
 have hrX:eH b x=r:=hr;unfold gV iq;by_cases P5:gb b.PQ x.s.atom (eH b x)
 .rw[aE P5,aE P5];obtain⟨c,c1,c2,c3,c4⟩:=A7 P5 (by rw[hrX];omega);rw[show yN b x=c from c1,fp];rw[hrX]at c3 c4;have hlen:(cO b { x with kind:=1 } (eA b x) (c-x.s.atom.toNat)).length=c-a:=by
   rw[cO,du,List.length_range,ha,fp]
  have RP:(uZ b { x with kind:=1 } (eA b x) c).fs=cO b { x with kind:=1 } (eA b x) (c-x.s.atom.toNat):=by
   simp only[uZ,Wx.put,Wx.add,hx,mo]
  have RG:∀i (h:i<c-a),(cO b { x with kind:=1 } (eA b x) (c-x.s.atom.toNat))[i]?=some (et x.high (fm b.atoms x.s (eA b x) x.shift ((a+i:Nat):Int))):=λi h=>by
   rw[cO,ph,List.getElem?_range (by rw[ha];omega),Option.map_some,ha];rfl
  have hwh:∀k (h:k<b.atoms.length),a<=k->(fm b.atoms x.s (eA b x) x.shift k).y=eo b.atoms x.s (eA b x) x.shift k+(if k=a then x.s.done else 0)/\(fm b.atoms x.s (eA b x) x.shift k).h=b.atoms[k].h-(if k=a then x.s.done else 0)/\(fm b.atoms x.s (eA b x) x.shift k).atom=k/\(fm b.atoms x.s (eA b x) x.shift k).fr=if k=a then x.s.done else 0:=λk h hak=>by
   rw[fm,aE ⟨XH,by omega,by omega⟩];by_cases e:k=a
   .rw[aE (by omega),aE e];simp only[RR.cg,oq,iO,bG h];exact⟨trivial,trivial,trivial,trivial⟩
   .rw[aH (by omega),aH e];simp only[oq,iO,bG h];exact⟨(Int.add_zero _).symm,(Int.sub_zero _).symm,trivial,trivial⟩
  have VD:(cO b { x with kind:=1 } (eA b x) (c-x.s.atom.toNat))[0]?=some (et x.high (fm b.atoms x.s (eA b x) x.shift ((a:Nat):Int))):=RG 0 (by omega);obtain⟨w1,w2,w3,w4⟩:=hwh a Tx (Qt _);rw[aE rfl]at w1 w2 w4;have hpa0:=TY (eA b x) x.shift a Tx (Qt _);have TK:0<=eA b x:=by rcases Zw with h|h<;>omega
  refine⟨by rw[RP,hlen];omega,λf hf=>?_,λf hf=>?_,?_⟩
  .rw[RP]at hf;obtain⟨i,hi⟩:=GO hf;have So:i<c-a:=by
    rw[<-hlen];exact(nY.1 hi).1
   rw[RG i So]at hi;obtain rfl:=Option.some.inj hi;obtain⟨v1,v2,-,-⟩:=hwh (a+i) (by omega) (by omega);have hpl':=TY (eA b x) x.shift (a+i) (by omega) (by omega);have Sd:=hr3 (a+i) (by omega) (by omega) (by omega);have Yc:=QR _ (QL (show a+i<b.atoms.length by omega));simp only[et];rw[v1,v2];rw[hpl']at Sd|-;by_cases e:i=0
   .subst e;simp only[Nat.add_zero,if_true]at Sd|-;omega
   .rw[aH (by omega)];have Qi:=xJ hk (show a<a+i by omega) (by omega);omega
  .rw[RP,VD]at hf;obtain rfl:=Option.some.inj hf;simp only[et];rw[w3,w4];exact⟨ha.symm,rfl⟩
  .refine .whole c r (eA b x+x.shift) rfl c2 (by omega) hr2 (by rw[RP,hlen];omega) (λf hf=>?_) (λk h h1 h2=>?_) (λh=>?_) (λk h1 h2=>c4 k h1 (by omega))
   .rw[RP,VD]at hf;obtain rfl:=Option.some.inj hf;simp only[et];rw[w1,hpa0];omega
   .have:=hr3 k h h1 h2;rw[TY _ _ k h (by omega)]at this;rw[hag];by_cases e:(k:Int)=x.s.atom
    .obtain rfl:k=a:=by omega
     rw[aH (by omega),aE e,Vo];omega
    .rw[aE (by omega),aH e];omega
   .have:=hr4 h;rw[TY _ _ r h (by omega)]at this;rw[hag];by_cases e:(r:Int)=x.s.atom
    .obtain rfl:r=a:=by omega
     rw[aH (by omega),aE e,Vo];omega
    .rw[aE (by omega),aH e];omega
 .rw[aH P5,aH P5];have hra:r=a:=by
   have:¬x.s.atom<eH b x:=λh=>P5 ⟨To,h0,by omega,h⟩;omega
  have hgt:=hr4 (by omega);subst hra;rw[TY _ _ r Tx (Qt _)]at hgt;have TK:eA b x=0/\x.shift=0:=by
   rw[Vo]at Zw Vt;rcases Zw with h|h<;>omega
  have hso:pY b.atoms ({ x with kind:=1 }:Wx).s ({ x with kind:=1 }:Wx).body:=⟨XH,UD⟩
  have RP:(vp b { x with kind:=1 }).fs=[et x.high (kQ b.atoms x.s x.body)]:=by
   simp only[vp,Wx.put,Wx.add,hx,mo]
  have TD:kQ b.atoms x.s x.body=⟨b.atoms[r].node,x.s.atom,x.s.done,b.atoms[r].x,0,b.atoms[r].w,x.body⟩:=by
   rw[kQ,aE (show pY b.atoms x.s x.body from hso),eE];simp only[RR.cut,RR.cg,iO,hag];congr 1;omega
  have WA:dI b.atoms x.s x.body=⟨x.s.atom,x.s.done+x.body,false⟩:=by
   rw[dI,aE (show pY b.atoms x.s x.body from hso)];rw[kQ,aE (show pY b.atoms x.s x.body from hso)]at TD;rw[TD];simp only[jw,hag];rw[aE (by omega)]
  rw[TD]at RP;refine⟨by rw[RP];exact Nat.one_pos,λf hf=>?_,λf hf=>?_,.more ?_ (by rw[RP];rfl) (by rw[Vo];omega) (λf hf=>?_) ?_⟩
  .rw[RP,iW]at hf;subst hf;simp only[et];omega
  .rw[RP]at hf;obtain rfl:=Option.some.inj hf;exact⟨rfl,rfl⟩
  .show(dI b.atoms x.s x.body).atom=_;rw[WA]
  .rw[RP]at hf;obtain rfl:=Option.some.inj hf;rfl
  .show(dI b.atoms x.s x.body).done=_;rw[WA]
def OX(s t:Sf)(n:Int):Prop:=t.s.atom>s.s.atom\/t.s.atom=s.s.atom/\t.s.done>s.s.done\/t.s.atom=s.s.atom/\t.s.done=s.s.done/\(t.cy.length<s.cy.length\/t.s.atom=n/\t.s.free=false)
structure G1(b:Bk)(s:Sf)(p:SK)(t:Sf):Prop where
 no:p.no=0
 onw:OX s t b.atoms.length
 sum:(p.hs.map (·.h)).sum=(bw b s.s).high
 hd:Yd 0 (bw b s.s).high p.hs
 fl:Yd (bw b s.s).high b.h p.fs
 lo:Yd (bw b s.s).high b.h p.ls
 kd:p.kind=1\/p.kind=2
 no':p.kind=2->p.fs=[]
 cut:p.kind=1->cM b.atoms s.s/\0<p.fs.length/\(∀f,p.fs[0]?=some f->f.atom=s.s.atom/\f.fr=s.s.done)/\xO b s.s t.s p.fs (bw b s.s).high (bw b s.s).body
def Fs{α:Type}{p:α->Bool}:∀(l:List α),∀x∈l.takeWhile p,p x=true
 |[],x,h=>by cases h
 |a::l,x,h=>by
  rw[List.takeWhile_cons]at h;split at h
  .rename_i ha;rcases dc.1 h with rfl|h
   .exact ha
   .exact Fs l x h
  .cases h
def Fl{b:Bk}(hb:bU b){x:Wx}(SZ:0<=x.shift)(h:Yd x.high (x.high+x.body) x.ls):Yd x.high (x.high+x.body) (gV b x).ls:=by
 unfold gV;split
 .exact xH h (xW (zg hb.fh SZ))
 .exact xH h (xW (zg hb.fh (Int.le_refl _)))
def nu(b:Bk)(x:Wx):(gV b x).hs=x.hs/\(gV b x).kind=1:=by
 unfold gV;split<;>exact⟨rfl,rfl⟩
def wx{b:Bk}(hb:bU b){s:Sf}(he:¬iE b s):G1 b s (cF b s).1 (cF b s).2:=by
 have RL:mv b s:=Decidable.byContradiction λh=>he (.inl h);have Vw:¬(s.s.atom=b.atoms.length/\s.s.free=false/\s.cy=[]):=λh=>he (.inr h);have RG:0<=s.s.atom:=by rcases RL.2 with h|h;exact h.1.1;omega
 obtain⟨r1,r2,r3,r4,r5⟩:=Fb hb.toBkFull s.s RG;have hpf:∀f∈s.cy,0<=f.h:=λf hf=>hb.fh f (rf _ _ RL.1 f hf);have Wc:Yd (bw b s.s).high ((bw b s.s).high+(bw b s.s).body) ((eW (bw b s.s).body s.cy 0).1.map (vC (bw b s.s).high)):=xW (Cr (by omega) _ 0 (Int.le_refl _) (by omega) hpf);have SZ:=(yp (body:=(bw b s.s).body) s.cy 0 (Int.le_refl _) (by omega) hpf).2.2;unfold cF;split
 .rename_i h0;obtain⟨h1,h2⟩:=h0;have hn:s.s.atom=0/\s.s.done=0:=by
   rcases RL.2 with h|h
   .have:=h.1;rw[h1]at this;simp at this;omega
   .rw[h1]at h;simpa using h
  have hrv:bw b s.s=⟨[],0,b.h⟩:=by rw[bw,aE h1]
  refine⟨rfl,.inr (.inr ⟨?_,?_,.inr ⟨?_,rfl⟩⟩),r5,r4,λf hf=>(by cases hf),?_,.inr rfl,λ_=>rfl,λh=>?_⟩
  .simp[oy,hn]
  .simp[oy,hn]
  .simp[oy,h1]
  .rw[<-r3];refine xW (high:=(bw b s.s).high) (body:=(bw b s.s).body) λm hm=>?_;have h4:m.y+m.h<=(bw b s.s).body:=of_decide_eq_true (Fs _ m hm);have h5:m∈b.P6:=(List.takeWhile_sublist _).mem hm;exact⟨hb.fy m h5,hb.fh m h5,h4⟩
  .exact absurd h (show¬((2:Int)=1) by decide)
 .split
  .rename_i hf;refine⟨rfl,?_,r5,r4,λf hf=>(by cases hf),by rw[<-r3];exact Wc,.inr rfl,λ_=>rfl,λh=>absurd h (show¬((2:Int)=1) by decide)⟩;refine .inr (.inr ⟨rfl,rfl,?_⟩);cases hp:s.cy with
   |cons f r=>exact .inl (rE f r)
   |nil=>
    unfold mX at hf;rw[hp]at hf;simp only[eW]at hf;have ha:s.s.atom=b.atoms.length:=by
     rcases hf with h|h|h
     .exact h
     .exact absurd rfl h
     .omega
    exact .inr ⟨ha,by simp[ha]⟩
  .rename_i hf;have hm:cM b.atoms s.s:=RL.2.resolve_right λh=>hf (.inl h.1);have hfn:=qG (x:=fI b s) hb.toBkOk hm hb.pos r2;have hfg:=DL hb (x:=fI b s) hm rfl r2 SZ.1 (λh=>hf (.inr (.inr h)));have hls:=Fl hb (x:=fI b s) SZ.1 (xH (l:=[]) (λf hf=>(by cases hf)) Wc);have hoth:=nu b (fI b s);have xs:(fI b s).s=s.s:=rfl;have xh:(fI b s).high=(bw b s.s).high:=rfl;have xb:(fI b s).body=(bw b s.s).body:=rfl;rw[xh,xb,r3]at hls;obtain⟨f1,f2,f3,f4⟩:=hfg;rw[xh,xb]at f2 f4;rw[r3]at f2;refine⟨rfl,?_,?_,?_,f2,hls,.inl hoth.2,λh=>?_,λ_=>⟨hm,f1,f3,f4⟩⟩
   .generalize iq b (fI b s)=z at hfn;cases hfn with
    |whole c fr p g1 g2 g3=>exact .inl g1
    |more d p g1 g2 g3=>exact .inr (.inl ⟨rfl,g1⟩)
   .show((gV b (fI b s)).hs.map _).sum=_;rw[hoth.1];exact r5
   .show Yd _ _ (gV b (fI b s)).hs;rw[hoth.1];exact r4
   .have:(gV b (fI b s)).kind=2:=h;rw[hoth.2]at this;cases this
def gI{l:List Nd}(hl:ed l){w h:Int}(he:gN l w h=0):bU (bJ l w h):=by
 obtain⟨hw,hh,hc⟩:=nH he;obtain⟨Rx,hn,hwo,Yf⟩:=vG hc;have hG:=uI Rx hn hw.1 hw.2;obtain⟨h1,h2⟩:=DC hl he;refine⟨h1,G7 Rx hn hw.1 hw.2,λa ha=>(hG.Qf a ha).h0,λa ha=>(hG.Qf a ha).y0,?_,h2,λf hf=>(hG.Xc f hf).y0⟩;show sQ (qd l (XK l w))=true;refine He Rx λx hx=>?_;unfold XK at hx;obtain⟨a,ha,rfl⟩:=fM.1 hx;exact hG.nod a ha
open Go.Proofs Go.Proofs.Tryz
def wU(b:List RX)(p:SK)(s:PH):Int:=
 if p.kind≠1\/s.done>0 then -1 else if(Rz b s.atom.toNat).forced=3 then 0 else if(Rz b s.atom.toNat).forced=4 then 1 else -1
def HC(b:List RX)(hb:b.length<=1000000)(p:SK)(s:PH)(h0:0<=s.atom)(h1:s.atom<b.length):bb prog 64 [bV b,cL p,aF s] (vI (wU b p s)):=λU=>by
 refine e64.r (by simp[c64]) ?_;have hs:=aa.refl U;obtain⟨no,kd,hh,ff,ll⟩:=p;obtain⟨a,d,fr⟩:=s;obtain⟨k,rfl⟩:∃k:Nat,a=k:=⟨a.toNat,by simp only at h0;omega⟩
 have hk:k<b.length:=by simp only at h1;omega
 have Sg:(cL ⟨no,kd,hh,ff,ll⟩).cells=[vI no,vI kd,bn hh,bn ff,bn ll]:=rfl;have hpp:(cL ⟨no,kd,hh,ff,ll⟩).stays=true:=rfl;have SJ:(aF ⟨k,d,fr⟩).cells=[vI k,vI d,.bool fr]:=rfl;have Tc:(aF ⟨k,d,fr⟩).stays=true:=rfl;have QV:=bt b;have hbc:=bu b;obtain⟨⟨c,f,r⟩,hf⟩:∃x,b[k]=x:=⟨_,rfl⟩
 have O':∀U,bS U 3 (bV b) (.int .i64 k)=some (.rp (.agg [vI c,vI f,vI r])):=λU=>by rw[uO hk,hf,fT]
 have hg:Rz b ((k:Int)).toNat=⟨c,f,r⟩:=by simp[Rz,hk,hf]
 have hR:wU b ⟨no,kd,hh,ff,ll⟩ ⟨k,d,fr⟩=if kd≠1\/d>0 then -1 else if f=3 then 0 else if f=4 then 1 else -1:=by simp only[wU,hg]
 generalize wU b ⟨no,kd,hh,ff,ll⟩ ⟨k,d,fr⟩=R at*;refine ae.mix 6 ?_;apply sR;simp only[go_sem,seval,c64,Sg,hpp,SJ,Tc,QV,hbc];refine ad λi4 Z4 s4 a4 f4=>?_;have z4:=hs.none f4;replace hs:=hs.trans s4;simp only[go_sem,seval,SJ];refine ad λi5 Z5 s5 a5 f5=>?_;have Rr:=al a4 f5;replace a4:=s5 _ _ a4;have z5:=hs.none f5;replace hs:=hs.trans s5;by_cases q1:kd=1
 .have q1':(kd≠1)=False:=by simp[q1]
  by_cases q2:d>0
  .have q2':(d>0)=True:=PK q2;simp only[go_sem,seval,a4,a5,q1',q2',Sg,SJ];rw[aE (.inr q2)]at hR;exact av.pure hs (congrArg vI hR.symm)
  .have q2':(d>0)=False:=PF q2;rw[aH (λh=>h.elim (λh=>h q1) q2)]at hR;by_cases q3:f=3
   .have q3':(f=3)=True:=PK q3;simp only[go_sem,seval,a4,a5,q1',q2',q3',O',Sg,SJ,QV,hbc];rw[aE q3]at hR;exact av.pure hs (congrArg vI hR.symm)
   .have q3':(f=3)=False:=PF q3;rw[aH q3]at hR;by_cases q4:f=4
    .have q4':(f=4)=True:=PK q4;simp only[go_sem,seval,a4,a5,q1',q2',q3',q4',O',Sg,SJ,QV,hbc];rw[aE q4]at hR;exact av.pure hs (congrArg vI hR.symm)
    .have q4':(f=4)=False:=PF q4;simp only[go_sem,seval,a4,a5,q1',q2',q3',q4',O',Sg,SJ,QV,hbc];rw[aH q4]at hR;exact av.pure hs (congrArg vI hR.symm)
 .have q1':(kd≠1)=True:=PK q1;simp only[go_sem,seval,a4,a5,q1',Sg,SJ];rw[aE (.inl q1)]at hR;exact av.pure hs (congrArg vI hR.symm)
open Go.Proofs Go.Proofs.Tryz
def yq{Qe i1 i2 e1 e2:Nat}{n:Int}{x:V}{U:ag}{Post:Bool->ag->Prop}(r1:PY .i64 (n+1))(h1:U i1=some ⟨e1,1,[vI n]⟩)(h2:U i2=some ⟨e2,1,[.yl Qe]⟩)(P':i1≠i2)
 (hy:YC prog Qe [x] (C' U i1 ⟨e1,1,[vI (n+1)]⟩) Post):aB prog 60 [x,.ptr i1 0 0,.ptr i2 0 0] U λr Z'=>∃b,r=.bool b/\Post b Z':=by
 refine e60.r (by simp[c60]) ?_;refine ae.mix 6 ?_;apply sR;simp only[go_sem,seval,c60,h1,r1,h2,ab P',ab P'.symm];refine ae.mZ (Post:=Post) rfl rfl rfl hy ?_;intro b Z' hb;apply sR;simp only[go_sem,seval];exact⟨_,Z',aa.refl _,Wk.refl (aa.refl _) _,b,rfl,hb⟩
def WM(x:Nd):Int:=if x.kind=2 then x.line*x.words.length else if x.kind=3 then x.h else 0
def UL(l:List Nd):Nat->Int
 |0=>0
 |i+1=>UL l i+WM (Qg l i)
def oU{x:Nd}(h:XE x):0<=WM x:=by
 have h1:=h.line.1;have h2:=h.h.1;unfold WM;split
 .exact Int.mul_nonneg h1 (by omega)
 .split<;>omega
def AO{l:List Nd}(hb:Qy l=true){a:Nat}:∀n,a+n<=l.length->UL l a<=UL l (a+n)
 |0,_=>Int.le_refl _
 |n+1,h=>by
  have ih:=AO (a:=a) hb n (by omega);have h1:XE (Qg l (a+n)):=by rw[jL (show a+n<l.length by omega)];exact gO hb _
  have h2:=oU h1;rw[<-Nat.add_assoc,UL];omega
def U6(l:List QB):Int:=(l.map (·.h)).sum
def Ce(l m:List QB):U6 (l++m)=U6 l+U6 m:=by unfold U6;rw[fC,List.sum_append]
def yd{l:List Nd}{rs:List Rm}(hD:Xb l rs):∀(k a e:Nat) (s:WS) (C:Nat),e-a<=k->a<=e->e<=l.length->cJ l a e=true->gq s C->U6 s.atoms<=UL l a->U6 (eF l rs k a e s).atoms<=UL l e
 |0,a,e,s,C,hk,Vz,_,_,_,h=>by
  obtain rfl:a=e:=by omega
  exact h
 |k+1,a,e,s,C,hk,Vz,he,hr,h,hs=>by
  rw[eF];by_cases H':a<e
  .rw[aE H'];obtain⟨h1,h2⟩:=dB he hr (Qt a) H';obtain⟨h3,h4⟩:=er he hr H';have Qr:XE (Qg l a):=by rw[jL (by omega)];exact gO hD.WI (by omega)
   have step:∀t,(∃D,gq t D)->U6 t.atoms<=UL l (a+(Qn l a).toNat)->U6 (eF l rs k (a+(Qn l a).toNat) e t).atoms<=UL l e:=λt ⟨D,ht⟩ hA=>
    yd hD k _ e t D (by omega) (by omega) he h3 ht hA
   have Sn:WM (Qg l a)+U6 s.atoms<=UL l (a+1):=by rw[UL];omega
   have one:UL l (a+1)<=UL l (a+(Qn l a).toNat):=by
    obtain⟨m,hm⟩:∃m,(Qn l a).toNat=1+m:=⟨(Qn l a).toNat-1,by omega⟩
    rw[hm,<-Nat.add_assoc];exact AO hD.WI m (by omega)
   split
   .rename_i k1;have hz:WM (Qg l a)=0:=by rw[WM,aH (by omega),aH (by omega)]
    have hI2:=gT hD k (a+1) (a+(Qn l a).toNat) _ _ (by omega) (by omega) (by omega) h4 (fi h Qr.st);have hS2:=yd hD k (a+1) (a+(Qn l a).toNat) _ _ (by omega) (by omega) (by omega) h4 (fi h Qr.st) (show U6 s.atoms<=_ by omega);exact step _ ⟨_,j9 hI2 Qr.st⟩ hS2
   .split
    .rename_i k1 k2;refine step _ ⟨_,lG h Qr a⟩ (Int.le_trans ?_ one);have hp:=nq a (Qg l a).line (dT s.u' (Qg l a).words (Qg l a).space (Qg l a).line (eO rs a) (Qg l a).words.length 0 (s.PW.y+s.PW.m)) s;have hlen:=kH s.u' (Qg l a).words (Qg l a).space (Qg l a).line (eO rs a) (Qg l a).words.length 0 (s.PW.y+s.PW.m);have e:(s.text rs a (Qg l a)).atoms=_:=hp;rw[e,Ce];generalize dT s.u' (Qg l a).words (Qg l a).space (Qg l a).line (eO rs a) (Qg l a).words.length 0 (s.PW.y+s.PW.m)=L at*;have jA:U6 (L.map (fg a (Qg l a).line))=(Qg l a).line*L.length:=by
      clear e hp hlen
      induction L with
      |nil=>simp[U6]
      |cons x L ih=>
       have:U6 ((x::L).map (fg a (Qg l a).line))=(Qg l a).line+U6 (L.map (fg a (Qg l a).line)):=rfl;rw[this,ih,Q4,Int.natCast_add,Int.mul_add];omega
     have hle:(Qg l a).line*(L.length:Int)<=(Qg l a).line*((Qg l a).words.length:Int):=Int.mul_le_mul_of_nonneg_left (by omega) Qr.line.1;have hz:WM (Qg l a)=(Qg l a).line*((Qg l a).words.length:Int):=by rw[WM,aE k2]
     omega
    .split
     .rename_i k1 k2 k3;refine step _ ⟨_,lN h Qr a⟩ (Int.le_trans ?_ one);have hz:WM (Qg l a)=(Qg l a).h:=by rw[WM,aH k2,aE k3]
      have e:(WS.mono l rs s a (Qg l a)).atoms=s.atoms++[⟨2,a,0,0,(ef s.u' (lX s.u' (Qg l a).w (Qg l a).h (eO rs a) (s.PW.y+s.PW.m)) (Qg l a).h (eO rs a)).a,lX s.u' (Qg l a).w (Qg l a).h (eO rs a) (s.PW.y+s.PW.m),(Qg l a).w,(Qg l a).h⟩]:=rfl;rw[e,Ce];simp only[U6,eD,List.map_nil,List.sum_cons,List.sum_nil];simp only[U6]at Sn;omega
     .have k4:(Qg l a).kind=4:=by rename_i g1 g2 g3;rcases Qr.kind with h|h|h|h;exact absurd h g1;exact absurd h g2;exact absurd h g3;exact h
      have hz:=oU Qr;exact step _ ⟨_,ke hD h (by omega) Qr k4⟩ (show U6 s.atoms<=_ by omega)
  .rw[aH H'];obtain rfl:a=e:=by omega
   exact hs
def F6{l:List Nd}(hb:Qy l=true)(hn:l.length<=2000){w:Int}(h1:1<=w)(h2:w<=1099511627776):U6 (di l w).atoms<=UL l l.length:=by
 have hD:=tS hb hn h1 h2;have hr:cJ l 0 l.length=true:=by simp only[Qy,Ba]at hb;exact hb.2
 have hI:gq ⟨[],[],0,⟨0,0⟩⟩ 0:=⟨⟨by simp,by simp,by simp,by simp,by simp⟩,by simp,by simp⟩
 exact yd hD l.length 0 l.length ⟨[],[],0,⟨0,0⟩⟩ 0 (by omega) (by omega) (Qt _) hr hI (by simp[U6,UL])
def pA{l:List Nd}(hb:Qy l=true){s:Sm}(hs:0<=s.L'/\s.L'<=1099511627777):∀i,i<=l.length->0<=(ik l s i).L'/\(ik l s i).L'<=1099511627777/\min (UL l i) 1099511627777<=(ik l s i).L'
 |0,_=>⟨hs.1,hs.2,by simp only[UL,ik];omega⟩
 |i+1,hi=>by
  obtain⟨h1,h2,h3⟩:=pA hb hs i (by omega);have Qr:XE (Qg l i):=by rw[jL (by omega)];exact gO hb (by omega)
  have hz:=oU Qr;have Qi:=Qr.st;rw[ik,UL,Tq (by omega)];rw[jL (show i<l.length by omega)]at Qr hz Qi|-;simp only;unfold pf;split
  .rename_i k1;have e:WM l[i]=0:=by rw[WM,aH (by omega),aH (by omega)]
   have g1:=Qi.top.1;have g2:=Qi.P8.1;have g3:=Qi.PS.1;have g4:=Qi.PG.1;have g5:=Qi.head.1;simp only[j7];omega
  .split
   .rename_i k1 k2;have e:WM l[i]=l[i].line*l[i].words.length:=by rw[WM,aE k2]
    simp only;rw[te ⟨h1,h2⟩ Qr.line.1];omega
   .rename_i k1 k2;have hh:=Qr.h.1;have e:WM l[i]<=l[i].h:=by rw[WM,aH k2];split<;>omega
    simp only[j7];omega
def uQ{l:List Nd}(hb:Qy l=true)(h:(ew l).1.L'<=1099511627776):UL l l.length<=(ew l).1.L':=by
 unfold ew at h|-;rw[aE hb]at h|-;have:=(pA hb (s:=⟨0,0,l.length,0⟩) ⟨Int.le_refl _,(by decide:(0:Int)<=1099511627777)⟩ l.length (Qt _)).2.2;simp only at h|-;omega
def C6{cnt:Nat->Nat}:∀{n a:Nat} {x:Int},x∈V3 cnt a n->∃i:Nat,x=i/\a<=i/\i<a+n/\0<cnt i
 |0,a,x,h=>by rw[kr]at h;cases h
 |n+1,a,x,h=>by
  rw[iN]at h;rcases ei.1 h with h|h
  .obtain⟨h1,rfl⟩:=List.mem_replicate.1 h;exact⟨a,rfl,Qt _,by omega,by omega⟩
  .obtain⟨i,h1,h2,h3,h4⟩:=C6 h;exact⟨i,h1,by omega,by omega,h4⟩
def Fv{l:List Nd}(hb:Qy l=true)(hn:l.length<=2000){w:Int}(h1:1<=w)(h2:w<=1099511627776):∀a∈(di l w).atoms,∃i:Nat,a.node=i/\i<l.length/\((Qg l i).kind=2\/(Qg l i).kind=3):=λa ha=>by
 have hD:=tS hb hn h1 h2;have hr:cJ l 0 l.length=true:=by simp only[Qy,Ba]at hb;exact hb.2
 have hI:gq ⟨[],[],0,⟨0,0⟩⟩ 0:=⟨⟨by simp,by simp,by simp,by simp,by simp⟩,by simp,by simp⟩
 obtain⟨-,cnt,hc,hco⟩:=tr hD l.length 0 l.length ⟨[],[],0,⟨0,0⟩⟩ 0 (by omega) (by omega) (Qt _) hr hI (by simp);have hm:a.node∈(eF l (lJ l w) l.length 0 l.length ⟨[],[],0,⟨0,0⟩⟩).atoms.map (·.node):=fM.2 ⟨a,ha,rfl⟩;rw[hc]at hm;simp only[List.map_nil,mo]at hm;obtain⟨i,e,_,h3,h4⟩:=C6 hm;refine⟨i,e,by omega,?_⟩;have:=hco i (Nat.zero_le _) (by omega);unfold okN at this;split at this
 .rename_i k;exact .inl k
 .split at this
  .rename_i k;exact .inr k
  .have:=of_decide_eq_true this;omega
def least_le{l:List Nd}{h:Int}:∀{n j:Nat},j<n->((Qg l j).kind=2\/(Qg l j).kind=3)->jh l h n<=(yG l j h).body
 |0,j,hj,_=>by omega
 |n+1,j,hj,hk=>by
  rw[jh];by_cases e:j=n
  .subst e;rw[aE hk];omega
  .have:=least_le (l:=l) (h:=h) (show j<n by omega) hk;split<;>omega
def wS{l:List Nd}{h:Int}(hh:1<=h):∀n,1<=jh l h n
 |0=>hh
 |n+1=>by
  have h1:=wS (l:=l) hh n;have h2:1<=(yG l n h).body:=qT hh _;rw[jh];split<;>omega
def IA{l:List Nd}{h:Int}(hb:Qy l=true)(h1:1<=h)(h2:h<=1099511627776):jR l h=true:=by
 unfold jR;rw[hb];simp[h1,h2]
structure fQ(b:Bk)(L:Int):Prop where
 pos:1<=L
 body:∀s:PH,0<=s.atom->b.atoms≠[]->L<=(bw b s).body
 rest:dO b 0<=L*32768
 na:b.atoms.length<=10000
 nf:b.P6.length<=10000
def Hx{L:Int}(h1:1<=L):mulR L 32768<=L*32768:=by
 have e:dS 32768=32768:=by decide
 have e2:(1099511627776:Int).tdiv (max 32768 (-32768))=33554432:=by decide
 unfold mulR;rw[e,e2];have hc:dS L<=L/\0<=dS L:=by unfold dS;(repeat' split)<;>omega
 split
 .rename_i h;obtain⟨_,h|h⟩:=h
  .split<;>omega
  .exact absurd h (by have:(-1099511627776:Int).tdiv (max 32768 (-32768))=-33554432:=by decide
                      rw[this];omega)
 .have:=hc.1;omega
def ju{l:List Nd}{w h:Int}(he:gN l w h=0):fQ (bJ l w h) (cU l h):=by
 have he0:=he;obtain⟨hw,hh,hc⟩:=nH he;obtain⟨Rx,hn,hwo,Yf⟩:=vG hc;have hG:=uI Rx hn hw.1 hw.2;have hl1:=hG.len;have hl2:=hG.Un;have hm:=IA Rx hh.1 hh.2;have hL:cU l h=jh l h l.length:=by rw[cU,aE hm]
 have hp:1<=cU l h:=by rw[hL];exact wS hh.1 _
 refine⟨hp,λs h0 P'=>?_,?_,by show(di l w).atoms.length<=_;omega,by show(di l w).u'.length<=_;omega⟩
 .unfold bw;rw[aH P'];have hlen:0<(bJ l w h).atoms.length:=vM.2 P';obtain⟨k,hk⟩:∃k:Nat,min s.atom (((bJ l w h).atoms.length:Int)-1)=k:=⟨(min s.atom (((bJ l w h).atoms.length:Int)-1)).toNat,by omega⟩
  have Q6:k<(bJ l w h).atoms.length:=by omega
  rw[hk,bG Q6];obtain⟨i,e1,e2,e3⟩:=Fv Rx hn hw.1 hw.2 _ (QL (show k<(di l w).atoms.length from Q6));have e4:(bJ l w h).atoms[k].node=i:=e1;rw[e4,rh,hL];have Yy:jR (bJ l w h).nodes (bJ l w h).h=true:=hm;rw[aE ⟨Yy,by omega,show((i:Nat):Int)<(l.length:Nat) by omega⟩,fp];exact least_le e2 e3
 .have h1:dO (bJ l w h) 0=U6 (di l w).atoms:=rfl;have h2:=F6 Rx hn hw.1 hw.2;have h3:(ew l).1.L'<=1099511627776:=by
   unfold ia at hc;rw[aE Rx]at hc;split at hc
   .cases hc
   .omega
  have h4:=uQ Rx h3;have h5:¬(ew l).1.L'>mulR (cU l h) 32768:=λh=>by
   unfold gN at he0;rw[aH (λg=>g ⟨hw,hh⟩),aH (λg=>g hc),aE h]at he0;cases he0
  have h6:=Hx hp;omega
def pI(b:Bk)(L:Int)(s:Sf):Int:=((b.atoms.length:Int)-s.s.atom)+(dO b s.s.atom.toNat-s.s.done)/L
def mu2(b:Bk)(L:Int)(s:Sf):Nat:=(pI b L s).toNat*(2*b.P6.length+3)+(if s.s.free=true then b.P6.length+1 else 0)+s.cy.length
def kx.cy{b:Bk}{x:Wx}{t:Sf}(h:kx b x t):t.cy.length<=b.P6.length:=by
 cases h with
 |whole c fr p h1 h2 h3=>exact h3
 |more d p h1 h2 h3=>exact h3
def Gz{b:Bk}(hb:bU b){L:Int}(hL:fQ b L){s:Sf}(he:¬iE b s):mu2 b L (cF b s).2<mu2 b L s:=by
 have RL:mv b s:=Decidable.byContradiction λh=>he (.inl h);have Vw:¬(s.s.atom=b.atoms.length/\s.s.free=false/\s.cy=[]):=λh=>he (.inr h);have RG:0<=s.s.atom:=by rcases RL.2 with h|h;exact h.1.1;omega
 have QR:=hb.pos;have hg:=wx hb he;have Ug:=hg.cut;revert Ug;unfold cF;split
 .rename_i h0;intro _;obtain⟨h1,h2⟩:=h0;have hr:∀a,dO b a=0:=λa=>by unfold dO;rw[h1];simp
  have hd:s.s.done=0/\s.s.atom=0:=by
   rcases RL.2 with h|h
   .have:=h.1;rw[h1]at this;simp at this;omega
   .rw[h1]at h;simp at h;omega
  have hdl:(b.P6.dropWhile (rR (cH b s.s .aT).body)).length<=b.P6.length:=(List.dropWhile_sublist _).length_le;simp only[mu2,pI,oy,hr,h2,hd,h1,if_true];simp;omega
 .split
  .rename_i hf;intro _;unfold mu2 pI;simp only;cases hp:s.cy with
   |cons f r=>
    have:=rE (body:=(bw b s.s).body) f r;simp only[Q4]at this;cases s.s.free<;>by_cases h:s.s.atom<b.atoms.length<;>simp[h]<;>omega
   |nil=>
    unfold mX at hf;rw[hp]at hf;simp only[eW]at hf;have ha:s.s.atom=b.atoms.length:=by
     rcases hf with h|h|h
     .exact h
     .exact absurd rfl h
     .omega
    have SP:s.s.free=true:=by
     cases h:s.s.free
     .exact absurd ⟨ha,h,hp⟩ Vw
     .rfl
    simp[eW,ha,SP]
  .rename_i hf;have hm:cM b.atoms s.s:=RL.2.resolve_right λh=>hf (.inl h.1);have P':b.atoms≠[]:=λh=>by have:=hm.1;rw[h]at this;simp at this;omega
   have YJ:=hL.body s.s RG P';have hL1:=hL.pos;have hpd:=(qG (x:=fI b s) hb.toBkOk hm QR (j4 hb.toBkFull s.s RG)).cy;intro Ug;have hkind:(nW (gV b (fI b s))).kind=1:=(nu b (fI b s)).2;obtain⟨-,-,-,hcg⟩:=Ug hkind;obtain⟨⟨h0,h1⟩,h2,h3⟩:=hm;obtain⟨k,hk⟩:∃k:Nat,s.s.atom=k:=⟨s.s.atom.toNat,by omega⟩
   have Q6:k<b.atoms.length:=by omega
   have Yc:=QR _ (QL Q6);have Qi:=kC Q6;have hnn:=jU QR (k+1);have VZ:jP b.atoms s.s=b.atoms[k].h-s.s.done:=by rw[jP,aE ⟨⟨h0,h1⟩,h2,h3⟩,hk,bG Q6]
   rw[hk,bG Q6]at h3;have key:∀t:Sf,t.cy.length<=b.P6.length->0<=pI b L t->pI b L t+1<=pI b L s->mu2 b L t<mu2 b L s:=λt hp g1 g2=>by
    unfold mu2;have H':(pI b L t).toNat+1<=(pI b L s).toNat:=by omega
    have hmul:((pI b L t).toNat+1)*(2*b.P6.length+3)<=(pI b L s).toNat*(2*b.P6.length+3):=Nat.mul_le_mul_right _ H';rw[Nat.add_mul,Nat.one_mul]at hmul;have:(if t.s.free=true then b.P6.length+1 else 0)<=b.P6.length+1:=by split<;>omega
    omega
   refine key _ hpd ?_ ?_
   all_goals
    change xO b s.s (iq b (fI b s)).s _ _ _ at hcg;generalize iq b (fI b s)=z at*;unfold pI;simp only;cases hcg with
    |more q1 q2 q3 q4 q5=>
     rw[q1,q5,hk,fp];rw[VZ]at q3;have e1:0<=(dO b k-(s.s.done+(bw b s.s).body))/L:=Int.ediv_nonneg (by omega) (by omega);have e2:(dO b k-(s.s.done+(bw b s.s).body))/L<=(dO b k-s.s.done-L)/L:=Int.ediv_le_ediv (by omega) (by omega);have e3:(dO b k-s.s.done-L)/L=(dO b k-s.s.done)/L-1:=by
      have:=Int.add_mul_ediv_right (dO b k-s.s.done) (-1) (show L≠0 by omega);rw[show dO b k-s.s.done-L=dO b k-s.s.done+-1*L by omega,this];omega
     omega
    |whole c r y q1 q2 q3 q4 q5 q6 q7 q8 q9=>
     rw[hk]at q2;simp only[q1,hk,fp];have e0:=Ac QR (k+1) (c-(k+1));rw[show k+1+(c-(k+1))=c by omega]at e0;have e1:0<=(dO b c-0)/L:=Int.ediv_nonneg (by have:=jU QR c;omega) (by omega);have e2:(dO b c-0)/L<=(dO b k-s.s.done)/L:=Int.ediv_le_ediv (by omega) (by omega);omega
def DN{b:Bk}{L:Int}(hL:fQ b L):mu2 b L ⟨⟨0,0,true⟩,[]⟩<=1000000000:=by
 have h1:=hL.rest;have h2:=hL.na;have h3:=hL.nf;have h4:=hL.pos;have e:(dO b 0-0)/L<=32768:=by
  have:(dO b 0-0)/L<=(32768*L)/L:=Int.ediv_le_ediv (by omega) (by omega);rw[Int.mul_ediv_cancel _ (by omega)]at this;exact this
 have hw:(pI b L ⟨⟨0,0,true⟩,[]⟩).toNat<=42768:=by
  unfold pI;simp only;have:(0:Int).toNat=0:=rfl;rw[this];omega
 unfold mu2;simp only[if_true,List.length_nil];have:(pI b L ⟨⟨0,0,true⟩,[]⟩).toNat*(2*b.P6.length+3)<=42768*20003:=Nat.mul_le_mul hw (by omega);omega
open Go.Proofs Go.Proofs.Tryz
def lR(b:Bk)(s:Sf):Int:=wU b.PQ (cF b s).1 s.s
def Ut(b:Bk):Nat->Sf->Int->List (Option SK)
 |0,_,_=>[]
 |f+1,s,no=>if iE b s then[]else
  if 0<=lR b s/\(no+1)%2≠lR b s then none::some (cF b s).1::Ut b f (cF b s).2 (no+2)else some (cF b s).1::Ut b f (cF b s).2 (no+1)
def TW:Option SK->V
 |none=>.iface 95 (.agg [])
 |some p=>.iface 93 (cL p)
structure Zy(Qe e2 i2 i4 i6:Nat)(no:Int)(s:Sf)(ZJ U:ag):Prop where
 sub:aa ZJ U
 y:U i2=some ⟨e2,1,[.yl Qe]⟩
 n:U i4=some ⟨3,1,[vI no]⟩
 st:U i6=some ⟨134,4,[dz s]⟩
 n2:ZJ i2=none
 n4:ZJ i4=none
 n6:ZJ i6=none
 ZO:i2≠i4
 e26:i2≠i6
 e46:i4≠i6
def Zy.mono{Qe e2 i2 i4 i6:Nat}{no:Int}{s:Sf}{ZJ U J:ag}(h:Zy Qe e2 i2 i4 i6 no s ZJ U)(hs:aa U J):Zy Qe e2 i2 i4 i6 no s ZJ J:=
 ⟨h.sub.trans hs,hs _ _ h.y,hs _ _ h.n,hs _ _ h.st,h.n2,h.n4,h.n6,h.ZO,h.e26,h.e46⟩
def Zy.given{Qe e2 i2 i4 i6:Nat}{no:Int}{s:Sf}{ZJ U Qd Z':ag}(h:Zy Qe e2 i2 i4 i6 no s ZJ U)(hb:bp ZJ (C' U i4 ⟨3,1,[vI (no+1)]⟩) Qd Z'):Zy Qe e2 i2 i4 i6 (no+1) s Qd Z':=by
 obtain⟨a1,a2⟩:=hb.2 i2 _ h.n2 (by rw[ab h.ZO];exact h.y);obtain⟨b1,b2⟩:=hb.2 i4 _ h.n4 af;obtain⟨c1,c2⟩:=hb.2 i6 _ h.n6 (by rw[ab h.e46.symm];exact h.st);exact⟨hb.1,a1,b1,c1,a2,b2,c2,h.ZO,h.e26,h.e46⟩
def Zy.next{Qe e2 i2 i4 i6:Nat}{no:Int}{s:Sf}{ZJ U UP:ag}{Qb:Nat}{o:Ob}(h:Zy Qe e2 i2 i4 i6 no s ZJ U)(hs:aa (C' U i6 o) UP)(hf:C' U i6 o Qb=none)(t:Sf):
 Zy Qe e2 i2 i4 Qb no t ZJ (C' UP Qb ⟨134,4,[dz t]⟩):=by
 have h1:=(h.sub.aD (o:=o) h.n6)
 have y':=hs _ _ ((ab h.e26 (o:=o)).trans h.y);have n':=hs _ _ ((ab h.e46 (o:=o)).trans h.n);have k2:i2≠Qb:=λe=>by rw[<-e,ab h.e26,h.y]at hf;cases hf
 have k4:i4≠Qb:=λe=>by rw[<-e,ab h.e46,h.n]at hf;cases hf
 have nn:ZJ Qb=none:=h1.none hf;exact⟨(h1.trans hs).aD nn,(ab k2).trans y',(ab k4).trans n',af,h.n2,h.n4,nn,h.ZO,k2,k4⟩
def DU{b:Bk}(hb:bU b){s:Sf}(hp:s.cy.length<=1000000)(he:¬iE b s):(cF b s).2.cy.length<=1000000:=by
 have RL:mv b s:=Decidable.byContradiction λh=>he (.inl h);have Tu:=hb.Un;have RG:0<=s.s.atom:=by rcases RL.2 with h|h;exact h.1.1;omega
 unfold cF;split
 .have:(b.P6.dropWhile (rR (cH b s.s .aT).body)).length<=b.P6.length:=(List.dropWhile_sublist _).length_le;show(b.P6.dropWhile (rR (cH b s.s .aT).body)).length<=_;omega
 .split
  .show(eW (bw b s.s).body s.cy 0).2.1.length<=_;cases hpp:s.cy with
   |cons f r=>have:=rE (body:=(bw b s.s).body) f r;rw[hpp]at hp;simp only[Q4]at this hp;omega
   |nil=>simp[eW]
  .rename_i hf;have hm:cM b.atoms s.s:=RL.2.resolve_right λh=>hf (.inl h.1);have:=(qG (x:=fI b s) hb.toBkOk hm hb.pos (j4 hb.toBkFull s.s RG)).cy;show(iq b (fI b s)).cy.length<=_;omega
def rB(b:Bk)(hb:BkFull b):bb prog 42 [.rp (bW b)] (bV b.PQ):=λU=>
 (Dz b hb U).DW λ_ _ h=>h.2.Bl h.1 rfl
def zj(b:Bk)(hb:bU b){L:Int}(hL:fQ b L):Iter prog 59 [.rp (.rp (bW b))] ((Ut b 1000000001 ⟨⟨0,0,true⟩,[]⟩ 0).map λx=>[TW x]):=by
 refine⟨e59.c,λQe τ Jx Z0 hy hJ=>?_⟩;refine(e59.r (by simp[c59]) ?_).2;have hs:=aa.refl Z0;have hmu:=DN hL;have QX:=hb.WL;have Tx:=hb.len;have Tu:=hb.Un;have SJ:∀s:Sf,(dz s).cells=[vI s.s.atom,vI s.s.done,.bool s.s.free,aS s.cy]:=λ_=>rfl;have Tc:∀s:Sf,(dz s).stays=true:=λ_=>rfl;have Sg:∀p:SK,(cL p).cells=[vI p.no,vI p.kind,bn p.hs,bn p.fs,bn p.ls]:=λ_=>rfl;have Uq:∀p:SK,(cL p).stays=true:=λ_=>rfl;have ldB:∀U:ag,cj U false 1 (.rp (.rp (bW b)))=some (.rp (bW b)):=λU=>rfl;generalize hXS:(Ut b 1000000001 ⟨⟨0,0,true⟩,[]⟩ 0).map (λx=>[TW x])=XS at*;refine ae.mix 8 ?_;apply sR;simp only[go_sem,seval,c59,ldB];refine ad λi2 Z2 s2 a2 f2=>?_;have z2:=hs.none f2;replace hs:=hs.trans s2;simp only[go_sem,seval,ldB];refine ae.aC rfl rfl rfl (rB b hb.toBkFull _) ?_;apply sR;simp only[go_sem,seval,ldB,bu,bt];refine ad λi4 Z4 s4 a4 f4=>?_;have n24:=al a2 f4;replace a2:=s4 _ _ a2;have z4:=hs.none f4;replace hs:=hs.trans s4;simp only[go_sem,seval,a4,a2];generalize Tl:C' _ i4 _=Y4;replace a4:=(congrFun Tl i4).symm.trans af;replace a2:=((congrFun Tl i2).symm.trans (ab n24)).trans a2;replace hs:=Eq.subst (motive:=aa _) Tl (hs.aD z4);clear Tl;apply sR;simp only[go_sem,seval,ldB];refine ae.aC rfl rfl rfl (DD b hb.toBkFull _) ?_;apply sR;simp only[go_sem,seval];refine ad λi6 Z6 s6 a6 f6=>?_;have n46:=al a4 f6;replace a4:=s6 _ _ a4;have n26:=al a2 f6;replace a2:=s6 _ _ a2;have z6:=hs.none f6;replace hs:=hs.trans s6;simp only[go_sem,seval,a6,a4,a2,SJ,Tc];generalize XI:C' _ i6 _=Y6;replace a6:=(congrFun XI i6).symm.trans af;replace a4:=((congrFun XI i4).symm.trans (ab n46)).trans a4;replace a2:=((congrFun XI i2).symm.trans (ab n26)).trans a2;replace hs:=Eq.subst (motive:=aa _) XI (hs.aD z6);clear XI;apply sR;simp only[go_sem,seval];have hJ0:Zy Qe 132 i2 i4 i6 0 ⟨⟨0,0,true⟩,[]⟩ Z0 Y6:=⟨hs,a2,a4,a6,z2,z4,z6,n24,n26,n46⟩
 clear hs a2 a4 a6;generalize Y6=J at*;refine ae.loop (λm st=>∃(s:Sf) (no:Int) (pre:List (List V)) (ZJ:ag) (i6':Nat),mu2 b L s<m/\XS=pre++(Ut b m s no).map (λx=>[TW x])/\τ pre ZJ/\
  Zy Qe 132 i2 i4 i6' no s ZJ st.U/\st.s 0=.yl Qe/\st.s 1=.rp (.rp (bW b))/\st.s 3=bV b.PQ/\st.s 4=.ptr i4 0 0/\st.s 5=.fn 60 [.ptr i4 0 0,.ptr i2 0 0]/\st.s 6=.ptr i6' 0 0/\
  0<=no/\no+2*m<=2000000002/\s.cy.length<=1000000) 1000000001 ?_ ?_
 .exact⟨⟨⟨0,0,true⟩,[]⟩,0,[],Z0,i6,by omega,by rw[mo,hXS],hJ,hJ0,rfl,rfl,rfl,rfl,rfl,rfl,by omega,by omega,by simp⟩
 clear hJ0 hJ;rintro m ⟨S,J⟩ ⟨s,no,pre,ZJ,i6,hm,hx,Ry,Wz,t0,t1,t3,t4,t5,t6,hn0,hn1,hp⟩;simp only at Wz t0 t1 t3 t4 t5 t6;obtain⟨f,rfl⟩:∃f,m=f+1:=⟨m-1,by omega⟩
 have r6:=Wz.st;refine ae.mix 8 ?_;apply sR;simp only[go_sem,seval,t0,t1,t3,t4,t5,t6,ldB,r6];refine ae.aC rfl rfl rfl (CK b hb.toBkFull s hp _) ?_;by_cases he:iE b s
 .rw[Rt he];apply sR;simp only[go_sem,seval];rw[Ut,aE he,List.map_nil,kL]at hx;subst hx;exact⟨_,ZJ,Wz.sub,Wk.refl Wz.sub _,.inl Ry⟩
 rw[Rv he];apply sR;simp only[go_sem,seval,t0,t1,t3,t4,t5,t6,ldB,r6];refine ae.aC rfl rfl rfl (HD b hb.toBkFull hb.fh s hp _) ?_;rw[aH he];apply sR;simp only[go_sem,seval,t0,t1,t3,t4,t5,t6,ldB,r6];have hs:=aa.refl J;refine ad λi7 Z7 s7 a7 f7=>?_;have z7:=hs.none f7;replace hs:=hs.trans s7;simp only[go_sem,seval];refine ad λi8 Z8 s8 a8 f8=>?_;have Wg:=al a7 f8;replace a7:=s8 _ _ a7;have z8:=hs.none f8;replace hs:=hs.trans s8;simp only[go_sem,seval,a7,a8,Sg,Uq];generalize Sx:C' _ i7 _=Y7;replace a7:=(congrFun Sx i7).symm.trans af;replace a8:=((congrFun Sx i8).symm.trans (ab Wg.symm)).trans a8;replace hs:=Eq.subst (motive:=aa _) Sx (hs.aD z7);clear Sx;simp only[go_sem,seval,a7,a8,SJ,Tc];generalize Ra:C' _ i8 _=Y8;replace a8:=(congrFun Ra i8).symm.trans af;replace a7:=((congrFun Ra i7).symm.trans (ab Wg)).trans a7;replace hs:=Eq.subst (motive:=aa _) Ra (hs.aD z8);clear Ra;have Rg:=Wz.mono hs;have r6':=Rg.st;have r4:=Rg.n;have RL:mv b s:=Decidable.byContradiction λh=>he (.inl h);have RG:0<=s.s.atom/\s.s.atom<b.PQ.length:=by
  rcases RL.2 with h|h
  .have:=h.1;omega
  .omega
 simp only[go_sem,seval,t0,t1,t3,t4,t5,t6,ldB,r6',a7,a8,Sg,Uq,SJ,Tc,bt,bu];refine ae.aC rfl rfl rfl (HC b.PQ (by omega) (cF b s).1 s.s RG.1 RG.2 _) ?_;rw[show wU b.PQ (cF b s).1 s.s=lR b s from rfl];have hmn:=Gz hb hL he;have hpn:=DU hb hp he;have r5:PY .i64 (no+1):=ar;have m7:ZJ i7=none:=Wz.sub.none z7;have m8:ZJ i8=none:=Wz.sub.none z8;have d47:i7≠i4:=λe=>by have:=Wz.n;rw[<-e,z7]at this;cases this
 have d48:i8≠i4:=λe=>by have:=Wz.n;rw[<-e,z8]at this;cases this
 have htm:(no+1).tmod 2=(no+1)%2:=Int.tmod_eq_emod_of_nonneg (by omega);by_cases hw:0<=lR b s/\(no+1)%2≠lR b s
 .rw[Ut,aH he,aE hw]at hx;have q1:(lR b s>=0)=True:=PK hw.1;have q2:((no+1).tmod 2≠lR b s)=True:=PK (by rw[htm];exact hw.2);generalize lR b s=W at*;apply sR;simp only[go_sem,seval,t0,t1,t3,t4,t5,t6,r4,r5,q1,q2];refine ae.call rfl rfl rfl (yq (x:=.iface 95 (.agg [])) r5 Rg.n Rg.y Rg.ZO.symm (hy pre _ _ ZJ _ hx Ry (Rg.sub.aD Rg.n4))) ?_;rintro _ Z8b ⟨b',rfl,ZJ8,QV,QH⟩;have WB:=Rg.given QV;obtain⟨a7b,k7⟩:=QV.2 i7 _ m7 (by rw[ab d47];exact a7);obtain⟨a8b,k8⟩:=QV.2 i8 _ m8 (by rw[ab d48];exact a8);have r55:PY .i64 (no+1+1):=ar;have SW:XS=(pre++[[TW none]])++[.iface 93 (cL (cF b s).1)]::(Ut b f (cF b s).2 (no+1+1)).map (λx=>[TW x]):=by
   rw[hx,show no+2=no+1+1 by omega];simp[TW]
  rcases QH with⟨rfl,QH⟩|⟨rfl,QH⟩
  .apply sR;simp only[go_sem,seval,t0,t1,t3,t4,t5,t6,a7b,Sg,Uq];refine ae.call rfl rfl rfl (yq (x:=.iface 93 (cL (cF b s).1)) r55 WB.n WB.y WB.ZO.symm (hy (pre++[[TW none]]) _ _ ZJ8 _ SW QH (WB.sub.aD WB.n4))) ?_;rintro _ Z9 ⟨b',rfl,ZJ9,QV,QH⟩;have QZ:=WB.given QV;obtain⟨a8',k8⟩:=QV.2 i8 _ k8 (by rw[ab d48];exact a8b);have r9:=QZ.st;rcases QH with⟨rfl,QH⟩|⟨rfl,QH⟩
   .apply sR;simp only[go_sem,seval,t0,t1,t3,t4,t5,t6,a8',r9,SJ,Tc];refine ad λQb UP Re P0 f10=>?_;simp only[go_sem,seval,P0,SJ,Tc];refine⟨f,by omega,(cF b s).2,(no+1)+1,(pre++[[TW none]])++[[TW (some (cF b s).1)]],ZJ9,Qb,by omega,?_,QH,QZ.next Re f10 _,?_⟩
    .rw[SW];simp[TW]
    .simp[t0,t1,t3,t4,t5];exact⟨by omega,by omega,hpn⟩
   .apply sR;simp only[go_sem,seval];refine⟨_,ZJ9,QZ.sub,Wk.refl QZ.sub _,.inr ⟨_,?_,QH⟩⟩;rw[SW];exact⟨(Ut b f (cF b s).2 ((no+1)+1)).map λx=>[TW x],by simp⟩
  .apply sR;simp only[go_sem,seval];refine⟨_,ZJ8,WB.sub,Wk.refl WB.sub _,.inr ⟨_,?_,QH⟩⟩;rw[hx];exact⟨(some (cF b s).1::Ut b f (cF b s).2 (no+2)).map λx=>[TW x],by simp[TW]⟩
 .rw[Ut,aH he,aH hw]at hx;have hq:(lR b s>=0)=False\/(lR b s>=0)=True/\((no+1).tmod 2≠lR b s)=False:=by
   by_cases h:lR b s>=0
   .exact .inr ⟨PK h,PF (λg=>hw ⟨h,by rw[<-htm];exact g⟩)⟩
   .exact .inl (PF h)
  generalize lR b s=W at*;have SW:XS=pre++[.iface 93 (cL (cF b s).1)]::(Ut b f (cF b s).2 (no+1)).map (λx=>[TW x]):=hx;rcases hq with q1|⟨q1,q2⟩
  .apply sR;simp only[go_sem,seval,t0,t1,t3,t4,t5,t6,r4,r5,a7,Sg,Uq,q1];refine ae.call rfl rfl rfl (yq (x:=.iface 93 (cL (cF b s).1)) r5 Rg.n Rg.y Rg.ZO.symm (hy pre _ _ ZJ _ SW Ry (Rg.sub.aD Rg.n4))) ?_;rintro _ Z9 ⟨b',rfl,ZJ9,QV,QH⟩;have QZ:=Rg.given QV;obtain⟨a8',k8⟩:=QV.2 i8 _ m8 (by rw[ab d48];exact a8);have r9:=QZ.st;rcases QH with⟨rfl,QH⟩|⟨rfl,QH⟩
   .apply sR;simp only[go_sem,seval,t0,t1,t3,t4,t5,t6,a8',r9,SJ,Tc];refine ad λQb UP Re P0 f10=>?_;simp only[go_sem,seval,P0,SJ,Tc];refine⟨f,by omega,(cF b s).2,no+1,pre++[[TW (some (cF b s).1)]],ZJ9,Qb,by omega,?_,QH,QZ.next Re f10 _,?_⟩
    .rw[SW];simp[TW]
    .simp[t0,t1,t3,t4,t5];exact⟨by omega,by omega,hpn⟩
   .apply sR;simp only[go_sem,seval];refine⟨_,ZJ9,QZ.sub,Wk.refl QZ.sub _,.inr ⟨_,?_,QH⟩⟩;rw[SW];exact⟨(Ut b f (cF b s).2 (no+1)).map λx=>[TW x],by simp⟩
  .apply sR;simp only[go_sem,seval,t0,t1,t3,t4,t5,t6,r4,r5,a7,Sg,Uq,q1,q2];refine ae.call rfl rfl rfl (yq (x:=.iface 93 (cL (cF b s).1)) r5 Rg.n Rg.y Rg.ZO.symm (hy pre _ _ ZJ _ SW Ry (Rg.sub.aD Rg.n4))) ?_;rintro _ Z9 ⟨b',rfl,ZJ9,QV,QH⟩;have QZ:=Rg.given QV;obtain⟨a8',k8⟩:=QV.2 i8 _ m8 (by rw[ab d48];exact a8);have r9:=QZ.st;rcases QH with⟨rfl,QH⟩|⟨rfl,QH⟩
   .apply sR;simp only[go_sem,seval,t0,t1,t3,t4,t5,t6,a8',r9,SJ,Tc];refine ad λQb UP Re P0 f10=>?_;simp only[go_sem,seval,P0,SJ,Tc];refine⟨f,by omega,(cF b s).2,no+1,pre++[[TW (some (cF b s).1)]],ZJ9,Qb,by omega,?_,QH,QZ.next Re f10 _,?_⟩
    .rw[SW];simp[TW]
    .simp[t0,t1,t3,t4,t5];exact⟨by omega,by omega,hpn⟩
   .apply sR;simp only[go_sem,seval];refine⟨_,ZJ9,QZ.sub,Wk.refl QZ.sub _,.inr ⟨_,?_,QH⟩⟩;rw[SW];exact⟨(Ut b f (cF b s).2 (no+1)).map λx=>[TW x],by simp⟩
variable {P:Program} {n:Nat}
def Bj{o:Op}{xs:List VX}(h:P3 P n o=.more .tY xs):∃t,o=.alloc t/\ot P t=true:=by
 cases o
 case alloc t=>
  simp only[P3]at h;split at h
  .cases h
  .split at h
   .rename_i hn;exact⟨t,rfl,hn⟩
   .cases h
 case call c=>
  obtain⟨callee,args,argTypes⟩:=c;cases callee
  case builtin b=>cases b<;>simp only[P3]at h<;>(repeat' split at h)<;>cases h
  all_goals (simp only[P3]at h;cases h)
 case unOp op t x=>cases op<;>simp only[P3]at h<;>cases h
 case makeFunc f a b=>cases f<;>simp only[P3]at h<;>(repeat' split at h)<;>cases h
 case binOp op t x y yt=>cases op<;>simp only[P3,cu]at h<;>(repeat' split at h)<;>cases h
 all_goals (simp only[P3]at h;(repeat' split at h)<;>cases h)
def BV{o:Op}{xs:List VX}(h:P3 P n o=.more .tA xs):∃t x y,o=.store t x y/\ot P t=true/\xs=[cx n x,cx n y]:=by
 cases o
 case store t x y=>
  simp only[P3]at h;split at h
  .cases h
  .split at h
   .rename_i hn;simp only[Qp.more.injEq,true_and]at h;exact⟨t,x,y,rfl,hn,h.symm⟩
   .cases h
 case call c=>
  obtain⟨callee,args,argTypes⟩:=c;cases callee
  case builtin b=>cases b<;>simp only[P3]at h<;>(repeat' split at h)<;>cases h
  all_goals (simp only[P3]at h;cases h)
 case unOp op t x=>cases op<;>simp only[P3]at h<;>cases h
 case makeFunc f a b=>cases f<;>simp only[P3]at h<;>(repeat' split at h)<;>cases h
 case binOp op t x y yt=>cases op<;>simp only[P3,cu]at h<;>(repeat' split at h)<;>cases h
 all_goals (simp only[P3]at h;(repeat' split at h)<;>cases h)
def ae.tY{st:St}{Q:St->Prop}{k:List It}{i:aK}{l:List aK}(hw:bB st.s i.g=some true)(ho:i.op=.more .tY [])
 (h:ae P n (.ops l::k) ⟨aZ st.s i.dst (.rp (.agg [])),st.U⟩ Q):ae P n (.ops (i::l)::k) st Q:=by
 refine ae.ins (by rw[ho];simp) hw λF hn I a w o all hi hs next Q' PL=>?_
 subst hn;obtain⟨PV,hd⟩:=dP hi;rw[ho]at PV;obtain⟨t,g1,hn⟩:=Bj PV;have Qq:(execOp a.eval o).run P w=.ok (.value (.pointer (some ⟨w.heap.size,0,none⟩))) (w.alloc (.cells #[] t)):=by
  unfold execOp;rw[g1];simp[Instr.alloc,rj hn,newVar,newRow,Value.cells]
 unfold Oper.wp;rw[Qq];obtain⟨h1,hk⟩:=hs.sat.more (.cells #[] t);refine PL _ _ _ ⟨I,?_⟩ h;rw[<-hd];exact hs.step h1 (dd.refl I) hk (by simp) (by simp only[E'];exact⟨w.heap.size,0,rfl,by simp,.inl rfl,by simp[bF,aW]⟩)
def ae.tA{st:St}{Q:St->Prop}{k:List It}{i:aK}{l:List aK}{xa xv:VX}{u:V}(hw:bB st.s i.g=some true)(ho:i.op=.more .tA [xa,xv])(ha:xa.ev st.s=.rp u)(hv:xv.ev st.s=.agg [])
 (h:ae P n (.ops l::k) ⟨aZ st.s i.dst (.PN []),st.U⟩ Q):ae P n (.ops (i::l)::k) st Q:=by
 refine ae.ins (by rw[ho];simp) hw λF hn I a w o all hi hs next Q' PL=>?_
 subst hn;obtain⟨PV,hd⟩:=dP hi;rw[ho]at PV;obtain⟨t,x,y,g1,hn,g2⟩:=BV PV;simp only[List.cons.injEq,and_true]at g2;obtain⟨rfl,rfl⟩:=g2;have R1:=cz hs x;have R2:=cz hs y;rw[ha]at R1;rw[hv]at R2;simp only[E']at R1 R2;obtain⟨b,off,e1,_⟩:=R1;obtain⟨PO,e2,e3,_⟩:=R2;simp only[ax]at e3;subst e3;obtain⟨ti,_,X7,RS,_⟩:=nP hn;have Qq:(execOp a.eval o).run P w=.ok .skip w:=by
  unfold execOp;rw[g1];simp[Instr.storeAt,Instr.sureAddr,e1,e2,storeVar,sizeOf,typeInfo,X7,RS,Value.cells,storeCells]
 unfold Oper.wp;rw[Qq];refine PL _ _ _ ⟨I,?_⟩ h;rw[<-hd];exact hs.pure (by simp[E',ax,undef])
open Go.Proofs Go.Proofs.Tryz
def Fm(b:Bk):bb prog 34 [.rp (bW b)] (.fn 59 [.rp (.rp (bW b))]):=λU=>by
 refine e34.r (by simp[c34]) ?_;refine ae.mix 4 ?_;apply sR;simp only[go_sem,seval,c34];refine ad λTi Z1 s1 a1 f1=>?_;simp only[go_sem,seval];exact⟨_,U,s1,Wk.fn (vs':=[.rp (.rp (bW b))]) ⟨Wk.ptr s1 a1 f1,trivial⟩,rfl,rfl⟩
def pgN(k:Nat)(x:Option SK):SK:=match x with
 |none=>⟨(k:Int)+1,3,[],[],[]⟩
 |some p=>{ p with no:=(k:Int)+1 }
def xM(L:List (Option SK)):List SK:=(List.range L.length).map λk=>pgN k (L.getD k none)
def pgV(k:Nat)(x:Option SK):V:=match x with
 |none=>.agg [vI ((k:Int)+1),vI 3,.aT,.aT,.aT]
 |some p=>cL { p with no:=(k:Int)+1 }
def qt(L:List (Option SK)):List V:=(List.range L.length).map λk=>pgV k (L.getD k none)
def D6(L:List (Option SK))(x:Option SK):qt (L++[x])=qt L++[pgV L.length x]:=by
 unfold qt;rw[gY,List.length_singleton,List.range_succ,fC];congr 1
 .refine List.map_congr_left λk hk=>?_;have:=List.mem_range.1 hk;rw[uG,uG,Fc this]
 .simp
def Gg(L:List (Option SK)):(qt L).length=L.length:=by simp[qt]
def th(b:Bk):∀(f:Nat) (s:Sf) (no:Int),(Ut b f s no).length<=2*f
 |0,_,_=>by simp[Ut]
 |f+1,s,no=>by
  rw[Ut];split
  .simp
  .split
   .have:=th b f (cF b s).2 (no+2);simp only[Q4];omega
   .have:=th b f (cF b s).2 (no+1);simp only[Q4];omega
def my(b:Bk):List SK:=if(b.atoms.length:Int)+b.P6.length=0 then[⟨1,3,[],[],[]⟩]else xM (Ut b 1000000001 ⟨⟨0,0,true⟩,[]⟩ 0)
open Go.Proofs Go.Proofs.Tryz
def bp.M0{ZJ U Qd Z':ag}(h:bp ZJ U Qd Z'){id:Nat}{o:Ob}(hn:U id=none)(hj:Qd id=none):bp ZJ U Qd (C' Z' id o):=
 ⟨h.1.aD hj,λi x h1 h2=>by
  obtain⟨h3,h4⟩:=h.2 i x h1 h2;have:i≠id:=λe=>by rw[e,hn]at h2;cases h2
  simp[Vc.C',this,h3,h4]⟩
def RM.maps{α:Type}{U:ag}{N:Nat->Prop}{f g:α->V}:∀{l:List α},(∀a∈l,Fz U N (f a) (g a))->RM U N (l.map f) (l.map g)
 |[],_=>.nil
 |a::l,h=>.cons _ _ _ _ (h a (by simp)) (RM.maps λx hx=>h x (by simp[hx]))
def AW(p:SK):(cL p).vX=true:=by
 have h:∀l:List RR,(bn l).vX=true:=λl=>lV (f:=aY) (λ_=>rfl) l;show jB [vI p.no,vI p.kind,bn p.hs,bn p.fs,bn p.ls]=true;simp only[jB,h];rfl
def IC{U:ag}{N:Nat->Prop}(L:List (Option SK)):RM U N (qt L) ((xM L).map cL):=by
 unfold qt xM;rw[List.map_map];refine RM.maps λk _=>?_;simp only[Function.comp];cases L.getD k none with
 |none=>exact .agg _ _ (.cons _ _ _ _ (.same _ rfl) (.cons _ _ _ _ (.same _ rfl) (.cons _ _ _ _ (.nil 7) (.cons _ _ _ _ (.nil 7) (.cons _ _ _ _ (.nil 7) .nil)))))
 |some p=>exact .same _ (AW _)
def aU.Hk{K U:ag}{N:Nat->Prop}{e sz:Nat}{v:V}{rows rows':List V}(h:aU K U e sz v rows)(hN:∀id,K id=none->N id)(hr:RM U N rows rows'):Fz U N v (.sl sz rows'):=by
 rcases h with⟨rfl,rfl⟩|⟨id,rfl,ho,hk⟩
 .cases hr;exact .nil sz
 .exact .own id 0 rows.length ⟨e,sz,rows⟩ rows' ho (hN id hk) (by simp) (by rw[zM,jK];exact hr)
def j0(L:List SK):V:=.sl 5 (L.map cL)
def Dl(l:List Nd)(hl:ed l)(w h:Int):
 bb prog 12 [aQ l,vI w,vI h] (if gN l w h=0 then .PN [j0 (my (bJ l w h)),vI 0]else .PN [.aT,vI (gN l w h)]):=λU=>by
 refine e12.r (by simp[c12]) ?_;have hs:=aa.refl U;refine ae.mix 8 ?_;apply sR;simp only[go_sem,seval,c12];refine ae.aC rfl rfl rfl (FW l hl w h _) ?_;by_cases he:gN l w h=0
 .have hb:=gI hl he;have hL:=ju he;rw[AU,aE he,aE he,he];generalize bJ l w h=b at*;generalize cU l h=L at*;have q1:((0:Int)≠0)=False:=PF (λh=>h rfl);apply sR;simp only[go_sem,seval,q1];refine ad λQb UP Re P0 f10=>?_;have SS:=hs.none f10;replace hs:=hs.trans Re;simp only[go_sem,seval,P0];refine ae.aC rfl rfl rfl (Fm b _) ?_;apply sR;simp only[go_sem,seval];generalize hS:mix 8 _ _=S;have S8:S 8=.rp (bW b):=by rw[<-hS];rfl
  have Zb:S 10=.ptr Qb 0 0:=by rw[<-hS];rfl
  have S27:S 27=.fn 59 [.rp (.rp (bW b))]:=by rw[<-hS];rfl
  clear hS;have Va:=zj b hb hL;have hSl:=th b 1000000001 ⟨⟨0,0,true⟩,[]⟩ 0;have hPR:my b=if(b.atoms.length:Int)+b.P6.length=0 then[⟨1,3,[],[],[]⟩]else xM (Ut b 1000000001 ⟨⟨0,0,true⟩,[]⟩ 0):=rfl
  generalize my b=PR at*;generalize Ut b 1000000001 ⟨⟨0,0,true⟩,[]⟩ 0=SH at*;refine ae.fk (g:=.t 27) (caps:=[.rp (.rp (bW b))]) S27 Va (λx hx=>?_) [] (λpre ZJ=>∃v,ZJ Qb=some ⟨39,1,[v]⟩/\aa U ZJ/\aU (bo U Qb) ZJ 44 5 v (qt (SH.take pre.length)))
   (λ_ _ _=>False) ?_ ?_ ?_ ?_ ?_
  .obtain⟨t,_,rfl⟩:=fM.1 hx;rfl
  .exact⟨.aT,P0,Re,by simpa[qt]using aU.start⟩
  .rintro pre x post ZJ ZB Sb ⟨v,J10,Js,Jo⟩ G';obtain⟨t,X7,rfl⟩:=pn (f:=TW) Sb;have TY:pre.length<SH.length:=(nY.1 X7).1;have hlen:(pre++[[TW t]]).length=pre.length+1:=by simp
   have QF:qt (SH.take (pre.length+1))=qt (SH.take pre.length)++[pgV pre.length t]:=by
    rw[Ib,X7,Option.toList_some,D6,kK,Nat.min_eq_left (by omega)]
   rw[hlen,QF];have Si:(qt (SH.take pre.length)).length=pre.length:=by rw[Gg,kK];omega
   have Tv:=Jo.vc.1;have Yz:=Jo.vc.2;have YA:=Jo.len;rw[Si]at YA;generalize Qu:qt (SH.take pre.length)=rows at*;have WH:=G' _ _ J10;generalize RI:mI S [28] [TW t]=S0;have VH:S0 10=.ptr Qb 0 0:=by rw[<-RI];exact Zb
   have T28:S0 28=TW t:=by rw[<-RI];rfl
   clear RI;refine ae.mix 12 ?_;apply sR;simp only[go_sem,seval,VH,T28];apply sR;simp only[go_sem,seval,VH,T28];rw[aN];intro QT f12;have Yk:Qb≠QT:=al WH f12;have r1:PY .i64 ((pre.length:Int)+1):=ar;have Sg:∀p:SK,(cL p).cells=[vI p.no,vI p.kind,bn p.hs,bn p.fs,bn p.ls]:=λ_=>rfl;have Um:∀l:List RR,(bn l).cells=[bn l]:=λ_=>rfl;have RP:∀l:List RR,(bn l).stays=true:=λ_=>rfl;have Uq:∀p:SK,(cL p).stays=true:=λ_=>rfl;have TN:=(bp.refl G').qJ (o:=⟨44,5,[.agg [vI 0,vI 3,.aT,.aT,.aT]]⟩) f12;have y10:C' ZB QT ⟨44,5,[.agg [vI 0,vI 3,.aT,.aT,.aT]]⟩ Qb=some ⟨39,1,[v]⟩:=by rw[ab Yk];exact WH
   have a12:C' ZB QT ⟨44,5,[.agg [vI 0,vI 3,.aT,.aT,.aT]]⟩ QT=some ⟨44,5,[.agg [vI 0,vI 3,.aT,.aT,.aT]]⟩:=af;have QD:(rows.length+1)*89<=140737488355328:=by omega
   have k2:bo U Qb Qb≠none:=λh=>(aL.1 h).1 rfl;have ZU:ZJ QT=none:=G'.none f12;cases t with
   |none=>
    simp only[go_sem,seval,VH,T28,TW,HT];generalize C' ZB QT ⟨44,5,[.agg [vI 0,vI 3,.aT,.aT,.aT]]⟩=X' at*;refine ae.tY rfl rfl ?_;refine ae.tA (u:=.agg []) rfl rfl rfl rfl ?_;apply sR;simp only[go_sem,seval,VH,y10,a12,Tv,Yz,YA,r1,ab Yk,ab Yk.symm,Sg,Uq];rw[aN];intro Yt f45;have y2:C' X' QT (⟨44,5,[.agg [vI ((pre.length:Int)+1),vI 3,.aT,.aT,.aT]]⟩:Ob) Qb=some ⟨39,1,[v]⟩:=by rw[ab Yk];exact y10
    have hB2:bp ZJ ZB ZJ (C' X' QT (⟨44,5,[.agg [vI ((pre.length:Int)+1),vI 3,.aT,.aT,.aT]]⟩:Ob)):=TN.M0 f12 ZU;generalize C' X' QT (⟨44,5,[.agg [vI ((pre.length:Int)+1),vI 3,.aT,.aT,.aT]]⟩:Ob)=Y2 at*;have hB3:=hB2.qJ (o:=(⟨44,5,[.agg [vI ((pre.length:Int)+1),vI 3,.aT,.aT,.aT]]⟩:Ob)) f45;have y3:C' Y2 Yt (⟨44,5,[.agg [vI ((pre.length:Int)+1),vI 3,.aT,.aT,.aT]]⟩:Ob) Qb=some ⟨39,1,[v]⟩:=by rw[ab (al y2 f45)];exact y2
    have a45:C' Y2 Yt (⟨44,5,[.agg [vI ((pre.length:Int)+1),vI 3,.aT,.aT,.aT]]⟩:Ob) Yt=some (⟨44,5,[.agg [vI ((pre.length:Int)+1),vI 3,.aT,.aT,.aT]]⟩:Ob):=af;generalize C' Y2 Yt (⟨44,5,[.agg [vI ((pre.length:Int)+1),vI 3,.aT,.aT,.aT]]⟩:Ob)=X3 at*;obtain⟨PU,QW,Ts⟩:=Jo.Ef hB3.1;have Tb:∀(i:Nat) (Zx:ag),bo U Qb i≠none->Vc.bI Zx PU i=Zx i:=λi Zx hk=>by
     cases PU with
     |none=>rfl
     |some a=>exact dN (λe=>hk (by rw[e];exact(Ts a rfl).1))
    simp only[go_sem,seval,QW,dj a45,QD,VH];rw[aN];intro Sl f46;have f46:X3 Sl=none:=f46;have m46:Qb≠Sl:=al y3 f46;have f46':Vc.bI X3 PU Sl=none:=by
     cases PU with
     |none=>exact f46
     |some a=>simp only[Vc.bI,del];split<;>first|rfl|exact f46
    have y4:C' (Vc.bI X3 PU) Sl ⟨44,5,rows++[.agg [vI ((pre.length:Int)+1),vI 3,.aT,.aT,.aT]]⟩ Qb=some ⟨39,1,[v]⟩:=by rw[ab m46,Tb _ _ k2];exact y3
    have hB9:=((hB3.D1 (e:=PU) λi h=>(Ts i h).2).new (o:=⟨44,5,rows++[.agg [vI ((pre.length:Int)+1),vI 3,.aT,.aT,.aT]]⟩) f46').set (id:=Qb) (o:=⟨39,1,[v]⟩) (o':=⟨39,1,[.own Sl 0 (rows.length+1)]⟩) (by rw[ab m46,Tb _ _ k2];exact J10);simp only[go_sem,seval,Tv,y4,VH];refine⟨_,hB9,.own Sl 0 (rows.length+1),af,?_,?_⟩
    .refine aa.aD (λi o h=>?_) SS;have h1:=Js _ _ h;rw[ab (al (hB3.1 _ _ h1) f46),Tb _ _ (λhk=>by rw[(aL.1 hk).2]at h;cases h)];exact h1
    .refine aU.new (by simp) (by rw[ab m46.symm,af];rfl) ?_;rw[aL];refine⟨m46.symm,?_⟩;cases h:U Sl with
     |none=>rfl
     |some o=>rw[hB3.1 _ _ (Js _ _ h)]at f46;cases f46
   |some p=>
    simp only[go_sem,seval,VH,T28,TW,HT];generalize C' ZB QT ⟨44,5,[.agg [vI 0,vI 3,.aT,.aT,.aT]]⟩=J at*;rw[aN];intro VI f13;have m13:QT≠VI:=al a12 f13;have Ur:Qb≠VI:=al y10 f13;have TN:=TN.qJ (o:=⟨93,5,[cL p]⟩) f13;have y10:C' J VI ⟨93,5,[cL p]⟩ Qb=some ⟨39,1,[v]⟩:=by rw[ab Ur];exact y10
    have a12:C' J VI ⟨93,5,[cL p]⟩ QT=some ⟨44,5,[.agg [vI 0,vI 3,.aT,.aT,.aT]]⟩:=by rw[ab m13];exact a12
    have R5:C' J VI ⟨93,5,[cL p]⟩ VI=some ⟨93,5,[cL p]⟩:=af;simp only[go_sem,seval,Sg,Uq];generalize C' J VI ⟨93,5,[cL p]⟩=X' at*;simp only[go_sem,seval,VH,y10,a12,R5,Tv,Yz,YA,r1,ab Yk,ab Yk.symm,Sg,Uq,Um,RP];rw[aN];intro Yt f45;have y2:C' X' QT (⟨44,5,[.agg [vI ((pre.length:Int)+1),vI p.kind,bn p.hs,bn p.fs,bn p.ls]]⟩:Ob) Qb=some ⟨39,1,[v]⟩:=by rw[ab Yk];exact y10
    have hB2:bp ZJ ZB ZJ (C' X' QT (⟨44,5,[.agg [vI ((pre.length:Int)+1),vI p.kind,bn p.hs,bn p.fs,bn p.ls]]⟩:Ob)):=TN.M0 f12 ZU;generalize C' X' QT (⟨44,5,[.agg [vI ((pre.length:Int)+1),vI p.kind,bn p.hs,bn p.fs,bn p.ls]]⟩:Ob)=Y2 at*;have hB3:=hB2.qJ (o:=(⟨44,5,[.agg [vI ((pre.length:Int)+1),vI p.kind,bn p.hs,bn p.fs,bn p.ls]]⟩:Ob)) f45;have y3:C' Y2 Yt (⟨44,5,[.agg [vI ((pre.length:Int)+1),vI p.kind,bn p.hs,bn p.fs,bn p.ls]]⟩:Ob) Qb=some ⟨39,1,[v]⟩:=by rw[ab (al y2 f45)];exact y2
    have a45:C' Y2 Yt (⟨44,5,[.agg [vI ((pre.length:Int)+1),vI p.kind,bn p.hs,bn p.fs,bn p.ls]]⟩:Ob) Yt=some (⟨44,5,[.agg [vI ((pre.length:Int)+1),vI p.kind,bn p.hs,bn p.fs,bn p.ls]]⟩:Ob):=af;generalize C' Y2 Yt (⟨44,5,[.agg [vI ((pre.length:Int)+1),vI p.kind,bn p.hs,bn p.fs,bn p.ls]]⟩:Ob)=X3 at*;obtain⟨PU,QW,Ts⟩:=Jo.Ef hB3.1;have Tb:∀(i:Nat) (Zx:ag),bo U Qb i≠none->Vc.bI Zx PU i=Zx i:=λi Zx hk=>by
     cases PU with
     |none=>rfl
     |some a=>exact dN (λe=>hk (by rw[e];exact(Ts a rfl).1))
    simp only[go_sem,seval,QW,dj a45,QD,VH];rw[aN];intro Sl f46;have f46:X3 Sl=none:=f46;have m46:Qb≠Sl:=al y3 f46;have f46':Vc.bI X3 PU Sl=none:=by
     cases PU with
     |none=>exact f46
     |some a=>simp only[Vc.bI,del];split<;>first|rfl|exact f46
    have y4:C' (Vc.bI X3 PU) Sl ⟨44,5,rows++[.agg [vI ((pre.length:Int)+1),vI p.kind,bn p.hs,bn p.fs,bn p.ls]]⟩ Qb=some ⟨39,1,[v]⟩:=by rw[ab m46,Tb _ _ k2];exact y3
    have hB9:=((hB3.D1 (e:=PU) λi h=>(Ts i h).2).new (o:=⟨44,5,rows++[.agg [vI ((pre.length:Int)+1),vI p.kind,bn p.hs,bn p.fs,bn p.ls]]⟩) f46').set (id:=Qb) (o:=⟨39,1,[v]⟩) (o':=⟨39,1,[.own Sl 0 (rows.length+1)]⟩) (by rw[ab m46,Tb _ _ k2];exact J10);simp only[go_sem,seval,Tv,y4,VH];refine⟨_,hB9,.own Sl 0 (rows.length+1),af,?_,?_⟩
    .refine aa.aD (λi o h=>?_) SS;have h1:=Js _ _ h;rw[ab (al (hB3.1 _ _ h1) f46),Tb _ _ (λhk=>by rw[(aL.1 hk).2]at h;cases h)];exact h1
    .refine aU.new (by simp) (by rw[ab m46.symm,af];rfl) ?_;rw[aL];refine⟨m46.symm,?_⟩;cases h:U Sl with
     |none=>rfl
     |some o=>rw[hB3.1 _ _ (Js _ _ h)]at f46;cases f46
  .rintro Z' ⟨v,P0,hs,Jo⟩;rw[du,jK]at Jo;have Tv:=Jo.vc.1;have Yz:=Jo.vc.2;have RN:=jm b.atoms;have VZ:=fP b.P6;have Tu:=hb.Un;have Tx:=hb.len;have rr:PY .i64 ((b.atoms.length:Int)+b.P6.length):=ar;refine ae.mix 12 ?_;apply sR;simp only[go_sem,seval,S8,Zb];refine ae.aC rfl rfl rfl (qP b hb.toBkFull _) ?_;apply sR;simp only[go_sem,seval,S8,Zb,ru];have hK:aa U Z':=hs;have hs:=aa.refl Z';refine ad λVW Y15 Vi SR f15=>?_;have Zz:=al P0 f15;replace P0:=Vi _ _ P0;have z15:=hs.none f15;replace hs:=hs.trans Vi;simp only[go_sem,seval,SR,P0,Zb,aq,ao,aO,aP];generalize Rs:C' _ VW _=Z15;replace SR:=(congrFun Rs VW).symm.trans af;replace P0:=((congrFun Rs Qb).symm.trans (ab Zz)).trans P0;replace hs:=Eq.subst (motive:=aa _) Rs (hs.aD z15);clear Rs;by_cases hz:(b.atoms.length:Int)+b.P6.length=0
   .have qz:((b.atoms.length:Int)+b.P6.length=0)=True:=PK hz;rw[aE hz]at hPR;simp only[go_sem,seval,SR,P0,Zb,RN,VZ,rr,qz,aq,ao,aO,aP];have a10':=P0;refine ad λi58 Z58 s58 a58 f58=>?_;have n1058:=al P0 f58;replace P0:=s58 _ _ P0;have z58:=hs.none f58;replace hs:=hs.trans s58;simp only[go_sem,seval,a58,P0,Zb,Tv,Yz];rw[hPR];have hs3:=(hK.trans hs).aD (id:=Qb) (o:=⟨39,1,[.own i58 0 1]⟩) SS;have m58:Qb≠i58:=al a10' f58;have hf:Fz (C' Z58 Qb ⟨39,1,[.own i58 0 1]⟩) (λid=>U id=none) (.PN [.own i58 0 1,vI 0]) (.PN [j0 [⟨1,3,[],[],[]⟩],vI 0]):=
     .PN _ _ (.cons _ _ _ _ (.own i58 0 1 ⟨44,5,[.agg [vI 1,vI 3,.aT,.aT,.aT]]⟩ _ ((ab m58.symm).trans a58) (hK.none z58) (by simp) (RM.one (.agg _ _ (.cons _ _ _ _ (.same _ rfl) (.cons _ _ _ _ (.same _ rfl) (.cons _ _ _ _ (.nil 7) (.cons _ _ _ _ (.nil 7) (.cons _ _ _ _ (.nil 7) .nil)))))))) (RM.same [vI 0] rfl))
    exact⟨_,U,hs3,hf.wk hs3 (λ_ h=>h),rfl,rfl⟩
   .have qz:((b.atoms.length:Int)+b.P6.length=0)=False:=PF hz;rw[aH hz]at hPR;simp only[go_sem,seval,SR,P0,Zb,RN,VZ,rr,qz,Tv,Yz,aq,ao,aO,aP];rw[hPR];have hf:Fz Z15 (λid=>U id=none) (.PN [v,vI 0]) (.PN [j0 (xM SH),vI 0]):=
     .PN _ _ (.cons _ _ _ _ ((Jo.mono hs).Hk (λid h=>(aL.1 h).2) (IC SH)) (RM.same [vI 0] rfl))
    exact⟨_,U,hK.trans hs,hf.wk (hK.trans hs) (λ_ h=>h),rfl,rfl⟩
  .intro id h;cases h
  .rintro pre Z' _ ⟨⟩
 .have q1:(gN l w h≠0)=True:=PK he;rw[aH he];apply sR;simp only[go_sem,seval,q1];exact av.pure hs rfl
def Eb{top shift body:Int}(L:List PI):(kF top shift body L).2.Sublist L:=by
 suffices key:∀(L L0:List PI) (x:List PI×List PI),x.2.Sublist L0->(L.foldl (λx f=>mS body x f (fZ top shift f)) x).2.Sublist (L0++L)from by have h:=key L [] ([],[]) (List.Sublist.refl _);rw[mo]at h;exact h
 intro L
 induction L with
 |nil=>intro L0 x h;simpa using h
 |cons f L ih=>
  intro L0 x h;rw[kf,show L0++f::L=(L0++[f])++L by simp];refine ih _ _ ?_;simp only[mS];split
  .exact h.append (List.Sublist.refl _)
  .exact h.trans (List.sublist_append_left _ _)
def D0{b:Bk}{s:PH}{to kept shift body:Int}:(fB b.atoms b.P6 s to kept shift body).2.Sublist b.P6:=by
 unfold fB;split
 .exact(Eb _).trans List.filter_sublist
 .exact List.nil_sublist _
structure Q3 where
 PX:Int
 Qo:Int
deriving DecidableEq
def Q3.lt(a b:Q3):Prop:=a.PX<b.PX\/a.PX=b.PX/\a.Qo<b.Qo
instance (a b:Q3):Decidable (a.lt b):=by unfold Q3.lt;infer_instance
def Q3.lt_irrefl(a:Q3):¬a.lt a:=by unfold Q3.lt;omega
def Q3.on(a:Q3)(r:Int):Q3:=⟨a.PX+1,a.Qo+r⟩
def Q3.ML{a b:Q3}(r:Int):(a.on r).lt (b.on r)↔a.lt b:=by unfold Q3.lt Q3.on;simp only;omega
section
variable {S:Type} (next:S->List S) (fin:S->Prop) [DecidablePred fin] (rank:S->Int) (dflt:S)
def l3:List (Q3×S)->Option (Q3×S)->Option (Q3×S)
 |[],o=>o
 |x::r,none=>l3 r (some x)
 |x::r,some y=>l3 r (if x.1.lt y.1 then some x else some y)
def eJ:Nat->S->Q3×S
 |0,_=>(⟨0,0⟩,dflt)
 |f+1,s=>if fin s then(⟨0,0⟩,dflt)else(l3 ((next s).map λt=>(((eJ f t).1).on (rank t),t)) none).getD (⟨0,0⟩,dflt)
def qE{S:Type}:∀(L:List (Q3×S)) (y:Q3×S),∃z,l3 L (some y)=some z/\(z=y/\(∀x∈L,¬x.1.lt y.1)\/∃A B,L=A++z::B/\z.1.lt y.1/\(∀x∈A,z.1.lt x.1)/\∀x∈B,¬x.1.lt z.1)
 |[],y=>⟨y,rfl,.inl ⟨rfl,λx h=>by cases h⟩⟩
 |x::r,y=>by
  rw[l3];by_cases hx:x.1.lt y.1
  .rw[aE hx];obtain⟨z,h1,h2⟩:=qE r x;refine⟨z,h1,.inr ?_⟩;rcases h2 with⟨rfl,h⟩|⟨A,B,rfl,h3,h4,h5⟩
   .exact⟨[],r,rfl,hx,(λw hw=>by cases hw),h⟩
   .refine⟨x::A,B,rfl,by unfold Q3.lt at*;omega,λw hw=>?_,h5⟩;rcases dc.1 hw with rfl|hw
    .exact h3
    .exact h4 w hw
  .rw[aH hx];obtain⟨z,h1,h2⟩:=qE r y;refine⟨z,h1,?_⟩;rcases h2 with⟨rfl,h⟩|⟨A,B,rfl,h3,h4,h5⟩
   .exact .inl ⟨rfl,λw hw=>(dc.1 hw).elim (λe=>e▸hx) (h w)⟩
   .refine .inr ⟨x::A,B,rfl,h3,λw hw=>?_,h5⟩;rcases dc.1 hw with rfl|hw
    .unfold Q3.lt at*;omega
    .exact h4 w hw
def BK{S:Type}{L:List (Q3×S)}(h:L≠[]):∃z A B,l3 L none=some z/\L=A++z::B/\(∀x∈A,z.1.lt x.1)/\∀x∈B,¬x.1.lt z.1:=by
 cases L with
 |nil=>exact absurd rfl h
 |cons x r=>
  obtain⟨z,h1,h2⟩:=qE r x;rw[l3];rcases h2 with⟨rfl,h⟩|⟨A,B,rfl,h3,h4,h5⟩
  .exact⟨z,[],r,h1,rfl,(λw hw=>by cases hw),h⟩
  .refine⟨z,x::A,B,h1,rfl,λw hw=>?_,h5⟩;rcases dc.1 hw with rfl|hw
   .exact h3
   .exact h4 w hw
def lx:S->List S->Prop
 |s,[]=>fin s
 |s,t::r=>¬fin s/\t∈next s/\lx t r
def fF:List S->Q3
 |[]=>⟨0,0⟩
 |t::r=>(fF r).on (rank t)
structure E9(V:S->Prop)(I:S->Nat)(key:S->Int):Prop where
 ne:∀s,V s->¬fin s->next s≠[]
 on:∀s,V s->¬fin s->∀t∈next s,V t/\I t<I s
 key:∀s,V s->¬fin s->(next s).Pairwise λa b=>key b<key a
variable {next fin rank dflt} {V:S->Prop} {I:S->Nat} {key:S->Int}
def rq(h:E9 next fin V I key):∀(f g:Nat) (s:S),V s->I s<f->I s<g->eJ next fin rank dflt f s=eJ next fin rank dflt g s
 |0,_,_,_,h1,_=>by omega
 |_+1,0,_,_,_,h2=>by omega
 |f+1,g+1,s,hv,h1,h2=>by
  rw[eJ,eJ];split
  .rfl
  .rename_i hf;congr 2;refine List.map_congr_left λt ht=>?_;obtain⟨v,m⟩:=h.on s hv hf t ht;rw[rq h f g t v (by omega) (by omega)]
def ra(h:E9 next fin V I key){F:Nat}{s:S}(hv:V s)(hF:I s<F)(hf:¬fin s):
 ∃A t B,next s=A++t::B/\eJ next fin rank dflt F s=((eJ next fin rank dflt F t).1.on (rank t),t)/\(∀x∈A,((eJ next fin rank dflt F t).1.on (rank t)).lt ((eJ next fin rank dflt F x).1.on (rank x)))/\∀x∈B,¬((eJ next fin rank dflt F x).1.on (rank x)).lt ((eJ next fin rank dflt F t).1.on (rank t)):=by
 have e:eJ next fin rank dflt F s=(l3 ((next s).map λt=>(((eJ next fin rank dflt F t).1).on (rank t),t)) none).getD (⟨0,0⟩,dflt):=by
  obtain⟨f,rfl⟩:∃f,F=f+1:=⟨F-1,by omega⟩
  rw[eJ,aH hf];congr 2;refine List.map_congr_left λt ht=>?_;obtain⟨v,m⟩:=h.on s hv hf t ht;rw[rq h f (f+1) t v (by omega) (by omega)]
 obtain⟨z,A,B,h1,h2,h3,h4⟩:=BK (L:=(next s).map λt=>(((eJ next fin rank dflt F t).1).on (rank t),t)) (by simpa using h.ne s hv hf);obtain⟨A',R,e1,e2,e3⟩:=List.map_eq_append_iff.1 h2;obtain⟨t,B',e4,e5,e6⟩:=List.map_eq_cons_iff.1 e3;subst e2 e5 e6;refine⟨A',t,B',by rw[e1,e4],by rw[e,h1];rfl,λx hx=>h3 _ (List.mem_map_of_mem hx),λx hx=>h4 _ (List.mem_map_of_mem hx)⟩
def uy(h:E9 next fin V I key){F:Nat}:∀(P:List S) (s:S),V s->I s<F->lx next fin s P->¬(fF rank P).lt (eJ next fin rank dflt F s).1
 |[],s,hv,hF,hp=>by
  obtain⟨f,rfl⟩:∃f,F=f+1:=⟨F-1,by omega⟩
  rw[eJ,aE (show fin s from hp)];exact Q3.lt_irrefl _
 |t::r,s,hv,hF,⟨hf,ht,hr⟩=>by
  obtain⟨A,z,B,e1,e2,e3,e4⟩:=ra (rank:=rank) (dflt:=dflt) h hv hF hf;obtain⟨v,m⟩:=h.on s hv hf t ht;have ih:=uy (F:=F) h r t v (by omega) hr;rw[e2,fF];show¬((fF rank r).on (rank t)).lt ((eJ next fin rank dflt F z).1.on (rank z));have ih':¬((fF rank r).on (rank t)).lt ((eJ next fin rank dflt F t).1.on (rank t)):=λg=>ih ((Q3.ML _).1 g);rw[e1]at ht;rcases ei.1 ht with g|g
  .have:=e3 t g;unfold Q3.lt at*;omega
  .rcases dc.1 g with rfl|g
   .exact ih'
   .have:=e4 t g;unfold Q3.lt at*;omega
def rI(next:S->List S)(fin:S->Prop)[DecidablePred fin](rank:S->Int)(dflt:S)(F:Nat):Nat->S->List S
 |0,_=>[]
 |f+1,s=>if fin s then[]else(eJ next fin rank dflt F s).2::rI next fin rank dflt F f (eJ next fin rank dflt F s).2
def wR(h:E9 next fin V I key){F:Nat}:∀(f:Nat) (s:S),V s->I s<f->I s<F->lx next fin s (rI next fin rank dflt F f s)/\fF rank (rI next fin rank dflt F f s)=(eJ next fin rank dflt F s).1
 |0,s,hv,hf,hF=>by omega
 |f+1,s,hv,hf,hF=>by
  rw[rI];by_cases he:fin s
  .rw[aE he];obtain⟨g,rfl⟩:∃g,F=g+1:=⟨F-1,by omega⟩
   refine⟨he,?_⟩;rw[eJ,aE he];rfl
  .rw[aH he];obtain⟨A,z,B,e1,e2,e3,e4⟩:=ra (rank:=rank) (dflt:=dflt) h hv hF he;have hz:z∈next s:=by rw[e1];simp
   obtain⟨v,m⟩:=h.on s hv he z hz;have e5:(eJ next fin rank dflt F s).2=z:=by rw[e2]
   rw[e5];obtain⟨i1,i2⟩:=wR (F:=F) h f z v (by omega) (by omega);exact⟨⟨he,hz,i1⟩,by rw[fF,i2,e2]⟩
end
def bQ(b:Bk)(s:PH):Int:=lq b.atoms s (iz b.atoms s (bw b s).body) 0 (bw b s).body
def iG(b:Bk)(k:Nat):PH:=⟨k,0,decide ((Rz b.PQ k).forced≠0)⟩
def bE(b:Bk)(s:PH):List PH:=
 if bQ b s<=s.atom then[dI b.atoms s (bw b s).body]
 else if fa b.PQ (s.atom+1) (bQ b s)>=0 then[iG b (fa b.PQ (s.atom+1) (bQ b s)).toNat]
 else(List.range (bQ b s-s.atom).toNat).map λi=>iG b ((bQ b s).toNat-i)
def bY(b:Bk)(s:PH):Prop:=s.atom>=b.atoms.length
instance (b:Bk):DecidablePred (bY b):=λs=>by unfold bY;infer_instance
def eU(b:Bk)(s:PH):Prop:=cM b.atoms s\/s.atom=b.atoms.length/\s.done=0
def VM(b:Bk)(s:PH):Nat:=((b.atoms.length-s.atom)*1152921504606846976+(1152921504606846976-s.done)).toNat
def qs{b:List RX}{i fit:Int}(h0:0<=i)(hf:fit<=(b.length:Int)-1)(h:fa b (i+1) fit>=0):i<fa b (i+1) fit/\fa b (i+1) fit<=fit:=by
 unfold fa at*;rcases l6 ((UK b (i+1) fit).map (kO b)) uT with⟨e,-⟩|⟨L,x,R,e1,-,-,e4⟩
 .rw[e]at h;simp[uT]at h
 .rw[e4]at h|-;have hx:x∈(UK b (i+1) fit).map (kO b):=by rw[e1];simp
  obtain⟨k,hk,rfl⟩:=fM.1 hx;unfold UK sW at hk;have:=List.mem_range'_1.1 hk;show i<((k:Nat):Int)/\((k:Nat):Int)<=fit;omega
def cq{b:Bk}(hb:bU b):E9 (bE b) (bY b) (eU b) (VM b) (·.atom):=by
 have hlen:=hb.WL;have hH:∀s:PH,cM b.atoms s->(R8 b.atoms s.atom).h<=18014398509481984/\0<(R8 b.atoms s.atom).h:=λs hm=>by
  obtain⟨k',Q8⟩:∃k':Nat,s.atom=k':=⟨s.atom.toNat,by have:=hm.1;omega⟩
  have Q6:k'<b.atoms.length:=by have:=hm.1;omega
  rw[Q8,bG Q6];exact⟨(hb.tight _ (QL Q6)).2.2.2,by have:=hb.pos _ (QL Q6);omega⟩
 have hmf:∀s,eU b s->¬bY b s->cM b.atoms s:=λs hv hf=>hv.resolve_right λg=>hf (by unfold bY;omega);have Ug:∀(s:PH) (k:Nat),cM b.atoms s->s.atom<k->k<=b.atoms.length->eU b (iG b k)/\VM b (iG b k)<VM b s:=λs k hm h1 h2=>by
  have hd:=hH s hm;have hm2:=hm.2;have U9:=hm.1;constructor
  .unfold eU iG cM;simp only;rcases Nat.lt_or_ge k b.atoms.length with h|h
   .left;exact⟨⟨by omega,by omega⟩,Int.le_refl _,.inl trivial⟩
   .right;exact⟨by omega,trivial⟩
  .unfold VM iG;simp only;omega
 have TD:∀(s:PH),cM b.atoms s->eU b (dI b.atoms s (bw b s).body)/\VM b (dI b.atoms s (bw b s).body)<VM b s:=λs hm=>by
  have hd:=hH s hm;have YJ:=j4 hb.toBkFull s hm.1.1;have hm2:=hm.2;have U9:=hm.1;unfold dI;rw[aE (show pY b.atoms s (bw b s).body from⟨hm,YJ⟩)];have e1:(eE b.atoms s (bw b s).body).atom=s.atom:=rfl;have e2:(eE b.atoms s (bw b s).body).fr=s.done:=rfl;have e3:(eE b.atoms s (bw b s).body).h=min ((R8 b.atoms s.atom).h-s.done) (bw b s).body:=rfl;unfold jw;rw[e1,e2,e3];split
  .rename_i H';constructor
   .left;refine⟨U9,?_,.inr H'⟩;show 0<=s.done+min ((R8 b.atoms s.atom).h-s.done) (bw b s).body;omega
   .unfold VM;simp only;omega
  .constructor
   .unfold eU cM;simp only;rcases Int.lt_or_le (s.atom+1) b.atoms.length with h|h
    .left;exact⟨⟨by omega,h⟩,Int.le_refl _,.inl trivial⟩
    .right;exact⟨by omega,trivial⟩
   .unfold VM;simp only;omega
 have hre:∀s,cM b.atoms s->bQ b s<=b.atoms.length:=λs hm=>by
  obtain⟨u,u1,-,u3,-⟩:=kg hb.R4 hb.pos hm (iz b.atoms s (bw b s).body) 0 (bw b s).body;unfold bQ;rw[u1];omega
 refine⟨λs hv hf=>?_,λs hv hf t ht=>?_,λs hv hf=>?_⟩
 .unfold bE;split
  .simp
  .split
   .simp
   .rename_i h1 h2;have:=(hmf s hv hf).1;intro e;have:=congrArg List.length e;simp at this;omega
 .have hm:=hmf s hv hf;have hr:=hre s hm;have U9:=hm.1;unfold bE at ht;split at ht
  .rw[iW.1 ht];exact TD s hm
  .split at ht
   .rename_i h1 h2;have:=qs U9.1 (by omega) h2;rw[iW.1 ht];exact Ug s _ hm (by omega) (by omega)
   .rename_i h1 h2;obtain⟨i,hi,rfl⟩:=fM.1 ht;have:=List.mem_range.1 hi;exact Ug s _ hm (by omega) (by omega)
 .have hm:=hmf s hv hf;have U9:=hm.1;unfold bE;split
  .simp
  .split
   .simp
   .rw[List.pairwise_map];refine List.Pairwise.imp_of_mem ?_ (List.pairwise_lt_range (n:=(bQ b s-s.atom).toNat));intro i j hi hj YZ;have:=List.mem_range.1 hi;have:=List.mem_range.1 hj;show(((bQ b s).toNat-j:Nat):Int)<(((bQ b s).toNat-i:Nat):Int);omega
instance:DecidableEq PH:=λa b=>decidable_of_iff (a.atom=b.atom/\a.done=b.done/\a.free=b.free) (by cases a;cases b;simp)
def bN(b:Bk)(t:PH):Int:=if t.done>0 then 0 else(Rz b.PQ t.atom.toNat).rank
def iT(b:Bk):PH->Q3->List PH->Option Q3
 |a,c,[]=>if c.PX=0 then(if(b.atoms.length:Int)=0 then some ⟨0,0⟩else none)else if(bE b a).any (λt=>decide (bY b t))then some c else none
 |a,c,s::r=>if bY b a\/bY b s\/s≠a/\c.PX=0 then none
  else if c.PX>0 then(if s∈bE b a then iT b s ⟨c.PX+1,c.Qo+bN b s⟩ r else none)else iT b s ⟨c.PX+1,c.Qo⟩ r
def lY(b:Bk)(l:List PH):Option Q3:=iT b ⟨0,0,true⟩ ⟨0,0⟩ l
def Dy{b:Bk}(hb:bU b):(Rz b.PQ b.atoms.length).rank=0:=by
 have hl:=hb.WL;have hm:=hb.mayb;unfold sQ at hm;rw[Ba,fv]at hm;have h:=hm.1 b.atoms.length (List.mem_range.2 (by omega));unfold gw at h;rw[Sp,Rt (show((b.atoms.length:Nat):Int)=(b.PQ.length:Int)-1 by omega)]at h;unfold mA at h;obtain⟨h1,h2,-,-,h5⟩:=h;rcases h5 with h5|⟨h5,-,-,-⟩
 .exact h5
 .by_cases h0:((b.atoms.length:Nat):Int)=0
  .have:=h1 (Rt h0);omega
  .have:=h2 (Rv h0) rfl;omega
def Ai{b:Bk}(hb:bU b){e:PH}(hv:eU b e)(hf:bY b e):bN b e=0:=by
 unfold bY at hf;rcases hv with h|h
 .have:=h.1.2;omega
 .unfold bN;rw[aH (by omega),show e.atom.toNat=b.atoms.length by omega];exact Dy hb
def wE{b:Bk}(hb:bU b):∀(P:List PH) (s:PH) (c:Q3),1<=c.PX->eU b s->¬bY b s->lx (bE b) (bY b) s P->iT b s c P.dropLast=some ⟨c.PX+P.length-1,c.Qo+(fF (bN b) P).Qo⟩
 |[],s,c,_,_,hf,hp=>absurd hp hf
 |[e],s,c,h1,hv,hf,⟨_,he,hfe⟩=>by
  have hg:=(cq hb).on s hv hf e he;have hr:=Ai hb hg.1 (show bY b e from hfe);have ha:(bE b s).any (λt=>decide (bY b t))=true:=Ic.2 ⟨e,he,Rt (show bY b e from hfe)⟩;rw[List.dropLast_singleton,iT,aH (by omega),aE ha];simp only[fF,Q3.on,hr,List.length_singleton];cases c;simp
 |t::u::r,s,c,h1,hv,hf,⟨_,ht,hp⟩=>by
  have hg:=(cq hb).on s hv hf t ht;have hft:¬bY b t:=hp.1;rw[List.dropLast_cons₂,iT,aH (by rintro(h|h|h);exact hf h;exact hft h;omega),aE (by omega),aE ht,wE hb (u::r) t _ (by simp only;omega) hg.1 hft hp]
  simp only[fF,Q3.on,Q4];congr 2
  .omega
  .omega
def mf(rank:PH->Int):∀P:List PH,(fF rank P).PX=P.length
 |[]=>rfl
 |t::r=>by simp only[fF,Q3.on,mf rank r,Q4];omega
def Ea{b:Bk}(hb:bU b){P:List PH}(hp:lx (bE b) (bY b) ⟨0,0,true⟩ P):lY b ((⟨0,0,true⟩:PH)::P).dropLast=some (fF (bN b) P):=by
 unfold lY;cases P with
 |nil=>
  have h0:bY b ⟨0,0,true⟩:=hp;unfold bY at h0;simp only at h0;rw[List.dropLast_singleton,iT,aE rfl,aE (by omega)];rfl
 |cons t r=>
  have hf:¬bY b ⟨0,0,true⟩:=hp.1;have h0:=hf;unfold bY at h0;simp only at h0;have hv:eU b ⟨0,0,true⟩:=.inl ⟨⟨Int.le_refl _,by simp only;omega⟩,Int.le_refl _,.inl rfl⟩;rw[List.dropLast_cons₂,iT,aH (by rintro(h|h|h);exact hf h;exact hf h;exact h.1 rfl),aH (by simp),wE hb (t::r) _ _ (by simp) hv hf hp]
  have:=mf (bN b) (t::r);generalize fF (bN b) (t::r)=x at*;cases x;simp only at*;simp only[bf,Q3.mk.injEq];omega
def jy(b:Bk)(on:PH->PH):Nat->PH->List PH
 |0,_=>[]
 |f+1,s=>if bY b s then[]else s::jy b on f (on s)
def onK(b:Bk)(on:PH->PH):Nat->PH->List PH
 |0,_=>[]
 |f+1,s=>if bY b s then[]else on s::onK b on f (on s)
def xT{b:Bk}(hb:bU b){on:PH->PH}(QU:∀s,eU b s->¬bY b s->on s∈bE b s):∀(f:Nat) (s:PH),eU b s->VM b s<f->lx (bE b) (bY b) s (onK b on f s)/\jy b on f s=(s::onK b on f s).dropLast
 |0,s,_,h=>by omega
 |f+1,s,hv,h=>by
  rw[onK,jy];by_cases hf:bY b s
  .rw[aE hf,aE hf];exact⟨hf,rfl⟩
  .rw[aH hf,aH hf];obtain⟨v,m⟩:=(cq hb).on s hv hf _ (QU s hv hf);obtain⟨i1,i2⟩:=xT hb QU f (on s) v (by omega);exact⟨⟨hf,QU s hv hf,i1⟩,by rw[i2,List.dropLast_cons₂]⟩
def lL(rank:PH->Int):List PH->PH->PH
 |[],m=>m
 |x::r,m=>lL rank r (if rank x<rank m then x else m)
def AX(rank:PH->Int):∀(L:List PH) (m:PH),lL rank L m=m\/lL rank L m∈L
 |[],m=>.inl rfl
 |x::r,m=>by
  rw[lL];rcases AX rank r (if rank x<rank m then x else m)with h|h
  .rw[h];split
   .exact .inr (by simp)
   .exact .inl rfl
  .exact .inr (by simp[h])
def cS(b:Bk)(s:PH):PH:=match bE b s with
 |[]=>⟨0,0,false⟩
 |x::r=>lL (bN b) r x
def l5{b:Bk}(hb:bU b)(s:PH)(hv:eU b s)(hf:¬bY b s):cS b s∈bE b s:=by
 have hn:=(cq hb).ne s hv hf;unfold cS;cases h:bE b s with
 |nil=>exact absurd h hn
 |cons x r=>
  simp only;rcases AX (bN b) r x with g|g
  .rw[g];simp
  .simp[g]
def fL(b:Bk)(hb:bU b):eU b ⟨0,0,true⟩:=by
 unfold eU cM;simp only;by_cases h:0<b.atoms.length
 .left;exact⟨⟨Int.le_refl _,by omega⟩,Int.le_refl _,.inl trivial⟩
 .right;exact⟨by omega,trivial⟩
def gS:Nat:=2000000000000000000000000000
def qQ{b:Bk}(hb:bU b):VM b ⟨0,0,true⟩<gS:=by
 have:=hb.len;unfold VM gS;simp only;omega
def dD(b:Bk)(s:PH):Q3×PH:=eJ (bE b) (bY b) (bN b) ⟨0,0,false⟩ gS s
def AJ(b:Bk):List PH:=jy b (λs=>(dD b s).2) gS ⟨0,0,true⟩
def eL(b:Bk):List PH:=jy b (cS b) gS ⟨0,0,true⟩
def zq{b:Bk}(hb:bU b):∃P,lx (bE b) (bY b) ⟨0,0,true⟩ P/\eL b=((⟨0,0,true⟩:PH)::P).dropLast/\lY b (eL b)=some (fF (bN b) P)/\¬(fF (bN b) P).lt (dD b ⟨0,0,true⟩).1:=by
 obtain⟨h1,h2⟩:=xT hb (l5 hb) gS ⟨0,0,true⟩ (fL b hb) (qQ hb);refine⟨_,h1,h2,?_,?_⟩
 .unfold eL;rw[h2,Ea hb h1]
 .exact uy (rank:=bN b) (dflt:=(⟨0,0,false⟩:PH)) (cq hb) _ _ (fL b hb) (qQ hb) h1
def oK{b:Bk}(QR:∀a∈b.atoms,1<=a.h):∀(n k:Nat),k+n<=b.atoms.length->dO b (k+n)<=dO b k
 |0,k,_=>Int.le_refl _
 |n+1,k,h=>by
  have h1:=kC (b:=b) (show k+n<b.atoms.length by omega);have h2:=QR _ (QL (show k+n<b.atoms.length by omega));have h3:=oK QR n k (by omega);rw[show k+(n+1)=k+n+1 by omega];omega
def jk(b:Bk)(L:Int)(s:PH):Int:=(b.atoms.length-s.atom)*L+dO b s.atom.toNat-s.done
def tV{b:Bk}(hb:bU b){L:Int}(hL:fQ b L){s t:PH}(hv:eU b s)(hf:¬bY b s)(ht:t∈bE b s):jk b L t+L<=jk b L s:=by
 have hm:cM b.atoms s:=hv.resolve_right λg=>hf (by unfold bY;omega);have U9:=hm.1;have hm2:=hm.2;have hL1:=hL.pos;have P':b.atoms≠[]:=λh=>by rw[h]at U9;simp at U9;omega
 have YJ:=hL.body s U9.1 P';obtain⟨k,hk⟩:∃k:Nat,s.atom=k:=⟨s.atom.toNat,by omega⟩
 have Q6:k<b.atoms.length:=by omega
 have Qi:=kC Q6;have Yc:=hb.pos _ (QL Q6);have hg:(R8 b.atoms s.atom).h=b.atoms[k].h:=by rw[hk,bG Q6]
 have Ug:∀c:Nat,s.atom<c->c<=b.atoms.length->jk b L (iG b c)+L<=jk b L s:=λc h1 h2=>by
  have h3:=oK hb.pos (c-(k+1)) (k+1) (by omega);rw[show k+1+(c-(k+1))=c by omega]at h3;have h4:((b.atoms.length:Int)-c)*L+L<=(b.atoms.length-s.atom)*L:=by
   have:((b.atoms.length:Int)-c)*L+L=(b.atoms.length-c+1)*L:=by rw[Int.add_mul,Int.one_mul]
   rw[this];exact Int.mul_le_mul_of_nonneg_right (by omega) (by omega)
  unfold jk iG;simp only;rw[show((c:Int)).toNat=c by omega,show s.atom.toNat=k by omega];omega
 have hre:bQ b s<=b.atoms.length:=by
  obtain⟨u,u1,-,u3,-⟩:=kg hb.R4 hb.pos hm (iz b.atoms s (bw b s).body) 0 (bw b s).body;unfold bQ;rw[u1];omega
 have hlen:=hb.WL;unfold bE at ht;split at ht
 .rw[iW.1 ht];unfold dI;rw[aE (show pY b.atoms s (bw b s).body from⟨hm,by omega⟩)];have e1:(eE b.atoms s (bw b s).body).atom=s.atom:=rfl;have e2:(eE b.atoms s (bw b s).body).fr=s.done:=rfl;have e3:(eE b.atoms s (bw b s).body).h=min ((R8 b.atoms s.atom).h-s.done) (bw b s).body:=rfl;unfold jw;rw[e1,e2,e3];split
  .unfold jk;simp only;omega
  .have:=Ug (k+1) (by omega) (by omega);unfold jk iG at this;unfold jk;simp only at this|-;rw[show(((k+1:Nat):Int)).toNat=k+1 by omega]at this;rw[show(s.atom+1).toNat=k+1 by omega,show s.atom+1=((k+1:Nat):Int) by omega];exact this
 .split at ht
  .rename_i h1 h2;have:=qs U9.1 (by omega) h2;rw[iW.1 ht];exact Ug _ (by omega) (by omega)
  .rename_i h1 h2;obtain⟨i,hi,rfl⟩:=fM.1 ht;have:=List.mem_range.1 hi;exact Ug _ (by omega) (by omega)
def tL{b:Bk}(hb:bU b){L:Int}(hL:fQ b L):∀(P:List PH) (s:PH),eU b s->lx (bE b) (bY b) s P->(P.length:Int)*L<=jk b L s
 |[],s,hv,hp=>by
  have hL1:=hL.pos;have h0:0<=jk b L s:=by
   have hf:s.atom>=b.atoms.length:=hp;rcases hv with h|h
   .have:=h.1;omega
   .unfold jk;rw[h.1,h.2,Int.sub_self,Int.zero_mul];have:=jU hb.pos (b:=b) b.atoms.length;rw[show((b.atoms.length:Int)).toNat=b.atoms.length by omega];omega
  simpa using h0
 |t::r,s,hv,⟨hf,ht,hp⟩=>by
  have hg:=(cq hb).on s hv hf t ht;have ih:=tL hb hL r t hg.1 hp;have hs:=tV hb hL hv hf ht;have:((t::r).length:Int)*L=r.length*L+L:=by
   rw[Q4,show(((r.length+1:Nat)):Int)=(r.length:Int)+1 by omega,Int.add_mul,Int.one_mul]
  omega
def tH{b:Bk}(hb:bU b){L:Int}(hL:fQ b L){s:PH}(hv:eU b s):0<=jk b L s:=by
 have hL1:=hL.pos;have hr:=jU hb.pos (b:=b);rcases hv with h|h
 .have h1:=h.1;have h2:=h.2;obtain⟨k,hk⟩:∃k:Nat,s.atom=k:=⟨s.atom.toNat,by omega⟩
  have Q6:k<b.atoms.length:=by omega
  have Qi:=kC Q6;have hnn:=hr (k+1);have hg:(R8 b.atoms s.atom).h=b.atoms[k].h:=by rw[hk,bG Q6]
  have Yc:=hb.pos _ (QL Q6);have hm:0<=((b.atoms.length:Int)-s.atom)*L:=Int.mul_nonneg (by omega) (by omega);unfold jk;rw[show s.atom.toNat=k by omega];omega
 .unfold jk;rw[h.1,h.2,Int.sub_self,Int.zero_mul];have:=hr b.atoms.length;rw[show((b.atoms.length:Int)).toNat=b.atoms.length by omega];omega
def okP(b:Bk)(s:PH):Prop:=s.free=true->s.done=0/\(s.atom=0\/(Rz b.PQ s.atom.toNat).forced≠0)
def HV{b:Bk}{s t:PH}(ht:t∈bE b s):okP b t:=by
 have hc:∀k,okP b (iG b k):=λk h=>by
  unfold iG at h|-;simp only[Sp]at h;exact⟨rfl,.inr h⟩
 unfold bE at ht;split at ht
 .rw[iW.1 ht];intro h;exfalso;revert h;unfold dI jw
  (repeat' split)<;>simp
 .split at ht
  .rw[iW.1 ht];exact hc _
  .obtain⟨i,-,rfl⟩:=fM.1 ht;exact hc _
def jI(l:List Nd):Nat:=(l.map λx=>x.words.length).sum
def Dd(l:List Nd):Q9 l 0 l.length=4*l.length+jI l:=by
 unfold Q9 jI;rw[zM,jK]
 induction l with
 |nil=>rfl
 |cons x l ih=>simp only[eD,List.sum_cons,Q4];omega
def Ij{l:List Nd}(hl:ed l){w h:Int}(he:gN l w h=0)(h60:l.length<=60)(hw:jI l<=300)(hH:(ew l).2≠0\/(ew l).1.L'.tdiv (max (cU l h) 1)<300):
 jk (bJ l w h) (cU l h) ⟨0,0,true⟩<((2000:Nat):Int)*cU l h:=by
 have hL:=(ju he).pos;obtain⟨ZM,SZ,hc⟩:=nH he;obtain⟨Rx,hn,-,-⟩:=vG hc;have hG:=(uI Rx hn ZM.1 ZM.2).len;have h1:dO (bJ l w h) 0=U6 (di l w).atoms:=rfl;have h2:=F6 Rx hn ZM.1 ZM.2;have h3:(ew l).1.L'<=1099511627776:=by
  unfold ia at hc;rw[aE Rx]at hc;split at hc
  .cases hc
  .omega
 have h4:=uQ Rx h3;have h5:(ew l).2=0:=by unfold ew;rw[aE Rx]
 have h6:=hH.resolve_left λk=>k h5;have h0:0<=(ew l).1.L':=by
  unfold ew;rw[aE Rx];exact(pA Rx (s:=⟨0,0,l.length,0⟩) ⟨Int.le_refl _,(by decide:(0:Int)<=1099511627777)⟩ l.length (Qt _)).1
 rw[show max (cU l h) 1=cU l h by omega,Int.tdiv_eq_ediv_of_nonneg h0,Int.ediv_lt_iff_lt_mul (by omega)]at h6;rw[Dd]at hG;have e:(bJ l w h).atoms=(di l w).atoms:=rfl;unfold jk;simp only[Int.toNat_zero,h1,e,Int.sub_zero];generalize cU l h=L at*;have hm:((di l w).atoms.length:Int)*L<=540*L:=Int.mul_le_mul_of_nonneg_right (by omega) (by omega);omega
def pO{b:Bk}(hb:bU b)(t:PH):0<=bN b t/\bN b t<=7:=by
 have hm:=hb.mayb;unfold sQ at hm;rw[Ba,fv]at hm;unfold bN;split
 .omega
 .rcases Nat.lt_or_ge t.atom.toNat b.PQ.length with h|h
  .have h:=hm.1 t.atom.toNat (List.mem_range.2 h);unfold gw at h;rw[Sp]at h;unfold mA at h;obtain⟨-,-,-,-,h5⟩:=h;omega
  .have e:Rz b.PQ t.atom.toNat=⟨0,0,0⟩:=by unfold Rz;rw[uG,rC h];rfl
   rw[e];simp
def uV{S:Type}{rank:S->Int}(h:∀t,0<=rank t/\rank t<=7):∀P:List S,0<=(fF rank P).Qo/\(fF rank P).Qo<=7*P.length
 |[]=>by simp[fF]
 |t::r=>by
  have h1:=uV h r;have h2:=h t;simp only[fF,Q3.on,Q4];omega
def tt{b:Bk}(hb:bU b){s:PH}(hv:eU b s):VM b s<gS:=by
 have:=hb.len;have h0:0<=s.done/\0<=s.atom:=by
  rcases hv with h|h
  .exact⟨h.2.1,h.1.1⟩
  .omega
 unfold VM gS;omega
def FH{b:Bk}(hb:bU b){L:Int}(hL:fQ b L){s:PH}(hv:eU b s):
 0<=(dD b s).1.PX/\(dD b s).1.PX<=100000/\0<=(dD b s).1.Qo/\(dD b s).1.Qo<=700000:=by
 have hg:=wR (rank:=bN b) (dflt:=(⟨0,0,false⟩:PH)) (cq hb) (F:=gS) gS s hv (tt hb hv) (tt hb hv);obtain⟨h1,h2⟩:=hg;have h3:=tL hb hL _ _ hv h1;have h4:=mf (bN b) (rI (bE b) (bY b) (bN b) ⟨0,0,false⟩ gS gS s);have h5:=uV (pO hb) (rI (bE b) (bY b) (bN b) ⟨0,0,false⟩ gS gS s);rw[h2]at h4 h5;have hL1:=hL.pos;have h0:0<=s.done/\0<=s.atom/\s.atom<=b.atoms.length:=by
  rcases hv with h|h
  .exact⟨h.2.1,h.1.1,by have:=h.1.2;omega⟩
  .omega
 have hr:dO b s.atom.toNat<=dO b 0:=by
  have:=oK hb.pos (b:=b) s.atom.toNat 0 (by omega)
  rwa [kI]at this
 have Ss:=hL.rest;have hna:=hL.na;have hm:((b.atoms.length:Int)-s.atom)*L<=10000*L:=Int.mul_le_mul_of_nonneg_right (by omega) (by omega);unfold jk at h3;have hlen:((rI (bE b) (bY b) (bN b) ⟨0,0,false⟩ gS gS s).length:Int)<=42768:=by
  refine Decidable.byContradiction λhc=>?_;have:=Int.mul_le_mul_of_nonneg_right (show(42769:Int)<=((rI (bE b) (bY b) (bN b) ⟨0,0,false⟩ gS gS s).length:Int) by omega) (show 0<=L by omega);omega
 unfold dD;omega
def pB(b:Bk)(s:PH):List (Q3×PH):=(bE b s).map λt=>((dD b t).1.on (bN b t),t)
def EI{b:Bk}{s:PH}(hf:bY b s):dD b s=(⟨0,0⟩,⟨0,0,false⟩):=by
 unfold dD;rw[show gS=1999999999999999999999999999+1 from rfl,eJ,aE hf]
def Eh{b:Bk}(hb:bU b){s:PH}(hv:eU b s)(hf:¬bY b s):dD b s=(l3 (pB b s) none).getD (⟨0,0⟩,⟨0,0,false⟩):=by
 unfold dD pB;obtain⟨f,hF⟩:∃f,gS=f+1:=⟨1999999999999999999999999999,rfl⟩
 have e:eJ (bE b) (bY b) (bN b) ⟨0,0,false⟩ gS s=eJ (bE b) (bY b) (bN b) ⟨0,0,false⟩ (f+1) s:=by rw[hF]
 rw[e,eJ,aH hf];congr 2;refine List.map_congr_left λt ht=>?_;obtain⟨v,m⟩:=(cq hb).on s hv hf t ht;have h1:=tt hb hv;rw[rq (rank:=bN b) (dflt:=(⟨0,0,false⟩:PH)) (cq hb) f gS t v (by omega) (by omega)];rfl
open Go.RowKit
variable {P:Program} {n:Nat} {st:St} {Q:St->Prop} {k:List It} {I:Mu} {w:World}
def tM{α:Type}{f:α->α}:∀(l:List α) (j:Nat) (x:α),l[j]?=some x->l.modify j f=l.set j (f x)
 |[],j,x,h=>by simp at h
 |y::l,0,x,h=>by simp at h;subst h;rfl
 |y::l,j+1,x,h=>by
  have:=tM (f:=f) l j x (by simpa using h);rw[List.modify_succ_cons,List.set_cons_succ,this]
open Go.RowKit
variable {P:Program} {n:Nat} {st:St} {Q:St->Prop} {k:List It}
def TS(P:Program)(n:Nat)(i:aK)(x:St)(K:St->Prop):Prop:=i.op≠.bad/\bB x.s i.g=some true/\
 ∀(F:Fr),F.n=n->∀(I:Mu) (a:Act) (w:World) (o:Oper) (all:Array Oper),bT P n all o=i->dh F I x a w->
  ∀(next:Act->World->Prop) (Q':Exit->Act->World->Prop),(∀Sh a' w',eG F Sh a' w'->K Sh->next a' w')->o.wp P a w next Q'
def XT(P:Program)(n:Nat)(sp:List Nat)(m:Nat)(i:aK)(x:St)(K:St->Prop):Prop:=T P i x K\/m∈sp/\TS P n i x K
variable {sp:List Nat}
def XT.mono{m:Nat}{i:aK}{x:St}{K K':St->Prop}(hk:∀x,K x->K' x)(h:XT P n sp m i x K):XT P n sp m i x K':=by
 rcases h with h|⟨h1,h2,h3,h4⟩
 .exact .inl (h.mono hk)
 .exact .inr ⟨h1,h2,h3,λF hn I a w o all hi hs next Q' PL=>h4 F hn I a w o all hi hs next Q' λSh a' w' PZ hq=>PL _ _ _ PZ (hk _ hq)⟩
def XT.inf{m:Nat}{i:aK}{x:St}{K:St->Prop}(hi:T' x.U)(h:XT P n sp m i x K):XT P n sp m i x λx'=>T' x'.U/\K x':=by
 rcases h with h|⟨h1,h2,h3,h4⟩
 .exact .inl (h.inf hi)
 .exact .inr ⟨h1,h2,h3,λF hn I a w o all hi hs next Q' PL=>h4 F hn I a w o all hi hs next Q' λSh a' w' PZ hq=>PL _ _ _ PZ ⟨PZ.inf,hq⟩⟩
def chB(l:List aK):Nat->Nat->Nat->Bool
 |0,_,_=>false
 |f+1,i,j=>match l[i]?,l[j]? with
  |some a,some b=>!iH a b||(List.range l.length).any λk=>decide (i<k)&&(decide (k<j)&&((match l[k]? with
   |some c=>!iH a c
   |none=>false)&&chB l f k j))
  |_,_=>false
def EJ(l:List aK)(sp:List Nat):Bool:=sp.all λm=>(List.range l.length).all λi=>decide (i=m)||(decide (i<m)&&chB l 8 i m||decide (m<i)&&chB l 8 m i)
def DJ(P:Program)(n:Nat)(ops:Array Oper)(k:Nat):Prop:=∀i j oi oj,k<=i->i<j->ops[i]?=some oi->ops[j]?=some oj->((Region.before ops).getD j 0).testBit i=true\/iH (bT P n ops oi) (bT P n ops oj)=true
def GN{ops:Array Oper}:∀(m k:Nat) (g':Array Bool),m+k=ops.size->(∀j,k<=j->j<ops.size->g'.getD j true=false)->v8 P n ops m k g'=true->DJ P n ops k
 |0,k,g',hm,_,_=>λi j oi oj h1 h2 h3 h4=>by
  have:=(mT.1 h3).1;omega
 |m+1,k,g',hm,hl,h=>λi j oi oj h1 h2 h3 h4=>by
  simp only[v8,Ba]at h;obtain⟨⟨_,hf⟩,hB⟩:=h;have hj:=(mT.1 h4).1;by_cases hik:i=k
  .subst hik;cases hb:((Region.before ops).getD j 0).testBit i with
   |true=>exact .inl rfl
   |false=>exact .inr (me h3 hf j oj h4 (by omega) (hl j (by omega) hj) hb)
  .exact GN m (k+1) _ (by omega) (λj' h5 h6=>by rw[getD_set_ne true (by omega)];exact hl j' (by omega) h6) hB i j oi oj (by omega) h2 h3 h4
def yH{a:Array Bool}{i:Nat}(h:a.getD i false=true):a.getD i true=true:=by
 rw[Tf]at h|-;cases hi:a[i]? with
 |none=>rfl
 |some b=>rw[hi]at h;exact h
def oZ{ops:Array Oper}{g':Array Bool}(QG:iI ops g')(hG:DJ P n ops 0):∀(f i j:Nat) (oj:Oper),i<j->ops[j]?=some oj->(∀e∈oj.after,Region.binds .any e=true->g'.getD e.on false=true)->
 chB (ops.toList.map (bT P n ops)) f i j=true->g'.getD i false=true
 |0,_,_,_,_,_,_,h=>by cases h
 |f+1,i,j,oj,YZ,TG,Qz,h=>by
  have get:∀(m:Nat) (om:Oper),ops[m]?=some om->(ops.toList.map (bT P n ops))[m]?=some (bT P n ops om):=λm om hm=>by
   rw[ph,Array.getElem?_toList,hm];rfl
  have Ta:=(mT.1 TG).1;obtain⟨oi,hoi⟩:∃o,ops[i]?=some o:=⟨ops[i]'(by omega),Array.getElem?_eq_getElem (by omega)⟩
  have key:∀(k:Nat) (ok:Oper),i<k->ops[k]?=some ok->(∀e∈ok.after,Region.binds .any e=true->g'.getD e.on false=true)->iH (bT P n ops oi) (bT P n ops ok)=false->g'.getD i false=true:=λk ok hk P5 Tx hp=>by
   rcases hG i k oi ok (Nat.zero_le _) hk hoi P5 with hb|hb
   .exact kT QG k ok i P5 hb Tx
   .rw[hp]at hb;cases hb
  simp only[chB,get i oi hoi,get j oj TG,kJ,Bool.not_eq_true']at h;rcases h with h|h
  .exact key j oj YZ TG Qz h
  .obtain⟨k,_,hk⟩:=Ic.1 h;simp only[Ba,Sp]at hk;obtain⟨h1,h2,h3,h4⟩:=hk;obtain⟨ok,P5⟩:∃o,ops[k]?=some o:=⟨ops[k]'(by omega),Array.getElem?_eq_getElem (by omega)⟩
   have Q6:=oZ QG hG f k j oj h2 TG Qz h4;rw[get k ok P5]at h3;exact key k ok h1 P5 (QG k ok P5 (yH Q6)) (by simpa using h3)
def uJ{ops:Array Oper}{g':Array Bool}(QG:iI ops g')(hG:DJ P n ops 0)(Ue:EJ (ops.toList.map (bT P n ops)) sp=true){m j:Nat}(hm:m∈sp)(hrm:m∈Region.ready .any ops g')(hrj:j∈Region.ready .any ops g')(P':j≠m):False:=by
 obtain⟨um,om,hom,am⟩:=mem_ready.1 hrm;obtain⟨uj,oj,TG,aj⟩:=mem_ready.1 hrj;have Ta:=(mT.1 TG).1;have h:=fv.1 (fv.1 Ue m hm) j (List.mem_range.2 (by simpa using Ta));simp only[kJ,Ba,Sp,P',false_or]at h;rcases h with⟨h1,h2⟩|⟨h1,h2⟩
 .have:=oZ QG hG 8 j m om h1 hom am h2;rw[yH this]at uj;cases uj
 .have:=oZ QG hG 8 m j oj h1 TG aj h2;rw[yH this]at um;cases um
def Xn(P:Program)(n:Nat)(sp:List Nat)(ops:Array Oper)(i:Nat)(x:St)(K:St->Prop):Prop:=match ops[i]? with
 |some o=>XT P n sp i (bT P n ops o) x K
 |none=>K x
def qm(P:Program)(n:Nat)(sp:List Nat)(ops:Array Oper)(Q:St->Prop):Nat->Array Bool->St->Prop
 |0,g',x=>Region.ready .any ops g'=[]/\Q x
 |f+1,g',x=>(Region.ready .any ops g'=[]->Q x)/\∀i∈Region.ready .any ops g',Xn P n sp ops i x (qm P n sp ops Q f (g'.setIfInBounds i true))
def l4{F:Fr}(hn:F.n=n){ops:Array Oper}{Q:St->Prop}{Q':Exit->Act->World->Prop}(hQ:∀x a w,eG F x a w->Q x->Q' .normal a w):
 ∀(f:Nat) (g':Array Bool) (x:St) (a:Act) (w:World),eG F x a w->qm P n sp ops Q f g' x->wpAnyIn F.eB 0 P .any ops Q' f g' a w
 |0,_,_,_,_,hs,h=>⟨h.1,hQ _ _ _ hs h.2⟩
 |f+1,g',x,a,w,hs,h=>by
  refine⟨λh0=>hQ _ _ _ hs (h.1 h0),λi hi=>?_⟩;have h1:=h.2 i hi;unfold Xn at h1;unfold wpOpIn;cases ho:ops[i]? with
  |none=>
   simp only[ho]at h1;exact l4 hn hQ f _ x a w hs h1
  |some o=>
   simp only[ho]at h1;rcases h1 with h1|⟨-,g2,g3,g4⟩
   .have h2:=tg (Q':=Q') hn h1 hs λx' a' w' PZ hk=>l4 hn hQ f _ x' a' w' PZ hk;by_cases hw:Region.wanted o (yielded ops a.tmps)=true
    .rw[aE hw]at h2;simp only[hw,if_true];exact De (j3 h2.1) h2.2
    .rw[aH hw]at h2;simp only[hw];exact⟨λ_ _=>trivial,h2⟩
   .obtain⟨I,hs⟩:=hs;have hw:Region.wanted o (yielded ops a.tmps)=true:=by
     subst hn;exact pT (P:=P) hs ops o g3
    simp only[hw,if_true];exact De (j3 (P:=P) (n:=n) g2) (g4 F hn I a w o ops rfl hs _ _ λx' a' w' PZ hk=>l4 hn hQ f _ x' a' w' PZ hk)
def ym{ops:Array Oper}{Q:St->Prop}(hG:DJ P n ops 0)(Ue:EJ (ops.toList.map (bT P n ops)) sp=true){i:Nat}{oi:Oper}(hi:ops[i]?=some oi):∀(f:Nat) (g':Array Bool) (x:St),T' x.U->iI ops g'->
 (∀j oj,ops[j]?=some oj->j≠i->g'.getD j true=false->((Region.before ops).getD j 0).testBit i=false->iH (bT P n ops oi) (bT P n ops oj)=true)->
 i∈Region.ready .any ops g'->XT P n sp i (bT P n ops oi) x (qm P n sp ops Q f (g'.setIfInBounds i true))->qm P n sp ops Q (f+1) g' x:=by
 intro f
 induction f with
 |zero=>
  intro g' x RF QG Tt hr H;refine⟨λh=>(by rw[h]at hr;cases hr),λj hj=>?_⟩;by_cases RA:j=i
  .subst RA;unfold Xn;simp only[hi];exact H
  .rcases H with H|H
   .have:=ready_mono hj RA;obtain⟨x',Qh⟩:=H.exists RF;rw[Qh.1]at this;cases this
   .exact(uJ QG hG Ue H.1 hr hj RA).elim
 |succ f ih=>
  intro g' x RF QG Tt hr H;refine⟨λh=>(by rw[h]at hr;cases hr),λj hj=>?_⟩;by_cases RA:j=i
  .subst RA;unfold Xn;simp only[hi];exact H
  .obtain⟨Vv,oj,TG,Qz⟩:=mem_ready.1 hj;rcases H with H|H
   .have Vw:((Region.before ops).getD j 0).testBit i=false:=by
     cases hb:((Region.before ops).getD j 0).testBit i with
     |false=>rfl
     |true=>
      exfalso;have h1:=kT QG j oj i TG hb Qz;have h0:=(mem_ready.1 hr).1;rcases Nat.lt_or_ge i g'.size with h'|h'
      .simp[h']at h0 h1;rw[h0]at h1;cases h1
      .simp[Array.getElem?_eq_none h']at h1
    have H2:T P (bT P n ops oi) x λx'=>T P (bT P n ops oj) x' (qm P n sp ops Q f ((g'.setIfInBounds i true).setIfInBounds j true)):=by
     refine H.mono λx' Qh=>?_;have:=Qh.2 j (ready_mono hj RA);unfold Xn at this;simp only[TG]at this;rcases this with h|h
     .exact h
     .exact(uJ QG hG Ue h.1 hj hr (Ne.symm RA)).elim
    have h2:=BH (Tt j oj TG RA Vv Vw) RF H2;have UB:∀k ok,ops[k]?=some ok->k≠i->(g'.setIfInBounds j true).getD k true=false->
     ((Region.before ops).getD k 0).testBit i=false->iH (bT P n ops oi) (bT P n ops ok)=true:=λk ok hk hki ZN Qr=>by
     refine Tt k ok hk hki ?_ Qr;by_cases Yh:j=k
     .subst Yh;exact Vv
     .rw[getD_set_ne true Yh]at ZN;exact ZN
    unfold Xn;simp only[TG];refine .inl ((h2.inf RF).mono λx' Qh=>ih (g'.setIfInBounds j true) x' Qh.1 (QG.list hj) UB (ready_mono hr (Ne.symm RA)) ?_);rw[Array.setIfInBounds_comm _ _ RA];exact .inl Qh.2
   .exact(uJ QG hG Ue H.1 hr hj RA).elim
def j5(P:Program)(n:Nat)(sp:List Nat)(Q:St->Prop):Nat->List aK->St->Prop
 |_,[],x=>Q x
 |m,i::l,x=>XT P n sp m i x (j5 P n sp Q (m+1) l)
def ve{ops:Array Oper}{Q:St->Prop}(hG:DJ P n ops 0)(Ue:EJ (ops.toList.map (bT P n ops)) sp=true):∀(l:List Oper) (k:Nat) (g':Array Bool) (x:St),T' x.U->iI ops g'->(∀j,l[j]?=ops[k+j]?)->
 v8 P n ops l.length k g'=true->j5 P n sp Q k (l.map (bT P n ops)) x->qm P n sp ops Q l.length g' x
 |[],_,_,_,_,_,_,hB,h=>⟨by simpa[v8]using hB,h⟩
 |o::l,k,g',x,RF,QG,hl,hB,h=>by
  have h0:ops[k]?=some o:=by simpa using(hl 0).symm
  simp only[Q4,v8,Ba]at hB;obtain⟨⟨hr,hf⟩,YI⟩:=hB;refine ym hG Ue h0 l.length g' x RF QG (me h0 hf) (by simpa using hr) ?_;refine(XT.inf RF h).mono λx' Qh=>?_;exact ve hG Ue l (k+1) _ x' Qh.1 (QG.list (by simpa using hr)) (λj=>by have:=hl (j+1);simpa[Nat.add_assoc,BP 1 j]using this) YI Qh.2
def vQ{F:Fr}(hn:F.n=n){ops:Array Oper}(P5:oQ P n ops=true)(Ue:EJ (ops.toList.map (bT P n ops)) sp=true){id:Nat}{x:St}{a:Act}{w:World}(hs:eG F x a w){Q:St->Prop}{Q':Exit->Act->World->Prop}
 (hQ:∀x a w,eG F x a w->Q x->Q' .normal a w)(h:j5 P n sp Q 0 (ops.toList.map (bT P n ops)) x):(Code.region id ops true).wpIn F.eB 0 P Q' a w:=by
 simp only[oQ,Ba]at P5;have PZ:eG F x a { w with drawn:=w.drawn+1 }:=by
  obtain⟨I,hs⟩:=hs;have hk:dg (aI I x.U) (aI I x.U) w { w with drawn:=w.drawn+1 }:=λ_ _ h=>⟨h,rfl⟩
  refine⟨I,⟨⟨hs.sat.size,hs.sat.os,hs.sat.tape,hs.sat.output,hs.sat.same,hs.sat.fin,hs.sat.inj,λid o ho=>?_,hs.sat.fresh,hs.sat.SD⟩,hs.le,hs.size,hs.book.vY hk,λi hi=>?_⟩⟩
  .exact(hs.sat.obj id o ho).mono (dd.refl I) hk (Qt _) (λ_ _ _ _=>rfl)
  .exact E'.mono (dd.refl I) hk (Qt _) _ _ (hs.slot i hi)
 have Rc:∀j,j<ops.size->(Array.replicate ops.size false).getD j true=false:=λj hj=>by
  rw[Tf,Array.getElem?_replicate,aE hj];rfl
 have hG:DJ P n ops 0:=GN ops.size 0 (Array.replicate ops.size false) rfl (λj _ hj=>Rc j hj) (by simpa using P5.2.2);refine wpIn_region_any P5.1 (l4 (sp:=sp) hn hQ _ _ _ _ _ PZ ?_);have:=ve (P:=P) (n:=n) (Q:=Q) hG Ue ops.toList 0 (Array.replicate ops.size false) x hs.inf (λm om hm hl=>by
  have H':m<ops.size:=(mT.1 hm).1;rw[Rc m H']at hl;cases hl) (by simp) (by simpa using P5.2.2) h
 simpa using this
def ae.Oy(sp:List Nat){l:List aK}(Ue:EJ l sp=true)(h:j5 P n sp (λx=>ae P n k x Q) 0 l st):ae P n (.code (.TB true l)::k) st Q:=by
 intro F hn kt hk a w hs;obtain⟨z,RT,rfl,hy,Q8⟩:=ez hk;obtain⟨c0,rfl,Q1⟩:=gv hy;have Th:∃id ops,c0=.region id ops true/\oQ P n ops=true/\ops.toList.map (bT P n ops)=l:=by
  cases c0<;>simp only[dE,reduceCtorEq]at Q1;rename_i id ops draw;cases draw
  .simp at Q1
  .simp only[Bool.true_and]at Q1;split at Q1
   .cases Q1
   .split at Q1
    .cases Q1
    .rename_i hd;simp only[bM.TB.injEq,true_and]at Q1;exact⟨id,ops,rfl,by simpa using hd,Q1⟩
 obtain⟨id,ops,rfl,P5,rfl⟩:=Th;exact vQ hn P5 Ue hs (λx a w hs h=>h F hn RT Q8 a w hs) h
variable {K:St->Prop} {m:Nat} {x:St}
def XC.app{suf:List aK}:∀(pre:List aK) {m:Nat} {x:St},Go P n (.d pre [.stop λy=>j5 P n sp K (m+pre.length) suf y]) x Q->j5 P n sp K m (pre++suf) x
 |[],_,_,h=>h
 |i::pre,m,_,h=>.inl (T.mono (λ_ h=>XC.app (m:=m+1) pre (by rw[show m+1+pre.length=m+(i::pre).length by simp;omega];exact h)) h)
def XC.go(j:Nat){l:List aK}(h:Go P n (.d (l.take j) [.stop λy=>j5 P n sp K (m+(l.take j).length) (l.drop j) y]) x λ_=>True):j5 P n sp K m l x:=by
 have:=XC.app _ h
 rwa [ua]at this
def XC.nil(h:K x):j5 P n sp K m [] x:=h
end Go.Vc
