/- Part 9 of the library of this proof. -/
import Derived.Test.YtdaelobhgmdoeaaGreatW8
set_option linter.all false
set_option maxHeartbeats 8000000
set_option maxRecDepth 100000
namespace Go.Vc
open Go.Proofs Go.Proofs.Tryz
def pP{b:Bk}(hb:BkOk b){s:R0}(h:bZ b.atoms s):0<=s.done/\s.done<=18014398509481984:=by
 obtain⟨⟨h0,h1⟩,h2,h3⟩:=h;obtain⟨k,hk⟩:∃k:Nat,s.atom=k:=⟨s.atom.toNat,by omega⟩
 have Tv:k<b.atoms.length:=by omega
 have:=hb.tight _ (List.getElem_mem Tv);rw[hk,bz Tv]at h3;omega
def uM{b:Bk}(hb:BkOk b)(k:Int):-18014398509481984<=fI b.atoms k/\fI b.atoms k<=36028797018963968:=by
 unfold fI;split
 .rename_i h;obtain⟨n,rfl⟩:∃n:Nat,k=n:=⟨k.toNat,by omega⟩
  have hn:n<b.atoms.length:=by omega
  have:=hb.tight _ (List.getElem_mem hn);rw[bz hn];omega
 .omega
def vL{b:Bk}(hb:BkOk b)(s:R0)(RJ:Int):-1152921504606846976<=ik b.atoms s RJ/\ik b.atoms s RJ<=2305843009213693952:=by
 unfold ik lg;split
 .split
  .rename_i h;have h1:=uM hb (s.atom-1);obtain⟨n,hn⟩:∃n:Nat,s.atom=n:=⟨s.atom.toNat,by omega⟩
   have UR:n<b.atoms.length:=by omega
   have:=hb.tight _ (List.getElem_mem UR);rw[hn]at h1|-;rw[bz UR];omega
  .omega
 .omega
def pK{l:List RY}{s:R0}{kept shift body:Int}:iU l s kept shift body<=l.length:=by
 unfold iU;split
 .rename_i h;have:=Bw (fE l s kept shift body) (l.length-s.atom.toNat);have:=h.1;omega
 .omega
def Dw(ah:Fd->Fd->Bool->Bool):∀(xs:List Fd) (d:Fd),(fF ah xs d).1=d\/(fF ah xs d).1∈xs:=by
 have key:∀(xs:List Fd) (p:Fd×Bool),(xs.foldl (gm ah) p).1=p.1\/(xs.foldl (gm ah) p).1∈xs:=by
  intro xs
  induction xs with
  |nil=>intro p;exact .inl rfl
  |cons x xs ih=>
   intro p;rw[List.foldl_cons];rcases ih (gm ah p x)with h|h
   .rw[h];unfold gm;split
    .exact .inr (by simp)
    .exact .inl rfl
   .exact .inr (by simp[h])
 exact λxs d=>key xs (d,false)
def DI{xs:List Fd}(h:xs≠[])(d:Fd):(fF jc xs d).1∈xs:=by
 obtain⟨x,xs,rfl⟩:∃x l,xs=x::l:=by cases xs with
  |nil=>exact absurd rfl h
  |cons x l=>exact⟨x,l,rfl⟩
 unfold fF;rw[List.foldl_cons];have:gm jc (d,false) x=(x,true):=by simp[gm,jc]
 rw[this];have key:∀(xs:List Fd) (p:Fd×Bool),(xs.foldl (gm jc) p).1=p.1\/(xs.foldl (gm jc) p).1∈xs:=by
  intro xs
  induction xs with
  |nil=>intro p;exact .inl rfl
  |cons x xs ih=>
   intro p;rw[List.foldl_cons];rcases ih (gm jc p x)with h|h
   .rw[h];unfold gm;split
    .exact .inr (by simp)
    .exact .inl rfl
   .exact .inr (by simp[h])
 rcases key xs (x,true)with h|h
 .rw[h];simp
 .simp[h]
def tP{b:List S1}{i fit:Int}(h:eO b i fit)(hf:fit<=(b.length:Int)-1):∃c:Nat,nC b i fit=c/\i<c/\(c:Int)<=fit:=by
 obtain⟨_,h1,h2,h3⟩:=h;have mem:∀x∈(VP b (i+1) fit).map (kX b),∃c:Nat,x.i=c/\i<c/\(c:Int)<=fit:=λx hx=>by
  obtain⟨k,hk,rfl⟩:=List.mem_map.1 hx;unfold VP rE at hk;rw[List.mem_range'_1]at hk;exact⟨k,rfl,by omega,by omega⟩
 unfold nC;split
 .refine mem _ (DI ?_ _);intro e;have:=congrArg List.length e;simp[VP,rE]at this;omega
 .rename_i hn;rcases Dw gX ((VP b (i+1) fit).map (kX b)) zM with h|h
  .exact absurd (show kz b (i+1) fit<0 by unfold kz;rw[h];decide) hn
  .exact mem _ h
def Tw.set{b:Bk}{K:ai}{ix:Nat}{x:Wx}{U:ai}{vh vf vl:V}(h:Tw b K ix x U vh vf vl)(x':Wx)(h1:x'.hs=x.hs)(h2:x'.fs=x.fs)(h3:x'.ls=x.ls):Tw b K ix x' (C' U ix (du b x' vh vf vl)) vh vf vl:=by
 have k2:bg K ix ix≠none:=λh=>(aM.1 h).1 rfl;exact⟨Vc.ag,h1▸h.oh.ab k2,h2▸h.of.ab k2,h3▸h.ol.ab k2,h.hf,h.hl,h.fl,h.sub.aE h.no,h.no⟩
def cV(b:Bk)(x:Wx):Int:=ik b.atoms x.s (x.body-x.shift)
def cH(b:Bk)(x:Wx):Int:=iU b.atoms x.s (cV b x) x.shift x.body
def pn(b:Bk)(x:Wx):Int:=nC b.L' x.s.atom (cH b x)
def pL(b:Bk)(x:Wx)(kept:Int)(cut:Nat):Wx:=(x.add (cp b x kept (cut-x.s.atom.toNat))).put (dF b.atoms b.Re x.s cut kept x.shift x.body).1
def wZ(b:Bk)(x:Wx)(kept:Int)(cut:Nat):Sc:=⟨⟨cut,0,decide ((b.L'.getD cut ⟨0,0,0⟩).forced≠0)⟩,(dF b.atoms b.Re x.s cut kept x.shift x.body).2⟩
def eu(b:Bk)(x:Wx):Wx:=if eO b.L' x.s.atom (cH b x)then pL b { x with kind:=1 } (cV b x) (pn b x).toNat else qg b { x with kind:=1 }
def eW(b:Bk)(x:Wx):Sc:=if eO b.L' x.s.atom (cH b x)then wZ b { x with kind:=1 } (cV b x) (pn b x).toNat else sF b { x with kind:=1 }
def HR(b:Bk)(hb:BkOk b)(x:Wx)(hm:bZ b.atoms x.s)(hx:x.fs.length<=1000000)(hxl:x.ls.length<=1000000)(hh:0<=x.high/\x.high<=1125899906842624)(hbd:0<=x.body/\x.body<=1125899906842624)
 (UM:0<=x.shift/\x.shift<=1125899906842624){K U:ai}{i1:Nat}{vh vf vl:V}(hJ:Tw b K i1 x U vh vf vl):
 aD prog 120 [.ptr i1 0 0] U λr Z'=>∃U4 Uz,r=bY (eW b x)/\Tw b K i1 (eu b x) Z' vh U4 Uz:=by
 refine Oo.r (by simp[JP]) ?_;have hs:=aa.refl U;have UW:bt b=.agg [aK b.nodes,vI b.w,vI b.h,bl b.atoms,aH b.Re,vI b.Ra,bC b.L']:=rfl;have a1:=hJ.row;rw[du]at a1;obtain⟨ch,sh⟩:=hJ.oh.vc;obtain⟨cf,sf⟩:=hJ.of.vc;obtain⟨cl,sl⟩:=hJ.ol.vc;have hd:=pP hb hm;have hk:=vL hb x.s (x.body-x.shift);have hlen:=hb.len;have Sh:=hb.ZV;have Wi:=BJ b.atoms hb.RD x.s (x.body-x.shift);have hRc:=zA b.atoms hb.RD x.s (by omega) (cV b x) x.shift x.body hk ⟨by omega,by omega⟩;have hCc:=L9 b.L' (by omega) x.s.atom (cH b x);have WG:cH b x<=b.atoms.length:=pK;have YV:eO b.L' x.s.atom (cH b x)->∃c:Nat,pn b x=c/\x.s.atom<c/\(c:Int)<=cH b x:=λh=>tP h (by omega);have hXk:cV b x=ik b.atoms x.s (x.body-x.shift):=rfl;rw[<-hXk]at Wi hk;have hXr:cH b x=iU b.atoms x.s (cV b x) x.shift x.body:=rfl;rw[<-hXr]at hRc;have hXc:pn b x=nC b.L' x.s.atom (cH b x):=rfl;rw[<-hXc]at hCc;have r1:Rq .i64 (x.body-x.shift):=ao (by omega) (by omega);rw[bj]at Wi hRc;unfold eu eW;generalize cV b x=kept at*;generalize cH b x=reach at*;generalize pn b x=cut at*;refine ad.mix 8 ?_;apply sR;simp only[go_sem,seval,JP];refine af λi2 Z2 s2 a2 f2=>?_;have n12:=aq a1 f2;replace a1:=s2 _ _ a1;have z2:=hs.none f2;replace hs:=hs.trans s2;have k2:K i2=none:=hJ.sub.none f2;have hJ2:=hJ.nh s2 f2 a2;simp only[go_sem,seval,a1,UW,gl,r1];refine Go.bP rfl rfl rfl Wi ?_;apply sG;simp only[go_sem,seval,a1,UW,F5];refine Go.bP rfl rfl rfl hRc ?_;apply sG;simp only[go_sem,seval];refine Go.bP rfl rfl rfl hCc ?_;have XF:=hJ2.set { x with kind:=1 } rfl rfl rfl;rw[du]at XF;by_cases Rg:eO b.L' x.s.atom reach
 .obtain⟨c,rfl,h1,h2⟩:=YV Rg;rw[decide_eq_true Rg,if_pos Rg,if_pos Rg,if_pos Rg,Int.toNat_natCast];apply sG;simp only[go_sem,seval,a1];generalize hq1:C' Z2 i1 _=Y1 at*;have hw:aD prog 181 [.ptr i1 0 0,vI kept,vI c] Y1 λr Z'=>∃U4 Uz,r=bY (wZ b { x with kind:=1 } kept c)/\Tw b (C' K i2 ⟨45,4,[.agg [vI 0,vI 0,.bool false,.aC]]⟩) i1 (pL b { x with kind:=1 } kept c) Z' vh U4 Uz:=FA b hb { x with kind:=1 } hm (by show x.s.done<=_;omega) hx hxl (by show 0<=x.high/\x.high<=_;omega) kept hk (by show 0<=x.shift/\x.shift<=_;omega) c (by show x.s.atom<=_;omega) (by omega) XF;generalize wZ b { x with kind:=1 } kept c=Z at*;generalize pL b { x with kind:=1 } kept c=Y at*;refine ad.kS rfl rfl rfl hw ?_;rintro r Z' ⟨U4,Uz,rfl,TE⟩;have c2:=TE.sub _ _ ag;apply sR;simp only[go_sem,seval,c2,bY,ar,au];exact⟨_,_,aa.refl _,Wk.refl (aa.refl _) _,U4,Uz,rfl,TE.drop k2 _⟩
 .rw[decide_eq_false Rg,if_neg Rg,if_neg Rg,if_neg Rg];apply sG;simp only[go_sem,seval,a1];generalize hq1:C' Z2 i1 _=Y1 at*;have hw:aD prog 180 [.ptr i1 0 0,vI kept,vI 0] Y1 λr Z'=>∃U4 Uz,r=bY (sF b { x with kind:=1 })/\Tw b (C' K i2 ⟨45,4,[.agg [vI 0,vI 0,.bool false,.aC]]⟩) i1 (qg b { x with kind:=1 }) Z' vh U4 Uz:=H4 b hb { x with kind:=1 } hm (by show x.s.done<=_;omega) hx hxl (by show 0<=x.high/\x.high<=_;omega) kept 0 XF;generalize sF b { x with kind:=1 }=Z at*;generalize qg b { x with kind:=1 }=Y at*;refine ad.kS rfl rfl rfl hw ?_;rintro r Z' ⟨U4,Uz,rfl,TE⟩;have c2:=TE.sub _ _ ag;apply sR;simp only[go_sem,seval,c2,bY,ar,au];exact⟨_,_,aa.refl _,Wk.refl (aa.refl _) _,U4,Uz,rfl,TE.drop k2 _⟩
open Go.Proofs Go.Proofs.Tryz
def ri(body:Int)(f:P'):Bool:=decide (f.y+f.h<=body)
def tu(b:Bk)(x:Wx):Wx:={ (x.put (b.Re.takeWhile (ri x.body)))with kind:=2 }
def mn(b:Bk)(x:Wx):Sc:=⟨⟨0,0,false⟩,b.Re.dropWhile (ri x.body)⟩
def xM{P:List P'}{j:Nat}(h:j<=P.length):∀U,cM U 7 (aH P) none (some (.int .i64 j)) none=some (aH (P.take j)):=λU=>by
 have h1:(j:Int)<=P.length:=by omega
 simp only[aH,cM,bF,List.length_map];rw[if_pos ⟨Int.le_refl _,by omega,h1,Int.le_refl _,trivial⟩];simp[List.map_take]
def wE{α:Type}{p:α->Bool}:∀{l:List α} {j:Nat},(∀x∈l.take j,p x=true)->(∀x,l[j]?=some x->p x=false)->j<=l.length->l.takeWhile p=l.take j/\l.dropWhile p=l.drop j
 |[],j,_,_,h=>by simp
 |x::l,0,_,h2,_=>by
  have:=h2 x rfl;simp[List.takeWhile_cons,List.dropWhile_cons,this]
 |x::l,j+1,h1,h2,h=>by
  have hx:=h1 x (by simp);have ih:=wE (p:=p) (l:=l) (j:=j) (λy hy=>h1 y (by simp[hy])) (λy hy=>h2 y (by simpa using hy)) (by simpa using h);simp[List.takeWhile_cons,List.dropWhile_cons,hx,ih.1,ih.2]
def Fy(b:Bk)(hb:BkOk b)(x:Wx)(hxl:x.ls.length<=1000000)(hh:0<=x.high/\x.high<=1125899906842624){K U:ai}{i1:Nat}{vh vf vl:V}(hJ:Tw b K i1 x U vh vf vl):
 aD prog 116 [.ptr i1 0 0] U λr Z'=>∃Uz,r=bY (mn b x)/\Tw b K i1 (tu b x) Z' vh vf Uz:=by
 refine Pw.r (by simp[I1]) ?_;have hs:=aa.refl U;have UW:bt b=.agg [aK b.nodes,vI b.w,vI b.h,bl b.atoms,aH b.Re,vI b.Ra,bC b.L']:=rfl;have a1:=hJ.row;rw[du]at a1;obtain⟨ch,sh⟩:=hJ.oh.vc;obtain⟨cf,sf⟩:=hJ.of.vc;obtain⟨cl,sl⟩:=hJ.ol.vc;have hfn:=hb.Uf;have XP:=gj b.Re;unfold tu mn;refine ad.mix 5 ?_;apply sR;simp only[go_sem,seval,I1];refine af λi2 Z2 s2 a2 f2=>?_;have n12:=aq a1 f2;replace a1:=s2 _ _ a1;have z2:=hs.none f2;replace hs:=hs.trans s2;have k2:K i2=none:=hJ.sub.none f2;have hJ2:=hJ.nh s2 f2 a2;simp only[go_sem,seval,a1,UW,Cs];refine ad.fe (λst=>∃j:Nat,j<=b.Re.length/\b.Re.takeWhile (ri x.body)=b.Re.take j/\b.Re.dropWhile (ri x.body)=b.Re.drop j/\st.U=Z2/\st.s 0=.ptr i1 0 0/\st.s 2=.ptr i2 0 0/\st.s 3=vI j/\st.s 4=aH b.Re)
  (λm st=>∃j:Nat,j<=b.Re.length/\m=b.Re.length-j/\(∀f∈b.Re.take j,ri x.body f=true)/\st.U=Z2/\st.s 0=.ptr i1 0 0/\st.s 2=.ptr i2 0 0/\st.s 3=vI j/\st.s 4=aH b.Re) b.Re.length ?_ ?_ ?_
 .exact⟨0,by omega,rfl,by simp,rfl,rfl,rfl,rfl,rfl⟩
 .rintro m ⟨S,J⟩ ⟨j,hj,rfl,So,RH,t0,t2,t3,t4⟩;simp only at RH t0 t2 t3 t4;subst RH;refine ad.mix 5 ?_;by_cases H':j<b.Re.length
  .have q:((j:Int)<b.Re.length)=True:=eq_true (by omega);have Q9:=λU=>ke (U:=U) H';have UL:aQ b.Re[j]=.agg [vI b.Re[j].node,vI b.Re[j].side,vI b.Re[j].anchor,vI b.Re[j].x,vI b.Re[j].y,vI b.Re[j].w,vI b.Re[j].h]:=rfl;obtain⟨_,⟨o1,o2⟩,_,o3,o4⟩:=hb.Yk _ (List.getElem_mem H');have Sf:b.Re.take (j+1)=b.Re.take j++[b.Re[j]]:=List.take_succ_eq_append_getElem H';have T':b.Re[j]?=some b.Re[j]:=List.getElem?_eq_getElem H';generalize b.Re[j]=f at*;have r1:Rq .i64 (f.y+f.h):=ao (by omega) (by omega);have r2:Rq .i64 ((j:Int)+1):=ao (by omega) (by omega);by_cases hle:f.y+f.h<=x.body
   .have q1:(f.y+f.h<=x.body)=True:=eq_true hle;apply sR;simp only[go_sem,seval,t0,t2,t3,t4,XP,q,Q9,UL,a1,r1,q1,r2];refine⟨_,?_,j+1,by omega,rfl,?_,by simp[t0,t2,t4]⟩
    .omega
    .rw[Sf];intro g hg;rcases List.mem_append.1 hg with hg|hg
     .exact So g hg
     .simp at hg;subst hg;exact decide_eq_true hle
   .have q1:(f.y+f.h<=x.body)=False:=eq_false hle;apply sR;simp only[go_sem,seval,t0,t2,t3,t4,XP,q,Q9,UL,a1,r1,q1];obtain⟨e1,e2⟩:=wE So (λg hg=>by rw[T']at hg;cases hg;exact decide_eq_false hle) hj;exact⟨j,hj,e1,e2,by simp[t0,t2,t3,t4]⟩
  .have q:((j:Int)<b.Re.length)=False:=eq_false (by omega);apply sR;simp only[go_sem,seval,t0,t2,t3,t4,XP,q,a1];obtain⟨e1,e2⟩:=wE So (λg hg=>by rw[List.getElem?_eq_none (by omega)]at hg;cases hg) hj;exact⟨j,hj,e1,e2,by simp[t0,t2,t3,t4]⟩
 .rintro⟨S,J⟩ ⟨j,hj,e1,e2,RH,t0,t2,t3,t4⟩;simp only at RH t0 t2 t3 t4;subst RH;rw[e1,e2];have WE:=xM hj;have hsl2:=px hj;refine ad.mix 5 ?_;apply sR;simp only[BB,seval,<-decide_not,bw,fi,aL,cQ,eN,ej,eK,dY,ct,jS,gx,bI,fC,dN,fq,cP,bF,iN,dg,cT,ck,Sk,jV,dc,cc,iM,dI,cd,df,cY,kT,binBV,bW,dq,V.cells,V.stays,Tm.nothing,t0,t2,t3,t4,WE];refine ad.call rfl rfl rfl (mJ b (b.Re.take j) (by rw[List.length_take];omega) x hxl (λf hf=>by
   obtain⟨_,⟨o1,o2⟩,_,o3,o4⟩:=hb.Yk f (List.mem_of_mem_take hf);exact ao (by omega) (by omega)) hJ2) ?_
  rintro r Z' ⟨Uz,TE⟩;have c2:=TE.sub _ _ ag;have b1:=TE.row;have n12':i1≠i2:=n12;rw[du]at b1;generalize x.put (b.Re.take j)=y at*;have XF:=TE.set { y with kind:=2 } rfl rfl rfl;rw[du]at XF;apply sR;simp only[BB,seval,<-decide_not,bw,fi,aL,cQ,eN,ej,eK,dY,ct,jS,gx,bI,fC,dN,fq,cP,bF,iN,dg,cT,ck,Sk,jV,dc,cc,iM,dI,cd,df,cY,kT,binBV,bW,dq,V.cells,V.stays,Tm.nothing,t0,t2,t3,t4,b1,hsl2];generalize hq1:C' Z' i1 _=Y1 at*;replace c2:=XF.sub _ _ ag;refine ad.aB rfl rfl rfl (yz (b.Re.drop j) (by rw[List.length_drop];omega) _) ?_;apply sR;simp only[go_sem,seval,c2,t2,ar,au];exact⟨_,_,aa.refl _,Wk.refl (aa.refl _) _,Uz,rfl,XF.drop k2 _⟩
open Go.Proofs Go.Proofs.Tryz
def bJ.lt:bJ->bJ
 |.seq a _=>a
 |c=>c
def bJ.bd:bJ->bJ
 |.block _ a=>a
 |c=>c
structure BkFull(b:Bk):Prop extends BkOk b where
 ru:dH b.nodes
 XN:R3 b.nodes=true
 h1:1<=b.h
 h2:b.h<=1099511627776
 nod:∀a∈b.atoms,0<=a.node/\a.node<b.nodes.length
def bf(b:Bk)(s:R0):Kp:=if b.atoms=[]then⟨[],0,b.h⟩else rv b.nodes (Sq b.atoms (min s.atom ((b.atoms.length:Int)-1))).node b.h
def Vz(l:List Nd)(w:Int)(p:List SU×Int)(a:Int):List SU×Int:=(p.1++[⟨a,-1,0,0,p.2,w,(SP l a).head⟩],p.2+(SP l a).head)
def Uu(l:List Nd)(w:Int)(L:List Int):List SU×Int:=L.foldl (Vz l w) ([],0)
def yL(l:List Nd)(w:Int)(L:List Int)(a:Int):Uu l w (L++[a])=Vz l w (Uu l w L) a:=by
 unfold Uu;rw[List.foldl_append];rfl
def Hr(l:List Nd)(w:Int):∀(L:List Int),(Uu l w L).1.length=L.length:=by
 have key:∀(L:List Int) (p:List SU×Int),(L.foldl (Vz l w) p).1.length=p.1.length+L.length:=by
  intro L
  induction L with
  |nil=>intro p;rfl
  |cons a L ih=>intro p;rw[List.foldl_cons,ih];simp[Vz];omega
 intro L;have:=key L ([],0);simpa[Uu]using this
def B1(l:List Nd)(w:Int)(L:List Int)(h:∀a∈L,0<=(SP l a).head)(j:Nat):0<=(Uu l w (L.take j)).2/\(Uu l w (L.take j)).2<=(Uu l w L).2:=by
 have key:∀(L:List Int),(∀a∈L,0<=(SP l a).head)->∀(p:List SU×Int),p.2<=(L.foldl (Vz l w) p).2:=by
  intro L
  induction L with
  |nil=>intro _ p;exact Int.le_refl _
  |cons a L ih=>
   intro h p;rw[List.foldl_cons];have h1:=ih (λx hx=>h x (by simp[hx])) (Vz l w p a);have h2:=h a (by simp);simp only[Vz]at h1|-;omega
 refine⟨key (L.take j) (λa ha=>h a (List.mem_of_mem_take ha)) ([],0),?_⟩;have e:Uu l w L=(L.drop j).foldl (Vz l w) (Uu l w (L.take j)):=by
  rw[Uu,Uu,<-List.foldl_append,List.take_append_drop]
 rw[e];exact key _ (λa ha=>h a (List.mem_of_mem_drop ha)) _
def ue{l:List Nd}{L:List Int}{h:Int}:∀m,m<=L.length->∀a∈(gw l L h m).Rj,a∈L
 |0,_,a,ha=>by simp[gw]at ha
 |m+1,hm,a,ha=>by
  rw[gw,iY]at ha;split at ha
  .exact ue m (by omega) a ha
  .simp only[List.mem_append,List.mem_singleton]at ha;rcases ha with ha|ha
   .exact ue m (by omega) a ha
   .rw[ha];have H':L.length-1-m<L.length:=by omega
    have hg:L.getD (L.length-1-m) 0=L[L.length-1-m]:=by simp[H']
    rw[hg];exact List.getElem_mem H'
def pR{l:List Nd}{L:List Int}{h w:Int}:∀m,(Uu l w (gw l L h m).Rj).2=(gw l L h m).high
 |0=>rfl
 |m+1=>by
  rw[gw,iY];split
  .exact pR m
  .simp only[yL,Vz];rw[pR m]
structure Ov(b:Bk)(k:Kp):Prop where
 len:k.Rj.length<=1000000
 mem:∀a∈k.Rj,∃n:Nat,a=n/\n<b.nodes.length
 sum:(Uu b.nodes b.w k.Rj).2=k.high
 high:0<=k.high/\k.high<=1099511627776
 body:0<=k.body/\k.body<=1099511627776
def mN{b:Bk}(hb:BkFull b)(s:R0):Ov b (bf b s):=by
 have h1:=hb.h1;have h2:=hb.h2;have hn:b.nodes.length<=100000:=by have:=hb.ru.1;omega
 unfold bf;split
 .exact⟨by simp,by simp,rfl,by simp,by simp;omega⟩
 .unfold rv;split
  .rename_i hc;obtain⟨_,h3,h4⟩:=hc;generalize (Sq b.atoms (min s.atom ((b.atoms.length:Int)-1))).node=a at*;have ha:a.toNat<b.nodes.length:=by omega
   have Wr:∀x∈U' b.nodes a.toNat,∃n:Nat,x=n/\n<b.nodes.length:=λx hx=>by
    obtain⟨n,h1,h2⟩:=oe ha x hx;exact⟨n,h1,by omega⟩
   have hi:=pc hb.XN Wr (by omega:0<=b.h) (U' b.nodes a.toNat).length (Nat.le_refl _);have hl:(U' b.nodes a.toNat).length<=b.nodes.length+1:=iQ _ _ _;unfold wP;exact⟨by omega,λx hx=>Wr x (ue _ (Nat.le_refl _) x hx),pR _,by omega,by omega⟩
  .exact⟨by simp,by simp,rfl,by simp,by simp⟩
def bX(b:Bk)(s:R0)(hv:V):Wx:=⟨hv,(bf b s).high,(bf b s).body,s,0,(Uu b.nodes b.w (bf b s).Rj).1,[],[],0⟩
def E1(b:Bk)(hb:BkFull b)(s:R0)(RX:0<=s.atom)(U:ai):
 aD prog 115 [.rp (bt b),bj s] U λr Z'=>∃i1 vh hv,r=.ptr i1 0 0/\Tw b U i1 (bX b s hv) Z' vh .aC .aC:=by
 refine Qx.r (by simp[CT]) ?_;have hs:=aa.refl U;have UW:bt b=.agg [aK b.nodes,vI b.w,vI b.h,bl b.atoms,aH b.Re,vI b.Ra,bC b.L']:=rfl;have TS:(bj s).cells=[vI s.atom,vI s.done,.bool s.free]:=rfl;have UH:(bj s).stays=true:=rfl;have US:=gG b.atoms;have hlen:=hb.len;refine ad.mix 11 ?_;apply sR;simp only[go_sem,seval,CT,TS,UH];refine af λi3 Z3 s3 a3 f3=>?_;have z3:=hs.none f3;replace hs:=hs.trans s3;rw[bj]at a3;simp only[go_sem,seval,a3,UW];refine bu λi19 Z19 s19 WZ f19=>?_;have n319:=aq a3 f19;replace a3:=s19 _ _ a3;have z19:=hs.none f19;replace hs:=hs.trans s19;have hr:=mN hb s;unfold bX;have hJ0:∀(hv:V) (k:Kp) (J:ai),J i19=some (du b ⟨hv,k.high,k.body,s,0,[],[],[],0⟩ .aC .aC .aC)->aa U J->Tw b U i19 ⟨hv,k.high,k.body,s,0,[],[],[],0⟩ J .aC .aC .aC:=λhv k J h h2=>
  ⟨h,aT.start,aT.start,aT.start,dR.aC _,dR.aC _,dR.aC _,h2,z19⟩
 have fin:∀(S:Nat->V) (J:ai) (hv:V),dz false hv=some (.int .i64 (bf b s).Rj.length)->(∀(j:Nat) (h:j<(bf b s).Rj.length) (U:ai),bQ U 1 hv (.int .i64 j)=some (.rp (vI (bf b s).Rj[j])))->
  J i19=some (du b ⟨hv,(bf b s).high,(bf b s).body,s,0,[],[],[],0⟩ .aC .aC .aC)->aa U J->S 0=.rp (bt b)->S 5=.ptr i19 0 0->S 7=vI 0->S 57=hv->S 58=vI (bf b s).Rj.length->S 59=vI 0->
  ad prog 96 [It.code CT.code.rt.rt.rt.rt.lt.rt.bd,It.inBlock 0,It.code CT.code.rt.rt.rt.rt.rt] ⟨S,J⟩ λst=>Vr [.tmp (.t 4)] st λr Z'=>∃i1 vh hv,r=.ptr i1 0 0/\Tw b U i1 ⟨hv,(bf b s).high,(bf b s).body,s,0,(Uu b.nodes b.w (bf b s).Rj).1,[],[],0⟩ Z' vh .aC .aC:=by
  intro S J hv hlL hix h19 hsZ t0 t5 t7 t57 t58 t59;have hJ:=hJ0 _ _ _ h19 hsZ;clear hJ0 h19 hsZ hs a3 WZ;generalize bf b s=k at*;obtain⟨L,high,body⟩:=k;obtain⟨r1,r2,r3,⟨r4,r5⟩,_⟩:=hr;simp only at r1 r2 r3 r4 r5 hJ hlL hix t58|-;have hh0:∀a∈L,0<=(SP b.nodes a).head:=λa ha=>by
   obtain⟨n,rfl,hn⟩:=r2 a ha;rw[jf hn];exact(gr hb.XN hn).st.head.1
  have WZ:=hJ.row;rw[du]at WZ;refine ad.mix 60 ?_;simp only[CT,bJ.rt,bJ.lt,bJ.bd];refine ad.loop (λm st=>∃(j:Nat) (vh:V),j<=L.length/\m=L.length-j/\Tw b U i19 ⟨hv,high,body,s,0,(Uu b.nodes b.w (L.take j)).1,[],[],0⟩ st.U vh .aC .aC/\st.s 0=.rp (bt b)/\st.s 5=.ptr i19 0 0/\st.s 7=vI (Uu b.nodes b.w (L.take j)).2/\st.s 57=hv/\st.s 58=vI L.length/\st.s 59=vI j) L.length ?_ ?_
  .exact⟨0,.aC,by omega,rfl,hJ,t0,t5,t7,t57,t58,t59⟩
  .clear hJ WZ t0 t5 t7 t57 t58 t59;rintro m ⟨S,J⟩ ⟨j,vh,hj,rfl,hJ,t0,t5,t7,t57,t58,t59⟩;simp only at hJ t0 t5 t7 t57 t58 t59;refine ad.mix 60 ?_;by_cases H':j<L.length
   .have q:((j:Int)<L.length)=True:=eq_true (by omega);obtain⟨n,hn,UR⟩:=r2 _ (List.getElem_mem H');have Q9:=hix j H';have SR:=λU=>jl b.nodes UR U;have jk:=B1 b.nodes b.w L hh0 j;have hsum1:=B1 b.nodes b.w L hh0 (j+1);have hlk:=Hr b.nodes b.w (L.take j);have Yr:(L.take j).length=j:=by rw[List.length_take];omega
    have Sf:L.take (j+1)=L.take j++[(n:Int)]:=by rw[List.take_succ_eq_append_getElem H',hn]
    have VL:Uu b.nodes b.w (L.take (j+1))=Vz b.nodes b.w (Uu b.nodes b.w (L.take j)) n:=by rw[Sf,yL]
    rw[r3]at jk hsum1;rw[VL]at hsum1;rw[hn]at Q9;generalize Uu b.nodes b.w (L.take j)=X at*;obtain⟨F,y⟩:=X;simp only[Vz,jf UR]at jk hsum1 hlk hJ t7 VL;have q1:Rq .i64 (y+b.nodes[n].st.head):=ao (by omega) (by omega);have q2:Rq .i64 ((j:Int)+1):=ao (by omega) (by omega);have WZ:=hJ.row;rw[du]at WZ;obtain⟨cv,sv⟩:=hJ.oh.vc;generalize b.nodes[n]=nd at*;have hs:=aa.refl J;apply sR;simp only[go_sem,seval,t0,t5,t7,t57,t58,t59,q,Q9,SR,Nd.cells,WZ,UW,NH,cv,sv];refine bu λi86 Z86 s86 a86 f86=>?_;have V1:=hJ.mono s86;obtain⟨Rr,SM,XD⟩:=zK V1.sub V1.no V1.row V1.oh;have UL:(F.map bo).length<=1000000:=by rw[List.length_map];omega
    generalize hrw:F.map bo=rows at*;have Sb:(rows.length+1)*57<=140737488355328:=by omega
    simp only[go_sem,seval,SM,dW a86,Sb];refine jM λi87 Z87 s87 a87 f87=>?_;obtain⟨b1,hg⟩:=XD Z87 i87 _ s87 a87 f87;rw[du]at b1;obtain⟨g1,g2,g3⟩:=hg (du b ⟨hv,high,body,s,0,F++[⟨n,-1,0,0,y,b.w,nd.st.head⟩],[],[],0⟩ (.own i87 0 (rows.length+1)) .aC .aC);simp only[go_sem,seval,b1,t0,t5,t7,t57,t58,t59,cv,sv,q1,q2];refine⟨_,?_,j+1,.own i87 0 (rows.length+1),by omega,rfl,?_,rfl,?_,rfl⟩
    .omega
    .rw[VL];rw[List.length_append]at g2;refine⟨ag,?_,aT.start,aT.start,(dR.aC _).symm,(dR.aC _).symm,dR.aC _,g1,hJ.no⟩;show aT _ _ _ _ _ ((F++[_]).map bo);rw[List.map_append,hrw];exact g2
    .rw[VL]
   .have q:((j:Int)<L.length)=False:=eq_false (by omega);have SX:j=L.length:=by omega
    rw[SX,List.take_length]at hJ;apply sR;simp only[go_sem,seval,t0,t5,t7,t57,t58,t59,q];exact⟨_,_,aa.refl _,Wk.refl (aa.refl _) _,i19,vh,hv,rfl,hJ⟩
 by_cases he:b.atoms=[]
 .have q:((b.atoms.length:Int)>0)=False:=by rw[he];simp
  have hre:bf b s=⟨[],0,b.h⟩:=if_pos he;simp only[go_sem,seval,WZ,a3,gl,US,UW,q];rw[hre]at fin|-;rw[<-UW]at WZ;refine fin _ _ .aC rfl (λj h=>by simp at h) WZ hs ?_ ?_ ?_ ?_ ?_ ?_<;>rfl
 .have hl0:0<b.atoms.length:=List.length_pos_iff.2 he;have q:((b.atoms.length:Int)>0)=True:=eq_true (by omega);have r1:Rq .i64 ((b.atoms.length:Int)-1):=ao (by omega) (by omega);obtain⟨k,hk⟩:∃k:Nat,min s.atom ((b.atoms.length:Int)-1)=k:=⟨(min s.atom ((b.atoms.length:Int)-1)).toNat,by omega⟩
  have Tv:k<b.atoms.length:=by omega
  have Q9:=λU=>iz (U:=U) Tv;have hre:bf b s=rv b.nodes b.atoms[k].node b.h:=by rw[bf,if_neg he,hk,bz Tv]
  have hc:=IC b.nodes hb.ru b.atoms[k].node b.h;rw[<-hre]at hc;simp only[go_sem,seval,WZ,a3,gl,US,UW,q,dj];refine ad.rz (by kernel_rfl) [0,1,2,3,4,5,6,7,8,9,10,11,12,13,14,15,16,17,18,19,20,21,22,23,24,25] [[],[],[1],[1,2],[1,2,3],[],[5],[5,6],[5,6,7],[5,6,7,8],[],[10],[],[12],[10,11,12,13],[5,6,7,8,9,10,11,12,13,14],[5,6,7,8,9,10,11,12,13,14,15],[5,6,7,8,9,10,11,12,13,14,15,16],[],[18],[18,19],[18,19,20],[1,2,3,4,5,6,7,8,9,10,11,12,13,14,15,16,17,18,19,20,21],[0,1,2,3,4,5,6,7,8,9,10,11,12,13,14,15,16,17,18,19,20,21,22],[0,1,2,3,4,5,6,7,8,9,10,11,12,13,14,15,16,17,18,19,20,21,22,23],[0,1,2,3,4,5,6,7,8,9,10,11,12,13,14,15,16,17,18,19,20,21,22,23,24]] [0,2,4,6,8,10,12,14,16,18,20,22,24,26,28,30,32,34,36,38,40,42,44,46,48,50] (by kernel_rfl) (by kernel_rfl) ?_;refine RE.Sg (n:=0) [44,46,48,50] [0,2,4,6,8,10,12,14,16,18,20,22,24,26,28,30,32,34,36,38,40,42] [⟨(.some 28),(.Rn (.t 5)),.none⟩,⟨(.some 29),(.Rn (.t 0)),.none⟩,⟨(.some 30),(.nilCheck (.t 29)),.none⟩,⟨(.some 31),(.Rz .false 0 1 (.t 30)),.none⟩,⟨(.some 32),(.load .false 1 (.t 31)),.none⟩,⟨(.some 33),(.Rn (.t 0)),.none⟩,⟨(.some 34),(.nilCheck (.t 33)),.none⟩,⟨(.some 35),(.Rz .true 3 3 (.t 34)),.none⟩,⟨(.some 36),(.Rz .false 0 1 (.t 35)),.none⟩,⟨(.some 37),(.load .false 1 (.t 36)),.none⟩,⟨(.some 38),(.Rz .false 0 1 (.t 3)),.none⟩,⟨(.some 39),(.load .false 1 (.t 38)),.none⟩,⟨(.some 40),(.Rn (.t 6)),.none⟩,⟨(.some 41),(.bin .sub (.t 40) (.c (.int .i64 1))),.none⟩,⟨(.some 42),(.Rh .false (.t 39) (.t 41)),.none⟩,⟨(.some 43),(.T9 8 (.t 37) (.t 42)),.none⟩,⟨(.some 44),(.Rz .false 1 1 (.t 43)),.none⟩,⟨(.some 45),(.load .false 1 (.t 44)),.none⟩,⟨(.some 46),(.Rn (.t 0)),.none⟩,⟨(.some 47),(.nilCheck (.t 46)),.none⟩,⟨(.some 48),(.Rz .false 2 1 (.t 47)),.none⟩,⟨(.some 49),(.load .false 1 (.t 48)),.none⟩] rfl rfl ?_;apply sG;simp only[go_sem,seval,WZ,a3,UW,gl,NH,r1,e8,hk,Q9,cF];rw[jy]at hc;refine RE.aB rfl rfl rfl rfl rfl (hc _) ?_;refine RE.Sg (n:=0) [] [46,48,50] [⟨(.some 51),(.nilCheck (.t 28)),.none⟩,⟨(.some 52),(.Rz .true 0 3 (.t 51)),.none⟩,⟨.none,(.store 3 (.t 52) (.t 50)),.none⟩] rfl rfl ?_;apply sG;simp only[go_sem,seval,WZ,aj,av];have hlL:=fG (bf b s).Rj;apply sR;simp only[go_sem,seval,hlL];rw[<-UW];refine fin _ _ (bn (bf b s).Rj) hlL (λj h U=>gO h) ag (hs.aE z19) ?_ ?_ ?_ ?_ ?_ ?_<;>rfl
open Go.Proofs Go.Proofs.Tryz
def W5(b:Bk):bt b=.agg [aK b.nodes,vI b.w,vI b.h,bl b.atoms,aH b.Re,vI b.Ra,bC b.L']:=rfl
def rU(b:Bk)(hb:1<=b.h):aV prog 60 [.rp (bt b)] (.bool false):=λU=>by
 refine e60.r (by simp[c60]) ?_;have q:(b.h=0)=False:=eq_false (by omega);refine ad.mix 3 ?_;apply sR;simp only[go_sem,seval,c60,W5,q,BK];exact ay.same rfl
def Dk(b:Bk)(hb:BkFull b)(U:ai):aD prog 54 [.rp (bt b)] U λr Z'=>aa U Z'/\aT U Z' 168 3 r (b.L'.map dX):=by
 refine e54.r (by simp[c54]) ?_;have h1:=hb.ZV;have h2:=hb.len;refine ad.mix 3 ?_;apply sR;simp only[go_sem,seval,c54];refine ad.aB rfl rfl rfl (rU b hb.h1 _) ?_;apply sR;simp only[go_sem,seval,W5,F5];refine ad.call rfl rfl rfl (oO func113 (NU.b.trans rfl) NU.c (b.L'.map dX) (by simp;omega) _) ?_;rintro r Z' ⟨hs,ho⟩;apply sR;simp only[go_sem,seval];exact⟨_,_,aa.refl _,Wk.refl (aa.refl _) _,hs,ho⟩
def w9(b:Bk):V:=.agg [bl b.atoms,aH b.Re,vI b.Ra]
def vq(b:Bk)(hb:BkFull b):aV prog 25 [.rp (bt b)] (w9 b):=λU=>by
 refine e25.r (by simp[c25]) ?_;have hs:=aa.refl U;have h2:=hb.len;have h3:=hb.Uf;refine ad.mix 4 ?_;apply sR;simp only[go_sem,seval,c25];refine af λi2 Z2 s2 a2 f2=>?_;have z2:=hs.none f2;replace hs:=hs.trans s2;simp only[go_sem,seval];refine ad.aB rfl rfl rfl (rU b hb.h1 _) ?_;apply sR;simp only[go_sem,seval,W5];refine af λi3 Z3 s3 a3 f3=>?_;have Xj:=aq a2 f3;replace a2:=s3 _ _ a2;have z3:=hs.none f3;replace hs:=hs.trans s3;simp only[go_sem,seval,a3,ak,ar,al,au];generalize Zp:C' _ i3 _=X3;replace a3:=(congrFun Zp i3).symm.trans ag;replace a2:=((congrFun Zp i2).symm.trans (ab Xj)).trans a2;replace hs:=Eq.subst (motive:=aa _) Zp (hs.aE z3);clear Zp;refine Go.bP rfl rfl rfl (Gb b.atoms (by omega)) ?_;apply sG;simp only[go_sem,seval,a3];refine Go.bP rfl rfl rfl (yz b.Re (by omega)) ?_;apply sG;simp only[go_sem,seval,a3,a2,ak,ar,al,au,ab Xj,ab Xj];exact ay.pure ((hs.aE z3).aE z2) rfl
def uX(b:Bk)(hb:BkFull b):aV prog 56 [.rp (bt b)] (bY ⟨⟨0,0,true⟩,[]⟩):=λU=>by
 refine e56.r (by simp[c56]) ?_;have hs:=aa.refl U;refine ad.mix 4 ?_;apply sR;simp only[go_sem,seval,c56];refine af λi2 Z2 s2 a2 f2=>?_;have z2:=hs.none f2;replace hs:=hs.trans s2;simp only[go_sem,seval];refine ad.aB rfl rfl rfl (rU b hb.h1 _) ?_;apply sR;simp only[go_sem,seval,a2];refine⟨_,U,hs.aE z2,Wk.agg (vs':=[vI 0,vI 0,.bool true,aH []]) ⟨Wk.refl (hs.aE z2) _,Wk.refl (hs.aE z2) _,Wk.refl (hs.aE z2) _,Wk.aC 7,trivial⟩,rfl,rfl⟩
def og(a:P'):∀(p:List P') (i:Nat),kM a p i=-1\/∃k:Nat,kM a p i=((i+k:Nat):Int)/\k<p.length
 |[],_=>.inl rfl
 |q::r,i=>by
  rw[kM];split
  .exact .inr ⟨0,rfl,by simp⟩
  .rcases og a r (i+1)with h|⟨k,h1,h2⟩
   .exact .inl h
   .exact .inr ⟨k+1,by rw[h1];congr 1;omega,by simp;omega⟩
def ly(Re:List P'):List P'->Nat->Bool
 |[],_=>true
 |x::r,RD=>if kM x (Re.drop RD) 0<0 then false else ly Re r (RD+(kM x (Re.drop RD) 0).toNat+1)
def gy(b:Bk)(s:Sc):Prop:=ly b.Re s.bM 0=true/\(bZ b.atoms s.s\/s.s.atom=b.atoms.length/\s.s.done=0)
instance (b:Bk) (s:Sc):Decidable (gy b s):=by unfold gy;infer_instance
def G7(b:Bk)(hb:BkFull b)(s:Sc)(hp:s.bM.length<=1000000):aV prog 114 [.rp (bt b),bY s] (.bool (decide (gy b s))):=λU=>by
 refine Q5.r (by simp[Kb]) ?_;have hs:=aa.refl U;have h2:=hb.len;have h3:=hb.Uf;have XP:=gj s.bM;have Un:=gG b.atoms;refine ad.mix 13 ?_;apply sR;simp only[go_sem,seval,Kb,bY,ar,au];refine af λi3 Z3 s3 a3 f3=>?_;have z3:=hs.none f3;replace hs:=hs.trans s3;simp only[go_sem,seval,a3,XP];refine ad.loop (λm st=>∃(j RD:Nat),j<=s.bM.length/\m=s.bM.length-j/\RD<=b.Re.length/\ly b.Re s.bM 0=ly b.Re (s.bM.drop j) RD/\aa U st.U/\st.U i3=some ⟨45,4,[.agg [vI s.s.atom,vI s.s.done,.bool s.s.free,aH s.bM]]⟩/\st.s 0=.rp (bt b)/\st.s 3=.ptr i3 0 0/\st.s 5=vI RD/\st.s 10=aH s.bM/\st.s 11=vI s.bM.length/\st.s 12=vI j) s.bM.length ?_ ?_
 .exact⟨0,0,by omega,rfl,by omega,rfl,hs,a3,rfl,rfl,rfl,rfl,rfl,rfl⟩
 .clear hs a3;rintro m ⟨S,J⟩ ⟨j,RD,hj,rfl,SE,heq,hs,a3,t0,t3,t5,t10,t11,t12⟩;simp only at hs a3 t0 t3 t5 t10 t11 t12;refine ad.mix 13 ?_;by_cases H':j<s.bM.length
  .have q:((j:Int)<s.bM.length)=True:=eq_true (by omega);have Q9:=λU=>ke (U:=U) H';have UL:aQ s.bM[j]=.agg [vI s.bM[j].node,vI s.bM[j].side,vI s.bM[j].anchor,vI s.bM[j].x,vI s.bM[j].y,vI s.bM[j].w,vI s.bM[j].h]:=rfl;have hd:s.bM.drop j=s.bM[j]::s.bM.drop (j+1):=List.drop_eq_getElem_cons H';rw[hd,ly]at heq;have WE:=px SE;generalize s.bM[j]=f at*;have hic:=Ea (b.Re.drop RD) (by rw[List.length_drop];omega) f;rw[UL]at hic;have r1:Rq .i64 ((j:Int)+1):=ao (by omega) (by omega);apply sR;simp only[go_sem,seval,t0,t3,t5,t10,t11,t12,q,Q9,UL];refine af λi7 Z7 s7 a7 f7=>?_;have ZO:=aq a3 f7;replace a3:=s7 _ _ a3;have z7:=hs.none f7;replace hs:=hs.trans s7;simp only[BB,seval,<-decide_not,bw,fi,aL,cQ,eN,ej,eK,dY,ct,jS,gx,bI,fC,dN,fq,cP,bF,iN,dg,cT,ck,Sk,jV,dc,cc,iM,dI,cd,df,cY,kT,binBV,bW,dq,V.cells,V.stays,a7,W5,Cs,t0,t3,t5,t10,t11,t12,WE];generalize SY:C' _ i7 _=Y7;replace a7:=(congrFun SY i7).symm.trans ag;replace a3:=((congrFun SY i3).symm.trans (ab ZO)).trans a3;replace hs:=Eq.subst (motive:=aa _) SY (hs.aE z7);clear SY;refine Go.bP rfl rfl rfl hic ?_;have US:(b.Re.drop RD).length=b.Re.length-RD:=List.length_drop;rcases og f (b.Re.drop RD) 0 with h|⟨k,h,hk⟩
   .rw[h]at heq|-;rw[if_pos (by omega)]at heq;have hf:decide (gy b s)=false:=decide_eq_false λhm=>by rw[gy,heq]at hm;cases hm.1
    apply sG;simp only[go_sem,seval,t0,t3,t5,t10,t11,t12];rw[hf];exact ay.pure hs rfl
   .rw[h,Nat.zero_add]at heq|-;rw[if_neg (by omega),Int.toNat_natCast]at heq;have q1:((k:Int)<0)=False:=eq_false (by omega);have r2:Rq .i64 ((k:Int)+1):=ao (by omega) (by omega);have r3:Rq .i64 ((RD:Int)+(k+1)):=ao (by omega) (by omega);apply sG;simp only[go_sem,seval,t0,t3,t5,t10,t11,t12,q1,r1,r2,r3];refine⟨_,?_,j+1,RD+k+1,by omega,rfl,by omega,heq,hs,a3,rfl,?_,rfl⟩
    .omega
    .show V.int _ _=V.int _ _;congr 1
  .have q:((j:Int)<s.bM.length)=False:=eq_false (by omega);have SX:j=s.bM.length:=by omega
   rw[SX,List.drop_length,ly]at heq;have hmc:=p7 b.atoms s.s;rw[bj]at hmc;apply sR;simp only[go_sem,seval,t0,t3,t5,t10,t11,t12,q,a3,W5,gl];refine Go.bP rfl rfl rfl hmc ?_;have fin:∀v:Bool,decide (gy b s)=v->ay (.bool v) J λr Z'=>r=.bool (decide (gy b s))/\Z'=U:=λv h=>by rw[h];exact ay.pure hs rfl
   by_cases hm:bZ b.atoms s.s
   .have f:=fin true (decide_eq_true ⟨heq,.inl hm⟩);rw[decide_eq_true hm];generalize decide (gy b s)=B at*;apply sG;simp only[go_sem,seval];exact f
   rw[decide_eq_false hm];by_cases ha:s.s.atom=b.atoms.length
   .by_cases hd:s.s.done=0
    .have f:=fin true (decide_eq_true ⟨heq,.inr ⟨ha,hd⟩⟩);generalize decide (gy b s)=B at*;have q1:(s.s.atom=(b.atoms.length:Int))=True:=eq_true ha;have q2:(s.s.done=0)=True:=eq_true hd;apply sG;simp only[go_sem,seval,t0,t3,a3,W5,gl,Un,q1,q2];exact f
    .have f:=fin false (decide_eq_false λh=>by rcases h.2 with h|h;exact hm h;exact hd h.2)
     generalize decide (gy b s)=B at*;have q1:(s.s.atom=(b.atoms.length:Int))=True:=eq_true ha;have q2:(s.s.done=0)=False:=eq_false hd;apply sG;simp only[go_sem,seval,t0,t3,a3,W5,gl,Un,q1,q2];exact f
   .have f:=fin false (decide_eq_false λh=>by rcases h.2 with h|h;exact hm h;exact ha h.1)
    generalize decide (gy b s)=B at*;have q1:(s.s.atom=(b.atoms.length:Int))=False:=eq_false ha;apply sG;simp only[go_sem,seval,t0,t3,a3,W5,gl,Un,q1];exact f
def db(b:Bk)(s:Sc):Prop:=¬gy b s\/s.s.atom=b.atoms.length/\s.s.free=false/\s.bM=[]
instance (b:Bk) (s:Sc):Decidable (db b s):=by unfold db;infer_instance
def xc(b:Bk)(hb:BkFull b)(s:Sc)(hp:s.bM.length<=1000000):aV prog 57 [.rp (bt b),bY s] (.bool (decide (db b s))):=λU=>by
 refine e57.r (by simp[c57]) ?_;have hs:=aa.refl U;have h2:=hb.len;have XP:=gj s.bM;have Un:=gG b.atoms;have hmc:=G7 b hb s hp;rw[bY]at hmc;refine ad.mix 5 ?_;apply sR;simp only[go_sem,seval,c57,bY,ar,au];refine af λi3 Z3 s3 a3 f3=>?_;have z3:=hs.none f3;replace hs:=hs.trans s3;simp only[go_sem,seval];refine ad.aB rfl rfl rfl (rU b hb.h1 _) ?_;apply sR;simp only[go_sem,seval,a3];refine ad.aB rfl rfl rfl (hmc _) ?_;have fin:∀v:Bool,decide (db b s)=v->ay (.bool v) Z3 λr Z'=>r=.bool (decide (db b s))/\Z'=U:=λv h=>by rw[h];exact ay.pure hs rfl
 by_cases hm:gy b s
 .rw[decide_eq_true hm];by_cases ha:s.s.atom=b.atoms.length
  .have q1:(s.s.atom=(b.atoms.length:Int))=True:=eq_true ha;by_cases hf:s.s.free=true
   .have f:=fin false (decide_eq_false λh=>by rcases h with h|h;exact h hm;rw[hf]at h;cases h.2.1)
    generalize decide (db b s)=B at*;rw[hf]at a3;apply sR;simp only[go_sem,seval,a3,W5,gl,Un,q1];exact f
   .have UG:s.s.free=false:=by simpa using hf
    by_cases hn:s.bM=[]
    .have f:=fin true (decide_eq_true (.inr ⟨ha,UG,hn⟩));generalize decide (db b s)=B at*;have q2:((s.bM.length:Int)=0)=True:=eq_true (by rw[hn];rfl);rw[UG]at a3;apply sR;simp only[go_sem,seval,a3,W5,gl,Un,q1,XP,q2];exact f
    .have f:=fin false (decide_eq_false λh=>by rcases h with h|h;exact h hm;exact hn h.2.2)
     generalize decide (db b s)=B at*;have q2:((s.bM.length:Int)=0)=False:=eq_false (by have:=List.length_pos_iff.2 hn;omega);rw[UG]at a3;apply sR;simp only[go_sem,seval,a3,W5,gl,Un,q1,XP,q2];exact f
  .have f:=fin false (decide_eq_false λh=>by rcases h with h|h;exact h hm;exact ha h.1)
   generalize decide (db b s)=B at*;have q1:(s.s.atom=(b.atoms.length:Int))=False:=eq_false ha;apply sR;simp only[go_sem,seval,a3,W5,gl,Un,q1];exact f
 .rw[decide_eq_false hm];have f:=fin true (decide_eq_true (.inl hm));generalize decide (db b s)=B at*;apply sR;simp only[go_sem,seval];exact f
open Go.Proofs Go.Proofs.Tryz
structure Uh where
 (no kind:Int)
 (hs fs ls:List SU)
def bb(l:List SU):V:=.sl 7 (l.map bo)
def cD(p:Uh):V:=.agg [vI p.no,vI p.kind,bb p.hs,bb p.fs,bb p.ls]
def rR{s:Nat->V}{U:ai}{a1 a2:Bool}{n1 n2 d e t:Nat}{Post:V->ai->Prop}:
 Vr [.cell a1 n1 (.t d),.cell a2 n2 (.t e),.tmp (.t t)] ⟨s,U⟩ Post=dV (bS U a1 n1 (s d)) λv=>dV (bS U a2 n2 (s e)) λw=>ay (.Rf [v,w,s t]) U Post:=by
 unfold Vr ay mW;simp only[eX,gC,VX.ev];cases bS U a1 n1 (s d)<;>cases bS U a2 n2 (s e)<;>simp[dV]
def rZ{body:Int}:∀(l:List P') (sh:Int),0<=sh->sh<=body->(∀f∈l,0<=f.h)->(dG body l sh).1.length<=l.length/\(∀m∈(dG body l sh).1,0<=m.y/\m.y<=body)/\0<=(dG body l sh).2.2/\(dG body l sh).2.2<=body
 |[],sh,h0,h1,_=>by simp[dG];omega
 |f::r,sh,h0,h1,hh=>by
  rw[dG];have hf:=hh f (by simp);split
  .simp;omega
  .rename_i hc;obtain⟨g1,g2,g3,g4⟩:=rZ (body:=body) r (sh+min f.h body) (by omega) (by omega) (λg hg=>hh g (by simp[hg]));refine⟨by simp;omega,λm hm=>?_,g3,g4⟩;rcases List.mem_cons.1 hm with rfl|hm
   .simp only;omega
   .exact g2 m hm
def AI{l:List Nd}{x:Kp}{a:Int}(h:1<=x.body):1<=(iY l x a).body:=by
 unfold iY;split
 .exact h
 .simp only;omega
def pf{l:List Nd}{L:List Int}{h:Int}(hh:1<=h):∀m,1<=(gw l L h m).body
 |0=>hh
 |m+1=>AI (pf hh m)
def iH{b:Bk}(hb:BkFull b)(s:R0)(h0:0<=s.atom):1<=(bf b s).body:=by
 have h1:=hb.h1;unfold bf;split
 .exact h1
 .rename_i he;have hl0:0<b.atoms.length:=List.length_pos_iff.2 he;obtain⟨k,hk⟩:∃k:Nat,min s.atom ((b.atoms.length:Int)-1)=k:=⟨(min s.atom ((b.atoms.length:Int)-1)).toNat,by omega⟩
  have Tv:k<b.atoms.length:=by omega
  have hn:=hb.nod _ (List.getElem_mem Tv);rw[hk,bz Tv];have hm:iZ b.nodes b.h=true:=by simp[iZ,hb.XN,hb.h1,hb.h2]
  unfold rv;rw[if_pos ⟨hm,hn⟩];exact pf h1 _
def mM{Re:List P'}:∀(p:List P') (RD:Nat),ly Re p RD=true->∀f∈p,f∈Re
 |[],_,_,f,hf=>by cases hf
 |x::r,RD,h,f,hf=>by
  rw[ly]at h;split at h
  .cases h
  .rename_i hk;rcases List.mem_cons.1 hf with rfl|hf
   .have key:∀(l:List P') (i:Nat),¬kM f l i<0->f∈l:=by
     intro l
     induction l with
     |nil=>intro i h;simp[kM]at h
     |cons q l ih=>
      intro i h;rw[kM]at h;split at h
      .rename_i e;simp[e]
      .exact List.mem_cons_of_mem _ (ih _ h)
    exact List.mem_of_mem_drop (key _ _ hk)
   .exact mM r _ h f hf
def jR(x:Wx):Uh:=⟨0,x.kind,x.hs,x.fs,x.ls⟩
def dt(b:Bk)(s:Sc):Wx:={ (({ bX b s.s .aC with shift:=(dG (bf b s.s).body s.bM 0).2.2 }:Wx).put (dG (bf b s.s).body s.bM 0).1)with kind:=0 }
def jE(b:Bk)(s:Sc):Prop:=s.s.atom=b.atoms.length\/(dG (bf b s.s).body s.bM 0).2.1≠[]\/(dG (bf b s.s).body s.bM 0).2.2>0/\gP b.atoms s.s>(bf b s.s).body-(dG (bf b s.s).body s.bM 0).2.2
instance (b:Bk) (s:Sc):Decidable (jE b s):=by unfold jE;infer_instance
def aW(b:Bk)(s:Sc):Uh×Sc:=
 if b.atoms=[]/\s.s.free=true then(jR (tu b (bX b s.s .aC)),mn b (bX b s.s .aC))
 else if jE b s then(jR { dt b s with kind:=2 },⟨⟨s.s.atom,s.s.done,s.s.free&&decide (s.s.atom<b.atoms.length)⟩,(dG (bf b s.s).body s.bM 0).2.1⟩)
 else(jR (eu b (dt b s)),eW b (dt b s))
def qh(b:Bk)(x:Wx)(h:V):jR (eu b { x with Rj:=h })=jR (eu b x)/\eW b { x with Rj:=h }=eW b x:=by
 unfold eu eW;by_cases hc:eO b.L' x.s.atom (cH b x)
 .rw[if_pos (show eO b.L' ({ x with Rj:=h }:Wx).s.atom (cH b { x with Rj:=h })from hc),if_pos (show eO b.L' ({ x with Rj:=h }:Wx).s.atom (cH b { x with Rj:=h })from hc),if_pos hc,if_pos hc];exact⟨rfl,rfl⟩
 .rw[if_neg (show¬eO b.L' ({ x with Rj:=h }:Wx).s.atom (cH b { x with Rj:=h })from hc),if_neg (show¬eO b.L' ({ x with Rj:=h }:Wx).s.atom (cH b { x with Rj:=h })from hc),if_neg hc,if_neg hc];exact⟨rfl,rfl⟩
def Tw.aE{b:Bk}{K:ai}{ix:Nat}{x:Wx}{U:ai}{vh vf vl:V}(h:Tw b K ix x U vh vf vl){i:Nat}{o:Ob}(hi:K i=some o)(o':Ob):Tw b (C' K i o') ix x (C' U i o') vh vf vl:=by
 have hn:ix≠i:=λe=>by have:=h.no;subst e;rw[this]at hi;cases hi
 have key:∀{v rows},aT (bg K ix) U 63 7 v rows->aT (bg (C' K i o') ix) (C' U i o') 63 7 v rows:=λhv=>by
  rcases hv with h|⟨a,e,h3,h4⟩
  .exact .inl h
  .have hk:=(aM.1 h4).2;have ha:a≠i:=λe=>by subst e;rw[hk]at hi;cases hi
   exact .inr ⟨a,e,(Vc.ab ha).trans h3,aM.2 ⟨(aM.1 h4).1,(Vc.ab ha).trans hk⟩⟩
 refine⟨(Vc.ab hn).trans h.row,key h.oh,key h.of,key h.ol,h.hf,h.hl,h.fl,λa q ha=>?_,(Vc.ab hn).trans h.no⟩;by_cases e:a=i
 .subst e;rw[Vc.ag]at ha|-;exact ha
 .rw[Vc.ab e]at ha|-;exact h.sub _ _ ha
def Tw.ret{b:Bk}{K Z0:ai}{ix:Nat}{x:Wx}{U:ai}{vh vf vl:V}(h:Tw b K ix x U vh vf vl)(h0:aa Z0 K)(S:V)(e:Int):
 ay (.Rf [.agg [vI 0,vI x.kind,vh,vf,vl],S,vI e]) U λr Z'=>r=.Rf [cD (jR x),S,vI e]/\Z'=Z0:=by
 have hs:=h0.trans h.sub;have hK:aa Z0 (bg K ix):=λi o hh=>by
  rw[bg,if_neg (λe=>by rw[e]at hh;have:=h0 _ _ hh;rw[h.no]at this;cases this)];exact h0 _ _ hh
 exact⟨_,Z0,hs,Wk.Rf (vs':=[cD (jR x),S,vI e]) ⟨Wk.agg (vs':=[vI 0,vI x.kind,bb x.hs,bb x.fs,bb x.ls]) ⟨Wk.refl hs _,Wk.refl hs _,h.oh.wk hK hs,h.of.wk hK hs,h.ol.wk hK hs,trivial⟩,Wk.refl hs _,Wk.refl hs _,trivial⟩,rfl,rfl⟩
def B2(b:Bk)(hb:BkFull b)(hfh:∀f∈b.Re,0<=f.h)(s:Sc)(hp:s.bM.length<=1000000):
 aV prog 58 [.rp (bt b),bY s] (if db b s then .Rf [cD ⟨0,0,[],[],[]⟩,bY ⟨⟨0,0,false⟩,[]⟩,vI 4]else .Rf [cD (aW b s).1,bY (aW b s).2,vI 0]):=λU=>by
 refine e58.r (by simp[c58]) ?_;have hs:=aa.refl U;have h2:=hb.len;have XP:=gj s.bM;have Un:=gG b.atoms;have XY:=xc b hb s hp;rw[bY]at XY;refine ad.mix 12 ?_;apply sR;simp only[go_sem,seval,c58,bY,ar,au];refine af λi3 Z3 s3 a3 f3=>?_;have z3:=hs.none f3;replace hs:=hs.trans s3;simp only[go_sem,seval];refine af λi4 Z4 s4 a4 f4=>?_;have YE:=aq a3 f4;replace a3:=s4 _ _ a3;have z4:=hs.none f4;replace hs:=hs.trans s4;simp only[go_sem,seval];refine af λi5 Z5 s5 a5 f5=>?_;have Yc:=aq a3 f5;replace a3:=s5 _ _ a3;have Tp:=aq a4 f5;replace a4:=s5 _ _ a4;have z5:=hs.none f5;replace hs:=hs.trans s5;simp only[go_sem,seval,a3];refine ad.aB rfl rfl rfl (XY _) ?_;by_cases hm:db b s
 .rw[if_pos hm,decide_eq_true hm];have VZ:=Tp.symm;apply sR;simp only[go_sem,seval,a4,a5,ab Tp,ab VZ,rR];have Ru:=(hs.aE (o:=⟨37,5,[.agg [vI 0,vI 0,.aC,.aC,.aC]]⟩) z4).aE (o:=⟨45,4,[.agg [vI 0,vI 0,.bool false,.aC]]⟩) z5;exact⟨_,U,Ru,Wk.Rf (vs':=[cD ⟨0,0,[],[],[]⟩,bY ⟨⟨0,0,false⟩,[]⟩,vI 4]) ⟨Wk.agg (vs':=[vI 0,vI 0,bb [],bb [],bb []]) ⟨Wk.refl Ru _,Wk.refl Ru _,Wk.aC 7,Wk.aC 7,Wk.aC 7,trivial⟩,Wk.agg (vs':=[vI 0,vI 0,.bool false,aH []]) ⟨Wk.refl Ru _,Wk.refl Ru _,Wk.refl Ru _,Wk.aC 7,trivial⟩,Wk.refl Ru _,trivial⟩,rfl,rfl⟩
 .rw[if_neg hm,decide_eq_false hm];have RZ:gy b s:=Decidable.byContradiction λh=>hm (.inl h);have X7:¬(s.s.atom=b.atoms.length/\s.s.free=false/\s.bM=[]):=λh=>hm (.inr h);have SE:0<=s.s.atom:=by rcases RZ.2 with h|h;exact h.1.1;omega
  have YQ:∀f∈s.bM,0<=f.h:=λf hf=>hfh f (mM _ _ RZ.1 f hf);have VU:=mN hb s.s;have hr1:=iH hb s.s SE;have hbc:=E1 b hb s.s SE Z5;rw[bj]at hbc;apply sR;simp only[go_sem,seval,a3,W5,gl];refine ad.call rfl rfl rfl hbc ?_;rintro r Z6 ⟨i1,vh,hv,rfl,hJ⟩;have c3:=hJ.sub _ _ a3;have xs:(bX b s.s hv).s=s.s:=rfl;have xb:(bX b s.s hv).body=(bf b s.s).body:=rfl;have xh:(bX b s.s hv).high=(bf b s.s).high:=rfl;have xl:(bX b s.s hv).ls=[]:=rfl;have xf:(bX b s.s hv).fs=[]:=rfl;have xk:(bX b s.s hv).kind=0:=rfl;have Vs:aa U Z5:=hs;by_cases h0:b.atoms=[]/\s.s.free=true
  .obtain⟨h01,h02⟩:=h0;have q1:((b.atoms.length:Int)=0)=True:=eq_true (by rw[h01];rfl);rw[aW,if_pos ⟨h01,h02⟩];have W4:=Fy b hb.toBkOk (bX b s.s hv) (by rw[xl];simp) (by rw[xh];have:=VU.high;omega) hJ;have e1:jR (tu b (bX b s.s .aC))=jR (tu b (bX b s.s hv)):=rfl;have e2:mn b (bX b s.s .aC)=mn b (bX b s.s hv):=rfl;rw[e1,e2];generalize tu b (bX b s.s hv)=X at*;generalize mn b (bX b s.s hv)=Z at*;rw[h02]at c3;apply sR;simp only[go_sem,seval,q1,Un,c3,W5,gl];refine ad.call rfl rfl rfl W4 ?_;rintro r Z7 ⟨Uz,rfl,ZT⟩;have d5:=ZT.sub _ _ a5;apply sR;simp only[go_sem,seval,d5,bY,ar,au,dj];have SF:=ZT.aE a5 ⟨45,4,[.agg [vI Z.s.atom,vI Z.s.done,.bool Z.s.free,aH Z.bM]]⟩;generalize SC:C' Z7 i5 _=Y8 at*;have b1:=SF.row;rw[du]at b1;have b5:=SF.sub _ _ ag;have b4:=SF.sub i4 _ ((ab Tp).trans a4);obtain⟨ch,sh⟩:=SF.oh.vc;obtain⟨cf,sf⟩:=SF.of.vc;obtain⟨cl,sl⟩:=SF.ol.vc;have VZ:=Tp.symm;refine ad.rz (by kernel_rfl) [0,1,2,3,4,5,6,7] [[],[0],[0,1],[0,1,2],[],[0,1,2,3],[0,1,2,3,4,5],[0,1,2,3,4,5,6]] [0,2,4,6,8,10,9,12,14] (by kernel_rfl) (by kernel_rfl) ?_;refine RE.Sg (n:=0) [9,12,14] [0,2,4,6,8,10] [⟨(.some 36),(.Rn (.t 8)),.none⟩,⟨(.some 37),(.nilCheck (.t 36)),.none⟩,⟨(.some 38),(.Rz .true 7 5 (.t 37)),.none⟩,⟨(.some 39),(.load .true 5 (.t 38)),.none⟩,⟨(.some 40),(.load .true 4 (.t 5)),.none⟩,⟨.none,(.store 5 (.t 4) (.t 39)),.none⟩] rfl rfl ?_;apply sG;simp only[go_sem,seval,b1,b4,b5,ch,sh,cf,sf,cl,sl,ar,au,ab VZ,ab Tp];refine RE.SB rfl rfl rfl rfl rfl trivial (by simp only[go_sem,seval,b1,b4,b5,ab VZ,ab Tp]) ?_;refine RE.Sg (n:=0) [] [12,14] [⟨.none,(.store 4 (.t 5) (.t 40)),.none⟩,⟨(.some 6),(.Rn (.c (.int .i64 0))),.none⟩] rfl rfl ?_;apply sG;simp only[go_sem,seval,b1,b4,b5,ch,sh,cf,sf,cl,sl,ar,au,ab VZ,ab Tp];apply sR;simp only[go_sem,seval,b1,b4,b5,rR,ab VZ,ab Tp];exact((SF.aE ((ab Tp).trans a4) _).aE ((ab VZ).trans ag) _).ret (((Vs.aE z5).aE z4).aE z5) _ _
  .have Zj:aW b s=if jE b s then(jR { dt b s with kind:=2 },⟨⟨s.s.atom,s.s.done,s.s.free&&decide (s.s.atom<b.atoms.length)⟩,(dG (bf b s.s).body s.bM 0).2.1⟩)else(jR (eu b (dt b s)),eW b (dt b s)):=by rw[aW,if_neg h0]
   have htc:=FM s.bM hp (bf b s.s).body hr1 (by have:=VU.body;omega) YQ;obtain⟨g1,g2,g3,g4⟩:=rZ (body:=(bf b s.s).body) s.bM 0 (Int.le_refl _) (by omega) YQ;have W4:=HT b.atoms hb.RD s.s (by
    rcases RZ.2 with h|h
    .have:=pP hb.toBkOk h;omega
    .omega)
   rw[bj]at W4;have b1:=hJ.row;simp only[du,bX]at b1;have hfw:=HR b hb.toBkOk;have hX:∀x:Wx,x=({ bX b s.s hv with shift:=(dG (bf b s.s).body s.bM 0).2.2 }:Wx).put (dG (bf b s.s).body s.bM 0).1->jR { x with kind:=2 }=jR { dt b s with kind:=2 }/\jR (eu b x)=jR (eu b (dt b s))/\eW b x=eW b (dt b s):=λx hx=>by
    subst hx;exact⟨rfl,(qh b (dt b s) hv).1,(qh b (dt b s) hv).2⟩
   have hp1:jE b s->aW b s=_:=λh=>Zj.trans (if_pos h);have hp2:¬jE b s->aW b s=_:=λh=>Zj.trans (if_neg h);clear Zj;unfold jE at hp1 hp2;generalize dt b s=TX at*;generalize dG (bf b s.s).body s.bM 0=T at*;obtain⟨put,left,WT⟩:=T;simp only at htc g1 g2 g3 g4 hX hp1 hp2;have XO:=gj left;have hq:(((b.atoms.length:Int)=0)=True/\s.s.free=false)\/(((b.atoms.length:Int)=0)=False/\True):=by
    by_cases he:b.atoms=[]
    .exact .inl ⟨eq_true (by rw[he];rfl),by
      cases Us:s.s.free
      .rfl
      .exact absurd ⟨he,Us⟩ h0⟩
    .exact .inr ⟨eq_false (by have:=List.length_pos_iff.2 he;omega),trivial⟩
   rcases hq with⟨q,hf⟩|⟨q,hf⟩
   all_goals
    apply sR;simp only[go_sem,seval,q,hf,Un,c3,b1,W5,gl];refine Go.bP rfl rfl rfl htc ?_;apply sG;simp only[go_sem,seval,b1];generalize SY:C' Z6 i1 _=Y7;have ZT:Tw b Z5 i1 { bX b s.s hv with shift:=WT } Y7 vh .aC .aC:=by
     rw[<-SY];exact hJ.set _ rfl rfl rfl
    refine ad.call rfl rfl rfl (mJ b put (by omega) { bX b s.s hv with shift:=WT } (by simp[bX]) (λf hf=>by
     have:=g2 f hf;have:=VU.high;have:=VU.body;exact ao (by show _<=f.y+(bf b s.s).high;omega) (by show f.y+(bf b s.s).high<=_;omega)) ZT) ?_
    rintro-Z8 ⟨Uz,SF⟩;obtain⟨x1,x2,x3⟩:=hX _ rfl;have c3:=SF.sub _ _ a3;have d5:=SF.sub _ _ a5;have b1:=SF.row;have ys:(Wx.put { bX b s.s hv with shift:=WT } put).s=s.s:=rfl;have yb:(Wx.put { bX b s.s hv with shift:=WT } put).body=(bf b s.s).body:=rfl;have yh:(Wx.put { bX b s.s hv with shift:=WT } put).high=(bf b s.s).high:=rfl;have yw:(Wx.put { bX b s.s hv with shift:=WT } put).shift=WT:=rfl;have yf:(Wx.put { bX b s.s hv with shift:=WT } put).fs.length<=1000000:=by simp[Wx.put,bX]
    have yl:(Wx.put { bX b s.s hv with shift:=WT } put).ls.length<=1000000:=by simp[Wx.put,bX];omega
    generalize Wx.put { bX b s.s hv with shift:=WT } put=Y at*;rw[du]at b1;have YO:i1≠i5:=λe=>by have:=SF.no;rw[e,a5]at this;cases this
    have n51:=YO.symm;have VZ:=Tp.symm;have r1:Rq .i64 ((bf b s.s).body-WT):=ao (by omega) (by have:=VU.body;omega);rw[<-yb]at r1 hp1 hp2;by_cases WA:s.s.atom=b.atoms.length\/left≠[]\/WT>0/\gP b.atoms s.s>Y.body-WT
    .rw[hp1 WA,<-x1];have hw:((s.s.atom=(b.atoms.length:Int))=True/\True/\True/\True)\/((s.s.atom=(b.atoms.length:Int))=False/\((left.length:Int)>0)=True/\True/\True)\/
      ((s.s.atom=(b.atoms.length:Int))=False/\((left.length:Int)>0)=False/\(WT>0)=True/\(gP b.atoms s.s>Y.body-WT)=True):=by
      by_cases hA:s.s.atom=b.atoms.length
      .exact .inl ⟨eq_true hA,trivial,trivial,trivial⟩
      by_cases hB:left=[]
      .obtain⟨hC,hD⟩:=(WA.resolve_left hA).resolve_left (λh=>h hB);exact .inr (.inr ⟨eq_false hA,eq_false (by rw[hB];simp),eq_true hC,eq_true hD⟩)
      .exact .inr (.inl ⟨eq_false hA,eq_true (by have:=List.length_pos_iff.2 hB;omega),trivial,trivial⟩)
     obtain⟨VAL,hV⟩:∃VAL:Bool,VAL=(s.s.free&&decide (s.s.atom<b.atoms.length)):=⟨_,rfl⟩
     have U9:i3≠i1:=λe=>by have:=SF.no;rw[<-e,a3]at this;cases this
     cases Us:s.s.free
     all_goals
      simp only[Us,Bool.false_and,Bool.true_and]at hV;rw[Us]at W4;rcases hw with⟨qA,qB,qC,qD⟩|⟨qA,qB,qC,qD⟩|⟨qA,qB,qC,qD⟩
      all_goals
       apply sR;simp only[go_sem,seval,c3,d5,b1,Un,XO,qA,qB,qC,W5,gl,Us,ab YO,ab n51,ab U9,ab Yc,dj,ar,au]
       try
        refine Go.bP rfl rfl rfl W4 ?_;apply sG;simp only[go_sem,seval,c3,d5,b1,r1,qD,Un,XO,W5,gl,Us,ab YO,ab n51,ab U9,ab Yc,dj,ar,au]
       generalize SC:C' (C' Z8 i1 _) i5 _=Y8;have SF:Tw b (C' Z5 i5 ⟨45,4,[.agg [vI s.s.atom,vI s.s.done,.bool VAL,aH left]]⟩) i1 { Y with kind:=2 } Y8 vh .aC Uz:=by
        rw[<-SC,hV];exact(SF.set { Y with kind:=2 } rfl rfl rfl).aE a5 _
       clear SC;have b1:=SF.row;rw[du]at b1;have b5:=SF.sub _ _ ag;rw[hV]at b5;have b4:=SF.sub i4 _ ((ab Tp).trans a4);obtain⟨ch,sh⟩:=SF.oh.vc;obtain⟨cf,sf⟩:=SF.of.vc;obtain⟨cl,sl⟩:=SF.ol.vc;refine ad.rz (by kernel_rfl) [0,1,2,3,4,5,6,7] [[],[0],[0,1],[0,1,2],[],[0,1,2,3],[0,1,2,3,4,5],[0,1,2,3,4,5,6]] [0,2,4,6,8,10,9,12,14] (by kernel_rfl) (by kernel_rfl) ?_;refine RE.Sg (n:=0) [9,12,14] [0,2,4,6,8,10] [⟨(.some 110),(.Rn (.t 8)),.none⟩,⟨(.some 111),(.nilCheck (.t 110)),.none⟩,⟨(.some 112),(.Rz .true 7 5 (.t 111)),.none⟩,⟨(.some 113),(.load .true 5 (.t 112)),.none⟩,⟨(.some 114),(.load .true 4 (.t 5)),.none⟩,⟨.none,(.store 5 (.t 4) (.t 113)),.none⟩] rfl rfl ?_;apply sG;simp only[go_sem,seval,b1,b4,b5,ch,sh,cf,sf,cl,sl,ar,au,ab VZ,ab Tp];refine RE.SB rfl rfl rfl rfl rfl trivial (by simp only[go_sem,seval,b1,b4,b5,ab VZ,ab Tp]) ?_;refine RE.Sg (n:=0) [] [12,14] [⟨.none,(.store 4 (.t 5) (.t 114)),.none⟩,⟨(.some 6),(.Rn (.c (.int .i64 0))),.none⟩] rfl rfl ?_;apply sG;simp only[go_sem,seval,b1,b4,b5,ch,sh,cf,sf,cl,sl,ar,au,ab VZ,ab Tp];apply sR;simp only[go_sem,seval,b1,b4,b5,rR,ab VZ,ab Tp];exact((SF.aE ((ab Tp).trans a4) _).aE ((ab VZ).trans ag) _).ret (((Vs.aE z5).aE z4).aE z5) _ _
    .rw[hp2 WA,<-x2,<-x3];have hA:¬s.s.atom=b.atoms.length:=λh=>WA (.inl h);have VE:bZ b.atoms s.s:=RZ.2.resolve_right λh=>hA h.1;have hw:((s.s.atom=(b.atoms.length:Int))=False/\((left.length:Int)>0)=False/\(WT>0)=False/\True)\/((s.s.atom=(b.atoms.length:Int))=False/\((left.length:Int)>0)=False/\(WT>0)=True/\(gP b.atoms s.s>Y.body-WT)=False):=by
      have hB:left=[]:=Decidable.byContradiction λh=>WA (.inr (.inl h));have hB':((left.length:Int)>0)=False:=eq_false (by rw[hB];simp);by_cases hC:WT>0
      .exact .inr ⟨eq_false hA,hB',eq_true hC,eq_false λh=>WA (.inr (.inr ⟨hC,h⟩))⟩
      .exact .inl ⟨eq_false hA,hB',eq_false hC,trivial⟩
     have hwf:=hfw Y (by rw[ys];exact VE) yf yl (by rw[yh];have:=VU.high;omega) (by rw[yb];have:=VU.body;omega) (by rw[yw];have:=VU.body;omega) SF;generalize eu b Y=X at*;generalize eW b Y=Z at*;rcases hw with⟨qA,qB,qC,qD⟩|⟨qA,qB,qC,qD⟩
     all_goals
      apply sR;simp only[go_sem,seval,c3,Un,qA,XO,qB,qC,W5,gl]
      try
       refine Go.bP rfl rfl rfl W4 ?_;apply sG;simp only[go_sem,seval,b1,r1,qD]
      refine ad.call rfl rfl rfl hwf ?_;rintro-Z9 ⟨U4,vl'',rfl,Te⟩;have e5:=Te.sub _ _ a5;apply sR;simp only[go_sem,seval,e5,bY,ar,au,dj];have SF:=Te.aE a5 ⟨45,4,[.agg [vI Z.s.atom,vI Z.s.done,.bool Z.s.free,aH Z.bM]]⟩;generalize SC:C' Z9 i5 _=Y8 at*;have b1:=SF.row;rw[du]at b1;have b5:=SF.sub _ _ ag;have b4:=SF.sub i4 _ ((ab Tp).trans a4);obtain⟨ch,sh⟩:=SF.oh.vc;obtain⟨cf,sf⟩:=SF.of.vc;obtain⟨cl,sl⟩:=SF.ol.vc;refine ad.rz (by kernel_rfl) [0,1,2,3,4,5,6,7] [[],[0],[0,1],[0,1,2],[],[0,1,2,3],[0,1,2,3,4,5],[0,1,2,3,4,5,6]] [0,2,4,6,8,10,9,12,14] (by kernel_rfl) (by kernel_rfl) ?_;refine RE.Sg (n:=0) [9,12,14] [0,2,4,6,8,10] [⟨(.some 117),(.Rn (.t 8)),.none⟩,⟨(.some 118),(.nilCheck (.t 117)),.none⟩,⟨(.some 119),(.Rz .true 7 5 (.t 118)),.none⟩,⟨(.some 120),(.load .true 5 (.t 119)),.none⟩,⟨(.some 121),(.load .true 4 (.t 5)),.none⟩,⟨.none,(.store 5 (.t 4) (.t 120)),.none⟩] rfl rfl ?_;apply sG;simp only[go_sem,seval,b1,b4,b5,ch,sh,cf,sf,cl,sl,ar,au,ab VZ,ab Tp];refine RE.SB rfl rfl rfl rfl rfl trivial (by simp only[go_sem,seval,b1,b4,b5,ab VZ,ab Tp]) ?_;refine RE.Sg (n:=0) [] [12,14] [⟨.none,(.store 4 (.t 5) (.t 121)),.none⟩,⟨(.some 6),(.Rn (.c (.int .i64 0))),.none⟩] rfl rfl ?_;apply sG;simp only[go_sem,seval,b1,b4,b5,ch,sh,cf,sf,cl,sl,ar,au,ab VZ,ab Tp];apply sR;simp only[go_sem,seval,b1,b4,b5,rR,ab VZ,ab Tp];exact((SF.aE ((ab Tp).trans a4) _).aE ((ab VZ).trans ag) _).ret (((Vs.aE z5).aE z4).aE z5) _ _
def W6(cnt:Nat->Nat)(a n:Nat):List Int:=(List.range' a n).flatMap λi=>List.replicate (cnt i) (i:Int)
def jn(cnt:Nat->Nat)(a:Nat):W6 cnt a 0=[]:=rfl
def gV(cnt:Nat->Nat)(a n:Nat):W6 cnt a (n+1)=List.replicate (cnt a) (a:Int)++W6 cnt (a+1) n:=by
 simp[W6,List.range'_succ]
def mP{f g:Nat->Nat}:∀(n a:Nat),(∀i,a<=i->i<a+n->f i=g i)->W6 f a n=W6 g a n
 |0,_,_=>rfl
 |n+1,a,h=>by
  rw[gV,gV,h a (Nat.le_refl a) (by omega),mP n (a+1) (λi h1 h2=>h i (by omega) (by omega))]
def yG(cnt:Nat->Nat):∀(n a m:Nat),W6 cnt a (n+m)=W6 cnt a n++W6 cnt (a+n) m
 |0,a,m=>by simp[jn]
 |n+1,a,m=>by
  rw[show n+1+m=(n+m)+1 by omega,gV,gV,yG cnt n (a+1) m,List.append_assoc,show a+1+n=a+(n+1) by omega]
def Ib(f g:Nat->Nat)(a n m:Nat):W6 f a n++W6 g (a+n) m=W6 (λi=>if i<a+n then f i else g i) a (n+m):=by
 rw[yG];congr 1
 .exact mP n a λi h1 h2=>by simp[h2]
 .exact mP m (a+n) λi h1 h2=>by simp[show¬i<a+n by omega]
structure AtI(C:Int)(x:RY):Prop where
 y0:0<=x.y
 y1:x.y<=C
 h0:1<=x.h
 h1:x.h<=1099511627776
def AtI.mono{B C:Int}{x:RY}(h:AtI B x)(hB:B<=C):AtI C x:=⟨h.y0,Int.le_trans h.y1 hB,h.h0,h.h1⟩
def l6(a:Nat)(h:Int):∀(L:List Ln) (s:WS),(hU a h s L).atoms=s.atoms++L.map (fg a h)
 |[],s=>by simp[hU]
 |x::L,s=>by
  have:=l6 a h L (s.put (fg a h x));simp only[hU,List.foldl_cons]at this|-;rw[this];simp[WS.put]
def GP(a:Nat)(h:Int)(L:List Ln):(L.map (fg a h)).map (·.node)=List.replicate L.length (a:Int):=by
 rw[List.map_map]
 induction L with
 |nil=>rfl
 |cons x L ih=>rw[List.map_cons,ih];rfl
def CV{l:List Nd}{a e:Nat}(he:e<=l.length)(h:cu l a e=true)(WN:a<e)(hk:(RI l a).kind≠1):RO l a<=1:=by
 have ha:a<l.length:=by omega
 rw[iS ha]at hk;rw[cu,dif_pos WN]at h;simp only[List.getElem?_eq_getElem ha]at h;split at h
 .simp only[Ba,Bool.or_eq_true,decide_eq_true_eq]at h;have:=h.1.1.resolve_left hk;simp only[RO,List.getElem?_eq_getElem ha,Option.map_some,Option.getD_some];omega
 .cases h
structure zi(l:List Nd)(s t:WS)(a e C:Nat):Prop where
 RD:∀x∈t.atoms,AtI (1099511627776*(C:Int)) x
 nodes:∃cnt,t.atoms.map (·.node)=s.atoms.map (·.node)++W6 cnt a (e-a)/\∀i,a<=i->i<e->okN (RI l i) (cnt i)=true
def zi.join{l:List Nd}{s t u:WS}{a m e C D:Nat}(h1:a<=m)(h2:m<=e)(hA:zi l s t a m C)(hB:zi l t u m e D):zi l s u a e D:=by
 obtain⟨_,f,hf,V8⟩:=hA;obtain⟨SE,g,hg,Tj⟩:=hB;refine⟨SE,λi=>if i<m then f i else g i,?_,λi h3 h4=>?_⟩
 .rw[hg,hf,List.append_assoc];congr 1;obtain⟨n,rfl⟩:∃n,m=a+n:=⟨m-a,by omega⟩
  obtain⟨k,rfl⟩:∃k,e=a+n+k:=⟨e-(a+n),by omega⟩
  rw[show a+n-a=n by omega,show a+n+k-(a+n)=k by omega,show a+n+k-a=n+k by omega,Ib]
 .simp only;split
  .exact V8 i h3 (by omega)
  .exact Tj i (by omega) h4
def rO{l:List Nd}{rs:List Rm}(hD:Yj l rs):∀(k a e:Nat) (s:WS) (C:Nat),e-a<=k->a<=e->e<=l.length->cu l a e=true->fS s C->(∀x∈s.atoms,AtI (1099511627776*(C:Int)) x)->zi l s (eA l rs k a e s) a e (C+SG l a e)
 |0,a,e,s,C,hk,WN,_,_,h,hx=>by
  obtain rfl:a=e:=by omega
  refine⟨λx RN=>(hx x RN).mono (by omega),λ_=>0,by simp[eA,jn],λi h1 h2=>by omega⟩
 |k+1,a,e,s,C,hk,WN,he,hr,h,hx=>by
  rw[eA];by_cases H':a<e
  .rw[if_pos H'];obtain⟨h1,h2⟩:=dr he hr (Nat.le_refl a) H';obtain⟨h3,h4⟩:=ei he hr H';have RL:YL (RI l a):=by rw[iS (by omega)];exact gr hD.XN (by omega)
   have Yz:SG l a e=SG l a (a+(RO l a).toNat)+SG l (a+(RO l a).toNat) e:=kW (by omega) (by omega) he;have hc2:SG l a (a+(RO l a).toNat)=4+(RI l a).words.length+SG l (a+1) (a+(RO l a).toNat):=uv (by omega) (by omega);have step:∀t,fS t (C+SG l a (a+(RO l a).toNat))->zi l s t a (a+(RO l a).toNat) (C+SG l a (a+(RO l a).toNat))->zi l s (eA l rs k (a+(RO l a).toNat) e t) a e (C+SG l a e):=λt ht hA=>by
    rw[Yz,<-Nat.add_assoc];exact hA.join (by omega) (by omega) (rO hD k _ e t _ (by omega) (by omega) he h3 ht hA.RD)
   have one:∀(t:WS) (n:Nat),okN (RI l a) n=true->(RO l a).toNat=1->t.atoms.map (·.node)=s.atoms.map (·.node)++List.replicate n (a:Int)->(∀x∈t.atoms,AtI (1099511627776*((C+SG l a (a+(RO l a).toNat):Nat):Int)) x)->zi l s t a (a+(RO l a).toNat) (C+SG l a (a+(RO l a).toNat)):=λt n hn Tl hm SE=>by
    refine⟨SE,λ_=>n,?_,λi h5 h6=>?_⟩
    .rw[hm,Tl,show a+1-a=1 by omega,gV,jn,List.append_nil]
    .obtain rfl:i=a:=by omega
     exact hn
   obtain⟨⟨hf,p1,p2,p3,p4⟩,p5,p6⟩:=h;have hI:fS s C:=⟨⟨hf,p1,p2,p3,p4⟩,p5,p6⟩
   by_cases k1:(RI l a).kind=1
   .rw[if_pos k1];have hI2:=gu hD k (a+1) (a+(RO l a).toNat) _ _ (by omega) (by omega) (by omega) h4 (fk hI RL.st);have hA2:=rO hD k (a+1) (a+(RO l a).toNat) (s.enter (RI l a).st) (C+2) (by omega) (by omega) (by omega) h4 (fk hI RL.st) (λx RN=>(hx x RN).mono (by omega));refine step _ ((jr hI2 RL.st).more (by omega)) ?_;obtain⟨SE,cnt,hc,hco⟩:=hA2;refine⟨λx RN=>(SE x RN).mono (by omega),λi=>if i=a then 0 else cnt i,?_,λi h5 h6=>?_⟩
    .have e1:(s.enter (RI l a).st).atoms=s.atoms:=rfl;rw[e1]at hc;show(eA l rs k (a+1) (a+(RO l a).toNat) (s.enter (RI l a).st)).atoms.map (·.node)=_;rw[hc];congr 1;obtain⟨m,hm⟩:∃m,(RO l a).toNat=m+1:=⟨(RO l a).toNat-1,by omega⟩
     rw[hm,show a+(m+1)-(a+1)=m by omega,show a+(m+1)-a=m+1 by omega,gV];simp only[if_true,List.replicate_zero,List.nil_append];exact mP m (a+1) λi h5 h6=>by simp[show i≠a by omega]
    .simp only;split
     .rename_i e;subst e;simp[okN,k1]
     .exact hco i (by omega) h6
   .rw[if_neg k1];have Tl:(RO l a).toNat=1:=by
     have:=CV he hr H' k1;omega
    by_cases k2:(RI l a).kind=2
    .rw[if_pos k2];refine step _ ((kQ hI RL a).more (by omega)) ?_;have hl:=RL.line;obtain⟨hw0,hl1⟩:=RL.text k2;have hLl:=jK s.B' (RI l a).words (RI l a).space (RI l a).line (eI rs a) (RI l a).words.length 0 (s.Ro.y+s.Ro.m);have hLb:=jj (ws:=(RI l a).words) (space:=(RI l a).space) (s:=eI rs a) (λf UG=>(hf f UG).yB) hl.1 (RI l a).words.length 0 (s.Ro.y+s.Ro.m);have hLn:dP s.B' (RI l a).words (RI l a).space (RI l a).line (eI rs a) (RI l a).words.length 0 (s.Ro.y+s.Ro.m)≠[]:=by
      obtain⟨m,hm⟩:∃m,(RI l a).words.length=m+1:=⟨(RI l a).words.length-1,by omega⟩
      rw[hm,dP,if_pos (by omega)];simp
     have hte:(s.text rs a (RI l a)).atoms=s.atoms++(dP s.B' (RI l a).words (RI l a).space (RI l a).line (eI rs a) (RI l a).words.length 0 (s.Ro.y+s.Ro.m)).map (fg a (RI l a).line):=l6 a _ _ s;generalize dP s.B' (RI l a).words (RI l a).space (RI l a).line (eI rs a) (RI l a).words.length 0 (s.Ro.y+s.Ro.m)=L at*;have hL0:=List.length_pos_iff.2 hLn;have hmul:(RI l a).line*((RI l a).words.length:Int)<=1099511627776*((RI l a).words.length:Int):=Int.mul_le_mul_of_nonneg_right hl.2 (by omega);refine one _ L.length (by simp only[okN,k2,if_true,decide_eq_true_eq];omega) Tl (by rw[hte,List.map_append,GP]) (λx RN=>?_);rw[hte]at RN;rcases List.mem_append.1 RN with RN|RN
     .exact(hx x RN).mono (by omega)
     .obtain⟨y,hy,rfl⟩:=List.mem_map.1 RN;have:=hLb y hy;refine⟨?_,?_,hl1,hl.2⟩<;>simp only[fg]<;>omega
    .rw[if_neg k2];by_cases k3:(RI l a).kind=3
     .rw[if_pos k3];refine step _ ((kJ hI RL a).more (by omega)) ?_;have hyr:=gb (w:=(RI l a).w) (high:=(RI l a).h) (y:=s.Ro.y+s.Ro.m) (s:=eI rs a) (λf UG=>(hf f UG).yB);have hbx:=RL.box (.inl k3);have hh:=RL.h;refine one _ 1 (by simp[okN,k3]) Tl (by simp[WS.mono,WS.put]) (λx RN=>?_);simp only[WS.mono,WS.put]at RN;rcases List.mem_append.1 RN with RN|RN
      .exact(hx x RN).mono (by omega)
      .simp only[List.mem_singleton]at RN;subst RN;refine⟨?_,?_,?_,?_⟩<;>simp only<;>omega
     .rw[if_neg k3];have k4:(RI l a).kind=4:=by rcases RL.kind with h|h|h|h;exact absurd h k1;exact absurd h k2;exact absurd h k3;exact h
      refine step _ ((jG hD hI (by omega) RL k4).more (by omega)) ?_;exact one _ 0 (by simp[okN,k4]) Tl (by simp[WS.float]) (λx RN=>(hx x RN).mono (by omega))
  .rw[if_neg H'];obtain rfl:a=e:=by omega
   exact⟨λx RN=>(hx x RN).mono (by omega),λ_=>0,by simp[jn],λi h1 h2=>by omega⟩
def Ep(i:Int)(L:List Int)(h:∀x∈L,x≠i):∀k,tG i (List.replicate k i++L)=k
 |0=>by
  cases L with
  |nil=>rfl
  |cons x L=>rw[List.replicate_zero,List.nil_append,tG,if_neg (h x (by simp))]
 |k+1=>by rw[List.replicate_succ,List.cons_append,tG,if_pos rfl,Ep i L h k]
def wT{cnt:Nat->Nat}:∀{n a:Nat} {x:Int},x∈W6 cnt a n->∃i:Nat,x=i/\a<=i/\i<a+n
 |0,_,_,h=>by simp[jn]at h
 |n+1,a,x,h=>by
  rw[gV]at h;rcases List.mem_append.1 h with h|h
  .exact⟨a,(List.mem_replicate.1 h).2,by omega,by omega⟩
  .obtain⟨i,h1,h2,h3⟩:=wT h;exact⟨i,h1,by omega,by omega⟩
def zS{cnt:Nat->Nat}{of:List Int}:∀(r:List Nd) (i RD:Nat),of.drop RD=W6 cnt i r.length->RD<=of.length->(∀j (h:j<r.length),okN r[j] (cnt (i+j))=true)->zt of r i RD=true
 |[],i,RD,h,hl,_=>by
  have:of.length<=RD:=by
   have:=congrArg List.length h;simp[jn]at this;omega
  simp[zt];omega
 |x::r,i,RD,h,hl,ho=>by
  rw[List.length_cons,gV]at h;have ht:lu of RD i=cnt i:=by
   rw[lu,h];exact Ep _ _ (λy hy=>by obtain⟨j,h1,h2,_⟩:=wT hy;omega) _
  rw[zt,ht];have h0:=ho 0 (by simp);simp only[List.getElem_cons_zero,Nat.add_zero]at h0;rw[h0,Bool.true_and];have hd:of.drop (RD+cnt i)=W6 cnt (i+1) r.length:=by
   rw[<-List.drop_drop,h,List.drop_append_of_le_length (by simp)];simp
  refine zS r (i+1) _ hd ?_ (λj hj=>?_)
  .have:=congrArg List.length h;simp at this;omega
  .have:=ho (j+1) (by simpa using hj);simp only[List.getElem_cons_succ]at this
   rwa [show i+1+j=i+(j+1) by omega]
structure MO(l:List Nd)(w:Int):Prop where
 may:ph l ((di l w).atoms.map (·.node))=true
 nod:∀a∈(di l w).atoms,0<=a.node/\a.node<l.length
 RD:∀x∈(di l w).atoms,AtI (1099511627776*((SG l 0 l.length:Nat):Int)) x
 len:(di l w).atoms.length<=SG l 0 l.length
 Uf:(di l w).B'.length<=SG l 0 l.length
 Yk:∀f∈(di l w).B',Zl (1099511627776*((SG l 0 l.length:Nat):Int)) f
def wR{l:List Nd}(hb:R3 l=true)(hn:l.length<=2000){w:Int}(h1:1<=w)(h2:w<=1099511627776):MO l w:=by
 have hD:=sU hb hn h1 h2;have hr:cu l 0 l.length=true:=by simp only[R3,Ba]at hb;exact hb.2
 have hI:fS ⟨[],[],0,⟨0,0⟩⟩ 0:=⟨⟨by simp,by simp,by simp,by simp,by simp⟩,by simp,by simp⟩
 have hA:=rO hD l.length 0 l.length ⟨[],[],0,⟨0,0⟩⟩ 0 (by omega) (by omega) (Nat.le_refl _) hr hI (by simp);have hJ:=gu hD l.length 0 l.length ⟨[],[],0,⟨0,0⟩⟩ 0 (by omega) (by omega) (Nat.le_refl _) hr hI;rw[Nat.zero_add]at hA hJ;have ha:(di l w).atoms=(eA l (kR l w) l.length 0 l.length ⟨[],[],0,⟨0,0⟩⟩).atoms:=rfl;have hf:(di l w).B'=(eA l (kR l w) l.length 0 l.length ⟨[],[],0,⟨0,0⟩⟩).B'.map (sT (eA l (kR l w) l.length 0 l.length ⟨[],[],0,⟨0,0⟩⟩).atoms.length):=rfl;obtain⟨SE,cnt,hc,hco⟩:=hA;rw[List.map_nil,List.nil_append,Nat.sub_zero]at hc;refine⟨?_,λa hm=>?_,by rw[ha];exact SE,by rw[ha];exact hJ.RD,by rw[hf,List.length_map];exact hJ.fl,λf hm=>?_⟩
 .rw[ha,hc];refine zS (cnt:=cnt) l 0 0 (by simpa using hc) (Nat.zero_le _) (λj hj=>?_);have:=hco j (Nat.zero_le _) hj;rw[iS hj]at this
  rwa [Nat.zero_add]
 .have VE:a.node∈W6 cnt 0 l.length:=by rw[<-hc,<-ha];exact List.mem_map_of_mem hm
  obtain⟨i,e,_,hi⟩:=wT VE;omega
 .rw[hf]at hm;obtain⟨g,hg,rfl⟩:=List.mem_map.1 hm;have:=hJ.bd.fl g hg;exact⟨this.1,this.2,this.3,this.4,this.5,this.6,this.7,this.8⟩
def uj:∀(l:List Nd),(∀x∈l,YL x)->((l.map λn=>4+n.words.length).sum:Nat)<=4*(l.length:Int)+kB l/\∀x∈l,(x.words.length:Int)<=kB l
 |[],_=>by simp[kB]
 |x::l,h=>by
  obtain⟨h1,h2⟩:=uj l (λy hy=>h y (by simp[hy]));have hx:=h x (by simp);have hp:(x.words.length:Int)<=pof x/\0<=pof x:=by
   unfold pof;by_cases k1:x.kind=1
   .have:=hx.YM (by omega);simp[k1,this]
   .by_cases k2:x.kind=2
    .simp[k2]
    .have:=hx.YM k2;simp[k1,k2,this]
  have hp0:0<=kB l:=by
   have:∀l:List Nd,0<=kB l:=by
    intro l
    induction l with
    |nil=>simp[kB]
    |cons y l ih=>
     have:0<=pof y:=by unfold pof;split;omega;split;omega;omega
     simp only[kB];omega
   exact this l
  refine⟨by simp only[List.map_cons,List.sum_cons,List.length_cons,kB];omega,λy hy=>?_⟩;rcases List.mem_cons.1 hy with rfl|hy
  .simp only[kB];omega
  .have:=h2 y hy;simp only[kB];omega
structure NG(l:List Nd):Prop where
 XN:R3 l=true
 len:l.length<=2000
 words:∀x∈l,x.words.length<=2000
 SG:SG l 0 l.length<=10000
def xq{l:List Nd}(h:gY l=0):NG l:=by
 unfold gY at h;split at h
 .rename_i hb;split at h
  .cases h
  .rename_i hc;have So:l.all Nd.ok=true:=by simp only[R3,Ba]at hb;exact hb.1
   rw[iR,if_pos hb,tI l So l.length (Nat.le_refl _),List.take_length]at hc;simp only[not_or]at hc;obtain⟨h1,h2⟩:=uj l (λx hx=>by obtain⟨i,hi,rfl⟩:=List.getElem_of_mem hx;exact gr hb hi);refine⟨hb,by omega,λx hx=>by have:=h2 x hx;omega,?_⟩;have:Vc.SG l 0 l.length=(l.map λn=>4+n.words.length).sum:=by unfold Vc.SG;rw[List.take_length,List.drop_zero]
   omega
 .cases h
open Go.Proofs Go.Proofs.Tryz
def ad.HB{P:Program}{n:Nat}{Q:St->Prop}{s:Nat->V}{U K:ai}{todo:List It}(l ds:List Nat){e sz:Nat}{v:V}{rows:List V}(hK:aa K U)(ho:aT K U e sz v rows)
 (hs:∀d∈ds,s d=v)(hr:ad P n todo ⟨λi=>if ds.contains i then .sl sz rows else Cx l s i,K⟩ Q):ad P n todo ⟨s,U⟩ Q:=by
 refine ad.weaken ⟨hK,λi=>?_⟩ hr;show Wk U K (s i) _;by_cases hi:ds.contains i=true
 .simp only[if_pos hi];rw[hs i (by simpa using hi)];exact ho.wk (aa.refl K) hK
 .simp only[if_neg hi];unfold Cx;split
  .exact Wk.refl hK _
  .exact Wk.undef _
def ofR(l:List Nd)(w:Int):List Int:=(di l w).atoms.map (·.node)
def bc(l:List Nd)(w h:Int):Bk:=⟨l,w,h,(di l w).atoms,(di l w).B',(di l w).Ra,rq l (ofR l w)⟩
def yi(n:Int):Prop:=1<=n/\n<=1099511627776
instance (n:Int):Decidable (yi n):=by unfold yi;infer_instance
def ed(l:List Nd)(w h:Int):Int:=if¬(yi w/\yi h)then 3 else if gY l≠0 then gY l else if(iR l).1.O'>mulR (gU l h) 32768 then 2 else 0
def A1(l:List Nd)(w h:Int):V:=if ed l w h=0 then .rp (bt (bc l w h))else .RQ
def gg.Ee{K U:ai}{id:Nat}{o:Ob}(hK:K id≠none):∀{l:List Nd} {rows:List V},gg K U l rows->gg K (C' U id o) l rows
 |[],[],_=>trivial
 |_::_,_::_,⟨⟨w,h1,h2⟩,h⟩=>⟨⟨w,h1,h2.ab hK⟩,gg.Ee hK h⟩
 |[],_::_,h=>h.elim
 |_::_,[],h=>h.elim
def yN.Ee{K U:ai}{id:Nat}{o:Ob}(hK:K id≠none){v:V}{l:List Nd}(h:yN K U v l):yN K (C' U id o) v l:=by
 obtain⟨rows,ho,hr⟩:=h;exact⟨rows,ho.ab hK,hr.Ee hK⟩
def lL{α:Type}{f:α->V}(h:∀a,(f a).eH=true):∀l:List α,gq (l.map f)=true
 |[]=>rfl
 |a::l=>by simp only[List.map_cons,gq,h a,lL h l,Bool.and_self]
def PL(l:List Int)(U:ai):bS U false 1 (.rp (bn l))=some (bn l):=rfl
def tQ(vn:V)(w h:Int)(va vf:V)(ht:Int)(vb:V):Ob:=⟨132,7,[.agg [vn,vI w,vI h,va,vf,vI ht,vb]]⟩
def Fb{U J:ai}{ib:Nat}{b:Bk}{vn:V}(hs:aa U J)(z:U ib=none)(hr:J ib=some (tQ vn b.w b.h (bl b.atoms) (aH b.Re) b.Ra (bC b.L')))(ho:yN (bg U ib) J vn b.nodes):
 ay (.Rf [.ptr ib 0 0,vI 0]) J λr Z'=>r=.Rf [.rp (bt b),vI 0]/\Z'=U:=by
 have hN:∀id,bg U ib id=none->U id=none:=λid h=>(aM.1 h).2;have n1:gq [bl b.atoms,aH b.Re,vI b.Ra,bC b.L']=true:=by
  have a1:(bl b.atoms).eH=true:=lL (f:=cF) (λ_=>rfl) b.atoms;have a2:(aH b.Re).eH=true:=lL (f:=aQ) (λ_=>rfl) b.Re;have a3:(bC b.L').eH=true:=lL (f:=dX) (λ_=>rfl) b.L';simp only[gq,a1,a2,a3];rfl
 have hf:Fz J (λid=>U id=none) (.Rf [.ptr ib 0 0,vI 0]) (.Rf [.rp (bt b),vI 0]):=by
  refine .Rf _ _ (.cons _ _ _ _ (.ptr ib 0 _ _ _ hr z rfl (.agg _ _ ?_)) (To.same [vI 0] rfl));exact .cons _ _ _ _ (ho.fz hN) (.cons _ _ _ _ (.same _ rfl) (.cons _ _ _ _ (.same _ rfl) (To.same _ n1)))
 exact⟨_,U,hs,hf.wk hs (λ_ h=>h),rfl,rfl⟩
def Iw(l:List Nd)(hl:dH l)(w h:Int):aV prog 23 [aK l,vI w,vI h] (.Rf [A1 l w h,vI (ed l w h)]):=λU=>by
 refine e23.r (by simp[c23]) ?_;have hs:=aa.refl U;have bad:∀n:Int,ed l w h=n->n≠0->(A1 l w h=.RQ/\ed l w h=n):=λn hn h0=>⟨by rw[A1,if_neg (by rw[hn];exact h0)],hn⟩
 refine ad.mix 16 ?_;by_cases hw:yi w
 .have mw:=pC w;rw[show decide (1<=w/\w<=1099511627776)=true from decide_eq_true hw]at mw;apply sR;simp only[go_sem,seval,c23];refine ad.aB rfl rfl rfl (mw _) ?_;apply sR;simp only[go_sem,seval];by_cases hh:yi h
  .have mh:=pC h;rw[show decide (1<=h/\h<=1099511627776)=true from decide_eq_true hh]at mh;refine ad.aB rfl rfl rfl (mh _) ?_;apply sR;simp only[go_sem,seval];refine ad.aB rfl rfl rfl (zx l hl _) ?_;by_cases hc:gY l=0
   .have q:(gY l≠0)=False:=eq_false (λh=>h hc);have hck:=zx l hl;rw[hc]at hck q|-;apply sR;simp only[go_sem,seval,q];refine ad.aB rfl rfl rfl (zG l hl _) ?_;apply sR;simp only[go_sem,seval,Sm.cells];refine af λi9 Z9 s9 a9 f9=>?_;have z9:=hs.none f9;replace hs:=hs.trans s9;simp only[go_sem,seval,a9];generalize Sp:C' _ i9 _=Y9;replace a9:=(congrFun Sp i9).symm.trans ag;replace hs:=Eq.subst (motive:=aa _) Sp (hs.aE z9);clear Sp;refine Go.bP rfl rfl rfl (FJ l hl h) ?_;apply sG;simp only[go_sem,seval];refine Go.bP rfl rfl rfl (Ny (gU l h) 32768) ?_;have hE:ed l w h=if(iR l).1.O'>mulR (gU l h) 32768 then 2 else 0:=by rw[ed,if_neg (λh=>h ⟨hw,hh⟩),if_neg (λh=>h hc)]
    by_cases hlim:(iR l).1.O'>mulR (gU l h) 32768
    .have q1:((iR l).1.O'>mulR (gU l h) 32768)=True:=eq_true hlim;obtain⟨e1,e2⟩:=bad 2 (by rw[hE,if_pos hlim]) (by decide);rw[e1,e2];apply sG;simp only[go_sem,seval,a9,q1];exact ay.pure hs rfl
    have q1:((iR l).1.O'>mulR (gU l h) 32768)=False:=eq_false hlim;have e2:ed l w h=0:=by rw[hE,if_neg hlim]
    have e1:A1 l w h=.rp (bt (bc l w h)):=by rw[A1,if_pos e2]
    rw[e1,e2];obtain⟨Up,hn2,hwo,hcs⟩:=xq hc;have hG:=wR Up hn2 hw.1 hw.2;have UL:=Mx l hl Up hn2 (λx hx=>by have:=hwo x hx;omega) (by omega) hck w hw.1 hw.2;apply sG;simp only[go_sem,seval,a9,q1];refine ad.call rfl rfl rfl (HW l hl.1 _) ?_;rintro vn Ws ⟨hs10,Ys⟩;replace Ys:=Ys.MS hs;replace hs:=hs.trans hs10;obtain⟨cn,sn⟩:=Ys.vc;have UR:=Ys.len;rw[List.length_map]at UR;apply sR;simp only[go_sem,seval,cn,sn];refine af λT1 Z46 s46 a46 f46=>?_;have z46:=hs.none f46;replace hs:=hs.trans s46;have ho46:aT (bg U T1) Z46 59 20 vn (l.map iB):=by
     rcases Ys with h|⟨id,h3,h4,h5⟩
     .exact .inl h
     .exact .inr ⟨id,h3,s46 _ _ h4,aM.2 ⟨λe=>(by rw[e,f46]at h4;cases h4),h5⟩⟩
    have k46:bg U T1 T1≠none:=λh=>(aM.1 h).1 rfl;simp only[go_sem,seval,a46,UR];refine ad.fe (λst=>aa U st.U/\yN (bg U T1) st.U vn l/\st.U T1=some (tQ vn w h .aC .aC 0 .aC)/\st.s 0=aK l/\st.s 1=vI w/\st.s 11=.ptr T1 0 0)
     (λm st=>∃(i:Nat) (rows:List V),i<=l.length/\m=l.length-i/\aa U st.U/\aT (bg U T1) st.U 59 20 vn rows/\rows.length=l.length/\gg (bg U T1) st.U (l.take i) (rows.take i)/\rows.drop i=(l.drop i).map iB/\st.U T1=some (tQ vn w h .aC .aC 0 .aC)/\
       st.s 0=aK l/\st.s 1=vI w/\st.s 11=.ptr T1 0 0/\st.s 51=vI l.length/\st.s 52=vI i) l.length ?_ ?_ ?_
    .exact⟨0,l.map iB,by omega,rfl,hs,ho46,by simp,trivial,by simp,a46,rfl,rfl,rfl,rfl,rfl⟩
    .clear hs ho46 a46 Ys a9;rintro m ⟨S,J⟩ ⟨i,rows,hi,rfl,hs,ho,hn,hr,hd,hb,t0,t1,t11,t51,t52⟩;simp only at hs ho hr hb t0 t1 t11 t51 t52;refine ad.mix 60 ?_;by_cases H':i<l.length
     .have q:((i:Int)<l.length)=True:=eq_true (by omega);obtain⟨id,rfl,M',Wh⟩:∃id,vn=.own id 0 rows.length/\J id=some ⟨59,20,rows⟩/\bg U T1 id=none:=by
       rcases ho with⟨_,h0⟩|h
       .rw[h0]at hn;simp at hn;omega
       .exact h
      have hdc:(l.drop i)=l[i]::l.drop (i+1):=List.drop_eq_getElem_cons H';have XZ:=hwo _ (List.getElem_mem H');have Sf:l.take (i+1)=l.take i++[l[i]]:=List.take_succ_eq_append_getElem H';have SR:=λU=>jl l H' U;generalize YF:l[i]=x at*;have hrow':rows[i]?=some (.agg x.cells):=by
       have:(rows.drop i)[0]?=some (iB x):=by rw[hd,hdc];rfl
       rw[List.getElem?_drop]at this;exact this
      have RK:id≠T1:=(aM.1 Wh).1;have hio:∀X':ai,X' id=some ⟨59,20,rows⟩->bQ X' 20 (.own id 0 rows.length) (.int .i64 i)=some (.ptr id i 0):=λX' h=>j4 h (by omega);have r1:Rq .i64 ((i:Int)+1):=ao (by omega) (by omega);rw[tQ]at hb;apply sR;simp only[go_sem,seval,t0,t1,t11,t51,t52,q,dj];refine ad.rz (by kernel_rfl) [0,1,2,3,4,5,6,7,8,9,10,11,12,13] [[],[0],[0,1],[0,1,2],[],[],[],[5,6],[5,6,7],[5,6,7,8],[5,6,7,8,9],[0,1,2,3,4,5,6,7,8,9,10],[0,1,2,3,4,5,6,7,8,9,10,11],[0,1,2,3,4,5,6,7,8,9,10,11,12]] [0,2,4,6,8,10,12,14,16,18,20,7,22,24,26] (by kernel_rfl) (by kernel_rfl) ?_;refine RE.Sg (n:=0) [20,7,22,24,26] [0,2,4,6,8,10,12,14,16,18] [⟨(.some 55),(.Rn (.t 11)),.none⟩,⟨(.some 56),(.nilCheck (.t 55)),.none⟩,⟨(.some 57),(.Rz .false 0 1 (.t 56)),.none⟩,⟨(.some 58),(.load .false 1 (.t 57)),.none⟩,⟨(.some 59),(.Rn (.t 12)),.none⟩,⟨(.some 60),(.Rn (.t 0)),.none⟩,⟨(.some 61),(.Rn (.t 12)),.none⟩,⟨(.some 62),(.T9 20 (.t 60) (.t 61)),.none⟩,⟨(.some 63),(.Rz .false 16 1 (.t 62)),.none⟩,⟨(.some 64),(.load .false 1 (.t 63)),.none⟩] rfl rfl ?_;apply sG;simp only[go_sem,seval,t0,t11,hb,SR,Nd.cells,PL];refine RE.call rfl rfl rfl rfl rfl (Fx x.words (by omega) _) ?_;rintro wv Z2 ⟨TQ,Vi⟩;simp only at TQ Vi;have Ya:=TQ _ _ M';have Sb:=TQ _ _ hb;obtain⟨cw,sw⟩:=Vi.vc;have hio2:=hio _ Ya;refine RE.SB rfl rfl rfl rfl rfl trivial (by simp only[go_sem,seval,t0,t11,Sb]) ?_;refine RE.Sg (n:=0) [] [22,24,26] [⟨(.some 66),(.T9 20 (.t 58) (.t 59)),.none⟩,⟨(.some 67),(.Rz .false 16 1 (.t 66)),.none⟩,⟨.none,(.store 1 (.t 67) (.t 65)),.none⟩] rfl rfl ?_;apply sG;simp only[go_sem,seval,t0,t11,Sb,hio2,Ya,hrow',Nd.cells,cw,sw];have hk46:bg U T1 id=none:=Wh;have hsf:aa U (C' Z2 id ⟨59,20,rows.set i (ndW x wv)⟩):=(hs.trans TQ).aE (aM.1 Wh).2;have Uq:∀j,j≠id->∀o,Z2 j=some o->C' Z2 id ⟨59,20,rows.set i (ndW x wv)⟩ j=some o:=λj hj o hjo=>by rw[ab hj];exact hjo
      have h1:=(hr.mono TQ).kept Ya Uq;have Tv:aa (bg U T1) (bg J T1):=λj o hj=>by
       unfold bg at hj|-;split
       .rename_i e;rw[if_pos e]at hj;exact hj
       .rename_i e;rw[if_neg e]at hj;exact hs _ _ hj
      have h2:aT (bg U T1) (C' Z2 id ⟨59,20,rows.set i (ndW x wv)⟩) 3 1 wv (x.words.map vI):=by
       rcases Vi with h|⟨iw,e1,e2,e3⟩
       .exact .inl h
       .have n1:iw≠id:=λe=>by rw[e,Ya]at e2;simp at e2
        refine .inr ⟨iw,e1,by rw[ab n1];exact e2,aM.2 ⟨λe=>(by rw[e,hb]at e3;cases e3),hs.none e3⟩⟩
      have h3:(rows.set i (ndW x wv)).take (i+1)=rows.take i++[ndW x wv]:=by
       rw[List.take_succ_eq_append_getElem (by simp;omega),List.take_set_of_le (by omega)];simp
      apply sR;simp only[go_sem,seval,t0,t1,t11,t51,t52,r1];refine⟨_,?_,i+1,rows.set i (ndW x wv),by omega,rfl,hsf,.inr ⟨id,by rw[List.length_set],ag,Wh⟩,by simp[hn],?_,?_,?_,rfl⟩
      .omega
      .rw[h3,Sf];exact h1.app ⟨⟨wv,rfl,h2⟩,trivial⟩
      .rw[List.drop_set_of_lt (by omega)];have:rows.drop (i+1)=(rows.drop i).drop 1:=by simp
       rw[this,hd,hdc];rfl
      .exact(ab RK.symm).trans Sb
     .have q:((i:Int)<l.length)=False:=eq_false (by omega);have TV:i=l.length:=by omega
      subst TV;rw[List.take_length,List.take_of_length_le (by omega)]at hr;apply sR;simp only[go_sem,seval,t0,t1,t11,t51,t52,q];exact⟨hs,⟨rows,ho,hr⟩,hb⟩
    .clear hs ho46 a46 Ys a9;rintro⟨S,J⟩ ⟨hs,how,hb,t0,t1,t11⟩;simp only at hs how hb t0 t1 t11;have Un:=gG (di l w).atoms;have TZ:=hG.len;have hbr:=J5 l hl Up (ofR l w) (by rw[ofR,List.length_map];omega) (λx hx=>by
      obtain⟨a,ha,rfl⟩:=List.mem_map.1 hx;exact hG.nod a ha) hG.may
     have hofe:ofR l w=(di l w).atoms.map (·.node):=rfl;rw[tQ]at hb;rw[FY]at UL;refine ad.mix 16 ?_;apply sR;simp only[go_sem,seval,t0,t1,t11];refine ad.aB rfl rfl rfl (UL _) ?_;apply sR;simp only[go_sem,seval,t11,hb,Un,ak,al,ar,au];generalize hq:C' J T1 _=Y0;have hb0:Y0 T1=some (tQ vn w h (bl (di l w).atoms) (aH (di l w).B') (di l w).Ra .aC):=by rw[<-hq];exact ag
     have RX:aa U Y0:=hq▸hs.aE z46;have how0:yN (bg U T1) Y0 vn l:=hq▸how.Ee k46;clear hq hs how hb;refine ad.fe (λst=>aa Y0 st.U/\aT Y0 st.U 3 1 (st.s 13) ((ofR l w).map vI)/\st.s 0=aK l/\st.s 11=.ptr T1 0 0)
      (λm st=>∃j:Nat,j<=(di l w).atoms.length/\m=(di l w).atoms.length-j/\aa Y0 st.U/\aT Y0 st.U 3 1 (st.s 13) ((((di l w).atoms.take j).map (·.node)).map vI)/\st.s 0=aK l/\st.s 11=.ptr T1 0 0/\st.s 82=bl (di l w).atoms/\st.s 83=vI (di l w).atoms.length/\st.s 84=vI j) (di l w).atoms.length ?_ ?_ ?_
     .exact⟨0,by omega,rfl,aa.refl _,aT.start,t0,t11,rfl,rfl,rfl⟩
     .clear t0 t1 t11;rintro m ⟨S,J⟩ ⟨j,hj,rfl,hsj,ho,t0,t11,t82,t83,t84⟩;simp only at hsj ho t0 t11 t82 t83 t84;generalize Xx:S 13=v13 at ho;refine ad.mix 85 ?_;by_cases H':j<(di l w).atoms.length
      .have q:((j:Int)<(di l w).atoms.length)=True:=eq_true (by omega);have Q9:=λU=>iz (U:=U) H';have RS:(((di l w).atoms.take (j+1)).map (·.node)).map vI=(((di l w).atoms.take j).map (·.node)).map vI++[vI (di l w).atoms[j].node]:=by
        rw[List.take_succ_eq_append_getElem H',List.map_append,List.map_append];rfl
       have Wv:((((di l w).atoms.take j).map (·.node)).map vI).length=j:=by rw[List.length_map,List.length_map,List.length_take];omega
       have SE:cF (di l w).atoms[j]=.agg [vI (di l w).atoms[j].kind,vI (di l w).atoms[j].node,vI (di l w).atoms[j].fr,vI (di l w).atoms[j].to,vI (di l w).atoms[j].x,vI (di l w).atoms[j].y,vI (di l w).atoms[j].w,vI (di l w).atoms[j].h]:=rfl;generalize (((di l w).atoms.take j).map (·.node)).map vI=rows at*;generalize (di l w).atoms[j]=x at*;have r1:Rq .i64 ((j:Int)+1):=ao (by omega) (by omega);have hs:=aa.refl J;apply sR;simp only[go_sem,seval,t0,t11,t82,t83,t84,Xx,q,Q9,SE];refine af λZf Y15 s15 WY f15=>?_;have z15:=hs.none f15;replace hs:=hs.trans s15;simp only[go_sem,seval,WY,t0,t11,t82,t83,t84,Xx];generalize Ud:C' _ Zf _=Z15;replace WY:=(congrFun Ud Zf).symm.trans ag;replace hs:=Eq.subst (motive:=aa _) Ud (hs.aE z15);clear Ud;refine af λi91 Z91 s91 a91 f91=>?_;obtain⟨Rr,SM,Sv⟩:=ho.dst (hs.trans s91);have Sb:(rows.length+1)*9<=140737488355328:=by omega
       simp only[go_sem,seval,SM,dW a91,Sb];refine fM λi92 Z92 s92 a92 f92=>?_;have k92:=(Sv Y0 (aa.refl _) Z91 (hsj.trans (hs.trans s91))).trans s92;have n92:Y0 i92=none:=(hsj.trans (hs.trans s91)).none f92;simp only[go_sem,seval,t0,t11,t82,t83,t84,r1];refine⟨_,?_,j+1,by omega,rfl,k92,?_,rfl⟩
       .omega
       .rw[RS];exact aT.new (by simp) a92 n92
      .have q:((j:Int)<(di l w).atoms.length)=False:=eq_false (by omega);have SX:j=(di l w).atoms.length:=by omega
       rw[SX,List.take_length,<-hofe]at ho;apply sR;simp only[go_sem,seval,t0,t11,t82,t83,t84,Xx,q];exact⟨hsj,ho⟩
     .clear t0 t1 t11;rintro⟨S,J⟩ ⟨hsj,ho,t0,t11⟩;simp only at hsj ho t0 t11;refine ad.HB [0,11] [13] hsj ho (by simp) ?_;generalize hS:(λi=>if[13].contains i then V.sl 1 ((ofR l w).map vI)else Cx [0,11] S i)=S';have u0:S' 0=aK l:=by rw[<-hS];exact t0
      have UN:S' 11=.ptr T1 0 0:=by rw[<-hS];exact t11
      have U5:S' 13=bn (ofR l w):=by rw[<-hS];rfl
      clear hS t0 t11;refine ad.mix 16 ?_;rw[tQ]at hb0;apply sR;simp only[go_sem,seval,u0,UN,U5];refine ad.aB rfl rfl rfl (hbr _) ?_;apply sR;simp only[go_sem,seval,UN,hb0,aI,aJ];exact Fb (b:=bc l w h) (RX.aE z46) z46 ag (how0.Ee k46)
   .have q:(gY l≠0)=True:=eq_true hc;obtain⟨e1,e2⟩:=bad (gY l) (by rw[ed,if_neg (λh=>h ⟨hw,hh⟩),if_pos hc]) hc;rw[e1,e2];apply sR;simp only[go_sem,seval,q];exact ay.pure hs rfl
  .have mh:=pC h;rw[show decide (1<=h/\h<=1099511627776)=false from decide_eq_false hh]at mh;obtain⟨e1,e2⟩:=bad 3 (by rw[ed,if_pos (λh=>hh h.2)]) (by decide);rw[e1,e2];refine ad.aB rfl rfl rfl (mh _) ?_;apply sR;simp only[go_sem,seval];exact ay.pure hs rfl
 .have mw:=pC w;rw[show decide (1<=w/\w<=1099511627776)=false from decide_eq_false hw]at mw;obtain⟨e1,e2⟩:=bad 3 (by rw[ed,if_pos (λh=>hw h.1)]) (by decide);rw[e1,e2];apply sR;simp only[go_sem,seval,c23];refine ad.aB rfl rfl rfl (mw _) ?_;apply sR;simp only[go_sem,seval];exact ay.pure hs rfl
def pX{l:List Nd}{w h:Int}(he:ed l w h=0):yi w/\yi h/\gY l=0:=by
 unfold ed at he;split at he
 .cases he
 .rename_i h1;split at he
  .rename_i h2;exact absurd he h2
  .rename_i h2;exact⟨Decidable.byContradiction λh=>h1 (λg=>h g.1),Decidable.byContradiction λh=>h1 (λg=>h g.2),Decidable.byContradiction h2⟩
def DL{l:List Nd}(hl:dH l){w h:Int}(he:ed l w h=0):BkFull (bc l w h)/\∀f∈(bc l w h).Re,0<=f.h:=by
 obtain⟨hw,hh,hc⟩:=pX he;obtain⟨Up,hn,hwo,hcs⟩:=xq hc;have hG:=wR Up hn hw.1 hw.2;have hl1:=hG.len;have hl2:=hG.Uf;have hb:(1099511627776:Int)*((SG l 0 l.length:Nat):Int)<=10995116277760000:=by omega
 have ht:∀a∈(di l w).atoms,-18014398509481984<=a.y/\a.y<=18014398509481984/\0<=a.h/\a.h<=18014398509481984:=λa ha=>by
  have:=hG.RD a ha;have h0:=this.y0;have h1:=this.y1;have h2:=this.h0;have h3:=this.h1;omega
 refine⟨⟨⟨⟨?_,λa ha=>?_⟩,ht,?_,?_,λf hf=>(hG.Yk f hf).ok (by omega),?_⟩,hl,Up,hh.1,hh.2,hG.nod⟩,λf hf=>(hG.Yk f hf).h0⟩
 .show(di l w).atoms.length<=_;omega
 .have:=ht a ha;omega
 .show(di l w).atoms.length<=_;omega
 .show(di l w).B'.length<=_;omega
 .show(rq l (ofR l w)).length=(di l w).atoms.length+1;unfold rq ofR;simp
def eT(b:Bk)(a:Nat):Int:=((b.atoms.drop a).map (·.h)).sum
def tH{b:Bk}{a:Nat}(h:a<b.atoms.length):eT b a=(b.atoms[a]).h+eT b (a+1):=by
 unfold eT;rw[List.drop_eq_getElem_cons h,List.map_cons,List.sum_cons]
def oH{b:Bk}(hp:∀a∈b.atoms,1<=a.h)(a:Nat):0<=eT b a:=by
 have key:∀l:List RY,(∀a∈l,1<=a.h)->0<=(l.map (·.h)).sum:=by
  intro l
  induction l with
  |nil=>intro _;simp
  |cons x l ih=>
   intro h;have h1:=h x (by simp);have h2:=ih (λy hy=>h y (by simp[hy]));simp only[List.map_cons,List.sum_cons];omega
 exact key _ λx hx=>hp x (List.mem_of_mem_drop hx)
def xR{b:Bk}(hp:∀a∈b.atoms,1<=a.h)(a:Nat):∀n,eT b (a+n)<=eT b a
 |0=>Int.le_refl _
 |n+1=>by
  have ih:=xR hp a n;by_cases h:a+n<b.atoms.length
  .have h1:=tH h;have h2:=hp _ (List.getElem_mem h);rw[<-Nat.add_assoc];omega
  .have:eT b (a+(n+1))=eT b (a+n):=by
    unfold eT;rw[List.drop_of_length_le (by omega),List.drop_of_length_le (by omega)]
   omega
def pA{body:Int}(f:P')(r:List P'):(dG body (f::r) 0).2.1.length<(f::r).length:=by
 have key:∀(l:List P') (sh:Int),(dG body l sh).2.1.length<=l.length:=by
  intro l
  induction l with
  |nil=>intro sh;simp[dG]
  |cons g l ih=>
   intro sh;rw[dG];split
   .simp
   .have:=ih (sh+min g.h body);simp only[List.length_cons];omega
 rw[dG,if_neg (by omega)];have:=key r (0+min f.h body);simp only[List.length_cons];omega
def my{b:Bk}{s:R0}{to kept shift body:Int}:(dF b.atoms b.Re s to kept shift body).2.length<=b.Re.length:=by
 unfold dF;split
 .have h1:=pY (sM b.atoms s kept) shift body (fH b.Re s to);have h2:(fH b.Re s to).length<=b.Re.length:=pO _ _ _;omega
 .simp
inductive jP(b:Bk)(x:Wx):Sc->Prop
 |whole (c:Nat) (fr:Bool) (p:List P') (h1:x.s.atom<c) (h2:c<=b.atoms.length) (h3:p.length<=b.Re.length):jP b x ⟨⟨c,0,fr⟩,p⟩
 |more (d:Int) (p:List P') (h1:x.s.done<d) (h2:d<(Sq b.atoms x.s.atom).h) (h3:p.length<=b.Re.length):jP b x ⟨⟨x.s.atom,d,false⟩,p⟩
def pI{b:Bk}(hb:BkOk b){x:Wx}(hm:bZ b.atoms x.s)(Su:∀a∈b.atoms,1<=a.h)(VH:1<=x.body):jP b x (eW b x):=by
 have WG:cH b x<=b.atoms.length:=pK;have Sh:=hb.ZV;unfold eW;split
 .rename_i Rg;obtain⟨c,h1,h2,h3⟩:=tP Rg (by omega);rw[show pn b x=c from h1,Int.toNat_natCast];exact .whole c _ _ h2 (by omega) my
 .unfold sF ew;have hso:ki b.atoms x.s x.body:=⟨hm,VH⟩
  rw[if_pos (show ki b.atoms ({ x with kind:=1 }:Wx).s ({ x with kind:=1 }:Wx).body from hso)];obtain⟨⟨h0,h1⟩,h2,h3⟩:=hm;obtain⟨k,hk⟩:∃k:Nat,x.s.atom=k:=⟨x.s.atom.toNat,by omega⟩
  have Tv:k<b.atoms.length:=by omega
  have hp:=Su _ (List.getElem_mem Tv);have ha:Sq b.atoms x.s.atom=b.atoms[k]:=by rw[hk,bz Tv]
  rw[ha]at h3;have YQ:(fv b.atoms x.s.atom).h=b.atoms[k].h:=by rw[fv,ha]
  unfold jh;have e1:(dU b.atoms x.s x.body).fr=x.s.done:=rfl;have e2:(dU b.atoms x.s x.body).atom=x.s.atom:=rfl;have e3:(dU b.atoms x.s x.body).h=min (b.atoms[k].h-x.s.done) x.body:=by rw[<-YQ];rfl
  split
  .rename_i H';have SS:x.s.done+min (b.atoms[k].h-x.s.done) x.body<(Sq b.atoms x.s.atom).h:=by rw[<-e3];exact H'
   have:=jP.more (b:=b) (x:=x) (x.s.done+min (b.atoms[k].h-x.s.done) x.body) (dF b.atoms b.Re x.s (x.s.atom+1) 0 0 x.body).2 (by omega) SS my;rw[<-e3]at this;exact this
  .have:=jP.whole (b:=b) (x:=x) (k+1) false (dF b.atoms b.Re x.s (x.s.atom+1) 0 0 x.body).2 (by omega) (by omega) my;have e4:((k+1:Nat):Int)=x.s.atom+1:=by omega
   rw[e4]at this;exact this
structure V4(s:WS):Prop where
 pw:s.atoms.Pairwise λa b=>a.y+a.h<=b.y
 q:∀a∈s.atoms,a.y+a.h<=s.Ro.y
def V4.put{s:WS}(h:V4 s){a:RY}(h1:s.Ro.y<=a.y)(h2:0<=a.h):V4 (s.put a):=by
 refine⟨?_,λx hx=>?_⟩
 .simp only[WS.put];rw[List.pairwise_append];refine⟨h.pw,by simp,λx hx y hy=>?_⟩;simp only[List.mem_singleton]at hy;subst hy;have:=h.q x hx;omega
 .simp only[WS.put]at hx|-;rcases List.mem_append.1 hx with hx|hx
  .have:=h.q x hx;omega
  .simp only[List.mem_singleton]at hx;subst hx;omega
def V4.Ro{s:WS}(h:V4 s){p:Pn}(hp:s.Ro.y<=p.y):V4 { s with Ro:=p }:=⟨h.pw,λa ha=>by have:=h.q a ha;simp only;omega⟩
def Bx{p:Pn}{m d:Int}(h0:0<=p.m)(hd:0<=d):p.y<=(eD p m d).y:=by
 simp only[eD,ua];(repeat' split)<;>omega
def HM{p:Pn}{m d:Int}(h0:0<=p.m)(hd:0<=d):p.y<=(ld p m d).y:=by
 simp only[ld,ua];(repeat' split)<;>(try simp only)<;>omega
def V4.enter{s:WS}(h:V4 s)(h0:0<=s.Ro.m){t:SA}(ht:SOk t):V4 (s.enter t):=by
 have hp:=ht.Rl.1;unfold WS.enter;simp only;refine h.Ro ?_;split
 .have hc:s.Ro.y<=(jg s.Ro (ee (lD t.clear) s.B').1).y/\0<=(jg s.Ro (ee (lD t.clear) s.B').1).m:=by
   unfold jg;split<;>(try simp only)<;>omega
  exact Int.le_trans hc.1 (Bx hc.2 hp)
 .exact Bx h0 hp
def V4.leave{s:WS}(h:V4 s)(h0:0<=s.Ro.m){t:SA}(ht:SOk t):V4 (s.leave t):=h.Ro (HM h0 ht.Rb.1)
def V4.text{rs:List Rm}{s:WS}{C:Nat}(h:fS s C)(hk:V4 s){n:Nd}(hn:YL n)(a:Nat):V4 (s.text rs a n):=by
 obtain⟨⟨hf,h1,h2,h3,h4⟩,h5,h6⟩:=h;have hl:=hn.line;have key:∀(k i:Nat) (y:Int) (t:WS),t.Ro.y<=y->V4 t->V4 ((dP s.B' n.words n.space n.line (eI rs a) k i y).foldl (λs x=>s.put (fg a n.line x)) t):=by
  intro k
  induction k with
  |zero=>intro i y t _ ht;exact ht
  |succ k ih=>
   intro i y t hy ht;rw[dP];split
   .rw[List.foldl_cons];have hyr:y<=(nt s.B' n.words n.space n.line i y (eI rs a)).y:=(gb (λf UG=>(hf f UG).yB)).1;refine ih _ _ _ ?_ (ht.put (by simp only[fg];omega) hl.1);simp only[WS.put,fg];omega
   .exact ht
 exact key _ _ _ s (by omega) hk
def tD{l:List Nd}{rs:List Rm}(hD:Yj l rs):∀(k a e:Nat) (s:WS) (C:Nat),e-a<=k->a<=e->e<=l.length->cu l a e=true->fS s C->V4 s->V4 (eA l rs k a e s)
 |0,a,e,s,C,_,WN,_,_,_,h=>h
 |k+1,a,e,s,C,hk,WN,he,hr,h,hs=>by
  rw[eA];by_cases H':a<e
  .rw[if_pos H'];obtain⟨h1,h2⟩:=dr he hr (Nat.le_refl a) H';obtain⟨h3,h4⟩:=ei he hr H';have RL:YL (RI l a):=by rw[iS (by omega)];exact gr hD.XN (by omega)
   have step:∀t,(∃D,fS t D)->V4 t->V4 (eA l rs k (a+(RO l a).toNat) e t):=λt ⟨D,ht⟩ hA=>
    tD hD k _ e t D (by omega) (by omega) he h3 ht hA
   have hm:=h.bd.m0;split
   .have hI2:=gu hD k (a+1) (a+(RO l a).toNat) _ _ (by omega) (by omega) (by omega) h4 (fk h RL.st);have hS2:=tD hD k (a+1) (a+(RO l a).toNat) _ _ (by omega) (by omega) (by omega) h4 (fk h RL.st) (hs.enter hm RL.st);exact step _ ⟨_,jr hI2 RL.st⟩ (hS2.leave hI2.bd.m0 RL.st)
   .split
    .exact step _ ⟨_,kQ h RL a⟩ (V4.text h hs RL a)
    .split
     .refine step _ ⟨_,kJ h RL a⟩ ?_;have hyr:=gb (w:=(RI l a).w) (high:=(RI l a).h) (y:=s.Ro.y+s.Ro.m) (s:=eI rs a) (λf UG=>(h.bd.fl f UG).yB);exact hs.put (by simp only;omega) RL.h.1
     .have k4:(RI l a).kind=4:=by rename_i g1 g2 g3;rcases RL.kind with h|h|h|h;exact absurd h g1;exact absurd h g2;exact absurd h g3;exact h
      exact step _ ⟨_,jG hD h (by omega) RL k4⟩ ⟨hs.pw,hs.q⟩
  .rw[if_neg H'];exact hs
def Ih{l:List Nd}(hb:R3 l=true)(hn:l.length<=2000){w:Int}(h1:1<=w)(h2:w<=1099511627776):(di l w).atoms.Pairwise λa b=>a.y+a.h<=b.y:=by
 have hD:=sU hb hn h1 h2;have hr:cu l 0 l.length=true:=by simp only[R3,Ba]at hb;exact hb.2
 have hI:fS ⟨[],[],0,⟨0,0⟩⟩ 0:=⟨⟨by simp,by simp,by simp,by simp,by simp⟩,by simp,by simp⟩
 exact(tD hD l.length 0 l.length ⟨[],[],0,⟨0,0⟩⟩ 0 (by omega) (by omega) (Nat.le_refl _) hr hI ⟨by simp,by simp⟩).pw
def wQ{l:List RY}(h:l.Pairwise λa b=>a.y+a.h<=b.y){i j:Nat}(hij:i<j)(hj:j<l.length):l[i].y+l[i].h<=l[j].y:=List.pairwise_iff_getElem.1 h i j (by omega) hj hij
def pF{p:Nat->Bool}{n:Nat}(hm:∀i j,i<=j->j<n->p i=true->p j=true):∀(f i j:Nat),j-i<=f->i<=j->j<=n->(∀x,x<i->p x=false)->(j<n->p j=true)->
 (∀x,x<kx p f i j->p x=false)/\(kx p f i j<n->p (kx p f i j)=true)/\kx p f i j<=j
 |0,i,j,hf,hij,_,h1,h2=>by
  obtain rfl:i=j:=by omega
  exact⟨h1,h2,Nat.le_refl _⟩
 |f+1,i,j,hf,hij,hjn,h1,h2=>by
  rw[kx];split
  .rename_i H';split
   .rename_i hp;obtain⟨g1,g2,g3⟩:=pF hm f i ((i+j)/2) (by omega) (by omega) (by omega) h1 (λ_=>hp);exact⟨g1,g2,by omega⟩
   .rename_i hp;have hp':p ((i+j)/2)=false:=by simpa using hp
    refine pF hm f ((i+j)/2+1) j (by omega) (by omega) hjn (λx hx=>?_) h2;cases RN:p x with
    |false=>rfl
    |true=>rw[hm x ((i+j)/2) (by omega) (by omega) RN]at hp';cases hp'
  .obtain rfl:i=j:=by omega
   exact⟨h1,h2,Nat.le_refl _⟩
def gH{b:Bk}(hk:b.atoms.Pairwise λx y=>x.y+x.h<=y.y)(Su:∀a∈b.atoms,1<=a.h){s:R0}(hm:bZ b.atoms s)(kept shift body:Int):
 ∃r:Nat,iU b.atoms s kept shift body=r/\s.atom<=r/\r<=b.atoms.length/\(∀k (h:k<b.atoms.length),s.atom<=k->k<r->dp b.atoms s kept shift k+b.atoms[k].h<=body)/\∀h:r<b.atoms.length,dp b.atoms s kept shift r+b.atoms[r].h>body:=by
 have V0:=hm;obtain⟨⟨h0,h1⟩,h2,h3⟩:=hm;obtain⟨a,ha⟩:∃a:Nat,s.atom=a:=⟨s.atom.toNat,by omega⟩
 have TZ:a<b.atoms.length:=by omega
 have Vq:∀k (h:k<b.atoms.length),a<=k->dp b.atoms s kept shift k=b.atoms[k].y-b.atoms[a].y-s.done+kept+shift:=λk h hak=>by
  rw[dp,if_pos ⟨V0,by omega,by omega⟩,gk,if_pos ⟨⟨h0,h1⟩,by omega,by omega⟩,ha,bz h,bz TZ]
 have hby:∀n (h:a+n<b.atoms.length),fE b.atoms s kept shift body n=decide (b.atoms[a+n].y-b.atoms[a].y-s.done+kept+shift+b.atoms[a+n].h>body):=λn h=>by
  have e:s.atom+(n:Int)=((a+n:Nat):Int):=by omega
  rw[fE,e,Vq _ h (by omega),bz h]
 have hmono:∀i j,i<=j->j<b.atoms.length-a->fE b.atoms s kept shift body i=true->fE b.atoms s kept shift body j=true:=λi j hij hj hb=>by
  rcases Nat.eq_or_lt_of_le hij with rfl|H'
  .exact hb
  .have hi2:a+i<b.atoms.length:=by omega
   have hj2:a+j<b.atoms.length:=by omega
   rw[hby i hi2]at hb;rw[hby j hj2];have h5:=wQ hk (show a+i<a+j by omega) hj2;have h6:=Su _ (List.getElem_mem hj2);have Uw:=of_decide_eq_true hb;exact decide_eq_true (by omega)
 have hs:=pF hmono (b.atoms.length-a) 0 (b.atoms.length-a) (by omega) (by omega) (Nat.le_refl _) (λx hx=>by omega) (λh=>by omega);have hsr:kx (fE b.atoms s kept shift body) (b.atoms.length-a) 0 (b.atoms.length-a)=Ao (fE b.atoms s kept shift body) (b.atoms.length-a):=rfl;rw[hsr]at hs;obtain⟨g1,g2,g3⟩:=hs;refine⟨a+Ao (fE b.atoms s kept shift body) (b.atoms.length-a),?_,by omega,by omega,λk h hak hkr=>?_,λh=>?_⟩
 .rw[iU,if_pos V0,ha,Int.toNat_natCast];rfl
 .have hka:a<=k:=by omega
  have:=g1 (k-a) (by omega);rw[hby (k-a) (by omega)]at this;have h5:=of_decide_eq_false this;rw[Vq k h hka];have e:a+(k-a)=k:=by omega
  simp only[e]at h5;omega
 .have:=g2 (by omega);rw[hby _ h]at this;have h5:=of_decide_eq_true this;rw[Vq _ h (by omega)];omega
def lv{l:List Nd}{a:Nat}:∀(k:Nat) (x:Int),x∈gF l a k->gZ l x a=true
 |0,_,h=>by simp[gF]at h
 |k+1,x,h=>by
  rw[gF]at h;split at h
  .rename_i hk;rcases List.mem_cons.1 h with rfl|h
   .exact hk
   .exact lv k x h
  .exact lv k x h
def Ef(l:List Nd)(of:List Int)(k:Nat):0<=dE l of k 3/\dE l of k 3<=7:=by
 simp only[dE,Gq];cases kf l of k 0<;>cases kf l of k 1<;>cases kf l of k 2<;>simp
def wb:∀(all:List Int),dy all=0\/2<=dy all/\dy all<=4:=by
 have key:∀(all:List Int) (o:Int),(o=0\/2<=o/\o<=4)->(all.foldl jW o=0\/2<=all.foldl jW o/\all.foldl jW o<=4):=by
  intro all
  induction all with
  |nil=>intro o h;exact h
  |cons x all ih=>
   intro o h;rw[List.foldl_cons];refine ih _ ?_;unfold jW lY
   (repeat' split)<;>omega
 exact λall=>key all 0 (.inl rfl)
def Hv{l:List Nd}(hb:R3 l=true){of:List Int}(Sx:∀x∈of,0<=x/\x<l.length):ux (rq l of)=true:=by
 have hlen:(rq l of).length=of.length+1:=by simp[rq]
 simp only[ux,Ba,List.all_eq_true,List.mem_range,decide_eq_true_eq];refine⟨λk hk=>?_,by omega⟩;rw[hlen]at hk;have hg:TL (rq l of) k=YP l of k:=by simp[TL,rq,hk]
 unfold gT;rw[hg,hlen];refine decide_eq_true ?_;have Tu:0<k->k<of.length->of.getD k 0=of.getD (k-1) 0->je l of k=0:=λh0 h1 he=>by
  have TH:of.getD k 0=of[k]:=by simp[h1]
  have hr:=Sx _ (List.getElem_mem h1);have hh:∀x∈U' l (of.getD k 0).toNat,W3 l of x k=true/\W3 l of x ((k:Int)-1)=true:=λx hx=>by
   rw[TH]at hx;have H':of[k].toNat<l.length:=by omega
   rw[KF hb H']at hx;have RN:=lv _ _ hx;rw[lp]at RN;have e1:((k:Int)-1).toNat=k-1:=by omega
   have e2:((k:Int)).toNat=k:=by omega
   have e3:(of[k].toNat:Int)=of[k]:=by omega
   rw[e3]at RN;unfold W3 wU;rw[if_pos (by omega),if_pos (by omega),e1,e2,<-he,TH];exact⟨decide_eq_true ⟨RN.2.2.1,RN.2.2.2⟩,decide_eq_true ⟨RN.2.2.1,RN.2.2.2⟩⟩
  have e1:((k:Int)-1).toNat=k-1:=by omega
  have e2:((k:Int)).toNat=k:=by omega
  have he1:VN l of ((k:Int)-1) (λb=>!W3 l of b k)=[]:=by
   unfold VN;rw[if_pos (by omega),e1,<-he,List.filter_eq_nil_iff];intro x hx;rw[(hh x hx).1];simp
  have he2:VN l of k (λb=>!W3 l of b ((k:Int)-1))=[]:=by
   unfold VN;rw[if_pos (by omega),e2,List.filter_eq_nil_iff];intro x hx;rw[(hh x hx).2];simp
  unfold je jH;rw[if_neg (by omega),eC,he1,he2];rfl
 have hend:k=of.length->je l of k=0:=λh=>by
  unfold je jH;rw[if_pos h];rfl
 have hfv:=wb (jH l of k);have hbr:=Ef l of k;change je l of k=0\/2<=je l of k/\je l of k<=4 at hfv;unfold nT YP;simp only[decide_eq_true_eq,decide_eq_false_iff_not];unfold pT pZ;by_cases h0:k=0
 .rw[if_pos h0,if_pos (show k=0\/k=of.length from .inl h0)];refine⟨λ_=>rfl,λh=>absurd (by omega) h,λh=>absurd (by omega) h,?_,.inl (by split<;>rfl)⟩;rcases hfv with h|h
  .exact .inl h
  .exact .inr ⟨h.1,h.2,by omega,by omega⟩
 .rw[if_neg h0];by_cases h1:k=of.length
  .rw[if_pos h1,if_pos (show k=0\/k=of.length from .inr h1)];exact⟨λh=>absurd h (by omega),λ_ _=>rfl,λ_ h=>absurd (by omega) h,.inl (hend h1),.inl (by split<;>rfl)⟩
  .rw[if_neg h1,if_neg (show¬(k=0\/k=of.length) by omega)];by_cases h2:of.getD k 0=of.getD (k-1) 0
   .rw[if_pos h2];have hf:=Tu (by omega) (by omega) h2;refine⟨λh=>absurd h (by omega),λ_ h=>absurd h (by omega),λ_ _=>.inr rfl,.inl hf,?_⟩;rw[if_pos hf];rcases Int.lt_or_le 0 (dE l of k 3)with h|h
    .exact .inr ⟨.inr rfl,hf,h,by omega⟩
    .exact .inl (by omega)
   .rw[if_neg h2];refine⟨λh=>absurd h (by omega),λ_ h=>absurd h (by omega),λ_ _=>.inl rfl,?_,?_⟩
    .rcases hfv with h|h
     .exact .inl h
     .exact .inr ⟨h.1,h.2,by omega,by omega⟩
    .by_cases hf:je l of k=0
     .rw[if_pos hf];rcases Int.lt_or_le 0 (dE l of k 3)with h|h
      .exact .inr ⟨.inl rfl,hf,h,by omega⟩
      .exact .inl (by omega)
     .rw[if_neg hf];exact .inl rfl
def Zr(top e:Int)(l:List SU):Prop:=∀f∈l,top<=f.y/\0<=f.h/\f.y+f.h<=e
def wz{top e:Int}{l m:List SU}(h1:Zr top e l)(h2:Zr top e m):Zr top e (l++m):=λf hf=>(List.mem_append.1 hf).elim (h1 f) (h2 f)
def yF{l:List Nd}{x:Kp}{a:Int}(h:∀n∈x.Rj,1<=(SP l n).head):∀n∈(iY l x a).Rj,1<=(SP l n).head:=λn hn=>by
 unfold iY at hn;split at hn
 .exact h n hn
 .rename_i hc;rcases List.mem_append.1 hn with hn|hn
  .exact h n hn
  .rw[List.mem_singleton.1 hn];omega
def sE{l:List Nd}{L:List Int}{h:Int}:∀m,∀n∈(gw l L h m).Rj,1<=(SP l n).head
 |0=>λn hn=>by simp[gw]at hn
 |m+1=>by rw[gw];exact yF (sE m)
def JN{l:List Nd}{w:Int}:∀(L:List Int),(∀n∈L,1<=(SP l n).head)->0<=(Uu l w L).2/\(∀f∈(Uu l w L).1,0<=f.y/\0<=f.h/\f.y+f.h<=(Uu l w L).2)/\((Uu l w L).1.map (·.h)).sum=(Uu l w L).2:=λL=>by
 suffices key:∀(L:List Int) (p:List SU×Int),(∀n∈L,1<=(SP l n).head)->0<=p.2->(∀f∈p.1,0<=f.y/\0<=f.h/\f.y+f.h<=p.2)->(p.1.map (·.h)).sum=p.2->
  0<=(L.foldl (Vz l w) p).2/\(∀f∈(L.foldl (Vz l w) p).1,0<=f.y/\0<=f.h/\f.y+f.h<=(L.foldl (Vz l w) p).2)/\((L.foldl (Vz l w) p).1.map (·.h)).sum=(L.foldl (Vz l w) p).2 from
  λh=>key L ([],0) h (Int.le_refl _) (λf hf=>by cases hf) rfl
 intro L
 induction L with
 |nil=>intro p _ h1 h2 h3;exact⟨h1,h2,h3⟩
 |cons a L ih=>
  intro p h h1 h2 h3;have ha:=h a (by simp);refine ih _ (λn hn=>h n (by simp[hn])) ?_ (λf hf=>?_) ?_
  .simp only[Vz];omega
  .simp only[Vz]at hf|-;rcases List.mem_append.1 hf with hf|hf
   .have:=h2 f hf;omega
   .rw[List.mem_singleton.1 hf];simp only;omega
  .simp only[Vz,List.map_append,List.sum_append,h3,List.map_cons,List.map_nil,List.sum_cons,List.sum_nil];omega
def oP{b:Bk}(hb:BkFull b)(s:R0)(h0:0<=s.atom):0<=(bf b s).high/\1<=(bf b s).body/\(bf b s).high+(bf b s).body=b.h/\Zr 0 (bf b s).high (Uu b.nodes b.w (bf b s).Rj).1/\((Uu b.nodes b.w (bf b s).Rj).1.map (·.h)).sum=(bf b s).high:=by
 have hk:=mN hb s;have hbd:=iH hb s h0;have hh:∀n∈(bf b s).Rj,1<=(SP b.nodes n).head:=by
  unfold bf;split
  .intro n hn;cases hn
  .unfold rv;split
   .exact sE _
   .intro n hn;cases hn
 obtain⟨g1,g2,g3⟩:=JN (l:=b.nodes) (w:=b.w) _ hh;rw[hk.sum]at g2 g3;refine⟨hk.high.1,hbd,?_,g2,g3⟩;have h1:=hb.h1;revert hbd;unfold bf;split
 .intro _;simp
 .unfold rv;split
  .rename_i hc;intro _;obtain⟨_,h3,h4⟩:=hc;generalize (Sq b.atoms (min s.atom ((b.atoms.length:Int)-1))).node=a at*;have ha:a.toNat<b.nodes.length:=by omega
   have Wr:∀x∈U' b.nodes a.toNat,∃n:Nat,x=n/\n<b.nodes.length:=λx hx=>by
    obtain⟨n,h1,h2⟩:=oe ha x hx;exact⟨n,h1,by omega⟩
   exact(pc hb.XN Wr (by omega:0<=b.h) (U' b.nodes a.toNat).length (Nat.le_refl _)).2.2.2
  .intro h;exact absurd h (by simp)
def Cq{body:Int}(hb:0<=body):∀(l:List P') (sh:Int),0<=sh->sh<=body->(∀f∈l,0<=f.h)->∀m∈(dG body l sh).1,0<=m.y/\0<=m.h/\m.y+m.h<=body
 |[],sh,_,_,_=>λm hm=>by simp[dG]at hm
 |f::r,sh,h0,h1,hf=>λm hm=>by
  rw[dG]at hm;have:=hf f (by simp);split at hm
  .cases hm
  .rename_i hc;rcases List.mem_cons.1 hm with rfl|hm
   .simp only;omega
   .exact Cq hb r _ (by omega) (by omega) (λg hg=>hf g (by simp[hg])) m hm
def Fg{top shift body:Int}(UM:0<=shift):∀{L:List P'},(∀f∈L,0<=f.h)->∀m∈(jB top shift body L).1,0<=m.y/\0<=m.h/\m.y+m.h<=body:=by
 suffices key:∀(L:List P') (x:List P'×List P'),(∀f∈L,0<=f.h)->(∀m∈x.1,0<=m.y/\0<=m.h/\m.y+m.h<=body)->
  ∀m∈(L.foldl (λx f=>lW body x f (ga top shift f)) x).1,0<=m.y/\0<=m.h/\m.y+m.h<=body from
  λ{L} h=>key L ([],[]) h (λm hm=>by cases hm)
 intro L
 induction L with
 |nil=>intro x _ h m hm;exact h m hm
 |cons f L ih=>
  intro x hL h;refine ih _ (λg hg=>hL g (by simp[hg])) λm hm=>?_;have hf:=hL f (by simp);simp only[lW]at hm;split at hm
  .exact h m hm
  .rename_i hl;rcases List.mem_append.1 hm with hm|hm
   .exact h m hm
   .rw[List.mem_singleton.1 hm];unfold qo at hl;have hl':¬(x.2≠[]\/(ga top shift f).y+(ga top shift f).h>body):=λh=>hl (decide_eq_true h);simp only[ga]at hl'|-;omega
def Dn:∀{l:List P'} {a b:Int} {f:P'},f∈xP l a b->f∈l:=λh=>(List.mem_filter.1 h).1
def zB{b:Bk}(hfh:∀f∈b.Re,0<=f.h){s:R0}{to kept shift body:Int}(UM:0<=shift):∀m∈(dF b.atoms b.Re s to kept shift body).1,0<=m.y/\0<=m.h/\m.y+m.h<=body:=by
 unfold dF;split
 .exact Fg UM λf hf=>hfh f (Dn hf)
 .intro m hm;cases hm
def wF{high body:Int}{l:List P'}(h:∀m∈l,0<=m.y/\0<=m.h/\m.y+m.h<=body):Zr high (high+body) (l.map (tq high)):=λf hf=>by
 obtain⟨m,hm,rfl⟩:=List.mem_map.1 hf;have:=h m hm;simp only[tq];omega
def tV:∀(xs:List Fd) (d:Fd),(fF gX xs d=(d,false)/\∀x∈xs,x.b.forced=0)\/∃L x R,xs=L++x::R/\(∀y∈L,y.b.forced=0)/\x.b.forced≠0/\fF gX xs d=(x,true)
 |[],d=>.inl ⟨rfl,λx h=>(by cases h)⟩
 |a::xs,d=>by
  have stay:∀(l:List Fd) (x:Fd),l.foldl (gm gX) (x,true)=(x,true):=by
   intro l
   induction l with
   |nil=>intro x;rfl
   |cons y l ih=>intro x;rw[List.foldl_cons];exact ih x
  by_cases h:a.b.forced=0
  .have e:fF gX (a::xs) d=fF gX xs d:=by
    unfold fF;rw[List.foldl_cons,gm,gX];simp[h]
   rw[e];rcases tV xs d with⟨h1,h2⟩|⟨L,x,R,h1,h2,h3,h4⟩
   .exact .inl ⟨h1,λx hx=>(List.mem_cons.1 hx).elim (λe=>e▸h) (h2 x)⟩
   .exact .inr ⟨a::L,x,R,by rw[h1];rfl,λy hy=>(List.mem_cons.1 hy).elim (λe=>e▸h) (h2 y),h3,h4⟩
  .refine .inr ⟨[],a,xs,rfl,λy hy=>(by cases hy),h,?_⟩;unfold fF;rw[List.foldl_cons,gm,gX];simp only[h,Bool.not_false,ne_eq,not_false_eq_true,decide_true,Bool.and_self,if_true];exact stay xs a
def De(d:Fd):∀(xs:List Fd) (a:Fd),∃L x R,xs++[a]=L++x::R/\fF jc (xs++[a]) d=(x,true)/\(∀y∈L,x.b.R5<=y.b.R5)/\∀y∈R,x.b.R5<y.b.R5:=by
 suffices key:∀n (xs:List Fd) (a:Fd),xs.length=n->∃L x R,xs++[a]=L++x::R/\fF jc (xs++[a]) d=(x,true)/\(∀y∈L,x.b.R5<=y.b.R5)/\∀y∈R,x.b.R5<y.b.R5 from
  λxs a=>key _ xs a rfl
 intro n
 induction n with
 |zero=>
  intro xs a h;obtain rfl:=List.length_eq_zero_iff.1 h;exact⟨[],a,[],rfl,by simp[fF,gm,jc],λy h=>(by cases h),λy h=>by cases h⟩
 |succ n ih=>
  intro xs a h;rcases List.eq_nil_or_concat xs with rfl|⟨ys,z,rfl⟩
  .cases h
  .rw[List.concat_eq_append]at h|-;obtain⟨L,x,R,h1,h2,h3,h4⟩:=ih ys z (by simpa using h);rw[tm,h2];unfold gm jc;by_cases hr:a.b.R5<=x.b.R5
   .refine⟨ys++[z],a,[],rfl,by simp[hr],λy hy=>?_,λy hy=>by cases hy⟩;rw[h1]at hy;rcases List.mem_append.1 hy with hy|hy
    .have:=h3 y hy;omega
    .rcases List.mem_cons.1 hy with rfl|hy
     .exact hr
     .have:=h4 y hy;omega
   .refine⟨L,x,R++[a],by rw[h1];simp,by simp[hr],h3,λy hy=>?_⟩;rcases List.mem_append.1 hy with hy|hy
    .exact h4 y hy
    .rw[List.mem_singleton.1 hy];omega
def vT{b:List S1}{fr to:Int}{L R:List Fd}{x:Fd}(h:(VP b fr to).map (kX b)=L++x::R):
 ∃c:Nat,x=kX b c/\max fr 0<=c/\c<max fr 0+rE b fr to/\(∀k:Nat,max fr 0<=k->k<c->kX b k∈L)/\∀k:Nat,c<k->k<max fr 0+rE b fr to->kX b k∈R:=by
 have hlen:=congrArg List.length h;simp only[VP,List.length_map,List.length_range',List.length_append,List.length_cons]at hlen;have T':∀k:Nat,max fr 0<=k->k<max fr 0+rE b fr to->(L++x::R)[k-(max fr 0).toNat]?=some (kX b k):=λk h1 h2=>by
  rw[<-h,VP,List.getElem?_map,List.getElem?_range' (by omega)];simp only[Option.map_some,Nat.one_mul];rw[show(max fr 0).toNat+(k-(max fr 0).toNat)=k by omega]
 refine⟨(max fr 0).toNat+L.length,?_,by omega,by omega,λk h1 h2=>?_,λk h1 h2=>?_⟩
 .have:=T' ((max fr 0).toNat+L.length) (by omega) (by omega);rw[show(max fr 0).toNat+L.length-(max fr 0).toNat=L.length by omega]at this;simpa using this
 .have:=T' k h1 (by omega);rw[List.getElem?_append_left (by omega)]at this;exact List.mem_of_getElem? this
 .have:=T' k (by omega) (by omega);rw[List.getElem?_append_right (by omega),show k-(max fr 0).toNat-L.length=(k-((max fr 0).toNat+L.length)-1)+1 by omega,List.getElem?_cons_succ]at this;exact List.mem_of_getElem? this
def tW{b:List S1}{i fit:Int}(h:eO b i fit)(hf:fit<=(b.length:Int)-1):
 ∃c:Nat,nC b i fit=c/\i<c/\(c:Int)<=fit/\∀k:Nat,i<k->(k:Int)<=fit->(k<c->(TL b k).forced=0)/\((TL b c).forced=0->k≠c->(TL b k).forced=0/\(TL b c).R5<=(TL b k).R5/\(c<k->(TL b k).R5≠(TL b c).R5)):=by
 obtain⟨_,h1,h2,h3⟩:=h;have hn:max (i+1) 0=i+1:=by omega
 have hb:rE b (i+1) fit=(fit-i).toNat:=by unfold rE;omega
 unfold nC kz Ca;rcases tV ((VP b (i+1) fit).map (kX b)) zM with⟨e,hz⟩|⟨L,x,R,e1,e2,e3,e4⟩
 .rw[e,if_pos (show zM.i<0 by decide)];have hz':∀k:Nat,i<k->(k:Int)<=fit->(TL b k).forced=0:=λk g1 g2=>by
   refine hz (kX b k) (List.mem_map.2 ⟨k,?_,rfl⟩);rw[VP,List.mem_range'_1];omega
  have RK:(VP b (i+1) fit).map (kX b)≠[]:=λe=>by
   have:=congrArg List.length e;simp[VP,hb]at this;omega
  rcases List.eq_nil_or_concat ((VP b (i+1) fit).map (kX b))with e|⟨ys,z,e⟩
  .exact absurd e RK
  .rw[List.concat_eq_append]at e;obtain⟨L,x,R,f1,f2,f3,f4⟩:=De zM ys z;rw[<-e]at f1 f2;obtain⟨c,rfl,g1,g2,g3,g4⟩:=vT f1;rw[f2];refine⟨c,rfl,by omega,by omega,λk k1 k2=>⟨λ_=>hz' k k1 k2,λ_ hk=>⟨hz' k k1 k2,?_,λH'=>?_⟩⟩⟩
   .rcases Nat.lt_or_gt_of_ne hk with hk|hk
    .exact f3 _ (g3 k (by omega) hk)
    .exact Int.le_of_lt (f4 _ (g4 k hk (by omega)))
   .have:=f4 _ (g4 k H' (by omega));exact λe=>by simp only[kX]at this;omega
 .obtain⟨c,rfl,g1,g2,g3,g4⟩:=vT e1;rw[e4,if_neg (show¬(kX b c).i<0 from λh=>by simp only[kX]at h;omega)];exact⟨c,rfl,by omega,by omega,λk k1 k2=>⟨λhk=>e2 _ (g3 k (by omega) hk),λhc=>absurd hc e3⟩⟩
inductive rN(b:Bk)(s t:R0)(fs:List SU)(top body:Int):Prop
 |more (h1:t.atom=s.atom) (h2:fs.length=1) (h3:gP b.atoms s>body) (h4:∀f,fs[0]?=some f->f.h=body) (h5:t.done=s.done+body)
 |whole (c r:Nat) (y:Int) (h1:t=⟨c,0,decide ((TL b.L' c).forced≠0)⟩) (h2:s.atom<c) (h3:c<=r) (h4:r<=b.atoms.length) (h5:fs.length+s.atom=c) (h6:∀f,fs[0]?=some f->f.y=top+y)
    (h7:∀k (h:k<b.atoms.length),s.atom<=k->k<r->(if s.atom<k then y+(b.atoms[k].y-(Sq b.atoms s.atom).y-s.done)else y)+(if k=s.atom then gP b.atoms s else b.atoms[k].h)<=body)
    (h8:∀(h:r<b.atoms.length),(if s.atom<r then y+(b.atoms[r].y-(Sq b.atoms s.atom).y-s.done)else y)+(if r=s.atom then gP b.atoms s else b.atoms[r].h)>body)
    (h9:∀k:Nat,s.atom<k->k<=r->(k<c->(TL b.L' k).forced=0)/\((TL b.L' c).forced=0->k≠c->(TL b.L' k).forced=0/\(TL b.L' c).R5<=(TL b.L' k).R5/\(c<k->(TL b.L' k).R5≠(TL b.L' c).R5)))
structure FP(b:Bk)(x:Wx)(fs:List SU)(t:R0):Prop where
 ne:0<fs.length
 fin:Zr x.high (x.high+x.body) fs
 fst:∀f,fs[0]?=some f->f.atom=x.s.atom/\f.fr=x.s.done
 cut:rN b x.s t fs x.high x.body
structure bO(b:Bk):Prop extends BkFull b where
 Ts:b.atoms.Pairwise λx y=>x.y+x.h<=y.y
 pos:∀a∈b.atoms,1<=a.h
 top:∀a∈b.atoms,0<=a.y
 mayb:ux b.L'=true
 fh:∀f∈b.Re,0<=f.h
 fy:∀f∈b.Re,0<=f.y
def Bm{b:Bk}(hb:bO b)(k:Int):0<=lg b.atoms k:=by
 unfold lg;split
 .rename_i h;obtain⟨n,rfl⟩:∃n:Nat,k=n:=⟨k.toNat,by omega⟩
  have hn:n<b.atoms.length:=by omega
  rw[bz hn];unfold fI;split
  .rename_i h2;have e:(n:Int)-1=((n-1:Nat):Int):=by omega
   rw[e,bz (by omega)];have:=wQ hb.Ts (show n-1<n by omega) hn;omega
  .have:=hb.top _ (List.getElem_mem hn);omega
 .exact Int.le_refl _
def Dr{b:Bk}(hb:bO b){x:Wx}(hm:bZ b.atoms x.s)(hx:x.fs=[])
 (VH:1<=x.body)(UM:0<=x.shift)(Xb:¬(x.shift>0/\gP b.atoms x.s>x.body-x.shift)):FP b x (eu b x).fs (eW b x).s:=by
 have hk:=hb.Ts;have Su:=hb.pos;have UW:=hb.mayb;obtain⟨r,hr,hr1,hr2,hr3,hr4⟩:=gH hk Su hm (cV b x) x.shift x.body;have V0:=hm;obtain⟨⟨h0,h1⟩,h2,h3⟩:=hm;obtain⟨a,ha⟩:∃a:Nat,x.s.atom=a:=⟨x.s.atom.toNat,by omega⟩
 have TZ:a<b.atoms.length:=by omega
 have Wl:Sq b.atoms x.s.atom=b.atoms[a]:=by rw[ha,bz TZ]
 have hpa:=Su _ (List.getElem_mem TZ);have Sh:=hb.ZV;have WB:gP b.atoms x.s=b.atoms[a].h-x.s.done:=by rw[gP,if_pos V0,Wl]
 rw[Wl]at h3;have hl0:1<=gP b.atoms x.s:=by rw[WB];omega
 have Vq:∀kept sh k (h:k<b.atoms.length),a<=k->dp b.atoms x.s kept sh k=b.atoms[k].y-b.atoms[a].y-x.s.done+kept+sh:=λkept sh k h hak=>by
  rw[dp,if_pos ⟨V0,by omega,by omega⟩,gk,if_pos ⟨⟨h0,h1⟩,by omega,by omega⟩,Wl,bz h]
 have hkept:cV b x=0\/0<=cV b x/\x.s.done=0/\cV b x+gP b.atoms x.s<=x.body-x.shift:=by
  unfold cV ik;split
  .rename_i hc;obtain⟨_,_,hd,hg⟩:=hc;rw[WB];rw[Wl]at hg;exact .inr ⟨Bm hb _,hd,hg⟩
  .exact .inl rfl
 have hrX:cH b x=r:=hr;unfold eu eW;by_cases Rg:eO b.L' x.s.atom (cH b x)
 .rw[if_pos Rg,if_pos Rg];obtain⟨c,c1,c2,c3,c4⟩:=tW Rg (by rw[hrX];omega);rw[show pn b x=c from c1,Int.toNat_natCast];rw[hrX]at c3 c4;have hlen:(cp b { x with kind:=1 } (cV b x) (c-x.s.atom.toNat)).length=c-a:=by
   rw[cp,List.length_map,List.length_range,ha,Int.toNat_natCast]
  have Tk:(pL b { x with kind:=1 } (cV b x) c).fs=cp b { x with kind:=1 } (cV b x) (c-x.s.atom.toNat):=by
   simp only[pL,Wx.put,Wx.add,hx,List.nil_append]
  have SE:∀i (h:i<c-a),(cp b { x with kind:=1 } (cV b x) (c-x.s.atom.toNat))[i]?=some (cE x.high (cU b.atoms x.s (cV b x) x.shift ((a+i:Nat):Int))):=λi h=>by
   rw[cp,List.getElem?_map,List.getElem?_range (by rw[ha];omega),Option.map_some,ha];rfl
  have hwh:∀k (h:k<b.atoms.length),a<=k->(cU b.atoms x.s (cV b x) x.shift k).y=dp b.atoms x.s (cV b x) x.shift k+(if k=a then x.s.done else 0)/\(cU b.atoms x.s (cV b x) x.shift k).h=b.atoms[k].h-(if k=a then x.s.done else 0)/\(cU b.atoms x.s (cV b x) x.shift k).atom=k/\(cU b.atoms x.s (cV b x) x.shift k).fr=if k=a then x.s.done else 0:=λk h hak=>by
   rw[cU,if_pos ⟨V0,by omega,by omega⟩];by_cases e:k=a
   .rw[if_pos (by omega),if_pos e];simp only[SU.bT,jI,fv,bz h];exact⟨trivial,trivial,trivial,trivial⟩
   .rw[if_neg (by omega),if_neg e];simp only[jI,fv,bz h];exact⟨(Int.add_zero _).symm,(Int.sub_zero _).symm,trivial,trivial⟩
  have WQ:(cp b { x with kind:=1 } (cV b x) (c-x.s.atom.toNat))[0]?=some (cE x.high (cU b.atoms x.s (cV b x) x.shift ((a:Nat):Int))):=SE 0 (by omega);obtain⟨w1,w2,w3,w4⟩:=hwh a TZ (Nat.le_refl _);rw[if_pos rfl]at w1 w2 w4;have hpa0:=Vq (cV b x) x.shift a TZ (Nat.le_refl _);have UY:0<=cV b x:=by rcases hkept with h|h<;>omega
  refine⟨by rw[Tk,hlen];omega,λf hf=>?_,λf hf=>?_,?_⟩
  .rw[Tk]at hf;obtain⟨i,hi⟩:=List.getElem?_of_mem hf;have Uc:i<c-a:=by
    rw[<-hlen];exact(List.getElem?_eq_some_iff.1 hi).1
   rw[SE i Uc]at hi;obtain rfl:=Option.some.inj hi;obtain⟨v1,v2,-,-⟩:=hwh (a+i) (by omega) (by omega);have hpl':=Vq (cV b x) x.shift (a+i) (by omega) (by omega);have TU:=hr3 (a+i) (by omega) (by omega) (by omega);have YQ:=Su _ (List.getElem_mem (show a+i<b.atoms.length by omega));simp only[cE];rw[v1,v2];rw[hpl']at TU|-;by_cases e:i=0
   .subst e;simp only[Nat.add_zero,if_true]at TU|-;omega
   .rw[if_neg (by omega)];have RA:=wQ hk (show a<a+i by omega) (by omega);omega
  .rw[Tk,WQ]at hf;obtain rfl:=Option.some.inj hf;simp only[cE];rw[w3,w4];exact⟨ha.symm,rfl⟩
  .refine .whole c r (cV b x+x.shift) rfl c2 (by omega) hr2 (by rw[Tk,hlen];omega) (λf hf=>?_) (λk h h1 h2=>?_) (λh=>?_) (λk h1 h2=>c4 k h1 (by omega))
   .rw[Tk,WQ]at hf;obtain rfl:=Option.some.inj hf;simp only[cE];rw[w1,hpa0];omega
   .have:=hr3 k h h1 h2;rw[Vq _ _ k h (by omega)]at this;rw[Wl];by_cases e:(k:Int)=x.s.atom
    .obtain rfl:k=a:=by omega
     rw[if_neg (by omega),if_pos e,WB];omega
    .rw[if_pos (by omega),if_neg e];omega
   .have:=hr4 h;rw[Vq _ _ r h (by omega)]at this;rw[Wl];by_cases e:(r:Int)=x.s.atom
    .obtain rfl:r=a:=by omega
     rw[if_neg (by omega),if_pos e,WB];omega
    .rw[if_pos (by omega),if_neg e];omega
 .rw[if_neg Rg,if_neg Rg];have hra:r=a:=by
   have:¬x.s.atom<cH b x:=λh=>Rg ⟨UW,h0,by omega,h⟩;omega
  have hgt:=hr4 (by omega);subst hra;rw[Vq _ _ r TZ (Nat.le_refl _)]at hgt;have UY:cV b x=0/\x.shift=0:=by
   rw[WB]at hkept Xb;rcases hkept with h|h<;>omega
  have hso:ki b.atoms ({ x with kind:=1 }:Wx).s ({ x with kind:=1 }:Wx).body:=⟨V0,VH⟩
  have Tk:(qg b { x with kind:=1 }).fs=[cE x.high (ic b.atoms x.s x.body)]:=by
   simp only[qg,Wx.put,Wx.add,hx,List.nil_append]
  have WE:ic b.atoms x.s x.body=⟨b.atoms[r].node,x.s.atom,x.s.done,b.atoms[r].x,0,b.atoms[r].w,x.body⟩:=by
   rw[ic,if_pos (show ki b.atoms x.s x.body from hso),dU];simp only[SU.cut,SU.bT,fv,Wl];congr 1;omega
  have hnx:ew b.atoms x.s x.body=⟨x.s.atom,x.s.done+x.body,false⟩:=by
   rw[ew,if_pos (show ki b.atoms x.s x.body from hso)];rw[ic,if_pos (show ki b.atoms x.s x.body from hso)]at WE;rw[WE];simp only[jh,Wl];rw[if_pos (by omega)]
  rw[WE]at Tk;refine⟨by rw[Tk];exact Nat.one_pos,λf hf=>?_,λf hf=>?_,.more ?_ (by rw[Tk];rfl) (by rw[WB];omega) (λf hf=>?_) ?_⟩
  .rw[Tk,List.mem_singleton]at hf;subst hf;simp only[cE];omega
  .rw[Tk]at hf;obtain rfl:=Option.some.inj hf;exact⟨rfl,rfl⟩
  .show(ew b.atoms x.s x.body).atom=_;rw[hnx]
  .rw[Tk]at hf;obtain rfl:=Option.some.inj hf;rfl
  .show(ew b.atoms x.s x.body).done=_;rw[hnx]
def PB(s t:Sc)(n:Int):Prop:=t.s.atom>s.s.atom\/t.s.atom=s.s.atom/\t.s.done>s.s.done\/t.s.atom=s.s.atom/\t.s.done=s.s.done/\(t.bM.length<s.bM.length\/t.s.atom=n/\t.s.free=false)
structure FF(b:Bk)(s:Sc)(p:Uh)(t:Sc):Prop where
 no:p.no=0
 onw:PB s t b.atoms.length
 sum:(p.hs.map (·.h)).sum=(bf b s.s).high
 hd:Zr 0 (bf b s.s).high p.hs
 fl:Zr (bf b s.s).high b.h p.fs
 lo:Zr (bf b s.s).high b.h p.ls
 kd:p.kind=1\/p.kind=2
 no':p.kind=2->p.fs=[]
 cut:p.kind=1->bZ b.atoms s.s/\0<p.fs.length/\(∀f,p.fs[0]?=some f->f.atom=s.s.atom/\f.fr=s.s.done)/\rN b s.s t.s p.fs (bf b s.s).high (bf b s.s).body
def EF{α:Type}{p:α->Bool}:∀(l:List α),∀x∈l.takeWhile p,p x=true
 |[],x,h=>by cases h
 |a::l,x,h=>by
  rw[List.takeWhile_cons]at h;split at h
  .rename_i ha;rcases List.mem_cons.1 h with rfl|h
   .exact ha
   .exact EF l x h
  .cases h
def Fv{b:Bk}(hb:bO b){x:Wx}(UM:0<=x.shift)(h:Zr x.high (x.high+x.body) x.ls):Zr x.high (x.high+x.body) (eu b x).ls:=by
 unfold eu;split
 .exact wz h (wF (zB hb.fh UM))
 .exact wz h (wF (zB hb.fh (Int.le_refl _)))
def j3(b:Bk)(x:Wx):(eu b x).hs=x.hs/\(eu b x).kind=1:=by
 unfold eu;split<;>exact⟨rfl,rfl⟩
def iu{b:Bk}(hb:bO b){s:Sc}(he:¬db b s):FF b s (aW b s).1 (aW b s).2:=by
 have RZ:gy b s:=Decidable.byContradiction λh=>he (.inl h);have X7:¬(s.s.atom=b.atoms.length/\s.s.free=false/\s.bM=[]):=λh=>he (.inr h);have SE:0<=s.s.atom:=by rcases RZ.2 with h|h;exact h.1.1;omega
 obtain⟨r1,r2,r3,r4,r5⟩:=oP hb.toBkFull s.s SE;have hpf:∀f∈s.bM,0<=f.h:=λf hf=>hb.fh f (mM _ _ RZ.1 f hf);have Xt:Zr (bf b s.s).high ((bf b s.s).high+(bf b s.s).body) ((dG (bf b s.s).body s.bM 0).1.map (tq (bf b s.s).high)):=wF (Cq (by omega) _ 0 (Int.le_refl _) (by omega) hpf);have UM:=(rZ (body:=(bf b s.s).body) s.bM 0 (Int.le_refl _) (by omega) hpf).2.2;unfold aW;split
 .rename_i h0;obtain⟨h1,h2⟩:=h0;have hn:s.s.atom=0/\s.s.done=0:=by
   rcases RZ.2 with h|h
   .have:=h.1;rw[h1]at this;simp at this;omega
   .rw[h1]at h;simpa using h
  have hrv:bf b s.s=⟨[],0,b.h⟩:=by rw[bf,if_pos h1]
  refine⟨rfl,.inr (.inr ⟨?_,?_,.inr ⟨?_,rfl⟩⟩),r5,r4,λf hf=>(by cases hf),?_,.inr rfl,λ_=>rfl,λh=>?_⟩
  .simp[mn,hn]
  .simp[mn,hn]
  .simp[mn,h1]
  .rw[<-r3];refine wF (high:=(bf b s.s).high) (body:=(bf b s.s).body) λm hm=>?_;have h4:m.y+m.h<=(bf b s.s).body:=of_decide_eq_true (EF _ m hm);have h5:m∈b.Re:=(List.takeWhile_sublist _).mem hm;exact⟨hb.fy m h5,hb.fh m h5,h4⟩
  .exact absurd h (show¬((2:Int)=1) by decide)
 .split
  .rename_i hf;refine⟨rfl,?_,r5,r4,λf hf=>(by cases hf),by rw[<-r3];exact Xt,.inr rfl,λ_=>rfl,λh=>absurd h (show¬((2:Int)=1) by decide)⟩;refine .inr (.inr ⟨rfl,rfl,?_⟩);cases hp:s.bM with
   |cons f r=>exact .inl (pA f r)
   |nil=>
    unfold jE at hf;rw[hp]at hf;simp only[dG]at hf;have ha:s.s.atom=b.atoms.length:=by
     rcases hf with h|h|h
     .exact h
     .exact absurd rfl h
     .omega
    exact .inr ⟨ha,by simp[ha]⟩
  .rename_i hf;have hm:bZ b.atoms s.s:=RZ.2.resolve_right λh=>hf (.inl h.1);have hfn:=pI (x:=dt b s) hb.toBkOk hm hb.pos r2;have hfg:=Dr hb (x:=dt b s) hm rfl r2 UM.1 (λh=>hf (.inr (.inr h)));have hls:=Fv hb (x:=dt b s) UM.1 (wz (l:=[]) (λf hf=>(by cases hf)) Xt);have hoth:=j3 b (dt b s);have xs:(dt b s).s=s.s:=rfl;have xh:(dt b s).high=(bf b s.s).high:=rfl;have xb:(dt b s).body=(bf b s.s).body:=rfl;rw[xh,xb,r3]at hls;obtain⟨f1,f2,f3,f4⟩:=hfg;rw[xh,xb]at f2 f4;rw[r3]at f2;refine⟨rfl,?_,?_,?_,f2,hls,.inl hoth.2,λh=>?_,λ_=>⟨hm,f1,f3,f4⟩⟩
   .generalize eW b (dt b s)=z at hfn;cases hfn with
    |whole c fr p g1 g2 g3=>exact .inl g1
    |more d p g1 g2 g3=>exact .inr (.inl ⟨rfl,g1⟩)
   .show((eu b (dt b s)).hs.map _).sum=_;rw[hoth.1];exact r5
   .show Zr _ _ (eu b (dt b s)).hs;rw[hoth.1];exact r4
   .have:(eu b (dt b s)).kind=2:=h;rw[hoth.2]at this;cases this
def gi{l:List Nd}(hl:dH l){w h:Int}(he:ed l w h=0):bO (bc l w h):=by
 obtain⟨hw,hh,hc⟩:=pX he;obtain⟨Up,hn,hwo,hcs⟩:=xq hc;have hG:=wR Up hn hw.1 hw.2;obtain⟨h1,h2⟩:=DL hl he;refine⟨h1,Ih Up hn hw.1 hw.2,λa ha=>(hG.RD a ha).h0,λa ha=>(hG.RD a ha).y0,?_,h2,λf hf=>(hG.Yk f hf).y0⟩;show ux (rq l (ofR l w))=true;refine Hv Up λx hx=>?_;unfold ofR at hx;obtain⟨a,ha,rfl⟩:=List.mem_map.1 hx;exact hG.nod a ha
open Go.Proofs Go.Proofs.Tryz
def tC(b:List S1)(p:Uh)(s:R0):Int:=
 if p.kind≠1\/s.done>0 then -1 else if(TL b s.atom.toNat).forced=3 then 0 else if(TL b s.atom.toNat).forced=4 then 1 else -1
def GA(b:List S1)(hb:b.length<=1000000)(p:Uh)(s:R0)(h0:0<=s.atom)(h1:s.atom<b.length):aV prog 59 [bC b,cD p,bj s] (vI (tC b p s)):=λU=>by
 refine e59.r (by simp[c59]) ?_;have hs:=aa.refl U;obtain⟨no,kd,hh,ff,ll⟩:=p;obtain⟨a,d,fr⟩:=s;obtain⟨k,rfl⟩:∃k:Nat,a=k:=⟨a.toNat,by simp only at h0;omega⟩
 have hk:k<b.length:=by simp only at h1;omega
 have Ua:(cD ⟨no,kd,hh,ff,ll⟩).cells=[vI no,vI kd,bb hh,bb ff,bb ll]:=rfl;have hpp:(cD ⟨no,kd,hh,ff,ll⟩).stays=true:=rfl;have TS:(bj ⟨k,d,fr⟩).cells=[vI k,vI d,.bool fr]:=rfl;have UH:(bj ⟨k,d,fr⟩).stays=true:=rfl;have Sl:=aJ b;have hbc:=aI b;obtain⟨⟨c,f,r⟩,hf⟩:∃x,b[k]=x:=⟨_,rfl⟩
 have Q9:∀U,bQ U 3 (bC b) (.int .i64 k)=some (.rp (.agg [vI c,vI f,vI r])):=λU=>by rw[sc hk,hf,dX]
 have hg:TL b ((k:Int)).toNat=⟨c,f,r⟩:=by simp[TL,hk,hf]
 have hR:tC b ⟨no,kd,hh,ff,ll⟩ ⟨k,d,fr⟩=if kd≠1\/d>0 then -1 else if f=3 then 0 else if f=4 then 1 else -1:=by simp only[tC,hg]
 generalize tC b ⟨no,kd,hh,ff,ll⟩ ⟨k,d,fr⟩=R at*;refine ad.mix 6 ?_;apply sR;simp only[go_sem,seval,c59,Ua,hpp,TS,UH,Sl,hbc];refine af λi4 Z4 s4 a4 f4=>?_;have z4:=hs.none f4;replace hs:=hs.trans s4;simp only[go_sem,seval,TS];refine af λi5 Z5 s5 a5 f5=>?_;have Tp:=aq a4 f5;replace a4:=s5 _ _ a4;have z5:=hs.none f5;replace hs:=hs.trans s5;by_cases q1:kd=1
 .have Yt:(kd≠1)=False:=by simp[q1]
  by_cases q2:d>0
  .have Zs:(d>0)=True:=eq_true q2;simp only[go_sem,seval,a4,a5,Yt,Zs,Ua,TS];rw[if_pos (.inr q2)]at hR;exact ay.pure hs (congrArg vI hR.symm)
  .have Zs:(d>0)=False:=eq_false q2;rw[if_neg (λh=>h.elim (λh=>h q1) q2)]at hR;by_cases q3:f=3
   .have q3':(f=3)=True:=eq_true q3;simp only[go_sem,seval,a4,a5,Yt,Zs,q3',Q9,Ua,TS,Sl,hbc];rw[if_pos q3]at hR;exact ay.pure hs (congrArg vI hR.symm)
   .have q3':(f=3)=False:=eq_false q3;rw[if_neg q3]at hR;by_cases q4:f=4
    .have q4':(f=4)=True:=eq_true q4;simp only[go_sem,seval,a4,a5,Yt,Zs,q3',q4',Q9,Ua,TS,Sl,hbc];rw[if_pos q4]at hR;exact ay.pure hs (congrArg vI hR.symm)
    .have q4':(f=4)=False:=eq_false q4;simp only[go_sem,seval,a4,a5,Yt,Zs,q3',q4',Q9,Ua,TS,Sl,hbc];rw[if_neg q4]at hR;exact ay.pure hs (congrArg vI hR.symm)
 .have Yt:(kd≠1)=True:=eq_true q1;simp only[go_sem,seval,a4,a5,Yt,Ua,TS];rw[if_pos (.inl q1)]at hR;exact ay.pure hs (congrArg vI hR.symm)
open Go.Proofs Go.Proofs.Tryz
def xe{RF i1 i2 e1 e2:Nat}{n:Int}{x:V}{U:ai}{Post:Bool->ai->Prop}(r1:Rq .i64 (n+1))(h1:U i1=some ⟨e1,1,[vI n]⟩)(h2:U i2=some ⟨e2,1,[.yl RF]⟩)(RK:i1≠i2)
 (hy:YC prog RF [x] (C' U i1 ⟨e1,1,[vI (n+1)]⟩) Post):aD prog 55 [x,.ptr i1 0 0,.ptr i2 0 0] U λr Z'=>∃b,r=.bool b/\Post b Z':=by
 refine e55.r (by simp[c55]) ?_;refine ad.mix 6 ?_;apply sR;simp only[go_sem,seval,c55,h1,r1,h2,ab RK,ab RK.symm];refine ad.mA (Post:=Post) rfl rfl rfl hy ?_;intro b Z' hb;apply sR;simp only[go_sem,seval];exact⟨_,Z',aa.refl _,Wk.refl (aa.refl _) _,b,rfl,hb⟩
def XR(x:Nd):Int:=if x.kind=2 then x.line*x.words.length else if x.kind=3 then x.h else 0
def VS(l:List Nd):Nat->Int
 |0=>0
 |i+1=>VS l i+XR (RI l i)
def nV{x:Nd}(h:YL x):0<=XR x:=by
 have h1:=h.line.1;have h2:=h.h.1;unfold XR;split
 .exact Int.mul_nonneg h1 (by omega)
 .split<;>omega
def ze{l:List Nd}(hb:R3 l=true){a:Nat}:∀n,a+n<=l.length->VS l a<=VS l (a+n)
 |0,_=>Int.le_refl _
 |n+1,h=>by
  have ih:=ze (a:=a) hb n (by omega);have h1:YL (RI l (a+n)):=by rw[iS (show a+n<l.length by omega)];exact gr hb _
  have h2:=nV h1;rw[<-Nat.add_assoc,VS];omega
def WC(l:List RY):Int:=(l.map (·.h)).sum
def Bp(l m:List RY):WC (l++m)=WC l+WC m:=by unfold WC;rw[List.map_append,List.sum_append]
def wJ{l:List Nd}{rs:List Rm}(hD:Yj l rs):∀(k a e:Nat) (s:WS) (C:Nat),e-a<=k->a<=e->e<=l.length->cu l a e=true->fS s C->WC s.atoms<=VS l a->WC (eA l rs k a e s).atoms<=VS l e
 |0,a,e,s,C,hk,WN,_,_,_,h=>by
  obtain rfl:a=e:=by omega
  exact h
 |k+1,a,e,s,C,hk,WN,he,hr,h,hs=>by
  rw[eA];by_cases H':a<e
  .rw[if_pos H'];obtain⟨h1,h2⟩:=dr he hr (Nat.le_refl a) H';obtain⟨h3,h4⟩:=ei he hr H';have RL:YL (RI l a):=by rw[iS (by omega)];exact gr hD.XN (by omega)
   have step:∀t,(∃D,fS t D)->WC t.atoms<=VS l (a+(RO l a).toNat)->WC (eA l rs k (a+(RO l a).toNat) e t).atoms<=VS l e:=λt ⟨D,ht⟩ hA=>
    wJ hD k _ e t D (by omega) (by omega) he h3 ht hA
   have Tl:XR (RI l a)+WC s.atoms<=VS l (a+1):=by rw[VS];omega
   have one:VS l (a+1)<=VS l (a+(RO l a).toNat):=by
    obtain⟨m,hm⟩:∃m,(RO l a).toNat=1+m:=⟨(RO l a).toNat-1,by omega⟩
    rw[hm,<-Nat.add_assoc];exact ze hD.XN m (by omega)
   split
   .rename_i k1;have hz:XR (RI l a)=0:=by rw[XR,if_neg (by omega),if_neg (by omega)]
    have hI2:=gu hD k (a+1) (a+(RO l a).toNat) _ _ (by omega) (by omega) (by omega) h4 (fk h RL.st);have hS2:=wJ hD k (a+1) (a+(RO l a).toNat) _ _ (by omega) (by omega) (by omega) h4 (fk h RL.st) (show WC s.atoms<=_ by omega);exact step _ ⟨_,jr hI2 RL.st⟩ hS2
   .split
    .rename_i k1 k2;refine step _ ⟨_,kQ h RL a⟩ (Int.le_trans ?_ one);have hp:=l6 a (RI l a).line (dP s.B' (RI l a).words (RI l a).space (RI l a).line (eI rs a) (RI l a).words.length 0 (s.Ro.y+s.Ro.m)) s;have hlen:=jK s.B' (RI l a).words (RI l a).space (RI l a).line (eI rs a) (RI l a).words.length 0 (s.Ro.y+s.Ro.m);have e:(s.text rs a (RI l a)).atoms=_:=hp;rw[e,Bp];generalize dP s.B' (RI l a).words (RI l a).space (RI l a).line (eI rs a) (RI l a).words.length 0 (s.Ro.y+s.Ro.m)=L at*;have jk:WC (L.map (fg a (RI l a).line))=(RI l a).line*L.length:=by
      clear e hp hlen
      induction L with
      |nil=>simp[WC]
      |cons x L ih=>
       have:WC ((x::L).map (fg a (RI l a).line))=(RI l a).line+WC (L.map (fg a (RI l a).line)):=rfl;rw[this,ih,List.length_cons,Int.natCast_add,Int.mul_add];omega
     have hle:(RI l a).line*(L.length:Int)<=(RI l a).line*((RI l a).words.length:Int):=Int.mul_le_mul_of_nonneg_left (by omega) RL.line.1;have hz:XR (RI l a)=(RI l a).line*((RI l a).words.length:Int):=by rw[XR,if_pos k2]
     omega
    .split
     .rename_i k1 k2 k3;refine step _ ⟨_,kJ h RL a⟩ (Int.le_trans ?_ one);have hz:XR (RI l a)=(RI l a).h:=by rw[XR,if_neg k2,if_pos k3]
      have e:(WS.mono l rs s a (RI l a)).atoms=s.atoms++[⟨2,a,0,0,(dZ s.B' (kD s.B' (RI l a).w (RI l a).h (eI rs a) (s.Ro.y+s.Ro.m)) (RI l a).h (eI rs a)).a,kD s.B' (RI l a).w (RI l a).h (eI rs a) (s.Ro.y+s.Ro.m),(RI l a).w,(RI l a).h⟩]:=rfl;rw[e,Bp];simp only[WC,List.map_cons,List.map_nil,List.sum_cons,List.sum_nil];simp only[WC]at Tl;omega
     .have k4:(RI l a).kind=4:=by rename_i g1 g2 g3;rcases RL.kind with h|h|h|h;exact absurd h g1;exact absurd h g2;exact absurd h g3;exact h
      have hz:=nV RL;exact step _ ⟨_,jG hD h (by omega) RL k4⟩ (show WC s.atoms<=_ by omega)
  .rw[if_neg H'];obtain rfl:a=e:=by omega
   exact hs
def Mi{l:List Nd}(hb:R3 l=true)(hn:l.length<=2000){w:Int}(h1:1<=w)(h2:w<=1099511627776):WC (di l w).atoms<=VS l l.length:=by
 have hD:=sU hb hn h1 h2;have hr:cu l 0 l.length=true:=by simp only[R3,Ba]at hb;exact hb.2
 have hI:fS ⟨[],[],0,⟨0,0⟩⟩ 0:=⟨⟨by simp,by simp,by simp,by simp,by simp⟩,by simp,by simp⟩
 exact wJ hD l.length 0 l.length ⟨[],[],0,⟨0,0⟩⟩ 0 (by omega) (by omega) (Nat.le_refl _) hr hI (by simp[WC,VS])
def xT{l:List Nd}(hb:R3 l=true){s:Sm}(hs:0<=s.O'/\s.O'<=1099511627777):∀i,i<=l.length->0<=(gN l s i).O'/\(gN l s i).O'<=1099511627777/\min (VS l i) 1099511627777<=(gN l s i).O'
 |0,_=>⟨hs.1,hs.2,by simp only[VS,gN];omega⟩
 |i+1,hi=>by
  obtain⟨h1,h2,h3⟩:=xT hb hs i (by omega);have RL:YL (RI l i):=by rw[iS (by omega)];exact gr hb (by omega)
  have hz:=nV RL;have RA:=RL.st;rw[gN,VS,List.getElem?_eq_getElem (by omega)];rw[iS (show i<l.length by omega)]at RL hz RA|-;simp only;unfold nD;split
  .rename_i k1;have e:XR l[i]=0:=by rw[XR,if_neg (by omega),if_neg (by omega)]
   have g1:=RA.top.1;have g2:=RA.Ry.1;have g3:=RA.Rl.1;have g4:=RA.Rb.1;have g5:=RA.head.1;simp only[jA];omega
  .split
   .rename_i k1 k2;have e:XR l[i]=l[i].line*l[i].words.length:=by rw[XR,if_pos k2]
    simp only;rw[rH ⟨h1,h2⟩ RL.line.1];omega
   .rename_i k1 k2;have hh:=RL.h.1;have e:XR l[i]<=l[i].h:=by rw[XR,if_neg k2];split<;>omega
    simp only[jA];omega
def A9{l:List Nd}(hb:R3 l=true)(h:(iR l).1.O'<=1099511627776):VS l l.length<=(iR l).1.O':=by
 unfold iR at h|-;rw[if_pos hb]at h|-;have:=(xT hb (s:=⟨0,0,l.length,0⟩) ⟨Int.le_refl _,(by decide:(0:Int)<=1099511627777)⟩ l.length (Nat.le_refl _)).2.2;simp only at h|-;omega
def Cn{cnt:Nat->Nat}:∀{n a:Nat} {x:Int},x∈W6 cnt a n->∃i:Nat,x=i/\a<=i/\i<a+n/\0<cnt i
 |0,a,x,h=>by rw[jn]at h;cases h
 |n+1,a,x,h=>by
  rw[gV]at h;rcases List.mem_append.1 h with h|h
  .obtain⟨h1,rfl⟩:=List.mem_replicate.1 h;exact⟨a,rfl,Nat.le_refl _,by omega,by omega⟩
  .obtain⟨i,h1,h2,h3,h4⟩:=Cn h;exact⟨i,h1,by omega,by omega,h4⟩
def Gl{l:List Nd}(hb:R3 l=true)(hn:l.length<=2000){w:Int}(h1:1<=w)(h2:w<=1099511627776):∀a∈(di l w).atoms,∃i:Nat,a.node=i/\i<l.length/\((RI l i).kind=2\/(RI l i).kind=3):=λa ha=>by
 have hD:=sU hb hn h1 h2;have hr:cu l 0 l.length=true:=by simp only[R3,Ba]at hb;exact hb.2
 have hI:fS ⟨[],[],0,⟨0,0⟩⟩ 0:=⟨⟨by simp,by simp,by simp,by simp,by simp⟩,by simp,by simp⟩
 obtain⟨-,cnt,hc,hco⟩:=rO hD l.length 0 l.length ⟨[],[],0,⟨0,0⟩⟩ 0 (by omega) (by omega) (Nat.le_refl _) hr hI (by simp);have hm:a.node∈(eA l (kR l w) l.length 0 l.length ⟨[],[],0,⟨0,0⟩⟩).atoms.map (·.node):=List.mem_map.2 ⟨a,ha,rfl⟩;rw[hc]at hm;simp only[List.map_nil,List.nil_append]at hm;obtain⟨i,e,_,h3,h4⟩:=Cn hm;refine⟨i,e,by omega,?_⟩;have:=hco i (Nat.zero_le _) (by omega);unfold okN at this;split at this
 .rename_i k;exact .inl k
 .split at this
  .rename_i k;exact .inr k
  .have:=of_decide_eq_true this;omega
def least_le{l:List Nd}{h:Int}:∀{n j:Nat},j<n->((RI l j).kind=2\/(RI l j).kind=3)->iE l h n<=(wP l j h).body
 |0,j,hj,_=>by omega
 |n+1,j,hj,hk=>by
  rw[iE];by_cases e:j=n
  .subst e;rw[if_pos hk];omega
  .have:=least_le (l:=l) (h:=h) (show j<n by omega) hk;split<;>omega
def vr{l:List Nd}{h:Int}(hh:1<=h):∀n,1<=iE l h n
 |0=>hh
 |n+1=>by
  have h1:=vr (l:=l) hh n;have h2:1<=(wP l n h).body:=pf hh _;rw[iE];split<;>omega
def GB{l:List Nd}{h:Int}(hb:R3 l=true)(h1:1<=h)(h2:h<=1099511627776):iZ l h=true:=by
 unfold iZ;rw[hb];simp[h1,h2]
structure oT(b:Bk)(L:Int):Prop where
 pos:1<=L
 body:∀s:R0,0<=s.atom->b.atoms≠[]->L<=(bf b s).body
 rest:eT b 0<=L*32768
 na:b.atoms.length<=10000
 nf:b.Re.length<=10000
def HA{L:Int}(h1:1<=L):mulR L 32768<=L*32768:=by
 have e:dL 32768=32768:=by decide
 have e2:(1099511627776:Int).tdiv (max 32768 (-32768))=33554432:=by decide
 unfold mulR;rw[e,e2];have hc:dL L<=L/\0<=dL L:=by unfold dL;(repeat' split)<;>omega
 split
 .rename_i h;obtain⟨_,h|h⟩:=h
  .split<;>omega
  .exact absurd h (by have:(-1099511627776:Int).tdiv (max 32768 (-32768))=-33554432:=by decide
                      rw[this];omega)
 .have:=hc.1;omega
def uu{l:List Nd}{w h:Int}(he:ed l w h=0):oT (bc l w h) (gU l h):=by
 have he0:=he;obtain⟨hw,hh,hc⟩:=pX he;obtain⟨Up,hn,hwo,hcs⟩:=xq hc;have hG:=wR Up hn hw.1 hw.2;have hl1:=hG.len;have hl2:=hG.Uf;have hm:=GB Up hh.1 hh.2;have hL:gU l h=iE l h l.length:=by rw[gU,if_pos hm]
 have hp:1<=gU l h:=by rw[hL];exact vr hh.1 _
 refine⟨hp,λs h0 RK=>?_,?_,by show(di l w).atoms.length<=_;omega,by show(di l w).B'.length<=_;omega⟩
 .unfold bf;rw[if_neg RK];have hlen:0<(bc l w h).atoms.length:=List.length_pos_iff.2 RK;obtain⟨k,hk⟩:∃k:Nat,min s.atom (((bc l w h).atoms.length:Int)-1)=k:=⟨(min s.atom (((bc l w h).atoms.length:Int)-1)).toNat,by omega⟩
  have Tv:k<(bc l w h).atoms.length:=by omega
  rw[hk,bz Tv];obtain⟨i,e1,e2,e3⟩:=Gl Up hn hw.1 hw.2 _ (List.getElem_mem (show k<(di l w).atoms.length from Tv));have e4:(bc l w h).atoms[k].node=i:=e1;rw[e4,rv,hL];have VE:iZ (bc l w h).nodes (bc l w h).h=true:=hm;rw[if_pos ⟨VE,by omega,show((i:Nat):Int)<(l.length:Nat) by omega⟩,Int.toNat_natCast];exact least_le e2 e3
 .have h1:eT (bc l w h) 0=WC (di l w).atoms:=rfl;have h2:=Mi Up hn hw.1 hw.2;have h3:(iR l).1.O'<=1099511627776:=by
   unfold gY at hc;rw[if_pos Up]at hc;split at hc
   .cases hc
   .omega
  have h4:=A9 Up h3;have h5:¬(iR l).1.O'>mulR (gU l h) 32768:=λh=>by
   unfold ed at he0;rw[if_neg (λg=>g ⟨hw,hh⟩),if_neg (λg=>g hc),if_pos h]at he0;cases he0
  have h6:=HA hp;omega
def oC(b:Bk)(L:Int)(s:Sc):Int:=((b.atoms.length:Int)-s.s.atom)+(eT b s.s.atom.toNat-s.s.done)/L
def mu2(b:Bk)(L:Int)(s:Sc):Nat:=(oC b L s).toNat*(2*b.Re.length+3)+(if s.s.free=true then b.Re.length+1 else 0)+s.bM.length
def jP.bM{b:Bk}{x:Wx}{t:Sc}(h:jP b x t):t.bM.length<=b.Re.length:=by
 cases h with
 |whole c fr p h1 h2 h3=>exact h3
 |more d p h1 h2 h3=>exact h3
def Ac{b:Bk}(hb:bO b){L:Int}(hL:oT b L){s:Sc}(he:¬db b s):mu2 b L (aW b s).2<mu2 b L s:=by
 have RZ:gy b s:=Decidable.byContradiction λh=>he (.inl h);have X7:¬(s.s.atom=b.atoms.length/\s.s.free=false/\s.bM=[]):=λh=>he (.inr h);have SE:0<=s.s.atom:=by rcases RZ.2 with h|h;exact h.1.1;omega
 have Su:=hb.pos;have hg:=iu hb he;have hcut:=hg.cut;revert hcut;unfold aW;split
 .rename_i h0;intro _;obtain⟨h1,h2⟩:=h0;have hr:∀a,eT b a=0:=λa=>by unfold eT;rw[h1];simp
  have hd:s.s.done=0/\s.s.atom=0:=by
   rcases RZ.2 with h|h
   .have:=h.1;rw[h1]at this;simp at this;omega
   .rw[h1]at h;simp at h;omega
  have hdl:(b.Re.dropWhile (ri (bX b s.s .aC).body)).length<=b.Re.length:=(List.dropWhile_sublist _).length_le;simp only[mu2,oC,mn,hr,h2,hd,h1,if_true];simp;omega
 .split
  .rename_i hf;intro _;unfold mu2 oC;simp only;cases hp:s.bM with
   |cons f r=>
    have:=pA (body:=(bf b s.s).body) f r;simp only[List.length_cons]at this;cases s.s.free<;>by_cases h:s.s.atom<b.atoms.length<;>simp[h]<;>omega
   |nil=>
    unfold jE at hf;rw[hp]at hf;simp only[dG]at hf;have ha:s.s.atom=b.atoms.length:=by
     rcases hf with h|h|h
     .exact h
     .exact absurd rfl h
     .omega
    have Us:s.s.free=true:=by
     cases h:s.s.free
     .exact absurd ⟨ha,h,hp⟩ X7
     .rfl
    simp[dG,ha,Us]
  .rename_i hf;have hm:bZ b.atoms s.s:=RZ.2.resolve_right λh=>hf (.inl h.1);have RK:b.atoms≠[]:=λh=>by have:=hm.1;rw[h]at this;simp at this;omega
   have hbd:=hL.body s.s SE RK;have hL1:=hL.pos;have hpd:=(pI (x:=dt b s) hb.toBkOk hm Su (iH hb.toBkFull s.s SE)).bM;intro hcut;have hkind:(jR (eu b (dt b s))).kind=1:=(j3 b (dt b s)).2;obtain⟨-,-,-,hcg⟩:=hcut hkind;obtain⟨⟨h0,h1⟩,h2,h3⟩:=hm;obtain⟨k,hk⟩:∃k:Nat,s.s.atom=k:=⟨s.s.atom.toNat,by omega⟩
   have Tv:k<b.atoms.length:=by omega
   have YQ:=Su _ (List.getElem_mem Tv);have RA:=tH Tv;have hnn:=oH Su (k+1);have W2:gP b.atoms s.s=b.atoms[k].h-s.s.done:=by rw[gP,if_pos ⟨⟨h0,h1⟩,h2,h3⟩,hk,bz Tv]
   rw[hk,bz Tv]at h3;have key:∀t:Sc,t.bM.length<=b.Re.length->0<=oC b L t->oC b L t+1<=oC b L s->mu2 b L t<mu2 b L s:=λt hp g1 g2=>by
    unfold mu2;have H':(oC b L t).toNat+1<=(oC b L s).toNat:=by omega
    have hmul:((oC b L t).toNat+1)*(2*b.Re.length+3)<=(oC b L s).toNat*(2*b.Re.length+3):=Nat.mul_le_mul_right _ H';rw[Nat.add_mul,Nat.one_mul]at hmul;have:(if t.s.free=true then b.Re.length+1 else 0)<=b.Re.length+1:=by split<;>omega
    omega
   refine key _ hpd ?_ ?_
   all_goals
    change rN b s.s (eW b (dt b s)).s _ _ _ at hcg;generalize eW b (dt b s)=z at*;unfold oC;simp only;cases hcg with
    |more q1 q2 q3 q4 q5=>
     rw[q1,q5,hk,Int.toNat_natCast];rw[W2]at q3;have e1:0<=(eT b k-(s.s.done+(bf b s.s).body))/L:=Int.ediv_nonneg (by omega) (by omega);have e2:(eT b k-(s.s.done+(bf b s.s).body))/L<=(eT b k-s.s.done-L)/L:=Int.ediv_le_ediv (by omega) (by omega);have e3:(eT b k-s.s.done-L)/L=(eT b k-s.s.done)/L-1:=by
      have:=Int.add_mul_ediv_right (eT b k-s.s.done) (-1) (show L≠0 by omega);rw[show eT b k-s.s.done-L=eT b k-s.s.done+-1*L by omega,this];omega
     omega
    |whole c r y q1 q2 q3 q4 q5 q6 q7 q8 q9=>
     rw[hk]at q2;simp only[q1,hk,Int.toNat_natCast];have e0:=xR Su (k+1) (c-(k+1));rw[show k+1+(c-(k+1))=c by omega]at e0;have e1:0<=(eT b c-0)/L:=Int.ediv_nonneg (by have:=oH Su c;omega) (by omega);have e2:(eT b c-0)/L<=(eT b k-s.s.done)/L:=Int.ediv_le_ediv (by omega) (by omega);omega
def vV{b:Bk}{L:Int}(hL:oT b L):mu2 b L ⟨⟨0,0,true⟩,[]⟩<=1000000000:=by
 have h1:=hL.rest;have h2:=hL.na;have h3:=hL.nf;have h4:=hL.pos;have e:(eT b 0-0)/L<=32768:=by
  have:(eT b 0-0)/L<=(32768*L)/L:=Int.ediv_le_ediv (by omega) (by omega);rw[Int.mul_ediv_cancel _ (by omega)]at this;exact this
 have hw:(oC b L ⟨⟨0,0,true⟩,[]⟩).toNat<=42768:=by
  unfold oC;simp only;have:(0:Int).toNat=0:=rfl;rw[this];omega
 unfold mu2;simp only[if_true,List.length_nil];have:(oC b L ⟨⟨0,0,true⟩,[]⟩).toNat*(2*b.Re.length+3)<=42768*20003:=Nat.mul_le_mul hw (by omega);omega
open Go.Proofs Go.Proofs.Tryz
def jb(b:Bk)(s:Sc):Int:=tC b.L' (aW b s).1 s.s
def V5(b:Bk):Nat->Sc->Int->List (Option Uh)
 |0,_,_=>[]
 |f+1,s,no=>if db b s then[]else
  if 0<=jb b s/\(no+1)%2≠jb b s then none::some (aW b s).1::V5 b f (aW b s).2 (no+2)else some (aW b s).1::V5 b f (aW b s).2 (no+1)
def Vb:Option Uh->V
 |none=>.iface 76 (.agg [])
 |some p=>.iface 74 (cD p)
structure ShJ(RF e2 i2 i4 i6:Nat)(no:Int)(s:Sc)(ZJ U:ai):Prop where
 sub:aa ZJ U
 y:U i2=some ⟨e2,1,[.yl RF]⟩
 n:U i4=some ⟨3,1,[vI no]⟩
 st:U i6=some ⟨45,4,[bY s]⟩
 n2:ZJ i2=none
 n4:ZJ i4=none
 n6:ZJ i6=none
 e24:i2≠i4
 e26:i2≠i6
 e46:i4≠i6
def ShJ.mono{RF e2 i2 i4 i6:Nat}{no:Int}{s:Sc}{ZJ U J:ai}(h:ShJ RF e2 i2 i4 i6 no s ZJ U)(hs:aa U J):ShJ RF e2 i2 i4 i6 no s ZJ J:=
 ⟨h.sub.trans hs,hs _ _ h.y,hs _ _ h.n,hs _ _ h.st,h.n2,h.n4,h.n6,h.e24,h.e26,h.e46⟩
def ShJ.given{RF e2 i2 i4 i6:Nat}{no:Int}{s:Sc}{ZJ U RC Z':ai}(h:ShJ RF e2 i2 i4 i6 no s ZJ U)(hb:bh ZJ (C' U i4 ⟨3,1,[vI (no+1)]⟩) RC Z'):ShJ RF e2 i2 i4 i6 (no+1) s RC Z':=by
 obtain⟨a1,a2⟩:=hb.2 i2 _ h.n2 (by rw[ab h.e24];exact h.y);obtain⟨b1,b2⟩:=hb.2 i4 _ h.n4 ag;obtain⟨c1,c2⟩:=hb.2 i6 _ h.n6 (by rw[ab h.e46.symm];exact h.st);exact⟨hb.1,a1,b1,c1,a2,b2,c2,h.e24,h.e26,h.e46⟩
def ShJ.next{RF e2 i2 i4 i6:Nat}{no:Int}{s:Sc}{ZJ U Ws:ai}{RP:Nat}{o:Ob}(h:ShJ RF e2 i2 i4 i6 no s ZJ U)(hs:aa (C' U i6 o) Ws)(hf:C' U i6 o RP=none)(t:Sc):
 ShJ RF e2 i2 i4 RP no t ZJ (C' Ws RP ⟨45,4,[bY t]⟩):=by
 have h1:=(h.sub.aE (o:=o) h.n6)
 have y':=hs _ _ ((ab h.e26 (o:=o)).trans h.y);have n':=hs _ _ ((ab h.e46 (o:=o)).trans h.n);have k2:i2≠RP:=λe=>by rw[<-e,ab h.e26,h.y]at hf;cases hf
 have k4:i4≠RP:=λe=>by rw[<-e,ab h.e46,h.n]at hf;cases hf
 have nn:ZJ RP=none:=h1.none hf;exact⟨(h1.trans hs).aE nn,(ab k2).trans y',(ab k4).trans n',ag,h.n2,h.n4,nn,h.e24,k2,k4⟩
def Dl{b:Bk}(hb:bO b){s:Sc}(hp:s.bM.length<=1000000)(he:¬db b s):(aW b s).2.bM.length<=1000000:=by
 have RZ:gy b s:=Decidable.byContradiction λh=>he (.inl h);have UL:=hb.Uf;have SE:0<=s.s.atom:=by rcases RZ.2 with h|h;exact h.1.1;omega
 unfold aW;split
 .have:(b.Re.dropWhile (ri (bX b s.s .aC).body)).length<=b.Re.length:=(List.dropWhile_sublist _).length_le;show(b.Re.dropWhile (ri (bX b s.s .aC).body)).length<=_;omega
 .split
  .show(dG (bf b s.s).body s.bM 0).2.1.length<=_;cases hpp:s.bM with
   |cons f r=>have:=pA (body:=(bf b s.s).body) f r;rw[hpp]at hp;simp only[List.length_cons]at this hp;omega
   |nil=>simp[dG]
  .rename_i hf;have hm:bZ b.atoms s.s:=RZ.2.resolve_right λh=>hf (.inl h.1);have:=(pI (x:=dt b s) hb.toBkOk hm hb.pos (iH hb.toBkFull s.s SE)).bM;show(eW b (dt b s)).bM.length<=_;omega
def uS(b:Bk)(hb:BkFull b):aV prog 54 [.rp (bt b)] (bC b.L'):=λU=>
 (Dk b hb U).GS λ_ _ h=>h.2.Gu h.1 rfl
def zC(b:Bk)(hb:bO b){L:Int}(hL:oT b L):Iter prog 53 [.rp (.rp (bt b))] ((V5 b 1000000001 ⟨⟨0,0,true⟩,[]⟩ 0).map λx=>[Vb x]):=by
 refine⟨e53.c,λRF τ Jx Z0 hy hJ=>?_⟩;refine(e53.r (by simp[c53]) ?_).2;have hs:=aa.refl Z0;have hmu:=vV hL;have Sh:=hb.ZV;have TZ:=hb.len;have UL:=hb.Uf;have TS:∀s:Sc,(bY s).cells=[vI s.s.atom,vI s.s.done,.bool s.s.free,aH s.bM]:=λ_=>rfl;have UH:∀s:Sc,(bY s).stays=true:=λ_=>rfl;have Ua:∀p:Uh,(cD p).cells=[vI p.no,vI p.kind,bb p.hs,bb p.fs,bb p.ls]:=λ_=>rfl;have Vx:∀p:Uh,(cD p).stays=true:=λ_=>rfl;have ldB:∀U:ai,bS U false 1 (.rp (.rp (bt b)))=some (.rp (bt b)):=λU=>rfl;generalize hXS:(V5 b 1000000001 ⟨⟨0,0,true⟩,[]⟩ 0).map (λx=>[Vb x])=XS at*;refine ad.mix 8 ?_;apply sR;simp only[go_sem,seval,c53,ldB];refine af λi2 Z2 s2 a2 f2=>?_;have z2:=hs.none f2;replace hs:=hs.trans s2;simp only[go_sem,seval,ldB];refine ad.aB rfl rfl rfl (uS b hb.toBkFull _) ?_;apply sR;simp only[go_sem,seval,ldB,aI,aJ];refine af λi4 Z4 s4 a4 f4=>?_;have Yb:=aq a2 f4;replace a2:=s4 _ _ a2;have z4:=hs.none f4;replace hs:=hs.trans s4;simp only[go_sem,seval,a4,a2];generalize SZ:C' _ i4 _=Y4;replace a4:=(congrFun SZ i4).symm.trans ag;replace a2:=((congrFun SZ i2).symm.trans (ab Yb)).trans a2;replace hs:=Eq.subst (motive:=aa _) SZ (hs.aE z4);clear SZ;apply sR;simp only[go_sem,seval,ldB];refine ad.aB rfl rfl rfl (uX b hb.toBkFull _) ?_;apply sR;simp only[go_sem,seval];refine af λi6 Z6 s6 a6 f6=>?_;have Zd:=aq a4 f6;replace a4:=s6 _ _ a4;have n26:=aq a2 f6;replace a2:=s6 _ _ a2;have z6:=hs.none f6;replace hs:=hs.trans s6;simp only[go_sem,seval,a6,a4,a2,TS,UH];generalize Vy:C' _ i6 _=Y6;replace a6:=(congrFun Vy i6).symm.trans ag;replace a4:=((congrFun Vy i4).symm.trans (ab Zd)).trans a4;replace a2:=((congrFun Vy i2).symm.trans (ab n26)).trans a2;replace hs:=Eq.subst (motive:=aa _) Vy (hs.aE z6);clear Vy;apply sR;simp only[go_sem,seval];have hJ0:ShJ RF 140 i2 i4 i6 0 ⟨⟨0,0,true⟩,[]⟩ Z0 Y6:=⟨hs,a2,a4,a6,z2,z4,z6,Yb,n26,Zd⟩
 clear hs a2 a4 a6;generalize Y6=J at*;refine ad.loop (λm st=>∃(s:Sc) (no:Int) (pre:List (List V)) (ZJ:ai) (i6':Nat),mu2 b L s<m/\XS=pre++(V5 b m s no).map (λx=>[Vb x])/\τ pre ZJ/\
  ShJ RF 140 i2 i4 i6' no s ZJ st.U/\st.s 0=.yl RF/\st.s 1=.rp (.rp (bt b))/\st.s 3=bC b.L'/\st.s 4=.ptr i4 0 0/\st.s 5=.fn 55 [.ptr i4 0 0,.ptr i2 0 0]/\st.s 6=.ptr i6' 0 0/\
  0<=no/\no+2*m<=2000000002/\s.bM.length<=1000000) 1000000001 ?_ ?_
 .exact⟨⟨⟨0,0,true⟩,[]⟩,0,[],Z0,i6,by omega,by rw[List.nil_append,hXS],hJ,hJ0,rfl,rfl,rfl,rfl,rfl,rfl,by omega,by omega,by simp⟩
 clear hJ0 hJ;rintro m ⟨S,J⟩ ⟨s,no,pre,ZJ,i6,hm,hx,SV,XF,t0,t1,t3,t4,t5,t6,hn0,hn1,hp⟩;simp only at XF t0 t1 t3 t4 t5 t6;obtain⟨f,rfl⟩:∃f,m=f+1:=⟨m-1,by omega⟩
 have r6:=XF.st;refine ad.mix 8 ?_;apply sR;simp only[go_sem,seval,t0,t1,t3,t4,t5,t6,ldB,r6];refine ad.aB rfl rfl rfl (xc b hb.toBkFull s hp _) ?_;by_cases he:db b s
 .rw[decide_eq_true he];apply sR;simp only[go_sem,seval];rw[V5,if_pos he,List.map_nil,List.append_nil]at hx;subst hx;exact⟨_,ZJ,XF.sub,Wk.refl XF.sub _,.inl SV⟩
 rw[decide_eq_false he];apply sR;simp only[go_sem,seval,t0,t1,t3,t4,t5,t6,ldB,r6];refine ad.aB rfl rfl rfl (B2 b hb.toBkFull hb.fh s hp _) ?_;rw[if_neg he];apply sR;simp only[go_sem,seval,t0,t1,t3,t4,t5,t6,ldB,r6];have hs:=aa.refl J;refine af λi7 Z7 s7 a7 f7=>?_;have z7:=hs.none f7;replace hs:=hs.trans s7;simp only[go_sem,seval];refine af λi8 Z8 s8 a8 f8=>?_;have Xk:=aq a7 f8;replace a7:=s8 _ _ a7;have z8:=hs.none f8;replace hs:=hs.trans s8;simp only[go_sem,seval,a7,a8,Ua,Vx];generalize SY:C' _ i7 _=Y7;replace a7:=(congrFun SY i7).symm.trans ag;replace a8:=((congrFun SY i8).symm.trans (ab Xk.symm)).trans a8;replace hs:=Eq.subst (motive:=aa _) SY (hs.aE z7);clear SY;simp only[go_sem,seval,a7,a8,TS,UH];generalize SC:C' _ i8 _=Y8;replace a8:=(congrFun SC i8).symm.trans ag;replace a7:=((congrFun SC i7).symm.trans (ab Xk)).trans a7;replace hs:=Eq.subst (motive:=aa _) SC (hs.aE z8);clear SC;have SF:=XF.mono hs;have r6':=SF.st;have r4:=SF.n;have RZ:gy b s:=Decidable.byContradiction λh=>he (.inl h);have SE:0<=s.s.atom/\s.s.atom<b.L'.length:=by
  rcases RZ.2 with h|h
  .have:=h.1;omega
  .omega
 simp only[go_sem,seval,t0,t1,t3,t4,t5,t6,ldB,r6',a7,a8,Ua,Vx,TS,UH,aJ,aI];refine ad.aB rfl rfl rfl (GA b.L' (by omega) (aW b s).1 s.s SE.1 SE.2 _) ?_;rw[show tC b.L' (aW b s).1 s.s=jb b s from rfl];have hmn:=Ac hb hL he;have hpn:=Dl hb hp he;have r5:Rq .i64 (no+1):=ao (by omega) (by omega);have m7:ZJ i7=none:=XF.sub.none z7;have m8:ZJ i8=none:=XF.sub.none z8;have d47:i7≠i4:=λe=>by have:=XF.n;rw[<-e,z7]at this;cases this
 have d48:i8≠i4:=λe=>by have:=XF.n;rw[<-e,z8]at this;cases this
 have htm:(no+1).tmod 2=(no+1)%2:=Int.tmod_eq_emod_of_nonneg (by omega);by_cases hw:0<=jb b s/\(no+1)%2≠jb b s
 .rw[V5,if_neg he,if_pos hw]at hx;have q1:(jb b s>=0)=True:=eq_true hw.1;have q2:((no+1).tmod 2≠jb b s)=True:=eq_true (by rw[htm];exact hw.2);generalize jb b s=W at*;apply sR;simp only[go_sem,seval,t0,t1,t3,t4,t5,t6,r4,r5,q1,q2];refine ad.call rfl rfl rfl (xe (x:=.iface 76 (.agg [])) r5 SF.n SF.y SF.e24.symm (hy pre _ _ ZJ _ hx SV (SF.sub.aE SF.n4))) ?_;rintro _ Z8b ⟨b',rfl,ZJ8,Sl,R6⟩;have XG:=SF.given Sl;obtain⟨a7b,k7⟩:=Sl.2 i7 _ m7 (by rw[ab d47];exact a7);obtain⟨a8b,k8⟩:=Sl.2 i8 _ m8 (by rw[ab d48];exact a8);have r55:Rq .i64 (no+1+1):=ao (by omega) (by omega);have UA:XS=(pre++[[Vb none]])++[.iface 74 (cD (aW b s).1)]::(V5 b f (aW b s).2 (no+1+1)).map (λx=>[Vb x]):=by
   rw[hx,show no+2=no+1+1 by omega];simp[Vb]
  rcases R6 with⟨rfl,R6⟩|⟨rfl,R6⟩
  .apply sR;simp only[go_sem,seval,t0,t1,t3,t4,t5,t6,a7b,Ua,Vx];refine ad.call rfl rfl rfl (xe (x:=.iface 74 (cD (aW b s).1)) r55 XG.n XG.y XG.e24.symm (hy (pre++[[Vb none]]) _ _ ZJ8 _ UA R6 (XG.sub.aE XG.n4))) ?_;rintro _ Z9 ⟨b',rfl,ZJ9,Sl,R6⟩;have Te:=XG.given Sl;obtain⟨a8',k8⟩:=Sl.2 i8 _ k8 (by rw[ab d48];exact a8b);have r9:=Te.st;rcases R6 with⟨rfl,R6⟩|⟨rfl,R6⟩
   .apply sR;simp only[go_sem,seval,t0,t1,t3,t4,t5,t6,a8',r9,TS,UH];refine af λRP Ws Tz RU f10=>?_;simp only[go_sem,seval,RU,TS,UH];refine⟨f,by omega,(aW b s).2,(no+1)+1,(pre++[[Vb none]])++[[Vb (some (aW b s).1)]],ZJ9,RP,by omega,?_,R6,Te.next Tz f10 _,?_⟩
    .rw[UA];simp[Vb]
    .simp[t0,t1,t3,t4,t5];exact⟨by omega,by omega,hpn⟩
   .apply sR;simp only[go_sem,seval];refine⟨_,ZJ9,Te.sub,Wk.refl Te.sub _,.inr ⟨_,?_,R6⟩⟩;rw[UA];exact⟨(V5 b f (aW b s).2 ((no+1)+1)).map λx=>[Vb x],by simp⟩
  .apply sR;simp only[go_sem,seval];refine⟨_,ZJ8,XG.sub,Wk.refl XG.sub _,.inr ⟨_,?_,R6⟩⟩;rw[hx];exact⟨(some (aW b s).1::V5 b f (aW b s).2 (no+2)).map λx=>[Vb x],by simp[Vb]⟩
 .rw[V5,if_neg he,if_neg hw]at hx;have hq:(jb b s>=0)=False\/(jb b s>=0)=True/\((no+1).tmod 2≠jb b s)=False:=by
   by_cases h:jb b s>=0
   .exact .inr ⟨eq_true h,eq_false (λg=>hw ⟨h,by rw[<-htm];exact g⟩)⟩
   .exact .inl (eq_false h)
  generalize jb b s=W at*;have UA:XS=pre++[.iface 74 (cD (aW b s).1)]::(V5 b f (aW b s).2 (no+1)).map (λx=>[Vb x]):=hx;rcases hq with q1|⟨q1,q2⟩
  .apply sR;simp only[go_sem,seval,t0,t1,t3,t4,t5,t6,r4,r5,a7,Ua,Vx,q1];refine ad.call rfl rfl rfl (xe (x:=.iface 74 (cD (aW b s).1)) r5 SF.n SF.y SF.e24.symm (hy pre _ _ ZJ _ UA SV (SF.sub.aE SF.n4))) ?_;rintro _ Z9 ⟨b',rfl,ZJ9,Sl,R6⟩;have Te:=SF.given Sl;obtain⟨a8',k8⟩:=Sl.2 i8 _ m8 (by rw[ab d48];exact a8);have r9:=Te.st;rcases R6 with⟨rfl,R6⟩|⟨rfl,R6⟩
   .apply sR;simp only[go_sem,seval,t0,t1,t3,t4,t5,t6,a8',r9,TS,UH];refine af λRP Ws Tz RU f10=>?_;simp only[go_sem,seval,RU,TS,UH];refine⟨f,by omega,(aW b s).2,no+1,pre++[[Vb (some (aW b s).1)]],ZJ9,RP,by omega,?_,R6,Te.next Tz f10 _,?_⟩
    .rw[UA];simp[Vb]
    .simp[t0,t1,t3,t4,t5];exact⟨by omega,by omega,hpn⟩
   .apply sR;simp only[go_sem,seval];refine⟨_,ZJ9,Te.sub,Wk.refl Te.sub _,.inr ⟨_,?_,R6⟩⟩;rw[UA];exact⟨(V5 b f (aW b s).2 (no+1)).map λx=>[Vb x],by simp⟩
  .apply sR;simp only[go_sem,seval,t0,t1,t3,t4,t5,t6,r4,r5,a7,Ua,Vx,q1,q2];refine ad.call rfl rfl rfl (xe (x:=.iface 74 (cD (aW b s).1)) r5 SF.n SF.y SF.e24.symm (hy pre _ _ ZJ _ UA SV (SF.sub.aE SF.n4))) ?_;rintro _ Z9 ⟨b',rfl,ZJ9,Sl,R6⟩;have Te:=SF.given Sl;obtain⟨a8',k8⟩:=Sl.2 i8 _ m8 (by rw[ab d48];exact a8);have r9:=Te.st;rcases R6 with⟨rfl,R6⟩|⟨rfl,R6⟩
   .apply sR;simp only[go_sem,seval,t0,t1,t3,t4,t5,t6,a8',r9,TS,UH];refine af λRP Ws Tz RU f10=>?_;simp only[go_sem,seval,RU,TS,UH];refine⟨f,by omega,(aW b s).2,no+1,pre++[[Vb (some (aW b s).1)]],ZJ9,RP,by omega,?_,R6,Te.next Tz f10 _,?_⟩
    .rw[UA];simp[Vb]
    .simp[t0,t1,t3,t4,t5];exact⟨by omega,by omega,hpn⟩
   .apply sR;simp only[go_sem,seval];refine⟨_,ZJ9,Te.sub,Wk.refl Te.sub _,.inr ⟨_,?_,R6⟩⟩;rw[UA];exact⟨(V5 b f (aW b s).2 (no+1)).map λx=>[Vb x],by simp⟩
variable {P:Program} {n:Nat}
def Am{o:Op}{xs:List VX}(h:RG P n o=.more .p9 xs):∃t,o=.alloc t/\mY P t=true:=by
 cases o
 case alloc t=>
  simp only[RG]at h;split at h
  .cases h
  .split at h
   .rename_i hn;exact⟨t,rfl,hn⟩
   .cases h
 case call c=>
  obtain⟨callee,args,argTypes⟩:=c;cases callee
  case builtin b=>cases b<;>simp only[RG]at h<;>(repeat' split at h)<;>cases h
  all_goals (simp only[RG]at h;cases h)
 case unOp op t x=>cases op<;>simp only[RG]at h<;>cases h
 case makeFunc f a b=>cases f<;>simp only[RG]at h<;>(repeat' split at h)<;>cases h
 case binOp op t x y yt=>cases op<;>simp only[RG,cN]at h<;>(repeat' split at h)<;>cases h
 all_goals (simp only[RG]at h;(repeat' split at h)<;>cases h)
def Aw{o:Op}{xs:List VX}(h:RG P n o=.more .pS xs):∃t x y,o=.store t x y/\mY P t=true/\xs=[cx n x,cx n y]:=by
 cases o
 case store t x y=>
  simp only[RG]at h;split at h
  .cases h
  .split at h
   .rename_i hn;simp only[Rt.more.injEq,true_and]at h;exact⟨t,x,y,rfl,hn,h.symm⟩
   .cases h
 case call c=>
  obtain⟨callee,args,argTypes⟩:=c;cases callee
  case builtin b=>cases b<;>simp only[RG]at h<;>(repeat' split at h)<;>cases h
  all_goals (simp only[RG]at h;cases h)
 case unOp op t x=>cases op<;>simp only[RG]at h<;>cases h
 case makeFunc f a b=>cases f<;>simp only[RG]at h<;>(repeat' split at h)<;>cases h
 case binOp op t x y yt=>cases op<;>simp only[RG,cN]at h<;>(repeat' split at h)<;>cases h
 all_goals (simp only[RG]at h;(repeat' split at h)<;>cases h)
def ad.p9{st:St}{Q:St->Prop}{k:List It}{i:aN}{l:List aN}(hw:bx st.s i.g=some true)(ho:i.op=.more .p9 [])
 (h:ad P n (.ops l::k) ⟨aX st.s i.dst (.rp (.agg [])),st.U⟩ Q):ad P n (.ops (i::l)::k) st Q:=by
 refine ad.ins (by rw[ho];simp) hw λF hn I a w o all hi hs next Q' Rp=>?_
 subst hn;obtain⟨Rk,hd⟩:=eE hi;rw[ho]at Rk;obtain⟨t,g1,hn⟩:=Am Rk;have RT:(execOp a.eval o).run P w=.ok (.value (.pointer (some ⟨w.heap.size,0,none⟩))) (w.alloc (.cells #[] t)):=by
  unfold execOp;rw[g1];simp[Instr.alloc,pQ hn,newVar,newRow,Value.cells]
 unfold Oper.wp;rw[RT];obtain⟨h1,hk⟩:=hs.sat.more (.cells #[] t);refine Rp _ _ _ ⟨I,?_⟩ h;rw[<-hd];exact hs.step h1 (dd.refl I) hk (by simp) (by simp only[E'];exact⟨w.heap.size,0,rfl,by simp,.inl rfl,by simp[bD,aU]⟩)
def ad.pS{st:St}{Q:St->Prop}{k:List It}{i:aN}{l:List aN}{xa xv:VX}{u:V}(hw:bx st.s i.g=some true)(ho:i.op=.more .pS [xa,xv])(ha:xa.ev st.s=.rp u)(hv:xv.ev st.s=.agg [])
 (h:ad P n (.ops l::k) ⟨aX st.s i.dst (.Rf []),st.U⟩ Q):ad P n (.ops (i::l)::k) st Q:=by
 refine ad.ins (by rw[ho];simp) hw λF hn I a w o all hi hs next Q' Rp=>?_
 subst hn;obtain⟨Rk,hd⟩:=eE hi;rw[ho]at Rk;obtain⟨t,x,y,g1,hn,g2⟩:=Aw Rk;simp only[List.cons.injEq,and_true]at g2;obtain⟨rfl,rfl⟩:=g2;have R1:=cL hs x;have R2:=cL hs y;rw[ha]at R1;rw[hv]at R2;simp only[E']at R1 R2;obtain⟨b,off,e1,_⟩:=R1;obtain⟨Ri,e2,e3,_⟩:=R2;simp only[aA]at e3;subst e3;obtain⟨ti,_,Zk,Ti,_⟩:=mG hn;have RT:(execOp a.eval o).run P w=.ok .skip w:=by
  unfold execOp;rw[g1];simp[Instr.storeAt,Instr.sureAddr,e1,e2,storeVar,sizeOf,typeInfo,Zk,Ti,Value.cells,storeCells]
 unfold Oper.wp;rw[RT];refine Rp _ _ _ ⟨I,?_⟩ h;rw[<-hd];exact hs.pure (by simp[E',aA,undef])
open Go.Proofs Go.Proofs.Tryz
def Ex(b:Bk):aV prog 24 [.rp (bt b)] (.fn 53 [.rp (.rp (bt b))]):=λU=>by
 refine e24.r (by simp[c24]) ?_;refine ad.mix 4 ?_;apply sR;simp only[go_sem,seval,c24];refine af λUJ Z1 s1 a1 f1=>?_;simp only[go_sem,seval];exact⟨_,U,s1,Wk.fn (vs':=[.rp (.rp (bt b))]) ⟨Wk.ptr s1 a1 f1,trivial⟩,rfl,rfl⟩
def pgN(k:Nat)(x:Option Uh):Uh:=match x with
 |none=>⟨(k:Int)+1,3,[],[],[]⟩
 |some p=>{ p with no:=(k:Int)+1 }
def A3(L:List (Option Uh)):List Uh:=(List.range L.length).map λk=>pgN k (L.getD k none)
def DX(L:List (Option Uh)):(A3 L).length=L.length:=by simp[A3]
def pgV(k:Nat)(x:Option Uh):V:=match x with
 |none=>.agg [vI ((k:Int)+1),vI 3,.aC,.aC,.aC]
 |some p=>cD { p with no:=(k:Int)+1 }
def qd(L:List (Option Uh)):List V:=(List.range L.length).map λk=>pgV k (L.getD k none)
def Du(L:List (Option Uh))(x:Option Uh):qd (L++[x])=qd L++[pgV L.length x]:=by
 unfold qd;rw[List.length_append,List.length_singleton,List.range_succ,List.map_append];congr 1
 .refine List.map_congr_left λk hk=>?_;have:=List.mem_range.1 hk;rw[List.getD_eq_getElem?_getD,List.getD_eq_getElem?_getD,List.getElem?_append_left this]
 .simp
def FH(L:List (Option Uh)):(qd L).length=L.length:=by simp[qd]
def xp(b:Bk):∀(f:Nat) (s:Sc) (no:Int),(V5 b f s no).length<=2*f
 |0,_,_=>by simp[V5]
 |f+1,s,no=>by
  rw[V5];split
  .simp
  .split
   .have:=xp b f (aW b s).2 (no+2);simp only[List.length_cons];omega
   .have:=xp b f (aW b s).2 (no+1);simp only[List.length_cons];omega
def lU(b:Bk):List Uh:=if(b.atoms.length:Int)+b.Re.length=0 then[⟨1,3,[],[],[]⟩]else A3 (V5 b 1000000001 ⟨⟨0,0,true⟩,[]⟩ 0)
open Go.Proofs Go.Proofs.Tryz
def bh.M6{ZJ U RC Z':ai}(h:bh ZJ U RC Z'){id:Nat}{o:Ob}(hn:U id=none)(hj:RC id=none):bh ZJ U RC (C' Z' id o):=
 ⟨h.1.aE hj,λi x h1 h2=>by
  obtain⟨h3,h4⟩:=h.2 i x h1 h2;have:i≠id:=λe=>by rw[e,hn]at h2;cases h2
  simp[Vc.C',this,h3,h4]⟩
def To.maps{α:Type}{U:ai}{N:Nat->Prop}{f g:α->V}:∀{l:List α},(∀a∈l,Fz U N (f a) (g a))->To U N (l.map f) (l.map g)
 |[],_=>.nil
 |a::l,h=>.cons _ _ _ _ (h a (by simp)) (To.maps λx hx=>h x (by simp[hx]))
def zy(p:Uh):(cD p).eH=true:=by
 have h:∀l:List SU,(bb l).eH=true:=λl=>lL (f:=bo) (λ_=>rfl) l;show gq [vI p.no,vI p.kind,bb p.hs,bb p.fs,bb p.ls]=true;simp only[gq,h];rfl
def Hj{U:ai}{N:Nat->Prop}(L:List (Option Uh)):To U N (qd L) ((A3 L).map cD):=by
 unfold qd A3;rw[List.map_map];refine To.maps λk _=>?_;simp only[Function.comp];cases L.getD k none with
 |none=>exact .agg _ _ (.cons _ _ _ _ (.same _ rfl) (.cons _ _ _ _ (.same _ rfl) (.cons _ _ _ _ (.nil 7) (.cons _ _ _ _ (.nil 7) (.cons _ _ _ _ (.nil 7) .nil)))))
 |some p=>exact .same _ (zy _)
def aT.QD{K U:ai}{N:Nat->Prop}{e sz:Nat}{v:V}{rows Rd:List V}(h:aT K U e sz v rows)(hN:∀id,K id=none->N id)(hr:To U N rows Rd):Fz U N v (.sl sz Rd):=by
 rcases h with⟨rfl,rfl⟩|⟨id,rfl,ho,hk⟩
 .cases hr;exact .nil sz
 .exact .own id 0 rows.length ⟨e,sz,rows⟩ Rd ho (hN id hk) (by simp) (by rw[List.drop_zero,List.take_length];exact hr)
def mR(L:List Uh):V:=.sl 5 (L.map cD)
def CN(l:List Nd)(hl:dH l)(w h:Int):
 aV prog 9 [aK l,vI w,vI h] (if ed l w h=0 then .Rf [mR (lU (bc l w h)),vI 0]else .Rf [.aC,vI (ed l w h)]):=λU=>by
 refine e9.r (by simp[c9]) ?_;have hs:=aa.refl U;refine ad.mix 8 ?_;apply sR;simp only[go_sem,seval,c9];refine ad.aB rfl rfl rfl (Iw l hl w h _) ?_;by_cases he:ed l w h=0
 .have hb:=gi hl he;have hL:=uu he;rw[A1,if_pos he,if_pos he,he];generalize bc l w h=b at*;generalize gU l h=L at*;have q1:((0:Int)≠0)=False:=eq_false (λh=>h rfl);apply sR;simp only[go_sem,seval,q1];refine af λRP Ws Tz RU f10=>?_;have U7:=hs.none f10;replace hs:=hs.trans Tz;simp only[go_sem,seval,RU];refine ad.aB rfl rfl rfl (Ex b _) ?_;apply sR;simp only[go_sem,seval];generalize hS:mix 8 _ _=S;have S8:S 8=.rp (bt b):=by rw[<-hS];rfl
  have S10:S 10=.ptr RP 0 0:=by rw[<-hS];rfl
  have S27:S 27=.fn 53 [.rp (.rp (bt b))]:=by rw[<-hS];rfl
  clear hS;have Wq:=zC b hb hL;have hSl:=xp b 1000000001 ⟨⟨0,0,true⟩,[]⟩ 0;have hPR:lU b=if(b.atoms.length:Int)+b.Re.length=0 then[⟨1,3,[],[],[]⟩]else A3 (V5 b 1000000001 ⟨⟨0,0,true⟩,[]⟩ 0):=rfl
  generalize lU b=PR at*;generalize V5 b 1000000001 ⟨⟨0,0,true⟩,[]⟩ 0=SH at*;refine ad.cX (g:=.t 27) (caps:=[.rp (.rp (bt b))]) S27 Wq (λx hx=>?_) [] (λpre ZJ=>∃v,ZJ RP=some ⟨23,1,[v]⟩/\aa U ZJ/\aT (bg U RP) ZJ 37 5 v (qd (SH.take pre.length)))
   (λ_ _ _=>False) ?_ ?_ ?_ ?_ ?_
  .obtain⟨t,_,rfl⟩:=List.mem_map.1 hx;rfl
  .exact⟨.aC,RU,Tz,by simpa[qd]using aT.start⟩
  .rintro pre x post ZJ ZB TJ ⟨v,J10,Js,Jo⟩ G';obtain⟨t,Zk,rfl⟩:=oK (f:=Vb) TJ;have Vq:pre.length<SH.length:=(List.getElem?_eq_some_iff.1 Zk).1;have hlen:(pre++[[Vb t]]).length=pre.length+1:=by simp
   have Sf:qd (SH.take (pre.length+1))=qd (SH.take pre.length)++[pgV pre.length t]:=by
    rw[List.take_add_one,Zk,Option.toList_some,Du,List.length_take,Nat.min_eq_left (by omega)]
   rw[hlen,Sf];have UR:(qd (SH.take pre.length)).length=pre.length:=by rw[FH,List.length_take];omega
   have UT:=Jo.vc.1;have hvs:=Jo.vc.2;have hvl:=Jo.len;rw[UR]at hvl;generalize RS:qd (SH.take pre.length)=rows at*;have XM:=G' _ _ J10;generalize Tg:lR S [28] [Vb t]=S0;have WL:S0 10=.ptr RP 0 0:=by rw[<-Tg];exact S10
   have T28:S0 28=Vb t:=by rw[<-Tg];rfl
   clear Tg;refine ad.mix 12 ?_;apply sR;simp only[go_sem,seval,WL,T28];apply sR;simp only[go_sem,seval,WL,T28];rw[aO];intro SN f12;have m12:RP≠SN:=aq XM f12;have r1:Rq .i64 ((pre.length:Int)+1):=ao (by omega) (by omega);have Ua:∀p:Uh,(cD p).cells=[vI p.no,vI p.kind,bb p.hs,bb p.fs,bb p.ls]:=λ_=>rfl;have Va:∀l:List SU,(bb l).cells=[bb l]:=λ_=>rfl;have Tk:∀l:List SU,(bb l).stays=true:=λ_=>rfl;have Vx:∀p:Uh,(cD p).stays=true:=λ_=>rfl;have U3:=(bh.refl G').pk (o:=⟨37,5,[.agg [vI 0,vI 3,.aC,.aC,.aC]]⟩) f12;have y10:C' ZB SN ⟨37,5,[.agg [vI 0,vI 3,.aC,.aC,.aC]]⟩ RP=some ⟨23,1,[v]⟩:=by rw[ab m12];exact XM
   have a12:C' ZB SN ⟨37,5,[.agg [vI 0,vI 3,.aC,.aC,.aC]]⟩ SN=some ⟨37,5,[.agg [vI 0,vI 3,.aC,.aC,.aC]]⟩:=ag;have Sb:(rows.length+1)*89<=140737488355328:=by omega
   have k2:bg U RP RP≠none:=λh=>(aM.1 h).1 rfl;have n12:ZJ SN=none:=G'.none f12;cases t with
   |none=>
    simp only[go_sem,seval,WL,T28,Vb,EK];generalize C' ZB SN ⟨37,5,[.agg [vI 0,vI 3,.aC,.aC,.aC]]⟩=X' at*;refine ad.p9 rfl rfl ?_;refine ad.pS (u:=.agg []) rfl rfl rfl rfl ?_;apply sR;simp only[go_sem,seval,WL,y10,a12,UT,hvs,hvl,r1,ab m12,ab m12.symm,Ua,Vx];rw[aO];intro i45 f45;have y2:C' X' SN (⟨37,5,[.agg [vI ((pre.length:Int)+1),vI 3,.aC,.aC,.aC]]⟩:Ob) RP=some ⟨23,1,[v]⟩:=by rw[ab m12];exact y10
    have hB2:bh ZJ ZB ZJ (C' X' SN (⟨37,5,[.agg [vI ((pre.length:Int)+1),vI 3,.aC,.aC,.aC]]⟩:Ob)):=U3.M6 f12 n12;generalize C' X' SN (⟨37,5,[.agg [vI ((pre.length:Int)+1),vI 3,.aC,.aC,.aC]]⟩:Ob)=Y2 at*;have hB3:=hB2.pk (o:=(⟨37,5,[.agg [vI ((pre.length:Int)+1),vI 3,.aC,.aC,.aC]]⟩:Ob)) f45;have y3:C' Y2 i45 (⟨37,5,[.agg [vI ((pre.length:Int)+1),vI 3,.aC,.aC,.aC]]⟩:Ob) RP=some ⟨23,1,[v]⟩:=by rw[ab (aq y2 f45)];exact y2
    have a45:C' Y2 i45 (⟨37,5,[.agg [vI ((pre.length:Int)+1),vI 3,.aC,.aC,.aC]]⟩:Ob) i45=some (⟨37,5,[.agg [vI ((pre.length:Int)+1),vI 3,.aC,.aC,.aC]]⟩:Ob):=ag;generalize C' Y2 i45 (⟨37,5,[.agg [vI ((pre.length:Int)+1),vI 3,.aC,.aC,.aC]]⟩:Ob)=X3 at*;obtain⟨Rr,SM,Vj⟩:=Jo.Dj hB3.1;have UF:∀(i:Nat) (Zx:ai),bg U RP i≠none->Vc.bK Zx Rr i=Zx i:=λi Zx hk=>by
     cases Rr with
     |none=>rfl
     |some a=>exact dO (λe=>hk (by rw[e];exact(Vj a rfl).1))
    simp only[go_sem,seval,SM,dW a45,Sb,WL];rw[aO];intro T1 f46;have f46:X3 T1=none:=f46;have m46:RP≠T1:=aq y3 f46;have f46':Vc.bK X3 Rr T1=none:=by
     cases Rr with
     |none=>exact f46
     |some a=>simp only[Vc.bK,del];split<;>first|rfl|exact f46
    have y4:C' (Vc.bK X3 Rr) T1 ⟨37,5,rows++[.agg [vI ((pre.length:Int)+1),vI 3,.aC,.aC,.aC]]⟩ RP=some ⟨23,1,[v]⟩:=by rw[ab m46,UF _ _ k2];exact y3
    have hB9:=((hB3.C1 (e:=Rr) λi h=>(Vj i h).2).new (o:=⟨37,5,rows++[.agg [vI ((pre.length:Int)+1),vI 3,.aC,.aC,.aC]]⟩) f46').set (id:=RP) (o:=⟨23,1,[v]⟩) (o':=⟨23,1,[.own T1 0 (rows.length+1)]⟩) (by rw[ab m46,UF _ _ k2];exact J10);simp only[go_sem,seval,UT,y4,WL];refine⟨_,hB9,.own T1 0 (rows.length+1),ag,?_,?_⟩
    .refine aa.aE (λi o h=>?_) U7;have h1:=Js _ _ h;rw[ab (aq (hB3.1 _ _ h1) f46),UF _ _ (λhk=>by rw[(aM.1 hk).2]at h;cases h)];exact h1
    .refine aT.new (by simp) (by rw[ab m46.symm,ag];rfl) ?_;rw[aM];refine⟨m46.symm,?_⟩;cases h:U T1 with
     |none=>rfl
     |some o=>rw[hB3.1 _ _ (Js _ _ h)]at f46;cases f46
   |some p=>
    simp only[go_sem,seval,WL,T28,Vb,EK];generalize C' ZB SN ⟨37,5,[.agg [vI 0,vI 3,.aC,.aC,.aC]]⟩=J at*;rw[aO];intro WM f13;have m13:SN≠WM:=aq a12 f13;have Vt:RP≠WM:=aq y10 f13;have U3:=U3.pk (o:=⟨74,5,[cD p]⟩) f13;have y10:C' J WM ⟨74,5,[cD p]⟩ RP=some ⟨23,1,[v]⟩:=by rw[ab Vt];exact y10
    have a12:C' J WM ⟨74,5,[cD p]⟩ SN=some ⟨37,5,[.agg [vI 0,vI 3,.aC,.aC,.aC]]⟩:=by rw[ab m13];exact a12
    have TB:C' J WM ⟨74,5,[cD p]⟩ WM=some ⟨74,5,[cD p]⟩:=ag;simp only[go_sem,seval,Ua,Vx];generalize C' J WM ⟨74,5,[cD p]⟩=X' at*;simp only[go_sem,seval,WL,y10,a12,TB,UT,hvs,hvl,r1,ab m12,ab m12.symm,Ua,Vx,Va,Tk];rw[aO];intro i45 f45;have y2:C' X' SN (⟨37,5,[.agg [vI ((pre.length:Int)+1),vI p.kind,bb p.hs,bb p.fs,bb p.ls]]⟩:Ob) RP=some ⟨23,1,[v]⟩:=by rw[ab m12];exact y10
    have hB2:bh ZJ ZB ZJ (C' X' SN (⟨37,5,[.agg [vI ((pre.length:Int)+1),vI p.kind,bb p.hs,bb p.fs,bb p.ls]]⟩:Ob)):=U3.M6 f12 n12;generalize C' X' SN (⟨37,5,[.agg [vI ((pre.length:Int)+1),vI p.kind,bb p.hs,bb p.fs,bb p.ls]]⟩:Ob)=Y2 at*;have hB3:=hB2.pk (o:=(⟨37,5,[.agg [vI ((pre.length:Int)+1),vI p.kind,bb p.hs,bb p.fs,bb p.ls]]⟩:Ob)) f45;have y3:C' Y2 i45 (⟨37,5,[.agg [vI ((pre.length:Int)+1),vI p.kind,bb p.hs,bb p.fs,bb p.ls]]⟩:Ob) RP=some ⟨23,1,[v]⟩:=by rw[ab (aq y2 f45)];exact y2
    have a45:C' Y2 i45 (⟨37,5,[.agg [vI ((pre.length:Int)+1),vI p.kind,bb p.hs,bb p.fs,bb p.ls]]⟩:Ob) i45=some (⟨37,5,[.agg [vI ((pre.length:Int)+1),vI p.kind,bb p.hs,bb p.fs,bb p.ls]]⟩:Ob):=ag;generalize C' Y2 i45 (⟨37,5,[.agg [vI ((pre.length:Int)+1),vI p.kind,bb p.hs,bb p.fs,bb p.ls]]⟩:Ob)=X3 at*;obtain⟨Rr,SM,Vj⟩:=Jo.Dj hB3.1;have UF:∀(i:Nat) (Zx:ai),bg U RP i≠none->Vc.bK Zx Rr i=Zx i:=λi Zx hk=>by
     cases Rr with
     |none=>rfl
     |some a=>exact dO (λe=>hk (by rw[e];exact(Vj a rfl).1))
    simp only[go_sem,seval,SM,dW a45,Sb,WL];rw[aO];intro T1 f46;have f46:X3 T1=none:=f46;have m46:RP≠T1:=aq y3 f46;have f46':Vc.bK X3 Rr T1=none:=by
     cases Rr with
     |none=>exact f46
     |some a=>simp only[Vc.bK,del];split<;>first|rfl|exact f46
    have y4:C' (Vc.bK X3 Rr) T1 ⟨37,5,rows++[.agg [vI ((pre.length:Int)+1),vI p.kind,bb p.hs,bb p.fs,bb p.ls]]⟩ RP=some ⟨23,1,[v]⟩:=by rw[ab m46,UF _ _ k2];exact y3
    have hB9:=((hB3.C1 (e:=Rr) λi h=>(Vj i h).2).new (o:=⟨37,5,rows++[.agg [vI ((pre.length:Int)+1),vI p.kind,bb p.hs,bb p.fs,bb p.ls]]⟩) f46').set (id:=RP) (o:=⟨23,1,[v]⟩) (o':=⟨23,1,[.own T1 0 (rows.length+1)]⟩) (by rw[ab m46,UF _ _ k2];exact J10);simp only[go_sem,seval,UT,y4,WL];refine⟨_,hB9,.own T1 0 (rows.length+1),ag,?_,?_⟩
    .refine aa.aE (λi o h=>?_) U7;have h1:=Js _ _ h;rw[ab (aq (hB3.1 _ _ h1) f46),UF _ _ (λhk=>by rw[(aM.1 hk).2]at h;cases h)];exact h1
    .refine aT.new (by simp) (by rw[ab m46.symm,ag];rfl) ?_;rw[aM];refine⟨m46.symm,?_⟩;cases h:U T1 with
     |none=>rfl
     |some o=>rw[hB3.1 _ _ (Js _ _ h)]at f46;cases f46
  .rintro Z' ⟨v,RU,hs,Jo⟩;rw[List.length_map,List.take_length]at Jo;have UT:=Jo.vc.1;have hvs:=Jo.vc.2;have Un:=gG b.atoms;have W2:=gj b.Re;have UL:=hb.Uf;have TZ:=hb.len;have rr:Rq .i64 ((b.atoms.length:Int)+b.Re.length):=ao (by omega) (by omega);refine ad.mix 12 ?_;apply sR;simp only[go_sem,seval,S8,S10];refine ad.aB rfl rfl rfl (vq b hb.toBkFull _) ?_;apply sR;simp only[go_sem,seval,S8,S10,w9];have hK:aa U Z':=hs;have hs:=aa.refl Z';refine af λZf Y15 s15 WY f15=>?_;have n1015:=aq RU f15;replace RU:=s15 _ _ RU;have z15:=hs.none f15;replace hs:=hs.trans s15;simp only[go_sem,seval,WY,RU,S10,ak,al,ar,au];generalize Ud:C' _ Zf _=Z15;replace WY:=(congrFun Ud Zf).symm.trans ag;replace RU:=((congrFun Ud RP).symm.trans (ab n1015)).trans RU;replace hs:=Eq.subst (motive:=aa _) Ud (hs.aE z15);clear Ud;by_cases hz:(b.atoms.length:Int)+b.Re.length=0
   .have qz:((b.atoms.length:Int)+b.Re.length=0)=True:=eq_true hz;rw[if_pos hz]at hPR;simp only[go_sem,seval,WY,RU,S10,Un,W2,rr,qz,ak,al,ar,au];have a10':=RU;refine af λi58 Z58 s58 a58 f58=>?_;have n1058:=aq RU f58;replace RU:=s58 _ _ RU;have z58:=hs.none f58;replace hs:=hs.trans s58;simp only[go_sem,seval,a58,RU,S10,UT,hvs];rw[hPR];have hs3:=(hK.trans hs).aE (id:=RP) (o:=⟨23,1,[.own i58 0 1]⟩) U7;have m58:RP≠i58:=aq a10' f58;have hf:Fz (C' Z58 RP ⟨23,1,[.own i58 0 1]⟩) (λid=>U id=none) (.Rf [.own i58 0 1,vI 0]) (.Rf [mR [⟨1,3,[],[],[]⟩],vI 0]):=
     .Rf _ _ (.cons _ _ _ _ (.own i58 0 1 ⟨37,5,[.agg [vI 1,vI 3,.aC,.aC,.aC]]⟩ _ ((ab m58.symm).trans a58) (hK.none z58) (by simp) (To.one (.agg _ _ (.cons _ _ _ _ (.same _ rfl) (.cons _ _ _ _ (.same _ rfl) (.cons _ _ _ _ (.nil 7) (.cons _ _ _ _ (.nil 7) (.cons _ _ _ _ (.nil 7) .nil)))))))) (To.same [vI 0] rfl))
    exact⟨_,U,hs3,hf.wk hs3 (λ_ h=>h),rfl,rfl⟩
   .have qz:((b.atoms.length:Int)+b.Re.length=0)=False:=eq_false hz;rw[if_neg hz]at hPR;simp only[go_sem,seval,WY,RU,S10,Un,W2,rr,qz,UT,hvs,ak,al,ar,au];rw[hPR];have hf:Fz Z15 (λid=>U id=none) (.Rf [v,vI 0]) (.Rf [mR (A3 SH),vI 0]):=
     .Rf _ _ (.cons _ _ _ _ ((Jo.mono hs).QD (λid h=>(aM.1 h).2) (Hj SH)) (To.same [vI 0] rfl))
    exact⟨_,U,hK.trans hs,hf.wk (hK.trans hs) (λ_ h=>h),rfl,rfl⟩
  .intro id h;cases h
  .rintro pre Z' _ ⟨⟩
 .have q1:(ed l w h≠0)=True:=eq_true he;rw[if_neg he];apply sR;simp only[go_sem,seval,q1];exact ay.pure hs rfl
def Zu(l:List RY):Int->Int->List SU->Option (Int×Int)
 |a,d,[]=>some (a,d)
 |a,d,x::r=>
  if(0<=a/\a<l.length)/\x.atom=a/\x.node=(Sq l a).node/\x.fr=d/\1<=x.h/\x.w=(Sq l a).w/\x.x=(Sq l a).x/\d+x.h<=(Sq l a).h then
   (if d+x.h=(Sq l a).h then Zu l (a+1) 0 r else if r=[]then some (a,d+x.h)else none)
  else none
def y6{b:Bk}(hb:bO b)(F:Int->SU)(hF:∀k (h:k<b.atoms.length),F k=⟨b.atoms[k].node,k,0,b.atoms[k].x,(F k).y,b.atoms[k].w,b.atoms[k].h⟩):
 ∀(m k:Nat),k+m<=b.atoms.length->Zu b.atoms k 0 ((List.range m).map λi:Nat=>F ((k:Int)+i))=some (((k+m:Nat):Int),0)
 |0,k,_=>by simp[Zu]
 |m+1,k,h=>by
  have hk:k<b.atoms.length:=by omega
  have hp:=hb.pos _ (List.getElem_mem hk);rw[List.range_succ_eq_map,List.map_cons,List.map_map];have e:=hF k hk;have e0:F ((k:Int)+((0:Nat):Int))=F k:=by simp
  have ih:=y6 hb F hF m (k+1) (by omega);rw[e0,Zu,bz hk,e];simp only;rw[if_pos ⟨⟨by omega,by omega⟩,trivial,trivial,trivial,hp,trivial,trivial,by omega⟩,if_pos (by omega)];have e1:((k:Int)+1)=((k+1:Nat):Int):=by omega
  have e2:((λi:Nat=>F ((k:Int)+i))∘Nat.succ)=λi:Nat=>F (((k+1:Nat):Int)+i):=by
   funext i;simp only[Function.comp];congr 1;omega
  rw[e1,e2,ih];congr 2;omega
def yQ{b:Bk}(hb:bO b){s:R0}(hm:bZ b.atoms s){kept shift high:Int}{c:Nat}(h1:s.atom<c)(h2:c<=b.atoms.length):
 Zu b.atoms s.atom s.done ((List.range (c-s.atom.toNat)).map λi:Nat=>cE high (cU b.atoms s kept shift (s.atom+(i:Nat))))=some ((c:Int),0):=by
 have V0:=hm;obtain⟨⟨h3,h4⟩,h5,h6⟩:=hm;obtain⟨a,ha⟩:∃a:Nat,s.atom=a:=⟨s.atom.toNat,by omega⟩
 have TZ:a<b.atoms.length:=by omega
 rw[ha,bz TZ]at h6;have hp:=hb.pos _ (List.getElem_mem TZ);obtain⟨m,hmm⟩:∃m,c-s.atom.toNat=m+1:=⟨c-s.atom.toNat-1,by omega⟩
 rw[hmm,List.range_succ_eq_map,List.map_cons,List.map_map];have e0:cE high (cU b.atoms s kept shift (s.atom+((0:Nat):Int)))=⟨b.atoms[a].node,a,s.done,b.atoms[a].x,dp b.atoms s kept shift a+s.done+high,b.atoms[a].w,b.atoms[a].h-s.done⟩:=by
  have:s.atom+((0:Nat):Int)=a:=by omega
  rw[this,cU,if_pos ⟨V0,by omega,by omega⟩,if_pos (by omega)];simp only[cE,SU.bT,jI,fv,bz TZ]
 let F:Int->SU:=λk=>if k=s.atom then⟨b.atoms[a].node,k,0,b.atoms[a].x,0,b.atoms[a].w,b.atoms[a].h⟩else if s.atom<k then cE high (cU b.atoms s kept shift k)else⟨(Sq b.atoms k).node,k,0,(Sq b.atoms k).x,0,(Sq b.atoms k).w,(Sq b.atoms k).h⟩
 have hF:∀k (h:k<b.atoms.length),F k=⟨b.atoms[k].node,k,0,b.atoms[k].x,(F k).y,b.atoms[k].w,b.atoms[k].h⟩:=λk h=>by
  by_cases e:(k:Int)=s.atom
  .obtain rfl:k=a:=by omega
   simp only[F,if_pos e]
  .by_cases e2:s.atom<k
   .simp only[F,if_neg e,if_pos e2];rw[cU,if_pos ⟨V0,by omega,by omega⟩,if_neg e];simp only[cE,jI,fv,bz h]
   .simp only[F,if_neg e,if_neg e2,bz h]
 have hr:=y6 hb F hF m (a+1) (by omega);rw[e0,Zu,ha,bz TZ];simp only;rw[if_pos ⟨⟨by omega,by omega⟩,trivial,trivial,trivial,by omega,trivial,trivial,by omega⟩,if_pos (by omega)];have e1:((a:Int)+1)=((a+1:Nat):Int):=by omega
 have e2:(List.range m).map ((λi:Nat=>cE high (cU b.atoms s kept shift ((a:Int)+(i:Nat))))∘Nat.succ)=(List.range m).map λi:Nat=>F (((a+1:Nat):Int)+i):=by
  refine List.map_congr_left λi _=>?_;have:((a:Int)+((Nat.succ i:Nat):Int))=((a+1:Nat):Int)+i:=by omega
  simp only[Function.comp,this];simp only[F];rw[if_neg (by omega),if_pos (by omega)]
 rw[e1,e2,hr];congr 2;omega
def AH{b:Bk}(hb:bO b){s:Sc}(he:¬db b s):Zu b.atoms s.s.atom s.s.done (aW b s).1.fs=some ((aW b s).2.s.atom,(aW b s).2.s.done):=by
 have RZ:gy b s:=Decidable.byContradiction λh=>he (.inl h);have SE:0<=s.s.atom:=by rcases RZ.2 with h|h;exact h.1.1;omega
 have hg:=iu hb he;revert hg;unfold aW;split
 .rename_i h0;intro _;have hn:s.s.atom=0/\s.s.done=0:=by
   rcases RZ.2 with h|h
   .have:=h.1;rw[h0.1]at this;simp at this;omega
   .rw[h0.1]at h;simpa using h
  show Zu b.atoms s.s.atom s.s.done []=_;rw[Zu,hn.1,hn.2];rfl
 .split
  .intro _;rfl
  .rename_i hf;intro hg;have hm:bZ b.atoms s.s:=RZ.2.resolve_right λh=>hf (.inl h.1);have hkind:(jR (eu b (dt b s))).kind=1:=(j3 b (dt b s)).2;obtain⟨-,g1,g2,hcg⟩:=hg.cut hkind;change Zu b.atoms s.s.atom s.s.done (eu b (dt b s)).fs=some ((eW b (dt b s)).s.atom,(eW b (dt b s)).s.done);change rN b s.s (eW b (dt b s)).s (eu b (dt b s)).fs _ _ at hcg;have WG:cH b (dt b s)<=b.atoms.length:=pK;have Sh:=hb.ZV;unfold eu eW at hcg|-;by_cases Rg:eO b.L' (dt b s).s.atom (cH b (dt b s))
   .rw[if_pos Rg,if_pos Rg];obtain⟨c,c1,c2,c3⟩:=tP Rg (by omega);rw[show pn b (dt b s)=c from c1,Int.toNat_natCast];have c2':s.s.atom<c:=c2;exact yQ hb hm c2' (by omega)
   .rw[if_neg Rg,if_neg Rg]at hcg|-;have hso:ki b.atoms s.s (bf b s.s).body:=⟨hm,iH hb.toBkFull s.s SE⟩
    obtain⟨⟨h3,h4⟩,h5,h6⟩:=hm;obtain⟨a,ha⟩:∃a:Nat,s.s.atom=a:=⟨s.s.atom.toNat,by omega⟩
    have TZ:a<b.atoms.length:=by omega
    have hp:=hb.pos _ (List.getElem_mem TZ);have hbd:=iH hb.toBkFull s.s SE;have Wl:Sq b.atoms s.s.atom=b.atoms[a]:=by rw[ha,bz TZ]
    show Zu b.atoms s.s.atom s.s.done [cE (bf b s.s).high (ic b.atoms s.s (bf b s.s).body)]=some ((ew b.atoms s.s (bf b s.s).body).atom,(ew b.atoms s.s (bf b s.s).body).done);rw[ic,if_pos hso,ew,if_pos hso,dU,jh];simp only[Zu,cE,SU.cut,SU.bT,fv,Wl];rw[Wl]at h6;rw[if_pos ⟨⟨h3,h4⟩,trivial,trivial,trivial,by omega,trivial,trivial,by omega⟩];by_cases e:s.s.done+min (b.atoms[a].h-s.s.done) (bf b s.s).body=b.atoms[a].h
    .have H':¬(s.s.done+min (b.atoms[a].h-s.s.done) (bf b s.s).body<b.atoms[a].h):=by omega
     rw[if_pos e,if_neg H']
    .have H':s.s.done+min (b.atoms[a].h-s.s.done) (bf b s.s).body<b.atoms[a].h:=by omega
     rw[if_neg e,if_pos H'];simp
def zZ{x:P'}{r:List P'}:∀(p:List P') (i:Nat),(x::r).Sublist p->∃k:Nat,kM x p i=((i+k:Nat):Int)/\r.Sublist (p.drop (k+1))
 |[],i,h=>by cases h
 |q::p,i,h=>by
  rw[kM];by_cases e:x=q
  .subst e;rw[if_pos rfl];exact⟨0,rfl,List.cons_sublist_cons.1 h⟩
  .rw[if_neg e];have h':(x::r).Sublist p:=by
    cases h with
    |cons _ h=>exact h
    |cons_cons _ h=>exact absurd rfl e
   obtain⟨k,h1,h2⟩:=zZ p (i+1) h';exact⟨k+1,by rw[h1];congr 1;omega,by simpa using h2⟩
def yR{Re:List P'}:∀(p:List P') (RD:Nat),p.Sublist (Re.drop RD)->ly Re p RD=true
 |[],RD,_=>rfl
 |x::r,RD,h=>by
  obtain⟨k,h1,h2⟩:=zZ _ 0 h;rw[Nat.zero_add]at h1;rw[ly,h1,if_neg (by omega),Int.toNat_natCast];refine yR r _ ?_;rw[List.drop_drop]at h2;rw[show RD+k+1=RD+(k+1) by omega];exact h2
def yA{x:P'}:∀(p:List P') (i k:Nat),kM x p i=((i+k:Nat):Int)->p[k]?=some x
 |[],i,k,h=>by simp[kM]at h;omega
 |q::p,i,k,h=>by
  rw[kM]at h;split at h
  .rename_i e;obtain rfl:k=0:=by omega
   simp[e]
  .rcases og x p (i+1)with h2|⟨m,h2,_⟩
   .rw[h2]at h;omega
   .have hk:k=m+1:=by rw[h2]at h;omega
    subst hk;rw[List.getElem?_cons_succ];exact yA p (i+1) m h2
def sX{Re:List P'}:∀(p:List P') (RD:Nat),ly Re p RD=true->p.Sublist (Re.drop RD)
 |[],RD,_=>List.nil_sublist _
 |x::r,RD,h=>by
  rw[ly]at h;split at h
  .cases h
  .rename_i hk;rcases og x (Re.drop RD) 0 with e|⟨k,e,Uq⟩
   .exact absurd (by rw[e];decide) hk
   .rw[e,Nat.zero_add,Int.toNat_natCast]at h;have hx:=yA _ 0 k e;obtain⟨hl,hg⟩:=List.getElem?_eq_some_iff.1 hx;have hr:=sX r _ h;have e1:Re.drop RD=(Re.drop RD).take k++x::(Re.drop RD).drop (k+1):=by
     conv=>lhs;rw[<-List.take_append_drop k (Re.drop RD)]
     rw[List.drop_eq_getElem_cons hl,hg]
    rw[e1,List.drop_drop,show RD+(k+1)=RD+k+1 by omega];exact(List.Sublist.cons_cons x hr).trans (List.sublist_append_right _ _)
def yW{body:Int}:∀(l:List P') (sh:Int),(dG body l sh).2.1.Sublist l
 |[],_=>by simp[dG]
 |f::r,sh=>by
  rw[dG];split
  .exact List.Sublist.refl _
  .exact(yW r _).trans (List.sublist_cons_self _ _)
def CY{top shift body:Int}(L:List P'):(jB top shift body L).2.Sublist L:=by
 suffices key:∀(L L0:List P') (x:List P'×List P'),x.2.Sublist L0->(L.foldl (λx f=>lW body x f (ga top shift f)) x).2.Sublist (L0++L)from by have h:=key L [] ([],[]) (List.Sublist.refl _);rw[List.nil_append]at h;exact h
 intro L
 induction L with
 |nil=>intro L0 x h;simpa using h
 |cons f L ih=>
  intro L0 x h;rw[List.foldl_cons,show L0++f::L=(L0++[f])++L by simp];refine ih _ _ ?_;simp only[lW];split
  .exact h.append (List.Sublist.refl _)
  .exact h.trans (List.sublist_append_left _ _)
def vk{b:Bk}{s:R0}{to kept shift body:Int}:(dF b.atoms b.Re s to kept shift body).2.Sublist b.Re:=by
 unfold dF;split
 .exact(CY _).trans List.filter_sublist
 .exact List.nil_sublist _
def um{b:Bk}(hb:bO b){s:Sc}(he:¬db b s):gy b (aW b s).2:=by
 have RZ:gy b s:=Decidable.byContradiction λh=>he (.inl h);have hg:=iu hb he;have hp:s.bM.Sublist b.Re:=sX _ 0 RZ.1;refine⟨yR _ 0 ?_,?_⟩
 .rw[List.drop_zero];unfold aW;split
  .exact List.dropWhile_sublist _
  .split
   .exact(yW _ _).trans hp
   .show(eW b (dt b s)).bM.Sublist b.Re;unfold eW;split
    .exact vk
    .exact vk
 .rcases hg.kd with k|k
  .obtain⟨hm,-,-,hc⟩:=hg.cut k;have V0:=hm;obtain⟨⟨h0,h1⟩,h2,h3⟩:=hm;cases hc with
   |more q1 q2 q3 q4 q5=>
    left;unfold gP at q3;rw[if_pos V0]at q3;have:=(oP hb.toBkFull s.s h0).2.1;refine⟨by omega,by omega,.inr ?_⟩;rw[q1];omega
   |whole c r y q1 q2 q3 q4 q5 q6 q7 q8 q9=>
    rw[q1];by_cases Sn:c=b.atoms.length
    .exact .inr ⟨by simp only;omega,rfl⟩
    .exact .inl ⟨⟨by simp only;omega,by simp only;omega⟩,Int.le_refl _,.inl rfl⟩
  .have hf:=hg.no' k;have Tj:=AH hb he;rw[hf,Zu]at Tj;have e:=Option.some.inj Tj;have e1:(aW b s).2.s.atom=s.s.atom:=(congrArg Prod.fst e).symm;have e2:(aW b s).2.s.done=s.s.done:=(congrArg Prod.snd e).symm;unfold bZ;rw[e1,e2];exact RZ.2
def qc(b:Bk)(Su:∀a∈b.atoms,1<=a.h):gy b ⟨⟨0,0,true⟩,[]⟩:=by
 refine⟨rfl,?_⟩;by_cases h:b.atoms.length=0
 .exact .inr ⟨by simp only;omega,rfl⟩
 .exact .inl ⟨⟨Int.le_refl _,by simp only;omega⟩,Int.le_refl _,.inl rfl⟩
instance (n:Int):Decidable (farP n):=by unfold farP;infer_instance
def ig(b:Bk)(p:Uh)(s:R0)(no:Int):Prop:=p.kind=1/\¬s.done>0/\((TL b.L' s.atom.toNat).forced=3/\no%2=1\/(TL b.L' s.atom.toNat).forced=4/\no%2=0)
instance (b:Bk) (p:Uh) (s:R0) (no:Int):Decidable (ig b p s no):=by unfold ig;infer_instance
def Db{b:Bk}{s:Sc}(no:Int):ig b (aW b s).1 s.s no↔0<=jb b s/\no%2≠jb b s:=by
 unfold ig jb tC;split
 .constructor
  .intro h;omega
  .intro h;omega
 .split
  .omega
  .split
   .omega
   .constructor
    .intro h;omega
    .intro h;omega
def dv(b:Bk)(s:Sc)(kind:Int):Int:=
 if kind≠1 then s.s.atom
 else iU b.atoms s.s (ik b.atoms s.s ((bf b s.s).body-(dG (bf b s.s).body s.bM 0).2.2)) (dG (bf b s.s).body s.bM 0).2.2 (bf b s.s).body
structure fQ(a b:Bk)(s:R0)(r:Int):Prop where
 r0:0<=r
 RD:∀k:Nat,(k:Int)<=r->a.atoms[k]?=b.atoms[k]?
 bk:∀k:Nat,(k:Int)<=r->TL a.L' k=TL b.L' k
 fl:(a.Re.filter λf=>decide (f.anchor<=r))=b.Re.filter λf=>decide (f.anchor<=r)
 hd:(bf a s).Rj=(bf b s).Rj
 st:∀n∈(bf a s).Rj,(SP a.nodes n).head=(SP b.nodes n).head
 w:a.w=b.w
 h:a.h=b.h
def C7{l m:List Nd}{w:Int}{L:List Int}(h:∀n∈L,(SP l n).head=(SP m n).head):Uu l w L=Uu m w L:=by
 unfold Uu
 suffices key:∀(L:List Int) (p:List SU×Int),(∀n∈L,(SP l n).head=(SP m n).head)->L.foldl (Vz l w) p=L.foldl (Vz m w) p from key L _ h
 intro L
 induction L with
 |nil=>intro p _;rfl
 |cons x L ih=>
  intro p h;have e:Vz l w p x=Vz m w p x:=by unfold Vz;rw[h x (by simp)]
  rw[List.foldl_cons,List.foldl_cons,e];exact ih _ λn hn=>h n (by simp[hn])
def fQ.hdk{a b:Bk}{s:R0}{r:Int}(h:fQ a b s r):Uu a.nodes a.w (bf a s).Rj=Uu b.nodes b.w (bf b s).Rj:=by
 rw[C7 h.st,h.w,h.hd]
def fQ.bf{a b:Bk}{s:R0}{r:Int}(h:fQ a b s r)(ha:BkFull a)(hb:BkFull b)(h0:0<=s.atom):bf a s=Go.Vc.bf b s:=by
 obtain⟨-,-,a3,-,a5⟩:=oP ha s h0;obtain⟨-,-,b3,-,b5⟩:=oP hb s h0;rw[h.hdk,b5]at a5;have:=h.h;have e:=h.hd;revert a3 a5 b3 e;generalize Go.Vc.bf a s=x;generalize Go.Vc.bf b s=y;intro a3 a5 b3 e;obtain⟨x1,x2,x3⟩:=x;obtain⟨y1,y2,y3⟩:=y;simp only at*;subst e;have e2:x2=y2:=by omega
 have e3:x3=y3:=by omega
 rw[e2,e3]
def fQ.Sq{a b:Bk}{s:R0}{r:Int}(h:fQ a b s r){k:Int}(hk:k<=r):Sq a.atoms k=Go.Vc.Sq b.atoms k:=by
 have h0:=h.r0;have:=h.RD k.toNat (by omega);unfold Go.Vc.Sq;rw[List.getD_eq_getElem?_getD,List.getD_eq_getElem?_getD,this]
def fQ.lt{a b:Bk}{s:R0}{r:Int}(h:fQ a b s r){k:Int}(h0:0<=k)(hk:k<=r):k<a.atoms.length↔k<b.atoms.length:=by
 have:=h.RD k.toNat (by omega);constructor
 .intro H';rw[List.getElem?_eq_getElem (show k.toNat<a.atoms.length by omega)]at this;have:=(List.getElem?_eq_some_iff.1 this.symm).1;omega
 .intro H';rw[List.getElem?_eq_getElem (show k.toNat<b.atoms.length by omega)]at this;have:=(List.getElem?_eq_some_iff.1 this).1;omega
def fQ.bZ{a b:Bk}{s:R0}{r:Int}(h:fQ a b s r)(h1:s.atom<=r):bZ a.atoms s↔Go.Vc.bZ b.atoms s:=by
 unfold Go.Vc.bZ;rw[h.Sq h1];constructor
 .rintro⟨⟨g1,g2⟩,g3⟩;exact⟨⟨g1,(h.lt g1 h1).1 g2⟩,g3⟩
 .rintro⟨⟨g1,g2⟩,g3⟩;exact⟨⟨g1,(h.lt g1 h1).2 g2⟩,g3⟩
def fQ.gap{a b:Bk}{s:R0}{r:Int}(h:fQ a b s r){k:Int}(hk:k<=r):lg a.atoms k=lg b.atoms k:=by
 unfold lg;by_cases h0:0<=k
 .have hb:fI a.atoms (k-1)=fI b.atoms (k-1):=by
   unfold fI;by_cases h1:0<=k-1
   .have:=h.lt h1 (by omega);rw[h.Sq (show k-1<=r by omega)];by_cases h2:k-1<a.atoms.length
    .rw[if_pos ⟨h1,h2⟩,if_pos ⟨h1,this.1 h2⟩]
    .rw[if_neg λg=>h2 g.2,if_neg λg=>h2 (this.2 g.2)]
   .rw[if_neg λg=>h1 g.1,if_neg λg=>h1 g.1]
  have:=h.lt h0 hk;rw[h.Sq hk,hb];by_cases h2:k<a.atoms.length
  .rw[if_pos ⟨h0,h2⟩,if_pos ⟨h0,this.1 h2⟩]
  .rw[if_neg λg=>h2 g.2,if_neg λg=>h2 (this.2 g.2)]
 .rw[if_neg λg=>h0 g.1,if_neg λg=>h0 g.1]
def fQ.kept{a b:Bk}{s:R0}{r:Int}(h:fQ a b s r)(h1:s.atom<=r)(RJ:Int):ik a.atoms s RJ=ik b.atoms s RJ:=by
 unfold ik;rw[h.gap h1,h.Sq h1];by_cases hm:Go.Vc.bZ a.atoms s
 .have VE:=(h.bZ h1).1 hm;simp only[hm,VE,true_and]
 .have VE:¬Go.Vc.bZ b.atoms s:=λg=>hm ((h.bZ h1).2 g);simp only[hm,VE,false_and]
def fQ.left{a b:Bk}{s:R0}{r:Int}(h:fQ a b s r)(h1:s.atom<=r):gP a.atoms s=gP b.atoms s:=by
 unfold gP;rw[h.Sq h1];by_cases hm:Go.Vc.bZ a.atoms s
 .rw[if_pos hm,if_pos ((h.bZ h1).1 hm)]
 .rw[if_neg hm,if_neg λg=>hm ((h.bZ h1).2 g)]
def fQ.place{a b:Bk}{s:R0}{r:Int}(h:fQ a b s r)(h1:s.atom<=r)(kept shift:Int){k:Int}(hk:k<=r):dp a.atoms s kept shift k=dp b.atoms s kept shift k:=by
 unfold dp;by_cases hm:Go.Vc.bZ a.atoms s
 .have VE:=(h.bZ h1).1 hm;have h0:=hm.1.1;by_cases hsk:s.atom<=k
  .have hl:=h.lt (show 0<=k by omega) hk;by_cases h2:k<a.atoms.length
   .rw[if_pos ⟨hm,hsk,h2⟩,if_pos ⟨VE,hsk,hl.1 h2⟩];unfold gk;rw[if_pos ⟨hm.1,by omega,h2⟩,if_pos ⟨VE.1,by omega,hl.1 h2⟩,h.Sq h1,h.Sq hk]
   .rw[if_neg λg=>h2 g.2.2,if_neg λg=>h2 (hl.2 g.2.2)]
  .rw[if_neg λg=>hsk g.2.1,if_neg λg=>hsk g.2.1]
 .rw[if_neg λg=>hm g.1,if_neg λg=>hm ((h.bZ h1).2 g.1)]
def fQ.whole{a b:Bk}{s:R0}{r:Int}(h:fQ a b s r)(h1:s.atom<=r)(kept shift:Int){k:Int}(hk:k<=r):cU a.atoms s kept shift k=cU b.atoms s kept shift k:=by
 unfold cU;have hp:∀y,jI a.atoms k y=jI b.atoms k y:=λy=>by unfold jI fv;rw[h.Sq hk]
 by_cases hm:Go.Vc.bZ a.atoms s
 .have VE:=(h.bZ h1).1 hm;have h0:=hm.1.1;by_cases hsk:s.atom<=k
  .have hl:=h.lt (show 0<=k by omega) hk;by_cases h2:k<a.atoms.length
   .have c1:Go.Vc.bZ a.atoms s/\s.atom<=k/\k<a.atoms.length:=⟨hm,hsk,h2⟩
    have c2:Go.Vc.bZ b.atoms s/\s.atom<=k/\k<b.atoms.length:=⟨VE,hsk,hl.1 h2⟩
    rw[if_pos c1,if_pos c2,h.place h1 kept shift hk,hp]
   .rw[if_neg λg=>h2 g.2.2,if_neg λg=>h2 (hl.2 g.2.2)]
  .rw[if_neg λg=>hsk g.2.1,if_neg λg=>hsk g.2.1]
 .rw[if_neg λg=>hm g.1,if_neg λg=>hm ((h.bZ h1).2 g.1)]
def fQ.reach{a b:Bk}(ha:bO a)(hb:bO b){s:R0}{r:Int}(h:fQ a b s r)(h1:s.atom<=r)(kept shift body:Int)(hm:Go.Vc.bZ a.atoms s)(hr:iU a.atoms s kept shift body=r):iU b.atoms s kept shift body=r:=by
 have VE:=(h.bZ h1).1 hm;obtain⟨x,x1,x2,x3,x4,x5⟩:=gH ha.Ts ha.pos hm kept shift body;obtain⟨y,y1,y2,y3,y4,y5⟩:=gH hb.Ts hb.pos VE kept shift body;have h0:=hm.1.1;rw[y1,<-hr,x1];have hxr:(x:Int)=r:=by rw[<-hr,x1]
 rcases Nat.lt_trichotomy x y with hl|hl|hl
 ·
  exfalso;have hxb:x<b.atoms.length:=by omega
  have hxa:x<a.atoms.length:=by have:=(h.lt (k:=x) (by omega) (by omega)).2 (by omega);omega
  have q1:=x5 hxa;have q2:=y4 x hxb (by omega) hl;have e:=h.RD x (by omega);rw[List.getElem?_eq_getElem hxa,List.getElem?_eq_getElem hxb,Oi]at e;rw[h.place h1 kept shift (by omega),e]at q1;omega
 .rw[hl]
 .exfalso;have hya:y<a.atoms.length:=by omega
  have hyb:y<b.atoms.length:=by have:=(h.lt (k:=y) (by omega) (by omega)).1 (by omega);omega
  have q1:=y5 hyb;have q2:=x4 y hya (by omega) hl;have e:=h.RD y (by omega);rw[List.getElem?_eq_getElem hya,List.getElem?_eq_getElem hyb,Oi]at e;rw[h.place h1 kept shift (by omega),e]at q2;omega
def fQ.called{a b:Bk}{s:R0}{r:Int}(h:fQ a b s r){to:Int}(ht:to<=r+1):fH a.Re s to=fH b.Re s to:=by
 unfold fH xP lA tN;generalize (if s.done>0 then s.atom+1 else s.atom)=fr;have key:∀L:List P',(L.filter λf=>!decide (f.anchor<fr\/f.anchor>=to))=(L.filter λf=>decide (f.anchor<=r)).filter λf=>!decide (f.anchor<fr\/f.anchor>=to):=λL=>by
  rw[List.filter_filter];refine List.filter_congr λf _=>?_;by_cases hc:f.anchor<fr\/f.anchor>=to
  .simp[hc]
  .have:f.anchor<=r:=by omega
   simp[hc,this]
 rw[key a.Re,key b.Re,h.fl]
def fQ.here{a b:Bk}{s:R0}{r:Int}(h:fQ a b s r)(h1:s.atom<=r){to:Int}(ht:to<=r+1)(kept shift body:Int):dF a.atoms a.Re s to kept shift body=dF b.atoms b.Re s to kept shift body:=by
 unfold dF sM;rw[h.called ht,h.Sq h1];by_cases hm:Go.Vc.bZ a.atoms s
 .rw[if_pos hm,if_pos ((h.bZ h1).1 hm)]
 .rw[if_neg hm,if_neg λg=>hm ((h.bZ h1).2 g)]
def fQ.nC{a b:Bk}{s:R0}{r:Int}(h:fQ a b s r)(h1:s.atom<=r)(h0:0<=s.atom)(ha:r<=(a.L'.length:Int)-1)(hb:r<=(b.L'.length:Int)-1):nC a.L' s.atom r=Go.Vc.nC b.L' s.atom r:=by
 have e:(VP a.L' (s.atom+1) r).map (kX a.L')=(VP b.L' (s.atom+1) r).map (kX b.L'):=by
  have e1:VP a.L' (s.atom+1) r=VP b.L' (s.atom+1) r:=by
   unfold VP rE;rw[show min r ((a.L'.length:Int)-1)=r by omega,show min r ((b.L'.length:Int)-1)=r by omega]
  rw[e1];refine List.map_congr_left λk hk=>?_;unfold kX;rw[h.bk k ?_];unfold VP rE at hk;have:=List.mem_range'_1.1 hk;omega
 unfold Go.Vc.nC kz Ca;rw[e]
def fQ.top{a b:Bk}{s:Sc}{r:Int}(h:fQ a b s.s r)(ha:BkFull a)(hb:BkFull b)(h0:0<=s.s.atom):dt a s=dt b s:=by
 have e1:=h.bf ha hb h0;have e2:=h.hdk;unfold dt bX;rw[e2,e1]
def fQ.PY{a b:Bk}(ha:bO a)(hb:bO b){s:Sc}{r:Int}(h:fQ a b s.s r)(h1:s.s.atom<=r)(hm:Go.Vc.bZ a.atoms s.s)(x:Wx)(hx:x.s=s.s)(hr:cH a x=r):eu a x=eu b x/\eW a x=eW b x/\cH b x=r:=by
 have VE:=(h.bZ h1).1 hm;have ek:cV a x=cV b x:=by unfold cV;rw[hx];exact h.kept h1 _
 have hr':cH b x=r:=by
  unfold cH at hr|-;rw[<-ek];rw[hx]at hr|-;exact h.reach ha hb h1 _ _ _ hm hr
 obtain⟨u,u1,u2,u3,-,-⟩:=gH ha.Ts ha.pos hm (cV a x) x.shift x.body;obtain⟨v,v1,v2,v3,-,-⟩:=gH hb.Ts hb.pos VE (cV b x) x.shift x.body;have hra:r=u:=by rw[<-hr];unfold cH;rw[hx];exact u1
 have hrb:r=v:=by rw[<-hr'];unfold cH;rw[hx];exact v1
 have Un:=ha.ZV;have V2:=hb.ZV;have ecut:pn a x=pn b x:=by
  unfold pn;rw[hr,hr',hx];exact h.nC h1 hm.1.1 (by omega) (by omega)
 have eok:eO a.L' x.s.atom (cH a x)↔eO b.L' x.s.atom (cH b x):=by
  unfold eO;rw[hr,hr',hx];have:=hm.1;have:=VE.1;constructor
  .rintro⟨-,g2,g3,g4⟩;exact⟨hb.mayb,g2,by omega,g4⟩
  .rintro⟨-,g2,g3,g4⟩;exact⟨ha.mayb,g2,by omega,g4⟩
 refine⟨?_,?_,hr'⟩
 .unfold eu;by_cases hc:eO a.L' x.s.atom (cH a x)
  .rw[if_pos hc,if_pos (eok.1 hc),<-ecut,<-ek];obtain⟨c,c1,c2,c3,-⟩:=tW hc (by rw[hr];omega);have hcx:pn a x=c:=c1;rw[hcx];rw[hr]at c3;unfold pL cp;have e1:((List.range ((c:Int).toNat-x.s.atom.toNat)).map λi:Nat=>cE x.high (cU a.atoms x.s (cV a x) x.shift (x.s.atom+(i:Nat))))=(List.range ((c:Int).toNat-x.s.atom.toNat)).map λi:Nat=>cE x.high (cU b.atoms x.s (cV a x) x.shift (x.s.atom+(i:Nat))):=by
    refine List.map_congr_left λi hi=>?_;have WI:=List.mem_range.1 hi;have V0:=hm.1.1;have hxa:x.s.atom=s.s.atom:=by rw[hx]
    have hk:x.s.atom+(i:Int)<=r:=by omega
    rw[hx]at hk|-;rw[h.whole h1 _ _ hk]
   have e2:dF a.atoms a.Re x.s (c:Int).toNat (cV a x) x.shift x.body=dF b.atoms b.Re x.s (c:Int).toNat (cV a x) x.shift x.body:=by
    rw[hx];exact h.here h1 (by omega) _ _ _
   simp only[e1,e2]
  .rw[if_neg hc,if_neg λg=>hc (eok.2 g)];unfold qg;have e1:ic a.atoms x.s x.body=ic b.atoms x.s x.body:=by
    have e0:dU a.atoms x.s x.body=dU b.atoms x.s x.body:=by unfold dU fv;rw[hx,h.Sq h1]
    unfold ic;rw[hx]at e0|-;by_cases hq:1<=x.body
    .rw[if_pos (show ki a.atoms s.s x.body from⟨hm,hq⟩),if_pos (show ki b.atoms s.s x.body from⟨VE,hq⟩),e0]
    .rw[if_neg λg:ki a.atoms s.s x.body=>hq g.2,if_neg λg:ki b.atoms s.s x.body=>hq g.2]
   have e2:dF a.atoms a.Re x.s (x.s.atom+1) 0 0 x.body=dF b.atoms b.Re x.s (x.s.atom+1) 0 0 x.body:=by
    rw[hx];exact h.here h1 (by omega) _ _ _
   simp only[e1,e2]
 .unfold eW;by_cases hc:eO a.L' x.s.atom (cH a x)
  .rw[if_pos hc,if_pos (eok.1 hc),<-ecut,<-ek];obtain⟨c,c1,c2,c3,-⟩:=tW hc (by rw[hr];omega);have hcx:pn a x=c:=c1;rw[hcx];rw[hr]at c3;unfold wZ;have e2:dF a.atoms a.Re x.s (c:Int).toNat (cV a x) x.shift x.body=dF b.atoms b.Re x.s (c:Int).toNat (cV a x) x.shift x.body:=by
    rw[hx];exact h.here h1 (by omega) _ _ _
   have e3:a.L'.getD (c:Int).toNat ⟨0,0,0⟩=b.L'.getD (c:Int).toNat ⟨0,0,0⟩:=h.bk _ (by omega);simp only[e2,e3]
  .rw[if_neg hc,if_neg λg=>hc (eok.2 g)];unfold sF;have e1:ew a.atoms x.s x.body=ew b.atoms x.s x.body:=by
    have e0:dU a.atoms x.s x.body=dU b.atoms x.s x.body:=by unfold dU fv;rw[hx,h.Sq h1]
    unfold ew;rw[hx]at e0|-;by_cases hq:1<=x.body
    .rw[if_pos (show ki a.atoms s.s x.body from⟨hm,hq⟩),if_pos (show ki b.atoms s.s x.body from⟨VE,hq⟩),e0];unfold jh;have:(dU b.atoms s.s x.body).atom=s.s.atom:=rfl;rw[this,h.Sq h1]
    .rw[if_neg λg:ki a.atoms s.s x.body=>hq g.2,if_neg λg:ki b.atoms s.s x.body=>hq g.2]
   have e2:dF a.atoms a.Re x.s (x.s.atom+1) 0 0 x.body=dF b.atoms b.Re x.s (x.s.atom+1) 0 0 x.body:=by
    rw[hx];exact h.here h1 (by omega) _ _ _
   simp only[e1,e2]
def BY{b:Bk}(hb:bO b){s:Sc}{kind:Int}(hm:kind=1->Go.Vc.bZ b.atoms s.s):s.s.atom<=dv b s kind:=by
 unfold dv;split
 .omega
 .rename_i hk;obtain⟨u,u1,u2,-⟩:=gH hb.Ts hb.pos (hm (by omega)) (ik b.atoms s.s ((bf b s.s).body-(dG (bf b s.s).body s.bM 0).2.2)) (dG (bf b s.s).body s.bM 0).2.2 (bf b s.s).body;rw[u1];exact u2
def fQ.MN{a b:Bk}(ha:bO a)(hb:bO b){s:Sc}(he:¬db a s)(h:fQ a b s.s (dv a s (aW a s).1.kind))(na:a.atoms≠[])(nb:b.atoms≠[]):aW a s=aW b s/\dv b s (aW b s).1.kind=dv a s (aW a s).1.kind:=by
 have RZ:gy a s:=Decidable.byContradiction λh=>he (.inl h);have SE:0<=s.s.atom:=by rcases RZ.2 with h|h;exact h.1.1;omega
 have hg:=iu ha he;have h1:s.s.atom<=dv a s (aW a s).1.kind:=BY ha λk=>(hg.cut k).1;have e1:=h.bf ha.toBkFull hb.toBkFull SE;have e2:=h.top ha.toBkFull hb.toBkFull SE;have hn:s.s.atom=a.atoms.length↔s.s.atom=b.atoms.length:=by
  have hl:=h.lt SE h1;have q:s.s.atom<=a.atoms.length:=by rcases RZ.2 with h|h;have:=h.1.2;omega;omega
  constructor
  .intro g;have:=h.RD s.s.atom.toNat (by omega);have hz:¬s.s.atom<b.atoms.length:=λg'=>by have:=hl.2 g';omega
   rcases Nat.lt_or_ge b.atoms.length a.atoms.length with g'|g'
   .have:=(h.lt (k:=b.atoms.length) (by omega) (by omega)).1 (by omega);omega
   .omega
  .intro g;have hz:¬s.s.atom<a.atoms.length:=λg'=>by have:=hl.1 g';omega
   omega
 have ef:jE a s↔jE b s:=by
  unfold jE;rw[hn,e1,h.left h1]
 have na':¬(a.atoms=[]/\s.s.free=true):=λg=>na g.1;have nb':¬(b.atoms=[]/\s.s.free=true):=λg=>nb g.1;unfold aW at h h1|-;rw[if_neg na']at h h1;rw[if_neg na',if_neg nb'];by_cases hf:jE a s
 .rw[if_pos hf]at h h1;rw[if_pos hf,if_pos (ef.1 hf),e2,e1];have hl:s.s.atom<a.atoms.length↔s.s.atom<b.atoms.length:=by
   have:=h.lt SE (k:=s.s.atom) (by unfold dv;simp[jR]);exact this
  refine⟨by simp only[hl],?_⟩;unfold dv;simp[jR]
 .rw[if_neg hf]at h h1;have hm:Go.Vc.bZ a.atoms s.s:=RZ.2.resolve_right λg=>hf (.inl g.1);have hk:(jR (eu a (dt a s))).kind=1:=(j3 a (dt a s)).2;rw[if_neg hf,if_neg λg=>hf (ef.2 g)];have hr:cH a (dt a s)=dv a s (jR (eu a (dt a s))).kind:=by
   unfold dv;rw[hk];rfl
  have TJ:(dt a s).s=s.s:=rfl;obtain⟨g1,g2,g3⟩:=h.PY ha hb h1 hm (dt a s) TJ hr;rw[<-e2,g1,g2];refine⟨rfl,?_⟩;rw[<-g1,<-hr];have hkb:(jR (eu a (dt a s))).kind=1:=hk;unfold dv;rw[hkb];rw[e2]at g3 hr|-;rw[hr,<-g3];rfl
def bL{α:Type}[DecidableEq α]:List α->List α->Nat
 |x::l,y::m=>if x=y then bL l m+1 else 0
 |_,_=>0
def rW{α:Type}[DecidableEq α]:∀(l m:List α),bL l m<=l.length/\bL l m<=m.length
 |[],m=>by simp[bL]
 |x::l,[]=>by simp[bL]
 |x::l,y::m=>by
  have:=rW l m;rw[bL];split<;>simp only[List.length_cons]<;>omega
def kV{α:Type}[DecidableEq α]:∀(l m:List α) (r:Nat),r<bL l m↔r<l.length/\∀k,k<=r->l[k]?=m[k]?
 |[],m,r=>by simp[bL]
 |x::l,[],r=>by
  simp only[bL];constructor
  .intro h;omega
  .intro h;have:=h.2 0 (Nat.zero_le r);simp at this
 |x::l,y::m,r=>by
  rw[bL];split
  .rename_i e;subst e;cases r with
   |zero=>simp
   |succ r=>
    have ih:=kV l m r;rw[show r+1<bL l m+1↔r<bL l m by omega,ih];simp only[List.length_cons];constructor
    .rintro⟨h1,h2⟩;refine⟨by omega,λk hk=>?_⟩;cases k with
     |zero=>rfl
     |succ k=>rw[List.getElem?_cons_succ,List.getElem?_cons_succ];exact h2 k (by omega)
    .rintro⟨h1,h2⟩;refine⟨by omega,λk hk=>?_⟩;have:=h2 (k+1) (by omega)
     rwa [List.getElem?_cons_succ,List.getElem?_cons_succ]at this
  .rename_i e;constructor
   .intro h;omega
   .intro h;have:=h.2 0 (Nat.zero_le r);simp only[List.getElem?_cons_zero,Oi]at this;exact absurd this e
def kY(b:Bk)(r:Int):List P':=b.Re.filter λf=>decide (f.anchor<=r)
def k0(a b:Bk)(s:R0):Prop:=(bf a s).Rj=(bf b s).Rj/\∀n∈(bf a s).Rj,(SP a.nodes n).head=(SP b.nodes n).head
instance (a b:Bk) (s:R0):Decidable (k0 a b s):=by unfold k0;infer_instance
def cz(a b:Bk)(s:Sc)(kind:Int):Prop:=
 if(a.atoms.length:Int)=0\/(b.atoms.length:Int)=0 then(a.atoms.length:Int)=b.atoms.length/\a.Re=b.Re
 else(dv a s kind<bL a.atoms b.atoms\/dv a s kind=a.atoms.length/\dv a s kind=b.atoms.length/\dv a s kind=bL a.atoms b.atoms)/\dv a s kind<bL a.L' b.L'/\kY a (dv a s kind)=kY b (dv a s kind)/\k0 a b s.s
instance (a b:Bk) (s:Sc) (kind:Int):Decidable (cz a b s kind):=by unfold cz;infer_instance
def ou{b:Bk}(hb:bO b){s:Sc}(he:¬db b s):0<=s.s.atom/\s.s.atom<=dv b s (aW b s).1.kind/\dv b s (aW b s).1.kind<=b.atoms.length:=by
 have RZ:gy b s:=Decidable.byContradiction λh=>he (.inl h);have SE:0<=s.s.atom:=by rcases RZ.2 with h|h;exact h.1.1;omega
 have TZ:s.s.atom<=b.atoms.length:=by rcases RZ.2 with h|h;have:=h.1.2;omega;omega
 have hg:=iu hb he;refine⟨SE,BY hb λk=>(hg.cut k).1,?_⟩;unfold dv;split
 .exact TZ
 .rename_i hk;have hm:=(hg.cut (by omega)).1;obtain⟨u,u1,-,u3,-⟩:=gH hb.Ts hb.pos hm (ik b.atoms s.s ((bf b s.s).body-(dG (bf b s.s).body s.bM 0).2.2)) (dG (bf b s.s).body s.bM 0).2.2 (bf b s.s).body;rw[u1];omega
def lJ{a b:Bk}(ha:bO a){s:Sc}(he:¬db a s)(na:a.atoms≠[])(nb:b.atoms≠[])(hw:a.w=b.w)(hh:a.h=b.h):
 cz a b s (aW a s).1.kind↔fQ a b s.s (dv a s (aW a s).1.kind)/\∀k:Nat,(k:Int)<=dv a s (aW a s).1.kind->a.L'[k]?=b.L'[k]?:=by
 obtain⟨r1,r2,r3⟩:=ou ha he;have Sh:=ha.ZV;have l1:=List.length_pos_iff.2 na;have l2:=List.length_pos_iff.2 nb;unfold cz;rw[if_neg (by omega)];generalize dv a s (aW a s).1.kind=r at*;obtain⟨q,rfl⟩:∃q:Nat,r=q:=⟨r.toNat,by omega⟩
 have Wb:(q:Int)<bL a.L' b.L'↔∀k:Nat,(k:Int)<=q->a.L'[k]?=b.L'[k]?:=by
  have:=kV a.L' b.L' q;constructor
  .intro h k hk;exact(this.1 (by omega)).2 k (by omega)
  .intro h;have:=this.2 ⟨by omega,λk hk=>h k (by omega)⟩;omega
 have VM:((q:Int)<bL a.atoms b.atoms\/(q:Int)=a.atoms.length/\(q:Int)=b.atoms.length/\(q:Int)=bL a.atoms b.atoms)↔∀k:Nat,(k:Int)<=q->a.atoms[k]?=b.atoms[k]?:=by
  have hl:=rW a.atoms b.atoms;constructor
  .rintro(h|⟨h1,h2,h3⟩) k hk
   .exact((kV a.atoms b.atoms q).1 (by omega)).2 k (by omega)
   .rcases Nat.lt_or_ge k q with hkq|hkq
    .exact((kV a.atoms b.atoms k).1 (by omega)).2 k (Nat.le_refl k)
    .rw[List.getElem?_eq_none (by omega),List.getElem?_eq_none (by omega)]
  .intro h;rcases Nat.lt_or_ge q a.atoms.length with hq|hq
   .left;have:=(kV a.atoms b.atoms q).2 ⟨hq,λk hk=>h k (by omega)⟩;omega
   .right;have hqa:q=a.atoms.length:=by omega
    have hn:=h q (Int.le_refl _);rw[List.getElem?_eq_none (by omega)]at hn;have hmb:=List.getElem?_eq_none_iff.1 hn.symm;have hld:q-1<bL a.atoms b.atoms:=(kV a.atoms b.atoms (q-1)).2 ⟨by omega,λk hk=>h k (by omega)⟩;refine⟨by omega,by omega,by omega⟩
 rw[VM,Wb];constructor
 .rintro⟨h1,h2,h3,h4,h5⟩;refine⟨⟨by omega,h1,λk hk=>?_,h3,h4,h5,hw,hh⟩,h2⟩;unfold TL;rw[List.getD_eq_getElem?_getD,List.getD_eq_getElem?_getD,h2 k hk]
 .rintro⟨h,h2⟩;exact⟨h.RD,h2,h.fl,h.hd,h.st⟩
def Dh{a b:Bk}(ha:bO a)(hb:bO b)(hw:a.w=b.w)(hh:a.h=b.h){s:Sc}(he:¬db a s)(hs:cz a b s (aW a s).1.kind):
 aW a s=aW b s/\cz b a s (aW b s).1.kind/\TL a.L' s.s.atom.toNat=TL b.L' s.s.atom.toNat\/a.atoms=[]/\b.atoms=[]/\aW a s=aW b s/\cz b a s (aW b s).1.kind:=by
 by_cases h0:(a.atoms.length:Int)=0\/(b.atoms.length:Int)=0
 .right;unfold cz at hs;rw[if_pos h0]at hs;have ea:a.atoms=[]:=List.eq_nil_of_length_eq_zero (by omega);have eb:b.atoms=[]:=List.eq_nil_of_length_eq_zero (by omega);have er:bf a s.s=bf b s.s:=by unfold bf;rw[if_pos ea,if_pos eb,hh]
  have erh:(bf b s.s).Rj=[]:=by unfold bf;rw[if_pos eb]
  have eh:∀hv,bX a s.s hv=bX b s.s hv:=λhv=>by unfold bX;rw[er,erh];rfl
  have et:dt a s=dt b s:=by unfold dt;rw[eh,er]
  have RZ:gy a s:=Decidable.byContradiction λh=>he (.inl h);have SE:s.s.atom=0:=by
   rcases RZ.2 with h|h
   .have:=h.1;rw[ea]at this;simp at this;omega
   .rw[ea]at h;simpa using h.1
  have hf:jE a s:=.inl (by rw[SE,ea];rfl);have UG:jE b s:=.inl (by rw[SE,eb];rfl);have ep:aW a s=aW b s:=by
   unfold aW;by_cases Us:s.s.free=true
   .rw[if_pos ⟨ea,Us⟩,if_pos ⟨eb,Us⟩,eh];unfold tu mn;rw[hs.2]
   .rw[if_neg λg:a.atoms=[]/\s.s.free=true=>Us g.2,if_neg λg:b.atoms=[]/\s.s.free=true=>Us g.2,if_pos hf,if_pos UG,et,er,ea,eb]
  refine⟨ea,eb,ep,?_⟩;unfold cz;rw[if_pos (.inl (by rw[eb];rfl))];exact⟨by rw[ea,eb],hs.2.symm⟩
 .left;have na:a.atoms≠[]:=λe=>h0 (.inl (by rw[e];rfl));have nb:b.atoms≠[]:=λe=>h0 (.inr (by rw[e];rfl));obtain⟨hl,UW⟩:=(lJ ha he na nb hw hh).1 hs;obtain⟨g1,g2⟩:=hl.MN ha hb he na nb;obtain⟨r1,r2,r3⟩:=ou ha he;have l1:=List.length_pos_iff.2 na;have l2:=List.length_pos_iff.2 nb;refine⟨g1,?_,hl.bk _ (by omega)⟩;unfold cz at hs|-;rw[if_neg (by omega)]at hs|-;rw[g2];obtain⟨h1,h2,h3,h4⟩:=hs;have s1:bL b.atoms a.atoms=bL a.atoms b.atoms:=by
   have key:∀{α:Type} [DecidableEq α] (l m:List α),bL l m=bL m l:=by
    intro α _ l
    induction l with
    |nil=>intro m;cases m<;>rfl
    |cons x l ih=>
     intro m;cases m with
     |nil=>rfl
     |cons y m=>
      simp only[bL,ih m];by_cases e:x=y
      .rw[if_pos e,if_pos e.symm]
      .rw[if_neg e,if_neg λg=>e g.symm]
   exact key _ _
  have s2:bL b.L' a.L'=bL a.L' b.L':=by
   have key:∀{α:Type} [DecidableEq α] (l m:List α),bL l m=bL m l:=by
    intro α _ l
    induction l with
    |nil=>intro m;cases m<;>rfl
    |cons x l ih=>
     intro m;cases m with
     |nil=>rfl
     |cons y m=>
      simp only[bL,ih m];by_cases e:x=y
      .rw[if_pos e,if_pos e.symm]
      .rw[if_neg e,if_neg λg=>e g.symm]
   exact key _ _
  rw[s1,s2];refine⟨by omega,h2,h3.symm,h4.1.symm,λn hn=>(h4.2 n (h4.1▸hn)).symm⟩
end Go.Vc
