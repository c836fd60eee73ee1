/- Part 7 of the library of this proof. -/
import Derived.Test.YtjladbkbleghlaaGreatW6
set_option linter.all false
set_option maxHeartbeats 8000000
set_option maxRecDepth 100000
namespace Go.Vc
open Go.Proofs Go.Proofs.Tryz
def U3(l:List Nd):Nat->Int->List Int
 |0,_=>[]
 |f+1,p=>if 0<=p then p::U3 l f (eT l p.toNat)else[]
def xQ{l:List Nd}{f:Nat}{p:Int}(h:p<0):U3 l f p=[]:=by
 cases f with
 |zero=>rfl
 |succ f=>rw[U3,aH (by omega)]
def tc{l:List Nd}{f:Nat}{p:Int}(h:0<=p)(hf:p<f):∃g,f=g+1/\U3 l f p=p::U3 l g (eT l p.toNat):=by
 cases f with
 |zero=>omega
 |succ f=>exact⟨f,rfl,by rw[U3,aE h]⟩
def fV(l:List Nd)(a:Nat):-1<=eT l a/\eT l a<a:=tI l a a
def ldN(U:ag)(l:List Nd):cj U false 1 (.rp (aQ l))=some (aQ l):=rfl
def fdN(l:List Nd):fG false 0 1 (.rp (.agg [aQ l]))=some (.rp (aQ l)):=rfl
def nV(l:List Int):List (List V):=l.map λp=>[vI p]
def tT(l:List Nd)(hl:ed l)(hb:Qy l=true)(a:Nat)(ha:a<l.length):Iter prog 133 [.rp (.agg [aQ l]),.rp (vI a)] (nV (U3 l (l.length+1) (eT l a))):=by
 have hhas:wb l (a:Int)=true:=AV.2 ⟨by omega,by omega⟩;have XB:=fV l a;refine⟨MS.c,λQe τ Jx Z0 hy hJ=>?_⟩;refine(MS.r (by simp[L5]) ?_).2;refine ae.mix 5 ?_;apply sR;simp only[BB,seval,<-decide_not,bx,fb,aM,dn,dk,dp,dv,dG,bO,jj,bz,eR,dr,eQ,cP,cD,bR,gW,cm,cA,cd,QS,jv,cV,bP,jX,cX,bX,cQ,cC,jf,binBV,bK,cW,V.cells,V.stays,Rd.nothing,L5,ldN,fdN];refine ae.aC rfl rfl rfl (Jk l a _) ?_;rw[hhas];apply sR;simp only[BB,seval,<-decide_not,bx,fb,aM,dn,dk,dp,dv,dG,bO,jj,bz,eR,dr,eQ,cP,cD,bR,gW,cm,cA,cd,QS,jv,cV,bP,jX,cX,bX,cQ,cC,jf,binBV,bK,cW,V.cells,V.stays,Rd.nothing,ldN,fdN];refine ae.aC rfl rfl rfl (xq l hl hb a ha _) ?_;apply sR;simp only[go_sem,seval];refine ae.loop (λm st=>∃(pre:List Int) (q:Int) (f:Nat) (ZJ:ag),m=(q+1).toNat/\-1<=q/\q<l.length/\q<f/\U3 l (l.length+1) (eT l a)=pre++U3 l f q/\τ (nV pre) ZJ/\aa ZJ st.U/\
  st.s 0=.yl Qe/\st.s 1=.rp (.agg [aQ l])/\st.s 4=vI q) (eT l a+1).toNat ?_ ?_
 .exact⟨[],eT l a,l.length+1,Z0,rfl,by omega,by omega,by omega,rfl,hJ,aa.refl _,rfl,rfl,rfl⟩
 .rintro m ⟨s,Z'⟩ ⟨pre,q,f,ZJ,rfl,hq1,hq2,hqf,Sb,hJp,G',h0,h1,h4⟩;simp only at G' h0 h1 h4;refine ae.mix 5 ?_;by_cases hq:0<=q
  .obtain⟨g,rfl,hu⟩:=tc (l:=l) hq hqf;obtain⟨k,rfl⟩:∃k:Nat,q=k:=⟨q.toNat,by omega⟩
   have UU:((k:Int)>=0)=True:=by simp
   rw[fp]at hu;have Xv:=fV l k;have Q6:k<l.length:=by omega
   have e:nV (U3 l (l.length+1) (eT l a))=nV pre++[vI k]::nV (U3 l g (eT l k)):=by rw[Sb,hu];simp[nV]
   apply sR;simp only[go_sem,seval,h0,h1,h4,UU];refine ae.mZ (Post:=λb Z2=>∃Qd,bp ZJ Z' Qd Z2/\((b=true/\τ (nV pre++[[vI k]]) Qd)\/(b=false/\Jx (nV pre++[[vI k]]) Qd))) rfl rfl rfl (hy _ [vI k] _ ZJ Z' e hJp G') ?_;rintro b Z2 ⟨Qd,QV,QH⟩;rcases QH with⟨rfl,QH⟩|⟨rfl,QH⟩
   .apply sR;simp only[BB,seval,<-decide_not,bx,fb,aM,dn,dk,dp,dv,dG,bO,jj,bz,eR,dr,eQ,cP,cD,bR,gW,cm,cA,cd,QS,jv,cV,bP,jX,cX,bX,cQ,cC,jf,binBV,bK,cW,V.cells,V.stays,Rd.nothing,h0,h1,h4,ldN,fdN];refine ae.aC rfl rfl rfl (xq l hl hb k Q6 _) ?_;apply sR;simp only[go_sem,seval,h0,h1];refine⟨_,?_,pre++[(k:Int)],eT l k,g,Qd,rfl,by omega,by omega,by omega,by rw[Sb,hu];simp,?_,QV.1,by simp[h0,h1]⟩
    .omega
    .simpa[nV]using QH
   .apply sR;simp only[go_sem,seval,h0,h1,h4];refine⟨_,Qd,QV.1,Wk.refl QV.1 _,.inr ⟨nV pre++[[vI k]],?_,QH⟩⟩;rw[e];exact⟨nV (U3 l g (eT l k)),by simp⟩
  .have UU:(q>=0)=False:=by simp;omega
   apply sR;simp only[go_sem,seval,h0,h1,h4,UU];rw[xQ (l:=l) (f:=f) (p:=q) (by omega),kL]at Sb;exact⟨_,ZJ,G',Wk.refl G' _,.inl (by rw[Sb];exact hJp)⟩
def zR(l:List Nd)(a:Int):bb prog 111 [.agg [aQ l],vI a] (.fn 133 [.rp (.agg [aQ l]),.rp (vI a)]):=λU=>by
 refine Pg.r (by simp[LP]) ?_;refine ae.mix 4 ?_;have q1:(V.agg [aQ l]).cells.length=1:=rfl;have q2:(V.agg [aQ l]).stays=true:=rfl;generalize V.agg [aQ l]=x at*;apply sR;simp only[go_sem,seval,LP,q1,q2];refine ad λTi Z1 s1 a1 f1=>?_;simp only[go_sem,seval];refine ad λU0 Z2 s2 a2 f2=>?_;simp only[go_sem,seval];exact⟨_,U,s1.trans s2,Wk.fn (vs':=[.rp x,.rp (vI a)]) ⟨Wk.ptr (s1.trans s2) (s2 _ _ a1) f1,Wk.ptr (s1.trans s2) a2 (s1.none f2),trivial⟩,rfl,rfl⟩
def Bh(l:List Nd)(hl:ed l)(hb:Qy l=true)(a:Nat)(ha:a<l.length):bb prog 173 [aQ l,vI a] (vI (eT l a)):=λU=>by
 refine OW.r (by simp[Mn]) ?_;refine ae.mix 5 ?_;have Va:=tT l hl hb a ha;have XB:=fV l a;apply sR;simp only[go_sem,seval,Mn];refine ad λTH Z1 s1 a4 f4=>?_;simp only[go_sem,seval];refine ae.aC rfl rfl rfl (BL l hl hb _) ?_;apply sR;simp only[go_sem,seval];refine ae.aC rfl rfl rfl (zR l a _) ?_;apply sR;simp only[go_sem,seval];generalize hS:mix 5 _ _=S;have S4:S 4=.ptr TH 0 0:=by rw[<-hS];rfl
 have S9:S 9=.fn 133 [.rp (.agg [aQ l]),.rp (vI a)]:=by rw[<-hS];rfl
 clear hS;have hx0:∀x pre post,nV (U3 l (l.length+1) (eT l a))=pre++x::post->pre=[]->x=[vI (eT l a)]:=λx pre post h hp=>by
  subst hp;by_cases h0:0<=eT l a
  .obtain⟨g,_,hu⟩:=tc (l:=l) (f:=l.length+1) h0 (by omega);rw[hu]at h;simp only[nV,eD,mo,List.cons.injEq]at h;exact h.1.symm
  .rw[xQ (by omega)]at h;simp[nV]at h
 refine ae.fk (g:=.t 9) (caps:=[.rp (.agg [aQ l]),.rp (vI a)]) S9 Va (λx hx=>?_) [] (λpre ZJ=>pre=[]/\ZJ=Z1) (λc pre ZJ=>c=none/\ZJ=C' Z1 TH ⟨3,1,[vI (eT l a)]⟩) ?_ ?_ ?_ ?_ ?_
 .simp only[nV,fM]at hx;obtain⟨t,_,rfl⟩:=hx;rfl
 .exact⟨rfl,rfl⟩
 .rintro pre x post ZJ ZB Sb ⟨rfl,rfl⟩ G';obtain rfl:=hx0 x [] post Sb rfl;have b4:=G' _ _ a4;generalize RI:mI S [10] [vI (eT l a)]=S0;have T4:S0 4=.ptr TH 0 0:=by rw[<-RI];exact S4
  have VH:S0 10=vI (eT l a):=by rw[<-RI];rfl
  clear RI;refine ae.mix 11 ?_;apply sR;simp only[go_sem,seval,T4,VH,b4];refine ae.mix 11 ?_;apply sR;simp only[go_sem,seval,T4,b4];exact⟨_,(bp.refl G').set (o:=⟨3,1,[vI 0]⟩) a4,rfl⟩
 .rintro Z' ⟨hn,rfl⟩;have hpm:eT l a=-1:=by
   by_cases h0:0<=eT l a
   .obtain⟨g,_,hu⟩:=tc (l:=l) (f:=l.length+1) h0 (by omega);rw[hu]at hn;simp[nV]at hn
   .omega
  refine ae.mix 5 ?_;apply sR;simp only[go_sem,seval,S4,a4];rw[hpm];exact av.pure (s1.aD f4) rfl
 .intro id h;cases h
 .rintro pre Z' _ ⟨_,rfl⟩;refine ae.mix 5 ?_;apply sR;simp only[go_sem,seval,S4,af];exact av.pure (s1.aD f4) rfl
open Go.Proofs Go.Proofs.Tryz
def l9{l:List Nd}{a b:Int}:iL l a b=true↔0<=a/\b<l.length/\a<=b/\b<a+Qn l a.toNat:=by
 simp only[iL,Ba,AV,Sp];constructor
 .rintro⟨h1,h2,h3,h4⟩;omega
 .rintro⟨h1,h2,h3,h4⟩;omega
def xc(l:List Nd)(b:Nat):∀k,(sZ l b k=-1/\∀i:Nat,i<k->iL l i b=false)\/∃q:Nat,sZ l b k=q/\q<k/\iL l q b=true/\∀i:Nat,q<i->i<k->iL l i b=false
 |0=>.inl ⟨rfl,λi h=>by omega⟩
 |k+1=>by
  rw[sZ];cases hk:iL l k b
  .simp only[jz,↓reduceIte];rcases xc l b k with⟨h1,h2⟩|⟨q,h1,h2,h3,h4⟩
   .refine .inl ⟨h1,λi hi=>?_⟩;by_cases e:i=k
    .rw[e];exact hk
    .exact h2 i (by omega)
   .refine .inr ⟨q,h1,by omega,h3,λi hi Q8=>?_⟩;by_cases e:i=k
    .rw[e];exact hk
    .exact h4 i hi (by omega)
  .simp only[↓reduceIte];exact .inr ⟨k,rfl,by omega,hk,λi hi Q8=>by omega⟩
def nest{l:List Nd}(hb:Qy l=true){x q:Nat}(hx:x<l.length)(h1:x<=q)(h2:(q:Int)<x+Qn l x)(hq:q<l.length):(q:Int)+Qn l q<=x+Qn l x:=by
 by_cases e:x=q
 .subst e;omega
 .have Qu:cJ l 0 l.length=true:=by simp only[Qy,Ba]at hb;exact hb.2
  obtain⟨z1,z2⟩:=rz hb hx;obtain⟨z3,_⟩:=dB (Qt _) Qu (Nat.zero_le x) hx;have Vx:=nj l (l.length+1) 0 l.length (by omega) (Qt _) Qu x (by omega) hx hx;rw[<-mu hx]at Vx;have:=(dB (e:=x+(Qn l x).toNat) (by omega) Vx (k:=q) (by omega) (by omega)).1;omega
def Et(l:List Nd):∀(f:Nat) (p x:Int),x∈U3 l f p->0<=x/\x<=p
 |0,_,_,h=>by simp[U3]at h
 |f+1,p,x,h=>by
  rw[U3]at h;split at h
  .rcases dc.1 h with rfl|h
   .omega
   .have:=Et l f _ x h;have:=fV l p.toNat;omega
  .simp at h
def pK{l:List Nd}{a b:Nat}:∀k:Nat,(∀i:Nat,i<k->iL l i a=iL l i b)->ig l a k=ig l b k
 |0,_=>rfl
 |k+1,h=>by
  rw[ig,ig,h k (by omega),pK k λi hi=>h i (by omega)]
def nh{l:List Nd}{a q:Nat}:∀k:Nat,q<=k->(∀i:Nat,q<=i->i<k->iL l i a=false)->ig l a k=ig l a q
 |0,h,_=>by rw[Nat.le_zero.1 h]
 |k+1,h,hh=>by
  by_cases e:q=k+1
  .rw[e]
  .rw[ig,hh k (by omega) (by omega),aH (by simp)];exact nh k (by omega) λi h1 h2=>hh i h1 (by omega)
def wZ{l:List Nd}(hb:Qy l=true):∀(f a:Nat),a<l.length->eT l a<f->U3 l f (eT l a)=ig l a a
 |f,a,ha,hf=>by
  rcases xc l a a with⟨h1,h2⟩|⟨q,h1,h2,h3,h4⟩
  .have e:eT l a=-1:=h1;rw[e,xQ (by omega),nh (q:=0) a (by omega) λi _ hi=>h2 i hi];rfl
  .have e:eT l a=q:=h1;rw[e]at hf|-;obtain⟨g,rfl,hu⟩:=tc (l:=l) (f:=f) (p:=q) (by omega) hf;rw[hu,fp];have hpq:=fV l q;rw[wZ hb g q (by omega) (by omega),nh (q:=q+1) a (by omega) λi i1 i2=>h4 i (by omega) i2,ig,h3,aE rfl];congr 1;refine pK q λi hi=>?_;rw[Bool.eq_iff_iff,l9,l9];rw[l9]at h3;simp only[fp]at h3|-;constructor
   .rintro⟨_,_,_,g4⟩;have:=nest hb (x:=i) (q:=q) (by omega) (by omega) g4 (by omega);omega
   .rintro⟨_,_,_,_⟩;omega
open Go.Proofs Go.Proofs.Tryz
def bp.D1{ZJ U Qd Z':ag}(h:bp ZJ U Qd Z'){e:Option Nat}(he:∀i,e=some i->∃o,Qd i=some o):bp ZJ U (Vc.bI Qd e) (Vc.bI Z' e):=by
 cases e with
 |none=>exact h
 |some e=>
  refine⟨Cj h.1,λi o h1 h2=>?_⟩;obtain⟨h3,h4⟩:=h.2 i o h1 h2;have:i≠e:=λe'=>by subst e';obtain⟨o',ho'⟩:=he i rfl;rw[h4]at ho';cases ho'
  simp only[Vc.bI,dN this];exact⟨h3,h4⟩
def aU.Ef{K ZJ Z1:ag}{e sz:Nat}{v:V}{rows:List V}(h:aU K ZJ e sz v rows)(hs:aa ZJ Z1):
 ∃PU,cZ Z1 e sz v=some (rows,PU)/\∀i,PU=some i->K i=none/\∃o,ZJ i=some o:=by
 rcases h with⟨rfl,rfl⟩|⟨id,rfl,ho,hk⟩
 .exact⟨none,rfl,λ_ h=>by cases h⟩
 .refine⟨some id,?_,λi h=>by cases h;exact⟨hk,_,ho⟩⟩;simp only[cZ,hs _ _ ho];rw[aE ⟨trivial,trivial,trivial,Qt _⟩,jK]
def bo(U:ag)(id:Nat):ag:=λi=>if i=id then some ⟨0,0,[]⟩else U i
def aL{U:ag}{id i:Nat}:bo U id i=none↔i≠id/\U i=none:=by
 unfold bo;split
 .rename_i h;simp[h]
 .rename_i h;simp[h]
def pn{α:Type}{f:α->V}{xs:List α}{pre post:List (List V)}{x:List V}(h:(xs.map λa=>[f a])=pre++x::post):∃a,xs[pre.length]?=some a/\x=[f a]:=by
 have:=congrArg (·[pre.length]?) h;simp only[ph,HX (Qt _),Nat.sub_self,HL,Zq8]at this;obtain⟨t,h1,h2⟩:=this;exact⟨t,h1,h2.symm⟩
def zF{g:FuncId}{caps:List V}{xs:List Int}(Va:Iter prog g caps (xs.map λn=>[vI n]))(hx:xs.length<=1000000)(U:ag):
 aB prog 132 [.aT,.fn g caps] U λr Z'=>aa U Z'/\aU U Z' 3 1 r (xs.map vI):=by
 refine Oo.r (by simp[Kg]) ?_;refine ae.mix 8 ?_;apply sR;simp only[go_sem,seval,Kg];refine ad λU0 Z2 s2 a2 f2=>?_;simp only[go_sem,seval];generalize hS:mix 8 _ _=S;have S2:S 2=.ptr U0 0 0:=by rw[<-hS];rfl
 have S6:S 6=.fn g caps:=by rw[<-hS];rfl
 clear hS;refine ae.fk (g:=.t 6) (caps:=caps) S6 Va (λx hx=>?_) [] (λpre ZJ=>∃v,ZJ U0=some ⟨23,1,[v]⟩/\aa U ZJ/\aU (bo U U0) ZJ 3 1 v ((xs.take pre.length).map vI))
  (λ_ _ _=>False) ?_ ?_ ?_ ?_ ?_
 .obtain⟨t,_,rfl⟩:=fM.1 hx;rfl
 .exact⟨.aT,a2,s2,by simpa using aU.start⟩
 .rintro pre x post ZJ ZB Sb ⟨v,J2,Js,Jo⟩ G';obtain⟨t,X7,rfl⟩:=pn (f:=vI) Sb;have QF:xs.take (pre.length+1)=xs.take pre.length++[t]:=by rw[Ib,X7];rfl
  have hlen:(pre++[[vI t]]).length=pre.length+1:=by simp
  rw[hlen,QF];have Q6:((xs.take pre.length).map vI).length<=1000001:=by simp;omega
  have Tv:v.cells=[v]:=by rcases Jo with⟨rfl,_⟩|⟨_,rfl,_⟩<;>rfl
  generalize Qu:((xs.take pre.length).map vI)=rows at*;have b2:=G' _ _ J2;generalize RI:mI S [7] [vI t]=S0;have T2:S0 2=.ptr U0 0 0:=by rw[<-RI];exact S2
  have T7:S0 7=vI t:=by rw[<-RI];rfl
  refine ae.mix 8 ?_;apply sR;simp only[go_sem,seval,T2,T7];apply sR;simp only[go_sem,seval,T2,T7,b2,Tv];rw[aN];intro Tw f28;have TN:=(bp.refl G').qJ (o:=⟨3,1,[vI t]⟩) f28;have y2:C' ZB Tw ⟨3,1,[vI t]⟩ U0=some ⟨23,1,[v]⟩:=by rw[ab (al b2 f28)];exact b2
  have a28:C' ZB Tw ⟨3,1,[vI t]⟩ Tw=some ⟨3,1,[vI t]⟩:=af;generalize C' ZB Tw ⟨3,1,[vI t]⟩=Z8 at*;obtain⟨PU,QW,Ts⟩:=Jo.Ef TN.1;have QD:(rows.length+1)*9<=140737488355328:=by omega
  have k2:bo U U0 U0≠none:=λh=>(aL.1 h).1 rfl;have Tb:∀(i:Nat) (Zx:ag),bo U U0 i≠none->Vc.bI Zx PU i=Zx i:=λi Zx hk=>by
   cases PU with
   |none=>rfl
   |some a=>exact dN (λe=>hk (by rw[e];exact(Ts a rfl).1))
  simp only[go_sem,seval,QW,dj a28,QD,T2];rw[aN];intro RJ f29;have f29:Z8 RJ=none:=f29;have XD:U0≠RJ:=al y2 f29;have Ze:Vc.bI Z8 PU RJ=none:=by
   cases PU with
   |none=>exact f29
   |some a=>simp only[Vc.bI,del];split<;>first|rfl|exact f29
  have y2':C' (Vc.bI Z8 PU) RJ ⟨3,1,rows++[vI t]⟩ U0=some ⟨23,1,[v]⟩:=by rw[ab XD,Tb _ _ k2];exact y2
  have hB9:=((TN.D1 (e:=PU) λi h=>(Ts i h).2).new (o:=⟨3,1,rows++[vI t]⟩) Ze).set (id:=U0) (o:=⟨23,1,[v]⟩) (o':=⟨23,1,[.own RJ 0 (rows.length+1)]⟩) (by rw[ab XD,Tb _ _ k2];exact J2);simp only[go_sem,seval,Tv,y2',T2];refine⟨_,hB9,.own RJ 0 (rows.length+1),af,?_,?_⟩
  .refine aa.aD (λi o h=>?_) f2;have h1:=Js _ _ h;rw[ab (al (TN.1 _ _ h1) f29),Tb _ _ (λhk=>by rw[(aL.1 hk).2]at h;cases h)];exact h1
  .rw[fC,Qu];refine aU.new (by simp) (by rw[ab XD.symm,af];rfl) ?_;rw[aL];refine⟨XD.symm,?_⟩;cases h:U RJ with
   |none=>rfl
   |some o=>rw[TN.1 _ _ (Js _ _ h)]at f29;cases f29
 .rintro Z' ⟨v,J2,Js,Jo⟩;rw[du,jK]at Jo;have Tv:v.cells=[v]:=by rcases Jo with⟨rfl,_⟩|⟨_,rfl,_⟩<;>rfl
  refine ae.mix 5 ?_;apply sR;simp only[go_sem,seval,S2,J2,Tv];refine⟨_,_,aa.refl _,Wk.refl (aa.refl _) _,Js,?_⟩;rcases Jo with h|⟨id,h1,h2,h3⟩
  .exact .inl h
  .exact .inr ⟨id,h1,h2,(aL.1 h3).2⟩
 .intro id h;cases h
 .rintro pre Z' _ ⟨⟩
def wP{g:FuncId}{caps:List V}{xs:List Int}(Va:Iter prog g caps (xs.map λn=>[vI n]))(hx:xs.length<=1000000):
 bb prog 109 [.fn g caps] (bD xs):=λU=>by
 refine OG.r (by simp[KO]) ?_;refine ae.mix 3 ?_;apply sR;simp only[go_sem,seval,KO];refine ae.call rfl rfl rfl (zF Va hx U) ?_;rintro r Z1 ⟨h1,h2⟩;apply sR;simp only[go_sem,seval];exact h2.Bl h1 rfl
def TU(l:List Nd)(a:Nat):List Int:=U3 l (l.length+1) (eT l a)
def jD(l:List Nd):∀(f:Nat) (p:Int),(U3 l f p).length<=f
 |0,_=>by simp[U3]
 |f+1,p=>by
  rw[U3];split
  .have:=jD l f (eT l p.toNat);simp only[Q4];omega
  .simp
def KF{l:List Nd}(hb:Qy l=true){a:Nat}(ha:a<l.length):TU l a=ig l a a:=wZ hb _ _ ha (by have:=fV l a;omega)
def A6(l:List Nd)(hl:ed l)(hb:Qy l=true)(hn:l.length<=100000)(a:Nat)(ha:a<l.length):bb prog 73 [aQ l,vI a] (bD (TU l a)):=λU=>by
 refine e73.r (by simp[c73]) ?_;refine ae.mix 5 ?_;apply sR;simp only[go_sem,seval,c73];refine ae.aC rfl rfl rfl (BL l hl hb _) ?_;apply sR;simp only[go_sem,seval];refine ae.aC rfl rfl rfl (zR l a _) ?_;apply sR;simp only[go_sem,seval];refine ae.aC rfl rfl rfl (wP (tT l hl hb a ha) (by have:=jD l (l.length+1) (eT l a);omega) _) ?_;apply sR;simp only[go_sem,seval];exact av.same rfl
structure ZY(s:Ru):Prop where
 top:0<=s.top/\s.top<=1099511627776
 P8:0<=s.P8/\s.P8<=1099511627776
 PS:0<=s.PS/\s.PS<=1099511627776
 PG:0<=s.PG/\s.PG<=1099511627776
 QE:0<=s.QE/\s.QE<=1099511627776
 Qk:0<=s.Qk/\s.Qk<=1099511627776
 Qw:0<=s.Qw/\s.Qw<=1099511627776
 head:0<=s.head/\s.head<=1099511627776
 before:0<=s.before/\s.before<=4
 after:0<=s.after/\s.after<=4
 inside:0<=s.inside/\s.inside<=1
 clear:0<=s.clear/\s.clear<=3
structure XE(x:Nd):Prop where
 st:ZY x.st
 kind:x.kind=1\/x.kind=2\/x.kind=3\/x.kind=4
 line:0<=x.line/\x.line<=1099511627776
 space:0<=x.space/\x.space<=1099511627776
 words:∀w∈x.words,1<=w/\w<=1099511627776
 w:0<=x.w/\x.w<=1099511627776
 h:0<=x.h/\x.h<=1099511627776
 side:0<=x.side/\x.side<=2
 text:x.kind=2->0<x.words.length/\1<=x.line
 box:x.kind=3\/x.kind=4->1<=x.w/\1<=x.h
 fl:x.kind=4->1<=x.side
 lB:x.kind≠1->x.st=Ru.zero
 XF:x.kind≠2->x.words=[]
def o6{n a b:Int}:br n a b=true↔a<=n/\n<=b:=by simp[br]
def EY:ZY Ru.zero:=by constructor<;>simp[Ru.zero]
def Jh{s:Ru}(h:s.ok=true):ZY s:=by
 simp only[Ru.ok,Ba,o6,mx]at h;constructor<;>omega
def Ld{x:Nd}(h:x.ok=true):XE x:=by
 unfold Nd.ok at h;split at h
 .rename_i hk;simp only[Ba,Sp]at h;obtain⟨⟨⟨⟨⟨⟨h1,h2⟩,h3⟩,h4⟩,h5⟩,h6⟩,h7⟩:=h;have hw:x.words=[]:=qK h4;exact⟨Jh h1,.inl hk,by omega,by omega,by rw[hw];simp,by omega,by omega,by omega,by omega,by omega,by omega,by omega,λ_=>hw⟩
 .rename_i hk;split at h
  .cases h
  .rename_i Qi;have hs:x.st=Ru.zero:=Classical.byContradiction Qi;have hso:ZY x.st:=by rw[hs];exact EY
   split at h
   .rename_i SF;simp only[Ba,Sp,o6,mx,fv]at h;obtain⟨⟨⟨⟨⟨⟨h1,h2⟩,h3⟩,h4⟩,h5⟩,h6⟩,h7⟩:=h;exact⟨hso,.inr (.inl SF),by omega,by omega,h1,by omega,by omega,by omega,λ_=>⟨h2,h3.1⟩,by omega,by omega,λ_=>hs,by omega⟩
   .rename_i SF;simp only[Ba,kJ,Sp,o6,mx]at h;obtain⟨⟨⟨⟨⟨h1,h2⟩,h3⟩,h4⟩,h5⟩,h6⟩:=h;have hw:x.words=[]:=qK h3;exact⟨hso,by omega,by omega,by omega,by rw[hw];simp,by omega,by omega,by omega,by omega,by omega,by omega,λ_=>hs,λ_=>hw⟩
def gO{l:List Nd}(hb:Qy l=true){a:Nat}(h:a<l.length):XE l[a]:=by
 simp only[Qy,Ba,fv]at hb;exact Ld (hb.1 _ (QL h))
open Go.Proofs Go.Proofs.Tryz
structure Rm where
 (x w:Int)
deriving DecidableEq
def kU(r:Rm):V:=.agg [vI r.x,vI r.w]
def cT(l:List Rm):V:=.sl 2 (l.map kU)
def Fp(l:List Nd)(a:Nat):Int:=((l[a]?).map λn=>n.st.QE).getD 0
def oM(r:Rm)(i:Int):Rm:=⟨min (r.x+i) 1099511627776,max (r.w-2*i) 1⟩
def dt(l:List Nd):Nat->Nat->Nat->Rm->List Rm
 |0,_,_,_=>[]
 |k+1,a,e,r=>if a<e then r::(dt l k (a+1) (a+(Qn l a).toNat) (oM r (Fp l a))++dt l k (a+(Qn l a).toNat) e r)else[]
def mj{l:List Nd}{e:Nat}(he:e<=l.length):∀(k a:Nat) (r:Rm),e-a<=k->a<=e->cJ l a e=true->(dt l k a e r).length=e-a
 |0,a,r,hk,ha,_=>by simp[dt];omega
 |k+1,a,r,hk,ha,hr=>by
  rw[dt];split
  .rename_i H';obtain⟨h1,h2⟩:=dB he hr (Qt a) H';obtain⟨h3,h4⟩:=er he hr H';have ih:=mj he k (a+(Qn l a).toNat) r (by omega) (by omega) h3;have ih2:=mj (e:=a+(Qn l a).toNat) (by omega) k (a+1) (oM r (Fp l a)) (by omega) (by omega) h4;simp only[Q4,gY];omega
  .simp;omega
def kZ{l:List Nd}{e:Nat}(he:e<=l.length):∀(k j a:Nat) (r:Rm),e-a<=k->e-a<=j->cJ l a e=true->dt l k a e r=dt l j a e r
 |0,0,_,_,_,_,_=>rfl
 |0,j+1,a,r,h,_,_=>by rw[dt,dt,aH (by omega)]
 |k+1,0,a,r,_,h,_=>by rw[dt,dt,aH (by omega)]
 |k+1,j+1,a,r,h,h',hr=>by
  rw[dt,dt];split
  .rename_i H';obtain⟨h1,h2⟩:=dB he hr (Qt a) H';obtain⟨h3,h4⟩:=er he hr H';rw[kZ he k j _ _ (by omega) (by omega) h3,kZ (e:=a+(Qn l a).toNat) (by omega) k j _ _ (by omega) (by omega) h4]
  .rfl
def ee{U:ag}{l:List Nd}{a:Nat}(h:a<l.length):bS U 20 (aQ l) (.int .i64 a)=some (.rp (.agg (Nd.cells l[a]))):=by
 simp[aQ,bS,h,ji]
def n7(U:ag)(a b c:Nat):ag:=λi=>if i=a\/i=b\/i=c then some ⟨0,0,[]⟩else U i
def gj{U:ag}{a b c i:Nat}:n7 U a b c i=none↔i≠a/\i≠b/\i≠c/\U i=none:=by
 unfold n7;split
 .rename_i h;simp;intro h1 h2 h3;simp_all
 .rename_i h;simp only[not_or]at h;simp[h]
structure RmJ(l:List Nd)(Z0:ag)(il io ip:Nat)(rows:List V)(U:ag):Prop where
 rl:U il=some ⟨22,1,[aQ l]⟩
 rp:U ip=some ⟨216,1,[.fn 116 [.ptr il 0 0,.ptr io 0 0,.ptr ip 0 0]]⟩
 sub:aa Z0 U
 no:Z0 io=none
 out:∃v,U io=some ⟨177,1,[v]⟩/\aU (n7 Z0 il io ip) U 218 2 v rows
def AY(r:Rm):(kU r).cells=[vI r.x,vI r.w]:=rfl
def Aa(r:Rm):(kU r).stays=true:=rfl
def Rm.ok(r:Rm):Prop:=0<=r.x/\r.x<=1099511627776/\1<=r.w/\r.w<=1099511627776
def wX{r:Rm}(h:r.ok){i:Int}(h0:0<=i):(oM r i).ok:=by
 obtain⟨a,b,c,d⟩:=h;unfold oM Rm.ok;simp only;omega
def Ev{l:List Nd}(hb:Qy l=true){a:Nat}(h:a<l.length):Fp l a=l[a].st.QE/\0<=l[a].st.QE/\l[a].st.QE<=1099511627776:=by
 refine⟨by simp[Fp,h],?_⟩;exact(gO hb h).st.QE
def Gq(l:List Nd)(hl:ed l)(hb:Qy l=true)(il io ip:Nat)(nlo:il≠io)(nlp:il≠ip)(nop:io≠ip):∀(m a e:Nat) (r:Rm) (rows:List V) (Z0 U:ag),e-a<m->a<=e->e<=l.length->cJ l a e=true->r.ok->
 rows.length+(e-a)<=l.length->RmJ l Z0 il io ip rows U->
 aB prog 116 [vI a,vI e,kU r,.ptr il 0 0,.ptr io 0 0,.ptr ip 0 0] U λq Z'=>q=.PN []/\RmJ l Z0 il io ip (rows++(dt l (e-a) a e r).map kU) Z':=by
 intro m
 induction m with
 |zero=>intro a e r rows Z0 U h;omega
 |succ m ih=>?_
 intro a e r rows ZB U hm Vz he hrB hr hlen hJB;have hl1:=hl.1;refine Oa.r (by simp[Lr]) ?_;refine ae.mix 11 ?_;apply sR;simp only[go_sem,seval,Lr,AY,Aa];refine ad λi8 Z8 s8 a8 f8=>?_;simp only[go_sem,seval];have no8:io≠i8:=by obtain⟨v,vo,_⟩:=hJB.out;exact al vo f8
 have fB8:ZB i8=none:=hJB.sub.none f8;obtain⟨Z0,Zf⟩:∃s,s=C' ZB i8 ⟨218,2,[kU r]⟩:=⟨_,rfl⟩
 have hk8:∀i,n7 Z0 il io ip i=none↔i≠i8/\n7 ZB il io ip i=none:=λi=>by
  rw[gj,gj,Zf];by_cases h:i=i8
  .subst h;simp[af]
  .rw[ab h];simp[h]
 have Rg:RmJ l Z0 il io ip rows Z8:=by
  refine⟨s8 _ _ hJB.rl,s8 _ _ hJB.rp,?_,by rw[Zf,ab no8];exact hJB.no,?_⟩
  .intro i o h;rw[Zf]at h;by_cases hi:i=i8
   .subst hi;rw[af]at h;rw[a8];exact h
   .rw[ab hi]at h;exact s8 _ _ (hJB.sub _ _ h)
  .obtain⟨v,vo,R6⟩:=hJB.out;refine⟨v,s8 _ _ vo,?_⟩;rcases R6 with h|⟨id,h1,h2,h3⟩
   .exact .inl h
   .exact .inr ⟨id,h1,s8 _ _ h2,(hk8 id).2 ⟨al h2 f8,h3⟩⟩
 have hback:∀(rows:List V) (J:ag),RmJ l Z0 il io ip rows J->RmJ l ZB il io ip rows J:=λrows J h=>by
  refine⟨h.rl,h.rp,λi o hi=>h.sub _ _ (by rw[Zf,ab (λe=>by rw[e,fB8]at hi;cases hi)];exact hi),by have:=h.no;rw[Zf,ab no8]at this;exact this,?_⟩;obtain⟨v,vo,R6⟩:=h.out;refine⟨v,vo,?_⟩;rcases R6 with h|⟨id,h1,h2,h3⟩
  .exact .inl h
  .exact .inr ⟨id,h1,h2,((hk8 id).1 h3).2⟩
 have h08:Z0 i8=some ⟨218,2,[kU r]⟩:=by rw[Zf];exact af
 clear Zf;refine ae.loop (λq st=>∃(b:Nat) (done:List V),q=e-b/\a<=b/\b<=e/\cJ l b e=true/\done.length+(e-b)<=l.length/\rows++(dt l (e-a) a e r).map kU=done++(dt l (e-b) b e r).map kU/\RmJ l Z0 il io ip done st.U/\
  st.s 1=vI e/\st.s 3=.ptr il 0 0/\st.s 4=.ptr io 0 0/\st.s 5=.ptr ip 0 0/\st.s 8=.ptr i8 0 0/\st.s 9=vI b) (e-a) ?_ ?_
 .exact⟨a,rows,rfl,Qt _,Vz,hrB,hlen,rfl,Rg,rfl,rfl,rfl,rfl,rfl,rfl⟩
 .rintro q ⟨S,J⟩ ⟨b,done,rfl,UY,Xy,hbB,hdl,WY,hJ,t1,t3,t4,t5,t8,t9⟩;simp only at hJ t1 t3 t4 t5 t8 t9;refine ae.mix 11 ?_;by_cases H':b<e
  .have q1:((b:Int)<(e:Int))=True:=PK;obtain⟨h1,h2⟩:=dB he hbB (Qt b) H';obtain⟨h3,h4⟩:=er he hbB H';have QX:b<l.length:=by omega
   obtain⟨g1,g2,g3⟩:=Ev hb QX;have RS:=mu QX;obtain⟨v,vo,R6⟩:=hJ.out;have Tv:v.cells=[v]:=by rcases R6 with⟨rfl,_⟩|⟨_,rfl,_⟩<;>rfl
   have r8:=hJ.sub _ _ h08;have r8':=r8;rw[kU]at r8';apply sR;simp only[go_sem,seval,q1,t1,t3,t4,t5,t8,t9,r8',vo,Tv];refine ad λi24 Z24 s24 a24 f24=>?_;obtain⟨PU,QW,Ts⟩:=R6.Ef s24;have QD:(done.length+1)*17<=140737488355328:=by omega
   simp only[go_sem,seval,t1,t3,t4,t5,t8,t9,QW,dj a24,QD];rw[aN];intro ZZ f25;have f25:Z24 ZZ=none:=f25;have Tb:∀(i:Nat) (Zx:ag),n7 Z0 il io ip i≠none->Vc.bI Zx PU i=Zx i:=λi Zx hk=>by
    cases PU with
    |none=>rfl
    |some a=>exact dN (λe=>hk (by rw[e];exact(Ts a rfl).1))
   have kl:n7 Z0 il io ip il≠none:=λh=>(gj.1 h).1 rfl;have ko:n7 Z0 il io ip io≠none:=λh=>(gj.1 h).2.1 rfl;have kp:n7 Z0 il io ip ip≠none:=λh=>(gj.1 h).2.2.1 rfl;have ol:=s24 _ _ hJ.rl;have oo:=s24 _ _ vo;have op:=s24 _ _ hJ.rp;have o8:=s24 _ _ r8;have nl:=al ol f25;have no:=al oo f25;have np:=al op f25;have n8:=al o8 f25;have k8:n7 Z0 il io ip i8≠none:=λh=>((hk8 i8).1 h).1 rfl;have Zg:aa Z0 (C' (Vc.bI Z24 PU) ZZ ⟨218,2,done++[.agg [vI r.x,vI r.w]]⟩):=λi o h=>by
    have h1:=s24 _ _ (hJ.sub _ _ h);rw[ab (al h1 f25),Tb _ _ (λhk=>by rw[(gj.1 hk).2.2.2]at h;cases h)];exact h1
   have pl:(C' (Vc.bI Z24 PU) ZZ ⟨218,2,done++[.agg [vI r.x,vI r.w]]⟩) il=some ⟨22,1,[aQ l]⟩:=by rw[ab nl,Tb _ _ kl];exact ol
   have po:(C' (Vc.bI Z24 PU) ZZ ⟨218,2,done++[.agg [vI r.x,vI r.w]]⟩) io=some ⟨177,1,[v]⟩:=by rw[ab no,Tb _ _ ko];exact oo
   have pp:(C' (Vc.bI Z24 PU) ZZ ⟨218,2,done++[.agg [vI r.x,vI r.w]]⟩) ip=some ⟨216,1,[.fn 116 [.ptr il 0 0,.ptr io 0 0,.ptr ip 0 0]]⟩:=by rw[ab np,Tb _ _ kp];exact op
   have p25:(C' (Vc.bI Z24 PU) ZZ ⟨218,2,done++[.agg [vI r.x,vI r.w]]⟩) ZZ=some ⟨218,2,done++[.agg [vI r.x,vI r.w]]⟩:=af;have f0:Z0 ZZ=none:=(hJ.sub.trans s24).none f25;have O':=λU=>ee (U:=U) QX;have q2:((b:Int)+1)=((b+1:Nat):Int):=by omega
   have q3:((b:Int)+l[b].size)=((b+(Qn l b).toNat:Nat):Int):=by rw[RS];omega
   obtain⟨rx0,rx1,rw0,rw1⟩:=id hr;have r1:PY .i64 ((b:Int)+1):=ar;have r2:PY .i64 ((b:Int)+l[b].size):=ar;have r3:PY .i64 (r.x+l[b].st.QE):=ar;have r4:PY .i64 (2*l[b].st.QE):=ar;have r5:PY .i64 (r.w-2*l[b].st.QE):=ar;generalize C' (Vc.bI Z24 PU) ZZ ⟨218,2,done++[.agg [vI r.x,vI r.w]]⟩=Z25 at*;have p8:=Zg _ _ h08;rw[kU]at p8;simp only[go_sem,seval,t1,t3,t4,t5,t8,t9,pl,po,pp,p8,Tv,ai,aJ,ab no8.symm,ab nlo,ab nlp.symm,ab nop.symm,ab nop,O',Nd.cells,r1,r2,r3,r4,r5,dy,fo];have QZ:RmJ l Z0 il io ip (done++[.agg [vI r.x,vI r.w]]) (C' Z25 io ⟨177,1,[.own ZZ 0 (done.length+1)]⟩):=by
    refine⟨by rw[ab nlo];exact pl,by rw[ab nop.symm];exact pp,Zg.aD hJ.no,hJ.no,_,af,aU.new (by simp) (by rw[ab no.symm];exact p25) (gj.2 ⟨nl.symm,no.symm,np.symm,f0⟩)⟩
   have hc:=ih (b+1) (b+(Qn l b).toNat) (oM r l[b].st.QE) (done++[.agg [vI r.x,vI r.w]]) Z0 _ (by omega) (by omega) (by omega) h4 (wX hr g2) (by simp only[gY,Q4,List.length_nil];omega) QZ;rw[<-q2,<-q3]at hc;refine ae.call rfl rfl rfl hc ?_;rintro q' Z' ⟨rfl,RK⟩;have cl:=RK.rl;apply sR;simp only[go_sem,seval,t1,t3,t4,t5,t8,t9,cl,ai,aJ,O',Nd.cells,r2];have hk:dt l (e-b) b e r=r::(dt l (b+(Qn l b).toNat-(b+1)) (b+1) (b+(Qn l b).toNat) (oM r (Fp l b))++dt l (e-(b+(Qn l b).toNat)) (b+(Qn l b).toNat) e r):=by
    rw[show e-b=(e-b-1)+1 by omega,dt,aE H',kZ (by omega) (e-b-1) _ _ _ (by omega) (Qt _) h4,kZ he (e-b-1) _ _ _ (by omega) (Qt _) h3]
   have Ui:=mj (l:=l) (e:=b+(Qn l b).toNat) (by omega) (b+(Qn l b).toNat-(b+1)) (b+1) (oM r l[b].st.QE) (Qt _) (by omega) h4;refine⟨e-(b+(Qn l b).toNat),by omega,b+(Qn l b).toNat,_,rfl,by omega,by omega,h3,?_,?_,RK,by simp[t1,t3,t4,t5,t8,q3]⟩
   .simp only[gY,Q4,List.length_nil,du,Ui];omega
   .rw[WY,hk,g1];simp only[eD,fC,ly,List.cons_append,mo];rfl
  .have q1:((b:Int)<(e:Int))=False:=PF;apply sR;simp only[go_sem,seval,q1,t1,t3,t4,t5,t8,t9];refine⟨_,_,aa.refl _,Wk.refl (aa.refl _) _,rfl,?_⟩;have hz:dt l (e-b) b e r=[]:=by rw[show e-b=0 by omega];rfl
   rw[WY,hz];exact hback _ _ (by simpa using hJ)
def Hp(l:List Nd)(hl:ed l)(hb:Qy l=true)(w:Int)(h1:1<=w)(h2:w<=1099511627776):bb prog 91 [aQ l,vI w] (cT (dt l l.length 0 l.length ⟨0,w⟩)):=λU=>by
 refine e91.r (by simp[c91]) ?_;have hs:=aa.refl U;refine ae.mix 8 ?_;apply sR;simp only[go_sem,seval,c91,ai,aJ];refine ad λi2 Z2 s2 a2 f2=>?_;have z2:=hs.none f2;replace hs:=hs.trans s2;simp only[go_sem,seval,a2,ai,aJ];refine ae.aC rfl rfl rfl (BL l hl hb _) ?_;apply sR;simp only[go_sem,seval,a2,ai,aJ];refine ad λi5 Z5 s5 a5 f5=>?_;have YS:=al a2 f5;replace a2:=s5 _ _ a2;have z5:=hs.none f5;replace hs:=hs.trans s5;have q1:(w<1)=False:=PF;have q2:(w>1099511627776)=False:=PF;simp only[go_sem,seval,a5,a2,ai,aJ,q1,q2,ab YS,ab YS];generalize RC:C' Z5 i5 _=Y5;have b5:Y5 i5=some ⟨207,1,[.agg [aQ l]]⟩:=by rw[<-RC];exact af
 have b2:Y5 i2=some ⟨22,1,[aQ l]⟩:=by rw[<-RC,ab YS];exact a2
 have Uo:aa U Y5:=by rw[<-RC];exact hs.aD z5
 have SQ:aa Y5 Y5:=aa.refl _;clear RC;refine ad λi6 Z6 s6 a6 f6=>?_;have c5:=s6 _ _ b5;have c2:=s6 _ _ b2;have z6:U i6=none:=Uo.none f6;simp only[go_sem,seval];refine ad λi7 Z7 s7 a7 f7=>?_;have d5:=s7 _ _ c5;have d2:=s7 _ _ c2;have d6:=s7 _ _ a6;have z7:U i7=none:=(Uo.trans s6).none f7;have n57:=al c5 f7;have n27:=al c2 f7;have UH:=al a6 f7;have n26:=al b2 f6;have hn:=fe l;have Vt:V.Rj.cells=[.Rj]:=rfl;simp only[go_sem,seval,a7,Vt,d5,d2,d6,ab n57,ab n27,ab UH,hn,ai,aJ];have hJ:RmJ l U i2 i6 i7 [] (C' Z7 i7 ⟨216,1,[.fn 116 [.ptr i2 0 0,.ptr i6 0 0,.ptr i7 0 0]]⟩):=
  ⟨by rw[ab n27];exact d2,af,(((Uo.trans s6).trans s7)).aD z7,z6,.aT,by rw[ab UH];exact d6,aU.start⟩
 have hc:=Gq l hl hb i2 i6 i7 n26 n27 UH (l.length+1) 0 l.length ⟨0,w⟩ [] U _ (by omega) (by omega) (by omega) (by simp only[Qy,Ba]at hb;exact hb.2) ⟨by simp,by simp,h1,h2⟩ (by simp) hJ;refine ae.call rfl rfl rfl hc ?_;rintro q Z' ⟨rfl,RK⟩;obtain⟨v,vo,R6⟩:=RK.out;have Tv:v.cells=[v]:=by rcases R6 with⟨rfl,_⟩|⟨_,rfl,_⟩<;>rfl
 apply sR;simp only[go_sem,seval,vo,Tv];have ho:aU U Z' 218 2 v ((dt l l.length 0 l.length ⟨0,w⟩).map kU):=by
  rcases R6 with⟨h,h'⟩|⟨id,h1,h2,h3⟩
  .exact .inl ⟨h,by simpa using h'⟩
  .exact .inr ⟨id,by simpa using h1,by simpa using h2,(gj.1 h3).2.2.2⟩
 exact ho.Bl RK.sub rfl
section
variable {P:Program} {n:Nat}
def ae.M4{st:St}{Q:St->Prop}{k:List It}{i:aK}{l:List aK}{xa:VX}(hw:bB st.s i.g=some true)(ho:i.op=.SE false xa (.c (.iface 0 .undef))){b:Bool}
 (hx:(xa.ev st.s=.aT/\b=true)\/(∃sz r rows,xa.ev st.s=.sl sz (r::rows)/\b=false)\/∃id off m,xa.ev st.s=.own id off (m+1)/\b=false)
 (h:ae P n (.ops l::k) ⟨aZ st.s i.dst (.bool b),st.U⟩ Q):ae P n (.ops (i::l)::k) st Q:=by
 refine ae.ins (by rw[ho];simp) hw λF hn I a w o all hi hs next Q' PL=>?_
 subst hn;obtain⟨PV,hd⟩:=dP hi;rw[ho]at PV;obtain⟨t,x,y,m,c,yt,e,g1,rfl,g2,rfl⟩:=zr PV;have R:=cz hs x;have hX:∃ba len cap,a.eval x=.slice ba len cap/\ba.isNone=b:=by
  rcases hx with⟨hx,rfl⟩|⟨sz,r,rows,hx,rfl⟩|⟨id,off,m,hx,rfl⟩
  .rw[hx]at R;simp only[E']at R;exact⟨none,0,0,R,rfl⟩
  .rw[hx]at R;simp only[E']at R;obtain⟨ba,cap,hX,_,hr⟩:=R;rcases hr with hr|⟨b,off,rfl,_⟩
   .cases hr
   .exact⟨_,_,_,hX,rfl⟩
  .rw[hx]at R;simp only[E']at R;split at R
   .exact R.elim
   .exact absurd R.2.2 (by omega)
   .obtain⟨o,c,hX,_⟩:=R;exact⟨_,_,_,hX,rfl⟩
 obtain⟨ba,len,cap,hX,rfl⟩:=hX;have Qq:(execOp a.eval o).run P w=.ok (.value (.bool ba.isNone)) w:=by
  unfold execOp;rw[g1];have hY:a.eval (.const (.slice none m c))=.slice none m c:=rfl;simp[hX,hY,eqGuard,Lib.run_eql_slice_nil w t e ba len cap m c g2]
 unfold Oper.wp;rw[Qq];refine PL _ _ _ ⟨I,?_⟩ h;rw[<-hd];exact hs.pure (by simp[E'])
end
open Go.Proofs Go.Proofs.Tryz
def vN(U:ag)(v v':V):Prop:=∀J,aa U J->Wk J lB v v'
def vN.mono{U J:ag}{v v':V}(h:vN U v v')(hs:aa U J):vN J v v':=λX' h'=>h X' (hs.trans h')
def vN.at{U:ag}{v v':V}(h:vN U v v'):Wk U lB v v':=h U (aa.refl _)
def aU.Gu{K U:ag}{e sz:Nat}{v:V}{rows:List V}(h:aU K U e sz v rows):vN U v (.sl sz rows):=λJ hs=>(h.mono hs).wk (pJ _) (pJ _)
def TP{J:ag}(v:V):Wk J lB v v:=Wk.refl (pJ _) _
def Gj(vf:V){U:ag}(fs:List PI)(hvf:vN U vf (aS fs))(ws:List Int)(space high:Int)(y:Int)(s:QN)(hl:fs.length<=1000000)(P5:∀f∈fs,f.ok)(B:Int)(hB:∀f∈fs,f.y+f.h<=B)(hB1:B<=1152921504606846976)(Ym:0<=y)(hy:y<=B)(hh:0<=high)(hh1:high<=1099511627776)
 (Sn:RB s.a/\RB s.b)(hw:WOk ws space):aB prog 140 [vf,bD ws,vI space,vI high,vI y,bh s] U λr Z'=>aa U Z'/\aU U Z' 242 5 r ((dT fs ws space high s ws.length 0 y).map nr):=by
 refine PB.r (by simp[LV]) ?_;have hs:=aa.refl U;have hn:=fU ws;have Ui:=hw.len;refine ae.mix 16 ?_;apply sR;simp only[go_sem,seval,LV,bh];refine ad λRi Xx Tk SA f11=>?_;have W5:=hs.none f11;replace hs:=hs.trans Tk;simp only[go_sem,seval,SA];generalize hG:dT fs ws space high s ws.length 0 y=G;refine ae.loop (λm st=>∃(i k:Nat) (y':Int) (acc:List Ln),m=ws.length-i/\i<=ws.length/\ws.length-i<=k/\acc.length<=i/\G=acc++dT fs ws space high s k i y'/\0<=y'/\y'<=B+1099511627776*i/\aa U st.U/\aU U st.U 242 5 (st.s 13) (acc.map nr)/\
  st.U Ri=some ⟨239,2,[.agg [vI s.a,vI s.b]]⟩/\st.s 0=vf/\st.s 1=bD ws/\st.s 2=vI space/\st.s 3=vI high/\st.s 4=vI y'/\st.s 11=.ptr Ri 0 0/\st.s 14=vI i) ws.length ?_ ?_
 .exact⟨0,ws.length,y,[],rfl,by omega,by omega,by simp,hG.symm,Ym,by omega,hs,aU.start,SA,rfl,rfl,rfl,rfl,rfl,rfl,rfl⟩
 .rintro m ⟨S,J⟩ ⟨i,k,y',acc,rfl,hi,hk,Tx,hg,hy1,hy2,G',R6,b11,t0,t1,t2,t3,t4,t11,t14⟩;simp only at G' R6 b11 t0 t1 t2 t3 t4 t11 t14;generalize Wo:S 13=v13 at R6;refine ae.mix 16 ?_;by_cases H':i<ws.length
  .have q:((i:Int)<ws.length)=True:=PK;obtain⟨k,rfl⟩:∃k',k=k'+1:=⟨k-1,by omega⟩
   rw[dT,aE H']at hg;have Vr:=AF (space:=space) (width:=kE (ef fs (lX fs (ws.getD i 0) high s y') high s)) H';have hyr:=gm (w:=ws.getD i 0) (high:=high) (y:=y') (s:=s) hB;have hx:=Ir fs ws space high i y' s hl P5 ⟨by omega,by omega⟩ ⟨by omega,by omega⟩ Sn hw H';obtain⟨x,Yi⟩:∃x,x=oI fs ws space high i y' s:=⟨_,rfl⟩
   have x1:∃j:Nat,x.to=j/\i<j/\j<=ws.length:=by rw[Yi];exact⟨_,rfl,Vr⟩
   have x2:y'<=x.y/\x.y<=max y' B:=by rw[Yi];exact hyr
   rw[<-Yi]at hg hx;clear Yi Vr hyr;obtain⟨j,hj,YZ,Ta⟩:=x1;rw[hj,fp]at hg;apply sR;simp only[go_sem,seval,t0,t1,t2,t3,t4,t11,t14,b11,hn,q];refine ae.aC rfl rfl rfl (bb.A3 (args':=[aS fs,bD ws,vI space,vI high,vI i,vI y',bh s]) ⟨(hvf.mono G').at,TP _,TP _,TP _,TP _,TP _,TP _,trivial⟩ hx rfl) ?_;have hc:=zT x;have Qi:=zJ x;have QG:(nr x).cells.length=5:=rfl;have hag:V.agg [vI x.fr,vI x.to,vI x.x,vI x.y,vI x.w]=nr x:=rfl;apply sR;simp only[go_sem,seval,t0,t1,t2,t3,t4,t11,t14,Wo,hc,Qi];refine ad λVW Y15 Vi SR f15=>?_;simp only[go_sem,seval,SR,t0,t1,t2,t3,t4,t11,t14,Wo,hc,QG,Qi,hag];generalize Rs:C' Y15 VW _=Z15;have b15:Z15 VW=some ⟨242,5,[.agg [vI x.fr,vI x.to,vI x.x,vI x.y,vI x.w]]⟩:=by rw[<-Rs];exact af
   have s15':aa J Z15:=by rw[<-Rs];exact Vi.aD f15
   clear Rs;refine ad λYn Z30 s30 a30 f30=>?_;obtain⟨PU,QW,QJ,W4,Wn⟩:=R6.BD (s15'.trans s30);have QD:(acc.length+1)*41<=140737488355328:=by omega
   have Vf:(acc.map nr).length=acc.length:=by simp
   simp only[go_sem,seval,t0,t1,t2,t3,t4,t11,t14,Wo,QW,dj a30,Vf,QD];refine ep λi31 Z31 s31 a31 f31=>?_;have k31:=(QJ U (aa.refl _) Z30 (G'.trans (s15'.trans s30))).trans s31;have n31:U i31=none:=(G'.trans (s15'.trans s30)).none f31;have c15:Z31 VW=some ⟨242,5,[.agg [vI x.fr,vI x.to,vI x.x,vI x.y,vI x.w]]⟩:=s31 _ _ (by rw[Wn VW f15];exact s30 _ _ b15);have c11:Z31 Ri=some ⟨239,2,[.agg [vI s.a,vI s.b]]⟩:=s31 _ _ (by rw[W4 Ri _ b11 (.inr (by simp))];exact s30 _ _ (s15' _ _ b11));have r1:PY .i64 (x.y+high):=ar;simp only[go_sem,seval,t0,t1,t2,t3,t4,t11,t14,c15,hj,r1];refine⟨_,?_,j,k,x.y+high,acc++[x],rfl,Ta,by omega,by simp;omega,by rw[hg];simp,by omega,by omega,k31,?_,c11,by simp[t0,t1,t2,t3,t11]⟩
   .omega
   .rw[fC];exact aU.new (by simp) a31 n31
  .have q:((i:Int)<ws.length)=False:=PF;apply sR;simp only[go_sem,seval,t0,t1,t2,t3,t4,t11,t14,Wo,b11,hn,q];have:dT fs ws space high s k i y'=[]:=by
    cases k with
    |zero=>rfl
    |succ k=>rw[dT,aH H']
   rw[this,kL]at hg;refine⟨_,_,aa.refl _,Wk.refl (aa.refl _) _,G',?_⟩;rw[hg];exact R6
def Bf{P:Program}{f:FuncId}{fn:Func}(hf:P.funcs[f]?=some fn){e sz b:Nat}(hc:cfn P fn=some (nF e sz b))(hk:fW P f=true){K U:ag}{v:V}{rows:List V}(hv:aU K U e sz v rows)(P':rows=[]->v=.aT)(hb:rows.length*(b+1)<=140737488355328):
 aB P f [v] U λr Z'=>aa U Z'/\aU U Z' e sz r rows:=by
 refine aB.nI hf hc hk (by simp[nF]) ?_;refine ae.mix 3 ?_;rcases hv with⟨rfl,rfl⟩|⟨id,rfl,ho,_⟩
 ·(refine ae.bL Rd.nothing 8 ?_;simp only[go_sem,seval,pd,nF])
  refine ae.M4 rfl rfl (b:=true) (.inl ⟨rfl,rfl⟩) ?_;apply sR;simp only[go_sem,seval];exact⟨_,_,aa.refl _,Wk.refl (aa.refl _) _,aa.refl _,aU.start⟩
 .obtain⟨m,hm⟩:∃m,rows.length=m+1:=by
   cases rows with
   |nil=>exact absurd (P' rfl) (by simp)
   |cons r rs=>exact⟨rs.length,by simp⟩
  (refine ae.bL Rd.nothing 8 ?_;simp only[go_sem,seval,pd,nF])
  refine ae.M4 rfl rfl (b:=false) (.inr (.inr ⟨id,0,m,by rw[hm];rfl,rfl⟩)) ?_;apply sR;simp only[go_sem,seval];refine ad λTi Z1 s1 a1 f1=>?_;obtain⟨PU,hd,QJ⟩:=(aU.new (K:=U) (e:=e) (sz:=sz) (n:=0) (rows:=[]) rfl a1 f1).dst (aa.refl _);have WW:cK Z1 sz (.own id 0 rows.length)=some rows:=by simp[cK,s1 _ _ ho]
  simp only[go_sem,seval,hd,WW,hb];refine ep λU0 Z2 s2 a2 f2=>?_;have SQ:=(QJ U (aa.refl _) Z1 s1).trans s2;simp only[go_sem,seval];exact⟨_,_,aa.refl _,Wk.refl (aa.refl _) _,SQ,aU.new (by simp) a2 (s1.none f2)⟩
def Hr(vf:V){K U:ag}(fs:List PI)(hvf:aU K U 143 7 vf (fs.map aX))(P':fs=[]->vf=.aT)(f:PI)(y:Int)(s:QN)(hl:fs.length<=1000000)(P5:∀f∈fs,f.ok)(hy:RB y)(hh:Bq f.h)(hw:Bq f.w)(Sn:RB s.a/\RB s.b):
 aB prog 144 [vf,aX f,vI y,bh s] U λr Z'=>aa U Z'/\aU U Z' 143 7 r ((tR fs f y s).map aX):=by
 refine OD.r (by simp[Jl]) ?_;have hs:=aa.refl U;refine ae.mix 14 ?_;apply sR;simp only[go_sem,seval,Jl,aX,bh];refine ad λi5 Z5 s5 a5 f5=>?_;have z5:=hs.none f5;replace hs:=hs.trans s5;simp only[go_sem,seval,a5];refine ad λi7 Z7 s7 a7 f7=>?_;have n57:=al a5 f7;replace a5:=s7 _ _ a5;have z7:=hs.none f7;replace hs:=hs.trans s7;simp only[go_sem,seval,a7,a5];refine ae.aC rfl rfl rfl (bb.A3 (args':=[aS fs,aX f,vI y,bh s]) ⟨((hvf.mono hs).Gu).at,TP _,TP _,TP _,trivial⟩ (Kj fs f y s hl P5 hy hh hw Sn) rfl) ?_;apply sR;simp only[go_sem,seval,a7,a5,ab n57,ab n57.symm,dL];generalize RC:C' Z7 i5 _=Y5;have b5:Y5 i5=some ⟨143,7,[aX (kz fs f y s)]⟩:=by rw[<-RC];exact af
 have Uo:aa U Y5:=by rw[<-RC];exact hs.aD z5
 clear RC;have TY:aX (kz fs f y s)=.agg [vI f.node,vI f.side,vI f.anchor,vI (pG fs f y s),vI (lM fs f y s),vI f.w,vI f.h]:=rfl;rw[TY]at b5;have Vf:(fs.map aX).length=fs.length:=by simp
 have QD:(fs.length+1)*57<=140737488355328:=by omega
 have UX:fs.map aX++[V.agg [vI f.node,vI f.side,vI f.anchor,vI (pG fs f y s),vI (lM fs f y s),vI f.w,vI f.h]]=(tR fs f y s).map aX:=by simp[tR,<-TY]
 have hne':fs.map aX=[]->vf=.aT:=λh=>P' (by simpa using h);refine ae.vW (by kernel_rfl) 8 (.fork [[],[0],[],[2],[1,3,0,2],[4,0,1,2,3]] [0,2] [1,3] [(.leaf [[],[0],[],[1,0,2],[1,0,3,2],[1,0,4,2,3]] [1,3,4,5]),(.leaf [[],[3,2,0],[],[2],[3,2,1,0],[3,2,4,0,1]] [3,1,4,5])]) (by kernel_rfl) ?_;refine GT.lh (its:=[0,4]) (by kernel_rfl) ?_;refine RE.Qx (n:=0) [] [0,4] [⟨(.some 19),(.Qc (.t 0)),.none⟩,⟨(.some 21),(.load .true 7 (.t 5)),.none⟩] rfl rfl ?_;apply sG;simp only[go_sem,seval,b5];refine⟨?_,?_⟩
 .refine GT.eS (its:=[2,5,6,8,10]) (by kernel_rfl) ?_;refine RE.call rfl rfl rfl rfl rfl (Bf func67 (e67.b.trans rfl) e67.c (hvf.mono Uo) hne' (by simp;omega)) ?_;rintro r Z3 ⟨s3,R6⟩;replace b5:=s3 _ _ b5;have hs3:=Uo.trans s3;refine RE.QQ rfl rfl rfl rfl rfl trivial (by simp only[go_sem,seval,b5]) ?_;refine RE.Qx (n:=0) [] [6,8,10] [⟨(.some 22),(.gr 143 7 [(.t 21)]),.none⟩,⟨(.some 23),(.append 143 7 56 (.t 20) (.t 22)),.none⟩,⟨(.some 8),(.Qc (.t 23)),.none⟩] rfl rfl ?_;apply sG;simp only[go_sem,seval,b5];refine bc λi9 Z9 s9 a9 f9=>?_;obtain⟨PU,QW,QJ⟩:=R6.dst s9;simp only[go_sem,seval,QW,dj a9,Vf,QD,UX];refine kB λQb UP Re P0 f10=>?_;have VT:=(QJ U Uo Z9 (hs3.trans s9)).trans Re;have n10:U Qb=none:=(hs3.trans s9).none f10;simp only[go_sem,seval];apply sR;simp only[go_sem,seval];exact⟨_,_,aa.refl _,Wk.refl (aa.refl _) _,VT,aU.new (by simp[tR]) P0 n10⟩
 .refine GT.eS (its:=[6,2,8,10]) (by kernel_rfl) ?_;refine RE.Qx (n:=0) [2,8,10] [6] [⟨(.some 22),(.gr 143 7 [(.t 21)]),.none⟩] rfl rfl ?_;apply sG;simp only[go_sem,seval,b5];refine bc λi9 Z9 s9 a9 f9=>?_;simp only[go_sem,seval];refine RE.call rfl rfl rfl rfl rfl (Bf func67 (e67.b.trans rfl) e67.c (hvf.mono (Uo.trans s9)) hne' (by simp;omega)) ?_;rintro r Z3 ⟨s3,R6⟩;have a9':=s3 _ _ a9;obtain⟨PU,QW,QJ⟩:=R6.dst (aa.refl _);refine RE.Qx (n:=0) [] [8,10] [⟨(.some 23),(.append 143 7 56 (.t 20) (.t 22)),.none⟩,⟨(.some 8),(.Qc (.t 23)),.none⟩] rfl rfl ?_;apply sG;simp only[go_sem,seval,QW,dj a9',Vf,QD,UX];refine kB λQb UP Re P0 f10=>?_;have VT:=(QJ U (Uo.trans s9) Z3 ((Uo.trans s9).trans s3)).trans Re;have n10:U Qb=none:=((Uo.trans s9).trans s3).none f10;simp only[go_sem,seval];apply sR;simp only[go_sem,seval];exact⟨_,_,aa.refl _,Wk.refl (aa.refl _) _,VT,aU.new (by simp[tR]) P0 n10⟩
open Go.Proofs Go.Proofs.Tryz
structure QB where
 (kind node fr to x y w h:Int)
deriving DecidableEq
def dC(a:QB):V:=.agg [vI a.kind,vI a.node,vI a.fr,vI a.to,vI a.x,vI a.y,vI a.w,vI a.h]
def bH(l:List QB):V:=.sl 8 (l.map dC)
structure WS where
 atoms:List QB
 u':List PI
 PM:Int
 PW:Pn
structure Sk(l:List Nd)(rs:List Rm)(Z0:ag)(iw:Nat)(s:WS)(U:ag):Prop where
 sub:aa Z0 U
 no:Z0 iw=none
 row:∃va vf,U iw=some ⟨182,7,[.agg [va,vf,vI s.PM,vI s.PW.y,vI s.PW.m,aQ l,cT rs]]⟩/\
  aU (bo Z0 iw) U 111 8 va (s.atoms.map dC)/\aU (bo Z0 iw) U 143 7 vf (s.u'.map aX)/\(s.u'=[]->vf=.aT)
def ay(l:List Rm):(cT l).cells=[cT l]:=rfl
def xE(l:List Rm):(cT l).stays=true:=rfl
def Hh{U:ag}{l:List Rm}{i:Nat}(h:i<l.length):bS U 2 (cT l) (.int .i64 i)=some (.rp (kU l[i])):=by simp[cT,bS,h]
def aU.vc{K U:ag}{e sz:Nat}{v:V}{rows:List V}(h:aU K U e sz v rows):v.cells=[v]/\v.stays=true:=by rcases h with⟨rfl,_⟩|⟨_,rfl,_⟩<;>exact⟨rfl,rfl⟩
def eO(rs:List Rm)(a:Nat):QN:=⟨(rs.getD a ⟨0,0⟩).x,(rs.getD a ⟨0,0⟩).x+(rs.getD a ⟨0,0⟩).w⟩
def As{l:List Nd}{rs:List Rm}{Z0 U:ag}{iw:Nat}{s:WS}(hJ:Sk l rs Z0 iw s U)(a:Nat)(ha:a<rs.length)(hr:rs[a].ok):
 aB prog 141 [.ptr iw 0 0,vI a] U λr Z'=>r=bh (eO rs a)/\Z'=U:=by
 obtain⟨va,vf,w1,Wp,Vj,_⟩:=hJ.row;obtain⟨ca,sa⟩:=Wp.vc;obtain⟨cf,sf⟩:=Vj.vc;obtain⟨r1,r2,r3,r4⟩:=hr;have Vs:rs.getD a ⟨0,0⟩=rs[a]:=by simp[ha]
 have O':=λU=>Hh (U:=U) ha;unfold eO;rw[Vs];generalize rs[a]=r at*;have Zh:kU r=.agg [vI r.x,vI r.w]:=rfl;have rr:PY .i64 (r.x+r.w):=ar;refine Po.r (by simp[LY]) ?_;have hs:=aa.refl U;refine ae.mix 6 ?_;apply sR;simp only[go_sem,seval,LY];refine ad λi4 Z4 s4 a4 f4=>?_;have w4:=s4 _ _ w1;simp only[go_sem,seval,w4,O',Zh,ca,cf,ay,ai];refine ad λi5 Z5 s5 a5 f5=>?_;have b4:=s5 _ _ a4;have Rr:=al a4 f5;simp only[go_sem,seval,a5,b4,ab Rr,rr];exact av.pure (((s4.trans s5).aD (s4.none f5)).aD f4) rfl
def sF(a:QB):(dC a).cells=[vI a.kind,vI a.node,vI a.fr,vI a.to,vI a.x,vI a.y,vI a.w,vI a.h]:=rfl
def sO(a:QB):(dC a).stays=true:=rfl
def WS.put(s:WS)(a:QB):WS:={ s with atoms:=s.atoms++[a],PW:=⟨a.y+a.h,0⟩ }
def ED{l:List Nd}{rs:List Rm}{Z0 U:ag}{iw:Nat}{s:WS}(hJ:Sk l rs Z0 iw s U)(a:QB)(hy:Bq a.y)(hh:Bq a.h)(hn:s.atoms.length<=1000000):
 aB prog 142 [.ptr iw 0 0,dC a] U λr Z'=>r=.PN []/\Sk l rs Z0 iw (s.put a) Z':=by
 obtain⟨va,vf,w1,Wp,Vj,hf2⟩:=hJ.row;obtain⟨ca,sa⟩:=Wp.vc;obtain⟨cf,sf⟩:=Vj.vc;refine Nt.r (by simp[L9]) ?_;refine ae.mix 4 ?_;apply sR;simp only[go_sem,seval,L9,sF,sO];refine ad λi3 Z3 s3 a3 f3=>?_;have w3:=s3 _ _ w1;simp only[go_sem,seval,w3,a3,ca,cf,ay,ai,sF,sO];refine bc λRi Xx Tk SA f11=>?_;obtain⟨PU,QW,QJ,W4,Wn⟩:=Wp.BD (s3.trans Tk);have QD:(s.atoms.length+1)*65<=140737488355328:=by omega
 have Vf:(s.atoms.map dC).length=s.atoms.length:=by simp
 simp only[go_sem,seval,QW,dj SA,Vf,QD];rw[aV];intro QT f12;have f12:Xx QT=none:=f12;have w11:=Tk _ _ w3;have nw:=al w11 f12;have b3:=Tk _ _ a3;have n3:=al b3 f12;have nw3:=al w1 f3;have hdw:=W4 iw _ w1 (.inr (by simp));have hd3:=Wn i3 f3;have cw:(C' (Vc.bI Xx PU) QT ⟨111,8,s.atoms.map dC++[.agg [vI a.kind,vI a.node,vI a.fr,vI a.to,vI a.x,vI a.y,vI a.w,vI a.h]]⟩) iw=some ⟨182,7,[.agg [va,vf,vI s.PM,vI s.PW.y,vI s.PW.m,aQ l,cT rs]]⟩:=by rw[ab nw,hdw];exact w11
 have c3:(C' (Vc.bI Xx PU) QT ⟨111,8,s.atoms.map dC++[.agg [vI a.kind,vI a.node,vI a.fr,vI a.to,vI a.x,vI a.y,vI a.w,vI a.h]]⟩) i3=some ⟨111,8,[.agg [vI a.kind,vI a.node,vI a.fr,vI a.to,vI a.x,vI a.y,vI a.w,vI a.h]]⟩:=by rw[ab n3,hd3];exact b3
 have c12:(C' (Vc.bI Xx PU) QT ⟨111,8,s.atoms.map dC++[.agg [vI a.kind,vI a.node,vI a.fr,vI a.to,vI a.x,vI a.y,vI a.w,vI a.h]]⟩) QT=some ⟨111,8,s.atoms.map dC++[.agg [vI a.kind,vI a.node,vI a.fr,vI a.to,vI a.x,vI a.y,vI a.w,vI a.h]]⟩:=af;have G':aa Z0 (C' (Vc.bI Xx PU) QT ⟨111,8,s.atoms.map dC++[.agg [vI a.kind,vI a.node,vI a.fr,vI a.to,vI a.x,vI a.y,vI a.w,vI a.h]]⟩):=by
  have h1:=QJ Z0 (λi o h=>by rw[bo,aH (λe=>by rw[e,hJ.no]at h;cases h)];exact h) Xx ((hJ.sub.trans s3).trans Tk);exact h1.aD (((hJ.sub.trans s3).trans Tk).none f12)
 have RW:bo Z0 iw QT=none:=aL.2 ⟨nw.symm,((hJ.sub.trans s3).trans Tk).none f12⟩;have hf3:∀o,aU (bo Z0 iw) (C' (Vc.bI Xx PU) QT o) 143 7 vf (s.u'.map aX):=λo=>by
  rcases Vj with h|⟨id,h1,h2,h3⟩
  .exact .inl h
  .have h4:=Tk _ _ (s3 _ _ h2);exact .inr ⟨id,h1,by rw[ab (al h4 f12),W4 id _ h2 (.inr (by simp))];exact h4,h3⟩
 replace hf3:=hf3 ⟨111,8,s.atoms.map dC++[.agg [vI a.kind,vI a.node,vI a.fr,vI a.to,vI a.x,vI a.y,vI a.w,vI a.h]]⟩;generalize C' (Vc.bI Xx PU) QT ⟨111,8,s.atoms.map dC++[.agg [vI a.kind,vI a.node,vI a.fr,vI a.to,vI a.x,vI a.y,vI a.w,vI a.h]]⟩=J at*;simp only[go_sem,seval,cw,ca,cf,ay,ai,dL];have dw:(C' J iw ⟨182,7,[.agg [.own QT 0 (s.atoms.length+1),vf,vI s.PM,vI s.PW.y,vI s.PW.m,aQ l,cT rs]]⟩) iw=some ⟨182,7,[.agg [.own QT 0 (s.atoms.length+1),vf,vI s.PM,vI s.PW.y,vI s.PW.m,aQ l,cT rs]]⟩:=af;have d3:(C' J iw ⟨182,7,[.agg [.own QT 0 (s.atoms.length+1),vf,vI s.PM,vI s.PW.y,vI s.PW.m,aQ l,cT rs]]⟩) i3=some ⟨111,8,[.agg [vI a.kind,vI a.node,vI a.fr,vI a.to,vI a.x,vI a.y,vI a.w,vI a.h]]⟩:=by rw[ab nw3.symm];exact c3
 have d12:(C' J iw ⟨182,7,[.agg [.own QT 0 (s.atoms.length+1),vf,vI s.PM,vI s.PW.y,vI s.PW.m,aQ l,cT rs]]⟩) QT=some ⟨111,8,s.atoms.map dC++[.agg [vI a.kind,vI a.node,vI a.fr,vI a.to,vI a.x,vI a.y,vI a.w,vI a.h]]⟩:=by rw[ab nw.symm];exact c12
 replace G':=G'.aD hJ.no (o:=⟨182,7,[.agg [.own QT 0 (s.atoms.length+1),vf,vI s.PM,vI s.PW.y,vI s.PW.m,aQ l,cT rs]]⟩);have hf4:aU (bo Z0 iw) (C' J iw ⟨182,7,[.agg [.own QT 0 (s.atoms.length+1),vf,vI s.PM,vI s.PW.y,vI s.PW.m,aQ l,cT rs]]⟩) 143 7 vf (s.u'.map aX):=by
  rcases hf3 with h|⟨id,h1,h2,h3⟩
  .exact .inl h
  .exact .inr ⟨id,h1,by rw[ab (aL.1 h3).1];exact h2,h3⟩
 clear hf3 cw c3 c12;generalize C' J iw ⟨182,7,[.agg [.own QT 0 (s.atoms.length+1),vf,vI s.PM,vI s.PW.y,vI s.PW.m,aQ l,cT rs]]⟩=Y2 at*;refine ae.pF (by kernel_rfl) [0,1,2,3,4,5,6,7,8,9,10,11,12] [[],[],[1],[1,2],[1,2,3],[],[5],[],[7],[1,2,3,4,5,6,7,8],[0,1,2,3,4,5,6,7,8,9],[0,1,2,3,4,5,6,7,8,9,10],[0,1,2,3,4,5,6,7,8,9,10,11]] [0,2,4,6,8,10,12,14,16,18,20,22,24] (by kernel_rfl) (by kernel_rfl) ?_;refine RE.Qx (n:=0) [18,20,22,24] [0,2,4,6,8,10,12,14,16] [⟨(.some 16),(.Qc (.t 0)),.none⟩,⟨(.some 17),(.Qc (.t 0)),.none⟩,⟨(.some 18),(.nilCheck (.t 17)),.none⟩,⟨(.some 19),(.P9 .true 3 2 (.t 18)),.none⟩,⟨(.some 20),(.load .true 2 (.t 19)),.none⟩,⟨(.some 21),(.P9 .false 5 1 (.t 3)),.none⟩,⟨(.some 22),(.load .false 1 (.t 21)),.none⟩,⟨(.some 23),(.P9 .false 7 1 (.t 3)),.none⟩,⟨(.some 24),(.load .false 1 (.t 23)),.none⟩] rfl rfl ?_;apply sG;simp only[go_sem,seval,dw,d3,cf,ay,ai];refine RE.aC rfl rfl rfl rfl rfl (JU s.PW a.y a.h hy hh _) ?_;refine RE.Qx (n:=0) [] [20,22,24] [⟨(.some 26),(.nilCheck (.t 16)),.none⟩,⟨(.some 27),(.P9 .true 3 2 (.t 26)),.none⟩,⟨.none,(.store 2 (.t 27) (.t 25)),.none⟩] rfl rfl ?_;apply sG;simp only[go_sem,seval,dw,ir,cf,ay,ai];apply sR;simp only[go_sem,seval];have Qm:aa Z0 (C' Y2 iw ⟨182,7,[.agg [.own QT 0 (s.atoms.length+1),vf,vI s.PM,vI (a.y+a.h),vI 0,aQ l,cT rs]]⟩):=G'.aD hJ.no;refine⟨_,_,aa.refl _,Wk.refl (aa.refl _) _,rfl,Qm,hJ.no,.own QT 0 (s.atoms.length+1),vf,af,?_,?_,hf2⟩
 .exact aU.new (by simp[WS.put]) (by rw[ab nw.symm,d12];simp[WS.put];rfl) RW
 .rcases hf4 with h|⟨id,h1,h2,h3⟩
  .exact .inl h
  .exact .inr ⟨id,h1,by rw[ab (aL.1 h3).1];exact h2,h3⟩
def xg{l:List PI}{w high:Int}{s:QN}:∀(k:Nat) (y:Int),YY l y<=k->oC l w high s (lW l w high s k y)=true
 |0,y,h=>by
  rw[lW];simp only[oC,kJ,Bool.not_eq_true',Sp];left;cases hn:(gX l y high s).2 with
  |false=>rfl
  |true=>
   have:=xL (jc hn);omega
 |k+1,y,h=>by
  rw[lW];split
  .rename_i hb;exact hb
  .rename_i hb;simp only[oC,kJ,Bool.not_eq_true',not_or,Bool.not_eq_false]at hb;have:=xL (jc hb.1);exact xg k _ (by omega)
def DX(l:List PI)(w high:Int)(s:QN)(y:Int):(gX l (ql l w high s y) high s).2=false\/kE (ef l (ql l w high s y) high s)>=w:=by
 have:=xg (l:=l) (w:=w) (high:=high) (s:=s) l.length y (List.length_filter_le _ _);simp only[oC,kJ,Bool.not_eq_true',Sp]at this;exact this
def so{l:List PI}{w high B:Int}{s:QN}(hB:∀f∈l,f.y+f.h<=B):∀(k:Nat) (y:Int),y<=lW l w high s k y/\lW l w high s k y<=max y B
 |0,y=>by simp only[lW];omega
 |k+1,y=>by
  rw[lW];split
  .omega
  .rename_i hb;simp only[oC,kJ,Bool.not_eq_true',not_or,Bool.not_eq_false]at hb;obtain⟨f,hm,h1,h2⟩:=jc hb.1;have:=so hB k (gX l y high s).1 (w:=w) (high:=high) (s:=s);have:=hB f hm;omega
def H8(f:PI)(s:QN):s.a<=(kM f s).a/\(kM f s).b<=s.b:=by
 unfold kM;split
 .simp only;omega
 .simp only;omega
def zD:∀(l:List PI) (s:QN),s.a<=(l.foldl (λs f=>kM f s) s).a/\(l.foldl (λs f=>kM f s) s).b<=s.b
 |[],s=>by simp
 |f::l,s=>by
  have h1:=H8 f s;have h2:=zD l (kM f s);simp only[kf];omega
def Ex(l:List PI)(y high:Int)(s:QN):s.a<=(ef l y high s).a/\(ef l y high s).b<=s.b:=zD _ _
structure X8(B:Int)(f:PI):Prop where
 x0:0<=f.x
 w0:0<=f.w
 w1:f.w<=1099511627776
 h0:0<=f.h
 h1:f.h<=1099511627776
 y0:0<=f.y
 yB:f.y+f.h<=B
 xw:f.x+f.w<=8796093022208
def X8.ok{B:Int}{f:PI}(h:X8 B f)(hB:B<=1152921504606846976):f.ok:=by
 obtain⟨h1,h2,h3,h4,h5,h6,h7,h8⟩:=h;exact⟨⟨by omega,by omega⟩,⟨by omega,by omega⟩,⟨by omega,by omega⟩,⟨by omega,by omega⟩⟩
def X8.mono{B C:Int}{f:PI}(h:X8 B f)(hB:B<=C):X8 C f:=by
 obtain⟨h1,h2,h3,h4,h5,h6,h7,h8⟩:=h;exact⟨h1,h2,h3,h4,h5,h6,by omega,h8⟩
def Dx(s:QN):Prop:=0<=s.a/\s.a<=2199023255552/\0<=s.b/\s.b<=2199023255552
def BY{fs:List PI}{B y:Int}(hB:∀f∈fs,X8 B f):y<=oP fs y/\oP fs y<=max y B:=by
 unfold oP;split
 .rename_i h;obtain⟨f,hf,h1,_⟩:=mr h;have:=hB f hf;have h2:(uK f).1=f.y:=rfl;rw[h1,h2];have:=this.yB;have:=(hB f hf).h0;omega
 .omega
def yZ{fs:List PI}{B y:Int}(hB:∀f∈fs,X8 B f)(f:PI)(s:QN):y<=lM fs f y s/\lM fs f y s<=max y B:=by
 have h1:=BY (y:=y) hB;have h2:=so (w:=f.w) (high:=f.h) (s:=s) (λf hf=>(hB f hf).yB) fs.length (oP fs y);unfold lM ql;omega
def C8{fs:List PI}{B y:Int}(hB:∀f∈fs,X8 B f){f:PI}{s:QN}(hs:Dx s)(Ym:0<=y)(hyB:y<=B)(w0:1<=f.w)(w1:f.w<=1099511627776)(h0:0<=f.h)(h1:f.h<=1099511627776):X8 (B+1099511627776) (kz fs f y s):=by
 obtain⟨s1,s2,s3,s4⟩:=hs;have hy:=yZ (y:=y) hB f s;have hb:=Ex fs (lM fs f y s) f.h s;have hx:0<=pG fs f y s/\pG fs f y s+f.w<=8796093022208:=by
  unfold pG;simp only;have he:=DX fs f.w f.h s (oP fs y);have e:ql fs f.w f.h s (oP fs y)=lM fs f y s:=rfl;rw[e]at he;rcases he with h|h
  .have QV:ef fs (lM fs f y s) f.h s=s:=Classical.byContradiction λhn=>by
    have:=o5 hn;rw[h]at this;cases this
   rw[QV];split<;>omega
  .unfold kE at h;split at h
   .omega
   .split<;>omega
 exact⟨hx.1,by simp only[kz];omega,by simp only[kz];omega,by simp only[kz];omega,by simp only[kz];omega,by simp only[kz];omega,by simp only[kz];omega,by simpa[kz]using hx.2⟩
def HP{fs:List PI}{B y:Int}(hB:∀f∈fs,X8 B f){f:PI}{s:QN}(hs:Dx s)(Ym:0<=y)(hyB:y<=B)(w0:1<=f.w)(w1:f.w<=1099511627776)(h0:0<=f.h)(h1:f.h<=1099511627776):∀g∈tR fs f y s,X8 (B+1099511627776) g:=by
 intro g hg;rcases ei.1 hg with hg|hg
 .exact(hB g hg).mono (by omega)
 .simp only[iW]at hg;subst hg;exact C8 hB hs Ym hyB w0 w1 h0 h1
structure Bd(s:WS)(B:Int):Prop where
 fl:∀f∈s.u',X8 B f
 y0:0<=s.PW.y
 m0:0<=s.PW.m
 m1:s.PW.m<=1099511627776
 yB:s.PW.y+s.PW.m<=B
def Bd.mono{s:WS}{B C:Int}(h:Bd s B)(hB:B<=C):Bd s C:=⟨λf hf=>(h.fl f hf).mono hB,h.y0,h.m0,h.m1,by have:=h.yB;omega⟩
def WS.mono(l:List Nd)(rs:List Rm)(s:WS)(a:Nat)(n:Nd):WS:=
 let Qf:=lX s.u' n.w n.h (eO rs a) (s.PW.y+s.PW.m)
 let b:=ef s.u' Qf n.h (eO rs a)
 s.put ⟨2,a,0,0,b.a,Qf,n.w,n.h⟩
def fg(a:Nat)(h:Int)(x:Ln):QB:=⟨1,a,x.fr,x.to,x.x,x.y,x.w,h⟩
def WS.text(rs:List Rm)(s:WS)(a:Nat)(n:Nd):WS:=
 (dT s.u' n.words n.space n.line (eO rs a) n.words.length 0 (s.PW.y+s.PW.m)).foldl (λs x=>s.put (fg a n.line x)) s
def WS.float(rs:List Rm)(s:WS)(a:Nat)(n:Nd):WS:=
 { s with u':=tR s.u' ⟨a,n.side,s.atoms.length,0,0,n.w,n.h⟩ (s.PW.y+s.PW.m) (eO rs a) }
def WS.enter(s:WS)(t:Ru):WS:=
 let p:=if(ek (mH t.clear) s.u').2 then jT s.PW (ek (mH t.clear) s.u').1 else s.PW
 { s with PW:=eK p t.top t.PS }
def WS.leave(s:WS)(t:Ru):WS:={ s with PW:=mn s.PW t.P8 t.PG }
def Bd.enter{s:WS}{B:Int}(h:Bd s B){t:Ru}(ht:ZY t):Bd (s.enter t) (B+2199023255552):=by
 obtain⟨hf,h1,h2,h3,h4⟩:=h;have hp:∀p:Pn,0<=p.y->0<=p.m->p.m<=1099511627776->p.y+p.m<=B->Bd { s with PW:=eK p t.top t.PS } (B+2199023255552):=by
  intro p g1 g2 g3 g4;have a1:=ht.top;have a2:=ht.PS;refine⟨λf Uj=>(hf f Uj).mono (by omega),?_,?_,?_,?_⟩<;>simp only[eK,tF]<;>(repeat' split)<;>omega
 unfold WS.enter;simp only;split
 .rename_i hm;obtain⟨f,hfm,e1,_⟩:=mr hm;have e2:(mH t.clear f).1=f.y+f.h:=rfl;have UR:=hf f hfm;have hy:=UR.yB;have Ym:=UR.y0;have XY:=UR.h0;rw[e1,e2];refine hp _ ?_ ?_ ?_ ?_<;>(unfold jT;split)<;>(try simp only)<;>omega
 .exact hp _ h1 h2 h3 h4
def Bd.leave{s:WS}{B:Int}(h:Bd s B){t:Ru}(ht:ZY t):Bd (s.leave t) (B+2199023255552):=by
 obtain⟨hf,h1,h2,h3,h4⟩:=h;have a1:=ht.P8;have a2:=ht.PG;refine⟨λf Uj=>(hf f Uj).mono (by omega),?_,?_,?_,?_⟩<;>simp only[WS.leave,mn,tF]<;>(repeat' split)<;>omega
open Go.Proofs Go.Proofs.Tryz
structure Xb(l:List Nd)(rs:List Rm):Prop where
 sY:l.length<=2000
 WI:Qy l=true
 len:rs.length=l.length
 rok:∀r∈rs,r.ok
def Xb.room{l:List Nd}{rs:List Rm}(h:Xb l rs){a:Nat}(ha:a<l.length):∃h':a<rs.length,rs[a].ok:=⟨by rw[h.len];exact ha,h.rok _ (QL _)⟩
def Xb.span{l:List Nd}{rs:List Rm}(h:Xb l rs){a:Nat}(ha:a<l.length):Dx (eO rs a):=by
 obtain⟨h',r1,r2,r3,r4⟩:=h.room ha;have e:rs.getD a ⟨0,0⟩=rs[a]:=by simp[h']
 unfold eO Dx;rw[e];simp only;omega
def Dx.bq{s:QN}(h:Dx s):RB s.a/\RB s.b:=by obtain⟨a,b,c,d⟩:=h;exact⟨⟨by omega,by omega⟩,⟨by omega,by omega⟩⟩
def Bd.Xc{s:WS}{B:Int}(h:Bd s B)(hB:B<=1152921504606846976):∀f∈s.u',f.ok:=λf hf=>(h.fl f hf).ok hB
def jZ(l:List Nd){a:Nat}(h:a<l.length)(U:ag):bS U 20 (aQ l) (.int .i64 a)=some (.rp (.agg (Nd.cells l[a]))):=ee h
def Sk.mono{l:List Nd}{rs:List Rm}{Z0 U J:ag}{iw:Nat}{s:WS}(hJ:Sk l rs Z0 iw s U)(hs:aa U J):Sk l rs Z0 iw s J:=by
 obtain⟨va,vf,w1,h1,h2,h3⟩:=hJ.row;exact⟨hJ.sub.trans hs,hJ.no,va,vf,hs _ _ w1,h1.mono hs,h2.mono hs,h3⟩
def Iq{l:List Nd}{rs:List Rm}(hD:Xb l rs){Z0 U:ag}{iw:Nat}{s:WS}{B:Int}(hJ:Sk l rs Z0 iw s U)(hB:Bd s B)(hB1:B<=576460752303423488)(a:Nat)(ha:a<l.length)(hk:l[a].kind=3)(hn:s.atoms.length<=100000)(hfn:s.u'.length<=100000):
 aB prog 119 [.ptr iw 0 0,vI a] U λr Z'=>r=.PN []/\Sk l rs Z0 iw (WS.mono l rs s a l[a]) Z':=by
 obtain⟨va,vf,w1,Wp,Vj,hf2⟩:=hJ.row;obtain⟨ca,sa⟩:=Wp.vc;obtain⟨cf,sf⟩:=Vj.vc;have Qr:=gO hD.WI ha;have Ue:=hD.span ha;obtain⟨har,Xd⟩:=hD.room ha;have O':=jZ l ha;have Zh:∀n:Nd,V.agg (Nd.cells n)=ji n:=λ_=>rfl;unfold WS.mono;generalize l[a]=n at*;refine OI.r (by simp[Kz]) ?_;refine ae.mix 7 ?_;apply sR;simp only[go_sem,seval,Kz,w1,ca,cf,ay,ai,ak,au,O',Nd.cells];refine ad λi4 Z4 s4 a4 f4=>?_;simp only[go_sem,seval,a4,ak,au,dL];generalize Tl:C' Z4 i4 _=Y4;have b4:Y4 i4=some ⟨51,20,[.agg (Nd.cells n)]⟩:=by rw[<-Tl];exact af
 rw[Nd.cells]at b4;have XG:aa U Y4:=by rw[<-Tl];exact s4.aD f4
 clear Tl;have w4:=XG _ _ w1;have hlen:vN Y4 vf (aS s.u'):=(Vj.mono XG).Gu;have Sy:=hJ.mono XG;have hm:=hB.m1;have XH:=hB.m0;have Ym:=hB.y0;have hyB:=hB.yB;have hws:=Qr.w;have hhs:=Qr.h;have UW:=Gr s.u' n.w n.h (s.PW.y+s.PW.m) (eO rs a) (by omega) (hB.Xc (by omega)) ⟨by omega,by omega⟩ ⟨by omega,by omega⟩ Ue.bq;obtain⟨Qf,RG⟩:∃z,z=lX s.u' n.w n.h (eO rs a) (s.PW.y+s.PW.m):=⟨_,rfl⟩
 have hyr:=gm (w:=n.w) (high:=n.h) (y:=s.PW.y+s.PW.m) (s:=eO rs a) (λf hf=>(hB.fl f hf).yB);rw[<-RG]at UW hyr|-;obtain⟨b,hb⟩:∃b,b=ef s.u' Qf n.h (eO rs a):=⟨_,rfl⟩
 rw[<-hb]at UW|-;have fin:∀(S:Nat->V) (J:ag) (i5:Nat),aa Y4 J->J i5=some ⟨239,2,[.agg [vI b.a,vI b.b]]⟩->S 0=.ptr iw 0 0->S 1=vI a->S 4=.ptr i4 0 0->S 5=.ptr i5 0 0->S 6=vI Qf->
  ae prog 46 [It.code (.TB false [⟨some 35,.Qc (.t 0),none⟩,⟨some 36,.Qc (.t 1),none⟩,⟨some 37,.P9 false 0 1 (.t 5),none⟩,⟨some 38,.load false 1 (.t 37),none⟩,⟨some 39,.Qc (.t 6),none⟩,⟨some 40,.P9 false 18 1 (.t 4),none⟩,⟨some 41,.load false 1 (.t 40),none⟩,⟨some 42,.P9 false 19 1 (.t 4),none⟩,⟨some 43,.load false 1 (.t 42),none⟩,⟨some 44,.build [.int .i64 0,.int .i64 0,.int .i64 0,.int .i64 0,.int .i64 0,.int .i64 0,.int .i64 0,.int .i64 0] [(0,1,.c (.int .i64 2)),(1,1,.t 36),(4,1,.t 38),(5,1,.t 39),(6,1,.t 41),(7,1,.t 43)],none⟩,⟨some 45,.call (.c (.fn 142 [])) [.t 35,.t 44],none⟩])] ⟨S,J⟩
   (λst=>av (.PN []) st.U λr Z'=>r=.PN []/\Sk l rs Z0 iw (s.put ⟨2,a,0,0,b.a,Qf,n.w,n.h⟩) Z'):=by
  intro S J i5 WJ c5 t0 t1 t4 t5 t6;have c4:=WJ _ _ b4;refine ae.mix 7 ?_;apply sR;simp only[go_sem,seval,t0,t1,t4,t5,t6,c4,c5,ak];refine ae.call rfl rfl rfl (ED (Sy.mono WJ) ⟨2,a,0,0,b.a,Qf,n.w,n.h⟩ (show Bq Qf from⟨by omega,by omega⟩) (show Bq n.h from⟨by omega,by omega⟩) (by omega)) ?_;rintro r Z' ⟨rfl,RK⟩;apply sR;simp only[go_sem,seval];exact⟨_,_,aa.refl _,Wk.refl (aa.refl _) _,rfl,RK⟩
 refine ae.vW (by kernel_rfl) 8 (.fork [[],[0],[1,0],[2,1,0],[3,2,1,0],[],[5],[],[7],[],[9],[10,9],[11,10,9],[12,11,10,9],[],[],[14,15,13,12,11,10,9],[4,6,8,13,16,3,2,1,0,5,7,12,11,10,9,14,15],[17,4,6,8,13,16,3,2,1,0,5,7,12,11,10,9,14,15],[18,17,4,6,8,13,16,3,2,1,0,5,7,12,11,10,9,14,15],[18,17,4,6,8,13,16,3,2,1,0,5,7,12,11,10,9,14,15],[],[21,19,17,0,1,2,3,4,5,6,7,8,9,10,11,12,13,14,15,16,18],[20,22,0,1,2,3,4,5,6,7,8,9,10,11,12,13,14,15,16,17,18,19,21]] [0,1,2,3,4,5,6,7,8,9,10,11,12,14,15] [13,21] [(.fork [[],[0],[1,0],[2,1,0],[3,2,1,0],[],[5],[],[7],[],[9],[10,9],[11,10,9],[12,11,10,9],[],[],[14,15,13,12,11,10,9],[4,6,8,13,16,3,2,1,0,5,7,12,11,10,9,14,15],[17,4,6,8,13,16,3,2,1,0,5,7,12,11,10,9,14,15],[18,17,4,6,8,13,16,3,2,1,0,5,7,12,11,10,9,14,15],[18,17,4,6,8,13,16,3,2,1,0,5,7,12,11,10,9,14,15],[13,12,11,10,9],[13,12,11,10,9,21,19,17,0,1,2,3,4,5,6,7,8,14,15,16,18],[13,12,11,10,9,20,22,0,1,2,3,4,5,6,7,8,14,15,16,17,18,19,21]] [13] [16,21] [(.fork [[],[0],[1,0],[2,1,0],[3,2,1,0],[],[5],[],[7],[],[9],[10,9],[11,10,9],[12,11,10,9],[],[],[14,15,13,12,11,10,9],[4,6,8,13,16,3,2,1,0,5,7,12,11,10,9,14,15],[17,4,6,8,13,16,3,2,1,0,5,7,12,11,10,9,14,15],[18,17,4,6,8,13,16,3,2,1,0,5,7,12,11,10,9,14,15],[18,17,4,6,8,13,16,3,2,1,0,5,7,12,11,10,9,14,15],[16,14,15,13,12,11,10,9],[16,14,15,13,12,11,10,9,21,19,17,0,1,2,3,4,5,6,7,8,18],[16,14,15,13,12,11,10,9,20,22,0,1,2,3,4,5,6,7,8,17,18,19,21]] [16] [17,21] [(.leaf [[],[0],[1,0],[2,1,0],[3,2,1,0],[],[5],[],[7],[],[9],[10,9],[11,10,9],[12,11,10,9],[],[],[14,15,13,12,11,10,9],[4,6,8,13,16,3,2,1,0,5,7,12,11,10,9,14,15],[17,4,6,8,13,16,3,2,1,0,5,7,12,11,10,9,14,15],[18,17,4,6,8,13,16,3,2,1,0,5,7,12,11,10,9,14,15],[18,17,4,6,8,13,16,3,2,1,0,5,7,12,11,10,9,14,15],[17,4,6,8,13,16,3,2,1,0,5,7,12,11,10,9,14,15],[17,4,6,8,13,16,3,2,1,0,5,7,12,11,10,9,14,15,21,19,18],[17,4,6,8,13,16,3,2,1,0,5,7,12,11,10,9,14,15,20,22,18,19,21]] [17,18,19,20,21,22,23]),(.leaf [[],[0],[1,0],[2,1,0],[3,2,1,0],[],[5],[],[7],[],[9],[10,9],[11,10,9],[12,11,10,9],[],[],[14,15,13,12,11,10,9],[21,16,14,15,13,12,11,10,9,4,6,8,3,2,1,0,5,7],[21,16,14,15,13,12,11,10,9,17,4,6,8,3,2,1,0,5,7],[21,16,14,15,13,12,11,10,9,18,17,4,6,8,3,2,1,0,5,7],[21,16,14,15,13,12,11,10,9,18,17,4,6,8,3,2,1,0,5,7],[16,14,15,13,12,11,10,9],[21,16,14,15,13,12,11,10,9,19,17,0,1,2,3,4,5,6,7,8,18],[21,16,14,15,13,12,11,10,9,20,22,0,1,2,3,4,5,6,7,8,17,18,19]] [21,17,18,19,20,22,23])]),(.leaf [[],[0],[1,0],[2,1,0],[3,2,1,0],[],[5],[],[7],[],[9],[10,9],[11,10,9],[12,11,10,9],[],[],[21,13,12,11,10,9,14,15],[21,13,12,11,10,9,4,6,8,16,3,2,1,0,5,7,14,15],[21,13,12,11,10,9,17,4,6,8,16,3,2,1,0,5,7,14,15],[21,13,12,11,10,9,18,17,4,6,8,16,3,2,1,0,5,7,14,15],[21,13,12,11,10,9,18,17,4,6,8,16,3,2,1,0,5,7,14,15],[13,12,11,10,9],[21,13,12,11,10,9,19,17,0,1,2,3,4,5,6,7,8,14,15,16,18],[21,13,12,11,10,9,20,22,0,1,2,3,4,5,6,7,8,14,15,16,17,18,19]] [21,16,17,18,19,20,22,23])]),(.leaf [[],[0],[1,0],[2,1,0],[3,2,1,0],[],[5],[],[7],[],[9],[10,9],[11,10,9],[21,12,11,10,9],[],[],[21,14,15,13,12,11,10,9],[21,4,6,8,13,16,3,2,1,0,5,7,12,11,10,9,14,15],[21,17,4,6,8,13,16,3,2,1,0,5,7,12,11,10,9,14,15],[21,18,17,4,6,8,13,16,3,2,1,0,5,7,12,11,10,9,14,15],[21,18,17,4,6,8,13,16,3,2,1,0,5,7,12,11,10,9,14,15],[],[21,19,17,0,1,2,3,4,5,6,7,8,9,10,11,12,13,14,15,16,18],[21,20,22,0,1,2,3,4,5,6,7,8,9,10,11,12,13,14,15,16,17,18,19]] [21,13,16,17,18,19,20,22,23])]) (by kernel_rfl) ?_;refine GT.lh (its:=[0,2,4,6,8,10,12,14,16,18,20,22,24,28,30]) (by kernel_rfl) ?_;refine RE.Qx (n:=0) [] [0,2,4,6,8,10,12,14,16,18,20,22,24,28,30] [⟨(.some 15),(.Qc (.t 0)),.none⟩,⟨(.some 16),(.nilCheck (.t 15)),.none⟩,⟨(.some 17),(.P9 .true 0 3 (.t 16)),.none⟩,⟨(.some 18),(.P9 .false 1 1 (.t 17)),.none⟩,⟨(.some 19),(.load .false 1 (.t 18)),.none⟩,⟨(.some 20),(.P9 .false 18 1 (.t 4)),.none⟩,⟨(.some 21),(.load .false 1 (.t 20)),.none⟩,⟨(.some 22),(.P9 .false 19 1 (.t 4)),.none⟩,⟨(.some 23),(.load .false 1 (.t 22)),.none⟩,⟨(.some 24),(.Qc (.t 0)),.none⟩,⟨(.some 25),(.nilCheck (.t 24)),.none⟩,⟨(.some 26),(.P9 .true 3 2 (.t 25)),.none⟩,⟨(.some 27),(.load .true 2 (.t 26)),.none⟩,⟨(.some 29),(.Qc (.t 0)),.none⟩,⟨(.some 30),(.Qc (.t 1)),.none⟩] rfl rfl ?_;apply sG;simp only[go_sem,seval,b4,w4,ca,cf,ay,ai,ak,au];refine⟨?_,?_⟩
 .refine GT.lh (its:=[26,9,13,17]) (by kernel_rfl) ?_;refine RE.aC rfl rfl rfl rfl rfl (DM s.PW ⟨by omega,by omega⟩ ⟨by omega,by omega⟩ _) ?_;refine RE.QQ rfl rfl rfl rfl rfl trivial (by simp only[go_sem,seval,b4,w4,ca,cf,ay,ai,ak,au]) ?_;refine RE.QQ rfl rfl rfl rfl rfl trivial (by simp only[go_sem,seval,b4,w4,ca,cf,ay,ai,ak,au]) ?_;refine RE.QQ rfl rfl rfl rfl rfl trivial (by simp only[go_sem,seval,b4,w4,ca,cf,ay,ai,ak,au]) ?_;refine⟨?_,?_⟩
  .refine GT.lh (its:=[32,9,13,17]) (by kernel_rfl) ?_;refine RE.aC rfl rfl rfl rfl rfl (As Sy a har Xd) ?_;refine RE.QQ rfl rfl rfl rfl rfl trivial (by simp only[go_sem,seval,b4,w4,ca,cf,ay,ai,ak,au]) ?_;refine RE.QQ rfl rfl rfl rfl rfl trivial (by simp only[go_sem,seval,b4,w4,ca,cf,ay,ai,ak,au]) ?_;refine RE.QQ rfl rfl rfl rfl rfl trivial (by simp only[go_sem,seval,b4,w4,ca,cf,ay,ai,ak,au]) ?_;refine⟨?_,?_⟩
   .refine GT.eS (its:=[34,36,38,40,42,44,46]) (by kernel_rfl) ?_;refine RE.aC rfl rfl rfl rfl rfl (bb.A3 (args':=[aS s.u',vI n.w,vI n.h,vI (s.PW.y+s.PW.m),bh (eO rs a)]) ⟨hlen.at,TP _,TP _,TP _,TP _,trivial⟩ UW rfl) ?_;refine RE.Qx (n:=0) [] [36,38,40,42,44,46] [⟨(.some 14),(.Qc (.t 32)),.none⟩,⟨(.some 33),(.ext 0 (.t 14)),.none⟩,⟨(.some 34),(.ext 1 (.t 14)),.none⟩,⟨(.some 5),(.alloc 239 2 (.agg [(.int .i64 0),(.int .i64 0)])),.none⟩,⟨.none,(.store 2 (.t 5) (.t 33)),.none⟩,⟨(.some 6),(.Qc (.t 34)),.none⟩] rfl rfl ?_;apply sG;simp only[go_sem,seval,b4,w4,ca,cf,ay,ai,ak,au];refine bc λi5 Z5 s5 a5 f5=>?_;replace b4:=s5 _ _ b4;replace w4:=s5 _ _ w4;replace hlen:=hlen.mono s5;replace Sy:=Sy.mono s5;simp only[go_sem,seval,b4,w4,ca,cf,ay,ai,ak,au,a5,bh];exact fin _ _ i5 (s5.aD f5) af rfl rfl rfl rfl rfl
   .refine GT.eS (its:=[42,9,13,17,34,36,38,40,44,46]) (by kernel_rfl) ?_;refine RE.Qx (n:=0) [9,13,17,34,36,38,40,44,46] [42] [⟨(.some 5),(.alloc 239 2 (.agg [(.int .i64 0),(.int .i64 0)])),.none⟩] rfl rfl ?_;apply sG;simp only[go_sem,seval,b4,w4,ca,cf,ay,ai,ak,au];refine bc λi5 Z5 s5 a5 f5=>?_;replace b4:=s5 _ _ b4;replace w4:=s5 _ _ w4;replace hlen:=hlen.mono s5;replace Sy:=Sy.mono s5;simp only[go_sem,seval,b4,w4,ca,cf,ay,ai,ak,au,a5,bh];refine RE.QQ rfl rfl rfl rfl rfl trivial (by simp only[go_sem,seval,b4,w4,ca,cf,ay,ai,ak,au,a5,bh]) ?_;refine RE.QQ rfl rfl rfl rfl rfl trivial (by simp only[go_sem,seval,b4,w4,ca,cf,ay,ai,ak,au,a5,bh]) ?_;refine RE.QQ rfl rfl rfl rfl rfl trivial (by simp only[go_sem,seval,b4,w4,ca,cf,ay,ai,ak,au,a5,bh]) ?_;refine RE.aC rfl rfl rfl rfl rfl (bb.A3 (args':=[aS s.u',vI n.w,vI n.h,vI (s.PW.y+s.PW.m),bh (eO rs a)]) ⟨hlen.at,TP _,TP _,TP _,TP _,trivial⟩ UW rfl) ?_;refine RE.Qx (n:=0) [] [36,38,40,44,46] [⟨(.some 14),(.Qc (.t 32)),.none⟩,⟨(.some 33),(.ext 0 (.t 14)),.none⟩,⟨(.some 34),(.ext 1 (.t 14)),.none⟩,⟨.none,(.store 2 (.t 5) (.t 33)),.none⟩,⟨(.some 6),(.Qc (.t 34)),.none⟩] rfl rfl ?_;apply sG;simp only[go_sem,seval,b4,w4,ca,cf,ay,ai,ak,au,a5,bh];exact fin _ _ i5 (s5.aD f5) af rfl rfl rfl rfl rfl
  .refine GT.eS (its:=[42,9,13,17,32,9,13,17,34,36,38,40,44,46]) (by kernel_rfl) ?_;refine RE.Qx (n:=0) [9,13,17,32,9,13,17,34,36,38,40,44,46] [42] [⟨(.some 5),(.alloc 239 2 (.agg [(.int .i64 0),(.int .i64 0)])),.none⟩] rfl rfl ?_;apply sG;simp only[go_sem,seval,b4,w4,ca,cf,ay,ai,ak,au];refine bc λi5 Z5 s5 a5 f5=>?_;replace b4:=s5 _ _ b4;replace w4:=s5 _ _ w4;replace hlen:=hlen.mono s5;replace Sy:=Sy.mono s5;simp only[go_sem,seval,b4,w4,ca,cf,ay,ai,ak,au,a5,bh];refine RE.QQ rfl rfl rfl rfl rfl trivial (by simp only[go_sem,seval,b4,w4,ca,cf,ay,ai,ak,au,a5,bh]) ?_;refine RE.QQ rfl rfl rfl rfl rfl trivial (by simp only[go_sem,seval,b4,w4,ca,cf,ay,ai,ak,au,a5,bh]) ?_;refine RE.QQ rfl rfl rfl rfl rfl trivial (by simp only[go_sem,seval,b4,w4,ca,cf,ay,ai,ak,au,a5,bh]) ?_;refine RE.aC rfl rfl rfl rfl rfl (As Sy a har Xd) ?_;refine RE.QQ rfl rfl rfl rfl rfl trivial (by simp only[go_sem,seval,b4,w4,ca,cf,ay,ai,ak,au,a5,bh]) ?_;refine RE.QQ rfl rfl rfl rfl rfl trivial (by simp only[go_sem,seval,b4,w4,ca,cf,ay,ai,ak,au,a5,bh]) ?_;refine RE.QQ rfl rfl rfl rfl rfl trivial (by simp only[go_sem,seval,b4,w4,ca,cf,ay,ai,ak,au,a5,bh]) ?_;refine RE.aC rfl rfl rfl rfl rfl (bb.A3 (args':=[aS s.u',vI n.w,vI n.h,vI (s.PW.y+s.PW.m),bh (eO rs a)]) ⟨hlen.at,TP _,TP _,TP _,TP _,trivial⟩ UW rfl) ?_;refine RE.Qx (n:=0) [] [36,38,40,44,46] [⟨(.some 14),(.Qc (.t 32)),.none⟩,⟨(.some 33),(.ext 0 (.t 14)),.none⟩,⟨(.some 34),(.ext 1 (.t 14)),.none⟩,⟨.none,(.store 2 (.t 5) (.t 33)),.none⟩,⟨(.some 6),(.Qc (.t 34)),.none⟩] rfl rfl ?_;apply sG;simp only[go_sem,seval,b4,w4,ca,cf,ay,ai,ak,au,a5,bh];exact fin _ _ i5 (s5.aD f5) af rfl rfl rfl rfl rfl
 .refine GT.eS (its:=[42,9,13,17,25,26,9,13,17,32,9,13,17,34,36,38,40,44,46]) (by kernel_rfl) ?_;refine RE.Qx (n:=0) [9,13,17,25,26,9,13,17,32,9,13,17,34,36,38,40,44,46] [42] [⟨(.some 5),(.alloc 239 2 (.agg [(.int .i64 0),(.int .i64 0)])),.none⟩] rfl rfl ?_;apply sG;simp only[go_sem,seval,b4,w4,ca,cf,ay,ai,ak,au];refine bc λi5 Z5 s5 a5 f5=>?_;replace b4:=s5 _ _ b4;replace w4:=s5 _ _ w4;replace hlen:=hlen.mono s5;replace Sy:=Sy.mono s5;simp only[go_sem,seval,b4,w4,ca,cf,ay,ai,ak,au,a5,bh];refine RE.QQ rfl rfl rfl rfl rfl trivial (by simp only[go_sem,seval,b4,w4,ca,cf,ay,ai,ak,au,a5,bh]) ?_;refine RE.QQ rfl rfl rfl rfl rfl trivial (by simp only[go_sem,seval,b4,w4,ca,cf,ay,ai,ak,au,a5,bh]) ?_;refine RE.QQ rfl rfl rfl rfl rfl trivial (by simp only[go_sem,seval,b4,w4,ca,cf,ay,ai,ak,au,a5,bh]) ?_;refine RE.QQ rfl rfl rfl rfl rfl trivial (by simp only[go_sem,seval,b4,w4,ca,cf,ay,ai,ak,au,a5,bh]) ?_;refine RE.aC rfl rfl rfl rfl rfl (DM s.PW ⟨by omega,by omega⟩ ⟨by omega,by omega⟩ _) ?_;refine RE.QQ rfl rfl rfl rfl rfl trivial (by simp only[go_sem,seval,b4,w4,ca,cf,ay,ai,ak,au,a5,bh]) ?_;refine RE.QQ rfl rfl rfl rfl rfl trivial (by simp only[go_sem,seval,b4,w4,ca,cf,ay,ai,ak,au,a5,bh]) ?_;refine RE.QQ rfl rfl rfl rfl rfl trivial (by simp only[go_sem,seval,b4,w4,ca,cf,ay,ai,ak,au,a5,bh]) ?_;refine RE.aC rfl rfl rfl rfl rfl (As Sy a har Xd) ?_;refine RE.QQ rfl rfl rfl rfl rfl trivial (by simp only[go_sem,seval,b4,w4,ca,cf,ay,ai,ak,au,a5,bh]) ?_;refine RE.QQ rfl rfl rfl rfl rfl trivial (by simp only[go_sem,seval,b4,w4,ca,cf,ay,ai,ak,au,a5,bh]) ?_;refine RE.QQ rfl rfl rfl rfl rfl trivial (by simp only[go_sem,seval,b4,w4,ca,cf,ay,ai,ak,au,a5,bh]) ?_;refine RE.aC rfl rfl rfl rfl rfl (bb.A3 (args':=[aS s.u',vI n.w,vI n.h,vI (s.PW.y+s.PW.m),bh (eO rs a)]) ⟨hlen.at,TP _,TP _,TP _,TP _,trivial⟩ UW rfl) ?_;refine RE.Qx (n:=0) [] [36,38,40,44,46] [⟨(.some 14),(.Qc (.t 32)),.none⟩,⟨(.some 33),(.ext 0 (.t 14)),.none⟩,⟨(.some 34),(.ext 1 (.t 14)),.none⟩,⟨.none,(.store 2 (.t 5) (.t 33)),.none⟩,⟨(.some 6),(.Qc (.t 34)),.none⟩] rfl rfl ?_;apply sG;simp only[go_sem,seval,b4,w4,ca,cf,ay,ai,ak,au,a5,bh];exact fin _ _ i5 (s5.aD f5) af rfl rfl rfl rfl rfl
open Go.Proofs Go.Proofs.Tryz
def aU.B7{Z0 J:ag}{iw e sz:Nat}{v:V}{rows:List V}{o:Ob}(h:aU (bo Z0 iw) J e sz v rows):aU (bo Z0 iw) (C' J iw o) e sz v rows:=by
 rcases h with h|⟨id,h1,h2,h3⟩
 .exact .inl h
 .exact .inr ⟨id,h1,by rw[ab (aL.1 h3).1];exact h2,h3⟩
def aU.vY{Z0 J U:ag}{iw e sz:Nat}{v:V}{rows:List V}(h:aU J U e sz v rows)(hs:aa Z0 J){o:Ob}(hw:J iw=some o):aU (bo Z0 iw) U e sz v rows:=by
 rcases h with h|⟨id,h1,h2,h3⟩
 .exact .inl h
 .exact .inr ⟨id,h1,h2,aL.2 ⟨λe=>(by rw[e,hw]at h3;cases h3),hs.none h3⟩⟩
def Ey{l:List Nd}{rs:List Rm}(hD:Xb l rs){Z0 U:ag}{iw:Nat}{s:WS}{B:Int}(hJ:Sk l rs Z0 iw s U)(hB:Bd s B)(hB1:B<=576460752303423488)(a:Nat)(ha:a<l.length)(hn:s.atoms.length<=100000)(hfn:s.u'.length<=100000):
 aB prog 120 [.ptr iw 0 0,vI a] U λr Z'=>r=.PN []/\Sk l rs Z0 iw (WS.float rs s a l[a]) Z':=by
 obtain⟨va,vf,w1,Wp,Vj,hf2⟩:=hJ.row;obtain⟨ca,sa⟩:=Wp.vc;obtain⟨cf,sf⟩:=Vj.vc;have Tx:dR false va=some (.int .i64 s.atoms.length):=by rw[Wp.len];simp
 have Qr:=gO hD.WI ha;have Ue:=hD.span ha;obtain⟨har,Xd⟩:=hD.room ha;have O':=jZ l ha;unfold WS.float;generalize l[a]=n at*;refine PC.r (by simp[Kr]) ?_;refine ae.mix 6 ?_;apply sR;simp only[go_sem,seval,Kr,w1,ca,cf,ay,ai,ak,au,O',Nd.cells];refine ad λi4 Z4 s4 a4 f4=>?_;have w4':=s4 _ _ w1;have n4:=al w1 f4;simp only[go_sem,seval,a4,w4',ab n4,ca,cf,Tx,ay,ai,ak,au];generalize Tl:C' Z4 i4 _=Y4;have b4:Y4 i4=some ⟨51,20,[.agg (Nd.cells n)]⟩:=by rw[<-Tl];exact af
 rw[Nd.cells]at b4;have s4'':aa U Y4:=by rw[<-Tl];exact s4.aD f4
 clear Tl;have w4:=s4'' _ _ w1;refine bc λi5 Z5 s5 a5 f5=>?_;have s5':=s4''.trans s5;have SG:=hJ.mono (s5'.aD (o:=⟨143,7,[aX ⟨a,n.side,s.atoms.length,0,0,n.w,n.h⟩]⟩) (s4''.none f5));have Zh:aX ⟨a,n.side,s.atoms.length,0,0,n.w,n.h⟩=.agg [vI a,vI n.side,vI s.atoms.length,vI 0,vI 0,vI n.w,vI n.h]:=rfl;rw[Zh]at SG;simp only[go_sem,seval,a5,dL];generalize RC:C' Z5 i5 _=Y5 at*;have b5:Y5 i5=some ⟨143,7,[.agg [vI a,vI n.side,vI s.atoms.length,vI 0,vI 0,vI n.w,vI n.h]]⟩:=by rw[<-RC];exact af
 have w5:Y5 iw=some ⟨182,7,[.agg [va,vf,vI s.PM,vI s.PW.y,vI s.PW.m,aQ l,cT rs]]⟩:=by rw[<-RC,ab (al w4 f5)];exact s5 _ _ w4
 have s6:aa U Y5:=by rw[<-RC];exact s5'.aD (s4''.none f5)
 clear RC;have hf5:=Vj.mono s6;have hm:=hB.m1;have XH:=hB.m0;have Ym:=hB.y0;have hyB:=hB.yB;have hws:=Qr.w;have hhs:=Qr.h;have Zi:=Hr vf s.u' hf5 hf2 ⟨a,n.side,s.atoms.length,0,0,n.w,n.h⟩ (s.PW.y+s.PW.m) (eO rs a) (by omega) (hB.Xc (by omega)) ⟨by omega,by omega⟩ (show Bq n.h from⟨by omega,by omega⟩) (show Bq n.w from⟨by omega,by omega⟩) Ue.bq;rw[Zh]at Zi;have hpne:tR s.u' ⟨a,n.side,s.atoms.length,0,0,n.w,n.h⟩ (s.PW.y+s.PW.m) (eO rs a)≠[]:=by simp[tR]
 have hs05:=hJ.sub.trans s6;have w5o:=w5;generalize tR s.u' ⟨a,n.side,s.atoms.length,0,0,n.w,n.h⟩ (s.PW.y+s.PW.m) (eO rs a)=fs' at*;refine ae.vW (by kernel_rfl) 8 (.leaf [[],[],[1],[2,1],[3,2,1],[4,3,2,1],[],[],[7],[8,7],[9,8,7],[10,9,8,7],[],[],[12,13,11,10,9,8,7],[5,6,11,14,4,3,2,1,10,9,8,7,12,13],[0,1,2,3,4,5,6,7,8,9,10,11,12,13,14,15],[16,0,1,2,3,4,5,6,7,8,9,10,11,12,13,14,15],[17,0,1,2,3,4,5,6,7,8,9,10,11,12,13,14,15,16],[18,15,0,1,2,3,4,5,6,7,8,9,10,11,12,13,14,17,16]] [0,1,2,3,4,5,6,7,8,9,10,12,13,11,14,15,16,17,18,19]) (by kernel_rfl) ?_;refine GT.eS (its:=[0,2,4,6,8,10,12,14,16,18,20,24,26,22,11,13,28,11,13,30,32,34,36,38]) (by kernel_rfl) ?_;refine RE.Qx (n:=0) [22,11,13,28,11,13,30,32,34,36,38] [0,2,4,6,8,10,12,14,16,18,20,24,26] [⟨(.some 27),(.Qc (.t 0)),.none⟩,⟨(.some 28),(.Qc (.t 0)),.none⟩,⟨(.some 29),(.nilCheck (.t 28)),.none⟩,⟨(.some 30),(.P9 .true 0 3 (.t 29)),.none⟩,⟨(.some 31),(.P9 .false 1 1 (.t 30)),.none⟩,⟨(.some 32),(.load .false 1 (.t 31)),.none⟩,⟨(.some 33),(.load .true 7 (.t 5)),.none⟩,⟨(.some 34),(.Qc (.t 0)),.none⟩,⟨(.some 35),(.nilCheck (.t 34)),.none⟩,⟨(.some 36),(.P9 .true 3 2 (.t 35)),.none⟩,⟨(.some 37),(.load .true 2 (.t 36)),.none⟩,⟨(.some 39),(.Qc (.t 0)),.none⟩,⟨(.some 40),(.Qc (.t 1)),.none⟩] rfl rfl ?_;apply sG;simp only[go_sem,seval,b5,w5,ca,cf,ay,ai];refine RE.aC rfl rfl rfl rfl rfl (DM s.PW ⟨by omega,by omega⟩ ⟨by omega,by omega⟩ _) ?_;refine RE.QQ rfl rfl rfl rfl rfl trivial (by simp only[go_sem,seval,b5,w5,ca,cf,ay,ai]) ?_;refine RE.QQ rfl rfl rfl rfl rfl trivial (by simp only[go_sem,seval,b5,w5,ca,cf,ay,ai]) ?_;refine RE.aC rfl rfl rfl rfl rfl (As SG a har Xd) ?_;refine RE.QQ rfl rfl rfl rfl rfl trivial (by simp only[go_sem,seval,b5,w5,ca,cf,ay,ai]) ?_;refine RE.QQ rfl rfl rfl rfl rfl trivial (by simp only[go_sem,seval,b5,w5,ca,cf,ay,ai]) ?_;refine RE.call rfl rfl rfl rfl rfl Zi ?_;rintro r Z7 ⟨s7,R6⟩;have w7:=s7 _ _ w5;replace b5:=s7 _ _ b5;replace w5:=s7 _ _ w5;obtain⟨cr,sr⟩:=R6.vc;refine RE.Qx (n:=0) [] [32,34,36,38] [⟨(.some 43),(.nilCheck (.t 27)),.none⟩,⟨(.some 44),(.P9 .true 0 3 (.t 43)),.none⟩,⟨(.some 45),(.P9 .false 1 1 (.t 44)),.none⟩,⟨.none,(.store 1 (.t 45) (.t 42)),.none⟩] rfl rfl ?_;apply sG;simp only[go_sem,seval,b5,w5,ca,cf,ay,ai,cr,sr];apply sR;simp only[go_sem,seval];refine⟨_,_,aa.refl _,Wk.refl (aa.refl _) _,rfl,?_⟩;have hfa:=(Wp.mono s6).mono s7;exact⟨(hs05.trans s7).aD hJ.no,hJ.no,va,r,af,hfa.B7,(R6.vY hs05 w5o).B7,λh=>absurd h hpne⟩
open Go.Proofs Go.Proofs.Tryz
section
variable {P:Program} {n:Nat} {st:St} {Q:St->Prop} {k:List It}
def Go.xN{i:aK}{l:List aK}{fx:VX}{xs:List VX}{f:FuncId}{caps:List V}{v:V}(hw:bB st.s i.g=some true)(ho:i.op=.call fx xs)
 (hf:fx.ev st.s=.fn f caps)(hc:∀Z1,aa st.U Z1->aB P f (xs.map (·.ev st.s)++caps) Z1 λr Z'=>r=v/\Z'=Z1)(h:Go P n (.d l k) ⟨aZ st.s i.dst v,st.U⟩ Q):Go P n (.d (i::l) k) st Q:=by
 refine oT hw ?_;rw[ho];exact⟨f,caps,v,hf,λZ1 h1=>hc Z1 h1,h⟩
end
def jS{fs:List PI}{ws:List Int}{space high B:Int}{s:QN}(hB:∀f∈fs,f.y+f.h<=B)(h0:0<=high):∀(k i:Nat) (y:Int),∀x∈dT fs ws space high s k i y,y<=x.y/\x.y+high<=max y B+high*k
 |0,_,_,x,hx=>by simp[dT]at hx
 |k+1,i,y,x,hx=>by
  rw[dT]at hx;split at hx
  .have hr:=gm (w:=ws.getD i 0) (high:=high) (y:=y) (s:=s) hB;have e:(oI fs ws space high i y s).y=lX fs (ws.getD i 0) high s y:=rfl;have e2:high*((k+1:Nat):Int)=high*k+high:=by rw[Int.natCast_add,Int.mul_add];simp
   have hk:0<=high*(k:Int):=Int.mul_nonneg h0 (by omega);rcases dc.1 hx with rfl|hx
   .rw[e,e2];omega
   .have:=jS hB h0 k _ _ x hx;rw[e]at this;rw[e2];omega
  .cases hx
def Sk.oE{l:List Nd}{rs:List Rm}{Z0 U:ag}{iw i:Nat}{s:WS}{o:Ob}(hJ:Sk l rs Z0 iw s U)(hi:U i=some o)(h1:o.elem≠111)(h2:o.elem≠143)(h3:i≠iw):Sk l rs (C' Z0 i o) iw s U:=by
 obtain⟨va,vf,w1,g1,g2,g3⟩:=hJ.row;have key:∀{e sz:Nat} {v:V} {rows:List V},o.elem≠e->aU (bo Z0 iw) U e sz v rows->aU (bo (C' Z0 i o) iw) U e sz v rows:=λ{e sz v rows} he h=>by
  rcases h with h|⟨id,a1,a2,a3⟩
  .exact .inl h
  .have P':id≠i:=λe'=>by subst e';rw[a2]at hi;injection hi with hi;subst hi;exact he rfl
   exact .inr ⟨id,a1,a2,aL.2 ⟨(aL.1 a3).1,by rw[ab P'];exact(aL.1 a3).2⟩⟩
 refine⟨λj p h=>?_,by rw[ab h3.symm];exact hJ.no,va,vf,w1,key h1 g1,key h2 g2,g3⟩;by_cases e:j=i
 .subst e;rw[af]at h;rw[hi];exact h
 .rw[ab e]at h;exact hJ.sub _ _ h
def Sk.narrow{l:List Nd}{rs:List Rm}{Z0 U:ag}{iw i:Nat}{s:WS}{o:Ob}(hJ:Sk l rs (C' Z0 i o) iw s U)(hi:Z0 i=none)(h3:i≠iw):Sk l rs Z0 iw s U:=by
 obtain⟨va,vf,w1,g1,g2,g3⟩:=hJ.row;have hs:aa Z0 (C' Z0 i o):=(aa.refl Z0).aD hi;have key:∀{e sz:Nat} {v:V} {rows:List V},aU (bo (C' Z0 i o) iw) U e sz v rows->aU (bo Z0 iw) U e sz v rows:=λ{e sz v rows} h=>by
  rcases h with h|⟨id,a1,a2,a3⟩
  .exact .inl h
  .exact .inr ⟨id,a1,a2,aL.2 ⟨(aL.1 a3).1,hs.none (aL.1 a3).2⟩⟩
 exact⟨hs.trans hJ.sub,hs.none hJ.no,va,vf,w1,key g1,key g2,g3⟩
def jY{U:ag}{e sz id:Nat}{rows:List V}{i:Nat}(h:U id=some ⟨e,sz,rows⟩)(hi:i<rows.length):bS U sz (.own id 0 rows.length) (.int .i64 i)=some (.ptr id i 0):=by
 simp[bS,h,hi]
def iJ(a:Nat)(h:Int)(s:WS)(L:List Ln):WS:=L.foldl (λs x=>s.put (fg a h x)) s
def B9{a:Nat}{h:Int}{s:WS}{L:List Ln}{j:Nat}(hj:j<L.length):iJ a h s (L.take (j+1))=(iJ a h s (L.take j)).put (fg a h L[j]):=by
 unfold iJ;rw[Tp hj,wc];rfl
def qq(a:Nat)(h:Int):∀(L:List Ln) (s:WS),(iJ a h s L).atoms.length=s.atoms.length+L.length
 |[],s=>by simp[iJ]
 |x::L,s=>by
  have:=qq a h L (s.put (fg a h x));simp only[iJ,kf]at this|-;rw[this];simp only[WS.put,gY,Q4,List.length_nil];omega
def HW{l:List Nd}{rs:List Rm}(hD:Xb l rs){Z0 U:ag}{iw:Nat}{s:WS}{B:Int}(hJ:Sk l rs Z0 iw s U)(hB:Bd s B)(hB1:B<=288230376151711744)(a:Nat)(ha:a<l.length)(hn:s.atoms.length<=100000)(hfn:s.u'.length<=100000)(hwl:l[a].words.length<=10000):
 aB prog 118 [.ptr iw 0 0,vI a] U λr Z'=>r=.PN []/\Sk l rs Z0 iw (WS.text rs s a l[a]) Z':=by
 obtain⟨va,vf,w1,Wp,Vj,hf2⟩:=hJ.row;obtain⟨ca,sa⟩:=Wp.vc;obtain⟨cf,sf⟩:=Vj.vc;have Qr:=gO hD.WI ha;have Ue:=hD.span ha;obtain⟨har,Xd⟩:=hD.room ha;have O':=jZ l ha;unfold WS.text;generalize l[a]=n at*;have hwok:WOk n.words n.space:=⟨by omega,λx hx=>by have:=Qr.words x hx;omega,Qr.space.1,Qr.space.2⟩
 have hm:=hB.m1;have XH:=hB.m0;have Ym:=hB.y0;have hyB:=hB.yB;have Xe:=Qr.line;refine OH.r (by simp[Kx]) ?_;refine ae.mix 7 ?_;apply sR;simp only[go_sem,seval,Kx,w1,ca,cf,ay,ai,ak,au,O',Nd.cells];refine ad λi4 Z4 s4 a4 f4=>?_;have w4':=s4 _ _ w1;have n4:=al w1 f4;simp only[go_sem,seval,a4,w4',ab n4,ca,cf,ay,ai,ak,au];generalize Tl:C' Z4 i4 _=Y4;have b4:Y4 i4=some ⟨51,20,[.agg (Nd.cells n)]⟩:=by rw[<-Tl];exact af
 rw[Nd.cells]at b4;have XG:aa U Y4:=by rw[<-Tl];exact s4.aD f4
 clear Tl;have w4:=XG _ _ w1;have hlen:vN Y4 vf (aS s.u'):=(Vj.mono XG).Gu;have Sy:=hJ.mono XG;refine Go.bZ rfl rfl rfl (DM s.PW ⟨by omega,by omega⟩ ⟨by omega,by omega⟩) ?_;apply sG;simp only[go_sem,seval];refine Go.xN rfl rfl rfl (λZ8 h8=>As (Sy.mono h8) a har Xd) ?_;apply sG;simp only[go_sem,seval];have hLl:=kH s.u' n.words n.space n.line (eO rs a) n.words.length 0 (s.PW.y+s.PW.m);have hLb:=jS (ws:=n.words) (space:=n.space) (s:=eO rs a) (λf hf=>(hB.fl f hf).yB) Xe.1 n.words.length 0 (s.PW.y+s.PW.m);have H':=λZ8 (h8:aa Y4 Z8)=>(Gj vf s.u' (hlen.mono h8) n.words n.space n.line (s.PW.y+s.PW.m) (eO rs a) (by omega) (hB.Xc (by omega)) B (λf hf=>(hB.fl f hf).yB) (by omega) (by omega) (by omega) Xe.1 Xe.2 Ue.bq hwok).DW λ_ _ h=>h.2.Bl (v0:=qU (dT s.u' n.words n.space n.line (eO rs a) n.words.length 0 (s.PW.y+s.PW.m))) h.1 rfl;generalize dT s.u' n.words n.space n.line (eO rs a) n.words.length 0 (s.PW.y+s.PW.m)=L at*;refine Go.xN rfl rfl rfl (λZ8 h8=>H' Z8 h8) ?_;have hnL:dR false (qU L)=some (.int .i64 L.length):=by simp[qU,dR]
 apply sG;simp only[go_sem,seval,hnL];have h0i:Z0 i4=none:=hJ.sub.none f4;have hJw:=Sy.oE b4 (by simp) (by simp) n4.symm;have Tj:((n.words.length:Nat):Int)<=10000:=by omega
 have hmul:n.line*(n.words.length:Int)<=1099511627776*10000:=Int.mul_le_mul Xe.2 Tj (by omega) (by omega);refine ae.loop (λm st=>∃j:Nat,j<=L.length/\m=L.length-j/\Sk l rs (C' Z0 i4 ⟨51,20,[.agg [vI n.kind,vI n.size,vI n.st.top,vI n.st.P8,vI n.st.PS,vI n.st.PG,vI n.st.QE,vI n.st.Qk,vI n.st.Qw,vI n.st.head,vI n.st.before,vI n.st.after,vI n.st.inside,vI n.st.clear,vI n.line,vI n.space,bD n.words,vI n.side,vI n.w,vI n.h]]⟩) iw (iJ a n.line s (L.take j)) st.U/\
  st.s 0=.ptr iw 0 0/\st.s 1=vI a/\st.s 4=.ptr i4 0 0/\st.s 33=qU L/\st.s 34=vI L.length/\st.s 35=vI j) L.length ?_ ?_
 .exact⟨0,by omega,rfl,hJw,rfl,rfl,rfl,rfl,rfl,rfl⟩
 .rintro m ⟨S,J⟩ ⟨j,hj,rfl,Ry,t0,t1,t4,t33,t34,t35⟩;simp only at Ry t0 t1 t4 t33 t34 t35;refine ae.mix 7 ?_;have c4:=Ry.sub _ _ (af (id:=i4));by_cases H':j<L.length
  .have q:((j:Int)<L.length)=True:=PK;have VE:∀U,bS U 5 (qU L) (.int .i64 j)=some (.rp (nr L[j])):=λU=>by simp[qU,bS,H']
   have QF:=B9 (a:=a) (h:=n.line) (s:=s) H';have QD:=hLb L[j] (QL H');have Tx:=qq a n.line (L.take j) s;rw[kK]at Tx;generalize L[j]=x at*;have Zh:nr x=.agg [vI x.fr,vI x.to,vI x.x,vI x.y,vI x.w]:=rfl;apply sR;simp only[go_sem,seval,t0,t1,t4,t33,t34,t35,q,VE,Zh];refine ad λi6 Z6 s6 a6 f6=>?_;have d4:=s6 _ _ c4;have n46:=al c4 f6;simp only[go_sem,seval,a6,d4,t0,t1,t4,ab n46,ak];refine ae.call rfl rfl rfl (ED (Ry.mono (s6.aD f6)) (fg a n.line x) (show Bq x.y from⟨by omega,by omega⟩) (show Bq n.line from⟨by omega,by omega⟩) (by omega)) ?_;rintro r Z' ⟨rfl,RK⟩;have r1:PY .i64 ((j:Int)+1):=ar;apply sR;simp only[go_sem,seval,t0,t1,t4,t33,t34,t35,r1];exact⟨_,by omega,j+1,by omega,rfl,by rw[QF];exact RK,by simp[t0,t1,t4,t33,t34]⟩
  .have q:((j:Int)<L.length)=False:=PF;rw[nX (by omega)]at Ry;apply sR;simp only[go_sem,seval,t0,t1,t4,t33,t34,t35,q];exact⟨_,_,aa.refl _,Wk.refl (aa.refl _) _,rfl,Ry.narrow h0i n4.symm⟩
def nd0:Nd:=⟨0,0,Ru.zero,0,0,[],0,0,0⟩
def Qg(l:List Nd)(a:Nat):Nd:=l.getD a nd0
def jL{l:List Nd}{a:Nat}(h:a<l.length):Qg l a=l[a]:=by simp[Qg,h]
def eF(l:List Nd)(rs:List Rm):Nat->Nat->Nat->WS->WS
 |0,_,_,s=>s
 |k+1,a,e,s=>if a<e then eF l rs k (a+(Qn l a).toNat) e
   (if(Qg l a).kind=1 then(eF l rs k (a+1) (a+(Qn l a).toNat) (s.enter (Qg l a).st)).leave (Qg l a).st
    else if(Qg l a).kind=2 then s.text rs a (Qg l a)else if(Qg l a).kind=3 then WS.mono l rs s a (Qg l a)else s.float rs a (Qg l a))else s
def nM{l:List Nd}{rs:List Rm}{e:Nat}(he:e<=l.length):∀(k j a:Nat) (s:WS),e-a<=k->e-a<=j->cJ l a e=true->eF l rs k a e s=eF l rs j a e s
 |0,0,_,_,_,_,_=>rfl
 |0,j+1,a,s,h,_,_=>by rw[eF,eF,aH (by omega)]
 |k+1,0,a,s,_,h,_=>by rw[eF,eF,aH (by omega)]
 |k+1,j+1,a,s,h,h',hr=>by
  rw[eF,eF];by_cases H':a<e
  .obtain⟨h1,h2⟩:=dB he hr (Qt a) H';obtain⟨h3,h4⟩:=er he hr H';rw[aE H',aE H',nM (e:=a+(Qn l a).toNat) (by omega) k j _ _ (by omega) (by omega) h4,nM he k j _ _ (by omega) (by omega) h3]
  .rw[aH H',aH H']
def Q9(l:List Nd)(a e:Nat):Nat:=(((l.take e).drop a).map λn=>4+n.words.length).sum
def Hv(l:List Nd)(a:Nat):Q9 l a a=0:=by unfold Q9;rw[List.drop_of_length_le (by rw[kK];omega)];rfl
def lS{l:List Nd}{a m e:Nat}(h1:a<=m)(h2:m<=e)(h3:e<=l.length):Q9 l a e=Q9 l a m+Q9 l m e:=by
 unfold Q9;rw[<-List.sum_append_nat,<-fC];congr 2;have e1:l.take m=(l.take e).take m:=by rw[List.take_take,Nat.min_eq_left h2]
 rw[e1]
 conv=>lhs;rw[<-ua m (l.take e)]
 rw[FL (by rw[kK,kK];omega)]
def HZ{l:List Nd}{a:Nat}(h:a<l.length):Q9 l a (a+1)=4+l[a].words.length:=by
 unfold Q9;rw[Tp h,FL (by rw[kK];omega),List.drop_of_length_le (by rw[kK];omega)];simp
def vd{l:List Nd}{a e:Nat}(h1:a<e)(h3:e<=l.length):Q9 l a e=4+(Qg l a).words.length+Q9 l (a+1) e:=by
 rw[lS (Nat.le_succ a) h1 h3,HZ (by omega),jL (by omega)]
structure gq(s:WS)(C:Nat):Prop where
 bd:Bd s (1099511627776*(C:Int))
 Qf:s.atoms.length<=C
 fl:s.u'.length<=C
def gq.more{s:WS}{C D:Nat}(h:gq s C)(hD:C<=D):gq s D:=⟨h.bd.mono (by omega),mq h.Qf hD,mq h.fl hD⟩
def lN{l:List Nd}{rs:List Rm}{s:WS}{C:Nat}(h:gq s C){n:Nd}(hn:XE n)(a:Nat):gq (WS.mono l rs s a n) (C+1):=by
 obtain⟨⟨hf,h1,h2,h3,h4⟩,h5,h6⟩:=h;have hyr:=gm (w:=n.w) (high:=n.h) (y:=s.PW.y+s.PW.m) (s:=eO rs a) (λf Uj=>(hf f Uj).yB);have hh:=hn.h;refine⟨⟨λf Uj=>(hf f Uj).mono (by omega),?_,?_,?_,?_⟩,?_,?_⟩<;>simp only[WS.mono,WS.put,gY,Q4,List.length_nil]<;>omega
def ke{l:List Nd}{rs:List Rm}(hD:Xb l rs){s:WS}{C:Nat}(h:gq s C){a:Nat}(ha:a<l.length){n:Nd}(hn:XE n)(hk:n.kind=4):gq (s.float rs a n) (C+1):=by
 obtain⟨⟨hf,h1,h2,h3,h4⟩,h5,h6⟩:=h;have hb:=hn.box (.inr hk);have hw:=hn.w;have hh:=hn.h;refine⟨⟨λf Uj=>?_,h1,h2,h3,by simp only[WS.float];omega⟩,by simp only[WS.float];omega,by simp only[WS.float,tR,gY,Q4,List.length_nil];omega⟩;exact(HP (f:=⟨a,n.side,s.atoms.length,0,0,n.w,n.h⟩) hf (hD.span ha) (by omega) (by omega) (by simp only;omega) (by simp only;omega) (by simp only;omega) (by simp only;omega) f Uj).mono (by omega)
def lG{rs:List Rm}{s:WS}{C:Nat}(h:gq s C){n:Nd}(hn:XE n)(a:Nat):gq (s.text rs a n) (C+n.words.length):=by
 obtain⟨⟨hf,h1,h2,h3,h4⟩,h5,h6⟩:=h;have hl:=hn.line;unfold WS.text;have hLl:=kH s.u' n.words n.space n.line (eO rs a) n.words.length 0 (s.PW.y+s.PW.m);have hLb:=jS (ws:=n.words) (space:=n.space) (s:=eO rs a) (λf Uj=>(hf f Uj).yB) hl.1 n.words.length 0 (s.PW.y+s.PW.m);generalize dT s.u' n.words n.space n.line (eO rs a) n.words.length 0 (s.PW.y+s.PW.m)=L at*;have hmul:n.line*(n.words.length:Int)<=1099511627776*(n.words.length:Int):=Int.mul_le_mul_of_nonneg_right hl.2 (by omega);have XH:0<=n.line*(n.words.length:Int):=Int.mul_nonneg hl.1 (by omega);have key:∀(L:List Ln) (t:WS),(∀x∈L,s.PW.y+s.PW.m<=x.y/\x.y+n.line<=max (s.PW.y+s.PW.m) (1099511627776*(C:Int))+n.line*(n.words.length:Int))->t.u'=s.u'->0<=t.PW.y->0<=t.PW.m->t.PW.m<=1099511627776->
  t.PW.y+t.PW.m<=1099511627776*((C+n.words.length:Nat):Int)->(iJ a n.line t L).u'=s.u'/\0<=(iJ a n.line t L).PW.y/\0<=(iJ a n.line t L).PW.m/\(iJ a n.line t L).PW.m<=1099511627776/\(iJ a n.line t L).PW.y+(iJ a n.line t L).PW.m<=1099511627776*((C+n.words.length:Nat):Int):=by
  intro L
  induction L with
  |nil=>intro t _ g1 g2 g3 g4 g5;exact⟨g1,g2,g3,g4,g5⟩
  |cons x L ih=>
   intro t hx g1 g2 g3 g4 g5;have hx0:=hx x (by simp);exact ih (t.put (fg a n.line x)) (λy hy=>hx y (by simp[hy])) g1 (by simp only[WS.put,fg];omega) (by simp[WS.put]) (by simp[WS.put]) (by simp only[WS.put,fg];omega)
 obtain⟨k1,k2,k3,k4,k5⟩:=key L s hLb rfl h1 h2 h3 (by omega);have Tx:=qq a n.line L s;refine⟨⟨λf Uj=>(hf f ?_).mono (by omega),k2,k3,k4,k5⟩,?_,?_⟩
 .have:f∈(iJ a n.line s L).u':=Uj;rw[k1]at this;exact this
 .show(iJ a n.line s L).atoms.length<=_;omega
 .show(iJ a n.line s L).u'.length<=_;rw[k1];omega
def fi{s:WS}{C:Nat}(h:gq s C){t:Ru}(ht:ZY t):gq (s.enter t) (C+2):=⟨(h.bd.enter ht).mono (by omega),by have:=h.Qf;simp only[WS.enter];omega,by have:=h.fl;simp only[WS.enter];omega⟩
def j9{s:WS}{C:Nat}(h:gq s C){t:Ru}(ht:ZY t):gq (s.leave t) (C+2):=⟨(h.bd.leave ht).mono (by omega),by have:=h.Qf;simp only[WS.leave];omega,by have:=h.fl;simp only[WS.leave];omega⟩
def gT{l:List Nd}{rs:List Rm}(hD:Xb l rs):∀(k a e:Nat) (s:WS) (C:Nat),e-a<=k->a<=e->e<=l.length->cJ l a e=true->gq s C->gq (eF l rs k a e s) (C+Q9 l a e)
 |0,a,e,s,C,_,Vz,_,_,h=>h.more (Nat.le_add_right _ _)
 |k+1,a,e,s,C,hk,Vz,he,hr,h=>by
  rw[eF];by_cases H':a<e
  .rw[aE H'];obtain⟨h1,h2⟩:=dB he hr (Qt a) H';obtain⟨h3,h4⟩:=er he hr H';have Qr:XE (Qg l a):=by rw[jL (by omega)];exact gO hD.WI (by omega)
   have Xt:Q9 l a e=Q9 l a (a+(Qn l a).toNat)+Q9 l (a+(Qn l a).toNat) e:=lS (by omega) (by omega) he;have Yx:Q9 l a (a+(Qn l a).toNat)=4+(Qg l a).words.length+Q9 l (a+1) (a+(Qn l a).toNat):=vd (by omega) (by omega);have step:∀t,gq t (C+Q9 l a (a+(Qn l a).toNat))->gq (eF l rs k (a+(Qn l a).toNat) e t) (C+Q9 l a e):=λt ht=>by
    rw[Xt,<-Nat.add_assoc];exact gT hD k _ e t _ (by omega) (by omega) he h3 ht
   refine step _ ?_;rw[Yx];split
   .have:=j9 (gT hD k (a+1) (a+(Qn l a).toNat) _ _ (by omega) (by omega) (by omega) h4 (fi h Qr.st)) Qr.st;exact this.more (by omega)
   .split
    .exact(lG h Qr a).more (by omega)
    .split
     .exact(lN h Qr a).more (by omega)
     .rename_i g1 g2 g3;have hk4:(Qg l a).kind=4:=by have:=Qr.kind;omega
      exact(ke hD h (by omega) Qr hk4).more (by omega)
  .rw[aH H'];exact h.more (Nat.le_add_right _ _)
open Go.Proofs Go.Proofs.Tryz
def MK(l:List Nd)(rs:List Rm)(iw:Nat)(a e:Nat)(C:Nat):Prop:=
 ∀(s:WS) (Z0 U:ag),Sk l rs Z0 iw s U->gq s C->aB prog 92 [.ptr iw 0 0,vI a,vI e] U λr Z'=>r=.PN []/\Sk l rs Z0 iw (eF l rs (e-a) a e s) Z'
def Sk.GB{l:List Nd}{rs:List Rm}{Z0 J:ag}{iw:Nat}{s:WS}(hJ:Sk l rs Z0 iw s J){va vf:V}{y m:Int}(w:J iw=some ⟨182,7,[.agg [va,vf,vI s.PM,vI y,vI m,aQ l,cT rs]]⟩)(p:Pn):
 Sk l rs Z0 iw { s with PW:=p } (C' J iw ⟨182,7,[.agg [va,vf,vI s.PM,vI p.y,vI p.m,aQ l,cT rs]]⟩):=by
 obtain⟨va',TV,w',g1,g2,g3⟩:=hJ.row;rw[w]at w';simp only[bf,Ob.mk.injEq,List.cons.injEq,V.agg.injEq,true_and,and_true]at w';obtain⟨rfl,rfl,_⟩:=w';exact⟨hJ.sub.aD hJ.no,hJ.no,va,vf,af,g1.B7,g2.B7,g3⟩
def ki(s:Ru):V:=.agg [vI s.top,vI s.P8,vI s.PS,vI s.PG,vI s.QE,vI s.Qk,vI s.Qw,vI s.head,vI s.before,vI s.after,vI s.inside,vI s.clear]
def Fe{l:List Nd}{rs:List Rm}(hD:Xb l rs){Z0 U:ag}{iw:Nat}{s:WS}{C:Nat}(hJ:Sk l rs Z0 iw s U)(hI:gq s C)(hC:C<=50000)(a:Nat)(ha:a<l.length)(Q0:MK l rs iw (a+1) (a+(Qn l a).toNat) (C+2))(hC2:C+2+Q9 l (a+1) (a+(Qn l a).toNat)<=50000)
 (RS:a+(Qn l a).toNat<=l.length)(hrB:cJ l (a+1) (a+(Qn l a).toNat)=true)(Sn:1<=Qn l a):
 aB prog 117 [.ptr iw 0 0,vI a] U λr Z'=>r=.PN []/\Sk l rs Z0 iw ((eF l rs (a+(Qn l a).toNat-(a+1)) (a+1) (a+(Qn l a).toNat) (s.enter l[a].st)).leave l[a].st) Z':=by
 obtain⟨va,vf,w1,Wp,Vj,hf2⟩:=hJ.row;obtain⟨ca,sa⟩:=Wp.vc;obtain⟨cf,sf⟩:=Vj.vc;have Qr:=gO hD.WI ha;have O':=jZ l ha;have hszn:=mu ha;have YQ:=hD.sY;have q3:((a:Int)+l[a].size)=((a+(Qn l a).toNat:Nat):Int):=by rw[hszn];omega
 have q2:((a:Int)+1)=((a+1:Nat):Int):=by omega
 have hB:=hI.bd;have hm:=hB.m1;have XH:=hB.m0;have Ym:=hB.y0;have hyB:=hB.yB;have Tu:=hI.fl;refine Oh.r (by simp[JY]) ?_;refine ae.mix 7 ?_;apply sR;simp only[go_sem,seval,JY,w1,ca,cf,ay,ai,ak,au,O',Nd.cells];refine ad λi4 Z4 s4 a4 f4=>?_;have w4':=s4 _ _ w1;have n4:=al w1 f4;simp only[go_sem,seval,a4,w4',ab n4,ca,cf,ay,ai,ak,au];generalize Tl:C' Z4 i4 _=Y4;have b4:Y4 i4=some ⟨49,12,[ki l[a].st]⟩:=by rw[<-Tl];exact af
 have XG:aa U Y4:=by rw[<-Tl];exact s4.aD f4
 clear Tl;have w4:=XG _ _ w1;have hlen:vN Y4 vf (aS s.u'):=(Vj.mono XG).Gu;have h0i:Z0 i4=none:=hJ.sub.none f4;have Sy:=(hJ.mono XG).oE b4 (by simp) (by simp) n4.symm;refine Go.xN rfl rfl rfl (λZ8 h8=>bb.A3 (args':=[aS s.u',vI l[a].st.clear]) ⟨(hlen.mono h8).at,TP _,trivial⟩ (yV s.u' l[a].st.clear (by omega) (hB.Xc (by omega))) rfl) ?_;apply sG;simp only[go_sem,seval];obtain⟨s1,U4⟩:∃x,x=s.enter l[a].st:=⟨_,rfl⟩
 have hI1:=fi hI Qr.st;rw[<-U4]at hI1|-;unfold WS.enter at U4;simp only at U4;cases X9:(ek (mH l[a].st.clear) s.u').2
 .rw[X9]at U4;simp only[jz,↓reduceIte]at U4;simp only[go_sem,seval,dL];obtain⟨p,hp⟩:∃p:Pn,p=s.PW:=⟨_,rfl⟩
  have Zj:s1={ s with PW:=eK p l[a].st.top l[a].st.PS }:=by rw[U4,hp]
  have SG:Sk l rs (C' Z0 i4 ⟨49,12,[ki l[a].st]⟩) iw { s with PW:=p } Y4:=by rw[hp];exact Sy
  have w5:Y4 iw=some ⟨182,7,[.agg [va,vf,vI s.PM,vI p.y,vI p.m,aQ l,cT rs]]⟩:=by rw[hp];exact w4
  have b5:=b4;obtain⟨hp1,hp2,hp3,hp4⟩:0<=p.y/\0<=p.m/\p.m<=1099511627776/\p.y+p.m<=1099511627776*(C:Int):=by rw[hp];exact⟨Ym,XH,hm,hyB⟩
  clear hp;generalize Y4=Y5 at*;rw[ki]at b5;have Qi:=Qr.st;have k1:=Qi.top;have k2:=Qi.PS;have k3:=Qi.P8;have k4:=Qi.PG;refine ae.pF (by kernel_rfl) [0,1,2,3,4,5,6,7,8,9,10,11,12] [[],[],[1],[1,2],[1,2,3],[],[5],[],[7],[1,2,3,4,5,6,7,8],[0,1,2,3,4,5,6,7,8,9],[0,1,2,3,4,5,6,7,8,9,10],[0,1,2,3,4,5,6,7,8,9,10,11]] [0,2,4,6,8,10,12,14,16,18,20,22,24] (by kernel_rfl) (by kernel_rfl) ?_;refine RE.Qx (n:=0) [18,20,22,24] [0,2,4,6,8,10,12,14,16] [⟨(.some 36),(.Qc (.t 0)),.none⟩,⟨(.some 37),(.Qc (.t 0)),.none⟩,⟨(.some 38),(.nilCheck (.t 37)),.none⟩,⟨(.some 39),(.P9 .true 3 2 (.t 38)),.none⟩,⟨(.some 40),(.load .true 2 (.t 39)),.none⟩,⟨(.some 41),(.P9 .false 0 1 (.t 4)),.none⟩,⟨(.some 42),(.load .false 1 (.t 41)),.none⟩,⟨(.some 43),(.P9 .false 2 1 (.t 4)),.none⟩,⟨(.some 44),(.load .false 1 (.t 43)),.none⟩] rfl rfl ?_;apply sG;simp only[go_sem,seval,w5,b5,ca,cf,ay,ai];refine RE.aC rfl rfl rfl rfl rfl (C4 p l[a].st.top l[a].st.PS ⟨by omega,by omega⟩ ⟨by omega,by omega⟩ ⟨by omega,by omega⟩ ⟨by omega,by omega⟩ _) ?_;refine RE.Qx (n:=0) [] [20,22,24] [⟨(.some 46),(.nilCheck (.t 36)),.none⟩,⟨(.some 47),(.P9 .true 3 2 (.t 46)),.none⟩,⟨.none,(.store 2 (.t 47) (.t 45)),.none⟩] rfl rfl ?_;apply sG;simp only[go_sem,seval,w5,ir,ca,cf,ay,ai];have Uk:=SG.GB w5 (eK p l[a].st.top l[a].st.PS);rw[<-Zj]at Uk;have r1:PY .i64 ((a:Int)+1):=ar;have r2:PY .i64 ((a:Int)+l[a].size):=ar;have w6:=af (U:=Y5) (id:=iw) (o:=⟨182,7,[.agg [va,vf,vI s.PM,vI (eK p l[a].st.top l[a].st.PS).y,vI (eK p l[a].st.top l[a].st.PS).m,aQ l,cT rs]]⟩);have hc:=Q0 s1 _ _ Uk hI1;rw[<-q2,<-q3]at hc;generalize C' Y5 iw ⟨182,7,[.agg [va,vf,vI s.PM,vI (eK p l[a].st.top l[a].st.PS).y,vI (eK p l[a].st.top l[a].st.PS).m,aQ l,cT rs]]⟩=Y6 at*;apply sR;simp only[go_sem,seval,w6,O',Nd.cells,r1,r2,ca,cf,ay,ai,ak];refine ae.call rfl rfl rfl hc ?_;rintro r Z7 ⟨rfl,WK⟩;have hI7:=gT hD (a+(Qn l a).toNat-(a+1)) (a+1) (a+(Qn l a).toNat) s1 _ (Qt _) (by omega) RS hrB hI1;have b7:=WK.sub _ _ (af (id:=i4));rw[ki]at b7;generalize eF l rs (a+(Qn l a).toNat-(a+1)) (a+1) (a+(Qn l a).toNat) s1=s2 at*;obtain⟨va7,vf7,w7,g71,g72,_⟩:=WK.row;obtain⟨ca7,_⟩:=g71.vc;obtain⟨cf7,_⟩:=g72.vc;have m1:=hI7.bd.m1;have m2:=hI7.bd.m0;have m3:=hI7.bd.y0;have m4:=hI7.bd.yB;apply sR;simp only[go_sem,seval,dL];refine ae.pF (by kernel_rfl) [0,1,2,3,4,5,6,7,8,9,10,11,12] [[],[],[1],[1,2],[1,2,3],[],[5],[],[7],[1,2,3,4,5,6,7,8],[0,1,2,3,4,5,6,7,8,9],[0,1,2,3,4,5,6,7,8,9,10],[0,1,2,3,4,5,6,7,8,9,10,11]] [0,2,4,6,8,10,12,14,16,18,20,22,24] (by kernel_rfl) (by kernel_rfl) ?_;refine RE.Qx (n:=0) [18,20,22,24] [0,2,4,6,8,10,12,14,16] [⟨(.some 62),(.Qc (.t 0)),.none⟩,⟨(.some 63),(.Qc (.t 0)),.none⟩,⟨(.some 64),(.nilCheck (.t 63)),.none⟩,⟨(.some 65),(.P9 .true 3 2 (.t 64)),.none⟩,⟨(.some 66),(.load .true 2 (.t 65)),.none⟩,⟨(.some 67),(.P9 .false 1 1 (.t 4)),.none⟩,⟨(.some 68),(.load .false 1 (.t 67)),.none⟩,⟨(.some 69),(.P9 .false 3 1 (.t 4)),.none⟩,⟨(.some 70),(.load .false 1 (.t 69)),.none⟩] rfl rfl ?_;apply sG;simp only[go_sem,seval,w7,b7,ca7,cf7,ay,ai];refine RE.aC rfl rfl rfl rfl rfl (C3 s2.PW l[a].st.P8 l[a].st.PG ⟨by omega,by omega⟩ ⟨by omega,by omega⟩ ⟨by omega,by omega⟩ ⟨by omega,by omega⟩ _) ?_;refine RE.Qx (n:=0) [] [20,22,24] [⟨(.some 72),(.nilCheck (.t 62)),.none⟩,⟨(.some 73),(.P9 .true 3 2 (.t 72)),.none⟩,⟨.none,(.store 2 (.t 73) (.t 71)),.none⟩] rfl rfl ?_;apply sG;simp only[go_sem,seval,w7,ir,ca7,cf7,ay,ai];apply sR;simp only[go_sem,seval];exact⟨_,_,aa.refl _,Wk.refl (aa.refl _) _,rfl,(WK.GB w7 (mn s2.PW l[a].st.P8 l[a].st.PG)).narrow h0i n4.symm⟩
 .rw[X9]at U4;simp only[↓reduceIte]at U4;obtain⟨f,hfm,e1,_⟩:=mr X9;have e2:(mH l[a].st.clear f).1=f.y+f.h:=rfl;have UR:=hB.fl f hfm;generalize (ek (mH l[a].st.clear) s.u').1=low at*;simp only[go_sem,seval,w4,ca,cf,ay,ai];refine ae.aC rfl rfl rfl (Fh s.PW low ⟨by omega,by omega⟩ ⟨by omega,by omega⟩ _) ?_;apply sR;simp only[go_sem,seval,w4,ir,ca,cf,ay,ai,dL];obtain⟨p,hp⟩:∃p:Pn,p=jT s.PW low:=⟨_,rfl⟩
  rw[<-hp]at U4|-;have Zj:=U4;have SG:=Sy.GB w4 p;have w5:=af (U:=Y4) (id:=iw) (o:=⟨182,7,[.agg [va,vf,vI s.PM,vI p.y,vI p.m,aQ l,cT rs]]⟩);have b5:C' Y4 iw ⟨182,7,[.agg [va,vf,vI s.PM,vI p.y,vI p.m,aQ l,cT rs]]⟩ i4=some ⟨49,12,[ki l[a].st]⟩:=by rw[ab n4.symm];exact b4
  obtain⟨hp1,hp2,hp3,hp4⟩:0<=p.y/\0<=p.m/\p.m<=1099511627776/\p.y+p.m<=1099511627776*(C:Int):=by
   rw[hp];have hy:=UR.yB;have Ym:=UR.y0;have XY:=UR.h0;unfold jT;split<;>(try simp only)<;>omega
  clear hp;generalize C' Y4 iw ⟨182,7,[.agg [va,vf,vI s.PM,vI p.y,vI p.m,aQ l,cT rs]]⟩=Y5 at*;rw[ki]at b5;have Qi:=Qr.st;have k1:=Qi.top;have k2:=Qi.PS;have k3:=Qi.P8;have k4:=Qi.PG;refine ae.pF (by kernel_rfl) [0,1,2,3,4,5,6,7,8,9,10,11,12] [[],[],[1],[1,2],[1,2,3],[],[5],[],[7],[1,2,3,4,5,6,7,8],[0,1,2,3,4,5,6,7,8,9],[0,1,2,3,4,5,6,7,8,9,10],[0,1,2,3,4,5,6,7,8,9,10,11]] [0,2,4,6,8,10,12,14,16,18,20,22,24] (by kernel_rfl) (by kernel_rfl) ?_;refine RE.Qx (n:=0) [18,20,22,24] [0,2,4,6,8,10,12,14,16] [⟨(.some 36),(.Qc (.t 0)),.none⟩,⟨(.some 37),(.Qc (.t 0)),.none⟩,⟨(.some 38),(.nilCheck (.t 37)),.none⟩,⟨(.some 39),(.P9 .true 3 2 (.t 38)),.none⟩,⟨(.some 40),(.load .true 2 (.t 39)),.none⟩,⟨(.some 41),(.P9 .false 0 1 (.t 4)),.none⟩,⟨(.some 42),(.load .false 1 (.t 41)),.none⟩,⟨(.some 43),(.P9 .false 2 1 (.t 4)),.none⟩,⟨(.some 44),(.load .false 1 (.t 43)),.none⟩] rfl rfl ?_;apply sG;simp only[go_sem,seval,w5,b5,ca,cf,ay,ai];refine RE.aC rfl rfl rfl rfl rfl (C4 p l[a].st.top l[a].st.PS ⟨by omega,by omega⟩ ⟨by omega,by omega⟩ ⟨by omega,by omega⟩ ⟨by omega,by omega⟩ _) ?_;refine RE.Qx (n:=0) [] [20,22,24] [⟨(.some 46),(.nilCheck (.t 36)),.none⟩,⟨(.some 47),(.P9 .true 3 2 (.t 46)),.none⟩,⟨.none,(.store 2 (.t 47) (.t 45)),.none⟩] rfl rfl ?_;apply sG;simp only[go_sem,seval,w5,ir,ca,cf,ay,ai];have Uk:=SG.GB w5 (eK p l[a].st.top l[a].st.PS);rw[<-Zj]at Uk;have r1:PY .i64 ((a:Int)+1):=ar;have r2:PY .i64 ((a:Int)+l[a].size):=ar;have w6:=af (U:=Y5) (id:=iw) (o:=⟨182,7,[.agg [va,vf,vI s.PM,vI (eK p l[a].st.top l[a].st.PS).y,vI (eK p l[a].st.top l[a].st.PS).m,aQ l,cT rs]]⟩);have hc:=Q0 s1 _ _ Uk hI1;rw[<-q2,<-q3]at hc;generalize C' Y5 iw ⟨182,7,[.agg [va,vf,vI s.PM,vI (eK p l[a].st.top l[a].st.PS).y,vI (eK p l[a].st.top l[a].st.PS).m,aQ l,cT rs]]⟩=Y6 at*;apply sR;simp only[go_sem,seval,w6,O',Nd.cells,r1,r2,ca,cf,ay,ai,ak];refine ae.call rfl rfl rfl hc ?_;rintro r Z7 ⟨rfl,WK⟩;have hI7:=gT hD (a+(Qn l a).toNat-(a+1)) (a+1) (a+(Qn l a).toNat) s1 _ (Qt _) (by omega) RS hrB hI1;have b7:=WK.sub _ _ (af (id:=i4));rw[ki]at b7;generalize eF l rs (a+(Qn l a).toNat-(a+1)) (a+1) (a+(Qn l a).toNat) s1=s2 at*;obtain⟨va7,vf7,w7,g71,g72,_⟩:=WK.row;obtain⟨ca7,_⟩:=g71.vc;obtain⟨cf7,_⟩:=g72.vc;have m1:=hI7.bd.m1;have m2:=hI7.bd.m0;have m3:=hI7.bd.y0;have m4:=hI7.bd.yB;apply sR;simp only[go_sem,seval,dL];refine ae.pF (by kernel_rfl) [0,1,2,3,4,5,6,7,8,9,10,11,12] [[],[],[1],[1,2],[1,2,3],[],[5],[],[7],[1,2,3,4,5,6,7,8],[0,1,2,3,4,5,6,7,8,9],[0,1,2,3,4,5,6,7,8,9,10],[0,1,2,3,4,5,6,7,8,9,10,11]] [0,2,4,6,8,10,12,14,16,18,20,22,24] (by kernel_rfl) (by kernel_rfl) ?_;refine RE.Qx (n:=0) [18,20,22,24] [0,2,4,6,8,10,12,14,16] [⟨(.some 62),(.Qc (.t 0)),.none⟩,⟨(.some 63),(.Qc (.t 0)),.none⟩,⟨(.some 64),(.nilCheck (.t 63)),.none⟩,⟨(.some 65),(.P9 .true 3 2 (.t 64)),.none⟩,⟨(.some 66),(.load .true 2 (.t 65)),.none⟩,⟨(.some 67),(.P9 .false 1 1 (.t 4)),.none⟩,⟨(.some 68),(.load .false 1 (.t 67)),.none⟩,⟨(.some 69),(.P9 .false 3 1 (.t 4)),.none⟩,⟨(.some 70),(.load .false 1 (.t 69)),.none⟩] rfl rfl ?_;apply sG;simp only[go_sem,seval,w7,b7,ca7,cf7,ay,ai];refine RE.aC rfl rfl rfl rfl rfl (C3 s2.PW l[a].st.P8 l[a].st.PG ⟨by omega,by omega⟩ ⟨by omega,by omega⟩ ⟨by omega,by omega⟩ ⟨by omega,by omega⟩ _) ?_;refine RE.Qx (n:=0) [] [20,22,24] [⟨(.some 72),(.nilCheck (.t 62)),.none⟩,⟨(.some 73),(.P9 .true 3 2 (.t 72)),.none⟩,⟨.none,(.store 2 (.t 73) (.t 71)),.none⟩] rfl rfl ?_;apply sG;simp only[go_sem,seval,w7,ir,ca7,cf7,ay,ai];apply sR;simp only[go_sem,seval];exact⟨_,_,aa.refl _,Wk.refl (aa.refl _) _,rfl,(WK.GB w7 (mn s2.PW l[a].st.P8 l[a].st.PG)).narrow h0i n4.symm⟩
open Go.Proofs Go.Proofs.Tryz
def DR{l:List Nd}{rs:List Rm}{b e:Nat}(he:e<=l.length)(hr:cJ l b e=true)(H':b<e)(s:WS):
 eF l rs (e-b) b e s=eF l rs (e-(b+(Qn l b).toNat)) (b+(Qn l b).toNat) e
  (if(Qg l b).kind=1 then(eF l rs (b+(Qn l b).toNat-(b+1)) (b+1) (b+(Qn l b).toNat) (s.enter (Qg l b).st)).leave (Qg l b).st
   else if(Qg l b).kind=2 then s.text rs b (Qg l b)else if(Qg l b).kind=3 then WS.mono l rs s b (Qg l b)else s.float rs b (Qg l b)):=by
 obtain⟨h1,h2⟩:=dB he hr (Qt b) H';obtain⟨h3,h4⟩:=er he hr H';rw[show e-b=(e-b-1)+1 by omega,eF,aE H',nM (e:=b+(Qn l b).toNat) (by omega) (e-b-1) _ _ _ (by omega) (Qt _) h4,nM he (e-b-1) _ _ _ (by omega) (Qt _) h3]
def JN{l:List Nd}{rs:List Rm}(hD:Xb l rs)(hwl:∀n∈l,n.words.length<=10000){iw:Nat}:∀(m a e C:Nat),e-a<m->a<=e->e<=l.length->cJ l a e=true->C+Q9 l a e<=50000->MK l rs iw a e C:=by
 intro m
 induction m with
 |zero=>intro a e C h;omega
 |succ m ih=>?_
 intro a e C hm Vz he hrB hC s Z0 U hJ hI;have YQ:=hD.sY;refine e92.r (by simp[c92]) ?_;refine ae.mix 7 ?_;obtain⟨va0,vf0,w0,_,_,_⟩:=hJ.row;have Tg:∀f:FuncId,(V.bm f [.ptr iw 0 0]).cells=[.bm f [.ptr iw 0 0]]:=λ_=>rfl;have QD:∀f:FuncId,(V.bm f [.ptr iw 0 0]).stays=true:=λ_=>rfl;have Vt:V.Rj.cells=[.Rj]:=rfl;apply sR;simp only[go_sem,seval,c92,Tg,QD,Vt];refine ad λi6 Z6 s6 a6 f6=>?_;have n6:=al w0 f6;simp only[go_sem,seval,a6,Tg,QD,Vt];generalize XI:C' Z6 i6 _=Y6;have b6:Y6 i6=some ⟨219,5,[.agg [.Rj,.bm 117 [.ptr iw 0 0],.bm 118 [.ptr iw 0 0],.bm 119 [.ptr iw 0 0],.bm 120 [.ptr iw 0 0]]]⟩:=by rw[<-XI];exact af
 have s6':aa U Y6:=by rw[<-XI];exact s6.aD f6
 clear XI;have h0i:Z0 i6=none:=hJ.sub.none f6;have Uk:=(hJ.mono s6').oE b6 (by simp) (by simp) n6.symm;refine ae.loop (λq st=>∃(b:Nat) (s':WS),q=e-b/\a<=b/\b<=e/\cJ l b e=true/\eF l rs (e-a) a e s=eF l rs (e-b) b e s'/\gq s' (C+Q9 l a b)/\
  Sk l rs (C' Z0 i6 ⟨219,5,[.agg [.Rj,.bm 117 [.ptr iw 0 0],.bm 118 [.ptr iw 0 0],.bm 119 [.ptr iw 0 0],.bm 120 [.ptr iw 0 0]]]⟩) iw s' st.U/\
  st.s 0=.ptr iw 0 0/\st.s 1=vI b/\st.s 2=vI e/\st.s 6=.ptr i6 0 0) (e-a) ?_ ?_
 .exact⟨a,s,rfl,Qt _,Vz,hrB,rfl,by rw[Hv];exact hI,Uk,rfl,rfl,rfl,rfl⟩
 .rintro q ⟨S,J⟩ ⟨b,s',rfl,UY,Xy,hbB,heq,Yo,Zk,t0,t1,t2,t6⟩;simp only at Zk t0 t1 t2 t6;refine ae.mix 7 ?_;by_cases H':b<e
  .have q1:((b:Int)<(e:Int))=True:=PK;obtain⟨h1,h2⟩:=dB he hbB (Qt b) H';obtain⟨h3,h4⟩:=er he hbB H';have QX:b<l.length:=by omega
   have Qr:=gO hD.WI QX;have RS:=mu QX;have O':=jZ l QX;have Xt:Q9 l a e=Q9 l a b+Q9 l b e:=lS UY Xy he;have Yx:Q9 l b e=Q9 l b (b+(Qn l b).toNat)+Q9 l (b+(Qn l b).toNat) e:=lS (by omega) (by omega) he;have Sa:Q9 l b (b+(Qn l b).toNat)=4+(Qg l b).words.length+Q9 l (b+1) (b+(Qn l b).toNat):=vd (by omega) (by omega);have hc4:Q9 l a (b+(Qn l b).toNat)=Q9 l a b+Q9 l b (b+(Qn l b).toNat):=lS UY (by omega) (by omega);have Rh:=jL QX;have q3:((b:Int)+l[b].size)=((b+(Qn l b).toNat:Nat):Int):=by rw[RS];omega
   have r2:PY .i64 ((b:Int)+l[b].size):=ar;have Qi:=DR (rs:=rs) he hbB H' s';rw[Rh]at Qi Sa;have c6:=Zk.sub _ _ (af (id:=i6));obtain⟨va,vf,w1,g1,g2,_⟩:=Zk.row;obtain⟨ca,_⟩:=g1.vc;obtain⟨cf,_⟩:=g2.vc;have hBb:=Yo.bd.mono (C:=288230376151711744) (by omega);have Qm:∀s2,s2=(if l[b].kind=1 then(eF l rs (b+(Qn l b).toNat-(b+1)) (b+1) (b+(Qn l b).toNat) (s'.enter l[b].st)).leave l[b].st
    else if l[b].kind=2 then s'.text rs b l[b]else if l[b].kind=3 then WS.mono l rs s' b l[b]else s'.float rs b l[b])->gq s2 (C+Q9 l a (b+(Qn l b).toNat)):=by
     rintro s2 rfl;rw[hc4,Sa];split
     .exact(j9 (gT hD _ (b+1) (b+(Qn l b).toNat) _ _ (Qt _) (by omega) (by omega) h4 (fi Yo Qr.st)) Qr.st).more (by omega)
     .split
      .exact(lG Yo Qr b).more (by omega)
      .split
       .exact(lN Yo Qr b).more (by omega)
       .rename_i g1 g2 g3;exact(ke hD Yo QX Qr (by have:=Qr.kind;omega)).more (by omega)
   rcases Qr.kind with hk|hk|hk|hk
   .apply sR;simp only[go_sem,seval,q1,t0,t1,t2,t6,w1,c6,O',Nd.cells,hk,ca,cf,Tg,QD,Vt,ay,ai,ak];refine ae.kS rfl rfl rfl (Fe hD Zk Yo (by omega) b QX (ih (b+1) (b+(Qn l b).toNat) _ (by omega) (by omega) (by omega) h4 (by omega)) (by omega) (by omega) h4 h2) ?_;rintro r Z' ⟨rfl,RK⟩;have w2':=RK.row;obtain⟨va2,vf2,w2,g12,g22,_⟩:=w2';obtain⟨ca2,_⟩:=g12.vc;obtain⟨cf2,_⟩:=g22.vc;apply sR;simp only[go_sem,seval,t0,t1,t2,t6,w2,O',Nd.cells,r2,ca2,cf2,ay,ai,ak];refine⟨_,?_,b+(Qn l b).toNat,_,rfl,by omega,by omega,h3,by rw[heq,Qi],Qm _ rfl,?_,by simp[t0,t2,t6,q3]⟩
    .omega
    .simpa[hk]using RK
   .apply sR;simp only[go_sem,seval,q1,t0,t1,t2,t6,w1,c6,O',Nd.cells,hk,ca,cf,Tg,QD,Vt,ay,ai,ak];refine ae.kS rfl rfl rfl (HW hD Zk hBb (by omega) b QX (by have:=Yo.Qf;omega) (by have:=Yo.fl;omega) (hwl _ (QL QX))) ?_;rintro r Z' ⟨rfl,RK⟩;have w2':=RK.row;obtain⟨va2,vf2,w2,g12,g22,_⟩:=w2';obtain⟨ca2,_⟩:=g12.vc;obtain⟨cf2,_⟩:=g22.vc;apply sR;simp only[go_sem,seval,t0,t1,t2,t6,w2,O',Nd.cells,r2,ca2,cf2,ay,ai,ak];refine⟨_,?_,b+(Qn l b).toNat,_,rfl,by omega,by omega,h3,by rw[heq,Qi],Qm _ rfl,?_,by simp[t0,t2,t6,q3]⟩
    .omega
    .simpa[hk]using RK
   .apply sR;simp only[go_sem,seval,q1,t0,t1,t2,t6,w1,c6,O',Nd.cells,hk,ca,cf,Tg,QD,Vt,ay,ai,ak];refine ae.kS rfl rfl rfl (Iq hD Zk hBb (by omega) b QX hk (by have:=Yo.Qf;omega) (by have:=Yo.fl;omega)) ?_;rintro r Z' ⟨rfl,RK⟩;have w2':=RK.row;obtain⟨va2,vf2,w2,g12,g22,_⟩:=w2';obtain⟨ca2,_⟩:=g12.vc;obtain⟨cf2,_⟩:=g22.vc;apply sR;simp only[go_sem,seval,t0,t1,t2,t6,w2,O',Nd.cells,r2,ca2,cf2,ay,ai,ak];refine⟨_,?_,b+(Qn l b).toNat,_,rfl,by omega,by omega,h3,by rw[heq,Qi],Qm _ rfl,?_,by simp[t0,t2,t6,q3]⟩
    .omega
    .simpa[hk]using RK
   .apply sR;simp only[go_sem,seval,q1,t0,t1,t2,t6,w1,c6,O',Nd.cells,hk,ca,cf,Tg,QD,Vt,ay,ai,ak];refine ae.kS rfl rfl rfl (Ey hD Zk hBb (by omega) b QX (by have:=Yo.Qf;omega) (by have:=Yo.fl;omega)) ?_;rintro r Z' ⟨rfl,RK⟩;have w2':=RK.row;obtain⟨va2,vf2,w2,g12,g22,_⟩:=w2';obtain⟨ca2,_⟩:=g12.vc;obtain⟨cf2,_⟩:=g22.vc;apply sR;simp only[go_sem,seval,t0,t1,t2,t6,w2,O',Nd.cells,r2,ca2,cf2,ay,ai,ak];refine⟨_,?_,b+(Qn l b).toNat,_,rfl,by omega,by omega,h3,by rw[heq,Qi],Qm _ rfl,?_,by simp[t0,t2,t6,q3]⟩
    .omega
    .simpa[hk]using RK
  .have q1:((b:Int)<(e:Int))=False:=PF;apply sR;simp only[go_sem,seval,q1,t0,t1,t2,t6];refine⟨_,_,aa.refl _,Wk.refl (aa.refl _) _,rfl,?_⟩;have hz:eF l rs (e-b) b e s'=s':=by rw[show e-b=0 by omega];rfl
   rw[heq,hz];exact Zk.narrow h0i n6.symm
open Go.Proofs Go.Proofs.Tryz
def tU(n:Nat)(f:PI):PI:={ f with anchor:=max 0 (min f.anchor ((n:Int)-1)) }
def AE(s:WS):Int:=if(ek (mH 3) s.u').2 then max (s.PW.y+s.PW.m) (ek (mH 3) s.u').1 else s.PW.y+s.PW.m
def WS.fin(s:WS):WS:={ s with PM:=AE s,u':=s.u'.map (tU s.atoms.length) }
def iS(n j:Nat)(l:List PI):List PI:=(l.take j).map (tU n)++l.drop j
def nO(n j:Nat)(l:List PI):(iS n j l).length=l.length:=by unfold iS;simp;omega
def xu{n j:Nat}{l:List PI}(h:j<l.length):(iS n j l)[j]?=some l[j]:=by
 unfold iS;rw[HX (by simp;omega)];simp[h,Nat.min_eq_left (Nat.le_of_lt h)]
def wO{n j:Nat}{l:List PI}(h:j<l.length):(iS n j l).set j (tU n l[j])=iS n (j+1) l:=by
 unfold iS;have e1:((l.take j).map (tU n)).length=j:=by simp;omega
 have e2:l.drop j=l[j]::l.drop (j+1):=iy h;rw[List.set_append_right _ _ (by omega),e1,Nat.sub_self,e2,List.set_cons_zero,Tp h,fC];simp
def Sk.IV{l:List Nd}{rs:List Rm}{Z0 J:ag}{iw:Nat}{s:WS}(hJ:Sk l rs Z0 iw s J){va vf:V}{h0:Int}(w:J iw=some ⟨182,7,[.agg [va,vf,vI h0,vI s.PW.y,vI s.PW.m,aQ l,cT rs]]⟩)(h:Int):
 Sk l rs Z0 iw { s with PM:=h } (C' J iw ⟨182,7,[.agg [va,vf,vI h,vI s.PW.y,vI s.PW.m,aQ l,cT rs]]⟩):=by
 obtain⟨va',TV,w',g1,g2,g3⟩:=hJ.row;rw[w]at w';simp only[bf,Ob.mk.injEq,List.cons.injEq,V.agg.injEq,true_and,and_true]at w';obtain⟨rfl,rfl,_⟩:=w';exact⟨hJ.sub.aD hJ.no,hJ.no,va,vf,af,g1.B7,g2.B7,g3⟩
def Mq{l:List Nd}{rs:List Rm}{Z0 U:ag}{iw:Nat}{s:WS}{C:Nat}(hJ:Sk l rs Z0 iw s U)(hI:gq s C)(hC:C<=100000):
 aB prog 93 [.ptr iw 0 0] U λr Z'=>r=.PN []/\Sk l rs Z0 iw s.fin Z':=by
 obtain⟨va,vf,w1,Wp,Vj,hf2⟩:=hJ.row;obtain⟨ca,sa⟩:=Wp.vc;obtain⟨cf,sf⟩:=Vj.vc;have hB:=hI.bd;have hm:=hB.m1;have XH:=hB.m0;have Ym:=hB.y0;have hyB:=hB.yB;have Tu:=hI.fl;have Tx:=hI.Qf;have RN:dR false va=some (.int .i64 s.atoms.length):=by rw[Wp.len];simp
 have VZ:dR false vf=some (.int .i64 s.u'.length):=by rw[Vj.len];simp
 refine e93.r (by simp[c93]) ?_;refine ae.mix 5 ?_;apply sR;simp only[go_sem,seval,c93,w1,ca,cf,ay,ai];refine ae.aC rfl rfl rfl (DM s.PW ⟨by omega,by omega⟩ ⟨by omega,by omega⟩ _) ?_;apply sR;simp only[go_sem,seval,w1,ca,cf,ay,ai];have Vk:=hJ.IV w1 (s.PW.y+s.PW.m);have w2:=af (U:=U) (id:=iw) (o:=⟨182,7,[.agg [va,vf,vI (s.PW.y+s.PW.m),vI s.PW.y,vI s.PW.m,aQ l,cT rs]]⟩);have hf3:=Vj.B7 (o:=⟨182,7,[.agg [va,vf,vI (s.PW.y+s.PW.m),vI s.PW.y,vI s.PW.m,aQ l,cT rs]]⟩);generalize C' U iw ⟨182,7,[.agg [va,vf,vI (s.PW.y+s.PW.m),vI s.PW.y,vI s.PW.m,aQ l,cT rs]]⟩=Y2 at*;refine ae.aC rfl rfl rfl (bb.A3 (args':=[aS s.u',vI 3]) ⟨hf3.Gu.at,TP _,trivial⟩ (yV s.u' 3 (by omega) (hB.Xc (by omega))) rfl) ?_;cases X9:(ek (mH 3) s.u').2
 .have hh:AE s=s.PW.y+s.PW.m:=by unfold AE;rw[X9];rfl
  apply sR;simp only[go_sem,seval,w2,ca,cf,VZ,ay,ai];have Xf:Sk l rs Z0 iw { s with PM:=AE s } Y2:=by rw[hh];exact Vk
  refine ae.loop (λm st=>∃j:Nat,j<=s.u'.length/\m=s.u'.length-j/\Sk l rs Z0 iw { s with PM:=AE s,u':=iS s.atoms.length j s.u' } st.U/\st.s 0=.ptr iw 0 0/\st.s 40=vI s.u'.length/\st.s 41=vI j) s.u'.length ?_ ?_
  .exact⟨0,by omega,rfl,by simpa[iS]using Xf,rfl,rfl,rfl⟩
  .rintro m ⟨S,J⟩ ⟨j,hj,rfl,Ry,t0,t40,t41⟩;simp only at Ry t0 t40 t41;refine ae.mix 5 ?_;by_cases H':j<s.u'.length
   .have q:((j:Int)<s.u'.length)=True:=PK;obtain⟨va4,vf4,w4,g1,g2,g3⟩:=Ry.row;simp only at w4 g1 g2 g3;obtain⟨ca4,_⟩:=g1.vc;have hla4:dR false va4=some (.int .i64 s.atoms.length):=by rw[g1.len];simp
    have Wq:=nO s.atoms.length j s.u';rcases g2 with⟨_,h0⟩|⟨id,rfl,h2,h3⟩
    .exfalso;have:=congrArg List.length h0;rw[du,Wq]at this;simp only[List.length_nil]at this;omega
    have Rp:=xu (n:=s.atoms.length) H';have UF:=wO (n:=s.atoms.length) H';have Wr:((iS s.atoms.length j s.u').map aX)[j]?=some (aX s.u'[j]):=by rw[ph,Rp];rfl
    have VP:((iS s.atoms.length j s.u').map aX).length=s.u'.length:=by rw[du,Wq]
    have M':∀n,n=s.u'.length->bS J 7 (.own id 0 n) (.int .i64 j)=some (.ptr id j 0):=λn hn=>by subst hn;rw[<-VP];exact jY h2 (by rw[VP];exact H')
    generalize hfj:s.u'[j]=f at*;have Zh:aX f=.agg [vI f.node,vI f.side,vI f.anchor,vI f.x,vI f.y,vI f.w,vI f.h]:=rfl;rw[Zh]at Wr;have r1:PY .i64 ((s.atoms.length:Int)-1):=ar;have r2:PY .i64 ((j:Int)+1):=ar;have cf4:(V.own id 0 s.u'.length).cells=[.own id 0 s.u'.length]:=rfl;rw[VP]at w4;apply sR;simp only[go_sem,seval,t0,t40,t41,q,w4,ca4,cf4,hla4,h2,M' _ rfl,Wr,r1,r2,dy,fo,ay,ai];have P':iw≠id:=(aL.1 h3).1.symm;have Ws:=nO s.atoms.length (j+1) s.u';refine⟨_,by omega,j+1,by omega,rfl,⟨Ry.sub.aD (aL.1 h3).2,Ry.no,va4,.own id 0 s.u'.length,by rw[ab P'];exact w4,?_,.inr ⟨id,by rw[du,Ws],?_,h3⟩,λh=>?_⟩,rfl⟩
    .rcases g1 with h|⟨i1,k1,k2,k3⟩
     .exact .inl h
     .have hne1:i1≠id:=λe=>by rw[e,h2]at k2;simp at k2
      exact .inr ⟨i1,k1,by rw[ab hne1];exact k2,k3⟩
    .rw[af,<-UF,List.map_set];rfl
    .have:=congrArg List.length h;rw[Ws]at this;simp only[List.length_nil]at this;omega
   .have q:((j:Int)<s.u'.length)=False:=PF;apply sR;simp only[go_sem,seval,t0,t40,t41,q];refine⟨_,_,aa.refl _,Wk.refl (aa.refl _) _,rfl,?_⟩;have he:iS s.atoms.length j s.u'=s.u'.map (tU s.atoms.length):=by
     unfold iS;rw[nX (by omega),List.drop_of_length_le (by omega),kL]
    rw[he]at Ry;exact Ry
 .have hh:AE s=max (s.PW.y+s.PW.m) (ek (mH 3) s.u').1:=by unfold AE;rw[X9];rfl
  generalize (ek (mH 3) s.u').1=low at*;apply sR;simp only[go_sem,seval,w2,ca,cf,VZ,dy,ay,ai];have Xf:=Vk.IV w2 (max (s.PW.y+s.PW.m) low);simp only at Xf;rw[<-hh]at Xf|-;refine ae.loop (λm st=>∃j:Nat,j<=s.u'.length/\m=s.u'.length-j/\Sk l rs Z0 iw { s with PM:=AE s,u':=iS s.atoms.length j s.u' } st.U/\st.s 0=.ptr iw 0 0/\st.s 40=vI s.u'.length/\st.s 41=vI j) s.u'.length ?_ ?_
  .exact⟨0,by omega,rfl,by simpa[iS]using Xf,rfl,rfl,rfl⟩
  .rintro m ⟨S,J⟩ ⟨j,hj,rfl,Ry,t0,t40,t41⟩;simp only at Ry t0 t40 t41;refine ae.mix 5 ?_;by_cases H':j<s.u'.length
   .have q:((j:Int)<s.u'.length)=True:=PK;obtain⟨va4,vf4,w4,g1,g2,g3⟩:=Ry.row;simp only at w4 g1 g2 g3;obtain⟨ca4,_⟩:=g1.vc;have hla4:dR false va4=some (.int .i64 s.atoms.length):=by rw[g1.len];simp
    have Wq:=nO s.atoms.length j s.u';rcases g2 with⟨_,h0⟩|⟨id,rfl,h2,h3⟩
    .exfalso;have:=congrArg List.length h0;rw[du,Wq]at this;simp only[List.length_nil]at this;omega
    have Rp:=xu (n:=s.atoms.length) H';have UF:=wO (n:=s.atoms.length) H';have Wr:((iS s.atoms.length j s.u').map aX)[j]?=some (aX s.u'[j]):=by rw[ph,Rp];rfl
    have VP:((iS s.atoms.length j s.u').map aX).length=s.u'.length:=by rw[du,Wq]
    have M':∀n,n=s.u'.length->bS J 7 (.own id 0 n) (.int .i64 j)=some (.ptr id j 0):=λn hn=>by subst hn;rw[<-VP];exact jY h2 (by rw[VP];exact H')
    generalize hfj:s.u'[j]=f at*;have Zh:aX f=.agg [vI f.node,vI f.side,vI f.anchor,vI f.x,vI f.y,vI f.w,vI f.h]:=rfl;rw[Zh]at Wr;have r1:PY .i64 ((s.atoms.length:Int)-1):=ar;have r2:PY .i64 ((j:Int)+1):=ar;have cf4:(V.own id 0 s.u'.length).cells=[.own id 0 s.u'.length]:=rfl;rw[VP]at w4;apply sR;simp only[go_sem,seval,t0,t40,t41,q,w4,ca4,cf4,hla4,h2,M' _ rfl,Wr,r1,r2,dy,fo,ay,ai];have P':iw≠id:=(aL.1 h3).1.symm;have Ws:=nO s.atoms.length (j+1) s.u';refine⟨_,by omega,j+1,by omega,rfl,⟨Ry.sub.aD (aL.1 h3).2,Ry.no,va4,.own id 0 s.u'.length,by rw[ab P'];exact w4,?_,.inr ⟨id,by rw[du,Ws],?_,h3⟩,λh=>?_⟩,rfl⟩
    .rcases g1 with h|⟨i1,k1,k2,k3⟩
     .exact .inl h
     .have hne1:i1≠id:=λe=>by rw[e,h2]at k2;simp at k2
      exact .inr ⟨i1,k1,by rw[ab hne1];exact k2,k3⟩
    .rw[af,<-UF,List.map_set];rfl
    .have:=congrArg List.length h;rw[Ws]at this;simp only[List.length_nil]at this;omega
   .have q:((j:Int)<s.u'.length)=False:=PF;apply sR;simp only[go_sem,seval,t0,t40,t41,q];refine⟨_,_,aa.refl _,Wk.refl (aa.refl _) _,rfl,?_⟩;have he:iS s.atoms.length j s.u'=s.u'.map (tU s.atoms.length):=by
     unfold iS;rw[nX (by omega),List.drop_of_length_le (by omega),kL]
    rw[he]at Ry;exact Ry
open Go.Proofs Go.Proofs.Tryz
structure Gal where
 atoms:List QB
 u':List PI
 PM:Int
def FU(g:Gal):V:=.agg [bH g.atoms,aS g.u',vI g.PM]
def lJ(l:List Nd)(w:Int):List Rm:=dt l l.length 0 l.length ⟨0,w⟩
def JH(l:List Nd)(w:Int):WS:=(eF l (lJ l w) l.length 0 l.length ⟨[],[],0,⟨0,0⟩⟩).fin
def di(l:List Nd)(w:Int):Gal:=⟨(JH l w).atoms,(JH l w).u',(JH l w).PM⟩
def re{l:List Nd}(hb:Qy l=true):∀(k a e:Nat) (r:Rm),e<=l.length->cJ l a e=true->r.ok->∀q∈dt l k a e r,q.ok
 |0,_,_,_,_,_,_,q,hq=>by simp[dt]at hq
 |k+1,a,e,r,he,hr,P5,q,hq=>by
  rw[dt]at hq;split at hq
  .rename_i H';obtain⟨h1,h2⟩:=dB he hr (Qt a) H';obtain⟨h3,h4⟩:=er he hr H';rcases dc.1 hq with rfl|hq
   .exact P5
   .rcases ei.1 hq with hq|hq
    .obtain⟨g1,g2,_⟩:=Ev hb (a:=a) (by omega);exact re hb k _ _ _ (by omega) h4 (wX P5 (by rw[g1];exact g2)) q hq
    .exact re hb k _ _ _ he h3 P5 q hq
  .cases hq
def tS{l:List Nd}(hb:Qy l=true)(hn:l.length<=2000){w:Int}(h1:1<=w)(h2:w<=1099511627776):Xb l (lJ l w):=by
 have hr:cJ l 0 l.length=true:=by simp only[Qy,Ba]at hb;exact hb.2
 exact⟨hn,hb,by unfold lJ;rw[mj (Qt _) _ _ _ (by omega) (by omega) hr];omega,re hb _ _ _ _ (Qt _) hr ⟨by simp,by simp,h1,h2⟩⟩
def Ka(l:List Nd)(hl:ed l)(hb:Qy l=true)(hn:l.length<=2000)(hwl:∀n∈l,n.words.length<=10000)(hc:Q9 l 0 l.length<=50000)(hck:bb prog 53 [aQ l] (vI 0))(w:Int)(h1:1<=w)(h2:w<=1099511627776):
 bb prog 57 [aQ l,vI w] (.PN [FU (di l w),vI 0]):=λU=>by
 refine e57.r (by simp[c57]) ?_;have hs:=aa.refl U;have hD:=tS hb hn h1 h2;have hr:cJ l 0 l.length=true:=by simp only[Qy,Ba]at hb;exact hb.2
 refine ae.mix 8 ?_;apply sR;simp only[go_sem,seval,c57];refine ad λi4 Z4 s4 a4 f4=>?_;have z4:=hs.none f4;replace hs:=hs.trans s4;have RL:=rm w;rw[show decide (1<=w/\w<=1099511627776)=true by simp;omega]at RL;simp only[go_sem,seval];refine ae.aC rfl rfl rfl (RL _) ?_;have qz:((0:Int)≠0)=False:=PF (λh=>h rfl);apply sR;simp only[go_sem,seval];refine ae.aC rfl rfl rfl (hck _) ?_;apply sR;simp only[go_sem,seval,qz];refine ae.aC rfl rfl rfl (Hp l hl hb w h1 h2 _) ?_;have hrm:dt l l.length 0 l.length ⟨0,w⟩=lJ l w:=rfl;rw[hrm];apply sR;simp only[go_sem,seval,ai,aJ,ay,xE];refine ad λi23 Z23 s23 a23 f23=>?_;have hJ:Sk l (lJ l w) Z4 i23 ⟨[],[],0,⟨0,0⟩⟩ Z23:=⟨s23,f23,.aT,.aT,a23,aU.start,aU.start,λ_=>rfl⟩
 have hI:gq ⟨[],[],0,⟨0,0⟩⟩ 0:=⟨⟨by simp,by simp,by simp,by simp,by simp⟩,by simp,by simp⟩
 have hn0:=fe l;simp only[go_sem,seval,hn0];have Q0:=JN hD hwl (l.length+1) 0 l.length 0 (by omega) (by omega) (Qt _) hr (by omega) _ _ _ hJ hI;refine ae.call rfl rfl rfl Q0 ?_;rintro r Z5 ⟨rfl,SG⟩;have hI5:=gT hD (l.length-0) 0 l.length ⟨[],[],0,⟨0,0⟩⟩ 0 (by omega) (by omega) (Qt _) hr hI;apply sR;simp only[go_sem,seval];refine ae.call rfl rfl rfl (Mq SG hI5 (by omega)) ?_;rintro r Z6 ⟨rfl,Uk⟩;have hgl:di l w=⟨(eF l (lJ l w) (l.length-0) 0 l.length ⟨[],[],0,⟨0,0⟩⟩).fin.atoms,(eF l (lJ l w) (l.length-0) 0 l.length ⟨[],[],0,⟨0,0⟩⟩).fin.u',(eF l (lJ l w) (l.length-0) 0 l.length ⟨[],[],0,⟨0,0⟩⟩).fin.PM⟩:=rfl;rw[hgl];generalize (eF l (lJ l w) (l.length-0) 0 l.length ⟨[],[],0,⟨0,0⟩⟩).fin=s at*;obtain⟨va,vf,w6,g1,g2,_⟩:=Uk.row;obtain⟨ca,sa⟩:=g1.vc;obtain⟨cf,sf⟩:=g2.vc;have b4:=Uk.sub _ _ a4;have n423:=al a4 f23;apply sR;simp only[go_sem,seval,w6,b4,ca,sa,cf,sf,ay,ai,ab n423];have hK:aa U (bo Z4 i23):=λi o h=>by
  rw[bo,aH (λe=>by rw[e,hs.none f23]at h;cases h)];exact hs _ _ h
 have key:∀{e sz:Nat} {v:V} {rows:List V} {o:Ob},aU (bo Z4 i23) Z6 e sz v rows->aU (bo Z4 i23) (C' Z6 i4 o) e sz v rows:=λ{e sz v rows o} h=>by
  rcases h with h|⟨id,k1,k2,k3⟩
  .exact .inl h
  .exact .inr ⟨id,k1,by rw[ab (λe=>by rw[e]at k3;rw[(aL.1 k3).2]at a4;cases a4)];exact k2,k3⟩
 have Qm:∀o,aa U (C' Z6 i4 o):=λo=>(hs.trans Uk.sub).aD z4;refine⟨_,U,Qm _,Wk.PN (vs':=[FU ⟨s.atoms,s.u',s.PM⟩,vI 0]) ⟨Wk.agg (vs':=[bH s.atoms,aS s.u',vI s.PM]) ⟨(key g1).wk hK (Qm _),(key g2).wk hK (Qm _),Wk.refl (Qm _) _,trivial⟩,Wk.refl (Qm _) _,trivial⟩,rfl,rfl⟩
open Go.Proofs Go.Proofs.Tryz
def tG(node:Int):List Int->Nat
 |[]=>0
 |x::r=>if x=node then tG node r+1 else 0
def I7(node:Int):∀l,tG node l<=l.length
 |[]=>by simp[tG]
 |x::r=>by
  rw[tG];split
  .have:=I7 node r;simp only[Q4];omega
  .simp
def mi(of:List Int)(fr:Nat)(node:Int):Nat:=tG node (of.drop fr)
def wI(of:List Int)(fr:Nat)(node:Int):mi of fr node<=of.length-fr:=by
 have:=I7 node (of.drop fr);rw[wh]at this;exact this
def okN(x:Nd)(n:Nat):Bool:=if x.kind=2 then decide (1<=n/\n<=x.words.length)else if x.kind=3 then decide (n=1)else decide (n=0)
def zX(of:List Int):List Nd->Nat->Nat->Bool
 |[],_,Qf=>decide (Qf=of.length)
 |x::r,i,Qf=>okN x (mi of Qf i)&&zX of r (i+1) (Qf+mi of Qf i)
def qZ(l:List Nd)(of:List Int):Bool:=zX of l 0 0
def oG(l:List Nd)(of:List Int):V:=.agg [aQ l,bD of]
def nv(l:List Nd)(of:List Int):(oG l of).cells=[aQ l,bD of]:=rfl
def mP(l:List Nd)(of:List Int):(oG l of).stays=true:=rfl
def HG(l:List Nd)(of:List Int)(hn:of.length<=1000000)(fr:Nat)(hf:fr<=of.length)(node:Int):bb prog 148 [oG l of,vI fr,vI node] (vI (mi of fr node)):=λU=>by
 refine NM.r (by simp[K8]) ?_;have hs:=aa.refl U;have hl:=fU of;have htl:=wI of fr node;refine ae.mix 8 ?_;apply sR;simp only[go_sem,seval,K8,nv,mP,ai,ak,au,aJ];refine ad λi3 Z3 s3 a3 f3=>?_;have z3:=hs.none f3;replace hs:=hs.trans s3;have a3':Z3 i3=some ⟨225,2,[.agg [aQ l,bD of]]⟩:=a3;simp only[go_sem,seval];refine ae.loop (λm st=>∃j:Nat,fr+j<=of.length/\m=of.length-(fr+j)/\mi of fr node=j+tG node (of.drop (fr+j))/\st.U=Z3/\st.s 1=vI fr/\st.s 2=vI node/\st.s 3=.ptr i3 0 0/\st.s 7=vI j) (of.length-fr) ?_ ?_
 .exact⟨0,by omega,by omega,by simp[mi],rfl,rfl,rfl,rfl,rfl⟩
 .rintro m ⟨S,J⟩ ⟨j,hj,rfl,ht,Qj,t1,t2,t3,t7⟩;simp only at Qj t1 t2 t3 t7;subst Qj;refine ae.mix 8 ?_;have hjj:(fr:Int)+(j:Int)=((fr+j:Nat):Int):=by omega
  have r1:PY .i64 ((fr:Int)+j):=ar;have r2:PY .i64 ((j:Int)+1):=ar;by_cases H':fr+j<of.length
  .have q:(((fr+j:Nat):Int)<of.length)=True:=PK;have O':=λU=>iZ (U:=U) H';rw[iy H',tG]at ht;generalize of[fr+j]=x at*;rw[hjj]at r1;by_cases hx:x=node
   .rw[aE hx]at ht;have q2:(x=node)=True:=PK hx;apply sR;simp only[go_sem,seval,t1,t2,t3,t7,a3',hl,hjj,q,q2,O',r1,r2,ai,ak];exact⟨_,by omega,j+1,by omega,rfl,by rw[ht,show fr+(j+1)=fr+j+1 by omega];omega,by simp[t1,t2,t3]⟩
   .rw[aH hx]at ht;have q2:(x=node)=False:=PF hx;apply sR;simp only[go_sem,seval,t1,t2,t3,t7,a3',hl,hjj,q,q2,O',r1,r2,ai,ak];exact av.pure hs (by rw[ht];simp)
  .have q:(((fr+j:Nat):Int)<of.length)=False:=PF;rw[List.drop_of_length_le (by omega),tG]at ht;rw[hjj]at r1;apply sR;simp only[go_sem,seval,t1,t2,t3,t7,a3',hl,hjj,q,r1,r2,ai,ak];exact av.pure hs (by rw[ht];simp)
def M6(l:List Nd)(Wt:l.length<=100000)(of:List Int)(hn:of.length<=1000000)(hm:qZ l of=true):bb prog 123 [oG l of] (.bool true):=λU=>by
 refine O8.r (by simp[Jj]) ?_;have hs:=aa.refl U;have hl:=fU of;have Si:=fe l;refine ae.mix 7 ?_;apply sR;simp only[go_sem,seval,Jj,nv,mP,ai,ak,au,aJ];refine ad λi1 Z1 s1 a1 f1=>?_;have z1:=hs.none f1;replace hs:=hs.trans s1;have a1':Z1 i1=some ⟨225,2,[.agg [aQ l,bD of]]⟩:=a1;simp only[go_sem,seval,a1',Si,ai,ak];refine ae.loop (λm st=>∃(i Qf:Nat),i<=l.length/\m=l.length-i/\Qf<=of.length/\zX of (l.drop i) i Qf=true/\aa Z1 st.U/\st.s 1=.ptr i1 0 0/\st.s 3=vI Qf/\st.s 8=aQ l/\st.s 9=vI l.length/\st.s 10=vI i) l.length ?_ ?_
 .exact⟨0,0,by omega,rfl,by omega,by simpa[qZ]using hm,aa.refl _,rfl,rfl,rfl,rfl,rfl⟩
 .rintro m ⟨S,J⟩ ⟨i,Qf,hi,rfl,RG,VQ,G',t1,t3,t8,t9,t10⟩;simp only at G' t1 t3 t8 t9 t10;refine ae.mix 7 ?_;have b1:=G' _ _ a1';by_cases H':i<l.length
  .have q:((i:Int)<l.length)=True:=PK;have O':=jZ l H';rw[iy H',zX,Ba]at VQ;obtain⟨P5,VQ⟩:=VQ;have htl:=wI of Qf i;have htc:=HG l of hn Qf RG i;generalize mi of Qf i=n at*;generalize l[i]=x at*;apply sR;simp only[go_sem,seval,t1,t3,t8,t9,t10,q,O',Nd.cells];refine ad λi5 Z5 s5 a5 f5=>?_;have c1:=s5 _ _ b1;have Yp:=al b1 f5;simp only[go_sem,seval,a5,c1,t1,t3,t8,t9,t10,ab Yp,ai,ak,au];refine ae.aC rfl rfl rfl (htc _) ?_;have hwl:dR false (bD x.words)=some (.int .i64 x.words.length):=fU _;have r1:PY .i64 ((i:Int)+1):=ar;have r2:PY .i64 ((Qf:Int)+n):=ar;have q5:((Qf:Int)+n)=((Qf+n:Nat):Int):=by omega
   rw[q5]at r2;unfold okN at P5;by_cases k2:x.kind=2
   .rw[aE k2]at P5;simp only[Sp]at P5;have p1:((n:Int)<1)=False:=PF;have p2:((n:Int)>x.words.length)=False:=PF;have p0:(x.kind=2)=True:=PK k2;apply sR;simp only[go_sem,seval,t1,t3,t8,t9,t10,c1,ab Yp,p0,p1,p2,hwl,r1,r2,q5,ak,au];exact⟨_,by omega,i+1,Qf+n,by omega,rfl,by omega,VQ,G'.trans (s5.aD f5),by simp[t1,t8,t9]⟩
   .rw[aH k2]at P5;have p0:(x.kind=2)=False:=PF k2;by_cases k3:x.kind=3
    .rw[aE k3]at P5;simp only[Sp]at P5;have p3:(x.kind=3)=True:=PK k3;have p1:((n:Int)≠1)=False:=PF;apply sR;simp only[go_sem,seval,t1,t3,t8,t9,t10,c1,ab Yp,p0,p3,p1,r1,r2,q5,ak,au];exact⟨_,by omega,i+1,Qf+n,by omega,rfl,by omega,VQ,G'.trans (s5.aD f5),by simp[t1,t8,t9]⟩
    .rw[aH k3]at P5;simp only[Sp]at P5;have p3:(x.kind=3)=False:=PF k3;have p1:((n:Int)>0)=False:=PF;apply sR;simp only[go_sem,seval,t1,t3,t8,t9,t10,c1,ab Yp,p0,p3,p1,r1,r2,q5,ak,au];exact⟨_,by omega,i+1,Qf+n,by omega,rfl,by omega,VQ,G'.trans (s5.aD f5),by simp[t1,t8,t9]⟩
  .have q:((i:Int)<l.length)=False:=PF;rw[List.drop_of_length_le (by omega),zX,Sp]at VQ;have q2:((Qf:Int)=of.length)=True:=PK;apply sR;simp only[go_sem,seval,t1,t3,t8,t9,t10,q,b1,hl,q2,ai,ak];exact av.pure (hs.trans G') rfl
def pr(l:List Nd)(hf:ed l)(hb:Qy l=true)(of:List Int)(hn:of.length<=1000000)(hm:qZ l of=true):bb prog 94 [aQ l,bD of] (vI 0):=λU=>by
 refine e94.r (by simp[c94]) ?_;have hv:=Cp l hf;rw[hb]at hv;have hl1:=hf.1;refine ae.mix 5 ?_;apply sR;simp only[go_sem,seval,c94];refine ae.aC rfl rfl rfl (hv _) ?_;apply sR;simp only[go_sem,seval,ai,ak,au,aJ];refine ae.aC rfl rfl rfl (M6 l (by omega) of hn hm _) ?_;apply sR;simp only[go_sem,seval];exact av.same rfl
open Go.Proofs Go.Proofs.Tryz
def yi(l:List Nd)(a b:Int):Bool:=decide (a<=b/\b<a+Qn l a.toNat)
def Gk(l:List Nd)(hb:Qy l=true)(hn:l.length<=100000)(a:Nat)(ha:a<l.length)(b:Int)(h0:0<=b)(h1:b<=1000000):bb prog 191 [aQ l,vI a,vI b] (.bool (yi l a b)):=λU=>by
 refine OF.r (by simp[IH]) ?_;have O':=jZ l ha;have RS:=mu ha;have hsb:=rz hb ha;refine ae.mix 7 ?_;unfold yi;rw[fp,RS];rw[RS]at hsb;by_cases h:(a:Int)<=b
 .have q:((a:Int)<=b)=True:=PK h;have r1:PY .i64 ((a:Int)+l[a].size):=ar;apply sR;simp only[go_sem,seval,IH,q,O',Nd.cells,r1];exact av.same (by simp[h])
 .have q:((a:Int)<=b)=False:=PF h;apply sR;simp only[go_sem,seval,IH,q];exact av.same (by simp[h])
def V0(l:List Nd)(of:List Int)(b k:Int):Bool:=if 0<=k/\k<of.length then yi l b (of.getD k.toNat 0)else false
def B4(l:List Nd)(hb:Qy l=true)(hn:l.length<=100000)(of:List Int)(QU:of.length<=1000000)(Q7:∀x∈of,0<=x/\x<l.length)(b:Nat)(QX:b<l.length)(k:Int){U:ag}{i4 i9:Nat}(h4:U i4=some ⟨23,1,[bD of]⟩)(h9:U i9=some ⟨225,2,[oG l of]⟩):
 aB prog 190 [vI b,vI k,.ptr i4 0 0,.ptr i9 0 0] U λr Z'=>r=.bool (V0 l of b k)/\Z'=U:=by
 refine OA.r (by simp[Fk]) ?_;have hl:=fU of;rw[oG]at h9;refine ae.mix 7 ?_;unfold V0;by_cases TK:0<=k
 .have q0:(k>=0)=True:=PK TK;obtain⟨j,rfl⟩:∃j:Nat,k=j:=⟨k.toNat,by omega⟩
  by_cases R0:(j:Int)<of.length
  .have q1:((j:Int)<of.length)=True:=PK R0;have Ta:j<of.length:=by omega
   have O':=λU=>iZ (U:=U) Ta;have hx:=Q7 _ (QL Ta);have Vs:of.getD j 0=of[j]:=by simp[Ta]
   rw[aE ⟨TK,R0⟩,fp,Vs];apply sR;simp only[go_sem,seval,Fk,q0,q1,h4,h9,hl,O',ai,ak];refine Go.bZ rfl rfl rfl (Gk l hb hn b QX of[j] hx.1 (by omega)) ?_;apply sG;simp only[go_sem,seval];exact av.same rfl
  .have q1:((j:Int)<of.length)=False:=PF R0;rw[aH (λh=>R0 h.2)];apply sR;simp only[go_sem,seval,Fk,q0,q1,h4,h9,hl,ai,ak];exact av.same rfl
 .have q0:(k>=0)=False:=PF TK;rw[aH (λh=>TK h.1)];apply sR;simp only[go_sem,seval,Fk,q0];exact av.same rfl
structure Bz(l:List Nd)(of:List Int)(k:Int)(i4 i5 i9 Qb:Nat)(U:ag):Prop where
 r4:U i4=some ⟨23,1,[bD of]⟩
 r5:U i5=some ⟨3,1,[vI k]⟩
 r9:U i9=some ⟨225,2,[oG l of]⟩
 VU:U Qb=some ⟨201,1,[.fn 190 [.ptr i4 0 0,.ptr i9 0 0]]⟩
def Bz.mono{l:List Nd}{of:List Int}{k:Int}{i4 i5 i9 Qb:Nat}{U J:ag}(h:Bz l of k i4 i5 i9 Qb U)(hs:aa U J):Bz l of k i4 i5 i9 Qb J:=⟨hs _ _ h.r4,hs _ _ h.r5,hs _ _ h.r9,hs _ _ h.VU⟩
def Lw(l:List Nd)(hb:Qy l=true)(hn:l.length<=100000)(of:List Int)(QU:of.length<=1000000)(Q7:∀x∈of,0<=x/\x<l.length)(b:Nat)(QX:b<l.length)(k:Int){U:ag}{i4 i5 i9 Qb:Nat}(h:Bz l of k i4 i5 i9 Qb U):
 aB prog 193 [vI b,.ptr Qb 0 0,.ptr i5 0 0] U λr Z'=>r=.bool (!V0 l of b k)/\Z'=U:=by
 refine N2.r (by simp[K2]) ?_;have r5:=h.r5;have VU:=h.VU;refine ae.mix 5 ?_;apply sR;simp only[go_sem,seval,K2,r5,VU];refine ae.aC rfl rfl rfl (B4 l hb hn of QU Q7 b QX k h.r4 h.r9) ?_;apply sR;simp only[go_sem,seval];exact av.same rfl
def Lb(l:List Nd)(hb:Qy l=true)(hn:l.length<=100000)(of:List Int)(QU:of.length<=1000000)(Q7:∀x∈of,0<=x/\x<l.length)(b:Nat)(QX:b<l.length)(k:Int)(TK:0<=k)(R0:k<=1000000){U:ag}{i4 i5 i9 Qb:Nat}(h:Bz l of k i4 i5 i9 Qb U):
 aB prog 194 [vI b,.ptr Qb 0 0,.ptr i5 0 0] U λr Z'=>r=.bool (!V0 l of b (k-1))/\Z'=U:=by
 refine Oq.r (by simp[LQ]) ?_;have r5:=h.r5;have VU:=h.VU;have r1:PY .i64 (k-1):=ar;refine ae.mix 5 ?_;apply sR;simp only[go_sem,seval,LQ,r5,VU,r1];refine ae.aC rfl rfl rfl (B4 l hb hn of QU Q7 b QX (k-1) h.r4 h.r9) ?_;apply sR;simp only[go_sem,seval];exact av.same rfl
def Lc(l:List Nd)(hb:Qy l=true)(hn:l.length<=100000)(of:List Int)(QU:of.length<=1000000)(Q7:∀x∈of,0<=x/\x<l.length)(b:Nat)(QX:b<l.length)(k:Int)(TK:0<=k)(R0:k<=1000000){U:ag}{i4 i5 i9 Qb:Nat}(h:Bz l of k i4 i5 i9 Qb U):
 aB prog 196 [vI b,.ptr Qb 0 0,.ptr i5 0 0] U λr Z'=>r=.bool (V0 l of b (k-1))/\Z'=U:=by
 refine Pf.r (by simp[LN]) ?_;have r5:=h.r5;have VU:=h.VU;have r1:PY .i64 (k-1):=ar;refine ae.mix 5 ?_;apply sR;simp only[go_sem,seval,LN,r5,VU,r1];refine ae.aC rfl rfl rfl (B4 l hb hn of QU Q7 b QX (k-1) h.r4 h.r9) ?_;apply sR;simp only[go_sem,seval];exact av.same rfl
def AM(l:List Nd)(hl:ed l)(hb:Qy l=true)(hn:l.length<=100000)(a:Nat)(ha:a<l.length):Iter prog 213 [.rp (aQ l),.rp (vI a)] ((TU l a).map λn=>[vI n]):=by
 refine⟨MB.c,λQe τ Jx Z0 hy hJ=>?_⟩;refine(MB.r (by simp[JA]) ?_).2;have UY:=A6 l hl hb hn a ha;have Tx:=jD l (l.length+1) (eT l a);have e0:(TU l a).length<=l.length+1:=Tx;have hlen:=fU (TU l a);generalize TU l a=L at*;have ldA:∀U,cj U false 1 (.rp (aQ l))=some (aQ l):=λU=>rfl;have ldB:∀U (n:Int),cj U false 1 (.rp (vI n))=some (vI n):=λU n=>rfl;refine ae.mix 6 ?_;apply sR;simp only[go_sem,seval,JA,ldA,ldB];refine ae.aC rfl rfl rfl (UY _) ?_;apply sR;simp only[go_sem,seval,hlen];refine ae.loop (λm st=>∃(j:Nat) (ZJ:ag),j<=L.length/\m=L.length-j/\τ ((L.take j).map λn=>[vI n]) ZJ/\aa ZJ st.U/\st.s 0=.yl Qe/\st.s 8=bD L/\st.s 9=vI L.length/\st.s 10=vI j) L.length ?_ ?_
 .exact⟨0,Z0,by omega,rfl,by simpa using hJ,aa.refl _,rfl,rfl,rfl,rfl⟩
 .rintro m ⟨S,J⟩ ⟨j,ZJ,hj,rfl,Ry,G',t0,t8,t9,t10⟩;simp only at G' t0 t8 t9 t10;refine ae.mix 6 ?_;by_cases H':j<L.length
  .have q:((j:Int)<L.length)=True:=PK;have O':=λU=>iZ (U:=U) H';have QF:L.take (j+1)=L.take j++[L[j]]:=Tp H';have e:(L.map λn=>[vI n])=((L.take j).map λn=>[vI n])++[vI L[j]]::((L.drop (j+1)).map λn=>[vI n]):=by
    have e0':L=L.take j++L[j]::L.drop (j+1):=by rw[<-iy H',ua]
    have:=congrArg (List.map λn=>[vI n]) e0'
    rwa [fC,eD]at this
   generalize L[j]=x at*;have r1:PY .i64 ((j:Int)+1):=ar;apply sR;simp only[go_sem,seval,t0,t8,t9,t10,q,O'];refine ae.mZ (Post:=λb Z2=>∃Qd,bp ZJ J Qd Z2/\((b=true/\τ (((L.take j).map λn=>[vI n])++[[vI x]]) Qd)\/(b=false/\Jx (((L.take j).map λn=>[vI n])++[[vI x]]) Qd))) rfl rfl rfl (hy _ [vI x] _ ZJ J e Ry G') ?_;rintro b Z2 ⟨Qd,QV,QH⟩;rcases QH with⟨rfl,QH⟩|⟨rfl,QH⟩
   .apply sR;simp only[go_sem,seval,t0,t8,t9,t10,r1];refine⟨_,?_,j+1,Qd,by omega,rfl,by rw[QF];simpa using QH,QV.1,by simp[t0,t8,t9]⟩;omega
   .apply sR;simp only[go_sem,seval,t0];refine⟨_,Qd,QV.1,Wk.refl QV.1 _,.inr ⟨_,?_,QH⟩⟩;rw[e];exact⟨(L.drop (j+1)).map λn=>[vI n],by simp⟩
  .have q:((j:Int)<L.length)=False:=PF;rw[nX (by omega)]at Ry;apply sR;simp only[go_sem,seval,t0,t8,t9,t10,q];exact⟨_,ZJ,G',Wk.refl G' _,.inl Ry⟩
def GL(l:List Nd)(a:Int):bb prog 208 [aQ l,vI a] (.fn 213 [.rp (aQ l),.rp (vI a)]):=λU=>by
 refine NH.r (by simp[KA]) ?_;refine ae.mix 4 ?_;have q1:=ai l;have q2:=aJ l;generalize aQ l=x at*;apply sR;simp only[go_sem,seval,KA,q1,q2];refine ad λTi Z1 s1 a1 f1=>?_;simp only[go_sem,seval];refine ad λU0 Z2 s2 a2 f2=>?_;simp only[go_sem,seval];exact⟨_,U,s1.trans s2,Wk.fn (vs':=[.rp x,.rp (vI a)]) ⟨Wk.ptr (s1.trans s2) (s2 _ _ a1) f1,Wk.ptr (s1.trans s2) a2 (s1.none f2),trivial⟩,rfl,rfl⟩
open Go.Proofs Go.Proofs.Tryz
def UI(l:List Nd)(of:List Int)(k:Int)(p:Int->Bool):List Int:=if 0<=k/\k<of.length then(TU l (of.getD k.toNat 0).toNat).filter p else[]
def pC{l:List Nd}{a:Nat}(ha:a<l.length):∀x∈TU l a,∃n:Nat,x=n/\n<a:=λx hx=>by
 have:=Et l _ _ x hx;have h2:=fV l a;exact⟨x.toNat,by omega,by omega⟩
def rD{p:Int->Bool}{L:List Int}{j:Nat}{x:Int}(h:L[j]?=some x):(L.take (j+1)).filter p=(L.take j).filter p++if p x then[x]else[]:=by
 rw[Ib,h,List.filter_append];cases hp:p x<;>simp[hp]
def tZ(l:List Nd)(hl:ed l)(hb:Qy l=true)(hn:l.length<=100000)(of:List Int)(QU:of.length<=1000000)(Q7:∀x∈of,0<=x/\x<l.length)(k:Int)(g:FuncId)(caps:List V)(p:Int->Bool){U:ag}
 (hg:∀b:Nat,b<l.length->∀J,aa U J->aB prog g (vI b::caps) J λr Z'=>r=.bool (p b)/\Z'=J):
 aB prog 192 [oG l of,vI k,.fn g caps] U λr Z'=>aa U Z'/\aU U Z' 3 1 r ((UI l of k p).map vI)/\(UI l of k p=[]->r=.aT):=by
 refine Pc.r (by simp[Lv]) ?_;have hs:=aa.refl U;have Tj:=fU of;refine ae.mix 9 ?_;apply sR;simp only[go_sem,seval,Lv,nv,mP,ai,ak,au,aJ];refine ad λi3 Z3 s3 a3 f3=>?_;have z3:=hs.none f3;replace hs:=hs.trans s3;simp only[go_sem,seval];refine ad λi5 Z5 s5 a5 f5=>?_;have Vg:=al a3 f5;replace a3:=s5 _ _ a3;have z5:=hs.none f5;replace hs:=hs.trans s5;have a3':Z5 i3=some ⟨225,2,[.agg [aQ l,bD of]]⟩:=a3;by_cases TK:k<0
 .have q0:(k<0)=True:=PK TK;have hc:UI l of k p=[]:=by unfold UI;rw[aH (by omega)]
  simp only[go_sem,seval,q0];rw[hc];exact⟨_,_,aa.refl _,Wk.refl (aa.refl _) _,hs,aU.start,λ_=>rfl⟩
 have q0:(k<0)=False:=PF TK;obtain⟨j,rfl⟩:∃j:Nat,k=j:=⟨k.toNat,by omega⟩
 by_cases R0:(j:Int)>=of.length
 .have q1:((j:Int)>=of.length)=True:=PK R0;have hc:UI l of j p=[]:=by unfold UI;rw[aH (by omega)]
  simp only[go_sem,seval,q0,a3',Tj,q1,ai,ak];rw[hc];exact⟨_,_,aa.refl _,Wk.refl (aa.refl _) _,hs,aU.start,λ_=>rfl⟩
 have q1:((j:Int)>=of.length)=False:=PF R0;have Ta:j<of.length:=by omega
 have O':=λU=>iZ (U:=U) Ta;obtain⟨hx0,hx1⟩:=Q7 _ (QL Ta);have Vs:of.getD j 0=of[j]:=by simp[Ta]
 have hc:UI l of j p=(TU l of[j].toNat).filter p:=by unfold UI;rw[aE ⟨by omega,by omega⟩,fp,Vs]
 rw[hc];simp only[go_sem,seval,q0,a3',Tj,q1,ai,ak];refine ad λi7 Z7 s7 a7 f7=>?_;have b3:=s7 _ _ a3';have b5:=s7 _ _ a5;simp only[go_sem,seval,b3,O',ai,ak];obtain⟨x,hx⟩:∃x:Nat,of[j]=x:=⟨of[j].toNat,by omega⟩
 rw[hx]at hx1|-;refine ae.aC rfl rfl rfl (GL l x _) ?_;have Va:=AM l hl hb hn x (by omega);have Vb:=pC (l:=l) (a:=x) (by omega);have hlL:(TU l x).length<=l.length+1:=jD _ _ _;rw[fp];generalize TU l x=L at*;apply sR;simp only[go_sem,seval];generalize hS:mix 9 _ _=S;have S5:S 5=.ptr i5 0 0:=by rw[<-hS];rfl
 have S7:S 7=.ptr i7 0 0:=by rw[<-hS];rfl
 have S25:S 25=.fn 213 [.rp (aQ l),.rp (vI x)]:=by rw[<-hS];rfl
 clear hS;refine ae.fk (g:=.t 25) (caps:=[.rp (aQ l),.rp (vI x)]) S25 Va (λy hy=>?_) [] (λpre ZJ=>∃v,ZJ i7=some ⟨23,1,[v]⟩/\aa Z5 ZJ/\aU (bo Z5 i7) ZJ 3 1 v (((L.take pre.length).filter p).map vI)/\((L.take pre.length).filter p=[]->v=.aT))
  (λ_ _ _=>False) ?_ ?_ ?_ ?_ ?_
 .obtain⟨t,_,rfl⟩:=fM.1 hy;rfl
 .exact⟨.aT,a7,s7,by simpa using aU.start,λ_=>rfl⟩
 .rintro pre y post ZJ ZB Sb ⟨v,J7,Js,Jo,Jn⟩ G';obtain⟨t,X7,rfl⟩:=pn (f:=vI) Sb;obtain⟨tn,rfl,htn⟩:=Vb t (vK X7);have QF:=rD (p:=p) X7;have hlen:(pre++[[vI (tn:Int)]]).length=pre.length+1:=by simp
  rw[hlen,QF];have Q6:(((L.take pre.length).filter p).map vI).length<=1000001:=by
   rw[du];have:=List.length_filter_le p (L.take pre.length);rw[kK]at this;omega
  have Tv:v.cells=[v]:=by rcases Jo with⟨rfl,_⟩|⟨_,rfl,_⟩<;>rfl
  generalize Qu:(((L.take pre.length).filter p).map vI)=rows at*;have c7:=G' _ _ J7;have c5:=G' _ _ (Js _ _ a5);generalize RI:mI S [26] [vI (tn:Int)]=S0;have T5:S0 5=.ptr i5 0 0:=by rw[<-RI];exact S5
  have T7:S0 7=.ptr i7 0 0:=by rw[<-RI];exact S7
  have T26:S0 26=vI (tn:Int):=by rw[<-RI];rfl
  clear RI;refine ae.mix 9 ?_;apply sR;simp only[go_sem,seval,T5,T7,T26];apply sR;simp only[go_sem,seval,T5,T7,T26,c5];refine ae.aC rfl rfl rfl (hg tn (by omega) _ ((hs.trans Js).trans G')) ?_;cases hp:p (tn:Int)
  .apply sR;simp only[go_sem,seval];refine⟨_,bp.refl G',v,J7,Js,?_,by simpa using Jn⟩;simpa[Qu]using Jo
  .apply sR;simp only[go_sem,seval,T5,T7,T26,c7,Tv];rw[aN];intro Tw f28;have TN:=(bp.refl G').qJ (o:=⟨3,1,[vI (tn:Int)]⟩) f28;have y2:C' ZB Tw ⟨3,1,[vI (tn:Int)]⟩ i7=some ⟨23,1,[v]⟩:=by rw[ab (al c7 f28)];exact c7
   have a28:C' ZB Tw ⟨3,1,[vI (tn:Int)]⟩ Tw=some ⟨3,1,[vI (tn:Int)]⟩:=af;generalize C' ZB Tw ⟨3,1,[vI (tn:Int)]⟩=Z8 at*;obtain⟨PU,QW,Ts⟩:=Jo.Ef TN.1;have QD:(rows.length+1)*9<=140737488355328:=by omega
   have k2:bo Z5 i7 i7≠none:=λh=>(aL.1 h).1 rfl;have Tb:∀(i:Nat) (Zx:ag),bo Z5 i7 i≠none->Vc.bI Zx PU i=Zx i:=λi Zx hk=>by
    cases PU with
    |none=>rfl
    |some a=>exact dN (λe=>hk (by rw[e];exact(Ts a rfl).1))
   simp only[go_sem,seval,QW,dj a28,QD,T7];rw[aN];intro RJ f29;have f29:Z8 RJ=none:=f29;have XD:i7≠RJ:=al y2 f29;have Ze:Vc.bI Z8 PU RJ=none:=by
    cases PU with
    |none=>exact f29
    |some a=>simp only[Vc.bI,del];split<;>first|rfl|exact f29
   have y2':C' (Vc.bI Z8 PU) RJ ⟨3,1,rows++[vI (tn:Int)]⟩ i7=some ⟨23,1,[v]⟩:=by rw[ab XD,Tb _ _ k2];exact y2
   have hB9:=((TN.D1 (e:=PU) λi h=>(Ts i h).2).new (o:=⟨3,1,rows++[vI (tn:Int)]⟩) Ze).set (id:=i7) (o:=⟨23,1,[v]⟩) (o':=⟨23,1,[.own RJ 0 (rows.length+1)]⟩) (by rw[ab XD,Tb _ _ k2];exact J7);simp only[go_sem,seval,Tv,y2',T7];refine⟨_,hB9,.own RJ 0 (rows.length+1),af,?_,?_,λh=>by simp at h⟩
   .refine aa.aD (λi o h=>?_) f7;have h1:=Js _ _ h;rw[ab (al (TN.1 _ _ h1) f29),Tb _ _ (λhk=>by rw[(aL.1 hk).2]at h;cases h)];exact h1
   .rw[fC,Qu];refine aU.new (by simp) (by rw[ab XD.symm,af];rfl) ?_;rw[aL];refine⟨XD.symm,?_⟩;cases h:Z5 RJ with
    |none=>rfl
    |some o=>rw[TN.1 _ _ (Js _ _ h)]at f29;cases f29
 .rintro Z' ⟨v,J7,Js,Jo,Jn⟩;rw[du,jK]at Jo Jn;have Tv:v.cells=[v]:=by rcases Jo with⟨rfl,_⟩|⟨_,rfl,_⟩<;>rfl
  refine ae.mix 9 ?_;apply sR;simp only[go_sem,seval,S7,J7,Tv];refine⟨_,_,aa.refl _,Wk.refl (aa.refl _) _,hs.trans Js,?_,Jn⟩;rcases Jo with h|⟨id,h1,h2,h3⟩
  .exact .inl h
  .exact .inr ⟨id,h1,h2,hs.none (aL.1 h3).2⟩
 .intro id h;cases h
 .rintro pre Z' _ ⟨⟩
open Go.Proofs Go.Proofs.Tryz
def swp(L:List Int)(i j:Nat):List Int:=(L.set i (L.getD j 0)).set j (L.getD i 0)
def kN(L:List Int):Nat->List Int
 |0=>L
 |t+1=>swp (kN L t) t (L.length-1-t)
def lT(L:List Int):∀t,(kN L t).length=L.length
 |0=>rfl
 |t+1=>by simp[kN,swp,lT L t]
def zG(L:List Int):∀(t:Nat),2*t<=L.length->∀i,i<L.length->(kN L t)[i]?=if i<t\/L.length-t<=i then L[L.length-1-i]? else L[i]?
 |0,_,i,hi=>by rw[kN,aH (by omega)]
 |t+1,ht,i,hi=>by
  have ih:=λi hi=>zG L t (by omega) i hi;have hl:=lT L t;have e1:(kN L t).getD t 0=L.getD t 0:=by
   rw[uG,uG,ih t (by omega),aH (by omega)]
  have e2:(kN L t).getD (L.length-1-t) 0=L.getD (L.length-1-t) 0:=by
   rw[uG,uG,ih _ (by omega),aH (by omega)]
  rw[kN,swp,e1,e2,List.getElem?_set,List.getElem?_set,List.length_set,hl];have g:∀k,k<L.length->some (L.getD k 0)=L[k]?:=λk hk=>by simp[hk]
  by_cases h1:L.length-1-t=i
  .rw[aE h1,aE (by omega),aE (by omega),g t (by omega)];congr 1;omega
  .rw[aH h1];by_cases h2:t=i
   .rw[aE h2,aE (by omega),aE (by omega),g _ (by omega)];congr 1;omega
   .rw[aH h2,ih i hi];by_cases h3:i<t\/L.length-t<=i
    .rw[aE h3,aE (by omega)]
    .rw[aH h3,aH (by omega)]
def GU(L:List Int){t:Nat}(h1:2*t<=L.length)(h2:L.length<=2*t+1):kN L t=L.reverse:=by
 apply List.ext_getElem?;intro i;by_cases hi:i<L.length
 .rw[zG L t h1 i hi,List.getElem?_reverse hi];split
  .rfl
  .congr 1;omega
 .rw[rC (by rw[lT];omega),rC (by simp;omega)]
def Dk(L:List Int)(hL:L.length<=1000000){K U:ag}{v:V}(hv:aU K U 3 1 v (L.map vI))(P':L=[]->v=.aT):
 aB prog 195 [v] U λr Z'=>r=.PN []/\aU K Z' 3 1 v (L.reverse.map vI)/\∀i o,U i=some o->(o.elem≠3\/K i≠none)->Z' i=some o:=by
 refine N4.r (by simp[Ha]) ?_;refine ae.mix 5 ?_;rcases hv with⟨rfl,h0⟩|⟨id,rfl,h2,h3⟩
 .obtain rfl:L=[]:=by simpa using h0
  apply sR;simp only[go_sem,seval,Ha];refine⟨ar,?_⟩;refine ae.loop (λm st=>st.U=U/\st.s 2=vI 0/\∃z:Int,st.s 3=vI z/\z<0) 0 ?_ ?_
  .refine⟨rfl,rfl,_,rfl,?_⟩;simp
  .rintro m ⟨S,J⟩ ⟨Qj,t2,z,t3,hz⟩;simp only at Qj t2 t3;subst Qj;refine ae.mix 5 ?_;have q:((0:Int)<z)=False:=PF;apply sR;simp only[go_sem,seval,t2,t3,q];exact⟨_,_,aa.refl _,Wk.refl (aa.refl _) _,rfl,.inl ⟨rfl,rfl⟩,λi o h _=>h⟩
 .have hn:0<L.length:=vM.2 λe=>by have:=P' e;cases this
  have Vf:(L.map vI).length=L.length:=by simp
  have r1:PY .i64 ((L.length:Int)-1):=ar;apply sR;simp only[go_sem,seval,Ha,Vf,r1];refine ae.loop (λm st=>∃t:Nat,2*t<=L.length/\m=L.length-t/\st.U id=some ⟨3,1,(kN L t).map vI⟩/\(∀i,i≠id->st.U i=U i)/\st.s 0=.own id 0 L.length/\st.s 2=vI t/\∃z:Int,st.s 3=vI z/\z=(L.length:Int)-1-t) L.length ?_ ?_
  .exact⟨0,by omega,by omega,h2,λ_ _=>rfl,rfl,rfl,_,rfl,by simp⟩
  .rintro m ⟨S,J⟩ ⟨t,ht,rfl,g1,g2,t0,t2,z,t3,rfl⟩;simp only at g1 g2 t0 t2 t3;refine ae.mix 5 ?_;have VP:((kN L t).map vI).length=L.length:=by rw[du,lT]
   by_cases H':(t:Int)<(L.length:Int)-1-t
   .have q:((t:Int)<(L.length:Int)-1-t)=True:=PK H';have hj:((L.length:Int)-1-t)=((L.length-1-t:Nat):Int):=by omega
    obtain⟨j,hjj⟩:∃j,j=L.length-1-t:=⟨_,rfl⟩
    rw[hj,<-hjj]at t3 q;have X7:t<(kN L t).length:=by rw[lT];omega
    have RA:j<(kN L t).length:=by rw[lT];omega
    have i1:∀n,n=L.length->bS J 1 (.own id 0 n) (.int .i64 t)=some (.ptr id t 0):=λn hn=>by subst hn;rw[<-VP];exact jY g1 (by rw[VP];omega)
    have i2:∀n,n=L.length->bS J 1 (.own id 0 n) (.int .i64 j)=some (.ptr id j 0):=λn hn=>by subst hn;rw[<-VP];exact jY g1 (by rw[VP];omega)
    have v1:((kN L t).map vI)[t]?=some (vI ((kN L t).getD t 0)):=by simp[X7]
    have v2:((kN L t).map vI)[j]?=some (vI ((kN L t).getD j 0)):=by simp[RA]
    have i3:∀a n,n=L.length->bS (C' J id ⟨3,1,((kN L t).map vI).set t a⟩) 1 (.own id 0 n) (.int .i64 j)=some (.ptr id j 0):=λa n hn=>by
     have e:n=(((kN L t).map vI).set t a).length:=by rw[List.length_set,VP,hn]
     rw[e];exact jY af (by rw[List.length_set,VP];omega)
    have v3:∀a,(((kN L t).map vI).set t a)[j]?=some (vI ((kN L t).getD j 0)):=λa=>by rw[List.getElem?_set_ne (by omega)];exact v2
    have r4:PY .i64 ((t:Int)+1):=ar;have r5:PY .i64 ((j:Int)-1):=ar;apply sR;simp only[go_sem,seval,t0,t2,t3,q,g1,i1 _ rfl,i2 _ rfl,i3 _ _ rfl,v1,v2,v3,r4,r5];refine⟨_,?_,t+1,by omega,rfl,?_,λi hi=>?_,by simp[t0],_,rfl,by omega⟩
    .omega
    .simp only[kN,swp,List.map_set];rw[hjj]
    .rw[ab hi];exact g2 i hi
   .have q:((t:Int)<(L.length:Int)-1-t)=False:=PF H';apply sR;simp only[go_sem,seval,t0,t2,t3,q];have hr:=GU L ht (by omega);rw[hr]at g1;refine⟨_,_,aa.refl _,Wk.refl (aa.refl _) _,rfl,.inr ⟨id,by simp,g1,h3⟩,λi o h hio=>?_⟩;rw[g2 i (λe=>by subst e;rw[h2]at h;injection h with h;subst h;rcases hio with h|h;exact h rfl;exact h h3)]
    exact h
open Go.Proofs Go.Proofs.Tryz
structure Kn where
 (ends R7 both:List Int)
 text:Int
def iY(x:Kn):V:=.agg [bD x.ends,bD x.R7,bD x.both,vI x.text]
def eM(l:List Nd)(of:List Int)(k:Nat):Kn:=
 ⟨UI l of ((k:Int)-1) (λb=>!V0 l of b k),(UI l of k (λb=>!V0 l of b ((k:Int)-1))).reverse,UI l of k (λb=>V0 l of b ((k:Int)-1)),
  if 0<k/\k<of.length/\of.getD k 0=of.getD (k-1) 0 then of.getD k 0 else -1⟩
structure KR(l:List Nd)(of:List Int)(k:Int)(i4 i5 i6 i9 Qb Ri:Nat)(v:V)(Z0 U:ag):Prop where
 ask:Bz l of k i4 i5 i9 Qb U
 r6:U i6=some ⟨255,4,[.agg [.aT,.aT,.aT,vI 0]]⟩
 r11:U Ri=some ⟨255,4,[v]⟩
 sub:aa Z0 U
 no:Z0 Ri=none
 ne:i4≠Ri/\i5≠Ri/\i6≠Ri/\i9≠Ri/\Qb≠Ri
def KR.mono{l:List Nd}{of:List Int}{k:Int}{i4 i5 i6 i9 Qb Ri:Nat}{v:V}{Z0 U J:ag}(h:KR l of k i4 i5 i6 i9 Qb Ri v Z0 U)(hs:aa U J):KR l of k i4 i5 i6 i9 Qb Ri v Z0 J:=
 ⟨h.ask.mono hs,hs _ _ h.r6,hs _ _ h.r11,h.sub.trans hs,h.no,h.ne⟩
def KR.put{l:List Nd}{of:List Int}{k:Int}{i4 i5 i6 i9 Qb Ri:Nat}{v w:V}{Z0 U:ag}(h:KR l of k i4 i5 i6 i9 Qb Ri v Z0 U):KR l of k i4 i5 i6 i9 Qb Ri w Z0 (C' U Ri ⟨255,4,[w]⟩):=by
 obtain⟨n1,n2,n3,n4,n5⟩:=h.ne;exact⟨⟨by rw[ab n1];exact h.ask.r4,by rw[ab n2];exact h.ask.r5,by rw[ab n4];exact h.ask.r9,by rw[ab n5];exact h.ask.VU⟩,by rw[ab n3];exact h.r6,af,h.sub.aD h.no,h.no,h.ne⟩
def CP(l:List Nd)(hl:ed l)(hb:Qy l=true)(of:List Int)(QU:of.length<=1000000)(Q7:∀x∈of,0<=x/\x<l.length)(hm:qZ l of=true)(k:Nat)(hk:k<=of.length):
 bb prog 169 [aQ l,bD of,vI k] (.PN [iY (eM l of k),vI 0]):=λU=>by
 refine Oc.r (by simp[Me]) ?_;have hs:=aa.refl U;have Tj:=fU of;have hn:l.length<=100000:=by have:=hl.1;omega
 refine ae.mix 12 ?_;apply sR;simp only[go_sem,seval,Me,ai,ak,au,aJ];refine ad λi4 Z4 s4 a4 f4=>?_;have z4:=hs.none f4;replace hs:=hs.trans s4;simp only[go_sem,seval];refine ad λi5 Z5 s5 a5 f5=>?_;have Rr:=al a4 f5;replace a4:=s5 _ _ a4;have z5:=hs.none f5;replace hs:=hs.trans s5;simp only[go_sem,seval];refine ad λi6 Z6 s6 a6 f6=>?_;have n46:=al a4 f6;replace a4:=s6 _ _ a4;have n56:=al a5 f6;replace a5:=s6 _ _ a5;have z6:=hs.none f6;replace hs:=hs.trans s6;simp only[go_sem,seval,a4,a5,a6,ai,ak,au];refine ae.aC rfl rfl rfl (pr l hl hb of QU hm _) ?_;have q0:((0:Int)≠0)=False:=PF (λh=>h rfl);have q1:((k:Int)<0)=False:=PF;have q2:((k:Int)>of.length)=False:=PF;apply sR;simp only[go_sem,seval,q0,q1,q2,a4,a5,a6,Tj,ai,ak,au,aJ];refine ad λi9 Z9 s9 a9 f9=>?_;have n49:=al a4 f9;replace a4:=s9 _ _ a4;have n59:=al a5 f9;replace a5:=s9 _ _ a5;have YR:=al a6 f9;replace a6:=s9 _ _ a6;have z9:=hs.none f9;replace hs:=hs.trans s9;simp only[go_sem,seval,a9,a4,a5,a6,ai,ak,au,aJ];generalize Qv:C' _ i9 _=Y9;replace a9:=(congrFun Qv i9).symm.trans af;replace a4:=((congrFun Qv i4).symm.trans (ab n49)).trans a4;replace a5:=((congrFun Qv i5).symm.trans (ab n59)).trans a5;replace a6:=((congrFun Qv i6).symm.trans (ab YR)).trans a6;replace hs:=Eq.subst (motive:=aa _) Qv (hs.aD z9);clear Qv;have Vt:V.Rj.cells=[.Rj]:=rfl;refine ad λQb UP Re P0 f10=>?_;have Zl:=al a4 f10;replace a4:=Re _ _ a4;have n510:=al a5 f10;replace a5:=Re _ _ a5;have Za:=al a6 f10;replace a6:=Re _ _ a6;have VF:=al a9 f10;replace a9:=Re _ _ a9;have SS:=hs.none f10;replace hs:=hs.trans Re;simp only[go_sem,seval,P0,Vt];generalize Qs:C' _ Qb _=Y10;replace P0:=(congrFun Qs Qb).symm.trans af;replace a4:=((congrFun Qs i4).symm.trans (ab Zl)).trans a4;replace a5:=((congrFun Qs i5).symm.trans (ab n510)).trans a5;replace a6:=((congrFun Qs i6).symm.trans (ab Za)).trans a6;replace a9:=((congrFun Qs i9).symm.trans (ab VF)).trans a9;replace hs:=Eq.subst (motive:=aa _) Qs (hs.aD SS);clear Qs;refine ad λRi Xx Tk SA f11=>?_;have Xg:=al a4 f11;replace a4:=Tk _ _ a4;have Wu:=al a5 f11;replace a5:=Tk _ _ a5;have Sz:=al a6 f11;replace a6:=Tk _ _ a6;have Wv:=al a9 f11;replace a9:=Tk _ _ a9;have Q2:=al P0 f11;replace P0:=Tk _ _ P0;have W5:=hs.none f11;replace hs:=hs.trans Tk;simp only[go_sem,seval,SA,P0,a9,a5,a4,ab Xg,ab Wu,ab Sz,ab Wv,ab Q2,ai,ak];generalize QI:C' _ Ri _=Y11;replace SA:=(congrFun QI Ri).symm.trans af;replace a4:=((congrFun QI i4).symm.trans (ab Xg)).trans a4;replace a5:=((congrFun QI i5).symm.trans (ab Wu)).trans a5;replace a6:=((congrFun QI i6).symm.trans (ab Sz)).trans a6;replace a9:=((congrFun QI i9).symm.trans (ab Wv)).trans a9;replace P0:=((congrFun QI Qb).symm.trans (ab Q2)).trans P0;replace hs:=Eq.subst (motive:=aa _) QI (hs.aD W5);clear QI;have hK:KR l of k i4 i5 i6 i9 Qb Ri (.agg [.aT,.aT,.aT,vI (-1)]) U Y11:=⟨⟨a4,a5,a9,P0⟩,a6,SA,hs,W5,Xg,Wu,Sz,Wv,Q2⟩
 clear hs a4 a5 a6 a9 P0 SA;generalize Y11=J at*;have hZ11:=hK.r11;have hZs:=hK.sub;refine⟨ar,?_⟩;refine ae.call rfl rfl rfl (tZ l hl hb hn of QU Q7 ((k:Int)-1) 193 [.ptr Qb 0 0,.ptr i5 0 0] (λb=>!V0 l of b k) (λb QX X' WJ=>Lw l hb hn of QU Q7 b QX k (hK.ask.mono WJ))) ?_;rintro v0 Z1 ⟨s1,o0,_⟩;have hK1:=hK.mono s1;clear hK s1;obtain⟨cv0,sv0⟩:=o0.vc;have c11:=hK1.r11;have c9:=hK1.ask.r9;have c5:=hK1.ask.r5;rw[oG]at c9;apply sR;simp only[go_sem,seval,c11,c9,c5,cv0,sv0,ab Wv,ab Wu,ai,ak];have hK2:=hK1.put (w:=.agg [v0,.aT,.aT,vI (-1)]);have o0':aU (bo U Ri) (C' Z1 Ri ⟨255,4,[.agg [v0,.aT,.aT,vI (-1)]]⟩) 3 1 v0 ((UI l of ((k:Int)-1) (λb=>!V0 l of b k)).map vI):=by
  rcases o0 with h|⟨id,g1,g2,g3⟩
  .exact .inl h
  .have g3:J id=none:=g3;have P':id≠Ri:=λe=>by rw[e,hZ11]at g3;cases g3
   exact .inr ⟨id,g1,by rw[ab P'];exact g2,aL.2 ⟨P',hZs.none g3⟩⟩
 generalize C' Z1 Ri ⟨255,4,[.agg [v0,.aT,.aT,vI (-1)]]⟩=Y2 at*;refine ae.call rfl rfl rfl (tZ l hl hb hn of QU Q7 k 194 [.ptr Qb 0 0,.ptr i5 0 0] (λb=>!V0 l of b ((k:Int)-1)) (λb QX X' WJ=>Lb l hb hn of QU Q7 b QX k (by omega) (by omega) (hK2.ask.mono WJ))) ?_;rintro v1 Z3 ⟨s3,o1,n1⟩;have hK3:=hK2.mono s3;have o03:=o0'.mono s3;obtain⟨cv1,sv1⟩:=o1.vc;have d11:=hK3.r11;have x11:=hK2.r11;apply sR;simp only[go_sem,seval,d11,cv0,sv0,cv1,sv1];have hK4:=hK3.put (w:=.agg [v0,v1,.aT,vI (-1)]);have push:∀{K Zx:ag} {v:V} {rows:List V} {o:Ob},K Ri≠none->aU K Zx 3 1 v rows->aU K (C' Zx Ri o) 3 1 v rows:=λ{K Zx v rows o} hk h=>by
  rcases h with h|⟨id,g1,g2,g3⟩
  .exact .inl h
  .exact .inr ⟨id,g1,by rw[ab (λe=>by rw[e]at g3;exact hk g3)];exact g2,g3⟩
 have kk:bo U Ri Ri≠none:=λh=>(aL.1 h).1 rfl;have o1':aU Y2 Z3 3 1 v1 _:=o1;have o04:=push (o:=⟨255,4,[.agg [v0,v1,.aT,vI (-1)]]⟩) kk o03;have o14:=push (o:=⟨255,4,[.agg [v0,v1,.aT,vI (-1)]]⟩) (by rw[x11];simp) o1';generalize C' Z3 Ri ⟨255,4,[.agg [v0,v1,.aT,vI (-1)]]⟩=Y4 at*;have QG:∀kk p,(UI l of kk p).length<=1000000:=λkk p=>by
  unfold UI;split
  .have h1:=List.length_filter_le p (TU l (of.getD kk.toNat 0).toNat);have h2:=jD l (l.length+1) (eT l (of.getD kk.toNat 0).toNat);have h3:(TU l (of.getD kk.toNat 0).toNat).length<=l.length+1:=h2;omega
  .simp
 refine ae.call rfl rfl rfl (Dk _ (QG _ _) o14 n1) ?_;rintro r Z5 ⟨rfl,o15,RU⟩;have y5:=hK2.ask.r5;have hK5:KR l of k i4 i5 i6 i9 Qb Ri (.agg [v0,v1,.aT,vI (-1)]) U Z5:=
  ⟨⟨RU _ _ hK4.ask.r4 (.inl (by simp)),RU _ _ hK4.ask.r5 (.inr (by rw[y5];simp)),RU _ _ hK4.ask.r9 (.inl (by simp)),RU _ _ hK4.ask.VU (.inl (by simp))⟩,RU _ _ hK4.r6 (.inl (by simp)),RU _ _ hK4.r11 (.inl (by simp)),
    λi o h=>RU _ _ (hK4.sub _ _ h) (.inr (by rw[hK2.sub _ _ h];simp)),hK4.no,hK4.ne⟩
 have o05:aU (bo U Ri) Z5 3 1 v0 ((UI l of ((k:Int)-1) (λb=>!V0 l of b k)).map vI):=by
  rcases o0' with h|⟨id,g1,g2,g3⟩
  .exact .inl h
  .rcases o04 with⟨e,_⟩|⟨Sq,e1,e2,_⟩
   .rw[g1]at e;cases e
   .rw[g1]at e1;injection e1 with e1 _ _
    subst e1;exact .inr ⟨id,g1,RU _ _ e2 (.inr (by rw[g2];simp)),g3⟩
 have e9:=hK5.ask.r9;have e5:=hK5.ask.r5;have e11:=hK5.r11;rw[oG]at e9;apply sR;simp only[go_sem,seval,e9,e5,e11,ai,ak];refine ae.call rfl rfl rfl (tZ l hl hb hn of QU Q7 k 196 [.ptr Qb 0 0,.ptr i5 0 0] (λb=>V0 l of b ((k:Int)-1)) (λb QX X' WJ=>Lc l hb hn of QU Q7 b QX k (by omega) (by omega) (hK5.ask.mono WJ))) ?_;rintro v2 Z6 ⟨s6,o2,_⟩;have hK6:=hK5.mono s6;have o06:=o05.mono s6;have o16:=o15.mono s6;have o2':aU Z5 Z6 3 1 v2 _:=o2;obtain⟨cv2,sv2⟩:=o2.vc;have f11:=hK6.r11;have f4:=hK6.ask.r4;have f5:=hK6.ask.r5;have f6:=hK6.r6;have Vl:∀{K:ag} {J:ag} {v:V} {rows x:List V} {i:Nat} {o:Ob},J i=some ⟨255,4,x⟩->aU K J 3 1 v rows->aU K (C' J i o) 3 1 v rows:=λ{K J v rows x i o} hi h=>by
  rcases h with h|⟨id,g1,g2,g3⟩
  .exact .inl h
  .refine .inr ⟨id,g1,?_,g3⟩;rw[ab (λe=>by rw[e,hi]at g2;cases g2)];exact g2
 have hsK1:aa U (bo U Ri):=λi o h=>by rw[bo,aH (λe=>by rw[e,hK6.no]at h;cases h)];exact h
 have fin:∀(t:Int) (o:Ob),t=(eM l of k).text->av (.PN [.agg [v0,v1,v2,vI t],vI 0]) (C' (C' Z6 Ri ⟨255,4,[.agg [v0,v1,v2,vI t]]⟩) i6 o) λr Z'=>r=.PN [iY (eM l of k),vI 0]/\Z'=U:=by
  intro t o ht;have g6:=f6;rw[<-ab (U:=Z6) (o:=⟨255,4,[.agg [v0,v1,v2,vI t]]⟩) Sz]at g6;have p0:=Vl (o:=o) g6 (Vl (o:=⟨255,4,[.agg [v0,v1,v2,vI t]]⟩) f11 o06);have p1:=Vl (o:=o) g6 (Vl (o:=⟨255,4,[.agg [v0,v1,v2,vI t]]⟩) f11 o16);have p2:=Vl (o:=o) g6 (Vl (o:=⟨255,4,[.agg [v0,v1,v2,vI t]]⟩) f11 o2');have Qi:=((hK6.sub.aD (o:=⟨255,4,[.agg [v0,v1,v2,vI t]]⟩) hK6.no)).aD (o:=o) z6;refine⟨_,U,Qi,Wk.PN (vs':=[iY (eM l of k),vI 0]) ⟨Wk.agg (vs':=[bD (eM l of k).ends,bD (eM l of k).R7,bD (eM l of k).both,vI (eM l of k).text]) ⟨p0.wk hsK1 Qi,p1.wk hK2.sub Qi,p2.wk hK5.sub Qi,by rw[<-ht];exact Wk.refl Qi _,trivial⟩,Wk.refl Qi _,trivial⟩,rfl,rfl⟩
 rcases Nat.eq_zero_or_pos k with rfl|h0
 .have q3:((((0:Nat):Int))>0)=False:=PF;have ft:=fin (-1);apply sR;simp only[go_sem,seval,f11,f4,f5,f6,cv0,sv0,cv1,sv1,cv2,sv2,ab Xg,ab Wu,ab Sz,ab Wv,ab Q2,q3,ai,ak,au,aJ];exact fin _ _ (by simp[eM])
 have q3:((k:Int)>0)=True:=PK;by_cases h1:k<of.length
 .have q4:((k:Int)<of.length)=True:=PK;have q5:=ar (m:=((k-1:Nat):Int)) (by omega) (by omega);have q6:((k:Int)-1)=((k-1:Nat):Int):=by omega
  have q7:=λU=>iZ (U:=U) h1;have q8:=λU=>iZ (U:=U) (l:=of) (i:=k-1) (by omega);have g1:of.getD k 0=of[k]:=by simp[h1]
  have g2:of.getD (k-1) 0=of[k-1]:=by have:k-1<of.length:=by omega
                                      simp[this]
  by_cases h2:of.getD k 0=of.getD (k-1) 0
  .have q9:(of[k]=of[k-1])=True:=PK (by rw[<-g1,<-g2];exact h2);apply sR;simp only[go_sem,seval,f11,f4,f5,f6,cv0,sv0,cv1,sv1,cv2,sv2,ab Xg,ab Wu,ab Sz,ab Wv,ab Q2,q3,q4,q5,q6,q7,q8,q9,Tj,ai,ak,au,aJ];exact fin _ _ (by simp only[eM];rw[aE ⟨h0,h1,h2⟩,g1])
  .have q9:(of[k]=of[k-1])=False:=PF (by rw[<-g1,<-g2];exact h2);apply sR;simp only[go_sem,seval,f11,f4,f5,f6,cv0,sv0,cv1,sv1,cv2,sv2,ab Xg,ab Wu,ab Sz,ab Wv,ab Q2,q3,q4,q5,q6,q7,q8,q9,Tj,ai,ak,au,aJ];exact fin _ _ (by simp only[eM];rw[aH (λh=>h2 h.2.2)])
 .have q4:((k:Int)<of.length)=False:=PF;apply sR;simp only[go_sem,seval,f11,f4,f5,f6,cv0,sv0,cv1,sv1,cv2,sv2,ab Xg,ab Wu,ab Sz,ab Wv,ab Q2,q3,q4,Tj,ai,ak,au,aJ];exact fin _ _ (by simp only[eM];rw[aH (λh=>h1 h.2.1)])
open Go.Proofs Go.Proofs.Tryz
def SI(l:List Nd)(b:Int):Ru:=((l[b.toNat]?).map Nd.st).getD Ru.zero
def mF(l:List Nd)(b:Int):List Int:=(if 0<(SI l b).head then[2]else[])++[(SI l b).before]
def B8(l:List Nd)(x:Kn):List Int:=x.ends.map (λb=>(SI l b).after)++x.R7.flatMap (mF l)
def j1{l:List Nd}{b:Nat}(h:b<l.length):SI l b=l[b].st:=by simp[SI,h]
def BU(l:List Nd)(x:Kn)(hE:x.ends.length<=1000000)(hB:x.R7.length<=1000000)(he:∀b∈x.ends,∃n:Nat,b=n/\n<l.length)(hb:∀b∈x.R7,∃n:Nat,b=n/\n<l.length):
 Iter prog 197 [.rp (iY x),.rp (aQ l)] ((B8 l x).map λn=>[vI n]):=by
 refine⟨MT.c,λQe τ Jx Z0 hy hJ=>?_⟩;refine(MT.r (by simp[LC]) ?_).2;obtain⟨E,B,C,tx⟩:=x;simp only at hE hB he hb;have hlE:=fU E;have hlB:=fU B;have ldI:∀(U:ag) (X:List Int),cj U false 1 (.rp (bD X))=some (bD X):=λU X=>rfl;have ldN:∀U:ag,cj U false 1 (.rp (aQ l))=some (aQ l):=λU=>rfl;generalize hT:(B8 l ⟨E,B,C,tx⟩).map (λn=>[vI n])=T at hy|-;refine ae.mix 9 ?_;apply sR;simp only[go_sem,seval,LC,iY,ldI,hlE,ak,au];refine ae.jd (λst=>∃(ZJ:ag),τ ((E.map λb=>(SI l b).after).map λn=>[vI n]) ZJ/\aa ZJ st.U/\st.s 0=.yl Qe/\st.s 1=.rp (iY ⟨E,B,C,tx⟩)/\st.s 2=.rp (aQ l))
  (λm st=>∃(j:Nat) (ZJ:ag),j<=E.length/\m=E.length-j/\τ (((E.take j).map λb=>(SI l b).after).map λn=>[vI n]) ZJ/\aa ZJ st.U/\st.s 0=.yl Qe/\st.s 1=.rp (iY ⟨E,B,C,tx⟩)/\st.s 2=.rp (aQ l)/\st.s 10=bD E/\st.s 11=vI E.length/\st.s 12=vI j) E.length ?_ ?_ ?_
 .exact⟨0,Z0,by omega,rfl,by simpa using hJ,aa.refl _,rfl,rfl,rfl,rfl,rfl,rfl⟩
 .rintro m ⟨S,J⟩ ⟨j,ZJ,hj,rfl,Ry,G',t0,t1,t2,t10,t11,t12⟩;simp only at G' t0 t1 t2 t10 t11 t12;refine ae.mix 9 ?_;by_cases H':j<E.length
  .have q:((j:Int)<E.length)=True:=PK;have O':=λU=>iZ (U:=U) H';have QF:E.take (j+1)=E.take j++[E[j]]:=Tp H';obtain⟨b,Xy,QX⟩:=he _ (QL H');have e0':E=E.take j++E[j]::E.drop (j+1):=by rw[<-iy H',ua]
   have e:T=(((E.take j).map λb=>(SI l b).after).map λn=>[vI n])++[vI l[b].st.after]::((((E.drop (j+1)).map λb=>(SI l b).after)++B.flatMap (mF l)).map λn=>[vI n]):=by
    rw[<-hT,B8]
    conv=>lhs;rw[e0']
    simp[Xy,j1 QX]
   rw[Xy]at O' QF;have Rh:=λU=>ee (U:=U) (l:=l) (a:=b) QX;have r1:PY .i64 ((j:Int)+1):=ar;apply sR;simp only[go_sem,seval,t0,t1,t2,t10,t11,t12,q,O',ldN,Rh,Nd.cells];refine ae.mZ (Post:=λb' Z2=>∃Qd,bp ZJ J Qd Z2/\((b'=true/\τ ((((E.take j).map λb=>(SI l b).after).map λn=>[vI n])++[[vI l[b].st.after]]) Qd)\/(b'=false/\Jx ((((E.take j).map λb=>(SI l b).after).map λn=>[vI n])++[[vI l[b].st.after]]) Qd))) rfl rfl rfl (hy _ [vI l[b].st.after] _ ZJ J e Ry G') ?_;rintro b' Z2 ⟨Qd,QV,QH⟩;rcases QH with⟨rfl,QH⟩|⟨rfl,QH⟩
   .apply sR;simp only[go_sem,seval,t0,t1,t2,t10,t11,t12,r1];refine⟨_,?_,j+1,Qd,by omega,rfl,by rw[QF];simpa[j1 QX]using QH,QV.1,by simp[t0,t1,t2,t10,t11]⟩;omega
   .apply sR;simp only[go_sem,seval,t0,t1,t2,t10,t11,t12];exact⟨_,Qd,QV.1,Wk.refl QV.1 _,.inr ⟨_,⟨_,by rw[e,ly];rfl⟩,QH⟩⟩
  .have q:((j:Int)<E.length)=False:=PF;rw[nX (by omega)]at Ry;apply sR;simp only[go_sem,seval,t0,t1,t2,t10,t11,t12,q];exact⟨ZJ,Ry,G'⟩
 .rintro⟨S,J⟩ ⟨ZJ,Ry,G',t0,t1,t2⟩;simp only at G' t0 t1 t2;generalize hP:((E.map λb=>(SI l b).after).map λn=>[vI n])=P1 at*;refine ae.mix 9 ?_;apply sR;simp only[go_sem,seval,t0,t1,t2,iY,ldI,hlB,ak,au];refine ae.loop (λm st=>∃(j:Nat) (ZJ:ag),j<=B.length/\m=B.length-j/\τ (P1++((B.take j).flatMap (mF l)).map λn=>[vI n]) ZJ/\aa ZJ st.U/\st.s 0=.yl Qe/\st.s 2=.rp (aQ l)/\st.s 27=bD B/\st.s 28=vI B.length/\st.s 29=vI j) B.length ?_ ?_
  .exact⟨0,ZJ,by omega,rfl,by simpa using Ry,G',t0,t2,rfl,rfl,rfl⟩
  .clear Ry G' t0 t1 t2;rintro m ⟨S,J⟩ ⟨j,ZJ,hj,rfl,Ry,G',t0,t2,t27,t28,t29⟩;simp only at G' t0 t2 t27 t28 t29;refine ae.mix 9 ?_;by_cases H':j<B.length
   .have q:((j:Int)<B.length)=True:=PK;have O':=λU=>iZ (U:=U) H';have QF:B.take (j+1)=B.take j++[B[j]]:=Tp H';obtain⟨b,Xy,QX⟩:=hb _ (QL H');have e0':B=B.take j++B[j]::B.drop (j+1):=by rw[<-iy H',ua]
    have e:T=(P1++((B.take j).flatMap (mF l)).map λn=>[vI n])++((mF l b).map λn=>[vI n])++(((B.drop (j+1)).flatMap (mF l)).map λn=>[vI n]):=by
     rw[<-hT,B8,fC,hP]
     conv=>lhs;rw[e0']
     simp[Xy]
    rw[Xy]at O' QF;have Rh:=λU=>ee (U:=U) (l:=l) (a:=b) QX;have r1:PY .i64 ((j:Int)+1):=ar;have hs:=aa.refl J;have htk2:(P1++((B.take (j+1)).flatMap (mF l)).map λn=>[vI n])=(P1++((B.take j).flatMap (mF l)).map λn=>[vI n])++((mF l b).map λn=>[vI n]):=by rw[QF];simp
    generalize (P1++((B.take j).flatMap (mF l)).map λn=>[vI n])=P2 at*;have hbg:mF l b=(if 0<l[b].st.head then[2]else[])++[l[b].st.before]:=by rw[mF,j1 QX]
    apply sR;simp only[go_sem,seval,t0,t2,t27,t28,t29,q,O',ldN,Rh,Nd.cells];refine ad λi8 Z8 s8 a8 f8=>?_;have z8:=hs.none f8;replace hs:=hs.trans s8;simp only[go_sem,seval,a8,t0,t2,t27,t28,t29,ldN,Rh,Nd.cells];generalize Ra:C' _ i8 _=Y8;replace a8:=(congrFun Ra i8).symm.trans af;replace hs:=Eq.subst (motive:=aa _) Ra (hs.aD z8);clear Ra;generalize ((B.drop (j+1)).flatMap (mF l)).map (λn=>[vI n])=R2 at*;refine⟨λh0=>?_,λh0=>?_⟩
    .have e1:T=P2++[vI 2]::([vI l[b].st.before]::R2):=by rw[e,hbg,aE h0];simp
     have e2:T=(P2++[[vI 2]])++[vI l[b].st.before]::R2:=by rw[e1];simp
     have e3:(P2++[[vI 2]])++[[vI l[b].st.before]]=P2++(mF l b).map λn=>[vI n]:=by rw[hbg,aE h0];simp
     have Zm:aa ZJ Y8:=G'.trans hs;refine ae.mZ (Post:=λb' Z2=>∃Qd,bp ZJ Y8 Qd Z2/\((b'=true/\τ (P2++[[vI 2]]) Qd)\/(b'=false/\Jx (P2++[[vI 2]]) Qd))) rfl rfl rfl (hy _ [vI 2] _ ZJ Y8 e1 Ry Zm) ?_;rintro b' Z2 ⟨Qd,QV,QH⟩;rcases QH with⟨rfl,QH⟩|⟨rfl,QH⟩
     .have a8':=(QV.2 i8 _ (G'.none z8) a8).1;apply sR;simp only[go_sem,seval,t0,t2,t27,t28,t29,a8'];refine ae.mZ (Post:=λb' Z3=>∃Ya,bp Qd Z2 Ya Z3/\((b'=true/\τ ((P2++[[vI 2]])++[[vI l[b].st.before]]) Ya)\/(b'=false/\Jx ((P2++[[vI 2]])++[[vI l[b].st.before]]) Ya))) rfl rfl rfl (hy _ [vI l[b].st.before] _ Qd Z2 e2 QH QV.1) ?_;rintro b3 Z3 ⟨Ya,Xh,UJ⟩;rcases UJ with⟨rfl,UJ⟩|⟨rfl,UJ⟩
      .apply sR;simp only[go_sem,seval,t0,t2,t27,t28,t29,r1];refine⟨_,?_,j+1,Ya,by omega,rfl,by rw[htk2,<-e3];exact UJ,Xh.1,by simp[t0,t2,t27,t28]⟩;omega
      .apply sR;simp only[go_sem,seval,t0,t2,t27,t28,t29];exact⟨_,Ya,Xh.1,Wk.refl Xh.1 _,.inr ⟨_,⟨_,by rw[e2,ly];rfl⟩,UJ⟩⟩
     .apply sR;simp only[go_sem,seval,t0,t2,t27,t28,t29];exact⟨_,Qd,QV.1,Wk.refl QV.1 _,.inr ⟨_,⟨_,by rw[e1,ly];rfl⟩,QH⟩⟩
    .have e2:T=P2++[vI l[b].st.before]::R2:=by rw[e,hbg,aH (by omega)];simp
     have e3:P2++[[vI l[b].st.before]]=P2++(mF l b).map λn=>[vI n]:=by rw[hbg,aH (by omega)];simp
     have Zm:aa ZJ Y8:=G'.trans hs;apply sR;simp only[go_sem,seval,t0,t2,t27,t28,t29,a8];refine ae.mZ (Post:=λb' Z3=>∃Ya,bp ZJ Y8 Ya Z3/\((b'=true/\τ (P2++[[vI l[b].st.before]]) Ya)\/(b'=false/\Jx (P2++[[vI l[b].st.before]]) Ya))) rfl rfl rfl (hy _ [vI l[b].st.before] _ ZJ Y8 e2 Ry Zm) ?_;rintro b3 Z3 ⟨Ya,Xh,UJ⟩;rcases UJ with⟨rfl,UJ⟩|⟨rfl,UJ⟩
     .apply sR;simp only[go_sem,seval,t0,t2,t27,t28,t29,r1];refine⟨_,?_,j+1,Ya,by omega,rfl,by rw[htk2,<-e3];exact UJ,Xh.1,by simp[t0,t2,t27,t28]⟩;omega
     .apply sR;simp only[go_sem,seval,t0,t2,t27,t28,t29];exact⟨_,Ya,Xh.1,Wk.refl Xh.1 _,.inr ⟨_,⟨_,by rw[e2,ly];rfl⟩,UJ⟩⟩
   .have q:((j:Int)<B.length)=False:=PF;rw[nX (by omega),<-hP,<-fC]at Ry;apply sR;simp only[go_sem,seval,t0,t2,t27,t28,t29,q];exact⟨_,ZJ,G',Wk.refl G' _,.inl (hT▸Ry)⟩
open Go.Proofs Go.Proofs.Tryz
def yn{l:List Nd}{of:List Int}(Q7:∀x∈of,0<=x/\x<l.length){k:Int}{p:Int->Bool}:∀b∈UI l of k p,∃n:Nat,b=n/\n<l.length:=λb hb=>by
 unfold UI at hb;split at hb
 .rename_i h;have H':k.toNat<of.length:=by omega
  have Vs:of.getD k.toNat 0=of[k.toNat]:=by simp[H']
  rw[Vs]at hb;obtain⟨h0,h1⟩:=Q7 _ (QL H');obtain⟨n,rfl,hn⟩:=pC (l:=l) (a:=of[k.toNat].toNat) (by omega) b (sX.1 hb).1;exact⟨n,rfl,by omega⟩
 .cases hb
def pU{l:List Nd}(hn:l.length<=100000){of:List Int}{k:Int}{p:Int->Bool}:(UI l of k p).length<=100001:=by
 unfold UI;split
 .have h1:=List.length_filter_le p (TU l (of.getD k.toNat 0).toNat);have h2:=jD l (l.length+1) (eT l (of.getD k.toNat 0).toNat);have h3:(TU l (of.getD k.toNat 0).toNat).length<=l.length+1:=h2;omega
 .simp
def Gn(l:List Nd)(b:Int):(mF l b).length<=2:=by unfold mF;split<;>simp
def Ab{α β:Type}(f:α->List β)(hf:∀a,(f a).length<=2):∀L:List α,(L.flatMap f).length<=2*L.length
 |[]=>by simp
 |a::L=>by
  rw[yF,gY,Q4];have:=Ab f hf L;have:=hf a;omega
def jM(l:List Nd)(of:List Int)(k:Nat):List Int:=if k=of.length then[]else B8 l (eM l of k)
def zZ{l:List Nd}(hn:l.length<=100000)(of:List Int)(k:Nat):(B8 l (eM l of k)).length<=1000000:=by
 unfold B8;rw[gY,du];have h1:=Ab (mF l) (Gn l) (eM l of k).R7;have h2:(eM l of k).ends.length<=100001:=pU hn;have h3:(eM l of k).R7.length<=100001:=by
  rw[eM,List.length_reverse];exact pU hn
 omega
def F4(l:List Nd)(x:Kn):bb prog 170 [aQ l,iY x] (.fn 197 [.rp (iY x),.rp (aQ l)]):=λU=>by
 refine O6.r (by simp[Ji]) ?_;refine ae.mix 4 ?_;have q1:=ai l;have q2:=aJ l;generalize aQ l=y at*;obtain⟨E,B,C,tx⟩:=x;simp only[iY];apply sR;simp only[go_sem,seval,Ji,q1,q2,ak,au];refine ad λTi Z1 s1 a1 f1=>?_;simp only[go_sem,seval,q1,q2,ak,au];refine ad λU0 Z2 s2 a2 f2=>?_;simp only[go_sem,seval];exact⟨_,U,s1.trans s2,Wk.fn (vs':=[.rp (.agg [bD E,bD B,bD C,vI tx]),.rp y]) ⟨Wk.ptr (s1.trans s2) a2 (s1.none f2),Wk.ptr (s1.trans s2) (s2 _ _ a1) f1,trivial⟩,rfl,rfl⟩
def Cg(l:List Nd)(hl:ed l)(hb:Qy l=true)(of:List Int)(QU:of.length<=1000000)(Q7:∀x∈of,0<=x/\x<l.length)(hm:qZ l of=true)(k:Nat)(hk:k<=of.length):
 bb prog 149 [aQ l,bD of,vI k] (.PN [bD (jM l of k),vI 0]):=λU=>by
 refine NV.r (by simp[LS]) ?_;have hs:=aa.refl U;have Tj:=fU of;have hn:l.length<=100000:=by have:=hl.1;omega
 refine ae.mix 10 ?_;apply sR;simp only[go_sem,seval,LS];refine ae.aC rfl rfl rfl (CP l hl hb of QU Q7 hm k hk _) ?_;apply sR;simp only[go_sem,seval,iY];refine ad λi8 Z8 s8 a8 f8=>?_;have z8:=hs.none f8;replace hs:=hs.trans s8;have q0:((0:Int)≠0)=False:=PF (λh=>h rfl);by_cases T0:k=of.length
 .have q1:((k:Int)=of.length)=True:=PK;simp only[go_sem,seval,a8,Tj,q0,q1,iY,ak,au];rw[jM,aE T0];have Qi:=hs.aD (o:=⟨255,4,[iY (eM l of k)]⟩) z8;exact⟨_,U,Qi,Wk.PN (vs':=[bD [],vI 0]) ⟨(aU.start (e:=3)).wk (aa.refl _) Qi,Wk.refl Qi _,trivial⟩,rfl,rfl⟩
 .have q1:((k:Int)=of.length)=False:=PF;simp only[go_sem,seval,a8,Tj,q0,q1,iY,ak,au];refine ae.aC rfl rfl rfl (F4 l (eM l of k) _) ?_;apply sR;simp only[go_sem,seval];have Tx:=zZ hn of k;have Va:=BU l (eM l of k) (mq (pU hn) (by omega)) (by rw[eM,List.length_reverse];exact mq (pU hn) (by omega)) (yn Q7) (λb hb=>yn Q7 b (List.mem_reverse.1 hb));refine ae.aC rfl rfl rfl (wP Va Tx _) ?_;apply sR;simp only[go_sem,seval];rw[jM,aH T0];have Qi:=hs.aD (o:=⟨255,4,[iY (eM l of k)]⟩) z8;exact⟨_,U,Qi,Wk.refl Qi _,rfl,rfl⟩
open Go.Proofs Go.Proofs.Tryz
def mV(out n:Int)(U5:Bool):Int:=if U5=true\/out=0 then n else out
def kX(out n:Int):Int:=if n=3\/n=4 then mV out n true else if n=2 then mV out n false else out
def dx(all:List Int):Int:=all.foldl kX 0
def xY(n:Int)(U5:Bool)(out:Int){U:ag}{i3:Nat}(h:U i3=some ⟨3,1,[vI out]⟩):
 aB prog 171 [vI n,.bool U5,.ptr i3 0 0] U λ_ Z'=>Z' i3=some ⟨3,1,[vI (mV out n U5)]⟩/\∀i,i≠i3->Z' i=U i:=by
 refine NS.r (by simp[E2]) ?_;refine ae.mix 5 ?_;have fin:∀J:ag,J i3=some ⟨3,1,[vI (mV out n U5)]⟩->(∀i,i≠i3->J i=U i)->av (.PN []) J λ_ Z'=>Z' i3=some ⟨3,1,[vI (mV out n U5)]⟩/\∀i,i≠i3->Z' i=U i:=λJ h1 h2=>
  ⟨_,J,aa.refl _,Wk.refl (aa.refl _) _,h1,h2⟩
 by_cases h0:U5=true\/out=0
 .have ht:mV out n U5=n:=aE h0;rw[ht]at fin|-;cases U5
  .have q:(out=0)=True:=PK (by simpa using h0);apply sR;simp only[go_sem,seval,E2,h,q];exact fin _ af λi hi=>ab hi
  .apply sR;simp only[go_sem,seval,E2,h];exact fin _ af λi hi=>ab hi
 .have ht:mV out n U5=out:=aH h0;rw[ht]at fin|-;simp only[not_or,Bool.not_eq_true]at h0;obtain⟨rfl,h0⟩:=h0;have q:(out=0)=False:=PF h0;apply sR;simp only[go_sem,seval,E2,h,q];exact fin _ h λi hi=>rfl
def EX(all:List Int)(Tx:all.length<=1000000):bb prog 150 [bD all] (vI (dx all)):=λU=>by
 refine Pu.r (by simp[My]) ?_;have hs:=aa.refl U;have RN:=fU all;refine ae.mix 8 ?_;apply sR;simp only[go_sem,seval,My];refine ad λi3 Z3 s3 a3 f3=>?_;have z3:=hs.none f3;replace hs:=hs.trans s3;simp only[go_sem,seval,a3,RN];generalize Yb:C' _ i3 _=X3;replace a3:=(congrFun Yb i3).symm.trans af;replace hs:=Eq.subst (motive:=aa _) Yb (hs.aD z3);clear Yb;refine ae.jd (λst=>st.U i3=some ⟨3,1,[vI (dx all)]⟩/\aa U st.U/\st.s 3=.ptr i3 0 0)
  (λm st=>∃j:Nat,j<=all.length/\m=all.length-j/\st.U i3=some ⟨3,1,[vI (dx (all.take j))]⟩/\aa U st.U/\st.s 3=.ptr i3 0 0/\st.s 4=.fn 171 [.ptr i3 0 0]/\st.s 9=bD all/\st.s 10=vI all.length/\st.s 11=vI j) all.length ?_ ?_ ?_
 .exact⟨0,by omega,rfl,a3,hs,rfl,rfl,rfl,rfl,rfl⟩
 .clear a3 hs;rintro m ⟨S,J⟩ ⟨j,hj,rfl,b3,hs,t3,t4,t9,t10,t11⟩;simp only at b3 hs t3 t4 t9 t10 t11;refine ae.mix 8 ?_;by_cases H':j<all.length
  .have q:((j:Int)<all.length)=True:=PK;have O':=λU=>iZ (U:=U) H';have QF:dx (all.take (j+1))=kX (dx (all.take j)) all[j]:=by
    rw[dx,Tp H',wc];rfl
   have r1:PY .i64 ((j:Int)+1):=ar;generalize all[j]=n at*;have sub2:∀{ρ:ag} {o:Ob},ρ i3=some o->(∀i,i≠i3->ρ i=J i)->aa U ρ:=λ{ρ o} h1 h2 i x hx=>by
    rw[h2 i (λe=>by rw[e,z3]at hx;cases hx)];exact hs _ _ hx
   by_cases h3:n=3
   .have q3:(n=3)=True:=PK h3;have Qi:mV (dx (all.take j)) n true=kX (dx (all.take j)) n:=by rw[kX,aE (.inl h3)]
    apply sR;simp only[go_sem,seval,t3,t4,t9,t10,t11,q,q3,O'];refine ae.call rfl rfl rfl (xY n true (dx (all.take j)) b3) ?_;rintro-ρ ⟨g1,g2⟩;apply sR;simp only[go_sem,seval,t3,t4,t9,t10,t11,r1];refine⟨_,?_,j+1,by omega,rfl,by rw[QF];exact Qi▸g1,sub2 g1 g2,by simp[t3,t4,t9,t10]⟩;omega
   .have q3:(n=3)=False:=PF h3;by_cases h4:n=4
    .have q4:(n=4)=True:=PK h4;have Qi:mV (dx (all.take j)) n true=kX (dx (all.take j)) n:=by rw[kX,aE (.inr h4)]
     apply sR;simp only[go_sem,seval,t3,t4,t9,t10,t11,q,q3,q4,O'];refine ae.call rfl rfl rfl (xY n true (dx (all.take j)) b3) ?_;rintro-ρ ⟨g1,g2⟩;apply sR;simp only[go_sem,seval,t3,t4,t9,t10,t11,r1];refine⟨_,?_,j+1,by omega,rfl,by rw[QF];exact Qi▸g1,sub2 g1 g2,by simp[t3,t4,t9,t10]⟩;omega
    .have q4:(n=4)=False:=PF h4;by_cases h2:n=2
     .have q2:(n=2)=True:=PK h2;have Qi:mV (dx (all.take j)) n false=kX (dx (all.take j)) n:=by rw[kX,aH (by simp[h3,h4]),aE h2]
      apply sR;simp only[go_sem,seval,t3,t4,t9,t10,t11,q,q3,q4,q2,O'];refine ae.call rfl rfl rfl (xY n false (dx (all.take j)) b3) ?_;rintro-ρ ⟨g1,g2⟩;apply sR;simp only[go_sem,seval,t3,t4,t9,t10,t11,r1];refine⟨_,?_,j+1,by omega,rfl,by rw[QF];exact Qi▸g1,sub2 g1 g2,by simp[t3,t4,t9,t10]⟩;omega
     .have q2:(n=2)=False:=PF h2;have Qi:dx (all.take j)=kX (dx (all.take j)) n:=by rw[kX,aH (by simp[h3,h4]),aH h2]
      apply sR;simp only[go_sem,seval,t3,t4,t9,t10,t11,q,q3,q4,q2,r1,O'];refine⟨_,?_,j+1,by omega,rfl,by rw[QF,<-Qi];exact b3,hs,by simp[t3,t4,t9,t10]⟩;omega
  .have q:((j:Int)<all.length)=False:=PF;rw[nX (by omega)]at b3;apply sR;simp only[go_sem,seval,t3,t4,t9,t10,t11,q];exact⟨b3,hs⟩
 .rintro⟨S,J⟩ ⟨b3,hs,t3⟩;simp only at b3 hs t3;refine ae.mix 8 ?_;apply sR;simp only[go_sem,seval,t3,b3];exact⟨_,U,hs,Wk.refl hs _,rfl,rfl⟩
open Go.Proofs Go.Proofs.Tryz
def jJ(l:List Nd)(of:List Int)(k:Nat):Int:=dx (jM l of k)
def uv{l:List Nd}(hn:l.length<=100000)(of:List Int)(k:Nat):(jM l of k).length<=1000000:=by
 unfold jM;split
 .simp
 .exact zZ hn of k
def Nj(l:List Nd)(hl:ed l)(hb:Qy l=true)(of:List Int)(QU:of.length<=1000000)(Q7:∀x∈of,0<=x/\x<l.length)(hm:qZ l of=true)(k:Nat)(hk:k<=of.length):
 bb prog 124 [aQ l,bD of,vI k] (.PN [vI (jJ l of k),vI 0]):=λU=>by
 refine Of.r (by simp[Jw]) ?_;have hs:=aa.refl U;have hn:l.length<=100000:=by have:=hl.1;omega
 refine ae.mix 11 ?_;apply sR;simp only[go_sem,seval,Jw];refine ae.aC rfl rfl rfl (Cg l hl hb of QU Q7 hm k hk _) ?_;apply sR;simp only[go_sem,seval];refine ae.aC rfl rfl rfl (EX _ (uv hn of k) _) ?_;apply sR;simp only[go_sem,seval];exact av.pure hs rfl
def Ax(l:List Nd)(of:List Int):List Int:=(List.range (of.length+1)).map (jJ l of)
def Li(l:List Nd)(hl:ed l)(hb:Qy l=true)(of:List Int)(QU:of.length<=1000000)(Q7:∀x∈of,0<=x/\x<l.length)(hm:qZ l of=true):
 bb prog 95 [aQ l,bD of] (.PN [bD (Ax l of),vI 0]):=λU=>by
 refine e95.r (by simp[c95]) ?_;have hs:=aa.refl U;have Tj:=fU of;refine ae.mix 11 ?_;apply sR;simp only[go_sem,seval,c95];refine ae.aC rfl rfl rfl (pr l hl hb of QU hm _) ?_;have q0:((0:Int)≠0)=False:=PF (λh=>h rfl);have r0:PY .i64 ((of.length:Int)+1):=ar;apply sR;simp only[go_sem,seval,q0,Tj,r0];refine ae.jd (λst=>aa U st.U/\aU U st.U 3 1 (st.s 7) ((Ax l of).map vI))
  (λm st=>∃j:Nat,j<=of.length+1/\m=of.length+1-j/\aa U st.U/\aU U st.U 3 1 (st.s 7) (((List.range j).map (jJ l of)).map vI)/\st.s 0=aQ l/\st.s 1=bD of/\st.s 19=vI ((of.length:Int)+1)/\st.s 20=vI j) (of.length+1) ?_ ?_ ?_
 .exact⟨0,by omega,rfl,hs,aU.start,rfl,rfl,rfl,rfl⟩
 .clear hs;rintro m ⟨S,J⟩ ⟨j,hj,rfl,hs,ho,t0,t1,t19,t20⟩;simp only at hs ho t0 t1 t19 t20;generalize Zn:S 7=v7 at ho;refine ae.mix 11 ?_;by_cases H':j<of.length+1
  .have q:((j:Int)<of.length+1)=True:=PK;have r1:PY .i64 ((j:Int)+1):=ar;have Qu:(((List.range (j+1)).map (jJ l of)).map vI)=(((List.range j).map (jJ l of)).map vI)++[vI (jJ l of j)]:=by
    rw[List.range_succ];simp
   have Vf:(((List.range j).map (jJ l of)).map vI).length=j:=by simp
   apply sR;simp only[go_sem,seval,t0,t1,t19,t20,q];refine ae.aC rfl rfl rfl (Nj l hl hb of QU Q7 hm j (by omega) _) ?_;generalize ((List.range j).map (jJ l of)).map vI=rows at*;apply sR;simp only[go_sem,seval,t0,t1,t19,t20,Zn];refine ad λi32 Z32 s32 a32 f32=>?_;obtain⟨PU,QW,QJ,W4,Wn⟩:=ho.BD s32;have QD:(rows.length+1)*9<=140737488355328:=by omega
   simp only[go_sem,seval,t0,t1,t19,t20,Zn,QW,dj a32,QD];refine ep λi33 Z33 s33 a33 f33=>?_;have k33:=(QJ U (aa.refl _) Z32 (hs.trans s32)).trans s33;have n33:U i33=none:=(hs.trans s32).none f33;simp only[go_sem,seval,t0,t1,t19,t20,r1];refine⟨_,?_,j+1,by omega,rfl,k33,?_,by simp[t0,t1,t19]⟩
   .omega
   .rw[Qu];exact aU.new (by simp) a33 n33
  .have q:((j:Int)<of.length+1)=False:=PF;have Rf:j=of.length+1:=by omega
   subst Rf;apply sR;simp only[go_sem,seval,t0,t1,t19,t20,q];exact⟨hs,Zn▸ho⟩
 .rintro⟨S,J⟩ ⟨hs,ho⟩;simp only at hs ho;generalize Zn:S 7=v7 at ho;refine ae.mix 11 ?_;apply sR;simp only[go_sem,seval,Zn];exact⟨_,U,hs,Wk.PN (vs':=[bD (Ax l of),vI 0]) ⟨ho.wk (aa.refl _) hs,Wk.refl hs _,trivial⟩,rfl,rfl⟩
open Go.Proofs Go.Proofs.Tryz
def jF(l:List Nd)(of:List Int)(k:Int)(x:Kn):V:=.agg [bD x.ends,bD x.R7,bD x.both,vI x.text,aQ l,bD of,vI k]
def L8(l:List Nd)(hl:ed l)(hb:Qy l=true)(of:List Int)(QU:of.length<=1000000)(Q7:∀x∈of,0<=x/\x<l.length)(hm:qZ l of=true)(k:Nat)(hk:k<=of.length):
 bb prog 151 [aQ l,bD of,vI k] (.PN [jF l of k (eM l of k),vI 0]):=λU=>by
 refine Ou.r (by simp[K5]) ?_;have hs:=aa.refl U;refine ae.mix 10 ?_;apply sR;simp only[go_sem,seval,K5];refine ad λi6 Z6 s6 a6 f6=>?_;have z6:=hs.none f6;replace hs:=hs.trans s6;simp only[go_sem,seval];refine ae.aC rfl rfl rfl (CP l hl hb of QU Q7 hm k hk _) ?_;apply sR;simp only[go_sem,seval,iY];refine ad λi8 Z8 s8 a8 f8=>?_;have n68:=al a6 f8;replace a6:=s8 _ _ a6;have z8:=hs.none f8;replace hs:=hs.trans s8;simp only[go_sem,seval,a8,a6,ab n68,iY,ai,ak,au,aJ];exact av.pure ((hs.aD z8).aD z6) rfl
def FD:bb prog 172 [] (.agg [vI 0,vI 0,vI 0,vI 0,vI 0,vI 2,vI 2,vI 0,vI 0,vI 0,vI 0,vI 0]):=λU=>by
 refine NN.r (by simp[JD]) ?_;apply sR;simp only[go_sem,seval,JD];refine ad λU7 Z0 s0 a0 f0=>?_;simp only[go_sem,seval,a0];exact .pure (s0.aD f0) rfl
def sV(a:Int):List Int->Nat->Int
 |[],_=>-1
 |q::r,i=>if q=a then i else sV a r (i+1)
def Ei{a:Int}{p:List Int}{i:Nat}(h:i<p.length):sV a (p.drop i) i=if p[i]=a then(i:Int)else sV a (p.drop (i+1)) (i+1):=by
 rw[iy h,sV]
def zd(a:Int):∀(p:List Int) (i:Nat),sV a p i>=0↔a∈p
 |[],_=>by simp[sV]
 |q::r,i=>by
  rw[sV];split
  .rename_i h;subst h;simp
  .rename_i h;rw[zd a r (i+1),dc];constructor
   .exact .inr
   .rintro(rfl|h2)
    .exact absurd rfl h
    .exact h2
def EP(p:List Int)(hp:p.length<=1000000000)(a:Int):bb prog 198 [bD p,vI a] (vI (sV a p 0)):=λU=>by
 refine Pd.r (by simp[JE]) ?_;have V1:=fU p;refine ae.mix 9 ?_;apply sR;simp only[go_sem,seval,JE,V1];refine ae.loop (λm st=>∃(i:Nat),i<=p.length/\m=p.length-i/\sV a p 0=sV a (p.drop i) i/\st.U=U/\st.s 0=bD p/\st.s 1=vI a/\st.s 7=vI p.length/\st.s 8=vI i) p.length ?_ ?_
 .exact⟨0,by omega,rfl,rfl,rfl,rfl,rfl,rfl,rfl⟩
 .rintro m ⟨s,Z'⟩ ⟨i,hi,rfl,heq,Qj,h0,h1,h7,h8⟩;simp only at Qj h0 h1 h7 h8;subst Qj;refine ae.mix 9 ?_;by_cases H':i<p.length
  .have q:((i:Int)<p.length)=True:=PK;have hd:=Ei (a:=a) H';have O':=λU=>iZ (U:=U) H';have r1:PY .i64 ((i:Int)+1):=ar;by_cases hc:p[i]=a
   .have q1:(a=p[i])=True:=PK hc.symm;apply sR;simp only[go_sem,seval,h0,h1,h7,h8,q,O',q1];refine av.same ?_;rw[heq,hd,aE hc]
   .have q1:(a=p[i])=False:=PF (λh=>hc h.symm);apply sR;simp only[go_sem,seval,h0,h1,h7,h8,q,O',q1,r1];refine⟨_,?_,i+1,by omega,rfl,?_,by simp[h0,h1,h7]⟩
    .omega
    .rw[heq,hd,aH hc]
  .have q:((i:Int)<p.length)=False:=PF;have RH:i=p.length:=by omega
   apply sR;simp only[go_sem,seval,h0,h1,h7,h8,q];refine av.same ?_;rw[heq,RH,qx];rfl
def An(p:List Int)(hp:p.length<=1000000000)(a:Int):bb prog 176 [bD p,vI a] (.bool (decide (a∈p))):=λU=>by
 refine OU.r (by simp[KV]) ?_;apply sR;simp only[go_sem,seval,KV];refine ae.aC rfl rfl rfl (EP p hp a _) ?_;have h:=zd a p 0;by_cases ha:a∈p
 .have q:(sV a p 0>=0)=True:=PK (h.2 ha);apply sR;simp only[go_sem,seval,q];exact av.same (by simp[ha])
 .have q:(sV a p 0>=0)=False:=PF (λhh=>ha (h.1 hh));apply sR;simp only[go_sem,seval,q];exact av.same (by simp[ha])
open Go.Proofs Go.Proofs.Tryz
def lz(of:List Int)(t:Int)(k:Nat):Nat->Nat×Nat
 |0=>(0,0)
 |j+1=>if of.getD j 0=t then if j<k then((lz of t k j).1+1,(lz of t k j).2)else((lz of t k j).1,(lz of t k j).2+1)else lz of t k j
def oV(of:List Int)(t:Int)(k:Nat):Nat×Nat:=if t<0 then(0,0)else lz of t k of.length
def Cy(of:List Int)(t:Int)(k:Nat):∀j,(lz of t k j).1<=j/\(lz of t k j).2<=j
 |0=>by simp[lz]
 |j+1=>by
  have:=Cy of t k j;rw[lz];split
  .split<;>simp only<;>omega
  .omega
def Gm(l:List Nd)(of:List Int)(QU:of.length<=1000000)(k:Nat)(x:Kn):
 bb prog 174 [jF l of k x] (.PN [vI (oV of x.text k).1,vI (oV of x.text k).2]):=λU=>by
 refine OP.r (by simp[Mv]) ?_;have hs:=aa.refl U;have Tj:=fU of;obtain⟨E,B,C,t⟩:=x;simp only;refine ae.mix 6 ?_;apply sR;simp only[go_sem,seval,Mv,jF,ai,ak,au,aJ];refine ad λi1 Z1 s1 a1 f1=>?_;have z1:=hs.none f1;replace hs:=hs.trans s1;unfold oV;by_cases ht:t<0
 .have q:(t<0)=True:=PK ht;simp only[go_sem,seval,a1,q,ai,ak,au,aJ];exact av.pure hs (by simp[ht])
 have q:(t<0)=False:=PF ht;rw[aH ht];simp only[go_sem,seval,a1,q,Tj,ai,ak,au,aJ];refine ae.loop (λm st=>∃j:Nat,j<=of.length/\m=of.length-j/\st.U=Z1/\st.s 1=.ptr i1 0 0/\st.s 2=vI (lz of t k j).1/\st.s 3=vI (lz of t k j).2/\st.s 11=bD of/\st.s 12=vI of.length/\st.s 13=vI j) of.length ?_ ?_
 .exact⟨0,by omega,rfl,rfl,rfl,rfl,rfl,rfl,rfl,rfl⟩
 .rintro m ⟨S,J⟩ ⟨j,hj,rfl,Qj,t1,t2,t3,t11,t12,t13⟩;simp only at Qj t1 t2 t3 t11 t12 t13;subst Qj;refine ae.mix 6 ?_;by_cases H':j<of.length
  .have q0:((j:Int)<of.length)=True:=PK;have r1:PY .i64 ((j:Int)+1):=ar;have O':=λU=>iZ (U:=U) H';have Vs:of.getD j 0=of[j]:=by simp[H']
   have hle:=Cy of t k j;have Qi:lz of t k (j+1)=if of[j]=t then if j<k then((lz of t k j).1+1,(lz of t k j).2)else((lz of t k j).1,(lz of t k j).2+1)else lz of t k j:=by rw[lz,Vs]
   have r2:PY .i64 (((lz of t k j).1:Int)+1):=ar;have r3:PY .i64 (((lz of t k j).2:Int)+1):=ar;by_cases hn:of[j]=t
   .have q1:(of[j]≠t)=False:=PF (λh=>h hn);rw[aE hn]at Qi;by_cases hk:j<k
    .have q2:((j:Int)<k)=True:=PK;rw[aE hk]at Qi;apply sR;simp only[go_sem,seval,t1,t2,t3,t11,t12,t13,a1,q0,q1,q2,r1,r2,O',ai,ak,au,aJ];refine⟨_,?_,j+1,by omega,rfl,by rw[Qi];simp[t1,t2,t3,t11,t12]⟩;omega
    .have q2:((j:Int)<k)=False:=PF;rw[aH hk]at Qi;apply sR;simp only[go_sem,seval,t1,t2,t3,t11,t12,t13,a1,q0,q1,q2,r1,r3,O',ai,ak,au,aJ];refine⟨_,?_,j+1,by omega,rfl,by rw[Qi];simp[t1,t2,t3,t11,t12]⟩;omega
   .have q1:(of[j]≠t)=True:=PK hn;rw[aH hn]at Qi;apply sR;simp only[go_sem,seval,t1,t2,t3,t11,t12,t13,a1,q0,q1,r1,O',ai,ak,au,aJ];refine⟨_,?_,j+1,by omega,rfl,by rw[Qi];simp[t1,t2,t3,t11,t12]⟩;omega
  .have q0:((j:Int)<of.length)=False:=PF;have Rf:j=of.length:=by omega
   apply sR;simp only[go_sem,seval,t1,t2,t3,t11,t12,t13,q0];exact av.pure hs (by rw[Rf])
open Go.Proofs Go.Proofs.Tryz
def x9:Ru:=⟨0,0,0,0,0,2,2,0,0,0,0,0⟩
def xK(l:List Nd)(t:Int):Ru:=if 0<=eT l t.toNat then SI l (eT l t.toNat)else x9
def KX(l:List Nd)(of:List Int)(t:Int)(k:Nat):Bool:=if t<0 then false else decide (((oV of t k).1:Int)<(xK l t).Qk\/((oV of t k).2:Int)<(xK l t).Qw)
def KC(l:List Nd)(hl:ed l)(hb:Qy l=true)(of:List Int)(QU:of.length<=1000000)(k:Nat)(x:Kn)(hx:x.text<l.length):
 bb prog 152 [jF l of k x] (.bool (KX l of x.text k)):=λU=>by
 refine O2.r (by simp[Ku]) ?_;have hs:=aa.refl U;have hlc:=λx=>Gm l of QU k x;obtain⟨E,B,C,t⟩:=x;simp only at hx|-;refine ae.mix 7 ?_;apply sR;simp only[go_sem,seval,Ku,jF,ai,ak,au,aJ];refine ad λi1 Z1 s1 a1 f1=>?_;have z1:=hs.none f1;replace hs:=hs.trans s1;unfold KX;by_cases ht:t<0
 .have q:(t<0)=True:=PK ht;simp only[go_sem,seval,a1,q,ai,ak,au,aJ];exact av.pure hs (by simp[ht])
 have q:(t<0)=False:=PF ht;rw[aH ht];obtain⟨a,rfl⟩:∃a:Nat,t=a:=⟨t.toNat,by omega⟩
 simp only[go_sem,seval,a1,q,ai,ak,au,aJ];refine ae.aC rfl rfl rfl (FD _) ?_;apply sR;simp only[go_sem,seval];refine ad λi3 Z3 s3 a3 f3=>?_;have UM:=al a1 f3;replace a1:=s3 _ _ a1;have z3:=hs.none f3;replace hs:=hs.trans s3;simp only[go_sem,seval,a3,a1,ab UM,ai,ak,au,aJ];generalize Yb:C' _ i3 _=X3;replace a3:=(congrFun Yb i3).symm.trans af;replace a1:=((congrFun Yb i1).symm.trans (ab UM)).trans a1;replace hs:=Eq.subst (motive:=aa _) Yb (hs.aD z3);clear Yb;refine ae.aC rfl rfl rfl (Bh l hl hb a (by omega) _) ?_;have XB:=fV l a;have Zd:xK l (a:Int)=if 0<=eT l a then SI l (eT l a)else x9:=by simp[xK]
 rw[Zd];by_cases hp:0<=eT l a
 .have q0:(eT l a>=0)=True:=PK hp;obtain⟨b,Xy⟩:∃b:Nat,eT l a=b:=⟨(eT l a).toNat,by omega⟩
  rw[aE hp];rw[Xy]at q0 XB|-;have QX:b<l.length:=by omega
  have Rh:=λU=>ee (U:=U) (l:=l) (a:=b) QX;rw[j1 QX];apply sR;simp only[go_sem,seval,a1,a3,q0,Rh,Nd.cells,ab UM,ai,ak,au,aJ];generalize Tl:C' X3 i3 _=Y4;have b3:Y4 i3=some ⟨49,12,[ki l[b].st]⟩:=by rw[<-Tl];exact af
  replace hs:aa U Y4:=by rw[<-Tl];exact hs.aD z3
  clear Tl;generalize l[b].st=st at*;rw[ki]at b3;refine ae.aC rfl rfl rfl (hlc ⟨E,B,C,a⟩ _) ?_;generalize oV of (a:Int) k=L at*;obtain⟨L1,L2⟩:=L;simp only;by_cases h1:(L1:Int)<st.Qk
  .have q1:((L1:Int)<st.Qk)=True:=PK h1;apply sR;simp only[go_sem,seval,b3,q1,ai,ak,au,aJ];exact av.pure hs (by simp[h1])
  .have q1:((L1:Int)<st.Qk)=False:=PF h1;by_cases h2:(L2:Int)<st.Qw
   .have q2:((L2:Int)<st.Qw)=True:=PK h2;apply sR;simp only[go_sem,seval,b3,q1,q2,ai,ak,au,aJ];exact av.pure hs (by simp[h2])
   .have q2:((L2:Int)<st.Qw)=False:=PF h2;apply sR;simp only[go_sem,seval,b3,q1,q2,ai,ak,au,aJ];exact av.pure hs (by simp[h1,h2])
 .have q0:(eT l a>=0)=False:=PF hp;rw[aH hp];apply sR;simp only[go_sem,seval,a1,a3,q0,ab UM,ai,ak,au,aJ];have b3:X3 i3=some ⟨49,12,[ki x9]⟩:=a3;generalize x9=st at*;rw[ki]at b3;refine ae.aC rfl rfl rfl (hlc ⟨E,B,C,a⟩ _) ?_;generalize oV of (a:Int) k=L at*;obtain⟨L1,L2⟩:=L;simp only;by_cases h1:(L1:Int)<st.Qk
  .have q1:((L1:Int)<st.Qk)=True:=PK h1;apply sR;simp only[go_sem,seval,b3,q1,ai,ak,au,aJ];exact av.pure hs (by simp[h1])
  .have q1:((L1:Int)<st.Qk)=False:=PF h1;by_cases h2:(L2:Int)<st.Qw
   .have q2:((L2:Int)<st.Qw)=True:=PK h2;apply sR;simp only[go_sem,seval,b3,q1,q2,ai,ak,au,aJ];exact av.pure hs (by simp[h2])
   .have q2:((L2:Int)<st.Qw)=False:=PF h2;apply sR;simp only[go_sem,seval,b3,q1,q2,ai,ak,au,aJ];exact av.pure hs (by simp[h1,h2])
open Go.Proofs Go.Proofs.Tryz
def CT(l:List Nd)(x:Kn):Bool:=x.both.any λb=>decide ((SI l b).inside=1)
def BS(l:List Nd)(of:List Int)(k:Nat)(x:Kn){U:ag}{i1:Nat}(h:U i1=some ⟨257,7,[jF l of k x]⟩)(n:Nat)(hn:n<l.length):
 aB prog 175 [vI n,.ptr i1 0 0] U λr Z'=>r=.bool (decide ((SI l n).inside=1))/\Z'=U:=by
 refine N8.r (by simp[Iu]) ?_;refine ae.mix 4 ?_;have Rh:=λU=>ee (U:=U) (l:=l) (a:=n) hn;rw[j1 hn];rw[jF]at h;by_cases hi:l[n].st.inside=1
 .have q:(l[n].st.inside=1)=True:=PK hi;apply sR;simp only[go_sem,seval,Iu,h,Rh,Nd.cells,q,ai,ak];exact av.same (by simp[hi])
 .have q:(l[n].st.inside=1)=False:=PF hi;apply sR;simp only[go_sem,seval,Iu,h,Rh,Nd.cells,q,ai,ak];exact av.same (by simp[hi])
def Du(l:List Nd)(of:List Int)(k:Nat)(x:Kn)(hx:∀b∈x.both,∃n:Nat,b=n/\n<l.length)(hlen:x.both.length<=1000000):
 bb prog 153 [jF l of k x] (.bool (CT l x)):=λU=>by
 refine NC.r (by simp[Mp]) ?_;have hs:=aa.refl U;refine ae.mix 3 ?_;apply sR;simp only[go_sem,seval,Mp,jF,ai,ak,au,aJ];refine ad λi1 Z1 s1 a1 f1=>?_;have z1:=hs.none f1;replace hs:=hs.trans s1;simp only[go_sem,seval,a1,ai,ak,au,aJ];refine ae.aC rfl rfl rfl (nt (p:=λb=>decide ((SI l b).inside=1)) Reads.ints (by omega) (λb hb=>by
  obtain⟨n,rfl,hn⟩:=hx b hb;exact BS l of k x a1 n hn)) ?_
 apply sR;simp only[go_sem,seval];exact av.pure hs rfl
def Bs(l:List Nd)(hl:ed l)(hb:Qy l=true)(of:List Int)(QU:of.length<=1000000)(Q7:∀x∈of,0<=x/\x<l.length)(hm:qZ l of=true)(k:Nat)(hk:k<=of.length)(x:Kn):
 bb prog 154 [jF l of k x] (.bool (decide (1∈jM l of k))):=λU=>by
 refine Oz.r (by simp[Mj]) ?_;have hs:=aa.refl U;have hn:l.length<=100000:=by have:=hl.1;omega
 refine ae.mix 5 ?_;apply sR;simp only[go_sem,seval,Mj,jF,ai,ak,au,aJ];refine ad λi1 Z1 s1 a1 f1=>?_;have z1:=hs.none f1;replace hs:=hs.trans s1;simp only[go_sem,seval,a1,ai,ak,au,aJ];refine ae.aC rfl rfl rfl (Cg l hl hb of QU Q7 hm k hk _) ?_;apply sR;simp only[go_sem,seval];refine ae.aC rfl rfl rfl (An _ (by have:=uv hn of k;omega) 1 _) ?_;apply sR;simp only[go_sem,seval];exact av.pure hs rfl
open Go.Proofs Go.Proofs.Tryz
def Ep(s:Int)(j:Nat)(b:Bool):Int:=if b then s+2^j else s
def kY(l:List Nd)(of:List Int)(k:Nat):Nat->Bool
 |0=>KX l of (eM l of k).text k
 |1=>CT l (eM l of k)
 |_=>decide (1∈jM l of k)
def dM(l:List Nd)(of:List Int)(k:Nat):Nat->Int
 |0=>0
 |j+1=>Ep (dM l of k j) j (kY l of k j)
def qV(l:List Nd)(of:List Int)(k:Nat):Int:=if k=0\/k=of.length then 0 else dM l of k 3
def E0{l:List Nd}{of:List Int}(Q7:∀x∈of,0<=x/\x<l.length)(k:Nat):(eM l of k).text<l.length:=by
 rw[eM];simp only;split
 .rename_i h;have Vs:of.getD k 0=of[k]'h.2.1:=by simp[h.2.1]
  rw[Vs];exact(Q7 _ (QL h.2.1)).2
 .omega
def MW(l:List Nd)(hl:ed l)(hb:Qy l=true)(of:List Int)(QU:of.length<=1000000)(Q7:∀x∈of,0<=x/\x<l.length)(hm:qZ l of=true)(k:Nat)(hk:k<=of.length):
 bb prog 125 [aQ l,bD of,vI k] (.PN [vI (qV l of k),vI 0]):=λU=>by
 refine Pe.r (by simp[KK]) ?_;have hs:=aa.refl U;have Tj:=fU of;have hn:l.length<=100000:=by have:=hl.1;omega
 have Tg:∀(f:FuncId) (a:List V),(V.bm f a).cells=[.bm f a]:=λ_ _=>rfl;have QD:∀f:FuncId,(V.bm f [.agg [bD (eM l of k).ends,bD (eM l of k).R7,bD (eM l of k).both,vI (eM l of k).text,aQ l,bD of,vI k]]).stays=true:=λ_=>rfl;have Vt:V.Rj.cells=[.Rj]:=rfl;refine ae.mix 15 ?_;apply sR;simp only[go_sem,seval,KK];refine ae.aC rfl rfl rfl (L8 l hl hb of QU Q7 hm k hk _) ?_;have Sg:(jF l of k (eM l of k)).stays=true:=rfl;apply sR;simp only[go_sem,seval,jF,Sg];refine ad λi8 Z8 s8 a8 f8=>?_;have z8:=hs.none f8;replace hs:=hs.trans s8;have q0:((0:Int)≠0)=False:=PF (λh=>h rfl);unfold qV;by_cases TK:k=0
 .subst TK;have q1:(((0:Nat):Int)=0)=True:=PK rfl;simp only[go_sem,seval,a8,q0,q1,ai,ak,au,aJ];exact av.pure (hs.aD z8) (by simp)
 have q1:((k:Int)=0)=False:=PF;by_cases R0:k=of.length
 .have q2:((k:Int)=of.length)=True:=PK;simp only[go_sem,seval,a8,q0,q1,q2,Tj,ai,ak,au,aJ];exact av.pure (hs.aD z8) (by simp[R0])
 have q2:((k:Int)=of.length)=False:=PF;rw[aH (by omega)];simp only[go_sem,seval,a8,q0,q1,q2,Tj,Tg,QD,Vt,ai,ak,au,aJ];generalize Ra:C' _ i8 _=Y8;replace a8:=(congrFun Ra i8).symm.trans af;replace hs:=Eq.subst (motive:=aa _) Ra (hs.aD z8);clear Ra;refine ad λQb UP Re P0 f10=>?_;have n810:=al a8 f10;replace a8:=Re _ _ a8;have SS:=hs.none f10;replace hs:=hs.trans Re;simp only[go_sem,seval,P0,Tg,QD,Vt,ai,ak,au,aJ];generalize Qs:C' _ Qb _=Y10;replace P0:=(congrFun Qs Qb).symm.trans af;replace a8:=((congrFun Qs i8).symm.trans (ab n810)).trans a8;replace hs:=Eq.subst (motive:=aa _) Qs (hs.aD SS);clear Qs;have ht:=E0 Q7 (l:=l) k;have c0:bb prog 152 [jF l of k (eM l of k)] (.bool (kY l of k 0)):=KC l hl hb of QU k (eM l of k) ht;have c1:bb prog 153 [jF l of k (eM l of k)] (.bool (kY l of k 1)):=Du l of k (eM l of k) (yn Q7) (mq (pU hn) (by omega));have c2:bb prog 154 [jF l of k (eM l of k)] (.bool (kY l of k 2)):=Bs l hl hb of QU Q7 hm k hk (eM l of k);rw[jF]at c0 c1 c2;generalize hpv:V.agg [bD (eM l of k).ends,bD (eM l of k).R7,bD (eM l of k).both,vI (eM l of k).text,aQ l,bD of,vI k]=pv at*;refine ae.jd (λst=>aa U st.U/\st.s 11=vI (dM l of k 3))
  (λm st=>∃j:Nat,j<=3/\m=3-j/\aa U st.U/\st.s 11=vI (dM l of k j)/\st.s 41=.agg [.bm 152 [pv],.bm 153 [pv],.bm 154 [pv]]/\st.s 42=vI j) 3 ?_ ?_ ?_
 .exact⟨0,by omega,rfl,hs,rfl,rfl,rfl⟩
 .clear hs a8 P0;rintro m ⟨S,J⟩ ⟨j,hj,rfl,hs,t11,t41,t42⟩;simp only at hs t11 t41 t42;refine ae.mix 15 ?_;rcases(by omega:j=0\/j=1\/j=2\/j=3)with rfl|rfl|rfl|rfl
  .have Ul:S 42=vI 0:=t42;have hp:dM l of k 0=0:=rfl;have Tm:S 11=vI 0:=by rw[t11,hp]
   apply sR;simp only[go_sem,seval,Tm,t41,Ul];refine ae.kS rfl rfl rfl (c0 _) ?_;rintro r Z' ⟨rfl,rfl⟩;cases hv:kY l of k 0
   .apply sR;simp only[go_sem,seval,Tm,t41,Ul];refine⟨ar,_,?_,1,by omega,rfl,hs,by rw[dM,hp,hv];rfl,rfl⟩;omega
   .apply sR;simp only[go_sem,seval,Tm,t41,Ul];refine⟨ar,_,?_,1,by omega,rfl,hs,by rw[dM,hp,hv];rfl,rfl⟩;omega
  .have Ul:S 42=vI 1:=t42;have hp:dM l of k 1=0\/dM l of k 1=1:=by rw[dM,dM,Ep];split<;>simp
   rcases hp with hp|hp
   .have:=hp;have Tm:S 11=vI 0:=by rw[t11,hp]
    apply sR;simp only[go_sem,seval,Tm,t41,Ul];refine ae.kS rfl rfl rfl (c1 _) ?_;rintro r Z' ⟨rfl,rfl⟩;cases hv:kY l of k 1
    .apply sR;simp only[go_sem,seval,Tm,t41,Ul];refine⟨ar,_,?_,2,by omega,rfl,hs,by rw[dM,hp,hv];rfl,rfl⟩;omega
    .apply sR;simp only[go_sem,seval,Tm,t41,Ul];refine⟨ar,_,?_,2,by omega,rfl,hs,by rw[dM,hp,hv];rfl,rfl⟩;omega
   .have:=hp;have Tm:S 11=vI 1:=by rw[t11,hp]
    apply sR;simp only[go_sem,seval,Tm,t41,Ul];refine ae.kS rfl rfl rfl (c1 _) ?_;rintro r Z' ⟨rfl,rfl⟩;cases hv:kY l of k 1
    .apply sR;simp only[go_sem,seval,Tm,t41,Ul];refine⟨ar,_,?_,2,by omega,rfl,hs,by rw[dM,hp,hv];rfl,rfl⟩;omega
    .apply sR;simp only[go_sem,seval,Tm,t41,Ul];refine⟨ar,_,?_,2,by omega,rfl,hs,by rw[dM,hp,hv];rfl,rfl⟩;omega
  .have Ul:S 42=vI 2:=t42;have hp:dM l of k 2=0\/dM l of k 2=1\/dM l of k 2=2\/dM l of k 2=3:=by rw[dM,dM,dM,Ep,Ep];split<;>split<;>simp
   rcases hp with hp|hp|hp|hp
   .have:=hp;have Tm:S 11=vI 0:=by rw[t11,hp]
    apply sR;simp only[go_sem,seval,Tm,t41,Ul];refine ae.kS rfl rfl rfl (c2 _) ?_;rintro r Z' ⟨rfl,rfl⟩;cases hv:kY l of k 2
    .apply sR;simp only[go_sem,seval,Tm,t41,Ul];refine⟨ar,_,?_,3,by omega,rfl,hs,by rw[dM,hp,hv];rfl,rfl⟩;omega
    .apply sR;simp only[go_sem,seval,Tm,t41,Ul];refine⟨ar,_,?_,3,by omega,rfl,hs,by rw[dM,hp,hv];rfl,rfl⟩;omega
   .have:=hp;have Tm:S 11=vI 1:=by rw[t11,hp]
    apply sR;simp only[go_sem,seval,Tm,t41,Ul];refine ae.kS rfl rfl rfl (c2 _) ?_;rintro r Z' ⟨rfl,rfl⟩;cases hv:kY l of k 2
    .apply sR;simp only[go_sem,seval,Tm,t41,Ul];refine⟨ar,_,?_,3,by omega,rfl,hs,by rw[dM,hp,hv];rfl,rfl⟩;omega
    .apply sR;simp only[go_sem,seval,Tm,t41,Ul];refine⟨ar,_,?_,3,by omega,rfl,hs,by rw[dM,hp,hv];rfl,rfl⟩;omega
   .have:=hp;have Tm:S 11=vI 2:=by rw[t11,hp]
    apply sR;simp only[go_sem,seval,Tm,t41,Ul];refine ae.kS rfl rfl rfl (c2 _) ?_;rintro r Z' ⟨rfl,rfl⟩;cases hv:kY l of k 2
    .apply sR;simp only[go_sem,seval,Tm,t41,Ul];refine⟨ar,_,?_,3,by omega,rfl,hs,by rw[dM,hp,hv];rfl,rfl⟩;omega
    .apply sR;simp only[go_sem,seval,Tm,t41,Ul];refine⟨ar,_,?_,3,by omega,rfl,hs,by rw[dM,hp,hv];rfl,rfl⟩;omega
   .have:=hp;have Tm:S 11=vI 3:=by rw[t11,hp]
    apply sR;simp only[go_sem,seval,Tm,t41,Ul];refine ae.kS rfl rfl rfl (c2 _) ?_;rintro r Z' ⟨rfl,rfl⟩;cases hv:kY l of k 2
    .apply sR;simp only[go_sem,seval,Tm,t41,Ul];refine⟨ar,_,?_,3,by omega,rfl,hs,by rw[dM,hp,hv];rfl,rfl⟩;omega
    .apply sR;simp only[go_sem,seval,Tm,t41,Ul];refine⟨ar,_,?_,3,by omega,rfl,hs,by rw[dM,hp,hv];rfl,rfl⟩;omega
  .have Ul:S 42=vI 3:=t42;apply sR;simp only[go_sem,seval,t11,t41,Ul];exact hs
 .rintro⟨S,J⟩ ⟨hs,t11⟩;simp only at hs t11;refine ae.mix 15 ?_;apply sR;simp only[go_sem,seval,t11];exact av.pure hs rfl
end Go.Vc
