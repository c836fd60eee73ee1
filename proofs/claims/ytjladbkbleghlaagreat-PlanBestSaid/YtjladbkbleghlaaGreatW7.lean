/- Part 7 of the library of this proof. -/
import Derived.Test.YtjladbkbleghlaaGreatW6
set_option linter.all false
set_option maxHeartbeats 8000000
set_option maxRecDepth 100000
namespace Go.Vc
open Go.Proofs Go.Proofs.Tryz
def PF(l:List Nd):Nat->Int->List Int
 |0,_=>[]
 |f+1,p=>if 0<=p then p::PF l f (eQ l p.toNat)else[]
def uK{l:List Nd}{f:Nat}{p:Int}(h:p<0):PF l f p=[]:=by
 cases f with
 |zero=>rfl
 |succ f=>rw[PF,aJ (by omega)]
def qE{l:List Nd}{f:Nat}{p:Int}(h:0<=p)(hf:p<f):∃g,f=g+1/\PF l f p=p::PF l g (eQ l p.toNat):=by
 cases f with
 |zero=>omega
 |succ f=>exact⟨f,rfl,by rw[PF,aI h]⟩
def fI(l:List Nd)(a:Nat):-1<=eQ l a/\eQ l a<a:=rG l a a
def WR(U:ag)(l:List Nd):cJ U false 1 (.rp (aM l))=some (aM l):=rfl
def fdN(l:List Nd):fg false 0 1 (.rp (.agg [aM l]))=some (.rp (aM l)):=rfl
def mA(l:List Int):List (List V):=l.map λp=>[vI p]
def sk(l:List Nd)(hl:dV l)(hb:Mj l=true)(a:Nat)(ha:a<l.length):Iter prog 133 [.rp (.agg [aM l]),.rp (vI a)] (mA (PF l (l.length+1) (eQ l a))):=by
 have hhas:td l (a:Int)=true:=wA.2 ⟨by omega,by omega⟩;have XU:=fI l a;refine⟨IN.c,λL9 τ Jx Z0 hy hJ=>?_⟩;refine(IN.r (by simp[Hd]) ?_).2;refine ab.mix 5 ?_;apply sR;simp only[BB,seval,<-decide_not,bk,eV,aL,cX,cV,db,da,dv,bF,gY,bl,eO,cZ,eN,cq,bZ,bK,fV,bS,bY,bQ,Mw,gW,cz,bH,kF,cK,bL,cu,cb,ie,binBV,bC,cD,V.cells,V.stays,MJ.nothing,Hd,WR,fdN];refine ab.aC rfl rfl rfl (GO l a _) ?_;rw[hhas];apply sR;simp only[BB,seval,<-decide_not,bk,eV,aL,cX,cV,db,da,dv,bF,gY,bl,eO,cZ,eN,cq,bZ,bK,fV,bS,bY,bQ,Mw,gW,cz,bH,kF,cK,bL,cu,cb,ie,binBV,bC,cD,V.cells,V.stays,MJ.nothing,WR,fdN];refine ab.aC rfl rfl rfl (uB l hl hb a ha _) ?_;apply sR;simp only[go_sem,seval];refine ab.loop (λm st=>∃(pre:List Int) (q:Int) (f:Nat) (ZJ:ag),m=(q+1).toNat/\-1<=q/\q<l.length/\q<f/\PF l (l.length+1) (eQ l a)=pre++PF l f q/\τ (mA pre) ZJ/\aa ZJ st.U/\
  st.s 0=.yl L9/\st.s 1=.rp (.agg [aM l])/\st.s 4=vI q) (eQ l a+1).toNat ?_ ?_
 .exact⟨[],eQ l a,l.length+1,Z0,rfl,by omega,by omega,by omega,rfl,hJ,aa.refl _,rfl,rfl,rfl⟩
 .rintro m ⟨s,Z'⟩ ⟨pre,q,f,ZJ,rfl,hq1,hq2,hqf,N1,Zn,G',h0,h1,h4⟩;simp only at G' h0 h1 h4;refine ab.mix 5 ?_;by_cases hq:0<=q
  .obtain⟨g,rfl,hu⟩:=qE (l:=l) hq hqf;obtain⟨k,rfl⟩:∃k:Nat,q=k:=⟨q.toNat,by omega⟩
   have Pv:((k:Int)>=0)=True:=by simp
   rw[gX]at hu;have RV:=fI l k;have NO:k<l.length:=by omega
   have e:mA (PF l (l.length+1) (eQ l a))=mA pre++[vI k]::mA (PF l g (eQ l k)):=by rw[N1,hu];simp[mA]
   apply sR;simp only[go_sem,seval,h0,h1,h4,Pv];refine ab.oK (Post:=λb Z2=>∃L',bB ZJ Z' L' Z2/\((b=true/\τ (mA pre++[[vI k]]) L')\/(b=false/\Jx (mA pre++[[vI k]]) L'))) rfl rfl rfl (hy _ [vI k] _ ZJ Z' e Zn G') ?_;rintro b Z2 ⟨L',Nv,Nh⟩;rcases Nh with⟨rfl,Nh⟩|⟨rfl,Nh⟩
   .apply sR;simp only[BB,seval,<-decide_not,bk,eV,aL,cX,cV,db,da,dv,bF,gY,bl,eO,cZ,eN,cq,bZ,bK,fV,bS,bY,bQ,Mw,gW,cz,bH,kF,cK,bL,cu,cb,ie,binBV,bC,cD,V.cells,V.stays,MJ.nothing,h0,h1,h4,WR,fdN];refine ab.aC rfl rfl rfl (uB l hl hb k NO _) ?_;apply sR;simp only[go_sem,seval,h0,h1];refine⟨_,?_,pre++[(k:Int)],eQ l k,g,L',rfl,by omega,by omega,by omega,by rw[N1,hu];simp,?_,Nv.1,by simp[h0,h1]⟩
    .omega
    .simpa[mA]using Nh
   .apply sR;simp only[go_sem,seval,h0,h1,h4];refine⟨_,L',Nv.1,Wk.refl Nv.1 _,.inr ⟨mA pre++[[vI k]],?_,Nh⟩⟩;rw[e];exact⟨mA (PF l g (eQ l k)),by simp⟩
  .have Pv:(q>=0)=False:=by simp;omega
   apply sR;simp only[go_sem,seval,h0,h1,h4,Pv];rw[uK (l:=l) (f:=f) (p:=q) (by omega),kC]at N1;exact⟨_,ZJ,G',Wk.refl G' _,.inl (by rw[N1];exact Zn)⟩
def wN(l:List Nd)(a:Int):bc prog 111 [.agg [aM l],vI a] (.fn 133 [.rp (.agg [aM l]),.rp (vI a)]):=λU=>by
 refine K2.r (by simp[Ix]) ?_;refine ab.mix 4 ?_;have q1:(V.agg [aM l]).cells.length=1:=rfl;have q2:(V.agg [aM l]).stays=true:=rfl;generalize V.agg [aM l]=x at*;apply sR;simp only[go_sem,seval,Ix,q1,q2];refine ae λOv Z1 s1 a1 f1=>?_;simp only[go_sem,seval];refine ae λPC Z2 s2 a2 f2=>?_;simp only[go_sem,seval];exact⟨_,U,s1.trans s2,Wk.fn (vs':=[.rp x,.rp (vI a)]) ⟨Wk.ptr (s1.trans s2) (s2 _ _ a1) f1,Wk.ptr (s1.trans s2) a2 (s1.none f2),trivial⟩,rfl,rfl⟩
def zi(l:List Nd)(hl:dV l)(hb:Mj l=true)(a:Nat)(ha:a<l.length):bc prog 173 [aM l,vI a] (vI (eQ l a)):=λU=>by
 refine JY.r (by simp[Hh]) ?_;refine ab.mix 5 ?_;have Ql:=sk l hl hb a ha;have XU:=fI l a;apply sR;simp only[go_sem,seval,Hh];refine ae λOD Z1 s1 a4 f4=>?_;simp only[go_sem,seval];refine ab.aC rfl rfl rfl (zb l hl hb _) ?_;apply sR;simp only[go_sem,seval];refine ab.aC rfl rfl rfl (wN l a _) ?_;apply sR;simp only[go_sem,seval];generalize hS:mix 5 _ _=S;have S4:S 4=.ptr OD 0 0:=by rw[<-hS];rfl
 have S9:S 9=.fn 133 [.rp (.agg [aM l]),.rp (vI a)]:=by rw[<-hS];rfl
 clear hS;have hx0:∀x pre post,mA (PF l (l.length+1) (eQ l a))=pre++x::post->pre=[]->x=[vI (eQ l a)]:=λx pre post h hp=>by
  subst hp;by_cases h0:0<=eQ l a
  .obtain⟨g,_,hu⟩:=qE (l:=l) (f:=l.length+1) h0 (by omega);rw[hu]at h;simp only[mA,fb,nE,List.cons.injEq]at h;exact h.1.symm
  .rw[uK (by omega)]at h;simp[mA]at h
 refine ab.fK (g:=.t 9) (caps:=[.rp (.agg [aM l]),.rp (vI a)]) S9 Ql (λx hx=>?_) [] (λpre ZJ=>pre=[]/\ZJ=Z1) (λc pre ZJ=>c=none/\ZJ=E' Z1 OD ⟨3,1,[vI (eQ l a)]⟩) ?_ ?_ ?_ ?_ ?_
 .simp only[mA,gO]at hx;obtain⟨t,_,rfl⟩:=hx;rfl
 .exact⟨rfl,rfl⟩
 .rintro pre x post ZJ ZB N1 ⟨rfl,rfl⟩ G';obtain rfl:=hx0 x [] post N1 rfl;have b4:=G' _ _ a4;generalize NN:nj S [10] [vI (eQ l a)]=S0;have T4:S0 4=.ptr OD 0 0:=by rw[<-NN];exact S4
  have VB:S0 10=vI (eQ l a):=by rw[<-NN];rfl
  clear NN;refine ab.mix 11 ?_;apply sR;simp only[go_sem,seval,T4,VB,b4];refine ab.mix 11 ?_;apply sR;simp only[go_sem,seval,T4,b4];exact⟨_,(bB.refl G').set (o:=⟨3,1,[vI 0]⟩) a4,rfl⟩
 .rintro Z' ⟨hn,rfl⟩;have hpm:eQ l a=-1:=by
   by_cases h0:0<=eQ l a
   .obtain⟨g,_,hu⟩:=qE (l:=l) (f:=l.length+1) h0 (by omega);rw[hu]at hn;simp[mA]at hn
   .omega
  refine ab.mix 5 ?_;apply sR;simp only[go_sem,seval,S4,a4];rw[hpm];exact aE.pure (s1.aG f4) rfl
 .intro id h;cases h
 .rintro pre Z' _ ⟨_,rfl⟩;refine ab.mix 5 ?_;apply sR;simp only[go_sem,seval,S4,ak];exact aE.pure (s1.aG f4) rfl
open Go.Proofs Go.Proofs.Tryz
def kS{l:List Nd}{a b:Int}:gF l a b=true↔0<=a/\b<l.length/\a<=b/\b<a+L0 l a.toNat:=by
 simp only[gF,Ba,wA,NV];constructor
 .rintro⟨h1,h2,h3,h4⟩;omega
 .rintro⟨h1,h2,h3,h4⟩;omega
def tF(l:List Nd)(b:Nat):∀k,(qs l b k=-1/\∀i:Nat,i<k->gF l i b=false)\/∃q:Nat,qs l b k=q/\q<k/\gF l q b=true/\∀i:Nat,q<i->i<k->gF l i b=false
 |0=>.inl ⟨rfl,λi h=>by omega⟩
 |k+1=>by
  rw[qs];cases hk:gF l k b
  .simp only[iG,↓reduceIte];rcases tF l b k with⟨h1,h2⟩|⟨q,h1,h2,h3,h4⟩
   .refine .inl ⟨h1,λi hi=>?_⟩;by_cases e:i=k
    .rw[e];exact hk
    .exact h2 i (by omega)
   .refine .inr ⟨q,h1,by omega,h3,λi hi MD=>?_⟩;by_cases e:i=k
    .rw[e];exact hk
    .exact h4 i hi (by omega)
  .simp only[↓reduceIte];exact .inr ⟨k,rfl,by omega,hk,λi hi MD=>by omega⟩
def nest{l:List Nd}(hb:Mj l=true){x q:Nat}(hx:x<l.length)(h1:x<=q)(h2:(q:Int)<x+L0 l x)(hq:q<l.length):(q:Int)+L0 l q<=x+L0 l x:=by
 by_cases e:x=q
 .subst e;omega
 .have Mh:cg l 0 l.length=true:=by simp only[Mj,Ba]at hb;exact hb.2
  obtain⟨z1,z2⟩:=pr hb hx;obtain⟨z3,_⟩:=du (Md _) Mh (Nat.zero_le x) hx;have Q0:=lE l (l.length+1) 0 l.length (by omega) (Md _) Mh x (by omega) hx hx;rw[<-kX hx]at Q0;have:=(du (e:=x+(L0 l x).toNat) (by omega) Q0 (k:=q) (by omega) (by omega)).1;omega
def Cd(l:List Nd):∀(f:Nat) (p x:Int),x∈PF l f p->0<=x/\x<=p
 |0,_,_,h=>by simp[PF]at h
 |f+1,p,x,h=>by
  rw[PF]at h;split at h
  .rcases dI.1 h with rfl|h
   .omega
   .have:=Cd l f _ x h;have:=fI l p.toNat;omega
  .simp at h
def oM{l:List Nd}{a b:Nat}:∀k:Nat,(∀i:Nat,i<k->gF l i a=gF l i b)->gj l a k=gj l b k
 |0,_=>rfl
 |k+1,h=>by
  rw[gj,gj,h k (by omega),oM k λi hi=>h i (by omega)]
def lV{l:List Nd}{a q:Nat}:∀k:Nat,q<=k->(∀i:Nat,q<=i->i<k->gF l i a=false)->gj l a k=gj l a q
 |0,h,_=>by rw[Nat.le_zero.1 h]
 |k+1,h,hh=>by
  by_cases e:q=k+1
  .rw[e]
  .rw[gj,hh k (by omega) (by omega),aJ (by simp)];exact lV k (by omega) λi h1 h2=>hh i h1 (by omega)
def tP{l:List Nd}(hb:Mj l=true):∀(f a:Nat),a<l.length->eQ l a<f->PF l f (eQ l a)=gj l a a
 |f,a,ha,hf=>by
  rcases tF l a a with⟨h1,h2⟩|⟨q,h1,h2,h3,h4⟩
  .have e:eQ l a=-1:=h1;rw[e,uK (by omega),lV (q:=0) a (by omega) λi _ hi=>h2 i hi];rfl
  .have e:eQ l a=q:=h1;rw[e]at hf|-;obtain⟨g,rfl,hu⟩:=qE (l:=l) (f:=f) (p:=q) (by omega) hf;rw[hu,gX];have hpq:=fI l q;rw[tP hb g q (by omega) (by omega),lV (q:=q+1) a (by omega) λi i1 i2=>h4 i (by omega) i2,gj,h3,aI rfl];congr 1;refine oM q λi hi=>?_;rw[Bool.eq_iff_iff,kS,kS];rw[kS]at h3;simp only[gX]at h3|-;constructor
   .rintro⟨_,_,_,g4⟩;have:=nest hb (x:=i) (q:=q) (by omega) (by omega) g4 (by omega);omega
   .rintro⟨_,_,_,_⟩;omega
open Go.Proofs Go.Proofs.Tryz
def bB.Gc{ZJ U L' Z':ag}(h:bB ZJ U L' Z'){e:Option Nat}(he:∀i,e=some i->∃o,L' i=some o):bB ZJ U (Vc.bT L' e) (Vc.bT Z' e):=by
 cases e with
 |none=>exact h
 |some e=>
  refine⟨zQ h.1,λi o h1 h2=>?_⟩;obtain⟨h3,h4⟩:=h.2 i o h1 h2;have:i≠e:=λe'=>by subst e';obtain⟨o',Vi⟩:=he i rfl;rw[h4]at Vi;cases Vi
  simp only[Vc.bT,eT this];exact⟨h3,h4⟩
def aQ.D7{K ZJ Z1:ag}{e sz:Nat}{v:V}{rows:List V}(h:aQ K ZJ e sz v rows)(hs:aa ZJ Z1):
 ∃LQ,de Z1 e sz v=some (rows,LQ)/\∀i,LQ=some i->K i=none/\∃o,ZJ i=some o:=by
 rcases h with⟨rfl,rfl⟩|⟨id,rfl,ho,hk⟩
 .exact⟨none,rfl,λ_ h=>by cases h⟩
 .refine⟨some id,?_,λi h=>by cases h;exact⟨hk,_,ho⟩⟩;simp only[de,hs _ _ ho];rw[aI ⟨trivial,trivial,trivial,Md _⟩,kP]
def bW(U:ag)(id:Nat):ag:=λi=>if i=id then some ⟨0,0,[]⟩else U i
def aW{U:ag}{id i:Nat}:bW U id i=none↔i≠id/\U i=none:=by
 unfold bW;split
 .rename_i h;simp[h]
 .rename_i h;simp[h]
def vm{α:Type}{f:α->V}{xs:List α}{pre post:List (List V)}{x:List V}(h:(xs.map λa=>[f a])=pre++x::post):∃a,xs[pre.length]?=some a/\x=[f a]:=by
 have:=congrArg (·[pre.length]?) h;simp only[tq,IF (Md _),Nat.sub_self,Fk,Vd]at this;obtain⟨t,h1,h2⟩:=this;exact⟨t,h1,h2.symm⟩
def wa{g:FuncId}{caps:List V}{xs:List Int}(Ql:Iter prog g caps (xs.map λn=>[vI n]))(hx:xs.length<=1000000)(U:ag):
 aA prog 132 [.bz,.fn g caps] U λr Z'=>aa U Z'/\aQ U Z' 3 1 r (xs.map vI):=by
 refine Ky.r (by simp[Ip]) ?_;refine ab.mix 8 ?_;apply sR;simp only[go_sem,seval,Ip];refine ae λPC Z2 s2 a2 f2=>?_;simp only[go_sem,seval];generalize hS:mix 8 _ _=S;have S2:S 2=.ptr PC 0 0:=by rw[<-hS];rfl
 have S6:S 6=.fn g caps:=by rw[<-hS];rfl
 clear hS;refine ab.fK (g:=.t 6) (caps:=caps) S6 Ql (λx hx=>?_) [] (λpre ZJ=>∃v,ZJ PC=some ⟨23,1,[v]⟩/\aa U ZJ/\aQ (bW U PC) ZJ 3 1 v ((xs.take pre.length).map vI))
  (λ_ _ _=>False) ?_ ?_ ?_ ?_ ?_
 .obtain⟨t,_,rfl⟩:=gO.1 hx;rfl
 .exact⟨.bz,a2,s2,by simpa using aQ.start⟩
 .rintro pre x post ZJ ZB N1 ⟨v,J2,Js,Jo⟩ G';obtain⟨t,VF,rfl⟩:=vm (f:=vI) N1;have Mv:xs.take (pre.length+1)=xs.take pre.length++[t]:=by rw[GG,VF];rfl
  have hlen:(pre++[[vI t]]).length=pre.length+1:=by simp
  rw[hlen,Mv];have NO:((xs.take pre.length).map vI).length<=1000001:=by simp;omega
  have PG:v.cells=[v]:=by rcases Jo with⟨rfl,_⟩|⟨_,rfl,_⟩<;>rfl
  generalize Mh:((xs.take pre.length).map vI)=rows at*;have b2:=G' _ _ J2;generalize NN:nj S [7] [vI t]=S0;have T2:S0 2=.ptr PC 0 0:=by rw[<-NN];exact S2
  have T7:S0 7=vI t:=by rw[<-NN];rfl
  refine ab.mix 8 ?_;apply sR;simp only[go_sem,seval,T2,T7];apply sR;simp only[go_sem,seval,T2,T7,b2,PG];rw[aN];intro Ot f28;have QL:=(bB.refl G').Er (o:=⟨3,1,[vI t]⟩) f28;have y2:E' ZB Ot ⟨3,1,[vI t]⟩ PC=some ⟨23,1,[v]⟩:=by rw[ad (ao b2 f28)];exact b2
  have a28:E' ZB Ot ⟨3,1,[vI t]⟩ Ot=some ⟨3,1,[vI t]⟩:=ak;generalize E' ZB Ot ⟨3,1,[vI t]⟩=Z8 at*;obtain⟨LQ,NF,Qk⟩:=Jo.D7 QL.1;have MR:(rows.length+1)*9<=140737488355328:=by omega
  have k2:bW U PC PC≠none:=λh=>(aW.1 h).1 rfl;have Q6:∀(i:Nat) (Zx:ag),bW U PC i≠none->Vc.bT Zx LQ i=Zx i:=λi Zx hk=>by
   cases LQ with
   |none=>rfl
   |some a=>exact eT (λe=>hk (by rw[e];exact(Qk a rfl).1))
  simp only[go_sem,seval,NF,fm a28,MR,T2];rw[aN];intro M6 f29;have f29:Z8 M6=none:=f29;have R3:PC≠M6:=ao y2 f29;have Tw:Vc.bT Z8 LQ M6=none:=by
   cases LQ with
   |none=>exact f29
   |some a=>simp only[Vc.bT,del];split<;>first|rfl|exact f29
  have Zt:E' (Vc.bT Z8 LQ) M6 ⟨3,1,rows++[vI t]⟩ PC=some ⟨23,1,[v]⟩:=by rw[ad R3,Q6 _ _ k2];exact y2
  have Zu:=((QL.Gc (e:=LQ) λi h=>(Qk i h).2).new (o:=⟨3,1,rows++[vI t]⟩) Tw).set (id:=PC) (o:=⟨23,1,[v]⟩) (o':=⟨23,1,[.own M6 0 (rows.length+1)]⟩) (by rw[ad R3,Q6 _ _ k2];exact J2);simp only[go_sem,seval,PG,Zt,T2];refine⟨_,Zu,.own M6 0 (rows.length+1),ak,?_,?_⟩
  .refine aa.aG (λi o h=>?_) f2;have h1:=Js _ _ h;rw[ad (ao (QL.1 _ _ h1) f29),Q6 _ _ (λhk=>by rw[(aW.1 hk).2]at h;cases h)];exact h1
  .rw[gM,Mh];refine aQ.new (by simp) (by rw[ad R3.symm,ak];rfl) ?_;rw[aW];refine⟨R3.symm,?_⟩;cases h:U M6 with
   |none=>rfl
   |some o=>rw[QL.1 _ _ (Js _ _ h)]at f29;cases f29
 .rintro Z' ⟨v,J2,Js,Jo⟩;rw[eU,kP]at Jo;have PG:v.cells=[v]:=by rcases Jo with⟨rfl,_⟩|⟨_,rfl,_⟩<;>rfl
  refine ab.mix 5 ?_;apply sR;simp only[go_sem,seval,S2,J2,PG];refine⟨_,_,aa.refl _,Wk.refl (aa.refl _) _,Js,?_⟩;rcases Jo with h|⟨id,h1,h2,h3⟩
  .exact .inl h
  .exact .inr ⟨id,h1,h2,(aW.1 h3).2⟩
 .intro id h;cases h
 .rintro pre Z' _ ⟨⟩
def tR{g:FuncId}{caps:List V}{xs:List Int}(Ql:Iter prog g caps (xs.map λn=>[vI n]))(hx:xs.length<=1000000):
 bc prog 109 [.fn g caps] (bj xs):=λU=>by
 refine Kl.r (by simp[Iw]) ?_;refine ab.mix 3 ?_;apply sR;simp only[go_sem,seval,Iw];refine ab.call rfl rfl rfl (wa Ql hx U) ?_;rintro r Z1 ⟨h1,h2⟩;apply sR;simp only[go_sem,seval];exact h2.vR h1 rfl
def PH(l:List Nd)(a:Nat):List Int:=PF l (l.length+1) (eQ l a)
def jh(l:List Nd):∀(f:Nat) (p:Int),(PF l f p).length<=f
 |0,_=>by simp[PF]
 |f+1,p=>by
  rw[PF];split
  .have:=jh l f (eQ l p.toNat);simp only[MM];omega
  .simp
def Hj{l:List Nd}(hb:Mj l=true){a:Nat}(ha:a<l.length):PH l a=gj l a a:=tP hb _ _ ha (by have:=fI l a;omega)
def vT(l:List Nd)(hl:dV l)(hb:Mj l=true)(hn:l.length<=100000)(a:Nat)(ha:a<l.length):bc prog 73 [aM l,vI a] (bj (PH l a)):=λU=>by
 refine e73.r (by simp[c73]) ?_;refine ab.mix 5 ?_;apply sR;simp only[go_sem,seval,c73];refine ab.aC rfl rfl rfl (zb l hl hb _) ?_;apply sR;simp only[go_sem,seval];refine ab.aC rfl rfl rfl (wN l a _) ?_;apply sR;simp only[go_sem,seval];refine ab.aC rfl rfl rfl (tR (sk l hl hb a ha) (by have:=jh l (l.length+1) (eQ l a);omega) _) ?_;apply sR;simp only[go_sem,seval];exact aE.same rfl
structure Uk(s:MT):Prop where
 top:0<=s.top/\s.top<=1099511627776
 LM:0<=s.LM/\s.LM<=1099511627776
 LA:0<=s.LA/\s.LA<=1099511627776
 Lt:0<=s.Lt/\s.Lt<=1099511627776
 Mm:0<=s.Mm/\s.Mm<=1099511627776
 LZ:0<=s.LZ/\s.LZ<=1099511627776
 Mg:0<=s.Mg/\s.Mg<=1099511627776
 head:0<=s.head/\s.head<=1099511627776
 before:0<=s.before/\s.before<=4
 after:0<=s.after/\s.after<=4
 inside:0<=s.inside/\s.inside<=1
 clear:0<=s.clear/\s.clear<=3
structure R4(x:Nd):Prop where
 st:Uk x.st
 kind:x.kind=1\/x.kind=2\/x.kind=3\/x.kind=4
 line:0<=x.line/\x.line<=1099511627776
 space:0<=x.space/\x.space<=1099511627776
 words:∀w∈x.words,1<=w/\w<=1099511627776
 w:0<=x.w/\x.w<=1099511627776
 h:0<=x.h/\x.h<=1099511627776
 side:0<=x.side/\x.side<=2
 text:x.kind=2->0<x.words.length/\1<=x.line
 box:x.kind=3\/x.kind=4->1<=x.w/\1<=x.h
 fl:x.kind=4->1<=x.side
 j4:x.kind≠1->x.st=MT.zero
 R5:x.kind≠2->x.words=[]
def mW{n a b:Int}:bf n a b=true↔a<=n/\n<=b:=by simp[bf]
def BT:Uk MT.zero:=by constructor<;>simp[MT.zero]
def HY{s:MT}(h:s.ok=true):Uk s:=by
 simp only[MT.ok,Ba,mW,mx]at h;constructor<;>omega
def HJ{x:Nd}(h:x.ok=true):R4 x:=by
 unfold Nd.ok at h;split at h
 .rename_i hk;simp only[Ba,NV]at h;obtain⟨⟨⟨⟨⟨⟨h1,h2⟩,h3⟩,h4⟩,h5⟩,h6⟩,h7⟩:=h;have hw:x.words=[]:=rE h4;exact⟨HY h1,.inl hk,by omega,by omega,by rw[hw];simp,by omega,by omega,by omega,by omega,by omega,by omega,by omega,λ_=>hw⟩
 .rename_i hk;split at h
  .cases h
  .rename_i L8;have hs:x.st=MT.zero:=Classical.byContradiction L8;have hso:Uk x.st:=by rw[hs];exact BT
   split at h
   .rename_i N2;simp only[Ba,NV,mW,mx,fa]at h;obtain⟨⟨⟨⟨⟨⟨h1,h2⟩,h3⟩,h4⟩,h5⟩,h6⟩,h7⟩:=h;exact⟨hso,.inr (.inl N2),by omega,by omega,h1,by omega,by omega,by omega,λ_=>⟨h2,h3.1⟩,by omega,by omega,λ_=>hs,by omega⟩
   .rename_i N2;simp only[Ba,jH,NV,mW,mx]at h;obtain⟨⟨⟨⟨⟨h1,h2⟩,h3⟩,h4⟩,h5⟩,h6⟩:=h;have hw:x.words=[]:=rE h3;exact⟨hso,by omega,by omega,by omega,by rw[hw];simp,by omega,by omega,by omega,by omega,by omega,by omega,λ_=>hs,λ_=>hw⟩
def gm{l:List Nd}(hb:Mj l=true){a:Nat}(h:a<l.length):R4 l[a]:=by
 simp only[Mj,Ba,fa]at hb;exact HJ (hb.1 _ (ML h))
open Go.Proofs Go.Proofs.Tryz
structure Rm where
 (x w:Int)
deriving DecidableEq
def jN(r:Rm):V:=.agg [vI r.x,vI r.w]
def cA(l:List Rm):V:=.sl 2 (l.map jN)
def CI(l:List Nd)(a:Nat):Int:=((l[a]?).map λn=>n.st.Mm).getD 0
def nG(r:Rm)(i:Int):Rm:=⟨min (r.x+i) 1099511627776,max (r.w-2*i) 1⟩
def cW(l:List Nd):Nat->Nat->Nat->Rm->List Rm
 |0,_,_,_=>[]
 |k+1,a,e,r=>if a<e then r::(cW l k (a+1) (a+(L0 l a).toNat) (nG r (CI l a))++cW l k (a+(L0 l a).toNat) e r)else[]
def k0{l:List Nd}{e:Nat}(he:e<=l.length):∀(k a:Nat) (r:Rm),e-a<=k->a<=e->cg l a e=true->(cW l k a e r).length=e-a
 |0,a,r,hk,ha,_=>by simp[cW];omega
 |k+1,a,r,hk,ha,hr=>by
  rw[cW];split
  .rename_i Lr;obtain⟨h1,h2⟩:=du he hr (Md a) Lr;obtain⟨h3,h4⟩:=ee he hr Lr;have ih:=k0 he k (a+(L0 l a).toNat) r (by omega) (by omega) h3;have ih2:=k0 (e:=a+(L0 l a).toNat) (by omega) k (a+1) (nG r (CI l a)) (by omega) (by omega) h4;simp only[MM,kf];omega
  .simp;omega
def jQ{l:List Nd}{e:Nat}(he:e<=l.length):∀(k j a:Nat) (r:Rm),e-a<=k->e-a<=j->cg l a e=true->cW l k a e r=cW l j a e r
 |0,0,_,_,_,_,_=>rfl
 |0,j+1,a,r,h,_,_=>by rw[cW,cW,aJ (by omega)]
 |k+1,0,a,r,_,h,_=>by rw[cW,cW,aJ (by omega)]
 |k+1,j+1,a,r,h,h',hr=>by
  rw[cW,cW];split
  .rename_i Lr;obtain⟨h1,h2⟩:=du he hr (Md a) Lr;obtain⟨h3,h4⟩:=ee he hr Lr;rw[jQ he k j _ _ (by omega) (by omega) h3,jQ (e:=a+(L0 l a).toNat) (by omega) k j _ _ (by omega) (by omega) h4]
  .rfl
def dT{U:ag}{l:List Nd}{a:Nat}(h:a<l.length):bN U 20 (aM l) (.int .i64 a)=some (.rp (.agg (Nd.cells l[a]))):=by
 simp[aM,bN,h,ir]
def mR(U:ag)(a b c:Nat):ag:=λi=>if i=a\/i=b\/i=c then some ⟨0,0,[]⟩else U i
def fJ{U:ag}{a b c i:Nat}:mR U a b c i=none↔i≠a/\i≠b/\i≠c/\U i=none:=by
 unfold mR;split
 .rename_i h;simp;intro h1 h2 h3;simp_all
 .rename_i h;simp only[not_or]at h;simp[h]
structure VG(l:List Nd)(Z0:ag)(il io ip:Nat)(rows:List V)(U:ag):Prop where
 rl:U il=some ⟨22,1,[aM l]⟩
 rp:U ip=some ⟨216,1,[.fn 116 [.ptr il 0 0,.ptr io 0 0,.ptr ip 0 0]]⟩
 sub:aa Z0 U
 no:Z0 io=none
 out:∃v,U io=some ⟨177,1,[v]⟩/\aQ (mR Z0 il io ip) U 218 2 v rows
def xV(r:Rm):(jN r).cells=[vI r.x,vI r.w]:=rfl
def wi(r:Rm):(jN r).stays=true:=rfl
def Rm.ok(r:Rm):Prop:=0<=r.x/\r.x<=1099511627776/\1<=r.w/\r.w<=1099511627776
def tM{r:Rm}(h:r.ok){i:Int}(h0:0<=i):(nG r i).ok:=by
 obtain⟨a,b,c,d⟩:=h;unfold nG Rm.ok;simp only;omega
def Cn{l:List Nd}(hb:Mj l=true){a:Nat}(h:a<l.length):CI l a=l[a].st.Mm/\0<=l[a].st.Mm/\l[a].st.Mm<=1099511627776:=by
 refine⟨by simp[CI,h],?_⟩;exact(gm hb h).st.Mm
def BU(l:List Nd)(hl:dV l)(hb:Mj l=true)(il io ip:Nat)(nlo:il≠io)(nlp:il≠ip)(nop:io≠ip):∀(m a e:Nat) (r:Rm) (rows:List V) (Z0 U:ag),e-a<m->a<=e->e<=l.length->cg l a e=true->r.ok->
 rows.length+(e-a)<=l.length->VG l Z0 il io ip rows U->
 aA prog 116 [vI a,vI e,jN r,.ptr il 0 0,.ptr io 0 0,.ptr ip 0 0] U λq Z'=>q=.LI []/\VG l Z0 il io ip (rows++(cW l (e-a) a e r).map jN) Z':=by
 intro m
 induction m with
 |zero=>intro a e r rows Z0 U h;omega
 |succ m ih=>?_
 intro a e r rows ZB U hm P7 he XV hr hlen WT;have Vt:=hl.1;refine Ke.r (by simp[GL]) ?_;refine ab.mix 11 ?_;apply sR;simp only[go_sem,seval,GL,xV,wi];refine ae λi8 Z8 s8 a8 f8=>?_;simp only[go_sem,seval];have no8:io≠i8:=by obtain⟨v,vo,_⟩:=WT.out;exact ao vo f8
 have fB8:ZB i8=none:=WT.sub.none f8;obtain⟨Z0,WU⟩:∃s,s=E' ZB i8 ⟨218,2,[jN r]⟩:=⟨_,rfl⟩
 have hk8:∀i,mR Z0 il io ip i=none↔i≠i8/\mR ZB il io ip i=none:=λi=>by
  rw[fJ,fJ,WU];by_cases h:i=i8
  .subst h;simp[ak]
  .rw[ad h];simp[h]
 have hJ8:VG l Z0 il io ip rows Z8:=by
  refine⟨s8 _ _ WT.rl,s8 _ _ WT.rp,?_,by rw[WU,ad no8];exact WT.no,?_⟩
  .intro i o h;rw[WU]at h;by_cases hi:i=i8
   .subst hi;rw[ak]at h;rw[a8];exact h
   .rw[ad hi]at h;exact s8 _ _ (WT.sub _ _ h)
  .obtain⟨v,vo,Nk⟩:=WT.out;refine⟨v,s8 _ _ vo,?_⟩;rcases Nk with h|⟨id,h1,h2,h3⟩
   .exact .inl h
   .exact .inr ⟨id,h1,s8 _ _ h2,(hk8 id).2 ⟨ao h2 f8,h3⟩⟩
 have Zv:∀(rows:List V) (J:ag),VG l Z0 il io ip rows J->VG l ZB il io ip rows J:=λrows J h=>by
  refine⟨h.rl,h.rp,λi o hi=>h.sub _ _ (by rw[WU,ad (λe=>by rw[e,fB8]at hi;cases hi)];exact hi),by have:=h.no;rw[WU,ad no8]at this;exact this,?_⟩;obtain⟨v,vo,Nk⟩:=h.out;refine⟨v,vo,?_⟩;rcases Nk with h|⟨id,h1,h2,h3⟩
  .exact .inl h
  .exact .inr ⟨id,h1,h2,((hk8 id).1 h3).2⟩
 have h08:Z0 i8=some ⟨218,2,[jN r]⟩:=by rw[WU];exact ak
 clear WU;refine ab.loop (λq st=>∃(b:Nat) (done:List V),q=e-b/\a<=b/\b<=e/\cg l b e=true/\done.length+(e-b)<=l.length/\rows++(cW l (e-a) a e r).map jN=done++(cW l (e-b) b e r).map jN/\VG l Z0 il io ip done st.U/\
  st.s 1=vI e/\st.s 3=.ptr il 0 0/\st.s 4=.ptr io 0 0/\st.s 5=.ptr ip 0 0/\st.s 8=.ptr i8 0 0/\st.s 9=vI b) (e-a) ?_ ?_
 .exact⟨a,rows,rfl,Md _,P7,XV,hlen,rfl,hJ8,rfl,rfl,rfl,rfl,rfl,rfl⟩
 .rintro q ⟨S,J⟩ ⟨b,done,rfl,Py,RZ,XW,hdl,Ro,hJ,t1,t3,t4,t5,t8,t9⟩;simp only at hJ t1 t3 t4 t5 t8 t9;refine ab.mix 11 ?_;by_cases Lr:b<e
  .have q1:((b:Int)<(e:Int))=True:=LH;obtain⟨h1,h2⟩:=du he XW (Md b) Lr;obtain⟨h3,h4⟩:=ee he XW Lr;have ME:b<l.length:=by omega
   obtain⟨g1,g2,g3⟩:=Cn hb ME;have No:=kX ME;obtain⟨v,vo,Nk⟩:=hJ.out;have PG:v.cells=[v]:=by rcases Nk with⟨rfl,_⟩|⟨_,rfl,_⟩<;>rfl
   have r8:=hJ.sub _ _ h08;have r8':=r8;rw[jN]at r8';apply sR;simp only[go_sem,seval,q1,t1,t3,t4,t5,t8,t9,r8',vo,PG];refine ae λi24 WV WW a24 f24=>?_;obtain⟨LQ,NF,Qk⟩:=Nk.D7 WW;have MR:(done.length+1)*17<=140737488355328:=by omega
   simp only[go_sem,seval,t1,t3,t4,t5,t8,t9,NF,fm a24,MR];rw[aN];intro Ul f25;have f25:WV Ul=none:=f25;have Q6:∀(i:Nat) (Zx:ag),mR Z0 il io ip i≠none->Vc.bT Zx LQ i=Zx i:=λi Zx hk=>by
    cases LQ with
    |none=>rfl
    |some a=>exact eT (λe=>hk (by rw[e];exact(Qk a rfl).1))
   have kl:mR Z0 il io ip il≠none:=λh=>(fJ.1 h).1 rfl;have ko:mR Z0 il io ip io≠none:=λh=>(fJ.1 h).2.1 rfl;have kp:mR Z0 il io ip ip≠none:=λh=>(fJ.1 h).2.2.1 rfl;have ol:=WW _ _ hJ.rl;have oo:=WW _ _ vo;have op:=WW _ _ hJ.rp;have o8:=WW _ _ r8;have nl:=ao ol f25;have no:=ao oo f25;have np:=ao op f25;have n8:=ao o8 f25;have k8:mR Z0 il io ip i8≠none:=λh=>((hk8 i8).1 h).1 rfl;have Tx:aa Z0 (E' (Vc.bT WV LQ) Ul ⟨218,2,done++[.agg [vI r.x,vI r.w]]⟩):=λi o h=>by
    have h1:=WW _ _ (hJ.sub _ _ h);rw[ad (ao h1 f25),Q6 _ _ (λhk=>by rw[(fJ.1 hk).2.2.2]at h;cases h)];exact h1
   have pl:(E' (Vc.bT WV LQ) Ul ⟨218,2,done++[.agg [vI r.x,vI r.w]]⟩) il=some ⟨22,1,[aM l]⟩:=by rw[ad nl,Q6 _ _ kl];exact ol
   have po:(E' (Vc.bT WV LQ) Ul ⟨218,2,done++[.agg [vI r.x,vI r.w]]⟩) io=some ⟨177,1,[v]⟩:=by rw[ad no,Q6 _ _ ko];exact oo
   have pp:(E' (Vc.bT WV LQ) Ul ⟨218,2,done++[.agg [vI r.x,vI r.w]]⟩) ip=some ⟨216,1,[.fn 116 [.ptr il 0 0,.ptr io 0 0,.ptr ip 0 0]]⟩:=by rw[ad np,Q6 _ _ kp];exact op
   have p25:(E' (Vc.bT WV LQ) Ul ⟨218,2,done++[.agg [vI r.x,vI r.w]]⟩) Ul=some ⟨218,2,done++[.agg [vI r.x,vI r.w]]⟩:=ak;have f0:Z0 Ul=none:=(hJ.sub.trans WW).none f25;have Lv:=λU=>dT (U:=U) ME;have q2:((b:Int)+1)=((b+1:Nat):Int):=by omega
   have q3:((b:Int)+l[b].size)=((b+(L0 l b).toNat:Nat):Int):=by rw[No];omega
   obtain⟨rx0,rx1,rw0,rw1⟩:=id hr;have r1:LP .i64 ((b:Int)+1):=au;have r2:LP .i64 ((b:Int)+l[b].size):=au;have r3:LP .i64 (r.x+l[b].st.Mm):=au;have r4:LP .i64 (2*l[b].st.Mm):=au;have r5:LP .i64 (r.w-2*l[b].st.Mm):=au;generalize E' (Vc.bT WV LQ) Ul ⟨218,2,done++[.agg [vI r.x,vI r.w]]⟩=Z25 at*;have p8:=Tx _ _ h08;rw[jN]at p8;simp only[go_sem,seval,t1,t3,t4,t5,t8,t9,pl,po,pp,p8,PG,af,aF,ad no8.symm,ad nlo,ad nlp.symm,ad nop.symm,ad nop,Lv,Nd.cells,r1,r2,r3,r4,r5,dd,gB];have So:VG l Z0 il io ip (done++[.agg [vI r.x,vI r.w]]) (E' Z25 io ⟨177,1,[.own Ul 0 (done.length+1)]⟩):=by
    refine⟨by rw[ad nlo];exact pl,by rw[ad nop.symm];exact pp,Tx.aG hJ.no,hJ.no,_,ak,aQ.new (by simp) (by rw[ad no.symm];exact p25) (fJ.2 ⟨nl.symm,no.symm,np.symm,f0⟩)⟩
   have hc:=ih (b+1) (b+(L0 l b).toNat) (nG r l[b].st.Mm) (done++[.agg [vI r.x,vI r.w]]) Z0 _ (by omega) (by omega) (by omega) h4 (tM hr g2) (by simp only[kf,MM,List.length_nil];omega) So;rw[<-q2,<-q3]at hc;refine ab.call rfl rfl rfl hc ?_;rintro q' Z' ⟨rfl,OH⟩;have cl:=OH.rl;apply sR;simp only[go_sem,seval,t1,t3,t4,t5,t8,t9,cl,af,aF,Lv,Nd.cells,r2];have hk:cW l (e-b) b e r=r::(cW l (b+(L0 l b).toNat-(b+1)) (b+1) (b+(L0 l b).toNat) (nG r (CI l b))++cW l (e-(b+(L0 l b).toNat)) (b+(L0 l b).toNat) e r):=by
    rw[show e-b=(e-b-1)+1 by omega,cW,aI Lr,jQ (by omega) (e-b-1) _ _ _ (by omega) (Md _) h4,jQ he (e-b-1) _ _ _ (by omega) (Md _) h3]
   have QK:=k0 (l:=l) (e:=b+(L0 l b).toNat) (by omega) (b+(L0 l b).toNat-(b+1)) (b+1) (nG r l[b].st.Mm) (Md _) (by omega) h4;refine⟨e-(b+(L0 l b).toNat),by omega,b+(L0 l b).toNat,_,rfl,by omega,by omega,h3,?_,?_,OH,by simp[t1,t3,t4,t5,t8,q3]⟩
   .simp only[kf,MM,List.length_nil,eU,QK];omega
   .rw[Ro,hk,g1];simp only[fb,gM,lU,List.cons_append,nE];rfl
  .have q1:((b:Int)<(e:Int))=False:=Ly;apply sR;simp only[go_sem,seval,q1,t1,t3,t4,t5,t8,t9];refine⟨_,_,aa.refl _,Wk.refl (aa.refl _) _,rfl,?_⟩;have hz:cW l (e-b) b e r=[]:=by rw[show e-b=0 by omega];rfl
   rw[Ro,hz];exact Zv _ _ (by simpa using hJ)
def ED(l:List Nd)(hl:dV l)(hb:Mj l=true)(w:Int)(h1:1<=w)(h2:w<=1099511627776):bc prog 91 [aM l,vI w] (cA (cW l l.length 0 l.length ⟨0,w⟩)):=λU=>by
 refine e91.r (by simp[c91]) ?_;have hs:=aa.refl U;refine ab.mix 8 ?_;apply sR;simp only[go_sem,seval,c91,af,aF];refine ae λi2 Z2 s2 a2 f2=>?_;have z2:=hs.none f2;replace hs:=hs.trans s2;simp only[go_sem,seval,a2,af,aF];refine ab.aC rfl rfl rfl (zb l hl hb _) ?_;apply sR;simp only[go_sem,seval,a2,af,aF];refine ae λi5 Z5 s5 a5 f5=>?_;have Ti:=ao a2 f5;replace a2:=s5 _ _ a2;have z5:=hs.none f5;replace hs:=hs.trans s5;have q1:(w<1)=False:=Ly;have q2:(w>1099511627776)=False:=Ly;simp only[go_sem,seval,a5,a2,af,aF,q1,q2,ad Ti,ad Ti];generalize Np:E' Z5 i5 _=Y5;have b5:Y5 i5=some ⟨207,1,[.agg [aM l]]⟩:=by rw[<-Np];exact ak
 have b2:Y5 i2=some ⟨22,1,[aM l]⟩:=by rw[<-Np,ad Ti];exact a2
 have PR:aa U Y5:=by rw[<-Np];exact hs.aG z5
 have N8:aa Y5 Y5:=aa.refl _;clear Np;refine ae λi6 Z6 s6 a6 f6=>?_;have c5:=s6 _ _ b5;have c2:=s6 _ _ b2;have z6:U i6=none:=PR.none f6;simp only[go_sem,seval];refine ae λi7 Z7 s7 a7 f7=>?_;have d5:=s7 _ _ c5;have d2:=s7 _ _ c2;have d6:=s7 _ _ a6;have z7:U i7=none:=(PR.trans s6).none f7;have XS:=ao c5 f7;have n27:=ao c2 f7;have Pc:=ao a6 f7;have n26:=ao b2 f6;have hn:=eX l;have Rg:V.MN.cells=[.MN]:=rfl;simp only[go_sem,seval,a7,Rg,d5,d2,d6,ad XS,ad n27,ad Pc,hn,af,aF];have hJ:VG l U i2 i6 i7 [] (E' Z7 i7 ⟨216,1,[.fn 116 [.ptr i2 0 0,.ptr i6 0 0,.ptr i7 0 0]]⟩):=
  ⟨by rw[ad n27];exact d2,ak,(((PR.trans s6).trans s7)).aG z7,z6,.bz,by rw[ad Pc];exact d6,aQ.start⟩
 have hc:=BU l hl hb i2 i6 i7 n26 n27 Pc (l.length+1) 0 l.length ⟨0,w⟩ [] U _ (by omega) (by omega) (by omega) (by simp only[Mj,Ba]at hb;exact hb.2) ⟨by simp,by simp,h1,h2⟩ (by simp) hJ;refine ab.call rfl rfl rfl hc ?_;rintro q Z' ⟨rfl,OH⟩;obtain⟨v,vo,Nk⟩:=OH.out;have PG:v.cells=[v]:=by rcases Nk with⟨rfl,_⟩|⟨_,rfl,_⟩<;>rfl
 apply sR;simp only[go_sem,seval,vo,PG];have ho:aQ U Z' 218 2 v ((cW l l.length 0 l.length ⟨0,w⟩).map jN):=by
  rcases Nk with⟨h,h'⟩|⟨id,h1,h2,h3⟩
  .exact .inl ⟨h,by simpa using h'⟩
  .exact .inr ⟨id,by simpa using h1,by simpa using h2,(fJ.1 h3).2.2.2⟩
 exact ho.vR OH.sub rfl
section
variable {P:Program} {n:Nat}
def ab.IL{st:St}{Q:St->Prop}{k:List It}{i:aK}{l:List aK}{xa:VX}(hw:bp st.s i.g=some true)(ho:i.op=.NZ false xa (.c (.iface 0 .undef))){b:Bool}
 (hx:(xa.ev st.s=.bz/\b=true)\/(∃sz r rows,xa.ev st.s=.sl sz (r::rows)/\b=false)\/∃id off m,xa.ev st.s=.own id off (m+1)/\b=false)
 (h:ab P n (.ops l::k) ⟨aU st.s i.dst (.bool b),st.U⟩ Q):ab P n (.ops (i::l)::k) st Q:=by
 refine ab.ins (by rw[ho];simp) hw λF hn I a w o all hi hs next Q' Lw=>?_
 subst hn;obtain⟨LF,hd⟩:=eF hi;rw[ho]at LF;obtain⟨t,x,y,m,c,yt,e,g1,rfl,g2,rfl⟩:=wg LF;have R:=ct hs x;have hX:∃ba len cap,a.eval x=.slice ba len cap/\ba.isNone=b:=by
  rcases hx with⟨hx,rfl⟩|⟨sz,r,rows,hx,rfl⟩|⟨id,off,m,hx,rfl⟩
  .rw[hx]at R;simp only[C']at R;exact⟨none,0,0,R,rfl⟩
  .rw[hx]at R;simp only[C']at R;obtain⟨ba,cap,hX,_,hr⟩:=R;rcases hr with hr|⟨b,off,rfl,_⟩
   .cases hr
   .exact⟨_,_,_,hX,rfl⟩
  .rw[hx]at R;simp only[C']at R;split at R
   .exact R.elim
   .exact absurd R.2.2 (by omega)
   .obtain⟨o,c,hX,_⟩:=R;exact⟨_,_,_,hX,rfl⟩
 obtain⟨ba,len,cap,hX,rfl⟩:=hX;have Me:(execOp a.eval o).run P w=.ok (.value (.bool ba.isNone)) w:=by
  unfold execOp;rw[g1];have hY:a.eval (.const (.slice none m c))=.slice none m c:=rfl;simp[hX,hY,eqGuard,Lib.run_eql_slice_nil w t e ba len cap m c g2]
 unfold Oper.wp;rw[Me];refine Lw _ _ _ ⟨I,?_⟩ h;rw[<-hd];exact hs.pure (by simp[C'])
end
open Go.Proofs Go.Proofs.Tryz
def tu(U:ag)(v v':V):Prop:=∀J,aa U J->Wk J j4 v v'
def tu.mono{U J:ag}{v v':V}(h:tu U v v')(hs:aa U J):tu J v v':=λX' h'=>h X' (hs.trans h')
def tu.at{U:ag}{v v':V}(h:tu U v v'):Wk U j4 v v':=h U (aa.refl _)
def aQ.Cu{K U:ag}{e sz:Nat}{v:V}{rows:List V}(h:aQ K U e sz v rows):tu U v (.sl sz rows):=λJ hs=>(h.mono hs).wk (oD _) (oD _)
def OI{J:ag}(v:V):Wk J j4 v v:=Wk.refl (oD _) _
def DA(vf:V){U:ag}(fs:List LV)(Zw:tu U vf (bo fs))(ws:List Int)(space high:Int)(y:Int)(s:Mr)(hl:fs.length<=1000000)(LS:∀f∈fs,f.ok)(B:Int)(hB:∀f∈fs,f.y+f.h<=B)(hB1:B<=1152921504606846976)(SF:0<=y)(hy:y<=B)(hh:0<=high)(hh1:high<=1099511627776)
 (NI:M1 s.a/\M1 s.b)(hw:WJ ws space):aA prog 140 [vf,bj ws,vI space,vI high,vI y,aZ s] U λr Z'=>aa U Z'/\aQ U Z' 242 5 r ((dM fs ws space high s ws.length 0 y).map l7):=by
 refine KU.r (by simp[G5]) ?_;have hs:=aa.refl U;have hn:=fC ws;have QK:=hw.len;refine ab.mix 16 ?_;apply sR;simp only[go_sem,seval,G5,aZ];refine ae λNx Tj PU Rt f11=>?_;have Zj:=hs.none f11;replace hs:=hs.trans PU;simp only[go_sem,seval,Rt];generalize hG:dM fs ws space high s ws.length 0 y=G;refine ab.loop (λm st=>∃(i k:Nat) (y':Int) (acc:List Ln),m=ws.length-i/\i<=ws.length/\ws.length-i<=k/\acc.length<=i/\G=acc++dM fs ws space high s k i y'/\0<=y'/\y'<=B+1099511627776*i/\aa U st.U/\aQ U st.U 242 5 (st.s 13) (acc.map l7)/\
  st.U Nx=some ⟨239,2,[.agg [vI s.a,vI s.b]]⟩/\st.s 0=vf/\st.s 1=bj ws/\st.s 2=vI space/\st.s 3=vI high/\st.s 4=vI y'/\st.s 11=.ptr Nx 0 0/\st.s 14=vI i) ws.length ?_ ?_
 .exact⟨0,ws.length,y,[],rfl,by omega,by omega,by simp,hG.symm,SF,by omega,hs,aQ.start,Rt,rfl,rfl,rfl,rfl,rfl,rfl,rfl⟩
 .rintro m ⟨S,J⟩ ⟨i,k,y',acc,rfl,hi,hk,Q7,hg,hy1,hy2,G',Nk,Zy,t0,t1,t2,t3,t4,t11,t14⟩;simp only at G' Nk Zy t0 t1 t2 t3 t4 t11 t14;generalize QM:S 13=v13 at Nk;refine ab.mix 16 ?_;by_cases Lr:i<ws.length
  .have q:((i:Int)<ws.length)=True:=LH;obtain⟨k,rfl⟩:∃k',k=k'+1:=⟨k-1,by omega⟩
   rw[dM,aI Lr]at hg;have QW:=xG (space:=space) (width:=jx (ec fs (ki fs (ws.getD i 0) high s y') high s)) Lr;have VH:=fH (w:=ws.getD i 0) (high:=high) (y:=y') (s:=s) hB;have hx:=E3 fs ws space high i y' s hl LS ⟨by omega,by omega⟩ ⟨by omega,by omega⟩ NI hw Lr;obtain⟨x,SB⟩:∃x,x=mH fs ws space high i y' s:=⟨_,rfl⟩
   have x1:∃j:Nat,x.to=j/\i<j/\j<=ws.length:=by rw[SB];exact⟨_,rfl,QW⟩
   have x2:y'<=x.y/\x.y<=max y' B:=by rw[SB];exact VH
   rw[<-SB]at hg hx;clear SB QW VH;obtain⟨j,hj,Tr,Oq⟩:=x1;rw[hj,gX]at hg;apply sR;simp only[go_sem,seval,t0,t1,t2,t3,t4,t11,t14,Zy,hn,q];refine ab.aC rfl rfl rfl (bc.wE (args':=[bo fs,bj ws,vI space,vI high,vI i,vI y',aZ s]) ⟨(Zw.mono G').at,OI _,OI _,OI _,OI _,OI _,OI _,trivial⟩ hx rfl) ?_;have hc:=xz x;have L8:=vW x;have Mt:(l7 x).cells.length=5:=rfl;have hag:V.agg [vI x.fr,vI x.to,vI x.x,vI x.y,vI x.w]=l7 x:=rfl;apply sR;simp only[go_sem,seval,t0,t1,t2,t3,t4,t11,t14,QM,hc,L8];refine ae λQd XQ PD NK f15=>?_;simp only[go_sem,seval,NK,t0,t1,t2,t3,t4,t11,t14,QM,hc,Mt,L8,hag];generalize MK:E' XQ Qd _=XR;have b15:XR Qd=some ⟨242,5,[.agg [vI x.fr,vI x.to,vI x.x,vI x.y,vI x.w]]⟩:=by rw[<-MK];exact ak
   have UZ:aa J XR:=by rw[<-MK];exact PD.aG f15
   clear MK;refine ae λi30 Z30 Zz a30 f30=>?_;obtain⟨LQ,NF,Mn,RW,RB⟩:=Nk.AM (UZ.trans Zz);have MR:(acc.length+1)*41<=140737488355328:=by omega
   have Rv:(acc.map l7).length=acc.length:=by simp
   simp only[go_sem,seval,t0,t1,t2,t3,t4,t11,t14,QM,NF,fm a30,Rv,MR];refine er λi31 Z31 s31 a31 f31=>?_;have k31:=(Mn U (aa.refl _) Z30 (G'.trans (UZ.trans Zz))).trans s31;have n31:U i31=none:=(G'.trans (UZ.trans Zz)).none f31;have YS:Z31 Qd=some ⟨242,5,[.agg [vI x.fr,vI x.to,vI x.x,vI x.y,vI x.w]]⟩:=s31 _ _ (by rw[RB Qd f15];exact Zz _ _ b15);have Wl:Z31 Nx=some ⟨239,2,[.agg [vI s.a,vI s.b]]⟩:=s31 _ _ (by rw[RW Nx _ Zy (.inr (by simp))];exact Zz _ _ (UZ _ _ Zy));have r1:LP .i64 (x.y+high):=au;simp only[go_sem,seval,t0,t1,t2,t3,t4,t11,t14,YS,hj,r1];refine⟨_,?_,j,k,x.y+high,acc++[x],rfl,Oq,by omega,by simp;omega,by rw[hg];simp,by omega,by omega,k31,?_,Wl,by simp[t0,t1,t2,t3,t11]⟩
   .omega
   .rw[gM];exact aQ.new (by simp) a31 n31
  .have q:((i:Int)<ws.length)=False:=Ly;apply sR;simp only[go_sem,seval,t0,t1,t2,t3,t4,t11,t14,QM,Zy,hn,q];have:dM fs ws space high s k i y'=[]:=by
    cases k with
    |zero=>rfl
    |succ k=>rw[dM,aJ Lr]
   rw[this,kC]at hg;refine⟨_,_,aa.refl _,Wk.refl (aa.refl _) _,G',?_⟩;rw[hg];exact Nk
def vX{P:Program}{f:FuncId}{fn:Func}(hf:P.funcs[f]?=some fn){e sz b:Nat}(hc:Vj P fn=some (lJ e sz b))(hk:fw P f=true){K U:ag}{v:V}{rows:List V}(hv:aQ K U e sz v rows)(LR:rows=[]->v=.bz)(hb:rows.length*(b+1)<=140737488355328):
 aA P f [v] U λr Z'=>aa U Z'/\aQ U Z' e sz r rows:=by
 refine aA.mn hf hc hk (by simp[lJ]) ?_;refine ab.mix 3 ?_;rcases hv with⟨rfl,rfl⟩|⟨id,rfl,ho,_⟩
 ·(refine ab.bD MJ.nothing 8 ?_;simp only[go_sem,seval,nu,lJ])
  refine ab.IL rfl rfl (b:=true) (.inl ⟨rfl,rfl⟩) ?_;apply sR;simp only[go_sem,seval];exact⟨_,_,aa.refl _,Wk.refl (aa.refl _) _,aa.refl _,aQ.start⟩
 .obtain⟨m,hm⟩:∃m,rows.length=m+1:=by
   cases rows with
   |nil=>exact absurd (LR rfl) (by simp)
   |cons r rs=>exact⟨rs.length,by simp⟩
  (refine ab.bD MJ.nothing 8 ?_;simp only[go_sem,seval,nu,lJ])
  refine ab.IL rfl rfl (b:=false) (.inr (.inr ⟨id,0,m,by rw[hm];rfl,rfl⟩)) ?_;apply sR;simp only[go_sem,seval];refine ae λOv Z1 s1 a1 f1=>?_;obtain⟨LQ,hd,Mn⟩:=(aQ.new (K:=U) (e:=e) (sz:=sz) (n:=0) (rows:=[]) rfl a1 f1).dst (aa.refl _);have Rk:cC Z1 sz (.own id 0 rows.length)=some rows:=by simp[cC,s1 _ _ ho]
  simp only[go_sem,seval,hd,Rk,hb];refine er λPC Z2 s2 a2 f2=>?_;have N8:=(Mn U (aa.refl _) Z1 s1).trans s2;simp only[go_sem,seval];exact⟨_,_,aa.refl _,Wk.refl (aa.refl _) _,N8,aQ.new (by simp) a2 (s1.none f2)⟩
def Ez(vf:V){K U:ag}(fs:List LV)(Zw:aQ K U 143 7 vf (fs.map dF))(LR:fs=[]->vf=.bz)(f:LV)(y:Int)(s:Mr)(hl:fs.length<=1000000)(LS:∀f∈fs,f.ok)(hy:M1 y)(hh:Bq f.h)(hw:Bq f.w)(NI:M1 s.a/\M1 s.b):
 aA prog 144 [vf,dF f,vI y,aZ s] U λr Z'=>aa U Z'/\aQ U Z' 143 7 r ((sP fs f y s).map dF):=by
 refine JM.r (by simp[Ga]) ?_;have hs:=aa.refl U;refine ab.mix 14 ?_;apply sR;simp only[go_sem,seval,Ga,dF,aZ];refine ae λi5 Z5 s5 a5 f5=>?_;have z5:=hs.none f5;replace hs:=hs.trans s5;simp only[go_sem,seval,a5];refine ae λi7 Z7 s7 a7 f7=>?_;have XS:=ao a5 f7;replace a5:=s7 _ _ a5;have z7:=hs.none f7;replace hs:=hs.trans s7;simp only[go_sem,seval,a7,a5];refine ab.aC rfl rfl rfl (bc.wE (args':=[bo fs,dF f,vI y,aZ s]) ⟨((Zw.mono hs).Cu).at,OI _,OI _,OI _,trivial⟩ (Hm fs f y s hl LS hy hh hw NI) rfl) ?_;apply sR;simp only[go_sem,seval,a7,a5,ad XS,ad XS.symm,gK];generalize Np:E' Z7 i5 _=Y5;have b5:Y5 i5=some ⟨143,7,[dF (jy fs f y s)]⟩:=by rw[<-Np];exact ak
 have PR:aa U Y5:=by rw[<-Np];exact hs.aG z5
 clear Np;have Qi:dF (jy fs f y s)=.agg [vI f.node,vI f.side,vI f.anchor,vI (nY fs f y s),vI (ku fs f y s),vI f.w,vI f.h]:=rfl;rw[Qi]at b5;have Rv:(fs.map dF).length=fs.length:=by simp
 have MR:(fs.length+1)*57<=140737488355328:=by omega
 have Px:fs.map dF++[V.agg [vI f.node,vI f.side,vI f.anchor,vI (nY fs f y s),vI (ku fs f y s),vI f.w,vI f.h]]=(sP fs f y s).map dF:=by simp[sP,<-Qi]
 have UJ:fs.map dF=[]->vf=.bz:=λh=>LR (by simpa using h);refine ab.wT (by kernel_rfl) 8 (.fork [[],[0],[],[2],[1,3,0,2],[4,0,1,2,3]] [0,2] [1,3] [(.leaf [[],[0],[],[1,0,2],[1,0,3,2],[1,0,4,2,3]] [1,3,4,5]),(.leaf [[],[3,2,0],[],[2],[3,2,1,0],[3,2,4,0,1]] [3,1,4,5])]) (by kernel_rfl) ?_;refine GT.mK (its:=[0,4]) (by kernel_rfl) ?_;refine RE.MB (n:=0) [] [0,4] [⟨(.some 19),(.Mb (.t 0)),.none⟩,⟨(.some 21),(.load .true 7 (.t 5)),.none⟩] rfl rfl ?_;apply sG;simp only[go_sem,seval,b5];refine⟨?_,?_⟩
 .refine GT.gu (its:=[2,5,6,8,10]) (by kernel_rfl) ?_;refine RE.call rfl rfl rfl rfl rfl (vX func67 (XA.b.trans rfl) XA.c (Zw.mono PR) UJ (by simp;omega)) ?_;rintro r Z3 ⟨s3,Nk⟩;replace b5:=s3 _ _ b5;have hs3:=PR.trans s3;refine RE.MU rfl rfl rfl rfl rfl trivial (by simp only[go_sem,seval,b5]) ?_;refine RE.MB (n:=0) [] [6,8,10] [⟨(.some 22),(.fF 143 7 [(.t 21)]),.none⟩,⟨(.some 23),(.append 143 7 56 (.t 20) (.t 22)),.none⟩,⟨(.some 8),(.Mb (.t 23)),.none⟩] rfl rfl ?_;apply sG;simp only[go_sem,seval,b5];refine bG λi9 Z9 s9 a9 f9=>?_;obtain⟨LQ,NF,Mn⟩:=Nk.dst s9;simp only[go_sem,seval,NF,fm a9,Rv,MR,Px];refine yF λMa Q4 M0 LG f10=>?_;have Qn:=(Mn U PR Z9 (hs3.trans s9)).trans M0;have n10:U Ma=none:=(hs3.trans s9).none f10;simp only[go_sem,seval];apply sR;simp only[go_sem,seval];exact⟨_,_,aa.refl _,Wk.refl (aa.refl _) _,Qn,aQ.new (by simp[sP]) LG n10⟩
 .refine GT.gu (its:=[6,2,8,10]) (by kernel_rfl) ?_;refine RE.MB (n:=0) [2,8,10] [6] [⟨(.some 22),(.fF 143 7 [(.t 21)]),.none⟩] rfl rfl ?_;apply sG;simp only[go_sem,seval,b5];refine bG λi9 Z9 s9 a9 f9=>?_;simp only[go_sem,seval];refine RE.call rfl rfl rfl rfl rfl (vX func67 (XA.b.trans rfl) XA.c (Zw.mono (PR.trans s9)) UJ (by simp;omega)) ?_;rintro r Z3 ⟨s3,Nk⟩;have a9':=s3 _ _ a9;obtain⟨LQ,NF,Mn⟩:=Nk.dst (aa.refl _);refine RE.MB (n:=0) [] [8,10] [⟨(.some 23),(.append 143 7 56 (.t 20) (.t 22)),.none⟩,⟨(.some 8),(.Mb (.t 23)),.none⟩] rfl rfl ?_;apply sG;simp only[go_sem,seval,NF,fm a9',Rv,MR,Px];refine yF λMa Q4 M0 LG f10=>?_;have Qn:=(Mn U (PR.trans s9) Z3 ((PR.trans s9).trans s3)).trans M0;have n10:U Ma=none:=((PR.trans s9).trans s3).none f10;simp only[go_sem,seval];apply sR;simp only[go_sem,seval];exact⟨_,_,aa.refl _,Wk.refl (aa.refl _) _,Qn,aQ.new (by simp[sP]) LG n10⟩
open Go.Proofs Go.Proofs.Tryz
structure My where
 (kind node fr to x y w h:Int)
deriving DecidableEq
def dH(a:My):V:=.agg [vI a.kind,vI a.node,vI a.fr,vI a.to,vI a.x,vI a.y,vI a.w,vI a.h]
def bX(l:List My):V:=.sl 8 (l.map dH)
structure WS where
 atoms:List My
 u':List LV
 LB:Int
 LC:Pn
structure NG(l:List Nd)(rs:List Rm)(Z0:ag)(iw:Nat)(s:WS)(U:ag):Prop where
 sub:aa Z0 U
 no:Z0 iw=none
 row:∃va vf,U iw=some ⟨182,7,[.agg [va,vf,vI s.LB,vI s.LC.y,vI s.LC.m,aM l,cA rs]]⟩/\
  aQ (bW Z0 iw) U 111 8 va (s.atoms.map dH)/\aQ (bW Z0 iw) U 143 7 vf (s.u'.map dF)/\(s.u'=[]->vf=.bz)
def av(l:List Rm):(cA l).cells=[cA l]:=rfl
def vN(l:List Rm):(cA l).stays=true:=rfl
def Fh{U:ag}{l:List Rm}{i:Nat}(h:i<l.length):bN U 2 (cA l) (.int .i64 i)=some (.rp (jN l[i])):=by simp[cA,bN,h]
def aQ.vc{K U:ag}{e sz:Nat}{v:V}{rows:List V}(h:aQ K U e sz v rows):v.cells=[v]/\v.stays=true:=by rcases h with⟨rfl,_⟩|⟨_,rfl,_⟩<;>exact⟨rfl,rfl⟩
def eM(rs:List Rm)(a:Nat):Mr:=⟨(rs.getD a ⟨0,0⟩).x,(rs.getD a ⟨0,0⟩).x+(rs.getD a ⟨0,0⟩).w⟩
def xl{l:List Nd}{rs:List Rm}{Z0 U:ag}{iw:Nat}{s:WS}(hJ:NG l rs Z0 iw s U)(a:Nat)(ha:a<rs.length)(hr:rs[a].ok):
 aA prog 141 [.ptr iw 0 0,vI a] U λr Z'=>r=aZ (eM rs a)/\Z'=U:=by
 obtain⟨va,vf,w1,QN,PW,_⟩:=hJ.row;obtain⟨ca,sa⟩:=QN.vc;obtain⟨cf,sf⟩:=PW.vc;obtain⟨r1,r2,r3,r4⟩:=hr;have Qu:rs.getD a ⟨0,0⟩=rs[a]:=by simp[ha]
 have Lv:=λU=>Fh (U:=U) ha;unfold eM;rw[Qu];generalize rs[a]=r at*;have Ty:jN r=.agg [vI r.x,vI r.w]:=rfl;have rr:LP .i64 (r.x+r.w):=au;refine Kq.r (by simp[H8]) ?_;have hs:=aa.refl U;refine ab.mix 6 ?_;apply sR;simp only[go_sem,seval,H8];refine ae λi4 Z4 s4 a4 f4=>?_;have w4:=s4 _ _ w1;simp only[go_sem,seval,w4,Lv,Ty,ca,cf,av,af];refine ae λi5 Z5 s5 a5 f5=>?_;have b4:=s5 _ _ a4;have ON:=ao a4 f5;simp only[go_sem,seval,a5,b4,ad ON,rr];exact aE.pure (((s4.trans s5).aG (s4.none f5)).aG f4) rfl
def pT(a:My):(dH a).cells=[vI a.kind,vI a.node,vI a.fr,vI a.to,vI a.x,vI a.y,vI a.w,vI a.h]:=rfl
def qj(a:My):(dH a).stays=true:=rfl
def WS.put(s:WS)(a:My):WS:={ s with atoms:=s.atoms++[a],LC:=⟨a.y+a.h,0⟩ }
def Dt{l:List Nd}{rs:List Rm}{Z0 U:ag}{iw:Nat}{s:WS}(hJ:NG l rs Z0 iw s U)(a:My)(hy:Bq a.y)(hh:Bq a.h)(hn:s.atoms.length<=1000000):
 aA prog 142 [.ptr iw 0 0,dH a] U λr Z'=>r=.LI []/\NG l rs Z0 iw (s.put a) Z':=by
 obtain⟨va,vf,w1,QN,PW,WX⟩:=hJ.row;obtain⟨ca,sa⟩:=QN.vc;obtain⟨cf,sf⟩:=PW.vc;refine KA.r (by simp[H6]) ?_;refine ab.mix 4 ?_;apply sR;simp only[go_sem,seval,H6,pT,qj];refine ae λi3 Z3 s3 a3 f3=>?_;have w3:=s3 _ _ w1;simp only[go_sem,seval,w3,a3,ca,cf,av,af,pT,qj];refine bG λNx Tj PU Rt f11=>?_;obtain⟨LQ,NF,Mn,RW,RB⟩:=QN.AM (s3.trans PU);have MR:(s.atoms.length+1)*65<=140737488355328:=by omega
 have Rv:(s.atoms.map dH).length=s.atoms.length:=by simp
 simp only[go_sem,seval,NF,fm Rt,Rv,MR];rw[aP];intro Ny f12;have f12:Tj Ny=none:=f12;have w11:=PU _ _ w3;have nw:=ao w11 f12;have b3:=PU _ _ a3;have n3:=ao b3 f12;have nw3:=ao w1 f3;have hdw:=RW iw _ w1 (.inr (by simp));have hd3:=RB i3 f3;have cw:(E' (Vc.bT Tj LQ) Ny ⟨111,8,s.atoms.map dH++[.agg [vI a.kind,vI a.node,vI a.fr,vI a.to,vI a.x,vI a.y,vI a.w,vI a.h]]⟩) iw=some ⟨182,7,[.agg [va,vf,vI s.LB,vI s.LC.y,vI s.LC.m,aM l,cA rs]]⟩:=by rw[ad nw,hdw];exact w11
 have c3:(E' (Vc.bT Tj LQ) Ny ⟨111,8,s.atoms.map dH++[.agg [vI a.kind,vI a.node,vI a.fr,vI a.to,vI a.x,vI a.y,vI a.w,vI a.h]]⟩) i3=some ⟨111,8,[.agg [vI a.kind,vI a.node,vI a.fr,vI a.to,vI a.x,vI a.y,vI a.w,vI a.h]]⟩:=by rw[ad n3,hd3];exact b3
 have c12:(E' (Vc.bT Tj LQ) Ny ⟨111,8,s.atoms.map dH++[.agg [vI a.kind,vI a.node,vI a.fr,vI a.to,vI a.x,vI a.y,vI a.w,vI a.h]]⟩) Ny=some ⟨111,8,s.atoms.map dH++[.agg [vI a.kind,vI a.node,vI a.fr,vI a.to,vI a.x,vI a.y,vI a.w,vI a.h]]⟩:=ak;have G':aa Z0 (E' (Vc.bT Tj LQ) Ny ⟨111,8,s.atoms.map dH++[.agg [vI a.kind,vI a.node,vI a.fr,vI a.to,vI a.x,vI a.y,vI a.w,vI a.h]]⟩):=by
  have h1:=Mn Z0 (λi o h=>by rw[bW,aJ (λe=>by rw[e,hJ.no]at h;cases h)];exact h) Tj ((hJ.sub.trans s3).trans PU);exact h1.aG (((hJ.sub.trans s3).trans PU).none f12)
 have Nb:bW Z0 iw Ny=none:=aW.2 ⟨nw.symm,((hJ.sub.trans s3).trans PU).none f12⟩;have XX:∀o,aQ (bW Z0 iw) (E' (Vc.bT Tj LQ) Ny o) 143 7 vf (s.u'.map dF):=λo=>by
  rcases PW with h|⟨id,h1,h2,h3⟩
  .exact .inl h
  .have h4:=PU _ _ (s3 _ _ h2);exact .inr ⟨id,h1,by rw[ad (ao h4 f12),RW id _ h2 (.inr (by simp))];exact h4,h3⟩
 replace XX:=XX ⟨111,8,s.atoms.map dH++[.agg [vI a.kind,vI a.node,vI a.fr,vI a.to,vI a.x,vI a.y,vI a.w,vI a.h]]⟩;generalize E' (Vc.bT Tj LQ) Ny ⟨111,8,s.atoms.map dH++[.agg [vI a.kind,vI a.node,vI a.fr,vI a.to,vI a.x,vI a.y,vI a.w,vI a.h]]⟩=J at*;simp only[go_sem,seval,cw,ca,cf,av,af,gK];have dw:(E' J iw ⟨182,7,[.agg [.own Ny 0 (s.atoms.length+1),vf,vI s.LB,vI s.LC.y,vI s.LC.m,aM l,cA rs]]⟩) iw=some ⟨182,7,[.agg [.own Ny 0 (s.atoms.length+1),vf,vI s.LB,vI s.LC.y,vI s.LC.m,aM l,cA rs]]⟩:=ak;have d3:(E' J iw ⟨182,7,[.agg [.own Ny 0 (s.atoms.length+1),vf,vI s.LB,vI s.LC.y,vI s.LC.m,aM l,cA rs]]⟩) i3=some ⟨111,8,[.agg [vI a.kind,vI a.node,vI a.fr,vI a.to,vI a.x,vI a.y,vI a.w,vI a.h]]⟩:=by rw[ad nw3.symm];exact c3
 have d12:(E' J iw ⟨182,7,[.agg [.own Ny 0 (s.atoms.length+1),vf,vI s.LB,vI s.LC.y,vI s.LC.m,aM l,cA rs]]⟩) Ny=some ⟨111,8,s.atoms.map dH++[.agg [vI a.kind,vI a.node,vI a.fr,vI a.to,vI a.x,vI a.y,vI a.w,vI a.h]]⟩:=by rw[ad nw.symm];exact c12
 replace G':=G'.aG hJ.no (o:=⟨182,7,[.agg [.own Ny 0 (s.atoms.length+1),vf,vI s.LB,vI s.LC.y,vI s.LC.m,aM l,cA rs]]⟩);have hf4:aQ (bW Z0 iw) (E' J iw ⟨182,7,[.agg [.own Ny 0 (s.atoms.length+1),vf,vI s.LB,vI s.LC.y,vI s.LC.m,aM l,cA rs]]⟩) 143 7 vf (s.u'.map dF):=by
  rcases XX with h|⟨id,h1,h2,h3⟩
  .exact .inl h
  .exact .inr ⟨id,h1,by rw[ad (aW.1 h3).1];exact h2,h3⟩
 clear XX cw c3 c12;generalize E' J iw ⟨182,7,[.agg [.own Ny 0 (s.atoms.length+1),vf,vI s.LB,vI s.LC.y,vI s.LC.m,aM l,cA rs]]⟩=Y2 at*;refine ab.uP (by kernel_rfl) [0,1,2,3,4,5,6,7,8,9,10,11,12] [[],[],[1],[1,2],[1,2,3],[],[5],[],[7],[1,2,3,4,5,6,7,8],[0,1,2,3,4,5,6,7,8,9],[0,1,2,3,4,5,6,7,8,9,10],[0,1,2,3,4,5,6,7,8,9,10,11]] [0,2,4,6,8,10,12,14,16,18,20,22,24] (by kernel_rfl) (by kernel_rfl) ?_;refine RE.MB (n:=0) [18,20,22,24] [0,2,4,6,8,10,12,14,16] [⟨(.some 16),(.Mb (.t 0)),.none⟩,⟨(.some 17),(.Mb (.t 0)),.none⟩,⟨(.some 18),(.nilCheck (.t 17)),.none⟩,⟨(.some 19),(.Mc .true 3 2 (.t 18)),.none⟩,⟨(.some 20),(.load .true 2 (.t 19)),.none⟩,⟨(.some 21),(.Mc .false 5 1 (.t 3)),.none⟩,⟨(.some 22),(.load .false 1 (.t 21)),.none⟩,⟨(.some 23),(.Mc .false 7 1 (.t 3)),.none⟩,⟨(.some 24),(.load .false 1 (.t 23)),.none⟩] rfl rfl ?_;apply sG;simp only[go_sem,seval,dw,d3,cf,av,af];refine RE.aC rfl rfl rfl rfl rfl (GF s.LC a.y a.h hy hh _) ?_;refine RE.MB (n:=0) [] [20,22,24] [⟨(.some 26),(.nilCheck (.t 16)),.none⟩,⟨(.some 27),(.Mc .true 3 2 (.t 26)),.none⟩,⟨.none,(.store 2 (.t 27) (.t 25)),.none⟩] rfl rfl ?_;apply sG;simp only[go_sem,seval,dw,gn,cf,av,af];apply sR;simp only[go_sem,seval];have L3:aa Z0 (E' Y2 iw ⟨182,7,[.agg [.own Ny 0 (s.atoms.length+1),vf,vI s.LB,vI (a.y+a.h),vI 0,aM l,cA rs]]⟩):=G'.aG hJ.no;refine⟨_,_,aa.refl _,Wk.refl (aa.refl _) _,rfl,L3,hJ.no,.own Ny 0 (s.atoms.length+1),vf,ak,?_,?_,WX⟩
 .exact aQ.new (by simp[WS.put]) (by rw[ad nw.symm,d12];simp[WS.put];rfl) Nb
 .rcases hf4 with h|⟨id,h1,h2,h3⟩
  .exact .inl h
  .exact .inr ⟨id,h1,by rw[ad (aW.1 h3).1];exact h2,h3⟩
def tE{l:List LV}{w high:Int}{s:Mr}:∀(k:Nat) (y:Int),Tq l y<=k->mO l w high s (kx l w high s k y)=true
 |0,y,h=>by
  rw[kx];simp only[mO,jH,Bool.not_eq_true',NV];left;cases hn:(fU l y high s).2 with
  |false=>rfl
  |true=>
   have:=u6 (iy hn);omega
 |k+1,y,h=>by
  rw[kx];split
  .rename_i hb;exact hb
  .rename_i hb;simp only[mO,jH,Bool.not_eq_true',not_or,Bool.not_eq_false]at hb;have:=u6 (iy hb.1);exact tE k _ (by omega)
def Bn(l:List LV)(w high:Int)(s:Mr)(y:Int):(fU l (nU l w high s y) high s).2=false\/jx (ec l (nU l w high s y) high s)>=w:=by
 have:=tE (l:=l) (w:=w) (high:=high) (s:=s) l.length y (List.length_filter_le _ _);simp only[mO,jH,Bool.not_eq_true',NV]at this;exact this
def pH{l:List LV}{w high B:Int}{s:Mr}(hB:∀f∈l,f.y+f.h<=B):∀(k:Nat) (y:Int),y<=kx l w high s k y/\kx l w high s k y<=max y B
 |0,y=>by simp only[kx];omega
 |k+1,y=>by
  rw[kx];split
  .omega
  .rename_i hb;simp only[mO,jH,Bool.not_eq_true',not_or,Bool.not_eq_false]at hb;obtain⟨f,hm,h1,h2⟩:=iy hb.1;have:=pH hB k (fU l y high s).1 (w:=w) (high:=high) (s:=s);have:=hB f hm;omega
def Fp(f:LV)(s:Mr):s.a<=(jG f s).a/\(jG f s).b<=s.b:=by
 unfold jG;split
 .simp only;omega
 .simp only;omega
def we:∀(l:List LV) (s:Mr),s.a<=(l.foldl (λs f=>jG f s) s).a/\(l.foldl (λs f=>jG f s) s).b<=s.b
 |[],s=>by simp
 |f::l,s=>by
  have h1:=Fp f s;have h2:=we l (jG f s);simp only[nx];omega
def BO(l:List LV)(y high:Int)(s:Mr):s.a<=(ec l y high s).a/\(ec l y high s).b<=s.b:=we _ _
structure Sp(B:Int)(f:LV):Prop where
 x0:0<=f.x
 w0:0<=f.w
 w1:f.w<=1099511627776
 h0:0<=f.h
 h1:f.h<=1099511627776
 y0:0<=f.y
 yB:f.y+f.h<=B
 xw:f.x+f.w<=8796093022208
def Sp.ok{B:Int}{f:LV}(h:Sp B f)(hB:B<=1152921504606846976):f.ok:=by
 obtain⟨h1,h2,h3,h4,h5,h6,h7,h8⟩:=h;exact⟨⟨by omega,by omega⟩,⟨by omega,by omega⟩,⟨by omega,by omega⟩,⟨by omega,by omega⟩⟩
def Sp.mono{B C:Int}{f:LV}(h:Sp B f)(hB:B<=C):Sp C f:=by
 obtain⟨h1,h2,h3,h4,h5,h6,h7,h8⟩:=h;exact⟨h1,h2,h3,h4,h5,h6,by omega,h8⟩
def AN(s:Mr):Prop:=0<=s.a/\s.a<=2199023255552/\0<=s.b/\s.b<=2199023255552
def zB{fs:List LV}{B y:Int}(hB:∀f∈fs,Sp B f):y<=mV fs y/\mV fs y<=max y B:=by
 unfold mV;split
 .rename_i h;obtain⟨f,hf,h1,_⟩:=kO h;have:=hB f hf;have h2:(sF f).1=f.y:=rfl;rw[h1,h2];have:=this.yB;have:=(hB f hf).h0;omega
 .omega
def xu{fs:List LV}{B y:Int}(hB:∀f∈fs,Sp B f)(f:LV)(s:Mr):y<=ku fs f y s/\ku fs f y s<=max y B:=by
 have h1:=zB (y:=y) hB;have h2:=pH (w:=f.w) (high:=f.h) (s:=s) (λf hf=>(hB f hf).yB) fs.length (mV fs y);unfold ku nU;omega
def AT{fs:List LV}{B y:Int}(hB:∀f∈fs,Sp B f){f:LV}{s:Mr}(hs:AN s)(SF:0<=y)(VI:y<=B)(w0:1<=f.w)(w1:f.w<=1099511627776)(h0:0<=f.h)(h1:f.h<=1099511627776):Sp (B+1099511627776) (jy fs f y s):=by
 obtain⟨s1,s2,s3,s4⟩:=hs;have hy:=xu (y:=y) hB f s;have hb:=BO fs (ku fs f y s) f.h s;have hx:0<=nY fs f y s/\nY fs f y s+f.w<=8796093022208:=by
  unfold nY;simp only;have he:=Bn fs f.w f.h s (mV fs y);have e:nU fs f.w f.h s (mV fs y)=ku fs f y s:=rfl;rw[e]at he;rcases he with h|h
  .have Nv:ec fs (ku fs f y s) f.h s=s:=Classical.byContradiction λhn=>by
    have:=nv hn;rw[h]at this;cases this
   rw[Nv];split<;>omega
  .unfold jx at h;split at h
   .omega
   .split<;>omega
 exact⟨hx.1,by simp only[jy];omega,by simp only[jy];omega,by simp only[jy];omega,by simp only[jy];omega,by simp only[jy];omega,by simp only[jy];omega,by simpa[jy]using hx.2⟩
def Fu{fs:List LV}{B y:Int}(hB:∀f∈fs,Sp B f){f:LV}{s:Mr}(hs:AN s)(SF:0<=y)(VI:y<=B)(w0:1<=f.w)(w1:f.w<=1099511627776)(h0:0<=f.h)(h1:f.h<=1099511627776):∀g∈sP fs f y s,Sp (B+1099511627776) g:=by
 intro g hg;rcases fq.1 hg with hg|hg
 .exact(hB g hg).mono (by omega)
 .simp only[jI]at hg;subst hg;exact AT hB hs SF VI w0 w1 h0 h1
structure Bd(s:WS)(B:Int):Prop where
 fl:∀f∈s.u',Sp B f
 y0:0<=s.LC.y
 m0:0<=s.LC.m
 m1:s.LC.m<=1099511627776
 yB:s.LC.y+s.LC.m<=B
def Bd.mono{s:WS}{B C:Int}(h:Bd s B)(hB:B<=C):Bd s C:=⟨λf hf=>(h.fl f hf).mono hB,h.y0,h.m0,h.m1,by have:=h.yB;omega⟩
def WS.mono(l:List Nd)(rs:List Rm)(s:WS)(a:Nat)(n:Nd):WS:=
 let Mf:=ki s.u' n.w n.h (eM rs a) (s.LC.y+s.LC.m)
 let b:=ec s.u' Mf n.h (eM rs a)
 s.put ⟨2,a,0,0,b.a,Mf,n.w,n.h⟩
def fe(a:Nat)(h:Int)(x:Ln):My:=⟨1,a,x.fr,x.to,x.x,x.y,x.w,h⟩
def WS.text(rs:List Rm)(s:WS)(a:Nat)(n:Nd):WS:=
 (dM s.u' n.words n.space n.line (eM rs a) n.words.length 0 (s.LC.y+s.LC.m)).foldl (λs x=>s.put (fe a n.line x)) s
def WS.float(rs:List Rm)(s:WS)(a:Nat)(n:Nd):WS:=
 { s with u':=sP s.u' ⟨a,n.side,s.atoms.length,0,0,n.w,n.h⟩ (s.LC.y+s.LC.m) (eM rs a) }
def WS.enter(s:WS)(t:MT):WS:=
 let p:=if(eg (lz t.clear) s.u').2 then iX s.LC (eg (lz t.clear) s.u').1 else s.LC
 { s with LC:=eG p t.top t.LA }
def WS.leave(s:WS)(t:MT):WS:={ s with LC:=kQ s.LC t.LM t.Lt }
def Bd.enter{s:WS}{B:Int}(h:Bd s B){t:MT}(ht:Uk t):Bd (s.enter t) (B+2199023255552):=by
 obtain⟨hf,h1,h2,h3,h4⟩:=h;have hp:∀p:Pn,0<=p.y->0<=p.m->p.m<=1099511627776->p.y+p.m<=B->Bd { s with LC:=eG p t.top t.LA } (B+2199023255552):=by
  intro p g1 g2 g3 g4;have a1:=ht.top;have a2:=ht.LA;refine⟨λf PI=>(hf f PI).mono (by omega),?_,?_,?_,?_⟩<;>simp only[eG,rF]<;>(repeat' split)<;>omega
 unfold WS.enter;simp only;split
 .rename_i hm;obtain⟨f,XK,e1,_⟩:=kO hm;have e2:(lz t.clear f).1=f.y+f.h:=rfl;have Qt:=hf f XK;have hy:=Qt.yB;have SF:=Qt.y0;have Uh:=Qt.h0;rw[e1,e2];refine hp _ ?_ ?_ ?_ ?_<;>(unfold iX;split)<;>(try simp only)<;>omega
 .exact hp _ h1 h2 h3 h4
def Bd.leave{s:WS}{B:Int}(h:Bd s B){t:MT}(ht:Uk t):Bd (s.leave t) (B+2199023255552):=by
 obtain⟨hf,h1,h2,h3,h4⟩:=h;have a1:=ht.LM;have a2:=ht.Lt;refine⟨λf PI=>(hf f PI).mono (by omega),?_,?_,?_,?_⟩<;>simp only[WS.leave,kQ,rF]<;>(repeat' split)<;>omega
open Go.Proofs Go.Proofs.Tryz
structure RF(l:List Nd)(rs:List Rm):Prop where
 tc:l.length<=2000
 Sq:Mj l=true
 len:rs.length=l.length
 rok:∀r∈rs,r.ok
def RF.room{l:List Nd}{rs:List Rm}(h:RF l rs){a:Nat}(ha:a<l.length):∃h':a<rs.length,rs[a].ok:=⟨by rw[h.len];exact ha,h.rok _ (ML _)⟩
def RF.span{l:List Nd}{rs:List Rm}(h:RF l rs){a:Nat}(ha:a<l.length):AN (eM rs a):=by
 obtain⟨h',r1,r2,r3,r4⟩:=h.room ha;have e:rs.getD a ⟨0,0⟩=rs[a]:=by simp[h']
 unfold eM AN;rw[e];simp only;omega
def AN.bq{s:Mr}(h:AN s):M1 s.a/\M1 s.b:=by obtain⟨a,b,c,d⟩:=h;exact⟨⟨by omega,by omega⟩,⟨by omega,by omega⟩⟩
def Bd.Um{s:WS}{B:Int}(h:Bd s B)(hB:B<=1152921504606846976):∀f∈s.u',f.ok:=λf hf=>(h.fl f hf).ok hB
def jV(l:List Nd){a:Nat}(h:a<l.length)(U:ag):bN U 20 (aM l) (.int .i64 a)=some (.rp (.agg (Nd.cells l[a]))):=dT h
def NG.mono{l:List Nd}{rs:List Rm}{Z0 U J:ag}{iw:Nat}{s:WS}(hJ:NG l rs Z0 iw s U)(hs:aa U J):NG l rs Z0 iw s J:=by
 obtain⟨va,vf,w1,h1,h2,h3⟩:=hJ.row;exact⟨hJ.sub.trans hs,hJ.no,va,vf,hs _ _ w1,h1.mono hs,h2.mono hs,h3⟩
def Fa{l:List Nd}{rs:List Rm}(hD:RF l rs){Z0 U:ag}{iw:Nat}{s:WS}{B:Int}(hJ:NG l rs Z0 iw s U)(hB:Bd s B)(hB1:B<=576460752303423488)(a:Nat)(ha:a<l.length)(hk:l[a].kind=3)(hn:s.atoms.length<=100000)(hfn:s.u'.length<=100000):
 aA prog 119 [.ptr iw 0 0,vI a] U λr Z'=>r=.LI []/\NG l rs Z0 iw (WS.mono l rs s a l[a]) Z':=by
 obtain⟨va,vf,w1,QN,PW,WX⟩:=hJ.row;obtain⟨ca,sa⟩:=QN.vc;obtain⟨cf,sf⟩:=PW.vc;have L7:=gm hD.Sq ha;have OY:=hD.span ha;obtain⟨WY,RG⟩:=hD.room ha;have Lv:=jV l ha;have Ty:∀n:Nd,V.agg (Nd.cells n)=ir n:=λ_=>rfl;unfold WS.mono;generalize l[a]=n at*;refine Kj.r (by simp[Hs]) ?_;refine ab.mix 7 ?_;apply sR;simp only[go_sem,seval,Hs,w1,ca,cf,av,af,ai,al,Lv,Nd.cells];refine ae λi4 Z4 s4 a4 f4=>?_;simp only[go_sem,seval,a4,ai,al,gK];generalize Qe:E' Z4 i4 _=Y4;have b4:Y4 i4=some ⟨51,20,[.agg (Nd.cells n)]⟩:=by rw[<-Qe];exact ak
 rw[Nd.cells]at b4;have Tz:aa U Y4:=by rw[<-Qe];exact s4.aG f4
 clear Qe;have w4:=Tz _ _ w1;have hlen:tu Y4 vf (bo s.u'):=(PW.mono Tz).Cu;have NU:=hJ.mono Tz;have hm:=hB.m1;have U0:=hB.m0;have SF:=hB.y0;have VI:=hB.yB;have hws:=L7.w;have hhs:=L7.h;have Sz:=DQ s.u' n.w n.h (s.LC.y+s.LC.m) (eM rs a) (by omega) (hB.Um (by omega)) ⟨by omega,by omega⟩ ⟨by omega,by omega⟩ OY.bq;obtain⟨Mf,Ow⟩:∃z,z=ki s.u' n.w n.h (eM rs a) (s.LC.y+s.LC.m):=⟨_,rfl⟩
 have VH:=fH (w:=n.w) (high:=n.h) (y:=s.LC.y+s.LC.m) (s:=eM rs a) (λf hf=>(hB.fl f hf).yB);rw[<-Ow]at Sz VH|-;obtain⟨b,hb⟩:∃b,b=ec s.u' Mf n.h (eM rs a):=⟨_,rfl⟩
 rw[<-hb]at Sz|-;have fin:∀(S:Nat->V) (J:ag) (i5:Nat),aa Y4 J->J i5=some ⟨239,2,[.agg [vI b.a,vI b.b]]⟩->S 0=.ptr iw 0 0->S 1=vI a->S 4=.ptr i4 0 0->S 5=.ptr i5 0 0->S 6=vI Mf->
  ab prog 46 [It.code (.Oz false [⟨some 35,.Mb (.t 0),none⟩,⟨some 36,.Mb (.t 1),none⟩,⟨some 37,.Mc false 0 1 (.t 5),none⟩,⟨some 38,.load false 1 (.t 37),none⟩,⟨some 39,.Mb (.t 6),none⟩,⟨some 40,.Mc false 18 1 (.t 4),none⟩,⟨some 41,.load false 1 (.t 40),none⟩,⟨some 42,.Mc false 19 1 (.t 4),none⟩,⟨some 43,.load false 1 (.t 42),none⟩,⟨some 44,.build [.int .i64 0,.int .i64 0,.int .i64 0,.int .i64 0,.int .i64 0,.int .i64 0,.int .i64 0,.int .i64 0] [(0,1,.c (.int .i64 2)),(1,1,.t 36),(4,1,.t 38),(5,1,.t 39),(6,1,.t 41),(7,1,.t 43)],none⟩,⟨some 45,.call (.c (.fn 142 [])) [.t 35,.t 44],none⟩])] ⟨S,J⟩
   (λst=>aE (.LI []) st.U λr Z'=>r=.LI []/\NG l rs Z0 iw (s.put ⟨2,a,0,0,b.a,Mf,n.w,n.h⟩) Z'):=by
  intro S J i5 RH c5 t0 t1 t4 t5 t6;have c4:=RH _ _ b4;refine ab.mix 7 ?_;apply sR;simp only[go_sem,seval,t0,t1,t4,t5,t6,c4,c5,ai];refine ab.call rfl rfl rfl (Dt (NU.mono RH) ⟨2,a,0,0,b.a,Mf,n.w,n.h⟩ (show Bq Mf from⟨by omega,by omega⟩) (show Bq n.h from⟨by omega,by omega⟩) (by omega)) ?_;rintro r Z' ⟨rfl,OH⟩;apply sR;simp only[go_sem,seval];exact⟨_,_,aa.refl _,Wk.refl (aa.refl _) _,rfl,OH⟩
 refine ab.wT (by kernel_rfl) 8 (.fork [[],[0],[1,0],[2,1,0],[3,2,1,0],[],[5],[],[7],[],[9],[10,9],[11,10,9],[12,11,10,9],[],[],[14,15,13,12,11,10,9],[4,6,8,13,16,3,2,1,0,5,7,12,11,10,9,14,15],[17,4,6,8,13,16,3,2,1,0,5,7,12,11,10,9,14,15],[18,17,4,6,8,13,16,3,2,1,0,5,7,12,11,10,9,14,15],[18,17,4,6,8,13,16,3,2,1,0,5,7,12,11,10,9,14,15],[],[21,19,17,0,1,2,3,4,5,6,7,8,9,10,11,12,13,14,15,16,18],[20,22,0,1,2,3,4,5,6,7,8,9,10,11,12,13,14,15,16,17,18,19,21]] [0,1,2,3,4,5,6,7,8,9,10,11,12,14,15] [13,21] [(.fork [[],[0],[1,0],[2,1,0],[3,2,1,0],[],[5],[],[7],[],[9],[10,9],[11,10,9],[12,11,10,9],[],[],[14,15,13,12,11,10,9],[4,6,8,13,16,3,2,1,0,5,7,12,11,10,9,14,15],[17,4,6,8,13,16,3,2,1,0,5,7,12,11,10,9,14,15],[18,17,4,6,8,13,16,3,2,1,0,5,7,12,11,10,9,14,15],[18,17,4,6,8,13,16,3,2,1,0,5,7,12,11,10,9,14,15],[13,12,11,10,9],[13,12,11,10,9,21,19,17,0,1,2,3,4,5,6,7,8,14,15,16,18],[13,12,11,10,9,20,22,0,1,2,3,4,5,6,7,8,14,15,16,17,18,19,21]] [13] [16,21] [(.fork [[],[0],[1,0],[2,1,0],[3,2,1,0],[],[5],[],[7],[],[9],[10,9],[11,10,9],[12,11,10,9],[],[],[14,15,13,12,11,10,9],[4,6,8,13,16,3,2,1,0,5,7,12,11,10,9,14,15],[17,4,6,8,13,16,3,2,1,0,5,7,12,11,10,9,14,15],[18,17,4,6,8,13,16,3,2,1,0,5,7,12,11,10,9,14,15],[18,17,4,6,8,13,16,3,2,1,0,5,7,12,11,10,9,14,15],[16,14,15,13,12,11,10,9],[16,14,15,13,12,11,10,9,21,19,17,0,1,2,3,4,5,6,7,8,18],[16,14,15,13,12,11,10,9,20,22,0,1,2,3,4,5,6,7,8,17,18,19,21]] [16] [17,21] [(.leaf [[],[0],[1,0],[2,1,0],[3,2,1,0],[],[5],[],[7],[],[9],[10,9],[11,10,9],[12,11,10,9],[],[],[14,15,13,12,11,10,9],[4,6,8,13,16,3,2,1,0,5,7,12,11,10,9,14,15],[17,4,6,8,13,16,3,2,1,0,5,7,12,11,10,9,14,15],[18,17,4,6,8,13,16,3,2,1,0,5,7,12,11,10,9,14,15],[18,17,4,6,8,13,16,3,2,1,0,5,7,12,11,10,9,14,15],[17,4,6,8,13,16,3,2,1,0,5,7,12,11,10,9,14,15],[17,4,6,8,13,16,3,2,1,0,5,7,12,11,10,9,14,15,21,19,18],[17,4,6,8,13,16,3,2,1,0,5,7,12,11,10,9,14,15,20,22,18,19,21]] [17,18,19,20,21,22,23]),(.leaf [[],[0],[1,0],[2,1,0],[3,2,1,0],[],[5],[],[7],[],[9],[10,9],[11,10,9],[12,11,10,9],[],[],[14,15,13,12,11,10,9],[21,16,14,15,13,12,11,10,9,4,6,8,3,2,1,0,5,7],[21,16,14,15,13,12,11,10,9,17,4,6,8,3,2,1,0,5,7],[21,16,14,15,13,12,11,10,9,18,17,4,6,8,3,2,1,0,5,7],[21,16,14,15,13,12,11,10,9,18,17,4,6,8,3,2,1,0,5,7],[16,14,15,13,12,11,10,9],[21,16,14,15,13,12,11,10,9,19,17,0,1,2,3,4,5,6,7,8,18],[21,16,14,15,13,12,11,10,9,20,22,0,1,2,3,4,5,6,7,8,17,18,19]] [21,17,18,19,20,22,23])]),(.leaf [[],[0],[1,0],[2,1,0],[3,2,1,0],[],[5],[],[7],[],[9],[10,9],[11,10,9],[12,11,10,9],[],[],[21,13,12,11,10,9,14,15],[21,13,12,11,10,9,4,6,8,16,3,2,1,0,5,7,14,15],[21,13,12,11,10,9,17,4,6,8,16,3,2,1,0,5,7,14,15],[21,13,12,11,10,9,18,17,4,6,8,16,3,2,1,0,5,7,14,15],[21,13,12,11,10,9,18,17,4,6,8,16,3,2,1,0,5,7,14,15],[13,12,11,10,9],[21,13,12,11,10,9,19,17,0,1,2,3,4,5,6,7,8,14,15,16,18],[21,13,12,11,10,9,20,22,0,1,2,3,4,5,6,7,8,14,15,16,17,18,19]] [21,16,17,18,19,20,22,23])]),(.leaf [[],[0],[1,0],[2,1,0],[3,2,1,0],[],[5],[],[7],[],[9],[10,9],[11,10,9],[21,12,11,10,9],[],[],[21,14,15,13,12,11,10,9],[21,4,6,8,13,16,3,2,1,0,5,7,12,11,10,9,14,15],[21,17,4,6,8,13,16,3,2,1,0,5,7,12,11,10,9,14,15],[21,18,17,4,6,8,13,16,3,2,1,0,5,7,12,11,10,9,14,15],[21,18,17,4,6,8,13,16,3,2,1,0,5,7,12,11,10,9,14,15],[],[21,19,17,0,1,2,3,4,5,6,7,8,9,10,11,12,13,14,15,16,18],[21,20,22,0,1,2,3,4,5,6,7,8,9,10,11,12,13,14,15,16,17,18,19]] [21,13,16,17,18,19,20,22,23])]) (by kernel_rfl) ?_;refine GT.mK (its:=[0,2,4,6,8,10,12,14,16,18,20,22,24,28,30]) (by kernel_rfl) ?_;refine RE.MB (n:=0) [] [0,2,4,6,8,10,12,14,16,18,20,22,24,28,30] [⟨(.some 15),(.Mb (.t 0)),.none⟩,⟨(.some 16),(.nilCheck (.t 15)),.none⟩,⟨(.some 17),(.Mc .true 0 3 (.t 16)),.none⟩,⟨(.some 18),(.Mc .false 1 1 (.t 17)),.none⟩,⟨(.some 19),(.load .false 1 (.t 18)),.none⟩,⟨(.some 20),(.Mc .false 18 1 (.t 4)),.none⟩,⟨(.some 21),(.load .false 1 (.t 20)),.none⟩,⟨(.some 22),(.Mc .false 19 1 (.t 4)),.none⟩,⟨(.some 23),(.load .false 1 (.t 22)),.none⟩,⟨(.some 24),(.Mb (.t 0)),.none⟩,⟨(.some 25),(.nilCheck (.t 24)),.none⟩,⟨(.some 26),(.Mc .true 3 2 (.t 25)),.none⟩,⟨(.some 27),(.load .true 2 (.t 26)),.none⟩,⟨(.some 29),(.Mb (.t 0)),.none⟩,⟨(.some 30),(.Mb (.t 1)),.none⟩] rfl rfl ?_;apply sG;simp only[go_sem,seval,b4,w4,ca,cf,av,af,ai,al];refine⟨?_,?_⟩
 .refine GT.mK (its:=[26,9,13,17]) (by kernel_rfl) ?_;refine RE.aC rfl rfl rfl rfl rfl (Bp s.LC ⟨by omega,by omega⟩ ⟨by omega,by omega⟩ _) ?_;refine RE.MU rfl rfl rfl rfl rfl trivial (by simp only[go_sem,seval,b4,w4,ca,cf,av,af,ai,al]) ?_;refine RE.MU rfl rfl rfl rfl rfl trivial (by simp only[go_sem,seval,b4,w4,ca,cf,av,af,ai,al]) ?_;refine RE.MU rfl rfl rfl rfl rfl trivial (by simp only[go_sem,seval,b4,w4,ca,cf,av,af,ai,al]) ?_;refine⟨?_,?_⟩
  .refine GT.mK (its:=[32,9,13,17]) (by kernel_rfl) ?_;refine RE.aC rfl rfl rfl rfl rfl (xl NU a WY RG) ?_;refine RE.MU rfl rfl rfl rfl rfl trivial (by simp only[go_sem,seval,b4,w4,ca,cf,av,af,ai,al]) ?_;refine RE.MU rfl rfl rfl rfl rfl trivial (by simp only[go_sem,seval,b4,w4,ca,cf,av,af,ai,al]) ?_;refine RE.MU rfl rfl rfl rfl rfl trivial (by simp only[go_sem,seval,b4,w4,ca,cf,av,af,ai,al]) ?_;refine⟨?_,?_⟩
   .refine GT.gu (its:=[34,36,38,40,42,44,46]) (by kernel_rfl) ?_;refine RE.aC rfl rfl rfl rfl rfl (bc.wE (args':=[bo s.u',vI n.w,vI n.h,vI (s.LC.y+s.LC.m),aZ (eM rs a)]) ⟨hlen.at,OI _,OI _,OI _,OI _,trivial⟩ Sz rfl) ?_;refine RE.MB (n:=0) [] [36,38,40,42,44,46] [⟨(.some 14),(.Mb (.t 32)),.none⟩,⟨(.some 33),(.ext 0 (.t 14)),.none⟩,⟨(.some 34),(.ext 1 (.t 14)),.none⟩,⟨(.some 5),(.alloc 239 2 (.agg [(.int .i64 0),(.int .i64 0)])),.none⟩,⟨.none,(.store 2 (.t 5) (.t 33)),.none⟩,⟨(.some 6),(.Mb (.t 34)),.none⟩] rfl rfl ?_;apply sG;simp only[go_sem,seval,b4,w4,ca,cf,av,af,ai,al];refine bG λi5 Z5 s5 a5 f5=>?_;replace b4:=s5 _ _ b4;replace w4:=s5 _ _ w4;replace hlen:=hlen.mono s5;replace NU:=NU.mono s5;simp only[go_sem,seval,b4,w4,ca,cf,av,af,ai,al,a5,aZ];exact fin _ _ i5 (s5.aG f5) ak rfl rfl rfl rfl rfl
   .refine GT.gu (its:=[42,9,13,17,34,36,38,40,44,46]) (by kernel_rfl) ?_;refine RE.MB (n:=0) [9,13,17,34,36,38,40,44,46] [42] [⟨(.some 5),(.alloc 239 2 (.agg [(.int .i64 0),(.int .i64 0)])),.none⟩] rfl rfl ?_;apply sG;simp only[go_sem,seval,b4,w4,ca,cf,av,af,ai,al];refine bG λi5 Z5 s5 a5 f5=>?_;replace b4:=s5 _ _ b4;replace w4:=s5 _ _ w4;replace hlen:=hlen.mono s5;replace NU:=NU.mono s5;simp only[go_sem,seval,b4,w4,ca,cf,av,af,ai,al,a5,aZ];refine RE.MU rfl rfl rfl rfl rfl trivial (by simp only[go_sem,seval,b4,w4,ca,cf,av,af,ai,al,a5,aZ]) ?_;refine RE.MU rfl rfl rfl rfl rfl trivial (by simp only[go_sem,seval,b4,w4,ca,cf,av,af,ai,al,a5,aZ]) ?_;refine RE.MU rfl rfl rfl rfl rfl trivial (by simp only[go_sem,seval,b4,w4,ca,cf,av,af,ai,al,a5,aZ]) ?_;refine RE.aC rfl rfl rfl rfl rfl (bc.wE (args':=[bo s.u',vI n.w,vI n.h,vI (s.LC.y+s.LC.m),aZ (eM rs a)]) ⟨hlen.at,OI _,OI _,OI _,OI _,trivial⟩ Sz rfl) ?_;refine RE.MB (n:=0) [] [36,38,40,44,46] [⟨(.some 14),(.Mb (.t 32)),.none⟩,⟨(.some 33),(.ext 0 (.t 14)),.none⟩,⟨(.some 34),(.ext 1 (.t 14)),.none⟩,⟨.none,(.store 2 (.t 5) (.t 33)),.none⟩,⟨(.some 6),(.Mb (.t 34)),.none⟩] rfl rfl ?_;apply sG;simp only[go_sem,seval,b4,w4,ca,cf,av,af,ai,al,a5,aZ];exact fin _ _ i5 (s5.aG f5) ak rfl rfl rfl rfl rfl
  .refine GT.gu (its:=[42,9,13,17,32,9,13,17,34,36,38,40,44,46]) (by kernel_rfl) ?_;refine RE.MB (n:=0) [9,13,17,32,9,13,17,34,36,38,40,44,46] [42] [⟨(.some 5),(.alloc 239 2 (.agg [(.int .i64 0),(.int .i64 0)])),.none⟩] rfl rfl ?_;apply sG;simp only[go_sem,seval,b4,w4,ca,cf,av,af,ai,al];refine bG λi5 Z5 s5 a5 f5=>?_;replace b4:=s5 _ _ b4;replace w4:=s5 _ _ w4;replace hlen:=hlen.mono s5;replace NU:=NU.mono s5;simp only[go_sem,seval,b4,w4,ca,cf,av,af,ai,al,a5,aZ];refine RE.MU rfl rfl rfl rfl rfl trivial (by simp only[go_sem,seval,b4,w4,ca,cf,av,af,ai,al,a5,aZ]) ?_;refine RE.MU rfl rfl rfl rfl rfl trivial (by simp only[go_sem,seval,b4,w4,ca,cf,av,af,ai,al,a5,aZ]) ?_;refine RE.MU rfl rfl rfl rfl rfl trivial (by simp only[go_sem,seval,b4,w4,ca,cf,av,af,ai,al,a5,aZ]) ?_;refine RE.aC rfl rfl rfl rfl rfl (xl NU a WY RG) ?_;refine RE.MU rfl rfl rfl rfl rfl trivial (by simp only[go_sem,seval,b4,w4,ca,cf,av,af,ai,al,a5,aZ]) ?_;refine RE.MU rfl rfl rfl rfl rfl trivial (by simp only[go_sem,seval,b4,w4,ca,cf,av,af,ai,al,a5,aZ]) ?_;refine RE.MU rfl rfl rfl rfl rfl trivial (by simp only[go_sem,seval,b4,w4,ca,cf,av,af,ai,al,a5,aZ]) ?_;refine RE.aC rfl rfl rfl rfl rfl (bc.wE (args':=[bo s.u',vI n.w,vI n.h,vI (s.LC.y+s.LC.m),aZ (eM rs a)]) ⟨hlen.at,OI _,OI _,OI _,OI _,trivial⟩ Sz rfl) ?_;refine RE.MB (n:=0) [] [36,38,40,44,46] [⟨(.some 14),(.Mb (.t 32)),.none⟩,⟨(.some 33),(.ext 0 (.t 14)),.none⟩,⟨(.some 34),(.ext 1 (.t 14)),.none⟩,⟨.none,(.store 2 (.t 5) (.t 33)),.none⟩,⟨(.some 6),(.Mb (.t 34)),.none⟩] rfl rfl ?_;apply sG;simp only[go_sem,seval,b4,w4,ca,cf,av,af,ai,al,a5,aZ];exact fin _ _ i5 (s5.aG f5) ak rfl rfl rfl rfl rfl
 .refine GT.gu (its:=[42,9,13,17,25,26,9,13,17,32,9,13,17,34,36,38,40,44,46]) (by kernel_rfl) ?_;refine RE.MB (n:=0) [9,13,17,25,26,9,13,17,32,9,13,17,34,36,38,40,44,46] [42] [⟨(.some 5),(.alloc 239 2 (.agg [(.int .i64 0),(.int .i64 0)])),.none⟩] rfl rfl ?_;apply sG;simp only[go_sem,seval,b4,w4,ca,cf,av,af,ai,al];refine bG λi5 Z5 s5 a5 f5=>?_;replace b4:=s5 _ _ b4;replace w4:=s5 _ _ w4;replace hlen:=hlen.mono s5;replace NU:=NU.mono s5;simp only[go_sem,seval,b4,w4,ca,cf,av,af,ai,al,a5,aZ];refine RE.MU rfl rfl rfl rfl rfl trivial (by simp only[go_sem,seval,b4,w4,ca,cf,av,af,ai,al,a5,aZ]) ?_;refine RE.MU rfl rfl rfl rfl rfl trivial (by simp only[go_sem,seval,b4,w4,ca,cf,av,af,ai,al,a5,aZ]) ?_;refine RE.MU rfl rfl rfl rfl rfl trivial (by simp only[go_sem,seval,b4,w4,ca,cf,av,af,ai,al,a5,aZ]) ?_;refine RE.MU rfl rfl rfl rfl rfl trivial (by simp only[go_sem,seval,b4,w4,ca,cf,av,af,ai,al,a5,aZ]) ?_;refine RE.aC rfl rfl rfl rfl rfl (Bp s.LC ⟨by omega,by omega⟩ ⟨by omega,by omega⟩ _) ?_;refine RE.MU rfl rfl rfl rfl rfl trivial (by simp only[go_sem,seval,b4,w4,ca,cf,av,af,ai,al,a5,aZ]) ?_;refine RE.MU rfl rfl rfl rfl rfl trivial (by simp only[go_sem,seval,b4,w4,ca,cf,av,af,ai,al,a5,aZ]) ?_;refine RE.MU rfl rfl rfl rfl rfl trivial (by simp only[go_sem,seval,b4,w4,ca,cf,av,af,ai,al,a5,aZ]) ?_;refine RE.aC rfl rfl rfl rfl rfl (xl NU a WY RG) ?_;refine RE.MU rfl rfl rfl rfl rfl trivial (by simp only[go_sem,seval,b4,w4,ca,cf,av,af,ai,al,a5,aZ]) ?_;refine RE.MU rfl rfl rfl rfl rfl trivial (by simp only[go_sem,seval,b4,w4,ca,cf,av,af,ai,al,a5,aZ]) ?_;refine RE.MU rfl rfl rfl rfl rfl trivial (by simp only[go_sem,seval,b4,w4,ca,cf,av,af,ai,al,a5,aZ]) ?_;refine RE.aC rfl rfl rfl rfl rfl (bc.wE (args':=[bo s.u',vI n.w,vI n.h,vI (s.LC.y+s.LC.m),aZ (eM rs a)]) ⟨hlen.at,OI _,OI _,OI _,OI _,trivial⟩ Sz rfl) ?_;refine RE.MB (n:=0) [] [36,38,40,44,46] [⟨(.some 14),(.Mb (.t 32)),.none⟩,⟨(.some 33),(.ext 0 (.t 14)),.none⟩,⟨(.some 34),(.ext 1 (.t 14)),.none⟩,⟨.none,(.store 2 (.t 5) (.t 33)),.none⟩,⟨(.some 6),(.Mb (.t 34)),.none⟩] rfl rfl ?_;apply sG;simp only[go_sem,seval,b4,w4,ca,cf,av,af,ai,al,a5,aZ];exact fin _ _ i5 (s5.aG f5) ak rfl rfl rfl rfl rfl
open Go.Proofs Go.Proofs.Tryz
def aQ.yX{Z0 J:ag}{iw e sz:Nat}{v:V}{rows:List V}{o:Ob}(h:aQ (bW Z0 iw) J e sz v rows):aQ (bW Z0 iw) (E' J iw o) e sz v rows:=by
 rcases h with h|⟨id,h1,h2,h3⟩
 .exact .inl h
 .exact .inr ⟨id,h1,by rw[ad (aW.1 h3).1];exact h2,h3⟩
def aQ.tg{Z0 J U:ag}{iw e sz:Nat}{v:V}{rows:List V}(h:aQ J U e sz v rows)(hs:aa Z0 J){o:Ob}(hw:J iw=some o):aQ (bW Z0 iw) U e sz v rows:=by
 rcases h with h|⟨id,h1,h2,h3⟩
 .exact .inl h
 .exact .inr ⟨id,h1,h2,aW.2 ⟨λe=>(by rw[e,hw]at h3;cases h3),hs.none h3⟩⟩
def Ca{l:List Nd}{rs:List Rm}(hD:RF l rs){Z0 U:ag}{iw:Nat}{s:WS}{B:Int}(hJ:NG l rs Z0 iw s U)(hB:Bd s B)(hB1:B<=576460752303423488)(a:Nat)(ha:a<l.length)(hn:s.atoms.length<=100000)(hfn:s.u'.length<=100000):
 aA prog 120 [.ptr iw 0 0,vI a] U λr Z'=>r=.LI []/\NG l rs Z0 iw (WS.float rs s a l[a]) Z':=by
 obtain⟨va,vf,w1,QN,PW,WX⟩:=hJ.row;obtain⟨ca,sa⟩:=QN.vc;obtain⟨cf,sf⟩:=PW.vc;have Q7:eK false va=some (.int .i64 s.atoms.length):=by rw[QN.len];simp
 have L7:=gm hD.Sq ha;have OY:=hD.span ha;obtain⟨WY,RG⟩:=hD.room ha;have Lv:=jV l ha;unfold WS.float;generalize l[a]=n at*;refine J6.r (by simp[Hz]) ?_;refine ab.mix 6 ?_;apply sR;simp only[go_sem,seval,Hz,w1,ca,cf,av,af,ai,al,Lv,Nd.cells];refine ae λi4 Z4 s4 a4 f4=>?_;have ZA:=s4 _ _ w1;have n4:=ao w1 f4;simp only[go_sem,seval,a4,ZA,ad n4,ca,cf,Q7,av,af,ai,al];generalize Qe:E' Z4 i4 _=Y4;have b4:Y4 i4=some ⟨51,20,[.agg (Nd.cells n)]⟩:=by rw[<-Qe];exact ak
 rw[Nd.cells]at b4;have U1:aa U Y4:=by rw[<-Qe];exact s4.aG f4
 clear Qe;have w4:=U1 _ _ w1;refine bG λi5 Z5 s5 a5 f5=>?_;have s5':=U1.trans s5;have Qf:=hJ.mono (s5'.aG (o:=⟨143,7,[dF ⟨a,n.side,s.atoms.length,0,0,n.w,n.h⟩]⟩) (U1.none f5));have Ty:dF ⟨a,n.side,s.atoms.length,0,0,n.w,n.h⟩=.agg [vI a,vI n.side,vI s.atoms.length,vI 0,vI 0,vI n.w,vI n.h]:=rfl;rw[Ty]at Qf;simp only[go_sem,seval,a5,gK];generalize Np:E' Z5 i5 _=Y5 at*;have b5:Y5 i5=some ⟨143,7,[.agg [vI a,vI n.side,vI s.atoms.length,vI 0,vI 0,vI n.w,vI n.h]]⟩:=by rw[<-Np];exact ak
 have w5:Y5 iw=some ⟨182,7,[.agg [va,vf,vI s.LB,vI s.LC.y,vI s.LC.m,aM l,cA rs]]⟩:=by rw[<-Np,ad (ao w4 f5)];exact s5 _ _ w4
 have s6:aa U Y5:=by rw[<-Np];exact s5'.aG (U1.none f5)
 clear Np;have hf5:=PW.mono s6;have hm:=hB.m1;have U0:=hB.m0;have SF:=hB.y0;have VI:=hB.yB;have hws:=L7.w;have hhs:=L7.h;have ZC:=Ez vf s.u' hf5 WX ⟨a,n.side,s.atoms.length,0,0,n.w,n.h⟩ (s.LC.y+s.LC.m) (eM rs a) (by omega) (hB.Um (by omega)) ⟨by omega,by omega⟩ (show Bq n.h from⟨by omega,by omega⟩) (show Bq n.w from⟨by omega,by omega⟩) OY.bq;rw[Ty]at ZC;have hpne:sP s.u' ⟨a,n.side,s.atoms.length,0,0,n.w,n.h⟩ (s.LC.y+s.LC.m) (eM rs a)≠[]:=by simp[sP]
 have ZD:=hJ.sub.trans s6;have w5o:=w5;generalize sP s.u' ⟨a,n.side,s.atoms.length,0,0,n.w,n.h⟩ (s.LC.y+s.LC.m) (eM rs a)=fs' at*;refine ab.wT (by kernel_rfl) 8 (.leaf [[],[],[1],[2,1],[3,2,1],[4,3,2,1],[],[],[7],[8,7],[9,8,7],[10,9,8,7],[],[],[12,13,11,10,9,8,7],[5,6,11,14,4,3,2,1,10,9,8,7,12,13],[0,1,2,3,4,5,6,7,8,9,10,11,12,13,14,15],[16,0,1,2,3,4,5,6,7,8,9,10,11,12,13,14,15],[17,0,1,2,3,4,5,6,7,8,9,10,11,12,13,14,15,16],[18,15,0,1,2,3,4,5,6,7,8,9,10,11,12,13,14,17,16]] [0,1,2,3,4,5,6,7,8,9,10,12,13,11,14,15,16,17,18,19]) (by kernel_rfl) ?_;refine GT.gu (its:=[0,2,4,6,8,10,12,14,16,18,20,24,26,22,11,13,28,11,13,30,32,34,36,38]) (by kernel_rfl) ?_;refine RE.MB (n:=0) [22,11,13,28,11,13,30,32,34,36,38] [0,2,4,6,8,10,12,14,16,18,20,24,26] [⟨(.some 27),(.Mb (.t 0)),.none⟩,⟨(.some 28),(.Mb (.t 0)),.none⟩,⟨(.some 29),(.nilCheck (.t 28)),.none⟩,⟨(.some 30),(.Mc .true 0 3 (.t 29)),.none⟩,⟨(.some 31),(.Mc .false 1 1 (.t 30)),.none⟩,⟨(.some 32),(.load .false 1 (.t 31)),.none⟩,⟨(.some 33),(.load .true 7 (.t 5)),.none⟩,⟨(.some 34),(.Mb (.t 0)),.none⟩,⟨(.some 35),(.nilCheck (.t 34)),.none⟩,⟨(.some 36),(.Mc .true 3 2 (.t 35)),.none⟩,⟨(.some 37),(.load .true 2 (.t 36)),.none⟩,⟨(.some 39),(.Mb (.t 0)),.none⟩,⟨(.some 40),(.Mb (.t 1)),.none⟩] rfl rfl ?_;apply sG;simp only[go_sem,seval,b5,w5,ca,cf,av,af];refine RE.aC rfl rfl rfl rfl rfl (Bp s.LC ⟨by omega,by omega⟩ ⟨by omega,by omega⟩ _) ?_;refine RE.MU rfl rfl rfl rfl rfl trivial (by simp only[go_sem,seval,b5,w5,ca,cf,av,af]) ?_;refine RE.MU rfl rfl rfl rfl rfl trivial (by simp only[go_sem,seval,b5,w5,ca,cf,av,af]) ?_;refine RE.aC rfl rfl rfl rfl rfl (xl Qf a WY RG) ?_;refine RE.MU rfl rfl rfl rfl rfl trivial (by simp only[go_sem,seval,b5,w5,ca,cf,av,af]) ?_;refine RE.MU rfl rfl rfl rfl rfl trivial (by simp only[go_sem,seval,b5,w5,ca,cf,av,af]) ?_;refine RE.call rfl rfl rfl rfl rfl ZC ?_;rintro r Z7 ⟨s7,Nk⟩;have w7:=s7 _ _ w5;replace b5:=s7 _ _ b5;replace w5:=s7 _ _ w5;obtain⟨cr,sr⟩:=Nk.vc;refine RE.MB (n:=0) [] [32,34,36,38] [⟨(.some 43),(.nilCheck (.t 27)),.none⟩,⟨(.some 44),(.Mc .true 0 3 (.t 43)),.none⟩,⟨(.some 45),(.Mc .false 1 1 (.t 44)),.none⟩,⟨.none,(.store 1 (.t 45) (.t 42)),.none⟩] rfl rfl ?_;apply sG;simp only[go_sem,seval,b5,w5,ca,cf,av,af,cr,sr];apply sR;simp only[go_sem,seval];refine⟨_,_,aa.refl _,Wk.refl (aa.refl _) _,rfl,?_⟩;have hfa:=(QN.mono s6).mono s7;exact⟨(ZD.trans s7).aG hJ.no,hJ.no,va,r,ak,hfa.yX,(Nk.tg ZD w5o).yX,λh=>absurd h hpne⟩
open Go.Proofs Go.Proofs.Tryz
section
variable {P:Program} {n:Nat} {st:St} {Q:St->Prop} {k:List It}
def Go.uM{i:aK}{l:List aK}{fx:VX}{xs:List VX}{f:FuncId}{caps:List V}{v:V}(hw:bp st.s i.g=some true)(ho:i.op=.call fx xs)
 (hf:fx.ev st.s=.fn f caps)(hc:∀Z1,aa st.U Z1->aA P f (xs.map (·.ev st.s)++caps) Z1 λr Z'=>r=v/\Z'=Z1)(h:Go P n (.d l k) ⟨aU st.s i.dst v,st.U⟩ Q):Go P n (.d (i::l) k) st Q:=by
 refine nC hw ?_;rw[ho];exact⟨f,caps,v,hf,λZ1 h1=>hc Z1 h1,h⟩
end
def iW{fs:List LV}{ws:List Int}{space high B:Int}{s:Mr}(hB:∀f∈fs,f.y+f.h<=B)(h0:0<=high):∀(k i:Nat) (y:Int),∀x∈dM fs ws space high s k i y,y<=x.y/\x.y+high<=max y B+high*k
 |0,_,_,x,hx=>by simp[dM]at hx
 |k+1,i,y,x,hx=>by
  rw[dM]at hx;split at hx
  .have hr:=fH (w:=ws.getD i 0) (high:=high) (y:=y) (s:=s) hB;have e:(mH fs ws space high i y s).y=ki fs (ws.getD i 0) high s y:=rfl;have e2:high*((k+1:Nat):Int)=high*k+high:=by rw[Int.natCast_add,Int.mul_add];simp
   have hk:0<=high*(k:Int):=Int.mul_nonneg h0 (by omega);rcases dI.1 hx with rfl|hx
   .rw[e,e2];omega
   .have:=iW hB h0 k _ _ x hx;rw[e]at this;rw[e2];omega
  .cases hx
def NG.B3{l:List Nd}{rs:List Rm}{Z0 U:ag}{iw i:Nat}{s:WS}{o:Ob}(hJ:NG l rs Z0 iw s U)(hi:U i=some o)(h1:o.elem≠111)(h2:o.elem≠143)(h3:i≠iw):NG l rs (E' Z0 i o) iw s U:=by
 obtain⟨va,vf,w1,g1,g2,g3⟩:=hJ.row;have key:∀{e sz:Nat} {v:V} {rows:List V},o.elem≠e->aQ (bW Z0 iw) U e sz v rows->aQ (bW (E' Z0 i o) iw) U e sz v rows:=λ{e sz v rows} he h=>by
  rcases h with h|⟨id,a1,a2,a3⟩
  .exact .inl h
  .have LR:id≠i:=λe'=>by subst e';rw[a2]at hi;injection hi with hi;subst hi;exact he rfl
   exact .inr ⟨id,a1,a2,aW.2 ⟨(aW.1 a3).1,by rw[ad LR];exact(aW.1 a3).2⟩⟩
 refine⟨λj p h=>?_,by rw[ad h3.symm];exact hJ.no,va,vf,w1,key h1 g1,key h2 g2,g3⟩;by_cases e:j=i
 .subst e;rw[ak]at h;rw[hi];exact h
 .rw[ad e]at h;exact hJ.sub _ _ h
def NG.narrow{l:List Nd}{rs:List Rm}{Z0 U:ag}{iw i:Nat}{s:WS}{o:Ob}(hJ:NG l rs (E' Z0 i o) iw s U)(hi:Z0 i=none)(h3:i≠iw):NG l rs Z0 iw s U:=by
 obtain⟨va,vf,w1,g1,g2,g3⟩:=hJ.row;have hs:aa Z0 (E' Z0 i o):=(aa.refl Z0).aG hi;have key:∀{e sz:Nat} {v:V} {rows:List V},aQ (bW (E' Z0 i o) iw) U e sz v rows->aQ (bW Z0 iw) U e sz v rows:=λ{e sz v rows} h=>by
  rcases h with h|⟨id,a1,a2,a3⟩
  .exact .inl h
  .exact .inr ⟨id,a1,a2,aW.2 ⟨(aW.1 a3).1,hs.none (aW.1 a3).2⟩⟩
 exact⟨hs.trans hJ.sub,hs.none hJ.no,va,vf,w1,key g1,key g2,g3⟩
def lk{U:ag}{e sz id:Nat}{rows:List V}{i:Nat}(h:U id=some ⟨e,sz,rows⟩)(hi:i<rows.length):bN U sz (.own id 0 rows.length) (.int .i64 i)=some (.ptr id i 0):=by
 simp[bN,h,hi]
def gA(a:Nat)(h:Int)(s:WS)(L:List Ln):WS:=L.foldl (λs x=>s.put (fe a h x)) s
def zh{a:Nat}{h:Int}{s:WS}{L:List Ln}{j:Nat}(hj:j<L.length):gA a h s (L.take (j+1))=(gA a h s (L.take j)).put (fe a h L[j]):=by
 unfold gA;rw[Ph hj,yQ];rfl
def oQ(a:Nat)(h:Int):∀(L:List Ln) (s:WS),(gA a h s L).atoms.length=s.atoms.length+L.length
 |[],s=>by simp[gA]
 |x::L,s=>by
  have:=oQ a h L (s.put (fe a h x));simp only[gA,nx]at this|-;rw[this];simp only[WS.put,kf,MM,List.length_nil];omega
def D2{l:List Nd}{rs:List Rm}(hD:RF l rs){Z0 U:ag}{iw:Nat}{s:WS}{B:Int}(hJ:NG l rs Z0 iw s U)(hB:Bd s B)(hB1:B<=288230376151711744)(a:Nat)(ha:a<l.length)(hn:s.atoms.length<=100000)(hfn:s.u'.length<=100000)(Ub:l[a].words.length<=10000):
 aA prog 118 [.ptr iw 0 0,vI a] U λr Z'=>r=.LI []/\NG l rs Z0 iw (WS.text rs s a l[a]) Z':=by
 obtain⟨va,vf,w1,QN,PW,WX⟩:=hJ.row;obtain⟨ca,sa⟩:=QN.vc;obtain⟨cf,sf⟩:=PW.vc;have L7:=gm hD.Sq ha;have OY:=hD.span ha;obtain⟨WY,RG⟩:=hD.room ha;have Lv:=jV l ha;unfold WS.text;generalize l[a]=n at*;have hwok:WJ n.words n.space:=⟨by omega,λx hx=>by have:=L7.words x hx;omega,L7.space.1,L7.space.2⟩
 have hm:=hB.m1;have U0:=hB.m0;have SF:=hB.y0;have VI:=hB.yB;have R6:=L7.line;refine KF.r (by simp[HB]) ?_;refine ab.mix 7 ?_;apply sR;simp only[go_sem,seval,HB,w1,ca,cf,av,af,ai,al,Lv,Nd.cells];refine ae λi4 Z4 s4 a4 f4=>?_;have ZA:=s4 _ _ w1;have n4:=ao w1 f4;simp only[go_sem,seval,a4,ZA,ad n4,ca,cf,av,af,ai,al];generalize Qe:E' Z4 i4 _=Y4;have b4:Y4 i4=some ⟨51,20,[.agg (Nd.cells n)]⟩:=by rw[<-Qe];exact ak
 rw[Nd.cells]at b4;have Tz:aa U Y4:=by rw[<-Qe];exact s4.aG f4
 clear Qe;have w4:=Tz _ _ w1;have hlen:tu Y4 vf (bo s.u'):=(PW.mono Tz).Cu;have NU:=hJ.mono Tz;refine Go.cN rfl rfl rfl (Bp s.LC ⟨by omega,by omega⟩ ⟨by omega,by omega⟩) ?_;apply sG;simp only[go_sem,seval];refine Go.uM rfl rfl rfl (λZ8 h8=>xl (NU.mono h8) a WY RG) ?_;apply sG;simp only[go_sem,seval];have hLl:=jg s.u' n.words n.space n.line (eM rs a) n.words.length 0 (s.LC.y+s.LC.m);have ZE:=iW (ws:=n.words) (space:=n.space) (s:=eM rs a) (λf hf=>(hB.fl f hf).yB) R6.1 n.words.length 0 (s.LC.y+s.LC.m);have Lr:=λZ8 (h8:aa Y4 Z8)=>(DA vf s.u' (hlen.mono h8) n.words n.space n.line (s.LC.y+s.LC.m) (eM rs a) (by omega) (hB.Um (by omega)) B (λf hf=>(hB.fl f hf).yB) (by omega) (by omega) (by omega) R6.1 R6.2 OY.bq hwok).AU λ_ _ h=>h.2.vR (v0:=pe (dM s.u' n.words n.space n.line (eM rs a) n.words.length 0 (s.LC.y+s.LC.m))) h.1 rfl;generalize dM s.u' n.words n.space n.line (eM rs a) n.words.length 0 (s.LC.y+s.LC.m)=L at*;refine Go.uM rfl rfl rfl (λZ8 h8=>Lr Z8 h8) ?_;have hnL:eK false (pe L)=some (.int .i64 L.length):=by simp[pe,eK]
 apply sG;simp only[go_sem,seval,hnL];have XY:Z0 i4=none:=hJ.sub.none f4;have hJw:=NU.B3 b4 (by simp) (by simp) n4.symm;have Ok:((n.words.length:Nat):Int)<=10000:=by omega
 have hmul:n.line*(n.words.length:Int)<=1099511627776*10000:=Int.mul_le_mul R6.2 Ok (by omega) (by omega);refine ab.loop (λm st=>∃j:Nat,j<=L.length/\m=L.length-j/\NG l rs (E' Z0 i4 ⟨51,20,[.agg [vI n.kind,vI n.size,vI n.st.top,vI n.st.LM,vI n.st.LA,vI n.st.Lt,vI n.st.Mm,vI n.st.LZ,vI n.st.Mg,vI n.st.head,vI n.st.before,vI n.st.after,vI n.st.inside,vI n.st.clear,vI n.line,vI n.space,bj n.words,vI n.side,vI n.w,vI n.h]]⟩) iw (gA a n.line s (L.take j)) st.U/\
  st.s 0=.ptr iw 0 0/\st.s 1=vI a/\st.s 4=.ptr i4 0 0/\st.s 33=pe L/\st.s 34=vI L.length/\st.s 35=vI j) L.length ?_ ?_
 .exact⟨0,by omega,rfl,hJw,rfl,rfl,rfl,rfl,rfl,rfl⟩
 .rintro m ⟨S,J⟩ ⟨j,hj,rfl,Nu,t0,t1,t4,t33,t34,t35⟩;simp only at Nu t0 t1 t4 t33 t34 t35;refine ab.mix 7 ?_;have c4:=Nu.sub _ _ (ak (id:=i4));by_cases Lr:j<L.length
  .have q:((j:Int)<L.length)=True:=LH;have Q3:∀U,bN U 5 (pe L) (.int .i64 j)=some (.rp (l7 L[j])):=λU=>by simp[pe,bN,Lr]
   have Mv:=zh (a:=a) (h:=n.line) (s:=s) Lr;have MR:=ZE L[j] (ML Lr);have Q7:=oQ a n.line (L.take j) s;rw[nB]at Q7;generalize L[j]=x at*;have Ty:l7 x=.agg [vI x.fr,vI x.to,vI x.x,vI x.y,vI x.w]:=rfl;apply sR;simp only[go_sem,seval,t0,t1,t4,t33,t34,t35,q,Q3,Ty];refine ae λi6 Z6 s6 a6 f6=>?_;have d4:=s6 _ _ c4;have XM:=ao c4 f6;simp only[go_sem,seval,a6,d4,t0,t1,t4,ad XM,ai];refine ab.call rfl rfl rfl (Dt (Nu.mono (s6.aG f6)) (fe a n.line x) (show Bq x.y from⟨by omega,by omega⟩) (show Bq n.line from⟨by omega,by omega⟩) (by omega)) ?_;rintro r Z' ⟨rfl,OH⟩;have r1:LP .i64 ((j:Int)+1):=au;apply sR;simp only[go_sem,seval,t0,t1,t4,t33,t34,t35,r1];exact⟨_,by omega,j+1,by omega,rfl,by rw[Mv];exact OH,by simp[t0,t1,t4,t33,t34]⟩
  .have q:((j:Int)<L.length)=False:=Ly;rw[pj (by omega)]at Nu;apply sR;simp only[go_sem,seval,t0,t1,t4,t33,t34,t35,q];exact⟨_,_,aa.refl _,Wk.refl (aa.refl _) _,rfl,Nu.narrow XY n4.symm⟩
def nd0:Nd:=⟨0,0,MT.zero,0,0,[],0,0,0⟩
def LW(l:List Nd)(a:Nat):Nd:=l.getD a nd0
def iQ{l:List Nd}{a:Nat}(h:a<l.length):LW l a=l[a]:=by simp[LW,h]
def eD(l:List Nd)(rs:List Rm):Nat->Nat->Nat->WS->WS
 |0,_,_,s=>s
 |k+1,a,e,s=>if a<e then eD l rs k (a+(L0 l a).toNat) e
   (if(LW l a).kind=1 then(eD l rs k (a+1) (a+(L0 l a).toNat) (s.enter (LW l a).st)).leave (LW l a).st
    else if(LW l a).kind=2 then s.text rs a (LW l a)else if(LW l a).kind=3 then WS.mono l rs s a (LW l a)else s.float rs a (LW l a))else s
def my{l:List Nd}{rs:List Rm}{e:Nat}(he:e<=l.length):∀(k j a:Nat) (s:WS),e-a<=k->e-a<=j->cg l a e=true->eD l rs k a e s=eD l rs j a e s
 |0,0,_,_,_,_,_=>rfl
 |0,j+1,a,s,h,_,_=>by rw[eD,eD,aJ (by omega)]
 |k+1,0,a,s,_,h,_=>by rw[eD,eD,aJ (by omega)]
 |k+1,j+1,a,s,h,h',hr=>by
  rw[eD,eD];by_cases Lr:a<e
  .obtain⟨h1,h2⟩:=du he hr (Md a) Lr;obtain⟨h3,h4⟩:=ee he hr Lr;rw[aI Lr,aI Lr,my (e:=a+(L0 l a).toNat) (by omega) k j _ _ (by omega) (by omega) h4,my he k j _ _ (by omega) (by omega) h3]
  .rw[aJ Lr,aJ Lr]
def MF(l:List Nd)(a e:Nat):Nat:=(((l.take e).drop a).map λn=>4+n.words.length).sum
def DZ(l:List Nd)(a:Nat):MF l a a=0:=by unfold MF;rw[List.drop_of_length_le (by rw[nB];omega)];rfl
def kE{l:List Nd}{a m e:Nat}(h1:a<=m)(h2:m<=e)(h3:e<=l.length):MF l a e=MF l a m+MF l m e:=by
 unfold MF;rw[<-List.sum_append_nat,<-gM];congr 2;have e1:l.take m=(l.take e).take m:=by rw[List.take_take,Nat.min_eq_left h2]
 rw[e1]
 conv=>lhs;rw[<-yK m (l.take e)]
 rw[Dp (by rw[nB,nB];omega)]
def Ew{l:List Nd}{a:Nat}(h:a<l.length):MF l a (a+1)=4+l[a].words.length:=by
 unfold MF;rw[Ph h,Dp (by rw[nB];omega),List.drop_of_length_le (by rw[nB];omega)];simp
def sL{l:List Nd}{a e:Nat}(h1:a<e)(h3:e<=l.length):MF l a e=4+(LW l a).words.length+MF l (a+1) e:=by
 rw[kE (Nat.le_succ a) h1 h3,Ew (by omega),iQ (by omega)]
structure fv(s:WS)(C:Nat):Prop where
 bd:Bd s (1099511627776*(C:Int))
 Mf:s.atoms.length<=C
 fl:s.u'.length<=C
def fv.more{s:WS}{C D:Nat}(h:fv s C)(hD:C<=D):fv s D:=⟨h.bd.mono (by omega),ly h.Mf hD,ly h.fl hD⟩
def kH{l:List Nd}{rs:List Rm}{s:WS}{C:Nat}(h:fv s C){n:Nd}(hn:R4 n)(a:Nat):fv (WS.mono l rs s a n) (C+1):=by
 obtain⟨⟨hf,h1,h2,h3,h4⟩,h5,h6⟩:=h;have VH:=fH (w:=n.w) (high:=n.h) (y:=s.LC.y+s.LC.m) (s:=eM rs a) (λf PI=>(hf f PI).yB);have hh:=hn.h;refine⟨⟨λf PI=>(hf f PI).mono (by omega),?_,?_,?_,?_⟩,?_,?_⟩<;>simp only[WS.mono,WS.put,kf,MM,List.length_nil]<;>omega
def jF{l:List Nd}{rs:List Rm}(hD:RF l rs){s:WS}{C:Nat}(h:fv s C){a:Nat}(ha:a<l.length){n:Nd}(hn:R4 n)(hk:n.kind=4):fv (s.float rs a n) (C+1):=by
 obtain⟨⟨hf,h1,h2,h3,h4⟩,h5,h6⟩:=h;have hb:=hn.box (.inr hk);have hw:=hn.w;have hh:=hn.h;refine⟨⟨λf PI=>?_,h1,h2,h3,by simp only[WS.float];omega⟩,by simp only[WS.float];omega,by simp only[WS.float,sP,kf,MM,List.length_nil];omega⟩;exact(Fu (f:=⟨a,n.side,s.atoms.length,0,0,n.w,n.h⟩) hf (hD.span ha) (by omega) (by omega) (by simp only;omega) (by simp only;omega) (by simp only;omega) (by simp only;omega) f PI).mono (by omega)
def kM{rs:List Rm}{s:WS}{C:Nat}(h:fv s C){n:Nd}(hn:R4 n)(a:Nat):fv (s.text rs a n) (C+n.words.length):=by
 obtain⟨⟨hf,h1,h2,h3,h4⟩,h5,h6⟩:=h;have hl:=hn.line;unfold WS.text;have hLl:=jg s.u' n.words n.space n.line (eM rs a) n.words.length 0 (s.LC.y+s.LC.m);have ZE:=iW (ws:=n.words) (space:=n.space) (s:=eM rs a) (λf PI=>(hf f PI).yB) hl.1 n.words.length 0 (s.LC.y+s.LC.m);generalize dM s.u' n.words n.space n.line (eM rs a) n.words.length 0 (s.LC.y+s.LC.m)=L at*;have hmul:n.line*(n.words.length:Int)<=1099511627776*(n.words.length:Int):=Int.mul_le_mul_of_nonneg_right hl.2 (by omega);have U0:0<=n.line*(n.words.length:Int):=Int.mul_nonneg hl.1 (by omega);have key:∀(L:List Ln) (t:WS),(∀x∈L,s.LC.y+s.LC.m<=x.y/\x.y+n.line<=max (s.LC.y+s.LC.m) (1099511627776*(C:Int))+n.line*(n.words.length:Int))->t.u'=s.u'->0<=t.LC.y->0<=t.LC.m->t.LC.m<=1099511627776->
  t.LC.y+t.LC.m<=1099511627776*((C+n.words.length:Nat):Int)->(gA a n.line t L).u'=s.u'/\0<=(gA a n.line t L).LC.y/\0<=(gA a n.line t L).LC.m/\(gA a n.line t L).LC.m<=1099511627776/\(gA a n.line t L).LC.y+(gA a n.line t L).LC.m<=1099511627776*((C+n.words.length:Nat):Int):=by
  intro L
  induction L with
  |nil=>intro t _ g1 g2 g3 g4 g5;exact⟨g1,g2,g3,g4,g5⟩
  |cons x L ih=>
   intro t hx g1 g2 g3 g4 g5;have hx0:=hx x (by simp);exact ih (t.put (fe a n.line x)) (λy hy=>hx y (by simp[hy])) g1 (by simp only[WS.put,fe];omega) (by simp[WS.put]) (by simp[WS.put]) (by simp only[WS.put,fe];omega)
 obtain⟨k1,k2,k3,k4,k5⟩:=key L s ZE rfl h1 h2 h3 (by omega);have Q7:=oQ a n.line L s;refine⟨⟨λf PI=>(hf f ?_).mono (by omega),k2,k3,k4,k5⟩,?_,?_⟩
 .have:f∈(gA a n.line s L).u':=PI;rw[k1]at this;exact this
 .show(gA a n.line s L).atoms.length<=_;omega
 .show(gA a n.line s L).u'.length<=_;rw[k1];omega
def eY{s:WS}{C:Nat}(h:fv s C){t:MT}(ht:Uk t):fv (s.enter t) (C+2):=⟨(h.bd.enter ht).mono (by omega),by have:=h.Mf;simp only[WS.enter];omega,by have:=h.fl;simp only[WS.enter];omega⟩
def jk{s:WS}{C:Nat}(h:fv s C){t:MT}(ht:Uk t):fv (s.leave t) (C+2):=⟨(h.bd.leave ht).mono (by omega),by have:=h.Mf;simp only[WS.leave];omega,by have:=h.fl;simp only[WS.leave];omega⟩
def fX{l:List Nd}{rs:List Rm}(hD:RF l rs):∀(k a e:Nat) (s:WS) (C:Nat),e-a<=k->a<=e->e<=l.length->cg l a e=true->fv s C->fv (eD l rs k a e s) (C+MF l a e)
 |0,a,e,s,C,_,P7,_,_,h=>h.more (Nat.le_add_right _ _)
 |k+1,a,e,s,C,hk,P7,he,hr,h=>by
  rw[eD];by_cases Lr:a<e
  .rw[aI Lr];obtain⟨h1,h2⟩:=du he hr (Md a) Lr;obtain⟨h3,h4⟩:=ee he hr Lr;have L7:R4 (LW l a):=by rw[iQ (by omega)];exact gm hD.Sq (by omega)
   have RU:MF l a e=MF l a (a+(L0 l a).toNat)+MF l (a+(L0 l a).toNat) e:=kE (by omega) (by omega) he;have SL:MF l a (a+(L0 l a).toNat)=4+(LW l a).words.length+MF l (a+1) (a+(L0 l a).toNat):=sL (by omega) (by omega);have step:∀t,fv t (C+MF l a (a+(L0 l a).toNat))->fv (eD l rs k (a+(L0 l a).toNat) e t) (C+MF l a e):=λt ht=>by
    rw[RU,<-Nat.add_assoc];exact fX hD k _ e t _ (by omega) (by omega) he h3 ht
   refine step _ ?_;rw[SL];split
   .have:=jk (fX hD k (a+1) (a+(L0 l a).toNat) _ _ (by omega) (by omega) (by omega) h4 (eY h L7.st)) L7.st;exact this.more (by omega)
   .split
    .exact(kM h L7 a).more (by omega)
    .split
     .exact(kH h L7 a).more (by omega)
     .rename_i g1 g2 g3;have hk4:(LW l a).kind=4:=by have:=L7.kind;omega
      exact(jF hD h (by omega) L7 hk4).more (by omega)
  .rw[aJ Lr];exact h.more (Nat.le_add_right _ _)
open Go.Proofs Go.Proofs.Tryz
def IX(l:List Nd)(rs:List Rm)(iw:Nat)(a e:Nat)(C:Nat):Prop:=
 ∀(s:WS) (Z0 U:ag),NG l rs Z0 iw s U->fv s C->aA prog 92 [.ptr iw 0 0,vI a,vI e] U λr Z'=>r=.LI []/\NG l rs Z0 iw (eD l rs (e-a) a e s) Z'
def NG.Ck{l:List Nd}{rs:List Rm}{Z0 J:ag}{iw:Nat}{s:WS}(hJ:NG l rs Z0 iw s J){va vf:V}{y m:Int}(w:J iw=some ⟨182,7,[.agg [va,vf,vI s.LB,vI y,vI m,aM l,cA rs]]⟩)(p:Pn):
 NG l rs Z0 iw { s with LC:=p } (E' J iw ⟨182,7,[.agg [va,vf,vI s.LB,vI p.y,vI p.m,aM l,cA rs]]⟩):=by
 obtain⟨va',vf',w',g1,g2,g3⟩:=hJ.row;rw[w]at w';simp only[aX,Ob.mk.injEq,List.cons.injEq,V.agg.injEq,true_and,and_true]at w';obtain⟨rfl,rfl,_⟩:=w';exact⟨hJ.sub.aG hJ.no,hJ.no,va,vf,ak,g1.yX,g2.yX,g3⟩
def jD(s:MT):V:=.agg [vI s.top,vI s.LM,vI s.LA,vI s.Lt,vI s.Mm,vI s.LZ,vI s.Mg,vI s.head,vI s.before,vI s.after,vI s.inside,vI s.clear]
def BM{l:List Nd}{rs:List Rm}(hD:RF l rs){Z0 U:ag}{iw:Nat}{s:WS}{C:Nat}(hJ:NG l rs Z0 iw s U)(hI:fv s C)(hC:C<=50000)(a:Nat)(ha:a<l.length)(Mz:IX l rs iw (a+1) (a+(L0 l a).toNat) (C+2))(hC2:C+2+MF l (a+1) (a+(L0 l a).toNat)<=50000)
 (No:a+(L0 l a).toNat<=l.length)(XV:cg l (a+1) (a+(L0 l a).toNat)=true)(NI:1<=L0 l a):
 aA prog 117 [.ptr iw 0 0,vI a] U λr Z'=>r=.LI []/\NG l rs Z0 iw ((eD l rs (a+(L0 l a).toNat-(a+1)) (a+1) (a+(L0 l a).toNat) (s.enter l[a].st)).leave l[a].st) Z':=by
 obtain⟨va,vf,w1,QN,PW,WX⟩:=hJ.row;obtain⟨ca,sa⟩:=QN.vc;obtain⟨cf,sf⟩:=PW.vc;have L7:=gm hD.Sq ha;have Lv:=jV l ha;have Wj:=kX ha;have Tg:=hD.tc;have q3:((a:Int)+l[a].size)=((a+(L0 l a).toNat:Nat):Int):=by rw[Wj];omega
 have q2:((a:Int)+1)=((a+1:Nat):Int):=by omega
 have hB:=hI.bd;have hm:=hB.m1;have U0:=hB.m0;have SF:=hB.y0;have VI:=hB.yB;have XG:=hI.fl;refine KD.r (by simp[H0]) ?_;refine ab.mix 7 ?_;apply sR;simp only[go_sem,seval,H0,w1,ca,cf,av,af,ai,al,Lv,Nd.cells];refine ae λi4 Z4 s4 a4 f4=>?_;have ZA:=s4 _ _ w1;have n4:=ao w1 f4;simp only[go_sem,seval,a4,ZA,ad n4,ca,cf,av,af,ai,al];generalize Qe:E' Z4 i4 _=Y4;have b4:Y4 i4=some ⟨49,12,[jD l[a].st]⟩:=by rw[<-Qe];exact ak
 have Tz:aa U Y4:=by rw[<-Qe];exact s4.aG f4
 clear Qe;have w4:=Tz _ _ w1;have hlen:tu Y4 vf (bo s.u'):=(PW.mono Tz).Cu;have XY:Z0 i4=none:=hJ.sub.none f4;have NU:=(hJ.mono Tz).B3 b4 (by simp) (by simp) n4.symm;refine Go.uM rfl rfl rfl (λZ8 h8=>bc.wE (args':=[bo s.u',vI l[a].st.clear]) ⟨(hlen.mono h8).at,OI _,trivial⟩ (wF s.u' l[a].st.clear (by omega) (hB.Um (by omega))) rfl) ?_;apply sG;simp only[go_sem,seval];obtain⟨s1,PJ⟩:∃x,x=s.enter l[a].st:=⟨_,rfl⟩
 have ZF:=eY hI L7.st;rw[<-PJ]at ZF|-;unfold WS.enter at PJ;simp only at PJ;cases Sr:(eg (lz l[a].st.clear) s.u').2
 .rw[Sr]at PJ;simp only[iG,↓reduceIte]at PJ;simp only[go_sem,seval,gK];obtain⟨p,hp⟩:∃p:Pn,p=s.LC:=⟨_,rfl⟩
  have TA:s1={ s with LC:=eG p l[a].st.top l[a].st.LA }:=by rw[PJ,hp]
  have Qf:NG l rs (E' Z0 i4 ⟨49,12,[jD l[a].st]⟩) iw { s with LC:=p } Y4:=by rw[hp];exact NU
  have w5:Y4 iw=some ⟨182,7,[.agg [va,vf,vI s.LB,vI p.y,vI p.m,aM l,cA rs]]⟩:=by rw[hp];exact w4
  have b5:=b4;obtain⟨hp1,hp2,hp3,hp4⟩:0<=p.y/\0<=p.m/\p.m<=1099511627776/\p.y+p.m<=1099511627776*(C:Int):=by rw[hp];exact⟨SF,U0,hm,VI⟩
  clear hp;generalize Y4=Y5 at*;rw[jD]at b5;have L8:=L7.st;have k1:=L8.top;have k2:=L8.LA;have k3:=L8.LM;have k4:=L8.Lt;refine ab.uP (by kernel_rfl) [0,1,2,3,4,5,6,7,8,9,10,11,12] [[],[],[1],[1,2],[1,2,3],[],[5],[],[7],[1,2,3,4,5,6,7,8],[0,1,2,3,4,5,6,7,8,9],[0,1,2,3,4,5,6,7,8,9,10],[0,1,2,3,4,5,6,7,8,9,10,11]] [0,2,4,6,8,10,12,14,16,18,20,22,24] (by kernel_rfl) (by kernel_rfl) ?_;refine RE.MB (n:=0) [18,20,22,24] [0,2,4,6,8,10,12,14,16] [⟨(.some 36),(.Mb (.t 0)),.none⟩,⟨(.some 37),(.Mb (.t 0)),.none⟩,⟨(.some 38),(.nilCheck (.t 37)),.none⟩,⟨(.some 39),(.Mc .true 3 2 (.t 38)),.none⟩,⟨(.some 40),(.load .true 2 (.t 39)),.none⟩,⟨(.some 41),(.Mc .false 0 1 (.t 4)),.none⟩,⟨(.some 42),(.load .false 1 (.t 41)),.none⟩,⟨(.some 43),(.Mc .false 2 1 (.t 4)),.none⟩,⟨(.some 44),(.load .false 1 (.t 43)),.none⟩] rfl rfl ?_;apply sG;simp only[go_sem,seval,w5,b5,ca,cf,av,af];refine RE.aC rfl rfl rfl rfl rfl (Aw p l[a].st.top l[a].st.LA ⟨by omega,by omega⟩ ⟨by omega,by omega⟩ ⟨by omega,by omega⟩ ⟨by omega,by omega⟩ _) ?_;refine RE.MB (n:=0) [] [20,22,24] [⟨(.some 46),(.nilCheck (.t 36)),.none⟩,⟨(.some 47),(.Mc .true 3 2 (.t 46)),.none⟩,⟨.none,(.store 2 (.t 47) (.t 45)),.none⟩] rfl rfl ?_;apply sG;simp only[go_sem,seval,w5,gn,ca,cf,av,af];have R7:=Qf.Ck w5 (eG p l[a].st.top l[a].st.LA);rw[<-TA]at R7;have r1:LP .i64 ((a:Int)+1):=au;have r2:LP .i64 ((a:Int)+l[a].size):=au;have w6:=ak (U:=Y5) (id:=iw) (o:=⟨182,7,[.agg [va,vf,vI s.LB,vI (eG p l[a].st.top l[a].st.LA).y,vI (eG p l[a].st.top l[a].st.LA).m,aM l,cA rs]]⟩);have hc:=Mz s1 _ _ R7 ZF;rw[<-q2,<-q3]at hc;generalize E' Y5 iw ⟨182,7,[.agg [va,vf,vI s.LB,vI (eG p l[a].st.top l[a].st.LA).y,vI (eG p l[a].st.top l[a].st.LA).m,aM l,cA rs]]⟩=Y6 at*;apply sR;simp only[go_sem,seval,w6,Lv,Nd.cells,r1,r2,ca,cf,av,af,ai];refine ab.call rfl rfl rfl hc ?_;rintro r Z7 ⟨rfl,TB⟩;have U2:=fX hD (a+(L0 l a).toNat-(a+1)) (a+1) (a+(L0 l a).toNat) s1 _ (Md _) (by omega) No XV ZF;have b7:=TB.sub _ _ (ak (id:=i4));rw[jD]at b7;generalize eD l rs (a+(L0 l a).toNat-(a+1)) (a+1) (a+(L0 l a).toNat) s1=s2 at*;obtain⟨va7,vf7,w7,g71,g72,_⟩:=TB.row;obtain⟨ZG,_⟩:=g71.vc;obtain⟨ZH,_⟩:=g72.vc;have m1:=U2.bd.m1;have m2:=U2.bd.m0;have m3:=U2.bd.y0;have m4:=U2.bd.yB;apply sR;simp only[go_sem,seval,gK];refine ab.uP (by kernel_rfl) [0,1,2,3,4,5,6,7,8,9,10,11,12] [[],[],[1],[1,2],[1,2,3],[],[5],[],[7],[1,2,3,4,5,6,7,8],[0,1,2,3,4,5,6,7,8,9],[0,1,2,3,4,5,6,7,8,9,10],[0,1,2,3,4,5,6,7,8,9,10,11]] [0,2,4,6,8,10,12,14,16,18,20,22,24] (by kernel_rfl) (by kernel_rfl) ?_;refine RE.MB (n:=0) [18,20,22,24] [0,2,4,6,8,10,12,14,16] [⟨(.some 62),(.Mb (.t 0)),.none⟩,⟨(.some 63),(.Mb (.t 0)),.none⟩,⟨(.some 64),(.nilCheck (.t 63)),.none⟩,⟨(.some 65),(.Mc .true 3 2 (.t 64)),.none⟩,⟨(.some 66),(.load .true 2 (.t 65)),.none⟩,⟨(.some 67),(.Mc .false 1 1 (.t 4)),.none⟩,⟨(.some 68),(.load .false 1 (.t 67)),.none⟩,⟨(.some 69),(.Mc .false 3 1 (.t 4)),.none⟩,⟨(.some 70),(.load .false 1 (.t 69)),.none⟩] rfl rfl ?_;apply sG;simp only[go_sem,seval,w7,b7,ZG,ZH,av,af];refine RE.aC rfl rfl rfl rfl rfl (Ai s2.LC l[a].st.LM l[a].st.Lt ⟨by omega,by omega⟩ ⟨by omega,by omega⟩ ⟨by omega,by omega⟩ ⟨by omega,by omega⟩ _) ?_;refine RE.MB (n:=0) [] [20,22,24] [⟨(.some 72),(.nilCheck (.t 62)),.none⟩,⟨(.some 73),(.Mc .true 3 2 (.t 72)),.none⟩,⟨.none,(.store 2 (.t 73) (.t 71)),.none⟩] rfl rfl ?_;apply sG;simp only[go_sem,seval,w7,gn,ZG,ZH,av,af];apply sR;simp only[go_sem,seval];exact⟨_,_,aa.refl _,Wk.refl (aa.refl _) _,rfl,(TB.Ck w7 (kQ s2.LC l[a].st.LM l[a].st.Lt)).narrow XY n4.symm⟩
 .rw[Sr]at PJ;simp only[↓reduceIte]at PJ;obtain⟨f,XK,e1,_⟩:=kO Sr;have e2:(lz l[a].st.clear f).1=f.y+f.h:=rfl;have Qt:=hB.fl f XK;generalize (eg (lz l[a].st.clear) s.u').1=low at*;simp only[go_sem,seval,w4,ca,cf,av,af];refine ab.aC rfl rfl rfl (BR s.LC low ⟨by omega,by omega⟩ ⟨by omega,by omega⟩ _) ?_;apply sR;simp only[go_sem,seval,w4,gn,ca,cf,av,af,gK];obtain⟨p,hp⟩:∃p:Pn,p=iX s.LC low:=⟨_,rfl⟩
  rw[<-hp]at PJ|-;have TA:=PJ;have Qf:=NU.Ck w4 p;have w5:=ak (U:=Y4) (id:=iw) (o:=⟨182,7,[.agg [va,vf,vI s.LB,vI p.y,vI p.m,aM l,cA rs]]⟩);have b5:E' Y4 iw ⟨182,7,[.agg [va,vf,vI s.LB,vI p.y,vI p.m,aM l,cA rs]]⟩ i4=some ⟨49,12,[jD l[a].st]⟩:=by rw[ad n4.symm];exact b4
  obtain⟨hp1,hp2,hp3,hp4⟩:0<=p.y/\0<=p.m/\p.m<=1099511627776/\p.y+p.m<=1099511627776*(C:Int):=by
   rw[hp];have hy:=Qt.yB;have SF:=Qt.y0;have Uh:=Qt.h0;unfold iX;split<;>(try simp only)<;>omega
  clear hp;generalize E' Y4 iw ⟨182,7,[.agg [va,vf,vI s.LB,vI p.y,vI p.m,aM l,cA rs]]⟩=Y5 at*;rw[jD]at b5;have L8:=L7.st;have k1:=L8.top;have k2:=L8.LA;have k3:=L8.LM;have k4:=L8.Lt;refine ab.uP (by kernel_rfl) [0,1,2,3,4,5,6,7,8,9,10,11,12] [[],[],[1],[1,2],[1,2,3],[],[5],[],[7],[1,2,3,4,5,6,7,8],[0,1,2,3,4,5,6,7,8,9],[0,1,2,3,4,5,6,7,8,9,10],[0,1,2,3,4,5,6,7,8,9,10,11]] [0,2,4,6,8,10,12,14,16,18,20,22,24] (by kernel_rfl) (by kernel_rfl) ?_;refine RE.MB (n:=0) [18,20,22,24] [0,2,4,6,8,10,12,14,16] [⟨(.some 36),(.Mb (.t 0)),.none⟩,⟨(.some 37),(.Mb (.t 0)),.none⟩,⟨(.some 38),(.nilCheck (.t 37)),.none⟩,⟨(.some 39),(.Mc .true 3 2 (.t 38)),.none⟩,⟨(.some 40),(.load .true 2 (.t 39)),.none⟩,⟨(.some 41),(.Mc .false 0 1 (.t 4)),.none⟩,⟨(.some 42),(.load .false 1 (.t 41)),.none⟩,⟨(.some 43),(.Mc .false 2 1 (.t 4)),.none⟩,⟨(.some 44),(.load .false 1 (.t 43)),.none⟩] rfl rfl ?_;apply sG;simp only[go_sem,seval,w5,b5,ca,cf,av,af];refine RE.aC rfl rfl rfl rfl rfl (Aw p l[a].st.top l[a].st.LA ⟨by omega,by omega⟩ ⟨by omega,by omega⟩ ⟨by omega,by omega⟩ ⟨by omega,by omega⟩ _) ?_;refine RE.MB (n:=0) [] [20,22,24] [⟨(.some 46),(.nilCheck (.t 36)),.none⟩,⟨(.some 47),(.Mc .true 3 2 (.t 46)),.none⟩,⟨.none,(.store 2 (.t 47) (.t 45)),.none⟩] rfl rfl ?_;apply sG;simp only[go_sem,seval,w5,gn,ca,cf,av,af];have R7:=Qf.Ck w5 (eG p l[a].st.top l[a].st.LA);rw[<-TA]at R7;have r1:LP .i64 ((a:Int)+1):=au;have r2:LP .i64 ((a:Int)+l[a].size):=au;have w6:=ak (U:=Y5) (id:=iw) (o:=⟨182,7,[.agg [va,vf,vI s.LB,vI (eG p l[a].st.top l[a].st.LA).y,vI (eG p l[a].st.top l[a].st.LA).m,aM l,cA rs]]⟩);have hc:=Mz s1 _ _ R7 ZF;rw[<-q2,<-q3]at hc;generalize E' Y5 iw ⟨182,7,[.agg [va,vf,vI s.LB,vI (eG p l[a].st.top l[a].st.LA).y,vI (eG p l[a].st.top l[a].st.LA).m,aM l,cA rs]]⟩=Y6 at*;apply sR;simp only[go_sem,seval,w6,Lv,Nd.cells,r1,r2,ca,cf,av,af,ai];refine ab.call rfl rfl rfl hc ?_;rintro r Z7 ⟨rfl,TB⟩;have U2:=fX hD (a+(L0 l a).toNat-(a+1)) (a+1) (a+(L0 l a).toNat) s1 _ (Md _) (by omega) No XV ZF;have b7:=TB.sub _ _ (ak (id:=i4));rw[jD]at b7;generalize eD l rs (a+(L0 l a).toNat-(a+1)) (a+1) (a+(L0 l a).toNat) s1=s2 at*;obtain⟨va7,vf7,w7,g71,g72,_⟩:=TB.row;obtain⟨ZG,_⟩:=g71.vc;obtain⟨ZH,_⟩:=g72.vc;have m1:=U2.bd.m1;have m2:=U2.bd.m0;have m3:=U2.bd.y0;have m4:=U2.bd.yB;apply sR;simp only[go_sem,seval,gK];refine ab.uP (by kernel_rfl) [0,1,2,3,4,5,6,7,8,9,10,11,12] [[],[],[1],[1,2],[1,2,3],[],[5],[],[7],[1,2,3,4,5,6,7,8],[0,1,2,3,4,5,6,7,8,9],[0,1,2,3,4,5,6,7,8,9,10],[0,1,2,3,4,5,6,7,8,9,10,11]] [0,2,4,6,8,10,12,14,16,18,20,22,24] (by kernel_rfl) (by kernel_rfl) ?_;refine RE.MB (n:=0) [18,20,22,24] [0,2,4,6,8,10,12,14,16] [⟨(.some 62),(.Mb (.t 0)),.none⟩,⟨(.some 63),(.Mb (.t 0)),.none⟩,⟨(.some 64),(.nilCheck (.t 63)),.none⟩,⟨(.some 65),(.Mc .true 3 2 (.t 64)),.none⟩,⟨(.some 66),(.load .true 2 (.t 65)),.none⟩,⟨(.some 67),(.Mc .false 1 1 (.t 4)),.none⟩,⟨(.some 68),(.load .false 1 (.t 67)),.none⟩,⟨(.some 69),(.Mc .false 3 1 (.t 4)),.none⟩,⟨(.some 70),(.load .false 1 (.t 69)),.none⟩] rfl rfl ?_;apply sG;simp only[go_sem,seval,w7,b7,ZG,ZH,av,af];refine RE.aC rfl rfl rfl rfl rfl (Ai s2.LC l[a].st.LM l[a].st.Lt ⟨by omega,by omega⟩ ⟨by omega,by omega⟩ ⟨by omega,by omega⟩ ⟨by omega,by omega⟩ _) ?_;refine RE.MB (n:=0) [] [20,22,24] [⟨(.some 72),(.nilCheck (.t 62)),.none⟩,⟨(.some 73),(.Mc .true 3 2 (.t 72)),.none⟩,⟨.none,(.store 2 (.t 73) (.t 71)),.none⟩] rfl rfl ?_;apply sG;simp only[go_sem,seval,w7,gn,ZG,ZH,av,af];apply sR;simp only[go_sem,seval];exact⟨_,_,aa.refl _,Wk.refl (aa.refl _) _,rfl,(TB.Ck w7 (kQ s2.LC l[a].st.LM l[a].st.Lt)).narrow XY n4.symm⟩
open Go.Proofs Go.Proofs.Tryz
def Bf{l:List Nd}{rs:List Rm}{b e:Nat}(he:e<=l.length)(hr:cg l b e=true)(Lr:b<e)(s:WS):
 eD l rs (e-b) b e s=eD l rs (e-(b+(L0 l b).toNat)) (b+(L0 l b).toNat) e
  (if(LW l b).kind=1 then(eD l rs (b+(L0 l b).toNat-(b+1)) (b+1) (b+(L0 l b).toNat) (s.enter (LW l b).st)).leave (LW l b).st
   else if(LW l b).kind=2 then s.text rs b (LW l b)else if(LW l b).kind=3 then WS.mono l rs s b (LW l b)else s.float rs b (LW l b)):=by
 obtain⟨h1,h2⟩:=du he hr (Md b) Lr;obtain⟨h3,h4⟩:=ee he hr Lr;rw[show e-b=(e-b-1)+1 by omega,eD,aI Lr,my (e:=b+(L0 l b).toNat) (by omega) (e-b-1) _ _ _ (by omega) (Md _) h4,my he (e-b-1) _ _ _ (by omega) (Md _) h3]
def Gu{l:List Nd}{rs:List Rm}(hD:RF l rs)(Ub:∀n∈l,n.words.length<=10000){iw:Nat}:∀(m a e C:Nat),e-a<m->a<=e->e<=l.length->cg l a e=true->C+MF l a e<=50000->IX l rs iw a e C:=by
 intro m
 induction m with
 |zero=>intro a e C h;omega
 |succ m ih=>?_
 intro a e C hm P7 he XV hC s Z0 U hJ hI;have Tg:=hD.tc;refine e92.r (by simp[c92]) ?_;refine ab.mix 7 ?_;obtain⟨va0,vf0,w0,_,_,_⟩:=hJ.row;have Oc:∀f:FuncId,(V.bm f [.ptr iw 0 0]).cells=[.bm f [.ptr iw 0 0]]:=λ_=>rfl;have MR:∀f:FuncId,(V.bm f [.ptr iw 0 0]).stays=true:=λ_=>rfl;have Rg:V.MN.cells=[.MN]:=rfl;apply sR;simp only[go_sem,seval,c92,Oc,MR,Rg];refine ae λi6 Z6 s6 a6 f6=>?_;have n6:=ao w0 f6;simp only[go_sem,seval,a6,Oc,MR,Rg];generalize WZ:E' Z6 i6 _=Y6;have b6:Y6 i6=some ⟨219,5,[.agg [.MN,.bm 117 [.ptr iw 0 0],.bm 118 [.ptr iw 0 0],.bm 119 [.ptr iw 0 0],.bm 120 [.ptr iw 0 0]]]⟩:=by rw[<-WZ];exact ak
 have s6':aa U Y6:=by rw[<-WZ];exact s6.aG f6
 clear WZ;have XY:Z0 i6=none:=hJ.sub.none f6;have R7:=(hJ.mono s6').B3 b6 (by simp) (by simp) n6.symm;refine ab.loop (λq st=>∃(b:Nat) (s':WS),q=e-b/\a<=b/\b<=e/\cg l b e=true/\eD l rs (e-a) a e s=eD l rs (e-b) b e s'/\fv s' (C+MF l a b)/\
  NG l rs (E' Z0 i6 ⟨219,5,[.agg [.MN,.bm 117 [.ptr iw 0 0],.bm 118 [.ptr iw 0 0],.bm 119 [.ptr iw 0 0],.bm 120 [.ptr iw 0 0]]]⟩) iw s' st.U/\
  st.s 0=.ptr iw 0 0/\st.s 1=vI b/\st.s 2=vI e/\st.s 6=.ptr i6 0 0) (e-a) ?_ ?_
 .exact⟨a,s,rfl,Md _,P7,XV,rfl,by rw[DZ];exact hI,R7,rfl,rfl,rfl,rfl⟩
 .rintro q ⟨S,J⟩ ⟨b,s',rfl,Py,RZ,XW,heq,SG,VJ,t0,t1,t2,t6⟩;simp only at VJ t0 t1 t2 t6;refine ab.mix 7 ?_;by_cases Lr:b<e
  .have q1:((b:Int)<(e:Int))=True:=LH;obtain⟨h1,h2⟩:=du he XW (Md b) Lr;obtain⟨h3,h4⟩:=ee he XW Lr;have ME:b<l.length:=by omega
   have L7:=gm hD.Sq ME;have No:=kX ME;have Lv:=jV l ME;have RU:MF l a e=MF l a b+MF l b e:=kE Py RZ he;have SL:MF l b e=MF l b (b+(L0 l b).toNat)+MF l (b+(L0 l b).toNat) e:=kE (by omega) (by omega) he;have Nq:MF l b (b+(L0 l b).toNat)=4+(LW l b).words.length+MF l (b+1) (b+(L0 l b).toNat):=sL (by omega) (by omega);have Wt:MF l a (b+(L0 l b).toNat)=MF l a b+MF l b (b+(L0 l b).toNat):=kE Py (by omega) (by omega);have MS:=iQ ME;have q3:((b:Int)+l[b].size)=((b+(L0 l b).toNat:Nat):Int):=by rw[No];omega
   have r2:LP .i64 ((b:Int)+l[b].size):=au;have L8:=Bf (rs:=rs) he XW Lr s';rw[MS]at L8 Nq;have c6:=VJ.sub _ _ (ak (id:=i6));obtain⟨va,vf,w1,g1,g2,_⟩:=VJ.row;obtain⟨ca,_⟩:=g1.vc;obtain⟨cf,_⟩:=g2.vc;have hBb:=SG.bd.mono (C:=288230376151711744) (by omega);have L3:∀s2,s2=(if l[b].kind=1 then(eD l rs (b+(L0 l b).toNat-(b+1)) (b+1) (b+(L0 l b).toNat) (s'.enter l[b].st)).leave l[b].st
    else if l[b].kind=2 then s'.text rs b l[b]else if l[b].kind=3 then WS.mono l rs s' b l[b]else s'.float rs b l[b])->fv s2 (C+MF l a (b+(L0 l b).toNat)):=by
     rintro s2 rfl;rw[Wt,Nq];split
     .exact(jk (fX hD _ (b+1) (b+(L0 l b).toNat) _ _ (Md _) (by omega) (by omega) h4 (eY SG L7.st)) L7.st).more (by omega)
     .split
      .exact(kM SG L7 b).more (by omega)
      .split
       .exact(kH SG L7 b).more (by omega)
       .rename_i g1 g2 g3;exact(jF hD SG ME L7 (by have:=L7.kind;omega)).more (by omega)
   rcases L7.kind with hk|hk|hk|hk
   .apply sR;simp only[go_sem,seval,q1,t0,t1,t2,t6,w1,c6,Lv,Nd.cells,hk,ca,cf,Oc,MR,Rg,av,af,ai];refine ab.lu rfl rfl rfl (BM hD VJ SG (by omega) b ME (ih (b+1) (b+(L0 l b).toNat) _ (by omega) (by omega) (by omega) h4 (by omega)) (by omega) (by omega) h4 h2) ?_;rintro r Z' ⟨rfl,OH⟩;have W1:=OH.row;obtain⟨va2,vf2,w2,g12,g22,_⟩:=W1;obtain⟨W2,_⟩:=g12.vc;obtain⟨W3,_⟩:=g22.vc;apply sR;simp only[go_sem,seval,t0,t1,t2,t6,w2,Lv,Nd.cells,r2,W2,W3,av,af,ai];refine⟨_,?_,b+(L0 l b).toNat,_,rfl,by omega,by omega,h3,by rw[heq,L8],L3 _ rfl,?_,by simp[t0,t2,t6,q3]⟩
    .omega
    .simpa[hk]using OH
   .apply sR;simp only[go_sem,seval,q1,t0,t1,t2,t6,w1,c6,Lv,Nd.cells,hk,ca,cf,Oc,MR,Rg,av,af,ai];refine ab.lu rfl rfl rfl (D2 hD VJ hBb (by omega) b ME (by have:=SG.Mf;omega) (by have:=SG.fl;omega) (Ub _ (ML ME))) ?_;rintro r Z' ⟨rfl,OH⟩;have W1:=OH.row;obtain⟨va2,vf2,w2,g12,g22,_⟩:=W1;obtain⟨W2,_⟩:=g12.vc;obtain⟨W3,_⟩:=g22.vc;apply sR;simp only[go_sem,seval,t0,t1,t2,t6,w2,Lv,Nd.cells,r2,W2,W3,av,af,ai];refine⟨_,?_,b+(L0 l b).toNat,_,rfl,by omega,by omega,h3,by rw[heq,L8],L3 _ rfl,?_,by simp[t0,t2,t6,q3]⟩
    .omega
    .simpa[hk]using OH
   .apply sR;simp only[go_sem,seval,q1,t0,t1,t2,t6,w1,c6,Lv,Nd.cells,hk,ca,cf,Oc,MR,Rg,av,af,ai];refine ab.lu rfl rfl rfl (Fa hD VJ hBb (by omega) b ME hk (by have:=SG.Mf;omega) (by have:=SG.fl;omega)) ?_;rintro r Z' ⟨rfl,OH⟩;have W1:=OH.row;obtain⟨va2,vf2,w2,g12,g22,_⟩:=W1;obtain⟨W2,_⟩:=g12.vc;obtain⟨W3,_⟩:=g22.vc;apply sR;simp only[go_sem,seval,t0,t1,t2,t6,w2,Lv,Nd.cells,r2,W2,W3,av,af,ai];refine⟨_,?_,b+(L0 l b).toNat,_,rfl,by omega,by omega,h3,by rw[heq,L8],L3 _ rfl,?_,by simp[t0,t2,t6,q3]⟩
    .omega
    .simpa[hk]using OH
   .apply sR;simp only[go_sem,seval,q1,t0,t1,t2,t6,w1,c6,Lv,Nd.cells,hk,ca,cf,Oc,MR,Rg,av,af,ai];refine ab.lu rfl rfl rfl (Ca hD VJ hBb (by omega) b ME (by have:=SG.Mf;omega) (by have:=SG.fl;omega)) ?_;rintro r Z' ⟨rfl,OH⟩;have W1:=OH.row;obtain⟨va2,vf2,w2,g12,g22,_⟩:=W1;obtain⟨W2,_⟩:=g12.vc;obtain⟨W3,_⟩:=g22.vc;apply sR;simp only[go_sem,seval,t0,t1,t2,t6,w2,Lv,Nd.cells,r2,W2,W3,av,af,ai];refine⟨_,?_,b+(L0 l b).toNat,_,rfl,by omega,by omega,h3,by rw[heq,L8],L3 _ rfl,?_,by simp[t0,t2,t6,q3]⟩
    .omega
    .simpa[hk]using OH
  .have q1:((b:Int)<(e:Int))=False:=Ly;apply sR;simp only[go_sem,seval,q1,t0,t1,t2,t6];refine⟨_,_,aa.refl _,Wk.refl (aa.refl _) _,rfl,?_⟩;have hz:eD l rs (e-b) b e s'=s':=by rw[show e-b=0 by omega];rfl
   rw[heq,hz];exact VJ.narrow XY n6.symm
open Go.Proofs Go.Proofs.Tryz
def sN(n:Nat)(f:LV):LV:={ f with anchor:=max 0 (min f.anchor ((n:Int)-1)) }
def wU(s:WS):Int:=if(eg (lz 3) s.u').2 then max (s.LC.y+s.LC.m) (eg (lz 3) s.u').1 else s.LC.y+s.LC.m
def WS.fin(s:WS):WS:={ s with LB:=wU s,u':=s.u'.map (sN s.atoms.length) }
def gw(n j:Nat)(l:List LV):List LV:=(l.take j).map (sN n)++l.drop j
def mo(n j:Nat)(l:List LV):(gw n j l).length=l.length:=by unfold gw;simp;omega
def uD{n j:Nat}{l:List LV}(h:j<l.length):(gw n j l)[j]?=some l[j]:=by
 unfold gw;rw[IF (by simp;omega)];simp[h,Nat.min_eq_left (Nat.le_of_lt h)]
def ud{n j:Nat}{l:List LV}(h:j<l.length):(gw n j l).set j (sN n l[j])=gw n (j+1) l:=by
 unfold gw;have e1:((l.take j).map (sN n)).length=j:=by simp;omega
 have e2:l.drop j=l[j]::l.drop (j+1):=iY h;rw[List.set_append_right _ _ (by omega),e1,Nat.sub_self,e2,List.set_cons_zero,Ph h,gM];simp
def NG.FD{l:List Nd}{rs:List Rm}{Z0 J:ag}{iw:Nat}{s:WS}(hJ:NG l rs Z0 iw s J){va vf:V}{h0:Int}(w:J iw=some ⟨182,7,[.agg [va,vf,vI h0,vI s.LC.y,vI s.LC.m,aM l,cA rs]]⟩)(h:Int):
 NG l rs Z0 iw { s with LB:=h } (E' J iw ⟨182,7,[.agg [va,vf,vI h,vI s.LC.y,vI s.LC.m,aM l,cA rs]]⟩):=by
 obtain⟨va',vf',w',g1,g2,g3⟩:=hJ.row;rw[w]at w';simp only[aX,Ob.mk.injEq,List.cons.injEq,V.agg.injEq,true_and,and_true]at w';obtain⟨rfl,rfl,_⟩:=w';exact⟨hJ.sub.aG hJ.no,hJ.no,va,vf,ak,g1.yX,g2.yX,g3⟩
def HG{l:List Nd}{rs:List Rm}{Z0 U:ag}{iw:Nat}{s:WS}{C:Nat}(hJ:NG l rs Z0 iw s U)(hI:fv s C)(hC:C<=100000):
 aA prog 93 [.ptr iw 0 0] U λr Z'=>r=.LI []/\NG l rs Z0 iw s.fin Z':=by
 obtain⟨va,vf,w1,QN,PW,WX⟩:=hJ.row;obtain⟨ca,sa⟩:=QN.vc;obtain⟨cf,sf⟩:=PW.vc;have hB:=hI.bd;have hm:=hB.m1;have U0:=hB.m0;have SF:=hB.y0;have VI:=hB.yB;have XG:=hI.fl;have Q7:=hI.Mf;have OO:eK false va=some (.int .i64 s.atoms.length):=by rw[QN.len];simp
 have Un:eK false vf=some (.int .i64 s.u'.length):=by rw[PW.len];simp
 refine e93.r (by simp[c93]) ?_;refine ab.mix 5 ?_;apply sR;simp only[go_sem,seval,c93,w1,ca,cf,av,af];refine ab.aC rfl rfl rfl (Bp s.LC ⟨by omega,by omega⟩ ⟨by omega,by omega⟩ _) ?_;apply sR;simp only[go_sem,seval,w1,ca,cf,av,af];have Q8:=hJ.FD w1 (s.LC.y+s.LC.m);have w2:=ak (U:=U) (id:=iw) (o:=⟨182,7,[.agg [va,vf,vI (s.LC.y+s.LC.m),vI s.LC.y,vI s.LC.m,aM l,cA rs]]⟩);have XX:=PW.yX (o:=⟨182,7,[.agg [va,vf,vI (s.LC.y+s.LC.m),vI s.LC.y,vI s.LC.m,aM l,cA rs]]⟩);generalize E' U iw ⟨182,7,[.agg [va,vf,vI (s.LC.y+s.LC.m),vI s.LC.y,vI s.LC.m,aM l,cA rs]]⟩=Y2 at*;refine ab.aC rfl rfl rfl (bc.wE (args':=[bo s.u',vI 3]) ⟨XX.Cu.at,OI _,trivial⟩ (wF s.u' 3 (by omega) (hB.Um (by omega))) rfl) ?_;cases Sr:(eg (lz 3) s.u').2
 .have hh:wU s=s.LC.y+s.LC.m:=by unfold wU;rw[Sr];rfl
  apply sR;simp only[go_sem,seval,w2,ca,cf,Un,av,af];have RI:NG l rs Z0 iw { s with LB:=wU s } Y2:=by rw[hh];exact Q8
  refine ab.loop (λm st=>∃j:Nat,j<=s.u'.length/\m=s.u'.length-j/\NG l rs Z0 iw { s with LB:=wU s,u':=gw s.atoms.length j s.u' } st.U/\st.s 0=.ptr iw 0 0/\st.s 40=vI s.u'.length/\st.s 41=vI j) s.u'.length ?_ ?_
  .exact⟨0,by omega,rfl,by simpa[gw]using RI,rfl,rfl,rfl⟩
  .rintro m ⟨S,J⟩ ⟨j,hj,rfl,Nu,t0,t40,t41⟩;simp only at Nu t0 t40 t41;refine ab.mix 5 ?_;by_cases Lr:j<s.u'.length
   .have q:((j:Int)<s.u'.length)=True:=LH;obtain⟨ZI,vf4,w4,g1,g2,g3⟩:=Nu.row;simp only at w4 g1 g2 g3;obtain⟨ca4,_⟩:=g1.vc;have W4:eK false ZI=some (.int .i64 s.atoms.length):=by rw[g1.len];simp
    have QP:=mo s.atoms.length j s.u';rcases g2 with⟨_,h0⟩|⟨id,rfl,h2,h3⟩
    .exfalso;have:=congrArg List.length h0;rw[eU,QP]at this;simp only[List.length_nil]at this;omega
    have Nr:=uD (n:=s.atoms.length) Lr;have P6:=ud (n:=s.atoms.length) Lr;have QQ:((gw s.atoms.length j s.u').map dF)[j]?=some (dF s.u'[j]):=by rw[tq,Nr];rfl
    have QZ:((gw s.atoms.length j s.u').map dF).length=s.u'.length:=by rw[eU,QP]
    have Ls:∀n,n=s.u'.length->bN J 7 (.own id 0 n) (.int .i64 j)=some (.ptr id j 0):=λn hn=>by subst hn;rw[<-QZ];exact lk h2 (by rw[QZ];exact Lr)
    generalize hfj:s.u'[j]=f at*;have Ty:dF f=.agg [vI f.node,vI f.side,vI f.anchor,vI f.x,vI f.y,vI f.w,vI f.h]:=rfl;rw[Ty]at QQ;have r1:LP .i64 ((s.atoms.length:Int)-1):=au;have r2:LP .i64 ((j:Int)+1):=au;have cf4:(V.own id 0 s.u'.length).cells=[.own id 0 s.u'.length]:=rfl;rw[QZ]at w4;apply sR;simp only[go_sem,seval,t0,t40,t41,q,w4,ca4,cf4,W4,h2,Ls _ rfl,QQ,r1,r2,dd,gB,av,af];have LR:iw≠id:=(aW.1 h3).1.symm;have QR:=mo s.atoms.length (j+1) s.u';refine⟨_,by omega,j+1,by omega,rfl,⟨Nu.sub.aG (aW.1 h3).2,Nu.no,ZI,.own id 0 s.u'.length,by rw[ad LR];exact w4,?_,.inr ⟨id,by rw[eU,QR],?_,h3⟩,λh=>?_⟩,rfl⟩
    .rcases g1 with h|⟨i1,k1,k2,k3⟩
     .exact .inl h
     .have W5:i1≠id:=λe=>by rw[e,h2]at k2;simp at k2
      exact .inr ⟨i1,k1,by rw[ad W5];exact k2,k3⟩
    .rw[ak,<-P6,List.map_set];rfl
    .have:=congrArg List.length h;rw[QR]at this;simp only[List.length_nil]at this;omega
   .have q:((j:Int)<s.u'.length)=False:=Ly;apply sR;simp only[go_sem,seval,t0,t40,t41,q];refine⟨_,_,aa.refl _,Wk.refl (aa.refl _) _,rfl,?_⟩;have he:gw s.atoms.length j s.u'=s.u'.map (sN s.atoms.length):=by
     unfold gw;rw[pj (by omega),List.drop_of_length_le (by omega),kC]
    rw[he]at Nu;exact Nu
 .have hh:wU s=max (s.LC.y+s.LC.m) (eg (lz 3) s.u').1:=by unfold wU;rw[Sr];rfl
  generalize (eg (lz 3) s.u').1=low at*;apply sR;simp only[go_sem,seval,w2,ca,cf,Un,dd,av,af];have RI:=Q8.FD w2 (max (s.LC.y+s.LC.m) low);simp only at RI;rw[<-hh]at RI|-;refine ab.loop (λm st=>∃j:Nat,j<=s.u'.length/\m=s.u'.length-j/\NG l rs Z0 iw { s with LB:=wU s,u':=gw s.atoms.length j s.u' } st.U/\st.s 0=.ptr iw 0 0/\st.s 40=vI s.u'.length/\st.s 41=vI j) s.u'.length ?_ ?_
  .exact⟨0,by omega,rfl,by simpa[gw]using RI,rfl,rfl,rfl⟩
  .rintro m ⟨S,J⟩ ⟨j,hj,rfl,Nu,t0,t40,t41⟩;simp only at Nu t0 t40 t41;refine ab.mix 5 ?_;by_cases Lr:j<s.u'.length
   .have q:((j:Int)<s.u'.length)=True:=LH;obtain⟨ZI,vf4,w4,g1,g2,g3⟩:=Nu.row;simp only at w4 g1 g2 g3;obtain⟨ca4,_⟩:=g1.vc;have W4:eK false ZI=some (.int .i64 s.atoms.length):=by rw[g1.len];simp
    have QP:=mo s.atoms.length j s.u';rcases g2 with⟨_,h0⟩|⟨id,rfl,h2,h3⟩
    .exfalso;have:=congrArg List.length h0;rw[eU,QP]at this;simp only[List.length_nil]at this;omega
    have Nr:=uD (n:=s.atoms.length) Lr;have P6:=ud (n:=s.atoms.length) Lr;have QQ:((gw s.atoms.length j s.u').map dF)[j]?=some (dF s.u'[j]):=by rw[tq,Nr];rfl
    have QZ:((gw s.atoms.length j s.u').map dF).length=s.u'.length:=by rw[eU,QP]
    have Ls:∀n,n=s.u'.length->bN J 7 (.own id 0 n) (.int .i64 j)=some (.ptr id j 0):=λn hn=>by subst hn;rw[<-QZ];exact lk h2 (by rw[QZ];exact Lr)
    generalize hfj:s.u'[j]=f at*;have Ty:dF f=.agg [vI f.node,vI f.side,vI f.anchor,vI f.x,vI f.y,vI f.w,vI f.h]:=rfl;rw[Ty]at QQ;have r1:LP .i64 ((s.atoms.length:Int)-1):=au;have r2:LP .i64 ((j:Int)+1):=au;have cf4:(V.own id 0 s.u'.length).cells=[.own id 0 s.u'.length]:=rfl;rw[QZ]at w4;apply sR;simp only[go_sem,seval,t0,t40,t41,q,w4,ca4,cf4,W4,h2,Ls _ rfl,QQ,r1,r2,dd,gB,av,af];have LR:iw≠id:=(aW.1 h3).1.symm;have QR:=mo s.atoms.length (j+1) s.u';refine⟨_,by omega,j+1,by omega,rfl,⟨Nu.sub.aG (aW.1 h3).2,Nu.no,ZI,.own id 0 s.u'.length,by rw[ad LR];exact w4,?_,.inr ⟨id,by rw[eU,QR],?_,h3⟩,λh=>?_⟩,rfl⟩
    .rcases g1 with h|⟨i1,k1,k2,k3⟩
     .exact .inl h
     .have W5:i1≠id:=λe=>by rw[e,h2]at k2;simp at k2
      exact .inr ⟨i1,k1,by rw[ad W5];exact k2,k3⟩
    .rw[ak,<-P6,List.map_set];rfl
    .have:=congrArg List.length h;rw[QR]at this;simp only[List.length_nil]at this;omega
   .have q:((j:Int)<s.u'.length)=False:=Ly;apply sR;simp only[go_sem,seval,t0,t40,t41,q];refine⟨_,_,aa.refl _,Wk.refl (aa.refl _) _,rfl,?_⟩;have he:gw s.atoms.length j s.u'=s.u'.map (sN s.atoms.length):=by
     unfold gw;rw[pj (by omega),List.drop_of_length_le (by omega),kC]
    rw[he]at Nu;exact Nu
open Go.Proofs Go.Proofs.Tryz
structure Gal where
 atoms:List My
 u':List LV
 LB:Int
def CM(g:Gal):V:=.agg [bX g.atoms,bo g.u',vI g.LB]
def kj(l:List Nd)(w:Int):List Rm:=cW l l.length 0 l.length ⟨0,w⟩
def Ib(l:List Nd)(w:Int):WS:=(eD l (kj l w) l.length 0 l.length ⟨[],[],0,⟨0,0⟩⟩).fin
def cP(l:List Nd)(w:Int):Gal:=⟨(Ib l w).atoms,(Ib l w).u',(Ib l w).LB⟩
def pd{l:List Nd}(hb:Mj l=true):∀(k a e:Nat) (r:Rm),e<=l.length->cg l a e=true->r.ok->∀q∈cW l k a e r,q.ok
 |0,_,_,_,_,_,_,q,hq=>by simp[cW]at hq
 |k+1,a,e,r,he,hr,LS,q,hq=>by
  rw[cW]at hq;split at hq
  .rename_i Lr;obtain⟨h1,h2⟩:=du he hr (Md a) Lr;obtain⟨h3,h4⟩:=ee he hr Lr;rcases dI.1 hq with rfl|hq
   .exact LS
   .rcases fq.1 hq with hq|hq
    .obtain⟨g1,g2,_⟩:=Cn hb (a:=a) (by omega);exact pd hb k _ _ _ (by omega) h4 (tM LS (by rw[g1];exact g2)) q hq
    .exact pd hb k _ _ _ he h3 LS q hq
  .cases hq
def se{l:List Nd}(hb:Mj l=true)(hn:l.length<=2000){w:Int}(h1:1<=w)(h2:w<=1099511627776):RF l (kj l w):=by
 have hr:cg l 0 l.length=true:=by simp only[Mj,Ba]at hb;exact hb.2
 exact⟨hn,hb,by unfold kj;rw[k0 (Md _) _ _ _ (by omega) (by omega) hr];omega,pd hb _ _ _ _ (Md _) hr ⟨by simp,by simp,h1,h2⟩⟩
def GK(l:List Nd)(hl:dV l)(hb:Mj l=true)(hn:l.length<=2000)(Ub:∀n∈l,n.words.length<=10000)(hc:MF l 0 l.length<=50000)(VA:bc prog 53 [aM l] (vI 0))(w:Int)(h1:1<=w)(h2:w<=1099511627776):
 bc prog 57 [aM l,vI w] (.LI [CM (cP l w),vI 0]):=λU=>by
 refine e57.r (by simp[c57]) ?_;have hs:=aa.refl U;have hD:=se hb hn h1 h2;have hr:cg l 0 l.length=true:=by simp only[Mj,Ba]at hb;exact hb.2
 refine ab.mix 8 ?_;apply sR;simp only[go_sem,seval,c57];refine ae λi4 Z4 s4 a4 f4=>?_;have z4:=hs.none f4;replace hs:=hs.trans s4;have ZK:=pz w;rw[show decide (1<=w/\w<=1099511627776)=true by simp;omega]at ZK;simp only[go_sem,seval];refine ab.aC rfl rfl rfl (ZK _) ?_;have qz:((0:Int)≠0)=False:=Ly (λh=>h rfl);apply sR;simp only[go_sem,seval];refine ab.aC rfl rfl rfl (VA _) ?_;apply sR;simp only[go_sem,seval,qz];refine ab.aC rfl rfl rfl (ED l hl hb w h1 h2 _) ?_;have hrm:cW l l.length 0 l.length ⟨0,w⟩=kj l w:=rfl;rw[hrm];apply sR;simp only[go_sem,seval,af,aF,av,vN];refine ae λi23 Z23 s23 a23 f23=>?_;have hJ:NG l (kj l w) Z4 i23 ⟨[],[],0,⟨0,0⟩⟩ Z23:=⟨s23,f23,.bz,.bz,a23,aQ.start,aQ.start,λ_=>rfl⟩
 have hI:fv ⟨[],[],0,⟨0,0⟩⟩ 0:=⟨⟨by simp,by simp,by simp,by simp,by simp⟩,by simp,by simp⟩
 have hn0:=eX l;simp only[go_sem,seval,hn0];have Mz:=Gu hD Ub (l.length+1) 0 l.length 0 (by omega) (by omega) (Md _) hr (by omega) _ _ _ hJ hI;refine ab.call rfl rfl rfl Mz ?_;rintro r Z5 ⟨rfl,Qf⟩;have hI5:=fX hD (l.length-0) 0 l.length ⟨[],[],0,⟨0,0⟩⟩ 0 (by omega) (by omega) (Md _) hr hI;apply sR;simp only[go_sem,seval];refine ab.call rfl rfl rfl (HG Qf hI5 (by omega)) ?_;rintro r Z6 ⟨rfl,R7⟩;have hgl:cP l w=⟨(eD l (kj l w) (l.length-0) 0 l.length ⟨[],[],0,⟨0,0⟩⟩).fin.atoms,(eD l (kj l w) (l.length-0) 0 l.length ⟨[],[],0,⟨0,0⟩⟩).fin.u',(eD l (kj l w) (l.length-0) 0 l.length ⟨[],[],0,⟨0,0⟩⟩).fin.LB⟩:=rfl;rw[hgl];generalize (eD l (kj l w) (l.length-0) 0 l.length ⟨[],[],0,⟨0,0⟩⟩).fin=s at*;obtain⟨va,vf,w6,g1,g2,_⟩:=R7.row;obtain⟨ca,sa⟩:=g1.vc;obtain⟨cf,sf⟩:=g2.vc;have b4:=R7.sub _ _ a4;have n423:=ao a4 f23;apply sR;simp only[go_sem,seval,w6,b4,ca,sa,cf,sf,av,af,ad n423];have hK:aa U (bW Z4 i23):=λi o h=>by
  rw[bW,aJ (λe=>by rw[e,hs.none f23]at h;cases h)];exact hs _ _ h
 have key:∀{e sz:Nat} {v:V} {rows:List V} {o:Ob},aQ (bW Z4 i23) Z6 e sz v rows->aQ (bW Z4 i23) (E' Z6 i4 o) e sz v rows:=λ{e sz v rows o} h=>by
  rcases h with h|⟨id,k1,k2,k3⟩
  .exact .inl h
  .exact .inr ⟨id,k1,by rw[ad (λe=>by rw[e]at k3;rw[(aW.1 k3).2]at a4;cases a4)];exact k2,k3⟩
 have L3:∀o,aa U (E' Z6 i4 o):=λo=>(hs.trans R7.sub).aG z4;refine⟨_,U,L3 _,Wk.LI (vs':=[CM ⟨s.atoms,s.u',s.LB⟩,vI 0]) ⟨Wk.agg (vs':=[bX s.atoms,bo s.u',vI s.LB]) ⟨(key g1).wk hK (L3 _),(key g2).wk hK (L3 _),Wk.refl (L3 _) _,trivial⟩,Wk.refl (L3 _) _,trivial⟩,rfl,rfl⟩
open Go.Proofs Go.Proofs.Tryz
def tG(node:Int):List Int->Nat
 |[]=>0
 |x::r=>if x=node then tG node r+1 else 0
def F2(node:Int):∀l,tG node l<=l.length
 |[]=>by simp[tG]
 |x::r=>by
  rw[tG];split
  .have:=F2 node r;simp only[MM];omega
  .simp
def lh(of:List Int)(fr:Nat)(node:Int):Nat:=tG node (of.drop fr)
def uC(of:List Int)(fr:Nat)(node:Int):lh of fr node<=of.length-fr:=by
 have:=F2 node (of.drop fr);rw[Dc]at this;exact this
def Uo(x:Nd)(n:Nat):Bool:=if x.kind=2 then decide (1<=n/\n<=x.words.length)else if x.kind=3 then decide (n=1)else decide (n=0)
def xM(of:List Int):List Nd->Nat->Nat->Bool
 |[],_,Mf=>decide (Mf=of.length)
 |x::r,i,Mf=>Uo x (lh of Mf i)&&xM of r (i+1) (Mf+lh of Mf i)
def oS(l:List Nd)(of:List Int):Bool:=xM of l 0 0
def mQ(l:List Nd)(of:List Int):V:=.agg [aM l,bj of]
def l8(l:List Nd)(of:List Int):(mQ l of).cells=[aM l,bj of]:=rfl
def lB(l:List Nd)(of:List Int):(mQ l of).stays=true:=rfl
def EM(l:List Nd)(of:List Int)(hn:of.length<=1000000)(fr:Nat)(hf:fr<=of.length)(node:Int):bc prog 148 [mQ l of,vI fr,vI node] (vI (lh of fr node)):=λU=>by
 refine Lf.r (by simp[Gd]) ?_;have hs:=aa.refl U;have hl:=fC of;have htl:=uC of fr node;refine ab.mix 8 ?_;apply sR;simp only[go_sem,seval,Gd,l8,lB,af,ai,al,aF];refine ae λi3 Z3 s3 a3 f3=>?_;have z3:=hs.none f3;replace hs:=hs.trans s3;have W6:Z3 i3=some ⟨225,2,[.agg [aM l,bj of]]⟩:=a3;simp only[go_sem,seval];refine ab.loop (λm st=>∃j:Nat,fr+j<=of.length/\m=of.length-(fr+j)/\lh of fr node=j+tG node (of.drop (fr+j))/\st.U=Z3/\st.s 1=vI fr/\st.s 2=vI node/\st.s 3=.ptr i3 0 0/\st.s 7=vI j) (of.length-fr) ?_ ?_
 .exact⟨0,by omega,by omega,by simp[lh],rfl,rfl,rfl,rfl,rfl⟩
 .rintro m ⟨S,J⟩ ⟨j,hj,rfl,ht,L6,t1,t2,t3,t7⟩;simp only at L6 t1 t2 t3 t7;subst L6;refine ab.mix 8 ?_;have VK:(fr:Int)+(j:Int)=((fr+j:Nat):Int):=by omega
  have r1:LP .i64 ((fr:Int)+j):=au;have r2:LP .i64 ((j:Int)+1):=au;by_cases Lr:fr+j<of.length
  .have q:(((fr+j:Nat):Int)<of.length)=True:=LH;have Lv:=λU=>iH (U:=U) Lr;rw[iY Lr,tG]at ht;generalize of[fr+j]=x at*;rw[VK]at r1;by_cases hx:x=node
   .rw[aI hx]at ht;have q2:(x=node)=True:=LH hx;apply sR;simp only[go_sem,seval,t1,t2,t3,t7,W6,hl,VK,q,q2,Lv,r1,r2,af,ai];exact⟨_,by omega,j+1,by omega,rfl,by rw[ht,show fr+(j+1)=fr+j+1 by omega];omega,by simp[t1,t2,t3]⟩
   .rw[aJ hx]at ht;have q2:(x=node)=False:=Ly hx;apply sR;simp only[go_sem,seval,t1,t2,t3,t7,W6,hl,VK,q,q2,Lv,r1,r2,af,ai];exact aE.pure hs (by rw[ht];simp)
  .have q:(((fr+j:Nat):Int)<of.length)=False:=Ly;rw[List.drop_of_length_le (by omega),tG]at ht;rw[VK]at r1;apply sR;simp only[go_sem,seval,t1,t2,t3,t7,W6,hl,VK,q,r1,r2,af,ai];exact aE.pure hs (by rw[ht];simp)
def IJ(l:List Nd)(XZ:l.length<=100000)(of:List Int)(hn:of.length<=1000000)(hm:oS l of=true):bc prog 123 [mQ l of] (.bool true):=λU=>by
 refine KM.r (by simp[GU]) ?_;have hs:=aa.refl U;have hl:=fC of;have OC:=eX l;refine ab.mix 7 ?_;apply sR;simp only[go_sem,seval,GU,l8,lB,af,ai,al,aF];refine ae λi1 Z1 s1 a1 f1=>?_;have z1:=hs.none f1;replace hs:=hs.trans s1;have a1':Z1 i1=some ⟨225,2,[.agg [aM l,bj of]]⟩:=a1;simp only[go_sem,seval,a1',OC,af,ai];refine ab.loop (λm st=>∃(i Mf:Nat),i<=l.length/\m=l.length-i/\Mf<=of.length/\xM of (l.drop i) i Mf=true/\aa Z1 st.U/\st.s 1=.ptr i1 0 0/\st.s 3=vI Mf/\st.s 8=aM l/\st.s 9=vI l.length/\st.s 10=vI i) l.length ?_ ?_
 .exact⟨0,0,by omega,rfl,by omega,by simpa[oS]using hm,aa.refl _,rfl,rfl,rfl,rfl,rfl⟩
 .rintro m ⟨S,J⟩ ⟨i,Mf,hi,rfl,Ow,Qj,G',t1,t3,t8,t9,t10⟩;simp only at G' t1 t3 t8 t9 t10;refine ab.mix 7 ?_;have b1:=G' _ _ a1';by_cases Lr:i<l.length
  .have q:((i:Int)<l.length)=True:=LH;have Lv:=jV l Lr;rw[iY Lr,xM,Ba]at Qj;obtain⟨LS,Qj⟩:=Qj;have htl:=uC of Mf i;have htc:=EM l of hn Mf Ow i;generalize lh of Mf i=n at*;generalize l[i]=x at*;apply sR;simp only[go_sem,seval,t1,t3,t8,t9,t10,q,Lv,Nd.cells];refine ae λi5 Z5 s5 a5 f5=>?_;have c1:=s5 _ _ b1;have n15:=ao b1 f5;simp only[go_sem,seval,a5,c1,t1,t3,t8,t9,t10,ad n15,af,ai,al];refine ab.aC rfl rfl rfl (htc _) ?_;have Ub:eK false (bj x.words)=some (.int .i64 x.words.length):=fC _;have r1:LP .i64 ((i:Int)+1):=au;have r2:LP .i64 ((Mf:Int)+n):=au;have q5:((Mf:Int)+n)=((Mf+n:Nat):Int):=by omega
   rw[q5]at r2;unfold Uo at LS;by_cases k2:x.kind=2
   .rw[aI k2]at LS;simp only[NV]at LS;have p1:((n:Int)<1)=False:=Ly;have p2:((n:Int)>x.words.length)=False:=Ly;have p0:(x.kind=2)=True:=LH k2;apply sR;simp only[go_sem,seval,t1,t3,t8,t9,t10,c1,ad n15,p0,p1,p2,Ub,r1,r2,q5,ai,al];exact⟨_,by omega,i+1,Mf+n,by omega,rfl,by omega,Qj,G'.trans (s5.aG f5),by simp[t1,t8,t9]⟩
   .rw[aJ k2]at LS;have p0:(x.kind=2)=False:=Ly k2;by_cases k3:x.kind=3
    .rw[aI k3]at LS;simp only[NV]at LS;have p3:(x.kind=3)=True:=LH k3;have p1:((n:Int)≠1)=False:=Ly;apply sR;simp only[go_sem,seval,t1,t3,t8,t9,t10,c1,ad n15,p0,p3,p1,r1,r2,q5,ai,al];exact⟨_,by omega,i+1,Mf+n,by omega,rfl,by omega,Qj,G'.trans (s5.aG f5),by simp[t1,t8,t9]⟩
    .rw[aJ k3]at LS;simp only[NV]at LS;have p3:(x.kind=3)=False:=Ly k3;have p1:((n:Int)>0)=False:=Ly;apply sR;simp only[go_sem,seval,t1,t3,t8,t9,t10,c1,ad n15,p0,p3,p1,r1,r2,q5,ai,al];exact⟨_,by omega,i+1,Mf+n,by omega,rfl,by omega,Qj,G'.trans (s5.aG f5),by simp[t1,t8,t9]⟩
  .have q:((i:Int)<l.length)=False:=Ly;rw[List.drop_of_length_le (by omega),xM,NV]at Qj;have q2:((Mf:Int)=of.length)=True:=LH;apply sR;simp only[go_sem,seval,t1,t3,t8,t9,t10,q,b1,hl,q2,af,ai];exact aE.pure (hs.trans G') rfl
def og(l:List Nd)(hf:dV l)(hb:Mj l=true)(of:List Int)(hn:of.length<=1000000)(hm:oS l of=true):bc prog 94 [aM l,bj of] (vI 0):=λU=>by
 refine e94.r (by simp[c94]) ?_;have hv:=Av l hf;rw[hb]at hv;have Vt:=hf.1;refine ab.mix 5 ?_;apply sR;simp only[go_sem,seval,c94];refine ab.aC rfl rfl rfl (hv _) ?_;apply sR;simp only[go_sem,seval,af,ai,al,aF];refine ab.aC rfl rfl rfl (IJ l (by omega) of hn hm _) ?_;apply sR;simp only[go_sem,seval];exact aE.same rfl
open Go.Proofs Go.Proofs.Tryz
def vG(l:List Nd)(a b:Int):Bool:=decide (a<=b/\b<a+L0 l a.toNat)
def BK(l:List Nd)(hb:Mj l=true)(hn:l.length<=100000)(a:Nat)(ha:a<l.length)(b:Int)(h0:0<=b)(h1:b<=1000000):bc prog 191 [aM l,vI a,vI b] (.bool (vG l a b)):=λU=>by
 refine KG.r (by simp[E5]) ?_;have Lv:=jV l ha;have No:=kX ha;have hsb:=pr hb ha;refine ab.mix 7 ?_;unfold vG;rw[gX,No];rw[No]at hsb;by_cases h:(a:Int)<=b
 .have q:((a:Int)<=b)=True:=LH h;have r1:LP .i64 ((a:Int)+l[a].size):=au;apply sR;simp only[go_sem,seval,E5,q,Lv,Nd.cells,r1];exact aE.same (by simp[h])
 .have q:((a:Int)<=b)=False:=Ly h;apply sR;simp only[go_sem,seval,E5,q];exact aE.same (by simp[h])
def Qp(l:List Nd)(of:List Int)(b k:Int):Bool:=if 0<=k/\k<of.length then vG l b (of.getD k.toNat 0)else false
def zz(l:List Nd)(hb:Mj l=true)(hn:l.length<=100000)(of:List Int)(Mx:of.length<=1000000)(MY:∀x∈of,0<=x/\x<l.length)(b:Nat)(ME:b<l.length)(k:Int){U:ag}{i4 i9:Nat}(h4:U i4=some ⟨23,1,[bj of]⟩)(h9:U i9=some ⟨225,2,[mQ l of]⟩):
 aA prog 190 [vI b,vI k,.ptr i4 0 0,.ptr i9 0 0] U λr Z'=>r=.bool (Qp l of b k)/\Z'=U:=by
 refine Kz.r (by simp[DK]) ?_;have hl:=fC of;rw[mQ]at h9;refine ab.mix 7 ?_;unfold Qp;by_cases OW:0<=k
 .have q0:(k>=0)=True:=LH OW;obtain⟨j,rfl⟩:∃j:Nat,k=j:=⟨k.toNat,by omega⟩
  by_cases Nf:(j:Int)<of.length
  .have q1:((j:Int)<of.length)=True:=LH Nf;have Oq:j<of.length:=by omega
   have Lv:=λU=>iH (U:=U) Oq;have hx:=MY _ (ML Oq);have Qu:of.getD j 0=of[j]:=by simp[Oq]
   rw[aI ⟨OW,Nf⟩,gX,Qu];apply sR;simp only[go_sem,seval,DK,q0,q1,h4,h9,hl,Lv,af,ai];refine Go.cN rfl rfl rfl (BK l hb hn b ME of[j] hx.1 (by omega)) ?_;apply sG;simp only[go_sem,seval];exact aE.same rfl
  .have q1:((j:Int)<of.length)=False:=Ly Nf;rw[aJ (λh=>Nf h.2)];apply sR;simp only[go_sem,seval,DK,q0,q1,h4,h9,hl,af,ai];exact aE.same rfl
 .have q0:(k>=0)=False:=Ly OW;rw[aJ (λh=>OW h.1)];apply sR;simp only[go_sem,seval,DK,q0];exact aE.same rfl
structure za(l:List Nd)(of:List Int)(k:Int)(i4 i5 i9 Ma:Nat)(U:ag):Prop where
 r4:U i4=some ⟨23,1,[bj of]⟩
 r5:U i5=some ⟨3,1,[vI k]⟩
 r9:U i9=some ⟨225,2,[mQ l of]⟩
 Qo:U Ma=some ⟨201,1,[.fn 190 [.ptr i4 0 0,.ptr i9 0 0]]⟩
def za.mono{l:List Nd}{of:List Int}{k:Int}{i4 i5 i9 Ma:Nat}{U J:ag}(h:za l of k i4 i5 i9 Ma U)(hs:aa U J):za l of k i4 i5 i9 Ma J:=⟨hs _ _ h.r4,hs _ _ h.r5,hs _ _ h.r9,hs _ _ h.Qo⟩
def Gm(l:List Nd)(hb:Mj l=true)(hn:l.length<=100000)(of:List Int)(Mx:of.length<=1000000)(MY:∀x∈of,0<=x/\x<l.length)(b:Nat)(ME:b<l.length)(k:Int){U:ag}{i4 i5 i9 Ma:Nat}(h:za l of k i4 i5 i9 Ma U):
 aA prog 193 [vI b,.ptr Ma 0 0,.ptr i5 0 0] U λr Z'=>r=.bool (!Qp l of b k)/\Z'=U:=by
 refine JU.r (by simp[GB]) ?_;have r5:=h.r5;have Qo:=h.Qo;refine ab.mix 5 ?_;apply sR;simp only[go_sem,seval,GB,r5,Qo];refine ab.aC rfl rfl rfl (zz l hb hn of Mx MY b ME k h.r4 h.r9) ?_;apply sR;simp only[go_sem,seval];exact aE.same rfl
def Hx(l:List Nd)(hb:Mj l=true)(hn:l.length<=100000)(of:List Int)(Mx:of.length<=1000000)(MY:∀x∈of,0<=x/\x<l.length)(b:Nat)(ME:b<l.length)(k:Int)(OW:0<=k)(Nf:k<=1000000){U:ag}{i4 i5 i9 Ma:Nat}(h:za l of k i4 i5 i9 Ma U):
 aA prog 194 [vI b,.ptr Ma 0 0,.ptr i5 0 0] U λr Z'=>r=.bool (!Qp l of b (k-1))/\Z'=U:=by
 refine KQ.r (by simp[GR]) ?_;have r5:=h.r5;have Qo:=h.Qo;have r1:LP .i64 (k-1):=au;refine ab.mix 5 ?_;apply sR;simp only[go_sem,seval,GR,r5,Qo,r1];refine ab.aC rfl rfl rfl (zz l hb hn of Mx MY b ME (k-1) h.r4 h.r9) ?_;apply sR;simp only[go_sem,seval];exact aE.same rfl
def Gk(l:List Nd)(hb:Mj l=true)(hn:l.length<=100000)(of:List Int)(Mx:of.length<=1000000)(MY:∀x∈of,0<=x/\x<l.length)(b:Nat)(ME:b<l.length)(k:Int)(OW:0<=k)(Nf:k<=1000000){U:ag}{i4 i5 i9 Ma:Nat}(h:za l of k i4 i5 i9 Ma U):
 aA prog 196 [vI b,.ptr Ma 0 0,.ptr i5 0 0] U λr Z'=>r=.bool (Qp l of b (k-1))/\Z'=U:=by
 refine KN.r (by simp[GH]) ?_;have r5:=h.r5;have Qo:=h.Qo;have r1:LP .i64 (k-1):=au;refine ab.mix 5 ?_;apply sR;simp only[go_sem,seval,GH,r5,Qo,r1];refine ab.aC rfl rfl rfl (zz l hb hn of Mx MY b ME (k-1) h.r4 h.r9) ?_;apply sR;simp only[go_sem,seval];exact aE.same rfl
def wW(l:List Nd)(hl:dV l)(hb:Mj l=true)(hn:l.length<=100000)(a:Nat)(ha:a<l.length):Iter prog 213 [.rp (aM l),.rp (vI a)] ((PH l a).map λn=>[vI n]):=by
 refine⟨Je.c,λL9 τ Jx Z0 hy hJ=>?_⟩;refine(Je.r (by simp[Gx]) ?_).2;have Py:=vT l hl hb hn a ha;have Q7:=jh l (l.length+1) (eQ l a);have e0:(PH l a).length<=l.length+1:=Q7;have hlen:=fC (PH l a);generalize PH l a=L at*;have ldA:∀U,cJ U false 1 (.rp (aM l))=some (aM l):=λU=>rfl;have ldB:∀U (n:Int),cJ U false 1 (.rp (vI n))=some (vI n):=λU n=>rfl;refine ab.mix 6 ?_;apply sR;simp only[go_sem,seval,Gx,ldA,ldB];refine ab.aC rfl rfl rfl (Py _) ?_;apply sR;simp only[go_sem,seval,hlen];refine ab.loop (λm st=>∃(j:Nat) (ZJ:ag),j<=L.length/\m=L.length-j/\τ ((L.take j).map λn=>[vI n]) ZJ/\aa ZJ st.U/\st.s 0=.yl L9/\st.s 8=bj L/\st.s 9=vI L.length/\st.s 10=vI j) L.length ?_ ?_
 .exact⟨0,Z0,by omega,rfl,by simpa using hJ,aa.refl _,rfl,rfl,rfl,rfl⟩
 .rintro m ⟨S,J⟩ ⟨j,ZJ,hj,rfl,Nu,G',t0,t8,t9,t10⟩;simp only at G' t0 t8 t9 t10;refine ab.mix 6 ?_;by_cases Lr:j<L.length
  .have q:((j:Int)<L.length)=True:=LH;have Lv:=λU=>iH (U:=U) Lr;have Mv:L.take (j+1)=L.take j++[L[j]]:=Ph Lr;have e:(L.map λn=>[vI n])=((L.take j).map λn=>[vI n])++[vI L[j]]::((L.drop (j+1)).map λn=>[vI n]):=by
    have ZL:L=L.take j++L[j]::L.drop (j+1):=by rw[<-iY Lr,yK]
    have:=congrArg (List.map λn=>[vI n]) ZL
    rwa [gM,fb]at this
   generalize L[j]=x at*;have r1:LP .i64 ((j:Int)+1):=au;apply sR;simp only[go_sem,seval,t0,t8,t9,t10,q,Lv];refine ab.oK (Post:=λb Z2=>∃L',bB ZJ J L' Z2/\((b=true/\τ (((L.take j).map λn=>[vI n])++[[vI x]]) L')\/(b=false/\Jx (((L.take j).map λn=>[vI n])++[[vI x]]) L'))) rfl rfl rfl (hy _ [vI x] _ ZJ J e Nu G') ?_;rintro b Z2 ⟨L',Nv,Nh⟩;rcases Nh with⟨rfl,Nh⟩|⟨rfl,Nh⟩
   .apply sR;simp only[go_sem,seval,t0,t8,t9,t10,r1];refine⟨_,?_,j+1,L',by omega,rfl,by rw[Mv];simpa using Nh,Nv.1,by simp[t0,t8,t9]⟩;omega
   .apply sR;simp only[go_sem,seval,t0];refine⟨_,L',Nv.1,Wk.refl Nv.1 _,.inr ⟨_,?_,Nh⟩⟩;rw[e];exact⟨(L.drop (j+1)).map λn=>[vI n],by simp⟩
  .have q:((j:Int)<L.length)=False:=Ly;rw[pj (by omega)]at Nu;apply sR;simp only[go_sem,seval,t0,t8,t9,t10,q];exact⟨_,ZJ,G',Wk.refl G' _,.inl Nu⟩
def Co(l:List Nd)(a:Int):bc prog 208 [aM l,vI a] (.fn 213 [.rp (aM l),.rp (vI a)]):=λU=>by
 refine JZ.r (by simp[Gz]) ?_;refine ab.mix 4 ?_;have q1:=af l;have q2:=aF l;generalize aM l=x at*;apply sR;simp only[go_sem,seval,Gz,q1,q2];refine ae λOv Z1 s1 a1 f1=>?_;simp only[go_sem,seval];refine ae λPC Z2 s2 a2 f2=>?_;simp only[go_sem,seval];exact⟨_,U,s1.trans s2,Wk.fn (vs':=[.rp x,.rp (vI a)]) ⟨Wk.ptr (s1.trans s2) (s2 _ _ a1) f1,Wk.ptr (s1.trans s2) a2 (s1.none f2),trivial⟩,rfl,rfl⟩
open Go.Proofs Go.Proofs.Tryz
def Pd(l:List Nd)(of:List Int)(k:Int)(p:Int->Bool):List Int:=if 0<=k/\k<of.length then(PH l (of.getD k.toNat 0).toNat).filter p else[]
def vx{l:List Nd}{a:Nat}(ha:a<l.length):∀x∈PH l a,∃n:Nat,x=n/\n<a:=λx hx=>by
 have:=Cd l _ _ x hx;have h2:=fI l a;exact⟨x.toNat,by omega,by omega⟩
def px{p:Int->Bool}{L:List Int}{j:Nat}{x:Int}(h:L[j]?=some x):(L.take (j+1)).filter p=(L.take j).filter p++if p x then[x]else[]:=by
 rw[GG,h,List.filter_append];cases hp:p x<;>simp[hp]
def rm(l:List Nd)(hl:dV l)(hb:Mj l=true)(hn:l.length<=100000)(of:List Int)(Mx:of.length<=1000000)(MY:∀x∈of,0<=x/\x<l.length)(k:Int)(g:FuncId)(caps:List V)(p:Int->Bool){U:ag}
 (hg:∀b:Nat,b<l.length->∀J,aa U J->aA prog g (vI b::caps) J λr Z'=>r=.bool (p b)/\Z'=J):
 aA prog 192 [mQ l of,vI k,.fn g caps] U λr Z'=>aa U Z'/\aQ U Z' 3 1 r ((Pd l of k p).map vI)/\(Pd l of k p=[]->r=.bz):=by
 refine JX.r (by simp[Ik]) ?_;have hs:=aa.refl U;have Ok:=fC of;refine ab.mix 9 ?_;apply sR;simp only[go_sem,seval,Ik,l8,lB,af,ai,al,aF];refine ae λi3 Z3 s3 a3 f3=>?_;have z3:=hs.none f3;replace hs:=hs.trans s3;simp only[go_sem,seval];refine ae λi5 Z5 s5 a5 f5=>?_;have Q2:=ao a3 f5;replace a3:=s5 _ _ a3;have z5:=hs.none f5;replace hs:=hs.trans s5;have W6:Z5 i3=some ⟨225,2,[.agg [aM l,bj of]]⟩:=a3;by_cases OW:k<0
 .have q0:(k<0)=True:=LH OW;have hc:Pd l of k p=[]:=by unfold Pd;rw[aJ (by omega)]
  simp only[go_sem,seval,q0];rw[hc];exact⟨_,_,aa.refl _,Wk.refl (aa.refl _) _,hs,aQ.start,λ_=>rfl⟩
 have q0:(k<0)=False:=Ly OW;obtain⟨j,rfl⟩:∃j:Nat,k=j:=⟨k.toNat,by omega⟩
 by_cases Nf:(j:Int)>=of.length
 .have q1:((j:Int)>=of.length)=True:=LH Nf;have hc:Pd l of j p=[]:=by unfold Pd;rw[aJ (by omega)]
  simp only[go_sem,seval,q0,W6,Ok,q1,af,ai];rw[hc];exact⟨_,_,aa.refl _,Wk.refl (aa.refl _) _,hs,aQ.start,λ_=>rfl⟩
 have q1:((j:Int)>=of.length)=False:=Ly Nf;have Oq:j<of.length:=by omega
 have Lv:=λU=>iH (U:=U) Oq;obtain⟨hx0,hx1⟩:=MY _ (ML Oq);have Qu:of.getD j 0=of[j]:=by simp[Oq]
 have hc:Pd l of j p=(PH l of[j].toNat).filter p:=by unfold Pd;rw[aI ⟨by omega,by omega⟩,gX,Qu]
 rw[hc];simp only[go_sem,seval,q0,W6,Ok,q1,af,ai];refine ae λi7 Z7 s7 a7 f7=>?_;have b3:=s7 _ _ W6;have b5:=s7 _ _ a5;simp only[go_sem,seval,b3,Lv,af,ai];obtain⟨x,hx⟩:∃x:Nat,of[j]=x:=⟨of[j].toNat,by omega⟩
 rw[hx]at hx1|-;refine ab.aC rfl rfl rfl (Co l x _) ?_;have Ql:=wW l hl hb hn x (by omega);have T':=vx (l:=l) (a:=x) (by omega);have hlL:(PH l x).length<=l.length+1:=jh _ _ _;rw[gX];generalize PH l x=L at*;apply sR;simp only[go_sem,seval];generalize hS:mix 9 _ _=S;have S5:S 5=.ptr i5 0 0:=by rw[<-hS];rfl
 have S7:S 7=.ptr i7 0 0:=by rw[<-hS];rfl
 have S25:S 25=.fn 213 [.rp (aM l),.rp (vI x)]:=by rw[<-hS];rfl
 clear hS;refine ab.fK (g:=.t 25) (caps:=[.rp (aM l),.rp (vI x)]) S25 Ql (λy hy=>?_) [] (λpre ZJ=>∃v,ZJ i7=some ⟨23,1,[v]⟩/\aa Z5 ZJ/\aQ (bW Z5 i7) ZJ 3 1 v (((L.take pre.length).filter p).map vI)/\((L.take pre.length).filter p=[]->v=.bz))
  (λ_ _ _=>False) ?_ ?_ ?_ ?_ ?_
 .obtain⟨t,_,rfl⟩:=gO.1 hy;rfl
 .exact⟨.bz,a7,s7,by simpa using aQ.start,λ_=>rfl⟩
 .rintro pre y post ZJ ZB N1 ⟨v,J7,Js,Jo,Jn⟩ G';obtain⟨t,VF,rfl⟩:=vm (f:=vI) N1;obtain⟨tn,rfl,htn⟩:=T' t (Cp VF);have Mv:=px (p:=p) VF;have hlen:(pre++[[vI (tn:Int)]]).length=pre.length+1:=by simp
  rw[hlen,Mv];have NO:(((L.take pre.length).filter p).map vI).length<=1000001:=by
   rw[eU];have:=List.length_filter_le p (L.take pre.length);rw[nB]at this;omega
  have PG:v.cells=[v]:=by rcases Jo with⟨rfl,_⟩|⟨_,rfl,_⟩<;>rfl
  generalize Mh:(((L.take pre.length).filter p).map vI)=rows at*;have c7:=G' _ _ J7;have c5:=G' _ _ (Js _ _ a5);generalize NN:nj S [26] [vI (tn:Int)]=S0;have T5:S0 5=.ptr i5 0 0:=by rw[<-NN];exact S5
  have T7:S0 7=.ptr i7 0 0:=by rw[<-NN];exact S7
  have T26:S0 26=vI (tn:Int):=by rw[<-NN];rfl
  clear NN;refine ab.mix 9 ?_;apply sR;simp only[go_sem,seval,T5,T7,T26];apply sR;simp only[go_sem,seval,T5,T7,T26,c5];refine ab.aC rfl rfl rfl (hg tn (by omega) _ ((hs.trans Js).trans G')) ?_;cases hp:p (tn:Int)
  .apply sR;simp only[go_sem,seval];refine⟨_,bB.refl G',v,J7,Js,?_,by simpa using Jn⟩;simpa[Mh]using Jo
  .apply sR;simp only[go_sem,seval,T5,T7,T26,c7,PG];rw[aN];intro Ot f28;have QL:=(bB.refl G').Er (o:=⟨3,1,[vI (tn:Int)]⟩) f28;have y2:E' ZB Ot ⟨3,1,[vI (tn:Int)]⟩ i7=some ⟨23,1,[v]⟩:=by rw[ad (ao c7 f28)];exact c7
   have a28:E' ZB Ot ⟨3,1,[vI (tn:Int)]⟩ Ot=some ⟨3,1,[vI (tn:Int)]⟩:=ak;generalize E' ZB Ot ⟨3,1,[vI (tn:Int)]⟩=Z8 at*;obtain⟨LQ,NF,Qk⟩:=Jo.D7 QL.1;have MR:(rows.length+1)*9<=140737488355328:=by omega
   have k2:bW Z5 i7 i7≠none:=λh=>(aW.1 h).1 rfl;have Q6:∀(i:Nat) (Zx:ag),bW Z5 i7 i≠none->Vc.bT Zx LQ i=Zx i:=λi Zx hk=>by
    cases LQ with
    |none=>rfl
    |some a=>exact eT (λe=>hk (by rw[e];exact(Qk a rfl).1))
   simp only[go_sem,seval,NF,fm a28,MR,T7];rw[aN];intro M6 f29;have f29:Z8 M6=none:=f29;have R3:i7≠M6:=ao y2 f29;have Tw:Vc.bT Z8 LQ M6=none:=by
    cases LQ with
    |none=>exact f29
    |some a=>simp only[Vc.bT,del];split<;>first|rfl|exact f29
   have Zt:E' (Vc.bT Z8 LQ) M6 ⟨3,1,rows++[vI (tn:Int)]⟩ i7=some ⟨23,1,[v]⟩:=by rw[ad R3,Q6 _ _ k2];exact y2
   have Zu:=((QL.Gc (e:=LQ) λi h=>(Qk i h).2).new (o:=⟨3,1,rows++[vI (tn:Int)]⟩) Tw).set (id:=i7) (o:=⟨23,1,[v]⟩) (o':=⟨23,1,[.own M6 0 (rows.length+1)]⟩) (by rw[ad R3,Q6 _ _ k2];exact J7);simp only[go_sem,seval,PG,Zt,T7];refine⟨_,Zu,.own M6 0 (rows.length+1),ak,?_,?_,λh=>by simp at h⟩
   .refine aa.aG (λi o h=>?_) f7;have h1:=Js _ _ h;rw[ad (ao (QL.1 _ _ h1) f29),Q6 _ _ (λhk=>by rw[(aW.1 hk).2]at h;cases h)];exact h1
   .rw[gM,Mh];refine aQ.new (by simp) (by rw[ad R3.symm,ak];rfl) ?_;rw[aW];refine⟨R3.symm,?_⟩;cases h:Z5 M6 with
    |none=>rfl
    |some o=>rw[QL.1 _ _ (Js _ _ h)]at f29;cases f29
 .rintro Z' ⟨v,J7,Js,Jo,Jn⟩;rw[eU,kP]at Jo Jn;have PG:v.cells=[v]:=by rcases Jo with⟨rfl,_⟩|⟨_,rfl,_⟩<;>rfl
  refine ab.mix 9 ?_;apply sR;simp only[go_sem,seval,S7,J7,PG];refine⟨_,_,aa.refl _,Wk.refl (aa.refl _) _,hs.trans Js,?_,Jn⟩;rcases Jo with h|⟨id,h1,h2,h3⟩
  .exact .inl h
  .exact .inr ⟨id,h1,h2,hs.none (aW.1 h3).2⟩
 .intro id h;cases h
 .rintro pre Z' _ ⟨⟩
open Go.Proofs Go.Proofs.Tryz
def swp(L:List Int)(i j:Nat):List Int:=(L.set i (L.getD j 0)).set j (L.getD i 0)
def jJ(L:List Int):Nat->List Int
 |0=>L
 |t+1=>swp (jJ L t) t (L.length-1-t)
def kJ(L:List Int):∀t,(jJ L t).length=L.length
 |0=>rfl
 |t+1=>by simp[jJ,swp,kJ L t]
def wx(L:List Int):∀(t:Nat),2*t<=L.length->∀i,i<L.length->(jJ L t)[i]?=if i<t\/L.length-t<=i then L[L.length-1-i]? else L[i]?
 |0,_,i,hi=>by rw[jJ,aJ (by omega)]
 |t+1,ht,i,hi=>by
  have ih:=λi hi=>wx L t (by omega) i hi;have hl:=kJ L t;have e1:(jJ L t).getD t 0=L.getD t 0:=by
   rw[yi,yi,ih t (by omega),aJ (by omega)]
  have e2:(jJ L t).getD (L.length-1-t) 0=L.getD (L.length-1-t) 0:=by
   rw[yi,yi,ih _ (by omega),aJ (by omega)]
  rw[jJ,swp,e1,e2,List.getElem?_set,List.getElem?_set,List.length_set,hl];have g:∀k,k<L.length->some (L.getD k 0)=L[k]?:=λk hk=>by simp[hk]
  by_cases h1:L.length-1-t=i
  .rw[aI h1,aI (by omega),aI (by omega),g t (by omega)];congr 1;omega
  .rw[aJ h1];by_cases h2:t=i
   .rw[aI h2,aI (by omega),aI (by omega),g _ (by omega)];congr 1;omega
   .rw[aJ h2,ih i hi];by_cases h3:i<t\/L.length-t<=i
    .rw[aI h3,aI (by omega)]
    .rw[aJ h3,aJ (by omega)]
def BV(L:List Int){t:Nat}(h1:2*t<=L.length)(h2:L.length<=2*t+1):jJ L t=L.reverse:=by
 apply List.ext_getElem?;intro i;by_cases hi:i<L.length
 .rw[wx L t h1 i hi,List.getElem?_reverse hi];split
  .rfl
  .congr 1;omega
 .rw[qv (by rw[kJ];omega),qv (by simp;omega)]
def Bz(L:List Int)(hL:L.length<=1000000){K U:ag}{v:V}(hv:aQ K U 3 1 v (L.map vI))(LR:L=[]->v=.bz):
 aA prog 195 [v] U λr Z'=>r=.LI []/\aQ K Z' 3 1 v (L.reverse.map vI)/\∀i o,U i=some o->(o.elem≠3\/K i≠none)->Z' i=some o:=by
 refine Lc.r (by simp[Fe]) ?_;refine ab.mix 5 ?_;rcases hv with⟨rfl,h0⟩|⟨id,rfl,h2,h3⟩
 .obtain rfl:L=[]:=by simpa using h0
  apply sR;simp only[go_sem,seval,Fe];refine⟨au,?_⟩;refine ab.loop (λm st=>st.U=U/\st.s 2=vI 0/\∃z:Int,st.s 3=vI z/\z<0) 0 ?_ ?_
  .refine⟨rfl,rfl,_,rfl,?_⟩;simp
  .rintro m ⟨S,J⟩ ⟨L6,t2,z,t3,hz⟩;simp only at L6 t2 t3;subst L6;refine ab.mix 5 ?_;have q:((0:Int)<z)=False:=Ly;apply sR;simp only[go_sem,seval,t2,t3,q];exact⟨_,_,aa.refl _,Wk.refl (aa.refl _) _,rfl,.inl ⟨rfl,rfl⟩,λi o h _=>h⟩
 .have hn:0<L.length:=y9.2 λe=>by have:=LR e;cases this
  have Rv:(L.map vI).length=L.length:=by simp
  have r1:LP .i64 ((L.length:Int)-1):=au;apply sR;simp only[go_sem,seval,Fe,Rv,r1];refine ab.loop (λm st=>∃t:Nat,2*t<=L.length/\m=L.length-t/\st.U id=some ⟨3,1,(jJ L t).map vI⟩/\(∀i,i≠id->st.U i=U i)/\st.s 0=.own id 0 L.length/\st.s 2=vI t/\∃z:Int,st.s 3=vI z/\z=(L.length:Int)-1-t) L.length ?_ ?_
  .exact⟨0,by omega,by omega,h2,λ_ _=>rfl,rfl,rfl,_,rfl,by simp⟩
  .rintro m ⟨S,J⟩ ⟨t,ht,rfl,g1,g2,t0,t2,z,t3,rfl⟩;simp only at g1 g2 t0 t2 t3;refine ab.mix 5 ?_;have QZ:((jJ L t).map vI).length=L.length:=by rw[eU,kJ]
   by_cases Lr:(t:Int)<(L.length:Int)-1-t
   .have q:((t:Int)<(L.length:Int)-1-t)=True:=LH Lr;have hj:((L.length:Int)-1-t)=((L.length-1-t:Nat):Int):=by omega
    obtain⟨j,VK⟩:∃j,j=L.length-1-t:=⟨_,rfl⟩
    rw[hj,<-VK]at t3 q;have VF:t<(jJ L t).length:=by rw[kJ];omega
    have MZ:j<(jJ L t).length:=by rw[kJ];omega
    have i1:∀n,n=L.length->bN J 1 (.own id 0 n) (.int .i64 t)=some (.ptr id t 0):=λn hn=>by subst hn;rw[<-QZ];exact lk g1 (by rw[QZ];omega)
    have i2:∀n,n=L.length->bN J 1 (.own id 0 n) (.int .i64 j)=some (.ptr id j 0):=λn hn=>by subst hn;rw[<-QZ];exact lk g1 (by rw[QZ];omega)
    have v1:((jJ L t).map vI)[t]?=some (vI ((jJ L t).getD t 0)):=by simp[VF]
    have v2:((jJ L t).map vI)[j]?=some (vI ((jJ L t).getD j 0)):=by simp[MZ]
    have i3:∀a n,n=L.length->bN (E' J id ⟨3,1,((jJ L t).map vI).set t a⟩) 1 (.own id 0 n) (.int .i64 j)=some (.ptr id j 0):=λa n hn=>by
     have e:n=(((jJ L t).map vI).set t a).length:=by rw[List.length_set,QZ,hn]
     rw[e];exact lk ak (by rw[List.length_set,QZ];omega)
    have v3:∀a,(((jJ L t).map vI).set t a)[j]?=some (vI ((jJ L t).getD j 0)):=λa=>by rw[List.getElem?_set_ne (by omega)];exact v2
    have r4:LP .i64 ((t:Int)+1):=au;have r5:LP .i64 ((j:Int)-1):=au;apply sR;simp only[go_sem,seval,t0,t2,t3,q,g1,i1 _ rfl,i2 _ rfl,i3 _ _ rfl,v1,v2,v3,r4,r5];refine⟨_,?_,t+1,by omega,rfl,?_,λi hi=>?_,by simp[t0],_,rfl,by omega⟩
    .omega
    .simp only[jJ,swp,List.map_set];rw[VK]
    .rw[ad hi];exact g2 i hi
   .have q:((t:Int)<(L.length:Int)-1-t)=False:=Ly Lr;apply sR;simp only[go_sem,seval,t0,t2,t3,q];have hr:=BV L ht (by omega);rw[hr]at g1;refine⟨_,_,aa.refl _,Wk.refl (aa.refl _) _,rfl,.inr ⟨id,by simp,g1,h3⟩,λi o h hio=>?_⟩;rw[g2 i (λe=>by subst e;rw[h2]at h;injection h with h;subst h;rcases hio with h|h;exact h rfl;exact h h3)]
    exact h
open Go.Proofs Go.Proofs.Tryz
structure Kn where
 (ends Nl both:List Int)
 text:Int
def gT(x:Kn):V:=.agg [bj x.ends,bj x.Nl,bj x.both,vI x.text]
def eH(l:List Nd)(of:List Int)(k:Nat):Kn:=
 ⟨Pd l of ((k:Int)-1) (λb=>!Qp l of b k),(Pd l of k (λb=>!Qp l of b ((k:Int)-1))).reverse,Pd l of k (λb=>Qp l of b ((k:Int)-1)),
  if 0<k/\k<of.length/\of.getD k 0=of.getD (k-1) 0 then of.getD k 0 else -1⟩
structure KR(l:List Nd)(of:List Int)(k:Int)(i4 i5 i6 i9 Ma Nx:Nat)(v:V)(Z0 U:ag):Prop where
 ask:za l of k i4 i5 i9 Ma U
 r6:U i6=some ⟨255,4,[.agg [.bz,.bz,.bz,vI 0]]⟩
 VL:U Nx=some ⟨255,4,[v]⟩
 sub:aa Z0 U
 no:Z0 Nx=none
 ne:i4≠Nx/\i5≠Nx/\i6≠Nx/\i9≠Nx/\Ma≠Nx
def KR.mono{l:List Nd}{of:List Int}{k:Int}{i4 i5 i6 i9 Ma Nx:Nat}{v:V}{Z0 U J:ag}(h:KR l of k i4 i5 i6 i9 Ma Nx v Z0 U)(hs:aa U J):KR l of k i4 i5 i6 i9 Ma Nx v Z0 J:=
 ⟨h.ask.mono hs,hs _ _ h.r6,hs _ _ h.VL,h.sub.trans hs,h.no,h.ne⟩
def KR.put{l:List Nd}{of:List Int}{k:Int}{i4 i5 i6 i9 Ma Nx:Nat}{v w:V}{Z0 U:ag}(h:KR l of k i4 i5 i6 i9 Ma Nx v Z0 U):KR l of k i4 i5 i6 i9 Ma Nx w Z0 (E' U Nx ⟨255,4,[w]⟩):=by
 obtain⟨n1,n2,n3,n4,n5⟩:=h.ne;exact⟨⟨by rw[ad n1];exact h.ask.r4,by rw[ad n2];exact h.ask.r5,by rw[ad n4];exact h.ask.r9,by rw[ad n5];exact h.ask.Qo⟩,by rw[ad n3];exact h.r6,ak,h.sub.aG h.no,h.no,h.ne⟩
def As(l:List Nd)(hl:dV l)(hb:Mj l=true)(of:List Int)(Mx:of.length<=1000000)(MY:∀x∈of,0<=x/\x<l.length)(hm:oS l of=true)(k:Nat)(hk:k<=of.length):
 bc prog 169 [aM l,bj of,vI k] (.LI [gT (eH l of k),vI 0]):=λU=>by
 refine J9.r (by simp[HW]) ?_;have hs:=aa.refl U;have Ok:=fC of;have hn:l.length<=100000:=by have:=hl.1;omega
 refine ab.mix 12 ?_;apply sR;simp only[go_sem,seval,HW,af,ai,al,aF];refine ae λi4 Z4 s4 a4 f4=>?_;have z4:=hs.none f4;replace hs:=hs.trans s4;simp only[go_sem,seval];refine ae λi5 Z5 s5 a5 f5=>?_;have ON:=ao a4 f5;replace a4:=s5 _ _ a4;have z5:=hs.none f5;replace hs:=hs.trans s5;simp only[go_sem,seval];refine ae λi6 Z6 s6 a6 f6=>?_;have XM:=ao a4 f6;replace a4:=s6 _ _ a4;have n56:=ao a5 f6;replace a5:=s6 _ _ a5;have z6:=hs.none f6;replace hs:=hs.trans s6;simp only[go_sem,seval,a4,a5,a6,af,ai,al];refine ab.aC rfl rfl rfl (og l hl hb of Mx hm _) ?_;have q0:((0:Int)≠0)=False:=Ly (λh=>h rfl);have q1:((k:Int)<0)=False:=Ly;have q2:((k:Int)>of.length)=False:=Ly;apply sR;simp only[go_sem,seval,q0,q1,q2,a4,a5,a6,Ok,af,ai,al,aF];refine ae λi9 Z9 s9 a9 f9=>?_;have n49:=ao a4 f9;replace a4:=s9 _ _ a4;have X6:=ao a5 f9;replace a5:=s9 _ _ a5;have UN:=ao a6 f9;replace a6:=s9 _ _ a6;have z9:=hs.none f9;replace hs:=hs.trans s9;simp only[go_sem,seval,a9,a4,a5,a6,af,ai,al,aF];generalize MC:E' _ i9 _=Y9;replace a9:=(congrFun MC i9).symm.trans ak;replace a4:=((congrFun MC i4).symm.trans (ad n49)).trans a4;replace a5:=((congrFun MC i5).symm.trans (ad X6)).trans a5;replace a6:=((congrFun MC i6).symm.trans (ad UN)).trans a6;replace hs:=Eq.subst (motive:=aa _) MC (hs.aG z9);clear MC;have Rg:V.MN.cells=[.MN]:=rfl;refine ae λMa Q4 M0 LG f10=>?_;have TD:=ao a4 f10;replace a4:=M0 _ _ a4;have W7:=ao a5 f10;replace a5:=M0 _ _ a5;have UU:=ao a6 f10;replace a6:=M0 _ _ a6;have Qa:=ao a9 f10;replace a9:=M0 _ _ a9;have Ol:=hs.none f10;replace hs:=hs.trans M0;simp only[go_sem,seval,LG,Rg];generalize LN:E' _ Ma _=Uf;replace LG:=(congrFun LN Ma).symm.trans ak;replace a4:=((congrFun LN i4).symm.trans (ad TD)).trans a4;replace a5:=((congrFun LN i5).symm.trans (ad W7)).trans a5;replace a6:=((congrFun LN i6).symm.trans (ad UU)).trans a6;replace a9:=((congrFun LN i9).symm.trans (ad Qa)).trans a9;replace hs:=Eq.subst (motive:=aa _) LN (hs.aG Ol);clear LN;refine ae λNx Tj PU Rt f11=>?_;have RJ:=ao a4 f11;replace a4:=PU _ _ a4;have QS:=ao a5 f11;replace a5:=PU _ _ a5;have QT:=ao a6 f11;replace a6:=PU _ _ a6;have QU:=ao a9 f11;replace a9:=PU _ _ a9;have Nt:=ao LG f11;replace LG:=PU _ _ LG;have Zj:=hs.none f11;replace hs:=hs.trans PU;simp only[go_sem,seval,Rt,LG,a9,a5,a4,ad RJ,ad QS,ad QT,ad QU,ad Nt,af,ai];generalize QV:E' _ Nx _=Y11;replace Rt:=(congrFun QV Nx).symm.trans ak;replace a4:=((congrFun QV i4).symm.trans (ad RJ)).trans a4;replace a5:=((congrFun QV i5).symm.trans (ad QS)).trans a5;replace a6:=((congrFun QV i6).symm.trans (ad QT)).trans a6;replace a9:=((congrFun QV i9).symm.trans (ad QU)).trans a9;replace LG:=((congrFun QV Ma).symm.trans (ad Nt)).trans LG;replace hs:=Eq.subst (motive:=aa _) QV (hs.aG Zj);clear QV;have hK:KR l of k i4 i5 i6 i9 Ma Nx (.agg [.bz,.bz,.bz,vI (-1)]) U Y11:=⟨⟨a4,a5,a9,LG⟩,a6,Rt,hs,Zj,RJ,QS,QT,QU,Nt⟩
 clear hs a4 a5 a6 a9 LG Rt;generalize Y11=J at*;have hZ11:=hK.VL;have hZs:=hK.sub;refine⟨au,?_⟩;refine ab.call rfl rfl rfl (rm l hl hb hn of Mx MY ((k:Int)-1) 193 [.ptr Ma 0 0,.ptr i5 0 0] (λb=>!Qp l of b k) (λb ME X' RH=>Gm l hb hn of Mx MY b ME k (hK.ask.mono RH))) ?_;rintro v0 Z1 ⟨s1,o0,_⟩;have hK1:=hK.mono s1;clear hK s1;obtain⟨X7,X8⟩:=o0.vc;have Wl:=hK1.VL;have c9:=hK1.ask.r9;have c5:=hK1.ask.r5;rw[mQ]at c9;apply sR;simp only[go_sem,seval,Wl,c9,c5,X7,X8,ad QU,ad QS,af,ai];have Th:=hK1.put (w:=.agg [v0,.bz,.bz,vI (-1)]);have o0':aQ (bW U Nx) (E' Z1 Nx ⟨255,4,[.agg [v0,.bz,.bz,vI (-1)]]⟩) 3 1 v0 ((Pd l of ((k:Int)-1) (λb=>!Qp l of b k)).map vI):=by
  rcases o0 with h|⟨id,g1,g2,g3⟩
  .exact .inl h
  .have g3:J id=none:=g3;have LR:id≠Nx:=λe=>by rw[e,hZ11]at g3;cases g3
   exact .inr ⟨id,g1,by rw[ad LR];exact g2,aW.2 ⟨LR,hZs.none g3⟩⟩
 generalize E' Z1 Nx ⟨255,4,[.agg [v0,.bz,.bz,vI (-1)]]⟩=Y2 at*;refine ab.call rfl rfl rfl (rm l hl hb hn of Mx MY k 194 [.ptr Ma 0 0,.ptr i5 0 0] (λb=>!Qp l of b ((k:Int)-1)) (λb ME X' RH=>Hx l hb hn of Mx MY b ME k (by omega) (by omega) (Th.ask.mono RH))) ?_;rintro v1 Z3 ⟨s3,o1,n1⟩;have UL:=Th.mono s3;have o03:=o0'.mono s3;obtain⟨ZM,ZN⟩:=o1.vc;have d11:=UL.VL;have x11:=Th.VL;apply sR;simp only[go_sem,seval,d11,X7,X8,ZM,ZN];have U3:=UL.put (w:=.agg [v0,v1,.bz,vI (-1)]);have push:∀{K Zx:ag} {v:V} {rows:List V} {o:Ob},K Nx≠none->aQ K Zx 3 1 v rows->aQ K (E' Zx Nx o) 3 1 v rows:=λ{K Zx v rows o} hk h=>by
  rcases h with h|⟨id,g1,g2,g3⟩
  .exact .inl h
  .exact .inr ⟨id,g1,by rw[ad (λe=>by rw[e]at g3;exact hk g3)];exact g2,g3⟩
 have kk:bW U Nx Nx≠none:=λh=>(aW.1 h).1 rfl;have o1':aQ Y2 Z3 3 1 v1 _:=o1;have o04:=push (o:=⟨255,4,[.agg [v0,v1,.bz,vI (-1)]]⟩) kk o03;have o14:=push (o:=⟨255,4,[.agg [v0,v1,.bz,vI (-1)]]⟩) (by rw[x11];simp) o1';generalize E' Z3 Nx ⟨255,4,[.agg [v0,v1,.bz,vI (-1)]]⟩=Y4 at*;have Mt:∀kk p,(Pd l of kk p).length<=1000000:=λkk p=>by
  unfold Pd;split
  .have h1:=List.length_filter_le p (PH l (of.getD kk.toNat 0).toNat);have h2:=jh l (l.length+1) (eQ l (of.getD kk.toNat 0).toNat);have h3:(PH l (of.getD kk.toNat 0).toNat).length<=l.length+1:=h2;omega
  .simp
 refine ab.call rfl rfl rfl (Bz _ (Mt _ _) o14 n1) ?_;rintro r Z5 ⟨rfl,o15,M'⟩;have y5:=Th.ask.r5;have X9:KR l of k i4 i5 i6 i9 Ma Nx (.agg [v0,v1,.bz,vI (-1)]) U Z5:=
  ⟨⟨M' _ _ U3.ask.r4 (.inl (by simp)),M' _ _ U3.ask.r5 (.inr (by rw[y5];simp)),M' _ _ U3.ask.r9 (.inl (by simp)),M' _ _ U3.ask.Qo (.inl (by simp))⟩,M' _ _ U3.r6 (.inl (by simp)),M' _ _ U3.VL (.inl (by simp)),
    λi o h=>M' _ _ (U3.sub _ _ h) (.inr (by rw[Th.sub _ _ h];simp)),U3.no,U3.ne⟩
 have o05:aQ (bW U Nx) Z5 3 1 v0 ((Pd l of ((k:Int)-1) (λb=>!Qp l of b k)).map vI):=by
  rcases o0' with h|⟨id,g1,g2,g3⟩
  .exact .inl h
  .rcases o04 with⟨e,_⟩|⟨NL,e1,e2,_⟩
   .rw[g1]at e;cases e
   .rw[g1]at e1;injection e1 with e1 _ _
    subst e1;exact .inr ⟨id,g1,M' _ _ e2 (.inr (by rw[g2];simp)),g3⟩
 have e9:=X9.ask.r9;have e5:=X9.ask.r5;have e11:=X9.VL;rw[mQ]at e9;apply sR;simp only[go_sem,seval,e9,e5,e11,af,ai];refine ab.call rfl rfl rfl (rm l hl hb hn of Mx MY k 196 [.ptr Ma 0 0,.ptr i5 0 0] (λb=>Qp l of b ((k:Int)-1)) (λb ME X' RH=>Gk l hb hn of Mx MY b ME k (by omega) (by omega) (X9.ask.mono RH))) ?_;rintro v2 Z6 ⟨s6,o2,_⟩;have W8:=X9.mono s6;have o06:=o05.mono s6;have o16:=o15.mono s6;have o2':aQ Z5 Z6 3 1 v2 _:=o2;obtain⟨cv2,sv2⟩:=o2.vc;have f11:=W8.VL;have f4:=W8.ask.r4;have f5:=W8.ask.r5;have f6:=W8.r6;have PX:∀{K:ag} {J:ag} {v:V} {rows x:List V} {i:Nat} {o:Ob},J i=some ⟨255,4,x⟩->aQ K J 3 1 v rows->aQ K (E' J i o) 3 1 v rows:=λ{K J v rows x i o} hi h=>by
  rcases h with h|⟨id,g1,g2,g3⟩
  .exact .inl h
  .refine .inr ⟨id,g1,?_,g3⟩;rw[ad (λe=>by rw[e,hi]at g2;cases g2)];exact g2
 have hsK1:aa U (bW U Nx):=λi o h=>by rw[bW,aJ (λe=>by rw[e,W8.no]at h;cases h)];exact h
 have fin:∀(t:Int) (o:Ob),t=(eH l of k).text->aE (.LI [.agg [v0,v1,v2,vI t],vI 0]) (E' (E' Z6 Nx ⟨255,4,[.agg [v0,v1,v2,vI t]]⟩) i6 o) λr Z'=>r=.LI [gT (eH l of k),vI 0]/\Z'=U:=by
  intro t o ht;have g6:=f6;rw[<-ad (U:=Z6) (o:=⟨255,4,[.agg [v0,v1,v2,vI t]]⟩) QT]at g6;have p0:=PX (o:=o) g6 (PX (o:=⟨255,4,[.agg [v0,v1,v2,vI t]]⟩) f11 o06);have p1:=PX (o:=o) g6 (PX (o:=⟨255,4,[.agg [v0,v1,v2,vI t]]⟩) f11 o16);have p2:=PX (o:=o) g6 (PX (o:=⟨255,4,[.agg [v0,v1,v2,vI t]]⟩) f11 o2');have L8:=((W8.sub.aG (o:=⟨255,4,[.agg [v0,v1,v2,vI t]]⟩) W8.no)).aG (o:=o) z6;refine⟨_,U,L8,Wk.LI (vs':=[gT (eH l of k),vI 0]) ⟨Wk.agg (vs':=[bj (eH l of k).ends,bj (eH l of k).Nl,bj (eH l of k).both,vI (eH l of k).text]) ⟨p0.wk hsK1 L8,p1.wk Th.sub L8,p2.wk X9.sub L8,by rw[<-ht];exact Wk.refl L8 _,trivial⟩,Wk.refl L8 _,trivial⟩,rfl,rfl⟩
 rcases Nat.eq_zero_or_pos k with rfl|h0
 .have q3:((((0:Nat):Int))>0)=False:=Ly;have ft:=fin (-1);apply sR;simp only[go_sem,seval,f11,f4,f5,f6,X7,X8,ZM,ZN,cv2,sv2,ad RJ,ad QS,ad QT,ad QU,ad Nt,q3,af,ai,al,aF];exact fin _ _ (by simp[eH])
 have q3:((k:Int)>0)=True:=LH;by_cases h1:k<of.length
 .have q4:((k:Int)<of.length)=True:=LH;have q5:=au (m:=((k-1:Nat):Int)) (by omega) (by omega);have q6:((k:Int)-1)=((k-1:Nat):Int):=by omega
  have q7:=λU=>iH (U:=U) h1;have q8:=λU=>iH (U:=U) (l:=of) (i:=k-1) (by omega);have g1:of.getD k 0=of[k]:=by simp[h1]
  have g2:of.getD (k-1) 0=of[k-1]:=by have:k-1<of.length:=by omega
                                      simp[this]
  by_cases h2:of.getD k 0=of.getD (k-1) 0
  .have q9:(of[k]=of[k-1])=True:=LH (by rw[<-g1,<-g2];exact h2);apply sR;simp only[go_sem,seval,f11,f4,f5,f6,X7,X8,ZM,ZN,cv2,sv2,ad RJ,ad QS,ad QT,ad QU,ad Nt,q3,q4,q5,q6,q7,q8,q9,Ok,af,ai,al,aF];exact fin _ _ (by simp only[eH];rw[aI ⟨h0,h1,h2⟩,g1])
  .have q9:(of[k]=of[k-1])=False:=Ly (by rw[<-g1,<-g2];exact h2);apply sR;simp only[go_sem,seval,f11,f4,f5,f6,X7,X8,ZM,ZN,cv2,sv2,ad RJ,ad QS,ad QT,ad QU,ad Nt,q3,q4,q5,q6,q7,q8,q9,Ok,af,ai,al,aF];exact fin _ _ (by simp only[eH];rw[aJ (λh=>h2 h.2.2)])
 .have q4:((k:Int)<of.length)=False:=Ly;apply sR;simp only[go_sem,seval,f11,f4,f5,f6,X7,X8,ZM,ZN,cv2,sv2,ad RJ,ad QS,ad QT,ad QU,ad Nt,q3,q4,Ok,af,ai,al,aF];exact fin _ _ (by simp only[eH];rw[aJ (λh=>h1 h.2.1)])
open Go.Proofs Go.Proofs.Tryz
def Pq(l:List Nd)(b:Int):MT:=((l[b.toNat]?).map Nd.st).getD MT.zero
def lA(l:List Nd)(b:Int):List Int:=(if 0<(Pq l b).head then[2]else[])++[(Pq l b).before]
def y7(l:List Nd)(x:Kn):List Int:=x.ends.map (λb=>(Pq l b).after)++x.Nl.flatMap (lA l)
def kU{l:List Nd}{b:Nat}(h:b<l.length):Pq l b=l[b].st:=by simp[Pq,h]
def yT(l:List Nd)(x:Kn)(hE:x.ends.length<=1000000)(hB:x.Nl.length<=1000000)(he:∀b∈x.ends,∃n:Nat,b=n/\n<l.length)(hb:∀b∈x.Nl,∃n:Nat,b=n/\n<l.length):
 Iter prog 197 [.rp (gT x),.rp (aM l)] ((y7 l x).map λn=>[vI n]):=by
 refine⟨IP.c,λL9 τ Jx Z0 hy hJ=>?_⟩;refine(IP.r (by simp[Gs]) ?_).2;obtain⟨E,B,C,tx⟩:=x;simp only at hE hB he hb;have hlE:=fC E;have Ya:=fC B;have UT:∀(U:ag) (X:List Int),cJ U false 1 (.rp (bj X))=some (bj X):=λU X=>rfl;have WR:∀U:ag,cJ U false 1 (.rp (aM l))=some (aM l):=λU=>rfl;generalize hT:(y7 l ⟨E,B,C,tx⟩).map (λn=>[vI n])=T at hy|-;refine ab.mix 9 ?_;apply sR;simp only[go_sem,seval,Gs,gT,UT,hlE,ai,al];refine ab.kW (λst=>∃(ZJ:ag),τ ((E.map λb=>(Pq l b).after).map λn=>[vI n]) ZJ/\aa ZJ st.U/\st.s 0=.yl L9/\st.s 1=.rp (gT ⟨E,B,C,tx⟩)/\st.s 2=.rp (aM l))
  (λm st=>∃(j:Nat) (ZJ:ag),j<=E.length/\m=E.length-j/\τ (((E.take j).map λb=>(Pq l b).after).map λn=>[vI n]) ZJ/\aa ZJ st.U/\st.s 0=.yl L9/\st.s 1=.rp (gT ⟨E,B,C,tx⟩)/\st.s 2=.rp (aM l)/\st.s 10=bj E/\st.s 11=vI E.length/\st.s 12=vI j) E.length ?_ ?_ ?_
 .exact⟨0,Z0,by omega,rfl,by simpa using hJ,aa.refl _,rfl,rfl,rfl,rfl,rfl,rfl⟩
 .rintro m ⟨S,J⟩ ⟨j,ZJ,hj,rfl,Nu,G',t0,t1,t2,t10,t11,t12⟩;simp only at G' t0 t1 t2 t10 t11 t12;refine ab.mix 9 ?_;by_cases Lr:j<E.length
  .have q:((j:Int)<E.length)=True:=LH;have Lv:=λU=>iH (U:=U) Lr;have Mv:E.take (j+1)=E.take j++[E[j]]:=Ph Lr;obtain⟨b,RZ,ME⟩:=he _ (ML Lr);have ZL:E=E.take j++E[j]::E.drop (j+1):=by rw[<-iY Lr,yK]
   have e:T=(((E.take j).map λb=>(Pq l b).after).map λn=>[vI n])++[vI l[b].st.after]::((((E.drop (j+1)).map λb=>(Pq l b).after)++B.flatMap (lA l)).map λn=>[vI n]):=by
    rw[<-hT,y7]
    conv=>lhs;rw[ZL]
    simp[RZ,kU ME]
   rw[RZ]at Lv Mv;have MS:=λU=>dT (U:=U) (l:=l) (a:=b) ME;have r1:LP .i64 ((j:Int)+1):=au;apply sR;simp only[go_sem,seval,t0,t1,t2,t10,t11,t12,q,Lv,WR,MS,Nd.cells];refine ab.oK (Post:=λb' Z2=>∃L',bB ZJ J L' Z2/\((b'=true/\τ ((((E.take j).map λb=>(Pq l b).after).map λn=>[vI n])++[[vI l[b].st.after]]) L')\/(b'=false/\Jx ((((E.take j).map λb=>(Pq l b).after).map λn=>[vI n])++[[vI l[b].st.after]]) L'))) rfl rfl rfl (hy _ [vI l[b].st.after] _ ZJ J e Nu G') ?_;rintro b' Z2 ⟨L',Nv,Nh⟩;rcases Nh with⟨rfl,Nh⟩|⟨rfl,Nh⟩
   .apply sR;simp only[go_sem,seval,t0,t1,t2,t10,t11,t12,r1];refine⟨_,?_,j+1,L',by omega,rfl,by rw[Mv];simpa[kU ME]using Nh,Nv.1,by simp[t0,t1,t2,t10,t11]⟩;omega
   .apply sR;simp only[go_sem,seval,t0,t1,t2,t10,t11,t12];exact⟨_,L',Nv.1,Wk.refl Nv.1 _,.inr ⟨_,⟨_,by rw[e,lU];rfl⟩,Nh⟩⟩
  .have q:((j:Int)<E.length)=False:=Ly;rw[pj (by omega)]at Nu;apply sR;simp only[go_sem,seval,t0,t1,t2,t10,t11,t12,q];exact⟨ZJ,Nu,G'⟩
 .rintro⟨S,J⟩ ⟨ZJ,Nu,G',t0,t1,t2⟩;simp only at G' t0 t1 t2;generalize hP:((E.map λb=>(Pq l b).after).map λn=>[vI n])=P1 at*;refine ab.mix 9 ?_;apply sR;simp only[go_sem,seval,t0,t1,t2,gT,UT,Ya,ai,al];refine ab.loop (λm st=>∃(j:Nat) (ZJ:ag),j<=B.length/\m=B.length-j/\τ (P1++((B.take j).flatMap (lA l)).map λn=>[vI n]) ZJ/\aa ZJ st.U/\st.s 0=.yl L9/\st.s 2=.rp (aM l)/\st.s 27=bj B/\st.s 28=vI B.length/\st.s 29=vI j) B.length ?_ ?_
  .exact⟨0,ZJ,by omega,rfl,by simpa using Nu,G',t0,t2,rfl,rfl,rfl⟩
  .clear Nu G' t0 t1 t2;rintro m ⟨S,J⟩ ⟨j,ZJ,hj,rfl,Nu,G',t0,t2,t27,t28,t29⟩;simp only at G' t0 t2 t27 t28 t29;refine ab.mix 9 ?_;by_cases Lr:j<B.length
   .have q:((j:Int)<B.length)=True:=LH;have Lv:=λU=>iH (U:=U) Lr;have Mv:B.take (j+1)=B.take j++[B[j]]:=Ph Lr;obtain⟨b,RZ,ME⟩:=hb _ (ML Lr);have ZL:B=B.take j++B[j]::B.drop (j+1):=by rw[<-iY Lr,yK]
    have e:T=(P1++((B.take j).flatMap (lA l)).map λn=>[vI n])++((lA l b).map λn=>[vI n])++(((B.drop (j+1)).flatMap (lA l)).map λn=>[vI n]):=by
     rw[<-hT,y7,gM,hP]
     conv=>lhs;rw[ZL]
     simp[RZ]
    rw[RZ]at Lv Mv;have MS:=λU=>dT (U:=U) (l:=l) (a:=b) ME;have r1:LP .i64 ((j:Int)+1):=au;have hs:=aa.refl J;have UK:(P1++((B.take (j+1)).flatMap (lA l)).map λn=>[vI n])=(P1++((B.take j).flatMap (lA l)).map λn=>[vI n])++((lA l b).map λn=>[vI n]):=by rw[Mv];simp
    generalize (P1++((B.take j).flatMap (lA l)).map λn=>[vI n])=P2 at*;have hbg:lA l b=(if 0<l[b].st.head then[2]else[])++[l[b].st.before]:=by rw[lA,kU ME]
    apply sR;simp only[go_sem,seval,t0,t2,t27,t28,t29,q,Lv,WR,MS,Nd.cells];refine ae λi8 Z8 s8 a8 f8=>?_;have z8:=hs.none f8;replace hs:=hs.trans s8;simp only[go_sem,seval,a8,t0,t2,t27,t28,t29,WR,MS,Nd.cells];generalize Ox:E' _ i8 _=Y8;replace a8:=(congrFun Ox i8).symm.trans ak;replace hs:=Eq.subst (motive:=aa _) Ox (hs.aG z8);clear Ox;generalize ((B.drop (j+1)).flatMap (lA l)).map (λn=>[vI n])=R2 at*;refine⟨λh0=>?_,λh0=>?_⟩
    .have e1:T=P2++[vI 2]::([vI l[b].st.before]::R2):=by rw[e,hbg,aI h0];simp
     have e2:T=(P2++[[vI 2]])++[vI l[b].st.before]::R2:=by rw[e1];simp
     have e3:(P2++[[vI 2]])++[[vI l[b].st.before]]=P2++(lA l b).map λn=>[vI n]:=by rw[hbg,aI h0];simp
     have TE:aa ZJ Y8:=G'.trans hs;refine ab.oK (Post:=λb' Z2=>∃L',bB ZJ Y8 L' Z2/\((b'=true/\τ (P2++[[vI 2]]) L')\/(b'=false/\Jx (P2++[[vI 2]]) L'))) rfl rfl rfl (hy _ [vI 2] _ ZJ Y8 e1 Nu TE) ?_;rintro b' Z2 ⟨L',Nv,Nh⟩;rcases Nh with⟨rfl,Nh⟩|⟨rfl,Nh⟩
     .have a8':=(Nv.2 i8 _ (G'.none z8) a8).1;apply sR;simp only[go_sem,seval,t0,t2,t27,t28,t29,a8'];refine ab.oK (Post:=λb' Z3=>∃Ss,bB L' Z2 Ss Z3/\((b'=true/\τ ((P2++[[vI 2]])++[[vI l[b].st.before]]) Ss)\/(b'=false/\Jx ((P2++[[vI 2]])++[[vI l[b].st.before]]) Ss))) rfl rfl rfl (hy _ [vI l[b].st.before] _ L' Z2 e2 Nh Nv.1) ?_;rintro b3 Z3 ⟨Ss,RK,Pe⟩;rcases Pe with⟨rfl,Pe⟩|⟨rfl,Pe⟩
      .apply sR;simp only[go_sem,seval,t0,t2,t27,t28,t29,r1];refine⟨_,?_,j+1,Ss,by omega,rfl,by rw[UK,<-e3];exact Pe,RK.1,by simp[t0,t2,t27,t28]⟩;omega
      .apply sR;simp only[go_sem,seval,t0,t2,t27,t28,t29];exact⟨_,Ss,RK.1,Wk.refl RK.1 _,.inr ⟨_,⟨_,by rw[e2,lU];rfl⟩,Pe⟩⟩
     .apply sR;simp only[go_sem,seval,t0,t2,t27,t28,t29];exact⟨_,L',Nv.1,Wk.refl Nv.1 _,.inr ⟨_,⟨_,by rw[e1,lU];rfl⟩,Nh⟩⟩
    .have e2:T=P2++[vI l[b].st.before]::R2:=by rw[e,hbg,aJ (by omega)];simp
     have e3:P2++[[vI l[b].st.before]]=P2++(lA l b).map λn=>[vI n]:=by rw[hbg,aJ (by omega)];simp
     have TE:aa ZJ Y8:=G'.trans hs;apply sR;simp only[go_sem,seval,t0,t2,t27,t28,t29,a8];refine ab.oK (Post:=λb' Z3=>∃Ss,bB ZJ Y8 Ss Z3/\((b'=true/\τ (P2++[[vI l[b].st.before]]) Ss)\/(b'=false/\Jx (P2++[[vI l[b].st.before]]) Ss))) rfl rfl rfl (hy _ [vI l[b].st.before] _ ZJ Y8 e2 Nu TE) ?_;rintro b3 Z3 ⟨Ss,RK,Pe⟩;rcases Pe with⟨rfl,Pe⟩|⟨rfl,Pe⟩
     .apply sR;simp only[go_sem,seval,t0,t2,t27,t28,t29,r1];refine⟨_,?_,j+1,Ss,by omega,rfl,by rw[UK,<-e3];exact Pe,RK.1,by simp[t0,t2,t27,t28]⟩;omega
     .apply sR;simp only[go_sem,seval,t0,t2,t27,t28,t29];exact⟨_,Ss,RK.1,Wk.refl RK.1 _,.inr ⟨_,⟨_,by rw[e2,lU];rfl⟩,Pe⟩⟩
   .have q:((j:Int)<B.length)=False:=Ly;rw[pj (by omega),<-hP,<-gM]at Nu;apply sR;simp only[go_sem,seval,t0,t2,t27,t28,t29,q];exact⟨_,ZJ,G',Wk.refl G' _,.inl (hT▸Nu)⟩
open Go.Proofs Go.Proofs.Tryz
def vd{l:List Nd}{of:List Int}(MY:∀x∈of,0<=x/\x<l.length){k:Int}{p:Int->Bool}:∀b∈Pd l of k p,∃n:Nat,b=n/\n<l.length:=λb hb=>by
 unfold Pd at hb;split at hb
 .rename_i h;have Lr:k.toNat<of.length:=by omega
  have Qu:of.getD k.toNat 0=of[k.toNat]:=by simp[Lr]
  rw[Qu]at hb;obtain⟨h0,h1⟩:=MY _ (ML Lr);obtain⟨n,rfl,hn⟩:=vx (l:=l) (a:=of[k.toNat].toNat) (by omega) b (ve.1 hb).1;exact⟨n,rfl,by omega⟩
 .cases hb
def nV{l:List Nd}(hn:l.length<=100000){of:List Int}{k:Int}{p:Int->Bool}:(Pd l of k p).length<=100001:=by
 unfold Pd;split
 .have h1:=List.length_filter_le p (PH l (of.getD k.toNat 0).toNat);have h2:=jh l (l.length+1) (eQ l (of.getD k.toNat 0).toNat);have h3:(PH l (of.getD k.toNat 0).toNat).length<=l.length+1:=h2;omega
 .simp
def CS(l:List Nd)(b:Int):(lA l b).length<=2:=by unfold lA;split<;>simp
def xU{α β:Type}(f:α->List β)(hf:∀a,(f a).length<=2):∀L:List α,(L.flatMap f).length<=2*L.length
 |[]=>by simp
 |a::L=>by
  rw[u9,kf,MM];have:=xU f hf L;have:=hf a;omega
def jf(l:List Nd)(of:List Int)(k:Nat):List Int:=if k=of.length then[]else y7 l (eH l of k)
def wK{l:List Nd}(hn:l.length<=100000)(of:List Int)(k:Nat):(y7 l (eH l of k)).length<=1000000:=by
 unfold y7;rw[kf,eU];have h1:=xU (lA l) (CS l) (eH l of k).Nl;have h2:(eH l of k).ends.length<=100001:=nV hn;have h3:(eH l of k).Nl.length<=100001:=by
  rw[eH,List.length_reverse];exact nV hn
 omega
def DX(l:List Nd)(x:Kn):bc prog 170 [aM l,gT x] (.fn 197 [.rp (gT x),.rp (aM l)]):=λU=>by
 refine KY.r (by simp[Hb]) ?_;refine ab.mix 4 ?_;have q1:=af l;have q2:=aF l;generalize aM l=y at*;obtain⟨E,B,C,tx⟩:=x;simp only[gT];apply sR;simp only[go_sem,seval,Hb,q1,q2,ai,al];refine ae λOv Z1 s1 a1 f1=>?_;simp only[go_sem,seval,q1,q2,ai,al];refine ae λPC Z2 s2 a2 f2=>?_;simp only[go_sem,seval];exact⟨_,U,s1.trans s2,Wk.fn (vs':=[.rp (.agg [bj E,bj B,bj C,vI tx]),.rp y]) ⟨Wk.ptr (s1.trans s2) a2 (s1.none f2),Wk.ptr (s1.trans s2) (s2 _ _ a1) f1,trivial⟩,rfl,rfl⟩
def zK(l:List Nd)(hl:dV l)(hb:Mj l=true)(of:List Int)(Mx:of.length<=1000000)(MY:∀x∈of,0<=x/\x<l.length)(hm:oS l of=true)(k:Nat)(hk:k<=of.length):
 bc prog 149 [aM l,bj of,vI k] (.LI [bj (jf l of k),vI 0]):=λU=>by
 refine Lg.r (by simp[GP]) ?_;have hs:=aa.refl U;have Ok:=fC of;have hn:l.length<=100000:=by have:=hl.1;omega
 refine ab.mix 10 ?_;apply sR;simp only[go_sem,seval,GP];refine ab.aC rfl rfl rfl (As l hl hb of Mx MY hm k hk _) ?_;apply sR;simp only[go_sem,seval,gT];refine ae λi8 Z8 s8 a8 f8=>?_;have z8:=hs.none f8;replace hs:=hs.trans s8;have q0:((0:Int)≠0)=False:=Ly (λh=>h rfl);by_cases QX:k=of.length
 .have q1:((k:Int)=of.length)=True:=LH;simp only[go_sem,seval,a8,Ok,q0,q1,gT,ai,al];rw[jf,aI QX];have L8:=hs.aG (o:=⟨255,4,[gT (eH l of k)]⟩) z8;exact⟨_,U,L8,Wk.LI (vs':=[bj [],vI 0]) ⟨(aQ.start (e:=3)).wk (aa.refl _) L8,Wk.refl L8 _,trivial⟩,rfl,rfl⟩
 .have q1:((k:Int)=of.length)=False:=Ly;simp only[go_sem,seval,a8,Ok,q0,q1,gT,ai,al];refine ab.aC rfl rfl rfl (DX l (eH l of k) _) ?_;apply sR;simp only[go_sem,seval];have Q7:=wK hn of k;have Ql:=yT l (eH l of k) (ly (nV hn) (by omega)) (by rw[eH,List.length_reverse];exact ly (nV hn) (by omega)) (vd MY) (λb hb=>vd MY b (List.mem_reverse.1 hb));refine ab.aC rfl rfl rfl (tR Ql Q7 _) ?_;apply sR;simp only[go_sem,seval];rw[jf,aJ QX];have L8:=hs.aG (o:=⟨255,4,[gT (eH l of k)]⟩) z8;exact⟨_,U,L8,Wk.refl L8 _,rfl,rfl⟩
open Go.Proofs Go.Proofs.Tryz
def lY(out n:Int)(PK:Bool):Int:=if PK=true\/out=0 then n else out
def jZ(out n:Int):Int:=if n=3\/n=4 then lY out n true else if n=2 then lY out n false else out
def dy(all:List Int):Int:=all.foldl jZ 0
def vO(n:Int)(PK:Bool)(out:Int){U:ag}{i3:Nat}(h:U i3=some ⟨3,1,[vI out]⟩):
 aA prog 171 [vI n,.bool PK,.ptr i3 0 0] U λ_ Z'=>Z' i3=some ⟨3,1,[vI (lY out n PK)]⟩/\∀i,i≠i3->Z' i=U i:=by
 refine Kt.r (by simp[Du]) ?_;refine ab.mix 5 ?_;have fin:∀J:ag,J i3=some ⟨3,1,[vI (lY out n PK)]⟩->(∀i,i≠i3->J i=U i)->aE (.LI []) J λ_ Z'=>Z' i3=some ⟨3,1,[vI (lY out n PK)]⟩/\∀i,i≠i3->Z' i=U i:=λJ h1 h2=>
  ⟨_,J,aa.refl _,Wk.refl (aa.refl _) _,h1,h2⟩
 by_cases h0:PK=true\/out=0
 .have ht:lY out n PK=n:=aI h0;rw[ht]at fin|-;cases PK
  .have q:(out=0)=True:=LH (by simpa using h0);apply sR;simp only[go_sem,seval,Du,h,q];exact fin _ ak λi hi=>ad hi
  .apply sR;simp only[go_sem,seval,Du,h];exact fin _ ak λi hi=>ad hi
 .have ht:lY out n PK=out:=aJ h0;rw[ht]at fin|-;simp only[not_or,Bool.not_eq_true]at h0;obtain⟨rfl,h0⟩:=h0;have q:(out=0)=False:=Ly h0;apply sR;simp only[go_sem,seval,Du,h,q];exact fin _ h λi hi=>rfl
def BL(all:List Int)(Q7:all.length<=1000000):bc prog 150 [bj all] (vI (dy all)):=λU=>by
 refine Kf.r (by simp[Gp]) ?_;have hs:=aa.refl U;have OO:=fC all;refine ab.mix 8 ?_;apply sR;simp only[go_sem,seval,Gp];refine ae λi3 Z3 s3 a3 f3=>?_;have z3:=hs.none f3;replace hs:=hs.trans s3;simp only[go_sem,seval,a3,OO];generalize Su:E' _ i3 _=X3;replace a3:=(congrFun Su i3).symm.trans ak;replace hs:=Eq.subst (motive:=aa _) Su (hs.aG z3);clear Su;refine ab.kW (λst=>st.U i3=some ⟨3,1,[vI (dy all)]⟩/\aa U st.U/\st.s 3=.ptr i3 0 0)
  (λm st=>∃j:Nat,j<=all.length/\m=all.length-j/\st.U i3=some ⟨3,1,[vI (dy (all.take j))]⟩/\aa U st.U/\st.s 3=.ptr i3 0 0/\st.s 4=.fn 171 [.ptr i3 0 0]/\st.s 9=bj all/\st.s 10=vI all.length/\st.s 11=vI j) all.length ?_ ?_ ?_
 .exact⟨0,by omega,rfl,a3,hs,rfl,rfl,rfl,rfl,rfl⟩
 .clear a3 hs;rintro m ⟨S,J⟩ ⟨j,hj,rfl,b3,hs,t3,t4,t9,t10,t11⟩;simp only at b3 hs t3 t4 t9 t10 t11;refine ab.mix 8 ?_;by_cases Lr:j<all.length
  .have q:((j:Int)<all.length)=True:=LH;have Lv:=λU=>iH (U:=U) Lr;have Mv:dy (all.take (j+1))=jZ (dy (all.take j)) all[j]:=by
    rw[dy,Ph Lr,yQ];rfl
   have r1:LP .i64 ((j:Int)+1):=au;generalize all[j]=n at*;have W9:∀{ρ:ag} {o:Ob},ρ i3=some o->(∀i,i≠i3->ρ i=J i)->aa U ρ:=λ{ρ o} h1 h2 i x hx=>by
    rw[h2 i (λe=>by rw[e,z3]at hx;cases hx)];exact hs _ _ hx
   by_cases h3:n=3
   .have q3:(n=3)=True:=LH h3;have L8:lY (dy (all.take j)) n true=jZ (dy (all.take j)) n:=by rw[jZ,aI (.inl h3)]
    apply sR;simp only[go_sem,seval,t3,t4,t9,t10,t11,q,q3,Lv];refine ab.call rfl rfl rfl (vO n true (dy (all.take j)) b3) ?_;rintro-ρ ⟨g1,g2⟩;apply sR;simp only[go_sem,seval,t3,t4,t9,t10,t11,r1];refine⟨_,?_,j+1,by omega,rfl,by rw[Mv];exact L8▸g1,W9 g1 g2,by simp[t3,t4,t9,t10]⟩;omega
   .have q3:(n=3)=False:=Ly h3;by_cases h4:n=4
    .have q4:(n=4)=True:=LH h4;have L8:lY (dy (all.take j)) n true=jZ (dy (all.take j)) n:=by rw[jZ,aI (.inr h4)]
     apply sR;simp only[go_sem,seval,t3,t4,t9,t10,t11,q,q3,q4,Lv];refine ab.call rfl rfl rfl (vO n true (dy (all.take j)) b3) ?_;rintro-ρ ⟨g1,g2⟩;apply sR;simp only[go_sem,seval,t3,t4,t9,t10,t11,r1];refine⟨_,?_,j+1,by omega,rfl,by rw[Mv];exact L8▸g1,W9 g1 g2,by simp[t3,t4,t9,t10]⟩;omega
    .have q4:(n=4)=False:=Ly h4;by_cases h2:n=2
     .have q2:(n=2)=True:=LH h2;have L8:lY (dy (all.take j)) n false=jZ (dy (all.take j)) n:=by rw[jZ,aJ (by simp[h3,h4]),aI h2]
      apply sR;simp only[go_sem,seval,t3,t4,t9,t10,t11,q,q3,q4,q2,Lv];refine ab.call rfl rfl rfl (vO n false (dy (all.take j)) b3) ?_;rintro-ρ ⟨g1,g2⟩;apply sR;simp only[go_sem,seval,t3,t4,t9,t10,t11,r1];refine⟨_,?_,j+1,by omega,rfl,by rw[Mv];exact L8▸g1,W9 g1 g2,by simp[t3,t4,t9,t10]⟩;omega
     .have q2:(n=2)=False:=Ly h2;have L8:dy (all.take j)=jZ (dy (all.take j)) n:=by rw[jZ,aJ (by simp[h3,h4]),aJ h2]
      apply sR;simp only[go_sem,seval,t3,t4,t9,t10,t11,q,q3,q4,q2,r1,Lv];refine⟨_,?_,j+1,by omega,rfl,by rw[Mv,<-L8];exact b3,hs,by simp[t3,t4,t9,t10]⟩;omega
  .have q:((j:Int)<all.length)=False:=Ly;rw[pj (by omega)]at b3;apply sR;simp only[go_sem,seval,t3,t4,t9,t10,t11,q];exact⟨b3,hs⟩
 .rintro⟨S,J⟩ ⟨b3,hs,t3⟩;simp only at b3 hs t3;refine ab.mix 8 ?_;apply sR;simp only[go_sem,seval,t3,b3];exact⟨_,U,hs,Wk.refl hs _,rfl,rfl⟩
open Go.Proofs Go.Proofs.Tryz
def ja(l:List Nd)(of:List Int)(k:Nat):Int:=dy (jf l of k)
def rX{l:List Nd}(hn:l.length<=100000)(of:List Int)(k:Nat):(jf l of k).length<=1000000:=by
 unfold jf;split
 .simp
 .exact wK hn of k
def Jb(l:List Nd)(hl:dV l)(hb:Mj l=true)(of:List Int)(Mx:of.length<=1000000)(MY:∀x∈of,0<=x/\x<l.length)(hm:oS l of=true)(k:Nat)(hk:k<=of.length):
 bc prog 124 [aM l,bj of,vI k] (.LI [vI (ja l of k),vI 0]):=λU=>by
 refine Kb.r (by simp[Gh]) ?_;have hs:=aa.refl U;have hn:l.length<=100000:=by have:=hl.1;omega
 refine ab.mix 11 ?_;apply sR;simp only[go_sem,seval,Gh];refine ab.aC rfl rfl rfl (zK l hl hb of Mx MY hm k hk _) ?_;apply sR;simp only[go_sem,seval];refine ab.aC rfl rfl rfl (BL _ (rX hn of k) _) ?_;apply sR;simp only[go_sem,seval];exact aE.pure hs rfl
def wm(l:List Nd)(of:List Int):List Int:=(List.range (of.length+1)).map (ja l of)
def GZ(l:List Nd)(hl:dV l)(hb:Mj l=true)(of:List Int)(Mx:of.length<=1000000)(MY:∀x∈of,0<=x/\x<l.length)(hm:oS l of=true):
 bc prog 95 [aM l,bj of] (.LI [bj (wm l of),vI 0]):=λU=>by
 refine e95.r (by simp[c95]) ?_;have hs:=aa.refl U;have Ok:=fC of;refine ab.mix 11 ?_;apply sR;simp only[go_sem,seval,c95];refine ab.aC rfl rfl rfl (og l hl hb of Mx hm _) ?_;have q0:((0:Int)≠0)=False:=Ly (λh=>h rfl);have r0:LP .i64 ((of.length:Int)+1):=au;apply sR;simp only[go_sem,seval,q0,Ok,r0];refine ab.kW (λst=>aa U st.U/\aQ U st.U 3 1 (st.s 7) ((wm l of).map vI))
  (λm st=>∃j:Nat,j<=of.length+1/\m=of.length+1-j/\aa U st.U/\aQ U st.U 3 1 (st.s 7) (((List.range j).map (ja l of)).map vI)/\st.s 0=aM l/\st.s 1=bj of/\st.s 19=vI ((of.length:Int)+1)/\st.s 20=vI j) (of.length+1) ?_ ?_ ?_
 .exact⟨0,by omega,rfl,hs,aQ.start,rfl,rfl,rfl,rfl⟩
 .clear hs;rintro m ⟨S,J⟩ ⟨j,hj,rfl,hs,ho,t0,t1,t19,t20⟩;simp only at hs ho t0 t1 t19 t20;generalize TF:S 7=v7 at ho;refine ab.mix 11 ?_;by_cases Lr:j<of.length+1
  .have q:((j:Int)<of.length+1)=True:=LH;have r1:LP .i64 ((j:Int)+1):=au;have Mh:(((List.range (j+1)).map (ja l of)).map vI)=(((List.range j).map (ja l of)).map vI)++[vI (ja l of j)]:=by
    rw[List.range_succ];simp
   have Rv:(((List.range j).map (ja l of)).map vI).length=j:=by simp
   apply sR;simp only[go_sem,seval,t0,t1,t19,t20,q];refine ab.aC rfl rfl rfl (Jb l hl hb of Mx MY hm j (by omega) _) ?_;generalize ((List.range j).map (ja l of)).map vI=rows at*;apply sR;simp only[go_sem,seval,t0,t1,t19,t20,TF];refine ae λi32 Z32 Xa a32 f32=>?_;obtain⟨LQ,NF,Mn,RW,RB⟩:=ho.AM Xa;have MR:(rows.length+1)*9<=140737488355328:=by omega
   simp only[go_sem,seval,t0,t1,t19,t20,TF,NF,fm a32,MR];refine er λi33 Z33 s33 a33 f33=>?_;have k33:=(Mn U (aa.refl _) Z32 (hs.trans Xa)).trans s33;have n33:U i33=none:=(hs.trans Xa).none f33;simp only[go_sem,seval,t0,t1,t19,t20,r1];refine⟨_,?_,j+1,by omega,rfl,k33,?_,by simp[t0,t1,t19]⟩
   .omega
   .rw[Mh];exact aQ.new (by simp) a33 n33
  .have q:((j:Int)<of.length+1)=False:=Ly;have Nj:j=of.length+1:=by omega
   subst Nj;apply sR;simp only[go_sem,seval,t0,t1,t19,t20,q];exact⟨hs,TF▸ho⟩
 .rintro⟨S,J⟩ ⟨hs,ho⟩;simp only at hs ho;generalize TF:S 7=v7 at ho;refine ab.mix 11 ?_;apply sR;simp only[go_sem,seval,TF];exact⟨_,U,hs,Wk.LI (vs':=[bj (wm l of),vI 0]) ⟨ho.wk (aa.refl _) hs,Wk.refl hs _,trivial⟩,rfl,rfl⟩
open Go.Proofs Go.Proofs.Tryz
def iE(l:List Nd)(of:List Int)(k:Int)(x:Kn):V:=.agg [bj x.ends,bj x.Nl,bj x.both,vI x.text,aM l,bj of,vI k]
def HA(l:List Nd)(hl:dV l)(hb:Mj l=true)(of:List Int)(Mx:of.length<=1000000)(MY:∀x∈of,0<=x/\x<l.length)(hm:oS l of=true)(k:Nat)(hk:k<=of.length):
 bc prog 151 [aM l,bj of,vI k] (.LI [iE l of k (eH l of k),vI 0]):=λU=>by
 refine Lq.r (by simp[GJ]) ?_;have hs:=aa.refl U;refine ab.mix 10 ?_;apply sR;simp only[go_sem,seval,GJ];refine ae λi6 Z6 s6 a6 f6=>?_;have z6:=hs.none f6;replace hs:=hs.trans s6;simp only[go_sem,seval];refine ab.aC rfl rfl rfl (As l hl hb of Mx MY hm k hk _) ?_;apply sR;simp only[go_sem,seval,gT];refine ae λi8 Z8 s8 a8 f8=>?_;have WK:=ao a6 f8;replace a6:=s8 _ _ a6;have z8:=hs.none f8;replace hs:=hs.trans s8;simp only[go_sem,seval,a8,a6,ad WK,gT,af,ai,al,aF];exact aE.pure ((hs.aG z8).aG z6) rfl
def C9:bc prog 172 [] (.agg [vI 0,vI 0,vI 0,vI 0,vI 0,vI 2,vI 2,vI 0,vI 0,vI 0,vI 0,vI 0]):=λU=>by
 refine Kw.r (by simp[HM]) ?_;apply sR;simp only[go_sem,seval,HM];refine ae λPN Z0 s0 a0 f0=>?_;simp only[go_sem,seval,a0];exact .pure (s0.aG f0) rfl
def qx(a:Int):List Int->Nat->Int
 |[],_=>-1
 |q::r,i=>if q=a then i else qx a r (i+1)
def BI{a:Int}{p:List Int}{i:Nat}(h:i<p.length):qx a (p.drop i) i=if p[i]=a then(i:Int)else qx a (p.drop (i+1)) (i+1):=by
 rw[iY h,qx]
def xN(a:Int):∀(p:List Int) (i:Nat),qx a p i>=0↔a∈p
 |[],_=>by simp[qx]
 |q::r,i=>by
  rw[qx];split
  .rename_i h;subst h;simp
  .rename_i h;rw[xN a r (i+1),dI];constructor
   .exact .inr
   .rintro(rfl|h2)
    .exact absurd rfl h
    .exact h2
def Ch(p:List Int)(hp:p.length<=1000000000)(a:Int):bc prog 198 [bj p,vI a] (vI (qx a p 0)):=λU=>by
 refine Kk.r (by simp[Hv]) ?_;have hlp:=fC p;refine ab.mix 9 ?_;apply sR;simp only[go_sem,seval,Hv,hlp];refine ab.loop (λm st=>∃(i:Nat),i<=p.length/\m=p.length-i/\qx a p 0=qx a (p.drop i) i/\st.U=U/\st.s 0=bj p/\st.s 1=vI a/\st.s 7=vI p.length/\st.s 8=vI i) p.length ?_ ?_
 .exact⟨0,by omega,rfl,rfl,rfl,rfl,rfl,rfl,rfl⟩
 .rintro m ⟨s,Z'⟩ ⟨i,hi,rfl,heq,L6,h0,h1,h7,h8⟩;simp only at L6 h0 h1 h7 h8;subst L6;refine ab.mix 9 ?_;by_cases Lr:i<p.length
  .have q:((i:Int)<p.length)=True:=LH;have hd:=BI (a:=a) Lr;have Lv:=λU=>iH (U:=U) Lr;have r1:LP .i64 ((i:Int)+1):=au;by_cases hc:p[i]=a
   .have q1:(a=p[i])=True:=LH hc.symm;apply sR;simp only[go_sem,seval,h0,h1,h7,h8,q,Lv,q1];refine aE.same ?_;rw[heq,hd,aI hc]
   .have q1:(a=p[i])=False:=Ly (λh=>hc h.symm);apply sR;simp only[go_sem,seval,h0,h1,h7,h8,q,Lv,q1,r1];refine⟨_,?_,i+1,by omega,rfl,?_,by simp[h0,h1,h7]⟩
    .omega
    .rw[heq,hd,aJ hc]
  .have q:((i:Int)<p.length)=False:=Ly;have Ni:i=p.length:=by omega
   apply sR;simp only[go_sem,seval,h0,h1,h7,h8,q];refine aE.same ?_;rw[heq,Ni,uN];rfl
def xJ(p:List Int)(hp:p.length<=1000000000)(a:Int):bc prog 176 [bj p,vI a] (.bool (decide (a∈p))):=λU=>by
 refine Ki.r (by simp[GM]) ?_;apply sR;simp only[go_sem,seval,GM];refine ab.aC rfl rfl rfl (Ch p hp a _) ?_;have h:=xN a p 0;by_cases ha:a∈p
 .have q:(qx a p 0>=0)=True:=LH (h.2 ha);apply sR;simp only[go_sem,seval,q];exact aE.same (by simp[ha])
 .have q:(qx a p 0>=0)=False:=Ly (λhh=>ha (h.1 hh));apply sR;simp only[go_sem,seval,q];exact aE.same (by simp[ha])
open Go.Proofs Go.Proofs.Tryz
def j6(of:List Int)(t:Int)(k:Nat):Nat->Nat×Nat
 |0=>(0,0)
 |j+1=>if of.getD j 0=t then if j<k then((j6 of t k j).1+1,(j6 of t k j).2)else((j6 of t k j).1,(j6 of t k j).2+1)else j6 of t k j
def nz(of:List Int)(t:Int)(k:Nat):Nat×Nat:=if t<0 then(0,0)else j6 of t k of.length
def zV(of:List Int)(t:Int)(k:Nat):∀j,(j6 of t k j).1<=j/\(j6 of t k j).2<=j
 |0=>by simp[j6]
 |j+1=>by
  have:=zV of t k j;rw[j6];split
  .split<;>simp only<;>omega
  .omega
def C6(l:List Nd)(of:List Int)(Mx:of.length<=1000000)(k:Nat)(x:Kn):
 bc prog 174 [iE l of k x] (.LI [vI (nz of x.text k).1,vI (nz of x.text k).2]):=λU=>by
 refine JV.r (by simp[GY]) ?_;have hs:=aa.refl U;have Ok:=fC of;obtain⟨E,B,C,t⟩:=x;simp only;refine ab.mix 6 ?_;apply sR;simp only[go_sem,seval,GY,iE,af,ai,al,aF];refine ae λi1 Z1 s1 a1 f1=>?_;have z1:=hs.none f1;replace hs:=hs.trans s1;unfold nz;by_cases ht:t<0
 .have q:(t<0)=True:=LH ht;simp only[go_sem,seval,a1,q,af,ai,al,aF];exact aE.pure hs (by simp[ht])
 have q:(t<0)=False:=Ly ht;rw[aJ ht];simp only[go_sem,seval,a1,q,Ok,af,ai,al,aF];refine ab.loop (λm st=>∃j:Nat,j<=of.length/\m=of.length-j/\st.U=Z1/\st.s 1=.ptr i1 0 0/\st.s 2=vI (j6 of t k j).1/\st.s 3=vI (j6 of t k j).2/\st.s 11=bj of/\st.s 12=vI of.length/\st.s 13=vI j) of.length ?_ ?_
 .exact⟨0,by omega,rfl,rfl,rfl,rfl,rfl,rfl,rfl,rfl⟩
 .rintro m ⟨S,J⟩ ⟨j,hj,rfl,L6,t1,t2,t3,t11,t12,t13⟩;simp only at L6 t1 t2 t3 t11 t12 t13;subst L6;refine ab.mix 6 ?_;by_cases Lr:j<of.length
  .have q0:((j:Int)<of.length)=True:=LH;have r1:LP .i64 ((j:Int)+1):=au;have Lv:=λU=>iH (U:=U) Lr;have Qu:of.getD j 0=of[j]:=by simp[Lr]
   have hle:=zV of t k j;have L8:j6 of t k (j+1)=if of[j]=t then if j<k then((j6 of t k j).1+1,(j6 of t k j).2)else((j6 of t k j).1,(j6 of t k j).2+1)else j6 of t k j:=by rw[j6,Qu]
   have r2:LP .i64 (((j6 of t k j).1:Int)+1):=au;have r3:LP .i64 (((j6 of t k j).2:Int)+1):=au;by_cases hn:of[j]=t
   .have q1:(of[j]≠t)=False:=Ly (λh=>h hn);rw[aI hn]at L8;by_cases hk:j<k
    .have q2:((j:Int)<k)=True:=LH;rw[aI hk]at L8;apply sR;simp only[go_sem,seval,t1,t2,t3,t11,t12,t13,a1,q0,q1,q2,r1,r2,Lv,af,ai,al,aF];refine⟨_,?_,j+1,by omega,rfl,by rw[L8];simp[t1,t2,t3,t11,t12]⟩;omega
    .have q2:((j:Int)<k)=False:=Ly;rw[aJ hk]at L8;apply sR;simp only[go_sem,seval,t1,t2,t3,t11,t12,t13,a1,q0,q1,q2,r1,r3,Lv,af,ai,al,aF];refine⟨_,?_,j+1,by omega,rfl,by rw[L8];simp[t1,t2,t3,t11,t12]⟩;omega
   .have q1:(of[j]≠t)=True:=LH hn;rw[aJ hn]at L8;apply sR;simp only[go_sem,seval,t1,t2,t3,t11,t12,t13,a1,q0,q1,r1,Lv,af,ai,al,aF];refine⟨_,?_,j+1,by omega,rfl,by rw[L8];simp[t1,t2,t3,t11,t12]⟩;omega
  .have q0:((j:Int)<of.length)=False:=Ly;have Nj:j=of.length:=by omega
   apply sR;simp only[go_sem,seval,t1,t2,t3,t11,t12,t13,q0];exact aE.pure hs (by rw[Nj])
open Go.Proofs Go.Proofs.Tryz
def uV:MT:=⟨0,0,0,0,0,2,2,0,0,0,0,0⟩
def vD(l:List Nd)(t:Int):MT:=if 0<=eQ l t.toNat then Pq l (eQ l t.toNat)else uV
def Gq(l:List Nd)(of:List Int)(t:Int)(k:Nat):Bool:=if t<0 then false else decide (((nz of t k).1:Int)<(vD l t).LZ\/((nz of t k).2:Int)<(vD l t).Mg)
def Il(l:List Nd)(hl:dV l)(hb:Mj l=true)(of:List Int)(Mx:of.length<=1000000)(k:Nat)(x:Kn)(hx:x.text<l.length):
 bc prog 152 [iE l of k x] (.bool (Gq l of x.text k)):=λU=>by
 refine K1.r (by simp[GD]) ?_;have hs:=aa.refl U;have hlc:=λx=>C6 l of Mx k x;obtain⟨E,B,C,t⟩:=x;simp only at hx|-;refine ab.mix 7 ?_;apply sR;simp only[go_sem,seval,GD,iE,af,ai,al,aF];refine ae λi1 Z1 s1 a1 f1=>?_;have z1:=hs.none f1;replace hs:=hs.trans s1;unfold Gq;by_cases ht:t<0
 .have q:(t<0)=True:=LH ht;simp only[go_sem,seval,a1,q,af,ai,al,aF];exact aE.pure hs (by simp[ht])
 have q:(t<0)=False:=Ly ht;rw[aJ ht];obtain⟨a,rfl⟩:∃a:Nat,t=a:=⟨t.toNat,by omega⟩
 simp only[go_sem,seval,a1,q,af,ai,al,aF];refine ab.aC rfl rfl rfl (C9 _) ?_;apply sR;simp only[go_sem,seval];refine ae λi3 Z3 s3 a3 f3=>?_;have P8:=ao a1 f3;replace a1:=s3 _ _ a1;have z3:=hs.none f3;replace hs:=hs.trans s3;simp only[go_sem,seval,a3,a1,ad P8,af,ai,al,aF];generalize Su:E' _ i3 _=X3;replace a3:=(congrFun Su i3).symm.trans ak;replace a1:=((congrFun Su i1).symm.trans (ad P8)).trans a1;replace hs:=Eq.subst (motive:=aa _) Su (hs.aG z3);clear Su;refine ab.aC rfl rfl rfl (zi l hl hb a (by omega) _) ?_;have XU:=fI l a;have Tv:vD l (a:Int)=if 0<=eQ l a then Pq l (eQ l a)else uV:=by simp[vD]
 rw[Tv];by_cases hp:0<=eQ l a
 .have q0:(eQ l a>=0)=True:=LH hp;obtain⟨b,RZ⟩:∃b:Nat,eQ l a=b:=⟨(eQ l a).toNat,by omega⟩
  rw[aI hp];rw[RZ]at q0 XU|-;have ME:b<l.length:=by omega
  have MS:=λU=>dT (U:=U) (l:=l) (a:=b) ME;rw[kU ME];apply sR;simp only[go_sem,seval,a1,a3,q0,MS,Nd.cells,ad P8,af,ai,al,aF];generalize Qe:E' X3 i3 _=Y4;have b3:Y4 i3=some ⟨49,12,[jD l[b].st]⟩:=by rw[<-Qe];exact ak
  replace hs:aa U Y4:=by rw[<-Qe];exact hs.aG z3
  clear Qe;generalize l[b].st=st at*;rw[jD]at b3;refine ab.aC rfl rfl rfl (hlc ⟨E,B,C,a⟩ _) ?_;generalize nz of (a:Int) k=L at*;obtain⟨L1,L2⟩:=L;simp only;by_cases h1:(L1:Int)<st.LZ
  .have q1:((L1:Int)<st.LZ)=True:=LH h1;apply sR;simp only[go_sem,seval,b3,q1,af,ai,al,aF];exact aE.pure hs (by simp[h1])
  .have q1:((L1:Int)<st.LZ)=False:=Ly h1;by_cases h2:(L2:Int)<st.Mg
   .have q2:((L2:Int)<st.Mg)=True:=LH h2;apply sR;simp only[go_sem,seval,b3,q1,q2,af,ai,al,aF];exact aE.pure hs (by simp[h2])
   .have q2:((L2:Int)<st.Mg)=False:=Ly h2;apply sR;simp only[go_sem,seval,b3,q1,q2,af,ai,al,aF];exact aE.pure hs (by simp[h1,h2])
 .have q0:(eQ l a>=0)=False:=Ly hp;rw[aJ hp];apply sR;simp only[go_sem,seval,a1,a3,q0,ad P8,af,ai,al,aF];have b3:X3 i3=some ⟨49,12,[jD uV]⟩:=a3;generalize uV=st at*;rw[jD]at b3;refine ab.aC rfl rfl rfl (hlc ⟨E,B,C,a⟩ _) ?_;generalize nz of (a:Int) k=L at*;obtain⟨L1,L2⟩:=L;simp only;by_cases h1:(L1:Int)<st.LZ
  .have q1:((L1:Int)<st.LZ)=True:=LH h1;apply sR;simp only[go_sem,seval,b3,q1,af,ai,al,aF];exact aE.pure hs (by simp[h1])
  .have q1:((L1:Int)<st.LZ)=False:=Ly h1;by_cases h2:(L2:Int)<st.Mg
   .have q2:((L2:Int)<st.Mg)=True:=LH h2;apply sR;simp only[go_sem,seval,b3,q1,q2,af,ai,al,aF];exact aE.pure hs (by simp[h2])
   .have q2:((L2:Int)<st.Mg)=False:=Ly h2;apply sR;simp only[go_sem,seval,b3,q1,q2,af,ai,al,aF];exact aE.pure hs (by simp[h1,h2])
open Go.Proofs Go.Proofs.Tryz
def Ak(l:List Nd)(x:Kn):Bool:=x.both.any λb=>decide ((Pq l b).inside=1)
def yI(l:List Nd)(of:List Int)(k:Nat)(x:Kn){U:ag}{i1:Nat}(h:U i1=some ⟨257,7,[iE l of k x]⟩)(n:Nat)(hn:n<l.length):
 aA prog 175 [vI n,.ptr i1 0 0] U λr Z'=>r=.bool (decide ((Pq l n).inside=1))/\Z'=U:=by
 refine KB.r (by simp[EI]) ?_;refine ab.mix 4 ?_;have MS:=λU=>dT (U:=U) (l:=l) (a:=n) hn;rw[kU hn];rw[iE]at h;by_cases hi:l[n].st.inside=1
 .have q:(l[n].st.inside=1)=True:=LH hi;apply sR;simp only[go_sem,seval,EI,h,MS,Nd.cells,q,af,ai];exact aE.same (by simp[hi])
 .have q:(l[n].st.inside=1)=False:=Ly hi;apply sR;simp only[go_sem,seval,EI,h,MS,Nd.cells,q,af,ai];exact aE.same (by simp[hi])
def AW(l:List Nd)(of:List Int)(k:Nat)(x:Kn)(hx:∀b∈x.both,∃n:Nat,b=n/\n<l.length)(hlen:x.both.length<=1000000):
 bc prog 153 [iE l of k x] (.bool (Ak l x)):=λU=>by
 refine KH.r (by simp[G7]) ?_;have hs:=aa.refl U;refine ab.mix 3 ?_;apply sR;simp only[go_sem,seval,G7,iE,af,ai,al,aF];refine ae λi1 Z1 s1 a1 f1=>?_;have z1:=hs.none f1;replace hs:=hs.trans s1;simp only[go_sem,seval,a1,af,ai,al,aF];refine ab.aC rfl rfl rfl (l4 (p:=λb=>decide ((Pq l b).inside=1)) Reads.ints (by omega) (λb hb=>by
  obtain⟨n,rfl,hn⟩:=hx b hb;exact yI l of k x a1 n hn)) ?_
 apply sR;simp only[go_sem,seval];exact aE.pure hs rfl
def y8(l:List Nd)(hl:dV l)(hb:Mj l=true)(of:List Int)(Mx:of.length<=1000000)(MY:∀x∈of,0<=x/\x<l.length)(hm:oS l of=true)(k:Nat)(hk:k<=of.length)(x:Kn):
 bc prog 154 [iE l of k x] (.bool (decide (1∈jf l of k))):=λU=>by
 refine Km.r (by simp[GV]) ?_;have hs:=aa.refl U;have hn:l.length<=100000:=by have:=hl.1;omega
 refine ab.mix 5 ?_;apply sR;simp only[go_sem,seval,GV,iE,af,ai,al,aF];refine ae λi1 Z1 s1 a1 f1=>?_;have z1:=hs.none f1;replace hs:=hs.trans s1;simp only[go_sem,seval,a1,af,ai,al,aF];refine ab.aC rfl rfl rfl (zK l hl hb of Mx MY hm k hk _) ?_;apply sR;simp only[go_sem,seval];refine ab.aC rfl rfl rfl (xJ _ (by have:=rX hn of k;omega) 1 _) ?_;apply sR;simp only[go_sem,seval];exact aE.pure hs rfl
open Go.Proofs Go.Proofs.Tryz
def CX(s:Int)(j:Nat)(b:Bool):Int:=if b then s+2^j else s
def jX(l:List Nd)(of:List Int)(k:Nat):Nat->Bool
 |0=>Gq l of (eH l of k).text k
 |1=>Ak l (eH l of k)
 |_=>decide (1∈jf l of k)
def dE(l:List Nd)(of:List Int)(k:Nat):Nat->Int
 |0=>0
 |j+1=>CX (dE l of k j) j (jX l of k j)
def pf(l:List Nd)(of:List Int)(k:Nat):Int:=if k=0\/k=of.length then 0 else dE l of k 3
def Dj{l:List Nd}{of:List Int}(MY:∀x∈of,0<=x/\x<l.length)(k:Nat):(eH l of k).text<l.length:=by
 rw[eH];simp only;split
 .rename_i h;have Qu:of.getD k 0=of[k]'h.2.1:=by simp[h.2.1]
  rw[Qu];exact(MY _ (ML h.2.1)).2
 .omega
def Jp(l:List Nd)(hl:dV l)(hb:Mj l=true)(of:List Int)(Mx:of.length<=1000000)(MY:∀x∈of,0<=x/\x<l.length)(hm:oS l of=true)(k:Nat)(hk:k<=of.length):
 bc prog 125 [aM l,bj of,vI k] (.LI [vI (pf l of k),vI 0]):=λU=>by
 refine JL.r (by simp[HD]) ?_;have hs:=aa.refl U;have Ok:=fC of;have hn:l.length<=100000:=by have:=hl.1;omega
 have Oc:∀(f:FuncId) (a:List V),(V.bm f a).cells=[.bm f a]:=λ_ _=>rfl;have MR:∀f:FuncId,(V.bm f [.agg [bj (eH l of k).ends,bj (eH l of k).Nl,bj (eH l of k).both,vI (eH l of k).text,aM l,bj of,vI k]]).stays=true:=λ_=>rfl;have Rg:V.MN.cells=[.MN]:=rfl;refine ab.mix 15 ?_;apply sR;simp only[go_sem,seval,HD];refine ab.aC rfl rfl rfl (HA l hl hb of Mx MY hm k hk _) ?_;have SN:(iE l of k (eH l of k)).stays=true:=rfl;apply sR;simp only[go_sem,seval,iE,SN];refine ae λi8 Z8 s8 a8 f8=>?_;have z8:=hs.none f8;replace hs:=hs.trans s8;have q0:((0:Int)≠0)=False:=Ly (λh=>h rfl);unfold pf;by_cases OW:k=0
 .subst OW;have q1:(((0:Nat):Int)=0)=True:=LH rfl;simp only[go_sem,seval,a8,q0,q1,af,ai,al,aF];exact aE.pure (hs.aG z8) (by simp)
 have q1:((k:Int)=0)=False:=Ly;by_cases Nf:k=of.length
 .have q2:((k:Int)=of.length)=True:=LH;simp only[go_sem,seval,a8,q0,q1,q2,Ok,af,ai,al,aF];exact aE.pure (hs.aG z8) (by simp[Nf])
 have q2:((k:Int)=of.length)=False:=Ly;rw[aJ (by omega)];simp only[go_sem,seval,a8,q0,q1,q2,Ok,Oc,MR,Rg,af,ai,al,aF];generalize Ox:E' _ i8 _=Y8;replace a8:=(congrFun Ox i8).symm.trans ak;replace hs:=Eq.subst (motive:=aa _) Ox (hs.aG z8);clear Ox;refine ae λMa Q4 M0 LG f10=>?_;have UW:=ao a8 f10;replace a8:=M0 _ _ a8;have Ol:=hs.none f10;replace hs:=hs.trans M0;simp only[go_sem,seval,LG,Oc,MR,Rg,af,ai,al,aF];generalize LN:E' _ Ma _=Uf;replace LG:=(congrFun LN Ma).symm.trans ak;replace a8:=((congrFun LN i8).symm.trans (ad UW)).trans a8;replace hs:=Eq.subst (motive:=aa _) LN (hs.aG Ol);clear LN;have ht:=Dj MY (l:=l) k;have c0:bc prog 152 [iE l of k (eH l of k)] (.bool (jX l of k 0)):=Il l hl hb of Mx k (eH l of k) ht;have c1:bc prog 153 [iE l of k (eH l of k)] (.bool (jX l of k 1)):=AW l of k (eH l of k) (vd MY) (ly (nV hn) (by omega));have c2:bc prog 154 [iE l of k (eH l of k)] (.bool (jX l of k 2)):=y8 l hl hb of Mx MY hm k hk (eH l of k);rw[iE]at c0 c1 c2;generalize hpv:V.agg [bj (eH l of k).ends,bj (eH l of k).Nl,bj (eH l of k).both,vI (eH l of k).text,aM l,bj of,vI k]=pv at*;refine ab.kW (λst=>aa U st.U/\st.s 11=vI (dE l of k 3))
  (λm st=>∃j:Nat,j<=3/\m=3-j/\aa U st.U/\st.s 11=vI (dE l of k j)/\st.s 41=.agg [.bm 152 [pv],.bm 153 [pv],.bm 154 [pv]]/\st.s 42=vI j) 3 ?_ ?_ ?_
 .exact⟨0,by omega,rfl,hs,rfl,rfl,rfl⟩
 .clear hs a8 LG;rintro m ⟨S,J⟩ ⟨j,hj,rfl,hs,t11,t41,t42⟩;simp only at hs t11 t41 t42;refine ab.mix 15 ?_;rcases(by omega:j=0\/j=1\/j=2\/j=3)with rfl|rfl|rfl|rfl
  .have O1:S 42=vI 0:=t42;have hp:dE l of k 0=0:=rfl;have Om:S 11=vI 0:=by rw[t11,hp]
   apply sR;simp only[go_sem,seval,Om,t41,O1];refine ab.lu rfl rfl rfl (c0 _) ?_;rintro r Z' ⟨rfl,rfl⟩;cases hv:jX l of k 0
   .apply sR;simp only[go_sem,seval,Om,t41,O1];refine⟨au,_,?_,1,by omega,rfl,hs,by rw[dE,hp,hv];rfl,rfl⟩;omega
   .apply sR;simp only[go_sem,seval,Om,t41,O1];refine⟨au,_,?_,1,by omega,rfl,hs,by rw[dE,hp,hv];rfl,rfl⟩;omega
  .have O1:S 42=vI 1:=t42;have hp:dE l of k 1=0\/dE l of k 1=1:=by rw[dE,dE,CX];split<;>simp
   rcases hp with hp|hp
   .have:=hp;have Om:S 11=vI 0:=by rw[t11,hp]
    apply sR;simp only[go_sem,seval,Om,t41,O1];refine ab.lu rfl rfl rfl (c1 _) ?_;rintro r Z' ⟨rfl,rfl⟩;cases hv:jX l of k 1
    .apply sR;simp only[go_sem,seval,Om,t41,O1];refine⟨au,_,?_,2,by omega,rfl,hs,by rw[dE,hp,hv];rfl,rfl⟩;omega
    .apply sR;simp only[go_sem,seval,Om,t41,O1];refine⟨au,_,?_,2,by omega,rfl,hs,by rw[dE,hp,hv];rfl,rfl⟩;omega
   .have:=hp;have Om:S 11=vI 1:=by rw[t11,hp]
    apply sR;simp only[go_sem,seval,Om,t41,O1];refine ab.lu rfl rfl rfl (c1 _) ?_;rintro r Z' ⟨rfl,rfl⟩;cases hv:jX l of k 1
    .apply sR;simp only[go_sem,seval,Om,t41,O1];refine⟨au,_,?_,2,by omega,rfl,hs,by rw[dE,hp,hv];rfl,rfl⟩;omega
    .apply sR;simp only[go_sem,seval,Om,t41,O1];refine⟨au,_,?_,2,by omega,rfl,hs,by rw[dE,hp,hv];rfl,rfl⟩;omega
  .have O1:S 42=vI 2:=t42;have hp:dE l of k 2=0\/dE l of k 2=1\/dE l of k 2=2\/dE l of k 2=3:=by rw[dE,dE,dE,CX,CX];split<;>split<;>simp
   rcases hp with hp|hp|hp|hp
   .have:=hp;have Om:S 11=vI 0:=by rw[t11,hp]
    apply sR;simp only[go_sem,seval,Om,t41,O1];refine ab.lu rfl rfl rfl (c2 _) ?_;rintro r Z' ⟨rfl,rfl⟩;cases hv:jX l of k 2
    .apply sR;simp only[go_sem,seval,Om,t41,O1];refine⟨au,_,?_,3,by omega,rfl,hs,by rw[dE,hp,hv];rfl,rfl⟩;omega
    .apply sR;simp only[go_sem,seval,Om,t41,O1];refine⟨au,_,?_,3,by omega,rfl,hs,by rw[dE,hp,hv];rfl,rfl⟩;omega
   .have:=hp;have Om:S 11=vI 1:=by rw[t11,hp]
    apply sR;simp only[go_sem,seval,Om,t41,O1];refine ab.lu rfl rfl rfl (c2 _) ?_;rintro r Z' ⟨rfl,rfl⟩;cases hv:jX l of k 2
    .apply sR;simp only[go_sem,seval,Om,t41,O1];refine⟨au,_,?_,3,by omega,rfl,hs,by rw[dE,hp,hv];rfl,rfl⟩;omega
    .apply sR;simp only[go_sem,seval,Om,t41,O1];refine⟨au,_,?_,3,by omega,rfl,hs,by rw[dE,hp,hv];rfl,rfl⟩;omega
   .have:=hp;have Om:S 11=vI 2:=by rw[t11,hp]
    apply sR;simp only[go_sem,seval,Om,t41,O1];refine ab.lu rfl rfl rfl (c2 _) ?_;rintro r Z' ⟨rfl,rfl⟩;cases hv:jX l of k 2
    .apply sR;simp only[go_sem,seval,Om,t41,O1];refine⟨au,_,?_,3,by omega,rfl,hs,by rw[dE,hp,hv];rfl,rfl⟩;omega
    .apply sR;simp only[go_sem,seval,Om,t41,O1];refine⟨au,_,?_,3,by omega,rfl,hs,by rw[dE,hp,hv];rfl,rfl⟩;omega
   .have:=hp;have Om:S 11=vI 3:=by rw[t11,hp]
    apply sR;simp only[go_sem,seval,Om,t41,O1];refine ab.lu rfl rfl rfl (c2 _) ?_;rintro r Z' ⟨rfl,rfl⟩;cases hv:jX l of k 2
    .apply sR;simp only[go_sem,seval,Om,t41,O1];refine⟨au,_,?_,3,by omega,rfl,hs,by rw[dE,hp,hv];rfl,rfl⟩;omega
    .apply sR;simp only[go_sem,seval,Om,t41,O1];refine⟨au,_,?_,3,by omega,rfl,hs,by rw[dE,hp,hv];rfl,rfl⟩;omega
  .have O1:S 42=vI 3:=t42;apply sR;simp only[go_sem,seval,t11,t41,O1];exact hs
 .rintro⟨S,J⟩ ⟨hs,t11⟩;simp only at hs t11;refine ab.mix 15 ?_;apply sR;simp only[go_sem,seval,t11];exact aE.pure hs rfl
end Go.Vc
