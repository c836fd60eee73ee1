import Derived.Test.YtinojdikhfbfbaaGreatW6
set_option linter.all false
set_option maxHeartbeats 8000000
set_option maxRecDepth 100000
open Go.Proofs.Tryz
namespace Go.Vc
open Go.Proofs
def Xc(l:List Nd):Nat->Int->List Int
 |0,_=>[]
 |f+1,p=>if 0<=p then p::Xc l f (cS l p.toNat)else[]
def xu{l:List Nd}{f:Nat}{p:Int}(h:p<0):Xc l f p=[]:=by
 cases f with
 |zero=>rfl
 |succ f=>rw[Xc,aM (by omega)]
def th{l:List Nd}{f:Nat}{p:Int}(h:0<=p)(hf:p<f):∃g,f=g+1/\Xc l f p=p::Xc l g (cS l p.toNat):=by
 cases f with
 |zero=>omega
 |succ f=>exact⟨f,rfl,by rw[Xc,aK h]⟩
def dR(l:List Nd)(a:Nat):-1<=cS l a/\cS l a<a:=uE l a a
def ldN(U:ak)(l:List Nd):cQ U false 1 (.rp (aQ l))=some (aQ l):=rfl
def fdN(l:List Nd):ji false 0 1 (.rp (.agg [aQ l]))=some (.rp (aQ l)):=rfl
def oC(l:List Int):List (List V):=l.map λp=>[vI p]
def uq(l:List Nd)(hl:dq l)(hb:Sc l=true)(a:Nat)(ha:a<l.length):Iter prog 190 [.rp (.agg [aQ l]),.rp (vI a)] (oC (Xc l (l.length+1) (cS l a))):=by
 have hhas:mK l (a:Int)=true:=jW.2 ⟨by omega,by omega⟩;have hpr:=dR l a;refine⟨MV.c,λSo τ Jx Z0 hy hJ=>?_⟩;refine(MV.q ?_).2;refine mS 5 ?_;simp only[BB,seval,<-decide_not,bt,ga,aT,eN,eR,eS,eP,eH,bU,lx,bF,gW,eV,gX,dE,dy,cj,jS,cV,cW,cN,Tm,ln,dN,bT,mN,dP,cG,dL,dx,lA,binBV,bY,dS,V.cells,V.stays,Th.nothing,My,ldN,fdN];refine pR rfl (Ka l a _) ?_;rw[hhas];apply sR;simp only[BB,seval,<-decide_not,bt,ga,aT,eN,eR,eS,eP,eH,bU,lx,bF,gW,eV,gX,dE,dy,cj,jS,cV,cW,cN,Tm,ln,dN,bT,mN,dP,cG,dL,dx,lA,binBV,bY,dS,V.cells,V.stays,Th.nothing,ldN,fdN];refine pS rfl (xq l hl hb a ha _) ?_;simp only[go_sem,seval];refine aq.loop (λm st=>∃(pre:List Int) (q:Int) (f:Nat) (ZJ:ak),m=(q+1).toNat/\-1<=q/\q<l.length/\q<f/\Xc l (l.length+1) (cS l a)=pre++Xc l f q/\τ (oC pre) ZJ/\aa ZJ st.U/\
  st.s 0=.yl So/\st.s 1=.rp (.agg [aQ l])/\st.s 4=vI q) (cS l a+1).toNat ?_ ?_
 .exact⟨[],cS l a,l.length+1,Z0,rfl,by omega,by omega,by omega,rfl,hJ,aa.refl _,rfl,rfl,rfl⟩
 .rintro m ⟨s,Z'⟩ ⟨pre,q,f,ZJ,rfl,hq1,hq2,hqf,U6,hJp,G',h0,h1,h4⟩;simp only at G' h0 h1 h4;refine aq.mix 5 ?_;by_cases hq:0<=q
  .obtain⟨g,rfl,hu⟩:=th (l:=l) hq hqf;obtain⟨k,rfl⟩:∃k:Nat,q=k:=⟨q.toNat,by omega⟩
   have U1:((k:Int)>=0)=True:=by simp
   rw[gu]at hu;have ZV:=dR l k;have Uj:k<l.length:=by omega
   have e:oC (Xc l (l.length+1) (cS l a))=oC pre++[vI k]::oC (Xc l g (cS l k)):=by rw[U6,hu];simp[oC]
   apply sR;simp only[go_sem,seval,h0,h1,h4,U1];refine aq.qq (Post:=λb Z2=>∃Sp,bE ZJ Z' Sp Z2/\((b=true/\τ (oC pre++[[vI k]]) Sp)\/(b=false/\Jx (oC pre++[[vI k]]) Sp))) rfl rfl rfl (hy _ [vI k] _ ZJ Z' e hJp G') ?_;rintro b Z2 ⟨Sp,Uv,Ui⟩;rcases Ui with⟨rfl,Ui⟩|⟨rfl,Ui⟩
   .apply sR;simp only[BB,seval,<-decide_not,bt,ga,aT,eN,eR,eS,eP,eH,bU,lx,bF,gW,eV,gX,dE,dy,cj,jS,cV,cW,cN,Tm,ln,dN,bT,mN,dP,cG,dL,dx,lA,binBV,bY,dS,V.cells,V.stays,Th.nothing,h0,h1,h4,ldN,fdN];refine pS rfl (xq l hl hb k Uj _) ?_;simp only[go_sem,seval,h0,h1];refine⟨_,?_,pre++[(k:Int)],cS l k,g,Sp,rfl,by omega,by omega,by omega,by rw[U6,hu];simp,?_,Uv.1,by simp[h0,h1]⟩
    .omega
    .simpa[oC]using Ui
   .apply sR;simp only[go_sem,seval,h0,h1,h4];refine⟨_,Sp,Uv.1,Wk.refl Uv.1 _,.inr ⟨oC pre++[[vI k]],?_,Ui⟩⟩;rw[e];exact⟨oC (Xc l g (cS l k)),by simp⟩
  .have U1:(q>=0)=False:=by simp;omega
   apply sR;simp only[go_sem,seval,h0,h1,h4,U1];rw[xu (l:=l) (f:=f) (p:=q) (by omega),j6]at U6;exact⟨_,ZJ,G',Wk.refl G' _,.inl (by rw[U6];exact hJp)⟩
def Ag(l:List Nd)(a:Int):aV prog 155 [.agg [aQ l],vI a] (.fn 190 [.rp (.agg [aQ l]),.rp (vI a)]):=λU=>by
 refine QU.q ?_;refine aq.mix 4 ?_;have q1:(V.agg [aQ l]).cells.length=1:=rfl;have q2:(V.agg [aQ l]).stays=true:=rfl;generalize V.agg [aQ l]=x at*;apply sR;simp only[go_sem,seval,LX,q1,q2];refine aD λVz Z1 s1 a1 f1=>?_;simp only[go_sem,seval];refine aD λWY Z2 s2 a2 f2=>?_;simp only[go_sem,seval];exact⟨_,U,s1.trans s2,Wk.fn (vs':=[.rp x,.rp (vI a)]) ⟨Wk.ptr (s1.trans s2) (s2 _ _ a1) f1,Wk.ptr (s1.trans s2) a2 (s1.none f2),trivial⟩,rfl,rfl⟩
def BW(l:List Nd)(hl:dq l)(hb:Sc l=true)(a:Nat)(ha:a<l.length):aV prog 215 [aQ l,vI a] (vI (cS l a)):=λU=>by
 refine Pw.q ?_;refine aq.mix 5 ?_;have Yc:=uq l hl hb a ha;have hpr:=dR l a;apply sR;simp only[go_sem,seval,MU];refine aD λUJ Z1 s1 a4 f4=>?_;simp only[go_sem,seval];refine pS rfl (BX l hl hb _) ?_;simp only[go_sem,seval];refine pS rfl (Ag l a _) ?_;simp only[go_sem,seval];generalize hS:mix 5 _ _=S;have S4:S 4=.ptr UJ 0 0:=by rw[<-hS];rfl
 have S9:S 9=.fn 190 [.rp (.agg [aQ l]),.rp (vI a)]:=by rw[<-hS];rfl
 clear hS;have hx0:∀x pre post,oC (Xc l (l.length+1) (cS l a))=pre++x::post->pre=[]->x=[vI (cS l a)]:=λx pre post h hp=>by
  subst hp;by_cases h0:0<=cS l a
  .obtain⟨g,_,hu⟩:=th (l:=l) (f:=l.length+1) h0 (by omega);rw[hu]at h;simp only[oC,fC,mL,List.cons.injEq]at h;exact h.1.symm
  .rw[xu (by omega)]at h;simp[oC]at h
 refine aq.gi (g:=.t 9) (caps:=[.rp (.agg [aQ l]),.rp (vI a)]) S9 Yc (λx hx=>?_) [] (λpre ZJ=>pre=[]/\ZJ=Z1) (λc pre ZJ=>c=none/\ZJ=C' Z1 UJ ⟨3,1,[vI (cS l a)]⟩) ?_ ?_ ?_ ?_ ?_
 .simp only[oC,iD]at hx;obtain⟨t,_,rfl⟩:=hx;rfl
 .exact⟨rfl,rfl⟩
 .rintro pre x post ZJ ZB U6 ⟨rfl,rfl⟩ G';obtain rfl:=hx0 x [] post U6 rfl;have b4:=G' _ _ a4;generalize UL:pz S [10] [vI (cS l a)]=S0;have T4:S0 4=.ptr UJ 0 0:=by rw[<-UL];exact S4
  have T10:S0 10=vI (cS l a):=by rw[<-UL];rfl
  clear UL;refine mS 11 ?_;simp only[go_sem,seval,T4,T10,b4];refine mS 11 ?_;simp only[go_sem,seval,T4,b4];exact⟨_,(bE.refl G').set (o:=⟨3,1,[vI 0]⟩) a4,rfl⟩
 .rintro Z' ⟨hn,rfl⟩;have hpm:cS l a=-1:=by
   by_cases h0:0<=cS l a
   .obtain⟨g,_,hu⟩:=th (l:=l) (f:=l.length+1) h0 (by omega);rw[hu]at hn;simp[oC]at hn
   .omega
  refine mS 5 ?_;simp only[go_sem,seval,S4,a4];rw[hpm];exact az.pure (s1.aL f4) rfl
 .intro id h;cases h
 .rintro pre Z' _ ⟨_,rfl⟩;refine mS 5 ?_;simp only[go_sem,seval,S4,av];exact az.pure (s1.aL f4) rfl
open Go.Proofs
def iB{l:List Nd}{a b:Int}:cc l a b=true↔0<=a/\b<l.length/\a<=b/\b<a+RJ l a.toNat:=by
 simp only[cc,Ba,jW,Uy];constructor
 .rintro⟨h1,h2,h3,h4⟩;omega
 .rintro⟨h1,h2,h3,h4⟩;omega
def wM(l:List Nd)(b:Nat):∀k,(lM l b k=-1/\∀i:Nat,i<k->cc l i b=false)\/∃q:Nat,lM l b k=q/\q<k/\cc l q b=true/\∀i:Nat,q<i->i<k->cc l i b=false
 |0=>.inl ⟨rfl,λi h=>by omega⟩
 |k+1=>by
  rw[lM];cases hk:cc l k b
  .simp only[iP,↓reduceIte];rcases wM l b k with⟨h1,h2⟩|⟨q,h1,h2,h3,h4⟩
   .refine .inl ⟨h1,λi hi=>?_⟩;by_cases e:i=k
    .rw[e];exact hk
    .exact h2 i (by omega)
   .refine .inr ⟨q,h1,by omega,h3,λi hi Tp=>?_⟩;by_cases e:i=k
    .rw[e];exact hk
    .exact h4 i hi (by omega)
  .simp only[↓reduceIte];exact .inr ⟨k,rfl,by omega,hk,λi hi Tp=>by omega⟩
def nest{l:List Nd}(hb:Sc l=true){x q:Nat}(hx:x<l.length)(h1:x<=q)(h2:(q:Int)<x+RJ l x)(hq:q<l.length):(q:Int)+RJ l q<=x+RJ l x:=by
 by_cases e:x=q
 .subst e;omega
 .have Sa:bC l 0 l.length=true:=by simp only[Sc,Ba]at hb;exact hb.2
  obtain⟨z1,z2⟩:=qP hb hx;obtain⟨z3,_⟩:=bS (Sf _) Sa (Nat.zero_le x) hx;have Xp:=nO l (l.length+1) 0 l.length (by omega) (Sf _) Sa x (by omega) hx hx;rw[<-gZ hx]at Xp;have:=(bS (e:=x+(RJ l x).toNat) (by omega) Xp (k:=q) (by omega) (by omega)).1;omega
def Gc(l:List Nd):∀(f:Nat) (p x:Int),x∈Xc l f p->0<=x/\x<=p
 |0,_,_,h=>by simp[Xc]at h
 |f+1,p,x,h=>by
  rw[Xc]at h;split at h
  .rcases dZ.1 h with rfl|h
   .omega
   .have:=Gc l f _ x h;have:=dR l p.toNat;omega
  .simp at h
def pT{l:List Nd}{a b:Nat}:∀k:Nat,(∀i:Nat,i<k->cc l i a=cc l i b)->dr l a k=dr l b k
 |0,_=>rfl
 |k+1,h=>by
  rw[dr,dr,h k (by omega),pT k λi hi=>h i (by omega)]
def nS{l:List Nd}{a q:Nat}:∀k:Nat,q<=k->(∀i:Nat,q<=i->i<k->cc l i a=false)->dr l a k=dr l a q
 |0,h,_=>by rw[Nat.le_zero.1 h]
 |k+1,h,hh=>by
  by_cases e:q=k+1
  .rw[e]
  .rw[dr,hh k (by omega) (by omega),aM (by simp)];exact nS k (by omega) λi h1 h2=>hh i h1 (by omega)
def wD{l:List Nd}(hb:Sc l=true):∀(f a:Nat),a<l.length->cS l a<f->Xc l f (cS l a)=dr l a a
 |f,a,ha,hf=>by
  rcases wM l a a with⟨h1,h2⟩|⟨q,h1,h2,h3,h4⟩
  .have e:cS l a=-1:=h1;rw[e,xu (by omega),nS (q:=0) a (by omega) λi _ hi=>h2 i hi];rfl
  .have e:cS l a=q:=h1;rw[e]at hf|-;obtain⟨g,rfl,hu⟩:=th (l:=l) (f:=f) (p:=q) (by omega) hf;rw[hu,gu];have hpq:=dR l q;rw[wD hb g q (by omega) (by omega),nS (q:=q+1) a (by omega) λi i1 i2=>h4 i (by omega) i2,dr,h3,aK rfl];congr 1;refine pT q λi hi=>?_;rw[Bool.eq_iff_iff,iB,iB];rw[iB]at h3;simp only[gu]at h3|-;constructor
   .rintro⟨_,_,_,g4⟩;have:=nest hb (x:=i) (q:=q) (by omega) (by omega) g4 (by omega);omega
   .rintro⟨_,_,_,_⟩;omega
open Go.Proofs
def bE.JT{ZJ U Sp Z':ak}(h:bE ZJ U Sp Z'){e:Option Nat}(he:∀i,e=some i->∃o,Sp i=some o):bE ZJ U (Vc.bR Sp e) (Vc.bR Z' e):=by
 cases e with
 |none=>exact h
 |some e=>
  refine⟨Cm h.1,λi o h1 h2=>?_⟩;obtain⟨h3,h4⟩:=h.2 i o h1 h2;have:i≠e:=λe'=>by subst e';obtain⟨o',ho'⟩:=he i rfl;rw[h4]at ho';cases ho'
  simp only[Vc.bR,eT this];exact⟨h3,h4⟩
def aP.Jc{K ZJ Z1:ak}{e sz:Nat}{v:V}{rows:List V}(h:aP K ZJ e sz v rows)(hs:aa ZJ Z1):
 ∃idA,cm Z1 e sz v=some (rows,idA)/\∀i,idA=some i->K i=none/\∃o,ZJ i=some o:=by
 rcases h with⟨rfl,rfl⟩|⟨id,rfl,ho,hk⟩
 .exact⟨none,rfl,λ_ h=>by cases h⟩
 .refine⟨some id,?_,λi h=>by cases h;exact⟨hk,_,ho⟩⟩;simp only[cm,hs _ _ ho];rw[aK ⟨trivial,trivial,trivial,Sf _⟩,ik]
def cg(U:ak)(id:Nat):ak:=λi=>if i=id then some ⟨0,0,[]⟩else U i
def bh{U:ak}{id i:Nat}:cg U id i=none↔i≠id/\U i=none:=by
 unfold cg;split
 .rename_i h;simp[h]
 .rename_i h;simp[h]
def xI{α:Type}{f:α->V}{xs:List α}{pre post:List (List V)}{x:List V}(h:(xs.map λa=>[f a])=pre++x::post):∃a,xs[pre.length]?=some a/\x=[f a]:=by
 have:=congrArg (·[pre.length]?) h;simp only[sP,KZ (Sf _),Nat.sub_self,G6,Zq8]at this;obtain⟨t,h1,h2⟩:=this;exact⟨t,h1,h2.symm⟩
def Ae{g:FuncId}{caps:List V}{xs:List Int}(Yc:Iter prog g caps (xs.map λn=>[vI n]))(hx:xs.length<=1000000)(U:ak):
 aB prog 189 [.bj,.fn g caps] U λr Z'=>aa U Z'/\aP U Z' 3 1 r (xs.map vI):=by
 refine QE.q ?_;refine mS 8 ?_;simp only[go_sem,seval,Oj];refine aD λWY Z2 s2 a2 f2=>?_;simp only[go_sem,seval];generalize hS:mix 8 _ _=S;have S2:S 2=.ptr WY 0 0:=by rw[<-hS];rfl
 have S6:S 6=.fn g caps:=by rw[<-hS];rfl
 clear hS;refine aq.gi (g:=.t 6) (caps:=caps) S6 Yc (λx hx=>?_) [] (λpre ZJ=>∃v,ZJ WY=some ⟨57,1,[v]⟩/\aa U ZJ/\aP (cg U WY) ZJ 3 1 v ((xs.take pre.length).map vI))
  (λ_ _ _=>False) ?_ ?_ ?_ ?_ ?_
 .obtain⟨t,_,rfl⟩:=iD.1 hx;rfl
 .exact⟨.bj,a2,s2,by simpa using aP.start⟩
 .rintro pre x post ZJ ZB U6 ⟨v,J2,Js,Jo⟩ G';obtain⟨t,hti,rfl⟩:=xI (f:=vI) U6;have Sd:xs.take (pre.length+1)=xs.take pre.length++[t]:=by rw[J9,hti];rfl
  have hlen:(pre++[[vI t]]).length=pre.length+1:=by simp
  rw[hlen,Sd];have Uj:((xs.take pre.length).map vI).length<=1000001:=by simp;omega
  have Xd:v.cells=[v]:=by rcases Jo with⟨rfl,_⟩|⟨_,rfl,_⟩<;>rfl
  generalize Sa:((xs.take pre.length).map vI)=rows at*;have b2:=G' _ _ J2;generalize UL:pz S [7] [vI t]=S0;have T2:S0 2=.ptr WY 0 0:=by rw[<-UL];exact S2
  have T7:S0 7=vI t:=by rw[<-UL];rfl
  refine mS 8 ?_;simp only[go_sem,seval,T2,T7];apply sR;simp only[go_sem,seval,T2,T7,b2,Xd];rw[aH];intro VC f28;have YI:=(bE.refl G').Hn (o:=⟨3,1,[vI t]⟩) f28;have y2:C' ZB VC ⟨3,1,[vI t]⟩ WY=some ⟨57,1,[v]⟩:=by rw[ab (bb b2 f28)];exact b2
  have a28:C' ZB VC ⟨3,1,[vI t]⟩ VC=some ⟨3,1,[vI t]⟩:=av;generalize C' ZB VC ⟨3,1,[vI t]⟩=Z8 at*;obtain⟨idA,SE,YU⟩:=Jo.Jc YI.1;have Sh:(rows.length+1)*9<=140737488355328:=by omega
  have k2:cg U WY WY≠none:=λh=>(bh.1 h).1 rfl;have YY:∀(i:Nat) (Zx:ak),cg U WY i≠none->Vc.bR Zx idA i=Zx i:=λi Zx hk=>by
   cases idA with
   |none=>rfl
   |some a=>exact eT (λe=>hk (by rw[e];exact(YU a rfl).1))
  simp only[go_sem,seval,SE,bN a28,Sh,T2];rw[aH];intro TU f29;have f29:Z8 TU=none:=f29;have m29:WY≠TU:=bb y2 f29;have f29':Vc.bR Z8 idA TU=none:=by
   cases idA with
   |none=>exact f29
   |some a=>simp only[Vc.bR,del];split<;>first|rfl|exact f29
  have y2':C' (Vc.bR Z8 idA) TU ⟨3,1,rows++[vI t]⟩ WY=some ⟨57,1,[v]⟩:=by rw[ab m29,YY _ _ k2];exact y2
  have hB9:=((YI.JT (e:=idA) λi h=>(YU i h).2).new (o:=⟨3,1,rows++[vI t]⟩) f29').set (id:=WY) (o:=⟨57,1,[v]⟩) (o':=⟨57,1,[.own TU 0 (rows.length+1)]⟩) (by rw[ab m29,YY _ _ k2];exact J2);simp only[go_sem,seval,Xd,y2',T2];refine⟨_,hB9,.own TU 0 (rows.length+1),av,?_,?_⟩
  .refine aa.aL (λi o h=>?_) f2;have h1:=Js _ _ h;rw[ab (bb (YI.1 _ _ h1) f29),YY _ _ (λhk=>by rw[(bh.1 hk).2]at h;cases h)];exact h1
  .rw[eQ,Sa];refine aP.new (by simp) (by rw[ab m29.symm,av];rfl) ?_;rw[bh];refine⟨m29.symm,?_⟩;cases h:U TU with
   |none=>rfl
   |some o=>rw[YI.1 _ _ (Js _ _ h)]at f29;cases f29
 .rintro Z' ⟨v,J2,Js,Jo⟩;rw[dC,ik]at Jo;have Xd:v.cells=[v]:=by rcases Jo with⟨rfl,_⟩|⟨_,rfl,_⟩<;>rfl
  refine mS 5 ?_;simp only[go_sem,seval,S2,J2,Xd];refine SG ⟨Js,?_⟩;rcases Jo with h|⟨id,h1,h2,h3⟩
  .exact .inl h
  .exact .inr ⟨id,h1,h2,(bh.1 h3).2⟩
 .intro id h;cases h
 .rintro pre Z' _ ⟨⟩
def xg{g:FuncId}{caps:List V}{xs:List Int}(Yc:Iter prog g caps (xs.map λn=>[vI n]))(hx:xs.length<=1000000):
 aV prog 154 [.fn g caps] (aX xs):=λU=>by
 refine O8.q ?_;refine mS 3 ?_;simp only[go_sem,seval,Mn];refine Tx rfl (Ae Yc hx U) ?_;rintro r Z1 ⟨h1,h2⟩;apply sR;simp only[go_sem,seval];exact h2.ns h1 rfl
def Xe(l:List Nd)(a:Nat):List Int:=Xc l (l.length+1) (cS l a)
def kD(l:List Nd):∀(f:Nat) (p:Int),(Xc l f p).length<=f
 |0,_=>by simp[Xc]
 |f+1,p=>by
  rw[Xc];split
  .have:=kD l f (cS l p.toNat);simp only[TI];omega
  .simp
def B0{l:List Nd}(hb:Sc l=true){a:Nat}(ha:a<l.length):Xe l a=dr l a a:=wD hb _ _ ha (by have:=dR l a;omega)
def zA(l:List Nd)(hl:dq l)(hb:Sc l=true)(hn:l.length<=100000)(a:Nat)(ha:a<l.length):aV prog 120 [aQ l,vI a] (aX (Xe l a)):=λU=>by
 refine O6.q ?_;refine mS 5 ?_;simp only[go_sem,seval,Mq];refine pS rfl (BX l hl hb _) ?_;simp only[go_sem,seval];refine pS rfl (Ag l a _) ?_;simp only[go_sem,seval];refine pS rfl (xg (uq l hl hb a ha) (by have:=kD l (l.length+1) (cS l a);omega) _) ?_;simp only[go_sem,seval];exact az.same rfl
structure SOk(s:S1):Prop where
 top:0<=s.top/\s.top<=1099511627776
 RX:0<=s.RX/\s.RX<=1099511627776
 RH:0<=s.RH/\s.RH<=1099511627776
 O':0<=s.O'/\s.O'<=1099511627776
 Si:0<=s.Si/\s.Si<=1099511627776
 RL:0<=s.RL/\s.RL<=1099511627776
 RY:0<=s.RY/\s.RY<=1099511627776
 head:0<=s.head/\s.head<=1099511627776
 before:0<=s.before/\s.before<=4
 after:0<=s.after/\s.after<=4
 inside:0<=s.inside/\s.inside<=1
 clear:0<=s.clear/\s.clear<=3
structure YZ(x:Nd):Prop where
 st:SOk x.st
 kind:x.kind=1\/x.kind=2\/x.kind=3\/x.kind=4
 line:0<=x.line/\x.line<=1099511627776
 space:0<=x.space/\x.space<=1099511627776
 words:∀w∈x.words,1<=w/\w<=1099511627776
 w:0<=x.w/\x.w<=1099511627776
 h:0<=x.h/\x.h<=1099511627776
 side:0<=x.side/\x.side<=2
 text:x.kind=2->0<x.words.length/\1<=x.line
 box:x.kind=3\/x.kind=4->1<=x.w/\1<=x.h
 fl:x.kind=4->1<=x.side
 ic:x.kind≠1->x.st=S1.zero
 nowords:x.kind≠2->x.words=[]
def pj{n a b:Int}:bc n a b=true↔a<=n/\n<=b:=by simp[bc]
def FK:SOk S1.zero:=by constructor<;>simp[S1.zero]
def JQ{s:S1}(h:s.ok=true):SOk s:=by
 simp only[S1.ok,Ba,pj,mx]at h;constructor<;>omega
def KY{x:Nd}(h:x.ok=true):YZ x:=by
 unfold Nd.ok at h;split at h
 .rename_i hk;simp only[Ba,Uy]at h;obtain⟨⟨⟨⟨⟨⟨h1,h2⟩,h3⟩,h4⟩,h5⟩,h6⟩,h7⟩:=h;have hw:x.words=[]:=tc h4;exact⟨JQ h1,.inl hk,by omega,by omega,by rw[hw];simp,by omega,by omega,by omega,by omega,by omega,by omega,by omega,λ_=>hw⟩
 .rename_i hk;split at h
  .cases h
  .rename_i RR;have hs:x.st=S1.zero:=Classical.byContradiction RR;have hso:SOk x.st:=by rw[hs];exact FK
   split at h
   .rename_i Ti;simp only[Ba,Uy,pj,mx,fL]at h;obtain⟨⟨⟨⟨⟨⟨h1,h2⟩,h3⟩,h4⟩,h5⟩,h6⟩,h7⟩:=h;exact⟨hso,.inr (.inl Ti),by omega,by omega,h1,by omega,by omega,by omega,λ_=>⟨h2,h3.1⟩,by omega,by omega,λ_=>hs,by omega⟩
   .rename_i Ti;simp only[Ba,kO,Uy,pj,mx]at h;obtain⟨⟨⟨⟨⟨h1,h2⟩,h3⟩,h4⟩,h5⟩,h6⟩:=h;have hw:x.words=[]:=tc h3;exact⟨hso,by omega,by omega,by omega,by rw[hw];simp,by omega,by omega,by omega,by omega,by omega,by omega,λ_=>hs,λ_=>hw⟩
def eJ{l:List Nd}(hb:Sc l=true){a:Nat}(h:a<l.length):YZ l[a]:=by
 simp only[Sc,Ba,fL]at hb;exact KY (hb.1 _ (Sx h))
open Go.Proofs
structure Rm where
 (x w:Int)
deriving DecidableEq
def jQ(r:Rm):V:=.agg [vI r.x,vI r.w]
def cK(l:List Rm):V:=.sl 2 (l.map jQ)
def sT(l:List Nd)(a:Nat):Int:=((l[a]?).map λn=>n.st.Si).getD 0
def jz(r:Rm)(i:Int):Rm:=⟨min (r.x+i) 1099511627776,max (r.w-2*i) 1⟩
def cZ(l:List Nd):Nat->Nat->Nat->Rm->List Rm
 |0,_,_,_=>[]
 |k+1,a,e,r=>if a<e then r::(cZ l k (a+1) (a+(RJ l a).toNat) (jz r (sT l a))++cZ l k (a+(RJ l a).toNat) e r)else[]
def ju{l:List Nd}{e:Nat}(he:e<=l.length):∀(k a:Nat) (r:Rm),e-a<=k->a<=e->bC l a e=true->(cZ l k a e r).length=e-a
 |0,a,r,hk,ha,_=>by simp[cZ];omega
 |k+1,a,r,hk,ha,hr=>by
  rw[cZ];split
  .rename_i u';obtain⟨h1,h2⟩:=bS he hr (Sf a) u';obtain⟨h3,h4⟩:=cE he hr u';have ih:=ju he k (a+(RJ l a).toNat) r (by omega) (by omega) h3;have ih2:=ju (e:=a+(RJ l a).toNat) (by omega) k (a+1) (jz r (sT l a)) (by omega) (by omega) h4;simp only[TI,kI];omega
  .simp;omega
def ld{l:List Nd}{e:Nat}(he:e<=l.length):∀(k j a:Nat) (r:Rm),e-a<=k->e-a<=j->bC l a e=true->cZ l k a e r=cZ l j a e r
 |0,0,_,_,_,_,_=>rfl
 |0,j+1,a,r,h,_,_=>by rw[cZ,cZ,aM (by omega)]
 |k+1,0,a,r,_,h,_=>by rw[cZ,cZ,aM (by omega)]
 |k+1,j+1,a,r,h,h',hr=>by
  rw[cZ,cZ];split
  .rename_i u';obtain⟨h1,h2⟩:=bS he hr (Sf a) u';obtain⟨h3,h4⟩:=cE he hr u';rw[ld he k j _ _ (by omega) (by omega) h3,ld (e:=a+(RJ l a).toNat) (by omega) k j _ _ (by omega) (by omega) h4]
  .rfl
def bI{U:ak}{l:List Nd}{a:Nat}(h:a<l.length):bG U 20 (aQ l) (.int .i64 a)=some (.rp (.agg (Nd.cells l[a]))):=by
 simp[aQ,bG,h,gz]
def oM(U:ak)(a b c:Nat):ak:=λi=>if i=a\/i=b\/i=c then some ⟨0,0,[]⟩else U i
def gn{U:ak}{a b c i:Nat}:oM U a b c i=none↔i≠a/\i≠b/\i≠c/\U i=none:=by
 unfold oM;split
 .rename_i h;simp;intro h1 h2 h3;simp_all
 .rename_i h;simp only[not_or]at h;simp[h]
structure RmJ(l:List Nd)(Z0:ak)(il io ip:Nat)(rows:List V)(U:ak):Prop where
 rl:U il=some ⟨22,1,[aQ l]⟩
 rp:U ip=some ⟨215,1,[.fn 143 [.ptr il 0 0,.ptr io 0 0,.ptr ip 0 0]]⟩
 sub:aa Z0 U
 no:Z0 io=none
 out:∃v,U io=some ⟨169,1,[v]⟩/\aP (oM Z0 il io ip) U 192 2 v rows
def yO(r:Rm):(jQ r).cells=[vI r.x,vI r.w]:=rfl
def zh(r:Rm):(jQ r).stays=true:=rfl
def Rm.ok(r:Rm):Prop:=0<=r.x/\r.x<=1099511627776/\1<=r.w/\r.w<=1099511627776
def wV{r:Rm}(h:r.ok){i:Int}(h0:0<=i):(jz r i).ok:=by
 obtain⟨a,b,c,d⟩:=h;unfold jz Rm.ok;simp only;omega
def Hd{l:List Nd}(hb:Sc l=true){a:Nat}(h:a<l.length):sT l a=l[a].st.Si/\0<=l[a].st.Si/\l[a].st.Si<=1099511627776:=by
 refine⟨by simp[sT,h],?_⟩;exact(eJ hb h).st.Si
def Gl(l:List Nd)(hl:dq l)(hb:Sc l=true)(il io ip:Nat)(nlo:il≠io)(nlp:il≠ip)(nop:io≠ip):∀(m a e:Nat) (r:Rm) (rows:List V) (Z0 U:ak),e-a<m->a<=e->e<=l.length->bC l a e=true->r.ok->
 rows.length+(e-a)<=l.length->RmJ l Z0 il io ip rows U->
 aB prog 143 [vI a,vI e,jQ r,.ptr il 0 0,.ptr io 0 0,.ptr ip 0 0] U λq Z'=>q=.RM []/\RmJ l Z0 il io ip (rows++(cZ l (e-a) a e r).map jQ) Z':=by
 intro m
 induction m with
 |zero=>intro a e r rows Z0 U h;omega
 |succ m ih=>?_
 intro a e r rows ZB U hm WD he hrB hr hlen hJB;have hl1:=hl.1;refine Pf.q ?_;refine mS 11 ?_;simp only[go_sem,seval,N4,yO,zh];refine aD λi8 Z8 s8 a8 f8=>?_;simp only[go_sem,seval];have no8:io≠i8:=by obtain⟨v,vo,_⟩:=hJB.out;exact bb vo f8
 have fB8:ZB i8=none:=hJB.sub.none f8;obtain⟨Z0,hY0⟩:∃s,s=C' ZB i8 ⟨192,2,[jQ r]⟩:=⟨_,rfl⟩
 have hk8:∀i,oM Z0 il io ip i=none↔i≠i8/\oM ZB il io ip i=none:=λi=>by
  rw[gn,gn,hY0];by_cases h:i=i8
  .subst h;simp[av]
  .rw[ab h];simp[h]
 have hJ8:RmJ l Z0 il io ip rows Z8:=by
  refine⟨s8 _ _ hJB.rl,s8 _ _ hJB.rp,?_,by rw[hY0,ab no8];exact hJB.no,?_⟩
  .intro i o h;rw[hY0]at h;by_cases hi:i=i8
   .subst hi;rw[av]at h;rw[a8];exact h
   .rw[ab hi]at h;exact s8 _ _ (hJB.sub _ _ h)
  .obtain⟨v,vo,R3⟩:=hJB.out;refine⟨v,s8 _ _ vo,?_⟩;rcases R3 with h|⟨id,h1,h2,h3⟩
   .exact .inl h
   .exact .inr ⟨id,h1,s8 _ _ h2,(hk8 id).2 ⟨bb h2 f8,h3⟩⟩
 have hback:∀(rows:List V) (J:ak),RmJ l Z0 il io ip rows J->RmJ l ZB il io ip rows J:=λrows J h=>by
  refine⟨h.rl,h.rp,λi o hi=>h.sub _ _ (by rw[hY0,ab (λe=>by rw[e,fB8]at hi;cases hi)];exact hi),by have:=h.no;rw[hY0,ab no8]at this;exact this,?_⟩;obtain⟨v,vo,R3⟩:=h.out;refine⟨v,vo,?_⟩;rcases R3 with h|⟨id,h1,h2,h3⟩
  .exact .inl h
  .exact .inr ⟨id,h1,h2,((hk8 id).1 h3).2⟩
 have h08:Z0 i8=some ⟨192,2,[jQ r]⟩:=by rw[hY0];exact av
 clear hY0;refine aq.loop (λq st=>∃(b:Nat) (done:List V),q=e-b/\a<=b/\b<=e/\bC l b e=true/\done.length+(e-b)<=l.length/\rows++(cZ l (e-a) a e r).map jQ=done++(cZ l (e-b) b e r).map jQ/\RmJ l Z0 il io ip done st.U/\
  st.s 1=vI e/\st.s 3=.ptr il 0 0/\st.s 4=.ptr io 0 0/\st.s 5=.ptr ip 0 0/\st.s 8=.ptr i8 0 0/\st.s 9=vI b) (e-a) ?_ ?_
 .exact⟨a,rows,rfl,Sf _,WD,hrB,hlen,rfl,hJ8,rfl,rfl,rfl,rfl,rfl,rfl⟩
 .rintro q ⟨S,J⟩ ⟨b,done,rfl,Vw,Wr,Yi,hdl,Zs,hJ,t1,t3,t4,t5,t8,t9⟩;simp only at hJ t1 t3 t4 t5 t8 t9;refine aq.mix 11 ?_;by_cases u':b<e
  .have q1:((b:Int)<(e:Int))=True:=RA;obtain⟨h1,h2⟩:=bS he Yi (Sf b) u';obtain⟨h3,h4⟩:=cE he Yi u';have SX:b<l.length:=by omega
   obtain⟨g1,g2,g3⟩:=Hd hb SX;have Tt:=gZ SX;obtain⟨v,vo,R3⟩:=hJ.out;have Xd:v.cells=[v]:=by rcases R3 with⟨rfl,_⟩|⟨_,rfl,_⟩<;>rfl
   have r8:=hJ.sub _ _ h08;have r8':=r8;rw[jQ]at r8';apply sR;simp only[go_sem,seval,q1,t1,t3,t4,t5,t8,t9,r8',vo,Xd];refine aD λi24 Z24 s24 a24 f24=>?_;obtain⟨idA,SE,YU⟩:=R3.Jc s24;have Sh:(done.length+1)*17<=140737488355328:=by omega
   simp only[go_sem,seval,t1,t3,t4,t5,t8,t9,SE,bN a24,Sh];rw[aH];intro i25 f25;have f25:Z24 i25=none:=f25;have YY:∀(i:Nat) (Zx:ak),oM Z0 il io ip i≠none->Vc.bR Zx idA i=Zx i:=λi Zx hk=>by
    cases idA with
    |none=>rfl
    |some a=>exact eT (λe=>hk (by rw[e];exact(YU a rfl).1))
   have kl:oM Z0 il io ip il≠none:=λh=>(gn.1 h).1 rfl;have ko:oM Z0 il io ip io≠none:=λh=>(gn.1 h).2.1 rfl;have kp:oM Z0 il io ip ip≠none:=λh=>(gn.1 h).2.2.1 rfl;have ol:=s24 _ _ hJ.rl;have oo:=s24 _ _ vo;have op:=s24 _ _ hJ.rp;have o8:=s24 _ _ r8;have nl:=bb ol f25;have no:=bb oo f25;have np:=bb op f25;have n8:=bb o8 f25;have k8:oM Z0 il io ip i8≠none:=λh=>((hk8 i8).1 h).1 rfl;have hsub25:aa Z0 (C' (Vc.bR Z24 idA) i25 ⟨192,2,done++[.agg [vI r.x,vI r.w]]⟩):=λi o h=>by
    have h1:=s24 _ _ (hJ.sub _ _ h);rw[ab (bb h1 f25),YY _ _ (λhk=>by rw[(gn.1 hk).2.2.2]at h;cases h)];exact h1
   have pl:(C' (Vc.bR Z24 idA) i25 ⟨192,2,done++[.agg [vI r.x,vI r.w]]⟩) il=some ⟨22,1,[aQ l]⟩:=by rw[ab nl,YY _ _ kl];exact ol
   have po:(C' (Vc.bR Z24 idA) i25 ⟨192,2,done++[.agg [vI r.x,vI r.w]]⟩) io=some ⟨169,1,[v]⟩:=by rw[ab no,YY _ _ ko];exact oo
   have pp:(C' (Vc.bR Z24 idA) i25 ⟨192,2,done++[.agg [vI r.x,vI r.w]]⟩) ip=some ⟨215,1,[.fn 143 [.ptr il 0 0,.ptr io 0 0,.ptr ip 0 0]]⟩:=by rw[ab np,YY _ _ kp];exact op
   have p25:(C' (Vc.bR Z24 idA) i25 ⟨192,2,done++[.agg [vI r.x,vI r.w]]⟩) i25=some ⟨192,2,done++[.agg [vI r.x,vI r.w]]⟩:=av;have f0:Z0 i25=none:=(hJ.sub.trans s24).none f25;have RF:=λU=>bI (U:=U) SX;have q2:((b:Int)+1)=((b+1:Nat):Int):=by omega
   have q3:((b:Int)+l[b].size)=((b+(RJ l b).toNat:Nat):Int):=by rw[Tt];omega
   obtain⟨rx0,rx1,rw0,rw1⟩:=id hr;have r1:=rI b;have r2:R0 .i64 ((b:Int)+l[b].size):=ao;have r3:R0 .i64 (r.x+l[b].st.Si):=ao;have r4:R0 .i64 (2*l[b].st.Si):=ao;have r5:R0 .i64 (r.w-2*l[b].st.Si):=ao;generalize C' (Vc.bR Z24 idA) i25 ⟨192,2,done++[.agg [vI r.x,vI r.w]]⟩=Z25 at*;have p8:=hsub25 _ _ h08;rw[jQ]at p8;simp only[go_sem,seval,t1,t3,t4,t5,t8,t9,pl,po,pp,p8,Xd,ad,al,ab no8.symm,ab nlo,ab nlp.symm,ab nop.symm,ab nop,RF,Nd.cells,r1,r2,r3,r4,r5,bW,eh];have hJ9:RmJ l Z0 il io ip (done++[.agg [vI r.x,vI r.w]]) (C' Z25 io ⟨169,1,[.own i25 0 (done.length+1)]⟩):=by
    refine⟨by rw[ab nlo];exact pl,by rw[ab nop.symm];exact pp,hsub25.aL hJ.no,hJ.no,_,av,aP.new (by simp) (by rw[ab no.symm];exact p25) (gn.2 ⟨nl.symm,no.symm,np.symm,f0⟩)⟩
   have hc:=ih (b+1) (b+(RJ l b).toNat) (jz r l[b].st.Si) (done++[.agg [vI r.x,vI r.w]]) Z0 _ (by omega) (by omega) (by omega) h4 (wV hr g2) (by simp only[kI,TI,List.length_nil];omega) hJ9;rw[<-q2,<-q3]at hc;refine Tx rfl hc ?_;rintro q' Z' ⟨rfl,V0⟩;have cl:=V0.rl;apply sR;simp only[go_sem,seval,t1,t3,t4,t5,t8,t9,cl,ad,al,RF,Nd.cells,r2];have hk:cZ l (e-b) b e r=r::(cZ l (b+(RJ l b).toNat-(b+1)) (b+1) (b+(RJ l b).toNat) (jz r (sT l b))++cZ l (e-(b+(RJ l b).toNat)) (b+(RJ l b).toNat) e r):=by
    rw[show e-b=(e-b-1)+1 by omega,cZ,aK u',ld (by omega) (e-b-1) _ _ _ (by omega) (Sf _) h4,ld he (e-b-1) _ _ _ (by omega) (Sf _) h3]
   have T1:=ju (l:=l) (e:=b+(RJ l b).toNat) (by omega) (b+(RJ l b).toNat-(b+1)) (b+1) (jz r l[b].st.Si) (Sf _) (by omega) h4;refine⟨e-(b+(RJ l b).toNat),by omega,b+(RJ l b).toNat,_,rfl,by omega,by omega,h3,?_,?_,V0,by simp[t1,t3,t4,t5,t8,q3]⟩
   .simp only[kI,TI,List.length_nil,dC,T1];omega
   .rw[Zs,hk,g1];simp only[fC,eQ,mR,List.cons_append,mL];rfl
  .have q1:((b:Int)<(e:Int))=False:=H';apply sR;simp only[go_sem,seval,q1,t1,t3,t4,t5,t8,t9];refine SG ⟨rfl,?_⟩;have hz:cZ l (e-b) b e r=[]:=by rw[show e-b=0 by omega];rfl
   rw[Zs,hz];exact hback _ _ (by simpa using hJ)
def Is(l:List Nd)(hl:dq l)(hb:Sc l=true)(w:Int)(h1:1<=w)(h2:w<=1099511627776):aV prog 112 [aQ l,vI w] (cK (cZ l l.length 0 l.length ⟨0,w⟩)):=λU=>by
 refine Pc.q ?_;have hs:=aa.refl U;refine mS 8 ?_;simp only[go_sem,seval,Lo,ad,al];refine aG hs λi2 Z2 s2 a2 f2 z2 hs=>?_;simp only[go_sem,seval,a2,ad,al];refine pS rfl (BX l hl hb _) ?_;simp only[go_sem,seval,a2,ad,al];refine aG hs λi5 Z5 s5 a5 f5 z5 hs=>?_;obtain⟨n25,a2⟩:=RC a2 f5 s5;have q1:(w<1)=False:=H';have q2:(w>1099511627776)=False:=H';simp only[go_sem,seval,a5,a2,ad,al,q1,q2,ab n25,ab n25];generalize TL:C' Z5 i5 _=Y5;have b5:Y5 i5=some ⟨213,1,[.agg [aQ l]]⟩:=by rw[<-TL];exact av
 have b2:Y5 i2=some ⟨22,1,[aQ l]⟩:=by rw[<-TL,ab n25];exact a2
 have Wf:aa U Y5:=by rw[<-TL];exact hs.aL z5
 have UF:aa Y5 Y5:=aa.refl _;clear TL;refine aD λi6 Z6 s6 a6 f6=>?_;have c5:=s6 _ _ b5;have c2:=s6 _ _ b2;have z6:U i6=none:=Wf.none f6;simp only[go_sem,seval];refine aD λi7 Z7 s7 a7 f7=>?_;have d5:=s7 _ _ c5;have d2:=s7 _ _ c2;have d6:=s7 _ _ a6;have z7:U i7=none:=(Wf.trans s6).none f7;have n57:=bb c5 f7;have n27:=bb c2 f7;have TH:=bb a6 f7;have n26:=bb b2 f6;have hn:=bO l;have Zm:V.Tc.cells=[.Tc]:=rfl;simp only[go_sem,seval,a7,Zm,d5,d2,d6,ab n57,ab n27,ab TH,hn,ad,al];have hJ:RmJ l U i2 i6 i7 [] (C' Z7 i7 ⟨215,1,[.fn 143 [.ptr i2 0 0,.ptr i6 0 0,.ptr i7 0 0]]⟩):=
  ⟨by rw[ab n27];exact d2,av,(((Wf.trans s6).trans s7)).aL z7,z6,.bj,by rw[ab TH];exact d6,aP.start⟩
 have hc:=Gl l hl hb i2 i6 i7 n26 n27 TH (l.length+1) 0 l.length ⟨0,w⟩ [] U _ (by omega) (by omega) (by omega) (by simp only[Sc,Ba]at hb;exact hb.2) ⟨by simp,by simp,h1,h2⟩ (by simp) hJ;refine Tx rfl hc ?_;rintro q Z' ⟨rfl,V0⟩;obtain⟨v,vo,R3⟩:=V0.out;have Xd:v.cells=[v]:=by rcases R3 with⟨rfl,_⟩|⟨_,rfl,_⟩<;>rfl
 apply sR;simp only[go_sem,seval,vo,Xd];have ho:aP U Z' 192 2 v ((cZ l l.length 0 l.length ⟨0,w⟩).map jQ):=by
  rcases R3 with⟨h,h'⟩|⟨id,h1,h2,h3⟩
  .exact .inl ⟨h,by simpa using h'⟩
  .exact .inr ⟨id,by simpa using h1,by simpa using h2,(gn.1 h3).2.2.2⟩
 exact ho.ns V0.sub rfl
section
variable {P:Program} {n:Nat}
def aq.M5{st:St}{Q:St->Prop}{k:List It}{i:aS}{l:List aS}{xa:VX}(hw:bn st.s i.g=some true)(ho:i.op=.U4 false xa (.c (.iface 0 .undef))){b:Bool}
 (hx:(xa.ev st.s=.bj/\b=true)\/(∃sz r rows,xa.ev st.s=.sl sz (r::rows)/\b=false)\/∃id off m,xa.ev st.s=.own id off (m+1)/\b=false)
 (h:aq P n (.ops l::k) ⟨aY st.s i.dst (.bool b),st.U⟩ Q):aq P n (.ops (i::l)::k) st Q:=by
 refine aq.ins (by rw[ho];simp) hw λF hn I a w o all hi hs next Q' RK=>?_
 subst hn;obtain⟨RN,hd⟩:=eZ hi;rw[ho]at RN;obtain⟨t,x,y,m,c,yt,e,g1,rfl,g2,rfl⟩:=Bb RN;have R:=cF hs x;have hX:∃ba len cap,a.eval x=.slice ba len cap/\ba.isNone=b:=by
  rcases hx with⟨hx,rfl⟩|⟨sz,r,rows,hx,rfl⟩|⟨id,off,m,hx,rfl⟩
  .rw[hx]at R;simp only[E']at R;exact⟨none,0,0,R,rfl⟩
  .rw[hx]at R;simp only[E']at R;obtain⟨ba,cap,hX,_,hr⟩:=R;rcases hr with hr|⟨b,off,rfl,_⟩
   .cases hr
   .exact⟨_,_,_,hX,rfl⟩
  .rw[hx]at R;simp only[E']at R;split at R
   .exact R.elim
   .exact absurd R.2.2 (by omega)
   .obtain⟨o,c,hX,_⟩:=R;exact⟨_,_,_,hX,rfl⟩
 obtain⟨ba,len,cap,hX,rfl⟩:=hX;have Su:(execOp a.eval o).run P w=.ok (.value (.bool ba.isNone)) w:=by
  unfold execOp;rw[g1];have hY:a.eval (.const (.slice none m c))=.slice none m c:=rfl;simp[hX,hY,eqGuard,Lib.run_eql_slice_nil w t e ba len cap m c g2]
 unfold Oper.wp;rw[Su];refine RK _ _ _ ⟨I,?_⟩ h;rw[<-hd];exact hs.pure (by simp[E'])
end
open Go.Proofs
def vv(U:ak)(v v':V):Prop:=∀J,aa U J->Wk J ic v v'
def vv.mono{U J:ak}{v v':V}(h:vv U v v')(hs:aa U J):vv J v v':=λX' h'=>h X' (hs.trans h')
def vv.at{U:ak}{v v':V}(h:vv U v v'):Wk U ic v v':=h U (aa.refl _)
def aP.yK{K U:ak}{e sz:Nat}{v:V}{rows:List V}(h:aP K U e sz v rows):vv U v (.sl sz rows):=λJ hs=>(h.mono hs).wk (jR _) (jR _)
def Ur{J:ak}(v:V):Wk J ic v v:=Wk.refl (jR _) _
def He(vf:V){U:ak}(fs:List RS)(Ul:vv U vf (bg fs))(ws:List Int)(space high:Int)(y:Int)(s:Sn)(hl:fs.length<=1000000)(RP:∀f∈fs,f.ok)(B:Int)(hB:∀f∈fs,f.y+f.h<=B)(hB1:B<=1152921504606846976)(Za:0<=y)(hy:y<=B)(hh:0<=high)(hh1:high<=1099511627776)
 (Tg:SJ s.a/\SJ s.b)(hw:WOk ws space):aB prog 174 [vf,aX ws,vI space,vI high,vI y,aW s] U λr Z'=>aa U Z'/\aP U Z' 203 5 r ((cA fs ws space high s ws.length 0 y).map iX):=by
 refine Rz.q ?_;have hs:=aa.refl U;have hn:=db ws;have T1:=hw.len;refine mS 16 ?_;simp only[go_sem,seval,MF,aW];refine aG hs λi11 Yf Vb Ug f11 YE hs=>?_;simp only[go_sem,seval,Ug];generalize hG:cA fs ws space high s ws.length 0 y=G;refine aq.loop (λm st=>∃(i k:Nat) (y':Int) (acc:List Ln),m=ws.length-i/\i<=ws.length/\ws.length-i<=k/\acc.length<=i/\G=acc++cA fs ws space high s k i y'/\0<=y'/\y'<=B+1099511627776*i/\aa U st.U/\aP U st.U 203 5 (st.s 13) (acc.map iX)/\
  st.U i11=some ⟨195,2,[.agg [vI s.a,vI s.b]]⟩/\st.s 0=vf/\st.s 1=aX ws/\st.s 2=vI space/\st.s 3=vI high/\st.s 4=vI y'/\st.s 11=.ptr i11 0 0/\st.s 14=vI i) ws.length ?_ ?_
 .exact⟨0,ws.length,y,[],rfl,by omega,by omega,by simp,hG.symm,Za,by omega,hs,aP.start,Ug,rfl,rfl,rfl,rfl,rfl,rfl,rfl⟩
 .rintro m ⟨S,J⟩ ⟨i,k,y',acc,rfl,hi,hk,WI,hg,hy1,hy2,G',R3,b11,t0,t1,t2,t3,t4,t11,t14⟩;simp only at G' R3 b11 t0 t1 t2 t3 t4 t11 t14;generalize U8:S 13=v13 at R3;refine aq.mix 16 ?_;by_cases u':i<ws.length
  .have q:=qT u';obtain⟨k,rfl⟩:∃k',k=k'+1:=⟨k-1,by omega⟩
   rw[cA,aK u']at hg;have Vu:=sk (space:=space) (width:=fj (bM fs (fN fs (ws.getD i 0) high s y') high s)) u';have hyr:=eX (w:=ws.getD i 0) (high:=high) (y:=y') (s:=s) hB;have hx:=I5 fs ws space high i y' s hl RP ⟨by omega,by omega⟩ ⟨by omega,by omega⟩ Tg hw u';obtain⟨x,WG⟩:∃x,x=lP fs ws space high i y' s:=⟨_,rfl⟩
   have x1:∃j:Nat,x.to=j/\i<j/\j<=ws.length:=by rw[WG];exact⟨_,rfl,Vu⟩
   have x2:y'<=x.y/\x.y<=max y' B:=by rw[WG];exact hyr
   rw[<-WG]at hg hx;clear WG Vu hyr;obtain⟨j,hj,Xu,UG⟩:=x1;rw[hj,gu]at hg;apply sR;simp only[go_sem,seval,t0,t1,t2,t3,t4,t11,t14,b11,hn,q];refine pR rfl (aV.td (args':=[bg fs,aX ws,vI space,vI high,vI i,vI y',aW s]) ⟨(Ul.mono G').at,Ur _,Ur _,Ur _,Ur _,Ur _,Ur _,trivial⟩ hx rfl) ?_;have hc:=rA x;have RR:=sK x;have SU:(iX x).cells.length=5:=rfl;have hag:V.agg [vI x.fr,vI x.to,vI x.x,vI x.y,vI x.w]=iX x:=rfl;apply sR;simp only[go_sem,seval,t0,t1,t2,t3,t4,t11,t14,U8,hc,RR];refine aD λi15 Z15 Xa US f15=>?_;simp only[go_sem,seval,US,t0,t1,t2,t3,t4,t11,t14,U8,hc,SU,RR,hag];generalize Tv:C' Z15 i15 _=Y15;have b15:Y15 i15=some ⟨203,5,[.agg [vI x.fr,vI x.to,vI x.x,vI x.y,vI x.w]]⟩:=by rw[<-Tv];exact av
   have XS:aa J Y15:=by rw[<-Tv];exact Xa.aL f15
   clear Tv;refine aD λi30 Z30 s30 a30 f30=>?_;obtain⟨idA,SE,RO,TW,VY⟩:=R3.nM (XS.trans s30);have Sh:(acc.length+1)*41<=140737488355328:=by omega
   have Uh:(acc.map iX).length=acc.length:=by simp
   simp only[go_sem,seval,t0,t1,t2,t3,t4,t11,t14,U8,SE,bN a30,Uh,Sh];refine bk λi31 Z31 s31 a31 f31=>?_;have k31:=(RO U (aa.refl _) Z30 (G'.trans (XS.trans s30))).trans s31;have n31:U i31=none:=(G'.trans (XS.trans s30)).none f31;have c15:Z31 i15=some ⟨203,5,[.agg [vI x.fr,vI x.to,vI x.x,vI x.y,vI x.w]]⟩:=s31 _ _ (by rw[VY i15 f15];exact s30 _ _ b15);have c11:Z31 i11=some ⟨195,2,[.agg [vI s.a,vI s.b]]⟩:=s31 _ _ (by rw[TW i11 _ b11 (.inr (by simp))];exact s30 _ _ (XS _ _ b11));have r1:R0 .i64 (x.y+high):=ao;simp only[go_sem,seval,t0,t1,t2,t3,t4,t11,t14,c15,hj,r1];refine⟨_,?_,j,k,x.y+high,acc++[x],rfl,UG,by omega,by simp;omega,by rw[hg];simp,by omega,by omega,k31,?_,c11,by simp[t0,t1,t2,t3,t11]⟩
   .omega
   .rw[eQ];exact aP.new (by simp) a31 n31
  .have q:=qF u';apply sR;simp only[go_sem,seval,t0,t1,t2,t3,t4,t11,t14,U8,b11,hn,q];have:cA fs ws space high s k i y'=[]:=by
    cases k with
    |zero=>rfl
    |succ k=>rw[cA,aM u']
   rw[this,j6]at hg;refine SG ⟨G',?_⟩;rw[hg];exact R3
def za{P:Program}{f:FuncId}{fn:Func}(hf:P.funcs[f]?=some fn){e sz b:Nat}(hc:cfn P fn=some (mW e sz b))(hk:gg P f=true){K U:ak}{v:V}{rows:List V}(hv:aP K U e sz v rows)(RU:rows=[]->v=.bj)(hb:rows.length*(b+1)<=140737488355328):
 aB P f [v] U λr Z'=>aa U Z'/\aP U Z' e sz r rows:=by
 refine aB.nY hf hc hk (by simp[mW]) ?_;refine aq.mix 3 ?_;rcases hv with⟨rfl,rfl⟩|⟨id,rfl,ho,_⟩
 ·(refine aq.bx Th.nothing 8 ?_;simp only[go_sem,seval,pA,mW])
  refine aq.M5 rfl rfl (b:=true) (.inl ⟨rfl,rfl⟩) ?_;apply sR;simp only[go_sem,seval];exact SG ⟨aa.refl _,aP.start⟩
 .obtain⟨m,hm⟩:∃m,rows.length=m+1:=by
   cases rows with
   |nil=>exact absurd (RU rfl) (by simp)
   |cons r rs=>exact⟨rs.length,by simp⟩
  (refine aq.bx Th.nothing 8 ?_;simp only[go_sem,seval,pA,mW])
  refine aq.M5 rfl rfl (b:=false) (.inr (.inr ⟨id,0,m,by rw[hm];rfl,rfl⟩)) ?_;apply sR;simp only[go_sem,seval];refine aD λVz Z1 s1 a1 f1=>?_;obtain⟨idA,hd,RO⟩:=(aP.new (K:=U) (e:=e) (sz:=sz) (n:=0) (rows:=[]) rfl a1 f1).dst (aa.refl _);have XJ:cB Z1 sz (.own id 0 rows.length)=some rows:=by simp[cB,s1 _ _ ho]
  simp only[go_sem,seval,hd,XJ,hb];refine bk λWY Z2 s2 a2 f2=>?_;have UF:=(RO U (aa.refl _) Z1 s1).trans s2;simp only[go_sem,seval];exact SG ⟨UF,aP.new (by simp) a2 (s1.none f2)⟩
def IP(vf:V){K U:ak}(fs:List RS)(Ul:aP K U 137 7 vf (fs.map bl))(RU:fs=[]->vf=.bj)(f:RS)(y:Int)(s:Sn)(hl:fs.length<=1000000)(RP:∀f∈fs,f.ok)(hy:SJ y)(hh:Bq f.h)(hw:Bq f.w)(Tg:SJ s.a/\SJ s.b):
 aB prog 178 [vf,bl f,vI y,aW s] U λr Z'=>aa U Z'/\aP U Z' 137 7 r ((mU fs f y s).map bl):=by
 refine Rk.q ?_;have hs:=aa.refl U;refine mS 14 ?_;simp only[go_sem,seval,Ms,bl,aW];refine aG hs λi5 Z5 s5 a5 f5 z5 hs=>?_;simp only[go_sem,seval,a5];refine aG hs λi7 Z7 s7 a7 f7 z7 hs=>?_;obtain⟨n57,a5⟩:=RC a5 f7 s7;simp only[go_sem,seval,a7,a5];refine pS rfl (aV.td (args':=[bg fs,bl f,vI y,aW s]) ⟨((Ul.mono hs).yK).at,Ur _,Ur _,Ur _,trivial⟩ (Ke fs f y s hl RP hy hh hw Tg) rfl) ?_;simp only[go_sem,seval,a7,a5,ab n57,ab n57.symm,gq];generalize TL:C' Z7 i5 _=Y5;have b5:Y5 i5=some ⟨137,7,[bl (iK fs f y s)]⟩:=by rw[<-TL];exact av
 have Wf:aa U Y5:=by rw[<-TL];exact hs.aL z5
 clear TL;have V2:bl (iK fs f y s)=.agg [vI f.node,vI f.side,vI f.anchor,vI (lT fs f y s),vI (jT fs f y s),vI f.w,vI f.h]:=rfl;rw[V2]at b5;have Uh:(fs.map bl).length=fs.length:=by simp
 have Sh:(fs.length+1)*57<=140737488355328:=by omega
 have Wd:fs.map bl++[V.agg [vI f.node,vI f.side,vI f.anchor,vI (lT fs f y s),vI (jT fs f y s),vI f.w,vI f.h]]=(mU fs f y s).map bl:=by simp[mU,<-V2]
 have hne':fs.map bl=[]->vf=.bj:=λh=>RU (by simpa using h);refine aq.vZ (by kernel_rfl) 8 (.fork [[],[0],[],[2],[1,3,0,2],[4,0,1,2,3]] [0,2] [1,3] [(.leaf [[],[0],[],[1,0,2],[1,0,3,2],[1,0,4,2,3]] [1,3,4,5]),(.leaf [[],[3,2,0],[],[2],[3,2,1,0],[3,2,4,0,1]] [3,1,4,5])]) (by kernel_rfl) ?_;refine GT.oQ (its:=[0,4]) (by kernel_rfl) ?_;refine cU (n:=0) [] [0,4] [_,_] rfl rfl ?_;simp only[go_sem,seval,b5];refine⟨?_,?_⟩
 .refine GT.gV (its:=[2,5,6,8,10]) (by kernel_rfl) ?_;refine RE.call rfl rfl rfl rfl rfl (za func85 (e85.b.trans rfl) e85.c (Ul.mono Wf) hne' (by simp;omega)) ?_;rintro r Z3 ⟨s3,R3⟩;replace b5:=s3 _ _ b5;have hs3:=Wf.trans s3;refine dI rfl (by simp only[go_sem,seval,b5]) ?_;refine cU (n:=0) [] [6,8,10] [_,_,_] rfl rfl ?_;simp only[go_sem,seval,b5];refine bJ λi9 Y9 s9 a9 f9=>?_;obtain⟨idA,SE,RO⟩:=R3.dst s9;simp only[go_sem,seval,SE,bN a9,Uh,Sh,Wd];refine qt λi10 XP To RZ f10=>?_;have SQ:=(RO U Wf Y9 (hs3.trans s9)).trans To;have n10:U i10=none:=(hs3.trans s9).none f10;simp only[go_sem,seval];apply sR;simp only[go_sem,seval];exact SG ⟨SQ,aP.new (by simp[mU]) RZ n10⟩
 .refine GT.gV (its:=[6,2,8,10]) (by kernel_rfl) ?_;refine cU (n:=0) [2,8,10] [6] [_] rfl rfl ?_;simp only[go_sem,seval,b5];refine bJ λi9 Y9 s9 a9 f9=>?_;simp only[go_sem,seval];refine RE.call rfl rfl rfl rfl rfl (za func85 (e85.b.trans rfl) e85.c (Ul.mono (Wf.trans s9)) hne' (by simp;omega)) ?_;rintro r Z3 ⟨s3,R3⟩;have a9':=s3 _ _ a9;obtain⟨idA,SE,RO⟩:=R3.dst (aa.refl _);refine cU (n:=0) [] [8,10] [_,_] rfl rfl ?_;simp only[go_sem,seval,SE,bN a9',Uh,Sh,Wd];refine qt λi10 XP To RZ f10=>?_;have SQ:=(RO U (Wf.trans s9) Z3 ((Wf.trans s9).trans s3)).trans To;have n10:U i10=none:=((Wf.trans s9).trans s3).none f10;simp only[go_sem,seval];apply sR;simp only[go_sem,seval];exact SG ⟨SQ,aP.new (by simp[mU]) RZ n10⟩
open Go.Proofs
structure SK where
 (kind node fr to x y w h:Int)
deriving DecidableEq
def bz(a:SK):V:=.agg [vI a.kind,vI a.node,vI a.fr,vI a.to,vI a.x,vI a.y,vI a.w,vI a.h]
def bK(l:List SK):V:=.sl 8 (l.map bz)
structure WS where
 atoms:List SK
 g':List RS
 RD:Int
 P':Pn
structure UD(l:List Nd)(rs:List Rm)(Z0:ak)(iw:Nat)(s:WS)(U:ak):Prop where
 sub:aa Z0 U
 no:Z0 iw=none
 row:∃va vf,U iw=some ⟨172,7,[.agg [va,vf,vI s.RD,vI s.P'.y,vI s.P'.m,aQ l,cK rs]]⟩/\
  aP (cg Z0 iw) U 66 8 va (s.atoms.map bz)/\aP (cg Z0 iw) U 137 7 vf (s.g'.map bl)/\(s.g'=[]->vf=.bj)
def ay(l:List Rm):(cK l).cells=[cK l]:=rfl
def xP(l:List Rm):(cK l).stays=true:=rfl
def I3{U:ak}{l:List Rm}{i:Nat}(h:i<l.length):bG U 2 (cK l) (.int .i64 i)=some (.rp (jQ l[i])):=by simp[cK,bG,h]
def aP.vc{K U:ak}{e sz:Nat}{v:V}{rows:List V}(h:aP K U e sz v rows):v.cells=[v]/\v.stays=true:=by rcases h with⟨rfl,_⟩|⟨_,rfl,_⟩<;>exact⟨rfl,rfl⟩
def eo(rs:List Rm)(a:Nat):Sn:=⟨(rs.getD a ⟨0,0⟩).x,(rs.getD a ⟨0,0⟩).x+(rs.getD a ⟨0,0⟩).w⟩
def AN{l:List Nd}{rs:List Rm}{Z0 U:ak}{iw:Nat}{s:WS}(hJ:UD l rs Z0 iw s U)(a:Nat)(ha:a<rs.length)(hr:rs[a].ok):
 aB prog 175 [.ptr iw 0 0,vI a] U λr Z'=>r=aW (eo rs a)/\Z'=U:=by
 obtain⟨va,vf,w1,YJ,Xw,_⟩:=hJ.row;obtain⟨ca,sa⟩:=YJ.vc;obtain⟨cf,sf⟩:=Xw.vc;obtain⟨r1,r2,r3,r4⟩:=hr;have Vo:rs.getD a ⟨0,0⟩=rs[a]:=by simp[ha]
 have RF:=λU=>I3 (U:=U) ha;unfold eo;rw[Vo];generalize rs[a]=r at*;have Xx:jQ r=.agg [vI r.x,vI r.w]:=rfl;have rr:R0 .i64 (r.x+r.w):=ao;refine Rc.q ?_;have hs:=aa.refl U;refine mS 6 ?_;simp only[go_sem,seval,NU];refine aD λi4 Z4 s4 a4 f4=>?_;have w4:=s4 _ _ w1;simp only[go_sem,seval,w4,RF,Xx,ca,cf,ay,ad];refine aD λi5 Z5 s5 a5 f5=>?_;have b4:=s5 _ _ a4;have V6:=bb a4 f5;simp only[go_sem,seval,a5,b4,ab V6,rr];exact az.pure (((s4.trans s5).aL (s4.none f5)).aL f4) rfl
def su(a:SK):(bz a).cells=[vI a.kind,vI a.node,vI a.fr,vI a.to,vI a.x,vI a.y,vI a.w,vI a.h]:=rfl
def rC(a:SK):(bz a).stays=true:=rfl
def WS.put(s:WS)(a:SK):WS:={ s with atoms:=s.atoms++[a],P':=⟨a.y+a.h,0⟩ }
def Fx{l:List Nd}{rs:List Rm}{Z0 U:ak}{iw:Nat}{s:WS}(hJ:UD l rs Z0 iw s U)(a:SK)(hy:Bq a.y)(hh:Bq a.h)(hn:s.atoms.length<=1000000):
 aB prog 176 [.ptr iw 0 0,bz a] U λr Z'=>r=.RM []/\UD l rs Z0 iw (s.put a) Z':=by
 obtain⟨va,vf,w1,YJ,Xw,hf2⟩:=hJ.row;obtain⟨ca,sa⟩:=YJ.vc;obtain⟨cf,sf⟩:=Xw.vc;refine Qh.q ?_;refine mS 4 ?_;simp only[go_sem,seval,OI,su,rC];refine aD λi3 Z3 s3 a3 f3=>?_;have w3:=s3 _ _ w1;simp only[go_sem,seval,w3,a3,ca,cf,ay,ad,su,rC];refine bJ λi11 Yf Vb Ug f11=>?_;obtain⟨idA,SE,RO,TW,VY⟩:=YJ.nM (s3.trans Vb);have Sh:(s.atoms.length+1)*65<=140737488355328:=by omega
 have Uh:(s.atoms.map bz).length=s.atoms.length:=by simp
 simp only[go_sem,seval,SE,bN Ug,Uh,Sh];rw[aJ];intro i12 f12;have f12:Yf i12=none:=f12;have w11:=Vb _ _ w3;have nw:=bb w11 f12;have b3:=Vb _ _ a3;have n3:=bb b3 f12;have nw3:=bb w1 f3;have hdw:=TW iw _ w1 (.inr (by simp));have hd3:=VY i3 f3;have cw:(C' (Vc.bR Yf idA) i12 ⟨66,8,s.atoms.map bz++[.agg [vI a.kind,vI a.node,vI a.fr,vI a.to,vI a.x,vI a.y,vI a.w,vI a.h]]⟩) iw=some ⟨172,7,[.agg [va,vf,vI s.RD,vI s.P'.y,vI s.P'.m,aQ l,cK rs]]⟩:=by rw[ab nw,hdw];exact w11
 have c3:(C' (Vc.bR Yf idA) i12 ⟨66,8,s.atoms.map bz++[.agg [vI a.kind,vI a.node,vI a.fr,vI a.to,vI a.x,vI a.y,vI a.w,vI a.h]]⟩) i3=some ⟨66,8,[.agg [vI a.kind,vI a.node,vI a.fr,vI a.to,vI a.x,vI a.y,vI a.w,vI a.h]]⟩:=by rw[ab n3,hd3];exact b3
 have c12:(C' (Vc.bR Yf idA) i12 ⟨66,8,s.atoms.map bz++[.agg [vI a.kind,vI a.node,vI a.fr,vI a.to,vI a.x,vI a.y,vI a.w,vI a.h]]⟩) i12=some ⟨66,8,s.atoms.map bz++[.agg [vI a.kind,vI a.node,vI a.fr,vI a.to,vI a.x,vI a.y,vI a.w,vI a.h]]⟩:=av;have G':aa Z0 (C' (Vc.bR Yf idA) i12 ⟨66,8,s.atoms.map bz++[.agg [vI a.kind,vI a.node,vI a.fr,vI a.to,vI a.x,vI a.y,vI a.w,vI a.h]]⟩):=by
  have h1:=RO Z0 (λi o h=>by rw[cg,aM (λe=>by rw[e,hJ.no]at h;cases h)];exact h) Yf ((hJ.sub.trans s3).trans Vb);exact h1.aL (((hJ.sub.trans s3).trans Vb).none f12)
 have SF:cg Z0 iw i12=none:=bh.2 ⟨nw.symm,((hJ.sub.trans s3).trans Vb).none f12⟩;have hf3:∀o,aP (cg Z0 iw) (C' (Vc.bR Yf idA) i12 o) 137 7 vf (s.g'.map bl):=λo=>by
  rcases Xw with h|⟨id,h1,h2,h3⟩
  .exact .inl h
  .have h4:=Vb _ _ (s3 _ _ h2);exact .inr ⟨id,h1,by rw[ab (bb h4 f12),TW id _ h2 (.inr (by simp))];exact h4,h3⟩
 replace hf3:=hf3 ⟨66,8,s.atoms.map bz++[.agg [vI a.kind,vI a.node,vI a.fr,vI a.to,vI a.x,vI a.y,vI a.w,vI a.h]]⟩;generalize C' (Vc.bR Yf idA) i12 ⟨66,8,s.atoms.map bz++[.agg [vI a.kind,vI a.node,vI a.fr,vI a.to,vI a.x,vI a.y,vI a.w,vI a.h]]⟩=J at*;simp only[go_sem,seval,cw,ca,cf,ay,ad,gq];have dw:(C' J iw ⟨172,7,[.agg [.own i12 0 (s.atoms.length+1),vf,vI s.RD,vI s.P'.y,vI s.P'.m,aQ l,cK rs]]⟩) iw=some ⟨172,7,[.agg [.own i12 0 (s.atoms.length+1),vf,vI s.RD,vI s.P'.y,vI s.P'.m,aQ l,cK rs]]⟩:=av;have d3:(C' J iw ⟨172,7,[.agg [.own i12 0 (s.atoms.length+1),vf,vI s.RD,vI s.P'.y,vI s.P'.m,aQ l,cK rs]]⟩) i3=some ⟨66,8,[.agg [vI a.kind,vI a.node,vI a.fr,vI a.to,vI a.x,vI a.y,vI a.w,vI a.h]]⟩:=by rw[ab nw3.symm];exact c3
 have d12:(C' J iw ⟨172,7,[.agg [.own i12 0 (s.atoms.length+1),vf,vI s.RD,vI s.P'.y,vI s.P'.m,aQ l,cK rs]]⟩) i12=some ⟨66,8,s.atoms.map bz++[.agg [vI a.kind,vI a.node,vI a.fr,vI a.to,vI a.x,vI a.y,vI a.w,vI a.h]]⟩:=by rw[ab nw.symm];exact c12
 replace G':=G'.aL hJ.no (o:=⟨172,7,[.agg [.own i12 0 (s.atoms.length+1),vf,vI s.RD,vI s.P'.y,vI s.P'.m,aQ l,cK rs]]⟩);have hf4:aP (cg Z0 iw) (C' J iw ⟨172,7,[.agg [.own i12 0 (s.atoms.length+1),vf,vI s.RD,vI s.P'.y,vI s.P'.m,aQ l,cK rs]]⟩) 137 7 vf (s.g'.map bl):=by
  rcases hf3 with h|⟨id,h1,h2,h3⟩
  .exact .inl h
  .exact .inr ⟨id,h1,by rw[ab (bh.1 h3).1];exact h2,h3⟩
 clear hf3 cw c3 c12;generalize C' J iw ⟨172,7,[.agg [.own i12 0 (s.atoms.length+1),vf,vI s.RD,vI s.P'.y,vI s.P'.m,aQ l,cK rs]]⟩=Y2 at*;refine aq.xG (by kernel_rfl) [0,1,2,3,4,5,6,7,8,9,10,11,12] [[],[],[1],[1,2],[1,2,3],[],[5],[],[7],[1,2,3,4,5,6,7,8],[0,1,2,3,4,5,6,7,8,9],[0,1,2,3,4,5,6,7,8,9,10],[0,1,2,3,4,5,6,7,8,9,10,11]] [0,2,4,6,8,10,12,14,16,18,20,22,24] (by kernel_rfl) (by kernel_rfl) ?_;refine cU (n:=0) [18,20,22,24] [0,2,4,6,8,10,12,14,16] [_,_,_,_,_,_,_,_,_] rfl rfl ?_;simp only[go_sem,seval,dw,d3,cf,ay,ad];refine Wt rfl (KW s.P' a.y a.h hy hh _) ?_;refine cU (n:=0) [] [20,22,24] [_,_,_] rfl rfl ?_;simp only[go_sem,seval,dw,dd,cf,ay,ad];apply sR;simp only[go_sem,seval];have Sq:aa Z0 (C' Y2 iw ⟨172,7,[.agg [.own i12 0 (s.atoms.length+1),vf,vI s.RD,vI (a.y+a.h),vI 0,aQ l,cK rs]]⟩):=G'.aL hJ.no;refine SG ⟨rfl,Sq,hJ.no,.own i12 0 (s.atoms.length+1),vf,av,?_,?_,hf2⟩
 .exact aP.new (by simp[WS.put]) (by rw[ab nw.symm,d12];simp[WS.put];rfl) SF
 .rcases hf4 with h|⟨id,h1,h2,h3⟩
  .exact .inl h
  .exact .inr ⟨id,h1,by rw[ab (bh.1 h3).1];exact h2,h3⟩
def xl{l:List RS}{w high:Int}{s:Sn}:∀(k:Nat) (y:Int),WH l y<=k->kK l w high s (iM l w high s k y)=true
 |0,y,h=>by
  rw[iM];simp only[kK,kO,Bool.not_eq_true',Uy];left;cases hn:(cz l y high s).2 with
  |false=>rfl
  |true=>
   have:=my (eW hn);omega
 |k+1,y,h=>by
  rw[iM];split
  .rename_i hb;exact hb
  .rename_i hb;simp only[kK,kO,Bool.not_eq_true',not_or,Bool.not_eq_false]at hb;have:=my (eW hb.1);exact xl k _ (by omega)
def Dy(l:List RS)(w high:Int)(s:Sn)(y:Int):(cz l (qp l w high s y) high s).2=false\/fj (bM l (qp l w high s y) high s)>=w:=by
 have:=xl (l:=l) (w:=w) (high:=high) (s:=s) l.length y (List.length_filter_le _ _);simp only[kK,kO,Bool.not_eq_true',Uy]at this;exact this
def sL{l:List RS}{w high B:Int}{s:Sn}(hB:∀f∈l,f.y+f.h<=B):∀(k:Nat) (y:Int),y<=iM l w high s k y/\iM l w high s k y<=max y B
 |0,y=>by simp only[iM];omega
 |k+1,y=>by
  rw[iM];split
  .omega
  .rename_i hb;simp only[kK,kO,Bool.not_eq_true',not_or,Bool.not_eq_false]at hb;obtain⟨f,hm,h1,h2⟩:=eW hb.1;have:=sL hB k (cz l y high s).1 (w:=w) (high:=high) (s:=s);have:=hB f hm;omega
def C9(f:RS)(s:Sn):s.a<=(gI f s).a/\(gI f s).b<=s.b:=by
 unfold gI;split
 .simp only;omega
 .simp only;omega
def zl:∀(l:List RS) (s:Sn),s.a<=(l.foldl (λs f=>gI f s) s).a/\(l.foldl (λs f=>gI f s) s).b<=s.b
 |[],s=>by simp
 |f::l,s=>by
  have h1:=C9 f s;have h2:=zl l (gI f s);simp only[jK];omega
def Ge(l:List RS)(y high:Int)(s:Sn):s.a<=(bM l y high s).a/\(bM l y high s).b<=s.b:=zl _ _
structure FOk(B:Int)(f:RS):Prop where
 x0:0<=f.x
 w0:0<=f.w
 w1:f.w<=1099511627776
 h0:0<=f.h
 h1:f.h<=1099511627776
 y0:0<=f.y
 yB:f.y+f.h<=B
 xw:f.x+f.w<=8796093022208
def FOk.ok{B:Int}{f:RS}(h:FOk B f)(hB:B<=1152921504606846976):f.ok:=by
 obtain⟨h1,h2,h3,h4,h5,h6,h7,h8⟩:=h;exact⟨⟨by omega,by omega⟩,⟨by omega,by omega⟩,⟨by omega,by omega⟩,⟨by omega,by omega⟩⟩
def FOk.mono{B C:Int}{f:RS}(h:FOk B f)(hB:B<=C):FOk C f:=by
 obtain⟨h1,h2,h3,h4,h5,h6,h7,h8⟩:=h;exact⟨h1,h2,h3,h4,h5,h6,by omega,h8⟩
def DH(s:Sn):Prop:=0<=s.a/\s.a<=2199023255552/\0<=s.b/\s.b<=2199023255552
def BD{fs:List RS}{B y:Int}(hB:∀f∈fs,FOk B f):y<=mP fs y/\mP fs y<=max y B:=by
 unfold mP;split
 .rename_i h;obtain⟨f,hf,h1,_⟩:=kA h;have:=hB f hf;have h2:(kR f).1=f.y:=rfl;rw[h1,h2];have:=this.yB;have:=(hB f hf).h0;omega
 .omega
def Am{fs:List RS}{B y:Int}(hB:∀f∈fs,FOk B f)(f:RS)(s:Sn):y<=jT fs f y s/\jT fs f y s<=max y B:=by
 have h1:=BD (y:=y) hB;have h2:=sL (w:=f.w) (high:=f.h) (s:=s) (λf hf=>(hB f hf).yB) fs.length (mP fs y);unfold jT qp;omega
def Du{fs:List RS}{B y:Int}(hB:∀f∈fs,FOk B f){f:RS}{s:Sn}(hs:DH s)(Za:0<=y)(hyB:y<=B)(w0:1<=f.w)(w1:f.w<=1099511627776)(h0:0<=f.h)(h1:f.h<=1099511627776):FOk (B+1099511627776) (iK fs f y s):=by
 obtain⟨s1,s2,s3,s4⟩:=hs;have hy:=Am (y:=y) hB f s;have hb:=Ge fs (jT fs f y s) f.h s;have hx:0<=lT fs f y s/\lT fs f y s+f.w<=8796093022208:=by
  unfold lT;simp only;have he:=Dy fs f.w f.h s (mP fs y);have e:qp fs f.w f.h s (mP fs y)=jT fs f y s:=rfl;rw[e]at he;rcases he with h|h
  .have Uv:bM fs (jT fs f y s) f.h s=s:=Classical.byContradiction λhn=>by
    have:=mu hn;rw[h]at this;cases this
   rw[Uv];split<;>omega
  .unfold fj at h;split at h
   .omega
   .split<;>omega
 exact⟨hx.1,by simp only[iK];omega,by simp only[iK];omega,by simp only[iK];omega,by simp only[iK];omega,by simp only[iK];omega,by simp only[iK];omega,by simpa[iK]using hx.2⟩
def IJ{fs:List RS}{B y:Int}(hB:∀f∈fs,FOk B f){f:RS}{s:Sn}(hs:DH s)(Za:0<=y)(hyB:y<=B)(w0:1<=f.w)(w1:f.w<=1099511627776)(h0:0<=f.h)(h1:f.h<=1099511627776):∀g∈mU fs f y s,FOk (B+1099511627776) g:=by
 intro g hg;rcases fH.1 hg with hg|hg
 .exact(hB g hg).mono (by omega)
 .simp only[jY]at hg;subst hg;exact Du hB hs Za hyB w0 w1 h0 h1
structure Bd(s:WS)(B:Int):Prop where
 fl:∀f∈s.g',FOk B f
 y0:0<=s.P'.y
 m0:0<=s.P'.m
 m1:s.P'.m<=1099511627776
 yB:s.P'.y+s.P'.m<=B
def Bd.mono{s:WS}{B C:Int}(h:Bd s B)(hB:B<=C):Bd s C:=⟨λf hf=>(h.fl f hf).mono hB,h.y0,h.m0,h.m1,by have:=h.yB;omega⟩
def WS.mono(l:List Nd)(rs:List Rm)(s:WS)(a:Nat)(n:Nd):WS:=
 let Sl:=fN s.g' n.w n.h (eo rs a) (s.P'.y+s.P'.m)
 let b:=bM s.g' Sl n.h (eo rs a)
 s.put ⟨2,a,0,0,b.a,Sl,n.w,n.h⟩
def eM(a:Nat)(h:Int)(x:Ln):SK:=⟨1,a,x.fr,x.to,x.x,x.y,x.w,h⟩
def WS.text(rs:List Rm)(s:WS)(a:Nat)(n:Nd):WS:=
 (cA s.g' n.words n.space n.line (eo rs a) n.words.length 0 (s.P'.y+s.P'.m)).foldl (λs x=>s.put (eM a n.line x)) s
def WS.float(rs:List Rm)(s:WS)(a:Nat)(n:Nd):WS:=
 { s with g':=mU s.g' ⟨a,n.side,s.atoms.length,0,0,n.w,n.h⟩ (s.P'.y+s.P'.m) (eo rs a) }
def WS.enter(s:WS)(t:S1):WS:=
 let p:=if(cu (fI t.clear) s.g').2 then eC s.P' (cu (fI t.clear) s.g').1 else s.P'
 { s with P':=dK p t.top t.RH }
def WS.leave(s:WS)(t:S1):WS:={ s with P':=j7 s.P' t.RX t.O' }
def Bd.enter{s:WS}{B:Int}(h:Bd s B){t:S1}(ht:SOk t):Bd (s.enter t) (B+2199023255552):=by
 obtain⟨hf,h1,h2,h3,h4⟩:=h;have hp:∀p:Pn,0<=p.y->0<=p.m->p.m<=1099511627776->p.y+p.m<=B->Bd { s with P':=dK p t.top t.RH } (B+2199023255552):=by
  intro p g1 g2 g3 g4;have a1:=ht.top;have a2:=ht.RH;refine⟨λf Xf=>(hf f Xf).mono (by omega),?_,?_,?_,?_⟩<;>simp only[dK,kM]<;>(repeat' split)<;>omega
 unfold WS.enter;simp only;split
 .rename_i hm;obtain⟨f,hfm,e1,_⟩:=kA hm;have e2:(fI t.clear f).1=f.y+f.h:=rfl;have W5:=hf f hfm;have hy:=W5.yB;have Za:=W5.y0;have hh0:=W5.h0;rw[e1,e2];refine hp _ ?_ ?_ ?_ ?_<;>(unfold eC;split)<;>(try simp only)<;>omega
 .exact hp _ h1 h2 h3 h4
def Bd.leave{s:WS}{B:Int}(h:Bd s B){t:S1}(ht:SOk t):Bd (s.leave t) (B+2199023255552):=by
 obtain⟨hf,h1,h2,h3,h4⟩:=h;have a1:=ht.RX;have a2:=ht.O';refine⟨λf Xf=>(hf f Xf).mono (by omega),?_,?_,?_,?_⟩<;>simp only[WS.leave,j7,kM]<;>(repeat' split)<;>omega
open Go.Proofs
structure Zb(l:List Nd)(rs:List Rm):Prop where
 ry:l.length<=2000
 Zc:Sc l=true
 len:rs.length=l.length
 rok:∀r∈rs,r.ok
def Zb.room{l:List Nd}{rs:List Rm}(h:Zb l rs){a:Nat}(ha:a<l.length):∃h':a<rs.length,rs[a].ok:=⟨by rw[h.len];exact ha,h.rok _ (Sx _)⟩
def Zb.span{l:List Nd}{rs:List Rm}(h:Zb l rs){a:Nat}(ha:a<l.length):DH (eo rs a):=by
 obtain⟨h',r1,r2,r3,r4⟩:=h.room ha;have e:rs.getD a ⟨0,0⟩=rs[a]:=by simp[h']
 unfold eo DH;rw[e];simp only;omega
def DH.bq{s:Sn}(h:DH s):SJ s.a/\SJ s.b:=by obtain⟨a,b,c,d⟩:=h;exact⟨⟨by omega,by omega⟩,⟨by omega,by omega⟩⟩
def Bd.flo{s:WS}{B:Int}(h:Bd s B)(hB:B<=1152921504606846976):∀f∈s.g',f.ok:=λf hf=>(h.fl f hf).ok hB
def ix(l:List Nd){a:Nat}(h:a<l.length)(U:ak):bG U 20 (aQ l) (.int .i64 a)=some (.rp (.agg (Nd.cells l[a]))):=bI h
def UD.mono{l:List Nd}{rs:List Rm}{Z0 U J:ak}{iw:Nat}{s:WS}(hJ:UD l rs Z0 iw s U)(hs:aa U J):UD l rs Z0 iw s J:=by
 obtain⟨va,vf,w1,h1,h2,h3⟩:=hJ.row;exact⟨hJ.sub.trans hs,hJ.no,va,vf,hs _ _ w1,h1.mono hs,h2.mono hs,h3⟩
def tD2:List (List Nat):=[[],[0],[1,0],[2,1,0],[3,2,1,0],[],[5],[],[7],[],[9],[10,9],[11,10,9],[12,11,10,9],[],[],[14,15,13,12,11,10,9],[4,6,8,13,16,3,2,1,0,5,7,12,11,10,9,14,15],[17,4,6,8,13,16,3,2,1,0,5,7,12,11,10,9,14,15],[18,17,4,6,8,13,16,3,2,1,0,5,7,12,11,10,9,14,15],[18,17,4,6,8,13,16,3,2,1,0,5,7,12,11,10,9,14,15],[],[21,19,17,0,1,2,3,4,5,6,7,8,9,10,11,12,13,14,15,16,18],[20,22,0,1,2,3,4,5,6,7,8,9,10,11,12,13,14,15,16,17,18,19,21]]
def Hk{l:List Nd}{rs:List Rm}(hD:Zb l rs){Z0 U:ak}{iw:Nat}{s:WS}{B:Int}(hJ:UD l rs Z0 iw s U)(hB:Bd s B)(hB1:B<=576460752303423488)(a:Nat)(ha:a<l.length)(hk:l[a].kind=3)(hn:s.atoms.length<=100000)(hfn:s.g'.length<=100000):
 aB prog 146 [.ptr iw 0 0,vI a] U λr Z'=>r=.RM []/\UD l rs Z0 iw (WS.mono l rs s a l[a]) Z':=by
 obtain⟨va,vf,w1,YJ,Xw,hf2⟩:=hJ.row;obtain⟨ca,sa⟩:=YJ.vc;obtain⟨cf,sf⟩:=Xw.vc;have R9:=eJ hD.Zc ha;have Vq:=hD.span ha;obtain⟨har,XU⟩:=hD.room ha;have RF:=ix l ha;have Xx:∀n:Nd,V.agg (Nd.cells n)=gz n:=λ_=>rfl;unfold WS.mono;generalize l[a]=n at*;refine O9.q ?_;refine mS 7 ?_;simp only[go_sem,seval,MD,w1,ca,cf,ay,ad,ae,af,RF,Nd.cells];refine aD λi4 Z4 s4 a4 f4=>?_;simp only[go_sem,seval,a4,ae,af,gq];generalize XV:C' Z4 i4 _=Y4;have b4:Y4 i4=some ⟨59,20,[.agg (Nd.cells n)]⟩:=by rw[<-XV];exact av
 rw[Nd.cells]at b4;have s4':aa U Y4:=by rw[<-XV];exact s4.aL f4
 clear XV;have w4:=s4' _ _ w1;have hlen:vv Y4 vf (bg s.g'):=(Xw.mono s4').yK;have UX:=hJ.mono s4';have hm:=hB.m1;have Zd:=hB.m0;have Za:=hB.y0;have hyB:=hB.yB;have hws:=R9.w;have hhs:=R9.h;have U2:=EB s.g' n.w n.h (s.P'.y+s.P'.m) (eo rs a) (by omega) (hB.flo (by omega)) ⟨by omega,by omega⟩ ⟨by omega,by omega⟩ Vq.bq;obtain⟨Sl,UK⟩:∃z,z=fN s.g' n.w n.h (eo rs a) (s.P'.y+s.P'.m):=⟨_,rfl⟩
 have hyr:=eX (w:=n.w) (high:=n.h) (y:=s.P'.y+s.P'.m) (s:=eo rs a) (λf hf=>(hB.fl f hf).yB);rw[<-UK]at U2 hyr|-;obtain⟨b,hb⟩:∃b,b=bM s.g' Sl n.h (eo rs a):=⟨_,rfl⟩
 rw[<-hb]at U2|-;have fin:∀(S:Nat->V) (J:ak) (i5:Nat),aa Y4 J->J i5=some ⟨195,2,[.agg [vI b.a,vI b.b]]⟩->S 0=.ptr iw 0 0->S 1=vI a->S 4=.ptr i4 0 0->S 5=.ptr i5 0 0->S 6=vI Sl->
  aq prog 46 [It.code (.VL false [⟨some 35,.VK (.t 0),none⟩,⟨some 36,.VK (.t 1),none⟩,⟨some 37,.fldA false 0 1 (.t 5),none⟩,⟨some 38,.load false 1 (.t 37),none⟩,⟨some 39,.VK (.t 6),none⟩,⟨some 40,.fldA false 18 1 (.t 4),none⟩,⟨some 41,.load false 1 (.t 40),none⟩,⟨some 42,.fldA false 19 1 (.t 4),none⟩,⟨some 43,.load false 1 (.t 42),none⟩,⟨some 44,.build [.int .i64 0,.int .i64 0,.int .i64 0,.int .i64 0,.int .i64 0,.int .i64 0,.int .i64 0,.int .i64 0] [(0,1,.c (.int .i64 2)),(1,1,.t 36),(4,1,.t 38),(5,1,.t 39),(6,1,.t 41),(7,1,.t 43)],none⟩,⟨some 45,.call (.c (.fn 176 [])) [.t 35,.t 44],none⟩])] ⟨S,J⟩
   (λst=>az (.RM []) st.U λr Z'=>r=.RM []/\UD l rs Z0 iw (s.put ⟨2,a,0,0,b.a,Sl,n.w,n.h⟩) Z'):=by
  intro S J i5 hτ c5 t0 t1 t4 t5 t6;have c4:=hτ _ _ b4;refine mS 7 ?_;simp only[go_sem,seval,t0,t1,t4,t5,t6,c4,c5,ae];refine Tx rfl (Fx (UX.mono hτ) ⟨2,a,0,0,b.a,Sl,n.w,n.h⟩ (show Bq Sl from⟨by omega,by omega⟩) (show Bq n.h from⟨by omega,by omega⟩) (by omega)) ?_;rintro r Z' ⟨rfl,V0⟩;apply sR;simp only[go_sem,seval];exact SG ⟨rfl,V0⟩
 refine aq.vZ (by kernel_rfl) 8 (.fork tD2 [0,1,2,3,4,5,6,7,8,9,10,11,12,14,15] [13,21] [(.fork (sX tD2 [(21,[13,12,11,10,9]),(22,[13,12,11,10,9,21,19,17,0,1,2,3,4,5,6,7,8,14,15,16,18]),(23,[13,12,11,10,9,20,22,0,1,2,3,4,5,6,7,8,14,15,16,17,18,19,21])]) [13] [16,21] [(.fork (sX tD2 [(21,[16,14,15,13,12,11,10,9]),(22,[16,14,15,13,12,11,10,9,21,19,17,0,1,2,3,4,5,6,7,8,18]),(23,[16,14,15,13,12,11,10,9,20,22,0,1,2,3,4,5,6,7,8,17,18,19,21])]) [16] [17,21] [(.leaf (sX tD2 [(21,[17,4,6,8,13,16,3,2,1,0,5,7,12,11,10,9,14,15]),(22,[17,4,6,8,13,16,3,2,1,0,5,7,12,11,10,9,14,15,21,19,18]),(23,[17,4,6,8,13,16,3,2,1,0,5,7,12,11,10,9,14,15,20,22,18,19,21])]) [17,18,19,20,21,22,23]),(.leaf (sX tD2 [(17,[21,16,14,15,13,12,11,10,9,4,6,8,3,2,1,0,5,7]),(18,[21,16,14,15,13,12,11,10,9,17,4,6,8,3,2,1,0,5,7]),(19,[21,16,14,15,13,12,11,10,9,18,17,4,6,8,3,2,1,0,5,7]),(20,[21,16,14,15,13,12,11,10,9,18,17,4,6,8,3,2,1,0,5,7]),(21,[16,14,15,13,12,11,10,9]),(22,[21,16,14,15,13,12,11,10,9,19,17,0,1,2,3,4,5,6,7,8,18]),(23,[21,16,14,15,13,12,11,10,9,20,22,0,1,2,3,4,5,6,7,8,17,18,19])]) [21,17,18,19,20,22,23])]),(.leaf (sX tD2 [(16,[21,13,12,11,10,9,14,15]),(17,[21,13,12,11,10,9,4,6,8,16,3,2,1,0,5,7,14,15]),(18,[21,13,12,11,10,9,17,4,6,8,16,3,2,1,0,5,7,14,15]),(19,[21,13,12,11,10,9,18,17,4,6,8,16,3,2,1,0,5,7,14,15]),(20,[21,13,12,11,10,9,18,17,4,6,8,16,3,2,1,0,5,7,14,15]),(21,[13,12,11,10,9]),(22,[21,13,12,11,10,9,19,17,0,1,2,3,4,5,6,7,8,14,15,16,18]),(23,[21,13,12,11,10,9,20,22,0,1,2,3,4,5,6,7,8,14,15,16,17,18,19])]) [21,16,17,18,19,20,22,23])]),(.leaf (sX tD2 [(13,[21,12,11,10,9]),(16,[21,14,15,13,12,11,10,9]),(17,[21,4,6,8,13,16,3,2,1,0,5,7,12,11,10,9,14,15]),(18,[21,17,4,6,8,13,16,3,2,1,0,5,7,12,11,10,9,14,15]),(19,[21,18,17,4,6,8,13,16,3,2,1,0,5,7,12,11,10,9,14,15]),(20,[21,18,17,4,6,8,13,16,3,2,1,0,5,7,12,11,10,9,14,15]),(23,[21,20,22,0,1,2,3,4,5,6,7,8,9,10,11,12,13,14,15,16,17,18,19])]) [21,13,16,17,18,19,20,22,23])]) (by kernel_rfl) ?_;refine GT.oQ (its:=[0,2,4,6,8,10,12,14,16,18,20,22,24,28,30]) (by kernel_rfl) ?_;refine cU (n:=0) [] [0,2,4,6,8,10,12,14,16,18,20,22,24,28,30] [_,_,_,_,_,_,_,_,_,_,_,_,_,_,_] rfl rfl ?_;simp only[go_sem,seval,b4,w4,ca,cf,ay,ad,ae,af];refine⟨?_,?_⟩
 .refine GT.oQ (its:=[26,9,13,17]) (by kernel_rfl) ?_;refine Wt rfl (Ed s.P' ⟨by omega,by omega⟩ ⟨by omega,by omega⟩ _) ?_;refine dI rfl (by simp only[go_sem,seval,b4,w4,ca,cf,ay,ad,ae,af]) ?_;refine dI rfl (by simp only[go_sem,seval,b4,w4,ca,cf,ay,ad,ae,af]) ?_;refine dI rfl (by simp only[go_sem,seval,b4,w4,ca,cf,ay,ad,ae,af]) ?_;refine⟨?_,?_⟩
  .refine GT.oQ (its:=[32,9,13,17]) (by kernel_rfl) ?_;refine Wt rfl (AN UX a har XU) ?_;refine dI rfl (by simp only[go_sem,seval,b4,w4,ca,cf,ay,ad,ae,af]) ?_;refine dI rfl (by simp only[go_sem,seval,b4,w4,ca,cf,ay,ad,ae,af]) ?_;refine dI rfl (by simp only[go_sem,seval,b4,w4,ca,cf,ay,ad,ae,af]) ?_;refine⟨?_,?_⟩
   .refine GT.gV (its:=[34,36,38,40,42,44,46]) (by kernel_rfl) ?_;refine Wt rfl (aV.td (args':=[bg s.g',vI n.w,vI n.h,vI (s.P'.y+s.P'.m),aW (eo rs a)]) ⟨hlen.at,Ur _,Ur _,Ur _,Ur _,trivial⟩ U2 rfl) ?_;refine cU (n:=0) [] [36,38,40,42,44,46] [_,_,_,_,_,_] rfl rfl ?_;simp only[go_sem,seval,b4,w4,ca,cf,ay,ad,ae,af];refine bJ λi5 Z5 s5 a5 f5=>?_;replace b4:=s5 _ _ b4;replace w4:=s5 _ _ w4;replace hlen:=hlen.mono s5;replace UX:=UX.mono s5;simp only[go_sem,seval,b4,w4,ca,cf,ay,ad,ae,af,a5,aW];exact fin _ _ i5 (s5.aL f5) av rfl rfl rfl rfl rfl
   .refine GT.gV (its:=[42,9,13,17,34,36,38,40,44,46]) (by kernel_rfl) ?_;refine cU (n:=0) [9,13,17,34,36,38,40,44,46] [42] [_] rfl rfl ?_;simp only[go_sem,seval,b4,w4,ca,cf,ay,ad,ae,af];refine bJ λi5 Z5 s5 a5 f5=>?_;replace b4:=s5 _ _ b4;replace w4:=s5 _ _ w4;replace hlen:=hlen.mono s5;replace UX:=UX.mono s5;simp only[go_sem,seval,b4,w4,ca,cf,ay,ad,ae,af,a5,aW];refine dI rfl (by simp only[go_sem,seval,b4,w4,ca,cf,ay,ad,ae,af,a5,aW]) ?_;refine dI rfl (by simp only[go_sem,seval,b4,w4,ca,cf,ay,ad,ae,af,a5,aW]) ?_;refine dI rfl (by simp only[go_sem,seval,b4,w4,ca,cf,ay,ad,ae,af,a5,aW]) ?_;refine Wt rfl (aV.td (args':=[bg s.g',vI n.w,vI n.h,vI (s.P'.y+s.P'.m),aW (eo rs a)]) ⟨hlen.at,Ur _,Ur _,Ur _,Ur _,trivial⟩ U2 rfl) ?_;refine cU (n:=0) [] [36,38,40,44,46] [_,_,_,_,_] rfl rfl ?_;simp only[go_sem,seval,b4,w4,ca,cf,ay,ad,ae,af,a5,aW];exact fin _ _ i5 (s5.aL f5) av rfl rfl rfl rfl rfl
  .refine GT.gV (its:=[42,9,13,17,32,9,13,17,34,36,38,40,44,46]) (by kernel_rfl) ?_;refine cU (n:=0) [9,13,17,32,9,13,17,34,36,38,40,44,46] [42] [_] rfl rfl ?_;simp only[go_sem,seval,b4,w4,ca,cf,ay,ad,ae,af];refine bJ λi5 Z5 s5 a5 f5=>?_;replace b4:=s5 _ _ b4;replace w4:=s5 _ _ w4;replace hlen:=hlen.mono s5;replace UX:=UX.mono s5;simp only[go_sem,seval,b4,w4,ca,cf,ay,ad,ae,af,a5,aW];refine dI rfl (by simp only[go_sem,seval,b4,w4,ca,cf,ay,ad,ae,af,a5,aW]) ?_;refine dI rfl (by simp only[go_sem,seval,b4,w4,ca,cf,ay,ad,ae,af,a5,aW]) ?_;refine dI rfl (by simp only[go_sem,seval,b4,w4,ca,cf,ay,ad,ae,af,a5,aW]) ?_;refine Wt rfl (AN UX a har XU) ?_;refine dI rfl (by simp only[go_sem,seval,b4,w4,ca,cf,ay,ad,ae,af,a5,aW]) ?_;refine dI rfl (by simp only[go_sem,seval,b4,w4,ca,cf,ay,ad,ae,af,a5,aW]) ?_;refine dI rfl (by simp only[go_sem,seval,b4,w4,ca,cf,ay,ad,ae,af,a5,aW]) ?_;refine Wt rfl (aV.td (args':=[bg s.g',vI n.w,vI n.h,vI (s.P'.y+s.P'.m),aW (eo rs a)]) ⟨hlen.at,Ur _,Ur _,Ur _,Ur _,trivial⟩ U2 rfl) ?_;refine cU (n:=0) [] [36,38,40,44,46] [_,_,_,_,_] rfl rfl ?_;simp only[go_sem,seval,b4,w4,ca,cf,ay,ad,ae,af,a5,aW];exact fin _ _ i5 (s5.aL f5) av rfl rfl rfl rfl rfl
 .refine GT.gV (its:=[42,9,13,17,25,26,9,13,17,32,9,13,17,34,36,38,40,44,46]) (by kernel_rfl) ?_;refine cU (n:=0) [9,13,17,25,26,9,13,17,32,9,13,17,34,36,38,40,44,46] [42] [_] rfl rfl ?_;simp only[go_sem,seval,b4,w4,ca,cf,ay,ad,ae,af];refine bJ λi5 Z5 s5 a5 f5=>?_;replace b4:=s5 _ _ b4;replace w4:=s5 _ _ w4;replace hlen:=hlen.mono s5;replace UX:=UX.mono s5;simp only[go_sem,seval,b4,w4,ca,cf,ay,ad,ae,af,a5,aW];refine dI rfl (by simp only[go_sem,seval,b4,w4,ca,cf,ay,ad,ae,af,a5,aW]) ?_;refine dI rfl (by simp only[go_sem,seval,b4,w4,ca,cf,ay,ad,ae,af,a5,aW]) ?_;refine dI rfl (by simp only[go_sem,seval,b4,w4,ca,cf,ay,ad,ae,af,a5,aW]) ?_;refine dI rfl (by simp only[go_sem,seval,b4,w4,ca,cf,ay,ad,ae,af,a5,aW]) ?_;refine Wt rfl (Ed s.P' ⟨by omega,by omega⟩ ⟨by omega,by omega⟩ _) ?_;refine dI rfl (by simp only[go_sem,seval,b4,w4,ca,cf,ay,ad,ae,af,a5,aW]) ?_;refine dI rfl (by simp only[go_sem,seval,b4,w4,ca,cf,ay,ad,ae,af,a5,aW]) ?_;refine dI rfl (by simp only[go_sem,seval,b4,w4,ca,cf,ay,ad,ae,af,a5,aW]) ?_;refine Wt rfl (AN UX a har XU) ?_;refine dI rfl (by simp only[go_sem,seval,b4,w4,ca,cf,ay,ad,ae,af,a5,aW]) ?_;refine dI rfl (by simp only[go_sem,seval,b4,w4,ca,cf,ay,ad,ae,af,a5,aW]) ?_;refine dI rfl (by simp only[go_sem,seval,b4,w4,ca,cf,ay,ad,ae,af,a5,aW]) ?_;refine Wt rfl (aV.td (args':=[bg s.g',vI n.w,vI n.h,vI (s.P'.y+s.P'.m),aW (eo rs a)]) ⟨hlen.at,Ur _,Ur _,Ur _,Ur _,trivial⟩ U2 rfl) ?_;refine cU (n:=0) [] [36,38,40,44,46] [_,_,_,_,_] rfl rfl ?_;simp only[go_sem,seval,b4,w4,ca,cf,ay,ad,ae,af,a5,aW];exact fin _ _ i5 (s5.aL f5) av rfl rfl rfl rfl rfl
open Go.Proofs
def aP.Bo{Z0 J:ak}{iw e sz:Nat}{v:V}{rows:List V}{o:Ob}(h:aP (cg Z0 iw) J e sz v rows):aP (cg Z0 iw) (C' J iw o) e sz v rows:=by
 rcases h with h|⟨id,h1,h2,h3⟩
 .exact .inl h
 .exact .inr ⟨id,h1,by rw[ab (bh.1 h3).1];exact h2,h3⟩
def aP.wb{Z0 J U:ak}{iw e sz:Nat}{v:V}{rows:List V}(h:aP J U e sz v rows)(hs:aa Z0 J){o:Ob}(hw:J iw=some o):aP (cg Z0 iw) U e sz v rows:=by
 rcases h with h|⟨id,h1,h2,h3⟩
 .exact .inl h
 .exact .inr ⟨id,h1,h2,bh.2 ⟨λe=>(by rw[e,hw]at h3;cases h3),hs.none h3⟩⟩
def E0{l:List Nd}{rs:List Rm}(hD:Zb l rs){Z0 U:ak}{iw:Nat}{s:WS}{B:Int}(hJ:UD l rs Z0 iw s U)(hB:Bd s B)(hB1:B<=576460752303423488)(a:Nat)(ha:a<l.length)(hn:s.atoms.length<=100000)(hfn:s.g'.length<=100000):
 aB prog 147 [.ptr iw 0 0,vI a] U λr Z'=>r=.RM []/\UD l rs Z0 iw (WS.float rs s a l[a]) Z':=by
 obtain⟨va,vf,w1,YJ,Xw,hf2⟩:=hJ.row;obtain⟨ca,sa⟩:=YJ.vc;obtain⟨cf,sf⟩:=Xw.vc;have WI:ej false va=some (.int .i64 s.atoms.length):=by rw[YJ.len];simp
 have R9:=eJ hD.Zc ha;have Vq:=hD.span ha;obtain⟨har,XU⟩:=hD.room ha;have RF:=ix l ha;unfold WS.float;generalize l[a]=n at*;refine QV.q ?_;refine mS 6 ?_;simp only[go_sem,seval,Me,w1,ca,cf,ay,ad,ae,af,RF,Nd.cells];refine aD λi4 Z4 s4 a4 f4=>?_;have w4':=s4 _ _ w1;have n4:=bb w1 f4;simp only[go_sem,seval,a4,w4',ab n4,ca,cf,WI,ay,ad,ae,af];generalize XV:C' Z4 i4 _=Y4;have b4:Y4 i4=some ⟨59,20,[.agg (Nd.cells n)]⟩:=by rw[<-XV];exact av
 rw[Nd.cells]at b4;have s4'':aa U Y4:=by rw[<-XV];exact s4.aL f4
 clear XV;have w4:=s4'' _ _ w1;refine bJ λi5 Z5 s5 a5 f5=>?_;have s5':=s4''.trans s5;have XW:=hJ.mono (s5'.aL (o:=⟨137,7,[bl ⟨a,n.side,s.atoms.length,0,0,n.w,n.h⟩]⟩) (s4''.none f5));have Xx:bl ⟨a,n.side,s.atoms.length,0,0,n.w,n.h⟩=.agg [vI a,vI n.side,vI s.atoms.length,vI 0,vI 0,vI n.w,vI n.h]:=rfl;rw[Xx]at XW;simp only[go_sem,seval,a5,gq];generalize TL:C' Z5 i5 _=Y5 at*;have b5:Y5 i5=some ⟨137,7,[.agg [vI a,vI n.side,vI s.atoms.length,vI 0,vI 0,vI n.w,vI n.h]]⟩:=by rw[<-TL];exact av
 have w5:Y5 iw=some ⟨172,7,[.agg [va,vf,vI s.RD,vI s.P'.y,vI s.P'.m,aQ l,cK rs]]⟩:=by rw[<-TL,ab (bb w4 f5)];exact s5 _ _ w4
 have s6:aa U Y5:=by rw[<-TL];exact s5'.aL (s4''.none f5)
 clear TL;have hf5:=Xw.mono s6;have hm:=hB.m1;have Zd:=hB.m0;have Za:=hB.y0;have hyB:=hB.yB;have hws:=R9.w;have hhs:=R9.h;have hput:=IP vf s.g' hf5 hf2 ⟨a,n.side,s.atoms.length,0,0,n.w,n.h⟩ (s.P'.y+s.P'.m) (eo rs a) (by omega) (hB.flo (by omega)) ⟨by omega,by omega⟩ (show Bq n.h from⟨by omega,by omega⟩) (show Bq n.w from⟨by omega,by omega⟩) Vq.bq;rw[Xx]at hput;have hpne:mU s.g' ⟨a,n.side,s.atoms.length,0,0,n.w,n.h⟩ (s.P'.y+s.P'.m) (eo rs a)≠[]:=by simp[mU]
 have hs05:=hJ.sub.trans s6;have w5o:=w5;generalize mU s.g' ⟨a,n.side,s.atoms.length,0,0,n.w,n.h⟩ (s.P'.y+s.P'.m) (eo rs a)=fs' at*;refine aq.vZ (by kernel_rfl) 8 (.leaf [[],[],[1],[2,1],[3,2,1],[4,3,2,1],[],[],[7],[8,7],[9,8,7],[10,9,8,7],[],[],[12,13,11,10,9,8,7],[5,6,11,14,4,3,2,1,10,9,8,7,12,13],[0,1,2,3,4,5,6,7,8,9,10,11,12,13,14,15],[16,0,1,2,3,4,5,6,7,8,9,10,11,12,13,14,15],[17,0,1,2,3,4,5,6,7,8,9,10,11,12,13,14,15,16],[18,15,0,1,2,3,4,5,6,7,8,9,10,11,12,13,14,17,16]] [0,1,2,3,4,5,6,7,8,9,10,12,13,11,14,15,16,17,18,19]) (by kernel_rfl) ?_;refine GT.gV (its:=[0,2,4,6,8,10,12,14,16,18,20,24,26,22,11,13,28,11,13,30,32,34,36,38]) (by kernel_rfl) ?_;refine cU (n:=0) [22,11,13,28,11,13,30,32,34,36,38] [0,2,4,6,8,10,12,14,16,18,20,24,26] [_,_,_,_,_,_,_,_,_,_,_,_,_] rfl rfl ?_;simp only[go_sem,seval,b5,w5,ca,cf,ay,ad];refine Wt rfl (Ed s.P' ⟨by omega,by omega⟩ ⟨by omega,by omega⟩ _) ?_;refine dI rfl (by simp only[go_sem,seval,b5,w5,ca,cf,ay,ad]) ?_;refine dI rfl (by simp only[go_sem,seval,b5,w5,ca,cf,ay,ad]) ?_;refine Wt rfl (AN XW a har XU) ?_;refine dI rfl (by simp only[go_sem,seval,b5,w5,ca,cf,ay,ad]) ?_;refine dI rfl (by simp only[go_sem,seval,b5,w5,ca,cf,ay,ad]) ?_;refine RE.call rfl rfl rfl rfl rfl hput ?_;rintro r Z7 ⟨s7,R3⟩;have w7:=s7 _ _ w5;replace b5:=s7 _ _ b5;replace w5:=s7 _ _ w5;obtain⟨cr,sr⟩:=R3.vc;refine cU (n:=0) [] [32,34,36,38] [_,_,_,_] rfl rfl ?_;simp only[go_sem,seval,b5,w5,ca,cf,ay,ad,cr,sr];apply sR;simp only[go_sem,seval];refine SG ⟨rfl,?_⟩;have hfa:=(YJ.mono s6).mono s7;exact⟨(hs05.trans s7).aL hJ.no,hJ.no,va,r,av,hfa.Bo,(R3.wb hs05 w5o).Bo,λh=>absurd h hpne⟩
open Go.Proofs
section
variable {P:Program} {n:Nat} {st:St} {Q:St->Prop} {k:List It}
def Go.xB{i:aS}{l:List aS}{fx:VX}{xs:List VX}{f:FuncId}{caps:List V}{v:V}(hw:bn st.s i.g=some true)(ho:i.op=.call fx xs)
 (hf:fx.ev st.s=.fn f caps)(hc:∀Z1,aa st.U Z1->aB P f (xs.map (·.ev st.s)++caps) Z1 λr Z'=>r=v/\Z'=Z1)(h:Go P n (.d l k) ⟨aY st.s i.dst v,st.U⟩ Q):Go P n (.d (i::l) k) st Q:=by
 refine o5 hw ?_;rw[ho];exact⟨f,caps,v,hf,λZ1 h1=>hc Z1 h1,h⟩
end
def iY{fs:List RS}{ws:List Int}{space high B:Int}{s:Sn}(hB:∀f∈fs,f.y+f.h<=B)(h0:0<=high):∀(k i:Nat) (y:Int),∀x∈cA fs ws space high s k i y,y<=x.y/\x.y+high<=max y B+high*k
 |0,_,_,x,hx=>by simp[cA]at hx
 |k+1,i,y,x,hx=>by
  rw[cA]at hx;split at hx
  .have hr:=eX (w:=ws.getD i 0) (high:=high) (y:=y) (s:=s) hB;have e:(lP fs ws space high i y s).y=fN fs (ws.getD i 0) high s y:=rfl;have e2:high*((k+1:Nat):Int)=high*k+high:=by rw[Int.natCast_add,Int.mul_add];simp
   have hk:0<=high*(k:Int):=Int.mul_nonneg h0 (by omega);rcases dZ.1 hx with rfl|hx
   .rw[e,e2];omega
   .have:=iY hB h0 k _ _ x hx;rw[e]at this;rw[e2];omega
  .cases hx
def UD.EO{l:List Nd}{rs:List Rm}{Z0 U:ak}{iw i:Nat}{s:WS}{o:Ob}(hJ:UD l rs Z0 iw s U)(hi:U i=some o)(h1:o.elem≠66)(h2:o.elem≠137)(h3:i≠iw):UD l rs (C' Z0 i o) iw s U:=by
 obtain⟨va,vf,w1,g1,g2,g3⟩:=hJ.row;have key:∀{e sz:Nat} {v:V} {rows:List V},o.elem≠e->aP (cg Z0 iw) U e sz v rows->aP (cg (C' Z0 i o) iw) U e sz v rows:=λ{e sz v rows} he h=>by
  rcases h with h|⟨id,a1,a2,a3⟩
  .exact .inl h
  .have RU:id≠i:=λe'=>by subst e';rw[a2]at hi;injection hi with hi;subst hi;exact he rfl
   exact .inr ⟨id,a1,a2,bh.2 ⟨(bh.1 a3).1,by rw[ab RU];exact(bh.1 a3).2⟩⟩
 refine⟨λj p h=>?_,by rw[ab h3.symm];exact hJ.no,va,vf,w1,key h1 g1,key h2 g2,g3⟩;by_cases e:j=i
 .subst e;rw[av]at h;rw[hi];exact h
 .rw[ab e]at h;exact hJ.sub _ _ h
def UD.narrow{l:List Nd}{rs:List Rm}{Z0 U:ak}{iw i:Nat}{s:WS}{o:Ob}(hJ:UD l rs (C' Z0 i o) iw s U)(hi:Z0 i=none)(h3:i≠iw):UD l rs Z0 iw s U:=by
 obtain⟨va,vf,w1,g1,g2,g3⟩:=hJ.row;have hs:aa Z0 (C' Z0 i o):=(aa.refl Z0).aL hi;have key:∀{e sz:Nat} {v:V} {rows:List V},aP (cg (C' Z0 i o) iw) U e sz v rows->aP (cg Z0 iw) U e sz v rows:=λ{e sz v rows} h=>by
  rcases h with h|⟨id,a1,a2,a3⟩
  .exact .inl h
  .exact .inr ⟨id,a1,a2,bh.2 ⟨(bh.1 a3).1,hs.none (bh.1 a3).2⟩⟩
 exact⟨hs.trans hJ.sub,hs.none hJ.no,va,vf,w1,key g1,key g2,g3⟩
def j5{U:ak}{e sz id:Nat}{rows:List V}{i:Nat}(h:U id=some ⟨e,sz,rows⟩)(hi:i<rows.length):bG U sz (.own id 0 rows.length) (.int .i64 i)=some (.ptr id i 0):=by
 simp[bG,h,hi]
def eI(a:Nat)(h:Int)(s:WS)(L:List Ln):WS:=L.foldl (λs x=>s.put (eM a h x)) s
def ua{a:Nat}{h:Int}{s:WS}{L:List Ln}{j:Nat}(hj:j<L.length):eI a h s (L.take (j+1))=(eI a h s (L.take j)).put (eM a h L[j]):=by
 unfold eI;rw[U0 hj,nT];rfl
def oc(a:Nat)(h:Int):∀(L:List Ln) (s:WS),(eI a h s L).atoms.length=s.atoms.length+L.length
 |[],s=>by simp[eI]
 |x::L,s=>by
  have:=oc a h L (s.put (eM a h x));simp only[eI,jK]at this|-;rw[this];simp only[WS.put,kI,TI,List.length_nil];omega
def IM{l:List Nd}{rs:List Rm}(hD:Zb l rs){Z0 U:ak}{iw:Nat}{s:WS}{B:Int}(hJ:UD l rs Z0 iw s U)(hB:Bd s B)(hB1:B<=288230376151711744)(a:Nat)(ha:a<l.length)(hn:s.atoms.length<=100000)(hfn:s.g'.length<=100000)(hwl:l[a].words.length<=10000):
 aB prog 145 [.ptr iw 0 0,vI a] U λr Z'=>r=.RM []/\UD l rs Z0 iw (WS.text rs s a l[a]) Z':=by
 obtain⟨va,vf,w1,YJ,Xw,hf2⟩:=hJ.row;obtain⟨ca,sa⟩:=YJ.vc;obtain⟨cf,sf⟩:=Xw.vc;have R9:=eJ hD.Zc ha;have Vq:=hD.span ha;obtain⟨har,XU⟩:=hD.room ha;have RF:=ix l ha;unfold WS.text;generalize l[a]=n at*;have hwok:WOk n.words n.space:=⟨by omega,λx hx=>by have:=R9.words x hx;omega,R9.space.1,R9.space.2⟩
 have hm:=hB.m1;have Zd:=hB.m0;have Za:=hB.y0;have hyB:=hB.yB;have hlb:=R9.line;refine Ru.q ?_;refine mS 7 ?_;simp only[go_sem,seval,N6,w1,ca,cf,ay,ad,ae,af,RF,Nd.cells];refine aD λi4 Z4 s4 a4 f4=>?_;have w4':=s4 _ _ w1;have n4:=bb w1 f4;simp only[go_sem,seval,a4,w4',ab n4,ca,cf,ay,ad,ae,af];generalize XV:C' Z4 i4 _=Y4;have b4:Y4 i4=some ⟨59,20,[.agg (Nd.cells n)]⟩:=by rw[<-XV];exact av
 rw[Nd.cells]at b4;have s4':aa U Y4:=by rw[<-XV];exact s4.aL f4
 clear XV;have w4:=s4' _ _ w1;have hlen:vv Y4 vf (bg s.g'):=(Xw.mono s4').yK;have UX:=hJ.mono s4';refine pJ rfl (Ed s.P' ⟨by omega,by omega⟩ ⟨by omega,by omega⟩) ?_;apply sG;simp only[go_sem,seval];refine Go.xB rfl rfl rfl (λZ8 h8=>AN (UX.mono h8) a har XU) ?_;apply sG;simp only[go_sem,seval];have hLl:=jt s.g' n.words n.space n.line (eo rs a) n.words.length 0 (s.P'.y+s.P'.m);have hLb:=iY (ws:=n.words) (space:=n.space) (s:=eo rs a) (λf hf=>(hB.fl f hf).yB) hlb.1 n.words.length 0 (s.P'.y+s.P'.m);have u':=λZ8 (h8:aa Y4 Z8)=>(He vf s.g' (hlen.mono h8) n.words n.space n.line (s.P'.y+s.P'.m) (eo rs a) (by omega) (hB.flo (by omega)) B (λf hf=>(hB.fl f hf).yB) (by omega) (by omega) (by omega) hlb.1 hlb.2 Vq.bq hwok).yq λ_ _ h=>h.2.ns (v0:=jZ (cA s.g' n.words n.space n.line (eo rs a) n.words.length 0 (s.P'.y+s.P'.m))) h.1 rfl;generalize cA s.g' n.words n.space n.line (eo rs a) n.words.length 0 (s.P'.y+s.P'.m)=L at*;refine Go.xB rfl rfl rfl (λZ8 h8=>u' Z8 h8) ?_;have hnL:ej false (jZ L)=some (.int .i64 L.length):=by simp[jZ,ej]
 apply sG;simp only[go_sem,seval,hnL];have h0i:Z0 i4=none:=hJ.sub.none f4;have hJw:=UX.EO b4 (by simp) (by simp) n4.symm;have SD:((n.words.length:Nat):Int)<=10000:=by omega
 have hmul:n.line*(n.words.length:Int)<=1099511627776*10000:=Int.mul_le_mul hlb.2 SD (by omega) (by omega);refine aq.loop (λm st=>∃j:Nat,j<=L.length/\m=L.length-j/\UD l rs (C' Z0 i4 ⟨59,20,[.agg [vI n.kind,vI n.size,vI n.st.top,vI n.st.RX,vI n.st.RH,vI n.st.O',vI n.st.Si,vI n.st.RL,vI n.st.RY,vI n.st.head,vI n.st.before,vI n.st.after,vI n.st.inside,vI n.st.clear,vI n.line,vI n.space,aX n.words,vI n.side,vI n.w,vI n.h]]⟩) iw (eI a n.line s (L.take j)) st.U/\
  st.s 0=.ptr iw 0 0/\st.s 1=vI a/\st.s 4=.ptr i4 0 0/\st.s 33=jZ L/\st.s 34=vI L.length/\st.s 35=vI j) L.length ?_ ?_
 .exact⟨0,by omega,rfl,hJw,rfl,rfl,rfl,rfl,rfl,rfl⟩
 .rintro m ⟨S,J⟩ ⟨j,hj,rfl,Us,t0,t1,t4,t33,t34,t35⟩;simp only at Us t0 t1 t4 t33 t34 t35;refine aq.mix 7 ?_;have c4:=Us.sub _ _ (av (id:=i4));by_cases u':j<L.length
  .have q:=qT u';have SA:∀U,bG U 5 (jZ L) (.int .i64 j)=some (.rp (iX L[j])):=λU=>by simp[jZ,bG,u']
   have Sd:=ua (a:=a) (h:=n.line) (s:=s) u';have Sh:=hLb L[j] (Sx u');have WI:=oc a n.line (L.take j) s;rw[lQ]at WI;generalize L[j]=x at*;have Xx:iX x=.agg [vI x.fr,vI x.to,vI x.x,vI x.y,vI x.w]:=rfl;apply sR;simp only[go_sem,seval,t0,t1,t4,t33,t34,t35,q,SA,Xx];refine aD λi6 Z6 s6 a6 f6=>?_;have d4:=s6 _ _ c4;have n46:=bb c4 f6;simp only[go_sem,seval,a6,d4,t0,t1,t4,ab n46,ae];refine Tx rfl (Fx (Us.mono (s6.aL f6)) (eM a n.line x) (show Bq x.y from⟨by omega,by omega⟩) (show Bq n.line from⟨by omega,by omega⟩) (by omega)) ?_;rintro r Z' ⟨rfl,V0⟩;have r1:=rI j;apply sR;simp only[go_sem,seval,t0,t1,t4,t33,t34,t35,r1];exact⟨_,by omega,j+1,by omega,rfl,by rw[Sd];exact V0,by simp[t0,t1,t4,t33,t34]⟩
  .have q:=qF u';rw[pL (by omega)]at Us;apply sR;simp only[go_sem,seval,t0,t1,t4,t33,t34,t35,q];exact SG ⟨rfl,Us.narrow h0i n4.symm⟩
def nd0:Nd:=⟨0,0,S1.zero,0,0,[],0,0,0⟩
def R4(l:List Nd)(a:Nat):Nd:=l.getD a nd0
def gx{l:List Nd}{a:Nat}(h:a<l.length):R4 l a=l[a]:=by simp[R4,h]
def cM(l:List Nd)(rs:List Rm):Nat->Nat->Nat->WS->WS
 |0,_,_,s=>s
 |k+1,a,e,s=>if a<e then cM l rs k (a+(RJ l a).toNat) e
   (if(R4 l a).kind=1 then(cM l rs k (a+1) (a+(RJ l a).toNat) (s.enter (R4 l a).st)).leave (R4 l a).st
    else if(R4 l a).kind=2 then s.text rs a (R4 l a)else if(R4 l a).kind=3 then WS.mono l rs s a (R4 l a)else s.float rs a (R4 l a))else s
def n9{l:List Nd}{rs:List Rm}{e:Nat}(he:e<=l.length):∀(k j a:Nat) (s:WS),e-a<=k->e-a<=j->bC l a e=true->cM l rs k a e s=cM l rs j a e s
 |0,0,_,_,_,_,_=>rfl
 |0,j+1,a,s,h,_,_=>by rw[cM,cM,aM (by omega)]
 |k+1,0,a,s,_,h,_=>by rw[cM,cM,aM (by omega)]
 |k+1,j+1,a,s,h,h',hr=>by
  rw[cM,cM];by_cases u':a<e
  .obtain⟨h1,h2⟩:=bS he hr (Sf a) u';obtain⟨h3,h4⟩:=cE he hr u';rw[aK u',aK u',n9 (e:=a+(RJ l a).toNat) (by omega) k j _ _ (by omega) (by omega) h4,n9 he k j _ _ (by omega) (by omega) h3]
  .rw[aM u',aM u']
def Ss(l:List Nd)(a e:Nat):Nat:=(((l.take e).drop a).map λn=>4+n.words.length).sum
def tp(l:List Nd)(a:Nat):Ss l a a=0:=by unfold Ss;rw[List.drop_of_length_le (by rw[lQ];omega)];rfl
def et{l:List Nd}{a m e:Nat}(h1:a<=m)(h2:m<=e)(h3:e<=l.length):Ss l a e=Ss l a m+Ss l m e:=by
 unfold Ss;rw[<-List.sum_append_nat,<-eQ];congr 2;have e1:l.take m=(l.take e).take m:=by rw[List.take_take,Nat.min_eq_left h2]
 rw[e1]
 conv=>lhs;rw[<-A8 m (l.take e)]
 rw[Ad (by rw[lQ,lQ];omega)]
def Hu{l:List Nd}{a:Nat}(h:a<l.length):Ss l a (a+1)=4+l[a].words.length:=by
 unfold Ss;rw[U0 h,Ad (by rw[lQ];omega),List.drop_of_length_le (by rw[lQ];omega)];simp
def nA{l:List Nd}{a e:Nat}(h1:a<e)(h3:e<=l.length):Ss l a e=4+(R4 l a).words.length+Ss l (a+1) e:=by
 rw[et (Nat.le_succ a) h1 h3,Hu (by omega),gx (by omega)]
structure fk(s:WS)(C:Nat):Prop where
 bd:Bd s (1099511627776*(C:Int))
 Sl:s.atoms.length<=C
 fl:s.g'.length<=C
def fk.more{s:WS}{C D:Nat}(h:fk s C)(hD:C<=D):fk s D:=⟨h.bd.mono (by omega),l9 h.Sl hD,l9 h.fl hD⟩
def kf{l:List Nd}{rs:List Rm}{s:WS}{C:Nat}(h:fk s C){n:Nd}(hn:YZ n)(a:Nat):fk (WS.mono l rs s a n) (C+1):=by
 obtain⟨⟨hf,h1,h2,h3,h4⟩,h5,h6⟩:=h;have hyr:=eX (w:=n.w) (high:=n.h) (y:=s.P'.y+s.P'.m) (s:=eo rs a) (λf Xf=>(hf f Xf).yB);have hh:=hn.h;refine⟨⟨λf Xf=>(hf f Xf).mono (by omega),?_,?_,?_,?_⟩,?_,?_⟩<;>simp only[WS.mono,WS.put,kI,TI,List.length_nil]<;>omega
def jx{l:List Nd}{rs:List Rm}(hD:Zb l rs){s:WS}{C:Nat}(h:fk s C){a:Nat}(ha:a<l.length){n:Nd}(hn:YZ n)(hk:n.kind=4):fk (s.float rs a n) (C+1):=by
 obtain⟨⟨hf,h1,h2,h3,h4⟩,h5,h6⟩:=h;have hb:=hn.box (.inr hk);have hw:=hn.w;have hh:=hn.h;refine⟨⟨λf Xf=>?_,h1,h2,h3,by simp only[WS.float];omega⟩,by simp only[WS.float];omega,by simp only[WS.float,mU,kI,TI,List.length_nil];omega⟩;exact(IJ (f:=⟨a,n.side,s.atoms.length,0,0,n.w,n.h⟩) hf (hD.span ha) (by omega) (by omega) (by simp only;omega) (by simp only;omega) (by simp only;omega) (by simp only;omega) f Xf).mono (by omega)
def ke{rs:List Rm}{s:WS}{C:Nat}(h:fk s C){n:Nd}(hn:YZ n)(a:Nat):fk (s.text rs a n) (C+n.words.length):=by
 obtain⟨⟨hf,h1,h2,h3,h4⟩,h5,h6⟩:=h;have hl:=hn.line;unfold WS.text;have hLl:=jt s.g' n.words n.space n.line (eo rs a) n.words.length 0 (s.P'.y+s.P'.m);have hLb:=iY (ws:=n.words) (space:=n.space) (s:=eo rs a) (λf Xf=>(hf f Xf).yB) hl.1 n.words.length 0 (s.P'.y+s.P'.m);generalize cA s.g' n.words n.space n.line (eo rs a) n.words.length 0 (s.P'.y+s.P'.m)=L at*;have hmul:n.line*(n.words.length:Int)<=1099511627776*(n.words.length:Int):=Int.mul_le_mul_of_nonneg_right hl.2 (by omega);have Zd:0<=n.line*(n.words.length:Int):=Int.mul_nonneg hl.1 (by omega);have key:∀(L:List Ln) (t:WS),(∀x∈L,s.P'.y+s.P'.m<=x.y/\x.y+n.line<=max (s.P'.y+s.P'.m) (1099511627776*(C:Int))+n.line*(n.words.length:Int))->t.g'=s.g'->0<=t.P'.y->0<=t.P'.m->t.P'.m<=1099511627776->
  t.P'.y+t.P'.m<=1099511627776*((C+n.words.length:Nat):Int)->(eI a n.line t L).g'=s.g'/\0<=(eI a n.line t L).P'.y/\0<=(eI a n.line t L).P'.m/\(eI a n.line t L).P'.m<=1099511627776/\(eI a n.line t L).P'.y+(eI a n.line t L).P'.m<=1099511627776*((C+n.words.length:Nat):Int):=by
  intro L
  induction L with
  |nil=>intro t _ g1 g2 g3 g4 g5;exact⟨g1,g2,g3,g4,g5⟩
  |cons x L ih=>
   intro t hx g1 g2 g3 g4 g5;have hx0:=hx x (by simp);exact ih (t.put (eM a n.line x)) (λy hy=>hx y (by simp[hy])) g1 (by simp only[WS.put,eM];omega) (by simp[WS.put]) (by simp[WS.put]) (by simp only[WS.put,eM];omega)
 obtain⟨k1,k2,k3,k4,k5⟩:=key L s hLb rfl h1 h2 h3 (by omega);have WI:=oc a n.line L s;refine⟨⟨λf Xf=>(hf f ?_).mono (by omega),k2,k3,k4,k5⟩,?_,?_⟩
 .have:f∈(eI a n.line s L).g':=Xf;rw[k1]at this;exact this
 .show(eI a n.line s L).atoms.length<=_;omega
 .show(eI a n.line s L).g'.length<=_;rw[k1];omega
def eu{s:WS}{C:Nat}(h:fk s C){t:S1}(ht:SOk t):fk (s.enter t) (C+2):=⟨(h.bd.enter ht).mono (by omega),by have:=h.Sl;simp only[WS.enter];omega,by have:=h.fl;simp only[WS.enter];omega⟩
def jB{s:WS}{C:Nat}(h:fk s C){t:S1}(ht:SOk t):fk (s.leave t) (C+2):=⟨(h.bd.leave ht).mono (by omega),by have:=h.Sl;simp only[WS.leave];omega,by have:=h.fl;simp only[WS.leave];omega⟩
def fZ{l:List Nd}{rs:List Rm}(hD:Zb l rs):∀(k a e:Nat) (s:WS) (C:Nat),e-a<=k->a<=e->e<=l.length->bC l a e=true->fk s C->fk (cM l rs k a e s) (C+Ss l a e)
 |0,a,e,s,C,_,WD,_,_,h=>h.more (Nat.le_add_right _ _)
 |k+1,a,e,s,C,hk,WD,he,hr,h=>by
  rw[cM];by_cases u':a<e
  .rw[aK u'];obtain⟨h1,h2⟩:=bS he hr (Sf a) u';obtain⟨h3,h4⟩:=cE he hr u';have R9:YZ (R4 l a):=by rw[gx (by omega)];exact eJ hD.Zc (by omega)
   have Yn:Ss l a e=Ss l a (a+(RJ l a).toNat)+Ss l (a+(RJ l a).toNat) e:=et (by omega) (by omega) he;have YQ:Ss l a (a+(RJ l a).toNat)=4+(R4 l a).words.length+Ss l (a+1) (a+(RJ l a).toNat):=nA (by omega) (by omega);have step:∀t,fk t (C+Ss l a (a+(RJ l a).toNat))->fk (cM l rs k (a+(RJ l a).toNat) e t) (C+Ss l a e):=λt ht=>by
    rw[Yn,<-Nat.add_assoc];exact fZ hD k _ e t _ (by omega) (by omega) he h3 ht
   refine step _ ?_;rw[YQ];split
   .have:=jB (fZ hD k (a+1) (a+(RJ l a).toNat) _ _ (by omega) (by omega) (by omega) h4 (eu h R9.st)) R9.st;exact this.more (by omega)
   .split
    .exact(ke h R9 a).more (by omega)
    .split
     .exact(kf h R9 a).more (by omega)
     .rename_i g1 g2 g3;have hk4:(R4 l a).kind=4:=by have:=R9.kind;omega
      exact(jx hD h (by omega) R9 hk4).more (by omega)
  .rw[aM u'];exact h.more (Nat.le_add_right _ _)
open Go.Proofs
def OJ(l:List Nd)(rs:List Rm)(iw:Nat)(a e:Nat)(C:Nat):Prop:=
 ∀(s:WS) (Z0 U:ak),UD l rs Z0 iw s U->fk s C->aB prog 113 [.ptr iw 0 0,vI a,vI e] U λr Z'=>r=.RM []/\UD l rs Z0 iw (cM l rs (e-a) a e s) Z'
def UD.Gz{l:List Nd}{rs:List Rm}{Z0 J:ak}{iw:Nat}{s:WS}(hJ:UD l rs Z0 iw s J){va vf:V}{y m:Int}(w:J iw=some ⟨172,7,[.agg [va,vf,vI s.RD,vI y,vI m,aQ l,cK rs]]⟩)(p:Pn):
 UD l rs Z0 iw { s with P':=p } (C' J iw ⟨172,7,[.agg [va,vf,vI s.RD,vI p.y,vI p.m,aQ l,cK rs]]⟩):=by
 obtain⟨va',vf',w',g1,g2,g3⟩:=hJ.row;rw[w]at w';simp only[bf,Ob.mk.injEq,List.cons.injEq,V.agg.injEq,true_and,and_true]at w';obtain⟨rfl,rfl,_⟩:=w';exact⟨hJ.sub.aL hJ.no,hJ.no,va,vf,av,g1.Bo,g2.Bo,g3⟩
def kF(s:S1):V:=.agg [vI s.top,vI s.RX,vI s.RH,vI s.O',vI s.Si,vI s.RL,vI s.RY,vI s.head,vI s.before,vI s.after,vI s.inside,vI s.clear]
def FH{l:List Nd}{rs:List Rm}(hD:Zb l rs){Z0 U:ak}{iw:Nat}{s:WS}{C:Nat}(hJ:UD l rs Z0 iw s U)(hI:fk s C)(hC:C<=50000)(a:Nat)(ha:a<l.length)(Te:OJ l rs iw (a+1) (a+(RJ l a).toNat) (C+2))(hC2:C+2+Ss l (a+1) (a+(RJ l a).toNat)<=50000)
 (Tt:a+(RJ l a).toNat<=l.length)(hrB:bC l (a+1) (a+(RJ l a).toNat)=true)(Tg:1<=RJ l a):
 aB prog 144 [.ptr iw 0 0,vI a] U λr Z'=>r=.RM []/\UD l rs Z0 iw ((cM l rs (a+(RJ l a).toNat-(a+1)) (a+1) (a+(RJ l a).toNat) (s.enter l[a].st)).leave l[a].st) Z':=by
 obtain⟨va,vf,w1,YJ,Xw,hf2⟩:=hJ.row;obtain⟨ca,sa⟩:=YJ.vc;obtain⟨cf,sf⟩:=Xw.vc;have R9:=eJ hD.Zc ha;have RF:=ix l ha;have hszn:=gZ ha;have Xq:=hD.ry;have q3:((a:Int)+l[a].size)=((a+(RJ l a).toNat:Nat):Int):=by rw[hszn];omega
 have q2:((a:Int)+1)=((a+1:Nat):Int):=by omega
 have hB:=hI.bd;have hm:=hB.m1;have Zd:=hB.m0;have Za:=hB.y0;have hyB:=hB.yB;have hfl:=hI.fl;refine QH.q ?_;refine mS 7 ?_;simp only[go_sem,seval,N8,w1,ca,cf,ay,ad,ae,af,RF,Nd.cells];refine aD λi4 Z4 s4 a4 f4=>?_;have w4':=s4 _ _ w1;have n4:=bb w1 f4;simp only[go_sem,seval,a4,w4',ab n4,ca,cf,ay,ad,ae,af];generalize XV:C' Z4 i4 _=Y4;have b4:Y4 i4=some ⟨56,12,[kF l[a].st]⟩:=by rw[<-XV];exact av
 have s4':aa U Y4:=by rw[<-XV];exact s4.aL f4
 clear XV;have w4:=s4' _ _ w1;have hlen:vv Y4 vf (bg s.g'):=(Xw.mono s4').yK;have h0i:Z0 i4=none:=hJ.sub.none f4;have UX:=(hJ.mono s4').EO b4 (by simp) (by simp) n4.symm;refine Go.xB rfl rfl rfl (λZ8 h8=>aV.td (args':=[bg s.g',vI l[a].st.clear]) ⟨(hlen.mono h8).at,Ur _,trivial⟩ (zi s.g' l[a].st.clear (by omega) (hB.flo (by omega))) rfl) ?_;apply sG;simp only[go_sem,seval];obtain⟨s1,Ut⟩:∃x,x=s.enter l[a].st:=⟨_,rfl⟩
 have hI1:=eu hI R9.st;rw[<-Ut]at hI1|-;unfold WS.enter at Ut;simp only at Ut;cases Xg:(cu (fI l[a].st.clear) s.g').2
 .rw[Xg]at Ut;simp only[iP,↓reduceIte]at Ut;simp only[go_sem,seval,gq];obtain⟨p,hp⟩:∃p:Pn,p=s.P':=⟨_,rfl⟩
  have UY:s1={ s with P':=dK p l[a].st.top l[a].st.RH }:=by rw[Ut,hp]
  have XW:UD l rs (C' Z0 i4 ⟨56,12,[kF l[a].st]⟩) iw { s with P':=p } Y4:=by rw[hp];exact UX
  have w5:Y4 iw=some ⟨172,7,[.agg [va,vf,vI s.RD,vI p.y,vI p.m,aQ l,cK rs]]⟩:=by rw[hp];exact w4
  have b5:=b4;obtain⟨hp1,hp2,hp3,hp4⟩:0<=p.y/\0<=p.m/\p.m<=1099511627776/\p.y+p.m<=1099511627776*(C:Int):=by rw[hp];exact⟨Za,Zd,hm,hyB⟩
  clear hp;generalize Y4=Y5 at*;rw[kF]at b5;have RR:=R9.st;have k1:=RR.top;have k2:=RR.RH;have k3:=RR.RX;have k4:=RR.O';refine aq.xG (by kernel_rfl) [0,1,2,3,4,5,6,7,8,9,10,11,12] [[],[],[1],[1,2],[1,2,3],[],[5],[],[7],[1,2,3,4,5,6,7,8],[0,1,2,3,4,5,6,7,8,9],[0,1,2,3,4,5,6,7,8,9,10],[0,1,2,3,4,5,6,7,8,9,10,11]] [0,2,4,6,8,10,12,14,16,18,20,22,24] (by kernel_rfl) (by kernel_rfl) ?_;refine cU (n:=0) [18,20,22,24] [0,2,4,6,8,10,12,14,16] [_,_,_,_,_,_,_,_,_] rfl rfl ?_;simp only[go_sem,seval,w5,b5,ca,cf,ay,ad];refine Wt rfl (CG p l[a].st.top l[a].st.RH ⟨by omega,by omega⟩ ⟨by omega,by omega⟩ ⟨by omega,by omega⟩ ⟨by omega,by omega⟩ _) ?_;refine cU (n:=0) [] [20,22,24] [_,_,_] rfl rfl ?_;simp only[go_sem,seval,w5,dd,ca,cf,ay,ad];have hJ6:=XW.Gz w5 (dK p l[a].st.top l[a].st.RH);rw[<-UY]at hJ6;have r1:=rI a;have r2:R0 .i64 ((a:Int)+l[a].size):=ao;have w6:=av (U:=Y5) (id:=iw) (o:=⟨172,7,[.agg [va,vf,vI s.RD,vI (dK p l[a].st.top l[a].st.RH).y,vI (dK p l[a].st.top l[a].st.RH).m,aQ l,cK rs]]⟩);have hc:=Te s1 _ _ hJ6 hI1;rw[<-q2,<-q3]at hc;generalize C' Y5 iw ⟨172,7,[.agg [va,vf,vI s.RD,vI (dK p l[a].st.top l[a].st.RH).y,vI (dK p l[a].st.top l[a].st.RH).m,aQ l,cK rs]]⟩=Y6 at*;apply sR;simp only[go_sem,seval,w6,RF,Nd.cells,r1,r2,ca,cf,ay,ad,ae];refine Tx rfl hc ?_;rintro r Z7 ⟨rfl,hJ7⟩;have hI7:=fZ hD (a+(RJ l a).toNat-(a+1)) (a+1) (a+(RJ l a).toNat) s1 _ (Sf _) (by omega) Tt hrB hI1;have b7:=hJ7.sub _ _ (av (id:=i4));rw[kF]at b7;generalize cM l rs (a+(RJ l a).toNat-(a+1)) (a+1) (a+(RJ l a).toNat) s1=s2 at*;obtain⟨va7,vf7,w7,g71,g72,_⟩:=hJ7.row;obtain⟨ca7,_⟩:=g71.vc;obtain⟨cf7,_⟩:=g72.vc;have m1:=hI7.bd.m1;have m2:=hI7.bd.m0;have m3:=hI7.bd.y0;have m4:=hI7.bd.yB;apply sR;simp only[go_sem,seval,gq];refine aq.xG (by kernel_rfl) [0,1,2,3,4,5,6,7,8,9,10,11,12] [[],[],[1],[1,2],[1,2,3],[],[5],[],[7],[1,2,3,4,5,6,7,8],[0,1,2,3,4,5,6,7,8,9],[0,1,2,3,4,5,6,7,8,9,10],[0,1,2,3,4,5,6,7,8,9,10,11]] [0,2,4,6,8,10,12,14,16,18,20,22,24] (by kernel_rfl) (by kernel_rfl) ?_;refine cU (n:=0) [18,20,22,24] [0,2,4,6,8,10,12,14,16] [_,_,_,_,_,_,_,_,_] rfl rfl ?_;simp only[go_sem,seval,w7,b7,ca7,cf7,ay,ad];refine Wt rfl (Dc s2.P' l[a].st.RX l[a].st.O' ⟨by omega,by omega⟩ ⟨by omega,by omega⟩ ⟨by omega,by omega⟩ ⟨by omega,by omega⟩ _) ?_;refine cU (n:=0) [] [20,22,24] [_,_,_] rfl rfl ?_;simp only[go_sem,seval,w7,dd,ca7,cf7,ay,ad];apply sR;simp only[go_sem,seval];exact SG ⟨rfl,(hJ7.Gz w7 (j7 s2.P' l[a].st.RX l[a].st.O')).narrow h0i n4.symm⟩
 .rw[Xg]at Ut;simp only[↓reduceIte]at Ut;obtain⟨f,hfm,e1,_⟩:=kA Xg;have e2:(fI l[a].st.clear f).1=f.y+f.h:=rfl;have W5:=hB.fl f hfm;generalize (cu (fI l[a].st.clear) s.g').1=low at*;simp only[go_sem,seval,w4,ca,cf,ay,ad];refine pS rfl (Gy s.P' low ⟨by omega,by omega⟩ ⟨by omega,by omega⟩ _) ?_;simp only[go_sem,seval,w4,dd,ca,cf,ay,ad,gq];obtain⟨p,hp⟩:∃p:Pn,p=eC s.P' low:=⟨_,rfl⟩
  rw[<-hp]at Ut|-;have UY:=Ut;have XW:=UX.Gz w4 p;have w5:=av (U:=Y4) (id:=iw) (o:=⟨172,7,[.agg [va,vf,vI s.RD,vI p.y,vI p.m,aQ l,cK rs]]⟩);have b5:C' Y4 iw ⟨172,7,[.agg [va,vf,vI s.RD,vI p.y,vI p.m,aQ l,cK rs]]⟩ i4=some ⟨56,12,[kF l[a].st]⟩:=by rw[ab n4.symm];exact b4
  obtain⟨hp1,hp2,hp3,hp4⟩:0<=p.y/\0<=p.m/\p.m<=1099511627776/\p.y+p.m<=1099511627776*(C:Int):=by
   rw[hp];have hy:=W5.yB;have Za:=W5.y0;have hh0:=W5.h0;unfold eC;split<;>(try simp only)<;>omega
  clear hp;generalize C' Y4 iw ⟨172,7,[.agg [va,vf,vI s.RD,vI p.y,vI p.m,aQ l,cK rs]]⟩=Y5 at*;rw[kF]at b5;have RR:=R9.st;have k1:=RR.top;have k2:=RR.RH;have k3:=RR.RX;have k4:=RR.O';refine aq.xG (by kernel_rfl) [0,1,2,3,4,5,6,7,8,9,10,11,12] [[],[],[1],[1,2],[1,2,3],[],[5],[],[7],[1,2,3,4,5,6,7,8],[0,1,2,3,4,5,6,7,8,9],[0,1,2,3,4,5,6,7,8,9,10],[0,1,2,3,4,5,6,7,8,9,10,11]] [0,2,4,6,8,10,12,14,16,18,20,22,24] (by kernel_rfl) (by kernel_rfl) ?_;refine cU (n:=0) [18,20,22,24] [0,2,4,6,8,10,12,14,16] [_,_,_,_,_,_,_,_,_] rfl rfl ?_;simp only[go_sem,seval,w5,b5,ca,cf,ay,ad];refine Wt rfl (CG p l[a].st.top l[a].st.RH ⟨by omega,by omega⟩ ⟨by omega,by omega⟩ ⟨by omega,by omega⟩ ⟨by omega,by omega⟩ _) ?_;refine cU (n:=0) [] [20,22,24] [_,_,_] rfl rfl ?_;simp only[go_sem,seval,w5,dd,ca,cf,ay,ad];have hJ6:=XW.Gz w5 (dK p l[a].st.top l[a].st.RH);rw[<-UY]at hJ6;have r1:=rI a;have r2:R0 .i64 ((a:Int)+l[a].size):=ao;have w6:=av (U:=Y5) (id:=iw) (o:=⟨172,7,[.agg [va,vf,vI s.RD,vI (dK p l[a].st.top l[a].st.RH).y,vI (dK p l[a].st.top l[a].st.RH).m,aQ l,cK rs]]⟩);have hc:=Te s1 _ _ hJ6 hI1;rw[<-q2,<-q3]at hc;generalize C' Y5 iw ⟨172,7,[.agg [va,vf,vI s.RD,vI (dK p l[a].st.top l[a].st.RH).y,vI (dK p l[a].st.top l[a].st.RH).m,aQ l,cK rs]]⟩=Y6 at*;apply sR;simp only[go_sem,seval,w6,RF,Nd.cells,r1,r2,ca,cf,ay,ad,ae];refine Tx rfl hc ?_;rintro r Z7 ⟨rfl,hJ7⟩;have hI7:=fZ hD (a+(RJ l a).toNat-(a+1)) (a+1) (a+(RJ l a).toNat) s1 _ (Sf _) (by omega) Tt hrB hI1;have b7:=hJ7.sub _ _ (av (id:=i4));rw[kF]at b7;generalize cM l rs (a+(RJ l a).toNat-(a+1)) (a+1) (a+(RJ l a).toNat) s1=s2 at*;obtain⟨va7,vf7,w7,g71,g72,_⟩:=hJ7.row;obtain⟨ca7,_⟩:=g71.vc;obtain⟨cf7,_⟩:=g72.vc;have m1:=hI7.bd.m1;have m2:=hI7.bd.m0;have m3:=hI7.bd.y0;have m4:=hI7.bd.yB;apply sR;simp only[go_sem,seval,gq];refine aq.xG (by kernel_rfl) [0,1,2,3,4,5,6,7,8,9,10,11,12] [[],[],[1],[1,2],[1,2,3],[],[5],[],[7],[1,2,3,4,5,6,7,8],[0,1,2,3,4,5,6,7,8,9],[0,1,2,3,4,5,6,7,8,9,10],[0,1,2,3,4,5,6,7,8,9,10,11]] [0,2,4,6,8,10,12,14,16,18,20,22,24] (by kernel_rfl) (by kernel_rfl) ?_;refine cU (n:=0) [18,20,22,24] [0,2,4,6,8,10,12,14,16] [_,_,_,_,_,_,_,_,_] rfl rfl ?_;simp only[go_sem,seval,w7,b7,ca7,cf7,ay,ad];refine Wt rfl (Dc s2.P' l[a].st.RX l[a].st.O' ⟨by omega,by omega⟩ ⟨by omega,by omega⟩ ⟨by omega,by omega⟩ ⟨by omega,by omega⟩ _) ?_;refine cU (n:=0) [] [20,22,24] [_,_,_] rfl rfl ?_;simp only[go_sem,seval,w7,dd,ca7,cf7,ay,ad];apply sR;simp only[go_sem,seval];exact SG ⟨rfl,(hJ7.Gz w7 (j7 s2.P' l[a].st.RX l[a].st.O')).narrow h0i n4.symm⟩
open Go.Proofs
def wZ{l:List Nd}{rs:List Rm}{b e:Nat}(he:e<=l.length)(hr:bC l b e=true)(u':b<e)(s:WS):
 cM l rs (e-b) b e s=cM l rs (e-(b+(RJ l b).toNat)) (b+(RJ l b).toNat) e
  (if(R4 l b).kind=1 then(cM l rs (b+(RJ l b).toNat-(b+1)) (b+1) (b+(RJ l b).toNat) (s.enter (R4 l b).st)).leave (R4 l b).st
   else if(R4 l b).kind=2 then s.text rs b (R4 l b)else if(R4 l b).kind=3 then WS.mono l rs s b (R4 l b)else s.float rs b (R4 l b)):=by
 obtain⟨h1,h2⟩:=bS he hr (Sf b) u';obtain⟨h3,h4⟩:=cE he hr u';rw[show e-b=(e-b-1)+1 by omega,cM,aK u',n9 (e:=b+(RJ l b).toNat) (by omega) (e-b-1) _ _ _ (by omega) (Sf _) h4,n9 he (e-b-1) _ _ _ (by omega) (Sf _) h3]
def KF{l:List Nd}{rs:List Rm}(hD:Zb l rs)(hwl:∀n∈l,n.words.length<=10000){iw:Nat}:∀(m a e C:Nat),e-a<m->a<=e->e<=l.length->bC l a e=true->C+Ss l a e<=50000->OJ l rs iw a e C:=by
 intro m
 induction m with
 |zero=>intro a e C h;omega
 |succ m ih=>?_
 intro a e C hm WD he hrB hC s Z0 U hJ hI;have Xq:=hD.ry;refine Qf.q ?_;refine aq.mix 7 ?_;obtain⟨va0,vf0,w0,_,_,_⟩:=hJ.row;have U5:∀f:FuncId,(V.bm f [.ptr iw 0 0]).cells=[.bm f [.ptr iw 0 0]]:=λ_=>rfl;have Sh:∀f:FuncId,(V.bm f [.ptr iw 0 0]).stays=true:=λ_=>rfl;have Zm:V.Tc.cells=[.Tc]:=rfl;apply sR;simp only[go_sem,seval,N2,U5,Sh,Zm];refine aD λi6 Z6 s6 a6 f6=>?_;have n6:=bb w0 f6;simp only[go_sem,seval,a6,U5,Sh,Zm];generalize W1:C' Z6 i6 _=Y6;have b6:Y6 i6=some ⟨216,5,[.agg [.Tc,.bm 144 [.ptr iw 0 0],.bm 145 [.ptr iw 0 0],.bm 146 [.ptr iw 0 0],.bm 147 [.ptr iw 0 0]]]⟩:=by rw[<-W1];exact av
 have s6':aa U Y6:=by rw[<-W1];exact s6.aL f6
 clear W1;have h0i:Z0 i6=none:=hJ.sub.none f6;have hJ6:=(hJ.mono s6').EO b6 (by simp) (by simp) n6.symm;refine aq.loop (λq st=>∃(b:Nat) (s':WS),q=e-b/\a<=b/\b<=e/\bC l b e=true/\cM l rs (e-a) a e s=cM l rs (e-b) b e s'/\fk s' (C+Ss l a b)/\
  UD l rs (C' Z0 i6 ⟨216,5,[.agg [.Tc,.bm 144 [.ptr iw 0 0],.bm 145 [.ptr iw 0 0],.bm 146 [.ptr iw 0 0],.bm 147 [.ptr iw 0 0]]]⟩) iw s' st.U/\
  st.s 0=.ptr iw 0 0/\st.s 1=vI b/\st.s 2=vI e/\st.s 6=.ptr i6 0 0) (e-a) ?_ ?_
 .exact⟨a,s,rfl,Sf _,WD,hrB,rfl,by rw[tp];exact hI,hJ6,rfl,rfl,rfl,rfl⟩
 .rintro q ⟨S,J⟩ ⟨b,s',rfl,Vw,Wr,Yi,heq,UN,hJb,t0,t1,t2,t6⟩;simp only at hJb t0 t1 t2 t6;refine aq.mix 7 ?_;by_cases u':b<e
  .have q1:((b:Int)<(e:Int))=True:=RA;obtain⟨h1,h2⟩:=bS he Yi (Sf b) u';obtain⟨h3,h4⟩:=cE he Yi u';have SX:b<l.length:=by omega
   have R9:=eJ hD.Zc SX;have Tt:=gZ SX;have RF:=ix l SX;have Yn:Ss l a e=Ss l a b+Ss l b e:=et Vw Wr he;have YQ:Ss l b e=Ss l b (b+(RJ l b).toNat)+Ss l (b+(RJ l b).toNat) e:=et (by omega) (by omega) he;have Un:Ss l b (b+(RJ l b).toNat)=4+(R4 l b).words.length+Ss l (b+1) (b+(RJ l b).toNat):=nA (by omega) (by omega);have hc4:Ss l a (b+(RJ l b).toNat)=Ss l a b+Ss l b (b+(RJ l b).toNat):=et Vw (by omega) (by omega);have SI:=gx SX;have q3:((b:Int)+l[b].size)=((b+(RJ l b).toNat:Nat):Int):=by rw[Tt];omega
   have r2:R0 .i64 ((b:Int)+l[b].size):=ao;have RR:=wZ (rs:=rs) he Yi u' s';rw[SI]at RR Un;have c6:=hJb.sub _ _ (av (id:=i6));obtain⟨va,vf,w1,g1,g2,_⟩:=hJb.row;obtain⟨ca,_⟩:=g1.vc;obtain⟨cf,_⟩:=g2.vc;have hBb:=UN.bd.mono (C:=288230376151711744) (by omega);have Sq:∀s2,s2=(if l[b].kind=1 then(cM l rs (b+(RJ l b).toNat-(b+1)) (b+1) (b+(RJ l b).toNat) (s'.enter l[b].st)).leave l[b].st
    else if l[b].kind=2 then s'.text rs b l[b]else if l[b].kind=3 then WS.mono l rs s' b l[b]else s'.float rs b l[b])->fk s2 (C+Ss l a (b+(RJ l b).toNat)):=by
     rintro s2 rfl;rw[hc4,Un];split
     .exact(jB (fZ hD _ (b+1) (b+(RJ l b).toNat) _ _ (Sf _) (by omega) (by omega) h4 (eu UN R9.st)) R9.st).more (by omega)
     .split
      .exact(ke UN R9 b).more (by omega)
      .split
       .exact(kf UN R9 b).more (by omega)
       .rename_i g1 g2 g3;exact(jx hD UN SX R9 (by have:=R9.kind;omega)).more (by omega)
   rcases R9.kind with hk|hk|hk|hk
   .apply sR;simp only[go_sem,seval,q1,t0,t1,t2,t6,w1,c6,RF,Nd.cells,hk,ca,cf,U5,Sh,Zm,ay,ad,ae];refine aq.mC rfl rfl rfl (FH hD hJb UN (by omega) b SX (ih (b+1) (b+(RJ l b).toNat) _ (by omega) (by omega) (by omega) h4 (by omega)) (by omega) (by omega) h4 h2) ?_;rintro r Z' ⟨rfl,V0⟩;have w2':=V0.row;obtain⟨va2,vf2,w2,g12,g22,_⟩:=w2';obtain⟨ca2,_⟩:=g12.vc;obtain⟨cf2,_⟩:=g22.vc;apply sR;simp only[go_sem,seval,t0,t1,t2,t6,w2,RF,Nd.cells,r2,ca2,cf2,ay,ad,ae];refine⟨_,?_,b+(RJ l b).toNat,_,rfl,by omega,by omega,h3,by rw[heq,RR],Sq _ rfl,?_,by simp[t0,t2,t6,q3]⟩
    .omega
    .simpa[hk]using V0
   .apply sR;simp only[go_sem,seval,q1,t0,t1,t2,t6,w1,c6,RF,Nd.cells,hk,ca,cf,U5,Sh,Zm,ay,ad,ae];refine aq.mC rfl rfl rfl (IM hD hJb hBb (by omega) b SX (by have:=UN.Sl;omega) (by have:=UN.fl;omega) (hwl _ (Sx SX))) ?_;rintro r Z' ⟨rfl,V0⟩;have w2':=V0.row;obtain⟨va2,vf2,w2,g12,g22,_⟩:=w2';obtain⟨ca2,_⟩:=g12.vc;obtain⟨cf2,_⟩:=g22.vc;apply sR;simp only[go_sem,seval,t0,t1,t2,t6,w2,RF,Nd.cells,r2,ca2,cf2,ay,ad,ae];refine⟨_,?_,b+(RJ l b).toNat,_,rfl,by omega,by omega,h3,by rw[heq,RR],Sq _ rfl,?_,by simp[t0,t2,t6,q3]⟩
    .omega
    .simpa[hk]using V0
   .apply sR;simp only[go_sem,seval,q1,t0,t1,t2,t6,w1,c6,RF,Nd.cells,hk,ca,cf,U5,Sh,Zm,ay,ad,ae];refine aq.mC rfl rfl rfl (Hk hD hJb hBb (by omega) b SX hk (by have:=UN.Sl;omega) (by have:=UN.fl;omega)) ?_;rintro r Z' ⟨rfl,V0⟩;have w2':=V0.row;obtain⟨va2,vf2,w2,g12,g22,_⟩:=w2';obtain⟨ca2,_⟩:=g12.vc;obtain⟨cf2,_⟩:=g22.vc;apply sR;simp only[go_sem,seval,t0,t1,t2,t6,w2,RF,Nd.cells,r2,ca2,cf2,ay,ad,ae];refine⟨_,?_,b+(RJ l b).toNat,_,rfl,by omega,by omega,h3,by rw[heq,RR],Sq _ rfl,?_,by simp[t0,t2,t6,q3]⟩
    .omega
    .simpa[hk]using V0
   .apply sR;simp only[go_sem,seval,q1,t0,t1,t2,t6,w1,c6,RF,Nd.cells,hk,ca,cf,U5,Sh,Zm,ay,ad,ae];refine aq.mC rfl rfl rfl (E0 hD hJb hBb (by omega) b SX (by have:=UN.Sl;omega) (by have:=UN.fl;omega)) ?_;rintro r Z' ⟨rfl,V0⟩;have w2':=V0.row;obtain⟨va2,vf2,w2,g12,g22,_⟩:=w2';obtain⟨ca2,_⟩:=g12.vc;obtain⟨cf2,_⟩:=g22.vc;apply sR;simp only[go_sem,seval,t0,t1,t2,t6,w2,RF,Nd.cells,r2,ca2,cf2,ay,ad,ae];refine⟨_,?_,b+(RJ l b).toNat,_,rfl,by omega,by omega,h3,by rw[heq,RR],Sq _ rfl,?_,by simp[t0,t2,t6,q3]⟩
    .omega
    .simpa[hk]using V0
  .have q1:((b:Int)<(e:Int))=False:=H';apply sR;simp only[go_sem,seval,q1,t0,t1,t2,t6];refine SG ⟨rfl,?_⟩;have hz:cM l rs (e-b) b e s'=s':=by rw[show e-b=0 by omega];rfl
   rw[heq,hz];exact hJb.narrow h0i n6.symm
open Go.Proofs
def lK(n:Nat)(f:RS):RS:={ f with anchor:=max 0 (min f.anchor ((n:Int)-1)) }
def vM(s:WS):Int:=if(cu (fI 3) s.g').2 then max (s.P'.y+s.P'.m) (cu (fI 3) s.g').1 else s.P'.y+s.P'.m
def WS.fin(s:WS):WS:={ s with RD:=vM s,g':=s.g'.map (lK s.atoms.length) }
def fi(n j:Nat)(l:List RS):List RS:=(l.take j).map (lK n)++l.drop j
def j9(n j:Nat)(l:List RS):(fi n j l).length=l.length:=by unfold fi;simp;omega
def rb{n j:Nat}{l:List RS}(h:j<l.length):(fi n j l)[j]?=some l[j]:=by
 unfold fi;rw[KZ (by simp;omega)];simp[h,Nat.min_eq_left (Nat.le_of_lt h)]
def qS{n j:Nat}{l:List RS}(h:j<l.length):(fi n j l).set j (lK n l[j])=fi n (j+1) l:=by
 unfold fi;have e1:((l.take j).map (lK n)).length=j:=by simp;omega
 have e2:l.drop j=l[j]::l.drop (j+1):=jM h;rw[List.set_append_right _ _ (by omega),e1,Nat.sub_self,e2,List.set_cons_zero,U0 h,eQ];simp
def UD.JB{l:List Nd}{rs:List Rm}{Z0 J:ak}{iw:Nat}{s:WS}(hJ:UD l rs Z0 iw s J){va vf:V}{h0:Int}(w:J iw=some ⟨172,7,[.agg [va,vf,vI h0,vI s.P'.y,vI s.P'.m,aQ l,cK rs]]⟩)(h:Int):
 UD l rs Z0 iw { s with RD:=h } (C' J iw ⟨172,7,[.agg [va,vf,vI h,vI s.P'.y,vI s.P'.m,aQ l,cK rs]]⟩):=by
 obtain⟨va',vf',w',g1,g2,g3⟩:=hJ.row;rw[w]at w';simp only[bf,Ob.mk.injEq,List.cons.injEq,V.agg.injEq,true_and,and_true]at w';obtain⟨rfl,rfl,_⟩:=w';exact⟨hJ.sub.aL hJ.no,hJ.no,va,vf,av,g1.Bo,g2.Bo,g3⟩
def KT{l:List Nd}{rs:List Rm}{Z0 U:ak}{iw:Nat}{s:WS}{C:Nat}(hJ:UD l rs Z0 iw s U)(hI:fk s C)(hC:C<=100000):
 aB prog 114 [.ptr iw 0 0] U λr Z'=>r=.RM []/\UD l rs Z0 iw s.fin Z':=by
 obtain⟨va,vf,w1,YJ,Xw,hf2⟩:=hJ.row;obtain⟨ca,sa⟩:=YJ.vc;obtain⟨cf,sf⟩:=Xw.vc;have hB:=hI.bd;have hm:=hB.m1;have Zd:=hB.m0;have Za:=hB.y0;have hyB:=hB.yB;have hfl:=hI.fl;have WI:=hI.Sl;have TZ:ej false va=some (.int .i64 s.atoms.length):=by rw[YJ.len];simp
 have XX:ej false vf=some (.int .i64 s.g'.length):=by rw[Xw.len];simp
 refine QL.q ?_;refine mS 5 ?_;simp only[go_sem,seval,N5,w1,ca,cf,ay,ad];refine pS rfl (Ed s.P' ⟨by omega,by omega⟩ ⟨by omega,by omega⟩ _) ?_;simp only[go_sem,seval,w1,ca,cf,ay,ad];have Ze:=hJ.JB w1 (s.P'.y+s.P'.m);have w2:=av (U:=U) (id:=iw) (o:=⟨172,7,[.agg [va,vf,vI (s.P'.y+s.P'.m),vI s.P'.y,vI s.P'.m,aQ l,cK rs]]⟩);have hf3:=Xw.Bo (o:=⟨172,7,[.agg [va,vf,vI (s.P'.y+s.P'.m),vI s.P'.y,vI s.P'.m,aQ l,cK rs]]⟩);generalize C' U iw ⟨172,7,[.agg [va,vf,vI (s.P'.y+s.P'.m),vI s.P'.y,vI s.P'.m,aQ l,cK rs]]⟩=Y2 at*;refine pR rfl (aV.td (args':=[bg s.g',vI 3]) ⟨hf3.yK.at,Ur _,trivial⟩ (zi s.g' 3 (by omega) (hB.flo (by omega))) rfl) ?_;cases Xg:(cu (fI 3) s.g').2
 .have hh:vM s=s.P'.y+s.P'.m:=by unfold vM;rw[Xg];rfl
  apply sR;simp only[go_sem,seval,w2,ca,cf,XX,ay,ad];have ZF:UD l rs Z0 iw { s with RD:=vM s } Y2:=by rw[hh];exact Ze
  refine aq.loop (λm st=>∃j:Nat,j<=s.g'.length/\m=s.g'.length-j/\UD l rs Z0 iw { s with RD:=vM s,g':=fi s.atoms.length j s.g' } st.U/\st.s 0=.ptr iw 0 0/\st.s 40=vI s.g'.length/\st.s 41=vI j) s.g'.length ?_ ?_
  .exact⟨0,by omega,rfl,by simpa[fi]using ZF,rfl,rfl,rfl⟩
  .rintro m ⟨S,J⟩ ⟨j,hj,rfl,Us,t0,t40,t41⟩;simp only at Us t0 t40 t41;refine aq.mix 5 ?_;by_cases u':j<s.g'.length
   .have q:=qT u';obtain⟨va4,vf4,w4,g1,g2,g3⟩:=Us.row;simp only at w4 g1 g2 g3;obtain⟨ca4,_⟩:=g1.vc;have hla4:ej false va4=some (.int .i64 s.atoms.length):=by rw[g1.len];simp
    have Ve:=j9 s.atoms.length j s.g';rcases g2 with⟨_,h0⟩|⟨id,rfl,h2,h3⟩
    .exfalso;have:=congrArg List.length h0;rw[dC,Ve]at this;simp only[List.length_nil]at this;omega
    have TD:=rb (n:=s.atoms.length) u';have VO:=qS (n:=s.atoms.length) u';have VD:((fi s.atoms.length j s.g').map bl)[j]?=some (bl s.g'[j]):=by rw[sP,TD];rfl
    have XI:((fi s.atoms.length j s.g').map bl).length=s.g'.length:=by rw[dC,Ve]
    have L':∀n,n=s.g'.length->bG J 7 (.own id 0 n) (.int .i64 j)=some (.ptr id j 0):=λn hn=>by subst hn;rw[<-XI];exact j5 h2 (by rw[XI];exact u')
    generalize hfj:s.g'[j]=f at*;have Xx:bl f=.agg [vI f.node,vI f.side,vI f.anchor,vI f.x,vI f.y,vI f.w,vI f.h]:=rfl;rw[Xx]at VD;have r1:R0 .i64 ((s.atoms.length:Int)-1):=ao;have r2:=rI j;have cf4:(V.own id 0 s.g'.length).cells=[.own id 0 s.g'.length]:=rfl;rw[XI]at w4;apply sR;simp only[go_sem,seval,t0,t40,t41,q,w4,ca4,cf4,hla4,h2,L' _ rfl,VD,r1,r2,bW,eh,ay,ad];have RU:iw≠id:=(bh.1 h3).1.symm;have YK:=j9 s.atoms.length (j+1) s.g';refine⟨_,by omega,j+1,by omega,rfl,⟨Us.sub.aL (bh.1 h3).2,Us.no,va4,.own id 0 s.g'.length,by rw[ab RU];exact w4,?_,.inr ⟨id,by rw[dC,YK],?_,h3⟩,λh=>?_⟩,rfl⟩
    .rcases g1 with h|⟨i1,k1,k2,k3⟩
     .exact .inl h
     .have hne1:i1≠id:=λe=>by rw[e,h2]at k2;simp at k2
      exact .inr ⟨i1,k1,by rw[ab hne1];exact k2,k3⟩
    .rw[av,<-VO,List.map_set];rfl
    .have:=congrArg List.length h;rw[YK]at this;simp only[List.length_nil]at this;omega
   .have q:=qF u';apply sR;simp only[go_sem,seval,t0,t40,t41,q];refine SG ⟨rfl,?_⟩;have he:fi s.atoms.length j s.g'=s.g'.map (lK s.atoms.length):=by
     unfold fi;rw[pL (by omega),List.drop_of_length_le (by omega),j6]
    rw[he]at Us;exact Us
 .have hh:vM s=max (s.P'.y+s.P'.m) (cu (fI 3) s.g').1:=by unfold vM;rw[Xg];rfl
  generalize (cu (fI 3) s.g').1=low at*;apply sR;simp only[go_sem,seval,w2,ca,cf,XX,bW,ay,ad];have ZF:=Ze.JB w2 (max (s.P'.y+s.P'.m) low);simp only at ZF;rw[<-hh]at ZF|-;refine aq.loop (λm st=>∃j:Nat,j<=s.g'.length/\m=s.g'.length-j/\UD l rs Z0 iw { s with RD:=vM s,g':=fi s.atoms.length j s.g' } st.U/\st.s 0=.ptr iw 0 0/\st.s 40=vI s.g'.length/\st.s 41=vI j) s.g'.length ?_ ?_
  .exact⟨0,by omega,rfl,by simpa[fi]using ZF,rfl,rfl,rfl⟩
  .rintro m ⟨S,J⟩ ⟨j,hj,rfl,Us,t0,t40,t41⟩;simp only at Us t0 t40 t41;refine aq.mix 5 ?_;by_cases u':j<s.g'.length
   .have q:=qT u';obtain⟨va4,vf4,w4,g1,g2,g3⟩:=Us.row;simp only at w4 g1 g2 g3;obtain⟨ca4,_⟩:=g1.vc;have hla4:ej false va4=some (.int .i64 s.atoms.length):=by rw[g1.len];simp
    have Ve:=j9 s.atoms.length j s.g';rcases g2 with⟨_,h0⟩|⟨id,rfl,h2,h3⟩
    .exfalso;have:=congrArg List.length h0;rw[dC,Ve]at this;simp only[List.length_nil]at this;omega
    have TD:=rb (n:=s.atoms.length) u';have VO:=qS (n:=s.atoms.length) u';have VD:((fi s.atoms.length j s.g').map bl)[j]?=some (bl s.g'[j]):=by rw[sP,TD];rfl
    have XI:((fi s.atoms.length j s.g').map bl).length=s.g'.length:=by rw[dC,Ve]
    have L':∀n,n=s.g'.length->bG J 7 (.own id 0 n) (.int .i64 j)=some (.ptr id j 0):=λn hn=>by subst hn;rw[<-XI];exact j5 h2 (by rw[XI];exact u')
    generalize hfj:s.g'[j]=f at*;have Xx:bl f=.agg [vI f.node,vI f.side,vI f.anchor,vI f.x,vI f.y,vI f.w,vI f.h]:=rfl;rw[Xx]at VD;have r1:R0 .i64 ((s.atoms.length:Int)-1):=ao;have r2:=rI j;have cf4:(V.own id 0 s.g'.length).cells=[.own id 0 s.g'.length]:=rfl;rw[XI]at w4;apply sR;simp only[go_sem,seval,t0,t40,t41,q,w4,ca4,cf4,hla4,h2,L' _ rfl,VD,r1,r2,bW,eh,ay,ad];have RU:iw≠id:=(bh.1 h3).1.symm;have YK:=j9 s.atoms.length (j+1) s.g';refine⟨_,by omega,j+1,by omega,rfl,⟨Us.sub.aL (bh.1 h3).2,Us.no,va4,.own id 0 s.g'.length,by rw[ab RU];exact w4,?_,.inr ⟨id,by rw[dC,YK],?_,h3⟩,λh=>?_⟩,rfl⟩
    .rcases g1 with h|⟨i1,k1,k2,k3⟩
     .exact .inl h
     .have hne1:i1≠id:=λe=>by rw[e,h2]at k2;simp at k2
      exact .inr ⟨i1,k1,by rw[ab hne1];exact k2,k3⟩
    .rw[av,<-VO,List.map_set];rfl
    .have:=congrArg List.length h;rw[YK]at this;simp only[List.length_nil]at this;omega
   .have q:=qF u';apply sR;simp only[go_sem,seval,t0,t40,t41,q];refine SG ⟨rfl,?_⟩;have he:fi s.atoms.length j s.g'=s.g'.map (lK s.atoms.length):=by
     unfold fi;rw[pL (by omega),List.drop_of_length_le (by omega),j6]
    rw[he]at Us;exact Us
open Go.Proofs
structure Gal where
 atoms:List SK
 g':List RS
 RD:Int
def GL(g:Gal):V:=.agg [bK g.atoms,bg g.g',vI g.RD]
def ct(l:List Nd)(w:Int):List Rm:=cZ l l.length 0 l.length ⟨0,w⟩
def J3(l:List Nd)(w:Int):WS:=(cM l (ct l w) l.length 0 l.length ⟨[],[],0,⟨0,0⟩⟩).fin
def cJ(l:List Nd)(w:Int):Gal:=⟨(J3 l w).atoms,(J3 l w).g',(J3 l w).RD⟩
def oh{l:List Nd}(hb:Sc l=true):∀(k a e:Nat) (r:Rm),e<=l.length->bC l a e=true->r.ok->∀q∈cZ l k a e r,q.ok
 |0,_,_,_,_,_,_,q,hq=>by simp[cZ]at hq
 |k+1,a,e,r,he,hr,RP,q,hq=>by
  rw[cZ]at hq;split at hq
  .rename_i u';obtain⟨h1,h2⟩:=bS he hr (Sf a) u';obtain⟨h3,h4⟩:=cE he hr u';rcases dZ.1 hq with rfl|hq
   .exact RP
   .rcases fH.1 hq with hq|hq
    .obtain⟨g1,g2,_⟩:=Hd hb (a:=a) (by omega);exact oh hb k _ _ _ (by omega) h4 (wV RP (by rw[g1];exact g2)) q hq
    .exact oh hb k _ _ _ he h3 RP q hq
  .cases hq
def nI{l:List Nd}(hb:Sc l=true)(hn:l.length<=2000){w:Int}(h1:1<=w)(h2:w<=1099511627776):Zb l (ct l w):=by
 have hr:bC l 0 l.length=true:=by simp only[Sc,Ba]at hb;exact hb.2
 exact⟨hn,hb,by unfold ct;rw[ju (Sf _) _ _ _ (by omega) (by omega) hr];omega,oh hb _ _ _ _ (Sf _) hr ⟨by simp,by simp,h1,h2⟩⟩
def Lf(U:ak)(l:List Nd)(hl:dq l)(hb:Sc l=true)(hn:l.length<=2000)(hwl:∀n∈l,n.words.length<=10000)(hc:Ss l 0 l.length<=50000)(hck:aV prog 75 [aQ l] (vI 0))(w:Int)(h1:1<=w)(h2:w<=1099511627776):
 aB prog 81 [aQ l,vI w] U λr Z'=>aa U Z'/\∃va vf,r=.RM [.agg [va,vf,vI (cJ l w).RD],vI 0]/\aP U Z' 66 8 va ((cJ l w).atoms.map bz)/\aP U Z' 137 7 vf ((cJ l w).g'.map bl):=by
 refine e81.q ?_;have hs:=aa.refl U;have hD:=nI hb hn h1 h2;have hr:bC l 0 l.length=true:=by simp only[Sc,Ba]at hb;exact hb.2
 refine mS 8 ?_;simp only[go_sem,seval,c81];refine aG hs λi4 Z4 s4 a4 f4 z4 hs=>?_;have hmay:=qD w;rw[show decide (1<=w/\w<=1099511627776)=true by simp;omega]at hmay;simp only[go_sem,seval];refine pR rfl (hmay _) ?_;have qz:((0:Int)≠0)=False:=H' (λh=>h rfl);apply sR;simp only[go_sem,seval];refine pS rfl (hck _) ?_;simp only[go_sem,seval,qz];refine pR rfl (Is l hl hb w h1 h2 _) ?_;have hrm:cZ l l.length 0 l.length ⟨0,w⟩=ct l w:=rfl;rw[hrm];apply sR;simp only[go_sem,seval,ad,al,ay,xP];refine aD λi23 Z23 s23 a23 f23=>?_;have hJ:UD l (ct l w) Z4 i23 ⟨[],[],0,⟨0,0⟩⟩ Z23:=⟨s23,f23,.bj,.bj,a23,aP.start,aP.start,λ_=>rfl⟩
 have hI:fk ⟨[],[],0,⟨0,0⟩⟩ 0:=⟨⟨by simp,by simp,by simp,by simp,by simp⟩,by simp,by simp⟩
 have hn0:=bO l;simp only[go_sem,seval,hn0];have Te:=KF hD hwl (l.length+1) 0 l.length 0 (by omega) (by omega) (Sf _) hr (by omega) _ _ _ hJ hI;refine Tx rfl Te ?_;rintro r Z5 ⟨rfl,XW⟩;have hI5:=fZ hD (l.length-0) 0 l.length ⟨[],[],0,⟨0,0⟩⟩ 0 (by omega) (by omega) (Sf _) hr hI;apply sR;simp only[go_sem,seval];refine Tx rfl (KT XW hI5 (by omega)) ?_;rintro r Z6 ⟨rfl,hJ6⟩;have hgl:cJ l w=⟨(cM l (ct l w) (l.length-0) 0 l.length ⟨[],[],0,⟨0,0⟩⟩).fin.atoms,(cM l (ct l w) (l.length-0) 0 l.length ⟨[],[],0,⟨0,0⟩⟩).fin.g',(cM l (ct l w) (l.length-0) 0 l.length ⟨[],[],0,⟨0,0⟩⟩).fin.RD⟩:=rfl;rw[hgl];generalize (cM l (ct l w) (l.length-0) 0 l.length ⟨[],[],0,⟨0,0⟩⟩).fin=s at*;obtain⟨va,vf,w6,g1,g2,_⟩:=hJ6.row;obtain⟨ca,sa⟩:=g1.vc;obtain⟨cf,sf⟩:=g2.vc;have b4:=hJ6.sub _ _ a4;have n423:=bb a4 f23;apply sR;simp only[go_sem,seval,w6,b4,ca,sa,cf,sf,ay,ad,ab n423];have hK:aa U (cg Z4 i23):=λi o h=>by
  rw[cg,aM (λe=>by rw[e,hs.none f23]at h;cases h)];exact hs _ _ h
 have key:∀{e sz:Nat} {v:V} {rows:List V} {o:Ob},aP (cg Z4 i23) Z6 e sz v rows->aP (cg Z4 i23) (C' Z6 i4 o) e sz v rows:=λ{e sz v rows o} h=>by
  rcases h with h|⟨id,k1,k2,k3⟩
  .exact .inl h
  .exact .inr ⟨id,k1,by rw[ab (λe=>by rw[e]at k3;rw[(bh.1 k3).2]at a4;cases a4)];exact k2,k3⟩
 have Sq:∀o,aa U (C' Z6 i4 o):=λo=>(hs.trans hJ6.sub).aL z4;have lk:∀{e sz:Nat} {v:V} {rows:List V} {J:ak},aP (cg Z4 i23) J e sz v rows->aP U J e sz v rows:=λh=>h.imp (λh=>h) λ⟨i,h1,h2,h3⟩=>⟨i,h1,h2,hK.none h3⟩
 exact SG ⟨Sq _,va,vf,rfl,lk (key g1),lk (key g2)⟩
open Go.Proofs
def tG(node:Int):List Int->Nat
 |[]=>0
 |x::r=>if x=node then tG node r+1 else 0
def Ji(node:Int):∀l,tG node l<=l.length
 |[]=>by simp[tG]
 |x::r=>by
  rw[tG];split
  .have:=Ji node r;simp only[TI];omega
  .simp
def me(of:List Int)(fr:Nat)(node:Int):Nat:=tG node (of.drop fr)
def wL(of:List Int)(fr:Nat)(node:Int):me of fr node<=of.length-fr:=by
 have:=Ji node (of.drop fr);rw[DC]at this;exact this
def okN(x:Nd)(n:Nat):Bool:=if x.kind=2 then decide (1<=n/\n<=x.words.length)else if x.kind=3 then decide (n=1)else decide (n=0)
def AQ(of:List Int):List Nd->Nat->Nat->Bool
 |[],_,Sl=>decide (Sl=of.length)
 |x::r,i,Sl=>okN x (me of Sl i)&&AQ of r (i+1) (Sl+me of Sl i)
def qC(l:List Nd)(of:List Int):Bool:=AQ of l 0 0
def oD(l:List Nd)(of:List Int):V:=.agg [aQ l,aX of]
def nu(l:List Nd)(of:List Int):(oD l of).cells=[aQ l,aX of]:=rfl
def mY(l:List Nd)(of:List Int):(oD l of).stays=true:=rfl
def IQ(l:List Nd)(of:List Int)(hn:of.length<=1000000)(fr:Nat)(hf:fr<=of.length)(node:Int):aV prog 182 [oD l of,vI fr,vI node] (vI (me of fr node)):=λU=>by
 refine PZ.q ?_;have hs:=aa.refl U;have hl:=db of;have htl:=wL of fr node;refine mS 8 ?_;simp only[go_sem,seval,MG,nu,mY,ad,ae,af,al];refine aG hs λi3 Z3 s3 a3 f3 z3 hs=>?_;have a3':Z3 i3=some ⟨220,2,[.agg [aQ l,aX of]]⟩:=a3;simp only[go_sem,seval];refine aq.loop (λm st=>∃j:Nat,fr+j<=of.length/\m=of.length-(fr+j)/\me of fr node=j+tG node (of.drop (fr+j))/\st.U=Z3/\st.s 1=vI fr/\st.s 2=vI node/\st.s 3=.ptr i3 0 0/\st.s 7=vI j) (of.length-fr) ?_ ?_
 .exact⟨0,by omega,by omega,by simp[me],rfl,rfl,rfl,rfl,rfl⟩
 .rintro m ⟨S,J⟩ ⟨j,hj,rfl,ht,R8,t1,t2,t3,t7⟩;simp only at R8 t1 t2 t3 t7;subst R8;refine aq.mix 8 ?_;have hjj:(fr:Int)+(j:Int)=((fr+j:Nat):Int):=by omega
  have r1:R0 .i64 ((fr:Int)+j):=ao;have r2:=rI j;by_cases u':fr+j<of.length
  .have q:(((fr+j:Nat):Int)<of.length)=True:=RA;have RF:=λU=>dp (U:=U) u';rw[jM u',tG]at ht;generalize of[fr+j]=x at*;rw[hjj]at r1;by_cases hx:x=node
   .rw[aK hx]at ht;have q2:(x=node)=True:=RA hx;apply sR;simp only[go_sem,seval,t1,t2,t3,t7,a3',hl,hjj,q,q2,RF,r1,r2,ad,ae];exact⟨_,by omega,j+1,by omega,rfl,by rw[ht,show fr+(j+1)=fr+j+1 by omega];omega,by simp[t1,t2,t3]⟩
   .rw[aM hx]at ht;have q2:(x=node)=False:=H' hx;apply sR;simp only[go_sem,seval,t1,t2,t3,t7,a3',hl,hjj,q,q2,RF,r1,r2,ad,ae];exact az.pure hs (by rw[ht];simp)
  .have q:(((fr+j:Nat):Int)<of.length)=False:=H';rw[List.drop_of_length_le (by omega),tG]at ht;rw[hjj]at r1;apply sR;simp only[go_sem,seval,t1,t2,t3,t7,a3',hl,hjj,q,r1,r2,ad,ae];exact az.pure hs (by rw[ht];simp)
def NQ(l:List Nd)(hll:l.length<=100000)(of:List Int)(hn:of.length<=1000000)(hm:qC l of=true):aV prog 150 [oD l of] (.bool true):=λU=>by
 refine OU.q ?_;have hs:=aa.refl U;have hl:=db of;have TK:=bO l;refine mS 7 ?_;simp only[go_sem,seval,NK,nu,mY,ad,ae,af,al];refine aG hs λi1 Z1 s1 a1 f1 z1 hs=>?_;have a1':Z1 i1=some ⟨220,2,[.agg [aQ l,aX of]]⟩:=a1;simp only[go_sem,seval,a1',TK,ad,ae];refine aq.loop (λm st=>∃(i Sl:Nat),i<=l.length/\m=l.length-i/\Sl<=of.length/\AQ of (l.drop i) i Sl=true/\aa Z1 st.U/\st.s 1=.ptr i1 0 0/\st.s 3=vI Sl/\st.s 8=aQ l/\st.s 9=vI l.length/\st.s 10=vI i) l.length ?_ ?_
 .exact⟨0,0,by omega,rfl,by omega,by simpa[qC]using hm,aa.refl _,rfl,rfl,rfl,rfl,rfl⟩
 .rintro m ⟨S,J⟩ ⟨i,Sl,hi,rfl,UK,Yb,G',t1,t3,t8,t9,t10⟩;simp only at G' t1 t3 t8 t9 t10;refine aq.mix 7 ?_;have b1:=G' _ _ a1';by_cases u':i<l.length
  .have q:=qT u';have RF:=ix l u';rw[jM u',AQ,Ba]at Yb;obtain⟨RP,Yb⟩:=Yb;have htl:=wL of Sl i;have htc:=IQ l of hn Sl UK i;generalize me of Sl i=n at*;generalize l[i]=x at*;apply sR;simp only[go_sem,seval,t1,t3,t8,t9,t10,q,RF,Nd.cells];refine aD λi5 Z5 s5 a5 f5=>?_;have c1:=s5 _ _ b1;have n15:=bb b1 f5;simp only[go_sem,seval,a5,c1,t1,t3,t8,t9,t10,ab n15,ad,ae,af];refine pR rfl (htc _) ?_;have hwl:ej false (aX x.words)=some (.int .i64 x.words.length):=db _;have r1:=rI i;have r2:R0 .i64 ((Sl:Int)+n):=ao;have q5:((Sl:Int)+n)=((Sl+n:Nat):Int):=by omega
   rw[q5]at r2;unfold okN at RP;by_cases k2:x.kind=2
   .rw[aK k2]at RP;simp only[Uy]at RP;have p1:((n:Int)<1)=False:=H';have p2:((n:Int)>x.words.length)=False:=H';have p0:(x.kind=2)=True:=RA k2;apply sR;simp only[go_sem,seval,t1,t3,t8,t9,t10,c1,ab n15,p0,p1,p2,hwl,r1,r2,q5,ae,af];exact⟨_,by omega,i+1,Sl+n,by omega,rfl,by omega,Yb,G'.trans (s5.aL f5),by simp[t1,t8,t9]⟩
   .rw[aM k2]at RP;have p0:(x.kind=2)=False:=H' k2;by_cases k3:x.kind=3
    .rw[aK k3]at RP;simp only[Uy]at RP;have p3:(x.kind=3)=True:=RA k3;have p1:((n:Int)≠1)=False:=H';apply sR;simp only[go_sem,seval,t1,t3,t8,t9,t10,c1,ab n15,p0,p3,p1,r1,r2,q5,ae,af];exact⟨_,by omega,i+1,Sl+n,by omega,rfl,by omega,Yb,G'.trans (s5.aL f5),by simp[t1,t8,t9]⟩
    .rw[aM k3]at RP;simp only[Uy]at RP;have p3:(x.kind=3)=False:=H' k3;have p1:((n:Int)>0)=False:=H';apply sR;simp only[go_sem,seval,t1,t3,t8,t9,t10,c1,ab n15,p0,p3,p1,r1,r2,q5,ae,af];exact⟨_,by omega,i+1,Sl+n,by omega,rfl,by omega,Yb,G'.trans (s5.aL f5),by simp[t1,t8,t9]⟩
  .have q:=qF u';rw[List.drop_of_length_le (by omega),AQ,Uy]at Yb;have q2:((Sl:Int)=of.length)=True:=RA;apply sR;simp only[go_sem,seval,t1,t3,t8,t9,t10,q,b1,hl,q2,ad,ae];exact az.pure (hs.trans G') rfl
def qx(l:List Nd)(hf:dq l)(hb:Sc l=true)(of:List Int)(hn:of.length<=1000000)(hm:qC l of=true):aV prog 115 [aQ l,aX of] (vI 0):=λU=>by
 refine Rv.q ?_;have hv:=Cn l hf;rw[hb]at hv;have hl1:=hf.1;refine mS 5 ?_;simp only[go_sem,seval,LV];refine pS rfl (hv _) ?_;simp only[go_sem,seval,ad,ae,af,al];refine pS rfl (NQ l (by omega) of hn hm _) ?_;simp only[go_sem,seval];exact az.same rfl
open Go.Proofs
def uQ(l:List Nd)(a b:Int):Bool:=decide (a<=b/\b<a+RJ l a.toNat)
def Gw(l:List Nd)(hb:Sc l=true)(hn:l.length<=100000)(a:Nat)(ha:a<l.length)(b:Int)(h0:0<=b)(h1:b<=1000000):aV prog 231 [aQ l,vI a,vI b] (.bool (uQ l a b)):=λU=>by
 refine Q0.q ?_;have RF:=ix l ha;have Tt:=gZ ha;have hsb:=qP hb ha;refine aq.mix 7 ?_;unfold uQ;rw[gu,Tt];rw[Tt]at hsb;by_cases h:(a:Int)<=b
 .have q:((a:Int)<=b)=True:=RA h;have r1:R0 .i64 ((a:Int)+l[a].size):=ao;apply sR;simp only[go_sem,seval,KO,q,RF,Nd.cells,r1];exact az.same (by simp[h])
 .have q:((a:Int)<=b)=False:=H' h;apply sR;simp only[go_sem,seval,KO,q];exact az.same (by simp[h])
def Xy(l:List Nd)(of:List Int)(b k:Int):Bool:=if 0<=k/\k<of.length then uQ l b (of.getD k.toNat 0)else false
def BU(l:List Nd)(hb:Sc l=true)(hn:l.length<=100000)(of:List Int)(SB:of.length<=1000000)(Sv:∀x∈of,0<=x/\x<l.length)(b:Nat)(SX:b<l.length)(k:Int){U:ak}{i4 i9:Nat}(h4:U i4=some ⟨57,1,[aX of]⟩)(h9:U i9=some ⟨220,2,[oD l of]⟩):
 aB prog 230 [vI b,vI k,.ptr i4 0 0,.ptr i9 0 0] U λr Z'=>r=.bool (Xy l of b k)/\Z'=U:=by
 refine QQ.q ?_;have hl:=db of;rw[oD]at h9;refine aq.mix 7 ?_;unfold Xy;by_cases VQ:0<=k
 .have q0:(k>=0)=True:=RA VQ;obtain⟨j,rfl⟩:∃j:Nat,k=j:=⟨k.toNat,by omega⟩
  by_cases SV:(j:Int)<of.length
  .have q1:((j:Int)<of.length)=True:=RA SV;have UG:j<of.length:=by omega
   have RF:=λU=>dp (U:=U) UG;have hx:=Sv _ (Sx UG);have Vo:of.getD j 0=of[j]:=by simp[UG]
   rw[aK ⟨VQ,SV⟩,gu,Vo];apply sR;simp only[go_sem,seval,I1,q0,q1,h4,h9,hl,RF,ad,ae];refine pJ rfl (Gw l hb hn b SX of[j] hx.1 (by omega)) ?_;apply sG;simp only[go_sem,seval];exact az.same rfl
  .have q1:((j:Int)<of.length)=False:=H' SV;rw[aM (λh=>SV h.2)];apply sR;simp only[go_sem,seval,I1,q0,q1,h4,h9,hl,ad,ae];exact az.same rfl
 .have q0:(k>=0)=False:=H' VQ;rw[aM (λh=>VQ h.1)];apply sR;simp only[go_sem,seval,I1,q0];exact az.same rfl
structure BH(l:List Nd)(of:List Int)(k:Int)(i4 i5 i9 i10:Nat)(U:ak):Prop where
 r4:U i4=some ⟨57,1,[aX of]⟩
 r5:U i5=some ⟨3,1,[vI k]⟩
 r9:U i9=some ⟨220,2,[oD l of]⟩
 Yh:U i10=some ⟨223,1,[.fn 230 [.ptr i4 0 0,.ptr i9 0 0]]⟩
def BH.mono{l:List Nd}{of:List Int}{k:Int}{i4 i5 i9 i10:Nat}{U J:ak}(h:BH l of k i4 i5 i9 i10 U)(hs:aa U J):BH l of k i4 i5 i9 i10 J:=⟨hs _ _ h.r4,hs _ _ h.r5,hs _ _ h.r9,hs _ _ h.Yh⟩
def J0(l:List Nd)(hb:Sc l=true)(hn:l.length<=100000)(of:List Int)(SB:of.length<=1000000)(Sv:∀x∈of,0<=x/\x<l.length)(b:Nat)(SX:b<l.length)(k:Int){U:ak}{i4 i5 i9 i10:Nat}(h:BH l of k i4 i5 i9 i10 U):
 aB prog 233 [vI b,.ptr i10 0 0,.ptr i5 0 0] U λr Z'=>r=.bool (!Xy l of b k)/\Z'=U:=by
 refine OO.q ?_;have r5:=h.r5;have Yh:=h.Yh;refine mS 5 ?_;simp only[go_sem,seval,N7,r5,Yh];refine pS rfl (BU l hb hn of SB Sv b SX k h.r4 h.r9) ?_;simp only[go_sem,seval];exact az.same rfl
def J6(l:List Nd)(hb:Sc l=true)(hn:l.length<=100000)(of:List Int)(SB:of.length<=1000000)(Sv:∀x∈of,0<=x/\x<l.length)(b:Nat)(SX:b<l.length)(k:Int)(VQ:0<=k)(SV:k<=1000000){U:ak}{i4 i5 i9 i10:Nat}(h:BH l of k i4 i5 i9 i10 U):
 aB prog 234 [vI b,.ptr i10 0 0,.ptr i5 0 0] U λr Z'=>r=.bool (!Xy l of b (k-1))/\Z'=U:=by
 refine Ra.q ?_;have r5:=h.r5;have Yh:=h.Yh;have r1:R0 .i64 (k-1):=ao;refine mS 5 ?_;simp only[go_sem,seval,L3,r5,Yh,r1];refine pS rfl (BU l hb hn of SB Sv b SX (k-1) h.r4 h.r9) ?_;simp only[go_sem,seval];exact az.same rfl
def KV(l:List Nd)(hb:Sc l=true)(hn:l.length<=100000)(of:List Int)(SB:of.length<=1000000)(Sv:∀x∈of,0<=x/\x<l.length)(b:Nat)(SX:b<l.length)(k:Int)(VQ:0<=k)(SV:k<=1000000){U:ak}{i4 i5 i9 i10:Nat}(h:BH l of k i4 i5 i9 i10 U):
 aB prog 236 [vI b,.ptr i10 0 0,.ptr i5 0 0] U λr Z'=>r=.bool (Xy l of b (k-1))/\Z'=U:=by
 refine PU.q ?_;have r5:=h.r5;have Yh:=h.Yh;have r1:R0 .i64 (k-1):=ao;refine mS 5 ?_;simp only[go_sem,seval,L4,r5,Yh,r1];refine pS rfl (BU l hb hn of SB Sv b SX (k-1) h.r4 h.r9) ?_;simp only[go_sem,seval];exact az.same rfl
def AL(l:List Nd)(hl:dq l)(hb:Sc l=true)(hn:l.length<=100000)(a:Nat)(ha:a<l.length):Iter prog 249 [.rp (aQ l),.rp (vI a)] ((Xe l a).map λn=>[vI n]):=by
 refine⟨Ox.c,λSo τ Jx Z0 hy hJ=>?_⟩;refine(Ox.q ?_).2;have Vw:=zA l hl hb hn a ha;have WI:=kD l (l.length+1) (cS l a);have e0:(Xe l a).length<=l.length+1:=WI;have hlen:=db (Xe l a);generalize Xe l a=L at*;have ldA:∀U,cQ U false 1 (.rp (aQ l))=some (aQ l):=λU=>rfl;have ldB:∀U (n:Int),cQ U false 1 (.rp (vI n))=some (vI n):=λU n=>rfl;refine mS 6 ?_;simp only[go_sem,seval,LZ,ldA,ldB];refine pS rfl (Vw _) ?_;simp only[go_sem,seval,hlen];refine aq.loop (λm st=>∃(j:Nat) (ZJ:ak),j<=L.length/\m=L.length-j/\τ ((L.take j).map λn=>[vI n]) ZJ/\aa ZJ st.U/\st.s 0=.yl So/\st.s 8=aX L/\st.s 9=vI L.length/\st.s 10=vI j) L.length ?_ ?_
 .exact⟨0,Z0,by omega,rfl,by simpa using hJ,aa.refl _,rfl,rfl,rfl,rfl⟩
 .rintro m ⟨S,J⟩ ⟨j,ZJ,hj,rfl,Us,G',t0,t8,t9,t10⟩;simp only at G' t0 t8 t9 t10;refine aq.mix 6 ?_;by_cases u':j<L.length
  .have q:=qT u';have RF:=λU=>dp (U:=U) u';have Sd:L.take (j+1)=L.take j++[L[j]]:=U0 u';have e:(L.map λn=>[vI n])=((L.take j).map λn=>[vI n])++[vI L[j]]::((L.drop (j+1)).map λn=>[vI n]):=by
    have e0':L=L.take j++L[j]::L.drop (j+1):=by rw[<-jM u',A8]
    have:=congrArg (List.map λn=>[vI n]) e0'
    rwa [eQ,fC]at this
   generalize L[j]=x at*;have r1:=rI j;apply sR;simp only[go_sem,seval,t0,t8,t9,t10,q,RF];refine aq.qq (Post:=λb Z2=>∃Sp,bE ZJ J Sp Z2/\((b=true/\τ (((L.take j).map λn=>[vI n])++[[vI x]]) Sp)\/(b=false/\Jx (((L.take j).map λn=>[vI n])++[[vI x]]) Sp))) rfl rfl rfl (hy _ [vI x] _ ZJ J e Us G') ?_;rintro b Z2 ⟨Sp,Uv,Ui⟩;rcases Ui with⟨rfl,Ui⟩|⟨rfl,Ui⟩
   .apply sR;simp only[go_sem,seval,t0,t8,t9,t10,r1];refine⟨_,?_,j+1,Sp,by omega,rfl,by rw[Sd];simpa using Ui,Uv.1,by simp[t0,t8,t9]⟩;omega
   .apply sR;simp only[go_sem,seval,t0];refine⟨_,Sp,Uv.1,Wk.refl Uv.1 _,.inr ⟨_,?_,Ui⟩⟩;rw[e];exact⟨(L.drop (j+1)).map λn=>[vI n],by simp⟩
  .have q:=qF u';rw[pL (by omega)]at Us;apply sR;simp only[go_sem,seval,t0,t8,t9,t10,q];exact⟨_,ZJ,G',Wk.refl G' _,.inl Us⟩
def Fg(l:List Nd)(a:Int):aV prog 246 [aQ l,vI a] (.fn 249 [.rp (aQ l),.rp (vI a)]):=λU=>by
 refine QZ.q ?_;refine aq.mix 4 ?_;have q1:=ad l;have q2:=al l;generalize aQ l=x at*;apply sR;simp only[go_sem,seval,LP,q1,q2];refine aD λVz Z1 s1 a1 f1=>?_;simp only[go_sem,seval];refine aD λWY Z2 s2 a2 f2=>?_;simp only[go_sem,seval];exact⟨_,U,s1.trans s2,Wk.fn (vs':=[.rp x,.rp (vI a)]) ⟨Wk.ptr (s1.trans s2) (s2 _ _ a1) f1,Wk.ptr (s1.trans s2) a2 (s1.none f2),trivial⟩,rfl,rfl⟩
open Go.Proofs
def V8(l:List Nd)(of:List Int)(k:Int)(p:Int->Bool):List Int:=if 0<=k/\k<of.length then(Xe l (of.getD k.toNat 0).toNat).filter p else[]
def yw{l:List Nd}{a:Nat}(ha:a<l.length):∀x∈Xe l a,∃n:Nat,x=n/\n<a:=λx hx=>by
 have:=Gc l _ _ x hx;have h2:=dR l a;exact⟨x.toNat,by omega,by omega⟩
def qI{p:Int->Bool}{L:List Int}{j:Nat}{x:Int}(h:L[j]?=some x):(L.take (j+1)).filter p=(L.take j).filter p++if p x then[x]else[]:=by
 rw[J9,h,List.filter_append];cases hp:p x<;>simp[hp]
def tW(l:List Nd)(hl:dq l)(hb:Sc l=true)(hn:l.length<=100000)(of:List Int)(SB:of.length<=1000000)(Sv:∀x∈of,0<=x/\x<l.length)(k:Int)(g:FuncId)(caps:List V)(p:Int->Bool){U:ak}
 (hg:∀b:Nat,b<l.length->∀J,aa U J->aB prog g (vI b::caps) J λr Z'=>r=.bool (p b)/\Z'=J):
 aB prog 232 [oD l of,vI k,.fn g caps] U λr Z'=>aa U Z'/\aP U Z' 3 1 r ((V8 l of k p).map vI)/\(V8 l of k p=[]->r=.bj):=by
 refine Q4.q ?_;have hs:=aa.refl U;have SD:=db of;refine mS 9 ?_;simp only[go_sem,seval,Mw,nu,mY,ad,ae,af,al];refine aG hs λi3 Z3 s3 a3 f3 z3 hs=>?_;simp only[go_sem,seval];refine aG hs λi5 Z5 s5 a5 f5 z5 hs=>?_;obtain⟨YX,a3⟩:=RC a3 f5 s5;have a3':Z5 i3=some ⟨220,2,[.agg [aQ l,aX of]]⟩:=a3;by_cases VQ:k<0
 .have q0:(k<0)=True:=RA VQ;have hc:V8 l of k p=[]:=by unfold V8;rw[aM (by omega)]
  simp only[go_sem,seval,q0];rw[hc];exact SG ⟨hs,aP.start,λ_=>rfl⟩
 have q0:(k<0)=False:=H' VQ;obtain⟨j,rfl⟩:∃j:Nat,k=j:=⟨k.toNat,by omega⟩
 by_cases SV:(j:Int)>=of.length
 .have q1:((j:Int)>=of.length)=True:=RA SV;have hc:V8 l of j p=[]:=by unfold V8;rw[aM (by omega)]
  simp only[go_sem,seval,q0,a3',SD,q1,ad,ae];rw[hc];exact SG ⟨hs,aP.start,λ_=>rfl⟩
 have q1:((j:Int)>=of.length)=False:=H' SV;have UG:j<of.length:=by omega
 have RF:=λU=>dp (U:=U) UG;obtain⟨hx0,hx1⟩:=Sv _ (Sx UG);have Vo:of.getD j 0=of[j]:=by simp[UG]
 have hc:V8 l of j p=(Xe l of[j].toNat).filter p:=by unfold V8;rw[aK ⟨by omega,by omega⟩,gu,Vo]
 rw[hc];simp only[go_sem,seval,q0,a3',SD,q1,ad,ae];refine aD λi7 Z7 s7 a7 f7=>?_;have b3:=s7 _ _ a3';have b5:=s7 _ _ a5;simp only[go_sem,seval,b3,RF,ad,ae];obtain⟨x,hx⟩:∃x:Nat,of[j]=x:=⟨of[j].toNat,by omega⟩
 rw[hx]at hx1|-;refine pR rfl (Fg l x _) ?_;have Yc:=AL l hl hb hn x (by omega);have hrg:=yw (l:=l) (a:=x) (by omega);have hlL:(Xe l x).length<=l.length+1:=kD _ _ _;rw[gu];generalize Xe l x=L at*;apply sR;simp only[go_sem,seval];generalize hS:mix 9 _ _=S;have S5:S 5=.ptr i5 0 0:=by rw[<-hS];rfl
 have S7:S 7=.ptr i7 0 0:=by rw[<-hS];rfl
 have S25:S 25=.fn 249 [.rp (aQ l),.rp (vI x)]:=by rw[<-hS];rfl
 clear hS;refine aq.gi (g:=.t 25) (caps:=[.rp (aQ l),.rp (vI x)]) S25 Yc (λy hy=>?_) [] (λpre ZJ=>∃v,ZJ i7=some ⟨57,1,[v]⟩/\aa Z5 ZJ/\aP (cg Z5 i7) ZJ 3 1 v (((L.take pre.length).filter p).map vI)/\((L.take pre.length).filter p=[]->v=.bj))
  (λ_ _ _=>False) ?_ ?_ ?_ ?_ ?_
 .obtain⟨t,_,rfl⟩:=iD.1 hy;rfl
 .exact⟨.bj,a7,s7,by simpa using aP.start,λ_=>rfl⟩
 .rintro pre y post ZJ ZB U6 ⟨v,J7,Js,Jo,Jn⟩ G';obtain⟨t,hti,rfl⟩:=xI (f:=vI) U6;obtain⟨tn,rfl,htn⟩:=hrg t (FY hti);have Sd:=qI (p:=p) hti;have hlen:(pre++[[vI (tn:Int)]]).length=pre.length+1:=by simp
  rw[hlen,Sd];have Uj:(((L.take pre.length).filter p).map vI).length<=1000001:=by
   rw[dC];have:=List.length_filter_le p (L.take pre.length);rw[lQ]at this;omega
  have Xd:v.cells=[v]:=by rcases Jo with⟨rfl,_⟩|⟨_,rfl,_⟩<;>rfl
  generalize Sa:(((L.take pre.length).filter p).map vI)=rows at*;have c7:=G' _ _ J7;have c5:=G' _ _ (Js _ _ a5);generalize UL:pz S [26] [vI (tn:Int)]=S0;have T5:S0 5=.ptr i5 0 0:=by rw[<-UL];exact S5
  have T7:S0 7=.ptr i7 0 0:=by rw[<-UL];exact S7
  have T26:S0 26=vI (tn:Int):=by rw[<-UL];rfl
  clear UL;refine mS 9 ?_;simp only[go_sem,seval,T5,T7,T26];apply sR;simp only[go_sem,seval,T5,T7,T26,c5];refine pR rfl (hg tn (by omega) _ ((hs.trans Js).trans G')) ?_;cases hp:p (tn:Int)
  .apply sR;simp only[go_sem,seval];refine⟨_,bE.refl G',v,J7,Js,?_,by simpa using Jn⟩;simpa[Sa]using Jo
  .apply sR;simp only[go_sem,seval,T5,T7,T26,c7,Xd];rw[aH];intro VC f28;have YI:=(bE.refl G').Hn (o:=⟨3,1,[vI (tn:Int)]⟩) f28;have y2:C' ZB VC ⟨3,1,[vI (tn:Int)]⟩ i7=some ⟨57,1,[v]⟩:=by rw[ab (bb c7 f28)];exact c7
   have a28:C' ZB VC ⟨3,1,[vI (tn:Int)]⟩ VC=some ⟨3,1,[vI (tn:Int)]⟩:=av;generalize C' ZB VC ⟨3,1,[vI (tn:Int)]⟩=Z8 at*;obtain⟨idA,SE,YU⟩:=Jo.Jc YI.1;have Sh:(rows.length+1)*9<=140737488355328:=by omega
   have k2:cg Z5 i7 i7≠none:=λh=>(bh.1 h).1 rfl;have YY:∀(i:Nat) (Zx:ak),cg Z5 i7 i≠none->Vc.bR Zx idA i=Zx i:=λi Zx hk=>by
    cases idA with
    |none=>rfl
    |some a=>exact eT (λe=>hk (by rw[e];exact(YU a rfl).1))
   simp only[go_sem,seval,SE,bN a28,Sh,T7];rw[aH];intro TU f29;have f29:Z8 TU=none:=f29;have m29:i7≠TU:=bb y2 f29;have f29':Vc.bR Z8 idA TU=none:=by
    cases idA with
    |none=>exact f29
    |some a=>simp only[Vc.bR,del];split<;>first|rfl|exact f29
   have y2':C' (Vc.bR Z8 idA) TU ⟨3,1,rows++[vI (tn:Int)]⟩ i7=some ⟨57,1,[v]⟩:=by rw[ab m29,YY _ _ k2];exact y2
   have hB9:=((YI.JT (e:=idA) λi h=>(YU i h).2).new (o:=⟨3,1,rows++[vI (tn:Int)]⟩) f29').set (id:=i7) (o:=⟨57,1,[v]⟩) (o':=⟨57,1,[.own TU 0 (rows.length+1)]⟩) (by rw[ab m29,YY _ _ k2];exact J7);simp only[go_sem,seval,Xd,y2',T7];refine⟨_,hB9,.own TU 0 (rows.length+1),av,?_,?_,λh=>by simp at h⟩
   .refine aa.aL (λi o h=>?_) f7;have h1:=Js _ _ h;rw[ab (bb (YI.1 _ _ h1) f29),YY _ _ (λhk=>by rw[(bh.1 hk).2]at h;cases h)];exact h1
   .rw[eQ,Sa];refine aP.new (by simp) (by rw[ab m29.symm,av];rfl) ?_;rw[bh];refine⟨m29.symm,?_⟩;cases h:Z5 TU with
    |none=>rfl
    |some o=>rw[YI.1 _ _ (Js _ _ h)]at f29;cases f29
 .rintro Z' ⟨v,J7,Js,Jo,Jn⟩;rw[dC,ik]at Jo Jn;have Xd:v.cells=[v]:=by rcases Jo with⟨rfl,_⟩|⟨_,rfl,_⟩<;>rfl
  refine mS 9 ?_;simp only[go_sem,seval,S7,J7,Xd];refine SG ⟨hs.trans Js,?_,Jn⟩;rcases Jo with h|⟨id,h1,h2,h3⟩
  .exact .inl h
  .exact .inr ⟨id,h1,h2,hs.none (bh.1 h3).2⟩
 .intro id h;cases h
 .rintro pre Z' _ ⟨⟩
open Go.Proofs
def swp(L:List Int)(i j:Nat):List Int:=(L.set i (L.getD j 0)).set j (L.getD i 0)
def kS(L:List Int):Nat->List Int
 |0=>L
 |t+1=>swp (kS L t) t (L.length-1-t)
def lZ(L:List Int):∀t,(kS L t).length=L.length
 |0=>rfl
 |t+1=>by simp[kS,swp,lZ L t]
def Ac(L:List Int):∀(t:Nat),2*t<=L.length->∀i,i<L.length->(kS L t)[i]?=if i<t\/L.length-t<=i then L[L.length-1-i]? else L[i]?
 |0,_,i,hi=>by rw[kS,aM (by omega)]
 |t+1,ht,i,hi=>by
  have ih:=λi hi=>Ac L t (by omega) i hi;have hl:=lZ L t;have e1:(kS L t).getD t 0=L.getD t 0:=by
   rw[yb,yb,ih t (by omega),aM (by omega)]
  have e2:(kS L t).getD (L.length-1-t) 0=L.getD (L.length-1-t) 0:=by
   rw[yb,yb,ih _ (by omega),aM (by omega)]
  rw[kS,swp,e1,e2,List.getElem?_set,List.getElem?_set,List.length_set,hl];have g:∀k,k<L.length->some (L.getD k 0)=L[k]?:=λk hk=>by simp[hk]
  by_cases h1:L.length-1-t=i
  .rw[aK h1,aK (by omega),aK (by omega),g t (by omega)];congr 1;omega
  .rw[aM h1];by_cases h2:t=i
   .rw[aK h2,aK (by omega),aK (by omega),g _ (by omega)];congr 1;omega
   .rw[aM h2,ih i hi];by_cases h3:i<t\/L.length-t<=i
    .rw[aK h3,aK (by omega)]
    .rw[aM h3,aM (by omega)]
def E1(L:List Int){t:Nat}(h1:2*t<=L.length)(h2:L.length<=2*t+1):kS L t=L.reverse:=by
 apply List.ext_getElem?;intro i;by_cases hi:i<L.length
 .rw[Ac L t h1 i hi,List.getElem?_reverse hi];split
  .rfl
  .congr 1;omega
 .rw[sW (by rw[lZ];omega),sW (by simp;omega)]
def Et(L:List Int)(hL:L.length<=1000000){K U:ak}{v:V}(hv:aP K U 3 1 v (L.map vI))(RU:L=[]->v=.bj):
 aB prog 235 [v] U λr Z'=>r=.RM []/\aP K Z' 3 1 v (L.reverse.map vI)/\∀i o,U i=some o->(o.elem≠3\/K i≠none)->Z' i=some o:=by
 refine QF.q ?_;refine aq.mix 5 ?_;rcases hv with⟨rfl,h0⟩|⟨id,rfl,h2,h3⟩
 .obtain rfl:L=[]:=by simpa using h0
  apply sR;simp only[go_sem,seval,KG];refine⟨ao,?_⟩;refine aq.loop (λm st=>st.U=U/\st.s 2=vI 0/\∃z:Int,st.s 3=vI z/\z<0) 0 ?_ ?_
  .refine⟨rfl,rfl,_,rfl,?_⟩;simp
  .rintro m ⟨S,J⟩ ⟨R8,t2,z,t3,hz⟩;simp only at R8 t2 t3;subst R8;refine aq.mix 5 ?_;have q:((0:Int)<z)=False:=H';apply sR;simp only[go_sem,seval,t2,t3,q];exact SG ⟨rfl,.inl ⟨rfl,rfl⟩,λi o h _=>h⟩
 .have hn:0<L.length:=BS.2 λe=>by have:=RU e;cases this
  have Uh:(L.map vI).length=L.length:=by simp
  have r1:R0 .i64 ((L.length:Int)-1):=ao;apply sR;simp only[go_sem,seval,KG,Uh,r1];refine aq.loop (λm st=>∃t:Nat,2*t<=L.length/\m=L.length-t/\st.U id=some ⟨3,1,(kS L t).map vI⟩/\(∀i,i≠id->st.U i=U i)/\st.s 0=.own id 0 L.length/\st.s 2=vI t/\∃z:Int,st.s 3=vI z/\z=(L.length:Int)-1-t) L.length ?_ ?_
  .exact⟨0,by omega,by omega,h2,λ_ _=>rfl,rfl,rfl,_,rfl,by simp⟩
  .rintro m ⟨S,J⟩ ⟨t,ht,rfl,g1,g2,t0,t2,z,t3,rfl⟩;simp only at g1 g2 t0 t2 t3;refine aq.mix 5 ?_;have XI:((kS L t).map vI).length=L.length:=by rw[dC,lZ]
   by_cases u':(t:Int)<(L.length:Int)-1-t
   .have q:((t:Int)<(L.length:Int)-1-t)=True:=RA u';have hj:((L.length:Int)-1-t)=((L.length-1-t:Nat):Int):=by omega
    obtain⟨j,hjj⟩:∃j,j=L.length-1-t:=⟨_,rfl⟩
    rw[hj,<-hjj]at t3 q;have hti:t<(kS L t).length:=by rw[lZ];omega
    have TJ:j<(kS L t).length:=by rw[lZ];omega
    have i1:∀n,n=L.length->bG J 1 (.own id 0 n) (.int .i64 t)=some (.ptr id t 0):=λn hn=>by subst hn;rw[<-XI];exact j5 g1 (by rw[XI];omega)
    have i2:∀n,n=L.length->bG J 1 (.own id 0 n) (.int .i64 j)=some (.ptr id j 0):=λn hn=>by subst hn;rw[<-XI];exact j5 g1 (by rw[XI];omega)
    have v1:((kS L t).map vI)[t]?=some (vI ((kS L t).getD t 0)):=by simp[hti]
    have v2:((kS L t).map vI)[j]?=some (vI ((kS L t).getD j 0)):=by simp[TJ]
    have i3:∀a n,n=L.length->bG (C' J id ⟨3,1,((kS L t).map vI).set t a⟩) 1 (.own id 0 n) (.int .i64 j)=some (.ptr id j 0):=λa n hn=>by
     have e:n=(((kS L t).map vI).set t a).length:=by rw[List.length_set,XI,hn]
     rw[e];exact j5 av (by rw[List.length_set,XI];omega)
    have v3:∀a,(((kS L t).map vI).set t a)[j]?=some (vI ((kS L t).getD j 0)):=λa=>by rw[List.getElem?_set_ne (by omega)];exact v2
    have r4:=rI t;have r5:R0 .i64 ((j:Int)-1):=ao;apply sR;simp only[go_sem,seval,t0,t2,t3,q,g1,i1 _ rfl,i2 _ rfl,i3 _ _ rfl,v1,v2,v3,r4,r5];refine⟨_,?_,t+1,by omega,rfl,?_,λi hi=>?_,by simp[t0],_,rfl,by omega⟩
    .omega
    .simp only[kS,swp,List.map_set];rw[hjj]
    .rw[ab hi];exact g2 i hi
   .have q:((t:Int)<(L.length:Int)-1-t)=False:=H' u';apply sR;simp only[go_sem,seval,t0,t2,t3,q];have hr:=E1 L ht (by omega);rw[hr]at g1;refine SG ⟨rfl,.inr ⟨id,by simp,g1,h3⟩,λi o h hio=>?_⟩;rw[g2 i (λe=>by subst e;rw[h2]at h;injection h with h;subst h;rcases hio with h|h;exact h rfl;exact h h3)]
    exact h
open Go.Proofs
structure Kn where
 (ends TF both:List Int)
 text:Int
def fV(x:Kn):V:=.agg [aX x.ends,aX x.TF,aX x.both,vI x.text]
def cq(l:List Nd)(of:List Int)(k:Nat):Kn:=
 ⟨V8 l of ((k:Int)-1) (λb=>!Xy l of b k),(V8 l of k (λb=>!Xy l of b ((k:Int)-1))).reverse,V8 l of k (λb=>Xy l of b ((k:Int)-1)),
  if 0<k/\k<of.length/\of.getD k 0=of.getD (k-1) 0 then of.getD k 0 else -1⟩
structure KR(l:List Nd)(of:List Int)(k:Int)(i4 i5 i6 i9 i10 i11:Nat)(v:V)(Z0 U:ak):Prop where
 ask:BH l of k i4 i5 i9 i10 U
 r6:U i6=some ⟨240,4,[.agg [.bj,.bj,.bj,vI 0]]⟩
 r11:U i11=some ⟨240,4,[v]⟩
 sub:aa Z0 U
 no:Z0 i11=none
 ne:i4≠i11/\i5≠i11/\i6≠i11/\i9≠i11/\i10≠i11
def KR.mono{l:List Nd}{of:List Int}{k:Int}{i4 i5 i6 i9 i10 i11:Nat}{v:V}{Z0 U J:ak}(h:KR l of k i4 i5 i6 i9 i10 i11 v Z0 U)(hs:aa U J):KR l of k i4 i5 i6 i9 i10 i11 v Z0 J:=
 ⟨h.ask.mono hs,hs _ _ h.r6,hs _ _ h.r11,h.sub.trans hs,h.no,h.ne⟩
def KR.put{l:List Nd}{of:List Int}{k:Int}{i4 i5 i6 i9 i10 i11:Nat}{v w:V}{Z0 U:ak}(h:KR l of k i4 i5 i6 i9 i10 i11 v Z0 U):KR l of k i4 i5 i6 i9 i10 i11 w Z0 (C' U i11 ⟨240,4,[w]⟩):=by
 obtain⟨n1,n2,n3,n4,n5⟩:=h.ne;exact⟨⟨by rw[ab n1];exact h.ask.r4,by rw[ab n2];exact h.ask.r5,by rw[ab n4];exact h.ask.r9,by rw[ab n5];exact h.ask.Yh⟩,by rw[ab n3];exact h.r6,av,h.sub.aL h.no,h.no,h.ne⟩
def C2(l:List Nd)(hl:dq l)(hb:Sc l=true)(of:List Int)(SB:of.length<=1000000)(Sv:∀x∈of,0<=x/\x<l.length)(hm:qC l of=true)(k:Nat)(hk:k<=of.length):
 aV prog 211 [aQ l,aX of,vI k] (.RM [fV (cq l of k),vI 0]):=λU=>by
 refine Q9.q ?_;have hs:=aa.refl U;have SD:=db of;have hn:l.length<=100000:=by have:=hl.1;omega
 refine mS 12 ?_;simp only[go_sem,seval,NM,ad,ae,af,al];refine aG hs λi4 Z4 s4 a4 f4 z4 hs=>?_;simp only[go_sem,seval];refine aG hs λi5 Z5 s5 a5 f5 z5 hs=>?_;obtain⟨V6,a4⟩:=RC a4 f5 s5;simp only[go_sem,seval];refine aG hs λi6 Z6 s6 a6 f6 z6 hs=>?_;obtain⟨n46,a4⟩:=RC a4 f6 s6;obtain⟨n56,a5⟩:=RC a5 f6 s6;simp only[go_sem,seval,a4,a5,a6,ad,ae,af];refine pR rfl (qx l hl hb of SB hm _) ?_;have q0:((0:Int)≠0)=False:=H' (λh=>h rfl);have q1:((k:Int)<0)=False:=H';have q2:((k:Int)>of.length)=False:=H';apply sR;simp only[go_sem,seval,q0,q1,q2,a4,a5,a6,SD,ad,ae,af,al];refine aG hs λi9 Y9 s9 a9 f9 z9 hs=>?_;obtain⟨WJ,a4⟩:=RC a4 f9 s9;obtain⟨V9,a5⟩:=RC a5 f9 s9;obtain⟨XO,a6⟩:=RC a6 f9 s9;simp only[go_sem,seval,a9,a4,a5,a6,ad,ae,af,al];generalize Sy:C' _ i9 _=Z9;replace a9:=SR Sy;replace a4:=R6 Sy WJ a4;replace a5:=R6 Sy V9 a5;replace a6:=R6 Sy XO a6;replace hs:=SL Sy hs z9;have Zm:V.Tc.cells=[.Tc]:=rfl;refine aG hs λi10 XP To RZ f10 Uq hs=>?_;obtain⟨U9,a4⟩:=RC a4 f10 To;obtain⟨n510,a5⟩:=RC a5 f10 To;obtain⟨Vl,a6⟩:=RC a6 f10 To;obtain⟨UU,a9⟩:=RC a9 f10 To;simp only[go_sem,seval,RZ,Zm];generalize R5:C' _ i10 _=Y10;replace RZ:=SR R5;replace a4:=R6 R5 U9 a4;replace a5:=R6 R5 n510 a5;replace a6:=R6 R5 Vl a6;replace a9:=R6 R5 UU a9;replace hs:=SL R5 hs Uq;refine aG hs λi11 Yf Vb Ug f11 YE hs=>?_;obtain⟨XY,a4⟩:=RC a4 f11 Vb;obtain⟨YL,a5⟩:=RC a5 f11 Vb;obtain⟨TG,a6⟩:=RC a6 f11 Vb;obtain⟨Xh,a9⟩:=RC a9 f11 Vb;obtain⟨TR,RZ⟩:=RC RZ f11 Vb;simp only[go_sem,seval,Ug,RZ,a9,a5,a4,ab XY,ab YL,ab TG,ab Xh,ab TR,ad,ae];generalize Tb:C' _ i11 _=Y11;replace Ug:=SR Tb;replace a4:=R6 Tb XY a4;replace a5:=R6 Tb YL a5;replace a6:=R6 Tb TG a6;replace a9:=R6 Tb Xh a9;replace RZ:=R6 Tb TR RZ;replace hs:=SL Tb hs YE;have hK:KR l of k i4 i5 i6 i9 i10 i11 (.agg [.bj,.bj,.bj,vI (-1)]) U Y11:=⟨⟨a4,a5,a9,RZ⟩,a6,Ug,hs,YE,XY,YL,TG,Xh,TR⟩
 clear hs a4 a5 a6 a9 RZ Ug;generalize Y11=J at*;have hZ11:=hK.r11;have hZs:=hK.sub;refine⟨ao,?_⟩;refine Tx rfl (tW l hl hb hn of SB Sv ((k:Int)-1) 233 [.ptr i10 0 0,.ptr i5 0 0] (λb=>!Xy l of b k) (λb SX X' hτ=>J0 l hb hn of SB Sv b SX k (hK.ask.mono hτ))) ?_;rintro v0 Z1 ⟨s1,o0,_⟩;have hK1:=hK.mono s1;clear hK s1;obtain⟨cv0,sv0⟩:=o0.vc;have c11:=hK1.r11;have c9:=hK1.ask.r9;have c5:=hK1.ask.r5;rw[oD]at c9;apply sR;simp only[go_sem,seval,c11,c9,c5,cv0,sv0,ab Xh,ab YL,ad,ae];have hK2:=hK1.put (w:=.agg [v0,.bj,.bj,vI (-1)]);have o0':aP (cg U i11) (C' Z1 i11 ⟨240,4,[.agg [v0,.bj,.bj,vI (-1)]]⟩) 3 1 v0 ((V8 l of ((k:Int)-1) (λb=>!Xy l of b k)).map vI):=by
  rcases o0 with h|⟨id,g1,g2,g3⟩
  .exact .inl h
  .have g3:J id=none:=g3;have RU:id≠i11:=λe=>by rw[e,hZ11]at g3;cases g3
   exact .inr ⟨id,g1,by rw[ab RU];exact g2,bh.2 ⟨RU,hZs.none g3⟩⟩
 generalize C' Z1 i11 ⟨240,4,[.agg [v0,.bj,.bj,vI (-1)]]⟩=Y2 at*;refine Tx rfl (tW l hl hb hn of SB Sv k 234 [.ptr i10 0 0,.ptr i5 0 0] (λb=>!Xy l of b ((k:Int)-1)) (λb SX X' hτ=>J6 l hb hn of SB Sv b SX k (by omega) (by omega) (hK2.ask.mono hτ))) ?_;rintro v1 Z3 ⟨s3,o1,n1⟩;have hK3:=hK2.mono s3;have o03:=o0'.mono s3;obtain⟨cv1,sv1⟩:=o1.vc;have d11:=hK3.r11;have x11:=hK2.r11;apply sR;simp only[go_sem,seval,d11,cv0,sv0,cv1,sv1];have hK4:=hK3.put (w:=.agg [v0,v1,.bj,vI (-1)]);have push:∀{K Zx:ak} {v:V} {rows:List V} {o:Ob},K i11≠none->aP K Zx 3 1 v rows->aP K (C' Zx i11 o) 3 1 v rows:=λ{K Zx v rows o} hk h=>by
  rcases h with h|⟨id,g1,g2,g3⟩
  .exact .inl h
  .exact .inr ⟨id,g1,by rw[ab (λe=>by rw[e]at g3;exact hk g3)];exact g2,g3⟩
 have kk:cg U i11 i11≠none:=λh=>(bh.1 h).1 rfl;have o1':aP Y2 Z3 3 1 v1 _:=o1;have o04:=push (o:=⟨240,4,[.agg [v0,v1,.bj,vI (-1)]]⟩) kk o03;have o14:=push (o:=⟨240,4,[.agg [v0,v1,.bj,vI (-1)]]⟩) (by rw[x11];simp) o1';generalize C' Z3 i11 ⟨240,4,[.agg [v0,v1,.bj,vI (-1)]]⟩=Y4 at*;have SU:∀kk p,(V8 l of kk p).length<=1000000:=λkk p=>by
  unfold V8;split
  .have h1:=List.length_filter_le p (Xe l (of.getD kk.toNat 0).toNat);have h2:=kD l (l.length+1) (cS l (of.getD kk.toNat 0).toNat);have h3:(Xe l (of.getD kk.toNat 0).toNat).length<=l.length+1:=h2;omega
  .simp
 refine Tx rfl (Et _ (SU _ _) o14 n1) ?_;rintro r Z5 ⟨rfl,o15,Uc⟩;have y5:=hK2.ask.r5;have hK5:KR l of k i4 i5 i6 i9 i10 i11 (.agg [v0,v1,.bj,vI (-1)]) U Z5:=
  ⟨⟨Uc _ _ hK4.ask.r4 (.inl (by simp)),Uc _ _ hK4.ask.r5 (.inr (by rw[y5];simp)),Uc _ _ hK4.ask.r9 (.inl (by simp)),Uc _ _ hK4.ask.Yh (.inl (by simp))⟩,Uc _ _ hK4.r6 (.inl (by simp)),Uc _ _ hK4.r11 (.inl (by simp)),
    λi o h=>Uc _ _ (hK4.sub _ _ h) (.inr (by rw[hK2.sub _ _ h];simp)),hK4.no,hK4.ne⟩
 have o05:aP (cg U i11) Z5 3 1 v0 ((V8 l of ((k:Int)-1) (λb=>!Xy l of b k)).map vI):=by
  rcases o0' with h|⟨id,g1,g2,g3⟩
  .exact .inl h
  .rcases o04 with⟨e,_⟩|⟨Ua,e1,e2,_⟩
   .rw[g1]at e;cases e
   .rw[g1]at e1;injection e1 with e1 _ _
    subst e1;exact .inr ⟨id,g1,Uc _ _ e2 (.inr (by rw[g2];simp)),g3⟩
 have e9:=hK5.ask.r9;have e5:=hK5.ask.r5;have e11:=hK5.r11;rw[oD]at e9;apply sR;simp only[go_sem,seval,e9,e5,e11,ad,ae];refine Tx rfl (tW l hl hb hn of SB Sv k 236 [.ptr i10 0 0,.ptr i5 0 0] (λb=>Xy l of b ((k:Int)-1)) (λb SX X' hτ=>KV l hb hn of SB Sv b SX k (by omega) (by omega) (hK5.ask.mono hτ))) ?_;rintro v2 Z6 ⟨s6,o2,_⟩;have hK6:=hK5.mono s6;have o06:=o05.mono s6;have o16:=o15.mono s6;have o2':aP Z5 Z6 3 1 v2 _:=o2;obtain⟨cv2,sv2⟩:=o2.vc;have f11:=hK6.r11;have f4:=hK6.ask.r4;have f5:=hK6.ask.r5;have f6:=hK6.r6;have Xz:∀{K:ak} {J:ak} {v:V} {rows x:List V} {i:Nat} {o:Ob},J i=some ⟨240,4,x⟩->aP K J 3 1 v rows->aP K (C' J i o) 3 1 v rows:=λ{K J v rows x i o} hi h=>by
  rcases h with h|⟨id,g1,g2,g3⟩
  .exact .inl h
  .refine .inr ⟨id,g1,?_,g3⟩;rw[ab (λe=>by rw[e,hi]at g2;cases g2)];exact g2
 have hsK1:aa U (cg U i11):=λi o h=>by rw[cg,aM (λe=>by rw[e,hK6.no]at h;cases h)];exact h
 have fin:∀(t:Int) (o:Ob),t=(cq l of k).text->az (.RM [.agg [v0,v1,v2,vI t],vI 0]) (C' (C' Z6 i11 ⟨240,4,[.agg [v0,v1,v2,vI t]]⟩) i6 o) λr Z'=>r=.RM [fV (cq l of k),vI 0]/\Z'=U:=by
  intro t o ht;have g6:=f6;rw[<-ab (U:=Z6) (o:=⟨240,4,[.agg [v0,v1,v2,vI t]]⟩) TG]at g6;have p0:=Xz (o:=o) g6 (Xz (o:=⟨240,4,[.agg [v0,v1,v2,vI t]]⟩) f11 o06);have p1:=Xz (o:=o) g6 (Xz (o:=⟨240,4,[.agg [v0,v1,v2,vI t]]⟩) f11 o16);have p2:=Xz (o:=o) g6 (Xz (o:=⟨240,4,[.agg [v0,v1,v2,vI t]]⟩) f11 o2');have RR:=((hK6.sub.aL (o:=⟨240,4,[.agg [v0,v1,v2,vI t]]⟩) hK6.no)).aL (o:=o) z6;refine⟨_,U,RR,Wk.RM (vs':=[fV (cq l of k),vI 0]) ⟨Wk.agg (vs':=[aX (cq l of k).ends,aX (cq l of k).TF,aX (cq l of k).both,vI (cq l of k).text]) ⟨p0.wk hsK1 RR,p1.wk hK2.sub RR,p2.wk hK5.sub RR,by rw[<-ht];exact Wk.refl RR _,trivial⟩,Wk.refl RR _,trivial⟩,rfl,rfl⟩
 rcases Nat.eq_zero_or_pos k with rfl|h0
 .have q3:((((0:Nat):Int))>0)=False:=H';have ft:=fin (-1);apply sR;simp only[go_sem,seval,f11,f4,f5,f6,cv0,sv0,cv1,sv1,cv2,sv2,ab XY,ab YL,ab TG,ab Xh,ab TR,q3,ad,ae,af,al];exact fin _ _ (by simp[cq])
 have q3:((k:Int)>0)=True:=RA;by_cases h1:k<of.length
 .have q4:=qT h1;have q5:=ao (m:=((k-1:Nat):Int)) (by omega) (by omega);have q6:((k:Int)-1)=((k-1:Nat):Int):=by omega
  have q7:=λU=>dp (U:=U) h1;have q8:=λU=>dp (U:=U) (l:=of) (i:=k-1) (by omega);have g1:of.getD k 0=of[k]:=by simp[h1]
  have g2:of.getD (k-1) 0=of[k-1]:=by have:k-1<of.length:=by omega
                                      simp[this]
  by_cases h2:of.getD k 0=of.getD (k-1) 0
  .have q9:(of[k]=of[k-1])=True:=RA (by rw[<-g1,<-g2];exact h2);apply sR;simp only[go_sem,seval,f11,f4,f5,f6,cv0,sv0,cv1,sv1,cv2,sv2,ab XY,ab YL,ab TG,ab Xh,ab TR,q3,q4,q5,q6,q7,q8,q9,SD,ad,ae,af,al];exact fin _ _ (by simp only[cq];rw[aK ⟨h0,h1,h2⟩,g1])
  .have q9:(of[k]=of[k-1])=False:=H' (by rw[<-g1,<-g2];exact h2);apply sR;simp only[go_sem,seval,f11,f4,f5,f6,cv0,sv0,cv1,sv1,cv2,sv2,ab XY,ab YL,ab TG,ab Xh,ab TR,q3,q4,q5,q6,q7,q8,q9,SD,ad,ae,af,al];exact fin _ _ (by simp only[cq];rw[aM (λh=>h2 h.2.2)])
 .have q4:=qF h1;apply sR;simp only[go_sem,seval,f11,f4,f5,f6,cv0,sv0,cv1,sv1,cv2,sv2,ab XY,ab YL,ab TG,ab Xh,ab TR,q3,q4,SD,ad,ae,af,al];exact fin _ _ (by simp only[cq];rw[aM (λh=>h1 h.2.1)])
open Go.Proofs
def T9(l:List Nd)(b:Int):S1:=((l[b.toNat]?).map Nd.st).getD S1.zero
def ie(l:List Nd)(b:Int):List Int:=(if 0<(T9 l b).head then[2]else[])++[(T9 l b).before]
def zJ(l:List Nd)(x:Kn):List Int:=x.ends.map (λb=>(T9 l b).after)++x.TF.flatMap (ie l)
def fX{l:List Nd}{b:Nat}(h:b<l.length):T9 l b=l[b].st:=by simp[T9,h]
def B6(l:List Nd)(x:Kn)(hE:x.ends.length<=1000000)(hB:x.TF.length<=1000000)(he:∀b∈x.ends,∃n:Nat,b=n/\n<l.length)(hb:∀b∈x.TF,∃n:Nat,b=n/\n<l.length):
 Iter prog 237 [.rp (fV x),.rp (aQ l)] ((zJ l x).map λn=>[vI n]):=by
 refine⟨Nu.c,λSo τ Jx Z0 hy hJ=>?_⟩;refine(Nu.q ?_).2;obtain⟨E,B,C,tx⟩:=x;simp only at hE hB he hb;have hlE:=db E;have hlB:=db B;have ldI:∀(U:ak) (X:List Int),cQ U false 1 (.rp (aX X))=some (aX X):=λU X=>rfl;have ldN:∀U:ak,cQ U false 1 (.rp (aQ l))=some (aQ l):=λU=>rfl;generalize hT:(zJ l ⟨E,B,C,tx⟩).map (λn=>[vI n])=T at hy|-;refine mS 9 ?_;simp only[go_sem,seval,Nw,fV,ldI,hlE,ae,af];refine aq.kE (λst=>∃(ZJ:ak),τ ((E.map λb=>(T9 l b).after).map λn=>[vI n]) ZJ/\aa ZJ st.U/\st.s 0=.yl So/\st.s 1=.rp (fV ⟨E,B,C,tx⟩)/\st.s 2=.rp (aQ l))
  (λm st=>∃(j:Nat) (ZJ:ak),j<=E.length/\m=E.length-j/\τ (((E.take j).map λb=>(T9 l b).after).map λn=>[vI n]) ZJ/\aa ZJ st.U/\st.s 0=.yl So/\st.s 1=.rp (fV ⟨E,B,C,tx⟩)/\st.s 2=.rp (aQ l)/\st.s 10=aX E/\st.s 11=vI E.length/\st.s 12=vI j) E.length ?_ ?_ ?_
 .exact⟨0,Z0,by omega,rfl,by simpa using hJ,aa.refl _,rfl,rfl,rfl,rfl,rfl,rfl⟩
 .rintro m ⟨S,J⟩ ⟨j,ZJ,hj,rfl,Us,G',t0,t1,t2,t10,t11,t12⟩;simp only at G' t0 t1 t2 t10 t11 t12;refine aq.mix 9 ?_;by_cases u':j<E.length
  .have q:=qT u';have RF:=λU=>dp (U:=U) u';have Sd:E.take (j+1)=E.take j++[E[j]]:=U0 u';obtain⟨b,Wr,SX⟩:=he _ (Sx u');have e0':E=E.take j++E[j]::E.drop (j+1):=by rw[<-jM u',A8]
   have e:T=(((E.take j).map λb=>(T9 l b).after).map λn=>[vI n])++[vI l[b].st.after]::((((E.drop (j+1)).map λb=>(T9 l b).after)++B.flatMap (ie l)).map λn=>[vI n]):=by
    rw[<-hT,zJ]
    conv=>lhs;rw[e0']
    simp[Wr,fX SX]
   rw[Wr]at RF Sd;have SI:=λU=>bI (U:=U) (l:=l) (a:=b) SX;have r1:=rI j;apply sR;simp only[go_sem,seval,t0,t1,t2,t10,t11,t12,q,RF,ldN,SI,Nd.cells];refine aq.qq (Post:=λb' Z2=>∃Sp,bE ZJ J Sp Z2/\((b'=true/\τ ((((E.take j).map λb=>(T9 l b).after).map λn=>[vI n])++[[vI l[b].st.after]]) Sp)\/(b'=false/\Jx ((((E.take j).map λb=>(T9 l b).after).map λn=>[vI n])++[[vI l[b].st.after]]) Sp))) rfl rfl rfl (hy _ [vI l[b].st.after] _ ZJ J e Us G') ?_;rintro b' Z2 ⟨Sp,Uv,Ui⟩;rcases Ui with⟨rfl,Ui⟩|⟨rfl,Ui⟩
   .apply sR;simp only[go_sem,seval,t0,t1,t2,t10,t11,t12,r1];refine⟨_,?_,j+1,Sp,by omega,rfl,by rw[Sd];simpa[fX SX]using Ui,Uv.1,by simp[t0,t1,t2,t10,t11]⟩;omega
   .apply sR;simp only[go_sem,seval,t0,t1,t2,t10,t11,t12];exact⟨_,Sp,Uv.1,Wk.refl Uv.1 _,.inr ⟨_,⟨_,by rw[e,mR];rfl⟩,Ui⟩⟩
  .have q:=qF u';rw[pL (by omega)]at Us;apply sR;simp only[go_sem,seval,t0,t1,t2,t10,t11,t12,q];exact⟨ZJ,Us,G'⟩
 .rintro⟨S,J⟩ ⟨ZJ,Us,G',t0,t1,t2⟩;simp only at G' t0 t1 t2;generalize hP:((E.map λb=>(T9 l b).after).map λn=>[vI n])=P1 at*;refine mS 9 ?_;simp only[go_sem,seval,t0,t1,t2,fV,ldI,hlB,ae,af];refine aq.loop (λm st=>∃(j:Nat) (ZJ:ak),j<=B.length/\m=B.length-j/\τ (P1++((B.take j).flatMap (ie l)).map λn=>[vI n]) ZJ/\aa ZJ st.U/\st.s 0=.yl So/\st.s 2=.rp (aQ l)/\st.s 27=aX B/\st.s 28=vI B.length/\st.s 29=vI j) B.length ?_ ?_
  .exact⟨0,ZJ,by omega,rfl,by simpa using Us,G',t0,t2,rfl,rfl,rfl⟩
  .clear Us G' t0 t1 t2;rintro m ⟨S,J⟩ ⟨j,ZJ,hj,rfl,Us,G',t0,t2,t27,t28,t29⟩;simp only at G' t0 t2 t27 t28 t29;refine aq.mix 9 ?_;by_cases u':j<B.length
   .have q:=qT u';have RF:=λU=>dp (U:=U) u';have Sd:B.take (j+1)=B.take j++[B[j]]:=U0 u';obtain⟨b,Wr,SX⟩:=hb _ (Sx u');have e0':B=B.take j++B[j]::B.drop (j+1):=by rw[<-jM u',A8]
    have e:T=(P1++((B.take j).flatMap (ie l)).map λn=>[vI n])++((ie l b).map λn=>[vI n])++(((B.drop (j+1)).flatMap (ie l)).map λn=>[vI n]):=by
     rw[<-hT,zJ,eQ,hP]
     conv=>lhs;rw[e0']
     simp[Wr]
    rw[Wr]at RF Sd;have SI:=λU=>bI (U:=U) (l:=l) (a:=b) SX;have r1:=rI j;have hs:=aa.refl J;have htk2:(P1++((B.take (j+1)).flatMap (ie l)).map λn=>[vI n])=(P1++((B.take j).flatMap (ie l)).map λn=>[vI n])++((ie l b).map λn=>[vI n]):=by rw[Sd];simp
    generalize (P1++((B.take j).flatMap (ie l)).map λn=>[vI n])=P2 at*;have hbg:ie l b=(if 0<l[b].st.head then[2]else[])++[l[b].st.before]:=by rw[ie,fX SX]
    apply sR;simp only[go_sem,seval,t0,t2,t27,t28,t29,q,RF,ldN,SI,Nd.cells];refine aG hs λi8 Z8 s8 a8 f8 z8 hs=>?_;simp only[go_sem,seval,a8,t0,t2,t27,t28,t29,ldN,SI,Nd.cells];generalize Vf:C' _ i8 _=Y8;replace a8:=SR Vf;replace hs:=SL Vf hs z8;generalize ((B.drop (j+1)).flatMap (ie l)).map (λn=>[vI n])=R2 at*;refine⟨λh0=>?_,λh0=>?_⟩
    .have e1:T=P2++[vI 2]::([vI l[b].st.before]::R2):=by rw[e,hbg,aK h0];simp
     have e2:T=(P2++[[vI 2]])++[vI l[b].st.before]::R2:=by rw[e1];simp
     have e3:(P2++[[vI 2]])++[[vI l[b].st.before]]=P2++(ie l b).map λn=>[vI n]:=by rw[hbg,aK h0];simp
     have hsub8:aa ZJ Y8:=G'.trans hs;refine aq.qq (Post:=λb' Z2=>∃Sp,bE ZJ Y8 Sp Z2/\((b'=true/\τ (P2++[[vI 2]]) Sp)\/(b'=false/\Jx (P2++[[vI 2]]) Sp))) rfl rfl rfl (hy _ [vI 2] _ ZJ Y8 e1 Us hsub8) ?_;rintro b' Z2 ⟨Sp,Uv,Ui⟩;rcases Ui with⟨rfl,Ui⟩|⟨rfl,Ui⟩
     .have a8':=(Uv.2 i8 _ (G'.none z8) a8).1;apply sR;simp only[go_sem,seval,t0,t2,t27,t28,t29,a8'];refine aq.qq (Post:=λb' Z3=>∃ZJ3,bE Sp Z2 ZJ3 Z3/\((b'=true/\τ ((P2++[[vI 2]])++[[vI l[b].st.before]]) ZJ3)\/(b'=false/\Jx ((P2++[[vI 2]])++[[vI l[b].st.before]]) ZJ3))) rfl rfl rfl (hy _ [vI l[b].st.before] _ Sp Z2 e2 Ui Uv.1) ?_;rintro b3 Z3 ⟨ZJ3,ZG,WK⟩;rcases WK with⟨rfl,WK⟩|⟨rfl,WK⟩
      .apply sR;simp only[go_sem,seval,t0,t2,t27,t28,t29,r1];refine⟨_,?_,j+1,ZJ3,by omega,rfl,by rw[htk2,<-e3];exact WK,ZG.1,by simp[t0,t2,t27,t28]⟩;omega
      .apply sR;simp only[go_sem,seval,t0,t2,t27,t28,t29];exact⟨_,ZJ3,ZG.1,Wk.refl ZG.1 _,.inr ⟨_,⟨_,by rw[e2,mR];rfl⟩,WK⟩⟩
     .apply sR;simp only[go_sem,seval,t0,t2,t27,t28,t29];exact⟨_,Sp,Uv.1,Wk.refl Uv.1 _,.inr ⟨_,⟨_,by rw[e1,mR];rfl⟩,Ui⟩⟩
    .have e2:T=P2++[vI l[b].st.before]::R2:=by rw[e,hbg,aM (by omega)];simp
     have e3:P2++[[vI l[b].st.before]]=P2++(ie l b).map λn=>[vI n]:=by rw[hbg,aM (by omega)];simp
     have hsub8:aa ZJ Y8:=G'.trans hs;apply sR;simp only[go_sem,seval,t0,t2,t27,t28,t29,a8];refine aq.qq (Post:=λb' Z3=>∃ZJ3,bE ZJ Y8 ZJ3 Z3/\((b'=true/\τ (P2++[[vI l[b].st.before]]) ZJ3)\/(b'=false/\Jx (P2++[[vI l[b].st.before]]) ZJ3))) rfl rfl rfl (hy _ [vI l[b].st.before] _ ZJ Y8 e2 Us hsub8) ?_;rintro b3 Z3 ⟨ZJ3,ZG,WK⟩;rcases WK with⟨rfl,WK⟩|⟨rfl,WK⟩
     .apply sR;simp only[go_sem,seval,t0,t2,t27,t28,t29,r1];refine⟨_,?_,j+1,ZJ3,by omega,rfl,by rw[htk2,<-e3];exact WK,ZG.1,by simp[t0,t2,t27,t28]⟩;omega
     .apply sR;simp only[go_sem,seval,t0,t2,t27,t28,t29];exact⟨_,ZJ3,ZG.1,Wk.refl ZG.1 _,.inr ⟨_,⟨_,by rw[e2,mR];rfl⟩,WK⟩⟩
   .have q:=qF u';rw[pL (by omega),<-hP,<-eQ]at Us;apply sR;simp only[go_sem,seval,t0,t2,t27,t28,t29,q];exact⟨_,ZJ,G',Wk.refl G' _,.inl (hT▸Us)⟩
open Go.Proofs
def ox{l:List Nd}{of:List Int}(Sv:∀x∈of,0<=x/\x<l.length){k:Int}{p:Int->Bool}:∀b∈V8 l of k p,∃n:Nat,b=n/\n<l.length:=λb hb=>by
 unfold V8 at hb;split at hb
 .rename_i h;have u':k.toNat<of.length:=by omega
  have Vo:of.getD k.toNat 0=of[k.toNat]:=by simp[u']
  rw[Vo]at hb;obtain⟨h0,h1⟩:=Sv _ (Sx u');obtain⟨n,rfl,hn⟩:=yw (l:=l) (a:=of[k.toNat].toNat) (by omega) b (xz.1 hb).1;exact⟨n,rfl,by omega⟩
 .cases hb
def lh{l:List Nd}(hn:l.length<=100000){of:List Int}{k:Int}{p:Int->Bool}:(V8 l of k p).length<=100001:=by
 unfold V8;split
 .have h1:=List.length_filter_le p (Xe l (of.getD k.toNat 0).toNat);have h2:=kD l (l.length+1) (cS l (of.getD k.toNat 0).toNat);have h3:(Xe l (of.getD k.toNat 0).toNat).length<=l.length+1:=h2;omega
 .simp
def AJ(l:List Nd)(b:Int):(ie l b).length<=2:=by unfold ie;split<;>simp
def vw{α β:Type}(f:α->List β)(hf:∀a,(f a).length<=2):∀L:List α,(L.flatMap f).length<=2*L.length
 |[]=>by simp
 |a::L=>by
  rw[xZ,kI,TI];have:=vw f hf L;have:=hf a;omega
def gY(l:List Nd)(of:List Int)(k:Nat):List Int:=if k=of.length then[]else zJ l (cq l of k)
def A1{l:List Nd}(hn:l.length<=100000)(of:List Int)(k:Nat):(zJ l (cq l of k)).length<=1000000:=by
 unfold zJ;rw[kI,dC];have h1:=vw (ie l) (AJ l) (cq l of k).TF;have h2:(cq l of k).ends.length<=100001:=lh hn;have h3:(cq l of k).TF.length<=100001:=by
  rw[cq,List.length_reverse];exact lh hn
 omega
def Gu(l:List Nd)(x:Kn):aV prog 212 [aQ l,fV x] (.fn 237 [.rp (fV x),.rp (aQ l)]):=λU=>by
 refine Qd.q ?_;refine aq.mix 4 ?_;have q1:=ad l;have q2:=al l;generalize aQ l=y at*;obtain⟨E,B,C,tx⟩:=x;simp only[fV];apply sR;simp only[go_sem,seval,MC,q1,q2,ae,af];refine aD λVz Z1 s1 a1 f1=>?_;simp only[go_sem,seval,q1,q2,ae,af];refine aD λWY Z2 s2 a2 f2=>?_;simp only[go_sem,seval];exact⟨_,U,s1.trans s2,Wk.fn (vs':=[.rp (.agg [aX E,aX B,aX C,vI tx]),.rp y]) ⟨Wk.ptr (s1.trans s2) a2 (s1.none f2),Wk.ptr (s1.trans s2) (s2 _ _ a1) f1,trivial⟩,rfl,rfl⟩
def Cq(l:List Nd)(hl:dq l)(hb:Sc l=true)(of:List Int)(SB:of.length<=1000000)(Sv:∀x∈of,0<=x/\x<l.length)(hm:qC l of=true)(k:Nat)(hk:k<=of.length):
 aV prog 183 [aQ l,aX of,vI k] (.RM [aX (gY l of k),vI 0]):=λU=>by
 refine PQ.q ?_;have hs:=aa.refl U;have SD:=db of;have hn:l.length<=100000:=by have:=hl.1;omega
 refine mS 10 ?_;simp only[go_sem,seval,LM];refine pS rfl (C2 l hl hb of SB Sv hm k hk _) ?_;simp only[go_sem,seval,fV];refine aG hs λi8 Z8 s8 a8 f8 z8 hs=>?_;have q0:((0:Int)≠0)=False:=H' (λh=>h rfl);by_cases YR:k=of.length
 .have q1:((k:Int)=of.length)=True:=RA;simp only[go_sem,seval,a8,SD,q0,q1,fV,ae,af];rw[gY,aK YR];have RR:=hs.aL (o:=⟨240,4,[fV (cq l of k)]⟩) z8;exact⟨_,U,RR,Wk.RM (vs':=[aX [],vI 0]) ⟨(aP.start (e:=3)).wk (aa.refl _) RR,Wk.refl RR _,trivial⟩,rfl,rfl⟩
 .have q1:((k:Int)=of.length)=False:=H';simp only[go_sem,seval,a8,SD,q0,q1,fV,ae,af];refine pS rfl (Gu l (cq l of k) _) ?_;simp only[go_sem,seval];have WI:=A1 hn of k;have Yc:=B6 l (cq l of k) (l9 (lh hn) (by omega)) (by rw[cq,List.length_reverse];exact l9 (lh hn) (by omega)) (ox Sv) (λb hb=>ox Sv b (Hg.1 hb));refine pS rfl (xg Yc WI _) ?_;simp only[go_sem,seval];rw[gY,aM YR];have RR:=hs.aL (o:=⟨240,4,[fV (cq l of k)]⟩) z8;exact⟨_,U,RR,Wk.refl RR _,rfl,rfl⟩
open Go.Proofs
def mD(out n:Int)(Xi:Bool):Int:=if Xi=true\/out=0 then n else out
def j1(out n:Int):Int:=if n=3\/n=4 then mD out n true else if n=2 then mD out n false else out
def cL(all:List Int):Int:=all.foldl j1 0
def yy(n:Int)(Xi:Bool)(out:Int){U:ak}{i3:Nat}(h:U i3=some ⟨3,1,[vI out]⟩):
 aB prog 213 [vI n,.bool Xi,.ptr i3 0 0] U λ_ Z'=>Z' i3=some ⟨3,1,[vI (mD out n Xi)]⟩/\∀i,i≠i3->Z' i=U i:=by
 refine QK.q ?_;refine aq.mix 5 ?_;have fin:∀J:ak,J i3=some ⟨3,1,[vI (mD out n Xi)]⟩->(∀i,i≠i3->J i=U i)->az (.RM []) J λ_ Z'=>Z' i3=some ⟨3,1,[vI (mD out n Xi)]⟩/\∀i,i≠i3->Z' i=U i:=λJ h1 h2=>
  ⟨_,J,aa.refl _,Wk.refl (aa.refl _) _,h1,h2⟩
 by_cases h0:Xi=true\/out=0
 .have ht:mD out n Xi=n:=aK h0;rw[ht]at fin|-;cases Xi
  .have q:(out=0)=True:=RA (by simpa using h0);apply sR;simp only[go_sem,seval,Hw,h,q];exact fin _ av λi hi=>ab hi
  .apply sR;simp only[go_sem,seval,Hw,h];exact fin _ av λi hi=>ab hi
 .have ht:mD out n Xi=out:=aM h0;rw[ht]at fin|-;simp only[not_or,Bool.not_eq_true]at h0;obtain⟨rfl,h0⟩:=h0;have q:(out=0)=False:=H' h0;apply sR;simp only[go_sem,seval,Hw,h,q];exact fin _ h λi hi=>rfl
def EP(all:List Int)(WI:all.length<=1000000):aV prog 184 [aX all] (vI (cL all)):=λU=>by
 refine Qz.q ?_;have hs:=aa.refl U;have TZ:=db all;refine mS 8 ?_;simp only[go_sem,seval,NA];refine aG hs λi3 Z3 s3 a3 f3 z3 hs=>?_;simp only[go_sem,seval,a3,TZ];generalize hq3:C' _ i3 _=X3;replace a3:=SR hq3;replace hs:=SL hq3 hs z3;refine aq.kE (λst=>st.U i3=some ⟨3,1,[vI (cL all)]⟩/\aa U st.U/\st.s 3=.ptr i3 0 0)
  (λm st=>∃j:Nat,j<=all.length/\m=all.length-j/\st.U i3=some ⟨3,1,[vI (cL (all.take j))]⟩/\aa U st.U/\st.s 3=.ptr i3 0 0/\st.s 4=.fn 213 [.ptr i3 0 0]/\st.s 9=aX all/\st.s 10=vI all.length/\st.s 11=vI j) all.length ?_ ?_ ?_
 .exact⟨0,by omega,rfl,a3,hs,rfl,rfl,rfl,rfl,rfl⟩
 .clear a3 hs;rintro m ⟨S,J⟩ ⟨j,hj,rfl,b3,hs,t3,t4,t9,t10,t11⟩;simp only at b3 hs t3 t4 t9 t10 t11;refine aq.mix 8 ?_;by_cases u':j<all.length
  .have q:=qT u';have RF:=λU=>dp (U:=U) u';have Sd:cL (all.take (j+1))=j1 (cL (all.take j)) all[j]:=by
    rw[cL,U0 u',nT];rfl
   have r1:=rI j;generalize all[j]=n at*;have sub2:∀{ρ:ak} {o:Ob},ρ i3=some o->(∀i,i≠i3->ρ i=J i)->aa U ρ:=λ{ρ o} h1 h2 i x hx=>by
    rw[h2 i (λe=>by rw[e,z3]at hx;cases hx)];exact hs _ _ hx
   by_cases h3:n=3
   .have q3:(n=3)=True:=RA h3;have RR:mD (cL (all.take j)) n true=j1 (cL (all.take j)) n:=by rw[j1,aK (.inl h3)]
    apply sR;simp only[go_sem,seval,t3,t4,t9,t10,t11,q,q3,RF];refine Tx rfl (yy n true (cL (all.take j)) b3) ?_;rintro-ρ ⟨g1,g2⟩;apply sR;simp only[go_sem,seval,t3,t4,t9,t10,t11,r1];refine⟨_,?_,j+1,by omega,rfl,by rw[Sd];exact RR▸g1,sub2 g1 g2,by simp[t3,t4,t9,t10]⟩;omega
   .have q3:(n=3)=False:=H' h3;by_cases h4:n=4
    .have q4:(n=4)=True:=RA h4;have RR:mD (cL (all.take j)) n true=j1 (cL (all.take j)) n:=by rw[j1,aK (.inr h4)]
     apply sR;simp only[go_sem,seval,t3,t4,t9,t10,t11,q,q3,q4,RF];refine Tx rfl (yy n true (cL (all.take j)) b3) ?_;rintro-ρ ⟨g1,g2⟩;apply sR;simp only[go_sem,seval,t3,t4,t9,t10,t11,r1];refine⟨_,?_,j+1,by omega,rfl,by rw[Sd];exact RR▸g1,sub2 g1 g2,by simp[t3,t4,t9,t10]⟩;omega
    .have q4:(n=4)=False:=H' h4;by_cases h2:n=2
     .have q2:(n=2)=True:=RA h2;have RR:mD (cL (all.take j)) n false=j1 (cL (all.take j)) n:=by rw[j1,aM (by simp[h3,h4]),aK h2]
      apply sR;simp only[go_sem,seval,t3,t4,t9,t10,t11,q,q3,q4,q2,RF];refine Tx rfl (yy n false (cL (all.take j)) b3) ?_;rintro-ρ ⟨g1,g2⟩;apply sR;simp only[go_sem,seval,t3,t4,t9,t10,t11,r1];refine⟨_,?_,j+1,by omega,rfl,by rw[Sd];exact RR▸g1,sub2 g1 g2,by simp[t3,t4,t9,t10]⟩;omega
     .have q2:(n=2)=False:=H' h2;have RR:cL (all.take j)=j1 (cL (all.take j)) n:=by rw[j1,aM (by simp[h3,h4]),aM h2]
      apply sR;simp only[go_sem,seval,t3,t4,t9,t10,t11,q,q3,q4,q2,r1,RF];refine⟨_,?_,j+1,by omega,rfl,by rw[Sd,<-RR];exact b3,hs,by simp[t3,t4,t9,t10]⟩;omega
  .have q:=qF u';rw[pL (by omega)]at b3;apply sR;simp only[go_sem,seval,t3,t4,t9,t10,t11,q];exact⟨b3,hs⟩
 .rintro⟨S,J⟩ ⟨b3,hs,t3⟩;simp only at b3 hs t3;refine mS 8 ?_;simp only[go_sem,seval,t3,b3];exact⟨_,U,hs,Wk.refl hs _,rfl,rfl⟩
open Go.Proofs
def iO(l:List Nd)(of:List Int)(k:Nat):Int:=cL (gY l of k)
def mz{l:List Nd}(hn:l.length<=100000)(of:List Int)(k:Nat):(gY l of k).length<=1000000:=by
 unfold gY;split
 .simp
 .exact A1 hn of k
def Lt(l:List Nd)(hl:dq l)(hb:Sc l=true)(of:List Int)(SB:of.length<=1000000)(Sv:∀x∈of,0<=x/\x<l.length)(hm:qC l of=true)(k:Nat)(hk:k<=of.length):
 aV prog 151 [aQ l,aX of,vI k] (.RM [vI (iO l of k),vI 0]):=λU=>by
 refine PW.q ?_;have hs:=aa.refl U;have hn:l.length<=100000:=by have:=hl.1;omega
 refine mS 11 ?_;simp only[go_sem,seval,Nv];refine pS rfl (Cq l hl hb of SB Sv hm k hk _) ?_;simp only[go_sem,seval];refine pS rfl (EP _ (mz hn of k) _) ?_;simp only[go_sem,seval];exact az.pure hs rfl
def rM(l:List Nd)(of:List Int):List Int:=(List.range (of.length+1)).map (iO l of)
def J1(l:List Nd)(hl:dq l)(hb:Sc l=true)(of:List Int)(SB:of.length<=1000000)(Sv:∀x∈of,0<=x/\x<l.length)(hm:qC l of=true):
 aV prog 116 [aQ l,aX of] (.RM [aX (rM l of),vI 0]):=λU=>by
 refine Ri.q ?_;have hs:=aa.refl U;have SD:=db of;refine mS 11 ?_;simp only[go_sem,seval,ML];refine pR rfl (qx l hl hb of SB hm _) ?_;have q0:((0:Int)≠0)=False:=H' (λh=>h rfl);have r0:R0 .i64 ((of.length:Int)+1):=ao;apply sR;simp only[go_sem,seval,q0,SD,r0];refine aq.kE (λst=>aa U st.U/\aP U st.U 3 1 (st.s 7) ((rM l of).map vI))
  (λm st=>∃j:Nat,j<=of.length+1/\m=of.length+1-j/\aa U st.U/\aP U st.U 3 1 (st.s 7) (((List.range j).map (iO l of)).map vI)/\st.s 0=aQ l/\st.s 1=aX of/\st.s 19=vI ((of.length:Int)+1)/\st.s 20=vI j) (of.length+1) ?_ ?_ ?_
 .exact⟨0,by omega,rfl,hs,aP.start,rfl,rfl,rfl,rfl⟩
 .clear hs;rintro m ⟨S,J⟩ ⟨j,hj,rfl,hs,ho,t0,t1,t19,t20⟩;simp only at hs ho t0 t1 t19 t20;generalize TX:S 7=v7 at ho;refine aq.mix 11 ?_;by_cases u':j<of.length+1
  .have q:((j:Int)<of.length+1)=True:=RA;have r1:=rI j;have Sa:(((List.range (j+1)).map (iO l of)).map vI)=(((List.range j).map (iO l of)).map vI)++[vI (iO l of j)]:=by
    rw[List.range_succ];simp
   have Uh:(((List.range j).map (iO l of)).map vI).length=j:=by simp
   apply sR;simp only[go_sem,seval,t0,t1,t19,t20,q];refine pR rfl (Lt l hl hb of SB Sv hm j (by omega) _) ?_;generalize ((List.range j).map (iO l of)).map vI=rows at*;apply sR;simp only[go_sem,seval,t0,t1,t19,t20,TX];refine aD λi32 Z32 s32 a32 f32=>?_;obtain⟨idA,SE,RO,TW,VY⟩:=ho.nM s32;have Sh:(rows.length+1)*9<=140737488355328:=by omega
   simp only[go_sem,seval,t0,t1,t19,t20,TX,SE,bN a32,Sh];refine bk λi33 Z33 s33 a33 f33=>?_;have k33:=(RO U (aa.refl _) Z32 (hs.trans s32)).trans s33;have n33:U i33=none:=(hs.trans s32).none f33;simp only[go_sem,seval,t0,t1,t19,t20,r1];refine⟨_,?_,j+1,by omega,rfl,k33,?_,by simp[t0,t1,t19]⟩
   .omega
   .rw[Sa];exact aP.new (by simp) a33 n33
  .have q:((j:Int)<of.length+1)=False:=H';have TT:j=of.length+1:=by omega
   subst TT;apply sR;simp only[go_sem,seval,t0,t1,t19,t20,q];exact⟨hs,TX▸ho⟩
 .rintro⟨S,J⟩ ⟨hs,ho⟩;simp only at hs ho;generalize TX:S 7=v7 at ho;refine mS 11 ?_;simp only[go_sem,seval,TX];exact⟨_,U,hs,Wk.RM (vs':=[aX (rM l of),vI 0]) ⟨ho.wk (aa.refl _) hs,Wk.refl hs _,trivial⟩,rfl,rfl⟩
open Go.Proofs
def jP(l:List Nd)(of:List Int)(k:Int)(x:Kn):V:=.agg [aX x.ends,aX x.TF,aX x.both,vI x.text,aQ l,aX of,vI k]
def JY(l:List Nd)(hl:dq l)(hb:Sc l=true)(of:List Int)(SB:of.length<=1000000)(Sv:∀x∈of,0<=x/\x<l.length)(hm:qC l of=true)(k:Nat)(hk:k<=of.length):
 aV prog 185 [aQ l,aX of,vI k] (.RM [jP l of k (cq l of k),vI 0]):=λU=>by
 refine P8.q ?_;have hs:=aa.refl U;refine mS 10 ?_;simp only[go_sem,seval,N1];refine aG hs λi6 Z6 s6 a6 f6 z6 hs=>?_;simp only[go_sem,seval];refine pS rfl (C2 l hl hb of SB Sv hm k hk _) ?_;simp only[go_sem,seval,fV];refine aG hs λi8 Z8 s8 a8 f8 z8 hs=>?_;obtain⟨VU,a6⟩:=RC a6 f8 s8;simp only[go_sem,seval,a8,a6,ab VU,fV,ad,ae,af,al];exact az.pure ((hs.aL z8).aL z6) rfl
def GS:aV prog 214 [] (.agg [vI 0,vI 0,vI 0,vI 0,vI 0,vI 2,vI 2,vI 0,vI 0,vI 0,vI 0,vI 0]):=λU=>by
 refine OQ.q ?_;apply sR;simp only[go_sem,seval,LU];refine aD λXl Z0 s0 a0 f0=>?_;simp only[go_sem,seval,a0];exact .pure (s0.aL f0) rfl
def sQ(a:Int):List Int->Nat->Int
 |[],_=>-1
 |q::r,i=>if q=a then i else sQ a r (i+1)
def Ei{a:Int}{p:List Int}{i:Nat}(h:i<p.length):sQ a (p.drop i) i=if p[i]=a then(i:Int)else sQ a (p.drop (i+1)) (i+1):=by
 rw[jM h,sQ]
def y3(a:Int):∀(p:List Int) (i:Nat),sQ a p i>=0↔a∈p
 |[],_=>by simp[sQ]
 |q::r,i=>by
  rw[sQ];split
  .rename_i h;subst h;simp
  .rename_i h;rw[y3 a r (i+1),dZ];constructor
   .exact .inr
   .rintro(rfl|h2)
    .exact absurd rfl h
    .exact h2
def Gj(p:List Int)(hp:p.length<=1000000000)(a:Int):aV prog 238 [aX p,vI a] (vI (sQ a p 0)):=λU=>by
 refine Qj.q ?_;have hlp:=db p;refine mS 9 ?_;simp only[go_sem,seval,Np,hlp];refine aq.loop (λm st=>∃(i:Nat),i<=p.length/\m=p.length-i/\sQ a p 0=sQ a (p.drop i) i/\st.U=U/\st.s 0=aX p/\st.s 1=vI a/\st.s 7=vI p.length/\st.s 8=vI i) p.length ?_ ?_
 .exact⟨0,by omega,rfl,rfl,rfl,rfl,rfl,rfl,rfl⟩
 .rintro m ⟨s,Z'⟩ ⟨i,hi,rfl,heq,R8,h0,h1,h7,h8⟩;simp only at R8 h0 h1 h7 h8;subst R8;refine aq.mix 9 ?_;by_cases u':i<p.length
  .have q:=qT u';have hd:=Ei (a:=a) u';have RF:=λU=>dp (U:=U) u';have r1:=rI i;by_cases hc:p[i]=a
   .have q1:(a=p[i])=True:=RA hc.symm;apply sR;simp only[go_sem,seval,h0,h1,h7,h8,q,RF,q1];refine az.same ?_;rw[heq,hd,aK hc]
   .have q1:(a=p[i])=False:=H' (λh=>hc h.symm);apply sR;simp only[go_sem,seval,h0,h1,h7,h8,q,RF,q1,r1];refine⟨_,?_,i+1,by omega,rfl,?_,by simp[h0,h1,h7]⟩
    .omega
    .rw[heq,hd,aM hc]
  .have q:=qF u';have Uf:i=p.length:=by omega
   apply sR;simp only[go_sem,seval,h0,h1,h7,h8,q];refine az.same ?_;rw[heq,Uf,vU];rfl
def zk(p:List Int)(hp:p.length<=1000000000)(a:Int):aV prog 218 [aX p,vI a] (.bool (decide (a∈p))):=λU=>by
 refine Pt.q ?_;apply sR;simp only[go_sem,seval,Nf];refine pR rfl (Gj p hp a _) ?_;have h:=y3 a p 0;by_cases ha:a∈p
 .have q:(sQ a p 0>=0)=True:=RA (h.2 ha);apply sR;simp only[go_sem,seval,q];exact az.same (by simp[ha])
 .have q:(sQ a p 0>=0)=False:=H' (λhh=>ha (h.1 hh));apply sR;simp only[go_sem,seval,q];exact az.same (by simp[ha])
open Go.Proofs
def fz(of:List Int)(t:Int)(k:Nat):Nat->Nat×Nat
 |0=>(0,0)
 |j+1=>if of.getD j 0=t then if j<k then((fz of t k j).1+1,(fz of t k j).2)else((fz of t k j).1,(fz of t k j).2+1)else fz of t k j
def jE(of:List Int)(t:Int)(k:Nat):Nat×Nat:=if t<0 then(0,0)else fz of t k of.length
def tA(of:List Int)(t:Int)(k:Nat):∀j,(fz of t k j).1<=j/\(fz of t k j).2<=j
 |0=>by simp[fz]
 |j+1=>by
  have:=tA of t k j;rw[fz];split
  .split<;>simp only<;>omega
  .omega
def EI(l:List Nd)(of:List Int)(SB:of.length<=1000000)(k:Nat)(x:Kn):
 aV prog 216 [jP l of k x] (.RM [vI (jE of x.text k).1,vI (jE of x.text k).2]):=λU=>by
 refine Rl.q ?_;have hs:=aa.refl U;have SD:=db of;obtain⟨E,B,C,t⟩:=x;simp only;refine mS 6 ?_;simp only[go_sem,seval,Mb,jP,ad,ae,af,al];refine aG hs λi1 Z1 s1 a1 f1 z1 hs=>?_;unfold jE;by_cases ht:t<0
 .have q:(t<0)=True:=RA ht;simp only[go_sem,seval,a1,q,ad,ae,af,al];exact az.pure hs (by simp[ht])
 have q:(t<0)=False:=H' ht;rw[aM ht];simp only[go_sem,seval,a1,q,SD,ad,ae,af,al];refine aq.loop (λm st=>∃j:Nat,j<=of.length/\m=of.length-j/\st.U=Z1/\st.s 1=.ptr i1 0 0/\st.s 2=vI (fz of t k j).1/\st.s 3=vI (fz of t k j).2/\st.s 11=aX of/\st.s 12=vI of.length/\st.s 13=vI j) of.length ?_ ?_
 .exact⟨0,by omega,rfl,rfl,rfl,rfl,rfl,rfl,rfl,rfl⟩
 .rintro m ⟨S,J⟩ ⟨j,hj,rfl,R8,t1,t2,t3,t11,t12,t13⟩;simp only at R8 t1 t2 t3 t11 t12 t13;subst R8;refine aq.mix 6 ?_;by_cases u':j<of.length
  .have q0:=qT u';have r1:=rI j;have RF:=λU=>dp (U:=U) u';have Vo:of.getD j 0=of[j]:=by simp[u']
   have hle:=tA of t k j;have RR:fz of t k (j+1)=if of[j]=t then if j<k then((fz of t k j).1+1,(fz of t k j).2)else((fz of t k j).1,(fz of t k j).2+1)else fz of t k j:=by rw[fz,Vo]
   have r2:R0 .i64 (((fz of t k j).1:Int)+1):=ao;have r3:R0 .i64 (((fz of t k j).2:Int)+1):=ao;by_cases hn:of[j]=t
   .have q1:(of[j]≠t)=False:=H' (λh=>h hn);rw[aK hn]at RR;by_cases hk:j<k
    .have q2:((j:Int)<k)=True:=RA;rw[aK hk]at RR;apply sR;simp only[go_sem,seval,t1,t2,t3,t11,t12,t13,a1,q0,q1,q2,r1,r2,RF,ad,ae,af,al];refine⟨_,?_,j+1,by omega,rfl,by rw[RR];simp[t1,t2,t3,t11,t12]⟩;omega
    .have q2:((j:Int)<k)=False:=H';rw[aM hk]at RR;apply sR;simp only[go_sem,seval,t1,t2,t3,t11,t12,t13,a1,q0,q1,q2,r1,r3,RF,ad,ae,af,al];refine⟨_,?_,j+1,by omega,rfl,by rw[RR];simp[t1,t2,t3,t11,t12]⟩;omega
   .have q1:(of[j]≠t)=True:=RA hn;rw[aM hn]at RR;apply sR;simp only[go_sem,seval,t1,t2,t3,t11,t12,t13,a1,q0,q1,r1,RF,ad,ae,af,al];refine⟨_,?_,j+1,by omega,rfl,by rw[RR];simp[t1,t2,t3,t11,t12]⟩;omega
  .have q0:=qF u';have TT:j=of.length:=by omega
   apply sR;simp only[go_sem,seval,t1,t2,t3,t11,t12,t13,q0];exact az.pure hs (by rw[TT])
open Go.Proofs
def oY:S1:=⟨0,0,0,0,0,2,2,0,0,0,0,0⟩
def jD(l:List Nd)(t:Int):S1:=if 0<=cS l t.toNat then T9 l (cS l t.toNat)else oY
def Dl(l:List Nd)(of:List Int)(t:Int)(k:Nat):Bool:=if t<0 then false else decide (((jE of t k).1:Int)<(jD l t).RL\/((jE of t k).2:Int)<(jD l t).RY)
def K8(l:List Nd)(hl:dq l)(hb:Sc l=true)(of:List Int)(SB:of.length<=1000000)(k:Nat)(x:Kn)(hx:x.text<l.length):
 aV prog 186 [jP l of k x] (.bool (Dl l of x.text k)):=λU=>by
 refine PB.q ?_;have hs:=aa.refl U;have YM:=λx=>EI l of SB k x;obtain⟨E,B,C,t⟩:=x;simp only at hx|-;refine mS 7 ?_;simp only[go_sem,seval,Ny,jP,ad,ae,af,al];refine aG hs λi1 Z1 s1 a1 f1 z1 hs=>?_;unfold Dl;by_cases ht:t<0
 .have q:(t<0)=True:=RA ht;simp only[go_sem,seval,a1,q,ad,ae,af,al];exact az.pure hs (by simp[ht])
 have q:(t<0)=False:=H' ht;rw[aM ht];obtain⟨a,rfl⟩:∃a:Nat,t=a:=⟨t.toNat,by omega⟩
 simp only[go_sem,seval,a1,q,ad,ae,af,al];refine pS rfl (GS _) ?_;simp only[go_sem,seval];refine aG hs λi3 Z3 s3 a3 f3 z3 hs=>?_;obtain⟨XM,a1⟩:=RC a1 f3 s3;simp only[go_sem,seval,a3,a1,ab XM,ad,ae,af,al];generalize hq3:C' _ i3 _=X3;replace a3:=SR hq3;replace a1:=R6 hq3 XM a1;replace hs:=SL hq3 hs z3;refine pR rfl (BW l hl hb a (by omega) _) ?_;have hpr:=dR l a;have UM:jD l (a:Int)=if 0<=cS l a then T9 l (cS l a)else oY:=by simp[jD]
 rw[UM];by_cases hp:0<=cS l a
 .have q0:(cS l a>=0)=True:=RA hp;obtain⟨b,Wr⟩:∃b:Nat,cS l a=b:=⟨(cS l a).toNat,by omega⟩
  rw[aK hp];rw[Wr]at q0 hpr|-;have SX:b<l.length:=by omega
  have SI:=λU=>bI (U:=U) (l:=l) (a:=b) SX;rw[fX SX];apply sR;simp only[go_sem,seval,a1,a3,q0,SI,Nd.cells,ab XM,ad,ae,af,al];generalize XV:C' X3 i3 _=Y4;have b3:Y4 i3=some ⟨56,12,[kF l[b].st]⟩:=by rw[<-XV];exact av
  replace hs:aa U Y4:=by rw[<-XV];exact hs.aL z3
  clear XV;generalize l[b].st=st at*;rw[kF]at b3;refine pR rfl (YM ⟨E,B,C,a⟩ _) ?_;generalize jE of (a:Int) k=L at*;obtain⟨L1,L2⟩:=L;simp only;by_cases h1:(L1:Int)<st.RL
  .have q1:((L1:Int)<st.RL)=True:=RA h1;apply sR;simp only[go_sem,seval,b3,q1,ad,ae,af,al];exact az.pure hs (by simp[h1])
  .have q1:((L1:Int)<st.RL)=False:=H' h1;by_cases h2:(L2:Int)<st.RY
   .have q2:((L2:Int)<st.RY)=True:=RA h2;apply sR;simp only[go_sem,seval,b3,q1,q2,ad,ae,af,al];exact az.pure hs (by simp[h2])
   .have q2:((L2:Int)<st.RY)=False:=H' h2;apply sR;simp only[go_sem,seval,b3,q1,q2,ad,ae,af,al];exact az.pure hs (by simp[h1,h2])
 .have q0:(cS l a>=0)=False:=H' hp;rw[aM hp];apply sR;simp only[go_sem,seval,a1,a3,q0,ab XM,ad,ae,af,al];have b3:X3 i3=some ⟨56,12,[kF oY]⟩:=a3;generalize oY=st at*;rw[kF]at b3;refine pR rfl (YM ⟨E,B,C,a⟩ _) ?_;generalize jE of (a:Int) k=L at*;obtain⟨L1,L2⟩:=L;simp only;by_cases h1:(L1:Int)<st.RL
  .have q1:((L1:Int)<st.RL)=True:=RA h1;apply sR;simp only[go_sem,seval,b3,q1,ad,ae,af,al];exact az.pure hs (by simp[h1])
  .have q1:((L1:Int)<st.RL)=False:=H' h1;by_cases h2:(L2:Int)<st.RY
   .have q2:((L2:Int)<st.RY)=True:=RA h2;apply sR;simp only[go_sem,seval,b3,q1,q2,ad,ae,af,al];exact az.pure hs (by simp[h2])
   .have q2:((L2:Int)<st.RY)=False:=H' h2;apply sR;simp only[go_sem,seval,b3,q1,q2,ad,ae,af,al];exact az.pure hs (by simp[h1,h2])
open Go.Proofs
def pH(l:List Nd)(x:Kn):Bool:=x.both.any λb=>decide ((T9 l b).inside=1)
def BM(l:List Nd)(of:List Int)(k:Nat)(x:Kn){U:ak}{i1:Nat}(h:U i1=some ⟨257,7,[jP l of k x]⟩)(n:Nat)(hn:n<l.length):
 aB prog 217 [vI n,.ptr i1 0 0] U λr Z'=>r=.bool (decide ((T9 l n).inside=1))/\Z'=U:=by
 refine QX.q ?_;refine aq.mix 4 ?_;have SI:=λU=>bI (U:=U) (l:=l) (a:=n) hn;rw[fX hn];rw[jP]at h;by_cases hi:l[n].st.inside=1
 .have q:(l[n].st.inside=1)=True:=RA hi;apply sR;simp only[go_sem,seval,JP,h,SI,Nd.cells,q,ad,ae];exact az.same (by simp[hi])
 .have q:(l[n].st.inside=1)=False:=H' hi;apply sR;simp only[go_sem,seval,JP,h,SI,Nd.cells,q,ad,ae];exact az.same (by simp[hi])
def Eh(l:List Nd)(of:List Int)(k:Nat)(x:Kn)(hx:∀b∈x.both,∃n:Nat,b=n/\n<l.length)(hlen:x.both.length<=1000000):
 aV prog 187 [jP l of k x] (.bool (pH l x)):=λU=>by
 refine PS.q ?_;have hs:=aa.refl U;refine mS 3 ?_;simp only[go_sem,seval,MW,jP,ad,ae,af,al];refine aG hs λi1 Z1 s1 a1 f1 z1 hs=>?_;simp only[go_sem,seval,a1,ad,ae,af,al];refine pR rfl (nJ (p:=λb=>decide ((T9 l b).inside=1)) Reads.ints (by omega) (λb hb=>by
  obtain⟨n,rfl,hn⟩:=hx b hb;exact BM l of k x a1 n hn)) ?_
 apply sR;simp only[go_sem,seval];exact az.pure hs rfl
def BO(l:List Nd)(hl:dq l)(hb:Sc l=true)(of:List Int)(SB:of.length<=1000000)(Sv:∀x∈of,0<=x/\x<l.length)(hm:qC l of=true)(k:Nat)(hk:k<=of.length)(x:Kn):
 aV prog 188 [jP l of k x] (.bool (decide (1∈gY l of k))):=λU=>by
 refine QD.q ?_;have hs:=aa.refl U;have hn:l.length<=100000:=by have:=hl.1;omega
 refine mS 5 ?_;simp only[go_sem,seval,Ly,jP,ad,ae,af,al];refine aG hs λi1 Z1 s1 a1 f1 z1 hs=>?_;simp only[go_sem,seval,a1,ad,ae,af,al];refine pS rfl (Cq l hl hb of SB Sv hm k hk _) ?_;simp only[go_sem,seval];refine pS rfl (zk _ (by have:=mz hn of k;omega) 1 _) ?_;simp only[go_sem,seval];exact az.pure hs rfl
open Go.Proofs
def Al(s:Int)(j:Nat)(b:Bool):Int:=if b then s+2^j else s
def kN(l:List Nd)(of:List Int)(k:Nat):Nat->Bool
 |0=>Dl l of (cq l of k).text k
 |1=>pH l (cq l of k)
 |_=>decide (1∈gY l of k)
def dH(l:List Nd)(of:List Int)(k:Nat):Nat->Int
 |0=>0
 |j+1=>Al (dH l of k j) j (kN l of k j)
def mo(l:List Nd)(of:List Int)(k:Nat):Int:=if k=0\/k=of.length then 0 else dH l of k 3
def yX{l:List Nd}{of:List Int}(Sv:∀x∈of,0<=x/\x<l.length)(k:Nat):(cq l of k).text<l.length:=by
 rw[cq];simp only;split
 .rename_i h;have Vo:of.getD k 0=of[k]'h.2.1:=by simp[h.2.1]
  rw[Vo];exact(Sv _ (Sx h.2.1)).2
 .omega
def On(l:List Nd)(hl:dq l)(hb:Sc l=true)(of:List Int)(SB:of.length<=1000000)(Sv:∀x∈of,0<=x/\x<l.length)(hm:qC l of=true)(k:Nat)(hk:k<=of.length):
 aV prog 152 [aQ l,aX of,vI k] (.RM [vI (mo l of k),vI 0]):=λU=>by
 refine Rb.q ?_;have hs:=aa.refl U;have SD:=db of;have hn:l.length<=100000:=by have:=hl.1;omega
 have U5:∀(f:FuncId) (a:List V),(V.bm f a).cells=[.bm f a]:=λ_ _=>rfl;have Sh:∀f:FuncId,(V.bm f [.agg [aX (cq l of k).ends,aX (cq l of k).TF,aX (cq l of k).both,vI (cq l of k).text,aQ l,aX of,vI k]]).stays=true:=λ_=>rfl;have Zm:V.Tc.cells=[.Tc]:=rfl;refine mS 15 ?_;simp only[go_sem,seval,Mh];refine pR rfl (JY l hl hb of SB Sv hm k hk _) ?_;have hpc:(jP l of k (cq l of k)).stays=true:=rfl;apply sR;simp only[go_sem,seval,jP,hpc];refine aG hs λi8 Z8 s8 a8 f8 z8 hs=>?_;have q0:((0:Int)≠0)=False:=H' (λh=>h rfl);unfold mo;by_cases VQ:k=0
 .subst VQ;have q1:(((0:Nat):Int)=0)=True:=RA rfl;simp only[go_sem,seval,a8,q0,q1,ad,ae,af,al];exact az.pure (hs.aL z8) (by simp)
 have q1:((k:Int)=0)=False:=H';by_cases SV:k=of.length
 .have q2:((k:Int)=of.length)=True:=RA;simp only[go_sem,seval,a8,q0,q1,q2,SD,ad,ae,af,al];exact az.pure (hs.aL z8) (by simp[SV])
 have q2:((k:Int)=of.length)=False:=H';rw[aM (by omega)];simp only[go_sem,seval,a8,q0,q1,q2,SD,U5,Sh,Zm,ad,ae,af,al];generalize Vf:C' _ i8 _=Y8;replace a8:=SR Vf;replace hs:=SL Vf hs z8;refine aG hs λi10 XP To RZ f10 Uq hs=>?_;obtain⟨VW,a8⟩:=RC a8 f10 To;simp only[go_sem,seval,RZ,U5,Sh,Zm,ad,ae,af,al];generalize R5:C' _ i10 _=Y10;replace RZ:=SR R5;replace a8:=R6 R5 VW a8;replace hs:=SL R5 hs Uq;have ht:=yX Sv (l:=l) k;have c0:aV prog 186 [jP l of k (cq l of k)] (.bool (kN l of k 0)):=K8 l hl hb of SB k (cq l of k) ht;have c1:aV prog 187 [jP l of k (cq l of k)] (.bool (kN l of k 1)):=Eh l of k (cq l of k) (ox Sv) (l9 (lh hn) (by omega));have c2:aV prog 188 [jP l of k (cq l of k)] (.bool (kN l of k 2)):=BO l hl hb of SB Sv hm k hk (cq l of k);rw[jP]at c0 c1 c2;generalize hpv:V.agg [aX (cq l of k).ends,aX (cq l of k).TF,aX (cq l of k).both,vI (cq l of k).text,aQ l,aX of,vI k]=pv at*;refine aq.kE (λst=>aa U st.U/\st.s 11=vI (dH l of k 3))
  (λm st=>∃j:Nat,j<=3/\m=3-j/\aa U st.U/\st.s 11=vI (dH l of k j)/\st.s 41=.agg [.bm 186 [pv],.bm 187 [pv],.bm 188 [pv]]/\st.s 42=vI j) 3 ?_ ?_ ?_
 .exact⟨0,by omega,rfl,hs,rfl,rfl,rfl⟩
 .clear hs a8 RZ;rintro m ⟨S,J⟩ ⟨j,hj,rfl,hs,t11,t41,t42⟩;simp only at hs t11 t41 t42;refine aq.mix 15 ?_;rcases(by omega:j=0\/j=1\/j=2\/j=3)with rfl|rfl|rfl|rfl
  .have Wn:S 42=vI 0:=t42;have hp:dH l of k 0=0:=rfl;have Vs:S 11=vI 0:=by rw[t11,hp]
   apply sR;simp only[go_sem,seval,Vs,t41,Wn];refine aq.mC rfl rfl rfl (c0 _) ?_;rintro r Z' ⟨rfl,rfl⟩;cases hv:kN l of k 0
   .apply sR;simp only[go_sem,seval,Vs,t41,Wn];refine⟨ao,_,?_,1,by omega,rfl,hs,by rw[dH,hp,hv];rfl,rfl⟩;omega
   .apply sR;simp only[go_sem,seval,Vs,t41,Wn];refine⟨ao,_,?_,1,by omega,rfl,hs,by rw[dH,hp,hv];rfl,rfl⟩;omega
  .have Wn:S 42=vI 1:=t42;have hp:dH l of k 1=0\/dH l of k 1=1:=by rw[dH,dH,Al];split<;>simp
   rcases hp with hp|hp
   .have:=hp;have Vs:S 11=vI 0:=by rw[t11,hp]
    apply sR;simp only[go_sem,seval,Vs,t41,Wn];refine aq.mC rfl rfl rfl (c1 _) ?_;rintro r Z' ⟨rfl,rfl⟩;cases hv:kN l of k 1
    .apply sR;simp only[go_sem,seval,Vs,t41,Wn];refine⟨ao,_,?_,2,by omega,rfl,hs,by rw[dH,hp,hv];rfl,rfl⟩;omega
    .apply sR;simp only[go_sem,seval,Vs,t41,Wn];refine⟨ao,_,?_,2,by omega,rfl,hs,by rw[dH,hp,hv];rfl,rfl⟩;omega
   .have:=hp;have Vs:S 11=vI 1:=by rw[t11,hp]
    apply sR;simp only[go_sem,seval,Vs,t41,Wn];refine aq.mC rfl rfl rfl (c1 _) ?_;rintro r Z' ⟨rfl,rfl⟩;cases hv:kN l of k 1
    .apply sR;simp only[go_sem,seval,Vs,t41,Wn];refine⟨ao,_,?_,2,by omega,rfl,hs,by rw[dH,hp,hv];rfl,rfl⟩;omega
    .apply sR;simp only[go_sem,seval,Vs,t41,Wn];refine⟨ao,_,?_,2,by omega,rfl,hs,by rw[dH,hp,hv];rfl,rfl⟩;omega
  .have Wn:S 42=vI 2:=t42;have hp:dH l of k 2=0\/dH l of k 2=1\/dH l of k 2=2\/dH l of k 2=3:=by rw[dH,dH,dH,Al,Al];split<;>split<;>simp
   rcases hp with hp|hp|hp|hp
   .have:=hp;have Vs:S 11=vI 0:=by rw[t11,hp]
    apply sR;simp only[go_sem,seval,Vs,t41,Wn];refine aq.mC rfl rfl rfl (c2 _) ?_;rintro r Z' ⟨rfl,rfl⟩;cases hv:kN l of k 2
    .apply sR;simp only[go_sem,seval,Vs,t41,Wn];refine⟨ao,_,?_,3,by omega,rfl,hs,by rw[dH,hp,hv];rfl,rfl⟩;omega
    .apply sR;simp only[go_sem,seval,Vs,t41,Wn];refine⟨ao,_,?_,3,by omega,rfl,hs,by rw[dH,hp,hv];rfl,rfl⟩;omega
   .have:=hp;have Vs:S 11=vI 1:=by rw[t11,hp]
    apply sR;simp only[go_sem,seval,Vs,t41,Wn];refine aq.mC rfl rfl rfl (c2 _) ?_;rintro r Z' ⟨rfl,rfl⟩;cases hv:kN l of k 2
    .apply sR;simp only[go_sem,seval,Vs,t41,Wn];refine⟨ao,_,?_,3,by omega,rfl,hs,by rw[dH,hp,hv];rfl,rfl⟩;omega
    .apply sR;simp only[go_sem,seval,Vs,t41,Wn];refine⟨ao,_,?_,3,by omega,rfl,hs,by rw[dH,hp,hv];rfl,rfl⟩;omega
   .have:=hp;have Vs:S 11=vI 2:=by rw[t11,hp]
    apply sR;simp only[go_sem,seval,Vs,t41,Wn];refine aq.mC rfl rfl rfl (c2 _) ?_;rintro r Z' ⟨rfl,rfl⟩;cases hv:kN l of k 2
    .apply sR;simp only[go_sem,seval,Vs,t41,Wn];refine⟨ao,_,?_,3,by omega,rfl,hs,by rw[dH,hp,hv];rfl,rfl⟩;omega
    .apply sR;simp only[go_sem,seval,Vs,t41,Wn];refine⟨ao,_,?_,3,by omega,rfl,hs,by rw[dH,hp,hv];rfl,rfl⟩;omega
   .have:=hp;have Vs:S 11=vI 3:=by rw[t11,hp]
    apply sR;simp only[go_sem,seval,Vs,t41,Wn];refine aq.mC rfl rfl rfl (c2 _) ?_;rintro r Z' ⟨rfl,rfl⟩;cases hv:kN l of k 2
    .apply sR;simp only[go_sem,seval,Vs,t41,Wn];refine⟨ao,_,?_,3,by omega,rfl,hs,by rw[dH,hp,hv];rfl,rfl⟩;omega
    .apply sR;simp only[go_sem,seval,Vs,t41,Wn];refine⟨ao,_,?_,3,by omega,rfl,hs,by rw[dH,hp,hv];rfl,rfl⟩;omega
  .have Wn:S 42=vI 3:=t42;apply sR;simp only[go_sem,seval,t11,t41,Wn];exact hs
 .rintro⟨S,J⟩ ⟨hs,t11⟩;simp only at hs t11;refine mS 15 ?_;simp only[go_sem,seval,t11];exact az.pure hs rfl
end Go.Vc
