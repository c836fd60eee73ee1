/- Part 8 of the library of this proof. -/
import Derived.Test.YtdaelobhgmdoeaaGreatW7
set_option linter.all false
set_option maxHeartbeats 8000000
set_option maxRecDepth 100000
namespace Go.Vc
open Go.Proofs Go.Proofs.Tryz
def ups(l:List Nd):Nat->Int->List Int
 |0,_=>[]
 |f+1,p=>if 0<=p then p::ups l f (ew l p.toNat)else[]
def AQ{l:List Nd}{f:Nat}{p:Int}(h:p<0):ups l f p=[]:=by
 cases f with
 |zero=>rfl
 |succ f=>rw[ups,av (by omega)]
def uX{l:List Nd}{f:Nat}{p:Int}(h:0<=p)(hf:p<f):∃g,f=g+1/\ups l f p=p::ups l g (ew l p.toNat):=by
 cases f with
 |zero=>omega
 |succ f=>exact⟨f,rfl,by rw[ups,ar h]⟩
def fD(l:List Nd)(a:Nat):-1<=ew l a/\ew l a<a:=wW l a a
def ldN(U:af)(l:List Nd):bB U false 1 (.rp (aH l))=some (aH l):=rfl
def fdN(l:List Nd):l4 false 0 1 (.rp (.agg [aH l]))=some (.rp (aH l)):=rfl
def py(l:List Int):List (List V):=l.map λp=>[vI p]
def wE(l:List Nd)(hl:dU l)(hb:Zd l=true)(a:Nat)(ha:a<l.length):Iter prog 260 [.rp (.agg [aH l]),.rp (vI a)] (py (ups l (l.length+1) (ew l a))):=by
 have hhas:x4 l (a:Int)=true:=Cr.2 ⟨by omega,by omega⟩;have hpr:=fD l a;refine⟨UE.c,λYp τ Jx Z0 hy hJ=>?_⟩;refine(UE.r (by simp[Q1]) ?_).2;refine ab.mix 5 ?_;apply sR;simp only[BB,seval,aX,ez,aE,ef,ZQ.nothing,Q1,ldN,fdN];refine ab.ay rfl rfl rfl (PF l a _) ?_;rw[hhas];apply sR;simp only[BB,seval,aX,ez,aE,ef,ZQ.nothing,ldN,fdN];refine ab.ay rfl rfl rfl (zC l hl hb a ha _) ?_;apply sR;simp only[go_sem,seval];refine ab.loop (λm st=>∃(pre:List Int) (q:Int) (f:Nat) (ZJ:af),m=(q+1).toNat/\-1<=q/\q<l.length/\q<f/\ups l (l.length+1) (ew l a)=pre++ups l f q/\τ (py pre) ZJ/\aa ZJ st.U/\
  st.s 0=.yl Yp/\st.s 1=.rp (.agg [aH l])/\st.s 4=vI q) (ew l a+1).toNat ?_ ?_
 .exact⟨[],ew l a,l.length+1,Z0,rfl,by omega,by omega,by omega,rfl,hJ,aa.refl _,rfl,rfl,rfl⟩
 .rintro m ⟨s,Z'⟩ ⟨pre,q,f,ZJ,rfl,hq1,hq2,hqf,hxs,hJp,G',h0,h1,h4⟩;simp only at G' h0 h1 h4;refine ab.mix 5 ?_;by_cases hq:0<=q
  .obtain⟨g,rfl,hu⟩:=uX (l:=l) hq hqf;obtain⟨k,rfl⟩:∃k:Nat,q=k:=⟨q.toNat,by omega⟩
   have hge:((k:Int)>=0)=True:=by simp
   rw[eX]at hu;have hpk:=fD l k;have hkl:k<l.length:=by omega
   have e:py (ups l (l.length+1) (ew l a))=py pre++[vI k]::py (ups l g (ew l k)):=by rw[hxs,hu];simp[py]
   apply sR;simp only[go_sem,seval,h0,h4,hge];refine ab.nb (Post:=λb Z2=>∃Yr,aT ZJ Z' Yr Z2/\((b=true/\τ (py pre++[[vI k]]) Yr)\/(b=false/\Jx (py pre++[[vI k]]) Yr))) rfl rfl rfl (hy _ [vI k] _ ZJ Z' e hJp G') ?_;rintro b Z2 ⟨Yr,ZU,Zn⟩;rcases Zn with⟨rfl,Zn⟩|⟨rfl,Zn⟩
   .apply sR;simp only[BB,seval,aX,ez,aE,ZQ.nothing,h1,h4,ldN,fdN];refine ab.ay rfl rfl rfl (zC l hl hb k hkl _) ?_;apply sR;simp only[go_sem,seval,h0,h1];refine⟨_,?_,pre++[(k:Int)],ew l k,g,Yr,rfl,by omega,by omega,by omega,by rw[hxs,hu];simp,?_,ZU.1,by simp⟩
    .omega
    .simpa[py]using Zn
   .apply sR;simp only[go_sem,seval];refine⟨_,Yr,ZU.1,Wk.refl ZU.1 _,.inr ⟨py pre++[[vI k]],?_,Zn⟩⟩;rw[e];exact⟨py (ups l g (ew l k)),by simp⟩
  .have hge:(q>=0)=False:=by simp;omega
   apply sR;simp only[go_sem,seval,h4,hge];rw[AQ (l:=l) (f:=f) (p:=q) (by omega),lH]at hxs;exact⟨_,ZJ,G',Wk.refl G' _,.inl (by rw[hxs];exact hJp)⟩
def Du(l:List Nd)(a:Int):aJ prog 215 [.agg [aH l],vI a] (.fn 260 [.rp (.agg [aH l]),.rp (vI a)]):=λU=>by
 refine W4.r (by simp[OX]) ?_;refine ab.mix 4 ?_;have q1:(V.agg [aH l]).cells.length=1:=rfl;have q2:(V.agg [aH l]).stays=true:=rfl;generalize V.agg [aH l]=x at*;apply sR;simp only[go_sem,seval,OX,q1,q2];refine ad λid1 Z1 s1 a1 f1=>?_;simp only[go_sem,seval];refine ad λid2 Z2 s2 a2 f2=>?_;simp only[go_sem,seval];exact⟨_,U,s1.trans s2,Wk.fn (vs':=[.rp x,.rp (vI a)]) ⟨Wk.ptr (s1.trans s2) (s2 _ _ a1) f1,Wk.ptr (s1.trans s2) a2 (s1.none f2),trivial⟩,rfl,rfl⟩
def EJ(l:List Nd)(hl:dU l)(hb:Zd l=true)(a:Nat)(ha:a<l.length):aJ prog 277 [aH l,vI a] (vI (ew l a)):=λU=>by
 refine Vu.r (by simp[Pa]) ?_;refine ab.mix 5 ?_;have hit:=wE l hl hb a ha;have hpr:=fD l a;apply sR;simp only[go_sem,seval,Pa];refine ad λid4 Z1 s1 a4 f4=>?_;simp only[go_sem,seval];refine ab.ay rfl rfl rfl (Fb l hl hb _) ?_;apply sR;simp only[go_sem,seval];refine ab.ay rfl rfl rfl (Du l a _) ?_;apply sR;simp only[go_sem,seval];generalize hS:mix 5 _ _=S;have S4:S 4=.ptr id4 0 0:=by rw[<-hS];rfl
 have S9:S 9=.fn 260 [.rp (.agg [aH l]),.rp (vI a)]:=by rw[<-hS];rfl
 clear hS;have hx0:∀x pre post,py (ups l (l.length+1) (ew l a))=pre++x::post->pre=[]->x=[vI (ew l a)]:=λx pre post h hp=>by
  subst hp;by_cases h0:0<=ew l a
  .obtain⟨g,_,hu⟩:=uX (l:=l) (f:=l.length+1) h0 (by omega);rw[hu]at h;simp only[py,dS,kA,List.cons.injEq]at h;exact h.1.symm
  .rw[AQ (by omega)]at h;simp[py]at h
 refine ab.cA (g:=.t 9) (caps:=[.rp (.agg [aH l]),.rp (vI a)]) S9 hit (λx hx=>?_) [] (λpre ZJ=>pre=[]/\ZJ=Z1) (λc pre ZJ=>c=none/\ZJ=C' Z1 id4 ⟨3,1,[vI (ew l a)]⟩) ?_ ?_ ?_ ?_ ?_
 .simp only[py,gg]at hx;obtain⟨t,_,rfl⟩:=hx;rfl
 .exact⟨rfl,rfl⟩
 .rintro pre x post ZJ ZB hxs ⟨rfl,rfl⟩ G';obtain rfl:=hx0 x [] post hxs rfl;have b4:=G' _ _ a4;generalize hSS:kW S [10] [vI (ew l a)]=S0;have T4:S0 4=.ptr id4 0 0:=by rw[<-hSS];exact S4
  have T10:S0 10=vI (ew l a):=by rw[<-hSS];rfl
  clear hSS;refine ab.mix 11 ?_;apply sR;simp only[go_sem,seval,T10];refine ab.mix 11 ?_;apply sR;simp only[go_sem,seval,T4,b4];exact⟨_,(aT.refl G').set (o:=⟨3,1,[vI 0]⟩) a4,rfl⟩
 .rintro Z' ⟨hn,rfl⟩;have hpm:ew l a=-1:=by
   by_cases h0:0<=ew l a
   .obtain⟨g,_,hu⟩:=uX (l:=l) (f:=l.length+1) h0 (by omega);rw[hu]at hn;simp[py]at hn
   .omega
  refine ab.mix 5 ?_;apply sR;simp only[go_sem,seval,S4,a4];rw[hpm];exact ak.pure (s1.ax f4) rfl
 .intro id h;cases h
 .rintro pre Z' _ ⟨_,rfl⟩;refine ab.mix 5 ?_;apply sR;simp only[go_sem,seval,S4,ag];exact ak.pure (s1.ax f4) rfl
open Go.Proofs Go.Proofs.Tryz
def mG{l:List Nd}{a b:Int}:ie l a b=true↔0<=a/\b<l.length/\a<=b/\b<a+YO l a.toNat:=by
 simp only[ie,Ba,Cr,Zq9];constructor
 .rintro⟨h1,h2,h3,h4⟩;omega
 .rintro⟨h1,h2,h3,h4⟩;omega
def yM(l:List Nd)(b:Nat):∀k,(uz l b k=-1/\∀i:Nat,i<k->ie l i b=false)\/∃q:Nat,uz l b k=q/\q<k/\ie l q b=true/\∀i:Nat,q<i->i<k->ie l i b=false
 |0=>.inl ⟨rfl,λi h=>by omega⟩
 |k+1=>by
  rw[uz];cases hk:ie l k b
  .simp only[eQ,↓reduceIte];rcases yM l b k with⟨h1,h2⟩|⟨q,h1,h2,h3,h4⟩
   .refine .inl ⟨h1,λi hi=>?_⟩;by_cases e:i=k
    .rw[e];exact hk
    .exact h2 i (by omega)
   .refine .inr ⟨q,h1,by omega,h3,λi hi ZL=>?_⟩;by_cases e:i=k
    .rw[e];exact hk
    .exact h4 i hi (by omega)
  .simp only[↓reduceIte];exact .inr ⟨k,rfl,by omega,hk,λi hi ZL=>by omega⟩
def nest{l:List Nd}(hb:Zd l=true){x q:Nat}(hx:x<l.length)(h1:x<=q)(h2:(q:Int)<x+YO l x)(hq:q<l.length):(q:Int)+YO l q<=x+YO l x:=by
 by_cases e:x=q
 .subst e;omega
 .have YK:bQ l 0 l.length=true:=by simp only[Zd,Ba]at hb;exact hb.2
  obtain⟨z1,z2⟩:=rY hb hx;obtain⟨z3,_⟩:=cF (YQ _) YK (Nat.zero_le x) hx;have hin:=oC l (l.length+1) 0 l.length (by omega) (YQ _) YK x (by omega) hx hx;rw[<-mB hx]at hin;have:=(cF (e:=x+(YO l x).toNat) (by omega) hin (k:=q) (by omega) (by omega)).1;omega
def JT(l:List Nd):∀(f:Nat) (p x:Int),x∈ups l f p->0<=x/\x<=p
 |0,_,_,h=>by simp[ups]at h
 |f+1,p,x,h=>by
  rw[ups]at h;split at h
  .rcases cg.1 h with rfl|h
   .omega
   .have:=JT l f _ x h;have:=fD l p.toNat;omega
  .simp at h
def rC{l:List Nd}{a b:Nat}:∀k:Nat,(∀i:Nat,i<k->ie l i a=ie l i b)->gO l a k=gO l b k
 |0,_=>rfl
 |k+1,h=>by
  rw[gO,gO,h k (by omega),rC k λi hi=>h i (by omega)]
def nF{l:List Nd}{a q:Nat}:∀k:Nat,q<=k->(∀i:Nat,q<=i->i<k->ie l i a=false)->gO l a k=gO l a q
 |0,h,_=>by rw[Nat.le_zero.1 h]
 |k+1,h,hh=>by
  by_cases e:q=k+1
  .rw[e]
  .rw[gO,hh k (by omega) (by omega),av (by simp)];exact nF k (by omega) λi h1 h2=>hh i h1 (by omega)
def zk{l:List Nd}(hb:Zd l=true):∀(f a:Nat),a<l.length->ew l a<f->ups l f (ew l a)=gO l a a
 |f,a,ha,hf=>by
  rcases yM l a a with⟨h1,h2⟩|⟨q,h1,h2,h3,h4⟩
  .have e:ew l a=-1:=h1;rw[e,AQ (by omega),nF (q:=0) a (by omega) λi _ hi=>h2 i hi];rfl
  .have e:ew l a=q:=h1;rw[e]at hf|-;obtain⟨g,rfl,hu⟩:=uX (l:=l) (f:=f) (p:=q) (by omega) hf;rw[hu,eX];have hpq:=fD l q;rw[zk hb g q (by omega) (by omega),nF (q:=q+1) a (by omega) λi i1 i2=>h4 i (by omega) i2,gO,h3,ar rfl];congr 1;refine rC q λi hi=>?_;rw[Bool.eq_iff_iff,mG,mG];rw[mG]at h3;simp only[eX]at h3|-;constructor
   .rintro⟨_,_,_,g4⟩;have:=nest hb (x:=i) (q:=q) (by omega) (by omega) g4 (by omega);omega
   .rintro⟨_,_,_,_⟩;omega
open Go.Proofs Go.Proofs.Tryz
def aT.Hv{ZJ U Yr Z':af}(h:aT ZJ U Yr Z'){e:Option Nat}(he:∀i,e=some i->∃o,Yr i=some o):aT ZJ U (Vc.bt Yr e) (Vc.bt Z' e):=by
 cases e with
 |none=>exact h
 |some e=>
  refine⟨F4 h.1,λi o h1 h2=>?_⟩;obtain⟨h3,h4⟩:=h.2 i o h1 h2;have:i≠e:=λe'=>by subst e';obtain⟨o',ho'⟩:=he i rfl;rw[h4]at ho';cases ho'
  simp only[Vc.bt,bR this];exact⟨h3,h4⟩
def aL.Hi{K ZJ Z1:af}{e sz:Nat}{v:V}{rows:List V}(h:aL K ZJ e sz v rows)(hs:aa ZJ Z1):
 ∃Yn,bN Z1 e sz v=some (rows,Yn)/\∀i,Yn=some i->K i=none/\∃o,ZJ i=some o:=by
 rcases h with⟨rfl,rfl⟩|⟨id,rfl,ho,hk⟩
 .exact⟨none,rfl,λ_ h=>by cases h⟩
 .refine⟨some id,?_,λi h=>by cases h;exact⟨hk,_,ho⟩⟩;simp only[bN,hs _ _ ho];rw[ar ⟨trivial,trivial,trivial,YQ _⟩,hU]
def aU(U:af)(id:Nat):af:=λi=>if i=id then some ⟨0,0,[]⟩else U i
def aF{U:af}{id i:Nat}:aU U id i=none↔i≠id/\U i=none:=by
 unfold aU;split
 .rename_i h;simp[h]
 .rename_i h;simp[h]
def qX{α:Type}{f:α->V}{xs:List α}{pre post:List (List V)}{x:List V}(h:(xs.map λa=>[f a])=pre++x::post):∃a,xs[pre.length]?=some a/\x=[f a]:=by
 have:=congrArg (·[pre.length]?) h;simp only[qJ,LG (YQ _),Nat.sub_self,Sz,Zq8]at this;obtain⟨t,h1,h2⟩:=this;exact⟨t,h1,h2.symm⟩
def DL{g:FuncId}{caps:List V}{xs:List Int}(hit:Iter prog g caps (xs.map λn=>[vI n]))(hx:xs.length<=1000000)(U:af):
 au prog 259 [.aC,.fn g caps] U λr Z'=>aa U Z'/\aL U Z' 3 1 r (xs.map vI):=by
 refine W2.r (by simp[RJ]) ?_;refine ab.mix 8 ?_;apply sR;simp only[go_sem,seval,RJ];refine ad λid2 Z2 s2 a2 f2=>?_;simp only[go_sem,seval];generalize hS:mix 8 _ _=S;have S2:S 2=.ptr id2 0 0:=by rw[<-hS];rfl
 have S6:S 6=.fn g caps:=by rw[<-hS];rfl
 clear hS;refine ab.cA (g:=.t 6) (caps:=caps) S6 hit (λx hx=>?_) [] (λpre ZJ=>∃v,ZJ id2=some ⟨57,1,[v]⟩/\aa U ZJ/\aL (aU U id2) ZJ 3 1 v ((xs.take pre.length).map vI))
  (λ_ _ _=>False) ?_ ?_ ?_ ?_ ?_
 .obtain⟨t,_,rfl⟩:=gg.1 hx;rfl
 .exact⟨.aC,a2,s2,by simpa using aL.start⟩
 .rintro pre x post ZJ ZB hxs ⟨v,J2,Js,Jo⟩ G';obtain⟨t,hti,rfl⟩:=qX (f:=vI) hxs;have Zb:xs.take (pre.length+1)=xs.take pre.length++[t]:=by rw[HL,hti];rfl
  have hlen:(pre++[[vI t]]).length=pre.length+1:=by simp
  rw[hlen,Zb];have hkl:((xs.take pre.length).map vI).length<=1000001:=by simp;omega
  have hvc:v.cells=[v]:=by rcases Jo with⟨rfl,_⟩|⟨_,rfl,_⟩<;>rfl
  generalize YK:((xs.take pre.length).map vI)=rows at*;have b2:=G' _ _ J2;generalize hSS:kW S [7] [vI t]=S0;have T2:S0 2=.ptr id2 0 0:=by rw[<-hSS];exact S2
  have T7:S0 7=vI t:=by rw[<-hSS];rfl
  refine ab.mix 8 ?_;apply sR;simp only[go_sem,seval,T7];apply sR;simp only[go_sem,seval,T2,b2,hvc];rw[bG];intro id28 f28;have hBs:=(aT.refl G').rU (o:=⟨3,1,[vI t]⟩) f28;have y2:C' ZB id28 ⟨3,1,[vI t]⟩ id2=some ⟨57,1,[v]⟩:=by rw[ae (ao b2 f28)];exact b2
  have a28:C' ZB id28 ⟨3,1,[vI t]⟩ id28=some ⟨3,1,[vI t]⟩:=ag;generalize C' ZB id28 ⟨3,1,[vI t]⟩=Z8 at*;obtain⟨Yn,ZV,hdA⟩:=Jo.Hi hBs.1;have Zl:(rows.length+1)*9<=140737488355328:=by omega
  have k2:aU U id2 id2≠none:=λh=>(aF.1 h).1 rfl;have dne:∀(i:Nat) (Zx:af),aU U id2 i≠none->Vc.bt Zx Yn i=Zx i:=λi Zx hk=>by
   cases Yn with
   |none=>rfl
   |some a=>exact bR (λe=>hk (by rw[e];exact(hdA a rfl).1))
  simp only[go_sem,seval,ZV,cT a28,Zl];rw[bG];intro id29 f29;have f29:Z8 id29=none:=f29;have m29:id2≠id29:=ao y2 f29;have f29':Vc.bt Z8 Yn id29=none:=by
   cases Yn with
   |none=>exact f29
   |some a=>simp only[Vc.bt,del];split<;>first|rfl|exact f29
  have y2':C' (Vc.bt Z8 Yn) id29 ⟨3,1,rows++[vI t]⟩ id2=some ⟨57,1,[v]⟩:=by rw[ae m29,dne _ _ k2];exact y2
  have hB9:=((hBs.Hv (e:=Yn) λi h=>(hdA i h).2).new (o:=⟨3,1,rows++[vI t]⟩) f29').set (id:=id2) (o:=⟨57,1,[v]⟩) (o':=⟨57,1,[.own id29 0 (rows.length+1)]⟩) (by rw[ae m29,dne _ _ k2];exact J2);simp only[go_sem,seval,hvc,y2',T2];refine⟨_,hB9,.own id29 0 (rows.length+1),ag,?_,?_⟩
  .refine aa.ax (λi o h=>?_) f2;have h1:=Js _ _ h;rw[ae (ao (hBs.1 _ _ h1) f29),dne _ _ (λhk=>by rw[(aF.1 hk).2]at h;cases h)];exact h1
  .rw[gl,YK];refine aL.new (by simp) (by rw[ae m29.symm,ag];rfl) ?_;rw[aF];refine⟨m29.symm,?_⟩;cases h:U id29 with
   |none=>rfl
   |some o=>rw[hBs.1 _ _ (Js _ _ h)]at f29;cases f29
 .rintro Z' ⟨v,J2,Js,Jo⟩;rw[cL,hU]at Jo;have hvc:v.cells=[v]:=by rcases Jo with⟨rfl,_⟩|⟨_,rfl,_⟩<;>rfl
  refine ab.mix 5 ?_;apply sR;simp only[go_sem,seval,S2,J2,hvc];refine⟨_,_,aa.refl _,Wk.refl (aa.refl _) _,Js,?_⟩;rcases Jo with h|⟨id,h1,h2,h3⟩
  .exact .inl h
  .exact .inr ⟨id,h1,h2,(aF.1 h3).2⟩
 .intro id h;cases h
 .rintro pre Z' _ ⟨⟩
def zx{g:FuncId}{caps:List V}{xs:List Int}(hit:Iter prog g caps (xs.map λn=>[vI n]))(hx:xs.length<=1000000):
 aJ prog 214 [.fn g caps] (bl xs):=λU=>by
 refine XJ.r (by simp[OP]) ?_;refine ab.mix 3 ?_;apply sR;simp only[go_sem,seval,OP];refine ab.call rfl rfl rfl (DL hit hx U) ?_;rintro r Z1 ⟨h1,h2⟩;apply sR;simp only[go_sem,seval];exact h2.Ke h1 rfl
def abv(l:List Nd)(a:Nat):List Int:=ups l (l.length+1) (ew l a)
def jv(l:List Nd):∀(f:Nat) (p:Int),(ups l f p).length<=f
 |0,_=>by simp[ups]
 |f+1,p=>by
  rw[ups];split
  .have:=jv l f (ew l p.toNat);simp only[ZK];omega
  .simp
def SJ{l:List Nd}(hb:Zd l=true){a:Nat}(ha:a<l.length):abv l a=gO l a a:=zk hb _ _ ha (by have:=fD l a;omega)
def CT(l:List Nd)(hl:dU l)(hb:Zd l=true)(hn:l.length<=100000)(a:Nat)(ha:a<l.length):aJ prog 159 [aH l,vI a] (bl (abv l a)):=λU=>by
 refine UO.r (by simp[Sg]) ?_;refine ab.mix 5 ?_;apply sR;simp only[go_sem,seval,Sg];refine ab.ay rfl rfl rfl (Fb l hl hb _) ?_;apply sR;simp only[go_sem,seval];refine ab.ay rfl rfl rfl (Du l a _) ?_;apply sR;simp only[go_sem,seval];refine ab.ay rfl rfl rfl (zx (wE l hl hb a ha) (by have:=jv l (l.length+1) (ew l a);omega) _) ?_;apply sR;simp only[go_sem,seval];exact ak.same rfl
structure SOk(s:Sty):Prop where
 top:0<=s.top/\s.top<=1099511627776
 Yv:0<=s.Yv/\s.Yv<=1099511627776
 Yj:0<=s.Yj/\s.Yj<=1099511627776
 Yc:0<=s.Yc/\s.Yc<=1099511627776
 Zp:0<=s.Zp/\s.Zp<=1099511627776
 YN:0<=s.YN/\s.YN<=1099511627776
 YY:0<=s.YY/\s.YY<=1099511627776
 head:0<=s.head/\s.head<=1099511627776
 before:0<=s.before/\s.before<=4
 after:0<=s.after/\s.after<=4
 inside:0<=s.inside/\s.inside<=1
 clear:0<=s.clear/\s.clear<=3
structure NOk(x:Nd):Prop where
 st:SOk x.st
 kind:x.kind=1\/x.kind=2\/x.kind=3\/x.kind=4
 line:0<=x.line/\x.line<=1099511627776
 space:0<=x.space/\x.space<=1099511627776
 words:∀w∈x.words,1<=w/\w<=1099511627776
 w:0<=x.w/\x.w<=1099511627776
 h:0<=x.h/\x.h<=1099511627776
 side:0<=x.side/\x.side<=2
 text:x.kind=2->0<x.words.length/\1<=x.line
 box:x.kind=3\/x.kind=4->1<=x.w/\1<=x.h
 fl:x.kind=4->1<=x.side
 iJ:x.kind≠1->x.st=Sty.zero
 nowords:x.kind≠2->x.words=[]
def qq{n a b:Int}:bc n a b=true↔a<=n/\n<=b:=by simp[bc]
def JI:SOk Sty.zero:=by constructor<;>simp[Sty.zero]
def RX{s:Sty}(h:s.ok=true):SOk s:=by
 simp only[Sty.ok,Ba,qq,mx]at h;constructor<;>omega
def PS{x:Nd}(h:x.ok=true):NOk x:=by
 unfold Nd.ok at h;split at h
 .rename_i hk;simp only[Ba,Zq9]at h;obtain⟨⟨⟨⟨⟨⟨h1,h2⟩,h3⟩,h4⟩,h5⟩,h6⟩,h7⟩:=h;have hw:x.words=[]:=xz h4;exact⟨RX h1,.inl hk,by omega,by omega,by rw[hw];simp,by omega,by omega,by omega,by omega,by omega,by omega,by omega,λ_=>hw⟩
 .rename_i hk;split at h
  .cases h
  .rename_i Ys;have hs:x.st=Sty.zero:=Classical.byContradiction Ys;have hso:SOk x.st:=by rw[hs];exact JI
   split at h
   .rename_i hk2;simp only[Ba,Zq9,qq,mx,dX]at h;obtain⟨⟨⟨⟨⟨⟨h1,h2⟩,h3⟩,h4⟩,h5⟩,h6⟩,h7⟩:=h;exact⟨hso,.inr (.inl hk2),by omega,by omega,h1,by omega,by omega,by omega,λ_=>⟨h2,h3.1⟩,by omega,by omega,λ_=>hs,by omega⟩
   .rename_i hk2;simp only[Ba,kS,Zq9,qq,mx]at h;obtain⟨⟨⟨⟨⟨h1,h2⟩,h3⟩,h4⟩,h5⟩,h6⟩:=h;have hw:x.words=[]:=xz h3;exact⟨hso,by omega,by omega,by omega,by rw[hw];simp,by omega,by omega,by omega,by omega,by omega,by omega,λ_=>hs,λ_=>hw⟩
def gi{l:List Nd}(hb:Zd l=true){a:Nat}(h:a<l.length):NOk l[a]:=by
 simp only[Zd,Ba,dX]at hb;exact PS (hb.1 _ (Zr h))
open Go.Proofs Go.Proofs.Tryz
structure Rm where
 (x w:Int)
deriving DecidableEq
def lx(r:Rm):V:=.agg [vI r.x,vI r.w]
def cj(l:List Rm):V:=.sl 2 (l.map lx)
def Is(l:List Nd)(a:Nat):Int:=((l[a]?).map λn=>n.st.Zp).getD 0
def qd(r:Rm)(i:Int):Rm:=⟨min (r.x+i) 1099511627776,max (r.w-2*i) 1⟩
def cK(l:List Nd):Nat->Nat->Nat->Rm->List Rm
 |0,_,_,_=>[]
 |k+1,a,e,r=>if a<e then r::(cK l k (a+1) (a+(YO l a).toNat) (qd r (Is l a))++cK l k (a+(YO l a).toNat) e r)else[]
def mK{l:List Nd}{e:Nat}(he:e<=l.length):∀(k a:Nat) (r:Rm),e-a<=k->a<=e->bQ l a e=true->(cK l k a e r).length=e-a
 |0,a,r,hk,ha,_=>by simp[cK];omega
 |k+1,a,r,hk,ha,hr=>by
  rw[cK];split
  .rename_i H';obtain⟨h1,h2⟩:=cF he hr (YQ a) H';obtain⟨h3,h4⟩:=dq he hr H';have ih:=mK he k (a+(YO l a).toNat) r (by omega) (by omega) h3;have ih2:=mK (e:=a+(YO l a).toNat) (by omega) k (a+1) (qd r (Is l a)) (by omega) (by omega) h4;simp only[ZK,gZ];omega
  .simp;omega
def ln{l:List Nd}{e:Nat}(he:e<=l.length):∀(k j a:Nat) (r:Rm),e-a<=k->e-a<=j->bQ l a e=true->cK l k a e r=cK l j a e r
 |0,0,_,_,_,_,_=>rfl
 |0,j+1,a,r,h,_,_=>by rw[cK,cK,av (by omega)]
 |k+1,0,a,r,_,h,_=>by rw[cK,cK,av (by omega)]
 |k+1,j+1,a,r,h,h',hr=>by
  rw[cK,cK];split
  .rename_i H';obtain⟨h1,h2⟩:=cF he hr (YQ a) H';obtain⟨h3,h4⟩:=dq he hr H';rw[ln he k j _ _ (by omega) (by omega) h3,ln (e:=a+(YO l a).toNat) (by omega) k j _ _ (by omega) (by omega) h4]
  .rfl
def db{U:af}{l:List Nd}{a:Nat}(h:a<l.length):bo U 20 (aH l) (.int .i64 a)=some (.rp (.agg (Nd.cells l[a]))):=by
 simp[aH,bo,h,jE]
def re(U:af)(a b c:Nat):af:=λi=>if i=a\/i=b\/i=c then some ⟨0,0,[]⟩else U i
def fQ{U:af}{a b c i:Nat}:re U a b c i=none↔i≠a/\i≠b/\i≠c/\U i=none:=by
 unfold re;split
 .rename_i h;simp;intro h1 h2 h3;simp_all
 .rename_i h;simp only[not_or]at h;simp[h]
structure RmJ(l:List Nd)(Z0:af)(il io ip:Nat)(rows:List V)(U:af):Prop where
 rl:U il=some ⟨22,1,[aH l]⟩
 rp:U ip=some ⟨256,1,[.fn 162 [.ptr il 0 0,.ptr io 0 0,.ptr ip 0 0]]⟩
 sub:aa Z0 U
 no:Z0 io=none
 out:∃v,U io=some ⟨204,1,[v]⟩/\aL (re Z0 il io ip) U 258 2 v rows
def Dq(r:Rm):(lx r).cells=[vI r.x,vI r.w]:=rfl
def CA(r:Rm):(lx r).stays=true:=rfl
def Rm.ok(r:Rm):Prop:=0<=r.x/\r.x<=1099511627776/\1<=r.w/\r.w<=1099511627776
def zB{r:Rm}(h:r.ok){i:Int}(h0:0<=i):(qd r i).ok:=by
 obtain⟨a,b,c,d⟩:=h;unfold qd Rm.ok;simp only;omega
def K1{l:List Nd}(hb:Zd l=true){a:Nat}(h:a<l.length):Is l a=l[a].st.Zp/\0<=l[a].st.Zp/\l[a].st.Zp<=1099511627776:=by
 refine⟨by simp[Is,h],?_⟩;exact(gi hb h).st.Zp
def IT(l:List Nd)(hl:dU l)(hb:Zd l=true)(il io ip:Nat)(nlo:il≠io)(nlp:il≠ip)(nop:io≠ip):∀(m a e:Nat) (r:Rm) (rows:List V) (Z0 U:af),e-a<m->a<=e->e<=l.length->bQ l a e=true->r.ok->
 rows.length+(e-a)<=l.length->RmJ l Z0 il io ip rows U->
 au prog 162 [vI a,vI e,lx r,.ptr il 0 0,.ptr io 0 0,.ptr ip 0 0] U λq Z'=>q=.P' []/\RmJ l Z0 il io ip (rows++(cK l (e-a) a e r).map lx) Z':=by
 intro m
 induction m with
 |zero=>intro a e r rows Z0 U h;omega
 |succ m ih=>?_
 intro a e r rows ZB U hm hae he hrB hr hlen hJB;have hl1:=hl.1;refine Xb.r (by simp[Rk]) ?_;refine ab.mix 11 ?_;apply sR;simp only[go_sem,seval,Rk,Dq,CA];refine ad λi8 Z8 s8 a8 f8=>?_;simp only[go_sem,seval];have no8:io≠i8:=by obtain⟨v,vo,_⟩:=hJB.out;exact ao vo f8
 have fB8:ZB i8=none:=hJB.sub.none f8;obtain⟨Z0,hY0⟩:∃s,s=C' ZB i8 ⟨258,2,[lx r]⟩:=⟨_,rfl⟩
 have hk8:∀i,re Z0 il io ip i=none↔i≠i8/\re ZB il io ip i=none:=λi=>by
  rw[fQ,fQ,hY0];by_cases h:i=i8
  .subst h;simp[ag]
  .rw[ae h];simp[h]
 have hJ8:RmJ l Z0 il io ip rows Z8:=by
  refine⟨s8 _ _ hJB.rl,s8 _ _ hJB.rp,?_,by rw[hY0,ae no8];exact hJB.no,?_⟩
  .intro i o h;rw[hY0]at h;by_cases hi:i=i8
   .subst hi;rw[ag]at h;rw[a8];exact h
   .rw[ae hi]at h;exact s8 _ _ (hJB.sub _ _ h)
  .obtain⟨v,vo,hout⟩:=hJB.out;refine⟨v,s8 _ _ vo,?_⟩;rcases hout with h|⟨id,h1,h2,h3⟩
   .exact .inl h
   .exact .inr ⟨id,h1,s8 _ _ h2,(hk8 id).2 ⟨ao h2 f8,h3⟩⟩
 have hback:∀(rows:List V) (J:af),RmJ l Z0 il io ip rows J->RmJ l ZB il io ip rows J:=λrows J h=>by
  refine⟨h.rl,h.rp,λi o hi=>h.sub _ _ (by rw[hY0,ae (λe=>by rw[e,fB8]at hi;cases hi)];exact hi),by have:=h.no;rw[hY0,ae no8]at this;exact this,?_⟩;obtain⟨v,vo,hout⟩:=h.out;refine⟨v,vo,?_⟩;rcases hout with h|⟨id,h1,h2,h3⟩
  .exact .inl h
  .exact .inr ⟨id,h1,h2,((hk8 id).1 h3).2⟩
 have h08:Z0 i8=some ⟨258,2,[lx r]⟩:=by rw[hY0];exact ag
 clear hY0;refine ab.loop (λq st=>∃(b:Nat) (done:List V),q=e-b/\a<=b/\b<=e/\bQ l b e=true/\done.length+(e-b)<=l.length/\rows++(cK l (e-a) a e r).map lx=done++(cK l (e-b) b e r).map lx/\RmJ l Z0 il io ip done st.U/\
  st.s 1=vI e/\st.s 3=.ptr il 0 0/\st.s 4=.ptr io 0 0/\st.s 5=.ptr ip 0 0/\st.s 8=.ptr i8 0 0/\st.s 9=vI b) (e-a) ?_ ?_
 .exact⟨a,rows,rfl,YQ _,hae,hrB,hlen,rfl,hJ8,rfl,rfl,rfl,rfl,rfl,rfl⟩
 .rintro q ⟨S,J⟩ ⟨b,done,rfl,hab,hbe,hbB,hdl,hdn,hJ,t1,t3,t4,t5,t8,t9⟩;simp only at hJ t1 t3 t4 t5 t8 t9;refine ab.mix 11 ?_;by_cases H':b<e
  .have q1:((b:Int)<(e:Int))=True:=Yd;obtain⟨h1,h2⟩:=cF he hbB (YQ b) H';obtain⟨h3,h4⟩:=dq he hbB H';have ZE:b<l.length:=by omega
   obtain⟨g1,g2,g3⟩:=K1 hb ZE;have hsz:=mB ZE;obtain⟨v,vo,hout⟩:=hJ.out;have hvc:v.cells=[v]:=by rcases hout with⟨rfl,_⟩|⟨_,rfl,_⟩<;>rfl
   have r8:=hJ.sub _ _ h08;have r8':=r8;rw[lx]at r8';apply sR;simp only[go_sem,seval,q1,t1,t4,t8,t9,r8',vo,hvc];refine ad λi24 Z24 s24 a24 f24=>?_;obtain⟨Yn,ZV,hdA⟩:=hout.Hi s24;have Zl:(done.length+1)*17<=140737488355328:=by omega
   simp only[go_sem,seval,ZV,cT a24,Zl];rw[bG];intro i25 f25;have f25:Z24 i25=none:=f25;have dne:∀(i:Nat) (Zx:af),re Z0 il io ip i≠none->Vc.bt Zx Yn i=Zx i:=λi Zx hk=>by
    cases Yn with
    |none=>rfl
    |some a=>exact bR (λe=>hk (by rw[e];exact(hdA a rfl).1))
   have kl:re Z0 il io ip il≠none:=λh=>(fQ.1 h).1 rfl;have ko:re Z0 il io ip io≠none:=λh=>(fQ.1 h).2.1 rfl;have kp:re Z0 il io ip ip≠none:=λh=>(fQ.1 h).2.2.1 rfl;have ol:=s24 _ _ hJ.rl;have oo:=s24 _ _ vo;have op:=s24 _ _ hJ.rp;have o8:=s24 _ _ r8;have nl:=ao ol f25;have no:=ao oo f25;have np:=ao op f25;have n8:=ao o8 f25;have hsub25:aa Z0 (C' (Vc.bt Z24 Yn) i25 ⟨258,2,done++[.agg [vI r.x,vI r.w]]⟩):=λi o h=>by
    have h1:=s24 _ _ (hJ.sub _ _ h);rw[ae (ao h1 f25),dne _ _ (λhk=>by rw[(fQ.1 hk).2.2.2]at h;cases h)];exact h1
   have pl:(C' (Vc.bt Z24 Yn) i25 ⟨258,2,done++[.agg [vI r.x,vI r.w]]⟩) il=some ⟨22,1,[aH l]⟩:=by rw[ae nl,dne _ _ kl];exact ol
   have po:(C' (Vc.bt Z24 Yn) i25 ⟨258,2,done++[.agg [vI r.x,vI r.w]]⟩) io=some ⟨204,1,[v]⟩:=by rw[ae no,dne _ _ ko];exact oo
   have pp:(C' (Vc.bt Z24 Yn) i25 ⟨258,2,done++[.agg [vI r.x,vI r.w]]⟩) ip=some ⟨256,1,[.fn 162 [.ptr il 0 0,.ptr io 0 0,.ptr ip 0 0]]⟩:=by rw[ae np,dne _ _ kp];exact op
   have p25:(C' (Vc.bt Z24 Yn) i25 ⟨258,2,done++[.agg [vI r.x,vI r.w]]⟩) i25=some ⟨258,2,done++[.agg [vI r.x,vI r.w]]⟩:=ag;have f0:Z0 i25=none:=(hJ.sub.trans s24).none f25;have X2:=λU=>db (U:=U) ZE;have q2:((b:Int)+1)=((b+1:Nat):Int):=by omega
   have q3:((b:Int)+l[b].size)=((b+(YO l b).toNat:Nat):Int):=by rw[hsz];omega
   obtain⟨rx0,rx1,rw0,rw1⟩:=id hr;have r1:Yl .i64 ((b:Int)+1):=ai;have r2:Yl .i64 ((b:Int)+l[b].size):=ai;have r3:Yl .i64 (r.x+l[b].st.Zp):=ai;have r4:Yl .i64 (2*l[b].st.Zp):=ai;have r5:Yl .i64 (r.w-2*l[b].st.Zp):=ai;generalize C' (Vc.bt Z24 Yn) i25 ⟨258,2,done++[.agg [vI r.x,vI r.w]]⟩=Z25 at*;have p8:=hsub25 _ _ h08;rw[lx]at p8;simp only[go_sem,seval,t3,t4,t5,t8,t9,pl,po,pp,p8,hvc,cu,ae no8.symm,ae nlo,ae nop.symm,X2,Nd.cells,r1,r2,r3,r4,r5,df,gF];have hJ9:RmJ l Z0 il io ip (done++[.agg [vI r.x,vI r.w]]) (C' Z25 io ⟨204,1,[.own i25 0 (done.length+1)]⟩):=by
    refine⟨by rw[ae nlo];exact pl,by rw[ae nop.symm];exact pp,hsub25.ax hJ.no,hJ.no,_,ag,aL.new (by simp) (by rw[ae no.symm];exact p25) (fQ.2 ⟨nl.symm,no.symm,np.symm,f0⟩)⟩
   have hc:=ih (b+1) (b+(YO l b).toNat) (qd r l[b].st.Zp) (done++[.agg [vI r.x,vI r.w]]) Z0 _ (by omega) (by omega) (by omega) h4 (zB hr g2) (by simp only[gZ,ZK,List.length_nil];omega) hJ9;rw[<-q2,<-q3]at hc;refine ab.call rfl rfl rfl hc ?_;rintro q' Z' ⟨rfl,hJ'⟩;have cl:=hJ'.rl;apply sR;simp only[go_sem,seval,t1,t3,t4,t5,t8,t9,cl,cu,X2,Nd.cells,r2];have hk:cK l (e-b) b e r=r::(cK l (b+(YO l b).toNat-(b+1)) (b+1) (b+(YO l b).toNat) (qd r (Is l b))++cK l (e-(b+(YO l b).toNat)) (b+(YO l b).toNat) e r):=by
    rw[show e-b=(e-b-1)+1 by omega,cK,ar H',ln (by omega) (e-b-1) _ _ _ (by omega) (YQ _) h4,ln he (e-b-1) _ _ _ (by omega) (YQ _) h3]
   have hln:=mK (l:=l) (e:=b+(YO l b).toNat) (by omega) (b+(YO l b).toNat-(b+1)) (b+1) (qd r l[b].st.Zp) (YQ _) (by omega) h4;refine⟨e-(b+(YO l b).toNat),by omega,b+(YO l b).toNat,_,rfl,by omega,by omega,h3,?_,?_,hJ',by simp[q3]⟩
   .simp only[gZ,ZK,List.length_nil,cL,hln];omega
   .rw[hdn,hk,g1];simp only[dS,gl,lz,List.cons_append,kA];rfl
  .have q1:((b:Int)<(e:Int))=False:=T';apply sR;simp only[go_sem,seval,q1,t1,t9];refine⟨_,_,aa.refl _,Wk.refl (aa.refl _) _,rfl,?_⟩;have hz:cK l (e-b) b e r=[]:=by rw[show e-b=0 by omega];rfl
   rw[hdn,hz];exact hback _ _ (by simpa using hJ)
def NJ(l:List Nd)(hl:dU l)(hb:Zd l=true)(w:Int)(h1:1<=w)(h2:w<=1099511627776):aJ prog 106 [aH l,vI w] (cj (cK l l.length 0 l.length ⟨0,w⟩)):=λU=>by
 refine XU.r (by simp[Qw]) ?_;have hs:=aa.refl U;refine ab.mix 8 ?_;apply sR;simp only[go_sem,seval,Qw,cu,eL];refine ad λi2 Z2 s2 a2 f2=>?_;replace hs:=hs.trans s2;simp only[go_sem,seval,a2,cu];refine ab.ay rfl rfl rfl (Fb l hl hb _) ?_;apply sR;simp only[go_sem,seval];refine ad λi5 Z5 s5 a5 f5=>?_;have n25:=ao a2 f5;replace a2:=s5 _ _ a2;have z5:=hs.none f5;replace hs:=hs.trans s5;have q1:(w<1)=False:=T';have q2:(w>1099511627776)=False:=T';simp only[go_sem,seval,a5,q1,q2];generalize ZN:C' Z5 i5 _=Y5;have b5:Y5 i5=some ⟨254,1,[.agg [aH l]]⟩:=by rw[<-ZN];exact ag
 have b2:Y5 i2=some ⟨22,1,[aH l]⟩:=by rw[<-ZN,ae n25];exact a2
 have hs5:aa U Y5:=by rw[<-ZN];exact hs.ax z5
 clear ZN;refine ad λi6 Z6 s6 a6 f6=>?_;have c5:=s6 _ _ b5;have c2:=s6 _ _ b2;have z6:U i6=none:=hs5.none f6;simp only[go_sem,seval];refine ad λi7 Z7 s7 a7 f7=>?_;have d5:=s7 _ _ c5;have d2:=s7 _ _ c2;have d6:=s7 _ _ a6;have z7:U i7=none:=(hs5.trans s6).none f7;have n57:=ao c5 f7;have n27:=ao c2 f7;have n67:=ao a6 f7;have n26:=ao b2 f6;have hn:=eO l;have hnf:V.YS.cells=[.YS]:=rfl;simp only[go_sem,seval,a7,hnf,d5,ae n57,hn];have hJ:RmJ l U i2 i6 i7 [] (C' Z7 i7 ⟨256,1,[.fn 162 [.ptr i2 0 0,.ptr i6 0 0,.ptr i7 0 0]]⟩):=
  ⟨by rw[ae n27];exact d2,ag,(((hs5.trans s6).trans s7)).ax z7,z6,.aC,by rw[ae n67];exact d6,aL.start⟩
 have hc:=IT l hl hb i2 i6 i7 n26 n27 n67 (l.length+1) 0 l.length ⟨0,w⟩ [] U _ (by omega) (by omega) (by omega) (by simp only[Zd,Ba]at hb;exact hb.2) ⟨by simp,by simp,h1,h2⟩ (by simp) hJ;refine ab.call rfl rfl rfl hc ?_;rintro q Z' ⟨rfl,hJ'⟩;obtain⟨v,vo,hout⟩:=hJ'.out;have hvc:v.cells=[v]:=by rcases hout with⟨rfl,_⟩|⟨_,rfl,_⟩<;>rfl
 apply sR;simp only[go_sem,seval,vo,hvc];have ho:aL U Z' 258 2 v ((cK l l.length 0 l.length ⟨0,w⟩).map lx):=by
  rcases hout with⟨h,h'⟩|⟨id,h1,h2,h3⟩
  .exact .inl ⟨h,by simpa using h'⟩
  .exact .inr ⟨id,by simpa using h1,by simpa using h2,(fQ.1 h3).2.2.2⟩
 exact ho.Ke hJ'.sub rfl
section
variable {P:Program} {n:Nat}
def ab.Tg{st:St}{Q:St->Prop}{k:List It}{i:az}{l:List az}{xa:VX}(hw:aQ st.s i.g=some true)(ho:i.op=.Zz false xa (.c (.iface 0 .undef))){b:Bool}
 (hx:(xa.ev st.s=.aC/\b=true)\/(∃sz r rows,xa.ev st.s=.sl sz (r::rows)/\b=false)\/∃id off m,xa.ev st.s=.own id off (m+1)/\b=false)
 (h:ab P n (.ops l::k) ⟨aO st.s i.dst (.bool b),st.U⟩ Q):ab P n (.ops (i::l)::k) st Q:=by
 refine ab.ins (by rw[ho];simp) hw λF hn I a w o all hi hs next Q' X7=>?_
 subst hn;obtain⟨X9,hd⟩:=bZ hi;rw[ho]at X9;obtain⟨t,x,y,m,c,yt,e,g1,rfl,g2,rfl⟩:=wb X9;have R:=bH hs x;have hX:∃ba len cap,a.eval x=.slice ba len cap/\ba.isNone=b:=by
  rcases hx with⟨hx,rfl⟩|⟨sz,r,rows,hx,rfl⟩|⟨id,off,m,hx,rfl⟩
  .rw[hx]at R;simp only[E']at R;exact⟨none,0,0,R,rfl⟩
  .rw[hx]at R;simp only[E']at R;obtain⟨ba,cap,hX,_,hr⟩:=R;rcases hr with hr|⟨b,off,rfl,_⟩
   .cases hr
   .exact⟨_,_,_,hX,rfl⟩
  .rw[hx]at R;simp only[E']at R;split at R
   .exact R.elim
   .exact absurd R.2.2 (by omega)
   .obtain⟨o,c,hX,_⟩:=R;exact⟨_,_,_,hX,rfl⟩
 obtain⟨ba,len,cap,hX,rfl⟩:=hX;have Yw:(execOp a.eval o).run P w=.ok (.value (.bool ba.isNone)) w:=by
  unfold execOp;rw[g1];have hY:a.eval (.const (.slice none m c))=.slice none m c:=rfl;simp[hX,hY,eqGuard,Lib.run_eql_slice_nil w t e ba len cap m c g2]
 unfold Oper.wp;rw[Yw];refine X7 _ _ _ ⟨I,?_⟩ h;rw[<-hd];exact hs.pure (by simp[E'])
end
open Go.Proofs Go.Proofs.Tryz
def xY(U:af)(v v':V):Prop:=∀J,aa U J->Wk J iJ v v'
def xY.mono{U J:af}{v v':V}(h:xY U v v')(hs:aa U J):xY J v v':=λX' h'=>h X' (hs.trans h')
def xY.at{U:af}{v v':V}(h:xY U v v'):Wk U iJ v v':=h U (aa.refl _)
def aL.Kj{K U:af}{e sz:Nat}{v:V}{rows:List V}(h:aL K U e sz v rows):xY U v (.sl sz rows):=λJ hs=>(h.mono hs).wk (lO _) (lO _)
def wkN{J:af}(v:V):Wk J iJ v v:=Wk.refl (lO _) _
def KG(vf:V){U:af}(fs:List U')(hvf:xY U vf (aG fs))(ws:List Int)(space high:Int)(y:Int)(s:Zv)(hl:fs.length<=1000000)(M':∀f∈fs,f.ok)(B:Int)(hB:∀f∈fs,f.y+f.h<=B)(hB1:B<=1152921504606846976)(hy0:0<=y)(hy:y<=B)(hh:0<=high)(hh1:high<=1099511627776)
 (ZM:Bq2 s.a/\Bq2 s.b)(hw:WOk ws space):au prog 219 [vf,bl ws,vI space,vI high,vI y,bh s] U λr Z'=>aa U Z'/\aL U Z' 294 5 r ((cV fs ws space high s ws.length 0 y).map od):=by
 refine XL.r (by simp[Pw]) ?_;have hs:=aa.refl U;have hn:=fo ws;have hln:=hw.len;refine ab.mix 16 ?_;apply sR;simp only[go_sem,seval,Pw,bh];refine ad λi11 Z11 s11 a11 f11=>?_;replace hs:=hs.trans s11;simp only[go_sem,seval];generalize hG:cV fs ws space high s ws.length 0 y=G;refine ab.loop (λm st=>∃(i k:Nat) (y':Int) (acc:List Ln),m=ws.length-i/\i<=ws.length/\ws.length-i<=k/\acc.length<=i/\G=acc++cV fs ws space high s k i y'/\0<=y'/\y'<=B+1099511627776*i/\aa U st.U/\aL U st.U 294 5 (st.s 13) (acc.map od)/\
  st.U i11=some ⟨288,2,[.agg [vI s.a,vI s.b]]⟩/\st.s 0=vf/\st.s 1=bl ws/\st.s 2=vI space/\st.s 3=vI high/\st.s 4=vI y'/\st.s 11=.ptr i11 0 0/\st.s 14=vI i) ws.length ?_ ?_
 .exact⟨0,ws.length,y,[],rfl,by omega,by omega,by simp,hG.symm,hy0,by omega,hs,aL.start,a11,rfl,rfl,rfl,rfl,rfl,rfl,rfl⟩
 .rintro m ⟨S,J⟩ ⟨i,k,y',acc,rfl,hi,hk,hal,hg,hy1,hy2,G',hout,b11,t0,t1,t2,t3,t4,t11,t14⟩;simp only at G' hout b11 t0 t1 t2 t3 t4 t11 t14;generalize hv13:S 13=v13 at hout;refine ab.mix 16 ?_;by_cases H':i<ws.length
  .have q:((i:Int)<ws.length)=True:=Yd;obtain⟨k,rfl⟩:∃k',k=k'+1:=⟨k-1,by omega⟩
   rw[cV,ar H']at hg;have hty:=BT (space:=space) (width:=kr (dJ fs (lY fs (ws.getD i 0) high s y') high s)) H';have hyr:=fI (w:=ws.getD i 0) (high:=high) (y:=y') (s:=s) hB;have hx:=NN fs ws space high i y' s hl M' ⟨by omega,by omega⟩ ⟨by omega,by omega⟩ ZM hw H';obtain⟨x,hxe⟩:∃x,x=pF fs ws space high i y' s:=⟨_,rfl⟩
   have x1:∃j:Nat,x.to=j/\i<j/\j<=ws.length:=by rw[hxe];exact⟨_,rfl,hty⟩
   have x2:y'<=x.y/\x.y<=max y' B:=by rw[hxe];exact hyr
   rw[<-hxe]at hg hx;clear hxe hty hyr;obtain⟨j,hj,hij,hjl⟩:=x1;rw[hj,eX]at hg;apply sR;simp only[go_sem,seval,t0,t1,t2,t3,t4,t11,t14,b11,hn,q];refine ab.ay rfl rfl rfl (aJ.Cb (args':=[aG fs,bl ws,vI space,vI high,vI i,vI y',bh s]) ⟨(hvf.mono G').at,wkN _,wkN _,wkN _,wkN _,wkN _,wkN _,trivial⟩ hx rfl) ?_;have hc:=CP x;have Ys:=CW x;have YZ:(od x).cells.length=5:=rfl;have hag:V.agg [vI x.fr,vI x.to,vI x.x,vI x.y,vI x.w]=od x:=rfl;apply sR;simp only[go_sem,seval];refine ad λi15 Y15 s15 a15 f15=>?_;simp only[go_sem,seval,a15,hv13,hc,Ys,hag];generalize ZX:C' Y15 i15 _=Z15;have b15:Z15 i15=some ⟨294,5,[.agg [vI x.fr,vI x.to,vI x.x,vI x.y,vI x.w]]⟩:=by rw[<-ZX];exact ag
   have s15':aa J Z15:=by rw[<-ZX];exact s15.ax f15
   clear ZX;refine ad λi30 Z30 s30 a30 f30=>?_;obtain⟨Yn,ZV,Zk,hd1,hd2⟩:=hout.Es (s15'.trans s30);have Zl:(acc.length+1)*41<=140737488355328:=by omega
   have hlm:(acc.map od).length=acc.length:=by simp
   simp only[go_sem,seval,ZV,cT a30,hlm,Zl];refine cO λi31 Z31 s31 a31 f31=>?_;have k31:=(Zk U (aa.refl _) Z30 (G'.trans (s15'.trans s30))).trans s31;have n31:U i31=none:=(G'.trans (s15'.trans s30)).none f31;have c15:Z31 i15=some ⟨294,5,[.agg [vI x.fr,vI x.to,vI x.x,vI x.y,vI x.w]]⟩:=s31 _ _ (by rw[hd2 i15 f15];exact s30 _ _ b15);have c11:Z31 i11=some ⟨288,2,[.agg [vI s.a,vI s.b]]⟩:=s31 _ _ (by rw[hd1 i11 _ b11 (.inr (by simp))];exact s30 _ _ (s15' _ _ b11));have r1:Yl .i64 (x.y+high):=ai;simp only[go_sem,seval,t0,t1,t2,t3,t11,c15,hj,r1];refine⟨_,?_,j,k,x.y+high,acc++[x],rfl,hjl,by omega,by simp;omega,by rw[hg];simp,by omega,by omega,k31,?_,c11,by simp⟩
   .omega
   .rw[gl];exact aL.new (by simp) a31 n31
  .have q:((i:Int)<ws.length)=False:=T';apply sR;simp only[go_sem,seval,t1,t14,hv13,hn,q];have:cV fs ws space high s k i y'=[]:=by
    cases k with
    |zero=>rfl
    |succ k=>rw[cV,av H']
   rw[this,lH]at hg;refine⟨_,_,aa.refl _,Wk.refl (aa.refl _) _,G',?_⟩;rw[hg];exact hout
def Be{P:Program}{f:FuncId}{fn:Func}(hf:P.funcs[f]?=some fn){e sz b:Nat}(hc:cfn P fn=some (oq e sz b))(hk:bV P f=true){K U:af}{v:V}{rows:List V}(hv:aL K U e sz v rows)(YA:rows=[]->v=.aC)(hb:rows.length*(b+1)<=140737488355328):
 au P f [v] U λr Z'=>aa U Z'/\aL U Z' e sz r rows:=by
 refine au.jT hf hc hk (by simp[oq]) ?_;refine ab.mix 3 ?_;rcases hv with⟨rfl,rfl⟩|⟨id,rfl,ho,_⟩
 ·(refine ab.bg ZQ.nothing 8 ?_;simp only[go_sem,seval,fw,oq])
  refine ab.Tg rfl rfl (b:=true) (.inl ⟨rfl,rfl⟩) ?_;apply sR;simp only[go_sem,seval];exact⟨_,_,aa.refl _,Wk.refl (aa.refl _) _,aa.refl _,aL.start⟩
 .obtain⟨m,hm⟩:∃m,rows.length=m+1:=by
   cases rows with
   |nil=>exact absurd (YA rfl) (by simp)
   |cons r rs=>exact⟨rs.length,by simp⟩
  (refine ab.bg ZQ.nothing 8 ?_;simp only[go_sem,seval,fw,oq])
  refine ab.Tg rfl rfl (b:=false) (.inr (.inr ⟨id,0,m,by rw[hm];rfl,rfl⟩)) ?_;apply sR;simp only[go_sem,seval];refine ad λid1 Z1 s1 a1 f1=>?_;obtain⟨Yn,hd,Zk⟩:=(aL.new (K:=U) (e:=e) (sz:=sz) (n:=0) (rows:=[]) rfl a1 f1).dst (aa.refl _);have hsrc:bz Z1 sz (.own id 0 rows.length)=some rows:=by simp[bz,s1 _ _ ho]
  simp only[go_sem,seval,hd,hsrc,hb];refine cO λid2 Z2 s2 a2 f2=>?_;have hs2:=(Zk U (aa.refl _) Z1 s1).trans s2;simp only[go_sem,seval];exact⟨_,_,aa.refl _,Wk.refl (aa.refl _) _,hs2,aL.new (by simp) a2 (s1.none f2)⟩
def L4(vf:V){K U:af}(fs:List U')(hvf:aL K U 150 7 vf (fs.map aK))(YA:fs=[]->vf=.aC)(f:U')(y:Int)(s:Zv)(hl:fs.length<=1000000)(M':∀f∈fs,f.ok)(hy:Bq2 y)(hh:Bq f.h)(hw:Bq f.w)(ZM:Bq2 s.a/\Bq2 s.b):
 au prog 223 [vf,aK f,vI y,bh s] U λr Z'=>aa U Z'/\aL U Z' 150 7 r ((sy fs f y s).map aK):=by
 refine XD.r (by simp[Pj]) ?_;have hs:=aa.refl U;refine ab.mix 14 ?_;apply sR;simp only[go_sem,seval,Pj,aK,bh];refine ad λi5 Z5 s5 a5 f5=>?_;have z5:=hs.none f5;replace hs:=hs.trans s5;simp only[go_sem,seval];refine ad λi7 Z7 s7 a7 f7=>?_;have n57:=ao a5 f7;replace a5:=s7 _ _ a5;replace hs:=hs.trans s7;simp only[go_sem,seval,a7,a5];refine ab.ay rfl rfl rfl (aJ.Cb (args':=[aG fs,aK f,vI y,bh s]) ⟨((hvf.mono hs).Kj).at,wkN _,wkN _,wkN _,trivial⟩ (Qj fs f y s hl M' hy hh hw ZM) rfl) ?_;apply sR;simp only[go_sem,seval,a5,cP];generalize ZN:C' Z7 i5 _=Y5;have b5:Y5 i5=some ⟨150,7,[aK (jc fs f y s)]⟩:=by rw[<-ZN];exact ag
 have hs5:aa U Y5:=by rw[<-ZN];exact hs.ax z5
 clear ZN;have hpl:aK (jc fs f y s)=.agg [vI f.node,vI f.side,vI f.anchor,vI (qY fs f y s),vI (lS fs f y s),vI f.w,vI f.h]:=rfl;rw[hpl]at b5;have hlm:(fs.map aK).length=fs.length:=by simp
 have Zl:(fs.length+1)*57<=140737488355328:=by omega
 have hres:fs.map aK++[V.agg [vI f.node,vI f.side,vI f.anchor,vI (qY fs f y s),vI (lS fs f y s),vI f.w,vI f.h]]=(sy fs f y s).map aK:=by simp[sy,<-hpl]
 have hne':fs.map aK=[]->vf=.aC:=λh=>YA (by simpa using h);refine ab.Et (by kernel_rfl) 8 (.fork [[],[0],[],[2],[1,3,0,2],[4,0,1,2,3]] [0,2] [1,3] [(.leaf [[],[0],[],[1,0,2],[1,0,3,2],[1,0,4,2,3]] [1,3,4,5]),(.leaf [[],[3,2,0],[],[2],[3,2,1,0],[3,2,4,0,1]] [3,1,4,5])]) (by kernel_rfl) ?_;refine GT.nW (its:=[0,4]) (by kernel_rfl) ?_;refine RE.Zy (n:=0) [] [0,4] [⟨(.some 19),(.YH (.t 0)),.none⟩,⟨(.some 21),(.load .true 7 (.t 5)),.none⟩] rfl rfl ?_;apply sG;simp only[go_sem,seval,b5];refine⟨?_,?_⟩
 .refine GT.gr (its:=[2,5,6,8,10]) (by kernel_rfl) ?_;refine RE.call rfl rfl rfl rfl rfl (Be func62 (e62.b.trans rfl) e62.c (hvf.mono hs5) hne' (by simp;omega)) ?_;rintro r Z3 ⟨s3,hout⟩;replace b5:=s3 _ _ b5;have hs3:=hs5.trans s3;refine RE.chk rfl rfl rfl rfl rfl trivial (by simp only[go_sem,seval,b5]) ?_;refine RE.Zy (n:=0) [] [6,8,10] [⟨(.some 22),(.eR 150 7 [(.t 21)]),.none⟩,⟨(.some 23),(.append 150 7 56 (.t 20) (.t 22)),.none⟩,⟨(.some 8),(.YH (.t 23)),.none⟩] rfl rfl ?_;apply sG;simp only[go_sem,seval];refine aW λi9 Z9 s9 a9 f9=>?_;obtain⟨Yn,ZV,Zk⟩:=hout.dst s9;simp only[go_sem,seval,ZV,cT a9,hlm,Zl,hres];refine kQ λYM Z10 s10 YX f10=>?_;have k10:=(Zk U hs5 Z9 (hs3.trans s9)).trans s10;have n10:U YM=none:=(hs3.trans s9).none f10;simp only[go_sem,seval];apply sR;simp only[go_sem,seval];exact⟨_,_,aa.refl _,Wk.refl (aa.refl _) _,k10,aL.new (by simp[sy]) YX n10⟩
 .refine GT.gr (its:=[6,2,8,10]) (by kernel_rfl) ?_;refine RE.Zy (n:=0) [2,8,10] [6] [⟨(.some 22),(.eR 150 7 [(.t 21)]),.none⟩] rfl rfl ?_;apply sG;simp only[go_sem,seval];refine aW λi9 Z9 s9 a9 f9=>?_;simp only[go_sem,seval];refine RE.call rfl rfl rfl rfl rfl (Be func62 (e62.b.trans rfl) e62.c (hvf.mono (hs5.trans s9)) hne' (by simp;omega)) ?_;rintro r Z3 ⟨s3,hout⟩;have a9':=s3 _ _ a9;obtain⟨Yn,ZV,Zk⟩:=hout.dst (aa.refl _);refine RE.Zy (n:=0) [] [8,10] [⟨(.some 23),(.append 150 7 56 (.t 20) (.t 22)),.none⟩,⟨(.some 8),(.YH (.t 23)),.none⟩] rfl rfl ?_;apply sG;simp only[go_sem,seval,ZV,cT a9',hlm,Zl,hres];refine kQ λYM Z10 s10 YX f10=>?_;have k10:=(Zk U (hs5.trans s9) Z3 ((hs5.trans s9).trans s3)).trans s10;have n10:U YM=none:=((hs5.trans s9).trans s3).none f10;simp only[go_sem,seval];apply sR;simp only[go_sem,seval];exact⟨_,_,aa.refl _,Wk.refl (aa.refl _) _,k10,aL.new (by simp[sy]) YX n10⟩
open Go.Proofs Go.Proofs.Tryz
structure Zj where
 (kind node fr to x y w h:Int)
deriving DecidableEq
def dh(a:Zj):V:=.agg [vI a.kind,vI a.node,vI a.fr,vI a.to,vI a.x,vI a.y,vI a.w,vI a.h]
def br(l:List Zj):V:=.sl 8 (l.map dh)
structure WS where
 atoms:List Zj
 B':List U'
 Yg:Int
 Yk:Pn
structure WkJ(l:List Nd)(rs:List Rm)(Z0:af)(iw:Nat)(s:WS)(U:af):Prop where
 sub:aa Z0 U
 no:Z0 iw=none
 row:∃va vf,U iw=some ⟨209,7,[.agg [va,vf,vI s.Yg,vI s.Yk.y,vI s.Yk.m,aH l,cj rs]]⟩/\
  aL (aU Z0 iw) U 137 8 va (s.atoms.map dh)/\aL (aU Z0 iw) U 150 7 vf (s.B'.map aK)/\(s.B'=[]->vf=.aC)
def A1(l:List Rm):(cj l).cells=[cj l]:=rfl
def Ay(l:List Rm):(cj l).stays=true:=rfl
def LV{U:af}{l:List Rm}{i:Nat}(h:i<l.length):bo U 2 (cj l) (.int .i64 i)=some (.rp (lx l[i])):=by simp[cj,bo,h]
def aL.vc{K U:af}{e sz:Nat}{v:V}{rows:List V}(h:aL K U e sz v rows):v.cells=[v]/\v.stays=true:=by rcases h with⟨rfl,_⟩|⟨_,rfl,_⟩<;>exact⟨rfl,rfl⟩
def dY(rs:List Rm)(a:Nat):Zv:=⟨(rs.getD a ⟨0,0⟩).x,(rs.getD a ⟨0,0⟩).x+(rs.getD a ⟨0,0⟩).w⟩
def CO{l:List Nd}{rs:List Rm}{Z0 U:af}{iw:Nat}{s:WS}(hJ:WkJ l rs Z0 iw s U)(a:Nat)(ha:a<rs.length)(hr:rs[a].ok):
 au prog 220 [.ptr iw 0 0,vI a] U λr Z'=>r=bh (dY rs a)/\Z'=U:=by
 obtain⟨va,vf,w1,ha1,hf1,_⟩:=hJ.row;obtain⟨ca,sa⟩:=ha1.vc;obtain⟨cf,sf⟩:=hf1.vc;obtain⟨r1,r2,r3,r4⟩:=hr;have hgd:rs.getD a ⟨0,0⟩=rs[a]:=by simp[ha]
 have X2:=λU=>LV (U:=U) ha;unfold dY;rw[hgd];generalize rs[a]=r at*;have hen:lx r=.agg [vI r.x,vI r.w]:=rfl;have rr:Yl .i64 (r.x+r.w):=ai;refine Xj.r (by simp[Sf]) ?_;refine ab.mix 6 ?_;apply sR;simp only[go_sem,seval,Sf];refine ad λi4 Z4 s4 a4 f4=>?_;have w4:=s4 _ _ w1;simp only[go_sem,seval,w4,X2,hen];refine ad λi5 Z5 s5 a5 f5=>?_;have b4:=s5 _ _ a4;have n45:=ao a4 f5;simp only[go_sem,seval,a5,b4,ae n45,rr];exact ak.pure (((s4.trans s5).ax (s4.none f5)).ax f4) rfl
def tX(a:Zj):(dh a).cells=[vI a.kind,vI a.node,vI a.fr,vI a.to,vI a.x,vI a.y,vI a.w,vI a.h]:=rfl
def Cv(a:Zj):(dh a).stays=true:=rfl
def WS.put(s:WS)(a:Zj):WS:={ s with atoms:=s.atoms++[a],Yk:=⟨a.y+a.h,0⟩ }
def IQ{l:List Nd}{rs:List Rm}{Z0 U:af}{iw:Nat}{s:WS}(hJ:WkJ l rs Z0 iw s U)(a:Zj)(hy:Bq a.y)(hh:Bq a.h)(hn:s.atoms.length<=1000000):
 au prog 221 [.ptr iw 0 0,dh a] U λr Z'=>r=.P' []/\WkJ l rs Z0 iw (s.put a) Z':=by
 obtain⟨va,vf,w1,ha1,hf1,hf2⟩:=hJ.row;obtain⟨ca,sa⟩:=ha1.vc;obtain⟨cf,sf⟩:=hf1.vc;refine UQ.r (by simp[Qh]) ?_;refine ab.mix 4 ?_;apply sR;simp only[go_sem,seval,Qh,tX,Cv];refine ad λi3 Z3 s3 a3 f3=>?_;have w3:=s3 _ _ w1;simp only[go_sem,seval,w3,a3,tX];refine aW λi11 Z11 s11 a11 f11=>?_;obtain⟨Yn,ZV,Zk,hd1,hd2⟩:=ha1.Es (s3.trans s11);have Zl:(s.atoms.length+1)*65<=140737488355328:=by omega
 have hlm:(s.atoms.map dh).length=s.atoms.length:=by simp
 simp only[go_sem,seval,ZV,cT a11,hlm,Zl];rw[fc];intro i12 f12;have f12:Z11 i12=none:=f12;have w11:=s11 _ _ w3;have nw:=ao w11 f12;have b3:=s11 _ _ a3;have n3:=ao b3 f12;have nw3:=ao w1 f3;have hdw:=hd1 iw _ w1 (.inr (by simp));have hd3:=hd2 i3 f3;have cw:(C' (Vc.bt Z11 Yn) i12 ⟨137,8,s.atoms.map dh++[.agg [vI a.kind,vI a.node,vI a.fr,vI a.to,vI a.x,vI a.y,vI a.w,vI a.h]]⟩) iw=some ⟨209,7,[.agg [va,vf,vI s.Yg,vI s.Yk.y,vI s.Yk.m,aH l,cj rs]]⟩:=by rw[ae nw,hdw];exact w11
 have c3:(C' (Vc.bt Z11 Yn) i12 ⟨137,8,s.atoms.map dh++[.agg [vI a.kind,vI a.node,vI a.fr,vI a.to,vI a.x,vI a.y,vI a.w,vI a.h]]⟩) i3=some ⟨137,8,[.agg [vI a.kind,vI a.node,vI a.fr,vI a.to,vI a.x,vI a.y,vI a.w,vI a.h]]⟩:=by rw[ae n3,hd3];exact b3
 have c12:(C' (Vc.bt Z11 Yn) i12 ⟨137,8,s.atoms.map dh++[.agg [vI a.kind,vI a.node,vI a.fr,vI a.to,vI a.x,vI a.y,vI a.w,vI a.h]]⟩) i12=some ⟨137,8,s.atoms.map dh++[.agg [vI a.kind,vI a.node,vI a.fr,vI a.to,vI a.x,vI a.y,vI a.w,vI a.h]]⟩:=ag;have G':aa Z0 (C' (Vc.bt Z11 Yn) i12 ⟨137,8,s.atoms.map dh++[.agg [vI a.kind,vI a.node,vI a.fr,vI a.to,vI a.x,vI a.y,vI a.w,vI a.h]]⟩):=by
  have h1:=Zk Z0 (λi o h=>by rw[aU,av (λe=>by rw[e,hJ.no]at h;cases h)];exact h) Z11 ((hJ.sub.trans s3).trans s11);exact h1.ax (((hJ.sub.trans s3).trans s11).none f12)
 have k12:aU Z0 iw i12=none:=aF.2 ⟨nw.symm,((hJ.sub.trans s3).trans s11).none f12⟩;have hf3:∀o,aL (aU Z0 iw) (C' (Vc.bt Z11 Yn) i12 o) 150 7 vf (s.B'.map aK):=λo=>by
  rcases hf1 with h|⟨id,h1,h2,h3⟩
  .exact .inl h
  .have h4:=s11 _ _ (s3 _ _ h2);exact .inr ⟨id,h1,by rw[ae (ao h4 f12),hd1 id _ h2 (.inr (by simp))];exact h4,h3⟩
 replace hf3:=hf3 ⟨137,8,s.atoms.map dh++[.agg [vI a.kind,vI a.node,vI a.fr,vI a.to,vI a.x,vI a.y,vI a.w,vI a.h]]⟩;generalize C' (Vc.bt Z11 Yn) i12 ⟨137,8,s.atoms.map dh++[.agg [vI a.kind,vI a.node,vI a.fr,vI a.to,vI a.x,vI a.y,vI a.w,vI a.h]]⟩=J at*;simp only[go_sem,seval,cw,cP];have dw:(C' J iw ⟨209,7,[.agg [.own i12 0 (s.atoms.length+1),vf,vI s.Yg,vI s.Yk.y,vI s.Yk.m,aH l,cj rs]]⟩) iw=some ⟨209,7,[.agg [.own i12 0 (s.atoms.length+1),vf,vI s.Yg,vI s.Yk.y,vI s.Yk.m,aH l,cj rs]]⟩:=ag;have d3:(C' J iw ⟨209,7,[.agg [.own i12 0 (s.atoms.length+1),vf,vI s.Yg,vI s.Yk.y,vI s.Yk.m,aH l,cj rs]]⟩) i3=some ⟨137,8,[.agg [vI a.kind,vI a.node,vI a.fr,vI a.to,vI a.x,vI a.y,vI a.w,vI a.h]]⟩:=by rw[ae nw3.symm];exact c3
 have d12:(C' J iw ⟨209,7,[.agg [.own i12 0 (s.atoms.length+1),vf,vI s.Yg,vI s.Yk.y,vI s.Yk.m,aH l,cj rs]]⟩) i12=some ⟨137,8,s.atoms.map dh++[.agg [vI a.kind,vI a.node,vI a.fr,vI a.to,vI a.x,vI a.y,vI a.w,vI a.h]]⟩:=by rw[ae nw.symm];exact c12
 replace G':=G'.ax hJ.no (o:=⟨209,7,[.agg [.own i12 0 (s.atoms.length+1),vf,vI s.Yg,vI s.Yk.y,vI s.Yk.m,aH l,cj rs]]⟩);have hf4:aL (aU Z0 iw) (C' J iw ⟨209,7,[.agg [.own i12 0 (s.atoms.length+1),vf,vI s.Yg,vI s.Yk.y,vI s.Yk.m,aH l,cj rs]]⟩) 150 7 vf (s.B'.map aK):=by
  rcases hf3 with h|⟨id,h1,h2,h3⟩
  .exact .inl h
  .exact .inr ⟨id,h1,by rw[ae (aF.1 h3).1];exact h2,h3⟩
 clear hf3 cw c3 c12;generalize C' J iw ⟨209,7,[.agg [.own i12 0 (s.atoms.length+1),vf,vI s.Yg,vI s.Yk.y,vI s.Yk.m,aH l,cj rs]]⟩=Y2 at*;refine ab.uA (by kernel_rfl) [0,1,2,3,4,5,6,7,8,9,10,11,12] [[],[],[1],[1,2],[1,2,3],[],[5],[],[7],[1,2,3,4,5,6,7,8],[0,1,2,3,4,5,6,7,8,9],[0,1,2,3,4,5,6,7,8,9,10],[0,1,2,3,4,5,6,7,8,9,10,11]] [0,2,4,6,8,10,12,14,16,18,20,22,24] (by kernel_rfl) (by kernel_rfl) ?_;refine RE.Zy (n:=0) [18,20,22,24] [0,2,4,6,8,10,12,14,16] [⟨(.some 16),(.YH (.t 0)),.none⟩,⟨(.some 17),(.YH (.t 0)),.none⟩,⟨(.some 18),(.nilCheck (.t 17)),.none⟩,⟨(.some 19),(.YB .true 3 2 (.t 18)),.none⟩,⟨(.some 20),(.load .true 2 (.t 19)),.none⟩,⟨(.some 21),(.YB .false 5 1 (.t 3)),.none⟩,⟨(.some 22),(.load .false 1 (.t 21)),.none⟩,⟨(.some 23),(.YB .false 7 1 (.t 3)),.none⟩,⟨(.some 24),(.load .false 1 (.t 23)),.none⟩] rfl rfl ?_;apply sG;simp only[go_sem,seval,dw,d3];refine RE.ay rfl rfl rfl rfl rfl (PH s.Yk a.y a.h hy hh _) ?_;refine RE.Zy (n:=0) [] [20,22,24] [⟨(.some 26),(.nilCheck (.t 16)),.none⟩,⟨(.some 27),(.YB .true 3 2 (.t 26)),.none⟩,⟨.none,(.store 2 (.t 27) (.t 25)),.none⟩] rfl rfl ?_;apply sG;simp only[go_sem,seval,dw,gW];apply sR;simp only[go_sem,seval];have Zg:aa Z0 (C' Y2 iw ⟨209,7,[.agg [.own i12 0 (s.atoms.length+1),vf,vI s.Yg,vI (a.y+a.h),vI 0,aH l,cj rs]]⟩):=G'.ax hJ.no;refine⟨_,_,aa.refl _,Wk.refl (aa.refl _) _,rfl,Zg,hJ.no,.own i12 0 (s.atoms.length+1),vf,ag,?_,?_,hf2⟩
 .exact aL.new (by simp[WS.put]) (by rw[ae nw.symm,d12];simp[WS.put];rfl) k12
 .rcases hf4 with h|⟨id,h1,h2,h3⟩
  .exact .inl h
  .exact .inr ⟨id,h1,by rw[ae (aF.1 h3).1];exact h2,h3⟩
def zg{l:List U'}{w high:Int}{s:Zv}:∀(k:Nat) (y:Int),gtJ l y<=k->pQ l w high s (lW l w high s k y)=true
 |0,y,h=>by
  rw[lW];simp only[pQ,kS,Bool.not_eq_true',Zq9];left;cases hn:(gw l y high s).2 with
  |false=>rfl
  |true=>
   have:=Ap (iW hn);omega
 |k+1,y,h=>by
  rw[lW];split
  .rename_i hb;exact hb
  .rename_i hb;simp only[pQ,kS,Bool.not_eq_true',not_or,Bool.not_eq_false]at hb;have:=Ap (iW hb.1);exact zg k _ (by omega)
def HO(l:List U')(w high:Int)(s:Zv)(y:Int):(gw l (qG l w high s y) high s).2=false\/kr (dJ l (qG l w high s y) high s)>=w:=by
 have:=zg (l:=l) (w:=w) (high:=high) (s:=s) l.length y (List.length_filter_le _ _);simp only[pQ,kS,Bool.not_eq_true',Zq9]at this;exact this
def uk{l:List U'}{w high B:Int}{s:Zv}(hB:∀f∈l,f.y+f.h<=B):∀(k:Nat) (y:Int),y<=lW l w high s k y/\lW l w high s k y<=max y B
 |0,y=>by simp only[lW];omega
 |k+1,y=>by
  rw[lW];split
  .omega
  .rename_i hb;simp only[pQ,kS,Bool.not_eq_true',not_or,Bool.not_eq_false]at hb;obtain⟨f,hm,h1,h2⟩:=iW hb.1;have:=uk hB k (gw l y high s).1 (w:=w) (high:=high) (s:=s);have:=hB f hm;omega
def MI(f:U')(s:Zv):s.a<=(kY f s).a/\(kY f s).b<=s.b:=by
 unfold kY;split
 .simp only;omega
 .simp only;omega
def Df:∀(l:List U') (s:Zv),s.a<=(l.foldl (λs f=>kY f s) s).a/\(l.foldl (λs f=>kY f s) s).b<=s.b
 |[],s=>by simp
 |f::l,s=>by
  have h1:=MI f s;have h2:=Df l (kY f s);simp only[j5];omega
def Il(l:List U')(y high:Int)(s:Zv):s.a<=(dJ l y high s).a/\(dJ l y high s).b<=s.b:=Df _ _
structure FOk(B:Int)(f:U'):Prop where
 x0:0<=f.x
 w0:0<=f.w
 w1:f.w<=1099511627776
 h0:0<=f.h
 h1:f.h<=1099511627776
 y0:0<=f.y
 yB:f.y+f.h<=B
 xw:f.x+f.w<=8796093022208
def FOk.ok{B:Int}{f:U'}(h:FOk B f)(hB:B<=1152921504606846976):f.ok:=by
 obtain⟨h1,h2,h3,h4,h5,h6,h7,h8⟩:=h;exact⟨⟨by omega,by omega⟩,⟨by omega,by omega⟩,⟨by omega,by omega⟩,⟨by omega,by omega⟩⟩
def FOk.mono{B C:Int}{f:U'}(h:FOk B f)(hB:B<=C):FOk C f:=by
 obtain⟨h1,h2,h3,h4,h5,h6,h7,h8⟩:=h;exact⟨h1,h2,h3,h4,h5,h6,by omega,h8⟩
def Hc(s:Zv):Prop:=0<=s.a/\s.a<=2199023255552/\0<=s.b/\s.b<=2199023255552
def EN{fs:List U'}{B y:Int}(hB:∀f∈fs,FOk B f):y<=p9 fs y/\p9 fs y<=max y B:=by
 unfold p9;split
 .rename_i h;obtain⟨f,hf,h1,_⟩:=mR h;have:=hB f hf;have h2:(wT f).1=f.y:=rfl;rw[h1,h2];have:=this.yB;have:=(hB f hf).h0;omega
 .omega
def BX{fs:List U'}{B y:Int}(hB:∀f∈fs,FOk B f)(f:U')(s:Zv):y<=lS fs f y s/\lS fs f y s<=max y B:=by
 have h1:=EN (y:=y) hB;have h2:=uk (w:=f.w) (high:=f.h) (s:=s) (λf hf=>(hB f hf).yB) fs.length (p9 fs y);unfold lS qG;omega
def Hl{fs:List U'}{B y:Int}(hB:∀f∈fs,FOk B f){f:U'}{s:Zv}(hs:Hc s)(hy0:0<=y)(hyB:y<=B)(w0:1<=f.w)(w1:f.w<=1099511627776)(h0:0<=f.h)(h1:f.h<=1099511627776):FOk (B+1099511627776) (jc fs f y s):=by
 obtain⟨s1,s2,s3,s4⟩:=hs;have hy:=BX (y:=y) hB f s;have hb:=Il fs (lS fs f y s) f.h s;have hx:0<=qY fs f y s/\qY fs f y s+f.w<=8796093022208:=by
  unfold qY;simp only;have he:=HO fs f.w f.h s (p9 fs y);have e:qG fs f.w f.h s (p9 fs y)=lS fs f y s:=rfl;rw[e]at he;rcases he with h|h
  .have ZU:dJ fs (lS fs f y s) f.h s=s:=Classical.byContradiction λhn=>by
    have:=qt hn;rw[h]at this;cases this
   rw[ZU];split<;>omega
  .unfold kr at h;split at h
   .omega
   .split<;>omega
 exact⟨hx.1,by simp only[jc];omega,by simp only[jc];omega,by simp only[jc];omega,by simp only[jc];omega,by simp only[jc];omega,by simp only[jc];omega,by simpa[jc]using hx.2⟩
def NB{fs:List U'}{B y:Int}(hB:∀f∈fs,FOk B f){f:U'}{s:Zv}(hs:Hc s)(hy0:0<=y)(hyB:y<=B)(w0:1<=f.w)(w1:f.w<=1099511627776)(h0:0<=f.h)(h1:f.h<=1099511627776):∀g∈sy fs f y s,FOk (B+1099511627776) g:=by
 intro g hg;rcases dc.1 hg with hg|hg
 .exact(hB g hg).mono (by omega)
 .simp only[er]at hg;subst hg;exact Hl hB hs hy0 hyB w0 w1 h0 h1
structure Bd(s:WS)(B:Int):Prop where
 fl:∀f∈s.B',FOk B f
 y0:0<=s.Yk.y
 m0:0<=s.Yk.m
 m1:s.Yk.m<=1099511627776
 yB:s.Yk.y+s.Yk.m<=B
def Bd.mono{s:WS}{B C:Int}(h:Bd s B)(hB:B<=C):Bd s C:=⟨λf hf=>(h.fl f hf).mono hB,h.y0,h.m0,h.m1,by have:=h.yB;omega⟩
def WS.mono(l:List Nd)(rs:List Rm)(s:WS)(a:Nat)(n:Nd):WS:=
 let YT:=lY s.B' n.w n.h (dY rs a) (s.Yk.y+s.Yk.m)
 let b:=dJ s.B' YT n.h (dY rs a)
 s.put ⟨2,a,0,0,b.a,YT,n.w,n.h⟩
def eM(a:Nat)(h:Int)(x:Ln):Zj:=⟨1,a,x.fr,x.to,x.x,x.y,x.w,h⟩
def WS.text(rs:List Rm)(s:WS)(a:Nat)(n:Nd):WS:=
 (cV s.B' n.words n.space n.line (dY rs a) n.words.length 0 (s.Yk.y+s.Yk.m)).foldl (λs x=>s.put (eM a n.line x)) s
def WS.float(rs:List Rm)(s:WS)(a:Nat)(n:Nd):WS:=
 { s with B':=sy s.B' ⟨a,n.side,s.atoms.length,0,0,n.w,n.h⟩ (s.Yk.y+s.Yk.m) (dY rs a) }
def WS.enter(s:WS)(t:Sty):WS:=
 let p:=if(dP (nr t.clear) s.B').2 then jY s.Yk (dP (nr t.clear) s.B').1 else s.Yk
 { s with Yk:=eg p t.top t.Yj }
def WS.leave(s:WS)(t:Sty):WS:={ s with Yk:=mA s.Yk t.Yv t.Yc }
def Bd.enter{s:WS}{B:Int}(h:Bd s B){t:Sty}(ht:SOk t):Bd (s.enter t) (B+2199023255552):=by
 obtain⟨hf,h1,h2,h3,h4⟩:=h;have hp:∀p:Pn,0<=p.y->0<=p.m->p.m<=1099511627776->p.y+p.m<=B->Bd { s with Yk:=eg p t.top t.Yj } (B+2199023255552):=by
  intro p g1 g2 g3 g4;have a1:=ht.top;have a2:=ht.Yj;refine⟨λf hf'=>(hf f hf').mono (by omega),?_,?_,?_,?_⟩<;>simp only[eg,vW]<;>(repeat' split)<;>omega
 unfold WS.enter;simp only;split
 .rename_i hm;obtain⟨f,hfm,e1,_⟩:=mR hm;have e2:(nr t.clear f).1=f.y+f.h:=rfl;have hfo:=hf f hfm;have hy:=hfo.yB;rw[e1,e2];refine hp _ ?_ ?_ ?_ ?_<;>(unfold jY;split)<;>(try simp only)<;>omega
 .exact hp _ h1 h2 h3 h4
def Bd.leave{s:WS}{B:Int}(h:Bd s B){t:Sty}(ht:SOk t):Bd (s.leave t) (B+2199023255552):=by
 obtain⟨hf,h1,h2,h3,h4⟩:=h;have a1:=ht.Yv;have a2:=ht.Yc;refine⟨λf hf'=>(hf f hf').mono (by omega),?_,?_,?_,?_⟩<;>simp only[WS.leave,mA,vW]<;>(repeat' split)<;>omega
open Go.Proofs Go.Proofs.Tryz
structure DOk(l:List Nd)(rs:List Rm):Prop where
 u7:l.length<=2000
 isb:Zd l=true
 len:rs.length=l.length
 rok:∀r∈rs,r.ok
def DOk.room{l:List Nd}{rs:List Rm}(h:DOk l rs){a:Nat}(ha:a<l.length):∃h':a<rs.length,rs[a].ok:=⟨by rw[h.len];exact ha,h.rok _ (Zr _)⟩
def DOk.span{l:List Nd}{rs:List Rm}(h:DOk l rs){a:Nat}(ha:a<l.length):Hc (dY rs a):=by
 obtain⟨h',r1,r2,r3,r4⟩:=h.room ha;have e:rs.getD a ⟨0,0⟩=rs[a]:=by simp[h']
 unfold dY Hc;rw[e];simp only;omega
def Hc.bq{s:Zv}(h:Hc s):Bq2 s.a/\Bq2 s.b:=by obtain⟨a,b,c,d⟩:=h;exact⟨⟨by omega,by omega⟩,⟨by omega,by omega⟩⟩
def Bd.flo{s:WS}{B:Int}(h:Bd s B)(hB:B<=1152921504606846976):∀f∈s.B',f.ok:=λf hf=>(h.fl f hf).ok hB
def jX(l:List Nd){a:Nat}(h:a<l.length)(U:af):bo U 20 (aH l) (.int .i64 a)=some (.rp (.agg (Nd.cells l[a]))):=db h
def WkJ.mono{l:List Nd}{rs:List Rm}{Z0 U J:af}{iw:Nat}{s:WS}(hJ:WkJ l rs Z0 iw s U)(hs:aa U J):WkJ l rs Z0 iw s J:=by
 obtain⟨va,vf,w1,h1,h2,h3⟩:=hJ.row;exact⟨hJ.sub.trans hs,hJ.no,va,vf,hs _ _ w1,h1.mono hs,h2.mono hs,h3⟩
def LC{l:List Nd}{rs:List Rm}(hD:DOk l rs){Z0 U:af}{iw:Nat}{s:WS}{B:Int}(hJ:WkJ l rs Z0 iw s U)(hB:Bd s B)(hB1:B<=576460752303423488)(a:Nat)(ha:a<l.length)(hk:l[a].kind=3)(hn:s.atoms.length<=100000)(hfn:s.B'.length<=100000):
 au prog 165 [.ptr iw 0 0,vI a] U λr Z'=>r=.P' []/\WkJ l rs Z0 iw (WS.mono l rs s a l[a]) Z':=by
 obtain⟨va,vf,w1,ha1,hf1,hf2⟩:=hJ.row;obtain⟨ca,sa⟩:=ha1.vc;obtain⟨cf,sf⟩:=hf1.vc;have Yx:=gi hD.isb ha;have hsp:=hD.span ha;obtain⟨har,hrok⟩:=hD.room ha;have X2:=jX l ha;unfold WS.mono;generalize l[a]=n at*;refine U6.r (by simp[Q3]) ?_;refine ab.mix 7 ?_;apply sR;simp only[go_sem,seval,Q3,w1,X2,Nd.cells];refine ad λi4 Z4 s4 a4 f4=>?_;simp only[go_sem,seval,a4,cP];generalize hq4:C' Z4 i4 _=Y4;have b4:Y4 i4=some ⟨59,20,[.agg (Nd.cells n)]⟩:=by rw[<-hq4];exact ag
 rw[Nd.cells]at b4;have s4':aa U Y4:=by rw[<-hq4];exact s4.ax f4
 clear hq4;have w4:=s4' _ _ w1;have hlen:xY Y4 vf (aG s.B'):=(hf1.mono s4').Kj;have hJ4:=hJ.mono s4';have hm:=hB.m1;have hm0:=hB.m0;have hy0:=hB.y0;have hyB:=hB.yB;have hhs:=Yx.h;have hro:=IG s.B' n.w n.h (s.Yk.y+s.Yk.m) (dY rs a) (by omega) (hB.flo (by omega)) ⟨by omega,by omega⟩ ⟨by omega,by omega⟩ hsp.bq;obtain⟨YT,hat⟩:∃z,z=lY s.B' n.w n.h (dY rs a) (s.Yk.y+s.Yk.m):=⟨_,rfl⟩
 have hyr:=fI (w:=n.w) (high:=n.h) (y:=s.Yk.y+s.Yk.m) (s:=dY rs a) (λf hf=>(hB.fl f hf).yB);rw[<-hat]at hro hyr|-;obtain⟨b,hb⟩:∃b,b=dJ s.B' YT n.h (dY rs a):=⟨_,rfl⟩
 rw[<-hb]at hro|-;have fin:∀(S:Nat->V) (J:af) (i5:Nat),aa Y4 J->J i5=some ⟨288,2,[.agg [vI b.a,vI b.b]]⟩->S 0=.ptr iw 0 0->S 1=vI a->S 4=.ptr i4 0 0->S 5=.ptr i5 0 0->S 6=vI YT->
  ab prog 46 [It.code (.reg false [⟨some 35,.YH (.t 0),none⟩,⟨some 36,.YH (.t 1),none⟩,⟨some 37,.YB false 0 1 (.t 5),none⟩,⟨some 38,.load false 1 (.t 37),none⟩,⟨some 39,.YH (.t 6),none⟩,⟨some 40,.YB false 18 1 (.t 4),none⟩,⟨some 41,.load false 1 (.t 40),none⟩,⟨some 42,.YB false 19 1 (.t 4),none⟩,⟨some 43,.load false 1 (.t 42),none⟩,⟨some 44,.build [.int .i64 0,.int .i64 0,.int .i64 0,.int .i64 0,.int .i64 0,.int .i64 0,.int .i64 0,.int .i64 0] [(0,1,.c (.int .i64 2)),(1,1,.t 36),(4,1,.t 38),(5,1,.t 39),(6,1,.t 41),(7,1,.t 43)],none⟩,⟨some 45,.call (.c (.fn 221 [])) [.t 35,.t 44],none⟩])] ⟨S,J⟩
   (λst=>ak (.P' []) st.U λr Z'=>r=.P' []/\WkJ l rs Z0 iw (s.put ⟨2,a,0,0,b.a,YT,n.w,n.h⟩) Z'):=by
  intro S J i5 hτ c5 t0 t1 t4 t5 t6;have c4:=hτ _ _ b4;refine ab.mix 7 ?_;apply sR;simp only[go_sem,seval,t0,t1,t4,t5,t6,c4,c5];refine ab.call rfl rfl rfl (IQ (hJ4.mono hτ) ⟨2,a,0,0,b.a,YT,n.w,n.h⟩ (show Bq YT from⟨by omega,by omega⟩) (show Bq n.h from⟨by omega,by omega⟩) (by omega)) ?_;rintro r Z' ⟨rfl,hJ'⟩;apply sR;simp only[go_sem,seval];exact⟨_,_,aa.refl _,Wk.refl (aa.refl _) _,rfl,hJ'⟩
 refine ab.Et (by kernel_rfl) 8 (.fork [[],[0],[1,0],[2,1,0],[3,2,1,0],[],[5],[],[7],[],[9],[10,9],[11,10,9],[12,11,10,9],[],[],[14,15,13,12,11,10,9],[4,6,8,13,16,3,2,1,0,5,7,12,11,10,9,14,15],[17,4,6,8,13,16,3,2,1,0,5,7,12,11,10,9,14,15],[18,17,4,6,8,13,16,3,2,1,0,5,7,12,11,10,9,14,15],[18,17,4,6,8,13,16,3,2,1,0,5,7,12,11,10,9,14,15],[],[21,19,17,0,1,2,3,4,5,6,7,8,9,10,11,12,13,14,15,16,18],[20,22,0,1,2,3,4,5,6,7,8,9,10,11,12,13,14,15,16,17,18,19,21]] [0,1,2,3,4,5,6,7,8,9,10,11,12,14,15] [13,21] [(.fork [[],[0],[1,0],[2,1,0],[3,2,1,0],[],[5],[],[7],[],[9],[10,9],[11,10,9],[12,11,10,9],[],[],[14,15,13,12,11,10,9],[4,6,8,13,16,3,2,1,0,5,7,12,11,10,9,14,15],[17,4,6,8,13,16,3,2,1,0,5,7,12,11,10,9,14,15],[18,17,4,6,8,13,16,3,2,1,0,5,7,12,11,10,9,14,15],[18,17,4,6,8,13,16,3,2,1,0,5,7,12,11,10,9,14,15],[13,12,11,10,9],[13,12,11,10,9,21,19,17,0,1,2,3,4,5,6,7,8,14,15,16,18],[13,12,11,10,9,20,22,0,1,2,3,4,5,6,7,8,14,15,16,17,18,19,21]] [13] [16,21] [(.fork [[],[0],[1,0],[2,1,0],[3,2,1,0],[],[5],[],[7],[],[9],[10,9],[11,10,9],[12,11,10,9],[],[],[14,15,13,12,11,10,9],[4,6,8,13,16,3,2,1,0,5,7,12,11,10,9,14,15],[17,4,6,8,13,16,3,2,1,0,5,7,12,11,10,9,14,15],[18,17,4,6,8,13,16,3,2,1,0,5,7,12,11,10,9,14,15],[18,17,4,6,8,13,16,3,2,1,0,5,7,12,11,10,9,14,15],[16,14,15,13,12,11,10,9],[16,14,15,13,12,11,10,9,21,19,17,0,1,2,3,4,5,6,7,8,18],[16,14,15,13,12,11,10,9,20,22,0,1,2,3,4,5,6,7,8,17,18,19,21]] [16] [17,21] [(.leaf [[],[0],[1,0],[2,1,0],[3,2,1,0],[],[5],[],[7],[],[9],[10,9],[11,10,9],[12,11,10,9],[],[],[14,15,13,12,11,10,9],[4,6,8,13,16,3,2,1,0,5,7,12,11,10,9,14,15],[17,4,6,8,13,16,3,2,1,0,5,7,12,11,10,9,14,15],[18,17,4,6,8,13,16,3,2,1,0,5,7,12,11,10,9,14,15],[18,17,4,6,8,13,16,3,2,1,0,5,7,12,11,10,9,14,15],[17,4,6,8,13,16,3,2,1,0,5,7,12,11,10,9,14,15],[17,4,6,8,13,16,3,2,1,0,5,7,12,11,10,9,14,15,21,19,18],[17,4,6,8,13,16,3,2,1,0,5,7,12,11,10,9,14,15,20,22,18,19,21]] [17,18,19,20,21,22,23]),(.leaf [[],[0],[1,0],[2,1,0],[3,2,1,0],[],[5],[],[7],[],[9],[10,9],[11,10,9],[12,11,10,9],[],[],[14,15,13,12,11,10,9],[21,16,14,15,13,12,11,10,9,4,6,8,3,2,1,0,5,7],[21,16,14,15,13,12,11,10,9,17,4,6,8,3,2,1,0,5,7],[21,16,14,15,13,12,11,10,9,18,17,4,6,8,3,2,1,0,5,7],[21,16,14,15,13,12,11,10,9,18,17,4,6,8,3,2,1,0,5,7],[16,14,15,13,12,11,10,9],[21,16,14,15,13,12,11,10,9,19,17,0,1,2,3,4,5,6,7,8,18],[21,16,14,15,13,12,11,10,9,20,22,0,1,2,3,4,5,6,7,8,17,18,19]] [21,17,18,19,20,22,23])]),(.leaf [[],[0],[1,0],[2,1,0],[3,2,1,0],[],[5],[],[7],[],[9],[10,9],[11,10,9],[12,11,10,9],[],[],[21,13,12,11,10,9,14,15],[21,13,12,11,10,9,4,6,8,16,3,2,1,0,5,7,14,15],[21,13,12,11,10,9,17,4,6,8,16,3,2,1,0,5,7,14,15],[21,13,12,11,10,9,18,17,4,6,8,16,3,2,1,0,5,7,14,15],[21,13,12,11,10,9,18,17,4,6,8,16,3,2,1,0,5,7,14,15],[13,12,11,10,9],[21,13,12,11,10,9,19,17,0,1,2,3,4,5,6,7,8,14,15,16,18],[21,13,12,11,10,9,20,22,0,1,2,3,4,5,6,7,8,14,15,16,17,18,19]] [21,16,17,18,19,20,22,23])]),(.leaf [[],[0],[1,0],[2,1,0],[3,2,1,0],[],[5],[],[7],[],[9],[10,9],[11,10,9],[21,12,11,10,9],[],[],[21,14,15,13,12,11,10,9],[21,4,6,8,13,16,3,2,1,0,5,7,12,11,10,9,14,15],[21,17,4,6,8,13,16,3,2,1,0,5,7,12,11,10,9,14,15],[21,18,17,4,6,8,13,16,3,2,1,0,5,7,12,11,10,9,14,15],[21,18,17,4,6,8,13,16,3,2,1,0,5,7,12,11,10,9,14,15],[],[21,19,17,0,1,2,3,4,5,6,7,8,9,10,11,12,13,14,15,16,18],[21,20,22,0,1,2,3,4,5,6,7,8,9,10,11,12,13,14,15,16,17,18,19]] [21,13,16,17,18,19,20,22,23])]) (by kernel_rfl) ?_;refine GT.nW (its:=[0,2,4,6,8,10,12,14,16,18,20,22,24,28,30]) (by kernel_rfl) ?_;refine RE.Zy (n:=0) [] [0,2,4,6,8,10,12,14,16,18,20,22,24,28,30] [⟨(.some 15),(.YH (.t 0)),.none⟩,⟨(.some 16),(.nilCheck (.t 15)),.none⟩,⟨(.some 17),(.YB .true 0 3 (.t 16)),.none⟩,⟨(.some 18),(.YB .false 1 1 (.t 17)),.none⟩,⟨(.some 19),(.load .false 1 (.t 18)),.none⟩,⟨(.some 20),(.YB .false 18 1 (.t 4)),.none⟩,⟨(.some 21),(.load .false 1 (.t 20)),.none⟩,⟨(.some 22),(.YB .false 19 1 (.t 4)),.none⟩,⟨(.some 23),(.load .false 1 (.t 22)),.none⟩,⟨(.some 24),(.YH (.t 0)),.none⟩,⟨(.some 25),(.nilCheck (.t 24)),.none⟩,⟨(.some 26),(.YB .true 3 2 (.t 25)),.none⟩,⟨(.some 27),(.load .true 2 (.t 26)),.none⟩,⟨(.some 29),(.YH (.t 0)),.none⟩,⟨(.some 30),(.YH (.t 1)),.none⟩] rfl rfl ?_;apply sG;simp only[go_sem,seval,b4,w4];refine⟨?_,?_⟩
 .refine GT.nW (its:=[26,9,13,17]) (by kernel_rfl) ?_;refine RE.ay rfl rfl rfl rfl rfl (H6 s.Yk ⟨by omega,by omega⟩ ⟨by omega,by omega⟩ _) ?_;refine RE.chk rfl rfl rfl rfl rfl trivial (by simp only[go_sem,seval,w4]) ?_;refine RE.chk rfl rfl rfl rfl rfl trivial (by simp only[go_sem,seval,b4]) ?_;refine RE.chk rfl rfl rfl rfl rfl trivial (by simp only[go_sem,seval,b4]) ?_;refine⟨?_,?_⟩
  .refine GT.nW (its:=[32,9,13,17]) (by kernel_rfl) ?_;refine RE.ay rfl rfl rfl rfl rfl (CO hJ4 a har hrok) ?_;refine RE.chk rfl rfl rfl rfl rfl trivial (by simp only[go_sem,seval,w4]) ?_;refine RE.chk rfl rfl rfl rfl rfl trivial (by simp only[go_sem,seval,b4]) ?_;refine RE.chk rfl rfl rfl rfl rfl trivial (by simp only[go_sem,seval,b4]) ?_;refine⟨?_,?_⟩
   .refine GT.gr (its:=[34,36,38,40,42,44,46]) (by kernel_rfl) ?_;refine RE.ay rfl rfl rfl rfl rfl (aJ.Cb (args':=[aG s.B',vI n.w,vI n.h,vI (s.Yk.y+s.Yk.m),bh (dY rs a)]) ⟨hlen.at,wkN _,wkN _,wkN _,wkN _,trivial⟩ hro rfl) ?_;refine RE.Zy (n:=0) [] [36,38,40,42,44,46] [⟨(.some 14),(.YH (.t 32)),.none⟩,⟨(.some 33),(.ext 0 (.t 14)),.none⟩,⟨(.some 34),(.ext 1 (.t 14)),.none⟩,⟨(.some 5),(.alloc 288 2 (.agg [(.int .i64 0),(.int .i64 0)])),.none⟩,⟨.none,(.store 2 (.t 5) (.t 33)),.none⟩,⟨(.some 6),(.YH (.t 34)),.none⟩] rfl rfl ?_;apply sG;simp only[go_sem,seval];refine aW λi5 Z5 s5 a5 f5=>?_;replace b4:=s5 _ _ b4;replace w4:=s5 _ _ w4;replace hlen:=hlen.mono s5;replace hJ4:=hJ4.mono s5;simp only[go_sem,seval,a5,bh];exact fin _ _ i5 (s5.ax f5) ag rfl rfl rfl rfl rfl
   .refine GT.gr (its:=[42,9,13,17,34,36,38,40,44,46]) (by kernel_rfl) ?_;refine RE.Zy (n:=0) [9,13,17,34,36,38,40,44,46] [42] [⟨(.some 5),(.alloc 288 2 (.agg [(.int .i64 0),(.int .i64 0)])),.none⟩] rfl rfl ?_;apply sG;simp only[go_sem,seval];refine aW λi5 Z5 s5 a5 f5=>?_;replace b4:=s5 _ _ b4;replace w4:=s5 _ _ w4;replace hlen:=hlen.mono s5;replace hJ4:=hJ4.mono s5;simp only[go_sem,seval,bh];refine RE.chk rfl rfl rfl rfl rfl trivial (by simp only[go_sem,seval,w4]) ?_;refine RE.chk rfl rfl rfl rfl rfl trivial (by simp only[go_sem,seval,b4]) ?_;refine RE.chk rfl rfl rfl rfl rfl trivial (by simp only[go_sem,seval,b4]) ?_;refine RE.ay rfl rfl rfl rfl rfl (aJ.Cb (args':=[aG s.B',vI n.w,vI n.h,vI (s.Yk.y+s.Yk.m),bh (dY rs a)]) ⟨hlen.at,wkN _,wkN _,wkN _,wkN _,trivial⟩ hro rfl) ?_;refine RE.Zy (n:=0) [] [36,38,40,44,46] [⟨(.some 14),(.YH (.t 32)),.none⟩,⟨(.some 33),(.ext 0 (.t 14)),.none⟩,⟨(.some 34),(.ext 1 (.t 14)),.none⟩,⟨.none,(.store 2 (.t 5) (.t 33)),.none⟩,⟨(.some 6),(.YH (.t 34)),.none⟩] rfl rfl ?_;apply sG;simp only[go_sem,seval,a5,bh];exact fin _ _ i5 (s5.ax f5) ag rfl rfl rfl rfl rfl
  .refine GT.gr (its:=[42,9,13,17,32,9,13,17,34,36,38,40,44,46]) (by kernel_rfl) ?_;refine RE.Zy (n:=0) [9,13,17,32,9,13,17,34,36,38,40,44,46] [42] [⟨(.some 5),(.alloc 288 2 (.agg [(.int .i64 0),(.int .i64 0)])),.none⟩] rfl rfl ?_;apply sG;simp only[go_sem,seval];refine aW λi5 Z5 s5 a5 f5=>?_;replace b4:=s5 _ _ b4;replace w4:=s5 _ _ w4;replace hlen:=hlen.mono s5;replace hJ4:=hJ4.mono s5;simp only[go_sem,seval];refine RE.chk rfl rfl rfl rfl rfl trivial (by simp only[go_sem,seval,w4]) ?_;refine RE.chk rfl rfl rfl rfl rfl trivial (by simp only[go_sem,seval,b4]) ?_;refine RE.chk rfl rfl rfl rfl rfl trivial (by simp only[go_sem,seval,b4]) ?_;refine RE.ay rfl rfl rfl rfl rfl (CO hJ4 a har hrok) ?_;refine RE.chk rfl rfl rfl rfl rfl trivial (by simp only[go_sem,seval,w4,bh]) ?_;refine RE.chk rfl rfl rfl rfl rfl trivial (by simp only[go_sem,seval,b4,bh]) ?_;refine RE.chk rfl rfl rfl rfl rfl trivial (by simp only[go_sem,seval,b4,bh]) ?_;refine RE.ay rfl rfl rfl rfl rfl (aJ.Cb (args':=[aG s.B',vI n.w,vI n.h,vI (s.Yk.y+s.Yk.m),bh (dY rs a)]) ⟨hlen.at,wkN _,wkN _,wkN _,wkN _,trivial⟩ hro rfl) ?_;refine RE.Zy (n:=0) [] [36,38,40,44,46] [⟨(.some 14),(.YH (.t 32)),.none⟩,⟨(.some 33),(.ext 0 (.t 14)),.none⟩,⟨(.some 34),(.ext 1 (.t 14)),.none⟩,⟨.none,(.store 2 (.t 5) (.t 33)),.none⟩,⟨(.some 6),(.YH (.t 34)),.none⟩] rfl rfl ?_;apply sG;simp only[go_sem,seval,a5,bh];exact fin _ _ i5 (s5.ax f5) ag rfl rfl rfl rfl rfl
 .refine GT.gr (its:=[42,9,13,17,25,26,9,13,17,32,9,13,17,34,36,38,40,44,46]) (by kernel_rfl) ?_;refine RE.Zy (n:=0) [9,13,17,25,26,9,13,17,32,9,13,17,34,36,38,40,44,46] [42] [⟨(.some 5),(.alloc 288 2 (.agg [(.int .i64 0),(.int .i64 0)])),.none⟩] rfl rfl ?_;apply sG;simp only[go_sem,seval];refine aW λi5 Z5 s5 a5 f5=>?_;replace b4:=s5 _ _ b4;replace w4:=s5 _ _ w4;replace hlen:=hlen.mono s5;replace hJ4:=hJ4.mono s5;simp only[go_sem,seval];refine RE.chk rfl rfl rfl rfl rfl trivial (by simp only[go_sem,seval,w4]) ?_;refine RE.chk rfl rfl rfl rfl rfl trivial (by simp only[go_sem,seval,b4]) ?_;refine RE.chk rfl rfl rfl rfl rfl trivial (by simp only[go_sem,seval,b4]) ?_;refine RE.chk rfl rfl rfl rfl rfl trivial (by simp only[go_sem,seval,w4]) ?_;refine RE.ay rfl rfl rfl rfl rfl (H6 s.Yk ⟨by omega,by omega⟩ ⟨by omega,by omega⟩ _) ?_;refine RE.chk rfl rfl rfl rfl rfl trivial (by simp only[go_sem,seval,w4]) ?_;refine RE.chk rfl rfl rfl rfl rfl trivial (by simp only[go_sem,seval,b4]) ?_;refine RE.chk rfl rfl rfl rfl rfl trivial (by simp only[go_sem,seval,b4]) ?_;refine RE.ay rfl rfl rfl rfl rfl (CO hJ4 a har hrok) ?_;refine RE.chk rfl rfl rfl rfl rfl trivial (by simp only[go_sem,seval,w4,bh]) ?_;refine RE.chk rfl rfl rfl rfl rfl trivial (by simp only[go_sem,seval,b4,bh]) ?_;refine RE.chk rfl rfl rfl rfl rfl trivial (by simp only[go_sem,seval,b4,bh]) ?_;refine RE.ay rfl rfl rfl rfl rfl (aJ.Cb (args':=[aG s.B',vI n.w,vI n.h,vI (s.Yk.y+s.Yk.m),bh (dY rs a)]) ⟨hlen.at,wkN _,wkN _,wkN _,wkN _,trivial⟩ hro rfl) ?_;refine RE.Zy (n:=0) [] [36,38,40,44,46] [⟨(.some 14),(.YH (.t 32)),.none⟩,⟨(.some 33),(.ext 0 (.t 14)),.none⟩,⟨(.some 34),(.ext 1 (.t 14)),.none⟩,⟨.none,(.store 2 (.t 5) (.t 33)),.none⟩,⟨(.some 6),(.YH (.t 34)),.none⟩] rfl rfl ?_;apply sG;simp only[go_sem,seval,a5,bh];exact fin _ _ i5 (s5.ax f5) ag rfl rfl rfl rfl rfl
open Go.Proofs Go.Proofs.Tryz
def aL.Fg{Z0 J:af}{iw e sz:Nat}{v:V}{rows:List V}{o:Ob}(h:aL (aU Z0 iw) J e sz v rows):aL (aU Z0 iw) (C' J iw o) e sz v rows:=by
 rcases h with h|⟨id,h1,h2,h3⟩
 .exact .inl h
 .exact .inr ⟨id,h1,by rw[ae (aF.1 h3).1];exact h2,h3⟩
def aL.gJ{Z0 J U:af}{iw e sz:Nat}{v:V}{rows:List V}(h:aL J U e sz v rows)(hs:aa Z0 J){o:Ob}(hw:J iw=some o):aL (aU Z0 iw) U e sz v rows:=by
 rcases h with h|⟨id,h1,h2,h3⟩
 .exact .inl h
 .exact .inr ⟨id,h1,h2,aF.2 ⟨λe=>(by rw[e,hw]at h3;cases h3),hs.none h3⟩⟩
def IS{l:List Nd}{rs:List Rm}(hD:DOk l rs){Z0 U:af}{iw:Nat}{s:WS}{B:Int}(hJ:WkJ l rs Z0 iw s U)(hB:Bd s B)(hB1:B<=576460752303423488)(a:Nat)(ha:a<l.length)(hn:s.atoms.length<=100000)(hfn:s.B'.length<=100000):
 au prog 166 [.ptr iw 0 0,vI a] U λr Z'=>r=.P' []/\WkJ l rs Z0 iw (WS.float rs s a l[a]) Z':=by
 obtain⟨va,vf,w1,ha1,hf1,hf2⟩:=hJ.row;obtain⟨ca,sa⟩:=ha1.vc;obtain⟨cf,sf⟩:=hf1.vc;have hal:cW false va=some (.int .i64 s.atoms.length):=by rw[ha1.len];simp
 have Yx:=gi hD.isb ha;have hsp:=hD.span ha;obtain⟨har,hrok⟩:=hD.room ha;have X2:=jX l ha;unfold WS.float;generalize l[a]=n at*;refine VF.r (by simp[PB]) ?_;refine ab.mix 6 ?_;apply sR;simp only[go_sem,seval,PB,w1,X2,Nd.cells];refine ad λi4 Z4 s4 a4 f4=>?_;have w4':=s4 _ _ w1;have n4:=ao w1 f4;simp only[go_sem,seval,a4,w4',ae n4,hal];generalize hq4:C' Z4 i4 _=Y4;have b4:Y4 i4=some ⟨59,20,[.agg (Nd.cells n)]⟩:=by rw[<-hq4];exact ag
 rw[Nd.cells]at b4;have s4'':aa U Y4:=by rw[<-hq4];exact s4.ax f4
 clear hq4;have w4:=s4'' _ _ w1;refine aW λi5 Z5 s5 a5 f5=>?_;have s5':=s4''.trans s5;have hJ5:=hJ.mono (s5'.ax (o:=⟨150,7,[aK ⟨a,n.side,s.atoms.length,0,0,n.w,n.h⟩]⟩) (s4''.none f5));have hen:aK ⟨a,n.side,s.atoms.length,0,0,n.w,n.h⟩=.agg [vI a,vI n.side,vI s.atoms.length,vI 0,vI 0,vI n.w,vI n.h]:=rfl;rw[hen]at hJ5;simp only[go_sem,seval,a5,cP];generalize ZN:C' Z5 i5 _=Y5 at*;have b5:Y5 i5=some ⟨150,7,[.agg [vI a,vI n.side,vI s.atoms.length,vI 0,vI 0,vI n.w,vI n.h]]⟩:=by rw[<-ZN];exact ag
 have w5:Y5 iw=some ⟨209,7,[.agg [va,vf,vI s.Yg,vI s.Yk.y,vI s.Yk.m,aH l,cj rs]]⟩:=by rw[<-ZN,ae (ao w4 f5)];exact s5 _ _ w4
 have s6:aa U Y5:=by rw[<-ZN];exact s5'.ax (s4''.none f5)
 clear ZN;have hf5:=hf1.mono s6;have hm:=hB.m1;have hm0:=hB.m0;have hy0:=hB.y0;have hyB:=hB.yB;have hws:=Yx.w;have hhs:=Yx.h;have hput:=L4 vf s.B' hf5 hf2 ⟨a,n.side,s.atoms.length,0,0,n.w,n.h⟩ (s.Yk.y+s.Yk.m) (dY rs a) (by omega) (hB.flo (by omega)) ⟨by omega,by omega⟩ (show Bq n.h from⟨by omega,by omega⟩) (show Bq n.w from⟨by omega,by omega⟩) hsp.bq;rw[hen]at hput;have hpne:sy s.B' ⟨a,n.side,s.atoms.length,0,0,n.w,n.h⟩ (s.Yk.y+s.Yk.m) (dY rs a)≠[]:=by simp[sy]
 have hs05:=hJ.sub.trans s6;have w5o:=w5;generalize sy s.B' ⟨a,n.side,s.atoms.length,0,0,n.w,n.h⟩ (s.Yk.y+s.Yk.m) (dY rs a)=fs' at*;refine ab.Et (by kernel_rfl) 8 (.leaf [[],[],[1],[2,1],[3,2,1],[4,3,2,1],[],[],[7],[8,7],[9,8,7],[10,9,8,7],[],[],[12,13,11,10,9,8,7],[5,6,11,14,4,3,2,1,10,9,8,7,12,13],[0,1,2,3,4,5,6,7,8,9,10,11,12,13,14,15],[16,0,1,2,3,4,5,6,7,8,9,10,11,12,13,14,15],[17,0,1,2,3,4,5,6,7,8,9,10,11,12,13,14,15,16],[18,15,0,1,2,3,4,5,6,7,8,9,10,11,12,13,14,17,16]] [0,1,2,3,4,5,6,7,8,9,10,12,13,11,14,15,16,17,18,19]) (by kernel_rfl) ?_;refine GT.gr (its:=[0,2,4,6,8,10,12,14,16,18,20,24,26,22,11,13,28,11,13,30,32,34,36,38]) (by kernel_rfl) ?_;refine RE.Zy (n:=0) [22,11,13,28,11,13,30,32,34,36,38] [0,2,4,6,8,10,12,14,16,18,20,24,26] [⟨(.some 27),(.YH (.t 0)),.none⟩,⟨(.some 28),(.YH (.t 0)),.none⟩,⟨(.some 29),(.nilCheck (.t 28)),.none⟩,⟨(.some 30),(.YB .true 0 3 (.t 29)),.none⟩,⟨(.some 31),(.YB .false 1 1 (.t 30)),.none⟩,⟨(.some 32),(.load .false 1 (.t 31)),.none⟩,⟨(.some 33),(.load .true 7 (.t 5)),.none⟩,⟨(.some 34),(.YH (.t 0)),.none⟩,⟨(.some 35),(.nilCheck (.t 34)),.none⟩,⟨(.some 36),(.YB .true 3 2 (.t 35)),.none⟩,⟨(.some 37),(.load .true 2 (.t 36)),.none⟩,⟨(.some 39),(.YH (.t 0)),.none⟩,⟨(.some 40),(.YH (.t 1)),.none⟩] rfl rfl ?_;apply sG;simp only[go_sem,seval,b5,w5];refine RE.ay rfl rfl rfl rfl rfl (H6 s.Yk ⟨by omega,by omega⟩ ⟨by omega,by omega⟩ _) ?_;refine RE.chk rfl rfl rfl rfl rfl trivial (by simp only[go_sem,seval,w5]) ?_;refine RE.chk rfl rfl rfl rfl rfl trivial (by simp only[go_sem,seval,b5]) ?_;refine RE.ay rfl rfl rfl rfl rfl (CO hJ5 a har hrok) ?_;refine RE.chk rfl rfl rfl rfl rfl trivial (by simp only[go_sem,seval,w5]) ?_;refine RE.chk rfl rfl rfl rfl rfl trivial (by simp only[go_sem,seval,b5]) ?_;refine RE.call rfl rfl rfl rfl rfl hput ?_;rintro r Z7 ⟨s7,hout⟩;replace b5:=s7 _ _ b5;replace w5:=s7 _ _ w5;obtain⟨cr,sr⟩:=hout.vc;refine RE.Zy (n:=0) [] [32,34,36,38] [⟨(.some 43),(.nilCheck (.t 27)),.none⟩,⟨(.some 44),(.YB .true 0 3 (.t 43)),.none⟩,⟨(.some 45),(.YB .false 1 1 (.t 44)),.none⟩,⟨.none,(.store 1 (.t 45) (.t 42)),.none⟩] rfl rfl ?_;apply sG;simp only[go_sem,seval,w5,cr,sr];apply sR;simp only[go_sem,seval];refine⟨_,_,aa.refl _,Wk.refl (aa.refl _) _,rfl,?_⟩;have hfa:=(ha1.mono s6).mono s7;exact⟨(hs05.trans s7).ax hJ.no,hJ.no,va,r,ag,hfa.Fg,(hout.gJ hs05 w5o).Fg,λh=>absurd h hpne⟩
open Go.Proofs Go.Proofs.Tryz
section
variable {P:Program} {n:Nat} {st:St} {Q:St->Prop} {k:List It}
def Go.zO{i:az}{l:List az}{fx:VX}{xs:List VX}{f:FuncId}{caps:List V}{v:V}(hw:aQ st.s i.g=some true)(ho:i.op=.call fx xs)
 (hf:fx.ev st.s=.fn f caps)(hc:∀Z1,aa st.U Z1->au P f (xs.map (·.ev st.s)++caps) Z1 λr Z'=>r=v/\Z'=Z1)(h:Go P n (.d l k) ⟨aO st.s i.dst v,st.U⟩ Q):Go P n (.d (i::l) k) st Q:=by
 refine lI hw ?_;rw[ho];exact⟨f,caps,v,hf,λZ1 h1=>hc Z1 h1,h⟩
end
def jW{fs:List U'}{ws:List Int}{space high B:Int}{s:Zv}(hB:∀f∈fs,f.y+f.h<=B)(h0:0<=high):∀(k i:Nat) (y:Int),∀x∈cV fs ws space high s k i y,y<=x.y/\x.y+high<=max y B+high*k
 |0,_,_,x,hx=>by simp[cV]at hx
 |k+1,i,y,x,hx=>by
  rw[cV]at hx;split at hx
  .have hr:=fI (w:=ws.getD i 0) (high:=high) (y:=y) (s:=s) hB;have e:(pF fs ws space high i y s).y=lY fs (ws.getD i 0) high s y:=rfl;have e2:high*((k+1:Nat):Int)=high*k+high:=by rw[Int.natCast_add,Int.mul_add];simp
   have hk:0<=high*(k:Int):=Int.mul_nonneg h0 (by omega);rcases cg.1 hx with rfl|hx
   .rw[e,e2];omega
   .have:=jW hB h0 k _ _ x hx;rw[e]at this;rw[e2];omega
  .cases hx
def WkJ.pO{l:List Nd}{rs:List Rm}{Z0 U:af}{iw i:Nat}{s:WS}{o:Ob}(hJ:WkJ l rs Z0 iw s U)(hi:U i=some o)(h1:o.elem≠137)(h2:o.elem≠150)(h3:i≠iw):WkJ l rs (C' Z0 i o) iw s U:=by
 obtain⟨va,vf,w1,g1,g2,g3⟩:=hJ.row;have key:∀{e sz:Nat} {v:V} {rows:List V},o.elem≠e->aL (aU Z0 iw) U e sz v rows->aL (aU (C' Z0 i o) iw) U e sz v rows:=λ{e sz v rows} he h=>by
  rcases h with h|⟨id,a1,a2,a3⟩
  .exact .inl h
  .have YA:id≠i:=λe'=>by subst e';rw[a2]at hi;injection hi with hi;subst hi;exact he rfl
   exact .inr ⟨id,a1,a2,aF.2 ⟨(aF.1 a3).1,by rw[ae YA];exact(aF.1 a3).2⟩⟩
 refine⟨λj p h=>?_,by rw[ae h3.symm];exact hJ.no,va,vf,w1,key h1 g1,key h2 g2,g3⟩;by_cases e:j=i
 .subst e;rw[ag]at h;rw[hi];exact h
 .rw[ae e]at h;exact hJ.sub _ _ h
def WkJ.narrow{l:List Nd}{rs:List Rm}{Z0 U:af}{iw i:Nat}{s:WS}{o:Ob}(hJ:WkJ l rs (C' Z0 i o) iw s U)(hi:Z0 i=none)(h3:i≠iw):WkJ l rs Z0 iw s U:=by
 obtain⟨va,vf,w1,g1,g2,g3⟩:=hJ.row;have hs:aa Z0 (C' Z0 i o):=(aa.refl Z0).ax hi;have key:∀{e sz:Nat} {v:V} {rows:List V},aL (aU (C' Z0 i o) iw) U e sz v rows->aL (aU Z0 iw) U e sz v rows:=λ{e sz v rows} h=>by
  rcases h with h|⟨id,a1,a2,a3⟩
  .exact .inl h
  .exact .inr ⟨id,a1,a2,aF.2 ⟨(aF.1 a3).1,hs.none (aF.1 a3).2⟩⟩
 exact⟨hs.trans hJ.sub,hs.none hJ.no,va,vf,w1,key g1,key g2,g3⟩
def lg{U:af}{e sz id:Nat}{rows:List V}{i:Nat}(h:U id=some ⟨e,sz,rows⟩)(hi:i<rows.length):bo U sz (.own id 0 rows.length) (.int .i64 i)=some (.ptr id i 0):=by
 simp[bo,h,hi]
def iG(a:Nat)(h:Int)(s:WS)(L:List Ln):WS:=L.foldl (λs x=>s.put (eM a h x)) s
def Em{a:Nat}{h:Int}{s:WS}{L:List Ln}{j:Nat}(hj:j<L.length):iG a h s (L.take (j+1))=(iG a h s (L.take j)).put (eM a h L[j]):=by
 unfold iG;rw[Zq0 hj,wG];rfl
def sS(a:Nat)(h:Int):∀(L:List Ln) (s:WS),(iG a h s L).atoms.length=s.atoms.length+L.length
 |[],s=>by simp[iG]
 |x::L,s=>by
  have:=sS a h L (s.put (eM a h x));simp only[iG,j5]at this|-;rw[this];simp only[WS.put,gZ,ZK,List.length_nil];omega
def MS{l:List Nd}{rs:List Rm}(hD:DOk l rs){Z0 U:af}{iw:Nat}{s:WS}{B:Int}(hJ:WkJ l rs Z0 iw s U)(hB:Bd s B)(hB1:B<=288230376151711744)(a:Nat)(ha:a<l.length)(hn:s.atoms.length<=100000)(hfn:s.B'.length<=100000)(hwl:l[a].words.length<=10000):
 au prog 164 [.ptr iw 0 0,vI a] U λr Z'=>r=.P' []/\WkJ l rs Z0 iw (WS.text rs s a l[a]) Z':=by
 obtain⟨va,vf,w1,ha1,hf1,hf2⟩:=hJ.row;obtain⟨ca,sa⟩:=ha1.vc;obtain⟨cf,sf⟩:=hf1.vc;have Yx:=gi hD.isb ha;have hsp:=hD.span ha;obtain⟨har,hrok⟩:=hD.room ha;have X2:=jX l ha;unfold WS.text;generalize l[a]=n at*;have hwok:WOk n.words n.space:=⟨by omega,λx hx=>by have:=Yx.words x hx;omega,Yx.space.1,Yx.space.2⟩
 have hm:=hB.m1;have hm0:=hB.m0;have hy0:=hB.y0;have hyB:=hB.yB;have hlb:=Yx.line;refine W5.r (by simp[O1]) ?_;refine ab.mix 7 ?_;apply sR;simp only[go_sem,seval,O1,w1,X2,Nd.cells];refine ad λi4 Z4 s4 a4 f4=>?_;have w4':=s4 _ _ w1;have n4:=ao w1 f4;simp only[go_sem,seval,a4,w4',ae n4];generalize hq4:C' Z4 i4 _=Y4;have b4:Y4 i4=some ⟨59,20,[.agg (Nd.cells n)]⟩:=by rw[<-hq4];exact ag
 rw[Nd.cells]at b4;have s4':aa U Y4:=by rw[<-hq4];exact s4.ax f4
 clear hq4;have hlen:xY Y4 vf (aG s.B'):=(hf1.mono s4').Kj;have hJ4:=hJ.mono s4';refine Go.cm rfl rfl rfl (H6 s.Yk ⟨by omega,by omega⟩ ⟨by omega,by omega⟩) ?_;apply sG;simp only[go_sem,seval];refine Go.zO rfl rfl rfl (λZ8 h8=>CO (hJ4.mono h8) a har hrok) ?_;apply sG;simp only[go_sem,seval];have hLl:=kT s.B' n.words n.space n.line (dY rs a) n.words.length 0 (s.Yk.y+s.Yk.m);have hLb:=jW (ws:=n.words) (space:=n.space) (s:=dY rs a) (λf hf=>(hB.fl f hf).yB) hlb.1 n.words.length 0 (s.Yk.y+s.Yk.m);have H':=λZ8 (h8:aa Y4 Z8)=>(KG vf s.B' (hlen.mono h8) n.words n.space n.line (s.Yk.y+s.Yk.m) (dY rs a) (by omega) (hB.flo (by omega)) B (λf hf=>(hB.fl f hf).yB) (by omega) (by omega) (by omega) hlb.1 hlb.2 hsp.bq hwok).Aj λ_ _ h=>h.2.Ke (v0:=sT (cV s.B' n.words n.space n.line (dY rs a) n.words.length 0 (s.Yk.y+s.Yk.m))) h.1 rfl;generalize cV s.B' n.words n.space n.line (dY rs a) n.words.length 0 (s.Yk.y+s.Yk.m)=L at*;refine Go.zO rfl rfl rfl (λZ8 h8=>H' Z8 h8) ?_;have hnL:cW false (sT L)=some (.int .i64 L.length):=by simp[sT,cW]
 apply sG;simp only[go_sem,seval,hnL];have h0i:Z0 i4=none:=hJ.sub.none f4;have hJw:=hJ4.pO b4 (by simp) (by simp) n4.symm;have hlo:((n.words.length:Nat):Int)<=10000:=by omega
 have hmul:n.line*(n.words.length:Int)<=1099511627776*10000:=Int.mul_le_mul hlb.2 hlo (by omega) (by omega);refine ab.loop (λm st=>∃j:Nat,j<=L.length/\m=L.length-j/\WkJ l rs (C' Z0 i4 ⟨59,20,[.agg [vI n.kind,vI n.size,vI n.st.top,vI n.st.Yv,vI n.st.Yj,vI n.st.Yc,vI n.st.Zp,vI n.st.YN,vI n.st.YY,vI n.st.head,vI n.st.before,vI n.st.after,vI n.st.inside,vI n.st.clear,vI n.line,vI n.space,bl n.words,vI n.side,vI n.w,vI n.h]]⟩) iw (iG a n.line s (L.take j)) st.U/\
  st.s 0=.ptr iw 0 0/\st.s 1=vI a/\st.s 4=.ptr i4 0 0/\st.s 33=sT L/\st.s 34=vI L.length/\st.s 35=vI j) L.length ?_ ?_
 .exact⟨0,by omega,rfl,hJw,rfl,rfl,rfl,rfl,rfl,rfl⟩
 .rintro m ⟨S,J⟩ ⟨j,hj,rfl,hJj,t0,t1,t4,t33,t34,t35⟩;simp only at hJj t0 t1 t4 t33 t34 t35;refine ab.mix 7 ?_;have c4:=hJj.sub _ _ (ag (id:=i4));by_cases H':j<L.length
  .have q:((j:Int)<L.length)=True:=Yd;have hix:∀U,bo U 5 (sT L) (.int .i64 j)=some (.rp (od L[j])):=λU=>by simp[sT,bo,H']
   have Zb:=Em (a:=a) (h:=n.line) (s:=s) H';have Zl:=hLb L[j] (Zr H');have hal:=sS a n.line (L.take j) s;rw[fY]at hal;generalize L[j]=x at*;have hen:od x=.agg [vI x.fr,vI x.to,vI x.x,vI x.y,vI x.w]:=rfl;apply sR;simp only[go_sem,seval,t33,t34,t35,q,hix,hen];refine ad λi6 Z6 s6 a6 f6=>?_;have d4:=s6 _ _ c4;have n46:=ao c4 f6;simp only[go_sem,seval,a6,d4,t0,t1,t4,ae n46];refine ab.call rfl rfl rfl (IQ (hJj.mono (s6.ax f6)) (eM a n.line x) (show Bq x.y from⟨by omega,by omega⟩) (show Bq n.line from⟨by omega,by omega⟩) (by omega)) ?_;rintro r Z' ⟨rfl,hJ'⟩;have r1:Yl .i64 ((j:Int)+1):=ai;apply sR;simp only[go_sem,seval,t0,t1,t4,t33,t34,t35,r1];exact⟨_,by omega,j+1,by omega,rfl,by rw[Zb];exact hJ',by simp⟩
  .have q:((j:Int)<L.length)=False:=T';rw[jj (by omega)]at hJj;apply sR;simp only[go_sem,seval,t34,t35,q];exact⟨_,_,aa.refl _,Wk.refl (aa.refl _) _,rfl,hJj.narrow h0i n4.symm⟩
def nd0:Nd:=⟨0,0,Sty.zero,0,0,[],0,0,0⟩
def YJ(l:List Nd)(a:Nat):Nd:=l.getD a nd0
def jD{l:List Nd}{a:Nat}(h:a<l.length):YJ l a=l[a]:=by simp[YJ,h]
def cS(l:List Nd)(rs:List Rm):Nat->Nat->Nat->WS->WS
 |0,_,_,s=>s
 |k+1,a,e,s=>if a<e then cS l rs k (a+(YO l a).toNat) e
   (if(YJ l a).kind=1 then(cS l rs k (a+1) (a+(YO l a).toNat) (s.enter (YJ l a).st)).leave (YJ l a).st
    else if(YJ l a).kind=2 then s.text rs a (YJ l a)else if(YJ l a).kind=3 then WS.mono l rs s a (YJ l a)else s.float rs a (YJ l a))else s
def o6{l:List Nd}{rs:List Rm}{e:Nat}(he:e<=l.length):∀(k j a:Nat) (s:WS),e-a<=k->e-a<=j->bQ l a e=true->cS l rs k a e s=cS l rs j a e s
 |0,0,_,_,_,_,_=>rfl
 |0,j+1,a,s,h,_,_=>by rw[cS,cS,av (by omega)]
 |k+1,0,a,s,_,h,_=>by rw[cS,cS,av (by omega)]
 |k+1,j+1,a,s,h,h',hr=>by
  rw[cS,cS];by_cases H':a<e
  .obtain⟨h1,h2⟩:=cF he hr (YQ a) H';obtain⟨h3,h4⟩:=dq he hr H';rw[ar H',ar H',o6 (e:=a+(YO l a).toNat) (by omega) k j _ _ (by omega) (by omega) h4,o6 he k j _ _ (by omega) (by omega) h3]
  .rw[av H',av H']
def cst(l:List Nd)(a e:Nat):Nat:=(((l.take e).drop a).map λn=>4+n.words.length).sum
def MJ(l:List Nd)(a:Nat):cst l a a=0:=by unfold cst;rw[List.drop_of_length_le (by rw[fY];omega)];rfl
def mj{l:List Nd}{a m e:Nat}(h1:a<=m)(h2:m<=e)(h3:e<=l.length):cst l a e=cst l a m+cst l m e:=by
 unfold cst;rw[<-List.sum_append_nat,<-gl];congr 2;have e1:l.take m=(l.take e).take m:=by rw[List.take_take,Nat.min_eq_left h2]
 rw[e1]
 conv=>lhs;rw[<-sZ m (l.take e)]
 rw[Eu (by rw[fY,fY];omega)]
def NP{l:List Nd}{a:Nat}(h:a<l.length):cst l a (a+1)=4+l[a].words.length:=by
 unfold cst;rw[Zq0 h,Eu (by rw[fY];omega),List.drop_of_length_le (by rw[fY];omega)];simp
def xJ{l:List Nd}{a e:Nat}(h1:a<e)(h3:e<=l.length):cst l a e=4+(YJ l a).words.length+cst l (a+1) e:=by
 rw[mj (Nat.le_succ a) h1 h3,NP (by omega),jD (by omega)]
structure fL(s:WS)(C:Nat):Prop where
 bd:Bd s (1099511627776*(C:Int))
 YT:s.atoms.length<=C
 fl:s.B'.length<=C
def fL.more{s:WS}{C D:Nat}(h:fL s C)(hD:C<=D):fL s D:=⟨h.bd.mono (by omega),jI h.YT hD,jI h.fl hD⟩
def lU{l:List Nd}{rs:List Rm}{s:WS}{C:Nat}(h:fL s C){n:Nd}(hn:NOk n)(a:Nat):fL (WS.mono l rs s a n) (C+1):=by
 obtain⟨⟨hf,h1,h2,h3,h4⟩,h5,h6⟩:=h;have hyr:=fI (w:=n.w) (high:=n.h) (y:=s.Yk.y+s.Yk.m) (s:=dY rs a) (λf hf'=>(hf f hf').yB);have hh:=hn.h;refine⟨⟨λf hf'=>(hf f hf').mono (by omega),?_,?_,?_,?_⟩,?_,?_⟩<;>simp only[WS.mono,WS.put,gZ,ZK,List.length_nil]<;>omega
def kG{l:List Nd}{rs:List Rm}(hD:DOk l rs){s:WS}{C:Nat}(h:fL s C){a:Nat}(ha:a<l.length){n:Nd}(hn:NOk n)(hk:n.kind=4):fL (s.float rs a n) (C+1):=by
 obtain⟨⟨hf,h1,h2,h3,h4⟩,h5,h6⟩:=h;have hb:=hn.box (.inr hk);have hw:=hn.w;have hh:=hn.h;refine⟨⟨λf hf'=>?_,h1,h2,h3,by simp only[WS.float];omega⟩,by simp only[WS.float];omega,by simp only[WS.float,sy,gZ,ZK,List.length_nil];omega⟩;exact(NB (f:=⟨a,n.side,s.atoms.length,0,0,n.w,n.h⟩) hf (hD.span ha) (by omega) (by omega) (by simp only;omega) (by simp only;omega) (by simp only;omega) (by simp only;omega) f hf').mono (by omega)
def mr{rs:List Rm}{s:WS}{C:Nat}(h:fL s C){n:Nd}(hn:NOk n)(a:Nat):fL (s.text rs a n) (C+n.words.length):=by
 obtain⟨⟨hf,h1,h2,h3,h4⟩,h5,h6⟩:=h;have hl:=hn.line;unfold WS.text;have hLl:=kT s.B' n.words n.space n.line (dY rs a) n.words.length 0 (s.Yk.y+s.Yk.m);have hLb:=jW (ws:=n.words) (space:=n.space) (s:=dY rs a) (λf hf'=>(hf f hf').yB) hl.1 n.words.length 0 (s.Yk.y+s.Yk.m);generalize cV s.B' n.words n.space n.line (dY rs a) n.words.length 0 (s.Yk.y+s.Yk.m)=L at*;have hmul:n.line*(n.words.length:Int)<=1099511627776*(n.words.length:Int):=Int.mul_le_mul_of_nonneg_right hl.2 (by omega);have key:∀(L:List Ln) (t:WS),(∀x∈L,s.Yk.y+s.Yk.m<=x.y/\x.y+n.line<=max (s.Yk.y+s.Yk.m) (1099511627776*(C:Int))+n.line*(n.words.length:Int))->t.B'=s.B'->0<=t.Yk.y->0<=t.Yk.m->t.Yk.m<=1099511627776->
  t.Yk.y+t.Yk.m<=1099511627776*((C+n.words.length:Nat):Int)->(iG a n.line t L).B'=s.B'/\0<=(iG a n.line t L).Yk.y/\0<=(iG a n.line t L).Yk.m/\(iG a n.line t L).Yk.m<=1099511627776/\(iG a n.line t L).Yk.y+(iG a n.line t L).Yk.m<=1099511627776*((C+n.words.length:Nat):Int):=by
  intro L
  induction L with
  |nil=>intro t _ g1 g2 g3 g4 g5;exact⟨g1,g2,g3,g4,g5⟩
  |cons x L ih=>
   intro t hx g1 g2 g3 g4 g5;have hx0:=hx x (by simp);exact ih (t.put (eM a n.line x)) (λy hy=>hx y (by simp[hy])) g1 (by simp only[WS.put,eM];omega) (by simp[WS.put]) (by simp[WS.put]) (by simp only[WS.put,eM];omega)
 obtain⟨k1,k2,k3,k4,k5⟩:=key L s hLb rfl h1 h2 h3 (by omega);have hal:=sS a n.line L s;refine⟨⟨λf hf'=>(hf f ?_).mono (by omega),k2,k3,k4,k5⟩,?_,?_⟩
 .have:f∈(iG a n.line s L).B':=hf';rw[k1]at this;exact this
 .show(iG a n.line s L).atoms.length<=_;omega
 .show(iG a n.line s L).B'.length<=_;rw[k1];omega
def eN{s:WS}{C:Nat}(h:fL s C){t:Sty}(ht:SOk t):fL (s.enter t) (C+2):=⟨(h.bd.enter ht).mono (by omega),by have:=h.YT;simp only[WS.enter];omega,by have:=h.fl;simp only[WS.enter];omega⟩
def ky{s:WS}{C:Nat}(h:fL s C){t:Sty}(ht:SOk t):fL (s.leave t) (C+2):=⟨(h.bd.leave ht).mono (by omega),by have:=h.YT;simp only[WS.leave];omega,by have:=h.fl;simp only[WS.leave];omega⟩
def gv{l:List Nd}{rs:List Rm}(hD:DOk l rs):∀(k a e:Nat) (s:WS) (C:Nat),e-a<=k->a<=e->e<=l.length->bQ l a e=true->fL s C->fL (cS l rs k a e s) (C+cst l a e)
 |0,a,e,s,C,_,hae,_,_,h=>h.more (Nat.le_add_right _ _)
 |k+1,a,e,s,C,hk,hae,he,hr,h=>by
  rw[cS];by_cases H':a<e
  .rw[ar H'];obtain⟨h1,h2⟩:=cF he hr (YQ a) H';obtain⟨h3,h4⟩:=dq he hr H';have Yx:NOk (YJ l a):=by rw[jD (by omega)];exact gi hD.isb (by omega)
   have hc1:cst l a e=cst l a (a+(YO l a).toNat)+cst l (a+(YO l a).toNat) e:=mj (by omega) (by omega) he;have hc2:cst l a (a+(YO l a).toNat)=4+(YJ l a).words.length+cst l (a+1) (a+(YO l a).toNat):=xJ (by omega) (by omega);have step:∀t,fL t (C+cst l a (a+(YO l a).toNat))->fL (cS l rs k (a+(YO l a).toNat) e t) (C+cst l a e):=λt ht=>by
    rw[hc1,<-Nat.add_assoc];exact gv hD k _ e t _ (by omega) (by omega) he h3 ht
   refine step _ ?_;rw[hc2];split
   .have:=ky (gv hD k (a+1) (a+(YO l a).toNat) _ _ (by omega) (by omega) (by omega) h4 (eN h Yx.st)) Yx.st;exact this.more (by omega)
   .split
    .exact(mr h Yx a).more (by omega)
    .split
     .exact(lU h Yx a).more (by omega)
     .rename_i g1 g2 g3;have hk4:(YJ l a).kind=4:=by have:=Yx.kind;omega
      exact(kG hD h (by omega) Yx hk4).more (by omega)
  .rw[av H'];exact h.more (Nat.le_add_right _ _)
open Go.Proofs Go.Proofs.Tryz
def Ty(l:List Nd)(rs:List Rm)(iw:Nat)(a e:Nat)(C:Nat):Prop:=
 ∀(s:WS) (Z0 U:af),WkJ l rs Z0 iw s U->fL s C->au prog 107 [.ptr iw 0 0,vI a,vI e] U λr Z'=>r=.P' []/\WkJ l rs Z0 iw (cS l rs (e-a) a e s) Z'
def WkJ.Ls{l:List Nd}{rs:List Rm}{Z0 J:af}{iw:Nat}{s:WS}(hJ:WkJ l rs Z0 iw s J){va vf:V}{y m:Int}(w:J iw=some ⟨209,7,[.agg [va,vf,vI s.Yg,vI y,vI m,aH l,cj rs]]⟩)(p:Pn):
 WkJ l rs Z0 iw { s with Yk:=p } (C' J iw ⟨209,7,[.agg [va,vf,vI s.Yg,vI p.y,vI p.m,aH l,cj rs]]⟩):=by
 obtain⟨va',vf',w',g1,g2,g3⟩:=hJ.row;rw[w]at w';simp only[aB,Ob.mk.injEq,List.cons.injEq,V.agg.injEq,true_and,and_true]at w';obtain⟨rfl,rfl,_⟩:=w';exact⟨hJ.sub.ax hJ.no,hJ.no,va,vf,ag,g1.Fg,g2.Fg,g3⟩
def kN(s:Sty):V:=.agg [vI s.top,vI s.Yv,vI s.Yj,vI s.Yc,vI s.Zp,vI s.YN,vI s.YY,vI s.head,vI s.before,vI s.after,vI s.inside,vI s.clear]
def Kv{l:List Nd}{rs:List Rm}(hD:DOk l rs){Z0 U:af}{iw:Nat}{s:WS}{C:Nat}(hJ:WkJ l rs Z0 iw s U)(hI:fL s C)(hC:C<=50000)(a:Nat)(ha:a<l.length)(ZO:Ty l rs iw (a+1) (a+(YO l a).toNat) (C+2))(hC2:C+2+cst l (a+1) (a+(YO l a).toNat)<=50000)
 (hsz:a+(YO l a).toNat<=l.length)(hrB:bQ l (a+1) (a+(YO l a).toNat)=true)(ZM:1<=YO l a):
 au prog 163 [.ptr iw 0 0,vI a] U λr Z'=>r=.P' []/\WkJ l rs Z0 iw ((cS l rs (a+(YO l a).toNat-(a+1)) (a+1) (a+(YO l a).toNat) (s.enter l[a].st)).leave l[a].st) Z':=by
 obtain⟨va,vf,w1,ha1,hf1,hf2⟩:=hJ.row;obtain⟨ca,sa⟩:=ha1.vc;obtain⟨cf,sf⟩:=hf1.vc;have Yx:=gi hD.isb ha;have X2:=jX l ha;have hszn:=mB ha;have hfine:=hD.u7;have q3:((a:Int)+l[a].size)=((a+(YO l a).toNat:Nat):Int):=by rw[hszn];omega
 have q2:((a:Int)+1)=((a+1:Nat):Int):=by omega
 have hB:=hI.bd;have hm:=hB.m1;have hm0:=hB.m0;have hy0:=hB.y0;have hyB:=hB.yB;have hfl:=hI.fl;refine Vi.r (by simp[QU]) ?_;refine ab.mix 7 ?_;apply sR;simp only[go_sem,seval,QU,w1,X2,Nd.cells];refine ad λi4 Z4 s4 a4 f4=>?_;have w4':=s4 _ _ w1;have n4:=ao w1 f4;simp only[go_sem,seval,a4,w4',ae n4];generalize hq4:C' Z4 i4 _=Y4;have b4:Y4 i4=some ⟨56,12,[kN l[a].st]⟩:=by rw[<-hq4];exact ag
 have s4':aa U Y4:=by rw[<-hq4];exact s4.ax f4
 clear hq4;have w4:=s4' _ _ w1;have hlen:xY Y4 vf (aG s.B'):=(hf1.mono s4').Kj;have h0i:Z0 i4=none:=hJ.sub.none f4;have hJ4:=(hJ.mono s4').pO b4 (by simp) (by simp) n4.symm;refine Go.zO rfl rfl rfl (λZ8 h8=>aJ.Cb (args':=[aG s.B',vI l[a].st.clear]) ⟨(hlen.mono h8).at,wkN _,trivial⟩ (BO s.B' l[a].st.clear (by omega) (hB.flo (by omega))) rfl) ?_;apply sG;simp only[go_sem,seval];obtain⟨s1,hs1e⟩:∃x,x=s.enter l[a].st:=⟨_,rfl⟩
 have hI1:=eN hI Yx.st;rw[<-hs1e]at hI1|-;unfold WS.enter at hs1e;simp only at hs1e;cases hlow:(dP (nr l[a].st.clear) s.B').2
 .rw[hlow]at hs1e;simp only[eQ,↓reduceIte]at hs1e;simp only[go_sem,seval,cP];obtain⟨p,hp⟩:∃p:Pn,p=s.Yk:=⟨_,rfl⟩
  have hs1e':s1={ s with Yk:=eg p l[a].st.top l[a].st.Yj }:=by rw[hs1e,hp]
  have hJ5:WkJ l rs (C' Z0 i4 ⟨56,12,[kN l[a].st]⟩) iw { s with Yk:=p } Y4:=by rw[hp];exact hJ4
  have w5:Y4 iw=some ⟨209,7,[.agg [va,vf,vI s.Yg,vI p.y,vI p.m,aH l,cj rs]]⟩:=by rw[hp];exact w4
  have b5:=b4;obtain⟨hp1,hp2,hp3,hp4⟩:0<=p.y/\0<=p.m/\p.m<=1099511627776/\p.y+p.m<=1099511627776*(C:Int):=by rw[hp];exact⟨hy0,hm0,hm,hyB⟩
  clear hp;generalize Y4=Y5 at*;rw[kN]at b5;have Ys:=Yx.st;have k1:=Ys.top;have k2:=Ys.Yj;have k3:=Ys.Yv;have k4:=Ys.Yc;refine ab.uA (by kernel_rfl) [0,1,2,3,4,5,6,7,8,9,10,11,12] [[],[],[1],[1,2],[1,2,3],[],[5],[],[7],[1,2,3,4,5,6,7,8],[0,1,2,3,4,5,6,7,8,9],[0,1,2,3,4,5,6,7,8,9,10],[0,1,2,3,4,5,6,7,8,9,10,11]] [0,2,4,6,8,10,12,14,16,18,20,22,24] (by kernel_rfl) (by kernel_rfl) ?_;refine RE.Zy (n:=0) [18,20,22,24] [0,2,4,6,8,10,12,14,16] [⟨(.some 36),(.YH (.t 0)),.none⟩,⟨(.some 37),(.YH (.t 0)),.none⟩,⟨(.some 38),(.nilCheck (.t 37)),.none⟩,⟨(.some 39),(.YB .true 3 2 (.t 38)),.none⟩,⟨(.some 40),(.load .true 2 (.t 39)),.none⟩,⟨(.some 41),(.YB .false 0 1 (.t 4)),.none⟩,⟨(.some 42),(.load .false 1 (.t 41)),.none⟩,⟨(.some 43),(.YB .false 2 1 (.t 4)),.none⟩,⟨(.some 44),(.load .false 1 (.t 43)),.none⟩] rfl rfl ?_;apply sG;simp only[go_sem,seval,w5,b5];refine RE.ay rfl rfl rfl rfl rfl (Gy p l[a].st.top l[a].st.Yj ⟨by omega,by omega⟩ ⟨by omega,by omega⟩ ⟨by omega,by omega⟩ ⟨by omega,by omega⟩ _) ?_;refine RE.Zy (n:=0) [] [20,22,24] [⟨(.some 46),(.nilCheck (.t 36)),.none⟩,⟨(.some 47),(.YB .true 3 2 (.t 46)),.none⟩,⟨.none,(.store 2 (.t 47) (.t 45)),.none⟩] rfl rfl ?_;apply sG;simp only[go_sem,seval,w5,gW];have hJ6:=hJ5.Ls w5 (eg p l[a].st.top l[a].st.Yj);rw[<-hs1e']at hJ6;have r1:Yl .i64 ((a:Int)+1):=ai;have r2:Yl .i64 ((a:Int)+l[a].size):=ai;have w6:=ag (U:=Y5) (id:=iw) (o:=⟨209,7,[.agg [va,vf,vI s.Yg,vI (eg p l[a].st.top l[a].st.Yj).y,vI (eg p l[a].st.top l[a].st.Yj).m,aH l,cj rs]]⟩);have hc:=ZO s1 _ _ hJ6 hI1;rw[<-q2,<-q3]at hc;generalize C' Y5 iw ⟨209,7,[.agg [va,vf,vI s.Yg,vI (eg p l[a].st.top l[a].st.Yj).y,vI (eg p l[a].st.top l[a].st.Yj).m,aH l,cj rs]]⟩=Y6 at*;apply sR;simp only[go_sem,seval,w6,X2,Nd.cells,r1,r2];refine ab.call rfl rfl rfl hc ?_;rintro r Z7 ⟨rfl,hJ7⟩;have hI7:=gv hD (a+(YO l a).toNat-(a+1)) (a+1) (a+(YO l a).toNat) s1 _ (YQ _) (by omega) hsz hrB hI1;have b7:=hJ7.sub _ _ (ag (id:=i4));rw[kN]at b7;generalize cS l rs (a+(YO l a).toNat-(a+1)) (a+1) (a+(YO l a).toNat) s1=s2 at*;obtain⟨va7,vf7,w7,g71,g72,_⟩:=hJ7.row;obtain⟨ca7,_⟩:=g71.vc;obtain⟨cf7,_⟩:=g72.vc;have m1:=hI7.bd.m1;have m2:=hI7.bd.m0;have m3:=hI7.bd.y0;have m4:=hI7.bd.yB;apply sR;simp only[go_sem,seval,cP];refine ab.uA (by kernel_rfl) [0,1,2,3,4,5,6,7,8,9,10,11,12] [[],[],[1],[1,2],[1,2,3],[],[5],[],[7],[1,2,3,4,5,6,7,8],[0,1,2,3,4,5,6,7,8,9],[0,1,2,3,4,5,6,7,8,9,10],[0,1,2,3,4,5,6,7,8,9,10,11]] [0,2,4,6,8,10,12,14,16,18,20,22,24] (by kernel_rfl) (by kernel_rfl) ?_;refine RE.Zy (n:=0) [18,20,22,24] [0,2,4,6,8,10,12,14,16] [⟨(.some 62),(.YH (.t 0)),.none⟩,⟨(.some 63),(.YH (.t 0)),.none⟩,⟨(.some 64),(.nilCheck (.t 63)),.none⟩,⟨(.some 65),(.YB .true 3 2 (.t 64)),.none⟩,⟨(.some 66),(.load .true 2 (.t 65)),.none⟩,⟨(.some 67),(.YB .false 1 1 (.t 4)),.none⟩,⟨(.some 68),(.load .false 1 (.t 67)),.none⟩,⟨(.some 69),(.YB .false 3 1 (.t 4)),.none⟩,⟨(.some 70),(.load .false 1 (.t 69)),.none⟩] rfl rfl ?_;apply sG;simp only[go_sem,seval,w7,b7];refine RE.ay rfl rfl rfl rfl rfl (Gz s2.Yk l[a].st.Yv l[a].st.Yc ⟨by omega,by omega⟩ ⟨by omega,by omega⟩ ⟨by omega,by omega⟩ ⟨by omega,by omega⟩ _) ?_;refine RE.Zy (n:=0) [] [20,22,24] [⟨(.some 72),(.nilCheck (.t 62)),.none⟩,⟨(.some 73),(.YB .true 3 2 (.t 72)),.none⟩,⟨.none,(.store 2 (.t 73) (.t 71)),.none⟩] rfl rfl ?_;apply sG;simp only[go_sem,seval,w7,gW];apply sR;simp only[go_sem,seval];exact⟨_,_,aa.refl _,Wk.refl (aa.refl _) _,rfl,(hJ7.Ls w7 (mA s2.Yk l[a].st.Yv l[a].st.Yc)).narrow h0i n4.symm⟩
 .rw[hlow]at hs1e;simp only[↓reduceIte]at hs1e;obtain⟨f,hfm,e1,_⟩:=mR hlow;have e2:(nr l[a].st.clear f).1=f.y+f.h:=rfl;have hfo:=hB.fl f hfm;generalize (dP (nr l[a].st.clear) s.B').1=low at*;simp only[go_sem,seval,w4];refine ab.ay rfl rfl rfl (Jk s.Yk low ⟨by omega,by omega⟩ ⟨by omega,by omega⟩ _) ?_;apply sR;simp only[go_sem,seval,w4,gW,cP];obtain⟨p,hp⟩:∃p:Pn,p=jY s.Yk low:=⟨_,rfl⟩
  rw[<-hp]at hs1e|-;have hs1e':=hs1e;have hJ5:=hJ4.Ls w4 p;have w5:=ag (U:=Y4) (id:=iw) (o:=⟨209,7,[.agg [va,vf,vI s.Yg,vI p.y,vI p.m,aH l,cj rs]]⟩);have b5:C' Y4 iw ⟨209,7,[.agg [va,vf,vI s.Yg,vI p.y,vI p.m,aH l,cj rs]]⟩ i4=some ⟨56,12,[kN l[a].st]⟩:=by rw[ae n4.symm];exact b4
  obtain⟨hp1,hp2,hp3,hp4⟩:0<=p.y/\0<=p.m/\p.m<=1099511627776/\p.y+p.m<=1099511627776*(C:Int):=by
   rw[hp];have hy:=hfo.yB;have hy0:=hfo.y0;have hh0:=hfo.h0;unfold jY;split<;>(try simp only)<;>omega
  clear hp;generalize C' Y4 iw ⟨209,7,[.agg [va,vf,vI s.Yg,vI p.y,vI p.m,aH l,cj rs]]⟩=Y5 at*;rw[kN]at b5;have Ys:=Yx.st;have k1:=Ys.top;have k2:=Ys.Yj;have k3:=Ys.Yv;have k4:=Ys.Yc;refine ab.uA (by kernel_rfl) [0,1,2,3,4,5,6,7,8,9,10,11,12] [[],[],[1],[1,2],[1,2,3],[],[5],[],[7],[1,2,3,4,5,6,7,8],[0,1,2,3,4,5,6,7,8,9],[0,1,2,3,4,5,6,7,8,9,10],[0,1,2,3,4,5,6,7,8,9,10,11]] [0,2,4,6,8,10,12,14,16,18,20,22,24] (by kernel_rfl) (by kernel_rfl) ?_;refine RE.Zy (n:=0) [18,20,22,24] [0,2,4,6,8,10,12,14,16] [⟨(.some 36),(.YH (.t 0)),.none⟩,⟨(.some 37),(.YH (.t 0)),.none⟩,⟨(.some 38),(.nilCheck (.t 37)),.none⟩,⟨(.some 39),(.YB .true 3 2 (.t 38)),.none⟩,⟨(.some 40),(.load .true 2 (.t 39)),.none⟩,⟨(.some 41),(.YB .false 0 1 (.t 4)),.none⟩,⟨(.some 42),(.load .false 1 (.t 41)),.none⟩,⟨(.some 43),(.YB .false 2 1 (.t 4)),.none⟩,⟨(.some 44),(.load .false 1 (.t 43)),.none⟩] rfl rfl ?_;apply sG;simp only[go_sem,seval,w5,b5];refine RE.ay rfl rfl rfl rfl rfl (Gy p l[a].st.top l[a].st.Yj ⟨by omega,by omega⟩ ⟨by omega,by omega⟩ ⟨by omega,by omega⟩ ⟨by omega,by omega⟩ _) ?_;refine RE.Zy (n:=0) [] [20,22,24] [⟨(.some 46),(.nilCheck (.t 36)),.none⟩,⟨(.some 47),(.YB .true 3 2 (.t 46)),.none⟩,⟨.none,(.store 2 (.t 47) (.t 45)),.none⟩] rfl rfl ?_;apply sG;simp only[go_sem,seval,w5,gW];have hJ6:=hJ5.Ls w5 (eg p l[a].st.top l[a].st.Yj);rw[<-hs1e']at hJ6;have r1:Yl .i64 ((a:Int)+1):=ai;have r2:Yl .i64 ((a:Int)+l[a].size):=ai;have w6:=ag (U:=Y5) (id:=iw) (o:=⟨209,7,[.agg [va,vf,vI s.Yg,vI (eg p l[a].st.top l[a].st.Yj).y,vI (eg p l[a].st.top l[a].st.Yj).m,aH l,cj rs]]⟩);have hc:=ZO s1 _ _ hJ6 hI1;rw[<-q2,<-q3]at hc;generalize C' Y5 iw ⟨209,7,[.agg [va,vf,vI s.Yg,vI (eg p l[a].st.top l[a].st.Yj).y,vI (eg p l[a].st.top l[a].st.Yj).m,aH l,cj rs]]⟩=Y6 at*;apply sR;simp only[go_sem,seval,w6,X2,Nd.cells,r1,r2];refine ab.call rfl rfl rfl hc ?_;rintro r Z7 ⟨rfl,hJ7⟩;have hI7:=gv hD (a+(YO l a).toNat-(a+1)) (a+1) (a+(YO l a).toNat) s1 _ (YQ _) (by omega) hsz hrB hI1;have b7:=hJ7.sub _ _ (ag (id:=i4));rw[kN]at b7;generalize cS l rs (a+(YO l a).toNat-(a+1)) (a+1) (a+(YO l a).toNat) s1=s2 at*;obtain⟨va7,vf7,w7,g71,g72,_⟩:=hJ7.row;obtain⟨ca7,_⟩:=g71.vc;obtain⟨cf7,_⟩:=g72.vc;have m1:=hI7.bd.m1;have m2:=hI7.bd.m0;have m3:=hI7.bd.y0;have m4:=hI7.bd.yB;apply sR;simp only[go_sem,seval,cP];refine ab.uA (by kernel_rfl) [0,1,2,3,4,5,6,7,8,9,10,11,12] [[],[],[1],[1,2],[1,2,3],[],[5],[],[7],[1,2,3,4,5,6,7,8],[0,1,2,3,4,5,6,7,8,9],[0,1,2,3,4,5,6,7,8,9,10],[0,1,2,3,4,5,6,7,8,9,10,11]] [0,2,4,6,8,10,12,14,16,18,20,22,24] (by kernel_rfl) (by kernel_rfl) ?_;refine RE.Zy (n:=0) [18,20,22,24] [0,2,4,6,8,10,12,14,16] [⟨(.some 62),(.YH (.t 0)),.none⟩,⟨(.some 63),(.YH (.t 0)),.none⟩,⟨(.some 64),(.nilCheck (.t 63)),.none⟩,⟨(.some 65),(.YB .true 3 2 (.t 64)),.none⟩,⟨(.some 66),(.load .true 2 (.t 65)),.none⟩,⟨(.some 67),(.YB .false 1 1 (.t 4)),.none⟩,⟨(.some 68),(.load .false 1 (.t 67)),.none⟩,⟨(.some 69),(.YB .false 3 1 (.t 4)),.none⟩,⟨(.some 70),(.load .false 1 (.t 69)),.none⟩] rfl rfl ?_;apply sG;simp only[go_sem,seval,w7,b7];refine RE.ay rfl rfl rfl rfl rfl (Gz s2.Yk l[a].st.Yv l[a].st.Yc ⟨by omega,by omega⟩ ⟨by omega,by omega⟩ ⟨by omega,by omega⟩ ⟨by omega,by omega⟩ _) ?_;refine RE.Zy (n:=0) [] [20,22,24] [⟨(.some 72),(.nilCheck (.t 62)),.none⟩,⟨(.some 73),(.YB .true 3 2 (.t 72)),.none⟩,⟨.none,(.store 2 (.t 73) (.t 71)),.none⟩] rfl rfl ?_;apply sG;simp only[go_sem,seval,w7,gW];apply sR;simp only[go_sem,seval];exact⟨_,_,aa.refl _,Wk.refl (aa.refl _) _,rfl,(hJ7.Ls w7 (mA s2.Yk l[a].st.Yv l[a].st.Yc)).narrow h0i n4.symm⟩
open Go.Proofs Go.Proofs.Tryz
def HW{l:List Nd}{rs:List Rm}{b e:Nat}(he:e<=l.length)(hr:bQ l b e=true)(H':b<e)(s:WS):
 cS l rs (e-b) b e s=cS l rs (e-(b+(YO l b).toNat)) (b+(YO l b).toNat) e
  (if(YJ l b).kind=1 then(cS l rs (b+(YO l b).toNat-(b+1)) (b+1) (b+(YO l b).toNat) (s.enter (YJ l b).st)).leave (YJ l b).st
   else if(YJ l b).kind=2 then s.text rs b (YJ l b)else if(YJ l b).kind=3 then WS.mono l rs s b (YJ l b)else s.float rs b (YJ l b)):=by
 obtain⟨h1,h2⟩:=cF he hr (YQ b) H';obtain⟨h3,h4⟩:=dq he hr H';rw[show e-b=(e-b-1)+1 by omega,cS,ar H',o6 (e:=b+(YO l b).toNat) (by omega) (e-b-1) _ _ _ (by omega) (YQ _) h4,o6 he (e-b-1) _ _ _ (by omega) (YQ _) h3]
def QL{l:List Nd}{rs:List Rm}(hD:DOk l rs)(hwl:∀n∈l,n.words.length<=10000){iw:Nat}:∀(m a e C:Nat),e-a<m->a<=e->e<=l.length->bQ l a e=true->C+cst l a e<=50000->Ty l rs iw a e C:=by
 intro m
 induction m with
 |zero=>intro a e C h;omega
 |succ m ih=>?_
 intro a e C hm hae he hrB hC s Z0 U hJ hI;have hfine:=hD.u7;refine Wm.r (by simp[Pb]) ?_;refine ab.mix 7 ?_;obtain⟨va0,vf0,w0,_,_,_⟩:=hJ.row;have hb1:∀f:FuncId,(V.bm f [.ptr iw 0 0]).cells=[.bm f [.ptr iw 0 0]]:=λ_=>rfl;have Zl:∀f:FuncId,(V.bm f [.ptr iw 0 0]).stays=true:=λ_=>rfl;have hnf:V.YS.cells=[.YS]:=rfl;apply sR;simp only[go_sem,seval,Pb,hb1,Zl];refine ad λi6 Z6 s6 a6 f6=>?_;have n6:=ao w0 f6;simp only[go_sem,seval,a6];generalize hq6:C' Z6 i6 _=Y6;have b6:Y6 i6=some ⟨260,5,[.agg [.YS,.bm 163 [.ptr iw 0 0],.bm 164 [.ptr iw 0 0],.bm 165 [.ptr iw 0 0],.bm 166 [.ptr iw 0 0]]]⟩:=by rw[<-hq6];exact ag
 have s6':aa U Y6:=by rw[<-hq6];exact s6.ax f6
 clear hq6;have h0i:Z0 i6=none:=hJ.sub.none f6;have hJ6:=(hJ.mono s6').pO b6 (by simp) (by simp) n6.symm;refine ab.loop (λq st=>∃(b:Nat) (s':WS),q=e-b/\a<=b/\b<=e/\bQ l b e=true/\cS l rs (e-a) a e s=cS l rs (e-b) b e s'/\fL s' (C+cst l a b)/\
  WkJ l rs (C' Z0 i6 ⟨260,5,[.agg [.YS,.bm 163 [.ptr iw 0 0],.bm 164 [.ptr iw 0 0],.bm 165 [.ptr iw 0 0],.bm 166 [.ptr iw 0 0]]]⟩) iw s' st.U/\
  st.s 0=.ptr iw 0 0/\st.s 1=vI b/\st.s 2=vI e/\st.s 6=.ptr i6 0 0) (e-a) ?_ ?_
 .exact⟨a,s,rfl,YQ _,hae,hrB,rfl,by rw[MJ];exact hI,hJ6,rfl,rfl,rfl,rfl⟩
 .rintro q ⟨S,J⟩ ⟨b,s',rfl,hab,hbe,hbB,heq,hIb,hJb,t0,t1,t2,t6⟩;simp only at hJb t0 t1 t2 t6;refine ab.mix 7 ?_;by_cases H':b<e
  .have q1:((b:Int)<(e:Int))=True:=Yd;obtain⟨h1,h2⟩:=cF he hbB (YQ b) H';obtain⟨h3,h4⟩:=dq he hbB H';have ZE:b<l.length:=by omega
   have Yx:=gi hD.isb ZE;have hsz:=mB ZE;have X2:=jX l ZE;have hc1:cst l a e=cst l a b+cst l b e:=mj hab hbe he;have hc2:cst l b e=cst l b (b+(YO l b).toNat)+cst l (b+(YO l b).toNat) e:=mj (by omega) (by omega) he;have hc3:cst l b (b+(YO l b).toNat)=4+(YJ l b).words.length+cst l (b+1) (b+(YO l b).toNat):=xJ (by omega) (by omega);have hc4:cst l a (b+(YO l b).toNat)=cst l a b+cst l b (b+(YO l b).toNat):=mj hab (by omega) (by omega);have hnd:=jD ZE;have q3:((b:Int)+l[b].size)=((b+(YO l b).toNat:Nat):Int):=by rw[hsz];omega
   have r2:Yl .i64 ((b:Int)+l[b].size):=ai;have Ys:=HW (rs:=rs) he hbB H' s';rw[hnd]at Ys hc3;have c6:=hJb.sub _ _ (ag (id:=i6));obtain⟨va,vf,w1,g1,g2,_⟩:=hJb.row;obtain⟨ca,_⟩:=g1.vc;obtain⟨cf,_⟩:=g2.vc;have hBb:=hIb.bd.mono (C:=288230376151711744) (by omega);have Zg:∀s2,s2=(if l[b].kind=1 then(cS l rs (b+(YO l b).toNat-(b+1)) (b+1) (b+(YO l b).toNat) (s'.enter l[b].st)).leave l[b].st
    else if l[b].kind=2 then s'.text rs b l[b]else if l[b].kind=3 then WS.mono l rs s' b l[b]else s'.float rs b l[b])->fL s2 (C+cst l a (b+(YO l b).toNat)):=by
     rintro s2 rfl;rw[hc4,hc3];split
     .exact(ky (gv hD _ (b+1) (b+(YO l b).toNat) _ _ (YQ _) (by omega) (by omega) h4 (eN hIb Yx.st)) Yx.st).more (by omega)
     .split
      .exact(mr hIb Yx b).more (by omega)
      .split
       .exact(lU hIb Yx b).more (by omega)
       .rename_i g1 g2 g3;exact(kG hD hIb ZE Yx (by have:=Yx.kind;omega)).more (by omega)
   rcases Yx.kind with hk|hk|hk|hk
   .apply sR;simp only[go_sem,seval,q1,t0,t1,t2,t6,w1,c6,X2,Nd.cells,hk];refine ab.ld rfl rfl rfl (Kv hD hJb hIb (by omega) b ZE (ih (b+1) (b+(YO l b).toNat) _ (by omega) (by omega) (by omega) h4 (by omega)) (by omega) (by omega) h4 h2) ?_;rintro r Z' ⟨rfl,hJ'⟩;have w2':=hJ'.row;obtain⟨va2,vf2,w2,g12,g22,_⟩:=w2';obtain⟨ca2,_⟩:=g12.vc;obtain⟨cf2,_⟩:=g22.vc;apply sR;simp only[go_sem,seval,t0,t1,t2,t6,w2,X2,Nd.cells,r2];refine⟨_,?_,b+(YO l b).toNat,_,rfl,by omega,by omega,h3,by rw[heq,Ys],Zg _ rfl,?_,by simp[q3]⟩
    .omega
    .simpa[hk]using hJ'
   .apply sR;simp only[go_sem,seval,q1,t0,t1,t2,t6,w1,c6,X2,Nd.cells,hk];refine ab.ld rfl rfl rfl (MS hD hJb hBb (by omega) b ZE (by have:=hIb.YT;omega) (by have:=hIb.fl;omega) (hwl _ (Zr ZE))) ?_;rintro r Z' ⟨rfl,hJ'⟩;have w2':=hJ'.row;obtain⟨va2,vf2,w2,g12,g22,_⟩:=w2';obtain⟨ca2,_⟩:=g12.vc;obtain⟨cf2,_⟩:=g22.vc;apply sR;simp only[go_sem,seval,t0,t1,t2,t6,w2,X2,Nd.cells,r2];refine⟨_,?_,b+(YO l b).toNat,_,rfl,by omega,by omega,h3,by rw[heq,Ys],Zg _ rfl,?_,by simp[q3]⟩
    .omega
    .simpa[hk]using hJ'
   .apply sR;simp only[go_sem,seval,q1,t0,t1,t2,t6,w1,c6,X2,Nd.cells,hk];refine ab.ld rfl rfl rfl (LC hD hJb hBb (by omega) b ZE hk (by have:=hIb.YT;omega) (by have:=hIb.fl;omega)) ?_;rintro r Z' ⟨rfl,hJ'⟩;have w2':=hJ'.row;obtain⟨va2,vf2,w2,g12,g22,_⟩:=w2';obtain⟨ca2,_⟩:=g12.vc;obtain⟨cf2,_⟩:=g22.vc;apply sR;simp only[go_sem,seval,t0,t1,t2,t6,w2,X2,Nd.cells,r2];refine⟨_,?_,b+(YO l b).toNat,_,rfl,by omega,by omega,h3,by rw[heq,Ys],Zg _ rfl,?_,by simp[q3]⟩
    .omega
    .simpa[hk]using hJ'
   .apply sR;simp only[go_sem,seval,q1,t0,t1,t2,t6,w1,c6,X2,Nd.cells,hk];refine ab.ld rfl rfl rfl (IS hD hJb hBb (by omega) b ZE (by have:=hIb.YT;omega) (by have:=hIb.fl;omega)) ?_;rintro r Z' ⟨rfl,hJ'⟩;have w2':=hJ'.row;obtain⟨va2,vf2,w2,g12,g22,_⟩:=w2';obtain⟨ca2,_⟩:=g12.vc;obtain⟨cf2,_⟩:=g22.vc;apply sR;simp only[go_sem,seval,t0,t1,t2,t6,w2,X2,Nd.cells,r2];refine⟨_,?_,b+(YO l b).toNat,_,rfl,by omega,by omega,h3,by rw[heq,Ys],Zg _ rfl,?_,by simp[q3]⟩
    .omega
    .simpa[hk]using hJ'
  .have q1:((b:Int)<(e:Int))=False:=T';apply sR;simp only[go_sem,seval,q1,t1,t2];refine⟨_,_,aa.refl _,Wk.refl (aa.refl _) _,rfl,?_⟩;have hz:cS l rs (e-b) b e s'=s':=by rw[show e-b=0 by omega];rfl
   rw[heq,hz];exact hJb.narrow h0i n6.symm
open Go.Proofs Go.Proofs.Tryz
def oH(n:Nat)(f:U'):U':={ f with anchor:=max 0 (min f.anchor ((n:Int)-1)) }
def DI(s:WS):Int:=if(dP (nr 3) s.B').2 then max (s.Yk.y+s.Yk.m) (dP (nr 3) s.B').1 else s.Yk.y+s.Yk.m
def WS.fin(s:WS):WS:={ s with Yg:=DI s,B':=s.B'.map (oH s.atoms.length) }
def iK(n j:Nat)(l:List U'):List U':=(l.take j).map (oH n)++l.drop j
def o9(n j:Nat)(l:List U'):(iK n j l).length=l.length:=by unfold iK;simp;omega
def zy{n j:Nat}{l:List U'}(h:j<l.length):(iK n j l)[j]?=some l[j]:=by
 unfold iK;rw[LG (by simp;omega)];simp[h,Nat.min_eq_left (Nat.le_of_lt h)]
def ze{n j:Nat}{l:List U'}(h:j<l.length):(iK n j l).set j (oH n l[j])=iK n (j+1) l:=by
 unfold iK;have e1:((l.take j).map (oH n)).length=j:=by simp;omega
 have e2:l.drop j=l[j]::l.drop (j+1):=ia h;rw[List.set_append_right _ _ (by omega),e1,Nat.sub_self,e2,List.set_cons_zero,Zq0 h,gl];simp
def WkJ.OB{l:List Nd}{rs:List Rm}{Z0 J:af}{iw:Nat}{s:WS}(hJ:WkJ l rs Z0 iw s J){va vf:V}{h0:Int}(w:J iw=some ⟨209,7,[.agg [va,vf,vI h0,vI s.Yk.y,vI s.Yk.m,aH l,cj rs]]⟩)(h:Int):
 WkJ l rs Z0 iw { s with Yg:=h } (C' J iw ⟨209,7,[.agg [va,vf,vI h,vI s.Yk.y,vI s.Yk.m,aH l,cj rs]]⟩):=by
 obtain⟨va',vf',w',g1,g2,g3⟩:=hJ.row;rw[w]at w';simp only[aB,Ob.mk.injEq,List.cons.injEq,V.agg.injEq,true_and,and_true]at w';obtain⟨rfl,rfl,_⟩:=w';exact⟨hJ.sub.ax hJ.no,hJ.no,va,vf,ag,g1.Fg,g2.Fg,g3⟩
def R7{l:List Nd}{rs:List Rm}{Z0 U:af}{iw:Nat}{s:WS}{C:Nat}(hJ:WkJ l rs Z0 iw s U)(hI:fL s C)(hC:C<=100000):
 au prog 108 [.ptr iw 0 0] U λr Z'=>r=.P' []/\WkJ l rs Z0 iw s.fin Z':=by
 obtain⟨va,vf,w1,ha1,hf1,hf2⟩:=hJ.row;obtain⟨ca,sa⟩:=ha1.vc;obtain⟨cf,sf⟩:=hf1.vc;have hB:=hI.bd;have hm:=hB.m1;have hm0:=hB.m0;have hy0:=hB.y0;have hyB:=hB.yB;have hfl:=hI.fl;have hal:=hI.YT;have hlf:cW false vf=some (.int .i64 s.B'.length):=by rw[hf1.len];simp
 refine Xm.r (by simp[Rp]) ?_;refine ab.mix 5 ?_;apply sR;simp only[go_sem,seval,Rp,w1];refine ab.ay rfl rfl rfl (H6 s.Yk ⟨by omega,by omega⟩ ⟨by omega,by omega⟩ _) ?_;apply sR;simp only[go_sem,seval,w1];have hJ2:=hJ.OB w1 (s.Yk.y+s.Yk.m);have w2:=ag (U:=U) (id:=iw) (o:=⟨209,7,[.agg [va,vf,vI (s.Yk.y+s.Yk.m),vI s.Yk.y,vI s.Yk.m,aH l,cj rs]]⟩);have hf3:=hf1.Fg (o:=⟨209,7,[.agg [va,vf,vI (s.Yk.y+s.Yk.m),vI s.Yk.y,vI s.Yk.m,aH l,cj rs]]⟩);generalize C' U iw ⟨209,7,[.agg [va,vf,vI (s.Yk.y+s.Yk.m),vI s.Yk.y,vI s.Yk.m,aH l,cj rs]]⟩=Y2 at*;refine ab.ay rfl rfl rfl (aJ.Cb (args':=[aG s.B',vI 3]) ⟨hf3.Kj.at,wkN _,trivial⟩ (BO s.B' 3 (by omega) (hB.flo (by omega))) rfl) ?_;cases hlow:(dP (nr 3) s.B').2
 .have hh:DI s=s.Yk.y+s.Yk.m:=by unfold DI;rw[hlow];rfl
  apply sR;simp only[go_sem,seval,w2,hlf];have hJ3:WkJ l rs Z0 iw { s with Yg:=DI s } Y2:=by rw[hh];exact hJ2
  refine ab.loop (λm st=>∃j:Nat,j<=s.B'.length/\m=s.B'.length-j/\WkJ l rs Z0 iw { s with Yg:=DI s,B':=iK s.atoms.length j s.B' } st.U/\st.s 0=.ptr iw 0 0/\st.s 40=vI s.B'.length/\st.s 41=vI j) s.B'.length ?_ ?_
  .exact⟨0,by omega,rfl,by simpa[iK]using hJ3,rfl,rfl,rfl⟩
  .rintro m ⟨S,J⟩ ⟨j,hj,rfl,hJj,t0,t40,t41⟩;simp only at hJj t0 t40 t41;refine ab.mix 5 ?_;by_cases H':j<s.B'.length
   .have q:((j:Int)<s.B'.length)=True:=Yd;obtain⟨va4,vf4,w4,g1,g2,g3⟩:=hJj.row;simp only at w4 g1 g2 g3;obtain⟨ca4,_⟩:=g1.vc;have hla4:cW false va4=some (.int .i64 s.atoms.length):=by rw[g1.len];simp
    have hlen4:=o9 s.atoms.length j s.B';rcases g2 with⟨_,h0⟩|⟨id,rfl,h2,h3⟩
    .exfalso;have:=congrArg List.length h0;rw[cL,hlen4]at this;simp only[List.length_nil]at this;omega
    have hget:=zy (n:=s.atoms.length) H';have hset:=ze (n:=s.atoms.length) H';have hget2:((iK s.atoms.length j s.B').map aK)[j]?=some (aK s.B'[j]):=by rw[qJ,hget];rfl
    have hrl:((iK s.atoms.length j s.B').map aK).length=s.B'.length:=by rw[cL,hlen4]
    have O':∀n,n=s.B'.length->bo J 7 (.own id 0 n) (.int .i64 j)=some (.ptr id j 0):=λn hn=>by subst hn;rw[<-hrl];exact lg h2 (by rw[hrl];exact H')
    generalize hfj:s.B'[j]=f at*;have hen:aK f=.agg [vI f.node,vI f.side,vI f.anchor,vI f.x,vI f.y,vI f.w,vI f.h]:=rfl;rw[hen]at hget2;have r1:Yl .i64 ((s.atoms.length:Int)-1):=ai;have r2:Yl .i64 ((j:Int)+1):=ai;have cf4:(V.own id 0 s.B'.length).cells=[.own id 0 s.B'.length]:=rfl;rw[hrl]at w4;apply sR;simp only[go_sem,seval,t0,t40,t41,q,w4,hla4,h2,O' _ rfl,hget2,r1,r2,df,gF];have YA:iw≠id:=(aF.1 h3).1.symm;have hlen5:=o9 s.atoms.length (j+1) s.B';refine⟨_,by omega,j+1,by omega,rfl,⟨hJj.sub.ax (aF.1 h3).2,hJj.no,va4,.own id 0 s.B'.length,by rw[ae YA];exact w4,?_,.inr ⟨id,by rw[cL,hlen5],?_,h3⟩,λh=>?_⟩,rfl⟩
    .rcases g1 with h|⟨i1,k1,k2,k3⟩
     .exact .inl h
     .have hne1:i1≠id:=λe=>by rw[e,h2]at k2;simp at k2
      exact .inr ⟨i1,k1,by rw[ae hne1];exact k2,k3⟩
    .rw[ag,<-hset,List.map_set];rfl
    .have:=congrArg List.length h;rw[hlen5]at this;simp only[List.length_nil]at this;omega
   .have q:((j:Int)<s.B'.length)=False:=T';apply sR;simp only[go_sem,seval,t40,t41,q];refine⟨_,_,aa.refl _,Wk.refl (aa.refl _) _,rfl,?_⟩;have he:iK s.atoms.length j s.B'=s.B'.map (oH s.atoms.length):=by
     unfold iK;rw[jj (by omega),List.drop_of_length_le (by omega),lH]
    rw[he]at hJj;exact hJj
 .have hh:DI s=max (s.Yk.y+s.Yk.m) (dP (nr 3) s.B').1:=by unfold DI;rw[hlow];rfl
  generalize (dP (nr 3) s.B').1=low at*;apply sR;simp only[go_sem,seval,w2,hlf,df];have hJ3:=hJ2.OB w2 (max (s.Yk.y+s.Yk.m) low);simp only at hJ3;rw[<-hh]at hJ3|-;refine ab.loop (λm st=>∃j:Nat,j<=s.B'.length/\m=s.B'.length-j/\WkJ l rs Z0 iw { s with Yg:=DI s,B':=iK s.atoms.length j s.B' } st.U/\st.s 0=.ptr iw 0 0/\st.s 40=vI s.B'.length/\st.s 41=vI j) s.B'.length ?_ ?_
  .exact⟨0,by omega,rfl,by simpa[iK]using hJ3,rfl,rfl,rfl⟩
  .rintro m ⟨S,J⟩ ⟨j,hj,rfl,hJj,t0,t40,t41⟩;simp only at hJj t0 t40 t41;refine ab.mix 5 ?_;by_cases H':j<s.B'.length
   .have q:((j:Int)<s.B'.length)=True:=Yd;obtain⟨va4,vf4,w4,g1,g2,g3⟩:=hJj.row;simp only at w4 g1 g2 g3;obtain⟨ca4,_⟩:=g1.vc;have hla4:cW false va4=some (.int .i64 s.atoms.length):=by rw[g1.len];simp
    have hlen4:=o9 s.atoms.length j s.B';rcases g2 with⟨_,h0⟩|⟨id,rfl,h2,h3⟩
    .exfalso;have:=congrArg List.length h0;rw[cL,hlen4]at this;simp only[List.length_nil]at this;omega
    have hget:=zy (n:=s.atoms.length) H';have hset:=ze (n:=s.atoms.length) H';have hget2:((iK s.atoms.length j s.B').map aK)[j]?=some (aK s.B'[j]):=by rw[qJ,hget];rfl
    have hrl:((iK s.atoms.length j s.B').map aK).length=s.B'.length:=by rw[cL,hlen4]
    have O':∀n,n=s.B'.length->bo J 7 (.own id 0 n) (.int .i64 j)=some (.ptr id j 0):=λn hn=>by subst hn;rw[<-hrl];exact lg h2 (by rw[hrl];exact H')
    generalize hfj:s.B'[j]=f at*;have hen:aK f=.agg [vI f.node,vI f.side,vI f.anchor,vI f.x,vI f.y,vI f.w,vI f.h]:=rfl;rw[hen]at hget2;have r1:Yl .i64 ((s.atoms.length:Int)-1):=ai;have r2:Yl .i64 ((j:Int)+1):=ai;have cf4:(V.own id 0 s.B'.length).cells=[.own id 0 s.B'.length]:=rfl;rw[hrl]at w4;apply sR;simp only[go_sem,seval,t0,t40,t41,q,w4,hla4,h2,O' _ rfl,hget2,r1,r2,df,gF];have YA:iw≠id:=(aF.1 h3).1.symm;have hlen5:=o9 s.atoms.length (j+1) s.B';refine⟨_,by omega,j+1,by omega,rfl,⟨hJj.sub.ax (aF.1 h3).2,hJj.no,va4,.own id 0 s.B'.length,by rw[ae YA];exact w4,?_,.inr ⟨id,by rw[cL,hlen5],?_,h3⟩,λh=>?_⟩,rfl⟩
    .rcases g1 with h|⟨i1,k1,k2,k3⟩
     .exact .inl h
     .have hne1:i1≠id:=λe=>by rw[e,h2]at k2;simp at k2
      exact .inr ⟨i1,k1,by rw[ae hne1];exact k2,k3⟩
    .rw[ag,<-hset,List.map_set];rfl
    .have:=congrArg List.length h;rw[hlen5]at this;simp only[List.length_nil]at this;omega
   .have q:((j:Int)<s.B'.length)=False:=T';apply sR;simp only[go_sem,seval,t40,t41,q];refine⟨_,_,aa.refl _,Wk.refl (aa.refl _) _,rfl,?_⟩;have he:iK s.atoms.length j s.B'=s.B'.map (oH s.atoms.length):=by
     unfold iK;rw[jj (by omega),List.drop_of_length_le (by omega),lH]
    rw[he]at hJj;exact hJj
open Go.Proofs Go.Proofs.Tryz
structure Gal where
 atoms:List Zj
 B':List U'
 Yg:Int
def Ik(g:Gal):V:=.agg [br g.atoms,aG g.B',vI g.Yg]
def gz(l:List Nd)(w:Int):List Rm:=cK l l.length 0 l.length ⟨0,w⟩
def OT(l:List Nd)(w:Int):WS:=(cS l (gz l w) l.length 0 l.length ⟨[],[],0,⟨0,0⟩⟩).fin
def cp(l:List Nd)(w:Int):Gal:=⟨(OT l w).atoms,(OT l w).B',(OT l w).Yg⟩
def rT{l:List Nd}(hb:Zd l=true):∀(k a e:Nat) (r:Rm),e<=l.length->bQ l a e=true->r.ok->∀q∈cK l k a e r,q.ok
 |0,_,_,_,_,_,_,q,hq=>by simp[cK]at hq
 |k+1,a,e,r,he,hr,M',q,hq=>by
  rw[cK]at hq;split at hq
  .rename_i H';obtain⟨h1,h2⟩:=cF he hr (YQ a) H';obtain⟨h3,h4⟩:=dq he hr H';rcases cg.1 hq with rfl|hq
   .exact M'
   .rcases dc.1 hq with hq|hq
    .obtain⟨g1,g2,_⟩:=K1 hb (a:=a) (by omega);exact rT hb k _ _ _ (by omega) h4 (zB M' (by rw[g1];exact g2)) q hq
    .exact rT hb k _ _ _ he h3 M' q hq
  .cases hq
def xc{l:List Nd}(hb:Zd l=true)(hn:l.length<=2000){w:Int}(h1:1<=w)(h2:w<=1099511627776):DOk l (gz l w):=by
 have hr:bQ l 0 l.length=true:=by simp only[Zd,Ba]at hb;exact hb.2
 exact⟨hn,hb,by unfold gz;rw[mK (YQ _) _ _ _ (by omega) (by omega) hr];omega,rT hb _ _ _ _ (YQ _) hr ⟨by simp,by simp,h1,h2⟩⟩
def QK(l:List Nd)(hl:dU l)(hb:Zd l=true)(hn:l.length<=2000)(hwl:∀n∈l,n.words.length<=10000)(hc:cst l 0 l.length<=50000)(hck:aJ prog 45 [aH l] (vI 0))(w:Int)(h1:1<=w)(h2:w<=1099511627776):
 aJ prog 51 [aH l,vI w] (.P' [Ik (cp l w),vI 0]):=λU=>by
 refine e51.r (by simp[c51]) ?_;have hs:=aa.refl U;have hD:=xc hb hn h1 h2;have hr:bQ l 0 l.length=true:=by simp only[Zd,Ba]at hb;exact hb.2
 refine ab.mix 8 ?_;apply sR;simp only[go_sem,seval,c51];refine ad λi4 Z4 s4 a4 f4=>?_;have z4:=hs.none f4;replace hs:=hs.trans s4;have ZC:=si w;rw[show decide (1<=w/\w<=1099511627776)=true by simp;omega]at ZC;simp only[go_sem,seval];refine ab.ay rfl rfl rfl (ZC _) ?_;have qz:((0:Int)≠0)=False:=T' (λh=>h rfl);apply sR;simp only[go_sem,seval];refine ab.ay rfl rfl rfl (hck _) ?_;apply sR;simp only[go_sem,seval,qz];refine ab.ay rfl rfl rfl (NJ l hl hb w h1 h2 _) ?_;have hrm:cK l l.length 0 l.length ⟨0,w⟩=gz l w:=rfl;rw[hrm];apply sR;simp only[go_sem,seval,cu,eL,A1,Ay];refine ad λi23 Z23 s23 a23 f23=>?_;have hJ:WkJ l (gz l w) Z4 i23 ⟨[],[],0,⟨0,0⟩⟩ Z23:=⟨s23,f23,.aC,.aC,a23,aL.start,aL.start,λ_=>rfl⟩
 have hI:fL ⟨[],[],0,⟨0,0⟩⟩ 0:=⟨⟨by simp,by simp,by simp,by simp,by simp⟩,by simp,by simp⟩
 have hn0:=eO l;simp only[go_sem,seval,hn0];have ZO:=QL hD hwl (l.length+1) 0 l.length 0 (by omega) (by omega) (YQ _) hr (by omega) _ _ _ hJ hI;refine ab.call rfl rfl rfl ZO ?_;rintro r Z5 ⟨rfl,hJ5⟩;have hI5:=gv hD (l.length-0) 0 l.length ⟨[],[],0,⟨0,0⟩⟩ 0 (by omega) (by omega) (YQ _) hr hI;apply sR;simp only[go_sem,seval];refine ab.call rfl rfl rfl (R7 hJ5 hI5 (by omega)) ?_;rintro r Z6 ⟨rfl,hJ6⟩;have hgl:cp l w=⟨(cS l (gz l w) (l.length-0) 0 l.length ⟨[],[],0,⟨0,0⟩⟩).fin.atoms,(cS l (gz l w) (l.length-0) 0 l.length ⟨[],[],0,⟨0,0⟩⟩).fin.B',(cS l (gz l w) (l.length-0) 0 l.length ⟨[],[],0,⟨0,0⟩⟩).fin.Yg⟩:=rfl;rw[hgl];generalize (cS l (gz l w) (l.length-0) 0 l.length ⟨[],[],0,⟨0,0⟩⟩).fin=s at*;obtain⟨va,vf,w6,g1,g2,_⟩:=hJ6.row;obtain⟨ca,sa⟩:=g1.vc;obtain⟨cf,sf⟩:=g2.vc;have b4:=hJ6.sub _ _ a4;have n423:=ao a4 f23;apply sR;simp only[go_sem,seval,w6,b4];have hK:aa U (aU Z4 i23):=λi o h=>by
  rw[aU,av (λe=>by rw[e,hs.none f23]at h;cases h)];exact hs _ _ h
 have key:∀{e sz:Nat} {v:V} {rows:List V} {o:Ob},aL (aU Z4 i23) Z6 e sz v rows->aL (aU Z4 i23) (C' Z6 i4 o) e sz v rows:=λ{e sz v rows o} h=>by
  rcases h with h|⟨id,k1,k2,k3⟩
  .exact .inl h
  .exact .inr ⟨id,k1,by rw[ae (λe=>by rw[e]at k3;rw[(aF.1 k3).2]at a4;cases a4)];exact k2,k3⟩
 have Zg:∀o,aa U (C' Z6 i4 o):=λo=>(hs.trans hJ6.sub).ax z4;refine⟨_,U,Zg _,Wk.P' (vs':=[Ik ⟨s.atoms,s.B',s.Yg⟩,vI 0]) ⟨Wk.agg (vs':=[br s.atoms,aG s.B',vI s.Yg]) ⟨(key g1).wk hK (Zg _),(key g2).wk hK (Zg _),Wk.refl (Zg _) _,trivial⟩,Wk.refl (Zg _) _,trivial⟩,rfl,rfl⟩
open Go.Proofs Go.Proofs.Tryz
def tG(node:Int):List Int->Nat
 |[]=>0
 |x::r=>if x=node then tG node r+1 else 0
def Oq(node:Int):∀l,tG node l<=l.length
 |[]=>by simp[tG]
 |x::r=>by
  rw[tG];split
  .have:=Oq node r;simp only[ZK];omega
  .simp
def mF(of:List Int)(fr:Nat)(node:Int):Nat:=tG node (of.drop fr)
def H9(of:List Int)(fr:Nat)(node:Int):mF of fr node<=of.length-fr:=by
 have:=Oq node (of.drop fr);rw[qF]at this;exact this
def okN(x:Nd)(n:Nat):Bool:=if x.kind=2 then decide (1<=n/\n<=x.words.length)else if x.kind=3 then decide (n=1)else decide (n=0)
def B0(of:List Int):List Nd->Nat->Nat->Bool
 |[],_,YT=>decide (YT=of.length)
 |x::r,i,YT=>okN x (mF of YT i)&&B0 of r (i+1) (YT+mF of YT i)
def rZ(l:List Nd)(of:List Int):Bool:=B0 of l 0 0
def pH(l:List Nd)(of:List Int):V:=.agg [aH l,bl of]
def nR(l:List Nd)(of:List Int):(pH l of).cells=[aH l,bl of]:=rfl
def nE(l:List Nd)(of:List Int):(pH l of).stays=true:=rfl
def Mw(l:List Nd)(of:List Int)(hn:of.length<=1000000)(fr:Nat)(hf:fr<=of.length)(node:Int):aJ prog 227 [pH l of,vI fr,vI node] (vI (mF of fr node)):=λU=>by
 refine W9.r (by simp[Sq]) ?_;have hs:=aa.refl U;have hl:=fo of;refine ab.mix 8 ?_;apply sR;simp only[go_sem,seval,Sq,nR,nE];refine ad λi3 Z3 s3 a3 f3=>?_;replace hs:=hs.trans s3;have a3':Z3 i3=some ⟨266,2,[.agg [aH l,bl of]]⟩:=a3;simp only[go_sem,seval];refine ab.loop (λm st=>∃j:Nat,fr+j<=of.length/\m=of.length-(fr+j)/\mF of fr node=j+tG node (of.drop (fr+j))/\st.U=Z3/\st.s 1=vI fr/\st.s 2=vI node/\st.s 3=.ptr i3 0 0/\st.s 7=vI j) (of.length-fr) ?_ ?_
 .exact⟨0,by omega,by omega,by simp[mF],rfl,rfl,rfl,rfl,rfl⟩
 .rintro m ⟨S,J⟩ ⟨j,hj,rfl,ht,YF,t1,t2,t3,t7⟩;simp only at YF t1 t2 t3 t7;subst YF;refine ab.mix 8 ?_;have hjj:(fr:Int)+(j:Int)=((fr+j:Nat):Int):=by omega
  have r1:Yl .i64 ((fr:Int)+j):=ai;have r2:Yl .i64 ((j:Int)+1):=ai;by_cases H':fr+j<of.length
  .have q:(((fr+j:Nat):Int)<of.length)=True:=Yd;have X2:=λU=>iQ (U:=U) H';rw[ia H',tG]at ht;generalize of[fr+j]=x at*;rw[hjj]at r1;by_cases hx:x=node
   .rw[ar hx]at ht;have q2:(x=node)=True:=Yd hx;apply sR;simp only[go_sem,seval,t1,t2,t3,t7,a3',hl,hjj,q,q2,X2,r1,r2];exact⟨_,by omega,j+1,by omega,rfl,by rw[ht,show fr+(j+1)=fr+j+1 by omega];omega,by simp⟩
   .rw[av hx]at ht;have q2:(x=node)=False:=T' hx;apply sR;simp only[go_sem,seval,t1,t2,t3,t7,a3',hl,hjj,q,q2,X2,r1];exact ak.pure hs (by rw[ht];simp)
  .have q:(((fr+j:Nat):Int)<of.length)=False:=T';rw[List.drop_of_length_le (by omega),tG]at ht;rw[hjj]at r1;apply sR;simp only[go_sem,seval,t1,t3,t7,a3',hl,hjj,q,r1];exact ak.pure hs (by rw[ht];simp)
def Uk(l:List Nd)(hll:l.length<=100000)(of:List Int)(hn:of.length<=1000000)(hm:rZ l of=true):aJ prog 169 [pH l of] (.bool true):=λU=>by
 refine VB.r (by simp[OV]) ?_;have hs:=aa.refl U;have hl:=fo of;have hnl:=eO l;refine ab.mix 7 ?_;apply sR;simp only[go_sem,seval,OV,nR,nE];refine ad λi1 Z1 s1 a1 f1=>?_;replace hs:=hs.trans s1;have a1':Z1 i1=some ⟨266,2,[.agg [aH l,bl of]]⟩:=a1;simp only[go_sem,seval,a1',hnl];refine ab.loop (λm st=>∃(i YT:Nat),i<=l.length/\m=l.length-i/\YT<=of.length/\B0 of (l.drop i) i YT=true/\aa Z1 st.U/\st.s 1=.ptr i1 0 0/\st.s 3=vI YT/\st.s 8=aH l/\st.s 9=vI l.length/\st.s 10=vI i) l.length ?_ ?_
 .exact⟨0,0,by omega,rfl,by omega,by simpa[rZ]using hm,aa.refl _,rfl,rfl,rfl,rfl,rfl⟩
 .rintro m ⟨S,J⟩ ⟨i,YT,hi,rfl,hat,hmk,G',t1,t3,t8,t9,t10⟩;simp only at G' t1 t3 t8 t9 t10;refine ab.mix 7 ?_;have b1:=G' _ _ a1';by_cases H':i<l.length
  .have q:((i:Int)<l.length)=True:=Yd;have X2:=jX l H';rw[ia H',B0,Ba]at hmk;obtain⟨M',hmk⟩:=hmk;have htl:=H9 of YT i;have htc:=Mw l of hn YT hat i;generalize mF of YT i=n at*;generalize l[i]=x at*;apply sR;simp only[go_sem,seval,t8,t9,t10,q,X2,Nd.cells];refine ad λi5 Z5 s5 a5 f5=>?_;have c1:=s5 _ _ b1;have n15:=ao b1 f5;simp only[go_sem,seval,a5,c1,t1,t3,ae n15];refine ab.ay rfl rfl rfl (htc _) ?_;have hwl:cW false (bl x.words)=some (.int .i64 x.words.length):=fo _;have r1:Yl .i64 ((i:Int)+1):=ai;have r2:Yl .i64 ((YT:Int)+n):=ai;have q5:((YT:Int)+n)=((YT+n:Nat):Int):=by omega
   rw[q5]at r2;unfold okN at M';by_cases k2:x.kind=2
   .rw[ar k2]at M';simp only[Zq9]at M';have p1:((n:Int)<1)=False:=T';have p2:((n:Int)>x.words.length)=False:=T';have p0:(x.kind=2)=True:=Yd k2;apply sR;simp only[go_sem,seval,t1,t3,t8,t9,t10,p0,p1,p2,hwl,r1,r2,q5];exact⟨_,by omega,i+1,YT+n,by omega,rfl,by omega,hmk,G'.trans (s5.ax f5),by simp⟩
   .rw[av k2]at M';have p0:(x.kind=2)=False:=T' k2;by_cases k3:x.kind=3
    .rw[ar k3]at M';simp only[Zq9]at M';have p3:(x.kind=3)=True:=Yd k3;have p1:((n:Int)≠1)=False:=T';apply sR;simp only[go_sem,seval,t1,t3,t8,t9,t10,p0,p3,p1,r1,r2,q5];exact⟨_,by omega,i+1,YT+n,by omega,rfl,by omega,hmk,G'.trans (s5.ax f5),by simp⟩
    .rw[av k3]at M';simp only[Zq9]at M';have p3:(x.kind=3)=False:=T' k3;have p1:((n:Int)>0)=False:=T';apply sR;simp only[go_sem,seval,t1,t3,t8,t9,t10,p0,p3,p1,r1,r2,q5];exact⟨_,by omega,i+1,YT+n,by omega,rfl,by omega,hmk,G'.trans (s5.ax f5),by simp⟩
  .have q:((i:Int)<l.length)=False:=T';rw[List.drop_of_length_le (by omega),B0,Zq9]at hmk;have q2:((YT:Int)=of.length)=True:=Yd;apply sR;simp only[go_sem,seval,t1,t3,t9,t10,q,b1,hl,q2];exact ak.pure (hs.trans G') rfl
def qO(l:List Nd)(hf:dU l)(hb:Zd l=true)(of:List Int)(hn:of.length<=1000000)(hm:rZ l of=true):aJ prog 109 [aH l,bl of] (vI 0):=λU=>by
 refine XF.r (by simp[RP]) ?_;have hv:=Gj l hf;rw[hb]at hv;have hl1:=hf.1;refine ab.mix 5 ?_;apply sR;simp only[go_sem,seval,RP];refine ab.ay rfl rfl rfl (hv _) ?_;apply sR;simp only[go_sem,seval,cu,cJ,gV,eL];refine ab.ay rfl rfl rfl (Uk l (by omega) of hn hm _) ?_;apply sR;simp only[go_sem,seval];exact ak.same rfl
open Go.Proofs Go.Proofs.Tryz
def zY(l:List Nd)(a b:Int):Bool:=decide (a<=b/\b<a+YO l a.toNat)
def K0(l:List Nd)(hb:Zd l=true)(hn:l.length<=100000)(a:Nat)(ha:a<l.length)(b:Int)(h0:0<=b)(h1:b<=1000000):aJ prog 311 [aH l,vI a,vI b] (.bool (zY l a b)):=λU=>by
 refine WJ.r (by simp[Lz]) ?_;have X2:=jX l ha;have hsz:=mB ha;have hsb:=rY hb ha;refine ab.mix 7 ?_;unfold zY;rw[eX,hsz];rw[hsz]at hsb;by_cases h:(a:Int)<=b
 .have q:((a:Int)<=b)=True:=Yd h;have r1:Yl .i64 ((a:Int)+l[a].size):=ai;apply sR;simp only[go_sem,seval,Lz,q,X2,Nd.cells,r1];exact ak.same (by simp)
 .have q:((a:Int)<=b)=False:=T' h;apply sR;simp only[go_sem,seval,Lz,q];exact ak.same (by simp)
def hAt(l:List Nd)(of:List Int)(b k:Int):Bool:=if 0<=k/\k<of.length then zY l b (of.getD k.toNat 0)else false
def D4(l:List Nd)(hb:Zd l=true)(hn:l.length<=100000)(of:List Int)(hon:of.length<=1000000)(ZR:∀x∈of,0<=x/\x<l.length)(b:Nat)(ZE:b<l.length)(k:Int){U:af}{i4 i9:Nat}(h4:U i4=some ⟨57,1,[bl of]⟩)(h9:U i9=some ⟨266,2,[pH l of]⟩):
 au prog 310 [vI b,vI k,.ptr i4 0 0,.ptr i9 0 0] U λr Z'=>r=.bool (hAt l of b k)/\Z'=U:=by
 refine Ww.r (by simp[Ku]) ?_;have hl:=fo of;rw[pH]at h9;refine ab.mix 7 ?_;unfold hAt;by_cases hk0:0<=k
 .have q0:(k>=0)=True:=Yd hk0;obtain⟨j,rfl⟩:∃j:Nat,k=j:=⟨k.toNat,by omega⟩
  by_cases hk1:(j:Int)<of.length
  .have q1:((j:Int)<of.length)=True:=Yd hk1;have hjl:j<of.length:=by omega
   have X2:=λU=>iQ (U:=U) hjl;have hx:=ZR _ (Zr hjl);have hgd:of.getD j 0=of[j]:=by simp[hjl]
   rw[ar ⟨hk0,hk1⟩,eX,hgd];apply sR;simp only[go_sem,seval,Ku,q0,q1,h4,h9,hl,X2,cJ];refine Go.cm rfl rfl rfl (K0 l hb hn b ZE of[j] hx.1 (by omega)) ?_;apply sG;simp only[go_sem,seval];exact ak.same rfl
  .have q1:((j:Int)<of.length)=False:=T' hk1;rw[av (λh=>hk1 h.2)];apply sR;simp only[go_sem,seval,Ku,q0,q1,h4,hl,cJ];exact ak.same rfl
 .have q0:(k>=0)=False:=T' hk0;rw[av (λh=>hk0 h.1)];apply sR;simp only[go_sem,seval,Ku,q0];exact ak.same rfl
structure E1(l:List Nd)(of:List Int)(k:Int)(i4 i5 i9 YM:Nat)(U:af):Prop where
 r4:U i4=some ⟨57,1,[bl of]⟩
 r5:U i5=some ⟨3,1,[vI k]⟩
 r9:U i9=some ⟨266,2,[pH l of]⟩
 r10:U YM=some ⟨278,1,[.fn 310 [.ptr i4 0 0,.ptr i9 0 0]]⟩
def E1.mono{l:List Nd}{of:List Int}{k:Int}{i4 i5 i9 YM:Nat}{U J:af}(h:E1 l of k i4 i5 i9 YM U)(hs:aa U J):E1 l of k i4 i5 i9 YM J:=⟨hs _ _ h.r4,hs _ _ h.r5,hs _ _ h.r9,hs _ _ h.r10⟩
def OQ(l:List Nd)(hb:Zd l=true)(hn:l.length<=100000)(of:List Int)(hon:of.length<=1000000)(ZR:∀x∈of,0<=x/\x<l.length)(b:Nat)(ZE:b<l.length)(k:Int){U:af}{i4 i5 i9 YM:Nat}(h:E1 l of k i4 i5 i9 YM U):
 au prog 313 [vI b,.ptr YM 0 0,.ptr i5 0 0] U λr Z'=>r=.bool (!hAt l of b k)/\Z'=U:=by
 refine VE.r (by simp[Qz]) ?_;have r5:=h.r5;have r10:=h.r10;refine ab.mix 5 ?_;apply sR;simp only[go_sem,seval,Qz,r5,r10];refine ab.ay rfl rfl rfl (D4 l hb hn of hon ZR b ZE k h.r4 h.r9) ?_;apply sR;simp only[go_sem,seval];exact ak.same rfl
def SF(l:List Nd)(hb:Zd l=true)(hn:l.length<=100000)(of:List Int)(hon:of.length<=1000000)(ZR:∀x∈of,0<=x/\x<l.length)(b:Nat)(ZE:b<l.length)(k:Int)(hk0:0<=k)(hk1:k<=1000000){U:af}{i4 i5 i9 YM:Nat}(h:E1 l of k i4 i5 i9 YM U):
 au prog 314 [vI b,.ptr YM 0 0,.ptr i5 0 0] U λr Z'=>r=.bool (!hAt l of b (k-1))/\Z'=U:=by
 refine V6.r (by simp[SW]) ?_;have r5:=h.r5;have r10:=h.r10;have r1:Yl .i64 (k-1):=ai;refine ab.mix 5 ?_;apply sR;simp only[go_sem,seval,SW,r5,r10,r1];refine ab.ay rfl rfl rfl (D4 l hb hn of hon ZR b ZE (k-1) h.r4 h.r9) ?_;apply sR;simp only[go_sem,seval];exact ak.same rfl
def Qp(l:List Nd)(hb:Zd l=true)(hn:l.length<=100000)(of:List Int)(hon:of.length<=1000000)(ZR:∀x∈of,0<=x/\x<l.length)(b:Nat)(ZE:b<l.length)(k:Int)(hk0:0<=k)(hk1:k<=1000000){U:af}{i4 i5 i9 YM:Nat}(h:E1 l of k i4 i5 i9 YM U):
 au prog 316 [vI b,.ptr YM 0 0,.ptr i5 0 0] U λr Z'=>r=.bool (hAt l of b (k-1))/\Z'=U:=by
 refine Wo.r (by simp[Qy]) ?_;have r5:=h.r5;have r10:=h.r10;have r1:Yl .i64 (k-1):=ai;refine ab.mix 5 ?_;apply sR;simp only[go_sem,seval,Qy,r5,r10,r1];refine ab.ay rfl rfl rfl (D4 l hb hn of hon ZR b ZE (k-1) h.r4 h.r9) ?_;apply sR;simp only[go_sem,seval];exact ak.same rfl
def Dm(l:List Nd)(hl:dU l)(hb:Zd l=true)(hn:l.length<=100000)(a:Nat)(ha:a<l.length):Iter prog 337 [.rp (aH l),.rp (vI a)] ((abv l a).map λn=>[vI n]):=by
 refine⟨Te.c,λYp τ Jx Z0 hy hJ=>?_⟩;refine(Te.r (by simp[PM]) ?_).2;have hab:=CT l hl hb hn a ha;have hal:=jv l (l.length+1) (ew l a);have e0:(abv l a).length<=l.length+1:=hal;have hlen:=fo (abv l a);generalize abv l a=L at*;have ldA:∀U,bB U false 1 (.rp (aH l))=some (aH l):=λU=>rfl;have ldB:∀U (n:Int),bB U false 1 (.rp (vI n))=some (vI n):=λU n=>rfl;refine ab.mix 6 ?_;apply sR;simp only[go_sem,seval,PM,ldA,ldB];refine ab.ay rfl rfl rfl (hab _) ?_;apply sR;simp only[go_sem,seval,hlen];refine ab.loop (λm st=>∃(j:Nat) (ZJ:af),j<=L.length/\m=L.length-j/\τ ((L.take j).map λn=>[vI n]) ZJ/\aa ZJ st.U/\st.s 0=.yl Yp/\st.s 8=bl L/\st.s 9=vI L.length/\st.s 10=vI j) L.length ?_ ?_
 .exact⟨0,Z0,by omega,rfl,by simpa using hJ,aa.refl _,rfl,rfl,rfl,rfl⟩
 .rintro m ⟨S,J⟩ ⟨j,ZJ,hj,rfl,hJj,G',t0,t8,t9,t10⟩;simp only at G' t0 t8 t9 t10;refine ab.mix 6 ?_;by_cases H':j<L.length
  .have q:((j:Int)<L.length)=True:=Yd;have X2:=λU=>iQ (U:=U) H';have Zb:L.take (j+1)=L.take j++[L[j]]:=Zq0 H';have e:(L.map λn=>[vI n])=((L.take j).map λn=>[vI n])++[vI L[j]]::((L.drop (j+1)).map λn=>[vI n]):=by
    have e0':L=L.take j++L[j]::L.drop (j+1):=by rw[<-ia H',sZ]
    have:=congrArg (List.map λn=>[vI n]) e0'
    rwa [gl,dS]at this
   generalize L[j]=x at*;have r1:Yl .i64 ((j:Int)+1):=ai;apply sR;simp only[go_sem,seval,t0,t8,t9,t10,q,X2];refine ab.nb (Post:=λb Z2=>∃Yr,aT ZJ J Yr Z2/\((b=true/\τ (((L.take j).map λn=>[vI n])++[[vI x]]) Yr)\/(b=false/\Jx (((L.take j).map λn=>[vI n])++[[vI x]]) Yr))) rfl rfl rfl (hy _ [vI x] _ ZJ J e hJj G') ?_;rintro b Z2 ⟨Yr,ZU,Zn⟩;rcases Zn with⟨rfl,Zn⟩|⟨rfl,Zn⟩
   .apply sR;simp only[go_sem,seval,t0,t8,t9,t10,r1];refine⟨_,?_,j+1,Yr,by omega,rfl,by rw[Zb];simpa using Zn,ZU.1,by simp⟩;omega
   .apply sR;simp only[go_sem,seval];refine⟨_,Yr,ZU.1,Wk.refl ZU.1 _,.inr ⟨_,?_,Zn⟩⟩;rw[e];exact⟨(L.drop (j+1)).map λn=>[vI n],by simp⟩
  .have q:((j:Int)<L.length)=False:=T';rw[jj (by omega)]at hJj;apply sR;simp only[go_sem,seval,t9,t10,q];exact⟨_,ZJ,G',Wk.refl G' _,.inl hJj⟩
def KH(l:List Nd)(a:Int):aJ prog 333 [aH l,vI a] (.fn 337 [.rp (aH l),.rp (vI a)]):=λU=>by
 refine WG.r (by simp[RB]) ?_;refine ab.mix 4 ?_;have q1:=cu l;have q2:=eL l;generalize aH l=x at*;apply sR;simp only[go_sem,seval,RB,q1,q2];refine ad λid1 Z1 s1 a1 f1=>?_;simp only[go_sem,seval];refine ad λid2 Z2 s2 a2 f2=>?_;simp only[go_sem,seval];exact⟨_,U,s1.trans s2,Wk.fn (vs':=[.rp x,.rp (vI a)]) ⟨Wk.ptr (s1.trans s2) (s2 _ _ a1) f1,Wk.ptr (s1.trans s2) a2 (s1.none f2),trivial⟩,rfl,rfl⟩
open Go.Proofs Go.Proofs.Tryz
def chR(l:List Nd)(of:List Int)(k:Int)(p:Int->Bool):List Int:=if 0<=k/\k<of.length then(abv l (of.getD k.toNat 0).toNat).filter p else[]
def ru{l:List Nd}{a:Nat}(ha:a<l.length):∀x∈abv l a,∃n:Nat,x=n/\n<a:=λx hx=>by
 have:=JT l _ _ x hx;have h2:=fD l a;exact⟨x.toNat,by omega,by omega⟩
def rX{p:Int->Bool}{L:List Int}{j:Nat}{x:Int}(h:L[j]?=some x):(L.take (j+1)).filter p=(L.take j).filter p++if p x then[x]else[]:=by
 rw[HL,h,List.filter_append];cases hp:p x<;>simp[hp]
def vN(l:List Nd)(hl:dU l)(hb:Zd l=true)(hn:l.length<=100000)(of:List Int)(hon:of.length<=1000000)(ZR:∀x∈of,0<=x/\x<l.length)(k:Int)(g:FuncId)(caps:List V)(p:Int->Bool){U:af}
 (hg:∀b:Nat,b<l.length->∀J,aa U J->au prog g (vI b::caps) J λr Z'=>r=.bool (p b)/\Z'=J):
 au prog 312 [pH l of,vI k,.fn g caps] U λr Z'=>aa U Z'/\aL U Z' 3 1 r ((chR l of k p).map vI)/\(chR l of k p=[]->r=.aC):=by
 refine Ws.r (by simp[SN]) ?_;have hs:=aa.refl U;have hlo:=fo of;refine ab.mix 9 ?_;apply sR;simp only[go_sem,seval,SN,nR,nE];refine ad λi3 Z3 s3 a3 f3=>?_;replace hs:=hs.trans s3;simp only[go_sem,seval];refine ad λi5 Z5 s5 a5 f5=>?_;replace a3:=s5 _ _ a3;replace hs:=hs.trans s5;have a3':Z5 i3=some ⟨266,2,[.agg [aH l,bl of]]⟩:=a3;by_cases hk0:k<0
 .have q0:(k<0)=True:=Yd hk0;have hc:chR l of k p=[]:=by unfold chR;rw[av (by omega)]
  simp only[go_sem,seval,q0];rw[hc];exact⟨_,_,aa.refl _,Wk.refl (aa.refl _) _,hs,aL.start,λ_=>rfl⟩
 have q0:(k<0)=False:=T' hk0;obtain⟨j,rfl⟩:∃j:Nat,k=j:=⟨k.toNat,by omega⟩
 by_cases hk1:(j:Int)>=of.length
 .have q1:((j:Int)>=of.length)=True:=Yd hk1;have hc:chR l of j p=[]:=by unfold chR;rw[av (by omega)]
  simp only[go_sem,seval,q0,a3',hlo,q1];rw[hc];exact⟨_,_,aa.refl _,Wk.refl (aa.refl _) _,hs,aL.start,λ_=>rfl⟩
 have q1:((j:Int)>=of.length)=False:=T' hk1;have hjl:j<of.length:=by omega
 have X2:=λU=>iQ (U:=U) hjl;obtain⟨hx0,hx1⟩:=ZR _ (Zr hjl);have hgd:of.getD j 0=of[j]:=by simp[hjl]
 have hc:chR l of j p=(abv l of[j].toNat).filter p:=by unfold chR;rw[ar ⟨by omega,by omega⟩,eX,hgd]
 rw[hc];simp only[go_sem,seval,q0,a3',hlo,q1];refine ad λi7 Z7 s7 a7 f7=>?_;have b3:=s7 _ _ a3';simp only[go_sem,seval,b3,X2];obtain⟨x,hx⟩:∃x:Nat,of[j]=x:=⟨of[j].toNat,by omega⟩
 rw[hx]at hx1|-;refine ab.ay rfl rfl rfl (KH l x _) ?_;have hit:=Dm l hl hb hn x (by omega);have hrg:=ru (l:=l) (a:=x) (by omega);have hlL:(abv l x).length<=l.length+1:=jv _ _ _;rw[eX];generalize abv l x=L at*;apply sR;simp only[go_sem,seval];generalize hS:mix 9 _ _=S;have S5:S 5=.ptr i5 0 0:=by rw[<-hS];rfl
 have S7:S 7=.ptr i7 0 0:=by rw[<-hS];rfl
 have S25:S 25=.fn 337 [.rp (aH l),.rp (vI x)]:=by rw[<-hS];rfl
 clear hS;refine ab.cA (g:=.t 25) (caps:=[.rp (aH l),.rp (vI x)]) S25 hit (λy hy=>?_) [] (λpre ZJ=>∃v,ZJ i7=some ⟨57,1,[v]⟩/\aa Z5 ZJ/\aL (aU Z5 i7) ZJ 3 1 v (((L.take pre.length).filter p).map vI)/\((L.take pre.length).filter p=[]->v=.aC))
  (λ_ _ _=>False) ?_ ?_ ?_ ?_ ?_
 .obtain⟨t,_,rfl⟩:=gg.1 hy;rfl
 .exact⟨.aC,a7,s7,by simpa using aL.start,λ_=>rfl⟩
 .rintro pre y post ZJ ZB hxs ⟨v,J7,Js,Jo,Jn⟩ G';obtain⟨t,hti,rfl⟩:=qX (f:=vI) hxs;obtain⟨tn,rfl,htn⟩:=hrg t (vM hti);have Zb:=rX (p:=p) hti;have hlen:(pre++[[vI (tn:Int)]]).length=pre.length+1:=by simp
  rw[hlen,Zb];have hkl:(((L.take pre.length).filter p).map vI).length<=1000001:=by
   rw[cL];have:=List.length_filter_le p (L.take pre.length);rw[fY]at this;omega
  have hvc:v.cells=[v]:=by rcases Jo with⟨rfl,_⟩|⟨_,rfl,_⟩<;>rfl
  generalize YK:(((L.take pre.length).filter p).map vI)=rows at*;have c7:=G' _ _ J7;have c5:=G' _ _ (Js _ _ a5);generalize hSS:kW S [26] [vI (tn:Int)]=S0;have T5:S0 5=.ptr i5 0 0:=by rw[<-hSS];exact S5
  have T7:S0 7=.ptr i7 0 0:=by rw[<-hSS];exact S7
  have T26:S0 26=vI (tn:Int):=by rw[<-hSS];rfl
  clear hSS;refine ab.mix 9 ?_;apply sR;simp only[go_sem,seval,T26];apply sR;simp only[go_sem,seval,T5,c5];refine ab.ay rfl rfl rfl (hg tn (by omega) _ ((hs.trans Js).trans G')) ?_;cases hp:p (tn:Int)
  .apply sR;simp only[go_sem,seval];refine⟨_,aT.refl G',v,J7,Js,?_,by simpa using Jn⟩;simpa[YK]using Jo
  .apply sR;simp only[go_sem,seval,T7,c7,hvc];rw[bG];intro id28 f28;have hBs:=(aT.refl G').rU (o:=⟨3,1,[vI (tn:Int)]⟩) f28;have y2:C' ZB id28 ⟨3,1,[vI (tn:Int)]⟩ i7=some ⟨57,1,[v]⟩:=by rw[ae (ao c7 f28)];exact c7
   have a28:C' ZB id28 ⟨3,1,[vI (tn:Int)]⟩ id28=some ⟨3,1,[vI (tn:Int)]⟩:=ag;generalize C' ZB id28 ⟨3,1,[vI (tn:Int)]⟩=Z8 at*;obtain⟨Yn,ZV,hdA⟩:=Jo.Hi hBs.1;have Zl:(rows.length+1)*9<=140737488355328:=by omega
   have k2:aU Z5 i7 i7≠none:=λh=>(aF.1 h).1 rfl;have dne:∀(i:Nat) (Zx:af),aU Z5 i7 i≠none->Vc.bt Zx Yn i=Zx i:=λi Zx hk=>by
    cases Yn with
    |none=>rfl
    |some a=>exact bR (λe=>hk (by rw[e];exact(hdA a rfl).1))
   simp only[go_sem,seval,ZV,cT a28,Zl];rw[bG];intro id29 f29;have f29:Z8 id29=none:=f29;have m29:i7≠id29:=ao y2 f29;have f29':Vc.bt Z8 Yn id29=none:=by
    cases Yn with
    |none=>exact f29
    |some a=>simp only[Vc.bt,del];split<;>first|rfl|exact f29
   have y2':C' (Vc.bt Z8 Yn) id29 ⟨3,1,rows++[vI (tn:Int)]⟩ i7=some ⟨57,1,[v]⟩:=by rw[ae m29,dne _ _ k2];exact y2
   have hB9:=((hBs.Hv (e:=Yn) λi h=>(hdA i h).2).new (o:=⟨3,1,rows++[vI (tn:Int)]⟩) f29').set (id:=i7) (o:=⟨57,1,[v]⟩) (o':=⟨57,1,[.own id29 0 (rows.length+1)]⟩) (by rw[ae m29,dne _ _ k2];exact J7);simp only[go_sem,seval,hvc,y2',T7];refine⟨_,hB9,.own id29 0 (rows.length+1),ag,?_,?_,λh=>by simp at h⟩
   .refine aa.ax (λi o h=>?_) f7;have h1:=Js _ _ h;rw[ae (ao (hBs.1 _ _ h1) f29),dne _ _ (λhk=>by rw[(aF.1 hk).2]at h;cases h)];exact h1
   .rw[gl,YK];refine aL.new (by simp) (by rw[ae m29.symm,ag];rfl) ?_;rw[aF];refine⟨m29.symm,?_⟩;cases h:Z5 id29 with
    |none=>rfl
    |some o=>rw[hBs.1 _ _ (Js _ _ h)]at f29;cases f29
 .rintro Z' ⟨v,J7,Js,Jo,Jn⟩;rw[cL,hU]at Jo Jn;have hvc:v.cells=[v]:=by rcases Jo with⟨rfl,_⟩|⟨_,rfl,_⟩<;>rfl
  refine ab.mix 9 ?_;apply sR;simp only[go_sem,seval,S7,J7,hvc];refine⟨_,_,aa.refl _,Wk.refl (aa.refl _) _,hs.trans Js,?_,Jn⟩;rcases Jo with h|⟨id,h1,h2,h3⟩
  .exact .inl h
  .exact .inr ⟨id,h1,h2,hs.none (aF.1 h3).2⟩
 .intro id h;cases h
 .rintro pre Z' _ ⟨⟩
open Go.Proofs Go.Proofs.Tryz
def swp(L:List Int)(i j:Nat):List Int:=(L.set i (L.getD j 0)).set j (L.getD i 0)
def kX(L:List Int):Nat->List Int
 |0=>L
 |t+1=>swp (kX L t) t (L.length-1-t)
def mq(L:List Int):∀t,(kX L t).length=L.length
 |0=>rfl
 |t+1=>by simp[kX,swp,mq L t]
def Bs(L:List Int):∀(t:Nat),2*t<=L.length->∀i,i<L.length->(kX L t)[i]?=if i<t\/L.length-t<=i then L[L.length-1-i]? else L[i]?
 |0,_,i,hi=>by rw[kX,av (by omega)]
 |t+1,ht,i,hi=>by
  have ih:=λi hi=>Bs L t (by omega) i hi;have hl:=mq L t;have e1:(kX L t).getD t 0=L.getD t 0:=by
   rw[sC,sC,ih t (by omega),av (by omega)]
  have e2:(kX L t).getD (L.length-1-t) 0=L.getD (L.length-1-t) 0:=by
   rw[sC,sC,ih _ (by omega),av (by omega)]
  rw[kX,swp,e1,e2,List.getElem?_set,List.getElem?_set,List.length_set,hl];have g:∀k,k<L.length->some (L.getD k 0)=L[k]?:=λk hk=>by simp[hk]
  by_cases h1:L.length-1-t=i
  .rw[ar h1,ar (by omega),ar (by omega),g t (by omega)];congr 1;omega
  .rw[av h1];by_cases h2:t=i
   .rw[ar h2,ar (by omega),ar (by omega),g _ (by omega)];congr 1;omega
   .rw[av h2,ih i hi];by_cases h3:i<t\/L.length-t<=i
    .rw[ar h3,ar (by omega)]
    .rw[av h3,av (by omega)]
def Iy(L:List Int){t:Nat}(h1:2*t<=L.length)(h2:L.length<=2*t+1):kX L t=L.reverse:=by
 apply List.ext_getElem?;intro i;by_cases hi:i<L.length
 .rw[Bs L t h1 i hi,List.getElem?_reverse hi];split
  .rfl
  .congr 1;omega
 .rw[rO (by rw[mq];omega),rO (by simp;omega)]
def GP(L:List Int)(hL:L.length<=1000000){K U:af}{v:V}(hv:aL K U 3 1 v (L.map vI))(YA:L=[]->v=.aC):
 au prog 315 [v] U λr Z'=>r=.P' []/\aL K Z' 3 1 v (L.reverse.map vI)/\∀i o,U i=some o->(o.elem≠3\/K i≠none)->Z' i=some o:=by
 refine VA.r (by simp[Mr]) ?_;refine ab.mix 5 ?_;rcases hv with⟨rfl,h0⟩|⟨id,rfl,h2,h3⟩
 .obtain rfl:L=[]:=by simpa using h0
  apply sR;simp only[go_sem,seval,Mr];refine⟨ai,?_⟩;refine ab.loop (λm st=>st.U=U/\st.s 2=vI 0/\∃z:Int,st.s 3=vI z/\z<0) 0 ?_ ?_
  .refine⟨rfl,rfl,_,rfl,?_⟩;simp
  .rintro m ⟨S,J⟩ ⟨YF,t2,z,t3,hz⟩;simp only at YF t2 t3;subst YF;refine ab.mix 5 ?_;have q:((0:Int)<z)=False:=T';apply sR;simp only[go_sem,seval,t2,t3,q];exact⟨_,_,aa.refl _,Wk.refl (aa.refl _) _,rfl,.inl ⟨rfl,rfl⟩,λi o h _=>h⟩
 .have hn:0<L.length:=wH.2 λe=>by have:=YA e;cases this
  have hlm:(L.map vI).length=L.length:=by simp
  have r1:Yl .i64 ((L.length:Int)-1):=ai;apply sR;simp only[go_sem,seval,Mr,hlm,r1];refine ab.loop (λm st=>∃t:Nat,2*t<=L.length/\m=L.length-t/\st.U id=some ⟨3,1,(kX L t).map vI⟩/\(∀i,i≠id->st.U i=U i)/\st.s 0=.own id 0 L.length/\st.s 2=vI t/\∃z:Int,st.s 3=vI z/\z=(L.length:Int)-1-t) L.length ?_ ?_
  .exact⟨0,by omega,by omega,h2,λ_ _=>rfl,rfl,rfl,_,rfl,by simp⟩
  .rintro m ⟨S,J⟩ ⟨t,ht,rfl,g1,g2,t0,t2,z,t3,rfl⟩;simp only at g1 g2 t0 t2 t3;refine ab.mix 5 ?_;have hrl:((kX L t).map vI).length=L.length:=by rw[cL,mq]
   by_cases H':(t:Int)<(L.length:Int)-1-t
   .have q:((t:Int)<(L.length:Int)-1-t)=True:=Yd H';have hj:((L.length:Int)-1-t)=((L.length-1-t:Nat):Int):=by omega
    obtain⟨j,hjj⟩:∃j,j=L.length-1-t:=⟨_,rfl⟩
    rw[hj,<-hjj]at t3 q;have hti:t<(kX L t).length:=by rw[mq];omega
    have hji:j<(kX L t).length:=by rw[mq];omega
    have i1:∀n,n=L.length->bo J 1 (.own id 0 n) (.int .i64 t)=some (.ptr id t 0):=λn hn=>by subst hn;rw[<-hrl];exact lg g1 (by rw[hrl];omega)
    have i2:∀n,n=L.length->bo J 1 (.own id 0 n) (.int .i64 j)=some (.ptr id j 0):=λn hn=>by subst hn;rw[<-hrl];exact lg g1 (by rw[hrl];omega)
    have v1:((kX L t).map vI)[t]?=some (vI ((kX L t).getD t 0)):=by simp[hti]
    have v2:((kX L t).map vI)[j]?=some (vI ((kX L t).getD j 0)):=by simp[hji]
    have i3:∀a n,n=L.length->bo (C' J id ⟨3,1,((kX L t).map vI).set t a⟩) 1 (.own id 0 n) (.int .i64 j)=some (.ptr id j 0):=λa n hn=>by
     have e:n=(((kX L t).map vI).set t a).length:=by rw[List.length_set,hrl,hn]
     rw[e];exact lg ag (by rw[List.length_set,hrl];omega)
    have v3:∀a,(((kX L t).map vI).set t a)[j]?=some (vI ((kX L t).getD j 0)):=λa=>by rw[List.getElem?_set_ne (by omega)];exact v2
    have r4:Yl .i64 ((t:Int)+1):=ai;have r5:Yl .i64 ((j:Int)-1):=ai;apply sR;simp only[go_sem,seval,t0,t2,t3,q,g1,i1 _ rfl,i2 _ rfl,i3 _ _ rfl,v1,v2,v3,r4,r5];refine⟨_,?_,t+1,by omega,rfl,?_,λi hi=>?_,by simp,_,rfl,by omega⟩
    .omega
    .simp only[kX,swp,List.map_set];rw[hjj]
    .rw[ae hi];exact g2 i hi
   .have q:((t:Int)<(L.length:Int)-1-t)=False:=T' H';apply sR;simp only[go_sem,seval,t2,t3,q];have hr:=Iy L ht (by omega);rw[hr]at g1;refine⟨_,_,aa.refl _,Wk.refl (aa.refl _) _,rfl,.inr ⟨id,by simp,g1,h3⟩,λi o h hio=>?_⟩;rw[g2 i (λe=>by subst e;rw[h2]at h;injection h with h;subst h;rcases hio with h|h;exact h rfl;exact h h3)]
    exact h
open Go.Proofs Go.Proofs.Tryz
structure Kn where
 (ends begins both:List Int)
 text:Int
def j9(x:Kn):V:=.agg [bl x.ends,bl x.begins,bl x.both,vI x.text]
def ed(l:List Nd)(of:List Int)(k:Nat):Kn:=
 ⟨chR l of ((k:Int)-1) (λb=>!hAt l of b k),(chR l of k (λb=>!hAt l of b ((k:Int)-1))).reverse,chR l of k (λb=>hAt l of b ((k:Int)-1)),
  if 0<k/\k<of.length/\of.getD k 0=of.getD (k-1) 0 then of.getD k 0 else -1⟩
structure KR(l:List Nd)(of:List Int)(k:Int)(i4 i5 i6 i9 YM i11:Nat)(v:V)(Z0 U:af):Prop where
 ask:E1 l of k i4 i5 i9 YM U
 r6:U i6=some ⟨321,4,[.agg [.aC,.aC,.aC,vI 0]]⟩
 r11:U i11=some ⟨321,4,[v]⟩
 sub:aa Z0 U
 no:Z0 i11=none
 ne:i4≠i11/\i5≠i11/\i6≠i11/\i9≠i11/\YM≠i11
def KR.mono{l:List Nd}{of:List Int}{k:Int}{i4 i5 i6 i9 YM i11:Nat}{v:V}{Z0 U J:af}(h:KR l of k i4 i5 i6 i9 YM i11 v Z0 U)(hs:aa U J):KR l of k i4 i5 i6 i9 YM i11 v Z0 J:=
 ⟨h.ask.mono hs,hs _ _ h.r6,hs _ _ h.r11,h.sub.trans hs,h.no,h.ne⟩
def KR.put{l:List Nd}{of:List Int}{k:Int}{i4 i5 i6 i9 YM i11:Nat}{v w:V}{Z0 U:af}(h:KR l of k i4 i5 i6 i9 YM i11 v Z0 U):KR l of k i4 i5 i6 i9 YM i11 w Z0 (C' U i11 ⟨321,4,[w]⟩):=by
 obtain⟨n1,n2,n3,n4,n5⟩:=h.ne;exact⟨⟨by rw[ae n1];exact h.ask.r4,by rw[ae n2];exact h.ask.r5,by rw[ae n4];exact h.ask.r9,by rw[ae n5];exact h.ask.r10⟩,by rw[ae n3];exact h.r6,ag,h.sub.ax h.no,h.no,h.ne⟩
def F9(l:List Nd)(hl:dU l)(hb:Zd l=true)(of:List Int)(hon:of.length<=1000000)(ZR:∀x∈of,0<=x/\x<l.length)(hm:rZ l of=true)(k:Nat)(hk:k<=of.length):
 aJ prog 273 [aH l,bl of,vI k] (.P' [j9 (ed l of k),vI 0]):=λU=>by
 refine VH.r (by simp[Ss]) ?_;have hs:=aa.refl U;have hlo:=fo of;have hn:l.length<=100000:=by have:=hl.1;omega
 refine ab.mix 12 ?_;apply sR;simp only[go_sem,seval,Ss,cJ,gV];refine ad λi4 Z4 s4 a4 f4=>?_;replace hs:=hs.trans s4;simp only[go_sem,seval];refine ad λi5 Z5 s5 a5 f5=>?_;replace a4:=s5 _ _ a4;replace hs:=hs.trans s5;simp only[go_sem,seval];refine ad λi6 Z6 s6 a6 f6=>?_;replace a4:=s6 _ _ a4;replace a5:=s6 _ _ a5;have z6:=hs.none f6;replace hs:=hs.trans s6;simp only[go_sem,seval,a4,cJ];refine ab.ay rfl rfl rfl (qO l hl hb of hon hm _) ?_;have q0:((0:Int)≠0)=False:=T' (λh=>h rfl);have q1:((k:Int)<0)=False:=T';have q2:((k:Int)>of.length)=False:=T';apply sR;simp only[go_sem,seval,q0,q1,q2,a4,a5,hlo,cu,cJ,gV,eL];refine ad λi9 Z9 s9 a9 f9=>?_;have n49:=ao a4 f9;replace a4:=s9 _ _ a4;have n59:=ao a5 f9;replace a5:=s9 _ _ a5;have n69:=ao a6 f9;replace a6:=s9 _ _ a6;have z9:=hs.none f9;replace hs:=hs.trans s9;simp only[go_sem,seval,a9];generalize Zs:C' _ i9 _=Y9;replace a9:=(congrFun Zs i9).symm.trans ag;replace a4:=((congrFun Zs i4).symm.trans (ae n49)).trans a4;replace a5:=((congrFun Zs i5).symm.trans (ae n59)).trans a5;replace a6:=((congrFun Zs i6).symm.trans (ae n69)).trans a6;replace hs:=Eq.subst (motive:=aa _) Zs (hs.ax z9);clear Zs;have hnf:V.YS.cells=[.YS]:=rfl;refine ad λYM Z10 s10 YX f10=>?_;have n410:=ao a4 f10;replace a4:=s10 _ _ a4;have n510:=ao a5 f10;replace a5:=s10 _ _ a5;have n610:=ao a6 f10;replace a6:=s10 _ _ a6;have n910:=ao a9 f10;replace a9:=s10 _ _ a9;have z10:=hs.none f10;replace hs:=hs.trans s10;simp only[go_sem,seval,YX,hnf];generalize hq10:C' _ YM _=Y10;replace YX:=(congrFun hq10 YM).symm.trans ag;replace a4:=((congrFun hq10 i4).symm.trans (ae n410)).trans a4;replace a5:=((congrFun hq10 i5).symm.trans (ae n510)).trans a5;replace a6:=((congrFun hq10 i6).symm.trans (ae n610)).trans a6;replace a9:=((congrFun hq10 i9).symm.trans (ae n910)).trans a9;replace hs:=Eq.subst (motive:=aa _) hq10 (hs.ax z10);clear hq10;refine ad λi11 Z11 s11 a11 f11=>?_;have n411:=ao a4 f11;replace a4:=s11 _ _ a4;have n511:=ao a5 f11;replace a5:=s11 _ _ a5;have n611:=ao a6 f11;replace a6:=s11 _ _ a6;have n911:=ao a9 f11;replace a9:=s11 _ _ a9;have n1011:=ao YX f11;replace YX:=s11 _ _ YX;have z11:=hs.none f11;replace hs:=hs.trans s11;simp only[go_sem,seval,a11,a9,a5,ae n511,ae n911];generalize hq11:C' _ i11 _=Y11;replace a11:=(congrFun hq11 i11).symm.trans ag;replace a4:=((congrFun hq11 i4).symm.trans (ae n411)).trans a4;replace a5:=((congrFun hq11 i5).symm.trans (ae n511)).trans a5;replace a6:=((congrFun hq11 i6).symm.trans (ae n611)).trans a6;replace a9:=((congrFun hq11 i9).symm.trans (ae n911)).trans a9;replace YX:=((congrFun hq11 YM).symm.trans (ae n1011)).trans YX;replace hs:=Eq.subst (motive:=aa _) hq11 (hs.ax z11);clear hq11;have hK:KR l of k i4 i5 i6 i9 YM i11 (.agg [.aC,.aC,.aC,vI (-1)]) U Y11:=⟨⟨a4,a5,a9,YX⟩,a6,a11,hs,z11,n411,n511,n611,n911,n1011⟩
 clear hs a4 a5 a6 a9 YX a11;generalize Y11=J at*;have hZ11:=hK.r11;have hZs:=hK.sub;refine⟨ai,?_⟩;refine ab.call rfl rfl rfl (vN l hl hb hn of hon ZR ((k:Int)-1) 313 [.ptr YM 0 0,.ptr i5 0 0] (λb=>!hAt l of b k) (λb ZE X' hτ=>OQ l hb hn of hon ZR b ZE k (hK.ask.mono hτ))) ?_;rintro v0 Z1 ⟨s1,o0,_⟩;have hK1:=hK.mono s1;clear hK s1;obtain⟨cv0,sv0⟩:=o0.vc;have c11:=hK1.r11;have c9:=hK1.ask.r9;have c5:=hK1.ask.r5;rw[pH]at c9;apply sR;simp only[go_sem,seval,c11,c9,c5,cv0,sv0,ae n911,ae n511];have hK2:=hK1.put (w:=.agg [v0,.aC,.aC,vI (-1)]);have o0':aL (aU U i11) (C' Z1 i11 ⟨321,4,[.agg [v0,.aC,.aC,vI (-1)]]⟩) 3 1 v0 ((chR l of ((k:Int)-1) (λb=>!hAt l of b k)).map vI):=by
  rcases o0 with h|⟨id,g1,g2,g3⟩
  .exact .inl h
  .have g3:J id=none:=g3;have YA:id≠i11:=λe=>by rw[e,hZ11]at g3;cases g3
   exact .inr ⟨id,g1,by rw[ae YA];exact g2,aF.2 ⟨YA,hZs.none g3⟩⟩
 generalize C' Z1 i11 ⟨321,4,[.agg [v0,.aC,.aC,vI (-1)]]⟩=Y2 at*;refine ab.call rfl rfl rfl (vN l hl hb hn of hon ZR k 314 [.ptr YM 0 0,.ptr i5 0 0] (λb=>!hAt l of b ((k:Int)-1)) (λb ZE X' hτ=>SF l hb hn of hon ZR b ZE k (by omega) (by omega) (hK2.ask.mono hτ))) ?_;rintro v1 Z3 ⟨s3,o1,n1⟩;have hK3:=hK2.mono s3;have o03:=o0'.mono s3;obtain⟨cv1,sv1⟩:=o1.vc;have d11:=hK3.r11;have x11:=hK2.r11;apply sR;simp only[go_sem,seval,d11,cv1,sv1];have hK4:=hK3.put (w:=.agg [v0,v1,.aC,vI (-1)]);have push:∀{K Zx:af} {v:V} {rows:List V} {o:Ob},K i11≠none->aL K Zx 3 1 v rows->aL K (C' Zx i11 o) 3 1 v rows:=λ{K Zx v rows o} hk h=>by
  rcases h with h|⟨id,g1,g2,g3⟩
  .exact .inl h
  .exact .inr ⟨id,g1,by rw[ae (λe=>by rw[e]at g3;exact hk g3)];exact g2,g3⟩
 have kk:aU U i11 i11≠none:=λh=>(aF.1 h).1 rfl;have o1':aL Y2 Z3 3 1 v1 _:=o1;have o04:=push (o:=⟨321,4,[.agg [v0,v1,.aC,vI (-1)]]⟩) kk o03;have o14:=push (o:=⟨321,4,[.agg [v0,v1,.aC,vI (-1)]]⟩) (by rw[x11];simp) o1';generalize C' Z3 i11 ⟨321,4,[.agg [v0,v1,.aC,vI (-1)]]⟩=Y4 at*;have YZ:∀kk p,(chR l of kk p).length<=1000000:=λkk p=>by
  unfold chR;split
  .have h1:=List.length_filter_le p (abv l (of.getD kk.toNat 0).toNat);have h2:=jv l (l.length+1) (ew l (of.getD kk.toNat 0).toNat);have h3:(abv l (of.getD kk.toNat 0).toNat).length<=l.length+1:=h2;omega
  .simp
 refine ab.call rfl rfl rfl (GP _ (YZ _ _) o14 n1) ?_;rintro r Z5 ⟨rfl,o15,ZI⟩;have y5:=hK2.ask.r5;have hK5:KR l of k i4 i5 i6 i9 YM i11 (.agg [v0,v1,.aC,vI (-1)]) U Z5:=
  ⟨⟨ZI _ _ hK4.ask.r4 (.inl (by simp)),ZI _ _ hK4.ask.r5 (.inr (by rw[y5];simp)),ZI _ _ hK4.ask.r9 (.inl (by simp)),ZI _ _ hK4.ask.r10 (.inl (by simp))⟩,ZI _ _ hK4.r6 (.inl (by simp)),ZI _ _ hK4.r11 (.inl (by simp)),
    λi o h=>ZI _ _ (hK4.sub _ _ h) (.inr (by rw[hK2.sub _ _ h];simp)),hK4.no,hK4.ne⟩
 have o05:aL (aU U i11) Z5 3 1 v0 ((chR l of ((k:Int)-1) (λb=>!hAt l of b k)).map vI):=by
  rcases o0' with h|⟨id,g1,g2,g3⟩
  .exact .inl h
  .rcases o04 with⟨e,_⟩|⟨ZD,e1,e2,_⟩
   .rw[g1]at e;cases e
   .rw[g1]at e1;injection e1 with e1 _ _
    subst e1;exact .inr ⟨id,g1,ZI _ _ e2 (.inr (by rw[g2];simp)),g3⟩
 have e9:=hK5.ask.r9;have e5:=hK5.ask.r5;have e11:=hK5.r11;rw[pH]at e9;apply sR;simp only[go_sem,seval,e9,e5];refine ab.call rfl rfl rfl (vN l hl hb hn of hon ZR k 316 [.ptr YM 0 0,.ptr i5 0 0] (λb=>hAt l of b ((k:Int)-1)) (λb ZE X' hτ=>Qp l hb hn of hon ZR b ZE k (by omega) (by omega) (hK5.ask.mono hτ))) ?_;rintro v2 Z6 ⟨s6,o2,_⟩;have hK6:=hK5.mono s6;have o06:=o05.mono s6;have o16:=o15.mono s6;have o2':aL Z5 Z6 3 1 v2 _:=o2;obtain⟨cv2,sv2⟩:=o2.vc;have f11:=hK6.r11;have f4:=hK6.ask.r4;have f5:=hK6.ask.r5;have f6:=hK6.r6;have push':∀{K:af} {J:af} {v:V} {rows x:List V} {i:Nat} {o:Ob},J i=some ⟨321,4,x⟩->aL K J 3 1 v rows->aL K (C' J i o) 3 1 v rows:=λ{K J v rows x i o} hi h=>by
  rcases h with h|⟨id,g1,g2,g3⟩
  .exact .inl h
  .refine .inr ⟨id,g1,?_,g3⟩;rw[ae (λe=>by rw[e,hi]at g2;cases g2)];exact g2
 have hsK1:aa U (aU U i11):=λi o h=>by rw[aU,av (λe=>by rw[e,hK6.no]at h;cases h)];exact h
 have fin:∀(t:Int) (o:Ob),t=(ed l of k).text->ak (.P' [.agg [v0,v1,v2,vI t],vI 0]) (C' (C' Z6 i11 ⟨321,4,[.agg [v0,v1,v2,vI t]]⟩) i6 o) λr Z'=>r=.P' [j9 (ed l of k),vI 0]/\Z'=U:=by
  intro t o ht;have g6:=f6;rw[<-ae (U:=Z6) (o:=⟨321,4,[.agg [v0,v1,v2,vI t]]⟩) n611]at g6;have p0:=push' (o:=o) g6 (push' (o:=⟨321,4,[.agg [v0,v1,v2,vI t]]⟩) f11 o06);have p1:=push' (o:=o) g6 (push' (o:=⟨321,4,[.agg [v0,v1,v2,vI t]]⟩) f11 o16);have p2:=push' (o:=o) g6 (push' (o:=⟨321,4,[.agg [v0,v1,v2,vI t]]⟩) f11 o2');have Ys:=((hK6.sub.ax (o:=⟨321,4,[.agg [v0,v1,v2,vI t]]⟩) hK6.no)).ax (o:=o) z6;refine⟨_,U,Ys,Wk.P' (vs':=[j9 (ed l of k),vI 0]) ⟨Wk.agg (vs':=[bl (ed l of k).ends,bl (ed l of k).begins,bl (ed l of k).both,vI (ed l of k).text]) ⟨p0.wk hsK1 Ys,p1.wk hK2.sub Ys,p2.wk hK5.sub Ys,by rw[<-ht];exact Wk.refl Ys _,trivial⟩,Wk.refl Ys _,trivial⟩,rfl,rfl⟩
 rcases Nat.eq_zero_or_pos k with rfl|h0
 .have q3:((((0:Nat):Int))>0)=False:=T';apply sR;simp only[go_sem,seval,f11,f5,f6,cv2,sv2,ae n511,ae n611];exact fin _ _ (by simp[ed])
 have q3:((k:Int)>0)=True:=Yd;by_cases h1:k<of.length
 .have q4:((k:Int)<of.length)=True:=Yd;have q5:=ai (m:=((k-1:Nat):Int)) (by omega) (by omega);have q6:((k:Int)-1)=((k-1:Nat):Int):=by omega
  have q7:=λU=>iQ (U:=U) h1;have q8:=λU=>iQ (U:=U) (l:=of) (i:=k-1) (by omega);have g1:of.getD k 0=of[k]:=by simp[h1]
  have g2:of.getD (k-1) 0=of[k-1]:=by have:k-1<of.length:=by omega
                                      simp[this]
  by_cases h2:of.getD k 0=of.getD (k-1) 0
  .have q9:(of[k]=of[k-1])=True:=Yd (by rw[<-g1,<-g2];exact h2);apply sR;simp only[go_sem,seval,f11,f4,f5,f6,cv2,sv2,ae n411,ae n511,ae n611,q3,q4,q5,q6,q7,q8,q9,hlo,cJ];exact fin _ _ (by simp only[ed];rw[ar ⟨h0,h1,h2⟩,g1])
  .have q9:(of[k]=of[k-1])=False:=T' (by rw[<-g1,<-g2];exact h2);apply sR;simp only[go_sem,seval,f11,f4,f5,f6,cv2,sv2,ae n411,ae n511,ae n611,q3,q4,q5,q6,q7,q8,q9,hlo,cJ];exact fin _ _ (by simp only[ed];rw[av (λh=>h2 h.2.2)])
 .have q4:((k:Int)<of.length)=False:=T';apply sR;simp only[go_sem,seval,f11,f4,f5,f6,cv2,sv2,ae n411,ae n511,ae n611,q3,q4,hlo,cJ];exact fin _ _ (by simp only[ed];rw[av (λh=>h1 h.2.1)])
open Go.Proofs Go.Proofs.Tryz
def stA(l:List Nd)(b:Int):Sty:=((l[b.toNat]?).map Nd.st).getD Sty.zero
def ny(l:List Nd)(b:Int):List Int:=(if 0<(stA l b).head then[2]else[])++[(stA l b).before]
def ED(l:List Nd)(x:Kn):List Int:=x.ends.map (λb=>(stA l b).after)++x.begins.flatMap (ny l)
def jQ{l:List Nd}{b:Nat}(h:b<l.length):stA l b=l[b].st:=by simp[stA,h]
def DT(l:List Nd)(x:Kn)(hE:x.ends.length<=1000000)(hB:x.begins.length<=1000000)(he:∀b∈x.ends,∃n:Nat,b=n/\n<l.length)(hb:∀b∈x.begins,∃n:Nat,b=n/\n<l.length):
 Iter prog 317 [.rp (j9 x),.rp (aH l)] ((ED l x).map λn=>[vI n]):=by
 refine⟨Tk.c,λYp τ Jx Z0 hy hJ=>?_⟩;refine(Tk.r (by simp[RS]) ?_).2;obtain⟨E,B,C,tx⟩:=x;simp only at hE hB he hb;have hlE:=fo E;have hlB:=fo B;have ldI:∀(U:af) (X:List Int),bB U false 1 (.rp (bl X))=some (bl X):=λU X=>rfl;have ldN:∀U:af,bB U false 1 (.rp (aH l))=some (aH l):=λU=>rfl;generalize hT:(ED l ⟨E,B,C,tx⟩).map (λn=>[vI n])=T at hy|-;refine ab.mix 9 ?_;apply sR;simp only[go_sem,seval,RS,j9,ldI,hlE];refine ab.fj (λst=>∃(ZJ:af),τ ((E.map λb=>(stA l b).after).map λn=>[vI n]) ZJ/\aa ZJ st.U/\st.s 0=.yl Yp/\st.s 1=.rp (j9 ⟨E,B,C,tx⟩)/\st.s 2=.rp (aH l))
  (λm st=>∃(j:Nat) (ZJ:af),j<=E.length/\m=E.length-j/\τ (((E.take j).map λb=>(stA l b).after).map λn=>[vI n]) ZJ/\aa ZJ st.U/\st.s 0=.yl Yp/\st.s 1=.rp (j9 ⟨E,B,C,tx⟩)/\st.s 2=.rp (aH l)/\st.s 10=bl E/\st.s 11=vI E.length/\st.s 12=vI j) E.length ?_ ?_ ?_
 .exact⟨0,Z0,by omega,rfl,by simpa using hJ,aa.refl _,rfl,rfl,rfl,rfl,rfl,rfl⟩
 .rintro m ⟨S,J⟩ ⟨j,ZJ,hj,rfl,hJj,G',t0,t1,t2,t10,t11,t12⟩;simp only at G' t0 t1 t2 t10 t11 t12;refine ab.mix 9 ?_;by_cases H':j<E.length
  .have q:((j:Int)<E.length)=True:=Yd;have X2:=λU=>iQ (U:=U) H';have Zb:E.take (j+1)=E.take j++[E[j]]:=Zq0 H';obtain⟨b,hbe,ZE⟩:=he _ (Zr H');have e0':E=E.take j++E[j]::E.drop (j+1):=by rw[<-ia H',sZ]
   have e:T=(((E.take j).map λb=>(stA l b).after).map λn=>[vI n])++[vI l[b].st.after]::((((E.drop (j+1)).map λb=>(stA l b).after)++B.flatMap (ny l)).map λn=>[vI n]):=by
    rw[<-hT,ED]
    conv=>lhs;rw[e0']
    simp[hbe,jQ ZE]
   rw[hbe]at X2 Zb;have hnd:=λU=>db (U:=U) (l:=l) (a:=b) ZE;have r1:Yl .i64 ((j:Int)+1):=ai;apply sR;simp only[go_sem,seval,t0,t2,t10,t11,t12,q,X2,ldN,hnd,Nd.cells];refine ab.nb (Post:=λb' Z2=>∃Yr,aT ZJ J Yr Z2/\((b'=true/\τ ((((E.take j).map λb=>(stA l b).after).map λn=>[vI n])++[[vI l[b].st.after]]) Yr)\/(b'=false/\Jx ((((E.take j).map λb=>(stA l b).after).map λn=>[vI n])++[[vI l[b].st.after]]) Yr))) rfl rfl rfl (hy _ [vI l[b].st.after] _ ZJ J e hJj G') ?_;rintro b' Z2 ⟨Yr,ZU,Zn⟩;rcases Zn with⟨rfl,Zn⟩|⟨rfl,Zn⟩
   .apply sR;simp only[go_sem,seval,t0,t1,t2,t10,t11,t12,r1];refine⟨_,?_,j+1,Yr,by omega,rfl,by rw[Zb];simpa[jQ ZE]using Zn,ZU.1,by simp⟩;omega
   .apply sR;simp only[go_sem,seval];exact⟨_,Yr,ZU.1,Wk.refl ZU.1 _,.inr ⟨_,⟨_,by rw[e,lz];rfl⟩,Zn⟩⟩
  .have q:((j:Int)<E.length)=False:=T';rw[jj (by omega)]at hJj;apply sR;simp only[go_sem,seval,t0,t1,t2,t11,t12,q];exact⟨ZJ,hJj,G'⟩
 .rintro⟨S,J⟩ ⟨ZJ,hJj,G',t0,t1,t2⟩;simp only at G' t0 t1 t2;generalize hP:((E.map λb=>(stA l b).after).map λn=>[vI n])=P1 at*;refine ab.mix 9 ?_;apply sR;simp only[go_sem,seval,t1,j9,ldI,hlB];refine ab.loop (λm st=>∃(j:Nat) (ZJ:af),j<=B.length/\m=B.length-j/\τ (P1++((B.take j).flatMap (ny l)).map λn=>[vI n]) ZJ/\aa ZJ st.U/\st.s 0=.yl Yp/\st.s 2=.rp (aH l)/\st.s 27=bl B/\st.s 28=vI B.length/\st.s 29=vI j) B.length ?_ ?_
  .exact⟨0,ZJ,by omega,rfl,by simpa using hJj,G',t0,t2,rfl,rfl,rfl⟩
  .clear hJj G' t0 t1 t2;rintro m ⟨S,J⟩ ⟨j,ZJ,hj,rfl,hJj,G',t0,t2,t27,t28,t29⟩;simp only at G' t0 t2 t27 t28 t29;refine ab.mix 9 ?_;by_cases H':j<B.length
   .have q:((j:Int)<B.length)=True:=Yd;have X2:=λU=>iQ (U:=U) H';have Zb:B.take (j+1)=B.take j++[B[j]]:=Zq0 H';obtain⟨b,hbe,ZE⟩:=hb _ (Zr H');have e0':B=B.take j++B[j]::B.drop (j+1):=by rw[<-ia H',sZ]
    have e:T=(P1++((B.take j).flatMap (ny l)).map λn=>[vI n])++((ny l b).map λn=>[vI n])++(((B.drop (j+1)).flatMap (ny l)).map λn=>[vI n]):=by
     rw[<-hT,ED,gl,hP]
     conv=>lhs;rw[e0']
     simp[hbe]
    rw[hbe]at X2 Zb;have hnd:=λU=>db (U:=U) (l:=l) (a:=b) ZE;have r1:Yl .i64 ((j:Int)+1):=ai;have hs:=aa.refl J;have htk2:(P1++((B.take (j+1)).flatMap (ny l)).map λn=>[vI n])=(P1++((B.take j).flatMap (ny l)).map λn=>[vI n])++((ny l b).map λn=>[vI n]):=by rw[Zb];simp
    generalize (P1++((B.take j).flatMap (ny l)).map λn=>[vI n])=P2 at*;have hbg:ny l b=(if 0<l[b].st.head then[2]else[])++[l[b].st.before]:=by rw[ny,jQ ZE]
    apply sR;simp only[go_sem,seval,t2,t27,t28,t29,q,X2,ldN,hnd,Nd.cells];refine ad λi8 Z8 s8 a8 f8=>?_;have z8:=hs.none f8;replace hs:=hs.trans s8;simp only[go_sem,seval,a8,t0];generalize hq8:C' _ i8 _=Y8;replace a8:=(congrFun hq8 i8).symm.trans ag;replace hs:=Eq.subst (motive:=aa _) hq8 (hs.ax z8);clear hq8;generalize ((B.drop (j+1)).flatMap (ny l)).map (λn=>[vI n])=R2 at*;refine⟨λh0=>?_,λh0=>?_⟩
    .have e1:T=P2++[vI 2]::([vI l[b].st.before]::R2):=by rw[e,hbg,ar h0];simp
     have e2:T=(P2++[[vI 2]])++[vI l[b].st.before]::R2:=by rw[e1];simp
     have e3:(P2++[[vI 2]])++[[vI l[b].st.before]]=P2++(ny l b).map λn=>[vI n]:=by rw[hbg,ar h0];simp
     have hsub8:aa ZJ Y8:=G'.trans hs;refine ab.nb (Post:=λb' Z2=>∃Yr,aT ZJ Y8 Yr Z2/\((b'=true/\τ (P2++[[vI 2]]) Yr)\/(b'=false/\Jx (P2++[[vI 2]]) Yr))) rfl rfl rfl (hy _ [vI 2] _ ZJ Y8 e1 hJj hsub8) ?_;rintro b' Z2 ⟨Yr,ZU,Zn⟩;rcases Zn with⟨rfl,Zn⟩|⟨rfl,Zn⟩
     .have a8':=(ZU.2 i8 _ (G'.none z8) a8).1;apply sR;simp only[go_sem,seval,t0,a8'];refine ab.nb (Post:=λb' Z3=>∃ZJ3,aT Yr Z2 ZJ3 Z3/\((b'=true/\τ ((P2++[[vI 2]])++[[vI l[b].st.before]]) ZJ3)\/(b'=false/\Jx ((P2++[[vI 2]])++[[vI l[b].st.before]]) ZJ3))) rfl rfl rfl (hy _ [vI l[b].st.before] _ Yr Z2 e2 Zn ZU.1) ?_;rintro b3 Z3 ⟨ZJ3,hbs3,hbb3⟩;rcases hbb3 with⟨rfl,hbb3⟩|⟨rfl,hbb3⟩
      .apply sR;simp only[go_sem,seval,t0,t2,t27,t28,t29,r1];refine⟨_,?_,j+1,ZJ3,by omega,rfl,by rw[htk2,<-e3];exact hbb3,hbs3.1,by simp⟩;omega
      .apply sR;simp only[go_sem,seval];exact⟨_,ZJ3,hbs3.1,Wk.refl hbs3.1 _,.inr ⟨_,⟨_,by rw[e2,lz];rfl⟩,hbb3⟩⟩
     .apply sR;simp only[go_sem,seval];exact⟨_,Yr,ZU.1,Wk.refl ZU.1 _,.inr ⟨_,⟨_,by rw[e1,lz];rfl⟩,Zn⟩⟩
    .have e2:T=P2++[vI l[b].st.before]::R2:=by rw[e,hbg,av (by omega)];simp
     have e3:P2++[[vI l[b].st.before]]=P2++(ny l b).map λn=>[vI n]:=by rw[hbg,av (by omega)];simp
     have hsub8:aa ZJ Y8:=G'.trans hs;apply sR;simp only[go_sem,seval];refine ab.nb (Post:=λb' Z3=>∃ZJ3,aT ZJ Y8 ZJ3 Z3/\((b'=true/\τ (P2++[[vI l[b].st.before]]) ZJ3)\/(b'=false/\Jx (P2++[[vI l[b].st.before]]) ZJ3))) rfl rfl rfl (hy _ [vI l[b].st.before] _ ZJ Y8 e2 hJj hsub8) ?_;rintro b3 Z3 ⟨ZJ3,hbs3,hbb3⟩;rcases hbb3 with⟨rfl,hbb3⟩|⟨rfl,hbb3⟩
     .apply sR;simp only[go_sem,seval,t0,t2,t27,t28,t29,r1];refine⟨_,?_,j+1,ZJ3,by omega,rfl,by rw[htk2,<-e3];exact hbb3,hbs3.1,by simp⟩;omega
     .apply sR;simp only[go_sem,seval];exact⟨_,ZJ3,hbs3.1,Wk.refl hbs3.1 _,.inr ⟨_,⟨_,by rw[e2,lz];rfl⟩,hbb3⟩⟩
   .have q:((j:Int)<B.length)=False:=T';rw[jj (by omega),<-hP,<-gl]at hJj;apply sR;simp only[go_sem,seval,t28,t29,q];exact⟨_,ZJ,G',Wk.refl G' _,.inl (hT▸hJj)⟩
open Go.Proofs Go.Proofs.Tryz
def Ak{l:List Nd}{of:List Int}(ZR:∀x∈of,0<=x/\x<l.length){k:Int}{p:Int->Bool}:∀b∈chR l of k p,∃n:Nat,b=n/\n<l.length:=λb hb=>by
 unfold chR at hb;split at hb
 .rename_i h;have H':k.toNat<of.length:=by omega
  have hgd:of.getD k.toNat 0=of[k.toNat]:=by simp[H']
  rw[hgd]at hb;obtain⟨h0,h1⟩:=ZR _ (Zr H');obtain⟨n,rfl,hn⟩:=ru (l:=l) (a:=of[k.toNat].toNat) (by omega) b (rR.1 hb).1;exact⟨n,rfl,by omega⟩
 .cases hb
def rQ{l:List Nd}(hn:l.length<=100000){of:List Int}{k:Int}{p:Int->Bool}:(chR l of k p).length<=100001:=by
 unfold chR;split
 .have h1:=List.length_filter_le p (abv l (of.getD k.toNat 0).toNat);have h2:=jv l (l.length+1) (ew l (of.getD k.toNat 0).toNat);have h3:(abv l (of.getD k.toNat 0).toNat).length<=l.length+1:=h2;omega
 .simp
def Lj(l:List Nd)(b:Int):(ny l b).length<=2:=by unfold ny;split<;>simp
def Db{α β:Type}(f:α->List β)(hf:∀a,(f a).length<=2):∀L:List α,(L.flatMap f).length<=2*L.length
 |[]=>by simp
 |a::L=>by
  rw[At,gZ,ZK];have:=Db f hf L;have:=hf a;omega
def jC(l:List Nd)(of:List Int)(k:Nat):List Int:=if k=of.length then[]else ED l (ed l of k)
def CU{l:List Nd}(hn:l.length<=100000)(of:List Int)(k:Nat):(ED l (ed l of k)).length<=1000000:=by
 unfold ED;rw[gZ,cL];have h1:=Db (ny l) (Lj l) (ed l of k).begins;have h2:(ed l of k).ends.length<=100001:=rQ hn;have h3:(ed l of k).begins.length<=100001:=by
  rw[ed,List.length_reverse];exact rQ hn
 omega
def Ij(l:List Nd)(x:Kn):aJ prog 274 [aH l,j9 x] (.fn 317 [.rp (j9 x),.rp (aH l)]):=λU=>by
 refine WB.r (by simp[Rz]) ?_;refine ab.mix 4 ?_;have q1:=cu l;have q2:=eL l;generalize aH l=y at*;obtain⟨E,B,C,tx⟩:=x;simp only[j9];apply sR;simp only[go_sem,seval,Rz,q1,q2];refine ad λid1 Z1 s1 a1 f1=>?_;simp only[go_sem,seval];refine ad λid2 Z2 s2 a2 f2=>?_;simp only[go_sem,seval];exact⟨_,U,s1.trans s2,Wk.fn (vs':=[.rp (.agg [bl E,bl B,bl C,vI tx]),.rp y]) ⟨Wk.ptr (s1.trans s2) a2 (s1.none f2),Wk.ptr (s1.trans s2) (s2 _ _ a1) f1,trivial⟩,rfl,rfl⟩
def Fv(l:List Nd)(hl:dU l)(hb:Zd l=true)(of:List Int)(hon:of.length<=1000000)(ZR:∀x∈of,0<=x/\x<l.length)(hm:rZ l of=true)(k:Nat)(hk:k<=of.length):
 aJ prog 228 [aH l,bl of,vI k] (.P' [bl (jC l of k),vI 0]):=λU=>by
 refine Xl.r (by simp[Q4]) ?_;have hs:=aa.refl U;have hlo:=fo of;have hn:l.length<=100000:=by have:=hl.1;omega
 refine ab.mix 10 ?_;apply sR;simp only[go_sem,seval,Q4];refine ab.ay rfl rfl rfl (F9 l hl hb of hon ZR hm k hk _) ?_;apply sR;simp only[go_sem,seval,j9];refine ad λi8 Z8 s8 a8 f8=>?_;have z8:=hs.none f8;replace hs:=hs.trans s8;have q0:((0:Int)≠0)=False:=T' (λh=>h rfl);by_cases hkk:k=of.length
 .have q1:((k:Int)=of.length)=True:=Yd;simp only[go_sem,seval,a8,hlo,q0,q1];rw[jC,ar hkk];have Ys:=hs.ax (o:=⟨321,4,[j9 (ed l of k)]⟩) z8;exact⟨_,U,Ys,Wk.P' (vs':=[bl [],vI 0]) ⟨(aL.start (e:=3)).wk (aa.refl _) Ys,Wk.refl Ys _,trivial⟩,rfl,rfl⟩
 .have q1:((k:Int)=of.length)=False:=T';simp only[go_sem,seval,a8,hlo,q0,q1];refine ab.ay rfl rfl rfl (Ij l (ed l of k) _) ?_;apply sR;simp only[go_sem,seval];have hal:=CU hn of k;have hit:=DT l (ed l of k) (jI (rQ hn) (by omega)) (by rw[ed,List.length_reverse];exact jI (rQ hn) (by omega)) (Ak ZR) (λb hb=>Ak ZR b (List.mem_reverse.1 hb));refine ab.ay rfl rfl rfl (zx hit hal _) ?_;apply sR;simp only[go_sem,seval];rw[jC,av hkk];have Ys:=hs.ax (o:=⟨321,4,[j9 (ed l of k)]⟩) z8;exact⟨_,U,Ys,Wk.refl Ys _,rfl,rfl⟩
open Go.Proofs Go.Proofs.Tryz
def oF(out n:Int)(over:Bool):Int:=if over=true\/out=0 then n else out
def lu(out n:Int):Int:=if n=3\/n=4 then oF out n true else if n=2 then oF out n false else out
def cN(all:List Int):Int:=all.foldl lu 0
def Aw(n:Int)(over:Bool)(out:Int){U:af}{i3:Nat}(h:U i3=some ⟨3,1,[vI out]⟩):
 au prog 275 [vI n,.bool over,.ptr i3 0 0] U λ_ Z'=>Z' i3=some ⟨3,1,[vI (oF out n over)]⟩/\∀i,i≠i3->Z' i=U i:=by
 refine Vn.r (by simp[Ki]) ?_;refine ab.mix 5 ?_;have fin:∀J:af,J i3=some ⟨3,1,[vI (oF out n over)]⟩->(∀i,i≠i3->J i=U i)->ak (.P' []) J λ_ Z'=>Z' i3=some ⟨3,1,[vI (oF out n over)]⟩/\∀i,i≠i3->Z' i=U i:=λJ h1 h2=>
  ⟨_,J,aa.refl _,Wk.refl (aa.refl _) _,h1,h2⟩
 by_cases h0:over=true\/out=0
 .have ht:oF out n over=n:=ar h0;rw[ht]at fin|-;cases over
  .have q:(out=0)=True:=Yd (by simpa using h0);apply sR;simp only[go_sem,seval,Ki,h,q];exact fin _ ag λi hi=>ae hi
  .apply sR;simp only[go_sem,seval,Ki,h];exact fin _ ag λi hi=>ae hi
 .have ht:oF out n over=out:=av h0;rw[ht]at fin|-;simp only[not_or,Bool.not_eq_true]at h0;obtain⟨rfl,h0⟩:=h0;have q:(out=0)=False:=T' h0;apply sR;simp only[go_sem,seval,Ki,h,q];exact fin _ h λi hi=>rfl
def K6(all:List Int)(hal:all.length<=1000000):aJ prog 229 [bl all] (vI (cN all)):=λU=>by
 refine V5.r (by simp[OZ]) ?_;have hs:=aa.refl U;have hla:=fo all;refine ab.mix 8 ?_;apply sR;simp only[go_sem,seval,OZ];refine ad λi3 Z3 s3 a3 f3=>?_;have z3:=hs.none f3;replace hs:=hs.trans s3;simp only[go_sem,seval,a3,hla];generalize hq3:C' _ i3 _=X3;replace a3:=(congrFun hq3 i3).symm.trans ag;replace hs:=Eq.subst (motive:=aa _) hq3 (hs.ax z3);clear hq3;refine ab.fj (λst=>st.U i3=some ⟨3,1,[vI (cN all)]⟩/\aa U st.U/\st.s 3=.ptr i3 0 0)
  (λm st=>∃j:Nat,j<=all.length/\m=all.length-j/\st.U i3=some ⟨3,1,[vI (cN (all.take j))]⟩/\aa U st.U/\st.s 3=.ptr i3 0 0/\st.s 4=.fn 275 [.ptr i3 0 0]/\st.s 9=bl all/\st.s 10=vI all.length/\st.s 11=vI j) all.length ?_ ?_ ?_
 .exact⟨0,by omega,rfl,a3,hs,rfl,rfl,rfl,rfl,rfl⟩
 .clear a3 hs;rintro m ⟨S,J⟩ ⟨j,hj,rfl,b3,hs,t3,t4,t9,t10,t11⟩;simp only at b3 hs t3 t4 t9 t10 t11;refine ab.mix 8 ?_;by_cases H':j<all.length
  .have q:((j:Int)<all.length)=True:=Yd;have X2:=λU=>iQ (U:=U) H';have Zb:cN (all.take (j+1))=lu (cN (all.take j)) all[j]:=by
    rw[cN,Zq0 H',wG];rfl
   have r1:Yl .i64 ((j:Int)+1):=ai;generalize all[j]=n at*;have sub2:∀{ρ:af} {o:Ob},ρ i3=some o->(∀i,i≠i3->ρ i=J i)->aa U ρ:=λ{ρ o} h1 h2 i x hx=>by
    rw[h2 i (λe=>by rw[e,z3]at hx;cases hx)];exact hs _ _ hx
   by_cases h3:n=3
   .have q3:(n=3)=True:=Yd h3;have Ys:oF (cN (all.take j)) n true=lu (cN (all.take j)) n:=by rw[lu,ar (.inl h3)]
    apply sR;simp only[go_sem,seval,t4,t9,t10,t11,q,q3,X2];refine ab.call rfl rfl rfl (Aw n true (cN (all.take j)) b3) ?_;rintro-ρ ⟨g1,g2⟩;apply sR;simp only[go_sem,seval,t3,t4,t9,t10,t11,r1];refine⟨_,?_,j+1,by omega,rfl,by rw[Zb];exact Ys▸g1,sub2 g1 g2,by simp⟩;omega
   .have q3:(n=3)=False:=T' h3;by_cases h4:n=4
    .have q4:(n=4)=True:=Yd h4;have Ys:oF (cN (all.take j)) n true=lu (cN (all.take j)) n:=by rw[lu,ar (.inr h4)]
     apply sR;simp only[go_sem,seval,t4,t9,t10,t11,q,q3,q4,X2];refine ab.call rfl rfl rfl (Aw n true (cN (all.take j)) b3) ?_;rintro-ρ ⟨g1,g2⟩;apply sR;simp only[go_sem,seval,t3,t4,t9,t10,t11,r1];refine⟨_,?_,j+1,by omega,rfl,by rw[Zb];exact Ys▸g1,sub2 g1 g2,by simp⟩;omega
    .have q4:(n=4)=False:=T' h4;by_cases h2:n=2
     .have q2:(n=2)=True:=Yd h2;have Ys:oF (cN (all.take j)) n false=lu (cN (all.take j)) n:=by rw[lu,av (by simp[h3,h4]),ar h2]
      apply sR;simp only[go_sem,seval,t4,t9,t10,t11,q,q3,q4,q2,X2];refine ab.call rfl rfl rfl (Aw n false (cN (all.take j)) b3) ?_;rintro-ρ ⟨g1,g2⟩;apply sR;simp only[go_sem,seval,t3,t4,t9,t10,t11,r1];refine⟨_,?_,j+1,by omega,rfl,by rw[Zb];exact Ys▸g1,sub2 g1 g2,by simp⟩;omega
     .have q2:(n=2)=False:=T' h2;have Ys:cN (all.take j)=lu (cN (all.take j)) n:=by rw[lu,av (by simp[h3,h4]),av h2]
      apply sR;simp only[go_sem,seval,t3,t4,t9,t10,t11,q,q3,q4,q2,r1,X2];refine⟨_,?_,j+1,by omega,rfl,by rw[Zb,<-Ys];exact b3,hs,by simp⟩;omega
  .have q:((j:Int)<all.length)=False:=T';rw[jj (by omega)]at b3;apply sR;simp only[go_sem,seval,t3,t10,t11,q];exact⟨b3,hs⟩
 .rintro⟨S,J⟩ ⟨b3,hs,t3⟩;simp only at b3 hs t3;refine ab.mix 8 ?_;apply sR;simp only[go_sem,seval,t3,b3];exact⟨_,U,hs,Wk.refl hs _,rfl,rfl⟩
open Go.Proofs Go.Proofs.Tryz
def jB(l:List Nd)(of:List Int)(k:Nat):Int:=cN (jC l of k)
def vE{l:List Nd}(hn:l.length<=100000)(of:List Int)(k:Nat):(jC l of k).length<=1000000:=by
 unfold jC;split
 .simp
 .exact CU hn of k
def Ud(l:List Nd)(hl:dU l)(hb:Zd l=true)(of:List Int)(hon:of.length<=1000000)(ZR:∀x∈of,0<=x/\x<l.length)(hm:rZ l of=true)(k:Nat)(hk:k<=of.length):
 aJ prog 170 [aH l,bl of,vI k] (.P' [vI (jB l of k),vI 0]):=λU=>by
 refine WR.r (by simp[Pk]) ?_;have hs:=aa.refl U;have hn:l.length<=100000:=by have:=hl.1;omega
 refine ab.mix 11 ?_;apply sR;simp only[go_sem,seval,Pk];refine ab.ay rfl rfl rfl (Fv l hl hb of hon ZR hm k hk _) ?_;apply sR;simp only[go_sem,seval];refine ab.ay rfl rfl rfl (K6 _ (vE hn of k) _) ?_;apply sR;simp only[go_sem,seval];exact ak.pure hs rfl
def CB(l:List Nd)(of:List Int):List Int:=(List.range (of.length+1)).map (jB l of)
def Rv(l:List Nd)(hl:dU l)(hb:Zd l=true)(of:List Int)(hon:of.length<=1000000)(ZR:∀x∈of,0<=x/\x<l.length)(hm:rZ l of=true):
 aJ prog 110 [aH l,bl of] (.P' [bl (CB l of),vI 0]):=λU=>by
 refine WV.r (by simp[Qk]) ?_;have hs:=aa.refl U;have hlo:=fo of;refine ab.mix 11 ?_;apply sR;simp only[go_sem,seval,Qk];refine ab.ay rfl rfl rfl (qO l hl hb of hon hm _) ?_;have q0:((0:Int)≠0)=False:=T' (λh=>h rfl);have r0:Yl .i64 ((of.length:Int)+1):=ai;apply sR;simp only[go_sem,seval,q0,hlo,r0];refine ab.fj (λst=>aa U st.U/\aL U st.U 3 1 (st.s 7) ((CB l of).map vI))
  (λm st=>∃j:Nat,j<=of.length+1/\m=of.length+1-j/\aa U st.U/\aL U st.U 3 1 (st.s 7) (((List.range j).map (jB l of)).map vI)/\st.s 0=aH l/\st.s 1=bl of/\st.s 19=vI ((of.length:Int)+1)/\st.s 20=vI j) (of.length+1) ?_ ?_ ?_
 .exact⟨0,by omega,rfl,hs,aL.start,rfl,rfl,rfl,rfl⟩
 .clear hs;rintro m ⟨S,J⟩ ⟨j,hj,rfl,hs,ho,t0,t1,t19,t20⟩;simp only at hs ho t0 t1 t19 t20;generalize hv7:S 7=v7 at ho;refine ab.mix 11 ?_;by_cases H':j<of.length+1
  .have q:((j:Int)<of.length+1)=True:=Yd;have r1:Yl .i64 ((j:Int)+1):=ai;have YK:(((List.range (j+1)).map (jB l of)).map vI)=(((List.range j).map (jB l of)).map vI)++[vI (jB l of j)]:=by
    rw[List.range_succ];simp
   have hlm:(((List.range j).map (jB l of)).map vI).length=j:=by simp
   apply sR;simp only[go_sem,seval,t0,t1,t19,t20,q];refine ab.ay rfl rfl rfl (Ud l hl hb of hon ZR hm j (by omega) _) ?_;generalize ((List.range j).map (jB l of)).map vI=rows at*;apply sR;simp only[go_sem,seval,hv7];refine ad λi32 Z32 s32 a32 f32=>?_;obtain⟨Yn,ZV,Zk,hd1,hd2⟩:=ho.Es s32;have Zl:(rows.length+1)*9<=140737488355328:=by omega
   simp only[go_sem,seval,ZV,cT a32,Zl];refine cO λi33 Z33 s33 a33 f33=>?_;have k33:=(Zk U (aa.refl _) Z32 (hs.trans s32)).trans s33;have n33:U i33=none:=(hs.trans s32).none f33;simp only[go_sem,seval,t0,t1,t19,t20,r1];refine⟨_,?_,j+1,by omega,rfl,k33,?_,by simp⟩
   .omega
   .rw[YK];exact aL.new (by simp) a33 n33
  .have q:((j:Int)<of.length+1)=False:=T';have hje:j=of.length+1:=by omega
   subst hje;apply sR;simp only[go_sem,seval,t19,t20,q];exact⟨hs,hv7▸ho⟩
 .rintro⟨S,J⟩ ⟨hs,ho⟩;simp only at hs ho;generalize hv7:S 7=v7 at ho;refine ab.mix 11 ?_;apply sR;simp only[go_sem,seval,hv7];exact⟨_,U,hs,Wk.P' (vs':=[bl (CB l of),vI 0]) ⟨ho.wk (aa.refl _) hs,Wk.refl hs _,trivial⟩,rfl,rfl⟩
open Go.Proofs Go.Proofs.Tryz
def jx(l:List Nd)(of:List Int)(k:Int)(x:Kn):V:=.agg [bl x.ends,bl x.begins,bl x.both,vI x.text,aH l,bl of,vI k]
def Rn(l:List Nd)(hl:dU l)(hb:Zd l=true)(of:List Int)(hon:of.length<=1000000)(ZR:∀x∈of,0<=x/\x<l.length)(hm:rZ l of=true)(k:Nat)(hk:k<=of.length):
 aJ prog 230 [aH l,bl of,vI k] (.P' [jx l of k (ed l of k),vI 0]):=λU=>by
 refine U7.r (by simp[RQ]) ?_;have hs:=aa.refl U;refine ab.mix 10 ?_;apply sR;simp only[go_sem,seval,RQ];refine ad λi6 Z6 s6 a6 f6=>?_;have z6:=hs.none f6;replace hs:=hs.trans s6;simp only[go_sem,seval];refine ab.ay rfl rfl rfl (F9 l hl hb of hon ZR hm k hk _) ?_;apply sR;simp only[go_sem,seval,j9];refine ad λi8 Z8 s8 a8 f8=>?_;have n68:=ao a6 f8;replace a6:=s8 _ _ a6;have z8:=hs.none f8;replace hs:=hs.trans s8;simp only[go_sem,seval,a8,a6,ae n68,cu,cJ,gV,eL];exact ak.pure ((hs.ax z8).ax z6) rfl
def KC:aJ prog 276 [] (.agg [vI 0,vI 0,vI 0,vI 0,vI 0,vI 2,vI 2,vI 0,vI 0,vI 0,vI 0,vI 0]):=λU=>by
 refine VP.r (by simp[Pz]) ?_;apply sR;simp only[go_sem,seval,Pz];refine ad λid0 Z0 s0 a0 f0=>?_;simp only[go_sem,seval,a0];exact .pure (s0.ax f0) rfl
def uy(a:Int):List Int->Nat->Int
 |[],_=>-1
 |q::r,i=>if q=a then i else uy a r (i+1)
def HP{a:Int}{p:List Int}{i:Nat}(h:i<p.length):uy a (p.drop i) i=if p[i]=a then(i:Int)else uy a (p.drop (i+1)) (i+1):=by
 rw[ia h,uy]
def CR(a:Int):∀(p:List Int) (i:Nat),uy a p i>=0↔a∈p
 |[],_=>by simp[uy]
 |q::r,i=>by
  rw[uy];split
  .rename_i h;subst h;simp
  .rename_i h;rw[CR a r (i+1),cg];constructor
   .exact .inr
   .rintro(rfl|h2)
    .exact absurd rfl h
    .exact h2
def Kk(p:List Int)(hp:p.length<=1000000000)(a:Int):aJ prog 318 [bl p,vI a] (vI (uy a p 0)):=λU=>by
 refine W7.r (by simp[SC]) ?_;have hlp:=fo p;refine ab.mix 9 ?_;apply sR;simp only[go_sem,seval,SC,hlp];refine ab.loop (λm st=>∃(i:Nat),i<=p.length/\m=p.length-i/\uy a p 0=uy a (p.drop i) i/\st.U=U/\st.s 0=bl p/\st.s 1=vI a/\st.s 7=vI p.length/\st.s 8=vI i) p.length ?_ ?_
 .exact⟨0,by omega,rfl,rfl,rfl,rfl,rfl,rfl,rfl⟩
 .rintro m ⟨s,Z'⟩ ⟨i,hi,rfl,heq,YF,h0,h1,h7,h8⟩;simp only at YF h0 h1 h7 h8;subst YF;refine ab.mix 9 ?_;by_cases H':i<p.length
  .have q:((i:Int)<p.length)=True:=Yd;have hd:=HP (a:=a) H';have X2:=λU=>iQ (U:=U) H';have r1:Yl .i64 ((i:Int)+1):=ai;by_cases hc:p[i]=a
   .have q1:(a=p[i])=True:=Yd hc.symm;apply sR;simp only[go_sem,seval,h0,h1,h7,h8,q,X2,q1];refine ak.same ?_;rw[heq,hd,ar hc]
   .have q1:(a=p[i])=False:=T' (λh=>hc h.symm);apply sR;simp only[go_sem,seval,h0,h1,h7,h8,q,X2,q1,r1];refine⟨_,?_,i+1,by omega,rfl,?_,by simp⟩
    .omega
    .rw[heq,hd,av hc]
  .have q:((i:Int)<p.length)=False:=T';have hie:i=p.length:=by omega
   apply sR;simp only[go_sem,seval,h7,h8,q];refine ak.same ?_;rw[heq,hie,x5];rfl
def BG(p:List Int)(hp:p.length<=1000000000)(a:Int):aJ prog 280 [bl p,vI a] (.bool (decide (a∈p))):=λU=>by
 refine V7.r (by simp[Qv]) ?_;apply sR;simp only[go_sem,seval,Qv];refine ab.ay rfl rfl rfl (Kk p hp a _) ?_;have h:=CR a p 0;by_cases ha:a∈p
 .have q:(uy a p 0>=0)=True:=Yd (h.2 ha);apply sR;simp only[go_sem,seval,q];exact ak.same (by simp[ha])
 .have q:(uy a p 0>=0)=False:=T' (λhh=>ha (h.1 hh));apply sR;simp only[go_sem,seval,q];exact ak.same (by simp[ha])
open Go.Proofs Go.Proofs.Tryz
def lB(of:List Int)(t:Int)(k:Nat):Nat->Nat×Nat
 |0=>(0,0)
 |j+1=>if of.getD j 0=t then if j<k then((lB of t k j).1+1,(lB of t k j).2)else((lB of t k j).1,(lB of t k j).2+1)else lB of t k j
def pY(of:List Int)(t:Int)(k:Nat):Nat×Nat:=if t<0 then(0,0)else lB of t k of.length
def Gr(of:List Int)(t:Int)(k:Nat):∀j,(lB of t k j).1<=j/\(lB of t k j).2<=j
 |0=>by simp[lB]
 |j+1=>by
  have:=Gr of t k j;rw[lB];split
  .split<;>simp only<;>omega
  .omega
def KS(l:List Nd)(of:List Int)(hon:of.length<=1000000)(k:Nat)(x:Kn):
 aJ prog 278 [jx l of k x] (.P' [vI (pY of x.text k).1,vI (pY of x.text k).2]):=λU=>by
 refine Wl.r (by simp[Sb]) ?_;have hs:=aa.refl U;have hlo:=fo of;obtain⟨E,B,C,t⟩:=x;simp only;refine ab.mix 6 ?_;apply sR;simp only[go_sem,seval,Sb,jx];refine ad λi1 Z1 s1 a1 f1=>?_;replace hs:=hs.trans s1;unfold pY;by_cases ht:t<0
 .have q:(t<0)=True:=Yd ht;simp only[go_sem,seval,a1,q];exact ak.pure hs (by simp)
 have q:(t<0)=False:=T' ht;rw[av ht];simp only[go_sem,seval,a1,q,hlo];refine ab.loop (λm st=>∃j:Nat,j<=of.length/\m=of.length-j/\st.U=Z1/\st.s 1=.ptr i1 0 0/\st.s 2=vI (lB of t k j).1/\st.s 3=vI (lB of t k j).2/\st.s 11=bl of/\st.s 12=vI of.length/\st.s 13=vI j) of.length ?_ ?_
 .exact⟨0,by omega,rfl,rfl,rfl,rfl,rfl,rfl,rfl,rfl⟩
 .rintro m ⟨S,J⟩ ⟨j,hj,rfl,YF,t1,t2,t3,t11,t12,t13⟩;simp only at YF t1 t2 t3 t11 t12 t13;subst YF;refine ab.mix 6 ?_;by_cases H':j<of.length
  .have q0:((j:Int)<of.length)=True:=Yd;have r1:Yl .i64 ((j:Int)+1):=ai;have X2:=λU=>iQ (U:=U) H';have hgd:of.getD j 0=of[j]:=by simp[H']
   have hle:=Gr of t k j;have Ys:lB of t k (j+1)=if of[j]=t then if j<k then((lB of t k j).1+1,(lB of t k j).2)else((lB of t k j).1,(lB of t k j).2+1)else lB of t k j:=by rw[lB,hgd]
   have r2:Yl .i64 (((lB of t k j).1:Int)+1):=ai;have r3:Yl .i64 (((lB of t k j).2:Int)+1):=ai;by_cases hn:of[j]=t
   .have q1:(of[j]≠t)=False:=T' (λh=>h hn);rw[ar hn]at Ys;by_cases hk:j<k
    .have q2:((j:Int)<k)=True:=Yd;rw[ar hk]at Ys;apply sR;simp only[go_sem,seval,t1,t2,t3,t11,t12,t13,a1,q0,q1,q2,r1,r2,X2];refine⟨_,?_,j+1,by omega,rfl,by rw[Ys];simp⟩;omega
    .have q2:((j:Int)<k)=False:=T';rw[av hk]at Ys;apply sR;simp only[go_sem,seval,t1,t2,t3,t11,t12,t13,a1,q0,q1,q2,r1,r3,X2];refine⟨_,?_,j+1,by omega,rfl,by rw[Ys];simp⟩;omega
   .have q1:(of[j]≠t)=True:=Yd hn;rw[av hn]at Ys;apply sR;simp only[go_sem,seval,t1,t2,t3,t11,t12,t13,a1,q0,q1,r1,X2];refine⟨_,?_,j+1,by omega,rfl,by rw[Ys];simp⟩;omega
  .have q0:((j:Int)<of.length)=False:=T';have hje:j=of.length:=by omega
   apply sR;simp only[go_sem,seval,t2,t3,t12,t13,q0];exact ak.pure hs (by rw[hje])
open Go.Proofs Go.Proofs.Tryz
def AO:Sty:=⟨0,0,0,0,0,2,2,0,0,0,0,0⟩
def A0(l:List Nd)(t:Int):Sty:=if 0<=ew l t.toNat then stA l (ew l t.toNat)else AO
def RZ(l:List Nd)(of:List Int)(t:Int)(k:Nat):Bool:=if t<0 then false else decide (((pY of t k).1:Int)<(A0 l t).YN\/((pY of t k).2:Int)<(A0 l t).YY)
def RH(l:List Nd)(hl:dU l)(hb:Zd l=true)(of:List Int)(hon:of.length<=1000000)(k:Nat)(x:Kn)(hx:x.text<l.length):
 aJ prog 231 [jx l of k x] (.bool (RZ l of x.text k)):=λU=>by
 refine Wf.r (by simp[QP]) ?_;have hs:=aa.refl U;have hlc:=λx=>KS l of hon k x;obtain⟨E,B,C,t⟩:=x;simp only at hx|-;refine ab.mix 7 ?_;apply sR;simp only[go_sem,seval,QP,jx];refine ad λi1 Z1 s1 a1 f1=>?_;replace hs:=hs.trans s1;unfold RZ;by_cases ht:t<0
 .have q:(t<0)=True:=Yd ht;simp only[go_sem,seval,a1,q];exact ak.pure hs (by simp)
 have q:(t<0)=False:=T' ht;rw[av ht];obtain⟨a,rfl⟩:∃a:Nat,t=a:=⟨t.toNat,by omega⟩
 simp only[go_sem,seval,a1,q];refine ab.ay rfl rfl rfl (KC _) ?_;apply sR;simp only[go_sem,seval];refine ad λi3 Z3 s3 a3 f3=>?_;have n13:=ao a1 f3;replace a1:=s3 _ _ a1;have z3:=hs.none f3;replace hs:=hs.trans s3;simp only[go_sem,seval,a3,a1,ae n13];generalize hq3:C' _ i3 _=X3;replace a3:=(congrFun hq3 i3).symm.trans ag;replace a1:=((congrFun hq3 i1).symm.trans (ae n13)).trans a1;replace hs:=Eq.subst (motive:=aa _) hq3 (hs.ax z3);clear hq3;refine ab.ay rfl rfl rfl (EJ l hl hb a (by omega) _) ?_;have hpr:=fD l a;have hsd:A0 l (a:Int)=if 0<=ew l a then stA l (ew l a)else AO:=by simp[A0]
 rw[hsd];by_cases hp:0<=ew l a
 .have q0:(ew l a>=0)=True:=Yd hp;obtain⟨b,hbe⟩:∃b:Nat,ew l a=b:=⟨(ew l a).toNat,by omega⟩
  rw[ar hp];rw[hbe]at q0 hpr|-;have ZE:b<l.length:=by omega
  have hnd:=λU=>db (U:=U) (l:=l) (a:=b) ZE;rw[jQ ZE];apply sR;simp only[go_sem,seval,a1,a3,q0,hnd,Nd.cells,ae n13];generalize hq4:C' X3 i3 _=Y4;have b3:Y4 i3=some ⟨56,12,[kN l[b].st]⟩:=by rw[<-hq4];exact ag
  replace hs:aa U Y4:=by rw[<-hq4];exact hs.ax z3
  clear hq4;generalize l[b].st=st at*;rw[kN]at b3;refine ab.ay rfl rfl rfl (hlc ⟨E,B,C,a⟩ _) ?_;generalize pY of (a:Int) k=L at*;obtain⟨L1,L2⟩:=L;simp only;by_cases h1:(L1:Int)<st.YN
  .have q1:((L1:Int)<st.YN)=True:=Yd h1;apply sR;simp only[go_sem,seval,b3,q1];exact ak.pure hs (by simp)
  .have q1:((L1:Int)<st.YN)=False:=T' h1;by_cases h2:(L2:Int)<st.YY
   .have q2:((L2:Int)<st.YY)=True:=Yd h2;apply sR;simp only[go_sem,seval,b3,q1,q2];exact ak.pure hs (by simp)
   .have q2:((L2:Int)<st.YY)=False:=T' h2;apply sR;simp only[go_sem,seval,b3,q1,q2];exact ak.pure hs (by simp)
 .have q0:(ew l a>=0)=False:=T' hp;rw[av hp];apply sR;simp only[go_sem,seval,a1,q0];have b3:X3 i3=some ⟨56,12,[kN AO]⟩:=a3;generalize AO=st at*;rw[kN]at b3;refine ab.ay rfl rfl rfl (hlc ⟨E,B,C,a⟩ _) ?_;generalize pY of (a:Int) k=L at*;obtain⟨L1,L2⟩:=L;simp only;by_cases h1:(L1:Int)<st.YN
  .have q1:((L1:Int)<st.YN)=True:=Yd h1;apply sR;simp only[go_sem,seval,b3,q1];exact ak.pure hs (by simp)
  .have q1:((L1:Int)<st.YN)=False:=T' h1;by_cases h2:(L2:Int)<st.YY
   .have q2:((L2:Int)<st.YY)=True:=Yd h2;apply sR;simp only[go_sem,seval,b3,q1,q2];exact ak.pure hs (by simp)
   .have q2:((L2:Int)<st.YY)=False:=T' h2;apply sR;simp only[go_sem,seval,b3,q1,q2];exact ak.pure hs (by simp)
open Go.Proofs Go.Proofs.Tryz
def FZ(l:List Nd)(x:Kn):Bool:=x.both.any λb=>decide ((stA l b).inside=1)
def El(l:List Nd)(of:List Int)(k:Nat)(x:Kn){U:af}{i1:Nat}(h:U i1=some ⟨323,7,[jx l of k x]⟩)(n:Nat)(hn:n<l.length):
 au prog 279 [vI n,.ptr i1 0 0] U λr Z'=>r=.bool (decide ((stA l n).inside=1))/\Z'=U:=by
 refine U0.r (by simp[Nv]) ?_;refine ab.mix 4 ?_;have hnd:=λU=>db (U:=U) (l:=l) (a:=n) hn;rw[jQ hn];rw[jx]at h;by_cases hi:l[n].st.inside=1
 .have q:(l[n].st.inside=1)=True:=Yd hi;apply sR;simp only[go_sem,seval,Nv,h,hnd,Nd.cells,q];exact ak.same (by simp)
 .have q:(l[n].st.inside=1)=False:=T' hi;apply sR;simp only[go_sem,seval,Nv,h,hnd,Nd.cells,q];exact ak.same (by simp)
def GD(l:List Nd)(of:List Int)(k:Nat)(x:Kn)(hx:∀b∈x.both,∃n:Nat,b=n/\n<l.length)(hlen:x.both.length<=1000000):
 aJ prog 232 [jx l of k x] (.bool (FZ l x)):=λU=>by
 refine V9.r (by simp[Q7]) ?_;have hs:=aa.refl U;refine ab.mix 3 ?_;apply sR;simp only[go_sem,seval,Q7,jx];refine ad λi1 Z1 s1 a1 f1=>?_;replace hs:=hs.trans s1;simp only[go_sem,seval,a1];refine ab.ay rfl rfl rfl (nI (p:=λb=>decide ((stA l b).inside=1)) Reads.ints (by omega) (λb hb=>by
  obtain⟨n,rfl,hn⟩:=hx b hb;exact El l of k x a1 n hn)) ?_
 apply sR;simp only[go_sem,seval];exact ak.pure hs rfl
def En(l:List Nd)(hl:dU l)(hb:Zd l=true)(of:List Int)(hon:of.length<=1000000)(ZR:∀x∈of,0<=x/\x<l.length)(hm:rZ l of=true)(k:Nat)(hk:k<=of.length)(x:Kn):
 aJ prog 233 [jx l of k x] (.bool (decide (1∈jC l of k))):=λU=>by
 refine V8.r (by simp[QA]) ?_;have hs:=aa.refl U;have hn:l.length<=100000:=by have:=hl.1;omega
 refine ab.mix 5 ?_;apply sR;simp only[go_sem,seval,QA,jx];refine ad λi1 Z1 s1 a1 f1=>?_;replace hs:=hs.trans s1;simp only[go_sem,seval,a1];refine ab.ay rfl rfl rfl (Fv l hl hb of hon ZR hm k hk _) ?_;apply sR;simp only[go_sem,seval];refine ab.ay rfl rfl rfl (BG _ (by have:=vE hn of k;omega) 1 _) ?_;apply sR;simp only[go_sem,seval];exact ak.pure hs rfl
open Go.Proofs Go.Proofs.Tryz
def I2(s:Int)(j:Nat)(b:Bool):Int:=if b then s+2^j else s
def lp(l:List Nd)(of:List Int)(k:Nat):Nat->Bool
 |0=>RZ l of (ed l of k).text k
 |1=>FZ l (ed l of k)
 |_=>decide (1∈jC l of k)
def dj(l:List Nd)(of:List Int)(k:Nat):Nat->Int
 |0=>0
 |j+1=>I2 (dj l of k j) j (lp l of k j)
def sI(l:List Nd)(of:List Int)(k:Nat):Int:=if k=0\/k=of.length then 0 else dj l of k 3
def Lu{l:List Nd}{of:List Int}(ZR:∀x∈of,0<=x/\x<l.length)(k:Nat):(ed l of k).text<l.length:=by
 rw[ed];simp only;split
 .rename_i h;have hgd:of.getD k 0=of[k]'h.2.1:=by simp[h.2.1]
  rw[hgd];exact(ZR _ (Zr h.2.1)).2
 .omega
def UG(l:List Nd)(hl:dU l)(hb:Zd l=true)(of:List Int)(hon:of.length<=1000000)(ZR:∀x∈of,0<=x/\x<l.length)(hm:rZ l of=true)(k:Nat)(hk:k<=of.length):
 aJ prog 171 [aH l,bl of,vI k] (.P' [vI (sI l of k),vI 0]):=λU=>by
 refine VZ.r (by simp[Q8]) ?_;have hs:=aa.refl U;have hlo:=fo of;have hn:l.length<=100000:=by have:=hl.1;omega
 have hb1:∀(f:FuncId) (a:List V),(V.bm f a).cells=[.bm f a]:=λ_ _=>rfl;have Zl:∀f:FuncId,(V.bm f [.agg [bl (ed l of k).ends,bl (ed l of k).begins,bl (ed l of k).both,vI (ed l of k).text,aH l,bl of,vI k]]).stays=true:=λ_=>rfl;have hnf:V.YS.cells=[.YS]:=rfl;refine ab.mix 15 ?_;apply sR;simp only[go_sem,seval,Q8];refine ab.ay rfl rfl rfl (Rn l hl hb of hon ZR hm k hk _) ?_;have Zw:(jx l of k (ed l of k)).stays=true:=rfl;apply sR;simp only[go_sem,seval,jx];refine ad λi8 Z8 s8 a8 f8=>?_;have z8:=hs.none f8;replace hs:=hs.trans s8;have q0:((0:Int)≠0)=False:=T' (λh=>h rfl);unfold sI;by_cases hk0:k=0
 .subst hk0;have q1:(((0:Nat):Int)=0)=True:=Yd rfl;simp only[go_sem,seval,a8,q0];exact ak.pure (hs.ax z8) (by simp)
 have q1:((k:Int)=0)=False:=T';by_cases hk1:k=of.length
 .have q2:((k:Int)=of.length)=True:=Yd;simp only[go_sem,seval,a8,q0,q1,q2,hlo];exact ak.pure (hs.ax z8) (by simp[hk1])
 have q2:((k:Int)=of.length)=False:=T';rw[av (by omega)];simp only[go_sem,seval,a8,q0,q1,q2,hlo,hb1,Zl];generalize hq8:C' _ i8 _=Y8;replace a8:=(congrFun hq8 i8).symm.trans ag;replace hs:=Eq.subst (motive:=aa _) hq8 (hs.ax z8);clear hq8;refine ad λYM Z10 s10 YX f10=>?_;have n810:=ao a8 f10;replace a8:=s10 _ _ a8;have z10:=hs.none f10;replace hs:=hs.trans s10;simp only[go_sem,seval,YX];generalize hq10:C' _ YM _=Y10;replace YX:=(congrFun hq10 YM).symm.trans ag;replace a8:=((congrFun hq10 i8).symm.trans (ae n810)).trans a8;replace hs:=Eq.subst (motive:=aa _) hq10 (hs.ax z10);clear hq10;have ht:=Lu ZR (l:=l) k;have c0:aJ prog 231 [jx l of k (ed l of k)] (.bool (lp l of k 0)):=RH l hl hb of hon k (ed l of k) ht;have c1:aJ prog 232 [jx l of k (ed l of k)] (.bool (lp l of k 1)):=GD l of k (ed l of k) (Ak ZR) (jI (rQ hn) (by omega));have c2:aJ prog 233 [jx l of k (ed l of k)] (.bool (lp l of k 2)):=En l hl hb of hon ZR hm k hk (ed l of k);rw[jx]at c0 c1 c2;generalize hpv:V.agg [bl (ed l of k).ends,bl (ed l of k).begins,bl (ed l of k).both,vI (ed l of k).text,aH l,bl of,vI k]=pv at*;refine ab.fj (λst=>aa U st.U/\st.s 11=vI (dj l of k 3))
  (λm st=>∃j:Nat,j<=3/\m=3-j/\aa U st.U/\st.s 11=vI (dj l of k j)/\st.s 41=.agg [.bm 231 [pv],.bm 232 [pv],.bm 233 [pv]]/\st.s 42=vI j) 3 ?_ ?_ ?_
 .exact⟨0,by omega,rfl,hs,rfl,rfl,rfl⟩
 .clear hs a8 YX;rintro m ⟨S,J⟩ ⟨j,hj,rfl,hs,t11,t41,t42⟩;simp only at hs t11 t41 t42;refine ab.mix 15 ?_;rcases(by omega:j=0\/j=1\/j=2\/j=3)with rfl|rfl|rfl|rfl
  .have u42:S 42=vI 0:=t42;have hp:dj l of k 0=0:=rfl;have u11:S 11=vI 0:=by rw[t11,hp]
   apply sR;simp only[go_sem,seval,t41,u42];refine ab.ld rfl rfl rfl (c0 _) ?_;rintro r Z' ⟨rfl,rfl⟩;cases hv:lp l of k 0
   .apply sR;simp only[go_sem,seval,u11,t41,u42];refine⟨ai,_,?_,1,by omega,rfl,hs,by rw[dj,hp,hv];rfl,rfl⟩;omega
   .apply sR;simp only[go_sem,seval,u11,t41,u42];refine⟨ai,_,?_,1,by omega,rfl,hs,by rw[dj,hp,hv];rfl,rfl⟩;omega
  .have u42:S 42=vI 1:=t42;have hp:dj l of k 1=0\/dj l of k 1=1:=by rw[dj,dj,I2];split<;>simp
   rcases hp with hp|hp
   .have:=hp;have u11:S 11=vI 0:=by rw[t11,hp]
    apply sR;simp only[go_sem,seval,t41,u42];refine ab.ld rfl rfl rfl (c1 _) ?_;rintro r Z' ⟨rfl,rfl⟩;cases hv:lp l of k 1
    .apply sR;simp only[go_sem,seval,u11,t41,u42];refine⟨ai,_,?_,2,by omega,rfl,hs,by rw[dj,hp,hv];rfl,rfl⟩;omega
    .apply sR;simp only[go_sem,seval,u11,t41,u42];refine⟨ai,_,?_,2,by omega,rfl,hs,by rw[dj,hp,hv];rfl,rfl⟩;omega
   .have:=hp;have u11:S 11=vI 1:=by rw[t11,hp]
    apply sR;simp only[go_sem,seval,t41,u42];refine ab.ld rfl rfl rfl (c1 _) ?_;rintro r Z' ⟨rfl,rfl⟩;cases hv:lp l of k 1
    .apply sR;simp only[go_sem,seval,u11,t41,u42];refine⟨ai,_,?_,2,by omega,rfl,hs,by rw[dj,hp,hv];rfl,rfl⟩;omega
    .apply sR;simp only[go_sem,seval,u11,t41,u42];refine⟨ai,_,?_,2,by omega,rfl,hs,by rw[dj,hp,hv];rfl,rfl⟩;omega
  .have u42:S 42=vI 2:=t42;have hp:dj l of k 2=0\/dj l of k 2=1\/dj l of k 2=2\/dj l of k 2=3:=by rw[dj,dj,dj,I2,I2];split<;>split<;>simp
   rcases hp with hp|hp|hp|hp
   .have:=hp;have u11:S 11=vI 0:=by rw[t11,hp]
    apply sR;simp only[go_sem,seval,t41,u42];refine ab.ld rfl rfl rfl (c2 _) ?_;rintro r Z' ⟨rfl,rfl⟩;cases hv:lp l of k 2
    .apply sR;simp only[go_sem,seval,u11,t41,u42];refine⟨ai,_,?_,3,by omega,rfl,hs,by rw[dj,hp,hv];rfl,rfl⟩;omega
    .apply sR;simp only[go_sem,seval,u11,t41,u42];refine⟨ai,_,?_,3,by omega,rfl,hs,by rw[dj,hp,hv];rfl,rfl⟩;omega
   .have:=hp;have u11:S 11=vI 1:=by rw[t11,hp]
    apply sR;simp only[go_sem,seval,t41,u42];refine ab.ld rfl rfl rfl (c2 _) ?_;rintro r Z' ⟨rfl,rfl⟩;cases hv:lp l of k 2
    .apply sR;simp only[go_sem,seval,u11,t41,u42];refine⟨ai,_,?_,3,by omega,rfl,hs,by rw[dj,hp,hv];rfl,rfl⟩;omega
    .apply sR;simp only[go_sem,seval,u11,t41,u42];refine⟨ai,_,?_,3,by omega,rfl,hs,by rw[dj,hp,hv];rfl,rfl⟩;omega
   .have:=hp;have u11:S 11=vI 2:=by rw[t11,hp]
    apply sR;simp only[go_sem,seval,t41,u42];refine ab.ld rfl rfl rfl (c2 _) ?_;rintro r Z' ⟨rfl,rfl⟩;cases hv:lp l of k 2
    .apply sR;simp only[go_sem,seval,u11,t41,u42];refine⟨ai,_,?_,3,by omega,rfl,hs,by rw[dj,hp,hv];rfl,rfl⟩;omega
    .apply sR;simp only[go_sem,seval,u11,t41,u42];refine⟨ai,_,?_,3,by omega,rfl,hs,by rw[dj,hp,hv];rfl,rfl⟩;omega
   .have:=hp;have u11:S 11=vI 3:=by rw[t11,hp]
    apply sR;simp only[go_sem,seval,t41,u42];refine ab.ld rfl rfl rfl (c2 _) ?_;rintro r Z' ⟨rfl,rfl⟩;cases hv:lp l of k 2
    .apply sR;simp only[go_sem,seval,u11,t41,u42];refine⟨ai,_,?_,3,by omega,rfl,hs,by rw[dj,hp,hv];rfl,rfl⟩;omega
    .apply sR;simp only[go_sem,seval,u11,t41,u42];refine⟨ai,_,?_,3,by omega,rfl,hs,by rw[dj,hp,hv];rfl,rfl⟩;omega
  .have u42:S 42=vI 3:=t42;apply sR;simp only[go_sem,seval,t11,u42];exact hs
 .rintro⟨S,J⟩ ⟨hs,t11⟩;simp only at hs t11;refine ab.mix 15 ?_;apply sR;simp only[go_sem,seval,t11];exact ak.pure hs rfl
open Go.Proofs Go.Proofs.Tryz
def DE(l:List Nd)(of:List Int):List Int:=(List.range (of.length+1)).map (sI l of)
def RT(l:List Nd)(hl:dU l)(hb:Zd l=true)(of:List Int)(hon:of.length<=1000000)(ZR:∀x∈of,0<=x/\x<l.length)(hm:rZ l of=true):
 aJ prog 111 [aH l,bl of] (.P' [bl (DE l of),vI 0]):=λU=>by
 refine Xw.r (by simp[R6]) ?_;have hs:=aa.refl U;have hlo:=fo of;refine ab.mix 11 ?_;apply sR;simp only[go_sem,seval,R6];refine ab.ay rfl rfl rfl (qO l hl hb of hon hm _) ?_;have q0:((0:Int)≠0)=False:=T' (λh=>h rfl);have r0:Yl .i64 ((of.length:Int)+1):=ai;apply sR;simp only[go_sem,seval,q0,hlo,r0];refine ab.fj (λst=>aa U st.U/\aL U st.U 3 1 (st.s 7) ((DE l of).map vI))
  (λm st=>∃j:Nat,j<=of.length+1/\m=of.length+1-j/\aa U st.U/\aL U st.U 3 1 (st.s 7) (((List.range j).map (sI l of)).map vI)/\st.s 0=aH l/\st.s 1=bl of/\st.s 19=vI ((of.length:Int)+1)/\st.s 20=vI j) (of.length+1) ?_ ?_ ?_
 .exact⟨0,by omega,rfl,hs,aL.start,rfl,rfl,rfl,rfl⟩
 .clear hs;rintro m ⟨S,J⟩ ⟨j,hj,rfl,hs,ho,t0,t1,t19,t20⟩;simp only at hs ho t0 t1 t19 t20;generalize hv7:S 7=v7 at ho;refine ab.mix 11 ?_;by_cases H':j<of.length+1
  .have q:((j:Int)<of.length+1)=True:=Yd;have r1:Yl .i64 ((j:Int)+1):=ai;have YK:(((List.range (j+1)).map (sI l of)).map vI)=(((List.range j).map (sI l of)).map vI)++[vI (sI l of j)]:=by
    rw[List.range_succ];simp
   have hlm:(((List.range j).map (sI l of)).map vI).length=j:=by simp
   apply sR;simp only[go_sem,seval,t0,t1,t19,t20,q];refine ab.ay rfl rfl rfl (UG l hl hb of hon ZR hm j (by omega) _) ?_;generalize ((List.range j).map (sI l of)).map vI=rows at*;apply sR;simp only[go_sem,seval,hv7];refine ad λi32 Z32 s32 a32 f32=>?_;obtain⟨Yn,ZV,Zk,hd1,hd2⟩:=ho.Es s32;have Zl:(rows.length+1)*9<=140737488355328:=by omega
   simp only[go_sem,seval,ZV,cT a32,Zl];refine cO λi33 Z33 s33 a33 f33=>?_;have k33:=(Zk U (aa.refl _) Z32 (hs.trans s32)).trans s33;have n33:U i33=none:=(hs.trans s32).none f33;simp only[go_sem,seval,t0,t1,t19,t20,r1];refine⟨_,?_,j+1,by omega,rfl,k33,?_,by simp⟩
   .omega
   .rw[YK];exact aL.new (by simp) a33 n33
  .have q:((j:Int)<of.length+1)=False:=T';have hje:j=of.length+1:=by omega
   subst hje;apply sR;simp only[go_sem,seval,t19,t20,q];exact⟨hs,hv7▸ho⟩
 .rintro⟨S,J⟩ ⟨hs,ho⟩;simp only at hs ho;generalize hv7:S 7=v7 at ho;refine ab.mix 11 ?_;apply sR;simp only[go_sem,seval,hv7];exact⟨_,U,hs,Wk.P' (vs':=[bl (DE l of),vI 0]) ⟨ho.wk (aa.refl _) hs,Wk.refl hs _,trivial⟩,rfl,rfl⟩
open Go.Proofs Go.Proofs.Tryz
structure Brk where
 (cls forced Zq:Int)
deriving DecidableEq
def e8(x:Brk):V:=.agg [vI x.cls,vI x.forced,vI x.Zq]
def bE(l:List Brk):V:=.sl 3 (l.map e8)
def mM(l:List Brk):(bE l).cells=[bE l]:=rfl
def mQ(l:List Brk):(bE l).stays=true:=rfl
def Fa(l:List Brk):cW false (bE l)=some (.int .i64 l.length):=by simp[bE,cW]
def rV{U:af}{l:List Brk}{i:Nat}(h:i<l.length):bo U 3 (bE l) (.int .i64 i)=some (.rp (e8 l[i])):=by simp[bE,bo,h,e8]
def rS(of:List Int)(k:Nat):Int:=if k=0 then 0 else if k=of.length then 3 else if of.getD k 0=of.getD (k-1) 0 then 2 else 1
def Md(of:List Int)(hon:of.length<=1000000)(k:Nat)(hk:k<=of.length):aJ prog 112 [bl of,vI k] (vI (rS of k)):=λU=>by
 refine VS.r (by simp[HS]) ?_;have hlo:=fo of;refine ab.mix 6 ?_;unfold rS;rcases Nat.eq_zero_or_pos k with rfl|h0
 .have q1:(((0:Nat):Int)=0)=True:=Yd rfl;apply sR;simp only[go_sem,seval,HS];exact ak.same rfl
 have q1:((k:Int)=0)=False:=T';rw[av (by omega)];by_cases hk1:k=of.length
 .have q2:((k:Int)=of.length)=True:=Yd;rw[ar hk1];apply sR;simp only[go_sem,seval,HS,q1,q2,hlo];exact ak.same rfl
 have q2:((k:Int)=of.length)=False:=T';rw[av hk1];have h1:k<of.length:=by omega
 have q5:=ai (m:=((k-1:Nat):Int)) (by omega) (by omega);have q6:((k:Int)-1)=((k-1:Nat):Int):=by omega
 have q7:=λU=>iQ (U:=U) h1;have q8:=λU=>iQ (U:=U) (l:=of) (i:=k-1) (by omega);have g1:of.getD k 0=of[k]:=by simp[h1]
 have g2:of.getD (k-1) 0=of[k-1]:=by
  have:k-1<of.length:=by omega
  simp[this]
 rw[g1,g2];by_cases h2:of[k]=of[k-1]
 .have q9:(of[k]=of[k-1])=True:=Yd h2;rw[ar h2];apply sR;simp only[go_sem,seval,HS,q1,q2,hlo,q5,q6,q7,q8,q9];exact ak.same rfl
 .have q9:(of[k]=of[k-1])=False:=T' h2;rw[av h2];apply sR;simp only[go_sem,seval,HS,q1,q2,hlo,q5,q6,q7,q8,q9];exact ak.same rfl
open Go.Proofs Go.Proofs.Tryz
def bkR(l:List Nd)(of:List Int)(k:Nat):Brk:=⟨rS of k,jB l of k,if jB l of k=0 then sI l of k else 0⟩
def ry(l:List Nd)(of:List Int):List Brk:=(List.range (of.length+1)).map (bkR l of)
def Ou{U:af}{f:Nat->Int}{n j:Nat}(h:j<n):bo U 1 (bl ((List.range n).map f)) (.int .i64 j)=some (.rp (vI (f j))):=by
 rw[iQ (by simpa using h)];simp
def QS(l:List Nd)(hl:dU l)(hb:Zd l=true)(of:List Int)(hon:of.length<=1000000)(ZR:∀x∈of,0<=x/\x<l.length)(hm:rZ l of=true):
 aJ prog 52 [aH l,bl of] (.P' [bE (ry l of),vI 0]):=λU=>by
 refine e52.r (by simp[c52]) ?_;have hs:=aa.refl U;have hlo:=fo of;refine ab.mix 14 ?_;apply sR;simp only[go_sem,seval,c52];refine ab.ay rfl rfl rfl (qO l hl hb of hon hm _) ?_;have q0:((0:Int)≠0)=False:=T' (λh=>h rfl);have r0:Yl .i64 ((of.length:Int)+1):=ai;apply sR;simp only[go_sem,seval,q0];refine ab.ay rfl rfl rfl (Rv l hl hb of hon ZR hm _) ?_;apply sR;simp only[go_sem,seval];refine ab.ay rfl rfl rfl (RT l hl hb of hon ZR hm _) ?_;apply sR;simp only[go_sem,seval,hlo,r0];refine ab.fj (λst=>aa U st.U/\aL U st.U 168 3 (st.s 11) ((ry l of).map e8))
  (λm st=>∃j:Nat,j<=of.length+1/\m=of.length+1-j/\aa U st.U/\aL U st.U 168 3 (st.s 11) (((List.range j).map (bkR l of)).map e8)/\st.s 0=aH l/\st.s 1=bl of/\st.s 7=bl (CB l of)/\st.s 9=bl (DE l of)/\st.s 34=vI ((of.length:Int)+1)/\st.s 35=vI j) (of.length+1) ?_ ?_ ?_
 .exact⟨0,by omega,rfl,hs,aL.start,rfl,rfl,rfl,rfl,rfl,rfl⟩
 .clear hs;rintro m ⟨S,J⟩ ⟨j,hj,rfl,hs,ho,t0,t1,t7,t9,t34,t35⟩;simp only at hs ho t0 t1 t7 t9 t34 t35;generalize hv11:S 11=v11 at ho;refine ab.mix 14 ?_;by_cases H':j<of.length+1
  .have q:((j:Int)<of.length+1)=True:=Yd;have r1:Yl .i64 ((j:Int)+1):=ai;have YK:(((List.range (j+1)).map (bkR l of)).map e8)=(((List.range j).map (bkR l of)).map e8)++[e8 (bkR l of j)]:=by
    rw[List.range_succ];simp
   have hlm:(((List.range j).map (bkR l of)).map e8).length=j:=by simp
   have hi7:∀U,bo U 1 (bl (CB l of)) (.int .i64 j)=some (.rp (vI (jB l of j))):=λU=>Ou H';have hi9:∀U,bo U 1 (bl (DE l of)) (.int .i64 j)=some (.rp (vI (sI l of j))):=λU=>Ou H';apply sR;simp only[go_sem,seval,t1,t34,t35,q];refine Go.cm rfl rfl rfl (Md of hon j (by omega)) ?_;apply sG;simp only[go_sem,seval,t7,hi7];refine aW λi13 Y13 s13 a13 f13=>?_;by_cases hz:jB l of j=0
   .have q2:(jB l of j=0)=True:=Yd hz;have hbk:e8 (bkR l of j)=.agg [vI (rS of j),vI (jB l of j),vI (sI l of j)]:=by rw[bkR,ar hz];rfl
    simp only[go_sem,seval,a13,t7,t9,hv11,hi7,hi9,q2];generalize hq13:C' _ i13 _=Z13;have s13':aa J Z13:=by rw[<-hq13];exact s13.ax f13
    clear hq13;refine ad λi58 Z58 s58 a58 f58=>?_;obtain⟨Yn,ZV,Zk,hd1,hd2⟩:=ho.Es (s13'.trans s58);generalize ((List.range j).map (bkR l of)).map e8=rows at*;have Zl:(rows.length+1)*25<=140737488355328:=by omega
    simp only[go_sem,seval,ZV,cT a58,Zl];refine cO λi59 Z59 s59 a59 f59=>?_;have k59:=(Zk U (aa.refl _) Z58 (hs.trans (s13'.trans s58))).trans s59;have n59:U i59=none:=(hs.trans (s13'.trans s58)).none f59;simp only[go_sem,seval,t0,t1,t7,t9,t34,t35,r1];refine⟨_,?_,j+1,by omega,rfl,k59,?_,by simp⟩
    .omega
    .rw[YK,hbk];exact aL.new (by simp) a59 n59
   .have q2:(jB l of j=0)=False:=T' hz;have hbk:e8 (bkR l of j)=.agg [vI (rS of j),vI (jB l of j),vI 0]:=by rw[bkR,av hz];rfl
    simp only[go_sem,seval,a13,t7,hv11,hi7,q2];generalize hq13:C' _ i13 _=Z13;have s13':aa J Z13:=by rw[<-hq13];exact s13.ax f13
    clear hq13;refine ad λi58 Z58 s58 a58 f58=>?_;obtain⟨Yn,ZV,Zk,hd1,hd2⟩:=ho.Es (s13'.trans s58);generalize ((List.range j).map (bkR l of)).map e8=rows at*;have Zl:(rows.length+1)*25<=140737488355328:=by omega
    simp only[go_sem,seval,ZV,cT a58,Zl];refine cO λi59 Z59 s59 a59 f59=>?_;have k59:=(Zk U (aa.refl _) Z58 (hs.trans (s13'.trans s58))).trans s59;have n59:U i59=none:=(hs.trans (s13'.trans s58)).none f59;simp only[go_sem,seval,t0,t1,t7,t9,t34,t35,r1];refine⟨_,?_,j+1,by omega,rfl,k59,?_,by simp⟩
    .omega
    .rw[YK,hbk];exact aL.new (by simp) a59 n59
  .have q:((j:Int)<of.length+1)=False:=T';have hje:j=of.length+1:=by omega
   subst hje;apply sR;simp only[go_sem,seval,t34,t35,q];exact⟨hs,hv11▸ho⟩
 .rintro⟨S,J⟩ ⟨hs,ho⟩;simp only at hs ho;generalize hv11:S 11=v11 at ho;refine ab.mix 14 ?_;apply sR;simp only[go_sem,seval,hv11];exact⟨_,U,hs,Wk.P' (vs':=[bE (ry l of),vI 0]) ⟨ho.wk (aa.refl _) hs,Wk.refl hs _,trivial⟩,rfl,rfl⟩
end Go.Vc
