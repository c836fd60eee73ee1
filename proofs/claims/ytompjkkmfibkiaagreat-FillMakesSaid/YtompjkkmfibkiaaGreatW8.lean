import Derived.Test.YtompjkkmfibkiaaGreatW7
set_option linter.all false
set_option maxHeartbeats 8000000
set_option maxRecDepth 100000
open Go.Proofs.Tryz
namespace Go.Vc
open Go.Proofs
def ups(l:List Nd):Nat->Int->List Int
 |0,_=>[]
 |f+1,p=>if 0<=p then p::ups l f (dh l p.toNat)else[]
def zJ{l:List Nd}{f:Nat}{p:Int}(h:p<0):ups l f p=[]:=by
 cases f with
 |zero=>rfl
 |succ f=>rw[ups,aD (by omega)]
def uH{l:List Nd}{f:Nat}{p:Int}(h:0<=p)(hf:p<f):∃g,f=g+1/\ups l f p=p::ups l g (dh l p.toNat):=by
 cases f with
 |zero=>omega
 |succ f=>exact⟨f,rfl,by rw[ups,av h]⟩
def eo(l:List Nd)(a:Nat):-1<=dh l a/\dh l a<a:=uS l a a
def ldN(U:ad)(l:List Nd):cj U false 1 (.rp (aF l))=some (aF l):=rfl
def fdN(l:List Nd):gn false 0 1 (.rp (.agg [aF l]))=some (.rp (aF l)):=rfl
def oK(l:List Int):List (List V):=l.map λp=>[vI p]
def wR(l:List Nd)(hl:ep l)(hb:Wg l=true)(a:Nat)(ha:a<l.length):Iter prog 225 [.rp (.agg [aF l]),.rp (vI a)] (oK (ups l (l.length+1) (dh l a))):=by
 have hhas:mO l (a:Int)=true:=j5.2 ⟨by omega,by omega⟩;have hpr:=eo l a;refine⟨Q7.c,λWp τ Jx Z0 hy hJ=>?_⟩;refine(Q7.q ?_).2;refine mS 5 ?_;simp only[BB,seval,<-decide_not,br,eL,aJ,cY,eN,fm,gk,eP,cS,mZ,bP,jy,gA,gV,eI,eT,cP,lu,dJ,dn,cF,Xl,mj,dT,cE,jV,ef,cX,dV,dP,nN,binBV,dk,ei,V.cells,V.stays,Xu.nothing,Pq,ldN,fdN];refine pR rfl (MV l a _) ?_;rw[hhas];apply sR;simp only[BB,seval,<-decide_not,br,eL,aJ,cY,eN,fm,gk,eP,cS,mZ,bP,jy,gA,gV,eI,eT,cP,lu,dJ,dn,cF,Xl,mj,dT,cE,jV,ef,cX,dV,dP,nN,binBV,dk,ei,V.cells,V.stays,Xu.nothing,ldN,fdN];refine pS rfl (yp l hl hb a ha _) ?_;simp only[go_sem,seval];refine ai.loop (λm st=>∃(pre:List Int) (q:Int) (f:Nat) (ZJ:ad),m=(q+1).toNat/\-1<=q/\q<l.length/\q<f/\ups l (l.length+1) (dh l a)=pre++ups l f q/\τ (oK pre) ZJ/\aa ZJ st.U/\
  st.s 0=.yl Wp/\st.s 1=.rp (.agg [aF l])/\st.s 4=vI q) (dh l a+1).toNat ?_ ?_
 .exact⟨[],dh l a,l.length+1,Z0,rfl,by omega,by omega,by omega,rfl,hJ,aa.refl _,rfl,rfl,rfl⟩
 .rintro m ⟨s,Z'⟩ ⟨pre,q,f,ZJ,rfl,hq1,hq2,hqf,YV,hJp,G',h0,h1,h4⟩;simp only at G' h0 h1 h4;refine ai.mix 5 ?_;by_cases hq:0<=q
  .obtain⟨g,rfl,hu⟩:=uH (l:=l) hq hqf;obtain⟨k,rfl⟩:∃k:Nat,q=k:=⟨q.toNat,by omega⟩
   have YU:((k:Int)>=0)=True:=by simp
   rw[fp]at hu;have hpk:=eo l k;have YP:k<l.length:=by omega
   have e:oK (ups l (l.length+1) (dh l a))=oK pre++[vI k]::oK (ups l g (dh l k)):=by rw[YV,hu];simp[oK]
   apply sR;simp only[go_sem,seval,h0,h1,h4,YU];refine ai.oV (Post:=λb Z2=>∃Wh,bF ZJ Z' Wh Z2/\((b=true/\τ (oK pre++[[vI k]]) Wh)\/(b=false/\Jx (oK pre++[[vI k]]) Wh))) rfl rfl rfl (hy _ [vI k] _ ZJ Z' e hJp G') ?_;rintro b Z2 ⟨Wh,Ya,XL⟩;rcases XL with⟨rfl,XL⟩|⟨rfl,XL⟩
   .apply sR;simp only[BB,seval,<-decide_not,br,eL,aJ,cY,eN,fm,gk,eP,cS,mZ,bP,jy,gA,gV,eI,eT,cP,lu,dJ,dn,cF,Xl,mj,dT,cE,jV,ef,cX,dV,dP,nN,binBV,dk,ei,V.cells,V.stays,Xu.nothing,h0,h1,h4,ldN,fdN];refine pS rfl (yp l hl hb k YP _) ?_;simp only[go_sem,seval,h0,h1];refine⟨_,?_,pre++[(k:Int)],dh l k,g,Wh,rfl,by omega,by omega,by omega,by rw[YV,hu];simp,?_,Ya.1,by simp[h0,h1]⟩
    .omega
    .simpa[oK]using XL
   .apply sR;simp only[go_sem,seval,h0,h1,h4];refine⟨_,Wh,Ya.1,Wk.refl Ya.1 _,.inr ⟨oK pre++[[vI k]],?_,XL⟩⟩;rw[e];exact⟨oK (ups l g (dh l k)),by simp⟩
  .have YU:(q>=0)=False:=by simp;omega
   apply sR;simp only[go_sem,seval,h0,h1,h4,YU];rw[zJ (l:=l) (f:=f) (p:=q) (by omega),jt]at YV;exact⟨_,ZJ,G',Wk.refl G' _,.inl (by rw[YV];exact hJp)⟩
def A5(l:List Nd)(a:Int):aL prog 173 [.agg [aF l],vI a] (.fn 225 [.rp (.agg [aF l]),.rp (vI a)]):=λU=>by
 refine Tg.q ?_;refine ai.mix 4 ?_;have q1:(V.agg [aF l]).cells.length=1:=rfl;have q2:(V.agg [aF l]).stays=true:=rfl;generalize V.agg [aF l]=x at*;apply sR;simp only[go_sem,seval,Ok,q1,q2];refine aA λid1 Z1 s1 a1 f1=>?_;simp only[go_sem,seval];refine aA λid2 Z2 s2 a2 f2=>?_;simp only[go_sem,seval];exact⟨_,U,s1.trans s2,Wk.fn (vs':=[.rp x,.rp (vI a)]) ⟨Wk.ptr (s1.trans s2) (s2 _ _ a1) f1,Wk.ptr (s1.trans s2) a2 (s1.none f2),trivial⟩,rfl,rfl⟩
def Cw(l:List Nd)(hl:ep l)(hb:Wg l=true)(a:Nat)(ha:a<l.length):aL prog 242 [aF l,vI a] (vI (dh l a)):=λU=>by
 refine Tw.q ?_;refine ai.mix 5 ?_;have hit:=wR l hl hb a ha;have hpr:=eo l a;apply sR;simp only[go_sem,seval,Qg];refine aA λZg Z1 s1 a4 f4=>?_;simp only[go_sem,seval];refine pS rfl (Cm l hl hb _) ?_;simp only[go_sem,seval];refine pS rfl (A5 l a _) ?_;simp only[go_sem,seval];generalize hS:mix 5 _ _=S;have S4:S 4=.ptr Zg 0 0:=by rw[<-hS];rfl
 have S9:S 9=.fn 225 [.rp (.agg [aF l]),.rp (vI a)]:=by rw[<-hS];rfl
 clear hS;have hx0:∀x pre post,oK (ups l (l.length+1) (dh l a))=pre++x::post->pre=[]->x=[vI (dh l a)]:=λx pre post h hp=>by
  subst hp;by_cases h0:0<=dh l a
  .obtain⟨g,_,hu⟩:=uH (l:=l) (f:=l.length+1) h0 (by omega);rw[hu]at h;simp only[oK,fF,iC,List.cons.injEq]at h;exact h.1.symm
  .rw[zJ (by omega)]at h;simp[oK]at h
 refine ai.fk (g:=.t 9) (caps:=[.rp (.agg [aF l]),.rp (vI a)]) S9 hit (λx hx=>?_) [] (λpre ZJ=>pre=[]/\ZJ=Z1) (λc pre ZJ=>c=none/\ZJ=C' Z1 Zg ⟨3,1,[vI (dh l a)]⟩) ?_ ?_ ?_ ?_ ?_
 .simp only[oK,gM]at hx;obtain⟨t,_,rfl⟩:=hx;rfl
 .exact⟨rfl,rfl⟩
 .rintro pre x post ZJ ZB YV ⟨rfl,rfl⟩ G';obtain rfl:=hx0 x [] post YV rfl;have b4:=G' _ _ a4;generalize Yt:oM S [10] [vI (dh l a)]=S0;have T4:S0 4=.ptr Zg 0 0:=by rw[<-Yt];exact S4
  have T10:S0 10=vI (dh l a):=by rw[<-Yt];rfl
  clear Yt;refine mS 11 ?_;simp only[go_sem,seval,T4,T10,b4];refine mS 11 ?_;simp only[go_sem,seval,T4,b4];exact⟨_,(bF.refl G').set (o:=⟨3,1,[vI 0]⟩) a4,rfl⟩
 .rintro Z' ⟨hn,rfl⟩;have hpm:dh l a=-1:=by
   by_cases h0:0<=dh l a
   .obtain⟨g,_,hu⟩:=uH (l:=l) (f:=l.length+1) h0 (by omega);rw[hu]at hn;simp[oK]at hn
   .omega
  refine mS 5 ?_;simp only[go_sem,seval,S4,a4];rw[hpm];exact ak.pure (s1.az f4) rfl
 .intro id h;cases h
 .rintro pre Z' _ ⟨_,rfl⟩;refine mS 5 ?_;simp only[go_sem,seval,S4,ag];exact ak.pure (s1.az f4) rfl
open Go.Proofs
def iP{l:List Nd}{a b:Int}:cB l a b=true↔0<=a/\b<l.length/\a<=b/\b<a+VM l a.toNat:=by
 simp only[cB,Ba,j5,X7];constructor
 .rintro⟨h1,h2,h3,h4⟩;omega
 .rintro⟨h1,h2,h3,h4⟩;omega
def yz(l:List Nd)(b:Nat):∀k,(l1 l b k=-1/\∀i:Nat,i<k->cB l i b=false)\/∃q:Nat,l1 l b k=q/\q<k/\cB l q b=true/\∀i:Nat,q<i->i<k->cB l i b=false
 |0=>.inl ⟨rfl,λi h=>by omega⟩
 |k+1=>by
  rw[l1];cases hk:cB l k b
  .simp only[gi,↓reduceIte];rcases yz l b k with⟨h1,h2⟩|⟨q,h1,h2,h3,h4⟩
   .refine .inl ⟨h1,λi hi=>?_⟩;by_cases e:i=k
    .rw[e];exact hk
    .exact h2 i (by omega)
   .refine .inr ⟨q,h1,by omega,h3,λi hi XO=>?_⟩;by_cases e:i=k
    .rw[e];exact hk
    .exact h4 i hi (by omega)
  .simp only[↓reduceIte];exact .inr ⟨k,rfl,by omega,hk,λi hi XO=>by omega⟩
def nest{l:List Nd}(hb:Wg l=true){x q:Nat}(hx:x<l.length)(h1:x<=q)(h2:(q:Int)<x+VM l x)(hq:q<l.length):(q:Int)+VM l q<=x+VM l x:=by
 by_cases e:x=q
 .subst e;omega
 .have V8:bS l 0 l.length=true:=by simp only[Wg,Ba]at hb;exact hb.2
  obtain⟨z1,z2⟩:=rA hb hx;obtain⟨z3,_⟩:=cA (Wa _) V8 (Nat.zero_le x) hx;have hin:=nM l (l.length+1) 0 l.length (by omega) (Wa _) V8 x (by omega) hx hx;rw[<-iB hx]at hin;have:=(cA (e:=x+(VM l x).toNat) (by omega) hin (k:=q) (by omega) (by omega)).1;omega
def Hw(l:List Nd):∀(f:Nat) (p x:Int),x∈ups l f p->0<=x/\x<=p
 |0,_,_,h=>by simp[ups]at h
 |f+1,p,x,h=>by
  rw[ups]at h;split at h
  .rcases et.1 h with rfl|h
   .omega
   .have:=Hw l f _ x h;have:=eo l p.toNat;omega
  .simp at h
def qW{l:List Nd}{a b:Nat}:∀k:Nat,(∀i:Nat,i<k->cB l i a=cB l i b)->dH l a k=dH l b k
 |0,_=>rfl
 |k+1,h=>by
  rw[dH,dH,h k (by omega),qW k λi hi=>h i (by omega)]
def nk{l:List Nd}{a q:Nat}:∀k:Nat,q<=k->(∀i:Nat,q<=i->i<k->cB l i a=false)->dH l a k=dH l a q
 |0,h,_=>by rw[Nat.le_zero.1 h]
 |k+1,h,hh=>by
  by_cases e:q=k+1
  .rw[e]
  .rw[dH,hh k (by omega) (by omega),aD (by simp)];exact nk k (by omega) λi h1 h2=>hh i h1 (by omega)
def yH{l:List Nd}(hb:Wg l=true):∀(f a:Nat),a<l.length->dh l a<f->ups l f (dh l a)=dH l a a
 |f,a,ha,hf=>by
  rcases yz l a a with⟨h1,h2⟩|⟨q,h1,h2,h3,h4⟩
  .have e:dh l a=-1:=h1;rw[e,zJ (by omega),nk (q:=0) a (by omega) λi _ hi=>h2 i hi];rfl
  .have e:dh l a=q:=h1;rw[e]at hf|-;obtain⟨g,rfl,hu⟩:=uH (l:=l) (f:=f) (p:=q) (by omega) hf;rw[hu,fp];have hpq:=eo l q;rw[yH hb g q (by omega) (by omega),nk (q:=q+1) a (by omega) λi i1 i2=>h4 i (by omega) i2,dH,h3,av rfl];congr 1;refine qW q λi hi=>?_;rw[Bool.eq_iff_iff,iP,iP];rw[iP]at h3;simp only[fp]at h3|-;constructor
   .rintro⟨_,_,_,g4⟩;have:=nest hb (x:=i) (q:=q) (by omega) (by omega) g4 (by omega);omega
   .rintro⟨_,_,_,_⟩;omega
open Go.Proofs
def bF.LJ{ZJ U Wh Z':ad}(h:bF ZJ U Wh Z'){e:Option Nat}(he:∀i,e=some i->∃o,Wh i=some o):bF ZJ U (Vc.bN Wh e) (Vc.bN Z' e):=by
 cases e with
 |none=>exact h
 |some e=>
  refine⟨DZ h.1,λi o h1 h2=>?_⟩;obtain⟨h3,h4⟩:=h.2 i o h1 h2;have:i≠e:=λe'=>by subst e';obtain⟨o',ho'⟩:=he i rfl;rw[h4]at ho';cases ho'
  simp only[Vc.bN,cc this];exact⟨h3,h4⟩
def ay.K0{K ZJ Z1:ad}{e sz:Nat}{v:V}{rows:List V}(h:ay K ZJ e sz v rows)(hs:aa ZJ Z1):
 ∃idA,bL Z1 e sz v=some (rows,idA)/\∀i,idA=some i->K i=none/\∃o,ZJ i=some o:=by
 rcases h with⟨rfl,rfl⟩|⟨id,rfl,ho,hk⟩
 .exact⟨none,rfl,λ_ h=>by cases h⟩
 .refine⟨some id,?_,λi h=>by cases h;exact⟨hk,_,ho⟩⟩;simp only[bL,hs _ _ ho];rw[av ⟨trivial,trivial,trivial,Wa _⟩,eF]
def bE(U:ad)(id:Nat):ad:=λi=>if i=id then some ⟨0,0,[]⟩else U i
def aQ{U:ad}{id i:Nat}:bE U id i=none↔i≠id/\U i=none:=by
 unfold bE;split
 .rename_i h;simp[h]
 .rename_i h;simp[h]
def uG{α:Type}{f:α->V}{xs:List α}{pre post:List (List V)}{x:List V}(h:(xs.map λa=>[f a])=pre++x::post):∃a,xs[pre.length]?=some a/\x=[f a]:=by
 have:=congrArg (·[pre.length]?) h;simp only[tW,JD (Wa _),Nat.sub_self,IY,Zq8]at this;obtain⟨t,h1,h2⟩:=this;exact⟨t,h1,h2.symm⟩
def Ay{g:FuncId}{caps:List V}{xs:List Int}(hit:Iter prog g caps (xs.map λn=>[vI n]))(hx:xs.length<=1000000)(U:ad):
 au prog 224 [.aO,.fn g caps] U λr Z'=>aa U Z'/\ay U Z' 3 1 r (xs.map vI):=by
 refine SX.q ?_;refine mS 8 ?_;simp only[go_sem,seval,QI];refine aA λid2 Z2 s2 a2 f2=>?_;simp only[go_sem,seval];generalize hS:mix 8 _ _=S;have S2:S 2=.ptr id2 0 0:=by rw[<-hS];rfl
 have S6:S 6=.fn g caps:=by rw[<-hS];rfl
 clear hS;refine ai.fk (g:=.t 6) (caps:=caps) S6 hit (λx hx=>?_) [] (λpre ZJ=>∃v,ZJ id2=some ⟨46,1,[v]⟩/\aa U ZJ/\ay (bE U id2) ZJ 3 1 v ((xs.take pre.length).map vI))
  (λ_ _ _=>False) ?_ ?_ ?_ ?_ ?_
 .obtain⟨t,_,rfl⟩:=gM.1 hx;rfl
 .exact⟨.aO,a2,s2,by simpa using ay.start⟩
 .rintro pre x post ZJ ZB YV ⟨v,J2,Js,Jo⟩ G';obtain⟨t,hti,rfl⟩:=uG (f:=vI) YV;have V9:xs.take (pre.length+1)=xs.take pre.length++[t]:=by rw[MR,hti];rfl
  have hlen:(pre++[[vI t]]).length=pre.length+1:=by simp
  rw[hlen,V9];have YP:((xs.take pre.length).map vI).length<=1000001:=by simp;omega
  have hvc:v.cells=[v]:=by rcases Jo with⟨rfl,_⟩|⟨_,rfl,_⟩<;>rfl
  generalize V8:((xs.take pre.length).map vI)=rows at*;have b2:=G' _ _ J2;generalize Yt:oM S [7] [vI t]=S0;have T2:S0 2=.ptr id2 0 0:=by rw[<-Yt];exact S2
  have T7:S0 7=vI t:=by rw[<-Yt];rfl
  refine mS 8 ?_;simp only[go_sem,seval,T2,T7];apply sR;simp only[go_sem,seval,T2,T7,b2,hvc];rw[ax];intro id28 f28;have hBs:=(bF.refl G').y9 (o:=⟨3,1,[vI t]⟩) f28;have y2:C' ZB id28 ⟨3,1,[vI t]⟩ id2=some ⟨46,1,[v]⟩:=by rw[ab (aU b2 f28)];exact b2
  have a28:C' ZB id28 ⟨3,1,[vI t]⟩ id28=some ⟨3,1,[vI t]⟩:=ag;generalize C' ZB id28 ⟨3,1,[vI t]⟩=Z8 at*;obtain⟨idA,Wi,hdA⟩:=Jo.K0 hBs.1;have V1:(rows.length+1)*9<=140737488355328:=by omega
  have k2:bE U id2 id2≠none:=λh=>(aQ.1 h).1 rfl;have dne:∀(i:Nat) (Zx:ad),bE U id2 i≠none->Vc.bN Zx idA i=Zx i:=λi Zx hk=>by
   cases idA with
   |none=>rfl
   |some a=>exact cc (λe=>hk (by rw[e];exact(hdA a rfl).1))
  simp only[go_sem,seval,Wi,bJ a28,V1,T2];rw[ax];intro Yb f29;have f29:Z8 Yb=none:=f29;have m29:id2≠Yb:=aU y2 f29;have f29':Vc.bN Z8 idA Yb=none:=by
   cases idA with
   |none=>exact f29
   |some a=>simp only[Vc.bN,del];split<;>first|rfl|exact f29
  have y2':C' (Vc.bN Z8 idA) Yb ⟨3,1,rows++[vI t]⟩ id2=some ⟨46,1,[v]⟩:=by rw[ab m29,dne _ _ k2];exact y2
  have hB9:=((hBs.LJ (e:=idA) λi h=>(hdA i h).2).new (o:=⟨3,1,rows++[vI t]⟩) f29').set (id:=id2) (o:=⟨46,1,[v]⟩) (o':=⟨46,1,[.own Yb 0 (rows.length+1)]⟩) (by rw[ab m29,dne _ _ k2];exact J2);simp only[go_sem,seval,hvc,y2',T2];refine⟨_,hB9,.own Yb 0 (rows.length+1),ag,?_,?_⟩
  .refine aa.az (λi o h=>?_) f2;have h1:=Js _ _ h;rw[ab (aU (hBs.1 _ _ h1) f29),dne _ _ (λhk=>by rw[(aQ.1 hk).2]at h;cases h)];exact h1
  .rw[dG,V8];refine ay.new (by simp) (by rw[ab m29.symm,ag];rfl) ?_;rw[aQ];refine⟨m29.symm,?_⟩;cases h:U Yb with
   |none=>rfl
   |some o=>rw[hBs.1 _ _ (Js _ _ h)]at f29;cases f29
 .rintro Z' ⟨v,J2,Js,Jo⟩;rw[cO,eF]at Jo;have hvc:v.cells=[v]:=by rcases Jo with⟨rfl,_⟩|⟨_,rfl,_⟩<;>rfl
  refine mS 5 ?_;simp only[go_sem,seval,S2,J2,hvc];refine WZ ⟨Js,?_⟩;rcases Jo with h|⟨id,h1,h2,h3⟩
  .exact .inl h
  .exact .inr ⟨id,h1,h2,(aQ.1 h3).2⟩
 .intro id h;cases h
 .rintro pre Z' _ ⟨⟩
def xH{g:FuncId}{caps:List V}{xs:List Int}(hit:Iter prog g caps (xs.map λn=>[vI n]))(hx:xs.length<=1000000):
 aL prog 172 [.fn g caps] (bb xs):=λU=>by
 refine TE.q ?_;refine mS 3 ?_;simp only[go_sem,seval,PL];refine Xv rfl (Ay hit hx U) ?_;rintro r Z1 ⟨h1,h2⟩;apply sR;simp only[go_sem,seval];exact h2.pX h1 rfl
def abv(l:List Nd)(a:Nat):List Int:=ups l (l.length+1) (dh l a)
def j6(l:List Nd):∀(f:Nat) (p:Int),(ups l f p).length<=f
 |0,_=>by simp[ups]
 |f+1,p=>by
  rw[ups];split
  .have:=j6 l f (dh l p.toNat);simp only[XU];omega
  .simp
def Cv{l:List Nd}(hb:Wg l=true){a:Nat}(ha:a<l.length):abv l a=dH l a a:=yH hb _ _ ha (by have:=eo l a;omega)
def Ch(l:List Nd)(hl:ep l)(hb:Wg l=true)(hn:l.length<=100000)(a:Nat)(ha:a<l.length):aL prog 126 [aF l,vI a] (bb (abv l a)):=λU=>by
 refine TT.q ?_;refine mS 5 ?_;simp only[go_sem,seval,O2];refine pS rfl (Cm l hl hb _) ?_;simp only[go_sem,seval];refine pS rfl (A5 l a _) ?_;simp only[go_sem,seval];refine pS rfl (xH (wR l hl hb a ha) (by have:=j6 l (l.length+1) (dh l a);omega) _) ?_;simp only[go_sem,seval];exact ak.same rfl
structure SOk(s:Xh):Prop where
 top:0<=s.top/\s.top<=1099511627776
 V0:0<=s.V0/\s.V0<=1099511627776
 VJ:0<=s.VJ/\s.VJ<=1099511627776
 T':0<=s.T'/\s.T'<=1099511627776
 Wf:0<=s.Wf/\s.Wf<=1099511627776
 VK:0<=s.VK/\s.VK<=1099511627776
 VY:0<=s.VY/\s.VY<=1099511627776
 head:0<=s.head/\s.head<=1099511627776
 before:0<=s.before/\s.before<=4
 after:0<=s.after/\s.after<=4
 inside:0<=s.inside/\s.inside<=1
 clear:0<=s.clear/\s.clear<=3
structure NOk(x:Nd):Prop where
 st:SOk x.st
 kind:x.kind=1\/x.kind=2\/x.kind=3\/x.kind=4
 line:0<=x.line/\x.line<=1099511627776
 space:0<=x.space/\x.space<=1099511627776
 words:∀w∈x.words,1<=w/\w<=1099511627776
 w:0<=x.w/\x.w<=1099511627776
 h:0<=x.h/\x.h<=1099511627776
 side:0<=x.side/\x.side<=2
 text:x.kind=2->0<x.words.length/\1<=x.line
 box:x.kind=3\/x.kind=4->1<=x.w/\1<=x.h
 fl:x.kind=4->1<=x.side
 fW:x.kind≠1->x.st=Xh.zero
 nowords:x.kind≠2->x.words=[]
def pn{n a b:Int}:bh n a b=true↔a<=n/\n<=b:=by simp[bh]
def IT:SOk Xh.zero:=by constructor<;>simp[Xh.zero]
def Nx{s:Xh}(h:s.ok=true):SOk s:=by
 simp only[Xh.ok,Ba,pn,mx]at h;constructor<;>omega
def N3{x:Nd}(h:x.ok=true):NOk x:=by
 unfold Nd.ok at h;split at h
 .rename_i hk;simp only[Ba,X7]at h;obtain⟨⟨⟨⟨⟨⟨h1,h2⟩,h3⟩,h4⟩,h5⟩,h6⟩,h7⟩:=h;have hw:x.words=[]:=pV h4;exact⟨Nx h1,.inl hk,by omega,by omega,by rw[hw];simp,by omega,by omega,by omega,by omega,by omega,by omega,by omega,λ_=>hw⟩
 .rename_i hk;split at h
  .cases h
  .rename_i VP;have hs:x.st=Xh.zero:=Classical.byContradiction VP;have hso:SOk x.st:=by rw[hs];exact IT
   split at h
   .rename_i Xf;simp only[Ba,X7,pn,mx,fM]at h;obtain⟨⟨⟨⟨⟨⟨h1,h2⟩,h3⟩,h4⟩,h5⟩,h6⟩,h7⟩:=h;exact⟨hso,.inr (.inl Xf),by omega,by omega,h1,by omega,by omega,by omega,λ_=>⟨h2,h3.1⟩,by omega,by omega,λ_=>hs,by omega⟩
   .rename_i Xf;simp only[Ba,lP,X7,pn,mx]at h;obtain⟨⟨⟨⟨⟨h1,h2⟩,h3⟩,h4⟩,h5⟩,h6⟩:=h;have hw:x.words=[]:=pV h3;exact⟨hso,by omega,by omega,by omega,by rw[hw];simp,by omega,by omega,by omega,by omega,by omega,by omega,λ_=>hs,λ_=>hw⟩
def fw{l:List Nd}(hb:Wg l=true){a:Nat}(h:a<l.length):NOk l[a]:=by
 simp only[Wg,Ba,fM]at hb;exact N3 (hb.1 _ (Ws h))
open Go.Proofs
structure Rm where
 (x w:Int)
deriving DecidableEq
def j1(r:Rm):V:=.agg [vI r.x,vI r.w]
def cZ(l:List Rm):V:=.sl 2 (l.map j1)
def tY(l:List Nd)(a:Nat):Int:=((l[a]?).map λn=>n.st.Wf).getD 0
def jG(r:Rm)(i:Int):Rm:=⟨min (r.x+i) 1099511627776,max (r.w-2*i) 1⟩
def dq(l:List Nd):Nat->Nat->Nat->Rm->List Rm
 |0,_,_,_=>[]
 |k+1,a,e,r=>if a<e then r::(dq l k (a+1) (a+(VM l a).toNat) (jG r (tY l a))++dq l k (a+(VM l a).toNat) e r)else[]
def jL{l:List Nd}{e:Nat}(he:e<=l.length):∀(k a:Nat) (r:Rm),e-a<=k->a<=e->bS l a e=true->(dq l k a e r).length=e-a
 |0,a,r,hk,ha,_=>by simp[dq];omega
 |k+1,a,r,hk,ha,hr=>by
  rw[dq];split
  .rename_i B';obtain⟨h1,h2⟩:=cA he hr (Wa a) B';obtain⟨h3,h4⟩:=df he hr B';have ih:=jL he k (a+(VM l a).toNat) r (by omega) (by omega) h3;have ih2:=jL (e:=a+(VM l a).toNat) (by omega) k (a+1) (jG r (tY l a)) (by omega) (by omega) h4;simp only[XU,jm];omega
  .simp;omega
def lH{l:List Nd}{e:Nat}(he:e<=l.length):∀(k j a:Nat) (r:Rm),e-a<=k->e-a<=j->bS l a e=true->dq l k a e r=dq l j a e r
 |0,0,_,_,_,_,_=>rfl
 |0,j+1,a,r,h,_,_=>by rw[dq,dq,aD (by omega)]
 |k+1,0,a,r,_,h,_=>by rw[dq,dq,aD (by omega)]
 |k+1,j+1,a,r,h,h',hr=>by
  rw[dq,dq];split
  .rename_i B';obtain⟨h1,h2⟩:=cA he hr (Wa a) B';obtain⟨h3,h4⟩:=df he hr B';rw[lH he k j _ _ (by omega) (by omega) h3,lH (e:=a+(VM l a).toNat) (by omega) k j _ _ (by omega) (by omega) h4]
  .rfl
def bR{U:ad}{l:List Nd}{a:Nat}(h:a<l.length):bO U 20 (aF l) (.int .i64 a)=some (.rp (.agg (Nd.cells l[a]))):=by
 simp[aF,bO,h,gm]
def oY(U:ad)(a b c:Nat):ad:=λi=>if i=a\/i=b\/i=c then some ⟨0,0,[]⟩else U i
def gN{U:ad}{a b c i:Nat}:oY U a b c i=none↔i≠a/\i≠b/\i≠c/\U i=none:=by
 unfold oY;split
 .rename_i h;simp;intro h1 h2 h3;simp_all
 .rename_i h;simp only[not_or]at h;simp[h]
structure RmJ(l:List Nd)(Z0:ad)(il io ip:Nat)(rows:List V)(U:ad):Prop where
 rl:U il=some ⟨22,1,[aF l]⟩
 rp:U ip=some ⟨205,1,[.fn 129 [.ptr il 0 0,.ptr io 0 0,.ptr ip 0 0]]⟩
 sub:aa Z0 U
 no:Z0 io=none
 out:∃v,U io=some ⟨150,1,[v]⟩/\ay (oY Z0 il io ip) U 207 2 v rows
def Av(r:Rm):(j1 r).cells=[vI r.x,vI r.w]:=rfl
def A0(r:Rm):(j1 r).stays=true:=rfl
def Rm.ok(r:Rm):Prop:=0<=r.x/\r.x<=1099511627776/\1<=r.w/\r.w<=1099511627776
def ye{r:Rm}(h:r.ok){i:Int}(h0:0<=i):(jG r i).ok:=by
 obtain⟨a,b,c,d⟩:=h;unfold jG Rm.ok;simp only;omega
def IW{l:List Nd}(hb:Wg l=true){a:Nat}(h:a<l.length):tY l a=l[a].st.Wf/\0<=l[a].st.Wf/\l[a].st.Wf<=1099511627776:=by
 refine⟨by simp[tY,h],?_⟩;exact(fw hb h).st.Wf
def Gz(l:List Nd)(hl:ep l)(hb:Wg l=true)(il io ip:Nat)(nlo:il≠io)(nlp:il≠ip)(nop:io≠ip):∀(m a e:Nat) (r:Rm) (rows:List V) (Z0 U:ad),e-a<m->a<=e->e<=l.length->bS l a e=true->r.ok->
 rows.length+(e-a)<=l.length->RmJ l Z0 il io ip rows U->
 au prog 129 [vI a,vI e,j1 r,.ptr il 0 0,.ptr io 0 0,.ptr ip 0 0] U λq Z'=>q=.VG []/\RmJ l Z0 il io ip (rows++(dq l (e-a) a e r).map j1) Z':=by
 intro m
 induction m with
 |zero=>intro a e r rows Z0 U h;omega
 |succ m ih=>?_
 intro a e r rows ZB U hm hae he hrB hr hlen hJB;have hl1:=hl.1;refine Tb.q ?_;refine mS 11 ?_;simp only[go_sem,seval,OO,Av,A0];refine aA λi8 Z8 s8 a8 f8=>?_;simp only[go_sem,seval];have no8:io≠i8:=by obtain⟨v,vo,_⟩:=hJB.out;exact aU vo f8
 have fB8:ZB i8=none:=hJB.sub.none f8;obtain⟨Z0,hY0⟩:∃s,s=C' ZB i8 ⟨207,2,[j1 r]⟩:=⟨_,rfl⟩
 have hk8:∀i,oY Z0 il io ip i=none↔i≠i8/\oY ZB il io ip i=none:=λi=>by
  rw[gN,gN,hY0];by_cases h:i=i8
  .subst h;simp[ag]
  .rw[ab h];simp[h]
 have Zy:RmJ l Z0 il io ip rows Z8:=by
  refine⟨s8 _ _ hJB.rl,s8 _ _ hJB.rp,?_,by rw[hY0,ab no8];exact hJB.no,?_⟩
  .intro i o h;rw[hY0]at h;by_cases hi:i=i8
   .subst hi;rw[ag]at h;rw[a8];exact h
   .rw[ab hi]at h;exact s8 _ _ (hJB.sub _ _ h)
  .obtain⟨v,vo,VQ⟩:=hJB.out;refine⟨v,s8 _ _ vo,?_⟩;rcases VQ with h|⟨id,h1,h2,h3⟩
   .exact .inl h
   .exact .inr ⟨id,h1,s8 _ _ h2,(hk8 id).2 ⟨aU h2 f8,h3⟩⟩
 have hback:∀(rows:List V) (J:ad),RmJ l Z0 il io ip rows J->RmJ l ZB il io ip rows J:=λrows J h=>by
  refine⟨h.rl,h.rp,λi o hi=>h.sub _ _ (by rw[hY0,ab (λe=>by rw[e,fB8]at hi;cases hi)];exact hi),by have:=h.no;rw[hY0,ab no8]at this;exact this,?_⟩;obtain⟨v,vo,VQ⟩:=h.out;refine⟨v,vo,?_⟩;rcases VQ with h|⟨id,h1,h2,h3⟩
  .exact .inl h
  .exact .inr ⟨id,h1,h2,((hk8 id).1 h3).2⟩
 have h08:Z0 i8=some ⟨207,2,[j1 r]⟩:=by rw[hY0];exact ag
 clear hY0;refine ai.loop (λq st=>∃(b:Nat) (done:List V),q=e-b/\a<=b/\b<=e/\bS l b e=true/\done.length+(e-b)<=l.length/\rows++(dq l (e-a) a e r).map j1=done++(dq l (e-b) b e r).map j1/\RmJ l Z0 il io ip done st.U/\
  st.s 1=vI e/\st.s 3=.ptr il 0 0/\st.s 4=.ptr io 0 0/\st.s 5=.ptr ip 0 0/\st.s 8=.ptr i8 0 0/\st.s 9=vI b) (e-a) ?_ ?_
 .exact⟨a,rows,rfl,Wa _,hae,hrB,hlen,rfl,Zy,rfl,rfl,rfl,rfl,rfl,rfl⟩
 .rintro q ⟨S,J⟩ ⟨b,done,rfl,Zs,hbe,hbB,hdl,hdn,hJ,t1,t3,t4,t5,t8,t9⟩;simp only at hJ t1 t3 t4 t5 t8 t9;refine ai.mix 11 ?_;by_cases B':b<e
  .have q1:((b:Int)<(e:Int))=True:=L';obtain⟨h1,h2⟩:=cA he hbB (Wa b) B';obtain⟨h3,h4⟩:=df he hbB B';have WX:b<l.length:=by omega
   obtain⟨g1,g2,g3⟩:=IW hb WX;have Xr:=iB WX;obtain⟨v,vo,VQ⟩:=hJ.out;have hvc:v.cells=[v]:=by rcases VQ with⟨rfl,_⟩|⟨_,rfl,_⟩<;>rfl
   have r8:=hJ.sub _ _ h08;have r8':=r8;rw[j1]at r8';apply sR;simp only[go_sem,seval,q1,t1,t3,t4,t5,t8,t9,r8',vo,hvc];refine aA λi24 Z24 s24 a24 f24=>?_;obtain⟨idA,Wi,hdA⟩:=VQ.K0 s24;have V1:(done.length+1)*17<=140737488355328:=by omega
   simp only[go_sem,seval,t1,t3,t4,t5,t8,t9,Wi,bJ a24,V1];rw[ax];intro i25 f25;have f25:Z24 i25=none:=f25;have dne:∀(i:Nat) (Zx:ad),oY Z0 il io ip i≠none->Vc.bN Zx idA i=Zx i:=λi Zx hk=>by
    cases idA with
    |none=>rfl
    |some a=>exact cc (λe=>hk (by rw[e];exact(hdA a rfl).1))
   have kl:oY Z0 il io ip il≠none:=λh=>(gN.1 h).1 rfl;have ko:oY Z0 il io ip io≠none:=λh=>(gN.1 h).2.1 rfl;have kp:oY Z0 il io ip ip≠none:=λh=>(gN.1 h).2.2.1 rfl;have ol:=s24 _ _ hJ.rl;have oo:=s24 _ _ vo;have op:=s24 _ _ hJ.rp;have o8:=s24 _ _ r8;have nl:=aU ol f25;have no:=aU oo f25;have np:=aU op f25;have n8:=aU o8 f25;have k8:oY Z0 il io ip i8≠none:=λh=>((hk8 i8).1 h).1 rfl;have hsub25:aa Z0 (C' (Vc.bN Z24 idA) i25 ⟨207,2,done++[.agg [vI r.x,vI r.w]]⟩):=λi o h=>by
    have h1:=s24 _ _ (hJ.sub _ _ h);rw[ab (aU h1 f25),dne _ _ (λhk=>by rw[(gN.1 hk).2.2.2]at h;cases h)];exact h1
   have pl:(C' (Vc.bN Z24 idA) i25 ⟨207,2,done++[.agg [vI r.x,vI r.w]]⟩) il=some ⟨22,1,[aF l]⟩:=by rw[ab nl,dne _ _ kl];exact ol
   have po:(C' (Vc.bN Z24 idA) i25 ⟨207,2,done++[.agg [vI r.x,vI r.w]]⟩) io=some ⟨150,1,[v]⟩:=by rw[ab no,dne _ _ ko];exact oo
   have pp:(C' (Vc.bN Z24 idA) i25 ⟨207,2,done++[.agg [vI r.x,vI r.w]]⟩) ip=some ⟨205,1,[.fn 129 [.ptr il 0 0,.ptr io 0 0,.ptr ip 0 0]]⟩:=by rw[ab np,dne _ _ kp];exact op
   have p25:(C' (Vc.bN Z24 idA) i25 ⟨207,2,done++[.agg [vI r.x,vI r.w]]⟩) i25=some ⟨207,2,done++[.agg [vI r.x,vI r.w]]⟩:=ag;have f0:Z0 i25=none:=(hJ.sub.trans s24).none f25;have VC:=λU=>bR (U:=U) WX;have q2:((b:Int)+1)=((b+1:Nat):Int):=by omega
   have q3:((b:Int)+l[b].size)=((b+(VM l b).toNat:Nat):Int):=by rw[Xr];omega
   obtain⟨rx0,rx1,rw0,rw1⟩:=id hr;have r1:=rI b;have r2:VO .i64 ((b:Int)+l[b].size):=ae;have r3:VO .i64 (r.x+l[b].st.Wf):=ae;have r4:VO .i64 (2*l[b].st.Wf):=ae;have r5:VO .i64 (r.w-2*l[b].st.Wf):=ae;generalize C' (Vc.bN Z24 idA) i25 ⟨207,2,done++[.agg [vI r.x,vI r.w]]⟩=Z25 at*;have p8:=hsub25 _ _ h08;rw[j1]at p8;simp only[go_sem,seval,t1,t3,t4,t5,t8,t9,pl,po,pp,p8,hvc,af,aM,ab no8.symm,ab nlo,ab nlp.symm,ab nop.symm,ab nop,VC,Nd.cells,r1,r2,r3,r4,r5,ct,dD];have ZE:RmJ l Z0 il io ip (done++[.agg [vI r.x,vI r.w]]) (C' Z25 io ⟨150,1,[.own i25 0 (done.length+1)]⟩):=by
    refine⟨by rw[ab nlo];exact pl,by rw[ab nop.symm];exact pp,hsub25.az hJ.no,hJ.no,_,ag,ay.new (by simp) (by rw[ab no.symm];exact p25) (gN.2 ⟨nl.symm,no.symm,np.symm,f0⟩)⟩
   have hc:=ih (b+1) (b+(VM l b).toNat) (jG r l[b].st.Wf) (done++[.agg [vI r.x,vI r.w]]) Z0 _ (by omega) (by omega) (by omega) h4 (ye hr g2) (by simp only[jm,XU,List.length_nil];omega) ZE;rw[<-q2,<-q3]at hc;refine Xv rfl hc ?_;rintro q' Z' ⟨rfl,Yv⟩;have cl:=Yv.rl;apply sR;simp only[go_sem,seval,t1,t3,t4,t5,t8,t9,cl,af,aM,VC,Nd.cells,r2];have hk:dq l (e-b) b e r=r::(dq l (b+(VM l b).toNat-(b+1)) (b+1) (b+(VM l b).toNat) (jG r (tY l b))++dq l (e-(b+(VM l b).toNat)) (b+(VM l b).toNat) e r):=by
    rw[show e-b=(e-b-1)+1 by omega,dq,av B',lH (by omega) (e-b-1) _ _ _ (by omega) (Wa _) h4,lH he (e-b-1) _ _ _ (by omega) (Wa _) h3]
   have Xs:=jL (l:=l) (e:=b+(VM l b).toNat) (by omega) (b+(VM l b).toNat-(b+1)) (b+1) (jG r l[b].st.Wf) (Wa _) (by omega) h4;refine⟨e-(b+(VM l b).toNat),by omega,b+(VM l b).toNat,_,rfl,by omega,by omega,h3,?_,?_,Yv,by simp[t1,t3,t4,t5,t8,q3]⟩
   .simp only[jm,XU,List.length_nil,cO,Xs];omega
   .rw[hdn,hk,g1];simp only[fF,dG,lq,List.cons_append,iC];rfl
  .have q1:((b:Int)<(e:Int))=False:=H';apply sR;simp only[go_sem,seval,q1,t1,t3,t4,t5,t8,t9];refine WZ ⟨rfl,?_⟩;have hz:dq l (e-b) b e r=[]:=by rw[show e-b=0 by omega];rfl
   rw[hdn,hz];exact hback _ _ (by simpa using hJ)
def JO(l:List Nd)(hl:ep l)(hb:Wg l=true)(w:Int)(h1:1<=w)(h2:w<=1099511627776):aL prog 83 [aF l,vI w] (cZ (dq l l.length 0 l.length ⟨0,w⟩)):=λU=>by
 refine e83.q ?_;have hs:=aa.refl U;refine mS 8 ?_;simp only[go_sem,seval,c83,af,aM];refine ar hs λi2 Z2 s2 a2 f2 z2 hs=>?_;simp only[go_sem,seval,a2,af,aM];refine pS rfl (Cm l hl hb _) ?_;simp only[go_sem,seval,a2,af,aM];refine ar hs λi5 Z5 s5 a5 f5 z5 hs=>?_;obtain⟨n25,a2⟩:=VB a2 f5 s5;have q1:(w<1)=False:=H';have q2:(w>1099511627776)=False:=H';simp only[go_sem,seval,a5,a2,af,aM,q1,q2,ab n25,ab n25];generalize Ys:C' Z5 i5 _=Y5;have b5:Y5 i5=some ⟨203,1,[.agg [aF l]]⟩:=by rw[<-Ys];exact ag
 have b2:Y5 i2=some ⟨22,1,[aF l]⟩:=by rw[<-Ys,ab n25];exact a2
 have hs5:aa U Y5:=by rw[<-Ys];exact hs.az z5
 have Yr:aa Y5 Y5:=aa.refl _;clear Ys;refine aA λi6 Z6 s6 a6 f6=>?_;have c5:=s6 _ _ b5;have c2:=s6 _ _ b2;have z6:U i6=none:=hs5.none f6;simp only[go_sem,seval];refine aA λi7 Z7 s7 a7 f7=>?_;have d5:=s7 _ _ c5;have d2:=s7 _ _ c2;have d6:=s7 _ _ a6;have z7:U i7=none:=(hs5.trans s6).none f7;have n57:=aU c5 f7;have n27:=aU c2 f7;have Zw:=aU a6 f7;have n26:=aU b2 f6;have hn:=bU l;have hnf:V.WT.cells=[.WT]:=rfl;simp only[go_sem,seval,a7,hnf,d5,d2,d6,ab n57,ab n27,ab Zw,hn,af,aM];have hJ:RmJ l U i2 i6 i7 [] (C' Z7 i7 ⟨205,1,[.fn 129 [.ptr i2 0 0,.ptr i6 0 0,.ptr i7 0 0]]⟩):=
  ⟨by rw[ab n27];exact d2,ag,(((hs5.trans s6).trans s7)).az z7,z6,.aO,by rw[ab Zw];exact d6,ay.start⟩
 have hc:=Gz l hl hb i2 i6 i7 n26 n27 Zw (l.length+1) 0 l.length ⟨0,w⟩ [] U _ (by omega) (by omega) (by omega) (by simp only[Wg,Ba]at hb;exact hb.2) ⟨by simp,by simp,h1,h2⟩ (by simp) hJ;refine Xv rfl hc ?_;rintro q Z' ⟨rfl,Yv⟩;obtain⟨v,vo,VQ⟩:=Yv.out;have hvc:v.cells=[v]:=by rcases VQ with⟨rfl,_⟩|⟨_,rfl,_⟩<;>rfl
 apply sR;simp only[go_sem,seval,vo,hvc];have ho:ay U Z' 207 2 v ((dq l l.length 0 l.length ⟨0,w⟩).map j1):=by
  rcases VQ with⟨h,h'⟩|⟨id,h1,h2,h3⟩
  .exact .inl ⟨h,by simpa using h'⟩
  .exact .inr ⟨id,by simpa using h1,by simpa using h2,(gN.1 h3).2.2.2⟩
 exact ho.pX Yv.sub rfl
section
variable {P:Program} {n:Nat}
def ai.PY{st:St}{Q:St->Prop}{k:List It}{i:aK}{l:List aK}{xa:VX}(hw:bz st.s i.g=some true)(ho:i.op=.Zk false xa (.c (.iface 0 .undef))){b:Bool}
 (hx:(xa.ev st.s=.aO/\b=true)\/(∃sz r rows,xa.ev st.s=.sl sz (r::rows)/\b=false)\/∃id off m,xa.ev st.s=.own id off (m+1)/\b=false)
 (h:ai P n (.ops l::k) ⟨bc st.s i.dst (.bool b),st.U⟩ Q):ai P n (.ops (i::l)::k) st Q:=by
 refine ai.ins (by rw[ho];simp) hw λF hn I a w o all hi hs next Q' VT=>?_
 subst hn;obtain⟨VS,hd⟩:=ff hi;rw[ho]at VS;obtain⟨t,x,y,m,c,yt,e,g1,rfl,g2,rfl⟩:=Ah VS;have R:=dr hs x;have hX:∃ba len cap,a.eval x=.slice ba len cap/\ba.isNone=b:=by
  rcases hx with⟨hx,rfl⟩|⟨sz,r,rows,hx,rfl⟩|⟨id,off,m,hx,rfl⟩
  .rw[hx]at R;simp only[E']at R;exact⟨none,0,0,R,rfl⟩
  .rw[hx]at R;simp only[E']at R;obtain⟨ba,cap,hX,_,hr⟩:=R;rcases hr with hr|⟨b,off,rfl,_⟩
   .cases hr
   .exact⟨_,_,_,hX,rfl⟩
  .rw[hx]at R;simp only[E']at R;split at R
   .exact R.elim
   .exact absurd R.2.2 (by omega)
   .obtain⟨o,c,hX,_⟩:=R;exact⟨_,_,_,hX,rfl⟩
 obtain⟨ba,len,cap,hX,rfl⟩:=hX;have Wv:(execOp a.eval o).run P w=.ok (.value (.bool ba.isNone)) w:=by
  unfold execOp;rw[g1];have hY:a.eval (.const (.slice none m c))=.slice none m c:=rfl;simp[hX,hY,eqGuard,Lib.run_eql_slice_nil w t e ba len cap m c g2]
 unfold Oper.wp;rw[Wv];refine VT _ _ _ ⟨I,?_⟩ h;rw[<-hd];exact hs.pure (by simp[E'])
end
open Go.Proofs
def wg(U:ad)(v v':V):Prop:=∀J,aa U J->Wk J fW v v'
def wg.mono{U J:ad}{v v':V}(h:wg U v v')(hs:aa U J):wg J v v':=λX' h'=>h X' (hs.trans h')
def wg.at{U:ad}{v v':V}(h:wg U v v'):Wk U fW v v':=h U (aa.refl _)
def ay.yZ{K U:ad}{e sz:Nat}{v:V}{rows:List V}(h:ay K U e sz v rows):wg U v (.sl sz rows):=λJ hs=>(h.mono hs).wk (eu _) (eu _)
def YH{J:ad}(v:V):Wk J fW v v:=Wk.refl (eu _) _
def Gm(vf:V){U:ad}(fs:List O')(XN:wg U vf (aC fs))(ws:List Int)(space high:Int)(y:Int)(s:Wq)(hl:fs.length<=1000000)(VE:∀f∈fs,f.ok)(B:Int)(hB:∀f∈fs,f.y+f.h<=B)(hB1:B<=1152921504606846976)(hy0:0<=y)(hy:y<=B)(hh:0<=high)(hh1:high<=1099511627776)
 (W9:W1 s.a/\W1 s.b)(hw:WOk ws space):au prog 177 [vf,bb ws,vI space,vI high,vI y,aV s] U λr Z'=>aa U Z'/\ay U Z' 225 5 r ((da fs ws space high s ws.length 0 y).map ji):=by
 refine Sr.q ?_;have hs:=aa.refl U;have hn:=dd ws;have Xs:=hw.len;refine mS 16 ?_;simp only[go_sem,seval,RH,aV];refine ar hs λi11 Z11 Zu X2 f11 z11 hs=>?_;simp only[go_sem,seval,X2];generalize hG:da fs ws space high s ws.length 0 y=G;refine ai.loop (λm st=>∃(i k:Nat) (y':Int) (acc:List Ln),m=ws.length-i/\i<=ws.length/\ws.length-i<=k/\acc.length<=i/\G=acc++da fs ws space high s k i y'/\0<=y'/\y'<=B+1099511627776*i/\aa U st.U/\ay U st.U 225 5 (st.s 13) (acc.map ji)/\
  st.U i11=some ⟨219,2,[.agg [vI s.a,vI s.b]]⟩/\st.s 0=vf/\st.s 1=bb ws/\st.s 2=vI space/\st.s 3=vI high/\st.s 4=vI y'/\st.s 11=.ptr i11 0 0/\st.s 14=vI i) ws.length ?_ ?_
 .exact⟨0,ws.length,y,[],rfl,by omega,by omega,by simp,hG.symm,hy0,by omega,hs,ay.start,X2,rfl,rfl,rfl,rfl,rfl,rfl,rfl⟩
 .rintro m ⟨S,J⟩ ⟨i,k,y',acc,rfl,hi,hk,YX,hg,hy1,hy2,G',VQ,b11,t0,t1,t2,t3,t4,t11,t14⟩;simp only at G' VQ b11 t0 t1 t2 t3 t4 t11 t14;generalize hv13:S 13=v13 at VQ;refine ai.mix 16 ?_;by_cases B':i<ws.length
  .have q:=qT B';obtain⟨k,rfl⟩:∃k',k=k'+1:=⟨k-1,by omega⟩
   rw[da,av B']at hg;have Zq:=tB (space:=space) (width:=fB (bZ fs (gQ fs (ws.getD i 0) high s y') high s)) B';have hyr:=fe (w:=ws.getD i 0) (high:=high) (y:=y') (s:=s) hB;have hx:=JG fs ws space high i y' s hl VE ⟨by omega,by omega⟩ ⟨by omega,by omega⟩ W9 hw B';obtain⟨x,hxe⟩:∃x,x=mi fs ws space high i y' s:=⟨_,rfl⟩
   have x1:∃j:Nat,x.to=j/\i<j/\j<=ws.length:=by rw[hxe];exact⟨_,rfl,Zq⟩
   have x2:y'<=x.y/\x.y<=max y' B:=by rw[hxe];exact hyr
   rw[<-hxe]at hg hx;clear hxe Zq hyr;obtain⟨j,hj,hij,Zv⟩:=x1;rw[hj,fp]at hg;apply sR;simp only[go_sem,seval,t0,t1,t2,t3,t4,t11,t14,b11,hn,q];refine pR rfl (aL.ue (args':=[aC fs,bb ws,vI space,vI high,vI i,vI y',aV s]) ⟨(XN.mono G').at,YH _,YH _,YH _,YH _,YH _,YH _,trivial⟩ hx rfl) ?_;have hc:=tS x;have VP:=tz x;have Xg:(ji x).cells.length=5:=rfl;have hag:V.agg [vI x.fr,vI x.to,vI x.x,vI x.y,vI x.w]=ji x:=rfl;apply sR;simp only[go_sem,seval,t0,t1,t2,t3,t4,t11,t14,hv13,hc,VP];refine aA λi15 Z15 Yu WN f15=>?_;simp only[go_sem,seval,WN,t0,t1,t2,t3,t4,t11,t14,hv13,hc,Xg,VP,hag];generalize XM:C' Z15 i15 _=Y15;have b15:Y15 i15=some ⟨225,5,[.agg [vI x.fr,vI x.to,vI x.x,vI x.y,vI x.w]]⟩:=by rw[<-XM];exact ag
   have s15':aa J Y15:=by rw[<-XM];exact Yu.az f15
   clear XM;refine aA λi30 Z30 s30 a30 f30=>?_;obtain⟨idA,Wi,VL,WM,ZO⟩:=VQ.mn (s15'.trans s30);have V1:(acc.length+1)*41<=140737488355328:=by omega
   have Xc:(acc.map ji).length=acc.length:=by simp
   simp only[go_sem,seval,t0,t1,t2,t3,t4,t11,t14,hv13,Wi,bJ a30,Xc,V1];refine bt λi31 Z31 s31 a31 f31=>?_;have k31:=(VL U (aa.refl _) Z30 (G'.trans (s15'.trans s30))).trans s31;have n31:U i31=none:=(G'.trans (s15'.trans s30)).none f31;have c15:Z31 i15=some ⟨225,5,[.agg [vI x.fr,vI x.to,vI x.x,vI x.y,vI x.w]]⟩:=s31 _ _ (by rw[ZO i15 f15];exact s30 _ _ b15);have c11:Z31 i11=some ⟨219,2,[.agg [vI s.a,vI s.b]]⟩:=s31 _ _ (by rw[WM i11 _ b11 (.inr (by simp))];exact s30 _ _ (s15' _ _ b11));have r1:VO .i64 (x.y+high):=ae;simp only[go_sem,seval,t0,t1,t2,t3,t4,t11,t14,c15,hj,r1];refine⟨_,?_,j,k,x.y+high,acc++[x],rfl,Zv,by omega,by simp;omega,by rw[hg];simp,by omega,by omega,k31,?_,c11,by simp[t0,t1,t2,t3,t11]⟩
   .omega
   .rw[dG];exact ay.new (by simp) a31 n31
  .have q:=qF B';apply sR;simp only[go_sem,seval,t0,t1,t2,t3,t4,t11,t14,hv13,b11,hn,q];have:da fs ws space high s k i y'=[]:=by
    cases k with
    |zero=>rfl
    |succ k=>rw[da,aD B']
   rw[this,jt]at hg;refine WZ ⟨G',?_⟩;rw[hg];exact VQ
def Cb{P:Program}{f:FuncId}{fn:Func}(hf:P.funcs[f]?=some fn){e sz b:Nat}(hc:cfn P fn=some (ny e sz b))(hk:fK P f=true){K U:ad}{v:V}{rows:List V}(hv:ay K U e sz v rows)(V2:rows=[]->v=.aO)(hb:rows.length*(b+1)<=140737488355328):
 au P f [v] U λr Z'=>aa U Z'/\ay U Z' e sz r rows:=by
 refine au.mC hf hc hk (by simp[ny]) ?_;refine ai.mix 3 ?_;rcases hv with⟨rfl,rfl⟩|⟨id,rfl,ho,_⟩
 ·(refine ai.bH Xu.nothing 8 ?_;simp only[go_sem,seval,rB,ny])
  refine ai.PY rfl rfl (b:=true) (.inl ⟨rfl,rfl⟩) ?_;apply sR;simp only[go_sem,seval];exact WZ ⟨aa.refl _,ay.start⟩
 .obtain⟨m,hm⟩:∃m,rows.length=m+1:=by
   cases rows with
   |nil=>exact absurd (V2 rfl) (by simp)
   |cons r rs=>exact⟨rs.length,by simp⟩
  (refine ai.bH Xu.nothing 8 ?_;simp only[go_sem,seval,rB,ny])
  refine ai.PY rfl rfl (b:=false) (.inr (.inr ⟨id,0,m,by rw[hm];rfl,rfl⟩)) ?_;apply sR;simp only[go_sem,seval];refine aA λid1 Z1 s1 a1 f1=>?_;obtain⟨idA,hd,VL⟩:=(ay.new (K:=U) (e:=e) (sz:=sz) (n:=0) (rows:=[]) rfl a1 f1).dst (aa.refl _);have hsrc:bM Z1 sz (.own id 0 rows.length)=some rows:=by simp[bM,s1 _ _ ho]
  simp only[go_sem,seval,hd,hsrc,hb];refine bt λid2 Z2 s2 a2 f2=>?_;have Yr:=(VL U (aa.refl _) Z1 s1).trans s2;simp only[go_sem,seval];exact WZ ⟨Yr,ay.new (by simp) a2 (s1.none f2)⟩
def K9(vf:V){K U:ad}(fs:List O')(XN:ay K U 100 7 vf (fs.map aG))(V2:fs=[]->vf=.aO)(f:O')(y:Int)(s:Wq)(hl:fs.length<=1000000)(VE:∀f∈fs,f.ok)(hy:W1 y)(hh:Bq f.h)(hw:Bq f.w)(W9:W1 s.a/\W1 s.b):
 au prog 181 [vf,aG f,vI y,aV s] U λr Z'=>aa U Z'/\ay U Z' 100 7 r ((nt fs f y s).map aG):=by
 refine Vt.q ?_;have hs:=aa.refl U;refine mS 14 ?_;simp only[go_sem,seval,Oa,aG,aV];refine ar hs λi5 Z5 s5 a5 f5 z5 hs=>?_;simp only[go_sem,seval,a5];refine ar hs λi7 Z7 s7 a7 f7 z7 hs=>?_;obtain⟨n57,a5⟩:=VB a5 f7 s7;simp only[go_sem,seval,a7,a5];refine pS rfl (aL.ue (args':=[aC fs,aG f,vI y,aV s]) ⟨((XN.mono hs).yZ).at,YH _,YH _,YH _,trivial⟩ (N4 fs f y s hl VE hy hh hw W9) rfl) ?_;simp only[go_sem,seval,a7,a5,ab n57,ab n57.symm,cp];generalize Ys:C' Z7 i5 _=Y5;have b5:Y5 i5=some ⟨100,7,[aG (iZ fs f y s)]⟩:=by rw[<-Ys];exact ag
 have hs5:aa U Y5:=by rw[<-Ys];exact hs.az z5
 clear Ys;have Yy:aG (iZ fs f y s)=.agg [vI f.node,vI f.side,vI f.anchor,vI (l9 fs f y s),vI (j0 fs f y s),vI f.w,vI f.h]:=rfl;rw[Yy]at b5;have Xc:(fs.map aG).length=fs.length:=by simp
 have V1:(fs.length+1)*57<=140737488355328:=by omega
 have hres:fs.map aG++[V.agg [vI f.node,vI f.side,vI f.anchor,vI (l9 fs f y s),vI (j0 fs f y s),vI f.w,vI f.h]]=(nt fs f y s).map aG:=by simp[nt,<-Yy]
 have hne':fs.map aG=[]->vf=.aO:=λh=>V2 (by simpa using h);refine ai.ug (by kernel_rfl) 8 (.fork [[],[0],[],[2],[1,3,0,2],[4,0,1,2,3]] [0,2] [1,3] [(.leaf [[],[0],[],[1,0,2],[1,0,3,2],[1,0,4,2,3]] [1,3,4,5]),(.leaf [[],[3,2,0],[],[2],[3,2,1,0],[3,2,4,0,1]] [3,1,4,5])]) (by kernel_rfl) ?_;refine GT.pk (its:=[0,4]) (by kernel_rfl) ?_;refine cd (n:=0) [] [0,4] [_,_] rfl rfl ?_;simp only[go_sem,seval,b5];refine⟨?_,?_⟩
 .refine GT.gH (its:=[2,5,6,8,10]) (by kernel_rfl) ?_;refine RE.call rfl rfl rfl rfl rfl (Cb func49 (e49.b.trans rfl) e49.c (XN.mono hs5) hne' (by simp;omega)) ?_;rintro r Z3 ⟨s3,VQ⟩;replace b5:=s3 _ _ b5;have hs3:=hs5.trans s3;refine cT rfl (by simp only[go_sem,seval,b5]) ?_;refine cd (n:=0) [] [6,8,10] [_,_,_] rfl rfl ?_;simp only[go_sem,seval,b5];refine bB λi9 Z9 s9 a9 f9=>?_;obtain⟨idA,Wi,VL⟩:=VQ.dst s9;simp only[go_sem,seval,Wi,bJ a9,Xc,V1,hres];refine eQ λi10 Z10 XV Wn f10=>?_;have XW:=(VL U hs5 Z9 (hs3.trans s9)).trans XV;have n10:U i10=none:=(hs3.trans s9).none f10;simp only[go_sem,seval];apply sR;simp only[go_sem,seval];exact WZ ⟨XW,ay.new (by simp[nt]) Wn n10⟩
 .refine GT.gH (its:=[6,2,8,10]) (by kernel_rfl) ?_;refine cd (n:=0) [2,8,10] [6] [_] rfl rfl ?_;simp only[go_sem,seval,b5];refine bB λi9 Z9 s9 a9 f9=>?_;simp only[go_sem,seval];refine RE.call rfl rfl rfl rfl rfl (Cb func49 (e49.b.trans rfl) e49.c (XN.mono (hs5.trans s9)) hne' (by simp;omega)) ?_;rintro r Z3 ⟨s3,VQ⟩;have a9':=s3 _ _ a9;obtain⟨idA,Wi,VL⟩:=VQ.dst (aa.refl _);refine cd (n:=0) [] [8,10] [_,_] rfl rfl ?_;simp only[go_sem,seval,Wi,bJ a9',Xc,V1,hres];refine eQ λi10 Z10 XV Wn f10=>?_;have XW:=(VL U (hs5.trans s9) Z3 ((hs5.trans s9).trans s3)).trans XV;have n10:U i10=none:=((hs5.trans s9).trans s3).none f10;simp only[go_sem,seval];apply sR;simp only[go_sem,seval];exact WZ ⟨XW,ay.new (by simp[nt]) Wn n10⟩
open Go.Proofs
structure WE where
 (kind node fr to x y w h:Int)
deriving DecidableEq
def bC(a:WE):V:=.agg [vI a.kind,vI a.node,vI a.fr,vI a.to,vI a.x,vI a.y,vI a.w,vI a.h]
def bn(l:List WE):V:=.sl 8 (l.map bC)
structure WS where
 atoms:List WE
 u':List O'
 VA:Int
 VD:Pn
structure YY(l:List Nd)(rs:List Rm)(Z0:ad)(iw:Nat)(s:WS)(U:ad):Prop where
 sub:aa Z0 U
 no:Z0 iw=none
 row:∃va vf,U iw=some ⟨155,7,[.agg [va,vf,vI s.VA,vI s.VD.y,vI s.VD.m,aF l,cZ rs]]⟩/\
  ay (bE Z0 iw) U 90 8 va (s.atoms.map bC)/\ay (bE Z0 iw) U 100 7 vf (s.u'.map aG)/\(s.u'=[]->vf=.aO)
def ao(l:List Rm):(cZ l).cells=[cZ l]:=rfl
def zO(l:List Rm):(cZ l).stays=true:=rfl
def Lm{U:ad}{l:List Rm}{i:Nat}(h:i<l.length):bO U 2 (cZ l) (.int .i64 i)=some (.rp (j1 l[i])):=by simp[cZ,bO,h]
def ay.vc{K U:ad}{e sz:Nat}{v:V}{rows:List V}(h:ay K U e sz v rows):v.cells=[v]/\v.stays=true:=by rcases h with⟨rfl,_⟩|⟨_,rfl,_⟩<;>exact⟨rfl,rfl⟩
def fE(rs:List Rm)(a:Nat):Wq:=⟨(rs.getD a ⟨0,0⟩).x,(rs.getD a ⟨0,0⟩).x+(rs.getD a ⟨0,0⟩).w⟩
def B9{l:List Nd}{rs:List Rm}{Z0 U:ad}{iw:Nat}{s:WS}(hJ:YY l rs Z0 iw s U)(a:Nat)(ha:a<rs.length)(hr:rs[a].ok):
 au prog 178 [.ptr iw 0 0,vI a] U λr Z'=>r=aV (fE rs a)/\Z'=U:=by
 obtain⟨va,vf,w1,ha1,hf1,_⟩:=hJ.row;obtain⟨ca,sa⟩:=ha1.vc;obtain⟨cf,sf⟩:=hf1.vc;obtain⟨r1,r2,r3,r4⟩:=hr;have ZK:rs.getD a ⟨0,0⟩=rs[a]:=by simp[ha]
 have VC:=λU=>Lm (U:=U) ha;unfold fE;rw[ZK];generalize rs[a]=r at*;have hen:j1 r=.agg [vI r.x,vI r.w]:=rfl;have rr:VO .i64 (r.x+r.w):=ae;refine Vb.q ?_;have hs:=aa.refl U;refine mS 6 ?_;simp only[go_sem,seval,Rz];refine aA λi4 Z4 s4 a4 f4=>?_;have w4:=s4 _ _ w1;simp only[go_sem,seval,w4,VC,hen,ca,cf,ao,af];refine aA λi5 Z5 s5 a5 f5=>?_;have b4:=s5 _ _ a4;have XQ:=aU a4 f5;simp only[go_sem,seval,a5,b4,ab XQ,rr];exact ak.pure (((s4.trans s5).az (s4.none f5)).az f4) rfl
def tf(a:WE):(bC a).cells=[vI a.kind,vI a.node,vI a.fr,vI a.to,vI a.x,vI a.y,vI a.w,vI a.h]:=rfl
def tR(a:WE):(bC a).stays=true:=rfl
def WS.put(s:WS)(a:WE):WS:={ s with atoms:=s.atoms++[a],VD:=⟨a.y+a.h,0⟩ }
def GF{l:List Nd}{rs:List Rm}{Z0 U:ad}{iw:Nat}{s:WS}(hJ:YY l rs Z0 iw s U)(a:WE)(hy:Bq a.y)(hh:Bq a.h)(hn:s.atoms.length<=1000000):
 au prog 179 [.ptr iw 0 0,bC a] U λr Z'=>r=.VG []/\YY l rs Z0 iw (s.put a) Z':=by
 obtain⟨va,vf,w1,ha1,hf1,hf2⟩:=hJ.row;obtain⟨ca,sa⟩:=ha1.vc;obtain⟨cf,sf⟩:=hf1.vc;refine Ud.q ?_;refine mS 4 ?_;simp only[go_sem,seval,Qc,tf,tR];refine aA λi3 Z3 s3 a3 f3=>?_;have w3:=s3 _ _ w1;simp only[go_sem,seval,w3,a3,ca,cf,ao,af,tf,tR];refine bB λi11 Z11 Zu X2 f11=>?_;obtain⟨idA,Wi,VL,WM,ZO⟩:=ha1.mn (s3.trans Zu);have V1:(s.atoms.length+1)*65<=140737488355328:=by omega
 have Xc:(s.atoms.map bC).length=s.atoms.length:=by simp
 simp only[go_sem,seval,Wi,bJ X2,Xc,V1];rw[aB];intro i12 f12;have f12:Z11 i12=none:=f12;have w11:=Zu _ _ w3;have nw:=aU w11 f12;have b3:=Zu _ _ a3;have n3:=aU b3 f12;have nw3:=aU w1 f3;have hdw:=WM iw _ w1 (.inr (by simp));have hd3:=ZO i3 f3;have cw:(C' (Vc.bN Z11 idA) i12 ⟨90,8,s.atoms.map bC++[.agg [vI a.kind,vI a.node,vI a.fr,vI a.to,vI a.x,vI a.y,vI a.w,vI a.h]]⟩) iw=some ⟨155,7,[.agg [va,vf,vI s.VA,vI s.VD.y,vI s.VD.m,aF l,cZ rs]]⟩:=by rw[ab nw,hdw];exact w11
 have c3:(C' (Vc.bN Z11 idA) i12 ⟨90,8,s.atoms.map bC++[.agg [vI a.kind,vI a.node,vI a.fr,vI a.to,vI a.x,vI a.y,vI a.w,vI a.h]]⟩) i3=some ⟨90,8,[.agg [vI a.kind,vI a.node,vI a.fr,vI a.to,vI a.x,vI a.y,vI a.w,vI a.h]]⟩:=by rw[ab n3,hd3];exact b3
 have c12:(C' (Vc.bN Z11 idA) i12 ⟨90,8,s.atoms.map bC++[.agg [vI a.kind,vI a.node,vI a.fr,vI a.to,vI a.x,vI a.y,vI a.w,vI a.h]]⟩) i12=some ⟨90,8,s.atoms.map bC++[.agg [vI a.kind,vI a.node,vI a.fr,vI a.to,vI a.x,vI a.y,vI a.w,vI a.h]]⟩:=ag;have G':aa Z0 (C' (Vc.bN Z11 idA) i12 ⟨90,8,s.atoms.map bC++[.agg [vI a.kind,vI a.node,vI a.fr,vI a.to,vI a.x,vI a.y,vI a.w,vI a.h]]⟩):=by
  have h1:=VL Z0 (λi o h=>by rw[bE,aD (λe=>by rw[e,hJ.no]at h;cases h)];exact h) Z11 ((hJ.sub.trans s3).trans Zu);exact h1.az (((hJ.sub.trans s3).trans Zu).none f12)
 have Xk:bE Z0 iw i12=none:=aQ.2 ⟨nw.symm,((hJ.sub.trans s3).trans Zu).none f12⟩;have hf3:∀o,ay (bE Z0 iw) (C' (Vc.bN Z11 idA) i12 o) 100 7 vf (s.u'.map aG):=λo=>by
  rcases hf1 with h|⟨id,h1,h2,h3⟩
  .exact .inl h
  .have h4:=Zu _ _ (s3 _ _ h2);exact .inr ⟨id,h1,by rw[ab (aU h4 f12),WM id _ h2 (.inr (by simp))];exact h4,h3⟩
 replace hf3:=hf3 ⟨90,8,s.atoms.map bC++[.agg [vI a.kind,vI a.node,vI a.fr,vI a.to,vI a.x,vI a.y,vI a.w,vI a.h]]⟩;generalize C' (Vc.bN Z11 idA) i12 ⟨90,8,s.atoms.map bC++[.agg [vI a.kind,vI a.node,vI a.fr,vI a.to,vI a.x,vI a.y,vI a.w,vI a.h]]⟩=J at*;simp only[go_sem,seval,cw,ca,cf,ao,af,cp];have dw:(C' J iw ⟨155,7,[.agg [.own i12 0 (s.atoms.length+1),vf,vI s.VA,vI s.VD.y,vI s.VD.m,aF l,cZ rs]]⟩) iw=some ⟨155,7,[.agg [.own i12 0 (s.atoms.length+1),vf,vI s.VA,vI s.VD.y,vI s.VD.m,aF l,cZ rs]]⟩:=ag;have d3:(C' J iw ⟨155,7,[.agg [.own i12 0 (s.atoms.length+1),vf,vI s.VA,vI s.VD.y,vI s.VD.m,aF l,cZ rs]]⟩) i3=some ⟨90,8,[.agg [vI a.kind,vI a.node,vI a.fr,vI a.to,vI a.x,vI a.y,vI a.w,vI a.h]]⟩:=by rw[ab nw3.symm];exact c3
 have d12:(C' J iw ⟨155,7,[.agg [.own i12 0 (s.atoms.length+1),vf,vI s.VA,vI s.VD.y,vI s.VD.m,aF l,cZ rs]]⟩) i12=some ⟨90,8,s.atoms.map bC++[.agg [vI a.kind,vI a.node,vI a.fr,vI a.to,vI a.x,vI a.y,vI a.w,vI a.h]]⟩:=by rw[ab nw.symm];exact c12
 replace G':=G'.az hJ.no (o:=⟨155,7,[.agg [.own i12 0 (s.atoms.length+1),vf,vI s.VA,vI s.VD.y,vI s.VD.m,aF l,cZ rs]]⟩);have hf4:ay (bE Z0 iw) (C' J iw ⟨155,7,[.agg [.own i12 0 (s.atoms.length+1),vf,vI s.VA,vI s.VD.y,vI s.VD.m,aF l,cZ rs]]⟩) 100 7 vf (s.u'.map aG):=by
  rcases hf3 with h|⟨id,h1,h2,h3⟩
  .exact .inl h
  .exact .inr ⟨id,h1,by rw[ab (aQ.1 h3).1];exact h2,h3⟩
 clear hf3 cw c3 c12;generalize C' J iw ⟨155,7,[.agg [.own i12 0 (s.atoms.length+1),vf,vI s.VA,vI s.VD.y,vI s.VD.m,aF l,cZ rs]]⟩=Y2 at*;refine ai.rY (by kernel_rfl) [0,1,2,3,4,5,6,7,8,9,10,11,12] [[],[],[1],[1,2],[1,2,3],[],[5],[],[7],[1,2,3,4,5,6,7,8],[0,1,2,3,4,5,6,7,8,9],[0,1,2,3,4,5,6,7,8,9,10],[0,1,2,3,4,5,6,7,8,9,10,11]] [0,2,4,6,8,10,12,14,16,18,20,22,24] (by kernel_rfl) (by kernel_rfl) ?_;refine cd (n:=0) [18,20,22,24] [0,2,4,6,8,10,12,14,16] [_,_,_,_,_,_,_,_,_] rfl rfl ?_;simp only[go_sem,seval,dw,d3,cf,ao,af];refine reP rfl (Np s.VD a.y a.h hy hh _) ?_;refine cd (n:=0) [] [20,22,24] [_,_,_] rfl rfl ?_;simp only[go_sem,seval,dw,dC,cf,ao,af];apply sR;simp only[go_sem,seval];have Xj:aa Z0 (C' Y2 iw ⟨155,7,[.agg [.own i12 0 (s.atoms.length+1),vf,vI s.VA,vI (a.y+a.h),vI 0,aF l,cZ rs]]⟩):=G'.az hJ.no;refine WZ ⟨rfl,Xj,hJ.no,.own i12 0 (s.atoms.length+1),vf,ag,?_,?_,hf2⟩
 .exact ay.new (by simp[WS.put]) (by rw[ab nw.symm,d12];simp[WS.put];rfl) Xk
 .rcases hf4 with h|⟨id,h1,h2,h3⟩
  .exact .inl h
  .exact .inr ⟨id,h1,by rw[ab (aQ.1 h3).1];exact h2,h3⟩
def yI{l:List O'}{w high:Int}{s:Wq}:∀(k:Nat) (y:Int),gtJ l y<=k->kY l w high s (jd l w high s k y)=true
 |0,y,h=>by
  rw[jd];simp only[kY,lP,Bool.not_eq_true',X7];left;cases hn:(cL l y high s).2 with
  |false=>rfl
  |true=>
   have:=mA (fa hn);omega
 |k+1,y,h=>by
  rw[jd];split
  .rename_i hb;exact hb
  .rename_i hb;simp only[kY,lP,Bool.not_eq_true',not_or,Bool.not_eq_false]at hb;have:=mA (fa hb.1);exact yI k _ (by omega)
def Gj(l:List O')(w high:Int)(s:Wq)(y:Int):(cL l (rb l w high s y) high s).2=false\/fB (bZ l (rb l w high s y) high s)>=w:=by
 have:=yI (l:=l) (w:=w) (high:=high) (s:=s) l.length y (List.length_filter_le _ _);simp only[kY,lP,Bool.not_eq_true',X7]at this;exact this
def sS{l:List O'}{w high B:Int}{s:Wq}(hB:∀f∈l,f.y+f.h<=B):∀(k:Nat) (y:Int),y<=jd l w high s k y/\jd l w high s k y<=max y B
 |0,y=>by simp only[jd];omega
 |k+1,y=>by
  rw[jd];split
  .omega
  .rename_i hb;simp only[kY,lP,Bool.not_eq_true',not_or,Bool.not_eq_false]at hb;obtain⟨f,hm,h1,h2⟩:=fa hb.1;have:=sS hB k (cL l y high s).1 (w:=w) (high:=high) (s:=s);have:=hB f hm;omega
def DH(f:O')(s:Wq):s.a<=(iq f s).a/\(iq f s).b<=s.b:=by
 unfold iq;split
 .simp only;omega
 .simp only;omega
def AZ:∀(l:List O') (s:Wq),s.a<=(l.foldl (λs f=>iq f s) s).a/\(l.foldl (λs f=>iq f s) s).b<=s.b
 |[],s=>by simp
 |f::l,s=>by
  have h1:=DH f s;have h2:=AZ l (iq f s);simp only[gC];omega
def HZ(l:List O')(y high:Int)(s:Wq):s.a<=(bZ l y high s).a/\(bZ l y high s).b<=s.b:=AZ _ _
structure FOk(B:Int)(f:O'):Prop where
 x0:0<=f.x
 w0:0<=f.w
 w1:f.w<=1099511627776
 h0:0<=f.h
 h1:f.h<=1099511627776
 y0:0<=f.y
 yB:f.y+f.h<=B
 xw:f.x+f.w<=8796093022208
def FOk.ok{B:Int}{f:O'}(h:FOk B f)(hB:B<=1152921504606846976):f.ok:=by
 obtain⟨h1,h2,h3,h4,h5,h6,h7,h8⟩:=h;exact⟨⟨by omega,by omega⟩,⟨by omega,by omega⟩,⟨by omega,by omega⟩,⟨by omega,by omega⟩⟩
def FOk.mono{B C:Int}{f:O'}(h:FOk B f)(hB:B<=C):FOk C f:=by
 obtain⟨h1,h2,h3,h4,h5,h6,h7,h8⟩:=h;exact⟨h1,h2,h3,h4,h5,h6,by omega,h8⟩
def Fv(s:Wq):Prop:=0<=s.a/\s.a<=2199023255552/\0<=s.b/\s.b<=2199023255552
def Dv{fs:List O'}{B y:Int}(hB:∀f∈fs,FOk B f):y<=mT fs y/\mT fs y<=max y B:=by
 unfold mT;split
 .rename_i h;obtain⟨f,hf,h1,_⟩:=kI h;have:=hB f hf;have h2:(lv f).1=f.y:=rfl;rw[h1,h2];have:=this.yB;have:=(hB f hf).h0;omega
 .omega
def AX{fs:List O'}{B y:Int}(hB:∀f∈fs,FOk B f)(f:O')(s:Wq):y<=j0 fs f y s/\j0 fs f y s<=max y B:=by
 have h1:=Dv (y:=y) hB;have h2:=sS (w:=f.w) (high:=f.h) (s:=s) (λf hf=>(hB f hf).yB) fs.length (mT fs y);unfold j0 rb;omega
def E0{fs:List O'}{B y:Int}(hB:∀f∈fs,FOk B f){f:O'}{s:Wq}(hs:Fv s)(hy0:0<=y)(hyB:y<=B)(w0:1<=f.w)(w1:f.w<=1099511627776)(h0:0<=f.h)(h1:f.h<=1099511627776):FOk (B+1099511627776) (iZ fs f y s):=by
 obtain⟨s1,s2,s3,s4⟩:=hs;have hy:=AX (y:=y) hB f s;have hb:=HZ fs (j0 fs f y s) f.h s;have hx:0<=l9 fs f y s/\l9 fs f y s+f.w<=8796093022208:=by
  unfold l9;simp only;have he:=Gj fs f.w f.h s (mT fs y);have e:rb fs f.w f.h s (mT fs y)=j0 fs f y s:=rfl;rw[e]at he;rcases he with h|h
  .have Ya:bZ fs (j0 fs f y s) f.h s=s:=Classical.byContradiction λhn=>by
    have:=my hn;rw[h]at this;cases this
   rw[Ya];split<;>omega
  .unfold fB at h;split at h
   .omega
   .split<;>omega
 exact⟨hx.1,by simp only[iZ];omega,by simp only[iZ];omega,by simp only[iZ];omega,by simp only[iZ];omega,by simp only[iZ];omega,by simp only[iZ];omega,by simpa[iZ]using hx.2⟩
def JK{fs:List O'}{B y:Int}(hB:∀f∈fs,FOk B f){f:O'}{s:Wq}(hs:Fv s)(hy0:0<=y)(hyB:y<=B)(w0:1<=f.w)(w1:f.w<=1099511627776)(h0:0<=f.h)(h1:f.h<=1099511627776):∀g∈nt fs f y s,FOk (B+1099511627776) g:=by
 intro g hg;rcases ec.1 hg with hg|hg
 .exact(hB g hg).mono (by omega)
 .simp only[jO]at hg;subst hg;exact E0 hB hs hy0 hyB w0 w1 h0 h1
structure Bd(s:WS)(B:Int):Prop where
 fl:∀f∈s.u',FOk B f
 y0:0<=s.VD.y
 m0:0<=s.VD.m
 m1:s.VD.m<=1099511627776
 yB:s.VD.y+s.VD.m<=B
def Bd.mono{s:WS}{B C:Int}(h:Bd s B)(hB:B<=C):Bd s C:=⟨λf hf=>(h.fl f hf).mono hB,h.y0,h.m0,h.m1,by have:=h.yB;omega⟩
def WS.mono(l:List Nd)(rs:List Rm)(s:WS)(a:Nat)(n:Nd):WS:=
 let V3:=gQ s.u' n.w n.h (fE rs a) (s.VD.y+s.VD.m)
 let b:=bZ s.u' V3 n.h (fE rs a)
 s.put ⟨2,a,0,0,b.a,V3,n.w,n.h⟩
def fZ(a:Nat)(h:Int)(x:Ln):WE:=⟨1,a,x.fr,x.to,x.x,x.y,x.w,h⟩
def WS.text(rs:List Rm)(s:WS)(a:Nat)(n:Nd):WS:=
 (da s.u' n.words n.space n.line (fE rs a) n.words.length 0 (s.VD.y+s.VD.m)).foldl (λs x=>s.put (fZ a n.line x)) s
def WS.float(rs:List Rm)(s:WS)(a:Nat)(n:Nd):WS:=
 { s with u':=nt s.u' ⟨a,n.side,s.atoms.length,0,0,n.w,n.h⟩ (s.VD.y+s.VD.m) (fE rs a) }
def WS.enter(s:WS)(t:Xh):WS:=
 let p:=if(cH (fX t.clear) s.u').2 then eV s.VD (cH (fX t.clear) s.u').1 else s.VD
 { s with VD:=dQ p t.top t.VJ }
def WS.leave(s:WS)(t:Xh):WS:={ s with VD:=kz s.VD t.V0 t.T' }
def Bd.enter{s:WS}{B:Int}(h:Bd s B){t:Xh}(ht:SOk t):Bd (s.enter t) (B+2199023255552):=by
 obtain⟨hf,h1,h2,h3,h4⟩:=h;have hp:∀p:Pn,0<=p.y->0<=p.m->p.m<=1099511627776->p.y+p.m<=B->Bd { s with VD:=dQ p t.top t.VJ } (B+2199023255552):=by
  intro p g1 g2 g3 g4;have a1:=ht.top;have a2:=ht.VJ;refine⟨λf hf'=>(hf f hf').mono (by omega),?_,?_,?_,?_⟩<;>simp only[dQ,ld]<;>(repeat' split)<;>omega
 unfold WS.enter;simp only;split
 .rename_i hm;obtain⟨f,hfm,e1,_⟩:=kI hm;have e2:(fX t.clear f).1=f.y+f.h:=rfl;have ZI:=hf f hfm;have hy:=ZI.yB;have hy0:=ZI.y0;have hh0:=ZI.h0;rw[e1,e2];refine hp _ ?_ ?_ ?_ ?_<;>(unfold eV;split)<;>(try simp only)<;>omega
 .exact hp _ h1 h2 h3 h4
def Bd.leave{s:WS}{B:Int}(h:Bd s B){t:Xh}(ht:SOk t):Bd (s.leave t) (B+2199023255552):=by
 obtain⟨hf,h1,h2,h3,h4⟩:=h;have a1:=ht.V0;have a2:=ht.T';refine⟨λf hf'=>(hf f hf').mono (by omega),?_,?_,?_,?_⟩<;>simp only[WS.leave,kz,ld]<;>(repeat' split)<;>omega
open Go.Proofs
structure DOk(l:List Nd)(rs:List Rm):Prop where
 qs:l.length<=2000
 isb:Wg l=true
 len:rs.length=l.length
 rok:∀r∈rs,r.ok
def DOk.room{l:List Nd}{rs:List Rm}(h:DOk l rs){a:Nat}(ha:a<l.length):∃h':a<rs.length,rs[a].ok:=⟨by rw[h.len];exact ha,h.rok _ (Ws _)⟩
def DOk.span{l:List Nd}{rs:List Rm}(h:DOk l rs){a:Nat}(ha:a<l.length):Fv (fE rs a):=by
 obtain⟨h',r1,r2,r3,r4⟩:=h.room ha;have e:rs.getD a ⟨0,0⟩=rs[a]:=by simp[h']
 unfold fE Fv;rw[e];simp only;omega
def Fv.bq{s:Wq}(h:Fv s):W1 s.a/\W1 s.b:=by obtain⟨a,b,c,d⟩:=h;exact⟨⟨by omega,by omega⟩,⟨by omega,by omega⟩⟩
def Bd.flo{s:WS}{B:Int}(h:Bd s B)(hB:B<=1152921504606846976):∀f∈s.u',f.ok:=λf hf=>(h.fl f hf).ok hB
def im(l:List Nd){a:Nat}(h:a<l.length)(U:ad):bO U 20 (aF l) (.int .i64 a)=some (.rp (.agg (Nd.cells l[a]))):=bR h
def YY.mono{l:List Nd}{rs:List Rm}{Z0 U J:ad}{iw:Nat}{s:WS}(hJ:YY l rs Z0 iw s U)(hs:aa U J):YY l rs Z0 iw s J:=by
 obtain⟨va,vf,w1,h1,h2,h3⟩:=hJ.row;exact⟨hJ.sub.trans hs,hJ.no,va,vf,hs _ _ w1,h1.mono hs,h2.mono hs,h3⟩
def tD2:List (List Nat):=[[],[0],[1,0],[2,1,0],[3,2,1,0],[],[5],[],[7],[],[9],[10,9],[11,10,9],[12,11,10,9],[],[],[14,15,13,12,11,10,9],[4,6,8,13,16,3,2,1,0,5,7,12,11,10,9,14,15],[17,4,6,8,13,16,3,2,1,0,5,7,12,11,10,9,14,15],[18,17,4,6,8,13,16,3,2,1,0,5,7,12,11,10,9,14,15],[18,17,4,6,8,13,16,3,2,1,0,5,7,12,11,10,9,14,15],[],[21,19,17,0,1,2,3,4,5,6,7,8,9,10,11,12,13,14,15,16,18],[20,22,0,1,2,3,4,5,6,7,8,9,10,11,12,13,14,15,16,17,18,19,21]]
def LA{l:List Nd}{rs:List Rm}(hD:DOk l rs){Z0 U:ad}{iw:Nat}{s:WS}{B:Int}(hJ:YY l rs Z0 iw s U)(hB:Bd s B)(hB1:B<=576460752303423488)(a:Nat)(ha:a<l.length)(hk:l[a].kind=3)(hn:s.atoms.length<=100000)(hfn:s.u'.length<=100000):
 au prog 132 [.ptr iw 0 0,vI a] U λr Z'=>r=.VG []/\YY l rs Z0 iw (WS.mono l rs s a l[a]) Z':=by
 obtain⟨va,vf,w1,ha1,hf1,hf2⟩:=hJ.row;obtain⟨ca,sa⟩:=ha1.vc;obtain⟨cf,sf⟩:=hf1.vc;have Wb:=fw hD.isb ha;have hsp:=hD.span ha;obtain⟨har,hrok⟩:=hD.room ha;have VC:=im l ha;have hen:∀n:Nd,V.agg (Nd.cells n)=gm n:=λ_=>rfl;unfold WS.mono;generalize l[a]=n at*;refine SY.q ?_;refine mS 7 ?_;simp only[go_sem,seval,Pk,w1,ca,cf,ao,af,aj,al,VC,Nd.cells];refine aA λi4 Z4 s4 a4 f4=>?_;simp only[go_sem,seval,a4,aj,al,cp];generalize hq4:C' Z4 i4 _=Y4;have b4:Y4 i4=some ⟨48,20,[.agg (Nd.cells n)]⟩:=by rw[<-hq4];exact ag
 rw[Nd.cells]at b4;have s4':aa U Y4:=by rw[<-hq4];exact s4.az f4
 clear hq4;have w4:=s4' _ _ w1;have hlen:wg Y4 vf (aC s.u'):=(hf1.mono s4').yZ;have hJ4:=hJ.mono s4';have hm:=hB.m1;have hm0:=hB.m0;have hy0:=hB.y0;have hyB:=hB.yB;have hws:=Wb.w;have hhs:=Wb.h;have XZ:=H5 s.u' n.w n.h (s.VD.y+s.VD.m) (fE rs a) (by omega) (hB.flo (by omega)) ⟨by omega,by omega⟩ ⟨by omega,by omega⟩ hsp.bq;obtain⟨V3,XG⟩:∃z,z=gQ s.u' n.w n.h (fE rs a) (s.VD.y+s.VD.m):=⟨_,rfl⟩
 have hyr:=fe (w:=n.w) (high:=n.h) (y:=s.VD.y+s.VD.m) (s:=fE rs a) (λf hf=>(hB.fl f hf).yB);rw[<-XG]at XZ hyr|-;obtain⟨b,hb⟩:∃b,b=bZ s.u' V3 n.h (fE rs a):=⟨_,rfl⟩
 rw[<-hb]at XZ|-;have fin:∀(S:Nat->V) (J:ad) (i5:Nat),aa Y4 J->J i5=some ⟨219,2,[.agg [vI b.a,vI b.b]]⟩->S 0=.ptr iw 0 0->S 1=vI a->S 4=.ptr i4 0 0->S 5=.ptr i5 0 0->S 6=vI V3->
  ai prog 46 [It.code (.reg false [⟨some 35,.mov (.t 0),none⟩,⟨some 36,.mov (.t 1),none⟩,⟨some 37,.fldA false 0 1 (.t 5),none⟩,⟨some 38,.load false 1 (.t 37),none⟩,⟨some 39,.mov (.t 6),none⟩,⟨some 40,.fldA false 18 1 (.t 4),none⟩,⟨some 41,.load false 1 (.t 40),none⟩,⟨some 42,.fldA false 19 1 (.t 4),none⟩,⟨some 43,.load false 1 (.t 42),none⟩,⟨some 44,.build [.int .i64 0,.int .i64 0,.int .i64 0,.int .i64 0,.int .i64 0,.int .i64 0,.int .i64 0,.int .i64 0] [(0,1,.c (.int .i64 2)),(1,1,.t 36),(4,1,.t 38),(5,1,.t 39),(6,1,.t 41),(7,1,.t 43)],none⟩,⟨some 45,.call (.c (.fn 179 [])) [.t 35,.t 44],none⟩])] ⟨S,J⟩
   (λst=>ak (.VG []) st.U λr Z'=>r=.VG []/\YY l rs Z0 iw (s.put ⟨2,a,0,0,b.a,V3,n.w,n.h⟩) Z'):=by
  intro S J i5 hτ c5 t0 t1 t4 t5 t6;have c4:=hτ _ _ b4;refine mS 7 ?_;simp only[go_sem,seval,t0,t1,t4,t5,t6,c4,c5,aj];refine Xv rfl (GF (hJ4.mono hτ) ⟨2,a,0,0,b.a,V3,n.w,n.h⟩ (show Bq V3 from⟨by omega,by omega⟩) (show Bq n.h from⟨by omega,by omega⟩) (by omega)) ?_;rintro r Z' ⟨rfl,Yv⟩;apply sR;simp only[go_sem,seval];exact WZ ⟨rfl,Yv⟩
 refine ai.ug (by kernel_rfl) 8 (.fork tD2 [0,1,2,3,4,5,6,7,8,9,10,11,12,14,15] [13,21] [(.fork (sX tD2 [(21,[13,12,11,10,9]),(22,[13,12,11,10,9,21,19,17,0,1,2,3,4,5,6,7,8,14,15,16,18]),(23,[13,12,11,10,9,20,22,0,1,2,3,4,5,6,7,8,14,15,16,17,18,19,21])]) [13] [16,21] [(.fork (sX tD2 [(21,[16,14,15,13,12,11,10,9]),(22,[16,14,15,13,12,11,10,9,21,19,17,0,1,2,3,4,5,6,7,8,18]),(23,[16,14,15,13,12,11,10,9,20,22,0,1,2,3,4,5,6,7,8,17,18,19,21])]) [16] [17,21] [(.leaf (sX tD2 [(21,[17,4,6,8,13,16,3,2,1,0,5,7,12,11,10,9,14,15]),(22,[17,4,6,8,13,16,3,2,1,0,5,7,12,11,10,9,14,15,21,19,18]),(23,[17,4,6,8,13,16,3,2,1,0,5,7,12,11,10,9,14,15,20,22,18,19,21])]) [17,18,19,20,21,22,23]),(.leaf (sX tD2 [(17,[21,16,14,15,13,12,11,10,9,4,6,8,3,2,1,0,5,7]),(18,[21,16,14,15,13,12,11,10,9,17,4,6,8,3,2,1,0,5,7]),(19,[21,16,14,15,13,12,11,10,9,18,17,4,6,8,3,2,1,0,5,7]),(20,[21,16,14,15,13,12,11,10,9,18,17,4,6,8,3,2,1,0,5,7]),(21,[16,14,15,13,12,11,10,9]),(22,[21,16,14,15,13,12,11,10,9,19,17,0,1,2,3,4,5,6,7,8,18]),(23,[21,16,14,15,13,12,11,10,9,20,22,0,1,2,3,4,5,6,7,8,17,18,19])]) [21,17,18,19,20,22,23])]),(.leaf (sX tD2 [(16,[21,13,12,11,10,9,14,15]),(17,[21,13,12,11,10,9,4,6,8,16,3,2,1,0,5,7,14,15]),(18,[21,13,12,11,10,9,17,4,6,8,16,3,2,1,0,5,7,14,15]),(19,[21,13,12,11,10,9,18,17,4,6,8,16,3,2,1,0,5,7,14,15]),(20,[21,13,12,11,10,9,18,17,4,6,8,16,3,2,1,0,5,7,14,15]),(21,[13,12,11,10,9]),(22,[21,13,12,11,10,9,19,17,0,1,2,3,4,5,6,7,8,14,15,16,18]),(23,[21,13,12,11,10,9,20,22,0,1,2,3,4,5,6,7,8,14,15,16,17,18,19])]) [21,16,17,18,19,20,22,23])]),(.leaf (sX tD2 [(13,[21,12,11,10,9]),(16,[21,14,15,13,12,11,10,9]),(17,[21,4,6,8,13,16,3,2,1,0,5,7,12,11,10,9,14,15]),(18,[21,17,4,6,8,13,16,3,2,1,0,5,7,12,11,10,9,14,15]),(19,[21,18,17,4,6,8,13,16,3,2,1,0,5,7,12,11,10,9,14,15]),(20,[21,18,17,4,6,8,13,16,3,2,1,0,5,7,12,11,10,9,14,15]),(23,[21,20,22,0,1,2,3,4,5,6,7,8,9,10,11,12,13,14,15,16,17,18,19])]) [21,13,16,17,18,19,20,22,23])]) (by kernel_rfl) ?_;refine GT.pk (its:=[0,2,4,6,8,10,12,14,16,18,20,22,24,28,30]) (by kernel_rfl) ?_;refine cd (n:=0) [] [0,2,4,6,8,10,12,14,16,18,20,22,24,28,30] [_,_,_,_,_,_,_,_,_,_,_,_,_,_,_] rfl rfl ?_;simp only[go_sem,seval,b4,w4,ca,cf,ao,af,aj,al];refine⟨?_,?_⟩
 .refine GT.pk (its:=[26,9,13,17]) (by kernel_rfl) ?_;refine reP rfl (Fc s.VD ⟨by omega,by omega⟩ ⟨by omega,by omega⟩ _) ?_;refine cT rfl (by simp only[go_sem,seval,b4,w4,ca,cf,ao,af,aj,al]) ?_;refine cT rfl (by simp only[go_sem,seval,b4,w4,ca,cf,ao,af,aj,al]) ?_;refine cT rfl (by simp only[go_sem,seval,b4,w4,ca,cf,ao,af,aj,al]) ?_;refine⟨?_,?_⟩
  .refine GT.pk (its:=[32,9,13,17]) (by kernel_rfl) ?_;refine reP rfl (B9 hJ4 a har hrok) ?_;refine cT rfl (by simp only[go_sem,seval,b4,w4,ca,cf,ao,af,aj,al]) ?_;refine cT rfl (by simp only[go_sem,seval,b4,w4,ca,cf,ao,af,aj,al]) ?_;refine cT rfl (by simp only[go_sem,seval,b4,w4,ca,cf,ao,af,aj,al]) ?_;refine⟨?_,?_⟩
   .refine GT.gH (its:=[34,36,38,40,42,44,46]) (by kernel_rfl) ?_;refine reP rfl (aL.ue (args':=[aC s.u',vI n.w,vI n.h,vI (s.VD.y+s.VD.m),aV (fE rs a)]) ⟨hlen.at,YH _,YH _,YH _,YH _,trivial⟩ XZ rfl) ?_;refine cd (n:=0) [] [36,38,40,42,44,46] [_,_,_,_,_,_] rfl rfl ?_;simp only[go_sem,seval,b4,w4,ca,cf,ao,af,aj,al];refine bB λi5 Z5 s5 a5 f5=>?_;replace b4:=s5 _ _ b4;replace w4:=s5 _ _ w4;replace hlen:=hlen.mono s5;replace hJ4:=hJ4.mono s5;simp only[go_sem,seval,b4,w4,ca,cf,ao,af,aj,al,a5,aV];exact fin _ _ i5 (s5.az f5) ag rfl rfl rfl rfl rfl
   .refine GT.gH (its:=[42,9,13,17,34,36,38,40,44,46]) (by kernel_rfl) ?_;refine cd (n:=0) [9,13,17,34,36,38,40,44,46] [42] [_] rfl rfl ?_;simp only[go_sem,seval,b4,w4,ca,cf,ao,af,aj,al];refine bB λi5 Z5 s5 a5 f5=>?_;replace b4:=s5 _ _ b4;replace w4:=s5 _ _ w4;replace hlen:=hlen.mono s5;replace hJ4:=hJ4.mono s5;simp only[go_sem,seval,b4,w4,ca,cf,ao,af,aj,al,a5,aV];refine cT rfl (by simp only[go_sem,seval,b4,w4,ca,cf,ao,af,aj,al,a5,aV]) ?_;refine cT rfl (by simp only[go_sem,seval,b4,w4,ca,cf,ao,af,aj,al,a5,aV]) ?_;refine cT rfl (by simp only[go_sem,seval,b4,w4,ca,cf,ao,af,aj,al,a5,aV]) ?_;refine reP rfl (aL.ue (args':=[aC s.u',vI n.w,vI n.h,vI (s.VD.y+s.VD.m),aV (fE rs a)]) ⟨hlen.at,YH _,YH _,YH _,YH _,trivial⟩ XZ rfl) ?_;refine cd (n:=0) [] [36,38,40,44,46] [_,_,_,_,_] rfl rfl ?_;simp only[go_sem,seval,b4,w4,ca,cf,ao,af,aj,al,a5,aV];exact fin _ _ i5 (s5.az f5) ag rfl rfl rfl rfl rfl
  .refine GT.gH (its:=[42,9,13,17,32,9,13,17,34,36,38,40,44,46]) (by kernel_rfl) ?_;refine cd (n:=0) [9,13,17,32,9,13,17,34,36,38,40,44,46] [42] [_] rfl rfl ?_;simp only[go_sem,seval,b4,w4,ca,cf,ao,af,aj,al];refine bB λi5 Z5 s5 a5 f5=>?_;replace b4:=s5 _ _ b4;replace w4:=s5 _ _ w4;replace hlen:=hlen.mono s5;replace hJ4:=hJ4.mono s5;simp only[go_sem,seval,b4,w4,ca,cf,ao,af,aj,al,a5,aV];refine cT rfl (by simp only[go_sem,seval,b4,w4,ca,cf,ao,af,aj,al,a5,aV]) ?_;refine cT rfl (by simp only[go_sem,seval,b4,w4,ca,cf,ao,af,aj,al,a5,aV]) ?_;refine cT rfl (by simp only[go_sem,seval,b4,w4,ca,cf,ao,af,aj,al,a5,aV]) ?_;refine reP rfl (B9 hJ4 a har hrok) ?_;refine cT rfl (by simp only[go_sem,seval,b4,w4,ca,cf,ao,af,aj,al,a5,aV]) ?_;refine cT rfl (by simp only[go_sem,seval,b4,w4,ca,cf,ao,af,aj,al,a5,aV]) ?_;refine cT rfl (by simp only[go_sem,seval,b4,w4,ca,cf,ao,af,aj,al,a5,aV]) ?_;refine reP rfl (aL.ue (args':=[aC s.u',vI n.w,vI n.h,vI (s.VD.y+s.VD.m),aV (fE rs a)]) ⟨hlen.at,YH _,YH _,YH _,YH _,trivial⟩ XZ rfl) ?_;refine cd (n:=0) [] [36,38,40,44,46] [_,_,_,_,_] rfl rfl ?_;simp only[go_sem,seval,b4,w4,ca,cf,ao,af,aj,al,a5,aV];exact fin _ _ i5 (s5.az f5) ag rfl rfl rfl rfl rfl
 .refine GT.gH (its:=[42,9,13,17,25,26,9,13,17,32,9,13,17,34,36,38,40,44,46]) (by kernel_rfl) ?_;refine cd (n:=0) [9,13,17,25,26,9,13,17,32,9,13,17,34,36,38,40,44,46] [42] [_] rfl rfl ?_;simp only[go_sem,seval,b4,w4,ca,cf,ao,af,aj,al];refine bB λi5 Z5 s5 a5 f5=>?_;replace b4:=s5 _ _ b4;replace w4:=s5 _ _ w4;replace hlen:=hlen.mono s5;replace hJ4:=hJ4.mono s5;simp only[go_sem,seval,b4,w4,ca,cf,ao,af,aj,al,a5,aV];refine cT rfl (by simp only[go_sem,seval,b4,w4,ca,cf,ao,af,aj,al,a5,aV]) ?_;refine cT rfl (by simp only[go_sem,seval,b4,w4,ca,cf,ao,af,aj,al,a5,aV]) ?_;refine cT rfl (by simp only[go_sem,seval,b4,w4,ca,cf,ao,af,aj,al,a5,aV]) ?_;refine cT rfl (by simp only[go_sem,seval,b4,w4,ca,cf,ao,af,aj,al,a5,aV]) ?_;refine reP rfl (Fc s.VD ⟨by omega,by omega⟩ ⟨by omega,by omega⟩ _) ?_;refine cT rfl (by simp only[go_sem,seval,b4,w4,ca,cf,ao,af,aj,al,a5,aV]) ?_;refine cT rfl (by simp only[go_sem,seval,b4,w4,ca,cf,ao,af,aj,al,a5,aV]) ?_;refine cT rfl (by simp only[go_sem,seval,b4,w4,ca,cf,ao,af,aj,al,a5,aV]) ?_;refine reP rfl (B9 hJ4 a har hrok) ?_;refine cT rfl (by simp only[go_sem,seval,b4,w4,ca,cf,ao,af,aj,al,a5,aV]) ?_;refine cT rfl (by simp only[go_sem,seval,b4,w4,ca,cf,ao,af,aj,al,a5,aV]) ?_;refine cT rfl (by simp only[go_sem,seval,b4,w4,ca,cf,ao,af,aj,al,a5,aV]) ?_;refine reP rfl (aL.ue (args':=[aC s.u',vI n.w,vI n.h,vI (s.VD.y+s.VD.m),aV (fE rs a)]) ⟨hlen.at,YH _,YH _,YH _,YH _,trivial⟩ XZ rfl) ?_;refine cd (n:=0) [] [36,38,40,44,46] [_,_,_,_,_] rfl rfl ?_;simp only[go_sem,seval,b4,w4,ca,cf,ao,af,aj,al,a5,aV];exact fin _ _ i5 (s5.az f5) ag rfl rfl rfl rfl rfl
open Go.Proofs
def ay.Dt{Z0 J:ad}{iw e sz:Nat}{v:V}{rows:List V}{o:Ob}(h:ay (bE Z0 iw) J e sz v rows):ay (bE Z0 iw) (C' J iw o) e sz v rows:=by
 rcases h with h|⟨id,h1,h2,h3⟩
 .exact .inl h
 .exact .inr ⟨id,h1,by rw[ab (aQ.1 h3).1];exact h2,h3⟩
def ay.mR{Z0 J U:ad}{iw e sz:Nat}{v:V}{rows:List V}(h:ay J U e sz v rows)(hs:aa Z0 J){o:Ob}(hw:J iw=some o):ay (bE Z0 iw) U e sz v rows:=by
 rcases h with h|⟨id,h1,h2,h3⟩
 .exact .inl h
 .exact .inr ⟨id,h1,h2,aQ.2 ⟨λe=>(by rw[e,hw]at h3;cases h3),hs.none h3⟩⟩
def IH{l:List Nd}{rs:List Rm}(hD:DOk l rs){Z0 U:ad}{iw:Nat}{s:WS}{B:Int}(hJ:YY l rs Z0 iw s U)(hB:Bd s B)(hB1:B<=576460752303423488)(a:Nat)(ha:a<l.length)(hn:s.atoms.length<=100000)(hfn:s.u'.length<=100000):
 au prog 133 [.ptr iw 0 0,vI a] U λr Z'=>r=.VG []/\YY l rs Z0 iw (WS.float rs s a l[a]) Z':=by
 obtain⟨va,vf,w1,ha1,hf1,hf2⟩:=hJ.row;obtain⟨ca,sa⟩:=ha1.vc;obtain⟨cf,sf⟩:=hf1.vc;have YX:dX false va=some (.int .i64 s.atoms.length):=by rw[ha1.len];simp
 have Wb:=fw hD.isb ha;have hsp:=hD.span ha;obtain⟨har,hrok⟩:=hD.room ha;have VC:=im l ha;unfold WS.float;generalize l[a]=n at*;refine Tl.q ?_;refine mS 6 ?_;simp only[go_sem,seval,Rg,w1,ca,cf,ao,af,aj,al,VC,Nd.cells];refine aA λi4 Z4 s4 a4 f4=>?_;have w4':=s4 _ _ w1;have n4:=aU w1 f4;simp only[go_sem,seval,a4,w4',ab n4,ca,cf,YX,ao,af,aj,al];generalize hq4:C' Z4 i4 _=Y4;have b4:Y4 i4=some ⟨48,20,[.agg (Nd.cells n)]⟩:=by rw[<-hq4];exact ag
 rw[Nd.cells]at b4;have s4'':aa U Y4:=by rw[<-hq4];exact s4.az f4
 clear hq4;have w4:=s4'' _ _ w1;refine bB λi5 Z5 s5 a5 f5=>?_;have s5':=s4''.trans s5;have hJ5:=hJ.mono (s5'.az (o:=⟨100,7,[aG ⟨a,n.side,s.atoms.length,0,0,n.w,n.h⟩]⟩) (s4''.none f5));have hen:aG ⟨a,n.side,s.atoms.length,0,0,n.w,n.h⟩=.agg [vI a,vI n.side,vI s.atoms.length,vI 0,vI 0,vI n.w,vI n.h]:=rfl;rw[hen]at hJ5;simp only[go_sem,seval,a5,cp];generalize Ys:C' Z5 i5 _=Y5 at*;have b5:Y5 i5=some ⟨100,7,[.agg [vI a,vI n.side,vI s.atoms.length,vI 0,vI 0,vI n.w,vI n.h]]⟩:=by rw[<-Ys];exact ag
 have w5:Y5 iw=some ⟨155,7,[.agg [va,vf,vI s.VA,vI s.VD.y,vI s.VD.m,aF l,cZ rs]]⟩:=by rw[<-Ys,ab (aU w4 f5)];exact s5 _ _ w4
 have s6:aa U Y5:=by rw[<-Ys];exact s5'.az (s4''.none f5)
 clear Ys;have hf5:=hf1.mono s6;have hm:=hB.m1;have hm0:=hB.m0;have hy0:=hB.y0;have hyB:=hB.yB;have hws:=Wb.w;have hhs:=Wb.h;have hput:=K9 vf s.u' hf5 hf2 ⟨a,n.side,s.atoms.length,0,0,n.w,n.h⟩ (s.VD.y+s.VD.m) (fE rs a) (by omega) (hB.flo (by omega)) ⟨by omega,by omega⟩ (show Bq n.h from⟨by omega,by omega⟩) (show Bq n.w from⟨by omega,by omega⟩) hsp.bq;rw[hen]at hput;have hpne:nt s.u' ⟨a,n.side,s.atoms.length,0,0,n.w,n.h⟩ (s.VD.y+s.VD.m) (fE rs a)≠[]:=by simp[nt]
 have hs05:=hJ.sub.trans s6;have w5o:=w5;generalize nt s.u' ⟨a,n.side,s.atoms.length,0,0,n.w,n.h⟩ (s.VD.y+s.VD.m) (fE rs a)=fs' at*;refine ai.ug (by kernel_rfl) 8 (.leaf [[],[],[1],[2,1],[3,2,1],[4,3,2,1],[],[],[7],[8,7],[9,8,7],[10,9,8,7],[],[],[12,13,11,10,9,8,7],[5,6,11,14,4,3,2,1,10,9,8,7,12,13],[0,1,2,3,4,5,6,7,8,9,10,11,12,13,14,15],[16,0,1,2,3,4,5,6,7,8,9,10,11,12,13,14,15],[17,0,1,2,3,4,5,6,7,8,9,10,11,12,13,14,15,16],[18,15,0,1,2,3,4,5,6,7,8,9,10,11,12,13,14,17,16]] [0,1,2,3,4,5,6,7,8,9,10,12,13,11,14,15,16,17,18,19]) (by kernel_rfl) ?_;refine GT.gH (its:=[0,2,4,6,8,10,12,14,16,18,20,24,26,22,11,13,28,11,13,30,32,34,36,38]) (by kernel_rfl) ?_;refine cd (n:=0) [22,11,13,28,11,13,30,32,34,36,38] [0,2,4,6,8,10,12,14,16,18,20,24,26] [_,_,_,_,_,_,_,_,_,_,_,_,_] rfl rfl ?_;simp only[go_sem,seval,b5,w5,ca,cf,ao,af];refine reP rfl (Fc s.VD ⟨by omega,by omega⟩ ⟨by omega,by omega⟩ _) ?_;refine cT rfl (by simp only[go_sem,seval,b5,w5,ca,cf,ao,af]) ?_;refine cT rfl (by simp only[go_sem,seval,b5,w5,ca,cf,ao,af]) ?_;refine reP rfl (B9 hJ5 a har hrok) ?_;refine cT rfl (by simp only[go_sem,seval,b5,w5,ca,cf,ao,af]) ?_;refine cT rfl (by simp only[go_sem,seval,b5,w5,ca,cf,ao,af]) ?_;refine RE.call rfl rfl rfl rfl rfl hput ?_;rintro r Z7 ⟨s7,VQ⟩;have w7:=s7 _ _ w5;replace b5:=s7 _ _ b5;replace w5:=s7 _ _ w5;obtain⟨cr,sr⟩:=VQ.vc;refine cd (n:=0) [] [32,34,36,38] [_,_,_,_] rfl rfl ?_;simp only[go_sem,seval,b5,w5,ca,cf,ao,af,cr,sr];apply sR;simp only[go_sem,seval];refine WZ ⟨rfl,?_⟩;have hfa:=(ha1.mono s6).mono s7;exact⟨(hs05.trans s7).az hJ.no,hJ.no,va,r,ag,hfa.Dt,(VQ.mR hs05 w5o).Dt,λh=>absurd h hpne⟩
open Go.Proofs
section
variable {P:Program} {n:Nat} {st:St} {Q:St->Prop} {k:List It}
def Go.zC{i:aK}{l:List aK}{fx:VX}{xs:List VX}{f:FuncId}{caps:List V}{v:V}(hw:bz st.s i.g=some true)(ho:i.op=.call fx xs)
 (hf:fx.ev st.s=.fn f caps)(hc:∀Z1,aa st.U Z1->au P f (xs.map (·.ev st.s)++caps) Z1 λr Z'=>r=v/\Z'=Z1)(h:Go P n (.d l k) ⟨bc st.s i.dst v,st.U⟩ Q):Go P n (.d (i::l) k) st Q:=by
 refine pL hw ?_;rw[ho];exact⟨f,caps,v,hf,λZ1 h1=>hc Z1 h1,h⟩
end
def jo{fs:List O'}{ws:List Int}{space high B:Int}{s:Wq}(hB:∀f∈fs,f.y+f.h<=B)(h0:0<=high):∀(k i:Nat) (y:Int),∀x∈da fs ws space high s k i y,y<=x.y/\x.y+high<=max y B+high*k
 |0,_,_,x,hx=>by simp[da]at hx
 |k+1,i,y,x,hx=>by
  rw[da]at hx;split at hx
  .have hr:=fe (w:=ws.getD i 0) (high:=high) (y:=y) (s:=s) hB;have e:(mi fs ws space high i y s).y=gQ fs (ws.getD i 0) high s y:=rfl;have e2:high*((k+1:Nat):Int)=high*k+high:=by rw[Int.natCast_add,Int.mul_add];simp
   have hk:0<=high*(k:Int):=Int.mul_nonneg h0 (by omega);rcases et.1 hx with rfl|hx
   .rw[e,e2];omega
   .have:=jo hB h0 k _ _ x hx;rw[e]at this;rw[e2];omega
  .cases hx
def YY.pf{l:List Nd}{rs:List Rm}{Z0 U:ad}{iw i:Nat}{s:WS}{o:Ob}(hJ:YY l rs Z0 iw s U)(hi:U i=some o)(h1:o.elem≠90)(h2:o.elem≠100)(h3:i≠iw):YY l rs (C' Z0 i o) iw s U:=by
 obtain⟨va,vf,w1,g1,g2,g3⟩:=hJ.row;have key:∀{e sz:Nat} {v:V} {rows:List V},o.elem≠e->ay (bE Z0 iw) U e sz v rows->ay (bE (C' Z0 i o) iw) U e sz v rows:=λ{e sz v rows} he h=>by
  rcases h with h|⟨id,a1,a2,a3⟩
  .exact .inl h
  .have V2:id≠i:=λe'=>by subst e';rw[a2]at hi;injection hi with hi;subst hi;exact he rfl
   exact .inr ⟨id,a1,a2,aQ.2 ⟨(aQ.1 a3).1,by rw[ab V2];exact(aQ.1 a3).2⟩⟩
 refine⟨λj p h=>?_,by rw[ab h3.symm];exact hJ.no,va,vf,w1,key h1 g1,key h2 g2,g3⟩;by_cases e:j=i
 .subst e;rw[ag]at h;rw[hi];exact h
 .rw[ab e]at h;exact hJ.sub _ _ h
def YY.narrow{l:List Nd}{rs:List Rm}{Z0 U:ad}{iw i:Nat}{s:WS}{o:Ob}(hJ:YY l rs (C' Z0 i o) iw s U)(hi:Z0 i=none)(h3:i≠iw):YY l rs Z0 iw s U:=by
 obtain⟨va,vf,w1,g1,g2,g3⟩:=hJ.row;have hs:aa Z0 (C' Z0 i o):=(aa.refl Z0).az hi;have key:∀{e sz:Nat} {v:V} {rows:List V},ay (bE (C' Z0 i o) iw) U e sz v rows->ay (bE Z0 iw) U e sz v rows:=λ{e sz v rows} h=>by
  rcases h with h|⟨id,a1,a2,a3⟩
  .exact .inl h
  .exact .inr ⟨id,a1,a2,aQ.2 ⟨(aQ.1 a3).1,hs.none (aQ.1 a3).2⟩⟩
 exact⟨hs.trans hJ.sub,hs.none hJ.no,va,vf,w1,key g1,key g2,g3⟩
def jX{U:ad}{e sz id:Nat}{rows:List V}{i:Nat}(h:U id=some ⟨e,sz,rows⟩)(hi:i<rows.length):bO U sz (.own id 0 rows.length) (.int .i64 i)=some (.ptr id i 0):=by
 simp[bO,h,hi]
def eX(a:Nat)(h:Int)(s:WS)(L:List Ln):WS:=L.foldl (λs x=>s.put (fZ a h x)) s
def wP{a:Nat}{h:Int}{s:WS}{L:List Ln}{j:Nat}(hj:j<L.length):eX a h s (L.take (j+1))=(eX a h s (L.take j)).put (fZ a h L[j]):=by
 unfold eX;rw[XH hj,kZ];rfl
def oE(a:Nat)(h:Int):∀(L:List Ln) (s:WS),(eX a h s L).atoms.length=s.atoms.length+L.length
 |[],s=>by simp[eX]
 |x::L,s=>by
  have:=oE a h L (s.put (fZ a h x));simp only[eX,gC]at this|-;rw[this];simp only[WS.put,jm,XU,List.length_nil];omega
def Jz{l:List Nd}{rs:List Rm}(hD:DOk l rs){Z0 U:ad}{iw:Nat}{s:WS}{B:Int}(hJ:YY l rs Z0 iw s U)(hB:Bd s B)(hB1:B<=288230376151711744)(a:Nat)(ha:a<l.length)(hn:s.atoms.length<=100000)(hfn:s.u'.length<=100000)(hwl:l[a].words.length<=10000):
 au prog 131 [.ptr iw 0 0,vI a] U λr Z'=>r=.VG []/\YY l rs Z0 iw (WS.text rs s a l[a]) Z':=by
 obtain⟨va,vf,w1,ha1,hf1,hf2⟩:=hJ.row;obtain⟨ca,sa⟩:=ha1.vc;obtain⟨cf,sf⟩:=hf1.vc;have Wb:=fw hD.isb ha;have hsp:=hD.span ha;obtain⟨har,hrok⟩:=hD.room ha;have VC:=im l ha;unfold WS.text;generalize l[a]=n at*;have hwok:WOk n.words n.space:=⟨by omega,λx hx=>by have:=Wb.words x hx;omega,Wb.space.1,Wb.space.2⟩
 have hm:=hB.m1;have hm0:=hB.m0;have hy0:=hB.y0;have hyB:=hB.yB;have hlb:=Wb.line;refine Sn.q ?_;refine mS 7 ?_;simp only[go_sem,seval,OP,w1,ca,cf,ao,af,aj,al,VC,Nd.cells];refine aA λi4 Z4 s4 a4 f4=>?_;have w4':=s4 _ _ w1;have n4:=aU w1 f4;simp only[go_sem,seval,a4,w4',ab n4,ca,cf,ao,af,aj,al];generalize hq4:C' Z4 i4 _=Y4;have b4:Y4 i4=some ⟨48,20,[.agg (Nd.cells n)]⟩:=by rw[<-hq4];exact ag
 rw[Nd.cells]at b4;have s4':aa U Y4:=by rw[<-hq4];exact s4.az f4
 clear hq4;have w4:=s4' _ _ w1;have hlen:wg Y4 vf (aC s.u'):=(hf1.mono s4').yZ;have hJ4:=hJ.mono s4';refine pJ rfl (Fc s.VD ⟨by omega,by omega⟩ ⟨by omega,by omega⟩) ?_;apply sG;simp only[go_sem,seval];refine Go.zC rfl rfl rfl (λZ8 h8=>B9 (hJ4.mono h8) a har hrok) ?_;apply sG;simp only[go_sem,seval];have hLl:=kL s.u' n.words n.space n.line (fE rs a) n.words.length 0 (s.VD.y+s.VD.m);have hLb:=jo (ws:=n.words) (space:=n.space) (s:=fE rs a) (λf hf=>(hB.fl f hf).yB) hlb.1 n.words.length 0 (s.VD.y+s.VD.m);have B':=λZ8 (h8:aa Y4 Z8)=>(Gm vf s.u' (hlen.mono h8) n.words n.space n.line (s.VD.y+s.VD.m) (fE rs a) (by omega) (hB.flo (by omega)) B (λf hf=>(hB.fl f hf).yB) (by omega) (by omega) (by omega) hlb.1 hlb.2 hsp.bq hwok).Da λ_ _ h=>h.2.pX (v0:=kf (da s.u' n.words n.space n.line (fE rs a) n.words.length 0 (s.VD.y+s.VD.m))) h.1 rfl;generalize da s.u' n.words n.space n.line (fE rs a) n.words.length 0 (s.VD.y+s.VD.m)=L at*;refine Go.zC rfl rfl rfl (λZ8 h8=>B' Z8 h8) ?_;have hnL:dX false (kf L)=some (.int .i64 L.length):=by simp[kf,dX]
 apply sG;simp only[go_sem,seval,hnL];have h0i:Z0 i4=none:=hJ.sub.none f4;have hJw:=hJ4.pf b4 (by simp) (by simp) n4.symm;have WL:((n.words.length:Nat):Int)<=10000:=by omega
 have hmul:n.line*(n.words.length:Int)<=1099511627776*10000:=Int.mul_le_mul hlb.2 WL (by omega) (by omega);refine ai.loop (λm st=>∃j:Nat,j<=L.length/\m=L.length-j/\YY l rs (C' Z0 i4 ⟨48,20,[.agg [vI n.kind,vI n.size,vI n.st.top,vI n.st.V0,vI n.st.VJ,vI n.st.T',vI n.st.Wf,vI n.st.VK,vI n.st.VY,vI n.st.head,vI n.st.before,vI n.st.after,vI n.st.inside,vI n.st.clear,vI n.line,vI n.space,bb n.words,vI n.side,vI n.w,vI n.h]]⟩) iw (eX a n.line s (L.take j)) st.U/\
  st.s 0=.ptr iw 0 0/\st.s 1=vI a/\st.s 4=.ptr i4 0 0/\st.s 33=kf L/\st.s 34=vI L.length/\st.s 35=vI j) L.length ?_ ?_
 .exact⟨0,by omega,rfl,hJw,rfl,rfl,rfl,rfl,rfl,rfl⟩
 .rintro m ⟨S,J⟩ ⟨j,hj,rfl,Yj,t0,t1,t4,t33,t34,t35⟩;simp only at Yj t0 t1 t4 t33 t34 t35;refine ai.mix 7 ?_;have c4:=Yj.sub _ _ (ag (id:=i4));by_cases B':j<L.length
  .have q:=qT B';have WG:∀U,bO U 5 (kf L) (.int .i64 j)=some (.rp (ji L[j])):=λU=>by simp[kf,bO,B']
   have V9:=wP (a:=a) (h:=n.line) (s:=s) B';have V1:=hLb L[j] (Ws B');have YX:=oE a n.line (L.take j) s;rw[jN]at YX;generalize L[j]=x at*;have hen:ji x=.agg [vI x.fr,vI x.to,vI x.x,vI x.y,vI x.w]:=rfl;apply sR;simp only[go_sem,seval,t0,t1,t4,t33,t34,t35,q,WG,hen];refine aA λi6 Z6 s6 a6 f6=>?_;have d4:=s6 _ _ c4;have n46:=aU c4 f6;simp only[go_sem,seval,a6,d4,t0,t1,t4,ab n46,aj];refine Xv rfl (GF (Yj.mono (s6.az f6)) (fZ a n.line x) (show Bq x.y from⟨by omega,by omega⟩) (show Bq n.line from⟨by omega,by omega⟩) (by omega)) ?_;rintro r Z' ⟨rfl,Yv⟩;have r1:=rI j;apply sR;simp only[go_sem,seval,t0,t1,t4,t33,t34,t35,r1];exact⟨_,by omega,j+1,by omega,rfl,by rw[V9];exact Yv,by simp[t0,t1,t4,t33,t34]⟩
  .have q:=qF B';rw[nq (by omega)]at Yj;apply sR;simp only[go_sem,seval,t0,t1,t4,t33,t34,t35,q];exact WZ ⟨rfl,Yj.narrow h0i n4.symm⟩
def nd0:Nd:=⟨0,0,Xh.zero,0,0,[],0,0,0⟩
def Wu(l:List Nd)(a:Nat):Nd:=l.getD a nd0
def jT{l:List Nd}{a:Nat}(h:a<l.length):Wu l a=l[a]:=by simp[Wu,h]
def dt(l:List Nd)(rs:List Rm):Nat->Nat->Nat->WS->WS
 |0,_,_,s=>s
 |k+1,a,e,s=>if a<e then dt l rs k (a+(VM l a).toNat) e
   (if(Wu l a).kind=1 then(dt l rs k (a+1) (a+(VM l a).toNat) (s.enter (Wu l a).st)).leave (Wu l a).st
    else if(Wu l a).kind=2 then s.text rs a (Wu l a)else if(Wu l a).kind=3 then WS.mono l rs s a (Wu l a)else s.float rs a (Wu l a))else s
def oC{l:List Nd}{rs:List Rm}{e:Nat}(he:e<=l.length):∀(k j a:Nat) (s:WS),e-a<=k->e-a<=j->bS l a e=true->dt l rs k a e s=dt l rs j a e s
 |0,0,_,_,_,_,_=>rfl
 |0,j+1,a,s,h,_,_=>by rw[dt,dt,aD (by omega)]
 |k+1,0,a,s,_,h,_=>by rw[dt,dt,aD (by omega)]
 |k+1,j+1,a,s,h,h',hr=>by
  rw[dt,dt];by_cases B':a<e
  .obtain⟨h1,h2⟩:=cA he hr (Wa a) B';obtain⟨h3,h4⟩:=df he hr B';rw[av B',av B',oC (e:=a+(VM l a).toNat) (by omega) k j _ _ (by omega) (by omega) h4,oC he k j _ _ (by omega) (by omega) h3]
  .rw[aD B',aD B']
def Wy(l:List Nd)(a e:Nat):Nat:=(((l.take e).drop a).map λn=>4+n.words.length).sum
def uE(l:List Nd)(a:Nat):Wy l a a=0:=by unfold Wy;rw[List.drop_of_length_le (by rw[jN];omega)];rfl
def eR{l:List Nd}{a m e:Nat}(h1:a<=m)(h2:m<=e)(h3:e<=l.length):Wy l a e=Wy l a m+Wy l m e:=by
 unfold Wy;rw[<-List.sum_append_nat,<-dG];congr 2;have e1:l.take m=(l.take e).take m:=by rw[List.take_take,Nat.min_eq_left h2]
 rw[e1]
 conv=>lhs;rw[<-ua m (l.take e)]
 rw[C4 (by rw[jN,jN];omega)]
def Ll{l:List Nd}{a:Nat}(h:a<l.length):Wy l a (a+1)=4+l[a].words.length:=by
 unfold Wy;rw[XH h,C4 (by rw[jN];omega),List.drop_of_length_le (by rw[jN];omega)];simp
def nU{l:List Nd}{a e:Nat}(h1:a<e)(h3:e<=l.length):Wy l a e=4+(Wu l a).words.length+Wy l (a+1) e:=by
 rw[eR (Nat.le_succ a) h1 h3,Ll (by omega),jT (by omega)]
structure gd(s:WS)(C:Nat):Prop where
 bd:Bd s (1099511627776*(C:Int))
 V3:s.atoms.length<=C
 fl:s.u'.length<=C
def gd.more{s:WS}{C D:Nat}(h:gd s C)(hD:C<=D):gd s D:=⟨h.bd.mono (by omega),j2 h.V3 hD,j2 h.fl hD⟩
def mc{l:List Nd}{rs:List Rm}{s:WS}{C:Nat}(h:gd s C){n:Nd}(hn:NOk n)(a:Nat):gd (WS.mono l rs s a n) (C+1):=by
 obtain⟨⟨hf,h1,h2,h3,h4⟩,h5,h6⟩:=h;have hyr:=fe (w:=n.w) (high:=n.h) (y:=s.VD.y+s.VD.m) (s:=fE rs a) (λf hf'=>(hf f hf').yB);have hh:=hn.h;refine⟨⟨λf hf'=>(hf f hf').mono (by omega),?_,?_,?_,?_⟩,?_,?_⟩<;>simp only[WS.mono,WS.put,jm,XU,List.length_nil]<;>omega
def kJ{l:List Nd}{rs:List Rm}(hD:DOk l rs){s:WS}{C:Nat}(h:gd s C){a:Nat}(ha:a<l.length){n:Nd}(hn:NOk n)(hk:n.kind=4):gd (s.float rs a n) (C+1):=by
 obtain⟨⟨hf,h1,h2,h3,h4⟩,h5,h6⟩:=h;have hb:=hn.box (.inr hk);have hw:=hn.w;have hh:=hn.h;refine⟨⟨λf hf'=>?_,h1,h2,h3,by simp only[WS.float];omega⟩,by simp only[WS.float];omega,by simp only[WS.float,nt,jm,XU,List.length_nil];omega⟩;exact(JK (f:=⟨a,n.side,s.atoms.length,0,0,n.w,n.h⟩) hf (hD.span ha) (by omega) (by omega) (by simp only;omega) (by simp only;omega) (by simp only;omega) (by simp only;omega) f hf').mono (by omega)
def l7{rs:List Rm}{s:WS}{C:Nat}(h:gd s C){n:Nd}(hn:NOk n)(a:Nat):gd (s.text rs a n) (C+n.words.length):=by
 obtain⟨⟨hf,h1,h2,h3,h4⟩,h5,h6⟩:=h;have hl:=hn.line;unfold WS.text;have hLl:=kL s.u' n.words n.space n.line (fE rs a) n.words.length 0 (s.VD.y+s.VD.m);have hLb:=jo (ws:=n.words) (space:=n.space) (s:=fE rs a) (λf hf'=>(hf f hf').yB) hl.1 n.words.length 0 (s.VD.y+s.VD.m);generalize da s.u' n.words n.space n.line (fE rs a) n.words.length 0 (s.VD.y+s.VD.m)=L at*;have hmul:n.line*(n.words.length:Int)<=1099511627776*(n.words.length:Int):=Int.mul_le_mul_of_nonneg_right hl.2 (by omega);have hm0:0<=n.line*(n.words.length:Int):=Int.mul_nonneg hl.1 (by omega);have key:∀(L:List Ln) (t:WS),(∀x∈L,s.VD.y+s.VD.m<=x.y/\x.y+n.line<=max (s.VD.y+s.VD.m) (1099511627776*(C:Int))+n.line*(n.words.length:Int))->t.u'=s.u'->0<=t.VD.y->0<=t.VD.m->t.VD.m<=1099511627776->
  t.VD.y+t.VD.m<=1099511627776*((C+n.words.length:Nat):Int)->(eX a n.line t L).u'=s.u'/\0<=(eX a n.line t L).VD.y/\0<=(eX a n.line t L).VD.m/\(eX a n.line t L).VD.m<=1099511627776/\(eX a n.line t L).VD.y+(eX a n.line t L).VD.m<=1099511627776*((C+n.words.length:Nat):Int):=by
  intro L
  induction L with
  |nil=>intro t _ g1 g2 g3 g4 g5;exact⟨g1,g2,g3,g4,g5⟩
  |cons x L ih=>
   intro t hx g1 g2 g3 g4 g5;have hx0:=hx x (by simp);exact ih (t.put (fZ a n.line x)) (λy hy=>hx y (by simp[hy])) g1 (by simp only[WS.put,fZ];omega) (by simp[WS.put]) (by simp[WS.put]) (by simp only[WS.put,fZ];omega)
 obtain⟨k1,k2,k3,k4,k5⟩:=key L s hLb rfl h1 h2 h3 (by omega);have YX:=oE a n.line L s;refine⟨⟨λf hf'=>(hf f ?_).mono (by omega),k2,k3,k4,k5⟩,?_,?_⟩
 .have:f∈(eX a n.line s L).u':=hf';rw[k1]at this;exact this
 .show(eX a n.line s L).atoms.length<=_;omega
 .show(eX a n.line s L).u'.length<=_;rw[k1];omega
def gg{s:WS}{C:Nat}(h:gd s C){t:Xh}(ht:SOk t):gd (s.enter t) (C+2):=⟨(h.bd.enter ht).mono (by omega),by have:=h.V3;simp only[WS.enter];omega,by have:=h.fl;simp only[WS.enter];omega⟩
def kN{s:WS}{C:Nat}(h:gd s C){t:Xh}(ht:SOk t):gd (s.leave t) (C+2):=⟨(h.bd.leave ht).mono (by omega),by have:=h.V3;simp only[WS.leave];omega,by have:=h.fl;simp only[WS.leave];omega⟩
def iN{l:List Nd}{rs:List Rm}(hD:DOk l rs):∀(k a e:Nat) (s:WS) (C:Nat),e-a<=k->a<=e->e<=l.length->bS l a e=true->gd s C->gd (dt l rs k a e s) (C+Wy l a e)
 |0,a,e,s,C,_,hae,_,_,h=>h.more (Nat.le_add_right _ _)
 |k+1,a,e,s,C,hk,hae,he,hr,h=>by
  rw[dt];by_cases B':a<e
  .rw[av B'];obtain⟨h1,h2⟩:=cA he hr (Wa a) B';obtain⟨h3,h4⟩:=df he hr B';have Wb:NOk (Wu l a):=by rw[jT (by omega)];exact fw hD.isb (by omega)
   have hc1:Wy l a e=Wy l a (a+(VM l a).toNat)+Wy l (a+(VM l a).toNat) e:=eR (by omega) (by omega) he;have hc2:Wy l a (a+(VM l a).toNat)=4+(Wu l a).words.length+Wy l (a+1) (a+(VM l a).toNat):=nU (by omega) (by omega);have step:∀t,gd t (C+Wy l a (a+(VM l a).toNat))->gd (dt l rs k (a+(VM l a).toNat) e t) (C+Wy l a e):=λt ht=>by
    rw[hc1,<-Nat.add_assoc];exact iN hD k _ e t _ (by omega) (by omega) he h3 ht
   refine step _ ?_;rw[hc2];split
   .have:=kN (iN hD k (a+1) (a+(VM l a).toNat) _ _ (by omega) (by omega) (by omega) h4 (gg h Wb.st)) Wb.st;exact this.more (by omega)
   .split
    .exact(l7 h Wb a).more (by omega)
    .split
     .exact(mc h Wb a).more (by omega)
     .rename_i g1 g2 g3;have hk4:(Wu l a).kind=4:=by have:=Wb.kind;omega
      exact(kJ hD h (by omega) Wb hk4).more (by omega)
  .rw[aD B'];exact h.more (Nat.le_add_right _ _)
open Go.Proofs
def RC(l:List Nd)(rs:List Rm)(iw:Nat)(a e:Nat)(C:Nat):Prop:=
 ∀(s:WS) (Z0 U:ad),YY l rs Z0 iw s U->gd s C->au prog 84 [.ptr iw 0 0,vI a,vI e] U λr Z'=>r=.VG []/\YY l rs Z0 iw (dt l rs (e-a) a e s) Z'
def YY.Ij{l:List Nd}{rs:List Rm}{Z0 J:ad}{iw:Nat}{s:WS}(hJ:YY l rs Z0 iw s J){va vf:V}{y m:Int}(w:J iw=some ⟨155,7,[.agg [va,vf,vI s.VA,vI y,vI m,aF l,cZ rs]]⟩)(p:Pn):
 YY l rs Z0 iw { s with VD:=p } (C' J iw ⟨155,7,[.agg [va,vf,vI s.VA,vI p.y,vI p.m,aF l,cZ rs]]⟩):=by
 obtain⟨va',vf',w',g1,g2,g3⟩:=hJ.row;rw[w]at w';simp only[aS,Ob.mk.injEq,List.cons.injEq,V.agg.injEq,true_and,and_true]at w';obtain⟨rfl,rfl,_⟩:=w';exact⟨hJ.sub.az hJ.no,hJ.no,va,vf,ag,g1.Dt,g2.Dt,g3⟩
def kR(s:Xh):V:=.agg [vI s.top,vI s.V0,vI s.VJ,vI s.T',vI s.Wf,vI s.VK,vI s.VY,vI s.head,vI s.before,vI s.after,vI s.inside,vI s.clear]
def HX{l:List Nd}{rs:List Rm}(hD:DOk l rs){Z0 U:ad}{iw:Nat}{s:WS}{C:Nat}(hJ:YY l rs Z0 iw s U)(hI:gd s C)(hC:C<=50000)(a:Nat)(ha:a<l.length)(WI:RC l rs iw (a+1) (a+(VM l a).toNat) (C+2))(hC2:C+2+Wy l (a+1) (a+(VM l a).toNat)<=50000)
 (Xr:a+(VM l a).toNat<=l.length)(hrB:bS l (a+1) (a+(VM l a).toNat)=true)(W9:1<=VM l a):
 au prog 130 [.ptr iw 0 0,vI a] U λr Z'=>r=.VG []/\YY l rs Z0 iw ((dt l rs (a+(VM l a).toNat-(a+1)) (a+1) (a+(VM l a).toNat) (s.enter l[a].st)).leave l[a].st) Z':=by
 obtain⟨va,vf,w1,ha1,hf1,hf2⟩:=hJ.row;obtain⟨ca,sa⟩:=ha1.vc;obtain⟨cf,sf⟩:=hf1.vc;have Wb:=fw hD.isb ha;have VC:=im l ha;have hszn:=iB ha;have hfine:=hD.qs;have q3:((a:Int)+l[a].size)=((a+(VM l a).toNat:Nat):Int):=by rw[hszn];omega
 have q2:((a:Int)+1)=((a+1:Nat):Int):=by omega
 have hB:=hI.bd;have hm:=hB.m1;have hm0:=hB.m0;have hy0:=hB.y0;have hyB:=hB.yB;have YG:=hI.fl;refine TV.q ?_;refine mS 7 ?_;simp only[go_sem,seval,Ol,w1,ca,cf,ao,af,aj,al,VC,Nd.cells];refine aA λi4 Z4 s4 a4 f4=>?_;have w4':=s4 _ _ w1;have n4:=aU w1 f4;simp only[go_sem,seval,a4,w4',ab n4,ca,cf,ao,af,aj,al];generalize hq4:C' Z4 i4 _=Y4;have b4:Y4 i4=some ⟨45,12,[kR l[a].st]⟩:=by rw[<-hq4];exact ag
 have s4':aa U Y4:=by rw[<-hq4];exact s4.az f4
 clear hq4;have w4:=s4' _ _ w1;have hlen:wg Y4 vf (aC s.u'):=(hf1.mono s4').yZ;have h0i:Z0 i4=none:=hJ.sub.none f4;have hJ4:=(hJ.mono s4').pf b4 (by simp) (by simp) n4.symm;refine Go.zC rfl rfl rfl (λZ8 h8=>aL.ue (args':=[aC s.u',vI l[a].st.clear]) ⟨(hlen.mono h8).at,YH _,trivial⟩ (Bi s.u' l[a].st.clear (by omega) (hB.flo (by omega))) rfl) ?_;apply sG;simp only[go_sem,seval];obtain⟨s1,YI⟩:∃x,x=s.enter l[a].st:=⟨_,rfl⟩
 have hI1:=gg hI Wb.st;rw[<-YI]at hI1|-;unfold WS.enter at YI;simp only at YI;cases hlow:(cH (fX l[a].st.clear) s.u').2
 .rw[hlow]at YI;simp only[gi,↓reduceIte]at YI;simp only[go_sem,seval,cp];obtain⟨p,hp⟩:∃p:Pn,p=s.VD:=⟨_,rfl⟩
  have Zp:s1={ s with VD:=dQ p l[a].st.top l[a].st.VJ }:=by rw[YI,hp]
  have hJ5:YY l rs (C' Z0 i4 ⟨45,12,[kR l[a].st]⟩) iw { s with VD:=p } Y4:=by rw[hp];exact hJ4
  have w5:Y4 iw=some ⟨155,7,[.agg [va,vf,vI s.VA,vI p.y,vI p.m,aF l,cZ rs]]⟩:=by rw[hp];exact w4
  have b5:=b4;obtain⟨YB,hp2,hp3,hp4⟩:0<=p.y/\0<=p.m/\p.m<=1099511627776/\p.y+p.m<=1099511627776*(C:Int):=by rw[hp];exact⟨hy0,hm0,hm,hyB⟩
  clear hp;generalize Y4=Y5 at*;rw[kR]at b5;have VP:=Wb.st;have k1:=VP.top;have k2:=VP.VJ;have k3:=VP.V0;have k4:=VP.T';refine ai.rY (by kernel_rfl) [0,1,2,3,4,5,6,7,8,9,10,11,12] [[],[],[1],[1,2],[1,2,3],[],[5],[],[7],[1,2,3,4,5,6,7,8],[0,1,2,3,4,5,6,7,8,9],[0,1,2,3,4,5,6,7,8,9,10],[0,1,2,3,4,5,6,7,8,9,10,11]] [0,2,4,6,8,10,12,14,16,18,20,22,24] (by kernel_rfl) (by kernel_rfl) ?_;refine cd (n:=0) [18,20,22,24] [0,2,4,6,8,10,12,14,16] [_,_,_,_,_,_,_,_,_] rfl rfl ?_;simp only[go_sem,seval,w5,b5,ca,cf,ao,af];refine reP rfl (EP p l[a].st.top l[a].st.VJ ⟨by omega,by omega⟩ ⟨by omega,by omega⟩ ⟨by omega,by omega⟩ ⟨by omega,by omega⟩ _) ?_;refine cd (n:=0) [] [20,22,24] [_,_,_] rfl rfl ?_;simp only[go_sem,seval,w5,dC,ca,cf,ao,af];have hJ6:=hJ5.Ij w5 (dQ p l[a].st.top l[a].st.VJ);rw[<-Zp]at hJ6;have r1:=rI a;have r2:VO .i64 ((a:Int)+l[a].size):=ae;have w6:=ag (U:=Y5) (id:=iw) (o:=⟨155,7,[.agg [va,vf,vI s.VA,vI (dQ p l[a].st.top l[a].st.VJ).y,vI (dQ p l[a].st.top l[a].st.VJ).m,aF l,cZ rs]]⟩);have hc:=WI s1 _ _ hJ6 hI1;rw[<-q2,<-q3]at hc;generalize C' Y5 iw ⟨155,7,[.agg [va,vf,vI s.VA,vI (dQ p l[a].st.top l[a].st.VJ).y,vI (dQ p l[a].st.top l[a].st.VJ).m,aF l,cZ rs]]⟩=Y6 at*;apply sR;simp only[go_sem,seval,w6,VC,Nd.cells,r1,r2,ca,cf,ao,af,aj];refine Xv rfl hc ?_;rintro r Z7 ⟨rfl,hJ7⟩;have hI7:=iN hD (a+(VM l a).toNat-(a+1)) (a+1) (a+(VM l a).toNat) s1 _ (Wa _) (by omega) Xr hrB hI1;have b7:=hJ7.sub _ _ (ag (id:=i4));rw[kR]at b7;generalize dt l rs (a+(VM l a).toNat-(a+1)) (a+1) (a+(VM l a).toNat) s1=s2 at*;obtain⟨va7,vf7,w7,g71,g72,_⟩:=hJ7.row;obtain⟨ca7,_⟩:=g71.vc;obtain⟨cf7,_⟩:=g72.vc;have m1:=hI7.bd.m1;have m2:=hI7.bd.m0;have m3:=hI7.bd.y0;have m4:=hI7.bd.yB;apply sR;simp only[go_sem,seval,cp];refine ai.rY (by kernel_rfl) [0,1,2,3,4,5,6,7,8,9,10,11,12] [[],[],[1],[1,2],[1,2,3],[],[5],[],[7],[1,2,3,4,5,6,7,8],[0,1,2,3,4,5,6,7,8,9],[0,1,2,3,4,5,6,7,8,9,10],[0,1,2,3,4,5,6,7,8,9,10,11]] [0,2,4,6,8,10,12,14,16,18,20,22,24] (by kernel_rfl) (by kernel_rfl) ?_;refine cd (n:=0) [18,20,22,24] [0,2,4,6,8,10,12,14,16] [_,_,_,_,_,_,_,_,_] rfl rfl ?_;simp only[go_sem,seval,w7,b7,ca7,cf7,ao,af];refine reP rfl (Eo s2.VD l[a].st.V0 l[a].st.T' ⟨by omega,by omega⟩ ⟨by omega,by omega⟩ ⟨by omega,by omega⟩ ⟨by omega,by omega⟩ _) ?_;refine cd (n:=0) [] [20,22,24] [_,_,_] rfl rfl ?_;simp only[go_sem,seval,w7,dC,ca7,cf7,ao,af];apply sR;simp only[go_sem,seval];exact WZ ⟨rfl,(hJ7.Ij w7 (kz s2.VD l[a].st.V0 l[a].st.T')).narrow h0i n4.symm⟩
 .rw[hlow]at YI;simp only[↓reduceIte]at YI;obtain⟨f,hfm,e1,_⟩:=kI hlow;have e2:(fX l[a].st.clear f).1=f.y+f.h:=rfl;have ZI:=hB.fl f hfm;generalize (cH (fX l[a].st.clear) s.u').1=low at*;simp only[go_sem,seval,w4,ca,cf,ao,af];refine pS rfl (Hr s.VD low ⟨by omega,by omega⟩ ⟨by omega,by omega⟩ _) ?_;simp only[go_sem,seval,w4,dC,ca,cf,ao,af,cp];obtain⟨p,hp⟩:∃p:Pn,p=eV s.VD low:=⟨_,rfl⟩
  rw[<-hp]at YI|-;have Zp:=YI;have hJ5:=hJ4.Ij w4 p;have w5:=ag (U:=Y4) (id:=iw) (o:=⟨155,7,[.agg [va,vf,vI s.VA,vI p.y,vI p.m,aF l,cZ rs]]⟩);have b5:C' Y4 iw ⟨155,7,[.agg [va,vf,vI s.VA,vI p.y,vI p.m,aF l,cZ rs]]⟩ i4=some ⟨45,12,[kR l[a].st]⟩:=by rw[ab n4.symm];exact b4
  obtain⟨YB,hp2,hp3,hp4⟩:0<=p.y/\0<=p.m/\p.m<=1099511627776/\p.y+p.m<=1099511627776*(C:Int):=by
   rw[hp];have hy:=ZI.yB;have hy0:=ZI.y0;have hh0:=ZI.h0;unfold eV;split<;>(try simp only)<;>omega
  clear hp;generalize C' Y4 iw ⟨155,7,[.agg [va,vf,vI s.VA,vI p.y,vI p.m,aF l,cZ rs]]⟩=Y5 at*;rw[kR]at b5;have VP:=Wb.st;have k1:=VP.top;have k2:=VP.VJ;have k3:=VP.V0;have k4:=VP.T';refine ai.rY (by kernel_rfl) [0,1,2,3,4,5,6,7,8,9,10,11,12] [[],[],[1],[1,2],[1,2,3],[],[5],[],[7],[1,2,3,4,5,6,7,8],[0,1,2,3,4,5,6,7,8,9],[0,1,2,3,4,5,6,7,8,9,10],[0,1,2,3,4,5,6,7,8,9,10,11]] [0,2,4,6,8,10,12,14,16,18,20,22,24] (by kernel_rfl) (by kernel_rfl) ?_;refine cd (n:=0) [18,20,22,24] [0,2,4,6,8,10,12,14,16] [_,_,_,_,_,_,_,_,_] rfl rfl ?_;simp only[go_sem,seval,w5,b5,ca,cf,ao,af];refine reP rfl (EP p l[a].st.top l[a].st.VJ ⟨by omega,by omega⟩ ⟨by omega,by omega⟩ ⟨by omega,by omega⟩ ⟨by omega,by omega⟩ _) ?_;refine cd (n:=0) [] [20,22,24] [_,_,_] rfl rfl ?_;simp only[go_sem,seval,w5,dC,ca,cf,ao,af];have hJ6:=hJ5.Ij w5 (dQ p l[a].st.top l[a].st.VJ);rw[<-Zp]at hJ6;have r1:=rI a;have r2:VO .i64 ((a:Int)+l[a].size):=ae;have w6:=ag (U:=Y5) (id:=iw) (o:=⟨155,7,[.agg [va,vf,vI s.VA,vI (dQ p l[a].st.top l[a].st.VJ).y,vI (dQ p l[a].st.top l[a].st.VJ).m,aF l,cZ rs]]⟩);have hc:=WI s1 _ _ hJ6 hI1;rw[<-q2,<-q3]at hc;generalize C' Y5 iw ⟨155,7,[.agg [va,vf,vI s.VA,vI (dQ p l[a].st.top l[a].st.VJ).y,vI (dQ p l[a].st.top l[a].st.VJ).m,aF l,cZ rs]]⟩=Y6 at*;apply sR;simp only[go_sem,seval,w6,VC,Nd.cells,r1,r2,ca,cf,ao,af,aj];refine Xv rfl hc ?_;rintro r Z7 ⟨rfl,hJ7⟩;have hI7:=iN hD (a+(VM l a).toNat-(a+1)) (a+1) (a+(VM l a).toNat) s1 _ (Wa _) (by omega) Xr hrB hI1;have b7:=hJ7.sub _ _ (ag (id:=i4));rw[kR]at b7;generalize dt l rs (a+(VM l a).toNat-(a+1)) (a+1) (a+(VM l a).toNat) s1=s2 at*;obtain⟨va7,vf7,w7,g71,g72,_⟩:=hJ7.row;obtain⟨ca7,_⟩:=g71.vc;obtain⟨cf7,_⟩:=g72.vc;have m1:=hI7.bd.m1;have m2:=hI7.bd.m0;have m3:=hI7.bd.y0;have m4:=hI7.bd.yB;apply sR;simp only[go_sem,seval,cp];refine ai.rY (by kernel_rfl) [0,1,2,3,4,5,6,7,8,9,10,11,12] [[],[],[1],[1,2],[1,2,3],[],[5],[],[7],[1,2,3,4,5,6,7,8],[0,1,2,3,4,5,6,7,8,9],[0,1,2,3,4,5,6,7,8,9,10],[0,1,2,3,4,5,6,7,8,9,10,11]] [0,2,4,6,8,10,12,14,16,18,20,22,24] (by kernel_rfl) (by kernel_rfl) ?_;refine cd (n:=0) [18,20,22,24] [0,2,4,6,8,10,12,14,16] [_,_,_,_,_,_,_,_,_] rfl rfl ?_;simp only[go_sem,seval,w7,b7,ca7,cf7,ao,af];refine reP rfl (Eo s2.VD l[a].st.V0 l[a].st.T' ⟨by omega,by omega⟩ ⟨by omega,by omega⟩ ⟨by omega,by omega⟩ ⟨by omega,by omega⟩ _) ?_;refine cd (n:=0) [] [20,22,24] [_,_,_] rfl rfl ?_;simp only[go_sem,seval,w7,dC,ca7,cf7,ao,af];apply sR;simp only[go_sem,seval];exact WZ ⟨rfl,(hJ7.Ij w7 (kz s2.VD l[a].st.V0 l[a].st.T')).narrow h0i n4.symm⟩
open Go.Proofs
def yD{l:List Nd}{rs:List Rm}{b e:Nat}(he:e<=l.length)(hr:bS l b e=true)(B':b<e)(s:WS):
 dt l rs (e-b) b e s=dt l rs (e-(b+(VM l b).toNat)) (b+(VM l b).toNat) e
  (if(Wu l b).kind=1 then(dt l rs (b+(VM l b).toNat-(b+1)) (b+1) (b+(VM l b).toNat) (s.enter (Wu l b).st)).leave (Wu l b).st
   else if(Wu l b).kind=2 then s.text rs b (Wu l b)else if(Wu l b).kind=3 then WS.mono l rs s b (Wu l b)else s.float rs b (Wu l b)):=by
 obtain⟨h1,h2⟩:=cA he hr (Wa b) B';obtain⟨h3,h4⟩:=df he hr B';rw[show e-b=(e-b-1)+1 by omega,dt,av B',oC (e:=b+(VM l b).toNat) (by omega) (e-b-1) _ _ _ (by omega) (Wa _) h4,oC he (e-b-1) _ _ _ (by omega) (Wa _) h3]
def MQ{l:List Nd}{rs:List Rm}(hD:DOk l rs)(hwl:∀n∈l,n.words.length<=10000){iw:Nat}:∀(m a e C:Nat),e-a<m->a<=e->e<=l.length->bS l a e=true->C+Wy l a e<=50000->RC l rs iw a e C:=by
 intro m
 induction m with
 |zero=>intro a e C h;omega
 |succ m ih=>?_
 intro a e C hm hae he hrB hC s Z0 U hJ hI;have hfine:=hD.qs;refine e84.q ?_;refine ai.mix 7 ?_;obtain⟨va0,vf0,w0,_,_,_⟩:=hJ.row;have hb1:∀f:FuncId,(V.bm f [.ptr iw 0 0]).cells=[.bm f [.ptr iw 0 0]]:=λ_=>rfl;have V1:∀f:FuncId,(V.bm f [.ptr iw 0 0]).stays=true:=λ_=>rfl;have hnf:V.WT.cells=[.WT]:=rfl;apply sR;simp only[go_sem,seval,c84,hb1,V1,hnf];refine aA λi6 Z6 s6 a6 f6=>?_;have n6:=aU w0 f6;simp only[go_sem,seval,a6,hb1,V1,hnf];generalize hq6:C' Z6 i6 _=Y6;have b6:Y6 i6=some ⟨209,5,[.agg [.WT,.bm 130 [.ptr iw 0 0],.bm 131 [.ptr iw 0 0],.bm 132 [.ptr iw 0 0],.bm 133 [.ptr iw 0 0]]]⟩:=by rw[<-hq6];exact ag
 have s6':aa U Y6:=by rw[<-hq6];exact s6.az f6
 clear hq6;have h0i:Z0 i6=none:=hJ.sub.none f6;have hJ6:=(hJ.mono s6').pf b6 (by simp) (by simp) n6.symm;refine ai.loop (λq st=>∃(b:Nat) (s':WS),q=e-b/\a<=b/\b<=e/\bS l b e=true/\dt l rs (e-a) a e s=dt l rs (e-b) b e s'/\gd s' (C+Wy l a b)/\
  YY l rs (C' Z0 i6 ⟨209,5,[.agg [.WT,.bm 130 [.ptr iw 0 0],.bm 131 [.ptr iw 0 0],.bm 132 [.ptr iw 0 0],.bm 133 [.ptr iw 0 0]]]⟩) iw s' st.U/\
  st.s 0=.ptr iw 0 0/\st.s 1=vI b/\st.s 2=vI e/\st.s 6=.ptr i6 0 0) (e-a) ?_ ?_
 .exact⟨a,s,rfl,Wa _,hae,hrB,rfl,by rw[uE];exact hI,hJ6,rfl,rfl,rfl,rfl⟩
 .rintro q ⟨S,J⟩ ⟨b,s',rfl,Zs,hbe,hbB,heq,Zh,hJb,t0,t1,t2,t6⟩;simp only at hJb t0 t1 t2 t6;refine ai.mix 7 ?_;by_cases B':b<e
  .have q1:((b:Int)<(e:Int))=True:=L';obtain⟨h1,h2⟩:=cA he hbB (Wa b) B';obtain⟨h3,h4⟩:=df he hbB B';have WX:b<l.length:=by omega
   have Wb:=fw hD.isb WX;have Xr:=iB WX;have VC:=im l WX;have hc1:Wy l a e=Wy l a b+Wy l b e:=eR Zs hbe he;have hc2:Wy l b e=Wy l b (b+(VM l b).toNat)+Wy l (b+(VM l b).toNat) e:=eR (by omega) (by omega) he;have Yz:Wy l b (b+(VM l b).toNat)=4+(Wu l b).words.length+Wy l (b+1) (b+(VM l b).toNat):=nU (by omega) (by omega);have hc4:Wy l a (b+(VM l b).toNat)=Wy l a b+Wy l b (b+(VM l b).toNat):=eR Zs (by omega) (by omega);have WQ:=jT WX;have q3:((b:Int)+l[b].size)=((b+(VM l b).toNat:Nat):Int):=by rw[Xr];omega
   have r2:VO .i64 ((b:Int)+l[b].size):=ae;have VP:=yD (rs:=rs) he hbB B' s';rw[WQ]at VP Yz;have c6:=hJb.sub _ _ (ag (id:=i6));obtain⟨va,vf,w1,g1,g2,_⟩:=hJb.row;obtain⟨ca,_⟩:=g1.vc;obtain⟨cf,_⟩:=g2.vc;have hBb:=Zh.bd.mono (C:=288230376151711744) (by omega);have Xj:∀s2,s2=(if l[b].kind=1 then(dt l rs (b+(VM l b).toNat-(b+1)) (b+1) (b+(VM l b).toNat) (s'.enter l[b].st)).leave l[b].st
    else if l[b].kind=2 then s'.text rs b l[b]else if l[b].kind=3 then WS.mono l rs s' b l[b]else s'.float rs b l[b])->gd s2 (C+Wy l a (b+(VM l b).toNat)):=by
     rintro s2 rfl;rw[hc4,Yz];split
     .exact(kN (iN hD _ (b+1) (b+(VM l b).toNat) _ _ (Wa _) (by omega) (by omega) h4 (gg Zh Wb.st)) Wb.st).more (by omega)
     .split
      .exact(l7 Zh Wb b).more (by omega)
      .split
       .exact(mc Zh Wb b).more (by omega)
       .rename_i g1 g2 g3;exact(kJ hD Zh WX Wb (by have:=Wb.kind;omega)).more (by omega)
   rcases Wb.kind with hk|hk|hk|hk
   .apply sR;simp only[go_sem,seval,q1,t0,t1,t2,t6,w1,c6,VC,Nd.cells,hk,ca,cf,hb1,V1,hnf,ao,af,aj];refine ai.lZ rfl rfl rfl (HX hD hJb Zh (by omega) b WX (ih (b+1) (b+(VM l b).toNat) _ (by omega) (by omega) (by omega) h4 (by omega)) (by omega) (by omega) h4 h2) ?_;rintro r Z' ⟨rfl,Yv⟩;have w2':=Yv.row;obtain⟨va2,vf2,w2,g12,g22,_⟩:=w2';obtain⟨ca2,_⟩:=g12.vc;obtain⟨cf2,_⟩:=g22.vc;apply sR;simp only[go_sem,seval,t0,t1,t2,t6,w2,VC,Nd.cells,r2,ca2,cf2,ao,af,aj];refine⟨_,?_,b+(VM l b).toNat,_,rfl,by omega,by omega,h3,by rw[heq,VP],Xj _ rfl,?_,by simp[t0,t2,t6,q3]⟩
    .omega
    .simpa[hk]using Yv
   .apply sR;simp only[go_sem,seval,q1,t0,t1,t2,t6,w1,c6,VC,Nd.cells,hk,ca,cf,hb1,V1,hnf,ao,af,aj];refine ai.lZ rfl rfl rfl (Jz hD hJb hBb (by omega) b WX (by have:=Zh.V3;omega) (by have:=Zh.fl;omega) (hwl _ (Ws WX))) ?_;rintro r Z' ⟨rfl,Yv⟩;have w2':=Yv.row;obtain⟨va2,vf2,w2,g12,g22,_⟩:=w2';obtain⟨ca2,_⟩:=g12.vc;obtain⟨cf2,_⟩:=g22.vc;apply sR;simp only[go_sem,seval,t0,t1,t2,t6,w2,VC,Nd.cells,r2,ca2,cf2,ao,af,aj];refine⟨_,?_,b+(VM l b).toNat,_,rfl,by omega,by omega,h3,by rw[heq,VP],Xj _ rfl,?_,by simp[t0,t2,t6,q3]⟩
    .omega
    .simpa[hk]using Yv
   .apply sR;simp only[go_sem,seval,q1,t0,t1,t2,t6,w1,c6,VC,Nd.cells,hk,ca,cf,hb1,V1,hnf,ao,af,aj];refine ai.lZ rfl rfl rfl (LA hD hJb hBb (by omega) b WX hk (by have:=Zh.V3;omega) (by have:=Zh.fl;omega)) ?_;rintro r Z' ⟨rfl,Yv⟩;have w2':=Yv.row;obtain⟨va2,vf2,w2,g12,g22,_⟩:=w2';obtain⟨ca2,_⟩:=g12.vc;obtain⟨cf2,_⟩:=g22.vc;apply sR;simp only[go_sem,seval,t0,t1,t2,t6,w2,VC,Nd.cells,r2,ca2,cf2,ao,af,aj];refine⟨_,?_,b+(VM l b).toNat,_,rfl,by omega,by omega,h3,by rw[heq,VP],Xj _ rfl,?_,by simp[t0,t2,t6,q3]⟩
    .omega
    .simpa[hk]using Yv
   .apply sR;simp only[go_sem,seval,q1,t0,t1,t2,t6,w1,c6,VC,Nd.cells,hk,ca,cf,hb1,V1,hnf,ao,af,aj];refine ai.lZ rfl rfl rfl (IH hD hJb hBb (by omega) b WX (by have:=Zh.V3;omega) (by have:=Zh.fl;omega)) ?_;rintro r Z' ⟨rfl,Yv⟩;have w2':=Yv.row;obtain⟨va2,vf2,w2,g12,g22,_⟩:=w2';obtain⟨ca2,_⟩:=g12.vc;obtain⟨cf2,_⟩:=g22.vc;apply sR;simp only[go_sem,seval,t0,t1,t2,t6,w2,VC,Nd.cells,r2,ca2,cf2,ao,af,aj];refine⟨_,?_,b+(VM l b).toNat,_,rfl,by omega,by omega,h3,by rw[heq,VP],Xj _ rfl,?_,by simp[t0,t2,t6,q3]⟩
    .omega
    .simpa[hk]using Yv
  .have q1:((b:Int)<(e:Int))=False:=H';apply sR;simp only[go_sem,seval,q1,t0,t1,t2,t6];refine WZ ⟨rfl,?_⟩;have hz:dt l rs (e-b) b e s'=s':=by rw[show e-b=0 by omega];rfl
   rw[heq,hz];exact hJb.narrow h0i n6.symm
open Go.Proofs
def lW(n:Nat)(f:O'):O':={ f with anchor:=max 0 (min f.anchor ((n:Int)-1)) }
def wz(s:WS):Int:=if(cH (fX 3) s.u').2 then max (s.VD.y+s.VD.m) (cH (fX 3) s.u').1 else s.VD.y+s.VD.m
def WS.fin(s:WS):WS:={ s with VA:=wz s,u':=s.u'.map (lW s.atoms.length) }
def fD(n j:Nat)(l:List O'):List O':=(l.take j).map (lW n)++l.drop j
def kH(n j:Nat)(l:List O'):(fD n j l).length=l.length:=by unfold fD;simp;omega
def rZ{n j:Nat}{l:List O'}(h:j<l.length):(fD n j l)[j]?=some l[j]:=by
 unfold fD;rw[JD (by simp;omega)];simp[h,Nat.min_eq_left (Nat.le_of_lt h)]
def rV{n j:Nat}{l:List O'}(h:j<l.length):(fD n j l).set j (lW n l[j])=fD n (j+1) l:=by
 unfold fD;have e1:((l.take j).map (lW n)).length=j:=by simp;omega
 have e2:l.drop j=l[j]::l.drop (j+1):=ju h;rw[List.set_append_right _ _ (by omega),e1,Nat.sub_self,e2,List.set_cons_zero,XH h,dG];simp
def YY.L7{l:List Nd}{rs:List Rm}{Z0 J:ad}{iw:Nat}{s:WS}(hJ:YY l rs Z0 iw s J){va vf:V}{h0:Int}(w:J iw=some ⟨155,7,[.agg [va,vf,vI h0,vI s.VD.y,vI s.VD.m,aF l,cZ rs]]⟩)(h:Int):
 YY l rs Z0 iw { s with VA:=h } (C' J iw ⟨155,7,[.agg [va,vf,vI h,vI s.VD.y,vI s.VD.m,aF l,cZ rs]]⟩):=by
 obtain⟨va',vf',w',g1,g2,g3⟩:=hJ.row;rw[w]at w';simp only[aS,Ob.mk.injEq,List.cons.injEq,V.agg.injEq,true_and,and_true]at w';obtain⟨rfl,rfl,_⟩:=w';exact⟨hJ.sub.az hJ.no,hJ.no,va,vf,ag,g1.Dt,g2.Dt,g3⟩
def MO{l:List Nd}{rs:List Rm}{Z0 U:ad}{iw:Nat}{s:WS}{C:Nat}(hJ:YY l rs Z0 iw s U)(hI:gd s C)(hC:C<=100000):
 au prog 85 [.ptr iw 0 0] U λr Z'=>r=.VG []/\YY l rs Z0 iw s.fin Z':=by
 obtain⟨va,vf,w1,ha1,hf1,hf2⟩:=hJ.row;obtain⟨ca,sa⟩:=ha1.vc;obtain⟨cf,sf⟩:=hf1.vc;have hB:=hI.bd;have hm:=hB.m1;have hm0:=hB.m0;have hy0:=hB.y0;have hyB:=hB.yB;have YG:=hI.fl;have YX:=hI.V3;have XD:dX false va=some (.int .i64 s.atoms.length):=by rw[ha1.len];simp
 have hlf:dX false vf=some (.int .i64 s.u'.length):=by rw[hf1.len];simp
 refine e85.q ?_;refine mS 5 ?_;simp only[go_sem,seval,c85,w1,ca,cf,ao,af];refine pS rfl (Fc s.VD ⟨by omega,by omega⟩ ⟨by omega,by omega⟩ _) ?_;simp only[go_sem,seval,w1,ca,cf,ao,af];have hJ2:=hJ.L7 w1 (s.VD.y+s.VD.m);have w2:=ag (U:=U) (id:=iw) (o:=⟨155,7,[.agg [va,vf,vI (s.VD.y+s.VD.m),vI s.VD.y,vI s.VD.m,aF l,cZ rs]]⟩);have hf3:=hf1.Dt (o:=⟨155,7,[.agg [va,vf,vI (s.VD.y+s.VD.m),vI s.VD.y,vI s.VD.m,aF l,cZ rs]]⟩);generalize C' U iw ⟨155,7,[.agg [va,vf,vI (s.VD.y+s.VD.m),vI s.VD.y,vI s.VD.m,aF l,cZ rs]]⟩=Y2 at*;refine pR rfl (aL.ue (args':=[aC s.u',vI 3]) ⟨hf3.yZ.at,YH _,trivial⟩ (Bi s.u' 3 (by omega) (hB.flo (by omega))) rfl) ?_;cases hlow:(cH (fX 3) s.u').2
 .have hh:wz s=s.VD.y+s.VD.m:=by unfold wz;rw[hlow];rfl
  apply sR;simp only[go_sem,seval,w2,ca,cf,hlf,ao,af];have hJ3:YY l rs Z0 iw { s with VA:=wz s } Y2:=by rw[hh];exact hJ2
  refine ai.loop (λm st=>∃j:Nat,j<=s.u'.length/\m=s.u'.length-j/\YY l rs Z0 iw { s with VA:=wz s,u':=fD s.atoms.length j s.u' } st.U/\st.s 0=.ptr iw 0 0/\st.s 40=vI s.u'.length/\st.s 41=vI j) s.u'.length ?_ ?_
  .exact⟨0,by omega,rfl,by simpa[fD]using hJ3,rfl,rfl,rfl⟩
  .rintro m ⟨S,J⟩ ⟨j,hj,rfl,Yj,t0,t40,t41⟩;simp only at Yj t0 t40 t41;refine ai.mix 5 ?_;by_cases B':j<s.u'.length
   .have q:=qT B';obtain⟨va4,vf4,w4,g1,g2,g3⟩:=Yj.row;simp only at w4 g1 g2 g3;obtain⟨ca4,_⟩:=g1.vc;have hla4:dX false va4=some (.int .i64 s.atoms.length):=by rw[g1.len];simp
    have ZQ:=kH s.atoms.length j s.u';rcases g2 with⟨_,h0⟩|⟨id,rfl,h2,h3⟩
    .exfalso;have:=congrArg List.length h0;rw[cO,ZQ]at this;simp only[List.length_nil]at this;omega
    have XE:=rZ (n:=s.atoms.length) B';have hset:=rV (n:=s.atoms.length) B';have hget2:((fD s.atoms.length j s.u').map aG)[j]?=some (aG s.u'[j]):=by rw[tW,XE];rfl
    have ZL:((fD s.atoms.length j s.u').map aG).length=s.u'.length:=by rw[cO,ZQ]
    have M':∀n,n=s.u'.length->bO J 7 (.own id 0 n) (.int .i64 j)=some (.ptr id j 0):=λn hn=>by subst hn;rw[<-ZL];exact jX h2 (by rw[ZL];exact B')
    generalize hfj:s.u'[j]=f at*;have hen:aG f=.agg [vI f.node,vI f.side,vI f.anchor,vI f.x,vI f.y,vI f.w,vI f.h]:=rfl;rw[hen]at hget2;have r1:VO .i64 ((s.atoms.length:Int)-1):=ae;have r2:=rI j;have cf4:(V.own id 0 s.u'.length).cells=[.own id 0 s.u'.length]:=rfl;rw[ZL]at w4;apply sR;simp only[go_sem,seval,t0,t40,t41,q,w4,ca4,cf4,hla4,h2,M' _ rfl,hget2,r1,r2,ct,dD,ao,af];have V2:iw≠id:=(aQ.1 h3).1.symm;have hlen5:=kH s.atoms.length (j+1) s.u';refine⟨_,by omega,j+1,by omega,rfl,⟨Yj.sub.az (aQ.1 h3).2,Yj.no,va4,.own id 0 s.u'.length,by rw[ab V2];exact w4,?_,.inr ⟨id,by rw[cO,hlen5],?_,h3⟩,λh=>?_⟩,rfl⟩
    .rcases g1 with h|⟨i1,k1,k2,k3⟩
     .exact .inl h
     .have hne1:i1≠id:=λe=>by rw[e,h2]at k2;simp at k2
      exact .inr ⟨i1,k1,by rw[ab hne1];exact k2,k3⟩
    .rw[ag,<-hset,List.map_set];rfl
    .have:=congrArg List.length h;rw[hlen5]at this;simp only[List.length_nil]at this;omega
   .have q:=qF B';apply sR;simp only[go_sem,seval,t0,t40,t41,q];refine WZ ⟨rfl,?_⟩;have he:fD s.atoms.length j s.u'=s.u'.map (lW s.atoms.length):=by
     unfold fD;rw[nq (by omega),List.drop_of_length_le (by omega),jt]
    rw[he]at Yj;exact Yj
 .have hh:wz s=max (s.VD.y+s.VD.m) (cH (fX 3) s.u').1:=by unfold wz;rw[hlow];rfl
  generalize (cH (fX 3) s.u').1=low at*;apply sR;simp only[go_sem,seval,w2,ca,cf,hlf,ct,ao,af];have hJ3:=hJ2.L7 w2 (max (s.VD.y+s.VD.m) low);simp only at hJ3;rw[<-hh]at hJ3|-;refine ai.loop (λm st=>∃j:Nat,j<=s.u'.length/\m=s.u'.length-j/\YY l rs Z0 iw { s with VA:=wz s,u':=fD s.atoms.length j s.u' } st.U/\st.s 0=.ptr iw 0 0/\st.s 40=vI s.u'.length/\st.s 41=vI j) s.u'.length ?_ ?_
  .exact⟨0,by omega,rfl,by simpa[fD]using hJ3,rfl,rfl,rfl⟩
  .rintro m ⟨S,J⟩ ⟨j,hj,rfl,Yj,t0,t40,t41⟩;simp only at Yj t0 t40 t41;refine ai.mix 5 ?_;by_cases B':j<s.u'.length
   .have q:=qT B';obtain⟨va4,vf4,w4,g1,g2,g3⟩:=Yj.row;simp only at w4 g1 g2 g3;obtain⟨ca4,_⟩:=g1.vc;have hla4:dX false va4=some (.int .i64 s.atoms.length):=by rw[g1.len];simp
    have ZQ:=kH s.atoms.length j s.u';rcases g2 with⟨_,h0⟩|⟨id,rfl,h2,h3⟩
    .exfalso;have:=congrArg List.length h0;rw[cO,ZQ]at this;simp only[List.length_nil]at this;omega
    have XE:=rZ (n:=s.atoms.length) B';have hset:=rV (n:=s.atoms.length) B';have hget2:((fD s.atoms.length j s.u').map aG)[j]?=some (aG s.u'[j]):=by rw[tW,XE];rfl
    have ZL:((fD s.atoms.length j s.u').map aG).length=s.u'.length:=by rw[cO,ZQ]
    have M':∀n,n=s.u'.length->bO J 7 (.own id 0 n) (.int .i64 j)=some (.ptr id j 0):=λn hn=>by subst hn;rw[<-ZL];exact jX h2 (by rw[ZL];exact B')
    generalize hfj:s.u'[j]=f at*;have hen:aG f=.agg [vI f.node,vI f.side,vI f.anchor,vI f.x,vI f.y,vI f.w,vI f.h]:=rfl;rw[hen]at hget2;have r1:VO .i64 ((s.atoms.length:Int)-1):=ae;have r2:=rI j;have cf4:(V.own id 0 s.u'.length).cells=[.own id 0 s.u'.length]:=rfl;rw[ZL]at w4;apply sR;simp only[go_sem,seval,t0,t40,t41,q,w4,ca4,cf4,hla4,h2,M' _ rfl,hget2,r1,r2,ct,dD,ao,af];have V2:iw≠id:=(aQ.1 h3).1.symm;have hlen5:=kH s.atoms.length (j+1) s.u';refine⟨_,by omega,j+1,by omega,rfl,⟨Yj.sub.az (aQ.1 h3).2,Yj.no,va4,.own id 0 s.u'.length,by rw[ab V2];exact w4,?_,.inr ⟨id,by rw[cO,hlen5],?_,h3⟩,λh=>?_⟩,rfl⟩
    .rcases g1 with h|⟨i1,k1,k2,k3⟩
     .exact .inl h
     .have hne1:i1≠id:=λe=>by rw[e,h2]at k2;simp at k2
      exact .inr ⟨i1,k1,by rw[ab hne1];exact k2,k3⟩
    .rw[ag,<-hset,List.map_set];rfl
    .have:=congrArg List.length h;rw[hlen5]at this;simp only[List.length_nil]at this;omega
   .have q:=qF B';apply sR;simp only[go_sem,seval,t0,t40,t41,q];refine WZ ⟨rfl,?_⟩;have he:fD s.atoms.length j s.u'=s.u'.map (lW s.atoms.length):=by
     unfold fD;rw[nq (by omega),List.drop_of_length_le (by omega),jt]
    rw[he]at Yj;exact Yj
open Go.Proofs
structure Gal where
 atoms:List WE
 u':List O'
 VA:Int
def yq(g:Gal):V:=.agg [bn g.atoms,aC g.u',vI g.VA]
def cI(l:List Nd)(w:Int):List Rm:=dq l l.length 0 l.length ⟨0,w⟩
def Mq(l:List Nd)(w:Int):WS:=(dt l (cI l w) l.length 0 l.length ⟨[],[],0,⟨0,0⟩⟩).fin
def dv(l:List Nd)(w:Int):Gal:=⟨(Mq l w).atoms,(Mq l w).u',(Mq l w).VA⟩
def oz{l:List Nd}(hb:Wg l=true):∀(k a e:Nat) (r:Rm),e<=l.length->bS l a e=true->r.ok->∀q∈dq l k a e r,q.ok
 |0,_,_,_,_,_,_,q,hq=>by simp[dq]at hq
 |k+1,a,e,r,he,hr,VE,q,hq=>by
  rw[dq]at hq;split at hq
  .rename_i B';obtain⟨h1,h2⟩:=cA he hr (Wa a) B';obtain⟨h3,h4⟩:=df he hr B';rcases et.1 hq with rfl|hq
   .exact VE
   .rcases ec.1 hq with hq|hq
    .obtain⟨g1,g2,_⟩:=IW hb (a:=a) (by omega);exact oz hb k _ _ _ (by omega) h4 (ye VE (by rw[g1];exact g2)) q hq
    .exact oz hb k _ _ _ he h3 VE q hq
  .cases hq
def rz{l:List Nd}(hb:Wg l=true)(hn:l.length<=2000){w:Int}(h1:1<=w)(h2:w<=1099511627776):DOk l (cI l w):=by
 have hr:bS l 0 l.length=true:=by simp only[Wg,Ba]at hb;exact hb.2
 exact⟨hn,hb,by unfold cI;rw[jL (Wa _) _ _ _ (by omega) (by omega) hr];omega,oz hb _ _ _ _ (Wa _) hr ⟨by simp,by simp,h1,h2⟩⟩
def ML(U:ad)(l:List Nd)(hl:ep l)(hb:Wg l=true)(hn:l.length<=2000)(hwl:∀n∈l,n.words.length<=10000)(hc:Wy l 0 l.length<=50000)(hck:aL prog 30 [aF l] (vI 0))(w:Int)(h1:1<=w)(h2:w<=1099511627776):
 au prog 36 [aF l,vI w] U λr Z'=>aa U Z'/\∃va vf,r=.VG [.agg [va,vf,vI (dv l w).VA],vI 0]/\ay U Z' 90 8 va ((dv l w).atoms.map bC)/\ay U Z' 100 7 vf ((dv l w).u'.map aG):=by
 refine e36.q ?_;have hs:=aa.refl U;have hD:=rz hb hn h1 h2;have hr:bS l 0 l.length=true:=by simp only[Wg,Ba]at hb;exact hb.2
 refine mS 8 ?_;simp only[go_sem,seval,c36];refine ar hs λi4 Z4 s4 a4 f4 z4 hs=>?_;have Xz:=rP w;rw[show decide (1<=w/\w<=1099511627776)=true by simp;omega]at Xz;simp only[go_sem,seval];refine pR rfl (Xz _) ?_;have qz:((0:Int)≠0)=False:=H' (λh=>h rfl);apply sR;simp only[go_sem,seval];refine pS rfl (hck _) ?_;simp only[go_sem,seval,qz];refine pR rfl (JO l hl hb w h1 h2 _) ?_;have hrm:dq l l.length 0 l.length ⟨0,w⟩=cI l w:=rfl;rw[hrm];apply sR;simp only[go_sem,seval,af,aM,ao,zO];refine aA λi23 Z23 s23 a23 f23=>?_;have hJ:YY l (cI l w) Z4 i23 ⟨[],[],0,⟨0,0⟩⟩ Z23:=⟨s23,f23,.aO,.aO,a23,ay.start,ay.start,λ_=>rfl⟩
 have hI:gd ⟨[],[],0,⟨0,0⟩⟩ 0:=⟨⟨by simp,by simp,by simp,by simp,by simp⟩,by simp,by simp⟩
 have hn0:=bU l;simp only[go_sem,seval,hn0];have WI:=MQ hD hwl (l.length+1) 0 l.length 0 (by omega) (by omega) (Wa _) hr (by omega) _ _ _ hJ hI;refine Xv rfl WI ?_;rintro r Z5 ⟨rfl,hJ5⟩;have hI5:=iN hD (l.length-0) 0 l.length ⟨[],[],0,⟨0,0⟩⟩ 0 (by omega) (by omega) (Wa _) hr hI;apply sR;simp only[go_sem,seval];refine Xv rfl (MO hJ5 hI5 (by omega)) ?_;rintro r Z6 ⟨rfl,hJ6⟩;have hgl:dv l w=⟨(dt l (cI l w) (l.length-0) 0 l.length ⟨[],[],0,⟨0,0⟩⟩).fin.atoms,(dt l (cI l w) (l.length-0) 0 l.length ⟨[],[],0,⟨0,0⟩⟩).fin.u',(dt l (cI l w) (l.length-0) 0 l.length ⟨[],[],0,⟨0,0⟩⟩).fin.VA⟩:=rfl;rw[hgl];generalize (dt l (cI l w) (l.length-0) 0 l.length ⟨[],[],0,⟨0,0⟩⟩).fin=s at*;obtain⟨va,vf,w6,g1,g2,_⟩:=hJ6.row;obtain⟨ca,sa⟩:=g1.vc;obtain⟨cf,sf⟩:=g2.vc;have b4:=hJ6.sub _ _ a4;have n423:=aU a4 f23;apply sR;simp only[go_sem,seval,w6,b4,ca,sa,cf,sf,ao,af,ab n423];have hK:aa U (bE Z4 i23):=λi o h=>by
  rw[bE,aD (λe=>by rw[e,hs.none f23]at h;cases h)];exact hs _ _ h
 have key:∀{e sz:Nat} {v:V} {rows:List V} {o:Ob},ay (bE Z4 i23) Z6 e sz v rows->ay (bE Z4 i23) (C' Z6 i4 o) e sz v rows:=λ{e sz v rows o} h=>by
  rcases h with h|⟨id,k1,k2,k3⟩
  .exact .inl h
  .exact .inr ⟨id,k1,by rw[ab (λe=>by rw[e]at k3;rw[(aQ.1 k3).2]at a4;cases a4)];exact k2,k3⟩
 have Xj:∀o,aa U (C' Z6 i4 o):=λo=>(hs.trans hJ6.sub).az z4;have lk:∀{e sz:Nat} {v:V} {rows:List V} {J:ad},ay (bE Z4 i23) J e sz v rows->ay U J e sz v rows:=λh=>h.imp (λh=>h) λ⟨i,h1,h2,h3⟩=>⟨i,h1,h2,hK.none h3⟩
 exact WZ ⟨Xj _,va,vf,rfl,lk (key g1),lk (key g2)⟩
open Go.Proofs
def tG(node:Int):List Int->Nat
 |[]=>0
 |x::r=>if x=node then tG node r+1 else 0
def Me(node:Int):∀l,tG node l<=l.length
 |[]=>by simp[tG]
 |x::r=>by
  rw[tG];split
  .have:=Me node r;simp only[XU];omega
  .simp
def mz(of:List Int)(fr:Nat)(node:Int):Nat:=tG node (of.drop fr)
def yE(of:List Int)(fr:Nat)(node:Int):mz of fr node<=of.length-fr:=by
 have:=Me node (of.drop fr);rw[ri]at this;exact this
def okN(x:Nd)(n:Nat):Bool:=if x.kind=2 then decide (1<=n/\n<=x.words.length)else if x.kind=3 then decide (n=1)else decide (n=0)
def A8(of:List Int):List Nd->Nat->Nat->Bool
 |[],_,V3=>decide (V3=of.length)
 |x::r,i,V3=>okN x (mz of V3 i)&&A8 of r (i+1) (V3+mz of V3 i)
def rX(l:List Nd)(of:List Int):Bool:=A8 of l 0 0
def o6(l:List Nd)(of:List Int):V:=.agg [aF l,bb of]
def nC(l:List Nd)(of:List Int):(o6 l of).cells=[aF l,bb of]:=rfl
def mW(l:List Nd)(of:List Int):(o6 l of).stays=true:=rfl
def Lt(l:List Nd)(of:List Int)(hn:of.length<=1000000)(fr:Nat)(hf:fr<=of.length)(node:Int):aL prog 185 [o6 l of,vI fr,vI node] (vI (mz of fr node)):=λU=>by
 refine UH.q ?_;have hs:=aa.refl U;have hl:=dd of;have htl:=yE of fr node;refine mS 8 ?_;simp only[go_sem,seval,Rj,nC,mW,af,aj,al,aM];refine ar hs λi3 Z3 s3 a3 f3 z3 hs=>?_;have a3':Z3 i3=some ⟨214,2,[.agg [aF l,bb of]]⟩:=a3;simp only[go_sem,seval];refine ai.loop (λm st=>∃j:Nat,fr+j<=of.length/\m=of.length-(fr+j)/\mz of fr node=j+tG node (of.drop (fr+j))/\st.U=Z3/\st.s 1=vI fr/\st.s 2=vI node/\st.s 3=.ptr i3 0 0/\st.s 7=vI j) (of.length-fr) ?_ ?_
 .exact⟨0,by omega,by omega,by simp[mz],rfl,rfl,rfl,rfl,rfl⟩
 .rintro m ⟨S,J⟩ ⟨j,hj,rfl,ht,V7,t1,t2,t3,t7⟩;simp only at V7 t1 t2 t3 t7;subst V7;refine ai.mix 8 ?_;have hjj:(fr:Int)+(j:Int)=((fr+j:Nat):Int):=by omega
  have r1:VO .i64 ((fr:Int)+j):=ae;have r2:=rI j;by_cases B':fr+j<of.length
  .have q:(((fr+j:Nat):Int)<of.length)=True:=L';have VC:=λU=>du (U:=U) B';rw[ju B',tG]at ht;generalize of[fr+j]=x at*;rw[hjj]at r1;by_cases hx:x=node
   .rw[av hx]at ht;have q2:(x=node)=True:=L' hx;apply sR;simp only[go_sem,seval,t1,t2,t3,t7,a3',hl,hjj,q,q2,VC,r1,r2,af,aj];exact⟨_,by omega,j+1,by omega,rfl,by rw[ht,show fr+(j+1)=fr+j+1 by omega];omega,by simp[t1,t2,t3]⟩
   .rw[aD hx]at ht;have q2:(x=node)=False:=H' hx;apply sR;simp only[go_sem,seval,t1,t2,t3,t7,a3',hl,hjj,q,q2,VC,r1,r2,af,aj];exact ak.pure hs (by rw[ht];simp)
  .have q:(((fr+j:Nat):Int)<of.length)=False:=H';rw[List.drop_of_length_le (by omega),tG]at ht;rw[hjj]at r1;apply sR;simp only[go_sem,seval,t1,t2,t3,t7,a3',hl,hjj,q,r1,r2,af,aj];exact ak.pure hs (by rw[ht];simp)
def Qm(l:List Nd)(hll:l.length<=100000)(of:List Int)(hn:of.length<=1000000)(hm:rX l of=true):aL prog 136 [o6 l of] (.bool true):=λU=>by
 refine Va.q ?_;have hs:=aa.refl U;have hl:=dd of;have Xe:=bU l;refine mS 7 ?_;simp only[go_sem,seval,RF,nC,mW,af,aj,al,aM];refine ar hs λi1 Z1 s1 a1 f1 z1 hs=>?_;have a1':Z1 i1=some ⟨214,2,[.agg [aF l,bb of]]⟩:=a1;simp only[go_sem,seval,a1',Xe,af,aj];refine ai.loop (λm st=>∃(i V3:Nat),i<=l.length/\m=l.length-i/\V3<=of.length/\A8 of (l.drop i) i V3=true/\aa Z1 st.U/\st.s 1=.ptr i1 0 0/\st.s 3=vI V3/\st.s 8=aF l/\st.s 9=vI l.length/\st.s 10=vI i) l.length ?_ ?_
 .exact⟨0,0,by omega,rfl,by omega,by simpa[rX]using hm,aa.refl _,rfl,rfl,rfl,rfl,rfl⟩
 .rintro m ⟨S,J⟩ ⟨i,V3,hi,rfl,XG,hmk,G',t1,t3,t8,t9,t10⟩;simp only at G' t1 t3 t8 t9 t10;refine ai.mix 7 ?_;have b1:=G' _ _ a1';by_cases B':i<l.length
  .have q:=qT B';have VC:=im l B';rw[ju B',A8,Ba]at hmk;obtain⟨VE,hmk⟩:=hmk;have htl:=yE of V3 i;have htc:=Lt l of hn V3 XG i;generalize mz of V3 i=n at*;generalize l[i]=x at*;apply sR;simp only[go_sem,seval,t1,t3,t8,t9,t10,q,VC,Nd.cells];refine aA λi5 Z5 s5 a5 f5=>?_;have c1:=s5 _ _ b1;have n15:=aU b1 f5;simp only[go_sem,seval,a5,c1,t1,t3,t8,t9,t10,ab n15,af,aj,al];refine pR rfl (htc _) ?_;have hwl:dX false (bb x.words)=some (.int .i64 x.words.length):=dd _;have r1:=rI i;have r2:VO .i64 ((V3:Int)+n):=ae;have q5:((V3:Int)+n)=((V3+n:Nat):Int):=by omega
   rw[q5]at r2;unfold okN at VE;by_cases k2:x.kind=2
   .rw[av k2]at VE;simp only[X7]at VE;have p1:((n:Int)<1)=False:=H';have p2:((n:Int)>x.words.length)=False:=H';have p0:(x.kind=2)=True:=L' k2;apply sR;simp only[go_sem,seval,t1,t3,t8,t9,t10,c1,ab n15,p0,p1,p2,hwl,r1,r2,q5,aj,al];exact⟨_,by omega,i+1,V3+n,by omega,rfl,by omega,hmk,G'.trans (s5.az f5),by simp[t1,t8,t9]⟩
   .rw[aD k2]at VE;have p0:(x.kind=2)=False:=H' k2;by_cases k3:x.kind=3
    .rw[av k3]at VE;simp only[X7]at VE;have p3:(x.kind=3)=True:=L' k3;have p1:((n:Int)≠1)=False:=H';apply sR;simp only[go_sem,seval,t1,t3,t8,t9,t10,c1,ab n15,p0,p3,p1,r1,r2,q5,aj,al];exact⟨_,by omega,i+1,V3+n,by omega,rfl,by omega,hmk,G'.trans (s5.az f5),by simp[t1,t8,t9]⟩
    .rw[aD k3]at VE;simp only[X7]at VE;have p3:(x.kind=3)=False:=H' k3;have p1:((n:Int)>0)=False:=H';apply sR;simp only[go_sem,seval,t1,t3,t8,t9,t10,c1,ab n15,p0,p3,p1,r1,r2,q5,aj,al];exact⟨_,by omega,i+1,V3+n,by omega,rfl,by omega,hmk,G'.trans (s5.az f5),by simp[t1,t8,t9]⟩
  .have q:=qF B';rw[List.drop_of_length_le (by omega),A8,X7]at hmk;have q2:((V3:Int)=of.length)=True:=L';apply sR;simp only[go_sem,seval,t1,t3,t8,t9,t10,q,b1,hl,q2,af,aj];exact ak.pure (hs.trans G') rfl
def rk(l:List Nd)(hf:ep l)(hb:Wg l=true)(of:List Int)(hn:of.length<=1000000)(hm:rX l of=true):aL prog 86 [aF l,bb of] (vI 0):=λU=>by
 refine e86.q ?_;have hv:=EE l hf;rw[hb]at hv;have hl1:=hf.1;refine mS 5 ?_;simp only[go_sem,seval,c86];refine pS rfl (hv _) ?_;simp only[go_sem,seval,af,aj,al,aM];refine pS rfl (Qm l (by omega) of hn hm _) ?_;simp only[go_sem,seval];exact ak.same rfl
open Go.Proofs
def vM(l:List Nd)(a b:Int):Bool:=decide (a<=b/\b<a+VM l a.toNat)
def HD(l:List Nd)(hb:Wg l=true)(hn:l.length<=100000)(a:Nat)(ha:a<l.length)(b:Int)(h0:0<=b)(h1:b<=1000000):aL prog 270 [aF l,vI a,vI b] (.bool (vM l a b)):=λU=>by
 refine Se.q ?_;have VC:=im l ha;have Xr:=iB ha;have hsb:=rA hb ha;refine ai.mix 7 ?_;unfold vM;rw[fp,Xr];rw[Xr]at hsb;by_cases h:(a:Int)<=b
 .have q:((a:Int)<=b)=True:=L' h;have r1:VO .i64 ((a:Int)+l[a].size):=ae;apply sR;simp only[go_sem,seval,NJ,q,VC,Nd.cells,r1];exact ak.same (by simp[h])
 .have q:((a:Int)<=b)=False:=H' h;apply sR;simp only[go_sem,seval,NJ,q];exact ak.same (by simp[h])
def hAt(l:List Nd)(of:List Int)(b k:Int):Bool:=if 0<=k/\k<of.length then vM l b (of.getD k.toNat 0)else false
def CX(l:List Nd)(hb:Wg l=true)(hn:l.length<=100000)(of:List Int)(Xi:of.length<=1000000)(Wr:∀x∈of,0<=x/\x<l.length)(b:Nat)(WX:b<l.length)(k:Int){U:ad}{i4 i9:Nat}(h4:U i4=some ⟨46,1,[bb of]⟩)(h9:U i9=some ⟨214,2,[o6 l of]⟩):
 au prog 269 [vI b,vI k,.ptr i4 0 0,.ptr i9 0 0] U λr Z'=>r=.bool (hAt l of b k)/\Z'=U:=by
 refine TK.q ?_;have hl:=dd of;rw[o6]at h9;refine ai.mix 7 ?_;unfold hAt;by_cases hk0:0<=k
 .have q0:(k>=0)=True:=L' hk0;obtain⟨j,rfl⟩:∃j:Nat,k=j:=⟨k.toNat,by omega⟩
  by_cases W4:(j:Int)<of.length
  .have q1:((j:Int)<of.length)=True:=L' W4;have Zv:j<of.length:=by omega
   have VC:=λU=>du (U:=U) Zv;have hx:=Wr _ (Ws Zv);have ZK:of.getD j 0=of[j]:=by simp[Zv]
   rw[av ⟨hk0,W4⟩,fp,ZK];apply sR;simp only[go_sem,seval,Jq,q0,q1,h4,h9,hl,VC,af,aj];refine pJ rfl (HD l hb hn b WX of[j] hx.1 (by omega)) ?_;apply sG;simp only[go_sem,seval];exact ak.same rfl
  .have q1:((j:Int)<of.length)=False:=H' W4;rw[aD (λh=>W4 h.2)];apply sR;simp only[go_sem,seval,Jq,q0,q1,h4,h9,hl,af,aj];exact ak.same rfl
 .have q0:(k>=0)=False:=H' hk0;rw[aD (λh=>hk0 h.1)];apply sR;simp only[go_sem,seval,Jq,q0];exact ak.same rfl
structure Dd(l:List Nd)(of:List Int)(k:Int)(i4 i5 i9 i10:Nat)(U:ad):Prop where
 r4:U i4=some ⟨46,1,[bb of]⟩
 r5:U i5=some ⟨3,1,[vI k]⟩
 r9:U i9=some ⟨214,2,[o6 l of]⟩
 r10:U i10=some ⟨242,1,[.fn 269 [.ptr i4 0 0,.ptr i9 0 0]]⟩
def Dd.mono{l:List Nd}{of:List Int}{k:Int}{i4 i5 i9 i10:Nat}{U J:ad}(h:Dd l of k i4 i5 i9 i10 U)(hs:aa U J):Dd l of k i4 i5 i9 i10 J:=⟨hs _ _ h.r4,hs _ _ h.r5,hs _ _ h.r9,hs _ _ h.r10⟩
def Nz(l:List Nd)(hb:Wg l=true)(hn:l.length<=100000)(of:List Int)(Xi:of.length<=1000000)(Wr:∀x∈of,0<=x/\x<l.length)(b:Nat)(WX:b<l.length)(k:Int){U:ad}{i4 i5 i9 i10:Nat}(h:Dd l of k i4 i5 i9 i10 U):
 au prog 272 [vI b,.ptr i10 0 0,.ptr i5 0 0] U λr Z'=>r=.bool (!hAt l of b k)/\Z'=U:=by
 refine Vi.q ?_;have r5:=h.r5;have r10:=h.r10;refine mS 5 ?_;simp only[go_sem,seval,Ow,r5,r10];refine pS rfl (CX l hb hn of Xi Wr b WX k h.r4 h.r9) ?_;simp only[go_sem,seval];exact ak.same rfl
def Ng(l:List Nd)(hb:Wg l=true)(hn:l.length<=100000)(of:List Int)(Xi:of.length<=1000000)(Wr:∀x∈of,0<=x/\x<l.length)(b:Nat)(WX:b<l.length)(k:Int)(hk0:0<=k)(W4:k<=1000000){U:ad}{i4 i5 i9 i10:Nat}(h:Dd l of k i4 i5 i9 i10 U):
 au prog 273 [vI b,.ptr i10 0 0,.ptr i5 0 0] U λr Z'=>r=.bool (!hAt l of b (k-1))/\Z'=U:=by
 refine Sh.q ?_;have r5:=h.r5;have r10:=h.r10;have r1:VO .i64 (k-1):=ae;refine mS 5 ?_;simp only[go_sem,seval,Rc,r5,r10,r1];refine pS rfl (CX l hb hn of Xi Wr b WX (k-1) h.r4 h.r9) ?_;simp only[go_sem,seval];exact ak.same rfl
def Mt(l:List Nd)(hb:Wg l=true)(hn:l.length<=100000)(of:List Int)(Xi:of.length<=1000000)(Wr:∀x∈of,0<=x/\x<l.length)(b:Nat)(WX:b<l.length)(k:Int)(hk0:0<=k)(W4:k<=1000000){U:ad}{i4 i5 i9 i10:Nat}(h:Dd l of k i4 i5 i9 i10 U):
 au prog 275 [vI b,.ptr i10 0 0,.ptr i5 0 0] U λr Z'=>r=.bool (hAt l of b (k-1))/\Z'=U:=by
 refine SD.q ?_;have r5:=h.r5;have r10:=h.r10;have r1:VO .i64 (k-1):=ae;refine mS 5 ?_;simp only[go_sem,seval,Oj,r5,r10,r1];refine pS rfl (CX l hb hn of Xi Wr b WX (k-1) h.r4 h.r9) ?_;simp only[go_sem,seval];exact ak.same rfl
def Bp(l:List Nd)(hl:ep l)(hb:Wg l=true)(hn:l.length<=100000)(a:Nat)(ha:a<l.length):Iter prog 295 [.rp (aF l),.rp (vI a)] ((abv l a).map λn=>[vI n]):=by
 refine⟨R8.c,λWp τ Jx Z0 hy hJ=>?_⟩;refine(R8.q ?_).2;have Zs:=Ch l hl hb hn a ha;have YX:=j6 l (l.length+1) (dh l a);have e0:(abv l a).length<=l.length+1:=YX;have hlen:=dd (abv l a);generalize abv l a=L at*;have ldA:∀U,cj U false 1 (.rp (aF l))=some (aF l):=λU=>rfl;have ldB:∀U (n:Int),cj U false 1 (.rp (vI n))=some (vI n):=λU n=>rfl;refine mS 6 ?_;simp only[go_sem,seval,Pb,ldA,ldB];refine pS rfl (Zs _) ?_;simp only[go_sem,seval,hlen];refine ai.loop (λm st=>∃(j:Nat) (ZJ:ad),j<=L.length/\m=L.length-j/\τ ((L.take j).map λn=>[vI n]) ZJ/\aa ZJ st.U/\st.s 0=.yl Wp/\st.s 8=bb L/\st.s 9=vI L.length/\st.s 10=vI j) L.length ?_ ?_
 .exact⟨0,Z0,by omega,rfl,by simpa using hJ,aa.refl _,rfl,rfl,rfl,rfl⟩
 .rintro m ⟨S,J⟩ ⟨j,ZJ,hj,rfl,Yj,G',t0,t8,t9,t10⟩;simp only at G' t0 t8 t9 t10;refine ai.mix 6 ?_;by_cases B':j<L.length
  .have q:=qT B';have VC:=λU=>du (U:=U) B';have V9:L.take (j+1)=L.take j++[L[j]]:=XH B';have e:(L.map λn=>[vI n])=((L.take j).map λn=>[vI n])++[vI L[j]]::((L.drop (j+1)).map λn=>[vI n]):=by
    have e0':L=L.take j++L[j]::L.drop (j+1):=by rw[<-ju B',ua]
    have:=congrArg (List.map λn=>[vI n]) e0'
    rwa [dG,fF]at this
   generalize L[j]=x at*;have r1:=rI j;apply sR;simp only[go_sem,seval,t0,t8,t9,t10,q,VC];refine ai.oV (Post:=λb Z2=>∃Wh,bF ZJ J Wh Z2/\((b=true/\τ (((L.take j).map λn=>[vI n])++[[vI x]]) Wh)\/(b=false/\Jx (((L.take j).map λn=>[vI n])++[[vI x]]) Wh))) rfl rfl rfl (hy _ [vI x] _ ZJ J e Yj G') ?_;rintro b Z2 ⟨Wh,Ya,XL⟩;rcases XL with⟨rfl,XL⟩|⟨rfl,XL⟩
   .apply sR;simp only[go_sem,seval,t0,t8,t9,t10,r1];refine⟨_,?_,j+1,Wh,by omega,rfl,by rw[V9];simpa using XL,Ya.1,by simp[t0,t8,t9]⟩;omega
   .apply sR;simp only[go_sem,seval,t0];refine⟨_,Wh,Ya.1,Wk.refl Ya.1 _,.inr ⟨_,?_,XL⟩⟩;rw[e];exact⟨(L.drop (j+1)).map λn=>[vI n],by simp⟩
  .have q:=qF B';rw[nq (by omega)]at Yj;apply sR;simp only[go_sem,seval,t0,t8,t9,t10,q];exact⟨_,ZJ,G',Wk.refl G' _,.inl Yj⟩
def GQ(l:List Nd)(a:Int):aL prog 291 [aF l,vI a] (.fn 295 [.rp (aF l),.rp (vI a)]):=λU=>by
 refine U4.q ?_;refine ai.mix 4 ?_;have q1:=af l;have q2:=aM l;generalize aF l=x at*;apply sR;simp only[go_sem,seval,Rv,q1,q2];refine aA λid1 Z1 s1 a1 f1=>?_;simp only[go_sem,seval];refine aA λid2 Z2 s2 a2 f2=>?_;simp only[go_sem,seval];exact⟨_,U,s1.trans s2,Wk.fn (vs':=[.rp x,.rp (vI a)]) ⟨Wk.ptr (s1.trans s2) (s2 _ _ a1) f1,Wk.ptr (s1.trans s2) a2 (s1.none f2),trivial⟩,rfl,rfl⟩
open Go.Proofs
def chR(l:List Nd)(of:List Int)(k:Int)(p:Int->Bool):List Int:=if 0<=k/\k<of.length then(abv l (of.getD k.toNat 0).toNat).filter p else[]
def qK{l:List Nd}{a:Nat}(ha:a<l.length):∀x∈abv l a,∃n:Nat,x=n/\n<a:=λx hx=>by
 have:=Hw l _ _ x hx;have h2:=eo l a;exact⟨x.toNat,by omega,by omega⟩
def rH{p:Int->Bool}{L:List Int}{j:Nat}{x:Int}(h:L[j]?=some x):(L.take (j+1)).filter p=(L.take j).filter p++if p x then[x]else[]:=by
 rw[MR,h,List.filter_append];cases hp:p x<;>simp[hp]
def vt(l:List Nd)(hl:ep l)(hb:Wg l=true)(hn:l.length<=100000)(of:List Int)(Xi:of.length<=1000000)(Wr:∀x∈of,0<=x/\x<l.length)(k:Int)(g:FuncId)(caps:List V)(p:Int->Bool){U:ad}
 (hg:∀b:Nat,b<l.length->∀J,aa U J->au prog g (vI b::caps) J λr Z'=>r=.bool (p b)/\Z'=J):
 au prog 271 [o6 l of,vI k,.fn g caps] U λr Z'=>aa U Z'/\ay U Z' 3 1 r ((chR l of k p).map vI)/\(chR l of k p=[]->r=.aO):=by
 refine SE.q ?_;have hs:=aa.refl U;have WL:=dd of;refine mS 9 ?_;simp only[go_sem,seval,QR,nC,mW,af,aj,al,aM];refine ar hs λi3 Z3 s3 a3 f3 z3 hs=>?_;simp only[go_sem,seval];refine ar hs λi5 Z5 s5 a5 f5 z5 hs=>?_;obtain⟨n35,a3⟩:=VB a3 f5 s5;have a3':Z5 i3=some ⟨214,2,[.agg [aF l,bb of]]⟩:=a3;by_cases hk0:k<0
 .have q0:(k<0)=True:=L' hk0;have hc:chR l of k p=[]:=by unfold chR;rw[aD (by omega)]
  simp only[go_sem,seval,q0];rw[hc];exact WZ ⟨hs,ay.start,λ_=>rfl⟩
 have q0:(k<0)=False:=H' hk0;obtain⟨j,rfl⟩:∃j:Nat,k=j:=⟨k.toNat,by omega⟩
 by_cases W4:(j:Int)>=of.length
 .have q1:((j:Int)>=of.length)=True:=L' W4;have hc:chR l of j p=[]:=by unfold chR;rw[aD (by omega)]
  simp only[go_sem,seval,q0,a3',WL,q1,af,aj];rw[hc];exact WZ ⟨hs,ay.start,λ_=>rfl⟩
 have q1:((j:Int)>=of.length)=False:=H' W4;have Zv:j<of.length:=by omega
 have VC:=λU=>du (U:=U) Zv;obtain⟨hx0,hx1⟩:=Wr _ (Ws Zv);have ZK:of.getD j 0=of[j]:=by simp[Zv]
 have hc:chR l of j p=(abv l of[j].toNat).filter p:=by unfold chR;rw[av ⟨by omega,by omega⟩,fp,ZK]
 rw[hc];simp only[go_sem,seval,q0,a3',WL,q1,af,aj];refine aA λi7 Z7 s7 a7 f7=>?_;have b3:=s7 _ _ a3';have b5:=s7 _ _ a5;simp only[go_sem,seval,b3,VC,af,aj];obtain⟨x,hx⟩:∃x:Nat,of[j]=x:=⟨of[j].toNat,by omega⟩
 rw[hx]at hx1|-;refine pR rfl (GQ l x _) ?_;have hit:=Bp l hl hb hn x (by omega);have hrg:=qK (l:=l) (a:=x) (by omega);have hlL:(abv l x).length<=l.length+1:=j6 _ _ _;rw[fp];generalize abv l x=L at*;apply sR;simp only[go_sem,seval];generalize hS:mix 9 _ _=S;have S5:S 5=.ptr i5 0 0:=by rw[<-hS];rfl
 have S7:S 7=.ptr i7 0 0:=by rw[<-hS];rfl
 have S25:S 25=.fn 295 [.rp (aF l),.rp (vI x)]:=by rw[<-hS];rfl
 clear hS;refine ai.fk (g:=.t 25) (caps:=[.rp (aF l),.rp (vI x)]) S25 hit (λy hy=>?_) [] (λpre ZJ=>∃v,ZJ i7=some ⟨46,1,[v]⟩/\aa Z5 ZJ/\ay (bE Z5 i7) ZJ 3 1 v (((L.take pre.length).filter p).map vI)/\((L.take pre.length).filter p=[]->v=.aO))
  (λ_ _ _=>False) ?_ ?_ ?_ ?_ ?_
 .obtain⟨t,_,rfl⟩:=gM.1 hy;rfl
 .exact⟨.aO,a7,s7,by simpa using ay.start,λ_=>rfl⟩
 .rintro pre y post ZJ ZB YV ⟨v,J7,Js,Jo,Jn⟩ G';obtain⟨t,hti,rfl⟩:=uG (f:=vI) YV;obtain⟨tn,rfl,htn⟩:=hrg t (zE hti);have V9:=rH (p:=p) hti;have hlen:(pre++[[vI (tn:Int)]]).length=pre.length+1:=by simp
  rw[hlen,V9];have YP:(((L.take pre.length).filter p).map vI).length<=1000001:=by
   rw[cO];have:=List.length_filter_le p (L.take pre.length);rw[jN]at this;omega
  have hvc:v.cells=[v]:=by rcases Jo with⟨rfl,_⟩|⟨_,rfl,_⟩<;>rfl
  generalize V8:(((L.take pre.length).filter p).map vI)=rows at*;have c7:=G' _ _ J7;have c5:=G' _ _ (Js _ _ a5);generalize Yt:oM S [26] [vI (tn:Int)]=S0;have T5:S0 5=.ptr i5 0 0:=by rw[<-Yt];exact S5
  have T7:S0 7=.ptr i7 0 0:=by rw[<-Yt];exact S7
  have T26:S0 26=vI (tn:Int):=by rw[<-Yt];rfl
  clear Yt;refine mS 9 ?_;simp only[go_sem,seval,T5,T7,T26];apply sR;simp only[go_sem,seval,T5,T7,T26,c5];refine pR rfl (hg tn (by omega) _ ((hs.trans Js).trans G')) ?_;cases hp:p (tn:Int)
  .apply sR;simp only[go_sem,seval];refine⟨_,bF.refl G',v,J7,Js,?_,by simpa using Jn⟩;simpa[V8]using Jo
  .apply sR;simp only[go_sem,seval,T5,T7,T26,c7,hvc];rw[ax];intro id28 f28;have hBs:=(bF.refl G').y9 (o:=⟨3,1,[vI (tn:Int)]⟩) f28;have y2:C' ZB id28 ⟨3,1,[vI (tn:Int)]⟩ i7=some ⟨46,1,[v]⟩:=by rw[ab (aU c7 f28)];exact c7
   have a28:C' ZB id28 ⟨3,1,[vI (tn:Int)]⟩ id28=some ⟨3,1,[vI (tn:Int)]⟩:=ag;generalize C' ZB id28 ⟨3,1,[vI (tn:Int)]⟩=Z8 at*;obtain⟨idA,Wi,hdA⟩:=Jo.K0 hBs.1;have V1:(rows.length+1)*9<=140737488355328:=by omega
   have k2:bE Z5 i7 i7≠none:=λh=>(aQ.1 h).1 rfl;have dne:∀(i:Nat) (Zx:ad),bE Z5 i7 i≠none->Vc.bN Zx idA i=Zx i:=λi Zx hk=>by
    cases idA with
    |none=>rfl
    |some a=>exact cc (λe=>hk (by rw[e];exact(hdA a rfl).1))
   simp only[go_sem,seval,Wi,bJ a28,V1,T7];rw[ax];intro Yb f29;have f29:Z8 Yb=none:=f29;have m29:i7≠Yb:=aU y2 f29;have f29':Vc.bN Z8 idA Yb=none:=by
    cases idA with
    |none=>exact f29
    |some a=>simp only[Vc.bN,del];split<;>first|rfl|exact f29
   have y2':C' (Vc.bN Z8 idA) Yb ⟨3,1,rows++[vI (tn:Int)]⟩ i7=some ⟨46,1,[v]⟩:=by rw[ab m29,dne _ _ k2];exact y2
   have hB9:=((hBs.LJ (e:=idA) λi h=>(hdA i h).2).new (o:=⟨3,1,rows++[vI (tn:Int)]⟩) f29').set (id:=i7) (o:=⟨46,1,[v]⟩) (o':=⟨46,1,[.own Yb 0 (rows.length+1)]⟩) (by rw[ab m29,dne _ _ k2];exact J7);simp only[go_sem,seval,hvc,y2',T7];refine⟨_,hB9,.own Yb 0 (rows.length+1),ag,?_,?_,λh=>by simp at h⟩
   .refine aa.az (λi o h=>?_) f7;have h1:=Js _ _ h;rw[ab (aU (hBs.1 _ _ h1) f29),dne _ _ (λhk=>by rw[(aQ.1 hk).2]at h;cases h)];exact h1
   .rw[dG,V8];refine ay.new (by simp) (by rw[ab m29.symm,ag];rfl) ?_;rw[aQ];refine⟨m29.symm,?_⟩;cases h:Z5 Yb with
    |none=>rfl
    |some o=>rw[hBs.1 _ _ (Js _ _ h)]at f29;cases f29
 .rintro Z' ⟨v,J7,Js,Jo,Jn⟩;rw[cO,eF]at Jo Jn;have hvc:v.cells=[v]:=by rcases Jo with⟨rfl,_⟩|⟨_,rfl,_⟩<;>rfl
  refine mS 9 ?_;simp only[go_sem,seval,S7,J7,hvc];refine WZ ⟨hs.trans Js,?_,Jn⟩;rcases Jo with h|⟨id,h1,h2,h3⟩
  .exact .inl h
  .exact .inr ⟨id,h1,h2,hs.none (aQ.1 h3).2⟩
 .intro id h;cases h
 .rintro pre Z' _ ⟨⟩
open Go.Proofs
def swp(L:List Int)(i j:Nat):List Int:=(L.set i (L.getD j 0)).set j (L.getD i 0)
def lp(L:List Int):Nat->List Int
 |0=>L
 |t+1=>swp (lp L t) t (L.length-1-t)
def lX(L:List Int):∀t,(lp L t).length=L.length
 |0=>rfl
 |t+1=>by simp[lp,swp,lX L t]
def A9(L:List Int):∀(t:Nat),2*t<=L.length->∀i,i<L.length->(lp L t)[i]?=if i<t\/L.length-t<=i then L[L.length-1-i]? else L[i]?
 |0,_,i,hi=>by rw[lp,aD (by omega)]
 |t+1,ht,i,hi=>by
  have ih:=λi hi=>A9 L t (by omega) i hi;have hl:=lX L t;have e1:(lp L t).getD t 0=L.getD t 0:=by
   rw[xA,xA,ih t (by omega),aD (by omega)]
  have e2:(lp L t).getD (L.length-1-t) 0=L.getD (L.length-1-t) 0:=by
   rw[xA,xA,ih _ (by omega),aD (by omega)]
  rw[lp,swp,e1,e2,List.getElem?_set,List.getElem?_set,List.length_set,hl];have g:∀k,k<L.length->some (L.getD k 0)=L[k]?:=λk hk=>by simp[hk]
  by_cases h1:L.length-1-t=i
  .rw[av h1,av (by omega),av (by omega),g t (by omega)];congr 1;omega
  .rw[aD h1];by_cases h2:t=i
   .rw[av h2,av (by omega),av (by omega),g _ (by omega)];congr 1;omega
   .rw[aD h2,ih i hi];by_cases h3:i<t\/L.length-t<=i
    .rw[av h3,av (by omega)]
    .rw[aD h3,aD (by omega)]
def G8(L:List Int){t:Nat}(h1:2*t<=L.length)(h2:L.length<=2*t+1):lp L t=L.reverse:=by
 apply List.ext_getElem?;intro i;by_cases hi:i<L.length
 .rw[A9 L t h1 i hi,List.getElem?_reverse hi];split
  .rfl
  .congr 1;omega
 .rw[wW (by rw[lX];omega),wW (by simp;omega)]
def Ge(L:List Int)(hL:L.length<=1000000){K U:ad}{v:V}(hv:ay K U 3 1 v (L.map vI))(V2:L=[]->v=.aO):
 au prog 274 [v] U λr Z'=>r=.VG []/\ay K Z' 3 1 v (L.reverse.map vI)/\∀i o,U i=some o->(o.elem≠3\/K i≠none)->Z' i=some o:=by
 refine UU.q ?_;refine ai.mix 5 ?_;rcases hv with⟨rfl,h0⟩|⟨id,rfl,h2,h3⟩
 .obtain rfl:L=[]:=by simpa using h0
  apply sR;simp only[go_sem,seval,NO];refine⟨ae,?_⟩;refine ai.loop (λm st=>st.U=U/\st.s 2=vI 0/\∃z:Int,st.s 3=vI z/\z<0) 0 ?_ ?_
  .refine⟨rfl,rfl,_,rfl,?_⟩;simp
  .rintro m ⟨S,J⟩ ⟨V7,t2,z,t3,hz⟩;simp only at V7 t2 t3;subst V7;refine ai.mix 5 ?_;have q:((0:Int)<z)=False:=H';apply sR;simp only[go_sem,seval,t2,t3,q];exact WZ ⟨rfl,.inl ⟨rfl,rfl⟩,λi o h _=>h⟩
 .have hn:0<L.length:=ud.2 λe=>by have:=V2 e;cases this
  have Xc:(L.map vI).length=L.length:=by simp
  have r1:VO .i64 ((L.length:Int)-1):=ae;apply sR;simp only[go_sem,seval,NO,Xc,r1];refine ai.loop (λm st=>∃t:Nat,2*t<=L.length/\m=L.length-t/\st.U id=some ⟨3,1,(lp L t).map vI⟩/\(∀i,i≠id->st.U i=U i)/\st.s 0=.own id 0 L.length/\st.s 2=vI t/\∃z:Int,st.s 3=vI z/\z=(L.length:Int)-1-t) L.length ?_ ?_
  .exact⟨0,by omega,by omega,h2,λ_ _=>rfl,rfl,rfl,_,rfl,by simp⟩
  .rintro m ⟨S,J⟩ ⟨t,ht,rfl,g1,g2,t0,t2,z,t3,rfl⟩;simp only at g1 g2 t0 t2 t3;refine ai.mix 5 ?_;have ZL:((lp L t).map vI).length=L.length:=by rw[cO,lX]
   by_cases B':(t:Int)<(L.length:Int)-1-t
   .have q:((t:Int)<(L.length:Int)-1-t)=True:=L' B';have hj:((L.length:Int)-1-t)=((L.length-1-t:Nat):Int):=by omega
    obtain⟨j,hjj⟩:∃j,j=L.length-1-t:=⟨_,rfl⟩
    rw[hj,<-hjj]at t3 q;have hti:t<(lp L t).length:=by rw[lX];omega
    have Zd:j<(lp L t).length:=by rw[lX];omega
    have i1:∀n,n=L.length->bO J 1 (.own id 0 n) (.int .i64 t)=some (.ptr id t 0):=λn hn=>by subst hn;rw[<-ZL];exact jX g1 (by rw[ZL];omega)
    have i2:∀n,n=L.length->bO J 1 (.own id 0 n) (.int .i64 j)=some (.ptr id j 0):=λn hn=>by subst hn;rw[<-ZL];exact jX g1 (by rw[ZL];omega)
    have v1:((lp L t).map vI)[t]?=some (vI ((lp L t).getD t 0)):=by simp[hti]
    have v2:((lp L t).map vI)[j]?=some (vI ((lp L t).getD j 0)):=by simp[Zd]
    have i3:∀a n,n=L.length->bO (C' J id ⟨3,1,((lp L t).map vI).set t a⟩) 1 (.own id 0 n) (.int .i64 j)=some (.ptr id j 0):=λa n hn=>by
     have e:n=(((lp L t).map vI).set t a).length:=by rw[List.length_set,ZL,hn]
     rw[e];exact jX ag (by rw[List.length_set,ZL];omega)
    have v3:∀a,(((lp L t).map vI).set t a)[j]?=some (vI ((lp L t).getD j 0)):=λa=>by rw[List.getElem?_set_ne (by omega)];exact v2
    have r4:=rI t;have r5:VO .i64 ((j:Int)-1):=ae;apply sR;simp only[go_sem,seval,t0,t2,t3,q,g1,i1 _ rfl,i2 _ rfl,i3 _ _ rfl,v1,v2,v3,r4,r5];refine⟨_,?_,t+1,by omega,rfl,?_,λi hi=>?_,by simp[t0],_,rfl,by omega⟩
    .omega
    .simp only[lp,swp,List.map_set];rw[hjj]
    .rw[ab hi];exact g2 i hi
   .have q:((t:Int)<(L.length:Int)-1-t)=False:=H' B';apply sR;simp only[go_sem,seval,t0,t2,t3,q];have hr:=G8 L ht (by omega);rw[hr]at g1;refine WZ ⟨rfl,.inr ⟨id,by simp,g1,h3⟩,λi o h hio=>?_⟩;rw[g2 i (λe=>by subst e;rw[h2]at h;injection h with h;subst h;rcases hio with h|h;exact h rfl;exact h h3)]
    exact h
open Go.Proofs
structure Kn where
 (ends XT both:List Int)
 text:Int
def gF(x:Kn):V:=.agg [bb x.ends,bb x.XT,bb x.both,vI x.text]
def cK(l:List Nd)(of:List Int)(k:Nat):Kn:=
 ⟨chR l of ((k:Int)-1) (λb=>!hAt l of b k),(chR l of k (λb=>!hAt l of b ((k:Int)-1))).reverse,chR l of k (λb=>hAt l of b ((k:Int)-1)),
  if 0<k/\k<of.length/\of.getD k 0=of.getD (k-1) 0 then of.getD k 0 else -1⟩
structure KR(l:List Nd)(of:List Int)(k:Int)(i4 i5 i6 i9 i10 i11:Nat)(v:V)(Z0 U:ad):Prop where
 ask:Dd l of k i4 i5 i9 i10 U
 r6:U i6=some ⟨259,4,[.agg [.aO,.aO,.aO,vI 0]]⟩
 r11:U i11=some ⟨259,4,[v]⟩
 sub:aa Z0 U
 no:Z0 i11=none
 ne:i4≠i11/\i5≠i11/\i6≠i11/\i9≠i11/\i10≠i11
def KR.mono{l:List Nd}{of:List Int}{k:Int}{i4 i5 i6 i9 i10 i11:Nat}{v:V}{Z0 U J:ad}(h:KR l of k i4 i5 i6 i9 i10 i11 v Z0 U)(hs:aa U J):KR l of k i4 i5 i6 i9 i10 i11 v Z0 J:=
 ⟨h.ask.mono hs,hs _ _ h.r6,hs _ _ h.r11,h.sub.trans hs,h.no,h.ne⟩
def KR.put{l:List Nd}{of:List Int}{k:Int}{i4 i5 i6 i9 i10 i11:Nat}{v w:V}{Z0 U:ad}(h:KR l of k i4 i5 i6 i9 i10 i11 v Z0 U):KR l of k i4 i5 i6 i9 i10 i11 w Z0 (C' U i11 ⟨259,4,[w]⟩):=by
 obtain⟨n1,n2,n3,n4,n5⟩:=h.ne;exact⟨⟨by rw[ab n1];exact h.ask.r4,by rw[ab n2];exact h.ask.r5,by rw[ab n4];exact h.ask.r9,by rw[ab n5];exact h.ask.r10⟩,by rw[ab n3];exact h.r6,ag,h.sub.az h.no,h.no,h.ne⟩
def EG(l:List Nd)(hl:ep l)(hb:Wg l=true)(of:List Int)(Xi:of.length<=1000000)(Wr:∀x∈of,0<=x/\x<l.length)(hm:rX l of=true)(k:Nat)(hk:k<=of.length):
 aL prog 238 [aF l,bb of,vI k] (.VG [gF (cK l of k),vI 0]):=λU=>by
 refine Tt.q ?_;have hs:=aa.refl U;have WL:=dd of;have hn:l.length<=100000:=by have:=hl.1;omega
 refine mS 12 ?_;simp only[go_sem,seval,OI,af,aj,al,aM];refine ar hs λi4 Z4 s4 a4 f4 z4 hs=>?_;simp only[go_sem,seval];refine ar hs λi5 Z5 s5 a5 f5 z5 hs=>?_;obtain⟨XQ,a4⟩:=VB a4 f5 s5;simp only[go_sem,seval];refine ar hs λi6 Z6 s6 a6 f6 z6 hs=>?_;obtain⟨n46,a4⟩:=VB a4 f6 s6;obtain⟨n56,a5⟩:=VB a5 f6 s6;simp only[go_sem,seval,a4,a5,a6,af,aj,al];refine pR rfl (rk l hl hb of Xi hm _) ?_;have q0:((0:Int)≠0)=False:=H' (λh=>h rfl);have q1:((k:Int)<0)=False:=H';have q2:((k:Int)>of.length)=False:=H';apply sR;simp only[go_sem,seval,q0,q1,q2,a4,a5,a6,WL,af,aj,al,aM];refine ar hs λi9 Z9 s9 a9 f9 z9 hs=>?_;obtain⟨n49,a4⟩:=VB a4 f9 s9;obtain⟨n59,a5⟩:=VB a5 f9 s9;obtain⟨n69,a6⟩:=VB a6 f9 s9;simp only[go_sem,seval,a9,a4,a5,a6,af,aj,al,aM];generalize Wz:C' _ i9 _=Y9;replace a9:=WC Wz;replace a4:=VN Wz n49 a4;replace a5:=VN Wz n59 a5;replace a6:=VN Wz n69 a6;replace hs:=WD Wz hs z9;have hnf:V.WT.cells=[.WT]:=rfl;refine ar hs λi10 Z10 XV Wn f10 YK hs=>?_;obtain⟨n410,a4⟩:=VB a4 f10 XV;obtain⟨n510,a5⟩:=VB a5 f10 XV;obtain⟨n610,a6⟩:=VB a6 f10 XV;obtain⟨n910,a9⟩:=VB a9 f10 XV;simp only[go_sem,seval,Wn,hnf];generalize Ww:C' _ i10 _=Y10;replace Wn:=WC Ww;replace a4:=VN Ww n410 a4;replace a5:=VN Ww n510 a5;replace a6:=VN Ww n610 a6;replace a9:=VN Ww n910 a9;replace hs:=WD Ww hs YK;refine ar hs λi11 Z11 Zu X2 f11 z11 hs=>?_;obtain⟨n411,a4⟩:=VB a4 f11 Zu;obtain⟨n511,a5⟩:=VB a5 f11 Zu;obtain⟨Yw,a6⟩:=VB a6 f11 Zu;obtain⟨n911,a9⟩:=VB a9 f11 Zu;obtain⟨WV,Wn⟩:=VB Wn f11 Zu;simp only[go_sem,seval,X2,Wn,a9,a5,a4,ab n411,ab n511,ab Yw,ab n911,ab WV,af,aj];generalize WA:C' _ i11 _=Y11;replace X2:=WC WA;replace a4:=VN WA n411 a4;replace a5:=VN WA n511 a5;replace a6:=VN WA Yw a6;replace a9:=VN WA n911 a9;replace Wn:=VN WA WV Wn;replace hs:=WD WA hs z11;have hK:KR l of k i4 i5 i6 i9 i10 i11 (.agg [.aO,.aO,.aO,vI (-1)]) U Y11:=⟨⟨a4,a5,a9,Wn⟩,a6,X2,hs,z11,n411,n511,Yw,n911,WV⟩
 clear hs a4 a5 a6 a9 Wn X2;generalize Y11=J at*;have hZ11:=hK.r11;have hZs:=hK.sub;refine⟨ae,?_⟩;refine Xv rfl (vt l hl hb hn of Xi Wr ((k:Int)-1) 272 [.ptr i10 0 0,.ptr i5 0 0] (λb=>!hAt l of b k) (λb WX X' hτ=>Nz l hb hn of Xi Wr b WX k (hK.ask.mono hτ))) ?_;rintro v0 Z1 ⟨s1,o0,_⟩;have hK1:=hK.mono s1;clear hK s1;obtain⟨cv0,sv0⟩:=o0.vc;have c11:=hK1.r11;have c9:=hK1.ask.r9;have c5:=hK1.ask.r5;rw[o6]at c9;apply sR;simp only[go_sem,seval,c11,c9,c5,cv0,sv0,ab n911,ab n511,af,aj];have hK2:=hK1.put (w:=.agg [v0,.aO,.aO,vI (-1)]);have o0':ay (bE U i11) (C' Z1 i11 ⟨259,4,[.agg [v0,.aO,.aO,vI (-1)]]⟩) 3 1 v0 ((chR l of ((k:Int)-1) (λb=>!hAt l of b k)).map vI):=by
  rcases o0 with h|⟨id,g1,g2,g3⟩
  .exact .inl h
  .have g3:J id=none:=g3;have V2:id≠i11:=λe=>by rw[e,hZ11]at g3;cases g3
   exact .inr ⟨id,g1,by rw[ab V2];exact g2,aQ.2 ⟨V2,hZs.none g3⟩⟩
 generalize C' Z1 i11 ⟨259,4,[.agg [v0,.aO,.aO,vI (-1)]]⟩=Y2 at*;refine Xv rfl (vt l hl hb hn of Xi Wr k 273 [.ptr i10 0 0,.ptr i5 0 0] (λb=>!hAt l of b ((k:Int)-1)) (λb WX X' hτ=>Ng l hb hn of Xi Wr b WX k (by omega) (by omega) (hK2.ask.mono hτ))) ?_;rintro v1 Z3 ⟨s3,o1,n1⟩;have hK3:=hK2.mono s3;have o03:=o0'.mono s3;obtain⟨cv1,sv1⟩:=o1.vc;have d11:=hK3.r11;have x11:=hK2.r11;apply sR;simp only[go_sem,seval,d11,cv0,sv0,cv1,sv1];have hK4:=hK3.put (w:=.agg [v0,v1,.aO,vI (-1)]);have push:∀{K Zx:ad} {v:V} {rows:List V} {o:Ob},K i11≠none->ay K Zx 3 1 v rows->ay K (C' Zx i11 o) 3 1 v rows:=λ{K Zx v rows o} hk h=>by
  rcases h with h|⟨id,g1,g2,g3⟩
  .exact .inl h
  .exact .inr ⟨id,g1,by rw[ab (λe=>by rw[e]at g3;exact hk g3)];exact g2,g3⟩
 have kk:bE U i11 i11≠none:=λh=>(aQ.1 h).1 rfl;have o1':ay Y2 Z3 3 1 v1 _:=o1;have o04:=push (o:=⟨259,4,[.agg [v0,v1,.aO,vI (-1)]]⟩) kk o03;have o14:=push (o:=⟨259,4,[.agg [v0,v1,.aO,vI (-1)]]⟩) (by rw[x11];simp) o1';generalize C' Z3 i11 ⟨259,4,[.agg [v0,v1,.aO,vI (-1)]]⟩=Y4 at*;have Xg:∀kk p,(chR l of kk p).length<=1000000:=λkk p=>by
  unfold chR;split
  .have h1:=List.length_filter_le p (abv l (of.getD kk.toNat 0).toNat);have h2:=j6 l (l.length+1) (dh l (of.getD kk.toNat 0).toNat);have h3:(abv l (of.getD kk.toNat 0).toNat).length<=l.length+1:=h2;omega
  .simp
 refine Xv rfl (Ge _ (Xg _ _) o14 n1) ?_;rintro r Z5 ⟨rfl,o15,Yk⟩;have y5:=hK2.ask.r5;have hK5:KR l of k i4 i5 i6 i9 i10 i11 (.agg [v0,v1,.aO,vI (-1)]) U Z5:=
  ⟨⟨Yk _ _ hK4.ask.r4 (.inl (by simp)),Yk _ _ hK4.ask.r5 (.inr (by rw[y5];simp)),Yk _ _ hK4.ask.r9 (.inl (by simp)),Yk _ _ hK4.ask.r10 (.inl (by simp))⟩,Yk _ _ hK4.r6 (.inl (by simp)),Yk _ _ hK4.r11 (.inl (by simp)),
    λi o h=>Yk _ _ (hK4.sub _ _ h) (.inr (by rw[hK2.sub _ _ h];simp)),hK4.no,hK4.ne⟩
 have o05:ay (bE U i11) Z5 3 1 v0 ((chR l of ((k:Int)-1) (λb=>!hAt l of b k)).map vI):=by
  rcases o0' with h|⟨id,g1,g2,g3⟩
  .exact .inl h
  .rcases o04 with⟨e,_⟩|⟨Xn,e1,e2,_⟩
   .rw[g1]at e;cases e
   .rw[g1]at e1;injection e1 with e1 _ _
    subst e1;exact .inr ⟨id,g1,Yk _ _ e2 (.inr (by rw[g2];simp)),g3⟩
 have e9:=hK5.ask.r9;have e5:=hK5.ask.r5;have e11:=hK5.r11;rw[o6]at e9;apply sR;simp only[go_sem,seval,e9,e5,e11,af,aj];refine Xv rfl (vt l hl hb hn of Xi Wr k 275 [.ptr i10 0 0,.ptr i5 0 0] (λb=>hAt l of b ((k:Int)-1)) (λb WX X' hτ=>Mt l hb hn of Xi Wr b WX k (by omega) (by omega) (hK5.ask.mono hτ))) ?_;rintro v2 Z6 ⟨s6,o2,_⟩;have hK6:=hK5.mono s6;have o06:=o05.mono s6;have o16:=o15.mono s6;have o2':ay Z5 Z6 3 1 v2 _:=o2;obtain⟨cv2,sv2⟩:=o2.vc;have f11:=hK6.r11;have f4:=hK6.ask.r4;have f5:=hK6.ask.r5;have f6:=hK6.r6;have push':∀{K:ad} {J:ad} {v:V} {rows x:List V} {i:Nat} {o:Ob},J i=some ⟨259,4,x⟩->ay K J 3 1 v rows->ay K (C' J i o) 3 1 v rows:=λ{K J v rows x i o} hi h=>by
  rcases h with h|⟨id,g1,g2,g3⟩
  .exact .inl h
  .refine .inr ⟨id,g1,?_,g3⟩;rw[ab (λe=>by rw[e,hi]at g2;cases g2)];exact g2
 have hsK1:aa U (bE U i11):=λi o h=>by rw[bE,aD (λe=>by rw[e,hK6.no]at h;cases h)];exact h
 have fin:∀(t:Int) (o:Ob),t=(cK l of k).text->ak (.VG [.agg [v0,v1,v2,vI t],vI 0]) (C' (C' Z6 i11 ⟨259,4,[.agg [v0,v1,v2,vI t]]⟩) i6 o) λr Z'=>r=.VG [gF (cK l of k),vI 0]/\Z'=U:=by
  intro t o ht;have g6:=f6;rw[<-ab (U:=Z6) (o:=⟨259,4,[.agg [v0,v1,v2,vI t]]⟩) Yw]at g6;have p0:=push' (o:=o) g6 (push' (o:=⟨259,4,[.agg [v0,v1,v2,vI t]]⟩) f11 o06);have p1:=push' (o:=o) g6 (push' (o:=⟨259,4,[.agg [v0,v1,v2,vI t]]⟩) f11 o16);have p2:=push' (o:=o) g6 (push' (o:=⟨259,4,[.agg [v0,v1,v2,vI t]]⟩) f11 o2');have VP:=((hK6.sub.az (o:=⟨259,4,[.agg [v0,v1,v2,vI t]]⟩) hK6.no)).az (o:=o) z6;refine⟨_,U,VP,Wk.VG (vs':=[gF (cK l of k),vI 0]) ⟨Wk.agg (vs':=[bb (cK l of k).ends,bb (cK l of k).XT,bb (cK l of k).both,vI (cK l of k).text]) ⟨p0.wk hsK1 VP,p1.wk hK2.sub VP,p2.wk hK5.sub VP,by rw[<-ht];exact Wk.refl VP _,trivial⟩,Wk.refl VP _,trivial⟩,rfl,rfl⟩
 rcases Nat.eq_zero_or_pos k with rfl|h0
 .have q3:((((0:Nat):Int))>0)=False:=H';have ft:=fin (-1);apply sR;simp only[go_sem,seval,f11,f4,f5,f6,cv0,sv0,cv1,sv1,cv2,sv2,ab n411,ab n511,ab Yw,ab n911,ab WV,q3,af,aj,al,aM];exact fin _ _ (by simp[cK])
 have q3:((k:Int)>0)=True:=L';by_cases h1:k<of.length
 .have q4:=qT h1;have q5:=ae (m:=((k-1:Nat):Int)) (by omega) (by omega);have q6:((k:Int)-1)=((k-1:Nat):Int):=by omega
  have q7:=λU=>du (U:=U) h1;have q8:=λU=>du (U:=U) (l:=of) (i:=k-1) (by omega);have g1:of.getD k 0=of[k]:=by simp[h1]
  have g2:of.getD (k-1) 0=of[k-1]:=by have:k-1<of.length:=by omega
                                      simp[this]
  by_cases h2:of.getD k 0=of.getD (k-1) 0
  .have q9:(of[k]=of[k-1])=True:=L' (by rw[<-g1,<-g2];exact h2);apply sR;simp only[go_sem,seval,f11,f4,f5,f6,cv0,sv0,cv1,sv1,cv2,sv2,ab n411,ab n511,ab Yw,ab n911,ab WV,q3,q4,q5,q6,q7,q8,q9,WL,af,aj,al,aM];exact fin _ _ (by simp only[cK];rw[av ⟨h0,h1,h2⟩,g1])
  .have q9:(of[k]=of[k-1])=False:=H' (by rw[<-g1,<-g2];exact h2);apply sR;simp only[go_sem,seval,f11,f4,f5,f6,cv0,sv0,cv1,sv1,cv2,sv2,ab n411,ab n511,ab Yw,ab n911,ab WV,q3,q4,q5,q6,q7,q8,q9,WL,af,aj,al,aM];exact fin _ _ (by simp only[cK];rw[aD (λh=>h2 h.2.2)])
 .have q4:=qF h1;apply sR;simp only[go_sem,seval,f11,f4,f5,f6,cv0,sv0,cv1,sv1,cv2,sv2,ab n411,ab n511,ab Yw,ab n911,ab WV,q3,q4,WL,af,aj,al,aM];exact fin _ _ (by simp only[cK];rw[aD (λh=>h1 h.2.1)])
open Go.Proofs
def XA(l:List Nd)(b:Int):Xh:=((l[b.toNat]?).map Nd.st).getD Xh.zero
def iL(l:List Nd)(b:Int):List Int:=(if 0<(XA l b).head then[2]else[])++[(XA l b).before]
def AM(l:List Nd)(x:Kn):List Int:=x.ends.map (λb=>(XA l b).after)++x.XT.flatMap (iL l)
def eU{l:List Nd}{b:Nat}(h:b<l.length):XA l b=l[b].st:=by simp[XA,h]
def Df(l:List Nd)(x:Kn)(hE:x.ends.length<=1000000)(hB:x.XT.length<=1000000)(he:∀b∈x.ends,∃n:Nat,b=n/\n<l.length)(hb:∀b∈x.XT,∃n:Nat,b=n/\n<l.length):
 Iter prog 276 [.rp (gF x),.rp (aF l)] ((AM l x).map λn=>[vI n]):=by
 refine⟨Rk.c,λWp τ Jx Z0 hy hJ=>?_⟩;refine(Rk.q ?_).2;obtain⟨E,B,C,tx⟩:=x;simp only at hE hB he hb;have hlE:=dd E;have hlB:=dd B;have ldI:∀(U:ad) (X:List Int),cj U false 1 (.rp (bb X))=some (bb X):=λU X=>rfl;have ldN:∀U:ad,cj U false 1 (.rp (aF l))=some (aF l):=λU=>rfl;generalize hT:(AM l ⟨E,B,C,tx⟩).map (λn=>[vI n])=T at hy|-;refine mS 9 ?_;simp only[go_sem,seval,Ri,gF,ldI,hlE,aj,al];refine ai.gy (λst=>∃(ZJ:ad),τ ((E.map λb=>(XA l b).after).map λn=>[vI n]) ZJ/\aa ZJ st.U/\st.s 0=.yl Wp/\st.s 1=.rp (gF ⟨E,B,C,tx⟩)/\st.s 2=.rp (aF l))
  (λm st=>∃(j:Nat) (ZJ:ad),j<=E.length/\m=E.length-j/\τ (((E.take j).map λb=>(XA l b).after).map λn=>[vI n]) ZJ/\aa ZJ st.U/\st.s 0=.yl Wp/\st.s 1=.rp (gF ⟨E,B,C,tx⟩)/\st.s 2=.rp (aF l)/\st.s 10=bb E/\st.s 11=vI E.length/\st.s 12=vI j) E.length ?_ ?_ ?_
 .exact⟨0,Z0,by omega,rfl,by simpa using hJ,aa.refl _,rfl,rfl,rfl,rfl,rfl,rfl⟩
 .rintro m ⟨S,J⟩ ⟨j,ZJ,hj,rfl,Yj,G',t0,t1,t2,t10,t11,t12⟩;simp only at G' t0 t1 t2 t10 t11 t12;refine ai.mix 9 ?_;by_cases B':j<E.length
  .have q:=qT B';have VC:=λU=>du (U:=U) B';have V9:E.take (j+1)=E.take j++[E[j]]:=XH B';obtain⟨b,hbe,WX⟩:=he _ (Ws B');have e0':E=E.take j++E[j]::E.drop (j+1):=by rw[<-ju B',ua]
   have e:T=(((E.take j).map λb=>(XA l b).after).map λn=>[vI n])++[vI l[b].st.after]::((((E.drop (j+1)).map λb=>(XA l b).after)++B.flatMap (iL l)).map λn=>[vI n]):=by
    rw[<-hT,AM]
    conv=>lhs;rw[e0']
    simp[hbe,eU WX]
   rw[hbe]at VC V9;have WQ:=λU=>bR (U:=U) (l:=l) (a:=b) WX;have r1:=rI j;apply sR;simp only[go_sem,seval,t0,t1,t2,t10,t11,t12,q,VC,ldN,WQ,Nd.cells];refine ai.oV (Post:=λb' Z2=>∃Wh,bF ZJ J Wh Z2/\((b'=true/\τ ((((E.take j).map λb=>(XA l b).after).map λn=>[vI n])++[[vI l[b].st.after]]) Wh)\/(b'=false/\Jx ((((E.take j).map λb=>(XA l b).after).map λn=>[vI n])++[[vI l[b].st.after]]) Wh))) rfl rfl rfl (hy _ [vI l[b].st.after] _ ZJ J e Yj G') ?_;rintro b' Z2 ⟨Wh,Ya,XL⟩;rcases XL with⟨rfl,XL⟩|⟨rfl,XL⟩
   .apply sR;simp only[go_sem,seval,t0,t1,t2,t10,t11,t12,r1];refine⟨_,?_,j+1,Wh,by omega,rfl,by rw[V9];simpa[eU WX]using XL,Ya.1,by simp[t0,t1,t2,t10,t11]⟩;omega
   .apply sR;simp only[go_sem,seval,t0,t1,t2,t10,t11,t12];exact⟨_,Wh,Ya.1,Wk.refl Ya.1 _,.inr ⟨_,⟨_,by rw[e,lq];rfl⟩,XL⟩⟩
  .have q:=qF B';rw[nq (by omega)]at Yj;apply sR;simp only[go_sem,seval,t0,t1,t2,t10,t11,t12,q];exact⟨ZJ,Yj,G'⟩
 .rintro⟨S,J⟩ ⟨ZJ,Yj,G',t0,t1,t2⟩;simp only at G' t0 t1 t2;generalize hP:((E.map λb=>(XA l b).after).map λn=>[vI n])=P1 at*;refine mS 9 ?_;simp only[go_sem,seval,t0,t1,t2,gF,ldI,hlB,aj,al];refine ai.loop (λm st=>∃(j:Nat) (ZJ:ad),j<=B.length/\m=B.length-j/\τ (P1++((B.take j).flatMap (iL l)).map λn=>[vI n]) ZJ/\aa ZJ st.U/\st.s 0=.yl Wp/\st.s 2=.rp (aF l)/\st.s 27=bb B/\st.s 28=vI B.length/\st.s 29=vI j) B.length ?_ ?_
  .exact⟨0,ZJ,by omega,rfl,by simpa using Yj,G',t0,t2,rfl,rfl,rfl⟩
  .clear Yj G' t0 t1 t2;rintro m ⟨S,J⟩ ⟨j,ZJ,hj,rfl,Yj,G',t0,t2,t27,t28,t29⟩;simp only at G' t0 t2 t27 t28 t29;refine ai.mix 9 ?_;by_cases B':j<B.length
   .have q:=qT B';have VC:=λU=>du (U:=U) B';have V9:B.take (j+1)=B.take j++[B[j]]:=XH B';obtain⟨b,hbe,WX⟩:=hb _ (Ws B');have e0':B=B.take j++B[j]::B.drop (j+1):=by rw[<-ju B',ua]
    have e:T=(P1++((B.take j).flatMap (iL l)).map λn=>[vI n])++((iL l b).map λn=>[vI n])++(((B.drop (j+1)).flatMap (iL l)).map λn=>[vI n]):=by
     rw[<-hT,AM,dG,hP]
     conv=>lhs;rw[e0']
     simp[hbe]
    rw[hbe]at VC V9;have WQ:=λU=>bR (U:=U) (l:=l) (a:=b) WX;have r1:=rI j;have hs:=aa.refl J;have htk2:(P1++((B.take (j+1)).flatMap (iL l)).map λn=>[vI n])=(P1++((B.take j).flatMap (iL l)).map λn=>[vI n])++((iL l b).map λn=>[vI n]):=by rw[V9];simp
    generalize (P1++((B.take j).flatMap (iL l)).map λn=>[vI n])=P2 at*;have hbg:iL l b=(if 0<l[b].st.head then[2]else[])++[l[b].st.before]:=by rw[iL,eU WX]
    apply sR;simp only[go_sem,seval,t0,t2,t27,t28,t29,q,VC,ldN,WQ,Nd.cells];refine ar hs λi8 Z8 s8 a8 f8 z8 hs=>?_;simp only[go_sem,seval,a8,t0,t2,t27,t28,t29,ldN,WQ,Nd.cells];generalize Xm:C' _ i8 _=Y8;replace a8:=WC Xm;replace hs:=WD Xm hs z8;generalize ((B.drop (j+1)).flatMap (iL l)).map (λn=>[vI n])=R2 at*;refine⟨λh0=>?_,λh0=>?_⟩
    .have e1:T=P2++[vI 2]::([vI l[b].st.before]::R2):=by rw[e,hbg,av h0];simp
     have e2:T=(P2++[[vI 2]])++[vI l[b].st.before]::R2:=by rw[e1];simp
     have e3:(P2++[[vI 2]])++[[vI l[b].st.before]]=P2++(iL l b).map λn=>[vI n]:=by rw[hbg,av h0];simp
     have hsub8:aa ZJ Y8:=G'.trans hs;refine ai.oV (Post:=λb' Z2=>∃Wh,bF ZJ Y8 Wh Z2/\((b'=true/\τ (P2++[[vI 2]]) Wh)\/(b'=false/\Jx (P2++[[vI 2]]) Wh))) rfl rfl rfl (hy _ [vI 2] _ ZJ Y8 e1 Yj hsub8) ?_;rintro b' Z2 ⟨Wh,Ya,XL⟩;rcases XL with⟨rfl,XL⟩|⟨rfl,XL⟩
     .have a8':=(Ya.2 i8 _ (G'.none z8) a8).1;apply sR;simp only[go_sem,seval,t0,t2,t27,t28,t29,a8'];refine ai.oV (Post:=λb' Z3=>∃ZJ3,bF Wh Z2 ZJ3 Z3/\((b'=true/\τ ((P2++[[vI 2]])++[[vI l[b].st.before]]) ZJ3)\/(b'=false/\Jx ((P2++[[vI 2]])++[[vI l[b].st.before]]) ZJ3))) rfl rfl rfl (hy _ [vI l[b].st.before] _ Wh Z2 e2 XL Ya.1) ?_;rintro b3 Z3 ⟨ZJ3,hbs3,hbb3⟩;rcases hbb3 with⟨rfl,hbb3⟩|⟨rfl,hbb3⟩
      .apply sR;simp only[go_sem,seval,t0,t2,t27,t28,t29,r1];refine⟨_,?_,j+1,ZJ3,by omega,rfl,by rw[htk2,<-e3];exact hbb3,hbs3.1,by simp[t0,t2,t27,t28]⟩;omega
      .apply sR;simp only[go_sem,seval,t0,t2,t27,t28,t29];exact⟨_,ZJ3,hbs3.1,Wk.refl hbs3.1 _,.inr ⟨_,⟨_,by rw[e2,lq];rfl⟩,hbb3⟩⟩
     .apply sR;simp only[go_sem,seval,t0,t2,t27,t28,t29];exact⟨_,Wh,Ya.1,Wk.refl Ya.1 _,.inr ⟨_,⟨_,by rw[e1,lq];rfl⟩,XL⟩⟩
    .have e2:T=P2++[vI l[b].st.before]::R2:=by rw[e,hbg,aD (by omega)];simp
     have e3:P2++[[vI l[b].st.before]]=P2++(iL l b).map λn=>[vI n]:=by rw[hbg,aD (by omega)];simp
     have hsub8:aa ZJ Y8:=G'.trans hs;apply sR;simp only[go_sem,seval,t0,t2,t27,t28,t29,a8];refine ai.oV (Post:=λb' Z3=>∃ZJ3,bF ZJ Y8 ZJ3 Z3/\((b'=true/\τ (P2++[[vI l[b].st.before]]) ZJ3)\/(b'=false/\Jx (P2++[[vI l[b].st.before]]) ZJ3))) rfl rfl rfl (hy _ [vI l[b].st.before] _ ZJ Y8 e2 Yj hsub8) ?_;rintro b3 Z3 ⟨ZJ3,hbs3,hbb3⟩;rcases hbb3 with⟨rfl,hbb3⟩|⟨rfl,hbb3⟩
     .apply sR;simp only[go_sem,seval,t0,t2,t27,t28,t29,r1];refine⟨_,?_,j+1,ZJ3,by omega,rfl,by rw[htk2,<-e3];exact hbb3,hbs3.1,by simp[t0,t2,t27,t28]⟩;omega
     .apply sR;simp only[go_sem,seval,t0,t2,t27,t28,t29];exact⟨_,ZJ3,hbs3.1,Wk.refl hbs3.1 _,.inr ⟨_,⟨_,by rw[e2,lq];rfl⟩,hbb3⟩⟩
   .have q:=qF B';rw[nq (by omega),<-hP,<-dG]at Yj;apply sR;simp only[go_sem,seval,t0,t2,t27,t28,t29,q];exact⟨_,ZJ,G',Wk.refl G' _,.inl (hT▸Yj)⟩
open Go.Proofs
def nX{l:List Nd}{of:List Int}(Wr:∀x∈of,0<=x/\x<l.length){k:Int}{p:Int->Bool}:∀b∈chR l of k p,∃n:Nat,b=n/\n<l.length:=λb hb=>by
 unfold chR at hb;split at hb
 .rename_i h;have B':k.toNat<of.length:=by omega
  have ZK:of.getD k.toNat 0=of[k.toNat]:=by simp[B']
  rw[ZK]at hb;obtain⟨h0,h1⟩:=Wr _ (Ws B');obtain⟨n,rfl,hn⟩:=qK (l:=l) (a:=of[k.toNat].toNat) (by omega) b (rC.1 hb).1;exact⟨n,rfl,by omega⟩
 .cases hb
def lI{l:List Nd}(hn:l.length<=100000){of:List Int}{k:Int}{p:Int->Bool}:(chR l of k p).length<=100001:=by
 unfold chR;split
 .have h1:=List.length_filter_le p (abv l (of.getD k.toNat 0).toNat);have h2:=j6 l (l.length+1) (dh l (of.getD k.toNat 0).toNat);have h3:(abv l (of.getD k.toNat 0).toNat).length<=l.length+1:=h2;omega
 .simp
def Ap(l:List Nd)(b:Int):(iL l b).length<=2:=by unfold iL;split<;>simp
def wG{α β:Type}(f:α->List β)(hf:∀a,(f a).length<=2):∀L:List α,(L.flatMap f).length<=2*L.length
 |[]=>by simp
 |a::L=>by
  rw[zq,jm,XU];have:=wG f hf L;have:=hf a;omega
def iD(l:List Nd)(of:List Int)(k:Nat):List Int:=if k=of.length then[]else AM l (cK l of k)
def Bv{l:List Nd}(hn:l.length<=100000)(of:List Int)(k:Nat):(AM l (cK l of k)).length<=1000000:=by
 unfold AM;rw[jm,cO];have h1:=wG (iL l) (Ap l) (cK l of k).XT;have h2:(cK l of k).ends.length<=100001:=lI hn;have h3:(cK l of k).XT.length<=100001:=by
  rw[cK,List.length_reverse];exact lI hn
 omega
def Gy(l:List Nd)(x:Kn):aL prog 239 [aF l,gF x] (.fn 276 [.rp (gF x),.rp (aF l)]):=λU=>by
 refine TN.q ?_;refine ai.mix 4 ?_;have q1:=af l;have q2:=aM l;generalize aF l=y at*;obtain⟨E,B,C,tx⟩:=x;simp only[gF];apply sR;simp only[go_sem,seval,OG,q1,q2,aj,al];refine aA λid1 Z1 s1 a1 f1=>?_;simp only[go_sem,seval,q1,q2,aj,al];refine aA λid2 Z2 s2 a2 f2=>?_;simp only[go_sem,seval];exact⟨_,U,s1.trans s2,Wk.fn (vs':=[.rp (.agg [bb E,bb B,bb C,vI tx]),.rp y]) ⟨Wk.ptr (s1.trans s2) a2 (s1.none f2),Wk.ptr (s1.trans s2) (s2 _ _ a1) f1,trivial⟩,rfl,rfl⟩
def DR(l:List Nd)(hl:ep l)(hb:Wg l=true)(of:List Int)(Xi:of.length<=1000000)(Wr:∀x∈of,0<=x/\x<l.length)(hm:rX l of=true)(k:Nat)(hk:k<=of.length):
 aL prog 186 [aF l,bb of,vI k] (.VG [bb (iD l of k),vI 0]):=λU=>by
 refine UZ.q ?_;have hs:=aa.refl U;have WL:=dd of;have hn:l.length<=100000:=by have:=hl.1;omega
 refine mS 10 ?_;simp only[go_sem,seval,Od];refine pS rfl (EG l hl hb of Xi Wr hm k hk _) ?_;simp only[go_sem,seval,gF];refine ar hs λi8 Z8 s8 a8 f8 z8 hs=>?_;have q0:((0:Int)≠0)=False:=H' (λh=>h rfl);by_cases hkk:k=of.length
 .have q1:((k:Int)=of.length)=True:=L';simp only[go_sem,seval,a8,WL,q0,q1,gF,aj,al];rw[iD,av hkk];have VP:=hs.az (o:=⟨259,4,[gF (cK l of k)]⟩) z8;exact⟨_,U,VP,Wk.VG (vs':=[bb [],vI 0]) ⟨(ay.start (e:=3)).wk (aa.refl _) VP,Wk.refl VP _,trivial⟩,rfl,rfl⟩
 .have q1:((k:Int)=of.length)=False:=H';simp only[go_sem,seval,a8,WL,q0,q1,gF,aj,al];refine pS rfl (Gy l (cK l of k) _) ?_;simp only[go_sem,seval];have YX:=Bv hn of k;have hit:=Df l (cK l of k) (j2 (lI hn) (by omega)) (by rw[cK,List.length_reverse];exact j2 (lI hn) (by omega)) (nX Wr) (λb hb=>nX Wr b (Kd.1 hb));refine pS rfl (xH hit YX _) ?_;simp only[go_sem,seval];rw[iD,aD hkk];have VP:=hs.az (o:=⟨259,4,[gF (cK l of k)]⟩) z8;exact⟨_,U,VP,Wk.refl VP _,rfl,rfl⟩
open Go.Proofs
def mN(out n:Int)(over:Bool):Int:=if over=true\/out=0 then n else out
def kx(out n:Int):Int:=if n=3\/n=4 then mN out n true else if n=2 then mN out n false else out
def dc(all:List Int):Int:=all.foldl kx 0
def zR(n:Int)(over:Bool)(out:Int){U:ad}{i3:Nat}(h:U i3=some ⟨3,1,[vI out]⟩):
 au prog 240 [vI n,.bool over,.ptr i3 0 0] U λ_ Z'=>Z' i3=some ⟨3,1,[vI (mN out n over)]⟩/\∀i,i≠i3->Z' i=U i:=by
 refine SS.q ?_;refine ai.mix 5 ?_;have fin:∀J:ad,J i3=some ⟨3,1,[vI (mN out n over)]⟩->(∀i,i≠i3->J i=U i)->ak (.VG []) J λ_ Z'=>Z' i3=some ⟨3,1,[vI (mN out n over)]⟩/\∀i,i≠i3->Z' i=U i:=λJ h1 h2=>
  ⟨_,J,aa.refl _,Wk.refl (aa.refl _) _,h1,h2⟩
 by_cases h0:over=true\/out=0
 .have ht:mN out n over=n:=av h0;rw[ht]at fin|-;cases over
  .have q:(out=0)=True:=L' (by simpa using h0);apply sR;simp only[go_sem,seval,JB,h,q];exact fin _ ag λi hi=>ab hi
  .apply sR;simp only[go_sem,seval,JB,h];exact fin _ ag λi hi=>ab hi
 .have ht:mN out n over=out:=aD h0;rw[ht]at fin|-;simp only[not_or,Bool.not_eq_true]at h0;obtain⟨rfl,h0⟩:=h0;have q:(out=0)=False:=H' h0;apply sR;simp only[go_sem,seval,JB,h,q];exact fin _ h λi hi=>rfl
def H3(all:List Int)(YX:all.length<=1000000):aL prog 187 [bb all] (vI (dc all)):=λU=>by
 refine Vz.q ?_;have hs:=aa.refl U;have XD:=dd all;refine mS 8 ?_;simp only[go_sem,seval,O3];refine ar hs λi3 Z3 s3 a3 f3 z3 hs=>?_;simp only[go_sem,seval,a3,XD];generalize hq3:C' _ i3 _=X3;replace a3:=WC hq3;replace hs:=WD hq3 hs z3;refine ai.gy (λst=>st.U i3=some ⟨3,1,[vI (dc all)]⟩/\aa U st.U/\st.s 3=.ptr i3 0 0)
  (λm st=>∃j:Nat,j<=all.length/\m=all.length-j/\st.U i3=some ⟨3,1,[vI (dc (all.take j))]⟩/\aa U st.U/\st.s 3=.ptr i3 0 0/\st.s 4=.fn 240 [.ptr i3 0 0]/\st.s 9=bb all/\st.s 10=vI all.length/\st.s 11=vI j) all.length ?_ ?_ ?_
 .exact⟨0,by omega,rfl,a3,hs,rfl,rfl,rfl,rfl,rfl⟩
 .clear a3 hs;rintro m ⟨S,J⟩ ⟨j,hj,rfl,b3,hs,t3,t4,t9,t10,t11⟩;simp only at b3 hs t3 t4 t9 t10 t11;refine ai.mix 8 ?_;by_cases B':j<all.length
  .have q:=qT B';have VC:=λU=>du (U:=U) B';have V9:dc (all.take (j+1))=kx (dc (all.take j)) all[j]:=by
    rw[dc,XH B',kZ];rfl
   have r1:=rI j;generalize all[j]=n at*;have sub2:∀{ρ:ad} {o:Ob},ρ i3=some o->(∀i,i≠i3->ρ i=J i)->aa U ρ:=λ{ρ o} h1 h2 i x hx=>by
    rw[h2 i (λe=>by rw[e,z3]at hx;cases hx)];exact hs _ _ hx
   by_cases h3:n=3
   .have q3:(n=3)=True:=L' h3;have VP:mN (dc (all.take j)) n true=kx (dc (all.take j)) n:=by rw[kx,av (.inl h3)]
    apply sR;simp only[go_sem,seval,t3,t4,t9,t10,t11,q,q3,VC];refine Xv rfl (zR n true (dc (all.take j)) b3) ?_;rintro-ρ ⟨g1,g2⟩;apply sR;simp only[go_sem,seval,t3,t4,t9,t10,t11,r1];refine⟨_,?_,j+1,by omega,rfl,by rw[V9];exact VP▸g1,sub2 g1 g2,by simp[t3,t4,t9,t10]⟩;omega
   .have q3:(n=3)=False:=H' h3;by_cases h4:n=4
    .have q4:(n=4)=True:=L' h4;have VP:mN (dc (all.take j)) n true=kx (dc (all.take j)) n:=by rw[kx,av (.inr h4)]
     apply sR;simp only[go_sem,seval,t3,t4,t9,t10,t11,q,q3,q4,VC];refine Xv rfl (zR n true (dc (all.take j)) b3) ?_;rintro-ρ ⟨g1,g2⟩;apply sR;simp only[go_sem,seval,t3,t4,t9,t10,t11,r1];refine⟨_,?_,j+1,by omega,rfl,by rw[V9];exact VP▸g1,sub2 g1 g2,by simp[t3,t4,t9,t10]⟩;omega
    .have q4:(n=4)=False:=H' h4;by_cases h2:n=2
     .have q2:(n=2)=True:=L' h2;have VP:mN (dc (all.take j)) n false=kx (dc (all.take j)) n:=by rw[kx,aD (by simp[h3,h4]),av h2]
      apply sR;simp only[go_sem,seval,t3,t4,t9,t10,t11,q,q3,q4,q2,VC];refine Xv rfl (zR n false (dc (all.take j)) b3) ?_;rintro-ρ ⟨g1,g2⟩;apply sR;simp only[go_sem,seval,t3,t4,t9,t10,t11,r1];refine⟨_,?_,j+1,by omega,rfl,by rw[V9];exact VP▸g1,sub2 g1 g2,by simp[t3,t4,t9,t10]⟩;omega
     .have q2:(n=2)=False:=H' h2;have VP:dc (all.take j)=kx (dc (all.take j)) n:=by rw[kx,aD (by simp[h3,h4]),aD h2]
      apply sR;simp only[go_sem,seval,t3,t4,t9,t10,t11,q,q3,q4,q2,r1,VC];refine⟨_,?_,j+1,by omega,rfl,by rw[V9,<-VP];exact b3,hs,by simp[t3,t4,t9,t10]⟩;omega
  .have q:=qF B';rw[nq (by omega)]at b3;apply sR;simp only[go_sem,seval,t3,t4,t9,t10,t11,q];exact⟨b3,hs⟩
 .rintro⟨S,J⟩ ⟨b3,hs,t3⟩;simp only at b3 hs t3;refine mS 8 ?_;simp only[go_sem,seval,t3,b3];exact⟨_,U,hs,Wk.refl hs _,rfl,rfl⟩
open Go.Proofs
def jg(l:List Nd)(of:List Int)(k:Nat):Int:=dc (iD l of k)
def mD{l:List Nd}(hn:l.length<=100000)(of:List Int)(k:Nat):(iD l of k).length<=1000000:=by
 unfold iD;split
 .simp
 .exact Bv hn of k
def Qb(l:List Nd)(hl:ep l)(hb:Wg l=true)(of:List Int)(Xi:of.length<=1000000)(Wr:∀x∈of,0<=x/\x<l.length)(hm:rX l of=true)(k:Nat)(hk:k<=of.length):
 aL prog 137 [aF l,bb of,vI k] (.VG [vI (jg l of k),vI 0]):=λU=>by
 refine SU.q ?_;have hs:=aa.refl U;have hn:l.length<=100000:=by have:=hl.1;omega
 refine mS 11 ?_;simp only[go_sem,seval,Qo];refine pS rfl (DR l hl hb of Xi Wr hm k hk _) ?_;simp only[go_sem,seval];refine pS rfl (H3 _ (mD hn of k) _) ?_;simp only[go_sem,seval];exact ak.pure hs rfl
def tL(l:List Nd)(of:List Int):List Int:=(List.range (of.length+1)).map (jg l of)
def Nb(l:List Nd)(hl:ep l)(hb:Wg l=true)(of:List Int)(Xi:of.length<=1000000)(Wr:∀x∈of,0<=x/\x<l.length)(hm:rX l of=true):
 aL prog 87 [aF l,bb of] (.VG [bb (tL l of),vI 0]):=λU=>by
 refine e87.q ?_;have hs:=aa.refl U;have WL:=dd of;refine mS 11 ?_;simp only[go_sem,seval,c87];refine pR rfl (rk l hl hb of Xi hm _) ?_;have q0:((0:Int)≠0)=False:=H' (λh=>h rfl);have r0:VO .i64 ((of.length:Int)+1):=ae;apply sR;simp only[go_sem,seval,q0,WL,r0];refine ai.gy (λst=>aa U st.U/\ay U st.U 3 1 (st.s 7) ((tL l of).map vI))
  (λm st=>∃j:Nat,j<=of.length+1/\m=of.length+1-j/\aa U st.U/\ay U st.U 3 1 (st.s 7) (((List.range j).map (jg l of)).map vI)/\st.s 0=aF l/\st.s 1=bb of/\st.s 19=vI ((of.length:Int)+1)/\st.s 20=vI j) (of.length+1) ?_ ?_ ?_
 .exact⟨0,by omega,rfl,hs,ay.start,rfl,rfl,rfl,rfl⟩
 .clear hs;rintro m ⟨S,J⟩ ⟨j,hj,rfl,hs,ho,t0,t1,t19,t20⟩;simp only at hs ho t0 t1 t19 t20;generalize Ym:S 7=v7 at ho;refine ai.mix 11 ?_;by_cases B':j<of.length+1
  .have q:((j:Int)<of.length+1)=True:=L';have r1:=rI j;have V8:(((List.range (j+1)).map (jg l of)).map vI)=(((List.range j).map (jg l of)).map vI)++[vI (jg l of j)]:=by
    rw[List.range_succ];simp
   have Xc:(((List.range j).map (jg l of)).map vI).length=j:=by simp
   apply sR;simp only[go_sem,seval,t0,t1,t19,t20,q];refine pR rfl (Qb l hl hb of Xi Wr hm j (by omega) _) ?_;generalize ((List.range j).map (jg l of)).map vI=rows at*;apply sR;simp only[go_sem,seval,t0,t1,t19,t20,Ym];refine aA λi32 Z32 s32 a32 f32=>?_;obtain⟨idA,Wi,VL,WM,ZO⟩:=ho.mn s32;have V1:(rows.length+1)*9<=140737488355328:=by omega
   simp only[go_sem,seval,t0,t1,t19,t20,Ym,Wi,bJ a32,V1];refine bt λi33 Z33 s33 a33 f33=>?_;have k33:=(VL U (aa.refl _) Z32 (hs.trans s32)).trans s33;have n33:U i33=none:=(hs.trans s32).none f33;simp only[go_sem,seval,t0,t1,t19,t20,r1];refine⟨_,?_,j+1,by omega,rfl,k33,?_,by simp[t0,t1,t19]⟩
   .omega
   .rw[V8];exact ay.new (by simp) a33 n33
  .have q:((j:Int)<of.length+1)=False:=H';have XS:j=of.length+1:=by omega
   subst XS;apply sR;simp only[go_sem,seval,t0,t1,t19,t20,q];exact⟨hs,Ym▸ho⟩
 .rintro⟨S,J⟩ ⟨hs,ho⟩;simp only at hs ho;generalize Ym:S 7=v7 at ho;refine mS 11 ?_;simp only[go_sem,seval,Ym];exact⟨_,U,hs,Wk.VG (vs':=[bb (tL l of),vI 0]) ⟨ho.wk (aa.refl _) hs,Wk.refl hs _,trivial⟩,rfl,rfl⟩
open Go.Proofs
def j8(l:List Nd)(of:List Int)(k:Int)(x:Kn):V:=.agg [bb x.ends,bb x.XT,bb x.both,vI x.text,aF l,bb of,vI k]
def Nq(l:List Nd)(hl:ep l)(hb:Wg l=true)(of:List Int)(Xi:of.length<=1000000)(Wr:∀x∈of,0<=x/\x<l.length)(hm:rX l of=true)(k:Nat)(hk:k<=of.length):
 aL prog 188 [aF l,bb of,vI k] (.VG [j8 l of k (cK l of k),vI 0]):=λU=>by
 refine SF.q ?_;have hs:=aa.refl U;refine mS 10 ?_;simp only[go_sem,seval,RJ];refine ar hs λi6 Z6 s6 a6 f6 z6 hs=>?_;simp only[go_sem,seval];refine pS rfl (EG l hl hb of Xi Wr hm k hk _) ?_;simp only[go_sem,seval,gF];refine ar hs λi8 Z8 s8 a8 f8 z8 hs=>?_;obtain⟨n68,a6⟩:=VB a6 f8 s8;simp only[go_sem,seval,a8,a6,ab n68,gF,af,aj,al,aM];exact ak.pure ((hs.az z8).az z6) rfl
def Ix:aL prog 241 [] (.agg [vI 0,vI 0,vI 0,vI 0,vI 0,vI 2,vI 2,vI 0,vI 0,vI 0,vI 0,vI 0]):=λU=>by
 refine Ti.q ?_;apply sR;simp only[go_sem,seval,OH];refine aA λid0 Z0 s0 a0 f0=>?_;simp only[go_sem,seval,a0];exact .pure (s0.az f0) rfl
def ui(a:Int):List Int->Nat->Int
 |[],_=>-1
 |q::r,i=>if q=a then i else ui a r (i+1)
def F5{a:Int}{p:List Int}{i:Nat}(h:i<p.length):ui a (p.drop i) i=if p[i]=a then(i:Int)else ui a (p.drop (i+1)) (i+1):=by
 rw[ju h,ui]
def Bn(a:Int):∀(p:List Int) (i:Nat),ui a p i>=0↔a∈p
 |[],_=>by simp[ui]
 |q::r,i=>by
  rw[ui];split
  .rename_i h;subst h;simp
  .rename_i h;rw[Bn a r (i+1),et];constructor
   .exact .inr
   .rintro(rfl|h2)
    .exact absurd rfl h
    .exact h2
def Iw(p:List Int)(hp:p.length<=1000000000)(a:Int):aL prog 277 [bb p,vI a] (vI (ui a p 0)):=λU=>by
 refine Uf.q ?_;have hlp:=dd p;refine mS 9 ?_;simp only[go_sem,seval,OD,hlp];refine ai.loop (λm st=>∃(i:Nat),i<=p.length/\m=p.length-i/\ui a p 0=ui a (p.drop i) i/\st.U=U/\st.s 0=bb p/\st.s 1=vI a/\st.s 7=vI p.length/\st.s 8=vI i) p.length ?_ ?_
 .exact⟨0,by omega,rfl,rfl,rfl,rfl,rfl,rfl,rfl⟩
 .rintro m ⟨s,Z'⟩ ⟨i,hi,rfl,heq,V7,h0,h1,h7,h8⟩;simp only at V7 h0 h1 h7 h8;subst V7;refine ai.mix 9 ?_;by_cases B':i<p.length
  .have q:=qT B';have hd:=F5 (a:=a) B';have VC:=λU=>du (U:=U) B';have r1:=rI i;by_cases hc:p[i]=a
   .have q1:(a=p[i])=True:=L' hc.symm;apply sR;simp only[go_sem,seval,h0,h1,h7,h8,q,VC,q1];refine ak.same ?_;rw[heq,hd,av hc]
   .have q1:(a=p[i])=False:=H' (λh=>hc h.symm);apply sR;simp only[go_sem,seval,h0,h1,h7,h8,q,VC,q1,r1];refine⟨_,?_,i+1,by omega,rfl,?_,by simp[h0,h1,h7]⟩
    .omega
    .rw[heq,hd,aD hc]
  .have q:=qF B';have Yh:i=p.length:=by omega
   apply sR;simp only[go_sem,seval,h0,h1,h7,h8,q];refine ak.same ?_;rw[heq,Yh,xp];rfl
def Bx(p:List Int)(hp:p.length<=1000000000)(a:Int):aL prog 245 [bb p,vI a] (.bool (decide (a∈p))):=λU=>by
 refine UY.q ?_;apply sR;simp only[go_sem,seval,RO];refine pR rfl (Iw p hp a _) ?_;have h:=Bn a p 0;by_cases ha:a∈p
 .have q:(ui a p 0>=0)=True:=L' (h.2 ha);apply sR;simp only[go_sem,seval,q];exact ak.same (by simp[ha])
 .have q:(ui a p 0>=0)=False:=H' (λhh=>ha (h.1 hh));apply sR;simp only[go_sem,seval,q];exact ak.same (by simp[ha])
open Go.Proofs
def fT(of:List Int)(t:Int)(k:Nat):Nat->Nat×Nat
 |0=>(0,0)
 |j+1=>if of.getD j 0=t then if j<k then((fT of t k j).1+1,(fT of t k j).2)else((fT of t k j).1,(fT of t k j).2+1)else fT of t k j
def jI(of:List Int)(t:Int)(k:Nat):Nat×Nat:=if t<0 then(0,0)else fT of t k of.length
def uz(of:List Int)(t:Int)(k:Nat):∀j,(fT of t k j).1<=j/\(fT of t k j).2<=j
 |0=>by simp[fT]
 |j+1=>by
  have:=uz of t k j;rw[fT];split
  .split<;>simp only<;>omega
  .omega
def Jc(l:List Nd)(of:List Int)(Xi:of.length<=1000000)(k:Nat)(x:Kn):
 aL prog 243 [j8 l of k x] (.VG [vI (jI of x.text k).1,vI (jI of x.text k).2]):=λU=>by
 refine Tf.q ?_;have hs:=aa.refl U;have WL:=dd of;obtain⟨E,B,C,t⟩:=x;simp only;refine mS 6 ?_;simp only[go_sem,seval,PC,j8,af,aj,al,aM];refine ar hs λi1 Z1 s1 a1 f1 z1 hs=>?_;unfold jI;by_cases ht:t<0
 .have q:(t<0)=True:=L' ht;simp only[go_sem,seval,a1,q,af,aj,al,aM];exact ak.pure hs (by simp[ht])
 have q:(t<0)=False:=H' ht;rw[aD ht];simp only[go_sem,seval,a1,q,WL,af,aj,al,aM];refine ai.loop (λm st=>∃j:Nat,j<=of.length/\m=of.length-j/\st.U=Z1/\st.s 1=.ptr i1 0 0/\st.s 2=vI (fT of t k j).1/\st.s 3=vI (fT of t k j).2/\st.s 11=bb of/\st.s 12=vI of.length/\st.s 13=vI j) of.length ?_ ?_
 .exact⟨0,by omega,rfl,rfl,rfl,rfl,rfl,rfl,rfl,rfl⟩
 .rintro m ⟨S,J⟩ ⟨j,hj,rfl,V7,t1,t2,t3,t11,t12,t13⟩;simp only at V7 t1 t2 t3 t11 t12 t13;subst V7;refine ai.mix 6 ?_;by_cases B':j<of.length
  .have q0:=qT B';have r1:=rI j;have VC:=λU=>du (U:=U) B';have ZK:of.getD j 0=of[j]:=by simp[B']
   have hle:=uz of t k j;have VP:fT of t k (j+1)=if of[j]=t then if j<k then((fT of t k j).1+1,(fT of t k j).2)else((fT of t k j).1,(fT of t k j).2+1)else fT of t k j:=by rw[fT,ZK]
   have r2:VO .i64 (((fT of t k j).1:Int)+1):=ae;have r3:VO .i64 (((fT of t k j).2:Int)+1):=ae;by_cases hn:of[j]=t
   .have q1:(of[j]≠t)=False:=H' (λh=>h hn);rw[av hn]at VP;by_cases hk:j<k
    .have q2:((j:Int)<k)=True:=L';rw[av hk]at VP;apply sR;simp only[go_sem,seval,t1,t2,t3,t11,t12,t13,a1,q0,q1,q2,r1,r2,VC,af,aj,al,aM];refine⟨_,?_,j+1,by omega,rfl,by rw[VP];simp[t1,t2,t3,t11,t12]⟩;omega
    .have q2:((j:Int)<k)=False:=H';rw[aD hk]at VP;apply sR;simp only[go_sem,seval,t1,t2,t3,t11,t12,t13,a1,q0,q1,q2,r1,r3,VC,af,aj,al,aM];refine⟨_,?_,j+1,by omega,rfl,by rw[VP];simp[t1,t2,t3,t11,t12]⟩;omega
   .have q1:(of[j]≠t)=True:=L' hn;rw[aD hn]at VP;apply sR;simp only[go_sem,seval,t1,t2,t3,t11,t12,t13,a1,q0,q1,r1,VC,af,aj,al,aM];refine⟨_,?_,j+1,by omega,rfl,by rw[VP];simp[t1,t2,t3,t11,t12]⟩;omega
  .have q0:=qF B';have XS:j=of.length:=by omega
   apply sR;simp only[go_sem,seval,t1,t2,t3,t11,t12,t13,q0];exact ak.pure hs (by rw[XS])
open Go.Proofs
def pT:Xh:=⟨0,0,0,0,0,2,2,0,0,0,0,0⟩
def jE(l:List Nd)(t:Int):Xh:=if 0<=dh l t.toNat then XA l (dh l t.toNat)else pT
def Fx(l:List Nd)(of:List Int)(t:Int)(k:Nat):Bool:=if t<0 then false else decide (((jI of t k).1:Int)<(jE l t).VK\/((jI of t k).2:Int)<(jE l t).VY)
def NB(l:List Nd)(hl:ep l)(hb:Wg l=true)(of:List Int)(Xi:of.length<=1000000)(k:Nat)(x:Kn)(hx:x.text<l.length):
 aL prog 189 [j8 l of k x] (.bool (Fx l of x.text k)):=λU=>by
 refine Tv.q ?_;have hs:=aa.refl U;have hlc:=λx=>Jc l of Xi k x;obtain⟨E,B,C,t⟩:=x;simp only at hx|-;refine mS 7 ?_;simp only[go_sem,seval,Oc,j8,af,aj,al,aM];refine ar hs λi1 Z1 s1 a1 f1 z1 hs=>?_;unfold Fx;by_cases ht:t<0
 .have q:(t<0)=True:=L' ht;simp only[go_sem,seval,a1,q,af,aj,al,aM];exact ak.pure hs (by simp[ht])
 have q:(t<0)=False:=H' ht;rw[aD ht];obtain⟨a,rfl⟩:∃a:Nat,t=a:=⟨t.toNat,by omega⟩
 simp only[go_sem,seval,a1,q,af,aj,al,aM];refine pS rfl (Ix _) ?_;simp only[go_sem,seval];refine ar hs λi3 Z3 s3 a3 f3 z3 hs=>?_;obtain⟨n13,a1⟩:=VB a1 f3 s3;simp only[go_sem,seval,a3,a1,ab n13,af,aj,al,aM];generalize hq3:C' _ i3 _=X3;replace a3:=WC hq3;replace a1:=VN hq3 n13 a1;replace hs:=WD hq3 hs z3;refine pR rfl (Cw l hl hb a (by omega) _) ?_;have hpr:=eo l a;have Zf:jE l (a:Int)=if 0<=dh l a then XA l (dh l a)else pT:=by simp[jE]
 rw[Zf];by_cases hp:0<=dh l a
 .have q0:(dh l a>=0)=True:=L' hp;obtain⟨b,hbe⟩:∃b:Nat,dh l a=b:=⟨(dh l a).toNat,by omega⟩
  rw[av hp];rw[hbe]at q0 hpr|-;have WX:b<l.length:=by omega
  have WQ:=λU=>bR (U:=U) (l:=l) (a:=b) WX;rw[eU WX];apply sR;simp only[go_sem,seval,a1,a3,q0,WQ,Nd.cells,ab n13,af,aj,al,aM];generalize hq4:C' X3 i3 _=Y4;have b3:Y4 i3=some ⟨45,12,[kR l[b].st]⟩:=by rw[<-hq4];exact ag
  replace hs:aa U Y4:=by rw[<-hq4];exact hs.az z3
  clear hq4;generalize l[b].st=st at*;rw[kR]at b3;refine pR rfl (hlc ⟨E,B,C,a⟩ _) ?_;generalize jI of (a:Int) k=L at*;obtain⟨L1,L2⟩:=L;simp only;by_cases h1:(L1:Int)<st.VK
  .have q1:((L1:Int)<st.VK)=True:=L' h1;apply sR;simp only[go_sem,seval,b3,q1,af,aj,al,aM];exact ak.pure hs (by simp[h1])
  .have q1:((L1:Int)<st.VK)=False:=H' h1;by_cases h2:(L2:Int)<st.VY
   .have q2:((L2:Int)<st.VY)=True:=L' h2;apply sR;simp only[go_sem,seval,b3,q1,q2,af,aj,al,aM];exact ak.pure hs (by simp[h2])
   .have q2:((L2:Int)<st.VY)=False:=H' h2;apply sR;simp only[go_sem,seval,b3,q1,q2,af,aj,al,aM];exact ak.pure hs (by simp[h1,h2])
 .have q0:(dh l a>=0)=False:=H' hp;rw[aD hp];apply sR;simp only[go_sem,seval,a1,a3,q0,ab n13,af,aj,al,aM];have b3:X3 i3=some ⟨45,12,[kR pT]⟩:=a3;generalize pT=st at*;rw[kR]at b3;refine pR rfl (hlc ⟨E,B,C,a⟩ _) ?_;generalize jI of (a:Int) k=L at*;obtain⟨L1,L2⟩:=L;simp only;by_cases h1:(L1:Int)<st.VK
  .have q1:((L1:Int)<st.VK)=True:=L' h1;apply sR;simp only[go_sem,seval,b3,q1,af,aj,al,aM];exact ak.pure hs (by simp[h1])
  .have q1:((L1:Int)<st.VK)=False:=H' h1;by_cases h2:(L2:Int)<st.VY
   .have q2:((L2:Int)<st.VY)=True:=L' h2;apply sR;simp only[go_sem,seval,b3,q1,q2,af,aj,al,aM];exact ak.pure hs (by simp[h2])
   .have q2:((L2:Int)<st.VY)=False:=H' h2;apply sR;simp only[go_sem,seval,b3,q1,q2,af,aj,al,aM];exact ak.pure hs (by simp[h1,h2])
open Go.Proofs
def qJ(l:List Nd)(x:Kn):Bool:=x.both.any λb=>decide ((XA l b).inside=1)
def Dk(l:List Nd)(of:List Int)(k:Nat)(x:Kn){U:ad}{i1:Nat}(h:U i1=some ⟨261,7,[j8 l of k x]⟩)(n:Nat)(hn:n<l.length):
 au prog 244 [vI n,.ptr i1 0 0] U λr Z'=>r=.bool (decide ((XA l n).inside=1))/\Z'=U:=by
 refine Vm.q ?_;refine ai.mix 4 ?_;have WQ:=λU=>bR (U:=U) (l:=l) (a:=n) hn;rw[eU hn];rw[j8]at h;by_cases hi:l[n].st.inside=1
 .have q:(l[n].st.inside=1)=True:=L' hi;apply sR;simp only[go_sem,seval,NP,h,WQ,Nd.cells,q,af,aj];exact ak.same (by simp[hi])
 .have q:(l[n].st.inside=1)=False:=H' hi;apply sR;simp only[go_sem,seval,NP,h,WQ,Nd.cells,q,af,aj];exact ak.same (by simp[hi])
def FX(l:List Nd)(of:List Int)(k:Nat)(x:Kn)(hx:∀b∈x.both,∃n:Nat,b=n/\n<l.length)(hlen:x.both.length<=1000000):
 aL prog 190 [j8 l of k x] (.bool (qJ l x)):=λU=>by
 refine Ue.q ?_;have hs:=aa.refl U;refine mS 3 ?_;simp only[go_sem,seval,Qi,j8,af,aj,al,aM];refine ar hs λi1 Z1 s1 a1 f1 z1 hs=>?_;simp only[go_sem,seval,a1,af,aj,al,aM];refine pR rfl (nO (p:=λb=>decide ((XA l b).inside=1)) Reads.ints (by omega) (λb hb=>by
  obtain⟨n,rfl,hn⟩:=hx b hb;exact Dk l of k x a1 n hn)) ?_
 apply sR;simp only[go_sem,seval];exact ak.pure hs rfl
def Dm(l:List Nd)(hl:ep l)(hb:Wg l=true)(of:List Int)(Xi:of.length<=1000000)(Wr:∀x∈of,0<=x/\x<l.length)(hm:rX l of=true)(k:Nat)(hk:k<=of.length)(x:Kn):
 aL prog 191 [j8 l of k x] (.bool (decide (1∈iD l of k))):=λU=>by
 refine Sx.q ?_;have hs:=aa.refl U;have hn:l.length<=100000:=by have:=hl.1;omega
 refine mS 5 ?_;simp only[go_sem,seval,Rn,j8,af,aj,al,aM];refine ar hs λi1 Z1 s1 a1 f1 z1 hs=>?_;simp only[go_sem,seval,a1,af,aj,al,aM];refine pS rfl (DR l hl hb of Xi Wr hm k hk _) ?_;simp only[go_sem,seval];refine pS rfl (Bx _ (by have:=mD hn of k;omega) 1 _) ?_;simp only[go_sem,seval];exact ak.pure hs rfl
open Go.Proofs
def Cd(s:Int)(j:Nat)(b:Bool):Int:=if b then s+2^j else s
def kP(l:List Nd)(of:List Int)(k:Nat):Nat->Bool
 |0=>Fx l of (cK l of k).text k
 |1=>qJ l (cK l of k)
 |_=>decide (1∈iD l of k)
def dN(l:List Nd)(of:List Int)(k:Nat):Nat->Int
 |0=>0
 |j+1=>Cd (dN l of k j) j (kP l of k j)
def mq(l:List Nd)(of:List Int)(k:Nat):Int:=if k=0\/k=of.length then 0 else dN l of k 3
def BL{l:List Nd}{of:List Int}(Wr:∀x∈of,0<=x/\x<l.length)(k:Nat):(cK l of k).text<l.length:=by
 rw[cK];simp only;split
 .rename_i h;have ZK:of.getD k 0=of[k]'h.2.1:=by simp[h.2.1]
  rw[ZK];exact(Wr _ (Ws h.2.1)).2
 .omega
def QU(l:List Nd)(hl:ep l)(hb:Wg l=true)(of:List Int)(Xi:of.length<=1000000)(Wr:∀x∈of,0<=x/\x<l.length)(hm:rX l of=true)(k:Nat)(hk:k<=of.length):
 aL prog 138 [aF l,bb of,vI k] (.VG [vI (mq l of k),vI 0]):=λU=>by
 refine Uo.q ?_;have hs:=aa.refl U;have WL:=dd of;have hn:l.length<=100000:=by have:=hl.1;omega
 have hb1:∀(f:FuncId) (a:List V),(V.bm f a).cells=[.bm f a]:=λ_ _=>rfl;have V1:∀f:FuncId,(V.bm f [.agg [bb (cK l of k).ends,bb (cK l of k).XT,bb (cK l of k).both,vI (cK l of k).text,aF l,bb of,vI k]]).stays=true:=λ_=>rfl;have hnf:V.WT.cells=[.WT]:=rfl;refine mS 15 ?_;simp only[go_sem,seval,On];refine pR rfl (Nq l hl hb of Xi Wr hm k hk _) ?_;have hpc:(j8 l of k (cK l of k)).stays=true:=rfl;apply sR;simp only[go_sem,seval,j8,hpc];refine ar hs λi8 Z8 s8 a8 f8 z8 hs=>?_;have q0:((0:Int)≠0)=False:=H' (λh=>h rfl);unfold mq;by_cases hk0:k=0
 .subst hk0;have q1:(((0:Nat):Int)=0)=True:=L' rfl;simp only[go_sem,seval,a8,q0,q1,af,aj,al,aM];exact ak.pure (hs.az z8) (by simp)
 have q1:((k:Int)=0)=False:=H';by_cases W4:k=of.length
 .have q2:((k:Int)=of.length)=True:=L';simp only[go_sem,seval,a8,q0,q1,q2,WL,af,aj,al,aM];exact ak.pure (hs.az z8) (by simp[W4])
 have q2:((k:Int)=of.length)=False:=H';rw[aD (by omega)];simp only[go_sem,seval,a8,q0,q1,q2,WL,hb1,V1,hnf,af,aj,al,aM];generalize Xm:C' _ i8 _=Y8;replace a8:=WC Xm;replace hs:=WD Xm hs z8;refine ar hs λi10 Z10 XV Wn f10 YK hs=>?_;obtain⟨n810,a8⟩:=VB a8 f10 XV;simp only[go_sem,seval,Wn,hb1,V1,hnf,af,aj,al,aM];generalize Ww:C' _ i10 _=Y10;replace Wn:=WC Ww;replace a8:=VN Ww n810 a8;replace hs:=WD Ww hs YK;have ht:=BL Wr (l:=l) k;have c0:aL prog 189 [j8 l of k (cK l of k)] (.bool (kP l of k 0)):=NB l hl hb of Xi k (cK l of k) ht;have c1:aL prog 190 [j8 l of k (cK l of k)] (.bool (kP l of k 1)):=FX l of k (cK l of k) (nX Wr) (j2 (lI hn) (by omega));have c2:aL prog 191 [j8 l of k (cK l of k)] (.bool (kP l of k 2)):=Dm l hl hb of Xi Wr hm k hk (cK l of k);rw[j8]at c0 c1 c2;generalize hpv:V.agg [bb (cK l of k).ends,bb (cK l of k).XT,bb (cK l of k).both,vI (cK l of k).text,aF l,bb of,vI k]=pv at*;refine ai.gy (λst=>aa U st.U/\st.s 11=vI (dN l of k 3))
  (λm st=>∃j:Nat,j<=3/\m=3-j/\aa U st.U/\st.s 11=vI (dN l of k j)/\st.s 41=.agg [.bm 189 [pv],.bm 190 [pv],.bm 191 [pv]]/\st.s 42=vI j) 3 ?_ ?_ ?_
 .exact⟨0,by omega,rfl,hs,rfl,rfl,rfl⟩
 .clear hs a8 Wn;rintro m ⟨S,J⟩ ⟨j,hj,rfl,hs,t11,t41,t42⟩;simp only at hs t11 t41 t42;refine ai.mix 15 ?_;rcases(by omega:j=0\/j=1\/j=2\/j=3)with rfl|rfl|rfl|rfl
  .have u42:S 42=vI 0:=t42;have hp:dN l of k 0=0:=rfl;have u11:S 11=vI 0:=by rw[t11,hp]
   apply sR;simp only[go_sem,seval,u11,t41,u42];refine ai.lZ rfl rfl rfl (c0 _) ?_;rintro r Z' ⟨rfl,rfl⟩;cases hv:kP l of k 0
   .apply sR;simp only[go_sem,seval,u11,t41,u42];refine⟨ae,_,?_,1,by omega,rfl,hs,by rw[dN,hp,hv];rfl,rfl⟩;omega
   .apply sR;simp only[go_sem,seval,u11,t41,u42];refine⟨ae,_,?_,1,by omega,rfl,hs,by rw[dN,hp,hv];rfl,rfl⟩;omega
  .have u42:S 42=vI 1:=t42;have hp:dN l of k 1=0\/dN l of k 1=1:=by rw[dN,dN,Cd];split<;>simp
   rcases hp with hp|hp
   .have:=hp;have u11:S 11=vI 0:=by rw[t11,hp]
    apply sR;simp only[go_sem,seval,u11,t41,u42];refine ai.lZ rfl rfl rfl (c1 _) ?_;rintro r Z' ⟨rfl,rfl⟩;cases hv:kP l of k 1
    .apply sR;simp only[go_sem,seval,u11,t41,u42];refine⟨ae,_,?_,2,by omega,rfl,hs,by rw[dN,hp,hv];rfl,rfl⟩;omega
    .apply sR;simp only[go_sem,seval,u11,t41,u42];refine⟨ae,_,?_,2,by omega,rfl,hs,by rw[dN,hp,hv];rfl,rfl⟩;omega
   .have:=hp;have u11:S 11=vI 1:=by rw[t11,hp]
    apply sR;simp only[go_sem,seval,u11,t41,u42];refine ai.lZ rfl rfl rfl (c1 _) ?_;rintro r Z' ⟨rfl,rfl⟩;cases hv:kP l of k 1
    .apply sR;simp only[go_sem,seval,u11,t41,u42];refine⟨ae,_,?_,2,by omega,rfl,hs,by rw[dN,hp,hv];rfl,rfl⟩;omega
    .apply sR;simp only[go_sem,seval,u11,t41,u42];refine⟨ae,_,?_,2,by omega,rfl,hs,by rw[dN,hp,hv];rfl,rfl⟩;omega
  .have u42:S 42=vI 2:=t42;have hp:dN l of k 2=0\/dN l of k 2=1\/dN l of k 2=2\/dN l of k 2=3:=by rw[dN,dN,dN,Cd,Cd];split<;>split<;>simp
   rcases hp with hp|hp|hp|hp
   .have:=hp;have u11:S 11=vI 0:=by rw[t11,hp]
    apply sR;simp only[go_sem,seval,u11,t41,u42];refine ai.lZ rfl rfl rfl (c2 _) ?_;rintro r Z' ⟨rfl,rfl⟩;cases hv:kP l of k 2
    .apply sR;simp only[go_sem,seval,u11,t41,u42];refine⟨ae,_,?_,3,by omega,rfl,hs,by rw[dN,hp,hv];rfl,rfl⟩;omega
    .apply sR;simp only[go_sem,seval,u11,t41,u42];refine⟨ae,_,?_,3,by omega,rfl,hs,by rw[dN,hp,hv];rfl,rfl⟩;omega
   .have:=hp;have u11:S 11=vI 1:=by rw[t11,hp]
    apply sR;simp only[go_sem,seval,u11,t41,u42];refine ai.lZ rfl rfl rfl (c2 _) ?_;rintro r Z' ⟨rfl,rfl⟩;cases hv:kP l of k 2
    .apply sR;simp only[go_sem,seval,u11,t41,u42];refine⟨ae,_,?_,3,by omega,rfl,hs,by rw[dN,hp,hv];rfl,rfl⟩;omega
    .apply sR;simp only[go_sem,seval,u11,t41,u42];refine⟨ae,_,?_,3,by omega,rfl,hs,by rw[dN,hp,hv];rfl,rfl⟩;omega
   .have:=hp;have u11:S 11=vI 2:=by rw[t11,hp]
    apply sR;simp only[go_sem,seval,u11,t41,u42];refine ai.lZ rfl rfl rfl (c2 _) ?_;rintro r Z' ⟨rfl,rfl⟩;cases hv:kP l of k 2
    .apply sR;simp only[go_sem,seval,u11,t41,u42];refine⟨ae,_,?_,3,by omega,rfl,hs,by rw[dN,hp,hv];rfl,rfl⟩;omega
    .apply sR;simp only[go_sem,seval,u11,t41,u42];refine⟨ae,_,?_,3,by omega,rfl,hs,by rw[dN,hp,hv];rfl,rfl⟩;omega
   .have:=hp;have u11:S 11=vI 3:=by rw[t11,hp]
    apply sR;simp only[go_sem,seval,u11,t41,u42];refine ai.lZ rfl rfl rfl (c2 _) ?_;rintro r Z' ⟨rfl,rfl⟩;cases hv:kP l of k 2
    .apply sR;simp only[go_sem,seval,u11,t41,u42];refine⟨ae,_,?_,3,by omega,rfl,hs,by rw[dN,hp,hv];rfl,rfl⟩;omega
    .apply sR;simp only[go_sem,seval,u11,t41,u42];refine⟨ae,_,?_,3,by omega,rfl,hs,by rw[dN,hp,hv];rfl,rfl⟩;omega
  .have u42:S 42=vI 3:=t42;apply sR;simp only[go_sem,seval,t11,t41,u42];exact hs
 .rintro⟨S,J⟩ ⟨hs,t11⟩;simp only at hs t11;refine mS 15 ?_;simp only[go_sem,seval,t11];exact ak.pure hs rfl
end Go.Vc
