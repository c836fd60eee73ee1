/- Part 7 of the library of this proof. -/
import Derived.Test.YtdaelobhgmdoeaaGreatW6
set_option linter.all false
set_option maxHeartbeats 8000000
set_option maxRecDepth 100000
namespace Go.Vc
open Go.Proofs Go.Proofs.Tryz
def Wj(l:List Nd):Nat->Int->List Int
 |0,_=>[]
 |f+1,p=>if 0<=p then p::Wj l f (eQ l p.toNat)else[]
def wu{l:List Nd}{f:Nat}{p:Int}(h:p<0):Wj l f p=[]:=by
 cases f with
 |zero=>rfl
 |succ f=>rw[Wj,if_neg (by omega)]
def rG{l:List Nd}{f:Nat}{p:Int}(h:0<=p)(hf:p<f):∃g,f=g+1/\Wj l f p=p::Wj l g (eQ l p.toNat):=by
 cases f with
 |zero=>omega
 |succ f=>exact⟨f,rfl,by rw[Wj,if_pos h]⟩
def fW(l:List Nd)(a:Nat):-1<=eQ l a/\eQ l a<a:=uh l a a
def ldN(U:ai)(l:List Nd):bS U false 1 (.rp (aK l))=some (aK l):=rfl
def fdN(l:List Nd):gx false 0 1 (.rp (.agg [aK l]))=some (.rp (aK l)):=rfl
def mX(l:List Int):List (List V):=l.map λp=>[vI p]
def sI(l:List Nd)(hl:dH l)(hb:R3 l=true)(a:Nat)(ha:a<l.length):Iter prog 260 [.rp (.agg [aK l]),.rp (vI a)] (mX (Wj l (l.length+1) (eQ l a))):=by
 have hhas:uF l (a:Int)=true:=yn.2 ⟨by omega,by omega⟩;have Zj:=fW l a;refine⟨N6.c,λRF τ Jx Z0 hy hJ=>?_⟩;refine(N6.r (by simp[KA]) ?_).2;refine ad.mix 5 ?_;apply sR;simp only[BB,seval,<-decide_not,bw,fi,aL,cQ,eN,ej,eK,dY,ct,jS,bI,fC,dN,fq,cM,cP,bF,iN,dg,cT,ck,Sk,jV,dc,cc,iM,dI,cd,df,cY,kT,binBV,bW,dq,V.cells,V.stays,Tm.nothing,KA,ldN,fdN];refine ad.aB rfl rfl rfl (Mn l a _) ?_;rw[hhas];apply sR;simp only[BB,seval,<-decide_not,bw,fi,aL,cQ,eN,ej,eK,dY,ct,jS,bI,fC,dN,fq,cM,cP,bF,iN,dg,cT,ck,Sk,jV,dc,cc,iM,dI,cd,df,cY,kT,binBV,bW,dq,V.cells,V.stays,Tm.nothing,ldN,fdN];refine ad.aB rfl rfl rfl (vD l hl hb a ha _) ?_;apply sR;simp only[go_sem,seval];refine ad.loop (λm st=>∃(pre:List Int) (q:Int) (f:Nat) (ZJ:ai),m=(q+1).toNat/\-1<=q/\q<l.length/\q<f/\Wj l (l.length+1) (eQ l a)=pre++Wj l f q/\τ (mX pre) ZJ/\aa ZJ st.U/\
  st.s 0=.yl RF/\st.s 1=.rp (.agg [aK l])/\st.s 4=vI q) (eQ l a+1).toNat ?_ ?_
 .exact⟨[],eQ l a,l.length+1,Z0,rfl,by omega,by omega,by omega,rfl,hJ,aa.refl _,rfl,rfl,rfl⟩
 .rintro m ⟨s,Z'⟩ ⟨pre,q,f,ZJ,rfl,hq1,hq2,hqf,TJ,hJp,G',h0,h1,h4⟩;simp only at G' h0 h1 h4;refine ad.mix 5 ?_;by_cases hq:0<=q
  .obtain⟨g,rfl,hu⟩:=rG (l:=l) hq hqf;obtain⟨k,rfl⟩:∃k:Nat,q=k:=⟨q.toNat,by omega⟩
   have VT:((k:Int)>=0)=True:=by simp
   rw[Int.toNat_natCast]at hu;have hpk:=fW l k;have Tv:k<l.length:=by omega
   have e:mX (Wj l (l.length+1) (eQ l a))=mX pre++[vI k]::mX (Wj l g (eQ l k)):=by rw[TJ,hu];simp[mX]
   apply sR;simp only[go_sem,seval,h0,h1,h4,VT];refine ad.mA (Post:=λb Z2=>∃RC,bh ZJ Z' RC Z2/\((b=true/\τ (mX pre++[[vI k]]) RC)\/(b=false/\Jx (mX pre++[[vI k]]) RC))) rfl rfl rfl (hy _ [vI k] _ ZJ Z' e hJp G') ?_;rintro b Z2 ⟨RC,Sl,R6⟩;rcases R6 with⟨rfl,R6⟩|⟨rfl,R6⟩
   .apply sR;simp only[BB,seval,<-decide_not,bw,fi,aL,cQ,eN,ej,eK,dY,ct,jS,bI,fC,dN,fq,cM,cP,bF,iN,dg,cT,ck,Sk,jV,dc,cc,iM,dI,cd,df,cY,kT,binBV,bW,dq,V.cells,V.stays,Tm.nothing,h0,h1,h4,ldN,fdN];refine ad.aB rfl rfl rfl (vD l hl hb k Tv _) ?_;apply sR;simp only[go_sem,seval,h0,h1];refine⟨_,?_,pre++[(k:Int)],eQ l k,g,RC,rfl,by omega,by omega,by omega,by rw[TJ,hu];simp,?_,Sl.1,by simp[h0,h1]⟩
    .omega
    .simpa[mX]using R6
   .apply sR;simp only[go_sem,seval,h0,h1,h4];refine⟨_,RC,Sl.1,Wk.refl Sl.1 _,.inr ⟨mX pre++[[vI k]],?_,R6⟩⟩;rw[e];exact⟨mX (Wj l g (eQ l k)),by simp⟩
  .have VT:(q>=0)=False:=by simp;omega
   apply sR;simp only[go_sem,seval,h0,h1,h4,VT];rw[wu (l:=l) (f:=f) (p:=q) (by omega),List.append_nil]at TJ;exact⟨_,ZJ,G',Wk.refl G' _,.inl (by rw[TJ];exact hJp)⟩
def yS(l:List Nd)(a:Int):aV prog 215 [.agg [aK l],vI a] (.fn 260 [.rp (.agg [aK l]),.rp (vI a)]):=λU=>by
 refine QR.r (by simp[JO]) ?_;refine ad.mix 4 ?_;have q1:(V.agg [aK l]).cells.length=1:=rfl;have q2:(V.agg [aK l]).stays=true:=rfl;generalize V.agg [aK l]=x at*;apply sR;simp only[go_sem,seval,JO,q1,q2];refine af λUJ Z1 s1 a1 f1=>?_;simp only[go_sem,seval];refine af λWg Z2 s2 a2 f2=>?_;simp only[go_sem,seval];exact⟨_,U,s1.trans s2,Wk.fn (vs':=[.rp x,.rp (vI a)]) ⟨Wk.ptr (s1.trans s2) (s2 _ _ a1) f1,Wk.ptr (s1.trans s2) a2 (s1.none f2),trivial⟩,rfl,rfl⟩
def AA(l:List Nd)(hl:dH l)(hb:R3 l=true)(a:Nat)(ha:a<l.length):aV prog 277 [aK l,vI a] (vI (eQ l a)):=λU=>by
 refine Pf.r (by simp[LF]) ?_;refine ad.mix 5 ?_;have Wq:=sI l hl hb a ha;have Zj:=fW l a;apply sR;simp only[go_sem,seval,LF];refine af λU0 Z1 s1 a4 f4=>?_;simp only[go_sem,seval];refine ad.aB rfl rfl rfl (Bc l hl hb _) ?_;apply sR;simp only[go_sem,seval];refine ad.aB rfl rfl rfl (yS l a _) ?_;apply sR;simp only[go_sem,seval];generalize hS:mix 5 _ _=S;have S4:S 4=.ptr U0 0 0:=by rw[<-hS];rfl
 have S9:S 9=.fn 260 [.rp (.agg [aK l]),.rp (vI a)]:=by rw[<-hS];rfl
 clear hS;have hx0:∀x pre post,mX (Wj l (l.length+1) (eQ l a))=pre++x::post->pre=[]->x=[vI (eQ l a)]:=λx pre post h hp=>by
  subst hp;by_cases h0:0<=eQ l a
  .obtain⟨g,_,hu⟩:=rG (l:=l) (f:=l.length+1) h0 (by omega);rw[hu]at h;simp only[mX,List.map_cons,List.nil_append,List.cons.injEq]at h;exact h.1.symm
  .rw[wu (by omega)]at h;simp[mX]at h
 refine ad.cX (g:=.t 9) (caps:=[.rp (.agg [aK l]),.rp (vI a)]) S9 Wq (λx hx=>?_) [] (λpre ZJ=>pre=[]/\ZJ=Z1) (λc pre ZJ=>c=none/\ZJ=C' Z1 U0 ⟨3,1,[vI (eQ l a)]⟩) ?_ ?_ ?_ ?_ ?_
 .simp only[mX,List.mem_map]at hx;obtain⟨t,_,rfl⟩:=hx;rfl
 .exact⟨rfl,rfl⟩
 .rintro pre x post ZJ ZB TJ ⟨rfl,rfl⟩ G';obtain rfl:=hx0 x [] post TJ rfl;have b4:=G' _ _ a4;generalize Tg:lR S [10] [vI (eQ l a)]=S0;have T4:S0 4=.ptr U0 0 0:=by rw[<-Tg];exact S4
  have WL:S0 10=vI (eQ l a):=by rw[<-Tg];rfl
  clear Tg;refine ad.mix 11 ?_;apply sR;simp only[go_sem,seval,T4,WL,b4];refine ad.mix 11 ?_;apply sR;simp only[go_sem,seval,T4,b4];exact⟨_,(bh.refl G').set (o:=⟨3,1,[vI 0]⟩) a4,rfl⟩
 .rintro Z' ⟨hn,rfl⟩;have hpm:eQ l a=-1:=by
   by_cases h0:0<=eQ l a
   .obtain⟨g,_,hu⟩:=rG (l:=l) (f:=l.length+1) h0 (by omega);rw[hu]at hn;simp[mX]at hn
   .omega
  refine ad.mix 5 ?_;apply sR;simp only[go_sem,seval,S4,a4];rw[hpm];exact ay.pure (s1.aE f4) rfl
 .intro id h;cases h
 .rintro pre Z' _ ⟨_,rfl⟩;refine ad.mix 5 ?_;apply sR;simp only[go_sem,seval,S4,ag];exact ay.pure (s1.aE f4) rfl
open Go.Proofs Go.Proofs.Tryz
def lp{l:List Nd}{a b:Int}:gZ l a b=true↔0<=a/\b<l.length/\a<=b/\b<a+RO l a.toNat:=by
 simp only[gZ,Ba,yn,decide_eq_true_eq];constructor
 .rintro⟨h1,h2,h3,h4⟩;omega
 .rintro⟨h1,h2,h3,h4⟩;omega
def u7(l:List Nd)(b:Nat):∀k,(rF l b k=-1/\∀i:Nat,i<k->gZ l i b=false)\/∃q:Nat,rF l b k=q/\q<k/\gZ l q b=true/\∀i:Nat,q<i->i<k->gZ l i b=false
 |0=>.inl ⟨rfl,λi h=>by omega⟩
 |k+1=>by
  rw[rF];cases hk:gZ l k b
  .simp only[Bool.false_eq_true,↓reduceIte];rcases u7 l b k with⟨h1,h2⟩|⟨q,h1,h2,h3,h4⟩
   .refine .inl ⟨h1,λi hi=>?_⟩;by_cases e:i=k
    .rw[e];exact hk
    .exact h2 i (by omega)
   .refine .inr ⟨q,h1,by omega,h3,λi hi SQ=>?_⟩;by_cases e:i=k
    .rw[e];exact hk
    .exact h4 i hi (by omega)
  .simp only[↓reduceIte];exact .inr ⟨k,rfl,by omega,hk,λi hi SQ=>by omega⟩
def nest{l:List Nd}(hb:R3 l=true){x q:Nat}(hx:x<l.length)(h1:x<=q)(h2:(q:Int)<x+RO l x)(hq:q<l.length):(q:Int)+RO l q<=x+RO l x:=by
 by_cases e:x=q
 .subst e;omega
 .have RS:cu l 0 l.length=true:=by simp only[R3,Ba]at hb;exact hb.2
  obtain⟨z1,z2⟩:=pH hb hx;obtain⟨z3,_⟩:=dr (Nat.le_refl _) RS (Nat.zero_le x) hx;have XJ:=lH l (l.length+1) 0 l.length (by omega) (Nat.le_refl _) RS x (by omega) hx hx;rw[<-lk hx]at XJ;have:=(dr (e:=x+(RO l x).toNat) (by omega) XJ (k:=q) (by omega) (by omega)).1;omega
def ET(l:List Nd):∀(f:Nat) (p x:Int),x∈Wj l f p->0<=x/\x<=p
 |0,_,_,h=>by simp[Wj]at h
 |f+1,p,x,h=>by
  rw[Wj]at h;split at h
  .rcases List.mem_cons.1 h with rfl|h
   .omega
   .have:=ET l f _ x h;have:=fW l p.toNat;omega
  .simp at h
def o7{l:List Nd}{a b:Nat}:∀k:Nat,(∀i:Nat,i<k->gZ l i a=gZ l i b)->gF l a k=gF l b k
 |0,_=>rfl
 |k+1,h=>by
  rw[gF,gF,h k (by omega),o7 k λi hi=>h i (by omega)]
def mu{l:List Nd}{a q:Nat}:∀k:Nat,q<=k->(∀i:Nat,q<=i->i<k->gZ l i a=false)->gF l a k=gF l a q
 |0,h,_=>by rw[Nat.le_zero.1 h]
 |k+1,h,hh=>by
  by_cases e:q=k+1
  .rw[e]
  .rw[gF,hh k (by omega) (by omega),if_neg (by simp)];exact mu k (by omega) λi h1 h2=>hh i h1 (by omega)
def vg{l:List Nd}(hb:R3 l=true):∀(f a:Nat),a<l.length->eQ l a<f->Wj l f (eQ l a)=gF l a a
 |f,a,ha,hf=>by
  rcases u7 l a a with⟨h1,h2⟩|⟨q,h1,h2,h3,h4⟩
  .have e:eQ l a=-1:=h1;rw[e,wu (by omega),mu (q:=0) a (by omega) λi _ hi=>h2 i hi];rfl
  .have e:eQ l a=q:=h1;rw[e]at hf|-;obtain⟨g,rfl,hu⟩:=rG (l:=l) (f:=f) (p:=q) (by omega) hf;rw[hu,Int.toNat_natCast];have hpq:=fW l q;rw[vg hb g q (by omega) (by omega),mu (q:=q+1) a (by omega) λi i1 i2=>h4 i (by omega) i2,gF,h3,if_pos rfl];congr 1;refine o7 q λi hi=>?_;rw[Bool.eq_iff_iff,lp,lp];rw[lp]at h3;simp only[Int.toNat_natCast]at h3|-;constructor
   .rintro⟨_,_,_,g4⟩;have:=nest hb (x:=i) (q:=q) (by omega) (by omega) g4 (by omega);omega
   .rintro⟨_,_,_,_⟩;omega
open Go.Proofs Go.Proofs.Tryz
def bh.C1{ZJ U RC Z':ai}(h:bh ZJ U RC Z'){e:Option Nat}(he:∀i,e=some i->∃o,RC i=some o):bh ZJ U (Vc.bK RC e) (Vc.bK Z' e):=by
 cases e with
 |none=>exact h
 |some e=>
  refine⟨Cy h.1,λi o h1 h2=>?_⟩;obtain⟨h3,h4⟩:=h.2 i o h1 h2;have:i≠e:=λe'=>by subst e';obtain⟨o',ho'⟩:=he i rfl;rw[h4]at ho';cases ho'
  simp only[Vc.bK,dO this];exact⟨h3,h4⟩
def aT.Dj{K ZJ Z1:ai}{e sz:Nat}{v:V}{rows:List V}(h:aT K ZJ e sz v rows)(hs:aa ZJ Z1):
 ∃Rr,cg Z1 e sz v=some (rows,Rr)/\∀i,Rr=some i->K i=none/\∃o,ZJ i=some o:=by
 rcases h with⟨rfl,rfl⟩|⟨id,rfl,ho,hk⟩
 .exact⟨none,rfl,λ_ h=>by cases h⟩
 .refine⟨some id,?_,λi h=>by cases h;exact⟨hk,_,ho⟩⟩;simp only[cg,hs _ _ ho];rw[if_pos ⟨trivial,trivial,trivial,Nat.le_refl _⟩,List.take_length]
def bg(U:ai)(id:Nat):ai:=λi=>if i=id then some ⟨0,0,[]⟩else U i
def aM{U:ai}{id i:Nat}:bg U id i=none↔i≠id/\U i=none:=by
 unfold bg;split
 .rename_i h;simp[h]
 .rename_i h;simp[h]
def oK{α:Type}{f:α->V}{xs:List α}{pre post:List (List V)}{x:List V}(h:(xs.map λa=>[f a])=pre++x::post):∃a,xs[pre.length]?=some a/\x=[f a]:=by
 have:=congrArg (·[pre.length]?) h;simp only[List.getElem?_map,List.getElem?_append_right (Nat.le_refl _),Nat.sub_self,List.getElem?_cons_zero,Option.map_eq_some_iff]at this;obtain⟨t,h1,h2⟩:=this;exact⟨t,h1,h2.symm⟩
def yH{g:FuncId}{caps:List V}{xs:List Int}(Wq:Iter prog g caps (xs.map λn=>[vI n]))(hx:xs.length<=1000000)(U:ai):
 aD prog 259 [.aC,.fn g caps] U λr Z'=>aa U Z'/\aT U Z' 3 1 r (xs.map vI):=by
 refine O1.r (by simp[KJ]) ?_;refine ad.mix 8 ?_;apply sR;simp only[go_sem,seval,KJ];refine af λWg Z2 s2 a2 f2=>?_;simp only[go_sem,seval];generalize hS:mix 8 _ _=S;have S2:S 2=.ptr Wg 0 0:=by rw[<-hS];rfl
 have S6:S 6=.fn g caps:=by rw[<-hS];rfl
 clear hS;refine ad.cX (g:=.t 6) (caps:=caps) S6 Wq (λx hx=>?_) [] (λpre ZJ=>∃v,ZJ Wg=some ⟨57,1,[v]⟩/\aa U ZJ/\aT (bg U Wg) ZJ 3 1 v ((xs.take pre.length).map vI))
  (λ_ _ _=>False) ?_ ?_ ?_ ?_ ?_
 .obtain⟨t,_,rfl⟩:=List.mem_map.1 hx;rfl
 .exact⟨.aC,a2,s2,by simpa using aT.start⟩
 .rintro pre x post ZJ ZB TJ ⟨v,J2,Js,Jo⟩ G';obtain⟨t,Zk,rfl⟩:=oK (f:=vI) TJ;have Sf:xs.take (pre.length+1)=xs.take pre.length++[t]:=by rw[List.take_add_one,Zk];rfl
  have hlen:(pre++[[vI t]]).length=pre.length+1:=by simp
  rw[hlen,Sf];have Tv:((xs.take pre.length).map vI).length<=1000001:=by simp;omega
  have UT:v.cells=[v]:=by rcases Jo with⟨rfl,_⟩|⟨_,rfl,_⟩<;>rfl
  generalize RS:((xs.take pre.length).map vI)=rows at*;have b2:=G' _ _ J2;generalize Tg:lR S [7] [vI t]=S0;have T2:S0 2=.ptr Wg 0 0:=by rw[<-Tg];exact S2
  have T7:S0 7=vI t:=by rw[<-Tg];rfl
  refine ad.mix 8 ?_;apply sR;simp only[go_sem,seval,T2,T7];apply sR;simp only[go_sem,seval,T2,T7,b2,UT];rw[aO];intro UU f28;have U3:=(bh.refl G').pk (o:=⟨3,1,[vI t]⟩) f28;have y2:C' ZB UU ⟨3,1,[vI t]⟩ Wg=some ⟨57,1,[v]⟩:=by rw[ab (aq b2 f28)];exact b2
  have a28:C' ZB UU ⟨3,1,[vI t]⟩ UU=some ⟨3,1,[vI t]⟩:=ag;generalize C' ZB UU ⟨3,1,[vI t]⟩=Z8 at*;obtain⟨Rr,SM,Vj⟩:=Jo.Dj U3.1;have Sb:(rows.length+1)*9<=140737488355328:=by omega
  have k2:bg U Wg Wg≠none:=λh=>(aM.1 h).1 rfl;have UF:∀(i:Nat) (Zx:ai),bg U Wg i≠none->Vc.bK Zx Rr i=Zx i:=λi Zx hk=>by
   cases Rr with
   |none=>rfl
   |some a=>exact dO (λe=>hk (by rw[e];exact(Vj a rfl).1))
  simp only[go_sem,seval,SM,dW a28,Sb,T2];rw[aO];intro Th f29;have f29:Z8 Th=none:=f29;have YK:Wg≠Th:=aq y2 f29;have f29':Vc.bK Z8 Rr Th=none:=by
   cases Rr with
   |none=>exact f29
   |some a=>simp only[Vc.bK,del];split<;>first|rfl|exact f29
  have y2':C' (Vc.bK Z8 Rr) Th ⟨3,1,rows++[vI t]⟩ Wg=some ⟨57,1,[v]⟩:=by rw[ab YK,UF _ _ k2];exact y2
  have hB9:=((U3.C1 (e:=Rr) λi h=>(Vj i h).2).new (o:=⟨3,1,rows++[vI t]⟩) f29').set (id:=Wg) (o:=⟨57,1,[v]⟩) (o':=⟨57,1,[.own Th 0 (rows.length+1)]⟩) (by rw[ab YK,UF _ _ k2];exact J2);simp only[go_sem,seval,UT,y2',T2];refine⟨_,hB9,.own Th 0 (rows.length+1),ag,?_,?_⟩
  .refine aa.aE (λi o h=>?_) f2;have h1:=Js _ _ h;rw[ab (aq (U3.1 _ _ h1) f29),UF _ _ (λhk=>by rw[(aM.1 hk).2]at h;cases h)];exact h1
  .rw[List.map_append,RS];refine aT.new (by simp) (by rw[ab YK.symm,ag];rfl) ?_;rw[aM];refine⟨YK.symm,?_⟩;cases h:U Th with
   |none=>rfl
   |some o=>rw[U3.1 _ _ (Js _ _ h)]at f29;cases f29
 .rintro Z' ⟨v,J2,Js,Jo⟩;rw[List.length_map,List.take_length]at Jo;have UT:v.cells=[v]:=by rcases Jo with⟨rfl,_⟩|⟨_,rfl,_⟩<;>rfl
  refine ad.mix 5 ?_;apply sR;simp only[go_sem,seval,S2,J2,UT];refine⟨_,_,aa.refl _,Wk.refl (aa.refl _) _,Js,?_⟩;rcases Jo with h|⟨id,h1,h2,h3⟩
  .exact .inl h
  .exact .inr ⟨id,h1,h2,(aM.1 h3).2⟩
 .intro id h;cases h
 .rintro pre Z' _ ⟨⟩
def vC{g:FuncId}{caps:List V}{xs:List Int}(Wq:Iter prog g caps (xs.map λn=>[vI n]))(hx:xs.length<=1000000):
 aV prog 214 [.fn g caps] (bn xs):=λU=>by
 refine P3.r (by simp[Ly]) ?_;refine ad.mix 3 ?_;apply sR;simp only[go_sem,seval,Ly];refine ad.call rfl rfl rfl (yH Wq hx U) ?_;rintro r Z1 ⟨h1,h2⟩;apply sR;simp only[go_sem,seval];exact h2.Gu h1 rfl
def U'(l:List Nd)(a:Nat):List Int:=Wj l (l.length+1) (eQ l a)
def iQ(l:List Nd):∀(f:Nat) (p:Int),(Wj l f p).length<=f
 |0,_=>by simp[Wj]
 |f+1,p=>by
  rw[Wj];split
  .have:=iQ l f (eQ l p.toNat);simp only[List.length_cons];omega
  .simp
def KF{l:List Nd}(hb:R3 l=true){a:Nat}(ha:a<l.length):U' l a=gF l a a:=vg hb _ _ ha (by have:=fW l a;omega)
def yT(l:List Nd)(hl:dH l)(hb:R3 l=true)(hn:l.length<=100000)(a:Nat)(ha:a<l.length):aV prog 159 [aK l,vI a] (bn (U' l a)):=λU=>by
 refine Py.r (by simp[J0]) ?_;refine ad.mix 5 ?_;apply sR;simp only[go_sem,seval,J0];refine ad.aB rfl rfl rfl (Bc l hl hb _) ?_;apply sR;simp only[go_sem,seval];refine ad.aB rfl rfl rfl (yS l a _) ?_;apply sR;simp only[go_sem,seval];refine ad.aB rfl rfl rfl (vC (sI l hl hb a ha) (by have:=iQ l (l.length+1) (eQ l a);omega) _) ?_;apply sR;simp only[go_sem,seval];exact ay.same rfl
structure SOk(s:SA):Prop where
 top:0<=s.top/\s.top<=1099511627776
 Ry:0<=s.Ry/\s.Ry<=1099511627776
 Rl:0<=s.Rl/\s.Rl<=1099511627776
 Rb:0<=s.Rb/\s.Rb<=1099511627776
 R9:0<=s.R9/\s.R9<=1099511627776
 RM:0<=s.RM/\s.RM<=1099511627776
 RV:0<=s.RV/\s.RV<=1099511627776
 head:0<=s.head/\s.head<=1099511627776
 before:0<=s.before/\s.before<=4
 after:0<=s.after/\s.after<=4
 inside:0<=s.inside/\s.inside<=1
 clear:0<=s.clear/\s.clear<=3
structure YL(x:Nd):Prop where
 st:SOk x.st
 kind:x.kind=1\/x.kind=2\/x.kind=3\/x.kind=4
 line:0<=x.line/\x.line<=1099511627776
 space:0<=x.space/\x.space<=1099511627776
 words:∀w∈x.words,1<=w/\w<=1099511627776
 w:0<=x.w/\x.w<=1099511627776
 h:0<=x.h/\x.h<=1099511627776
 side:0<=x.side/\x.side<=2
 text:x.kind=2->0<x.words.length/\1<=x.line
 box:x.kind=3\/x.kind=4->1<=x.w/\1<=x.h
 fl:x.kind=4->1<=x.side
 jT:x.kind≠1->x.st=SA.zero
 YM:x.kind≠2->x.words=[]
def nJ{n a b:Int}:br n a b=true↔a<=n/\n<=b:=by simp[br]
def EI:SOk SA.zero:=by constructor<;>simp[SA.zero]
def Lp{s:SA}(h:s.ok=true):SOk s:=by
 simp only[SA.ok,Ba,nJ,mx]at h;constructor<;>omega
def K9{x:Nd}(h:x.ok=true):YL x:=by
 unfold Nd.ok at h;split at h
 .rename_i hk;simp only[Ba,decide_eq_true_eq]at h;obtain⟨⟨⟨⟨⟨⟨h1,h2⟩,h3⟩,h4⟩,h5⟩,h6⟩,h7⟩:=h;have hw:x.words=[]:=List.eq_nil_of_length_eq_zero h4;exact⟨Lp h1,.inl hk,by omega,by omega,by rw[hw];simp,by omega,by omega,by omega,by omega,by omega,by omega,by omega,λ_=>hw⟩
 .rename_i hk;split at h
  .cases h
  .rename_i RA;have hs:x.st=SA.zero:=Classical.byContradiction RA;have hso:SOk x.st:=by rw[hs];exact EI
   split at h
   .rename_i Uq;simp only[Ba,decide_eq_true_eq,nJ,mx,List.all_eq_true]at h;obtain⟨⟨⟨⟨⟨⟨h1,h2⟩,h3⟩,h4⟩,h5⟩,h6⟩,h7⟩:=h;exact⟨hso,.inr (.inl Uq),by omega,by omega,h1,by omega,by omega,by omega,λ_=>⟨h2,h3.1⟩,by omega,by omega,λ_=>hs,by omega⟩
   .rename_i Uq;simp only[Ba,Bool.or_eq_true,decide_eq_true_eq,nJ,mx]at h;obtain⟨⟨⟨⟨⟨h1,h2⟩,h3⟩,h4⟩,h5⟩,h6⟩:=h;have hw:x.words=[]:=List.eq_nil_of_length_eq_zero h3;exact⟨hso,by omega,by omega,by omega,by rw[hw];simp,by omega,by omega,by omega,by omega,by omega,by omega,λ_=>hs,λ_=>hw⟩
def gr{l:List Nd}(hb:R3 l=true){a:Nat}(h:a<l.length):YL l[a]:=by
 simp only[R3,Ba,List.all_eq_true]at hb;exact K9 (hb.1 _ (List.getElem_mem h))
open Go.Proofs Go.Proofs.Tryz
structure Rm where
 (x w:Int)
deriving DecidableEq
def j8(r:Rm):V:=.agg [vI r.x,vI r.w]
def cG(l:List Rm):V:=.sl 2 (l.map j8)
def Ff(l:List Nd)(a:Nat):Int:=((l[a]?).map λn=>n.st.R9).getD 0
def nI(r:Rm)(i:Int):Rm:=⟨min (r.x+i) 1099511627776,max (r.w-2*i) 1⟩
def de(l:List Nd):Nat->Nat->Nat->Rm->List Rm
 |0,_,_,_=>[]
 |k+1,a,e,r=>if a<e then r::(de l k (a+1) (a+(RO l a).toNat) (nI r (Ff l a))++de l k (a+(RO l a).toNat) e r)else[]
def lj{l:List Nd}{e:Nat}(he:e<=l.length):∀(k a:Nat) (r:Rm),e-a<=k->a<=e->cu l a e=true->(de l k a e r).length=e-a
 |0,a,r,hk,ha,_=>by simp[de];omega
 |k+1,a,r,hk,ha,hr=>by
  rw[de];split
  .rename_i H';obtain⟨h1,h2⟩:=dr he hr (Nat.le_refl a) H';obtain⟨h3,h4⟩:=ei he hr H';have ih:=lj he k (a+(RO l a).toNat) r (by omega) (by omega) h3;have ih2:=lj (e:=a+(RO l a).toNat) (by omega) k (a+1) (nI r (Ff l a)) (by omega) (by omega) h4;simp only[List.length_cons,List.length_append];omega
  .simp;omega
def j6{l:List Nd}{e:Nat}(he:e<=l.length):∀(k j a:Nat) (r:Rm),e-a<=k->e-a<=j->cu l a e=true->de l k a e r=de l j a e r
 |0,0,_,_,_,_,_=>rfl
 |0,j+1,a,r,h,_,_=>by rw[de,de,if_neg (by omega)]
 |k+1,0,a,r,_,h,_=>by rw[de,de,if_neg (by omega)]
 |k+1,j+1,a,r,h,h',hr=>by
  rw[de,de];split
  .rename_i H';obtain⟨h1,h2⟩:=dr he hr (Nat.le_refl a) H';obtain⟨h3,h4⟩:=ei he hr H';rw[j6 he k j _ _ (by omega) (by omega) h3,j6 (e:=a+(RO l a).toNat) (by omega) k j _ _ (by omega) (by omega) h4]
  .rfl
def cK{U:ai}{l:List Nd}{a:Nat}(h:a<l.length):bQ U 20 (aK l) (.int .i64 a)=some (.rp (.agg (Nd.cells l[a]))):=by
 simp[aK,bQ,h,iB]
def nu(U:ai)(a b c:Nat):ai:=λi=>if i=a\/i=b\/i=c then some ⟨0,0,[]⟩else U i
def fZ{U:ai}{a b c i:Nat}:nu U a b c i=none↔i≠a/\i≠b/\i≠c/\U i=none:=by
 unfold nu;split
 .rename_i h;simp;intro h1 h2 h3;simp_all
 .rename_i h;simp only[not_or]at h;simp[h]
structure RmJ(l:List Nd)(Z0:ai)(il io ip:Nat)(rows:List V)(U:ai):Prop where
 rl:U il=some ⟨22,1,[aK l]⟩
 rp:U ip=some ⟨256,1,[.fn 162 [.ptr il 0 0,.ptr io 0 0,.ptr ip 0 0]]⟩
 sub:aa Z0 U
 no:Z0 io=none
 out:∃v,U io=some ⟨204,1,[v]⟩/\aT (nu Z0 il io ip) U 258 2 v rows
def yJ(r:Rm):(j8 r).cells=[vI r.x,vI r.w]:=rfl
def zT(r:Rm):(j8 r).stays=true:=rfl
def Rm.ok(r:Rm):Prop:=0<=r.x/\r.x<=1099511627776/\1<=r.w/\r.w<=1099511627776
def vS{r:Rm}(h:r.ok){i:Int}(h0:0<=i):(nI r i).ok:=by
 obtain⟨a,b,c,d⟩:=h;unfold nI Rm.ok;simp only;omega
def F3{l:List Nd}(hb:R3 l=true){a:Nat}(h:a<l.length):Ff l a=l[a].st.R9/\0<=l[a].st.R9/\l[a].st.R9<=1099511627776:=by
 refine⟨by simp[Ff,h],?_⟩;exact(gr hb h).st.R9
def Eg(l:List Nd)(hl:dH l)(hb:R3 l=true)(il io ip:Nat)(nlo:il≠io)(nlp:il≠ip)(nop:io≠ip):∀(m a e:Nat) (r:Rm) (rows:List V) (Z0 U:ai),e-a<m->a<=e->e<=l.length->cu l a e=true->r.ok->
 rows.length+(e-a)<=l.length->RmJ l Z0 il io ip rows U->
 aD prog 162 [vI a,vI e,j8 r,.ptr il 0 0,.ptr io 0 0,.ptr ip 0 0] U λq Z'=>q=.Rf []/\RmJ l Z0 il io ip (rows++(de l (e-a) a e r).map j8) Z':=by
 intro m
 induction m with
 |zero=>intro a e r rows Z0 U h;omega
 |succ m ih=>?_
 intro a e r rows ZB U hm WN he hrB hr hlen hJB;have hl1:=hl.1;refine Ox.r (by simp[Lh]) ?_;refine ad.mix 11 ?_;apply sR;simp only[go_sem,seval,Lh,yJ,zT];refine af λi8 Z8 s8 a8 f8=>?_;simp only[go_sem,seval];have no8:io≠i8:=by obtain⟨v,vo,_⟩:=hJB.out;exact aq vo f8
 have fB8:ZB i8=none:=hJB.sub.none f8;obtain⟨Z0,hY0⟩:∃s,s=C' ZB i8 ⟨258,2,[j8 r]⟩:=⟨_,rfl⟩
 have hk8:∀i,nu Z0 il io ip i=none↔i≠i8/\nu ZB il io ip i=none:=λi=>by
  rw[fZ,fZ,hY0];by_cases h:i=i8
  .subst h;simp[ag]
  .rw[ab h];simp[h]
 have SF:RmJ l Z0 il io ip rows Z8:=by
  refine⟨s8 _ _ hJB.rl,s8 _ _ hJB.rp,?_,by rw[hY0,ab no8];exact hJB.no,?_⟩
  .intro i o h;rw[hY0]at h;by_cases hi:i=i8
   .subst hi;rw[ag]at h;rw[a8];exact h
   .rw[ab hi]at h;exact s8 _ _ (hJB.sub _ _ h)
  .obtain⟨v,vo,TD⟩:=hJB.out;refine⟨v,s8 _ _ vo,?_⟩;rcases TD with h|⟨id,h1,h2,h3⟩
   .exact .inl h
   .exact .inr ⟨id,h1,s8 _ _ h2,(hk8 id).2 ⟨aq h2 f8,h3⟩⟩
 have hback:∀(rows:List V) (J:ai),RmJ l Z0 il io ip rows J->RmJ l ZB il io ip rows J:=λrows J h=>by
  refine⟨h.rl,h.rp,λi o hi=>h.sub _ _ (by rw[hY0,ab (λe=>by rw[e,fB8]at hi;cases hi)];exact hi),by have:=h.no;rw[hY0,ab no8]at this;exact this,?_⟩;obtain⟨v,vo,TD⟩:=h.out;refine⟨v,vo,?_⟩;rcases TD with h|⟨id,h1,h2,h3⟩
  .exact .inl h
  .exact .inr ⟨id,h1,h2,((hk8 id).1 h3).2⟩
 have h08:Z0 i8=some ⟨258,2,[j8 r]⟩:=by rw[hY0];exact ag
 clear hY0;refine ad.loop (λq st=>∃(b:Nat) (done:List V),q=e-b/\a<=b/\b<=e/\cu l b e=true/\done.length+(e-b)<=l.length/\rows++(de l (e-a) a e r).map j8=done++(de l (e-b) b e r).map j8/\RmJ l Z0 il io ip done st.U/\
  st.s 1=vI e/\st.s 3=.ptr il 0 0/\st.s 4=.ptr io 0 0/\st.s 5=.ptr ip 0 0/\st.s 8=.ptr i8 0 0/\st.s 9=vI b) (e-a) ?_ ?_
 .exact⟨a,rows,rfl,Nat.le_refl _,WN,hrB,hlen,rfl,SF,rfl,rfl,rfl,rfl,rfl,rfl⟩
 .rintro q ⟨S,J⟩ ⟨b,done,rfl,We,ZQ,hbB,hdl,XI,hJ,t1,t3,t4,t5,t8,t9⟩;simp only at hJ t1 t3 t4 t5 t8 t9;refine ad.mix 11 ?_;by_cases H':b<e
  .have q1:((b:Int)<(e:Int))=True:=eq_true (by omega);obtain⟨h1,h2⟩:=dr he hbB (Nat.le_refl b) H';obtain⟨h3,h4⟩:=ei he hbB H';have Sh:b<l.length:=by omega
   obtain⟨g1,g2,g3⟩:=F3 hb Sh;have Ti:=lk Sh;obtain⟨v,vo,TD⟩:=hJ.out;have UT:v.cells=[v]:=by rcases TD with⟨rfl,_⟩|⟨_,rfl,_⟩<;>rfl
   have r8:=hJ.sub _ _ h08;have r8':=r8;rw[j8]at r8';apply sR;simp only[go_sem,seval,q1,t1,t3,t4,t5,t8,t9,r8',vo,UT];refine af λi24 Z24 s24 a24 f24=>?_;obtain⟨Rr,SM,Vj⟩:=TD.Dj s24;have Sb:(done.length+1)*17<=140737488355328:=by omega
   simp only[go_sem,seval,t1,t3,t4,t5,t8,t9,SM,dW a24,Sb];rw[aO];intro i25 f25;have f25:Z24 i25=none:=f25;have UF:∀(i:Nat) (Zx:ai),nu Z0 il io ip i≠none->Vc.bK Zx Rr i=Zx i:=λi Zx hk=>by
    cases Rr with
    |none=>rfl
    |some a=>exact dO (λe=>hk (by rw[e];exact(Vj a rfl).1))
   have kl:nu Z0 il io ip il≠none:=λh=>(fZ.1 h).1 rfl;have ko:nu Z0 il io ip io≠none:=λh=>(fZ.1 h).2.1 rfl;have kp:nu Z0 il io ip ip≠none:=λh=>(fZ.1 h).2.2.1 rfl;have ol:=s24 _ _ hJ.rl;have oo:=s24 _ _ vo;have op:=s24 _ _ hJ.rp;have o8:=s24 _ _ r8;have nl:=aq ol f25;have no:=aq oo f25;have np:=aq op f25;have n8:=aq o8 f25;have k8:nu Z0 il io ip i8≠none:=λh=>((hk8 i8).1 h).1 rfl;have hsub25:aa Z0 (C' (Vc.bK Z24 Rr) i25 ⟨258,2,done++[.agg [vI r.x,vI r.w]]⟩):=λi o h=>by
    have h1:=s24 _ _ (hJ.sub _ _ h);rw[ab (aq h1 f25),UF _ _ (λhk=>by rw[(fZ.1 hk).2.2.2]at h;cases h)];exact h1
   have pl:(C' (Vc.bK Z24 Rr) i25 ⟨258,2,done++[.agg [vI r.x,vI r.w]]⟩) il=some ⟨22,1,[aK l]⟩:=by rw[ab nl,UF _ _ kl];exact ol
   have po:(C' (Vc.bK Z24 Rr) i25 ⟨258,2,done++[.agg [vI r.x,vI r.w]]⟩) io=some ⟨204,1,[v]⟩:=by rw[ab no,UF _ _ ko];exact oo
   have pp:(C' (Vc.bK Z24 Rr) i25 ⟨258,2,done++[.agg [vI r.x,vI r.w]]⟩) ip=some ⟨256,1,[.fn 162 [.ptr il 0 0,.ptr io 0 0,.ptr ip 0 0]]⟩:=by rw[ab np,UF _ _ kp];exact op
   have p25:(C' (Vc.bK Z24 Rr) i25 ⟨258,2,done++[.agg [vI r.x,vI r.w]]⟩) i25=some ⟨258,2,done++[.agg [vI r.x,vI r.w]]⟩:=ag;have f0:Z0 i25=none:=(hJ.sub.trans s24).none f25;have Q9:=λU=>cK (U:=U) Sh;have q2:((b:Int)+1)=((b+1:Nat):Int):=by omega
   have q3:((b:Int)+l[b].size)=((b+(RO l b).toNat:Nat):Int):=by rw[Ti];omega
   obtain⟨rx0,rx1,rw0,rw1⟩:=id hr;have r1:Rq .i64 ((b:Int)+1):=ao (by omega) (by omega);have r2:Rq .i64 ((b:Int)+l[b].size):=ao (by omega) (by omega);have r3:Rq .i64 (r.x+l[b].st.R9):=ao (by omega) (by omega);have r4:Rq .i64 (2*l[b].st.R9):=ao (by omega) (by omega);have r5:Rq .i64 (r.w-2*l[b].st.R9):=ao (by omega) (by omega);generalize C' (Vc.bK Z24 Rr) i25 ⟨258,2,done++[.agg [vI r.x,vI r.w]]⟩=Z25 at*;have p8:=hsub25 _ _ h08;rw[j8]at p8;simp only[go_sem,seval,t1,t3,t4,t5,t8,t9,pl,po,pp,p8,UT,ae,ax,ab no8.symm,ab nlo,ab nlp.symm,ab nop.symm,ab nop,Q9,Nd.cells,r1,r2,r3,r4,r5,dh,e8];have Te:RmJ l Z0 il io ip (done++[.agg [vI r.x,vI r.w]]) (C' Z25 io ⟨204,1,[.own i25 0 (done.length+1)]⟩):=by
    refine⟨by rw[ab nlo];exact pl,by rw[ab nop.symm];exact pp,hsub25.aE hJ.no,hJ.no,_,ag,aT.new (by simp) (by rw[ab no.symm];exact p25) (fZ.2 ⟨nl.symm,no.symm,np.symm,f0⟩)⟩
   have hc:=ih (b+1) (b+(RO l b).toNat) (nI r l[b].st.R9) (done++[.agg [vI r.x,vI r.w]]) Z0 _ (by omega) (by omega) (by omega) h4 (vS hr g2) (by simp only[List.length_append,List.length_cons,List.length_nil];omega) Te;rw[<-q2,<-q3]at hc;refine ad.call rfl rfl rfl hc ?_;rintro q' Z' ⟨rfl,TE⟩;have cl:=TE.rl;apply sR;simp only[go_sem,seval,t1,t3,t4,t5,t8,t9,cl,ae,ax,Q9,Nd.cells,r2];have hk:de l (e-b) b e r=r::(de l (b+(RO l b).toNat-(b+1)) (b+1) (b+(RO l b).toNat) (nI r (Ff l b))++de l (e-(b+(RO l b).toNat)) (b+(RO l b).toNat) e r):=by
    rw[show e-b=(e-b-1)+1 by omega,de,if_pos H',j6 (by omega) (e-b-1) _ _ _ (by omega) (Nat.le_refl _) h4,j6 he (e-b-1) _ _ _ (by omega) (Nat.le_refl _) h3]
   have US:=lj (l:=l) (e:=b+(RO l b).toNat) (by omega) (b+(RO l b).toNat-(b+1)) (b+1) (nI r l[b].st.R9) (Nat.le_refl _) (by omega) h4;refine⟨e-(b+(RO l b).toNat),by omega,b+(RO l b).toNat,_,rfl,by omega,by omega,h3,?_,?_,TE,by simp[t1,t3,t4,t5,t8,q3]⟩
   .simp only[List.length_append,List.length_cons,List.length_nil,List.length_map,US];omega
   .rw[XI,hk,g1];simp only[List.map_cons,List.map_append,List.append_assoc,List.cons_append,List.nil_append];rfl
  .have q1:((b:Int)<(e:Int))=False:=eq_false (by omega);apply sR;simp only[go_sem,seval,q1,t1,t3,t4,t5,t8,t9];refine⟨_,_,aa.refl _,Wk.refl (aa.refl _) _,rfl,?_⟩;have hz:de l (e-b) b e r=[]:=by rw[show e-b=0 by omega];rfl
   rw[XI,hz];exact hback _ _ (by simpa using hJ)
def G5(l:List Nd)(hl:dH l)(hb:R3 l=true)(w:Int)(h1:1<=w)(h2:w<=1099511627776):aV prog 106 [aK l,vI w] (cG (de l l.length 0 l.length ⟨0,w⟩)):=λU=>by
 refine Qf.r (by simp[IX]) ?_;have hs:=aa.refl U;refine ad.mix 8 ?_;apply sR;simp only[go_sem,seval,IX,ae,ax];refine af λi2 Z2 s2 a2 f2=>?_;have z2:=hs.none f2;replace hs:=hs.trans s2;simp only[go_sem,seval,a2,ae,ax];refine ad.aB rfl rfl rfl (Bc l hl hb _) ?_;apply sR;simp only[go_sem,seval,a2,ae,ax];refine af λi5 Z5 s5 a5 f5=>?_;have ZL:=aq a2 f5;replace a2:=s5 _ _ a2;have z5:=hs.none f5;replace hs:=hs.trans s5;have q1:(w<1)=False:=eq_false (by omega);have q2:(w>1099511627776)=False:=eq_false (by omega);simp only[go_sem,seval,a5,a2,ae,ax,q1,q2,ab ZL,ab ZL];generalize TR:C' Z5 i5 _=Y5;have b5:Y5 i5=some ⟨254,1,[.agg [aK l]]⟩:=by rw[<-TR];exact ag
 have b2:Y5 i2=some ⟨22,1,[aK l]⟩:=by rw[<-TR,ab ZL];exact a2
 have Vs:aa U Y5:=by rw[<-TR];exact hs.aE z5
 have TQ:aa Y5 Y5:=aa.refl _;clear TR;refine af λi6 Z6 s6 a6 f6=>?_;have c5:=s6 _ _ b5;have c2:=s6 _ _ b2;have z6:U i6=none:=Vs.none f6;simp only[go_sem,seval];refine af λi7 Z7 s7 a7 f7=>?_;have d5:=s7 _ _ c5;have d2:=s7 _ _ c2;have d6:=s7 _ _ a6;have z7:U i7=none:=(Vs.trans s6).none f7;have n57:=aq c5 f7;have n27:=aq c2 f7;have VK:=aq a6 f7;have n26:=aq b2 f6;have hn:=fj l;have Xb:V.Rv.cells=[.Rv]:=rfl;simp only[go_sem,seval,a7,Xb,d5,d2,d6,ab n57,ab n27,ab VK,hn,ae,ax];have hJ:RmJ l U i2 i6 i7 [] (C' Z7 i7 ⟨256,1,[.fn 162 [.ptr i2 0 0,.ptr i6 0 0,.ptr i7 0 0]]⟩):=
  ⟨by rw[ab n27];exact d2,ag,(((Vs.trans s6).trans s7)).aE z7,z6,.aC,by rw[ab VK];exact d6,aT.start⟩
 have hc:=Eg l hl hb i2 i6 i7 n26 n27 VK (l.length+1) 0 l.length ⟨0,w⟩ [] U _ (by omega) (by omega) (by omega) (by simp only[R3,Ba]at hb;exact hb.2) ⟨by simp,by simp,h1,h2⟩ (by simp) hJ;refine ad.call rfl rfl rfl hc ?_;rintro q Z' ⟨rfl,TE⟩;obtain⟨v,vo,TD⟩:=TE.out;have UT:v.cells=[v]:=by rcases TD with⟨rfl,_⟩|⟨_,rfl,_⟩<;>rfl
 apply sR;simp only[go_sem,seval,vo,UT];have ho:aT U Z' 258 2 v ((de l l.length 0 l.length ⟨0,w⟩).map j8):=by
  rcases TD with⟨h,h'⟩|⟨id,h1,h2,h3⟩
  .exact .inl ⟨h,by simpa using h'⟩
  .exact .inr ⟨id,by simpa using h1,by simpa using h2,(fZ.1 h3).2.2.2⟩
 exact ho.Gu TE.sub rfl
section
variable {P:Program} {n:Nat}
def ad.NS{st:St}{Q:St->Prop}{k:List It}{i:aN}{l:List aN}{xa:VX}(hw:bx st.s i.g=some true)(ho:i.op=.SW false xa (.c (.iface 0 .undef))){b:Bool}
 (hx:(xa.ev st.s=.aC/\b=true)\/(∃sz r rows,xa.ev st.s=.sl sz (r::rows)/\b=false)\/∃id off m,xa.ev st.s=.own id off (m+1)/\b=false)
 (h:ad P n (.ops l::k) ⟨aX st.s i.dst (.bool b),st.U⟩ Q):ad P n (.ops (i::l)::k) st Q:=by
 refine ad.ins (by rw[ho];simp) hw λF hn I a w o all hi hs next Q' Rp=>?_
 subst hn;obtain⟨Rk,hd⟩:=eE hi;rw[ho]at Rk;obtain⟨t,x,y,m,c,yt,e,g1,rfl,g2,rfl⟩:=yd Rk;have R:=cL hs x;have hX:∃ba len cap,a.eval x=.slice ba len cap/\ba.isNone=b:=by
  rcases hx with⟨hx,rfl⟩|⟨sz,r,rows,hx,rfl⟩|⟨id,off,m,hx,rfl⟩
  .rw[hx]at R;simp only[E']at R;exact⟨none,0,0,R,rfl⟩
  .rw[hx]at R;simp only[E']at R;obtain⟨ba,cap,hX,_,hr⟩:=R;rcases hr with hr|⟨b,off,rfl,_⟩
   .cases hr
   .exact⟨_,_,_,hX,rfl⟩
  .rw[hx]at R;simp only[E']at R;split at R
   .exact R.elim
   .exact absurd R.2.2 (by omega)
   .obtain⟨o,c,hX,_⟩:=R;exact⟨_,_,_,hX,rfl⟩
 obtain⟨ba,len,cap,hX,rfl⟩:=hX;have RT:(execOp a.eval o).run P w=.ok (.value (.bool ba.isNone)) w:=by
  unfold execOp;rw[g1];have hY:a.eval (.const (.slice none m c))=.slice none m c:=rfl;simp[hX,hY,eqGuard,Lib.run_eql_slice_nil w t e ba len cap m c g2]
 unfold Oper.wp;rw[RT];refine Rp _ _ _ ⟨I,?_⟩ h;rw[<-hd];exact hs.pure (by simp[E'])
end
open Go.Proofs Go.Proofs.Tryz
def uz(U:ai)(v v':V):Prop:=∀J,aa U J->Wk J jT v v'
def uz.mono{U J:ai}{v v':V}(h:uz U v v')(hs:aa U J):uz J v v':=λX' h'=>h X' (hs.trans h')
def uz.at{U:ai}{v v':V}(h:uz U v v'):Wk U jT v v':=h U (aa.refl _)
def aT.Gx{K U:ai}{e sz:Nat}{v:V}{rows:List V}(h:aT K U e sz v rows):uz U v (.sl sz rows):=λJ hs=>(h.mono hs).wk (ot _) (ot _)
def Ue{J:ai}(v:V):Wk J jT v v:=Wk.refl (ot _) _
def Fc(vf:V){U:ai}(fs:List P')(hvf:uz U vf (aH fs))(ws:List Int)(space high:Int)(y:Int)(s:Sd)(hl:fs.length<=1000000)(Rg:∀f∈fs,f.ok)(B:Int)(hB:∀f∈fs,f.y+f.h<=B)(hB1:B<=1152921504606846976)(ZR:0<=y)(hy:y<=B)(hh:0<=high)(hh1:high<=1099511627776)
 (Tl:Tb s.a/\Tb s.b)(hw:WOk ws space):aD prog 219 [vf,bn ws,vI space,vI high,vI y,aZ s] U λr Z'=>aa U Z'/\aT U Z' 294 5 r ((dP fs ws space high s ws.length 0 y).map l5):=by
 refine Qu.r (by simp[Mr]) ?_;have hs:=aa.refl U;have hn:=fG ws;have US:=hw.len;refine ad.mix 16 ?_;apply sR;simp only[go_sem,seval,Mr,aZ];refine af λTc ZM Vu U8 f11=>?_;have z11:=hs.none f11;replace hs:=hs.trans Vu;simp only[go_sem,seval,U8];generalize hG:dP fs ws space high s ws.length 0 y=G;refine ad.loop (λm st=>∃(i k:Nat) (y':Int) (acc:List Ln),m=ws.length-i/\i<=ws.length/\ws.length-i<=k/\acc.length<=i/\G=acc++dP fs ws space high s k i y'/\0<=y'/\y'<=B+1099511627776*i/\aa U st.U/\aT U st.U 294 5 (st.s 13) (acc.map l5)/\
  st.U Tc=some ⟨288,2,[.agg [vI s.a,vI s.b]]⟩/\st.s 0=vf/\st.s 1=bn ws/\st.s 2=vI space/\st.s 3=vI high/\st.s 4=vI y'/\st.s 11=.ptr Tc 0 0/\st.s 14=vI i) ws.length ?_ ?_
 .exact⟨0,ws.length,y,[],rfl,by omega,by omega,by simp,hG.symm,ZR,by omega,hs,aT.start,U8,rfl,rfl,rfl,rfl,rfl,rfl,rfl⟩
 .rintro m ⟨S,J⟩ ⟨i,k,y',acc,rfl,hi,hk,TZ,hg,hy1,hy2,G',TD,b11,t0,t1,t2,t3,t4,t11,t14⟩;simp only at G' TD b11 t0 t1 t2 t3 t4 t11 t14;generalize Xx:S 13=v13 at TD;refine ad.mix 16 ?_;by_cases H':i<ws.length
  .have q:((i:Int)<ws.length)=True:=eq_true (by omega);obtain⟨k,rfl⟩:∃k',k=k'+1:=⟨k-1,by omega⟩
   rw[dP,if_pos H']at hg;have WD:=Ag (space:=space) (width:=jL (dZ fs (kD fs (ws.getD i 0) high s y') high s)) H';have hyr:=gb (w:=ws.getD i 0) (high:=high) (y:=y') (s:=s) hB;have hx:=HP fs ws space high i y' s hl Rg ⟨by omega,by omega⟩ ⟨by omega,by omega⟩ Tl hw H';obtain⟨x,YF⟩:∃x,x=nt fs ws space high i y' s:=⟨_,rfl⟩
   have x1:∃j:Nat,x.to=j/\i<j/\j<=ws.length:=by rw[YF];exact⟨_,rfl,WD⟩
   have x2:y'<=x.y/\x.y<=max y' B:=by rw[YF];exact hyr
   rw[<-YF]at hg hx;clear YF WD hyr;obtain⟨j,hj,hij,VJ⟩:=x1;rw[hj,Int.toNat_natCast]at hg;apply sR;simp only[go_sem,seval,t0,t1,t2,t3,t4,t11,t14,b11,hn,q];refine ad.aB rfl rfl rfl (aV.uy (args':=[aH fs,bn ws,vI space,vI high,vI i,vI y',aZ s]) ⟨(hvf.mono G').at,Ue _,Ue _,Ue _,Ue _,Ue _,Ue _,trivial⟩ hx rfl) ?_;have hc:=yO x;have RA:=zU x;have Sn:(l5 x).cells.length=5:=rfl;have Wl:V.agg [vI x.fr,vI x.to,vI x.x,vI x.y,vI x.w]=l5 x:=rfl;apply sR;simp only[go_sem,seval,t0,t1,t2,t3,t4,t11,t14,Xx,hc,RA];refine af λZf Y15 s15 WY f15=>?_;simp only[go_sem,seval,WY,t0,t1,t2,t3,t4,t11,t14,Xx,hc,Sn,RA,Wl];generalize Ud:C' Y15 Zf _=Z15;have b15:Z15 Zf=some ⟨294,5,[.agg [vI x.fr,vI x.to,vI x.x,vI x.y,vI x.w]]⟩:=by rw[<-Ud];exact ag
   have s15':aa J Z15:=by rw[<-Ud];exact s15.aE f15
   clear Ud;refine af λZS Z30 s30 a30 f30=>?_;obtain⟨Rr,SM,Sv,Zi,Xq⟩:=TD.AD (s15'.trans s30);have Sb:(acc.length+1)*41<=140737488355328:=by omega
   have Wv:(acc.map l5).length=acc.length:=by simp
   simp only[go_sem,seval,t0,t1,t2,t3,t4,t11,t14,Xx,SM,dW a30,Wv,Sb];refine fM λi31 Z31 s31 a31 f31=>?_;have k31:=(Sv U (aa.refl _) Z30 (G'.trans (s15'.trans s30))).trans s31;have n31:U i31=none:=(G'.trans (s15'.trans s30)).none f31;have c15:Z31 Zf=some ⟨294,5,[.agg [vI x.fr,vI x.to,vI x.x,vI x.y,vI x.w]]⟩:=s31 _ _ (by rw[Xq Zf f15];exact s30 _ _ b15);have c11:Z31 Tc=some ⟨288,2,[.agg [vI s.a,vI s.b]]⟩:=s31 _ _ (by rw[Zi Tc _ b11 (.inr (by simp))];exact s30 _ _ (s15' _ _ b11));have r1:Rq .i64 (x.y+high):=ao (by omega) (by omega);simp only[go_sem,seval,t0,t1,t2,t3,t4,t11,t14,c15,hj,r1];refine⟨_,?_,j,k,x.y+high,acc++[x],rfl,VJ,by omega,by simp;omega,by rw[hg];simp,by omega,by omega,k31,?_,c11,by simp[t0,t1,t2,t3,t11]⟩
   .omega
   .rw[List.map_append];exact aT.new (by simp) a31 n31
  .have q:((i:Int)<ws.length)=False:=eq_false (by omega);apply sR;simp only[go_sem,seval,t0,t1,t2,t3,t4,t11,t14,Xx,b11,hn,q];have:dP fs ws space high s k i y'=[]:=by
    cases k with
    |zero=>rfl
    |succ k=>rw[dP,if_neg H']
   rw[this,List.append_nil]at hg;refine⟨_,_,aa.refl _,Wk.refl (aa.refl _) _,G',?_⟩;rw[hg];exact TD
def zQ{P:Program}{f:FuncId}{fn:Func}(hf:P.funcs[f]?=some fn){e sz b:Nat}(hc:cfn P fn=some (mq e sz b))(hk:eF P f=true){K U:ai}{v:V}{rows:List V}(hv:aT K U e sz v rows)(RK:rows=[]->v=.aC)(hb:rows.length*(b+1)<=140737488355328):
 aD P f [v] U λr Z'=>aa U Z'/\aT U Z' e sz r rows:=by
 refine aD.jY hf hc hk (by simp[mq]) ?_;refine ad.mix 3 ?_;rcases hv with⟨rfl,rfl⟩|⟨id,rfl,ho,_⟩
 ·(refine ad.bN Tm.nothing 8 ?_;simp only[go_sem,seval,nQ,mq])
  refine ad.NS rfl rfl (b:=true) (.inl ⟨rfl,rfl⟩) ?_;apply sR;simp only[go_sem,seval];exact⟨_,_,aa.refl _,Wk.refl (aa.refl _) _,aa.refl _,aT.start⟩
 .obtain⟨m,hm⟩:∃m,rows.length=m+1:=by
   cases rows with
   |nil=>exact absurd (RK rfl) (by simp)
   |cons r rs=>exact⟨rs.length,by simp⟩
  (refine ad.bN Tm.nothing 8 ?_;simp only[go_sem,seval,nQ,mq])
  refine ad.NS rfl rfl (b:=false) (.inr (.inr ⟨id,0,m,by rw[hm];rfl,rfl⟩)) ?_;apply sR;simp only[go_sem,seval];refine af λUJ Z1 s1 a1 f1=>?_;obtain⟨Rr,hd,Sv⟩:=(aT.new (K:=U) (e:=e) (sz:=sz) (n:=0) (rows:=[]) rfl a1 f1).dst (aa.refl _);have X6:bR Z1 sz (.own id 0 rows.length)=some rows:=by simp[bR,s1 _ _ ho]
  simp only[go_sem,seval,hd,X6,hb];refine fM λWg Z2 s2 a2 f2=>?_;have TQ:=(Sv U (aa.refl _) Z1 s1).trans s2;simp only[go_sem,seval];exact⟨_,_,aa.refl _,Wk.refl (aa.refl _) _,TQ,aT.new (by simp) a2 (s1.none f2)⟩
def Ik(vf:V){K U:ai}(fs:List P')(hvf:aT K U 150 7 vf (fs.map aQ))(RK:fs=[]->vf=.aC)(f:P')(y:Int)(s:Sd)(hl:fs.length<=1000000)(Rg:∀f∈fs,f.ok)(hy:Tb y)(hh:Bq f.h)(hw:Bq f.w)(Tl:Tb s.a/\Tb s.b):
 aD prog 223 [vf,aQ f,vI y,aZ s] U λr Z'=>aa U Z'/\aT U Z' 150 7 r ((tT fs f y s).map aQ):=by
 refine QW.r (by simp[MG]) ?_;have hs:=aa.refl U;refine ad.mix 14 ?_;apply sR;simp only[go_sem,seval,MG,aQ,aZ];refine af λi5 Z5 s5 a5 f5=>?_;have z5:=hs.none f5;replace hs:=hs.trans s5;simp only[go_sem,seval,a5];refine af λi7 Z7 s7 a7 f7=>?_;have n57:=aq a5 f7;replace a5:=s7 _ _ a5;have z7:=hs.none f7;replace hs:=hs.trans s7;simp only[go_sem,seval,a7,a5];refine ad.aB rfl rfl rfl (aV.uy (args':=[aH fs,aQ f,vI y,aZ s]) ⟨((hvf.mono hs).Gx).at,Ue _,Ue _,Ue _,trivial⟩ (Jk fs f y s hl Rg hy hh hw Tl) rfl) ?_;apply sR;simp only[go_sem,seval,a7,a5,ab n57,ab n57.symm,dj];generalize TR:C' Z7 i5 _=Y5;have b5:Y5 i5=some ⟨150,7,[aQ (jq fs f y s)]⟩:=by rw[<-TR];exact ag
 have Vs:aa U Y5:=by rw[<-TR];exact hs.aE z5
 clear TR;have Vq:aQ (jq fs f y s)=.agg [vI f.node,vI f.side,vI f.anchor,vI (oF fs f y s),vI (kO fs f y s),vI f.w,vI f.h]:=rfl;rw[Vq]at b5;have Wv:(fs.map aQ).length=fs.length:=by simp
 have Sb:(fs.length+1)*57<=140737488355328:=by omega
 have Wc:fs.map aQ++[V.agg [vI f.node,vI f.side,vI f.anchor,vI (oF fs f y s),vI (kO fs f y s),vI f.w,vI f.h]]=(tT fs f y s).map aQ:=by simp[tT,<-Vq]
 have hne':fs.map aQ=[]->vf=.aC:=λh=>RK (by simpa using h);refine ad.CX (by kernel_rfl) 8 (.fork [[],[0],[],[2],[1,3,0,2],[4,0,1,2,3]] [0,2] [1,3] [(.leaf [[],[0],[],[1,0,2],[1,0,3,2],[1,0,4,2,3]] [1,3,4,5]),(.leaf [[],[3,2,0],[],[2],[3,2,1,0],[3,2,4,0,1]] [3,1,4,5])]) (by kernel_rfl) ?_;refine GT.oX (its:=[0,4]) (by kernel_rfl) ?_;refine RE.Sg (n:=0) [] [0,4] [⟨(.some 19),(.Rn (.t 0)),.none⟩,⟨(.some 21),(.load .true 7 (.t 5)),.none⟩] rfl rfl ?_;apply sG;simp only[go_sem,seval,b5];refine⟨?_,?_⟩
 .refine GT.iO (its:=[2,5,6,8,10]) (by kernel_rfl) ?_;refine RE.call rfl rfl rfl rfl rfl (zQ func62 (e62.b.trans rfl) e62.c (hvf.mono Vs) hne' (by simp;omega)) ?_;rintro r Z3 ⟨s3,TD⟩;replace b5:=s3 _ _ b5;have hs3:=Vs.trans s3;refine RE.SB rfl rfl rfl rfl rfl trivial (by simp only[go_sem,seval,b5]) ?_;refine RE.Sg (n:=0) [] [6,8,10] [⟨(.some 22),(.bp 150 7 [(.t 21)]),.none⟩,⟨(.some 23),(.append 150 7 56 (.t 20) (.t 22)),.none⟩,⟨(.some 8),(.Rn (.t 23)),.none⟩] rfl rfl ?_;apply sG;simp only[go_sem,seval,b5];refine bu λi9 Z9 s9 a9 f9=>?_;obtain⟨Rr,SM,Sv⟩:=TD.dst s9;simp only[go_sem,seval,SM,dW a9,Wv,Sb,Wc];refine jM λRP Ws Tz RU f10=>?_;have WW:=(Sv U Vs Z9 (hs3.trans s9)).trans Tz;have n10:U RP=none:=(hs3.trans s9).none f10;simp only[go_sem,seval];apply sR;simp only[go_sem,seval];exact⟨_,_,aa.refl _,Wk.refl (aa.refl _) _,WW,aT.new (by simp[tT]) RU n10⟩
 .refine GT.iO (its:=[6,2,8,10]) (by kernel_rfl) ?_;refine RE.Sg (n:=0) [2,8,10] [6] [⟨(.some 22),(.bp 150 7 [(.t 21)]),.none⟩] rfl rfl ?_;apply sG;simp only[go_sem,seval,b5];refine bu λi9 Z9 s9 a9 f9=>?_;simp only[go_sem,seval];refine RE.call rfl rfl rfl rfl rfl (zQ func62 (e62.b.trans rfl) e62.c (hvf.mono (Vs.trans s9)) hne' (by simp;omega)) ?_;rintro r Z3 ⟨s3,TD⟩;have a9':=s3 _ _ a9;obtain⟨Rr,SM,Sv⟩:=TD.dst (aa.refl _);refine RE.Sg (n:=0) [] [8,10] [⟨(.some 23),(.append 150 7 56 (.t 20) (.t 22)),.none⟩,⟨(.some 8),(.Rn (.t 23)),.none⟩] rfl rfl ?_;apply sG;simp only[go_sem,seval,SM,dW a9',Wv,Sb,Wc];refine jM λRP Ws Tz RU f10=>?_;have WW:=(Sv U (Vs.trans s9) Z3 ((Vs.trans s9).trans s3)).trans Tz;have n10:U RP=none:=((Vs.trans s9).trans s3).none f10;simp only[go_sem,seval];apply sR;simp only[go_sem,seval];exact⟨_,_,aa.refl _,Wk.refl (aa.refl _) _,WW,aT.new (by simp[tT]) RU n10⟩
open Go.Proofs Go.Proofs.Tryz
structure RY where
 (kind node fr to x y w h:Int)
deriving DecidableEq
def cF(a:RY):V:=.agg [vI a.kind,vI a.node,vI a.fr,vI a.to,vI a.x,vI a.y,vI a.w,vI a.h]
def bl(l:List RY):V:=.sl 8 (l.map cF)
structure WS where
 atoms:List RY
 B':List P'
 Ra:Int
 Ro:Pn
structure T0(l:List Nd)(rs:List Rm)(Z0:ai)(iw:Nat)(s:WS)(U:ai):Prop where
 sub:aa Z0 U
 no:Z0 iw=none
 row:∃va vf,U iw=some ⟨209,7,[.agg [va,vf,vI s.Ra,vI s.Ro.y,vI s.Ro.m,aK l,cG rs]]⟩/\
  aT (bg Z0 iw) U 137 8 va (s.atoms.map cF)/\aT (bg Z0 iw) U 150 7 vf (s.B'.map aQ)/\(s.B'=[]->vf=.aC)
def az(l:List Rm):(cG l).cells=[cG l]:=rfl
def xg(l:List Rm):(cG l).stays=true:=rfl
def He{U:ai}{l:List Rm}{i:Nat}(h:i<l.length):bQ U 2 (cG l) (.int .i64 i)=some (.rp (j8 l[i])):=by simp[cG,bQ,h]
def aT.vc{K U:ai}{e sz:Nat}{v:V}{rows:List V}(h:aT K U e sz v rows):v.cells=[v]/\v.stays=true:=by rcases h with⟨rfl,_⟩|⟨_,rfl,_⟩<;>exact⟨rfl,rfl⟩
def eI(rs:List Rm)(a:Nat):Sd:=⟨(rs.getD a ⟨0,0⟩).x,(rs.getD a ⟨0,0⟩).x+(rs.getD a ⟨0,0⟩).w⟩
def Ad{l:List Nd}{rs:List Rm}{Z0 U:ai}{iw:Nat}{s:WS}(hJ:T0 l rs Z0 iw s U)(a:Nat)(ha:a<rs.length)(hr:rs[a].ok):
 aD prog 220 [.ptr iw 0 0,vI a] U λr Z'=>r=aZ (eI rs a)/\Z'=U:=by
 obtain⟨va,vf,w1,VM,Ww,_⟩:=hJ.row;obtain⟨ca,sa⟩:=VM.vc;obtain⟨cf,sf⟩:=Ww.vc;obtain⟨r1,r2,r3,r4⟩:=hr;have V9:rs.getD a ⟨0,0⟩=rs[a]:=by simp[ha]
 have Q9:=λU=>He (U:=U) ha;unfold eI;rw[V9];generalize rs[a]=r at*;have hen:j8 r=.agg [vI r.x,vI r.w]:=rfl;have rr:Rq .i64 (r.x+r.w):=ao (by omega) (by omega);refine PI.r (by simp[JM]) ?_;have hs:=aa.refl U;refine ad.mix 6 ?_;apply sR;simp only[go_sem,seval,JM];refine af λi4 Z4 s4 a4 f4=>?_;have w4:=s4 _ _ w1;simp only[go_sem,seval,w4,Q9,hen,ca,cf,az,ae];refine af λi5 Z5 s5 a5 f5=>?_;have b4:=s5 _ _ a4;have Tp:=aq a4 f5;simp only[go_sem,seval,a5,b4,ab Tp,rr];exact ay.pure (((s4.trans s5).aE (s4.none f5)).aE f4) rfl
def qv(a:RY):(cF a).cells=[vI a.kind,vI a.node,vI a.fr,vI a.to,vI a.x,vI a.y,vI a.w,vI a.h]:=rfl
def qx(a:RY):(cF a).stays=true:=rfl
def WS.put(s:WS)(a:RY):WS:={ s with atoms:=s.atoms++[a],Ro:=⟨a.y+a.h,0⟩ }
def F7{l:List Nd}{rs:List Rm}{Z0 U:ai}{iw:Nat}{s:WS}(hJ:T0 l rs Z0 iw s U)(a:RY)(hy:Bq a.y)(hh:Bq a.h)(hn:s.atoms.length<=1000000):
 aD prog 221 [.ptr iw 0 0,cF a] U λr Z'=>r=.Rf []/\T0 l rs Z0 iw (s.put a) Z':=by
 obtain⟨va,vf,w1,VM,Ww,hf2⟩:=hJ.row;obtain⟨ca,sa⟩:=VM.vc;obtain⟨cf,sf⟩:=Ww.vc;refine QX.r (by simp[Ki]) ?_;refine ad.mix 4 ?_;apply sR;simp only[go_sem,seval,Ki,qv,qx];refine af λi3 Z3 s3 a3 f3=>?_;have w3:=s3 _ _ w1;simp only[go_sem,seval,w3,a3,ca,cf,az,ae,qv,qx];refine bu λTc ZM Vu U8 f11=>?_;obtain⟨Rr,SM,Sv,Zi,Xq⟩:=VM.AD (s3.trans Vu);have Sb:(s.atoms.length+1)*65<=140737488355328:=by omega
 have Wv:(s.atoms.map cF).length=s.atoms.length:=by simp
 simp only[go_sem,seval,SM,dW U8,Wv,Sb];rw[aP];intro SN f12;have f12:ZM SN=none:=f12;have w11:=Vu _ _ w3;have nw:=aq w11 f12;have b3:=Vu _ _ a3;have n3:=aq b3 f12;have nw3:=aq w1 f3;have hdw:=Zi iw _ w1 (.inr (by simp));have hd3:=Xq i3 f3;have cw:(C' (Vc.bK ZM Rr) SN ⟨137,8,s.atoms.map cF++[.agg [vI a.kind,vI a.node,vI a.fr,vI a.to,vI a.x,vI a.y,vI a.w,vI a.h]]⟩) iw=some ⟨209,7,[.agg [va,vf,vI s.Ra,vI s.Ro.y,vI s.Ro.m,aK l,cG rs]]⟩:=by rw[ab nw,hdw];exact w11
 have c3:(C' (Vc.bK ZM Rr) SN ⟨137,8,s.atoms.map cF++[.agg [vI a.kind,vI a.node,vI a.fr,vI a.to,vI a.x,vI a.y,vI a.w,vI a.h]]⟩) i3=some ⟨137,8,[.agg [vI a.kind,vI a.node,vI a.fr,vI a.to,vI a.x,vI a.y,vI a.w,vI a.h]]⟩:=by rw[ab n3,hd3];exact b3
 have c12:(C' (Vc.bK ZM Rr) SN ⟨137,8,s.atoms.map cF++[.agg [vI a.kind,vI a.node,vI a.fr,vI a.to,vI a.x,vI a.y,vI a.w,vI a.h]]⟩) SN=some ⟨137,8,s.atoms.map cF++[.agg [vI a.kind,vI a.node,vI a.fr,vI a.to,vI a.x,vI a.y,vI a.w,vI a.h]]⟩:=ag;have G':aa Z0 (C' (Vc.bK ZM Rr) SN ⟨137,8,s.atoms.map cF++[.agg [vI a.kind,vI a.node,vI a.fr,vI a.to,vI a.x,vI a.y,vI a.w,vI a.h]]⟩):=by
  have h1:=Sv Z0 (λi o h=>by rw[bg,if_neg (λe=>by rw[e,hJ.no]at h;cases h)];exact h) ZM ((hJ.sub.trans s3).trans Vu);exact h1.aE (((hJ.sub.trans s3).trans Vu).none f12)
 have TN:bg Z0 iw SN=none:=aM.2 ⟨nw.symm,((hJ.sub.trans s3).trans Vu).none f12⟩;have hf3:∀o,aT (bg Z0 iw) (C' (Vc.bK ZM Rr) SN o) 150 7 vf (s.B'.map aQ):=λo=>by
  rcases Ww with h|⟨id,h1,h2,h3⟩
  .exact .inl h
  .have h4:=Vu _ _ (s3 _ _ h2);exact .inr ⟨id,h1,by rw[ab (aq h4 f12),Zi id _ h2 (.inr (by simp))];exact h4,h3⟩
 replace hf3:=hf3 ⟨137,8,s.atoms.map cF++[.agg [vI a.kind,vI a.node,vI a.fr,vI a.to,vI a.x,vI a.y,vI a.w,vI a.h]]⟩;generalize C' (Vc.bK ZM Rr) SN ⟨137,8,s.atoms.map cF++[.agg [vI a.kind,vI a.node,vI a.fr,vI a.to,vI a.x,vI a.y,vI a.w,vI a.h]]⟩=J at*;simp only[go_sem,seval,cw,ca,cf,az,ae,dj];have dw:(C' J iw ⟨209,7,[.agg [.own SN 0 (s.atoms.length+1),vf,vI s.Ra,vI s.Ro.y,vI s.Ro.m,aK l,cG rs]]⟩) iw=some ⟨209,7,[.agg [.own SN 0 (s.atoms.length+1),vf,vI s.Ra,vI s.Ro.y,vI s.Ro.m,aK l,cG rs]]⟩:=ag;have d3:(C' J iw ⟨209,7,[.agg [.own SN 0 (s.atoms.length+1),vf,vI s.Ra,vI s.Ro.y,vI s.Ro.m,aK l,cG rs]]⟩) i3=some ⟨137,8,[.agg [vI a.kind,vI a.node,vI a.fr,vI a.to,vI a.x,vI a.y,vI a.w,vI a.h]]⟩:=by rw[ab nw3.symm];exact c3
 have d12:(C' J iw ⟨209,7,[.agg [.own SN 0 (s.atoms.length+1),vf,vI s.Ra,vI s.Ro.y,vI s.Ro.m,aK l,cG rs]]⟩) SN=some ⟨137,8,s.atoms.map cF++[.agg [vI a.kind,vI a.node,vI a.fr,vI a.to,vI a.x,vI a.y,vI a.w,vI a.h]]⟩:=by rw[ab nw.symm];exact c12
 replace G':=G'.aE hJ.no (o:=⟨209,7,[.agg [.own SN 0 (s.atoms.length+1),vf,vI s.Ra,vI s.Ro.y,vI s.Ro.m,aK l,cG rs]]⟩);have hf4:aT (bg Z0 iw) (C' J iw ⟨209,7,[.agg [.own SN 0 (s.atoms.length+1),vf,vI s.Ra,vI s.Ro.y,vI s.Ro.m,aK l,cG rs]]⟩) 150 7 vf (s.B'.map aQ):=by
  rcases hf3 with h|⟨id,h1,h2,h3⟩
  .exact .inl h
  .exact .inr ⟨id,h1,by rw[ab (aM.1 h3).1];exact h2,h3⟩
 clear hf3 cw c3 c12;generalize C' J iw ⟨209,7,[.agg [.own SN 0 (s.atoms.length+1),vf,vI s.Ra,vI s.Ro.y,vI s.Ro.m,aK l,cG rs]]⟩=Y2 at*;refine ad.rz (by kernel_rfl) [0,1,2,3,4,5,6,7,8,9,10,11,12] [[],[],[1],[1,2],[1,2,3],[],[5],[],[7],[1,2,3,4,5,6,7,8],[0,1,2,3,4,5,6,7,8,9],[0,1,2,3,4,5,6,7,8,9,10],[0,1,2,3,4,5,6,7,8,9,10,11]] [0,2,4,6,8,10,12,14,16,18,20,22,24] (by kernel_rfl) (by kernel_rfl) ?_;refine RE.Sg (n:=0) [18,20,22,24] [0,2,4,6,8,10,12,14,16] [⟨(.some 16),(.Rn (.t 0)),.none⟩,⟨(.some 17),(.Rn (.t 0)),.none⟩,⟨(.some 18),(.nilCheck (.t 17)),.none⟩,⟨(.some 19),(.Rz .true 3 2 (.t 18)),.none⟩,⟨(.some 20),(.load .true 2 (.t 19)),.none⟩,⟨(.some 21),(.Rz .false 5 1 (.t 3)),.none⟩,⟨(.some 22),(.load .false 1 (.t 21)),.none⟩,⟨(.some 23),(.Rz .false 7 1 (.t 3)),.none⟩,⟨(.some 24),(.load .false 1 (.t 23)),.none⟩] rfl rfl ?_;apply sG;simp only[go_sem,seval,dw,d3,cf,az,ae];refine RE.aB rfl rfl rfl rfl rfl (I7 s.Ro a.y a.h hy hh _) ?_;refine RE.Sg (n:=0) [] [20,22,24] [⟨(.some 26),(.nilCheck (.t 16)),.none⟩,⟨(.some 27),(.Rz .true 3 2 (.t 26)),.none⟩,⟨.none,(.store 2 (.t 27) (.t 25)),.none⟩] rfl rfl ?_;apply sG;simp only[go_sem,seval,dw,gM,cf,az,ae];apply sR;simp only[go_sem,seval];have Se:aa Z0 (C' Y2 iw ⟨209,7,[.agg [.own SN 0 (s.atoms.length+1),vf,vI s.Ra,vI (a.y+a.h),vI 0,aK l,cG rs]]⟩):=G'.aE hJ.no;refine⟨_,_,aa.refl _,Wk.refl (aa.refl _) _,rfl,Se,hJ.no,.own SN 0 (s.atoms.length+1),vf,ag,?_,?_,hf2⟩
 .exact aT.new (by simp[WS.put]) (by rw[ab nw.symm,d12];simp[WS.put];rfl) TN
 .rcases hf4 with h|⟨id,h1,h2,h3⟩
  .exact .inl h
  .exact .inr ⟨id,h1,by rw[ab (aM.1 h3).1];exact h2,h3⟩
def u6{l:List P'}{w high:Int}{s:Sd}:∀(k:Nat) (y:Int),gtJ l y<=k->nq l w high s (kE l w high s k y)=true
 |0,y,h=>by
  rw[kE];simp only[nq,Bool.or_eq_true,Bool.not_eq_true',decide_eq_true_eq];left;cases hn:(gA l y high s).2 with
  |false=>rfl
  |true=>
   have:=wB (iC hn);omega
 |k+1,y,h=>by
  rw[kE];split
  .rename_i hb;exact hb
  .rename_i hb;simp only[nq,Bool.or_eq_true,Bool.not_eq_true',not_or,Bool.not_eq_false]at hb;have:=wB (iC hb.1);exact u6 k _ (by omega)
def Dy(l:List P')(w high:Int)(s:Sd)(y:Int):(gA l (oV l w high s y) high s).2=false\/jL (dZ l (oV l w high s y) high s)>=w:=by
 have:=u6 (l:=l) (w:=w) (high:=high) (s:=s) l.length y (List.length_filter_le _ _);simp only[nq,Bool.or_eq_true,Bool.not_eq_true',decide_eq_true_eq]at this;exact this
def rk{l:List P'}{w high B:Int}{s:Sd}(hB:∀f∈l,f.y+f.h<=B):∀(k:Nat) (y:Int),y<=kE l w high s k y/\kE l w high s k y<=max y B
 |0,y=>by simp only[kE];omega
 |k+1,y=>by
  rw[kE];split
  .omega
  .rename_i hb;simp only[nq,Bool.or_eq_true,Bool.not_eq_true',not_or,Bool.not_eq_false]at hb;obtain⟨f,hm,h1,h2⟩:=iC hb.1;have:=rk hB k (gA l y high s).1 (w:=w) (high:=high) (s:=s);have:=hB f hm;omega
def GN(f:P')(s:Sd):s.a<=(jU f s).a/\(jU f s).b<=s.b:=by
 unfold jU;split
 .simp only;omega
 .simp only;omega
def zH:∀(l:List P') (s:Sd),s.a<=(l.foldl (λs f=>jU f s) s).a/\(l.foldl (λs f=>jU f s) s).b<=s.b
 |[],s=>by simp
 |f::l,s=>by
  have h1:=GN f s;have h2:=zH l (jU f s);simp only[List.foldl_cons];omega
def Eu(l:List P')(y high:Int)(s:Sd):s.a<=(dZ l y high s).a/\(dZ l y high s).b<=s.b:=zH _ _
structure Zl(B:Int)(f:P'):Prop where
 x0:0<=f.x
 w0:0<=f.w
 w1:f.w<=1099511627776
 h0:0<=f.h
 h1:f.h<=1099511627776
 y0:0<=f.y
 yB:f.y+f.h<=B
 xw:f.x+f.w<=8796093022208
def Zl.ok{B:Int}{f:P'}(h:Zl B f)(hB:B<=1152921504606846976):f.ok:=by
 obtain⟨h1,h2,h3,h4,h5,h6,h7,h8⟩:=h;exact⟨⟨by omega,by omega⟩,⟨by omega,by omega⟩,⟨by omega,by omega⟩,⟨by omega,by omega⟩⟩
def Zl.mono{B C:Int}{f:P'}(h:Zl B f)(hB:B<=C):Zl C f:=by
 obtain⟨h1,h2,h3,h4,h5,h6,h7,h8⟩:=h;exact⟨h1,h2,h3,h4,h5,h6,by omega,h8⟩
def Dp(s:Sd):Prop:=0<=s.a/\s.a<=2199023255552/\0<=s.b/\s.b<=2199023255552
def AG{fs:List P'}{B y:Int}(hB:∀f∈fs,Zl B f):y<=nR fs y/\nR fs y<=max y B:=by
 unfold nR;split
 .rename_i h;obtain⟨f,hf,h1,_⟩:=la h;have:=hB f hf;have h2:(si f).1=f.y:=rfl;rw[h1,h2];have:=this.yB;have:=(hB f hf).h0;omega
 .omega
def zb{fs:List P'}{B y:Int}(hB:∀f∈fs,Zl B f)(f:P')(s:Sd):y<=kO fs f y s/\kO fs f y s<=max y B:=by
 have h1:=AG (y:=y) hB;have h2:=rk (w:=f.w) (high:=f.h) (s:=s) (λf hf=>(hB f hf).yB) fs.length (nR fs y);unfold kO oV;omega
def DE{fs:List P'}{B y:Int}(hB:∀f∈fs,Zl B f){f:P'}{s:Sd}(hs:Dp s)(ZR:0<=y)(hyB:y<=B)(w0:1<=f.w)(w1:f.w<=1099511627776)(h0:0<=f.h)(h1:f.h<=1099511627776):Zl (B+1099511627776) (jq fs f y s):=by
 obtain⟨s1,s2,s3,s4⟩:=hs;have hy:=zb (y:=y) hB f s;have hb:=Eu fs (kO fs f y s) f.h s;have hx:0<=oF fs f y s/\oF fs f y s+f.w<=8796093022208:=by
  unfold oF;simp only;have he:=Dy fs f.w f.h s (nR fs y);have e:oV fs f.w f.h s (nR fs y)=kO fs f y s:=rfl;rw[e]at he;rcases he with h|h
  .have Sl:dZ fs (kO fs f y s) f.h s=s:=Classical.byContradiction λhn=>by
    have:=nF hn;rw[h]at this;cases this
   rw[Sl];split<;>omega
  .unfold jL at h;split at h
   .omega
   .split<;>omega
 exact⟨hx.1,by simp only[jq];omega,by simp only[jq];omega,by simp only[jq];omega,by simp only[jq];omega,by simp only[jq];omega,by simp only[jq];omega,by simpa[jq]using hx.2⟩
def G3{fs:List P'}{B y:Int}(hB:∀f∈fs,Zl B f){f:P'}{s:Sd}(hs:Dp s)(ZR:0<=y)(hyB:y<=B)(w0:1<=f.w)(w1:f.w<=1099511627776)(h0:0<=f.h)(h1:f.h<=1099511627776):∀g∈tT fs f y s,Zl (B+1099511627776) g:=by
 intro g hg;rcases List.mem_append.1 hg with hg|hg
 .exact(hB g hg).mono (by omega)
 .simp only[List.mem_singleton]at hg;subst hg;exact DE hB hs ZR hyB w0 w1 h0 h1
structure Bd(s:WS)(B:Int):Prop where
 fl:∀f∈s.B',Zl B f
 y0:0<=s.Ro.y
 m0:0<=s.Ro.m
 m1:s.Ro.m<=1099511627776
 yB:s.Ro.y+s.Ro.m<=B
def Bd.mono{s:WS}{B C:Int}(h:Bd s B)(hB:B<=C):Bd s C:=⟨λf hf=>(h.fl f hf).mono hB,h.y0,h.m0,h.m1,by have:=h.yB;omega⟩
def WS.mono(l:List Nd)(rs:List Rm)(s:WS)(a:Nat)(n:Nd):WS:=
 let RD:=kD s.B' n.w n.h (eI rs a) (s.Ro.y+s.Ro.m)
 let b:=dZ s.B' RD n.h (eI rs a)
 s.put ⟨2,a,0,0,b.a,RD,n.w,n.h⟩
def fg(a:Nat)(h:Int)(x:Ln):RY:=⟨1,a,x.fr,x.to,x.x,x.y,x.w,h⟩
def WS.text(rs:List Rm)(s:WS)(a:Nat)(n:Nd):WS:=
 (dP s.B' n.words n.space n.line (eI rs a) n.words.length 0 (s.Ro.y+s.Ro.m)).foldl (λs x=>s.put (fg a n.line x)) s
def WS.float(rs:List Rm)(s:WS)(a:Nat)(n:Nd):WS:=
 { s with B':=tT s.B' ⟨a,n.side,s.atoms.length,0,0,n.w,n.h⟩ (s.Ro.y+s.Ro.m) (eI rs a) }
def WS.enter(s:WS)(t:SA):WS:=
 let p:=if(ee (lD t.clear) s.B').2 then jg s.Ro (ee (lD t.clear) s.B').1 else s.Ro
 { s with Ro:=eD p t.top t.Rl }
def WS.leave(s:WS)(t:SA):WS:={ s with Ro:=ld s.Ro t.Ry t.Rb }
def Bd.enter{s:WS}{B:Int}(h:Bd s B){t:SA}(ht:SOk t):Bd (s.enter t) (B+2199023255552):=by
 obtain⟨hf,h1,h2,h3,h4⟩:=h;have hp:∀p:Pn,0<=p.y->0<=p.m->p.m<=1099511627776->p.y+p.m<=B->Bd { s with Ro:=eD p t.top t.Rl } (B+2199023255552):=by
  intro p g1 g2 g3 g4;have a1:=ht.top;have a2:=ht.Rl;refine⟨λf UG=>(hf f UG).mono (by omega),?_,?_,?_,?_⟩<;>simp only[eD,ua]<;>(repeat' split)<;>omega
 unfold WS.enter;simp only;split
 .rename_i hm;obtain⟨f,hfm,e1,_⟩:=la hm;have e2:(lD t.clear f).1=f.y+f.h:=rfl;have V8:=hf f hfm;have hy:=V8.yB;have ZR:=V8.y0;have hh0:=V8.h0;rw[e1,e2];refine hp _ ?_ ?_ ?_ ?_<;>(unfold jg;split)<;>(try simp only)<;>omega
 .exact hp _ h1 h2 h3 h4
def Bd.leave{s:WS}{B:Int}(h:Bd s B){t:SA}(ht:SOk t):Bd (s.leave t) (B+2199023255552):=by
 obtain⟨hf,h1,h2,h3,h4⟩:=h;have a1:=ht.Ry;have a2:=ht.Rb;refine⟨λf UG=>(hf f UG).mono (by omega),?_,?_,?_,?_⟩<;>simp only[WS.leave,ld,ua]<;>(repeat' split)<;>omega
open Go.Proofs Go.Proofs.Tryz
structure Yj(l:List Nd)(rs:List Rm):Prop where
 ru:l.length<=2000
 XN:R3 l=true
 len:rs.length=l.length
 rok:∀r∈rs,r.ok
def Yj.room{l:List Nd}{rs:List Rm}(h:Yj l rs){a:Nat}(ha:a<l.length):∃h':a<rs.length,rs[a].ok:=⟨by rw[h.len];exact ha,h.rok _ (List.getElem_mem _)⟩
def Yj.span{l:List Nd}{rs:List Rm}(h:Yj l rs){a:Nat}(ha:a<l.length):Dp (eI rs a):=by
 obtain⟨h',r1,r2,r3,r4⟩:=h.room ha;have e:rs.getD a ⟨0,0⟩=rs[a]:=by simp[h']
 unfold eI Dp;rw[e];simp only;omega
def Dp.bq{s:Sd}(h:Dp s):Tb s.a/\Tb s.b:=by obtain⟨a,b,c,d⟩:=h;exact⟨⟨by omega,by omega⟩,⟨by omega,by omega⟩⟩
def Bd.Yk{s:WS}{B:Int}(h:Bd s B)(hB:B<=1152921504606846976):∀f∈s.B',f.ok:=λf hf=>(h.fl f hf).ok hB
def jl(l:List Nd){a:Nat}(h:a<l.length)(U:ai):bQ U 20 (aK l) (.int .i64 a)=some (.rp (.agg (Nd.cells l[a]))):=cK h
def T0.mono{l:List Nd}{rs:List Rm}{Z0 U J:ai}{iw:Nat}{s:WS}(hJ:T0 l rs Z0 iw s U)(hs:aa U J):T0 l rs Z0 iw s J:=by
 obtain⟨va,vf,w1,h1,h2,h3⟩:=hJ.row;exact⟨hJ.sub.trans hs,hJ.no,va,vf,hs _ _ w1,h1.mono hs,h2.mono hs,h3⟩
def GG{l:List Nd}{rs:List Rm}(hD:Yj l rs){Z0 U:ai}{iw:Nat}{s:WS}{B:Int}(hJ:T0 l rs Z0 iw s U)(hB:Bd s B)(hB1:B<=576460752303423488)(a:Nat)(ha:a<l.length)(hk:l[a].kind=3)(hn:s.atoms.length<=100000)(hfn:s.B'.length<=100000):
 aD prog 165 [.ptr iw 0 0,vI a] U λr Z'=>r=.Rf []/\T0 l rs Z0 iw (WS.mono l rs s a l[a]) Z':=by
 obtain⟨va,vf,w1,VM,Ww,hf2⟩:=hJ.row;obtain⟨ca,sa⟩:=VM.vc;obtain⟨cf,sf⟩:=Ww.vc;have RL:=gr hD.XN ha;have hsp:=hD.span ha;obtain⟨har,Yl⟩:=hD.room ha;have Q9:=jl l ha;have hen:∀n:Nd,V.agg (Nd.cells n)=iB n:=λ_=>rfl;unfold WS.mono;generalize l[a]=n at*;refine Pt.r (by simp[Lg]) ?_;refine ad.mix 7 ?_;apply sR;simp only[go_sem,seval,Lg,w1,ca,cf,az,ae,aj,av,Q9,Nd.cells];refine af λi4 Z4 s4 a4 f4=>?_;simp only[go_sem,seval,a4,aj,av,dj];generalize SZ:C' Z4 i4 _=Y4;have b4:Y4 i4=some ⟨59,20,[.agg (Nd.cells n)]⟩:=by rw[<-SZ];exact ag
 rw[Nd.cells]at b4;have YN:aa U Y4:=by rw[<-SZ];exact s4.aE f4
 clear SZ;have w4:=YN _ _ w1;have hlen:uz Y4 vf (aH s.B'):=(Ww.mono YN).Gx;have W1:=hJ.mono YN;have hm:=hB.m1;have V0:=hB.m0;have ZR:=hB.y0;have hyB:=hB.yB;have hws:=RL.w;have hhs:=RL.h;have VU:=F0 s.B' n.w n.h (s.Ro.y+s.Ro.m) (eI rs a) (by omega) (hB.Yk (by omega)) ⟨by omega,by omega⟩ ⟨by omega,by omega⟩ hsp.bq;obtain⟨RD,SE⟩:∃z,z=kD s.B' n.w n.h (eI rs a) (s.Ro.y+s.Ro.m):=⟨_,rfl⟩
 have hyr:=gb (w:=n.w) (high:=n.h) (y:=s.Ro.y+s.Ro.m) (s:=eI rs a) (λf hf=>(hB.fl f hf).yB);rw[<-SE]at VU hyr|-;obtain⟨b,hb⟩:∃b,b=dZ s.B' RD n.h (eI rs a):=⟨_,rfl⟩
 rw[<-hb]at VU|-;have fin:∀(S:Nat->V) (J:ai) (i5:Nat),aa Y4 J->J i5=some ⟨288,2,[.agg [vI b.a,vI b.b]]⟩->S 0=.ptr iw 0 0->S 1=vI a->S 4=.ptr i4 0 0->S 5=.ptr i5 0 0->S 6=vI RD->
  ad prog 46 [It.code (.RR false [⟨some 35,.Rn (.t 0),none⟩,⟨some 36,.Rn (.t 1),none⟩,⟨some 37,.Rz false 0 1 (.t 5),none⟩,⟨some 38,.load false 1 (.t 37),none⟩,⟨some 39,.Rn (.t 6),none⟩,⟨some 40,.Rz false 18 1 (.t 4),none⟩,⟨some 41,.load false 1 (.t 40),none⟩,⟨some 42,.Rz false 19 1 (.t 4),none⟩,⟨some 43,.load false 1 (.t 42),none⟩,⟨some 44,.build [.int .i64 0,.int .i64 0,.int .i64 0,.int .i64 0,.int .i64 0,.int .i64 0,.int .i64 0,.int .i64 0] [(0,1,.c (.int .i64 2)),(1,1,.t 36),(4,1,.t 38),(5,1,.t 39),(6,1,.t 41),(7,1,.t 43)],none⟩,⟨some 45,.call (.c (.fn 221 [])) [.t 35,.t 44],none⟩])] ⟨S,J⟩
   (λst=>ay (.Rf []) st.U λr Z'=>r=.Rf []/\T0 l rs Z0 iw (s.put ⟨2,a,0,0,b.a,RD,n.w,n.h⟩) Z'):=by
  intro S J i5 Zm c5 t0 t1 t4 t5 t6;have c4:=Zm _ _ b4;refine ad.mix 7 ?_;apply sR;simp only[go_sem,seval,t0,t1,t4,t5,t6,c4,c5,aj];refine ad.call rfl rfl rfl (F7 (W1.mono Zm) ⟨2,a,0,0,b.a,RD,n.w,n.h⟩ (show Bq RD from⟨by omega,by omega⟩) (show Bq n.h from⟨by omega,by omega⟩) (by omega)) ?_;rintro r Z' ⟨rfl,TE⟩;apply sR;simp only[go_sem,seval];exact⟨_,_,aa.refl _,Wk.refl (aa.refl _) _,rfl,TE⟩
 refine ad.CX (by kernel_rfl) 8 (.fork [[],[0],[1,0],[2,1,0],[3,2,1,0],[],[5],[],[7],[],[9],[10,9],[11,10,9],[12,11,10,9],[],[],[14,15,13,12,11,10,9],[4,6,8,13,16,3,2,1,0,5,7,12,11,10,9,14,15],[17,4,6,8,13,16,3,2,1,0,5,7,12,11,10,9,14,15],[18,17,4,6,8,13,16,3,2,1,0,5,7,12,11,10,9,14,15],[18,17,4,6,8,13,16,3,2,1,0,5,7,12,11,10,9,14,15],[],[21,19,17,0,1,2,3,4,5,6,7,8,9,10,11,12,13,14,15,16,18],[20,22,0,1,2,3,4,5,6,7,8,9,10,11,12,13,14,15,16,17,18,19,21]] [0,1,2,3,4,5,6,7,8,9,10,11,12,14,15] [13,21] [(.fork [[],[0],[1,0],[2,1,0],[3,2,1,0],[],[5],[],[7],[],[9],[10,9],[11,10,9],[12,11,10,9],[],[],[14,15,13,12,11,10,9],[4,6,8,13,16,3,2,1,0,5,7,12,11,10,9,14,15],[17,4,6,8,13,16,3,2,1,0,5,7,12,11,10,9,14,15],[18,17,4,6,8,13,16,3,2,1,0,5,7,12,11,10,9,14,15],[18,17,4,6,8,13,16,3,2,1,0,5,7,12,11,10,9,14,15],[13,12,11,10,9],[13,12,11,10,9,21,19,17,0,1,2,3,4,5,6,7,8,14,15,16,18],[13,12,11,10,9,20,22,0,1,2,3,4,5,6,7,8,14,15,16,17,18,19,21]] [13] [16,21] [(.fork [[],[0],[1,0],[2,1,0],[3,2,1,0],[],[5],[],[7],[],[9],[10,9],[11,10,9],[12,11,10,9],[],[],[14,15,13,12,11,10,9],[4,6,8,13,16,3,2,1,0,5,7,12,11,10,9,14,15],[17,4,6,8,13,16,3,2,1,0,5,7,12,11,10,9,14,15],[18,17,4,6,8,13,16,3,2,1,0,5,7,12,11,10,9,14,15],[18,17,4,6,8,13,16,3,2,1,0,5,7,12,11,10,9,14,15],[16,14,15,13,12,11,10,9],[16,14,15,13,12,11,10,9,21,19,17,0,1,2,3,4,5,6,7,8,18],[16,14,15,13,12,11,10,9,20,22,0,1,2,3,4,5,6,7,8,17,18,19,21]] [16] [17,21] [(.leaf [[],[0],[1,0],[2,1,0],[3,2,1,0],[],[5],[],[7],[],[9],[10,9],[11,10,9],[12,11,10,9],[],[],[14,15,13,12,11,10,9],[4,6,8,13,16,3,2,1,0,5,7,12,11,10,9,14,15],[17,4,6,8,13,16,3,2,1,0,5,7,12,11,10,9,14,15],[18,17,4,6,8,13,16,3,2,1,0,5,7,12,11,10,9,14,15],[18,17,4,6,8,13,16,3,2,1,0,5,7,12,11,10,9,14,15],[17,4,6,8,13,16,3,2,1,0,5,7,12,11,10,9,14,15],[17,4,6,8,13,16,3,2,1,0,5,7,12,11,10,9,14,15,21,19,18],[17,4,6,8,13,16,3,2,1,0,5,7,12,11,10,9,14,15,20,22,18,19,21]] [17,18,19,20,21,22,23]),(.leaf [[],[0],[1,0],[2,1,0],[3,2,1,0],[],[5],[],[7],[],[9],[10,9],[11,10,9],[12,11,10,9],[],[],[14,15,13,12,11,10,9],[21,16,14,15,13,12,11,10,9,4,6,8,3,2,1,0,5,7],[21,16,14,15,13,12,11,10,9,17,4,6,8,3,2,1,0,5,7],[21,16,14,15,13,12,11,10,9,18,17,4,6,8,3,2,1,0,5,7],[21,16,14,15,13,12,11,10,9,18,17,4,6,8,3,2,1,0,5,7],[16,14,15,13,12,11,10,9],[21,16,14,15,13,12,11,10,9,19,17,0,1,2,3,4,5,6,7,8,18],[21,16,14,15,13,12,11,10,9,20,22,0,1,2,3,4,5,6,7,8,17,18,19]] [21,17,18,19,20,22,23])]),(.leaf [[],[0],[1,0],[2,1,0],[3,2,1,0],[],[5],[],[7],[],[9],[10,9],[11,10,9],[12,11,10,9],[],[],[21,13,12,11,10,9,14,15],[21,13,12,11,10,9,4,6,8,16,3,2,1,0,5,7,14,15],[21,13,12,11,10,9,17,4,6,8,16,3,2,1,0,5,7,14,15],[21,13,12,11,10,9,18,17,4,6,8,16,3,2,1,0,5,7,14,15],[21,13,12,11,10,9,18,17,4,6,8,16,3,2,1,0,5,7,14,15],[13,12,11,10,9],[21,13,12,11,10,9,19,17,0,1,2,3,4,5,6,7,8,14,15,16,18],[21,13,12,11,10,9,20,22,0,1,2,3,4,5,6,7,8,14,15,16,17,18,19]] [21,16,17,18,19,20,22,23])]),(.leaf [[],[0],[1,0],[2,1,0],[3,2,1,0],[],[5],[],[7],[],[9],[10,9],[11,10,9],[21,12,11,10,9],[],[],[21,14,15,13,12,11,10,9],[21,4,6,8,13,16,3,2,1,0,5,7,12,11,10,9,14,15],[21,17,4,6,8,13,16,3,2,1,0,5,7,12,11,10,9,14,15],[21,18,17,4,6,8,13,16,3,2,1,0,5,7,12,11,10,9,14,15],[21,18,17,4,6,8,13,16,3,2,1,0,5,7,12,11,10,9,14,15],[],[21,19,17,0,1,2,3,4,5,6,7,8,9,10,11,12,13,14,15,16,18],[21,20,22,0,1,2,3,4,5,6,7,8,9,10,11,12,13,14,15,16,17,18,19]] [21,13,16,17,18,19,20,22,23])]) (by kernel_rfl) ?_;refine GT.oX (its:=[0,2,4,6,8,10,12,14,16,18,20,22,24,28,30]) (by kernel_rfl) ?_;refine RE.Sg (n:=0) [] [0,2,4,6,8,10,12,14,16,18,20,22,24,28,30] [⟨(.some 15),(.Rn (.t 0)),.none⟩,⟨(.some 16),(.nilCheck (.t 15)),.none⟩,⟨(.some 17),(.Rz .true 0 3 (.t 16)),.none⟩,⟨(.some 18),(.Rz .false 1 1 (.t 17)),.none⟩,⟨(.some 19),(.load .false 1 (.t 18)),.none⟩,⟨(.some 20),(.Rz .false 18 1 (.t 4)),.none⟩,⟨(.some 21),(.load .false 1 (.t 20)),.none⟩,⟨(.some 22),(.Rz .false 19 1 (.t 4)),.none⟩,⟨(.some 23),(.load .false 1 (.t 22)),.none⟩,⟨(.some 24),(.Rn (.t 0)),.none⟩,⟨(.some 25),(.nilCheck (.t 24)),.none⟩,⟨(.some 26),(.Rz .true 3 2 (.t 25)),.none⟩,⟨(.some 27),(.load .true 2 (.t 26)),.none⟩,⟨(.some 29),(.Rn (.t 0)),.none⟩,⟨(.some 30),(.Rn (.t 1)),.none⟩] rfl rfl ?_;apply sG;simp only[go_sem,seval,b4,w4,ca,cf,az,ae,aj,av];refine⟨?_,?_⟩
 .refine GT.oX (its:=[26,9,13,17]) (by kernel_rfl) ?_;refine RE.aB rfl rfl rfl rfl rfl (DK s.Ro ⟨by omega,by omega⟩ ⟨by omega,by omega⟩ _) ?_;refine RE.SB rfl rfl rfl rfl rfl trivial (by simp only[go_sem,seval,b4,w4,ca,cf,az,ae,aj,av]) ?_;refine RE.SB rfl rfl rfl rfl rfl trivial (by simp only[go_sem,seval,b4,w4,ca,cf,az,ae,aj,av]) ?_;refine RE.SB rfl rfl rfl rfl rfl trivial (by simp only[go_sem,seval,b4,w4,ca,cf,az,ae,aj,av]) ?_;refine⟨?_,?_⟩
  .refine GT.oX (its:=[32,9,13,17]) (by kernel_rfl) ?_;refine RE.aB rfl rfl rfl rfl rfl (Ad W1 a har Yl) ?_;refine RE.SB rfl rfl rfl rfl rfl trivial (by simp only[go_sem,seval,b4,w4,ca,cf,az,ae,aj,av]) ?_;refine RE.SB rfl rfl rfl rfl rfl trivial (by simp only[go_sem,seval,b4,w4,ca,cf,az,ae,aj,av]) ?_;refine RE.SB rfl rfl rfl rfl rfl trivial (by simp only[go_sem,seval,b4,w4,ca,cf,az,ae,aj,av]) ?_;refine⟨?_,?_⟩
   .refine GT.iO (its:=[34,36,38,40,42,44,46]) (by kernel_rfl) ?_;refine RE.aB rfl rfl rfl rfl rfl (aV.uy (args':=[aH s.B',vI n.w,vI n.h,vI (s.Ro.y+s.Ro.m),aZ (eI rs a)]) ⟨hlen.at,Ue _,Ue _,Ue _,Ue _,trivial⟩ VU rfl) ?_;refine RE.Sg (n:=0) [] [36,38,40,42,44,46] [⟨(.some 14),(.Rn (.t 32)),.none⟩,⟨(.some 33),(.ext 0 (.t 14)),.none⟩,⟨(.some 34),(.ext 1 (.t 14)),.none⟩,⟨(.some 5),(.alloc 288 2 (.agg [(.int .i64 0),(.int .i64 0)])),.none⟩,⟨.none,(.store 2 (.t 5) (.t 33)),.none⟩,⟨(.some 6),(.Rn (.t 34)),.none⟩] rfl rfl ?_;apply sG;simp only[go_sem,seval,b4,w4,ca,cf,az,ae,aj,av];refine bu λi5 Z5 s5 a5 f5=>?_;replace b4:=s5 _ _ b4;replace w4:=s5 _ _ w4;replace hlen:=hlen.mono s5;replace W1:=W1.mono s5;simp only[go_sem,seval,b4,w4,ca,cf,az,ae,aj,av,a5,aZ];exact fin _ _ i5 (s5.aE f5) ag rfl rfl rfl rfl rfl
   .refine GT.iO (its:=[42,9,13,17,34,36,38,40,44,46]) (by kernel_rfl) ?_;refine RE.Sg (n:=0) [9,13,17,34,36,38,40,44,46] [42] [⟨(.some 5),(.alloc 288 2 (.agg [(.int .i64 0),(.int .i64 0)])),.none⟩] rfl rfl ?_;apply sG;simp only[go_sem,seval,b4,w4,ca,cf,az,ae,aj,av];refine bu λi5 Z5 s5 a5 f5=>?_;replace b4:=s5 _ _ b4;replace w4:=s5 _ _ w4;replace hlen:=hlen.mono s5;replace W1:=W1.mono s5;simp only[go_sem,seval,b4,w4,ca,cf,az,ae,aj,av,a5,aZ];refine RE.SB rfl rfl rfl rfl rfl trivial (by simp only[go_sem,seval,b4,w4,ca,cf,az,ae,aj,av,a5,aZ]) ?_;refine RE.SB rfl rfl rfl rfl rfl trivial (by simp only[go_sem,seval,b4,w4,ca,cf,az,ae,aj,av,a5,aZ]) ?_;refine RE.SB rfl rfl rfl rfl rfl trivial (by simp only[go_sem,seval,b4,w4,ca,cf,az,ae,aj,av,a5,aZ]) ?_;refine RE.aB rfl rfl rfl rfl rfl (aV.uy (args':=[aH s.B',vI n.w,vI n.h,vI (s.Ro.y+s.Ro.m),aZ (eI rs a)]) ⟨hlen.at,Ue _,Ue _,Ue _,Ue _,trivial⟩ VU rfl) ?_;refine RE.Sg (n:=0) [] [36,38,40,44,46] [⟨(.some 14),(.Rn (.t 32)),.none⟩,⟨(.some 33),(.ext 0 (.t 14)),.none⟩,⟨(.some 34),(.ext 1 (.t 14)),.none⟩,⟨.none,(.store 2 (.t 5) (.t 33)),.none⟩,⟨(.some 6),(.Rn (.t 34)),.none⟩] rfl rfl ?_;apply sG;simp only[go_sem,seval,b4,w4,ca,cf,az,ae,aj,av,a5,aZ];exact fin _ _ i5 (s5.aE f5) ag rfl rfl rfl rfl rfl
  .refine GT.iO (its:=[42,9,13,17,32,9,13,17,34,36,38,40,44,46]) (by kernel_rfl) ?_;refine RE.Sg (n:=0) [9,13,17,32,9,13,17,34,36,38,40,44,46] [42] [⟨(.some 5),(.alloc 288 2 (.agg [(.int .i64 0),(.int .i64 0)])),.none⟩] rfl rfl ?_;apply sG;simp only[go_sem,seval,b4,w4,ca,cf,az,ae,aj,av];refine bu λi5 Z5 s5 a5 f5=>?_;replace b4:=s5 _ _ b4;replace w4:=s5 _ _ w4;replace hlen:=hlen.mono s5;replace W1:=W1.mono s5;simp only[go_sem,seval,b4,w4,ca,cf,az,ae,aj,av,a5,aZ];refine RE.SB rfl rfl rfl rfl rfl trivial (by simp only[go_sem,seval,b4,w4,ca,cf,az,ae,aj,av,a5,aZ]) ?_;refine RE.SB rfl rfl rfl rfl rfl trivial (by simp only[go_sem,seval,b4,w4,ca,cf,az,ae,aj,av,a5,aZ]) ?_;refine RE.SB rfl rfl rfl rfl rfl trivial (by simp only[go_sem,seval,b4,w4,ca,cf,az,ae,aj,av,a5,aZ]) ?_;refine RE.aB rfl rfl rfl rfl rfl (Ad W1 a har Yl) ?_;refine RE.SB rfl rfl rfl rfl rfl trivial (by simp only[go_sem,seval,b4,w4,ca,cf,az,ae,aj,av,a5,aZ]) ?_;refine RE.SB rfl rfl rfl rfl rfl trivial (by simp only[go_sem,seval,b4,w4,ca,cf,az,ae,aj,av,a5,aZ]) ?_;refine RE.SB rfl rfl rfl rfl rfl trivial (by simp only[go_sem,seval,b4,w4,ca,cf,az,ae,aj,av,a5,aZ]) ?_;refine RE.aB rfl rfl rfl rfl rfl (aV.uy (args':=[aH s.B',vI n.w,vI n.h,vI (s.Ro.y+s.Ro.m),aZ (eI rs a)]) ⟨hlen.at,Ue _,Ue _,Ue _,Ue _,trivial⟩ VU rfl) ?_;refine RE.Sg (n:=0) [] [36,38,40,44,46] [⟨(.some 14),(.Rn (.t 32)),.none⟩,⟨(.some 33),(.ext 0 (.t 14)),.none⟩,⟨(.some 34),(.ext 1 (.t 14)),.none⟩,⟨.none,(.store 2 (.t 5) (.t 33)),.none⟩,⟨(.some 6),(.Rn (.t 34)),.none⟩] rfl rfl ?_;apply sG;simp only[go_sem,seval,b4,w4,ca,cf,az,ae,aj,av,a5,aZ];exact fin _ _ i5 (s5.aE f5) ag rfl rfl rfl rfl rfl
 .refine GT.iO (its:=[42,9,13,17,25,26,9,13,17,32,9,13,17,34,36,38,40,44,46]) (by kernel_rfl) ?_;refine RE.Sg (n:=0) [9,13,17,25,26,9,13,17,32,9,13,17,34,36,38,40,44,46] [42] [⟨(.some 5),(.alloc 288 2 (.agg [(.int .i64 0),(.int .i64 0)])),.none⟩] rfl rfl ?_;apply sG;simp only[go_sem,seval,b4,w4,ca,cf,az,ae,aj,av];refine bu λi5 Z5 s5 a5 f5=>?_;replace b4:=s5 _ _ b4;replace w4:=s5 _ _ w4;replace hlen:=hlen.mono s5;replace W1:=W1.mono s5;simp only[go_sem,seval,b4,w4,ca,cf,az,ae,aj,av,a5,aZ];refine RE.SB rfl rfl rfl rfl rfl trivial (by simp only[go_sem,seval,b4,w4,ca,cf,az,ae,aj,av,a5,aZ]) ?_;refine RE.SB rfl rfl rfl rfl rfl trivial (by simp only[go_sem,seval,b4,w4,ca,cf,az,ae,aj,av,a5,aZ]) ?_;refine RE.SB rfl rfl rfl rfl rfl trivial (by simp only[go_sem,seval,b4,w4,ca,cf,az,ae,aj,av,a5,aZ]) ?_;refine RE.SB rfl rfl rfl rfl rfl trivial (by simp only[go_sem,seval,b4,w4,ca,cf,az,ae,aj,av,a5,aZ]) ?_;refine RE.aB rfl rfl rfl rfl rfl (DK s.Ro ⟨by omega,by omega⟩ ⟨by omega,by omega⟩ _) ?_;refine RE.SB rfl rfl rfl rfl rfl trivial (by simp only[go_sem,seval,b4,w4,ca,cf,az,ae,aj,av,a5,aZ]) ?_;refine RE.SB rfl rfl rfl rfl rfl trivial (by simp only[go_sem,seval,b4,w4,ca,cf,az,ae,aj,av,a5,aZ]) ?_;refine RE.SB rfl rfl rfl rfl rfl trivial (by simp only[go_sem,seval,b4,w4,ca,cf,az,ae,aj,av,a5,aZ]) ?_;refine RE.aB rfl rfl rfl rfl rfl (Ad W1 a har Yl) ?_;refine RE.SB rfl rfl rfl rfl rfl trivial (by simp only[go_sem,seval,b4,w4,ca,cf,az,ae,aj,av,a5,aZ]) ?_;refine RE.SB rfl rfl rfl rfl rfl trivial (by simp only[go_sem,seval,b4,w4,ca,cf,az,ae,aj,av,a5,aZ]) ?_;refine RE.SB rfl rfl rfl rfl rfl trivial (by simp only[go_sem,seval,b4,w4,ca,cf,az,ae,aj,av,a5,aZ]) ?_;refine RE.aB rfl rfl rfl rfl rfl (aV.uy (args':=[aH s.B',vI n.w,vI n.h,vI (s.Ro.y+s.Ro.m),aZ (eI rs a)]) ⟨hlen.at,Ue _,Ue _,Ue _,Ue _,trivial⟩ VU rfl) ?_;refine RE.Sg (n:=0) [] [36,38,40,44,46] [⟨(.some 14),(.Rn (.t 32)),.none⟩,⟨(.some 33),(.ext 0 (.t 14)),.none⟩,⟨(.some 34),(.ext 1 (.t 14)),.none⟩,⟨.none,(.store 2 (.t 5) (.t 33)),.none⟩,⟨(.some 6),(.Rn (.t 34)),.none⟩] rfl rfl ?_;apply sG;simp only[go_sem,seval,b4,w4,ca,cf,az,ae,aj,av,a5,aZ];exact fin _ _ i5 (s5.aE f5) ag rfl rfl rfl rfl rfl
open Go.Proofs Go.Proofs.Tryz
def aT.Ap{Z0 J:ai}{iw e sz:Nat}{v:V}{rows:List V}{o:Ob}(h:aT (bg Z0 iw) J e sz v rows):aT (bg Z0 iw) (C' J iw o) e sz v rows:=by
 rcases h with h|⟨id,h1,h2,h3⟩
 .exact .inl h
 .exact .inr ⟨id,h1,by rw[ab (aM.1 h3).1];exact h2,h3⟩
def aT.mB{Z0 J U:ai}{iw e sz:Nat}{v:V}{rows:List V}(h:aT J U e sz v rows)(hs:aa Z0 J){o:Ob}(hw:J iw=some o):aT (bg Z0 iw) U e sz v rows:=by
 rcases h with h|⟨id,h1,h2,h3⟩
 .exact .inl h
 .exact .inr ⟨id,h1,h2,aM.2 ⟨λe=>(by rw[e,hw]at h3;cases h3),hs.none h3⟩⟩
def Fi{l:List Nd}{rs:List Rm}(hD:Yj l rs){Z0 U:ai}{iw:Nat}{s:WS}{B:Int}(hJ:T0 l rs Z0 iw s U)(hB:Bd s B)(hB1:B<=576460752303423488)(a:Nat)(ha:a<l.length)(hn:s.atoms.length<=100000)(hfn:s.B'.length<=100000):
 aD prog 166 [.ptr iw 0 0,vI a] U λr Z'=>r=.Rf []/\T0 l rs Z0 iw (WS.float rs s a l[a]) Z':=by
 obtain⟨va,vf,w1,VM,Ww,hf2⟩:=hJ.row;obtain⟨ca,sa⟩:=VM.vc;obtain⟨cf,sf⟩:=Ww.vc;have TZ:dz false va=some (.int .i64 s.atoms.length):=by rw[VM.len];simp
 have RL:=gr hD.XN ha;have hsp:=hD.span ha;obtain⟨har,Yl⟩:=hD.room ha;have Q9:=jl l ha;unfold WS.float;generalize l[a]=n at*;refine Pz.r (by simp[JX]) ?_;refine ad.mix 6 ?_;apply sR;simp only[go_sem,seval,JX,w1,ca,cf,az,ae,aj,av,Q9,Nd.cells];refine af λi4 Z4 s4 a4 f4=>?_;have w4':=s4 _ _ w1;have n4:=aq w1 f4;simp only[go_sem,seval,a4,w4',ab n4,ca,cf,TZ,az,ae,aj,av];generalize SZ:C' Z4 i4 _=Y4;have b4:Y4 i4=some ⟨59,20,[.agg (Nd.cells n)]⟩:=by rw[<-SZ];exact ag
 rw[Nd.cells]at b4;have s4'':aa U Y4:=by rw[<-SZ];exact s4.aE f4
 clear SZ;have w4:=s4'' _ _ w1;refine bu λi5 Z5 s5 a5 f5=>?_;have s5':=s4''.trans s5;have V1:=hJ.mono (s5'.aE (o:=⟨150,7,[aQ ⟨a,n.side,s.atoms.length,0,0,n.w,n.h⟩]⟩) (s4''.none f5));have hen:aQ ⟨a,n.side,s.atoms.length,0,0,n.w,n.h⟩=.agg [vI a,vI n.side,vI s.atoms.length,vI 0,vI 0,vI n.w,vI n.h]:=rfl;rw[hen]at V1;simp only[go_sem,seval,a5,dj];generalize TR:C' Z5 i5 _=Y5 at*;have b5:Y5 i5=some ⟨150,7,[.agg [vI a,vI n.side,vI s.atoms.length,vI 0,vI 0,vI n.w,vI n.h]]⟩:=by rw[<-TR];exact ag
 have w5:Y5 iw=some ⟨209,7,[.agg [va,vf,vI s.Ra,vI s.Ro.y,vI s.Ro.m,aK l,cG rs]]⟩:=by rw[<-TR,ab (aq w4 f5)];exact s5 _ _ w4
 have s6:aa U Y5:=by rw[<-TR];exact s5'.aE (s4''.none f5)
 clear TR;have hf5:=Ww.mono s6;have hm:=hB.m1;have V0:=hB.m0;have ZR:=hB.y0;have hyB:=hB.yB;have hws:=RL.w;have hhs:=RL.h;have hput:=Ik vf s.B' hf5 hf2 ⟨a,n.side,s.atoms.length,0,0,n.w,n.h⟩ (s.Ro.y+s.Ro.m) (eI rs a) (by omega) (hB.Yk (by omega)) ⟨by omega,by omega⟩ (show Bq n.h from⟨by omega,by omega⟩) (show Bq n.w from⟨by omega,by omega⟩) hsp.bq;rw[hen]at hput;have hpne:tT s.B' ⟨a,n.side,s.atoms.length,0,0,n.w,n.h⟩ (s.Ro.y+s.Ro.m) (eI rs a)≠[]:=by simp[tT]
 have hs05:=hJ.sub.trans s6;have w5o:=w5;generalize tT s.B' ⟨a,n.side,s.atoms.length,0,0,n.w,n.h⟩ (s.Ro.y+s.Ro.m) (eI rs a)=fs' at*;refine ad.CX (by kernel_rfl) 8 (.leaf [[],[],[1],[2,1],[3,2,1],[4,3,2,1],[],[],[7],[8,7],[9,8,7],[10,9,8,7],[],[],[12,13,11,10,9,8,7],[5,6,11,14,4,3,2,1,10,9,8,7,12,13],[0,1,2,3,4,5,6,7,8,9,10,11,12,13,14,15],[16,0,1,2,3,4,5,6,7,8,9,10,11,12,13,14,15],[17,0,1,2,3,4,5,6,7,8,9,10,11,12,13,14,15,16],[18,15,0,1,2,3,4,5,6,7,8,9,10,11,12,13,14,17,16]] [0,1,2,3,4,5,6,7,8,9,10,12,13,11,14,15,16,17,18,19]) (by kernel_rfl) ?_;refine GT.iO (its:=[0,2,4,6,8,10,12,14,16,18,20,24,26,22,11,13,28,11,13,30,32,34,36,38]) (by kernel_rfl) ?_;refine RE.Sg (n:=0) [22,11,13,28,11,13,30,32,34,36,38] [0,2,4,6,8,10,12,14,16,18,20,24,26] [⟨(.some 27),(.Rn (.t 0)),.none⟩,⟨(.some 28),(.Rn (.t 0)),.none⟩,⟨(.some 29),(.nilCheck (.t 28)),.none⟩,⟨(.some 30),(.Rz .true 0 3 (.t 29)),.none⟩,⟨(.some 31),(.Rz .false 1 1 (.t 30)),.none⟩,⟨(.some 32),(.load .false 1 (.t 31)),.none⟩,⟨(.some 33),(.load .true 7 (.t 5)),.none⟩,⟨(.some 34),(.Rn (.t 0)),.none⟩,⟨(.some 35),(.nilCheck (.t 34)),.none⟩,⟨(.some 36),(.Rz .true 3 2 (.t 35)),.none⟩,⟨(.some 37),(.load .true 2 (.t 36)),.none⟩,⟨(.some 39),(.Rn (.t 0)),.none⟩,⟨(.some 40),(.Rn (.t 1)),.none⟩] rfl rfl ?_;apply sG;simp only[go_sem,seval,b5,w5,ca,cf,az,ae];refine RE.aB rfl rfl rfl rfl rfl (DK s.Ro ⟨by omega,by omega⟩ ⟨by omega,by omega⟩ _) ?_;refine RE.SB rfl rfl rfl rfl rfl trivial (by simp only[go_sem,seval,b5,w5,ca,cf,az,ae]) ?_;refine RE.SB rfl rfl rfl rfl rfl trivial (by simp only[go_sem,seval,b5,w5,ca,cf,az,ae]) ?_;refine RE.aB rfl rfl rfl rfl rfl (Ad V1 a har Yl) ?_;refine RE.SB rfl rfl rfl rfl rfl trivial (by simp only[go_sem,seval,b5,w5,ca,cf,az,ae]) ?_;refine RE.SB rfl rfl rfl rfl rfl trivial (by simp only[go_sem,seval,b5,w5,ca,cf,az,ae]) ?_;refine RE.call rfl rfl rfl rfl rfl hput ?_;rintro r Z7 ⟨s7,TD⟩;have w7:=s7 _ _ w5;replace b5:=s7 _ _ b5;replace w5:=s7 _ _ w5;obtain⟨cr,sr⟩:=TD.vc;refine RE.Sg (n:=0) [] [32,34,36,38] [⟨(.some 43),(.nilCheck (.t 27)),.none⟩,⟨(.some 44),(.Rz .true 0 3 (.t 43)),.none⟩,⟨(.some 45),(.Rz .false 1 1 (.t 44)),.none⟩,⟨.none,(.store 1 (.t 45) (.t 42)),.none⟩] rfl rfl ?_;apply sG;simp only[go_sem,seval,b5,w5,ca,cf,az,ae,cr,sr];apply sR;simp only[go_sem,seval];refine⟨_,_,aa.refl _,Wk.refl (aa.refl _) _,rfl,?_⟩;have hfa:=(VM.mono s6).mono s7;exact⟨(hs05.trans s7).aE hJ.no,hJ.no,va,r,ag,hfa.Ap,(TD.mB hs05 w5o).Ap,λh=>absurd h hpne⟩
open Go.Proofs Go.Proofs.Tryz
section
variable {P:Program} {n:Nat} {st:St} {Q:St->Prop} {k:List It}
def Go.wi{i:aN}{l:List aN}{fx:VX}{xs:List VX}{f:FuncId}{caps:List V}{v:V}(hw:bx st.s i.g=some true)(ho:i.op=.call fx xs)
 (hf:fx.ev st.s=.fn f caps)(hc:∀Z1,aa st.U Z1->aD P f (xs.map (·.ev st.s)++caps) Z1 λr Z'=>r=v/\Z'=Z1)(h:Go P n (.d l k) ⟨aX st.s i.dst v,st.U⟩ Q):Go P n (.d (i::l) k) st Q:=by
 refine nH hw ?_;rw[ho];exact⟨f,caps,v,hf,λZ1 h1=>hc Z1 h1,h⟩
end
def jj{fs:List P'}{ws:List Int}{space high B:Int}{s:Sd}(hB:∀f∈fs,f.y+f.h<=B)(h0:0<=high):∀(k i:Nat) (y:Int),∀x∈dP fs ws space high s k i y,y<=x.y/\x.y+high<=max y B+high*k
 |0,_,_,x,hx=>by simp[dP]at hx
 |k+1,i,y,x,hx=>by
  rw[dP]at hx;split at hx
  .have hr:=gb (w:=ws.getD i 0) (high:=high) (y:=y) (s:=s) hB;have e:(nt fs ws space high i y s).y=kD fs (ws.getD i 0) high s y:=rfl;have e2:high*((k+1:Nat):Int)=high*k+high:=by rw[Int.natCast_add,Int.mul_add];simp
   have hk:0<=high*(k:Int):=Int.mul_nonneg h0 (by omega);rcases List.mem_cons.1 hx with rfl|hx
   .rw[e,e2];omega
   .have:=jj hB h0 k _ _ x hx;rw[e]at this;rw[e2];omega
  .cases hx
def T0.nh{l:List Nd}{rs:List Rm}{Z0 U:ai}{iw i:Nat}{s:WS}{o:Ob}(hJ:T0 l rs Z0 iw s U)(hi:U i=some o)(h1:o.elem≠137)(h2:o.elem≠150)(h3:i≠iw):T0 l rs (C' Z0 i o) iw s U:=by
 obtain⟨va,vf,w1,g1,g2,g3⟩:=hJ.row;have key:∀{e sz:Nat} {v:V} {rows:List V},o.elem≠e->aT (bg Z0 iw) U e sz v rows->aT (bg (C' Z0 i o) iw) U e sz v rows:=λ{e sz v rows} he h=>by
  rcases h with h|⟨id,a1,a2,a3⟩
  .exact .inl h
  .have RK:id≠i:=λe'=>by subst e';rw[a2]at hi;injection hi with hi;subst hi;exact he rfl
   exact .inr ⟨id,a1,a2,aM.2 ⟨(aM.1 a3).1,by rw[ab RK];exact(aM.1 a3).2⟩⟩
 refine⟨λj p h=>?_,by rw[ab h3.symm];exact hJ.no,va,vf,w1,key h1 g1,key h2 g2,g3⟩;by_cases e:j=i
 .subst e;rw[ag]at h;rw[hi];exact h
 .rw[ab e]at h;exact hJ.sub _ _ h
def T0.narrow{l:List Nd}{rs:List Rm}{Z0 U:ai}{iw i:Nat}{s:WS}{o:Ob}(hJ:T0 l rs (C' Z0 i o) iw s U)(hi:Z0 i=none)(h3:i≠iw):T0 l rs Z0 iw s U:=by
 obtain⟨va,vf,w1,g1,g2,g3⟩:=hJ.row;have hs:aa Z0 (C' Z0 i o):=(aa.refl Z0).aE hi;have key:∀{e sz:Nat} {v:V} {rows:List V},aT (bg (C' Z0 i o) iw) U e sz v rows->aT (bg Z0 iw) U e sz v rows:=λ{e sz v rows} h=>by
  rcases h with h|⟨id,a1,a2,a3⟩
  .exact .inl h
  .exact .inr ⟨id,a1,a2,aM.2 ⟨(aM.1 a3).1,hs.none (aM.1 a3).2⟩⟩
 exact⟨hs.trans hJ.sub,hs.none hJ.no,va,vf,w1,key g1,key g2,g3⟩
def j4{U:ai}{e sz id:Nat}{rows:List V}{i:Nat}(h:U id=some ⟨e,sz,rows⟩)(hi:i<rows.length):bQ U sz (.own id 0 rows.length) (.int .i64 i)=some (.ptr id i 0):=by
 simp[bQ,h,hi]
def hU(a:Nat)(h:Int)(s:WS)(L:List Ln):WS:=L.foldl (λs x=>s.put (fg a h x)) s
def An{a:Nat}{h:Int}{s:WS}{L:List Ln}{j:Nat}(hj:j<L.length):hU a h s (L.take (j+1))=(hU a h s (L.take j)).put (fg a h L[j]):=by
 unfold hU;rw[List.take_succ_eq_append_getElem hj,List.foldl_append];rfl
def pq(a:Nat)(h:Int):∀(L:List Ln) (s:WS),(hU a h s L).atoms.length=s.atoms.length+L.length
 |[],s=>by simp[hU]
 |x::L,s=>by
  have:=pq a h L (s.put (fg a h x));simp only[hU,List.foldl_cons]at this|-;rw[this];simp only[WS.put,List.length_append,List.length_cons,List.length_nil];omega
def Hx{l:List Nd}{rs:List Rm}(hD:Yj l rs){Z0 U:ai}{iw:Nat}{s:WS}{B:Int}(hJ:T0 l rs Z0 iw s U)(hB:Bd s B)(hB1:B<=288230376151711744)(a:Nat)(ha:a<l.length)(hn:s.atoms.length<=100000)(hfn:s.B'.length<=100000)(hwl:l[a].words.length<=10000):
 aD prog 164 [.ptr iw 0 0,vI a] U λr Z'=>r=.Rf []/\T0 l rs Z0 iw (WS.text rs s a l[a]) Z':=by
 obtain⟨va,vf,w1,VM,Ww,hf2⟩:=hJ.row;obtain⟨ca,sa⟩:=VM.vc;obtain⟨cf,sf⟩:=Ww.vc;have RL:=gr hD.XN ha;have hsp:=hD.span ha;obtain⟨har,Yl⟩:=hD.room ha;have Q9:=jl l ha;unfold WS.text;generalize l[a]=n at*;have hwok:WOk n.words n.space:=⟨by omega,λx hx=>by have:=RL.words x hx;omega,RL.space.1,RL.space.2⟩
 have hm:=hB.m1;have V0:=hB.m0;have ZR:=hB.y0;have hyB:=hB.yB;have V2:=RL.line;refine QA.r (by simp[K1]) ?_;refine ad.mix 7 ?_;apply sR;simp only[go_sem,seval,K1,w1,ca,cf,az,ae,aj,av,Q9,Nd.cells];refine af λi4 Z4 s4 a4 f4=>?_;have w4':=s4 _ _ w1;have n4:=aq w1 f4;simp only[go_sem,seval,a4,w4',ab n4,ca,cf,az,ae,aj,av];generalize SZ:C' Z4 i4 _=Y4;have b4:Y4 i4=some ⟨59,20,[.agg (Nd.cells n)]⟩:=by rw[<-SZ];exact ag
 rw[Nd.cells]at b4;have YN:aa U Y4:=by rw[<-SZ];exact s4.aE f4
 clear SZ;have w4:=YN _ _ w1;have hlen:uz Y4 vf (aH s.B'):=(Ww.mono YN).Gx;have W1:=hJ.mono YN;refine Go.bP rfl rfl rfl (DK s.Ro ⟨by omega,by omega⟩ ⟨by omega,by omega⟩) ?_;apply sG;simp only[go_sem,seval];refine Go.wi rfl rfl rfl (λZ8 h8=>Ad (W1.mono h8) a har Yl) ?_;apply sG;simp only[go_sem,seval];have hLl:=jK s.B' n.words n.space n.line (eI rs a) n.words.length 0 (s.Ro.y+s.Ro.m);have hLb:=jj (ws:=n.words) (space:=n.space) (s:=eI rs a) (λf hf=>(hB.fl f hf).yB) V2.1 n.words.length 0 (s.Ro.y+s.Ro.m);have H':=λZ8 (h8:aa Y4 Z8)=>(Fc vf s.B' (hlen.mono h8) n.words n.space n.line (s.Ro.y+s.Ro.m) (eI rs a) (by omega) (hB.Yk (by omega)) B (λf hf=>(hB.fl f hf).yB) (by omega) (by omega) (by omega) V2.1 V2.2 hsp.bq hwok).GS λ_ _ h=>h.2.Gu (v0:=pr (dP s.B' n.words n.space n.line (eI rs a) n.words.length 0 (s.Ro.y+s.Ro.m))) h.1 rfl;generalize dP s.B' n.words n.space n.line (eI rs a) n.words.length 0 (s.Ro.y+s.Ro.m)=L at*;refine Go.wi rfl rfl rfl (λZ8 h8=>H' Z8 h8) ?_;have hnL:dz false (pr L)=some (.int .i64 L.length):=by simp[pr,dz]
 apply sG;simp only[go_sem,seval,hnL];have h0i:Z0 i4=none:=hJ.sub.none f4;have hJw:=W1.nh b4 (by simp) (by simp) n4.symm;have UK:((n.words.length:Nat):Int)<=10000:=by omega
 have hmul:n.line*(n.words.length:Int)<=1099511627776*10000:=Int.mul_le_mul V2.2 UK (by omega) (by omega);refine ad.loop (λm st=>∃j:Nat,j<=L.length/\m=L.length-j/\T0 l rs (C' Z0 i4 ⟨59,20,[.agg [vI n.kind,vI n.size,vI n.st.top,vI n.st.Ry,vI n.st.Rl,vI n.st.Rb,vI n.st.R9,vI n.st.RM,vI n.st.RV,vI n.st.head,vI n.st.before,vI n.st.after,vI n.st.inside,vI n.st.clear,vI n.line,vI n.space,bn n.words,vI n.side,vI n.w,vI n.h]]⟩) iw (hU a n.line s (L.take j)) st.U/\
  st.s 0=.ptr iw 0 0/\st.s 1=vI a/\st.s 4=.ptr i4 0 0/\st.s 33=pr L/\st.s 34=vI L.length/\st.s 35=vI j) L.length ?_ ?_
 .exact⟨0,by omega,rfl,hJw,rfl,rfl,rfl,rfl,rfl,rfl⟩
 .rintro m ⟨S,J⟩ ⟨j,hj,rfl,SV,t0,t1,t4,t33,t34,t35⟩;simp only at SV t0 t1 t4 t33 t34 t35;refine ad.mix 7 ?_;have c4:=SV.sub _ _ (ag (id:=i4));by_cases H':j<L.length
  .have q:((j:Int)<L.length)=True:=eq_true (by omega);have hix:∀U,bQ U 5 (pr L) (.int .i64 j)=some (.rp (l5 L[j])):=λU=>by simp[pr,bQ,H']
   have Sf:=An (a:=a) (h:=n.line) (s:=s) H';have Sb:=hLb L[j] (List.getElem_mem H');have TZ:=pq a n.line (L.take j) s;rw[List.length_take]at TZ;generalize L[j]=x at*;have hen:l5 x=.agg [vI x.fr,vI x.to,vI x.x,vI x.y,vI x.w]:=rfl;apply sR;simp only[go_sem,seval,t0,t1,t4,t33,t34,t35,q,hix,hen];refine af λi6 Z6 s6 a6 f6=>?_;have d4:=s6 _ _ c4;have Zd:=aq c4 f6;simp only[go_sem,seval,a6,d4,t0,t1,t4,ab Zd,aj];refine ad.call rfl rfl rfl (F7 (SV.mono (s6.aE f6)) (fg a n.line x) (show Bq x.y from⟨by omega,by omega⟩) (show Bq n.line from⟨by omega,by omega⟩) (by omega)) ?_;rintro r Z' ⟨rfl,TE⟩;have r1:Rq .i64 ((j:Int)+1):=ao (by omega) (by omega);apply sR;simp only[go_sem,seval,t0,t1,t4,t33,t34,t35,r1];exact⟨_,by omega,j+1,by omega,rfl,by rw[Sf];exact TE,by simp[t0,t1,t4,t33,t34]⟩
  .have q:((j:Int)<L.length)=False:=eq_false (by omega);rw[List.take_of_length_le (by omega)]at SV;apply sR;simp only[go_sem,seval,t0,t1,t4,t33,t34,t35,q];exact⟨_,_,aa.refl _,Wk.refl (aa.refl _) _,rfl,SV.narrow h0i n4.symm⟩
def nd0:Nd:=⟨0,0,SA.zero,0,0,[],0,0,0⟩
def RI(l:List Nd)(a:Nat):Nd:=l.getD a nd0
def iS{l:List Nd}{a:Nat}(h:a<l.length):RI l a=l[a]:=by simp[RI,h]
def eA(l:List Nd)(rs:List Rm):Nat->Nat->Nat->WS->WS
 |0,_,_,s=>s
 |k+1,a,e,s=>if a<e then eA l rs k (a+(RO l a).toNat) e
   (if(RI l a).kind=1 then(eA l rs k (a+1) (a+(RO l a).toNat) (s.enter (RI l a).st)).leave (RI l a).st
    else if(RI l a).kind=2 then s.text rs a (RI l a)else if(RI l a).kind=3 then WS.mono l rs s a (RI l a)else s.float rs a (RI l a))else s
def mQ{l:List Nd}{rs:List Rm}{e:Nat}(he:e<=l.length):∀(k j a:Nat) (s:WS),e-a<=k->e-a<=j->cu l a e=true->eA l rs k a e s=eA l rs j a e s
 |0,0,_,_,_,_,_=>rfl
 |0,j+1,a,s,h,_,_=>by rw[eA,eA,if_neg (by omega)]
 |k+1,0,a,s,_,h,_=>by rw[eA,eA,if_neg (by omega)]
 |k+1,j+1,a,s,h,h',hr=>by
  rw[eA,eA];by_cases H':a<e
  .obtain⟨h1,h2⟩:=dr he hr (Nat.le_refl a) H';obtain⟨h3,h4⟩:=ei he hr H';rw[if_pos H',if_pos H',mQ (e:=a+(RO l a).toNat) (by omega) k j _ _ (by omega) (by omega) h4,mQ he k j _ _ (by omega) (by omega) h3]
  .rw[if_neg H',if_neg H']
def SG(l:List Nd)(a e:Nat):Nat:=(((l.take e).drop a).map λn=>4+n.words.length).sum
def H0(l:List Nd)(a:Nat):SG l a a=0:=by unfold SG;rw[List.drop_of_length_le (by rw[List.length_take];omega)];rfl
def kW{l:List Nd}{a m e:Nat}(h1:a<=m)(h2:m<=e)(h3:e<=l.length):SG l a e=SG l a m+SG l m e:=by
 unfold SG;rw[<-List.sum_append_nat,<-List.map_append];congr 2;have e1:l.take m=(l.take e).take m:=by rw[List.take_take,Nat.min_eq_left h2]
 rw[e1]
 conv=>lhs;rw[<-List.take_append_drop m (l.take e)]
 rw[List.drop_append_of_le_length (by rw[List.length_take,List.length_take];omega)]
def GO{l:List Nd}{a:Nat}(h:a<l.length):SG l a (a+1)=4+l[a].words.length:=by
 unfold SG;rw[List.take_succ_eq_append_getElem h,List.drop_append_of_le_length (by rw[List.length_take];omega),List.drop_of_length_le (by rw[List.length_take];omega)];simp
def uv{l:List Nd}{a e:Nat}(h1:a<e)(h3:e<=l.length):SG l a e=4+(RI l a).words.length+SG l (a+1) e:=by
 rw[kW (Nat.le_succ a) h1 h3,GO (by omega),iS (by omega)]
structure fS(s:WS)(C:Nat):Prop where
 bd:Bd s (1099511627776*(C:Int))
 RD:s.atoms.length<=C
 fl:s.B'.length<=C
def fS.more{s:WS}{C D:Nat}(h:fS s C)(hD:C<=D):fS s D:=⟨h.bd.mono (by omega),Nat.le_trans h.RD hD,Nat.le_trans h.fl hD⟩
def kJ{l:List Nd}{rs:List Rm}{s:WS}{C:Nat}(h:fS s C){n:Nd}(hn:YL n)(a:Nat):fS (WS.mono l rs s a n) (C+1):=by
 obtain⟨⟨hf,h1,h2,h3,h4⟩,h5,h6⟩:=h;have hyr:=gb (w:=n.w) (high:=n.h) (y:=s.Ro.y+s.Ro.m) (s:=eI rs a) (λf UG=>(hf f UG).yB);have hh:=hn.h;refine⟨⟨λf UG=>(hf f UG).mono (by omega),?_,?_,?_,?_⟩,?_,?_⟩<;>simp only[WS.mono,WS.put,List.length_append,List.length_cons,List.length_nil]<;>omega
def jG{l:List Nd}{rs:List Rm}(hD:Yj l rs){s:WS}{C:Nat}(h:fS s C){a:Nat}(ha:a<l.length){n:Nd}(hn:YL n)(hk:n.kind=4):fS (s.float rs a n) (C+1):=by
 obtain⟨⟨hf,h1,h2,h3,h4⟩,h5,h6⟩:=h;have hb:=hn.box (.inr hk);have hw:=hn.w;have hh:=hn.h;refine⟨⟨λf UG=>?_,h1,h2,h3,by simp only[WS.float];omega⟩,by simp only[WS.float];omega,by simp only[WS.float,tT,List.length_append,List.length_cons,List.length_nil];omega⟩;exact(G3 (f:=⟨a,n.side,s.atoms.length,0,0,n.w,n.h⟩) hf (hD.span ha) (by omega) (by omega) (by simp only;omega) (by simp only;omega) (by simp only;omega) (by simp only;omega) f UG).mono (by omega)
def kQ{rs:List Rm}{s:WS}{C:Nat}(h:fS s C){n:Nd}(hn:YL n)(a:Nat):fS (s.text rs a n) (C+n.words.length):=by
 obtain⟨⟨hf,h1,h2,h3,h4⟩,h5,h6⟩:=h;have hl:=hn.line;unfold WS.text;have hLl:=jK s.B' n.words n.space n.line (eI rs a) n.words.length 0 (s.Ro.y+s.Ro.m);have hLb:=jj (ws:=n.words) (space:=n.space) (s:=eI rs a) (λf UG=>(hf f UG).yB) hl.1 n.words.length 0 (s.Ro.y+s.Ro.m);generalize dP s.B' n.words n.space n.line (eI rs a) n.words.length 0 (s.Ro.y+s.Ro.m)=L at*;have hmul:n.line*(n.words.length:Int)<=1099511627776*(n.words.length:Int):=Int.mul_le_mul_of_nonneg_right hl.2 (by omega);have V0:0<=n.line*(n.words.length:Int):=Int.mul_nonneg hl.1 (by omega);have key:∀(L:List Ln) (t:WS),(∀x∈L,s.Ro.y+s.Ro.m<=x.y/\x.y+n.line<=max (s.Ro.y+s.Ro.m) (1099511627776*(C:Int))+n.line*(n.words.length:Int))->t.B'=s.B'->0<=t.Ro.y->0<=t.Ro.m->t.Ro.m<=1099511627776->
  t.Ro.y+t.Ro.m<=1099511627776*((C+n.words.length:Nat):Int)->(hU a n.line t L).B'=s.B'/\0<=(hU a n.line t L).Ro.y/\0<=(hU a n.line t L).Ro.m/\(hU a n.line t L).Ro.m<=1099511627776/\(hU a n.line t L).Ro.y+(hU a n.line t L).Ro.m<=1099511627776*((C+n.words.length:Nat):Int):=by
  intro L
  induction L with
  |nil=>intro t _ g1 g2 g3 g4 g5;exact⟨g1,g2,g3,g4,g5⟩
  |cons x L ih=>
   intro t hx g1 g2 g3 g4 g5;have hx0:=hx x (by simp);exact ih (t.put (fg a n.line x)) (λy hy=>hx y (by simp[hy])) g1 (by simp only[WS.put,fg];omega) (by simp[WS.put]) (by simp[WS.put]) (by simp only[WS.put,fg];omega)
 obtain⟨k1,k2,k3,k4,k5⟩:=key L s hLb rfl h1 h2 h3 (by omega);have TZ:=pq a n.line L s;refine⟨⟨λf UG=>(hf f ?_).mono (by omega),k2,k3,k4,k5⟩,?_,?_⟩
 .have:f∈(hU a n.line s L).B':=UG;rw[k1]at this;exact this
 .show(hU a n.line s L).atoms.length<=_;omega
 .show(hU a n.line s L).B'.length<=_;rw[k1];omega
def fk{s:WS}{C:Nat}(h:fS s C){t:SA}(ht:SOk t):fS (s.enter t) (C+2):=⟨(h.bd.enter ht).mono (by omega),by have:=h.RD;simp only[WS.enter];omega,by have:=h.fl;simp only[WS.enter];omega⟩
def jr{s:WS}{C:Nat}(h:fS s C){t:SA}(ht:SOk t):fS (s.leave t) (C+2):=⟨(h.bd.leave ht).mono (by omega),by have:=h.RD;simp only[WS.leave];omega,by have:=h.fl;simp only[WS.leave];omega⟩
def gu{l:List Nd}{rs:List Rm}(hD:Yj l rs):∀(k a e:Nat) (s:WS) (C:Nat),e-a<=k->a<=e->e<=l.length->cu l a e=true->fS s C->fS (eA l rs k a e s) (C+SG l a e)
 |0,a,e,s,C,_,WN,_,_,h=>h.more (Nat.le_add_right _ _)
 |k+1,a,e,s,C,hk,WN,he,hr,h=>by
  rw[eA];by_cases H':a<e
  .rw[if_pos H'];obtain⟨h1,h2⟩:=dr he hr (Nat.le_refl a) H';obtain⟨h3,h4⟩:=ei he hr H';have RL:YL (RI l a):=by rw[iS (by omega)];exact gr hD.XN (by omega)
   have Yz:SG l a e=SG l a (a+(RO l a).toNat)+SG l (a+(RO l a).toNat) e:=kW (by omega) (by omega) he;have hc2:SG l a (a+(RO l a).toNat)=4+(RI l a).words.length+SG l (a+1) (a+(RO l a).toNat):=uv (by omega) (by omega);have step:∀t,fS t (C+SG l a (a+(RO l a).toNat))->fS (eA l rs k (a+(RO l a).toNat) e t) (C+SG l a e):=λt ht=>by
    rw[Yz,<-Nat.add_assoc];exact gu hD k _ e t _ (by omega) (by omega) he h3 ht
   refine step _ ?_;rw[hc2];split
   .have:=jr (gu hD k (a+1) (a+(RO l a).toNat) _ _ (by omega) (by omega) (by omega) h4 (fk h RL.st)) RL.st;exact this.more (by omega)
   .split
    .exact(kQ h RL a).more (by omega)
    .split
     .exact(kJ h RL a).more (by omega)
     .rename_i g1 g2 g3;have hk4:(RI l a).kind=4:=by have:=RL.kind;omega
      exact(jG hD h (by omega) RL hk4).more (by omega)
  .rw[if_neg H'];exact h.more (Nat.le_add_right _ _)
open Go.Proofs Go.Proofs.Tryz
def NB(l:List Nd)(rs:List Rm)(iw:Nat)(a e:Nat)(C:Nat):Prop:=
 ∀(s:WS) (Z0 U:ai),T0 l rs Z0 iw s U->fS s C->aD prog 107 [.ptr iw 0 0,vI a,vI e] U λr Z'=>r=.Rf []/\T0 l rs Z0 iw (eA l rs (e-a) a e s) Z'
def T0.Es{l:List Nd}{rs:List Rm}{Z0 J:ai}{iw:Nat}{s:WS}(hJ:T0 l rs Z0 iw s J){va vf:V}{y m:Int}(w:J iw=some ⟨209,7,[.agg [va,vf,vI s.Ra,vI y,vI m,aK l,cG rs]]⟩)(p:Pn):
 T0 l rs Z0 iw { s with Ro:=p } (C' J iw ⟨209,7,[.agg [va,vf,vI s.Ra,vI p.y,vI p.m,aK l,cG rs]]⟩):=by
 obtain⟨va',U4,w',g1,g2,g3⟩:=hJ.row;rw[w]at w';simp only[Oi,Ob.mk.injEq,List.cons.injEq,V.agg.injEq,true_and,and_true]at w';obtain⟨rfl,rfl,_⟩:=w';exact⟨hJ.sub.aE hJ.no,hJ.no,va,vf,ag,g1.Ap,g2.Ap,g3⟩
def ju(s:SA):V:=.agg [vI s.top,vI s.Ry,vI s.Rl,vI s.Rb,vI s.R9,vI s.RM,vI s.RV,vI s.head,vI s.before,vI s.after,vI s.inside,vI s.clear]
def EW{l:List Nd}{rs:List Rm}(hD:Yj l rs){Z0 U:ai}{iw:Nat}{s:WS}{C:Nat}(hJ:T0 l rs Z0 iw s U)(hI:fS s C)(hC:C<=50000)(a:Nat)(ha:a<l.length)(Sr:NB l rs iw (a+1) (a+(RO l a).toNat) (C+2))(hC2:C+2+SG l (a+1) (a+(RO l a).toNat)<=50000)
 (Ti:a+(RO l a).toNat<=l.length)(hrB:cu l (a+1) (a+(RO l a).toNat)=true)(Tl:1<=RO l a):
 aD prog 163 [.ptr iw 0 0,vI a] U λr Z'=>r=.Rf []/\T0 l rs Z0 iw ((eA l rs (a+(RO l a).toNat-(a+1)) (a+1) (a+(RO l a).toNat) (s.enter l[a].st)).leave l[a].st) Z':=by
 obtain⟨va,vf,w1,VM,Ww,hf2⟩:=hJ.row;obtain⟨ca,sa⟩:=VM.vc;obtain⟨cf,sf⟩:=Ww.vc;have RL:=gr hD.XN ha;have Q9:=jl l ha;have hszn:=lk ha;have hfine:=hD.ru;have q3:((a:Int)+l[a].size)=((a+(RO l a).toNat:Nat):Int):=by rw[hszn];omega
 have q2:((a:Int)+1)=((a+1:Nat):Int):=by omega
 have hB:=hI.bd;have hm:=hB.m1;have V0:=hB.m0;have ZR:=hB.y0;have hyB:=hB.yB;have UL:=hI.fl;refine Q7.r (by simp[L8]) ?_;refine ad.mix 7 ?_;apply sR;simp only[go_sem,seval,L8,w1,ca,cf,az,ae,aj,av,Q9,Nd.cells];refine af λi4 Z4 s4 a4 f4=>?_;have w4':=s4 _ _ w1;have n4:=aq w1 f4;simp only[go_sem,seval,a4,w4',ab n4,ca,cf,az,ae,aj,av];generalize SZ:C' Z4 i4 _=Y4;have b4:Y4 i4=some ⟨56,12,[ju l[a].st]⟩:=by rw[<-SZ];exact ag
 have YN:aa U Y4:=by rw[<-SZ];exact s4.aE f4
 clear SZ;have w4:=YN _ _ w1;have hlen:uz Y4 vf (aH s.B'):=(Ww.mono YN).Gx;have h0i:Z0 i4=none:=hJ.sub.none f4;have W1:=(hJ.mono YN).nh b4 (by simp) (by simp) n4.symm;refine Go.wi rfl rfl rfl (λZ8 h8=>aV.uy (args':=[aH s.B',vI l[a].st.clear]) ⟨(hlen.mono h8).at,Ue _,trivial⟩ (zl s.B' l[a].st.clear (by omega) (hB.Yk (by omega))) rfl) ?_;apply sG;simp only[go_sem,seval];obtain⟨s1,Wm⟩:∃x,x=s.enter l[a].st:=⟨_,rfl⟩
 have hI1:=fk hI RL.st;rw[<-Wm]at hI1|-;unfold WS.enter at Wm;simp only at Wm;cases Zn:(ee (lD l[a].st.clear) s.B').2
 .rw[Zn]at Wm;simp only[Bool.false_eq_true,↓reduceIte]at Wm;simp only[go_sem,seval,dj];obtain⟨p,hp⟩:∃p:Pn,p=s.Ro:=⟨_,rfl⟩
  have hs1e':s1={ s with Ro:=eD p l[a].st.top l[a].st.Rl }:=by rw[Wm,hp]
  have V1:T0 l rs (C' Z0 i4 ⟨56,12,[ju l[a].st]⟩) iw { s with Ro:=p } Y4:=by rw[hp];exact W1
  have w5:Y4 iw=some ⟨209,7,[.agg [va,vf,vI s.Ra,vI p.y,vI p.m,aK l,cG rs]]⟩:=by rw[hp];exact w4
  have b5:=b4;obtain⟨hp1,hp2,hp3,hp4⟩:0<=p.y/\0<=p.m/\p.m<=1099511627776/\p.y+p.m<=1099511627776*(C:Int):=by rw[hp];exact⟨ZR,V0,hm,hyB⟩
  clear hp;generalize Y4=Y5 at*;rw[ju]at b5;have RA:=RL.st;have k1:=RA.top;have k2:=RA.Rl;have k3:=RA.Ry;have k4:=RA.Rb;refine ad.rz (by kernel_rfl) [0,1,2,3,4,5,6,7,8,9,10,11,12] [[],[],[1],[1,2],[1,2,3],[],[5],[],[7],[1,2,3,4,5,6,7,8],[0,1,2,3,4,5,6,7,8,9],[0,1,2,3,4,5,6,7,8,9,10],[0,1,2,3,4,5,6,7,8,9,10,11]] [0,2,4,6,8,10,12,14,16,18,20,22,24] (by kernel_rfl) (by kernel_rfl) ?_;refine RE.Sg (n:=0) [18,20,22,24] [0,2,4,6,8,10,12,14,16] [⟨(.some 36),(.Rn (.t 0)),.none⟩,⟨(.some 37),(.Rn (.t 0)),.none⟩,⟨(.some 38),(.nilCheck (.t 37)),.none⟩,⟨(.some 39),(.Rz .true 3 2 (.t 38)),.none⟩,⟨(.some 40),(.load .true 2 (.t 39)),.none⟩,⟨(.some 41),(.Rz .false 0 1 (.t 4)),.none⟩,⟨(.some 42),(.load .false 1 (.t 41)),.none⟩,⟨(.some 43),(.Rz .false 2 1 (.t 4)),.none⟩,⟨(.some 44),(.load .false 1 (.t 43)),.none⟩] rfl rfl ?_;apply sG;simp only[go_sem,seval,w5,b5,ca,cf,az,ae];refine RE.aB rfl rfl rfl rfl rfl (B8 p l[a].st.top l[a].st.Rl ⟨by omega,by omega⟩ ⟨by omega,by omega⟩ ⟨by omega,by omega⟩ ⟨by omega,by omega⟩ _) ?_;refine RE.Sg (n:=0) [] [20,22,24] [⟨(.some 46),(.nilCheck (.t 36)),.none⟩,⟨(.some 47),(.Rz .true 3 2 (.t 46)),.none⟩,⟨.none,(.store 2 (.t 47) (.t 45)),.none⟩] rfl rfl ?_;apply sG;simp only[go_sem,seval,w5,gM,ca,cf,az,ae];have V3:=V1.Es w5 (eD p l[a].st.top l[a].st.Rl);rw[<-hs1e']at V3;have r1:Rq .i64 ((a:Int)+1):=ao (by omega) (by omega);have r2:Rq .i64 ((a:Int)+l[a].size):=ao (by omega) (by omega);have w6:=ag (U:=Y5) (id:=iw) (o:=⟨209,7,[.agg [va,vf,vI s.Ra,vI (eD p l[a].st.top l[a].st.Rl).y,vI (eD p l[a].st.top l[a].st.Rl).m,aK l,cG rs]]⟩);have hc:=Sr s1 _ _ V3 hI1;rw[<-q2,<-q3]at hc;generalize C' Y5 iw ⟨209,7,[.agg [va,vf,vI s.Ra,vI (eD p l[a].st.top l[a].st.Rl).y,vI (eD p l[a].st.top l[a].st.Rl).m,aK l,cG rs]]⟩=Y6 at*;apply sR;simp only[go_sem,seval,w6,Q9,Nd.cells,r1,r2,ca,cf,az,ae,aj];refine ad.call rfl rfl rfl hc ?_;rintro r Z7 ⟨rfl,ZT⟩;have hI7:=gu hD (a+(RO l a).toNat-(a+1)) (a+1) (a+(RO l a).toNat) s1 _ (Nat.le_refl _) (by omega) Ti hrB hI1;have b7:=ZT.sub _ _ (ag (id:=i4));rw[ju]at b7;generalize eA l rs (a+(RO l a).toNat-(a+1)) (a+1) (a+(RO l a).toNat) s1=s2 at*;obtain⟨va7,vf7,w7,g71,g72,_⟩:=ZT.row;obtain⟨ca7,_⟩:=g71.vc;obtain⟨cf7,_⟩:=g72.vc;have m1:=hI7.bd.m1;have m2:=hI7.bd.m0;have m3:=hI7.bd.y0;have m4:=hI7.bd.yB;apply sR;simp only[go_sem,seval,dj];refine ad.rz (by kernel_rfl) [0,1,2,3,4,5,6,7,8,9,10,11,12] [[],[],[1],[1,2],[1,2,3],[],[5],[],[7],[1,2,3,4,5,6,7,8],[0,1,2,3,4,5,6,7,8,9],[0,1,2,3,4,5,6,7,8,9,10],[0,1,2,3,4,5,6,7,8,9,10,11]] [0,2,4,6,8,10,12,14,16,18,20,22,24] (by kernel_rfl) (by kernel_rfl) ?_;refine RE.Sg (n:=0) [18,20,22,24] [0,2,4,6,8,10,12,14,16] [⟨(.some 62),(.Rn (.t 0)),.none⟩,⟨(.some 63),(.Rn (.t 0)),.none⟩,⟨(.some 64),(.nilCheck (.t 63)),.none⟩,⟨(.some 65),(.Rz .true 3 2 (.t 64)),.none⟩,⟨(.some 66),(.load .true 2 (.t 65)),.none⟩,⟨(.some 67),(.Rz .false 1 1 (.t 4)),.none⟩,⟨(.some 68),(.load .false 1 (.t 67)),.none⟩,⟨(.some 69),(.Rz .false 3 1 (.t 4)),.none⟩,⟨(.some 70),(.load .false 1 (.t 69)),.none⟩] rfl rfl ?_;apply sG;simp only[go_sem,seval,w7,b7,ca7,cf7,az,ae];refine RE.aB rfl rfl rfl rfl rfl (BX s2.Ro l[a].st.Ry l[a].st.Rb ⟨by omega,by omega⟩ ⟨by omega,by omega⟩ ⟨by omega,by omega⟩ ⟨by omega,by omega⟩ _) ?_;refine RE.Sg (n:=0) [] [20,22,24] [⟨(.some 72),(.nilCheck (.t 62)),.none⟩,⟨(.some 73),(.Rz .true 3 2 (.t 72)),.none⟩,⟨.none,(.store 2 (.t 73) (.t 71)),.none⟩] rfl rfl ?_;apply sG;simp only[go_sem,seval,w7,gM,ca7,cf7,az,ae];apply sR;simp only[go_sem,seval];exact⟨_,_,aa.refl _,Wk.refl (aa.refl _) _,rfl,(ZT.Es w7 (ld s2.Ro l[a].st.Ry l[a].st.Rb)).narrow h0i n4.symm⟩
 .rw[Zn]at Wm;simp only[↓reduceIte]at Wm;obtain⟨f,hfm,e1,_⟩:=la Zn;have e2:(lD l[a].st.clear f).1=f.y+f.h:=rfl;have V8:=hB.fl f hfm;generalize (ee (lD l[a].st.clear) s.B').1=low at*;simp only[go_sem,seval,w4,ca,cf,az,ae];refine ad.aB rfl rfl rfl (Ft s.Ro low ⟨by omega,by omega⟩ ⟨by omega,by omega⟩ _) ?_;apply sR;simp only[go_sem,seval,w4,gM,ca,cf,az,ae,dj];obtain⟨p,hp⟩:∃p:Pn,p=jg s.Ro low:=⟨_,rfl⟩
  rw[<-hp]at Wm|-;have hs1e':=Wm;have V1:=W1.Es w4 p;have w5:=ag (U:=Y4) (id:=iw) (o:=⟨209,7,[.agg [va,vf,vI s.Ra,vI p.y,vI p.m,aK l,cG rs]]⟩);have b5:C' Y4 iw ⟨209,7,[.agg [va,vf,vI s.Ra,vI p.y,vI p.m,aK l,cG rs]]⟩ i4=some ⟨56,12,[ju l[a].st]⟩:=by rw[ab n4.symm];exact b4
  obtain⟨hp1,hp2,hp3,hp4⟩:0<=p.y/\0<=p.m/\p.m<=1099511627776/\p.y+p.m<=1099511627776*(C:Int):=by
   rw[hp];have hy:=V8.yB;have ZR:=V8.y0;have hh0:=V8.h0;unfold jg;split<;>(try simp only)<;>omega
  clear hp;generalize C' Y4 iw ⟨209,7,[.agg [va,vf,vI s.Ra,vI p.y,vI p.m,aK l,cG rs]]⟩=Y5 at*;rw[ju]at b5;have RA:=RL.st;have k1:=RA.top;have k2:=RA.Rl;have k3:=RA.Ry;have k4:=RA.Rb;refine ad.rz (by kernel_rfl) [0,1,2,3,4,5,6,7,8,9,10,11,12] [[],[],[1],[1,2],[1,2,3],[],[5],[],[7],[1,2,3,4,5,6,7,8],[0,1,2,3,4,5,6,7,8,9],[0,1,2,3,4,5,6,7,8,9,10],[0,1,2,3,4,5,6,7,8,9,10,11]] [0,2,4,6,8,10,12,14,16,18,20,22,24] (by kernel_rfl) (by kernel_rfl) ?_;refine RE.Sg (n:=0) [18,20,22,24] [0,2,4,6,8,10,12,14,16] [⟨(.some 36),(.Rn (.t 0)),.none⟩,⟨(.some 37),(.Rn (.t 0)),.none⟩,⟨(.some 38),(.nilCheck (.t 37)),.none⟩,⟨(.some 39),(.Rz .true 3 2 (.t 38)),.none⟩,⟨(.some 40),(.load .true 2 (.t 39)),.none⟩,⟨(.some 41),(.Rz .false 0 1 (.t 4)),.none⟩,⟨(.some 42),(.load .false 1 (.t 41)),.none⟩,⟨(.some 43),(.Rz .false 2 1 (.t 4)),.none⟩,⟨(.some 44),(.load .false 1 (.t 43)),.none⟩] rfl rfl ?_;apply sG;simp only[go_sem,seval,w5,b5,ca,cf,az,ae];refine RE.aB rfl rfl rfl rfl rfl (B8 p l[a].st.top l[a].st.Rl ⟨by omega,by omega⟩ ⟨by omega,by omega⟩ ⟨by omega,by omega⟩ ⟨by omega,by omega⟩ _) ?_;refine RE.Sg (n:=0) [] [20,22,24] [⟨(.some 46),(.nilCheck (.t 36)),.none⟩,⟨(.some 47),(.Rz .true 3 2 (.t 46)),.none⟩,⟨.none,(.store 2 (.t 47) (.t 45)),.none⟩] rfl rfl ?_;apply sG;simp only[go_sem,seval,w5,gM,ca,cf,az,ae];have V3:=V1.Es w5 (eD p l[a].st.top l[a].st.Rl);rw[<-hs1e']at V3;have r1:Rq .i64 ((a:Int)+1):=ao (by omega) (by omega);have r2:Rq .i64 ((a:Int)+l[a].size):=ao (by omega) (by omega);have w6:=ag (U:=Y5) (id:=iw) (o:=⟨209,7,[.agg [va,vf,vI s.Ra,vI (eD p l[a].st.top l[a].st.Rl).y,vI (eD p l[a].st.top l[a].st.Rl).m,aK l,cG rs]]⟩);have hc:=Sr s1 _ _ V3 hI1;rw[<-q2,<-q3]at hc;generalize C' Y5 iw ⟨209,7,[.agg [va,vf,vI s.Ra,vI (eD p l[a].st.top l[a].st.Rl).y,vI (eD p l[a].st.top l[a].st.Rl).m,aK l,cG rs]]⟩=Y6 at*;apply sR;simp only[go_sem,seval,w6,Q9,Nd.cells,r1,r2,ca,cf,az,ae,aj];refine ad.call rfl rfl rfl hc ?_;rintro r Z7 ⟨rfl,ZT⟩;have hI7:=gu hD (a+(RO l a).toNat-(a+1)) (a+1) (a+(RO l a).toNat) s1 _ (Nat.le_refl _) (by omega) Ti hrB hI1;have b7:=ZT.sub _ _ (ag (id:=i4));rw[ju]at b7;generalize eA l rs (a+(RO l a).toNat-(a+1)) (a+1) (a+(RO l a).toNat) s1=s2 at*;obtain⟨va7,vf7,w7,g71,g72,_⟩:=ZT.row;obtain⟨ca7,_⟩:=g71.vc;obtain⟨cf7,_⟩:=g72.vc;have m1:=hI7.bd.m1;have m2:=hI7.bd.m0;have m3:=hI7.bd.y0;have m4:=hI7.bd.yB;apply sR;simp only[go_sem,seval,dj];refine ad.rz (by kernel_rfl) [0,1,2,3,4,5,6,7,8,9,10,11,12] [[],[],[1],[1,2],[1,2,3],[],[5],[],[7],[1,2,3,4,5,6,7,8],[0,1,2,3,4,5,6,7,8,9],[0,1,2,3,4,5,6,7,8,9,10],[0,1,2,3,4,5,6,7,8,9,10,11]] [0,2,4,6,8,10,12,14,16,18,20,22,24] (by kernel_rfl) (by kernel_rfl) ?_;refine RE.Sg (n:=0) [18,20,22,24] [0,2,4,6,8,10,12,14,16] [⟨(.some 62),(.Rn (.t 0)),.none⟩,⟨(.some 63),(.Rn (.t 0)),.none⟩,⟨(.some 64),(.nilCheck (.t 63)),.none⟩,⟨(.some 65),(.Rz .true 3 2 (.t 64)),.none⟩,⟨(.some 66),(.load .true 2 (.t 65)),.none⟩,⟨(.some 67),(.Rz .false 1 1 (.t 4)),.none⟩,⟨(.some 68),(.load .false 1 (.t 67)),.none⟩,⟨(.some 69),(.Rz .false 3 1 (.t 4)),.none⟩,⟨(.some 70),(.load .false 1 (.t 69)),.none⟩] rfl rfl ?_;apply sG;simp only[go_sem,seval,w7,b7,ca7,cf7,az,ae];refine RE.aB rfl rfl rfl rfl rfl (BX s2.Ro l[a].st.Ry l[a].st.Rb ⟨by omega,by omega⟩ ⟨by omega,by omega⟩ ⟨by omega,by omega⟩ ⟨by omega,by omega⟩ _) ?_;refine RE.Sg (n:=0) [] [20,22,24] [⟨(.some 72),(.nilCheck (.t 62)),.none⟩,⟨(.some 73),(.Rz .true 3 2 (.t 72)),.none⟩,⟨.none,(.store 2 (.t 73) (.t 71)),.none⟩] rfl rfl ?_;apply sG;simp only[go_sem,seval,w7,gM,ca7,cf7,az,ae];apply sR;simp only[go_sem,seval];exact⟨_,_,aa.refl _,Wk.refl (aa.refl _) _,rfl,(ZT.Es w7 (ld s2.Ro l[a].st.Ry l[a].st.Rb)).narrow h0i n4.symm⟩
open Go.Proofs Go.Proofs.Tryz
def Dv{l:List Nd}{rs:List Rm}{b e:Nat}(he:e<=l.length)(hr:cu l b e=true)(H':b<e)(s:WS):
 eA l rs (e-b) b e s=eA l rs (e-(b+(RO l b).toNat)) (b+(RO l b).toNat) e
  (if(RI l b).kind=1 then(eA l rs (b+(RO l b).toNat-(b+1)) (b+1) (b+(RO l b).toNat) (s.enter (RI l b).st)).leave (RI l b).st
   else if(RI l b).kind=2 then s.text rs b (RI l b)else if(RI l b).kind=3 then WS.mono l rs s b (RI l b)else s.float rs b (RI l b)):=by
 obtain⟨h1,h2⟩:=dr he hr (Nat.le_refl b) H';obtain⟨h3,h4⟩:=ei he hr H';rw[show e-b=(e-b-1)+1 by omega,eA,if_pos H',mQ (e:=b+(RO l b).toNat) (by omega) (e-b-1) _ _ _ (by omega) (Nat.le_refl _) h4,mQ he (e-b-1) _ _ _ (by omega) (Nat.le_refl _) h3]
def KL{l:List Nd}{rs:List Rm}(hD:Yj l rs)(hwl:∀n∈l,n.words.length<=10000){iw:Nat}:∀(m a e C:Nat),e-a<m->a<=e->e<=l.length->cu l a e=true->C+SG l a e<=50000->NB l rs iw a e C:=by
 intro m
 induction m with
 |zero=>intro a e C h;omega
 |succ m ih=>?_
 intro a e C hm WN he hrB hC s Z0 U hJ hI;have hfine:=hD.ru;refine N9.r (by simp[I8]) ?_;refine ad.mix 7 ?_;obtain⟨va0,vf0,w0,_,_,_⟩:=hJ.row;have Wb:∀f:FuncId,(V.bm f [.ptr iw 0 0]).cells=[.bm f [.ptr iw 0 0]]:=λ_=>rfl;have Sb:∀f:FuncId,(V.bm f [.ptr iw 0 0]).stays=true:=λ_=>rfl;have Xb:V.Rv.cells=[.Rv]:=rfl;apply sR;simp only[go_sem,seval,I8,Wb,Sb,Xb];refine af λi6 Z6 s6 a6 f6=>?_;have n6:=aq w0 f6;simp only[go_sem,seval,a6,Wb,Sb,Xb];generalize Vy:C' Z6 i6 _=Y6;have b6:Y6 i6=some ⟨260,5,[.agg [.Rv,.bm 163 [.ptr iw 0 0],.bm 164 [.ptr iw 0 0],.bm 165 [.ptr iw 0 0],.bm 166 [.ptr iw 0 0]]]⟩:=by rw[<-Vy];exact ag
 have s6':aa U Y6:=by rw[<-Vy];exact s6.aE f6
 clear Vy;have h0i:Z0 i6=none:=hJ.sub.none f6;have V3:=(hJ.mono s6').nh b6 (by simp) (by simp) n6.symm;refine ad.loop (λq st=>∃(b:Nat) (s':WS),q=e-b/\a<=b/\b<=e/\cu l b e=true/\eA l rs (e-a) a e s=eA l rs (e-b) b e s'/\fS s' (C+SG l a b)/\
  T0 l rs (C' Z0 i6 ⟨260,5,[.agg [.Rv,.bm 163 [.ptr iw 0 0],.bm 164 [.ptr iw 0 0],.bm 165 [.ptr iw 0 0],.bm 166 [.ptr iw 0 0]]]⟩) iw s' st.U/\
  st.s 0=.ptr iw 0 0/\st.s 1=vI b/\st.s 2=vI e/\st.s 6=.ptr i6 0 0) (e-a) ?_ ?_
 .exact⟨a,s,rfl,Nat.le_refl _,WN,hrB,rfl,by rw[H0];exact hI,V3,rfl,rfl,rfl,rfl⟩
 .rintro q ⟨S,J⟩ ⟨b,s',rfl,We,ZQ,hbB,heq,ZU,hJb,t0,t1,t2,t6⟩;simp only at hJb t0 t1 t2 t6;refine ad.mix 7 ?_;by_cases H':b<e
  .have q1:((b:Int)<(e:Int))=True:=eq_true (by omega);obtain⟨h1,h2⟩:=dr he hbB (Nat.le_refl b) H';obtain⟨h3,h4⟩:=ei he hbB H';have Sh:b<l.length:=by omega
   have RL:=gr hD.XN Sh;have Ti:=lk Sh;have Q9:=jl l Sh;have Yz:SG l a e=SG l a b+SG l b e:=kW We ZQ he;have hc2:SG l b e=SG l b (b+(RO l b).toNat)+SG l (b+(RO l b).toNat) e:=kW (by omega) (by omega) he;have TM:SG l b (b+(RO l b).toNat)=4+(RI l b).words.length+SG l (b+1) (b+(RO l b).toNat):=uv (by omega) (by omega);have hc4:SG l a (b+(RO l b).toNat)=SG l a b+SG l b (b+(RO l b).toNat):=kW We (by omega) (by omega);have SR:=iS Sh;have q3:((b:Int)+l[b].size)=((b+(RO l b).toNat:Nat):Int):=by rw[Ti];omega
   have r2:Rq .i64 ((b:Int)+l[b].size):=ao (by omega) (by omega);have RA:=Dv (rs:=rs) he hbB H' s';rw[SR]at RA TM;have c6:=hJb.sub _ _ (ag (id:=i6));obtain⟨va,vf,w1,g1,g2,_⟩:=hJb.row;obtain⟨ca,_⟩:=g1.vc;obtain⟨cf,_⟩:=g2.vc;have hBb:=ZU.bd.mono (C:=288230376151711744) (by omega);have Se:∀s2,s2=(if l[b].kind=1 then(eA l rs (b+(RO l b).toNat-(b+1)) (b+1) (b+(RO l b).toNat) (s'.enter l[b].st)).leave l[b].st
    else if l[b].kind=2 then s'.text rs b l[b]else if l[b].kind=3 then WS.mono l rs s' b l[b]else s'.float rs b l[b])->fS s2 (C+SG l a (b+(RO l b).toNat)):=by
     rintro s2 rfl;rw[hc4,TM];split
     .exact(jr (gu hD _ (b+1) (b+(RO l b).toNat) _ _ (Nat.le_refl _) (by omega) (by omega) h4 (fk ZU RL.st)) RL.st).more (by omega)
     .split
      .exact(kQ ZU RL b).more (by omega)
      .split
       .exact(kJ ZU RL b).more (by omega)
       .rename_i g1 g2 g3;exact(jG hD ZU Sh RL (by have:=RL.kind;omega)).more (by omega)
   rcases RL.kind with hk|hk|hk|hk
   .apply sR;simp only[go_sem,seval,q1,t0,t1,t2,t6,w1,c6,Q9,Nd.cells,hk,ca,cf,Wb,Sb,Xb,az,ae,aj];refine ad.kS rfl rfl rfl (EW hD hJb ZU (by omega) b Sh (ih (b+1) (b+(RO l b).toNat) _ (by omega) (by omega) (by omega) h4 (by omega)) (by omega) (by omega) h4 h2) ?_;rintro r Z' ⟨rfl,TE⟩;have w2':=TE.row;obtain⟨va2,vf2,w2,g12,g22,_⟩:=w2';obtain⟨ca2,_⟩:=g12.vc;obtain⟨cf2,_⟩:=g22.vc;apply sR;simp only[go_sem,seval,t0,t1,t2,t6,w2,Q9,Nd.cells,r2,ca2,cf2,az,ae,aj];refine⟨_,?_,b+(RO l b).toNat,_,rfl,by omega,by omega,h3,by rw[heq,RA],Se _ rfl,?_,by simp[t0,t2,t6,q3]⟩
    .omega
    .simpa[hk]using TE
   .apply sR;simp only[go_sem,seval,q1,t0,t1,t2,t6,w1,c6,Q9,Nd.cells,hk,ca,cf,Wb,Sb,Xb,az,ae,aj];refine ad.kS rfl rfl rfl (Hx hD hJb hBb (by omega) b Sh (by have:=ZU.RD;omega) (by have:=ZU.fl;omega) (hwl _ (List.getElem_mem Sh))) ?_;rintro r Z' ⟨rfl,TE⟩;have w2':=TE.row;obtain⟨va2,vf2,w2,g12,g22,_⟩:=w2';obtain⟨ca2,_⟩:=g12.vc;obtain⟨cf2,_⟩:=g22.vc;apply sR;simp only[go_sem,seval,t0,t1,t2,t6,w2,Q9,Nd.cells,r2,ca2,cf2,az,ae,aj];refine⟨_,?_,b+(RO l b).toNat,_,rfl,by omega,by omega,h3,by rw[heq,RA],Se _ rfl,?_,by simp[t0,t2,t6,q3]⟩
    .omega
    .simpa[hk]using TE
   .apply sR;simp only[go_sem,seval,q1,t0,t1,t2,t6,w1,c6,Q9,Nd.cells,hk,ca,cf,Wb,Sb,Xb,az,ae,aj];refine ad.kS rfl rfl rfl (GG hD hJb hBb (by omega) b Sh hk (by have:=ZU.RD;omega) (by have:=ZU.fl;omega)) ?_;rintro r Z' ⟨rfl,TE⟩;have w2':=TE.row;obtain⟨va2,vf2,w2,g12,g22,_⟩:=w2';obtain⟨ca2,_⟩:=g12.vc;obtain⟨cf2,_⟩:=g22.vc;apply sR;simp only[go_sem,seval,t0,t1,t2,t6,w2,Q9,Nd.cells,r2,ca2,cf2,az,ae,aj];refine⟨_,?_,b+(RO l b).toNat,_,rfl,by omega,by omega,h3,by rw[heq,RA],Se _ rfl,?_,by simp[t0,t2,t6,q3]⟩
    .omega
    .simpa[hk]using TE
   .apply sR;simp only[go_sem,seval,q1,t0,t1,t2,t6,w1,c6,Q9,Nd.cells,hk,ca,cf,Wb,Sb,Xb,az,ae,aj];refine ad.kS rfl rfl rfl (Fi hD hJb hBb (by omega) b Sh (by have:=ZU.RD;omega) (by have:=ZU.fl;omega)) ?_;rintro r Z' ⟨rfl,TE⟩;have w2':=TE.row;obtain⟨va2,vf2,w2,g12,g22,_⟩:=w2';obtain⟨ca2,_⟩:=g12.vc;obtain⟨cf2,_⟩:=g22.vc;apply sR;simp only[go_sem,seval,t0,t1,t2,t6,w2,Q9,Nd.cells,r2,ca2,cf2,az,ae,aj];refine⟨_,?_,b+(RO l b).toNat,_,rfl,by omega,by omega,h3,by rw[heq,RA],Se _ rfl,?_,by simp[t0,t2,t6,q3]⟩
    .omega
    .simpa[hk]using TE
  .have q1:((b:Int)<(e:Int))=False:=eq_false (by omega);apply sR;simp only[go_sem,seval,q1,t0,t1,t2,t6];refine⟨_,_,aa.refl _,Wk.refl (aa.refl _) _,rfl,?_⟩;have hz:eA l rs (e-b) b e s'=s':=by rw[show e-b=0 by omega];rfl
   rw[heq,hz];exact hJb.narrow h0i n6.symm
open Go.Proofs Go.Proofs.Tryz
def sT(n:Nat)(f:P'):P':={ f with anchor:=max 0 (min f.anchor ((n:Int)-1)) }
def yu(s:WS):Int:=if(ee (lD 3) s.B').2 then max (s.Ro.y+s.Ro.m) (ee (lD 3) s.B').1 else s.Ro.y+s.Ro.m
def WS.fin(s:WS):WS:={ s with Ra:=yu s,B':=s.B'.map (sT s.atoms.length) }
def gW(n j:Nat)(l:List P'):List P':=(l.take j).map (sT n)++l.drop j
def mS(n j:Nat)(l:List P'):(gW n j l).length=l.length:=by unfold gW;simp;omega
def vG{n j:Nat}{l:List P'}(h:j<l.length):(gW n j l)[j]?=some l[j]:=by
 unfold gW;rw[List.getElem?_append_right (by simp;omega)];simp[h,Nat.min_eq_left (Nat.le_of_lt h)]
def vZ{n j:Nat}{l:List P'}(h:j<l.length):(gW n j l).set j (sT n l[j])=gW n (j+1) l:=by
 unfold gW;have e1:((l.take j).map (sT n)).length=j:=by simp;omega
 have e2:l.drop j=l[j]::l.drop (j+1):=List.drop_eq_getElem_cons h;rw[List.set_append_right _ _ (by omega),e1,Nat.sub_self,e2,List.set_cons_zero,List.take_succ_eq_append_getElem h,List.map_append];simp
def T0.IK{l:List Nd}{rs:List Rm}{Z0 J:ai}{iw:Nat}{s:WS}(hJ:T0 l rs Z0 iw s J){va vf:V}{h0:Int}(w:J iw=some ⟨209,7,[.agg [va,vf,vI h0,vI s.Ro.y,vI s.Ro.m,aK l,cG rs]]⟩)(h:Int):
 T0 l rs Z0 iw { s with Ra:=h } (C' J iw ⟨209,7,[.agg [va,vf,vI h,vI s.Ro.y,vI s.Ro.m,aK l,cG rs]]⟩):=by
 obtain⟨va',U4,w',g1,g2,g3⟩:=hJ.row;rw[w]at w';simp only[Oi,Ob.mk.injEq,List.cons.injEq,V.agg.injEq,true_and,and_true]at w';obtain⟨rfl,rfl,_⟩:=w';exact⟨hJ.sub.aE hJ.no,hJ.no,va,vf,ag,g1.Ap,g2.Ap,g3⟩
def KO{l:List Nd}{rs:List Rm}{Z0 U:ai}{iw:Nat}{s:WS}{C:Nat}(hJ:T0 l rs Z0 iw s U)(hI:fS s C)(hC:C<=100000):
 aD prog 108 [.ptr iw 0 0] U λr Z'=>r=.Rf []/\T0 l rs Z0 iw s.fin Z':=by
 obtain⟨va,vf,w1,VM,Ww,hf2⟩:=hJ.row;obtain⟨ca,sa⟩:=VM.vc;obtain⟨cf,sf⟩:=Ww.vc;have hB:=hI.bd;have hm:=hB.m1;have V0:=hB.m0;have ZR:=hB.y0;have hyB:=hB.yB;have UL:=hI.fl;have TZ:=hI.RD;have Un:dz false va=some (.int .i64 s.atoms.length):=by rw[VM.len];simp
 have W2:dz false vf=some (.int .i64 s.B'.length):=by rw[Ww.len];simp
 refine Pc.r (by simp[Kg]) ?_;refine ad.mix 5 ?_;apply sR;simp only[go_sem,seval,Kg,w1,ca,cf,az,ae];refine ad.aB rfl rfl rfl (DK s.Ro ⟨by omega,by omega⟩ ⟨by omega,by omega⟩ _) ?_;apply sR;simp only[go_sem,seval,w1,ca,cf,az,ae];have hJ2:=hJ.IK w1 (s.Ro.y+s.Ro.m);have w2:=ag (U:=U) (id:=iw) (o:=⟨209,7,[.agg [va,vf,vI (s.Ro.y+s.Ro.m),vI s.Ro.y,vI s.Ro.m,aK l,cG rs]]⟩);have hf3:=Ww.Ap (o:=⟨209,7,[.agg [va,vf,vI (s.Ro.y+s.Ro.m),vI s.Ro.y,vI s.Ro.m,aK l,cG rs]]⟩);generalize C' U iw ⟨209,7,[.agg [va,vf,vI (s.Ro.y+s.Ro.m),vI s.Ro.y,vI s.Ro.m,aK l,cG rs]]⟩=Y2 at*;refine ad.aB rfl rfl rfl (aV.uy (args':=[aH s.B',vI 3]) ⟨hf3.Gx.at,Ue _,trivial⟩ (zl s.B' 3 (by omega) (hB.Yk (by omega))) rfl) ?_;cases Zn:(ee (lD 3) s.B').2
 .have hh:yu s=s.Ro.y+s.Ro.m:=by unfold yu;rw[Zn];rfl
  apply sR;simp only[go_sem,seval,w2,ca,cf,W2,az,ae];have hJ3:T0 l rs Z0 iw { s with Ra:=yu s } Y2:=by rw[hh];exact hJ2
  refine ad.loop (λm st=>∃j:Nat,j<=s.B'.length/\m=s.B'.length-j/\T0 l rs Z0 iw { s with Ra:=yu s,B':=gW s.atoms.length j s.B' } st.U/\st.s 0=.ptr iw 0 0/\st.s 40=vI s.B'.length/\st.s 41=vI j) s.B'.length ?_ ?_
  .exact⟨0,by omega,rfl,by simpa[gW]using hJ3,rfl,rfl,rfl⟩
  .rintro m ⟨S,J⟩ ⟨j,hj,rfl,SV,t0,t40,t41⟩;simp only at SV t0 t40 t41;refine ad.mix 5 ?_;by_cases H':j<s.B'.length
   .have q:((j:Int)<s.B'.length)=True:=eq_true (by omega);obtain⟨va4,vf4,w4,g1,g2,g3⟩:=SV.row;simp only at w4 g1 g2 g3;obtain⟨ca4,_⟩:=g1.vc;have hla4:dz false va4=some (.int .i64 s.atoms.length):=by rw[g1.len];simp
    have Xy:=mS s.atoms.length j s.B';rcases g2 with⟨_,h0⟩|⟨id,rfl,h2,h3⟩
    .exfalso;have:=congrArg List.length h0;rw[List.length_map,Xy]at this;simp only[List.length_nil]at this;omega
    have T':=vG (n:=s.atoms.length) H';have Xi:=vZ (n:=s.atoms.length) H';have Xz:((gW s.atoms.length j s.B').map aQ)[j]?=some (aQ s.B'[j]):=by rw[List.getElem?_map,T'];rfl
    have WG:((gW s.atoms.length j s.B').map aQ).length=s.B'.length:=by rw[List.length_map,Xy]
    have M':∀n,n=s.B'.length->bQ J 7 (.own id 0 n) (.int .i64 j)=some (.ptr id j 0):=λn hn=>by subst hn;rw[<-WG];exact j4 h2 (by rw[WG];exact H')
    generalize hfj:s.B'[j]=f at*;have hen:aQ f=.agg [vI f.node,vI f.side,vI f.anchor,vI f.x,vI f.y,vI f.w,vI f.h]:=rfl;rw[hen]at Xz;have r1:Rq .i64 ((s.atoms.length:Int)-1):=ao (by omega) (by omega);have r2:Rq .i64 ((j:Int)+1):=ao (by omega) (by omega);have cf4:(V.own id 0 s.B'.length).cells=[.own id 0 s.B'.length]:=rfl;rw[WG]at w4;apply sR;simp only[go_sem,seval,t0,t40,t41,q,w4,ca4,cf4,hla4,h2,M' _ rfl,Xz,r1,r2,dh,e8,az,ae];have RK:iw≠id:=(aM.1 h3).1.symm;have XA:=mS s.atoms.length (j+1) s.B';refine⟨_,by omega,j+1,by omega,rfl,⟨SV.sub.aE (aM.1 h3).2,SV.no,va4,.own id 0 s.B'.length,by rw[ab RK];exact w4,?_,.inr ⟨id,by rw[List.length_map,XA],?_,h3⟩,λh=>?_⟩,rfl⟩
    .rcases g1 with h|⟨i1,k1,k2,k3⟩
     .exact .inl h
     .have hne1:i1≠id:=λe=>by rw[e,h2]at k2;simp at k2
      exact .inr ⟨i1,k1,by rw[ab hne1];exact k2,k3⟩
    .rw[ag,<-Xi,List.map_set];rfl
    .have:=congrArg List.length h;rw[XA]at this;simp only[List.length_nil]at this;omega
   .have q:((j:Int)<s.B'.length)=False:=eq_false (by omega);apply sR;simp only[go_sem,seval,t0,t40,t41,q];refine⟨_,_,aa.refl _,Wk.refl (aa.refl _) _,rfl,?_⟩;have he:gW s.atoms.length j s.B'=s.B'.map (sT s.atoms.length):=by
     unfold gW;rw[List.take_of_length_le (by omega),List.drop_of_length_le (by omega),List.append_nil]
    rw[he]at SV;exact SV
 .have hh:yu s=max (s.Ro.y+s.Ro.m) (ee (lD 3) s.B').1:=by unfold yu;rw[Zn];rfl
  generalize (ee (lD 3) s.B').1=low at*;apply sR;simp only[go_sem,seval,w2,ca,cf,W2,dh,az,ae];have hJ3:=hJ2.IK w2 (max (s.Ro.y+s.Ro.m) low);simp only at hJ3;rw[<-hh]at hJ3|-;refine ad.loop (λm st=>∃j:Nat,j<=s.B'.length/\m=s.B'.length-j/\T0 l rs Z0 iw { s with Ra:=yu s,B':=gW s.atoms.length j s.B' } st.U/\st.s 0=.ptr iw 0 0/\st.s 40=vI s.B'.length/\st.s 41=vI j) s.B'.length ?_ ?_
  .exact⟨0,by omega,rfl,by simpa[gW]using hJ3,rfl,rfl,rfl⟩
  .rintro m ⟨S,J⟩ ⟨j,hj,rfl,SV,t0,t40,t41⟩;simp only at SV t0 t40 t41;refine ad.mix 5 ?_;by_cases H':j<s.B'.length
   .have q:((j:Int)<s.B'.length)=True:=eq_true (by omega);obtain⟨va4,vf4,w4,g1,g2,g3⟩:=SV.row;simp only at w4 g1 g2 g3;obtain⟨ca4,_⟩:=g1.vc;have hla4:dz false va4=some (.int .i64 s.atoms.length):=by rw[g1.len];simp
    have Xy:=mS s.atoms.length j s.B';rcases g2 with⟨_,h0⟩|⟨id,rfl,h2,h3⟩
    .exfalso;have:=congrArg List.length h0;rw[List.length_map,Xy]at this;simp only[List.length_nil]at this;omega
    have T':=vG (n:=s.atoms.length) H';have Xi:=vZ (n:=s.atoms.length) H';have Xz:((gW s.atoms.length j s.B').map aQ)[j]?=some (aQ s.B'[j]):=by rw[List.getElem?_map,T'];rfl
    have WG:((gW s.atoms.length j s.B').map aQ).length=s.B'.length:=by rw[List.length_map,Xy]
    have M':∀n,n=s.B'.length->bQ J 7 (.own id 0 n) (.int .i64 j)=some (.ptr id j 0):=λn hn=>by subst hn;rw[<-WG];exact j4 h2 (by rw[WG];exact H')
    generalize hfj:s.B'[j]=f at*;have hen:aQ f=.agg [vI f.node,vI f.side,vI f.anchor,vI f.x,vI f.y,vI f.w,vI f.h]:=rfl;rw[hen]at Xz;have r1:Rq .i64 ((s.atoms.length:Int)-1):=ao (by omega) (by omega);have r2:Rq .i64 ((j:Int)+1):=ao (by omega) (by omega);have cf4:(V.own id 0 s.B'.length).cells=[.own id 0 s.B'.length]:=rfl;rw[WG]at w4;apply sR;simp only[go_sem,seval,t0,t40,t41,q,w4,ca4,cf4,hla4,h2,M' _ rfl,Xz,r1,r2,dh,e8,az,ae];have RK:iw≠id:=(aM.1 h3).1.symm;have XA:=mS s.atoms.length (j+1) s.B';refine⟨_,by omega,j+1,by omega,rfl,⟨SV.sub.aE (aM.1 h3).2,SV.no,va4,.own id 0 s.B'.length,by rw[ab RK];exact w4,?_,.inr ⟨id,by rw[List.length_map,XA],?_,h3⟩,λh=>?_⟩,rfl⟩
    .rcases g1 with h|⟨i1,k1,k2,k3⟩
     .exact .inl h
     .have hne1:i1≠id:=λe=>by rw[e,h2]at k2;simp at k2
      exact .inr ⟨i1,k1,by rw[ab hne1];exact k2,k3⟩
    .rw[ag,<-Xi,List.map_set];rfl
    .have:=congrArg List.length h;rw[XA]at this;simp only[List.length_nil]at this;omega
   .have q:((j:Int)<s.B'.length)=False:=eq_false (by omega);apply sR;simp only[go_sem,seval,t0,t40,t41,q];refine⟨_,_,aa.refl _,Wk.refl (aa.refl _) _,rfl,?_⟩;have he:gW s.atoms.length j s.B'=s.B'.map (sT s.atoms.length):=by
     unfold gW;rw[List.take_of_length_le (by omega),List.drop_of_length_le (by omega),List.append_nil]
    rw[he]at SV;exact SV
open Go.Proofs Go.Proofs.Tryz
structure Gal where
 atoms:List RY
 B':List P'
 Ra:Int
def FY(g:Gal):V:=.agg [bl g.atoms,aH g.B',vI g.Ra]
def kR(l:List Nd)(w:Int):List Rm:=de l l.length 0 l.length ⟨0,w⟩
def MK(l:List Nd)(w:Int):WS:=(eA l (kR l w) l.length 0 l.length ⟨[],[],0,⟨0,0⟩⟩).fin
def di(l:List Nd)(w:Int):Gal:=⟨(MK l w).atoms,(MK l w).B',(MK l w).Ra⟩
def pz{l:List Nd}(hb:R3 l=true):∀(k a e:Nat) (r:Rm),e<=l.length->cu l a e=true->r.ok->∀q∈de l k a e r,q.ok
 |0,_,_,_,_,_,_,q,hq=>by simp[de]at hq
 |k+1,a,e,r,he,hr,Rg,q,hq=>by
  rw[de]at hq;split at hq
  .rename_i H';obtain⟨h1,h2⟩:=dr he hr (Nat.le_refl a) H';obtain⟨h3,h4⟩:=ei he hr H';rcases List.mem_cons.1 hq with rfl|hq
   .exact Rg
   .rcases List.mem_append.1 hq with hq|hq
    .obtain⟨g1,g2,_⟩:=F3 hb (a:=a) (by omega);exact pz hb k _ _ _ (by omega) h4 (vS Rg (by rw[g1];exact g2)) q hq
    .exact pz hb k _ _ _ he h3 Rg q hq
  .cases hq
def sU{l:List Nd}(hb:R3 l=true)(hn:l.length<=2000){w:Int}(h1:1<=w)(h2:w<=1099511627776):Yj l (kR l w):=by
 have hr:cu l 0 l.length=true:=by simp only[R3,Ba]at hb;exact hb.2
 exact⟨hn,hb,by unfold kR;rw[lj (Nat.le_refl _) _ _ _ (by omega) (by omega) hr];omega,pz hb _ _ _ _ (Nat.le_refl _) hr ⟨by simp,by simp,h1,h2⟩⟩
def Mx(l:List Nd)(hl:dH l)(hb:R3 l=true)(hn:l.length<=2000)(hwl:∀n∈l,n.words.length<=10000)(hc:SG l 0 l.length<=50000)(hck:aV prog 45 [aK l] (vI 0))(w:Int)(h1:1<=w)(h2:w<=1099511627776):
 aV prog 51 [aK l,vI w] (.Rf [FY (di l w),vI 0]):=λU=>by
 refine e51.r (by simp[c51]) ?_;have hs:=aa.refl U;have hD:=sU hb hn h1 h2;have hr:cu l 0 l.length=true:=by simp only[R3,Ba]at hb;exact hb.2
 refine ad.mix 8 ?_;apply sR;simp only[go_sem,seval,c51];refine af λi4 Z4 s4 a4 f4=>?_;have z4:=hs.none f4;replace hs:=hs.trans s4;have RZ:=pC w;rw[show decide (1<=w/\w<=1099511627776)=true by simp;omega]at RZ;simp only[go_sem,seval];refine ad.aB rfl rfl rfl (RZ _) ?_;have qz:((0:Int)≠0)=False:=eq_false (λh=>h rfl);apply sR;simp only[go_sem,seval];refine ad.aB rfl rfl rfl (hck _) ?_;apply sR;simp only[go_sem,seval,qz];refine ad.aB rfl rfl rfl (G5 l hl hb w h1 h2 _) ?_;have hrm:de l l.length 0 l.length ⟨0,w⟩=kR l w:=rfl;rw[hrm];apply sR;simp only[go_sem,seval,ae,ax,az,xg];refine af λi23 Z23 s23 a23 f23=>?_;have hJ:T0 l (kR l w) Z4 i23 ⟨[],[],0,⟨0,0⟩⟩ Z23:=⟨s23,f23,.aC,.aC,a23,aT.start,aT.start,λ_=>rfl⟩
 have hI:fS ⟨[],[],0,⟨0,0⟩⟩ 0:=⟨⟨by simp,by simp,by simp,by simp,by simp⟩,by simp,by simp⟩
 have hn0:=fj l;simp only[go_sem,seval,hn0];have Sr:=KL hD hwl (l.length+1) 0 l.length 0 (by omega) (by omega) (Nat.le_refl _) hr (by omega) _ _ _ hJ hI;refine ad.call rfl rfl rfl Sr ?_;rintro r Z5 ⟨rfl,V1⟩;have hI5:=gu hD (l.length-0) 0 l.length ⟨[],[],0,⟨0,0⟩⟩ 0 (by omega) (by omega) (Nat.le_refl _) hr hI;apply sR;simp only[go_sem,seval];refine ad.call rfl rfl rfl (KO V1 hI5 (by omega)) ?_;rintro r Z6 ⟨rfl,V3⟩;have hgl:di l w=⟨(eA l (kR l w) (l.length-0) 0 l.length ⟨[],[],0,⟨0,0⟩⟩).fin.atoms,(eA l (kR l w) (l.length-0) 0 l.length ⟨[],[],0,⟨0,0⟩⟩).fin.B',(eA l (kR l w) (l.length-0) 0 l.length ⟨[],[],0,⟨0,0⟩⟩).fin.Ra⟩:=rfl;rw[hgl];generalize (eA l (kR l w) (l.length-0) 0 l.length ⟨[],[],0,⟨0,0⟩⟩).fin=s at*;obtain⟨va,vf,w6,g1,g2,_⟩:=V3.row;obtain⟨ca,sa⟩:=g1.vc;obtain⟨cf,sf⟩:=g2.vc;have b4:=V3.sub _ _ a4;have n423:=aq a4 f23;apply sR;simp only[go_sem,seval,w6,b4,ca,sa,cf,sf,az,ae,ab n423];have hK:aa U (bg Z4 i23):=λi o h=>by
  rw[bg,if_neg (λe=>by rw[e,hs.none f23]at h;cases h)];exact hs _ _ h
 have key:∀{e sz:Nat} {v:V} {rows:List V} {o:Ob},aT (bg Z4 i23) Z6 e sz v rows->aT (bg Z4 i23) (C' Z6 i4 o) e sz v rows:=λ{e sz v rows o} h=>by
  rcases h with h|⟨id,k1,k2,k3⟩
  .exact .inl h
  .exact .inr ⟨id,k1,by rw[ab (λe=>by rw[e]at k3;rw[(aM.1 k3).2]at a4;cases a4)];exact k2,k3⟩
 have Se:∀o,aa U (C' Z6 i4 o):=λo=>(hs.trans V3.sub).aE z4;refine⟨_,U,Se _,Wk.Rf (vs':=[FY ⟨s.atoms,s.B',s.Ra⟩,vI 0]) ⟨Wk.agg (vs':=[bl s.atoms,aH s.B',vI s.Ra]) ⟨(key g1).wk hK (Se _),(key g2).wk hK (Se _),Wk.refl (Se _) _,trivial⟩,Wk.refl (Se _) _,trivial⟩,rfl,rfl⟩
open Go.Proofs Go.Proofs.Tryz
def tG(node:Int):List Int->Nat
 |[]=>0
 |x::r=>if x=node then tG node r+1 else 0
def Ip(node:Int):∀l,tG node l<=l.length
 |[]=>by simp[tG]
 |x::r=>by
  rw[tG];split
  .have:=Ip node r;simp only[List.length_cons];omega
  .simp
def lu(of:List Int)(fr:Nat)(node:Int):Nat:=tG node (of.drop fr)
def v8(of:List Int)(fr:Nat)(node:Int):lu of fr node<=of.length-fr:=by
 have:=Ip node (of.drop fr);rw[List.length_drop]at this;exact this
def okN(x:Nd)(n:Nat):Bool:=if x.kind=2 then decide (1<=n/\n<=x.words.length)else if x.kind=3 then decide (n=1)else decide (n=0)
def zt(of:List Int):List Nd->Nat->Nat->Bool
 |[],_,RD=>decide (RD=of.length)
 |x::r,i,RD=>okN x (lu of RD i)&&zt of r (i+1) (RD+lu of RD i)
def ph(l:List Nd)(of:List Int):Bool:=zt of l 0 0
def nk(l:List Nd)(of:List Int):V:=.agg [aK l,bn of]
def lQ(l:List Nd)(of:List Int):(nk l of).cells=[aK l,bn of]:=rfl
def mz(l:List Nd)(of:List Int):(nk l of).stays=true:=rfl
def G4(l:List Nd)(of:List Int)(hn:of.length<=1000000)(fr:Nat)(hf:fr<=of.length)(node:Int):aV prog 227 [nk l of,vI fr,vI node] (vI (lu of fr node)):=λU=>by
 refine Oj.r (by simp[Jl]) ?_;have hs:=aa.refl U;have hl:=fG of;have htl:=v8 of fr node;refine ad.mix 8 ?_;apply sR;simp only[go_sem,seval,Jl,lQ,mz,ae,aj,av,ax];refine af λi3 Z3 s3 a3 f3=>?_;have z3:=hs.none f3;replace hs:=hs.trans s3;have a3':Z3 i3=some ⟨266,2,[.agg [aK l,bn of]]⟩:=a3;simp only[go_sem,seval];refine ad.loop (λm st=>∃j:Nat,fr+j<=of.length/\m=of.length-(fr+j)/\lu of fr node=j+tG node (of.drop (fr+j))/\st.U=Z3/\st.s 1=vI fr/\st.s 2=vI node/\st.s 3=.ptr i3 0 0/\st.s 7=vI j) (of.length-fr) ?_ ?_
 .exact⟨0,by omega,by omega,by simp[lu],rfl,rfl,rfl,rfl,rfl⟩
 .rintro m ⟨S,J⟩ ⟨j,hj,rfl,ht,RH,t1,t2,t3,t7⟩;simp only at RH t1 t2 t3 t7;subst RH;refine ad.mix 8 ?_;have hjj:(fr:Int)+(j:Int)=((fr+j:Nat):Int):=by omega
  have r1:Rq .i64 ((fr:Int)+j):=ao (by omega) (by omega);have r2:Rq .i64 ((j:Int)+1):=ao (by omega) (by omega);by_cases H':fr+j<of.length
  .have q:(((fr+j:Nat):Int)<of.length)=True:=eq_true (by omega);have Q9:=λU=>gO (U:=U) H';rw[List.drop_eq_getElem_cons H',tG]at ht;generalize of[fr+j]=x at*;rw[hjj]at r1;by_cases hx:x=node
   .rw[if_pos hx]at ht;have q2:(x=node)=True:=eq_true hx;apply sR;simp only[go_sem,seval,t1,t2,t3,t7,a3',hl,hjj,q,q2,Q9,r1,r2,ae,aj];exact⟨_,by omega,j+1,by omega,rfl,by rw[ht,show fr+(j+1)=fr+j+1 by omega];omega,by simp[t1,t2,t3]⟩
   .rw[if_neg hx]at ht;have q2:(x=node)=False:=eq_false hx;apply sR;simp only[go_sem,seval,t1,t2,t3,t7,a3',hl,hjj,q,q2,Q9,r1,r2,ae,aj];exact ay.pure hs (by rw[ht];simp)
  .have q:(((fr+j:Nat):Int)<of.length)=False:=eq_false (by omega);rw[List.drop_of_length_le (by omega),tG]at ht;rw[hjj]at r1;apply sR;simp only[go_sem,seval,t1,t2,t3,t7,a3',hl,hjj,q,r1,r2,ae,aj];exact ay.pure hs (by rw[ht];simp)
def Na(l:List Nd)(XO:l.length<=100000)(of:List Int)(hn:of.length<=1000000)(hm:ph l of=true):aV prog 169 [nk l of] (.bool true):=λU=>by
 refine QG.r (by simp[Lb]) ?_;have hs:=aa.refl U;have hl:=fG of;have UR:=fj l;refine ad.mix 7 ?_;apply sR;simp only[go_sem,seval,Lb,lQ,mz,ae,aj,av,ax];refine af λi1 Z1 s1 a1 f1=>?_;have z1:=hs.none f1;replace hs:=hs.trans s1;have a1':Z1 i1=some ⟨266,2,[.agg [aK l,bn of]]⟩:=a1;simp only[go_sem,seval,a1',UR,ae,aj];refine ad.loop (λm st=>∃(i RD:Nat),i<=l.length/\m=l.length-i/\RD<=of.length/\zt of (l.drop i) i RD=true/\aa Z1 st.U/\st.s 1=.ptr i1 0 0/\st.s 3=vI RD/\st.s 8=aK l/\st.s 9=vI l.length/\st.s 10=vI i) l.length ?_ ?_
 .exact⟨0,0,by omega,rfl,by omega,by simpa[ph]using hm,aa.refl _,rfl,rfl,rfl,rfl,rfl⟩
 .rintro m ⟨S,J⟩ ⟨i,RD,hi,rfl,SE,hmk,G',t1,t3,t8,t9,t10⟩;simp only at G' t1 t3 t8 t9 t10;refine ad.mix 7 ?_;have b1:=G' _ _ a1';by_cases H':i<l.length
  .have q:((i:Int)<l.length)=True:=eq_true (by omega);have Q9:=jl l H';rw[List.drop_eq_getElem_cons H',zt,Ba]at hmk;obtain⟨Rg,hmk⟩:=hmk;have htl:=v8 of RD i;have htc:=G4 l of hn RD SE i;generalize lu of RD i=n at*;generalize l[i]=x at*;apply sR;simp only[go_sem,seval,t1,t3,t8,t9,t10,q,Q9,Nd.cells];refine af λi5 Z5 s5 a5 f5=>?_;have c1:=s5 _ _ b1;have YO:=aq b1 f5;simp only[go_sem,seval,a5,c1,t1,t3,t8,t9,t10,ab YO,ae,aj,av];refine ad.aB rfl rfl rfl (htc _) ?_;have hwl:dz false (bn x.words)=some (.int .i64 x.words.length):=fG _;have r1:Rq .i64 ((i:Int)+1):=ao (by omega) (by omega);have r2:Rq .i64 ((RD:Int)+n):=ao (by omega) (by omega);have q5:((RD:Int)+n)=((RD+n:Nat):Int):=by omega
   rw[q5]at r2;unfold okN at Rg;by_cases k2:x.kind=2
   .rw[if_pos k2]at Rg;simp only[decide_eq_true_eq]at Rg;have p1:((n:Int)<1)=False:=eq_false (by omega);have p2:((n:Int)>x.words.length)=False:=eq_false (by omega);have p0:(x.kind=2)=True:=eq_true k2;apply sR;simp only[go_sem,seval,t1,t3,t8,t9,t10,c1,ab YO,p0,p1,p2,hwl,r1,r2,q5,aj,av];exact⟨_,by omega,i+1,RD+n,by omega,rfl,by omega,hmk,G'.trans (s5.aE f5),by simp[t1,t8,t9]⟩
   .rw[if_neg k2]at Rg;have p0:(x.kind=2)=False:=eq_false k2;by_cases k3:x.kind=3
    .rw[if_pos k3]at Rg;simp only[decide_eq_true_eq]at Rg;have p3:(x.kind=3)=True:=eq_true k3;have p1:((n:Int)≠1)=False:=eq_false (by omega);apply sR;simp only[go_sem,seval,t1,t3,t8,t9,t10,c1,ab YO,p0,p3,p1,r1,r2,q5,aj,av];exact⟨_,by omega,i+1,RD+n,by omega,rfl,by omega,hmk,G'.trans (s5.aE f5),by simp[t1,t8,t9]⟩
    .rw[if_neg k3]at Rg;simp only[decide_eq_true_eq]at Rg;have p3:(x.kind=3)=False:=eq_false k3;have p1:((n:Int)>0)=False:=eq_false (by omega);apply sR;simp only[go_sem,seval,t1,t3,t8,t9,t10,c1,ab YO,p0,p3,p1,r1,r2,q5,aj,av];exact⟨_,by omega,i+1,RD+n,by omega,rfl,by omega,hmk,G'.trans (s5.aE f5),by simp[t1,t8,t9]⟩
  .have q:((i:Int)<l.length)=False:=eq_false (by omega);rw[List.drop_of_length_le (by omega),zt,decide_eq_true_eq]at hmk;have q2:((RD:Int)=of.length)=True:=eq_true (by omega);apply sR;simp only[go_sem,seval,t1,t3,t8,t9,t10,q,b1,hl,q2,ae,aj];exact ay.pure (hs.trans G') rfl
def nX(l:List Nd)(hf:dH l)(hb:R3 l=true)(of:List Int)(hn:of.length<=1000000)(hm:ph l of=true):aV prog 109 [aK l,bn of] (vI 0):=λU=>by
 refine QB.r (by simp[Mq]) ?_;have hv:=Cl l hf;rw[hb]at hv;have hl1:=hf.1;refine ad.mix 5 ?_;apply sR;simp only[go_sem,seval,Mq];refine ad.aB rfl rfl rfl (hv _) ?_;apply sR;simp only[go_sem,seval,ae,aj,av,ax];refine ad.aB rfl rfl rfl (Na l (by omega) of hn hm _) ?_;apply sR;simp only[go_sem,seval];exact ay.same rfl
open Go.Proofs Go.Proofs.Tryz
def wU(l:List Nd)(a b:Int):Bool:=decide (a<=b/\b<a+RO l a.toNat)
def FD(l:List Nd)(hb:R3 l=true)(hn:l.length<=100000)(a:Nat)(ha:a<l.length)(b:Int)(h0:0<=b)(h1:b<=1000000):aV prog 311 [aK l,vI a,vI b] (.bool (wU l a b)):=λU=>by
 refine Oe.r (by simp[GZ]) ?_;have Q9:=jl l ha;have Ti:=lk ha;have hsb:=pH hb ha;refine ad.mix 7 ?_;unfold wU;rw[Int.toNat_natCast,Ti];rw[Ti]at hsb;by_cases h:(a:Int)<=b
 .have q:((a:Int)<=b)=True:=eq_true h;have r1:Rq .i64 ((a:Int)+l[a].size):=ao (by omega) (by omega);apply sR;simp only[go_sem,seval,GZ,q,Q9,Nd.cells,r1];exact ay.same (by simp[h])
 .have q:((a:Int)<=b)=False:=eq_false h;apply sR;simp only[go_sem,seval,GZ,q];exact ay.same (by simp[h])
def W3(l:List Nd)(of:List Int)(b k:Int):Bool:=if 0<=k/\k<of.length then wU l b (of.getD k.toNat 0)else false
def AU(l:List Nd)(hb:R3 l=true)(hn:l.length<=100000)(of:List Int)(TK:of.length<=1000000)(Sx:∀x∈of,0<=x/\x<l.length)(b:Nat)(Sh:b<l.length)(k:Int){U:ai}{i4 i9:Nat}(h4:U i4=some ⟨57,1,[bn of]⟩)(h9:U i9=some ⟨266,2,[nk l of]⟩):
 aD prog 310 [vI b,vI k,.ptr i4 0 0,.ptr i9 0 0] U λr Z'=>r=.bool (W3 l of b k)/\Z'=U:=by
 refine OE.r (by simp[FK]) ?_;have hl:=fG of;rw[nk]at h9;refine ad.mix 7 ?_;unfold W3;by_cases UY:0<=k
 .have q0:(k>=0)=True:=eq_true UY;obtain⟨j,rfl⟩:∃j:Nat,k=j:=⟨k.toNat,by omega⟩
  by_cases TH:(j:Int)<of.length
  .have q1:((j:Int)<of.length)=True:=eq_true TH;have VJ:j<of.length:=by omega
   have Q9:=λU=>gO (U:=U) VJ;have hx:=Sx _ (List.getElem_mem VJ);have V9:of.getD j 0=of[j]:=by simp[VJ]
   rw[if_pos ⟨UY,TH⟩,Int.toNat_natCast,V9];apply sR;simp only[go_sem,seval,FK,q0,q1,h4,h9,hl,Q9,ae,aj];refine Go.bP rfl rfl rfl (FD l hb hn b Sh of[j] hx.1 (by omega)) ?_;apply sG;simp only[go_sem,seval];exact ay.same rfl
  .have q1:((j:Int)<of.length)=False:=eq_false TH;rw[if_neg (λh=>TH h.2)];apply sR;simp only[go_sem,seval,FK,q0,q1,h4,h9,hl,ae,aj];exact ay.same rfl
 .have q0:(k>=0)=False:=eq_false UY;rw[if_neg (λh=>UY h.1)];apply sR;simp only[go_sem,seval,FK,q0];exact ay.same rfl
structure Bl(l:List Nd)(of:List Int)(k:Int)(i4 i5 i9 RP:Nat)(U:ai):Prop where
 r4:U i4=some ⟨57,1,[bn of]⟩
 r5:U i5=some ⟨3,1,[vI k]⟩
 r9:U i9=some ⟨266,2,[nk l of]⟩
 WX:U RP=some ⟨278,1,[.fn 310 [.ptr i4 0 0,.ptr i9 0 0]]⟩
def Bl.mono{l:List Nd}{of:List Int}{k:Int}{i4 i5 i9 RP:Nat}{U J:ai}(h:Bl l of k i4 i5 i9 RP U)(hs:aa U J):Bl l of k i4 i5 i9 RP J:=⟨hs _ _ h.r4,hs _ _ h.r5,hs _ _ h.r9,hs _ _ h.WX⟩
def Kq(l:List Nd)(hb:R3 l=true)(hn:l.length<=100000)(of:List Int)(TK:of.length<=1000000)(Sx:∀x∈of,0<=x/\x<l.length)(b:Nat)(Sh:b<l.length)(k:Int){U:ai}{i4 i5 i9 RP:Nat}(h:Bl l of k i4 i5 i9 RP U):
 aD prog 313 [vI b,.ptr RP 0 0,.ptr i5 0 0] U λr Z'=>r=.bool (!W3 l of b k)/\Z'=U:=by
 refine OR.r (by simp[Jd]) ?_;have r5:=h.r5;have WX:=h.WX;refine ad.mix 5 ?_;apply sR;simp only[go_sem,seval,Jd,r5,WX];refine ad.aB rfl rfl rfl (AU l hb hn of TK Sx b Sh k h.r4 h.r9) ?_;apply sR;simp only[go_sem,seval];exact ay.same rfl
def K0(l:List Nd)(hb:R3 l=true)(hn:l.length<=100000)(of:List Int)(TK:of.length<=1000000)(Sx:∀x∈of,0<=x/\x<l.length)(b:Nat)(Sh:b<l.length)(k:Int)(UY:0<=k)(TH:k<=1000000){U:ai}{i4 i5 i9 RP:Nat}(h:Bl l of k i4 i5 i9 RP U):
 aD prog 314 [vI b,.ptr RP 0 0,.ptr i5 0 0] U λr Z'=>r=.bool (!W3 l of b (k-1))/\Z'=U:=by
 refine QV.r (by simp[K3]) ?_;have r5:=h.r5;have WX:=h.WX;have r1:Rq .i64 (k-1):=ao (by omega) (by omega);refine ad.mix 5 ?_;apply sR;simp only[go_sem,seval,K3,r5,WX,r1];refine ad.aB rfl rfl rfl (AU l hb hn of TK Sx b Sh (k-1) h.r4 h.r9) ?_;apply sR;simp only[go_sem,seval];exact ay.same rfl
def Lm(l:List Nd)(hb:R3 l=true)(hn:l.length<=100000)(of:List Int)(TK:of.length<=1000000)(Sx:∀x∈of,0<=x/\x<l.length)(b:Nat)(Sh:b<l.length)(k:Int)(UY:0<=k)(TH:k<=1000000){U:ai}{i4 i5 i9 RP:Nat}(h:Bl l of k i4 i5 i9 RP U):
 aD prog 316 [vI b,.ptr RP 0 0,.ptr i5 0 0] U λr Z'=>r=.bool (W3 l of b (k-1))/\Z'=U:=by
 refine OO.r (by simp[LH]) ?_;have r5:=h.r5;have WX:=h.WX;have r1:Rq .i64 (k-1):=ao (by omega) (by omega);refine ad.mix 5 ?_;apply sR;simp only[go_sem,seval,LH,r5,WX,r1];refine ad.aB rfl rfl rfl (AU l hb hn of TK Sx b Sh (k-1) h.r4 h.r9) ?_;apply sR;simp only[go_sem,seval];exact ay.same rfl
def xF(l:List Nd)(hl:dH l)(hb:R3 l=true)(hn:l.length<=100000)(a:Nat)(ha:a<l.length):Iter prog 337 [.rp (aK l),.rp (vI a)] ((U' l a).map λn=>[vI n]):=by
 refine⟨Ns.c,λRF τ Jx Z0 hy hJ=>?_⟩;refine(Ns.r (by simp[Ls]) ?_).2;have We:=yT l hl hb hn a ha;have TZ:=iQ l (l.length+1) (eQ l a);have e0:(U' l a).length<=l.length+1:=TZ;have hlen:=fG (U' l a);generalize U' l a=L at*;have ldA:∀U,bS U false 1 (.rp (aK l))=some (aK l):=λU=>rfl;have ldB:∀U (n:Int),bS U false 1 (.rp (vI n))=some (vI n):=λU n=>rfl;refine ad.mix 6 ?_;apply sR;simp only[go_sem,seval,Ls,ldA,ldB];refine ad.aB rfl rfl rfl (We _) ?_;apply sR;simp only[go_sem,seval,hlen];refine ad.loop (λm st=>∃(j:Nat) (ZJ:ai),j<=L.length/\m=L.length-j/\τ ((L.take j).map λn=>[vI n]) ZJ/\aa ZJ st.U/\st.s 0=.yl RF/\st.s 8=bn L/\st.s 9=vI L.length/\st.s 10=vI j) L.length ?_ ?_
 .exact⟨0,Z0,by omega,rfl,by simpa using hJ,aa.refl _,rfl,rfl,rfl,rfl⟩
 .rintro m ⟨S,J⟩ ⟨j,ZJ,hj,rfl,SV,G',t0,t8,t9,t10⟩;simp only at G' t0 t8 t9 t10;refine ad.mix 6 ?_;by_cases H':j<L.length
  .have q:((j:Int)<L.length)=True:=eq_true (by omega);have Q9:=λU=>gO (U:=U) H';have Sf:L.take (j+1)=L.take j++[L[j]]:=List.take_succ_eq_append_getElem H';have e:(L.map λn=>[vI n])=((L.take j).map λn=>[vI n])++[vI L[j]]::((L.drop (j+1)).map λn=>[vI n]):=by
    have e0':L=L.take j++L[j]::L.drop (j+1):=by rw[<-List.drop_eq_getElem_cons H',List.take_append_drop]
    have:=congrArg (List.map λn=>[vI n]) e0'
    rwa [List.map_append,List.map_cons]at this
   generalize L[j]=x at*;have r1:Rq .i64 ((j:Int)+1):=ao (by omega) (by omega);apply sR;simp only[go_sem,seval,t0,t8,t9,t10,q,Q9];refine ad.mA (Post:=λb Z2=>∃RC,bh ZJ J RC Z2/\((b=true/\τ (((L.take j).map λn=>[vI n])++[[vI x]]) RC)\/(b=false/\Jx (((L.take j).map λn=>[vI n])++[[vI x]]) RC))) rfl rfl rfl (hy _ [vI x] _ ZJ J e SV G') ?_;rintro b Z2 ⟨RC,Sl,R6⟩;rcases R6 with⟨rfl,R6⟩|⟨rfl,R6⟩
   .apply sR;simp only[go_sem,seval,t0,t8,t9,t10,r1];refine⟨_,?_,j+1,RC,by omega,rfl,by rw[Sf];simpa using R6,Sl.1,by simp[t0,t8,t9]⟩;omega
   .apply sR;simp only[go_sem,seval,t0];refine⟨_,RC,Sl.1,Wk.refl Sl.1 _,.inr ⟨_,?_,R6⟩⟩;rw[e];exact⟨(L.drop (j+1)).map λn=>[vI n],by simp⟩
  .have q:((j:Int)<L.length)=False:=eq_false (by omega);rw[List.take_of_length_le (by omega)]at SV;apply sR;simp only[go_sem,seval,t0,t8,t9,t10,q];exact⟨_,ZJ,G',Wk.refl G' _,.inl SV⟩
def F9(l:List Nd)(a:Int):aV prog 333 [aK l,vI a] (.fn 337 [.rp (aK l),.rp (vI a)]):=λU=>by
 refine PZ.r (by simp[MF]) ?_;refine ad.mix 4 ?_;have q1:=ae l;have q2:=ax l;generalize aK l=x at*;apply sR;simp only[go_sem,seval,MF,q1,q2];refine af λUJ Z1 s1 a1 f1=>?_;simp only[go_sem,seval];refine af λWg Z2 s2 a2 f2=>?_;simp only[go_sem,seval];exact⟨_,U,s1.trans s2,Wk.fn (vs':=[.rp x,.rp (vI a)]) ⟨Wk.ptr (s1.trans s2) (s2 _ _ a1) f1,Wk.ptr (s1.trans s2) a2 (s1.none f2),trivial⟩,rfl,rfl⟩
open Go.Proofs Go.Proofs.Tryz
def VN(l:List Nd)(of:List Int)(k:Int)(p:Int->Bool):List Int:=if 0<=k/\k<of.length then(U' l (of.getD k.toNat 0).toNat).filter p else[]
def oe{l:List Nd}{a:Nat}(ha:a<l.length):∀x∈U' l a,∃n:Nat,x=n/\n<a:=λx hx=>by
 have:=ET l _ _ x hx;have h2:=fW l a;exact⟨x.toNat,by omega,by omega⟩
def qe{p:Int->Bool}{L:List Int}{j:Nat}{x:Int}(h:L[j]?=some x):(L.take (j+1)).filter p=(L.take j).filter p++if p x then[x]else[]:=by
 rw[List.take_add_one,h,List.filter_append];cases hp:p x<;>simp[hp]
def td(l:List Nd)(hl:dH l)(hb:R3 l=true)(hn:l.length<=100000)(of:List Int)(TK:of.length<=1000000)(Sx:∀x∈of,0<=x/\x<l.length)(k:Int)(g:FuncId)(caps:List V)(p:Int->Bool){U:ai}
 (hg:∀b:Nat,b<l.length->∀J,aa U J->aD prog g (vI b::caps) J λr Z'=>r=.bool (p b)/\Z'=J):
 aD prog 312 [nk l of,vI k,.fn g caps] U λr Z'=>aa U Z'/\aT U Z' 3 1 r ((VN l of k p).map vI)/\(VN l of k p=[]->r=.aC):=by
 refine O7.r (by simp[MA]) ?_;have hs:=aa.refl U;have UK:=fG of;refine ad.mix 9 ?_;apply sR;simp only[go_sem,seval,MA,lQ,mz,ae,aj,av,ax];refine af λi3 Z3 s3 a3 f3=>?_;have z3:=hs.none f3;replace hs:=hs.trans s3;simp only[go_sem,seval];refine af λi5 Z5 s5 a5 f5=>?_;have Yc:=aq a3 f5;replace a3:=s5 _ _ a3;have z5:=hs.none f5;replace hs:=hs.trans s5;have a3':Z5 i3=some ⟨266,2,[.agg [aK l,bn of]]⟩:=a3;by_cases UY:k<0
 .have q0:(k<0)=True:=eq_true UY;have hc:VN l of k p=[]:=by unfold VN;rw[if_neg (by omega)]
  simp only[go_sem,seval,q0];rw[hc];exact⟨_,_,aa.refl _,Wk.refl (aa.refl _) _,hs,aT.start,λ_=>rfl⟩
 have q0:(k<0)=False:=eq_false UY;obtain⟨j,rfl⟩:∃j:Nat,k=j:=⟨k.toNat,by omega⟩
 by_cases TH:(j:Int)>=of.length
 .have q1:((j:Int)>=of.length)=True:=eq_true TH;have hc:VN l of j p=[]:=by unfold VN;rw[if_neg (by omega)]
  simp only[go_sem,seval,q0,a3',UK,q1,ae,aj];rw[hc];exact⟨_,_,aa.refl _,Wk.refl (aa.refl _) _,hs,aT.start,λ_=>rfl⟩
 have q1:((j:Int)>=of.length)=False:=eq_false TH;have VJ:j<of.length:=by omega
 have Q9:=λU=>gO (U:=U) VJ;obtain⟨hx0,hx1⟩:=Sx _ (List.getElem_mem VJ);have V9:of.getD j 0=of[j]:=by simp[VJ]
 have hc:VN l of j p=(U' l of[j].toNat).filter p:=by unfold VN;rw[if_pos ⟨by omega,by omega⟩,Int.toNat_natCast,V9]
 rw[hc];simp only[go_sem,seval,q0,a3',UK,q1,ae,aj];refine af λi7 Z7 s7 a7 f7=>?_;have b3:=s7 _ _ a3';have b5:=s7 _ _ a5;simp only[go_sem,seval,b3,Q9,ae,aj];obtain⟨x,hx⟩:∃x:Nat,of[j]=x:=⟨of[j].toNat,by omega⟩
 rw[hx]at hx1|-;refine ad.aB rfl rfl rfl (F9 l x _) ?_;have Wq:=xF l hl hb hn x (by omega);have Wr:=oe (l:=l) (a:=x) (by omega);have hlL:(U' l x).length<=l.length+1:=iQ _ _ _;rw[Int.toNat_natCast];generalize U' l x=L at*;apply sR;simp only[go_sem,seval];generalize hS:mix 9 _ _=S;have S5:S 5=.ptr i5 0 0:=by rw[<-hS];rfl
 have S7:S 7=.ptr i7 0 0:=by rw[<-hS];rfl
 have S25:S 25=.fn 337 [.rp (aK l),.rp (vI x)]:=by rw[<-hS];rfl
 clear hS;refine ad.cX (g:=.t 25) (caps:=[.rp (aK l),.rp (vI x)]) S25 Wq (λy hy=>?_) [] (λpre ZJ=>∃v,ZJ i7=some ⟨57,1,[v]⟩/\aa Z5 ZJ/\aT (bg Z5 i7) ZJ 3 1 v (((L.take pre.length).filter p).map vI)/\((L.take pre.length).filter p=[]->v=.aC))
  (λ_ _ _=>False) ?_ ?_ ?_ ?_ ?_
 .obtain⟨t,_,rfl⟩:=List.mem_map.1 hy;rfl
 .exact⟨.aC,a7,s7,by simpa using aT.start,λ_=>rfl⟩
 .rintro pre y post ZJ ZB TJ ⟨v,J7,Js,Jo,Jn⟩ G';obtain⟨t,Zk,rfl⟩:=oK (f:=vI) TJ;obtain⟨tn,rfl,htn⟩:=Wr t (List.mem_of_getElem? Zk);have Sf:=qe (p:=p) Zk;have hlen:(pre++[[vI (tn:Int)]]).length=pre.length+1:=by simp
  rw[hlen,Sf];have Tv:(((L.take pre.length).filter p).map vI).length<=1000001:=by
   rw[List.length_map];have:=List.length_filter_le p (L.take pre.length);rw[List.length_take]at this;omega
  have UT:v.cells=[v]:=by rcases Jo with⟨rfl,_⟩|⟨_,rfl,_⟩<;>rfl
  generalize RS:(((L.take pre.length).filter p).map vI)=rows at*;have c7:=G' _ _ J7;have c5:=G' _ _ (Js _ _ a5);generalize Tg:lR S [26] [vI (tn:Int)]=S0;have T5:S0 5=.ptr i5 0 0:=by rw[<-Tg];exact S5
  have T7:S0 7=.ptr i7 0 0:=by rw[<-Tg];exact S7
  have T26:S0 26=vI (tn:Int):=by rw[<-Tg];rfl
  clear Tg;refine ad.mix 9 ?_;apply sR;simp only[go_sem,seval,T5,T7,T26];apply sR;simp only[go_sem,seval,T5,T7,T26,c5];refine ad.aB rfl rfl rfl (hg tn (by omega) _ ((hs.trans Js).trans G')) ?_;cases hp:p (tn:Int)
  .apply sR;simp only[go_sem,seval];refine⟨_,bh.refl G',v,J7,Js,?_,by simpa using Jn⟩;simpa[RS]using Jo
  .apply sR;simp only[go_sem,seval,T5,T7,T26,c7,UT];rw[aO];intro UU f28;have U3:=(bh.refl G').pk (o:=⟨3,1,[vI (tn:Int)]⟩) f28;have y2:C' ZB UU ⟨3,1,[vI (tn:Int)]⟩ i7=some ⟨57,1,[v]⟩:=by rw[ab (aq c7 f28)];exact c7
   have a28:C' ZB UU ⟨3,1,[vI (tn:Int)]⟩ UU=some ⟨3,1,[vI (tn:Int)]⟩:=ag;generalize C' ZB UU ⟨3,1,[vI (tn:Int)]⟩=Z8 at*;obtain⟨Rr,SM,Vj⟩:=Jo.Dj U3.1;have Sb:(rows.length+1)*9<=140737488355328:=by omega
   have k2:bg Z5 i7 i7≠none:=λh=>(aM.1 h).1 rfl;have UF:∀(i:Nat) (Zx:ai),bg Z5 i7 i≠none->Vc.bK Zx Rr i=Zx i:=λi Zx hk=>by
    cases Rr with
    |none=>rfl
    |some a=>exact dO (λe=>hk (by rw[e];exact(Vj a rfl).1))
   simp only[go_sem,seval,SM,dW a28,Sb,T7];rw[aO];intro Th f29;have f29:Z8 Th=none:=f29;have YK:i7≠Th:=aq y2 f29;have f29':Vc.bK Z8 Rr Th=none:=by
    cases Rr with
    |none=>exact f29
    |some a=>simp only[Vc.bK,del];split<;>first|rfl|exact f29
   have y2':C' (Vc.bK Z8 Rr) Th ⟨3,1,rows++[vI (tn:Int)]⟩ i7=some ⟨57,1,[v]⟩:=by rw[ab YK,UF _ _ k2];exact y2
   have hB9:=((U3.C1 (e:=Rr) λi h=>(Vj i h).2).new (o:=⟨3,1,rows++[vI (tn:Int)]⟩) f29').set (id:=i7) (o:=⟨57,1,[v]⟩) (o':=⟨57,1,[.own Th 0 (rows.length+1)]⟩) (by rw[ab YK,UF _ _ k2];exact J7);simp only[go_sem,seval,UT,y2',T7];refine⟨_,hB9,.own Th 0 (rows.length+1),ag,?_,?_,λh=>by simp at h⟩
   .refine aa.aE (λi o h=>?_) f7;have h1:=Js _ _ h;rw[ab (aq (U3.1 _ _ h1) f29),UF _ _ (λhk=>by rw[(aM.1 hk).2]at h;cases h)];exact h1
   .rw[List.map_append,RS];refine aT.new (by simp) (by rw[ab YK.symm,ag];rfl) ?_;rw[aM];refine⟨YK.symm,?_⟩;cases h:Z5 Th with
    |none=>rfl
    |some o=>rw[U3.1 _ _ (Js _ _ h)]at f29;cases f29
 .rintro Z' ⟨v,J7,Js,Jo,Jn⟩;rw[List.length_map,List.take_length]at Jo Jn;have UT:v.cells=[v]:=by rcases Jo with⟨rfl,_⟩|⟨_,rfl,_⟩<;>rfl
  refine ad.mix 9 ?_;apply sR;simp only[go_sem,seval,S7,J7,UT];refine⟨_,_,aa.refl _,Wk.refl (aa.refl _) _,hs.trans Js,?_,Jn⟩;rcases Jo with h|⟨id,h1,h2,h3⟩
  .exact .inl h
  .exact .inr ⟨id,h1,h2,hs.none (aM.1 h3).2⟩
 .intro id h;cases h
 .rintro pre Z' _ ⟨⟩
open Go.Proofs Go.Proofs.Tryz
def swp(L:List Int)(i j:Nat):List Int:=(L.set i (L.getD j 0)).set j (L.getD i 0)
def jQ(L:List Int):Nat->List Int
 |0=>L
 |t+1=>swp (jQ L t) t (L.length-1-t)
def kH(L:List Int):∀t,(jQ L t).length=L.length
 |0=>rfl
 |t+1=>by simp[jQ,swp,kH L t]
def zc(L:List Int):∀(t:Nat),2*t<=L.length->∀i,i<L.length->(jQ L t)[i]?=if i<t\/L.length-t<=i then L[L.length-1-i]? else L[i]?
 |0,_,i,hi=>by rw[jQ,if_neg (by omega)]
 |t+1,ht,i,hi=>by
  have ih:=λi hi=>zc L t (by omega) i hi;have hl:=kH L t;have e1:(jQ L t).getD t 0=L.getD t 0:=by
   rw[List.getD_eq_getElem?_getD,List.getD_eq_getElem?_getD,ih t (by omega),if_neg (by omega)]
  have e2:(jQ L t).getD (L.length-1-t) 0=L.getD (L.length-1-t) 0:=by
   rw[List.getD_eq_getElem?_getD,List.getD_eq_getElem?_getD,ih _ (by omega),if_neg (by omega)]
  rw[jQ,swp,e1,e2,List.getElem?_set,List.getElem?_set,List.length_set,hl];have g:∀k,k<L.length->some (L.getD k 0)=L[k]?:=λk hk=>by simp[hk]
  by_cases h1:L.length-1-t=i
  .rw[if_pos h1,if_pos (by omega),if_pos (by omega),g t (by omega)];congr 1;omega
  .rw[if_neg h1];by_cases h2:t=i
   .rw[if_pos h2,if_pos (by omega),if_pos (by omega),g _ (by omega)];congr 1;omega
   .rw[if_neg h2,ih i hi];by_cases h3:i<t\/L.length-t<=i
    .rw[if_pos h3,if_pos (by omega)]
    .rw[if_neg h3,if_neg (by omega)]
def Ei(L:List Int){t:Nat}(h1:2*t<=L.length)(h2:L.length<=2*t+1):jQ L t=L.reverse:=by
 apply List.ext_getElem?;intro i;by_cases hi:i<L.length
 .rw[zc L t h1 i hi,List.getElem?_reverse hi];split
  .rfl
  .congr 1;omega
 .rw[List.getElem?_eq_none (by rw[kH];omega),List.getElem?_eq_none (by simp;omega)]
def DH(L:List Int)(hL:L.length<=1000000){K U:ai}{v:V}(hv:aT K U 3 1 v (L.map vI))(RK:L=[]->v=.aC):
 aD prog 315 [v] U λr Z'=>r=.Rf []/\aT K Z' 3 1 v (L.reverse.map vI)/\∀i o,U i=some o->(o.elem≠3\/K i≠none)->Z' i=some o:=by
 refine O2.r (by simp[GD]) ?_;refine ad.mix 5 ?_;rcases hv with⟨rfl,h0⟩|⟨id,rfl,h2,h3⟩
 .obtain rfl:L=[]:=by simpa using h0
  apply sR;simp only[go_sem,seval,GD];refine⟨ao (by omega) (by omega),?_⟩;refine ad.loop (λm st=>st.U=U/\st.s 2=vI 0/\∃z:Int,st.s 3=vI z/\z<0) 0 ?_ ?_
  .refine⟨rfl,rfl,_,rfl,?_⟩;simp
  .rintro m ⟨S,J⟩ ⟨RH,t2,z,t3,hz⟩;simp only at RH t2 t3;subst RH;refine ad.mix 5 ?_;have q:((0:Int)<z)=False:=eq_false (by omega);apply sR;simp only[go_sem,seval,t2,t3,q];exact⟨_,_,aa.refl _,Wk.refl (aa.refl _) _,rfl,.inl ⟨rfl,rfl⟩,λi o h _=>h⟩
 .have hn:0<L.length:=List.length_pos_iff.2 λe=>by have:=RK e;cases this
  have Wv:(L.map vI).length=L.length:=by simp
  have r1:Rq .i64 ((L.length:Int)-1):=ao (by omega) (by omega);apply sR;simp only[go_sem,seval,GD,Wv,r1];refine ad.loop (λm st=>∃t:Nat,2*t<=L.length/\m=L.length-t/\st.U id=some ⟨3,1,(jQ L t).map vI⟩/\(∀i,i≠id->st.U i=U i)/\st.s 0=.own id 0 L.length/\st.s 2=vI t/\∃z:Int,st.s 3=vI z/\z=(L.length:Int)-1-t) L.length ?_ ?_
  .exact⟨0,by omega,by omega,h2,λ_ _=>rfl,rfl,rfl,_,rfl,by simp⟩
  .rintro m ⟨S,J⟩ ⟨t,ht,rfl,g1,g2,t0,t2,z,t3,rfl⟩;simp only at g1 g2 t0 t2 t3;refine ad.mix 5 ?_;have WG:((jQ L t).map vI).length=L.length:=by rw[List.length_map,kH]
   by_cases H':(t:Int)<(L.length:Int)-1-t
   .have q:((t:Int)<(L.length:Int)-1-t)=True:=eq_true H';have hj:((L.length:Int)-1-t)=((L.length-1-t:Nat):Int):=by omega
    obtain⟨j,hjj⟩:∃j,j=L.length-1-t:=⟨_,rfl⟩
    rw[hj,<-hjj]at t3 q;have Zk:t<(jQ L t).length:=by rw[kH];omega
    have Ub:j<(jQ L t).length:=by rw[kH];omega
    have i1:∀n,n=L.length->bQ J 1 (.own id 0 n) (.int .i64 t)=some (.ptr id t 0):=λn hn=>by subst hn;rw[<-WG];exact j4 g1 (by rw[WG];omega)
    have i2:∀n,n=L.length->bQ J 1 (.own id 0 n) (.int .i64 j)=some (.ptr id j 0):=λn hn=>by subst hn;rw[<-WG];exact j4 g1 (by rw[WG];omega)
    have v1:((jQ L t).map vI)[t]?=some (vI ((jQ L t).getD t 0)):=by simp[Zk]
    have v2:((jQ L t).map vI)[j]?=some (vI ((jQ L t).getD j 0)):=by simp[Ub]
    have i3:∀a n,n=L.length->bQ (C' J id ⟨3,1,((jQ L t).map vI).set t a⟩) 1 (.own id 0 n) (.int .i64 j)=some (.ptr id j 0):=λa n hn=>by
     have e:n=(((jQ L t).map vI).set t a).length:=by rw[List.length_set,WG,hn]
     rw[e];exact j4 ag (by rw[List.length_set,WG];omega)
    have v3:∀a,(((jQ L t).map vI).set t a)[j]?=some (vI ((jQ L t).getD j 0)):=λa=>by rw[List.getElem?_set_ne (by omega)];exact v2
    have r4:Rq .i64 ((t:Int)+1):=ao (by omega) (by omega);have r5:Rq .i64 ((j:Int)-1):=ao (by omega) (by omega);apply sR;simp only[go_sem,seval,t0,t2,t3,q,g1,i1 _ rfl,i2 _ rfl,i3 _ _ rfl,v1,v2,v3,r4,r5];refine⟨_,?_,t+1,by omega,rfl,?_,λi hi=>?_,by simp[t0],_,rfl,by omega⟩
    .omega
    .simp only[jQ,swp,List.map_set];rw[hjj]
    .rw[ab hi];exact g2 i hi
   .have q:((t:Int)<(L.length:Int)-1-t)=False:=eq_false H';apply sR;simp only[go_sem,seval,t0,t2,t3,q];have hr:=Ei L ht (by omega);rw[hr]at g1;refine⟨_,_,aa.refl _,Wk.refl (aa.refl _) _,rfl,.inr ⟨id,by simp,g1,h3⟩,λi o h hio=>?_⟩;rw[g2 i (λe=>by subst e;rw[h2]at h;injection h with h;subst h;rcases hio with h|h;exact h rfl;exact h h3)]
    exact h
open Go.Proofs Go.Proofs.Tryz
structure Kn where
 (ends TF both:List Int)
 text:Int
def ia(x:Kn):V:=.agg [bn x.ends,bn x.TF,bn x.both,vI x.text]
def eC(l:List Nd)(of:List Int)(k:Nat):Kn:=
 ⟨VN l of ((k:Int)-1) (λb=>!W3 l of b k),(VN l of k (λb=>!W3 l of b ((k:Int)-1))).reverse,VN l of k (λb=>W3 l of b ((k:Int)-1)),
  if 0<k/\k<of.length/\of.getD k 0=of.getD (k-1) 0 then of.getD k 0 else -1⟩
structure KR(l:List Nd)(of:List Int)(k:Int)(i4 i5 i6 i9 RP Tc:Nat)(v:V)(Z0 U:ai):Prop where
 ask:Bl l of k i4 i5 i9 RP U
 r6:U i6=some ⟨321,4,[.agg [.aC,.aC,.aC,vI 0]]⟩
 r11:U Tc=some ⟨321,4,[v]⟩
 sub:aa Z0 U
 no:Z0 Tc=none
 ne:i4≠Tc/\i5≠Tc/\i6≠Tc/\i9≠Tc/\RP≠Tc
def KR.mono{l:List Nd}{of:List Int}{k:Int}{i4 i5 i6 i9 RP Tc:Nat}{v:V}{Z0 U J:ai}(h:KR l of k i4 i5 i6 i9 RP Tc v Z0 U)(hs:aa U J):KR l of k i4 i5 i6 i9 RP Tc v Z0 J:=
 ⟨h.ask.mono hs,hs _ _ h.r6,hs _ _ h.r11,h.sub.trans hs,h.no,h.ne⟩
def KR.put{l:List Nd}{of:List Int}{k:Int}{i4 i5 i6 i9 RP Tc:Nat}{v w:V}{Z0 U:ai}(h:KR l of k i4 i5 i6 i9 RP Tc v Z0 U):KR l of k i4 i5 i6 i9 RP Tc w Z0 (C' U Tc ⟨321,4,[w]⟩):=by
 obtain⟨n1,n2,n3,n4,n5⟩:=h.ne;exact⟨⟨by rw[ab n1];exact h.ask.r4,by rw[ab n2];exact h.ask.r5,by rw[ab n4];exact h.ask.r9,by rw[ab n5];exact h.ask.WX⟩,by rw[ab n3];exact h.r6,ag,h.sub.aE h.no,h.no,h.ne⟩
def BG(l:List Nd)(hl:dH l)(hb:R3 l=true)(of:List Int)(TK:of.length<=1000000)(Sx:∀x∈of,0<=x/\x<l.length)(hm:ph l of=true)(k:Nat)(hk:k<=of.length):
 aV prog 273 [aK l,bn of,vI k] (.Rf [ia (eC l of k),vI 0]):=λU=>by
 refine OV.r (by simp[Kv]) ?_;have hs:=aa.refl U;have UK:=fG of;have hn:l.length<=100000:=by have:=hl.1;omega
 refine ad.mix 12 ?_;apply sR;simp only[go_sem,seval,Kv,ae,aj,av,ax];refine af λi4 Z4 s4 a4 f4=>?_;have z4:=hs.none f4;replace hs:=hs.trans s4;simp only[go_sem,seval];refine af λi5 Z5 s5 a5 f5=>?_;have Tp:=aq a4 f5;replace a4:=s5 _ _ a4;have z5:=hs.none f5;replace hs:=hs.trans s5;simp only[go_sem,seval];refine af λi6 Z6 s6 a6 f6=>?_;have Zd:=aq a4 f6;replace a4:=s6 _ _ a4;have n56:=aq a5 f6;replace a5:=s6 _ _ a5;have z6:=hs.none f6;replace hs:=hs.trans s6;simp only[go_sem,seval,a4,a5,a6,ae,aj,av];refine ad.aB rfl rfl rfl (nX l hl hb of TK hm _) ?_;have q0:((0:Int)≠0)=False:=eq_false (λh=>h rfl);have q1:((k:Int)<0)=False:=eq_false (by omega);have q2:((k:Int)>of.length)=False:=eq_false (by omega);apply sR;simp only[go_sem,seval,q0,q1,q2,a4,a5,a6,UK,ae,aj,av,ax];refine af λi9 Z9 s9 a9 f9=>?_;have n49:=aq a4 f9;replace a4:=s9 _ _ a4;have n59:=aq a5 f9;replace a5:=s9 _ _ a5;have n69:=aq a6 f9;replace a6:=s9 _ _ a6;have z9:=hs.none f9;replace hs:=hs.trans s9;simp only[go_sem,seval,a9,a4,a5,a6,ae,aj,av,ax];generalize Sp:C' _ i9 _=Y9;replace a9:=(congrFun Sp i9).symm.trans ag;replace a4:=((congrFun Sp i4).symm.trans (ab n49)).trans a4;replace a5:=((congrFun Sp i5).symm.trans (ab n59)).trans a5;replace a6:=((congrFun Sp i6).symm.trans (ab n69)).trans a6;replace hs:=Eq.subst (motive:=aa _) Sp (hs.aE z9);clear Sp;have Xb:V.Rv.cells=[.Rv]:=rfl;refine af λRP Ws Tz RU f10=>?_;have n410:=aq a4 f10;replace a4:=Tz _ _ a4;have n510:=aq a5 f10;replace a5:=Tz _ _ a5;have n610:=aq a6 f10;replace a6:=Tz _ _ a6;have n910:=aq a9 f10;replace a9:=Tz _ _ a9;have U7:=hs.none f10;replace hs:=hs.trans Tz;simp only[go_sem,seval,RU,Xb];generalize TA:C' _ RP _=Y10;replace RU:=(congrFun TA RP).symm.trans ag;replace a4:=((congrFun TA i4).symm.trans (ab n410)).trans a4;replace a5:=((congrFun TA i5).symm.trans (ab n510)).trans a5;replace a6:=((congrFun TA i6).symm.trans (ab n610)).trans a6;replace a9:=((congrFun TA i9).symm.trans (ab n910)).trans a9;replace hs:=Eq.subst (motive:=aa _) TA (hs.aE U7);clear TA;refine af λTc ZM Vu U8 f11=>?_;have Ym:=aq a4 f11;replace a4:=Vu _ _ a4;have XB:=aq a5 f11;replace a5:=Vu _ _ a5;have Uo:=aq a6 f11;replace a6:=Vu _ _ a6;have XC:=aq a9 f11;replace a9:=Vu _ _ a9;have Sw:=aq RU f11;replace RU:=Vu _ _ RU;have z11:=hs.none f11;replace hs:=hs.trans Vu;simp only[go_sem,seval,U8,RU,a9,a5,a4,ab Ym,ab XB,ab Uo,ab XC,ab Sw,ae,aj];generalize SO:C' _ Tc _=Y11;replace U8:=(congrFun SO Tc).symm.trans ag;replace a4:=((congrFun SO i4).symm.trans (ab Ym)).trans a4;replace a5:=((congrFun SO i5).symm.trans (ab XB)).trans a5;replace a6:=((congrFun SO i6).symm.trans (ab Uo)).trans a6;replace a9:=((congrFun SO i9).symm.trans (ab XC)).trans a9;replace RU:=((congrFun SO RP).symm.trans (ab Sw)).trans RU;replace hs:=Eq.subst (motive:=aa _) SO (hs.aE z11);clear SO;have hK:KR l of k i4 i5 i6 i9 RP Tc (.agg [.aC,.aC,.aC,vI (-1)]) U Y11:=⟨⟨a4,a5,a9,RU⟩,a6,U8,hs,z11,Ym,XB,Uo,XC,Sw⟩
 clear hs a4 a5 a6 a9 RU U8;generalize Y11=J at*;have hZ11:=hK.r11;have hZs:=hK.sub;refine⟨ao (by omega) (by omega),?_⟩;refine ad.call rfl rfl rfl (td l hl hb hn of TK Sx ((k:Int)-1) 313 [.ptr RP 0 0,.ptr i5 0 0] (λb=>!W3 l of b k) (λb Sh X' Zm=>Kq l hb hn of TK Sx b Sh k (hK.ask.mono Zm))) ?_;rintro v0 Z1 ⟨s1,o0,_⟩;have hK1:=hK.mono s1;clear hK s1;obtain⟨cv0,sv0⟩:=o0.vc;have c11:=hK1.r11;have c9:=hK1.ask.r9;have c5:=hK1.ask.r5;rw[nk]at c9;apply sR;simp only[go_sem,seval,c11,c9,c5,cv0,sv0,ab XC,ab XB,ae,aj];have hK2:=hK1.put (w:=.agg [v0,.aC,.aC,vI (-1)]);have o0':aT (bg U Tc) (C' Z1 Tc ⟨321,4,[.agg [v0,.aC,.aC,vI (-1)]]⟩) 3 1 v0 ((VN l of ((k:Int)-1) (λb=>!W3 l of b k)).map vI):=by
  rcases o0 with h|⟨id,g1,g2,g3⟩
  .exact .inl h
  .have g3:J id=none:=g3;have RK:id≠Tc:=λe=>by rw[e,hZ11]at g3;cases g3
   exact .inr ⟨id,g1,by rw[ab RK];exact g2,aM.2 ⟨RK,hZs.none g3⟩⟩
 generalize C' Z1 Tc ⟨321,4,[.agg [v0,.aC,.aC,vI (-1)]]⟩=Y2 at*;refine ad.call rfl rfl rfl (td l hl hb hn of TK Sx k 314 [.ptr RP 0 0,.ptr i5 0 0] (λb=>!W3 l of b ((k:Int)-1)) (λb Sh X' Zm=>K0 l hb hn of TK Sx b Sh k (by omega) (by omega) (hK2.ask.mono Zm))) ?_;rintro v1 Z3 ⟨s3,o1,n1⟩;have hK3:=hK2.mono s3;have o03:=o0'.mono s3;obtain⟨cv1,sv1⟩:=o1.vc;have d11:=hK3.r11;have x11:=hK2.r11;apply sR;simp only[go_sem,seval,d11,cv0,sv0,cv1,sv1];have hK4:=hK3.put (w:=.agg [v0,v1,.aC,vI (-1)]);have push:∀{K Zx:ai} {v:V} {rows:List V} {o:Ob},K Tc≠none->aT K Zx 3 1 v rows->aT K (C' Zx Tc o) 3 1 v rows:=λ{K Zx v rows o} hk h=>by
  rcases h with h|⟨id,g1,g2,g3⟩
  .exact .inl h
  .exact .inr ⟨id,g1,by rw[ab (λe=>by rw[e]at g3;exact hk g3)];exact g2,g3⟩
 have kk:bg U Tc Tc≠none:=λh=>(aM.1 h).1 rfl;have o1':aT Y2 Z3 3 1 v1 _:=o1;have o04:=push (o:=⟨321,4,[.agg [v0,v1,.aC,vI (-1)]]⟩) kk o03;have o14:=push (o:=⟨321,4,[.agg [v0,v1,.aC,vI (-1)]]⟩) (by rw[x11];simp) o1';generalize C' Z3 Tc ⟨321,4,[.agg [v0,v1,.aC,vI (-1)]]⟩=Y4 at*;have Sn:∀kk p,(VN l of kk p).length<=1000000:=λkk p=>by
  unfold VN;split
  .have h1:=List.length_filter_le p (U' l (of.getD kk.toNat 0).toNat);have h2:=iQ l (l.length+1) (eQ l (of.getD kk.toNat 0).toNat);have h3:(U' l (of.getD kk.toNat 0).toNat).length<=l.length+1:=h2;omega
  .simp
 refine ad.call rfl rfl rfl (DH _ (Sn _ _) o14 n1) ?_;rintro r Z5 ⟨rfl,o15,Tt⟩;have y5:=hK2.ask.r5;have hK5:KR l of k i4 i5 i6 i9 RP Tc (.agg [v0,v1,.aC,vI (-1)]) U Z5:=
  ⟨⟨Tt _ _ hK4.ask.r4 (.inl (by simp)),Tt _ _ hK4.ask.r5 (.inr (by rw[y5];simp)),Tt _ _ hK4.ask.r9 (.inl (by simp)),Tt _ _ hK4.ask.WX (.inl (by simp))⟩,Tt _ _ hK4.r6 (.inl (by simp)),Tt _ _ hK4.r11 (.inl (by simp)),
    λi o h=>Tt _ _ (hK4.sub _ _ h) (.inr (by rw[hK2.sub _ _ h];simp)),hK4.no,hK4.ne⟩
 have o05:aT (bg U Tc) Z5 3 1 v0 ((VN l of ((k:Int)-1) (λb=>!W3 l of b k)).map vI):=by
  rcases o0' with h|⟨id,g1,g2,g3⟩
  .exact .inl h
  .rcases o04 with⟨e,_⟩|⟨Ta,e1,e2,_⟩
   .rw[g1]at e;cases e
   .rw[g1]at e1;injection e1 with e1 _ _
    subst e1;exact .inr ⟨id,g1,Tt _ _ e2 (.inr (by rw[g2];simp)),g3⟩
 have e9:=hK5.ask.r9;have e5:=hK5.ask.r5;have e11:=hK5.r11;rw[nk]at e9;apply sR;simp only[go_sem,seval,e9,e5,e11,ae,aj];refine ad.call rfl rfl rfl (td l hl hb hn of TK Sx k 316 [.ptr RP 0 0,.ptr i5 0 0] (λb=>W3 l of b ((k:Int)-1)) (λb Sh X' Zm=>Lm l hb hn of TK Sx b Sh k (by omega) (by omega) (hK5.ask.mono Zm))) ?_;rintro v2 Z6 ⟨s6,o2,_⟩;have hK6:=hK5.mono s6;have o06:=o05.mono s6;have o16:=o15.mono s6;have o2':aT Z5 Z6 3 1 v2 _:=o2;obtain⟨cv2,sv2⟩:=o2.vc;have f11:=hK6.r11;have f4:=hK6.ask.r4;have f5:=hK6.ask.r5;have f6:=hK6.r6;have Wy:∀{K:ai} {J:ai} {v:V} {rows x:List V} {i:Nat} {o:Ob},J i=some ⟨321,4,x⟩->aT K J 3 1 v rows->aT K (C' J i o) 3 1 v rows:=λ{K J v rows x i o} hi h=>by
  rcases h with h|⟨id,g1,g2,g3⟩
  .exact .inl h
  .refine .inr ⟨id,g1,?_,g3⟩;rw[ab (λe=>by rw[e,hi]at g2;cases g2)];exact g2
 have hsK1:aa U (bg U Tc):=λi o h=>by rw[bg,if_neg (λe=>by rw[e,hK6.no]at h;cases h)];exact h
 have fin:∀(t:Int) (o:Ob),t=(eC l of k).text->ay (.Rf [.agg [v0,v1,v2,vI t],vI 0]) (C' (C' Z6 Tc ⟨321,4,[.agg [v0,v1,v2,vI t]]⟩) i6 o) λr Z'=>r=.Rf [ia (eC l of k),vI 0]/\Z'=U:=by
  intro t o ht;have g6:=f6;rw[<-ab (U:=Z6) (o:=⟨321,4,[.agg [v0,v1,v2,vI t]]⟩) Uo]at g6;have p0:=Wy (o:=o) g6 (Wy (o:=⟨321,4,[.agg [v0,v1,v2,vI t]]⟩) f11 o06);have p1:=Wy (o:=o) g6 (Wy (o:=⟨321,4,[.agg [v0,v1,v2,vI t]]⟩) f11 o16);have p2:=Wy (o:=o) g6 (Wy (o:=⟨321,4,[.agg [v0,v1,v2,vI t]]⟩) f11 o2');have RA:=((hK6.sub.aE (o:=⟨321,4,[.agg [v0,v1,v2,vI t]]⟩) hK6.no)).aE (o:=o) z6;refine⟨_,U,RA,Wk.Rf (vs':=[ia (eC l of k),vI 0]) ⟨Wk.agg (vs':=[bn (eC l of k).ends,bn (eC l of k).TF,bn (eC l of k).both,vI (eC l of k).text]) ⟨p0.wk hsK1 RA,p1.wk hK2.sub RA,p2.wk hK5.sub RA,by rw[<-ht];exact Wk.refl RA _,trivial⟩,Wk.refl RA _,trivial⟩,rfl,rfl⟩
 rcases Nat.eq_zero_or_pos k with rfl|h0
 .have q3:((((0:Nat):Int))>0)=False:=eq_false (by omega);have ft:=fin (-1);apply sR;simp only[go_sem,seval,f11,f4,f5,f6,cv0,sv0,cv1,sv1,cv2,sv2,ab Ym,ab XB,ab Uo,ab XC,ab Sw,q3,ae,aj,av,ax];exact fin _ _ (by simp[eC])
 have q3:((k:Int)>0)=True:=eq_true (by omega);by_cases h1:k<of.length
 .have q4:((k:Int)<of.length)=True:=eq_true (by omega);have q5:=ao (m:=((k-1:Nat):Int)) (by omega) (by omega);have q6:((k:Int)-1)=((k-1:Nat):Int):=by omega
  have q7:=λU=>gO (U:=U) h1;have q8:=λU=>gO (U:=U) (l:=of) (i:=k-1) (by omega);have g1:of.getD k 0=of[k]:=by simp[h1]
  have g2:of.getD (k-1) 0=of[k-1]:=by have:k-1<of.length:=by omega
                                      simp[this]
  by_cases h2:of.getD k 0=of.getD (k-1) 0
  .have q9:(of[k]=of[k-1])=True:=eq_true (by rw[<-g1,<-g2];exact h2);apply sR;simp only[go_sem,seval,f11,f4,f5,f6,cv0,sv0,cv1,sv1,cv2,sv2,ab Ym,ab XB,ab Uo,ab XC,ab Sw,q3,q4,q5,q6,q7,q8,q9,UK,ae,aj,av,ax];exact fin _ _ (by simp only[eC];rw[if_pos ⟨h0,h1,h2⟩,g1])
  .have q9:(of[k]=of[k-1])=False:=eq_false (by rw[<-g1,<-g2];exact h2);apply sR;simp only[go_sem,seval,f11,f4,f5,f6,cv0,sv0,cv1,sv1,cv2,sv2,ab Ym,ab XB,ab Uo,ab XC,ab Sw,q3,q4,q5,q6,q7,q8,q9,UK,ae,aj,av,ax];exact fin _ _ (by simp only[eC];rw[if_neg (λh=>h2 h.2.2)])
 .have q4:((k:Int)<of.length)=False:=eq_false (by omega);apply sR;simp only[go_sem,seval,f11,f4,f5,f6,cv0,sv0,cv1,sv1,cv2,sv2,ab Ym,ab XB,ab Uo,ab XC,ab Sw,q3,q4,UK,ae,aj,av,ax];exact fin _ _ (by simp only[eC];rw[if_neg (λh=>h1 h.2.1)])
open Go.Proofs Go.Proofs.Tryz
def SP(l:List Nd)(b:Int):SA:=((l[b.toNat]?).map Nd.st).getD SA.zero
def lE(l:List Nd)(b:Int):List Int:=(if 0<(SP l b).head then[2]else[])++[(SP l b).before]
def AV(l:List Nd)(x:Kn):List Int:=x.ends.map (λb=>(SP l b).after)++x.TF.flatMap (lE l)
def jf{l:List Nd}{b:Nat}(h:b<l.length):SP l b=l[b].st:=by simp[SP,h]
def Au(l:List Nd)(x:Kn)(hE:x.ends.length<=1000000)(hB:x.TF.length<=1000000)(he:∀b∈x.ends,∃n:Nat,b=n/\n<l.length)(hb:∀b∈x.TF,∃n:Nat,b=n/\n<l.length):
 Iter prog 317 [.rp (ia x),.rp (aK l)] ((AV l x).map λn=>[vI n]):=by
 refine⟨N0.c,λRF τ Jx Z0 hy hJ=>?_⟩;refine(N0.r (by simp[KX]) ?_).2;obtain⟨E,B,C,tx⟩:=x;simp only at hE hB he hb;have hlE:=fG E;have hlB:=fG B;have ldI:∀(U:ai) (X:List Int),bS U false 1 (.rp (bn X))=some (bn X):=λU X=>rfl;have ldN:∀U:ai,bS U false 1 (.rp (aK l))=some (aK l):=λU=>rfl;generalize hT:(AV l ⟨E,B,C,tx⟩).map (λn=>[vI n])=T at hy|-;refine ad.mix 9 ?_;apply sR;simp only[go_sem,seval,KX,ia,ldI,hlE,aj,av];refine ad.fe (λst=>∃(ZJ:ai),τ ((E.map λb=>(SP l b).after).map λn=>[vI n]) ZJ/\aa ZJ st.U/\st.s 0=.yl RF/\st.s 1=.rp (ia ⟨E,B,C,tx⟩)/\st.s 2=.rp (aK l))
  (λm st=>∃(j:Nat) (ZJ:ai),j<=E.length/\m=E.length-j/\τ (((E.take j).map λb=>(SP l b).after).map λn=>[vI n]) ZJ/\aa ZJ st.U/\st.s 0=.yl RF/\st.s 1=.rp (ia ⟨E,B,C,tx⟩)/\st.s 2=.rp (aK l)/\st.s 10=bn E/\st.s 11=vI E.length/\st.s 12=vI j) E.length ?_ ?_ ?_
 .exact⟨0,Z0,by omega,rfl,by simpa using hJ,aa.refl _,rfl,rfl,rfl,rfl,rfl,rfl⟩
 .rintro m ⟨S,J⟩ ⟨j,ZJ,hj,rfl,SV,G',t0,t1,t2,t10,t11,t12⟩;simp only at G' t0 t1 t2 t10 t11 t12;refine ad.mix 9 ?_;by_cases H':j<E.length
  .have q:((j:Int)<E.length)=True:=eq_true (by omega);have Q9:=λU=>gO (U:=U) H';have Sf:E.take (j+1)=E.take j++[E[j]]:=List.take_succ_eq_append_getElem H';obtain⟨b,ZQ,Sh⟩:=he _ (List.getElem_mem H');have e0':E=E.take j++E[j]::E.drop (j+1):=by rw[<-List.drop_eq_getElem_cons H',List.take_append_drop]
   have e:T=(((E.take j).map λb=>(SP l b).after).map λn=>[vI n])++[vI l[b].st.after]::((((E.drop (j+1)).map λb=>(SP l b).after)++B.flatMap (lE l)).map λn=>[vI n]):=by
    rw[<-hT,AV]
    conv=>lhs;rw[e0']
    simp[ZQ,jf Sh]
   rw[ZQ]at Q9 Sf;have SR:=λU=>cK (U:=U) (l:=l) (a:=b) Sh;have r1:Rq .i64 ((j:Int)+1):=ao (by omega) (by omega);apply sR;simp only[go_sem,seval,t0,t1,t2,t10,t11,t12,q,Q9,ldN,SR,Nd.cells];refine ad.mA (Post:=λb' Z2=>∃RC,bh ZJ J RC Z2/\((b'=true/\τ ((((E.take j).map λb=>(SP l b).after).map λn=>[vI n])++[[vI l[b].st.after]]) RC)\/(b'=false/\Jx ((((E.take j).map λb=>(SP l b).after).map λn=>[vI n])++[[vI l[b].st.after]]) RC))) rfl rfl rfl (hy _ [vI l[b].st.after] _ ZJ J e SV G') ?_;rintro b' Z2 ⟨RC,Sl,R6⟩;rcases R6 with⟨rfl,R6⟩|⟨rfl,R6⟩
   .apply sR;simp only[go_sem,seval,t0,t1,t2,t10,t11,t12,r1];refine⟨_,?_,j+1,RC,by omega,rfl,by rw[Sf];simpa[jf Sh]using R6,Sl.1,by simp[t0,t1,t2,t10,t11]⟩;omega
   .apply sR;simp only[go_sem,seval,t0,t1,t2,t10,t11,t12];exact⟨_,RC,Sl.1,Wk.refl Sl.1 _,.inr ⟨_,⟨_,by rw[e,List.append_assoc];rfl⟩,R6⟩⟩
  .have q:((j:Int)<E.length)=False:=eq_false (by omega);rw[List.take_of_length_le (by omega)]at SV;apply sR;simp only[go_sem,seval,t0,t1,t2,t10,t11,t12,q];exact⟨ZJ,SV,G'⟩
 .rintro⟨S,J⟩ ⟨ZJ,SV,G',t0,t1,t2⟩;simp only at G' t0 t1 t2;generalize hP:((E.map λb=>(SP l b).after).map λn=>[vI n])=P1 at*;refine ad.mix 9 ?_;apply sR;simp only[go_sem,seval,t0,t1,t2,ia,ldI,hlB,aj,av];refine ad.loop (λm st=>∃(j:Nat) (ZJ:ai),j<=B.length/\m=B.length-j/\τ (P1++((B.take j).flatMap (lE l)).map λn=>[vI n]) ZJ/\aa ZJ st.U/\st.s 0=.yl RF/\st.s 2=.rp (aK l)/\st.s 27=bn B/\st.s 28=vI B.length/\st.s 29=vI j) B.length ?_ ?_
  .exact⟨0,ZJ,by omega,rfl,by simpa using SV,G',t0,t2,rfl,rfl,rfl⟩
  .clear SV G' t0 t1 t2;rintro m ⟨S,J⟩ ⟨j,ZJ,hj,rfl,SV,G',t0,t2,t27,t28,t29⟩;simp only at G' t0 t2 t27 t28 t29;refine ad.mix 9 ?_;by_cases H':j<B.length
   .have q:((j:Int)<B.length)=True:=eq_true (by omega);have Q9:=λU=>gO (U:=U) H';have Sf:B.take (j+1)=B.take j++[B[j]]:=List.take_succ_eq_append_getElem H';obtain⟨b,ZQ,Sh⟩:=hb _ (List.getElem_mem H');have e0':B=B.take j++B[j]::B.drop (j+1):=by rw[<-List.drop_eq_getElem_cons H',List.take_append_drop]
    have e:T=(P1++((B.take j).flatMap (lE l)).map λn=>[vI n])++((lE l b).map λn=>[vI n])++(((B.drop (j+1)).flatMap (lE l)).map λn=>[vI n]):=by
     rw[<-hT,AV,List.map_append,hP]
     conv=>lhs;rw[e0']
     simp[ZQ]
    rw[ZQ]at Q9 Sf;have SR:=λU=>cK (U:=U) (l:=l) (a:=b) Sh;have r1:Rq .i64 ((j:Int)+1):=ao (by omega) (by omega);have hs:=aa.refl J;have htk2:(P1++((B.take (j+1)).flatMap (lE l)).map λn=>[vI n])=(P1++((B.take j).flatMap (lE l)).map λn=>[vI n])++((lE l b).map λn=>[vI n]):=by rw[Sf];simp
    generalize (P1++((B.take j).flatMap (lE l)).map λn=>[vI n])=P2 at*;have hbg:lE l b=(if 0<l[b].st.head then[2]else[])++[l[b].st.before]:=by rw[lE,jf Sh]
    apply sR;simp only[go_sem,seval,t0,t2,t27,t28,t29,q,Q9,ldN,SR,Nd.cells];refine af λi8 Z8 s8 a8 f8=>?_;have z8:=hs.none f8;replace hs:=hs.trans s8;simp only[go_sem,seval,a8,t0,t2,t27,t28,t29,ldN,SR,Nd.cells];generalize SC:C' _ i8 _=Y8;replace a8:=(congrFun SC i8).symm.trans ag;replace hs:=Eq.subst (motive:=aa _) SC (hs.aE z8);clear SC;generalize ((B.drop (j+1)).flatMap (lE l)).map (λn=>[vI n])=R2 at*;refine⟨λh0=>?_,λh0=>?_⟩
    .have e1:T=P2++[vI 2]::([vI l[b].st.before]::R2):=by rw[e,hbg,if_pos h0];simp
     have e2:T=(P2++[[vI 2]])++[vI l[b].st.before]::R2:=by rw[e1];simp
     have e3:(P2++[[vI 2]])++[[vI l[b].st.before]]=P2++(lE l b).map λn=>[vI n]:=by rw[hbg,if_pos h0];simp
     have hsub8:aa ZJ Y8:=G'.trans hs;refine ad.mA (Post:=λb' Z2=>∃RC,bh ZJ Y8 RC Z2/\((b'=true/\τ (P2++[[vI 2]]) RC)\/(b'=false/\Jx (P2++[[vI 2]]) RC))) rfl rfl rfl (hy _ [vI 2] _ ZJ Y8 e1 SV hsub8) ?_;rintro b' Z2 ⟨RC,Sl,R6⟩;rcases R6 with⟨rfl,R6⟩|⟨rfl,R6⟩
     .have a8':=(Sl.2 i8 _ (G'.none z8) a8).1;apply sR;simp only[go_sem,seval,t0,t2,t27,t28,t29,a8'];refine ad.mA (Post:=λb' Z3=>∃Zo,bh RC Z2 Zo Z3/\((b'=true/\τ ((P2++[[vI 2]])++[[vI l[b].st.before]]) Zo)\/(b'=false/\Jx ((P2++[[vI 2]])++[[vI l[b].st.before]]) Zo))) rfl rfl rfl (hy _ [vI l[b].st.before] _ RC Z2 e2 R6 Sl.1) ?_;rintro b3 Z3 ⟨Zo,Yn,VO⟩;rcases VO with⟨rfl,VO⟩|⟨rfl,VO⟩
      .apply sR;simp only[go_sem,seval,t0,t2,t27,t28,t29,r1];refine⟨_,?_,j+1,Zo,by omega,rfl,by rw[htk2,<-e3];exact VO,Yn.1,by simp[t0,t2,t27,t28]⟩;omega
      .apply sR;simp only[go_sem,seval,t0,t2,t27,t28,t29];exact⟨_,Zo,Yn.1,Wk.refl Yn.1 _,.inr ⟨_,⟨_,by rw[e2,List.append_assoc];rfl⟩,VO⟩⟩
     .apply sR;simp only[go_sem,seval,t0,t2,t27,t28,t29];exact⟨_,RC,Sl.1,Wk.refl Sl.1 _,.inr ⟨_,⟨_,by rw[e1,List.append_assoc];rfl⟩,R6⟩⟩
    .have e2:T=P2++[vI l[b].st.before]::R2:=by rw[e,hbg,if_neg (by omega)];simp
     have e3:P2++[[vI l[b].st.before]]=P2++(lE l b).map λn=>[vI n]:=by rw[hbg,if_neg (by omega)];simp
     have hsub8:aa ZJ Y8:=G'.trans hs;apply sR;simp only[go_sem,seval,t0,t2,t27,t28,t29,a8];refine ad.mA (Post:=λb' Z3=>∃Zo,bh ZJ Y8 Zo Z3/\((b'=true/\τ (P2++[[vI l[b].st.before]]) Zo)\/(b'=false/\Jx (P2++[[vI l[b].st.before]]) Zo))) rfl rfl rfl (hy _ [vI l[b].st.before] _ ZJ Y8 e2 SV hsub8) ?_;rintro b3 Z3 ⟨Zo,Yn,VO⟩;rcases VO with⟨rfl,VO⟩|⟨rfl,VO⟩
     .apply sR;simp only[go_sem,seval,t0,t2,t27,t28,t29,r1];refine⟨_,?_,j+1,Zo,by omega,rfl,by rw[htk2,<-e3];exact VO,Yn.1,by simp[t0,t2,t27,t28]⟩;omega
     .apply sR;simp only[go_sem,seval,t0,t2,t27,t28,t29];exact⟨_,Zo,Yn.1,Wk.refl Yn.1 _,.inr ⟨_,⟨_,by rw[e2,List.append_assoc];rfl⟩,VO⟩⟩
   .have q:((j:Int)<B.length)=False:=eq_false (by omega);rw[List.take_of_length_le (by omega),<-hP,<-List.map_append]at SV;apply sR;simp only[go_sem,seval,t0,t2,t27,t28,t29,q];exact⟨_,ZJ,G',Wk.refl G' _,.inl (hT▸SV)⟩
open Go.Proofs Go.Proofs.Tryz
def wh{l:List Nd}{of:List Int}(Sx:∀x∈of,0<=x/\x<l.length){k:Int}{p:Int->Bool}:∀b∈VN l of k p,∃n:Nat,b=n/\n<l.length:=λb hb=>by
 unfold VN at hb;split at hb
 .rename_i h;have H':k.toNat<of.length:=by omega
  have V9:of.getD k.toNat 0=of[k.toNat]:=by simp[H']
  rw[V9]at hb;obtain⟨h0,h1⟩:=Sx _ (List.getElem_mem H');obtain⟨n,rfl,hn⟩:=oe (l:=l) (a:=of[k.toNat].toNat) (by omega) b (List.mem_filter.1 hb).1;exact⟨n,rfl,by omega⟩
 .cases hb
def o6{l:List Nd}(hn:l.length<=100000){of:List Int}{k:Int}{p:Int->Bool}:(VN l of k p).length<=100001:=by
 unfold VN;split
 .have h1:=List.length_filter_le p (U' l (of.getD k.toNat 0).toNat);have h2:=iQ l (l.length+1) (eQ l (of.getD k.toNat 0).toNat);have h3:(U' l (of.getD k.toNat 0).toNat).length<=l.length+1:=h2;omega
 .simp
def FW(l:List Nd)(b:Int):(lE l b).length<=2:=by unfold lE;split<;>simp
def yI{α β:Type}(f:α->List β)(hf:∀a,(f a).length<=2):∀L:List α,(L.flatMap f).length<=2*L.length
 |[]=>by simp
 |a::L=>by
  rw[List.flatMap_cons,List.length_append,List.length_cons];have:=yI f hf L;have:=hf a;omega
def jH(l:List Nd)(of:List Int)(k:Nat):List Int:=if k=of.length then[]else AV l (eC l of k)
def x9{l:List Nd}(hn:l.length<=100000)(of:List Int)(k:Nat):(AV l (eC l of k)).length<=1000000:=by
 unfold AV;rw[List.length_append,List.length_map];have h1:=yI (lE l) (FW l) (eC l of k).TF;have h2:(eC l of k).ends.length<=100001:=o6 hn;have h3:(eC l of k).TF.length<=100001:=by
  rw[eC,List.length_reverse];exact o6 hn
 omega
def Ek(l:List Nd)(x:Kn):aV prog 274 [aK l,ia x] (.fn 317 [.rp (ia x),.rp (aK l)]):=λU=>by
 refine OA.r (by simp[Ke]) ?_;refine ad.mix 4 ?_;have q1:=ae l;have q2:=ax l;generalize aK l=y at*;obtain⟨E,B,C,tx⟩:=x;simp only[ia];apply sR;simp only[go_sem,seval,Ke,q1,q2,aj,av];refine af λUJ Z1 s1 a1 f1=>?_;simp only[go_sem,seval,q1,q2,aj,av];refine af λWg Z2 s2 a2 f2=>?_;simp only[go_sem,seval];exact⟨_,U,s1.trans s2,Wk.fn (vs':=[.rp (.agg [bn E,bn B,bn C,vI tx]),.rp y]) ⟨Wk.ptr (s1.trans s2) a2 (s1.none f2),Wk.ptr (s1.trans s2) (s2 _ _ a1) f1,trivial⟩,rfl,rfl⟩
def BH(l:List Nd)(hl:dH l)(hb:R3 l=true)(of:List Int)(TK:of.length<=1000000)(Sx:∀x∈of,0<=x/\x<l.length)(hm:ph l of=true)(k:Nat)(hk:k<=of.length):
 aV prog 228 [aK l,bn of,vI k] (.Rf [bn (jH l of k),vI 0]):=λU=>by
 refine Oh.r (by simp[JL]) ?_;have hs:=aa.refl U;have UK:=fG of;have hn:l.length<=100000:=by have:=hl.1;omega
 refine ad.mix 10 ?_;apply sR;simp only[go_sem,seval,JL];refine ad.aB rfl rfl rfl (BG l hl hb of TK Sx hm k hk _) ?_;apply sR;simp only[go_sem,seval,ia];refine af λi8 Z8 s8 a8 f8=>?_;have z8:=hs.none f8;replace hs:=hs.trans s8;have q0:((0:Int)≠0)=False:=eq_false (λh=>h rfl);by_cases Vf:k=of.length
 .have q1:((k:Int)=of.length)=True:=eq_true (by omega);simp only[go_sem,seval,a8,UK,q0,q1,ia,aj,av];rw[jH,if_pos Vf];have RA:=hs.aE (o:=⟨321,4,[ia (eC l of k)]⟩) z8;exact⟨_,U,RA,Wk.Rf (vs':=[bn [],vI 0]) ⟨(aT.start (e:=3)).wk (aa.refl _) RA,Wk.refl RA _,trivial⟩,rfl,rfl⟩
 .have q1:((k:Int)=of.length)=False:=eq_false (by omega);simp only[go_sem,seval,a8,UK,q0,q1,ia,aj,av];refine ad.aB rfl rfl rfl (Ek l (eC l of k) _) ?_;apply sR;simp only[go_sem,seval];have TZ:=x9 hn of k;have Wq:=Au l (eC l of k) (Nat.le_trans (o6 hn) (by omega)) (by rw[eC,List.length_reverse];exact Nat.le_trans (o6 hn) (by omega)) (wh Sx) (λb hb=>wh Sx b (List.mem_reverse.1 hb));refine ad.aB rfl rfl rfl (vC Wq TZ _) ?_;apply sR;simp only[go_sem,seval];rw[jH,if_neg Vf];have RA:=hs.aE (o:=⟨321,4,[ia (eC l of k)]⟩) z8;exact⟨_,U,RA,Wk.refl RA _,rfl,rfl⟩
open Go.Proofs Go.Proofs.Tryz
def lY(out n:Int)(Wn:Bool):Int:=if Wn=true\/out=0 then n else out
def jW(out n:Int):Int:=if n=3\/n=4 then lY out n true else if n=2 then lY out n false else out
def dy(all:List Int):Int:=all.foldl jW 0
def xj(n:Int)(Wn:Bool)(out:Int){U:ai}{i3:Nat}(h:U i3=some ⟨3,1,[vI out]⟩):
 aD prog 275 [vI n,.bool Wn,.ptr i3 0 0] U λ_ Z'=>Z' i3=some ⟨3,1,[vI (lY out n Wn)]⟩/\∀i,i≠i3->Z' i=U i:=by
 refine Pe.r (by simp[Gr]) ?_;refine ad.mix 5 ?_;have fin:∀J:ai,J i3=some ⟨3,1,[vI (lY out n Wn)]⟩->(∀i,i≠i3->J i=U i)->ay (.Rf []) J λ_ Z'=>Z' i3=some ⟨3,1,[vI (lY out n Wn)]⟩/\∀i,i≠i3->Z' i=U i:=λJ h1 h2=>
  ⟨_,J,aa.refl _,Wk.refl (aa.refl _) _,h1,h2⟩
 by_cases h0:Wn=true\/out=0
 .have ht:lY out n Wn=n:=if_pos h0;rw[ht]at fin|-;cases Wn
  .have q:(out=0)=True:=eq_true (by simpa using h0);apply sR;simp only[go_sem,seval,Gr,h,q];exact fin _ ag λi hi=>ab hi
  .apply sR;simp only[go_sem,seval,Gr,h];exact fin _ ag λi hi=>ab hi
 .have ht:lY out n Wn=out:=if_neg h0;rw[ht]at fin|-;simp only[not_or,Bool.not_eq_true]at h0;obtain⟨rfl,h0⟩:=h0;have q:(out=0)=False:=eq_false h0;apply sR;simp only[go_sem,seval,Gr,h,q];exact fin _ h λi hi=>rfl
def Fa(all:List Int)(TZ:all.length<=1000000):aV prog 229 [bn all] (vI (dy all)):=λU=>by
 refine QC.r (by simp[Kc]) ?_;have hs:=aa.refl U;have Un:=fG all;refine ad.mix 8 ?_;apply sR;simp only[go_sem,seval,Kc];refine af λi3 Z3 s3 a3 f3=>?_;have z3:=hs.none f3;replace hs:=hs.trans s3;simp only[go_sem,seval,a3,Un];generalize Zp:C' _ i3 _=X3;replace a3:=(congrFun Zp i3).symm.trans ag;replace hs:=Eq.subst (motive:=aa _) Zp (hs.aE z3);clear Zp;refine ad.fe (λst=>st.U i3=some ⟨3,1,[vI (dy all)]⟩/\aa U st.U/\st.s 3=.ptr i3 0 0)
  (λm st=>∃j:Nat,j<=all.length/\m=all.length-j/\st.U i3=some ⟨3,1,[vI (dy (all.take j))]⟩/\aa U st.U/\st.s 3=.ptr i3 0 0/\st.s 4=.fn 275 [.ptr i3 0 0]/\st.s 9=bn all/\st.s 10=vI all.length/\st.s 11=vI j) all.length ?_ ?_ ?_
 .exact⟨0,by omega,rfl,a3,hs,rfl,rfl,rfl,rfl,rfl⟩
 .clear a3 hs;rintro m ⟨S,J⟩ ⟨j,hj,rfl,b3,hs,t3,t4,t9,t10,t11⟩;simp only at b3 hs t3 t4 t9 t10 t11;refine ad.mix 8 ?_;by_cases H':j<all.length
  .have q:((j:Int)<all.length)=True:=eq_true (by omega);have Q9:=λU=>gO (U:=U) H';have Sf:dy (all.take (j+1))=jW (dy (all.take j)) all[j]:=by
    rw[dy,List.take_succ_eq_append_getElem H',List.foldl_append];rfl
   have r1:Rq .i64 ((j:Int)+1):=ao (by omega) (by omega);generalize all[j]=n at*;have sub2:∀{ρ:ai} {o:Ob},ρ i3=some o->(∀i,i≠i3->ρ i=J i)->aa U ρ:=λ{ρ o} h1 h2 i x hx=>by
    rw[h2 i (λe=>by rw[e,z3]at hx;cases hx)];exact hs _ _ hx
   by_cases h3:n=3
   .have q3:(n=3)=True:=eq_true h3;have RA:lY (dy (all.take j)) n true=jW (dy (all.take j)) n:=by rw[jW,if_pos (.inl h3)]
    apply sR;simp only[go_sem,seval,t3,t4,t9,t10,t11,q,q3,Q9];refine ad.call rfl rfl rfl (xj n true (dy (all.take j)) b3) ?_;rintro-ρ ⟨g1,g2⟩;apply sR;simp only[go_sem,seval,t3,t4,t9,t10,t11,r1];refine⟨_,?_,j+1,by omega,rfl,by rw[Sf];exact RA▸g1,sub2 g1 g2,by simp[t3,t4,t9,t10]⟩;omega
   .have q3:(n=3)=False:=eq_false h3;by_cases h4:n=4
    .have q4:(n=4)=True:=eq_true h4;have RA:lY (dy (all.take j)) n true=jW (dy (all.take j)) n:=by rw[jW,if_pos (.inr h4)]
     apply sR;simp only[go_sem,seval,t3,t4,t9,t10,t11,q,q3,q4,Q9];refine ad.call rfl rfl rfl (xj n true (dy (all.take j)) b3) ?_;rintro-ρ ⟨g1,g2⟩;apply sR;simp only[go_sem,seval,t3,t4,t9,t10,t11,r1];refine⟨_,?_,j+1,by omega,rfl,by rw[Sf];exact RA▸g1,sub2 g1 g2,by simp[t3,t4,t9,t10]⟩;omega
    .have q4:(n=4)=False:=eq_false h4;by_cases h2:n=2
     .have q2:(n=2)=True:=eq_true h2;have RA:lY (dy (all.take j)) n false=jW (dy (all.take j)) n:=by rw[jW,if_neg (by simp[h3,h4]),if_pos h2]
      apply sR;simp only[go_sem,seval,t3,t4,t9,t10,t11,q,q3,q4,q2,Q9];refine ad.call rfl rfl rfl (xj n false (dy (all.take j)) b3) ?_;rintro-ρ ⟨g1,g2⟩;apply sR;simp only[go_sem,seval,t3,t4,t9,t10,t11,r1];refine⟨_,?_,j+1,by omega,rfl,by rw[Sf];exact RA▸g1,sub2 g1 g2,by simp[t3,t4,t9,t10]⟩;omega
     .have q2:(n=2)=False:=eq_false h2;have RA:dy (all.take j)=jW (dy (all.take j)) n:=by rw[jW,if_neg (by simp[h3,h4]),if_neg h2]
      apply sR;simp only[go_sem,seval,t3,t4,t9,t10,t11,q,q3,q4,q2,r1,Q9];refine⟨_,?_,j+1,by omega,rfl,by rw[Sf,<-RA];exact b3,hs,by simp[t3,t4,t9,t10]⟩;omega
  .have q:((j:Int)<all.length)=False:=eq_false (by omega);rw[List.take_of_length_le (by omega)]at b3;apply sR;simp only[go_sem,seval,t3,t4,t9,t10,t11,q];exact⟨b3,hs⟩
 .rintro⟨S,J⟩ ⟨b3,hs,t3⟩;simp only at b3 hs t3;refine ad.mix 8 ?_;apply sR;simp only[go_sem,seval,t3,b3];exact⟨_,U,hs,Wk.refl hs _,rfl,rfl⟩
open Go.Proofs Go.Proofs.Tryz
def je(l:List Nd)(of:List Int)(k:Nat):Int:=dy (jH l of k)
def sd{l:List Nd}(hn:l.length<=100000)(of:List Int)(k:Nat):(jH l of k).length<=1000000:=by
 unfold jH;split
 .simp
 .exact x9 hn of k
def ND(l:List Nd)(hl:dH l)(hb:R3 l=true)(of:List Int)(TK:of.length<=1000000)(Sx:∀x∈of,0<=x/\x<l.length)(hm:ph l of=true)(k:Nat)(hk:k<=of.length):
 aV prog 170 [aK l,bn of,vI k] (.Rf [vI (je l of k),vI 0]):=λU=>by
 refine Pv.r (by simp[Lr]) ?_;have hs:=aa.refl U;have hn:l.length<=100000:=by have:=hl.1;omega
 refine ad.mix 11 ?_;apply sR;simp only[go_sem,seval,Lr];refine ad.aB rfl rfl rfl (BH l hl hb of TK Sx hm k hk _) ?_;apply sR;simp only[go_sem,seval];refine ad.aB rfl rfl rfl (Fa _ (sd hn of k) _) ?_;apply sR;simp only[go_sem,seval];exact ay.pure hs rfl
def zR(l:List Nd)(of:List Int):List Int:=(List.range (of.length+1)).map (je l of)
def My(l:List Nd)(hl:dH l)(hb:R3 l=true)(of:List Int)(TK:of.length<=1000000)(Sx:∀x∈of,0<=x/\x<l.length)(hm:ph l of=true):
 aV prog 110 [aK l,bn of] (.Rf [bn (zR l of),vI 0]):=λU=>by
 refine Qj.r (by simp[Km]) ?_;have hs:=aa.refl U;have UK:=fG of;refine ad.mix 11 ?_;apply sR;simp only[go_sem,seval,Km];refine ad.aB rfl rfl rfl (nX l hl hb of TK hm _) ?_;have q0:((0:Int)≠0)=False:=eq_false (λh=>h rfl);have r0:Rq .i64 ((of.length:Int)+1):=ao (by omega) (by omega);apply sR;simp only[go_sem,seval,q0,UK,r0];refine ad.fe (λst=>aa U st.U/\aT U st.U 3 1 (st.s 7) ((zR l of).map vI))
  (λm st=>∃j:Nat,j<=of.length+1/\m=of.length+1-j/\aa U st.U/\aT U st.U 3 1 (st.s 7) (((List.range j).map (je l of)).map vI)/\st.s 0=aK l/\st.s 1=bn of/\st.s 19=vI ((of.length:Int)+1)/\st.s 20=vI j) (of.length+1) ?_ ?_ ?_
 .exact⟨0,by omega,rfl,hs,aT.start,rfl,rfl,rfl,rfl⟩
 .clear hs;rintro m ⟨S,J⟩ ⟨j,hj,rfl,hs,ho,t0,t1,t19,t20⟩;simp only at hs ho t0 t1 t19 t20;generalize hv7:S 7=v7 at ho;refine ad.mix 11 ?_;by_cases H':j<of.length+1
  .have q:((j:Int)<of.length+1)=True:=eq_true (by omega);have r1:Rq .i64 ((j:Int)+1):=ao (by omega) (by omega);have RS:(((List.range (j+1)).map (je l of)).map vI)=(((List.range j).map (je l of)).map vI)++[vI (je l of j)]:=by
    rw[List.range_succ];simp
   have Wv:(((List.range j).map (je l of)).map vI).length=j:=by simp
   apply sR;simp only[go_sem,seval,t0,t1,t19,t20,q];refine ad.aB rfl rfl rfl (ND l hl hb of TK Sx hm j (by omega) _) ?_;generalize ((List.range j).map (je l of)).map vI=rows at*;apply sR;simp only[go_sem,seval,t0,t1,t19,t20,hv7];refine af λi32 Z32 s32 a32 f32=>?_;obtain⟨Rr,SM,Sv,Zi,Xq⟩:=ho.AD s32;have Sb:(rows.length+1)*9<=140737488355328:=by omega
   simp only[go_sem,seval,t0,t1,t19,t20,hv7,SM,dW a32,Sb];refine fM λi33 Z33 s33 a33 f33=>?_;have k33:=(Sv U (aa.refl _) Z32 (hs.trans s32)).trans s33;have n33:U i33=none:=(hs.trans s32).none f33;simp only[go_sem,seval,t0,t1,t19,t20,r1];refine⟨_,?_,j+1,by omega,rfl,k33,?_,by simp[t0,t1,t19]⟩
   .omega
   .rw[RS];exact aT.new (by simp) a33 n33
  .have q:((j:Int)<of.length+1)=False:=eq_false (by omega);have SX:j=of.length+1:=by omega
   subst SX;apply sR;simp only[go_sem,seval,t0,t1,t19,t20,q];exact⟨hs,hv7▸ho⟩
 .rintro⟨S,J⟩ ⟨hs,ho⟩;simp only at hs ho;generalize hv7:S 7=v7 at ho;refine ad.mix 11 ?_;apply sR;simp only[go_sem,seval,hv7];exact⟨_,U,hs,Wk.Rf (vs':=[bn (zR l of),vI 0]) ⟨ho.wk (aa.refl _) hs,Wk.refl hs _,trivial⟩,rfl,rfl⟩
open Go.Proofs Go.Proofs.Tryz
def iK(l:List Nd)(of:List Int)(k:Int)(x:Kn):V:=.agg [bn x.ends,bn x.TF,bn x.both,vI x.text,aK l,bn of,vI k]
def Ml(l:List Nd)(hl:dH l)(hb:R3 l=true)(of:List Int)(TK:of.length<=1000000)(Sx:∀x∈of,0<=x/\x<l.length)(hm:ph l of=true)(k:Nat)(hk:k<=of.length):
 aV prog 230 [aK l,bn of,vI k] (.Rf [iK l of k (eC l of k),vI 0]):=λU=>by
 refine Ot.r (by simp[KQ]) ?_;have hs:=aa.refl U;refine ad.mix 10 ?_;apply sR;simp only[go_sem,seval,KQ];refine af λi6 Z6 s6 a6 f6=>?_;have z6:=hs.none f6;replace hs:=hs.trans s6;simp only[go_sem,seval];refine ad.aB rfl rfl rfl (BG l hl hb of TK Sx hm k hk _) ?_;apply sR;simp only[go_sem,seval,ia];refine af λi8 Z8 s8 a8 f8=>?_;have n68:=aq a6 f8;replace a6:=s8 _ _ a6;have z8:=hs.none f8;replace hs:=hs.trans s8;simp only[go_sem,seval,a8,a6,ab n68,ia,ae,aj,av,ax];exact ay.pure ((hs.aE z8).aE z6) rfl
def EY:aV prog 276 [] (.agg [vI 0,vI 0,vI 0,vI 0,vI 0,vI 2,vI 2,vI 0,vI 0,vI 0,vI 0,vI 0]):=λU=>by
 refine Po.r (by simp[Kt]) ?_;apply sR;simp only[go_sem,seval,Kt];refine af λWo Z0 s0 a0 f0=>?_;simp only[go_sem,seval,a0];exact .pure (s0.aE f0) rfl
def rD(a:Int):List Int->Nat->Int
 |[],_=>-1
 |q::r,i=>if q=a then i else rD a r (i+1)
def Di{a:Int}{p:List Int}{i:Nat}(h:i<p.length):rD a (p.drop i) i=if p[i]=a then(i:Int)else rD a (p.drop (i+1)) (i+1):=by
 rw[List.drop_eq_getElem_cons h,rD]
def yU(a:Int):∀(p:List Int) (i:Nat),rD a p i>=0↔a∈p
 |[],_=>by simp[rD]
 |q::r,i=>by
  rw[rD];split
  .rename_i h;subst h;simp
  .rename_i h;rw[yU a r (i+1),List.mem_cons];constructor
   .exact .inr
   .rintro(rfl|h2)
    .exact absurd rfl h
    .exact h2
def Ed(p:List Int)(hp:p.length<=1000000000)(a:Int):aV prog 318 [bn p,vI a] (vI (rD a p 0)):=λU=>by
 refine OQ.r (by simp[Jm]) ?_;have XP:=fG p;refine ad.mix 9 ?_;apply sR;simp only[go_sem,seval,Jm,XP];refine ad.loop (λm st=>∃(i:Nat),i<=p.length/\m=p.length-i/\rD a p 0=rD a (p.drop i) i/\st.U=U/\st.s 0=bn p/\st.s 1=vI a/\st.s 7=vI p.length/\st.s 8=vI i) p.length ?_ ?_
 .exact⟨0,by omega,rfl,rfl,rfl,rfl,rfl,rfl,rfl⟩
 .rintro m ⟨s,Z'⟩ ⟨i,hi,rfl,heq,RH,h0,h1,h7,h8⟩;simp only at RH h0 h1 h7 h8;subst RH;refine ad.mix 9 ?_;by_cases H':i<p.length
  .have q:((i:Int)<p.length)=True:=eq_true (by omega);have hd:=Di (a:=a) H';have Q9:=λU=>gO (U:=U) H';have r1:Rq .i64 ((i:Int)+1):=ao (by omega) (by omega);by_cases hc:p[i]=a
   .have q1:(a=p[i])=True:=eq_true hc.symm;apply sR;simp only[go_sem,seval,h0,h1,h7,h8,q,Q9,q1];refine ay.same ?_;rw[heq,hd,if_pos hc]
   .have q1:(a=p[i])=False:=eq_false (λh=>hc h.symm);apply sR;simp only[go_sem,seval,h0,h1,h7,h8,q,Q9,q1,r1];refine⟨_,?_,i+1,by omega,rfl,?_,by simp[h0,h1,h7]⟩
    .omega
    .rw[heq,hd,if_neg hc]
  .have q:((i:Int)<p.length)=False:=eq_false (by omega);have TV:i=p.length:=by omega
   apply sR;simp only[go_sem,seval,h0,h1,h7,h8,q];refine ay.same ?_;rw[heq,TV,List.drop_length];rfl
def yy(p:List Int)(hp:p.length<=1000000000)(a:Int):aV prog 280 [bn p,vI a] (.bool (decide (a∈p))):=λU=>by
 refine Oc.r (by simp[Jg]) ?_;apply sR;simp only[go_sem,seval,Jg];refine ad.aB rfl rfl rfl (Ed p hp a _) ?_;have h:=yU a p 0;by_cases ha:a∈p
 .have q:(rD a p 0>=0)=True:=eq_true (h.2 ha);apply sR;simp only[go_sem,seval,q];exact ay.same (by simp[ha])
 .have q:(rD a p 0>=0)=False:=eq_false (λhh=>ha (h.1 hh));apply sR;simp only[go_sem,seval,q];exact ay.same (by simp[ha])
open Go.Proofs Go.Proofs.Tryz
def kv(of:List Int)(t:Int)(k:Nat):Nat->Nat×Nat
 |0=>(0,0)
 |j+1=>if of.getD j 0=t then if j<k then((kv of t k j).1+1,(kv of t k j).2)else((kv of t k j).1,(kv of t k j).2+1)else kv of t k j
def nS(of:List Int)(t:Int)(k:Nat):Nat×Nat:=if t<0 then(0,0)else kv of t k of.length
def BF(of:List Int)(t:Int)(k:Nat):∀j,(kv of t k j).1<=j/\(kv of t k j).2<=j
 |0=>by simp[kv]
 |j+1=>by
  have:=BF of t k j;rw[kv];split
  .split<;>simp only<;>omega
  .omega
def Gj(l:List Nd)(of:List Int)(TK:of.length<=1000000)(k:Nat)(x:Kn):
 aV prog 278 [iK l of k x] (.Rf [vI (nS of x.text k).1,vI (nS of x.text k).2]):=λU=>by
 refine Og.r (by simp[KV]) ?_;have hs:=aa.refl U;have UK:=fG of;obtain⟨E,B,C,t⟩:=x;simp only;refine ad.mix 6 ?_;apply sR;simp only[go_sem,seval,KV,iK,ae,aj,av,ax];refine af λi1 Z1 s1 a1 f1=>?_;have z1:=hs.none f1;replace hs:=hs.trans s1;unfold nS;by_cases ht:t<0
 .have q:(t<0)=True:=eq_true ht;simp only[go_sem,seval,a1,q,ae,aj,av,ax];exact ay.pure hs (by simp[ht])
 have q:(t<0)=False:=eq_false ht;rw[if_neg ht];simp only[go_sem,seval,a1,q,UK,ae,aj,av,ax];refine ad.loop (λm st=>∃j:Nat,j<=of.length/\m=of.length-j/\st.U=Z1/\st.s 1=.ptr i1 0 0/\st.s 2=vI (kv of t k j).1/\st.s 3=vI (kv of t k j).2/\st.s 11=bn of/\st.s 12=vI of.length/\st.s 13=vI j) of.length ?_ ?_
 .exact⟨0,by omega,rfl,rfl,rfl,rfl,rfl,rfl,rfl,rfl⟩
 .rintro m ⟨S,J⟩ ⟨j,hj,rfl,RH,t1,t2,t3,t11,t12,t13⟩;simp only at RH t1 t2 t3 t11 t12 t13;subst RH;refine ad.mix 6 ?_;by_cases H':j<of.length
  .have q0:((j:Int)<of.length)=True:=eq_true (by omega);have r1:Rq .i64 ((j:Int)+1):=ao (by omega) (by omega);have Q9:=λU=>gO (U:=U) H';have V9:of.getD j 0=of[j]:=by simp[H']
   have hle:=BF of t k j;have RA:kv of t k (j+1)=if of[j]=t then if j<k then((kv of t k j).1+1,(kv of t k j).2)else((kv of t k j).1,(kv of t k j).2+1)else kv of t k j:=by rw[kv,V9]
   have r2:Rq .i64 (((kv of t k j).1:Int)+1):=ao (by omega) (by omega);have r3:Rq .i64 (((kv of t k j).2:Int)+1):=ao (by omega) (by omega);by_cases hn:of[j]=t
   .have q1:(of[j]≠t)=False:=eq_false (λh=>h hn);rw[if_pos hn]at RA;by_cases hk:j<k
    .have q2:((j:Int)<k)=True:=eq_true (by omega);rw[if_pos hk]at RA;apply sR;simp only[go_sem,seval,t1,t2,t3,t11,t12,t13,a1,q0,q1,q2,r1,r2,Q9,ae,aj,av,ax];refine⟨_,?_,j+1,by omega,rfl,by rw[RA];simp[t1,t2,t3,t11,t12]⟩;omega
    .have q2:((j:Int)<k)=False:=eq_false (by omega);rw[if_neg hk]at RA;apply sR;simp only[go_sem,seval,t1,t2,t3,t11,t12,t13,a1,q0,q1,q2,r1,r3,Q9,ae,aj,av,ax];refine⟨_,?_,j+1,by omega,rfl,by rw[RA];simp[t1,t2,t3,t11,t12]⟩;omega
   .have q1:(of[j]≠t)=True:=eq_true hn;rw[if_neg hn]at RA;apply sR;simp only[go_sem,seval,t1,t2,t3,t11,t12,t13,a1,q0,q1,r1,Q9,ae,aj,av,ax];refine⟨_,?_,j+1,by omega,rfl,by rw[RA];simp[t1,t2,t3,t11,t12]⟩;omega
  .have q0:((j:Int)<of.length)=False:=eq_false (by omega);have SX:j=of.length:=by omega
   apply sR;simp only[go_sem,seval,t1,t2,t3,t11,t12,t13,q0];exact ay.pure hs (by rw[SX])
open Go.Proofs Go.Proofs.Tryz
def wC:SA:=⟨0,0,0,0,0,2,2,0,0,0,0,0⟩
def wA(l:List Nd)(t:Int):SA:=if 0<=eQ l t.toNat then SP l (eQ l t.toNat)else wC
def K6(l:List Nd)(of:List Int)(t:Int)(k:Nat):Bool:=if t<0 then false else decide (((nS of t k).1:Int)<(wA l t).RM\/((nS of t k).2:Int)<(wA l t).RV)
def Mz(l:List Nd)(hl:dH l)(hb:R3 l=true)(of:List Int)(TK:of.length<=1000000)(k:Nat)(x:Kn)(hx:x.text<l.length):
 aV prog 231 [iK l of k x] (.bool (K6 l of x.text k)):=λU=>by
 refine PQ.r (by simp[JC]) ?_;have hs:=aa.refl U;have W4:=λx=>Gj l of TK k x;obtain⟨E,B,C,t⟩:=x;simp only at hx|-;refine ad.mix 7 ?_;apply sR;simp only[go_sem,seval,JC,iK,ae,aj,av,ax];refine af λi1 Z1 s1 a1 f1=>?_;have z1:=hs.none f1;replace hs:=hs.trans s1;unfold K6;by_cases ht:t<0
 .have q:(t<0)=True:=eq_true ht;simp only[go_sem,seval,a1,q,ae,aj,av,ax];exact ay.pure hs (by simp[ht])
 have q:(t<0)=False:=eq_false ht;rw[if_neg ht];obtain⟨a,rfl⟩:∃a:Nat,t=a:=⟨t.toNat,by omega⟩
 simp only[go_sem,seval,a1,q,ae,aj,av,ax];refine ad.aB rfl rfl rfl (EY _) ?_;apply sR;simp only[go_sem,seval];refine af λi3 Z3 s3 a3 f3=>?_;have U9:=aq a1 f3;replace a1:=s3 _ _ a1;have z3:=hs.none f3;replace hs:=hs.trans s3;simp only[go_sem,seval,a3,a1,ab U9,ae,aj,av,ax];generalize Zp:C' _ i3 _=X3;replace a3:=(congrFun Zp i3).symm.trans ag;replace a1:=((congrFun Zp i1).symm.trans (ab U9)).trans a1;replace hs:=Eq.subst (motive:=aa _) Zp (hs.aE z3);clear Zp;refine ad.aB rfl rfl rfl (AA l hl hb a (by omega) _) ?_;have Zj:=fW l a;have UE:wA l (a:Int)=if 0<=eQ l a then SP l (eQ l a)else wC:=by simp[wA]
 rw[UE];by_cases hp:0<=eQ l a
 .have q0:(eQ l a>=0)=True:=eq_true hp;obtain⟨b,ZQ⟩:∃b:Nat,eQ l a=b:=⟨(eQ l a).toNat,by omega⟩
  rw[if_pos hp];rw[ZQ]at q0 Zj|-;have Sh:b<l.length:=by omega
  have SR:=λU=>cK (U:=U) (l:=l) (a:=b) Sh;rw[jf Sh];apply sR;simp only[go_sem,seval,a1,a3,q0,SR,Nd.cells,ab U9,ae,aj,av,ax];generalize SZ:C' X3 i3 _=Y4;have b3:Y4 i3=some ⟨56,12,[ju l[b].st]⟩:=by rw[<-SZ];exact ag
  replace hs:aa U Y4:=by rw[<-SZ];exact hs.aE z3
  clear SZ;generalize l[b].st=st at*;rw[ju]at b3;refine ad.aB rfl rfl rfl (W4 ⟨E,B,C,a⟩ _) ?_;generalize nS of (a:Int) k=L at*;obtain⟨L1,L2⟩:=L;simp only;by_cases h1:(L1:Int)<st.RM
  .have q1:((L1:Int)<st.RM)=True:=eq_true h1;apply sR;simp only[go_sem,seval,b3,q1,ae,aj,av,ax];exact ay.pure hs (by simp[h1])
  .have q1:((L1:Int)<st.RM)=False:=eq_false h1;by_cases h2:(L2:Int)<st.RV
   .have q2:((L2:Int)<st.RV)=True:=eq_true h2;apply sR;simp only[go_sem,seval,b3,q1,q2,ae,aj,av,ax];exact ay.pure hs (by simp[h2])
   .have q2:((L2:Int)<st.RV)=False:=eq_false h2;apply sR;simp only[go_sem,seval,b3,q1,q2,ae,aj,av,ax];exact ay.pure hs (by simp[h1,h2])
 .have q0:(eQ l a>=0)=False:=eq_false hp;rw[if_neg hp];apply sR;simp only[go_sem,seval,a1,a3,q0,ab U9,ae,aj,av,ax];have b3:X3 i3=some ⟨56,12,[ju wC]⟩:=a3;generalize wC=st at*;rw[ju]at b3;refine ad.aB rfl rfl rfl (W4 ⟨E,B,C,a⟩ _) ?_;generalize nS of (a:Int) k=L at*;obtain⟨L1,L2⟩:=L;simp only;by_cases h1:(L1:Int)<st.RM
  .have q1:((L1:Int)<st.RM)=True:=eq_true h1;apply sR;simp only[go_sem,seval,b3,q1,ae,aj,av,ax];exact ay.pure hs (by simp[h1])
  .have q1:((L1:Int)<st.RM)=False:=eq_false h1;by_cases h2:(L2:Int)<st.RV
   .have q2:((L2:Int)<st.RV)=True:=eq_true h2;apply sR;simp only[go_sem,seval,b3,q1,q2,ae,aj,av,ax];exact ay.pure hs (by simp[h2])
   .have q2:((L2:Int)<st.RV)=False:=eq_false h2;apply sR;simp only[go_sem,seval,b3,q1,q2,ae,aj,av,ax];exact ay.pure hs (by simp[h1,h2])
open Go.Proofs Go.Proofs.Tryz
def Bs(l:List Nd)(x:Kn):Bool:=x.both.any λb=>decide ((SP l b).inside=1)
def AW(l:List Nd)(of:List Int)(k:Nat)(x:Kn){U:ai}{i1:Nat}(h:U i1=some ⟨323,7,[iK l of k x]⟩)(n:Nat)(hn:n<l.length):
 aD prog 279 [vI n,.ptr i1 0 0] U λr Z'=>r=.bool (decide ((SP l n).inside=1))/\Z'=U:=by
 refine Oa.r (by simp[Il]) ?_;refine ad.mix 4 ?_;have SR:=λU=>cK (U:=U) (l:=l) (a:=n) hn;rw[jf hn];rw[iK]at h;by_cases hi:l[n].st.inside=1
 .have q:(l[n].st.inside=1)=True:=eq_true hi;apply sR;simp only[go_sem,seval,Il,h,SR,Nd.cells,q,ae,aj];exact ay.same (by simp[hi])
 .have q:(l[n].st.inside=1)=False:=eq_false hi;apply sR;simp only[go_sem,seval,Il,h,SR,Nd.cells,q,ae,aj];exact ay.same (by simp[hi])
def DP(l:List Nd)(of:List Int)(k:Nat)(x:Kn)(hx:∀b∈x.both,∃n:Nat,b=n/\n<l.length)(hlen:x.both.length<=1000000):
 aV prog 232 [iK l of k x] (.bool (Bs l x)):=λU=>by
 refine Qd.r (by simp[LG]) ?_;have hs:=aa.refl U;refine ad.mix 3 ?_;apply sR;simp only[go_sem,seval,LG,iK,ae,aj,av,ax];refine af λi1 Z1 s1 a1 f1=>?_;have z1:=hs.none f1;replace hs:=hs.trans s1;simp only[go_sem,seval,a1,ae,aj,av,ax];refine ad.aB rfl rfl rfl (ml (p:=λb=>decide ((SP l b).inside=1)) Reads.ints (by omega) (λb hb=>by
  obtain⟨n,rfl,hn⟩:=hx b hb;exact AW l of k x a1 n hn)) ?_
 apply sR;simp only[go_sem,seval];exact ay.pure hs rfl
def AO(l:List Nd)(hl:dH l)(hb:R3 l=true)(of:List Int)(TK:of.length<=1000000)(Sx:∀x∈of,0<=x/\x<l.length)(hm:ph l of=true)(k:Nat)(hk:k<=of.length)(x:Kn):
 aV prog 233 [iK l of k x] (.bool (decide (1∈jH l of k))):=λU=>by
 refine Oz.r (by simp[MB]) ?_;have hs:=aa.refl U;have hn:l.length<=100000:=by have:=hl.1;omega
 refine ad.mix 5 ?_;apply sR;simp only[go_sem,seval,MB,iK,ae,aj,av,ax];refine af λi1 Z1 s1 a1 f1=>?_;have z1:=hs.none f1;replace hs:=hs.trans s1;simp only[go_sem,seval,a1,ae,aj,av,ax];refine ad.aB rfl rfl rfl (BH l hl hb of TK Sx hm k hk _) ?_;apply sR;simp only[go_sem,seval];refine ad.aB rfl rfl rfl (yy _ (by have:=sd hn of k;omega) 1 _) ?_;apply sR;simp only[go_sem,seval];exact ay.pure hs rfl
open Go.Proofs Go.Proofs.Tryz
def Gq(s:Int)(j:Nat)(b:Bool):Int:=if b then s+2^j else s
def kf(l:List Nd)(of:List Int)(k:Nat):Nat->Bool
 |0=>K6 l of (eC l of k).text k
 |1=>Bs l (eC l of k)
 |_=>decide (1∈jH l of k)
def dE(l:List Nd)(of:List Int)(k:Nat):Nat->Int
 |0=>0
 |j+1=>Gq (dE l of k j) j (kf l of k j)
def pZ(l:List Nd)(of:List Int)(k:Nat):Int:=if k=0\/k=of.length then 0 else dE l of k 3
def FE{l:List Nd}{of:List Int}(Sx:∀x∈of,0<=x/\x<l.length)(k:Nat):(eC l of k).text<l.length:=by
 rw[eC];simp only;split
 .rename_i h;have V9:of.getD k 0=of[k]'h.2.1:=by simp[h.2.1]
  rw[V9];exact(Sx _ (List.getElem_mem h.2.1)).2
 .omega
def N2(l:List Nd)(hl:dH l)(hb:R3 l=true)(of:List Int)(TK:of.length<=1000000)(Sx:∀x∈of,0<=x/\x<l.length)(hm:ph l of=true)(k:Nat)(hk:k<=of.length):
 aV prog 171 [aK l,bn of,vI k] (.Rf [vI (pZ l of k),vI 0]):=λU=>by
 refine P6.r (by simp[IV]) ?_;have hs:=aa.refl U;have UK:=fG of;have hn:l.length<=100000:=by have:=hl.1;omega
 have Wb:∀(f:FuncId) (a:List V),(V.bm f a).cells=[.bm f a]:=λ_ _=>rfl;have Sb:∀f:FuncId,(V.bm f [.agg [bn (eC l of k).ends,bn (eC l of k).TF,bn (eC l of k).both,vI (eC l of k).text,aK l,bn of,vI k]]).stays=true:=λ_=>rfl;have Xb:V.Rv.cells=[.Rv]:=rfl;refine ad.mix 15 ?_;apply sR;simp only[go_sem,seval,IV];refine ad.aB rfl rfl rfl (Ml l hl hb of TK Sx hm k hk _) ?_;have Ua:(iK l of k (eC l of k)).stays=true:=rfl;apply sR;simp only[go_sem,seval,iK,Ua];refine af λi8 Z8 s8 a8 f8=>?_;have z8:=hs.none f8;replace hs:=hs.trans s8;have q0:((0:Int)≠0)=False:=eq_false (λh=>h rfl);unfold pZ;by_cases UY:k=0
 .subst UY;have q1:(((0:Nat):Int)=0)=True:=eq_true rfl;simp only[go_sem,seval,a8,q0,q1,ae,aj,av,ax];exact ay.pure (hs.aE z8) (by simp)
 have q1:((k:Int)=0)=False:=eq_false (by omega);by_cases TH:k=of.length
 .have q2:((k:Int)=of.length)=True:=eq_true (by omega);simp only[go_sem,seval,a8,q0,q1,q2,UK,ae,aj,av,ax];exact ay.pure (hs.aE z8) (by simp[TH])
 have q2:((k:Int)=of.length)=False:=eq_false (by omega);rw[if_neg (by omega)];simp only[go_sem,seval,a8,q0,q1,q2,UK,Wb,Sb,Xb,ae,aj,av,ax];generalize SC:C' _ i8 _=Y8;replace a8:=(congrFun SC i8).symm.trans ag;replace hs:=Eq.subst (motive:=aa _) SC (hs.aE z8);clear SC;refine af λRP Ws Tz RU f10=>?_;have n810:=aq a8 f10;replace a8:=Tz _ _ a8;have U7:=hs.none f10;replace hs:=hs.trans Tz;simp only[go_sem,seval,RU,Wb,Sb,Xb,ae,aj,av,ax];generalize TA:C' _ RP _=Y10;replace RU:=(congrFun TA RP).symm.trans ag;replace a8:=((congrFun TA i8).symm.trans (ab n810)).trans a8;replace hs:=Eq.subst (motive:=aa _) TA (hs.aE U7);clear TA;have ht:=FE Sx (l:=l) k;have c0:aV prog 231 [iK l of k (eC l of k)] (.bool (kf l of k 0)):=Mz l hl hb of TK k (eC l of k) ht;have c1:aV prog 232 [iK l of k (eC l of k)] (.bool (kf l of k 1)):=DP l of k (eC l of k) (wh Sx) (Nat.le_trans (o6 hn) (by omega));have c2:aV prog 233 [iK l of k (eC l of k)] (.bool (kf l of k 2)):=AO l hl hb of TK Sx hm k hk (eC l of k);rw[iK]at c0 c1 c2;generalize hpv:V.agg [bn (eC l of k).ends,bn (eC l of k).TF,bn (eC l of k).both,vI (eC l of k).text,aK l,bn of,vI k]=pv at*;refine ad.fe (λst=>aa U st.U/\st.s 11=vI (dE l of k 3))
  (λm st=>∃j:Nat,j<=3/\m=3-j/\aa U st.U/\st.s 11=vI (dE l of k j)/\st.s 41=.agg [.bm 231 [pv],.bm 232 [pv],.bm 233 [pv]]/\st.s 42=vI j) 3 ?_ ?_ ?_
 .exact⟨0,by omega,rfl,hs,rfl,rfl,rfl⟩
 .clear hs a8 RU;rintro m ⟨S,J⟩ ⟨j,hj,rfl,hs,t11,t41,t42⟩;simp only at hs t11 t41 t42;refine ad.mix 15 ?_;rcases(by omega:j=0\/j=1\/j=2\/j=3)with rfl|rfl|rfl|rfl
  .have Vm:S 42=vI 0:=t42;have hp:dE l of k 0=0:=rfl;have UN:S 11=vI 0:=by rw[t11,hp]
   apply sR;simp only[go_sem,seval,UN,t41,Vm];refine ad.kS rfl rfl rfl (c0 _) ?_;rintro r Z' ⟨rfl,rfl⟩;cases hv:kf l of k 0
   .apply sR;simp only[go_sem,seval,UN,t41,Vm];refine⟨ao (by omega) (by omega),_,?_,1,by omega,rfl,hs,by rw[dE,hp,hv];rfl,rfl⟩;omega
   .apply sR;simp only[go_sem,seval,UN,t41,Vm];refine⟨ao (by omega) (by omega),_,?_,1,by omega,rfl,hs,by rw[dE,hp,hv];rfl,rfl⟩;omega
  .have Vm:S 42=vI 1:=t42;have hp:dE l of k 1=0\/dE l of k 1=1:=by rw[dE,dE,Gq];split<;>simp
   rcases hp with hp|hp
   .have:=hp;have UN:S 11=vI 0:=by rw[t11,hp]
    apply sR;simp only[go_sem,seval,UN,t41,Vm];refine ad.kS rfl rfl rfl (c1 _) ?_;rintro r Z' ⟨rfl,rfl⟩;cases hv:kf l of k 1
    .apply sR;simp only[go_sem,seval,UN,t41,Vm];refine⟨ao (by omega) (by omega),_,?_,2,by omega,rfl,hs,by rw[dE,hp,hv];rfl,rfl⟩;omega
    .apply sR;simp only[go_sem,seval,UN,t41,Vm];refine⟨ao (by omega) (by omega),_,?_,2,by omega,rfl,hs,by rw[dE,hp,hv];rfl,rfl⟩;omega
   .have:=hp;have UN:S 11=vI 1:=by rw[t11,hp]
    apply sR;simp only[go_sem,seval,UN,t41,Vm];refine ad.kS rfl rfl rfl (c1 _) ?_;rintro r Z' ⟨rfl,rfl⟩;cases hv:kf l of k 1
    .apply sR;simp only[go_sem,seval,UN,t41,Vm];refine⟨ao (by omega) (by omega),_,?_,2,by omega,rfl,hs,by rw[dE,hp,hv];rfl,rfl⟩;omega
    .apply sR;simp only[go_sem,seval,UN,t41,Vm];refine⟨ao (by omega) (by omega),_,?_,2,by omega,rfl,hs,by rw[dE,hp,hv];rfl,rfl⟩;omega
  .have Vm:S 42=vI 2:=t42;have hp:dE l of k 2=0\/dE l of k 2=1\/dE l of k 2=2\/dE l of k 2=3:=by rw[dE,dE,dE,Gq,Gq];split<;>split<;>simp
   rcases hp with hp|hp|hp|hp
   .have:=hp;have UN:S 11=vI 0:=by rw[t11,hp]
    apply sR;simp only[go_sem,seval,UN,t41,Vm];refine ad.kS rfl rfl rfl (c2 _) ?_;rintro r Z' ⟨rfl,rfl⟩;cases hv:kf l of k 2
    .apply sR;simp only[go_sem,seval,UN,t41,Vm];refine⟨ao (by omega) (by omega),_,?_,3,by omega,rfl,hs,by rw[dE,hp,hv];rfl,rfl⟩;omega
    .apply sR;simp only[go_sem,seval,UN,t41,Vm];refine⟨ao (by omega) (by omega),_,?_,3,by omega,rfl,hs,by rw[dE,hp,hv];rfl,rfl⟩;omega
   .have:=hp;have UN:S 11=vI 1:=by rw[t11,hp]
    apply sR;simp only[go_sem,seval,UN,t41,Vm];refine ad.kS rfl rfl rfl (c2 _) ?_;rintro r Z' ⟨rfl,rfl⟩;cases hv:kf l of k 2
    .apply sR;simp only[go_sem,seval,UN,t41,Vm];refine⟨ao (by omega) (by omega),_,?_,3,by omega,rfl,hs,by rw[dE,hp,hv];rfl,rfl⟩;omega
    .apply sR;simp only[go_sem,seval,UN,t41,Vm];refine⟨ao (by omega) (by omega),_,?_,3,by omega,rfl,hs,by rw[dE,hp,hv];rfl,rfl⟩;omega
   .have:=hp;have UN:S 11=vI 2:=by rw[t11,hp]
    apply sR;simp only[go_sem,seval,UN,t41,Vm];refine ad.kS rfl rfl rfl (c2 _) ?_;rintro r Z' ⟨rfl,rfl⟩;cases hv:kf l of k 2
    .apply sR;simp only[go_sem,seval,UN,t41,Vm];refine⟨ao (by omega) (by omega),_,?_,3,by omega,rfl,hs,by rw[dE,hp,hv];rfl,rfl⟩;omega
    .apply sR;simp only[go_sem,seval,UN,t41,Vm];refine⟨ao (by omega) (by omega),_,?_,3,by omega,rfl,hs,by rw[dE,hp,hv];rfl,rfl⟩;omega
   .have:=hp;have UN:S 11=vI 3:=by rw[t11,hp]
    apply sR;simp only[go_sem,seval,UN,t41,Vm];refine ad.kS rfl rfl rfl (c2 _) ?_;rintro r Z' ⟨rfl,rfl⟩;cases hv:kf l of k 2
    .apply sR;simp only[go_sem,seval,UN,t41,Vm];refine⟨ao (by omega) (by omega),_,?_,3,by omega,rfl,hs,by rw[dE,hp,hv];rfl,rfl⟩;omega
    .apply sR;simp only[go_sem,seval,UN,t41,Vm];refine⟨ao (by omega) (by omega),_,?_,3,by omega,rfl,hs,by rw[dE,hp,hv];rfl,rfl⟩;omega
  .have Vm:S 42=vI 3:=t42;apply sR;simp only[go_sem,seval,t11,t41,Vm];exact hs
 .rintro⟨S,J⟩ ⟨hs,t11⟩;simp only at hs t11;refine ad.mix 15 ?_;apply sR;simp only[go_sem,seval,t11];exact ay.pure hs rfl
end Go.Vc
