/- Part 8 of the library of this proof. -/
import Derived.Test.YtmkknagmafmcpaaGreatDoorW7
set_option linter.all false
set_option maxHeartbeats 8000000
set_option maxRecDepth 100000
open Go.Proofs.Tryz
namespace Go.Vc
open Go.Proofs
def U0(l:List Nd):Nat->Int->List Int
 |0,_=>[]
 |f+1,p=>if 0<=p then p::U0 l f (eG l p.toNat)else[]
def yr{l:List Nd}{f:Nat}{p:Int}(h:p<0):U0 l f p=[]:=by
 cases f with
 |zero=>rfl
 |succ f=>rw[U0,aF (by omega)]
def si{l:List Nd}{f:Nat}{p:Int}(h:0<=p)(hf:p<f):∃g,f=g+1/\U0 l f p=p::U0 l g (eG l p.toNat):=by
 cases f with
 |zero=>omega
 |succ f=>exact⟨f,rfl,by rw[U0,aE h]⟩
def fT(l:List Nd)(a:Nat):-1<=eG l a/\eG l a<a:=uG l a a
def ldN(U:ag)(l:List Nd):bT U false 1 (.rp (aM l))=some (aM l):=rfl
def fdN(l:List Nd):dZ false 0 1 (.rp (.agg [aM l]))=some (.rp (aM l)):=rfl
def nD(l:List Int):List (List V):=l.map λp=>[vI p]
def sP(l:List Nd)(hl:eY l)(hb:Qs l=true)(a:Nat)(ha:a<l.length):Iter prog 202 [.rp (.agg [aM l]),.rp (vI a)] (nD (U0 l (l.length+1) (eG l a))):=by
 have hhas:vq l (a:Int)=true:=AR.2 ⟨by omega,by omega⟩;have Zg:=fT l a;refine⟨Mi.c,λP9 τ Jx Z0 hy hJ=>?_⟩;refine(Mi.r (by simp[JT]) ?_).2;refine ad.mix 5 ?_;apply sR;simp only[BB,seval,<-decide_not,bp,eT,aH,dF,dG,dB,dE,dH,bO,jm,bx,fa,cQ,fb,cJ,cy,bI,gI,ct,bH,bM,QW,jg,cP,bJ,iy,di,bY,cO,cF,ji,binBV,bD,cX,V.cells,V.stays,Qw.nothing,JT,ldN,fdN];refine ad.ay rfl rfl rfl (LR l a _) ?_;rw[hhas];apply sR;simp only[BB,seval,<-decide_not,bp,eT,aH,dF,dG,dB,dE,dH,bO,jm,bx,fa,cQ,fb,cJ,cy,bI,gI,ct,bH,bM,QW,jg,cP,bJ,iy,di,bY,cO,cF,ji,binBV,bD,cX,V.cells,V.stays,Qw.nothing,ldN,fdN];refine ad.ay rfl rfl rfl (wW l hl hb a ha _) ?_;apply sR;simp only[go_sem,seval];refine ad.loop (λm st=>∃(pre:List Int) (q:Int) (f:Nat) (ZJ:ag),m=(q+1).toNat/\-1<=q/\q<l.length/\q<f/\U0 l (l.length+1) (eG l a)=pre++U0 l f q/\τ (nD pre) ZJ/\aa ZJ st.U/\
  st.s 0=.yl P9/\st.s 1=.rp (.agg [aM l])/\st.s 4=vI q) (eG l a+1).toNat ?_ ?_
 .exact⟨[],eG l a,l.length+1,Z0,rfl,by omega,by omega,by omega,rfl,hJ,aa.refl _,rfl,rfl,rfl⟩
 .rintro m ⟨s,Z'⟩ ⟨pre,q,f,ZJ,rfl,hq1,hq2,hqf,Rv,hJp,B',h0,h1,h4⟩;simp only at B' h0 h1 h4;refine ad.mix 5 ?_;by_cases hq:0<=q
  .obtain⟨g,rfl,hu⟩:=si (l:=l) hq hqf;obtain⟨k,rfl⟩:∃k:Nat,q=k:=⟨q.toNat,by omega⟩
   have UJ:((k:Int)>=0)=True:=by simp
   rw[eL]at hu;have hpk:=fT l k;have RG:k<l.length:=by omega
   have e:nD (U0 l (l.length+1) (eG l a))=nD pre++[vI k]::nD (U0 l g (eG l k)):=by rw[Rv,hu];simp[nD]
   apply sR;simp only[go_sem,seval,h0,h1,h4,UJ];refine ad.lK (Post:=λb Z2=>∃P5,bf ZJ Z' P5 Z2/\((b=true/\τ (nD pre++[[vI k]]) P5)\/(b=false/\Jx (nD pre++[[vI k]]) P5))) rfl rfl rfl (hy _ [vI k] _ ZJ Z' e hJp B') ?_;rintro b Z2 ⟨P5,QM,QE⟩;rcases QE with⟨rfl,QE⟩|⟨rfl,QE⟩
   .apply sR;simp only[BB,seval,<-decide_not,bp,eT,aH,dF,dG,dB,dE,dH,bO,jm,bx,fa,cQ,fb,cJ,cy,bI,gI,ct,bH,bM,QW,jg,cP,bJ,iy,di,bY,cO,cF,ji,binBV,bD,cX,V.cells,V.stays,Qw.nothing,h0,h1,h4,ldN,fdN];refine ad.ay rfl rfl rfl (wW l hl hb k RG _) ?_;apply sR;simp only[go_sem,seval,h0,h1];refine⟨_,?_,pre++[(k:Int)],eG l k,g,P5,rfl,by omega,by omega,by omega,by rw[Rv,hu];simp,?_,QM.1,by simp[h0,h1]⟩
    .omega
    .simpa[nD]using QE
   .apply sR;simp only[go_sem,seval,h0,h1,h4];refine⟨_,P5,QM.1,Wk.refl QM.1 _,.inr ⟨nD pre++[[vI k]],?_,QE⟩⟩;rw[e];exact⟨nD (U0 l g (eG l k)),by simp⟩
  .have UJ:(q>=0)=False:=by simp;omega
   apply sR;simp only[go_sem,seval,h0,h1,h4,UJ];rw[yr (l:=l) (f:=f) (p:=q) (by omega),kj]at Rv;exact⟨_,ZJ,B',Wk.refl B' _,.inl (by rw[Rv];exact hJp)⟩
def yU(l:List Nd)(a:Int):aP prog 161 [.agg [aM l],vI a] (.fn 202 [.rp (.agg [aM l]),.rp (vI a)]):=λU=>by
 refine Px.r (by simp[JX]) ?_;refine ad.mix 4 ?_;have q1:(V.agg [aM l]).cells.length=1:=rfl;have q2:(V.agg [aM l]).stays=true:=rfl;generalize V.agg [aM l]=x at*;apply sR;simp only[go_sem,seval,JX,q1,q2];refine ae λSn Z1 s1 a1 f1=>?_;simp only[go_sem,seval];refine ae λRs Z2 s2 a2 f2=>?_;simp only[go_sem,seval];exact⟨_,U,s1.trans s2,Wk.fn (vs':=[.rp x,.rp (vI a)]) ⟨Wk.ptr (s1.trans s2) (s2 _ _ a1) f1,Wk.ptr (s1.trans s2) a2 (s1.none f2),trivial⟩,rfl,rfl⟩
def BX(l:List Nd)(hl:eY l)(hb:Qs l=true)(a:Nat)(ha:a<l.length):aP prog 209 [aM l,vI a] (vI (eG l a)):=λU=>by
 refine Pm.r (by simp[Lb]) ?_;refine ad.mix 5 ?_;have hit:=sP l hl hb a ha;have Zg:=fT l a;apply sR;simp only[go_sem,seval,Lb];refine ae λSS Z1 s1 a4 f4=>?_;simp only[go_sem,seval];refine ad.ay rfl rfl rfl (B3 l hl hb _) ?_;apply sR;simp only[go_sem,seval];refine ad.ay rfl rfl rfl (yU l a _) ?_;apply sR;simp only[go_sem,seval];generalize hS:mix 5 _ _=S;have S4:S 4=.ptr SS 0 0:=by rw[<-hS];rfl
 have S9:S 9=.fn 202 [.rp (.agg [aM l]),.rp (vI a)]:=by rw[<-hS];rfl
 clear hS;have hx0:∀x pre post,nD (U0 l (l.length+1) (eG l a))=pre++x::post->pre=[]->x=[vI (eG l a)]:=λx pre post h hp=>by
  subst hp;by_cases h0:0<=eG l a
  .obtain⟨g,_,hu⟩:=si (l:=l) (f:=l.length+1) h0 (by omega);rw[hu]at h;simp only[nD,dO,jU,List.cons.injEq]at h;exact h.1.symm
  .rw[yr (by omega)]at h;simp[nD]at h
 refine ad.eK (g:=.t 9) (caps:=[.rp (.agg [aM l]),.rp (vI a)]) S9 hit (λx hx=>?_) [] (λpre ZJ=>pre=[]/\ZJ=Z1) (λc pre ZJ=>c=none/\ZJ=u' Z1 SS ⟨3,1,[vI (eG l a)]⟩) ?_ ?_ ?_ ?_ ?_
 .simp only[nD,eI]at hx;obtain⟨t,_,rfl⟩:=hx;rfl
 .exact⟨rfl,rfl⟩
 .rintro pre x post ZJ ZB Rv ⟨rfl,rfl⟩ B';obtain rfl:=hx0 x [] post Rv rfl;have b4:=B' _ _ a4;generalize Ro:lT S [10] [vI (eG l a)]=S0;have T4:S0 4=.ptr SS 0 0:=by rw[<-Ro];exact S4
  have Vt:S0 10=vI (eG l a):=by rw[<-Ro];rfl
  clear Ro;refine ad.mix 11 ?_;apply sR;simp only[go_sem,seval,T4,Vt,b4];refine ad.mix 11 ?_;apply sR;simp only[go_sem,seval,T4,b4];exact⟨_,(bf.refl B').set (o:=⟨3,1,[vI 0]⟩) a4,rfl⟩
 .rintro Z' ⟨hn,rfl⟩;have hpm:eG l a=-1:=by
   by_cases h0:0<=eG l a
   .obtain⟨g,_,hu⟩:=si (l:=l) (f:=l.length+1) h0 (by omega);rw[hu]at hn;simp[nD]at hn
   .omega
  refine ad.mix 5 ?_;apply sR;simp only[go_sem,seval,S4,a4];rw[hpm];exact au.pure (s1.az f4) rfl
 .intro id h;cases h
 .rintro pre Z' _ ⟨_,rfl⟩;refine ad.mix 5 ?_;apply sR;simp only[go_sem,seval,S4,af];exact au.pure (s1.az f4) rfl
open Go.Proofs
def lH{l:List Nd}{a b:Int}:gO l a b=true↔0<=a/\b<l.length/\a<=b/\b<a+Qg l a.toNat:=by
 simp only[gO,Ba,AR,SX];constructor
 .rintro⟨h1,h2,h3,h4⟩;omega
 .rintro⟨h1,h2,h3,h4⟩;omega
def vZ(l:List Nd)(b:Nat):∀k,(rS l b k=-1/\∀i:Nat,i<k->gO l i b=false)\/∃q:Nat,rS l b k=q/\q<k/\gO l q b=true/\∀i:Nat,q<i->i<k->gO l i b=false
 |0=>.inl ⟨rfl,λi h=>by omega⟩
 |k+1=>by
  rw[rS];cases hk:gO l k b
  .simp only[gj,↓reduceIte];rcases vZ l b k with⟨h1,h2⟩|⟨q,h1,h2,h3,h4⟩
   .refine .inl ⟨h1,λi hi=>?_⟩;by_cases e:i=k
    .rw[e];exact hk
    .exact h2 i (by omega)
   .refine .inr ⟨q,h1,by omega,h3,λi hi QU=>?_⟩;by_cases e:i=k
    .rw[e];exact hk
    .exact h4 i hi (by omega)
  .simp only[↓reduceIte];exact .inr ⟨k,rfl,by omega,hk,λi hi QU=>by omega⟩
def nest{l:List Nd}(hb:Qs l=true){x q:Nat}(hx:x<l.length)(h1:x<=q)(h2:(q:Int)<x+Qg l x)(hq:q<l.length):(q:Int)+Qg l q<=x+Qg l x:=by
 by_cases e:x=q
 .subst e;omega
 .have Qj:cj l 0 l.length=true:=by simp only[Qs,Ba]at hb;exact hb.2
  obtain⟨z1,z2⟩:=pQ hb hx;obtain⟨z3,_⟩:=de (Qh _) Qj (Nat.zero_le x) hx;have U6:=lY l (l.length+1) 0 l.length (by omega) (Qh _) Qj x (by omega) hx hx;rw[<-lz hx]at U6;have:=(de (e:=x+(Qg l x).toNat) (by omega) U6 (k:=q) (by omega) (by omega)).1;omega
def Hg(l:List Nd):∀(f:Nat) (p x:Int),x∈U0 l f p->0<=x/\x<=p
 |0,_,_,h=>by simp[U0]at h
 |f+1,p,x,h=>by
  rw[U0]at h;split at h
  .rcases cD.1 h with rfl|h
   .omega
   .have:=Hg l f _ x h;have:=fT l p.toNat;omega
  .simp at h
def pe{l:List Nd}{a b:Nat}:∀k:Nat,(∀i:Nat,i<k->gO l i a=gO l i b)->gB l a k=gB l b k
 |0,_=>rfl
 |k+1,h=>by
  rw[gB,gB,h k (by omega),pe k λi hi=>h i (by omega)]
def mm{l:List Nd}{a q:Nat}:∀k:Nat,q<=k->(∀i:Nat,q<=i->i<k->gO l i a=false)->gB l a k=gB l a q
 |0,h,_=>by rw[Nat.le_zero.1 h]
 |k+1,h,hh=>by
  by_cases e:q=k+1
  .rw[e]
  .rw[gB,hh k (by omega) (by omega),aF (by simp)];exact mm k (by omega) λi h1 h2=>hh i h1 (by omega)
def vG{l:List Nd}(hb:Qs l=true):∀(f a:Nat),a<l.length->eG l a<f->U0 l f (eG l a)=gB l a a
 |f,a,ha,hf=>by
  rcases vZ l a a with⟨h1,h2⟩|⟨q,h1,h2,h3,h4⟩
  .have e:eG l a=-1:=h1;rw[e,yr (by omega),mm (q:=0) a (by omega) λi _ hi=>h2 i hi];rfl
  .have e:eG l a=q:=h1;rw[e]at hf|-;obtain⟨g,rfl,hu⟩:=si (l:=l) (f:=f) (p:=q) (by omega) hf;rw[hu,eL];have hpq:=fT l q;rw[vG hb g q (by omega) (by omega),mm (q:=q+1) a (by omega) λi i1 i2=>h4 i (by omega) i2,gB,h3,aE rfl];congr 1;refine pe q λi hi=>?_;rw[Bool.eq_iff_iff,lH,lH];rw[lH]at h3;simp only[eL]at h3|-;constructor
   .rintro⟨_,_,_,g4⟩;have:=nest hb (x:=i) (q:=q) (by omega) (by omega) g4 (by omega);omega
   .rintro⟨_,_,_,_⟩;omega
open Go.Proofs
def bf.DS{ZJ U P5 Z':ag}(h:bf ZJ U P5 Z'){e:Option Nat}(he:∀i,e=some i->∃o,P5 i=some o):bf ZJ U (Vc.bF P5 e) (Vc.bF Z' e):=by
 cases e with
 |none=>exact h
 |some e=>
  refine⟨Cn h.1,λi o h1 h2=>?_⟩;obtain⟨h3,h4⟩:=h.2 i o h1 h2;have:i≠e:=λe'=>by subst e';obtain⟨o',WK⟩:=he i rfl;rw[h4]at WK;cases WK
  simp only[Vc.bF,er this];exact⟨h3,h4⟩
def aN.C6{K ZJ Z1:ag}{e sz:Nat}{v:V}{rows:List V}(h:aN K ZJ e sz v rows)(hs:aa ZJ Z1):
 ∃PU,cK Z1 e sz v=some (rows,PU)/\∀i,PU=some i->K i=none/\∃o,ZJ i=some o:=by
 rcases h with⟨rfl,rfl⟩|⟨id,rfl,ho,hk⟩
 .exact⟨none,rfl,λ_ h=>by cases h⟩
 .refine⟨some id,?_,λi h=>by cases h;exact⟨hk,_,ho⟩⟩;simp only[cK,hs _ _ ho];rw[aE ⟨trivial,trivial,trivial,Qh _⟩,hU]
def bg(U:ag)(id:Nat):ag:=λi=>if i=id then some ⟨0,0,[]⟩else U i
def aI{U:ag}{id i:Nat}:bg U id i=none↔i≠id/\U i=none:=by
 unfold bg;split
 .rename_i h;simp[h]
 .rename_i h;simp[h]
def pH{α:Type}{f:α->V}{xs:List α}{pre post:List (List V)}{x:List V}(h:(xs.map λa=>[f a])=pre++x::post):∃a,xs[pre.length]?=some a/\x=[f a]:=by
 have:=congrArg (·[pre.length]?) h;simp only[l3,Er (Qh _),Nat.sub_self,EE,Zq8]at this;obtain⟨t,h1,h2⟩:=this;exact⟨t,h1,h2.symm⟩
def AM{g:FuncId}{caps:List V}{xs:List Int}(hit:Iter prog g caps (xs.map λn=>[vI n]))(hx:xs.length<=1000000)(U:ag):
 aC prog 201 [.aL,.fn g caps] U λr Z'=>aa U Z'/\aN U Z' 3 1 r (xs.map vI):=by
 refine Pt.r (by simp[c201]) ?_;refine ad.mix 8 ?_;apply sR;simp only[go_sem,seval,c201];refine ae λRs Z2 s2 a2 f2=>?_;simp only[go_sem,seval];generalize hS:mix 8 _ _=S;have S2:S 2=.ptr Rs 0 0:=by rw[<-hS];rfl
 have S6:S 6=.fn g caps:=by rw[<-hS];rfl
 clear hS;refine ad.eK (g:=.t 6) (caps:=caps) S6 hit (λx hx=>?_) [] (λpre ZJ=>∃v,ZJ Rs=some ⟨25,1,[v]⟩/\aa U ZJ/\aN (bg U Rs) ZJ 3 1 v ((xs.take pre.length).map vI))
  (λ_ _ _=>False) ?_ ?_ ?_ ?_ ?_
 .obtain⟨t,_,rfl⟩:=eI.1 hx;rfl
 .exact⟨.aL,a2,s2,by simpa using aN.start⟩
 .rintro pre x post ZJ ZB Rv ⟨v,J2,Js,Jo⟩ B';obtain⟨t,W2,rfl⟩:=pH (f:=vI) Rv;have Qn:xs.take (pre.length+1)=xs.take pre.length++[t]:=by rw[Ax,W2];rfl
  have hlen:(pre++[[vI t]]).length=pre.length+1:=by simp
  rw[hlen,Qn];have RG:((xs.take pre.length).map vI).length<=1000001:=by simp;omega
  have TF:v.cells=[v]:=by rcases Jo with⟨rfl,_⟩|⟨_,rfl,_⟩<;>rfl
  generalize Qj:((xs.take pre.length).map vI)=rows at*;have b2:=B' _ _ J2;generalize Ro:lT S [7] [vI t]=S0;have T2:S0 2=.ptr Rs 0 0:=by rw[<-Ro];exact S2
  have T7:S0 7=vI t:=by rw[<-Ro];rfl
  refine ad.mix 8 ?_;apply sR;simp only[go_sem,seval,T2,T7];apply sR;simp only[go_sem,seval,T2,T7,b2,TF];rw[av];intro TG f28;have TS:=(bf.refl B').qH (o:=⟨3,1,[vI t]⟩) f28;have y2:u' ZB TG ⟨3,1,[vI t]⟩ Rs=some ⟨25,1,[v]⟩:=by rw[ab (ao b2 f28)];exact b2
  have a28:u' ZB TG ⟨3,1,[vI t]⟩ TG=some ⟨3,1,[vI t]⟩:=af;generalize u' ZB TG ⟨3,1,[vI t]⟩=Z8 at*;obtain⟨PU,QV,Uh⟩:=Jo.C6 TS.1;have Qp:(rows.length+1)*9<=140737488355328:=by omega
  have k2:bg U Rs Rs≠none:=λh=>(aI.1 h).1 rfl;have Ti:∀(i:Nat) (Zx:ag),bg U Rs i≠none->Vc.bF Zx PU i=Zx i:=λi Zx hk=>by
   cases PU with
   |none=>rfl
   |some a=>exact er (λe=>hk (by rw[e];exact(Uh a rfl).1))
  simp only[go_sem,seval,QV,cW a28,Qp,T2];rw[av];intro Rp f29;have f29:Z8 Rp=none:=f29;have Xw:Rs≠Rp:=ao y2 f29;have Zh:Vc.bF Z8 PU Rp=none:=by
   cases PU with
   |none=>exact f29
   |some a=>simp only[Vc.bF,del];split<;>first|rfl|exact f29
  have y2':u' (Vc.bF Z8 PU) Rp ⟨3,1,rows++[vI t]⟩ Rs=some ⟨25,1,[v]⟩:=by rw[ab Xw,Ti _ _ k2];exact y2
  have hB9:=((TS.DS (e:=PU) λi h=>(Uh i h).2).new (o:=⟨3,1,rows++[vI t]⟩) Zh).set (id:=Rs) (o:=⟨25,1,[v]⟩) (o':=⟨25,1,[.own Rp 0 (rows.length+1)]⟩) (by rw[ab Xw,Ti _ _ k2];exact J2);simp only[go_sem,seval,TF,y2',T2];refine⟨_,hB9,.own Rp 0 (rows.length+1),af,?_,?_⟩
  .refine aa.az (λi o h=>?_) f2;have h1:=Js _ _ h;rw[ab (ao (TS.1 _ _ h1) f29),Ti _ _ (λhk=>by rw[(aI.1 hk).2]at h;cases h)];exact h1
  .rw[eo,Qj];refine aN.new (by simp) (by rw[ab Xw.symm,af];rfl) ?_;rw[aI];refine⟨Xw.symm,?_⟩;cases h:U Rp with
   |none=>rfl
   |some o=>rw[TS.1 _ _ (Js _ _ h)]at f29;cases f29
 .rintro Z' ⟨v,J2,Js,Jo⟩;rw[cL,hU]at Jo;have TF:v.cells=[v]:=by rcases Jo with⟨rfl,_⟩|⟨_,rfl,_⟩<;>rfl
  refine ad.mix 5 ?_;apply sR;simp only[go_sem,seval,S2,J2,TF];refine⟨_,_,aa.refl _,Wk.refl (aa.refl _) _,Js,?_⟩;rcases Jo with h|⟨id,h1,h2,h3⟩
  .exact .inl h
  .exact .inr ⟨id,h1,h2,(aI.1 h3).2⟩
 .intro id h;cases h
 .rintro pre Z' _ ⟨⟩
def vY{g:FuncId}{caps:List V}{xs:List Int}(hit:Iter prog g caps (xs.map λn=>[vI n]))(hx:xs.length<=1000000):
 aP prog 160 [.fn g caps] (encI xs):=λU=>by
 refine On.r (by simp[c160]) ?_;refine ad.mix 3 ?_;apply sR;simp only[go_sem,seval,c160];refine ad.call rfl rfl rfl (AM hit hx U) ?_;rintro r Z1 ⟨h1,h2⟩;apply sR;simp only[go_sem,seval];exact h2.zn h1 rfl
def T0(l:List Nd)(a:Nat):List Int:=U0 l (l.length+1) (eG l a)
def iK(l:List Nd):∀(f:Nat) (p:Int),(U0 l f p).length<=f
 |0,_=>by simp[U0]
 |f+1,p=>by
  rw[U0];split
  .have:=iK l f (eG l p.toNat);simp only[Rc];omega
  .simp
def Ky{l:List Nd}(hb:Qs l=true){a:Nat}(ha:a<l.length):T0 l a=gB l a a:=vG hb _ _ ha (by have:=fT l a;omega)
def Av(l:List Nd)(hl:eY l)(hb:Qs l=true)(hn:l.length<=100000)(a:Nat)(ha:a<l.length):aP prog 112 [aM l,vI a] (encI (T0 l a)):=λU=>by
 refine NK.r (by simp[Ll]) ?_;refine ad.mix 5 ?_;apply sR;simp only[go_sem,seval,Ll];refine ad.ay rfl rfl rfl (B3 l hl hb _) ?_;apply sR;simp only[go_sem,seval];refine ad.ay rfl rfl rfl (yU l a _) ?_;apply sR;simp only[go_sem,seval];refine ad.ay rfl rfl rfl (vY (sP l hl hb a ha) (by have:=iK l (l.length+1) (eG l a);omega) _) ?_;apply sR;simp only[go_sem,seval];exact au.same rfl
structure SOk(s:Rn):Prop where
 top:0<=s.top/\s.top<=1099511627776
 P0:0<=s.P0/\s.P0<=1099511627776
 PQ:0<=s.PQ/\s.PQ<=1099511627776
 H':0<=s.H'/\s.H'<=1099511627776
 QC:0<=s.QC/\s.QC<=1099511627776
 Qd:0<=s.Qd/\s.Qd<=1099511627776
 Qm:0<=s.Qm/\s.Qm<=1099511627776
 head:0<=s.head/\s.head<=1099511627776
 before:0<=s.before/\s.before<=4
 after:0<=s.after/\s.after<=4
 inside:0<=s.inside/\s.inside<=1
 clear:0<=s.clear/\s.clear<=3
structure Xx(x:Nd):Prop where
 st:SOk x.st
 kind:x.kind=1\/x.kind=2\/x.kind=3\/x.kind=4
 line:0<=x.line/\x.line<=1099511627776
 space:0<=x.space/\x.space<=1099511627776
 words:∀w∈x.words,1<=w/\w<=1099511627776
 w:0<=x.w/\x.w<=1099511627776
 h:0<=x.h/\x.h<=1099511627776
 side:0<=x.side/\x.side<=2
 text:x.kind=2->0<x.words.length/\1<=x.line
 box:x.kind=3\/x.kind=4->1<=x.w/\1<=x.h
 fl:x.kind=4->1<=x.side
 fe:x.kind≠1->x.st=Rn.zero
 Xy:x.kind≠2->x.words=[]
def ou{n a b:Int}:bo n a b=true↔a<=n/\n<=b:=by simp[bo]
def Fq:SOk Rn.zero:=by constructor<;>simp[Rn.zero]
def Lx{s:Rn}(h:s.ok=true):SOk s:=by
 simp only[Rn.ok,Ba,ou,mx]at h;constructor<;>omega
def LY{x:Nd}(h:x.ok=true):Xx x:=by
 unfold Nd.ok at h;split at h
 .rename_i hk;simp only[Ba,SX]at h;obtain⟨⟨⟨⟨⟨⟨h1,h2⟩,h3⟩,h4⟩,h5⟩,h6⟩,h7⟩:=h;have hw:x.words=[]:=rO h4;exact⟨Lx h1,.inl hk,by omega,by omega,by rw[hw];simp,by omega,by omega,by omega,by omega,by omega,by omega,by omega,λ_=>hw⟩
 .rename_i hk;split at h
  .cases h
  .rename_i P8;have hs:x.st=Rn.zero:=Classical.byContradiction P8;have Zi:SOk x.st:=by rw[hs];exact Fq
   split at h
   .rename_i SN;simp only[Ba,SX,ou,mx,eQ]at h;obtain⟨⟨⟨⟨⟨⟨h1,h2⟩,h3⟩,h4⟩,h5⟩,h6⟩,h7⟩:=h;exact⟨Zi,.inr (.inl SN),by omega,by omega,h1,by omega,by omega,by omega,λ_=>⟨h2,h3.1⟩,by omega,by omega,λ_=>hs,by omega⟩
   .rename_i SN;simp only[Ba,ki,SX,ou,mx]at h;obtain⟨⟨⟨⟨⟨h1,h2⟩,h3⟩,h4⟩,h5⟩,h6⟩:=h;have hw:x.words=[]:=rO h3;exact⟨Zi,by omega,by omega,by omega,by rw[hw];simp,by omega,by omega,by omega,by omega,by omega,by omega,λ_=>hs,λ_=>hw⟩
def gi{l:List Nd}(hb:Qs l=true){a:Nat}(h:a<l.length):Xx l[a]:=by
 simp only[Qs,Ba,eQ]at hb;exact LY (hb.1 _ (QF h))
open Go.Proofs
structure Rm where
 (x w:Int)
deriving DecidableEq
def kg(r:Rm):V:=.agg [vI r.x,vI r.w]
def cE(l:List Rm):V:=.sl 2 (l.map kg)
def FK(l:List Nd)(a:Nat):Int:=((l[a]?).map λn=>n.st.QC).getD 0
def oP(r:Rm)(i:Int):Rm:=⟨min (r.x+i) 1099511627776,max (r.w-2*i) 1⟩
def cY(l:List Nd):Nat->Nat->Nat->Rm->List Rm
 |0,_,_,_=>[]
 |k+1,a,e,r=>if a<e then r::(cY l k (a+1) (a+(Qg l a).toNat) (oP r (FK l a))++cY l k (a+(Qg l a).toNat) e r)else[]
def lI{l:List Nd}{e:Nat}(he:e<=l.length):∀(k a:Nat) (r:Rm),e-a<=k->a<=e->cj l a e=true->(cY l k a e r).length=e-a
 |0,a,r,hk,ha,_=>by simp[cY];omega
 |k+1,a,r,hk,ha,hr=>by
  rw[cY];split
  .rename_i C';obtain⟨h1,h2⟩:=de he hr (Qh a) C';obtain⟨h3,h4⟩:=dW he hr C';have ih:=lI he k (a+(Qg l a).toNat) r (by omega) (by omega) h3;have ih2:=lI (e:=a+(Qg l a).toNat) (by omega) k (a+1) (oP r (FK l a)) (by omega) (by omega) h4;simp only[Rc,fB];omega
  .simp;omega
def j6{l:List Nd}{e:Nat}(he:e<=l.length):∀(k j a:Nat) (r:Rm),e-a<=k->e-a<=j->cj l a e=true->cY l k a e r=cY l j a e r
 |0,0,_,_,_,_,_=>rfl
 |0,j+1,a,r,h,_,_=>by rw[cY,cY,aF (by omega)]
 |k+1,0,a,r,_,h,_=>by rw[cY,cY,aF (by omega)]
 |k+1,j+1,a,r,h,h',hr=>by
  rw[cY,cY];split
  .rename_i C';obtain⟨h1,h2⟩:=de he hr (Qh a) C';obtain⟨h3,h4⟩:=dW he hr C';rw[j6 he k j _ _ (by omega) (by omega) h3,j6 (e:=a+(Qg l a).toNat) (by omega) k j _ _ (by omega) (by omega) h4]
  .rfl
def dJ{U:ag}{l:List Nd}{a:Nat}(h:a<l.length):bL U 20 (aM l) (.int .i64 a)=some (.rp (.agg (Nd.cells l[a]))):=by
 simp[aM,bL,h,iE]
def nV(U:ag)(a b c:Nat):ag:=λi=>if i=a\/i=b\/i=c then some ⟨0,0,[]⟩else U i
def fO{U:ag}{a b c i:Nat}:nV U a b c i=none↔i≠a/\i≠b/\i≠c/\U i=none:=by
 unfold nV;split
 .rename_i h;simp;intro h1 h2 h3;simp_all
 .rename_i h;simp only[not_or]at h;simp[h]
structure RmJ(l:List Nd)(Z0:ag)(il io ip:Nat)(rows:List V)(U:ag):Prop where
 rl:U il=some ⟨22,1,[aM l]⟩
 rp:U ip=some ⟨129,1,[.fn 46 [.ptr il 0 0,.ptr io 0 0,.ptr ip 0 0]]⟩
 sub:aa Z0 U
 no:Z0 io=none
 out:∃v,U io=some ⟨76,1,[v]⟩/\aN (nV Z0 il io ip) U 131 2 v rows
def y7(r:Rm):(kg r).cells=[vI r.x,vI r.w]:=rfl
def zU(r:Rm):(kg r).stays=true:=rfl
def Rm.ok(r:Rm):Prop:=0<=r.x/\r.x<=1099511627776/\1<=r.w/\r.w<=1099511627776
def wK{r:Rm}(h:r.ok){i:Int}(h0:0<=i):(oP r i).ok:=by
 obtain⟨a,b,c,d⟩:=h;unfold oP Rm.ok;simp only;omega
def GS{l:List Nd}(hb:Qs l=true){a:Nat}(h:a<l.length):FK l a=l[a].st.QC/\0<=l[a].st.QC/\l[a].st.QC<=1099511627776:=by
 refine⟨by simp[FK,h],?_⟩;exact(gi hb h).st.QC
def E6(l:List Nd)(hl:eY l)(hb:Qs l=true)(il io ip:Nat)(nlo:il≠io)(nlp:il≠ip)(nop:io≠ip):∀(m a e:Nat) (r:Rm) (rows:List V) (Z0 U:ag),e-a<m->a<=e->e<=l.length->cj l a e=true->r.ok->
 rows.length+(e-a)<=l.length->RmJ l Z0 il io ip rows U->
 aC prog 46 [vI a,vI e,kg r,.ptr il 0 0,.ptr io 0 0,.ptr ip 0 0] U λq Z'=>q=.PI []/\RmJ l Z0 il io ip (rows++(cY l (e-a) a e r).map kg) Z':=by
 intro m
 induction m with
 |zero=>intro a e r rows Z0 U h;omega
 |succ m ih=>?_
 intro a e r rows ZB U hm Vm he hrB hr hlen hJB;have ZP:=hl.1;refine e46.r (by simp[c46]) ?_;refine ad.mix 11 ?_;apply sR;simp only[go_sem,seval,c46,y7,zU];refine ae λi8 Z8 s8 a8 f8=>?_;simp only[go_sem,seval];have no8:io≠i8:=by obtain⟨v,vo,_⟩:=hJB.out;exact ao vo f8
 have fB8:ZB i8=none:=hJB.sub.none f8;obtain⟨Z0,Zj⟩:∃s,s=u' ZB i8 ⟨131,2,[kg r]⟩:=⟨_,rfl⟩
 have hk8:∀i,nV Z0 il io ip i=none↔i≠i8/\nV ZB il io ip i=none:=λi=>by
  rw[fO,fO,Zj];by_cases h:i=i8
  .subst h;simp[af]
  .rw[ab h];simp[h]
 have Rf:RmJ l Z0 il io ip rows Z8:=by
  refine⟨s8 _ _ hJB.rl,s8 _ _ hJB.rp,?_,by rw[Zj,ab no8];exact hJB.no,?_⟩
  .intro i o h;rw[Zj]at h;by_cases hi:i=i8
   .subst hi;rw[af]at h;rw[a8];exact h
   .rw[ab hi]at h;exact s8 _ _ (hJB.sub _ _ h)
  .obtain⟨v,vo,QH⟩:=hJB.out;refine⟨v,s8 _ _ vo,?_⟩;rcases QH with h|⟨id,h1,h2,h3⟩
   .exact .inl h
   .exact .inr ⟨id,h1,s8 _ _ h2,(hk8 id).2 ⟨ao h2 f8,h3⟩⟩
 have hback:∀(rows:List V) (J:ag),RmJ l Z0 il io ip rows J->RmJ l ZB il io ip rows J:=λrows J h=>by
  refine⟨h.rl,h.rp,λi o hi=>h.sub _ _ (by rw[Zj,ab (λe=>by rw[e,fB8]at hi;cases hi)];exact hi),by have:=h.no;rw[Zj,ab no8]at this;exact this,?_⟩;obtain⟨v,vo,QH⟩:=h.out;refine⟨v,vo,?_⟩;rcases QH with h|⟨id,h1,h2,h3⟩
  .exact .inl h
  .exact .inr ⟨id,h1,h2,((hk8 id).1 h3).2⟩
 have h08:Z0 i8=some ⟨131,2,[kg r]⟩:=by rw[Zj];exact af
 clear Zj;refine ad.loop (λq st=>∃(b:Nat) (done:List V),q=e-b/\a<=b/\b<=e/\cj l b e=true/\done.length+(e-b)<=l.length/\rows++(cY l (e-a) a e r).map kg=done++(cY l (e-b) b e r).map kg/\RmJ l Z0 il io ip done st.U/\
  st.s 1=vI e/\st.s 3=.ptr il 0 0/\st.s 4=.ptr io 0 0/\st.s 5=.ptr ip 0 0/\st.s 8=.ptr i8 0 0/\st.s 9=vI b) (e-a) ?_ ?_
 .exact⟨a,rows,rfl,Qh _,Vm,hrB,hlen,rfl,Rf,rfl,rfl,rfl,rfl,rfl,rfl⟩
 .rintro q ⟨S,J⟩ ⟨b,done,rfl,UY,Xr,hbB,hdl,WJ,hJ,t1,t3,t4,t5,t8,t9⟩;simp only at hJ t1 t3 t4 t5 t8 t9;refine ad.mix 11 ?_;by_cases C':b<e
  .have q1:((b:Int)<(e:Int))=True:=PK;obtain⟨h1,h2⟩:=de he hbB (Qh b) C';obtain⟨h3,h4⟩:=dW he hbB C';have Q0:b<l.length:=by omega
   obtain⟨g1,g2,g3⟩:=GS hb Q0;have RM:=lz Q0;obtain⟨v,vo,QH⟩:=hJ.out;have TF:v.cells=[v]:=by rcases QH with⟨rfl,_⟩|⟨_,rfl,_⟩<;>rfl
   have r8:=hJ.sub _ _ h08;have r8':=r8;rw[kg]at r8';apply sR;simp only[go_sem,seval,q1,t1,t3,t4,t5,t8,t9,r8',vo,TF];refine ae λi24 Z24 Wf a24 f24=>?_;obtain⟨PU,QV,Uh⟩:=QH.C6 Wf;have Qp:(done.length+1)*17<=140737488355328:=by omega
   simp only[go_sem,seval,t1,t3,t4,t5,t8,t9,QV,cW a24,Qp];rw[av];intro i25 f25;have f25:Z24 i25=none:=f25;have Ti:∀(i:Nat) (Zx:ag),nV Z0 il io ip i≠none->Vc.bF Zx PU i=Zx i:=λi Zx hk=>by
    cases PU with
    |none=>rfl
    |some a=>exact er (λe=>hk (by rw[e];exact(Uh a rfl).1))
   have kl:nV Z0 il io ip il≠none:=λh=>(fO.1 h).1 rfl;have ko:nV Z0 il io ip io≠none:=λh=>(fO.1 h).2.1 rfl;have kp:nV Z0 il io ip ip≠none:=λh=>(fO.1 h).2.2.1 rfl;have ol:=Wf _ _ hJ.rl;have oo:=Wf _ _ vo;have op:=Wf _ _ hJ.rp;have o8:=Wf _ _ r8;have nl:=ao ol f25;have no:=ao oo f25;have np:=ao op f25;have n8:=ao o8 f25;have k8:nV Z0 il io ip i8≠none:=λh=>((hk8 i8).1 h).1 rfl;have Zk:aa Z0 (u' (Vc.bF Z24 PU) i25 ⟨131,2,done++[.agg [vI r.x,vI r.w]]⟩):=λi o h=>by
    have h1:=Wf _ _ (hJ.sub _ _ h);rw[ab (ao h1 f25),Ti _ _ (λhk=>by rw[(fO.1 hk).2.2.2]at h;cases h)];exact h1
   have pl:(u' (Vc.bF Z24 PU) i25 ⟨131,2,done++[.agg [vI r.x,vI r.w]]⟩) il=some ⟨22,1,[aM l]⟩:=by rw[ab nl,Ti _ _ kl];exact ol
   have po:(u' (Vc.bF Z24 PU) i25 ⟨131,2,done++[.agg [vI r.x,vI r.w]]⟩) io=some ⟨76,1,[v]⟩:=by rw[ab no,Ti _ _ ko];exact oo
   have pp:(u' (Vc.bF Z24 PU) i25 ⟨131,2,done++[.agg [vI r.x,vI r.w]]⟩) ip=some ⟨129,1,[.fn 46 [.ptr il 0 0,.ptr io 0 0,.ptr ip 0 0]]⟩:=by rw[ab np,Ti _ _ kp];exact op
   have p25:(u' (Vc.bF Z24 PU) i25 ⟨131,2,done++[.agg [vI r.x,vI r.w]]⟩) i25=some ⟨131,2,done++[.agg [vI r.x,vI r.w]]⟩:=af;have f0:Z0 i25=none:=(hJ.sub.trans Wf).none f25;have E':=λU=>dJ (U:=U) Q0;have q2:((b:Int)+1)=((b+1:Nat):Int):=by omega
   have q3:((b:Int)+l[b].size)=((b+(Qg l b).toNat:Nat):Int):=by rw[RM];omega
   obtain⟨rx0,rx1,rw0,rw1⟩:=id hr;have r1:PM .i64 ((b:Int)+1):=ak;have r2:PM .i64 ((b:Int)+l[b].size):=ak;have r3:PM .i64 (r.x+l[b].st.QC):=ak;have r4:PM .i64 (2*l[b].st.QC):=ak;have r5:PM .i64 (r.w-2*l[b].st.QC):=ak;generalize u' (Vc.bF Z24 PU) i25 ⟨131,2,done++[.agg [vI r.x,vI r.w]]⟩=Z25 at*;have p8:=Zk _ _ h08;rw[kg]at p8;simp only[go_sem,seval,t1,t3,t4,t5,t8,t9,pl,po,pp,p8,TF,ai,aK,ab no8.symm,ab nlo,ab nlp.symm,ab nop.symm,ab nop,E',Nd.cells,r1,r2,r3,r4,r5,dd,eW];have Rz:RmJ l Z0 il io ip (done++[.agg [vI r.x,vI r.w]]) (u' Z25 io ⟨76,1,[.own i25 0 (done.length+1)]⟩):=by
    refine⟨by rw[ab nlo];exact pl,by rw[ab nop.symm];exact pp,Zk.az hJ.no,hJ.no,_,af,aN.new (by simp) (by rw[ab no.symm];exact p25) (fO.2 ⟨nl.symm,no.symm,np.symm,f0⟩)⟩
   have hc:=ih (b+1) (b+(Qg l b).toNat) (oP r l[b].st.QC) (done++[.agg [vI r.x,vI r.w]]) Z0 _ (by omega) (by omega) (by omega) h4 (wK hr g2) (by simp only[fB,Rc,List.length_nil];omega) Rz;rw[<-q2,<-q3]at hc;refine ad.call rfl rfl rfl hc ?_;rintro q' Z' ⟨rfl,RX⟩;have cl:=RX.rl;apply sR;simp only[go_sem,seval,t1,t3,t4,t5,t8,t9,cl,ai,aK,E',Nd.cells,r2];have hk:cY l (e-b) b e r=r::(cY l (b+(Qg l b).toNat-(b+1)) (b+1) (b+(Qg l b).toNat) (oP r (FK l b))++cY l (e-(b+(Qg l b).toNat)) (b+(Qg l b).toNat) e r):=by
    rw[show e-b=(e-b-1)+1 by omega,cY,aE C',j6 (by omega) (e-b-1) _ _ _ (by omega) (Qh _) h4,j6 he (e-b-1) _ _ _ (by omega) (Qh _) h3]
   have UE:=lI (l:=l) (e:=b+(Qg l b).toNat) (by omega) (b+(Qg l b).toNat-(b+1)) (b+1) (oP r l[b].st.QC) (Qh _) (by omega) h4;refine⟨e-(b+(Qg l b).toNat),by omega,b+(Qg l b).toNat,_,rfl,by omega,by omega,h3,?_,?_,RX,by simp[t1,t3,t4,t5,t8,q3]⟩
   .simp only[fB,Rc,List.length_nil,cL,UE];omega
   .rw[WJ,hk,g1];simp only[dO,eo,gw,List.cons_append,jU];rfl
  .have q1:((b:Int)<(e:Int))=False:=PG;apply sR;simp only[go_sem,seval,q1,t1,t3,t4,t5,t8,t9];refine⟨_,_,aa.refl _,Wk.refl (aa.refl _) _,rfl,?_⟩;have hz:cY l (e-b) b e r=[]:=by rw[show e-b=0 by omega];rfl
   rw[WJ,hz];exact hback _ _ (by simpa using hJ)
def I2(l:List Nd)(hl:eY l)(hb:Qs l=true)(w:Int)(h1:1<=w)(h2:w<=1099511627776):aP prog 19 [aM l,vI w] (cE (cY l l.length 0 l.length ⟨0,w⟩)):=λU=>by
 refine e19.r (by simp[c19]) ?_;have hs:=aa.refl U;refine ad.mix 8 ?_;apply sR;simp only[go_sem,seval,c19,ai,aK];refine ae λi2 Z2 s2 a2 f2=>?_;have z2:=hs.none f2;replace hs:=hs.trans s2;simp only[go_sem,seval,a2,ai,aK];refine ad.ay rfl rfl rfl (B3 l hl hb _) ?_;apply sR;simp only[go_sem,seval,a2,ai,aK];refine ae λi5 Z5 s5 a5 f5=>?_;have VF:=ao a2 f5;replace a2:=s5 _ _ a2;have z5:=hs.none f5;replace hs:=hs.trans s5;have q1:(w<1)=False:=PG;have q2:(w>1099511627776)=False:=PG;simp only[go_sem,seval,a5,a2,ai,aK,q1,q2,ab VF,ab VF];generalize TZ:u' Z5 i5 _=Y5;have b5:Y5 i5=some ⟨127,1,[.agg [aM l]]⟩:=by rw[<-TZ];exact af
 have b2:Y5 i2=some ⟨22,1,[aM l]⟩:=by rw[<-TZ,ab VF];exact a2
 have Un:aa U Y5:=by rw[<-TZ];exact hs.az z5
 have Tl:aa Y5 Y5:=aa.refl _;clear TZ;refine ae λi6 Z6 s6 a6 f6=>?_;have c5:=s6 _ _ b5;have c2:=s6 _ _ b2;have z6:U i6=none:=Un.none f6;simp only[go_sem,seval];refine ae λi7 Z7 s7 a7 f7=>?_;have d5:=s7 _ _ c5;have d2:=s7 _ _ c2;have d6:=s7 _ _ a6;have z7:U i7=none:=(Un.trans s6).none f7;have n57:=ao c5 f7;have n27:=ao c2 f7;have UF:=ao a6 f7;have n26:=ao b2 f6;have hn:=eU l;have VS:V.Rh.cells=[.Rh]:=rfl;simp only[go_sem,seval,a7,VS,d5,d2,d6,ab n57,ab n27,ab UF,hn,ai,aK];have hJ:RmJ l U i2 i6 i7 [] (u' Z7 i7 ⟨129,1,[.fn 46 [.ptr i2 0 0,.ptr i6 0 0,.ptr i7 0 0]]⟩):=
  ⟨by rw[ab n27];exact d2,af,(((Un.trans s6).trans s7)).az z7,z6,.aL,by rw[ab UF];exact d6,aN.start⟩
 have hc:=E6 l hl hb i2 i6 i7 n26 n27 UF (l.length+1) 0 l.length ⟨0,w⟩ [] U _ (by omega) (by omega) (by omega) (by simp only[Qs,Ba]at hb;exact hb.2) ⟨by simp,by simp,h1,h2⟩ (by simp) hJ;refine ad.call rfl rfl rfl hc ?_;rintro q Z' ⟨rfl,RX⟩;obtain⟨v,vo,QH⟩:=RX.out;have TF:v.cells=[v]:=by rcases QH with⟨rfl,_⟩|⟨_,rfl,_⟩<;>rfl
 apply sR;simp only[go_sem,seval,vo,TF];have ho:aN U Z' 131 2 v ((cY l l.length 0 l.length ⟨0,w⟩).map kg):=by
  rcases QH with⟨h,h'⟩|⟨id,h1,h2,h3⟩
  .exact .inl ⟨h,by simpa using h'⟩
  .exact .inr ⟨id,by simpa using h1,by simpa using h2,(fO.1 h3).2.2.2⟩
 exact ho.zn RX.sub rfl
section
variable {P:Program} {n:Nat}
def ad.MC{st:St}{Q:St->Prop}{k:List It}{i:aG}{l:List aG}{xa:VX}(hw:bl st.s i.g=some true)(ho:i.op=.RL false xa (.c (.iface 0 .undef))){b:Bool}
 (hx:(xa.ev st.s=.aL/\b=true)\/(∃sz r rows,xa.ev st.s=.sl sz (r::rows)/\b=false)\/∃id off m,xa.ev st.s=.own id off (m+1)/\b=false)
 (h:ad P n (.ops l::k) ⟨aW st.s i.dst (.bool b),st.U⟩ Q):ad P n (.ops (i::l)::k) st Q:=by
 refine ad.ins (by rw[ho];simp) hw λF hn I a w o all hi hs next Q' M'=>?_
 subst hn;obtain⟨PL,hd⟩:=cC hi;rw[ho]at PL;obtain⟨t,x,y,m,c,yt,e,g1,rfl,g2,rfl⟩:=Ae PL;have R:=bK hs x;have hX:∃ba len cap,a.eval x=.slice ba len cap/\ba.isNone=b:=by
  rcases hx with⟨hx,rfl⟩|⟨sz,r,rows,hx,rfl⟩|⟨id,off,m,hx,rfl⟩
  .rw[hx]at R;simp only[A']at R;exact⟨none,0,0,R,rfl⟩
  .rw[hx]at R;simp only[A']at R;obtain⟨ba,cap,hX,_,hr⟩:=R;rcases hr with hr|⟨b,off,rfl,_⟩
   .cases hr
   .exact⟨_,_,_,hX,rfl⟩
  .rw[hx]at R;simp only[A']at R;split at R
   .exact R.elim
   .exact absurd R.2.2 (by omega)
   .obtain⟨o,c,hX,_⟩:=R;exact⟨_,_,_,hX,rfl⟩
 obtain⟨ba,len,cap,hX,rfl⟩:=hX;have PY:(execOp a.eval o).run P w=.ok (.value (.bool ba.isNone)) w:=by
  unfold execOp;rw[g1];have hY:a.eval (.const (.slice none m c))=.slice none m c:=rfl;simp[hX,hY,eqGuard,Lib.run_eql_slice_nil w t e ba len cap m c g2]
 unfold Oper.wp;rw[PY];refine M' _ _ _ ⟨I,?_⟩ h;rw[<-hd];exact hs.pure (by simp[A'])
end
open Go.Proofs
def vk(U:ag)(v v':V):Prop:=∀J,aa U J->Wk J fe v v'
def vk.mono{U J:ag}{v v':V}(h:vk U v v')(hs:aa U J):vk J v v':=λX' h'=>h X' (hs.trans h')
def vk.at{U:ag}{v v':V}(h:vk U v v'):Wk U fe v v':=h U (aa.refl _)
def aN.Hm{K U:ag}{e sz:Nat}{v:V}{rows:List V}(h:aN K U e sz v rows):vk U v (.sl sz rows):=λJ hs=>(h.mono hs).wk (cV _) (cV _)
def TT{J:ag}(v:V):Wk J fe v v:=Wk.refl (cV _) _
def Hi(vf:V){U:ag}(fs:List O')(hvf:vk U vf (aJ fs))(ws:List Int)(space high:Int)(y:Int)(s:QL)(hl:fs.length<=1000000)(P4:∀f∈fs,f.ok)(B:Int)(hB:∀f∈fs,f.y+f.h<=B)(hB1:B<=1152921504606846976)(Yn:0<=y)(hy:y<=B)(hh:0<=high)(hh1:high<=1099511627776)
 (R6:Ry s.a/\Ry s.b)(hw:WOk ws space):aC prog 81 [vf,encI ws,vI space,vI high,vI y,bc s] U λr Z'=>aa U Z'/\aN U Z' 183 5 r ((dz fs ws space high s ws.length 0 y).map mv):=by
 refine e81.r (by simp[c81]) ?_;have hs:=aa.refl U;have hn:=eO ws;have UE:=hw.len;refine ad.mix 16 ?_;apply sR;simp only[go_sem,seval,c81,bc];refine ae λi11 Xq TK Qt f11=>?_;have Wv:=hs.none f11;replace hs:=hs.trans TK;simp only[go_sem,seval,Qt];generalize hG:dz fs ws space high s ws.length 0 y=G;refine ad.loop (λm st=>∃(i k:Nat) (y':Int) (acc:List Ln),m=ws.length-i/\i<=ws.length/\ws.length-i<=k/\acc.length<=i/\G=acc++dz fs ws space high s k i y'/\0<=y'/\y'<=B+1099511627776*i/\aa U st.U/\aN U st.U 183 5 (st.s 13) (acc.map mv)/\
  st.U i11=some ⟨180,2,[.agg [vI s.a,vI s.b]]⟩/\st.s 0=vf/\st.s 1=encI ws/\st.s 2=vI space/\st.s 3=vI high/\st.s 4=vI y'/\st.s 11=.ptr i11 0 0/\st.s 14=vI i) ws.length ?_ ?_
 .exact⟨0,ws.length,y,[],rfl,by omega,by omega,by simp,hG.symm,Yn,by omega,hs,aN.start,Qt,rfl,rfl,rfl,rfl,rfl,rfl,rfl⟩
 .rintro m ⟨S,J⟩ ⟨i,k,y',acc,rfl,hi,hk,R8,hg,hy1,hy2,B',QH,b11,t0,t1,t2,t3,t4,t11,t14⟩;simp only at B' QH b11 t0 t1 t2 t3 t4 t11 t14;generalize Wg:S 13=TU at QH;refine ad.mix 16 ?_;by_cases C':i<ws.length
  .have q:((i:Int)<ws.length)=True:=PK;obtain⟨k,rfl⟩:∃k',k=k'+1:=⟨k-1,by omega⟩
   rw[dz,aE C']at hg;have Vj:=yZ (space:=space) (width:=jC (dQ fs (lk fs (ws.getD i 0) high s y') high s)) C';have hyr:=fV (w:=ws.getD i 0) (high:=high) (y:=y') (s:=s) hB;have hx:=Ij fs ws space high i y' s hl P4 ⟨by omega,by omega⟩ ⟨by omega,by omega⟩ R6 hw C';obtain⟨x,Yk⟩:∃x,x=nR fs ws space high i y' s:=⟨_,rfl⟩
   have x1:∃j:Nat,x.to=j/\i<j/\j<=ws.length:=by rw[Yk];exact⟨_,rfl,Vj⟩
   have x2:y'<=x.y/\x.y<=max y' B:=by rw[Yk];exact hyr
   rw[<-Yk]at hg hx;clear Yk Vj hyr;obtain⟨j,hj,hij,Tr⟩:=x1;rw[hj,eL]at hg;apply sR;simp only[go_sem,seval,t0,t1,t2,t3,t4,t11,t14,b11,hn,q];refine ad.ay rfl rfl rfl (aP.zT (args':=[aJ fs,encI ws,vI space,vI high,vI i,vI y',bc s]) ⟨(hvf.mono B').at,TT _,TT _,TT _,TT _,TT _,TT _,trivial⟩ hx rfl) ?_;have hc:=AV x;have P8:=zx x;have QT:(mv x).cells.length=5:=rfl;have XZ:V.agg [vI x.fr,vI x.to,vI x.x,vI x.y,vI x.w]=mv x:=rfl;apply sR;simp only[go_sem,seval,t0,t1,t2,t3,t4,t11,t14,Wg,hc,P8];refine ae λi15 Y15 s15 VB f15=>?_;simp only[go_sem,seval,VB,t0,t1,t2,t3,t4,t11,t14,Wg,hc,QT,P8,XZ];generalize Sw:u' Y15 i15 _=Z15;have b15:Z15 i15=some ⟨183,5,[.agg [vI x.fr,vI x.to,vI x.x,vI x.y,vI x.w]]⟩:=by rw[<-Sw];exact af
   have s15':aa J Z15:=by rw[<-Sw];exact s15.az f15
   clear Sw;refine ae λi30 Z30 s30 a30 f30=>?_;obtain⟨PU,QV,Qx,VC,We⟩:=QH.BC (s15'.trans s30);have Qp:(acc.length+1)*41<=140737488355328:=by omega
   have UN:(acc.map mv).length=acc.length:=by simp
   simp only[go_sem,seval,t0,t1,t2,t3,t4,t11,t14,Wg,QV,cW a30,UN,Qp];refine dI λi31 Z31 s31 a31 f31=>?_;have k31:=(Qx U (aa.refl _) Z30 (B'.trans (s15'.trans s30))).trans s31;have n31:U i31=none:=(B'.trans (s15'.trans s30)).none f31;have c15:Z31 i15=some ⟨183,5,[.agg [vI x.fr,vI x.to,vI x.x,vI x.y,vI x.w]]⟩:=s31 _ _ (by rw[We i15 f15];exact s30 _ _ b15);have c11:Z31 i11=some ⟨180,2,[.agg [vI s.a,vI s.b]]⟩:=s31 _ _ (by rw[VC i11 _ b11 (.inr (by simp))];exact s30 _ _ (s15' _ _ b11));have r1:PM .i64 (x.y+high):=ak;simp only[go_sem,seval,t0,t1,t2,t3,t4,t11,t14,c15,hj,r1];refine⟨_,?_,j,k,x.y+high,acc++[x],rfl,Tr,by omega,by simp;omega,by rw[hg];simp,by omega,by omega,k31,?_,c11,by simp[t0,t1,t2,t3,t11]⟩
   .omega
   .rw[eo];exact aN.new (by simp) a31 n31
  .have q:((i:Int)<ws.length)=False:=PG;apply sR;simp only[go_sem,seval,t0,t1,t2,t3,t4,t11,t14,Wg,b11,hn,q];have:dz fs ws space high s k i y'=[]:=by
    cases k with
    |zero=>rfl
    |succ k=>rw[dz,aF C']
   rw[this,kj]at hg;refine⟨_,_,aa.refl _,Wk.refl (aa.refl _) _,B',?_⟩;rw[hg];exact QH
def A4{P:Program}{f:FuncId}{fn:Func}(hf:P.funcs[f]?=some fn){e sz b:Nat}(hc:cfn P fn=some (mr e sz b))(hk:eJ P f=true){K U:ag}{v:V}{rows:List V}(hv:aN K U e sz v rows)(PZ:rows=[]->v=.aL)(hb:rows.length*(b+1)<=140737488355328):
 aC P f [v] U λr Z'=>aa U Z'/\aN U Z' e sz r rows:=by
 refine aC.pA hf hc hk (by simp[mr]) ?_;refine ad.mix 3 ?_;rcases hv with⟨rfl,rfl⟩|⟨id,rfl,ho,_⟩
 ·(refine ad.aY Qw.nothing 8 ?_;simp only[go_sem,seval,cg,mr])
  refine ad.MC rfl rfl (b:=true) (.inl ⟨rfl,rfl⟩) ?_;apply sR;simp only[go_sem,seval];exact⟨_,_,aa.refl _,Wk.refl (aa.refl _) _,aa.refl _,aN.start⟩
 .obtain⟨m,hm⟩:∃m,rows.length=m+1:=by
   cases rows with
   |nil=>exact absurd (PZ rfl) (by simp)
   |cons r rs=>exact⟨rs.length,by simp⟩
  (refine ad.aY Qw.nothing 8 ?_;simp only[go_sem,seval,cg,mr])
  refine ad.MC rfl rfl (b:=false) (.inr (.inr ⟨id,0,m,by rw[hm];rfl,rfl⟩)) ?_;apply sR;simp only[go_sem,seval];refine ae λSn Z1 s1 a1 f1=>?_;obtain⟨PU,hd,Qx⟩:=(aN.new (K:=U) (e:=e) (sz:=sz) (n:=0) (rows:=[]) rfl a1 f1).dst (aa.refl _);have WI:cA Z1 sz (.own id 0 rows.length)=some rows:=by simp[cA,s1 _ _ ho]
  simp only[go_sem,seval,hd,WI,hb];refine dI λRs Z2 s2 a2 f2=>?_;have Tl:=(Qx U (aa.refl _) Z1 s1).trans s2;simp only[go_sem,seval];exact⟨_,_,aa.refl _,Wk.refl (aa.refl _) _,Tl,aN.new (by simp) a2 (s1.none f2)⟩
def Ht(vf:V){K U:ag}(fs:List O')(hvf:aN K U 123 7 vf (fs.map aS))(PZ:fs=[]->vf=.aL)(f:O')(y:Int)(s:QL)(hl:fs.length<=1000000)(P4:∀f∈fs,f.ok)(hy:Ry y)(hh:Bq f.h)(hw:Bq f.w)(R6:Ry s.a/\Ry s.b):
 aC prog 85 [vf,aS f,vI y,bc s] U λr Z'=>aa U Z'/\aN U Z' 123 7 r ((sN fs f y s).map aS):=by
 refine e85.r (by simp[c85]) ?_;have hs:=aa.refl U;refine ad.mix 14 ?_;apply sR;simp only[go_sem,seval,c85,aS,bc];refine ae λi5 Z5 s5 a5 f5=>?_;have z5:=hs.none f5;replace hs:=hs.trans s5;simp only[go_sem,seval,a5];refine ae λi7 Z7 s7 a7 f7=>?_;have n57:=ao a5 f7;replace a5:=s7 _ _ a5;have z7:=hs.none f7;replace hs:=hs.trans s7;simp only[go_sem,seval,a7,a5];refine ad.ay rfl rfl rfl (aP.zT (args':=[aJ fs,aS f,vI y,bc s]) ⟨((hvf.mono hs).Hm).at,TT _,TT _,TT _,trivial⟩ (LS fs f y s hl P4 hy hh hw R6) rfl) ?_;apply sR;simp only[go_sem,seval,a7,a5,ab n57,ab n57.symm,cd];generalize TZ:u' Z7 i5 _=Y5;have b5:Y5 i5=some ⟨123,7,[aS (jL fs f y s)]⟩:=by rw[<-TZ];exact af
 have Un:aa U Y5:=by rw[<-TZ];exact hs.az z5
 clear TZ;have Uc:aS (jL fs f y s)=.agg [vI f.node,vI f.side,vI f.anchor,vI (o9 fs f y s),vI (kR fs f y s),vI f.w,vI f.h]:=rfl;rw[Uc]at b5;have UN:(fs.map aS).length=fs.length:=by simp
 have Qp:(fs.length+1)*57<=140737488355328:=by omega
 have UW:fs.map aS++[V.agg [vI f.node,vI f.side,vI f.anchor,vI (o9 fs f y s),vI (kR fs f y s),vI f.w,vI f.h]]=(sN fs f y s).map aS:=by simp[sN,<-Uc]
 have hne':fs.map aS=[]->vf=.aL:=λh=>PZ (by simpa using h);refine ad.Dp (by kernel_rfl) 8 (.fork [[],[0],[],[2],[1,3,0,2],[4,0,1,2,3]] [0,2] [1,3] [(.leaf [[],[0],[],[1,0,2],[1,0,3,2],[1,0,4,2,3]] [1,3,4,5]),(.leaf [[],[3,2,0],[],[2],[3,2,1,0],[3,2,4,0,1]] [3,1,4,5])]) (by kernel_rfl) ?_;refine GT.nU (its:=[0,4]) (by kernel_rfl) ?_;refine RE.QS (n:=0) [] [0,4] [⟨(.some 19),(.Qo (.t 0)),.none⟩,⟨(.some 21),(.load .true 7 (.t 5)),.none⟩] rfl rfl ?_;apply sG;simp only[go_sem,seval,b5];refine⟨?_,?_⟩
 .refine GT.ik (its:=[2,5,6,8,10]) (by kernel_rfl) ?_;refine RE.call rfl rfl rfl rfl rfl (A4 func44 (e44.b.trans rfl) e44.c (hvf.mono Un) hne' (by simp;omega)) ?_;rintro r Z3 ⟨s3,QH⟩;replace b5:=s3 _ _ b5;have hs3:=Un.trans s3;refine RE.Rl rfl rfl rfl rfl rfl trivial (by simp only[go_sem,seval,b5]) ?_;refine RE.QS (n:=0) [] [6,8,10] [⟨(.some 22),(.ed 123 7 [(.t 21)]),.none⟩,⟨(.some 23),(.append 123 7 56 (.t 20) (.t 22)),.none⟩,⟨(.some 8),(.Qo (.t 23)),.none⟩] rfl rfl ?_;apply sG;simp only[go_sem,seval,b5];refine bj λi9 Z9 s9 a9 f9=>?_;obtain⟨PU,QV,Qx⟩:=QH.dst s9;simp only[go_sem,seval,QV,cW a9,UN,Qp,UW];refine jx λi10 V7 Sj Qq f10=>?_;have VH:=(Qx U Un Z9 (hs3.trans s9)).trans Sj;have n10:U i10=none:=(hs3.trans s9).none f10;simp only[go_sem,seval];apply sR;simp only[go_sem,seval];exact⟨_,_,aa.refl _,Wk.refl (aa.refl _) _,VH,aN.new (by simp[sN]) Qq n10⟩
 .refine GT.ik (its:=[6,2,8,10]) (by kernel_rfl) ?_;refine RE.QS (n:=0) [2,8,10] [6] [⟨(.some 22),(.ed 123 7 [(.t 21)]),.none⟩] rfl rfl ?_;apply sG;simp only[go_sem,seval,b5];refine bj λi9 Z9 s9 a9 f9=>?_;simp only[go_sem,seval];refine RE.call rfl rfl rfl rfl rfl (A4 func44 (e44.b.trans rfl) e44.c (hvf.mono (Un.trans s9)) hne' (by simp;omega)) ?_;rintro r Z3 ⟨s3,QH⟩;have a9':=s3 _ _ a9;obtain⟨PU,QV,Qx⟩:=QH.dst (aa.refl _);refine RE.QS (n:=0) [] [8,10] [⟨(.some 23),(.append 123 7 56 (.t 20) (.t 22)),.none⟩,⟨(.some 8),(.Qo (.t 23)),.none⟩] rfl rfl ?_;apply sG;simp only[go_sem,seval,QV,cW a9',UN,Qp,UW];refine jx λi10 V7 Sj Qq f10=>?_;have VH:=(Qx U (Un.trans s9) Z3 ((Un.trans s9).trans s3)).trans Sj;have n10:U i10=none:=((Un.trans s9).trans s3).none f10;simp only[go_sem,seval];apply sR;simp only[go_sem,seval];exact⟨_,_,aa.refl _,Wk.refl (aa.refl _) _,VH,aN.new (by simp[sN]) Qq n10⟩
open Go.Proofs
structure Qy where
 (kind node fr to x y w h:Int)
deriving DecidableEq
def dx(a:Qy):V:=.agg [vI a.kind,vI a.node,vI a.fr,vI a.to,vI a.x,vI a.y,vI a.w,vI a.h]
def bC(l:List Qy):V:=.sl 8 (l.map dx)
structure WS where
 atoms:List Qy
 g':List O'
 PJ:Int
 PS:Pn
structure Sq(l:List Nd)(rs:List Rm)(Z0:ag)(iw:Nat)(s:WS)(U:ag):Prop where
 sub:aa Z0 U
 no:Z0 iw=none
 row:∃va vf,U iw=some ⟨81,7,[.agg [va,vf,vI s.PJ,vI s.PS.y,vI s.PS.m,aM l,cE rs]]⟩/\
  aN (bg Z0 iw) U 49 8 va (s.atoms.map dx)/\aN (bg Z0 iw) U 123 7 vf (s.g'.map aS)/\(s.g'=[]->vf=.aL)
def ar(l:List Rm):(cE l).cells=[cE l]:=rfl
def yn(l:List Rm):(cE l).stays=true:=rfl
def Hv{U:ag}{l:List Rm}{i:Nat}(h:i<l.length):bL U 2 (cE l) (.int .i64 i)=some (.rp (kg l[i])):=by simp[cE,bL,h]
def aN.vc{K U:ag}{e sz:Nat}{v:V}{rows:List V}(h:aN K U e sz v rows):v.cells=[v]/\v.stays=true:=by rcases h with⟨rfl,_⟩|⟨_,rfl,_⟩<;>exact⟨rfl,rfl⟩
def eB(rs:List Rm)(a:Nat):QL:=⟨(rs.getD a ⟨0,0⟩).x,(rs.getD a ⟨0,0⟩).x+(rs.getD a ⟨0,0⟩).w⟩
def yD{l:List Nd}{rs:List Rm}{Z0 U:ag}{iw:Nat}{s:WS}(hJ:Sq l rs Z0 iw s U)(a:Nat)(ha:a<rs.length)(hr:rs[a].ok):
 aC prog 82 [.ptr iw 0 0,vI a] U λr Z'=>r=bc (eB rs a)/\Z'=U:=by
 obtain⟨va,vf,w1,Wh,U',_⟩:=hJ.row;obtain⟨ca,sa⟩:=Wh.vc;obtain⟨cf,sf⟩:=U'.vc;obtain⟨r1,r2,r3,r4⟩:=hr;have Vk:rs.getD a ⟨0,0⟩=rs[a]:=by simp[ha]
 have E':=λU=>Hv (U:=U) ha;unfold eB;rw[Vk];generalize rs[a]=r at*;have XU:kg r=.agg [vI r.x,vI r.w]:=rfl;have rr:PM .i64 (r.x+r.w):=ak;refine e82.r (by simp[c82]) ?_;have hs:=aa.refl U;refine ad.mix 6 ?_;apply sR;simp only[go_sem,seval,c82];refine ae λi4 Z4 s4 a4 f4=>?_;have w4:=s4 _ _ w1;simp only[go_sem,seval,w4,E',XU,ca,cf,ar,ai];refine ae λi5 Z5 s5 a5 f5=>?_;have b4:=s5 _ _ a4;have R0:=ao a4 f5;simp only[go_sem,seval,a5,b4,ab R0,rr];exact au.pure (((s4.trans s5).az (s4.none f5)).az f4) rfl
def mi(a:Qy):(dx a).cells=[vI a.kind,vI a.node,vI a.fr,vI a.to,vI a.x,vI a.y,vI a.w,vI a.h]:=rfl
def qJ(a:Qy):(dx a).stays=true:=rfl
def WS.put(s:WS)(a:Qy):WS:={ s with atoms:=s.atoms++[a],PS:=⟨a.y+a.h,0⟩ }
def Ex{l:List Nd}{rs:List Rm}{Z0 U:ag}{iw:Nat}{s:WS}(hJ:Sq l rs Z0 iw s U)(a:Qy)(hy:Bq a.y)(hh:Bq a.h)(hn:s.atoms.length<=1000000):
 aC prog 83 [.ptr iw 0 0,dx a] U λr Z'=>r=.PI []/\Sq l rs Z0 iw (s.put a) Z':=by
 obtain⟨va,vf,w1,Wh,U',hf2⟩:=hJ.row;obtain⟨ca,sa⟩:=Wh.vc;obtain⟨cf,sf⟩:=U'.vc;refine e83.r (by simp[c83]) ?_;refine ad.mix 4 ?_;apply sR;simp only[go_sem,seval,c83,mi,qJ];refine ae λi3 Z3 s3 a3 f3=>?_;have w3:=s3 _ _ w1;simp only[go_sem,seval,w3,a3,ca,cf,ar,ai,mi,qJ];refine bj λi11 Xq TK Qt f11=>?_;obtain⟨PU,QV,Qx,VC,We⟩:=Wh.BC (s3.trans TK);have Qp:(s.atoms.length+1)*65<=140737488355328:=by omega
 have UN:(s.atoms.map dx).length=s.atoms.length:=by simp
 simp only[go_sem,seval,QV,cW Qt,UN,Qp];rw[ax];intro i12 f12;have f12:Xq i12=none:=f12;have w11:=TK _ _ w3;have nw:=ao w11 f12;have b3:=TK _ _ a3;have n3:=ao b3 f12;have nw3:=ao w1 f3;have hdw:=VC iw _ w1 (.inr (by simp));have hd3:=We i3 f3;have cw:(u' (Vc.bF Xq PU) i12 ⟨49,8,s.atoms.map dx++[.agg [vI a.kind,vI a.node,vI a.fr,vI a.to,vI a.x,vI a.y,vI a.w,vI a.h]]⟩) iw=some ⟨81,7,[.agg [va,vf,vI s.PJ,vI s.PS.y,vI s.PS.m,aM l,cE rs]]⟩:=by rw[ab nw,hdw];exact w11
 have c3:(u' (Vc.bF Xq PU) i12 ⟨49,8,s.atoms.map dx++[.agg [vI a.kind,vI a.node,vI a.fr,vI a.to,vI a.x,vI a.y,vI a.w,vI a.h]]⟩) i3=some ⟨49,8,[.agg [vI a.kind,vI a.node,vI a.fr,vI a.to,vI a.x,vI a.y,vI a.w,vI a.h]]⟩:=by rw[ab n3,hd3];exact b3
 have c12:(u' (Vc.bF Xq PU) i12 ⟨49,8,s.atoms.map dx++[.agg [vI a.kind,vI a.node,vI a.fr,vI a.to,vI a.x,vI a.y,vI a.w,vI a.h]]⟩) i12=some ⟨49,8,s.atoms.map dx++[.agg [vI a.kind,vI a.node,vI a.fr,vI a.to,vI a.x,vI a.y,vI a.w,vI a.h]]⟩:=af;have B':aa Z0 (u' (Vc.bF Xq PU) i12 ⟨49,8,s.atoms.map dx++[.agg [vI a.kind,vI a.node,vI a.fr,vI a.to,vI a.x,vI a.y,vI a.w,vI a.h]]⟩):=by
  have h1:=Qx Z0 (λi o h=>by rw[bg,aF (λe=>by rw[e,hJ.no]at h;cases h)];exact h) Xq ((hJ.sub.trans s3).trans TK);exact h1.az (((hJ.sub.trans s3).trans TK).none f12)
 have R9:bg Z0 iw i12=none:=aI.2 ⟨nw.symm,((hJ.sub.trans s3).trans TK).none f12⟩;have hf3:∀o,aN (bg Z0 iw) (u' (Vc.bF Xq PU) i12 o) 123 7 vf (s.g'.map aS):=λo=>by
  rcases U' with h|⟨id,h1,h2,h3⟩
  .exact .inl h
  .have h4:=TK _ _ (s3 _ _ h2);exact .inr ⟨id,h1,by rw[ab (ao h4 f12),VC id _ h2 (.inr (by simp))];exact h4,h3⟩
 replace hf3:=hf3 ⟨49,8,s.atoms.map dx++[.agg [vI a.kind,vI a.node,vI a.fr,vI a.to,vI a.x,vI a.y,vI a.w,vI a.h]]⟩;generalize u' (Vc.bF Xq PU) i12 ⟨49,8,s.atoms.map dx++[.agg [vI a.kind,vI a.node,vI a.fr,vI a.to,vI a.x,vI a.y,vI a.w,vI a.h]]⟩=J at*;simp only[go_sem,seval,cw,ca,cf,ar,ai,cd];have dw:(u' J iw ⟨81,7,[.agg [.own i12 0 (s.atoms.length+1),vf,vI s.PJ,vI s.PS.y,vI s.PS.m,aM l,cE rs]]⟩) iw=some ⟨81,7,[.agg [.own i12 0 (s.atoms.length+1),vf,vI s.PJ,vI s.PS.y,vI s.PS.m,aM l,cE rs]]⟩:=af;have d3:(u' J iw ⟨81,7,[.agg [.own i12 0 (s.atoms.length+1),vf,vI s.PJ,vI s.PS.y,vI s.PS.m,aM l,cE rs]]⟩) i3=some ⟨49,8,[.agg [vI a.kind,vI a.node,vI a.fr,vI a.to,vI a.x,vI a.y,vI a.w,vI a.h]]⟩:=by rw[ab nw3.symm];exact c3
 have d12:(u' J iw ⟨81,7,[.agg [.own i12 0 (s.atoms.length+1),vf,vI s.PJ,vI s.PS.y,vI s.PS.m,aM l,cE rs]]⟩) i12=some ⟨49,8,s.atoms.map dx++[.agg [vI a.kind,vI a.node,vI a.fr,vI a.to,vI a.x,vI a.y,vI a.w,vI a.h]]⟩:=by rw[ab nw.symm];exact c12
 replace B':=B'.az hJ.no (o:=⟨81,7,[.agg [.own i12 0 (s.atoms.length+1),vf,vI s.PJ,vI s.PS.y,vI s.PS.m,aM l,cE rs]]⟩);have hf4:aN (bg Z0 iw) (u' J iw ⟨81,7,[.agg [.own i12 0 (s.atoms.length+1),vf,vI s.PJ,vI s.PS.y,vI s.PS.m,aM l,cE rs]]⟩) 123 7 vf (s.g'.map aS):=by
  rcases hf3 with h|⟨id,h1,h2,h3⟩
  .exact .inl h
  .exact .inr ⟨id,h1,by rw[ab (aI.1 h3).1];exact h2,h3⟩
 clear hf3 cw c3 c12;generalize u' J iw ⟨81,7,[.agg [.own i12 0 (s.atoms.length+1),vf,vI s.PJ,vI s.PS.y,vI s.PS.m,aM l,cE rs]]⟩=Y2 at*;refine ad.rR (by kernel_rfl) [0,1,2,3,4,5,6,7,8,9,10,11,12] [[],[],[1],[1,2],[1,2,3],[],[5],[],[7],[1,2,3,4,5,6,7,8],[0,1,2,3,4,5,6,7,8,9],[0,1,2,3,4,5,6,7,8,9,10],[0,1,2,3,4,5,6,7,8,9,10,11]] [0,2,4,6,8,10,12,14,16,18,20,22,24] (by kernel_rfl) (by kernel_rfl) ?_;refine RE.QS (n:=0) [18,20,22,24] [0,2,4,6,8,10,12,14,16] [⟨(.some 16),(.Qo (.t 0)),.none⟩,⟨(.some 17),(.Qo (.t 0)),.none⟩,⟨(.some 18),(.nilCheck (.t 17)),.none⟩,⟨(.some 19),(.PN .true 3 2 (.t 18)),.none⟩,⟨(.some 20),(.load .true 2 (.t 19)),.none⟩,⟨(.some 21),(.PN .false 5 1 (.t 3)),.none⟩,⟨(.some 22),(.load .false 1 (.t 21)),.none⟩,⟨(.some 23),(.PN .false 7 1 (.t 3)),.none⟩,⟨(.some 24),(.load .false 1 (.t 23)),.none⟩] rfl rfl ?_;apply sG;simp only[go_sem,seval,dw,d3,cf,ar,ai];refine RE.ay rfl rfl rfl rfl rfl (L4 s.PS a.y a.h hy hh _) ?_;refine RE.QS (n:=0) [] [20,22,24] [⟨(.some 26),(.nilCheck (.t 16)),.none⟩,⟨(.some 27),(.PN .true 3 2 (.t 26)),.none⟩,⟨.none,(.store 2 (.t 27) (.t 25)),.none⟩] rfl rfl ?_;apply sG;simp only[go_sem,seval,dw,gE,cf,ar,ai];apply sR;simp only[go_sem,seval];have Q3:aa Z0 (u' Y2 iw ⟨81,7,[.agg [.own i12 0 (s.atoms.length+1),vf,vI s.PJ,vI (a.y+a.h),vI 0,aM l,cE rs]]⟩):=B'.az hJ.no;refine⟨_,_,aa.refl _,Wk.refl (aa.refl _) _,rfl,Q3,hJ.no,.own i12 0 (s.atoms.length+1),vf,af,?_,?_,hf2⟩
 .exact aN.new (by simp[WS.put]) (by rw[ab nw.symm,d12];simp[WS.put];rfl) R9
 .rcases hf4 with h|⟨id,h1,h2,h3⟩
  .exact .inl h
  .exact .inr ⟨id,h1,by rw[ab (aI.1 h3).1];exact h2,h3⟩
def vT{l:List O'}{w high:Int}{s:QL}:∀(k:Nat) (y:Int),YZ l y<=k->nW l w high s (kJ l w high s k y)=true
 |0,y,h=>by
  rw[kJ];simp only[nW,ki,Bool.not_eq_true',SX];left;cases hn:(gu l y high s).2 with
  |false=>rfl
  |true=>
   have:=xP (iB hn);omega
 |k+1,y,h=>by
  rw[kJ];split
  .rename_i hb;exact hb
  .rename_i hb;simp only[nW,ki,Bool.not_eq_true',not_or,Bool.not_eq_false]at hb;have:=xP (iB hb.1);exact vT k _ (by omega)
def Df(l:List O')(w high:Int)(s:QL)(y:Int):(gu l (oX l w high s y) high s).2=false\/jC (dQ l (oX l w high s y) high s)>=w:=by
 have:=vT (l:=l) (w:=w) (high:=high) (s:=s) l.length y (List.length_filter_le _ _);simp only[nW,ki,Bool.not_eq_true',SX]at this;exact this
def qT{l:List O'}{w high B:Int}{s:QL}(hB:∀f∈l,f.y+f.h<=B):∀(k:Nat) (y:Int),y<=kJ l w high s k y/\kJ l w high s k y<=max y B
 |0,y=>by simp only[kJ];omega
 |k+1,y=>by
  rw[kJ];split
  .omega
  .rename_i hb;simp only[nW,ki,Bool.not_eq_true',not_or,Bool.not_eq_false]at hb;obtain⟨f,hm,h1,h2⟩:=iB hb.1;have:=qT hB k (gu l y high s).1 (w:=w) (high:=high) (s:=s);have:=hB f hm;omega
def Hn(f:O')(s:QL):s.a<=(jV f s).a/\(jV f s).b<=s.b:=by
 unfold jV;split
 .simp only;omega
 .simp only;omega
def Ag:∀(l:List O') (s:QL),s.a<=(l.foldl (λs f=>jV f s) s).a/\(l.foldl (λs f=>jV f s) s).b<=s.b
 |[],s=>by simp
 |f::l,s=>by
  have h1:=Hn f s;have h2:=Ag l (jV f s);simp only[iY];omega
def Gg(l:List O')(y high:Int)(s:QL):s.a<=(dQ l y high s).a/\(dQ l y high s).b<=s.b:=Ag _ _
structure X2(B:Int)(f:O'):Prop where
 x0:0<=f.x
 w0:0<=f.w
 w1:f.w<=1099511627776
 h0:0<=f.h
 h1:f.h<=1099511627776
 y0:0<=f.y
 yB:f.y+f.h<=B
 xw:f.x+f.w<=8796093022208
def X2.ok{B:Int}{f:O'}(h:X2 B f)(hB:B<=1152921504606846976):f.ok:=by
 obtain⟨h1,h2,h3,h4,h5,h6,h7,h8⟩:=h;exact⟨⟨by omega,by omega⟩,⟨by omega,by omega⟩,⟨by omega,by omega⟩,⟨by omega,by omega⟩⟩
def X2.mono{B C:Int}{f:O'}(h:X2 B f)(hB:B<=C):X2 C f:=by
 obtain⟨h1,h2,h3,h4,h5,h6,h7,h8⟩:=h;exact⟨h1,h2,h3,h4,h5,h6,by omega,h8⟩
def DB(s:QL):Prop:=0<=s.a/\s.a<=2199023255552/\0<=s.b/\s.b<=2199023255552
def BK{fs:List O'}{B y:Int}(hB:∀f∈fs,X2 B f):y<=oO fs y/\oO fs y<=max y B:=by
 unfold oO;split
 .rename_i h;obtain⟨f,hf,h1,_⟩:=lG h;have:=hB f hf;have h2:(uT f).1=f.y:=rfl;rw[h1,h2];have:=this.yB;have:=(hB f hf).h0;omega
 .omega
def zV{fs:List O'}{B y:Int}(hB:∀f∈fs,X2 B f)(f:O')(s:QL):y<=kR fs f y s/\kR fs f y s<=max y B:=by
 have h1:=BK (y:=y) hB;have h2:=qT (w:=f.w) (high:=f.h) (s:=s) (λf hf=>(hB f hf).yB) fs.length (oO fs y);unfold kR oX;omega
def Ed{fs:List O'}{B y:Int}(hB:∀f∈fs,X2 B f){f:O'}{s:QL}(hs:DB s)(Yn:0<=y)(hyB:y<=B)(w0:1<=f.w)(w1:f.w<=1099511627776)(h0:0<=f.h)(h1:f.h<=1099511627776):X2 (B+1099511627776) (jL fs f y s):=by
 obtain⟨s1,s2,s3,s4⟩:=hs;have hy:=zV (y:=y) hB f s;have hb:=Gg fs (kR fs f y s) f.h s;have hx:0<=o9 fs f y s/\o9 fs f y s+f.w<=8796093022208:=by
  unfold o9;simp only;have he:=Df fs f.w f.h s (oO fs y);have e:oX fs f.w f.h s (oO fs y)=kR fs f y s:=rfl;rw[e]at he;rcases he with h|h
  .have QM:dQ fs (kR fs f y s) f.h s=s:=Classical.byContradiction λhn=>by
    have:=oG hn;rw[h]at this;cases this
   rw[QM];split<;>omega
  .unfold jC at h;split at h
   .omega
   .split<;>omega
 exact⟨hx.1,by simp only[jL];omega,by simp only[jL];omega,by simp only[jL];omega,by simp only[jL];omega,by simp only[jL];omega,by simp only[jL];omega,by simpa[jL]using hx.2⟩
def I6{fs:List O'}{B y:Int}(hB:∀f∈fs,X2 B f){f:O'}{s:QL}(hs:DB s)(Yn:0<=y)(hyB:y<=B)(w0:1<=f.w)(w1:f.w<=1099511627776)(h0:0<=f.h)(h1:f.h<=1099511627776):∀g∈sN fs f y s,X2 (B+1099511627776) g:=by
 intro g hg;rcases dM.1 hg with hg|hg
 .exact(hB g hg).mono (by omega)
 .simp only[iM]at hg;subst hg;exact Ed hB hs Yn hyB w0 w1 h0 h1
structure Bd(s:WS)(B:Int):Prop where
 fl:∀f∈s.g',X2 B f
 y0:0<=s.PS.y
 m0:0<=s.PS.m
 m1:s.PS.m<=1099511627776
 yB:s.PS.y+s.PS.m<=B
def Bd.mono{s:WS}{B C:Int}(h:Bd s B)(hB:B<=C):Bd s C:=⟨λf hf=>(h.fl f hf).mono hB,h.y0,h.m0,h.m1,by have:=h.yB;omega⟩
def WS.mono(l:List Nd)(rs:List Rm)(s:WS)(a:Nat)(n:Nd):WS:=
 let at':=lk s.g' n.w n.h (eB rs a) (s.PS.y+s.PS.m)
 let b:=dQ s.g' at' n.h (eB rs a)
 s.put ⟨2,a,0,0,b.a,at',n.w,n.h⟩
def eV(a:Nat)(h:Int)(x:Ln):Qy:=⟨1,a,x.fr,x.to,x.x,x.y,x.w,h⟩
def WS.text(rs:List Rm)(s:WS)(a:Nat)(n:Nd):WS:=
 (dz s.g' n.words n.space n.line (eB rs a) n.words.length 0 (s.PS.y+s.PS.m)).foldl (λs x=>s.put (eV a n.line x)) s
def WS.float(rs:List Rm)(s:WS)(a:Nat)(n:Nd):WS:=
 { s with g':=sN s.g' ⟨a,n.side,s.atoms.length,0,0,n.w,n.h⟩ (s.PS.y+s.PS.m) (eB rs a) }
def WS.enter(s:WS)(t:Rn):WS:=
 let p:=if(dV (lU t.clear) s.g').2 then jh s.PS (dV (lU t.clear) s.g').1 else s.PS
 { s with PS:=ek p t.top t.PQ }
def WS.leave(s:WS)(t:Rn):WS:={ s with PS:=lF s.PS t.P0 t.H' }
def Bd.enter{s:WS}{B:Int}(h:Bd s B){t:Rn}(ht:SOk t):Bd (s.enter t) (B+2199023255552):=by
 obtain⟨hf,h1,h2,h3,h4⟩:=h;have hp:∀p:Pn,0<=p.y->0<=p.m->p.m<=1099511627776->p.y+p.m<=B->Bd { s with PS:=ek p t.top t.PQ } (B+2199023255552):=by
  intro p g1 g2 g3 g4;have a1:=ht.top;have a2:=ht.PQ;refine⟨λf Ts=>(hf f Ts).mono (by omega),?_,?_,?_,?_⟩<;>simp only[ek,uQ]<;>(repeat' split)<;>omega
 unfold WS.enter;simp only;split
 .rename_i hm;obtain⟨f,hfm,e1,_⟩:=lG hm;have e2:(lU t.clear f).1=f.y+f.h:=rfl;have Uv:=hf f hfm;have hy:=Uv.yB;have Yn:=Uv.y0;have hh0:=Uv.h0;rw[e1,e2];refine hp _ ?_ ?_ ?_ ?_<;>(unfold jh;split)<;>(try simp only)<;>omega
 .exact hp _ h1 h2 h3 h4
def Bd.leave{s:WS}{B:Int}(h:Bd s B){t:Rn}(ht:SOk t):Bd (s.leave t) (B+2199023255552):=by
 obtain⟨hf,h1,h2,h3,h4⟩:=h;have a1:=ht.P0;have a2:=ht.H';refine⟨λf Ts=>(hf f Ts).mono (by omega),?_,?_,?_,?_⟩<;>simp only[WS.leave,lF,uQ]<;>(repeat' split)<;>omega
open Go.Proofs
structure W3(l:List Nd)(rs:List Rm):Prop where
 tZ:l.length<=2000
 Wy:Qs l=true
 len:rs.length=l.length
 rok:∀r∈rs,r.ok
def W3.room{l:List Nd}{rs:List Rm}(h:W3 l rs){a:Nat}(ha:a<l.length):∃h':a<rs.length,rs[a].ok:=⟨by rw[h.len];exact ha,h.rok _ (QF _)⟩
def W3.span{l:List Nd}{rs:List Rm}(h:W3 l rs){a:Nat}(ha:a<l.length):DB (eB rs a):=by
 obtain⟨h',r1,r2,r3,r4⟩:=h.room ha;have e:rs.getD a ⟨0,0⟩=rs[a]:=by simp[h']
 unfold eB DB;rw[e];simp only;omega
def DB.bq{s:QL}(h:DB s):Ry s.a/\Ry s.b:=by obtain⟨a,b,c,d⟩:=h;exact⟨⟨by omega,by omega⟩,⟨by omega,by omega⟩⟩
def Bd.W4{s:WS}{B:Int}(h:Bd s B)(hB:B<=1152921504606846976):∀f∈s.g',f.ok:=λf hf=>(h.fl f hf).ok hB
def jl(l:List Nd){a:Nat}(h:a<l.length)(U:ag):bL U 20 (aM l) (.int .i64 a)=some (.rp (.agg (Nd.cells l[a]))):=dJ h
def Sq.mono{l:List Nd}{rs:List Rm}{Z0 U J:ag}{iw:Nat}{s:WS}(hJ:Sq l rs Z0 iw s U)(hs:aa U J):Sq l rs Z0 iw s J:=by
 obtain⟨va,vf,w1,h1,h2,h3⟩:=hJ.row;exact⟨hJ.sub.trans hs,hJ.no,va,vf,hs _ _ w1,h1.mono hs,h2.mono hs,h3⟩
def H5{l:List Nd}{rs:List Rm}(hD:W3 l rs){Z0 U:ag}{iw:Nat}{s:WS}{B:Int}(hJ:Sq l rs Z0 iw s U)(hB:Bd s B)(hB1:B<=576460752303423488)(a:Nat)(ha:a<l.length)(hk:l[a].kind=3)(hn:s.atoms.length<=100000)(ZV:s.g'.length<=100000):
 aC prog 49 [.ptr iw 0 0,vI a] U λr Z'=>r=.PI []/\Sq l rs Z0 iw (WS.mono l rs s a l[a]) Z':=by
 obtain⟨va,vf,w1,Wh,U',hf2⟩:=hJ.row;obtain⟨ca,sa⟩:=Wh.vc;obtain⟨cf,sf⟩:=U'.vc;have Qf:=gi hD.Wy ha;have VD:=hD.span ha;obtain⟨har,W5⟩:=hD.room ha;have E':=jl l ha;have XU:∀n:Nd,V.agg (Nd.cells n)=iE n:=λ_=>rfl;unfold WS.mono;generalize l[a]=n at*;refine e49.r (by simp[c49]) ?_;refine ad.mix 7 ?_;apply sR;simp only[go_sem,seval,c49,w1,ca,cf,ar,ai,aj,al,E',Nd.cells];refine ae λi4 Z4 s4 a4 f4=>?_;simp only[go_sem,seval,a4,aj,al,cd];generalize Tt:u' Z4 i4 _=Y4;have b4:Y4 i4=some ⟨27,20,[.agg (Nd.cells n)]⟩:=by rw[<-Tt];exact af
 rw[Nd.cells]at b4;have Xz:aa U Y4:=by rw[<-Tt];exact s4.az f4
 clear Tt;have w4:=Xz _ _ w1;have hlen:vk Y4 vf (aJ s.g'):=(U'.mono Xz).Hm;have VJ:=hJ.mono Xz;have hm:=hB.m1;have U1:=hB.m0;have Yn:=hB.y0;have hyB:=hB.yB;have hws:=Qf.w;have hhs:=Qf.h;have UA:=GW s.g' n.w n.h (s.PS.y+s.PS.m) (eB rs a) (by omega) (hB.W4 (by omega)) ⟨by omega,by omega⟩ ⟨by omega,by omega⟩ VD.bq;obtain⟨at',RF⟩:∃z,z=lk s.g' n.w n.h (eB rs a) (s.PS.y+s.PS.m):=⟨_,rfl⟩
 have hyr:=fV (w:=n.w) (high:=n.h) (y:=s.PS.y+s.PS.m) (s:=eB rs a) (λf hf=>(hB.fl f hf).yB);rw[<-RF]at UA hyr|-;obtain⟨b,hb⟩:∃b,b=dQ s.g' at' n.h (eB rs a):=⟨_,rfl⟩
 rw[<-hb]at UA|-;have fin:∀(S:Nat->V) (J:ag) (i5:Nat),aa Y4 J->J i5=some ⟨180,2,[.agg [vI b.a,vI b.b]]⟩->S 0=.ptr iw 0 0->S 1=vI a->S 4=.ptr i4 0 0->S 5=.ptr i5 0 0->S 6=vI at'->
  ad prog 46 [It.code (.VP false [⟨some 35,.Qo (.t 0),none⟩,⟨some 36,.Qo (.t 1),none⟩,⟨some 37,.PN false 0 1 (.t 5),none⟩,⟨some 38,.load false 1 (.t 37),none⟩,⟨some 39,.Qo (.t 6),none⟩,⟨some 40,.PN false 18 1 (.t 4),none⟩,⟨some 41,.load false 1 (.t 40),none⟩,⟨some 42,.PN false 19 1 (.t 4),none⟩,⟨some 43,.load false 1 (.t 42),none⟩,⟨some 44,.build [.int .i64 0,.int .i64 0,.int .i64 0,.int .i64 0,.int .i64 0,.int .i64 0,.int .i64 0,.int .i64 0] [(0,1,.c (.int .i64 2)),(1,1,.t 36),(4,1,.t 38),(5,1,.t 39),(6,1,.t 41),(7,1,.t 43)],none⟩,⟨some 45,.call (.c (.fn 83 [])) [.t 35,.t 44],none⟩])] ⟨S,J⟩
   (λst=>au (.PI []) st.U λr Z'=>r=.PI []/\Sq l rs Z0 iw (s.put ⟨2,a,0,0,b.a,at',n.w,n.h⟩) Z'):=by
  intro S J i5 Zl c5 t0 t1 t4 t5 t6;have c4:=Zl _ _ b4;refine ad.mix 7 ?_;apply sR;simp only[go_sem,seval,t0,t1,t4,t5,t6,c4,c5,aj];refine ad.call rfl rfl rfl (Ex (VJ.mono Zl) ⟨2,a,0,0,b.a,at',n.w,n.h⟩ (show Bq at' from⟨by omega,by omega⟩) (show Bq n.h from⟨by omega,by omega⟩) (by omega)) ?_;rintro r Z' ⟨rfl,RX⟩;apply sR;simp only[go_sem,seval];exact⟨_,_,aa.refl _,Wk.refl (aa.refl _) _,rfl,RX⟩
 refine ad.Dp (by kernel_rfl) 8 (.fork [[],[0],[1,0],[2,1,0],[3,2,1,0],[],[5],[],[7],[],[9],[10,9],[11,10,9],[12,11,10,9],[],[],[14,15,13,12,11,10,9],[4,6,8,13,16,3,2,1,0,5,7,12,11,10,9,14,15],[17,4,6,8,13,16,3,2,1,0,5,7,12,11,10,9,14,15],[18,17,4,6,8,13,16,3,2,1,0,5,7,12,11,10,9,14,15],[18,17,4,6,8,13,16,3,2,1,0,5,7,12,11,10,9,14,15],[],[21,19,17,0,1,2,3,4,5,6,7,8,9,10,11,12,13,14,15,16,18],[20,22,0,1,2,3,4,5,6,7,8,9,10,11,12,13,14,15,16,17,18,19,21]] [0,1,2,3,4,5,6,7,8,9,10,11,12,14,15] [13,21] [(.fork [[],[0],[1,0],[2,1,0],[3,2,1,0],[],[5],[],[7],[],[9],[10,9],[11,10,9],[12,11,10,9],[],[],[14,15,13,12,11,10,9],[4,6,8,13,16,3,2,1,0,5,7,12,11,10,9,14,15],[17,4,6,8,13,16,3,2,1,0,5,7,12,11,10,9,14,15],[18,17,4,6,8,13,16,3,2,1,0,5,7,12,11,10,9,14,15],[18,17,4,6,8,13,16,3,2,1,0,5,7,12,11,10,9,14,15],[13,12,11,10,9],[13,12,11,10,9,21,19,17,0,1,2,3,4,5,6,7,8,14,15,16,18],[13,12,11,10,9,20,22,0,1,2,3,4,5,6,7,8,14,15,16,17,18,19,21]] [13] [16,21] [(.fork [[],[0],[1,0],[2,1,0],[3,2,1,0],[],[5],[],[7],[],[9],[10,9],[11,10,9],[12,11,10,9],[],[],[14,15,13,12,11,10,9],[4,6,8,13,16,3,2,1,0,5,7,12,11,10,9,14,15],[17,4,6,8,13,16,3,2,1,0,5,7,12,11,10,9,14,15],[18,17,4,6,8,13,16,3,2,1,0,5,7,12,11,10,9,14,15],[18,17,4,6,8,13,16,3,2,1,0,5,7,12,11,10,9,14,15],[16,14,15,13,12,11,10,9],[16,14,15,13,12,11,10,9,21,19,17,0,1,2,3,4,5,6,7,8,18],[16,14,15,13,12,11,10,9,20,22,0,1,2,3,4,5,6,7,8,17,18,19,21]] [16] [17,21] [(.leaf [[],[0],[1,0],[2,1,0],[3,2,1,0],[],[5],[],[7],[],[9],[10,9],[11,10,9],[12,11,10,9],[],[],[14,15,13,12,11,10,9],[4,6,8,13,16,3,2,1,0,5,7,12,11,10,9,14,15],[17,4,6,8,13,16,3,2,1,0,5,7,12,11,10,9,14,15],[18,17,4,6,8,13,16,3,2,1,0,5,7,12,11,10,9,14,15],[18,17,4,6,8,13,16,3,2,1,0,5,7,12,11,10,9,14,15],[17,4,6,8,13,16,3,2,1,0,5,7,12,11,10,9,14,15],[17,4,6,8,13,16,3,2,1,0,5,7,12,11,10,9,14,15,21,19,18],[17,4,6,8,13,16,3,2,1,0,5,7,12,11,10,9,14,15,20,22,18,19,21]] [17,18,19,20,21,22,23]),(.leaf [[],[0],[1,0],[2,1,0],[3,2,1,0],[],[5],[],[7],[],[9],[10,9],[11,10,9],[12,11,10,9],[],[],[14,15,13,12,11,10,9],[21,16,14,15,13,12,11,10,9,4,6,8,3,2,1,0,5,7],[21,16,14,15,13,12,11,10,9,17,4,6,8,3,2,1,0,5,7],[21,16,14,15,13,12,11,10,9,18,17,4,6,8,3,2,1,0,5,7],[21,16,14,15,13,12,11,10,9,18,17,4,6,8,3,2,1,0,5,7],[16,14,15,13,12,11,10,9],[21,16,14,15,13,12,11,10,9,19,17,0,1,2,3,4,5,6,7,8,18],[21,16,14,15,13,12,11,10,9,20,22,0,1,2,3,4,5,6,7,8,17,18,19]] [21,17,18,19,20,22,23])]),(.leaf [[],[0],[1,0],[2,1,0],[3,2,1,0],[],[5],[],[7],[],[9],[10,9],[11,10,9],[12,11,10,9],[],[],[21,13,12,11,10,9,14,15],[21,13,12,11,10,9,4,6,8,16,3,2,1,0,5,7,14,15],[21,13,12,11,10,9,17,4,6,8,16,3,2,1,0,5,7,14,15],[21,13,12,11,10,9,18,17,4,6,8,16,3,2,1,0,5,7,14,15],[21,13,12,11,10,9,18,17,4,6,8,16,3,2,1,0,5,7,14,15],[13,12,11,10,9],[21,13,12,11,10,9,19,17,0,1,2,3,4,5,6,7,8,14,15,16,18],[21,13,12,11,10,9,20,22,0,1,2,3,4,5,6,7,8,14,15,16,17,18,19]] [21,16,17,18,19,20,22,23])]),(.leaf [[],[0],[1,0],[2,1,0],[3,2,1,0],[],[5],[],[7],[],[9],[10,9],[11,10,9],[21,12,11,10,9],[],[],[21,14,15,13,12,11,10,9],[21,4,6,8,13,16,3,2,1,0,5,7,12,11,10,9,14,15],[21,17,4,6,8,13,16,3,2,1,0,5,7,12,11,10,9,14,15],[21,18,17,4,6,8,13,16,3,2,1,0,5,7,12,11,10,9,14,15],[21,18,17,4,6,8,13,16,3,2,1,0,5,7,12,11,10,9,14,15],[],[21,19,17,0,1,2,3,4,5,6,7,8,9,10,11,12,13,14,15,16,18],[21,20,22,0,1,2,3,4,5,6,7,8,9,10,11,12,13,14,15,16,17,18,19]] [21,13,16,17,18,19,20,22,23])]) (by kernel_rfl) ?_;refine GT.nU (its:=[0,2,4,6,8,10,12,14,16,18,20,22,24,28,30]) (by kernel_rfl) ?_;refine RE.QS (n:=0) [] [0,2,4,6,8,10,12,14,16,18,20,22,24,28,30] [⟨(.some 15),(.Qo (.t 0)),.none⟩,⟨(.some 16),(.nilCheck (.t 15)),.none⟩,⟨(.some 17),(.PN .true 0 3 (.t 16)),.none⟩,⟨(.some 18),(.PN .false 1 1 (.t 17)),.none⟩,⟨(.some 19),(.load .false 1 (.t 18)),.none⟩,⟨(.some 20),(.PN .false 18 1 (.t 4)),.none⟩,⟨(.some 21),(.load .false 1 (.t 20)),.none⟩,⟨(.some 22),(.PN .false 19 1 (.t 4)),.none⟩,⟨(.some 23),(.load .false 1 (.t 22)),.none⟩,⟨(.some 24),(.Qo (.t 0)),.none⟩,⟨(.some 25),(.nilCheck (.t 24)),.none⟩,⟨(.some 26),(.PN .true 3 2 (.t 25)),.none⟩,⟨(.some 27),(.load .true 2 (.t 26)),.none⟩,⟨(.some 29),(.Qo (.t 0)),.none⟩,⟨(.some 30),(.Qo (.t 1)),.none⟩] rfl rfl ?_;apply sG;simp only[go_sem,seval,b4,w4,ca,cf,ar,ai,aj,al];refine⟨?_,?_⟩
 .refine GT.nU (its:=[26,9,13,17]) (by kernel_rfl) ?_;refine RE.ay rfl rfl rfl rfl rfl (Dx s.PS ⟨by omega,by omega⟩ ⟨by omega,by omega⟩ _) ?_;refine RE.Rl rfl rfl rfl rfl rfl trivial (by simp only[go_sem,seval,b4,w4,ca,cf,ar,ai,aj,al]) ?_;refine RE.Rl rfl rfl rfl rfl rfl trivial (by simp only[go_sem,seval,b4,w4,ca,cf,ar,ai,aj,al]) ?_;refine RE.Rl rfl rfl rfl rfl rfl trivial (by simp only[go_sem,seval,b4,w4,ca,cf,ar,ai,aj,al]) ?_;refine⟨?_,?_⟩
  .refine GT.nU (its:=[32,9,13,17]) (by kernel_rfl) ?_;refine RE.ay rfl rfl rfl rfl rfl (yD VJ a har W5) ?_;refine RE.Rl rfl rfl rfl rfl rfl trivial (by simp only[go_sem,seval,b4,w4,ca,cf,ar,ai,aj,al]) ?_;refine RE.Rl rfl rfl rfl rfl rfl trivial (by simp only[go_sem,seval,b4,w4,ca,cf,ar,ai,aj,al]) ?_;refine RE.Rl rfl rfl rfl rfl rfl trivial (by simp only[go_sem,seval,b4,w4,ca,cf,ar,ai,aj,al]) ?_;refine⟨?_,?_⟩
   .refine GT.ik (its:=[34,36,38,40,42,44,46]) (by kernel_rfl) ?_;refine RE.ay rfl rfl rfl rfl rfl (aP.zT (args':=[aJ s.g',vI n.w,vI n.h,vI (s.PS.y+s.PS.m),bc (eB rs a)]) ⟨hlen.at,TT _,TT _,TT _,TT _,trivial⟩ UA rfl) ?_;refine RE.QS (n:=0) [] [36,38,40,42,44,46] [⟨(.some 14),(.Qo (.t 32)),.none⟩,⟨(.some 33),(.ext 0 (.t 14)),.none⟩,⟨(.some 34),(.ext 1 (.t 14)),.none⟩,⟨(.some 5),(.alloc 180 2 (.agg [(.int .i64 0),(.int .i64 0)])),.none⟩,⟨.none,(.store 2 (.t 5) (.t 33)),.none⟩,⟨(.some 6),(.Qo (.t 34)),.none⟩] rfl rfl ?_;apply sG;simp only[go_sem,seval,b4,w4,ca,cf,ar,ai,aj,al];refine bj λi5 Z5 s5 a5 f5=>?_;replace b4:=s5 _ _ b4;replace w4:=s5 _ _ w4;replace hlen:=hlen.mono s5;replace VJ:=VJ.mono s5;simp only[go_sem,seval,b4,w4,ca,cf,ar,ai,aj,al,a5,bc];exact fin _ _ i5 (s5.az f5) af rfl rfl rfl rfl rfl
   .refine GT.ik (its:=[42,9,13,17,34,36,38,40,44,46]) (by kernel_rfl) ?_;refine RE.QS (n:=0) [9,13,17,34,36,38,40,44,46] [42] [⟨(.some 5),(.alloc 180 2 (.agg [(.int .i64 0),(.int .i64 0)])),.none⟩] rfl rfl ?_;apply sG;simp only[go_sem,seval,b4,w4,ca,cf,ar,ai,aj,al];refine bj λi5 Z5 s5 a5 f5=>?_;replace b4:=s5 _ _ b4;replace w4:=s5 _ _ w4;replace hlen:=hlen.mono s5;replace VJ:=VJ.mono s5;simp only[go_sem,seval,b4,w4,ca,cf,ar,ai,aj,al,a5,bc];refine RE.Rl rfl rfl rfl rfl rfl trivial (by simp only[go_sem,seval,b4,w4,ca,cf,ar,ai,aj,al,a5,bc]) ?_;refine RE.Rl rfl rfl rfl rfl rfl trivial (by simp only[go_sem,seval,b4,w4,ca,cf,ar,ai,aj,al,a5,bc]) ?_;refine RE.Rl rfl rfl rfl rfl rfl trivial (by simp only[go_sem,seval,b4,w4,ca,cf,ar,ai,aj,al,a5,bc]) ?_;refine RE.ay rfl rfl rfl rfl rfl (aP.zT (args':=[aJ s.g',vI n.w,vI n.h,vI (s.PS.y+s.PS.m),bc (eB rs a)]) ⟨hlen.at,TT _,TT _,TT _,TT _,trivial⟩ UA rfl) ?_;refine RE.QS (n:=0) [] [36,38,40,44,46] [⟨(.some 14),(.Qo (.t 32)),.none⟩,⟨(.some 33),(.ext 0 (.t 14)),.none⟩,⟨(.some 34),(.ext 1 (.t 14)),.none⟩,⟨.none,(.store 2 (.t 5) (.t 33)),.none⟩,⟨(.some 6),(.Qo (.t 34)),.none⟩] rfl rfl ?_;apply sG;simp only[go_sem,seval,b4,w4,ca,cf,ar,ai,aj,al,a5,bc];exact fin _ _ i5 (s5.az f5) af rfl rfl rfl rfl rfl
  .refine GT.ik (its:=[42,9,13,17,32,9,13,17,34,36,38,40,44,46]) (by kernel_rfl) ?_;refine RE.QS (n:=0) [9,13,17,32,9,13,17,34,36,38,40,44,46] [42] [⟨(.some 5),(.alloc 180 2 (.agg [(.int .i64 0),(.int .i64 0)])),.none⟩] rfl rfl ?_;apply sG;simp only[go_sem,seval,b4,w4,ca,cf,ar,ai,aj,al];refine bj λi5 Z5 s5 a5 f5=>?_;replace b4:=s5 _ _ b4;replace w4:=s5 _ _ w4;replace hlen:=hlen.mono s5;replace VJ:=VJ.mono s5;simp only[go_sem,seval,b4,w4,ca,cf,ar,ai,aj,al,a5,bc];refine RE.Rl rfl rfl rfl rfl rfl trivial (by simp only[go_sem,seval,b4,w4,ca,cf,ar,ai,aj,al,a5,bc]) ?_;refine RE.Rl rfl rfl rfl rfl rfl trivial (by simp only[go_sem,seval,b4,w4,ca,cf,ar,ai,aj,al,a5,bc]) ?_;refine RE.Rl rfl rfl rfl rfl rfl trivial (by simp only[go_sem,seval,b4,w4,ca,cf,ar,ai,aj,al,a5,bc]) ?_;refine RE.ay rfl rfl rfl rfl rfl (yD VJ a har W5) ?_;refine RE.Rl rfl rfl rfl rfl rfl trivial (by simp only[go_sem,seval,b4,w4,ca,cf,ar,ai,aj,al,a5,bc]) ?_;refine RE.Rl rfl rfl rfl rfl rfl trivial (by simp only[go_sem,seval,b4,w4,ca,cf,ar,ai,aj,al,a5,bc]) ?_;refine RE.Rl rfl rfl rfl rfl rfl trivial (by simp only[go_sem,seval,b4,w4,ca,cf,ar,ai,aj,al,a5,bc]) ?_;refine RE.ay rfl rfl rfl rfl rfl (aP.zT (args':=[aJ s.g',vI n.w,vI n.h,vI (s.PS.y+s.PS.m),bc (eB rs a)]) ⟨hlen.at,TT _,TT _,TT _,TT _,trivial⟩ UA rfl) ?_;refine RE.QS (n:=0) [] [36,38,40,44,46] [⟨(.some 14),(.Qo (.t 32)),.none⟩,⟨(.some 33),(.ext 0 (.t 14)),.none⟩,⟨(.some 34),(.ext 1 (.t 14)),.none⟩,⟨.none,(.store 2 (.t 5) (.t 33)),.none⟩,⟨(.some 6),(.Qo (.t 34)),.none⟩] rfl rfl ?_;apply sG;simp only[go_sem,seval,b4,w4,ca,cf,ar,ai,aj,al,a5,bc];exact fin _ _ i5 (s5.az f5) af rfl rfl rfl rfl rfl
 .refine GT.ik (its:=[42,9,13,17,25,26,9,13,17,32,9,13,17,34,36,38,40,44,46]) (by kernel_rfl) ?_;refine RE.QS (n:=0) [9,13,17,25,26,9,13,17,32,9,13,17,34,36,38,40,44,46] [42] [⟨(.some 5),(.alloc 180 2 (.agg [(.int .i64 0),(.int .i64 0)])),.none⟩] rfl rfl ?_;apply sG;simp only[go_sem,seval,b4,w4,ca,cf,ar,ai,aj,al];refine bj λi5 Z5 s5 a5 f5=>?_;replace b4:=s5 _ _ b4;replace w4:=s5 _ _ w4;replace hlen:=hlen.mono s5;replace VJ:=VJ.mono s5;simp only[go_sem,seval,b4,w4,ca,cf,ar,ai,aj,al,a5,bc];refine RE.Rl rfl rfl rfl rfl rfl trivial (by simp only[go_sem,seval,b4,w4,ca,cf,ar,ai,aj,al,a5,bc]) ?_;refine RE.Rl rfl rfl rfl rfl rfl trivial (by simp only[go_sem,seval,b4,w4,ca,cf,ar,ai,aj,al,a5,bc]) ?_;refine RE.Rl rfl rfl rfl rfl rfl trivial (by simp only[go_sem,seval,b4,w4,ca,cf,ar,ai,aj,al,a5,bc]) ?_;refine RE.Rl rfl rfl rfl rfl rfl trivial (by simp only[go_sem,seval,b4,w4,ca,cf,ar,ai,aj,al,a5,bc]) ?_;refine RE.ay rfl rfl rfl rfl rfl (Dx s.PS ⟨by omega,by omega⟩ ⟨by omega,by omega⟩ _) ?_;refine RE.Rl rfl rfl rfl rfl rfl trivial (by simp only[go_sem,seval,b4,w4,ca,cf,ar,ai,aj,al,a5,bc]) ?_;refine RE.Rl rfl rfl rfl rfl rfl trivial (by simp only[go_sem,seval,b4,w4,ca,cf,ar,ai,aj,al,a5,bc]) ?_;refine RE.Rl rfl rfl rfl rfl rfl trivial (by simp only[go_sem,seval,b4,w4,ca,cf,ar,ai,aj,al,a5,bc]) ?_;refine RE.ay rfl rfl rfl rfl rfl (yD VJ a har W5) ?_;refine RE.Rl rfl rfl rfl rfl rfl trivial (by simp only[go_sem,seval,b4,w4,ca,cf,ar,ai,aj,al,a5,bc]) ?_;refine RE.Rl rfl rfl rfl rfl rfl trivial (by simp only[go_sem,seval,b4,w4,ca,cf,ar,ai,aj,al,a5,bc]) ?_;refine RE.Rl rfl rfl rfl rfl rfl trivial (by simp only[go_sem,seval,b4,w4,ca,cf,ar,ai,aj,al,a5,bc]) ?_;refine RE.ay rfl rfl rfl rfl rfl (aP.zT (args':=[aJ s.g',vI n.w,vI n.h,vI (s.PS.y+s.PS.m),bc (eB rs a)]) ⟨hlen.at,TT _,TT _,TT _,TT _,trivial⟩ UA rfl) ?_;refine RE.QS (n:=0) [] [36,38,40,44,46] [⟨(.some 14),(.Qo (.t 32)),.none⟩,⟨(.some 33),(.ext 0 (.t 14)),.none⟩,⟨(.some 34),(.ext 1 (.t 14)),.none⟩,⟨.none,(.store 2 (.t 5) (.t 33)),.none⟩,⟨(.some 6),(.Qo (.t 34)),.none⟩] rfl rfl ?_;apply sG;simp only[go_sem,seval,b4,w4,ca,cf,ar,ai,aj,al,a5,bc];exact fin _ _ i5 (s5.az f5) af rfl rfl rfl rfl rfl
open Go.Proofs
def aN.Bc{Z0 J:ag}{iw e sz:Nat}{v:V}{rows:List V}{o:Ob}(h:aN (bg Z0 iw) J e sz v rows):aN (bg Z0 iw) (u' J iw o) e sz v rows:=by
 rcases h with h|⟨id,h1,h2,h3⟩
 .exact .inl h
 .exact .inr ⟨id,h1,by rw[ab (aI.1 h3).1];exact h2,h3⟩
def aN.pV{Z0 J U:ag}{iw e sz:Nat}{v:V}{rows:List V}(h:aN J U e sz v rows)(hs:aa Z0 J){o:Ob}(hw:J iw=some o):aN (bg Z0 iw) U e sz v rows:=by
 rcases h with h|⟨id,h1,h2,h3⟩
 .exact .inl h
 .exact .inr ⟨id,h1,h2,aI.2 ⟨λe=>(by rw[e,hw]at h3;cases h3),hs.none h3⟩⟩
def Fp{l:List Nd}{rs:List Rm}(hD:W3 l rs){Z0 U:ag}{iw:Nat}{s:WS}{B:Int}(hJ:Sq l rs Z0 iw s U)(hB:Bd s B)(hB1:B<=576460752303423488)(a:Nat)(ha:a<l.length)(hn:s.atoms.length<=100000)(ZV:s.g'.length<=100000):
 aC prog 50 [.ptr iw 0 0,vI a] U λr Z'=>r=.PI []/\Sq l rs Z0 iw (WS.float rs s a l[a]) Z':=by
 obtain⟨va,vf,w1,Wh,U',hf2⟩:=hJ.row;obtain⟨ca,sa⟩:=Wh.vc;obtain⟨cf,sf⟩:=U'.vc;have R8:dY false va=some (.int .i64 s.atoms.length):=by rw[Wh.len];simp
 have Qf:=gi hD.Wy ha;have VD:=hD.span ha;obtain⟨har,W5⟩:=hD.room ha;have E':=jl l ha;unfold WS.float;generalize l[a]=n at*;refine e50.r (by simp[c50]) ?_;refine ad.mix 6 ?_;apply sR;simp only[go_sem,seval,c50,w1,ca,cf,ar,ai,aj,al,E',Nd.cells];refine ae λi4 Z4 s4 a4 f4=>?_;have w4':=s4 _ _ w1;have n4:=ao w1 f4;simp only[go_sem,seval,a4,w4',ab n4,ca,cf,R8,ar,ai,aj,al];generalize Tt:u' Z4 i4 _=Y4;have b4:Y4 i4=some ⟨27,20,[.agg (Nd.cells n)]⟩:=by rw[<-Tt];exact af
 rw[Nd.cells]at b4;have s4'':aa U Y4:=by rw[<-Tt];exact s4.az f4
 clear Tt;have w4:=s4'' _ _ w1;refine bj λi5 Z5 s5 a5 f5=>?_;have s5':=s4''.trans s5;have UP:=hJ.mono (s5'.az (o:=⟨123,7,[aS ⟨a,n.side,s.atoms.length,0,0,n.w,n.h⟩]⟩) (s4''.none f5));have XU:aS ⟨a,n.side,s.atoms.length,0,0,n.w,n.h⟩=.agg [vI a,vI n.side,vI s.atoms.length,vI 0,vI 0,vI n.w,vI n.h]:=rfl;rw[XU]at UP;simp only[go_sem,seval,a5,cd];generalize TZ:u' Z5 i5 _=Y5 at*;have b5:Y5 i5=some ⟨123,7,[.agg [vI a,vI n.side,vI s.atoms.length,vI 0,vI 0,vI n.w,vI n.h]]⟩:=by rw[<-TZ];exact af
 have w5:Y5 iw=some ⟨81,7,[.agg [va,vf,vI s.PJ,vI s.PS.y,vI s.PS.m,aM l,cE rs]]⟩:=by rw[<-TZ,ab (ao w4 f5)];exact s5 _ _ w4
 have s6:aa U Y5:=by rw[<-TZ];exact s5'.az (s4''.none f5)
 clear TZ;have hf5:=U'.mono s6;have hm:=hB.m1;have U1:=hB.m0;have Yn:=hB.y0;have hyB:=hB.yB;have hws:=Qf.w;have hhs:=Qf.h;have WX:=Ht vf s.g' hf5 hf2 ⟨a,n.side,s.atoms.length,0,0,n.w,n.h⟩ (s.PS.y+s.PS.m) (eB rs a) (by omega) (hB.W4 (by omega)) ⟨by omega,by omega⟩ (show Bq n.h from⟨by omega,by omega⟩) (show Bq n.w from⟨by omega,by omega⟩) VD.bq;rw[XU]at WX;have hpne:sN s.g' ⟨a,n.side,s.atoms.length,0,0,n.w,n.h⟩ (s.PS.y+s.PS.m) (eB rs a)≠[]:=by simp[sN]
 have hs05:=hJ.sub.trans s6;have w5o:=w5;generalize sN s.g' ⟨a,n.side,s.atoms.length,0,0,n.w,n.h⟩ (s.PS.y+s.PS.m) (eB rs a)=fs' at*;refine ad.Dp (by kernel_rfl) 8 (.leaf [[],[],[1],[2,1],[3,2,1],[4,3,2,1],[],[],[7],[8,7],[9,8,7],[10,9,8,7],[],[],[12,13,11,10,9,8,7],[5,6,11,14,4,3,2,1,10,9,8,7,12,13],[0,1,2,3,4,5,6,7,8,9,10,11,12,13,14,15],[16,0,1,2,3,4,5,6,7,8,9,10,11,12,13,14,15],[17,0,1,2,3,4,5,6,7,8,9,10,11,12,13,14,15,16],[18,15,0,1,2,3,4,5,6,7,8,9,10,11,12,13,14,17,16]] [0,1,2,3,4,5,6,7,8,9,10,12,13,11,14,15,16,17,18,19]) (by kernel_rfl) ?_;refine GT.ik (its:=[0,2,4,6,8,10,12,14,16,18,20,24,26,22,11,13,28,11,13,30,32,34,36,38]) (by kernel_rfl) ?_;refine RE.QS (n:=0) [22,11,13,28,11,13,30,32,34,36,38] [0,2,4,6,8,10,12,14,16,18,20,24,26] [⟨(.some 27),(.Qo (.t 0)),.none⟩,⟨(.some 28),(.Qo (.t 0)),.none⟩,⟨(.some 29),(.nilCheck (.t 28)),.none⟩,⟨(.some 30),(.PN .true 0 3 (.t 29)),.none⟩,⟨(.some 31),(.PN .false 1 1 (.t 30)),.none⟩,⟨(.some 32),(.load .false 1 (.t 31)),.none⟩,⟨(.some 33),(.load .true 7 (.t 5)),.none⟩,⟨(.some 34),(.Qo (.t 0)),.none⟩,⟨(.some 35),(.nilCheck (.t 34)),.none⟩,⟨(.some 36),(.PN .true 3 2 (.t 35)),.none⟩,⟨(.some 37),(.load .true 2 (.t 36)),.none⟩,⟨(.some 39),(.Qo (.t 0)),.none⟩,⟨(.some 40),(.Qo (.t 1)),.none⟩] rfl rfl ?_;apply sG;simp only[go_sem,seval,b5,w5,ca,cf,ar,ai];refine RE.ay rfl rfl rfl rfl rfl (Dx s.PS ⟨by omega,by omega⟩ ⟨by omega,by omega⟩ _) ?_;refine RE.Rl rfl rfl rfl rfl rfl trivial (by simp only[go_sem,seval,b5,w5,ca,cf,ar,ai]) ?_;refine RE.Rl rfl rfl rfl rfl rfl trivial (by simp only[go_sem,seval,b5,w5,ca,cf,ar,ai]) ?_;refine RE.ay rfl rfl rfl rfl rfl (yD UP a har W5) ?_;refine RE.Rl rfl rfl rfl rfl rfl trivial (by simp only[go_sem,seval,b5,w5,ca,cf,ar,ai]) ?_;refine RE.Rl rfl rfl rfl rfl rfl trivial (by simp only[go_sem,seval,b5,w5,ca,cf,ar,ai]) ?_;refine RE.call rfl rfl rfl rfl rfl WX ?_;rintro r Z7 ⟨s7,QH⟩;have w7:=s7 _ _ w5;replace b5:=s7 _ _ b5;replace w5:=s7 _ _ w5;obtain⟨cr,sr⟩:=QH.vc;refine RE.QS (n:=0) [] [32,34,36,38] [⟨(.some 43),(.nilCheck (.t 27)),.none⟩,⟨(.some 44),(.PN .true 0 3 (.t 43)),.none⟩,⟨(.some 45),(.PN .false 1 1 (.t 44)),.none⟩,⟨.none,(.store 1 (.t 45) (.t 42)),.none⟩] rfl rfl ?_;apply sG;simp only[go_sem,seval,b5,w5,ca,cf,ar,ai,cr,sr];apply sR;simp only[go_sem,seval];refine⟨_,_,aa.refl _,Wk.refl (aa.refl _) _,rfl,?_⟩;have hfa:=(Wh.mono s6).mono s7;exact⟨(hs05.trans s7).az hJ.no,hJ.no,va,r,af,hfa.Bc,(QH.pV hs05 w5o).Bc,λh=>absurd h hpne⟩
open Go.Proofs
section
variable {P:Program} {n:Nat} {st:St} {Q:St->Prop} {k:List It}
def Go.xu{i:aG}{l:List aG}{fx:VX}{xs:List VX}{f:FuncId}{caps:List V}{v:V}(hw:bl st.s i.g=some true)(ho:i.op=.call fx xs)
 (hf:fx.ev st.s=.fn f caps)(hc:∀Z1,aa st.U Z1->aC P f (xs.map (·.ev st.s)++caps) Z1 λr Z'=>r=v/\Z'=Z1)(h:Go P n (.d l k) ⟨aW st.s i.dst v,st.U⟩ Q):Go P n (.d (i::l) k) st Q:=by
 refine mc hw ?_;rw[ho];exact⟨f,caps,v,hf,λZ1 h1=>hc Z1 h1,h⟩
end
def jn{fs:List O'}{ws:List Int}{space high B:Int}{s:QL}(hB:∀f∈fs,f.y+f.h<=B)(h0:0<=high):∀(k i:Nat) (y:Int),∀x∈dz fs ws space high s k i y,y<=x.y/\x.y+high<=max y B+high*k
 |0,_,_,x,hx=>by simp[dz]at hx
 |k+1,i,y,x,hx=>by
  rw[dz]at hx;split at hx
  .have hr:=fV (w:=ws.getD i 0) (high:=high) (y:=y) (s:=s) hB;have e:(nR fs ws space high i y s).y=lk fs (ws.getD i 0) high s y:=rfl;have e2:high*((k+1:Nat):Int)=high*k+high:=by rw[Int.natCast_add,Int.mul_add];simp
   have hk:0<=high*(k:Int):=Int.mul_nonneg h0 (by omega);rcases cD.1 hx with rfl|hx
   .rw[e,e2];omega
   .have:=jn hB h0 k _ _ x hx;rw[e]at this;rw[e2];omega
  .cases hx
def Sq.nM{l:List Nd}{rs:List Rm}{Z0 U:ag}{iw i:Nat}{s:WS}{o:Ob}(hJ:Sq l rs Z0 iw s U)(hi:U i=some o)(h1:o.elem≠49)(h2:o.elem≠123)(h3:i≠iw):Sq l rs (u' Z0 i o) iw s U:=by
 obtain⟨va,vf,w1,g1,g2,g3⟩:=hJ.row;have key:∀{e sz:Nat} {v:V} {rows:List V},o.elem≠e->aN (bg Z0 iw) U e sz v rows->aN (bg (u' Z0 i o) iw) U e sz v rows:=λ{e sz v rows} he h=>by
  rcases h with h|⟨id,a1,a2,a3⟩
  .exact .inl h
  .have PZ:id≠i:=λe'=>by subst e';rw[a2]at hi;injection hi with hi;subst hi;exact he rfl
   exact .inr ⟨id,a1,a2,aI.2 ⟨(aI.1 a3).1,by rw[ab PZ];exact(aI.1 a3).2⟩⟩
 refine⟨λj p h=>?_,by rw[ab h3.symm];exact hJ.no,va,vf,w1,key h1 g1,key h2 g2,g3⟩;by_cases e:j=i
 .subst e;rw[af]at h;rw[hi];exact h
 .rw[ab e]at h;exact hJ.sub _ _ h
def Sq.narrow{l:List Nd}{rs:List Rm}{Z0 U:ag}{iw i:Nat}{s:WS}{o:Ob}(hJ:Sq l rs (u' Z0 i o) iw s U)(hi:Z0 i=none)(h3:i≠iw):Sq l rs Z0 iw s U:=by
 obtain⟨va,vf,w1,g1,g2,g3⟩:=hJ.row;have hs:aa Z0 (u' Z0 i o):=(aa.refl Z0).az hi;have key:∀{e sz:Nat} {v:V} {rows:List V},aN (bg (u' Z0 i o) iw) U e sz v rows->aN (bg Z0 iw) U e sz v rows:=λ{e sz v rows} h=>by
  rcases h with h|⟨id,a1,a2,a3⟩
  .exact .inl h
  .exact .inr ⟨id,a1,a2,aI.2 ⟨(aI.1 a3).1,hs.none (aI.1 a3).2⟩⟩
 exact⟨hs.trans hJ.sub,hs.none hJ.no,va,vf,w1,key g1,key g2,g3⟩
def j8{U:ag}{e sz id:Nat}{rows:List V}{i:Nat}(h:U id=some ⟨e,sz,rows⟩)(hi:i<rows.length):bL U sz (.own id 0 rows.length) (.int .i64 i)=some (.ptr id i 0):=by
 simp[bL,h,hi]
def gV(a:Nat)(h:Int)(s:WS)(L:List Ln):WS:=L.foldl (λs x=>s.put (eV a h x)) s
def Bj{a:Nat}{h:Int}{s:WS}{L:List Ln}{j:Nat}(hj:j<L.length):gV a h s (L.take (j+1))=(gV a h s (L.take j)).put (eV a h L[j]):=by
 unfold gV;rw[SO hj,ov];rfl
def qo(a:Nat)(h:Int):∀(L:List Ln) (s:WS),(gV a h s L).atoms.length=s.atoms.length+L.length
 |[],s=>by simp[gV]
 |x::L,s=>by
  have:=qo a h L (s.put (eV a h x));simp only[gV,iY]at this|-;rw[this];simp only[WS.put,fB,Rc,List.length_nil];omega
def Im{l:List Nd}{rs:List Rm}(hD:W3 l rs){Z0 U:ag}{iw:Nat}{s:WS}{B:Int}(hJ:Sq l rs Z0 iw s U)(hB:Bd s B)(hB1:B<=288230376151711744)(a:Nat)(ha:a<l.length)(hn:s.atoms.length<=100000)(ZV:s.g'.length<=100000)(Yj:l[a].words.length<=10000):
 aC prog 48 [.ptr iw 0 0,vI a] U λr Z'=>r=.PI []/\Sq l rs Z0 iw (WS.text rs s a l[a]) Z':=by
 obtain⟨va,vf,w1,Wh,U',hf2⟩:=hJ.row;obtain⟨ca,sa⟩:=Wh.vc;obtain⟨cf,sf⟩:=U'.vc;have Qf:=gi hD.Wy ha;have VD:=hD.span ha;obtain⟨har,W5⟩:=hD.room ha;have E':=jl l ha;unfold WS.text;generalize l[a]=n at*;have hwok:WOk n.words n.space:=⟨by omega,λx hx=>by have:=Qf.words x hx;omega,Qf.space.1,Qf.space.2⟩
 have hm:=hB.m1;have U1:=hB.m0;have Yn:=hB.y0;have hyB:=hB.yB;have W6:=Qf.line;refine e48.r (by simp[c48]) ?_;refine ad.mix 7 ?_;apply sR;simp only[go_sem,seval,c48,w1,ca,cf,ar,ai,aj,al,E',Nd.cells];refine ae λi4 Z4 s4 a4 f4=>?_;have w4':=s4 _ _ w1;have n4:=ao w1 f4;simp only[go_sem,seval,a4,w4',ab n4,ca,cf,ar,ai,aj,al];generalize Tt:u' Z4 i4 _=Y4;have b4:Y4 i4=some ⟨27,20,[.agg (Nd.cells n)]⟩:=by rw[<-Tt];exact af
 rw[Nd.cells]at b4;have Xz:aa U Y4:=by rw[<-Tt];exact s4.az f4
 clear Tt;have w4:=Xz _ _ w1;have hlen:vk Y4 vf (aJ s.g'):=(U'.mono Xz).Hm;have VJ:=hJ.mono Xz;refine Go.cN rfl rfl rfl (Dx s.PS ⟨by omega,by omega⟩ ⟨by omega,by omega⟩) ?_;apply sG;simp only[go_sem,seval];refine Go.xu rfl rfl rfl (λZ8 h8=>yD (VJ.mono h8) a har W5) ?_;apply sG;simp only[go_sem,seval];have hLl:=ju s.g' n.words n.space n.line (eB rs a) n.words.length 0 (s.PS.y+s.PS.m);have hLb:=jn (ws:=n.words) (space:=n.space) (s:=eB rs a) (λf hf=>(hB.fl f hf).yB) W6.1 n.words.length 0 (s.PS.y+s.PS.m);have C':=λZ8 (h8:aa Y4 Z8)=>(Hi vf s.g' (hlen.mono h8) n.words n.space n.line (s.PS.y+s.PS.m) (eB rs a) (by omega) (hB.W4 (by omega)) B (λf hf=>(hB.fl f hf).yB) (by omega) (by omega) (by omega) W6.1 W6.2 VD.bq hwok).LL λ_ _ h=>h.2.zn (v0:=pY (dz s.g' n.words n.space n.line (eB rs a) n.words.length 0 (s.PS.y+s.PS.m))) h.1 rfl;generalize dz s.g' n.words n.space n.line (eB rs a) n.words.length 0 (s.PS.y+s.PS.m)=L at*;refine Go.xu rfl rfl rfl (λZ8 h8=>C' Z8 h8) ?_;have hnL:dY false (pY L)=some (.int .i64 L.length):=by simp[pY,dY]
 apply sG;simp only[go_sem,seval,hnL];have h0i:Z0 i4=none:=hJ.sub.none f4;have hJw:=VJ.nM b4 (by simp) (by simp) n4.symm;have Tm:((n.words.length:Nat):Int)<=10000:=by omega
 have hmul:n.line*(n.words.length:Int)<=1099511627776*10000:=Int.mul_le_mul W6.2 Tm (by omega) (by omega);refine ad.loop (λm st=>∃j:Nat,j<=L.length/\m=L.length-j/\Sq l rs (u' Z0 i4 ⟨27,20,[.agg [vI n.kind,vI n.size,vI n.st.top,vI n.st.P0,vI n.st.PQ,vI n.st.H',vI n.st.QC,vI n.st.Qd,vI n.st.Qm,vI n.st.head,vI n.st.before,vI n.st.after,vI n.st.inside,vI n.st.clear,vI n.line,vI n.space,encI n.words,vI n.side,vI n.w,vI n.h]]⟩) iw (gV a n.line s (L.take j)) st.U/\
  st.s 0=.ptr iw 0 0/\st.s 1=vI a/\st.s 4=.ptr i4 0 0/\st.s 33=pY L/\st.s 34=vI L.length/\st.s 35=vI j) L.length ?_ ?_
 .exact⟨0,by omega,rfl,hJw,rfl,rfl,rfl,rfl,rfl,rfl⟩
 .rintro m ⟨S,J⟩ ⟨j,hj,rfl,Rt,t0,t1,t4,t33,t34,t35⟩;simp only at Rt t0 t1 t4 t33 t34 t35;refine ad.mix 7 ?_;have c4:=Rt.sub _ _ (af (id:=i4));by_cases C':j<L.length
  .have q:((j:Int)<L.length)=True:=PK;have Vr:∀U,bL U 5 (pY L) (.int .i64 j)=some (.rp (mv L[j])):=λU=>by simp[pY,bL,C']
   have Qn:=Bj (a:=a) (h:=n.line) (s:=s) C';have Qp:=hLb L[j] (QF C');have R8:=qo a n.line (L.take j) s;rw[jt]at R8;generalize L[j]=x at*;have XU:mv x=.agg [vI x.fr,vI x.to,vI x.x,vI x.y,vI x.w]:=rfl;apply sR;simp only[go_sem,seval,t0,t1,t4,t33,t34,t35,q,Vr,XU];refine ae λi6 Z6 s6 a6 f6=>?_;have d4:=s6 _ _ c4;have n46:=ao c4 f6;simp only[go_sem,seval,a6,d4,t0,t1,t4,ab n46,aj];refine ad.call rfl rfl rfl (Ex (Rt.mono (s6.az f6)) (eV a n.line x) (show Bq x.y from⟨by omega,by omega⟩) (show Bq n.line from⟨by omega,by omega⟩) (by omega)) ?_;rintro r Z' ⟨rfl,RX⟩;have r1:PM .i64 ((j:Int)+1):=ak;apply sR;simp only[go_sem,seval,t0,t1,t4,t33,t34,t35,r1];exact⟨_,by omega,j+1,by omega,rfl,by rw[Qn];exact RX,by simp[t0,t1,t4,t33,t34]⟩
  .have q:((j:Int)<L.length)=False:=PG;rw[kT (by omega)]at Rt;apply sR;simp only[go_sem,seval,t0,t1,t4,t33,t34,t35,q];exact⟨_,_,aa.refl _,Wk.refl (aa.refl _) _,rfl,Rt.narrow h0i n4.symm⟩
def nd0:Nd:=⟨0,0,Rn.zero,0,0,[],0,0,0⟩
def Qb(l:List Nd)(a:Nat):Nd:=l.getD a nd0
def iU{l:List Nd}{a:Nat}(h:a<l.length):Qb l a=l[a]:=by simp[Qb,h]
def ee(l:List Nd)(rs:List Rm):Nat->Nat->Nat->WS->WS
 |0,_,_,s=>s
 |k+1,a,e,s=>if a<e then ee l rs k (a+(Qg l a).toNat) e
   (if(Qb l a).kind=1 then(ee l rs k (a+1) (a+(Qg l a).toNat) (s.enter (Qb l a).st)).leave (Qb l a).st
    else if(Qb l a).kind=2 then s.text rs a (Qb l a)else if(Qb l a).kind=3 then WS.mono l rs s a (Qb l a)else s.float rs a (Qb l a))else s
def nB{l:List Nd}{rs:List Rm}{e:Nat}(he:e<=l.length):∀(k j a:Nat) (s:WS),e-a<=k->e-a<=j->cj l a e=true->ee l rs k a e s=ee l rs j a e s
 |0,0,_,_,_,_,_=>rfl
 |0,j+1,a,s,h,_,_=>by rw[ee,ee,aF (by omega)]
 |k+1,0,a,s,_,h,_=>by rw[ee,ee,aF (by omega)]
 |k+1,j+1,a,s,h,h',hr=>by
  rw[ee,ee];by_cases C':a<e
  .obtain⟨h1,h2⟩:=de he hr (Qh a) C';obtain⟨h3,h4⟩:=dW he hr C';rw[aE C',aE C',nB (e:=a+(Qg l a).toNat) (by omega) k j _ _ (by omega) (by omega) h4,nB he k j _ _ (by omega) (by omega) h3]
  .rw[aF C',aF C']
def Rg(l:List Nd)(a e:Nat):Nat:=(((l.take e).drop a).map λn=>4+n.words.length).sum
def Ik(l:List Nd)(a:Nat):Rg l a a=0:=by unfold Rg;rw[List.drop_of_length_le (by rw[jt];omega)];rfl
def lf{l:List Nd}{a m e:Nat}(h1:a<=m)(h2:m<=e)(h3:e<=l.length):Rg l a e=Rg l a m+Rg l m e:=by
 unfold Rg;rw[<-List.sum_append_nat,<-eo];congr 2;have e1:l.take m=(l.take e).take m:=by rw[List.take_take,Nat.min_eq_left h2]
 rw[e1]
 conv=>lhs;rw[<-nG m (l.take e)]
 rw[Iq (by rw[jt,jt];omega)]
def Iy{l:List Nd}{a:Nat}(h:a<l.length):Rg l a (a+1)=4+l[a].words.length:=by
 unfold Rg;rw[SO h,Iq (by rw[jt];omega),List.drop_of_length_le (by rw[jt];omega)];simp
def uu{l:List Nd}{a e:Nat}(h1:a<e)(h3:e<=l.length):Rg l a e=4+(Qb l a).words.length+Rg l (a+1) e:=by
 rw[lf (Nat.le_succ a) h1 h3,Iy (by omega),iU (by omega)]
structure fG(s:WS)(C:Nat):Prop where
 bd:Bd s (1099511627776*(C:Int))
 at':s.atoms.length<=C
 fl:s.g'.length<=C
def fG.more{s:WS}{C D:Nat}(h:fG s C)(hD:C<=D):fG s D:=⟨h.bd.mono (by omega),iq h.at' hD,iq h.fl hD⟩
def kP{l:List Nd}{rs:List Rm}{s:WS}{C:Nat}(h:fG s C){n:Nd}(hn:Xx n)(a:Nat):fG (WS.mono l rs s a n) (C+1):=by
 obtain⟨⟨hf,h1,h2,h3,h4⟩,h5,h6⟩:=h;have hyr:=fV (w:=n.w) (high:=n.h) (y:=s.PS.y+s.PS.m) (s:=eB rs a) (λf Ts=>(hf f Ts).yB);have hh:=hn.h;refine⟨⟨λf Ts=>(hf f Ts).mono (by omega),?_,?_,?_,?_⟩,?_,?_⟩<;>simp only[WS.mono,WS.put,fB,Rc,List.length_nil]<;>omega
def jM{l:List Nd}{rs:List Rm}(hD:W3 l rs){s:WS}{C:Nat}(h:fG s C){a:Nat}(ha:a<l.length){n:Nd}(hn:Xx n)(hk:n.kind=4):fG (s.float rs a n) (C+1):=by
 obtain⟨⟨hf,h1,h2,h3,h4⟩,h5,h6⟩:=h;have hb:=hn.box (.inr hk);have hw:=hn.w;have hh:=hn.h;refine⟨⟨λf Ts=>?_,h1,h2,h3,by simp only[WS.float];omega⟩,by simp only[WS.float];omega,by simp only[WS.float,sN,fB,Rc,List.length_nil];omega⟩;exact(I6 (f:=⟨a,n.side,s.atoms.length,0,0,n.w,n.h⟩) hf (hD.span ha) (by omega) (by omega) (by simp only;omega) (by simp only;omega) (by simp only;omega) (by simp only;omega) f Ts).mono (by omega)
def kY{rs:List Rm}{s:WS}{C:Nat}(h:fG s C){n:Nd}(hn:Xx n)(a:Nat):fG (s.text rs a n) (C+n.words.length):=by
 obtain⟨⟨hf,h1,h2,h3,h4⟩,h5,h6⟩:=h;have hl:=hn.line;unfold WS.text;have hLl:=ju s.g' n.words n.space n.line (eB rs a) n.words.length 0 (s.PS.y+s.PS.m);have hLb:=jn (ws:=n.words) (space:=n.space) (s:=eB rs a) (λf Ts=>(hf f Ts).yB) hl.1 n.words.length 0 (s.PS.y+s.PS.m);generalize dz s.g' n.words n.space n.line (eB rs a) n.words.length 0 (s.PS.y+s.PS.m)=L at*;have hmul:n.line*(n.words.length:Int)<=1099511627776*(n.words.length:Int):=Int.mul_le_mul_of_nonneg_right hl.2 (by omega);have U1:0<=n.line*(n.words.length:Int):=Int.mul_nonneg hl.1 (by omega);have key:∀(L:List Ln) (t:WS),(∀x∈L,s.PS.y+s.PS.m<=x.y/\x.y+n.line<=max (s.PS.y+s.PS.m) (1099511627776*(C:Int))+n.line*(n.words.length:Int))->t.g'=s.g'->0<=t.PS.y->0<=t.PS.m->t.PS.m<=1099511627776->
  t.PS.y+t.PS.m<=1099511627776*((C+n.words.length:Nat):Int)->(gV a n.line t L).g'=s.g'/\0<=(gV a n.line t L).PS.y/\0<=(gV a n.line t L).PS.m/\(gV a n.line t L).PS.m<=1099511627776/\(gV a n.line t L).PS.y+(gV a n.line t L).PS.m<=1099511627776*((C+n.words.length:Nat):Int):=by
  intro L
  induction L with
  |nil=>intro t _ g1 g2 g3 g4 g5;exact⟨g1,g2,g3,g4,g5⟩
  |cons x L ih=>
   intro t hx g1 g2 g3 g4 g5;have hx0:=hx x (by simp);exact ih (t.put (eV a n.line x)) (λy hy=>hx y (by simp[hy])) g1 (by simp only[WS.put,eV];omega) (by simp[WS.put]) (by simp[WS.put]) (by simp only[WS.put,eV];omega)
 obtain⟨k1,k2,k3,k4,k5⟩:=key L s hLb rfl h1 h2 h3 (by omega);have R8:=qo a n.line L s;refine⟨⟨λf Ts=>(hf f ?_).mono (by omega),k2,k3,k4,k5⟩,?_,?_⟩
 .have:f∈(gV a n.line s L).g':=Ts;rw[k1]at this;exact this
 .show(gV a n.line s L).atoms.length<=_;omega
 .show(gV a n.line s L).g'.length<=_;rw[k1];omega
def eS{s:WS}{C:Nat}(h:fG s C){t:Rn}(ht:SOk t):fG (s.enter t) (C+2):=⟨(h.bd.enter ht).mono (by omega),by have:=h.at';simp only[WS.enter];omega,by have:=h.fl;simp only[WS.enter];omega⟩
def jS{s:WS}{C:Nat}(h:fG s C){t:Rn}(ht:SOk t):fG (s.leave t) (C+2):=⟨(h.bd.leave ht).mono (by omega),by have:=h.at';simp only[WS.leave];omega,by have:=h.fl;simp only[WS.leave];omega⟩
def gn{l:List Nd}{rs:List Rm}(hD:W3 l rs):∀(k a e:Nat) (s:WS) (C:Nat),e-a<=k->a<=e->e<=l.length->cj l a e=true->fG s C->fG (ee l rs k a e s) (C+Rg l a e)
 |0,a,e,s,C,_,Vm,_,_,h=>h.more (Nat.le_add_right _ _)
 |k+1,a,e,s,C,hk,Vm,he,hr,h=>by
  rw[ee];by_cases C':a<e
  .rw[aE C'];obtain⟨h1,h2⟩:=de he hr (Qh a) C';obtain⟨h3,h4⟩:=dW he hr C';have Qf:Xx (Qb l a):=by rw[iU (by omega)];exact gi hD.Wy (by omega)
   have XI:Rg l a e=Rg l a (a+(Qg l a).toNat)+Rg l (a+(Qg l a).toNat) e:=lf (by omega) (by omega) he;have Yu:Rg l a (a+(Qg l a).toNat)=4+(Qb l a).words.length+Rg l (a+1) (a+(Qg l a).toNat):=uu (by omega) (by omega);have step:∀t,fG t (C+Rg l a (a+(Qg l a).toNat))->fG (ee l rs k (a+(Qg l a).toNat) e t) (C+Rg l a e):=λt ht=>by
    rw[XI,<-Nat.add_assoc];exact gn hD k _ e t _ (by omega) (by omega) he h3 ht
   refine step _ ?_;rw[Yu];split
   .have:=jS (gn hD k (a+1) (a+(Qg l a).toNat) _ _ (by omega) (by omega) (by omega) h4 (eS h Qf.st)) Qf.st;exact this.more (by omega)
   .split
    .exact(kY h Qf a).more (by omega)
    .split
     .exact(kP h Qf a).more (by omega)
     .rename_i g1 g2 g3;have hk4:(Qb l a).kind=4:=by have:=Qf.kind;omega
      exact(jM hD h (by omega) Qf hk4).more (by omega)
  .rw[aF C'];exact h.more (Nat.le_add_right _ _)
open Go.Proofs
def M3(l:List Nd)(rs:List Rm)(iw:Nat)(a e:Nat)(C:Nat):Prop:=
 ∀(s:WS) (Z0 U:ag),Sq l rs Z0 iw s U->fG s C->aC prog 20 [.ptr iw 0 0,vI a,vI e] U λr Z'=>r=.PI []/\Sq l rs Z0 iw (ee l rs (e-a) a e s) Z'
def Sq.EC{l:List Nd}{rs:List Rm}{Z0 J:ag}{iw:Nat}{s:WS}(hJ:Sq l rs Z0 iw s J){va vf:V}{y m:Int}(w:J iw=some ⟨81,7,[.agg [va,vf,vI s.PJ,vI y,vI m,aM l,cE rs]]⟩)(p:Pn):
 Sq l rs Z0 iw { s with PS:=p } (u' J iw ⟨81,7,[.agg [va,vf,vI s.PJ,vI p.y,vI p.m,aM l,cE rs]]⟩):=by
 obtain⟨va',T1,w',g1,g2,g3⟩:=hJ.row;rw[w]at w';simp only[bb,Ob.mk.injEq,List.cons.injEq,V.agg.injEq,true_and,and_true]at w';obtain⟨rfl,rfl,_⟩:=w';exact⟨hJ.sub.az hJ.no,hJ.no,va,vf,af,g1.Bc,g2.Bc,g3⟩
def jB(s:Rn):V:=.agg [vI s.top,vI s.P0,vI s.PQ,vI s.H',vI s.QC,vI s.Qd,vI s.Qm,vI s.head,vI s.before,vI s.after,vI s.inside,vI s.clear]
def E8{l:List Nd}{rs:List Rm}(hD:W3 l rs){Z0 U:ag}{iw:Nat}{s:WS}{C:Nat}(hJ:Sq l rs Z0 iw s U)(hI:fG s C)(hC:C<=50000)(a:Nat)(ha:a<l.length)(QD:M3 l rs iw (a+1) (a+(Qg l a).toNat) (C+2))(hC2:C+2+Rg l (a+1) (a+(Qg l a).toNat)<=50000)
 (RM:a+(Qg l a).toNat<=l.length)(hrB:cj l (a+1) (a+(Qg l a).toNat)=true)(R6:1<=Qg l a):
 aC prog 47 [.ptr iw 0 0,vI a] U λr Z'=>r=.PI []/\Sq l rs Z0 iw ((ee l rs (a+(Qg l a).toNat-(a+1)) (a+1) (a+(Qg l a).toNat) (s.enter l[a].st)).leave l[a].st) Z':=by
 obtain⟨va,vf,w1,Wh,U',hf2⟩:=hJ.row;obtain⟨ca,sa⟩:=Wh.vc;obtain⟨cf,sf⟩:=U'.vc;have Qf:=gi hD.Wy ha;have E':=jl l ha;have hszn:=lz ha;have YQ:=hD.tZ;have q3:((a:Int)+l[a].size)=((a+(Qg l a).toNat:Nat):Int):=by rw[hszn];omega
 have q2:((a:Int)+1)=((a+1:Nat):Int):=by omega
 have hB:=hI.bd;have hm:=hB.m1;have U1:=hB.m0;have Yn:=hB.y0;have hyB:=hB.yB;have Su:=hI.fl;refine e47.r (by simp[c47]) ?_;refine ad.mix 7 ?_;apply sR;simp only[go_sem,seval,c47,w1,ca,cf,ar,ai,aj,al,E',Nd.cells];refine ae λi4 Z4 s4 a4 f4=>?_;have w4':=s4 _ _ w1;have n4:=ao w1 f4;simp only[go_sem,seval,a4,w4',ab n4,ca,cf,ar,ai,aj,al];generalize Tt:u' Z4 i4 _=Y4;have b4:Y4 i4=some ⟨24,12,[jB l[a].st]⟩:=by rw[<-Tt];exact af
 have Xz:aa U Y4:=by rw[<-Tt];exact s4.az f4
 clear Tt;have w4:=Xz _ _ w1;have hlen:vk Y4 vf (aJ s.g'):=(U'.mono Xz).Hm;have h0i:Z0 i4=none:=hJ.sub.none f4;have VJ:=(hJ.mono Xz).nM b4 (by simp) (by simp) n4.symm;refine Go.xu rfl rfl rfl (λZ8 h8=>aP.zT (args':=[aJ s.g',vI l[a].st.clear]) ⟨(hlen.mono h8).at,TT _,trivial⟩ (zF s.g' l[a].st.clear (by omega) (hB.W4 (by omega))) rfl) ?_;apply sG;simp only[go_sem,seval];obtain⟨s1,U2⟩:∃x,x=s.enter l[a].st:=⟨_,rfl⟩
 have hI1:=eS hI Qf.st;rw[<-U2]at hI1|-;unfold WS.enter at U2;simp only at U2;cases X6:(dV (lU l[a].st.clear) s.g').2
 .rw[X6]at U2;simp only[gj,↓reduceIte]at U2;simp only[go_sem,seval,cd];obtain⟨p,hp⟩:∃p:Pn,p=s.PS:=⟨_,rfl⟩
  have Zm:s1={ s with PS:=ek p l[a].st.top l[a].st.PQ }:=by rw[U2,hp]
  have UP:Sq l rs (u' Z0 i4 ⟨24,12,[jB l[a].st]⟩) iw { s with PS:=p } Y4:=by rw[hp];exact VJ
  have w5:Y4 iw=some ⟨81,7,[.agg [va,vf,vI s.PJ,vI p.y,vI p.m,aM l,cE rs]]⟩:=by rw[hp];exact w4
  have b5:=b4;obtain⟨hp1,hp2,hp3,hp4⟩:0<=p.y/\0<=p.m/\p.m<=1099511627776/\p.y+p.m<=1099511627776*(C:Int):=by rw[hp];exact⟨Yn,U1,hm,hyB⟩
  clear hp;generalize Y4=Y5 at*;rw[jB]at b5;have P8:=Qf.st;have k1:=P8.top;have k2:=P8.PQ;have k3:=P8.P0;have k4:=P8.H';refine ad.rR (by kernel_rfl) [0,1,2,3,4,5,6,7,8,9,10,11,12] [[],[],[1],[1,2],[1,2,3],[],[5],[],[7],[1,2,3,4,5,6,7,8],[0,1,2,3,4,5,6,7,8,9],[0,1,2,3,4,5,6,7,8,9,10],[0,1,2,3,4,5,6,7,8,9,10,11]] [0,2,4,6,8,10,12,14,16,18,20,22,24] (by kernel_rfl) (by kernel_rfl) ?_;refine RE.QS (n:=0) [18,20,22,24] [0,2,4,6,8,10,12,14,16] [⟨(.some 36),(.Qo (.t 0)),.none⟩,⟨(.some 37),(.Qo (.t 0)),.none⟩,⟨(.some 38),(.nilCheck (.t 37)),.none⟩,⟨(.some 39),(.PN .true 3 2 (.t 38)),.none⟩,⟨(.some 40),(.load .true 2 (.t 39)),.none⟩,⟨(.some 41),(.PN .false 0 1 (.t 4)),.none⟩,⟨(.some 42),(.load .false 1 (.t 41)),.none⟩,⟨(.some 43),(.PN .false 2 1 (.t 4)),.none⟩,⟨(.some 44),(.load .false 1 (.t 43)),.none⟩] rfl rfl ?_;apply sG;simp only[go_sem,seval,w5,b5,ca,cf,ar,ai];refine RE.ay rfl rfl rfl rfl rfl (CA p l[a].st.top l[a].st.PQ ⟨by omega,by omega⟩ ⟨by omega,by omega⟩ ⟨by omega,by omega⟩ ⟨by omega,by omega⟩ _) ?_;refine RE.QS (n:=0) [] [20,22,24] [⟨(.some 46),(.nilCheck (.t 36)),.none⟩,⟨(.some 47),(.PN .true 3 2 (.t 46)),.none⟩,⟨.none,(.store 2 (.t 47) (.t 45)),.none⟩] rfl rfl ?_;apply sG;simp only[go_sem,seval,w5,gE,ca,cf,ar,ai];have UQ:=UP.EC w5 (ek p l[a].st.top l[a].st.PQ);rw[<-Zm]at UQ;have r1:PM .i64 ((a:Int)+1):=ak;have r2:PM .i64 ((a:Int)+l[a].size):=ak;have w6:=af (U:=Y5) (id:=iw) (o:=⟨81,7,[.agg [va,vf,vI s.PJ,vI (ek p l[a].st.top l[a].st.PQ).y,vI (ek p l[a].st.top l[a].st.PQ).m,aM l,cE rs]]⟩);have hc:=QD s1 _ _ UQ hI1;rw[<-q2,<-q3]at hc;generalize u' Y5 iw ⟨81,7,[.agg [va,vf,vI s.PJ,vI (ek p l[a].st.top l[a].st.PQ).y,vI (ek p l[a].st.top l[a].st.PQ).m,aM l,cE rs]]⟩=Y6 at*;apply sR;simp only[go_sem,seval,w6,E',Nd.cells,r1,r2,ca,cf,ar,ai,aj];refine ad.call rfl rfl rfl hc ?_;rintro r Z7 ⟨rfl,Yo⟩;have hI7:=gn hD (a+(Qg l a).toNat-(a+1)) (a+1) (a+(Qg l a).toNat) s1 _ (Qh _) (by omega) RM hrB hI1;have b7:=Yo.sub _ _ (af (id:=i4));rw[jB]at b7;generalize ee l rs (a+(Qg l a).toNat-(a+1)) (a+1) (a+(Qg l a).toNat) s1=s2 at*;obtain⟨va7,vf7,w7,g71,g72,_⟩:=Yo.row;obtain⟨ca7,_⟩:=g71.vc;obtain⟨cf7,_⟩:=g72.vc;have m1:=hI7.bd.m1;have m2:=hI7.bd.m0;have m3:=hI7.bd.y0;have m4:=hI7.bd.yB;apply sR;simp only[go_sem,seval,cd];refine ad.rR (by kernel_rfl) [0,1,2,3,4,5,6,7,8,9,10,11,12] [[],[],[1],[1,2],[1,2,3],[],[5],[],[7],[1,2,3,4,5,6,7,8],[0,1,2,3,4,5,6,7,8,9],[0,1,2,3,4,5,6,7,8,9,10],[0,1,2,3,4,5,6,7,8,9,10,11]] [0,2,4,6,8,10,12,14,16,18,20,22,24] (by kernel_rfl) (by kernel_rfl) ?_;refine RE.QS (n:=0) [18,20,22,24] [0,2,4,6,8,10,12,14,16] [⟨(.some 62),(.Qo (.t 0)),.none⟩,⟨(.some 63),(.Qo (.t 0)),.none⟩,⟨(.some 64),(.nilCheck (.t 63)),.none⟩,⟨(.some 65),(.PN .true 3 2 (.t 64)),.none⟩,⟨(.some 66),(.load .true 2 (.t 65)),.none⟩,⟨(.some 67),(.PN .false 1 1 (.t 4)),.none⟩,⟨(.some 68),(.load .false 1 (.t 67)),.none⟩,⟨(.some 69),(.PN .false 3 1 (.t 4)),.none⟩,⟨(.some 70),(.load .false 1 (.t 69)),.none⟩] rfl rfl ?_;apply sG;simp only[go_sem,seval,w7,b7,ca7,cf7,ar,ai];refine RE.ay rfl rfl rfl rfl rfl (Cv s2.PS l[a].st.P0 l[a].st.H' ⟨by omega,by omega⟩ ⟨by omega,by omega⟩ ⟨by omega,by omega⟩ ⟨by omega,by omega⟩ _) ?_;refine RE.QS (n:=0) [] [20,22,24] [⟨(.some 72),(.nilCheck (.t 62)),.none⟩,⟨(.some 73),(.PN .true 3 2 (.t 72)),.none⟩,⟨.none,(.store 2 (.t 73) (.t 71)),.none⟩] rfl rfl ?_;apply sG;simp only[go_sem,seval,w7,gE,ca7,cf7,ar,ai];apply sR;simp only[go_sem,seval];exact⟨_,_,aa.refl _,Wk.refl (aa.refl _) _,rfl,(Yo.EC w7 (lF s2.PS l[a].st.P0 l[a].st.H')).narrow h0i n4.symm⟩
 .rw[X6]at U2;simp only[↓reduceIte]at U2;obtain⟨f,hfm,e1,_⟩:=lG X6;have e2:(lU l[a].st.clear f).1=f.y+f.h:=rfl;have Uv:=hB.fl f hfm;generalize (dV (lU l[a].st.clear) s.g').1=low at*;simp only[go_sem,seval,w4,ca,cf,ar,ai];refine ad.ay rfl rfl rfl (FH s.PS low ⟨by omega,by omega⟩ ⟨by omega,by omega⟩ _) ?_;apply sR;simp only[go_sem,seval,w4,gE,ca,cf,ar,ai,cd];obtain⟨p,hp⟩:∃p:Pn,p=jh s.PS low:=⟨_,rfl⟩
  rw[<-hp]at U2|-;have Zm:=U2;have UP:=VJ.EC w4 p;have w5:=af (U:=Y4) (id:=iw) (o:=⟨81,7,[.agg [va,vf,vI s.PJ,vI p.y,vI p.m,aM l,cE rs]]⟩);have b5:u' Y4 iw ⟨81,7,[.agg [va,vf,vI s.PJ,vI p.y,vI p.m,aM l,cE rs]]⟩ i4=some ⟨24,12,[jB l[a].st]⟩:=by rw[ab n4.symm];exact b4
  obtain⟨hp1,hp2,hp3,hp4⟩:0<=p.y/\0<=p.m/\p.m<=1099511627776/\p.y+p.m<=1099511627776*(C:Int):=by
   rw[hp];have hy:=Uv.yB;have Yn:=Uv.y0;have hh0:=Uv.h0;unfold jh;split<;>(try simp only)<;>omega
  clear hp;generalize u' Y4 iw ⟨81,7,[.agg [va,vf,vI s.PJ,vI p.y,vI p.m,aM l,cE rs]]⟩=Y5 at*;rw[jB]at b5;have P8:=Qf.st;have k1:=P8.top;have k2:=P8.PQ;have k3:=P8.P0;have k4:=P8.H';refine ad.rR (by kernel_rfl) [0,1,2,3,4,5,6,7,8,9,10,11,12] [[],[],[1],[1,2],[1,2,3],[],[5],[],[7],[1,2,3,4,5,6,7,8],[0,1,2,3,4,5,6,7,8,9],[0,1,2,3,4,5,6,7,8,9,10],[0,1,2,3,4,5,6,7,8,9,10,11]] [0,2,4,6,8,10,12,14,16,18,20,22,24] (by kernel_rfl) (by kernel_rfl) ?_;refine RE.QS (n:=0) [18,20,22,24] [0,2,4,6,8,10,12,14,16] [⟨(.some 36),(.Qo (.t 0)),.none⟩,⟨(.some 37),(.Qo (.t 0)),.none⟩,⟨(.some 38),(.nilCheck (.t 37)),.none⟩,⟨(.some 39),(.PN .true 3 2 (.t 38)),.none⟩,⟨(.some 40),(.load .true 2 (.t 39)),.none⟩,⟨(.some 41),(.PN .false 0 1 (.t 4)),.none⟩,⟨(.some 42),(.load .false 1 (.t 41)),.none⟩,⟨(.some 43),(.PN .false 2 1 (.t 4)),.none⟩,⟨(.some 44),(.load .false 1 (.t 43)),.none⟩] rfl rfl ?_;apply sG;simp only[go_sem,seval,w5,b5,ca,cf,ar,ai];refine RE.ay rfl rfl rfl rfl rfl (CA p l[a].st.top l[a].st.PQ ⟨by omega,by omega⟩ ⟨by omega,by omega⟩ ⟨by omega,by omega⟩ ⟨by omega,by omega⟩ _) ?_;refine RE.QS (n:=0) [] [20,22,24] [⟨(.some 46),(.nilCheck (.t 36)),.none⟩,⟨(.some 47),(.PN .true 3 2 (.t 46)),.none⟩,⟨.none,(.store 2 (.t 47) (.t 45)),.none⟩] rfl rfl ?_;apply sG;simp only[go_sem,seval,w5,gE,ca,cf,ar,ai];have UQ:=UP.EC w5 (ek p l[a].st.top l[a].st.PQ);rw[<-Zm]at UQ;have r1:PM .i64 ((a:Int)+1):=ak;have r2:PM .i64 ((a:Int)+l[a].size):=ak;have w6:=af (U:=Y5) (id:=iw) (o:=⟨81,7,[.agg [va,vf,vI s.PJ,vI (ek p l[a].st.top l[a].st.PQ).y,vI (ek p l[a].st.top l[a].st.PQ).m,aM l,cE rs]]⟩);have hc:=QD s1 _ _ UQ hI1;rw[<-q2,<-q3]at hc;generalize u' Y5 iw ⟨81,7,[.agg [va,vf,vI s.PJ,vI (ek p l[a].st.top l[a].st.PQ).y,vI (ek p l[a].st.top l[a].st.PQ).m,aM l,cE rs]]⟩=Y6 at*;apply sR;simp only[go_sem,seval,w6,E',Nd.cells,r1,r2,ca,cf,ar,ai,aj];refine ad.call rfl rfl rfl hc ?_;rintro r Z7 ⟨rfl,Yo⟩;have hI7:=gn hD (a+(Qg l a).toNat-(a+1)) (a+1) (a+(Qg l a).toNat) s1 _ (Qh _) (by omega) RM hrB hI1;have b7:=Yo.sub _ _ (af (id:=i4));rw[jB]at b7;generalize ee l rs (a+(Qg l a).toNat-(a+1)) (a+1) (a+(Qg l a).toNat) s1=s2 at*;obtain⟨va7,vf7,w7,g71,g72,_⟩:=Yo.row;obtain⟨ca7,_⟩:=g71.vc;obtain⟨cf7,_⟩:=g72.vc;have m1:=hI7.bd.m1;have m2:=hI7.bd.m0;have m3:=hI7.bd.y0;have m4:=hI7.bd.yB;apply sR;simp only[go_sem,seval,cd];refine ad.rR (by kernel_rfl) [0,1,2,3,4,5,6,7,8,9,10,11,12] [[],[],[1],[1,2],[1,2,3],[],[5],[],[7],[1,2,3,4,5,6,7,8],[0,1,2,3,4,5,6,7,8,9],[0,1,2,3,4,5,6,7,8,9,10],[0,1,2,3,4,5,6,7,8,9,10,11]] [0,2,4,6,8,10,12,14,16,18,20,22,24] (by kernel_rfl) (by kernel_rfl) ?_;refine RE.QS (n:=0) [18,20,22,24] [0,2,4,6,8,10,12,14,16] [⟨(.some 62),(.Qo (.t 0)),.none⟩,⟨(.some 63),(.Qo (.t 0)),.none⟩,⟨(.some 64),(.nilCheck (.t 63)),.none⟩,⟨(.some 65),(.PN .true 3 2 (.t 64)),.none⟩,⟨(.some 66),(.load .true 2 (.t 65)),.none⟩,⟨(.some 67),(.PN .false 1 1 (.t 4)),.none⟩,⟨(.some 68),(.load .false 1 (.t 67)),.none⟩,⟨(.some 69),(.PN .false 3 1 (.t 4)),.none⟩,⟨(.some 70),(.load .false 1 (.t 69)),.none⟩] rfl rfl ?_;apply sG;simp only[go_sem,seval,w7,b7,ca7,cf7,ar,ai];refine RE.ay rfl rfl rfl rfl rfl (Cv s2.PS l[a].st.P0 l[a].st.H' ⟨by omega,by omega⟩ ⟨by omega,by omega⟩ ⟨by omega,by omega⟩ ⟨by omega,by omega⟩ _) ?_;refine RE.QS (n:=0) [] [20,22,24] [⟨(.some 72),(.nilCheck (.t 62)),.none⟩,⟨(.some 73),(.PN .true 3 2 (.t 72)),.none⟩,⟨.none,(.store 2 (.t 73) (.t 71)),.none⟩] rfl rfl ?_;apply sG;simp only[go_sem,seval,w7,gE,ca7,cf7,ar,ai];apply sR;simp only[go_sem,seval];exact⟨_,_,aa.refl _,Wk.refl (aa.refl _) _,rfl,(Yo.EC w7 (lF s2.PS l[a].st.P0 l[a].st.H')).narrow h0i n4.symm⟩
open Go.Proofs
def DJ{l:List Nd}{rs:List Rm}{b e:Nat}(he:e<=l.length)(hr:cj l b e=true)(C':b<e)(s:WS):
 ee l rs (e-b) b e s=ee l rs (e-(b+(Qg l b).toNat)) (b+(Qg l b).toNat) e
  (if(Qb l b).kind=1 then(ee l rs (b+(Qg l b).toNat-(b+1)) (b+1) (b+(Qg l b).toNat) (s.enter (Qb l b).st)).leave (Qb l b).st
   else if(Qb l b).kind=2 then s.text rs b (Qb l b)else if(Qb l b).kind=3 then WS.mono l rs s b (Qb l b)else s.float rs b (Qb l b)):=by
 obtain⟨h1,h2⟩:=de he hr (Qh b) C';obtain⟨h3,h4⟩:=dW he hr C';rw[show e-b=(e-b-1)+1 by omega,ee,aE C',nB (e:=b+(Qg l b).toNat) (by omega) (e-b-1) _ _ _ (by omega) (Qh _) h4,nB he (e-b-1) _ _ _ (by omega) (Qh _) h3]
def L9{l:List Nd}{rs:List Rm}(hD:W3 l rs)(Yj:∀n∈l,n.words.length<=10000){iw:Nat}:∀(m a e C:Nat),e-a<m->a<=e->e<=l.length->cj l a e=true->C+Rg l a e<=50000->M3 l rs iw a e C:=by
 intro m
 induction m with
 |zero=>intro a e C h;omega
 |succ m ih=>?_
 intro a e C hm Vm he hrB hC s Z0 U hJ hI;have YQ:=hD.tZ;refine e20.r (by simp[c20]) ?_;refine ad.mix 7 ?_;obtain⟨va0,vf0,w0,_,_,_⟩:=hJ.row;have UI:∀f:FuncId,(V.bm f [.ptr iw 0 0]).cells=[.bm f [.ptr iw 0 0]]:=λ_=>rfl;have Qp:∀f:FuncId,(V.bm f [.ptr iw 0 0]).stays=true:=λ_=>rfl;have VS:V.Rh.cells=[.Rh]:=rfl;apply sR;simp only[go_sem,seval,c20,UI,Qp,VS];refine ae λi6 Z6 s6 a6 f6=>?_;have n6:=ao w0 f6;simp only[go_sem,seval,a6,UI,Qp,VS];generalize hq6:u' Z6 i6 _=Y6;have b6:Y6 i6=some ⟨133,5,[.agg [.Rh,.bm 47 [.ptr iw 0 0],.bm 48 [.ptr iw 0 0],.bm 49 [.ptr iw 0 0],.bm 50 [.ptr iw 0 0]]]⟩:=by rw[<-hq6];exact af
 have s6':aa U Y6:=by rw[<-hq6];exact s6.az f6
 clear hq6;have h0i:Z0 i6=none:=hJ.sub.none f6;have UQ:=(hJ.mono s6').nM b6 (by simp) (by simp) n6.symm;refine ad.loop (λq st=>∃(b:Nat) (s':WS),q=e-b/\a<=b/\b<=e/\cj l b e=true/\ee l rs (e-a) a e s=ee l rs (e-b) b e s'/\fG s' (C+Rg l a b)/\
  Sq l rs (u' Z0 i6 ⟨133,5,[.agg [.Rh,.bm 47 [.ptr iw 0 0],.bm 48 [.ptr iw 0 0],.bm 49 [.ptr iw 0 0],.bm 50 [.ptr iw 0 0]]]⟩) iw s' st.U/\
  st.s 0=.ptr iw 0 0/\st.s 1=vI b/\st.s 2=vI e/\st.s 6=.ptr i6 0 0) (e-a) ?_ ?_
 .exact⟨a,s,rfl,Qh _,Vm,hrB,rfl,by rw[Ik];exact hI,UQ,rfl,rfl,rfl,rfl⟩
 .rintro q ⟨S,J⟩ ⟨b,s',rfl,UY,Xr,hbB,heq,Yp,Zn,t0,t1,t2,t6⟩;simp only at Zn t0 t1 t2 t6;refine ad.mix 7 ?_;by_cases C':b<e
  .have q1:((b:Int)<(e:Int))=True:=PK;obtain⟨h1,h2⟩:=de he hbB (Qh b) C';obtain⟨h3,h4⟩:=dW he hbB C';have Q0:b<l.length:=by omega
   have Qf:=gi hD.Wy Q0;have RM:=lz Q0;have E':=jl l Q0;have XI:Rg l a e=Rg l a b+Rg l b e:=lf UY Xr he;have Yu:Rg l b e=Rg l b (b+(Qg l b).toNat)+Rg l (b+(Qg l b).toNat) e:=lf (by omega) (by omega) he;have R5:Rg l b (b+(Qg l b).toNat)=4+(Qb l b).words.length+Rg l (b+1) (b+(Qg l b).toNat):=uu (by omega) (by omega);have hc4:Rg l a (b+(Qg l b).toNat)=Rg l a b+Rg l b (b+(Qg l b).toNat):=lf UY (by omega) (by omega);have Q8:=iU Q0;have q3:((b:Int)+l[b].size)=((b+(Qg l b).toNat:Nat):Int):=by rw[RM];omega
   have r2:PM .i64 ((b:Int)+l[b].size):=ak;have P8:=DJ (rs:=rs) he hbB C' s';rw[Q8]at P8 R5;have c6:=Zn.sub _ _ (af (id:=i6));obtain⟨va,vf,w1,g1,g2,_⟩:=Zn.row;obtain⟨ca,_⟩:=g1.vc;obtain⟨cf,_⟩:=g2.vc;have hBb:=Yp.bd.mono (C:=288230376151711744) (by omega);have Q3:∀s2,s2=(if l[b].kind=1 then(ee l rs (b+(Qg l b).toNat-(b+1)) (b+1) (b+(Qg l b).toNat) (s'.enter l[b].st)).leave l[b].st
    else if l[b].kind=2 then s'.text rs b l[b]else if l[b].kind=3 then WS.mono l rs s' b l[b]else s'.float rs b l[b])->fG s2 (C+Rg l a (b+(Qg l b).toNat)):=by
     rintro s2 rfl;rw[hc4,R5];split
     .exact(jS (gn hD _ (b+1) (b+(Qg l b).toNat) _ _ (Qh _) (by omega) (by omega) h4 (eS Yp Qf.st)) Qf.st).more (by omega)
     .split
      .exact(kY Yp Qf b).more (by omega)
      .split
       .exact(kP Yp Qf b).more (by omega)
       .rename_i g1 g2 g3;exact(jM hD Yp Q0 Qf (by have:=Qf.kind;omega)).more (by omega)
   rcases Qf.kind with hk|hk|hk|hk
   .apply sR;simp only[go_sem,seval,q1,t0,t1,t2,t6,w1,c6,E',Nd.cells,hk,ca,cf,UI,Qp,VS,ar,ai,aj];refine ad.kS rfl rfl rfl (E8 hD Zn Yp (by omega) b Q0 (ih (b+1) (b+(Qg l b).toNat) _ (by omega) (by omega) (by omega) h4 (by omega)) (by omega) (by omega) h4 h2) ?_;rintro r Z' ⟨rfl,RX⟩;have w2':=RX.row;obtain⟨va2,vf2,w2,g12,g22,_⟩:=w2';obtain⟨ca2,_⟩:=g12.vc;obtain⟨cf2,_⟩:=g22.vc;apply sR;simp only[go_sem,seval,t0,t1,t2,t6,w2,E',Nd.cells,r2,ca2,cf2,ar,ai,aj];refine⟨_,?_,b+(Qg l b).toNat,_,rfl,by omega,by omega,h3,by rw[heq,P8],Q3 _ rfl,?_,by simp[t0,t2,t6,q3]⟩
    .omega
    .simpa[hk]using RX
   .apply sR;simp only[go_sem,seval,q1,t0,t1,t2,t6,w1,c6,E',Nd.cells,hk,ca,cf,UI,Qp,VS,ar,ai,aj];refine ad.kS rfl rfl rfl (Im hD Zn hBb (by omega) b Q0 (by have:=Yp.at';omega) (by have:=Yp.fl;omega) (Yj _ (QF Q0))) ?_;rintro r Z' ⟨rfl,RX⟩;have w2':=RX.row;obtain⟨va2,vf2,w2,g12,g22,_⟩:=w2';obtain⟨ca2,_⟩:=g12.vc;obtain⟨cf2,_⟩:=g22.vc;apply sR;simp only[go_sem,seval,t0,t1,t2,t6,w2,E',Nd.cells,r2,ca2,cf2,ar,ai,aj];refine⟨_,?_,b+(Qg l b).toNat,_,rfl,by omega,by omega,h3,by rw[heq,P8],Q3 _ rfl,?_,by simp[t0,t2,t6,q3]⟩
    .omega
    .simpa[hk]using RX
   .apply sR;simp only[go_sem,seval,q1,t0,t1,t2,t6,w1,c6,E',Nd.cells,hk,ca,cf,UI,Qp,VS,ar,ai,aj];refine ad.kS rfl rfl rfl (H5 hD Zn hBb (by omega) b Q0 hk (by have:=Yp.at';omega) (by have:=Yp.fl;omega)) ?_;rintro r Z' ⟨rfl,RX⟩;have w2':=RX.row;obtain⟨va2,vf2,w2,g12,g22,_⟩:=w2';obtain⟨ca2,_⟩:=g12.vc;obtain⟨cf2,_⟩:=g22.vc;apply sR;simp only[go_sem,seval,t0,t1,t2,t6,w2,E',Nd.cells,r2,ca2,cf2,ar,ai,aj];refine⟨_,?_,b+(Qg l b).toNat,_,rfl,by omega,by omega,h3,by rw[heq,P8],Q3 _ rfl,?_,by simp[t0,t2,t6,q3]⟩
    .omega
    .simpa[hk]using RX
   .apply sR;simp only[go_sem,seval,q1,t0,t1,t2,t6,w1,c6,E',Nd.cells,hk,ca,cf,UI,Qp,VS,ar,ai,aj];refine ad.kS rfl rfl rfl (Fp hD Zn hBb (by omega) b Q0 (by have:=Yp.at';omega) (by have:=Yp.fl;omega)) ?_;rintro r Z' ⟨rfl,RX⟩;have w2':=RX.row;obtain⟨va2,vf2,w2,g12,g22,_⟩:=w2';obtain⟨ca2,_⟩:=g12.vc;obtain⟨cf2,_⟩:=g22.vc;apply sR;simp only[go_sem,seval,t0,t1,t2,t6,w2,E',Nd.cells,r2,ca2,cf2,ar,ai,aj];refine⟨_,?_,b+(Qg l b).toNat,_,rfl,by omega,by omega,h3,by rw[heq,P8],Q3 _ rfl,?_,by simp[t0,t2,t6,q3]⟩
    .omega
    .simpa[hk]using RX
  .have q1:((b:Int)<(e:Int))=False:=PG;apply sR;simp only[go_sem,seval,q1,t0,t1,t2,t6];refine⟨_,_,aa.refl _,Wk.refl (aa.refl _) _,rfl,?_⟩;have hz:ee l rs (e-b) b e s'=s':=by rw[show e-b=0 by omega];rfl
   rw[heq,hz];exact Zn.narrow h0i n6.symm
open Go.Proofs
def ta(n:Nat)(f:O'):O':={ f with anchor:=max 0 (min f.anchor ((n:Int)-1)) }
def yK(s:WS):Int:=if(dV (lU 3) s.g').2 then max (s.PS.y+s.PS.m) (dV (lU 3) s.g').1 else s.PS.y+s.PS.m
def WS.fin(s:WS):WS:={ s with PJ:=yK s,g':=s.g'.map (ta s.atoms.length) }
def gP(n j:Nat)(l:List O'):List O':=(l.take j).map (ta n)++l.drop j
def nh(n j:Nat)(l:List O'):(gP n j l).length=l.length:=by unfold gP;simp;omega
def vS{n j:Nat}{l:List O'}(h:j<l.length):(gP n j l)[j]?=some l[j]:=by
 unfold gP;rw[Er (by simp;omega)];simp[h,Nat.min_eq_left (Nat.le_of_lt h)]
def wg{n j:Nat}{l:List O'}(h:j<l.length):(gP n j l).set j (ta n l[j])=gP n (j+1) l:=by
 unfold gP;have e1:((l.take j).map (ta n)).length=j:=by simp;omega
 have e2:l.drop j=l[j]::l.drop (j+1):=gT h;rw[List.set_append_right _ _ (by omega),e1,Nat.sub_self,e2,List.set_cons_zero,SO h,eo];simp
def Sq.JF{l:List Nd}{rs:List Rm}{Z0 J:ag}{iw:Nat}{s:WS}(hJ:Sq l rs Z0 iw s J){va vf:V}{h0:Int}(w:J iw=some ⟨81,7,[.agg [va,vf,vI h0,vI s.PS.y,vI s.PS.m,aM l,cE rs]]⟩)(h:Int):
 Sq l rs Z0 iw { s with PJ:=h } (u' J iw ⟨81,7,[.agg [va,vf,vI h,vI s.PS.y,vI s.PS.m,aM l,cE rs]]⟩):=by
 obtain⟨va',T1,w',g1,g2,g3⟩:=hJ.row;rw[w]at w';simp only[bb,Ob.mk.injEq,List.cons.injEq,V.agg.injEq,true_and,and_true]at w';obtain⟨rfl,rfl,_⟩:=w';exact⟨hJ.sub.az hJ.no,hJ.no,va,vf,af,g1.Bc,g2.Bc,g3⟩
def K6{l:List Nd}{rs:List Rm}{Z0 U:ag}{iw:Nat}{s:WS}{C:Nat}(hJ:Sq l rs Z0 iw s U)(hI:fG s C)(hC:C<=100000):
 aC prog 21 [.ptr iw 0 0] U λr Z'=>r=.PI []/\Sq l rs Z0 iw s.fin Z':=by
 obtain⟨va,vf,w1,Wh,U',hf2⟩:=hJ.row;obtain⟨ca,sa⟩:=Wh.vc;obtain⟨cf,sf⟩:=U'.vc;have hB:=hI.bd;have hm:=hB.m1;have U1:=hB.m0;have Yn:=hB.y0;have hyB:=hB.yB;have Su:=hI.fl;have R8:=hI.at';have Tq:dY false va=some (.int .i64 s.atoms.length):=by rw[Wh.len];simp
 have Vu:dY false vf=some (.int .i64 s.g'.length):=by rw[U'.len];simp
 refine e21.r (by simp[c21]) ?_;refine ad.mix 5 ?_;apply sR;simp only[go_sem,seval,c21,w1,ca,cf,ar,ai];refine ad.ay rfl rfl rfl (Dx s.PS ⟨by omega,by omega⟩ ⟨by omega,by omega⟩ _) ?_;apply sR;simp only[go_sem,seval,w1,ca,cf,ar,ai];have hJ2:=hJ.JF w1 (s.PS.y+s.PS.m);have w2:=af (U:=U) (id:=iw) (o:=⟨81,7,[.agg [va,vf,vI (s.PS.y+s.PS.m),vI s.PS.y,vI s.PS.m,aM l,cE rs]]⟩);have hf3:=U'.Bc (o:=⟨81,7,[.agg [va,vf,vI (s.PS.y+s.PS.m),vI s.PS.y,vI s.PS.m,aM l,cE rs]]⟩);generalize u' U iw ⟨81,7,[.agg [va,vf,vI (s.PS.y+s.PS.m),vI s.PS.y,vI s.PS.m,aM l,cE rs]]⟩=Y2 at*;refine ad.ay rfl rfl rfl (aP.zT (args':=[aJ s.g',vI 3]) ⟨hf3.Hm.at,TT _,trivial⟩ (zF s.g' 3 (by omega) (hB.W4 (by omega))) rfl) ?_;cases X6:(dV (lU 3) s.g').2
 .have hh:yK s=s.PS.y+s.PS.m:=by unfold yK;rw[X6];rfl
  apply sR;simp only[go_sem,seval,w2,ca,cf,Vu,ar,ai];have hJ3:Sq l rs Z0 iw { s with PJ:=yK s } Y2:=by rw[hh];exact hJ2
  refine ad.loop (λm st=>∃j:Nat,j<=s.g'.length/\m=s.g'.length-j/\Sq l rs Z0 iw { s with PJ:=yK s,g':=gP s.atoms.length j s.g' } st.U/\st.s 0=.ptr iw 0 0/\st.s 40=vI s.g'.length/\st.s 41=vI j) s.g'.length ?_ ?_
  .exact⟨0,by omega,rfl,by simpa[gP]using hJ3,rfl,rfl,rfl⟩
  .rintro m ⟨S,J⟩ ⟨j,hj,rfl,Rt,t0,t40,t41⟩;simp only at Rt t0 t40 t41;refine ad.mix 5 ?_;by_cases C':j<s.g'.length
   .have q:((j:Int)<s.g'.length)=True:=PK;obtain⟨va4,vf4,w4,g1,g2,g3⟩:=Rt.row;simp only at w4 g1 g2 g3;obtain⟨ca4,_⟩:=g1.vc;have hla4:dY false va4=some (.int .i64 s.atoms.length):=by rw[g1.len];simp
    have Wi:=nh s.atoms.length j s.g';rcases g2 with⟨_,h0⟩|⟨id,rfl,h2,h3⟩
    .exfalso;have:=congrArg List.length h0;rw[cL,Wi]at this;simp only[List.length_nil]at this;omega
    have QG:=vS (n:=s.atoms.length) C';have Q9:=wg (n:=s.atoms.length) C';have Wj:((gP s.atoms.length j s.g').map aS)[j]?=some (aS s.g'[j]):=by rw[l3,QG];rfl
    have Ux:((gP s.atoms.length j s.g').map aS).length=s.g'.length:=by rw[cL,Wi]
    have hid:∀n,n=s.g'.length->bL J 7 (.own id 0 n) (.int .i64 j)=some (.ptr id j 0):=λn hn=>by subst hn;rw[<-Ux];exact j8 h2 (by rw[Ux];exact C')
    generalize hfj:s.g'[j]=f at*;have XU:aS f=.agg [vI f.node,vI f.side,vI f.anchor,vI f.x,vI f.y,vI f.w,vI f.h]:=rfl;rw[XU]at Wj;have r1:PM .i64 ((s.atoms.length:Int)-1):=ak;have r2:PM .i64 ((j:Int)+1):=ak;have cf4:(V.own id 0 s.g'.length).cells=[.own id 0 s.g'.length]:=rfl;rw[Ux]at w4;apply sR;simp only[go_sem,seval,t0,t40,t41,q,w4,ca4,cf4,hla4,h2,hid _ rfl,Wj,r1,r2,dd,eW,ar,ai];have PZ:iw≠id:=(aI.1 h3).1.symm;have Wl:=nh s.atoms.length (j+1) s.g';refine⟨_,by omega,j+1,by omega,rfl,⟨Rt.sub.az (aI.1 h3).2,Rt.no,va4,.own id 0 s.g'.length,by rw[ab PZ];exact w4,?_,.inr ⟨id,by rw[cL,Wl],?_,h3⟩,λh=>?_⟩,rfl⟩
    .rcases g1 with h|⟨i1,k1,k2,k3⟩
     .exact .inl h
     .have hne1:i1≠id:=λe=>by rw[e,h2]at k2;simp at k2
      exact .inr ⟨i1,k1,by rw[ab hne1];exact k2,k3⟩
    .rw[af,<-Q9,List.map_set];rfl
    .have:=congrArg List.length h;rw[Wl]at this;simp only[List.length_nil]at this;omega
   .have q:((j:Int)<s.g'.length)=False:=PG;apply sR;simp only[go_sem,seval,t0,t40,t41,q];refine⟨_,_,aa.refl _,Wk.refl (aa.refl _) _,rfl,?_⟩;have he:gP s.atoms.length j s.g'=s.g'.map (ta s.atoms.length):=by
     unfold gP;rw[kT (by omega),List.drop_of_length_le (by omega),kj]
    rw[he]at Rt;exact Rt
 .have hh:yK s=max (s.PS.y+s.PS.m) (dV (lU 3) s.g').1:=by unfold yK;rw[X6];rfl
  generalize (dV (lU 3) s.g').1=low at*;apply sR;simp only[go_sem,seval,w2,ca,cf,Vu,dd,ar,ai];have hJ3:=hJ2.JF w2 (max (s.PS.y+s.PS.m) low);simp only at hJ3;rw[<-hh]at hJ3|-;refine ad.loop (λm st=>∃j:Nat,j<=s.g'.length/\m=s.g'.length-j/\Sq l rs Z0 iw { s with PJ:=yK s,g':=gP s.atoms.length j s.g' } st.U/\st.s 0=.ptr iw 0 0/\st.s 40=vI s.g'.length/\st.s 41=vI j) s.g'.length ?_ ?_
  .exact⟨0,by omega,rfl,by simpa[gP]using hJ3,rfl,rfl,rfl⟩
  .rintro m ⟨S,J⟩ ⟨j,hj,rfl,Rt,t0,t40,t41⟩;simp only at Rt t0 t40 t41;refine ad.mix 5 ?_;by_cases C':j<s.g'.length
   .have q:((j:Int)<s.g'.length)=True:=PK;obtain⟨va4,vf4,w4,g1,g2,g3⟩:=Rt.row;simp only at w4 g1 g2 g3;obtain⟨ca4,_⟩:=g1.vc;have hla4:dY false va4=some (.int .i64 s.atoms.length):=by rw[g1.len];simp
    have Wi:=nh s.atoms.length j s.g';rcases g2 with⟨_,h0⟩|⟨id,rfl,h2,h3⟩
    .exfalso;have:=congrArg List.length h0;rw[cL,Wi]at this;simp only[List.length_nil]at this;omega
    have QG:=vS (n:=s.atoms.length) C';have Q9:=wg (n:=s.atoms.length) C';have Wj:((gP s.atoms.length j s.g').map aS)[j]?=some (aS s.g'[j]):=by rw[l3,QG];rfl
    have Ux:((gP s.atoms.length j s.g').map aS).length=s.g'.length:=by rw[cL,Wi]
    have hid:∀n,n=s.g'.length->bL J 7 (.own id 0 n) (.int .i64 j)=some (.ptr id j 0):=λn hn=>by subst hn;rw[<-Ux];exact j8 h2 (by rw[Ux];exact C')
    generalize hfj:s.g'[j]=f at*;have XU:aS f=.agg [vI f.node,vI f.side,vI f.anchor,vI f.x,vI f.y,vI f.w,vI f.h]:=rfl;rw[XU]at Wj;have r1:PM .i64 ((s.atoms.length:Int)-1):=ak;have r2:PM .i64 ((j:Int)+1):=ak;have cf4:(V.own id 0 s.g'.length).cells=[.own id 0 s.g'.length]:=rfl;rw[Ux]at w4;apply sR;simp only[go_sem,seval,t0,t40,t41,q,w4,ca4,cf4,hla4,h2,hid _ rfl,Wj,r1,r2,dd,eW,ar,ai];have PZ:iw≠id:=(aI.1 h3).1.symm;have Wl:=nh s.atoms.length (j+1) s.g';refine⟨_,by omega,j+1,by omega,rfl,⟨Rt.sub.az (aI.1 h3).2,Rt.no,va4,.own id 0 s.g'.length,by rw[ab PZ];exact w4,?_,.inr ⟨id,by rw[cL,Wl],?_,h3⟩,λh=>?_⟩,rfl⟩
    .rcases g1 with h|⟨i1,k1,k2,k3⟩
     .exact .inl h
     .have hne1:i1≠id:=λe=>by rw[e,h2]at k2;simp at k2
      exact .inr ⟨i1,k1,by rw[ab hne1];exact k2,k3⟩
    .rw[af,<-Q9,List.map_set];rfl
    .have:=congrArg List.length h;rw[Wl]at this;simp only[List.length_nil]at this;omega
   .have q:((j:Int)<s.g'.length)=False:=PG;apply sR;simp only[go_sem,seval,t0,t40,t41,q];refine⟨_,_,aa.refl _,Wk.refl (aa.refl _) _,rfl,?_⟩;have he:gP s.atoms.length j s.g'=s.g'.map (ta s.atoms.length):=by
     unfold gP;rw[kT (by omega),List.drop_of_length_le (by omega),kj]
    rw[he]at Rt;exact Rt
open Go.Proofs
structure Gal where
 atoms:List Qy
 g':List O'
 PJ:Int
def qU(g:Gal):V:=.agg [bC g.atoms,aJ g.g',vI g.PJ]
def kW(l:List Nd)(w:Int):List Rm:=cY l l.length 0 l.length ⟨0,w⟩
def JY(l:List Nd)(w:Int):WS:=(ee l (kW l w) l.length 0 l.length ⟨[],[],0,⟨0,0⟩⟩).fin
def cZ(l:List Nd)(w:Int):Gal:=⟨(JY l w).atoms,(JY l w).g',(JY l w).PJ⟩
def ql{l:List Nd}(hb:Qs l=true):∀(k a e:Nat) (r:Rm),e<=l.length->cj l a e=true->r.ok->∀q∈cY l k a e r,q.ok
 |0,_,_,_,_,_,_,q,hq=>by simp[cY]at hq
 |k+1,a,e,r,he,hr,P4,q,hq=>by
  rw[cY]at hq;split at hq
  .rename_i C';obtain⟨h1,h2⟩:=de he hr (Qh a) C';obtain⟨h3,h4⟩:=dW he hr C';rcases cD.1 hq with rfl|hq
   .exact P4
   .rcases dM.1 hq with hq|hq
    .obtain⟨g1,g2,_⟩:=GS hb (a:=a) (by omega);exact ql hb k _ _ _ (by omega) h4 (wK P4 (by rw[g1];exact g2)) q hq
    .exact ql hb k _ _ _ he h3 P4 q hq
  .cases hq
def uM{l:List Nd}(hb:Qs l=true)(hn:l.length<=2000){w:Int}(h1:1<=w)(h2:w<=1099511627776):W3 l (kW l w):=by
 have hr:cj l 0 l.length=true:=by simp only[Qs,Ba]at hb;exact hb.2
 exact⟨hn,hb,by unfold kW;rw[lI (Qh _) _ _ _ (by omega) (by omega) hr];omega,ql hb _ _ _ _ (Qh _) hr ⟨by simp,by simp,h1,h2⟩⟩
def BQ(l:List Nd)(hl:eY l)(hb:Qs l=true)(hn:l.length<=2000)(Yj:∀n∈l,n.words.length<=10000)(hc:Rg l 0 l.length<=50000)(Xt:aP prog 18 [aM l] (vI 0))(w:Int)(h1:1<=w)(h2:w<=1099511627776):
 aP prog 6 [aM l,vI w] (.PI [qU (cZ l w),vI 0]):=λU=>by
 refine e6.r (by simp[c6]) ?_;have hs:=aa.refl U;have hD:=uM hb hn h1 h2;have hr:cj l 0 l.length=true:=by simp only[Qs,Ba]at hb;exact hb.2
 refine ad.mix 8 ?_;apply sR;simp only[go_sem,seval,c6];refine ae λi4 Z4 s4 a4 f4=>?_;have z4:=hs.none f4;replace hs:=hs.trans s4;have Qu:=mF w;rw[show decide (1<=w/\w<=1099511627776)=true by simp;omega]at Qu;simp only[go_sem,seval];refine ad.ay rfl rfl rfl (Qu _) ?_;have qz:((0:Int)≠0)=False:=PG (λh=>h rfl);apply sR;simp only[go_sem,seval];refine ad.ay rfl rfl rfl (Xt _) ?_;apply sR;simp only[go_sem,seval,qz];refine ad.ay rfl rfl rfl (I2 l hl hb w h1 h2 _) ?_;have hrm:cY l l.length 0 l.length ⟨0,w⟩=kW l w:=rfl;rw[hrm];apply sR;simp only[go_sem,seval,ai,aK,ar,yn];refine ae λi23 Z23 s23 a23 f23=>?_;have hJ:Sq l (kW l w) Z4 i23 ⟨[],[],0,⟨0,0⟩⟩ Z23:=⟨s23,f23,.aL,.aL,a23,aN.start,aN.start,λ_=>rfl⟩
 have hI:fG ⟨[],[],0,⟨0,0⟩⟩ 0:=⟨⟨by simp,by simp,by simp,by simp,by simp⟩,by simp,by simp⟩
 have hn0:=eU l;simp only[go_sem,seval,hn0];have QD:=L9 hD Yj (l.length+1) 0 l.length 0 (by omega) (by omega) (Qh _) hr (by omega) _ _ _ hJ hI;refine ad.call rfl rfl rfl QD ?_;rintro r Z5 ⟨rfl,UP⟩;have hI5:=gn hD (l.length-0) 0 l.length ⟨[],[],0,⟨0,0⟩⟩ 0 (by omega) (by omega) (Qh _) hr hI;apply sR;simp only[go_sem,seval];refine ad.call rfl rfl rfl (K6 UP hI5 (by omega)) ?_;rintro r Z6 ⟨rfl,UQ⟩;have hgl:cZ l w=⟨(ee l (kW l w) (l.length-0) 0 l.length ⟨[],[],0,⟨0,0⟩⟩).fin.atoms,(ee l (kW l w) (l.length-0) 0 l.length ⟨[],[],0,⟨0,0⟩⟩).fin.g',(ee l (kW l w) (l.length-0) 0 l.length ⟨[],[],0,⟨0,0⟩⟩).fin.PJ⟩:=rfl;rw[hgl];generalize (ee l (kW l w) (l.length-0) 0 l.length ⟨[],[],0,⟨0,0⟩⟩).fin=s at*;obtain⟨va,vf,w6,g1,g2,_⟩:=UQ.row;obtain⟨ca,sa⟩:=g1.vc;obtain⟨cf,sf⟩:=g2.vc;have b4:=UQ.sub _ _ a4;have n423:=ao a4 f23;apply sR;simp only[go_sem,seval,w6,b4,ca,sa,cf,sf,ar,ai,ab n423];have hK:aa U (bg Z4 i23):=λi o h=>by
  rw[bg,aF (λe=>by rw[e,hs.none f23]at h;cases h)];exact hs _ _ h
 have key:∀{e sz:Nat} {v:V} {rows:List V} {o:Ob},aN (bg Z4 i23) Z6 e sz v rows->aN (bg Z4 i23) (u' Z6 i4 o) e sz v rows:=λ{e sz v rows o} h=>by
  rcases h with h|⟨id,k1,k2,k3⟩
  .exact .inl h
  .exact .inr ⟨id,k1,by rw[ab (λe=>by rw[e]at k3;rw[(aI.1 k3).2]at a4;cases a4)];exact k2,k3⟩
 have Q3:∀o,aa U (u' Z6 i4 o):=λo=>(hs.trans UQ.sub).az z4;refine⟨_,U,Q3 _,Wk.PI (vs':=[qU ⟨s.atoms,s.g',s.PJ⟩,vI 0]) ⟨Wk.agg (vs':=[bC s.atoms,aJ s.g',vI s.PJ]) ⟨(key g1).wk hK (Q3 _),(key g2).wk hK (Q3 _),Wk.refl (Q3 _) _,trivial⟩,Wk.refl (Q3 _) _,trivial⟩,rfl,rfl⟩
open Go.Proofs
def tG(node:Int):List Int->Nat
 |[]=>0
 |x::r=>if x=node then tG node r+1 else 0
def Jw(node:Int):∀l,tG node l<=l.length
 |[]=>by simp[tG]
 |x::r=>by
  rw[tG];split
  .have:=Jw node r;simp only[Rc];omega
  .simp
def lA(of:List Int)(fr:Nat)(node:Int):Nat:=tG node (of.drop fr)
def vU(of:List Int)(fr:Nat)(node:Int):lA of fr node<=of.length-fr:=by
 have:=Jw node (of.drop fr);rw[vD]at this;exact this
def okN(x:Nd)(n:Nat):Bool:=if x.kind=2 then decide (1<=n/\n<=x.words.length)else if x.kind=3 then decide (n=1)else decide (n=0)
def AQ(of:List Int):List Nd->Nat->Nat->Bool
 |[],_,at'=>decide (at'=of.length)
 |x::r,i,at'=>okN x (lA of at' i)&&AQ of r (i+1) (at'+lA of at' i)
def pN(l:List Nd)(of:List Int):Bool:=AQ of l 0 0
def oc(l:List Nd)(of:List Int):V:=.agg [aM l,encI of]
def mT(l:List Nd)(of:List Int):(oc l of).cells=[aM l,encI of]:=rfl
def mK(l:List Nd)(of:List Int):(oc l of).stays=true:=rfl
def Hx(l:List Nd)(of:List Int)(hn:of.length<=1000000)(fr:Nat)(hf:fr<=of.length)(node:Int):aP prog 162 [oc l of,vI fr,vI node] (vI (lA of fr node)):=λU=>by
 refine OW.r (by simp[c162]) ?_;have hs:=aa.refl U;have hl:=eO of;have htl:=vU of fr node;refine ad.mix 8 ?_;apply sR;simp only[go_sem,seval,c162,mT,mK,ai,aj,al,aK];refine ae λi3 Z3 s3 a3 f3=>?_;have z3:=hs.none f3;replace hs:=hs.trans s3;have a3':Z3 i3=some ⟨224,2,[.agg [aM l,encI of]]⟩:=a3;simp only[go_sem,seval];refine ad.loop (λm st=>∃j:Nat,fr+j<=of.length/\m=of.length-(fr+j)/\lA of fr node=j+tG node (of.drop (fr+j))/\st.U=Z3/\st.s 1=vI fr/\st.s 2=vI node/\st.s 3=.ptr i3 0 0/\st.s 7=vI j) (of.length-fr) ?_ ?_
 .exact⟨0,by omega,by omega,by simp[lA],rfl,rfl,rfl,rfl,rfl⟩
 .rintro m ⟨S,J⟩ ⟨j,hj,rfl,ht,P3,t1,t2,t3,t7⟩;simp only at P3 t1 t2 t3 t7;subst P3;refine ad.mix 8 ?_;have hjj:(fr:Int)+(j:Int)=((fr+j:Nat):Int):=by omega
  have r1:PM .i64 ((fr:Int)+j):=ak;have r2:PM .i64 ((j:Int)+1):=ak;by_cases C':fr+j<of.length
  .have q:(((fr+j:Nat):Int)<of.length)=True:=PK;have E':=λU=>gG (U:=U) C';rw[gT C',tG]at ht;generalize of[fr+j]=x at*;rw[hjj]at r1;by_cases hx:x=node
   .rw[aE hx]at ht;have q2:(x=node)=True:=PK hx;apply sR;simp only[go_sem,seval,t1,t2,t3,t7,a3',hl,hjj,q,q2,E',r1,r2,ai,aj];exact⟨_,by omega,j+1,by omega,rfl,by rw[ht,show fr+(j+1)=fr+j+1 by omega];omega,by simp[t1,t2,t3]⟩
   .rw[aF hx]at ht;have q2:(x=node)=False:=PG hx;apply sR;simp only[go_sem,seval,t1,t2,t3,t7,a3',hl,hjj,q,q2,E',r1,r2,ai,aj];exact au.pure hs (by rw[ht];simp)
  .have q:(((fr+j:Nat):Int)<of.length)=False:=PG;rw[List.drop_of_length_le (by omega),tG]at ht;rw[hjj]at r1;apply sR;simp only[go_sem,seval,t1,t2,t3,t7,a3',hl,hjj,q,r1,r2,ai,aj];exact au.pure hs (by rw[ht];simp)
def MG(l:List Nd)(Tu:l.length<=100000)(of:List Int)(hn:of.length<=1000000)(hm:pN l of=true):aP prog 114 [oc l of] (.bool true):=λU=>by
 refine Oh.r (by simp[KO]) ?_;have hs:=aa.refl U;have hl:=eO of;have TA:=eU l;refine ad.mix 7 ?_;apply sR;simp only[go_sem,seval,KO,mT,mK,ai,aj,al,aK];refine ae λi1 Z1 s1 a1 f1=>?_;have z1:=hs.none f1;replace hs:=hs.trans s1;have a1':Z1 i1=some ⟨224,2,[.agg [aM l,encI of]]⟩:=a1;simp only[go_sem,seval,a1',TA,ai,aj];refine ad.loop (λm st=>∃(i at':Nat),i<=l.length/\m=l.length-i/\at'<=of.length/\AQ of (l.drop i) i at'=true/\aa Z1 st.U/\st.s 1=.ptr i1 0 0/\st.s 3=vI at'/\st.s 8=aM l/\st.s 9=vI l.length/\st.s 10=vI i) l.length ?_ ?_
 .exact⟨0,0,by omega,rfl,by omega,by simpa[pN]using hm,aa.refl _,rfl,rfl,rfl,rfl,rfl⟩
 .rintro m ⟨S,J⟩ ⟨i,at',hi,rfl,RF,Yx,B',t1,t3,t8,t9,t10⟩;simp only at B' t1 t3 t8 t9 t10;refine ad.mix 7 ?_;have b1:=B' _ _ a1';by_cases C':i<l.length
  .have q:((i:Int)<l.length)=True:=PK;have E':=jl l C';rw[gT C',AQ,Ba]at Yx;obtain⟨P4,Yx⟩:=Yx;have htl:=vU of at' i;have htc:=Hx l of hn at' RF i;generalize lA of at' i=n at*;generalize l[i]=x at*;apply sR;simp only[go_sem,seval,t1,t3,t8,t9,t10,q,E',Nd.cells];refine ae λi5 Z5 s5 a5 f5=>?_;have c1:=s5 _ _ b1;have Yq:=ao b1 f5;simp only[go_sem,seval,a5,c1,t1,t3,t8,t9,t10,ab Yq,ai,aj,al];refine ad.ay rfl rfl rfl (htc _) ?_;have Yj:dY false (encI x.words)=some (.int .i64 x.words.length):=eO _;have r1:PM .i64 ((i:Int)+1):=ak;have r2:PM .i64 ((at':Int)+n):=ak;have q5:((at':Int)+n)=((at'+n:Nat):Int):=by omega
   rw[q5]at r2;unfold okN at P4;by_cases k2:x.kind=2
   .rw[aE k2]at P4;simp only[SX]at P4;have p1:((n:Int)<1)=False:=PG;have p2:((n:Int)>x.words.length)=False:=PG;have p0:(x.kind=2)=True:=PK k2;apply sR;simp only[go_sem,seval,t1,t3,t8,t9,t10,c1,ab Yq,p0,p1,p2,Yj,r1,r2,q5,aj,al];exact⟨_,by omega,i+1,at'+n,by omega,rfl,by omega,Yx,B'.trans (s5.az f5),by simp[t1,t8,t9]⟩
   .rw[aF k2]at P4;have p0:(x.kind=2)=False:=PG k2;by_cases k3:x.kind=3
    .rw[aE k3]at P4;simp only[SX]at P4;have p3:(x.kind=3)=True:=PK k3;have p1:((n:Int)≠1)=False:=PG;apply sR;simp only[go_sem,seval,t1,t3,t8,t9,t10,c1,ab Yq,p0,p3,p1,r1,r2,q5,aj,al];exact⟨_,by omega,i+1,at'+n,by omega,rfl,by omega,Yx,B'.trans (s5.az f5),by simp[t1,t8,t9]⟩
    .rw[aF k3]at P4;simp only[SX]at P4;have p3:(x.kind=3)=False:=PG k3;have p1:((n:Int)>0)=False:=PG;apply sR;simp only[go_sem,seval,t1,t3,t8,t9,t10,c1,ab Yq,p0,p3,p1,r1,r2,q5,aj,al];exact⟨_,by omega,i+1,at'+n,by omega,rfl,by omega,Yx,B'.trans (s5.az f5),by simp[t1,t8,t9]⟩
  .have q:((i:Int)<l.length)=False:=PG;rw[List.drop_of_length_le (by omega),AQ,SX]at Yx;have q2:((at':Int)=of.length)=True:=PK;apply sR;simp only[go_sem,seval,t1,t3,t8,t9,t10,q,b1,hl,q2,ai,aj];exact au.pure (hs.trans B') rfl
def pk(l:List Nd)(hf:eY l)(hb:Qs l=true)(of:List Int)(hn:of.length<=1000000)(hm:pN l of=true):aP prog 66 [aM l,encI of] (vI 0):=λU=>by
 refine e66.r (by simp[c66]) ?_;have hv:=C2 l hf;rw[hb]at hv;have ZP:=hf.1;refine ad.mix 5 ?_;apply sR;simp only[go_sem,seval,c66];refine ad.ay rfl rfl rfl (hv _) ?_;apply sR;simp only[go_sem,seval,ai,aj,al,aK];refine ad.ay rfl rfl rfl (MG l (by omega) of hn hm _) ?_;apply sR;simp only[go_sem,seval];exact au.same rfl
open Go.Proofs
def xO(l:List Nd)(a b:Int):Bool:=decide (a<=b/\b<a+Qg l a.toNat)
def GA(l:List Nd)(hb:Qs l=true)(hn:l.length<=100000)(a:Nat)(ha:a<l.length)(b:Int)(h0:0<=b)(h1:b<=1000000):aP prog 243 [aM l,vI a,vI b] (.bool (xO l a b)):=λU=>by
 refine Oz.r (by simp[H9]) ?_;have E':=jl l ha;have RM:=lz ha;have hsb:=pQ hb ha;refine ad.mix 7 ?_;unfold xO;rw[eL,RM];rw[RM]at hsb;by_cases h:(a:Int)<=b
 .have q:((a:Int)<=b)=True:=PK h;have r1:PM .i64 ((a:Int)+l[a].size):=ak;apply sR;simp only[go_sem,seval,H9,q,E',Nd.cells,r1];exact au.same (by simp[h])
 .have q:((a:Int)<=b)=False:=PG h;apply sR;simp only[go_sem,seval,H9,q];exact au.same (by simp[h])
def VK(l:List Nd)(of:List Int)(b k:Int):Bool:=if 0<=k/\k<of.length then xO l b (of.getD k.toNat 0)else false
def Bs(l:List Nd)(hb:Qs l=true)(hn:l.length<=100000)(of:List Int)(R4:of.length<=1000000)(Ra:∀x∈of,0<=x/\x<l.length)(b:Nat)(Q0:b<l.length)(k:Int){U:ag}{i4 i9:Nat}(h4:U i4=some ⟨25,1,[encI of]⟩)(h9:U i9=some ⟨224,2,[oc l of]⟩):
 aC prog 242 [vI b,vI k,.ptr i4 0 0,.ptr i9 0 0] U λr Z'=>r=.bool (VK l of b k)/\Z'=U:=by
 refine Pv.r (by simp[Gr]) ?_;have hl:=eO of;rw[oc]at h9;refine ad.mix 7 ?_;unfold VK;by_cases TP:0<=k
 .have q0:(k>=0)=True:=PK TP;obtain⟨j,rfl⟩:∃j:Nat,k=j:=⟨k.toNat,by omega⟩
  by_cases Sc:(j:Int)<of.length
  .have q1:((j:Int)<of.length)=True:=PK Sc;have Tr:j<of.length:=by omega
   have E':=λU=>gG (U:=U) Tr;have hx:=Ra _ (QF Tr);have Vk:of.getD j 0=of[j]:=by simp[Tr]
   rw[aE ⟨TP,Sc⟩,eL,Vk];apply sR;simp only[go_sem,seval,Gr,q0,q1,h4,h9,hl,E',ai,aj];refine Go.cN rfl rfl rfl (GA l hb hn b Q0 of[j] hx.1 (by omega)) ?_;apply sG;simp only[go_sem,seval];exact au.same rfl
  .have q1:((j:Int)<of.length)=False:=PG Sc;rw[aF (λh=>Sc h.2)];apply sR;simp only[go_sem,seval,Gr,q0,q1,h4,h9,hl,ai,aj];exact au.same rfl
 .have q0:(k>=0)=False:=PG TP;rw[aF (λh=>TP h.1)];apply sR;simp only[go_sem,seval,Gr,q0];exact au.same rfl
structure Br(l:List Nd)(of:List Int)(k:Int)(i4 i5 i9 i10:Nat)(U:ag):Prop where
 r4:U i4=some ⟨25,1,[encI of]⟩
 r5:U i5=some ⟨3,1,[vI k]⟩
 r9:U i9=some ⟨224,2,[oc l of]⟩
 VI:U i10=some ⟨200,1,[.fn 242 [.ptr i4 0 0,.ptr i9 0 0]]⟩
def Br.mono{l:List Nd}{of:List Int}{k:Int}{i4 i5 i9 i10:Nat}{U J:ag}(h:Br l of k i4 i5 i9 i10 U)(hs:aa U J):Br l of k i4 i5 i9 i10 J:=⟨hs _ _ h.r4,hs _ _ h.r5,hs _ _ h.r9,hs _ _ h.VI⟩
def Ki(l:List Nd)(hb:Qs l=true)(hn:l.length<=100000)(of:List Int)(R4:of.length<=1000000)(Ra:∀x∈of,0<=x/\x<l.length)(b:Nat)(Q0:b<l.length)(k:Int){U:ag}{i4 i5 i9 i10:Nat}(h:Br l of k i4 i5 i9 i10 U):
 aC prog 245 [vI b,.ptr i10 0 0,.ptr i5 0 0] U λr Z'=>r=.bool (!VK l of b k)/\Z'=U:=by
 refine OF.r (by simp[LG]) ?_;have r5:=h.r5;have VI:=h.VI;refine ad.mix 5 ?_;apply sR;simp only[go_sem,seval,LG,r5,VI];refine ad.ay rfl rfl rfl (Bs l hb hn of R4 Ra b Q0 k h.r4 h.r9) ?_;apply sR;simp only[go_sem,seval];exact au.same rfl
def K9(l:List Nd)(hb:Qs l=true)(hn:l.length<=100000)(of:List Int)(R4:of.length<=1000000)(Ra:∀x∈of,0<=x/\x<l.length)(b:Nat)(Q0:b<l.length)(k:Int)(TP:0<=k)(Sc:k<=1000000){U:ag}{i4 i5 i9 i10:Nat}(h:Br l of k i4 i5 i9 i10 U):
 aC prog 246 [vI b,.ptr i10 0 0,.ptr i5 0 0] U λr Z'=>r=.bool (!VK l of b (k-1))/\Z'=U:=by
 refine O8.r (by simp[KH]) ?_;have r5:=h.r5;have VI:=h.VI;have r1:PM .i64 (k-1):=ak;refine ad.mix 5 ?_;apply sR;simp only[go_sem,seval,KH,r5,VI,r1];refine ad.ay rfl rfl rfl (Bs l hb hn of R4 Ra b Q0 (k-1) h.r4 h.r9) ?_;apply sR;simp only[go_sem,seval];exact au.same rfl
def JU(l:List Nd)(hb:Qs l=true)(hn:l.length<=100000)(of:List Int)(R4:of.length<=1000000)(Ra:∀x∈of,0<=x/\x<l.length)(b:Nat)(Q0:b<l.length)(k:Int)(TP:0<=k)(Sc:k<=1000000){U:ag}{i4 i5 i9 i10:Nat}(h:Br l of k i4 i5 i9 i10 U):
 aC prog 248 [vI b,.ptr i10 0 0,.ptr i5 0 0] U λr Z'=>r=.bool (VK l of b (k-1))/\Z'=U:=by
 refine NV.r (by simp[JZ]) ?_;have r5:=h.r5;have VI:=h.VI;have r1:PM .i64 (k-1):=ak;refine ad.mix 5 ?_;apply sR;simp only[go_sem,seval,JZ,r5,VI,r1];refine ad.ay rfl rfl rfl (Bs l hb hn of R4 Ra b Q0 (k-1) h.r4 h.r9) ?_;apply sR;simp only[go_sem,seval];exact au.same rfl
def AY(l:List Nd)(hl:eY l)(hb:Qs l=true)(hn:l.length<=100000)(a:Nat)(ha:a<l.length):Iter prog 263 [.rp (aM l),.rp (vI a)] ((T0 l a).map λn=>[vI n]):=by
 refine⟨Nq.c,λP9 τ Jx Z0 hy hJ=>?_⟩;refine(Nq.r (by simp[Lq]) ?_).2;have UY:=Av l hl hb hn a ha;have R8:=iK l (l.length+1) (eG l a);have e0:(T0 l a).length<=l.length+1:=R8;have hlen:=eO (T0 l a);generalize T0 l a=L at*;have ldA:∀U,bT U false 1 (.rp (aM l))=some (aM l):=λU=>rfl;have ldB:∀U (n:Int),bT U false 1 (.rp (vI n))=some (vI n):=λU n=>rfl;refine ad.mix 6 ?_;apply sR;simp only[go_sem,seval,Lq,ldA,ldB];refine ad.ay rfl rfl rfl (UY _) ?_;apply sR;simp only[go_sem,seval,hlen];refine ad.loop (λm st=>∃(j:Nat) (ZJ:ag),j<=L.length/\m=L.length-j/\τ ((L.take j).map λn=>[vI n]) ZJ/\aa ZJ st.U/\st.s 0=.yl P9/\st.s 8=encI L/\st.s 9=vI L.length/\st.s 10=vI j) L.length ?_ ?_
 .exact⟨0,Z0,by omega,rfl,by simpa using hJ,aa.refl _,rfl,rfl,rfl,rfl⟩
 .rintro m ⟨S,J⟩ ⟨j,ZJ,hj,rfl,Rt,B',t0,t8,t9,t10⟩;simp only at B' t0 t8 t9 t10;refine ad.mix 6 ?_;by_cases C':j<L.length
  .have q:((j:Int)<L.length)=True:=PK;have E':=λU=>gG (U:=U) C';have Qn:L.take (j+1)=L.take j++[L[j]]:=SO C';have e:(L.map λn=>[vI n])=((L.take j).map λn=>[vI n])++[vI L[j]]::((L.drop (j+1)).map λn=>[vI n]):=by
    have e0':L=L.take j++L[j]::L.drop (j+1):=by rw[<-gT C',nG]
    have:=congrArg (List.map λn=>[vI n]) e0'
    rwa [eo,dO]at this
   generalize L[j]=x at*;have r1:PM .i64 ((j:Int)+1):=ak;apply sR;simp only[go_sem,seval,t0,t8,t9,t10,q,E'];refine ad.lK (Post:=λb Z2=>∃P5,bf ZJ J P5 Z2/\((b=true/\τ (((L.take j).map λn=>[vI n])++[[vI x]]) P5)\/(b=false/\Jx (((L.take j).map λn=>[vI n])++[[vI x]]) P5))) rfl rfl rfl (hy _ [vI x] _ ZJ J e Rt B') ?_;rintro b Z2 ⟨P5,QM,QE⟩;rcases QE with⟨rfl,QE⟩|⟨rfl,QE⟩
   .apply sR;simp only[go_sem,seval,t0,t8,t9,t10,r1];refine⟨_,?_,j+1,P5,by omega,rfl,by rw[Qn];simpa using QE,QM.1,by simp[t0,t8,t9]⟩;omega
   .apply sR;simp only[go_sem,seval,t0];refine⟨_,P5,QM.1,Wk.refl QM.1 _,.inr ⟨_,?_,QE⟩⟩;rw[e];exact⟨(L.drop (j+1)).map λn=>[vI n],by simp⟩
  .have q:((j:Int)<L.length)=False:=PG;rw[kT (by omega)]at Rt;apply sR;simp only[go_sem,seval,t0,t8,t9,t10,q];exact⟨_,ZJ,B',Wk.refl B' _,.inl Rt⟩
def EP(l:List Nd)(a:Int):aP prog 259 [aM l,vI a] (.fn 263 [.rp (aM l),.rp (vI a)]):=λU=>by
 refine OS.r (by simp[L8]) ?_;refine ad.mix 4 ?_;have q1:=ai l;have q2:=aK l;generalize aM l=x at*;apply sR;simp only[go_sem,seval,L8,q1,q2];refine ae λSn Z1 s1 a1 f1=>?_;simp only[go_sem,seval];refine ae λRs Z2 s2 a2 f2=>?_;simp only[go_sem,seval];exact⟨_,U,s1.trans s2,Wk.fn (vs':=[.rp x,.rp (vI a)]) ⟨Wk.ptr (s1.trans s2) (s2 _ _ a1) f1,Wk.ptr (s1.trans s2) a2 (s1.none f2),trivial⟩,rfl,rfl⟩
open Go.Proofs
def UG(l:List Nd)(of:List Int)(k:Int)(p:Int->Bool):List Int:=if 0<=k/\k<of.length then(T0 l (of.getD k.toNat 0).toNat).filter p else[]
def pz{l:List Nd}{a:Nat}(ha:a<l.length):∀x∈T0 l a,∃n:Nat,x=n/\n<a:=λx hx=>by
 have:=Hg l _ _ x hx;have h2:=fT l a;exact⟨x.toNat,by omega,by omega⟩
def qs{p:Int->Bool}{L:List Int}{j:Nat}{x:Int}(h:L[j]?=some x):(L.take (j+1)).filter p=(L.take j).filter p++if p x then[x]else[]:=by
 rw[Ax,h,List.filter_append];cases hp:p x<;>simp[hp]
def tz(l:List Nd)(hl:eY l)(hb:Qs l=true)(hn:l.length<=100000)(of:List Int)(R4:of.length<=1000000)(Ra:∀x∈of,0<=x/\x<l.length)(k:Int)(g:FuncId)(caps:List V)(p:Int->Bool){U:ag}
 (hg:∀b:Nat,b<l.length->∀J,aa U J->aC prog g (vI b::caps) J λr Z'=>r=.bool (p b)/\Z'=J):
 aC prog 244 [oc l of,vI k,.fn g caps] U λr Z'=>aa U Z'/\aN U Z' 3 1 r ((UG l of k p).map vI)/\(UG l of k p=[]->r=.aL):=by
 refine Pf.r (by simp[K3]) ?_;have hs:=aa.refl U;have Tm:=eO of;refine ad.mix 9 ?_;apply sR;simp only[go_sem,seval,K3,mT,mK,ai,aj,al,aK];refine ae λi3 Z3 s3 a3 f3=>?_;have z3:=hs.none f3;replace hs:=hs.trans s3;simp only[go_sem,seval];refine ae λi5 Z5 s5 a5 f5=>?_;have Xp:=ao a3 f5;replace a3:=s5 _ _ a3;have z5:=hs.none f5;replace hs:=hs.trans s5;have a3':Z5 i3=some ⟨224,2,[.agg [aM l,encI of]]⟩:=a3;by_cases TP:k<0
 .have q0:(k<0)=True:=PK TP;have hc:UG l of k p=[]:=by unfold UG;rw[aF (by omega)]
  simp only[go_sem,seval,q0];rw[hc];exact⟨_,_,aa.refl _,Wk.refl (aa.refl _) _,hs,aN.start,λ_=>rfl⟩
 have q0:(k<0)=False:=PG TP;obtain⟨j,rfl⟩:∃j:Nat,k=j:=⟨k.toNat,by omega⟩
 by_cases Sc:(j:Int)>=of.length
 .have q1:((j:Int)>=of.length)=True:=PK Sc;have hc:UG l of j p=[]:=by unfold UG;rw[aF (by omega)]
  simp only[go_sem,seval,q0,a3',Tm,q1,ai,aj];rw[hc];exact⟨_,_,aa.refl _,Wk.refl (aa.refl _) _,hs,aN.start,λ_=>rfl⟩
 have q1:((j:Int)>=of.length)=False:=PG Sc;have Tr:j<of.length:=by omega
 have E':=λU=>gG (U:=U) Tr;obtain⟨hx0,hx1⟩:=Ra _ (QF Tr);have Vk:of.getD j 0=of[j]:=by simp[Tr]
 have hc:UG l of j p=(T0 l of[j].toNat).filter p:=by unfold UG;rw[aE ⟨by omega,by omega⟩,eL,Vk]
 rw[hc];simp only[go_sem,seval,q0,a3',Tm,q1,ai,aj];refine ae λi7 Z7 s7 a7 f7=>?_;have b3:=s7 _ _ a3';have b5:=s7 _ _ a5;simp only[go_sem,seval,b3,E',ai,aj];obtain⟨x,hx⟩:∃x:Nat,of[j]=x:=⟨of[j].toNat,by omega⟩
 rw[hx]at hx1|-;refine ad.ay rfl rfl rfl (EP l x _) ?_;have hit:=AY l hl hb hn x (by omega);have U7:=pz (l:=l) (a:=x) (by omega);have hlL:(T0 l x).length<=l.length+1:=iK _ _ _;rw[eL];generalize T0 l x=L at*;apply sR;simp only[go_sem,seval];generalize hS:mix 9 _ _=S;have S5:S 5=.ptr i5 0 0:=by rw[<-hS];rfl
 have S7:S 7=.ptr i7 0 0:=by rw[<-hS];rfl
 have S25:S 25=.fn 263 [.rp (aM l),.rp (vI x)]:=by rw[<-hS];rfl
 clear hS;refine ad.eK (g:=.t 25) (caps:=[.rp (aM l),.rp (vI x)]) S25 hit (λy hy=>?_) [] (λpre ZJ=>∃v,ZJ i7=some ⟨25,1,[v]⟩/\aa Z5 ZJ/\aN (bg Z5 i7) ZJ 3 1 v (((L.take pre.length).filter p).map vI)/\((L.take pre.length).filter p=[]->v=.aL))
  (λ_ _ _=>False) ?_ ?_ ?_ ?_ ?_
 .obtain⟨t,_,rfl⟩:=eI.1 hy;rfl
 .exact⟨.aL,a7,s7,by simpa using aN.start,λ_=>rfl⟩
 .rintro pre y post ZJ ZB Rv ⟨v,J7,Js,Jo,Jn⟩ B';obtain⟨t,W2,rfl⟩:=pH (f:=vI) Rv;obtain⟨tn,rfl,htn⟩:=U7 t (oe W2);have Qn:=qs (p:=p) W2;have hlen:(pre++[[vI (tn:Int)]]).length=pre.length+1:=by simp
  rw[hlen,Qn];have RG:(((L.take pre.length).filter p).map vI).length<=1000001:=by
   rw[cL];have:=List.length_filter_le p (L.take pre.length);rw[jt]at this;omega
  have TF:v.cells=[v]:=by rcases Jo with⟨rfl,_⟩|⟨_,rfl,_⟩<;>rfl
  generalize Qj:(((L.take pre.length).filter p).map vI)=rows at*;have c7:=B' _ _ J7;have c5:=B' _ _ (Js _ _ a5);generalize Ro:lT S [26] [vI (tn:Int)]=S0;have T5:S0 5=.ptr i5 0 0:=by rw[<-Ro];exact S5
  have T7:S0 7=.ptr i7 0 0:=by rw[<-Ro];exact S7
  have T26:S0 26=vI (tn:Int):=by rw[<-Ro];rfl
  clear Ro;refine ad.mix 9 ?_;apply sR;simp only[go_sem,seval,T5,T7,T26];apply sR;simp only[go_sem,seval,T5,T7,T26,c5];refine ad.ay rfl rfl rfl (hg tn (by omega) _ ((hs.trans Js).trans B')) ?_;cases hp:p (tn:Int)
  .apply sR;simp only[go_sem,seval];refine⟨_,bf.refl B',v,J7,Js,?_,by simpa using Jn⟩;simpa[Qj]using Jo
  .apply sR;simp only[go_sem,seval,T5,T7,T26,c7,TF];rw[av];intro TG f28;have TS:=(bf.refl B').qH (o:=⟨3,1,[vI (tn:Int)]⟩) f28;have y2:u' ZB TG ⟨3,1,[vI (tn:Int)]⟩ i7=some ⟨25,1,[v]⟩:=by rw[ab (ao c7 f28)];exact c7
   have a28:u' ZB TG ⟨3,1,[vI (tn:Int)]⟩ TG=some ⟨3,1,[vI (tn:Int)]⟩:=af;generalize u' ZB TG ⟨3,1,[vI (tn:Int)]⟩=Z8 at*;obtain⟨PU,QV,Uh⟩:=Jo.C6 TS.1;have Qp:(rows.length+1)*9<=140737488355328:=by omega
   have k2:bg Z5 i7 i7≠none:=λh=>(aI.1 h).1 rfl;have Ti:∀(i:Nat) (Zx:ag),bg Z5 i7 i≠none->Vc.bF Zx PU i=Zx i:=λi Zx hk=>by
    cases PU with
    |none=>rfl
    |some a=>exact er (λe=>hk (by rw[e];exact(Uh a rfl).1))
   simp only[go_sem,seval,QV,cW a28,Qp,T7];rw[av];intro Rp f29;have f29:Z8 Rp=none:=f29;have Xw:i7≠Rp:=ao y2 f29;have Zh:Vc.bF Z8 PU Rp=none:=by
    cases PU with
    |none=>exact f29
    |some a=>simp only[Vc.bF,del];split<;>first|rfl|exact f29
   have y2':u' (Vc.bF Z8 PU) Rp ⟨3,1,rows++[vI (tn:Int)]⟩ i7=some ⟨25,1,[v]⟩:=by rw[ab Xw,Ti _ _ k2];exact y2
   have hB9:=((TS.DS (e:=PU) λi h=>(Uh i h).2).new (o:=⟨3,1,rows++[vI (tn:Int)]⟩) Zh).set (id:=i7) (o:=⟨25,1,[v]⟩) (o':=⟨25,1,[.own Rp 0 (rows.length+1)]⟩) (by rw[ab Xw,Ti _ _ k2];exact J7);simp only[go_sem,seval,TF,y2',T7];refine⟨_,hB9,.own Rp 0 (rows.length+1),af,?_,?_,λh=>by simp at h⟩
   .refine aa.az (λi o h=>?_) f7;have h1:=Js _ _ h;rw[ab (ao (TS.1 _ _ h1) f29),Ti _ _ (λhk=>by rw[(aI.1 hk).2]at h;cases h)];exact h1
   .rw[eo,Qj];refine aN.new (by simp) (by rw[ab Xw.symm,af];rfl) ?_;rw[aI];refine⟨Xw.symm,?_⟩;cases h:Z5 Rp with
    |none=>rfl
    |some o=>rw[TS.1 _ _ (Js _ _ h)]at f29;cases f29
 .rintro Z' ⟨v,J7,Js,Jo,Jn⟩;rw[cL,hU]at Jo Jn;have TF:v.cells=[v]:=by rcases Jo with⟨rfl,_⟩|⟨_,rfl,_⟩<;>rfl
  refine ad.mix 9 ?_;apply sR;simp only[go_sem,seval,S7,J7,TF];refine⟨_,_,aa.refl _,Wk.refl (aa.refl _) _,hs.trans Js,?_,Jn⟩;rcases Jo with h|⟨id,h1,h2,h3⟩
  .exact .inl h
  .exact .inr ⟨id,h1,h2,hs.none (aI.1 h3).2⟩
 .intro id h;cases h
 .rintro pre Z' _ ⟨⟩
open Go.Proofs
def swp(L:List Int)(i j:Nat):List Int:=(L.set i (L.getD j 0)).set j (L.getD i 0)
def jW(L:List Int):Nat->List Int
 |0=>L
 |t+1=>swp (jW L t) t (L.length-1-t)
def lj(L:List Int):∀t,(jW L t).length=L.length
 |0=>rfl
 |t+1=>by simp[jW,swp,lj L t]
def Aq(L:List Int):∀(t:Nat),2*t<=L.length->∀i,i<L.length->(jW L t)[i]?=if i<t\/L.length-t<=i then L[L.length-1-i]? else L[i]?
 |0,_,i,hi=>by rw[jW,aF (by omega)]
 |t+1,ht,i,hi=>by
  have ih:=λi hi=>Aq L t (by omega) i hi;have hl:=lj L t;have e1:(jW L t).getD t 0=L.getD t 0:=by
   rw[tQ,tQ,ih t (by omega),aF (by omega)]
  have e2:(jW L t).getD (L.length-1-t) 0=L.getD (L.length-1-t) 0:=by
   rw[tQ,tQ,ih _ (by omega),aF (by omega)]
  rw[jW,swp,e1,e2,List.getElem?_set,List.getElem?_set,List.length_set,hl];have g:∀k,k<L.length->some (L.getD k 0)=L[k]?:=λk hk=>by simp[hk]
  by_cases h1:L.length-1-t=i
  .rw[aE h1,aE (by omega),aE (by omega),g t (by omega)];congr 1;omega
  .rw[aF h1];by_cases h2:t=i
   .rw[aE h2,aE (by omega),aE (by omega),g _ (by omega)];congr 1;omega
   .rw[aF h2,ih i hi];by_cases h3:i<t\/L.length-t<=i
    .rw[aE h3,aE (by omega)]
    .rw[aF h3,aF (by omega)]
def FM(L:List Int){t:Nat}(h1:2*t<=L.length)(h2:L.length<=2*t+1):jW L t=L.reverse:=by
 apply List.ext_getElem?;intro i;by_cases hi:i<L.length
 .rw[Aq L t h1 i hi,List.getElem?_reverse hi];split
  .rfl
  .congr 1;omega
 .rw[nF (by rw[lj];omega),nF (by simp;omega)]
def Dw(L:List Int)(hL:L.length<=1000000){K U:ag}{v:V}(hv:aN K U 3 1 v (L.map vI))(PZ:L=[]->v=.aL):
 aC prog 247 [v] U λr Z'=>r=.PI []/\aN K Z' 3 1 v (L.reverse.map vI)/\∀i o,U i=some o->(o.elem≠3\/K i≠none)->Z' i=some o:=by
 refine N1.r (by simp[HH]) ?_;refine ad.mix 5 ?_;rcases hv with⟨rfl,h0⟩|⟨id,rfl,h2,h3⟩
 .obtain rfl:L=[]:=by simpa using h0
  apply sR;simp only[go_sem,seval,HH];refine⟨ak,?_⟩;refine ad.loop (λm st=>st.U=U/\st.s 2=vI 0/\∃z:Int,st.s 3=vI z/\z<0) 0 ?_ ?_
  .refine⟨rfl,rfl,_,rfl,?_⟩;simp
  .rintro m ⟨S,J⟩ ⟨P3,t2,z,t3,hz⟩;simp only at P3 t2 t3;subst P3;refine ad.mix 5 ?_;have q:((0:Int)<z)=False:=PG;apply sR;simp only[go_sem,seval,t2,t3,q];exact⟨_,_,aa.refl _,Wk.refl (aa.refl _) _,rfl,.inl ⟨rfl,rfl⟩,λi o h _=>h⟩
 .have hn:0<L.length:=rK.2 λe=>by have:=PZ e;cases this
  have UN:(L.map vI).length=L.length:=by simp
  have r1:PM .i64 ((L.length:Int)-1):=ak;apply sR;simp only[go_sem,seval,HH,UN,r1];refine ad.loop (λm st=>∃t:Nat,2*t<=L.length/\m=L.length-t/\st.U id=some ⟨3,1,(jW L t).map vI⟩/\(∀i,i≠id->st.U i=U i)/\st.s 0=.own id 0 L.length/\st.s 2=vI t/\∃z:Int,st.s 3=vI z/\z=(L.length:Int)-1-t) L.length ?_ ?_
  .exact⟨0,by omega,by omega,h2,λ_ _=>rfl,rfl,rfl,_,rfl,by simp⟩
  .rintro m ⟨S,J⟩ ⟨t,ht,rfl,g1,g2,t0,t2,z,t3,rfl⟩;simp only at g1 g2 t0 t2 t3;refine ad.mix 5 ?_;have Ux:((jW L t).map vI).length=L.length:=by rw[cL,lj]
   by_cases C':(t:Int)<(L.length:Int)-1-t
   .have q:((t:Int)<(L.length:Int)-1-t)=True:=PK C';have hj:((L.length:Int)-1-t)=((L.length-1-t:Nat):Int):=by omega
    obtain⟨j,hjj⟩:∃j,j=L.length-1-t:=⟨_,rfl⟩
    rw[hj,<-hjj]at t3 q;have W2:t<(jW L t).length:=by rw[lj];omega
    have Sl:j<(jW L t).length:=by rw[lj];omega
    have i1:∀n,n=L.length->bL J 1 (.own id 0 n) (.int .i64 t)=some (.ptr id t 0):=λn hn=>by subst hn;rw[<-Ux];exact j8 g1 (by rw[Ux];omega)
    have i2:∀n,n=L.length->bL J 1 (.own id 0 n) (.int .i64 j)=some (.ptr id j 0):=λn hn=>by subst hn;rw[<-Ux];exact j8 g1 (by rw[Ux];omega)
    have v1:((jW L t).map vI)[t]?=some (vI ((jW L t).getD t 0)):=by simp[W2]
    have v2:((jW L t).map vI)[j]?=some (vI ((jW L t).getD j 0)):=by simp[Sl]
    have i3:∀a n,n=L.length->bL (u' J id ⟨3,1,((jW L t).map vI).set t a⟩) 1 (.own id 0 n) (.int .i64 j)=some (.ptr id j 0):=λa n hn=>by
     have e:n=(((jW L t).map vI).set t a).length:=by rw[List.length_set,Ux,hn]
     rw[e];exact j8 af (by rw[List.length_set,Ux];omega)
    have v3:∀a,(((jW L t).map vI).set t a)[j]?=some (vI ((jW L t).getD j 0)):=λa=>by rw[List.getElem?_set_ne (by omega)];exact v2
    have r4:PM .i64 ((t:Int)+1):=ak;have r5:PM .i64 ((j:Int)-1):=ak;apply sR;simp only[go_sem,seval,t0,t2,t3,q,g1,i1 _ rfl,i2 _ rfl,i3 _ _ rfl,v1,v2,v3,r4,r5];refine⟨_,?_,t+1,by omega,rfl,?_,λi hi=>?_,by simp[t0],_,rfl,by omega⟩
    .omega
    .simp only[jW,swp,List.map_set];rw[hjj]
    .rw[ab hi];exact g2 i hi
   .have q:((t:Int)<(L.length:Int)-1-t)=False:=PG C';apply sR;simp only[go_sem,seval,t0,t2,t3,q];have hr:=FM L ht (by omega);rw[hr]at g1;refine⟨_,_,aa.refl _,Wk.refl (aa.refl _) _,rfl,.inr ⟨id,by simp,g1,h3⟩,λi o h hio=>?_⟩;rw[g2 i (λe=>by subst e;rw[h2]at h;injection h with h;subst h;rcases hio with h|h;exact h rfl;exact h h3)]
    exact h
open Go.Proofs
structure Kn where
 (ends RY both:List Int)
 text:Int
def ig(x:Kn):V:=.agg [encI x.ends,encI x.RY,encI x.both,vI x.text]
def ep(l:List Nd)(of:List Int)(k:Nat):Kn:=
 ⟨UG l of ((k:Int)-1) (λb=>!VK l of b k),(UG l of k (λb=>!VK l of b ((k:Int)-1))).reverse,UG l of k (λb=>VK l of b ((k:Int)-1)),
  if 0<k/\k<of.length/\of.getD k 0=of.getD (k-1) 0 then of.getD k 0 else -1⟩
structure KR(l:List Nd)(of:List Int)(k:Int)(i4 i5 i6 i9 i10 i11:Nat)(v:V)(Z0 U:ag):Prop where
 ask:Br l of k i4 i5 i9 i10 U
 r6:U i6=some ⟨274,4,[.agg [.aL,.aL,.aL,vI 0]]⟩
 r11:U i11=some ⟨274,4,[v]⟩
 sub:aa Z0 U
 no:Z0 i11=none
 ne:i4≠i11/\i5≠i11/\i6≠i11/\i9≠i11/\i10≠i11
def KR.mono{l:List Nd}{of:List Int}{k:Int}{i4 i5 i6 i9 i10 i11:Nat}{v:V}{Z0 U J:ag}(h:KR l of k i4 i5 i6 i9 i10 i11 v Z0 U)(hs:aa U J):KR l of k i4 i5 i6 i9 i10 i11 v Z0 J:=
 ⟨h.ask.mono hs,hs _ _ h.r6,hs _ _ h.r11,h.sub.trans hs,h.no,h.ne⟩
def KR.put{l:List Nd}{of:List Int}{k:Int}{i4 i5 i6 i9 i10 i11:Nat}{v w:V}{Z0 U:ag}(h:KR l of k i4 i5 i6 i9 i10 i11 v Z0 U):KR l of k i4 i5 i6 i9 i10 i11 w Z0 (u' U i11 ⟨274,4,[w]⟩):=by
 obtain⟨n1,n2,n3,n4,n5⟩:=h.ne;exact⟨⟨by rw[ab n1];exact h.ask.r4,by rw[ab n2];exact h.ask.r5,by rw[ab n4];exact h.ask.r9,by rw[ab n5];exact h.ask.VI⟩,by rw[ab n3];exact h.r6,af,h.sub.az h.no,h.no,h.ne⟩
def CP(l:List Nd)(hl:eY l)(hb:Qs l=true)(of:List Int)(R4:of.length<=1000000)(Ra:∀x∈of,0<=x/\x<l.length)(hm:pN l of=true)(k:Nat)(hk:k<=of.length):
 aP prog 205 [aM l,encI of,vI k] (.PI [ig (ep l of k),vI 0]):=λU=>by
 refine Pw.r (by simp[Lz]) ?_;have hs:=aa.refl U;have Tm:=eO of;have hn:l.length<=100000:=by have:=hl.1;omega
 refine ad.mix 12 ?_;apply sR;simp only[go_sem,seval,Lz,ai,aj,al,aK];refine ae λi4 Z4 s4 a4 f4=>?_;have z4:=hs.none f4;replace hs:=hs.trans s4;simp only[go_sem,seval];refine ae λi5 Z5 s5 a5 f5=>?_;have R0:=ao a4 f5;replace a4:=s5 _ _ a4;have z5:=hs.none f5;replace hs:=hs.trans s5;simp only[go_sem,seval];refine ae λi6 Z6 s6 a6 f6=>?_;have n46:=ao a4 f6;replace a4:=s6 _ _ a4;have n56:=ao a5 f6;replace a5:=s6 _ _ a5;have z6:=hs.none f6;replace hs:=hs.trans s6;simp only[go_sem,seval,a4,a5,a6,ai,aj,al];refine ad.ay rfl rfl rfl (pk l hl hb of R4 hm _) ?_;have q0:((0:Int)≠0)=False:=PG (λh=>h rfl);have q1:((k:Int)<0)=False:=PG;have q2:((k:Int)>of.length)=False:=PG;apply sR;simp only[go_sem,seval,q0,q1,q2,a4,a5,a6,Tm,ai,aj,al,aK];refine ae λi9 Z9 s9 a9 f9=>?_;have n49:=ao a4 f9;replace a4:=s9 _ _ a4;have n59:=ao a5 f9;replace a5:=s9 _ _ a5;have YR:=ao a6 f9;replace a6:=s9 _ _ a6;have z9:=hs.none f9;replace hs:=hs.trans s9;simp only[go_sem,seval,a9,a4,a5,a6,ai,aj,al,aK];generalize QX:u' _ i9 _=Y9;replace a9:=(congrFun QX i9).symm.trans af;replace a4:=((congrFun QX i4).symm.trans (ab n49)).trans a4;replace a5:=((congrFun QX i5).symm.trans (ab n59)).trans a5;replace a6:=((congrFun QX i6).symm.trans (ab YR)).trans a6;replace hs:=Eq.subst (motive:=aa _) QX (hs.az z9);clear QX;have VS:V.Rh.cells=[.Rh]:=rfl;refine ae λi10 V7 Sj Qq f10=>?_;have n410:=ao a4 f10;replace a4:=Sj _ _ a4;have n510:=ao a5 f10;replace a5:=Sj _ _ a5;have Zb:=ao a6 f10;replace a6:=Sj _ _ a6;have YU:=ao a9 f10;replace a9:=Sj _ _ a9;have UO:=hs.none f10;replace hs:=hs.trans Sj;simp only[go_sem,seval,Qq,VS];generalize SG:u' _ i10 _=Y10;replace Qq:=(congrFun SG i10).symm.trans af;replace a4:=((congrFun SG i4).symm.trans (ab n410)).trans a4;replace a5:=((congrFun SG i5).symm.trans (ab n510)).trans a5;replace a6:=((congrFun SG i6).symm.trans (ab Zb)).trans a6;replace a9:=((congrFun SG i9).symm.trans (ab YU)).trans a9;replace hs:=Eq.subst (motive:=aa _) SG (hs.az UO);clear SG;refine ae λi11 Xq TK Qt f11=>?_;have W7:=ao a4 f11;replace a4:=TK _ _ a4;have Wm:=ao a5 f11;replace a5:=TK _ _ a5;have SJ:=ao a6 f11;replace a6:=TK _ _ a6;have Wn:=ao a9 f11;replace a9:=TK _ _ a9;have Q5:=ao Qq f11;replace Qq:=TK _ _ Qq;have Wv:=hs.none f11;replace hs:=hs.trans TK;simp only[go_sem,seval,Qt,Qq,a9,a5,a4,ab W7,ab Wm,ab SJ,ab Wn,ab Q5,ai,aj];generalize QZ:u' _ i11 _=Y11;replace Qt:=(congrFun QZ i11).symm.trans af;replace a4:=((congrFun QZ i4).symm.trans (ab W7)).trans a4;replace a5:=((congrFun QZ i5).symm.trans (ab Wm)).trans a5;replace a6:=((congrFun QZ i6).symm.trans (ab SJ)).trans a6;replace a9:=((congrFun QZ i9).symm.trans (ab Wn)).trans a9;replace Qq:=((congrFun QZ i10).symm.trans (ab Q5)).trans Qq;replace hs:=Eq.subst (motive:=aa _) QZ (hs.az Wv);clear QZ;have hK:KR l of k i4 i5 i6 i9 i10 i11 (.agg [.aL,.aL,.aL,vI (-1)]) U Y11:=⟨⟨a4,a5,a9,Qq⟩,a6,Qt,hs,Wv,W7,Wm,SJ,Wn,Q5⟩
 clear hs a4 a5 a6 a9 Qq Qt;generalize Y11=J at*;have hZ11:=hK.r11;have hZs:=hK.sub;refine⟨ak,?_⟩;refine ad.call rfl rfl rfl (tz l hl hb hn of R4 Ra ((k:Int)-1) 245 [.ptr i10 0 0,.ptr i5 0 0] (λb=>!VK l of b k) (λb Q0 X' Zl=>Ki l hb hn of R4 Ra b Q0 k (hK.ask.mono Zl))) ?_;rintro v0 Z1 ⟨s1,o0,_⟩;have hK1:=hK.mono s1;clear hK s1;obtain⟨cv0,sv0⟩:=o0.vc;have c11:=hK1.r11;have c9:=hK1.ask.r9;have c5:=hK1.ask.r5;rw[oc]at c9;apply sR;simp only[go_sem,seval,c11,c9,c5,cv0,sv0,ab Wn,ab Wm,ai,aj];have hK2:=hK1.put (w:=.agg [v0,.aL,.aL,vI (-1)]);have o0':aN (bg U i11) (u' Z1 i11 ⟨274,4,[.agg [v0,.aL,.aL,vI (-1)]]⟩) 3 1 v0 ((UG l of ((k:Int)-1) (λb=>!VK l of b k)).map vI):=by
  rcases o0 with h|⟨id,g1,g2,g3⟩
  .exact .inl h
  .have g3:J id=none:=g3;have PZ:id≠i11:=λe=>by rw[e,hZ11]at g3;cases g3
   exact .inr ⟨id,g1,by rw[ab PZ];exact g2,aI.2 ⟨PZ,hZs.none g3⟩⟩
 generalize u' Z1 i11 ⟨274,4,[.agg [v0,.aL,.aL,vI (-1)]]⟩=Y2 at*;refine ad.call rfl rfl rfl (tz l hl hb hn of R4 Ra k 246 [.ptr i10 0 0,.ptr i5 0 0] (λb=>!VK l of b ((k:Int)-1)) (λb Q0 X' Zl=>K9 l hb hn of R4 Ra b Q0 k (by omega) (by omega) (hK2.ask.mono Zl))) ?_;rintro v1 Z3 ⟨s3,o1,n1⟩;have hK3:=hK2.mono s3;have o03:=o0'.mono s3;obtain⟨cv1,sv1⟩:=o1.vc;have d11:=hK3.r11;have x11:=hK2.r11;apply sR;simp only[go_sem,seval,d11,cv0,sv0,cv1,sv1];have hK4:=hK3.put (w:=.agg [v0,v1,.aL,vI (-1)]);have push:∀{K Zx:ag} {v:V} {rows:List V} {o:Ob},K i11≠none->aN K Zx 3 1 v rows->aN K (u' Zx i11 o) 3 1 v rows:=λ{K Zx v rows o} hk h=>by
  rcases h with h|⟨id,g1,g2,g3⟩
  .exact .inl h
  .exact .inr ⟨id,g1,by rw[ab (λe=>by rw[e]at g3;exact hk g3)];exact g2,g3⟩
 have kk:bg U i11 i11≠none:=λh=>(aI.1 h).1 rfl;have o1':aN Y2 Z3 3 1 v1 _:=o1;have o04:=push (o:=⟨274,4,[.agg [v0,v1,.aL,vI (-1)]]⟩) kk o03;have o14:=push (o:=⟨274,4,[.agg [v0,v1,.aL,vI (-1)]]⟩) (by rw[x11];simp) o1';generalize u' Z3 i11 ⟨274,4,[.agg [v0,v1,.aL,vI (-1)]]⟩=Y4 at*;have QT:∀kk p,(UG l of kk p).length<=1000000:=λkk p=>by
  unfold UG;split
  .have h1:=List.length_filter_le p (T0 l (of.getD kk.toNat 0).toNat);have h2:=iK l (l.length+1) (eG l (of.getD kk.toNat 0).toNat);have h3:(T0 l (of.getD kk.toNat 0).toNat).length<=l.length+1:=h2;omega
  .simp
 refine ad.call rfl rfl rfl (Dw _ (QT _ _) o14 n1) ?_;rintro r Z5 ⟨rfl,o15,RP⟩;have y5:=hK2.ask.r5;have hK5:KR l of k i4 i5 i6 i9 i10 i11 (.agg [v0,v1,.aL,vI (-1)]) U Z5:=
  ⟨⟨RP _ _ hK4.ask.r4 (.inl (by simp)),RP _ _ hK4.ask.r5 (.inr (by rw[y5];simp)),RP _ _ hK4.ask.r9 (.inl (by simp)),RP _ _ hK4.ask.VI (.inl (by simp))⟩,RP _ _ hK4.r6 (.inl (by simp)),RP _ _ hK4.r11 (.inl (by simp)),
    λi o h=>RP _ _ (hK4.sub _ _ h) (.inr (by rw[hK2.sub _ _ h];simp)),hK4.no,hK4.ne⟩
 have o05:aN (bg U i11) Z5 3 1 v0 ((UG l of ((k:Int)-1) (λb=>!VK l of b k)).map vI):=by
  rcases o0' with h|⟨id,g1,g2,g3⟩
  .exact .inl h
  .rcases o04 with⟨e,_⟩|⟨Sd,e1,e2,_⟩
   .rw[g1]at e;cases e
   .rw[g1]at e1;injection e1 with e1 _ _
    subst e1;exact .inr ⟨id,g1,RP _ _ e2 (.inr (by rw[g2];simp)),g3⟩
 have e9:=hK5.ask.r9;have e5:=hK5.ask.r5;have e11:=hK5.r11;rw[oc]at e9;apply sR;simp only[go_sem,seval,e9,e5,e11,ai,aj];refine ad.call rfl rfl rfl (tz l hl hb hn of R4 Ra k 248 [.ptr i10 0 0,.ptr i5 0 0] (λb=>VK l of b ((k:Int)-1)) (λb Q0 X' Zl=>JU l hb hn of R4 Ra b Q0 k (by omega) (by omega) (hK5.ask.mono Zl))) ?_;rintro v2 Z6 ⟨s6,o2,_⟩;have hK6:=hK5.mono s6;have o06:=o05.mono s6;have o16:=o15.mono s6;have o2':aN Z5 Z6 3 1 v2 _:=o2;obtain⟨cv2,sv2⟩:=o2.vc;have f11:=hK6.r11;have f4:=hK6.ask.r4;have f5:=hK6.ask.r5;have f6:=hK6.r6;have Va:∀{K:ag} {J:ag} {v:V} {rows x:List V} {i:Nat} {o:Ob},J i=some ⟨274,4,x⟩->aN K J 3 1 v rows->aN K (u' J i o) 3 1 v rows:=λ{K J v rows x i o} hi h=>by
  rcases h with h|⟨id,g1,g2,g3⟩
  .exact .inl h
  .refine .inr ⟨id,g1,?_,g3⟩;rw[ab (λe=>by rw[e,hi]at g2;cases g2)];exact g2
 have hsK1:aa U (bg U i11):=λi o h=>by rw[bg,aF (λe=>by rw[e,hK6.no]at h;cases h)];exact h
 have fin:∀(t:Int) (o:Ob),t=(ep l of k).text->au (.PI [.agg [v0,v1,v2,vI t],vI 0]) (u' (u' Z6 i11 ⟨274,4,[.agg [v0,v1,v2,vI t]]⟩) i6 o) λr Z'=>r=.PI [ig (ep l of k),vI 0]/\Z'=U:=by
  intro t o ht;have g6:=f6;rw[<-ab (U:=Z6) (o:=⟨274,4,[.agg [v0,v1,v2,vI t]]⟩) SJ]at g6;have p0:=Va (o:=o) g6 (Va (o:=⟨274,4,[.agg [v0,v1,v2,vI t]]⟩) f11 o06);have p1:=Va (o:=o) g6 (Va (o:=⟨274,4,[.agg [v0,v1,v2,vI t]]⟩) f11 o16);have p2:=Va (o:=o) g6 (Va (o:=⟨274,4,[.agg [v0,v1,v2,vI t]]⟩) f11 o2');have P8:=((hK6.sub.az (o:=⟨274,4,[.agg [v0,v1,v2,vI t]]⟩) hK6.no)).az (o:=o) z6;refine⟨_,U,P8,Wk.PI (vs':=[ig (ep l of k),vI 0]) ⟨Wk.agg (vs':=[encI (ep l of k).ends,encI (ep l of k).RY,encI (ep l of k).both,vI (ep l of k).text]) ⟨p0.wk hsK1 P8,p1.wk hK2.sub P8,p2.wk hK5.sub P8,by rw[<-ht];exact Wk.refl P8 _,trivial⟩,Wk.refl P8 _,trivial⟩,rfl,rfl⟩
 rcases Nat.eq_zero_or_pos k with rfl|h0
 .have q3:((((0:Nat):Int))>0)=False:=PG;have ft:=fin (-1);apply sR;simp only[go_sem,seval,f11,f4,f5,f6,cv0,sv0,cv1,sv1,cv2,sv2,ab W7,ab Wm,ab SJ,ab Wn,ab Q5,q3,ai,aj,al,aK];exact fin _ _ (by simp[ep])
 have q3:((k:Int)>0)=True:=PK;by_cases h1:k<of.length
 .have q4:((k:Int)<of.length)=True:=PK;have q5:=ak (m:=((k-1:Nat):Int)) (by omega) (by omega);have q6:((k:Int)-1)=((k-1:Nat):Int):=by omega
  have q7:=λU=>gG (U:=U) h1;have q8:=λU=>gG (U:=U) (l:=of) (i:=k-1) (by omega);have g1:of.getD k 0=of[k]:=by simp[h1]
  have g2:of.getD (k-1) 0=of[k-1]:=by have:k-1<of.length:=by omega
                                      simp[this]
  by_cases h2:of.getD k 0=of.getD (k-1) 0
  .have q9:(of[k]=of[k-1])=True:=PK (by rw[<-g1,<-g2];exact h2);apply sR;simp only[go_sem,seval,f11,f4,f5,f6,cv0,sv0,cv1,sv1,cv2,sv2,ab W7,ab Wm,ab SJ,ab Wn,ab Q5,q3,q4,q5,q6,q7,q8,q9,Tm,ai,aj,al,aK];exact fin _ _ (by simp only[ep];rw[aE ⟨h0,h1,h2⟩,g1])
  .have q9:(of[k]=of[k-1])=False:=PG (by rw[<-g1,<-g2];exact h2);apply sR;simp only[go_sem,seval,f11,f4,f5,f6,cv0,sv0,cv1,sv1,cv2,sv2,ab W7,ab Wm,ab SJ,ab Wn,ab Q5,q3,q4,q5,q6,q7,q8,q9,Tm,ai,aj,al,aK];exact fin _ _ (by simp only[ep];rw[aF (λh=>h2 h.2.2)])
 .have q4:((k:Int)<of.length)=False:=PG;apply sR;simp only[go_sem,seval,f11,f4,f5,f6,cv0,sv0,cv1,sv1,cv2,sv2,ab W7,ab Wm,ab SJ,ab Wn,ab Q5,q3,q4,Tm,ai,aj,al,aK];exact fin _ _ (by simp only[ep];rw[aF (λh=>h1 h.2.1)])
open Go.Proofs
def SV(l:List Nd)(b:Int):Rn:=((l[b.toNat]?).map Nd.st).getD Rn.zero
def lS(l:List Nd)(b:Int):List Int:=(if 0<(SV l b).head then[2]else[])++[(SV l b).before]
def Bf(l:List Nd)(x:Kn):List Int:=x.ends.map (λb=>(SV l b).after)++x.RY.flatMap (lS l)
def jo{l:List Nd}{b:Nat}(h:b<l.length):SV l b=l[b].st:=by simp[SV,h]
def BW(l:List Nd)(x:Kn)(hE:x.ends.length<=1000000)(hB:x.RY.length<=1000000)(he:∀b∈x.ends,∃n:Nat,b=n/\n<l.length)(hb:∀b∈x.RY,∃n:Nat,b=n/\n<l.length):
 Iter prog 249 [.rp (ig x),.rp (aM l)] ((Bf l x).map λn=>[vI n]):=by
 refine⟨MU.c,λP9 τ Jx Z0 hy hJ=>?_⟩;refine(MU.r (by simp[J4]) ?_).2;obtain⟨E,B,C,tx⟩:=x;simp only at hE hB he hb;have hlE:=eO E;have hlB:=eO B;have ldI:∀(U:ag) (X:List Int),bT U false 1 (.rp (encI X))=some (encI X):=λU X=>rfl;have ldN:∀U:ag,bT U false 1 (.rp (aM l))=some (aM l):=λU=>rfl;generalize hT:(Bf l ⟨E,B,C,tx⟩).map (λn=>[vI n])=T at hy|-;refine ad.mix 9 ?_;apply sR;simp only[go_sem,seval,J4,ig,ldI,hlE,aj,al];refine ad.eh (λst=>∃(ZJ:ag),τ ((E.map λb=>(SV l b).after).map λn=>[vI n]) ZJ/\aa ZJ st.U/\st.s 0=.yl P9/\st.s 1=.rp (ig ⟨E,B,C,tx⟩)/\st.s 2=.rp (aM l))
  (λm st=>∃(j:Nat) (ZJ:ag),j<=E.length/\m=E.length-j/\τ (((E.take j).map λb=>(SV l b).after).map λn=>[vI n]) ZJ/\aa ZJ st.U/\st.s 0=.yl P9/\st.s 1=.rp (ig ⟨E,B,C,tx⟩)/\st.s 2=.rp (aM l)/\st.s 10=encI E/\st.s 11=vI E.length/\st.s 12=vI j) E.length ?_ ?_ ?_
 .exact⟨0,Z0,by omega,rfl,by simpa using hJ,aa.refl _,rfl,rfl,rfl,rfl,rfl,rfl⟩
 .rintro m ⟨S,J⟩ ⟨j,ZJ,hj,rfl,Rt,B',t0,t1,t2,t10,t11,t12⟩;simp only at B' t0 t1 t2 t10 t11 t12;refine ad.mix 9 ?_;by_cases C':j<E.length
  .have q:((j:Int)<E.length)=True:=PK;have E':=λU=>gG (U:=U) C';have Qn:E.take (j+1)=E.take j++[E[j]]:=SO C';obtain⟨b,Xr,Q0⟩:=he _ (QF C');have e0':E=E.take j++E[j]::E.drop (j+1):=by rw[<-gT C',nG]
   have e:T=(((E.take j).map λb=>(SV l b).after).map λn=>[vI n])++[vI l[b].st.after]::((((E.drop (j+1)).map λb=>(SV l b).after)++B.flatMap (lS l)).map λn=>[vI n]):=by
    rw[<-hT,Bf]
    conv=>lhs;rw[e0']
    simp[Xr,jo Q0]
   rw[Xr]at E' Qn;have Q8:=λU=>dJ (U:=U) (l:=l) (a:=b) Q0;have r1:PM .i64 ((j:Int)+1):=ak;apply sR;simp only[go_sem,seval,t0,t1,t2,t10,t11,t12,q,E',ldN,Q8,Nd.cells];refine ad.lK (Post:=λb' Z2=>∃P5,bf ZJ J P5 Z2/\((b'=true/\τ ((((E.take j).map λb=>(SV l b).after).map λn=>[vI n])++[[vI l[b].st.after]]) P5)\/(b'=false/\Jx ((((E.take j).map λb=>(SV l b).after).map λn=>[vI n])++[[vI l[b].st.after]]) P5))) rfl rfl rfl (hy _ [vI l[b].st.after] _ ZJ J e Rt B') ?_;rintro b' Z2 ⟨P5,QM,QE⟩;rcases QE with⟨rfl,QE⟩|⟨rfl,QE⟩
   .apply sR;simp only[go_sem,seval,t0,t1,t2,t10,t11,t12,r1];refine⟨_,?_,j+1,P5,by omega,rfl,by rw[Qn];simpa[jo Q0]using QE,QM.1,by simp[t0,t1,t2,t10,t11]⟩;omega
   .apply sR;simp only[go_sem,seval,t0,t1,t2,t10,t11,t12];exact⟨_,P5,QM.1,Wk.refl QM.1 _,.inr ⟨_,⟨_,by rw[e,gw];rfl⟩,QE⟩⟩
  .have q:((j:Int)<E.length)=False:=PG;rw[kT (by omega)]at Rt;apply sR;simp only[go_sem,seval,t0,t1,t2,t10,t11,t12,q];exact⟨ZJ,Rt,B'⟩
 .rintro⟨S,J⟩ ⟨ZJ,Rt,B',t0,t1,t2⟩;simp only at B' t0 t1 t2;generalize hP:((E.map λb=>(SV l b).after).map λn=>[vI n])=P1 at*;refine ad.mix 9 ?_;apply sR;simp only[go_sem,seval,t0,t1,t2,ig,ldI,hlB,aj,al];refine ad.loop (λm st=>∃(j:Nat) (ZJ:ag),j<=B.length/\m=B.length-j/\τ (P1++((B.take j).flatMap (lS l)).map λn=>[vI n]) ZJ/\aa ZJ st.U/\st.s 0=.yl P9/\st.s 2=.rp (aM l)/\st.s 27=encI B/\st.s 28=vI B.length/\st.s 29=vI j) B.length ?_ ?_
  .exact⟨0,ZJ,by omega,rfl,by simpa using Rt,B',t0,t2,rfl,rfl,rfl⟩
  .clear Rt B' t0 t1 t2;rintro m ⟨S,J⟩ ⟨j,ZJ,hj,rfl,Rt,B',t0,t2,t27,t28,t29⟩;simp only at B' t0 t2 t27 t28 t29;refine ad.mix 9 ?_;by_cases C':j<B.length
   .have q:((j:Int)<B.length)=True:=PK;have E':=λU=>gG (U:=U) C';have Qn:B.take (j+1)=B.take j++[B[j]]:=SO C';obtain⟨b,Xr,Q0⟩:=hb _ (QF C');have e0':B=B.take j++B[j]::B.drop (j+1):=by rw[<-gT C',nG]
    have e:T=(P1++((B.take j).flatMap (lS l)).map λn=>[vI n])++((lS l b).map λn=>[vI n])++(((B.drop (j+1)).flatMap (lS l)).map λn=>[vI n]):=by
     rw[<-hT,Bf,eo,hP]
     conv=>lhs;rw[e0']
     simp[Xr]
    rw[Xr]at E' Qn;have Q8:=λU=>dJ (U:=U) (l:=l) (a:=b) Q0;have r1:PM .i64 ((j:Int)+1):=ak;have hs:=aa.refl J;have htk2:(P1++((B.take (j+1)).flatMap (lS l)).map λn=>[vI n])=(P1++((B.take j).flatMap (lS l)).map λn=>[vI n])++((lS l b).map λn=>[vI n]):=by rw[Qn];simp
    generalize (P1++((B.take j).flatMap (lS l)).map λn=>[vI n])=P2 at*;have hbg:lS l b=(if 0<l[b].st.head then[2]else[])++[l[b].st.before]:=by rw[lS,jo Q0]
    apply sR;simp only[go_sem,seval,t0,t2,t27,t28,t29,q,E',ldN,Q8,Nd.cells];refine ae λi8 Z8 s8 a8 f8=>?_;have z8:=hs.none f8;replace hs:=hs.trans s8;simp only[go_sem,seval,a8,t0,t2,t27,t28,t29,ldN,Q8,Nd.cells];generalize RA:u' _ i8 _=Y8;replace a8:=(congrFun RA i8).symm.trans af;replace hs:=Eq.subst (motive:=aa _) RA (hs.az z8);clear RA;generalize ((B.drop (j+1)).flatMap (lS l)).map (λn=>[vI n])=R2 at*;refine⟨λh0=>?_,λh0=>?_⟩
    .have e1:T=P2++[vI 2]::([vI l[b].st.before]::R2):=by rw[e,hbg,aE h0];simp
     have e2:T=(P2++[[vI 2]])++[vI l[b].st.before]::R2:=by rw[e1];simp
     have e3:(P2++[[vI 2]])++[[vI l[b].st.before]]=P2++(lS l b).map λn=>[vI n]:=by rw[hbg,aE h0];simp
     have Zo:aa ZJ Y8:=B'.trans hs;refine ad.lK (Post:=λb' Z2=>∃P5,bf ZJ Y8 P5 Z2/\((b'=true/\τ (P2++[[vI 2]]) P5)\/(b'=false/\Jx (P2++[[vI 2]]) P5))) rfl rfl rfl (hy _ [vI 2] _ ZJ Y8 e1 Rt Zo) ?_;rintro b' Z2 ⟨P5,QM,QE⟩;rcases QE with⟨rfl,QE⟩|⟨rfl,QE⟩
     .have a8':=(QM.2 i8 _ (B'.none z8) a8).1;apply sR;simp only[go_sem,seval,t0,t2,t27,t28,t29,a8'];refine ad.lK (Post:=λb' Z3=>∃X7,bf P5 Z2 X7 Z3/\((b'=true/\τ ((P2++[[vI 2]])++[[vI l[b].st.before]]) X7)\/(b'=false/\Jx ((P2++[[vI 2]])++[[vI l[b].st.before]]) X7))) rfl rfl rfl (hy _ [vI l[b].st.before] _ P5 Z2 e2 QE QM.1) ?_;rintro b3 Z3 ⟨X7,W8,UH⟩;rcases UH with⟨rfl,UH⟩|⟨rfl,UH⟩
      .apply sR;simp only[go_sem,seval,t0,t2,t27,t28,t29,r1];refine⟨_,?_,j+1,X7,by omega,rfl,by rw[htk2,<-e3];exact UH,W8.1,by simp[t0,t2,t27,t28]⟩;omega
      .apply sR;simp only[go_sem,seval,t0,t2,t27,t28,t29];exact⟨_,X7,W8.1,Wk.refl W8.1 _,.inr ⟨_,⟨_,by rw[e2,gw];rfl⟩,UH⟩⟩
     .apply sR;simp only[go_sem,seval,t0,t2,t27,t28,t29];exact⟨_,P5,QM.1,Wk.refl QM.1 _,.inr ⟨_,⟨_,by rw[e1,gw];rfl⟩,QE⟩⟩
    .have e2:T=P2++[vI l[b].st.before]::R2:=by rw[e,hbg,aF (by omega)];simp
     have e3:P2++[[vI l[b].st.before]]=P2++(lS l b).map λn=>[vI n]:=by rw[hbg,aF (by omega)];simp
     have Zo:aa ZJ Y8:=B'.trans hs;apply sR;simp only[go_sem,seval,t0,t2,t27,t28,t29,a8];refine ad.lK (Post:=λb' Z3=>∃X7,bf ZJ Y8 X7 Z3/\((b'=true/\τ (P2++[[vI l[b].st.before]]) X7)\/(b'=false/\Jx (P2++[[vI l[b].st.before]]) X7))) rfl rfl rfl (hy _ [vI l[b].st.before] _ ZJ Y8 e2 Rt Zo) ?_;rintro b3 Z3 ⟨X7,W8,UH⟩;rcases UH with⟨rfl,UH⟩|⟨rfl,UH⟩
     .apply sR;simp only[go_sem,seval,t0,t2,t27,t28,t29,r1];refine⟨_,?_,j+1,X7,by omega,rfl,by rw[htk2,<-e3];exact UH,W8.1,by simp[t0,t2,t27,t28]⟩;omega
     .apply sR;simp only[go_sem,seval,t0,t2,t27,t28,t29];exact⟨_,X7,W8.1,Wk.refl W8.1 _,.inr ⟨_,⟨_,by rw[e2,gw];rfl⟩,UH⟩⟩
   .have q:((j:Int)<B.length)=False:=PG;rw[kT (by omega),<-hP,<-eo]at Rt;apply sR;simp only[go_sem,seval,t0,t2,t27,t28,t29,q];exact⟨_,ZJ,B',Wk.refl B' _,.inl (hT▸Rt)⟩
open Go.Proofs
def yd{l:List Nd}{of:List Int}(Ra:∀x∈of,0<=x/\x<l.length){k:Int}{p:Int->Bool}:∀b∈UG l of k p,∃n:Nat,b=n/\n<l.length:=λb hb=>by
 unfold UG at hb;split at hb
 .rename_i h;have C':k.toNat<of.length:=by omega
  have Vk:of.getD k.toNat 0=of[k.toNat]:=by simp[C']
  rw[Vk]at hb;obtain⟨h0,h1⟩:=Ra _ (QF C');obtain⟨n,rfl,hn⟩:=pz (l:=l) (a:=of[k.toNat].toNat) (by omega) b (nI.1 hb).1;exact⟨n,rfl,by omega⟩
 .cases hb
def o6{l:List Nd}(hn:l.length<=100000){of:List Int}{k:Int}{p:Int->Bool}:(UG l of k p).length<=100001:=by
 unfold UG;split
 .have h1:=List.length_filter_le p (T0 l (of.getD k.toNat 0).toNat);have h2:=iK l (l.length+1) (eG l (of.getD k.toNat 0).toNat);have h3:(T0 l (of.getD k.toNat 0).toNat).length<=l.length+1:=h2;omega
 .simp
def E4(l:List Nd)(b:Int):(lS l b).length<=2:=by unfold lS;split<;>simp
def zG{α β:Type}(f:α->List β)(hf:∀a,(f a).length<=2):∀L:List α,(L.flatMap f).length<=2*L.length
 |[]=>by simp
 |a::L=>by
  rw[xA,fB,Rc];have:=zG f hf L;have:=hf a;omega
def jK(l:List Nd)(of:List Int)(k:Nat):List Int:=if k=of.length then[]else Bf l (ep l of k)
def zp{l:List Nd}(hn:l.length<=100000)(of:List Int)(k:Nat):(Bf l (ep l of k)).length<=1000000:=by
 unfold Bf;rw[fB,cL];have h1:=zG (lS l) (E4 l) (ep l of k).RY;have h2:(ep l of k).ends.length<=100001:=o6 hn;have h3:(ep l of k).RY.length<=100001:=by
  rw[ep,List.length_reverse];exact o6 hn
 omega
def G8(l:List Nd)(x:Kn):aP prog 206 [aM l,ig x] (.fn 249 [.rp (ig x),.rp (aM l)]):=λU=>by
 refine Of.r (by simp[c206]) ?_;refine ad.mix 4 ?_;have q1:=ai l;have q2:=aK l;generalize aM l=y at*;obtain⟨E,B,C,tx⟩:=x;simp only[ig];apply sR;simp only[go_sem,seval,c206,q1,q2,aj,al];refine ae λSn Z1 s1 a1 f1=>?_;simp only[go_sem,seval,q1,q2,aj,al];refine ae λRs Z2 s2 a2 f2=>?_;simp only[go_sem,seval];exact⟨_,U,s1.trans s2,Wk.fn (vs':=[.rp (.agg [encI E,encI B,encI C,vI tx]),.rp y]) ⟨Wk.ptr (s1.trans s2) a2 (s1.none f2),Wk.ptr (s1.trans s2) (s2 _ _ a1) f1,trivial⟩,rfl,rfl⟩
def CM(l:List Nd)(hl:eY l)(hb:Qs l=true)(of:List Int)(R4:of.length<=1000000)(Ra:∀x∈of,0<=x/\x<l.length)(hm:pN l of=true)(k:Nat)(hk:k<=of.length):
 aP prog 163 [aM l,encI of,vI k] (.PI [encI (jK l of k),vI 0]):=λU=>by
 refine NO.r (by simp[Lp]) ?_;have hs:=aa.refl U;have Tm:=eO of;have hn:l.length<=100000:=by have:=hl.1;omega
 refine ad.mix 10 ?_;apply sR;simp only[go_sem,seval,Lp];refine ad.ay rfl rfl rfl (CP l hl hb of R4 Ra hm k hk _) ?_;apply sR;simp only[go_sem,seval,ig];refine ae λi8 Z8 s8 a8 f8=>?_;have z8:=hs.none f8;replace hs:=hs.trans s8;have q0:((0:Int)≠0)=False:=PG (λh=>h rfl);by_cases Ud:k=of.length
 .have q1:((k:Int)=of.length)=True:=PK;simp only[go_sem,seval,a8,Tm,q0,q1,ig,aj,al];rw[jK,aE Ud];have P8:=hs.az (o:=⟨274,4,[ig (ep l of k)]⟩) z8;exact⟨_,U,P8,Wk.PI (vs':=[encI [],vI 0]) ⟨(aN.start (e:=3)).wk (aa.refl _) P8,Wk.refl P8 _,trivial⟩,rfl,rfl⟩
 .have q1:((k:Int)=of.length)=False:=PG;simp only[go_sem,seval,a8,Tm,q0,q1,ig,aj,al];refine ad.ay rfl rfl rfl (G8 l (ep l of k) _) ?_;apply sR;simp only[go_sem,seval];have R8:=zp hn of k;have hit:=BW l (ep l of k) (iq (o6 hn) (by omega)) (by rw[ep,List.length_reverse];exact iq (o6 hn) (by omega)) (yd Ra) (λb hb=>yd Ra b (List.mem_reverse.1 hb));refine ad.ay rfl rfl rfl (vY hit R8 _) ?_;apply sR;simp only[go_sem,seval];rw[jK,aF Ud];have P8:=hs.az (o:=⟨274,4,[ig (ep l of k)]⟩) z8;exact⟨_,U,P8,Wk.refl P8 _,rfl,rfl⟩
open Go.Proofs
def mO(out n:Int)(over:Bool):Int:=if over=true\/out=0 then n else out
def j1(out n:Int):Int:=if n=3\/n=4 then mO out n true else if n=2 then mO out n false else out
def dp(all:List Int):Int:=all.foldl j1 0
def xe(n:Int)(over:Bool)(out:Int){U:ag}{i3:Nat}(h:U i3=some ⟨3,1,[vI out]⟩):
 aC prog 207 [vI n,.bool over,.ptr i3 0 0] U λ_ Z'=>Z' i3=some ⟨3,1,[vI (mO out n over)]⟩/\∀i,i≠i3->Z' i=U i:=by
 refine NT.r (by simp[EO]) ?_;refine ad.mix 5 ?_;have fin:∀J:ag,J i3=some ⟨3,1,[vI (mO out n over)]⟩->(∀i,i≠i3->J i=U i)->au (.PI []) J λ_ Z'=>Z' i3=some ⟨3,1,[vI (mO out n over)]⟩/\∀i,i≠i3->Z' i=U i:=λJ h1 h2=>
  ⟨_,J,aa.refl _,Wk.refl (aa.refl _) _,h1,h2⟩
 by_cases h0:over=true\/out=0
 .have ht:mO out n over=n:=aE h0;rw[ht]at fin|-;cases over
  .have q:(out=0)=True:=PK (by simpa using h0);apply sR;simp only[go_sem,seval,EO,h,q];exact fin _ af λi hi=>ab hi
  .apply sR;simp only[go_sem,seval,EO,h];exact fin _ af λi hi=>ab hi
 .have ht:mO out n over=out:=aF h0;rw[ht]at fin|-;simp only[not_or,Bool.not_eq_true]at h0;obtain⟨rfl,h0⟩:=h0;have q:(out=0)=False:=PG h0;apply sR;simp only[go_sem,seval,EO,h,q];exact fin _ h λi hi=>rfl
def EK(all:List Int)(R8:all.length<=1000000):aP prog 164 [encI all] (vI (dp all)):=λU=>by
 refine Pc.r (by simp[c164]) ?_;have hs:=aa.refl U;have Tq:=eO all;refine ad.mix 8 ?_;apply sR;simp only[go_sem,seval,c164];refine ae λi3 Z3 s3 a3 f3=>?_;have z3:=hs.none f3;replace hs:=hs.trans s3;simp only[go_sem,seval,a3,Tq];generalize X8:u' _ i3 _=X3;replace a3:=(congrFun X8 i3).symm.trans af;replace hs:=Eq.subst (motive:=aa _) X8 (hs.az z3);clear X8;refine ad.eh (λst=>st.U i3=some ⟨3,1,[vI (dp all)]⟩/\aa U st.U/\st.s 3=.ptr i3 0 0)
  (λm st=>∃j:Nat,j<=all.length/\m=all.length-j/\st.U i3=some ⟨3,1,[vI (dp (all.take j))]⟩/\aa U st.U/\st.s 3=.ptr i3 0 0/\st.s 4=.fn 207 [.ptr i3 0 0]/\st.s 9=encI all/\st.s 10=vI all.length/\st.s 11=vI j) all.length ?_ ?_ ?_
 .exact⟨0,by omega,rfl,a3,hs,rfl,rfl,rfl,rfl,rfl⟩
 .clear a3 hs;rintro m ⟨S,J⟩ ⟨j,hj,rfl,b3,hs,t3,t4,t9,t10,t11⟩;simp only at b3 hs t3 t4 t9 t10 t11;refine ad.mix 8 ?_;by_cases C':j<all.length
  .have q:((j:Int)<all.length)=True:=PK;have E':=λU=>gG (U:=U) C';have Qn:dp (all.take (j+1))=j1 (dp (all.take j)) all[j]:=by
    rw[dp,SO C',ov];rfl
   have r1:PM .i64 ((j:Int)+1):=ak;generalize all[j]=n at*;have sub2:∀{ρ:ag} {o:Ob},ρ i3=some o->(∀i,i≠i3->ρ i=J i)->aa U ρ:=λ{ρ o} h1 h2 i x hx=>by
    rw[h2 i (λe=>by rw[e,z3]at hx;cases hx)];exact hs _ _ hx
   by_cases h3:n=3
   .have q3:(n=3)=True:=PK h3;have P8:mO (dp (all.take j)) n true=j1 (dp (all.take j)) n:=by rw[j1,aE (.inl h3)]
    apply sR;simp only[go_sem,seval,t3,t4,t9,t10,t11,q,q3,E'];refine ad.call rfl rfl rfl (xe n true (dp (all.take j)) b3) ?_;rintro-ρ ⟨g1,g2⟩;apply sR;simp only[go_sem,seval,t3,t4,t9,t10,t11,r1];refine⟨_,?_,j+1,by omega,rfl,by rw[Qn];exact P8▸g1,sub2 g1 g2,by simp[t3,t4,t9,t10]⟩;omega
   .have q3:(n=3)=False:=PG h3;by_cases h4:n=4
    .have q4:(n=4)=True:=PK h4;have P8:mO (dp (all.take j)) n true=j1 (dp (all.take j)) n:=by rw[j1,aE (.inr h4)]
     apply sR;simp only[go_sem,seval,t3,t4,t9,t10,t11,q,q3,q4,E'];refine ad.call rfl rfl rfl (xe n true (dp (all.take j)) b3) ?_;rintro-ρ ⟨g1,g2⟩;apply sR;simp only[go_sem,seval,t3,t4,t9,t10,t11,r1];refine⟨_,?_,j+1,by omega,rfl,by rw[Qn];exact P8▸g1,sub2 g1 g2,by simp[t3,t4,t9,t10]⟩;omega
    .have q4:(n=4)=False:=PG h4;by_cases h2:n=2
     .have q2:(n=2)=True:=PK h2;have P8:mO (dp (all.take j)) n false=j1 (dp (all.take j)) n:=by rw[j1,aF (by simp[h3,h4]),aE h2]
      apply sR;simp only[go_sem,seval,t3,t4,t9,t10,t11,q,q3,q4,q2,E'];refine ad.call rfl rfl rfl (xe n false (dp (all.take j)) b3) ?_;rintro-ρ ⟨g1,g2⟩;apply sR;simp only[go_sem,seval,t3,t4,t9,t10,t11,r1];refine⟨_,?_,j+1,by omega,rfl,by rw[Qn];exact P8▸g1,sub2 g1 g2,by simp[t3,t4,t9,t10]⟩;omega
     .have q2:(n=2)=False:=PG h2;have P8:dp (all.take j)=j1 (dp (all.take j)) n:=by rw[j1,aF (by simp[h3,h4]),aF h2]
      apply sR;simp only[go_sem,seval,t3,t4,t9,t10,t11,q,q3,q4,q2,r1,E'];refine⟨_,?_,j+1,by omega,rfl,by rw[Qn,<-P8];exact b3,hs,by simp[t3,t4,t9,t10]⟩;omega
  .have q:((j:Int)<all.length)=False:=PG;rw[kT (by omega)]at b3;apply sR;simp only[go_sem,seval,t3,t4,t9,t10,t11,q];exact⟨b3,hs⟩
 .rintro⟨S,J⟩ ⟨b3,hs,t3⟩;simp only at b3 hs t3;refine ad.mix 8 ?_;apply sR;simp only[go_sem,seval,t3,b3];exact⟨_,U,hs,Wk.refl hs _,rfl,rfl⟩
open Go.Proofs
def jf(l:List Nd)(of:List Int)(k:Nat):Int:=dp (jK l of k)
def th{l:List Nd}(hn:l.length<=100000)(of:List Int)(k:Nat):(jK l of k).length<=1000000:=by
 unfold jK;split
 .simp
 .exact zp hn of k
def Mv(l:List Nd)(hl:eY l)(hb:Qs l=true)(of:List Int)(R4:of.length<=1000000)(Ra:∀x∈of,0<=x/\x<l.length)(hm:pN l of=true)(k:Nat)(hk:k<=of.length):
 aP prog 115 [aM l,encI of,vI k] (.PI [vI (jf l of k),vI 0]):=λU=>by
 refine NP.r (by simp[LU]) ?_;have hs:=aa.refl U;have hn:l.length<=100000:=by have:=hl.1;omega
 refine ad.mix 11 ?_;apply sR;simp only[go_sem,seval,LU];refine ad.ay rfl rfl rfl (CM l hl hb of R4 Ra hm k hk _) ?_;apply sR;simp only[go_sem,seval];refine ad.ay rfl rfl rfl (EK _ (th hn of k) _) ?_;apply sR;simp only[go_sem,seval];exact au.pure hs rfl
def A0(l:List Nd)(of:List Int):List Int:=(List.range (of.length+1)).map (jf l of)
def Kk(l:List Nd)(hl:eY l)(hb:Qs l=true)(of:List Int)(R4:of.length<=1000000)(Ra:∀x∈of,0<=x/\x<l.length)(hm:pN l of=true):
 aP prog 67 [aM l,encI of] (.PI [encI (A0 l of),vI 0]):=λU=>by
 refine e67.r (by simp[c67]) ?_;have hs:=aa.refl U;have Tm:=eO of;refine ad.mix 11 ?_;apply sR;simp only[go_sem,seval,c67];refine ad.ay rfl rfl rfl (pk l hl hb of R4 hm _) ?_;have q0:((0:Int)≠0)=False:=PG (λh=>h rfl);have r0:PM .i64 ((of.length:Int)+1):=ak;apply sR;simp only[go_sem,seval,q0,Tm,r0];refine ad.eh (λst=>aa U st.U/\aN U st.U 3 1 (st.s 7) ((A0 l of).map vI))
  (λm st=>∃j:Nat,j<=of.length+1/\m=of.length+1-j/\aa U st.U/\aN U st.U 3 1 (st.s 7) (((List.range j).map (jf l of)).map vI)/\st.s 0=aM l/\st.s 1=encI of/\st.s 19=vI ((of.length:Int)+1)/\st.s 20=vI j) (of.length+1) ?_ ?_ ?_
 .exact⟨0,by omega,rfl,hs,aN.start,rfl,rfl,rfl,rfl⟩
 .clear hs;rintro m ⟨S,J⟩ ⟨j,hj,rfl,hs,ho,t0,t1,t19,t20⟩;simp only at hs ho t0 t1 t19 t20;generalize Zp:S 7=v7 at ho;refine ad.mix 11 ?_;by_cases C':j<of.length+1
  .have q:((j:Int)<of.length+1)=True:=PK;have r1:PM .i64 ((j:Int)+1):=ak;have Qj:(((List.range (j+1)).map (jf l of)).map vI)=(((List.range j).map (jf l of)).map vI)++[vI (jf l of j)]:=by
    rw[List.range_succ];simp
   have UN:(((List.range j).map (jf l of)).map vI).length=j:=by simp
   apply sR;simp only[go_sem,seval,t0,t1,t19,t20,q];refine ad.ay rfl rfl rfl (Mv l hl hb of R4 Ra hm j (by omega) _) ?_;generalize ((List.range j).map (jf l of)).map vI=rows at*;apply sR;simp only[go_sem,seval,t0,t1,t19,t20,Zp];refine ae λi32 Z32 s32 a32 f32=>?_;obtain⟨PU,QV,Qx,VC,We⟩:=ho.BC s32;have Qp:(rows.length+1)*9<=140737488355328:=by omega
   simp only[go_sem,seval,t0,t1,t19,t20,Zp,QV,cW a32,Qp];refine dI λi33 Z33 VL XA f33=>?_;have k33:=(Qx U (aa.refl _) Z32 (hs.trans s32)).trans VL;have n33:U i33=none:=(hs.trans s32).none f33;simp only[go_sem,seval,t0,t1,t19,t20,r1];refine⟨_,?_,j+1,by omega,rfl,k33,?_,by simp[t0,t1,t19]⟩
   .omega
   .rw[Qj];exact aN.new (by simp) XA n33
  .have q:((j:Int)<of.length+1)=False:=PG;have Rw:j=of.length+1:=by omega
   subst Rw;apply sR;simp only[go_sem,seval,t0,t1,t19,t20,q];exact⟨hs,Zp▸ho⟩
 .rintro⟨S,J⟩ ⟨hs,ho⟩;simp only at hs ho;generalize Zp:S 7=v7 at ho;refine ad.mix 11 ?_;apply sR;simp only[go_sem,seval,Zp];exact⟨_,U,hs,Wk.PI (vs':=[encI (A0 l of),vI 0]) ⟨ho.wk (aa.refl _) hs,Wk.refl hs _,trivial⟩,rfl,rfl⟩
open Go.Proofs
def iS(l:List Nd)(of:List Int)(k:Int)(x:Kn):V:=.agg [encI x.ends,encI x.RY,encI x.both,vI x.text,aM l,encI of,vI k]
def Lj(l:List Nd)(hl:eY l)(hb:Qs l=true)(of:List Int)(R4:of.length<=1000000)(Ra:∀x∈of,0<=x/\x<l.length)(hm:pN l of=true)(k:Nat)(hk:k<=of.length):
 aP prog 165 [aM l,encI of,vI k] (.PI [iS l of k (ep l of k),vI 0]):=λU=>by
 refine Ns.r (by simp[L7]) ?_;have hs:=aa.refl U;refine ad.mix 10 ?_;apply sR;simp only[go_sem,seval,L7];refine ae λi6 Z6 s6 a6 f6=>?_;have z6:=hs.none f6;replace hs:=hs.trans s6;simp only[go_sem,seval];refine ad.ay rfl rfl rfl (CP l hl hb of R4 Ra hm k hk _) ?_;apply sR;simp only[go_sem,seval,ig];refine ae λi8 Z8 s8 a8 f8=>?_;have n68:=ao a6 f8;replace a6:=s8 _ _ a6;have z8:=hs.none f8;replace hs:=hs.trans s8;simp only[go_sem,seval,a8,a6,ab n68,ig,ai,aj,al,aK];exact au.pure ((hs.az z8).az z6) rfl
def EI:aP prog 208 [] (.agg [vI 0,vI 0,vI 0,vI 0,vI 0,vI 2,vI 2,vI 0,vI 0,vI 0,vI 0,vI 0]):=λU=>by
 refine O4.r (by simp[c208]) ?_;apply sR;simp only[go_sem,seval,c208];refine ae λU5 Z0 s0 a0 f0=>?_;simp only[go_sem,seval,a0];exact .pure (s0.az f0) rfl
def rP(a:Int):List Int->Nat->Int
 |[],_=>-1
 |q::r,i=>if q=a then i else rP a r (i+1)
def DZ{a:Int}{p:List Int}{i:Nat}(h:i<p.length):rP a (p.drop i) i=if p[i]=a then(i:Int)else rP a (p.drop (i+1)) (i+1):=by
 rw[gT h,rP]
def zc(a:Int):∀(p:List Int) (i:Nat),rP a p i>=0↔a∈p
 |[],_=>by simp[rP]
 |q::r,i=>by
  rw[rP];split
  .rename_i h;subst h;simp
  .rename_i h;rw[zc a r (i+1),cD];constructor
   .exact .inr
   .rintro(rfl|h2)
    .exact absurd rfl h
    .exact h2
def Ge(p:List Int)(hp:p.length<=1000000000)(a:Int):aP prog 250 [encI p,vI a] (vI (rP a p 0)):=λU=>by
 refine PE.r (by simp[Km]) ?_;have Wz:=eO p;refine ad.mix 9 ?_;apply sR;simp only[go_sem,seval,Km,Wz];refine ad.loop (λm st=>∃(i:Nat),i<=p.length/\m=p.length-i/\rP a p 0=rP a (p.drop i) i/\st.U=U/\st.s 0=encI p/\st.s 1=vI a/\st.s 7=vI p.length/\st.s 8=vI i) p.length ?_ ?_
 .exact⟨0,by omega,rfl,rfl,rfl,rfl,rfl,rfl,rfl⟩
 .rintro m ⟨s,Z'⟩ ⟨i,hi,rfl,heq,P3,h0,h1,h7,h8⟩;simp only at P3 h0 h1 h7 h8;subst P3;refine ad.mix 9 ?_;by_cases C':i<p.length
  .have q:((i:Int)<p.length)=True:=PK;have hd:=DZ (a:=a) C';have E':=λU=>gG (U:=U) C';have r1:PM .i64 ((i:Int)+1):=ak;by_cases hc:p[i]=a
   .have q1:(a=p[i])=True:=PK hc.symm;apply sR;simp only[go_sem,seval,h0,h1,h7,h8,q,E',q1];refine au.same ?_;rw[heq,hd,aE hc]
   .have q1:(a=p[i])=False:=PG (λh=>hc h.symm);apply sR;simp only[go_sem,seval,h0,h1,h7,h8,q,E',q1,r1];refine⟨_,?_,i+1,by omega,rfl,?_,by simp[h0,h1,h7]⟩
    .omega
    .rw[heq,hd,aF hc]
  .have q:((i:Int)<p.length)=False:=PG;have Sh:i=p.length:=by omega
   apply sR;simp only[go_sem,seval,h0,h1,h7,h8,q];refine au.same ?_;rw[heq,Sh,yQ];rfl
def AO(p:List Int)(hp:p.length<=1000000000)(a:Int):aP prog 212 [encI p,vI a] (.bool (decide (a∈p))):=λU=>by
 refine OD.r (by simp[c212]) ?_;apply sR;simp only[go_sem,seval,c212];refine ad.ay rfl rfl rfl (Ge p hp a _) ?_;have h:=zc a p 0;by_cases ha:a∈p
 .have q:(rP a p 0>=0)=True:=PK (h.2 ha);apply sR;simp only[go_sem,seval,q];exact au.same (by simp[ha])
 .have q:(rP a p 0>=0)=False:=PG (λhh=>ha (h.1 hh));apply sR;simp only[go_sem,seval,q];exact au.same (by simp[ha])
open Go.Proofs
def kD(of:List Int)(t:Int)(k:Nat):Nat->Nat×Nat
 |0=>(0,0)
 |j+1=>if of.getD j 0=t then if j<k then((kD of t k j).1+1,(kD of t k j).2)else((kD of t k j).1,(kD of t k j).2+1)else kD of t k j
def oC(of:List Int)(t:Int)(k:Nat):Nat×Nat:=if t<0 then(0,0)else kD of t k of.length
def Cr(of:List Int)(t:Int)(k:Nat):∀j,(kD of t k j).1<=j/\(kD of t k j).2<=j
 |0=>by simp[kD]
 |j+1=>by
  have:=Cr of t k j;rw[kD];split
  .split<;>simp only<;>omega
  .omega
def GU(l:List Nd)(of:List Int)(R4:of.length<=1000000)(k:Nat)(x:Kn):
 aP prog 210 [iS l of k x] (.PI [vI (oC of x.text k).1,vI (oC of x.text k).2]):=λU=>by
 refine Oj.r (by simp[c210]) ?_;have hs:=aa.refl U;have Tm:=eO of;obtain⟨E,B,C,t⟩:=x;simp only;refine ad.mix 6 ?_;apply sR;simp only[go_sem,seval,c210,iS,ai,aj,al,aK];refine ae λi1 Z1 s1 a1 f1=>?_;have z1:=hs.none f1;replace hs:=hs.trans s1;unfold oC;by_cases ht:t<0
 .have q:(t<0)=True:=PK ht;simp only[go_sem,seval,a1,q,ai,aj,al,aK];exact au.pure hs (by simp[ht])
 have q:(t<0)=False:=PG ht;rw[aF ht];simp only[go_sem,seval,a1,q,Tm,ai,aj,al,aK];refine ad.loop (λm st=>∃j:Nat,j<=of.length/\m=of.length-j/\st.U=Z1/\st.s 1=.ptr i1 0 0/\st.s 2=vI (kD of t k j).1/\st.s 3=vI (kD of t k j).2/\st.s 11=encI of/\st.s 12=vI of.length/\st.s 13=vI j) of.length ?_ ?_
 .exact⟨0,by omega,rfl,rfl,rfl,rfl,rfl,rfl,rfl,rfl⟩
 .rintro m ⟨S,J⟩ ⟨j,hj,rfl,P3,t1,t2,t3,t11,t12,t13⟩;simp only at P3 t1 t2 t3 t11 t12 t13;subst P3;refine ad.mix 6 ?_;by_cases C':j<of.length
  .have q0:((j:Int)<of.length)=True:=PK;have r1:PM .i64 ((j:Int)+1):=ak;have E':=λU=>gG (U:=U) C';have Vk:of.getD j 0=of[j]:=by simp[C']
   have hle:=Cr of t k j;have P8:kD of t k (j+1)=if of[j]=t then if j<k then((kD of t k j).1+1,(kD of t k j).2)else((kD of t k j).1,(kD of t k j).2+1)else kD of t k j:=by rw[kD,Vk]
   have r2:PM .i64 (((kD of t k j).1:Int)+1):=ak;have r3:PM .i64 (((kD of t k j).2:Int)+1):=ak;by_cases hn:of[j]=t
   .have q1:(of[j]≠t)=False:=PG (λh=>h hn);rw[aE hn]at P8;by_cases hk:j<k
    .have q2:((j:Int)<k)=True:=PK;rw[aE hk]at P8;apply sR;simp only[go_sem,seval,t1,t2,t3,t11,t12,t13,a1,q0,q1,q2,r1,r2,E',ai,aj,al,aK];refine⟨_,?_,j+1,by omega,rfl,by rw[P8];simp[t1,t2,t3,t11,t12]⟩;omega
    .have q2:((j:Int)<k)=False:=PG;rw[aF hk]at P8;apply sR;simp only[go_sem,seval,t1,t2,t3,t11,t12,t13,a1,q0,q1,q2,r1,r3,E',ai,aj,al,aK];refine⟨_,?_,j+1,by omega,rfl,by rw[P8];simp[t1,t2,t3,t11,t12]⟩;omega
   .have q1:(of[j]≠t)=True:=PK hn;rw[aF hn]at P8;apply sR;simp only[go_sem,seval,t1,t2,t3,t11,t12,t13,a1,q0,q1,r1,E',ai,aj,al,aK];refine⟨_,?_,j+1,by omega,rfl,by rw[P8];simp[t1,t2,t3,t11,t12]⟩;omega
  .have q0:((j:Int)<of.length)=False:=PG;have Rw:j=of.length:=by omega
   apply sR;simp only[go_sem,seval,t1,t2,t3,t11,t12,t13,q0];exact au.pure hs (by rw[Rw])
open Go.Proofs
def xH:Rn:=⟨0,0,0,0,0,2,2,0,0,0,0,0⟩
def xI(l:List Nd)(t:Int):Rn:=if 0<=eG l t.toNat then SV l (eG l t.toNat)else xH
def Kv(l:List Nd)(of:List Int)(t:Int)(k:Nat):Bool:=if t<0 then false else decide (((oC of t k).1:Int)<(xI l t).Qd\/((oC of t k).2:Int)<(xI l t).Qm)
def Ma(l:List Nd)(hl:eY l)(hb:Qs l=true)(of:List Int)(R4:of.length<=1000000)(k:Nat)(x:Kn)(hx:x.text<l.length):
 aP prog 166 [iS l of k x] (.bool (Kv l of x.text k)):=λU=>by
 refine O3.r (by simp[Lw]) ?_;have hs:=aa.refl U;have hlc:=λx=>GU l of R4 k x;obtain⟨E,B,C,t⟩:=x;simp only at hx|-;refine ad.mix 7 ?_;apply sR;simp only[go_sem,seval,Lw,iS,ai,aj,al,aK];refine ae λi1 Z1 s1 a1 f1=>?_;have z1:=hs.none f1;replace hs:=hs.trans s1;unfold Kv;by_cases ht:t<0
 .have q:(t<0)=True:=PK ht;simp only[go_sem,seval,a1,q,ai,aj,al,aK];exact au.pure hs (by simp[ht])
 have q:(t<0)=False:=PG ht;rw[aF ht];obtain⟨a,rfl⟩:∃a:Nat,t=a:=⟨t.toNat,by omega⟩
 simp only[go_sem,seval,a1,q,ai,aj,al,aK];refine ad.ay rfl rfl rfl (EI _) ?_;apply sR;simp only[go_sem,seval];refine ae λi3 Z3 s3 a3 f3=>?_;have UL:=ao a1 f3;replace a1:=s3 _ _ a1;have z3:=hs.none f3;replace hs:=hs.trans s3;simp only[go_sem,seval,a3,a1,ab UL,ai,aj,al,aK];generalize X8:u' _ i3 _=X3;replace a3:=(congrFun X8 i3).symm.trans af;replace a1:=((congrFun X8 i1).symm.trans (ab UL)).trans a1;replace hs:=Eq.subst (motive:=aa _) X8 (hs.az z3);clear X8;refine ad.ay rfl rfl rfl (BX l hl hb a (by omega) _) ?_;have Zg:=fT l a;have Zf:xI l (a:Int)=if 0<=eG l a then SV l (eG l a)else xH:=by simp[xI]
 rw[Zf];by_cases hp:0<=eG l a
 .have q0:(eG l a>=0)=True:=PK hp;obtain⟨b,Xr⟩:∃b:Nat,eG l a=b:=⟨(eG l a).toNat,by omega⟩
  rw[aE hp];rw[Xr]at q0 Zg|-;have Q0:b<l.length:=by omega
  have Q8:=λU=>dJ (U:=U) (l:=l) (a:=b) Q0;rw[jo Q0];apply sR;simp only[go_sem,seval,a1,a3,q0,Q8,Nd.cells,ab UL,ai,aj,al,aK];generalize Tt:u' X3 i3 _=Y4;have b3:Y4 i3=some ⟨24,12,[jB l[b].st]⟩:=by rw[<-Tt];exact af
  replace hs:aa U Y4:=by rw[<-Tt];exact hs.az z3
  clear Tt;generalize l[b].st=st at*;rw[jB]at b3;refine ad.ay rfl rfl rfl (hlc ⟨E,B,C,a⟩ _) ?_;generalize oC of (a:Int) k=L at*;obtain⟨L1,L2⟩:=L;simp only;by_cases h1:(L1:Int)<st.Qd
  .have q1:((L1:Int)<st.Qd)=True:=PK h1;apply sR;simp only[go_sem,seval,b3,q1,ai,aj,al,aK];exact au.pure hs (by simp[h1])
  .have q1:((L1:Int)<st.Qd)=False:=PG h1;by_cases h2:(L2:Int)<st.Qm
   .have q2:((L2:Int)<st.Qm)=True:=PK h2;apply sR;simp only[go_sem,seval,b3,q1,q2,ai,aj,al,aK];exact au.pure hs (by simp[h2])
   .have q2:((L2:Int)<st.Qm)=False:=PG h2;apply sR;simp only[go_sem,seval,b3,q1,q2,ai,aj,al,aK];exact au.pure hs (by simp[h1,h2])
 .have q0:(eG l a>=0)=False:=PG hp;rw[aF hp];apply sR;simp only[go_sem,seval,a1,a3,q0,ab UL,ai,aj,al,aK];have b3:X3 i3=some ⟨24,12,[jB xH]⟩:=a3;generalize xH=st at*;rw[jB]at b3;refine ad.ay rfl rfl rfl (hlc ⟨E,B,C,a⟩ _) ?_;generalize oC of (a:Int) k=L at*;obtain⟨L1,L2⟩:=L;simp only;by_cases h1:(L1:Int)<st.Qd
  .have q1:((L1:Int)<st.Qd)=True:=PK h1;apply sR;simp only[go_sem,seval,b3,q1,ai,aj,al,aK];exact au.pure hs (by simp[h1])
  .have q1:((L1:Int)<st.Qd)=False:=PG h1;by_cases h2:(L2:Int)<st.Qm
   .have q2:((L2:Int)<st.Qm)=True:=PK h2;apply sR;simp only[go_sem,seval,b3,q1,q2,ai,aj,al,aK];exact au.pure hs (by simp[h2])
   .have q2:((L2:Int)<st.Qm)=False:=PG h2;apply sR;simp only[go_sem,seval,b3,q1,q2,ai,aj,al,aK];exact au.pure hs (by simp[h1,h2])
open Go.Proofs
def Cs(l:List Nd)(x:Kn):Bool:=x.both.any λb=>decide ((SV l b).inside=1)
def Bl(l:List Nd)(of:List Int)(k:Nat)(x:Kn){U:ag}{i1:Nat}(h:U i1=some ⟨276,7,[iS l of k x]⟩)(n:Nat)(hn:n<l.length):
 aC prog 211 [vI n,.ptr i1 0 0] U λr Z'=>r=.bool (decide ((SV l n).inside=1))/\Z'=U:=by
 refine Pg.r (by simp[Ie]) ?_;refine ad.mix 4 ?_;have Q8:=λU=>dJ (U:=U) (l:=l) (a:=n) hn;rw[jo hn];rw[iS]at h;by_cases hi:l[n].st.inside=1
 .have q:(l[n].st.inside=1)=True:=PK hi;apply sR;simp only[go_sem,seval,Ie,h,Q8,Nd.cells,q,ai,aj];exact au.same (by simp[hi])
 .have q:(l[n].st.inside=1)=False:=PG hi;apply sR;simp only[go_sem,seval,Ie,h,Q8,Nd.cells,q,ai,aj];exact au.same (by simp[hi])
def DF(l:List Nd)(of:List Int)(k:Nat)(x:Kn)(hx:∀b∈x.both,∃n:Nat,b=n/\n<l.length)(hlen:x.both.length<=1000000):
 aP prog 167 [iS l of k x] (.bool (Cs l x)):=λU=>by
 refine Og.r (by simp[c167]) ?_;have hs:=aa.refl U;refine ad.mix 3 ?_;apply sR;simp only[go_sem,seval,c167,iS,ai,aj,al,aK];refine ae λi1 Z1 s1 a1 f1=>?_;have z1:=hs.none f1;replace hs:=hs.trans s1;simp only[go_sem,seval,a1,ai,aj,al,aK];refine ad.ay rfl rfl rfl (mH (p:=λb=>decide ((SV l b).inside=1)) Reads.ints (by omega) (λb hb=>by
  obtain⟨n,rfl,hn⟩:=hx b hb;exact Bl l of k x a1 n hn)) ?_
 apply sR;simp only[go_sem,seval];exact au.pure hs rfl
def BA(l:List Nd)(hl:eY l)(hb:Qs l=true)(of:List Int)(R4:of.length<=1000000)(Ra:∀x∈of,0<=x/\x<l.length)(hm:pN l of=true)(k:Nat)(hk:k<=of.length)(x:Kn):
 aP prog 168 [iS l of k x] (.bool (decide (1∈jK l of k))):=λU=>by
 refine NB.r (by simp[c168]) ?_;have hs:=aa.refl U;have hn:l.length<=100000:=by have:=hl.1;omega
 refine ad.mix 5 ?_;apply sR;simp only[go_sem,seval,c168,iS,ai,aj,al,aK];refine ae λi1 Z1 s1 a1 f1=>?_;have z1:=hs.none f1;replace hs:=hs.trans s1;simp only[go_sem,seval,a1,ai,aj,al,aK];refine ad.ay rfl rfl rfl (CM l hl hb of R4 Ra hm k hk _) ?_;apply sR;simp only[go_sem,seval];refine ad.ay rfl rfl rfl (AO _ (by have:=th hn of k;omega) 1 _) ?_;apply sR;simp only[go_sem,seval];exact au.pure hs rfl
open Go.Proofs
def G7(s:Int)(j:Nat)(b:Bool):Int:=if b then s+2^j else s
def j4(l:List Nd)(of:List Int)(k:Nat):Nat->Bool
 |0=>Kv l of (ep l of k).text k
 |1=>Cs l (ep l of k)
 |_=>decide (1∈jK l of k)
def dt(l:List Nd)(of:List Int)(k:Nat):Nat->Int
 |0=>0
 |j+1=>G7 (dt l of k j) j (j4 l of k j)
def pW(l:List Nd)(of:List Int)(k:Nat):Int:=if k=0\/k=of.length then 0 else dt l of k 3
def Fu{l:List Nd}{of:List Int}(Ra:∀x∈of,0<=x/\x<l.length)(k:Nat):(ep l of k).text<l.length:=by
 rw[ep];simp only;split
 .rename_i h;have Vk:of.getD k 0=of[k]'h.2.1:=by simp[h.2.1]
  rw[Vk];exact(Ra _ (QF h.2.1)).2
 .omega
def Ng(l:List Nd)(hl:eY l)(hb:Qs l=true)(of:List Int)(R4:of.length<=1000000)(Ra:∀x∈of,0<=x/\x<l.length)(hm:pN l of=true)(k:Nat)(hk:k<=of.length):
 aP prog 116 [aM l,encI of,vI k] (.PI [vI (pW l of k),vI 0]):=λU=>by
 refine Ox.r (by simp[c116]) ?_;have hs:=aa.refl U;have Tm:=eO of;have hn:l.length<=100000:=by have:=hl.1;omega
 have UI:∀(f:FuncId) (a:List V),(V.bm f a).cells=[.bm f a]:=λ_ _=>rfl;have Qp:∀f:FuncId,(V.bm f [.agg [encI (ep l of k).ends,encI (ep l of k).RY,encI (ep l of k).both,vI (ep l of k).text,aM l,encI of,vI k]]).stays=true:=λ_=>rfl;have VS:V.Rh.cells=[.Rh]:=rfl;refine ad.mix 15 ?_;apply sR;simp only[go_sem,seval,c116];refine ad.ay rfl rfl rfl (Lj l hl hb of R4 Ra hm k hk _) ?_;have Ru:(iS l of k (ep l of k)).stays=true:=rfl;apply sR;simp only[go_sem,seval,iS,Ru];refine ae λi8 Z8 s8 a8 f8=>?_;have z8:=hs.none f8;replace hs:=hs.trans s8;have q0:((0:Int)≠0)=False:=PG (λh=>h rfl);unfold pW;by_cases TP:k=0
 .subst TP;have q1:(((0:Nat):Int)=0)=True:=PK rfl;simp only[go_sem,seval,a8,q0,q1,ai,aj,al,aK];exact au.pure (hs.az z8) (by simp)
 have q1:((k:Int)=0)=False:=PG;by_cases Sc:k=of.length
 .have q2:((k:Int)=of.length)=True:=PK;simp only[go_sem,seval,a8,q0,q1,q2,Tm,ai,aj,al,aK];exact au.pure (hs.az z8) (by simp[Sc])
 have q2:((k:Int)=of.length)=False:=PG;rw[aF (by omega)];simp only[go_sem,seval,a8,q0,q1,q2,Tm,UI,Qp,VS,ai,aj,al,aK];generalize RA:u' _ i8 _=Y8;replace a8:=(congrFun RA i8).symm.trans af;replace hs:=Eq.subst (motive:=aa _) RA (hs.az z8);clear RA;refine ae λi10 V7 Sj Qq f10=>?_;have n810:=ao a8 f10;replace a8:=Sj _ _ a8;have UO:=hs.none f10;replace hs:=hs.trans Sj;simp only[go_sem,seval,Qq,UI,Qp,VS,ai,aj,al,aK];generalize SG:u' _ i10 _=Y10;replace Qq:=(congrFun SG i10).symm.trans af;replace a8:=((congrFun SG i8).symm.trans (ab n810)).trans a8;replace hs:=Eq.subst (motive:=aa _) SG (hs.az UO);clear SG;have ht:=Fu Ra (l:=l) k;have c0:aP prog 166 [iS l of k (ep l of k)] (.bool (j4 l of k 0)):=Ma l hl hb of R4 k (ep l of k) ht;have c1:aP prog 167 [iS l of k (ep l of k)] (.bool (j4 l of k 1)):=DF l of k (ep l of k) (yd Ra) (iq (o6 hn) (by omega));have c2:aP prog 168 [iS l of k (ep l of k)] (.bool (j4 l of k 2)):=BA l hl hb of R4 Ra hm k hk (ep l of k);rw[iS]at c0 c1 c2;generalize hpv:V.agg [encI (ep l of k).ends,encI (ep l of k).RY,encI (ep l of k).both,vI (ep l of k).text,aM l,encI of,vI k]=pv at*;refine ad.eh (λst=>aa U st.U/\st.s 11=vI (dt l of k 3))
  (λm st=>∃j:Nat,j<=3/\m=3-j/\aa U st.U/\st.s 11=vI (dt l of k j)/\st.s 41=.agg [.bm 166 [pv],.bm 167 [pv],.bm 168 [pv]]/\st.s 42=vI j) 3 ?_ ?_ ?_
 .exact⟨0,by omega,rfl,hs,rfl,rfl,rfl⟩
 .clear hs a8 Qq;rintro m ⟨S,J⟩ ⟨j,hj,rfl,hs,t11,t41,t42⟩;simp only at hs t11 t41 t42;refine ad.mix 15 ?_;rcases(by omega:j=0\/j=1\/j=2\/j=3)with rfl|rfl|rfl|rfl
  .have Uk:S 42=vI 0:=t42;have hp:dt l of k 0=0:=rfl;have Sa:S 11=vI 0:=by rw[t11,hp]
   apply sR;simp only[go_sem,seval,Sa,t41,Uk];refine ad.kS rfl rfl rfl (c0 _) ?_;rintro r Z' ⟨rfl,rfl⟩;cases hv:j4 l of k 0
   .apply sR;simp only[go_sem,seval,Sa,t41,Uk];refine⟨ak,_,?_,1,by omega,rfl,hs,by rw[dt,hp,hv];rfl,rfl⟩;omega
   .apply sR;simp only[go_sem,seval,Sa,t41,Uk];refine⟨ak,_,?_,1,by omega,rfl,hs,by rw[dt,hp,hv];rfl,rfl⟩;omega
  .have Uk:S 42=vI 1:=t42;have hp:dt l of k 1=0\/dt l of k 1=1:=by rw[dt,dt,G7];split<;>simp
   rcases hp with hp|hp
   .have:=hp;have Sa:S 11=vI 0:=by rw[t11,hp]
    apply sR;simp only[go_sem,seval,Sa,t41,Uk];refine ad.kS rfl rfl rfl (c1 _) ?_;rintro r Z' ⟨rfl,rfl⟩;cases hv:j4 l of k 1
    .apply sR;simp only[go_sem,seval,Sa,t41,Uk];refine⟨ak,_,?_,2,by omega,rfl,hs,by rw[dt,hp,hv];rfl,rfl⟩;omega
    .apply sR;simp only[go_sem,seval,Sa,t41,Uk];refine⟨ak,_,?_,2,by omega,rfl,hs,by rw[dt,hp,hv];rfl,rfl⟩;omega
   .have:=hp;have Sa:S 11=vI 1:=by rw[t11,hp]
    apply sR;simp only[go_sem,seval,Sa,t41,Uk];refine ad.kS rfl rfl rfl (c1 _) ?_;rintro r Z' ⟨rfl,rfl⟩;cases hv:j4 l of k 1
    .apply sR;simp only[go_sem,seval,Sa,t41,Uk];refine⟨ak,_,?_,2,by omega,rfl,hs,by rw[dt,hp,hv];rfl,rfl⟩;omega
    .apply sR;simp only[go_sem,seval,Sa,t41,Uk];refine⟨ak,_,?_,2,by omega,rfl,hs,by rw[dt,hp,hv];rfl,rfl⟩;omega
  .have Uk:S 42=vI 2:=t42;have hp:dt l of k 2=0\/dt l of k 2=1\/dt l of k 2=2\/dt l of k 2=3:=by rw[dt,dt,dt,G7,G7];split<;>split<;>simp
   rcases hp with hp|hp|hp|hp
   .have:=hp;have Sa:S 11=vI 0:=by rw[t11,hp]
    apply sR;simp only[go_sem,seval,Sa,t41,Uk];refine ad.kS rfl rfl rfl (c2 _) ?_;rintro r Z' ⟨rfl,rfl⟩;cases hv:j4 l of k 2
    .apply sR;simp only[go_sem,seval,Sa,t41,Uk];refine⟨ak,_,?_,3,by omega,rfl,hs,by rw[dt,hp,hv];rfl,rfl⟩;omega
    .apply sR;simp only[go_sem,seval,Sa,t41,Uk];refine⟨ak,_,?_,3,by omega,rfl,hs,by rw[dt,hp,hv];rfl,rfl⟩;omega
   .have:=hp;have Sa:S 11=vI 1:=by rw[t11,hp]
    apply sR;simp only[go_sem,seval,Sa,t41,Uk];refine ad.kS rfl rfl rfl (c2 _) ?_;rintro r Z' ⟨rfl,rfl⟩;cases hv:j4 l of k 2
    .apply sR;simp only[go_sem,seval,Sa,t41,Uk];refine⟨ak,_,?_,3,by omega,rfl,hs,by rw[dt,hp,hv];rfl,rfl⟩;omega
    .apply sR;simp only[go_sem,seval,Sa,t41,Uk];refine⟨ak,_,?_,3,by omega,rfl,hs,by rw[dt,hp,hv];rfl,rfl⟩;omega
   .have:=hp;have Sa:S 11=vI 2:=by rw[t11,hp]
    apply sR;simp only[go_sem,seval,Sa,t41,Uk];refine ad.kS rfl rfl rfl (c2 _) ?_;rintro r Z' ⟨rfl,rfl⟩;cases hv:j4 l of k 2
    .apply sR;simp only[go_sem,seval,Sa,t41,Uk];refine⟨ak,_,?_,3,by omega,rfl,hs,by rw[dt,hp,hv];rfl,rfl⟩;omega
    .apply sR;simp only[go_sem,seval,Sa,t41,Uk];refine⟨ak,_,?_,3,by omega,rfl,hs,by rw[dt,hp,hv];rfl,rfl⟩;omega
   .have:=hp;have Sa:S 11=vI 3:=by rw[t11,hp]
    apply sR;simp only[go_sem,seval,Sa,t41,Uk];refine ad.kS rfl rfl rfl (c2 _) ?_;rintro r Z' ⟨rfl,rfl⟩;cases hv:j4 l of k 2
    .apply sR;simp only[go_sem,seval,Sa,t41,Uk];refine⟨ak,_,?_,3,by omega,rfl,hs,by rw[dt,hp,hv];rfl,rfl⟩;omega
    .apply sR;simp only[go_sem,seval,Sa,t41,Uk];refine⟨ak,_,?_,3,by omega,rfl,hs,by rw[dt,hp,hv];rfl,rfl⟩;omega
  .have Uk:S 42=vI 3:=t42;apply sR;simp only[go_sem,seval,t11,t41,Uk];exact hs
 .rintro⟨S,J⟩ ⟨hs,t11⟩;simp only at hs t11;refine ad.mix 15 ?_;apply sR;simp only[go_sem,seval,t11];exact au.pure hs rfl
end Go.Vc
