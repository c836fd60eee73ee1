import Derived.Test.YtinojdikhfbfbaaGreatW6
set_option linter.all false
set_option maxHeartbeats 8000000
set_option maxRecDepth 100000
open Go.Proofs.Tryz
namespace Go.Vc
open Go.Proofs
def XF(l:List Nd):Nat->Int->List Int
 |0,_=>[]
 |f+1,p=>if 0<=p then p::XF l f (dq l p.toNat)else[]
def yz{l:List Nd}{f:Nat}{p:Int}(h:p<0):XF l f p=[]:=by
 cases f with
 |zero=>rfl
 |succ f=>rw[XF,aK (by omega)]
def tJ{l:List Nd}{f:Nat}{p:Int}(h:0<=p)(hf:p<f):∃g,f=g+1/\XF l f p=p::XF l g (dq l p.toNat):=by
 cases f with
 |zero=>omega
 |succ f=>exact⟨f,rfl,by rw[XF,aI h]⟩
def ez(l:List Nd)(a:Nat):-1<=dq l a/\dq l a<a:=uV l a a
def ldN(U:al)(l:List Nd):dr U false 1 (.rp (aQ l))=some (aQ l):=rfl
def fdN(l:List Nd):gm false 0 1 (.rp (.agg [aQ l]))=some (.rp (aQ l)):=rfl
def oI(l:List Int):List (List V):=l.map λp=>[vI p]
def ua(l:List Nd)(hl:dN l)(hb:SA l=true)(a:Nat)(ha:a<l.length):Iter prog 190 [.rp (.agg [aQ l]),.rp (vI a)] (oI (XF l (l.length+1) (dq l a))):=by
 have hhas:ng l (a:Int)=true:=jY.2 ⟨by omega,by omega⟩;have hpr:=ez l a;refine⟨LQ.c,λSL τ Jx Z0 hy hJ=>?_⟩;refine(LQ.q ?_).2;refine mS 5 ?_;simp only[BB,seval,<-decide_not,bp,fW,aV,dP,dR,dI,dQ,eo,bH,jE,bu,fO,dM,fL,cP,cC,bQ,iB,cm,cB,cd,Ty,jD,cW,bJ,ll,dp,bS,cN,cD,jH,binBV,bG,dj,V.cells,V.stays,Tx.nothing,OS,ldN,fdN];refine pR rfl (K5 l a _) ?_;rw[hhas];apply sR;simp only[BB,seval,<-decide_not,bp,fW,aV,dP,dR,dI,dQ,eo,bH,jE,bu,fO,dM,fL,cP,cC,bQ,iB,cm,cB,cd,Ty,jD,cW,bJ,ll,dp,bS,cN,cD,jH,binBV,bG,dj,V.cells,V.stays,Tx.nothing,ldN,fdN];refine pS rfl (xF l hl hb a ha _) ?_;simp only[go_sem,seval];refine ay.loop (λm st=>∃(pre:List Int) (q:Int) (f:Nat) (ZJ:al),m=(q+1).toNat/\-1<=q/\q<l.length/\q<f/\XF l (l.length+1) (dq l a)=pre++XF l f q/\τ (oI pre) ZJ/\aa ZJ st.U/\
  st.s 0=.yl SL/\st.s 1=.rp (.agg [aQ l])/\st.s 4=vI q) (dq l a+1).toNat ?_ ?_
 .exact⟨[],dq l a,l.length+1,Z0,rfl,by omega,by omega,by omega,rfl,hJ,aa.refl _,rfl,rfl,rfl⟩
 .rintro m ⟨s,Z'⟩ ⟨pre,q,f,ZJ,rfl,hq1,hq2,hqf,Vt,hJp,G',h0,h1,h4⟩;simp only at G' h0 h1 h4;refine ay.mix 5 ?_;by_cases hq:0<=q
  .obtain⟨g,rfl,hu⟩:=tJ (l:=l) hq hqf;obtain⟨k,rfl⟩:∃k:Nat,q=k:=⟨q.toNat,by omega⟩
   have Ve:((k:Int)>=0)=True:=by simp
   rw[gM]at hu;have hpk:=ez l k;have UG:k<l.length:=by omega
   have e:oI (XF l (l.length+1) (dq l a))=oI pre++[vI k]::oI (XF l g (dq l k)):=by rw[Vt,hu];simp[oI]
   apply sR;simp only[go_sem,seval,h0,h1,h4,Ve];refine ay.qc (Post:=λb Z2=>∃SN,bF ZJ Z' SN Z2/\((b=true/\τ (oI pre++[[vI k]]) SN)\/(b=false/\Jx (oI pre++[[vI k]]) SN))) rfl rfl rfl (hy _ [vI k] _ ZJ Z' e hJp G') ?_;rintro b Z2 ⟨SN,UQ,Uo⟩;rcases Uo with⟨rfl,Uo⟩|⟨rfl,Uo⟩
   .apply sR;simp only[BB,seval,<-decide_not,bp,fW,aV,dP,dR,dI,dQ,eo,bH,jE,bu,fO,dM,fL,cP,cC,bQ,iB,cm,cB,cd,Ty,jD,cW,bJ,ll,dp,bS,cN,cD,jH,binBV,bG,dj,V.cells,V.stays,Tx.nothing,h0,h1,h4,ldN,fdN];refine pS rfl (xF l hl hb k UG _) ?_;simp only[go_sem,seval,h0,h1];refine⟨_,?_,pre++[(k:Int)],dq l k,g,SN,rfl,by omega,by omega,by omega,by rw[Vt,hu];simp,?_,UQ.1,by simp[h0,h1]⟩
    .omega
    .simpa[oI]using Uo
   .apply sR;simp only[go_sem,seval,h0,h1,h4];refine⟨_,SN,UQ.1,Wk.refl UQ.1 _,.inr ⟨oI pre++[[vI k]],?_,Uo⟩⟩;rw[e];exact⟨oI (XF l g (dq l k)),by simp⟩
  .have Ve:(q>=0)=False:=by simp;omega
   apply sR;simp only[go_sem,seval,h0,h1,h4,Ve];rw[yz (l:=l) (f:=f) (p:=q) (by omega),kr]at Vt;exact⟨_,ZJ,G',Wk.refl G' _,.inl (by rw[Vt];exact hJp)⟩
def Ab(l:List Nd)(a:Int):aX prog 155 [.agg [aQ l],vI a] (.fn 190 [.rp (.agg [aQ l]),.rp (vI a)]):=λU=>by
 refine RB.q ?_;refine ay.mix 4 ?_;have q1:(V.agg [aQ l]).cells.length=1:=rfl;have q2:(V.agg [aQ l]).stays=true:=rfl;generalize V.agg [aQ l]=x at*;apply sR;simp only[go_sem,seval,OC,q1,q2];refine aF λVY Z1 s1 a1 f1=>?_;simp only[go_sem,seval];refine aF λXu Z2 s2 a2 f2=>?_;simp only[go_sem,seval];exact⟨_,U,s1.trans s2,Wk.fn (vs':=[.rp x,.rp (vI a)]) ⟨Wk.ptr (s1.trans s2) (s2 _ _ a1) f1,Wk.ptr (s1.trans s2) a2 (s1.none f2),trivial⟩,rfl,rfl⟩
def Ca(l:List Nd)(hl:dN l)(hb:SA l=true)(a:Nat)(ha:a<l.length):aX prog 215 [aQ l,vI a] (vI (dq l a)):=λU=>by
 refine Pv.q ?_;refine ay.mix 5 ?_;have YH:=ua l hl hb a ha;have hpr:=ez l a;apply sR;simp only[go_sem,seval,O9];refine aF λU6 Z1 s1 a4 f4=>?_;simp only[go_sem,seval];refine pS rfl (BF l hl hb _) ?_;simp only[go_sem,seval];refine pS rfl (Ab l a _) ?_;simp only[go_sem,seval];generalize hS:mix 5 _ _=S;have S4:S 4=.ptr U6 0 0:=by rw[<-hS];rfl
 have S9:S 9=.fn 190 [.rp (.agg [aQ l]),.rp (vI a)]:=by rw[<-hS];rfl
 clear hS;have hx0:∀x pre post,oI (XF l (l.length+1) (dq l a))=pre++x::post->pre=[]->x=[vI (dq l a)]:=λx pre post h hp=>by
  subst hp;by_cases h0:0<=dq l a
  .obtain⟨g,_,hu⟩:=tJ (l:=l) (f:=l.length+1) h0 (by omega);rw[hu]at h;simp only[oI,ga,lS,List.cons.injEq]at h;exact h.1.symm
  .rw[yz (by omega)]at h;simp[oI]at h
 refine ay.gX (g:=.t 9) (caps:=[.rp (.agg [aQ l]),.rp (vI a)]) S9 YH (λx hx=>?_) [] (λpre ZJ=>pre=[]/\ZJ=Z1) (λc pre ZJ=>c=none/\ZJ=C' Z1 U6 ⟨3,1,[vI (dq l a)]⟩) ?_ ?_ ?_ ?_ ?_
 .simp only[oI,iE]at hx;obtain⟨t,_,rfl⟩:=hx;rfl
 .exact⟨rfl,rfl⟩
 .rintro pre x post ZJ ZB Vt ⟨rfl,rfl⟩ G';obtain rfl:=hx0 x [] post Vt rfl;have b4:=G' _ _ a4;generalize U8:pI S [10] [vI (dq l a)]=S0;have T4:S0 4=.ptr U6 0 0:=by rw[<-U8];exact S4
  have T10:S0 10=vI (dq l a):=by rw[<-U8];rfl
  clear U8;refine mS 11 ?_;simp only[go_sem,seval,T4,T10,b4];refine mS 11 ?_;simp only[go_sem,seval,T4,b4];exact⟨_,(bF.refl G').set (o:=⟨3,1,[vI 0]⟩) a4,rfl⟩
 .rintro Z' ⟨hn,rfl⟩;have hpm:dq l a=-1:=by
   by_cases h0:0<=dq l a
   .obtain⟨g,_,hu⟩:=tJ (l:=l) (f:=l.length+1) h0 (by omega);rw[hu]at hn;simp[oI]at hn
   .omega
  refine mS 5 ?_;simp only[go_sem,seval,S4,a4];rw[hpm];exact aD.pure (s1.aL f4) rfl
 .intro id h;cases h
 .rintro pre Z' _ ⟨_,rfl⟩;refine mS 5 ?_;simp only[go_sem,seval,S4,aA];exact aD.pure (s1.aL f4) rfl
open Go.Proofs
def iR{l:List Nd}{a b:Int}:ct l a b=true↔0<=a/\b<l.length/\a<=b/\b<a+R7 l a.toNat:=by
 simp only[ct,Ba,jY,US];constructor
 .rintro⟨h1,h2,h3,h4⟩;omega
 .rintro⟨h1,h2,h3,h4⟩;omega
def xD(l:List Nd)(b:Nat):∀k,(l8 l b k=-1/\∀i:Nat,i<k->ct l i b=false)\/∃q:Nat,l8 l b k=q/\q<k/\ct l q b=true/\∀i:Nat,q<i->i<k->ct l i b=false
 |0=>.inl ⟨rfl,λi h=>by omega⟩
 |k+1=>by
  rw[l8];cases hk:ct l k b
  .simp only[jb,↓reduceIte];rcases xD l b k with⟨h1,h2⟩|⟨q,h1,h2,h3,h4⟩
   .refine .inl ⟨h1,λi hi=>?_⟩;by_cases e:i=k
    .rw[e];exact hk
    .exact h2 i (by omega)
   .refine .inr ⟨q,h1,by omega,h3,λi hi TP=>?_⟩;by_cases e:i=k
    .rw[e];exact hk
    .exact h4 i hi (by omega)
  .simp only[↓reduceIte];exact .inr ⟨k,rfl,by omega,hk,λi hi TP=>by omega⟩
def nest{l:List Nd}(hb:SA l=true){x q:Nat}(hx:x<l.length)(h1:x<=q)(h2:(q:Int)<x+R7 l x)(hq:q<l.length):(q:Int)+R7 l q<=x+R7 l x:=by
 by_cases e:x=q
 .subst e;omega
 .have Sx:bE l 0 l.length=true:=by simp only[SA,Ba]at hb;exact hb.2
  obtain⟨z1,z2⟩:=qO hb hx;obtain⟨z3,_⟩:=cc (SD _) Sx (Nat.zero_le x) hx;have W6:=nW l (l.length+1) 0 l.length (by omega) (SD _) Sx x (by omega) hx hx;rw[<-ix hx]at W6;have:=(cc (e:=x+(R7 l x).toNat) (by omega) W6 (k:=q) (by omega) (by omega)).1;omega
def G2(l:List Nd):∀(f:Nat) (p x:Int),x∈XF l f p->0<=x/\x<=p
 |0,_,_,h=>by simp[XF]at h
 |f+1,p,x,h=>by
  rw[XF]at h;split at h
  .rcases ew.1 h with rfl|h
   .omega
   .have:=G2 l f _ x h;have:=ez l p.toNat;omega
  .simp at h
def qx{l:List Nd}{a b:Nat}:∀k:Nat,(∀i:Nat,i<k->ct l i a=ct l i b)->dL l a k=dL l b k
 |0,_=>rfl
 |k+1,h=>by
  rw[dL,dL,h k (by omega),qx k λi hi=>h i (by omega)]
def nu{l:List Nd}{a q:Nat}:∀k:Nat,q<=k->(∀i:Nat,q<=i->i<k->ct l i a=false)->dL l a k=dL l a q
 |0,h,_=>by rw[Nat.le_zero.1 h]
 |k+1,h,hh=>by
  by_cases e:q=k+1
  .rw[e]
  .rw[dL,hh k (by omega) (by omega),aK (by simp)];exact nu k (by omega) λi h1 h2=>hh i h1 (by omega)
def wQ{l:List Nd}(hb:SA l=true):∀(f a:Nat),a<l.length->dq l a<f->XF l f (dq l a)=dL l a a
 |f,a,ha,hf=>by
  rcases xD l a a with⟨h1,h2⟩|⟨q,h1,h2,h3,h4⟩
  .have e:dq l a=-1:=h1;rw[e,yz (by omega),nu (q:=0) a (by omega) λi _ hi=>h2 i hi];rfl
  .have e:dq l a=q:=h1;rw[e]at hf|-;obtain⟨g,rfl,hu⟩:=tJ (l:=l) (f:=f) (p:=q) (by omega) hf;rw[hu,gM];have hpq:=ez l q;rw[wQ hb g q (by omega) (by omega),nu (q:=q+1) a (by omega) λi i1 i2=>h4 i (by omega) i2,dL,h3,aI rfl];congr 1;refine qx q λi hi=>?_;rw[Bool.eq_iff_iff,iR,iR];rw[iR]at h3;simp only[gM]at h3|-;constructor
   .rintro⟨_,_,_,g4⟩;have:=nest hb (x:=i) (q:=q) (by omega) (by omega) g4 (by omega);omega
   .rintro⟨_,_,_,_⟩;omega
open Go.Proofs
def bF.KW{ZJ U SN Z':al}(h:bF ZJ U SN Z'){e:Option Nat}(he:∀i,e=some i->∃o,SN i=some o):bF ZJ U (Vc.bW SN e) (Vc.bW Z' e):=by
 cases e with
 |none=>exact h
 |some e=>
  refine⟨CA h.1,λi o h1 h2=>?_⟩;obtain⟨h3,h4⟩:=h.2 i o h1 h2;have:i≠e:=λe'=>by subst e';obtain⟨o',ho'⟩:=he i rfl;rw[h4]at ho';cases ho'
  simp only[Vc.bW,eV this];exact⟨h3,h4⟩
def aP.HF{K ZJ Z1:al}{e sz:Nat}{v:V}{rows:List V}(h:aP K ZJ e sz v rows)(hs:aa ZJ Z1):
 ∃idA,bX Z1 e sz v=some (rows,idA)/\∀i,idA=some i->K i=none/\∃o,ZJ i=some o:=by
 rcases h with⟨rfl,rfl⟩|⟨id,rfl,ho,hk⟩
 .exact⟨none,rfl,λ_ h=>by cases h⟩
 .refine⟨some id,?_,λi h=>by cases h;exact⟨hk,_,ho⟩⟩;simp only[bX,hs _ _ ho];rw[aI ⟨trivial,trivial,trivial,SD _⟩,iC]
def cA(U:al)(id:Nat):al:=λi=>if i=id then some ⟨0,0,[]⟩else U i
def bk{U:al}{id i:Nat}:cA U id i=none↔i≠id/\U i=none:=by
 unfold cA;split
 .rename_i h;simp[h]
 .rename_i h;simp[h]
def yh{α:Type}{f:α->V}{xs:List α}{pre post:List (List V)}{x:List V}(h:(xs.map λa=>[f a])=pre++x::post):∃a,xs[pre.length]?=some a/\x=[f a]:=by
 have:=congrArg (·[pre.length]?) h;simp only[tg,KQ (SD _),Nat.sub_self,EU,Zq8]at this;obtain⟨t,h1,h2⟩:=this;exact⟨t,h1,h2.symm⟩
def zR{g:FuncId}{caps:List V}{xs:List Int}(YH:Iter prog g caps (xs.map λn=>[vI n]))(hx:xs.length<=1000000)(U:al):
 aG prog 189 [.bl,.fn g caps] U λr Z'=>aa U Z'/\aP U Z' 3 1 r (xs.map vI):=by
 refine Q9.q ?_;refine mS 8 ?_;simp only[go_sem,seval,N9];refine aF λXu Z2 s2 a2 f2=>?_;simp only[go_sem,seval];generalize hS:mix 8 _ _=S;have S2:S 2=.ptr Xu 0 0:=by rw[<-hS];rfl
 have S6:S 6=.fn g caps:=by rw[<-hS];rfl
 clear hS;refine ay.gX (g:=.t 6) (caps:=caps) S6 YH (λx hx=>?_) [] (λpre ZJ=>∃v,ZJ Xu=some ⟨57,1,[v]⟩/\aa U ZJ/\aP (cA U Xu) ZJ 3 1 v ((xs.take pre.length).map vI))
  (λ_ _ _=>False) ?_ ?_ ?_ ?_ ?_
 .obtain⟨t,_,rfl⟩:=iE.1 hx;rfl
 .exact⟨.bl,a2,s2,by simpa using aP.start⟩
 .rintro pre x post ZJ ZB Vt ⟨v,J2,Js,Jo⟩ G';obtain⟨t,hti,rfl⟩:=yh (f:=vI) Vt;have SB:xs.take (pre.length+1)=xs.take pre.length++[t]:=by rw[Kw,hti];rfl
  have hlen:(pre++[[vI t]]).length=pre.length+1:=by simp
  rw[hlen,SB];have UG:((xs.take pre.length).map vI).length<=1000001:=by simp;omega
  have XG:v.cells=[v]:=by rcases Jo with⟨rfl,_⟩|⟨_,rfl,_⟩<;>rfl
  generalize Sx:((xs.take pre.length).map vI)=rows at*;have b2:=G' _ _ J2;generalize U8:pI S [7] [vI t]=S0;have T2:S0 2=.ptr Xu 0 0:=by rw[<-U8];exact S2
  have T7:S0 7=vI t:=by rw[<-U8];rfl
  refine mS 8 ?_;simp only[go_sem,seval,T2,T7];apply sR;simp only[go_sem,seval,T2,T7,b2,XG];rw[aH];intro V2 f28;have Zq:=(bF.refl G').Jm (o:=⟨3,1,[vI t]⟩) f28;have y2:C' ZB V2 ⟨3,1,[vI t]⟩ Xu=some ⟨57,1,[v]⟩:=by rw[ad (bf b2 f28)];exact b2
  have a28:C' ZB V2 ⟨3,1,[vI t]⟩ V2=some ⟨3,1,[vI t]⟩:=aA;generalize C' ZB V2 ⟨3,1,[vI t]⟩=Z8 at*;obtain⟨idA,Ta,ZF⟩:=Jo.HF Zq.1;have SF:(rows.length+1)*9<=140737488355328:=by omega
  have k2:cA U Xu Xu≠none:=λh=>(bk.1 h).1 rfl;have ZM:∀(i:Nat) (Zx:al),cA U Xu i≠none->Vc.bW Zx idA i=Zx i:=λi Zx hk=>by
   cases idA with
   |none=>rfl
   |some a=>exact eV (λe=>hk (by rw[e];exact(ZF a rfl).1))
  simp only[go_sem,seval,Ta,bR a28,SF,T2];rw[aH];intro Uq f29;have f29:Z8 Uq=none:=f29;have m29:Xu≠Uq:=bf y2 f29;have f29':Vc.bW Z8 idA Uq=none:=by
   cases idA with
   |none=>exact f29
   |some a=>simp only[Vc.bW,del];split<;>first|rfl|exact f29
  have y2':C' (Vc.bW Z8 idA) Uq ⟨3,1,rows++[vI t]⟩ Xu=some ⟨57,1,[v]⟩:=by rw[ad m29,ZM _ _ k2];exact y2
  have hB9:=((Zq.KW (e:=idA) λi h=>(ZF i h).2).new (o:=⟨3,1,rows++[vI t]⟩) f29').set (id:=Xu) (o:=⟨57,1,[v]⟩) (o':=⟨57,1,[.own Uq 0 (rows.length+1)]⟩) (by rw[ad m29,ZM _ _ k2];exact J2);simp only[go_sem,seval,XG,y2',T2];refine⟨_,hB9,.own Uq 0 (rows.length+1),aA,?_,?_⟩
  .refine aa.aL (λi o h=>?_) f2;have h1:=Js _ _ h;rw[ad (bf (Zq.1 _ _ h1) f29),ZM _ _ (λhk=>by rw[(bk.1 hk).2]at h;cases h)];exact h1
  .rw[fw,Sx];refine aP.new (by simp) (by rw[ad m29.symm,aA];rfl) ?_;rw[bk];refine⟨m29.symm,?_⟩;cases h:U Uq with
   |none=>rfl
   |some o=>rw[Zq.1 _ _ (Js _ _ h)]at f29;cases f29
 .rintro Z' ⟨v,J2,Js,Jo⟩;rw[dO,iC]at Jo;have XG:v.cells=[v]:=by rcases Jo with⟨rfl,_⟩|⟨_,rfl,_⟩<;>rfl
  refine mS 5 ?_;simp only[go_sem,seval,S2,J2,XG];refine Tf ⟨Js,?_⟩;rcases Jo with h|⟨id,h1,h2,h3⟩
  .exact .inl h
  .exact .inr ⟨id,h1,h2,(bk.1 h3).2⟩
 .intro id h;cases h
 .rintro pre Z' _ ⟨⟩
def xA{g:FuncId}{caps:List V}{xs:List Int}(YH:Iter prog g caps (xs.map λn=>[vI n]))(hx:xs.length<=1000000):
 aX prog 154 [.fn g caps] (aZ xs):=λU=>by
 refine QZ.q ?_;refine mS 3 ?_;simp only[go_sem,seval,Ot];refine TX rfl (zR YH hx U) ?_;rintro r Z1 ⟨h1,h2⟩;apply sR;simp only[go_sem,seval];exact h2.nG h1 rfl
def XH(l:List Nd)(a:Nat):List Int:=XF l (l.length+1) (dq l a)
def kW(l:List Nd):∀(f:Nat) (p:Int),(XF l f p).length<=f
 |0,_=>by simp[XF]
 |f+1,p=>by
  rw[XF];split
  .have:=kW l f (dq l p.toNat);simp only[Uf];omega
  .simp
def BV{l:List Nd}(hb:SA l=true){a:Nat}(ha:a<l.length):XH l a=dL l a a:=wQ hb _ _ ha (by have:=ez l a;omega)
def zQ(l:List Nd)(hl:dN l)(hb:SA l=true)(hn:l.length<=100000)(a:Nat)(ha:a<l.length):aX prog 120 [aQ l,vI a] (aZ (XH l a)):=λU=>by
 refine PZ.q ?_;refine mS 5 ?_;simp only[go_sem,seval,O5];refine pS rfl (BF l hl hb _) ?_;simp only[go_sem,seval];refine pS rfl (Ab l a _) ?_;simp only[go_sem,seval];refine pS rfl (xA (ua l hl hb a ha) (by have:=kW l (l.length+1) (dq l a);omega) _) ?_;simp only[go_sem,seval];exact aD.same rfl
structure SOk(s:TA):Prop where
 top:0<=s.top/\s.top<=1099511627776
 Sk:0<=s.Sk/\s.Sk<=1099511627776
 R5:0<=s.R5/\s.R5<=1099511627776
 O':0<=s.O'/\s.O'<=1099511627776
 SG:0<=s.SG/\s.SG<=1099511627776
 R9:0<=s.R9/\s.R9<=1099511627776
 Sl:0<=s.Sl/\s.Sl<=1099511627776
 head:0<=s.head/\s.head<=1099511627776
 before:0<=s.before/\s.before<=4
 after:0<=s.after/\s.after<=4
 inside:0<=s.inside/\s.inside<=1
 clear:0<=s.clear/\s.clear<=3
structure ZN(x:Nd):Prop where
 st:SOk x.st
 kind:x.kind=1\/x.kind=2\/x.kind=3\/x.kind=4
 line:0<=x.line/\x.line<=1099511627776
 space:0<=x.space/\x.space<=1099511627776
 words:∀w∈x.words,1<=w/\w<=1099511627776
 w:0<=x.w/\x.w<=1099511627776
 h:0<=x.h/\x.h<=1099511627776
 side:0<=x.side/\x.side<=2
 text:x.kind=2->0<x.words.length/\1<=x.line
 box:x.kind=3\/x.kind=4->1<=x.w/\1<=x.h
 fl:x.kind=4->1<=x.side
 iK:x.kind≠1->x.st=TA.zero
 nowords:x.kind≠2->x.words=[]
def pf{n a b:Int}:bg n a b=true↔a<=n/\n<=b:=by simp[bg]
def Fv:SOk TA.zero:=by constructor<;>simp[TA.zero]
def Lq{s:TA}(h:s.ok=true):SOk s:=by
 simp only[TA.ok,Ba,pf,mx]at h;constructor<;>omega
def Km{x:Nd}(h:x.ok=true):ZN x:=by
 unfold Nd.ok at h;split at h
 .rename_i hk;simp only[Ba,US]at h;obtain⟨⟨⟨⟨⟨⟨h1,h2⟩,h3⟩,h4⟩,h5⟩,h6⟩,h7⟩:=h;have hw:x.words=[]:=td h4;exact⟨Lq h1,.inl hk,by omega,by omega,by rw[hw];simp,by omega,by omega,by omega,by omega,by omega,by omega,by omega,λ_=>hw⟩
 .rename_i hk;split at h
  .cases h
  .rename_i Sg;have hs:x.st=TA.zero:=Classical.byContradiction Sg;have hso:SOk x.st:=by rw[hs];exact Fv
   split at h
   .rename_i TK;simp only[Ba,US,pf,mx,gj]at h;obtain⟨⟨⟨⟨⟨⟨h1,h2⟩,h3⟩,h4⟩,h5⟩,h6⟩,h7⟩:=h;exact⟨hso,.inr (.inl TK),by omega,by omega,h1,by omega,by omega,by omega,λ_=>⟨h2,h3.1⟩,by omega,by omega,λ_=>hs,by omega⟩
   .rename_i TK;simp only[Ba,kI,US,pf,mx]at h;obtain⟨⟨⟨⟨⟨h1,h2⟩,h3⟩,h4⟩,h5⟩,h6⟩:=h;have hw:x.words=[]:=td h3;exact⟨hso,by omega,by omega,by omega,by rw[hw];simp,by omega,by omega,by omega,by omega,by omega,by omega,λ_=>hs,λ_=>hw⟩
def fA{l:List Nd}(hb:SA l=true){a:Nat}(h:a<l.length):ZN l[a]:=by
 simp only[SA,Ba,gj]at hb;exact Km (hb.1 _ (SU h))
open Go.Proofs
structure Rm where
 (x w:Int)
deriving DecidableEq
def j0(r:Rm):V:=.agg [vI r.x,vI r.w]
def cV(l:List Rm):V:=.sl 2 (l.map j0)
def tq(l:List Nd)(a:Nat):Int:=((l[a]?).map λn=>n.st.SG).getD 0
def jM(r:Rm)(i:Int):Rm:=⟨min (r.x+i) 1099511627776,max (r.w-2*i) 1⟩
def dt(l:List Nd):Nat->Nat->Nat->Rm->List Rm
 |0,_,_,_=>[]
 |k+1,a,e,r=>if a<e then r::(dt l k (a+1) (a+(R7 l a).toNat) (jM r (tq l a))++dt l k (a+(R7 l a).toNat) e r)else[]
def jC{l:List Nd}{e:Nat}(he:e<=l.length):∀(k a:Nat) (r:Rm),e-a<=k->a<=e->bE l a e=true->(dt l k a e r).length=e-a
 |0,a,r,hk,ha,_=>by simp[dt];omega
 |k+1,a,r,hk,ha,hr=>by
  rw[dt];split
  .rename_i u';obtain⟨h1,h2⟩:=cc he hr (SD a) u';obtain⟨h3,h4⟩:=cQ he hr u';have ih:=jC he k (a+(R7 l a).toNat) r (by omega) (by omega) h3;have ih2:=jC (e:=a+(R7 l a).toNat) (by omega) k (a+1) (jM r (tq l a)) (by omega) (by omega) h4;simp only[Uf,kL];omega
  .simp;omega
def ly{l:List Nd}{e:Nat}(he:e<=l.length):∀(k j a:Nat) (r:Rm),e-a<=k->e-a<=j->bE l a e=true->dt l k a e r=dt l j a e r
 |0,0,_,_,_,_,_=>rfl
 |0,j+1,a,r,h,_,_=>by rw[dt,dt,aK (by omega)]
 |k+1,0,a,r,_,h,_=>by rw[dt,dt,aK (by omega)]
 |k+1,j+1,a,r,h,h',hr=>by
  rw[dt,dt];split
  .rename_i u';obtain⟨h1,h2⟩:=cc he hr (SD a) u';obtain⟨h3,h4⟩:=cQ he hr u';rw[ly he k j _ _ (by omega) (by omega) h3,ly (e:=a+(R7 l a).toNat) (by omega) k j _ _ (by omega) (by omega) h4]
  .rfl
def bN{U:al}{l:List Nd}{a:Nat}(h:a<l.length):bI U 20 (aQ l) (.int .i64 a)=some (.rp (.agg (Nd.cells l[a]))):=by
 simp[aQ,bI,h,ie]
def oT(U:al)(a b c:Nat):al:=λi=>if i=a\/i=b\/i=c then some ⟨0,0,[]⟩else U i
def gK{U:al}{a b c i:Nat}:oT U a b c i=none↔i≠a/\i≠b/\i≠c/\U i=none:=by
 unfold oT;split
 .rename_i h;simp;intro h1 h2 h3;simp_all
 .rename_i h;simp only[not_or]at h;simp[h]
structure RmJ(l:List Nd)(Z0:al)(il io ip:Nat)(rows:List V)(U:al):Prop where
 rl:U il=some ⟨22,1,[aQ l]⟩
 rp:U ip=some ⟨215,1,[.fn 143 [.ptr il 0 0,.ptr io 0 0,.ptr ip 0 0]]⟩
 sub:aa Z0 U
 no:Z0 io=none
 out:∃v,U io=some ⟨169,1,[v]⟩/\aP (oT Z0 il io ip) U 192 2 v rows
def A4(r:Rm):(j0 r).cells=[vI r.x,vI r.w]:=rfl
def AU(r:Rm):(j0 r).stays=true:=rfl
def Rm.ok(r:Rm):Prop:=0<=r.x/\r.x<=1099511627776/\1<=r.w/\r.w<=1099511627776
def xB{r:Rm}(h:r.ok){i:Int}(h0:0<=i):(jM r i).ok:=by
 obtain⟨a,b,c,d⟩:=h;unfold jM Rm.ok;simp only;omega
def Hy{l:List Nd}(hb:SA l=true){a:Nat}(h:a<l.length):tq l a=l[a].st.SG/\0<=l[a].st.SG/\l[a].st.SG<=1099511627776:=by
 refine⟨by simp[tq,h],?_⟩;exact(fA hb h).st.SG
def FO(l:List Nd)(hl:dN l)(hb:SA l=true)(il io ip:Nat)(nlo:il≠io)(nlp:il≠ip)(nop:io≠ip):∀(m a e:Nat) (r:Rm) (rows:List V) (Z0 U:al),e-a<m->a<=e->e<=l.length->bE l a e=true->r.ok->
 rows.length+(e-a)<=l.length->RmJ l Z0 il io ip rows U->
 aG prog 143 [vI a,vI e,j0 r,.ptr il 0 0,.ptr io 0 0,.ptr ip 0 0] U λq Z'=>q=.Sa []/\RmJ l Z0 il io ip (rows++(dt l (e-a) a e r).map j0) Z':=by
 intro m
 induction m with
 |zero=>intro a e r rows Z0 U h;omega
 |succ m ih=>?_
 intro a e r rows ZB U hm W9 he hrB hr hlen hJB;have hl1:=hl.1;refine RP.q ?_;refine mS 11 ?_;simp only[go_sem,seval,Nf,A4,AU];refine aF λi8 Z8 s8 a8 f8=>?_;simp only[go_sem,seval];have no8:io≠i8:=by obtain⟨v,vo,_⟩:=hJB.out;exact bf vo f8
 have fB8:ZB i8=none:=hJB.sub.none f8;obtain⟨Z0,hY0⟩:∃s,s=C' ZB i8 ⟨192,2,[j0 r]⟩:=⟨_,rfl⟩
 have hk8:∀i,oT Z0 il io ip i=none↔i≠i8/\oT ZB il io ip i=none:=λi=>by
  rw[gK,gK,hY0];by_cases h:i=i8
  .subst h;simp[aA]
  .rw[ad h];simp[h]
 have hJ8:RmJ l Z0 il io ip rows Z8:=by
  refine⟨s8 _ _ hJB.rl,s8 _ _ hJB.rp,?_,by rw[hY0,ad no8];exact hJB.no,?_⟩
  .intro i o h;rw[hY0]at h;by_cases hi:i=i8
   .subst hi;rw[aA]at h;rw[a8];exact h
   .rw[ad hi]at h;exact s8 _ _ (hJB.sub _ _ h)
  .obtain⟨v,vo,Sq⟩:=hJB.out;refine⟨v,s8 _ _ vo,?_⟩;rcases Sq with h|⟨id,h1,h2,h3⟩
   .exact .inl h
   .exact .inr ⟨id,h1,s8 _ _ h2,(hk8 id).2 ⟨bf h2 f8,h3⟩⟩
 have hback:∀(rows:List V) (J:al),RmJ l Z0 il io ip rows J->RmJ l ZB il io ip rows J:=λrows J h=>by
  refine⟨h.rl,h.rp,λi o hi=>h.sub _ _ (by rw[hY0,ad (λe=>by rw[e,fB8]at hi;cases hi)];exact hi),by have:=h.no;rw[hY0,ad no8]at this;exact this,?_⟩;obtain⟨v,vo,Sq⟩:=h.out;refine⟨v,vo,?_⟩;rcases Sq with h|⟨id,h1,h2,h3⟩
  .exact .inl h
  .exact .inr ⟨id,h1,h2,((hk8 id).1 h3).2⟩
 have h08:Z0 i8=some ⟨192,2,[j0 r]⟩:=by rw[hY0];exact aA
 clear hY0;refine ay.loop (λq st=>∃(b:Nat) (done:List V),q=e-b/\a<=b/\b<=e/\bE l b e=true/\done.length+(e-b)<=l.length/\rows++(dt l (e-a) a e r).map j0=done++(dt l (e-b) b e r).map j0/\RmJ l Z0 il io ip done st.U/\
  st.s 1=vI e/\st.s 3=.ptr il 0 0/\st.s 4=.ptr io 0 0/\st.s 5=.ptr ip 0 0/\st.s 8=.ptr i8 0 0/\st.s 9=vI b) (e-a) ?_ ?_
 .exact⟨a,rows,rfl,SD _,W9,hrB,hlen,rfl,hJ8,rfl,rfl,rfl,rfl,rfl,rfl⟩
 .rintro q ⟨S,J⟩ ⟨b,done,rfl,VT,WU,YO,hdl,hdn,hJ,t1,t3,t4,t5,t8,t9⟩;simp only at hJ t1 t3 t4 t5 t8 t9;refine ay.mix 11 ?_;by_cases u':b<e
  .have q1:((b:Int)<(e:Int))=True:=RX;obtain⟨h1,h2⟩:=cc he YO (SD b) u';obtain⟨h3,h4⟩:=cQ he YO u';have Tu:b<l.length:=by omega
   obtain⟨g1,g2,g3⟩:=Hy hb Tu;have TU:=ix Tu;obtain⟨v,vo,Sq⟩:=hJ.out;have XG:v.cells=[v]:=by rcases Sq with⟨rfl,_⟩|⟨_,rfl,_⟩<;>rfl
   have r8:=hJ.sub _ _ h08;have r8':=r8;rw[j0]at r8';apply sR;simp only[go_sem,seval,q1,t1,t3,t4,t5,t8,t9,r8',vo,XG];refine aF λi24 Z24 s24 a24 f24=>?_;obtain⟨idA,Ta,ZF⟩:=Sq.HF s24;have SF:(done.length+1)*17<=140737488355328:=by omega
   simp only[go_sem,seval,t1,t3,t4,t5,t8,t9,Ta,bR a24,SF];rw[aH];intro i25 f25;have f25:Z24 i25=none:=f25;have ZM:∀(i:Nat) (Zx:al),oT Z0 il io ip i≠none->Vc.bW Zx idA i=Zx i:=λi Zx hk=>by
    cases idA with
    |none=>rfl
    |some a=>exact eV (λe=>hk (by rw[e];exact(ZF a rfl).1))
   have kl:oT Z0 il io ip il≠none:=λh=>(gK.1 h).1 rfl;have ko:oT Z0 il io ip io≠none:=λh=>(gK.1 h).2.1 rfl;have kp:oT Z0 il io ip ip≠none:=λh=>(gK.1 h).2.2.1 rfl;have ol:=s24 _ _ hJ.rl;have oo:=s24 _ _ vo;have op:=s24 _ _ hJ.rp;have o8:=s24 _ _ r8;have nl:=bf ol f25;have no:=bf oo f25;have np:=bf op f25;have n8:=bf o8 f25;have k8:oT Z0 il io ip i8≠none:=λh=>((hk8 i8).1 h).1 rfl;have hsub25:aa Z0 (C' (Vc.bW Z24 idA) i25 ⟨192,2,done++[.agg [vI r.x,vI r.w]]⟩):=λi o h=>by
    have h1:=s24 _ _ (hJ.sub _ _ h);rw[ad (bf h1 f25),ZM _ _ (λhk=>by rw[(gK.1 hk).2.2.2]at h;cases h)];exact h1
   have pl:(C' (Vc.bW Z24 idA) i25 ⟨192,2,done++[.agg [vI r.x,vI r.w]]⟩) il=some ⟨22,1,[aQ l]⟩:=by rw[ad nl,ZM _ _ kl];exact ol
   have po:(C' (Vc.bW Z24 idA) i25 ⟨192,2,done++[.agg [vI r.x,vI r.w]]⟩) io=some ⟨169,1,[v]⟩:=by rw[ad no,ZM _ _ ko];exact oo
   have pp:(C' (Vc.bW Z24 idA) i25 ⟨192,2,done++[.agg [vI r.x,vI r.w]]⟩) ip=some ⟨215,1,[.fn 143 [.ptr il 0 0,.ptr io 0 0,.ptr ip 0 0]]⟩:=by rw[ad np,ZM _ _ kp];exact op
   have p25:(C' (Vc.bW Z24 idA) i25 ⟨192,2,done++[.agg [vI r.x,vI r.w]]⟩) i25=some ⟨192,2,done++[.agg [vI r.x,vI r.w]]⟩:=aA;have f0:Z0 i25=none:=(hJ.sub.trans s24).none f25;have R0:=λU=>bN (U:=U) Tu;have q2:((b:Int)+1)=((b+1:Nat):Int):=by omega
   have q3:((b:Int)+l[b].size)=((b+(R7 l b).toNat:Nat):Int):=by rw[TU];omega
   obtain⟨rx0,rx1,rw0,rw1⟩:=id hr;have r1:=rI b;have r2:Sn .i64 ((b:Int)+l[b].size):=ar;have r3:Sn .i64 (r.x+l[b].st.SG):=ar;have r4:Sn .i64 (2*l[b].st.SG):=ar;have r5:Sn .i64 (r.w-2*l[b].st.SG):=ar;generalize C' (Vc.bW Z24 idA) i25 ⟨192,2,done++[.agg [vI r.x,vI r.w]]⟩=Z25 at*;have p8:=hsub25 _ _ h08;rw[j0]at p8;simp only[go_sem,seval,t1,t3,t4,t5,t8,t9,pl,po,pp,p8,XG,ab,ai,ad no8.symm,ad nlo,ad nlp.symm,ad nop.symm,ad nop,R0,Nd.cells,r1,r2,r3,r4,r5,cj,eP];have hJ9:RmJ l Z0 il io ip (done++[.agg [vI r.x,vI r.w]]) (C' Z25 io ⟨169,1,[.own i25 0 (done.length+1)]⟩):=by
    refine⟨by rw[ad nlo];exact pl,by rw[ad nop.symm];exact pp,hsub25.aL hJ.no,hJ.no,_,aA,aP.new (by simp) (by rw[ad no.symm];exact p25) (gK.2 ⟨nl.symm,no.symm,np.symm,f0⟩)⟩
   have hc:=ih (b+1) (b+(R7 l b).toNat) (jM r l[b].st.SG) (done++[.agg [vI r.x,vI r.w]]) Z0 _ (by omega) (by omega) (by omega) h4 (xB hr g2) (by simp only[kL,Uf,List.length_nil];omega) hJ9;rw[<-q2,<-q3]at hc;refine TX rfl hc ?_;rintro q' Z' ⟨rfl,Wp⟩;have cl:=Wp.rl;apply sR;simp only[go_sem,seval,t1,t3,t4,t5,t8,t9,cl,ab,ai,R0,Nd.cells,r2];have hk:dt l (e-b) b e r=r::(dt l (b+(R7 l b).toNat-(b+1)) (b+1) (b+(R7 l b).toNat) (jM r (tq l b))++dt l (e-(b+(R7 l b).toNat)) (b+(R7 l b).toNat) e r):=by
    rw[show e-b=(e-b-1)+1 by omega,dt,aI u',ly (by omega) (e-b-1) _ _ _ (by omega) (SD _) h4,ly he (e-b-1) _ _ _ (by omega) (SD _) h3]
   have Ux:=jC (l:=l) (e:=b+(R7 l b).toNat) (by omega) (b+(R7 l b).toNat-(b+1)) (b+1) (jM r l[b].st.SG) (SD _) (by omega) h4;refine⟨e-(b+(R7 l b).toNat),by omega,b+(R7 l b).toNat,_,rfl,by omega,by omega,h3,?_,?_,Wp,by simp[t1,t3,t4,t5,t8,q3]⟩
   .simp only[kL,Uf,List.length_nil,dO,Ux];omega
   .rw[hdn,hk,g1];simp only[ga,fw,mY,List.cons_append,lS];rfl
  .have q1:((b:Int)<(e:Int))=False:=H';apply sR;simp only[go_sem,seval,q1,t1,t3,t4,t5,t8,t9];refine Tf ⟨rfl,?_⟩;have hz:dt l (e-b) b e r=[]:=by rw[show e-b=0 by omega];rfl
   rw[hdn,hz];exact hback _ _ (by simpa using hJ)
def IU(l:List Nd)(hl:dN l)(hb:SA l=true)(w:Int)(h1:1<=w)(h2:w<=1099511627776):aX prog 112 [aQ l,vI w] (cV (dt l l.length 0 l.length ⟨0,w⟩)):=λU=>by
 refine RG.q ?_;have hs:=aa.refl U;refine mS 8 ?_;simp only[go_sem,seval,Oq,ab,ai];refine aE hs λi2 Z2 s2 a2 f2 z2 hs=>?_;simp only[go_sem,seval,a2,ab,ai];refine pS rfl (BF l hl hb _) ?_;simp only[go_sem,seval,a2,ab,ai];refine aE hs λi5 Z5 s5 a5 f5 z5 hs=>?_;obtain⟨n25,a2⟩:=RZ a2 f5 s5;have q1:(w<1)=False:=H';have q2:(w>1099511627776)=False:=H';simp only[go_sem,seval,a5,a2,ab,ai,q1,q2,ad n25,ad n25];generalize Uj:C' Z5 i5 _=Y5;have b5:Y5 i5=some ⟨213,1,[.agg [aQ l]]⟩:=by rw[<-Uj];exact aA
 have b2:Y5 i2=some ⟨22,1,[aQ l]⟩:=by rw[<-Uj,ad n25];exact a2
 have WH:aa U Y5:=by rw[<-Uj];exact hs.aL z5
 have U2:aa Y5 Y5:=aa.refl _;clear Uj;refine aF λi6 Z6 s6 a6 f6=>?_;have c5:=s6 _ _ b5;have c2:=s6 _ _ b2;have z6:U i6=none:=WH.none f6;simp only[go_sem,seval];refine aF λi7 Z7 s7 a7 f7=>?_;have d5:=s7 _ _ c5;have d2:=s7 _ _ c2;have d6:=s7 _ _ a6;have z7:U i7=none:=(WH.trans s6).none f7;have n57:=bf c5 f7;have n27:=bf c2 f7;have Uh:=bf a6 f7;have n26:=bf b2 f6;have hn:=bT l;have hnf:V.TG.cells=[.TG]:=rfl;simp only[go_sem,seval,a7,hnf,d5,d2,d6,ad n57,ad n27,ad Uh,hn,ab,ai];have hJ:RmJ l U i2 i6 i7 [] (C' Z7 i7 ⟨215,1,[.fn 143 [.ptr i2 0 0,.ptr i6 0 0,.ptr i7 0 0]]⟩):=
  ⟨by rw[ad n27];exact d2,aA,(((WH.trans s6).trans s7)).aL z7,z6,.bl,by rw[ad Uh];exact d6,aP.start⟩
 have hc:=FO l hl hb i2 i6 i7 n26 n27 Uh (l.length+1) 0 l.length ⟨0,w⟩ [] U _ (by omega) (by omega) (by omega) (by simp only[SA,Ba]at hb;exact hb.2) ⟨by simp,by simp,h1,h2⟩ (by simp) hJ;refine TX rfl hc ?_;rintro q Z' ⟨rfl,Wp⟩;obtain⟨v,vo,Sq⟩:=Wp.out;have XG:v.cells=[v]:=by rcases Sq with⟨rfl,_⟩|⟨_,rfl,_⟩<;>rfl
 apply sR;simp only[go_sem,seval,vo,XG];have ho:aP U Z' 192 2 v ((dt l l.length 0 l.length ⟨0,w⟩).map j0):=by
  rcases Sq with⟨h,h'⟩|⟨id,h1,h2,h3⟩
  .exact .inl ⟨h,by simpa using h'⟩
  .exact .inr ⟨id,by simpa using h1,by simpa using h2,(gK.1 h3).2.2.2⟩
 exact ho.nG Wp.sub rfl
section
variable {P:Program} {n:Nat}
def ay.Nj{st:St}{Q:St->Prop}{k:List It}{i:aU}{l:List aU}{xa:VX}(hw:bt st.s i.g=some true)(ho:i.op=.Vr false xa (.c (.iface 0 .undef))){b:Bool}
 (hx:(xa.ev st.s=.bl/\b=true)\/(∃sz r rows,xa.ev st.s=.sl sz (r::rows)/\b=false)\/∃id off m,xa.ev st.s=.own id off (m+1)/\b=false)
 (h:ay P n (.ops l::k) ⟨bb st.s i.dst (.bool b),st.U⟩ Q):ay P n (.ops (i::l)::k) st Q:=by
 refine ay.ins (by rw[ho];simp) hw λF hn I a w o all hi hs next Q' R8=>?_
 subst hn;obtain⟨Sc,hd⟩:=fD hi;rw[ho]at Sc;obtain⟨t,x,y,m,c,yt,e,g1,rfl,g2,rfl⟩:=Be Sc;have R:=cO hs x;have hX:∃ba len cap,a.eval x=.slice ba len cap/\ba.isNone=b:=by
  rcases hx with⟨hx,rfl⟩|⟨sz,r,rows,hx,rfl⟩|⟨id,off,m,hx,rfl⟩
  .rw[hx]at R;simp only[E']at R;exact⟨none,0,0,R,rfl⟩
  .rw[hx]at R;simp only[E']at R;obtain⟨ba,cap,hX,_,hr⟩:=R;rcases hr with hr|⟨b,off,rfl,_⟩
   .cases hr
   .exact⟨_,_,_,hX,rfl⟩
  .rw[hx]at R;simp only[E']at R;split at R
   .exact R.elim
   .exact absurd R.2.2 (by omega)
   .obtain⟨o,c,hX,_⟩:=R;exact⟨_,_,_,hX,rfl⟩
 obtain⟨ba,len,cap,hX,rfl⟩:=hX;have SQ:(execOp a.eval o).run P w=.ok (.value (.bool ba.isNone)) w:=by
  unfold execOp;rw[g1];have hY:a.eval (.const (.slice none m c))=.slice none m c:=rfl;simp[hX,hY,eqGuard,Lib.run_eql_slice_nil w t e ba len cap m c g2]
 unfold Oper.wp;rw[SQ];refine R8 _ _ _ ⟨I,?_⟩ h;rw[<-hd];exact hs.pure (by simp[E'])
end
open Go.Proofs
def vu(U:al)(v v':V):Prop:=∀J,aa U J->Wk J iK v v'
def vu.mono{U J:al}{v v':V}(h:vu U v v')(hs:aa U J):vu J v v':=λX' h'=>h X' (hs.trans h')
def vu.at{U:al}{v v':V}(h:vu U v v'):Wk U iK v v':=h U (aa.refl _)
def aP.ye{K U:al}{e sz:Nat}{v:V}{rows:List V}(h:aP K U e sz v rows):vu U v (.sl sz rows):=λJ hs=>(h.mono hs).wk (jU _) (jU _)
def UM{J:al}(v:V):Wk J iK v v:=Wk.refl (jU _) _
def EM(vf:V){U:al}(fs:List Si)(UI:vu U vf (bj fs))(ws:List Int)(space high:Int)(y:Int)(s:SK)(hl:fs.length<=1000000)(Se:∀f∈fs,f.ok)(B:Int)(hB:∀f∈fs,f.y+f.h<=B)(hB1:B<=1152921504606846976)(ZO:0<=y)(hy:y<=B)(hh:0<=high)(hh1:high<=1099511627776)
 (TJ:Tj s.a/\Tj s.b)(hw:WOk ws space):aG prog 174 [vf,aZ ws,vI space,vI high,vI y,aY s] U λr Z'=>aa U Z'/\aP U Z' 203 5 r ((cM fs ws space high s ws.length 0 y).map jo):=by
 refine QM.q ?_;have hs:=aa.refl U;have hn:=dz ws;have Ux:=hw.len;refine mS 16 ?_;simp only[go_sem,seval,My,aY];refine aE hs λi11 Yq Vq Ts f11 YK hs=>?_;simp only[go_sem,seval,Ts];generalize hG:cM fs ws space high s ws.length 0 y=G;refine ay.loop (λm st=>∃(i k:Nat) (y':Int) (acc:List Ln),m=ws.length-i/\i<=ws.length/\ws.length-i<=k/\acc.length<=i/\G=acc++cM fs ws space high s k i y'/\0<=y'/\y'<=B+1099511627776*i/\aa U st.U/\aP U st.U 203 5 (st.s 13) (acc.map jo)/\
  st.U i11=some ⟨195,2,[.agg [vI s.a,vI s.b]]⟩/\st.s 0=vf/\st.s 1=aZ ws/\st.s 2=vI space/\st.s 3=vI high/\st.s 4=vI y'/\st.s 11=.ptr i11 0 0/\st.s 14=vI i) ws.length ?_ ?_
 .exact⟨0,ws.length,y,[],rfl,by omega,by omega,by simp,hG.symm,ZO,by omega,hs,aP.start,Ts,rfl,rfl,rfl,rfl,rfl,rfl,rfl⟩
 .rintro m ⟨S,J⟩ ⟨i,k,y',acc,rfl,hi,hk,Xd,hg,hy1,hy2,G',Sq,b11,t0,t1,t2,t3,t4,t11,t14⟩;simp only at G' Sq b11 t0 t1 t2 t3 t4 t11 t14;generalize Vv:S 13=v13 at Sq;refine ay.mix 16 ?_;by_cases u':i<ws.length
  .have q:=qT u';obtain⟨k,rfl⟩:∃k',k=k'+1:=⟨k-1,by omega⟩
   rw[cM,aI u']at hg;have VQ:=rU (space:=space) (width:=fN (bP fs (gu fs (ws.getD i 0) high s y') high s)) u';have hyr:=fF (w:=ws.getD i 0) (high:=high) (y:=y') (s:=s) hB;have hx:=HG fs ws space high i y' s hl Se ⟨by omega,by omega⟩ ⟨by omega,by omega⟩ TJ hw u';obtain⟨x,Wf⟩:∃x,x=lV fs ws space high i y' s:=⟨_,rfl⟩
   have x1:∃j:Nat,x.to=j/\i<j/\j<=ws.length:=by rw[Wf];exact⟨_,rfl,VQ⟩
   have x2:y'<=x.y/\x.y<=max y' B:=by rw[Wf];exact hyr
   rw[<-Wf]at hg hx;clear Wf VQ hyr;obtain⟨j,hj,XY,U3⟩:=x1;rw[hj,gM]at hg;apply sR;simp only[go_sem,seval,t0,t1,t2,t3,t4,t11,t14,b11,hn,q];refine pR rfl (aX.tf (args':=[bj fs,aZ ws,vI space,vI high,vI i,vI y',aY s]) ⟨(UI.mono G').at,UM _,UM _,UM _,UM _,UM _,UM _,trivial⟩ hx rfl) ?_;have hc:=rX x;have Sg:=rL x;have Tr:(jo x).cells.length=5:=rfl;have hag:V.agg [vI x.fr,vI x.to,vI x.x,vI x.y,vI x.w]=jo x:=rfl;apply sR;simp only[go_sem,seval,t0,t1,t2,t3,t4,t11,t14,Vv,hc,Sg];refine aF λi15 Z15 XD Vg f15=>?_;simp only[go_sem,seval,Vg,t0,t1,t2,t3,t4,t11,t14,Vv,hc,Tr,Sg,hag];generalize TW:C' Z15 i15 _=Y15;have b15:Y15 i15=some ⟨203,5,[.agg [vI x.fr,vI x.to,vI x.x,vI x.y,vI x.w]]⟩:=by rw[<-TW];exact aA
   have Yt:aa J Y15:=by rw[<-TW];exact XD.aL f15
   clear TW;refine aF λi30 Z30 s30 a30 f30=>?_;obtain⟨idA,Ta,Sd,Us,Wn⟩:=Sq.nM (Yt.trans s30);have SF:(acc.length+1)*41<=140737488355328:=by omega
   have UF:(acc.map jo).length=acc.length:=by simp
   simp only[go_sem,seval,t0,t1,t2,t3,t4,t11,t14,Vv,Ta,bR a30,UF,SF];refine bn λi31 Z31 s31 a31 f31=>?_;have k31:=(Sd U (aa.refl _) Z30 (G'.trans (Yt.trans s30))).trans s31;have n31:U i31=none:=(G'.trans (Yt.trans s30)).none f31;have c15:Z31 i15=some ⟨203,5,[.agg [vI x.fr,vI x.to,vI x.x,vI x.y,vI x.w]]⟩:=s31 _ _ (by rw[Wn i15 f15];exact s30 _ _ b15);have c11:Z31 i11=some ⟨195,2,[.agg [vI s.a,vI s.b]]⟩:=s31 _ _ (by rw[Us i11 _ b11 (.inr (by simp))];exact s30 _ _ (Yt _ _ b11));have r1:Sn .i64 (x.y+high):=ar;simp only[go_sem,seval,t0,t1,t2,t3,t4,t11,t14,c15,hj,r1];refine⟨_,?_,j,k,x.y+high,acc++[x],rfl,U3,by omega,by simp;omega,by rw[hg];simp,by omega,by omega,k31,?_,c11,by simp[t0,t1,t2,t3,t11]⟩
   .omega
   .rw[fw];exact aP.new (by simp) a31 n31
  .have q:=qF u';apply sR;simp only[go_sem,seval,t0,t1,t2,t3,t4,t11,t14,Vv,b11,hn,q];have:cM fs ws space high s k i y'=[]:=by
    cases k with
    |zero=>rfl
    |succ k=>rw[cM,aK u']
   rw[this,kr]at hg;refine Tf ⟨G',?_⟩;rw[hg];exact Sq
def zo{P:Program}{f:FuncId}{fn:Func}(hf:P.funcs[f]?=some fn){e sz b:Nat}(hc:cfn P fn=some (n7 e sz b))(hk:gQ P f=true){K U:al}{v:V}{rows:List V}(hv:aP K U e sz v rows)(Sh:rows=[]->v=.bl)(hb:rows.length*(b+1)<=140737488355328):
 aG P f [v] U λr Z'=>aa U Z'/\aP U Z' e sz r rows:=by
 refine aG.oq hf hc hk (by simp[n7]) ?_;refine ay.mix 3 ?_;rcases hv with⟨rfl,rfl⟩|⟨id,rfl,ho,_⟩
 ·(refine ay.bB Tx.nothing 8 ?_;simp only[go_sem,seval,px,n7])
  refine ay.Nj rfl rfl (b:=true) (.inl ⟨rfl,rfl⟩) ?_;apply sR;simp only[go_sem,seval];exact Tf ⟨aa.refl _,aP.start⟩
 .obtain⟨m,hm⟩:∃m,rows.length=m+1:=by
   cases rows with
   |nil=>exact absurd (Sh rfl) (by simp)
   |cons r rs=>exact⟨rs.length,by simp⟩
  (refine ay.bB Tx.nothing 8 ?_;simp only[go_sem,seval,px,n7])
  refine ay.Nj rfl rfl (b:=false) (.inr (.inr ⟨id,0,m,by rw[hm];rfl,rfl⟩)) ?_;apply sR;simp only[go_sem,seval];refine aF λVY Z1 s1 a1 f1=>?_;obtain⟨idA,hd,Sd⟩:=(aP.new (K:=U) (e:=e) (sz:=sz) (n:=0) (rows:=[]) rfl a1 f1).dst (aa.refl _);have Yk:cy Z1 sz (.own id 0 rows.length)=some rows:=by simp[cy,s1 _ _ ho]
  simp only[go_sem,seval,hd,Yk,hb];refine bn λXu Z2 s2 a2 f2=>?_;have U2:=(Sd U (aa.refl _) Z1 s1).trans s2;simp only[go_sem,seval];exact Tf ⟨U2,aP.new (by simp) a2 (s1.none f2)⟩
def IF(vf:V){K U:al}(fs:List Si)(UI:aP K U 137 7 vf (fs.map br))(Sh:fs=[]->vf=.bl)(f:Si)(y:Int)(s:SK)(hl:fs.length<=1000000)(Se:∀f∈fs,f.ok)(hy:Tj y)(hh:Bq f.h)(hw:Bq f.w)(TJ:Tj s.a/\Tj s.b):
 aG prog 178 [vf,br f,vI y,aY s] U λr Z'=>aa U Z'/\aP U Z' 137 7 r ((nL fs f y s).map br):=by
 refine RL.q ?_;have hs:=aa.refl U;refine mS 14 ?_;simp only[go_sem,seval,NF,br,aY];refine aE hs λi5 Z5 s5 a5 f5 z5 hs=>?_;simp only[go_sem,seval,a5];refine aE hs λi7 Z7 s7 a7 f7 z7 hs=>?_;obtain⟨n57,a5⟩:=RZ a5 f7 s7;simp only[go_sem,seval,a7,a5];refine pS rfl (aX.tf (args':=[bj fs,br f,vI y,aY s]) ⟨((UI.mono hs).ye).at,UM _,UM _,UM _,trivial⟩ (Lb fs f y s hl Se hy hh hw TJ) rfl) ?_;simp only[go_sem,seval,a7,a5,ad n57,ad n57.symm,gn];generalize Uj:C' Z7 i5 _=Y5;have b5:Y5 i5=some ⟨137,7,[br (iS fs f y s)]⟩:=by rw[<-Uj];exact aA
 have WH:aa U Y5:=by rw[<-Uj];exact hs.aL z5
 clear Uj;have Wr:br (iS fs f y s)=.agg [vI f.node,vI f.side,vI f.anchor,vI (me fs f y s),vI (j4 fs f y s),vI f.w,vI f.h]:=rfl;rw[Wr]at b5;have UF:(fs.map br).length=fs.length:=by simp
 have SF:(fs.length+1)*57<=140737488355328:=by omega
 have WE:fs.map br++[V.agg [vI f.node,vI f.side,vI f.anchor,vI (me fs f y s),vI (j4 fs f y s),vI f.w,vI f.h]]=(nL fs f y s).map br:=by simp[nL,<-Wr]
 have hne':fs.map br=[]->vf=.bl:=λh=>Sh (by simpa using h);refine ay.tW (by kernel_rfl) 8 (.fork [[],[0],[],[2],[1,3,0,2],[4,0,1,2,3]] [0,2] [1,3] [(.leaf [[],[0],[],[1,0,2],[1,0,3,2],[1,0,4,2,3]] [1,3,4,5]),(.leaf [[],[3,2,0],[],[2],[3,2,1,0],[3,2,4,0,1]] [3,1,4,5])]) (by kernel_rfl) ?_;refine GT.oY (its:=[0,4]) (by kernel_rfl) ?_;refine cY (n:=0) [] [0,4] [_,_] rfl rfl ?_;simp only[go_sem,seval,b5];refine⟨?_,?_⟩
 .refine GT.gN (its:=[2,5,6,8,10]) (by kernel_rfl) ?_;refine RE.call rfl rfl rfl rfl rfl (zo func85 (e85.b.trans rfl) e85.c (UI.mono WH) hne' (by simp;omega)) ?_;rintro r Z3 ⟨s3,Sq⟩;replace b5:=s3 _ _ b5;have hs3:=WH.trans s3;refine eh rfl (by simp only[go_sem,seval,b5]) ?_;refine cY (n:=0) [] [6,8,10] [_,_,_] rfl rfl ?_;simp only[go_sem,seval,b5];refine bM λi9 Y9 s9 a9 f9=>?_;obtain⟨idA,Ta,Sd⟩:=Sq.dst s9;simp only[go_sem,seval,Ta,bR a9,UF,SF,WE];refine qs λi10 XV TN Sb f10=>?_;have Tp:=(Sd U WH Y9 (hs3.trans s9)).trans TN;have n10:U i10=none:=(hs3.trans s9).none f10;simp only[go_sem,seval];apply sR;simp only[go_sem,seval];exact Tf ⟨Tp,aP.new (by simp[nL]) Sb n10⟩
 .refine GT.gN (its:=[6,2,8,10]) (by kernel_rfl) ?_;refine cY (n:=0) [2,8,10] [6] [_] rfl rfl ?_;simp only[go_sem,seval,b5];refine bM λi9 Y9 s9 a9 f9=>?_;simp only[go_sem,seval];refine RE.call rfl rfl rfl rfl rfl (zo func85 (e85.b.trans rfl) e85.c (UI.mono (WH.trans s9)) hne' (by simp;omega)) ?_;rintro r Z3 ⟨s3,Sq⟩;have a9':=s3 _ _ a9;obtain⟨idA,Ta,Sd⟩:=Sq.dst (aa.refl _);refine cY (n:=0) [] [8,10] [_,_] rfl rfl ?_;simp only[go_sem,seval,Ta,bR a9',UF,SF,WE];refine qs λi10 XV TN Sb f10=>?_;have Tp:=(Sd U (WH.trans s9) Z3 ((WH.trans s9).trans s3)).trans TN;have n10:U i10=none:=((WH.trans s9).trans s3).none f10;simp only[go_sem,seval];apply sR;simp only[go_sem,seval];exact Tf ⟨Tp,aP.new (by simp[nL]) Sb n10⟩
open Go.Proofs
structure Tk where
 (kind node fr to x y w h:Int)
deriving DecidableEq
def bC(a:Tk):V:=.agg [vI a.kind,vI a.node,vI a.fr,vI a.to,vI a.x,vI a.y,vI a.w,vI a.h]
def bL(l:List Tk):V:=.sl 8 (l.map bC)
structure WS where
 atoms:List Tk
 g':List Si
 R1:Int
 P':Pn
structure U0(l:List Nd)(rs:List Rm)(Z0:al)(iw:Nat)(s:WS)(U:al):Prop where
 sub:aa Z0 U
 no:Z0 iw=none
 row:∃va vf,U iw=some ⟨172,7,[.agg [va,vf,vI s.R1,vI s.P'.y,vI s.P'.m,aQ l,cV rs]]⟩/\
  aP (cA Z0 iw) U 66 8 va (s.atoms.map bC)/\aP (cA Z0 iw) U 137 7 vf (s.g'.map br)/\(s.g'=[]->vf=.bl)
def aC(l:List Rm):(cV l).cells=[cV l]:=rfl
def yr(l:List Rm):(cV l).stays=true:=rfl
def IW{U:al}{l:List Rm}{i:Nat}(h:i<l.length):bI U 2 (cV l) (.int .i64 i)=some (.rp (j0 l[i])):=by simp[cV,bI,h]
def aP.vc{K U:al}{e sz:Nat}{v:V}{rows:List V}(h:aP K U e sz v rows):v.cells=[v]/\v.stays=true:=by rcases h with⟨rfl,_⟩|⟨_,rfl,_⟩<;>exact⟨rfl,rfl⟩
def eR(rs:List Rm)(a:Nat):SK:=⟨(rs.getD a ⟨0,0⟩).x,(rs.getD a ⟨0,0⟩).x+(rs.getD a ⟨0,0⟩).w⟩
def za{l:List Nd}{rs:List Rm}{Z0 U:al}{iw:Nat}{s:WS}(hJ:U0 l rs Z0 iw s U)(a:Nat)(ha:a<rs.length)(hr:rs[a].ok):
 aG prog 175 [.ptr iw 0 0,vI a] U λr Z'=>r=aY (eR rs a)/\Z'=U:=by
 obtain⟨va,vf,w1,Zr,X7,_⟩:=hJ.row;obtain⟨ca,sa⟩:=Zr.vc;obtain⟨cf,sf⟩:=X7.vc;obtain⟨r1,r2,r3,r4⟩:=hr;have VK:rs.getD a ⟨0,0⟩=rs[a]:=by simp[ha]
 have R0:=λU=>IW (U:=U) ha;unfold eR;rw[VK];generalize rs[a]=r at*;have X8:j0 r=.agg [vI r.x,vI r.w]:=rfl;have rr:Sn .i64 (r.x+r.w):=ar;refine Rk.q ?_;have hs:=aa.refl U;refine mS 6 ?_;simp only[go_sem,seval,L5];refine aF λi4 Z4 s4 a4 f4=>?_;have w4:=s4 _ _ w1;simp only[go_sem,seval,w4,R0,X8,ca,cf,aC,ab];refine aF λi5 Z5 s5 a5 f5=>?_;have b4:=s5 _ _ a4;have Ww:=bf a4 f5;simp only[go_sem,seval,a5,b4,ad Ww,rr];exact aD.pure (((s4.trans s5).aL (s4.none f5)).aL f4) rfl
def rS(a:Tk):(bC a).cells=[vI a.kind,vI a.node,vI a.fr,vI a.to,vI a.x,vI a.y,vI a.w,vI a.h]:=rfl
def sN(a:Tk):(bC a).stays=true:=rfl
def WS.put(s:WS)(a:Tk):WS:={ s with atoms:=s.atoms++[a],P':=⟨a.y+a.h,0⟩ }
def G7{l:List Nd}{rs:List Rm}{Z0 U:al}{iw:Nat}{s:WS}(hJ:U0 l rs Z0 iw s U)(a:Tk)(hy:Bq a.y)(hh:Bq a.h)(hn:s.atoms.length<=1000000):
 aG prog 176 [.ptr iw 0 0,bC a] U λr Z'=>r=.Sa []/\U0 l rs Z0 iw (s.put a) Z':=by
 obtain⟨va,vf,w1,Zr,X7,hf2⟩:=hJ.row;obtain⟨ca,sa⟩:=Zr.vc;obtain⟨cf,sf⟩:=X7.vc;refine QU.q ?_;refine mS 4 ?_;simp only[go_sem,seval,Ox,rS,sN];refine aF λi3 Z3 s3 a3 f3=>?_;have w3:=s3 _ _ w1;simp only[go_sem,seval,w3,a3,ca,cf,aC,ab,rS,sN];refine bM λi11 Yq Vq Ts f11=>?_;obtain⟨idA,Ta,Sd,Us,Wn⟩:=Zr.nM (s3.trans Vq);have SF:(s.atoms.length+1)*65<=140737488355328:=by omega
 have UF:(s.atoms.map bC).length=s.atoms.length:=by simp
 simp only[go_sem,seval,Ta,bR Ts,UF,SF];rw[aJ];intro i12 f12;have f12:Yq i12=none:=f12;have w11:=Vq _ _ w3;have nw:=bf w11 f12;have b3:=Vq _ _ a3;have n3:=bf b3 f12;have nw3:=bf w1 f3;have hdw:=Us iw _ w1 (.inr (by simp));have hd3:=Wn i3 f3;have cw:(C' (Vc.bW Yq idA) i12 ⟨66,8,s.atoms.map bC++[.agg [vI a.kind,vI a.node,vI a.fr,vI a.to,vI a.x,vI a.y,vI a.w,vI a.h]]⟩) iw=some ⟨172,7,[.agg [va,vf,vI s.R1,vI s.P'.y,vI s.P'.m,aQ l,cV rs]]⟩:=by rw[ad nw,hdw];exact w11
 have c3:(C' (Vc.bW Yq idA) i12 ⟨66,8,s.atoms.map bC++[.agg [vI a.kind,vI a.node,vI a.fr,vI a.to,vI a.x,vI a.y,vI a.w,vI a.h]]⟩) i3=some ⟨66,8,[.agg [vI a.kind,vI a.node,vI a.fr,vI a.to,vI a.x,vI a.y,vI a.w,vI a.h]]⟩:=by rw[ad n3,hd3];exact b3
 have c12:(C' (Vc.bW Yq idA) i12 ⟨66,8,s.atoms.map bC++[.agg [vI a.kind,vI a.node,vI a.fr,vI a.to,vI a.x,vI a.y,vI a.w,vI a.h]]⟩) i12=some ⟨66,8,s.atoms.map bC++[.agg [vI a.kind,vI a.node,vI a.fr,vI a.to,vI a.x,vI a.y,vI a.w,vI a.h]]⟩:=aA;have G':aa Z0 (C' (Vc.bW Yq idA) i12 ⟨66,8,s.atoms.map bC++[.agg [vI a.kind,vI a.node,vI a.fr,vI a.to,vI a.x,vI a.y,vI a.w,vI a.h]]⟩):=by
  have h1:=Sd Z0 (λi o h=>by rw[cA,aK (λe=>by rw[e,hJ.no]at h;cases h)];exact h) Yq ((hJ.sub.trans s3).trans Vq);exact h1.aL (((hJ.sub.trans s3).trans Vq).none f12)
 have Tc:cA Z0 iw i12=none:=bk.2 ⟨nw.symm,((hJ.sub.trans s3).trans Vq).none f12⟩;have hf3:∀o,aP (cA Z0 iw) (C' (Vc.bW Yq idA) i12 o) 137 7 vf (s.g'.map br):=λo=>by
  rcases X7 with h|⟨id,h1,h2,h3⟩
  .exact .inl h
  .have h4:=Vq _ _ (s3 _ _ h2);exact .inr ⟨id,h1,by rw[ad (bf h4 f12),Us id _ h2 (.inr (by simp))];exact h4,h3⟩
 replace hf3:=hf3 ⟨66,8,s.atoms.map bC++[.agg [vI a.kind,vI a.node,vI a.fr,vI a.to,vI a.x,vI a.y,vI a.w,vI a.h]]⟩;generalize C' (Vc.bW Yq idA) i12 ⟨66,8,s.atoms.map bC++[.agg [vI a.kind,vI a.node,vI a.fr,vI a.to,vI a.x,vI a.y,vI a.w,vI a.h]]⟩=J at*;simp only[go_sem,seval,cw,ca,cf,aC,ab,gn];have dw:(C' J iw ⟨172,7,[.agg [.own i12 0 (s.atoms.length+1),vf,vI s.R1,vI s.P'.y,vI s.P'.m,aQ l,cV rs]]⟩) iw=some ⟨172,7,[.agg [.own i12 0 (s.atoms.length+1),vf,vI s.R1,vI s.P'.y,vI s.P'.m,aQ l,cV rs]]⟩:=aA;have d3:(C' J iw ⟨172,7,[.agg [.own i12 0 (s.atoms.length+1),vf,vI s.R1,vI s.P'.y,vI s.P'.m,aQ l,cV rs]]⟩) i3=some ⟨66,8,[.agg [vI a.kind,vI a.node,vI a.fr,vI a.to,vI a.x,vI a.y,vI a.w,vI a.h]]⟩:=by rw[ad nw3.symm];exact c3
 have d12:(C' J iw ⟨172,7,[.agg [.own i12 0 (s.atoms.length+1),vf,vI s.R1,vI s.P'.y,vI s.P'.m,aQ l,cV rs]]⟩) i12=some ⟨66,8,s.atoms.map bC++[.agg [vI a.kind,vI a.node,vI a.fr,vI a.to,vI a.x,vI a.y,vI a.w,vI a.h]]⟩:=by rw[ad nw.symm];exact c12
 replace G':=G'.aL hJ.no (o:=⟨172,7,[.agg [.own i12 0 (s.atoms.length+1),vf,vI s.R1,vI s.P'.y,vI s.P'.m,aQ l,cV rs]]⟩);have hf4:aP (cA Z0 iw) (C' J iw ⟨172,7,[.agg [.own i12 0 (s.atoms.length+1),vf,vI s.R1,vI s.P'.y,vI s.P'.m,aQ l,cV rs]]⟩) 137 7 vf (s.g'.map br):=by
  rcases hf3 with h|⟨id,h1,h2,h3⟩
  .exact .inl h
  .exact .inr ⟨id,h1,by rw[ad (bk.1 h3).1];exact h2,h3⟩
 clear hf3 cw c3 c12;generalize C' J iw ⟨172,7,[.agg [.own i12 0 (s.atoms.length+1),vf,vI s.R1,vI s.P'.y,vI s.P'.m,aQ l,cV rs]]⟩=Y2 at*;refine ay.yA (by kernel_rfl) [0,1,2,3,4,5,6,7,8,9,10,11,12] [[],[],[1],[1,2],[1,2,3],[],[5],[],[7],[1,2,3,4,5,6,7,8],[0,1,2,3,4,5,6,7,8,9],[0,1,2,3,4,5,6,7,8,9,10],[0,1,2,3,4,5,6,7,8,9,10,11]] [0,2,4,6,8,10,12,14,16,18,20,22,24] (by kernel_rfl) (by kernel_rfl) ?_;refine cY (n:=0) [18,20,22,24] [0,2,4,6,8,10,12,14,16] [_,_,_,_,_,_,_,_,_] rfl rfl ?_;simp only[go_sem,seval,dw,d3,cf,aC,ab];refine WW rfl (KX s.P' a.y a.h hy hh _) ?_;refine cY (n:=0) [] [20,22,24] [_,_,_] rfl rfl ?_;simp only[go_sem,seval,dw,dx,cf,aC,ab];apply sR;simp only[go_sem,seval];have SO:aa Z0 (C' Y2 iw ⟨172,7,[.agg [.own i12 0 (s.atoms.length+1),vf,vI s.R1,vI (a.y+a.h),vI 0,aQ l,cV rs]]⟩):=G'.aL hJ.no;refine Tf ⟨rfl,SO,hJ.no,.own i12 0 (s.atoms.length+1),vf,aA,?_,?_,hf2⟩
 .exact aP.new (by simp[WS.put]) (by rw[ad nw.symm,d12];simp[WS.put];rfl) Tc
 .rcases hf4 with h|⟨id,h1,h2,h3⟩
  .exact .inl h
  .exact .inr ⟨id,h1,by rw[ad (bk.1 h3).1];exact h2,h3⟩
def xq{l:List Si}{w high:Int}{s:SK}:∀(k:Nat) (y:Int),Xb l y<=k->kK l w high s (iX l w high s k y)=true
 |0,y,h=>by
  rw[iX];simp only[kK,kI,Bool.not_eq_true',US];left;cases hn:(cJ l y high s).2 with
  |false=>rfl
  |true=>
   have:=mu (fC hn);omega
 |k+1,y,h=>by
  rw[iX];split
  .rename_i hb;exact hb
  .rename_i hb;simp only[kK,kI,Bool.not_eq_true',not_or,Bool.not_eq_false]at hb;have:=mu (fC hb.1);exact xq k _ (by omega)
def DF(l:List Si)(w high:Int)(s:SK)(y:Int):(cJ l (qw l w high s y) high s).2=false\/fN (bP l (qw l w high s y) high s)>=w:=by
 have:=xq (l:=l) (w:=w) (high:=high) (s:=s) l.length y (List.length_filter_le _ _);simp only[kK,kI,Bool.not_eq_true',US]at this;exact this
def sq{l:List Si}{w high B:Int}{s:SK}(hB:∀f∈l,f.y+f.h<=B):∀(k:Nat) (y:Int),y<=iX l w high s k y/\iX l w high s k y<=max y B
 |0,y=>by simp only[iX];omega
 |k+1,y=>by
  rw[iX];split
  .omega
  .rename_i hb;simp only[kK,kI,Bool.not_eq_true',not_or,Bool.not_eq_false]at hb;obtain⟨f,hm,h1,h2⟩:=fC hb.1;have:=sq hB k (cJ l y high s).1 (w:=w) (high:=high) (s:=s);have:=hB f hm;omega
def Cz(f:Si)(s:SK):s.a<=(hU f s).a/\(hU f s).b<=s.b:=by
 unfold hU;split
 .simp only;omega
 .simp only;omega
def AS:∀(l:List Si) (s:SK),s.a<=(l.foldl (λs f=>hU f s) s).a/\(l.foldl (λs f=>hU f s) s).b<=s.b
 |[],s=>by simp
 |f::l,s=>by
  have h1:=Cz f s;have h2:=AS l (hU f s);simp only[jW];omega
def E3(l:List Si)(y high:Int)(s:SK):s.a<=(bP l y high s).a/\(bP l y high s).b<=s.b:=AS _ _
structure FOk(B:Int)(f:Si):Prop where
 x0:0<=f.x
 w0:0<=f.w
 w1:f.w<=1099511627776
 h0:0<=f.h
 h1:f.h<=1099511627776
 y0:0<=f.y
 yB:f.y+f.h<=B
 xw:f.x+f.w<=8796093022208
def FOk.ok{B:Int}{f:Si}(h:FOk B f)(hB:B<=1152921504606846976):f.ok:=by
 obtain⟨h1,h2,h3,h4,h5,h6,h7,h8⟩:=h;exact⟨⟨by omega,by omega⟩,⟨by omega,by omega⟩,⟨by omega,by omega⟩,⟨by omega,by omega⟩⟩
def FOk.mono{B C:Int}{f:Si}(h:FOk B f)(hB:B<=C):FOk C f:=by
 obtain⟨h1,h2,h3,h4,h5,h6,h7,h8⟩:=h;exact⟨h1,h2,h3,h4,h5,h6,by omega,h8⟩
def Ez(s:SK):Prop:=0<=s.a/\s.a<=2199023255552/\0<=s.b/\s.b<=2199023255552
def BL{fs:List Si}{B y:Int}(hB:∀f∈fs,FOk B f):y<=mZ fs y/\mZ fs y<=max y B:=by
 unfold mZ;split
 .rename_i h;obtain⟨f,hf,h1,_⟩:=kT h;have:=hB f hf;have h2:(ln f).1=f.y:=rfl;rw[h1,h2];have:=this.yB;have:=(hB f hf).h0;omega
 .omega
def y3{fs:List Si}{B y:Int}(hB:∀f∈fs,FOk B f)(f:Si)(s:SK):y<=j4 fs f y s/\j4 fs f y s<=max y B:=by
 have h1:=BL (y:=y) hB;have h2:=sq (w:=f.w) (high:=f.h) (s:=s) (λf hf=>(hB f hf).yB) fs.length (mZ fs y);unfold j4 qw;omega
def EH{fs:List Si}{B y:Int}(hB:∀f∈fs,FOk B f){f:Si}{s:SK}(hs:Ez s)(ZO:0<=y)(hyB:y<=B)(w0:1<=f.w)(w1:f.w<=1099511627776)(h0:0<=f.h)(h1:f.h<=1099511627776):FOk (B+1099511627776) (iS fs f y s):=by
 obtain⟨s1,s2,s3,s4⟩:=hs;have hy:=y3 (y:=y) hB f s;have hb:=E3 fs (j4 fs f y s) f.h s;have hx:0<=me fs f y s/\me fs f y s+f.w<=8796093022208:=by
  unfold me;simp only;have he:=DF fs f.w f.h s (mZ fs y);have e:qw fs f.w f.h s (mZ fs y)=j4 fs f y s:=rfl;rw[e]at he;rcases he with h|h
  .have UQ:bP fs (j4 fs f y s) f.h s=s:=Classical.byContradiction λhn=>by
    have:=mM hn;rw[h]at this;cases this
   rw[UQ];split<;>omega
  .unfold fN at h;split at h
   .omega
   .split<;>omega
 exact⟨hx.1,by simp only[iS];omega,by simp only[iS];omega,by simp only[iS];omega,by simp only[iS];omega,by simp only[iS];omega,by simp only[iS];omega,by simpa[iS]using hx.2⟩
def HH{fs:List Si}{B y:Int}(hB:∀f∈fs,FOk B f){f:Si}{s:SK}(hs:Ez s)(ZO:0<=y)(hyB:y<=B)(w0:1<=f.w)(w1:f.w<=1099511627776)(h0:0<=f.h)(h1:f.h<=1099511627776):∀g∈nL fs f y s,FOk (B+1099511627776) g:=by
 intro g hg;rcases gl.1 hg with hg|hg
 .exact(hB g hg).mono (by omega)
 .simp only[kc]at hg;subst hg;exact EH hB hs ZO hyB w0 w1 h0 h1
structure Bd(s:WS)(B:Int):Prop where
 fl:∀f∈s.g',FOk B f
 y0:0<=s.P'.y
 m0:0<=s.P'.m
 m1:s.P'.m<=1099511627776
 yB:s.P'.y+s.P'.m<=B
def Bd.mono{s:WS}{B C:Int}(h:Bd s B)(hB:B<=C):Bd s C:=⟨λf hf=>(h.fl f hf).mono hB,h.y0,h.m0,h.m1,by have:=h.yB;omega⟩
def WS.mono(l:List Nd)(rs:List Rm)(s:WS)(a:Nat)(n:Nd):WS:=
 let SI:=gu s.g' n.w n.h (eR rs a) (s.P'.y+s.P'.m)
 let b:=bP s.g' SI n.h (eR rs a)
 s.put ⟨2,a,0,0,b.a,SI,n.w,n.h⟩
def fv(a:Nat)(h:Int)(x:Ln):Tk:=⟨1,a,x.fr,x.to,x.x,x.y,x.w,h⟩
def WS.text(rs:List Rm)(s:WS)(a:Nat)(n:Nd):WS:=
 (cM s.g' n.words n.space n.line (eR rs a) n.words.length 0 (s.P'.y+s.P'.m)).foldl (λs x=>s.put (fv a n.line x)) s
def WS.float(rs:List Rm)(s:WS)(a:Nat)(n:Nd):WS:=
 { s with g':=nL s.g' ⟨a,n.side,s.atoms.length,0,0,n.w,n.h⟩ (s.P'.y+s.P'.m) (eR rs a) }
def WS.enter(s:WS)(t:TA):WS:=
 let p:=if(cF (gk t.clear) s.g').2 then fk s.P' (cF (gk t.clear) s.g').1 else s.P'
 { s with P':=er p t.top t.R5 }
def WS.leave(s:WS)(t:TA):WS:={ s with P':=ky s.P' t.Sk t.O' }
def Bd.enter{s:WS}{B:Int}(h:Bd s B){t:TA}(ht:SOk t):Bd (s.enter t) (B+2199023255552):=by
 obtain⟨hf,h1,h2,h3,h4⟩:=h;have hp:∀p:Pn,0<=p.y->0<=p.m->p.m<=1099511627776->p.y+p.m<=B->Bd { s with P':=er p t.top t.R5 } (B+2199023255552):=by
  intro p g1 g2 g3 g4;have a1:=ht.top;have a2:=ht.R5;refine⟨λf XI=>(hf f XI).mono (by omega),?_,?_,?_,?_⟩<;>simp only[er,kS]<;>(repeat' split)<;>omega
 unfold WS.enter;simp only;split
 .rename_i hm;obtain⟨f,hfm,e1,_⟩:=kT hm;have e2:(gk t.clear f).1=f.y+f.h:=rfl;have Xy:=hf f hfm;have hy:=Xy.yB;have ZO:=Xy.y0;have hh0:=Xy.h0;rw[e1,e2];refine hp _ ?_ ?_ ?_ ?_<;>(unfold fk;split)<;>(try simp only)<;>omega
 .exact hp _ h1 h2 h3 h4
def Bd.leave{s:WS}{B:Int}(h:Bd s B){t:TA}(ht:SOk t):Bd (s.leave t) (B+2199023255552):=by
 obtain⟨hf,h1,h2,h3,h4⟩:=h;have a1:=ht.Sk;have a2:=ht.O';refine⟨λf XI=>(hf f XI).mono (by omega),?_,?_,?_,?_⟩<;>simp only[WS.leave,ky,kS]<;>(repeat' split)<;>omega
open Go.Proofs
structure ZP(l:List Nd)(rs:List Rm):Prop where
 qQ:l.length<=2000
 ZQ:SA l=true
 len:rs.length=l.length
 rok:∀r∈rs,r.ok
def ZP.room{l:List Nd}{rs:List Rm}(h:ZP l rs){a:Nat}(ha:a<l.length):∃h':a<rs.length,rs[a].ok:=⟨by rw[h.len];exact ha,h.rok _ (SU _)⟩
def ZP.span{l:List Nd}{rs:List Rm}(h:ZP l rs){a:Nat}(ha:a<l.length):Ez (eR rs a):=by
 obtain⟨h',r1,r2,r3,r4⟩:=h.room ha;have e:rs.getD a ⟨0,0⟩=rs[a]:=by simp[h']
 unfold eR Ez;rw[e];simp only;omega
def Ez.bq{s:SK}(h:Ez s):Tj s.a/\Tj s.b:=by obtain⟨a,b,c,d⟩:=h;exact⟨⟨by omega,by omega⟩,⟨by omega,by omega⟩⟩
def Bd.flo{s:WS}{B:Int}(h:Bd s B)(hB:B<=1152921504606846976):∀f∈s.g',f.ok:=λf hf=>(h.fl f hf).ok hB
def iM(l:List Nd){a:Nat}(h:a<l.length)(U:al):bI U 20 (aQ l) (.int .i64 a)=some (.rp (.agg (Nd.cells l[a]))):=bN h
def U0.mono{l:List Nd}{rs:List Rm}{Z0 U J:al}{iw:Nat}{s:WS}(hJ:U0 l rs Z0 iw s U)(hs:aa U J):U0 l rs Z0 iw s J:=by
 obtain⟨va,vf,w1,h1,h2,h3⟩:=hJ.row;exact⟨hJ.sub.trans hs,hJ.no,va,vf,hs _ _ w1,h1.mono hs,h2.mono hs,h3⟩
def tD2:List (List Nat):=[[],[0],[1,0],[2,1,0],[3,2,1,0],[],[5],[],[7],[],[9],[10,9],[11,10,9],[12,11,10,9],[],[],[14,15,13,12,11,10,9],[4,6,8,13,16,3,2,1,0,5,7,12,11,10,9,14,15],[17,4,6,8,13,16,3,2,1,0,5,7,12,11,10,9,14,15],[18,17,4,6,8,13,16,3,2,1,0,5,7,12,11,10,9,14,15],[18,17,4,6,8,13,16,3,2,1,0,5,7,12,11,10,9,14,15],[],[21,19,17,0,1,2,3,4,5,6,7,8,9,10,11,12,13,14,15,16,18],[20,22,0,1,2,3,4,5,6,7,8,9,10,11,12,13,14,15,16,17,18,19,21]]
def HM{l:List Nd}{rs:List Rm}(hD:ZP l rs){Z0 U:al}{iw:Nat}{s:WS}{B:Int}(hJ:U0 l rs Z0 iw s U)(hB:Bd s B)(hB1:B<=576460752303423488)(a:Nat)(ha:a<l.length)(hk:l[a].kind=3)(hn:s.atoms.length<=100000)(hfn:s.g'.length<=100000):
 aG prog 146 [.ptr iw 0 0,vI a] U λr Z'=>r=.Sa []/\U0 l rs Z0 iw (WS.mono l rs s a l[a]) Z':=by
 obtain⟨va,vf,w1,Zr,X7,hf2⟩:=hJ.row;obtain⟨ca,sa⟩:=Zr.vc;obtain⟨cf,sf⟩:=X7.vc;have Sw:=fA hD.ZQ ha;have VM:=hD.span ha;obtain⟨har,Yu⟩:=hD.room ha;have R0:=iM l ha;have X8:∀n:Nd,V.agg (Nd.cells n)=ie n:=λ_=>rfl;unfold WS.mono;generalize l[a]=n at*;refine RF.q ?_;refine mS 7 ?_;simp only[go_sem,seval,ML,w1,ca,cf,aC,ab,ag,ak,R0,Nd.cells];refine aF λi4 Z4 s4 a4 f4=>?_;simp only[go_sem,seval,a4,ag,ak,gn];generalize Yv:C' Z4 i4 _=Y4;have b4:Y4 i4=some ⟨59,20,[.agg (Nd.cells n)]⟩:=by rw[<-Yv];exact aA
 rw[Nd.cells]at b4;have s4':aa U Y4:=by rw[<-Yv];exact s4.aL f4
 clear Yv;have w4:=s4' _ _ w1;have hlen:vu Y4 vf (bj s.g'):=(X7.mono s4').ye;have Vk:=hJ.mono s4';have hm:=hB.m1;have Yw:=hB.m0;have ZO:=hB.y0;have hyB:=hB.yB;have hws:=Sw.w;have hhs:=Sw.h;have Vo:=F4 s.g' n.w n.h (s.P'.y+s.P'.m) (eR rs a) (by omega) (hB.flo (by omega)) ⟨by omega,by omega⟩ ⟨by omega,by omega⟩ VM.bq;obtain⟨SI,U7⟩:∃z,z=gu s.g' n.w n.h (eR rs a) (s.P'.y+s.P'.m):=⟨_,rfl⟩
 have hyr:=fF (w:=n.w) (high:=n.h) (y:=s.P'.y+s.P'.m) (s:=eR rs a) (λf hf=>(hB.fl f hf).yB);rw[<-U7]at Vo hyr|-;obtain⟨b,hb⟩:∃b,b=bP s.g' SI n.h (eR rs a):=⟨_,rfl⟩
 rw[<-hb]at Vo|-;have fin:∀(S:Nat->V) (J:al) (i5:Nat),aa Y4 J->J i5=some ⟨195,2,[.agg [vI b.a,vI b.b]]⟩->S 0=.ptr iw 0 0->S 1=vI a->S 4=.ptr i4 0 0->S 5=.ptr i5 0 0->S 6=vI SI->
  ay prog 46 [It.code (.Wb false [⟨some 35,.Wa (.t 0),none⟩,⟨some 36,.Wa (.t 1),none⟩,⟨some 37,.fldA false 0 1 (.t 5),none⟩,⟨some 38,.load false 1 (.t 37),none⟩,⟨some 39,.Wa (.t 6),none⟩,⟨some 40,.fldA false 18 1 (.t 4),none⟩,⟨some 41,.load false 1 (.t 40),none⟩,⟨some 42,.fldA false 19 1 (.t 4),none⟩,⟨some 43,.load false 1 (.t 42),none⟩,⟨some 44,.build [.int .i64 0,.int .i64 0,.int .i64 0,.int .i64 0,.int .i64 0,.int .i64 0,.int .i64 0,.int .i64 0] [(0,1,.c (.int .i64 2)),(1,1,.t 36),(4,1,.t 38),(5,1,.t 39),(6,1,.t 41),(7,1,.t 43)],none⟩,⟨some 45,.call (.c (.fn 176 [])) [.t 35,.t 44],none⟩])] ⟨S,J⟩
   (λst=>aD (.Sa []) st.U λr Z'=>r=.Sa []/\U0 l rs Z0 iw (s.put ⟨2,a,0,0,b.a,SI,n.w,n.h⟩) Z'):=by
  intro S J i5 hτ c5 t0 t1 t4 t5 t6;have c4:=hτ _ _ b4;refine mS 7 ?_;simp only[go_sem,seval,t0,t1,t4,t5,t6,c4,c5,ag];refine TX rfl (G7 (Vk.mono hτ) ⟨2,a,0,0,b.a,SI,n.w,n.h⟩ (show Bq SI from⟨by omega,by omega⟩) (show Bq n.h from⟨by omega,by omega⟩) (by omega)) ?_;rintro r Z' ⟨rfl,Wp⟩;apply sR;simp only[go_sem,seval];exact Tf ⟨rfl,Wp⟩
 refine ay.tW (by kernel_rfl) 8 (.fork tD2 [0,1,2,3,4,5,6,7,8,9,10,11,12,14,15] [13,21] [(.fork (sX tD2 [(21,[13,12,11,10,9]),(22,[13,12,11,10,9,21,19,17,0,1,2,3,4,5,6,7,8,14,15,16,18]),(23,[13,12,11,10,9,20,22,0,1,2,3,4,5,6,7,8,14,15,16,17,18,19,21])]) [13] [16,21] [(.fork (sX tD2 [(21,[16,14,15,13,12,11,10,9]),(22,[16,14,15,13,12,11,10,9,21,19,17,0,1,2,3,4,5,6,7,8,18]),(23,[16,14,15,13,12,11,10,9,20,22,0,1,2,3,4,5,6,7,8,17,18,19,21])]) [16] [17,21] [(.leaf (sX tD2 [(21,[17,4,6,8,13,16,3,2,1,0,5,7,12,11,10,9,14,15]),(22,[17,4,6,8,13,16,3,2,1,0,5,7,12,11,10,9,14,15,21,19,18]),(23,[17,4,6,8,13,16,3,2,1,0,5,7,12,11,10,9,14,15,20,22,18,19,21])]) [17,18,19,20,21,22,23]),(.leaf (sX tD2 [(17,[21,16,14,15,13,12,11,10,9,4,6,8,3,2,1,0,5,7]),(18,[21,16,14,15,13,12,11,10,9,17,4,6,8,3,2,1,0,5,7]),(19,[21,16,14,15,13,12,11,10,9,18,17,4,6,8,3,2,1,0,5,7]),(20,[21,16,14,15,13,12,11,10,9,18,17,4,6,8,3,2,1,0,5,7]),(21,[16,14,15,13,12,11,10,9]),(22,[21,16,14,15,13,12,11,10,9,19,17,0,1,2,3,4,5,6,7,8,18]),(23,[21,16,14,15,13,12,11,10,9,20,22,0,1,2,3,4,5,6,7,8,17,18,19])]) [21,17,18,19,20,22,23])]),(.leaf (sX tD2 [(16,[21,13,12,11,10,9,14,15]),(17,[21,13,12,11,10,9,4,6,8,16,3,2,1,0,5,7,14,15]),(18,[21,13,12,11,10,9,17,4,6,8,16,3,2,1,0,5,7,14,15]),(19,[21,13,12,11,10,9,18,17,4,6,8,16,3,2,1,0,5,7,14,15]),(20,[21,13,12,11,10,9,18,17,4,6,8,16,3,2,1,0,5,7,14,15]),(21,[13,12,11,10,9]),(22,[21,13,12,11,10,9,19,17,0,1,2,3,4,5,6,7,8,14,15,16,18]),(23,[21,13,12,11,10,9,20,22,0,1,2,3,4,5,6,7,8,14,15,16,17,18,19])]) [21,16,17,18,19,20,22,23])]),(.leaf (sX tD2 [(13,[21,12,11,10,9]),(16,[21,14,15,13,12,11,10,9]),(17,[21,4,6,8,13,16,3,2,1,0,5,7,12,11,10,9,14,15]),(18,[21,17,4,6,8,13,16,3,2,1,0,5,7,12,11,10,9,14,15]),(19,[21,18,17,4,6,8,13,16,3,2,1,0,5,7,12,11,10,9,14,15]),(20,[21,18,17,4,6,8,13,16,3,2,1,0,5,7,12,11,10,9,14,15]),(23,[21,20,22,0,1,2,3,4,5,6,7,8,9,10,11,12,13,14,15,16,17,18,19])]) [21,13,16,17,18,19,20,22,23])]) (by kernel_rfl) ?_;refine GT.oY (its:=[0,2,4,6,8,10,12,14,16,18,20,22,24,28,30]) (by kernel_rfl) ?_;refine cY (n:=0) [] [0,2,4,6,8,10,12,14,16,18,20,22,24,28,30] [_,_,_,_,_,_,_,_,_,_,_,_,_,_,_] rfl rfl ?_;simp only[go_sem,seval,b4,w4,ca,cf,aC,ab,ag,ak];refine⟨?_,?_⟩
 .refine GT.oY (its:=[26,9,13,17]) (by kernel_rfl) ?_;refine WW rfl (Ew s.P' ⟨by omega,by omega⟩ ⟨by omega,by omega⟩ _) ?_;refine eh rfl (by simp only[go_sem,seval,b4,w4,ca,cf,aC,ab,ag,ak]) ?_;refine eh rfl (by simp only[go_sem,seval,b4,w4,ca,cf,aC,ab,ag,ak]) ?_;refine eh rfl (by simp only[go_sem,seval,b4,w4,ca,cf,aC,ab,ag,ak]) ?_;refine⟨?_,?_⟩
  .refine GT.oY (its:=[32,9,13,17]) (by kernel_rfl) ?_;refine WW rfl (za Vk a har Yu) ?_;refine eh rfl (by simp only[go_sem,seval,b4,w4,ca,cf,aC,ab,ag,ak]) ?_;refine eh rfl (by simp only[go_sem,seval,b4,w4,ca,cf,aC,ab,ag,ak]) ?_;refine eh rfl (by simp only[go_sem,seval,b4,w4,ca,cf,aC,ab,ag,ak]) ?_;refine⟨?_,?_⟩
   .refine GT.gN (its:=[34,36,38,40,42,44,46]) (by kernel_rfl) ?_;refine WW rfl (aX.tf (args':=[bj s.g',vI n.w,vI n.h,vI (s.P'.y+s.P'.m),aY (eR rs a)]) ⟨hlen.at,UM _,UM _,UM _,UM _,trivial⟩ Vo rfl) ?_;refine cY (n:=0) [] [36,38,40,42,44,46] [_,_,_,_,_,_] rfl rfl ?_;simp only[go_sem,seval,b4,w4,ca,cf,aC,ab,ag,ak];refine bM λi5 Z5 s5 a5 f5=>?_;replace b4:=s5 _ _ b4;replace w4:=s5 _ _ w4;replace hlen:=hlen.mono s5;replace Vk:=Vk.mono s5;simp only[go_sem,seval,b4,w4,ca,cf,aC,ab,ag,ak,a5,aY];exact fin _ _ i5 (s5.aL f5) aA rfl rfl rfl rfl rfl
   .refine GT.gN (its:=[42,9,13,17,34,36,38,40,44,46]) (by kernel_rfl) ?_;refine cY (n:=0) [9,13,17,34,36,38,40,44,46] [42] [_] rfl rfl ?_;simp only[go_sem,seval,b4,w4,ca,cf,aC,ab,ag,ak];refine bM λi5 Z5 s5 a5 f5=>?_;replace b4:=s5 _ _ b4;replace w4:=s5 _ _ w4;replace hlen:=hlen.mono s5;replace Vk:=Vk.mono s5;simp only[go_sem,seval,b4,w4,ca,cf,aC,ab,ag,ak,a5,aY];refine eh rfl (by simp only[go_sem,seval,b4,w4,ca,cf,aC,ab,ag,ak,a5,aY]) ?_;refine eh rfl (by simp only[go_sem,seval,b4,w4,ca,cf,aC,ab,ag,ak,a5,aY]) ?_;refine eh rfl (by simp only[go_sem,seval,b4,w4,ca,cf,aC,ab,ag,ak,a5,aY]) ?_;refine WW rfl (aX.tf (args':=[bj s.g',vI n.w,vI n.h,vI (s.P'.y+s.P'.m),aY (eR rs a)]) ⟨hlen.at,UM _,UM _,UM _,UM _,trivial⟩ Vo rfl) ?_;refine cY (n:=0) [] [36,38,40,44,46] [_,_,_,_,_] rfl rfl ?_;simp only[go_sem,seval,b4,w4,ca,cf,aC,ab,ag,ak,a5,aY];exact fin _ _ i5 (s5.aL f5) aA rfl rfl rfl rfl rfl
  .refine GT.gN (its:=[42,9,13,17,32,9,13,17,34,36,38,40,44,46]) (by kernel_rfl) ?_;refine cY (n:=0) [9,13,17,32,9,13,17,34,36,38,40,44,46] [42] [_] rfl rfl ?_;simp only[go_sem,seval,b4,w4,ca,cf,aC,ab,ag,ak];refine bM λi5 Z5 s5 a5 f5=>?_;replace b4:=s5 _ _ b4;replace w4:=s5 _ _ w4;replace hlen:=hlen.mono s5;replace Vk:=Vk.mono s5;simp only[go_sem,seval,b4,w4,ca,cf,aC,ab,ag,ak,a5,aY];refine eh rfl (by simp only[go_sem,seval,b4,w4,ca,cf,aC,ab,ag,ak,a5,aY]) ?_;refine eh rfl (by simp only[go_sem,seval,b4,w4,ca,cf,aC,ab,ag,ak,a5,aY]) ?_;refine eh rfl (by simp only[go_sem,seval,b4,w4,ca,cf,aC,ab,ag,ak,a5,aY]) ?_;refine WW rfl (za Vk a har Yu) ?_;refine eh rfl (by simp only[go_sem,seval,b4,w4,ca,cf,aC,ab,ag,ak,a5,aY]) ?_;refine eh rfl (by simp only[go_sem,seval,b4,w4,ca,cf,aC,ab,ag,ak,a5,aY]) ?_;refine eh rfl (by simp only[go_sem,seval,b4,w4,ca,cf,aC,ab,ag,ak,a5,aY]) ?_;refine WW rfl (aX.tf (args':=[bj s.g',vI n.w,vI n.h,vI (s.P'.y+s.P'.m),aY (eR rs a)]) ⟨hlen.at,UM _,UM _,UM _,UM _,trivial⟩ Vo rfl) ?_;refine cY (n:=0) [] [36,38,40,44,46] [_,_,_,_,_] rfl rfl ?_;simp only[go_sem,seval,b4,w4,ca,cf,aC,ab,ag,ak,a5,aY];exact fin _ _ i5 (s5.aL f5) aA rfl rfl rfl rfl rfl
 .refine GT.gN (its:=[42,9,13,17,25,26,9,13,17,32,9,13,17,34,36,38,40,44,46]) (by kernel_rfl) ?_;refine cY (n:=0) [9,13,17,25,26,9,13,17,32,9,13,17,34,36,38,40,44,46] [42] [_] rfl rfl ?_;simp only[go_sem,seval,b4,w4,ca,cf,aC,ab,ag,ak];refine bM λi5 Z5 s5 a5 f5=>?_;replace b4:=s5 _ _ b4;replace w4:=s5 _ _ w4;replace hlen:=hlen.mono s5;replace Vk:=Vk.mono s5;simp only[go_sem,seval,b4,w4,ca,cf,aC,ab,ag,ak,a5,aY];refine eh rfl (by simp only[go_sem,seval,b4,w4,ca,cf,aC,ab,ag,ak,a5,aY]) ?_;refine eh rfl (by simp only[go_sem,seval,b4,w4,ca,cf,aC,ab,ag,ak,a5,aY]) ?_;refine eh rfl (by simp only[go_sem,seval,b4,w4,ca,cf,aC,ab,ag,ak,a5,aY]) ?_;refine eh rfl (by simp only[go_sem,seval,b4,w4,ca,cf,aC,ab,ag,ak,a5,aY]) ?_;refine WW rfl (Ew s.P' ⟨by omega,by omega⟩ ⟨by omega,by omega⟩ _) ?_;refine eh rfl (by simp only[go_sem,seval,b4,w4,ca,cf,aC,ab,ag,ak,a5,aY]) ?_;refine eh rfl (by simp only[go_sem,seval,b4,w4,ca,cf,aC,ab,ag,ak,a5,aY]) ?_;refine eh rfl (by simp only[go_sem,seval,b4,w4,ca,cf,aC,ab,ag,ak,a5,aY]) ?_;refine WW rfl (za Vk a har Yu) ?_;refine eh rfl (by simp only[go_sem,seval,b4,w4,ca,cf,aC,ab,ag,ak,a5,aY]) ?_;refine eh rfl (by simp only[go_sem,seval,b4,w4,ca,cf,aC,ab,ag,ak,a5,aY]) ?_;refine eh rfl (by simp only[go_sem,seval,b4,w4,ca,cf,aC,ab,ag,ak,a5,aY]) ?_;refine WW rfl (aX.tf (args':=[bj s.g',vI n.w,vI n.h,vI (s.P'.y+s.P'.m),aY (eR rs a)]) ⟨hlen.at,UM _,UM _,UM _,UM _,trivial⟩ Vo rfl) ?_;refine cY (n:=0) [] [36,38,40,44,46] [_,_,_,_,_] rfl rfl ?_;simp only[go_sem,seval,b4,w4,ca,cf,aC,ab,ag,ak,a5,aY];exact fin _ _ i5 (s5.aL f5) aA rfl rfl rfl rfl rfl
open Go.Proofs
def aP.BE{Z0 J:al}{iw e sz:Nat}{v:V}{rows:List V}{o:Ob}(h:aP (cA Z0 iw) J e sz v rows):aP (cA Z0 iw) (C' J iw o) e sz v rows:=by
 rcases h with h|⟨id,h1,h2,h3⟩
 .exact .inl h
 .exact .inr ⟨id,h1,by rw[ad (bk.1 h3).1];exact h2,h3⟩
def aP.wj{Z0 J U:al}{iw e sz:Nat}{v:V}{rows:List V}(h:aP J U e sz v rows)(hs:aa Z0 J){o:Ob}(hw:J iw=some o):aP (cA Z0 iw) U e sz v rows:=by
 rcases h with h|⟨id,h1,h2,h3⟩
 .exact .inl h
 .exact .inr ⟨id,h1,h2,bk.2 ⟨λe=>(by rw[e,hw]at h3;cases h3),hs.none h3⟩⟩
def HC{l:List Nd}{rs:List Rm}(hD:ZP l rs){Z0 U:al}{iw:Nat}{s:WS}{B:Int}(hJ:U0 l rs Z0 iw s U)(hB:Bd s B)(hB1:B<=576460752303423488)(a:Nat)(ha:a<l.length)(hn:s.atoms.length<=100000)(hfn:s.g'.length<=100000):
 aG prog 147 [.ptr iw 0 0,vI a] U λr Z'=>r=.Sa []/\U0 l rs Z0 iw (WS.float rs s a l[a]) Z':=by
 obtain⟨va,vf,w1,Zr,X7,hf2⟩:=hJ.row;obtain⟨ca,sa⟩:=Zr.vc;obtain⟨cf,sf⟩:=X7.vc;have Xd:eM false va=some (.int .i64 s.atoms.length):=by rw[Zr.len];simp
 have Sw:=fA hD.ZQ ha;have VM:=hD.span ha;obtain⟨har,Yu⟩:=hD.room ha;have R0:=iM l ha;unfold WS.float;generalize l[a]=n at*;refine Pf.q ?_;refine mS 6 ?_;simp only[go_sem,seval,MJ,w1,ca,cf,aC,ab,ag,ak,R0,Nd.cells];refine aF λi4 Z4 s4 a4 f4=>?_;have w4':=s4 _ _ w1;have n4:=bf w1 f4;simp only[go_sem,seval,a4,w4',ad n4,ca,cf,Xd,aC,ab,ag,ak];generalize Yv:C' Z4 i4 _=Y4;have b4:Y4 i4=some ⟨59,20,[.agg (Nd.cells n)]⟩:=by rw[<-Yv];exact aA
 rw[Nd.cells]at b4;have s4'':aa U Y4:=by rw[<-Yv];exact s4.aL f4
 clear Yv;have w4:=s4'' _ _ w1;refine bM λi5 Z5 s5 a5 f5=>?_;have s5':=s4''.trans s5;have Yx:=hJ.mono (s5'.aL (o:=⟨137,7,[br ⟨a,n.side,s.atoms.length,0,0,n.w,n.h⟩]⟩) (s4''.none f5));have X8:br ⟨a,n.side,s.atoms.length,0,0,n.w,n.h⟩=.agg [vI a,vI n.side,vI s.atoms.length,vI 0,vI 0,vI n.w,vI n.h]:=rfl;rw[X8]at Yx;simp only[go_sem,seval,a5,gn];generalize Uj:C' Z5 i5 _=Y5 at*;have b5:Y5 i5=some ⟨137,7,[.agg [vI a,vI n.side,vI s.atoms.length,vI 0,vI 0,vI n.w,vI n.h]]⟩:=by rw[<-Uj];exact aA
 have w5:Y5 iw=some ⟨172,7,[.agg [va,vf,vI s.R1,vI s.P'.y,vI s.P'.m,aQ l,cV rs]]⟩:=by rw[<-Uj,ad (bf w4 f5)];exact s5 _ _ w4
 have s6:aa U Y5:=by rw[<-Uj];exact s5'.aL (s4''.none f5)
 clear Uj;have hf5:=X7.mono s6;have hm:=hB.m1;have Yw:=hB.m0;have ZO:=hB.y0;have hyB:=hB.yB;have hws:=Sw.w;have hhs:=Sw.h;have hput:=IF vf s.g' hf5 hf2 ⟨a,n.side,s.atoms.length,0,0,n.w,n.h⟩ (s.P'.y+s.P'.m) (eR rs a) (by omega) (hB.flo (by omega)) ⟨by omega,by omega⟩ (show Bq n.h from⟨by omega,by omega⟩) (show Bq n.w from⟨by omega,by omega⟩) VM.bq;rw[X8]at hput;have hpne:nL s.g' ⟨a,n.side,s.atoms.length,0,0,n.w,n.h⟩ (s.P'.y+s.P'.m) (eR rs a)≠[]:=by simp[nL]
 have hs05:=hJ.sub.trans s6;have w5o:=w5;generalize nL s.g' ⟨a,n.side,s.atoms.length,0,0,n.w,n.h⟩ (s.P'.y+s.P'.m) (eR rs a)=fs' at*;refine ay.tW (by kernel_rfl) 8 (.leaf [[],[],[1],[2,1],[3,2,1],[4,3,2,1],[],[],[7],[8,7],[9,8,7],[10,9,8,7],[],[],[12,13,11,10,9,8,7],[5,6,11,14,4,3,2,1,10,9,8,7,12,13],[0,1,2,3,4,5,6,7,8,9,10,11,12,13,14,15],[16,0,1,2,3,4,5,6,7,8,9,10,11,12,13,14,15],[17,0,1,2,3,4,5,6,7,8,9,10,11,12,13,14,15,16],[18,15,0,1,2,3,4,5,6,7,8,9,10,11,12,13,14,17,16]] [0,1,2,3,4,5,6,7,8,9,10,12,13,11,14,15,16,17,18,19]) (by kernel_rfl) ?_;refine GT.gN (its:=[0,2,4,6,8,10,12,14,16,18,20,24,26,22,11,13,28,11,13,30,32,34,36,38]) (by kernel_rfl) ?_;refine cY (n:=0) [22,11,13,28,11,13,30,32,34,36,38] [0,2,4,6,8,10,12,14,16,18,20,24,26] [_,_,_,_,_,_,_,_,_,_,_,_,_] rfl rfl ?_;simp only[go_sem,seval,b5,w5,ca,cf,aC,ab];refine WW rfl (Ew s.P' ⟨by omega,by omega⟩ ⟨by omega,by omega⟩ _) ?_;refine eh rfl (by simp only[go_sem,seval,b5,w5,ca,cf,aC,ab]) ?_;refine eh rfl (by simp only[go_sem,seval,b5,w5,ca,cf,aC,ab]) ?_;refine WW rfl (za Yx a har Yu) ?_;refine eh rfl (by simp only[go_sem,seval,b5,w5,ca,cf,aC,ab]) ?_;refine eh rfl (by simp only[go_sem,seval,b5,w5,ca,cf,aC,ab]) ?_;refine RE.call rfl rfl rfl rfl rfl hput ?_;rintro r Z7 ⟨s7,Sq⟩;have w7:=s7 _ _ w5;replace b5:=s7 _ _ b5;replace w5:=s7 _ _ w5;obtain⟨cr,sr⟩:=Sq.vc;refine cY (n:=0) [] [32,34,36,38] [_,_,_,_] rfl rfl ?_;simp only[go_sem,seval,b5,w5,ca,cf,aC,ab,cr,sr];apply sR;simp only[go_sem,seval];refine Tf ⟨rfl,?_⟩;have hfa:=(Zr.mono s6).mono s7;exact⟨(hs05.trans s7).aL hJ.no,hJ.no,va,r,aA,hfa.BE,(Sq.wj hs05 w5o).BE,λh=>absurd h hpne⟩
open Go.Proofs
section
variable {P:Program} {n:Nat} {st:St} {Q:St->Prop} {k:List It}
def Go.yw{i:aU}{l:List aU}{fx:VX}{xs:List VX}{f:FuncId}{caps:List V}{v:V}(hw:bt st.s i.g=some true)(ho:i.op=.call fx xs)
 (hf:fx.ev st.s=.fn f caps)(hc:∀Z1,aa st.U Z1->aG P f (xs.map (·.ev st.s)++caps) Z1 λr Z'=>r=v/\Z'=Z1)(h:Go P n (.d l k) ⟨bb st.s i.dst v,st.U⟩ Q):Go P n (.d (i::l) k) st Q:=by
 refine o3 hw ?_;rw[ho];exact⟨f,caps,v,hf,λZ1 h1=>hc Z1 h1,h⟩
end
def jr{fs:List Si}{ws:List Int}{space high B:Int}{s:SK}(hB:∀f∈fs,f.y+f.h<=B)(h0:0<=high):∀(k i:Nat) (y:Int),∀x∈cM fs ws space high s k i y,y<=x.y/\x.y+high<=max y B+high*k
 |0,_,_,x,hx=>by simp[cM]at hx
 |k+1,i,y,x,hx=>by
  rw[cM]at hx;split at hx
  .have hr:=fF (w:=ws.getD i 0) (high:=high) (y:=y) (s:=s) hB;have e:(lV fs ws space high i y s).y=gu fs (ws.getD i 0) high s y:=rfl;have e2:high*((k+1:Nat):Int)=high*k+high:=by rw[Int.natCast_add,Int.mul_add];simp
   have hk:0<=high*(k:Int):=Int.mul_nonneg h0 (by omega);rcases ew.1 hx with rfl|hx
   .rw[e,e2];omega
   .have:=jr hB h0 k _ _ x hx;rw[e]at this;rw[e2];omega
  .cases hx
def U0.FE{l:List Nd}{rs:List Rm}{Z0 U:al}{iw i:Nat}{s:WS}{o:Ob}(hJ:U0 l rs Z0 iw s U)(hi:U i=some o)(h1:o.elem≠66)(h2:o.elem≠137)(h3:i≠iw):U0 l rs (C' Z0 i o) iw s U:=by
 obtain⟨va,vf,w1,g1,g2,g3⟩:=hJ.row;have key:∀{e sz:Nat} {v:V} {rows:List V},o.elem≠e->aP (cA Z0 iw) U e sz v rows->aP (cA (C' Z0 i o) iw) U e sz v rows:=λ{e sz v rows} he h=>by
  rcases h with h|⟨id,a1,a2,a3⟩
  .exact .inl h
  .have Sh:id≠i:=λe'=>by subst e';rw[a2]at hi;injection hi with hi;subst hi;exact he rfl
   exact .inr ⟨id,a1,a2,bk.2 ⟨(bk.1 a3).1,by rw[ad Sh];exact(bk.1 a3).2⟩⟩
 refine⟨λj p h=>?_,by rw[ad h3.symm];exact hJ.no,va,vf,w1,key h1 g1,key h2 g2,g3⟩;by_cases e:j=i
 .subst e;rw[aA]at h;rw[hi];exact h
 .rw[ad e]at h;exact hJ.sub _ _ h
def U0.narrow{l:List Nd}{rs:List Rm}{Z0 U:al}{iw i:Nat}{s:WS}{o:Ob}(hJ:U0 l rs (C' Z0 i o) iw s U)(hi:Z0 i=none)(h3:i≠iw):U0 l rs Z0 iw s U:=by
 obtain⟨va,vf,w1,g1,g2,g3⟩:=hJ.row;have hs:aa Z0 (C' Z0 i o):=(aa.refl Z0).aL hi;have key:∀{e sz:Nat} {v:V} {rows:List V},aP (cA (C' Z0 i o) iw) U e sz v rows->aP (cA Z0 iw) U e sz v rows:=λ{e sz v rows} h=>by
  rcases h with h|⟨id,a1,a2,a3⟩
  .exact .inl h
  .exact .inr ⟨id,a1,a2,bk.2 ⟨(bk.1 a3).1,hs.none (bk.1 a3).2⟩⟩
 exact⟨hs.trans hJ.sub,hs.none hJ.no,va,vf,w1,key g1,key g2,g3⟩
def kj{U:al}{e sz id:Nat}{rows:List V}{i:Nat}(h:U id=some ⟨e,sz,rows⟩)(hi:i<rows.length):bI U sz (.own id 0 rows.length) (.int .i64 i)=some (.ptr id i 0):=by
 simp[bI,h,hi]
def fp(a:Nat)(h:Int)(s:WS)(L:List Ln):WS:=L.foldl (λs x=>s.put (fv a h x)) s
def u9{a:Nat}{h:Int}{s:WS}{L:List Ln}{j:Nat}(hj:j<L.length):fp a h s (L.take (j+1))=(fp a h s (L.take j)).put (fv a h L[j]):=by
 unfold fp;rw[Vn hj,nj];rfl
def oe(a:Nat)(h:Int):∀(L:List Ln) (s:WS),(fp a h s L).atoms.length=s.atoms.length+L.length
 |[],s=>by simp[fp]
 |x::L,s=>by
  have:=oe a h L (s.put (fv a h x));simp only[fp,jW]at this|-;rw[this];simp only[WS.put,kL,Uf,List.length_nil];omega
def JA{l:List Nd}{rs:List Rm}(hD:ZP l rs){Z0 U:al}{iw:Nat}{s:WS}{B:Int}(hJ:U0 l rs Z0 iw s U)(hB:Bd s B)(hB1:B<=288230376151711744)(a:Nat)(ha:a<l.length)(hn:s.atoms.length<=100000)(hfn:s.g'.length<=100000)(hwl:l[a].words.length<=10000):
 aG prog 145 [.ptr iw 0 0,vI a] U λr Z'=>r=.Sa []/\U0 l rs Z0 iw (WS.text rs s a l[a]) Z':=by
 obtain⟨va,vf,w1,Zr,X7,hf2⟩:=hJ.row;obtain⟨ca,sa⟩:=Zr.vc;obtain⟨cf,sf⟩:=X7.vc;have Sw:=fA hD.ZQ ha;have VM:=hD.span ha;obtain⟨har,Yu⟩:=hD.room ha;have R0:=iM l ha;unfold WS.text;generalize l[a]=n at*;have hwok:WOk n.words n.space:=⟨by omega,λx hx=>by have:=Sw.words x hx;omega,Sw.space.1,Sw.space.2⟩
 have hm:=hB.m1;have Yw:=hB.m0;have ZO:=hB.y0;have hyB:=hB.yB;have hlb:=Sw.line;refine QD.q ?_;refine mS 7 ?_;simp only[go_sem,seval,OI,w1,ca,cf,aC,ab,ag,ak,R0,Nd.cells];refine aF λi4 Z4 s4 a4 f4=>?_;have w4':=s4 _ _ w1;have n4:=bf w1 f4;simp only[go_sem,seval,a4,w4',ad n4,ca,cf,aC,ab,ag,ak];generalize Yv:C' Z4 i4 _=Y4;have b4:Y4 i4=some ⟨59,20,[.agg (Nd.cells n)]⟩:=by rw[<-Yv];exact aA
 rw[Nd.cells]at b4;have s4':aa U Y4:=by rw[<-Yv];exact s4.aL f4
 clear Yv;have w4:=s4' _ _ w1;have hlen:vu Y4 vf (bj s.g'):=(X7.mono s4').ye;have Vk:=hJ.mono s4';refine pJ rfl (Ew s.P' ⟨by omega,by omega⟩ ⟨by omega,by omega⟩) ?_;apply sG;simp only[go_sem,seval];refine Go.yw rfl rfl rfl (λZ8 h8=>za (Vk.mono h8) a har Yu) ?_;apply sG;simp only[go_sem,seval];have hLl:=jJ s.g' n.words n.space n.line (eR rs a) n.words.length 0 (s.P'.y+s.P'.m);have hLb:=jr (ws:=n.words) (space:=n.space) (s:=eR rs a) (λf hf=>(hB.fl f hf).yB) hlb.1 n.words.length 0 (s.P'.y+s.P'.m);have u':=λZ8 (h8:aa Y4 Z8)=>(EM vf s.g' (hlen.mono h8) n.words n.space n.line (s.P'.y+s.P'.m) (eR rs a) (by omega) (hB.flo (by omega)) B (λf hf=>(hB.fl f hf).yB) (by omega) (by omega) (by omega) hlb.1 hlb.2 VM.bq hwok).x9 λ_ _ h=>h.2.nG (v0:=kd (cM s.g' n.words n.space n.line (eR rs a) n.words.length 0 (s.P'.y+s.P'.m))) h.1 rfl;generalize cM s.g' n.words n.space n.line (eR rs a) n.words.length 0 (s.P'.y+s.P'.m)=L at*;refine Go.yw rfl rfl rfl (λZ8 h8=>u' Z8 h8) ?_;have hnL:eM false (kd L)=some (.int .i64 L.length):=by simp[kd,eM]
 apply sG;simp only[go_sem,seval,hnL];have h0i:Z0 i4=none:=hJ.sub.none f4;have hJw:=Vk.FE b4 (by simp) (by simp) n4.symm;have S1:((n.words.length:Nat):Int)<=10000:=by omega
 have hmul:n.line*(n.words.length:Int)<=1099511627776*10000:=Int.mul_le_mul hlb.2 S1 (by omega) (by omega);refine ay.loop (λm st=>∃j:Nat,j<=L.length/\m=L.length-j/\U0 l rs (C' Z0 i4 ⟨59,20,[.agg [vI n.kind,vI n.size,vI n.st.top,vI n.st.Sk,vI n.st.R5,vI n.st.O',vI n.st.SG,vI n.st.R9,vI n.st.Sl,vI n.st.head,vI n.st.before,vI n.st.after,vI n.st.inside,vI n.st.clear,vI n.line,vI n.space,aZ n.words,vI n.side,vI n.w,vI n.h]]⟩) iw (fp a n.line s (L.take j)) st.U/\
  st.s 0=.ptr iw 0 0/\st.s 1=vI a/\st.s 4=.ptr i4 0 0/\st.s 33=kd L/\st.s 34=vI L.length/\st.s 35=vI j) L.length ?_ ?_
 .exact⟨0,by omega,rfl,hJw,rfl,rfl,rfl,rfl,rfl,rfl⟩
 .rintro m ⟨S,J⟩ ⟨j,hj,rfl,UN,t0,t1,t4,t33,t34,t35⟩;simp only at UN t0 t1 t4 t33 t34 t35;refine ay.mix 7 ?_;have c4:=UN.sub _ _ (aA (id:=i4));by_cases u':j<L.length
  .have q:=qT u';have SW:∀U,bI U 5 (kd L) (.int .i64 j)=some (.rp (jo L[j])):=λU=>by simp[kd,bI,u']
   have SB:=u9 (a:=a) (h:=n.line) (s:=s) u';have SF:=hLb L[j] (SU u');have Xd:=oe a n.line (L.take j) s;rw[mf]at Xd;generalize L[j]=x at*;have X8:jo x=.agg [vI x.fr,vI x.to,vI x.x,vI x.y,vI x.w]:=rfl;apply sR;simp only[go_sem,seval,t0,t1,t4,t33,t34,t35,q,SW,X8];refine aF λi6 Z6 s6 a6 f6=>?_;have d4:=s6 _ _ c4;have ZL:=bf c4 f6;simp only[go_sem,seval,a6,d4,t0,t1,t4,ad ZL,ag];refine TX rfl (G7 (UN.mono (s6.aL f6)) (fv a n.line x) (show Bq x.y from⟨by omega,by omega⟩) (show Bq n.line from⟨by omega,by omega⟩) (by omega)) ?_;rintro r Z' ⟨rfl,Wp⟩;have r1:=rI j;apply sR;simp only[go_sem,seval,t0,t1,t4,t33,t34,t35,r1];exact⟨_,by omega,j+1,by omega,rfl,by rw[SB];exact Wp,by simp[t0,t1,t4,t33,t34]⟩
  .have q:=qF u';rw[qq (by omega)]at UN;apply sR;simp only[go_sem,seval,t0,t1,t4,t33,t34,t35,q];exact Tf ⟨rfl,UN.narrow h0i n4.symm⟩
def nd0:Nd:=⟨0,0,TA.zero,0,0,[],0,0,0⟩
def Sr(l:List Nd)(a:Nat):Nd:=l.getD a nd0
def gS{l:List Nd}{a:Nat}(h:a<l.length):Sr l a=l[a]:=by simp[Sr,h]
def cZ(l:List Nd)(rs:List Rm):Nat->Nat->Nat->WS->WS
 |0,_,_,s=>s
 |k+1,a,e,s=>if a<e then cZ l rs k (a+(R7 l a).toNat) e
   (if(Sr l a).kind=1 then(cZ l rs k (a+1) (a+(R7 l a).toNat) (s.enter (Sr l a).st)).leave (Sr l a).st
    else if(Sr l a).kind=2 then s.text rs a (Sr l a)else if(Sr l a).kind=3 then WS.mono l rs s a (Sr l a)else s.float rs a (Sr l a))else s
def og{l:List Nd}{rs:List Rm}{e:Nat}(he:e<=l.length):∀(k j a:Nat) (s:WS),e-a<=k->e-a<=j->bE l a e=true->cZ l rs k a e s=cZ l rs j a e s
 |0,0,_,_,_,_,_=>rfl
 |0,j+1,a,s,h,_,_=>by rw[cZ,cZ,aK (by omega)]
 |k+1,0,a,s,_,h,_=>by rw[cZ,cZ,aK (by omega)]
 |k+1,j+1,a,s,h,h',hr=>by
  rw[cZ,cZ];by_cases u':a<e
  .obtain⟨h1,h2⟩:=cc he hr (SD a) u';obtain⟨h3,h4⟩:=cQ he hr u';rw[aI u',aI u',og (e:=a+(R7 l a).toNat) (by omega) k j _ _ (by omega) (by omega) h4,og he k j _ _ (by omega) (by omega) h3]
  .rw[aK u',aK u']
def SP(l:List Nd)(a e:Nat):Nat:=(((l.take e).drop a).map λn=>4+n.words.length).sum
def tt(l:List Nd)(a:Nat):SP l a a=0:=by unfold SP;rw[List.drop_of_length_le (by rw[mf];omega)];rfl
def eY{l:List Nd}{a m e:Nat}(h1:a<=m)(h2:m<=e)(h3:e<=l.length):SP l a e=SP l a m+SP l m e:=by
 unfold SP;rw[<-List.sum_append_nat,<-fw];congr 2;have e1:l.take m=(l.take e).take m:=by rw[List.take_take,Nat.min_eq_left h2]
 rw[e1]
 conv=>lhs;rw[<-Bb m (l.take e)]
 rw[zS (by rw[mf,mf];omega)]
def IE{l:List Nd}{a:Nat}(h:a<l.length):SP l a (a+1)=4+l[a].words.length:=by
 unfold SP;rw[Vn h,zS (by rw[mf];omega),List.drop_of_length_le (by rw[mf];omega)];simp
def nC{l:List Nd}{a e:Nat}(h1:a<e)(h3:e<=l.length):SP l a e=4+(Sr l a).words.length+SP l (a+1) e:=by
 rw[eY (Nat.le_succ a) h1 h3,IE (by omega),gS (by omega)]
structure fQ(s:WS)(C:Nat):Prop where
 bd:Bd s (1099511627776*(C:Int))
 SI:s.atoms.length<=C
 fl:s.g'.length<=C
def fQ.more{s:WS}{C D:Nat}(h:fQ s C)(hD:C<=D):fQ s D:=⟨h.bd.mono (by omega),mN h.SI hD,mN h.fl hD⟩
def kC{l:List Nd}{rs:List Rm}{s:WS}{C:Nat}(h:fQ s C){n:Nd}(hn:ZN n)(a:Nat):fQ (WS.mono l rs s a n) (C+1):=by
 obtain⟨⟨hf,h1,h2,h3,h4⟩,h5,h6⟩:=h;have hyr:=fF (w:=n.w) (high:=n.h) (y:=s.P'.y+s.P'.m) (s:=eR rs a) (λf XI=>(hf f XI).yB);have hh:=hn.h;refine⟨⟨λf XI=>(hf f XI).mono (by omega),?_,?_,?_,?_⟩,?_,?_⟩<;>simp only[WS.mono,WS.put,kL,Uf,List.length_nil]<;>omega
def jG{l:List Nd}{rs:List Rm}(hD:ZP l rs){s:WS}{C:Nat}(h:fQ s C){a:Nat}(ha:a<l.length){n:Nd}(hn:ZN n)(hk:n.kind=4):fQ (s.float rs a n) (C+1):=by
 obtain⟨⟨hf,h1,h2,h3,h4⟩,h5,h6⟩:=h;have hb:=hn.box (.inr hk);have hw:=hn.w;have hh:=hn.h;refine⟨⟨λf XI=>?_,h1,h2,h3,by simp only[WS.float];omega⟩,by simp only[WS.float];omega,by simp only[WS.float,nL,kL,Uf,List.length_nil];omega⟩;exact(HH (f:=⟨a,n.side,s.atoms.length,0,0,n.w,n.h⟩) hf (hD.span ha) (by omega) (by omega) (by simp only;omega) (by simp only;omega) (by simp only;omega) (by simp only;omega) f XI).mono (by omega)
def kA{rs:List Rm}{s:WS}{C:Nat}(h:fQ s C){n:Nd}(hn:ZN n)(a:Nat):fQ (s.text rs a n) (C+n.words.length):=by
 obtain⟨⟨hf,h1,h2,h3,h4⟩,h5,h6⟩:=h;have hl:=hn.line;unfold WS.text;have hLl:=jJ s.g' n.words n.space n.line (eR rs a) n.words.length 0 (s.P'.y+s.P'.m);have hLb:=jr (ws:=n.words) (space:=n.space) (s:=eR rs a) (λf XI=>(hf f XI).yB) hl.1 n.words.length 0 (s.P'.y+s.P'.m);generalize cM s.g' n.words n.space n.line (eR rs a) n.words.length 0 (s.P'.y+s.P'.m)=L at*;have hmul:n.line*(n.words.length:Int)<=1099511627776*(n.words.length:Int):=Int.mul_le_mul_of_nonneg_right hl.2 (by omega);have Yw:0<=n.line*(n.words.length:Int):=Int.mul_nonneg hl.1 (by omega);have key:∀(L:List Ln) (t:WS),(∀x∈L,s.P'.y+s.P'.m<=x.y/\x.y+n.line<=max (s.P'.y+s.P'.m) (1099511627776*(C:Int))+n.line*(n.words.length:Int))->t.g'=s.g'->0<=t.P'.y->0<=t.P'.m->t.P'.m<=1099511627776->
  t.P'.y+t.P'.m<=1099511627776*((C+n.words.length:Nat):Int)->(fp a n.line t L).g'=s.g'/\0<=(fp a n.line t L).P'.y/\0<=(fp a n.line t L).P'.m/\(fp a n.line t L).P'.m<=1099511627776/\(fp a n.line t L).P'.y+(fp a n.line t L).P'.m<=1099511627776*((C+n.words.length:Nat):Int):=by
  intro L
  induction L with
  |nil=>intro t _ g1 g2 g3 g4 g5;exact⟨g1,g2,g3,g4,g5⟩
  |cons x L ih=>
   intro t hx g1 g2 g3 g4 g5;have hx0:=hx x (by simp);exact ih (t.put (fv a n.line x)) (λy hy=>hx y (by simp[hy])) g1 (by simp only[WS.put,fv];omega) (by simp[WS.put]) (by simp[WS.put]) (by simp only[WS.put,fv];omega)
 obtain⟨k1,k2,k3,k4,k5⟩:=key L s hLb rfl h1 h2 h3 (by omega);have Xd:=oe a n.line L s;refine⟨⟨λf XI=>(hf f ?_).mono (by omega),k2,k3,k4,k5⟩,?_,?_⟩
 .have:f∈(fp a n.line s L).g':=XI;rw[k1]at this;exact this
 .show(fp a n.line s L).atoms.length<=_;omega
 .show(fp a n.line s L).g'.length<=_;rw[k1];omega
def fb{s:WS}{C:Nat}(h:fQ s C){t:TA}(ht:SOk t):fQ (s.enter t) (C+2):=⟨(h.bd.enter ht).mono (by omega),by have:=h.SI;simp only[WS.enter];omega,by have:=h.fl;simp only[WS.enter];omega⟩
def jF{s:WS}{C:Nat}(h:fQ s C){t:TA}(ht:SOk t):fQ (s.leave t) (C+2):=⟨(h.bd.leave ht).mono (by omega),by have:=h.SI;simp only[WS.leave];omega,by have:=h.fl;simp only[WS.leave];omega⟩
def gT{l:List Nd}{rs:List Rm}(hD:ZP l rs):∀(k a e:Nat) (s:WS) (C:Nat),e-a<=k->a<=e->e<=l.length->bE l a e=true->fQ s C->fQ (cZ l rs k a e s) (C+SP l a e)
 |0,a,e,s,C,_,W9,_,_,h=>h.more (Nat.le_add_right _ _)
 |k+1,a,e,s,C,hk,W9,he,hr,h=>by
  rw[cZ];by_cases u':a<e
  .rw[aI u'];obtain⟨h1,h2⟩:=cc he hr (SD a) u';obtain⟨h3,h4⟩:=cQ he hr u';have Sw:ZN (Sr l a):=by rw[gS (by omega)];exact fA hD.ZQ (by omega)
   have YV:SP l a e=SP l a (a+(R7 l a).toNat)+SP l (a+(R7 l a).toNat) e:=eY (by omega) (by omega) he;have ZC:SP l a (a+(R7 l a).toNat)=4+(Sr l a).words.length+SP l (a+1) (a+(R7 l a).toNat):=nC (by omega) (by omega);have step:∀t,fQ t (C+SP l a (a+(R7 l a).toNat))->fQ (cZ l rs k (a+(R7 l a).toNat) e t) (C+SP l a e):=λt ht=>by
    rw[YV,<-Nat.add_assoc];exact gT hD k _ e t _ (by omega) (by omega) he h3 ht
   refine step _ ?_;rw[ZC];split
   .have:=jF (gT hD k (a+1) (a+(R7 l a).toNat) _ _ (by omega) (by omega) (by omega) h4 (fb h Sw.st)) Sw.st;exact this.more (by omega)
   .split
    .exact(kA h Sw a).more (by omega)
    .split
     .exact(kC h Sw a).more (by omega)
     .rename_i g1 g2 g3;have hk4:(Sr l a).kind=4:=by have:=Sw.kind;omega
      exact(jG hD h (by omega) Sw hk4).more (by omega)
  .rw[aK u'];exact h.more (Nat.le_add_right _ _)
open Go.Proofs
def OB(l:List Nd)(rs:List Rm)(iw:Nat)(a e:Nat)(C:Nat):Prop:=
 ∀(s:WS) (Z0 U:al),U0 l rs Z0 iw s U->fQ s C->aG prog 113 [.ptr iw 0 0,vI a,vI e] U λr Z'=>r=.Sa []/\U0 l rs Z0 iw (cZ l rs (e-a) a e s) Z'
def U0.Fi{l:List Nd}{rs:List Rm}{Z0 J:al}{iw:Nat}{s:WS}(hJ:U0 l rs Z0 iw s J){va vf:V}{y m:Int}(w:J iw=some ⟨172,7,[.agg [va,vf,vI s.R1,vI y,vI m,aQ l,cV rs]]⟩)(p:Pn):
 U0 l rs Z0 iw { s with P':=p } (C' J iw ⟨172,7,[.agg [va,vf,vI s.R1,vI p.y,vI p.m,aQ l,cV rs]]⟩):=by
 obtain⟨va',vf',w',g1,g2,g3⟩:=hJ.row;rw[w]at w';simp only[bh,Ob.mk.injEq,List.cons.injEq,V.agg.injEq,true_and,and_true]at w';obtain⟨rfl,rfl,_⟩:=w';exact⟨hJ.sub.aL hJ.no,hJ.no,va,vf,aA,g1.BE,g2.BE,g3⟩
def kF(s:TA):V:=.agg [vI s.top,vI s.Sk,vI s.R5,vI s.O',vI s.SG,vI s.R9,vI s.Sl,vI s.head,vI s.before,vI s.after,vI s.inside,vI s.clear]
def Ge{l:List Nd}{rs:List Rm}(hD:ZP l rs){Z0 U:al}{iw:Nat}{s:WS}{C:Nat}(hJ:U0 l rs Z0 iw s U)(hI:fQ s C)(hC:C<=50000)(a:Nat)(ha:a<l.length)(TH:OB l rs iw (a+1) (a+(R7 l a).toNat) (C+2))(hC2:C+2+SP l (a+1) (a+(R7 l a).toNat)<=50000)
 (TU:a+(R7 l a).toNat<=l.length)(hrB:bE l (a+1) (a+(R7 l a).toNat)=true)(TJ:1<=R7 l a):
 aG prog 144 [.ptr iw 0 0,vI a] U λr Z'=>r=.Sa []/\U0 l rs Z0 iw ((cZ l rs (a+(R7 l a).toNat-(a+1)) (a+1) (a+(R7 l a).toNat) (s.enter l[a].st)).leave l[a].st) Z':=by
 obtain⟨va,vf,w1,Zr,X7,hf2⟩:=hJ.row;obtain⟨ca,sa⟩:=Zr.vc;obtain⟨cf,sf⟩:=X7.vc;have Sw:=fA hD.ZQ ha;have R0:=iM l ha;have hszn:=ix ha;have XS:=hD.qQ;have q3:((a:Int)+l[a].size)=((a+(R7 l a).toNat:Nat):Int):=by rw[hszn];omega
 have q2:((a:Int)+1)=((a+1:Nat):Int):=by omega
 have hB:=hI.bd;have hm:=hB.m1;have Yw:=hB.m0;have ZO:=hB.y0;have hyB:=hB.yB;have hfl:=hI.fl;refine Pc.q ?_;refine mS 7 ?_;simp only[go_sem,seval,LN,w1,ca,cf,aC,ab,ag,ak,R0,Nd.cells];refine aF λi4 Z4 s4 a4 f4=>?_;have w4':=s4 _ _ w1;have n4:=bf w1 f4;simp only[go_sem,seval,a4,w4',ad n4,ca,cf,aC,ab,ag,ak];generalize Yv:C' Z4 i4 _=Y4;have b4:Y4 i4=some ⟨56,12,[kF l[a].st]⟩:=by rw[<-Yv];exact aA
 have s4':aa U Y4:=by rw[<-Yv];exact s4.aL f4
 clear Yv;have w4:=s4' _ _ w1;have hlen:vu Y4 vf (bj s.g'):=(X7.mono s4').ye;have h0i:Z0 i4=none:=hJ.sub.none f4;have Vk:=(hJ.mono s4').FE b4 (by simp) (by simp) n4.symm;refine Go.yw rfl rfl rfl (λZ8 h8=>aX.tf (args':=[bj s.g',vI l[a].st.clear]) ⟨(hlen.mono h8).at,UM _,trivial⟩ (AX s.g' l[a].st.clear (by omega) (hB.flo (by omega))) rfl) ?_;apply sG;simp only[go_sem,seval];obtain⟨s1,UO⟩:∃x,x=s.enter l[a].st:=⟨_,rfl⟩
 have hI1:=fb hI Sw.st;rw[<-UO]at hI1|-;unfold WS.enter at UO;simp only at UO;cases XJ:(cF (gk l[a].st.clear) s.g').2
 .rw[XJ]at UO;simp only[jb,↓reduceIte]at UO;simp only[go_sem,seval,gn];obtain⟨p,hp⟩:∃p:Pn,p=s.P':=⟨_,rfl⟩
  have Vl:s1={ s with P':=er p l[a].st.top l[a].st.R5 }:=by rw[UO,hp]
  have Yx:U0 l rs (C' Z0 i4 ⟨56,12,[kF l[a].st]⟩) iw { s with P':=p } Y4:=by rw[hp];exact Vk
  have w5:Y4 iw=some ⟨172,7,[.agg [va,vf,vI s.R1,vI p.y,vI p.m,aQ l,cV rs]]⟩:=by rw[hp];exact w4
  have b5:=b4;obtain⟨hp1,hp2,hp3,hp4⟩:0<=p.y/\0<=p.m/\p.m<=1099511627776/\p.y+p.m<=1099511627776*(C:Int):=by rw[hp];exact⟨ZO,Yw,hm,hyB⟩
  clear hp;generalize Y4=Y5 at*;rw[kF]at b5;have Sg:=Sw.st;have k1:=Sg.top;have k2:=Sg.R5;have k3:=Sg.Sk;have k4:=Sg.O';refine ay.yA (by kernel_rfl) [0,1,2,3,4,5,6,7,8,9,10,11,12] [[],[],[1],[1,2],[1,2,3],[],[5],[],[7],[1,2,3,4,5,6,7,8],[0,1,2,3,4,5,6,7,8,9],[0,1,2,3,4,5,6,7,8,9,10],[0,1,2,3,4,5,6,7,8,9,10,11]] [0,2,4,6,8,10,12,14,16,18,20,22,24] (by kernel_rfl) (by kernel_rfl) ?_;refine cY (n:=0) [18,20,22,24] [0,2,4,6,8,10,12,14,16] [_,_,_,_,_,_,_,_,_] rfl rfl ?_;simp only[go_sem,seval,w5,b5,ca,cf,aC,ab];refine WW rfl (Dg p l[a].st.top l[a].st.R5 ⟨by omega,by omega⟩ ⟨by omega,by omega⟩ ⟨by omega,by omega⟩ ⟨by omega,by omega⟩ _) ?_;refine cY (n:=0) [] [20,22,24] [_,_,_] rfl rfl ?_;simp only[go_sem,seval,w5,dx,ca,cf,aC,ab];have hJ6:=Yx.Fi w5 (er p l[a].st.top l[a].st.R5);rw[<-Vl]at hJ6;have r1:=rI a;have r2:Sn .i64 ((a:Int)+l[a].size):=ar;have w6:=aA (U:=Y5) (id:=iw) (o:=⟨172,7,[.agg [va,vf,vI s.R1,vI (er p l[a].st.top l[a].st.R5).y,vI (er p l[a].st.top l[a].st.R5).m,aQ l,cV rs]]⟩);have hc:=TH s1 _ _ hJ6 hI1;rw[<-q2,<-q3]at hc;generalize C' Y5 iw ⟨172,7,[.agg [va,vf,vI s.R1,vI (er p l[a].st.top l[a].st.R5).y,vI (er p l[a].st.top l[a].st.R5).m,aQ l,cV rs]]⟩=Y6 at*;apply sR;simp only[go_sem,seval,w6,R0,Nd.cells,r1,r2,ca,cf,aC,ab,ag];refine TX rfl hc ?_;rintro r Z7 ⟨rfl,hJ7⟩;have hI7:=gT hD (a+(R7 l a).toNat-(a+1)) (a+1) (a+(R7 l a).toNat) s1 _ (SD _) (by omega) TU hrB hI1;have b7:=hJ7.sub _ _ (aA (id:=i4));rw[kF]at b7;generalize cZ l rs (a+(R7 l a).toNat-(a+1)) (a+1) (a+(R7 l a).toNat) s1=s2 at*;obtain⟨va7,vf7,w7,g71,g72,_⟩:=hJ7.row;obtain⟨ca7,_⟩:=g71.vc;obtain⟨cf7,_⟩:=g72.vc;have m1:=hI7.bd.m1;have m2:=hI7.bd.m0;have m3:=hI7.bd.y0;have m4:=hI7.bd.yB;apply sR;simp only[go_sem,seval,gn];refine ay.yA (by kernel_rfl) [0,1,2,3,4,5,6,7,8,9,10,11,12] [[],[],[1],[1,2],[1,2,3],[],[5],[],[7],[1,2,3,4,5,6,7,8],[0,1,2,3,4,5,6,7,8,9],[0,1,2,3,4,5,6,7,8,9,10],[0,1,2,3,4,5,6,7,8,9,10,11]] [0,2,4,6,8,10,12,14,16,18,20,22,24] (by kernel_rfl) (by kernel_rfl) ?_;refine cY (n:=0) [18,20,22,24] [0,2,4,6,8,10,12,14,16] [_,_,_,_,_,_,_,_,_] rfl rfl ?_;simp only[go_sem,seval,w7,b7,ca7,cf7,aC,ab];refine WW rfl (CB s2.P' l[a].st.Sk l[a].st.O' ⟨by omega,by omega⟩ ⟨by omega,by omega⟩ ⟨by omega,by omega⟩ ⟨by omega,by omega⟩ _) ?_;refine cY (n:=0) [] [20,22,24] [_,_,_] rfl rfl ?_;simp only[go_sem,seval,w7,dx,ca7,cf7,aC,ab];apply sR;simp only[go_sem,seval];exact Tf ⟨rfl,(hJ7.Fi w7 (ky s2.P' l[a].st.Sk l[a].st.O')).narrow h0i n4.symm⟩
 .rw[XJ]at UO;simp only[↓reduceIte]at UO;obtain⟨f,hfm,e1,_⟩:=kT XJ;have e2:(gk l[a].st.clear f).1=f.y+f.h:=rfl;have Xy:=hB.fl f hfm;generalize (cF (gk l[a].st.clear) s.g').1=low at*;simp only[go_sem,seval,w4,ca,cf,aC,ab];refine pS rfl (Ho s.P' low ⟨by omega,by omega⟩ ⟨by omega,by omega⟩ _) ?_;simp only[go_sem,seval,w4,dx,ca,cf,aC,ab,gn];obtain⟨p,hp⟩:∃p:Pn,p=fk s.P' low:=⟨_,rfl⟩
  rw[<-hp]at UO|-;have Vl:=UO;have Yx:=Vk.Fi w4 p;have w5:=aA (U:=Y4) (id:=iw) (o:=⟨172,7,[.agg [va,vf,vI s.R1,vI p.y,vI p.m,aQ l,cV rs]]⟩);have b5:C' Y4 iw ⟨172,7,[.agg [va,vf,vI s.R1,vI p.y,vI p.m,aQ l,cV rs]]⟩ i4=some ⟨56,12,[kF l[a].st]⟩:=by rw[ad n4.symm];exact b4
  obtain⟨hp1,hp2,hp3,hp4⟩:0<=p.y/\0<=p.m/\p.m<=1099511627776/\p.y+p.m<=1099511627776*(C:Int):=by
   rw[hp];have hy:=Xy.yB;have ZO:=Xy.y0;have hh0:=Xy.h0;unfold fk;split<;>(try simp only)<;>omega
  clear hp;generalize C' Y4 iw ⟨172,7,[.agg [va,vf,vI s.R1,vI p.y,vI p.m,aQ l,cV rs]]⟩=Y5 at*;rw[kF]at b5;have Sg:=Sw.st;have k1:=Sg.top;have k2:=Sg.R5;have k3:=Sg.Sk;have k4:=Sg.O';refine ay.yA (by kernel_rfl) [0,1,2,3,4,5,6,7,8,9,10,11,12] [[],[],[1],[1,2],[1,2,3],[],[5],[],[7],[1,2,3,4,5,6,7,8],[0,1,2,3,4,5,6,7,8,9],[0,1,2,3,4,5,6,7,8,9,10],[0,1,2,3,4,5,6,7,8,9,10,11]] [0,2,4,6,8,10,12,14,16,18,20,22,24] (by kernel_rfl) (by kernel_rfl) ?_;refine cY (n:=0) [18,20,22,24] [0,2,4,6,8,10,12,14,16] [_,_,_,_,_,_,_,_,_] rfl rfl ?_;simp only[go_sem,seval,w5,b5,ca,cf,aC,ab];refine WW rfl (Dg p l[a].st.top l[a].st.R5 ⟨by omega,by omega⟩ ⟨by omega,by omega⟩ ⟨by omega,by omega⟩ ⟨by omega,by omega⟩ _) ?_;refine cY (n:=0) [] [20,22,24] [_,_,_] rfl rfl ?_;simp only[go_sem,seval,w5,dx,ca,cf,aC,ab];have hJ6:=Yx.Fi w5 (er p l[a].st.top l[a].st.R5);rw[<-Vl]at hJ6;have r1:=rI a;have r2:Sn .i64 ((a:Int)+l[a].size):=ar;have w6:=aA (U:=Y5) (id:=iw) (o:=⟨172,7,[.agg [va,vf,vI s.R1,vI (er p l[a].st.top l[a].st.R5).y,vI (er p l[a].st.top l[a].st.R5).m,aQ l,cV rs]]⟩);have hc:=TH s1 _ _ hJ6 hI1;rw[<-q2,<-q3]at hc;generalize C' Y5 iw ⟨172,7,[.agg [va,vf,vI s.R1,vI (er p l[a].st.top l[a].st.R5).y,vI (er p l[a].st.top l[a].st.R5).m,aQ l,cV rs]]⟩=Y6 at*;apply sR;simp only[go_sem,seval,w6,R0,Nd.cells,r1,r2,ca,cf,aC,ab,ag];refine TX rfl hc ?_;rintro r Z7 ⟨rfl,hJ7⟩;have hI7:=gT hD (a+(R7 l a).toNat-(a+1)) (a+1) (a+(R7 l a).toNat) s1 _ (SD _) (by omega) TU hrB hI1;have b7:=hJ7.sub _ _ (aA (id:=i4));rw[kF]at b7;generalize cZ l rs (a+(R7 l a).toNat-(a+1)) (a+1) (a+(R7 l a).toNat) s1=s2 at*;obtain⟨va7,vf7,w7,g71,g72,_⟩:=hJ7.row;obtain⟨ca7,_⟩:=g71.vc;obtain⟨cf7,_⟩:=g72.vc;have m1:=hI7.bd.m1;have m2:=hI7.bd.m0;have m3:=hI7.bd.y0;have m4:=hI7.bd.yB;apply sR;simp only[go_sem,seval,gn];refine ay.yA (by kernel_rfl) [0,1,2,3,4,5,6,7,8,9,10,11,12] [[],[],[1],[1,2],[1,2,3],[],[5],[],[7],[1,2,3,4,5,6,7,8],[0,1,2,3,4,5,6,7,8,9],[0,1,2,3,4,5,6,7,8,9,10],[0,1,2,3,4,5,6,7,8,9,10,11]] [0,2,4,6,8,10,12,14,16,18,20,22,24] (by kernel_rfl) (by kernel_rfl) ?_;refine cY (n:=0) [18,20,22,24] [0,2,4,6,8,10,12,14,16] [_,_,_,_,_,_,_,_,_] rfl rfl ?_;simp only[go_sem,seval,w7,b7,ca7,cf7,aC,ab];refine WW rfl (CB s2.P' l[a].st.Sk l[a].st.O' ⟨by omega,by omega⟩ ⟨by omega,by omega⟩ ⟨by omega,by omega⟩ ⟨by omega,by omega⟩ _) ?_;refine cY (n:=0) [] [20,22,24] [_,_,_] rfl rfl ?_;simp only[go_sem,seval,w7,dx,ca7,cf7,aC,ab];apply sR;simp only[go_sem,seval];exact Tf ⟨rfl,(hJ7.Fi w7 (ky s2.P' l[a].st.Sk l[a].st.O')).narrow h0i n4.symm⟩
open Go.Proofs
def w9{l:List Nd}{rs:List Rm}{b e:Nat}(he:e<=l.length)(hr:bE l b e=true)(u':b<e)(s:WS):
 cZ l rs (e-b) b e s=cZ l rs (e-(b+(R7 l b).toNat)) (b+(R7 l b).toNat) e
  (if(Sr l b).kind=1 then(cZ l rs (b+(R7 l b).toNat-(b+1)) (b+1) (b+(R7 l b).toNat) (s.enter (Sr l b).st)).leave (Sr l b).st
   else if(Sr l b).kind=2 then s.text rs b (Sr l b)else if(Sr l b).kind=3 then WS.mono l rs s b (Sr l b)else s.float rs b (Sr l b)):=by
 obtain⟨h1,h2⟩:=cc he hr (SD b) u';obtain⟨h3,h4⟩:=cQ he hr u';rw[show e-b=(e-b-1)+1 by omega,cZ,aI u',og (e:=b+(R7 l b).toNat) (by omega) (e-b-1) _ _ _ (by omega) (SD _) h4,og he (e-b-1) _ _ _ (by omega) (SD _) h3]
def Lu{l:List Nd}{rs:List Rm}(hD:ZP l rs)(hwl:∀n∈l,n.words.length<=10000){iw:Nat}:∀(m a e C:Nat),e-a<m->a<=e->e<=l.length->bE l a e=true->C+SP l a e<=50000->OB l rs iw a e C:=by
 intro m
 induction m with
 |zero=>intro a e C h;omega
 |succ m ih=>?_
 intro a e C hm W9 he hrB hC s Z0 U hJ hI;have XS:=hD.qQ;refine Q5.q ?_;refine ay.mix 7 ?_;obtain⟨va0,vf0,w0,_,_,_⟩:=hJ.row;have Vs:∀f:FuncId,(V.bm f [.ptr iw 0 0]).cells=[.bm f [.ptr iw 0 0]]:=λ_=>rfl;have SF:∀f:FuncId,(V.bm f [.ptr iw 0 0]).stays=true:=λ_=>rfl;have hnf:V.TG.cells=[.TG]:=rfl;apply sR;simp only[go_sem,seval,OG,Vs,SF,hnf];refine aF λi6 Z6 s6 a6 f6=>?_;have n6:=bf w0 f6;simp only[go_sem,seval,a6,Vs,SF,hnf];generalize Wq:C' Z6 i6 _=Y6;have b6:Y6 i6=some ⟨216,5,[.agg [.TG,.bm 144 [.ptr iw 0 0],.bm 145 [.ptr iw 0 0],.bm 146 [.ptr iw 0 0],.bm 147 [.ptr iw 0 0]]]⟩:=by rw[<-Wq];exact aA
 have s6':aa U Y6:=by rw[<-Wq];exact s6.aL f6
 clear Wq;have h0i:Z0 i6=none:=hJ.sub.none f6;have hJ6:=(hJ.mono s6').FE b6 (by simp) (by simp) n6.symm;refine ay.loop (λq st=>∃(b:Nat) (s':WS),q=e-b/\a<=b/\b<=e/\bE l b e=true/\cZ l rs (e-a) a e s=cZ l rs (e-b) b e s'/\fQ s' (C+SP l a b)/\
  U0 l rs (C' Z0 i6 ⟨216,5,[.agg [.TG,.bm 144 [.ptr iw 0 0],.bm 145 [.ptr iw 0 0],.bm 146 [.ptr iw 0 0],.bm 147 [.ptr iw 0 0]]]⟩) iw s' st.U/\
  st.s 0=.ptr iw 0 0/\st.s 1=vI b/\st.s 2=vI e/\st.s 6=.ptr i6 0 0) (e-a) ?_ ?_
 .exact⟨a,s,rfl,SD _,W9,hrB,rfl,by rw[tt];exact hI,hJ6,rfl,rfl,rfl,rfl⟩
 .rintro q ⟨S,J⟩ ⟨b,s',rfl,VT,WU,YO,heq,U',hJb,t0,t1,t2,t6⟩;simp only at hJb t0 t1 t2 t6;refine ay.mix 7 ?_;by_cases u':b<e
  .have q1:((b:Int)<(e:Int))=True:=RX;obtain⟨h1,h2⟩:=cc he YO (SD b) u';obtain⟨h3,h4⟩:=cQ he YO u';have Tu:b<l.length:=by omega
   have Sw:=fA hD.ZQ Tu;have TU:=ix Tu;have R0:=iM l Tu;have YV:SP l a e=SP l a b+SP l b e:=eY VT WU he;have ZC:SP l b e=SP l b (b+(R7 l b).toNat)+SP l (b+(R7 l b).toNat) e:=eY (by omega) (by omega) he;have UJ:SP l b (b+(R7 l b).toNat)=4+(Sr l b).words.length+SP l (b+1) (b+(R7 l b).toNat):=nC (by omega) (by omega);have hc4:SP l a (b+(R7 l b).toNat)=SP l a b+SP l b (b+(R7 l b).toNat):=eY VT (by omega) (by omega);have Th:=gS Tu;have q3:((b:Int)+l[b].size)=((b+(R7 l b).toNat:Nat):Int):=by rw[TU];omega
   have r2:Sn .i64 ((b:Int)+l[b].size):=ar;have Sg:=w9 (rs:=rs) he YO u' s';rw[Th]at Sg UJ;have c6:=hJb.sub _ _ (aA (id:=i6));obtain⟨va,vf,w1,g1,g2,_⟩:=hJb.row;obtain⟨ca,_⟩:=g1.vc;obtain⟨cf,_⟩:=g2.vc;have hBb:=U'.bd.mono (C:=288230376151711744) (by omega);have SO:∀s2,s2=(if l[b].kind=1 then(cZ l rs (b+(R7 l b).toNat-(b+1)) (b+1) (b+(R7 l b).toNat) (s'.enter l[b].st)).leave l[b].st
    else if l[b].kind=2 then s'.text rs b l[b]else if l[b].kind=3 then WS.mono l rs s' b l[b]else s'.float rs b l[b])->fQ s2 (C+SP l a (b+(R7 l b).toNat)):=by
     rintro s2 rfl;rw[hc4,UJ];split
     .exact(jF (gT hD _ (b+1) (b+(R7 l b).toNat) _ _ (SD _) (by omega) (by omega) h4 (fb U' Sw.st)) Sw.st).more (by omega)
     .split
      .exact(kA U' Sw b).more (by omega)
      .split
       .exact(kC U' Sw b).more (by omega)
       .rename_i g1 g2 g3;exact(jG hD U' Tu Sw (by have:=Sw.kind;omega)).more (by omega)
   rcases Sw.kind with hk|hk|hk|hk
   .apply sR;simp only[go_sem,seval,q1,t0,t1,t2,t6,w1,c6,R0,Nd.cells,hk,ca,cf,Vs,SF,hnf,aC,ab,ag];refine ay.mR rfl rfl rfl (Ge hD hJb U' (by omega) b Tu (ih (b+1) (b+(R7 l b).toNat) _ (by omega) (by omega) (by omega) h4 (by omega)) (by omega) (by omega) h4 h2) ?_;rintro r Z' ⟨rfl,Wp⟩;have w2':=Wp.row;obtain⟨va2,vf2,w2,g12,g22,_⟩:=w2';obtain⟨ca2,_⟩:=g12.vc;obtain⟨cf2,_⟩:=g22.vc;apply sR;simp only[go_sem,seval,t0,t1,t2,t6,w2,R0,Nd.cells,r2,ca2,cf2,aC,ab,ag];refine⟨_,?_,b+(R7 l b).toNat,_,rfl,by omega,by omega,h3,by rw[heq,Sg],SO _ rfl,?_,by simp[t0,t2,t6,q3]⟩
    .omega
    .simpa[hk]using Wp
   .apply sR;simp only[go_sem,seval,q1,t0,t1,t2,t6,w1,c6,R0,Nd.cells,hk,ca,cf,Vs,SF,hnf,aC,ab,ag];refine ay.mR rfl rfl rfl (JA hD hJb hBb (by omega) b Tu (by have:=U'.SI;omega) (by have:=U'.fl;omega) (hwl _ (SU Tu))) ?_;rintro r Z' ⟨rfl,Wp⟩;have w2':=Wp.row;obtain⟨va2,vf2,w2,g12,g22,_⟩:=w2';obtain⟨ca2,_⟩:=g12.vc;obtain⟨cf2,_⟩:=g22.vc;apply sR;simp only[go_sem,seval,t0,t1,t2,t6,w2,R0,Nd.cells,r2,ca2,cf2,aC,ab,ag];refine⟨_,?_,b+(R7 l b).toNat,_,rfl,by omega,by omega,h3,by rw[heq,Sg],SO _ rfl,?_,by simp[t0,t2,t6,q3]⟩
    .omega
    .simpa[hk]using Wp
   .apply sR;simp only[go_sem,seval,q1,t0,t1,t2,t6,w1,c6,R0,Nd.cells,hk,ca,cf,Vs,SF,hnf,aC,ab,ag];refine ay.mR rfl rfl rfl (HM hD hJb hBb (by omega) b Tu hk (by have:=U'.SI;omega) (by have:=U'.fl;omega)) ?_;rintro r Z' ⟨rfl,Wp⟩;have w2':=Wp.row;obtain⟨va2,vf2,w2,g12,g22,_⟩:=w2';obtain⟨ca2,_⟩:=g12.vc;obtain⟨cf2,_⟩:=g22.vc;apply sR;simp only[go_sem,seval,t0,t1,t2,t6,w2,R0,Nd.cells,r2,ca2,cf2,aC,ab,ag];refine⟨_,?_,b+(R7 l b).toNat,_,rfl,by omega,by omega,h3,by rw[heq,Sg],SO _ rfl,?_,by simp[t0,t2,t6,q3]⟩
    .omega
    .simpa[hk]using Wp
   .apply sR;simp only[go_sem,seval,q1,t0,t1,t2,t6,w1,c6,R0,Nd.cells,hk,ca,cf,Vs,SF,hnf,aC,ab,ag];refine ay.mR rfl rfl rfl (HC hD hJb hBb (by omega) b Tu (by have:=U'.SI;omega) (by have:=U'.fl;omega)) ?_;rintro r Z' ⟨rfl,Wp⟩;have w2':=Wp.row;obtain⟨va2,vf2,w2,g12,g22,_⟩:=w2';obtain⟨ca2,_⟩:=g12.vc;obtain⟨cf2,_⟩:=g22.vc;apply sR;simp only[go_sem,seval,t0,t1,t2,t6,w2,R0,Nd.cells,r2,ca2,cf2,aC,ab,ag];refine⟨_,?_,b+(R7 l b).toNat,_,rfl,by omega,by omega,h3,by rw[heq,Sg],SO _ rfl,?_,by simp[t0,t2,t6,q3]⟩
    .omega
    .simpa[hk]using Wp
  .have q1:((b:Int)<(e:Int))=False:=H';apply sR;simp only[go_sem,seval,q1,t0,t1,t2,t6];refine Tf ⟨rfl,?_⟩;have hz:cZ l rs (e-b) b e s'=s':=by rw[show e-b=0 by omega];rfl
   rw[heq,hz];exact hJb.narrow h0i n6.symm
open Go.Proofs
def mn(n:Nat)(f:Si):Si:={ f with anchor:=max 0 (min f.anchor ((n:Int)-1)) }
def vy(s:WS):Int:=if(cF (gk 3) s.g').2 then max (s.P'.y+s.P'.m) (cF (gk 3) s.g').1 else s.P'.y+s.P'.m
def WS.fin(s:WS):WS:={ s with R1:=vy s,g':=s.g'.map (mn s.atoms.length) }
def fM(n j:Nat)(l:List Si):List Si:=(l.take j).map (mn n)++l.drop j
def kB(n j:Nat)(l:List Si):(fM n j l).length=l.length:=by unfold fM;simp;omega
def rE{n j:Nat}{l:List Si}(h:j<l.length):(fM n j l)[j]?=some l[j]:=by
 unfold fM;rw[KQ (by simp;omega)];simp[h,Nat.min_eq_left (Nat.le_of_lt h)]
def qK{n j:Nat}{l:List Si}(h:j<l.length):(fM n j l).set j (mn n l[j])=fM n (j+1) l:=by
 unfold fM;have e1:((l.take j).map (mn n)).length=j:=by simp;omega
 have e2:l.drop j=l[j]::l.drop (j+1):=jt h;rw[List.set_append_right _ _ (by omega),e1,Nat.sub_self,e2,List.set_cons_zero,Vn h,fw];simp
def U0.JP{l:List Nd}{rs:List Rm}{Z0 J:al}{iw:Nat}{s:WS}(hJ:U0 l rs Z0 iw s J){va vf:V}{h0:Int}(w:J iw=some ⟨172,7,[.agg [va,vf,vI h0,vI s.P'.y,vI s.P'.m,aQ l,cV rs]]⟩)(h:Int):
 U0 l rs Z0 iw { s with R1:=h } (C' J iw ⟨172,7,[.agg [va,vf,vI h,vI s.P'.y,vI s.P'.m,aQ l,cV rs]]⟩):=by
 obtain⟨va',vf',w',g1,g2,g3⟩:=hJ.row;rw[w]at w';simp only[bh,Ob.mk.injEq,List.cons.injEq,V.agg.injEq,true_and,and_true]at w';obtain⟨rfl,rfl,_⟩:=w';exact⟨hJ.sub.aL hJ.no,hJ.no,va,vf,aA,g1.BE,g2.BE,g3⟩
def KM{l:List Nd}{rs:List Rm}{Z0 U:al}{iw:Nat}{s:WS}{C:Nat}(hJ:U0 l rs Z0 iw s U)(hI:fQ s C)(hC:C<=100000):
 aG prog 114 [.ptr iw 0 0] U λr Z'=>r=.Sa []/\U0 l rs Z0 iw s.fin Z':=by
 obtain⟨va,vf,w1,Zr,X7,hf2⟩:=hJ.row;obtain⟨ca,sa⟩:=Zr.vc;obtain⟨cf,sf⟩:=X7.vc;have hB:=hI.bd;have hm:=hB.m1;have Yw:=hB.m0;have ZO:=hB.y0;have hyB:=hB.yB;have hfl:=hI.fl;have Xd:=hI.SI;have TZ:eM false va=some (.int .i64 s.atoms.length):=by rw[Zr.len];simp
 have Yy:eM false vf=some (.int .i64 s.g'.length):=by rw[X7.len];simp
 refine Pz.q ?_;refine mS 5 ?_;simp only[go_sem,seval,Mt,w1,ca,cf,aC,ab];refine pS rfl (Ew s.P' ⟨by omega,by omega⟩ ⟨by omega,by omega⟩ _) ?_;simp only[go_sem,seval,w1,ca,cf,aC,ab];have ZR:=hJ.JP w1 (s.P'.y+s.P'.m);have w2:=aA (U:=U) (id:=iw) (o:=⟨172,7,[.agg [va,vf,vI (s.P'.y+s.P'.m),vI s.P'.y,vI s.P'.m,aQ l,cV rs]]⟩);have hf3:=X7.BE (o:=⟨172,7,[.agg [va,vf,vI (s.P'.y+s.P'.m),vI s.P'.y,vI s.P'.m,aQ l,cV rs]]⟩);generalize C' U iw ⟨172,7,[.agg [va,vf,vI (s.P'.y+s.P'.m),vI s.P'.y,vI s.P'.m,aQ l,cV rs]]⟩=Y2 at*;refine pR rfl (aX.tf (args':=[bj s.g',vI 3]) ⟨hf3.ye.at,UM _,trivial⟩ (AX s.g' 3 (by omega) (hB.flo (by omega))) rfl) ?_;cases XJ:(cF (gk 3) s.g').2
 .have hh:vy s=s.P'.y+s.P'.m:=by unfold vy;rw[XJ];rfl
  apply sR;simp only[go_sem,seval,w2,ca,cf,Yy,aC,ab];have hJ3:U0 l rs Z0 iw { s with R1:=vy s } Y2:=by rw[hh];exact ZR
  refine ay.loop (λm st=>∃j:Nat,j<=s.g'.length/\m=s.g'.length-j/\U0 l rs Z0 iw { s with R1:=vy s,g':=fM s.atoms.length j s.g' } st.U/\st.s 0=.ptr iw 0 0/\st.s 40=vI s.g'.length/\st.s 41=vI j) s.g'.length ?_ ?_
  .exact⟨0,by omega,rfl,by simpa[fM]using hJ3,rfl,rfl,rfl⟩
  .rintro m ⟨S,J⟩ ⟨j,hj,rfl,UN,t0,t40,t41⟩;simp only at UN t0 t40 t41;refine ay.mix 5 ?_;by_cases u':j<s.g'.length
   .have q:=qT u';obtain⟨va4,vf4,w4,g1,g2,g3⟩:=UN.row;simp only at w4 g1 g2 g3;obtain⟨ca4,_⟩:=g1.vc;have hla4:eM false va4=some (.int .i64 s.atoms.length):=by rw[g1.len];simp
    have VB:=kB s.atoms.length j s.g';rcases g2 with⟨_,h0⟩|⟨id,rfl,h2,h3⟩
    .exfalso;have:=congrArg List.length h0;rw[dO,VB]at this;simp only[List.length_nil]at this;omega
    have Ua:=rE (n:=s.atoms.length) u';have We:=qK (n:=s.atoms.length) u';have V3:((fM s.atoms.length j s.g').map br)[j]?=some (br s.g'[j]):=by rw[tg,Ua];rfl
    have XQ:((fM s.atoms.length j s.g').map br).length=s.g'.length:=by rw[dO,VB]
    have L':∀n,n=s.g'.length->bI J 7 (.own id 0 n) (.int .i64 j)=some (.ptr id j 0):=λn hn=>by subst hn;rw[<-XQ];exact kj h2 (by rw[XQ];exact u')
    generalize hfj:s.g'[j]=f at*;have X8:br f=.agg [vI f.node,vI f.side,vI f.anchor,vI f.x,vI f.y,vI f.w,vI f.h]:=rfl;rw[X8]at V3;have r1:Sn .i64 ((s.atoms.length:Int)-1):=ar;have r2:=rI j;have cf4:(V.own id 0 s.g'.length).cells=[.own id 0 s.g'.length]:=rfl;rw[XQ]at w4;apply sR;simp only[go_sem,seval,t0,t40,t41,q,w4,ca4,cf4,hla4,h2,L' _ rfl,V3,r1,r2,cj,eP,aC,ab];have Sh:iw≠id:=(bk.1 h3).1.symm;have Zs:=kB s.atoms.length (j+1) s.g';refine⟨_,by omega,j+1,by omega,rfl,⟨UN.sub.aL (bk.1 h3).2,UN.no,va4,.own id 0 s.g'.length,by rw[ad Sh];exact w4,?_,.inr ⟨id,by rw[dO,Zs],?_,h3⟩,λh=>?_⟩,rfl⟩
    .rcases g1 with h|⟨i1,k1,k2,k3⟩
     .exact .inl h
     .have hne1:i1≠id:=λe=>by rw[e,h2]at k2;simp at k2
      exact .inr ⟨i1,k1,by rw[ad hne1];exact k2,k3⟩
    .rw[aA,<-We,List.map_set];rfl
    .have:=congrArg List.length h;rw[Zs]at this;simp only[List.length_nil]at this;omega
   .have q:=qF u';apply sR;simp only[go_sem,seval,t0,t40,t41,q];refine Tf ⟨rfl,?_⟩;have he:fM s.atoms.length j s.g'=s.g'.map (mn s.atoms.length):=by
     unfold fM;rw[qq (by omega),List.drop_of_length_le (by omega),kr]
    rw[he]at UN;exact UN
 .have hh:vy s=max (s.P'.y+s.P'.m) (cF (gk 3) s.g').1:=by unfold vy;rw[XJ];rfl
  generalize (cF (gk 3) s.g').1=low at*;apply sR;simp only[go_sem,seval,w2,ca,cf,Yy,cj,aC,ab];have hJ3:=ZR.JP w2 (max (s.P'.y+s.P'.m) low);simp only at hJ3;rw[<-hh]at hJ3|-;refine ay.loop (λm st=>∃j:Nat,j<=s.g'.length/\m=s.g'.length-j/\U0 l rs Z0 iw { s with R1:=vy s,g':=fM s.atoms.length j s.g' } st.U/\st.s 0=.ptr iw 0 0/\st.s 40=vI s.g'.length/\st.s 41=vI j) s.g'.length ?_ ?_
  .exact⟨0,by omega,rfl,by simpa[fM]using hJ3,rfl,rfl,rfl⟩
  .rintro m ⟨S,J⟩ ⟨j,hj,rfl,UN,t0,t40,t41⟩;simp only at UN t0 t40 t41;refine ay.mix 5 ?_;by_cases u':j<s.g'.length
   .have q:=qT u';obtain⟨va4,vf4,w4,g1,g2,g3⟩:=UN.row;simp only at w4 g1 g2 g3;obtain⟨ca4,_⟩:=g1.vc;have hla4:eM false va4=some (.int .i64 s.atoms.length):=by rw[g1.len];simp
    have VB:=kB s.atoms.length j s.g';rcases g2 with⟨_,h0⟩|⟨id,rfl,h2,h3⟩
    .exfalso;have:=congrArg List.length h0;rw[dO,VB]at this;simp only[List.length_nil]at this;omega
    have Ua:=rE (n:=s.atoms.length) u';have We:=qK (n:=s.atoms.length) u';have V3:((fM s.atoms.length j s.g').map br)[j]?=some (br s.g'[j]):=by rw[tg,Ua];rfl
    have XQ:((fM s.atoms.length j s.g').map br).length=s.g'.length:=by rw[dO,VB]
    have L':∀n,n=s.g'.length->bI J 7 (.own id 0 n) (.int .i64 j)=some (.ptr id j 0):=λn hn=>by subst hn;rw[<-XQ];exact kj h2 (by rw[XQ];exact u')
    generalize hfj:s.g'[j]=f at*;have X8:br f=.agg [vI f.node,vI f.side,vI f.anchor,vI f.x,vI f.y,vI f.w,vI f.h]:=rfl;rw[X8]at V3;have r1:Sn .i64 ((s.atoms.length:Int)-1):=ar;have r2:=rI j;have cf4:(V.own id 0 s.g'.length).cells=[.own id 0 s.g'.length]:=rfl;rw[XQ]at w4;apply sR;simp only[go_sem,seval,t0,t40,t41,q,w4,ca4,cf4,hla4,h2,L' _ rfl,V3,r1,r2,cj,eP,aC,ab];have Sh:iw≠id:=(bk.1 h3).1.symm;have Zs:=kB s.atoms.length (j+1) s.g';refine⟨_,by omega,j+1,by omega,rfl,⟨UN.sub.aL (bk.1 h3).2,UN.no,va4,.own id 0 s.g'.length,by rw[ad Sh];exact w4,?_,.inr ⟨id,by rw[dO,Zs],?_,h3⟩,λh=>?_⟩,rfl⟩
    .rcases g1 with h|⟨i1,k1,k2,k3⟩
     .exact .inl h
     .have hne1:i1≠id:=λe=>by rw[e,h2]at k2;simp at k2
      exact .inr ⟨i1,k1,by rw[ad hne1];exact k2,k3⟩
    .rw[aA,<-We,List.map_set];rfl
    .have:=congrArg List.length h;rw[Zs]at this;simp only[List.length_nil]at this;omega
   .have q:=qF u';apply sR;simp only[go_sem,seval,t0,t40,t41,q];refine Tf ⟨rfl,?_⟩;have he:fM s.atoms.length j s.g'=s.g'.map (mn s.atoms.length):=by
     unfold fM;rw[qq (by omega),List.drop_of_length_le (by omega),kr]
    rw[he]at UN;exact UN
open Go.Proofs
structure Gal where
 atoms:List Tk
 g':List Si
 R1:Int
def GQ(g:Gal):V:=.agg [bL g.atoms,bj g.g',vI g.R1]
def cG(l:List Nd)(w:Int):List Rm:=dt l l.length 0 l.length ⟨0,w⟩
def Lo(l:List Nd)(w:Int):WS:=(cZ l (cG l w) l.length 0 l.length ⟨[],[],0,⟨0,0⟩⟩).fin
def cS(l:List Nd)(w:Int):Gal:=⟨(Lo l w).atoms,(Lo l w).g',(Lo l w).R1⟩
def oh{l:List Nd}(hb:SA l=true):∀(k a e:Nat) (r:Rm),e<=l.length->bE l a e=true->r.ok->∀q∈dt l k a e r,q.ok
 |0,_,_,_,_,_,_,q,hq=>by simp[dt]at hq
 |k+1,a,e,r,he,hr,Se,q,hq=>by
  rw[dt]at hq;split at hq
  .rename_i u';obtain⟨h1,h2⟩:=cc he hr (SD a) u';obtain⟨h3,h4⟩:=cQ he hr u';rcases ew.1 hq with rfl|hq
   .exact Se
   .rcases gl.1 hq with hq|hq
    .obtain⟨g1,g2,_⟩:=Hy hb (a:=a) (by omega);exact oh hb k _ _ _ (by omega) h4 (xB Se (by rw[g1];exact g2)) q hq
    .exact oh hb k _ _ _ he h3 Se q hq
  .cases hq
def nU{l:List Nd}(hb:SA l=true)(hn:l.length<=2000){w:Int}(h1:1<=w)(h2:w<=1099511627776):ZP l (cG l w):=by
 have hr:bE l 0 l.length=true:=by simp only[SA,Ba]at hb;exact hb.2
 exact⟨hn,hb,by unfold cG;rw[jC (SD _) _ _ _ (by omega) (by omega) hr];omega,oh hb _ _ _ _ (SD _) hr ⟨by simp,by simp,h1,h2⟩⟩
def Lg(U:al)(l:List Nd)(hl:dN l)(hb:SA l=true)(hn:l.length<=2000)(hwl:∀n∈l,n.words.length<=10000)(hc:SP l 0 l.length<=50000)(hck:aX prog 75 [aQ l] (vI 0))(w:Int)(h1:1<=w)(h2:w<=1099511627776):
 aG prog 81 [aQ l,vI w] U λr Z'=>aa U Z'/\∃va vf,r=.Sa [.agg [va,vf,vI (cS l w).R1],vI 0]/\aP U Z' 66 8 va ((cS l w).atoms.map bC)/\aP U Z' 137 7 vf ((cS l w).g'.map br):=by
 refine e81.q ?_;have hs:=aa.refl U;have hD:=nU hb hn h1 h2;have hr:bE l 0 l.length=true:=by simp only[SA,Ba]at hb;exact hb.2
 refine mS 8 ?_;simp only[go_sem,seval,c81];refine aE hs λi4 Z4 s4 a4 f4 z4 hs=>?_;have hmay:=ry w;rw[show decide (1<=w/\w<=1099511627776)=true by simp;omega]at hmay;simp only[go_sem,seval];refine pR rfl (hmay _) ?_;have qz:((0:Int)≠0)=False:=H' (λh=>h rfl);apply sR;simp only[go_sem,seval];refine pS rfl (hck _) ?_;simp only[go_sem,seval,qz];refine pR rfl (IU l hl hb w h1 h2 _) ?_;have hrm:dt l l.length 0 l.length ⟨0,w⟩=cG l w:=rfl;rw[hrm];apply sR;simp only[go_sem,seval,ab,ai,aC,yr];refine aF λi23 Z23 s23 a23 f23=>?_;have hJ:U0 l (cG l w) Z4 i23 ⟨[],[],0,⟨0,0⟩⟩ Z23:=⟨s23,f23,.bl,.bl,a23,aP.start,aP.start,λ_=>rfl⟩
 have hI:fQ ⟨[],[],0,⟨0,0⟩⟩ 0:=⟨⟨by simp,by simp,by simp,by simp,by simp⟩,by simp,by simp⟩
 have hn0:=bT l;simp only[go_sem,seval,hn0];have TH:=Lu hD hwl (l.length+1) 0 l.length 0 (by omega) (by omega) (SD _) hr (by omega) _ _ _ hJ hI;refine TX rfl TH ?_;rintro r Z5 ⟨rfl,Yx⟩;have hI5:=gT hD (l.length-0) 0 l.length ⟨[],[],0,⟨0,0⟩⟩ 0 (by omega) (by omega) (SD _) hr hI;apply sR;simp only[go_sem,seval];refine TX rfl (KM Yx hI5 (by omega)) ?_;rintro r Z6 ⟨rfl,hJ6⟩;have hgl:cS l w=⟨(cZ l (cG l w) (l.length-0) 0 l.length ⟨[],[],0,⟨0,0⟩⟩).fin.atoms,(cZ l (cG l w) (l.length-0) 0 l.length ⟨[],[],0,⟨0,0⟩⟩).fin.g',(cZ l (cG l w) (l.length-0) 0 l.length ⟨[],[],0,⟨0,0⟩⟩).fin.R1⟩:=rfl;rw[hgl];generalize (cZ l (cG l w) (l.length-0) 0 l.length ⟨[],[],0,⟨0,0⟩⟩).fin=s at*;obtain⟨va,vf,w6,g1,g2,_⟩:=hJ6.row;obtain⟨ca,sa⟩:=g1.vc;obtain⟨cf,sf⟩:=g2.vc;have b4:=hJ6.sub _ _ a4;have n423:=bf a4 f23;apply sR;simp only[go_sem,seval,w6,b4,ca,sa,cf,sf,aC,ab,ad n423];have hK:aa U (cA Z4 i23):=λi o h=>by
  rw[cA,aK (λe=>by rw[e,hs.none f23]at h;cases h)];exact hs _ _ h
 have key:∀{e sz:Nat} {v:V} {rows:List V} {o:Ob},aP (cA Z4 i23) Z6 e sz v rows->aP (cA Z4 i23) (C' Z6 i4 o) e sz v rows:=λ{e sz v rows o} h=>by
  rcases h with h|⟨id,k1,k2,k3⟩
  .exact .inl h
  .exact .inr ⟨id,k1,by rw[ad (λe=>by rw[e]at k3;rw[(bk.1 k3).2]at a4;cases a4)];exact k2,k3⟩
 have SO:∀o,aa U (C' Z6 i4 o):=λo=>(hs.trans hJ6.sub).aL z4;have lk:∀{e sz:Nat} {v:V} {rows:List V} {J:al},aP (cA Z4 i23) J e sz v rows->aP U J e sz v rows:=λh=>h.imp (λh=>h) λ⟨i,h1,h2,h3⟩=>⟨i,h1,h2,hK.none h3⟩
 exact Tf ⟨SO _,va,vf,rfl,lk (key g1),lk (key g2)⟩
open Go.Proofs
def tG(node:Int):List Int->Nat
 |[]=>0
 |x::r=>if x=node then tG node r+1 else 0
def JJ(node:Int):∀l,tG node l<=l.length
 |[]=>by simp[tG]
 |x::r=>by
  rw[tG];split
  .have:=JJ node r;simp only[Uf];omega
  .simp
def mH(of:List Int)(fr:Nat)(node:Int):Nat:=tG node (of.drop fr)
def xC(of:List Int)(fr:Nat)(node:Int):mH of fr node<=of.length-fr:=by
 have:=JJ node (of.drop fr);rw[D5]at this;exact this
def okN(x:Nd)(n:Nat):Bool:=if x.kind=2 then decide (1<=n/\n<=x.words.length)else if x.kind=3 then decide (n=1)else decide (n=0)
def AD(of:List Int):List Nd->Nat->Nat->Bool
 |[],_,SI=>decide (SI=of.length)
 |x::r,i,SI=>okN x (mH of SI i)&&AD of r (i+1) (SI+mH of SI i)
def qL(l:List Nd)(of:List Int):Bool:=AD of l 0 0
def oP(l:List Nd)(of:List Int):V:=.agg [aQ l,aZ of]
def nY(l:List Nd)(of:List Int):(oP l of).cells=[aQ l,aZ of]:=rfl
def nV(l:List Nd)(of:List Int):(oP l of).stays=true:=rfl
def IG(l:List Nd)(of:List Int)(hn:of.length<=1000000)(fr:Nat)(hf:fr<=of.length)(node:Int):aX prog 182 [oP l of,vI fr,vI node] (vI (mH of fr node)):=λU=>by
 refine PB.q ?_;have hs:=aa.refl U;have hl:=dz of;have htl:=xC of fr node;refine mS 8 ?_;simp only[go_sem,seval,MM,nY,nV,ab,ag,ak,ai];refine aE hs λi3 Z3 s3 a3 f3 z3 hs=>?_;have a3':Z3 i3=some ⟨220,2,[.agg [aQ l,aZ of]]⟩:=a3;simp only[go_sem,seval];refine ay.loop (λm st=>∃j:Nat,fr+j<=of.length/\m=of.length-(fr+j)/\mH of fr node=j+tG node (of.drop (fr+j))/\st.U=Z3/\st.s 1=vI fr/\st.s 2=vI node/\st.s 3=.ptr i3 0 0/\st.s 7=vI j) (of.length-fr) ?_ ?_
 .exact⟨0,by omega,by omega,by simp[mH],rfl,rfl,rfl,rfl,rfl⟩
 .rintro m ⟨S,J⟩ ⟨j,hj,rfl,ht,Su,t1,t2,t3,t7⟩;simp only at Su t1 t2 t3 t7;subst Su;refine ay.mix 8 ?_;have hjj:(fr:Int)+(j:Int)=((fr+j:Nat):Int):=by omega
  have r1:Sn .i64 ((fr:Int)+j):=ar;have r2:=rI j;by_cases u':fr+j<of.length
  .have q:(((fr+j:Nat):Int)<of.length)=True:=RX;have R0:=λU=>dH (U:=U) u';rw[jt u',tG]at ht;generalize of[fr+j]=x at*;rw[hjj]at r1;by_cases hx:x=node
   .rw[aI hx]at ht;have q2:(x=node)=True:=RX hx;apply sR;simp only[go_sem,seval,t1,t2,t3,t7,a3',hl,hjj,q,q2,R0,r1,r2,ab,ag];exact⟨_,by omega,j+1,by omega,rfl,by rw[ht,show fr+(j+1)=fr+j+1 by omega];omega,by simp[t1,t2,t3]⟩
   .rw[aK hx]at ht;have q2:(x=node)=False:=H' hx;apply sR;simp only[go_sem,seval,t1,t2,t3,t7,a3',hl,hjj,q,q2,R0,r1,r2,ab,ag];exact aD.pure hs (by rw[ht];simp)
  .have q:(((fr+j:Nat):Int)<of.length)=False:=H';rw[List.drop_of_length_le (by omega),tG]at ht;rw[hjj]at r1;apply sR;simp only[go_sem,seval,t1,t2,t3,t7,a3',hl,hjj,q,r1,r2,ab,ag];exact aD.pure hs (by rw[ht];simp)
def Mo(l:List Nd)(hll:l.length<=100000)(of:List Int)(hn:of.length<=1000000)(hm:qL l of=true):aX prog 150 [oP l of] (.bool true):=λU=>by
 refine QE.q ?_;have hs:=aa.refl U;have hl:=dz of;have T9:=bT l;refine mS 7 ?_;simp only[go_sem,seval,NK,nY,nV,ab,ag,ak,ai];refine aE hs λi1 Z1 s1 a1 f1 z1 hs=>?_;have a1':Z1 i1=some ⟨220,2,[.agg [aQ l,aZ of]]⟩:=a1;simp only[go_sem,seval,a1',T9,ab,ag];refine ay.loop (λm st=>∃(i SI:Nat),i<=l.length/\m=l.length-i/\SI<=of.length/\AD of (l.drop i) i SI=true/\aa Z1 st.U/\st.s 1=.ptr i1 0 0/\st.s 3=vI SI/\st.s 8=aQ l/\st.s 9=vI l.length/\st.s 10=vI i) l.length ?_ ?_
 .exact⟨0,0,by omega,rfl,by omega,by simpa[qL]using hm,aa.refl _,rfl,rfl,rfl,rfl,rfl⟩
 .rintro m ⟨S,J⟩ ⟨i,SI,hi,rfl,U7,YG,G',t1,t3,t8,t9,t10⟩;simp only at G' t1 t3 t8 t9 t10;refine ay.mix 7 ?_;have b1:=G' _ _ a1';by_cases u':i<l.length
  .have q:=qT u';have R0:=iM l u';rw[jt u',AD,Ba]at YG;obtain⟨Se,YG⟩:=YG;have htl:=xC of SI i;have htc:=IG l of hn SI U7 i;generalize mH of SI i=n at*;generalize l[i]=x at*;apply sR;simp only[go_sem,seval,t1,t3,t8,t9,t10,q,R0,Nd.cells];refine aF λi5 Z5 s5 a5 f5=>?_;have c1:=s5 _ _ b1;have n15:=bf b1 f5;simp only[go_sem,seval,a5,c1,t1,t3,t8,t9,t10,ad n15,ab,ag,ak];refine pR rfl (htc _) ?_;have hwl:eM false (aZ x.words)=some (.int .i64 x.words.length):=dz _;have r1:=rI i;have r2:Sn .i64 ((SI:Int)+n):=ar;have q5:((SI:Int)+n)=((SI+n:Nat):Int):=by omega
   rw[q5]at r2;unfold okN at Se;by_cases k2:x.kind=2
   .rw[aI k2]at Se;simp only[US]at Se;have p1:((n:Int)<1)=False:=H';have p2:((n:Int)>x.words.length)=False:=H';have p0:(x.kind=2)=True:=RX k2;apply sR;simp only[go_sem,seval,t1,t3,t8,t9,t10,c1,ad n15,p0,p1,p2,hwl,r1,r2,q5,ag,ak];exact⟨_,by omega,i+1,SI+n,by omega,rfl,by omega,YG,G'.trans (s5.aL f5),by simp[t1,t8,t9]⟩
   .rw[aK k2]at Se;have p0:(x.kind=2)=False:=H' k2;by_cases k3:x.kind=3
    .rw[aI k3]at Se;simp only[US]at Se;have p3:(x.kind=3)=True:=RX k3;have p1:((n:Int)≠1)=False:=H';apply sR;simp only[go_sem,seval,t1,t3,t8,t9,t10,c1,ad n15,p0,p3,p1,r1,r2,q5,ag,ak];exact⟨_,by omega,i+1,SI+n,by omega,rfl,by omega,YG,G'.trans (s5.aL f5),by simp[t1,t8,t9]⟩
    .rw[aK k3]at Se;simp only[US]at Se;have p3:(x.kind=3)=False:=H' k3;have p1:((n:Int)>0)=False:=H';apply sR;simp only[go_sem,seval,t1,t3,t8,t9,t10,c1,ad n15,p0,p3,p1,r1,r2,q5,ag,ak];exact⟨_,by omega,i+1,SI+n,by omega,rfl,by omega,YG,G'.trans (s5.aL f5),by simp[t1,t8,t9]⟩
  .have q:=qF u';rw[List.drop_of_length_le (by omega),AD,US]at YG;have q2:((SI:Int)=of.length)=True:=RX;apply sR;simp only[go_sem,seval,t1,t3,t8,t9,t10,q,b1,hl,q2,ab,ag];exact aD.pure (hs.trans G') rfl
def pW(l:List Nd)(hf:dN l)(hb:SA l=true)(of:List Int)(hn:of.length<=1000000)(hm:qL l of=true):aX prog 115 [aQ l,aZ of] (vI 0):=λU=>by
 refine Q0.q ?_;have hv:=C9 l hf;rw[hb]at hv;have hl1:=hf.1;refine mS 5 ?_;simp only[go_sem,seval,NY];refine pS rfl (hv _) ?_;simp only[go_sem,seval,ab,ag,ak,ai];refine pS rfl (Mo l (by omega) of hn hm _) ?_;simp only[go_sem,seval];exact aD.same rfl
open Go.Proofs
def uF(l:List Nd)(a b:Int):Bool:=decide (a<=b/\b<a+R7 l a.toNat)
def Hc(l:List Nd)(hb:SA l=true)(hn:l.length<=100000)(a:Nat)(ha:a<l.length)(b:Int)(h0:0<=b)(h1:b<=1000000):aX prog 231 [aQ l,vI a,vI b] (.bool (uF l a b)):=λU=>by
 refine Q3.q ?_;have R0:=iM l ha;have TU:=ix ha;have hsb:=qO hb ha;refine ay.mix 7 ?_;unfold uF;rw[gM,TU];rw[TU]at hsb;by_cases h:(a:Int)<=b
 .have q:((a:Int)<=b)=True:=RX h;have r1:Sn .i64 ((a:Int)+l[a].size):=ar;apply sR;simp only[go_sem,seval,Kk,q,R0,Nd.cells,r1];exact aD.same (by simp[h])
 .have q:((a:Int)<=b)=False:=H' h;apply sR;simp only[go_sem,seval,Kk,q];exact aD.same (by simp[h])
def X9(l:List Nd)(of:List Int)(b k:Int):Bool:=if 0<=k/\k<of.length then uF l b (of.getD k.toNat 0)else false
def Bv(l:List Nd)(hb:SA l=true)(hn:l.length<=100000)(of:List Int)(SY:of.length<=1000000)(SR:∀x∈of,0<=x/\x<l.length)(b:Nat)(Tu:b<l.length)(k:Int){U:al}{i4 i9:Nat}(h4:U i4=some ⟨57,1,[aZ of]⟩)(h9:U i9=some ⟨220,2,[oP l of]⟩):
 aG prog 230 [vI b,vI k,.ptr i4 0 0,.ptr i9 0 0] U λr Z'=>r=.bool (X9 l of b k)/\Z'=U:=by
 refine RM.q ?_;have hl:=dz of;rw[oP]at h9;refine ay.mix 7 ?_;unfold X9;by_cases Wh:0<=k
 .have q0:(k>=0)=True:=RX Wh;obtain⟨j,rfl⟩:∃j:Nat,k=j:=⟨k.toNat,by omega⟩
  by_cases Tt:(j:Int)<of.length
  .have q1:((j:Int)<of.length)=True:=RX Tt;have U3:j<of.length:=by omega
   have R0:=λU=>dH (U:=U) U3;have hx:=SR _ (SU U3);have VK:of.getD j 0=of[j]:=by simp[U3]
   rw[aI ⟨Wh,Tt⟩,gM,VK];apply sR;simp only[go_sem,seval,Jh,q0,q1,h4,h9,hl,R0,ab,ag];refine pJ rfl (Hc l hb hn b Tu of[j] hx.1 (by omega)) ?_;apply sG;simp only[go_sem,seval];exact aD.same rfl
  .have q1:((j:Int)<of.length)=False:=H' Tt;rw[aK (λh=>Tt h.2)];apply sR;simp only[go_sem,seval,Jh,q0,q1,h4,h9,hl,ab,ag];exact aD.same rfl
 .have q0:(k>=0)=False:=H' Wh;rw[aK (λh=>Wh h.1)];apply sR;simp only[go_sem,seval,Jh,q0];exact aD.same rfl
structure BH(l:List Nd)(of:List Int)(k:Int)(i4 i5 i9 i10:Nat)(U:al):Prop where
 r4:U i4=some ⟨57,1,[aZ of]⟩
 r5:U i5=some ⟨3,1,[vI k]⟩
 r9:U i9=some ⟨220,2,[oP l of]⟩
 YM:U i10=some ⟨223,1,[.fn 230 [.ptr i4 0 0,.ptr i9 0 0]]⟩
def BH.mono{l:List Nd}{of:List Int}{k:Int}{i4 i5 i9 i10:Nat}{U J:al}(h:BH l of k i4 i5 i9 i10 U)(hs:aa U J):BH l of k i4 i5 i9 i10 J:=⟨hs _ _ h.r4,hs _ _ h.r5,hs _ _ h.r9,hs _ _ h.YM⟩
def KZ(l:List Nd)(hb:SA l=true)(hn:l.length<=100000)(of:List Int)(SY:of.length<=1000000)(SR:∀x∈of,0<=x/\x<l.length)(b:Nat)(Tu:b<l.length)(k:Int){U:al}{i4 i5 i9 i10:Nat}(h:BH l of k i4 i5 i9 i10 U):
 aG prog 233 [vI b,.ptr i10 0 0,.ptr i5 0 0] U λr Z'=>r=.bool (!X9 l of b k)/\Z'=U:=by
 refine Qc.q ?_;have r5:=h.r5;have YM:=h.YM;refine mS 5 ?_;simp only[go_sem,seval,NT,r5,YM];refine pS rfl (Bv l hb hn of SY SR b Tu k h.r4 h.r9) ?_;simp only[go_sem,seval];exact aD.same rfl
def Le(l:List Nd)(hb:SA l=true)(hn:l.length<=100000)(of:List Int)(SY:of.length<=1000000)(SR:∀x∈of,0<=x/\x<l.length)(b:Nat)(Tu:b<l.length)(k:Int)(Wh:0<=k)(Tt:k<=1000000){U:al}{i4 i5 i9 i10:Nat}(h:BH l of k i4 i5 i9 i10 U):
 aG prog 234 [vI b,.ptr i10 0 0,.ptr i5 0 0] U λr Z'=>r=.bool (!X9 l of b (k-1))/\Z'=U:=by
 refine RT.q ?_;have r5:=h.r5;have YM:=h.YM;have r1:Sn .i64 (k-1):=ar;refine mS 5 ?_;simp only[go_sem,seval,Ow,r5,YM,r1];refine pS rfl (Bv l hb hn of SY SR b Tu (k-1) h.r4 h.r9) ?_;simp only[go_sem,seval];exact aD.same rfl
def Kl(l:List Nd)(hb:SA l=true)(hn:l.length<=100000)(of:List Int)(SY:of.length<=1000000)(SR:∀x∈of,0<=x/\x<l.length)(b:Nat)(Tu:b<l.length)(k:Int)(Wh:0<=k)(Tt:k<=1000000){U:al}{i4 i5 i9 i10:Nat}(h:BH l of k i4 i5 i9 i10 U):
 aG prog 236 [vI b,.ptr i10 0 0,.ptr i5 0 0] U λr Z'=>r=.bool (X9 l of b (k-1))/\Z'=U:=by
 refine Ro.q ?_;have r5:=h.r5;have YM:=h.YM;have r1:Sn .i64 (k-1):=ar;refine mS 5 ?_;simp only[go_sem,seval,Ok,r5,YM,r1];refine pS rfl (Bv l hb hn of SY SR b Tu (k-1) h.r4 h.r9) ?_;simp only[go_sem,seval];exact aD.same rfl
def Ah(l:List Nd)(hl:dN l)(hb:SA l=true)(hn:l.length<=100000)(a:Nat)(ha:a<l.length):Iter prog 249 [.rp (aQ l),.rp (vI a)] ((XH l a).map λn=>[vI n]):=by
 refine⟨OJ.c,λSL τ Jx Z0 hy hJ=>?_⟩;refine(OJ.q ?_).2;have VT:=zQ l hl hb hn a ha;have Xd:=kW l (l.length+1) (dq l a);have e0:(XH l a).length<=l.length+1:=Xd;have hlen:=dz (XH l a);generalize XH l a=L at*;have ldA:∀U,dr U false 1 (.rp (aQ l))=some (aQ l):=λU=>rfl;have ldB:∀U (n:Int),dr U false 1 (.rp (vI n))=some (vI n):=λU n=>rfl;refine mS 6 ?_;simp only[go_sem,seval,MF,ldA,ldB];refine pS rfl (VT _) ?_;simp only[go_sem,seval,hlen];refine ay.loop (λm st=>∃(j:Nat) (ZJ:al),j<=L.length/\m=L.length-j/\τ ((L.take j).map λn=>[vI n]) ZJ/\aa ZJ st.U/\st.s 0=.yl SL/\st.s 8=aZ L/\st.s 9=vI L.length/\st.s 10=vI j) L.length ?_ ?_
 .exact⟨0,Z0,by omega,rfl,by simpa using hJ,aa.refl _,rfl,rfl,rfl,rfl⟩
 .rintro m ⟨S,J⟩ ⟨j,ZJ,hj,rfl,UN,G',t0,t8,t9,t10⟩;simp only at G' t0 t8 t9 t10;refine ay.mix 6 ?_;by_cases u':j<L.length
  .have q:=qT u';have R0:=λU=>dH (U:=U) u';have SB:L.take (j+1)=L.take j++[L[j]]:=Vn u';have e:(L.map λn=>[vI n])=((L.take j).map λn=>[vI n])++[vI L[j]]::((L.drop (j+1)).map λn=>[vI n]):=by
    have e0':L=L.take j++L[j]::L.drop (j+1):=by rw[<-jt u',Bb]
    have:=congrArg (List.map λn=>[vI n]) e0'
    rwa [fw,ga]at this
   generalize L[j]=x at*;have r1:=rI j;apply sR;simp only[go_sem,seval,t0,t8,t9,t10,q,R0];refine ay.qc (Post:=λb Z2=>∃SN,bF ZJ J SN Z2/\((b=true/\τ (((L.take j).map λn=>[vI n])++[[vI x]]) SN)\/(b=false/\Jx (((L.take j).map λn=>[vI n])++[[vI x]]) SN))) rfl rfl rfl (hy _ [vI x] _ ZJ J e UN G') ?_;rintro b Z2 ⟨SN,UQ,Uo⟩;rcases Uo with⟨rfl,Uo⟩|⟨rfl,Uo⟩
   .apply sR;simp only[go_sem,seval,t0,t8,t9,t10,r1];refine⟨_,?_,j+1,SN,by omega,rfl,by rw[SB];simpa using Uo,UQ.1,by simp[t0,t8,t9]⟩;omega
   .apply sR;simp only[go_sem,seval,t0];refine⟨_,SN,UQ.1,Wk.refl UQ.1 _,.inr ⟨_,?_,Uo⟩⟩;rw[e];exact⟨(L.drop (j+1)).map λn=>[vI n],by simp⟩
  .have q:=qF u';rw[qq (by omega)]at UN;apply sR;simp only[go_sem,seval,t0,t8,t9,t10,q];exact⟨_,ZJ,G',Wk.refl G' _,.inl UN⟩
def FI(l:List Nd)(a:Int):aX prog 246 [aQ l,vI a] (.fn 249 [.rp (aQ l),.rp (vI a)]):=λU=>by
 refine PS.q ?_;refine ay.mix 4 ?_;have q1:=ab l;have q2:=ai l;generalize aQ l=x at*;apply sR;simp only[go_sem,seval,O6,q1,q2];refine aF λVY Z1 s1 a1 f1=>?_;simp only[go_sem,seval];refine aF λXu Z2 s2 a2 f2=>?_;simp only[go_sem,seval];exact⟨_,U,s1.trans s2,Wk.fn (vs':=[.rp x,.rp (vI a)]) ⟨Wk.ptr (s1.trans s2) (s2 _ _ a1) f1,Wk.ptr (s1.trans s2) a2 (s1.none f2),trivial⟩,rfl,rfl⟩
open Go.Proofs
def Wy(l:List Nd)(of:List Int)(k:Int)(p:Int->Bool):List Int:=if 0<=k/\k<of.length then(XH l (of.getD k.toNat 0).toNat).filter p else[]
def yk{l:List Nd}{a:Nat}(ha:a<l.length):∀x∈XH l a,∃n:Nat,x=n/\n<a:=λx hx=>by
 have:=G2 l _ _ x hx;have h2:=ez l a;exact⟨x.toNat,by omega,by omega⟩
def qU{p:Int->Bool}{L:List Int}{j:Nat}{x:Int}(h:L[j]?=some x):(L.take (j+1)).filter p=(L.take j).filter p++if p x then[x]else[]:=by
 rw[Kw,h,List.filter_append];cases hp:p x<;>simp[hp]
def tX(l:List Nd)(hl:dN l)(hb:SA l=true)(hn:l.length<=100000)(of:List Int)(SY:of.length<=1000000)(SR:∀x∈of,0<=x/\x<l.length)(k:Int)(g:FuncId)(caps:List V)(p:Int->Bool){U:al}
 (hg:∀b:Nat,b<l.length->∀J,aa U J->aG prog g (vI b::caps) J λr Z'=>r=.bool (p b)/\Z'=J):
 aG prog 232 [oP l of,vI k,.fn g caps] U λr Z'=>aa U Z'/\aP U Z' 3 1 r ((Wy l of k p).map vI)/\(Wy l of k p=[]->r=.bl):=by
 refine Qh.q ?_;have hs:=aa.refl U;have S1:=dz of;refine mS 9 ?_;simp only[go_sem,seval,Mv,nY,nV,ab,ag,ak,ai];refine aE hs λi3 Z3 s3 a3 f3 z3 hs=>?_;simp only[go_sem,seval];refine aE hs λi5 Z5 s5 a5 f5 z5 hs=>?_;obtain⟨ZI,a3⟩:=RZ a3 f5 s5;have a3':Z5 i3=some ⟨220,2,[.agg [aQ l,aZ of]]⟩:=a3;by_cases Wh:k<0
 .have q0:(k<0)=True:=RX Wh;have hc:Wy l of k p=[]:=by unfold Wy;rw[aK (by omega)]
  simp only[go_sem,seval,q0];rw[hc];exact Tf ⟨hs,aP.start,λ_=>rfl⟩
 have q0:(k<0)=False:=H' Wh;obtain⟨j,rfl⟩:∃j:Nat,k=j:=⟨k.toNat,by omega⟩
 by_cases Tt:(j:Int)>=of.length
 .have q1:((j:Int)>=of.length)=True:=RX Tt;have hc:Wy l of j p=[]:=by unfold Wy;rw[aK (by omega)]
  simp only[go_sem,seval,q0,a3',S1,q1,ab,ag];rw[hc];exact Tf ⟨hs,aP.start,λ_=>rfl⟩
 have q1:((j:Int)>=of.length)=False:=H' Tt;have U3:j<of.length:=by omega
 have R0:=λU=>dH (U:=U) U3;obtain⟨hx0,hx1⟩:=SR _ (SU U3);have VK:of.getD j 0=of[j]:=by simp[U3]
 have hc:Wy l of j p=(XH l of[j].toNat).filter p:=by unfold Wy;rw[aI ⟨by omega,by omega⟩,gM,VK]
 rw[hc];simp only[go_sem,seval,q0,a3',S1,q1,ab,ag];refine aF λi7 Z7 s7 a7 f7=>?_;have b3:=s7 _ _ a3';have b5:=s7 _ _ a5;simp only[go_sem,seval,b3,R0,ab,ag];obtain⟨x,hx⟩:∃x:Nat,of[j]=x:=⟨of[j].toNat,by omega⟩
 rw[hx]at hx1|-;refine pR rfl (FI l x _) ?_;have YH:=Ah l hl hb hn x (by omega);have hrg:=yk (l:=l) (a:=x) (by omega);have hlL:(XH l x).length<=l.length+1:=kW _ _ _;rw[gM];generalize XH l x=L at*;apply sR;simp only[go_sem,seval];generalize hS:mix 9 _ _=S;have S5:S 5=.ptr i5 0 0:=by rw[<-hS];rfl
 have S7:S 7=.ptr i7 0 0:=by rw[<-hS];rfl
 have S25:S 25=.fn 249 [.rp (aQ l),.rp (vI x)]:=by rw[<-hS];rfl
 clear hS;refine ay.gX (g:=.t 25) (caps:=[.rp (aQ l),.rp (vI x)]) S25 YH (λy hy=>?_) [] (λpre ZJ=>∃v,ZJ i7=some ⟨57,1,[v]⟩/\aa Z5 ZJ/\aP (cA Z5 i7) ZJ 3 1 v (((L.take pre.length).filter p).map vI)/\((L.take pre.length).filter p=[]->v=.bl))
  (λ_ _ _=>False) ?_ ?_ ?_ ?_ ?_
 .obtain⟨t,_,rfl⟩:=iE.1 hy;rfl
 .exact⟨.bl,a7,s7,by simpa using aP.start,λ_=>rfl⟩
 .rintro pre y post ZJ ZB Vt ⟨v,J7,Js,Jo,Jn⟩ G';obtain⟨t,hti,rfl⟩:=yh (f:=vI) Vt;obtain⟨tn,rfl,htn⟩:=hrg t (F0 hti);have SB:=qU (p:=p) hti;have hlen:(pre++[[vI (tn:Int)]]).length=pre.length+1:=by simp
  rw[hlen,SB];have UG:(((L.take pre.length).filter p).map vI).length<=1000001:=by
   rw[dO];have:=List.length_filter_le p (L.take pre.length);rw[mf]at this;omega
  have XG:v.cells=[v]:=by rcases Jo with⟨rfl,_⟩|⟨_,rfl,_⟩<;>rfl
  generalize Sx:(((L.take pre.length).filter p).map vI)=rows at*;have c7:=G' _ _ J7;have c5:=G' _ _ (Js _ _ a5);generalize U8:pI S [26] [vI (tn:Int)]=S0;have T5:S0 5=.ptr i5 0 0:=by rw[<-U8];exact S5
  have T7:S0 7=.ptr i7 0 0:=by rw[<-U8];exact S7
  have T26:S0 26=vI (tn:Int):=by rw[<-U8];rfl
  clear U8;refine mS 9 ?_;simp only[go_sem,seval,T5,T7,T26];apply sR;simp only[go_sem,seval,T5,T7,T26,c5];refine pR rfl (hg tn (by omega) _ ((hs.trans Js).trans G')) ?_;cases hp:p (tn:Int)
  .apply sR;simp only[go_sem,seval];refine⟨_,bF.refl G',v,J7,Js,?_,by simpa using Jn⟩;simpa[Sx]using Jo
  .apply sR;simp only[go_sem,seval,T5,T7,T26,c7,XG];rw[aH];intro V2 f28;have Zq:=(bF.refl G').Jm (o:=⟨3,1,[vI (tn:Int)]⟩) f28;have y2:C' ZB V2 ⟨3,1,[vI (tn:Int)]⟩ i7=some ⟨57,1,[v]⟩:=by rw[ad (bf c7 f28)];exact c7
   have a28:C' ZB V2 ⟨3,1,[vI (tn:Int)]⟩ V2=some ⟨3,1,[vI (tn:Int)]⟩:=aA;generalize C' ZB V2 ⟨3,1,[vI (tn:Int)]⟩=Z8 at*;obtain⟨idA,Ta,ZF⟩:=Jo.HF Zq.1;have SF:(rows.length+1)*9<=140737488355328:=by omega
   have k2:cA Z5 i7 i7≠none:=λh=>(bk.1 h).1 rfl;have ZM:∀(i:Nat) (Zx:al),cA Z5 i7 i≠none->Vc.bW Zx idA i=Zx i:=λi Zx hk=>by
    cases idA with
    |none=>rfl
    |some a=>exact eV (λe=>hk (by rw[e];exact(ZF a rfl).1))
   simp only[go_sem,seval,Ta,bR a28,SF,T7];rw[aH];intro Uq f29;have f29:Z8 Uq=none:=f29;have m29:i7≠Uq:=bf y2 f29;have f29':Vc.bW Z8 idA Uq=none:=by
    cases idA with
    |none=>exact f29
    |some a=>simp only[Vc.bW,del];split<;>first|rfl|exact f29
   have y2':C' (Vc.bW Z8 idA) Uq ⟨3,1,rows++[vI (tn:Int)]⟩ i7=some ⟨57,1,[v]⟩:=by rw[ad m29,ZM _ _ k2];exact y2
   have hB9:=((Zq.KW (e:=idA) λi h=>(ZF i h).2).new (o:=⟨3,1,rows++[vI (tn:Int)]⟩) f29').set (id:=i7) (o:=⟨57,1,[v]⟩) (o':=⟨57,1,[.own Uq 0 (rows.length+1)]⟩) (by rw[ad m29,ZM _ _ k2];exact J7);simp only[go_sem,seval,XG,y2',T7];refine⟨_,hB9,.own Uq 0 (rows.length+1),aA,?_,?_,λh=>by simp at h⟩
   .refine aa.aL (λi o h=>?_) f7;have h1:=Js _ _ h;rw[ad (bf (Zq.1 _ _ h1) f29),ZM _ _ (λhk=>by rw[(bk.1 hk).2]at h;cases h)];exact h1
   .rw[fw,Sx];refine aP.new (by simp) (by rw[ad m29.symm,aA];rfl) ?_;rw[bk];refine⟨m29.symm,?_⟩;cases h:Z5 Uq with
    |none=>rfl
    |some o=>rw[Zq.1 _ _ (Js _ _ h)]at f29;cases f29
 .rintro Z' ⟨v,J7,Js,Jo,Jn⟩;rw[dO,iC]at Jo Jn;have XG:v.cells=[v]:=by rcases Jo with⟨rfl,_⟩|⟨_,rfl,_⟩<;>rfl
  refine mS 9 ?_;simp only[go_sem,seval,S7,J7,XG];refine Tf ⟨hs.trans Js,?_,Jn⟩;rcases Jo with h|⟨id,h1,h2,h3⟩
  .exact .inl h
  .exact .inr ⟨id,h1,h2,hs.none (bk.1 h3).2⟩
 .intro id h;cases h
 .rintro pre Z' _ ⟨⟩
open Go.Proofs
def swp(L:List Int)(i j:Nat):List Int:=(L.set i (L.getD j 0)).set j (L.getD i 0)
def lj(L:List Int):Nat->List Int
 |0=>L
 |t+1=>swp (lj L t) t (L.length-1-t)
def lY(L:List Int):∀t,(lj L t).length=L.length
 |0=>rfl
 |t+1=>by simp[lj,swp,lY L t]
def AZ(L:List Int):∀(t:Nat),2*t<=L.length->∀i,i<L.length->(lj L t)[i]?=if i<t\/L.length-t<=i then L[L.length-1-i]? else L[i]?
 |0,_,i,hi=>by rw[lj,aK (by omega)]
 |t+1,ht,i,hi=>by
  have ih:=λi hi=>AZ L t (by omega) i hi;have hl:=lY L t;have e1:(lj L t).getD t 0=L.getD t 0:=by
   rw[yd,yd,ih t (by omega),aK (by omega)]
  have e2:(lj L t).getD (L.length-1-t) 0=L.getD (L.length-1-t) 0:=by
   rw[yd,yd,ih _ (by omega),aK (by omega)]
  rw[lj,swp,e1,e2,List.getElem?_set,List.getElem?_set,List.length_set,hl];have g:∀k,k<L.length->some (L.getD k 0)=L[k]?:=λk hk=>by simp[hk]
  by_cases h1:L.length-1-t=i
  .rw[aI h1,aI (by omega),aI (by omega),g t (by omega)];congr 1;omega
  .rw[aK h1];by_cases h2:t=i
   .rw[aI h2,aI (by omega),aI (by omega),g _ (by omega)];congr 1;omega
   .rw[aK h2,ih i hi];by_cases h3:i<t\/L.length-t<=i
    .rw[aI h3,aI (by omega)]
    .rw[aK h3,aK (by omega)]
def E5(L:List Int){t:Nat}(h1:2*t<=L.length)(h2:L.length<=2*t+1):lj L t=L.reverse:=by
 apply List.ext_getElem?;intro i;by_cases hi:i<L.length
 .rw[AZ L t h1 i hi,List.getElem?_reverse hi];split
  .rfl
  .congr 1;omega
 .rw[tm (by rw[lY];omega),tm (by simp;omega)]
def D6(L:List Int)(hL:L.length<=1000000){K U:al}{v:V}(hv:aP K U 3 1 v (L.map vI))(Sh:L=[]->v=.bl):
 aG prog 235 [v] U λr Z'=>r=.Sa []/\aP K Z' 3 1 v (L.reverse.map vI)/\∀i o,U i=some o->(o.elem≠3\/K i≠none)->Z' i=some o:=by
 refine QJ.q ?_;refine ay.mix 5 ?_;rcases hv with⟨rfl,h0⟩|⟨id,rfl,h2,h3⟩
 .obtain rfl:L=[]:=by simpa using h0
  apply sR;simp only[go_sem,seval,KD];refine⟨ar,?_⟩;refine ay.loop (λm st=>st.U=U/\st.s 2=vI 0/\∃z:Int,st.s 3=vI z/\z<0) 0 ?_ ?_
  .refine⟨rfl,rfl,_,rfl,?_⟩;simp
  .rintro m ⟨S,J⟩ ⟨Su,t2,z,t3,hz⟩;simp only at Su t2 t3;subst Su;refine ay.mix 5 ?_;have q:((0:Int)<z)=False:=H';apply sR;simp only[go_sem,seval,t2,t3,q];exact Tf ⟨rfl,.inl ⟨rfl,rfl⟩,λi o h _=>h⟩
 .have hn:0<L.length:=Bi.2 λe=>by have:=Sh e;cases this
  have UF:(L.map vI).length=L.length:=by simp
  have r1:Sn .i64 ((L.length:Int)-1):=ar;apply sR;simp only[go_sem,seval,KD,UF,r1];refine ay.loop (λm st=>∃t:Nat,2*t<=L.length/\m=L.length-t/\st.U id=some ⟨3,1,(lj L t).map vI⟩/\(∀i,i≠id->st.U i=U i)/\st.s 0=.own id 0 L.length/\st.s 2=vI t/\∃z:Int,st.s 3=vI z/\z=(L.length:Int)-1-t) L.length ?_ ?_
  .exact⟨0,by omega,by omega,h2,λ_ _=>rfl,rfl,rfl,_,rfl,by simp⟩
  .rintro m ⟨S,J⟩ ⟨t,ht,rfl,g1,g2,t0,t2,z,t3,rfl⟩;simp only at g1 g2 t0 t2 t3;refine ay.mix 5 ?_;have XQ:((lj L t).map vI).length=L.length:=by rw[dO,lY]
   by_cases u':(t:Int)<(L.length:Int)-1-t
   .have q:((t:Int)<(L.length:Int)-1-t)=True:=RX u';have hj:((L.length:Int)-1-t)=((L.length-1-t:Nat):Int):=by omega
    obtain⟨j,hjj⟩:∃j,j=L.length-1-t:=⟨_,rfl⟩
    rw[hj,<-hjj]at t3 q;have hti:t<(lj L t).length:=by rw[lY];omega
    have Ui:j<(lj L t).length:=by rw[lY];omega
    have i1:∀n,n=L.length->bI J 1 (.own id 0 n) (.int .i64 t)=some (.ptr id t 0):=λn hn=>by subst hn;rw[<-XQ];exact kj g1 (by rw[XQ];omega)
    have i2:∀n,n=L.length->bI J 1 (.own id 0 n) (.int .i64 j)=some (.ptr id j 0):=λn hn=>by subst hn;rw[<-XQ];exact kj g1 (by rw[XQ];omega)
    have v1:((lj L t).map vI)[t]?=some (vI ((lj L t).getD t 0)):=by simp[hti]
    have v2:((lj L t).map vI)[j]?=some (vI ((lj L t).getD j 0)):=by simp[Ui]
    have i3:∀a n,n=L.length->bI (C' J id ⟨3,1,((lj L t).map vI).set t a⟩) 1 (.own id 0 n) (.int .i64 j)=some (.ptr id j 0):=λa n hn=>by
     have e:n=(((lj L t).map vI).set t a).length:=by rw[List.length_set,XQ,hn]
     rw[e];exact kj aA (by rw[List.length_set,XQ];omega)
    have v3:∀a,(((lj L t).map vI).set t a)[j]?=some (vI ((lj L t).getD j 0)):=λa=>by rw[List.getElem?_set_ne (by omega)];exact v2
    have r4:=rI t;have r5:Sn .i64 ((j:Int)-1):=ar;apply sR;simp only[go_sem,seval,t0,t2,t3,q,g1,i1 _ rfl,i2 _ rfl,i3 _ _ rfl,v1,v2,v3,r4,r5];refine⟨_,?_,t+1,by omega,rfl,?_,λi hi=>?_,by simp[t0],_,rfl,by omega⟩
    .omega
    .simp only[lj,swp,List.map_set];rw[hjj]
    .rw[ad hi];exact g2 i hi
   .have q:((t:Int)<(L.length:Int)-1-t)=False:=H' u';apply sR;simp only[go_sem,seval,t0,t2,t3,q];have hr:=E5 L ht (by omega);rw[hr]at g1;refine Tf ⟨rfl,.inr ⟨id,by simp,g1,h3⟩,λi o h hio=>?_⟩;rw[g2 i (λe=>by subst e;rw[h2]at h;injection h with h;subst h;rcases hio with h|h;exact h rfl;exact h h3)]
    exact h
open Go.Proofs
structure Kn where
 (ends Uc both:List Int)
 text:Int
def gI(x:Kn):V:=.agg [aZ x.ends,aZ x.Uc,aZ x.both,vI x.text]
def cE(l:List Nd)(of:List Int)(k:Nat):Kn:=
 ⟨Wy l of ((k:Int)-1) (λb=>!X9 l of b k),(Wy l of k (λb=>!X9 l of b ((k:Int)-1))).reverse,Wy l of k (λb=>X9 l of b ((k:Int)-1)),
  if 0<k/\k<of.length/\of.getD k 0=of.getD (k-1) 0 then of.getD k 0 else -1⟩
structure KR(l:List Nd)(of:List Int)(k:Int)(i4 i5 i6 i9 i10 i11:Nat)(v:V)(Z0 U:al):Prop where
 ask:BH l of k i4 i5 i9 i10 U
 r6:U i6=some ⟨240,4,[.agg [.bl,.bl,.bl,vI 0]]⟩
 r11:U i11=some ⟨240,4,[v]⟩
 sub:aa Z0 U
 no:Z0 i11=none
 ne:i4≠i11/\i5≠i11/\i6≠i11/\i9≠i11/\i10≠i11
def KR.mono{l:List Nd}{of:List Int}{k:Int}{i4 i5 i6 i9 i10 i11:Nat}{v:V}{Z0 U J:al}(h:KR l of k i4 i5 i6 i9 i10 i11 v Z0 U)(hs:aa U J):KR l of k i4 i5 i6 i9 i10 i11 v Z0 J:=
 ⟨h.ask.mono hs,hs _ _ h.r6,hs _ _ h.r11,h.sub.trans hs,h.no,h.ne⟩
def KR.put{l:List Nd}{of:List Int}{k:Int}{i4 i5 i6 i9 i10 i11:Nat}{v w:V}{Z0 U:al}(h:KR l of k i4 i5 i6 i9 i10 i11 v Z0 U):KR l of k i4 i5 i6 i9 i10 i11 w Z0 (C' U i11 ⟨240,4,[w]⟩):=by
 obtain⟨n1,n2,n3,n4,n5⟩:=h.ne;exact⟨⟨by rw[ad n1];exact h.ask.r4,by rw[ad n2];exact h.ask.r5,by rw[ad n4];exact h.ask.r9,by rw[ad n5];exact h.ask.YM⟩,by rw[ad n3];exact h.r6,aA,h.sub.aL h.no,h.no,h.ne⟩
def Cu(l:List Nd)(hl:dN l)(hb:SA l=true)(of:List Int)(SY:of.length<=1000000)(SR:∀x∈of,0<=x/\x<l.length)(hm:qL l of=true)(k:Nat)(hk:k<=of.length):
 aX prog 211 [aQ l,aZ of,vI k] (.Sa [gI (cE l of k),vI 0]):=λU=>by
 refine RJ.q ?_;have hs:=aa.refl U;have S1:=dz of;have hn:l.length<=100000:=by have:=hl.1;omega
 refine mS 12 ?_;simp only[go_sem,seval,N6,ab,ag,ak,ai];refine aE hs λi4 Z4 s4 a4 f4 z4 hs=>?_;simp only[go_sem,seval];refine aE hs λi5 Z5 s5 a5 f5 z5 hs=>?_;obtain⟨Ww,a4⟩:=RZ a4 f5 s5;simp only[go_sem,seval];refine aE hs λi6 Z6 s6 a6 f6 z6 hs=>?_;obtain⟨ZL,a4⟩:=RZ a4 f6 s6;obtain⟨n56,a5⟩:=RZ a5 f6 s6;simp only[go_sem,seval,a4,a5,a6,ab,ag,ak];refine pR rfl (pW l hl hb of SY hm _) ?_;have q0:((0:Int)≠0)=False:=H' (λh=>h rfl);have q1:((k:Int)<0)=False:=H';have q2:((k:Int)>of.length)=False:=H';apply sR;simp only[go_sem,seval,q0,q1,q2,a4,a5,a6,S1,ab,ag,ak,ai];refine aE hs λi9 Y9 s9 a9 f9 z9 hs=>?_;obtain⟨Xe,a4⟩:=RZ a4 f9 s9;obtain⟨Wz,a5⟩:=RZ a5 f9 s9;obtain⟨Yp,a6⟩:=RZ a6 f9 s9;simp only[go_sem,seval,a9,a4,a5,a6,ab,ag,ak,ai];generalize Tb:C' _ i9 _=Z9;replace a9:=Ti Tb;replace a4:=So Tb Xe a4;replace a5:=So Tb Wz a5;replace a6:=So Tb Yp a6;replace hs:=Te Tb hs z9;have hnf:V.TG.cells=[.TG]:=rfl;refine aE hs λi10 XV TN Sb f10 UH hs=>?_;obtain⟨Vw,a4⟩:=RZ a4 f10 TN;obtain⟨n510,a5⟩:=RZ a5 f10 TN;obtain⟨VH,a6⟩:=RZ a6 f10 TN;obtain⟨Vi,a9⟩:=RZ a9 f10 TN;simp only[go_sem,seval,Sb,hnf];generalize Ss:C' _ i10 _=Y10;replace Sb:=Ti Ss;replace a4:=So Ss Vw a4;replace a5:=So Ss n510 a5;replace a6:=So Ss VH a6;replace a9:=So Ss Vi a9;replace hs:=Te Ss hs UH;refine aE hs λi11 Yq Vq Ts f11 YK hs=>?_;obtain⟨Yz,a4⟩:=RZ a4 f11 Vq;obtain⟨Zt,a5⟩:=RZ a5 f11 Vq;obtain⟨Ud,a6⟩:=RZ a6 f11 Vq;obtain⟨XK,a9⟩:=RZ a9 f11 Vq;obtain⟨Ug,Sb⟩:=RZ Sb f11 Vq;simp only[go_sem,seval,Ts,Sb,a9,a5,a4,ad Yz,ad Zt,ad Ud,ad XK,ad Ug,ab,ag];generalize TD:C' _ i11 _=Y11;replace Ts:=Ti TD;replace a4:=So TD Yz a4;replace a5:=So TD Zt a5;replace a6:=So TD Ud a6;replace a9:=So TD XK a9;replace Sb:=So TD Ug Sb;replace hs:=Te TD hs YK;have hK:KR l of k i4 i5 i6 i9 i10 i11 (.agg [.bl,.bl,.bl,vI (-1)]) U Y11:=⟨⟨a4,a5,a9,Sb⟩,a6,Ts,hs,YK,Yz,Zt,Ud,XK,Ug⟩
 clear hs a4 a5 a6 a9 Sb Ts;generalize Y11=J at*;have hZ11:=hK.r11;have hZs:=hK.sub;refine⟨ar,?_⟩;refine TX rfl (tX l hl hb hn of SY SR ((k:Int)-1) 233 [.ptr i10 0 0,.ptr i5 0 0] (λb=>!X9 l of b k) (λb Tu X' hτ=>KZ l hb hn of SY SR b Tu k (hK.ask.mono hτ))) ?_;rintro v0 Z1 ⟨s1,o0,_⟩;have hK1:=hK.mono s1;clear hK s1;obtain⟨cv0,sv0⟩:=o0.vc;have c11:=hK1.r11;have c9:=hK1.ask.r9;have c5:=hK1.ask.r5;rw[oP]at c9;apply sR;simp only[go_sem,seval,c11,c9,c5,cv0,sv0,ad XK,ad Zt,ab,ag];have hK2:=hK1.put (w:=.agg [v0,.bl,.bl,vI (-1)]);have o0':aP (cA U i11) (C' Z1 i11 ⟨240,4,[.agg [v0,.bl,.bl,vI (-1)]]⟩) 3 1 v0 ((Wy l of ((k:Int)-1) (λb=>!X9 l of b k)).map vI):=by
  rcases o0 with h|⟨id,g1,g2,g3⟩
  .exact .inl h
  .have g3:J id=none:=g3;have Sh:id≠i11:=λe=>by rw[e,hZ11]at g3;cases g3
   exact .inr ⟨id,g1,by rw[ad Sh];exact g2,bk.2 ⟨Sh,hZs.none g3⟩⟩
 generalize C' Z1 i11 ⟨240,4,[.agg [v0,.bl,.bl,vI (-1)]]⟩=Y2 at*;refine TX rfl (tX l hl hb hn of SY SR k 234 [.ptr i10 0 0,.ptr i5 0 0] (λb=>!X9 l of b ((k:Int)-1)) (λb Tu X' hτ=>Le l hb hn of SY SR b Tu k (by omega) (by omega) (hK2.ask.mono hτ))) ?_;rintro v1 Z3 ⟨s3,o1,n1⟩;have hK3:=hK2.mono s3;have o03:=o0'.mono s3;obtain⟨cv1,sv1⟩:=o1.vc;have d11:=hK3.r11;have x11:=hK2.r11;apply sR;simp only[go_sem,seval,d11,cv0,sv0,cv1,sv1];have hK4:=hK3.put (w:=.agg [v0,v1,.bl,vI (-1)]);have push:∀{K Zx:al} {v:V} {rows:List V} {o:Ob},K i11≠none->aP K Zx 3 1 v rows->aP K (C' Zx i11 o) 3 1 v rows:=λ{K Zx v rows o} hk h=>by
  rcases h with h|⟨id,g1,g2,g3⟩
  .exact .inl h
  .exact .inr ⟨id,g1,by rw[ad (λe=>by rw[e]at g3;exact hk g3)];exact g2,g3⟩
 have kk:cA U i11 i11≠none:=λh=>(bk.1 h).1 rfl;have o1':aP Y2 Z3 3 1 v1 _:=o1;have o04:=push (o:=⟨240,4,[.agg [v0,v1,.bl,vI (-1)]]⟩) kk o03;have o14:=push (o:=⟨240,4,[.agg [v0,v1,.bl,vI (-1)]]⟩) (by rw[x11];simp) o1';generalize C' Z3 i11 ⟨240,4,[.agg [v0,v1,.bl,vI (-1)]]⟩=Y4 at*;have Tr:∀kk p,(Wy l of kk p).length<=1000000:=λkk p=>by
  unfold Wy;split
  .have h1:=List.length_filter_le p (XH l (of.getD kk.toNat 0).toNat);have h2:=kW l (l.length+1) (dq l (of.getD kk.toNat 0).toNat);have h3:(XH l (of.getD kk.toNat 0).toNat).length<=l.length+1:=h2;omega
  .simp
 refine TX rfl (D6 _ (Tr _ _) o14 n1) ?_;rintro r Z5 ⟨rfl,o15,UC⟩;have y5:=hK2.ask.r5;have hK5:KR l of k i4 i5 i6 i9 i10 i11 (.agg [v0,v1,.bl,vI (-1)]) U Z5:=
  ⟨⟨UC _ _ hK4.ask.r4 (.inl (by simp)),UC _ _ hK4.ask.r5 (.inr (by rw[y5];simp)),UC _ _ hK4.ask.r9 (.inl (by simp)),UC _ _ hK4.ask.YM (.inl (by simp))⟩,UC _ _ hK4.r6 (.inl (by simp)),UC _ _ hK4.r11 (.inl (by simp)),
    λi o h=>UC _ _ (hK4.sub _ _ h) (.inr (by rw[hK2.sub _ _ h];simp)),hK4.no,hK4.ne⟩
 have o05:aP (cA U i11) Z5 3 1 v0 ((Wy l of ((k:Int)-1) (λb=>!X9 l of b k)).map vI):=by
  rcases o0' with h|⟨id,g1,g2,g3⟩
  .exact .inl h
  .rcases o04 with⟨e,_⟩|⟨UA,e1,e2,_⟩
   .rw[g1]at e;cases e
   .rw[g1]at e1;injection e1 with e1 _ _
    subst e1;exact .inr ⟨id,g1,UC _ _ e2 (.inr (by rw[g2];simp)),g3⟩
 have e9:=hK5.ask.r9;have e5:=hK5.ask.r5;have e11:=hK5.r11;rw[oP]at e9;apply sR;simp only[go_sem,seval,e9,e5,e11,ab,ag];refine TX rfl (tX l hl hb hn of SY SR k 236 [.ptr i10 0 0,.ptr i5 0 0] (λb=>X9 l of b ((k:Int)-1)) (λb Tu X' hτ=>Kl l hb hn of SY SR b Tu k (by omega) (by omega) (hK5.ask.mono hτ))) ?_;rintro v2 Z6 ⟨s6,o2,_⟩;have hK6:=hK5.mono s6;have o06:=o05.mono s6;have o16:=o15.mono s6;have o2':aP Z5 Z6 3 1 v2 _:=o2;obtain⟨cv2,sv2⟩:=o2.vc;have f11:=hK6.r11;have f4:=hK6.ask.r4;have f5:=hK6.ask.r5;have f6:=hK6.r6;have Ya:∀{K:al} {J:al} {v:V} {rows x:List V} {i:Nat} {o:Ob},J i=some ⟨240,4,x⟩->aP K J 3 1 v rows->aP K (C' J i o) 3 1 v rows:=λ{K J v rows x i o} hi h=>by
  rcases h with h|⟨id,g1,g2,g3⟩
  .exact .inl h
  .refine .inr ⟨id,g1,?_,g3⟩;rw[ad (λe=>by rw[e,hi]at g2;cases g2)];exact g2
 have hsK1:aa U (cA U i11):=λi o h=>by rw[cA,aK (λe=>by rw[e,hK6.no]at h;cases h)];exact h
 have fin:∀(t:Int) (o:Ob),t=(cE l of k).text->aD (.Sa [.agg [v0,v1,v2,vI t],vI 0]) (C' (C' Z6 i11 ⟨240,4,[.agg [v0,v1,v2,vI t]]⟩) i6 o) λr Z'=>r=.Sa [gI (cE l of k),vI 0]/\Z'=U:=by
  intro t o ht;have g6:=f6;rw[<-ad (U:=Z6) (o:=⟨240,4,[.agg [v0,v1,v2,vI t]]⟩) Ud]at g6;have p0:=Ya (o:=o) g6 (Ya (o:=⟨240,4,[.agg [v0,v1,v2,vI t]]⟩) f11 o06);have p1:=Ya (o:=o) g6 (Ya (o:=⟨240,4,[.agg [v0,v1,v2,vI t]]⟩) f11 o16);have p2:=Ya (o:=o) g6 (Ya (o:=⟨240,4,[.agg [v0,v1,v2,vI t]]⟩) f11 o2');have Sg:=((hK6.sub.aL (o:=⟨240,4,[.agg [v0,v1,v2,vI t]]⟩) hK6.no)).aL (o:=o) z6;refine⟨_,U,Sg,Wk.Sa (vs':=[gI (cE l of k),vI 0]) ⟨Wk.agg (vs':=[aZ (cE l of k).ends,aZ (cE l of k).Uc,aZ (cE l of k).both,vI (cE l of k).text]) ⟨p0.wk hsK1 Sg,p1.wk hK2.sub Sg,p2.wk hK5.sub Sg,by rw[<-ht];exact Wk.refl Sg _,trivial⟩,Wk.refl Sg _,trivial⟩,rfl,rfl⟩
 rcases Nat.eq_zero_or_pos k with rfl|h0
 .have q3:((((0:Nat):Int))>0)=False:=H';have ft:=fin (-1);apply sR;simp only[go_sem,seval,f11,f4,f5,f6,cv0,sv0,cv1,sv1,cv2,sv2,ad Yz,ad Zt,ad Ud,ad XK,ad Ug,q3,ab,ag,ak,ai];exact fin _ _ (by simp[cE])
 have q3:((k:Int)>0)=True:=RX;by_cases h1:k<of.length
 .have q4:=qT h1;have q5:=ar (m:=((k-1:Nat):Int)) (by omega) (by omega);have q6:((k:Int)-1)=((k-1:Nat):Int):=by omega
  have q7:=λU=>dH (U:=U) h1;have q8:=λU=>dH (U:=U) (l:=of) (i:=k-1) (by omega);have g1:of.getD k 0=of[k]:=by simp[h1]
  have g2:of.getD (k-1) 0=of[k-1]:=by have:k-1<of.length:=by omega
                                      simp[this]
  by_cases h2:of.getD k 0=of.getD (k-1) 0
  .have q9:(of[k]=of[k-1])=True:=RX (by rw[<-g1,<-g2];exact h2);apply sR;simp only[go_sem,seval,f11,f4,f5,f6,cv0,sv0,cv1,sv1,cv2,sv2,ad Yz,ad Zt,ad Ud,ad XK,ad Ug,q3,q4,q5,q6,q7,q8,q9,S1,ab,ag,ak,ai];exact fin _ _ (by simp only[cE];rw[aI ⟨h0,h1,h2⟩,g1])
  .have q9:(of[k]=of[k-1])=False:=H' (by rw[<-g1,<-g2];exact h2);apply sR;simp only[go_sem,seval,f11,f4,f5,f6,cv0,sv0,cv1,sv1,cv2,sv2,ad Yz,ad Zt,ad Ud,ad XK,ad Ug,q3,q4,q5,q6,q7,q8,q9,S1,ab,ag,ak,ai];exact fin _ _ (by simp only[cE];rw[aK (λh=>h2 h.2.2)])
 .have q4:=qF h1;apply sR;simp only[go_sem,seval,f11,f4,f5,f6,cv0,sv0,cv1,sv1,cv2,sv2,ad Yz,ad Zt,ad Ud,ad XK,ad Ug,q3,q4,S1,ab,ag,ak,ai];exact fin _ _ (by simp only[cE];rw[aK (λh=>h1 h.2.1)])
open Go.Proofs
def Uy(l:List Nd)(b:Int):TA:=((l[b.toNat]?).map Nd.st).getD TA.zero
def iG(l:List Nd)(b:Int):List Int:=(if 0<(Uy l b).head then[2]else[])++[(Uy l b).before]
def zl(l:List Nd)(x:Kn):List Int:=x.ends.map (λb=>(Uy l b).after)++x.Uc.flatMap (iG l)
def gG{l:List Nd}{b:Nat}(h:b<l.length):Uy l b=l[b].st:=by simp[Uy,h]
def BS(l:List Nd)(x:Kn)(hE:x.ends.length<=1000000)(hB:x.Uc.length<=1000000)(he:∀b∈x.ends,∃n:Nat,b=n/\n<l.length)(hb:∀b∈x.Uc,∃n:Nat,b=n/\n<l.length):
 Iter prog 237 [.rp (gI x),.rp (aQ l)] ((zl l x).map λn=>[vI n]):=by
 refine⟨L3.c,λSL τ Jx Z0 hy hJ=>?_⟩;refine(L3.q ?_).2;obtain⟨E,B,C,tx⟩:=x;simp only at hE hB he hb;have hlE:=dz E;have hlB:=dz B;have ldI:∀(U:al) (X:List Int),dr U false 1 (.rp (aZ X))=some (aZ X):=λU X=>rfl;have ldN:∀U:al,dr U false 1 (.rp (aQ l))=some (aQ l):=λU=>rfl;generalize hT:(zl l ⟨E,B,C,tx⟩).map (λn=>[vI n])=T at hy|-;refine mS 9 ?_;simp only[go_sem,seval,OL,gI,ldI,hlE,ag,ak];refine ay.kY (λst=>∃(ZJ:al),τ ((E.map λb=>(Uy l b).after).map λn=>[vI n]) ZJ/\aa ZJ st.U/\st.s 0=.yl SL/\st.s 1=.rp (gI ⟨E,B,C,tx⟩)/\st.s 2=.rp (aQ l))
  (λm st=>∃(j:Nat) (ZJ:al),j<=E.length/\m=E.length-j/\τ (((E.take j).map λb=>(Uy l b).after).map λn=>[vI n]) ZJ/\aa ZJ st.U/\st.s 0=.yl SL/\st.s 1=.rp (gI ⟨E,B,C,tx⟩)/\st.s 2=.rp (aQ l)/\st.s 10=aZ E/\st.s 11=vI E.length/\st.s 12=vI j) E.length ?_ ?_ ?_
 .exact⟨0,Z0,by omega,rfl,by simpa using hJ,aa.refl _,rfl,rfl,rfl,rfl,rfl,rfl⟩
 .rintro m ⟨S,J⟩ ⟨j,ZJ,hj,rfl,UN,G',t0,t1,t2,t10,t11,t12⟩;simp only at G' t0 t1 t2 t10 t11 t12;refine ay.mix 9 ?_;by_cases u':j<E.length
  .have q:=qT u';have R0:=λU=>dH (U:=U) u';have SB:E.take (j+1)=E.take j++[E[j]]:=Vn u';obtain⟨b,WU,Tu⟩:=he _ (SU u');have e0':E=E.take j++E[j]::E.drop (j+1):=by rw[<-jt u',Bb]
   have e:T=(((E.take j).map λb=>(Uy l b).after).map λn=>[vI n])++[vI l[b].st.after]::((((E.drop (j+1)).map λb=>(Uy l b).after)++B.flatMap (iG l)).map λn=>[vI n]):=by
    rw[<-hT,zl]
    conv=>lhs;rw[e0']
    simp[WU,gG Tu]
   rw[WU]at R0 SB;have Th:=λU=>bN (U:=U) (l:=l) (a:=b) Tu;have r1:=rI j;apply sR;simp only[go_sem,seval,t0,t1,t2,t10,t11,t12,q,R0,ldN,Th,Nd.cells];refine ay.qc (Post:=λb' Z2=>∃SN,bF ZJ J SN Z2/\((b'=true/\τ ((((E.take j).map λb=>(Uy l b).after).map λn=>[vI n])++[[vI l[b].st.after]]) SN)\/(b'=false/\Jx ((((E.take j).map λb=>(Uy l b).after).map λn=>[vI n])++[[vI l[b].st.after]]) SN))) rfl rfl rfl (hy _ [vI l[b].st.after] _ ZJ J e UN G') ?_;rintro b' Z2 ⟨SN,UQ,Uo⟩;rcases Uo with⟨rfl,Uo⟩|⟨rfl,Uo⟩
   .apply sR;simp only[go_sem,seval,t0,t1,t2,t10,t11,t12,r1];refine⟨_,?_,j+1,SN,by omega,rfl,by rw[SB];simpa[gG Tu]using Uo,UQ.1,by simp[t0,t1,t2,t10,t11]⟩;omega
   .apply sR;simp only[go_sem,seval,t0,t1,t2,t10,t11,t12];exact⟨_,SN,UQ.1,Wk.refl UQ.1 _,.inr ⟨_,⟨_,by rw[e,mY];rfl⟩,Uo⟩⟩
  .have q:=qF u';rw[qq (by omega)]at UN;apply sR;simp only[go_sem,seval,t0,t1,t2,t10,t11,t12,q];exact⟨ZJ,UN,G'⟩
 .rintro⟨S,J⟩ ⟨ZJ,UN,G',t0,t1,t2⟩;simp only at G' t0 t1 t2;generalize hP:((E.map λb=>(Uy l b).after).map λn=>[vI n])=P1 at*;refine mS 9 ?_;simp only[go_sem,seval,t0,t1,t2,gI,ldI,hlB,ag,ak];refine ay.loop (λm st=>∃(j:Nat) (ZJ:al),j<=B.length/\m=B.length-j/\τ (P1++((B.take j).flatMap (iG l)).map λn=>[vI n]) ZJ/\aa ZJ st.U/\st.s 0=.yl SL/\st.s 2=.rp (aQ l)/\st.s 27=aZ B/\st.s 28=vI B.length/\st.s 29=vI j) B.length ?_ ?_
  .exact⟨0,ZJ,by omega,rfl,by simpa using UN,G',t0,t2,rfl,rfl,rfl⟩
  .clear UN G' t0 t1 t2;rintro m ⟨S,J⟩ ⟨j,ZJ,hj,rfl,UN,G',t0,t2,t27,t28,t29⟩;simp only at G' t0 t2 t27 t28 t29;refine ay.mix 9 ?_;by_cases u':j<B.length
   .have q:=qT u';have R0:=λU=>dH (U:=U) u';have SB:B.take (j+1)=B.take j++[B[j]]:=Vn u';obtain⟨b,WU,Tu⟩:=hb _ (SU u');have e0':B=B.take j++B[j]::B.drop (j+1):=by rw[<-jt u',Bb]
    have e:T=(P1++((B.take j).flatMap (iG l)).map λn=>[vI n])++((iG l b).map λn=>[vI n])++(((B.drop (j+1)).flatMap (iG l)).map λn=>[vI n]):=by
     rw[<-hT,zl,fw,hP]
     conv=>lhs;rw[e0']
     simp[WU]
    rw[WU]at R0 SB;have Th:=λU=>bN (U:=U) (l:=l) (a:=b) Tu;have r1:=rI j;have hs:=aa.refl J;have htk2:(P1++((B.take (j+1)).flatMap (iG l)).map λn=>[vI n])=(P1++((B.take j).flatMap (iG l)).map λn=>[vI n])++((iG l b).map λn=>[vI n]):=by rw[SB];simp
    generalize (P1++((B.take j).flatMap (iG l)).map λn=>[vI n])=P2 at*;have hbg:iG l b=(if 0<l[b].st.head then[2]else[])++[l[b].st.before]:=by rw[iG,gG Tu]
    apply sR;simp only[go_sem,seval,t0,t2,t27,t28,t29,q,R0,ldN,Th,Nd.cells];refine aE hs λi8 Z8 s8 a8 f8 z8 hs=>?_;simp only[go_sem,seval,a8,t0,t2,t27,t28,t29,ldN,Th,Nd.cells];generalize VC:C' _ i8 _=Y8;replace a8:=Ti VC;replace hs:=Te VC hs z8;generalize ((B.drop (j+1)).flatMap (iG l)).map (λn=>[vI n])=R2 at*;refine⟨λh0=>?_,λh0=>?_⟩
    .have e1:T=P2++[vI 2]::([vI l[b].st.before]::R2):=by rw[e,hbg,aI h0];simp
     have e2:T=(P2++[[vI 2]])++[vI l[b].st.before]::R2:=by rw[e1];simp
     have e3:(P2++[[vI 2]])++[[vI l[b].st.before]]=P2++(iG l b).map λn=>[vI n]:=by rw[hbg,aI h0];simp
     have hsub8:aa ZJ Y8:=G'.trans hs;refine ay.qc (Post:=λb' Z2=>∃SN,bF ZJ Y8 SN Z2/\((b'=true/\τ (P2++[[vI 2]]) SN)\/(b'=false/\Jx (P2++[[vI 2]]) SN))) rfl rfl rfl (hy _ [vI 2] _ ZJ Y8 e1 UN hsub8) ?_;rintro b' Z2 ⟨SN,UQ,Uo⟩;rcases Uo with⟨rfl,Uo⟩|⟨rfl,Uo⟩
     .have a8':=(UQ.2 i8 _ (G'.none z8) a8).1;apply sR;simp only[go_sem,seval,t0,t2,t27,t28,t29,a8'];refine ay.qc (Post:=λb' Z3=>∃ZJ3,bF SN Z2 ZJ3 Z3/\((b'=true/\τ ((P2++[[vI 2]])++[[vI l[b].st.before]]) ZJ3)\/(b'=false/\Jx ((P2++[[vI 2]])++[[vI l[b].st.before]]) ZJ3))) rfl rfl rfl (hy _ [vI l[b].st.before] _ SN Z2 e2 Uo UQ.1) ?_;rintro b3 Z3 ⟨ZJ3,hbs3,Xf⟩;rcases Xf with⟨rfl,Xf⟩|⟨rfl,Xf⟩
      .apply sR;simp only[go_sem,seval,t0,t2,t27,t28,t29,r1];refine⟨_,?_,j+1,ZJ3,by omega,rfl,by rw[htk2,<-e3];exact Xf,hbs3.1,by simp[t0,t2,t27,t28]⟩;omega
      .apply sR;simp only[go_sem,seval,t0,t2,t27,t28,t29];exact⟨_,ZJ3,hbs3.1,Wk.refl hbs3.1 _,.inr ⟨_,⟨_,by rw[e2,mY];rfl⟩,Xf⟩⟩
     .apply sR;simp only[go_sem,seval,t0,t2,t27,t28,t29];exact⟨_,SN,UQ.1,Wk.refl UQ.1 _,.inr ⟨_,⟨_,by rw[e1,mY];rfl⟩,Uo⟩⟩
    .have e2:T=P2++[vI l[b].st.before]::R2:=by rw[e,hbg,aK (by omega)];simp
     have e3:P2++[[vI l[b].st.before]]=P2++(iG l b).map λn=>[vI n]:=by rw[hbg,aK (by omega)];simp
     have hsub8:aa ZJ Y8:=G'.trans hs;apply sR;simp only[go_sem,seval,t0,t2,t27,t28,t29,a8];refine ay.qc (Post:=λb' Z3=>∃ZJ3,bF ZJ Y8 ZJ3 Z3/\((b'=true/\τ (P2++[[vI l[b].st.before]]) ZJ3)\/(b'=false/\Jx (P2++[[vI l[b].st.before]]) ZJ3))) rfl rfl rfl (hy _ [vI l[b].st.before] _ ZJ Y8 e2 UN hsub8) ?_;rintro b3 Z3 ⟨ZJ3,hbs3,Xf⟩;rcases Xf with⟨rfl,Xf⟩|⟨rfl,Xf⟩
     .apply sR;simp only[go_sem,seval,t0,t2,t27,t28,t29,r1];refine⟨_,?_,j+1,ZJ3,by omega,rfl,by rw[htk2,<-e3];exact Xf,hbs3.1,by simp[t0,t2,t27,t28]⟩;omega
     .apply sR;simp only[go_sem,seval,t0,t2,t27,t28,t29];exact⟨_,ZJ3,hbs3.1,Wk.refl hbs3.1 _,.inr ⟨_,⟨_,by rw[e2,mY];rfl⟩,Xf⟩⟩
   .have q:=qF u';rw[qq (by omega),<-hP,<-fw]at UN;apply sR;simp only[go_sem,seval,t0,t2,t27,t28,t29,q];exact⟨_,ZJ,G',Wk.refl G' _,.inl (hT▸UN)⟩
open Go.Proofs
def oC{l:List Nd}{of:List Int}(SR:∀x∈of,0<=x/\x<l.length){k:Int}{p:Int->Bool}:∀b∈Wy l of k p,∃n:Nat,b=n/\n<l.length:=λb hb=>by
 unfold Wy at hb;split at hb
 .rename_i h;have u':k.toNat<of.length:=by omega
  have VK:of.getD k.toNat 0=of[k.toNat]:=by simp[u']
  rw[VK]at hb;obtain⟨h0,h1⟩:=SR _ (SU u');obtain⟨n,rfl,hn⟩:=yk (l:=l) (a:=of[k.toNat].toNat) (by omega) b (xR.1 hb).1;exact⟨n,rfl,by omega⟩
 .cases hb
def lA{l:List Nd}(hn:l.length<=100000){of:List Int}{k:Int}{p:Int->Bool}:(Wy l of k p).length<=100001:=by
 unfold Wy;split
 .have h1:=List.length_filter_le p (XH l (of.getD k.toNat 0).toNat);have h2:=kW l (l.length+1) (dq l (of.getD k.toNat 0).toNat);have h3:(XH l (of.getD k.toNat 0).toNat).length<=l.length+1:=h2;omega
 .simp
def AI(l:List Nd)(b:Int):(iG l b).length<=2:=by unfold iG;split<;>simp
def tU{α β:Type}(f:α->List β)(hf:∀a,(f a).length<=2):∀L:List α,(L.flatMap f).length<=2*L.length
 |[]=>by simp
 |a::L=>by
  rw[yb,kL,Uf];have:=tU f hf L;have:=hf a;omega
def iu(l:List Nd)(of:List Int)(k:Nat):List Int:=if k=of.length then[]else zl l (cE l of k)
def zB{l:List Nd}(hn:l.length<=100000)(of:List Int)(k:Nat):(zl l (cE l of k)).length<=1000000:=by
 unfold zl;rw[kL,dO];have h1:=tU (iG l) (AI l) (cE l of k).Uc;have h2:(cE l of k).ends.length<=100001:=lA hn;have h3:(cE l of k).Uc.length<=100001:=by
  rw[cE,List.length_reverse];exact lA hn
 omega
def GC(l:List Nd)(x:Kn):aX prog 212 [aQ l,gI x] (.fn 237 [.rp (gI x),.rp (aQ l)]):=λU=>by
 refine QI.q ?_;refine ay.mix 4 ?_;have q1:=ab l;have q2:=ai l;generalize aQ l=y at*;obtain⟨E,B,C,tx⟩:=x;simp only[gI];apply sR;simp only[go_sem,seval,Nq,q1,q2,ag,ak];refine aF λVY Z1 s1 a1 f1=>?_;simp only[go_sem,seval,q1,q2,ag,ak];refine aF λXu Z2 s2 a2 f2=>?_;simp only[go_sem,seval];exact⟨_,U,s1.trans s2,Wk.fn (vs':=[.rp (.agg [aZ E,aZ B,aZ C,vI tx]),.rp y]) ⟨Wk.ptr (s1.trans s2) a2 (s1.none f2),Wk.ptr (s1.trans s2) (s2 _ _ a1) f1,trivial⟩,rfl,rfl⟩
def C8(l:List Nd)(hl:dN l)(hb:SA l=true)(of:List Int)(SY:of.length<=1000000)(SR:∀x∈of,0<=x/\x<l.length)(hm:qL l of=true)(k:Nat)(hk:k<=of.length):
 aX prog 183 [aQ l,aZ of,vI k] (.Sa [aZ (iu l of k),vI 0]):=λU=>by
 refine QN.q ?_;have hs:=aa.refl U;have S1:=dz of;have hn:l.length<=100000:=by have:=hl.1;omega
 refine mS 10 ?_;simp only[go_sem,seval,Mq];refine pS rfl (Cu l hl hb of SY SR hm k hk _) ?_;simp only[go_sem,seval,gI];refine aE hs λi8 Z8 s8 a8 f8 z8 hs=>?_;have q0:((0:Int)≠0)=False:=H' (λh=>h rfl);by_cases ZD:k=of.length
 .have q1:((k:Int)=of.length)=True:=RX;simp only[go_sem,seval,a8,S1,q0,q1,gI,ag,ak];rw[iu,aI ZD];have Sg:=hs.aL (o:=⟨240,4,[gI (cE l of k)]⟩) z8;exact⟨_,U,Sg,Wk.Sa (vs':=[aZ [],vI 0]) ⟨(aP.start (e:=3)).wk (aa.refl _) Sg,Wk.refl Sg _,trivial⟩,rfl,rfl⟩
 .have q1:((k:Int)=of.length)=False:=H';simp only[go_sem,seval,a8,S1,q0,q1,gI,ag,ak];refine pS rfl (GC l (cE l of k) _) ?_;simp only[go_sem,seval];have Xd:=zB hn of k;have YH:=BS l (cE l of k) (mN (lA hn) (by omega)) (by rw[cE,List.length_reverse];exact mN (lA hn) (by omega)) (oC SR) (λb hb=>oC SR b (E4.1 hb));refine pS rfl (xA YH Xd _) ?_;simp only[go_sem,seval];rw[iu,aK ZD];have Sg:=hs.aL (o:=⟨240,4,[gI (cE l of k)]⟩) z8;exact⟨_,U,Sg,Wk.refl Sg _,rfl,rfl⟩
open Go.Proofs
def mQ(out n:Int)(XL:Bool):Int:=if XL=true\/out=0 then n else out
def ki(out n:Int):Int:=if n=3\/n=4 then mQ out n true else if n=2 then mQ out n false else out
def da(all:List Int):Int:=all.foldl ki 0
def yj(n:Int)(XL:Bool)(out:Int){U:al}{i3:Nat}(h:U i3=some ⟨3,1,[vI out]⟩):
 aG prog 213 [vI n,.bool XL,.ptr i3 0 0] U λ_ Z'=>Z' i3=some ⟨3,1,[vI (mQ out n XL)]⟩/\∀i,i≠i3->Z' i=U i:=by
 refine PW.q ?_;refine ay.mix 5 ?_;have fin:∀J:al,J i3=some ⟨3,1,[vI (mQ out n XL)]⟩->(∀i,i≠i3->J i=U i)->aD (.Sa []) J λ_ Z'=>Z' i3=some ⟨3,1,[vI (mQ out n XL)]⟩/\∀i,i≠i3->Z' i=U i:=λJ h1 h2=>
  ⟨_,J,aa.refl _,Wk.refl (aa.refl _) _,h1,h2⟩
 by_cases h0:XL=true\/out=0
 .have ht:mQ out n XL=n:=aI h0;rw[ht]at fin|-;cases XL
  .have q:(out=0)=True:=RX (by simpa using h0);apply sR;simp only[go_sem,seval,HJ,h,q];exact fin _ aA λi hi=>ad hi
  .apply sR;simp only[go_sem,seval,HJ,h];exact fin _ aA λi hi=>ad hi
 .have ht:mQ out n XL=out:=aK h0;rw[ht]at fin|-;simp only[not_or,Bool.not_eq_true]at h0;obtain⟨rfl,h0⟩:=h0;have q:(out=0)=False:=H' h0;apply sR;simp only[go_sem,seval,HJ,h,q];exact fin _ h λi hi=>rfl
def Fm(all:List Int)(Xd:all.length<=1000000):aX prog 184 [aZ all] (vI (da all)):=λU=>by
 refine Pg.q ?_;have hs:=aa.refl U;have TZ:=dz all;refine mS 8 ?_;simp only[go_sem,seval,OE];refine aE hs λi3 Z3 s3 a3 f3 z3 hs=>?_;simp only[go_sem,seval,a3,TZ];generalize hq3:C' _ i3 _=X3;replace a3:=Ti hq3;replace hs:=Te hq3 hs z3;refine ay.kY (λst=>st.U i3=some ⟨3,1,[vI (da all)]⟩/\aa U st.U/\st.s 3=.ptr i3 0 0)
  (λm st=>∃j:Nat,j<=all.length/\m=all.length-j/\st.U i3=some ⟨3,1,[vI (da (all.take j))]⟩/\aa U st.U/\st.s 3=.ptr i3 0 0/\st.s 4=.fn 213 [.ptr i3 0 0]/\st.s 9=aZ all/\st.s 10=vI all.length/\st.s 11=vI j) all.length ?_ ?_ ?_
 .exact⟨0,by omega,rfl,a3,hs,rfl,rfl,rfl,rfl,rfl⟩
 .clear a3 hs;rintro m ⟨S,J⟩ ⟨j,hj,rfl,b3,hs,t3,t4,t9,t10,t11⟩;simp only at b3 hs t3 t4 t9 t10 t11;refine ay.mix 8 ?_;by_cases u':j<all.length
  .have q:=qT u';have R0:=λU=>dH (U:=U) u';have SB:da (all.take (j+1))=ki (da (all.take j)) all[j]:=by
    rw[da,Vn u',nj];rfl
   have r1:=rI j;generalize all[j]=n at*;have sub2:∀{ρ:al} {o:Ob},ρ i3=some o->(∀i,i≠i3->ρ i=J i)->aa U ρ:=λ{ρ o} h1 h2 i x hx=>by
    rw[h2 i (λe=>by rw[e,z3]at hx;cases hx)];exact hs _ _ hx
   by_cases h3:n=3
   .have q3:(n=3)=True:=RX h3;have Sg:mQ (da (all.take j)) n true=ki (da (all.take j)) n:=by rw[ki,aI (.inl h3)]
    apply sR;simp only[go_sem,seval,t3,t4,t9,t10,t11,q,q3,R0];refine TX rfl (yj n true (da (all.take j)) b3) ?_;rintro-ρ ⟨g1,g2⟩;apply sR;simp only[go_sem,seval,t3,t4,t9,t10,t11,r1];refine⟨_,?_,j+1,by omega,rfl,by rw[SB];exact Sg▸g1,sub2 g1 g2,by simp[t3,t4,t9,t10]⟩;omega
   .have q3:(n=3)=False:=H' h3;by_cases h4:n=4
    .have q4:(n=4)=True:=RX h4;have Sg:mQ (da (all.take j)) n true=ki (da (all.take j)) n:=by rw[ki,aI (.inr h4)]
     apply sR;simp only[go_sem,seval,t3,t4,t9,t10,t11,q,q3,q4,R0];refine TX rfl (yj n true (da (all.take j)) b3) ?_;rintro-ρ ⟨g1,g2⟩;apply sR;simp only[go_sem,seval,t3,t4,t9,t10,t11,r1];refine⟨_,?_,j+1,by omega,rfl,by rw[SB];exact Sg▸g1,sub2 g1 g2,by simp[t3,t4,t9,t10]⟩;omega
    .have q4:(n=4)=False:=H' h4;by_cases h2:n=2
     .have q2:(n=2)=True:=RX h2;have Sg:mQ (da (all.take j)) n false=ki (da (all.take j)) n:=by rw[ki,aK (by simp[h3,h4]),aI h2]
      apply sR;simp only[go_sem,seval,t3,t4,t9,t10,t11,q,q3,q4,q2,R0];refine TX rfl (yj n false (da (all.take j)) b3) ?_;rintro-ρ ⟨g1,g2⟩;apply sR;simp only[go_sem,seval,t3,t4,t9,t10,t11,r1];refine⟨_,?_,j+1,by omega,rfl,by rw[SB];exact Sg▸g1,sub2 g1 g2,by simp[t3,t4,t9,t10]⟩;omega
     .have q2:(n=2)=False:=H' h2;have Sg:da (all.take j)=ki (da (all.take j)) n:=by rw[ki,aK (by simp[h3,h4]),aK h2]
      apply sR;simp only[go_sem,seval,t3,t4,t9,t10,t11,q,q3,q4,q2,r1,R0];refine⟨_,?_,j+1,by omega,rfl,by rw[SB,<-Sg];exact b3,hs,by simp[t3,t4,t9,t10]⟩;omega
  .have q:=qF u';rw[qq (by omega)]at b3;apply sR;simp only[go_sem,seval,t3,t4,t9,t10,t11,q];exact⟨b3,hs⟩
 .rintro⟨S,J⟩ ⟨b3,hs,t3⟩;simp only at b3 hs t3;refine mS 8 ?_;simp only[go_sem,seval,t3,b3];exact⟨_,U,hs,Wk.refl hs _,rfl,rfl⟩
open Go.Proofs
def ja(l:List Nd)(of:List Int)(k:Nat):Int:=da (iu l of k)
def mq{l:List Nd}(hn:l.length<=100000)(of:List Int)(k:Nat):(iu l of k).length<=1000000:=by
 unfold iu;split
 .simp
 .exact zB hn of k
def Me(l:List Nd)(hl:dN l)(hb:SA l=true)(of:List Int)(SY:of.length<=1000000)(SR:∀x∈of,0<=x/\x<l.length)(hm:qL l of=true)(k:Nat)(hk:k<=of.length):
 aX prog 151 [aQ l,aZ of,vI k] (.Sa [vI (ja l of k),vI 0]):=λU=>by
 refine Rw.q ?_;have hs:=aa.refl U;have hn:l.length<=100000:=by have:=hl.1;omega
 refine mS 11 ?_;simp only[go_sem,seval,MT];refine pS rfl (C8 l hl hb of SY SR hm k hk _) ?_;simp only[go_sem,seval];refine pS rfl (Fm _ (mq hn of k) _) ?_;simp only[go_sem,seval];exact aD.pure hs rfl
def rO(l:List Nd)(of:List Int):List Int:=(List.range (of.length+1)).map (ja l of)
def KC(l:List Nd)(hl:dN l)(hb:SA l=true)(of:List Int)(SY:of.length<=1000000)(SR:∀x∈of,0<=x/\x<l.length)(hm:qL l of=true):
 aX prog 116 [aQ l,aZ of] (.Sa [aZ (rO l of),vI 0]):=λU=>by
 refine P6.q ?_;have hs:=aa.refl U;have S1:=dz of;refine mS 11 ?_;simp only[go_sem,seval,N8];refine pR rfl (pW l hl hb of SY hm _) ?_;have q0:((0:Int)≠0)=False:=H' (λh=>h rfl);have r0:Sn .i64 ((of.length:Int)+1):=ar;apply sR;simp only[go_sem,seval,q0,S1,r0];refine ay.kY (λst=>aa U st.U/\aP U st.U 3 1 (st.s 7) ((rO l of).map vI))
  (λm st=>∃j:Nat,j<=of.length+1/\m=of.length+1-j/\aa U st.U/\aP U st.U 3 1 (st.s 7) (((List.range j).map (ja l of)).map vI)/\st.s 0=aQ l/\st.s 1=aZ of/\st.s 19=vI ((of.length:Int)+1)/\st.s 20=vI j) (of.length+1) ?_ ?_ ?_
 .exact⟨0,by omega,rfl,hs,aP.start,rfl,rfl,rfl,rfl⟩
 .clear hs;rintro m ⟨S,J⟩ ⟨j,hj,rfl,hs,ho,t0,t1,t19,t20⟩;simp only at hs ho t0 t1 t19 t20;generalize Ut:S 7=v7 at ho;refine ay.mix 11 ?_;by_cases u':j<of.length+1
  .have q:((j:Int)<of.length+1)=True:=RX;have r1:=rI j;have Sx:(((List.range (j+1)).map (ja l of)).map vI)=(((List.range j).map (ja l of)).map vI)++[vI (ja l of j)]:=by
    rw[List.range_succ];simp
   have UF:(((List.range j).map (ja l of)).map vI).length=j:=by simp
   apply sR;simp only[go_sem,seval,t0,t1,t19,t20,q];refine pR rfl (Me l hl hb of SY SR hm j (by omega) _) ?_;generalize ((List.range j).map (ja l of)).map vI=rows at*;apply sR;simp only[go_sem,seval,t0,t1,t19,t20,Ut];refine aF λi32 Z32 s32 a32 f32=>?_;obtain⟨idA,Ta,Sd,Us,Wn⟩:=ho.nM s32;have SF:(rows.length+1)*9<=140737488355328:=by omega
   simp only[go_sem,seval,t0,t1,t19,t20,Ut,Ta,bR a32,SF];refine bn λi33 Z33 s33 a33 f33=>?_;have k33:=(Sd U (aa.refl _) Z32 (hs.trans s32)).trans s33;have n33:U i33=none:=(hs.trans s32).none f33;simp only[go_sem,seval,t0,t1,t19,t20,r1];refine⟨_,?_,j+1,by omega,rfl,k33,?_,by simp[t0,t1,t19]⟩
   .omega
   .rw[Sx];exact aP.new (by simp) a33 n33
  .have q:((j:Int)<of.length+1)=False:=H';have Up:j=of.length+1:=by omega
   subst Up;apply sR;simp only[go_sem,seval,t0,t1,t19,t20,q];exact⟨hs,Ut▸ho⟩
 .rintro⟨S,J⟩ ⟨hs,ho⟩;simp only at hs ho;generalize Ut:S 7=v7 at ho;refine mS 11 ?_;simp only[go_sem,seval,Ut];exact⟨_,U,hs,Wk.Sa (vs':=[aZ (rO l of),vI 0]) ⟨ho.wk (aa.refl _) hs,Wk.refl hs _,trivial⟩,rfl,rfl⟩
open Go.Proofs
def j3(l:List Nd)(of:List Int)(k:Int)(x:Kn):V:=.agg [aZ x.ends,aZ x.Uc,aZ x.both,vI x.text,aQ l,aZ of,vI k]
def LH(l:List Nd)(hl:dN l)(hb:SA l=true)(of:List Int)(SY:of.length<=1000000)(SR:∀x∈of,0<=x/\x<l.length)(hm:qL l of=true)(k:Nat)(hk:k<=of.length):
 aX prog 185 [aQ l,aZ of,vI k] (.Sa [j3 l of k (cE l of k),vI 0]):=λU=>by
 refine Qq.q ?_;have hs:=aa.refl U;refine mS 10 ?_;simp only[go_sem,seval,OU];refine aE hs λi6 Z6 s6 a6 f6 z6 hs=>?_;simp only[go_sem,seval];refine pS rfl (Cu l hl hb of SY SR hm k hk _) ?_;simp only[go_sem,seval,gI];refine aE hs λi8 Z8 s8 a8 f8 z8 hs=>?_;obtain⟨Wl,a6⟩:=RZ a6 f8 s8;simp only[go_sem,seval,a8,a6,ad Wl,gI,ab,ag,ak,ai];exact aD.pure ((hs.aL z8).aL z6) rfl
def FL:aX prog 214 [] (.agg [vI 0,vI 0,vI 0,vI 0,vI 0,vI 2,vI 2,vI 0,vI 0,vI 0,vI 0,vI 0]):=λU=>by
 refine Re.q ?_;apply sR;simp only[go_sem,seval,NA];refine aF λXO Z0 s0 a0 f0=>?_;simp only[go_sem,seval,a0];exact .pure (s0.aL f0) rfl
def tj(a:Int):List Int->Nat->Int
 |[],_=>-1
 |q::r,i=>if q=a then i else tj a r (i+1)
def D3{a:Int}{p:List Int}{i:Nat}(h:i<p.length):tj a (p.drop i) i=if p[i]=a then(i:Int)else tj a (p.drop (i+1)) (i+1):=by
 rw[jt h,tj]
def zt(a:Int):∀(p:List Int) (i:Nat),tj a p i>=0↔a∈p
 |[],_=>by simp[tj]
 |q::r,i=>by
  rw[tj];split
  .rename_i h;subst h;simp
  .rename_i h;rw[zt a r (i+1),ew];constructor
   .exact .inr
   .rintro(rfl|h2)
    .exact absurd rfl h
    .exact h2
def Gv(p:List Int)(hp:p.length<=1000000000)(a:Int):aX prog 238 [aZ p,vI a] (vI (tj a p 0)):=λU=>by
 refine RC.q ?_;have hlp:=dz p;refine mS 9 ?_;simp only[go_sem,seval,Nx,hlp];refine ay.loop (λm st=>∃(i:Nat),i<=p.length/\m=p.length-i/\tj a p 0=tj a (p.drop i) i/\st.U=U/\st.s 0=aZ p/\st.s 1=vI a/\st.s 7=vI p.length/\st.s 8=vI i) p.length ?_ ?_
 .exact⟨0,by omega,rfl,rfl,rfl,rfl,rfl,rfl,rfl⟩
 .rintro m ⟨s,Z'⟩ ⟨i,hi,rfl,heq,Su,h0,h1,h7,h8⟩;simp only at Su h0 h1 h7 h8;subst Su;refine ay.mix 9 ?_;by_cases u':i<p.length
  .have q:=qT u';have hd:=D3 (a:=a) u';have R0:=λU=>dH (U:=U) u';have r1:=rI i;by_cases hc:p[i]=a
   .have q1:(a=p[i])=True:=RX hc.symm;apply sR;simp only[go_sem,seval,h0,h1,h7,h8,q,R0,q1];refine aD.same ?_;rw[heq,hd,aI hc]
   .have q1:(a=p[i])=False:=H' (λh=>hc h.symm);apply sR;simp only[go_sem,seval,h0,h1,h7,h8,q,R0,q1,r1];refine⟨_,?_,i+1,by omega,rfl,?_,by simp[h0,h1,h7]⟩
    .omega
    .rw[heq,hd,aK hc]
  .have q:=qF u';have Uv:i=p.length:=by omega
   apply sR;simp only[go_sem,seval,h0,h1,h7,h8,q];refine aD.same ?_;rw[heq,Uv,uY];rfl
def AP(p:List Int)(hp:p.length<=1000000000)(a:Int):aX prog 218 [aZ p,vI a] (.bool (decide (a∈p))):=λU=>by
 refine Po.q ?_;apply sR;simp only[go_sem,seval,MU];refine pR rfl (Gv p hp a _) ?_;have h:=zt a p 0;by_cases ha:a∈p
 .have q:(tj a p 0>=0)=True:=RX (h.2 ha);apply sR;simp only[go_sem,seval,q];exact aD.same (by simp[ha])
 .have q:(tj a p 0>=0)=False:=H' (λhh=>ha (h.1 hh));apply sR;simp only[go_sem,seval,q];exact aD.same (by simp[ha])
open Go.Proofs
def fZ(of:List Int)(t:Int)(k:Nat):Nat->Nat×Nat
 |0=>(0,0)
 |j+1=>if of.getD j 0=t then if j<k then((fZ of t k j).1+1,(fZ of t k j).2)else((fZ of t k j).1,(fZ of t k j).2+1)else fZ of t k j
def jL(of:List Int)(t:Int)(k:Nat):Nat×Nat:=if t<0 then(0,0)else fZ of t k of.length
def tz(of:List Int)(t:Int)(k:Nat):∀j,(fZ of t k j).1<=j/\(fZ of t k j).2<=j
 |0=>by simp[fZ]
 |j+1=>by
  have:=tz of t k j;rw[fZ];split
  .split<;>simp only<;>omega
  .omega
def FH(l:List Nd)(of:List Int)(SY:of.length<=1000000)(k:Nat)(x:Kn):
 aX prog 216 [j3 l of k x] (.Sa [vI (jL of x.text k).1,vI (jL of x.text k).2]):=λU=>by
 refine RS.q ?_;have hs:=aa.refl U;have S1:=dz of;obtain⟨E,B,C,t⟩:=x;simp only;refine mS 6 ?_;simp only[go_sem,seval,ON,j3,ab,ag,ak,ai];refine aE hs λi1 Z1 s1 a1 f1 z1 hs=>?_;unfold jL;by_cases ht:t<0
 .have q:(t<0)=True:=RX ht;simp only[go_sem,seval,a1,q,ab,ag,ak,ai];exact aD.pure hs (by simp[ht])
 have q:(t<0)=False:=H' ht;rw[aK ht];simp only[go_sem,seval,a1,q,S1,ab,ag,ak,ai];refine ay.loop (λm st=>∃j:Nat,j<=of.length/\m=of.length-j/\st.U=Z1/\st.s 1=.ptr i1 0 0/\st.s 2=vI (fZ of t k j).1/\st.s 3=vI (fZ of t k j).2/\st.s 11=aZ of/\st.s 12=vI of.length/\st.s 13=vI j) of.length ?_ ?_
 .exact⟨0,by omega,rfl,rfl,rfl,rfl,rfl,rfl,rfl,rfl⟩
 .rintro m ⟨S,J⟩ ⟨j,hj,rfl,Su,t1,t2,t3,t11,t12,t13⟩;simp only at Su t1 t2 t3 t11 t12 t13;subst Su;refine ay.mix 6 ?_;by_cases u':j<of.length
  .have q0:=qT u';have r1:=rI j;have R0:=λU=>dH (U:=U) u';have VK:of.getD j 0=of[j]:=by simp[u']
   have hle:=tz of t k j;have Sg:fZ of t k (j+1)=if of[j]=t then if j<k then((fZ of t k j).1+1,(fZ of t k j).2)else((fZ of t k j).1,(fZ of t k j).2+1)else fZ of t k j:=by rw[fZ,VK]
   have r2:Sn .i64 (((fZ of t k j).1:Int)+1):=ar;have r3:Sn .i64 (((fZ of t k j).2:Int)+1):=ar;by_cases hn:of[j]=t
   .have q1:(of[j]≠t)=False:=H' (λh=>h hn);rw[aI hn]at Sg;by_cases hk:j<k
    .have q2:((j:Int)<k)=True:=RX;rw[aI hk]at Sg;apply sR;simp only[go_sem,seval,t1,t2,t3,t11,t12,t13,a1,q0,q1,q2,r1,r2,R0,ab,ag,ak,ai];refine⟨_,?_,j+1,by omega,rfl,by rw[Sg];simp[t1,t2,t3,t11,t12]⟩;omega
    .have q2:((j:Int)<k)=False:=H';rw[aK hk]at Sg;apply sR;simp only[go_sem,seval,t1,t2,t3,t11,t12,t13,a1,q0,q1,q2,r1,r3,R0,ab,ag,ak,ai];refine⟨_,?_,j+1,by omega,rfl,by rw[Sg];simp[t1,t2,t3,t11,t12]⟩;omega
   .have q1:(of[j]≠t)=True:=RX hn;rw[aK hn]at Sg;apply sR;simp only[go_sem,seval,t1,t2,t3,t11,t12,t13,a1,q0,q1,r1,R0,ab,ag,ak,ai];refine⟨_,?_,j+1,by omega,rfl,by rw[Sg];simp[t1,t2,t3,t11,t12]⟩;omega
  .have q0:=qF u';have Up:j=of.length:=by omega
   apply sR;simp only[go_sem,seval,t1,t2,t3,t11,t12,t13,q0];exact aD.pure hs (by rw[Up])
open Go.Proofs
def pC:TA:=⟨0,0,0,0,0,2,2,0,0,0,0,0⟩
def jI(l:List Nd)(t:Int):TA:=if 0<=dq l t.toNat then Uy l (dq l t.toNat)else pC
def DE(l:List Nd)(of:List Int)(t:Int)(k:Nat):Bool:=if t<0 then false else decide (((jL of t k).1:Int)<(jI l t).R9\/((jL of t k).2:Int)<(jI l t).Sl)
def LC(l:List Nd)(hl:dN l)(hb:SA l=true)(of:List Int)(SY:of.length<=1000000)(k:Nat)(x:Kn)(hx:x.text<l.length):
 aX prog 186 [j3 l of k x] (.bool (DE l of x.text k)):=λU=>by
 refine Q2.q ?_;have hs:=aa.refl U;have Zu:=λx=>FH l of SY k x;obtain⟨E,B,C,t⟩:=x;simp only at hx|-;refine mS 7 ?_;simp only[go_sem,seval,OH,j3,ab,ag,ak,ai];refine aE hs λi1 Z1 s1 a1 f1 z1 hs=>?_;unfold DE;by_cases ht:t<0
 .have q:(t<0)=True:=RX ht;simp only[go_sem,seval,a1,q,ab,ag,ak,ai];exact aD.pure hs (by simp[ht])
 have q:(t<0)=False:=H' ht;rw[aK ht];obtain⟨a,rfl⟩:∃a:Nat,t=a:=⟨t.toNat,by omega⟩
 simp only[go_sem,seval,a1,q,ab,ag,ak,ai];refine pS rfl (FL _) ?_;simp only[go_sem,seval];refine aE hs λi3 Z3 s3 a3 f3 z3 hs=>?_;obtain⟨Yn,a1⟩:=RZ a1 f3 s3;simp only[go_sem,seval,a3,a1,ad Yn,ab,ag,ak,ai];generalize hq3:C' _ i3 _=X3;replace a3:=Ti hq3;replace a1:=So hq3 Yn a1;replace hs:=Te hq3 hs z3;refine pR rfl (Ca l hl hb a (by omega) _) ?_;have hpr:=ez l a;have U9:jI l (a:Int)=if 0<=dq l a then Uy l (dq l a)else pC:=by simp[jI]
 rw[U9];by_cases hp:0<=dq l a
 .have q0:(dq l a>=0)=True:=RX hp;obtain⟨b,WU⟩:∃b:Nat,dq l a=b:=⟨(dq l a).toNat,by omega⟩
  rw[aI hp];rw[WU]at q0 hpr|-;have Tu:b<l.length:=by omega
  have Th:=λU=>bN (U:=U) (l:=l) (a:=b) Tu;rw[gG Tu];apply sR;simp only[go_sem,seval,a1,a3,q0,Th,Nd.cells,ad Yn,ab,ag,ak,ai];generalize Yv:C' X3 i3 _=Y4;have b3:Y4 i3=some ⟨56,12,[kF l[b].st]⟩:=by rw[<-Yv];exact aA
  replace hs:aa U Y4:=by rw[<-Yv];exact hs.aL z3
  clear Yv;generalize l[b].st=st at*;rw[kF]at b3;refine pR rfl (Zu ⟨E,B,C,a⟩ _) ?_;generalize jL of (a:Int) k=L at*;obtain⟨L1,L2⟩:=L;simp only;by_cases h1:(L1:Int)<st.R9
  .have q1:((L1:Int)<st.R9)=True:=RX h1;apply sR;simp only[go_sem,seval,b3,q1,ab,ag,ak,ai];exact aD.pure hs (by simp[h1])
  .have q1:((L1:Int)<st.R9)=False:=H' h1;by_cases h2:(L2:Int)<st.Sl
   .have q2:((L2:Int)<st.Sl)=True:=RX h2;apply sR;simp only[go_sem,seval,b3,q1,q2,ab,ag,ak,ai];exact aD.pure hs (by simp[h2])
   .have q2:((L2:Int)<st.Sl)=False:=H' h2;apply sR;simp only[go_sem,seval,b3,q1,q2,ab,ag,ak,ai];exact aD.pure hs (by simp[h1,h2])
 .have q0:(dq l a>=0)=False:=H' hp;rw[aK hp];apply sR;simp only[go_sem,seval,a1,a3,q0,ad Yn,ab,ag,ak,ai];have b3:X3 i3=some ⟨56,12,[kF pC]⟩:=a3;generalize pC=st at*;rw[kF]at b3;refine pR rfl (Zu ⟨E,B,C,a⟩ _) ?_;generalize jL of (a:Int) k=L at*;obtain⟨L1,L2⟩:=L;simp only;by_cases h1:(L1:Int)<st.R9
  .have q1:((L1:Int)<st.R9)=True:=RX h1;apply sR;simp only[go_sem,seval,b3,q1,ab,ag,ak,ai];exact aD.pure hs (by simp[h1])
  .have q1:((L1:Int)<st.R9)=False:=H' h1;by_cases h2:(L2:Int)<st.Sl
   .have q2:((L2:Int)<st.Sl)=True:=RX h2;apply sR;simp only[go_sem,seval,b3,q1,q2,ab,ag,ak,ai];exact aD.pure hs (by simp[h2])
   .have q2:((L2:Int)<st.Sl)=False:=H' h2;apply sR;simp only[go_sem,seval,b3,q1,q2,ab,ag,ak,ai];exact aD.pure hs (by simp[h1,h2])
open Go.Proofs
def qC(l:List Nd)(x:Kn):Bool:=x.both.any λb=>decide ((Uy l b).inside=1)
def Ck(l:List Nd)(of:List Int)(k:Nat)(x:Kn){U:al}{i1:Nat}(h:U i1=some ⟨257,7,[j3 l of k x]⟩)(n:Nat)(hn:n<l.length):
 aG prog 217 [vI n,.ptr i1 0 0] U λr Z'=>r=.bool (decide ((Uy l n).inside=1))/\Z'=U:=by
 refine Rq.q ?_;refine ay.mix 4 ?_;have Th:=λU=>bN (U:=U) (l:=l) (a:=n) hn;rw[gG hn];rw[j3]at h;by_cases hi:l[n].st.inside=1
 .have q:(l[n].st.inside=1)=True:=RX hi;apply sR;simp only[go_sem,seval,KV,h,Th,Nd.cells,q,ab,ag];exact aD.same (by simp[hi])
 .have q:(l[n].st.inside=1)=False:=H' hi;apply sR;simp only[go_sem,seval,KV,h,Th,Nd.cells,q,ab,ag];exact aD.same (by simp[hi])
def EB(l:List Nd)(of:List Int)(k:Nat)(x:Kn)(hx:∀b∈x.both,∃n:Nat,b=n/\n<l.length)(hlen:x.both.length<=1000000):
 aX prog 187 [j3 l of k x] (.bool (qC l x)):=λU=>by
 refine Pm.q ?_;have hs:=aa.refl U;refine mS 3 ?_;simp only[go_sem,seval,M4,j3,ab,ag,ak,ai];refine aE hs λi1 Z1 s1 a1 f1 z1 hs=>?_;simp only[go_sem,seval,a1,ab,ag,ak,ai];refine pR rfl (nH (p:=λb=>decide ((Uy l b).inside=1)) Reads.ints (by omega) (λb hb=>by
  obtain⟨n,rfl,hn⟩:=hx b hb;exact Ck l of k x a1 n hn)) ?_
 apply sR;simp only[go_sem,seval];exact aD.pure hs rfl
def Cb(l:List Nd)(hl:dN l)(hb:SA l=true)(of:List Int)(SY:of.length<=1000000)(SR:∀x∈of,0<=x/\x<l.length)(hm:qL l of=true)(k:Nat)(hk:k<=of.length)(x:Kn):
 aX prog 188 [j3 l of k x] (.bool (decide (1∈iu l of k))):=λU=>by
 refine Rh.q ?_;have hs:=aa.refl U;have hn:l.length<=100000:=by have:=hl.1;omega
 refine mS 5 ?_;simp only[go_sem,seval,O8,j3,ab,ag,ak,ai];refine aE hs λi1 Z1 s1 a1 f1 z1 hs=>?_;simp only[go_sem,seval,a1,ab,ag,ak,ai];refine pS rfl (C8 l hl hb of SY SR hm k hk _) ?_;simp only[go_sem,seval];refine pS rfl (AP _ (by have:=mq hn of k;omega) 1 _) ?_;simp only[go_sem,seval];exact aD.pure hs rfl
open Go.Proofs
def Bg(s:Int)(j:Nat)(b:Bool):Int:=if b then s+2^j else s
def lf(l:List Nd)(of:List Int)(k:Nat):Nat->Bool
 |0=>DE l of (cE l of k).text k
 |1=>qC l (cE l of k)
 |_=>decide (1∈iu l of k)
def ej(l:List Nd)(of:List Int)(k:Nat):Nat->Int
 |0=>0
 |j+1=>Bg (ej l of k j) j (lf l of k j)
def mJ(l:List Nd)(of:List Int)(k:Nat):Int:=if k=0\/k=of.length then 0 else ej l of k 3
def Ap{l:List Nd}{of:List Int}(SR:∀x∈of,0<=x/\x<l.length)(k:Nat):(cE l of k).text<l.length:=by
 rw[cE];simp only;split
 .rename_i h;have VK:of.getD k 0=of[k]'h.2.1:=by simp[h.2.1]
  rw[VK];exact(SR _ (SU h.2.1)).2
 .omega
def OW(l:List Nd)(hl:dN l)(hb:SA l=true)(of:List Int)(SY:of.length<=1000000)(SR:∀x∈of,0<=x/\x<l.length)(hm:qL l of=true)(k:Nat)(hk:k<=of.length):
 aX prog 152 [aQ l,aZ of,vI k] (.Sa [vI (mJ l of k),vI 0]):=λU=>by
 refine P7.q ?_;have hs:=aa.refl U;have S1:=dz of;have hn:l.length<=100000:=by have:=hl.1;omega
 have Vs:∀(f:FuncId) (a:List V),(V.bm f a).cells=[.bm f a]:=λ_ _=>rfl;have SF:∀f:FuncId,(V.bm f [.agg [aZ (cE l of k).ends,aZ (cE l of k).Uc,aZ (cE l of k).both,vI (cE l of k).text,aQ l,aZ of,vI k]]).stays=true:=λ_=>rfl;have hnf:V.TG.cells=[.TG]:=rfl;refine mS 15 ?_;simp only[go_sem,seval,MI];refine pR rfl (LH l hl hb of SY SR hm k hk _) ?_;have YF:(j3 l of k (cE l of k)).stays=true:=rfl;apply sR;simp only[go_sem,seval,j3,YF];refine aE hs λi8 Z8 s8 a8 f8 z8 hs=>?_;have q0:((0:Int)≠0)=False:=H' (λh=>h rfl);unfold mJ;by_cases Wh:k=0
 .subst Wh;have q1:(((0:Nat):Int)=0)=True:=RX rfl;simp only[go_sem,seval,a8,q0,q1,ab,ag,ak,ai];exact aD.pure (hs.aL z8) (by simp)
 have q1:((k:Int)=0)=False:=H';by_cases Tt:k=of.length
 .have q2:((k:Int)=of.length)=True:=RX;simp only[go_sem,seval,a8,q0,q1,q2,S1,ab,ag,ak,ai];exact aD.pure (hs.aL z8) (by simp[Tt])
 have q2:((k:Int)=of.length)=False:=H';rw[aK (by omega)];simp only[go_sem,seval,a8,q0,q1,q2,S1,Vs,SF,hnf,ab,ag,ak,ai];generalize VC:C' _ i8 _=Y8;replace a8:=Ti VC;replace hs:=Te VC hs z8;refine aE hs λi10 XV TN Sb f10 UH hs=>?_;obtain⟨Wm,a8⟩:=RZ a8 f10 TN;simp only[go_sem,seval,Sb,Vs,SF,hnf,ab,ag,ak,ai];generalize Ss:C' _ i10 _=Y10;replace Sb:=Ti Ss;replace a8:=So Ss Wm a8;replace hs:=Te Ss hs UH;have ht:=Ap SR (l:=l) k;have c0:aX prog 186 [j3 l of k (cE l of k)] (.bool (lf l of k 0)):=LC l hl hb of SY k (cE l of k) ht;have c1:aX prog 187 [j3 l of k (cE l of k)] (.bool (lf l of k 1)):=EB l of k (cE l of k) (oC SR) (mN (lA hn) (by omega));have c2:aX prog 188 [j3 l of k (cE l of k)] (.bool (lf l of k 2)):=Cb l hl hb of SY SR hm k hk (cE l of k);rw[j3]at c0 c1 c2;generalize hpv:V.agg [aZ (cE l of k).ends,aZ (cE l of k).Uc,aZ (cE l of k).both,vI (cE l of k).text,aQ l,aZ of,vI k]=pv at*;refine ay.kY (λst=>aa U st.U/\st.s 11=vI (ej l of k 3))
  (λm st=>∃j:Nat,j<=3/\m=3-j/\aa U st.U/\st.s 11=vI (ej l of k j)/\st.s 41=.agg [.bm 186 [pv],.bm 187 [pv],.bm 188 [pv]]/\st.s 42=vI j) 3 ?_ ?_ ?_
 .exact⟨0,by omega,rfl,hs,rfl,rfl,rfl⟩
 .clear hs a8 Sb;rintro m ⟨S,J⟩ ⟨j,hj,rfl,hs,t11,t41,t42⟩;simp only at hs t11 t41 t42;refine ay.mix 15 ?_;rcases(by omega:j=0\/j=1\/j=2\/j=3)with rfl|rfl|rfl|rfl
  .have WO:S 42=vI 0:=t42;have hp:ej l of k 0=0:=rfl;have VO:S 11=vI 0:=by rw[t11,hp]
   apply sR;simp only[go_sem,seval,VO,t41,WO];refine ay.mR rfl rfl rfl (c0 _) ?_;rintro r Z' ⟨rfl,rfl⟩;cases hv:lf l of k 0
   .apply sR;simp only[go_sem,seval,VO,t41,WO];refine⟨ar,_,?_,1,by omega,rfl,hs,by rw[ej,hp,hv];rfl,rfl⟩;omega
   .apply sR;simp only[go_sem,seval,VO,t41,WO];refine⟨ar,_,?_,1,by omega,rfl,hs,by rw[ej,hp,hv];rfl,rfl⟩;omega
  .have WO:S 42=vI 1:=t42;have hp:ej l of k 1=0\/ej l of k 1=1:=by rw[ej,ej,Bg];split<;>simp
   rcases hp with hp|hp
   .have:=hp;have VO:S 11=vI 0:=by rw[t11,hp]
    apply sR;simp only[go_sem,seval,VO,t41,WO];refine ay.mR rfl rfl rfl (c1 _) ?_;rintro r Z' ⟨rfl,rfl⟩;cases hv:lf l of k 1
    .apply sR;simp only[go_sem,seval,VO,t41,WO];refine⟨ar,_,?_,2,by omega,rfl,hs,by rw[ej,hp,hv];rfl,rfl⟩;omega
    .apply sR;simp only[go_sem,seval,VO,t41,WO];refine⟨ar,_,?_,2,by omega,rfl,hs,by rw[ej,hp,hv];rfl,rfl⟩;omega
   .have:=hp;have VO:S 11=vI 1:=by rw[t11,hp]
    apply sR;simp only[go_sem,seval,VO,t41,WO];refine ay.mR rfl rfl rfl (c1 _) ?_;rintro r Z' ⟨rfl,rfl⟩;cases hv:lf l of k 1
    .apply sR;simp only[go_sem,seval,VO,t41,WO];refine⟨ar,_,?_,2,by omega,rfl,hs,by rw[ej,hp,hv];rfl,rfl⟩;omega
    .apply sR;simp only[go_sem,seval,VO,t41,WO];refine⟨ar,_,?_,2,by omega,rfl,hs,by rw[ej,hp,hv];rfl,rfl⟩;omega
  .have WO:S 42=vI 2:=t42;have hp:ej l of k 2=0\/ej l of k 2=1\/ej l of k 2=2\/ej l of k 2=3:=by rw[ej,ej,ej,Bg,Bg];split<;>split<;>simp
   rcases hp with hp|hp|hp|hp
   .have:=hp;have VO:S 11=vI 0:=by rw[t11,hp]
    apply sR;simp only[go_sem,seval,VO,t41,WO];refine ay.mR rfl rfl rfl (c2 _) ?_;rintro r Z' ⟨rfl,rfl⟩;cases hv:lf l of k 2
    .apply sR;simp only[go_sem,seval,VO,t41,WO];refine⟨ar,_,?_,3,by omega,rfl,hs,by rw[ej,hp,hv];rfl,rfl⟩;omega
    .apply sR;simp only[go_sem,seval,VO,t41,WO];refine⟨ar,_,?_,3,by omega,rfl,hs,by rw[ej,hp,hv];rfl,rfl⟩;omega
   .have:=hp;have VO:S 11=vI 1:=by rw[t11,hp]
    apply sR;simp only[go_sem,seval,VO,t41,WO];refine ay.mR rfl rfl rfl (c2 _) ?_;rintro r Z' ⟨rfl,rfl⟩;cases hv:lf l of k 2
    .apply sR;simp only[go_sem,seval,VO,t41,WO];refine⟨ar,_,?_,3,by omega,rfl,hs,by rw[ej,hp,hv];rfl,rfl⟩;omega
    .apply sR;simp only[go_sem,seval,VO,t41,WO];refine⟨ar,_,?_,3,by omega,rfl,hs,by rw[ej,hp,hv];rfl,rfl⟩;omega
   .have:=hp;have VO:S 11=vI 2:=by rw[t11,hp]
    apply sR;simp only[go_sem,seval,VO,t41,WO];refine ay.mR rfl rfl rfl (c2 _) ?_;rintro r Z' ⟨rfl,rfl⟩;cases hv:lf l of k 2
    .apply sR;simp only[go_sem,seval,VO,t41,WO];refine⟨ar,_,?_,3,by omega,rfl,hs,by rw[ej,hp,hv];rfl,rfl⟩;omega
    .apply sR;simp only[go_sem,seval,VO,t41,WO];refine⟨ar,_,?_,3,by omega,rfl,hs,by rw[ej,hp,hv];rfl,rfl⟩;omega
   .have:=hp;have VO:S 11=vI 3:=by rw[t11,hp]
    apply sR;simp only[go_sem,seval,VO,t41,WO];refine ay.mR rfl rfl rfl (c2 _) ?_;rintro r Z' ⟨rfl,rfl⟩;cases hv:lf l of k 2
    .apply sR;simp only[go_sem,seval,VO,t41,WO];refine⟨ar,_,?_,3,by omega,rfl,hs,by rw[ej,hp,hv];rfl,rfl⟩;omega
    .apply sR;simp only[go_sem,seval,VO,t41,WO];refine⟨ar,_,?_,3,by omega,rfl,hs,by rw[ej,hp,hv];rfl,rfl⟩;omega
  .have WO:S 42=vI 3:=t42;apply sR;simp only[go_sem,seval,t11,t41,WO];exact hs
 .rintro⟨S,J⟩ ⟨hs,t11⟩;simp only at hs t11;refine mS 15 ?_;simp only[go_sem,seval,t11];exact aD.pure hs rfl
end Go.Vc
