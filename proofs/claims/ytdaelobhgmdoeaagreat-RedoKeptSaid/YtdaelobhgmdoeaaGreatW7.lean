/- Part 7 of the library of this proof. -/
import Derived.Test.YtdaelobhgmdoeaaGreatW6
set_option linter.all false
set_option maxHeartbeats 8000000
set_option maxRecDepth 100000
namespace Go.Vc
open Go.Proofs Go.Proofs.Tryz
def ups(l:List Nd):Nat->Int->List Int
 |0,_=>[]
 |f+1,p=>if 0<=p then p::ups l f (eM l p.toNat)else[]
def AW{l:List Nd}{f:Nat}{p:Int}(h:p<0):ups l f p=[]:=by
 cases f with
 |zero=>rfl
 |succ f=>rw[ups,ao (by omega)]
def uT{l:List Nd}{f:Nat}{p:Int}(h:0<=p)(hf:p<f):∃g,f=g+1/\ups l f p=p::ups l g (eM l p.toNat):=by
 cases f with
 |zero=>omega
 |succ f=>exact⟨f,rfl,by rw[ups,aq h]⟩
def gl(l:List Nd)(a:Nat):-1<=eM l a/\eM l a<a:=xR l a a
def ldN(U:ag)(l:List Nd):bF U false 1 (.rp (aC l))=some (aC l):=rfl
def fdN(l:List Nd):lx false 0 1 (.rp (.agg [aC l]))=some (.rp (aC l)):=rfl
def pz(l:List Int):List (List V):=l.map λp=>[vI p]
def w9(l:List Nd)(hl:cT l)(hb:Xw l=true)(a:Nat)(ha:a<l.length):Iter prog 260 [.rp (.agg [aC l]),.rp (vI a)] (pz (ups l (l.length+1) (eM l a))):=by
 have hhas:xX l (a:Int)=true:=By.2 ⟨by omega,by omega⟩;have hpr:=gl l a;refine⟨Se.c,λXe τ Jx Z0 hy hJ=>?_⟩;refine(Se.r (by simp[OC]) ?_).2;refine ab.mix 5 ?_;apply sR;simp only[BB,seval,bf,ez,aF,ft,Yp.nothing,OC,ldN,fdN];refine ab.au rfl rfl rfl (Qt l a _) ?_;rw[hhas];apply sR;simp only[BB,seval,bf,ez,aF,ft,Yp.nothing,ldN,fdN];refine ab.au rfl rfl rfl (yH l hl hb a ha _) ?_;apply sR;simp only[go_sem,seval];refine ab.loop (λm st=>∃(pre:List Int) (q:Int) (f:Nat) (ZJ:ag),m=(q+1).toNat/\-1<=q/\q<l.length/\q<f/\ups l (l.length+1) (eM l a)=pre++ups l f q/\τ (pz pre) ZJ/\aa ZJ st.U/\
  st.s 0=.yl Xe/\st.s 1=.rp (.agg [aC l])/\st.s 4=vI q) (eM l a+1).toNat ?_ ?_
 .exact⟨[],eM l a,l.length+1,Z0,rfl,by omega,by omega,by omega,rfl,hJ,aa.refl _,rfl,rfl,rfl⟩
 .rintro m ⟨s,Z'⟩ ⟨pre,q,f,ZJ,rfl,hq1,hq2,hqf,Zw,hJp,G',h0,h1,h4⟩;simp only at G' h0 h1 h4;refine ab.mix 5 ?_;by_cases hq:0<=q
  .obtain⟨g,rfl,hu⟩:=uT (l:=l) hq hqf;obtain⟨k,rfl⟩:∃k:Nat,q=k:=⟨q.toNat,by omega⟩
   have hge:((k:Int)>=0)=True:=by simp
   rw[fc]at hu;have hpk:=gl l k;have Yn:k<l.length:=by omega
   have e:pz (ups l (l.length+1) (eM l a))=pz pre++[vI k]::pz (ups l g (eM l k)):=by rw[Zw,hu];simp[pz]
   apply sR;simp only[go_sem,seval,h0,h4,hge];refine ab.oS (Post:=λb Z2=>∃Xc,aY ZJ Z' Xc Z2/\((b=true/\τ (pz pre++[[vI k]]) Xc)\/(b=false/\Jx (pz pre++[[vI k]]) Xc))) rfl rfl rfl (hy _ [vI k] _ ZJ Z' e hJp G') ?_;rintro b Z2 ⟨Xc,Yh,XM⟩;rcases XM with⟨rfl,XM⟩|⟨rfl,XM⟩
   .apply sR;simp only[BB,seval,bf,ez,aF,Yp.nothing,h1,h4,ldN,fdN];refine ab.au rfl rfl rfl (yH l hl hb k Yn _) ?_;apply sR;simp only[go_sem,seval,h0,h1];refine⟨_,?_,pre++[(k:Int)],eM l k,g,Xc,rfl,by omega,by omega,by omega,by rw[Zw,hu];simp,?_,Yh.1,by simp⟩
    .omega
    .simpa[pz]using XM
   .apply sR;simp only[go_sem,seval];refine⟨_,Xc,Yh.1,Wk.refl Yh.1 _,.inr ⟨pz pre++[[vI k]],?_,XM⟩⟩;rw[e];exact⟨pz (ups l g (eM l k)),by simp⟩
  .have hge:(q>=0)=False:=by simp;omega
   apply sR;simp only[go_sem,seval,h4,hge];rw[AW (l:=l) (f:=f) (p:=q) (by omega),lO]at Zw;exact⟨_,ZJ,G',Wk.refl G' _,.inl (by rw[Zw];exact hJp)⟩
def BW(l:List Nd)(a:Int):aK prog 215 [.agg [aC l],vI a] (.fn 260 [.rp (.agg [aC l]),.rp (vI a)]):=λU=>by
 refine WC.r (by simp[Pb]) ?_;refine ab.mix 4 ?_;have q1:(V.agg [aC l]).cells.length=1:=rfl;have q2:(V.agg [aC l]).stays=true:=rfl;generalize V.agg [aC l]=x at*;apply sR;simp only[go_sem,seval,Pb,q1,q2];refine ad λid1 Z1 s1 a1 f1=>?_;simp only[go_sem,seval];refine ad λid2 Z2 s2 a2 f2=>?_;simp only[go_sem,seval];exact⟨_,U,s1.trans s2,Wk.fn (vs':=[.rp x,.rp (vI a)]) ⟨Wk.ptr (s1.trans s2) (s2 _ _ a1) f1,Wk.ptr (s1.trans s2) a2 (s1.none f2),trivial⟩,rfl,rfl⟩
def DU(l:List Nd)(hl:cT l)(hb:Xw l=true)(a:Nat)(ha:a<l.length):aK prog 277 [aC l,vI a] (vI (eM l a)):=λU=>by
 refine VC.r (by simp[Rg]) ?_;refine ab.mix 5 ?_;have hit:=w9 l hl hb a ha;have hpr:=gl l a;apply sR;simp only[go_sem,seval,Rg];refine ad λid4 Z1 s1 a4 f4=>?_;simp only[go_sem,seval];refine ab.au rfl rfl rfl (DN l hl hb _) ?_;apply sR;simp only[go_sem,seval];refine ab.au rfl rfl rfl (BW l a _) ?_;apply sR;simp only[go_sem,seval];generalize hS:mix 5 _ _=S;have S4:S 4=.ptr id4 0 0:=by rw[<-hS];rfl
 have S9:S 9=.fn 260 [.rp (.agg [aC l]),.rp (vI a)]:=by rw[<-hS];rfl
 clear hS;have hx0:∀x pre post,pz (ups l (l.length+1) (eM l a))=pre++x::post->pre=[]->x=[vI (eM l a)]:=λx pre post h hp=>by
  subst hp;by_cases h0:0<=eM l a
  .obtain⟨g,_,hu⟩:=uT (l:=l) (f:=l.length+1) h0 (by omega);rw[hu]at h;simp only[pz,eo,j6,List.cons.injEq]at h;exact h.1.symm
  .rw[AW (by omega)]at h;simp[pz]at h
 refine ab.ej (g:=.t 9) (caps:=[.rp (.agg [aC l]),.rp (vI a)]) S9 hit (λx hx=>?_) [] (λpre ZJ=>pre=[]/\ZJ=Z1) (λc pre ZJ=>c=none/\ZJ=C' Z1 id4 ⟨3,1,[vI (eM l a)]⟩) ?_ ?_ ?_ ?_ ?_
 .simp only[pz,gM]at hx;obtain⟨t,_,rfl⟩:=hx;rfl
 .exact⟨rfl,rfl⟩
 .rintro pre x post ZJ ZB Zw ⟨rfl,rfl⟩ G';obtain rfl:=hx0 x [] post Zw rfl;have b4:=G' _ _ a4;generalize YY:n9 S [10] [vI (eM l a)]=S0;have T4:S0 4=.ptr id4 0 0:=by rw[<-YY];exact S4
  have T10:S0 10=vI (eM l a):=by rw[<-YY];rfl
  clear YY;refine ab.mix 11 ?_;apply sR;simp only[go_sem,seval,T10];refine ab.mix 11 ?_;apply sR;simp only[go_sem,seval,T4,b4];exact⟨_,(aY.refl G').set (o:=⟨3,1,[vI 0]⟩) a4,rfl⟩
 .rintro Z' ⟨hn,rfl⟩;have hpm:eM l a=-1:=by
   by_cases h0:0<=eM l a
   .obtain⟨g,_,hu⟩:=uT (l:=l) (f:=l.length+1) h0 (by omega);rw[hu]at hn;simp[pz]at hn
   .omega
  refine ab.mix 5 ?_;apply sR;simp only[go_sem,seval,S4,a4];rw[hpm];exact ak.pure (s1.av f4) rfl
 .intro id h;cases h
 .rintro pre Z' _ ⟨_,rfl⟩;refine ab.mix 5 ?_;apply sR;simp only[go_sem,seval,S4,af];exact ak.pure (s1.av f4) rfl
open Go.Proofs Go.Proofs.Tryz
def nh{l:List Nd}{a b:Int}:iF l a b=true↔0<=a/\b<l.length/\a<=b/\b<a+Xl l a.toNat:=by
 simp only[iF,Ba,By,Zs];constructor
 .rintro⟨h1,h2,h3,h4⟩;omega
 .rintro⟨h1,h2,h3,h4⟩;omega
def yQ(l:List Nd)(b:Nat):∀k,(uO l b k=-1/\∀i:Nat,i<k->iF l i b=false)\/∃q:Nat,uO l b k=q/\q<k/\iF l q b=true/\∀i:Nat,q<i->i<k->iF l i b=false
 |0=>.inl ⟨rfl,λi h=>by omega⟩
 |k+1=>by
  rw[uO];cases hk:iF l k b
  .simp only[fG,↓reduceIte];rcases yQ l b k with⟨h1,h2⟩|⟨q,h1,h2,h3,h4⟩
   .refine .inl ⟨h1,λi hi=>?_⟩;by_cases e:i=k
    .rw[e];exact hk
    .exact h2 i (by omega)
   .refine .inr ⟨q,h1,by omega,h3,λi hi Yc=>?_⟩;by_cases e:i=k
    .rw[e];exact hk
    .exact h4 i hi (by omega)
  .simp only[↓reduceIte];exact .inr ⟨k,rfl,by omega,hk,λi hi Yc=>by omega⟩
def nest{l:List Nd}(hb:Xw l=true){x q:Nat}(hx:x<l.length)(h1:x<=q)(h2:(q:Int)<x+Xl l x)(hq:q<l.length):(q:Int)+Xl l q<=x+Xl l x:=by
 by_cases e:x=q
 .subst e;omega
 .have Xo:bW l 0 l.length=true:=by simp only[Xw,Ba]at hb;exact hb.2
  obtain⟨z1,z2⟩:=si hb hx;obtain⟨z3,_⟩:=cL (Xm _) Xo (Nat.zero_le x) hx;have hin:=ou l (l.length+1) 0 l.length (by omega) (Xm _) Xo x (by omega) hx hx;rw[<-mR hx]at hin;have:=(cL (e:=x+(Xl l x).toNat) (by omega) hin (k:=q) (by omega) (by omega)).1;omega
def HW(l:List Nd):∀(f:Nat) (p x:Int),x∈ups l f p->0<=x/\x<=p
 |0,_,_,h=>by simp[ups]at h
 |f+1,p,x,h=>by
  rw[ups]at h;split at h
  .rcases db.1 h with rfl|h
   .omega
   .have:=HW l f _ x h;have:=gl l p.toNat;omega
  .simp at h
def qT{l:List Nd}{a b:Nat}:∀k:Nat,(∀i:Nat,i<k->iF l i a=iF l i b)->gV l a k=gV l b k
 |0,_=>rfl
 |k+1,h=>by
  rw[gV,gV,h k (by omega),qT k λi hi=>h i (by omega)]
def nR{l:List Nd}{a q:Nat}:∀k:Nat,q<=k->(∀i:Nat,q<=i->i<k->iF l i a=false)->gV l a k=gV l a q
 |0,h,_=>by rw[Nat.le_zero.1 h]
 |k+1,h,hh=>by
  by_cases e:q=k+1
  .rw[e]
  .rw[gV,hh k (by omega) (by omega),ao (by simp)];exact nR k (by omega) λi h1 h2=>hh i h1 (by omega)
def zf{l:List Nd}(hb:Xw l=true):∀(f a:Nat),a<l.length->eM l a<f->ups l f (eM l a)=gV l a a
 |f,a,ha,hf=>by
  rcases yQ l a a with⟨h1,h2⟩|⟨q,h1,h2,h3,h4⟩
  .have e:eM l a=-1:=h1;rw[e,AW (by omega),nR (q:=0) a (by omega) λi _ hi=>h2 i hi];rfl
  .have e:eM l a=q:=h1;rw[e]at hf|-;obtain⟨g,rfl,hu⟩:=uT (l:=l) (f:=f) (p:=q) (by omega) hf;rw[hu,fc];have hpq:=gl l q;rw[zf hb g q (by omega) (by omega),nR (q:=q+1) a (by omega) λi i1 i2=>h4 i (by omega) i2,gV,h3,aq rfl];congr 1;refine qT q λi hi=>?_;rw[Bool.eq_iff_iff,nh,nh];rw[nh]at h3;simp only[fc]at h3|-;constructor
   .rintro⟨_,_,_,g4⟩;have:=nest hb (x:=i) (q:=q) (by omega) (by omega) g4 (by omega);omega
   .rintro⟨_,_,_,_⟩;omega
open Go.Proofs Go.Proofs.Tryz
def aY.Hd{ZJ U Xc Z':ag}(h:aY ZJ U Xc Z'){e:Option Nat}(he:∀i,e=some i->∃o,Xc i=some o):aY ZJ U (Vc.bz Xc e) (Vc.bz Z' e):=by
 cases e with
 |none=>exact h
 |some e=>
  refine⟨Fm h.1,λi o h1 h2=>?_⟩;obtain⟨h3,h4⟩:=h.2 i o h1 h2;have:i≠e:=λe'=>by subst e';obtain⟨o',ho'⟩:=he i rfl;rw[h4]at ho';cases ho'
  simp only[Vc.bz,dg this];exact⟨h3,h4⟩
def aM.Hq{K ZJ Z1:ag}{e sz:Nat}{v:V}{rows:List V}(h:aM K ZJ e sz v rows)(hs:aa ZJ Z1):
 ∃WW,bV Z1 e sz v=some (rows,WW)/\∀i,WW=some i->K i=none/\∃o,ZJ i=some o:=by
 rcases h with⟨rfl,rfl⟩|⟨id,rfl,ho,hk⟩
 .exact⟨none,rfl,λ_ h=>by cases h⟩
 .refine⟨some id,?_,λi h=>by cases h;exact⟨hk,_,ho⟩⟩;simp only[bV,hs _ _ ho];rw[aq ⟨trivial,trivial,trivial,Xm _⟩,iR]
def aX(U:ag)(id:Nat):ag:=λi=>if i=id then some ⟨0,0,[]⟩else U i
def aH{U:ag}{id i:Nat}:aX U id i=none↔i≠id/\U i=none:=by
 unfold aX;split
 .rename_i h;simp[h]
 .rename_i h;simp[h]
def rb{α:Type}{f:α->V}{xs:List α}{pre post:List (List V)}{x:List V}(h:(xs.map λa=>[f a])=pre++x::post):∃a,xs[pre.length]?=some a/\x=[f a]:=by
 have:=congrArg (·[pre.length]?) h;simp only[qX,KO (Xm _),Nat.sub_self,L4,Zq8]at this;obtain⟨t,h1,h2⟩:=this;exact⟨t,h1,h2.symm⟩
def BU{g:FuncId}{caps:List V}{xs:List Int}(hit:Iter prog g caps (xs.map λn=>[vI n]))(hx:xs.length<=1000000)(U:ag):
 ax prog 259 [.ay,.fn g caps] U λr Z'=>aa U Z'/\aM U Z' 3 1 r (xs.map vI):=by
 refine VI.r (by simp[Q3]) ?_;refine ab.mix 8 ?_;apply sR;simp only[go_sem,seval,Q3];refine ad λid2 Z2 s2 a2 f2=>?_;simp only[go_sem,seval];generalize hS:mix 8 _ _=S;have S2:S 2=.ptr id2 0 0:=by rw[<-hS];rfl
 have S6:S 6=.fn g caps:=by rw[<-hS];rfl
 clear hS;refine ab.ej (g:=.t 6) (caps:=caps) S6 hit (λx hx=>?_) [] (λpre ZJ=>∃v,ZJ id2=some ⟨57,1,[v]⟩/\aa U ZJ/\aM (aX U id2) ZJ 3 1 v ((xs.take pre.length).map vI))
  (λ_ _ _=>False) ?_ ?_ ?_ ?_ ?_
 .obtain⟨t,_,rfl⟩:=gM.1 hx;rfl
 .exact⟨.ay,a2,s2,by simpa using aM.start⟩
 .rintro pre x post ZJ ZB Zw ⟨v,J2,Js,Jo⟩ G';obtain⟨t,hti,rfl⟩:=rb (f:=vI) Zw;have XB:xs.take (pre.length+1)=xs.take pre.length++[t]:=by rw[LV,hti];rfl
  have hlen:(pre++[[vI t]]).length=pre.length+1:=by simp
  rw[hlen,XB];have Yn:((xs.take pre.length).map vI).length<=1000001:=by simp;omega
  have hvc:v.cells=[v]:=by rcases Jo with⟨rfl,_⟩|⟨_,rfl,_⟩<;>rfl
  generalize Xo:((xs.take pre.length).map vI)=rows at*;have b2:=G' _ _ J2;generalize YY:n9 S [7] [vI t]=S0;have T2:S0 2=.ptr id2 0 0:=by rw[<-YY];exact S2
  have T7:S0 7=vI t:=by rw[<-YY];rfl
  refine ab.mix 8 ?_;apply sR;simp only[go_sem,seval,T7];apply sR;simp only[go_sem,seval,T2,b2,hvc];rw[bK];intro id28 f28;have hBs:=(aY.refl G').se (o:=⟨3,1,[vI t]⟩) f28;have y2:C' ZB id28 ⟨3,1,[vI t]⟩ id2=some ⟨57,1,[v]⟩:=by rw[ae (al b2 f28)];exact b2
  have a28:C' ZB id28 ⟨3,1,[vI t]⟩ id28=some ⟨3,1,[vI t]⟩:=af;generalize C' ZB id28 ⟨3,1,[vI t]⟩=Z8 at*;obtain⟨WW,Yj,hdA⟩:=Jo.Hq hBs.1;have XW:(rows.length+1)*9<=140737488355328:=by omega
  have k2:aX U id2 id2≠none:=λh=>(aH.1 h).1 rfl;have dne:∀(i:Nat) (Zx:ag),aX U id2 i≠none->Vc.bz Zx WW i=Zx i:=λi Zx hk=>by
   cases WW with
   |none=>rfl
   |some a=>exact dg (λe=>hk (by rw[e];exact(hdA a rfl).1))
  simp only[go_sem,seval,Yj,du a28,XW];rw[bK];intro YZ f29;have f29:Z8 YZ=none:=f29;have m29:id2≠YZ:=al y2 f29;have f29':Vc.bz Z8 WW YZ=none:=by
   cases WW with
   |none=>exact f29
   |some a=>simp only[Vc.bz,del];split<;>first|rfl|exact f29
  have y2':C' (Vc.bz Z8 WW) YZ ⟨3,1,rows++[vI t]⟩ id2=some ⟨57,1,[v]⟩:=by rw[ae m29,dne _ _ k2];exact y2
  have hB9:=((hBs.Hd (e:=WW) λi h=>(hdA i h).2).new (o:=⟨3,1,rows++[vI t]⟩) f29').set (id:=id2) (o:=⟨57,1,[v]⟩) (o':=⟨57,1,[.own YZ 0 (rows.length+1)]⟩) (by rw[ae m29,dne _ _ k2];exact J2);simp only[go_sem,seval,hvc,y2',T2];refine⟨_,hB9,.own YZ 0 (rows.length+1),af,?_,?_⟩
  .refine aa.av (λi o h=>?_) f2;have h1:=Js _ _ h;rw[ae (al (hBs.1 _ _ h1) f29),dne _ _ (λhk=>by rw[(aH.1 hk).2]at h;cases h)];exact h1
  .rw[gB,Xo];refine aM.new (by simp) (by rw[ae m29.symm,af];rfl) ?_;rw[aH];refine⟨m29.symm,?_⟩;cases h:U YZ with
   |none=>rfl
   |some o=>rw[hBs.1 _ _ (Js _ _ h)]at f29;cases f29
 .rintro Z' ⟨v,J2,Js,Jo⟩;rw[dd,iR]at Jo;have hvc:v.cells=[v]:=by rcases Jo with⟨rfl,_⟩|⟨_,rfl,_⟩<;>rfl
  refine ab.mix 5 ?_;apply sR;simp only[go_sem,seval,S2,J2,hvc];refine⟨_,_,aa.refl _,Wk.refl (aa.refl _) _,Js,?_⟩;rcases Jo with h|⟨id,h1,h2,h3⟩
  .exact .inl h
  .exact .inr ⟨id,h1,h2,(aH.1 h3).2⟩
 .intro id h;cases h
 .rintro pre Z' _ ⟨⟩
def zk{g:FuncId}{caps:List V}{xs:List Int}(hit:Iter prog g caps (xs.map λn=>[vI n]))(hx:xs.length<=1000000):
 aK prog 214 [.fn g caps] (bb xs):=λU=>by
 refine UQ.r (by simp[Og]) ?_;refine ab.mix 3 ?_;apply sR;simp only[go_sem,seval,Og];refine ab.call rfl rfl rfl (BU hit hx U) ?_;rintro r Z1 ⟨h1,h2⟩;apply sR;simp only[go_sem,seval];exact h2.Ie h1 rfl
def abv(l:List Nd)(a:Nat):List Int:=ups l (l.length+1) (eM l a)
def jv(l:List Nd):∀(f:Nat) (p:Int),(ups l f p).length<=f
 |0,_=>by simp[ups]
 |f+1,p=>by
  rw[ups];split
  .have:=jv l f (eM l p.toNat);simp only[XX];omega
  .simp
def Pz{l:List Nd}(hb:Xw l=true){a:Nat}(ha:a<l.length):abv l a=gV l a a:=zf hb _ _ ha (by have:=gl l a;omega)
def Dt(l:List Nd)(hl:cT l)(hb:Xw l=true)(hn:l.length<=100000)(a:Nat)(ha:a<l.length):aK prog 159 [aC l,vI a] (bb (abv l a)):=λU=>by
 refine Wd.r (by simp[Ql]) ?_;refine ab.mix 5 ?_;apply sR;simp only[go_sem,seval,Ql];refine ab.au rfl rfl rfl (DN l hl hb _) ?_;apply sR;simp only[go_sem,seval];refine ab.au rfl rfl rfl (BW l a _) ?_;apply sR;simp only[go_sem,seval];refine ab.au rfl rfl rfl (zk (w9 l hl hb a ha) (by have:=jv l (l.length+1) (eM l a);omega) _) ?_;apply sR;simp only[go_sem,seval];exact ak.same rfl
structure SOk(s:YA):Prop where
 top:0<=s.top/\s.top<=1099511627776
 W3:0<=s.W3/\s.W3<=1099511627776
 WU:0<=s.WU/\s.WU<=1099511627776
 WI:0<=s.WI/\s.WI<=1099511627776
 XO:0<=s.XO/\s.XO<=1099511627776
 Xj:0<=s.Xj/\s.Xj<=1099511627776
 Xt:0<=s.Xt/\s.Xt<=1099511627776
 head:0<=s.head/\s.head<=1099511627776
 before:0<=s.before/\s.before<=4
 after:0<=s.after/\s.after<=4
 inside:0<=s.inside/\s.inside<=1
 clear:0<=s.clear/\s.clear<=3
structure NOk(x:Nd):Prop where
 st:SOk x.st
 kind:x.kind=1\/x.kind=2\/x.kind=3\/x.kind=4
 line:0<=x.line/\x.line<=1099511627776
 space:0<=x.space/\x.space<=1099511627776
 words:∀w∈x.words,1<=w/\w<=1099511627776
 w:0<=x.w/\x.w<=1099511627776
 h:0<=x.h/\x.h<=1099511627776
 side:0<=x.side/\x.side<=2
 text:x.kind=2->0<x.words.length/\1<=x.line
 box:x.kind=3\/x.kind=4->1<=x.w/\1<=x.h
 fl:x.kind=4->1<=x.side
 kY:x.kind≠1->x.st=YA.zero
 nowords:x.kind≠2->x.words=[]
def qm{n a b:Int}:bj n a b=true↔a<=n/\n<=b:=by simp[bj]
def H8:SOk YA.zero:=by constructor<;>simp[YA.zero]
def QR{s:YA}(h:s.ok=true):SOk s:=by
 simp only[YA.ok,Ba,qm,mx]at h;constructor<;>omega
def N2{x:Nd}(h:x.ok=true):NOk x:=by
 unfold Nd.ok at h;split at h
 .rename_i hk;simp only[Ba,Zs]at h;obtain⟨⟨⟨⟨⟨⟨h1,h2⟩,h3⟩,h4⟩,h5⟩,h6⟩,h7⟩:=h;have hw:x.words=[]:=rF h4;exact⟨QR h1,.inl hk,by omega,by omega,by rw[hw];simp,by omega,by omega,by omega,by omega,by omega,by omega,by omega,λ_=>hw⟩
 .rename_i hk;split at h
  .cases h
  .rename_i WY;have hs:x.st=YA.zero:=Classical.byContradiction WY;have hso:SOk x.st:=by rw[hs];exact H8
   split at h
   .rename_i ZO;simp only[Ba,Zs,qm,mx,eT]at h;obtain⟨⟨⟨⟨⟨⟨h1,h2⟩,h3⟩,h4⟩,h5⟩,h6⟩,h7⟩:=h;exact⟨hso,.inr (.inl ZO),by omega,by omega,h1,by omega,by omega,by omega,λ_=>⟨h2,h3.1⟩,by omega,by omega,λ_=>hs,by omega⟩
   .rename_i ZO;simp only[Ba,kX,Zs,qm,mx]at h;obtain⟨⟨⟨⟨⟨h1,h2⟩,h3⟩,h4⟩,h5⟩,h6⟩:=h;have hw:x.words=[]:=rF h3;exact⟨hso,by omega,by omega,by omega,by rw[hw];simp,by omega,by omega,by omega,by omega,by omega,by omega,λ_=>hs,λ_=>hw⟩
def gC{l:List Nd}(hb:Xw l=true){a:Nat}(h:a<l.length):NOk l[a]:=by
 simp only[Xw,Ba,eT]at hb;exact N2 (hb.1 _ (XI h))
open Go.Proofs Go.Proofs.Tryz
structure Rm where
 (x w:Int)
deriving DecidableEq
def lk(r:Rm):V:=.agg [vI r.x,vI r.w]
def cz(l:List Rm):V:=.sl 2 (l.map lk)
def Kd(l:List Nd)(a:Nat):Int:=((l[a]?).map λn=>n.st.XO).getD 0
def qj(r:Rm)(i:Int):Rm:=⟨min (r.x+i) 1099511627776,max (r.w-2*i) 1⟩
def cU(l:List Nd):Nat->Nat->Nat->Rm->List Rm
 |0,_,_,_=>[]
 |k+1,a,e,r=>if a<e then r::(cU l k (a+1) (a+(Xl l a).toNat) (qj r (Kd l a))++cU l k (a+(Xl l a).toNat) e r)else[]
def nq{l:List Nd}{e:Nat}(he:e<=l.length):∀(k a:Nat) (r:Rm),e-a<=k->a<=e->bW l a e=true->(cU l k a e r).length=e-a
 |0,a,r,hk,ha,_=>by simp[cU];omega
 |k+1,a,r,hk,ha,hr=>by
  rw[cU];split
  .rename_i H';obtain⟨h1,h2⟩:=cL he hr (Xm a) H';obtain⟨h3,h4⟩:=dB he hr H';have ih:=nq he k (a+(Xl l a).toNat) r (by omega) (by omega) h3;have ih2:=nq (e:=a+(Xl l a).toNat) (by omega) k (a+1) (qj r (Kd l a)) (by omega) (by omega) h4;simp only[XX,iz];omega
  .simp;omega
def lp{l:List Nd}{e:Nat}(he:e<=l.length):∀(k j a:Nat) (r:Rm),e-a<=k->e-a<=j->bW l a e=true->cU l k a e r=cU l j a e r
 |0,0,_,_,_,_,_=>rfl
 |0,j+1,a,r,h,_,_=>by rw[cU,cU,ao (by omega)]
 |k+1,0,a,r,_,h,_=>by rw[cU,cU,ao (by omega)]
 |k+1,j+1,a,r,h,h',hr=>by
  rw[cU,cU];split
  .rename_i H';obtain⟨h1,h2⟩:=cL he hr (Xm a) H';obtain⟨h3,h4⟩:=dB he hr H';rw[lp he k j _ _ (by omega) (by omega) h3,lp (e:=a+(Xl l a).toNat) (by omega) k j _ _ (by omega) (by omega) h4]
  .rfl
def cA{U:ag}{l:List Nd}{a:Nat}(h:a<l.length):bp U 20 (aC l) (.int .i64 a)=some (.rp (.agg (Nd.cells l[a]))):=by
 simp[aC,bp,h,jE]
def rD(U:ag)(a b c:Nat):ag:=λi=>if i=a\/i=b\/i=c then some ⟨0,0,[]⟩else U i
def gj{U:ag}{a b c i:Nat}:rD U a b c i=none↔i≠a/\i≠b/\i≠c/\U i=none:=by
 unfold rD;split
 .rename_i h;simp;intro h1 h2 h3;simp_all
 .rename_i h;simp only[not_or]at h;simp[h]
structure RmJ(l:List Nd)(Z0:ag)(il io ip:Nat)(rows:List V)(U:ag):Prop where
 rl:U il=some ⟨22,1,[aC l]⟩
 rp:U ip=some ⟨256,1,[.fn 162 [.ptr il 0 0,.ptr io 0 0,.ptr ip 0 0]]⟩
 sub:aa Z0 U
 no:Z0 io=none
 out:∃v,U io=some ⟨204,1,[v]⟩/\aM (rD Z0 il io ip) U 258 2 v rows
def B7(r:Rm):(lk r).cells=[vI r.x,vI r.w]:=rfl
def CZ(r:Rm):(lk r).stays=true:=rfl
def Rm.ok(r:Rm):Prop:=0<=r.x/\r.x<=1099511627776/\1<=r.w/\r.w<=1099511627776
def yJ{r:Rm}(h:r.ok){i:Int}(h0:0<=i):(qj r i).ok:=by
 obtain⟨a,b,c,d⟩:=h;unfold qj Rm.ok;simp only;omega
def JR{l:List Nd}(hb:Xw l=true){a:Nat}(h:a<l.length):Kd l a=l[a].st.XO/\0<=l[a].st.XO/\l[a].st.XO<=1099511627776:=by
 refine⟨by simp[Kd,h],?_⟩;exact(gC hb h).st.XO
def JA(l:List Nd)(hl:cT l)(hb:Xw l=true)(il io ip:Nat)(nlo:il≠io)(nlp:il≠ip)(nop:io≠ip):∀(m a e:Nat) (r:Rm) (rows:List V) (Z0 U:ag),e-a<m->a<=e->e<=l.length->bW l a e=true->r.ok->
 rows.length+(e-a)<=l.length->RmJ l Z0 il io ip rows U->
 ax prog 162 [vI a,vI e,lk r,.ptr il 0 0,.ptr io 0 0,.ptr ip 0 0] U λq Z'=>q=.WJ []/\RmJ l Z0 il io ip (rows++(cU l (e-a) a e r).map lk) Z':=by
 intro m
 induction m with
 |zero=>intro a e r rows Z0 U h;omega
 |succ m ih=>?_
 intro a e r rows ZB U hm hae he hrB hr hlen hJB;have hl1:=hl.1;refine U7.r (by simp[PZ]) ?_;refine ab.mix 11 ?_;apply sR;simp only[go_sem,seval,PZ,B7,CZ];refine ad λi8 Z8 s8 a8 f8=>?_;simp only[go_sem,seval];have no8:io≠i8:=by obtain⟨v,vo,_⟩:=hJB.out;exact al vo f8
 have fB8:ZB i8=none:=hJB.sub.none f8;obtain⟨Z0,hY0⟩:∃s,s=C' ZB i8 ⟨258,2,[lk r]⟩:=⟨_,rfl⟩
 have hk8:∀i,rD Z0 il io ip i=none↔i≠i8/\rD ZB il io ip i=none:=λi=>by
  rw[gj,gj,hY0];by_cases h:i=i8
  .subst h;simp[af]
  .rw[ae h];simp[h]
 have Yv:RmJ l Z0 il io ip rows Z8:=by
  refine⟨s8 _ _ hJB.rl,s8 _ _ hJB.rp,?_,by rw[hY0,ae no8];exact hJB.no,?_⟩
  .intro i o h;rw[hY0]at h;by_cases hi:i=i8
   .subst hi;rw[af]at h;rw[a8];exact h
   .rw[ae hi]at h;exact s8 _ _ (hJB.sub _ _ h)
  .obtain⟨v,vo,Zp⟩:=hJB.out;refine⟨v,s8 _ _ vo,?_⟩;rcases Zp with h|⟨id,h1,h2,h3⟩
   .exact .inl h
   .exact .inr ⟨id,h1,s8 _ _ h2,(hk8 id).2 ⟨al h2 f8,h3⟩⟩
 have hback:∀(rows:List V) (J:ag),RmJ l Z0 il io ip rows J->RmJ l ZB il io ip rows J:=λrows J h=>by
  refine⟨h.rl,h.rp,λi o hi=>h.sub _ _ (by rw[hY0,ae (λe=>by rw[e,fB8]at hi;cases hi)];exact hi),by have:=h.no;rw[hY0,ae no8]at this;exact this,?_⟩;obtain⟨v,vo,Zp⟩:=h.out;refine⟨v,vo,?_⟩;rcases Zp with h|⟨id,h1,h2,h3⟩
  .exact .inl h
  .exact .inr ⟨id,h1,h2,((hk8 id).1 h3).2⟩
 have h08:Z0 i8=some ⟨258,2,[lk r]⟩:=by rw[hY0];exact af
 clear hY0;refine ab.loop (λq st=>∃(b:Nat) (done:List V),q=e-b/\a<=b/\b<=e/\bW l b e=true/\done.length+(e-b)<=l.length/\rows++(cU l (e-a) a e r).map lk=done++(cU l (e-b) b e r).map lk/\RmJ l Z0 il io ip done st.U/\
  st.s 1=vI e/\st.s 3=.ptr il 0 0/\st.s 4=.ptr io 0 0/\st.s 5=.ptr ip 0 0/\st.s 8=.ptr i8 0 0/\st.s 9=vI b) (e-a) ?_ ?_
 .exact⟨a,rows,rfl,Xm _,hae,hrB,hlen,rfl,Yv,rfl,rfl,rfl,rfl,rfl,rfl⟩
 .rintro q ⟨S,J⟩ ⟨b,done,rfl,hab,hbe,hbB,hdl,hdn,hJ,t1,t3,t4,t5,t8,t9⟩;simp only at hJ t1 t3 t4 t5 t8 t9;refine ab.mix 11 ?_;by_cases H':b<e
  .have q1:((b:Int)<(e:Int))=True:=WE;obtain⟨h1,h2⟩:=cL he hbB (Xm b) H';obtain⟨h3,h4⟩:=dB he hbB H';have XU:b<l.length:=by omega
   obtain⟨g1,g2,g3⟩:=JR hb XU;have Zb:=mR XU;obtain⟨v,vo,Zp⟩:=hJ.out;have hvc:v.cells=[v]:=by rcases Zp with⟨rfl,_⟩|⟨_,rfl,_⟩<;>rfl
   have r8:=hJ.sub _ _ h08;have r8':=r8;rw[lk]at r8';apply sR;simp only[go_sem,seval,q1,t1,t4,t8,t9,r8',vo,hvc];refine ad λi24 Z24 s24 a24 f24=>?_;obtain⟨WW,Yj,hdA⟩:=Zp.Hq s24;have XW:(done.length+1)*17<=140737488355328:=by omega
   simp only[go_sem,seval,Yj,du a24,XW];rw[bK];intro i25 f25;have f25:Z24 i25=none:=f25;have dne:∀(i:Nat) (Zx:ag),rD Z0 il io ip i≠none->Vc.bz Zx WW i=Zx i:=λi Zx hk=>by
    cases WW with
    |none=>rfl
    |some a=>exact dg (λe=>hk (by rw[e];exact(hdA a rfl).1))
   have kl:rD Z0 il io ip il≠none:=λh=>(gj.1 h).1 rfl;have ko:rD Z0 il io ip io≠none:=λh=>(gj.1 h).2.1 rfl;have kp:rD Z0 il io ip ip≠none:=λh=>(gj.1 h).2.2.1 rfl;have ol:=s24 _ _ hJ.rl;have oo:=s24 _ _ vo;have op:=s24 _ _ hJ.rp;have o8:=s24 _ _ r8;have nl:=al ol f25;have no:=al oo f25;have np:=al op f25;have n8:=al o8 f25;have hsub25:aa Z0 (C' (Vc.bz Z24 WW) i25 ⟨258,2,done++[.agg [vI r.x,vI r.w]]⟩):=λi o h=>by
    have h1:=s24 _ _ (hJ.sub _ _ h);rw[ae (al h1 f25),dne _ _ (λhk=>by rw[(gj.1 hk).2.2.2]at h;cases h)];exact h1
   have pl:(C' (Vc.bz Z24 WW) i25 ⟨258,2,done++[.agg [vI r.x,vI r.w]]⟩) il=some ⟨22,1,[aC l]⟩:=by rw[ae nl,dne _ _ kl];exact ol
   have po:(C' (Vc.bz Z24 WW) i25 ⟨258,2,done++[.agg [vI r.x,vI r.w]]⟩) io=some ⟨204,1,[v]⟩:=by rw[ae no,dne _ _ ko];exact oo
   have pp:(C' (Vc.bz Z24 WW) i25 ⟨258,2,done++[.agg [vI r.x,vI r.w]]⟩) ip=some ⟨256,1,[.fn 162 [.ptr il 0 0,.ptr io 0 0,.ptr ip 0 0]]⟩:=by rw[ae np,dne _ _ kp];exact op
   have p25:(C' (Vc.bz Z24 WW) i25 ⟨258,2,done++[.agg [vI r.x,vI r.w]]⟩) i25=some ⟨258,2,done++[.agg [vI r.x,vI r.w]]⟩:=af;have f0:Z0 i25=none:=(hJ.sub.trans s24).none f25;have U':=λU=>cA (U:=U) XU;have q2:((b:Int)+1)=((b+1:Nat):Int):=by omega
   have q3:((b:Int)+l[b].size)=((b+(Xl l b).toNat:Nat):Int):=by rw[Zb];omega
   obtain⟨rx0,rx1,rw0,rw1⟩:=id hr;have r1:WR .i64 ((b:Int)+1):=ai;have r2:WR .i64 ((b:Int)+l[b].size):=ai;have r3:WR .i64 (r.x+l[b].st.XO):=ai;have r4:WR .i64 (2*l[b].st.XO):=ai;have r5:WR .i64 (r.w-2*l[b].st.XO):=ai;generalize C' (Vc.bz Z24 WW) i25 ⟨258,2,done++[.agg [vI r.x,vI r.w]]⟩=Z25 at*;have p8:=hsub25 _ _ h08;rw[lk]at p8;simp only[go_sem,seval,t3,t4,t5,t8,t9,pl,po,pp,p8,hvc,cg,ae no8.symm,ae nlo,ae nop.symm,U',Nd.cells,r1,r2,r3,r4,r5,dr,gT];have YT:RmJ l Z0 il io ip (done++[.agg [vI r.x,vI r.w]]) (C' Z25 io ⟨204,1,[.own i25 0 (done.length+1)]⟩):=by
    refine⟨by rw[ae nlo];exact pl,by rw[ae nop.symm];exact pp,hsub25.av hJ.no,hJ.no,_,af,aM.new (by simp) (by rw[ae no.symm];exact p25) (gj.2 ⟨nl.symm,no.symm,np.symm,f0⟩)⟩
   have hc:=ih (b+1) (b+(Xl l b).toNat) (qj r l[b].st.XO) (done++[.agg [vI r.x,vI r.w]]) Z0 _ (by omega) (by omega) (by omega) h4 (yJ hr g2) (by simp only[iz,XX,List.length_nil];omega) YT;rw[<-q2,<-q3]at hc;refine ab.call rfl rfl rfl hc ?_;rintro q' Z' ⟨rfl,YL⟩;have cl:=YL.rl;apply sR;simp only[go_sem,seval,t1,t3,t4,t5,t8,t9,cl,cg,U',Nd.cells,r2];have hk:cU l (e-b) b e r=r::(cU l (b+(Xl l b).toNat-(b+1)) (b+1) (b+(Xl l b).toNat) (qj r (Kd l b))++cU l (e-(b+(Xl l b).toNat)) (b+(Xl l b).toNat) e r):=by
    rw[show e-b=(e-b-1)+1 by omega,cU,aq H',lp (by omega) (e-b-1) _ _ _ (by omega) (Xm _) h4,lp he (e-b-1) _ _ _ (by omega) (Xm _) h3]
   have hln:=nq (l:=l) (e:=b+(Xl l b).toNat) (by omega) (b+(Xl l b).toNat-(b+1)) (b+1) (qj r l[b].st.XO) (Xm _) (by omega) h4;refine⟨e-(b+(Xl l b).toNat),by omega,b+(Xl l b).toNat,_,rfl,by omega,by omega,h3,?_,?_,YL,by simp[q3]⟩
   .simp only[iz,XX,List.length_nil,dd,hln];omega
   .rw[hdn,hk,g1];simp only[eo,gB,my,List.cons_append,j6];rfl
  .have q1:((b:Int)<(e:Int))=False:=O';apply sR;simp only[go_sem,seval,q1,t1,t9];refine⟨_,_,aa.refl _,Wk.refl (aa.refl _) _,rfl,?_⟩;have hz:cU l (e-b) b e r=[]:=by rw[show e-b=0 by omega];rfl
   rw[hdn,hz];exact hback _ _ (by simpa using hJ)
def MH(l:List Nd)(hl:cT l)(hb:Xw l=true)(w:Int)(h1:1<=w)(h2:w<=1099511627776):aK prog 106 [aC l,vI w] (cz (cU l l.length 0 l.length ⟨0,w⟩)):=λU=>by
 refine TM.r (by simp[Qc]) ?_;have hs:=aa.refl U;refine ab.mix 8 ?_;apply sR;simp only[go_sem,seval,Qc,cg,dR];refine ad λi2 Z2 s2 a2 f2=>?_;replace hs:=hs.trans s2;simp only[go_sem,seval,a2,cg];refine ab.au rfl rfl rfl (DN l hl hb _) ?_;apply sR;simp only[go_sem,seval];refine ad λi5 Z5 s5 a5 f5=>?_;have n25:=al a2 f5;replace a2:=s5 _ _ a2;have z5:=hs.none f5;replace hs:=hs.trans s5;have q1:(w<1)=False:=O';have q2:(w>1099511627776)=False:=O';simp only[go_sem,seval,a5,q1,q2];generalize X9:C' Z5 i5 _=Y5;have b5:Y5 i5=some ⟨254,1,[.agg [aC l]]⟩:=by rw[<-X9];exact af
 have b2:Y5 i2=some ⟨22,1,[aC l]⟩:=by rw[<-X9,ae n25];exact a2
 have hs5:aa U Y5:=by rw[<-X9];exact hs.av z5
 clear X9;refine ad λi6 Z6 s6 a6 f6=>?_;have c5:=s6 _ _ b5;have c2:=s6 _ _ b2;have z6:U i6=none:=hs5.none f6;simp only[go_sem,seval];refine ad λi7 Z7 s7 a7 f7=>?_;have d5:=s7 _ _ c5;have d2:=s7 _ _ c2;have d6:=s7 _ _ a6;have z7:U i7=none:=(hs5.trans s6).none f7;have n57:=al c5 f7;have n27:=al c2 f7;have n67:=al a6 f7;have n26:=al b2 f6;have hn:=fj l;have hnf:V.Xu.cells=[.Xu]:=rfl;simp only[go_sem,seval,a7,hnf,d5,ae n57,hn];have hJ:RmJ l U i2 i6 i7 [] (C' Z7 i7 ⟨256,1,[.fn 162 [.ptr i2 0 0,.ptr i6 0 0,.ptr i7 0 0]]⟩):=
  ⟨by rw[ae n27];exact d2,af,(((hs5.trans s6).trans s7)).av z7,z6,.ay,by rw[ae n67];exact d6,aM.start⟩
 have hc:=JA l hl hb i2 i6 i7 n26 n27 n67 (l.length+1) 0 l.length ⟨0,w⟩ [] U _ (by omega) (by omega) (by omega) (by simp only[Xw,Ba]at hb;exact hb.2) ⟨by simp,by simp,h1,h2⟩ (by simp) hJ;refine ab.call rfl rfl rfl hc ?_;rintro q Z' ⟨rfl,YL⟩;obtain⟨v,vo,Zp⟩:=YL.out;have hvc:v.cells=[v]:=by rcases Zp with⟨rfl,_⟩|⟨_,rfl,_⟩<;>rfl
 apply sR;simp only[go_sem,seval,vo,hvc];have ho:aM U Z' 258 2 v ((cU l l.length 0 l.length ⟨0,w⟩).map lk):=by
  rcases Zp with⟨h,h'⟩|⟨id,h1,h2,h3⟩
  .exact .inl ⟨h,by simpa using h'⟩
  .exact .inr ⟨id,by simpa using h1,by simpa using h2,(gj.1 h3).2.2.2⟩
 exact ho.Ie YL.sub rfl
section
variable {P:Program} {n:Nat}
def ab.Sn{st:St}{Q:St->Prop}{k:List It}{i:aD}{l:List aD}{xa:VX}(hw:aZ st.s i.g=some true)(ho:i.op=.YU false xa (.c (.iface 0 .undef))){b:Bool}
 (hx:(xa.ev st.s=.ay/\b=true)\/(∃sz r rows,xa.ev st.s=.sl sz (r::rows)/\b=false)\/∃id off m,xa.ev st.s=.own id off (m+1)/\b=false)
 (h:ab P n (.ops l::k) ⟨aQ st.s i.dst (.bool b),st.U⟩ Q):ab P n (.ops (i::l)::k) st Q:=by
 refine ab.ins (by rw[ho];simp) hw λF hn I a w o all hi hs next Q' WK=>?_
 subst hn;obtain⟨WN,hd⟩:=cW hi;rw[ho]at WN;obtain⟨t,x,y,m,c,yt,e,g1,rfl,g2,rfl⟩:=Cd WN;have R:=bU hs x;have hX:∃ba len cap,a.eval x=.slice ba len cap/\ba.isNone=b:=by
  rcases hx with⟨hx,rfl⟩|⟨sz,r,rows,hx,rfl⟩|⟨id,off,m,hx,rfl⟩
  .rw[hx]at R;simp only[E']at R;exact⟨none,0,0,R,rfl⟩
  .rw[hx]at R;simp only[E']at R;obtain⟨ba,cap,hX,_,hr⟩:=R;rcases hr with hr|⟨b,off,rfl,_⟩
   .cases hr
   .exact⟨_,_,_,hX,rfl⟩
  .rw[hx]at R;simp only[E']at R;split at R
   .exact R.elim
   .exact absurd R.2.2 (by omega)
   .obtain⟨o,c,hX,_⟩:=R;exact⟨_,_,_,hX,rfl⟩
 obtain⟨ba,len,cap,hX,rfl⟩:=hX;have Xi:(execOp a.eval o).run P w=.ok (.value (.bool ba.isNone)) w:=by
  unfold execOp;rw[g1];have hY:a.eval (.const (.slice none m c))=.slice none m c:=rfl;simp[hX,hY,eqGuard,Lib.run_eql_slice_nil w t e ba len cap m c g2]
 unfold Oper.wp;rw[Xi];refine WK _ _ _ ⟨I,?_⟩ h;rw[<-hd];exact hs.pure (by simp[E'])
end
open Go.Proofs Go.Proofs.Tryz
def yj(U:ag)(v v':V):Prop:=∀J,aa U J->Wk J kY v v'
def yj.mono{U J:ag}{v v':V}(h:yj U v v')(hs:aa U J):yj J v v':=λX' h'=>h X' (hs.trans h')
def yj.at{U:ag}{v v':V}(h:yj U v v'):Wk U kY v v':=h U (aa.refl _)
def aM.H9{K U:ag}{e sz:Nat}{v:V}{rows:List V}(h:aM K U e sz v rows):yj U v (.sl sz rows):=λJ hs=>(h.mono hs).wk (re _) (re _)
def ZV{J:ag}(v:V):Wk J kY v v:=Wk.refl (re _) _
def JF(vf:V){U:ag}(fs:List T')(hvf:yj U vf (aB fs))(ws:List Int)(space high:Int)(y:Int)(s:XR)(hl:fs.length<=1000000)(WL:∀f∈fs,f.ok)(B:Int)(hB:∀f∈fs,f.y+f.h<=B)(hB1:B<=1152921504606846976)(hy0:0<=y)(hy:y<=B)(hh:0<=high)(hh1:high<=1099511627776)
 (YR:YS s.a/\YS s.b)(hw:WOk ws space):ax prog 219 [vf,bb ws,vI space,vI high,vI y,bo s] U λr Z'=>aa U Z'/\aM U Z' 294 5 r ((dc fs ws space high s ws.length 0 y).map oC):=by
 refine To.r (by simp[QD]) ?_;have hs:=aa.refl U;have hn:=fL ws;have hln:=hw.len;refine ab.mix 16 ?_;apply sR;simp only[go_sem,seval,QD,bo];refine ad λYm Z11 s11 Zk f11=>?_;replace hs:=hs.trans s11;simp only[go_sem,seval];generalize hG:dc fs ws space high s ws.length 0 y=G;refine ab.loop (λm st=>∃(i k:Nat) (y':Int) (acc:List Ln),m=ws.length-i/\i<=ws.length/\ws.length-i<=k/\acc.length<=i/\G=acc++dc fs ws space high s k i y'/\0<=y'/\y'<=B+1099511627776*i/\aa U st.U/\aM U st.U 294 5 (st.s 13) (acc.map oC)/\
  st.U Ym=some ⟨288,2,[.agg [vI s.a,vI s.b]]⟩/\st.s 0=vf/\st.s 1=bb ws/\st.s 2=vI space/\st.s 3=vI high/\st.s 4=vI y'/\st.s 11=.ptr Ym 0 0/\st.s 14=vI i) ws.length ?_ ?_
 .exact⟨0,ws.length,y,[],rfl,by omega,by omega,by simp,hG.symm,hy0,by omega,hs,aM.start,Zk,rfl,rfl,rfl,rfl,rfl,rfl,rfl⟩
 .rintro m ⟨S,J⟩ ⟨i,k,y',acc,rfl,hi,hk,Zh,hg,hy1,hy2,G',Zp,b11,t0,t1,t2,t3,t4,t11,t14⟩;simp only at G' Zp b11 t0 t1 t2 t3 t4 t11 t14;generalize hv13:S 13=v13 at Zp;refine ab.mix 16 ?_;by_cases H':i<ws.length
  .have q:((i:Int)<ws.length)=True:=WE;obtain⟨k,rfl⟩:∃k',k=k'+1:=⟨k-1,by omega⟩
   rw[dc,aq H']at hg;have hty:=Ca (space:=space) (width:=kr (dS fs (l8 fs (ws.getD i 0) high s y') high s)) H';have hyr:=gb (w:=ws.getD i 0) (high:=high) (y:=y') (s:=s) hB;have hx:=LP fs ws space high i y' s hl WL ⟨by omega,by omega⟩ ⟨by omega,by omega⟩ YR hw H';obtain⟨x,hxe⟩:∃x,x=pD fs ws space high i y' s:=⟨_,rfl⟩
   have x1:∃j:Nat,x.to=j/\i<j/\j<=ws.length:=by rw[hxe];exact⟨_,rfl,hty⟩
   have x2:y'<=x.y/\x.y<=max y' B:=by rw[hxe];exact hyr
   rw[<-hxe]at hg hx;clear hxe hty hyr;obtain⟨j,hj,hij,hjl⟩:=x1;rw[hj,fc]at hg;apply sR;simp only[go_sem,seval,t0,t1,t2,t3,t4,t11,t14,b11,hn,q];refine ab.au rfl rfl rfl (aK.xV (args':=[aB fs,bb ws,vI space,vI high,vI i,vI y',bo s]) ⟨(hvf.mono G').at,ZV _,ZV _,ZV _,ZV _,ZV _,ZV _,trivial⟩ hx rfl) ?_;have hc:=A1 x;have WY:=B3 x;have XH:(oC x).cells.length=5:=rfl;have hag:V.agg [vI x.fr,vI x.to,vI x.x,vI x.y,vI x.w]=oC x:=rfl;apply sR;simp only[go_sem,seval];refine ad λi15 Y15 s15 a15 f15=>?_;simp only[go_sem,seval,a15,hv13,hc,WY,hag];generalize Yk:C' Y15 i15 _=Z15;have b15:Z15 i15=some ⟨294,5,[.agg [vI x.fr,vI x.to,vI x.x,vI x.y,vI x.w]]⟩:=by rw[<-Yk];exact af
   have s15':aa J Z15:=by rw[<-Yk];exact s15.av f15
   clear Yk;refine ad λi30 Z30 s30 a30 f30=>?_;obtain⟨WW,Yj,X7,hd1,hd2⟩:=Zp.Ey (s15'.trans s30);have XW:(acc.length+1)*41<=140737488355328:=by omega
   have hlm:(acc.map oC).length=acc.length:=by simp
   simp only[go_sem,seval,Yj,du a30,hlm,XW];refine eF λi31 Z31 s31 a31 f31=>?_;have k31:=(X7 U (aa.refl _) Z30 (G'.trans (s15'.trans s30))).trans s31;have n31:U i31=none:=(G'.trans (s15'.trans s30)).none f31;have c15:Z31 i15=some ⟨294,5,[.agg [vI x.fr,vI x.to,vI x.x,vI x.y,vI x.w]]⟩:=s31 _ _ (by rw[hd2 i15 f15];exact s30 _ _ b15);have c11:Z31 Ym=some ⟨288,2,[.agg [vI s.a,vI s.b]]⟩:=s31 _ _ (by rw[hd1 Ym _ b11 (.inr (by simp))];exact s30 _ _ (s15' _ _ b11));have r1:WR .i64 (x.y+high):=ai;simp only[go_sem,seval,t0,t1,t2,t3,t11,c15,hj,r1];refine⟨_,?_,j,k,x.y+high,acc++[x],rfl,hjl,by omega,by simp;omega,by rw[hg];simp,by omega,by omega,k31,?_,c11,by simp⟩
   .omega
   .rw[gB];exact aM.new (by simp) a31 n31
  .have q:((i:Int)<ws.length)=False:=O';apply sR;simp only[go_sem,seval,t1,t14,hv13,hn,q];have:dc fs ws space high s k i y'=[]:=by
    cases k with
    |zero=>rfl
    |succ k=>rw[dc,ao H']
   rw[this,lO]at hg;refine⟨_,_,aa.refl _,Wk.refl (aa.refl _) _,G',?_⟩;rw[hg];exact Zp
def A2{P:Program}{f:FuncId}{fn:Func}(hf:P.funcs[f]?=some fn){e sz b:Nat}(hc:cfn P fn=some (nU e sz b))(hk:dZ P f=true){K U:ag}{v:V}{rows:List V}(hv:aM K U e sz v rows)(W6:rows=[]->v=.ay)(hb:rows.length*(b+1)<=140737488355328):
 ax P f [v] U λr Z'=>aa U Z'/\aM U Z' e sz r rows:=by
 refine ax.jX hf hc hk (by simp[nU]) ?_;refine ab.mix 3 ?_;rcases hv with⟨rfl,rfl⟩|⟨id,rfl,ho,_⟩
 ·(refine ab.bt Yp.nothing 8 ?_;simp only[go_sem,seval,jF,nU])
  refine ab.Sn rfl rfl (b:=true) (.inl ⟨rfl,rfl⟩) ?_;apply sR;simp only[go_sem,seval];exact⟨_,_,aa.refl _,Wk.refl (aa.refl _) _,aa.refl _,aM.start⟩
 .obtain⟨m,hm⟩:∃m,rows.length=m+1:=by
   cases rows with
   |nil=>exact absurd (W6 rfl) (by simp)
   |cons r rs=>exact⟨rs.length,by simp⟩
  (refine ab.bt Yp.nothing 8 ?_;simp only[go_sem,seval,jF,nU])
  refine ab.Sn rfl rfl (b:=false) (.inr (.inr ⟨id,0,m,by rw[hm];rfl,rfl⟩)) ?_;apply sR;simp only[go_sem,seval];refine ad λid1 Z1 s1 a1 f1=>?_;obtain⟨WW,hd,X7⟩:=(aM.new (K:=U) (e:=e) (sz:=sz) (n:=0) (rows:=[]) rfl a1 f1).dst (aa.refl _);have hsrc:bI Z1 sz (.own id 0 rows.length)=some rows:=by simp[bI,s1 _ _ ho]
  simp only[go_sem,seval,hd,hsrc,hb];refine eF λid2 Z2 s2 a2 f2=>?_;have ZM:=(X7 U (aa.refl _) Z1 s1).trans s2;simp only[go_sem,seval];exact⟨_,_,aa.refl _,Wk.refl (aa.refl _) _,ZM,aM.new (by simp) a2 (s1.none f2)⟩
def K3(vf:V){K U:ag}(fs:List T')(hvf:aM K U 150 7 vf (fs.map aJ))(W6:fs=[]->vf=.ay)(f:T')(y:Int)(s:XR)(hl:fs.length<=1000000)(WL:∀f∈fs,f.ok)(hy:YS y)(hh:Bq f.h)(hw:Bq f.w)(YR:YS s.a/\YS s.b):
 ax prog 223 [vf,aJ f,vI y,bo s] U λr Z'=>aa U Z'/\aM U Z' 150 7 r ((sJ fs f y s).map aJ):=by
 refine VO.r (by simp[PA]) ?_;have hs:=aa.refl U;refine ab.mix 14 ?_;apply sR;simp only[go_sem,seval,PA,aJ,bo];refine ad λi5 Z5 s5 a5 f5=>?_;have z5:=hs.none f5;replace hs:=hs.trans s5;simp only[go_sem,seval];refine ad λi7 Z7 s7 a7 f7=>?_;have n57:=al a5 f7;replace a5:=s7 _ _ a5;replace hs:=hs.trans s7;simp only[go_sem,seval,a7,a5];refine ab.au rfl rfl rfl (aK.xV (args':=[aB fs,aJ f,vI y,bo s]) ⟨((hvf.mono hs).H9).at,ZV _,ZV _,ZV _,trivial⟩ (QF fs f y s hl WL hy hh hw YR) rfl) ?_;apply sR;simp only[go_sem,seval,a5,cK];generalize X9:C' Z7 i5 _=Y5;have b5:Y5 i5=some ⟨150,7,[aJ (ji fs f y s)]⟩:=by rw[<-X9];exact af
 have hs5:aa U Y5:=by rw[<-X9];exact hs.av z5
 clear X9;have hpl:aJ (ji fs f y s)=.agg [vI f.node,vI f.side,vI f.anchor,vI (rR fs f y s),vI (ml fs f y s),vI f.w,vI f.h]:=rfl;rw[hpl]at b5;have hlm:(fs.map aJ).length=fs.length:=by simp
 have XW:(fs.length+1)*57<=140737488355328:=by omega
 have hres:fs.map aJ++[V.agg [vI f.node,vI f.side,vI f.anchor,vI (rR fs f y s),vI (ml fs f y s),vI f.w,vI f.h]]=(sJ fs f y s).map aJ:=by simp[sJ,<-hpl]
 have hne':fs.map aJ=[]->vf=.ay:=λh=>W6 (by simpa using h);refine ab.D3 (by kernel_rfl) 8 (.fork [[],[0],[],[2],[1,3,0,2],[4,0,1,2,3]] [0,2] [1,3] [(.leaf [[],[0],[],[1,0,2],[1,0,3,2],[1,0,4,2,3]] [1,3,4,5]),(.leaf [[],[3,2,0],[],[2],[3,2,1,0],[3,2,4,0,1]] [3,1,4,5])]) (by kernel_rfl) ?_;refine GT.ny (its:=[0,4]) (by kernel_rfl) ?_;refine RE.XG (n:=0) [] [0,4] [⟨(.some 19),(.W1 (.t 0)),.none⟩,⟨(.some 21),(.load .true 7 (.t 5)),.none⟩] rfl rfl ?_;apply sG;simp only[go_sem,seval,b5];refine⟨?_,?_⟩
 .refine GT.gm (its:=[2,5,6,8,10]) (by kernel_rfl) ?_;refine RE.call rfl rfl rfl rfl rfl (A2 func62 (e62.b.trans rfl) e62.c (hvf.mono hs5) hne' (by simp;omega)) ?_;rintro r Z3 ⟨s3,Zp⟩;replace b5:=s3 _ _ b5;have hs3:=hs5.trans s3;refine RE.X2 rfl rfl rfl rfl rfl trivial (by simp only[go_sem,seval,b5]) ?_;refine RE.XG (n:=0) [] [6,8,10] [⟨(.some 22),(.fk 150 7 [(.t 21)]),.none⟩,⟨(.some 23),(.append 150 7 56 (.t 20) (.t 22)),.none⟩,⟨(.some 8),(.W1 (.t 23)),.none⟩] rfl rfl ?_;apply sG;simp only[go_sem,seval];refine aS λi9 Z9 s9 a9 f9=>?_;obtain⟨WW,Yj,X7⟩:=Zp.dst s9;simp only[go_sem,seval,Yj,du a9,hlm,XW,hres];refine ku λXk Z10 YP Xy f10=>?_;have k10:=(X7 U hs5 Z9 (hs3.trans s9)).trans YP;have n10:U Xk=none:=(hs3.trans s9).none f10;simp only[go_sem,seval];apply sR;simp only[go_sem,seval];exact⟨_,_,aa.refl _,Wk.refl (aa.refl _) _,k10,aM.new (by simp[sJ]) Xy n10⟩
 .refine GT.gm (its:=[6,2,8,10]) (by kernel_rfl) ?_;refine RE.XG (n:=0) [2,8,10] [6] [⟨(.some 22),(.fk 150 7 [(.t 21)]),.none⟩] rfl rfl ?_;apply sG;simp only[go_sem,seval];refine aS λi9 Z9 s9 a9 f9=>?_;simp only[go_sem,seval];refine RE.call rfl rfl rfl rfl rfl (A2 func62 (e62.b.trans rfl) e62.c (hvf.mono (hs5.trans s9)) hne' (by simp;omega)) ?_;rintro r Z3 ⟨s3,Zp⟩;have a9':=s3 _ _ a9;obtain⟨WW,Yj,X7⟩:=Zp.dst (aa.refl _);refine RE.XG (n:=0) [] [8,10] [⟨(.some 23),(.append 150 7 56 (.t 20) (.t 22)),.none⟩,⟨(.some 8),(.W1 (.t 23)),.none⟩] rfl rfl ?_;apply sG;simp only[go_sem,seval,Yj,du a9',hlm,XW,hres];refine ku λXk Z10 YP Xy f10=>?_;have k10:=(X7 U (hs5.trans s9) Z3 ((hs5.trans s9).trans s3)).trans YP;have n10:U Xk=none:=((hs5.trans s9).trans s3).none f10;simp only[go_sem,seval];apply sR;simp only[go_sem,seval];exact⟨_,_,aa.refl _,Wk.refl (aa.refl _) _,k10,aM.new (by simp[sJ]) Xy n10⟩
open Go.Proofs Go.Proofs.Tryz
structure Xv where
 (kind node fr to x y w h:Int)
deriving DecidableEq
def cp(a:Xv):V:=.agg [vI a.kind,vI a.node,vI a.fr,vI a.to,vI a.x,vI a.y,vI a.w,vI a.h]
def aW(l:List Xv):V:=.sl 8 (l.map cp)
structure WS where
 atoms:List Xv
 B':List T'
 WG:Int
 WV:Pn
structure ZR(l:List Nd)(rs:List Rm)(Z0:ag)(iw:Nat)(s:WS)(U:ag):Prop where
 sub:aa Z0 U
 no:Z0 iw=none
 row:∃va vf,U iw=some ⟨209,7,[.agg [va,vf,vI s.WG,vI s.WV.y,vI s.WV.m,aC l,cz rs]]⟩/\
  aM (aX Z0 iw) U 137 8 va (s.atoms.map cp)/\aM (aX Z0 iw) U 150 7 vf (s.B'.map aJ)/\(s.B'=[]->vf=.ay)
def zZ(l:List Rm):(cz l).cells=[cz l]:=rfl
def Al(l:List Rm):(cz l).stays=true:=rfl
def MN{U:ag}{l:List Rm}{i:Nat}(h:i<l.length):bp U 2 (cz l) (.int .i64 i)=some (.rp (lk l[i])):=by simp[cz,bp,h]
def aM.vc{K U:ag}{e sz:Nat}{v:V}{rows:List V}(h:aM K U e sz v rows):v.cells=[v]/\v.stays=true:=by rcases h with⟨rfl,_⟩|⟨_,rfl,_⟩<;>exact⟨rfl,rfl⟩
def ee(rs:List Rm)(a:Nat):XR:=⟨(rs.getD a ⟨0,0⟩).x,(rs.getD a ⟨0,0⟩).x+(rs.getD a ⟨0,0⟩).w⟩
def CM{l:List Nd}{rs:List Rm}{Z0 U:ag}{iw:Nat}{s:WS}(hJ:ZR l rs Z0 iw s U)(a:Nat)(ha:a<rs.length)(hr:rs[a].ok):
 ax prog 220 [.ptr iw 0 0,vI a] U λr Z'=>r=bo (ee rs a)/\Z'=U:=by
 obtain⟨va,vf,w1,ha1,hf1,_⟩:=hJ.row;obtain⟨ca,sa⟩:=ha1.vc;obtain⟨cf,sf⟩:=hf1.vc;obtain⟨r1,r2,r3,r4⟩:=hr;have hgd:rs.getD a ⟨0,0⟩=rs[a]:=by simp[ha]
 have U':=λU=>MN (U:=U) ha;unfold ee;rw[hgd];generalize rs[a]=r at*;have hen:lk r=.agg [vI r.x,vI r.w]:=rfl;have rr:WR .i64 (r.x+r.w):=ai;refine V6.r (by simp[QJ]) ?_;refine ab.mix 6 ?_;apply sR;simp only[go_sem,seval,QJ];refine ad λi4 Z4 s4 a4 f4=>?_;have w4:=s4 _ _ w1;simp only[go_sem,seval,w4,U',hen];refine ad λi5 Z5 s5 a5 f5=>?_;have b4:=s5 _ _ a4;have n45:=al a4 f5;simp only[go_sem,seval,a5,b4,ae n45,rr];exact ak.pure (((s4.trans s5).av (s4.none f5)).av f4) rfl
def tL(a:Xv):(cp a).cells=[vI a.kind,vI a.node,vI a.fr,vI a.to,vI a.x,vI a.y,vI a.w,vI a.h]:=rfl
def B0(a:Xv):(cp a).stays=true:=rfl
def WS.put(s:WS)(a:Xv):WS:={ s with atoms:=s.atoms++[a],WV:=⟨a.y+a.h,0⟩ }
def KH{l:List Nd}{rs:List Rm}{Z0 U:ag}{iw:Nat}{s:WS}(hJ:ZR l rs Z0 iw s U)(a:Xv)(hy:Bq a.y)(hh:Bq a.h)(hn:s.atoms.length<=1000000):
 ax prog 221 [.ptr iw 0 0,cp a] U λr Z'=>r=.WJ []/\ZR l rs Z0 iw (s.put a) Z':=by
 obtain⟨va,vf,w1,ha1,hf1,hf2⟩:=hJ.row;obtain⟨ca,sa⟩:=ha1.vc;obtain⟨cf,sf⟩:=hf1.vc;refine Wg.r (by simp[Rd]) ?_;refine ab.mix 4 ?_;apply sR;simp only[go_sem,seval,Rd,tL,B0];refine ad λi3 Z3 s3 a3 f3=>?_;have w3:=s3 _ _ w1;simp only[go_sem,seval,w3,a3,tL];refine aS λYm Z11 s11 Zk f11=>?_;obtain⟨WW,Yj,X7,hd1,hd2⟩:=ha1.Ey (s3.trans s11);have XW:(s.atoms.length+1)*65<=140737488355328:=by omega
 have hlm:(s.atoms.map cp).length=s.atoms.length:=by simp
 simp only[go_sem,seval,Yj,du Zk,hlm,XW];rw[fC];intro YH f12;have f12:Z11 YH=none:=f12;have w11:=s11 _ _ w3;have nw:=al w11 f12;have b3:=s11 _ _ a3;have n3:=al b3 f12;have nw3:=al w1 f3;have hdw:=hd1 iw _ w1 (.inr (by simp));have hd3:=hd2 i3 f3;have cw:(C' (Vc.bz Z11 WW) YH ⟨137,8,s.atoms.map cp++[.agg [vI a.kind,vI a.node,vI a.fr,vI a.to,vI a.x,vI a.y,vI a.w,vI a.h]]⟩) iw=some ⟨209,7,[.agg [va,vf,vI s.WG,vI s.WV.y,vI s.WV.m,aC l,cz rs]]⟩:=by rw[ae nw,hdw];exact w11
 have c3:(C' (Vc.bz Z11 WW) YH ⟨137,8,s.atoms.map cp++[.agg [vI a.kind,vI a.node,vI a.fr,vI a.to,vI a.x,vI a.y,vI a.w,vI a.h]]⟩) i3=some ⟨137,8,[.agg [vI a.kind,vI a.node,vI a.fr,vI a.to,vI a.x,vI a.y,vI a.w,vI a.h]]⟩:=by rw[ae n3,hd3];exact b3
 have c12:(C' (Vc.bz Z11 WW) YH ⟨137,8,s.atoms.map cp++[.agg [vI a.kind,vI a.node,vI a.fr,vI a.to,vI a.x,vI a.y,vI a.w,vI a.h]]⟩) YH=some ⟨137,8,s.atoms.map cp++[.agg [vI a.kind,vI a.node,vI a.fr,vI a.to,vI a.x,vI a.y,vI a.w,vI a.h]]⟩:=af;have G':aa Z0 (C' (Vc.bz Z11 WW) YH ⟨137,8,s.atoms.map cp++[.agg [vI a.kind,vI a.node,vI a.fr,vI a.to,vI a.x,vI a.y,vI a.w,vI a.h]]⟩):=by
  have h1:=X7 Z0 (λi o h=>by rw[aX,ao (λe=>by rw[e,hJ.no]at h;cases h)];exact h) Z11 ((hJ.sub.trans s3).trans s11);exact h1.av (((hJ.sub.trans s3).trans s11).none f12)
 have k12:aX Z0 iw YH=none:=aH.2 ⟨nw.symm,((hJ.sub.trans s3).trans s11).none f12⟩;have hf3:∀o,aM (aX Z0 iw) (C' (Vc.bz Z11 WW) YH o) 150 7 vf (s.B'.map aJ):=λo=>by
  rcases hf1 with h|⟨id,h1,h2,h3⟩
  .exact .inl h
  .have h4:=s11 _ _ (s3 _ _ h2);exact .inr ⟨id,h1,by rw[ae (al h4 f12),hd1 id _ h2 (.inr (by simp))];exact h4,h3⟩
 replace hf3:=hf3 ⟨137,8,s.atoms.map cp++[.agg [vI a.kind,vI a.node,vI a.fr,vI a.to,vI a.x,vI a.y,vI a.w,vI a.h]]⟩;generalize C' (Vc.bz Z11 WW) YH ⟨137,8,s.atoms.map cp++[.agg [vI a.kind,vI a.node,vI a.fr,vI a.to,vI a.x,vI a.y,vI a.w,vI a.h]]⟩=J at*;simp only[go_sem,seval,cw,cK];have dw:(C' J iw ⟨209,7,[.agg [.own YH 0 (s.atoms.length+1),vf,vI s.WG,vI s.WV.y,vI s.WV.m,aC l,cz rs]]⟩) iw=some ⟨209,7,[.agg [.own YH 0 (s.atoms.length+1),vf,vI s.WG,vI s.WV.y,vI s.WV.m,aC l,cz rs]]⟩:=af;have d3:(C' J iw ⟨209,7,[.agg [.own YH 0 (s.atoms.length+1),vf,vI s.WG,vI s.WV.y,vI s.WV.m,aC l,cz rs]]⟩) i3=some ⟨137,8,[.agg [vI a.kind,vI a.node,vI a.fr,vI a.to,vI a.x,vI a.y,vI a.w,vI a.h]]⟩:=by rw[ae nw3.symm];exact c3
 have d12:(C' J iw ⟨209,7,[.agg [.own YH 0 (s.atoms.length+1),vf,vI s.WG,vI s.WV.y,vI s.WV.m,aC l,cz rs]]⟩) YH=some ⟨137,8,s.atoms.map cp++[.agg [vI a.kind,vI a.node,vI a.fr,vI a.to,vI a.x,vI a.y,vI a.w,vI a.h]]⟩:=by rw[ae nw.symm];exact c12
 replace G':=G'.av hJ.no (o:=⟨209,7,[.agg [.own YH 0 (s.atoms.length+1),vf,vI s.WG,vI s.WV.y,vI s.WV.m,aC l,cz rs]]⟩);have hf4:aM (aX Z0 iw) (C' J iw ⟨209,7,[.agg [.own YH 0 (s.atoms.length+1),vf,vI s.WG,vI s.WV.y,vI s.WV.m,aC l,cz rs]]⟩) 150 7 vf (s.B'.map aJ):=by
  rcases hf3 with h|⟨id,h1,h2,h3⟩
  .exact .inl h
  .exact .inr ⟨id,h1,by rw[ae (aH.1 h3).1];exact h2,h3⟩
 clear hf3 cw c3 c12;generalize C' J iw ⟨209,7,[.agg [.own YH 0 (s.atoms.length+1),vf,vI s.WG,vI s.WV.y,vI s.WV.m,aC l,cz rs]]⟩=Y2 at*;refine ab.uH (by kernel_rfl) [0,1,2,3,4,5,6,7,8,9,10,11,12] [[],[],[1],[1,2],[1,2,3],[],[5],[],[7],[1,2,3,4,5,6,7,8],[0,1,2,3,4,5,6,7,8,9],[0,1,2,3,4,5,6,7,8,9,10],[0,1,2,3,4,5,6,7,8,9,10,11]] [0,2,4,6,8,10,12,14,16,18,20,22,24] (by kernel_rfl) (by kernel_rfl) ?_;refine RE.XG (n:=0) [18,20,22,24] [0,2,4,6,8,10,12,14,16] [⟨(.some 16),(.W1 (.t 0)),.none⟩,⟨(.some 17),(.W1 (.t 0)),.none⟩,⟨(.some 18),(.nilCheck (.t 17)),.none⟩,⟨(.some 19),(.W7 .true 3 2 (.t 18)),.none⟩,⟨(.some 20),(.load .true 2 (.t 19)),.none⟩,⟨(.some 21),(.W7 .false 5 1 (.t 3)),.none⟩,⟨(.some 22),(.load .false 1 (.t 21)),.none⟩,⟨(.some 23),(.W7 .false 7 1 (.t 3)),.none⟩,⟨(.some 24),(.load .false 1 (.t 23)),.none⟩] rfl rfl ?_;apply sG;simp only[go_sem,seval,dw,d3];refine RE.au rfl rfl rfl rfl rfl (QA s.WV a.y a.h hy hh _) ?_;refine RE.XG (n:=0) [] [20,22,24] [⟨(.some 26),(.nilCheck (.t 16)),.none⟩,⟨(.some 27),(.W7 .true 3 2 (.t 26)),.none⟩,⟨.none,(.store 2 (.t 27) (.t 25)),.none⟩] rfl rfl ?_;apply sG;simp only[go_sem,seval,dw,hU];apply sR;simp only[go_sem,seval];have XL:aa Z0 (C' Y2 iw ⟨209,7,[.agg [.own YH 0 (s.atoms.length+1),vf,vI s.WG,vI (a.y+a.h),vI 0,aC l,cz rs]]⟩):=G'.av hJ.no;refine⟨_,_,aa.refl _,Wk.refl (aa.refl _) _,rfl,XL,hJ.no,.own YH 0 (s.atoms.length+1),vf,af,?_,?_,hf2⟩
 .exact aM.new (by simp[WS.put]) (by rw[ae nw.symm,d12];simp[WS.put];rfl) k12
 .rcases hf4 with h|⟨id,h1,h2,h3⟩
  .exact .inl h
  .exact .inr ⟨id,h1,by rw[ae (aH.1 h3).1];exact h2,h3⟩
def zE{l:List T'}{w high:Int}{s:XR}:∀(k:Nat) (y:Int),gtJ l y<=k->pG l w high s (mE l w high s k y)=true
 |0,y,h=>by
  rw[mE];simp only[pG,kX,Bool.not_eq_true',Zs];left;cases hn:(gK l y high s).2 with
  |false=>rfl
  |true=>
   have:=zO (jd hn);omega
 |k+1,y,h=>by
  rw[mE];split
  .rename_i hb;exact hb
  .rename_i hb;simp only[pG,kX,Bool.not_eq_true',not_or,Bool.not_eq_false]at hb;have:=zO (jd hb.1);exact zE k _ (by omega)
def Gp(l:List T')(w high:Int)(s:XR)(y:Int):(gK l (rM l w high s y) high s).2=false\/kr (dS l (rM l w high s y) high s)>=w:=by
 have:=zE (l:=l) (w:=w) (high:=high) (s:=s) l.length y (List.length_filter_le _ _);simp only[pG,kX,Bool.not_eq_true',Zs]at this;exact this
def uD{l:List T'}{w high B:Int}{s:XR}(hB:∀f∈l,f.y+f.h<=B):∀(k:Nat) (y:Int),y<=mE l w high s k y/\mE l w high s k y<=max y B
 |0,y=>by simp only[mE];omega
 |k+1,y=>by
  rw[mE];split
  .omega
  .rename_i hb;simp only[pG,kX,Bool.not_eq_true',not_or,Bool.not_eq_false]at hb;obtain⟨f,hm,h1,h2⟩:=jd hb.1;have:=uD hB k (gK l y high s).1 (w:=w) (high:=high) (s:=s);have:=hB f hm;omega
def K8(f:T')(s:XR):s.a<=(la f s).a/\(la f s).b<=s.b:=by
 unfold la;split
 .simp only;omega
 .simp only;omega
def Bn:∀(l:List T') (s:XR),s.a<=(l.foldl (λs f=>la f s) s).a/\(l.foldl (λs f=>la f s) s).b<=s.b
 |[],s=>by simp
 |f::l,s=>by
  have h1:=K8 f s;have h2:=Bn l (la f s);simp only[jm];omega
def HN(l:List T')(y high:Int)(s:XR):s.a<=(dS l y high s).a/\(dS l y high s).b<=s.b:=Bn _ _
structure FOk(B:Int)(f:T'):Prop where
 x0:0<=f.x
 w0:0<=f.w
 w1:f.w<=1099511627776
 h0:0<=f.h
 h1:f.h<=1099511627776
 y0:0<=f.y
 yB:f.y+f.h<=B
 xw:f.x+f.w<=8796093022208
def FOk.ok{B:Int}{f:T'}(h:FOk B f)(hB:B<=1152921504606846976):f.ok:=by
 obtain⟨h1,h2,h3,h4,h5,h6,h7,h8⟩:=h;exact⟨⟨by omega,by omega⟩,⟨by omega,by omega⟩,⟨by omega,by omega⟩,⟨by omega,by omega⟩⟩
def FOk.mono{B C:Int}{f:T'}(h:FOk B f)(hB:B<=C):FOk C f:=by
 obtain⟨h1,h2,h3,h4,h5,h6,h7,h8⟩:=h;exact⟨h1,h2,h3,h4,h5,h6,by omega,h8⟩
def Hv(s:XR):Prop:=0<=s.a/\s.a<=2199023255552/\0<=s.b/\s.b<=2199023255552
def D9{fs:List T'}{B y:Int}(hB:∀f∈fs,FOk B f):y<=pT fs y/\pT fs y<=max y B:=by
 unfold pT;split
 .rename_i h;obtain⟨f,hf,h1,_⟩:=mU h;have:=hB f hf;have h2:(wy f).1=f.y:=rfl;rw[h1,h2];have:=this.yB;have:=(hB f hf).h0;omega
 .omega
def BM{fs:List T'}{B y:Int}(hB:∀f∈fs,FOk B f)(f:T')(s:XR):y<=ml fs f y s/\ml fs f y s<=max y B:=by
 have h1:=D9 (y:=y) hB;have h2:=uD (w:=f.w) (high:=f.h) (s:=s) (λf hf=>(hB f hf).yB) fs.length (pT fs y);unfold ml rM;omega
def Gj{fs:List T'}{B y:Int}(hB:∀f∈fs,FOk B f){f:T'}{s:XR}(hs:Hv s)(hy0:0<=y)(hyB:y<=B)(w0:1<=f.w)(w1:f.w<=1099511627776)(h0:0<=f.h)(h1:f.h<=1099511627776):FOk (B+1099511627776) (ji fs f y s):=by
 obtain⟨s1,s2,s3,s4⟩:=hs;have hy:=BM (y:=y) hB f s;have hb:=HN fs (ml fs f y s) f.h s;have hx:0<=rR fs f y s/\rR fs f y s+f.w<=8796093022208:=by
  unfold rR;simp only;have he:=Gp fs f.w f.h s (pT fs y);have e:rM fs f.w f.h s (pT fs y)=ml fs f y s:=rfl;rw[e]at he;rcases he with h|h
  .have Yh:dS fs (ml fs f y s) f.h s=s:=Classical.byContradiction λhn=>by
    have:=qw hn;rw[h]at this;cases this
   rw[Yh];split<;>omega
  .unfold kr at h;split at h
   .omega
   .split<;>omega
 exact⟨hx.1,by simp only[ji];omega,by simp only[ji];omega,by simp only[ji];omega,by simp only[ji];omega,by simp only[ji];omega,by simp only[ji];omega,by simpa[ji]using hx.2⟩
def Lz{fs:List T'}{B y:Int}(hB:∀f∈fs,FOk B f){f:T'}{s:XR}(hs:Hv s)(hy0:0<=y)(hyB:y<=B)(w0:1<=f.w)(w1:f.w<=1099511627776)(h0:0<=f.h)(h1:f.h<=1099511627776):∀g∈sJ fs f y s,FOk (B+1099511627776) g:=by
 intro g hg;rcases dD.1 hg with hg|hg
 .exact(hB g hg).mono (by omega)
 .simp only[jV]at hg;subst hg;exact Gj hB hs hy0 hyB w0 w1 h0 h1
structure Bd(s:WS)(B:Int):Prop where
 fl:∀f∈s.B',FOk B f
 y0:0<=s.WV.y
 m0:0<=s.WV.m
 m1:s.WV.m<=1099511627776
 yB:s.WV.y+s.WV.m<=B
def Bd.mono{s:WS}{B C:Int}(h:Bd s B)(hB:B<=C):Bd s C:=⟨λf hf=>(h.fl f hf).mono hB,h.y0,h.m0,h.m1,by have:=h.yB;omega⟩
def WS.mono(l:List Nd)(rs:List Rm)(s:WS)(a:Nat)(n:Nd):WS:=
 let Xg:=l8 s.B' n.w n.h (ee rs a) (s.WV.y+s.WV.m)
 let b:=dS s.B' Xg n.h (ee rs a)
 s.put ⟨2,a,0,0,b.a,Xg,n.w,n.h⟩
def fq(a:Nat)(h:Int)(x:Ln):Xv:=⟨1,a,x.fr,x.to,x.x,x.y,x.w,h⟩
def WS.text(rs:List Rm)(s:WS)(a:Nat)(n:Nd):WS:=
 (dc s.B' n.words n.space n.line (ee rs a) n.words.length 0 (s.WV.y+s.WV.m)).foldl (λs x=>s.put (fq a n.line x)) s
def WS.float(rs:List Rm)(s:WS)(a:Nat)(n:Nd):WS:=
 { s with B':=sJ s.B' ⟨a,n.side,s.atoms.length,0,0,n.w,n.h⟩ (s.WV.y+s.WV.m) (ee rs a) }
def WS.enter(s:WS)(t:YA):WS:=
 let p:=if(dU (nE t.clear) s.B').2 then jT s.WV (dU (nE t.clear) s.B').1 else s.WV
 { s with WV:=ew p t.top t.WU }
def WS.leave(s:WS)(t:YA):WS:={ s with WV:=mZ s.WV t.W3 t.WI }
def Bd.enter{s:WS}{B:Int}(h:Bd s B){t:YA}(ht:SOk t):Bd (s.enter t) (B+2199023255552):=by
 obtain⟨hf,h1,h2,h3,h4⟩:=h;have hp:∀p:Pn,0<=p.y->0<=p.m->p.m<=1099511627776->p.y+p.m<=B->Bd { s with WV:=ew p t.top t.WU } (B+2199023255552):=by
  intro p g1 g2 g3 g4;have a1:=ht.top;have a2:=ht.WU;refine⟨λf ZW=>(hf f ZW).mono (by omega),?_,?_,?_,?_⟩<;>simp only[ew,wP]<;>(repeat' split)<;>omega
 unfold WS.enter;simp only;split
 .rename_i hm;obtain⟨f,hfm,e1,_⟩:=mU hm;have e2:(nE t.clear f).1=f.y+f.h:=rfl;have hfo:=hf f hfm;have hy:=hfo.yB;rw[e1,e2];refine hp _ ?_ ?_ ?_ ?_<;>(unfold jT;split)<;>(try simp only)<;>omega
 .exact hp _ h1 h2 h3 h4
def Bd.leave{s:WS}{B:Int}(h:Bd s B){t:YA}(ht:SOk t):Bd (s.leave t) (B+2199023255552):=by
 obtain⟨hf,h1,h2,h3,h4⟩:=h;have a1:=ht.W3;have a2:=ht.WI;refine⟨λf ZW=>(hf f ZW).mono (by omega),?_,?_,?_,?_⟩<;>simp only[WS.leave,mZ,wP]<;>(repeat' split)<;>omega
open Go.Proofs Go.Proofs.Tryz
structure DOk(l:List Nd)(rs:List Rm):Prop where
 uE:l.length<=2000
 isb:Xw l=true
 len:rs.length=l.length
 rok:∀r∈rs,r.ok
def DOk.room{l:List Nd}{rs:List Rm}(h:DOk l rs){a:Nat}(ha:a<l.length):∃h':a<rs.length,rs[a].ok:=⟨by rw[h.len];exact ha,h.rok _ (XI _)⟩
def DOk.span{l:List Nd}{rs:List Rm}(h:DOk l rs){a:Nat}(ha:a<l.length):Hv (ee rs a):=by
 obtain⟨h',r1,r2,r3,r4⟩:=h.room ha;have e:rs.getD a ⟨0,0⟩=rs[a]:=by simp[h']
 unfold ee Hv;rw[e];simp only;omega
def Hv.bq{s:XR}(h:Hv s):YS s.a/\YS s.b:=by obtain⟨a,b,c,d⟩:=h;exact⟨⟨by omega,by omega⟩,⟨by omega,by omega⟩⟩
def Bd.flo{s:WS}{B:Int}(h:Bd s B)(hB:B<=1152921504606846976):∀f∈s.B',f.ok:=λf hf=>(h.fl f hf).ok hB
def jY(l:List Nd){a:Nat}(h:a<l.length)(U:ag):bp U 20 (aC l) (.int .i64 a)=some (.rp (.agg (Nd.cells l[a]))):=cA h
def ZR.mono{l:List Nd}{rs:List Rm}{Z0 U J:ag}{iw:Nat}{s:WS}(hJ:ZR l rs Z0 iw s U)(hs:aa U J):ZR l rs Z0 iw s J:=by
 obtain⟨va,vf,w1,h1,h2,h3⟩:=hJ.row;exact⟨hJ.sub.trans hs,hJ.no,va,vf,hs _ _ w1,h1.mono hs,h2.mono hs,h3⟩
def Ms{l:List Nd}{rs:List Rm}(hD:DOk l rs){Z0 U:ag}{iw:Nat}{s:WS}{B:Int}(hJ:ZR l rs Z0 iw s U)(hB:Bd s B)(hB1:B<=576460752303423488)(a:Nat)(ha:a<l.length)(hk:l[a].kind=3)(hn:s.atoms.length<=100000)(hfn:s.B'.length<=100000):
 ax prog 165 [.ptr iw 0 0,vI a] U λr Z'=>r=.WJ []/\ZR l rs Z0 iw (WS.mono l rs s a l[a]) Z':=by
 obtain⟨va,vf,w1,ha1,hf1,hf2⟩:=hJ.row;obtain⟨ca,sa⟩:=ha1.vc;obtain⟨cf,sf⟩:=hf1.vc;have Xa:=gC hD.isb ha;have hsp:=hD.span ha;obtain⟨har,hrok⟩:=hD.room ha;have U':=jY l ha;unfold WS.mono;generalize l[a]=n at*;refine Up.r (by simp[N1]) ?_;refine ab.mix 7 ?_;apply sR;simp only[go_sem,seval,N1,w1,U',Nd.cells];refine ad λi4 Z4 s4 a4 f4=>?_;simp only[go_sem,seval,a4,cK];generalize Ys:C' Z4 i4 _=Y4;have b4:Y4 i4=some ⟨59,20,[.agg (Nd.cells n)]⟩:=by rw[<-Ys];exact af
 rw[Nd.cells]at b4;have s4':aa U Y4:=by rw[<-Ys];exact s4.av f4
 clear Ys;have w4:=s4' _ _ w1;have hlen:yj Y4 vf (aB s.B'):=(hf1.mono s4').H9;have hJ4:=hJ.mono s4';have hm:=hB.m1;have hm0:=hB.m0;have hy0:=hB.y0;have hyB:=hB.yB;have hhs:=Xa.h;have hro:=H7 s.B' n.w n.h (s.WV.y+s.WV.m) (ee rs a) (by omega) (hB.flo (by omega)) ⟨by omega,by omega⟩ ⟨by omega,by omega⟩ hsp.bq;obtain⟨Xg,Yb⟩:∃z,z=l8 s.B' n.w n.h (ee rs a) (s.WV.y+s.WV.m):=⟨_,rfl⟩
 have hyr:=gb (w:=n.w) (high:=n.h) (y:=s.WV.y+s.WV.m) (s:=ee rs a) (λf hf=>(hB.fl f hf).yB);rw[<-Yb]at hro hyr|-;obtain⟨b,hb⟩:∃b,b=dS s.B' Xg n.h (ee rs a):=⟨_,rfl⟩
 rw[<-hb]at hro|-;have fin:∀(S:Nat->V) (J:ag) (i5:Nat),aa Y4 J->J i5=some ⟨288,2,[.agg [vI b.a,vI b.b]]⟩->S 0=.ptr iw 0 0->S 1=vI a->S 4=.ptr i4 0 0->S 5=.ptr i5 0 0->S 6=vI Xg->
  ab prog 46 [It.code (.Za false [⟨some 35,.W1 (.t 0),none⟩,⟨some 36,.W1 (.t 1),none⟩,⟨some 37,.W7 false 0 1 (.t 5),none⟩,⟨some 38,.load false 1 (.t 37),none⟩,⟨some 39,.W1 (.t 6),none⟩,⟨some 40,.W7 false 18 1 (.t 4),none⟩,⟨some 41,.load false 1 (.t 40),none⟩,⟨some 42,.W7 false 19 1 (.t 4),none⟩,⟨some 43,.load false 1 (.t 42),none⟩,⟨some 44,.build [.int .i64 0,.int .i64 0,.int .i64 0,.int .i64 0,.int .i64 0,.int .i64 0,.int .i64 0,.int .i64 0] [(0,1,.c (.int .i64 2)),(1,1,.t 36),(4,1,.t 38),(5,1,.t 39),(6,1,.t 41),(7,1,.t 43)],none⟩,⟨some 45,.call (.c (.fn 221 [])) [.t 35,.t 44],none⟩])] ⟨S,J⟩
   (λst=>ak (.WJ []) st.U λr Z'=>r=.WJ []/\ZR l rs Z0 iw (s.put ⟨2,a,0,0,b.a,Xg,n.w,n.h⟩) Z'):=by
  intro S J i5 hτ c5 t0 t1 t4 t5 t6;have c4:=hτ _ _ b4;refine ab.mix 7 ?_;apply sR;simp only[go_sem,seval,t0,t1,t4,t5,t6,c4,c5];refine ab.call rfl rfl rfl (KH (hJ4.mono hτ) ⟨2,a,0,0,b.a,Xg,n.w,n.h⟩ (show Bq Xg from⟨by omega,by omega⟩) (show Bq n.h from⟨by omega,by omega⟩) (by omega)) ?_;rintro r Z' ⟨rfl,YL⟩;apply sR;simp only[go_sem,seval];exact⟨_,_,aa.refl _,Wk.refl (aa.refl _) _,rfl,YL⟩
 refine ab.D3 (by kernel_rfl) 8 (.fork [[],[0],[1,0],[2,1,0],[3,2,1,0],[],[5],[],[7],[],[9],[10,9],[11,10,9],[12,11,10,9],[],[],[14,15,13,12,11,10,9],[4,6,8,13,16,3,2,1,0,5,7,12,11,10,9,14,15],[17,4,6,8,13,16,3,2,1,0,5,7,12,11,10,9,14,15],[18,17,4,6,8,13,16,3,2,1,0,5,7,12,11,10,9,14,15],[18,17,4,6,8,13,16,3,2,1,0,5,7,12,11,10,9,14,15],[],[21,19,17,0,1,2,3,4,5,6,7,8,9,10,11,12,13,14,15,16,18],[20,22,0,1,2,3,4,5,6,7,8,9,10,11,12,13,14,15,16,17,18,19,21]] [0,1,2,3,4,5,6,7,8,9,10,11,12,14,15] [13,21] [(.fork [[],[0],[1,0],[2,1,0],[3,2,1,0],[],[5],[],[7],[],[9],[10,9],[11,10,9],[12,11,10,9],[],[],[14,15,13,12,11,10,9],[4,6,8,13,16,3,2,1,0,5,7,12,11,10,9,14,15],[17,4,6,8,13,16,3,2,1,0,5,7,12,11,10,9,14,15],[18,17,4,6,8,13,16,3,2,1,0,5,7,12,11,10,9,14,15],[18,17,4,6,8,13,16,3,2,1,0,5,7,12,11,10,9,14,15],[13,12,11,10,9],[13,12,11,10,9,21,19,17,0,1,2,3,4,5,6,7,8,14,15,16,18],[13,12,11,10,9,20,22,0,1,2,3,4,5,6,7,8,14,15,16,17,18,19,21]] [13] [16,21] [(.fork [[],[0],[1,0],[2,1,0],[3,2,1,0],[],[5],[],[7],[],[9],[10,9],[11,10,9],[12,11,10,9],[],[],[14,15,13,12,11,10,9],[4,6,8,13,16,3,2,1,0,5,7,12,11,10,9,14,15],[17,4,6,8,13,16,3,2,1,0,5,7,12,11,10,9,14,15],[18,17,4,6,8,13,16,3,2,1,0,5,7,12,11,10,9,14,15],[18,17,4,6,8,13,16,3,2,1,0,5,7,12,11,10,9,14,15],[16,14,15,13,12,11,10,9],[16,14,15,13,12,11,10,9,21,19,17,0,1,2,3,4,5,6,7,8,18],[16,14,15,13,12,11,10,9,20,22,0,1,2,3,4,5,6,7,8,17,18,19,21]] [16] [17,21] [(.leaf [[],[0],[1,0],[2,1,0],[3,2,1,0],[],[5],[],[7],[],[9],[10,9],[11,10,9],[12,11,10,9],[],[],[14,15,13,12,11,10,9],[4,6,8,13,16,3,2,1,0,5,7,12,11,10,9,14,15],[17,4,6,8,13,16,3,2,1,0,5,7,12,11,10,9,14,15],[18,17,4,6,8,13,16,3,2,1,0,5,7,12,11,10,9,14,15],[18,17,4,6,8,13,16,3,2,1,0,5,7,12,11,10,9,14,15],[17,4,6,8,13,16,3,2,1,0,5,7,12,11,10,9,14,15],[17,4,6,8,13,16,3,2,1,0,5,7,12,11,10,9,14,15,21,19,18],[17,4,6,8,13,16,3,2,1,0,5,7,12,11,10,9,14,15,20,22,18,19,21]] [17,18,19,20,21,22,23]),(.leaf [[],[0],[1,0],[2,1,0],[3,2,1,0],[],[5],[],[7],[],[9],[10,9],[11,10,9],[12,11,10,9],[],[],[14,15,13,12,11,10,9],[21,16,14,15,13,12,11,10,9,4,6,8,3,2,1,0,5,7],[21,16,14,15,13,12,11,10,9,17,4,6,8,3,2,1,0,5,7],[21,16,14,15,13,12,11,10,9,18,17,4,6,8,3,2,1,0,5,7],[21,16,14,15,13,12,11,10,9,18,17,4,6,8,3,2,1,0,5,7],[16,14,15,13,12,11,10,9],[21,16,14,15,13,12,11,10,9,19,17,0,1,2,3,4,5,6,7,8,18],[21,16,14,15,13,12,11,10,9,20,22,0,1,2,3,4,5,6,7,8,17,18,19]] [21,17,18,19,20,22,23])]),(.leaf [[],[0],[1,0],[2,1,0],[3,2,1,0],[],[5],[],[7],[],[9],[10,9],[11,10,9],[12,11,10,9],[],[],[21,13,12,11,10,9,14,15],[21,13,12,11,10,9,4,6,8,16,3,2,1,0,5,7,14,15],[21,13,12,11,10,9,17,4,6,8,16,3,2,1,0,5,7,14,15],[21,13,12,11,10,9,18,17,4,6,8,16,3,2,1,0,5,7,14,15],[21,13,12,11,10,9,18,17,4,6,8,16,3,2,1,0,5,7,14,15],[13,12,11,10,9],[21,13,12,11,10,9,19,17,0,1,2,3,4,5,6,7,8,14,15,16,18],[21,13,12,11,10,9,20,22,0,1,2,3,4,5,6,7,8,14,15,16,17,18,19]] [21,16,17,18,19,20,22,23])]),(.leaf [[],[0],[1,0],[2,1,0],[3,2,1,0],[],[5],[],[7],[],[9],[10,9],[11,10,9],[21,12,11,10,9],[],[],[21,14,15,13,12,11,10,9],[21,4,6,8,13,16,3,2,1,0,5,7,12,11,10,9,14,15],[21,17,4,6,8,13,16,3,2,1,0,5,7,12,11,10,9,14,15],[21,18,17,4,6,8,13,16,3,2,1,0,5,7,12,11,10,9,14,15],[21,18,17,4,6,8,13,16,3,2,1,0,5,7,12,11,10,9,14,15],[],[21,19,17,0,1,2,3,4,5,6,7,8,9,10,11,12,13,14,15,16,18],[21,20,22,0,1,2,3,4,5,6,7,8,9,10,11,12,13,14,15,16,17,18,19]] [21,13,16,17,18,19,20,22,23])]) (by kernel_rfl) ?_;refine GT.ny (its:=[0,2,4,6,8,10,12,14,16,18,20,22,24,28,30]) (by kernel_rfl) ?_;refine RE.XG (n:=0) [] [0,2,4,6,8,10,12,14,16,18,20,22,24,28,30] [⟨(.some 15),(.W1 (.t 0)),.none⟩,⟨(.some 16),(.nilCheck (.t 15)),.none⟩,⟨(.some 17),(.W7 .true 0 3 (.t 16)),.none⟩,⟨(.some 18),(.W7 .false 1 1 (.t 17)),.none⟩,⟨(.some 19),(.load .false 1 (.t 18)),.none⟩,⟨(.some 20),(.W7 .false 18 1 (.t 4)),.none⟩,⟨(.some 21),(.load .false 1 (.t 20)),.none⟩,⟨(.some 22),(.W7 .false 19 1 (.t 4)),.none⟩,⟨(.some 23),(.load .false 1 (.t 22)),.none⟩,⟨(.some 24),(.W1 (.t 0)),.none⟩,⟨(.some 25),(.nilCheck (.t 24)),.none⟩,⟨(.some 26),(.W7 .true 3 2 (.t 25)),.none⟩,⟨(.some 27),(.load .true 2 (.t 26)),.none⟩,⟨(.some 29),(.W1 (.t 0)),.none⟩,⟨(.some 30),(.W1 (.t 1)),.none⟩] rfl rfl ?_;apply sG;simp only[go_sem,seval,b4,w4];refine⟨?_,?_⟩
 .refine GT.ny (its:=[26,9,13,17]) (by kernel_rfl) ?_;refine RE.au rfl rfl rfl rfl rfl (Hh s.WV ⟨by omega,by omega⟩ ⟨by omega,by omega⟩ _) ?_;refine RE.X2 rfl rfl rfl rfl rfl trivial (by simp only[go_sem,seval,w4]) ?_;refine RE.X2 rfl rfl rfl rfl rfl trivial (by simp only[go_sem,seval,b4]) ?_;refine RE.X2 rfl rfl rfl rfl rfl trivial (by simp only[go_sem,seval,b4]) ?_;refine⟨?_,?_⟩
  .refine GT.ny (its:=[32,9,13,17]) (by kernel_rfl) ?_;refine RE.au rfl rfl rfl rfl rfl (CM hJ4 a har hrok) ?_;refine RE.X2 rfl rfl rfl rfl rfl trivial (by simp only[go_sem,seval,w4]) ?_;refine RE.X2 rfl rfl rfl rfl rfl trivial (by simp only[go_sem,seval,b4]) ?_;refine RE.X2 rfl rfl rfl rfl rfl trivial (by simp only[go_sem,seval,b4]) ?_;refine⟨?_,?_⟩
   .refine GT.gm (its:=[34,36,38,40,42,44,46]) (by kernel_rfl) ?_;refine RE.au rfl rfl rfl rfl rfl (aK.xV (args':=[aB s.B',vI n.w,vI n.h,vI (s.WV.y+s.WV.m),bo (ee rs a)]) ⟨hlen.at,ZV _,ZV _,ZV _,ZV _,trivial⟩ hro rfl) ?_;refine RE.XG (n:=0) [] [36,38,40,42,44,46] [⟨(.some 14),(.W1 (.t 32)),.none⟩,⟨(.some 33),(.ext 0 (.t 14)),.none⟩,⟨(.some 34),(.ext 1 (.t 14)),.none⟩,⟨(.some 5),(.alloc 288 2 (.agg [(.int .i64 0),(.int .i64 0)])),.none⟩,⟨.none,(.store 2 (.t 5) (.t 33)),.none⟩,⟨(.some 6),(.W1 (.t 34)),.none⟩] rfl rfl ?_;apply sG;simp only[go_sem,seval];refine aS λi5 Z5 s5 a5 f5=>?_;replace b4:=s5 _ _ b4;replace w4:=s5 _ _ w4;replace hlen:=hlen.mono s5;replace hJ4:=hJ4.mono s5;simp only[go_sem,seval,a5,bo];exact fin _ _ i5 (s5.av f5) af rfl rfl rfl rfl rfl
   .refine GT.gm (its:=[42,9,13,17,34,36,38,40,44,46]) (by kernel_rfl) ?_;refine RE.XG (n:=0) [9,13,17,34,36,38,40,44,46] [42] [⟨(.some 5),(.alloc 288 2 (.agg [(.int .i64 0),(.int .i64 0)])),.none⟩] rfl rfl ?_;apply sG;simp only[go_sem,seval];refine aS λi5 Z5 s5 a5 f5=>?_;replace b4:=s5 _ _ b4;replace w4:=s5 _ _ w4;replace hlen:=hlen.mono s5;replace hJ4:=hJ4.mono s5;simp only[go_sem,seval,bo];refine RE.X2 rfl rfl rfl rfl rfl trivial (by simp only[go_sem,seval,w4]) ?_;refine RE.X2 rfl rfl rfl rfl rfl trivial (by simp only[go_sem,seval,b4]) ?_;refine RE.X2 rfl rfl rfl rfl rfl trivial (by simp only[go_sem,seval,b4]) ?_;refine RE.au rfl rfl rfl rfl rfl (aK.xV (args':=[aB s.B',vI n.w,vI n.h,vI (s.WV.y+s.WV.m),bo (ee rs a)]) ⟨hlen.at,ZV _,ZV _,ZV _,ZV _,trivial⟩ hro rfl) ?_;refine RE.XG (n:=0) [] [36,38,40,44,46] [⟨(.some 14),(.W1 (.t 32)),.none⟩,⟨(.some 33),(.ext 0 (.t 14)),.none⟩,⟨(.some 34),(.ext 1 (.t 14)),.none⟩,⟨.none,(.store 2 (.t 5) (.t 33)),.none⟩,⟨(.some 6),(.W1 (.t 34)),.none⟩] rfl rfl ?_;apply sG;simp only[go_sem,seval,a5,bo];exact fin _ _ i5 (s5.av f5) af rfl rfl rfl rfl rfl
  .refine GT.gm (its:=[42,9,13,17,32,9,13,17,34,36,38,40,44,46]) (by kernel_rfl) ?_;refine RE.XG (n:=0) [9,13,17,32,9,13,17,34,36,38,40,44,46] [42] [⟨(.some 5),(.alloc 288 2 (.agg [(.int .i64 0),(.int .i64 0)])),.none⟩] rfl rfl ?_;apply sG;simp only[go_sem,seval];refine aS λi5 Z5 s5 a5 f5=>?_;replace b4:=s5 _ _ b4;replace w4:=s5 _ _ w4;replace hlen:=hlen.mono s5;replace hJ4:=hJ4.mono s5;simp only[go_sem,seval];refine RE.X2 rfl rfl rfl rfl rfl trivial (by simp only[go_sem,seval,w4]) ?_;refine RE.X2 rfl rfl rfl rfl rfl trivial (by simp only[go_sem,seval,b4]) ?_;refine RE.X2 rfl rfl rfl rfl rfl trivial (by simp only[go_sem,seval,b4]) ?_;refine RE.au rfl rfl rfl rfl rfl (CM hJ4 a har hrok) ?_;refine RE.X2 rfl rfl rfl rfl rfl trivial (by simp only[go_sem,seval,w4,bo]) ?_;refine RE.X2 rfl rfl rfl rfl rfl trivial (by simp only[go_sem,seval,b4,bo]) ?_;refine RE.X2 rfl rfl rfl rfl rfl trivial (by simp only[go_sem,seval,b4,bo]) ?_;refine RE.au rfl rfl rfl rfl rfl (aK.xV (args':=[aB s.B',vI n.w,vI n.h,vI (s.WV.y+s.WV.m),bo (ee rs a)]) ⟨hlen.at,ZV _,ZV _,ZV _,ZV _,trivial⟩ hro rfl) ?_;refine RE.XG (n:=0) [] [36,38,40,44,46] [⟨(.some 14),(.W1 (.t 32)),.none⟩,⟨(.some 33),(.ext 0 (.t 14)),.none⟩,⟨(.some 34),(.ext 1 (.t 14)),.none⟩,⟨.none,(.store 2 (.t 5) (.t 33)),.none⟩,⟨(.some 6),(.W1 (.t 34)),.none⟩] rfl rfl ?_;apply sG;simp only[go_sem,seval,a5,bo];exact fin _ _ i5 (s5.av f5) af rfl rfl rfl rfl rfl
 .refine GT.gm (its:=[42,9,13,17,25,26,9,13,17,32,9,13,17,34,36,38,40,44,46]) (by kernel_rfl) ?_;refine RE.XG (n:=0) [9,13,17,25,26,9,13,17,32,9,13,17,34,36,38,40,44,46] [42] [⟨(.some 5),(.alloc 288 2 (.agg [(.int .i64 0),(.int .i64 0)])),.none⟩] rfl rfl ?_;apply sG;simp only[go_sem,seval];refine aS λi5 Z5 s5 a5 f5=>?_;replace b4:=s5 _ _ b4;replace w4:=s5 _ _ w4;replace hlen:=hlen.mono s5;replace hJ4:=hJ4.mono s5;simp only[go_sem,seval];refine RE.X2 rfl rfl rfl rfl rfl trivial (by simp only[go_sem,seval,w4]) ?_;refine RE.X2 rfl rfl rfl rfl rfl trivial (by simp only[go_sem,seval,b4]) ?_;refine RE.X2 rfl rfl rfl rfl rfl trivial (by simp only[go_sem,seval,b4]) ?_;refine RE.X2 rfl rfl rfl rfl rfl trivial (by simp only[go_sem,seval,w4]) ?_;refine RE.au rfl rfl rfl rfl rfl (Hh s.WV ⟨by omega,by omega⟩ ⟨by omega,by omega⟩ _) ?_;refine RE.X2 rfl rfl rfl rfl rfl trivial (by simp only[go_sem,seval,w4]) ?_;refine RE.X2 rfl rfl rfl rfl rfl trivial (by simp only[go_sem,seval,b4]) ?_;refine RE.X2 rfl rfl rfl rfl rfl trivial (by simp only[go_sem,seval,b4]) ?_;refine RE.au rfl rfl rfl rfl rfl (CM hJ4 a har hrok) ?_;refine RE.X2 rfl rfl rfl rfl rfl trivial (by simp only[go_sem,seval,w4,bo]) ?_;refine RE.X2 rfl rfl rfl rfl rfl trivial (by simp only[go_sem,seval,b4,bo]) ?_;refine RE.X2 rfl rfl rfl rfl rfl trivial (by simp only[go_sem,seval,b4,bo]) ?_;refine RE.au rfl rfl rfl rfl rfl (aK.xV (args':=[aB s.B',vI n.w,vI n.h,vI (s.WV.y+s.WV.m),bo (ee rs a)]) ⟨hlen.at,ZV _,ZV _,ZV _,ZV _,trivial⟩ hro rfl) ?_;refine RE.XG (n:=0) [] [36,38,40,44,46] [⟨(.some 14),(.W1 (.t 32)),.none⟩,⟨(.some 33),(.ext 0 (.t 14)),.none⟩,⟨(.some 34),(.ext 1 (.t 14)),.none⟩,⟨.none,(.store 2 (.t 5) (.t 33)),.none⟩,⟨(.some 6),(.W1 (.t 34)),.none⟩] rfl rfl ?_;apply sG;simp only[go_sem,seval,a5,bo];exact fin _ _ i5 (s5.av f5) af rfl rfl rfl rfl rfl
open Go.Proofs Go.Proofs.Tryz
def aM.En{Z0 J:ag}{iw e sz:Nat}{v:V}{rows:List V}{o:Ob}(h:aM (aX Z0 iw) J e sz v rows):aM (aX Z0 iw) (C' J iw o) e sz v rows:=by
 rcases h with h|⟨id,h1,h2,h3⟩
 .exact .inl h
 .exact .inr ⟨id,h1,by rw[ae (aH.1 h3).1];exact h2,h3⟩
def aM.lV{Z0 J U:ag}{iw e sz:Nat}{v:V}{rows:List V}(h:aM J U e sz v rows)(hs:aa Z0 J){o:Ob}(hw:J iw=some o):aM (aX Z0 iw) U e sz v rows:=by
 rcases h with h|⟨id,h1,h2,h3⟩
 .exact .inl h
 .exact .inr ⟨id,h1,h2,aH.2 ⟨λe=>(by rw[e,hw]at h3;cases h3),hs.none h3⟩⟩
def Kf{l:List Nd}{rs:List Rm}(hD:DOk l rs){Z0 U:ag}{iw:Nat}{s:WS}{B:Int}(hJ:ZR l rs Z0 iw s U)(hB:Bd s B)(hB1:B<=576460752303423488)(a:Nat)(ha:a<l.length)(hn:s.atoms.length<=100000)(hfn:s.B'.length<=100000):
 ax prog 166 [.ptr iw 0 0,vI a] U λr Z'=>r=.WJ []/\ZR l rs Z0 iw (WS.float rs s a l[a]) Z':=by
 obtain⟨va,vf,w1,ha1,hf1,hf2⟩:=hJ.row;obtain⟨ca,sa⟩:=ha1.vc;obtain⟨cf,sf⟩:=hf1.vc;have Zh:cP false va=some (.int .i64 s.atoms.length):=by rw[ha1.len];simp
 have Xa:=gC hD.isb ha;have hsp:=hD.span ha;obtain⟨har,hrok⟩:=hD.room ha;have U':=jY l ha;unfold WS.float;generalize l[a]=n at*;refine Ul.r (by simp[Qf]) ?_;refine ab.mix 6 ?_;apply sR;simp only[go_sem,seval,Qf,w1,U',Nd.cells];refine ad λi4 Z4 s4 a4 f4=>?_;have w4':=s4 _ _ w1;have n4:=al w1 f4;simp only[go_sem,seval,a4,w4',ae n4,Zh];generalize Ys:C' Z4 i4 _=Y4;have b4:Y4 i4=some ⟨59,20,[.agg (Nd.cells n)]⟩:=by rw[<-Ys];exact af
 rw[Nd.cells]at b4;have s4'':aa U Y4:=by rw[<-Ys];exact s4.av f4
 clear Ys;have w4:=s4'' _ _ w1;refine aS λi5 Z5 s5 a5 f5=>?_;have s5':=s4''.trans s5;have hJ5:=hJ.mono (s5'.av (o:=⟨150,7,[aJ ⟨a,n.side,s.atoms.length,0,0,n.w,n.h⟩]⟩) (s4''.none f5));have hen:aJ ⟨a,n.side,s.atoms.length,0,0,n.w,n.h⟩=.agg [vI a,vI n.side,vI s.atoms.length,vI 0,vI 0,vI n.w,vI n.h]:=rfl;rw[hen]at hJ5;simp only[go_sem,seval,a5,cK];generalize X9:C' Z5 i5 _=Y5 at*;have b5:Y5 i5=some ⟨150,7,[.agg [vI a,vI n.side,vI s.atoms.length,vI 0,vI 0,vI n.w,vI n.h]]⟩:=by rw[<-X9];exact af
 have w5:Y5 iw=some ⟨209,7,[.agg [va,vf,vI s.WG,vI s.WV.y,vI s.WV.m,aC l,cz rs]]⟩:=by rw[<-X9,ae (al w4 f5)];exact s5 _ _ w4
 have s6:aa U Y5:=by rw[<-X9];exact s5'.av (s4''.none f5)
 clear X9;have hf5:=hf1.mono s6;have hm:=hB.m1;have hm0:=hB.m0;have hy0:=hB.y0;have hyB:=hB.yB;have hws:=Xa.w;have hhs:=Xa.h;have hput:=K3 vf s.B' hf5 hf2 ⟨a,n.side,s.atoms.length,0,0,n.w,n.h⟩ (s.WV.y+s.WV.m) (ee rs a) (by omega) (hB.flo (by omega)) ⟨by omega,by omega⟩ (show Bq n.h from⟨by omega,by omega⟩) (show Bq n.w from⟨by omega,by omega⟩) hsp.bq;rw[hen]at hput;have hpne:sJ s.B' ⟨a,n.side,s.atoms.length,0,0,n.w,n.h⟩ (s.WV.y+s.WV.m) (ee rs a)≠[]:=by simp[sJ]
 have hs05:=hJ.sub.trans s6;have w5o:=w5;generalize sJ s.B' ⟨a,n.side,s.atoms.length,0,0,n.w,n.h⟩ (s.WV.y+s.WV.m) (ee rs a)=fs' at*;refine ab.D3 (by kernel_rfl) 8 (.leaf [[],[],[1],[2,1],[3,2,1],[4,3,2,1],[],[],[7],[8,7],[9,8,7],[10,9,8,7],[],[],[12,13,11,10,9,8,7],[5,6,11,14,4,3,2,1,10,9,8,7,12,13],[0,1,2,3,4,5,6,7,8,9,10,11,12,13,14,15],[16,0,1,2,3,4,5,6,7,8,9,10,11,12,13,14,15],[17,0,1,2,3,4,5,6,7,8,9,10,11,12,13,14,15,16],[18,15,0,1,2,3,4,5,6,7,8,9,10,11,12,13,14,17,16]] [0,1,2,3,4,5,6,7,8,9,10,12,13,11,14,15,16,17,18,19]) (by kernel_rfl) ?_;refine GT.gm (its:=[0,2,4,6,8,10,12,14,16,18,20,24,26,22,11,13,28,11,13,30,32,34,36,38]) (by kernel_rfl) ?_;refine RE.XG (n:=0) [22,11,13,28,11,13,30,32,34,36,38] [0,2,4,6,8,10,12,14,16,18,20,24,26] [⟨(.some 27),(.W1 (.t 0)),.none⟩,⟨(.some 28),(.W1 (.t 0)),.none⟩,⟨(.some 29),(.nilCheck (.t 28)),.none⟩,⟨(.some 30),(.W7 .true 0 3 (.t 29)),.none⟩,⟨(.some 31),(.W7 .false 1 1 (.t 30)),.none⟩,⟨(.some 32),(.load .false 1 (.t 31)),.none⟩,⟨(.some 33),(.load .true 7 (.t 5)),.none⟩,⟨(.some 34),(.W1 (.t 0)),.none⟩,⟨(.some 35),(.nilCheck (.t 34)),.none⟩,⟨(.some 36),(.W7 .true 3 2 (.t 35)),.none⟩,⟨(.some 37),(.load .true 2 (.t 36)),.none⟩,⟨(.some 39),(.W1 (.t 0)),.none⟩,⟨(.some 40),(.W1 (.t 1)),.none⟩] rfl rfl ?_;apply sG;simp only[go_sem,seval,b5,w5];refine RE.au rfl rfl rfl rfl rfl (Hh s.WV ⟨by omega,by omega⟩ ⟨by omega,by omega⟩ _) ?_;refine RE.X2 rfl rfl rfl rfl rfl trivial (by simp only[go_sem,seval,w5]) ?_;refine RE.X2 rfl rfl rfl rfl rfl trivial (by simp only[go_sem,seval,b5]) ?_;refine RE.au rfl rfl rfl rfl rfl (CM hJ5 a har hrok) ?_;refine RE.X2 rfl rfl rfl rfl rfl trivial (by simp only[go_sem,seval,w5]) ?_;refine RE.X2 rfl rfl rfl rfl rfl trivial (by simp only[go_sem,seval,b5]) ?_;refine RE.call rfl rfl rfl rfl rfl hput ?_;rintro r Z7 ⟨s7,Zp⟩;replace b5:=s7 _ _ b5;replace w5:=s7 _ _ w5;obtain⟨cr,sr⟩:=Zp.vc;refine RE.XG (n:=0) [] [32,34,36,38] [⟨(.some 43),(.nilCheck (.t 27)),.none⟩,⟨(.some 44),(.W7 .true 0 3 (.t 43)),.none⟩,⟨(.some 45),(.W7 .false 1 1 (.t 44)),.none⟩,⟨.none,(.store 1 (.t 45) (.t 42)),.none⟩] rfl rfl ?_;apply sG;simp only[go_sem,seval,w5,cr,sr];apply sR;simp only[go_sem,seval];refine⟨_,_,aa.refl _,Wk.refl (aa.refl _) _,rfl,?_⟩;have hfa:=(ha1.mono s6).mono s7;exact⟨(hs05.trans s7).av hJ.no,hJ.no,va,r,af,hfa.En,(Zp.lV hs05 w5o).En,λh=>absurd h hpne⟩
open Go.Proofs Go.Proofs.Tryz
section
variable {P:Program} {n:Nat} {st:St} {Q:St->Prop} {k:List It}
def Go.At{i:aD}{l:List aD}{fx:VX}{xs:List VX}{f:FuncId}{caps:List V}{v:V}(hw:aZ st.s i.g=some true)(ho:i.op=.call fx xs)
 (hf:fx.ev st.s=.fn f caps)(hc:∀Z1,aa st.U Z1->ax P f (xs.map (·.ev st.s)++caps) Z1 λr Z'=>r=v/\Z'=Z1)(h:Go P n (.d l k) ⟨aQ st.s i.dst v,st.U⟩ Q):Go P n (.d (i::l) k) st Q:=by
 refine pZ hw ?_;rw[ho];exact⟨f,caps,v,hf,λZ1 h1=>hc Z1 h1,h⟩
end
def jZ{fs:List T'}{ws:List Int}{space high B:Int}{s:XR}(hB:∀f∈fs,f.y+f.h<=B)(h0:0<=high):∀(k i:Nat) (y:Int),∀x∈dc fs ws space high s k i y,y<=x.y/\x.y+high<=max y B+high*k
 |0,_,_,x,hx=>by simp[dc]at hx
 |k+1,i,y,x,hx=>by
  rw[dc]at hx;split at hx
  .have hr:=gb (w:=ws.getD i 0) (high:=high) (y:=y) (s:=s) hB;have e:(pD fs ws space high i y s).y=l8 fs (ws.getD i 0) high s y:=rfl;have e2:high*((k+1:Nat):Int)=high*k+high:=by rw[Int.natCast_add,Int.mul_add];simp
   have hk:0<=high*(k:Int):=Int.mul_nonneg h0 (by omega);rcases db.1 hx with rfl|hx
   .rw[e,e2];omega
   .have:=jZ hB h0 k _ _ x hx;rw[e]at this;rw[e2];omega
  .cases hx
def ZR.pM{l:List Nd}{rs:List Rm}{Z0 U:ag}{iw i:Nat}{s:WS}{o:Ob}(hJ:ZR l rs Z0 iw s U)(hi:U i=some o)(h1:o.elem≠137)(h2:o.elem≠150)(h3:i≠iw):ZR l rs (C' Z0 i o) iw s U:=by
 obtain⟨va,vf,w1,g1,g2,g3⟩:=hJ.row;have key:∀{e sz:Nat} {v:V} {rows:List V},o.elem≠e->aM (aX Z0 iw) U e sz v rows->aM (aX (C' Z0 i o) iw) U e sz v rows:=λ{e sz v rows} he h=>by
  rcases h with h|⟨id,a1,a2,a3⟩
  .exact .inl h
  .have W6:id≠i:=λe'=>by subst e';rw[a2]at hi;injection hi with hi;subst hi;exact he rfl
   exact .inr ⟨id,a1,a2,aH.2 ⟨(aH.1 a3).1,by rw[ae W6];exact(aH.1 a3).2⟩⟩
 refine⟨λj p h=>?_,by rw[ae h3.symm];exact hJ.no,va,vf,w1,key h1 g1,key h2 g2,g3⟩;by_cases e:j=i
 .subst e;rw[af]at h;rw[hi];exact h
 .rw[ae e]at h;exact hJ.sub _ _ h
def ZR.narrow{l:List Nd}{rs:List Rm}{Z0 U:ag}{iw i:Nat}{s:WS}{o:Ob}(hJ:ZR l rs (C' Z0 i o) iw s U)(hi:Z0 i=none)(h3:i≠iw):ZR l rs Z0 iw s U:=by
 obtain⟨va,vf,w1,g1,g2,g3⟩:=hJ.row;have hs:aa Z0 (C' Z0 i o):=(aa.refl Z0).av hi;have key:∀{e sz:Nat} {v:V} {rows:List V},aM (aX (C' Z0 i o) iw) U e sz v rows->aM (aX Z0 iw) U e sz v rows:=λ{e sz v rows} h=>by
  rcases h with h|⟨id,a1,a2,a3⟩
  .exact .inl h
  .exact .inr ⟨id,a1,a2,aH.2 ⟨(aH.1 a3).1,hs.none (aH.1 a3).2⟩⟩
 exact⟨hs.trans hJ.sub,hs.none hJ.no,va,vf,w1,key g1,key g2,g3⟩
def lj{U:ag}{e sz id:Nat}{rows:List V}{i:Nat}(h:U id=some ⟨e,sz,rows⟩)(hi:i<rows.length):bp U sz (.own id 0 rows.length) (.int .i64 i)=some (.ptr id i 0):=by
 simp[bp,h,hi]
def iG(a:Nat)(h:Int)(s:WS)(L:List Ln):WS:=L.foldl (λs x=>s.put (fq a h x)) s
def DZ{a:Nat}{h:Int}{s:WS}{L:List Ln}{j:Nat}(hj:j<L.length):iG a h s (L.take (j+1))=(iG a h s (L.take j)).put (fq a h L[j]):=by
 unfold iG;rw[ZS hj,vz];rfl
def sy(a:Nat)(h:Int):∀(L:List Ln) (s:WS),(iG a h s L).atoms.length=s.atoms.length+L.length
 |[],s=>by simp[iG]
 |x::L,s=>by
  have:=sy a h L (s.put (fq a h x));simp only[iG,jm]at this|-;rw[this];simp only[WS.put,iz,XX,List.length_nil];omega
def K6{l:List Nd}{rs:List Rm}(hD:DOk l rs){Z0 U:ag}{iw:Nat}{s:WS}{B:Int}(hJ:ZR l rs Z0 iw s U)(hB:Bd s B)(hB1:B<=288230376151711744)(a:Nat)(ha:a<l.length)(hn:s.atoms.length<=100000)(hfn:s.B'.length<=100000)(hwl:l[a].words.length<=10000):
 ax prog 164 [.ptr iw 0 0,vI a] U λr Z'=>r=.WJ []/\ZR l rs Z0 iw (WS.text rs s a l[a]) Z':=by
 obtain⟨va,vf,w1,ha1,hf1,hf2⟩:=hJ.row;obtain⟨ca,sa⟩:=ha1.vc;obtain⟨cf,sf⟩:=hf1.vc;have Xa:=gC hD.isb ha;have hsp:=hD.span ha;obtain⟨har,hrok⟩:=hD.room ha;have U':=jY l ha;unfold WS.text;generalize l[a]=n at*;have hwok:WOk n.words n.space:=⟨by omega,λx hx=>by have:=Xa.words x hx;omega,Xa.space.1,Xa.space.2⟩
 have hm:=hB.m1;have hm0:=hB.m0;have hy0:=hB.y0;have hyB:=hB.yB;have hlb:=Xa.line;refine Va.r (by simp[Rc]) ?_;refine ab.mix 7 ?_;apply sR;simp only[go_sem,seval,Rc,w1,U',Nd.cells];refine ad λi4 Z4 s4 a4 f4=>?_;have w4':=s4 _ _ w1;have n4:=al w1 f4;simp only[go_sem,seval,a4,w4',ae n4];generalize Ys:C' Z4 i4 _=Y4;have b4:Y4 i4=some ⟨59,20,[.agg (Nd.cells n)]⟩:=by rw[<-Ys];exact af
 rw[Nd.cells]at b4;have s4':aa U Y4:=by rw[<-Ys];exact s4.av f4
 clear Ys;have hlen:yj Y4 vf (aB s.B'):=(hf1.mono s4').H9;have hJ4:=hJ.mono s4';refine Go.bw rfl rfl rfl (Hh s.WV ⟨by omega,by omega⟩ ⟨by omega,by omega⟩) ?_;apply sG;simp only[go_sem,seval];refine Go.At rfl rfl rfl (λZ8 h8=>CM (hJ4.mono h8) a har hrok) ?_;apply sG;simp only[go_sem,seval];have hLl:=kM s.B' n.words n.space n.line (ee rs a) n.words.length 0 (s.WV.y+s.WV.m);have hLb:=jZ (ws:=n.words) (space:=n.space) (s:=ee rs a) (λf hf=>(hB.fl f hf).yB) hlb.1 n.words.length 0 (s.WV.y+s.WV.m);have H':=λZ8 (h8:aa Y4 Z8)=>(JF vf s.B' (hlen.mono h8) n.words n.space n.line (s.WV.y+s.WV.m) (ee rs a) (by omega) (hB.flo (by omega)) B (λf hf=>(hB.fl f hf).yB) (by omega) (by omega) (by omega) hlb.1 hlb.2 hsp.bq hwok).Gh λ_ _ h=>h.2.Ie (v0:=sO (dc s.B' n.words n.space n.line (ee rs a) n.words.length 0 (s.WV.y+s.WV.m))) h.1 rfl;generalize dc s.B' n.words n.space n.line (ee rs a) n.words.length 0 (s.WV.y+s.WV.m)=L at*;refine Go.At rfl rfl rfl (λZ8 h8=>H' Z8 h8) ?_;have hnL:cP false (sO L)=some (.int .i64 L.length):=by simp[sO,cP]
 apply sG;simp only[go_sem,seval,hnL];have h0i:Z0 i4=none:=hJ.sub.none f4;have hJw:=hJ4.pM b4 (by simp) (by simp) n4.symm;have hlo:((n.words.length:Nat):Int)<=10000:=by omega
 have hmul:n.line*(n.words.length:Int)<=1099511627776*10000:=Int.mul_le_mul hlb.2 hlo (by omega) (by omega);refine ab.loop (λm st=>∃j:Nat,j<=L.length/\m=L.length-j/\ZR l rs (C' Z0 i4 ⟨59,20,[.agg [vI n.kind,vI n.size,vI n.st.top,vI n.st.W3,vI n.st.WU,vI n.st.WI,vI n.st.XO,vI n.st.Xj,vI n.st.Xt,vI n.st.head,vI n.st.before,vI n.st.after,vI n.st.inside,vI n.st.clear,vI n.line,vI n.space,bb n.words,vI n.side,vI n.w,vI n.h]]⟩) iw (iG a n.line s (L.take j)) st.U/\
  st.s 0=.ptr iw 0 0/\st.s 1=vI a/\st.s 4=.ptr i4 0 0/\st.s 33=sO L/\st.s 34=vI L.length/\st.s 35=vI j) L.length ?_ ?_
 .exact⟨0,by omega,rfl,hJw,rfl,rfl,rfl,rfl,rfl,rfl⟩
 .rintro m ⟨S,J⟩ ⟨j,hj,rfl,YM,t0,t1,t4,t33,t34,t35⟩;simp only at YM t0 t1 t4 t33 t34 t35;refine ab.mix 7 ?_;have c4:=YM.sub _ _ (af (id:=i4));by_cases H':j<L.length
  .have q:((j:Int)<L.length)=True:=WE;have hix:∀U,bp U 5 (sO L) (.int .i64 j)=some (.rp (oC L[j])):=λU=>by simp[sO,bp,H']
   have XB:=DZ (a:=a) (h:=n.line) (s:=s) H';have XW:=hLb L[j] (XI H');have Zh:=sy a n.line (L.take j) s;rw[gO]at Zh;generalize L[j]=x at*;have hen:oC x=.agg [vI x.fr,vI x.to,vI x.x,vI x.y,vI x.w]:=rfl;apply sR;simp only[go_sem,seval,t33,t34,t35,q,hix,hen];refine ad λi6 Z6 s6 a6 f6=>?_;have d4:=s6 _ _ c4;have n46:=al c4 f6;simp only[go_sem,seval,a6,d4,t0,t1,t4,ae n46];refine ab.call rfl rfl rfl (KH (YM.mono (s6.av f6)) (fq a n.line x) (show Bq x.y from⟨by omega,by omega⟩) (show Bq n.line from⟨by omega,by omega⟩) (by omega)) ?_;rintro r Z' ⟨rfl,YL⟩;have r1:WR .i64 ((j:Int)+1):=ai;apply sR;simp only[go_sem,seval,t0,t1,t4,t33,t34,t35,r1];exact⟨_,by omega,j+1,by omega,rfl,by rw[XB];exact YL,by simp⟩
  .have q:((j:Int)<L.length)=False:=O';rw[lg (by omega)]at YM;apply sR;simp only[go_sem,seval,t34,t35,q];exact⟨_,_,aa.refl _,Wk.refl (aa.refl _) _,rfl,YM.narrow h0i n4.symm⟩
def nd0:Nd:=⟨0,0,YA.zero,0,0,[],0,0,0⟩
def Xf(l:List Nd)(a:Nat):Nd:=l.getD a nd0
def jG{l:List Nd}{a:Nat}(h:a<l.length):Xf l a=l[a]:=by simp[Xf,h]
def df(l:List Nd)(rs:List Rm):Nat->Nat->Nat->WS->WS
 |0,_,_,s=>s
 |k+1,a,e,s=>if a<e then df l rs k (a+(Xl l a).toNat) e
   (if(Xf l a).kind=1 then(df l rs k (a+1) (a+(Xl l a).toNat) (s.enter (Xf l a).st)).leave (Xf l a).st
    else if(Xf l a).kind=2 then s.text rs a (Xf l a)else if(Xf l a).kind=3 then WS.mono l rs s a (Xf l a)else s.float rs a (Xf l a))else s
def pj{l:List Nd}{rs:List Rm}{e:Nat}(he:e<=l.length):∀(k j a:Nat) (s:WS),e-a<=k->e-a<=j->bW l a e=true->df l rs k a e s=df l rs j a e s
 |0,0,_,_,_,_,_=>rfl
 |0,j+1,a,s,h,_,_=>by rw[df,df,ao (by omega)]
 |k+1,0,a,s,_,h,_=>by rw[df,df,ao (by omega)]
 |k+1,j+1,a,s,h,h',hr=>by
  rw[df,df];by_cases H':a<e
  .obtain⟨h1,h2⟩:=cL he hr (Xm a) H';obtain⟨h3,h4⟩:=dB he hr H';rw[aq H',aq H',pj (e:=a+(Xl l a).toNat) (by omega) k j _ _ (by omega) (by omega) h4,pj he k j _ _ (by omega) (by omega) h3]
  .rw[ao H',ao H']
def YE(l:List Nd)(a e:Nat):Nat:=(((l.take e).drop a).map λn=>4+n.words.length).sum
def KW(l:List Nd)(a:Nat):YE l a a=0:=by unfold YE;rw[List.drop_of_length_le (by rw[gO];omega)];rfl
def l5{l:List Nd}{a m e:Nat}(h1:a<=m)(h2:m<=e)(h3:e<=l.length):YE l a e=YE l a m+YE l m e:=by
 unfold YE;rw[<-List.sum_append_nat,<-gB];congr 2;have e1:l.take m=(l.take e).take m:=by rw[List.take_take,Nat.min_eq_left h2]
 rw[e1]
 conv=>lhs;rw[<-uR m (l.take e)]
 rw[Eb (by rw[gO,gO];omega)]
def LU{l:List Nd}{a:Nat}(h:a<l.length):YE l a (a+1)=4+l[a].words.length:=by
 unfold YE;rw[ZS h,Eb (by rw[gO];omega),List.drop_of_length_le (by rw[gO];omega)];simp
def vX{l:List Nd}{a e:Nat}(h1:a<e)(h3:e<=l.length):YE l a e=4+(Xf l a).words.length+YE l (a+1) e:=by
 rw[l5 (Nat.le_succ a) h1 h3,LU (by omega),jG (by omega)]
structure gi(s:WS)(C:Nat):Prop where
 bd:Bd s (1099511627776*(C:Int))
 Xg:s.atoms.length<=C
 fl:s.B'.length<=C
def gi.more{s:WS}{C D:Nat}(h:gi s C)(hD:C<=D):gi s D:=⟨h.bd.mono (by omega),jx h.Xg hD,jx h.fl hD⟩
def l7{l:List Nd}{rs:List Rm}{s:WS}{C:Nat}(h:gi s C){n:Nd}(hn:NOk n)(a:Nat):gi (WS.mono l rs s a n) (C+1):=by
 obtain⟨⟨hf,h1,h2,h3,h4⟩,h5,h6⟩:=h;have hyr:=gb (w:=n.w) (high:=n.h) (y:=s.WV.y+s.WV.m) (s:=ee rs a) (λf ZW=>(hf f ZW).yB);have hh:=hn.h;refine⟨⟨λf ZW=>(hf f ZW).mono (by omega),?_,?_,?_,?_⟩,?_,?_⟩<;>simp only[WS.mono,WS.put,iz,XX,List.length_nil]<;>omega
def kW{l:List Nd}{rs:List Rm}(hD:DOk l rs){s:WS}{C:Nat}(h:gi s C){a:Nat}(ha:a<l.length){n:Nd}(hn:NOk n)(hk:n.kind=4):gi (s.float rs a n) (C+1):=by
 obtain⟨⟨hf,h1,h2,h3,h4⟩,h5,h6⟩:=h;have hb:=hn.box (.inr hk);have hw:=hn.w;have hh:=hn.h;refine⟨⟨λf ZW=>?_,h1,h2,h3,by simp only[WS.float];omega⟩,by simp only[WS.float];omega,by simp only[WS.float,sJ,iz,XX,List.length_nil];omega⟩;exact(Lz (f:=⟨a,n.side,s.atoms.length,0,0,n.w,n.h⟩) hf (hD.span ha) (by omega) (by omega) (by simp only;omega) (by simp only;omega) (by simp only;omega) (by simp only;omega) f ZW).mono (by omega)
def lZ{rs:List Rm}{s:WS}{C:Nat}(h:gi s C){n:Nd}(hn:NOk n)(a:Nat):gi (s.text rs a n) (C+n.words.length):=by
 obtain⟨⟨hf,h1,h2,h3,h4⟩,h5,h6⟩:=h;have hl:=hn.line;unfold WS.text;have hLl:=kM s.B' n.words n.space n.line (ee rs a) n.words.length 0 (s.WV.y+s.WV.m);have hLb:=jZ (ws:=n.words) (space:=n.space) (s:=ee rs a) (λf ZW=>(hf f ZW).yB) hl.1 n.words.length 0 (s.WV.y+s.WV.m);generalize dc s.B' n.words n.space n.line (ee rs a) n.words.length 0 (s.WV.y+s.WV.m)=L at*;have hmul:n.line*(n.words.length:Int)<=1099511627776*(n.words.length:Int):=Int.mul_le_mul_of_nonneg_right hl.2 (by omega);have key:∀(L:List Ln) (t:WS),(∀x∈L,s.WV.y+s.WV.m<=x.y/\x.y+n.line<=max (s.WV.y+s.WV.m) (1099511627776*(C:Int))+n.line*(n.words.length:Int))->t.B'=s.B'->0<=t.WV.y->0<=t.WV.m->t.WV.m<=1099511627776->
  t.WV.y+t.WV.m<=1099511627776*((C+n.words.length:Nat):Int)->(iG a n.line t L).B'=s.B'/\0<=(iG a n.line t L).WV.y/\0<=(iG a n.line t L).WV.m/\(iG a n.line t L).WV.m<=1099511627776/\(iG a n.line t L).WV.y+(iG a n.line t L).WV.m<=1099511627776*((C+n.words.length:Nat):Int):=by
  intro L
  induction L with
  |nil=>intro t _ g1 g2 g3 g4 g5;exact⟨g1,g2,g3,g4,g5⟩
  |cons x L ih=>
   intro t hx g1 g2 g3 g4 g5;have hx0:=hx x (by simp);exact ih (t.put (fq a n.line x)) (λy hy=>hx y (by simp[hy])) g1 (by simp only[WS.put,fq];omega) (by simp[WS.put]) (by simp[WS.put]) (by simp only[WS.put,fq];omega)
 obtain⟨k1,k2,k3,k4,k5⟩:=key L s hLb rfl h1 h2 h3 (by omega);have Zh:=sy a n.line L s;refine⟨⟨λf ZW=>(hf f ?_).mono (by omega),k2,k3,k4,k5⟩,?_,?_⟩
 .have:f∈(iG a n.line s L).B':=ZW;rw[k1]at this;exact this
 .show(iG a n.line s L).atoms.length<=_;omega
 .show(iG a n.line s L).B'.length<=_;rw[k1];omega
def fp{s:WS}{C:Nat}(h:gi s C){t:YA}(ht:SOk t):gi (s.enter t) (C+2):=⟨(h.bd.enter ht).mono (by omega),by have:=h.Xg;simp only[WS.enter];omega,by have:=h.fl;simp only[WS.enter];omega⟩
def kS{s:WS}{C:Nat}(h:gi s C){t:YA}(ht:SOk t):gi (s.leave t) (C+2):=⟨(h.bd.leave ht).mono (by omega),by have:=h.Xg;simp only[WS.leave];omega,by have:=h.fl;simp only[WS.leave];omega⟩
def gJ{l:List Nd}{rs:List Rm}(hD:DOk l rs):∀(k a e:Nat) (s:WS) (C:Nat),e-a<=k->a<=e->e<=l.length->bW l a e=true->gi s C->gi (df l rs k a e s) (C+YE l a e)
 |0,a,e,s,C,_,hae,_,_,h=>h.more (Nat.le_add_right _ _)
 |k+1,a,e,s,C,hk,hae,he,hr,h=>by
  rw[df];by_cases H':a<e
  .rw[aq H'];obtain⟨h1,h2⟩:=cL he hr (Xm a) H';obtain⟨h3,h4⟩:=dB he hr H';have Xa:NOk (Xf l a):=by rw[jG (by omega)];exact gC hD.isb (by omega)
   have hc1:YE l a e=YE l a (a+(Xl l a).toNat)+YE l (a+(Xl l a).toNat) e:=l5 (by omega) (by omega) he;have hc2:YE l a (a+(Xl l a).toNat)=4+(Xf l a).words.length+YE l (a+1) (a+(Xl l a).toNat):=vX (by omega) (by omega);have step:∀t,gi t (C+YE l a (a+(Xl l a).toNat))->gi (df l rs k (a+(Xl l a).toNat) e t) (C+YE l a e):=λt ht=>by
    rw[hc1,<-Nat.add_assoc];exact gJ hD k _ e t _ (by omega) (by omega) he h3 ht
   refine step _ ?_;rw[hc2];split
   .have:=kS (gJ hD k (a+1) (a+(Xl l a).toNat) _ _ (by omega) (by omega) (by omega) h4 (fp h Xa.st)) Xa.st;exact this.more (by omega)
   .split
    .exact(lZ h Xa a).more (by omega)
    .split
     .exact(l7 h Xa a).more (by omega)
     .rename_i g1 g2 g3;have hk4:(Xf l a).kind=4:=by have:=Xa.kind;omega
      exact(kW hD h (by omega) Xa hk4).more (by omega)
  .rw[ao H'];exact h.more (Nat.le_add_right _ _)
open Go.Proofs Go.Proofs.Tryz
def SQ(l:List Nd)(rs:List Rm)(iw:Nat)(a e:Nat)(C:Nat):Prop:=
 ∀(s:WS) (Z0 U:ag),ZR l rs Z0 iw s U->gi s C->ax prog 107 [.ptr iw 0 0,vI a,vI e] U λr Z'=>r=.WJ []/\ZR l rs Z0 iw (df l rs (e-a) a e s) Z'
def ZR.I3{l:List Nd}{rs:List Rm}{Z0 J:ag}{iw:Nat}{s:WS}(hJ:ZR l rs Z0 iw s J){va vf:V}{y m:Int}(w:J iw=some ⟨209,7,[.agg [va,vf,vI s.WG,vI y,vI m,aC l,cz rs]]⟩)(p:Pn):
 ZR l rs Z0 iw { s with WV:=p } (C' J iw ⟨209,7,[.agg [va,vf,vI s.WG,vI p.y,vI p.m,aC l,cz rs]]⟩):=by
 obtain⟨va',vf',w',g1,g2,g3⟩:=hJ.row;rw[w]at w';simp only[aI,Ob.mk.injEq,List.cons.injEq,V.agg.injEq,true_and,and_true]at w';obtain⟨rfl,rfl,_⟩:=w';exact⟨hJ.sub.av hJ.no,hJ.no,va,vf,af,g1.En,g2.En,g3⟩
def kU(s:YA):V:=.agg [vI s.top,vI s.W3,vI s.WU,vI s.WI,vI s.XO,vI s.Xj,vI s.Xt,vI s.head,vI s.before,vI s.after,vI s.inside,vI s.clear]
def H4{l:List Nd}{rs:List Rm}(hD:DOk l rs){Z0 U:ag}{iw:Nat}{s:WS}{C:Nat}(hJ:ZR l rs Z0 iw s U)(hI:gi s C)(hC:C<=50000)(a:Nat)(ha:a<l.length)(Yd:SQ l rs iw (a+1) (a+(Xl l a).toNat) (C+2))(hC2:C+2+YE l (a+1) (a+(Xl l a).toNat)<=50000)
 (Zb:a+(Xl l a).toNat<=l.length)(hrB:bW l (a+1) (a+(Xl l a).toNat)=true)(YR:1<=Xl l a):
 ax prog 163 [.ptr iw 0 0,vI a] U λr Z'=>r=.WJ []/\ZR l rs Z0 iw ((df l rs (a+(Xl l a).toNat-(a+1)) (a+1) (a+(Xl l a).toNat) (s.enter l[a].st)).leave l[a].st) Z':=by
 obtain⟨va,vf,w1,ha1,hf1,hf2⟩:=hJ.row;obtain⟨ca,sa⟩:=ha1.vc;obtain⟨cf,sf⟩:=hf1.vc;have Xa:=gC hD.isb ha;have U':=jY l ha;have hszn:=mR ha;have hfine:=hD.uE;have q3:((a:Int)+l[a].size)=((a+(Xl l a).toNat:Nat):Int):=by rw[hszn];omega
 have q2:((a:Int)+1)=((a+1:Nat):Int):=by omega
 have hB:=hI.bd;have hm:=hB.m1;have hm0:=hB.m0;have hy0:=hB.y0;have hyB:=hB.yB;have hfl:=hI.fl;refine Tk.r (by simp[Pu]) ?_;refine ab.mix 7 ?_;apply sR;simp only[go_sem,seval,Pu,w1,U',Nd.cells];refine ad λi4 Z4 s4 a4 f4=>?_;have w4':=s4 _ _ w1;have n4:=al w1 f4;simp only[go_sem,seval,a4,w4',ae n4];generalize Ys:C' Z4 i4 _=Y4;have b4:Y4 i4=some ⟨56,12,[kU l[a].st]⟩:=by rw[<-Ys];exact af
 have s4':aa U Y4:=by rw[<-Ys];exact s4.av f4
 clear Ys;have w4:=s4' _ _ w1;have hlen:yj Y4 vf (aB s.B'):=(hf1.mono s4').H9;have h0i:Z0 i4=none:=hJ.sub.none f4;have hJ4:=(hJ.mono s4').pM b4 (by simp) (by simp) n4.symm;refine Go.At rfl rfl rfl (λZ8 h8=>aK.xV (args':=[aB s.B',vI l[a].st.clear]) ⟨(hlen.mono h8).at,ZV _,trivial⟩ (Cu s.B' l[a].st.clear (by omega) (hB.flo (by omega))) rfl) ?_;apply sG;simp only[go_sem,seval];obtain⟨s1,hs1e⟩:∃x,x=s.enter l[a].st:=⟨_,rfl⟩
 have hI1:=fp hI Xa.st;rw[<-hs1e]at hI1|-;unfold WS.enter at hs1e;simp only at hs1e;cases hlow:(dU (nE l[a].st.clear) s.B').2
 .rw[hlow]at hs1e;simp only[fG,↓reduceIte]at hs1e;simp only[go_sem,seval,cK];obtain⟨p,hp⟩:∃p:Pn,p=s.WV:=⟨_,rfl⟩
  have hs1e':s1={ s with WV:=ew p l[a].st.top l[a].st.WU }:=by rw[hs1e,hp]
  have hJ5:ZR l rs (C' Z0 i4 ⟨56,12,[kU l[a].st]⟩) iw { s with WV:=p } Y4:=by rw[hp];exact hJ4
  have w5:Y4 iw=some ⟨209,7,[.agg [va,vf,vI s.WG,vI p.y,vI p.m,aC l,cz rs]]⟩:=by rw[hp];exact w4
  have b5:=b4;obtain⟨hp1,hp2,hp3,hp4⟩:0<=p.y/\0<=p.m/\p.m<=1099511627776/\p.y+p.m<=1099511627776*(C:Int):=by rw[hp];exact⟨hy0,hm0,hm,hyB⟩
  clear hp;generalize Y4=Y5 at*;rw[kU]at b5;have WY:=Xa.st;have k1:=WY.top;have k2:=WY.WU;have k3:=WY.W3;have k4:=WY.WI;refine ab.uH (by kernel_rfl) [0,1,2,3,4,5,6,7,8,9,10,11,12] [[],[],[1],[1,2],[1,2,3],[],[5],[],[7],[1,2,3,4,5,6,7,8],[0,1,2,3,4,5,6,7,8,9],[0,1,2,3,4,5,6,7,8,9,10],[0,1,2,3,4,5,6,7,8,9,10,11]] [0,2,4,6,8,10,12,14,16,18,20,22,24] (by kernel_rfl) (by kernel_rfl) ?_;refine RE.XG (n:=0) [18,20,22,24] [0,2,4,6,8,10,12,14,16] [⟨(.some 36),(.W1 (.t 0)),.none⟩,⟨(.some 37),(.W1 (.t 0)),.none⟩,⟨(.some 38),(.nilCheck (.t 37)),.none⟩,⟨(.some 39),(.W7 .true 3 2 (.t 38)),.none⟩,⟨(.some 40),(.load .true 2 (.t 39)),.none⟩,⟨(.some 41),(.W7 .false 0 1 (.t 4)),.none⟩,⟨(.some 42),(.load .false 1 (.t 41)),.none⟩,⟨(.some 43),(.W7 .false 2 1 (.t 4)),.none⟩,⟨(.some 44),(.load .false 1 (.t 43)),.none⟩] rfl rfl ?_;apply sG;simp only[go_sem,seval,w5,b5];refine RE.au rfl rfl rfl rfl rfl (E1 p l[a].st.top l[a].st.WU ⟨by omega,by omega⟩ ⟨by omega,by omega⟩ ⟨by omega,by omega⟩ ⟨by omega,by omega⟩ _) ?_;refine RE.XG (n:=0) [] [20,22,24] [⟨(.some 46),(.nilCheck (.t 36)),.none⟩,⟨(.some 47),(.W7 .true 3 2 (.t 46)),.none⟩,⟨.none,(.store 2 (.t 47) (.t 45)),.none⟩] rfl rfl ?_;apply sG;simp only[go_sem,seval,w5,hU];have hJ6:=hJ5.I3 w5 (ew p l[a].st.top l[a].st.WU);rw[<-hs1e']at hJ6;have r1:WR .i64 ((a:Int)+1):=ai;have r2:WR .i64 ((a:Int)+l[a].size):=ai;have w6:=af (U:=Y5) (id:=iw) (o:=⟨209,7,[.agg [va,vf,vI s.WG,vI (ew p l[a].st.top l[a].st.WU).y,vI (ew p l[a].st.top l[a].st.WU).m,aC l,cz rs]]⟩);have hc:=Yd s1 _ _ hJ6 hI1;rw[<-q2,<-q3]at hc;generalize C' Y5 iw ⟨209,7,[.agg [va,vf,vI s.WG,vI (ew p l[a].st.top l[a].st.WU).y,vI (ew p l[a].st.top l[a].st.WU).m,aC l,cz rs]]⟩=Y6 at*;apply sR;simp only[go_sem,seval,w6,U',Nd.cells,r1,r2];refine ab.call rfl rfl rfl hc ?_;rintro r Z7 ⟨rfl,hJ7⟩;have hI7:=gJ hD (a+(Xl l a).toNat-(a+1)) (a+1) (a+(Xl l a).toNat) s1 _ (Xm _) (by omega) Zb hrB hI1;have b7:=hJ7.sub _ _ (af (id:=i4));rw[kU]at b7;generalize df l rs (a+(Xl l a).toNat-(a+1)) (a+1) (a+(Xl l a).toNat) s1=s2 at*;obtain⟨va7,vf7,w7,g71,g72,_⟩:=hJ7.row;obtain⟨ca7,_⟩:=g71.vc;obtain⟨cf7,_⟩:=g72.vc;have m1:=hI7.bd.m1;have m2:=hI7.bd.m0;have m3:=hI7.bd.y0;have m4:=hI7.bd.yB;apply sR;simp only[go_sem,seval,cK];refine ab.uH (by kernel_rfl) [0,1,2,3,4,5,6,7,8,9,10,11,12] [[],[],[1],[1,2],[1,2,3],[],[5],[],[7],[1,2,3,4,5,6,7,8],[0,1,2,3,4,5,6,7,8,9],[0,1,2,3,4,5,6,7,8,9,10],[0,1,2,3,4,5,6,7,8,9,10,11]] [0,2,4,6,8,10,12,14,16,18,20,22,24] (by kernel_rfl) (by kernel_rfl) ?_;refine RE.XG (n:=0) [18,20,22,24] [0,2,4,6,8,10,12,14,16] [⟨(.some 62),(.W1 (.t 0)),.none⟩,⟨(.some 63),(.W1 (.t 0)),.none⟩,⟨(.some 64),(.nilCheck (.t 63)),.none⟩,⟨(.some 65),(.W7 .true 3 2 (.t 64)),.none⟩,⟨(.some 66),(.load .true 2 (.t 65)),.none⟩,⟨(.some 67),(.W7 .false 1 1 (.t 4)),.none⟩,⟨(.some 68),(.load .false 1 (.t 67)),.none⟩,⟨(.some 69),(.W7 .false 3 1 (.t 4)),.none⟩,⟨(.some 70),(.load .false 1 (.t 69)),.none⟩] rfl rfl ?_;apply sG;simp only[go_sem,seval,w7,b7];refine RE.au rfl rfl rfl rfl rfl (EN s2.WV l[a].st.W3 l[a].st.WI ⟨by omega,by omega⟩ ⟨by omega,by omega⟩ ⟨by omega,by omega⟩ ⟨by omega,by omega⟩ _) ?_;refine RE.XG (n:=0) [] [20,22,24] [⟨(.some 72),(.nilCheck (.t 62)),.none⟩,⟨(.some 73),(.W7 .true 3 2 (.t 72)),.none⟩,⟨.none,(.store 2 (.t 73) (.t 71)),.none⟩] rfl rfl ?_;apply sG;simp only[go_sem,seval,w7,hU];apply sR;simp only[go_sem,seval];exact⟨_,_,aa.refl _,Wk.refl (aa.refl _) _,rfl,(hJ7.I3 w7 (mZ s2.WV l[a].st.W3 l[a].st.WI)).narrow h0i n4.symm⟩
 .rw[hlow]at hs1e;simp only[↓reduceIte]at hs1e;obtain⟨f,hfm,e1,_⟩:=mU hlow;have e2:(nE l[a].st.clear f).1=f.y+f.h:=rfl;have hfo:=hB.fl f hfm;generalize (dU (nE l[a].st.clear) s.B').1=low at*;simp only[go_sem,seval,w4];refine ab.au rfl rfl rfl (Kr s.WV low ⟨by omega,by omega⟩ ⟨by omega,by omega⟩ _) ?_;apply sR;simp only[go_sem,seval,w4,hU,cK];obtain⟨p,hp⟩:∃p:Pn,p=jT s.WV low:=⟨_,rfl⟩
  rw[<-hp]at hs1e|-;have hs1e':=hs1e;have hJ5:=hJ4.I3 w4 p;have w5:=af (U:=Y4) (id:=iw) (o:=⟨209,7,[.agg [va,vf,vI s.WG,vI p.y,vI p.m,aC l,cz rs]]⟩);have b5:C' Y4 iw ⟨209,7,[.agg [va,vf,vI s.WG,vI p.y,vI p.m,aC l,cz rs]]⟩ i4=some ⟨56,12,[kU l[a].st]⟩:=by rw[ae n4.symm];exact b4
  obtain⟨hp1,hp2,hp3,hp4⟩:0<=p.y/\0<=p.m/\p.m<=1099511627776/\p.y+p.m<=1099511627776*(C:Int):=by
   rw[hp];have hy:=hfo.yB;have hy0:=hfo.y0;have hh0:=hfo.h0;unfold jT;split<;>(try simp only)<;>omega
  clear hp;generalize C' Y4 iw ⟨209,7,[.agg [va,vf,vI s.WG,vI p.y,vI p.m,aC l,cz rs]]⟩=Y5 at*;rw[kU]at b5;have WY:=Xa.st;have k1:=WY.top;have k2:=WY.WU;have k3:=WY.W3;have k4:=WY.WI;refine ab.uH (by kernel_rfl) [0,1,2,3,4,5,6,7,8,9,10,11,12] [[],[],[1],[1,2],[1,2,3],[],[5],[],[7],[1,2,3,4,5,6,7,8],[0,1,2,3,4,5,6,7,8,9],[0,1,2,3,4,5,6,7,8,9,10],[0,1,2,3,4,5,6,7,8,9,10,11]] [0,2,4,6,8,10,12,14,16,18,20,22,24] (by kernel_rfl) (by kernel_rfl) ?_;refine RE.XG (n:=0) [18,20,22,24] [0,2,4,6,8,10,12,14,16] [⟨(.some 36),(.W1 (.t 0)),.none⟩,⟨(.some 37),(.W1 (.t 0)),.none⟩,⟨(.some 38),(.nilCheck (.t 37)),.none⟩,⟨(.some 39),(.W7 .true 3 2 (.t 38)),.none⟩,⟨(.some 40),(.load .true 2 (.t 39)),.none⟩,⟨(.some 41),(.W7 .false 0 1 (.t 4)),.none⟩,⟨(.some 42),(.load .false 1 (.t 41)),.none⟩,⟨(.some 43),(.W7 .false 2 1 (.t 4)),.none⟩,⟨(.some 44),(.load .false 1 (.t 43)),.none⟩] rfl rfl ?_;apply sG;simp only[go_sem,seval,w5,b5];refine RE.au rfl rfl rfl rfl rfl (E1 p l[a].st.top l[a].st.WU ⟨by omega,by omega⟩ ⟨by omega,by omega⟩ ⟨by omega,by omega⟩ ⟨by omega,by omega⟩ _) ?_;refine RE.XG (n:=0) [] [20,22,24] [⟨(.some 46),(.nilCheck (.t 36)),.none⟩,⟨(.some 47),(.W7 .true 3 2 (.t 46)),.none⟩,⟨.none,(.store 2 (.t 47) (.t 45)),.none⟩] rfl rfl ?_;apply sG;simp only[go_sem,seval,w5,hU];have hJ6:=hJ5.I3 w5 (ew p l[a].st.top l[a].st.WU);rw[<-hs1e']at hJ6;have r1:WR .i64 ((a:Int)+1):=ai;have r2:WR .i64 ((a:Int)+l[a].size):=ai;have w6:=af (U:=Y5) (id:=iw) (o:=⟨209,7,[.agg [va,vf,vI s.WG,vI (ew p l[a].st.top l[a].st.WU).y,vI (ew p l[a].st.top l[a].st.WU).m,aC l,cz rs]]⟩);have hc:=Yd s1 _ _ hJ6 hI1;rw[<-q2,<-q3]at hc;generalize C' Y5 iw ⟨209,7,[.agg [va,vf,vI s.WG,vI (ew p l[a].st.top l[a].st.WU).y,vI (ew p l[a].st.top l[a].st.WU).m,aC l,cz rs]]⟩=Y6 at*;apply sR;simp only[go_sem,seval,w6,U',Nd.cells,r1,r2];refine ab.call rfl rfl rfl hc ?_;rintro r Z7 ⟨rfl,hJ7⟩;have hI7:=gJ hD (a+(Xl l a).toNat-(a+1)) (a+1) (a+(Xl l a).toNat) s1 _ (Xm _) (by omega) Zb hrB hI1;have b7:=hJ7.sub _ _ (af (id:=i4));rw[kU]at b7;generalize df l rs (a+(Xl l a).toNat-(a+1)) (a+1) (a+(Xl l a).toNat) s1=s2 at*;obtain⟨va7,vf7,w7,g71,g72,_⟩:=hJ7.row;obtain⟨ca7,_⟩:=g71.vc;obtain⟨cf7,_⟩:=g72.vc;have m1:=hI7.bd.m1;have m2:=hI7.bd.m0;have m3:=hI7.bd.y0;have m4:=hI7.bd.yB;apply sR;simp only[go_sem,seval,cK];refine ab.uH (by kernel_rfl) [0,1,2,3,4,5,6,7,8,9,10,11,12] [[],[],[1],[1,2],[1,2,3],[],[5],[],[7],[1,2,3,4,5,6,7,8],[0,1,2,3,4,5,6,7,8,9],[0,1,2,3,4,5,6,7,8,9,10],[0,1,2,3,4,5,6,7,8,9,10,11]] [0,2,4,6,8,10,12,14,16,18,20,22,24] (by kernel_rfl) (by kernel_rfl) ?_;refine RE.XG (n:=0) [18,20,22,24] [0,2,4,6,8,10,12,14,16] [⟨(.some 62),(.W1 (.t 0)),.none⟩,⟨(.some 63),(.W1 (.t 0)),.none⟩,⟨(.some 64),(.nilCheck (.t 63)),.none⟩,⟨(.some 65),(.W7 .true 3 2 (.t 64)),.none⟩,⟨(.some 66),(.load .true 2 (.t 65)),.none⟩,⟨(.some 67),(.W7 .false 1 1 (.t 4)),.none⟩,⟨(.some 68),(.load .false 1 (.t 67)),.none⟩,⟨(.some 69),(.W7 .false 3 1 (.t 4)),.none⟩,⟨(.some 70),(.load .false 1 (.t 69)),.none⟩] rfl rfl ?_;apply sG;simp only[go_sem,seval,w7,b7];refine RE.au rfl rfl rfl rfl rfl (EN s2.WV l[a].st.W3 l[a].st.WI ⟨by omega,by omega⟩ ⟨by omega,by omega⟩ ⟨by omega,by omega⟩ ⟨by omega,by omega⟩ _) ?_;refine RE.XG (n:=0) [] [20,22,24] [⟨(.some 72),(.nilCheck (.t 62)),.none⟩,⟨(.some 73),(.W7 .true 3 2 (.t 72)),.none⟩,⟨.none,(.store 2 (.t 73) (.t 71)),.none⟩] rfl rfl ?_;apply sG;simp only[go_sem,seval,w7,hU];apply sR;simp only[go_sem,seval];exact⟨_,_,aa.refl _,Wk.refl (aa.refl _) _,rfl,(hJ7.I3 w7 (mZ s2.WV l[a].st.W3 l[a].st.WI)).narrow h0i n4.symm⟩
open Go.Proofs Go.Proofs.Tryz
def Hu{l:List Nd}{rs:List Rm}{b e:Nat}(he:e<=l.length)(hr:bW l b e=true)(H':b<e)(s:WS):
 df l rs (e-b) b e s=df l rs (e-(b+(Xl l b).toNat)) (b+(Xl l b).toNat) e
  (if(Xf l b).kind=1 then(df l rs (b+(Xl l b).toNat-(b+1)) (b+1) (b+(Xl l b).toNat) (s.enter (Xf l b).st)).leave (Xf l b).st
   else if(Xf l b).kind=2 then s.text rs b (Xf l b)else if(Xf l b).kind=3 then WS.mono l rs s b (Xf l b)else s.float rs b (Xf l b)):=by
 obtain⟨h1,h2⟩:=cL he hr (Xm b) H';obtain⟨h3,h4⟩:=dB he hr H';rw[show e-b=(e-b-1)+1 by omega,df,aq H',pj (e:=b+(Xl l b).toNat) (by omega) (e-b-1) _ _ _ (by omega) (Xm _) h4,pj he (e-b-1) _ _ _ (by omega) (Xm _) h3]
def QT{l:List Nd}{rs:List Rm}(hD:DOk l rs)(hwl:∀n∈l,n.words.length<=10000){iw:Nat}:∀(m a e C:Nat),e-a<m->a<=e->e<=l.length->bW l a e=true->C+YE l a e<=50000->SQ l rs iw a e C:=by
 intro m
 induction m with
 |zero=>intro a e C h;omega
 |succ m ih=>?_
 intro a e C hm hae he hrB hC s Z0 U hJ hI;have hfine:=hD.uE;refine U3.r (by simp[Ph]) ?_;refine ab.mix 7 ?_;obtain⟨va0,vf0,w0,_,_,_⟩:=hJ.row;have hb1:∀f:FuncId,(V.bm f [.ptr iw 0 0]).cells=[.bm f [.ptr iw 0 0]]:=λ_=>rfl;have XW:∀f:FuncId,(V.bm f [.ptr iw 0 0]).stays=true:=λ_=>rfl;have hnf:V.Xu.cells=[.Xu]:=rfl;apply sR;simp only[go_sem,seval,Ph,hb1,XW];refine ad λi6 Z6 s6 a6 f6=>?_;have n6:=al w0 f6;simp only[go_sem,seval,a6];generalize ZX:C' Z6 i6 _=Y6;have b6:Y6 i6=some ⟨260,5,[.agg [.Xu,.bm 163 [.ptr iw 0 0],.bm 164 [.ptr iw 0 0],.bm 165 [.ptr iw 0 0],.bm 166 [.ptr iw 0 0]]]⟩:=by rw[<-ZX];exact af
 have s6':aa U Y6:=by rw[<-ZX];exact s6.av f6
 clear ZX;have h0i:Z0 i6=none:=hJ.sub.none f6;have hJ6:=(hJ.mono s6').pM b6 (by simp) (by simp) n6.symm;refine ab.loop (λq st=>∃(b:Nat) (s':WS),q=e-b/\a<=b/\b<=e/\bW l b e=true/\df l rs (e-a) a e s=df l rs (e-b) b e s'/\gi s' (C+YE l a b)/\
  ZR l rs (C' Z0 i6 ⟨260,5,[.agg [.Xu,.bm 163 [.ptr iw 0 0],.bm 164 [.ptr iw 0 0],.bm 165 [.ptr iw 0 0],.bm 166 [.ptr iw 0 0]]]⟩) iw s' st.U/\
  st.s 0=.ptr iw 0 0/\st.s 1=vI b/\st.s 2=vI e/\st.s 6=.ptr i6 0 0) (e-a) ?_ ?_
 .exact⟨a,s,rfl,Xm _,hae,hrB,rfl,by rw[KW];exact hI,hJ6,rfl,rfl,rfl,rfl⟩
 .rintro q ⟨S,J⟩ ⟨b,s',rfl,hab,hbe,hbB,heq,hIb,hJb,t0,t1,t2,t6⟩;simp only at hJb t0 t1 t2 t6;refine ab.mix 7 ?_;by_cases H':b<e
  .have q1:((b:Int)<(e:Int))=True:=WE;obtain⟨h1,h2⟩:=cL he hbB (Xm b) H';obtain⟨h3,h4⟩:=dB he hbB H';have XU:b<l.length:=by omega
   have Xa:=gC hD.isb XU;have Zb:=mR XU;have U':=jY l XU;have hc1:YE l a e=YE l a b+YE l b e:=l5 hab hbe he;have hc2:YE l b e=YE l b (b+(Xl l b).toNat)+YE l (b+(Xl l b).toNat) e:=l5 (by omega) (by omega) he;have ZC:YE l b (b+(Xl l b).toNat)=4+(Xf l b).words.length+YE l (b+1) (b+(Xl l b).toNat):=vX (by omega) (by omega);have hc4:YE l a (b+(Xl l b).toNat)=YE l a b+YE l b (b+(Xl l b).toNat):=l5 hab (by omega) (by omega);have YK:=jG XU;have q3:((b:Int)+l[b].size)=((b+(Xl l b).toNat:Nat):Int):=by rw[Zb];omega
   have r2:WR .i64 ((b:Int)+l[b].size):=ai;have WY:=Hu (rs:=rs) he hbB H' s';rw[YK]at WY ZC;have c6:=hJb.sub _ _ (af (id:=i6));obtain⟨va,vf,w1,g1,g2,_⟩:=hJb.row;obtain⟨ca,_⟩:=g1.vc;obtain⟨cf,_⟩:=g2.vc;have hBb:=hIb.bd.mono (C:=288230376151711744) (by omega);have XL:∀s2,s2=(if l[b].kind=1 then(df l rs (b+(Xl l b).toNat-(b+1)) (b+1) (b+(Xl l b).toNat) (s'.enter l[b].st)).leave l[b].st
    else if l[b].kind=2 then s'.text rs b l[b]else if l[b].kind=3 then WS.mono l rs s' b l[b]else s'.float rs b l[b])->gi s2 (C+YE l a (b+(Xl l b).toNat)):=by
     rintro s2 rfl;rw[hc4,ZC];split
     .exact(kS (gJ hD _ (b+1) (b+(Xl l b).toNat) _ _ (Xm _) (by omega) (by omega) h4 (fp hIb Xa.st)) Xa.st).more (by omega)
     .split
      .exact(lZ hIb Xa b).more (by omega)
      .split
       .exact(l7 hIb Xa b).more (by omega)
       .rename_i g1 g2 g3;exact(kW hD hIb XU Xa (by have:=Xa.kind;omega)).more (by omega)
   rcases Xa.kind with hk|hk|hk|hk
   .apply sR;simp only[go_sem,seval,q1,t0,t1,t2,t6,w1,c6,U',Nd.cells,hk];refine ab.mj rfl rfl rfl (H4 hD hJb hIb (by omega) b XU (ih (b+1) (b+(Xl l b).toNat) _ (by omega) (by omega) (by omega) h4 (by omega)) (by omega) (by omega) h4 h2) ?_;rintro r Z' ⟨rfl,YL⟩;have w2':=YL.row;obtain⟨va2,vf2,w2,g12,g22,_⟩:=w2';obtain⟨ca2,_⟩:=g12.vc;obtain⟨cf2,_⟩:=g22.vc;apply sR;simp only[go_sem,seval,t0,t1,t2,t6,w2,U',Nd.cells,r2];refine⟨_,?_,b+(Xl l b).toNat,_,rfl,by omega,by omega,h3,by rw[heq,WY],XL _ rfl,?_,by simp[q3]⟩
    .omega
    .simpa[hk]using YL
   .apply sR;simp only[go_sem,seval,q1,t0,t1,t2,t6,w1,c6,U',Nd.cells,hk];refine ab.mj rfl rfl rfl (K6 hD hJb hBb (by omega) b XU (by have:=hIb.Xg;omega) (by have:=hIb.fl;omega) (hwl _ (XI XU))) ?_;rintro r Z' ⟨rfl,YL⟩;have w2':=YL.row;obtain⟨va2,vf2,w2,g12,g22,_⟩:=w2';obtain⟨ca2,_⟩:=g12.vc;obtain⟨cf2,_⟩:=g22.vc;apply sR;simp only[go_sem,seval,t0,t1,t2,t6,w2,U',Nd.cells,r2];refine⟨_,?_,b+(Xl l b).toNat,_,rfl,by omega,by omega,h3,by rw[heq,WY],XL _ rfl,?_,by simp[q3]⟩
    .omega
    .simpa[hk]using YL
   .apply sR;simp only[go_sem,seval,q1,t0,t1,t2,t6,w1,c6,U',Nd.cells,hk];refine ab.mj rfl rfl rfl (Ms hD hJb hBb (by omega) b XU hk (by have:=hIb.Xg;omega) (by have:=hIb.fl;omega)) ?_;rintro r Z' ⟨rfl,YL⟩;have w2':=YL.row;obtain⟨va2,vf2,w2,g12,g22,_⟩:=w2';obtain⟨ca2,_⟩:=g12.vc;obtain⟨cf2,_⟩:=g22.vc;apply sR;simp only[go_sem,seval,t0,t1,t2,t6,w2,U',Nd.cells,r2];refine⟨_,?_,b+(Xl l b).toNat,_,rfl,by omega,by omega,h3,by rw[heq,WY],XL _ rfl,?_,by simp[q3]⟩
    .omega
    .simpa[hk]using YL
   .apply sR;simp only[go_sem,seval,q1,t0,t1,t2,t6,w1,c6,U',Nd.cells,hk];refine ab.mj rfl rfl rfl (Kf hD hJb hBb (by omega) b XU (by have:=hIb.Xg;omega) (by have:=hIb.fl;omega)) ?_;rintro r Z' ⟨rfl,YL⟩;have w2':=YL.row;obtain⟨va2,vf2,w2,g12,g22,_⟩:=w2';obtain⟨ca2,_⟩:=g12.vc;obtain⟨cf2,_⟩:=g22.vc;apply sR;simp only[go_sem,seval,t0,t1,t2,t6,w2,U',Nd.cells,r2];refine⟨_,?_,b+(Xl l b).toNat,_,rfl,by omega,by omega,h3,by rw[heq,WY],XL _ rfl,?_,by simp[q3]⟩
    .omega
    .simpa[hk]using YL
  .have q1:((b:Int)<(e:Int))=False:=O';apply sR;simp only[go_sem,seval,q1,t1,t2];refine⟨_,_,aa.refl _,Wk.refl (aa.refl _) _,rfl,?_⟩;have hz:df l rs (e-b) b e s'=s':=by rw[show e-b=0 by omega];rfl
   rw[heq,hz];exact hJb.narrow h0i n6.symm
open Go.Proofs Go.Proofs.Tryz
def oD(n:Nat)(f:T'):T':={ f with anchor:=max 0 (min f.anchor ((n:Int)-1)) }
def C1(s:WS):Int:=if(dU (nE 3) s.B').2 then max (s.WV.y+s.WV.m) (dU (nE 3) s.B').1 else s.WV.y+s.WV.m
def WS.fin(s:WS):WS:={ s with WG:=C1 s,B':=s.B'.map (oD s.atoms.length) }
def iT(n j:Nat)(l:List T'):List T':=(l.take j).map (oD n)++l.drop j
def ph(n j:Nat)(l:List T'):(iT n j l).length=l.length:=by unfold iT;simp;omega
def zw{n j:Nat}{l:List T'}(h:j<l.length):(iT n j l)[j]?=some l[j]:=by
 unfold iT;rw[KO (by simp;omega)];simp[h,Nat.min_eq_left (Nat.le_of_lt h)]
def yz{n j:Nat}{l:List T'}(h:j<l.length):(iT n j l).set j (oD n l[j])=iT n (j+1) l:=by
 unfold iT;have e1:((l.take j).map (oD n)).length=j:=by simp;omega
 have e2:l.drop j=l[j]::l.drop (j+1):=gF h;rw[List.set_append_right _ _ (by omega),e1,Nat.sub_self,e2,List.set_cons_zero,ZS h,gB];simp
def ZR.Nk{l:List Nd}{rs:List Rm}{Z0 J:ag}{iw:Nat}{s:WS}(hJ:ZR l rs Z0 iw s J){va vf:V}{h0:Int}(w:J iw=some ⟨209,7,[.agg [va,vf,vI h0,vI s.WV.y,vI s.WV.m,aC l,cz rs]]⟩)(h:Int):
 ZR l rs Z0 iw { s with WG:=h } (C' J iw ⟨209,7,[.agg [va,vf,vI h,vI s.WV.y,vI s.WV.m,aC l,cz rs]]⟩):=by
 obtain⟨va',vf',w',g1,g2,g3⟩:=hJ.row;rw[w]at w';simp only[aI,Ob.mk.injEq,List.cons.injEq,V.agg.injEq,true_and,and_true]at w';obtain⟨rfl,rfl,_⟩:=w';exact⟨hJ.sub.av hJ.no,hJ.no,va,vf,af,g1.En,g2.En,g3⟩
def OS{l:List Nd}{rs:List Rm}{Z0 U:ag}{iw:Nat}{s:WS}{C:Nat}(hJ:ZR l rs Z0 iw s U)(hI:gi s C)(hC:C<=100000):
 ax prog 108 [.ptr iw 0 0] U λr Z'=>r=.WJ []/\ZR l rs Z0 iw s.fin Z':=by
 obtain⟨va,vf,w1,ha1,hf1,hf2⟩:=hJ.row;obtain⟨ca,sa⟩:=ha1.vc;obtain⟨cf,sf⟩:=hf1.vc;have hB:=hI.bd;have hm:=hB.m1;have hm0:=hB.m0;have hy0:=hB.y0;have hyB:=hB.yB;have hfl:=hI.fl;have Zh:=hI.Xg;have hlf:cP false vf=some (.int .i64 s.B'.length):=by rw[hf1.len];simp
 refine Vm.r (by simp[NH]) ?_;refine ab.mix 5 ?_;apply sR;simp only[go_sem,seval,NH,w1];refine ab.au rfl rfl rfl (Hh s.WV ⟨by omega,by omega⟩ ⟨by omega,by omega⟩ _) ?_;apply sR;simp only[go_sem,seval,w1];have hJ2:=hJ.Nk w1 (s.WV.y+s.WV.m);have w2:=af (U:=U) (id:=iw) (o:=⟨209,7,[.agg [va,vf,vI (s.WV.y+s.WV.m),vI s.WV.y,vI s.WV.m,aC l,cz rs]]⟩);have hf3:=hf1.En (o:=⟨209,7,[.agg [va,vf,vI (s.WV.y+s.WV.m),vI s.WV.y,vI s.WV.m,aC l,cz rs]]⟩);generalize C' U iw ⟨209,7,[.agg [va,vf,vI (s.WV.y+s.WV.m),vI s.WV.y,vI s.WV.m,aC l,cz rs]]⟩=Y2 at*;refine ab.au rfl rfl rfl (aK.xV (args':=[aB s.B',vI 3]) ⟨hf3.H9.at,ZV _,trivial⟩ (Cu s.B' 3 (by omega) (hB.flo (by omega))) rfl) ?_;cases hlow:(dU (nE 3) s.B').2
 .have hh:C1 s=s.WV.y+s.WV.m:=by unfold C1;rw[hlow];rfl
  apply sR;simp only[go_sem,seval,w2,hlf];have hJ3:ZR l rs Z0 iw { s with WG:=C1 s } Y2:=by rw[hh];exact hJ2
  refine ab.loop (λm st=>∃j:Nat,j<=s.B'.length/\m=s.B'.length-j/\ZR l rs Z0 iw { s with WG:=C1 s,B':=iT s.atoms.length j s.B' } st.U/\st.s 0=.ptr iw 0 0/\st.s 40=vI s.B'.length/\st.s 41=vI j) s.B'.length ?_ ?_
  .exact⟨0,by omega,rfl,by simpa[iT]using hJ3,rfl,rfl,rfl⟩
  .rintro m ⟨S,J⟩ ⟨j,hj,rfl,YM,t0,t40,t41⟩;simp only at YM t0 t40 t41;refine ab.mix 5 ?_;by_cases H':j<s.B'.length
   .have q:((j:Int)<s.B'.length)=True:=WE;obtain⟨va4,vf4,w4,g1,g2,g3⟩:=YM.row;simp only at w4 g1 g2 g3;obtain⟨ca4,_⟩:=g1.vc;have hla4:cP false va4=some (.int .i64 s.atoms.length):=by rw[g1.len];simp
    have hlen4:=ph s.atoms.length j s.B';rcases g2 with⟨_,h0⟩|⟨id,rfl,h2,h3⟩
    .exfalso;have:=congrArg List.length h0;rw[dd,hlen4]at this;simp only[List.length_nil]at this;omega
    have ZU:=zw (n:=s.atoms.length) H';have hset:=yz (n:=s.atoms.length) H';have hget2:((iT s.atoms.length j s.B').map aJ)[j]?=some (aJ s.B'[j]):=by rw[qX,ZU];rfl
    have hrl:((iT s.atoms.length j s.B').map aJ).length=s.B'.length:=by rw[dd,hlen4]
    have P':∀n,n=s.B'.length->bp J 7 (.own id 0 n) (.int .i64 j)=some (.ptr id j 0):=λn hn=>by subst hn;rw[<-hrl];exact lj h2 (by rw[hrl];exact H')
    generalize hfj:s.B'[j]=f at*;have hen:aJ f=.agg [vI f.node,vI f.side,vI f.anchor,vI f.x,vI f.y,vI f.w,vI f.h]:=rfl;rw[hen]at hget2;have r1:WR .i64 ((s.atoms.length:Int)-1):=ai;have r2:WR .i64 ((j:Int)+1):=ai;have cf4:(V.own id 0 s.B'.length).cells=[.own id 0 s.B'.length]:=rfl;rw[hrl]at w4;apply sR;simp only[go_sem,seval,t0,t40,t41,q,w4,hla4,h2,P' _ rfl,hget2,r1,r2,dr,gT];have W6:iw≠id:=(aH.1 h3).1.symm;have hlen5:=ph s.atoms.length (j+1) s.B';refine⟨_,by omega,j+1,by omega,rfl,⟨YM.sub.av (aH.1 h3).2,YM.no,va4,.own id 0 s.B'.length,by rw[ae W6];exact w4,?_,.inr ⟨id,by rw[dd,hlen5],?_,h3⟩,λh=>?_⟩,rfl⟩
    .rcases g1 with h|⟨i1,k1,k2,k3⟩
     .exact .inl h
     .have hne1:i1≠id:=λe=>by rw[e,h2]at k2;simp at k2
      exact .inr ⟨i1,k1,by rw[ae hne1];exact k2,k3⟩
    .rw[af,<-hset,List.map_set];rfl
    .have:=congrArg List.length h;rw[hlen5]at this;simp only[List.length_nil]at this;omega
   .have q:((j:Int)<s.B'.length)=False:=O';apply sR;simp only[go_sem,seval,t40,t41,q];refine⟨_,_,aa.refl _,Wk.refl (aa.refl _) _,rfl,?_⟩;have he:iT s.atoms.length j s.B'=s.B'.map (oD s.atoms.length):=by
     unfold iT;rw[lg (by omega),List.drop_of_length_le (by omega),lO]
    rw[he]at YM;exact YM
 .have hh:C1 s=max (s.WV.y+s.WV.m) (dU (nE 3) s.B').1:=by unfold C1;rw[hlow];rfl
  generalize (dU (nE 3) s.B').1=low at*;apply sR;simp only[go_sem,seval,w2,hlf,dr];have hJ3:=hJ2.Nk w2 (max (s.WV.y+s.WV.m) low);simp only at hJ3;rw[<-hh]at hJ3|-;refine ab.loop (λm st=>∃j:Nat,j<=s.B'.length/\m=s.B'.length-j/\ZR l rs Z0 iw { s with WG:=C1 s,B':=iT s.atoms.length j s.B' } st.U/\st.s 0=.ptr iw 0 0/\st.s 40=vI s.B'.length/\st.s 41=vI j) s.B'.length ?_ ?_
  .exact⟨0,by omega,rfl,by simpa[iT]using hJ3,rfl,rfl,rfl⟩
  .rintro m ⟨S,J⟩ ⟨j,hj,rfl,YM,t0,t40,t41⟩;simp only at YM t0 t40 t41;refine ab.mix 5 ?_;by_cases H':j<s.B'.length
   .have q:((j:Int)<s.B'.length)=True:=WE;obtain⟨va4,vf4,w4,g1,g2,g3⟩:=YM.row;simp only at w4 g1 g2 g3;obtain⟨ca4,_⟩:=g1.vc;have hla4:cP false va4=some (.int .i64 s.atoms.length):=by rw[g1.len];simp
    have hlen4:=ph s.atoms.length j s.B';rcases g2 with⟨_,h0⟩|⟨id,rfl,h2,h3⟩
    .exfalso;have:=congrArg List.length h0;rw[dd,hlen4]at this;simp only[List.length_nil]at this;omega
    have ZU:=zw (n:=s.atoms.length) H';have hset:=yz (n:=s.atoms.length) H';have hget2:((iT s.atoms.length j s.B').map aJ)[j]?=some (aJ s.B'[j]):=by rw[qX,ZU];rfl
    have hrl:((iT s.atoms.length j s.B').map aJ).length=s.B'.length:=by rw[dd,hlen4]
    have P':∀n,n=s.B'.length->bp J 7 (.own id 0 n) (.int .i64 j)=some (.ptr id j 0):=λn hn=>by subst hn;rw[<-hrl];exact lj h2 (by rw[hrl];exact H')
    generalize hfj:s.B'[j]=f at*;have hen:aJ f=.agg [vI f.node,vI f.side,vI f.anchor,vI f.x,vI f.y,vI f.w,vI f.h]:=rfl;rw[hen]at hget2;have r1:WR .i64 ((s.atoms.length:Int)-1):=ai;have r2:WR .i64 ((j:Int)+1):=ai;have cf4:(V.own id 0 s.B'.length).cells=[.own id 0 s.B'.length]:=rfl;rw[hrl]at w4;apply sR;simp only[go_sem,seval,t0,t40,t41,q,w4,hla4,h2,P' _ rfl,hget2,r1,r2,dr,gT];have W6:iw≠id:=(aH.1 h3).1.symm;have hlen5:=ph s.atoms.length (j+1) s.B';refine⟨_,by omega,j+1,by omega,rfl,⟨YM.sub.av (aH.1 h3).2,YM.no,va4,.own id 0 s.B'.length,by rw[ae W6];exact w4,?_,.inr ⟨id,by rw[dd,hlen5],?_,h3⟩,λh=>?_⟩,rfl⟩
    .rcases g1 with h|⟨i1,k1,k2,k3⟩
     .exact .inl h
     .have hne1:i1≠id:=λe=>by rw[e,h2]at k2;simp at k2
      exact .inr ⟨i1,k1,by rw[ae hne1];exact k2,k3⟩
    .rw[af,<-hset,List.map_set];rfl
    .have:=congrArg List.length h;rw[hlen5]at this;simp only[List.length_nil]at this;omega
   .have q:((j:Int)<s.B'.length)=False:=O';apply sR;simp only[go_sem,seval,t40,t41,q];refine⟨_,_,aa.refl _,Wk.refl (aa.refl _) _,rfl,?_⟩;have he:iT s.atoms.length j s.B'=s.B'.map (oD s.atoms.length):=by
     unfold iT;rw[lg (by omega),List.drop_of_length_le (by omega),lO]
    rw[he]at YM;exact YM
open Go.Proofs Go.Proofs.Tryz
structure Gal where
 atoms:List Xv
 B':List T'
 WG:Int
def JN(g:Gal):V:=.agg [aW g.atoms,aB g.B',vI g.WG]
def gH(l:List Nd)(w:Int):List Rm:=cU l l.length 0 l.length ⟨0,w⟩
def Qh(l:List Nd)(w:Int):WS:=(df l (gH l w) l.length 0 l.length ⟨[],[],0,⟨0,0⟩⟩).fin
def cB(l:List Nd)(w:Int):Gal:=⟨(Qh l w).atoms,(Qh l w).B',(Qh l w).WG⟩
def sN{l:List Nd}(hb:Xw l=true):∀(k a e:Nat) (r:Rm),e<=l.length->bW l a e=true->r.ok->∀q∈cU l k a e r,q.ok
 |0,_,_,_,_,_,_,q,hq=>by simp[cU]at hq
 |k+1,a,e,r,he,hr,WL,q,hq=>by
  rw[cU]at hq;split at hq
  .rename_i H';obtain⟨h1,h2⟩:=cL he hr (Xm a) H';obtain⟨h3,h4⟩:=dB he hr H';rcases db.1 hq with rfl|hq
   .exact WL
   .rcases dD.1 hq with hq|hq
    .obtain⟨g1,g2,_⟩:=JR hb (a:=a) (by omega);exact sN hb k _ _ _ (by omega) h4 (yJ WL (by rw[g1];exact g2)) q hq
    .exact sN hb k _ _ _ he h3 WL q hq
  .cases hq
def xN{l:List Nd}(hb:Xw l=true)(hn:l.length<=2000){w:Int}(h1:1<=w)(h2:w<=1099511627776):DOk l (gH l w):=by
 have hr:bW l 0 l.length=true:=by simp only[Xw,Ba]at hb;exact hb.2
 exact⟨hn,hb,by unfold gH;rw[nq (Xm _) _ _ _ (by omega) (by omega) hr];omega,sN hb _ _ _ _ (Xm _) hr ⟨by simp,by simp,h1,h2⟩⟩
def Px(l:List Nd)(hl:cT l)(hb:Xw l=true)(hn:l.length<=2000)(hwl:∀n∈l,n.words.length<=10000)(hc:YE l 0 l.length<=50000)(hck:aK prog 45 [aC l] (vI 0))(w:Int)(h1:1<=w)(h2:w<=1099511627776):
 aK prog 51 [aC l,vI w] (.WJ [JN (cB l w),vI 0]):=λU=>by
 refine e51.r (by simp[c51]) ?_;have hs:=aa.refl U;have hD:=xN hb hn h1 h2;have hr:bW l 0 l.length=true:=by simp only[Xw,Ba]at hb;exact hb.2
 refine ab.mix 8 ?_;apply sR;simp only[go_sem,seval,c51];refine ad λi4 Z4 s4 a4 f4=>?_;have z4:=hs.none f4;replace hs:=hs.trans s4;have Xq:=tk w;rw[show decide (1<=w/\w<=1099511627776)=true by simp;omega]at Xq;simp only[go_sem,seval];refine ab.au rfl rfl rfl (Xq _) ?_;have qz:((0:Int)≠0)=False:=O' (λh=>h rfl);apply sR;simp only[go_sem,seval];refine ab.au rfl rfl rfl (hck _) ?_;apply sR;simp only[go_sem,seval,qz];refine ab.au rfl rfl rfl (MH l hl hb w h1 h2 _) ?_;have hrm:cU l l.length 0 l.length ⟨0,w⟩=gH l w:=rfl;rw[hrm];apply sR;simp only[go_sem,seval,cg,dR,zZ,Al];refine ad λi23 Z23 s23 a23 f23=>?_;have hJ:ZR l (gH l w) Z4 i23 ⟨[],[],0,⟨0,0⟩⟩ Z23:=⟨s23,f23,.ay,.ay,a23,aM.start,aM.start,λ_=>rfl⟩
 have hI:gi ⟨[],[],0,⟨0,0⟩⟩ 0:=⟨⟨by simp,by simp,by simp,by simp,by simp⟩,by simp,by simp⟩
 have hn0:=fj l;simp only[go_sem,seval,hn0];have Yd:=QT hD hwl (l.length+1) 0 l.length 0 (by omega) (by omega) (Xm _) hr (by omega) _ _ _ hJ hI;refine ab.call rfl rfl rfl Yd ?_;rintro r Z5 ⟨rfl,hJ5⟩;have hI5:=gJ hD (l.length-0) 0 l.length ⟨[],[],0,⟨0,0⟩⟩ 0 (by omega) (by omega) (Xm _) hr hI;apply sR;simp only[go_sem,seval];refine ab.call rfl rfl rfl (OS hJ5 hI5 (by omega)) ?_;rintro r Z6 ⟨rfl,hJ6⟩;have hgl:cB l w=⟨(df l (gH l w) (l.length-0) 0 l.length ⟨[],[],0,⟨0,0⟩⟩).fin.atoms,(df l (gH l w) (l.length-0) 0 l.length ⟨[],[],0,⟨0,0⟩⟩).fin.B',(df l (gH l w) (l.length-0) 0 l.length ⟨[],[],0,⟨0,0⟩⟩).fin.WG⟩:=rfl;rw[hgl];generalize (df l (gH l w) (l.length-0) 0 l.length ⟨[],[],0,⟨0,0⟩⟩).fin=s at*;obtain⟨va,vf,w6,g1,g2,_⟩:=hJ6.row;obtain⟨ca,sa⟩:=g1.vc;obtain⟨cf,sf⟩:=g2.vc;have b4:=hJ6.sub _ _ a4;have n423:=al a4 f23;apply sR;simp only[go_sem,seval,w6,b4];have hK:aa U (aX Z4 i23):=λi o h=>by
  rw[aX,ao (λe=>by rw[e,hs.none f23]at h;cases h)];exact hs _ _ h
 have key:∀{e sz:Nat} {v:V} {rows:List V} {o:Ob},aM (aX Z4 i23) Z6 e sz v rows->aM (aX Z4 i23) (C' Z6 i4 o) e sz v rows:=λ{e sz v rows o} h=>by
  rcases h with h|⟨id,k1,k2,k3⟩
  .exact .inl h
  .exact .inr ⟨id,k1,by rw[ae (λe=>by rw[e]at k3;rw[(aH.1 k3).2]at a4;cases a4)];exact k2,k3⟩
 have XL:∀o,aa U (C' Z6 i4 o):=λo=>(hs.trans hJ6.sub).av z4;refine⟨_,U,XL _,Wk.WJ (vs':=[JN ⟨s.atoms,s.B',s.WG⟩,vI 0]) ⟨Wk.agg (vs':=[aW s.atoms,aB s.B',vI s.WG]) ⟨(key g1).wk hK (XL _),(key g2).wk hK (XL _),Wk.refl (XL _) _,trivial⟩,Wk.refl (XL _) _,trivial⟩,rfl,rfl⟩
open Go.Proofs Go.Proofs.Tryz
def tG(node:Int):List Int->Nat
 |[]=>0
 |x::r=>if x=node then tG node r+1 else 0
def Ny(node:Int):∀l,tG node l<=l.length
 |[]=>by simp[tG]
 |x::r=>by
  rw[tG];split
  .have:=Ny node r;simp only[XX];omega
  .simp
def mS(of:List Int)(fr:Nat)(node:Int):Nat:=tG node (of.drop fr)
def Hf(of:List Int)(fr:Nat)(node:Int):mS of fr node<=of.length-fr:=by
 have:=Ny node (of.drop fr);rw[oG]at this;exact this
def okN(x:Nd)(n:Nat):Bool:=if x.kind=2 then decide (1<=n/\n<=x.words.length)else if x.kind=3 then decide (n=1)else decide (n=0)
def Cz(of:List Int):List Nd->Nat->Nat->Bool
 |[],_,Xg=>decide (Xg=of.length)
 |x::r,i,Xg=>okN x (mS of Xg i)&&Cz of r (i+1) (Xg+mS of Xg i)
def te(l:List Nd)(of:List Int):Bool:=Cz of l 0 0
def pF(l:List Nd)(of:List Int):V:=.agg [aC l,bb of]
def oQ(l:List Nd)(of:List Int):(pF l of).cells=[aC l,bb of]:=rfl
def oM(l:List Nd)(of:List Int):(pF l of).stays=true:=rfl
def Lw(l:List Nd)(of:List Int)(hn:of.length<=1000000)(fr:Nat)(hf:fr<=of.length)(node:Int):aK prog 227 [pF l of,vI fr,vI node] (vI (mS of fr node)):=λU=>by
 refine V2.r (by simp[O9]) ?_;have hs:=aa.refl U;have hl:=fL of;refine ab.mix 8 ?_;apply sR;simp only[go_sem,seval,O9,oQ,oM];refine ad λi3 Z3 s3 a3 f3=>?_;replace hs:=hs.trans s3;have a3':Z3 i3=some ⟨266,2,[.agg [aC l,bb of]]⟩:=a3;simp only[go_sem,seval];refine ab.loop (λm st=>∃j:Nat,fr+j<=of.length/\m=of.length-(fr+j)/\mS of fr node=j+tG node (of.drop (fr+j))/\st.U=Z3/\st.s 1=vI fr/\st.s 2=vI node/\st.s 3=.ptr i3 0 0/\st.s 7=vI j) (of.length-fr) ?_ ?_
 .exact⟨0,by omega,by omega,by simp[mS],rfl,rfl,rfl,rfl,rfl⟩
 .rintro m ⟨S,J⟩ ⟨j,hj,rfl,ht,W4,t1,t2,t3,t7⟩;simp only at W4 t1 t2 t3 t7;subst W4;refine ab.mix 8 ?_;have hjj:(fr:Int)+(j:Int)=((fr+j:Nat):Int):=by omega
  have r1:WR .i64 ((fr:Int)+j):=ai;have r2:WR .i64 ((j:Int)+1):=ai;by_cases H':fr+j<of.length
  .have q:(((fr+j:Nat):Int)<of.length)=True:=WE;have U':=λU=>iq (U:=U) H';rw[gF H',tG]at ht;generalize of[fr+j]=x at*;rw[hjj]at r1;by_cases hx:x=node
   .rw[aq hx]at ht;have q2:(x=node)=True:=WE hx;apply sR;simp only[go_sem,seval,t1,t2,t3,t7,a3',hl,hjj,q,q2,U',r1,r2];exact⟨_,by omega,j+1,by omega,rfl,by rw[ht,show fr+(j+1)=fr+j+1 by omega];omega,by simp⟩
   .rw[ao hx]at ht;have q2:(x=node)=False:=O' hx;apply sR;simp only[go_sem,seval,t1,t2,t3,t7,a3',hl,hjj,q,q2,U',r1];exact ak.pure hs (by rw[ht];simp)
  .have q:(((fr+j:Nat):Int)<of.length)=False:=O';rw[List.drop_of_length_le (by omega),tG]at ht;rw[hjj]at r1;apply sR;simp only[go_sem,seval,t1,t3,t7,a3',hl,hjj,q,r1];exact ak.pure hs (by rw[ht];simp)
def RW(l:List Nd)(hll:l.length<=100000)(of:List Int)(hn:of.length<=1000000)(hm:te l of=true):aK prog 169 [pF l of] (.bool true):=λU=>by
 refine Un.r (by simp[OD]) ?_;have hs:=aa.refl U;have hl:=fL of;have hnl:=fj l;refine ab.mix 7 ?_;apply sR;simp only[go_sem,seval,OD,oQ,oM];refine ad λi1 Z1 s1 a1 f1=>?_;replace hs:=hs.trans s1;have a1':Z1 i1=some ⟨266,2,[.agg [aC l,bb of]]⟩:=a1;simp only[go_sem,seval,a1',hnl];refine ab.loop (λm st=>∃(i Xg:Nat),i<=l.length/\m=l.length-i/\Xg<=of.length/\Cz of (l.drop i) i Xg=true/\aa Z1 st.U/\st.s 1=.ptr i1 0 0/\st.s 3=vI Xg/\st.s 8=aC l/\st.s 9=vI l.length/\st.s 10=vI i) l.length ?_ ?_
 .exact⟨0,0,by omega,rfl,by omega,by simpa[te]using hm,aa.refl _,rfl,rfl,rfl,rfl,rfl⟩
 .rintro m ⟨S,J⟩ ⟨i,Xg,hi,rfl,Yb,hmk,G',t1,t3,t8,t9,t10⟩;simp only at G' t1 t3 t8 t9 t10;refine ab.mix 7 ?_;have b1:=G' _ _ a1';by_cases H':i<l.length
  .have q:((i:Int)<l.length)=True:=WE;have U':=jY l H';rw[gF H',Cz,Ba]at hmk;obtain⟨WL,hmk⟩:=hmk;have htl:=Hf of Xg i;have htc:=Lw l of hn Xg Yb i;generalize mS of Xg i=n at*;generalize l[i]=x at*;apply sR;simp only[go_sem,seval,t8,t9,t10,q,U',Nd.cells];refine ad λi5 Z5 s5 a5 f5=>?_;have c1:=s5 _ _ b1;have n15:=al b1 f5;simp only[go_sem,seval,a5,c1,t1,t3,ae n15];refine ab.au rfl rfl rfl (htc _) ?_;have hwl:cP false (bb x.words)=some (.int .i64 x.words.length):=fL _;have r1:WR .i64 ((i:Int)+1):=ai;have r2:WR .i64 ((Xg:Int)+n):=ai;have q5:((Xg:Int)+n)=((Xg+n:Nat):Int):=by omega
   rw[q5]at r2;unfold okN at WL;by_cases k2:x.kind=2
   .rw[aq k2]at WL;simp only[Zs]at WL;have p1:((n:Int)<1)=False:=O';have p2:((n:Int)>x.words.length)=False:=O';have p0:(x.kind=2)=True:=WE k2;apply sR;simp only[go_sem,seval,t1,t3,t8,t9,t10,p0,p1,p2,hwl,r1,r2,q5];exact⟨_,by omega,i+1,Xg+n,by omega,rfl,by omega,hmk,G'.trans (s5.av f5),by simp⟩
   .rw[ao k2]at WL;have p0:(x.kind=2)=False:=O' k2;by_cases k3:x.kind=3
    .rw[aq k3]at WL;simp only[Zs]at WL;have p3:(x.kind=3)=True:=WE k3;have p1:((n:Int)≠1)=False:=O';apply sR;simp only[go_sem,seval,t1,t3,t8,t9,t10,p0,p3,p1,r1,r2,q5];exact⟨_,by omega,i+1,Xg+n,by omega,rfl,by omega,hmk,G'.trans (s5.av f5),by simp⟩
    .rw[ao k3]at WL;simp only[Zs]at WL;have p3:(x.kind=3)=False:=O' k3;have p1:((n:Int)>0)=False:=O';apply sR;simp only[go_sem,seval,t1,t3,t8,t9,t10,p0,p3,p1,r1,r2,q5];exact⟨_,by omega,i+1,Xg+n,by omega,rfl,by omega,hmk,G'.trans (s5.av f5),by simp⟩
  .have q:((i:Int)<l.length)=False:=O';rw[List.drop_of_length_le (by omega),Cz,Zs]at hmk;have q2:((Xg:Int)=of.length)=True:=WE;apply sR;simp only[go_sem,seval,t1,t3,t9,t10,q,b1,hl,q2];exact ak.pure (hs.trans G') rfl
def rq(l:List Nd)(hf:cT l)(hb:Xw l=true)(of:List Int)(hn:of.length<=1000000)(hm:te l of=true):aK prog 109 [aC l,bb of] (vI 0):=λU=>by
 refine Uo.r (by simp[N4]) ?_;have hv:=FM l hf;rw[hb]at hv;have hl1:=hf.1;refine ab.mix 5 ?_;apply sR;simp only[go_sem,seval,N4];refine ab.au rfl rfl rfl (hv _) ?_;apply sR;simp only[go_sem,seval,cg,cS,ik,dR];refine ab.au rfl rfl rfl (RW l (by omega) of hn hm _) ?_;apply sR;simp only[go_sem,seval];exact ak.same rfl
open Go.Proofs Go.Proofs.Tryz
def zR(l:List Nd)(a b:Int):Bool:=decide (a<=b/\b<a+Xl l a.toNat)
def J9(l:List Nd)(hb:Xw l=true)(hn:l.length<=100000)(a:Nat)(ha:a<l.length)(b:Int)(h0:0<=b)(h1:b<=1000000):aK prog 311 [aC l,vI a,vI b] (.bool (zR l a b)):=λU=>by
 refine WA.r (by simp[LQ]) ?_;have U':=jY l ha;have Zb:=mR ha;have hsb:=si hb ha;refine ab.mix 7 ?_;unfold zR;rw[fc,Zb];rw[Zb]at hsb;by_cases h:(a:Int)<=b
 .have q:((a:Int)<=b)=True:=WE h;have r1:WR .i64 ((a:Int)+l[a].size):=ai;apply sR;simp only[go_sem,seval,LQ,q,U',Nd.cells,r1];exact ak.same (by simp)
 .have q:((a:Int)<=b)=False:=O' h;apply sR;simp only[go_sem,seval,LQ,q];exact ak.same (by simp)
def hAt(l:List Nd)(of:List Int)(b k:Int):Bool:=if 0<=k/\k<of.length then zR l b (of.getD k.toNat 0)else false
def EB(l:List Nd)(hb:Xw l=true)(hn:l.length<=100000)(of:List Int)(Zz:of.length<=1000000)(Ya:∀x∈of,0<=x/\x<l.length)(b:Nat)(XU:b<l.length)(k:Int){U:ag}{i4 i9:Nat}(h4:U i4=some ⟨57,1,[bb of]⟩)(h9:U i9=some ⟨266,2,[pF l of]⟩):
 ax prog 310 [vI b,vI k,.ptr i4 0 0,.ptr i9 0 0] U λr Z'=>r=.bool (hAt l of b k)/\Z'=U:=by
 refine Vg.r (by simp[I1]) ?_;have hl:=fL of;rw[pF]at h9;refine ab.mix 7 ?_;unfold hAt;by_cases hk0:0<=k
 .have q0:(k>=0)=True:=WE hk0;obtain⟨j,rfl⟩:∃j:Nat,k=j:=⟨k.toNat,by omega⟩
  by_cases Zv:(j:Int)<of.length
  .have q1:((j:Int)<of.length)=True:=WE Zv;have hjl:j<of.length:=by omega
   have U':=λU=>iq (U:=U) hjl;have hx:=Ya _ (XI hjl);have hgd:of.getD j 0=of[j]:=by simp[hjl]
   rw[aq ⟨hk0,Zv⟩,fc,hgd];apply sR;simp only[go_sem,seval,I1,q0,q1,h4,h9,hl,U',cS];refine Go.bw rfl rfl rfl (J9 l hb hn b XU of[j] hx.1 (by omega)) ?_;apply sG;simp only[go_sem,seval];exact ak.same rfl
  .have q1:((j:Int)<of.length)=False:=O' Zv;rw[ao (λh=>Zv h.2)];apply sR;simp only[go_sem,seval,I1,q0,q1,h4,hl,cS];exact ak.same rfl
 .have q0:(k>=0)=False:=O' hk0;rw[ao (λh=>hk0 h.1)];apply sR;simp only[go_sem,seval,I1,q0];exact ak.same rfl
structure Eh(l:List Nd)(of:List Int)(k:Int)(i4 i5 i9 Xk:Nat)(U:ag):Prop where
 r4:U i4=some ⟨57,1,[bb of]⟩
 r5:U i5=some ⟨3,1,[vI k]⟩
 r9:U i9=some ⟨266,2,[pF l of]⟩
 r10:U Xk=some ⟨278,1,[.fn 310 [.ptr i4 0 0,.ptr i9 0 0]]⟩
def Eh.mono{l:List Nd}{of:List Int}{k:Int}{i4 i5 i9 Xk:Nat}{U J:ag}(h:Eh l of k i4 i5 i9 Xk U)(hs:aa U J):Eh l of k i4 i5 i9 Xk J:=⟨hs _ _ h.r4,hs _ _ h.r5,hs _ _ h.r9,hs _ _ h.r10⟩
def Rw(l:List Nd)(hb:Xw l=true)(hn:l.length<=100000)(of:List Int)(Zz:of.length<=1000000)(Ya:∀x∈of,0<=x/\x<l.length)(b:Nat)(XU:b<l.length)(k:Int){U:ag}{i4 i5 i9 Xk:Nat}(h:Eh l of k i4 i5 i9 Xk U):
 ax prog 313 [vI b,.ptr Xk 0 0,.ptr i5 0 0] U λr Z'=>r=.bool (!hAt l of b k)/\Z'=U:=by
 refine V7.r (by simp[O0]) ?_;have r5:=h.r5;have r10:=h.r10;refine ab.mix 5 ?_;apply sR;simp only[go_sem,seval,O0,r5,r10];refine ab.au rfl rfl rfl (EB l hb hn of Zz Ya b XU k h.r4 h.r9) ?_;apply sR;simp only[go_sem,seval];exact ak.same rfl
def QZ(l:List Nd)(hb:Xw l=true)(hn:l.length<=100000)(of:List Int)(Zz:of.length<=1000000)(Ya:∀x∈of,0<=x/\x<l.length)(b:Nat)(XU:b<l.length)(k:Int)(hk0:0<=k)(Zv:k<=1000000){U:ag}{i4 i5 i9 Xk:Nat}(h:Eh l of k i4 i5 i9 Xk U):
 ax prog 314 [vI b,.ptr Xk 0 0,.ptr i5 0 0] U λr Z'=>r=.bool (!hAt l of b (k-1))/\Z'=U:=by
 refine Vx.r (by simp[Of]) ?_;have r5:=h.r5;have r10:=h.r10;have r1:WR .i64 (k-1):=ai;refine ab.mix 5 ?_;apply sR;simp only[go_sem,seval,Of,r5,r10,r1];refine ab.au rfl rfl rfl (EB l hb hn of Zz Ya b XU (k-1) h.r4 h.r9) ?_;apply sR;simp only[go_sem,seval];exact ak.same rfl
def Rj(l:List Nd)(hb:Xw l=true)(hn:l.length<=100000)(of:List Int)(Zz:of.length<=1000000)(Ya:∀x∈of,0<=x/\x<l.length)(b:Nat)(XU:b<l.length)(k:Int)(hk0:0<=k)(Zv:k<=1000000){U:ag}{i4 i5 i9 Xk:Nat}(h:Eh l of k i4 i5 i9 Xk U):
 ax prog 316 [vI b,.ptr Xk 0 0,.ptr i5 0 0] U λr Z'=>r=.bool (hAt l of b (k-1))/\Z'=U:=by
 refine VG.r (by simp[Pp]) ?_;have r5:=h.r5;have r10:=h.r10;have r1:WR .i64 (k-1):=ai;refine ab.mix 5 ?_;apply sR;simp only[go_sem,seval,Pp,r5,r10,r1];refine ab.au rfl rfl rfl (EB l hb hn of Zz Ya b XU (k-1) h.r4 h.r9) ?_;apply sR;simp only[go_sem,seval];exact ak.same rfl
def A9(l:List Nd)(hl:cT l)(hb:Xw l=true)(hn:l.length<=100000)(a:Nat)(ha:a<l.length):Iter prog 337 [.rp (aC l),.rp (vI a)] ((abv l a).map λn=>[vI n]):=by
 refine⟨RY.c,λXe τ Jx Z0 hy hJ=>?_⟩;refine(RY.r (by simp[ND]) ?_).2;have hab:=Dt l hl hb hn a ha;have Zh:=jv l (l.length+1) (eM l a);have e0:(abv l a).length<=l.length+1:=Zh;have hlen:=fL (abv l a);generalize abv l a=L at*;have ldA:∀U,bF U false 1 (.rp (aC l))=some (aC l):=λU=>rfl;have ldB:∀U (n:Int),bF U false 1 (.rp (vI n))=some (vI n):=λU n=>rfl;refine ab.mix 6 ?_;apply sR;simp only[go_sem,seval,ND,ldA,ldB];refine ab.au rfl rfl rfl (hab _) ?_;apply sR;simp only[go_sem,seval,hlen];refine ab.loop (λm st=>∃(j:Nat) (ZJ:ag),j<=L.length/\m=L.length-j/\τ ((L.take j).map λn=>[vI n]) ZJ/\aa ZJ st.U/\st.s 0=.yl Xe/\st.s 8=bb L/\st.s 9=vI L.length/\st.s 10=vI j) L.length ?_ ?_
 .exact⟨0,Z0,by omega,rfl,by simpa using hJ,aa.refl _,rfl,rfl,rfl,rfl⟩
 .rintro m ⟨S,J⟩ ⟨j,ZJ,hj,rfl,YM,G',t0,t8,t9,t10⟩;simp only at G' t0 t8 t9 t10;refine ab.mix 6 ?_;by_cases H':j<L.length
  .have q:((j:Int)<L.length)=True:=WE;have U':=λU=>iq (U:=U) H';have XB:L.take (j+1)=L.take j++[L[j]]:=ZS H';have e:(L.map λn=>[vI n])=((L.take j).map λn=>[vI n])++[vI L[j]]::((L.drop (j+1)).map λn=>[vI n]):=by
    have e0':L=L.take j++L[j]::L.drop (j+1):=by rw[<-gF H',uR]
    have:=congrArg (List.map λn=>[vI n]) e0'
    rwa [gB,eo]at this
   generalize L[j]=x at*;have r1:WR .i64 ((j:Int)+1):=ai;apply sR;simp only[go_sem,seval,t0,t8,t9,t10,q,U'];refine ab.oS (Post:=λb Z2=>∃Xc,aY ZJ J Xc Z2/\((b=true/\τ (((L.take j).map λn=>[vI n])++[[vI x]]) Xc)\/(b=false/\Jx (((L.take j).map λn=>[vI n])++[[vI x]]) Xc))) rfl rfl rfl (hy _ [vI x] _ ZJ J e YM G') ?_;rintro b Z2 ⟨Xc,Yh,XM⟩;rcases XM with⟨rfl,XM⟩|⟨rfl,XM⟩
   .apply sR;simp only[go_sem,seval,t0,t8,t9,t10,r1];refine⟨_,?_,j+1,Xc,by omega,rfl,by rw[XB];simpa using XM,Yh.1,by simp⟩;omega
   .apply sR;simp only[go_sem,seval];refine⟨_,Xc,Yh.1,Wk.refl Yh.1 _,.inr ⟨_,?_,XM⟩⟩;rw[e];exact⟨(L.drop (j+1)).map λn=>[vI n],by simp⟩
  .have q:((j:Int)<L.length)=False:=O';rw[lg (by omega)]at YM;apply sR;simp only[go_sem,seval,t9,t10,q];exact⟨_,ZJ,G',Wk.refl G' _,.inl YM⟩
def IF(l:List Nd)(a:Int):aK prog 333 [aC l,vI a] (.fn 337 [.rp (aC l),.rp (vI a)]):=λU=>by
 refine VL.r (by simp[QQ]) ?_;refine ab.mix 4 ?_;have q1:=cg l;have q2:=dR l;generalize aC l=x at*;apply sR;simp only[go_sem,seval,QQ,q1,q2];refine ad λid1 Z1 s1 a1 f1=>?_;simp only[go_sem,seval];refine ad λid2 Z2 s2 a2 f2=>?_;simp only[go_sem,seval];exact⟨_,U,s1.trans s2,Wk.fn (vs':=[.rp x,.rp (vI a)]) ⟨Wk.ptr (s1.trans s2) (s2 _ _ a1) f1,Wk.ptr (s1.trans s2) a2 (s1.none f2),trivial⟩,rfl,rfl⟩
open Go.Proofs Go.Proofs.Tryz
def chR(l:List Nd)(of:List Int)(k:Int)(p:Int->Bool):List Int:=if 0<=k/\k<of.length then(abv l (of.getD k.toNat 0).toNat).filter p else[]
def qJ{l:List Nd}{a:Nat}(ha:a<l.length):∀x∈abv l a,∃n:Nat,x=n/\n<a:=λx hx=>by
 have:=HW l _ _ x hx;have h2:=gl l a;exact⟨x.toNat,by omega,by omega⟩
def sM{p:Int->Bool}{L:List Int}{j:Nat}{x:Int}(h:L[j]?=some x):(L.take (j+1)).filter p=(L.take j).filter p++if p x then[x]else[]:=by
 rw[LV,h,List.filter_append];cases hp:p x<;>simp[hp]
def xS(l:List Nd)(hl:cT l)(hb:Xw l=true)(hn:l.length<=100000)(of:List Int)(Zz:of.length<=1000000)(Ya:∀x∈of,0<=x/\x<l.length)(k:Int)(g:FuncId)(caps:List V)(p:Int->Bool){U:ag}
 (hg:∀b:Nat,b<l.length->∀J,aa U J->ax prog g (vI b::caps) J λr Z'=>r=.bool (p b)/\Z'=J):
 ax prog 312 [pF l of,vI k,.fn g caps] U λr Z'=>aa U Z'/\aM U Z' 3 1 r ((chR l of k p).map vI)/\(chR l of k p=[]->r=.ay):=by
 refine Uv.r (by simp[Pq]) ?_;have hs:=aa.refl U;have hlo:=fL of;refine ab.mix 9 ?_;apply sR;simp only[go_sem,seval,Pq,oQ,oM];refine ad λi3 Z3 s3 a3 f3=>?_;replace hs:=hs.trans s3;simp only[go_sem,seval];refine ad λi5 Z5 s5 a5 f5=>?_;replace a3:=s5 _ _ a3;replace hs:=hs.trans s5;have a3':Z5 i3=some ⟨266,2,[.agg [aC l,bb of]]⟩:=a3;by_cases hk0:k<0
 .have q0:(k<0)=True:=WE hk0;have hc:chR l of k p=[]:=by unfold chR;rw[ao (by omega)]
  simp only[go_sem,seval,q0];rw[hc];exact⟨_,_,aa.refl _,Wk.refl (aa.refl _) _,hs,aM.start,λ_=>rfl⟩
 have q0:(k<0)=False:=O' hk0;obtain⟨j,rfl⟩:∃j:Nat,k=j:=⟨k.toNat,by omega⟩
 by_cases Zv:(j:Int)>=of.length
 .have q1:((j:Int)>=of.length)=True:=WE Zv;have hc:chR l of j p=[]:=by unfold chR;rw[ao (by omega)]
  simp only[go_sem,seval,q0,a3',hlo,q1];rw[hc];exact⟨_,_,aa.refl _,Wk.refl (aa.refl _) _,hs,aM.start,λ_=>rfl⟩
 have q1:((j:Int)>=of.length)=False:=O' Zv;have hjl:j<of.length:=by omega
 have U':=λU=>iq (U:=U) hjl;obtain⟨hx0,hx1⟩:=Ya _ (XI hjl);have hgd:of.getD j 0=of[j]:=by simp[hjl]
 have hc:chR l of j p=(abv l of[j].toNat).filter p:=by unfold chR;rw[aq ⟨by omega,by omega⟩,fc,hgd]
 rw[hc];simp only[go_sem,seval,q0,a3',hlo,q1];refine ad λi7 Z7 s7 a7 f7=>?_;have b3:=s7 _ _ a3';simp only[go_sem,seval,b3,U'];obtain⟨x,hx⟩:∃x:Nat,of[j]=x:=⟨of[j].toNat,by omega⟩
 rw[hx]at hx1|-;refine ab.au rfl rfl rfl (IF l x _) ?_;have hit:=A9 l hl hb hn x (by omega);have hrg:=qJ (l:=l) (a:=x) (by omega);have hlL:(abv l x).length<=l.length+1:=jv _ _ _;rw[fc];generalize abv l x=L at*;apply sR;simp only[go_sem,seval];generalize hS:mix 9 _ _=S;have S5:S 5=.ptr i5 0 0:=by rw[<-hS];rfl
 have S7:S 7=.ptr i7 0 0:=by rw[<-hS];rfl
 have S25:S 25=.fn 337 [.rp (aC l),.rp (vI x)]:=by rw[<-hS];rfl
 clear hS;refine ab.ej (g:=.t 25) (caps:=[.rp (aC l),.rp (vI x)]) S25 hit (λy hy=>?_) [] (λpre ZJ=>∃v,ZJ i7=some ⟨57,1,[v]⟩/\aa Z5 ZJ/\aM (aX Z5 i7) ZJ 3 1 v (((L.take pre.length).filter p).map vI)/\((L.take pre.length).filter p=[]->v=.ay))
  (λ_ _ _=>False) ?_ ?_ ?_ ?_ ?_
 .obtain⟨t,_,rfl⟩:=gM.1 hy;rfl
 .exact⟨.ay,a7,s7,by simpa using aM.start,λ_=>rfl⟩
 .rintro pre y post ZJ ZB Zw ⟨v,J7,Js,Jo,Jn⟩ G';obtain⟨t,hti,rfl⟩:=rb (f:=vI) Zw;obtain⟨tn,rfl,htn⟩:=hrg t (yk hti);have XB:=sM (p:=p) hti;have hlen:(pre++[[vI (tn:Int)]]).length=pre.length+1:=by simp
  rw[hlen,XB];have Yn:(((L.take pre.length).filter p).map vI).length<=1000001:=by
   rw[dd];have:=List.length_filter_le p (L.take pre.length);rw[gO]at this;omega
  have hvc:v.cells=[v]:=by rcases Jo with⟨rfl,_⟩|⟨_,rfl,_⟩<;>rfl
  generalize Xo:(((L.take pre.length).filter p).map vI)=rows at*;have c7:=G' _ _ J7;have c5:=G' _ _ (Js _ _ a5);generalize YY:n9 S [26] [vI (tn:Int)]=S0;have T5:S0 5=.ptr i5 0 0:=by rw[<-YY];exact S5
  have T7:S0 7=.ptr i7 0 0:=by rw[<-YY];exact S7
  have T26:S0 26=vI (tn:Int):=by rw[<-YY];rfl
  clear YY;refine ab.mix 9 ?_;apply sR;simp only[go_sem,seval,T26];apply sR;simp only[go_sem,seval,T5,c5];refine ab.au rfl rfl rfl (hg tn (by omega) _ ((hs.trans Js).trans G')) ?_;cases hp:p (tn:Int)
  .apply sR;simp only[go_sem,seval];refine⟨_,aY.refl G',v,J7,Js,?_,by simpa using Jn⟩;simpa[Xo]using Jo
  .apply sR;simp only[go_sem,seval,T7,c7,hvc];rw[bK];intro id28 f28;have hBs:=(aY.refl G').se (o:=⟨3,1,[vI (tn:Int)]⟩) f28;have y2:C' ZB id28 ⟨3,1,[vI (tn:Int)]⟩ i7=some ⟨57,1,[v]⟩:=by rw[ae (al c7 f28)];exact c7
   have a28:C' ZB id28 ⟨3,1,[vI (tn:Int)]⟩ id28=some ⟨3,1,[vI (tn:Int)]⟩:=af;generalize C' ZB id28 ⟨3,1,[vI (tn:Int)]⟩=Z8 at*;obtain⟨WW,Yj,hdA⟩:=Jo.Hq hBs.1;have XW:(rows.length+1)*9<=140737488355328:=by omega
   have k2:aX Z5 i7 i7≠none:=λh=>(aH.1 h).1 rfl;have dne:∀(i:Nat) (Zx:ag),aX Z5 i7 i≠none->Vc.bz Zx WW i=Zx i:=λi Zx hk=>by
    cases WW with
    |none=>rfl
    |some a=>exact dg (λe=>hk (by rw[e];exact(hdA a rfl).1))
   simp only[go_sem,seval,Yj,du a28,XW];rw[bK];intro YZ f29;have f29:Z8 YZ=none:=f29;have m29:i7≠YZ:=al y2 f29;have f29':Vc.bz Z8 WW YZ=none:=by
    cases WW with
    |none=>exact f29
    |some a=>simp only[Vc.bz,del];split<;>first|rfl|exact f29
   have y2':C' (Vc.bz Z8 WW) YZ ⟨3,1,rows++[vI (tn:Int)]⟩ i7=some ⟨57,1,[v]⟩:=by rw[ae m29,dne _ _ k2];exact y2
   have hB9:=((hBs.Hd (e:=WW) λi h=>(hdA i h).2).new (o:=⟨3,1,rows++[vI (tn:Int)]⟩) f29').set (id:=i7) (o:=⟨57,1,[v]⟩) (o':=⟨57,1,[.own YZ 0 (rows.length+1)]⟩) (by rw[ae m29,dne _ _ k2];exact J7);simp only[go_sem,seval,hvc,y2',T7];refine⟨_,hB9,.own YZ 0 (rows.length+1),af,?_,?_,λh=>by simp at h⟩
   .refine aa.av (λi o h=>?_) f7;have h1:=Js _ _ h;rw[ae (al (hBs.1 _ _ h1) f29),dne _ _ (λhk=>by rw[(aH.1 hk).2]at h;cases h)];exact h1
   .rw[gB,Xo];refine aM.new (by simp) (by rw[ae m29.symm,af];rfl) ?_;rw[aH];refine⟨m29.symm,?_⟩;cases h:Z5 YZ with
    |none=>rfl
    |some o=>rw[hBs.1 _ _ (Js _ _ h)]at f29;cases f29
 .rintro Z' ⟨v,J7,Js,Jo,Jn⟩;rw[dd,iR]at Jo Jn;have hvc:v.cells=[v]:=by rcases Jo with⟨rfl,_⟩|⟨_,rfl,_⟩<;>rfl
  refine ab.mix 9 ?_;apply sR;simp only[go_sem,seval,S7,J7,hvc];refine⟨_,_,aa.refl _,Wk.refl (aa.refl _) _,hs.trans Js,?_,Jn⟩;rcases Jo with h|⟨id,h1,h2,h3⟩
  .exact .inl h
  .exact .inr ⟨id,h1,h2,hs.none (aH.1 h3).2⟩
 .intro id h;cases h
 .rintro pre Z' _ ⟨⟩
open Go.Proofs Go.Proofs.Tryz
def swp(L:List Int)(i j:Nat):List Int:=(L.set i (L.getD j 0)).set j (L.getD i 0)
def k0(L:List Int):Nat->List Int
 |0=>L
 |t+1=>swp (k0 L t) t (L.length-1-t)
def mn(L:List Int):∀t,(k0 L t).length=L.length
 |0=>rfl
 |t+1=>by simp[k0,swp,mn L t]
def Cy(L:List Int):∀(t:Nat),2*t<=L.length->∀i,i<L.length->(k0 L t)[i]?=if i<t\/L.length-t<=i then L[L.length-1-i]? else L[i]?
 |0,_,i,hi=>by rw[k0,ao (by omega)]
 |t+1,ht,i,hi=>by
  have ih:=λi hi=>Cy L t (by omega) i hi;have hl:=mn L t;have e1:(k0 L t).getD t 0=L.getD t 0:=by
   rw[pW,pW,ih t (by omega),ao (by omega)]
  have e2:(k0 L t).getD (L.length-1-t) 0=L.getD (L.length-1-t) 0:=by
   rw[pW,pW,ih _ (by omega),ao (by omega)]
  rw[k0,swp,e1,e2,List.getElem?_set,List.getElem?_set,List.length_set,hl];have g:∀k,k<L.length->some (L.getD k 0)=L[k]?:=λk hk=>by simp[hk]
  by_cases h1:L.length-1-t=i
  .rw[aq h1,aq (by omega),aq (by omega),g t (by omega)];congr 1;omega
  .rw[ao h1];by_cases h2:t=i
   .rw[aq h2,aq (by omega),aq (by omega),g _ (by omega)];congr 1;omega
   .rw[ao h2,ih i hi];by_cases h3:i<t\/L.length-t<=i
    .rw[aq h3,aq (by omega)]
    .rw[ao h3,ao (by omega)]
def JX(L:List Int){t:Nat}(h1:2*t<=L.length)(h2:L.length<=2*t+1):k0 L t=L.reverse:=by
 apply List.ext_getElem?;intro i;by_cases hi:i<L.length
 .rw[Cy L t h1 i hi,List.getElem?_reverse hi];split
  .rfl
  .congr 1;omega
 .rw[oE (by rw[mn];omega),oE (by simp;omega)]
def GQ(L:List Int)(hL:L.length<=1000000){K U:ag}{v:V}(hv:aM K U 3 1 v (L.map vI))(W6:L=[]->v=.ay):
 ax prog 315 [v] U λr Z'=>r=.WJ []/\aM K Z' 3 1 v (L.reverse.map vI)/\∀i o,U i=some o->(o.elem≠3\/K i≠none)->Z' i=some o:=by
 refine Ug.r (by simp[Mj]) ?_;refine ab.mix 5 ?_;rcases hv with⟨rfl,h0⟩|⟨id,rfl,h2,h3⟩
 .obtain rfl:L=[]:=by simpa using h0
  apply sR;simp only[go_sem,seval,Mj];refine⟨ai,?_⟩;refine ab.loop (λm st=>st.U=U/\st.s 2=vI 0/\∃z:Int,st.s 3=vI z/\z<0) 0 ?_ ?_
  .refine⟨rfl,rfl,_,rfl,?_⟩;simp
  .rintro m ⟨S,J⟩ ⟨W4,t2,z,t3,hz⟩;simp only at W4 t2 t3;subst W4;refine ab.mix 5 ?_;have q:((0:Int)<z)=False:=O';apply sR;simp only[go_sem,seval,t2,t3,q];exact⟨_,_,aa.refl _,Wk.refl (aa.refl _) _,rfl,.inl ⟨rfl,rfl⟩,λi o h _=>h⟩
 .have hn:0<L.length:=py.2 λe=>by have:=W6 e;cases this
  have hlm:(L.map vI).length=L.length:=by simp
  have r1:WR .i64 ((L.length:Int)-1):=ai;apply sR;simp only[go_sem,seval,Mj,hlm,r1];refine ab.loop (λm st=>∃t:Nat,2*t<=L.length/\m=L.length-t/\st.U id=some ⟨3,1,(k0 L t).map vI⟩/\(∀i,i≠id->st.U i=U i)/\st.s 0=.own id 0 L.length/\st.s 2=vI t/\∃z:Int,st.s 3=vI z/\z=(L.length:Int)-1-t) L.length ?_ ?_
  .exact⟨0,by omega,by omega,h2,λ_ _=>rfl,rfl,rfl,_,rfl,by simp⟩
  .rintro m ⟨S,J⟩ ⟨t,ht,rfl,g1,g2,t0,t2,z,t3,rfl⟩;simp only at g1 g2 t0 t2 t3;refine ab.mix 5 ?_;have hrl:((k0 L t).map vI).length=L.length:=by rw[dd,mn]
   by_cases H':(t:Int)<(L.length:Int)-1-t
   .have q:((t:Int)<(L.length:Int)-1-t)=True:=WE H';have hj:((L.length:Int)-1-t)=((L.length-1-t:Nat):Int):=by omega
    obtain⟨j,hjj⟩:∃j,j=L.length-1-t:=⟨_,rfl⟩
    rw[hj,<-hjj]at t3 q;have hti:t<(k0 L t).length:=by rw[mn];omega
    have YO:j<(k0 L t).length:=by rw[mn];omega
    have i1:∀n,n=L.length->bp J 1 (.own id 0 n) (.int .i64 t)=some (.ptr id t 0):=λn hn=>by subst hn;rw[<-hrl];exact lj g1 (by rw[hrl];omega)
    have i2:∀n,n=L.length->bp J 1 (.own id 0 n) (.int .i64 j)=some (.ptr id j 0):=λn hn=>by subst hn;rw[<-hrl];exact lj g1 (by rw[hrl];omega)
    have v1:((k0 L t).map vI)[t]?=some (vI ((k0 L t).getD t 0)):=by simp[hti]
    have v2:((k0 L t).map vI)[j]?=some (vI ((k0 L t).getD j 0)):=by simp[YO]
    have i3:∀a n,n=L.length->bp (C' J id ⟨3,1,((k0 L t).map vI).set t a⟩) 1 (.own id 0 n) (.int .i64 j)=some (.ptr id j 0):=λa n hn=>by
     have e:n=(((k0 L t).map vI).set t a).length:=by rw[List.length_set,hrl,hn]
     rw[e];exact lj af (by rw[List.length_set,hrl];omega)
    have v3:∀a,(((k0 L t).map vI).set t a)[j]?=some (vI ((k0 L t).getD j 0)):=λa=>by rw[List.getElem?_set_ne (by omega)];exact v2
    have r4:WR .i64 ((t:Int)+1):=ai;have r5:WR .i64 ((j:Int)-1):=ai;apply sR;simp only[go_sem,seval,t0,t2,t3,q,g1,i1 _ rfl,i2 _ rfl,i3 _ _ rfl,v1,v2,v3,r4,r5];refine⟨_,?_,t+1,by omega,rfl,?_,λi hi=>?_,by simp,_,rfl,by omega⟩
    .omega
    .simp only[k0,swp,List.map_set];rw[hjj]
    .rw[ae hi];exact g2 i hi
   .have q:((t:Int)<(L.length:Int)-1-t)=False:=O' H';apply sR;simp only[go_sem,seval,t2,t3,q];have hr:=JX L ht (by omega);rw[hr]at g1;refine⟨_,_,aa.refl _,Wk.refl (aa.refl _) _,rfl,.inr ⟨id,by simp,g1,h3⟩,λi o h hio=>?_⟩;rw[g2 i (λe=>by subst e;rw[h2]at h;injection h with h;subst h;rcases hio with h|h;exact h rfl;exact h h3)]
    exact h
open Go.Proofs Go.Proofs.Tryz
structure Kn where
 (ends Zq both:List Int)
 text:Int
def kV(x:Kn):V:=.agg [bb x.ends,bb x.Zq,bb x.both,vI x.text]
def eC(l:List Nd)(of:List Int)(k:Nat):Kn:=
 ⟨chR l of ((k:Int)-1) (λb=>!hAt l of b k),(chR l of k (λb=>!hAt l of b ((k:Int)-1))).reverse,chR l of k (λb=>hAt l of b ((k:Int)-1)),
  if 0<k/\k<of.length/\of.getD k 0=of.getD (k-1) 0 then of.getD k 0 else -1⟩
structure KR(l:List Nd)(of:List Int)(k:Int)(i4 i5 i6 i9 Xk Ym:Nat)(v:V)(Z0 U:ag):Prop where
 ask:Eh l of k i4 i5 i9 Xk U
 r6:U i6=some ⟨321,4,[.agg [.ay,.ay,.ay,vI 0]]⟩
 r11:U Ym=some ⟨321,4,[v]⟩
 sub:aa Z0 U
 no:Z0 Ym=none
 ne:i4≠Ym/\i5≠Ym/\i6≠Ym/\i9≠Ym/\Xk≠Ym
def KR.mono{l:List Nd}{of:List Int}{k:Int}{i4 i5 i6 i9 Xk Ym:Nat}{v:V}{Z0 U J:ag}(h:KR l of k i4 i5 i6 i9 Xk Ym v Z0 U)(hs:aa U J):KR l of k i4 i5 i6 i9 Xk Ym v Z0 J:=
 ⟨h.ask.mono hs,hs _ _ h.r6,hs _ _ h.r11,h.sub.trans hs,h.no,h.ne⟩
def KR.put{l:List Nd}{of:List Int}{k:Int}{i4 i5 i6 i9 Xk Ym:Nat}{v w:V}{Z0 U:ag}(h:KR l of k i4 i5 i6 i9 Xk Ym v Z0 U):KR l of k i4 i5 i6 i9 Xk Ym w Z0 (C' U Ym ⟨321,4,[w]⟩):=by
 obtain⟨n1,n2,n3,n4,n5⟩:=h.ne;exact⟨⟨by rw[ae n1];exact h.ask.r4,by rw[ae n2];exact h.ask.r5,by rw[ae n4];exact h.ask.r9,by rw[ae n5];exact h.ask.r10⟩,by rw[ae n3];exact h.r6,af,h.sub.av h.no,h.no,h.ne⟩
def Fx(l:List Nd)(hl:cT l)(hb:Xw l=true)(of:List Int)(Zz:of.length<=1000000)(Ya:∀x∈of,0<=x/\x<l.length)(hm:te l of=true)(k:Nat)(hk:k<=of.length):
 aK prog 273 [aC l,bb of,vI k] (.WJ [kV (eC l of k),vI 0]):=λU=>by
 refine UD.r (by simp[OH]) ?_;have hs:=aa.refl U;have hlo:=fL of;have hn:l.length<=100000:=by have:=hl.1;omega
 refine ab.mix 12 ?_;apply sR;simp only[go_sem,seval,OH,cS,ik];refine ad λi4 Z4 s4 a4 f4=>?_;replace hs:=hs.trans s4;simp only[go_sem,seval];refine ad λi5 Z5 s5 a5 f5=>?_;replace a4:=s5 _ _ a4;replace hs:=hs.trans s5;simp only[go_sem,seval];refine ad λi6 Z6 s6 a6 f6=>?_;replace a4:=s6 _ _ a4;replace a5:=s6 _ _ a5;have z6:=hs.none f6;replace hs:=hs.trans s6;simp only[go_sem,seval,a4,cS];refine ab.au rfl rfl rfl (rq l hl hb of Zz hm _) ?_;have q0:((0:Int)≠0)=False:=O' (λh=>h rfl);have q1:((k:Int)<0)=False:=O';have q2:((k:Int)>of.length)=False:=O';apply sR;simp only[go_sem,seval,q0,q1,q2,a4,a5,hlo,cg,cS,ik,dR];refine ad λi9 Z9 s9 a9 f9=>?_;have n49:=al a4 f9;replace a4:=s9 _ _ a4;have n59:=al a5 f9;replace a5:=s9 _ _ a5;have n69:=al a6 f9;replace a6:=s9 _ _ a6;have z9:=hs.none f9;replace hs:=hs.trans s9;simp only[go_sem,seval,a9];generalize XQ:C' _ i9 _=Y9;replace a9:=(congrFun XQ i9).symm.trans af;replace a4:=((congrFun XQ i4).symm.trans (ae n49)).trans a4;replace a5:=((congrFun XQ i5).symm.trans (ae n59)).trans a5;replace a6:=((congrFun XQ i6).symm.trans (ae n69)).trans a6;replace hs:=Eq.subst (motive:=aa _) XQ (hs.av z9);clear XQ;have hnf:V.Xu.cells=[.Xu]:=rfl;refine ad λXk Z10 YP Xy f10=>?_;have n410:=al a4 f10;replace a4:=YP _ _ a4;have n510:=al a5 f10;replace a5:=YP _ _ a5;have n610:=al a6 f10;replace a6:=YP _ _ a6;have n910:=al a9 f10;replace a9:=YP _ _ a9;have z10:=hs.none f10;replace hs:=hs.trans YP;simp only[go_sem,seval,Xy,hnf];generalize YB:C' _ Xk _=Y10;replace Xy:=(congrFun YB Xk).symm.trans af;replace a4:=((congrFun YB i4).symm.trans (ae n410)).trans a4;replace a5:=((congrFun YB i5).symm.trans (ae n510)).trans a5;replace a6:=((congrFun YB i6).symm.trans (ae n610)).trans a6;replace a9:=((congrFun YB i9).symm.trans (ae n910)).trans a9;replace hs:=Eq.subst (motive:=aa _) YB (hs.av z10);clear YB;refine ad λYm Z11 s11 Zk f11=>?_;have n411:=al a4 f11;replace a4:=s11 _ _ a4;have n511:=al a5 f11;replace a5:=s11 _ _ a5;have n611:=al a6 f11;replace a6:=s11 _ _ a6;have n911:=al a9 f11;replace a9:=s11 _ _ a9;have ZD:=al Xy f11;replace Xy:=s11 _ _ Xy;have z11:=hs.none f11;replace hs:=hs.trans s11;simp only[go_sem,seval,Zk,a9,a5,ae n511,ae n911];generalize YF:C' _ Ym _=Y11;replace Zk:=(congrFun YF Ym).symm.trans af;replace a4:=((congrFun YF i4).symm.trans (ae n411)).trans a4;replace a5:=((congrFun YF i5).symm.trans (ae n511)).trans a5;replace a6:=((congrFun YF i6).symm.trans (ae n611)).trans a6;replace a9:=((congrFun YF i9).symm.trans (ae n911)).trans a9;replace Xy:=((congrFun YF Xk).symm.trans (ae ZD)).trans Xy;replace hs:=Eq.subst (motive:=aa _) YF (hs.av z11);clear YF;have hK:KR l of k i4 i5 i6 i9 Xk Ym (.agg [.ay,.ay,.ay,vI (-1)]) U Y11:=⟨⟨a4,a5,a9,Xy⟩,a6,Zk,hs,z11,n411,n511,n611,n911,ZD⟩
 clear hs a4 a5 a6 a9 Xy Zk;generalize Y11=J at*;have hZ11:=hK.r11;have hZs:=hK.sub;refine⟨ai,?_⟩;refine ab.call rfl rfl rfl (xS l hl hb hn of Zz Ya ((k:Int)-1) 313 [.ptr Xk 0 0,.ptr i5 0 0] (λb=>!hAt l of b k) (λb XU X' hτ=>Rw l hb hn of Zz Ya b XU k (hK.ask.mono hτ))) ?_;rintro v0 Z1 ⟨s1,o0,_⟩;have hK1:=hK.mono s1;clear hK s1;obtain⟨cv0,sv0⟩:=o0.vc;have c11:=hK1.r11;have c9:=hK1.ask.r9;have c5:=hK1.ask.r5;rw[pF]at c9;apply sR;simp only[go_sem,seval,c11,c9,c5,cv0,sv0,ae n911,ae n511];have hK2:=hK1.put (w:=.agg [v0,.ay,.ay,vI (-1)]);have o0':aM (aX U Ym) (C' Z1 Ym ⟨321,4,[.agg [v0,.ay,.ay,vI (-1)]]⟩) 3 1 v0 ((chR l of ((k:Int)-1) (λb=>!hAt l of b k)).map vI):=by
  rcases o0 with h|⟨id,g1,g2,g3⟩
  .exact .inl h
  .have g3:J id=none:=g3;have W6:id≠Ym:=λe=>by rw[e,hZ11]at g3;cases g3
   exact .inr ⟨id,g1,by rw[ae W6];exact g2,aH.2 ⟨W6,hZs.none g3⟩⟩
 generalize C' Z1 Ym ⟨321,4,[.agg [v0,.ay,.ay,vI (-1)]]⟩=Y2 at*;refine ab.call rfl rfl rfl (xS l hl hb hn of Zz Ya k 314 [.ptr Xk 0 0,.ptr i5 0 0] (λb=>!hAt l of b ((k:Int)-1)) (λb XU X' hτ=>QZ l hb hn of Zz Ya b XU k (by omega) (by omega) (hK2.ask.mono hτ))) ?_;rintro v1 Z3 ⟨s3,o1,n1⟩;have hK3:=hK2.mono s3;have o03:=o0'.mono s3;obtain⟨cv1,sv1⟩:=o1.vc;have d11:=hK3.r11;have x11:=hK2.r11;apply sR;simp only[go_sem,seval,d11,cv1,sv1];have hK4:=hK3.put (w:=.agg [v0,v1,.ay,vI (-1)]);have push:∀{K Zx:ag} {v:V} {rows:List V} {o:Ob},K Ym≠none->aM K Zx 3 1 v rows->aM K (C' Zx Ym o) 3 1 v rows:=λ{K Zx v rows o} hk h=>by
  rcases h with h|⟨id,g1,g2,g3⟩
  .exact .inl h
  .exact .inr ⟨id,g1,by rw[ae (λe=>by rw[e]at g3;exact hk g3)];exact g2,g3⟩
 have kk:aX U Ym Ym≠none:=λh=>(aH.1 h).1 rfl;have o1':aM Y2 Z3 3 1 v1 _:=o1;have o04:=push (o:=⟨321,4,[.agg [v0,v1,.ay,vI (-1)]]⟩) kk o03;have o14:=push (o:=⟨321,4,[.agg [v0,v1,.ay,vI (-1)]]⟩) (by rw[x11];simp) o1';generalize C' Z3 Ym ⟨321,4,[.agg [v0,v1,.ay,vI (-1)]]⟩=Y4 at*;have XH:∀kk p,(chR l of kk p).length<=1000000:=λkk p=>by
  unfold chR;split
  .have h1:=List.length_filter_le p (abv l (of.getD kk.toNat 0).toNat);have h2:=jv l (l.length+1) (eM l (of.getD kk.toNat 0).toNat);have h3:(abv l (of.getD kk.toNat 0).toNat).length<=l.length+1:=h2;omega
  .simp
 refine ab.call rfl rfl rfl (GQ _ (XH _ _) o14 n1) ?_;rintro r Z5 ⟨rfl,o15,Yl⟩;have y5:=hK2.ask.r5;have hK5:KR l of k i4 i5 i6 i9 Xk Ym (.agg [v0,v1,.ay,vI (-1)]) U Z5:=
  ⟨⟨Yl _ _ hK4.ask.r4 (.inl (by simp)),Yl _ _ hK4.ask.r5 (.inr (by rw[y5];simp)),Yl _ _ hK4.ask.r9 (.inl (by simp)),Yl _ _ hK4.ask.r10 (.inl (by simp))⟩,Yl _ _ hK4.r6 (.inl (by simp)),Yl _ _ hK4.r11 (.inl (by simp)),
    λi o h=>Yl _ _ (hK4.sub _ _ h) (.inr (by rw[hK2.sub _ _ h];simp)),hK4.no,hK4.ne⟩
 have o05:aM (aX U Ym) Z5 3 1 v0 ((chR l of ((k:Int)-1) (λb=>!hAt l of b k)).map vI):=by
  rcases o0' with h|⟨id,g1,g2,g3⟩
  .exact .inl h
  .rcases o04 with⟨e,_⟩|⟨YQ,e1,e2,_⟩
   .rw[g1]at e;cases e
   .rw[g1]at e1;injection e1 with e1 _ _
    subst e1;exact .inr ⟨id,g1,Yl _ _ e2 (.inr (by rw[g2];simp)),g3⟩
 have e9:=hK5.ask.r9;have e5:=hK5.ask.r5;have e11:=hK5.r11;rw[pF]at e9;apply sR;simp only[go_sem,seval,e9,e5];refine ab.call rfl rfl rfl (xS l hl hb hn of Zz Ya k 316 [.ptr Xk 0 0,.ptr i5 0 0] (λb=>hAt l of b ((k:Int)-1)) (λb XU X' hτ=>Rj l hb hn of Zz Ya b XU k (by omega) (by omega) (hK5.ask.mono hτ))) ?_;rintro v2 Z6 ⟨s6,o2,_⟩;have hK6:=hK5.mono s6;have o06:=o05.mono s6;have o16:=o15.mono s6;have o2':aM Z5 Z6 3 1 v2 _:=o2;obtain⟨cv2,sv2⟩:=o2.vc;have f11:=hK6.r11;have f4:=hK6.ask.r4;have f5:=hK6.ask.r5;have f6:=hK6.r6;have push':∀{K:ag} {J:ag} {v:V} {rows x:List V} {i:Nat} {o:Ob},J i=some ⟨321,4,x⟩->aM K J 3 1 v rows->aM K (C' J i o) 3 1 v rows:=λ{K J v rows x i o} hi h=>by
  rcases h with h|⟨id,g1,g2,g3⟩
  .exact .inl h
  .refine .inr ⟨id,g1,?_,g3⟩;rw[ae (λe=>by rw[e,hi]at g2;cases g2)];exact g2
 have hsK1:aa U (aX U Ym):=λi o h=>by rw[aX,ao (λe=>by rw[e,hK6.no]at h;cases h)];exact h
 have fin:∀(t:Int) (o:Ob),t=(eC l of k).text->ak (.WJ [.agg [v0,v1,v2,vI t],vI 0]) (C' (C' Z6 Ym ⟨321,4,[.agg [v0,v1,v2,vI t]]⟩) i6 o) λr Z'=>r=.WJ [kV (eC l of k),vI 0]/\Z'=U:=by
  intro t o ht;have g6:=f6;rw[<-ae (U:=Z6) (o:=⟨321,4,[.agg [v0,v1,v2,vI t]]⟩) n611]at g6;have p0:=push' (o:=o) g6 (push' (o:=⟨321,4,[.agg [v0,v1,v2,vI t]]⟩) f11 o06);have p1:=push' (o:=o) g6 (push' (o:=⟨321,4,[.agg [v0,v1,v2,vI t]]⟩) f11 o16);have p2:=push' (o:=o) g6 (push' (o:=⟨321,4,[.agg [v0,v1,v2,vI t]]⟩) f11 o2');have WY:=((hK6.sub.av (o:=⟨321,4,[.agg [v0,v1,v2,vI t]]⟩) hK6.no)).av (o:=o) z6;refine⟨_,U,WY,Wk.WJ (vs':=[kV (eC l of k),vI 0]) ⟨Wk.agg (vs':=[bb (eC l of k).ends,bb (eC l of k).Zq,bb (eC l of k).both,vI (eC l of k).text]) ⟨p0.wk hsK1 WY,p1.wk hK2.sub WY,p2.wk hK5.sub WY,by rw[<-ht];exact Wk.refl WY _,trivial⟩,Wk.refl WY _,trivial⟩,rfl,rfl⟩
 rcases Nat.eq_zero_or_pos k with rfl|h0
 .have q3:((((0:Nat):Int))>0)=False:=O';apply sR;simp only[go_sem,seval,f11,f5,f6,cv2,sv2,ae n511,ae n611];exact fin _ _ (by simp[eC])
 have q3:((k:Int)>0)=True:=WE;by_cases h1:k<of.length
 .have q4:((k:Int)<of.length)=True:=WE;have q5:=ai (m:=((k-1:Nat):Int)) (by omega) (by omega);have q6:((k:Int)-1)=((k-1:Nat):Int):=by omega
  have q7:=λU=>iq (U:=U) h1;have q8:=λU=>iq (U:=U) (l:=of) (i:=k-1) (by omega);have g1:of.getD k 0=of[k]:=by simp[h1]
  have g2:of.getD (k-1) 0=of[k-1]:=by have:k-1<of.length:=by omega
                                      simp[this]
  by_cases h2:of.getD k 0=of.getD (k-1) 0
  .have q9:(of[k]=of[k-1])=True:=WE (by rw[<-g1,<-g2];exact h2);apply sR;simp only[go_sem,seval,f11,f4,f5,f6,cv2,sv2,ae n411,ae n511,ae n611,q3,q4,q5,q6,q7,q8,q9,hlo,cS];exact fin _ _ (by simp only[eC];rw[aq ⟨h0,h1,h2⟩,g1])
  .have q9:(of[k]=of[k-1])=False:=O' (by rw[<-g1,<-g2];exact h2);apply sR;simp only[go_sem,seval,f11,f4,f5,f6,cv2,sv2,ae n411,ae n511,ae n611,q3,q4,q5,q6,q7,q8,q9,hlo,cS];exact fin _ _ (by simp only[eC];rw[ao (λh=>h2 h.2.2)])
 .have q4:((k:Int)<of.length)=False:=O';apply sR;simp only[go_sem,seval,f11,f4,f5,f6,cv2,sv2,ae n411,ae n511,ae n611,q3,q4,hlo,cS];exact fin _ _ (by simp only[eC];rw[ao (λh=>h1 h.2.1)])
open Go.Proofs Go.Proofs.Tryz
def YG(l:List Nd)(b:Int):YA:=((l[b.toNat]?).map Nd.st).getD YA.zero
def nC(l:List Nd)(b:Int):List Int:=(if 0<(YG l b).head then[2]else[])++[(YG l b).before]
def Ea(l:List Nd)(x:Kn):List Int:=x.ends.map (λb=>(YG l b).after)++x.Zq.flatMap (nC l)
def jU{l:List Nd}{b:Nat}(h:b<l.length):YG l b=l[b].st:=by simp[YG,h]
def Et(l:List Nd)(x:Kn)(hE:x.ends.length<=1000000)(hB:x.Zq.length<=1000000)(he:∀b∈x.ends,∃n:Nat,b=n/\n<l.length)(hb:∀b∈x.Zq,∃n:Nat,b=n/\n<l.length):
 Iter prog 317 [.rp (kV x),.rp (aC l)] ((Ea l x).map λn=>[vI n]):=by
 refine⟨SI.c,λXe τ Jx Z0 hy hJ=>?_⟩;refine(SI.r (by simp[Pj]) ?_).2;obtain⟨E,B,C,tx⟩:=x;simp only at hE hB he hb;have hlE:=fL E;have hlB:=fL B;have ldI:∀(U:ag) (X:List Int),bF U false 1 (.rp (bb X))=some (bb X):=λU X=>rfl;have ldN:∀U:ag,bF U false 1 (.rp (aC l))=some (aC l):=λU=>rfl;generalize hT:(Ea l ⟨E,B,C,tx⟩).map (λn=>[vI n])=T at hy|-;refine ab.mix 9 ?_;apply sR;simp only[go_sem,seval,Pj,kV,ldI,hlE];refine ab.eG (λst=>∃(ZJ:ag),τ ((E.map λb=>(YG l b).after).map λn=>[vI n]) ZJ/\aa ZJ st.U/\st.s 0=.yl Xe/\st.s 1=.rp (kV ⟨E,B,C,tx⟩)/\st.s 2=.rp (aC l))
  (λm st=>∃(j:Nat) (ZJ:ag),j<=E.length/\m=E.length-j/\τ (((E.take j).map λb=>(YG l b).after).map λn=>[vI n]) ZJ/\aa ZJ st.U/\st.s 0=.yl Xe/\st.s 1=.rp (kV ⟨E,B,C,tx⟩)/\st.s 2=.rp (aC l)/\st.s 10=bb E/\st.s 11=vI E.length/\st.s 12=vI j) E.length ?_ ?_ ?_
 .exact⟨0,Z0,by omega,rfl,by simpa using hJ,aa.refl _,rfl,rfl,rfl,rfl,rfl,rfl⟩
 .rintro m ⟨S,J⟩ ⟨j,ZJ,hj,rfl,YM,G',t0,t1,t2,t10,t11,t12⟩;simp only at G' t0 t1 t2 t10 t11 t12;refine ab.mix 9 ?_;by_cases H':j<E.length
  .have q:((j:Int)<E.length)=True:=WE;have U':=λU=>iq (U:=U) H';have XB:E.take (j+1)=E.take j++[E[j]]:=ZS H';obtain⟨b,hbe,XU⟩:=he _ (XI H');have e0':E=E.take j++E[j]::E.drop (j+1):=by rw[<-gF H',uR]
   have e:T=(((E.take j).map λb=>(YG l b).after).map λn=>[vI n])++[vI l[b].st.after]::((((E.drop (j+1)).map λb=>(YG l b).after)++B.flatMap (nC l)).map λn=>[vI n]):=by
    rw[<-hT,Ea]
    conv=>lhs;rw[e0']
    simp[hbe,jU XU]
   rw[hbe]at U' XB;have YK:=λU=>cA (U:=U) (l:=l) (a:=b) XU;have r1:WR .i64 ((j:Int)+1):=ai;apply sR;simp only[go_sem,seval,t0,t2,t10,t11,t12,q,U',ldN,YK,Nd.cells];refine ab.oS (Post:=λb' Z2=>∃Xc,aY ZJ J Xc Z2/\((b'=true/\τ ((((E.take j).map λb=>(YG l b).after).map λn=>[vI n])++[[vI l[b].st.after]]) Xc)\/(b'=false/\Jx ((((E.take j).map λb=>(YG l b).after).map λn=>[vI n])++[[vI l[b].st.after]]) Xc))) rfl rfl rfl (hy _ [vI l[b].st.after] _ ZJ J e YM G') ?_;rintro b' Z2 ⟨Xc,Yh,XM⟩;rcases XM with⟨rfl,XM⟩|⟨rfl,XM⟩
   .apply sR;simp only[go_sem,seval,t0,t1,t2,t10,t11,t12,r1];refine⟨_,?_,j+1,Xc,by omega,rfl,by rw[XB];simpa[jU XU]using XM,Yh.1,by simp⟩;omega
   .apply sR;simp only[go_sem,seval];exact⟨_,Xc,Yh.1,Wk.refl Yh.1 _,.inr ⟨_,⟨_,by rw[e,my];rfl⟩,XM⟩⟩
  .have q:((j:Int)<E.length)=False:=O';rw[lg (by omega)]at YM;apply sR;simp only[go_sem,seval,t0,t1,t2,t11,t12,q];exact⟨ZJ,YM,G'⟩
 .rintro⟨S,J⟩ ⟨ZJ,YM,G',t0,t1,t2⟩;simp only at G' t0 t1 t2;generalize hP:((E.map λb=>(YG l b).after).map λn=>[vI n])=P1 at*;refine ab.mix 9 ?_;apply sR;simp only[go_sem,seval,t1,kV,ldI,hlB];refine ab.loop (λm st=>∃(j:Nat) (ZJ:ag),j<=B.length/\m=B.length-j/\τ (P1++((B.take j).flatMap (nC l)).map λn=>[vI n]) ZJ/\aa ZJ st.U/\st.s 0=.yl Xe/\st.s 2=.rp (aC l)/\st.s 27=bb B/\st.s 28=vI B.length/\st.s 29=vI j) B.length ?_ ?_
  .exact⟨0,ZJ,by omega,rfl,by simpa using YM,G',t0,t2,rfl,rfl,rfl⟩
  .clear YM G' t0 t1 t2;rintro m ⟨S,J⟩ ⟨j,ZJ,hj,rfl,YM,G',t0,t2,t27,t28,t29⟩;simp only at G' t0 t2 t27 t28 t29;refine ab.mix 9 ?_;by_cases H':j<B.length
   .have q:((j:Int)<B.length)=True:=WE;have U':=λU=>iq (U:=U) H';have XB:B.take (j+1)=B.take j++[B[j]]:=ZS H';obtain⟨b,hbe,XU⟩:=hb _ (XI H');have e0':B=B.take j++B[j]::B.drop (j+1):=by rw[<-gF H',uR]
    have e:T=(P1++((B.take j).flatMap (nC l)).map λn=>[vI n])++((nC l b).map λn=>[vI n])++(((B.drop (j+1)).flatMap (nC l)).map λn=>[vI n]):=by
     rw[<-hT,Ea,gB,hP]
     conv=>lhs;rw[e0']
     simp[hbe]
    rw[hbe]at U' XB;have YK:=λU=>cA (U:=U) (l:=l) (a:=b) XU;have r1:WR .i64 ((j:Int)+1):=ai;have hs:=aa.refl J;have htk2:(P1++((B.take (j+1)).flatMap (nC l)).map λn=>[vI n])=(P1++((B.take j).flatMap (nC l)).map λn=>[vI n])++((nC l b).map λn=>[vI n]):=by rw[XB];simp
    generalize (P1++((B.take j).flatMap (nC l)).map λn=>[vI n])=P2 at*;have hbg:nC l b=(if 0<l[b].st.head then[2]else[])++[l[b].st.before]:=by rw[nC,jU XU]
    apply sR;simp only[go_sem,seval,t2,t27,t28,t29,q,U',ldN,YK,Nd.cells];refine ad λi8 Z8 s8 a8 f8=>?_;have z8:=hs.none f8;replace hs:=hs.trans s8;simp only[go_sem,seval,a8,t0];generalize Yf:C' _ i8 _=Y8;replace a8:=(congrFun Yf i8).symm.trans af;replace hs:=Eq.subst (motive:=aa _) Yf (hs.av z8);clear Yf;generalize ((B.drop (j+1)).flatMap (nC l)).map (λn=>[vI n])=R2 at*;refine⟨λh0=>?_,λh0=>?_⟩
    .have e1:T=P2++[vI 2]::([vI l[b].st.before]::R2):=by rw[e,hbg,aq h0];simp
     have e2:T=(P2++[[vI 2]])++[vI l[b].st.before]::R2:=by rw[e1];simp
     have e3:(P2++[[vI 2]])++[[vI l[b].st.before]]=P2++(nC l b).map λn=>[vI n]:=by rw[hbg,aq h0];simp
     have hsub8:aa ZJ Y8:=G'.trans hs;refine ab.oS (Post:=λb' Z2=>∃Xc,aY ZJ Y8 Xc Z2/\((b'=true/\τ (P2++[[vI 2]]) Xc)\/(b'=false/\Jx (P2++[[vI 2]]) Xc))) rfl rfl rfl (hy _ [vI 2] _ ZJ Y8 e1 YM hsub8) ?_;rintro b' Z2 ⟨Xc,Yh,XM⟩;rcases XM with⟨rfl,XM⟩|⟨rfl,XM⟩
     .have a8':=(Yh.2 i8 _ (G'.none z8) a8).1;apply sR;simp only[go_sem,seval,t0,a8'];refine ab.oS (Post:=λb' Z3=>∃ZJ3,aY Xc Z2 ZJ3 Z3/\((b'=true/\τ ((P2++[[vI 2]])++[[vI l[b].st.before]]) ZJ3)\/(b'=false/\Jx ((P2++[[vI 2]])++[[vI l[b].st.before]]) ZJ3))) rfl rfl rfl (hy _ [vI l[b].st.before] _ Xc Z2 e2 XM Yh.1) ?_;rintro b3 Z3 ⟨ZJ3,hbs3,hbb3⟩;rcases hbb3 with⟨rfl,hbb3⟩|⟨rfl,hbb3⟩
      .apply sR;simp only[go_sem,seval,t0,t2,t27,t28,t29,r1];refine⟨_,?_,j+1,ZJ3,by omega,rfl,by rw[htk2,<-e3];exact hbb3,hbs3.1,by simp⟩;omega
      .apply sR;simp only[go_sem,seval];exact⟨_,ZJ3,hbs3.1,Wk.refl hbs3.1 _,.inr ⟨_,⟨_,by rw[e2,my];rfl⟩,hbb3⟩⟩
     .apply sR;simp only[go_sem,seval];exact⟨_,Xc,Yh.1,Wk.refl Yh.1 _,.inr ⟨_,⟨_,by rw[e1,my];rfl⟩,XM⟩⟩
    .have e2:T=P2++[vI l[b].st.before]::R2:=by rw[e,hbg,ao (by omega)];simp
     have e3:P2++[[vI l[b].st.before]]=P2++(nC l b).map λn=>[vI n]:=by rw[hbg,ao (by omega)];simp
     have hsub8:aa ZJ Y8:=G'.trans hs;apply sR;simp only[go_sem,seval];refine ab.oS (Post:=λb' Z3=>∃ZJ3,aY ZJ Y8 ZJ3 Z3/\((b'=true/\τ (P2++[[vI l[b].st.before]]) ZJ3)\/(b'=false/\Jx (P2++[[vI l[b].st.before]]) ZJ3))) rfl rfl rfl (hy _ [vI l[b].st.before] _ ZJ Y8 e2 YM hsub8) ?_;rintro b3 Z3 ⟨ZJ3,hbs3,hbb3⟩;rcases hbb3 with⟨rfl,hbb3⟩|⟨rfl,hbb3⟩
     .apply sR;simp only[go_sem,seval,t0,t2,t27,t28,t29,r1];refine⟨_,?_,j+1,ZJ3,by omega,rfl,by rw[htk2,<-e3];exact hbb3,hbs3.1,by simp⟩;omega
     .apply sR;simp only[go_sem,seval];exact⟨_,ZJ3,hbs3.1,Wk.refl hbs3.1 _,.inr ⟨_,⟨_,by rw[e2,my];rfl⟩,hbb3⟩⟩
   .have q:((j:Int)<B.length)=False:=O';rw[lg (by omega),<-hP,<-gB]at YM;apply sR;simp only[go_sem,seval,t28,t29,q];exact⟨_,ZJ,G',Wk.refl G' _,.inl (hT▸YM)⟩
open Go.Proofs Go.Proofs.Tryz
def Aj{l:List Nd}{of:List Int}(Ya:∀x∈of,0<=x/\x<l.length){k:Int}{p:Int->Bool}:∀b∈chR l of k p,∃n:Nat,b=n/\n<l.length:=λb hb=>by
 unfold chR at hb;split at hb
 .rename_i h;have H':k.toNat<of.length:=by omega
  have hgd:of.getD k.toNat 0=of[k.toNat]:=by simp[H']
  rw[hgd]at hb;obtain⟨h0,h1⟩:=Ya _ (XI H');obtain⟨n,rfl,hn⟩:=qJ (l:=l) (a:=of[k.toNat].toNat) (by omega) b (tm.1 hb).1;exact⟨n,rfl,by omega⟩
 .cases hb
def qY{l:List Nd}(hn:l.length<=100000){of:List Int}{k:Int}{p:Int->Bool}:(chR l of k p).length<=100001:=by
 unfold chR;split
 .have h1:=List.length_filter_le p (abv l (of.getD k.toNat 0).toNat);have h2:=jv l (l.length+1) (eM l (of.getD k.toNat 0).toNat);have h3:(abv l (of.getD k.toNat 0).toNat).length<=l.length+1:=h2;omega
 .simp
def Ki(l:List Nd)(b:Int):(nC l b).length<=2:=by unfold nC;split<;>simp
def CG{α β:Type}(f:α->List β)(hf:∀a,(f a).length<=2):∀L:List α,(L.flatMap f).length<=2*L.length
 |[]=>by simp
 |a::L=>by
  rw[AA,iz,XX];have:=CG f hf L;have:=hf a;omega
def jI(l:List Nd)(of:List Int)(k:Nat):List Int:=if k=of.length then[]else Ea l (eC l of k)
def Cq{l:List Nd}(hn:l.length<=100000)(of:List Int)(k:Nat):(Ea l (eC l of k)).length<=1000000:=by
 unfold Ea;rw[iz,dd];have h1:=CG (nC l) (Ki l) (eC l of k).Zq;have h2:(eC l of k).ends.length<=100001:=qY hn;have h3:(eC l of k).Zq.length<=100001:=by
  rw[eC,List.length_reverse];exact qY hn
 omega
def KA(l:List Nd)(x:Kn):aK prog 274 [aC l,kV x] (.fn 317 [.rp (kV x),.rp (aC l)]):=λU=>by
 refine UH.r (by simp[NP]) ?_;refine ab.mix 4 ?_;have q1:=cg l;have q2:=dR l;generalize aC l=y at*;obtain⟨E,B,C,tx⟩:=x;simp only[kV];apply sR;simp only[go_sem,seval,NP,q1,q2];refine ad λid1 Z1 s1 a1 f1=>?_;simp only[go_sem,seval];refine ad λid2 Z2 s2 a2 f2=>?_;simp only[go_sem,seval];exact⟨_,U,s1.trans s2,Wk.fn (vs':=[.rp (.agg [bb E,bb B,bb C,vI tx]),.rp y]) ⟨Wk.ptr (s1.trans s2) a2 (s1.none f2),Wk.ptr (s1.trans s2) (s2 _ _ a1) f1,trivial⟩,rfl,rfl⟩
def FH(l:List Nd)(hl:cT l)(hb:Xw l=true)(of:List Int)(Zz:of.length<=1000000)(Ya:∀x∈of,0<=x/\x<l.length)(hm:te l of=true)(k:Nat)(hk:k<=of.length):
 aK prog 228 [aC l,bb of,vI k] (.WJ [bb (jI l of k),vI 0]):=λU=>by
 refine TN.r (by simp[On]) ?_;have hs:=aa.refl U;have hlo:=fL of;have hn:l.length<=100000:=by have:=hl.1;omega
 refine ab.mix 10 ?_;apply sR;simp only[go_sem,seval,On];refine ab.au rfl rfl rfl (Fx l hl hb of Zz Ya hm k hk _) ?_;apply sR;simp only[go_sem,seval,kV];refine ad λi8 Z8 s8 a8 f8=>?_;have z8:=hs.none f8;replace hs:=hs.trans s8;have q0:((0:Int)≠0)=False:=O' (λh=>h rfl);by_cases hkk:k=of.length
 .have q1:((k:Int)=of.length)=True:=WE;simp only[go_sem,seval,a8,hlo,q0,q1];rw[jI,aq hkk];have WY:=hs.av (o:=⟨321,4,[kV (eC l of k)]⟩) z8;exact⟨_,U,WY,Wk.WJ (vs':=[bb [],vI 0]) ⟨(aM.start (e:=3)).wk (aa.refl _) WY,Wk.refl WY _,trivial⟩,rfl,rfl⟩
 .have q1:((k:Int)=of.length)=False:=O';simp only[go_sem,seval,a8,hlo,q0,q1];refine ab.au rfl rfl rfl (KA l (eC l of k) _) ?_;apply sR;simp only[go_sem,seval];have Zh:=Cq hn of k;have hit:=Et l (eC l of k) (jx (qY hn) (by omega)) (by rw[eC,List.length_reverse];exact jx (qY hn) (by omega)) (Aj Ya) (λb hb=>Aj Ya b (List.mem_reverse.1 hb));refine ab.au rfl rfl rfl (zk hit Zh _) ?_;apply sR;simp only[go_sem,seval];rw[jI,ao hkk];have WY:=hs.av (o:=⟨321,4,[kV (eC l of k)]⟩) z8;exact⟨_,U,WY,Wk.refl WY _,rfl,rfl⟩
open Go.Proofs Go.Proofs.Tryz
def nQ(out n:Int)(over:Bool):Int:=if over=true\/out=0 then n else out
def ly(out n:Int):Int:=if n=3\/n=4 then nQ out n true else if n=2 then nQ out n false else out
def cV(all:List Int):Int:=all.foldl ly 0
def Aw(n:Int)(over:Bool)(out:Int){U:ag}{i3:Nat}(h:U i3=some ⟨3,1,[vI out]⟩):
 ax prog 275 [vI n,.bool over,.ptr i3 0 0] U λ_ Z'=>Z' i3=some ⟨3,1,[vI (nQ out n over)]⟩/\∀i,i≠i3->Z' i=U i:=by
 refine UC.r (by simp[Ku]) ?_;refine ab.mix 5 ?_;have fin:∀J:ag,J i3=some ⟨3,1,[vI (nQ out n over)]⟩->(∀i,i≠i3->J i=U i)->ak (.WJ []) J λ_ Z'=>Z' i3=some ⟨3,1,[vI (nQ out n over)]⟩/\∀i,i≠i3->Z' i=U i:=λJ h1 h2=>
  ⟨_,J,aa.refl _,Wk.refl (aa.refl _) _,h1,h2⟩
 by_cases h0:over=true\/out=0
 .have ht:nQ out n over=n:=aq h0;rw[ht]at fin|-;cases over
  .have q:(out=0)=True:=WE (by simpa using h0);apply sR;simp only[go_sem,seval,Ku,h,q];exact fin _ af λi hi=>ae hi
  .apply sR;simp only[go_sem,seval,Ku,h];exact fin _ af λi hi=>ae hi
 .have ht:nQ out n over=out:=ao h0;rw[ht]at fin|-;simp only[not_or,Bool.not_eq_true]at h0;obtain⟨rfl,h0⟩:=h0;have q:(out=0)=False:=O' h0;apply sR;simp only[go_sem,seval,Ku,h,q];exact fin _ h λi hi=>rfl
def Ka(all:List Int)(Zh:all.length<=1000000):aK prog 229 [bb all] (vI (cV all)):=λU=>by
 refine Wc.r (by simp[NJ]) ?_;have hs:=aa.refl U;have Zl:=fL all;refine ab.mix 8 ?_;apply sR;simp only[go_sem,seval,NJ];refine ad λi3 Z3 s3 a3 f3=>?_;have z3:=hs.none f3;replace hs:=hs.trans s3;simp only[go_sem,seval,a3,Zl];generalize hq3:C' _ i3 _=X3;replace a3:=(congrFun hq3 i3).symm.trans af;replace hs:=Eq.subst (motive:=aa _) hq3 (hs.av z3);clear hq3;refine ab.eG (λst=>st.U i3=some ⟨3,1,[vI (cV all)]⟩/\aa U st.U/\st.s 3=.ptr i3 0 0)
  (λm st=>∃j:Nat,j<=all.length/\m=all.length-j/\st.U i3=some ⟨3,1,[vI (cV (all.take j))]⟩/\aa U st.U/\st.s 3=.ptr i3 0 0/\st.s 4=.fn 275 [.ptr i3 0 0]/\st.s 9=bb all/\st.s 10=vI all.length/\st.s 11=vI j) all.length ?_ ?_ ?_
 .exact⟨0,by omega,rfl,a3,hs,rfl,rfl,rfl,rfl,rfl⟩
 .clear a3 hs;rintro m ⟨S,J⟩ ⟨j,hj,rfl,b3,hs,t3,t4,t9,t10,t11⟩;simp only at b3 hs t3 t4 t9 t10 t11;refine ab.mix 8 ?_;by_cases H':j<all.length
  .have q:((j:Int)<all.length)=True:=WE;have U':=λU=>iq (U:=U) H';have XB:cV (all.take (j+1))=ly (cV (all.take j)) all[j]:=by
    rw[cV,ZS H',vz];rfl
   have r1:WR .i64 ((j:Int)+1):=ai;generalize all[j]=n at*;have sub2:∀{ρ:ag} {o:Ob},ρ i3=some o->(∀i,i≠i3->ρ i=J i)->aa U ρ:=λ{ρ o} h1 h2 i x hx=>by
    rw[h2 i (λe=>by rw[e,z3]at hx;cases hx)];exact hs _ _ hx
   by_cases h3:n=3
   .have q3:(n=3)=True:=WE h3;have WY:nQ (cV (all.take j)) n true=ly (cV (all.take j)) n:=by rw[ly,aq (.inl h3)]
    apply sR;simp only[go_sem,seval,t4,t9,t10,t11,q,q3,U'];refine ab.call rfl rfl rfl (Aw n true (cV (all.take j)) b3) ?_;rintro-ρ ⟨g1,g2⟩;apply sR;simp only[go_sem,seval,t3,t4,t9,t10,t11,r1];refine⟨_,?_,j+1,by omega,rfl,by rw[XB];exact WY▸g1,sub2 g1 g2,by simp⟩;omega
   .have q3:(n=3)=False:=O' h3;by_cases h4:n=4
    .have q4:(n=4)=True:=WE h4;have WY:nQ (cV (all.take j)) n true=ly (cV (all.take j)) n:=by rw[ly,aq (.inr h4)]
     apply sR;simp only[go_sem,seval,t4,t9,t10,t11,q,q3,q4,U'];refine ab.call rfl rfl rfl (Aw n true (cV (all.take j)) b3) ?_;rintro-ρ ⟨g1,g2⟩;apply sR;simp only[go_sem,seval,t3,t4,t9,t10,t11,r1];refine⟨_,?_,j+1,by omega,rfl,by rw[XB];exact WY▸g1,sub2 g1 g2,by simp⟩;omega
    .have q4:(n=4)=False:=O' h4;by_cases h2:n=2
     .have q2:(n=2)=True:=WE h2;have WY:nQ (cV (all.take j)) n false=ly (cV (all.take j)) n:=by rw[ly,ao (by simp[h3,h4]),aq h2]
      apply sR;simp only[go_sem,seval,t4,t9,t10,t11,q,q3,q4,q2,U'];refine ab.call rfl rfl rfl (Aw n false (cV (all.take j)) b3) ?_;rintro-ρ ⟨g1,g2⟩;apply sR;simp only[go_sem,seval,t3,t4,t9,t10,t11,r1];refine⟨_,?_,j+1,by omega,rfl,by rw[XB];exact WY▸g1,sub2 g1 g2,by simp⟩;omega
     .have q2:(n=2)=False:=O' h2;have WY:cV (all.take j)=ly (cV (all.take j)) n:=by rw[ly,ao (by simp[h3,h4]),ao h2]
      apply sR;simp only[go_sem,seval,t3,t4,t9,t10,t11,q,q3,q4,q2,r1,U'];refine⟨_,?_,j+1,by omega,rfl,by rw[XB,<-WY];exact b3,hs,by simp⟩;omega
  .have q:((j:Int)<all.length)=False:=O';rw[lg (by omega)]at b3;apply sR;simp only[go_sem,seval,t3,t10,t11,q];exact⟨b3,hs⟩
 .rintro⟨S,J⟩ ⟨b3,hs,t3⟩;simp only at b3 hs t3;refine ab.mix 8 ?_;apply sR;simp only[go_sem,seval,t3,b3];exact⟨_,U,hs,Wk.refl hs _,rfl,rfl⟩
open Go.Proofs Go.Proofs.Tryz
def jJ(l:List Nd)(of:List Int)(k:Nat):Int:=cV (jI l of k)
def xd{l:List Nd}(hn:l.length<=100000)(of:List Int)(k:Nat):(jI l of k).length<=1000000:=by
 unfold jI;split
 .simp
 .exact Cq hn of k
def R7(l:List Nd)(hl:cT l)(hb:Xw l=true)(of:List Int)(Zz:of.length<=1000000)(Ya:∀x∈of,0<=x/\x<l.length)(hm:te l of=true)(k:Nat)(hk:k<=of.length):
 aK prog 170 [aC l,bb of,vI k] (.WJ [vI (jJ l of k),vI 0]):=λU=>by
 refine UB.r (by simp[Rb]) ?_;have hs:=aa.refl U;have hn:l.length<=100000:=by have:=hl.1;omega
 refine ab.mix 11 ?_;apply sR;simp only[go_sem,seval,Rb];refine ab.au rfl rfl rfl (FH l hl hb of Zz Ya hm k hk _) ?_;apply sR;simp only[go_sem,seval];refine ab.au rfl rfl rfl (Ka _ (xd hn of k) _) ?_;apply sR;simp only[go_sem,seval];exact ak.pure hs rfl
def Cc(l:List Nd)(of:List Int):List Int:=(List.range (of.length+1)).map (jJ l of)
def N6(l:List Nd)(hl:cT l)(hb:Xw l=true)(of:List Int)(Zz:of.length<=1000000)(Ya:∀x∈of,0<=x/\x<l.length)(hm:te l of=true):
 aK prog 110 [aC l,bb of] (.WJ [bb (Cc l of),vI 0]):=λU=>by
 refine Ux.r (by simp[O6]) ?_;have hs:=aa.refl U;have hlo:=fL of;refine ab.mix 11 ?_;apply sR;simp only[go_sem,seval,O6];refine ab.au rfl rfl rfl (rq l hl hb of Zz hm _) ?_;have q0:((0:Int)≠0)=False:=O' (λh=>h rfl);have r0:WR .i64 ((of.length:Int)+1):=ai;apply sR;simp only[go_sem,seval,q0,hlo,r0];refine ab.eG (λst=>aa U st.U/\aM U st.U 3 1 (st.s 7) ((Cc l of).map vI))
  (λm st=>∃j:Nat,j<=of.length+1/\m=of.length+1-j/\aa U st.U/\aM U st.U 3 1 (st.s 7) (((List.range j).map (jJ l of)).map vI)/\st.s 0=aC l/\st.s 1=bb of/\st.s 19=vI ((of.length:Int)+1)/\st.s 20=vI j) (of.length+1) ?_ ?_ ?_
 .exact⟨0,by omega,rfl,hs,aM.start,rfl,rfl,rfl,rfl⟩
 .clear hs;rintro m ⟨S,J⟩ ⟨j,hj,rfl,hs,ho,t0,t1,t19,t20⟩;simp only at hs ho t0 t1 t19 t20;generalize hv7:S 7=v7 at ho;refine ab.mix 11 ?_;by_cases H':j<of.length+1
  .have q:((j:Int)<of.length+1)=True:=WE;have r1:WR .i64 ((j:Int)+1):=ai;have Xo:(((List.range (j+1)).map (jJ l of)).map vI)=(((List.range j).map (jJ l of)).map vI)++[vI (jJ l of j)]:=by
    rw[List.range_succ];simp
   have hlm:(((List.range j).map (jJ l of)).map vI).length=j:=by simp
   apply sR;simp only[go_sem,seval,t0,t1,t19,t20,q];refine ab.au rfl rfl rfl (R7 l hl hb of Zz Ya hm j (by omega) _) ?_;generalize ((List.range j).map (jJ l of)).map vI=rows at*;apply sR;simp only[go_sem,seval,hv7];refine ad λi32 Z32 s32 a32 f32=>?_;obtain⟨WW,Yj,X7,hd1,hd2⟩:=ho.Ey s32;have XW:(rows.length+1)*9<=140737488355328:=by omega
   simp only[go_sem,seval,Yj,du a32,XW];refine eF λi33 Z33 s33 a33 f33=>?_;have k33:=(X7 U (aa.refl _) Z32 (hs.trans s32)).trans s33;have n33:U i33=none:=(hs.trans s32).none f33;simp only[go_sem,seval,t0,t1,t19,t20,r1];refine⟨_,?_,j+1,by omega,rfl,k33,?_,by simp⟩
   .omega
   .rw[Xo];exact aM.new (by simp) a33 n33
  .have q:((j:Int)<of.length+1)=False:=O';have Yq:j=of.length+1:=by omega
   subst Yq;apply sR;simp only[go_sem,seval,t19,t20,q];exact⟨hs,hv7▸ho⟩
 .rintro⟨S,J⟩ ⟨hs,ho⟩;simp only at hs ho;generalize hv7:S 7=v7 at ho;refine ab.mix 11 ?_;apply sR;simp only[go_sem,seval,hv7];exact⟨_,U,hs,Wk.WJ (vs':=[bb (Cc l of),vI 0]) ⟨ho.wk (aa.refl _) hs,Wk.refl hs _,trivial⟩,rfl,rfl⟩
open Go.Proofs Go.Proofs.Tryz
def jz(l:List Nd)(of:List Int)(k:Int)(x:Kn):V:=.agg [bb x.ends,bb x.Zq,bb x.both,vI x.text,aC l,bb of,vI k]
def Pd(l:List Nd)(hl:cT l)(hb:Xw l=true)(of:List Int)(Zz:of.length<=1000000)(Ya:∀x∈of,0<=x/\x<l.length)(hm:te l of=true)(k:Nat)(hk:k<=of.length):
 aK prog 230 [aC l,bb of,vI k] (.WJ [jz l of k (eC l of k),vI 0]):=λU=>by
 refine Wh.r (by simp[Qi]) ?_;have hs:=aa.refl U;refine ab.mix 10 ?_;apply sR;simp only[go_sem,seval,Qi];refine ad λi6 Z6 s6 a6 f6=>?_;have z6:=hs.none f6;replace hs:=hs.trans s6;simp only[go_sem,seval];refine ab.au rfl rfl rfl (Fx l hl hb of Zz Ya hm k hk _) ?_;apply sR;simp only[go_sem,seval,kV];refine ad λi8 Z8 s8 a8 f8=>?_;have n68:=al a6 f8;replace a6:=s8 _ _ a6;have z8:=hs.none f8;replace hs:=hs.trans s8;simp only[go_sem,seval,a8,a6,ae n68,cg,cS,ik,dR];exact ak.pure ((hs.av z8).av z6) rfl
def IK:aK prog 276 [] (.agg [vI 0,vI 0,vI 0,vI 0,vI 0,vI 2,vI 2,vI 0,vI 0,vI 0,vI 0,vI 0]):=λU=>by
 refine Wb.r (by simp[O2]) ?_;apply sR;simp only[go_sem,seval,O2];refine ad λid0 Z0 s0 a0 f0=>?_;simp only[go_sem,seval,a0];exact .pure (s0.av f0) rfl
def uQ(a:Int):List Int->Nat->Int
 |[],_=>-1
 |q::r,i=>if q=a then i else uQ a r (i+1)
def GU{a:Int}{p:List Int}{i:Nat}(h:i<p.length):uQ a (p.drop i) i=if p[i]=a then(i:Int)else uQ a (p.drop (i+1)) (i+1):=by
 rw[gF h,uQ]
def Dr(a:Int):∀(p:List Int) (i:Nat),uQ a p i>=0↔a∈p
 |[],_=>by simp[uQ]
 |q::r,i=>by
  rw[uQ];split
  .rename_i h;subst h;simp
  .rename_i h;rw[Dr a r (i+1),db];constructor
   .exact .inr
   .rintro(rfl|h2)
    .exact absurd rfl h
    .exact h2
def HT(p:List Int)(hp:p.length<=1000000000)(a:Int):aK prog 318 [bb p,vI a] (vI (uQ a p 0)):=λU=>by
 refine Uj.r (by simp[Pa]) ?_;have hlp:=fL p;refine ab.mix 9 ?_;apply sR;simp only[go_sem,seval,Pa,hlp];refine ab.loop (λm st=>∃(i:Nat),i<=p.length/\m=p.length-i/\uQ a p 0=uQ a (p.drop i) i/\st.U=U/\st.s 0=bb p/\st.s 1=vI a/\st.s 7=vI p.length/\st.s 8=vI i) p.length ?_ ?_
 .exact⟨0,by omega,rfl,rfl,rfl,rfl,rfl,rfl,rfl⟩
 .rintro m ⟨s,Z'⟩ ⟨i,hi,rfl,heq,W4,h0,h1,h7,h8⟩;simp only at W4 h0 h1 h7 h8;subst W4;refine ab.mix 9 ?_;by_cases H':i<p.length
  .have q:((i:Int)<p.length)=True:=WE;have hd:=GU (a:=a) H';have U':=λU=>iq (U:=U) H';have r1:WR .i64 ((i:Int)+1):=ai;by_cases hc:p[i]=a
   .have q1:(a=p[i])=True:=WE hc.symm;apply sR;simp only[go_sem,seval,h0,h1,h7,h8,q,U',q1];refine ak.same ?_;rw[heq,hd,aq hc]
   .have q1:(a=p[i])=False:=O' (λh=>hc h.symm);apply sR;simp only[go_sem,seval,h0,h1,h7,h8,q,U',q1,r1];refine⟨_,?_,i+1,by omega,rfl,?_,by simp⟩
    .omega
    .rw[heq,hd,ao hc]
  .have q:((i:Int)<p.length)=False:=O';have ZI:i=p.length:=by omega
   apply sR;simp only[go_sem,seval,h7,h8,q];refine ak.same ?_;rw[heq,ZI,zN];rfl
def C9(p:List Int)(hp:p.length<=1000000000)(a:Int):aK prog 280 [bb p,vI a] (.bool (decide (a∈p))):=λU=>by
 refine V1.r (by simp[NV]) ?_;apply sR;simp only[go_sem,seval,NV];refine ab.au rfl rfl rfl (HT p hp a _) ?_;have h:=Dr a p 0;by_cases ha:a∈p
 .have q:(uQ a p 0>=0)=True:=WE (h.2 ha);apply sR;simp only[go_sem,seval,q];exact ak.same (by simp[ha])
 .have q:(uQ a p 0>=0)=False:=O' (λhh=>ha (h.1 hh));apply sR;simp only[go_sem,seval,q];exact ak.same (by simp[ha])
open Go.Proofs Go.Proofs.Tryz
def lS(of:List Int)(t:Int)(k:Nat):Nat->Nat×Nat
 |0=>(0,0)
 |j+1=>if of.getD j 0=t then if j<k then((lS of t k j).1+1,(lS of t k j).2)else((lS of t k j).1,(lS of t k j).2+1)else lS of t k j
def qu(of:List Int)(t:Int)(k:Nat):Nat×Nat:=if t<0 then(0,0)else lS of t k of.length
def FA(of:List Int)(t:Int)(k:Nat):∀j,(lS of t k j).1<=j/\(lS of t k j).2<=j
 |0=>by simp[lS]
 |j+1=>by
  have:=FA of t k j;rw[lS];split
  .split<;>simp only<;>omega
  .omega
def Iu(l:List Nd)(of:List Int)(Zz:of.length<=1000000)(k:Nat)(x:Kn):
 aK prog 278 [jz l of k x] (.WJ [vI (qu of x.text k).1,vI (qu of x.text k).2]):=λU=>by
 refine UL.r (by simp[OF]) ?_;have hs:=aa.refl U;have hlo:=fL of;obtain⟨E,B,C,t⟩:=x;simp only;refine ab.mix 6 ?_;apply sR;simp only[go_sem,seval,OF,jz];refine ad λi1 Z1 s1 a1 f1=>?_;replace hs:=hs.trans s1;unfold qu;by_cases ht:t<0
 .have q:(t<0)=True:=WE ht;simp only[go_sem,seval,a1,q];exact ak.pure hs (by simp)
 have q:(t<0)=False:=O' ht;rw[ao ht];simp only[go_sem,seval,a1,q,hlo];refine ab.loop (λm st=>∃j:Nat,j<=of.length/\m=of.length-j/\st.U=Z1/\st.s 1=.ptr i1 0 0/\st.s 2=vI (lS of t k j).1/\st.s 3=vI (lS of t k j).2/\st.s 11=bb of/\st.s 12=vI of.length/\st.s 13=vI j) of.length ?_ ?_
 .exact⟨0,by omega,rfl,rfl,rfl,rfl,rfl,rfl,rfl,rfl⟩
 .rintro m ⟨S,J⟩ ⟨j,hj,rfl,W4,t1,t2,t3,t11,t12,t13⟩;simp only at W4 t1 t2 t3 t11 t12 t13;subst W4;refine ab.mix 6 ?_;by_cases H':j<of.length
  .have q0:((j:Int)<of.length)=True:=WE;have r1:WR .i64 ((j:Int)+1):=ai;have U':=λU=>iq (U:=U) H';have hgd:of.getD j 0=of[j]:=by simp[H']
   have hle:=FA of t k j;have WY:lS of t k (j+1)=if of[j]=t then if j<k then((lS of t k j).1+1,(lS of t k j).2)else((lS of t k j).1,(lS of t k j).2+1)else lS of t k j:=by rw[lS,hgd]
   have r2:WR .i64 (((lS of t k j).1:Int)+1):=ai;have r3:WR .i64 (((lS of t k j).2:Int)+1):=ai;by_cases hn:of[j]=t
   .have q1:(of[j]≠t)=False:=O' (λh=>h hn);rw[aq hn]at WY;by_cases hk:j<k
    .have q2:((j:Int)<k)=True:=WE;rw[aq hk]at WY;apply sR;simp only[go_sem,seval,t1,t2,t3,t11,t12,t13,a1,q0,q1,q2,r1,r2,U'];refine⟨_,?_,j+1,by omega,rfl,by rw[WY];simp⟩;omega
    .have q2:((j:Int)<k)=False:=O';rw[ao hk]at WY;apply sR;simp only[go_sem,seval,t1,t2,t3,t11,t12,t13,a1,q0,q1,q2,r1,r3,U'];refine⟨_,?_,j+1,by omega,rfl,by rw[WY];simp⟩;omega
   .have q1:(of[j]≠t)=True:=WE hn;rw[ao hn]at WY;apply sR;simp only[go_sem,seval,t1,t2,t3,t11,t12,t13,a1,q0,q1,r1,U'];refine⟨_,?_,j+1,by omega,rfl,by rw[WY];simp⟩;omega
  .have q0:((j:Int)<of.length)=False:=O';have Yq:j=of.length:=by omega
   apply sR;simp only[go_sem,seval,t2,t3,t12,t13,q0];exact ak.pure hs (by rw[Yq])
open Go.Proofs Go.Proofs.Tryz
def Aq:YA:=⟨0,0,0,0,0,2,2,0,0,0,0,0⟩
def AP(l:List Nd)(t:Int):YA:=if 0<=eM l t.toNat then YG l (eM l t.toNat)else Aq
def Pf(l:List Nd)(of:List Int)(t:Int)(k:Nat):Bool:=if t<0 then false else decide (((qu of t k).1:Int)<(AP l t).Xj\/((qu of t k).2:Int)<(AP l t).Xt)
def RF(l:List Nd)(hl:cT l)(hb:Xw l=true)(of:List Int)(Zz:of.length<=1000000)(k:Nat)(x:Kn)(hx:x.text<l.length):
 aK prog 231 [jz l of k x] (.bool (Pf l of x.text k)):=λU=>by
 refine UA.r (by simp[OT]) ?_;have hs:=aa.refl U;have hlc:=λx=>Iu l of Zz k x;obtain⟨E,B,C,t⟩:=x;simp only at hx|-;refine ab.mix 7 ?_;apply sR;simp only[go_sem,seval,OT,jz];refine ad λi1 Z1 s1 a1 f1=>?_;replace hs:=hs.trans s1;unfold Pf;by_cases ht:t<0
 .have q:(t<0)=True:=WE ht;simp only[go_sem,seval,a1,q];exact ak.pure hs (by simp)
 have q:(t<0)=False:=O' ht;rw[ao ht];obtain⟨a,rfl⟩:∃a:Nat,t=a:=⟨t.toNat,by omega⟩
 simp only[go_sem,seval,a1,q];refine ab.au rfl rfl rfl (IK _) ?_;apply sR;simp only[go_sem,seval];refine ad λi3 Z3 s3 a3 f3=>?_;have n13:=al a1 f3;replace a1:=s3 _ _ a1;have z3:=hs.none f3;replace hs:=hs.trans s3;simp only[go_sem,seval,a3,a1,ae n13];generalize hq3:C' _ i3 _=X3;replace a3:=(congrFun hq3 i3).symm.trans af;replace a1:=((congrFun hq3 i1).symm.trans (ae n13)).trans a1;replace hs:=Eq.subst (motive:=aa _) hq3 (hs.av z3);clear hq3;refine ab.au rfl rfl rfl (DU l hl hb a (by omega) _) ?_;have hpr:=gl l a;have hsd:AP l (a:Int)=if 0<=eM l a then YG l (eM l a)else Aq:=by simp[AP]
 rw[hsd];by_cases hp:0<=eM l a
 .have q0:(eM l a>=0)=True:=WE hp;obtain⟨b,hbe⟩:∃b:Nat,eM l a=b:=⟨(eM l a).toNat,by omega⟩
  rw[aq hp];rw[hbe]at q0 hpr|-;have XU:b<l.length:=by omega
  have YK:=λU=>cA (U:=U) (l:=l) (a:=b) XU;rw[jU XU];apply sR;simp only[go_sem,seval,a1,a3,q0,YK,Nd.cells,ae n13];generalize Ys:C' X3 i3 _=Y4;have b3:Y4 i3=some ⟨56,12,[kU l[b].st]⟩:=by rw[<-Ys];exact af
  replace hs:aa U Y4:=by rw[<-Ys];exact hs.av z3
  clear Ys;generalize l[b].st=st at*;rw[kU]at b3;refine ab.au rfl rfl rfl (hlc ⟨E,B,C,a⟩ _) ?_;generalize qu of (a:Int) k=L at*;obtain⟨L1,L2⟩:=L;simp only;by_cases h1:(L1:Int)<st.Xj
  .have q1:((L1:Int)<st.Xj)=True:=WE h1;apply sR;simp only[go_sem,seval,b3,q1];exact ak.pure hs (by simp)
  .have q1:((L1:Int)<st.Xj)=False:=O' h1;by_cases h2:(L2:Int)<st.Xt
   .have q2:((L2:Int)<st.Xt)=True:=WE h2;apply sR;simp only[go_sem,seval,b3,q1,q2];exact ak.pure hs (by simp)
   .have q2:((L2:Int)<st.Xt)=False:=O' h2;apply sR;simp only[go_sem,seval,b3,q1,q2];exact ak.pure hs (by simp)
 .have q0:(eM l a>=0)=False:=O' hp;rw[ao hp];apply sR;simp only[go_sem,seval,a1,q0];have b3:X3 i3=some ⟨56,12,[kU Aq]⟩:=a3;generalize Aq=st at*;rw[kU]at b3;refine ab.au rfl rfl rfl (hlc ⟨E,B,C,a⟩ _) ?_;generalize qu of (a:Int) k=L at*;obtain⟨L1,L2⟩:=L;simp only;by_cases h1:(L1:Int)<st.Xj
  .have q1:((L1:Int)<st.Xj)=True:=WE h1;apply sR;simp only[go_sem,seval,b3,q1];exact ak.pure hs (by simp)
  .have q1:((L1:Int)<st.Xj)=False:=O' h1;by_cases h2:(L2:Int)<st.Xt
   .have q2:((L2:Int)<st.Xt)=True:=WE h2;apply sR;simp only[go_sem,seval,b3,q1,q2];exact ak.pure hs (by simp)
   .have q2:((L2:Int)<st.Xt)=False:=O' h2;apply sR;simp only[go_sem,seval,b3,q1,q2];exact ak.pure hs (by simp)
open Go.Proofs Go.Proofs.Tryz
def FU(l:List Nd)(x:Kn):Bool:=x.both.any λb=>decide ((YG l b).inside=1)
def Ez(l:List Nd)(of:List Int)(k:Nat)(x:Kn){U:ag}{i1:Nat}(h:U i1=some ⟨323,7,[jz l of k x]⟩)(n:Nat)(hn:n<l.length):
 ax prog 279 [vI n,.ptr i1 0 0] U λr Z'=>r=.bool (decide ((YG l n).inside=1))/\Z'=U:=by
 refine VW.r (by simp[Lh]) ?_;refine ab.mix 4 ?_;have YK:=λU=>cA (U:=U) (l:=l) (a:=n) hn;rw[jU hn];rw[jz]at h;by_cases hi:l[n].st.inside=1
 .have q:(l[n].st.inside=1)=True:=WE hi;apply sR;simp only[go_sem,seval,Lh,h,YK,Nd.cells,q];exact ak.same (by simp)
 .have q:(l[n].st.inside=1)=False:=O' hi;apply sR;simp only[go_sem,seval,Lh,h,YK,Nd.cells,q];exact ak.same (by simp)
def Gw(l:List Nd)(of:List Int)(k:Nat)(x:Kn)(hx:∀b∈x.both,∃n:Nat,b=n/\n<l.length)(hlen:x.both.length<=1000000):
 aK prog 232 [jz l of k x] (.bool (FU l x)):=λU=>by
 refine Ve.r (by simp[Ov]) ?_;have hs:=aa.refl U;refine ab.mix 3 ?_;apply sR;simp only[go_sem,seval,Ov,jz];refine ad λi1 Z1 s1 a1 f1=>?_;replace hs:=hs.trans s1;simp only[go_sem,seval,a1];refine ab.au rfl rfl rfl (oO (p:=λb=>decide ((YG l b).inside=1)) Reads.ints (by omega) (λb hb=>by
  obtain⟨n,rfl,hn⟩:=hx b hb;exact Ez l of k x a1 n hn)) ?_
 apply sR;simp only[go_sem,seval];exact ak.pure hs rfl
def Ep(l:List Nd)(hl:cT l)(hb:Xw l=true)(of:List Int)(Zz:of.length<=1000000)(Ya:∀x∈of,0<=x/\x<l.length)(hm:te l of=true)(k:Nat)(hk:k<=of.length)(x:Kn):
 aK prog 233 [jz l of k x] (.bool (decide (1∈jI l of k))):=λU=>by
 refine U8.r (by simp[PB]) ?_;have hs:=aa.refl U;have hn:l.length<=100000:=by have:=hl.1;omega
 refine ab.mix 5 ?_;apply sR;simp only[go_sem,seval,PB,jz];refine ad λi1 Z1 s1 a1 f1=>?_;replace hs:=hs.trans s1;simp only[go_sem,seval,a1];refine ab.au rfl rfl rfl (FH l hl hb of Zz Ya hm k hk _) ?_;apply sR;simp only[go_sem,seval];refine ab.au rfl rfl rfl (C9 _ (by have:=xd hn of k;omega) 1 _) ?_;apply sR;simp only[go_sem,seval];exact ak.pure hs rfl
open Go.Proofs Go.Proofs.Tryz
def Ig(s:Int)(j:Nat)(b:Bool):Int:=if b then s+2^j else s
def lv(l:List Nd)(of:List Int)(k:Nat):Nat->Bool
 |0=>Pf l of (eC l of k).text k
 |1=>FU l (eC l of k)
 |_=>decide (1∈jI l of k)
def dx(l:List Nd)(of:List Int)(k:Nat):Nat->Int
 |0=>0
 |j+1=>Ig (dx l of k j) j (lv l of k j)
def sF(l:List Nd)(of:List Int)(k:Nat):Int:=if k=0\/k=of.length then 0 else dx l of k 3
def IV{l:List Nd}{of:List Int}(Ya:∀x∈of,0<=x/\x<l.length)(k:Nat):(eC l of k).text<l.length:=by
 rw[eC];simp only;split
 .rename_i h;have hgd:of.getD k 0=of[k]'h.2.1:=by simp[h.2.1]
  rw[hgd];exact(Ya _ (XI h.2.1)).2
 .omega
def Tc(l:List Nd)(hl:cT l)(hb:Xw l=true)(of:List Int)(Zz:of.length<=1000000)(Ya:∀x∈of,0<=x/\x<l.length)(hm:te l of=true)(k:Nat)(hk:k<=of.length):
 aK prog 171 [aC l,bb of,vI k] (.WJ [vI (sF l of k),vI 0]):=λU=>by
 refine Ts.r (by simp[Po]) ?_;have hs:=aa.refl U;have hlo:=fL of;have hn:l.length<=100000:=by have:=hl.1;omega
 have hb1:∀(f:FuncId) (a:List V),(V.bm f a).cells=[.bm f a]:=λ_ _=>rfl;have XW:∀f:FuncId,(V.bm f [.agg [bb (eC l of k).ends,bb (eC l of k).Zq,bb (eC l of k).both,vI (eC l of k).text,aC l,bb of,vI k]]).stays=true:=λ_=>rfl;have hnf:V.Xu.cells=[.Xu]:=rfl;refine ab.mix 15 ?_;apply sR;simp only[go_sem,seval,Po];refine ab.au rfl rfl rfl (Pd l hl hb of Zz Ya hm k hk _) ?_;have XP:(jz l of k (eC l of k)).stays=true:=rfl;apply sR;simp only[go_sem,seval,jz];refine ad λi8 Z8 s8 a8 f8=>?_;have z8:=hs.none f8;replace hs:=hs.trans s8;have q0:((0:Int)≠0)=False:=O' (λh=>h rfl);unfold sF;by_cases hk0:k=0
 .subst hk0;have q1:(((0:Nat):Int)=0)=True:=WE rfl;simp only[go_sem,seval,a8,q0];exact ak.pure (hs.av z8) (by simp)
 have q1:((k:Int)=0)=False:=O';by_cases Zv:k=of.length
 .have q2:((k:Int)=of.length)=True:=WE;simp only[go_sem,seval,a8,q0,q1,q2,hlo];exact ak.pure (hs.av z8) (by simp[Zv])
 have q2:((k:Int)=of.length)=False:=O';rw[ao (by omega)];simp only[go_sem,seval,a8,q0,q1,q2,hlo,hb1,XW];generalize Yf:C' _ i8 _=Y8;replace a8:=(congrFun Yf i8).symm.trans af;replace hs:=Eq.subst (motive:=aa _) Yf (hs.av z8);clear Yf;refine ad λXk Z10 YP Xy f10=>?_;have n810:=al a8 f10;replace a8:=YP _ _ a8;have z10:=hs.none f10;replace hs:=hs.trans YP;simp only[go_sem,seval,Xy];generalize YB:C' _ Xk _=Y10;replace Xy:=(congrFun YB Xk).symm.trans af;replace a8:=((congrFun YB i8).symm.trans (ae n810)).trans a8;replace hs:=Eq.subst (motive:=aa _) YB (hs.av z10);clear YB;have ht:=IV Ya (l:=l) k;have c0:aK prog 231 [jz l of k (eC l of k)] (.bool (lv l of k 0)):=RF l hl hb of Zz k (eC l of k) ht;have c1:aK prog 232 [jz l of k (eC l of k)] (.bool (lv l of k 1)):=Gw l of k (eC l of k) (Aj Ya) (jx (qY hn) (by omega));have c2:aK prog 233 [jz l of k (eC l of k)] (.bool (lv l of k 2)):=Ep l hl hb of Zz Ya hm k hk (eC l of k);rw[jz]at c0 c1 c2;generalize hpv:V.agg [bb (eC l of k).ends,bb (eC l of k).Zq,bb (eC l of k).both,vI (eC l of k).text,aC l,bb of,vI k]=pv at*;refine ab.eG (λst=>aa U st.U/\st.s 11=vI (dx l of k 3))
  (λm st=>∃j:Nat,j<=3/\m=3-j/\aa U st.U/\st.s 11=vI (dx l of k j)/\st.s 41=.agg [.bm 231 [pv],.bm 232 [pv],.bm 233 [pv]]/\st.s 42=vI j) 3 ?_ ?_ ?_
 .exact⟨0,by omega,rfl,hs,rfl,rfl,rfl⟩
 .clear hs a8 Xy;rintro m ⟨S,J⟩ ⟨j,hj,rfl,hs,t11,t41,t42⟩;simp only at hs t11 t41 t42;refine ab.mix 15 ?_;rcases(by omega:j=0\/j=1\/j=2\/j=3)with rfl|rfl|rfl|rfl
  .have u42:S 42=vI 0:=t42;have hp:dx l of k 0=0:=rfl;have u11:S 11=vI 0:=by rw[t11,hp]
   apply sR;simp only[go_sem,seval,t41,u42];refine ab.mj rfl rfl rfl (c0 _) ?_;rintro r Z' ⟨rfl,rfl⟩;cases hv:lv l of k 0
   .apply sR;simp only[go_sem,seval,u11,t41,u42];refine⟨ai,_,?_,1,by omega,rfl,hs,by rw[dx,hp,hv];rfl,rfl⟩;omega
   .apply sR;simp only[go_sem,seval,u11,t41,u42];refine⟨ai,_,?_,1,by omega,rfl,hs,by rw[dx,hp,hv];rfl,rfl⟩;omega
  .have u42:S 42=vI 1:=t42;have hp:dx l of k 1=0\/dx l of k 1=1:=by rw[dx,dx,Ig];split<;>simp
   rcases hp with hp|hp
   .have:=hp;have u11:S 11=vI 0:=by rw[t11,hp]
    apply sR;simp only[go_sem,seval,t41,u42];refine ab.mj rfl rfl rfl (c1 _) ?_;rintro r Z' ⟨rfl,rfl⟩;cases hv:lv l of k 1
    .apply sR;simp only[go_sem,seval,u11,t41,u42];refine⟨ai,_,?_,2,by omega,rfl,hs,by rw[dx,hp,hv];rfl,rfl⟩;omega
    .apply sR;simp only[go_sem,seval,u11,t41,u42];refine⟨ai,_,?_,2,by omega,rfl,hs,by rw[dx,hp,hv];rfl,rfl⟩;omega
   .have:=hp;have u11:S 11=vI 1:=by rw[t11,hp]
    apply sR;simp only[go_sem,seval,t41,u42];refine ab.mj rfl rfl rfl (c1 _) ?_;rintro r Z' ⟨rfl,rfl⟩;cases hv:lv l of k 1
    .apply sR;simp only[go_sem,seval,u11,t41,u42];refine⟨ai,_,?_,2,by omega,rfl,hs,by rw[dx,hp,hv];rfl,rfl⟩;omega
    .apply sR;simp only[go_sem,seval,u11,t41,u42];refine⟨ai,_,?_,2,by omega,rfl,hs,by rw[dx,hp,hv];rfl,rfl⟩;omega
  .have u42:S 42=vI 2:=t42;have hp:dx l of k 2=0\/dx l of k 2=1\/dx l of k 2=2\/dx l of k 2=3:=by rw[dx,dx,dx,Ig,Ig];split<;>split<;>simp
   rcases hp with hp|hp|hp|hp
   .have:=hp;have u11:S 11=vI 0:=by rw[t11,hp]
    apply sR;simp only[go_sem,seval,t41,u42];refine ab.mj rfl rfl rfl (c2 _) ?_;rintro r Z' ⟨rfl,rfl⟩;cases hv:lv l of k 2
    .apply sR;simp only[go_sem,seval,u11,t41,u42];refine⟨ai,_,?_,3,by omega,rfl,hs,by rw[dx,hp,hv];rfl,rfl⟩;omega
    .apply sR;simp only[go_sem,seval,u11,t41,u42];refine⟨ai,_,?_,3,by omega,rfl,hs,by rw[dx,hp,hv];rfl,rfl⟩;omega
   .have:=hp;have u11:S 11=vI 1:=by rw[t11,hp]
    apply sR;simp only[go_sem,seval,t41,u42];refine ab.mj rfl rfl rfl (c2 _) ?_;rintro r Z' ⟨rfl,rfl⟩;cases hv:lv l of k 2
    .apply sR;simp only[go_sem,seval,u11,t41,u42];refine⟨ai,_,?_,3,by omega,rfl,hs,by rw[dx,hp,hv];rfl,rfl⟩;omega
    .apply sR;simp only[go_sem,seval,u11,t41,u42];refine⟨ai,_,?_,3,by omega,rfl,hs,by rw[dx,hp,hv];rfl,rfl⟩;omega
   .have:=hp;have u11:S 11=vI 2:=by rw[t11,hp]
    apply sR;simp only[go_sem,seval,t41,u42];refine ab.mj rfl rfl rfl (c2 _) ?_;rintro r Z' ⟨rfl,rfl⟩;cases hv:lv l of k 2
    .apply sR;simp only[go_sem,seval,u11,t41,u42];refine⟨ai,_,?_,3,by omega,rfl,hs,by rw[dx,hp,hv];rfl,rfl⟩;omega
    .apply sR;simp only[go_sem,seval,u11,t41,u42];refine⟨ai,_,?_,3,by omega,rfl,hs,by rw[dx,hp,hv];rfl,rfl⟩;omega
   .have:=hp;have u11:S 11=vI 3:=by rw[t11,hp]
    apply sR;simp only[go_sem,seval,t41,u42];refine ab.mj rfl rfl rfl (c2 _) ?_;rintro r Z' ⟨rfl,rfl⟩;cases hv:lv l of k 2
    .apply sR;simp only[go_sem,seval,u11,t41,u42];refine⟨ai,_,?_,3,by omega,rfl,hs,by rw[dx,hp,hv];rfl,rfl⟩;omega
    .apply sR;simp only[go_sem,seval,u11,t41,u42];refine⟨ai,_,?_,3,by omega,rfl,hs,by rw[dx,hp,hv];rfl,rfl⟩;omega
  .have u42:S 42=vI 3:=t42;apply sR;simp only[go_sem,seval,t11,u42];exact hs
 .rintro⟨S,J⟩ ⟨hs,t11⟩;simp only at hs t11;refine ab.mix 15 ?_;apply sR;simp only[go_sem,seval,t11];exact ak.pure hs rfl
open Go.Proofs Go.Proofs.Tryz
def A6(l:List Nd)(of:List Int):List Int:=(List.range (of.length+1)).map (sF l of)
def Pg(l:List Nd)(hl:cT l)(hb:Xw l=true)(of:List Int)(Zz:of.length<=1000000)(Ya:∀x∈of,0<=x/\x<l.length)(hm:te l of=true):
 aK prog 111 [aC l,bb of] (.WJ [bb (A6 l of),vI 0]):=λU=>by
 refine Wj.r (by simp[Qa]) ?_;have hs:=aa.refl U;have hlo:=fL of;refine ab.mix 11 ?_;apply sR;simp only[go_sem,seval,Qa];refine ab.au rfl rfl rfl (rq l hl hb of Zz hm _) ?_;have q0:((0:Int)≠0)=False:=O' (λh=>h rfl);have r0:WR .i64 ((of.length:Int)+1):=ai;apply sR;simp only[go_sem,seval,q0,hlo,r0];refine ab.eG (λst=>aa U st.U/\aM U st.U 3 1 (st.s 7) ((A6 l of).map vI))
  (λm st=>∃j:Nat,j<=of.length+1/\m=of.length+1-j/\aa U st.U/\aM U st.U 3 1 (st.s 7) (((List.range j).map (sF l of)).map vI)/\st.s 0=aC l/\st.s 1=bb of/\st.s 19=vI ((of.length:Int)+1)/\st.s 20=vI j) (of.length+1) ?_ ?_ ?_
 .exact⟨0,by omega,rfl,hs,aM.start,rfl,rfl,rfl,rfl⟩
 .clear hs;rintro m ⟨S,J⟩ ⟨j,hj,rfl,hs,ho,t0,t1,t19,t20⟩;simp only at hs ho t0 t1 t19 t20;generalize hv7:S 7=v7 at ho;refine ab.mix 11 ?_;by_cases H':j<of.length+1
  .have q:((j:Int)<of.length+1)=True:=WE;have r1:WR .i64 ((j:Int)+1):=ai;have Xo:(((List.range (j+1)).map (sF l of)).map vI)=(((List.range j).map (sF l of)).map vI)++[vI (sF l of j)]:=by
    rw[List.range_succ];simp
   have hlm:(((List.range j).map (sF l of)).map vI).length=j:=by simp
   apply sR;simp only[go_sem,seval,t0,t1,t19,t20,q];refine ab.au rfl rfl rfl (Tc l hl hb of Zz Ya hm j (by omega) _) ?_;generalize ((List.range j).map (sF l of)).map vI=rows at*;apply sR;simp only[go_sem,seval,hv7];refine ad λi32 Z32 s32 a32 f32=>?_;obtain⟨WW,Yj,X7,hd1,hd2⟩:=ho.Ey s32;have XW:(rows.length+1)*9<=140737488355328:=by omega
   simp only[go_sem,seval,Yj,du a32,XW];refine eF λi33 Z33 s33 a33 f33=>?_;have k33:=(X7 U (aa.refl _) Z32 (hs.trans s32)).trans s33;have n33:U i33=none:=(hs.trans s32).none f33;simp only[go_sem,seval,t0,t1,t19,t20,r1];refine⟨_,?_,j+1,by omega,rfl,k33,?_,by simp⟩
   .omega
   .rw[Xo];exact aM.new (by simp) a33 n33
  .have q:((j:Int)<of.length+1)=False:=O';have Yq:j=of.length+1:=by omega
   subst Yq;apply sR;simp only[go_sem,seval,t19,t20,q];exact⟨hs,hv7▸ho⟩
 .rintro⟨S,J⟩ ⟨hs,ho⟩;simp only at hs ho;generalize hv7:S 7=v7 at ho;refine ab.mix 11 ?_;apply sR;simp only[go_sem,seval,hv7];exact⟨_,U,hs,Wk.WJ (vs':=[bb (A6 l of),vI 0]) ⟨ho.wk (aa.refl _) hs,Wk.refl hs _,trivial⟩,rfl,rfl⟩
open Go.Proofs Go.Proofs.Tryz
structure YJ where
 (cls forced XD:Int)
deriving DecidableEq
def dt(x:YJ):V:=.agg [vI x.cls,vI x.forced,vI x.XD]
def bh(l:List YJ):V:=.sl 3 (l.map dt)
def iN(l:List YJ):(bh l).cells=[bh l]:=rfl
def iU(l:List YJ):(bh l).stays=true:=rfl
def Dv(l:List YJ):cP false (bh l)=some (.int .i64 l.length):=by simp[bh,cP]
def qI{U:ag}{l:List YJ}{i:Nat}(h:i<l.length):bp U 3 (bh l) (.int .i64 i)=some (.rp (dt l[i])):=by simp[bh,bp,h,dt]
def sK(of:List Int)(k:Nat):Int:=if k=0 then 0 else if k=of.length then 3 else if of.getD k 0=of.getD (k-1) 0 then 2 else 1
def Mh(of:List Int)(Zz:of.length<=1000000)(k:Nat)(hk:k<=of.length):aK prog 112 [bb of,vI k] (vI (sK of k)):=λU=>by
 refine VU.r (by simp[GM]) ?_;have hlo:=fL of;refine ab.mix 6 ?_;unfold sK;rcases Nat.eq_zero_or_pos k with rfl|h0
 .have q1:(((0:Nat):Int)=0)=True:=WE rfl;apply sR;simp only[go_sem,seval,GM];exact ak.same rfl
 have q1:((k:Int)=0)=False:=O';rw[ao (by omega)];by_cases Zv:k=of.length
 .have q2:((k:Int)=of.length)=True:=WE;rw[aq Zv];apply sR;simp only[go_sem,seval,GM,q1,q2,hlo];exact ak.same rfl
 have q2:((k:Int)=of.length)=False:=O';rw[ao Zv];have h1:k<of.length:=by omega
 have q5:=ai (m:=((k-1:Nat):Int)) (by omega) (by omega);have q6:((k:Int)-1)=((k-1:Nat):Int):=by omega
 have q7:=λU=>iq (U:=U) h1;have q8:=λU=>iq (U:=U) (l:=of) (i:=k-1) (by omega);have g1:of.getD k 0=of[k]:=by simp[h1]
 have g2:of.getD (k-1) 0=of[k-1]:=by
  have:k-1<of.length:=by omega
  simp[this]
 rw[g1,g2];by_cases h2:of[k]=of[k-1]
 .have q9:(of[k]=of[k-1])=True:=WE h2;rw[aq h2];apply sR;simp only[go_sem,seval,GM,q1,q2,hlo,q5,q6,q7,q8,q9];exact ak.same rfl
 .have q9:(of[k]=of[k-1])=False:=O' h2;rw[ao h2];apply sR;simp only[go_sem,seval,GM,q1,q2,hlo,q5,q6,q7,q8,q9];exact ak.same rfl
open Go.Proofs Go.Proofs.Tryz
def bkR(l:List Nd)(of:List Int)(k:Nat):YJ:=⟨sK of k,jJ l of k,if jJ l of k=0 then sF l of k else 0⟩
def rf(l:List Nd)(of:List Int):List YJ:=(List.range (of.length+1)).map (bkR l of)
def NB{U:ag}{f:Nat->Int}{n j:Nat}(h:j<n):bp U 1 (bb ((List.range n).map f)) (.int .i64 j)=some (.rp (vI (f j))):=by
 rw[iq (by simpa using h)];simp
def PW(l:List Nd)(hl:cT l)(hb:Xw l=true)(of:List Int)(Zz:of.length<=1000000)(Ya:∀x∈of,0<=x/\x<l.length)(hm:te l of=true):
 aK prog 52 [aC l,bb of] (.WJ [bh (rf l of),vI 0]):=λU=>by
 refine e52.r (by simp[c52]) ?_;have hs:=aa.refl U;have hlo:=fL of;refine ab.mix 14 ?_;apply sR;simp only[go_sem,seval,c52];refine ab.au rfl rfl rfl (rq l hl hb of Zz hm _) ?_;have q0:((0:Int)≠0)=False:=O' (λh=>h rfl);have r0:WR .i64 ((of.length:Int)+1):=ai;apply sR;simp only[go_sem,seval,q0];refine ab.au rfl rfl rfl (N6 l hl hb of Zz Ya hm _) ?_;apply sR;simp only[go_sem,seval];refine ab.au rfl rfl rfl (Pg l hl hb of Zz Ya hm _) ?_;apply sR;simp only[go_sem,seval,hlo,r0];refine ab.eG (λst=>aa U st.U/\aM U st.U 168 3 (st.s 11) ((rf l of).map dt))
  (λm st=>∃j:Nat,j<=of.length+1/\m=of.length+1-j/\aa U st.U/\aM U st.U 168 3 (st.s 11) (((List.range j).map (bkR l of)).map dt)/\st.s 0=aC l/\st.s 1=bb of/\st.s 7=bb (Cc l of)/\st.s 9=bb (A6 l of)/\st.s 34=vI ((of.length:Int)+1)/\st.s 35=vI j) (of.length+1) ?_ ?_ ?_
 .exact⟨0,by omega,rfl,hs,aM.start,rfl,rfl,rfl,rfl,rfl,rfl⟩
 .clear hs;rintro m ⟨S,J⟩ ⟨j,hj,rfl,hs,ho,t0,t1,t7,t9,t34,t35⟩;simp only at hs ho t0 t1 t7 t9 t34 t35;generalize hv11:S 11=v11 at ho;refine ab.mix 14 ?_;by_cases H':j<of.length+1
  .have q:((j:Int)<of.length+1)=True:=WE;have r1:WR .i64 ((j:Int)+1):=ai;have Xo:(((List.range (j+1)).map (bkR l of)).map dt)=(((List.range j).map (bkR l of)).map dt)++[dt (bkR l of j)]:=by
    rw[List.range_succ];simp
   have hlm:(((List.range j).map (bkR l of)).map dt).length=j:=by simp
   have hi7:∀U,bp U 1 (bb (Cc l of)) (.int .i64 j)=some (.rp (vI (jJ l of j))):=λU=>NB H';have hi9:∀U,bp U 1 (bb (A6 l of)) (.int .i64 j)=some (.rp (vI (sF l of j))):=λU=>NB H';apply sR;simp only[go_sem,seval,t1,t34,t35,q];refine Go.bw rfl rfl rfl (Mh of Zz j (by omega)) ?_;apply sG;simp only[go_sem,seval,t7,hi7];refine aS λi13 Y13 s13 Yr f13=>?_;by_cases hz:jJ l of j=0
   .have q2:(jJ l of j=0)=True:=WE hz;have hbk:dt (bkR l of j)=.agg [vI (sK of j),vI (jJ l of j),vI (sF l of j)]:=by rw[bkR,aq hz];rfl
    simp only[go_sem,seval,Yr,t7,t9,hv11,hi7,hi9,q2];generalize ZY:C' _ i13 _=Z13;have s13':aa J Z13:=by rw[<-ZY];exact s13.av f13
    clear ZY;refine ad λi58 Z58 s58 a58 f58=>?_;obtain⟨WW,Yj,X7,hd1,hd2⟩:=ho.Ey (s13'.trans s58);generalize ((List.range j).map (bkR l of)).map dt=rows at*;have XW:(rows.length+1)*25<=140737488355328:=by omega
    simp only[go_sem,seval,Yj,du a58,XW];refine eF λi59 Z59 s59 a59 f59=>?_;have k59:=(X7 U (aa.refl _) Z58 (hs.trans (s13'.trans s58))).trans s59;have n59:U i59=none:=(hs.trans (s13'.trans s58)).none f59;simp only[go_sem,seval,t0,t1,t7,t9,t34,t35,r1];refine⟨_,?_,j+1,by omega,rfl,k59,?_,by simp⟩
    .omega
    .rw[Xo,hbk];exact aM.new (by simp) a59 n59
   .have q2:(jJ l of j=0)=False:=O' hz;have hbk:dt (bkR l of j)=.agg [vI (sK of j),vI (jJ l of j),vI 0]:=by rw[bkR,ao hz];rfl
    simp only[go_sem,seval,Yr,t7,hv11,hi7,q2];generalize ZY:C' _ i13 _=Z13;have s13':aa J Z13:=by rw[<-ZY];exact s13.av f13
    clear ZY;refine ad λi58 Z58 s58 a58 f58=>?_;obtain⟨WW,Yj,X7,hd1,hd2⟩:=ho.Ey (s13'.trans s58);generalize ((List.range j).map (bkR l of)).map dt=rows at*;have XW:(rows.length+1)*25<=140737488355328:=by omega
    simp only[go_sem,seval,Yj,du a58,XW];refine eF λi59 Z59 s59 a59 f59=>?_;have k59:=(X7 U (aa.refl _) Z58 (hs.trans (s13'.trans s58))).trans s59;have n59:U i59=none:=(hs.trans (s13'.trans s58)).none f59;simp only[go_sem,seval,t0,t1,t7,t9,t34,t35,r1];refine⟨_,?_,j+1,by omega,rfl,k59,?_,by simp⟩
    .omega
    .rw[Xo,hbk];exact aM.new (by simp) a59 n59
  .have q:((j:Int)<of.length+1)=False:=O';have Yq:j=of.length+1:=by omega
   subst Yq;apply sR;simp only[go_sem,seval,t34,t35,q];exact⟨hs,hv11▸ho⟩
 .rintro⟨S,J⟩ ⟨hs,ho⟩;simp only at hs ho;generalize hv11:S 11=v11 at ho;refine ab.mix 14 ?_;apply sR;simp only[go_sem,seval,hv11];exact⟨_,U,hs,Wk.WJ (vs':=[bh (rf l of),vI 0]) ⟨ho.wk (aa.refl _) hs,Wk.refl hs _,trivial⟩,rfl,rfl⟩
end Go.Vc
