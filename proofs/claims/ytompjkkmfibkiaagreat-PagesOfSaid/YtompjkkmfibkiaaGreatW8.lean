import Derived.Test.YtompjkkmfibkiaaGreatW7
set_option linter.all false
set_option maxHeartbeats 8000000
set_option maxRecDepth 100000
open Go.Proofs.Tryz
namespace Go.Vc
open Go.Proofs
def ups(l:List Nd):Nat->Int->List Int
 |0,_=>[]
 |f+1,p=>if 0<=p then p::ups l f (db l p.toNat)else[]
def y9{l:List Nd}{f:Nat}{p:Int}(h:p<0):ups l f p=[]:=by
 cases f with
 |zero=>rfl
 |succ f=>rw[ups,au (by omega)]
def uk{l:List Nd}{f:Nat}{p:Int}(h:0<=p)(hf:p<f):∃g,f=g+1/\ups l f p=p::ups l g (db l p.toNat):=by
 cases f with
 |zero=>omega
 |succ f=>exact⟨f,rfl,by rw[ups,ak h]⟩
def dU(l:List Nd)(a:Nat):-1<=db l a/\db l a<a:=wX l a a
def ldN(U:ad)(l:List Nd):bO U false 1 (.rp (ay l))=some (ay l):=rfl
def fdN(l:List Nd):jg false 0 1 (.rp (.agg [ay l]))=some (.rp (ay l)):=rfl
def oO(l:List Int):List (List V):=l.map λp=>[vI p]
def vN(l:List Nd)(hl:dz l)(hb:Xh l=true)(a:Nat)(ha:a<l.length):Iter prog 225 [.rp (.agg [ay l]),.rp (vI a)] (oO (ups l (l.length+1) (db l a))):=by
 have hhas:mL l (a:Int)=true:=jS.2 ⟨by omega,by omega⟩;have hpr:=dU l a;refine⟨PN.c,λXk τ Jx Z0 hy hJ=>?_⟩;refine(PN.q ?_).2;refine mS 5 ?_;simp only[BB,seval,aZ,eD,aD,fW,Yi.nothing,Qh,ldN,fdN];refine pR rfl (Nz l a _) ?_;rw[hhas];apply sR;simp only[BB,seval,aZ,eD,aD,fW,Yi.nothing,ldN,fdN];refine pS rfl (yc l hl hb a ha _) ?_;simp only[go_sem,seval];refine ag.loop (λm st=>∃(pre:List Int) (q:Int) (f:Nat) (ZJ:ad),m=(q+1).toNat/\-1<=q/\q<l.length/\q<f/\ups l (l.length+1) (db l a)=pre++ups l f q/\τ (oO pre) ZJ/\aa ZJ st.U/\
  st.s 0=.yl Xk/\st.s 1=.rp (.agg [ay l])/\st.s 4=vI q) (db l a+1).toNat ?_ ?_
 .exact⟨[],db l a,l.length+1,Z0,rfl,by omega,by omega,by omega,rfl,hJ,aa.refl _,rfl,rfl,rfl⟩
 .rintro m ⟨s,Z'⟩ ⟨pre,q,f,ZJ,rfl,hq1,hq2,hqf,ZL,hJp,E',h0,h1,h4⟩;simp only at E' h0 h1 h4;refine ag.mix 5 ?_;by_cases hq:0<=q
  .obtain⟨g,rfl,hu⟩:=uk (l:=l) hq hqf;obtain⟨k,rfl⟩:∃k:Nat,q=k:=⟨q.toNat,by omega⟩
   have ZO:((k:Int)>=0)=True:=by simp
   rw[eU]at hu;have hpk:=dU l k;have Zb:k<l.length:=by omega
   have e:oO (ups l (l.length+1) (db l a))=oO pre++[vI k]::oO (ups l g (db l k)):=by rw[ZL,hu];simp[oO]
   apply sR;simp only[go_sem,seval,h0,h4,ZO];refine ag.ny (Post:=λb Z2=>∃Xj,bb ZJ Z' Xj Z2/\((b=true/\τ (oO pre++[[vI k]]) Xj)\/(b=false/\Jx (oO pre++[[vI k]]) Xj))) rfl rfl rfl (hy _ [vI k] _ ZJ Z' e hJp E') ?_;rintro b Z2 ⟨Xj,Ys,XT⟩;rcases XT with⟨rfl,XT⟩|⟨rfl,XT⟩
   .apply sR;simp only[BB,seval,aZ,eD,aD,Yi.nothing,h1,h4,ldN,fdN];refine pS rfl (yc l hl hb k Zb _) ?_;simp only[go_sem,seval,h0,h1];refine⟨_,?_,pre++[(k:Int)],db l k,g,Xj,rfl,by omega,by omega,by omega,by rw[ZL,hu];simp,?_,Ys.1,by simp⟩
    .omega
    .simpa[oO]using XT
   .apply sR;simp only[go_sem,seval];refine⟨_,Xj,Ys.1,Wk.refl Ys.1 _,.inr ⟨oO pre++[[vI k]],?_,XT⟩⟩;rw[e];exact⟨oO (ups l g (db l k)),by simp⟩
  .have ZO:(q>=0)=False:=by simp;omega
   apply sR;simp only[go_sem,seval,h4,ZO];rw[y9 (l:=l) (f:=f) (p:=q) (by omega),iN]at ZL;exact⟨_,ZJ,E',Wk.refl E' _,.inl (by rw[ZL];exact hJp)⟩
def CF(l:List Nd)(a:Int):aE prog 173 [.agg [ay l],vI a] (.fn 225 [.rp (.agg [ay l]),.rp (vI a)]):=λU=>by
 refine UW.q ?_;refine ag.mix 4 ?_;have q1:(V.agg [ay l]).cells.length=1:=rfl;have q2:(V.agg [ay l]).stays=true:=rfl;generalize V.agg [ay l]=x at*;apply sR;simp only[go_sem,seval,OS,q1,q2];refine aj λid1 Z1 s1 a1 f1=>?_;simp only[go_sem,seval];refine aj λid2 Z2 s2 a2 f2=>?_;simp only[go_sem,seval];exact⟨_,U,s1.trans s2,Wk.fn (vs':=[.rp x,.rp (vI a)]) ⟨Wk.ptr (s1.trans s2) (s2 _ _ a1) f1,Wk.ptr (s1.trans s2) a2 (s1.none f2),trivial⟩,rfl,rfl⟩
def DC(l:List Nd)(hl:dz l)(hb:Xh l=true)(a:Nat)(ha:a<l.length):aE prog 242 [ay l,vI a] (vI (db l a)):=λU=>by
 refine VO.q ?_;refine ag.mix 5 ?_;have hit:=vN l hl hb a ha;have hpr:=dU l a;apply sR;simp only[go_sem,seval,Sf];refine aj λid4 Z1 s1 a4 f4=>?_;simp only[go_sem,seval];refine pS rfl (CY l hl hb _) ?_;simp only[go_sem,seval];refine pS rfl (CF l a _) ?_;simp only[go_sem,seval];generalize hS:mix 5 _ _=S;have S4:S 4=.ptr id4 0 0:=by rw[<-hS];rfl
 have S9:S 9=.fn 225 [.rp (.agg [ay l]),.rp (vI a)]:=by rw[<-hS];rfl
 clear hS;have hx0:∀x pre post,oO (ups l (l.length+1) (db l a))=pre++x::post->pre=[]->x=[vI (db l a)]:=λx pre post h hp=>by
  subst hp;by_cases h0:0<=db l a
  .obtain⟨g,_,hu⟩:=uk (l:=l) (f:=l.length+1) h0 (by omega);rw[hu]at h;simp only[oO,eV,jE,List.cons.injEq]at h;exact h.1.symm
  .rw[y9 (by omega)]at h;simp[oO]at h
 refine ag.eN (g:=.t 9) (caps:=[.rp (.agg [ay l]),.rp (vI a)]) S9 hit (λx hx=>?_) [] (λpre ZJ=>pre=[]/\ZJ=Z1) (λc pre ZJ=>c=none/\ZJ=C' Z1 id4 ⟨3,1,[vI (db l a)]⟩) ?_ ?_ ?_ ?_ ?_
 .simp only[oO,gb]at hx;obtain⟨t,_,rfl⟩:=hx;rfl
 .exact⟨rfl,rfl⟩
 .rintro pre x post ZJ ZB ZL ⟨rfl,rfl⟩ E';obtain rfl:=hx0 x [] post ZL rfl;have b4:=E' _ _ a4;generalize Zg:nh S [10] [vI (db l a)]=S0;have T4:S0 4=.ptr id4 0 0:=by rw[<-Zg];exact S4
  have T10:S0 10=vI (db l a):=by rw[<-Zg];rfl
  clear Zg;refine mS 11 ?_;simp only[go_sem,seval,T10];refine mS 11 ?_;simp only[go_sem,seval,T4,b4];exact⟨_,(bb.refl E').set (o:=⟨3,1,[vI 0]⟩) a4,rfl⟩
 .rintro Z' ⟨hn,rfl⟩;have hpm:db l a=-1:=by
   by_cases h0:0<=db l a
   .obtain⟨g,_,hu⟩:=uk (l:=l) (f:=l.length+1) h0 (by omega);rw[hu]at hn;simp[oO]at hn
   .omega
  refine mS 5 ?_;simp only[go_sem,seval,S4,a4];rw[hpm];exact ai.pure (s1.ao f4) rfl
 .intro id h;cases h
 .rintro pre Z' _ ⟨_,rfl⟩;refine mS 5 ?_;simp only[go_sem,seval,S4,af];exact ai.pure (s1.ao f4) rfl
open Go.Proofs
def iu{l:List Nd}{a b:Int}:cd l a b=true↔0<=a/\b<l.length/\a<=b/\b<a+WJ l a.toNat:=by
 simp only[cd,Ba,jS,YX];constructor
 .rintro⟨h1,h2,h3,h4⟩;omega
 .rintro⟨h1,h2,h3,h4⟩;omega
def xV(l:List Nd)(b:Nat):∀k,(lS l b k=-1/\∀i:Nat,i<k->cd l i b=false)\/∃q:Nat,lS l b k=q/\q<k/\cd l q b=true/\∀i:Nat,q<i->i<k->cd l i b=false
 |0=>.inl ⟨rfl,λi h=>by omega⟩
 |k+1=>by
  rw[lS];cases hk:cd l k b
  .simp only[fO,↓reduceIte];rcases xV l b k with⟨h1,h2⟩|⟨q,h1,h2,h3,h4⟩
   .refine .inl ⟨h1,λi hi=>?_⟩;by_cases e:i=k
    .rw[e];exact hk
    .exact h2 i (by omega)
   .refine .inr ⟨q,h1,by omega,h3,λi hi YH=>?_⟩;by_cases e:i=k
    .rw[e];exact hk
    .exact h4 i hi (by omega)
  .simp only[↓reduceIte];exact .inr ⟨k,rfl,by omega,hk,λi hi YH=>by omega⟩
def nest{l:List Nd}(hb:Xh l=true){x q:Nat}(hx:x<l.length)(h1:x<=q)(h2:(q:Int)<x+WJ l x)(hq:q<l.length):(q:Int)+WJ l q<=x+WJ l x:=by
 by_cases e:x=q
 .subst e;omega
 .have W8:bG l 0 l.length=true:=by simp only[Xh,Ba]at hb;exact hb.2
  obtain⟨z1,z2⟩:=rX hb hx;obtain⟨z3,_⟩:=bV (Xc _) W8 (Nat.zero_le x) hx;have hin:=nO l (l.length+1) 0 l.length (by omega) (Xc _) W8 x (by omega) hx hx;rw[<-gY hx]at hin;have:=(bV (e:=x+(WJ l x).toNat) (by omega) hin (k:=q) (by omega) (by omega)).1;omega
def IW(l:List Nd):∀(f:Nat) (p x:Int),x∈ups l f p->0<=x/\x<=p
 |0,_,_,h=>by simp[ups]at h
 |f+1,p,x,h=>by
  rw[ups]at h;split at h
  .rcases dJ.1 h with rfl|h
   .omega
   .have:=IW l f _ x h;have:=dU l p.toNat;omega
  .simp at h
def ra{l:List Nd}{a b:Nat}:∀k:Nat,(∀i:Nat,i<k->cd l i a=cd l i b)->dt l a k=dt l b k
 |0,_=>rfl
 |k+1,h=>by
  rw[dt,dt,h k (by omega),ra k λi hi=>h i (by omega)]
def nz{l:List Nd}{a q:Nat}:∀k:Nat,q<=k->(∀i:Nat,q<=i->i<k->cd l i a=false)->dt l a k=dt l a q
 |0,h,_=>by rw[Nat.le_zero.1 h]
 |k+1,h,hh=>by
  by_cases e:q=k+1
  .rw[e]
  .rw[dt,hh k (by omega) (by omega),au (by simp)];exact nz k (by omega) λi h1 h2=>hh i h1 (by omega)
def x5{l:List Nd}(hb:Xh l=true):∀(f a:Nat),a<l.length->db l a<f->ups l f (db l a)=dt l a a
 |f,a,ha,hf=>by
  rcases xV l a a with⟨h1,h2⟩|⟨q,h1,h2,h3,h4⟩
  .have e:db l a=-1:=h1;rw[e,y9 (by omega),nz (q:=0) a (by omega) λi _ hi=>h2 i hi];rfl
  .have e:db l a=q:=h1;rw[e]at hf|-;obtain⟨g,rfl,hu⟩:=uk (l:=l) (f:=f) (p:=q) (by omega) hf;rw[hu,eU];have hpq:=dU l q;rw[x5 hb g q (by omega) (by omega),nz (q:=q+1) a (by omega) λi i1 i2=>h4 i (by omega) i2,dt,h3,ak rfl];congr 1;refine ra q λi hi=>?_;rw[Bool.eq_iff_iff,iu,iu];rw[iu]at h3;simp only[eU]at h3|-;constructor
   .rintro⟨_,_,_,g4⟩;have:=nest hb (x:=i) (q:=q) (by omega) (by omega) g4 (by omega);omega
   .rintro⟨_,_,_,_⟩;omega
open Go.Proofs
def bb.FG{ZJ U Xj Z':ad}(h:bb ZJ U Xj Z'){e:Option Nat}(he:∀i,e=some i->∃o,Xj i=some o):bb ZJ U (Vc.bz Xj e) (Vc.bz Z' e):=by
 cases e with
 |none=>exact h
 |some e=>
  refine⟨D1 h.1,λi o h1 h2=>?_⟩;obtain⟨h3,h4⟩:=h.2 i o h1 h2;have:i≠e:=λe'=>by subst e';obtain⟨o',ho'⟩:=he i rfl;rw[h4]at ho';cases ho'
  simp only[Vc.bz,cA this];exact⟨h3,h4⟩
def aq.FB{K ZJ Z1:ad}{e sz:Nat}{v:V}{rows:List V}(h:aq K ZJ e sz v rows)(hs:aa ZJ Z1):
 ∃idA,bC Z1 e sz v=some (rows,idA)/\∀i,idA=some i->K i=none/\∃o,ZJ i=some o:=by
 rcases h with⟨rfl,rfl⟩|⟨id,rfl,ho,hk⟩
 .exact⟨none,rfl,λ_ h=>by cases h⟩
 .refine⟨some id,?_,λi h=>by cases h;exact⟨hk,_,ho⟩⟩;simp only[bC,hs _ _ ho];rw[ak ⟨trivial,trivial,trivial,Xc _⟩,dR]
def bj(U:ad)(id:Nat):ad:=λi=>if i=id then some ⟨0,0,[]⟩else U i
def aF{U:ad}{id i:Nat}:bj U id i=none↔i≠id/\U i=none:=by
 unfold bj;split
 .rename_i h;simp[h]
 .rename_i h;simp[h]
def qY{α:Type}{f:α->V}{xs:List α}{pre post:List (List V)}{x:List V}(h:(xs.map λa=>[f a])=pre++x::post):∃a,xs[pre.length]?=some a/\x=[f a]:=by
 have:=congrArg (·[pre.length]?) h;simp only[xc,Mn (Xc _),Nat.sub_self,LZ,Zq8]at this;obtain⟨t,h1,h2⟩:=this;exact⟨t,h1,h2.symm⟩
def Bg{g:FuncId}{caps:List V}{xs:List Int}(hit:Iter prog g caps (xs.map λn=>[vI n]))(hx:xs.length<=1000000)(U:ad):
 av prog 224 [.aB,.fn g caps] U λr Z'=>aa U Z'/\aq U Z' 3 1 r (xs.map vI):=by
 refine TU.q ?_;refine mS 8 ?_;simp only[go_sem,seval,PO];refine aj λid2 Z2 s2 a2 f2=>?_;simp only[go_sem,seval];generalize hS:mix 8 _ _=S;have S2:S 2=.ptr id2 0 0:=by rw[<-hS];rfl
 have S6:S 6=.fn g caps:=by rw[<-hS];rfl
 clear hS;refine ag.eN (g:=.t 6) (caps:=caps) S6 hit (λx hx=>?_) [] (λpre ZJ=>∃v,ZJ id2=some ⟨46,1,[v]⟩/\aa U ZJ/\aq (bj U id2) ZJ 3 1 v ((xs.take pre.length).map vI))
  (λ_ _ _=>False) ?_ ?_ ?_ ?_ ?_
 .obtain⟨t,_,rfl⟩:=gb.1 hx;rfl
 .exact⟨.aB,a2,s2,by simpa using aq.start⟩
 .rintro pre x post ZJ ZB ZL ⟨v,J2,Js,Jo⟩ E';obtain⟨t,hti,rfl⟩:=qY (f:=vI) ZL;have W4:xs.take (pre.length+1)=xs.take pre.length++[t]:=by rw[Hm,hti];rfl
  have hlen:(pre++[[vI t]]).length=pre.length+1:=by simp
  rw[hlen,W4];have Zb:((xs.take pre.length).map vI).length<=1000001:=by simp;omega
  have hvc:v.cells=[v]:=by rcases Jo with⟨rfl,_⟩|⟨_,rfl,_⟩<;>rfl
  generalize W8:((xs.take pre.length).map vI)=rows at*;have b2:=E' _ _ J2;generalize Zg:nh S [7] [vI t]=S0;have T2:S0 2=.ptr id2 0 0:=by rw[<-Zg];exact S2
  have T7:S0 7=vI t:=by rw[<-Zg];rfl
  refine mS 8 ?_;simp only[go_sem,seval,T7];apply sR;simp only[go_sem,seval,T2,b2,hvc];rw[bh];intro id28 f28;have hBs:=(bb.refl E').rY (o:=⟨3,1,[vI t]⟩) f28;have y2:C' ZB id28 ⟨3,1,[vI t]⟩ id2=some ⟨46,1,[v]⟩:=by rw[ab (aQ b2 f28)];exact b2
  have a28:C' ZB id28 ⟨3,1,[vI t]⟩ id28=some ⟨3,1,[vI t]⟩:=af;generalize C' ZB id28 ⟨3,1,[vI t]⟩=Z8 at*;obtain⟨idA,Xg,hdA⟩:=Jo.FB hBs.1;have W1:(rows.length+1)*9<=140737488355328:=by omega
  have k2:bj U id2 id2≠none:=λh=>(aF.1 h).1 rfl;have dne:∀(i:Nat) (Zx:ad),bj U id2 i≠none->Vc.bz Zx idA i=Zx i:=λi Zx hk=>by
   cases idA with
   |none=>rfl
   |some a=>exact cA (λe=>hk (by rw[e];exact(hdA a rfl).1))
  simp only[go_sem,seval,Xg,bl a28,W1];rw[bh];intro Zd f29;have f29:Z8 Zd=none:=f29;have m29:id2≠Zd:=aQ y2 f29;have f29':Vc.bz Z8 idA Zd=none:=by
   cases idA with
   |none=>exact f29
   |some a=>simp only[Vc.bz,del];split<;>first|rfl|exact f29
  have y2':C' (Vc.bz Z8 idA) Zd ⟨3,1,rows++[vI t]⟩ id2=some ⟨46,1,[v]⟩:=by rw[ab m29,dne _ _ k2];exact y2
  have hB9:=((hBs.FG (e:=idA) λi h=>(hdA i h).2).new (o:=⟨3,1,rows++[vI t]⟩) f29').set (id:=id2) (o:=⟨46,1,[v]⟩) (o':=⟨46,1,[.own Zd 0 (rows.length+1)]⟩) (by rw[ab m29,dne _ _ k2];exact J2);simp only[go_sem,seval,hvc,y2',T2];refine⟨_,hB9,.own Zd 0 (rows.length+1),af,?_,?_⟩
  .refine aa.ao (λi o h=>?_) f2;have h1:=Js _ _ h;rw[ab (aQ (hBs.1 _ _ h1) f29),dne _ _ (λhk=>by rw[(aF.1 hk).2]at h;cases h)];exact h1
  .rw[cX,W8];refine aq.new (by simp) (by rw[ab m29.symm,af];rfl) ?_;rw[aF];refine⟨m29.symm,?_⟩;cases h:U Zd with
   |none=>rfl
   |some o=>rw[hBs.1 _ _ (Js _ _ h)]at f29;cases f29
 .rintro Z' ⟨v,J2,Js,Jo⟩;rw[cJ,dR]at Jo;have hvc:v.cells=[v]:=by rcases Jo with⟨rfl,_⟩|⟨_,rfl,_⟩<;>rfl
  refine mS 5 ?_;simp only[go_sem,seval,S2,J2,hvc];refine XX ⟨Js,?_⟩;rcases Jo with h|⟨id,h1,h2,h3⟩
  .exact .inl h
  .exact .inr ⟨id,h1,h2,(aF.1 h3).2⟩
 .intro id h;cases h
 .rintro pre Z' _ ⟨⟩
def xS{g:FuncId}{caps:List V}{xs:List Int}(hit:Iter prog g caps (xs.map λn=>[vI n]))(hx:xs.length<=1000000):
 aE prog 172 [.fn g caps] (aN xs):=λU=>by
 refine Vr.q ?_;refine mS 3 ?_;simp only[go_sem,seval,Sa];refine Yn rfl (Bg hit hx U) ?_;rintro r Z1 ⟨h1,h2⟩;apply sR;simp only[go_sem,seval];exact h2.ni h1 rfl
def abv(l:List Nd)(a:Nat):List Int:=ups l (l.length+1) (db l a)
def jW(l:List Nd):∀(f:Nat) (p:Int),(ups l f p).length<=f
 |0,_=>by simp[ups]
 |f+1,p=>by
  rw[ups];split
  .have:=jW l f (db l p.toNat);simp only[YI];omega
  .simp
def DT{l:List Nd}(hb:Xh l=true){a:Nat}(ha:a<l.length):abv l a=dt l a a:=x5 hb _ _ ha (by have:=dU l a;omega)
def AP(l:List Nd)(hl:dz l)(hb:Xh l=true)(hn:l.length<=100000)(a:Nat)(ha:a<l.length):aE prog 126 [ay l,vI a] (aN (abv l a)):=λU=>by
 refine Vo.q ?_;refine mS 5 ?_;simp only[go_sem,seval,Pc];refine pS rfl (CY l hl hb _) ?_;simp only[go_sem,seval];refine pS rfl (CF l a _) ?_;simp only[go_sem,seval];refine pS rfl (xS (vN l hl hb a ha) (by have:=jW l (l.length+1) (db l a);omega) _) ?_;simp only[go_sem,seval];exact ai.same rfl
structure SOk(s:Ye):Prop where
 top:0<=s.top/\s.top<=1099511627776
 WV:0<=s.WV/\s.WV<=1099511627776
 WD:0<=s.WD/\s.WD<=1099511627776
 O':0<=s.O'/\s.O'<=1099511627776
 Xl:0<=s.Xl/\s.Xl<=1099511627776
 WE:0<=s.WE/\s.WE<=1099511627776
 WW:0<=s.WW/\s.WW<=1099511627776
 head:0<=s.head/\s.head<=1099511627776
 before:0<=s.before/\s.before<=4
 after:0<=s.after/\s.after<=4
 inside:0<=s.inside/\s.inside<=1
 clear:0<=s.clear/\s.clear<=3
structure NOk(x:Nd):Prop where
 st:SOk x.st
 kind:x.kind=1\/x.kind=2\/x.kind=3\/x.kind=4
 line:0<=x.line/\x.line<=1099511627776
 space:0<=x.space/\x.space<=1099511627776
 words:∀w∈x.words,1<=w/\w<=1099511627776
 w:0<=x.w/\x.w<=1099511627776
 h:0<=x.h/\x.h<=1099511627776
 side:0<=x.side/\x.side<=2
 text:x.kind=2->0<x.words.length/\1<=x.line
 box:x.kind=3\/x.kind=4->1<=x.w/\1<=x.h
 fl:x.kind=4->1<=x.side
 lK:x.kind≠1->x.st=Ye.zero
 nowords:x.kind≠2->x.words=[]
def pH{n a b:Int}:aS n a b=true↔a<=n/\n<=b:=by simp[aS]
def HS:SOk Ye.zero:=by constructor<;>simp[Ye.zero]
def Nh{s:Ye}(h:s.ok=true):SOk s:=by
 simp only[Ye.ok,Ba,pH,mx]at h;constructor<;>omega
def Oc{x:Nd}(h:x.ok=true):NOk x:=by
 unfold Nd.ok at h;split at h
 .rename_i hk;simp only[Ba,YX]at h;obtain⟨⟨⟨⟨⟨⟨h1,h2⟩,h3⟩,h4⟩,h5⟩,h6⟩,h7⟩:=h;have hw:x.words=[]:=rf h4;exact⟨Nh h1,.inl hk,by omega,by omega,by rw[hw];simp,by omega,by omega,by omega,by omega,by omega,by omega,by omega,λ_=>hw⟩
 .rename_i hk;split at h
  .cases h
  .rename_i WM;have hs:x.st=Ye.zero:=Classical.byContradiction WM;have hso:SOk x.st:=by rw[hs];exact HS
   split at h
   .rename_i Yf;simp only[Ba,YX,pH,mx,fC]at h;obtain⟨⟨⟨⟨⟨⟨h1,h2⟩,h3⟩,h4⟩,h5⟩,h6⟩,h7⟩:=h;exact⟨hso,.inr (.inl Yf),by omega,by omega,h1,by omega,by omega,by omega,λ_=>⟨h2,h3.1⟩,by omega,by omega,λ_=>hs,by omega⟩
   .rename_i Yf;simp only[Ba,lG,YX,pH,mx]at h;obtain⟨⟨⟨⟨⟨h1,h2⟩,h3⟩,h4⟩,h5⟩,h6⟩:=h;have hw:x.words=[]:=rf h3;exact⟨hso,by omega,by omega,by omega,by rw[hw];simp,by omega,by omega,by omega,by omega,by omega,by omega,λ_=>hs,λ_=>hw⟩
def ec{l:List Nd}(hb:Xh l=true){a:Nat}(h:a<l.length):NOk l[a]:=by
 simp only[Xh,Ba,fC]at hb;exact Oc (hb.1 _ (Xo h))
open Go.Proofs
structure Rm where
 (x w:Int)
deriving DecidableEq
def jU(r:Rm):V:=.agg [vI r.x,vI r.w]
def cQ(l:List Rm):V:=.sl 2 (l.map jU)
def tV(l:List Nd)(a:Nat):Int:=((l[a]?).map λn=>n.st.Xl).getD 0
def jB(r:Rm)(i:Int):Rm:=⟨min (r.x+i) 1099511627776,max (r.w-2*i) 1⟩
def dc(l:List Nd):Nat->Nat->Nat->Rm->List Rm
 |0,_,_,_=>[]
 |k+1,a,e,r=>if a<e then r::(dc l k (a+1) (a+(WJ l a).toNat) (jB r (tV l a))++dc l k (a+(WJ l a).toNat) e r)else[]
def jy{l:List Nd}{e:Nat}(he:e<=l.length):∀(k a:Nat) (r:Rm),e-a<=k->a<=e->bG l a e=true->(dc l k a e r).length=e-a
 |0,a,r,hk,ha,_=>by simp[dc];omega
 |k+1,a,r,hk,ha,hr=>by
  rw[dc];split
  .rename_i B';obtain⟨h1,h2⟩:=bV he hr (Xc a) B';obtain⟨h3,h4⟩:=cK he hr B';have ih:=jy he k (a+(WJ l a).toNat) r (by omega) (by omega) h3;have ih2:=jy (e:=a+(WJ l a).toNat) (by omega) k (a+1) (jB r (tV l a)) (by omega) (by omega) h4;simp only[YI,gn];omega
  .simp;omega
def ly{l:List Nd}{e:Nat}(he:e<=l.length):∀(k j a:Nat) (r:Rm),e-a<=k->e-a<=j->bG l a e=true->dc l k a e r=dc l j a e r
 |0,0,_,_,_,_,_=>rfl
 |0,j+1,a,r,h,_,_=>by rw[dc,dc,au (by omega)]
 |k+1,0,a,r,_,h,_=>by rw[dc,dc,au (by omega)]
 |k+1,j+1,a,r,h,h',hr=>by
  rw[dc,dc];split
  .rename_i B';obtain⟨h1,h2⟩:=bV he hr (Xc a) B';obtain⟨h3,h4⟩:=cK he hr B';rw[ly he k j _ _ (by omega) (by omega) h3,ly (e:=a+(WJ l a).toNat) (by omega) k j _ _ (by omega) (by omega) h4]
  .rfl
def bI{U:ad}{l:List Nd}{a:Nat}(h:a<l.length):bp U 20 (ay l) (.int .i64 a)=some (.rp (.agg (Nd.cells l[a]))):=by
 simp[ay,bp,h,dW]
def qP(U:ad)(a b c:Nat):ad:=λi=>if i=a\/i=b\/i=c then some ⟨0,0,[]⟩else U i
def gv{U:ad}{a b c i:Nat}:qP U a b c i=none↔i≠a/\i≠b/\i≠c/\U i=none:=by
 unfold qP;split
 .rename_i h;simp;intro h1 h2 h3;simp_all
 .rename_i h;simp only[not_or]at h;simp[h]
structure RmJ(l:List Nd)(Z0:ad)(il io ip:Nat)(rows:List V)(U:ad):Prop where
 rl:U il=some ⟨22,1,[ay l]⟩
 rp:U ip=some ⟨205,1,[.fn 129 [.ptr il 0 0,.ptr io 0 0,.ptr ip 0 0]]⟩
 sub:aa Z0 U
 no:Z0 io=none
 out:∃v,U io=some ⟨150,1,[v]⟩/\aq (qP Z0 il io ip) U 207 2 v rows
def BU(r:Rm):(jU r).cells=[vI r.x,vI r.w]:=rfl
def Cq(r:Rm):(jU r).stays=true:=rfl
def Rm.ok(r:Rm):Prop:=0<=r.x/\r.x<=1099511627776/\1<=r.w/\r.w<=1099511627776
def yG{r:Rm}(h:r.ok){i:Int}(h0:0<=i):(jB r i).ok:=by
 obtain⟨a,b,c,d⟩:=h;unfold jB Rm.ok;simp only;omega
def JC{l:List Nd}(hb:Xh l=true){a:Nat}(h:a<l.length):tV l a=l[a].st.Xl/\0<=l[a].st.Xl/\l[a].st.Xl<=1099511627776:=by
 refine⟨by simp[tV,h],?_⟩;exact(ec hb h).st.Xl
def JN(l:List Nd)(hl:dz l)(hb:Xh l=true)(il io ip:Nat)(nlo:il≠io)(nlp:il≠ip)(nop:io≠ip):∀(m a e:Nat) (r:Rm) (rows:List V) (Z0 U:ad),e-a<m->a<=e->e<=l.length->bG l a e=true->r.ok->
 rows.length+(e-a)<=l.length->RmJ l Z0 il io ip rows U->
 av prog 129 [vI a,vI e,jU r,.ptr il 0 0,.ptr io 0 0,.ptr ip 0 0] U λq Z'=>q=.WC []/\RmJ l Z0 il io ip (rows++(dc l (e-a) a e r).map jU) Z':=by
 intro m
 induction m with
 |zero=>intro a e r rows Z0 U h;omega
 |succ m ih=>?_
 intro a e r rows ZB U hm hae he hrB hr hlen hJB;have hl1:=hl.1;refine TI.q ?_;refine mS 11 ?_;simp only[go_sem,seval,R3,BU,Cq];refine aj λi8 Z8 s8 a8 f8=>?_;simp only[go_sem,seval];have no8:io≠i8:=by obtain⟨v,vo,_⟩:=hJB.out;exact aQ vo f8
 have fB8:ZB i8=none:=hJB.sub.none f8;obtain⟨Z0,hY0⟩:∃s,s=C' ZB i8 ⟨207,2,[jU r]⟩:=⟨_,rfl⟩
 have hk8:∀i,qP Z0 il io ip i=none↔i≠i8/\qP ZB il io ip i=none:=λi=>by
  rw[gv,gv,hY0];by_cases h:i=i8
  .subst h;simp[af]
  .rw[ab h];simp[h]
 have YB:RmJ l Z0 il io ip rows Z8:=by
  refine⟨s8 _ _ hJB.rl,s8 _ _ hJB.rp,?_,by rw[hY0,ab no8];exact hJB.no,?_⟩
  .intro i o h;rw[hY0]at h;by_cases hi:i=i8
   .subst hi;rw[af]at h;rw[a8];exact h
   .rw[ab hi]at h;exact s8 _ _ (hJB.sub _ _ h)
  .obtain⟨v,vo,WR⟩:=hJB.out;refine⟨v,s8 _ _ vo,?_⟩;rcases WR with h|⟨id,h1,h2,h3⟩
   .exact .inl h
   .exact .inr ⟨id,h1,s8 _ _ h2,(hk8 id).2 ⟨aQ h2 f8,h3⟩⟩
 have hback:∀(rows:List V) (J:ad),RmJ l Z0 il io ip rows J->RmJ l ZB il io ip rows J:=λrows J h=>by
  refine⟨h.rl,h.rp,λi o hi=>h.sub _ _ (by rw[hY0,ab (λe=>by rw[e,fB8]at hi;cases hi)];exact hi),by have:=h.no;rw[hY0,ab no8]at this;exact this,?_⟩;obtain⟨v,vo,WR⟩:=h.out;refine⟨v,vo,?_⟩;rcases WR with h|⟨id,h1,h2,h3⟩
  .exact .inl h
  .exact .inr ⟨id,h1,h2,((hk8 id).1 h3).2⟩
 have h08:Z0 i8=some ⟨207,2,[jU r]⟩:=by rw[hY0];exact af
 clear hY0;refine ag.loop (λq st=>∃(b:Nat) (done:List V),q=e-b/\a<=b/\b<=e/\bG l b e=true/\done.length+(e-b)<=l.length/\rows++(dc l (e-a) a e r).map jU=done++(dc l (e-b) b e r).map jU/\RmJ l Z0 il io ip done st.U/\
  st.s 1=vI e/\st.s 3=.ptr il 0 0/\st.s 4=.ptr io 0 0/\st.s 5=.ptr ip 0 0/\st.s 8=.ptr i8 0 0/\st.s 9=vI b) (e-a) ?_ ?_
 .exact⟨a,rows,rfl,Xc _,hae,hrB,hlen,rfl,YB,rfl,rfl,rfl,rfl,rfl,rfl⟩
 .rintro q ⟨S,J⟩ ⟨b,done,rfl,hab,hbe,hbB,hdl,hdn,hJ,t1,t3,t4,t5,t8,t9⟩;simp only at hJ t1 t3 t4 t5 t8 t9;refine ag.mix 11 ?_;by_cases B':b<e
  .have q1:((b:Int)<(e:Int))=True:=L';obtain⟨h1,h2⟩:=bV he hbB (Xc b) B';obtain⟨h3,h4⟩:=cK he hbB B';have XW:b<l.length:=by omega
   obtain⟨g1,g2,g3⟩:=JC hb XW;have Yh:=gY XW;obtain⟨v,vo,WR⟩:=hJ.out;have hvc:v.cells=[v]:=by rcases WR with⟨rfl,_⟩|⟨_,rfl,_⟩<;>rfl
   have r8:=hJ.sub _ _ h08;have r8':=r8;rw[jU]at r8';apply sR;simp only[go_sem,seval,q1,t1,t4,t8,t9,r8',vo,hvc];refine aj λi24 Z24 s24 a24 f24=>?_;obtain⟨idA,Xg,hdA⟩:=WR.FB s24;have W1:(done.length+1)*17<=140737488355328:=by omega
   simp only[go_sem,seval,Xg,bl a24,W1];rw[bh];intro i25 f25;have f25:Z24 i25=none:=f25;have dne:∀(i:Nat) (Zx:ad),qP Z0 il io ip i≠none->Vc.bz Zx idA i=Zx i:=λi Zx hk=>by
    cases idA with
    |none=>rfl
    |some a=>exact cA (λe=>hk (by rw[e];exact(hdA a rfl).1))
   have kl:qP Z0 il io ip il≠none:=λh=>(gv.1 h).1 rfl;have ko:qP Z0 il io ip io≠none:=λh=>(gv.1 h).2.1 rfl;have kp:qP Z0 il io ip ip≠none:=λh=>(gv.1 h).2.2.1 rfl;have ol:=s24 _ _ hJ.rl;have oo:=s24 _ _ vo;have op:=s24 _ _ hJ.rp;have o8:=s24 _ _ r8;have nl:=aQ ol f25;have no:=aQ oo f25;have np:=aQ op f25;have n8:=aQ o8 f25;have hsub25:aa Z0 (C' (Vc.bz Z24 idA) i25 ⟨207,2,done++[.agg [vI r.x,vI r.w]]⟩):=λi o h=>by
    have h1:=s24 _ _ (hJ.sub _ _ h);rw[ab (aQ h1 f25),dne _ _ (λhk=>by rw[(gv.1 hk).2.2.2]at h;cases h)];exact h1
   have pl:(C' (Vc.bz Z24 idA) i25 ⟨207,2,done++[.agg [vI r.x,vI r.w]]⟩) il=some ⟨22,1,[ay l]⟩:=by rw[ab nl,dne _ _ kl];exact ol
   have po:(C' (Vc.bz Z24 idA) i25 ⟨207,2,done++[.agg [vI r.x,vI r.w]]⟩) io=some ⟨150,1,[v]⟩:=by rw[ab no,dne _ _ ko];exact oo
   have pp:(C' (Vc.bz Z24 idA) i25 ⟨207,2,done++[.agg [vI r.x,vI r.w]]⟩) ip=some ⟨205,1,[.fn 129 [.ptr il 0 0,.ptr io 0 0,.ptr ip 0 0]]⟩:=by rw[ab np,dne _ _ kp];exact op
   have p25:(C' (Vc.bz Z24 idA) i25 ⟨207,2,done++[.agg [vI r.x,vI r.w]]⟩) i25=some ⟨207,2,done++[.agg [vI r.x,vI r.w]]⟩:=af;have f0:Z0 i25=none:=(hJ.sub.trans s24).none f25;have Wz:=λU=>bI (U:=U) XW;have q2:((b:Int)+1)=((b+1:Nat):Int):=by omega
   have q3:((b:Int)+l[b].size)=((b+(WJ l b).toNat:Nat):Int):=by rw[Yh];omega
   obtain⟨rx0,rx1,rw0,rw1⟩:=id hr;have r1:=rI b;have r2:WI .i64 ((b:Int)+l[b].size):=ae;have r3:WI .i64 (r.x+l[b].st.Xl):=ae;have r4:WI .i64 (2*l[b].st.Xl):=ae;have r5:WI .i64 (r.w-2*l[b].st.Xl):=ae;generalize C' (Vc.bz Z24 idA) i25 ⟨207,2,done++[.agg [vI r.x,vI r.w]]⟩=Z25 at*;have p8:=hsub25 _ _ h08;rw[jU]at p8;simp only[go_sem,seval,t3,t4,t5,t8,t9,pl,po,pp,p8,hvc,cp,ab no8.symm,ab nlo,ab nop.symm,Wz,Nd.cells,r1,r2,r3,r4,r5,cg,dN];have YW:RmJ l Z0 il io ip (done++[.agg [vI r.x,vI r.w]]) (C' Z25 io ⟨150,1,[.own i25 0 (done.length+1)]⟩):=by
    refine⟨by rw[ab nlo];exact pl,by rw[ab nop.symm];exact pp,hsub25.ao hJ.no,hJ.no,_,af,aq.new (by simp) (by rw[ab no.symm];exact p25) (gv.2 ⟨nl.symm,no.symm,np.symm,f0⟩)⟩
   have hc:=ih (b+1) (b+(WJ l b).toNat) (jB r l[b].st.Xl) (done++[.agg [vI r.x,vI r.w]]) Z0 _ (by omega) (by omega) (by omega) h4 (yG hr g2) (by simp only[gn,YI,List.length_nil];omega) YW;rw[<-q2,<-q3]at hc;refine Yn rfl hc ?_;rintro q' Z' ⟨rfl,ZC⟩;have cl:=ZC.rl;apply sR;simp only[go_sem,seval,t1,t3,t4,t5,t8,t9,cl,cp,Wz,Nd.cells,r2];have hk:dc l (e-b) b e r=r::(dc l (b+(WJ l b).toNat-(b+1)) (b+1) (b+(WJ l b).toNat) (jB r (tV l b))++dc l (e-(b+(WJ l b).toNat)) (b+(WJ l b).toNat) e r):=by
    rw[show e-b=(e-b-1)+1 by omega,dc,ak B',ly (by omega) (e-b-1) _ _ _ (by omega) (Xc _) h4,ly he (e-b-1) _ _ _ (by omega) (Xc _) h3]
   have Yp:=jy (l:=l) (e:=b+(WJ l b).toNat) (by omega) (b+(WJ l b).toNat-(b+1)) (b+1) (jB r l[b].st.Xl) (Xc _) (by omega) h4;refine⟨e-(b+(WJ l b).toNat),by omega,b+(WJ l b).toNat,_,rfl,by omega,by omega,h3,?_,?_,ZC,by simp[q3]⟩
   .simp only[gn,YI,List.length_nil,cJ,Yp];omega
   .rw[hdn,hk,g1];simp only[eV,cX,lh,List.cons_append,jE];rfl
  .have q1:((b:Int)<(e:Int))=False:=H';apply sR;simp only[go_sem,seval,q1,t1,t9];refine XX ⟨rfl,?_⟩;have hz:dc l (e-b) b e r=[]:=by rw[show e-b=0 by omega];rfl
   rw[hdn,hz];exact hback _ _ (by simpa using hJ)
def K2(l:List Nd)(hl:dz l)(hb:Xh l=true)(w:Int)(h1:1<=w)(h2:w<=1099511627776):aE prog 83 [ay l,vI w] (cQ (dc l l.length 0 l.length ⟨0,w⟩)):=λU=>by
 refine e83.q ?_;have hs:=aa.refl U;refine mS 8 ?_;simp only[go_sem,seval,c83,cp,eh];refine al hs λi2 Z2 s2 a2 f2 _ hs=>?_;simp only[go_sem,seval,a2,cp];refine pS rfl (CY l hl hb _) ?_;simp only[go_sem,seval];refine al hs λi5 Z5 s5 a5 f5 z5 hs=>?_;obtain⟨n25,a2⟩:=WG a2 f5 s5;have q1:(w<1)=False:=H';have q2:(w>1099511627776)=False:=H';simp only[go_sem,seval,a5,q1,q2];generalize hq5:C' Z5 i5 _=Y5;have b5:Y5 i5=some ⟨203,1,[.agg [ay l]]⟩:=by rw[<-hq5];exact af
 have b2:Y5 i2=some ⟨22,1,[ay l]⟩:=by rw[<-hq5,ab n25];exact a2
 have hs5:aa U Y5:=by rw[<-hq5];exact hs.ao z5
 clear hq5;refine aj λi6 Z6 s6 a6 f6=>?_;have c5:=s6 _ _ b5;have c2:=s6 _ _ b2;have z6:U i6=none:=hs5.none f6;simp only[go_sem,seval];refine aj λi7 Z7 s7 a7 f7=>?_;have d5:=s7 _ _ c5;have d2:=s7 _ _ c2;have d6:=s7 _ _ a6;have z7:U i7=none:=(hs5.trans s6).none f7;have n57:=aQ c5 f7;have n27:=aQ c2 f7;have n67:=aQ a6 f7;have n26:=aQ b2 f6;have hn:=bK l;have hnf:V.Ya.cells=[.Ya]:=rfl;simp only[go_sem,seval,a7,hnf,d5,ab n57,hn];have hJ:RmJ l U i2 i6 i7 [] (C' Z7 i7 ⟨205,1,[.fn 129 [.ptr i2 0 0,.ptr i6 0 0,.ptr i7 0 0]]⟩):=
  ⟨by rw[ab n27];exact d2,af,(((hs5.trans s6).trans s7)).ao z7,z6,.aB,by rw[ab n67];exact d6,aq.start⟩
 have hc:=JN l hl hb i2 i6 i7 n26 n27 n67 (l.length+1) 0 l.length ⟨0,w⟩ [] U _ (by omega) (by omega) (by omega) (by simp only[Xh,Ba]at hb;exact hb.2) ⟨by simp,by simp,h1,h2⟩ (by simp) hJ;refine Yn rfl hc ?_;rintro q Z' ⟨rfl,ZC⟩;obtain⟨v,vo,WR⟩:=ZC.out;have hvc:v.cells=[v]:=by rcases WR with⟨rfl,_⟩|⟨_,rfl,_⟩<;>rfl
 apply sR;simp only[go_sem,seval,vo,hvc];have ho:aq U Z' 207 2 v ((dc l l.length 0 l.length ⟨0,w⟩).map jU):=by
  rcases WR with⟨h,h'⟩|⟨id,h1,h2,h3⟩
  .exact .inl ⟨h,by simpa using h'⟩
  .exact .inr ⟨id,by simpa using h1,by simpa using h2,(gv.1 h3).2.2.2⟩
 exact ho.ni ZC.sub rfl
section
variable {P:Program} {n:Nat}
def ag.QA{st:St}{Q:St->Prop}{k:List It}{i:aC}{l:List aC}{xa:VX}(hw:bg st.s i.g=some true)(ho:i.op=.binB false xa (.c (.iface 0 .undef))){b:Bool}
 (hx:(xa.ev st.s=.aB/\b=true)\/(∃sz r rows,xa.ev st.s=.sl sz (r::rows)/\b=false)\/∃id off m,xa.ev st.s=.own id off (m+1)/\b=false)
 (h:ag P n (.ops l::k) ⟨aO st.s i.dst (.bool b),st.U⟩ Q):ag P n (.ops (i::l)::k) st Q:=by
 refine ag.ins (by rw[ho];simp) hw λF hn I a w o all hi hs next Q' WN=>?_
 subst hn;obtain⟨WO,hd⟩:=ee hi;rw[ho]at WO;obtain⟨t,x,y,m,c,yt,e,g1,rfl,g2,rfl⟩:=BD WO;have R:=cL hs x;have hX:∃ba len cap,a.eval x=.slice ba len cap/\ba.isNone=b:=by
  rcases hx with⟨hx,rfl⟩|⟨sz,r,rows,hx,rfl⟩|⟨id,off,m,hx,rfl⟩
  .rw[hx]at R;simp only[G']at R;exact⟨none,0,0,R,rfl⟩
  .rw[hx]at R;simp only[G']at R;obtain⟨ba,cap,hX,_,hr⟩:=R;rcases hr with hr|⟨b,off,rfl,_⟩
   .cases hr
   .exact⟨_,_,_,hX,rfl⟩
  .rw[hx]at R;simp only[G']at R;split at R
   .exact R.elim
   .exact absurd R.2.2 (by omega)
   .obtain⟨o,c,hX,_⟩:=R;exact⟨_,_,_,hX,rfl⟩
 obtain⟨ba,len,cap,hX,rfl⟩:=hX;have Xq:(execOp a.eval o).run P w=.ok (.value (.bool ba.isNone)) w:=by
  unfold execOp;rw[g1];have hY:a.eval (.const (.slice none m c))=.slice none m c:=rfl;simp[hX,hY,eqGuard,Lib.run_eql_slice_nil w t e ba len cap m c g2]
 unfold Oper.wp;rw[Xq];refine WN _ _ _ ⟨I,?_⟩ h;rw[<-hd];exact hs.pure (by simp[G'])
end
open Go.Proofs
def u9(U:ad)(v v':V):Prop:=∀J,aa U J->Wk J lK v v'
def u9.mono{U J:ad}{v v':V}(h:u9 U v v')(hs:aa U J):u9 J v v':=λX' h'=>h X' (hs.trans h')
def u9.at{U:ad}{v v':V}(h:u9 U v v'):Wk U lK v v':=h U (aa.refl _)
def aq.zL{K U:ad}{e sz:Nat}{v:V}{rows:List V}(h:aq K U e sz v rows):u9 U v (.sl sz rows):=λJ hs=>(h.mono hs).wk (qV _) (qV _)
def ZH{J:ad}(v:V):Wk J lK v v:=Wk.refl (qV _) _
def HW(vf:V){U:ad}(fs:List T')(YF:u9 U vf (ax fs))(ws:List Int)(space high:Int)(y:Int)(s:Xr)(hl:fs.length<=1000000)(WB:∀f∈fs,f.ok)(B:Int)(hB:∀f∈fs,f.y+f.h<=B)(hB1:B<=1152921504606846976)(hy0:0<=y)(hy:y<=B)(hh:0<=high)(hh1:high<=1099511627776)
 (X7:XU s.a/\XU s.b)(hw:WOk ws space):av prog 177 [vf,aN ws,vI space,vI high,vI y,aP s] U λr Z'=>aa U Z'/\aq U Z' 225 5 r ((cz fs ws space high s ws.length 0 y).map jm):=by
 refine Uu.q ?_;have hs:=aa.refl U;have hn:=cV ws;have Yp:=hw.len;refine mS 16 ?_;simp only[go_sem,seval,RJ,aP];refine al hs λi11 Z11 s11 XF f11 _ hs=>?_;simp only[go_sem,seval];generalize hG:cz fs ws space high s ws.length 0 y=G;refine ag.loop (λm st=>∃(i k:Nat) (y':Int) (acc:List Ln),m=ws.length-i/\i<=ws.length/\ws.length-i<=k/\acc.length<=i/\G=acc++cz fs ws space high s k i y'/\0<=y'/\y'<=B+1099511627776*i/\aa U st.U/\aq U st.U 225 5 (st.s 13) (acc.map jm)/\
  st.U i11=some ⟨219,2,[.agg [vI s.a,vI s.b]]⟩/\st.s 0=vf/\st.s 1=aN ws/\st.s 2=vI space/\st.s 3=vI high/\st.s 4=vI y'/\st.s 11=.ptr i11 0 0/\st.s 14=vI i) ws.length ?_ ?_
 .exact⟨0,ws.length,y,[],rfl,by omega,by omega,by simp,hG.symm,hy0,by omega,hs,aq.start,XF,rfl,rfl,rfl,rfl,rfl,rfl,rfl⟩
 .rintro m ⟨S,J⟩ ⟨i,k,y',acc,rfl,hi,hk,ZN,hg,hy1,hy2,E',WR,b11,t0,t1,t2,t3,t4,t11,t14⟩;simp only at E' WR b11 t0 t1 t2 t3 t4 t11 t14;generalize hv13:S 13=v13 at WR;refine ag.mix 16 ?_;by_cases B':i<ws.length
  .have q:=qT B';obtain⟨k,rfl⟩:∃k',k=k'+1:=⟨k-1,by omega⟩
   rw[cz,ak B']at hg;have hty:=tD (space:=space) (width:=fj (bM fs (fX fs (ws.getD i 0) high s y') high s)) B';have hyr:=eS (w:=ws.getD i 0) (high:=high) (y:=y') (s:=s) hB;have hx:=LF fs ws space high i y' s hl WB ⟨by omega,by omega⟩ ⟨by omega,by omega⟩ X7 hw B';obtain⟨x,hxe⟩:∃x,x=lZ fs ws space high i y' s:=⟨_,rfl⟩
   have x1:∃j:Nat,x.to=j/\i<j/\j<=ws.length:=by rw[hxe];exact⟨_,rfl,hty⟩
   have x2:y'<=x.y/\x.y<=max y' B:=by rw[hxe];exact hyr
   rw[<-hxe]at hg hx;clear hxe hty hyr;obtain⟨j,hj,hij,hjl⟩:=x1;rw[hj,eU]at hg;apply sR;simp only[go_sem,seval,t0,t1,t2,t3,t4,t11,t14,b11,hn,q];refine pR rfl (aE.ud (args':=[ax fs,aN ws,vI space,vI high,vI i,vI y',aP s]) ⟨(YF.mono E').at,ZH _,ZH _,ZH _,ZH _,ZH _,ZH _,trivial⟩ hx rfl) ?_;have hc:=sH x;have WM:=sP x;have Yj:(jm x).cells.length=5:=rfl;have hag:V.agg [vI x.fr,vI x.to,vI x.x,vI x.y,vI x.w]=jm x:=rfl;apply sR;simp only[go_sem,seval];refine aj λi15 Y15 s15 a15 f15=>?_;simp only[go_sem,seval,a15,hv13,hc,WM,hag];generalize YQ:C' Y15 i15 _=Z15;have b15:Z15 i15=some ⟨225,5,[.agg [vI x.fr,vI x.to,vI x.x,vI x.y,vI x.w]]⟩:=by rw[<-YQ];exact af
   have s15':aa J Z15:=by rw[<-YQ];exact s15.ao f15
   clear YQ;refine aj λi30 Z30 s30 a30 f30=>?_;obtain⟨idA,Xg,WK,XG,hd2⟩:=WR.mE (s15'.trans s30);have W1:(acc.length+1)*41<=140737488355328:=by omega
   have Yd:(acc.map jm).length=acc.length:=by simp
   simp only[go_sem,seval,Xg,bl a30,Yd,W1];refine aX λi31 Z31 s31 a31 f31=>?_;have k31:=(WK U (aa.refl _) Z30 (E'.trans (s15'.trans s30))).trans s31;have n31:U i31=none:=(E'.trans (s15'.trans s30)).none f31;have c15:Z31 i15=some ⟨225,5,[.agg [vI x.fr,vI x.to,vI x.x,vI x.y,vI x.w]]⟩:=s31 _ _ (by rw[hd2 i15 f15];exact s30 _ _ b15);have c11:Z31 i11=some ⟨219,2,[.agg [vI s.a,vI s.b]]⟩:=s31 _ _ (by rw[XG i11 _ b11 (.inr (by simp))];exact s30 _ _ (s15' _ _ b11));have r1:WI .i64 (x.y+high):=ae;simp only[go_sem,seval,t0,t1,t2,t3,t11,c15,hj,r1];refine⟨_,?_,j,k,x.y+high,acc++[x],rfl,hjl,by omega,by simp;omega,by rw[hg];simp,by omega,by omega,k31,?_,c11,by simp⟩
   .omega
   .rw[cX];exact aq.new (by simp) a31 n31
  .have q:=qF B';apply sR;simp only[go_sem,seval,t1,t14,hv13,hn,q];have:cz fs ws space high s k i y'=[]:=by
    cases k with
    |zero=>rfl
    |succ k=>rw[cz,au B']
   rw[this,iN]at hg;refine XX ⟨E',?_⟩;rw[hg];exact WR
def AA{P:Program}{f:FuncId}{fn:Func}(hf:P.funcs[f]?=some fn){e sz b:Nat}(hc:cfn P fn=some (nD e sz b))(hk:fE P f=true){K U:ad}{v:V}{rows:List V}(hv:aq K U e sz v rows)(WZ:rows=[]->v=.aB)(hb:rows.length*(b+1)<=140737488355328):
 av P f [v] U λr Z'=>aa U Z'/\aq U Z' e sz r rows:=by
 refine av.mf hf hc hk (by simp[nD]) ?_;refine ag.mix 3 ?_;rcases hv with⟨rfl,rfl⟩|⟨id,rfl,ho,_⟩
 ·(refine ag.bn Yi.nothing 8 ?_;simp only[go_sem,seval,me,nD])
  refine ag.QA rfl rfl (b:=true) (.inl ⟨rfl,rfl⟩) ?_;apply sR;simp only[go_sem,seval];exact XX ⟨aa.refl _,aq.start⟩
 .obtain⟨m,hm⟩:∃m,rows.length=m+1:=by
   cases rows with
   |nil=>exact absurd (WZ rfl) (by simp)
   |cons r rs=>exact⟨rs.length,by simp⟩
  (refine ag.bn Yi.nothing 8 ?_;simp only[go_sem,seval,me,nD])
  refine ag.QA rfl rfl (b:=false) (.inr (.inr ⟨id,0,m,by rw[hm];rfl,rfl⟩)) ?_;apply sR;simp only[go_sem,seval];refine aj λid1 Z1 s1 a1 f1=>?_;obtain⟨idA,hd,WK⟩:=(aq.new (K:=U) (e:=e) (sz:=sz) (n:=0) (rows:=[]) rfl a1 f1).dst (aa.refl _);have hsrc:bc Z1 sz (.own id 0 rows.length)=some rows:=by simp[bc,s1 _ _ ho]
  simp only[go_sem,seval,hd,hsrc,hb];refine aX λid2 Z2 s2 a2 f2=>?_;have Zm:=(WK U (aa.refl _) Z1 s1).trans s2;simp only[go_sem,seval];exact XX ⟨Zm,aq.new (by simp) a2 (s1.none f2)⟩
def Kg(vf:V){K U:ad}(fs:List T')(YF:aq K U 100 7 vf (fs.map az))(WZ:fs=[]->vf=.aB)(f:T')(y:Int)(s:Xr)(hl:fs.length<=1000000)(WB:∀f∈fs,f.ok)(hy:XU y)(hh:Bq f.h)(hw:Bq f.w)(X7:XU s.a/\XU s.b):
 av prog 181 [vf,az f,vI y,aP s] U λr Z'=>aa U Z'/\aq U Z' 100 7 r ((nU fs f y s).map az):=by
 refine Vw.q ?_;have hs:=aa.refl U;refine mS 14 ?_;simp only[go_sem,seval,OM,az,aP];refine al hs λi5 Z5 s5 a5 f5 z5 hs=>?_;simp only[go_sem,seval];refine al hs λi7 Z7 s7 a7 f7 _ hs=>?_;obtain⟨n57,a5⟩:=WG a5 f7 s7;simp only[go_sem,seval,a7,a5];refine pS rfl (aE.ud (args':=[ax fs,az f,vI y,aP s]) ⟨((YF.mono hs).zL).at,ZH _,ZH _,ZH _,trivial⟩ (OB fs f y s hl WB hy hh hw X7) rfl) ?_;simp only[go_sem,seval,a5,cm];generalize hq5:C' Z7 i5 _=Y5;have b5:Y5 i5=some ⟨100,7,[az (iC fs f y s)]⟩:=by rw[<-hq5];exact af
 have hs5:aa U Y5:=by rw[<-hq5];exact hs.ao z5
 clear hq5;have ZE:az (iC fs f y s)=.agg [vI f.node,vI f.side,vI f.anchor,vI (lY fs f y s),vI (jX fs f y s),vI f.w,vI f.h]:=rfl;rw[ZE]at b5;have Yd:(fs.map az).length=fs.length:=by simp
 have W1:(fs.length+1)*57<=140737488355328:=by omega
 have hres:fs.map az++[V.agg [vI f.node,vI f.side,vI f.anchor,vI (lY fs f y s),vI (jX fs f y s),vI f.w,vI f.h]]=(nU fs f y s).map az:=by simp[nU,<-ZE]
 have hne':fs.map az=[]->vf=.aB:=λh=>WZ (by simpa using h);refine ag.wm (by kernel_rfl) 8 (.fork [[],[0],[],[2],[1,3,0,2],[4,0,1,2,3]] [0,2] [1,3] [(.leaf [[],[0],[],[1,0,2],[1,0,3,2],[1,0,4,2,3]] [1,3,4,5]),(.leaf [[],[3,2,0],[],[2],[3,2,1,0],[3,2,4,0,1]] [3,1,4,5])]) (by kernel_rfl) ?_;refine GT.sY (its:=[0,4]) (by kernel_rfl) ?_;refine cI (n:=0) [] [0,4] [_,_] rfl rfl ?_;simp only[go_sem,seval,b5];refine⟨?_,?_⟩
 .refine GT.gZ (its:=[2,5,6,8,10]) (by kernel_rfl) ?_;refine RE.call rfl rfl rfl rfl rfl (AA func49 (e49.b.trans rfl) e49.c (YF.mono hs5) hne' (by simp;omega)) ?_;rintro r Z3 ⟨s3,WR⟩;replace b5:=s3 _ _ b5;have hs3:=hs5.trans s3;refine dy rfl (by simp only[go_sem,seval,b5]) ?_;refine cI (n:=0) [] [6,8,10] [_,_,_] rfl rfl ?_;simp only[go_sem,seval];refine bF λi9 Z9 s9 a9 f9=>?_;obtain⟨idA,Xg,WK⟩:=WR.dst s9;simp only[go_sem,seval,Xg,bl a9,Yd,W1,hres];refine eu λi10 Z10 Yt Xm f10=>?_;have Zs:=(WK U hs5 Z9 (hs3.trans s9)).trans Yt;have n10:U i10=none:=(hs3.trans s9).none f10;simp only[go_sem,seval];apply sR;simp only[go_sem,seval];exact XX ⟨Zs,aq.new (by simp[nU]) Xm n10⟩
 .refine GT.gZ (its:=[6,2,8,10]) (by kernel_rfl) ?_;refine cI (n:=0) [2,8,10] [6] [_] rfl rfl ?_;simp only[go_sem,seval];refine bF λi9 Z9 s9 a9 f9=>?_;simp only[go_sem,seval];refine RE.call rfl rfl rfl rfl rfl (AA func49 (e49.b.trans rfl) e49.c (YF.mono (hs5.trans s9)) hne' (by simp;omega)) ?_;rintro r Z3 ⟨s3,WR⟩;have a9':=s3 _ _ a9;obtain⟨idA,Xg,WK⟩:=WR.dst (aa.refl _);refine cI (n:=0) [] [8,10] [_,_] rfl rfl ?_;simp only[go_sem,seval,Xg,bl a9',Yd,W1,hres];refine eu λi10 Z10 Yt Xm f10=>?_;have Zs:=(WK U (hs5.trans s9) Z3 ((hs5.trans s9).trans s3)).trans Yt;have n10:U i10=none:=((hs5.trans s9).trans s3).none f10;simp only[go_sem,seval];apply sR;simp only[go_sem,seval];exact XX ⟨Zs,aq.new (by simp[nU]) Xm n10⟩
open Go.Proofs
structure XA where
 (kind node fr to x y w h:Int)
deriving DecidableEq
def bE(a:XA):V:=.agg [vI a.kind,vI a.node,vI a.fr,vI a.to,vI a.x,vI a.y,vI a.w,vI a.h]
def aT(l:List XA):V:=.sl 8 (l.map bE)
structure WS where
 atoms:List XA
 u':List T'
 U':Int
 Wy:Pn
structure WkJ(l:List Nd)(rs:List Rm)(Z0:ad)(iw:Nat)(s:WS)(U:ad):Prop where
 sub:aa Z0 U
 no:Z0 iw=none
 row:∃va vf,U iw=some ⟨155,7,[.agg [va,vf,vI s.U',vI s.Wy.y,vI s.Wy.m,ay l,cQ rs]]⟩/\
  aq (bj Z0 iw) U 90 8 va (s.atoms.map bE)/\aq (bj Z0 iw) U 100 7 vf (s.u'.map az)/\(s.u'=[]->vf=.aB)
def zP(l:List Rm):(cQ l).cells=[cQ l]:=rfl
def yW(l:List Rm):(cQ l).stays=true:=rfl
def LJ{U:ad}{l:List Rm}{i:Nat}(h:i<l.length):bp U 2 (cQ l) (.int .i64 i)=some (.rp (jU l[i])):=by simp[cQ,bp,h]
def aq.vc{K U:ad}{e sz:Nat}{v:V}{rows:List V}(h:aq K U e sz v rows):v.cells=[v]/\v.stays=true:=by rcases h with⟨rfl,_⟩|⟨_,rfl,_⟩<;>exact⟨rfl,rfl⟩
def ep(rs:List Rm)(a:Nat):Xr:=⟨(rs.getD a ⟨0,0⟩).x,(rs.getD a ⟨0,0⟩).x+(rs.getD a ⟨0,0⟩).w⟩
def A2{l:List Nd}{rs:List Rm}{Z0 U:ad}{iw:Nat}{s:WS}(hJ:WkJ l rs Z0 iw s U)(a:Nat)(ha:a<rs.length)(hr:rs[a].ok):
 av prog 178 [.ptr iw 0 0,vI a] U λr Z'=>r=aP (ep rs a)/\Z'=U:=by
 obtain⟨va,vf,w1,ha1,hf1,_⟩:=hJ.row;obtain⟨ca,sa⟩:=ha1.vc;obtain⟨cf,sf⟩:=hf1.vc;obtain⟨r1,r2,r3,r4⟩:=hr;have hgd:rs.getD a ⟨0,0⟩=rs[a]:=by simp[ha]
 have Wz:=λU=>LJ (U:=U) ha;unfold ep;rw[hgd];generalize rs[a]=r at*;have hen:jU r=.agg [vI r.x,vI r.w]:=rfl;have rr:WI .i64 (r.x+r.w):=ae;refine TJ.q ?_;refine mS 6 ?_;simp only[go_sem,seval,PU];refine aj λi4 Z4 s4 a4 f4=>?_;have w4:=s4 _ _ w1;simp only[go_sem,seval,w4,Wz,hen];refine aj λi5 Z5 s5 a5 f5=>?_;have b4:=s5 _ _ a4;have ZW:=aQ a4 f5;simp only[go_sem,seval,a5,b4,ab ZW,rr];exact ai.pure (((s4.trans s5).ao (s4.none f5)).ao f4) rfl
def sV(a:XA):(bE a).cells=[vI a.kind,vI a.node,vI a.fr,vI a.to,vI a.x,vI a.y,vI a.w,vI a.h]:=rfl
def AJ(a:XA):(bE a).stays=true:=rfl
def WS.put(s:WS)(a:XA):WS:={ s with atoms:=s.atoms++[a],Wy:=⟨a.y+a.h,0⟩ }
def JI{l:List Nd}{rs:List Rm}{Z0 U:ad}{iw:Nat}{s:WS}(hJ:WkJ l rs Z0 iw s U)(a:XA)(hy:Bq a.y)(hh:Bq a.h)(hn:s.atoms.length<=1000000):
 av prog 179 [.ptr iw 0 0,bE a] U λr Z'=>r=.WC []/\WkJ l rs Z0 iw (s.put a) Z':=by
 obtain⟨va,vf,w1,ha1,hf1,hf2⟩:=hJ.row;obtain⟨ca,sa⟩:=ha1.vc;obtain⟨cf,sf⟩:=hf1.vc;refine V7.q ?_;refine mS 4 ?_;simp only[go_sem,seval,QD,sV,AJ];refine aj λi3 Z3 s3 a3 f3=>?_;have w3:=s3 _ _ w1;simp only[go_sem,seval,w3,a3,sV];refine bF λi11 Z11 s11 XF f11=>?_;obtain⟨idA,Xg,WK,XG,hd2⟩:=ha1.mE (s3.trans s11);have W1:(s.atoms.length+1)*65<=140737488355328:=by omega
 have Yd:(s.atoms.map bE).length=s.atoms.length:=by simp
 simp only[go_sem,seval,Xg,bl XF,Yd,W1];rw[dM];intro i12 f12;have f12:Z11 i12=none:=f12;have w11:=s11 _ _ w3;have nw:=aQ w11 f12;have b3:=s11 _ _ a3;have n3:=aQ b3 f12;have nw3:=aQ w1 f3;have hdw:=XG iw _ w1 (.inr (by simp));have hd3:=hd2 i3 f3;have cw:(C' (Vc.bz Z11 idA) i12 ⟨90,8,s.atoms.map bE++[.agg [vI a.kind,vI a.node,vI a.fr,vI a.to,vI a.x,vI a.y,vI a.w,vI a.h]]⟩) iw=some ⟨155,7,[.agg [va,vf,vI s.U',vI s.Wy.y,vI s.Wy.m,ay l,cQ rs]]⟩:=by rw[ab nw,hdw];exact w11
 have c3:(C' (Vc.bz Z11 idA) i12 ⟨90,8,s.atoms.map bE++[.agg [vI a.kind,vI a.node,vI a.fr,vI a.to,vI a.x,vI a.y,vI a.w,vI a.h]]⟩) i3=some ⟨90,8,[.agg [vI a.kind,vI a.node,vI a.fr,vI a.to,vI a.x,vI a.y,vI a.w,vI a.h]]⟩:=by rw[ab n3,hd3];exact b3
 have c12:(C' (Vc.bz Z11 idA) i12 ⟨90,8,s.atoms.map bE++[.agg [vI a.kind,vI a.node,vI a.fr,vI a.to,vI a.x,vI a.y,vI a.w,vI a.h]]⟩) i12=some ⟨90,8,s.atoms.map bE++[.agg [vI a.kind,vI a.node,vI a.fr,vI a.to,vI a.x,vI a.y,vI a.w,vI a.h]]⟩:=af;have E':aa Z0 (C' (Vc.bz Z11 idA) i12 ⟨90,8,s.atoms.map bE++[.agg [vI a.kind,vI a.node,vI a.fr,vI a.to,vI a.x,vI a.y,vI a.w,vI a.h]]⟩):=by
  have h1:=WK Z0 (λi o h=>by rw[bj,au (λe=>by rw[e,hJ.no]at h;cases h)];exact h) Z11 ((hJ.sub.trans s3).trans s11);exact h1.ao (((hJ.sub.trans s3).trans s11).none f12)
 have Zi:bj Z0 iw i12=none:=aF.2 ⟨nw.symm,((hJ.sub.trans s3).trans s11).none f12⟩;have hf3:∀o,aq (bj Z0 iw) (C' (Vc.bz Z11 idA) i12 o) 100 7 vf (s.u'.map az):=λo=>by
  rcases hf1 with h|⟨id,h1,h2,h3⟩
  .exact .inl h
  .have h4:=s11 _ _ (s3 _ _ h2);exact .inr ⟨id,h1,by rw[ab (aQ h4 f12),XG id _ h2 (.inr (by simp))];exact h4,h3⟩
 replace hf3:=hf3 ⟨90,8,s.atoms.map bE++[.agg [vI a.kind,vI a.node,vI a.fr,vI a.to,vI a.x,vI a.y,vI a.w,vI a.h]]⟩;generalize C' (Vc.bz Z11 idA) i12 ⟨90,8,s.atoms.map bE++[.agg [vI a.kind,vI a.node,vI a.fr,vI a.to,vI a.x,vI a.y,vI a.w,vI a.h]]⟩=J at*;simp only[go_sem,seval,cw,cm];have dw:(C' J iw ⟨155,7,[.agg [.own i12 0 (s.atoms.length+1),vf,vI s.U',vI s.Wy.y,vI s.Wy.m,ay l,cQ rs]]⟩) iw=some ⟨155,7,[.agg [.own i12 0 (s.atoms.length+1),vf,vI s.U',vI s.Wy.y,vI s.Wy.m,ay l,cQ rs]]⟩:=af;have d3:(C' J iw ⟨155,7,[.agg [.own i12 0 (s.atoms.length+1),vf,vI s.U',vI s.Wy.y,vI s.Wy.m,ay l,cQ rs]]⟩) i3=some ⟨90,8,[.agg [vI a.kind,vI a.node,vI a.fr,vI a.to,vI a.x,vI a.y,vI a.w,vI a.h]]⟩:=by rw[ab nw3.symm];exact c3
 have d12:(C' J iw ⟨155,7,[.agg [.own i12 0 (s.atoms.length+1),vf,vI s.U',vI s.Wy.y,vI s.Wy.m,ay l,cQ rs]]⟩) i12=some ⟨90,8,s.atoms.map bE++[.agg [vI a.kind,vI a.node,vI a.fr,vI a.to,vI a.x,vI a.y,vI a.w,vI a.h]]⟩:=by rw[ab nw.symm];exact c12
 replace E':=E'.ao hJ.no (o:=⟨155,7,[.agg [.own i12 0 (s.atoms.length+1),vf,vI s.U',vI s.Wy.y,vI s.Wy.m,ay l,cQ rs]]⟩);have hf4:aq (bj Z0 iw) (C' J iw ⟨155,7,[.agg [.own i12 0 (s.atoms.length+1),vf,vI s.U',vI s.Wy.y,vI s.Wy.m,ay l,cQ rs]]⟩) 100 7 vf (s.u'.map az):=by
  rcases hf3 with h|⟨id,h1,h2,h3⟩
  .exact .inl h
  .exact .inr ⟨id,h1,by rw[ab (aF.1 h3).1];exact h2,h3⟩
 clear hf3 cw c3 c12;generalize C' J iw ⟨155,7,[.agg [.own i12 0 (s.atoms.length+1),vf,vI s.U',vI s.Wy.y,vI s.Wy.m,ay l,cQ rs]]⟩=Y2 at*;refine ag.tT (by kernel_rfl) [0,1,2,3,4,5,6,7,8,9,10,11,12] [[],[],[1],[1,2],[1,2,3],[],[5],[],[7],[1,2,3,4,5,6,7,8],[0,1,2,3,4,5,6,7,8,9],[0,1,2,3,4,5,6,7,8,9,10],[0,1,2,3,4,5,6,7,8,9,10,11]] [0,2,4,6,8,10,12,14,16,18,20,22,24] (by kernel_rfl) (by kernel_rfl) ?_;refine cI (n:=0) [18,20,22,24] [0,2,4,6,8,10,12,14,16] [_,_,_,_,_,_,_,_,_] rfl rfl ?_;simp only[go_sem,seval,dw,d3];refine reP rfl (Nw s.Wy a.y a.h hy hh _) ?_;refine cI (n:=0) [] [20,22,24] [_,_,_] rfl rfl ?_;simp only[go_sem,seval,dw,di];apply sR;simp only[go_sem,seval];have XV:aa Z0 (C' Y2 iw ⟨155,7,[.agg [.own i12 0 (s.atoms.length+1),vf,vI s.U',vI (a.y+a.h),vI 0,ay l,cQ rs]]⟩):=E'.ao hJ.no;refine XX ⟨rfl,XV,hJ.no,.own i12 0 (s.atoms.length+1),vf,af,?_,?_,hf2⟩
 .exact aq.new (by simp[WS.put]) (by rw[ab nw.symm,d12];simp[WS.put];rfl) Zi
 .rcases hf4 with h|⟨id,h1,h2,h3⟩
  .exact .inl h
  .exact .inr ⟨id,h1,by rw[ab (aF.1 h3).1];exact h2,h3⟩
def yr{l:List T'}{w high:Int}{s:Xr}:∀(k:Nat) (y:Int),gtJ l y<=k->kT l w high s (iH l w high s k y)=true
 |0,y,h=>by
  rw[iH];simp only[kT,lG,Bool.not_eq_true',YX];left;cases hn:(cC l y high s).2 with
  |false=>rfl
  |true=>
   have:=mr (eR hn);omega
 |k+1,y,h=>by
  rw[iH];split
  .rename_i hb;exact hb
  .rename_i hb;simp only[kT,lG,Bool.not_eq_true',not_or,Bool.not_eq_false]at hb;have:=mr (eR hb.1);exact yr k _ (by omega)
def GS(l:List T')(w high:Int)(s:Xr)(y:Int):(cC l (qj l w high s y) high s).2=false\/fj (bM l (qj l w high s y) high s)>=w:=by
 have:=yr (l:=l) (w:=w) (high:=high) (s:=s) l.length y (List.length_filter_le _ _);simp only[kT,lG,Bool.not_eq_true',YX]at this;exact this
def tp{l:List T'}{w high B:Int}{s:Xr}(hB:∀f∈l,f.y+f.h<=B):∀(k:Nat) (y:Int),y<=iH l w high s k y/\iH l w high s k y<=max y B
 |0,y=>by simp only[iH];omega
 |k+1,y=>by
  rw[iH];split
  .omega
  .rename_i hb;simp only[kT,lG,Bool.not_eq_true',not_or,Bool.not_eq_false]at hb;obtain⟨f,hm,h1,h2⟩:=eR hb.1;have:=tp hB k (cC l y high s).1 (w:=w) (high:=high) (s:=s);have:=hB f hm;omega
def ED(f:T')(s:Xr):s.a<=(gN f s).a/\(gN f s).b<=s.b:=by
 unfold gN;split
 .simp only;omega
 .simp only;omega
def Bx:∀(l:List T') (s:Xr),s.a<=(l.foldl (λs f=>gN f s) s).a/\(l.foldl (λs f=>gN f s) s).b<=s.b
 |[],s=>by simp
 |f::l,s=>by
  have h1:=ED f s;have h2:=Bx l (gN f s);simp only[gg];omega
def Iu(l:List T')(y high:Int)(s:Xr):s.a<=(bM l y high s).a/\(bM l y high s).b<=s.b:=Bx _ _
structure FOk(B:Int)(f:T'):Prop where
 x0:0<=f.x
 w0:0<=f.w
 w1:f.w<=1099511627776
 h0:0<=f.h
 h1:f.h<=1099511627776
 y0:0<=f.y
 yB:f.y+f.h<=B
 xw:f.x+f.w<=8796093022208
def FOk.ok{B:Int}{f:T'}(h:FOk B f)(hB:B<=1152921504606846976):f.ok:=by
 obtain⟨h1,h2,h3,h4,h5,h6,h7,h8⟩:=h;exact⟨⟨by omega,by omega⟩,⟨by omega,by omega⟩,⟨by omega,by omega⟩,⟨by omega,by omega⟩⟩
def FOk.mono{B C:Int}{f:T'}(h:FOk B f)(hB:B<=C):FOk C f:=by
 obtain⟨h1,h2,h3,h4,h5,h6,h7,h8⟩:=h;exact⟨h1,h2,h3,h4,h5,h6,by omega,h8⟩
def Gp(s:Xr):Prop:=0<=s.a/\s.a<=2199023255552/\0<=s.b/\s.b<=2199023255552
def DV{fs:List T'}{B y:Int}(hB:∀f∈fs,FOk B f):y<=mN fs y/\mN fs y<=max y B:=by
 unfold mN;split
 .rename_i h;obtain⟨f,hf,h1,_⟩:=kC h;have:=hB f hf;have h2:(ld f).1=f.y:=rfl;rw[h1,h2];have:=this.yB;have:=(hB f hf).h0;omega
 .omega
def AD{fs:List T'}{B y:Int}(hB:∀f∈fs,FOk B f)(f:T')(s:Xr):y<=jX fs f y s/\jX fs f y s<=max y B:=by
 have h1:=DV (y:=y) hB;have h2:=tp (w:=f.w) (high:=f.h) (s:=s) (λf hf=>(hB f hf).yB) fs.length (mN fs y);unfold jX qj;omega
def FY{fs:List T'}{B y:Int}(hB:∀f∈fs,FOk B f){f:T'}{s:Xr}(hs:Gp s)(hy0:0<=y)(hyB:y<=B)(w0:1<=f.w)(w1:f.w<=1099511627776)(h0:0<=f.h)(h1:f.h<=1099511627776):FOk (B+1099511627776) (iC fs f y s):=by
 obtain⟨s1,s2,s3,s4⟩:=hs;have hy:=AD (y:=y) hB f s;have hb:=Iu fs (jX fs f y s) f.h s;have hx:0<=lY fs f y s/\lY fs f y s+f.w<=8796093022208:=by
  unfold lY;simp only;have he:=GS fs f.w f.h s (mN fs y);have e:qj fs f.w f.h s (mN fs y)=jX fs f y s:=rfl;rw[e]at he;rcases he with h|h
  .have Ys:bM fs (jX fs f y s) f.h s=s:=Classical.byContradiction λhn=>by
    have:=mA hn;rw[h]at this;cases this
   rw[Ys];split<;>omega
  .unfold fj at h;split at h
   .omega
   .split<;>omega
 exact⟨hx.1,by simp only[iC];omega,by simp only[iC];omega,by simp only[iC];omega,by simp only[iC];omega,by simp only[iC];omega,by simp only[iC];omega,by simpa[iC]using hx.2⟩
def LI{fs:List T'}{B y:Int}(hB:∀f∈fs,FOk B f){f:T'}{s:Xr}(hs:Gp s)(hy0:0<=y)(hyB:y<=B)(w0:1<=f.w)(w1:f.w<=1099511627776)(h0:0<=f.h)(h1:f.h<=1099511627776):∀g∈nU fs f y s,FOk (B+1099511627776) g:=by
 intro g hg;rcases dH.1 hg with hg|hg
 .exact(hB g hg).mono (by omega)
 .simp only[ja]at hg;subst hg;exact FY hB hs hy0 hyB w0 w1 h0 h1
structure Bd(s:WS)(B:Int):Prop where
 fl:∀f∈s.u',FOk B f
 y0:0<=s.Wy.y
 m0:0<=s.Wy.m
 m1:s.Wy.m<=1099511627776
 yB:s.Wy.y+s.Wy.m<=B
def Bd.mono{s:WS}{B C:Int}(h:Bd s B)(hB:B<=C):Bd s C:=⟨λf hf=>(h.fl f hf).mono hB,h.y0,h.m0,h.m1,by have:=h.yB;omega⟩
def WS.mono(l:List Nd)(rs:List Rm)(s:WS)(a:Nat)(n:Nd):WS:=
 let W3:=fX s.u' n.w n.h (ep rs a) (s.Wy.y+s.Wy.m)
 let b:=bM s.u' W3 n.h (ep rs a)
 s.put ⟨2,a,0,0,b.a,W3,n.w,n.h⟩
def eQ(a:Nat)(h:Int)(x:Ln):XA:=⟨1,a,x.fr,x.to,x.x,x.y,x.w,h⟩
def WS.text(rs:List Rm)(s:WS)(a:Nat)(n:Nd):WS:=
 (cz s.u' n.words n.space n.line (ep rs a) n.words.length 0 (s.Wy.y+s.Wy.m)).foldl (λs x=>s.put (eQ a n.line x)) s
def WS.float(rs:List Rm)(s:WS)(a:Nat)(n:Nd):WS:=
 { s with u':=nU s.u' ⟨a,n.side,s.atoms.length,0,0,n.w,n.h⟩ (s.Wy.y+s.Wy.m) (ep rs a) }
def WS.enter(s:WS)(t:Ye):WS:=
 let p:=if(cy (fS t.clear) s.u').2 then eH s.Wy (cy (fS t.clear) s.u').1 else s.Wy
 { s with Wy:=dF p t.top t.WD }
def WS.leave(s:WS)(t:Ye):WS:={ s with Wy:=j9 s.Wy t.WV t.O' }
def Bd.enter{s:WS}{B:Int}(h:Bd s B){t:Ye}(ht:SOk t):Bd (s.enter t) (B+2199023255552):=by
 obtain⟨hf,h1,h2,h3,h4⟩:=h;have hp:∀p:Pn,0<=p.y->0<=p.m->p.m<=1099511627776->p.y+p.m<=B->Bd { s with Wy:=dF p t.top t.WD } (B+2199023255552):=by
  intro p g1 g2 g3 g4;have a1:=ht.top;have a2:=ht.WD;refine⟨λf hf'=>(hf f hf').mono (by omega),?_,?_,?_,?_⟩<;>simp only[dF,kX]<;>(repeat' split)<;>omega
 unfold WS.enter;simp only;split
 .rename_i hm;obtain⟨f,hfm,e1,_⟩:=kC hm;have e2:(fS t.clear f).1=f.y+f.h:=rfl;have hfo:=hf f hfm;have hy:=hfo.yB;rw[e1,e2];refine hp _ ?_ ?_ ?_ ?_<;>(unfold eH;split)<;>(try simp only)<;>omega
 .exact hp _ h1 h2 h3 h4
def Bd.leave{s:WS}{B:Int}(h:Bd s B){t:Ye}(ht:SOk t):Bd (s.leave t) (B+2199023255552):=by
 obtain⟨hf,h1,h2,h3,h4⟩:=h;have a1:=ht.WV;have a2:=ht.O';refine⟨λf hf'=>(hf f hf').mono (by omega),?_,?_,?_,?_⟩<;>simp only[WS.leave,j9,kX]<;>(repeat' split)<;>omega
open Go.Proofs
structure DOk(l:List Nd)(rs:List Rm):Prop where
 qQ:l.length<=2000
 isb:Xh l=true
 len:rs.length=l.length
 rok:∀r∈rs,r.ok
def DOk.room{l:List Nd}{rs:List Rm}(h:DOk l rs){a:Nat}(ha:a<l.length):∃h':a<rs.length,rs[a].ok:=⟨by rw[h.len];exact ha,h.rok _ (Xo _)⟩
def DOk.span{l:List Nd}{rs:List Rm}(h:DOk l rs){a:Nat}(ha:a<l.length):Gp (ep rs a):=by
 obtain⟨h',r1,r2,r3,r4⟩:=h.room ha;have e:rs.getD a ⟨0,0⟩=rs[a]:=by simp[h']
 unfold ep Gp;rw[e];simp only;omega
def Gp.bq{s:Xr}(h:Gp s):XU s.a/\XU s.b:=by obtain⟨a,b,c,d⟩:=h;exact⟨⟨by omega,by omega⟩,⟨by omega,by omega⟩⟩
def Bd.flo{s:WS}{B:Int}(h:Bd s B)(hB:B<=1152921504606846976):∀f∈s.u',f.ok:=λf hf=>(h.fl f hf).ok hB
def gJ(l:List Nd){a:Nat}(h:a<l.length)(U:ad):bp U 20 (ay l) (.int .i64 a)=some (.rp (.agg (Nd.cells l[a]))):=bI h
def WkJ.mono{l:List Nd}{rs:List Rm}{Z0 U J:ad}{iw:Nat}{s:WS}(hJ:WkJ l rs Z0 iw s U)(hs:aa U J):WkJ l rs Z0 iw s J:=by
 obtain⟨va,vf,w1,h1,h2,h3⟩:=hJ.row;exact⟨hJ.sub.trans hs,hJ.no,va,vf,hs _ _ w1,h1.mono hs,h2.mono hs,h3⟩
def tD2:List (List Nat):=[[],[0],[1,0],[2,1,0],[3,2,1,0],[],[5],[],[7],[],[9],[10,9],[11,10,9],[12,11,10,9],[],[],[14,15,13,12,11,10,9],[4,6,8,13,16,3,2,1,0,5,7,12,11,10,9,14,15],[17,4,6,8,13,16,3,2,1,0,5,7,12,11,10,9,14,15],[18,17,4,6,8,13,16,3,2,1,0,5,7,12,11,10,9,14,15],[18,17,4,6,8,13,16,3,2,1,0,5,7,12,11,10,9,14,15],[],[21,19,17,0,1,2,3,4,5,6,7,8,9,10,11,12,13,14,15,16,18],[20,22,0,1,2,3,4,5,6,7,8,9,10,11,12,13,14,15,16,17,18,19,21]]
def KX{l:List Nd}{rs:List Rm}(hD:DOk l rs){Z0 U:ad}{iw:Nat}{s:WS}{B:Int}(hJ:WkJ l rs Z0 iw s U)(hB:Bd s B)(hB1:B<=576460752303423488)(a:Nat)(ha:a<l.length)(hk:l[a].kind=3)(hn:s.atoms.length<=100000)(hfn:s.u'.length<=100000):
 av prog 132 [.ptr iw 0 0,vI a] U λr Z'=>r=.WC []/\WkJ l rs Z0 iw (WS.mono l rs s a l[a]) Z':=by
 obtain⟨va,vf,w1,ha1,hf1,hf2⟩:=hJ.row;obtain⟨ca,sa⟩:=ha1.vc;obtain⟨cf,sf⟩:=hf1.vc;have Xa:=ec hD.isb ha;have hsp:=hD.span ha;obtain⟨har,hrok⟩:=hD.room ha;have Wz:=gJ l ha;unfold WS.mono;generalize l[a]=n at*;refine Wo.q ?_;refine mS 7 ?_;simp only[go_sem,seval,QM,w1,Wz,Nd.cells];refine aj λi4 Z4 s4 a4 f4=>?_;simp only[go_sem,seval,a4,cm];generalize hq4:C' Z4 i4 _=Y4;have b4:Y4 i4=some ⟨48,20,[.agg (Nd.cells n)]⟩:=by rw[<-hq4];exact af
 rw[Nd.cells]at b4;have s4':aa U Y4:=by rw[<-hq4];exact s4.ao f4
 clear hq4;have w4:=s4' _ _ w1;have hlen:u9 Y4 vf (ax s.u'):=(hf1.mono s4').zL;have hJ4:=hJ.mono s4';have hm:=hB.m1;have hm0:=hB.m0;have hy0:=hB.y0;have hyB:=hB.yB;have hhs:=Xa.h;have YU:=JG s.u' n.w n.h (s.Wy.y+s.Wy.m) (ep rs a) (by omega) (hB.flo (by omega)) ⟨by omega,by omega⟩ ⟨by omega,by omega⟩ hsp.bq;obtain⟨W3,Yg⟩:∃z,z=fX s.u' n.w n.h (ep rs a) (s.Wy.y+s.Wy.m):=⟨_,rfl⟩
 have hyr:=eS (w:=n.w) (high:=n.h) (y:=s.Wy.y+s.Wy.m) (s:=ep rs a) (λf hf=>(hB.fl f hf).yB);rw[<-Yg]at YU hyr|-;obtain⟨b,hb⟩:∃b,b=bM s.u' W3 n.h (ep rs a):=⟨_,rfl⟩
 rw[<-hb]at YU|-;have fin:∀(S:Nat->V) (J:ad) (i5:Nat),aa Y4 J->J i5=some ⟨219,2,[.agg [vI b.a,vI b.b]]⟩->S 0=.ptr iw 0 0->S 1=vI a->S 4=.ptr i4 0 0->S 5=.ptr i5 0 0->S 6=vI W3->
  ag prog 46 [It.code (.reg false [⟨some 35,.mov (.t 0),none⟩,⟨some 36,.mov (.t 1),none⟩,⟨some 37,.fldA false 0 1 (.t 5),none⟩,⟨some 38,.load false 1 (.t 37),none⟩,⟨some 39,.mov (.t 6),none⟩,⟨some 40,.fldA false 18 1 (.t 4),none⟩,⟨some 41,.load false 1 (.t 40),none⟩,⟨some 42,.fldA false 19 1 (.t 4),none⟩,⟨some 43,.load false 1 (.t 42),none⟩,⟨some 44,.build [.int .i64 0,.int .i64 0,.int .i64 0,.int .i64 0,.int .i64 0,.int .i64 0,.int .i64 0,.int .i64 0] [(0,1,.c (.int .i64 2)),(1,1,.t 36),(4,1,.t 38),(5,1,.t 39),(6,1,.t 41),(7,1,.t 43)],none⟩,⟨some 45,.call (.c (.fn 179 [])) [.t 35,.t 44],none⟩])] ⟨S,J⟩
   (λst=>ai (.WC []) st.U λr Z'=>r=.WC []/\WkJ l rs Z0 iw (s.put ⟨2,a,0,0,b.a,W3,n.w,n.h⟩) Z'):=by
  intro S J i5 hτ c5 t0 t1 t4 t5 t6;have c4:=hτ _ _ b4;refine mS 7 ?_;simp only[go_sem,seval,t0,t1,t4,t5,t6,c4,c5];refine Yn rfl (JI (hJ4.mono hτ) ⟨2,a,0,0,b.a,W3,n.w,n.h⟩ (show Bq W3 from⟨by omega,by omega⟩) (show Bq n.h from⟨by omega,by omega⟩) (by omega)) ?_;rintro r Z' ⟨rfl,ZC⟩;apply sR;simp only[go_sem,seval];exact XX ⟨rfl,ZC⟩
 refine ag.wm (by kernel_rfl) 8 (.fork tD2 [0,1,2,3,4,5,6,7,8,9,10,11,12,14,15] [13,21] [(.fork (sX tD2 [(21,[13,12,11,10,9]),(22,[13,12,11,10,9,21,19,17,0,1,2,3,4,5,6,7,8,14,15,16,18]),(23,[13,12,11,10,9,20,22,0,1,2,3,4,5,6,7,8,14,15,16,17,18,19,21])]) [13] [16,21] [(.fork (sX tD2 [(21,[16,14,15,13,12,11,10,9]),(22,[16,14,15,13,12,11,10,9,21,19,17,0,1,2,3,4,5,6,7,8,18]),(23,[16,14,15,13,12,11,10,9,20,22,0,1,2,3,4,5,6,7,8,17,18,19,21])]) [16] [17,21] [(.leaf (sX tD2 [(21,[17,4,6,8,13,16,3,2,1,0,5,7,12,11,10,9,14,15]),(22,[17,4,6,8,13,16,3,2,1,0,5,7,12,11,10,9,14,15,21,19,18]),(23,[17,4,6,8,13,16,3,2,1,0,5,7,12,11,10,9,14,15,20,22,18,19,21])]) [17,18,19,20,21,22,23]),(.leaf (sX tD2 [(17,[21,16,14,15,13,12,11,10,9,4,6,8,3,2,1,0,5,7]),(18,[21,16,14,15,13,12,11,10,9,17,4,6,8,3,2,1,0,5,7]),(19,[21,16,14,15,13,12,11,10,9,18,17,4,6,8,3,2,1,0,5,7]),(20,[21,16,14,15,13,12,11,10,9,18,17,4,6,8,3,2,1,0,5,7]),(21,[16,14,15,13,12,11,10,9]),(22,[21,16,14,15,13,12,11,10,9,19,17,0,1,2,3,4,5,6,7,8,18]),(23,[21,16,14,15,13,12,11,10,9,20,22,0,1,2,3,4,5,6,7,8,17,18,19])]) [21,17,18,19,20,22,23])]),(.leaf (sX tD2 [(16,[21,13,12,11,10,9,14,15]),(17,[21,13,12,11,10,9,4,6,8,16,3,2,1,0,5,7,14,15]),(18,[21,13,12,11,10,9,17,4,6,8,16,3,2,1,0,5,7,14,15]),(19,[21,13,12,11,10,9,18,17,4,6,8,16,3,2,1,0,5,7,14,15]),(20,[21,13,12,11,10,9,18,17,4,6,8,16,3,2,1,0,5,7,14,15]),(21,[13,12,11,10,9]),(22,[21,13,12,11,10,9,19,17,0,1,2,3,4,5,6,7,8,14,15,16,18]),(23,[21,13,12,11,10,9,20,22,0,1,2,3,4,5,6,7,8,14,15,16,17,18,19])]) [21,16,17,18,19,20,22,23])]),(.leaf (sX tD2 [(13,[21,12,11,10,9]),(16,[21,14,15,13,12,11,10,9]),(17,[21,4,6,8,13,16,3,2,1,0,5,7,12,11,10,9,14,15]),(18,[21,17,4,6,8,13,16,3,2,1,0,5,7,12,11,10,9,14,15]),(19,[21,18,17,4,6,8,13,16,3,2,1,0,5,7,12,11,10,9,14,15]),(20,[21,18,17,4,6,8,13,16,3,2,1,0,5,7,12,11,10,9,14,15]),(23,[21,20,22,0,1,2,3,4,5,6,7,8,9,10,11,12,13,14,15,16,17,18,19])]) [21,13,16,17,18,19,20,22,23])]) (by kernel_rfl) ?_;refine GT.sY (its:=[0,2,4,6,8,10,12,14,16,18,20,22,24,28,30]) (by kernel_rfl) ?_;refine cI (n:=0) [] [0,2,4,6,8,10,12,14,16,18,20,22,24,28,30] [_,_,_,_,_,_,_,_,_,_,_,_,_,_,_] rfl rfl ?_;simp only[go_sem,seval,b4,w4];refine⟨?_,?_⟩
 .refine GT.sY (its:=[26,9,13,17]) (by kernel_rfl) ?_;refine reP rfl (F3 s.Wy ⟨by omega,by omega⟩ ⟨by omega,by omega⟩ _) ?_;refine dy rfl (by simp only[go_sem,seval,w4]) ?_;refine dy rfl (by simp only[go_sem,seval,b4]) ?_;refine dy rfl (by simp only[go_sem,seval,b4]) ?_;refine⟨?_,?_⟩
  .refine GT.sY (its:=[32,9,13,17]) (by kernel_rfl) ?_;refine reP rfl (A2 hJ4 a har hrok) ?_;refine dy rfl (by simp only[go_sem,seval,w4]) ?_;refine dy rfl (by simp only[go_sem,seval,b4]) ?_;refine dy rfl (by simp only[go_sem,seval,b4]) ?_;refine⟨?_,?_⟩
   .refine GT.gZ (its:=[34,36,38,40,42,44,46]) (by kernel_rfl) ?_;refine reP rfl (aE.ud (args':=[ax s.u',vI n.w,vI n.h,vI (s.Wy.y+s.Wy.m),aP (ep rs a)]) ⟨hlen.at,ZH _,ZH _,ZH _,ZH _,trivial⟩ YU rfl) ?_;refine cI (n:=0) [] [36,38,40,42,44,46] [_,_,_,_,_,_] rfl rfl ?_;simp only[go_sem,seval];refine bF λi5 Z5 s5 a5 f5=>?_;replace b4:=s5 _ _ b4;replace w4:=s5 _ _ w4;replace hlen:=hlen.mono s5;replace hJ4:=hJ4.mono s5;simp only[go_sem,seval,a5,aP];exact fin _ _ i5 (s5.ao f5) af rfl rfl rfl rfl rfl
   .refine GT.gZ (its:=[42,9,13,17,34,36,38,40,44,46]) (by kernel_rfl) ?_;refine cI (n:=0) [9,13,17,34,36,38,40,44,46] [42] [_] rfl rfl ?_;simp only[go_sem,seval];refine bF λi5 Z5 s5 a5 f5=>?_;replace b4:=s5 _ _ b4;replace w4:=s5 _ _ w4;replace hlen:=hlen.mono s5;replace hJ4:=hJ4.mono s5;simp only[go_sem,seval,aP];refine dy rfl (by simp only[go_sem,seval,w4]) ?_;refine dy rfl (by simp only[go_sem,seval,b4]) ?_;refine dy rfl (by simp only[go_sem,seval,b4]) ?_;refine reP rfl (aE.ud (args':=[ax s.u',vI n.w,vI n.h,vI (s.Wy.y+s.Wy.m),aP (ep rs a)]) ⟨hlen.at,ZH _,ZH _,ZH _,ZH _,trivial⟩ YU rfl) ?_;refine cI (n:=0) [] [36,38,40,44,46] [_,_,_,_,_] rfl rfl ?_;simp only[go_sem,seval,a5,aP];exact fin _ _ i5 (s5.ao f5) af rfl rfl rfl rfl rfl
  .refine GT.gZ (its:=[42,9,13,17,32,9,13,17,34,36,38,40,44,46]) (by kernel_rfl) ?_;refine cI (n:=0) [9,13,17,32,9,13,17,34,36,38,40,44,46] [42] [_] rfl rfl ?_;simp only[go_sem,seval];refine bF λi5 Z5 s5 a5 f5=>?_;replace b4:=s5 _ _ b4;replace w4:=s5 _ _ w4;replace hlen:=hlen.mono s5;replace hJ4:=hJ4.mono s5;simp only[go_sem,seval];refine dy rfl (by simp only[go_sem,seval,w4]) ?_;refine dy rfl (by simp only[go_sem,seval,b4]) ?_;refine dy rfl (by simp only[go_sem,seval,b4]) ?_;refine reP rfl (A2 hJ4 a har hrok) ?_;refine dy rfl (by simp only[go_sem,seval,w4,aP]) ?_;refine dy rfl (by simp only[go_sem,seval,b4,aP]) ?_;refine dy rfl (by simp only[go_sem,seval,b4,aP]) ?_;refine reP rfl (aE.ud (args':=[ax s.u',vI n.w,vI n.h,vI (s.Wy.y+s.Wy.m),aP (ep rs a)]) ⟨hlen.at,ZH _,ZH _,ZH _,ZH _,trivial⟩ YU rfl) ?_;refine cI (n:=0) [] [36,38,40,44,46] [_,_,_,_,_] rfl rfl ?_;simp only[go_sem,seval,a5,aP];exact fin _ _ i5 (s5.ao f5) af rfl rfl rfl rfl rfl
 .refine GT.gZ (its:=[42,9,13,17,25,26,9,13,17,32,9,13,17,34,36,38,40,44,46]) (by kernel_rfl) ?_;refine cI (n:=0) [9,13,17,25,26,9,13,17,32,9,13,17,34,36,38,40,44,46] [42] [_] rfl rfl ?_;simp only[go_sem,seval];refine bF λi5 Z5 s5 a5 f5=>?_;replace b4:=s5 _ _ b4;replace w4:=s5 _ _ w4;replace hlen:=hlen.mono s5;replace hJ4:=hJ4.mono s5;simp only[go_sem,seval];refine dy rfl (by simp only[go_sem,seval,w4]) ?_;refine dy rfl (by simp only[go_sem,seval,b4]) ?_;refine dy rfl (by simp only[go_sem,seval,b4]) ?_;refine dy rfl (by simp only[go_sem,seval,w4]) ?_;refine reP rfl (F3 s.Wy ⟨by omega,by omega⟩ ⟨by omega,by omega⟩ _) ?_;refine dy rfl (by simp only[go_sem,seval,w4]) ?_;refine dy rfl (by simp only[go_sem,seval,b4]) ?_;refine dy rfl (by simp only[go_sem,seval,b4]) ?_;refine reP rfl (A2 hJ4 a har hrok) ?_;refine dy rfl (by simp only[go_sem,seval,w4,aP]) ?_;refine dy rfl (by simp only[go_sem,seval,b4,aP]) ?_;refine dy rfl (by simp only[go_sem,seval,b4,aP]) ?_;refine reP rfl (aE.ud (args':=[ax s.u',vI n.w,vI n.h,vI (s.Wy.y+s.Wy.m),aP (ep rs a)]) ⟨hlen.at,ZH _,ZH _,ZH _,ZH _,trivial⟩ YU rfl) ?_;refine cI (n:=0) [] [36,38,40,44,46] [_,_,_,_,_] rfl rfl ?_;simp only[go_sem,seval,a5,aP];exact fin _ _ i5 (s5.ao f5) af rfl rfl rfl rfl rfl
open Go.Proofs
def aq.DD{Z0 J:ad}{iw e sz:Nat}{v:V}{rows:List V}{o:Ob}(h:aq (bj Z0 iw) J e sz v rows):aq (bj Z0 iw) (C' J iw o) e sz v rows:=by
 rcases h with h|⟨id,h1,h2,h3⟩
 .exact .inl h
 .exact .inr ⟨id,h1,by rw[ab (aF.1 h3).1];exact h2,h3⟩
def aq.nv{Z0 J U:ad}{iw e sz:Nat}{v:V}{rows:List V}(h:aq J U e sz v rows)(hs:aa Z0 J){o:Ob}(hw:J iw=some o):aq (bj Z0 iw) U e sz v rows:=by
 rcases h with h|⟨id,h1,h2,h3⟩
 .exact .inl h
 .exact .inr ⟨id,h1,h2,aF.2 ⟨λe=>(by rw[e,hw]at h3;cases h3),hs.none h3⟩⟩
def G5{l:List Nd}{rs:List Rm}(hD:DOk l rs){Z0 U:ad}{iw:Nat}{s:WS}{B:Int}(hJ:WkJ l rs Z0 iw s U)(hB:Bd s B)(hB1:B<=576460752303423488)(a:Nat)(ha:a<l.length)(hn:s.atoms.length<=100000)(hfn:s.u'.length<=100000):
 av prog 133 [.ptr iw 0 0,vI a] U λr Z'=>r=.WC []/\WkJ l rs Z0 iw (WS.float rs s a l[a]) Z':=by
 obtain⟨va,vf,w1,ha1,hf1,hf2⟩:=hJ.row;obtain⟨ca,sa⟩:=ha1.vc;obtain⟨cf,sf⟩:=hf1.vc;have ZN:dv false va=some (.int .i64 s.atoms.length):=by rw[ha1.len];simp
 have Xa:=ec hD.isb ha;have hsp:=hD.span ha;obtain⟨har,hrok⟩:=hD.room ha;have Wz:=gJ l ha;unfold WS.float;generalize l[a]=n at*;refine Wb.q ?_;refine mS 6 ?_;simp only[go_sem,seval,RB,w1,Wz,Nd.cells];refine aj λi4 Z4 s4 a4 f4=>?_;have w4':=s4 _ _ w1;have n4:=aQ w1 f4;simp only[go_sem,seval,a4,w4',ab n4,ZN];generalize hq4:C' Z4 i4 _=Y4;have b4:Y4 i4=some ⟨48,20,[.agg (Nd.cells n)]⟩:=by rw[<-hq4];exact af
 rw[Nd.cells]at b4;have s4'':aa U Y4:=by rw[<-hq4];exact s4.ao f4
 clear hq4;have w4:=s4'' _ _ w1;refine bF λi5 Z5 s5 a5 f5=>?_;have s5':=s4''.trans s5;have hJ5:=hJ.mono (s5'.ao (o:=⟨100,7,[az ⟨a,n.side,s.atoms.length,0,0,n.w,n.h⟩]⟩) (s4''.none f5));have hen:az ⟨a,n.side,s.atoms.length,0,0,n.w,n.h⟩=.agg [vI a,vI n.side,vI s.atoms.length,vI 0,vI 0,vI n.w,vI n.h]:=rfl;rw[hen]at hJ5;simp only[go_sem,seval,a5,cm];generalize hq5:C' Z5 i5 _=Y5 at*;have b5:Y5 i5=some ⟨100,7,[.agg [vI a,vI n.side,vI s.atoms.length,vI 0,vI 0,vI n.w,vI n.h]]⟩:=by rw[<-hq5];exact af
 have w5:Y5 iw=some ⟨155,7,[.agg [va,vf,vI s.U',vI s.Wy.y,vI s.Wy.m,ay l,cQ rs]]⟩:=by rw[<-hq5,ab (aQ w4 f5)];exact s5 _ _ w4
 have s6:aa U Y5:=by rw[<-hq5];exact s5'.ao (s4''.none f5)
 clear hq5;have hf5:=hf1.mono s6;have hm:=hB.m1;have hm0:=hB.m0;have hy0:=hB.y0;have hyB:=hB.yB;have hws:=Xa.w;have hhs:=Xa.h;have hput:=Kg vf s.u' hf5 hf2 ⟨a,n.side,s.atoms.length,0,0,n.w,n.h⟩ (s.Wy.y+s.Wy.m) (ep rs a) (by omega) (hB.flo (by omega)) ⟨by omega,by omega⟩ (show Bq n.h from⟨by omega,by omega⟩) (show Bq n.w from⟨by omega,by omega⟩) hsp.bq;rw[hen]at hput;have hpne:nU s.u' ⟨a,n.side,s.atoms.length,0,0,n.w,n.h⟩ (s.Wy.y+s.Wy.m) (ep rs a)≠[]:=by simp[nU]
 have hs05:=hJ.sub.trans s6;have w5o:=w5;generalize nU s.u' ⟨a,n.side,s.atoms.length,0,0,n.w,n.h⟩ (s.Wy.y+s.Wy.m) (ep rs a)=fs' at*;refine ag.wm (by kernel_rfl) 8 (.leaf [[],[],[1],[2,1],[3,2,1],[4,3,2,1],[],[],[7],[8,7],[9,8,7],[10,9,8,7],[],[],[12,13,11,10,9,8,7],[5,6,11,14,4,3,2,1,10,9,8,7,12,13],[0,1,2,3,4,5,6,7,8,9,10,11,12,13,14,15],[16,0,1,2,3,4,5,6,7,8,9,10,11,12,13,14,15],[17,0,1,2,3,4,5,6,7,8,9,10,11,12,13,14,15,16],[18,15,0,1,2,3,4,5,6,7,8,9,10,11,12,13,14,17,16]] [0,1,2,3,4,5,6,7,8,9,10,12,13,11,14,15,16,17,18,19]) (by kernel_rfl) ?_;refine GT.gZ (its:=[0,2,4,6,8,10,12,14,16,18,20,24,26,22,11,13,28,11,13,30,32,34,36,38]) (by kernel_rfl) ?_;refine cI (n:=0) [22,11,13,28,11,13,30,32,34,36,38] [0,2,4,6,8,10,12,14,16,18,20,24,26] [_,_,_,_,_,_,_,_,_,_,_,_,_] rfl rfl ?_;simp only[go_sem,seval,b5,w5];refine reP rfl (F3 s.Wy ⟨by omega,by omega⟩ ⟨by omega,by omega⟩ _) ?_;refine dy rfl (by simp only[go_sem,seval,w5]) ?_;refine dy rfl (by simp only[go_sem,seval,b5]) ?_;refine reP rfl (A2 hJ5 a har hrok) ?_;refine dy rfl (by simp only[go_sem,seval,w5]) ?_;refine dy rfl (by simp only[go_sem,seval,b5]) ?_;refine RE.call rfl rfl rfl rfl rfl hput ?_;rintro r Z7 ⟨s7,WR⟩;replace b5:=s7 _ _ b5;replace w5:=s7 _ _ w5;obtain⟨cr,sr⟩:=WR.vc;refine cI (n:=0) [] [32,34,36,38] [_,_,_,_] rfl rfl ?_;simp only[go_sem,seval,w5,cr,sr];apply sR;simp only[go_sem,seval];refine XX ⟨rfl,?_⟩;have hfa:=(ha1.mono s6).mono s7;exact⟨(hs05.trans s7).ao hJ.no,hJ.no,va,r,af,hfa.DD,(WR.nv hs05 w5o).DD,λh=>absurd h hpne⟩
open Go.Proofs
section
variable {P:Program} {n:Nat} {st:St} {Q:St->Prop} {k:List It}
def Go.zt{i:aC}{l:List aC}{fx:VX}{xs:List VX}{f:FuncId}{caps:List V}{v:V}(hw:bg st.s i.g=some true)(ho:i.op=.call fx xs)
 (hf:fx.ev st.s=.fn f caps)(hc:∀Z1,aa st.U Z1->av P f (xs.map (·.ev st.s)++caps) Z1 λr Z'=>r=v/\Z'=Z1)(h:Go P n (.d l k) ⟨aO st.s i.dst v,st.U⟩ Q):Go P n (.d (i::l) k) st Q:=by
 refine pU hw ?_;rw[ho];exact⟨f,caps,v,hf,λZ1 h1=>hc Z1 h1,h⟩
end
def iV{fs:List T'}{ws:List Int}{space high B:Int}{s:Xr}(hB:∀f∈fs,f.y+f.h<=B)(h0:0<=high):∀(k i:Nat) (y:Int),∀x∈cz fs ws space high s k i y,y<=x.y/\x.y+high<=max y B+high*k
 |0,_,_,x,hx=>by simp[cz]at hx
 |k+1,i,y,x,hx=>by
  rw[cz]at hx;split at hx
  .have hr:=eS (w:=ws.getD i 0) (high:=high) (y:=y) (s:=s) hB;have e:(lZ fs ws space high i y s).y=fX fs (ws.getD i 0) high s y:=rfl;have e2:high*((k+1:Nat):Int)=high*k+high:=by rw[Int.natCast_add,Int.mul_add];simp
   have hk:0<=high*(k:Int):=Int.mul_nonneg h0 (by omega);rcases dJ.1 hx with rfl|hx
   .rw[e,e2];omega
   .have:=iV hB h0 k _ _ x hx;rw[e]at this;rw[e2];omega
  .cases hx
def WkJ.oY{l:List Nd}{rs:List Rm}{Z0 U:ad}{iw i:Nat}{s:WS}{o:Ob}(hJ:WkJ l rs Z0 iw s U)(hi:U i=some o)(h1:o.elem≠90)(h2:o.elem≠100)(h3:i≠iw):WkJ l rs (C' Z0 i o) iw s U:=by
 obtain⟨va,vf,w1,g1,g2,g3⟩:=hJ.row;have key:∀{e sz:Nat} {v:V} {rows:List V},o.elem≠e->aq (bj Z0 iw) U e sz v rows->aq (bj (C' Z0 i o) iw) U e sz v rows:=λ{e sz v rows} he h=>by
  rcases h with h|⟨id,a1,a2,a3⟩
  .exact .inl h
  .have WZ:id≠i:=λe'=>by subst e';rw[a2]at hi;injection hi with hi;subst hi;exact he rfl
   exact .inr ⟨id,a1,a2,aF.2 ⟨(aF.1 a3).1,by rw[ab WZ];exact(aF.1 a3).2⟩⟩
 refine⟨λj p h=>?_,by rw[ab h3.symm];exact hJ.no,va,vf,w1,key h1 g1,key h2 g2,g3⟩;by_cases e:j=i
 .subst e;rw[af]at h;rw[hi];exact h
 .rw[ab e]at h;exact hJ.sub _ _ h
def WkJ.narrow{l:List Nd}{rs:List Rm}{Z0 U:ad}{iw i:Nat}{s:WS}{o:Ob}(hJ:WkJ l rs (C' Z0 i o) iw s U)(hi:Z0 i=none)(h3:i≠iw):WkJ l rs Z0 iw s U:=by
 obtain⟨va,vf,w1,g1,g2,g3⟩:=hJ.row;have hs:aa Z0 (C' Z0 i o):=(aa.refl Z0).ao hi;have key:∀{e sz:Nat} {v:V} {rows:List V},aq (bj (C' Z0 i o) iw) U e sz v rows->aq (bj Z0 iw) U e sz v rows:=λ{e sz v rows} h=>by
  rcases h with h|⟨id,a1,a2,a3⟩
  .exact .inl h
  .exact .inr ⟨id,a1,a2,aF.2 ⟨(aF.1 a3).1,hs.none (aF.1 a3).2⟩⟩
 exact⟨hs.trans hJ.sub,hs.none hJ.no,va,vf,w1,key g1,key g2,g3⟩
def kc{U:ad}{e sz id:Nat}{rows:List V}{i:Nat}(h:U id=some ⟨e,sz,rows⟩)(hi:i<rows.length):bp U sz (.own id 0 rows.length) (.int .i64 i)=some (.ptr id i 0):=by
 simp[bp,h,hi]
def eK(a:Nat)(h:Int)(s:WS)(L:List Ln):WS:=L.foldl (λs x=>s.put (eQ a h x)) s
def vk{a:Nat}{h:Int}{s:WS}{L:List Ln}{j:Nat}(hj:j<L.length):eK a h s (L.take (j+1))=(eK a h s (L.take j)).put (eQ a h L[j]):=by
 unfold eK;rw[Yz hj,kN];rfl
def oH(a:Nat)(h:Int):∀(L:List Ln) (s:WS),(eK a h s L).atoms.length=s.atoms.length+L.length
 |[],s=>by simp[eK]
 |x::L,s=>by
  have:=oH a h L (s.put (eQ a h x));simp only[eK,gg]at this|-;rw[this];simp only[WS.put,gn,YI,List.length_nil];omega
def LW{l:List Nd}{rs:List Rm}(hD:DOk l rs){Z0 U:ad}{iw:Nat}{s:WS}{B:Int}(hJ:WkJ l rs Z0 iw s U)(hB:Bd s B)(hB1:B<=288230376151711744)(a:Nat)(ha:a<l.length)(hn:s.atoms.length<=100000)(hfn:s.u'.length<=100000)(hwl:l[a].words.length<=10000):
 av prog 131 [.ptr iw 0 0,vI a] U λr Z'=>r=.WC []/\WkJ l rs Z0 iw (WS.text rs s a l[a]) Z':=by
 obtain⟨va,vf,w1,ha1,hf1,hf2⟩:=hJ.row;obtain⟨ca,sa⟩:=ha1.vc;obtain⟨cf,sf⟩:=hf1.vc;have Xa:=ec hD.isb ha;have hsp:=hD.span ha;obtain⟨har,hrok⟩:=hD.room ha;have Wz:=gJ l ha;unfold WS.text;generalize l[a]=n at*;have hwok:WOk n.words n.space:=⟨by omega,λx hx=>by have:=Xa.words x hx;omega,Xa.space.1,Xa.space.2⟩
 have hm:=hB.m1;have hm0:=hB.m0;have hy0:=hB.y0;have hyB:=hB.yB;have hlb:=Xa.line;refine TH.q ?_;refine mS 7 ?_;simp only[go_sem,seval,Qv,w1,Wz,Nd.cells];refine aj λi4 Z4 s4 a4 f4=>?_;have w4':=s4 _ _ w1;have n4:=aQ w1 f4;simp only[go_sem,seval,a4,w4',ab n4];generalize hq4:C' Z4 i4 _=Y4;have b4:Y4 i4=some ⟨48,20,[.agg (Nd.cells n)]⟩:=by rw[<-hq4];exact af
 rw[Nd.cells]at b4;have s4':aa U Y4:=by rw[<-hq4];exact s4.ao f4
 clear hq4;have hlen:u9 Y4 vf (ax s.u'):=(hf1.mono s4').zL;have hJ4:=hJ.mono s4';refine pJ rfl (F3 s.Wy ⟨by omega,by omega⟩ ⟨by omega,by omega⟩) ?_;apply sG;simp only[go_sem,seval];refine Go.zt rfl rfl rfl (λZ8 h8=>A2 (hJ4.mono h8) a har hrok) ?_;apply sG;simp only[go_sem,seval];have hLl:=jq s.u' n.words n.space n.line (ep rs a) n.words.length 0 (s.Wy.y+s.Wy.m);have hLb:=iV (ws:=n.words) (space:=n.space) (s:=ep rs a) (λf hf=>(hB.fl f hf).yB) hlb.1 n.words.length 0 (s.Wy.y+s.Wy.m);have B':=λZ8 (h8:aa Y4 Z8)=>(HW vf s.u' (hlen.mono h8) n.words n.space n.line (s.Wy.y+s.Wy.m) (ep rs a) (by omega) (hB.flo (by omega)) B (λf hf=>(hB.fl f hf).yB) (by omega) (by omega) (by omega) hlb.1 hlb.2 hsp.bq hwok).GW λ_ _ h=>h.2.ni (v0:=j0 (cz s.u' n.words n.space n.line (ep rs a) n.words.length 0 (s.Wy.y+s.Wy.m))) h.1 rfl;generalize cz s.u' n.words n.space n.line (ep rs a) n.words.length 0 (s.Wy.y+s.Wy.m)=L at*;refine Go.zt rfl rfl rfl (λZ8 h8=>B' Z8 h8) ?_;have hnL:dv false (j0 L)=some (.int .i64 L.length):=by simp[j0,dv]
 apply sG;simp only[go_sem,seval,hnL];have h0i:Z0 i4=none:=hJ.sub.none f4;have hJw:=hJ4.oY b4 (by simp) (by simp) n4.symm;have XI:((n.words.length:Nat):Int)<=10000:=by omega
 have hmul:n.line*(n.words.length:Int)<=1099511627776*10000:=Int.mul_le_mul hlb.2 XI (by omega) (by omega);refine ag.loop (λm st=>∃j:Nat,j<=L.length/\m=L.length-j/\WkJ l rs (C' Z0 i4 ⟨48,20,[.agg [vI n.kind,vI n.size,vI n.st.top,vI n.st.WV,vI n.st.WD,vI n.st.O',vI n.st.Xl,vI n.st.WE,vI n.st.WW,vI n.st.head,vI n.st.before,vI n.st.after,vI n.st.inside,vI n.st.clear,vI n.line,vI n.space,aN n.words,vI n.side,vI n.w,vI n.h]]⟩) iw (eK a n.line s (L.take j)) st.U/\
  st.s 0=.ptr iw 0 0/\st.s 1=vI a/\st.s 4=.ptr i4 0 0/\st.s 33=j0 L/\st.s 34=vI L.length/\st.s 35=vI j) L.length ?_ ?_
 .exact⟨0,by omega,rfl,hJw,rfl,rfl,rfl,rfl,rfl,rfl⟩
 .rintro m ⟨S,J⟩ ⟨j,hj,rfl,YM,t0,t1,t4,t33,t34,t35⟩;simp only at YM t0 t1 t4 t33 t34 t35;refine ag.mix 7 ?_;have c4:=YM.sub _ _ (af (id:=i4));by_cases B':j<L.length
  .have q:=qT B';have Xx:∀U,bp U 5 (j0 L) (.int .i64 j)=some (.rp (jm L[j])):=λU=>by simp[j0,bp,B']
   have W4:=vk (a:=a) (h:=n.line) (s:=s) B';have W1:=hLb L[j] (Xo B');have ZN:=oH a n.line (L.take j) s;rw[jb]at ZN;generalize L[j]=x at*;have hen:jm x=.agg [vI x.fr,vI x.to,vI x.x,vI x.y,vI x.w]:=rfl;apply sR;simp only[go_sem,seval,t33,t34,t35,q,Xx,hen];refine aj λi6 Z6 s6 a6 f6=>?_;have d4:=s6 _ _ c4;have n46:=aQ c4 f6;simp only[go_sem,seval,a6,d4,t0,t1,t4,ab n46];refine Yn rfl (JI (YM.mono (s6.ao f6)) (eQ a n.line x) (show Bq x.y from⟨by omega,by omega⟩) (show Bq n.line from⟨by omega,by omega⟩) (by omega)) ?_;rintro r Z' ⟨rfl,ZC⟩;have r1:=rI j;apply sR;simp only[go_sem,seval,t0,t1,t4,t33,t34,t35,r1];exact⟨_,by omega,j+1,by omega,rfl,by rw[W4];exact ZC,by simp⟩
  .have q:=qF B';rw[lf (by omega)]at YM;apply sR;simp only[go_sem,seval,t34,t35,q];exact XX ⟨rfl,YM.narrow h0i n4.symm⟩
def nd0:Nd:=⟨0,0,Ye.zero,0,0,[],0,0,0⟩
def W7(l:List Nd)(a:Nat):Nd:=l.getD a nd0
def gF{l:List Nd}{a:Nat}(h:a<l.length):W7 l a=l[a]:=by simp[W7,h]
def cU(l:List Nd)(rs:List Rm):Nat->Nat->Nat->WS->WS
 |0,_,_,s=>s
 |k+1,a,e,s=>if a<e then cU l rs k (a+(WJ l a).toNat) e
   (if(W7 l a).kind=1 then(cU l rs k (a+1) (a+(WJ l a).toNat) (s.enter (W7 l a).st)).leave (W7 l a).st
    else if(W7 l a).kind=2 then s.text rs a (W7 l a)else if(W7 l a).kind=3 then WS.mono l rs s a (W7 l a)else s.float rs a (W7 l a))else s
def nZ{l:List Nd}{rs:List Rm}{e:Nat}(he:e<=l.length):∀(k j a:Nat) (s:WS),e-a<=k->e-a<=j->bG l a e=true->cU l rs k a e s=cU l rs j a e s
 |0,0,_,_,_,_,_=>rfl
 |0,j+1,a,s,h,_,_=>by rw[cU,cU,au (by omega)]
 |k+1,0,a,s,_,h,_=>by rw[cU,cU,au (by omega)]
 |k+1,j+1,a,s,h,h',hr=>by
  rw[cU,cU];by_cases B':a<e
  .obtain⟨h1,h2⟩:=bV he hr (Xc a) B';obtain⟨h3,h4⟩:=cK he hr B';rw[ak B',ak B',nZ (e:=a+(WJ l a).toNat) (by omega) k j _ _ (by omega) (by omega) h4,nZ he k j _ _ (by omega) (by omega) h3]
  .rw[au B',au B']
def Xv(l:List Nd)(a e:Nat):Nat:=(((l.take e).drop a).map λn=>4+n.words.length).sum
def uq(l:List Nd)(a:Nat):Xv l a a=0:=by unfold Xv;rw[List.drop_of_length_le (by rw[jb];omega)];rfl
def eA{l:List Nd}{a m e:Nat}(h1:a<=m)(h2:m<=e)(h3:e<=l.length):Xv l a e=Xv l a m+Xv l m e:=by
 unfold Xv;rw[<-List.sum_append_nat,<-cX];congr 2;have e1:l.take m=(l.take e).take m:=by rw[List.take_take,Nat.min_eq_left h2]
 rw[e1]
 conv=>lhs;rw[<-rZ m (l.take e)]
 rw[CR (by rw[jb,jb];omega)]
def Kj{l:List Nd}{a:Nat}(h:a<l.length):Xv l a (a+1)=4+l[a].words.length:=by
 unfold Xv;rw[Yz h,CR (by rw[jb];omega),List.drop_of_length_le (by rw[jb];omega)];simp
def nm{l:List Nd}{a e:Nat}(h1:a<e)(h3:e<=l.length):Xv l a e=4+(W7 l a).words.length+Xv l (a+1) e:=by
 rw[eA (Nat.le_succ a) h1 h3,Kj (by omega),gF (by omega)]
structure fk(s:WS)(C:Nat):Prop where
 bd:Bd s (1099511627776*(C:Int))
 W3:s.atoms.length<=C
 fl:s.u'.length<=C
def fk.more{s:WS}{C D:Nat}(h:fk s C)(hD:C<=D):fk s D:=⟨h.bd.mono (by omega),jP h.W3 hD,jP h.fl hD⟩
def ku{l:List Nd}{rs:List Rm}{s:WS}{C:Nat}(h:fk s C){n:Nd}(hn:NOk n)(a:Nat):fk (WS.mono l rs s a n) (C+1):=by
 obtain⟨⟨hf,h1,h2,h3,h4⟩,h5,h6⟩:=h;have hyr:=eS (w:=n.w) (high:=n.h) (y:=s.Wy.y+s.Wy.m) (s:=ep rs a) (λf hf'=>(hf f hf').yB);have hh:=hn.h;refine⟨⟨λf hf'=>(hf f hf').mono (by omega),?_,?_,?_,?_⟩,?_,?_⟩<;>simp only[WS.mono,WS.put,gn,YI,List.length_nil]<;>omega
def jG{l:List Nd}{rs:List Rm}(hD:DOk l rs){s:WS}{C:Nat}(h:fk s C){a:Nat}(ha:a<l.length){n:Nd}(hn:NOk n)(hk:n.kind=4):fk (s.float rs a n) (C+1):=by
 obtain⟨⟨hf,h1,h2,h3,h4⟩,h5,h6⟩:=h;have hb:=hn.box (.inr hk);have hw:=hn.w;have hh:=hn.h;refine⟨⟨λf hf'=>?_,h1,h2,h3,by simp only[WS.float];omega⟩,by simp only[WS.float];omega,by simp only[WS.float,nU,gn,YI,List.length_nil];omega⟩;exact(LI (f:=⟨a,n.side,s.atoms.length,0,0,n.w,n.h⟩) hf (hD.span ha) (by omega) (by omega) (by simp only;omega) (by simp only;omega) (by simp only;omega) (by simp only;omega) f hf').mono (by omega)
def ky{rs:List Rm}{s:WS}{C:Nat}(h:fk s C){n:Nd}(hn:NOk n)(a:Nat):fk (s.text rs a n) (C+n.words.length):=by
 obtain⟨⟨hf,h1,h2,h3,h4⟩,h5,h6⟩:=h;have hl:=hn.line;unfold WS.text;have hLl:=jq s.u' n.words n.space n.line (ep rs a) n.words.length 0 (s.Wy.y+s.Wy.m);have hLb:=iV (ws:=n.words) (space:=n.space) (s:=ep rs a) (λf hf'=>(hf f hf').yB) hl.1 n.words.length 0 (s.Wy.y+s.Wy.m);generalize cz s.u' n.words n.space n.line (ep rs a) n.words.length 0 (s.Wy.y+s.Wy.m)=L at*;have hmul:n.line*(n.words.length:Int)<=1099511627776*(n.words.length:Int):=Int.mul_le_mul_of_nonneg_right hl.2 (by omega);have key:∀(L:List Ln) (t:WS),(∀x∈L,s.Wy.y+s.Wy.m<=x.y/\x.y+n.line<=max (s.Wy.y+s.Wy.m) (1099511627776*(C:Int))+n.line*(n.words.length:Int))->t.u'=s.u'->0<=t.Wy.y->0<=t.Wy.m->t.Wy.m<=1099511627776->
  t.Wy.y+t.Wy.m<=1099511627776*((C+n.words.length:Nat):Int)->(eK a n.line t L).u'=s.u'/\0<=(eK a n.line t L).Wy.y/\0<=(eK a n.line t L).Wy.m/\(eK a n.line t L).Wy.m<=1099511627776/\(eK a n.line t L).Wy.y+(eK a n.line t L).Wy.m<=1099511627776*((C+n.words.length:Nat):Int):=by
  intro L
  induction L with
  |nil=>intro t _ g1 g2 g3 g4 g5;exact⟨g1,g2,g3,g4,g5⟩
  |cons x L ih=>
   intro t hx g1 g2 g3 g4 g5;have hx0:=hx x (by simp);exact ih (t.put (eQ a n.line x)) (λy hy=>hx y (by simp[hy])) g1 (by simp only[WS.put,eQ];omega) (by simp[WS.put]) (by simp[WS.put]) (by simp only[WS.put,eQ];omega)
 obtain⟨k1,k2,k3,k4,k5⟩:=key L s hLb rfl h1 h2 h3 (by omega);have ZN:=oH a n.line L s;refine⟨⟨λf hf'=>(hf f ?_).mono (by omega),k2,k3,k4,k5⟩,?_,?_⟩
 .have:f∈(eK a n.line s L).u':=hf';rw[k1]at this;exact this
 .show(eK a n.line s L).atoms.length<=_;omega
 .show(eK a n.line s L).u'.length<=_;rw[k1];omega
def et{s:WS}{C:Nat}(h:fk s C){t:Ye}(ht:SOk t):fk (s.enter t) (C+2):=⟨(h.bd.enter ht).mono (by omega),by have:=h.W3;simp only[WS.enter];omega,by have:=h.fl;simp only[WS.enter];omega⟩
def jD{s:WS}{C:Nat}(h:fk s C){t:Ye}(ht:SOk t):fk (s.leave t) (C+2):=⟨(h.bd.leave ht).mono (by omega),by have:=h.W3;simp only[WS.leave];omega,by have:=h.fl;simp only[WS.leave];omega⟩
def gG{l:List Nd}{rs:List Rm}(hD:DOk l rs):∀(k a e:Nat) (s:WS) (C:Nat),e-a<=k->a<=e->e<=l.length->bG l a e=true->fk s C->fk (cU l rs k a e s) (C+Xv l a e)
 |0,a,e,s,C,_,hae,_,_,h=>h.more (Nat.le_add_right _ _)
 |k+1,a,e,s,C,hk,hae,he,hr,h=>by
  rw[cU];by_cases B':a<e
  .rw[ak B'];obtain⟨h1,h2⟩:=bV he hr (Xc a) B';obtain⟨h3,h4⟩:=cK he hr B';have Xa:NOk (W7 l a):=by rw[gF (by omega)];exact ec hD.isb (by omega)
   have hc1:Xv l a e=Xv l a (a+(WJ l a).toNat)+Xv l (a+(WJ l a).toNat) e:=eA (by omega) (by omega) he;have hc2:Xv l a (a+(WJ l a).toNat)=4+(W7 l a).words.length+Xv l (a+1) (a+(WJ l a).toNat):=nm (by omega) (by omega);have step:∀t,fk t (C+Xv l a (a+(WJ l a).toNat))->fk (cU l rs k (a+(WJ l a).toNat) e t) (C+Xv l a e):=λt ht=>by
    rw[hc1,<-Nat.add_assoc];exact gG hD k _ e t _ (by omega) (by omega) he h3 ht
   refine step _ ?_;rw[hc2];split
   .have:=jD (gG hD k (a+1) (a+(WJ l a).toNat) _ _ (by omega) (by omega) (by omega) h4 (et h Xa.st)) Xa.st;exact this.more (by omega)
   .split
    .exact(ky h Xa a).more (by omega)
    .split
     .exact(ku h Xa a).more (by omega)
     .rename_i g1 g2 g3;have hk4:(W7 l a).kind=4:=by have:=Xa.kind;omega
      exact(jG hD h (by omega) Xa hk4).more (by omega)
  .rw[au B'];exact h.more (Nat.le_add_right _ _)
open Go.Proofs
def Qf(l:List Nd)(rs:List Rm)(iw:Nat)(a e:Nat)(C:Nat):Prop:=
 ∀(s:WS) (Z0 U:ad),WkJ l rs Z0 iw s U->fk s C->av prog 84 [.ptr iw 0 0,vI a,vI e] U λr Z'=>r=.WC []/\WkJ l rs Z0 iw (cU l rs (e-a) a e s) Z'
def WkJ.Jh{l:List Nd}{rs:List Rm}{Z0 J:ad}{iw:Nat}{s:WS}(hJ:WkJ l rs Z0 iw s J){va vf:V}{y m:Int}(w:J iw=some ⟨155,7,[.agg [va,vf,vI s.U',vI y,vI m,ay l,cQ rs]]⟩)(p:Pn):
 WkJ l rs Z0 iw { s with Wy:=p } (C' J iw ⟨155,7,[.agg [va,vf,vI s.U',vI p.y,vI p.m,ay l,cQ rs]]⟩):=by
 obtain⟨va',vf',w',g1,g2,g3⟩:=hJ.row;rw[w]at w';simp only[aI,Ob.mk.injEq,List.cons.injEq,V.agg.injEq,true_and,and_true]at w';obtain⟨rfl,rfl,_⟩:=w';exact⟨hJ.sub.ao hJ.no,hJ.no,va,vf,af,g1.DD,g2.DD,g3⟩
def kB(s:Ye):V:=.agg [vI s.top,vI s.WV,vI s.WD,vI s.O',vI s.Xl,vI s.WE,vI s.WW,vI s.head,vI s.before,vI s.after,vI s.inside,vI s.clear]
def Hd{l:List Nd}{rs:List Rm}(hD:DOk l rs){Z0 U:ad}{iw:Nat}{s:WS}{C:Nat}(hJ:WkJ l rs Z0 iw s U)(hI:fk s C)(hC:C<=50000)(a:Nat)(ha:a<l.length)(X8:Qf l rs iw (a+1) (a+(WJ l a).toNat) (C+2))(hC2:C+2+Xv l (a+1) (a+(WJ l a).toNat)<=50000)
 (Yh:a+(WJ l a).toNat<=l.length)(hrB:bG l (a+1) (a+(WJ l a).toNat)=true)(X7:1<=WJ l a):
 av prog 130 [.ptr iw 0 0,vI a] U λr Z'=>r=.WC []/\WkJ l rs Z0 iw ((cU l rs (a+(WJ l a).toNat-(a+1)) (a+1) (a+(WJ l a).toNat) (s.enter l[a].st)).leave l[a].st) Z':=by
 obtain⟨va,vf,w1,ha1,hf1,hf2⟩:=hJ.row;obtain⟨ca,sa⟩:=ha1.vc;obtain⟨cf,sf⟩:=hf1.vc;have Xa:=ec hD.isb ha;have Wz:=gJ l ha;have hszn:=gY ha;have hfine:=hD.qQ;have q3:((a:Int)+l[a].size)=((a+(WJ l a).toNat:Nat):Int):=by rw[hszn];omega
 have q2:((a:Int)+1)=((a+1:Nat):Int):=by omega
 have hB:=hI.bd;have hm:=hB.m1;have hm0:=hB.m0;have hy0:=hB.y0;have hyB:=hB.yB;have Zh:=hI.fl;refine Vz.q ?_;refine mS 7 ?_;simp only[go_sem,seval,OO,w1,Wz,Nd.cells];refine aj λi4 Z4 s4 a4 f4=>?_;have w4':=s4 _ _ w1;have n4:=aQ w1 f4;simp only[go_sem,seval,a4,w4',ab n4];generalize hq4:C' Z4 i4 _=Y4;have b4:Y4 i4=some ⟨45,12,[kB l[a].st]⟩:=by rw[<-hq4];exact af
 have s4':aa U Y4:=by rw[<-hq4];exact s4.ao f4
 clear hq4;have w4:=s4' _ _ w1;have hlen:u9 Y4 vf (ax s.u'):=(hf1.mono s4').zL;have h0i:Z0 i4=none:=hJ.sub.none f4;have hJ4:=(hJ.mono s4').oY b4 (by simp) (by simp) n4.symm;refine Go.zt rfl rfl rfl (λZ8 h8=>aE.ud (args':=[ax s.u',vI l[a].st.clear]) ⟨(hlen.mono h8).at,ZH _,trivial⟩ (AY s.u' l[a].st.clear (by omega) (hB.flo (by omega))) rfl) ?_;apply sG;simp only[go_sem,seval];obtain⟨s1,ZI⟩:∃x,x=s.enter l[a].st:=⟨_,rfl⟩
 have hI1:=et hI Xa.st;rw[<-ZI]at hI1|-;unfold WS.enter at ZI;simp only at ZI;cases hlow:(cy (fS l[a].st.clear) s.u').2
 .rw[hlow]at ZI;simp only[fO,↓reduceIte]at ZI;simp only[go_sem,seval,cm];obtain⟨p,hp⟩:∃p:Pn,p=s.Wy:=⟨_,rfl⟩
  have hs1e':s1={ s with Wy:=dF p l[a].st.top l[a].st.WD }:=by rw[ZI,hp]
  have hJ5:WkJ l rs (C' Z0 i4 ⟨45,12,[kB l[a].st]⟩) iw { s with Wy:=p } Y4:=by rw[hp];exact hJ4
  have w5:Y4 iw=some ⟨155,7,[.agg [va,vf,vI s.U',vI p.y,vI p.m,ay l,cQ rs]]⟩:=by rw[hp];exact w4
  have b5:=b4;obtain⟨hp1,hp2,hp3,hp4⟩:0<=p.y/\0<=p.m/\p.m<=1099511627776/\p.y+p.m<=1099511627776*(C:Int):=by rw[hp];exact⟨hy0,hm0,hm,hyB⟩
  clear hp;generalize Y4=Y5 at*;rw[kB]at b5;have WM:=Xa.st;have k1:=WM.top;have k2:=WM.WD;have k3:=WM.WV;have k4:=WM.O';refine ag.tT (by kernel_rfl) [0,1,2,3,4,5,6,7,8,9,10,11,12] [[],[],[1],[1,2],[1,2,3],[],[5],[],[7],[1,2,3,4,5,6,7,8],[0,1,2,3,4,5,6,7,8,9],[0,1,2,3,4,5,6,7,8,9,10],[0,1,2,3,4,5,6,7,8,9,10,11]] [0,2,4,6,8,10,12,14,16,18,20,22,24] (by kernel_rfl) (by kernel_rfl) ?_;refine cI (n:=0) [18,20,22,24] [0,2,4,6,8,10,12,14,16] [_,_,_,_,_,_,_,_,_] rfl rfl ?_;simp only[go_sem,seval,w5,b5];refine reP rfl (Em p l[a].st.top l[a].st.WD ⟨by omega,by omega⟩ ⟨by omega,by omega⟩ ⟨by omega,by omega⟩ ⟨by omega,by omega⟩ _) ?_;refine cI (n:=0) [] [20,22,24] [_,_,_] rfl rfl ?_;simp only[go_sem,seval,w5,di];have hJ6:=hJ5.Jh w5 (dF p l[a].st.top l[a].st.WD);rw[<-hs1e']at hJ6;have r1:=rI a;have r2:WI .i64 ((a:Int)+l[a].size):=ae;have w6:=af (U:=Y5) (id:=iw) (o:=⟨155,7,[.agg [va,vf,vI s.U',vI (dF p l[a].st.top l[a].st.WD).y,vI (dF p l[a].st.top l[a].st.WD).m,ay l,cQ rs]]⟩);have hc:=X8 s1 _ _ hJ6 hI1;rw[<-q2,<-q3]at hc;generalize C' Y5 iw ⟨155,7,[.agg [va,vf,vI s.U',vI (dF p l[a].st.top l[a].st.WD).y,vI (dF p l[a].st.top l[a].st.WD).m,ay l,cQ rs]]⟩=Y6 at*;apply sR;simp only[go_sem,seval,w6,Wz,Nd.cells,r1,r2];refine Yn rfl hc ?_;rintro r Z7 ⟨rfl,hJ7⟩;have hI7:=gG hD (a+(WJ l a).toNat-(a+1)) (a+1) (a+(WJ l a).toNat) s1 _ (Xc _) (by omega) Yh hrB hI1;have b7:=hJ7.sub _ _ (af (id:=i4));rw[kB]at b7;generalize cU l rs (a+(WJ l a).toNat-(a+1)) (a+1) (a+(WJ l a).toNat) s1=s2 at*;obtain⟨va7,vf7,w7,g71,g72,_⟩:=hJ7.row;obtain⟨ca7,_⟩:=g71.vc;obtain⟨cf7,_⟩:=g72.vc;have m1:=hI7.bd.m1;have m2:=hI7.bd.m0;have m3:=hI7.bd.y0;have m4:=hI7.bd.yB;apply sR;simp only[go_sem,seval,cm];refine ag.tT (by kernel_rfl) [0,1,2,3,4,5,6,7,8,9,10,11,12] [[],[],[1],[1,2],[1,2,3],[],[5],[],[7],[1,2,3,4,5,6,7,8],[0,1,2,3,4,5,6,7,8,9],[0,1,2,3,4,5,6,7,8,9,10],[0,1,2,3,4,5,6,7,8,9,10,11]] [0,2,4,6,8,10,12,14,16,18,20,22,24] (by kernel_rfl) (by kernel_rfl) ?_;refine cI (n:=0) [18,20,22,24] [0,2,4,6,8,10,12,14,16] [_,_,_,_,_,_,_,_,_] rfl rfl ?_;simp only[go_sem,seval,w7,b7];refine reP rfl (ET s2.Wy l[a].st.WV l[a].st.O' ⟨by omega,by omega⟩ ⟨by omega,by omega⟩ ⟨by omega,by omega⟩ ⟨by omega,by omega⟩ _) ?_;refine cI (n:=0) [] [20,22,24] [_,_,_] rfl rfl ?_;simp only[go_sem,seval,w7,di];apply sR;simp only[go_sem,seval];exact XX ⟨rfl,(hJ7.Jh w7 (j9 s2.Wy l[a].st.WV l[a].st.O')).narrow h0i n4.symm⟩
 .rw[hlow]at ZI;simp only[↓reduceIte]at ZI;obtain⟨f,hfm,e1,_⟩:=kC hlow;have e2:(fS l[a].st.clear f).1=f.y+f.h:=rfl;have hfo:=hB.fl f hfm;generalize (cy (fS l[a].st.clear) s.u').1=low at*;simp only[go_sem,seval,w4];refine pS rfl (Jz s.Wy low ⟨by omega,by omega⟩ ⟨by omega,by omega⟩ _) ?_;simp only[go_sem,seval,w4,di,cm];obtain⟨p,hp⟩:∃p:Pn,p=eH s.Wy low:=⟨_,rfl⟩
  rw[<-hp]at ZI|-;have hs1e':=ZI;have hJ5:=hJ4.Jh w4 p;have w5:=af (U:=Y4) (id:=iw) (o:=⟨155,7,[.agg [va,vf,vI s.U',vI p.y,vI p.m,ay l,cQ rs]]⟩);have b5:C' Y4 iw ⟨155,7,[.agg [va,vf,vI s.U',vI p.y,vI p.m,ay l,cQ rs]]⟩ i4=some ⟨45,12,[kB l[a].st]⟩:=by rw[ab n4.symm];exact b4
  obtain⟨hp1,hp2,hp3,hp4⟩:0<=p.y/\0<=p.m/\p.m<=1099511627776/\p.y+p.m<=1099511627776*(C:Int):=by
   rw[hp];have hy:=hfo.yB;have hy0:=hfo.y0;have hh0:=hfo.h0;unfold eH;split<;>(try simp only)<;>omega
  clear hp;generalize C' Y4 iw ⟨155,7,[.agg [va,vf,vI s.U',vI p.y,vI p.m,ay l,cQ rs]]⟩=Y5 at*;rw[kB]at b5;have WM:=Xa.st;have k1:=WM.top;have k2:=WM.WD;have k3:=WM.WV;have k4:=WM.O';refine ag.tT (by kernel_rfl) [0,1,2,3,4,5,6,7,8,9,10,11,12] [[],[],[1],[1,2],[1,2,3],[],[5],[],[7],[1,2,3,4,5,6,7,8],[0,1,2,3,4,5,6,7,8,9],[0,1,2,3,4,5,6,7,8,9,10],[0,1,2,3,4,5,6,7,8,9,10,11]] [0,2,4,6,8,10,12,14,16,18,20,22,24] (by kernel_rfl) (by kernel_rfl) ?_;refine cI (n:=0) [18,20,22,24] [0,2,4,6,8,10,12,14,16] [_,_,_,_,_,_,_,_,_] rfl rfl ?_;simp only[go_sem,seval,w5,b5];refine reP rfl (Em p l[a].st.top l[a].st.WD ⟨by omega,by omega⟩ ⟨by omega,by omega⟩ ⟨by omega,by omega⟩ ⟨by omega,by omega⟩ _) ?_;refine cI (n:=0) [] [20,22,24] [_,_,_] rfl rfl ?_;simp only[go_sem,seval,w5,di];have hJ6:=hJ5.Jh w5 (dF p l[a].st.top l[a].st.WD);rw[<-hs1e']at hJ6;have r1:=rI a;have r2:WI .i64 ((a:Int)+l[a].size):=ae;have w6:=af (U:=Y5) (id:=iw) (o:=⟨155,7,[.agg [va,vf,vI s.U',vI (dF p l[a].st.top l[a].st.WD).y,vI (dF p l[a].st.top l[a].st.WD).m,ay l,cQ rs]]⟩);have hc:=X8 s1 _ _ hJ6 hI1;rw[<-q2,<-q3]at hc;generalize C' Y5 iw ⟨155,7,[.agg [va,vf,vI s.U',vI (dF p l[a].st.top l[a].st.WD).y,vI (dF p l[a].st.top l[a].st.WD).m,ay l,cQ rs]]⟩=Y6 at*;apply sR;simp only[go_sem,seval,w6,Wz,Nd.cells,r1,r2];refine Yn rfl hc ?_;rintro r Z7 ⟨rfl,hJ7⟩;have hI7:=gG hD (a+(WJ l a).toNat-(a+1)) (a+1) (a+(WJ l a).toNat) s1 _ (Xc _) (by omega) Yh hrB hI1;have b7:=hJ7.sub _ _ (af (id:=i4));rw[kB]at b7;generalize cU l rs (a+(WJ l a).toNat-(a+1)) (a+1) (a+(WJ l a).toNat) s1=s2 at*;obtain⟨va7,vf7,w7,g71,g72,_⟩:=hJ7.row;obtain⟨ca7,_⟩:=g71.vc;obtain⟨cf7,_⟩:=g72.vc;have m1:=hI7.bd.m1;have m2:=hI7.bd.m0;have m3:=hI7.bd.y0;have m4:=hI7.bd.yB;apply sR;simp only[go_sem,seval,cm];refine ag.tT (by kernel_rfl) [0,1,2,3,4,5,6,7,8,9,10,11,12] [[],[],[1],[1,2],[1,2,3],[],[5],[],[7],[1,2,3,4,5,6,7,8],[0,1,2,3,4,5,6,7,8,9],[0,1,2,3,4,5,6,7,8,9,10],[0,1,2,3,4,5,6,7,8,9,10,11]] [0,2,4,6,8,10,12,14,16,18,20,22,24] (by kernel_rfl) (by kernel_rfl) ?_;refine cI (n:=0) [18,20,22,24] [0,2,4,6,8,10,12,14,16] [_,_,_,_,_,_,_,_,_] rfl rfl ?_;simp only[go_sem,seval,w7,b7];refine reP rfl (ET s2.Wy l[a].st.WV l[a].st.O' ⟨by omega,by omega⟩ ⟨by omega,by omega⟩ ⟨by omega,by omega⟩ ⟨by omega,by omega⟩ _) ?_;refine cI (n:=0) [] [20,22,24] [_,_,_] rfl rfl ?_;simp only[go_sem,seval,w7,di];apply sR;simp only[go_sem,seval];exact XX ⟨rfl,(hJ7.Jh w7 (j9 s2.Wy l[a].st.WV l[a].st.O')).narrow h0i n4.symm⟩
open Go.Proofs
def xW{l:List Nd}{rs:List Rm}{b e:Nat}(he:e<=l.length)(hr:bG l b e=true)(B':b<e)(s:WS):
 cU l rs (e-b) b e s=cU l rs (e-(b+(WJ l b).toNat)) (b+(WJ l b).toNat) e
  (if(W7 l b).kind=1 then(cU l rs (b+(WJ l b).toNat-(b+1)) (b+1) (b+(WJ l b).toNat) (s.enter (W7 l b).st)).leave (W7 l b).st
   else if(W7 l b).kind=2 then s.text rs b (W7 l b)else if(W7 l b).kind=3 then WS.mono l rs s b (W7 l b)else s.float rs b (W7 l b)):=by
 obtain⟨h1,h2⟩:=bV he hr (Xc b) B';obtain⟨h3,h4⟩:=cK he hr B';rw[show e-b=(e-b-1)+1 by omega,cU,ak B',nZ (e:=b+(WJ l b).toNat) (by omega) (e-b-1) _ _ _ (by omega) (Xc _) h4,nZ he (e-b-1) _ _ _ (by omega) (Xc _) h3]
def Oe{l:List Nd}{rs:List Rm}(hD:DOk l rs)(hwl:∀n∈l,n.words.length<=10000){iw:Nat}:∀(m a e C:Nat),e-a<m->a<=e->e<=l.length->bG l a e=true->C+Xv l a e<=50000->Qf l rs iw a e C:=by
 intro m
 induction m with
 |zero=>intro a e C h;omega
 |succ m ih=>?_
 intro a e C hm hae he hrB hC s Z0 U hJ hI;have hfine:=hD.qQ;refine e84.q ?_;refine ag.mix 7 ?_;obtain⟨va0,vf0,w0,_,_,_⟩:=hJ.row;have hb1:∀f:FuncId,(V.bm f [.ptr iw 0 0]).cells=[.bm f [.ptr iw 0 0]]:=λ_=>rfl;have W1:∀f:FuncId,(V.bm f [.ptr iw 0 0]).stays=true:=λ_=>rfl;have hnf:V.Ya.cells=[.Ya]:=rfl;apply sR;simp only[go_sem,seval,c84,hb1,W1];refine aj λi6 Z6 s6 a6 f6=>?_;have n6:=aQ w0 f6;simp only[go_sem,seval,a6];generalize hq6:C' Z6 i6 _=Y6;have b6:Y6 i6=some ⟨209,5,[.agg [.Ya,.bm 130 [.ptr iw 0 0],.bm 131 [.ptr iw 0 0],.bm 132 [.ptr iw 0 0],.bm 133 [.ptr iw 0 0]]]⟩:=by rw[<-hq6];exact af
 have s6':aa U Y6:=by rw[<-hq6];exact s6.ao f6
 clear hq6;have h0i:Z0 i6=none:=hJ.sub.none f6;have hJ6:=(hJ.mono s6').oY b6 (by simp) (by simp) n6.symm;refine ag.loop (λq st=>∃(b:Nat) (s':WS),q=e-b/\a<=b/\b<=e/\bG l b e=true/\cU l rs (e-a) a e s=cU l rs (e-b) b e s'/\fk s' (C+Xv l a b)/\
  WkJ l rs (C' Z0 i6 ⟨209,5,[.agg [.Ya,.bm 130 [.ptr iw 0 0],.bm 131 [.ptr iw 0 0],.bm 132 [.ptr iw 0 0],.bm 133 [.ptr iw 0 0]]]⟩) iw s' st.U/\
  st.s 0=.ptr iw 0 0/\st.s 1=vI b/\st.s 2=vI e/\st.s 6=.ptr i6 0 0) (e-a) ?_ ?_
 .exact⟨a,s,rfl,Xc _,hae,hrB,rfl,by rw[uq];exact hI,hJ6,rfl,rfl,rfl,rfl⟩
 .rintro q ⟨S,J⟩ ⟨b,s',rfl,hab,hbe,hbB,heq,hIb,hJb,t0,t1,t2,t6⟩;simp only at hJb t0 t1 t2 t6;refine ag.mix 7 ?_;by_cases B':b<e
  .have q1:((b:Int)<(e:Int))=True:=L';obtain⟨h1,h2⟩:=bV he hbB (Xc b) B';obtain⟨h3,h4⟩:=cK he hbB B';have XW:b<l.length:=by omega
   have Xa:=ec hD.isb XW;have Yh:=gY XW;have Wz:=gJ l XW;have hc1:Xv l a e=Xv l a b+Xv l b e:=eA hab hbe he;have hc2:Xv l b e=Xv l b (b+(WJ l b).toNat)+Xv l (b+(WJ l b).toNat) e:=eA (by omega) (by omega) he;have Zy:Xv l b (b+(WJ l b).toNat)=4+(W7 l b).words.length+Xv l (b+1) (b+(WJ l b).toNat):=nm (by omega) (by omega);have hc4:Xv l a (b+(WJ l b).toNat)=Xv l a b+Xv l b (b+(WJ l b).toNat):=eA hab (by omega) (by omega);have XO:=gF XW;have q3:((b:Int)+l[b].size)=((b+(WJ l b).toNat:Nat):Int):=by rw[Yh];omega
   have r2:WI .i64 ((b:Int)+l[b].size):=ae;have WM:=xW (rs:=rs) he hbB B' s';rw[XO]at WM Zy;have c6:=hJb.sub _ _ (af (id:=i6));obtain⟨va,vf,w1,g1,g2,_⟩:=hJb.row;obtain⟨ca,_⟩:=g1.vc;obtain⟨cf,_⟩:=g2.vc;have hBb:=hIb.bd.mono (C:=288230376151711744) (by omega);have XV:∀s2,s2=(if l[b].kind=1 then(cU l rs (b+(WJ l b).toNat-(b+1)) (b+1) (b+(WJ l b).toNat) (s'.enter l[b].st)).leave l[b].st
    else if l[b].kind=2 then s'.text rs b l[b]else if l[b].kind=3 then WS.mono l rs s' b l[b]else s'.float rs b l[b])->fk s2 (C+Xv l a (b+(WJ l b).toNat)):=by
     rintro s2 rfl;rw[hc4,Zy];split
     .exact(jD (gG hD _ (b+1) (b+(WJ l b).toNat) _ _ (Xc _) (by omega) (by omega) h4 (et hIb Xa.st)) Xa.st).more (by omega)
     .split
      .exact(ky hIb Xa b).more (by omega)
      .split
       .exact(ku hIb Xa b).more (by omega)
       .rename_i g1 g2 g3;exact(jG hD hIb XW Xa (by have:=Xa.kind;omega)).more (by omega)
   rcases Xa.kind with hk|hk|hk|hk
   .apply sR;simp only[go_sem,seval,q1,t0,t1,t2,t6,w1,c6,Wz,Nd.cells,hk];refine ag.lX rfl rfl rfl (Hd hD hJb hIb (by omega) b XW (ih (b+1) (b+(WJ l b).toNat) _ (by omega) (by omega) (by omega) h4 (by omega)) (by omega) (by omega) h4 h2) ?_;rintro r Z' ⟨rfl,ZC⟩;have w2':=ZC.row;obtain⟨va2,vf2,w2,g12,g22,_⟩:=w2';obtain⟨ca2,_⟩:=g12.vc;obtain⟨cf2,_⟩:=g22.vc;apply sR;simp only[go_sem,seval,t0,t1,t2,t6,w2,Wz,Nd.cells,r2];refine⟨_,?_,b+(WJ l b).toNat,_,rfl,by omega,by omega,h3,by rw[heq,WM],XV _ rfl,?_,by simp[q3]⟩
    .omega
    .simpa[hk]using ZC
   .apply sR;simp only[go_sem,seval,q1,t0,t1,t2,t6,w1,c6,Wz,Nd.cells,hk];refine ag.lX rfl rfl rfl (LW hD hJb hBb (by omega) b XW (by have:=hIb.W3;omega) (by have:=hIb.fl;omega) (hwl _ (Xo XW))) ?_;rintro r Z' ⟨rfl,ZC⟩;have w2':=ZC.row;obtain⟨va2,vf2,w2,g12,g22,_⟩:=w2';obtain⟨ca2,_⟩:=g12.vc;obtain⟨cf2,_⟩:=g22.vc;apply sR;simp only[go_sem,seval,t0,t1,t2,t6,w2,Wz,Nd.cells,r2];refine⟨_,?_,b+(WJ l b).toNat,_,rfl,by omega,by omega,h3,by rw[heq,WM],XV _ rfl,?_,by simp[q3]⟩
    .omega
    .simpa[hk]using ZC
   .apply sR;simp only[go_sem,seval,q1,t0,t1,t2,t6,w1,c6,Wz,Nd.cells,hk];refine ag.lX rfl rfl rfl (KX hD hJb hBb (by omega) b XW hk (by have:=hIb.W3;omega) (by have:=hIb.fl;omega)) ?_;rintro r Z' ⟨rfl,ZC⟩;have w2':=ZC.row;obtain⟨va2,vf2,w2,g12,g22,_⟩:=w2';obtain⟨ca2,_⟩:=g12.vc;obtain⟨cf2,_⟩:=g22.vc;apply sR;simp only[go_sem,seval,t0,t1,t2,t6,w2,Wz,Nd.cells,r2];refine⟨_,?_,b+(WJ l b).toNat,_,rfl,by omega,by omega,h3,by rw[heq,WM],XV _ rfl,?_,by simp[q3]⟩
    .omega
    .simpa[hk]using ZC
   .apply sR;simp only[go_sem,seval,q1,t0,t1,t2,t6,w1,c6,Wz,Nd.cells,hk];refine ag.lX rfl rfl rfl (G5 hD hJb hBb (by omega) b XW (by have:=hIb.W3;omega) (by have:=hIb.fl;omega)) ?_;rintro r Z' ⟨rfl,ZC⟩;have w2':=ZC.row;obtain⟨va2,vf2,w2,g12,g22,_⟩:=w2';obtain⟨ca2,_⟩:=g12.vc;obtain⟨cf2,_⟩:=g22.vc;apply sR;simp only[go_sem,seval,t0,t1,t2,t6,w2,Wz,Nd.cells,r2];refine⟨_,?_,b+(WJ l b).toNat,_,rfl,by omega,by omega,h3,by rw[heq,WM],XV _ rfl,?_,by simp[q3]⟩
    .omega
    .simpa[hk]using ZC
  .have q1:((b:Int)<(e:Int))=False:=H';apply sR;simp only[go_sem,seval,q1,t1,t2];refine XX ⟨rfl,?_⟩;have hz:cU l rs (e-b) b e s'=s':=by rw[show e-b=0 by omega];rfl
   rw[heq,hz];exact hJb.narrow h0i n6.symm
open Go.Proofs
def lP(n:Nat)(f:T'):T':={ f with anchor:=max 0 (min f.anchor ((n:Int)-1)) }
def vZ(s:WS):Int:=if(cy (fS 3) s.u').2 then max (s.Wy.y+s.Wy.m) (cy (fS 3) s.u').1 else s.Wy.y+s.Wy.m
def WS.fin(s:WS):WS:={ s with U':=vZ s,u':=s.u'.map (lP s.atoms.length) }
def fi(n j:Nat)(l:List T'):List T':=(l.take j).map (lP n)++l.drop j
def kz(n j:Nat)(l:List T'):(fi n j l).length=l.length:=by unfold fi;simp;omega
def rN{n j:Nat}{l:List T'}(h:j<l.length):(fi n j l)[j]?=some l[j]:=by
 unfold fi;rw[Mn (by simp;omega)];simp[h,Nat.min_eq_left (Nat.le_of_lt h)]
def sx{n j:Nat}{l:List T'}(h:j<l.length):(fi n j l).set j (lP n l[j])=fi n (j+1) l:=by
 unfold fi;have e1:((l.take j).map (lP n)).length=j:=by simp;omega
 have e2:l.drop j=l[j]::l.drop (j+1):=iT h;rw[List.set_append_right _ _ (by omega),e1,Nat.sub_self,e2,List.set_cons_zero,Yz h,cX];simp
def WkJ.ML{l:List Nd}{rs:List Rm}{Z0 J:ad}{iw:Nat}{s:WS}(hJ:WkJ l rs Z0 iw s J){va vf:V}{h0:Int}(w:J iw=some ⟨155,7,[.agg [va,vf,vI h0,vI s.Wy.y,vI s.Wy.m,ay l,cQ rs]]⟩)(h:Int):
 WkJ l rs Z0 iw { s with U':=h } (C' J iw ⟨155,7,[.agg [va,vf,vI h,vI s.Wy.y,vI s.Wy.m,ay l,cQ rs]]⟩):=by
 obtain⟨va',vf',w',g1,g2,g3⟩:=hJ.row;rw[w]at w';simp only[aI,Ob.mk.injEq,List.cons.injEq,V.agg.injEq,true_and,and_true]at w';obtain⟨rfl,rfl,_⟩:=w';exact⟨hJ.sub.ao hJ.no,hJ.no,va,vf,af,g1.DD,g2.DD,g3⟩
def Nl{l:List Nd}{rs:List Rm}{Z0 U:ad}{iw:Nat}{s:WS}{C:Nat}(hJ:WkJ l rs Z0 iw s U)(hI:fk s C)(hC:C<=100000):
 av prog 85 [.ptr iw 0 0] U λr Z'=>r=.WC []/\WkJ l rs Z0 iw s.fin Z':=by
 obtain⟨va,vf,w1,ha1,hf1,hf2⟩:=hJ.row;obtain⟨ca,sa⟩:=ha1.vc;obtain⟨cf,sf⟩:=hf1.vc;have hB:=hI.bd;have hm:=hB.m1;have hm0:=hB.m0;have hy0:=hB.y0;have hyB:=hB.yB;have Zh:=hI.fl;have ZN:=hI.W3;have hlf:dv false vf=some (.int .i64 s.u'.length):=by rw[hf1.len];simp
 refine e85.q ?_;refine mS 5 ?_;simp only[go_sem,seval,c85,w1];refine pS rfl (F3 s.Wy ⟨by omega,by omega⟩ ⟨by omega,by omega⟩ _) ?_;simp only[go_sem,seval,w1];have hJ2:=hJ.ML w1 (s.Wy.y+s.Wy.m);have w2:=af (U:=U) (id:=iw) (o:=⟨155,7,[.agg [va,vf,vI (s.Wy.y+s.Wy.m),vI s.Wy.y,vI s.Wy.m,ay l,cQ rs]]⟩);have hf3:=hf1.DD (o:=⟨155,7,[.agg [va,vf,vI (s.Wy.y+s.Wy.m),vI s.Wy.y,vI s.Wy.m,ay l,cQ rs]]⟩);generalize C' U iw ⟨155,7,[.agg [va,vf,vI (s.Wy.y+s.Wy.m),vI s.Wy.y,vI s.Wy.m,ay l,cQ rs]]⟩=Y2 at*;refine pR rfl (aE.ud (args':=[ax s.u',vI 3]) ⟨hf3.zL.at,ZH _,trivial⟩ (AY s.u' 3 (by omega) (hB.flo (by omega))) rfl) ?_;cases hlow:(cy (fS 3) s.u').2
 .have hh:vZ s=s.Wy.y+s.Wy.m:=by unfold vZ;rw[hlow];rfl
  apply sR;simp only[go_sem,seval,w2,hlf];have hJ3:WkJ l rs Z0 iw { s with U':=vZ s } Y2:=by rw[hh];exact hJ2
  refine ag.loop (λm st=>∃j:Nat,j<=s.u'.length/\m=s.u'.length-j/\WkJ l rs Z0 iw { s with U':=vZ s,u':=fi s.atoms.length j s.u' } st.U/\st.s 0=.ptr iw 0 0/\st.s 40=vI s.u'.length/\st.s 41=vI j) s.u'.length ?_ ?_
  .exact⟨0,by omega,rfl,by simpa[fi]using hJ3,rfl,rfl,rfl⟩
  .rintro m ⟨S,J⟩ ⟨j,hj,rfl,YM,t0,t40,t41⟩;simp only at YM t0 t40 t41;refine ag.mix 5 ?_;by_cases B':j<s.u'.length
   .have q:=qT B';obtain⟨va4,vf4,w4,g1,g2,g3⟩:=YM.row;simp only at w4 g1 g2 g3;obtain⟨ca4,_⟩:=g1.vc;have hla4:dv false va4=some (.int .i64 s.atoms.length):=by rw[g1.len];simp
    have hlen4:=kz s.atoms.length j s.u';rcases g2 with⟨_,h0⟩|⟨id,rfl,h2,h3⟩
    .exfalso;have:=congrArg List.length h0;rw[cJ,hlen4]at this;simp only[List.length_nil]at this;omega
    have YJ:=rN (n:=s.atoms.length) B';have hset:=sx (n:=s.atoms.length) B';have hget2:((fi s.atoms.length j s.u').map az)[j]?=some (az s.u'[j]):=by rw[xc,YJ];rfl
    have hrl:((fi s.atoms.length j s.u').map az).length=s.u'.length:=by rw[cJ,hlen4]
    have M':∀n,n=s.u'.length->bp J 7 (.own id 0 n) (.int .i64 j)=some (.ptr id j 0):=λn hn=>by subst hn;rw[<-hrl];exact kc h2 (by rw[hrl];exact B')
    generalize hfj:s.u'[j]=f at*;have hen:az f=.agg [vI f.node,vI f.side,vI f.anchor,vI f.x,vI f.y,vI f.w,vI f.h]:=rfl;rw[hen]at hget2;have r1:WI .i64 ((s.atoms.length:Int)-1):=ae;have r2:=rI j;have cf4:(V.own id 0 s.u'.length).cells=[.own id 0 s.u'.length]:=rfl;rw[hrl]at w4;apply sR;simp only[go_sem,seval,t0,t40,t41,q,w4,hla4,h2,M' _ rfl,hget2,r1,r2,cg,dN];have WZ:iw≠id:=(aF.1 h3).1.symm;have hlen5:=kz s.atoms.length (j+1) s.u';refine⟨_,by omega,j+1,by omega,rfl,⟨YM.sub.ao (aF.1 h3).2,YM.no,va4,.own id 0 s.u'.length,by rw[ab WZ];exact w4,?_,.inr ⟨id,by rw[cJ,hlen5],?_,h3⟩,λh=>?_⟩,rfl⟩
    .rcases g1 with h|⟨i1,k1,k2,k3⟩
     .exact .inl h
     .have hne1:i1≠id:=λe=>by rw[e,h2]at k2;simp at k2
      exact .inr ⟨i1,k1,by rw[ab hne1];exact k2,k3⟩
    .rw[af,<-hset,List.map_set];rfl
    .have:=congrArg List.length h;rw[hlen5]at this;simp only[List.length_nil]at this;omega
   .have q:=qF B';apply sR;simp only[go_sem,seval,t40,t41,q];refine XX ⟨rfl,?_⟩;have he:fi s.atoms.length j s.u'=s.u'.map (lP s.atoms.length):=by
     unfold fi;rw[lf (by omega),List.drop_of_length_le (by omega),iN]
    rw[he]at YM;exact YM
 .have hh:vZ s=max (s.Wy.y+s.Wy.m) (cy (fS 3) s.u').1:=by unfold vZ;rw[hlow];rfl
  generalize (cy (fS 3) s.u').1=low at*;apply sR;simp only[go_sem,seval,w2,hlf,cg];have hJ3:=hJ2.ML w2 (max (s.Wy.y+s.Wy.m) low);simp only at hJ3;rw[<-hh]at hJ3|-;refine ag.loop (λm st=>∃j:Nat,j<=s.u'.length/\m=s.u'.length-j/\WkJ l rs Z0 iw { s with U':=vZ s,u':=fi s.atoms.length j s.u' } st.U/\st.s 0=.ptr iw 0 0/\st.s 40=vI s.u'.length/\st.s 41=vI j) s.u'.length ?_ ?_
  .exact⟨0,by omega,rfl,by simpa[fi]using hJ3,rfl,rfl,rfl⟩
  .rintro m ⟨S,J⟩ ⟨j,hj,rfl,YM,t0,t40,t41⟩;simp only at YM t0 t40 t41;refine ag.mix 5 ?_;by_cases B':j<s.u'.length
   .have q:=qT B';obtain⟨va4,vf4,w4,g1,g2,g3⟩:=YM.row;simp only at w4 g1 g2 g3;obtain⟨ca4,_⟩:=g1.vc;have hla4:dv false va4=some (.int .i64 s.atoms.length):=by rw[g1.len];simp
    have hlen4:=kz s.atoms.length j s.u';rcases g2 with⟨_,h0⟩|⟨id,rfl,h2,h3⟩
    .exfalso;have:=congrArg List.length h0;rw[cJ,hlen4]at this;simp only[List.length_nil]at this;omega
    have YJ:=rN (n:=s.atoms.length) B';have hset:=sx (n:=s.atoms.length) B';have hget2:((fi s.atoms.length j s.u').map az)[j]?=some (az s.u'[j]):=by rw[xc,YJ];rfl
    have hrl:((fi s.atoms.length j s.u').map az).length=s.u'.length:=by rw[cJ,hlen4]
    have M':∀n,n=s.u'.length->bp J 7 (.own id 0 n) (.int .i64 j)=some (.ptr id j 0):=λn hn=>by subst hn;rw[<-hrl];exact kc h2 (by rw[hrl];exact B')
    generalize hfj:s.u'[j]=f at*;have hen:az f=.agg [vI f.node,vI f.side,vI f.anchor,vI f.x,vI f.y,vI f.w,vI f.h]:=rfl;rw[hen]at hget2;have r1:WI .i64 ((s.atoms.length:Int)-1):=ae;have r2:=rI j;have cf4:(V.own id 0 s.u'.length).cells=[.own id 0 s.u'.length]:=rfl;rw[hrl]at w4;apply sR;simp only[go_sem,seval,t0,t40,t41,q,w4,hla4,h2,M' _ rfl,hget2,r1,r2,cg,dN];have WZ:iw≠id:=(aF.1 h3).1.symm;have hlen5:=kz s.atoms.length (j+1) s.u';refine⟨_,by omega,j+1,by omega,rfl,⟨YM.sub.ao (aF.1 h3).2,YM.no,va4,.own id 0 s.u'.length,by rw[ab WZ];exact w4,?_,.inr ⟨id,by rw[cJ,hlen5],?_,h3⟩,λh=>?_⟩,rfl⟩
    .rcases g1 with h|⟨i1,k1,k2,k3⟩
     .exact .inl h
     .have hne1:i1≠id:=λe=>by rw[e,h2]at k2;simp at k2
      exact .inr ⟨i1,k1,by rw[ab hne1];exact k2,k3⟩
    .rw[af,<-hset,List.map_set];rfl
    .have:=congrArg List.length h;rw[hlen5]at this;simp only[List.length_nil]at this;omega
   .have q:=qF B';apply sR;simp only[go_sem,seval,t40,t41,q];refine XX ⟨rfl,?_⟩;have he:fi s.atoms.length j s.u'=s.u'.map (lP s.atoms.length):=by
     unfold fi;rw[lf (by omega),List.drop_of_length_le (by omega),iN]
    rw[he]at YM;exact YM
open Go.Proofs
structure Gal where
 atoms:List XA
 u':List T'
 U':Int
def x6(g:Gal):V:=.agg [aT g.atoms,ax g.u',vI g.U']
def cB(l:List Nd)(w:Int):List Rm:=dc l l.length 0 l.length ⟨0,w⟩
def N8(l:List Nd)(w:Int):WS:=(cU l (cB l w) l.length 0 l.length ⟨[],[],0,⟨0,0⟩⟩).fin
def cY(l:List Nd)(w:Int):Gal:=⟨(N8 l w).atoms,(N8 l w).u',(N8 l w).U'⟩
def oF{l:List Nd}(hb:Xh l=true):∀(k a e:Nat) (r:Rm),e<=l.length->bG l a e=true->r.ok->∀q∈dc l k a e r,q.ok
 |0,_,_,_,_,_,_,q,hq=>by simp[dc]at hq
 |k+1,a,e,r,he,hr,WB,q,hq=>by
  rw[dc]at hq;split at hq
  .rename_i B';obtain⟨h1,h2⟩:=bV he hr (Xc a) B';obtain⟨h3,h4⟩:=cK he hr B';rcases dJ.1 hq with rfl|hq
   .exact WB
   .rcases dH.1 hq with hq|hq
    .obtain⟨g1,g2,_⟩:=JC hb (a:=a) (by omega);exact oF hb k _ _ _ (by omega) h4 (yG WB (by rw[g1];exact g2)) q hq
    .exact oF hb k _ _ _ he h3 WB q hq
  .cases hq
def pn{l:List Nd}(hb:Xh l=true)(hn:l.length<=2000){w:Int}(h1:1<=w)(h2:w<=1099511627776):DOk l (cB l w):=by
 have hr:bG l 0 l.length=true:=by simp only[Xh,Ba]at hb;exact hb.2
 exact⟨hn,hb,by unfold cB;rw[jy (Xc _) _ _ _ (by omega) (by omega) hr];omega,oF hb _ _ _ _ (Xc _) hr ⟨by simp,by simp,h1,h2⟩⟩
def Oz(l:List Nd)(hl:dz l)(hb:Xh l=true)(hn:l.length<=2000)(hwl:∀n∈l,n.words.length<=10000)(hc:Xv l 0 l.length<=50000)(hck:aE prog 30 [ay l] (vI 0))(w:Int)(h1:1<=w)(h2:w<=1099511627776):
 aE prog 36 [ay l,vI w] (.WC [x6 (cY l w),vI 0]):=λU=>by
 refine e36.q ?_;have hs:=aa.refl U;have hD:=pn hb hn h1 h2;have hr:bG l 0 l.length=true:=by simp only[Xh,Ba]at hb;exact hb.2
 refine mS 8 ?_;simp only[go_sem,seval,c36];refine al hs λi4 Z4 s4 a4 f4 z4 hs=>?_;have X9:=rO w;rw[show decide (1<=w/\w<=1099511627776)=true by simp;omega]at X9;simp only[go_sem,seval];refine pR rfl (X9 _) ?_;have qz:((0:Int)≠0)=False:=H' (λh=>h rfl);apply sR;simp only[go_sem,seval];refine pS rfl (hck _) ?_;simp only[go_sem,seval,qz];refine pR rfl (K2 l hl hb w h1 h2 _) ?_;have hrm:dc l l.length 0 l.length ⟨0,w⟩=cB l w:=rfl;rw[hrm];apply sR;simp only[go_sem,seval,cp,eh,zP,yW];refine aj λi23 Z23 s23 a23 f23=>?_;have hJ:WkJ l (cB l w) Z4 i23 ⟨[],[],0,⟨0,0⟩⟩ Z23:=⟨s23,f23,.aB,.aB,a23,aq.start,aq.start,λ_=>rfl⟩
 have hI:fk ⟨[],[],0,⟨0,0⟩⟩ 0:=⟨⟨by simp,by simp,by simp,by simp,by simp⟩,by simp,by simp⟩
 have hn0:=bK l;simp only[go_sem,seval,hn0];have X8:=Oe hD hwl (l.length+1) 0 l.length 0 (by omega) (by omega) (Xc _) hr (by omega) _ _ _ hJ hI;refine Yn rfl X8 ?_;rintro r Z5 ⟨rfl,hJ5⟩;have hI5:=gG hD (l.length-0) 0 l.length ⟨[],[],0,⟨0,0⟩⟩ 0 (by omega) (by omega) (Xc _) hr hI;apply sR;simp only[go_sem,seval];refine Yn rfl (Nl hJ5 hI5 (by omega)) ?_;rintro r Z6 ⟨rfl,hJ6⟩;have hgl:cY l w=⟨(cU l (cB l w) (l.length-0) 0 l.length ⟨[],[],0,⟨0,0⟩⟩).fin.atoms,(cU l (cB l w) (l.length-0) 0 l.length ⟨[],[],0,⟨0,0⟩⟩).fin.u',(cU l (cB l w) (l.length-0) 0 l.length ⟨[],[],0,⟨0,0⟩⟩).fin.U'⟩:=rfl;rw[hgl];generalize (cU l (cB l w) (l.length-0) 0 l.length ⟨[],[],0,⟨0,0⟩⟩).fin=s at*;obtain⟨va,vf,w6,g1,g2,_⟩:=hJ6.row;obtain⟨ca,sa⟩:=g1.vc;obtain⟨cf,sf⟩:=g2.vc;have b4:=hJ6.sub _ _ a4;have n423:=aQ a4 f23;apply sR;simp only[go_sem,seval,w6,b4];have hK:aa U (bj Z4 i23):=λi o h=>by
  rw[bj,au (λe=>by rw[e,hs.none f23]at h;cases h)];exact hs _ _ h
 have key:∀{e sz:Nat} {v:V} {rows:List V} {o:Ob},aq (bj Z4 i23) Z6 e sz v rows->aq (bj Z4 i23) (C' Z6 i4 o) e sz v rows:=λ{e sz v rows o} h=>by
  rcases h with h|⟨id,k1,k2,k3⟩
  .exact .inl h
  .exact .inr ⟨id,k1,by rw[ab (λe=>by rw[e]at k3;rw[(aF.1 k3).2]at a4;cases a4)];exact k2,k3⟩
 have XV:∀o,aa U (C' Z6 i4 o):=λo=>(hs.trans hJ6.sub).ao z4;refine⟨_,U,XV _,Wk.WC (vs':=[x6 ⟨s.atoms,s.u',s.U'⟩,vI 0]) ⟨Wk.agg (vs':=[aT s.atoms,ax s.u',vI s.U']) ⟨(key g1).wk hK (XV _),(key g2).wk hK (XV _),Wk.refl (XV _) _,trivial⟩,Wk.refl (XV _) _,trivial⟩,rfl,rfl⟩
open Go.Proofs
def tG(node:Int):List Int->Nat
 |[]=>0
 |x::r=>if x=node then tG node r+1 else 0
def MH(node:Int):∀l,tG node l<=l.length
 |[]=>by simp[tG]
 |x::r=>by
  rw[tG];split
  .have:=MH node r;simp only[YI];omega
  .simp
def mB(of:List Int)(fr:Nat)(node:Int):Nat:=tG node (of.drop fr)
def F6(of:List Int)(fr:Nat)(node:Int):mB of fr node<=of.length-fr:=by
 have:=MH node (of.drop fr);rw[re]at this;exact this
def okN(x:Nd)(n:Nat):Bool:=if x.kind=2 then decide (1<=n/\n<=x.words.length)else if x.kind=3 then decide (n=1)else decide (n=0)
def Aw(of:List Int):List Nd->Nat->Nat->Bool
 |[],_,W3=>decide (W3=of.length)
 |x::r,i,W3=>okN x (mB of W3 i)&&Aw of r (i+1) (W3+mB of W3 i)
def rC(l:List Nd)(of:List Int):Bool:=Aw of l 0 0
def oZ(l:List Nd)(of:List Int):V:=.agg [ay l,aN of]
def nF(l:List Nd)(of:List Int):(oZ l of).cells=[ay l,aN of]:=rfl
def nT(l:List Nd)(of:List Int):(oZ l of).stays=true:=rfl
def Lz(l:List Nd)(of:List Int)(hn:of.length<=1000000)(fr:Nat)(hf:fr<=of.length)(node:Int):aE prog 185 [oZ l of,vI fr,vI node] (vI (mB of fr node)):=λU=>by
 refine Tq.q ?_;have hs:=aa.refl U;have hl:=cV of;refine mS 8 ?_;simp only[go_sem,seval,Sb,nF,nT];refine al hs λi3 Z3 s3 a3 f3 _ hs=>?_;have a3':Z3 i3=some ⟨214,2,[.agg [ay l,aN of]]⟩:=a3;simp only[go_sem,seval];refine ag.loop (λm st=>∃j:Nat,fr+j<=of.length/\m=of.length-(fr+j)/\mB of fr node=j+tG node (of.drop (fr+j))/\st.U=Z3/\st.s 1=vI fr/\st.s 2=vI node/\st.s 3=.ptr i3 0 0/\st.s 7=vI j) (of.length-fr) ?_ ?_
 .exact⟨0,by omega,by omega,by simp[mB],rfl,rfl,rfl,rfl,rfl⟩
 .rintro m ⟨S,J⟩ ⟨j,hj,rfl,ht,WY,t1,t2,t3,t7⟩;simp only at WY t1 t2 t3 t7;subst WY;refine ag.mix 8 ?_;have hjj:(fr:Int)+(j:Int)=((fr+j:Nat):Int):=by omega
  have r1:WI .i64 ((fr:Int)+j):=ae;have r2:=rI j;by_cases B':fr+j<of.length
  .have q:(((fr+j:Nat):Int)<of.length)=True:=L';have Wz:=λU=>de (U:=U) B';rw[iT B',tG]at ht;generalize of[fr+j]=x at*;rw[hjj]at r1;by_cases hx:x=node
   .rw[ak hx]at ht;have q2:(x=node)=True:=L' hx;apply sR;simp only[go_sem,seval,t1,t2,t3,t7,a3',hl,hjj,q,q2,Wz,r1,r2];exact⟨_,by omega,j+1,by omega,rfl,by rw[ht,show fr+(j+1)=fr+j+1 by omega];omega,by simp⟩
   .rw[au hx]at ht;have q2:(x=node)=False:=H' hx;apply sR;simp only[go_sem,seval,t1,t2,t3,t7,a3',hl,hjj,q,q2,Wz,r1];exact ai.pure hs (by rw[ht];simp)
  .have q:(((fr+j:Nat):Int)<of.length)=False:=H';rw[List.drop_of_length_le (by omega),tG]at ht;rw[hjj]at r1;apply sR;simp only[go_sem,seval,t1,t3,t7,a3',hl,hjj,q,r1];exact ai.pure hs (by rw[ht];simp)
def R0(l:List Nd)(hll:l.length<=100000)(of:List Int)(hn:of.length<=1000000)(hm:rC l of=true):aE prog 136 [oZ l of] (.bool true):=λU=>by
 refine UU.q ?_;have hs:=aa.refl U;have hl:=cV of;have Yb:=bK l;refine mS 7 ?_;simp only[go_sem,seval,PW,nF,nT];refine al hs λi1 Z1 s1 a1 f1 _ hs=>?_;have a1':Z1 i1=some ⟨214,2,[.agg [ay l,aN of]]⟩:=a1;simp only[go_sem,seval,a1',Yb];refine ag.loop (λm st=>∃(i W3:Nat),i<=l.length/\m=l.length-i/\W3<=of.length/\Aw of (l.drop i) i W3=true/\aa Z1 st.U/\st.s 1=.ptr i1 0 0/\st.s 3=vI W3/\st.s 8=ay l/\st.s 9=vI l.length/\st.s 10=vI i) l.length ?_ ?_
 .exact⟨0,0,by omega,rfl,by omega,by simpa[rC]using hm,aa.refl _,rfl,rfl,rfl,rfl,rfl⟩
 .rintro m ⟨S,J⟩ ⟨i,W3,hi,rfl,Yg,hmk,E',t1,t3,t8,t9,t10⟩;simp only at E' t1 t3 t8 t9 t10;refine ag.mix 7 ?_;have b1:=E' _ _ a1';by_cases B':i<l.length
  .have q:=qT B';have Wz:=gJ l B';rw[iT B',Aw,Ba]at hmk;obtain⟨WB,hmk⟩:=hmk;have htl:=F6 of W3 i;have htc:=Lz l of hn W3 Yg i;generalize mB of W3 i=n at*;generalize l[i]=x at*;apply sR;simp only[go_sem,seval,t8,t9,t10,q,Wz,Nd.cells];refine aj λi5 Z5 s5 a5 f5=>?_;have c1:=s5 _ _ b1;have n15:=aQ b1 f5;simp only[go_sem,seval,a5,c1,t1,t3,ab n15];refine pR rfl (htc _) ?_;have hwl:dv false (aN x.words)=some (.int .i64 x.words.length):=cV _;have r1:=rI i;have r2:WI .i64 ((W3:Int)+n):=ae;have q5:((W3:Int)+n)=((W3+n:Nat):Int):=by omega
   rw[q5]at r2;unfold okN at WB;by_cases k2:x.kind=2
   .rw[ak k2]at WB;simp only[YX]at WB;have p1:((n:Int)<1)=False:=H';have p2:((n:Int)>x.words.length)=False:=H';have p0:(x.kind=2)=True:=L' k2;apply sR;simp only[go_sem,seval,t1,t3,t8,t9,t10,p0,p1,p2,hwl,r1,r2,q5];exact⟨_,by omega,i+1,W3+n,by omega,rfl,by omega,hmk,E'.trans (s5.ao f5),by simp⟩
   .rw[au k2]at WB;have p0:(x.kind=2)=False:=H' k2;by_cases k3:x.kind=3
    .rw[ak k3]at WB;simp only[YX]at WB;have p3:(x.kind=3)=True:=L' k3;have p1:((n:Int)≠1)=False:=H';apply sR;simp only[go_sem,seval,t1,t3,t8,t9,t10,p0,p3,p1,r1,r2,q5];exact⟨_,by omega,i+1,W3+n,by omega,rfl,by omega,hmk,E'.trans (s5.ao f5),by simp⟩
    .rw[au k3]at WB;simp only[YX]at WB;have p3:(x.kind=3)=False:=H' k3;have p1:((n:Int)>0)=False:=H';apply sR;simp only[go_sem,seval,t1,t3,t8,t9,t10,p0,p3,p1,r1,r2,q5];exact⟨_,by omega,i+1,W3+n,by omega,rfl,by omega,hmk,E'.trans (s5.ao f5),by simp⟩
  .have q:=qF B';rw[List.drop_of_length_le (by omega),Aw,YX]at hmk;have q2:((W3:Int)=of.length)=True:=L';apply sR;simp only[go_sem,seval,t1,t3,t9,t10,q,b1,hl,q2];exact ai.pure (hs.trans E') rfl
def qx(l:List Nd)(hf:dz l)(hb:Xh l=true)(of:List Int)(hn:of.length<=1000000)(hm:rC l of=true):aE prog 86 [ay l,aN of] (vI 0):=λU=>by
 refine e86.q ?_;have hv:=EJ l hf;rw[hb]at hv;have hl1:=hf.1;refine mS 5 ?_;simp only[go_sem,seval,c86];refine pS rfl (hv _) ?_;simp only[go_sem,seval,cp,dq,iM,eh];refine pS rfl (R0 l (by omega) of hn hm _) ?_;simp only[go_sem,seval];exact ai.same rfl
open Go.Proofs
def wH(l:List Nd)(a b:Int):Bool:=decide (a<=b/\b<a+WJ l a.toNat)
def Hy(l:List Nd)(hb:Xh l=true)(hn:l.length<=100000)(a:Nat)(ha:a<l.length)(b:Int)(h0:0<=b)(h1:b<=1000000):aE prog 270 [ay l,vI a,vI b] (.bool (wH l a b)):=λU=>by
 refine Tk.q ?_;have Wz:=gJ l ha;have Yh:=gY ha;have hsb:=rX hb ha;refine ag.mix 7 ?_;unfold wH;rw[eU,Yh];rw[Yh]at hsb;by_cases h:(a:Int)<=b
 .have q:((a:Int)<=b)=True:=L' h;have r1:WI .i64 ((a:Int)+l[a].size):=ae;apply sR;simp only[go_sem,seval,Nx,q,Wz,Nd.cells,r1];exact ai.same (by simp)
 .have q:((a:Int)<=b)=False:=H' h;apply sR;simp only[go_sem,seval,Nx,q];exact ai.same (by simp)
def hAt(l:List Nd)(of:List Int)(b k:Int):Bool:=if 0<=k/\k<of.length then wH l b (of.getD k.toNat 0)else false
def DQ(l:List Nd)(hb:Xh l=true)(hn:l.length<=100000)(of:List Int)(Yq:of.length<=1000000)(Xt:∀x∈of,0<=x/\x<l.length)(b:Nat)(XW:b<l.length)(k:Int){U:ad}{i4 i9:Nat}(h4:U i4=some ⟨46,1,[aN of]⟩)(h9:U i9=some ⟨214,2,[oZ l of]⟩):
 av prog 269 [vI b,vI k,.ptr i4 0 0,.ptr i9 0 0] U λr Z'=>r=.bool (hAt l of b k)/\Z'=U:=by
 refine VI.q ?_;have hl:=cV of;rw[oZ]at h9;refine ag.mix 7 ?_;unfold hAt;by_cases hk0:0<=k
 .have q0:(k>=0)=True:=L' hk0;obtain⟨j,rfl⟩:∃j:Nat,k=j:=⟨k.toNat,by omega⟩
  by_cases X6:(j:Int)<of.length
  .have q1:((j:Int)<of.length)=True:=L' X6;have hjl:j<of.length:=by omega
   have Wz:=λU=>de (U:=U) hjl;have hx:=Xt _ (Xo hjl);have hgd:of.getD j 0=of[j]:=by simp[hjl]
   rw[ak ⟨hk0,X6⟩,eU,hgd];apply sR;simp only[go_sem,seval,Km,q0,q1,h4,h9,hl,Wz,dq];refine pJ rfl (Hy l hb hn b XW of[j] hx.1 (by omega)) ?_;apply sG;simp only[go_sem,seval];exact ai.same rfl
  .have q1:((j:Int)<of.length)=False:=H' X6;rw[au (λh=>X6 h.2)];apply sR;simp only[go_sem,seval,Km,q0,q1,h4,hl,dq];exact ai.same rfl
 .have q0:(k>=0)=False:=H' hk0;rw[au (λh=>hk0 h.1)];apply sR;simp only[go_sem,seval,Km,q0];exact ai.same rfl
structure CU(l:List Nd)(of:List Int)(k:Int)(i4 i5 i9 i10:Nat)(U:ad):Prop where
 r4:U i4=some ⟨46,1,[aN of]⟩
 r5:U i5=some ⟨3,1,[vI k]⟩
 r9:U i9=some ⟨214,2,[oZ l of]⟩
 r10:U i10=some ⟨242,1,[.fn 269 [.ptr i4 0 0,.ptr i9 0 0]]⟩
def CU.mono{l:List Nd}{of:List Int}{k:Int}{i4 i5 i9 i10:Nat}{U J:ad}(h:CU l of k i4 i5 i9 i10 U)(hs:aa U J):CU l of k i4 i5 i9 i10 J:=⟨hs _ _ h.r4,hs _ _ h.r5,hs _ _ h.r9,hs _ _ h.r10⟩
def NZ(l:List Nd)(hb:Xh l=true)(hn:l.length<=100000)(of:List Int)(Yq:of.length<=1000000)(Xt:∀x∈of,0<=x/\x<l.length)(b:Nat)(XW:b<l.length)(k:Int){U:ad}{i4 i5 i9 i10:Nat}(h:CU l of k i4 i5 i9 i10 U):
 av prog 272 [vI b,.ptr i10 0 0,.ptr i5 0 0] U λr Z'=>r=.bool (!hAt l of b k)/\Z'=U:=by
 refine TQ.q ?_;have r5:=h.r5;have r10:=h.r10;refine mS 5 ?_;simp only[go_sem,seval,QT,r5,r10];refine pS rfl (DQ l hb hn of Yq Xt b XW k h.r4 h.r9) ?_;simp only[go_sem,seval];exact ai.same rfl
def N4(l:List Nd)(hb:Xh l=true)(hn:l.length<=100000)(of:List Int)(Yq:of.length<=1000000)(Xt:∀x∈of,0<=x/\x<l.length)(b:Nat)(XW:b<l.length)(k:Int)(hk0:0<=k)(X6:k<=1000000){U:ad}{i4 i5 i9 i10:Nat}(h:CU l of k i4 i5 i9 i10 U):
 av prog 273 [vI b,.ptr i10 0 0,.ptr i5 0 0] U λr Z'=>r=.bool (!hAt l of b (k-1))/\Z'=U:=by
 refine Wq.q ?_;have r5:=h.r5;have r10:=h.r10;have r1:WI .i64 (k-1):=ae;refine mS 5 ?_;simp only[go_sem,seval,Qk,r5,r10,r1];refine pS rfl (DQ l hb hn of Yq Xt b XW (k-1) h.r4 h.r9) ?_;simp only[go_sem,seval];exact ai.same rfl
def Of(l:List Nd)(hb:Xh l=true)(hn:l.length<=100000)(of:List Int)(Yq:of.length<=1000000)(Xt:∀x∈of,0<=x/\x<l.length)(b:Nat)(XW:b<l.length)(k:Int)(hk0:0<=k)(X6:k<=1000000){U:ad}{i4 i5 i9 i10:Nat}(h:CU l of k i4 i5 i9 i10 U):
 av prog 275 [vI b,.ptr i10 0 0,.ptr i5 0 0] U λr Z'=>r=.bool (hAt l of b (k-1))/\Z'=U:=by
 refine Ty.q ?_;have r5:=h.r5;have r10:=h.r10;have r1:WI .i64 (k-1):=ae;refine mS 5 ?_;simp only[go_sem,seval,Ra,r5,r10,r1];refine pS rfl (DQ l hb hn of Yq Xt b XW (k-1) h.r4 h.r9) ?_;simp only[go_sem,seval];exact ai.same rfl
def BY(l:List Nd)(hl:dz l)(hb:Xh l=true)(hn:l.length<=100000)(a:Nat)(ha:a<l.length):Iter prog 295 [.rp (ay l),.rp (vI a)] ((abv l a).map λn=>[vI n]):=by
 refine⟨PB.c,λXk τ Jx Z0 hy hJ=>?_⟩;refine(PB.q ?_).2;have hab:=AP l hl hb hn a ha;have ZN:=jW l (l.length+1) (db l a);have e0:(abv l a).length<=l.length+1:=ZN;have hlen:=cV (abv l a);generalize abv l a=L at*;have ldA:∀U,bO U false 1 (.rp (ay l))=some (ay l):=λU=>rfl;have ldB:∀U (n:Int),bO U false 1 (.rp (vI n))=some (vI n):=λU n=>rfl;refine mS 6 ?_;simp only[go_sem,seval,RS,ldA,ldB];refine pS rfl (hab _) ?_;simp only[go_sem,seval,hlen];refine ag.loop (λm st=>∃(j:Nat) (ZJ:ad),j<=L.length/\m=L.length-j/\τ ((L.take j).map λn=>[vI n]) ZJ/\aa ZJ st.U/\st.s 0=.yl Xk/\st.s 8=aN L/\st.s 9=vI L.length/\st.s 10=vI j) L.length ?_ ?_
 .exact⟨0,Z0,by omega,rfl,by simpa using hJ,aa.refl _,rfl,rfl,rfl,rfl⟩
 .rintro m ⟨S,J⟩ ⟨j,ZJ,hj,rfl,YM,E',t0,t8,t9,t10⟩;simp only at E' t0 t8 t9 t10;refine ag.mix 6 ?_;by_cases B':j<L.length
  .have q:=qT B';have Wz:=λU=>de (U:=U) B';have W4:L.take (j+1)=L.take j++[L[j]]:=Yz B';have e:(L.map λn=>[vI n])=((L.take j).map λn=>[vI n])++[vI L[j]]::((L.drop (j+1)).map λn=>[vI n]):=by
    have e0':L=L.take j++L[j]::L.drop (j+1):=by rw[<-iT B',rZ]
    have:=congrArg (List.map λn=>[vI n]) e0'
    rwa [cX,eV]at this
   generalize L[j]=x at*;have r1:=rI j;apply sR;simp only[go_sem,seval,t0,t8,t9,t10,q,Wz];refine ag.ny (Post:=λb Z2=>∃Xj,bb ZJ J Xj Z2/\((b=true/\τ (((L.take j).map λn=>[vI n])++[[vI x]]) Xj)\/(b=false/\Jx (((L.take j).map λn=>[vI n])++[[vI x]]) Xj))) rfl rfl rfl (hy _ [vI x] _ ZJ J e YM E') ?_;rintro b Z2 ⟨Xj,Ys,XT⟩;rcases XT with⟨rfl,XT⟩|⟨rfl,XT⟩
   .apply sR;simp only[go_sem,seval,t0,t8,t9,t10,r1];refine⟨_,?_,j+1,Xj,by omega,rfl,by rw[W4];simpa using XT,Ys.1,by simp⟩;omega
   .apply sR;simp only[go_sem,seval];refine⟨_,Xj,Ys.1,Wk.refl Ys.1 _,.inr ⟨_,?_,XT⟩⟩;rw[e];exact⟨(L.drop (j+1)).map λn=>[vI n],by simp⟩
  .have q:=qF B';rw[lf (by omega)]at YM;apply sR;simp only[go_sem,seval,t9,t10,q];exact⟨_,ZJ,E',Wk.refl E' _,.inl YM⟩
def H7(l:List Nd)(a:Int):aE prog 291 [ay l,vI a] (.fn 295 [.rp (ay l),.rp (vI a)]):=λU=>by
 refine UJ.q ?_;refine ag.mix 4 ?_;have q1:=cp l;have q2:=eh l;generalize ay l=x at*;apply sR;simp only[go_sem,seval,Pw,q1,q2];refine aj λid1 Z1 s1 a1 f1=>?_;simp only[go_sem,seval];refine aj λid2 Z2 s2 a2 f2=>?_;simp only[go_sem,seval];exact⟨_,U,s1.trans s2,Wk.fn (vs':=[.rp x,.rp (vI a)]) ⟨Wk.ptr (s1.trans s2) (s2 _ _ a1) f1,Wk.ptr (s1.trans s2) a2 (s1.none f2),trivial⟩,rfl,rfl⟩
open Go.Proofs
def chR(l:List Nd)(of:List Int)(k:Int)(p:Int->Bool):List Int:=if 0<=k/\k<of.length then(abv l (of.getD k.toNat 0).toNat).filter p else[]
def qO{l:List Nd}{a:Nat}(ha:a<l.length):∀x∈abv l a,∃n:Nat,x=n/\n<a:=λx hx=>by
 have:=IW l _ _ x hx;have h2:=dU l a;exact⟨x.toNat,by omega,by omega⟩
def ry{p:Int->Bool}{L:List Int}{j:Nat}{x:Int}(h:L[j]?=some x):(L.take (j+1)).filter p=(L.take j).filter p++if p x then[x]else[]:=by
 rw[Hm,h,List.filter_append];cases hp:p x<;>simp[hp]
def wE(l:List Nd)(hl:dz l)(hb:Xh l=true)(hn:l.length<=100000)(of:List Int)(Yq:of.length<=1000000)(Xt:∀x∈of,0<=x/\x<l.length)(k:Int)(g:FuncId)(caps:List V)(p:Int->Bool){U:ad}
 (hg:∀b:Nat,b<l.length->∀J,aa U J->av prog g (vI b::caps) J λr Z'=>r=.bool (p b)/\Z'=J):
 av prog 271 [oZ l of,vI k,.fn g caps] U λr Z'=>aa U Z'/\aq U Z' 3 1 r ((chR l of k p).map vI)/\(chR l of k p=[]->r=.aB):=by
 refine Tl.q ?_;have hs:=aa.refl U;have XI:=cV of;refine mS 9 ?_;simp only[go_sem,seval,QB,nF,nT];refine al hs λi3 Z3 s3 a3 f3 _ hs=>?_;simp only[go_sem,seval];refine al hs λi5 Z5 s5 a5 f5 _ hs=>?_;replace a3:=s5 _ _ a3;have a3':Z5 i3=some ⟨214,2,[.agg [ay l,aN of]]⟩:=a3;by_cases hk0:k<0
 .have q0:(k<0)=True:=L' hk0;have hc:chR l of k p=[]:=by unfold chR;rw[au (by omega)]
  simp only[go_sem,seval,q0];rw[hc];exact XX ⟨hs,aq.start,λ_=>rfl⟩
 have q0:(k<0)=False:=H' hk0;obtain⟨j,rfl⟩:∃j:Nat,k=j:=⟨k.toNat,by omega⟩
 by_cases X6:(j:Int)>=of.length
 .have q1:((j:Int)>=of.length)=True:=L' X6;have hc:chR l of j p=[]:=by unfold chR;rw[au (by omega)]
  simp only[go_sem,seval,q0,a3',XI,q1];rw[hc];exact XX ⟨hs,aq.start,λ_=>rfl⟩
 have q1:((j:Int)>=of.length)=False:=H' X6;have hjl:j<of.length:=by omega
 have Wz:=λU=>de (U:=U) hjl;obtain⟨hx0,hx1⟩:=Xt _ (Xo hjl);have hgd:of.getD j 0=of[j]:=by simp[hjl]
 have hc:chR l of j p=(abv l of[j].toNat).filter p:=by unfold chR;rw[ak ⟨by omega,by omega⟩,eU,hgd]
 rw[hc];simp only[go_sem,seval,q0,a3',XI,q1];refine aj λi7 Z7 s7 a7 f7=>?_;have b3:=s7 _ _ a3';simp only[go_sem,seval,b3,Wz];obtain⟨x,hx⟩:∃x:Nat,of[j]=x:=⟨of[j].toNat,by omega⟩
 rw[hx]at hx1|-;refine pR rfl (H7 l x _) ?_;have hit:=BY l hl hb hn x (by omega);have hrg:=qO (l:=l) (a:=x) (by omega);have hlL:(abv l x).length<=l.length+1:=jW _ _ _;rw[eU];generalize abv l x=L at*;apply sR;simp only[go_sem,seval];generalize hS:mix 9 _ _=S;have S5:S 5=.ptr i5 0 0:=by rw[<-hS];rfl
 have S7:S 7=.ptr i7 0 0:=by rw[<-hS];rfl
 have S25:S 25=.fn 295 [.rp (ay l),.rp (vI x)]:=by rw[<-hS];rfl
 clear hS;refine ag.eN (g:=.t 25) (caps:=[.rp (ay l),.rp (vI x)]) S25 hit (λy hy=>?_) [] (λpre ZJ=>∃v,ZJ i7=some ⟨46,1,[v]⟩/\aa Z5 ZJ/\aq (bj Z5 i7) ZJ 3 1 v (((L.take pre.length).filter p).map vI)/\((L.take pre.length).filter p=[]->v=.aB))
  (λ_ _ _=>False) ?_ ?_ ?_ ?_ ?_
 .obtain⟨t,_,rfl⟩:=gb.1 hy;rfl
 .exact⟨.aB,a7,s7,by simpa using aq.start,λ_=>rfl⟩
 .rintro pre y post ZJ ZB ZL ⟨v,J7,Js,Jo,Jn⟩ E';obtain⟨t,hti,rfl⟩:=qY (f:=vI) ZL;obtain⟨tn,rfl,htn⟩:=hrg t (xB hti);have W4:=ry (p:=p) hti;have hlen:(pre++[[vI (tn:Int)]]).length=pre.length+1:=by simp
  rw[hlen,W4];have Zb:(((L.take pre.length).filter p).map vI).length<=1000001:=by
   rw[cJ];have:=List.length_filter_le p (L.take pre.length);rw[jb]at this;omega
  have hvc:v.cells=[v]:=by rcases Jo with⟨rfl,_⟩|⟨_,rfl,_⟩<;>rfl
  generalize W8:(((L.take pre.length).filter p).map vI)=rows at*;have c7:=E' _ _ J7;have c5:=E' _ _ (Js _ _ a5);generalize Zg:nh S [26] [vI (tn:Int)]=S0;have T5:S0 5=.ptr i5 0 0:=by rw[<-Zg];exact S5
  have T7:S0 7=.ptr i7 0 0:=by rw[<-Zg];exact S7
  have T26:S0 26=vI (tn:Int):=by rw[<-Zg];rfl
  clear Zg;refine mS 9 ?_;simp only[go_sem,seval,T26];apply sR;simp only[go_sem,seval,T5,c5];refine pR rfl (hg tn (by omega) _ ((hs.trans Js).trans E')) ?_;cases hp:p (tn:Int)
  .apply sR;simp only[go_sem,seval];refine⟨_,bb.refl E',v,J7,Js,?_,by simpa using Jn⟩;simpa[W8]using Jo
  .apply sR;simp only[go_sem,seval,T7,c7,hvc];rw[bh];intro id28 f28;have hBs:=(bb.refl E').rY (o:=⟨3,1,[vI (tn:Int)]⟩) f28;have y2:C' ZB id28 ⟨3,1,[vI (tn:Int)]⟩ i7=some ⟨46,1,[v]⟩:=by rw[ab (aQ c7 f28)];exact c7
   have a28:C' ZB id28 ⟨3,1,[vI (tn:Int)]⟩ id28=some ⟨3,1,[vI (tn:Int)]⟩:=af;generalize C' ZB id28 ⟨3,1,[vI (tn:Int)]⟩=Z8 at*;obtain⟨idA,Xg,hdA⟩:=Jo.FB hBs.1;have W1:(rows.length+1)*9<=140737488355328:=by omega
   have k2:bj Z5 i7 i7≠none:=λh=>(aF.1 h).1 rfl;have dne:∀(i:Nat) (Zx:ad),bj Z5 i7 i≠none->Vc.bz Zx idA i=Zx i:=λi Zx hk=>by
    cases idA with
    |none=>rfl
    |some a=>exact cA (λe=>hk (by rw[e];exact(hdA a rfl).1))
   simp only[go_sem,seval,Xg,bl a28,W1];rw[bh];intro Zd f29;have f29:Z8 Zd=none:=f29;have m29:i7≠Zd:=aQ y2 f29;have f29':Vc.bz Z8 idA Zd=none:=by
    cases idA with
    |none=>exact f29
    |some a=>simp only[Vc.bz,del];split<;>first|rfl|exact f29
   have y2':C' (Vc.bz Z8 idA) Zd ⟨3,1,rows++[vI (tn:Int)]⟩ i7=some ⟨46,1,[v]⟩:=by rw[ab m29,dne _ _ k2];exact y2
   have hB9:=((hBs.FG (e:=idA) λi h=>(hdA i h).2).new (o:=⟨3,1,rows++[vI (tn:Int)]⟩) f29').set (id:=i7) (o:=⟨46,1,[v]⟩) (o':=⟨46,1,[.own Zd 0 (rows.length+1)]⟩) (by rw[ab m29,dne _ _ k2];exact J7);simp only[go_sem,seval,hvc,y2',T7];refine⟨_,hB9,.own Zd 0 (rows.length+1),af,?_,?_,λh=>by simp at h⟩
   .refine aa.ao (λi o h=>?_) f7;have h1:=Js _ _ h;rw[ab (aQ (hBs.1 _ _ h1) f29),dne _ _ (λhk=>by rw[(aF.1 hk).2]at h;cases h)];exact h1
   .rw[cX,W8];refine aq.new (by simp) (by rw[ab m29.symm,af];rfl) ?_;rw[aF];refine⟨m29.symm,?_⟩;cases h:Z5 Zd with
    |none=>rfl
    |some o=>rw[hBs.1 _ _ (Js _ _ h)]at f29;cases f29
 .rintro Z' ⟨v,J7,Js,Jo,Jn⟩;rw[cJ,dR]at Jo Jn;have hvc:v.cells=[v]:=by rcases Jo with⟨rfl,_⟩|⟨_,rfl,_⟩<;>rfl
  refine mS 9 ?_;simp only[go_sem,seval,S7,J7,hvc];refine XX ⟨hs.trans Js,?_,Jn⟩;rcases Jo with h|⟨id,h1,h2,h3⟩
  .exact .inl h
  .exact .inr ⟨id,h1,h2,hs.none (aF.1 h3).2⟩
 .intro id h;cases h
 .rintro pre Z' _ ⟨⟩
open Go.Proofs
def swp(L:List Int)(i j:Nat):List Int:=(L.set i (L.getD j 0)).set j (L.getD i 0)
def lg(L:List Int):Nat->List Int
 |0=>L
 |t+1=>swp (lg L t) t (L.length-1-t)
def lR(L:List Int):∀t,(lg L t).length=L.length
 |0=>rfl
 |t+1=>by simp[lg,swp,lR L t]
def B5(L:List Int):∀(t:Nat),2*t<=L.length->∀i,i<L.length->(lg L t)[i]?=if i<t\/L.length-t<=i then L[L.length-1-i]? else L[i]?
 |0,_,i,hi=>by rw[lg,au (by omega)]
 |t+1,ht,i,hi=>by
  have ih:=λi hi=>B5 L t (by omega) i hi;have hl:=lR L t;have e1:(lg L t).getD t 0=L.getD t 0:=by
   rw[sc,sc,ih t (by omega),au (by omega)]
  have e2:(lg L t).getD (L.length-1-t) 0=L.getD (L.length-1-t) 0:=by
   rw[sc,sc,ih _ (by omega),au (by omega)]
  rw[lg,swp,e1,e2,List.getElem?_set,List.getElem?_set,List.length_set,hl];have g:∀k,k<L.length->some (L.getD k 0)=L[k]?:=λk hk=>by simp[hk]
  by_cases h1:L.length-1-t=i
  .rw[ak h1,ak (by omega),ak (by omega),g t (by omega)];congr 1;omega
  .rw[au h1];by_cases h2:t=i
   .rw[ak h2,ak (by omega),ak (by omega),g _ (by omega)];congr 1;omega
   .rw[au h2,ih i hi];by_cases h3:i<t\/L.length-t<=i
    .rw[ak h3,ak (by omega)]
    .rw[au h3,au (by omega)]
def Il(L:List Int){t:Nat}(h1:2*t<=L.length)(h2:L.length<=2*t+1):lg L t=L.reverse:=by
 apply List.ext_getElem?;intro i;by_cases hi:i<L.length
 .rw[B5 L t h1 i hi,List.getElem?_reverse hi];split
  .rfl
  .congr 1;omega
 .rw[xi (by rw[lR];omega),xi (by simp;omega)]
def FM(L:List Int)(hL:L.length<=1000000){K U:ad}{v:V}(hv:aq K U 3 1 v (L.map vI))(WZ:L=[]->v=.aB):
 av prog 274 [v] U λr Z'=>r=.WC []/\aq K Z' 3 1 v (L.reverse.map vI)/\∀i o,U i=some o->(o.elem≠3\/K i≠none)->Z' i=some o:=by
 refine UT.q ?_;refine ag.mix 5 ?_;rcases hv with⟨rfl,h0⟩|⟨id,rfl,h2,h3⟩
 .obtain rfl:L=[]:=by simpa using h0
  apply sR;simp only[go_sem,seval,Nq];refine⟨ae,?_⟩;refine ag.loop (λm st=>st.U=U/\st.s 2=vI 0/\∃z:Int,st.s 3=vI z/\z<0) 0 ?_ ?_
  .refine⟨rfl,rfl,_,rfl,?_⟩;simp
  .rintro m ⟨S,J⟩ ⟨WY,t2,z,t3,hz⟩;simp only at WY t2 t3;subst WY;refine ag.mix 5 ?_;have q:((0:Int)<z)=False:=H';apply sR;simp only[go_sem,seval,t2,t3,q];exact XX ⟨rfl,.inl ⟨rfl,rfl⟩,λi o h _=>h⟩
 .have hn:0<L.length:=rW.2 λe=>by have:=WZ e;cases this
  have Yd:(L.map vI).length=L.length:=by simp
  have r1:WI .i64 ((L.length:Int)-1):=ae;apply sR;simp only[go_sem,seval,Nq,Yd,r1];refine ag.loop (λm st=>∃t:Nat,2*t<=L.length/\m=L.length-t/\st.U id=some ⟨3,1,(lg L t).map vI⟩/\(∀i,i≠id->st.U i=U i)/\st.s 0=.own id 0 L.length/\st.s 2=vI t/\∃z:Int,st.s 3=vI z/\z=(L.length:Int)-1-t) L.length ?_ ?_
  .exact⟨0,by omega,by omega,h2,λ_ _=>rfl,rfl,rfl,_,rfl,by simp⟩
  .rintro m ⟨S,J⟩ ⟨t,ht,rfl,g1,g2,t0,t2,z,t3,rfl⟩;simp only at g1 g2 t0 t2 t3;refine ag.mix 5 ?_;have hrl:((lg L t).map vI).length=L.length:=by rw[cJ,lR]
   by_cases B':(t:Int)<(L.length:Int)-1-t
   .have q:((t:Int)<(L.length:Int)-1-t)=True:=L' B';have hj:((L.length:Int)-1-t)=((L.length-1-t:Nat):Int):=by omega
    obtain⟨j,hjj⟩:∃j,j=L.length-1-t:=⟨_,rfl⟩
    rw[hj,<-hjj]at t3 q;have hti:t<(lg L t).length:=by rw[lR];omega
    have hji:j<(lg L t).length:=by rw[lR];omega
    have i1:∀n,n=L.length->bp J 1 (.own id 0 n) (.int .i64 t)=some (.ptr id t 0):=λn hn=>by subst hn;rw[<-hrl];exact kc g1 (by rw[hrl];omega)
    have i2:∀n,n=L.length->bp J 1 (.own id 0 n) (.int .i64 j)=some (.ptr id j 0):=λn hn=>by subst hn;rw[<-hrl];exact kc g1 (by rw[hrl];omega)
    have v1:((lg L t).map vI)[t]?=some (vI ((lg L t).getD t 0)):=by simp[hti]
    have v2:((lg L t).map vI)[j]?=some (vI ((lg L t).getD j 0)):=by simp[hji]
    have i3:∀a n,n=L.length->bp (C' J id ⟨3,1,((lg L t).map vI).set t a⟩) 1 (.own id 0 n) (.int .i64 j)=some (.ptr id j 0):=λa n hn=>by
     have e:n=(((lg L t).map vI).set t a).length:=by rw[List.length_set,hrl,hn]
     rw[e];exact kc af (by rw[List.length_set,hrl];omega)
    have v3:∀a,(((lg L t).map vI).set t a)[j]?=some (vI ((lg L t).getD j 0)):=λa=>by rw[List.getElem?_set_ne (by omega)];exact v2
    have r4:=rI t;have r5:WI .i64 ((j:Int)-1):=ae;apply sR;simp only[go_sem,seval,t0,t2,t3,q,g1,i1 _ rfl,i2 _ rfl,i3 _ _ rfl,v1,v2,v3,r4,r5];refine⟨_,?_,t+1,by omega,rfl,?_,λi hi=>?_,by simp,_,rfl,by omega⟩
    .omega
    .simp only[lg,swp,List.map_set];rw[hjj]
    .rw[ab hi];exact g2 i hi
   .have q:((t:Int)<(L.length:Int)-1-t)=False:=H' B';apply sR;simp only[go_sem,seval,t2,t3,q];have hr:=Il L ht (by omega);rw[hr]at g1;refine XX ⟨rfl,.inr ⟨id,by simp,g1,h3⟩,λi o h hio=>?_⟩;rw[g2 i (λe=>by subst e;rw[h2]at h;injection h with h;subst h;rcases hio with h|h;exact h rfl;exact h h3)]
    exact h
open Go.Proofs
structure Kn where
 (ends YL both:List Int)
 text:Int
def ik(x:Kn):V:=.agg [aN x.ends,aN x.YL,aN x.both,vI x.text]
def cq(l:List Nd)(of:List Int)(k:Nat):Kn:=
 ⟨chR l of ((k:Int)-1) (λb=>!hAt l of b k),(chR l of k (λb=>!hAt l of b ((k:Int)-1))).reverse,chR l of k (λb=>hAt l of b ((k:Int)-1)),
  if 0<k/\k<of.length/\of.getD k 0=of.getD (k-1) 0 then of.getD k 0 else -1⟩
structure KR(l:List Nd)(of:List Int)(k:Int)(i4 i5 i6 i9 i10 i11:Nat)(v:V)(Z0 U:ad):Prop where
 ask:CU l of k i4 i5 i9 i10 U
 r6:U i6=some ⟨259,4,[.agg [.aB,.aB,.aB,vI 0]]⟩
 r11:U i11=some ⟨259,4,[v]⟩
 sub:aa Z0 U
 no:Z0 i11=none
 ne:i4≠i11/\i5≠i11/\i6≠i11/\i9≠i11/\i10≠i11
def KR.mono{l:List Nd}{of:List Int}{k:Int}{i4 i5 i6 i9 i10 i11:Nat}{v:V}{Z0 U J:ad}(h:KR l of k i4 i5 i6 i9 i10 i11 v Z0 U)(hs:aa U J):KR l of k i4 i5 i6 i9 i10 i11 v Z0 J:=
 ⟨h.ask.mono hs,hs _ _ h.r6,hs _ _ h.r11,h.sub.trans hs,h.no,h.ne⟩
def KR.put{l:List Nd}{of:List Int}{k:Int}{i4 i5 i6 i9 i10 i11:Nat}{v w:V}{Z0 U:ad}(h:KR l of k i4 i5 i6 i9 i10 i11 v Z0 U):KR l of k i4 i5 i6 i9 i10 i11 w Z0 (C' U i11 ⟨259,4,[w]⟩):=by
 obtain⟨n1,n2,n3,n4,n5⟩:=h.ne;exact⟨⟨by rw[ab n1];exact h.ask.r4,by rw[ab n2];exact h.ask.r5,by rw[ab n4];exact h.ask.r9,by rw[ab n5];exact h.ask.r10⟩,by rw[ab n3];exact h.r6,af,h.sub.ao h.no,h.no,h.ne⟩
def EG(l:List Nd)(hl:dz l)(hb:Xh l=true)(of:List Int)(Yq:of.length<=1000000)(Xt:∀x∈of,0<=x/\x<l.length)(hm:rC l of=true)(k:Nat)(hk:k<=of.length):
 aE prog 238 [ay l,aN of,vI k] (.WC [ik (cq l of k),vI 0]):=λU=>by
 refine US.q ?_;have hs:=aa.refl U;have XI:=cV of;have hn:l.length<=100000:=by have:=hl.1;omega
 refine mS 12 ?_;simp only[go_sem,seval,Rd,dq,iM];refine al hs λi4 Z4 s4 a4 f4 _ hs=>?_;simp only[go_sem,seval];refine al hs λi5 Z5 s5 a5 f5 _ hs=>?_;replace a4:=s5 _ _ a4;simp only[go_sem,seval];refine al hs λi6 Z6 s6 a6 f6 z6 hs=>?_;replace a4:=s6 _ _ a4;replace a5:=s6 _ _ a5;simp only[go_sem,seval,a4,dq];refine pR rfl (qx l hl hb of Yq hm _) ?_;have q0:((0:Int)≠0)=False:=H' (λh=>h rfl);have q1:((k:Int)<0)=False:=H';have q2:((k:Int)>of.length)=False:=H';apply sR;simp only[go_sem,seval,q0,q1,q2,a4,a5,XI,cp,dq,iM,eh];refine al hs λi9 Z9 s9 a9 f9 z9 hs=>?_;obtain⟨n49,a4⟩:=WG a4 f9 s9;obtain⟨n59,a5⟩:=WG a5 f9 s9;obtain⟨n69,a6⟩:=WG a6 f9 s9;simp only[go_sem,seval,a9];generalize Xw:C' _ i9 _=Y9;replace a9:=XD Xw;replace a4:=WQ Xw n49 a4;replace a5:=WQ Xw n59 a5;replace a6:=WQ Xw n69 a6;replace hs:=Xz Xw hs z9;have hnf:V.Ya.cells=[.Ya]:=rfl;refine al hs λi10 Z10 Yt Xm f10 Zn hs=>?_;obtain⟨n410,a4⟩:=WG a4 f10 Yt;obtain⟨n510,a5⟩:=WG a5 f10 Yt;obtain⟨n610,a6⟩:=WG a6 f10 Yt;obtain⟨n910,a9⟩:=WG a9 f10 Yt;simp only[go_sem,seval,Xm,hnf];generalize Xu:C' _ i10 _=Y10;replace Xm:=XD Xu;replace a4:=WQ Xu n410 a4;replace a5:=WQ Xu n510 a5;replace a6:=WQ Xu n610 a6;replace a9:=WQ Xu n910 a9;replace hs:=Xz Xu hs Zn;refine al hs λi11 Z11 s11 XF f11 z11 hs=>?_;obtain⟨n411,a4⟩:=WG a4 f11 s11;obtain⟨n511,a5⟩:=WG a5 f11 s11;obtain⟨n611,a6⟩:=WG a6 f11 s11;obtain⟨n911,a9⟩:=WG a9 f11 s11;obtain⟨YA,Xm⟩:=WG Xm f11 s11;simp only[go_sem,seval,XF,a9,a5,ab n511,ab n911];generalize Xs:C' _ i11 _=Y11;replace XF:=XD Xs;replace a4:=WQ Xs n411 a4;replace a5:=WQ Xs n511 a5;replace a6:=WQ Xs n611 a6;replace a9:=WQ Xs n911 a9;replace Xm:=WQ Xs YA Xm;replace hs:=Xz Xs hs z11;have hK:KR l of k i4 i5 i6 i9 i10 i11 (.agg [.aB,.aB,.aB,vI (-1)]) U Y11:=⟨⟨a4,a5,a9,Xm⟩,a6,XF,hs,z11,n411,n511,n611,n911,YA⟩
 clear hs a4 a5 a6 a9 Xm XF;generalize Y11=J at*;have hZ11:=hK.r11;have hZs:=hK.sub;refine⟨ae,?_⟩;refine Yn rfl (wE l hl hb hn of Yq Xt ((k:Int)-1) 272 [.ptr i10 0 0,.ptr i5 0 0] (λb=>!hAt l of b k) (λb XW X' hτ=>NZ l hb hn of Yq Xt b XW k (hK.ask.mono hτ))) ?_;rintro v0 Z1 ⟨s1,o0,_⟩;have hK1:=hK.mono s1;clear hK s1;obtain⟨cv0,sv0⟩:=o0.vc;have c11:=hK1.r11;have c9:=hK1.ask.r9;have c5:=hK1.ask.r5;rw[oZ]at c9;apply sR;simp only[go_sem,seval,c11,c9,c5,cv0,sv0,ab n911,ab n511];have hK2:=hK1.put (w:=.agg [v0,.aB,.aB,vI (-1)]);have o0':aq (bj U i11) (C' Z1 i11 ⟨259,4,[.agg [v0,.aB,.aB,vI (-1)]]⟩) 3 1 v0 ((chR l of ((k:Int)-1) (λb=>!hAt l of b k)).map vI):=by
  rcases o0 with h|⟨id,g1,g2,g3⟩
  .exact .inl h
  .have g3:J id=none:=g3;have WZ:id≠i11:=λe=>by rw[e,hZ11]at g3;cases g3
   exact .inr ⟨id,g1,by rw[ab WZ];exact g2,aF.2 ⟨WZ,hZs.none g3⟩⟩
 generalize C' Z1 i11 ⟨259,4,[.agg [v0,.aB,.aB,vI (-1)]]⟩=Y2 at*;refine Yn rfl (wE l hl hb hn of Yq Xt k 273 [.ptr i10 0 0,.ptr i5 0 0] (λb=>!hAt l of b ((k:Int)-1)) (λb XW X' hτ=>N4 l hb hn of Yq Xt b XW k (by omega) (by omega) (hK2.ask.mono hτ))) ?_;rintro v1 Z3 ⟨s3,o1,n1⟩;have hK3:=hK2.mono s3;have o03:=o0'.mono s3;obtain⟨cv1,sv1⟩:=o1.vc;have d11:=hK3.r11;have x11:=hK2.r11;apply sR;simp only[go_sem,seval,d11,cv1,sv1];have hK4:=hK3.put (w:=.agg [v0,v1,.aB,vI (-1)]);have push:∀{K Zx:ad} {v:V} {rows:List V} {o:Ob},K i11≠none->aq K Zx 3 1 v rows->aq K (C' Zx i11 o) 3 1 v rows:=λ{K Zx v rows o} hk h=>by
  rcases h with h|⟨id,g1,g2,g3⟩
  .exact .inl h
  .exact .inr ⟨id,g1,by rw[ab (λe=>by rw[e]at g3;exact hk g3)];exact g2,g3⟩
 have kk:bj U i11 i11≠none:=λh=>(aF.1 h).1 rfl;have o1':aq Y2 Z3 3 1 v1 _:=o1;have o04:=push (o:=⟨259,4,[.agg [v0,v1,.aB,vI (-1)]]⟩) kk o03;have o14:=push (o:=⟨259,4,[.agg [v0,v1,.aB,vI (-1)]]⟩) (by rw[x11];simp) o1';generalize C' Z3 i11 ⟨259,4,[.agg [v0,v1,.aB,vI (-1)]]⟩=Y4 at*;have Yj:∀kk p,(chR l of kk p).length<=1000000:=λkk p=>by
  unfold chR;split
  .have h1:=List.length_filter_le p (abv l (of.getD kk.toNat 0).toNat);have h2:=jW l (l.length+1) (db l (of.getD kk.toNat 0).toNat);have h3:(abv l (of.getD kk.toNat 0).toNat).length<=l.length+1:=h2;omega
  .simp
 refine Yn rfl (FM _ (Yj _ _) o14 n1) ?_;rintro r Z5 ⟨rfl,o15,Zk⟩;have y5:=hK2.ask.r5;have hK5:KR l of k i4 i5 i6 i9 i10 i11 (.agg [v0,v1,.aB,vI (-1)]) U Z5:=
  ⟨⟨Zk _ _ hK4.ask.r4 (.inl (by simp)),Zk _ _ hK4.ask.r5 (.inr (by rw[y5];simp)),Zk _ _ hK4.ask.r9 (.inl (by simp)),Zk _ _ hK4.ask.r10 (.inl (by simp))⟩,Zk _ _ hK4.r6 (.inl (by simp)),Zk _ _ hK4.r11 (.inl (by simp)),
    λi o h=>Zk _ _ (hK4.sub _ _ h) (.inr (by rw[hK2.sub _ _ h];simp)),hK4.no,hK4.ne⟩
 have o05:aq (bj U i11) Z5 3 1 v0 ((chR l of ((k:Int)-1) (λb=>!hAt l of b k)).map vI):=by
  rcases o0' with h|⟨id,g1,g2,g3⟩
  .exact .inl h
  .rcases o04 with⟨e,_⟩|⟨YT,e1,e2,_⟩
   .rw[g1]at e;cases e
   .rw[g1]at e1;injection e1 with e1 _ _
    subst e1;exact .inr ⟨id,g1,Zk _ _ e2 (.inr (by rw[g2];simp)),g3⟩
 have e9:=hK5.ask.r9;have e5:=hK5.ask.r5;have e11:=hK5.r11;rw[oZ]at e9;apply sR;simp only[go_sem,seval,e9,e5];refine Yn rfl (wE l hl hb hn of Yq Xt k 275 [.ptr i10 0 0,.ptr i5 0 0] (λb=>hAt l of b ((k:Int)-1)) (λb XW X' hτ=>Of l hb hn of Yq Xt b XW k (by omega) (by omega) (hK5.ask.mono hτ))) ?_;rintro v2 Z6 ⟨s6,o2,_⟩;have hK6:=hK5.mono s6;have o06:=o05.mono s6;have o16:=o15.mono s6;have o2':aq Z5 Z6 3 1 v2 _:=o2;obtain⟨cv2,sv2⟩:=o2.vc;have f11:=hK6.r11;have f4:=hK6.ask.r4;have f5:=hK6.ask.r5;have f6:=hK6.r6;have push':∀{K:ad} {J:ad} {v:V} {rows x:List V} {i:Nat} {o:Ob},J i=some ⟨259,4,x⟩->aq K J 3 1 v rows->aq K (C' J i o) 3 1 v rows:=λ{K J v rows x i o} hi h=>by
  rcases h with h|⟨id,g1,g2,g3⟩
  .exact .inl h
  .refine .inr ⟨id,g1,?_,g3⟩;rw[ab (λe=>by rw[e,hi]at g2;cases g2)];exact g2
 have hsK1:aa U (bj U i11):=λi o h=>by rw[bj,au (λe=>by rw[e,hK6.no]at h;cases h)];exact h
 have fin:∀(t:Int) (o:Ob),t=(cq l of k).text->ai (.WC [.agg [v0,v1,v2,vI t],vI 0]) (C' (C' Z6 i11 ⟨259,4,[.agg [v0,v1,v2,vI t]]⟩) i6 o) λr Z'=>r=.WC [ik (cq l of k),vI 0]/\Z'=U:=by
  intro t o ht;have g6:=f6;rw[<-ab (U:=Z6) (o:=⟨259,4,[.agg [v0,v1,v2,vI t]]⟩) n611]at g6;have p0:=push' (o:=o) g6 (push' (o:=⟨259,4,[.agg [v0,v1,v2,vI t]]⟩) f11 o06);have p1:=push' (o:=o) g6 (push' (o:=⟨259,4,[.agg [v0,v1,v2,vI t]]⟩) f11 o16);have p2:=push' (o:=o) g6 (push' (o:=⟨259,4,[.agg [v0,v1,v2,vI t]]⟩) f11 o2');have WM:=((hK6.sub.ao (o:=⟨259,4,[.agg [v0,v1,v2,vI t]]⟩) hK6.no)).ao (o:=o) z6;refine⟨_,U,WM,Wk.WC (vs':=[ik (cq l of k),vI 0]) ⟨Wk.agg (vs':=[aN (cq l of k).ends,aN (cq l of k).YL,aN (cq l of k).both,vI (cq l of k).text]) ⟨p0.wk hsK1 WM,p1.wk hK2.sub WM,p2.wk hK5.sub WM,by rw[<-ht];exact Wk.refl WM _,trivial⟩,Wk.refl WM _,trivial⟩,rfl,rfl⟩
 rcases Nat.eq_zero_or_pos k with rfl|h0
 .have q3:((((0:Nat):Int))>0)=False:=H';apply sR;simp only[go_sem,seval,f11,f5,f6,cv2,sv2,ab n511,ab n611];exact fin _ _ (by simp[cq])
 have q3:((k:Int)>0)=True:=L';by_cases h1:k<of.length
 .have q4:=qT h1;have q5:=ae (m:=((k-1:Nat):Int)) (by omega) (by omega);have q6:((k:Int)-1)=((k-1:Nat):Int):=by omega
  have q7:=λU=>de (U:=U) h1;have q8:=λU=>de (U:=U) (l:=of) (i:=k-1) (by omega);have g1:of.getD k 0=of[k]:=by simp[h1]
  have g2:of.getD (k-1) 0=of[k-1]:=by have:k-1<of.length:=by omega
                                      simp[this]
  by_cases h2:of.getD k 0=of.getD (k-1) 0
  .have q9:(of[k]=of[k-1])=True:=L' (by rw[<-g1,<-g2];exact h2);apply sR;simp only[go_sem,seval,f11,f4,f5,f6,cv2,sv2,ab n411,ab n511,ab n611,q3,q4,q5,q6,q7,q8,q9,XI,dq];exact fin _ _ (by simp only[cq];rw[ak ⟨h0,h1,h2⟩,g1])
  .have q9:(of[k]=of[k-1])=False:=H' (by rw[<-g1,<-g2];exact h2);apply sR;simp only[go_sem,seval,f11,f4,f5,f6,cv2,sv2,ab n411,ab n511,ab n611,q3,q4,q5,q6,q7,q8,q9,XI,dq];exact fin _ _ (by simp only[cq];rw[au (λh=>h2 h.2.2)])
 .have q4:=qF h1;apply sR;simp only[go_sem,seval,f11,f4,f5,f6,cv2,sv2,ab n411,ab n511,ab n611,q3,q4,XI,dq];exact fin _ _ (by simp only[cq];rw[au (λh=>h1 h.2.1)])
open Go.Proofs
def Yw(l:List Nd)(b:Int):Ye:=((l[b.toNat]?).map Nd.st).getD Ye.zero
def ic(l:List Nd)(b:Int):List Int:=(if 0<(Yw l b).head then[2]else[])++[(Yw l b).before]
def Cy(l:List Nd)(x:Kn):List Int:=x.ends.map (λb=>(Yw l b).after)++x.YL.flatMap (ic l)
def eG{l:List Nd}{b:Nat}(h:b<l.length):Yw l b=l[b].st:=by simp[Yw,h]
def Dj(l:List Nd)(x:Kn)(hE:x.ends.length<=1000000)(hB:x.YL.length<=1000000)(he:∀b∈x.ends,∃n:Nat,b=n/\n<l.length)(hb:∀b∈x.YL,∃n:Nat,b=n/\n<l.length):
 Iter prog 276 [.rp (ik x),.rp (ay l)] ((Cy l x).map λn=>[vI n]):=by
 refine⟨SD.c,λXk τ Jx Z0 hy hJ=>?_⟩;refine(SD.q ?_).2;obtain⟨E,B,C,tx⟩:=x;simp only at hE hB he hb;have hlE:=cV E;have hlB:=cV B;have ldI:∀(U:ad) (X:List Int),bO U false 1 (.rp (aN X))=some (aN X):=λU X=>rfl;have ldN:∀U:ad,bO U false 1 (.rp (ay l))=some (ay l):=λU=>rfl;generalize hT:(Cy l ⟨E,B,C,tx⟩).map (λn=>[vI n])=T at hy|-;refine mS 9 ?_;simp only[go_sem,seval,Pb,ik,ldI,hlE];refine ag.fP (λst=>∃(ZJ:ad),τ ((E.map λb=>(Yw l b).after).map λn=>[vI n]) ZJ/\aa ZJ st.U/\st.s 0=.yl Xk/\st.s 1=.rp (ik ⟨E,B,C,tx⟩)/\st.s 2=.rp (ay l))
  (λm st=>∃(j:Nat) (ZJ:ad),j<=E.length/\m=E.length-j/\τ (((E.take j).map λb=>(Yw l b).after).map λn=>[vI n]) ZJ/\aa ZJ st.U/\st.s 0=.yl Xk/\st.s 1=.rp (ik ⟨E,B,C,tx⟩)/\st.s 2=.rp (ay l)/\st.s 10=aN E/\st.s 11=vI E.length/\st.s 12=vI j) E.length ?_ ?_ ?_
 .exact⟨0,Z0,by omega,rfl,by simpa using hJ,aa.refl _,rfl,rfl,rfl,rfl,rfl,rfl⟩
 .rintro m ⟨S,J⟩ ⟨j,ZJ,hj,rfl,YM,E',t0,t1,t2,t10,t11,t12⟩;simp only at E' t0 t1 t2 t10 t11 t12;refine ag.mix 9 ?_;by_cases B':j<E.length
  .have q:=qT B';have Wz:=λU=>de (U:=U) B';have W4:E.take (j+1)=E.take j++[E[j]]:=Yz B';obtain⟨b,hbe,XW⟩:=he _ (Xo B');have e0':E=E.take j++E[j]::E.drop (j+1):=by rw[<-iT B',rZ]
   have e:T=(((E.take j).map λb=>(Yw l b).after).map λn=>[vI n])++[vI l[b].st.after]::((((E.drop (j+1)).map λb=>(Yw l b).after)++B.flatMap (ic l)).map λn=>[vI n]):=by
    rw[<-hT,Cy]
    conv=>lhs;rw[e0']
    simp[hbe,eG XW]
   rw[hbe]at Wz W4;have XO:=λU=>bI (U:=U) (l:=l) (a:=b) XW;have r1:=rI j;apply sR;simp only[go_sem,seval,t0,t2,t10,t11,t12,q,Wz,ldN,XO,Nd.cells];refine ag.ny (Post:=λb' Z2=>∃Xj,bb ZJ J Xj Z2/\((b'=true/\τ ((((E.take j).map λb=>(Yw l b).after).map λn=>[vI n])++[[vI l[b].st.after]]) Xj)\/(b'=false/\Jx ((((E.take j).map λb=>(Yw l b).after).map λn=>[vI n])++[[vI l[b].st.after]]) Xj))) rfl rfl rfl (hy _ [vI l[b].st.after] _ ZJ J e YM E') ?_;rintro b' Z2 ⟨Xj,Ys,XT⟩;rcases XT with⟨rfl,XT⟩|⟨rfl,XT⟩
   .apply sR;simp only[go_sem,seval,t0,t1,t2,t10,t11,t12,r1];refine⟨_,?_,j+1,Xj,by omega,rfl,by rw[W4];simpa[eG XW]using XT,Ys.1,by simp⟩;omega
   .apply sR;simp only[go_sem,seval];exact⟨_,Xj,Ys.1,Wk.refl Ys.1 _,.inr ⟨_,⟨_,by rw[e,lh];rfl⟩,XT⟩⟩
  .have q:=qF B';rw[lf (by omega)]at YM;apply sR;simp only[go_sem,seval,t0,t1,t2,t11,t12,q];exact⟨ZJ,YM,E'⟩
 .rintro⟨S,J⟩ ⟨ZJ,YM,E',t0,t1,t2⟩;simp only at E' t0 t1 t2;generalize hP:((E.map λb=>(Yw l b).after).map λn=>[vI n])=P1 at*;refine mS 9 ?_;simp only[go_sem,seval,t1,ik,ldI,hlB];refine ag.loop (λm st=>∃(j:Nat) (ZJ:ad),j<=B.length/\m=B.length-j/\τ (P1++((B.take j).flatMap (ic l)).map λn=>[vI n]) ZJ/\aa ZJ st.U/\st.s 0=.yl Xk/\st.s 2=.rp (ay l)/\st.s 27=aN B/\st.s 28=vI B.length/\st.s 29=vI j) B.length ?_ ?_
  .exact⟨0,ZJ,by omega,rfl,by simpa using YM,E',t0,t2,rfl,rfl,rfl⟩
  .clear YM E' t0 t1 t2;rintro m ⟨S,J⟩ ⟨j,ZJ,hj,rfl,YM,E',t0,t2,t27,t28,t29⟩;simp only at E' t0 t2 t27 t28 t29;refine ag.mix 9 ?_;by_cases B':j<B.length
   .have q:=qT B';have Wz:=λU=>de (U:=U) B';have W4:B.take (j+1)=B.take j++[B[j]]:=Yz B';obtain⟨b,hbe,XW⟩:=hb _ (Xo B');have e0':B=B.take j++B[j]::B.drop (j+1):=by rw[<-iT B',rZ]
    have e:T=(P1++((B.take j).flatMap (ic l)).map λn=>[vI n])++((ic l b).map λn=>[vI n])++(((B.drop (j+1)).flatMap (ic l)).map λn=>[vI n]):=by
     rw[<-hT,Cy,cX,hP]
     conv=>lhs;rw[e0']
     simp[hbe]
    rw[hbe]at Wz W4;have XO:=λU=>bI (U:=U) (l:=l) (a:=b) XW;have r1:=rI j;have hs:=aa.refl J;have htk2:(P1++((B.take (j+1)).flatMap (ic l)).map λn=>[vI n])=(P1++((B.take j).flatMap (ic l)).map λn=>[vI n])++((ic l b).map λn=>[vI n]):=by rw[W4];simp
    generalize (P1++((B.take j).flatMap (ic l)).map λn=>[vI n])=P2 at*;have hbg:ic l b=(if 0<l[b].st.head then[2]else[])++[l[b].st.before]:=by rw[ic,eG XW]
    apply sR;simp only[go_sem,seval,t2,t27,t28,t29,q,Wz,ldN,XO,Nd.cells];refine al hs λi8 Z8 s8 a8 f8 z8 hs=>?_;simp only[go_sem,seval,a8,t0];generalize Yc:C' _ i8 _=Y8;replace a8:=XD Yc;replace hs:=Xz Yc hs z8;generalize ((B.drop (j+1)).flatMap (ic l)).map (λn=>[vI n])=R2 at*;refine⟨λh0=>?_,λh0=>?_⟩
    .have e1:T=P2++[vI 2]::([vI l[b].st.before]::R2):=by rw[e,hbg,ak h0];simp
     have e2:T=(P2++[[vI 2]])++[vI l[b].st.before]::R2:=by rw[e1];simp
     have e3:(P2++[[vI 2]])++[[vI l[b].st.before]]=P2++(ic l b).map λn=>[vI n]:=by rw[hbg,ak h0];simp
     have hsub8:aa ZJ Y8:=E'.trans hs;refine ag.ny (Post:=λb' Z2=>∃Xj,bb ZJ Y8 Xj Z2/\((b'=true/\τ (P2++[[vI 2]]) Xj)\/(b'=false/\Jx (P2++[[vI 2]]) Xj))) rfl rfl rfl (hy _ [vI 2] _ ZJ Y8 e1 YM hsub8) ?_;rintro b' Z2 ⟨Xj,Ys,XT⟩;rcases XT with⟨rfl,XT⟩|⟨rfl,XT⟩
     .have a8':=(Ys.2 i8 _ (E'.none z8) a8).1;apply sR;simp only[go_sem,seval,t0,a8'];refine ag.ny (Post:=λb' Z3=>∃ZJ3,bb Xj Z2 ZJ3 Z3/\((b'=true/\τ ((P2++[[vI 2]])++[[vI l[b].st.before]]) ZJ3)\/(b'=false/\Jx ((P2++[[vI 2]])++[[vI l[b].st.before]]) ZJ3))) rfl rfl rfl (hy _ [vI l[b].st.before] _ Xj Z2 e2 XT Ys.1) ?_;rintro b3 Z3 ⟨ZJ3,hbs3,hbb3⟩;rcases hbb3 with⟨rfl,hbb3⟩|⟨rfl,hbb3⟩
      .apply sR;simp only[go_sem,seval,t0,t2,t27,t28,t29,r1];refine⟨_,?_,j+1,ZJ3,by omega,rfl,by rw[htk2,<-e3];exact hbb3,hbs3.1,by simp⟩;omega
      .apply sR;simp only[go_sem,seval];exact⟨_,ZJ3,hbs3.1,Wk.refl hbs3.1 _,.inr ⟨_,⟨_,by rw[e2,lh];rfl⟩,hbb3⟩⟩
     .apply sR;simp only[go_sem,seval];exact⟨_,Xj,Ys.1,Wk.refl Ys.1 _,.inr ⟨_,⟨_,by rw[e1,lh];rfl⟩,XT⟩⟩
    .have e2:T=P2++[vI l[b].st.before]::R2:=by rw[e,hbg,au (by omega)];simp
     have e3:P2++[[vI l[b].st.before]]=P2++(ic l b).map λn=>[vI n]:=by rw[hbg,au (by omega)];simp
     have hsub8:aa ZJ Y8:=E'.trans hs;apply sR;simp only[go_sem,seval];refine ag.ny (Post:=λb' Z3=>∃ZJ3,bb ZJ Y8 ZJ3 Z3/\((b'=true/\τ (P2++[[vI l[b].st.before]]) ZJ3)\/(b'=false/\Jx (P2++[[vI l[b].st.before]]) ZJ3))) rfl rfl rfl (hy _ [vI l[b].st.before] _ ZJ Y8 e2 YM hsub8) ?_;rintro b3 Z3 ⟨ZJ3,hbs3,hbb3⟩;rcases hbb3 with⟨rfl,hbb3⟩|⟨rfl,hbb3⟩
     .apply sR;simp only[go_sem,seval,t0,t2,t27,t28,t29,r1];refine⟨_,?_,j+1,ZJ3,by omega,rfl,by rw[htk2,<-e3];exact hbb3,hbs3.1,by simp⟩;omega
     .apply sR;simp only[go_sem,seval];exact⟨_,ZJ3,hbs3.1,Wk.refl hbs3.1 _,.inr ⟨_,⟨_,by rw[e2,lh];rfl⟩,hbb3⟩⟩
   .have q:=qF B';rw[lf (by omega),<-hP,<-cX]at YM;apply sR;simp only[go_sem,seval,t28,t29,q];exact⟨_,ZJ,E',Wk.refl E' _,.inl (hT▸YM)⟩
open Go.Proofs
def oL{l:List Nd}{of:List Int}(Xt:∀x∈of,0<=x/\x<l.length){k:Int}{p:Int->Bool}:∀b∈chR l of k p,∃n:Nat,b=n/\n<l.length:=λb hb=>by
 unfold chR at hb;split at hb
 .rename_i h;have B':k.toNat<of.length:=by omega
  have hgd:of.getD k.toNat 0=of[k.toNat]:=by simp[B']
  rw[hgd]at hb;obtain⟨h0,h1⟩:=Xt _ (Xo B');obtain⟨n,rfl,hn⟩:=qO (l:=l) (a:=of[k.toNat].toNat) (by omega) b (sD.1 hb).1;exact⟨n,rfl,by omega⟩
 .cases hb
def lu{l:List Nd}(hn:l.length<=100000){of:List Int}{k:Int}{p:Int->Bool}:(chR l of k p).length<=100001:=by
 unfold chR;split
 .have h1:=List.length_filter_le p (abv l (of.getD k.toNat 0).toNat);have h2:=jW l (l.length+1) (db l (of.getD k.toNat 0).toNat);have h3:(abv l (of.getD k.toNat 0).toNat).length<=l.length+1:=h2;omega
 .simp
def Cm(l:List Nd)(b:Int):(ic l b).length<=2:=by unfold ic;split<;>simp
def xg{α β:Type}(f:α->List β)(hf:∀a,(f a).length<=2):∀L:List α,(L.flatMap f).length<=2*L.length
 |[]=>by simp
 |a::L=>by
  rw[zj,gn,YI];have:=xg f hf L;have:=hf a;omega
def gX(l:List Nd)(of:List Int)(k:Nat):List Int:=if k=of.length then[]else Cy l (cq l of k)
def BV{l:List Nd}(hn:l.length<=100000)(of:List Int)(k:Nat):(Cy l (cq l of k)).length<=1000000:=by
 unfold Cy;rw[gn,cJ];have h1:=xg (ic l) (Cm l) (cq l of k).YL;have h2:(cq l of k).ends.length<=100001:=lu hn;have h3:(cq l of k).YL.length<=100001:=by
  rw[cq,List.length_reverse];exact lu hn
 omega
def HT(l:List Nd)(x:Kn):aE prog 239 [ay l,ik x] (.fn 276 [.rp (ik x),.rp (ay l)]):=λU=>by
 refine VF.q ?_;refine ag.mix 4 ?_;have q1:=cp l;have q2:=eh l;generalize ay l=y at*;obtain⟨E,B,C,tx⟩:=x;simp only[ik];apply sR;simp only[go_sem,seval,Tc,q1,q2];refine aj λid1 Z1 s1 a1 f1=>?_;simp only[go_sem,seval];refine aj λid2 Z2 s2 a2 f2=>?_;simp only[go_sem,seval];exact⟨_,U,s1.trans s2,Wk.fn (vs':=[.rp (.agg [aN E,aN B,aN C,vI tx]),.rp y]) ⟨Wk.ptr (s1.trans s2) a2 (s1.none f2),Wk.ptr (s1.trans s2) (s2 _ _ a1) f1,trivial⟩,rfl,rfl⟩
def Ep(l:List Nd)(hl:dz l)(hb:Xh l=true)(of:List Int)(Yq:of.length<=1000000)(Xt:∀x∈of,0<=x/\x<l.length)(hm:rC l of=true)(k:Nat)(hk:k<=of.length):
 aE prog 186 [ay l,aN of,vI k] (.WC [aN (gX l of k),vI 0]):=λU=>by
 refine VJ.q ?_;have hs:=aa.refl U;have XI:=cV of;have hn:l.length<=100000:=by have:=hl.1;omega
 refine mS 10 ?_;simp only[go_sem,seval,Sj];refine pS rfl (EG l hl hb of Yq Xt hm k hk _) ?_;simp only[go_sem,seval,ik];refine al hs λi8 Z8 s8 a8 f8 z8 hs=>?_;have q0:((0:Int)≠0)=False:=H' (λh=>h rfl);by_cases hkk:k=of.length
 .have q1:((k:Int)=of.length)=True:=L';simp only[go_sem,seval,a8,XI,q0,q1];rw[gX,ak hkk];have WM:=hs.ao (o:=⟨259,4,[ik (cq l of k)]⟩) z8;exact⟨_,U,WM,Wk.WC (vs':=[aN [],vI 0]) ⟨(aq.start (e:=3)).wk (aa.refl _) WM,Wk.refl WM _,trivial⟩,rfl,rfl⟩
 .have q1:((k:Int)=of.length)=False:=H';simp only[go_sem,seval,a8,XI,q0,q1];refine pS rfl (HT l (cq l of k) _) ?_;simp only[go_sem,seval];have ZN:=BV hn of k;have hit:=Dj l (cq l of k) (jP (lu hn) (by omega)) (by rw[cq,List.length_reverse];exact jP (lu hn) (by omega)) (oL Xt) (λb hb=>oL Xt b (Lw.1 hb));refine pS rfl (xS hit ZN _) ?_;simp only[go_sem,seval];rw[gX,au hkk];have WM:=hs.ao (o:=⟨259,4,[ik (cq l of k)]⟩) z8;exact⟨_,U,WM,Wk.refl WM _,rfl,rfl⟩
open Go.Proofs
def mH(out n:Int)(over:Bool):Int:=if over=true\/out=0 then n else out
def j5(out n:Int):Int:=if n=3\/n=4 then mH out n true else if n=2 then mH out n false else out
def cS(all:List Int):Int:=all.foldl j5 0
def zJ(n:Int)(over:Bool)(out:Int){U:ad}{i3:Nat}(h:U i3=some ⟨3,1,[vI out]⟩):
 av prog 240 [vI n,.bool over,.ptr i3 0 0] U λ_ Z'=>Z' i3=some ⟨3,1,[vI (mH out n over)]⟩/\∀i,i≠i3->Z' i=U i:=by
 refine Ti.q ?_;refine ag.mix 5 ?_;have fin:∀J:ad,J i3=some ⟨3,1,[vI (mH out n over)]⟩->(∀i,i≠i3->J i=U i)->ai (.WC []) J λ_ Z'=>Z' i3=some ⟨3,1,[vI (mH out n over)]⟩/\∀i,i≠i3->Z' i=U i:=λJ h1 h2=>
  ⟨_,J,aa.refl _,Wk.refl (aa.refl _) _,h1,h2⟩
 by_cases h0:over=true\/out=0
 .have ht:mH out n over=n:=ak h0;rw[ht]at fin|-;cases over
  .have q:(out=0)=True:=L' (by simpa using h0);apply sR;simp only[go_sem,seval,Ly,h,q];exact fin _ af λi hi=>ab hi
  .apply sR;simp only[go_sem,seval,Ly,h];exact fin _ af λi hi=>ab hi
 .have ht:mH out n over=out:=au h0;rw[ht]at fin|-;simp only[not_or,Bool.not_eq_true]at h0;obtain⟨rfl,h0⟩:=h0;have q:(out=0)=False:=H' h0;apply sR;simp only[go_sem,seval,Ly,h,q];exact fin _ h λi hi=>rfl
def IB(all:List Int)(ZN:all.length<=1000000):aE prog 187 [aN all] (vI (cS all)):=λU=>by
 refine Tx.q ?_;have hs:=aa.refl U;have Yo:=cV all;refine mS 8 ?_;simp only[go_sem,seval,R8];refine al hs λi3 Z3 s3 a3 f3 z3 hs=>?_;simp only[go_sem,seval,a3,Yo];generalize hq3:C' _ i3 _=X3;replace a3:=XD hq3;replace hs:=Xz hq3 hs z3;refine ag.fP (λst=>st.U i3=some ⟨3,1,[vI (cS all)]⟩/\aa U st.U/\st.s 3=.ptr i3 0 0)
  (λm st=>∃j:Nat,j<=all.length/\m=all.length-j/\st.U i3=some ⟨3,1,[vI (cS (all.take j))]⟩/\aa U st.U/\st.s 3=.ptr i3 0 0/\st.s 4=.fn 240 [.ptr i3 0 0]/\st.s 9=aN all/\st.s 10=vI all.length/\st.s 11=vI j) all.length ?_ ?_ ?_
 .exact⟨0,by omega,rfl,a3,hs,rfl,rfl,rfl,rfl,rfl⟩
 .clear a3 hs;rintro m ⟨S,J⟩ ⟨j,hj,rfl,b3,hs,t3,t4,t9,t10,t11⟩;simp only at b3 hs t3 t4 t9 t10 t11;refine ag.mix 8 ?_;by_cases B':j<all.length
  .have q:=qT B';have Wz:=λU=>de (U:=U) B';have W4:cS (all.take (j+1))=j5 (cS (all.take j)) all[j]:=by
    rw[cS,Yz B',kN];rfl
   have r1:=rI j;generalize all[j]=n at*;have sub2:∀{ρ:ad} {o:Ob},ρ i3=some o->(∀i,i≠i3->ρ i=J i)->aa U ρ:=λ{ρ o} h1 h2 i x hx=>by
    rw[h2 i (λe=>by rw[e,z3]at hx;cases hx)];exact hs _ _ hx
   by_cases h3:n=3
   .have q3:(n=3)=True:=L' h3;have WM:mH (cS (all.take j)) n true=j5 (cS (all.take j)) n:=by rw[j5,ak (.inl h3)]
    apply sR;simp only[go_sem,seval,t4,t9,t10,t11,q,q3,Wz];refine Yn rfl (zJ n true (cS (all.take j)) b3) ?_;rintro-ρ ⟨g1,g2⟩;apply sR;simp only[go_sem,seval,t3,t4,t9,t10,t11,r1];refine⟨_,?_,j+1,by omega,rfl,by rw[W4];exact WM▸g1,sub2 g1 g2,by simp⟩;omega
   .have q3:(n=3)=False:=H' h3;by_cases h4:n=4
    .have q4:(n=4)=True:=L' h4;have WM:mH (cS (all.take j)) n true=j5 (cS (all.take j)) n:=by rw[j5,ak (.inr h4)]
     apply sR;simp only[go_sem,seval,t4,t9,t10,t11,q,q3,q4,Wz];refine Yn rfl (zJ n true (cS (all.take j)) b3) ?_;rintro-ρ ⟨g1,g2⟩;apply sR;simp only[go_sem,seval,t3,t4,t9,t10,t11,r1];refine⟨_,?_,j+1,by omega,rfl,by rw[W4];exact WM▸g1,sub2 g1 g2,by simp⟩;omega
    .have q4:(n=4)=False:=H' h4;by_cases h2:n=2
     .have q2:(n=2)=True:=L' h2;have WM:mH (cS (all.take j)) n false=j5 (cS (all.take j)) n:=by rw[j5,au (by simp[h3,h4]),ak h2]
      apply sR;simp only[go_sem,seval,t4,t9,t10,t11,q,q3,q4,q2,Wz];refine Yn rfl (zJ n false (cS (all.take j)) b3) ?_;rintro-ρ ⟨g1,g2⟩;apply sR;simp only[go_sem,seval,t3,t4,t9,t10,t11,r1];refine⟨_,?_,j+1,by omega,rfl,by rw[W4];exact WM▸g1,sub2 g1 g2,by simp⟩;omega
     .have q2:(n=2)=False:=H' h2;have WM:cS (all.take j)=j5 (cS (all.take j)) n:=by rw[j5,au (by simp[h3,h4]),au h2]
      apply sR;simp only[go_sem,seval,t3,t4,t9,t10,t11,q,q3,q4,q2,r1,Wz];refine⟨_,?_,j+1,by omega,rfl,by rw[W4,<-WM];exact b3,hs,by simp⟩;omega
  .have q:=qF B';rw[lf (by omega)]at b3;apply sR;simp only[go_sem,seval,t3,t10,t11,q];exact⟨b3,hs⟩
 .rintro⟨S,J⟩ ⟨b3,hs,t3⟩;simp only at b3 hs t3;refine mS 8 ?_;simp only[go_sem,seval,t3,b3];exact⟨_,U,hs,Wk.refl hs _,rfl,rfl⟩
open Go.Proofs
def iO(l:List Nd)(of:List Int)(k:Nat):Int:=cS (gX l of k)
def mv{l:List Nd}(hn:l.length<=100000)(of:List Int)(k:Nat):(gX l of k).length<=1000000:=by
 unfold gX;split
 .simp
 .exact BV hn of k
def O8(l:List Nd)(hl:dz l)(hb:Xh l=true)(of:List Int)(Yq:of.length<=1000000)(Xt:∀x∈of,0<=x/\x<l.length)(hm:rC l of=true)(k:Nat)(hk:k<=of.length):
 aE prog 137 [ay l,aN of,vI k] (.WC [vI (iO l of k),vI 0]):=λU=>by
 refine Wm.q ?_;have hs:=aa.refl U;have hn:l.length<=100000:=by have:=hl.1;omega
 refine mS 11 ?_;simp only[go_sem,seval,Rj];refine pS rfl (Ep l hl hb of Yq Xt hm k hk _) ?_;simp only[go_sem,seval];refine pS rfl (IB _ (mv hn of k) _) ?_;simp only[go_sem,seval];exact ai.pure hs rfl
def th(l:List Nd)(of:List Int):List Int:=(List.range (of.length+1)).map (iO l of)
def NM(l:List Nd)(hl:dz l)(hb:Xh l=true)(of:List Int)(Yq:of.length<=1000000)(Xt:∀x∈of,0<=x/\x<l.length)(hm:rC l of=true):
 aE prog 87 [ay l,aN of] (.WC [aN (th l of),vI 0]):=λU=>by
 refine e87.q ?_;have hs:=aa.refl U;have XI:=cV of;refine mS 11 ?_;simp only[go_sem,seval,c87];refine pR rfl (qx l hl hb of Yq hm _) ?_;have q0:((0:Int)≠0)=False:=H' (λh=>h rfl);have r0:WI .i64 ((of.length:Int)+1):=ae;apply sR;simp only[go_sem,seval,q0,XI,r0];refine ag.fP (λst=>aa U st.U/\aq U st.U 3 1 (st.s 7) ((th l of).map vI))
  (λm st=>∃j:Nat,j<=of.length+1/\m=of.length+1-j/\aa U st.U/\aq U st.U 3 1 (st.s 7) (((List.range j).map (iO l of)).map vI)/\st.s 0=ay l/\st.s 1=aN of/\st.s 19=vI ((of.length:Int)+1)/\st.s 20=vI j) (of.length+1) ?_ ?_ ?_
 .exact⟨0,by omega,rfl,hs,aq.start,rfl,rfl,rfl,rfl⟩
 .clear hs;rintro m ⟨S,J⟩ ⟨j,hj,rfl,hs,ho,t0,t1,t19,t20⟩;simp only at hs ho t0 t1 t19 t20;generalize ZD:S 7=v7 at ho;refine ag.mix 11 ?_;by_cases B':j<of.length+1
  .have q:((j:Int)<of.length+1)=True:=L';have r1:=rI j;have W8:(((List.range (j+1)).map (iO l of)).map vI)=(((List.range j).map (iO l of)).map vI)++[vI (iO l of j)]:=by
    rw[List.range_succ];simp
   have Yd:(((List.range j).map (iO l of)).map vI).length=j:=by simp
   apply sR;simp only[go_sem,seval,t0,t1,t19,t20,q];refine pR rfl (O8 l hl hb of Yq Xt hm j (by omega) _) ?_;generalize ((List.range j).map (iO l of)).map vI=rows at*;apply sR;simp only[go_sem,seval,ZD];refine aj λi32 Z32 s32 a32 f32=>?_;obtain⟨idA,Xg,WK,XG,hd2⟩:=ho.mE s32;have W1:(rows.length+1)*9<=140737488355328:=by omega
   simp only[go_sem,seval,Xg,bl a32,W1];refine aX λi33 Z33 s33 a33 f33=>?_;have k33:=(WK U (aa.refl _) Z32 (hs.trans s32)).trans s33;have n33:U i33=none:=(hs.trans s32).none f33;simp only[go_sem,seval,t0,t1,t19,t20,r1];refine⟨_,?_,j+1,by omega,rfl,k33,?_,by simp⟩
   .omega
   .rw[W8];exact aq.new (by simp) a33 n33
  .have q:((j:Int)<of.length+1)=False:=H';have YK:j=of.length+1:=by omega
   subst YK;apply sR;simp only[go_sem,seval,t19,t20,q];exact⟨hs,ZD▸ho⟩
 .rintro⟨S,J⟩ ⟨hs,ho⟩;simp only at hs ho;generalize ZD:S 7=v7 at ho;refine mS 11 ?_;simp only[go_sem,seval,ZD];exact⟨_,U,hs,Wk.WC (vs':=[aN (th l of),vI 0]) ⟨ho.wk (aa.refl _) hs,Wk.refl hs _,trivial⟩,rfl,rfl⟩
open Go.Proofs
def jM(l:List Nd)(of:List Int)(k:Int)(x:Kn):V:=.agg [aN x.ends,aN x.YL,aN x.both,vI x.text,ay l,aN of,vI k]
def OJ(l:List Nd)(hl:dz l)(hb:Xh l=true)(of:List Int)(Yq:of.length<=1000000)(Xt:∀x∈of,0<=x/\x<l.length)(hm:rC l of=true)(k:Nat)(hk:k<=of.length):
 aE prog 188 [ay l,aN of,vI k] (.WC [jM l of k (cq l of k),vI 0]):=λU=>by
 refine V0.q ?_;have hs:=aa.refl U;refine mS 10 ?_;simp only[go_sem,seval,OV];refine al hs λi6 Z6 s6 a6 f6 z6 hs=>?_;simp only[go_sem,seval];refine pS rfl (EG l hl hb of Yq Xt hm k hk _) ?_;simp only[go_sem,seval,ik];refine al hs λi8 Z8 s8 a8 f8 z8 hs=>?_;obtain⟨n68,a6⟩:=WG a6 f8 s8;simp only[go_sem,seval,a8,a6,ab n68,cp,dq,iM,eh];exact ai.pure ((hs.ao z8).ao z6) rfl
def Ik:aE prog 241 [] (.agg [vI 0,vI 0,vI 0,vI 0,vI 0,vI 2,vI 2,vI 0,vI 0,vI 0,vI 0,vI 0]):=λU=>by
 refine Uy.q ?_;apply sR;simp only[go_sem,seval,Qc];refine aj λid0 Z0 s0 a0 f0=>?_;simp only[go_sem,seval,a0];exact .pure (s0.ao f0) rfl
def ub(a:Int):List Int->Nat->Int
 |[],_=>-1
 |q::r,i=>if q=a then i else ub a r (i+1)
def Fv{a:Int}{p:List Int}{i:Nat}(h:i<p.length):ub a (p.drop i) i=if p[i]=a then(i:Int)else ub a (p.drop (i+1)) (i+1):=by
 rw[iT h,ub]
def BP(a:Int):∀(p:List Int) (i:Nat),ub a p i>=0↔a∈p
 |[],_=>by simp[ub]
 |q::r,i=>by
  rw[ub];split
  .rename_i h;subst h;simp
  .rename_i h;rw[BP a r (i+1),dJ];constructor
   .exact .inr
   .rintro(rfl|h2)
    .exact absurd rfl h
    .exact h2
def JW(p:List Int)(hp:p.length<=1000000000)(a:Int):aE prog 277 [aN p,vI a] (vI (ub a p 0)):=λU=>by
 refine Um.q ?_;have hlp:=cV p;refine mS 9 ?_;simp only[go_sem,seval,SR,hlp];refine ag.loop (λm st=>∃(i:Nat),i<=p.length/\m=p.length-i/\ub a p 0=ub a (p.drop i) i/\st.U=U/\st.s 0=aN p/\st.s 1=vI a/\st.s 7=vI p.length/\st.s 8=vI i) p.length ?_ ?_
 .exact⟨0,by omega,rfl,rfl,rfl,rfl,rfl,rfl,rfl⟩
 .rintro m ⟨s,Z'⟩ ⟨i,hi,rfl,heq,WY,h0,h1,h7,h8⟩;simp only at WY h0 h1 h7 h8;subst WY;refine ag.mix 9 ?_;by_cases B':i<p.length
  .have q:=qT B';have hd:=Fv (a:=a) B';have Wz:=λU=>de (U:=U) B';have r1:=rI i;by_cases hc:p[i]=a
   .have q1:(a=p[i])=True:=L' hc.symm;apply sR;simp only[go_sem,seval,h0,h1,h7,h8,q,Wz,q1];refine ai.same ?_;rw[heq,hd,ak hc]
   .have q1:(a=p[i])=False:=H' (λh=>hc h.symm);apply sR;simp only[go_sem,seval,h0,h1,h7,h8,q,Wz,q1,r1];refine⟨_,?_,i+1,by omega,rfl,?_,by simp⟩
    .omega
    .rw[heq,hd,au hc]
  .have q:=qF B';have YP:i=p.length:=by omega
   apply sR;simp only[go_sem,seval,h7,h8,q];refine ai.same ?_;rw[heq,YP,xD];rfl
def Ch(p:List Int)(hp:p.length<=1000000000)(a:Int):aE prog 245 [aN p,vI a] (.bool (decide (a∈p))):=λU=>by
 refine Un.q ?_;apply sR;simp only[go_sem,seval,QI];refine pR rfl (JW p hp a _) ?_;have h:=BP a p 0;by_cases ha:a∈p
 .have q:(ub a p 0>=0)=True:=L' (h.2 ha);apply sR;simp only[go_sem,seval,q];exact ai.same (by simp[ha])
 .have q:(ub a p 0>=0)=False:=H' (λhh=>ha (h.1 hh));apply sR;simp only[go_sem,seval,q];exact ai.same (by simp[ha])
open Go.Proofs
def fI(of:List Int)(t:Int)(k:Nat):Nat->Nat×Nat
 |0=>(0,0)
 |j+1=>if of.getD j 0=t then if j<k then((fI of t k j).1+1,(fI of t k j).2)else((fI of t k j).1,(fI of t k j).2+1)else fI of t k j
def jw(of:List Int)(t:Int)(k:Nat):Nat×Nat:=if t<0 then(0,0)else fI of t k of.length
def uB(of:List Int)(t:Int)(k:Nat):∀j,(fI of t k j).1<=j/\(fI of t k j).2<=j
 |0=>by simp[fI]
 |j+1=>by
  have:=uB of t k j;rw[fI];split
  .split<;>simp only<;>omega
  .omega
def HJ(l:List Nd)(of:List Int)(Yq:of.length<=1000000)(k:Nat)(x:Kn):
 aE prog 243 [jM l of k x] (.WC [vI (jw of x.text k).1,vI (jw of x.text k).2]):=λU=>by
 refine Vj.q ?_;have hs:=aa.refl U;have XI:=cV of;obtain⟨E,B,C,t⟩:=x;simp only;refine mS 6 ?_;simp only[go_sem,seval,Su,jM];refine al hs λi1 Z1 s1 a1 f1 _ hs=>?_;unfold jw;by_cases ht:t<0
 .have q:(t<0)=True:=L' ht;simp only[go_sem,seval,a1,q];exact ai.pure hs (by simp)
 have q:(t<0)=False:=H' ht;rw[au ht];simp only[go_sem,seval,a1,q,XI];refine ag.loop (λm st=>∃j:Nat,j<=of.length/\m=of.length-j/\st.U=Z1/\st.s 1=.ptr i1 0 0/\st.s 2=vI (fI of t k j).1/\st.s 3=vI (fI of t k j).2/\st.s 11=aN of/\st.s 12=vI of.length/\st.s 13=vI j) of.length ?_ ?_
 .exact⟨0,by omega,rfl,rfl,rfl,rfl,rfl,rfl,rfl,rfl⟩
 .rintro m ⟨S,J⟩ ⟨j,hj,rfl,WY,t1,t2,t3,t11,t12,t13⟩;simp only at WY t1 t2 t3 t11 t12 t13;subst WY;refine ag.mix 6 ?_;by_cases B':j<of.length
  .have q0:=qT B';have r1:=rI j;have Wz:=λU=>de (U:=U) B';have hgd:of.getD j 0=of[j]:=by simp[B']
   have hle:=uB of t k j;have WM:fI of t k (j+1)=if of[j]=t then if j<k then((fI of t k j).1+1,(fI of t k j).2)else((fI of t k j).1,(fI of t k j).2+1)else fI of t k j:=by rw[fI,hgd]
   have r2:WI .i64 (((fI of t k j).1:Int)+1):=ae;have r3:WI .i64 (((fI of t k j).2:Int)+1):=ae;by_cases hn:of[j]=t
   .have q1:(of[j]≠t)=False:=H' (λh=>h hn);rw[ak hn]at WM;by_cases hk:j<k
    .have q2:((j:Int)<k)=True:=L';rw[ak hk]at WM;apply sR;simp only[go_sem,seval,t1,t2,t3,t11,t12,t13,a1,q0,q1,q2,r1,r2,Wz];refine⟨_,?_,j+1,by omega,rfl,by rw[WM];simp⟩;omega
    .have q2:((j:Int)<k)=False:=H';rw[au hk]at WM;apply sR;simp only[go_sem,seval,t1,t2,t3,t11,t12,t13,a1,q0,q1,q2,r1,r3,Wz];refine⟨_,?_,j+1,by omega,rfl,by rw[WM];simp⟩;omega
   .have q1:(of[j]≠t)=True:=L' hn;rw[au hn]at WM;apply sR;simp only[go_sem,seval,t1,t2,t3,t11,t12,t13,a1,q0,q1,r1,Wz];refine⟨_,?_,j+1,by omega,rfl,by rw[WM];simp⟩;omega
  .have q0:=qF B';have YK:j=of.length:=by omega
   apply sR;simp only[go_sem,seval,t2,t3,t12,t13,q0];exact ai.pure hs (by rw[YK])
open Go.Proofs
def pz:Ye:=⟨0,0,0,0,0,2,2,0,0,0,0,0⟩
def jA(l:List Nd)(t:Int):Ye:=if 0<=db l t.toNat then Yw l (db l t.toNat)else pz
def Fm(l:List Nd)(of:List Int)(t:Int)(k:Nat):Bool:=if t<0 then false else decide (((jw of t k).1:Int)<(jA l t).WE\/((jw of t k).2:Int)<(jA l t).WW)
def M5(l:List Nd)(hl:dz l)(hb:Xh l=true)(of:List Int)(Yq:of.length<=1000000)(k:Nat)(x:Kn)(hx:x.text<l.length):
 aE prog 189 [jM l of k x] (.bool (Fm l of x.text k)):=λU=>by
 refine VE.q ?_;have hs:=aa.refl U;have hlc:=λx=>HJ l of Yq k x;obtain⟨E,B,C,t⟩:=x;simp only at hx|-;refine mS 7 ?_;simp only[go_sem,seval,QZ,jM];refine al hs λi1 Z1 s1 a1 f1 _ hs=>?_;unfold Fm;by_cases ht:t<0
 .have q:(t<0)=True:=L' ht;simp only[go_sem,seval,a1,q];exact ai.pure hs (by simp)
 have q:(t<0)=False:=H' ht;rw[au ht];obtain⟨a,rfl⟩:∃a:Nat,t=a:=⟨t.toNat,by omega⟩
 simp only[go_sem,seval,a1,q];refine pS rfl (Ik _) ?_;simp only[go_sem,seval];refine al hs λi3 Z3 s3 a3 f3 z3 hs=>?_;obtain⟨n13,a1⟩:=WG a1 f3 s3;simp only[go_sem,seval,a3,a1,ab n13];generalize hq3:C' _ i3 _=X3;replace a3:=XD hq3;replace a1:=WQ hq3 n13 a1;replace hs:=Xz hq3 hs z3;refine pR rfl (DC l hl hb a (by omega) _) ?_;have hpr:=dU l a;have hsd:jA l (a:Int)=if 0<=db l a then Yw l (db l a)else pz:=by simp[jA]
 rw[hsd];by_cases hp:0<=db l a
 .have q0:(db l a>=0)=True:=L' hp;obtain⟨b,hbe⟩:∃b:Nat,db l a=b:=⟨(db l a).toNat,by omega⟩
  rw[ak hp];rw[hbe]at q0 hpr|-;have XW:b<l.length:=by omega
  have XO:=λU=>bI (U:=U) (l:=l) (a:=b) XW;rw[eG XW];apply sR;simp only[go_sem,seval,a1,a3,q0,XO,Nd.cells,ab n13];generalize hq4:C' X3 i3 _=Y4;have b3:Y4 i3=some ⟨45,12,[kB l[b].st]⟩:=by rw[<-hq4];exact af
  replace hs:aa U Y4:=by rw[<-hq4];exact hs.ao z3
  clear hq4;generalize l[b].st=st at*;rw[kB]at b3;refine pR rfl (hlc ⟨E,B,C,a⟩ _) ?_;generalize jw of (a:Int) k=L at*;obtain⟨L1,L2⟩:=L;simp only;by_cases h1:(L1:Int)<st.WE
  .have q1:((L1:Int)<st.WE)=True:=L' h1;apply sR;simp only[go_sem,seval,b3,q1];exact ai.pure hs (by simp)
  .have q1:((L1:Int)<st.WE)=False:=H' h1;by_cases h2:(L2:Int)<st.WW
   .have q2:((L2:Int)<st.WW)=True:=L' h2;apply sR;simp only[go_sem,seval,b3,q1,q2];exact ai.pure hs (by simp)
   .have q2:((L2:Int)<st.WW)=False:=H' h2;apply sR;simp only[go_sem,seval,b3,q1,q2];exact ai.pure hs (by simp)
 .have q0:(db l a>=0)=False:=H' hp;rw[au hp];apply sR;simp only[go_sem,seval,a1,q0];have b3:X3 i3=some ⟨45,12,[kB pz]⟩:=a3;generalize pz=st at*;rw[kB]at b3;refine pR rfl (hlc ⟨E,B,C,a⟩ _) ?_;generalize jw of (a:Int) k=L at*;obtain⟨L1,L2⟩:=L;simp only;by_cases h1:(L1:Int)<st.WE
  .have q1:((L1:Int)<st.WE)=True:=L' h1;apply sR;simp only[go_sem,seval,b3,q1];exact ai.pure hs (by simp)
  .have q1:((L1:Int)<st.WE)=False:=H' h1;by_cases h2:(L2:Int)<st.WW
   .have q2:((L2:Int)<st.WW)=True:=L' h2;apply sR;simp only[go_sem,seval,b3,q1,q2];exact ai.pure hs (by simp)
   .have q2:((L2:Int)<st.WW)=False:=H' h2;apply sR;simp only[go_sem,seval,b3,q1,q2];exact ai.pure hs (by simp)
open Go.Proofs
def qu(l:List Nd)(x:Kn):Bool:=x.both.any λb=>decide ((Yw l b).inside=1)
def Dz(l:List Nd)(of:List Int)(k:Nat)(x:Kn){U:ad}{i1:Nat}(h:U i1=some ⟨261,7,[jM l of k x]⟩)(n:Nat)(hn:n<l.length):
 av prog 244 [vI n,.ptr i1 0 0] U λr Z'=>r=.bool (decide ((Yw l n).inside=1))/\Z'=U:=by
 refine Ug.q ?_;refine ag.mix 4 ?_;have XO:=λU=>bI (U:=U) (l:=l) (a:=n) hn;rw[eG hn];rw[jM]at h;by_cases hi:l[n].st.inside=1
 .have q:(l[n].st.inside=1)=True:=L' hi;apply sR;simp only[go_sem,seval,NH,h,XO,Nd.cells,q];exact ai.same (by simp)
 .have q:(l[n].st.inside=1)=False:=H' hi;apply sR;simp only[go_sem,seval,NH,h,XO,Nd.cells,q];exact ai.same (by simp)
def Gu(l:List Nd)(of:List Int)(k:Nat)(x:Kn)(hx:∀b∈x.both,∃n:Nat,b=n/\n<l.length)(hlen:x.both.length<=1000000):
 aE prog 190 [jM l of k x] (.bool (qu l x)):=λU=>by
 refine Uq.q ?_;have hs:=aa.refl U;refine mS 3 ?_;simp only[go_sem,seval,SA,jM];refine al hs λi1 Z1 s1 a1 f1 _ hs=>?_;simp only[go_sem,seval,a1];refine pR rfl (mU (p:=λb=>decide ((Yw l b).inside=1)) Reads.ints (by omega) (λb hb=>by
  obtain⟨n,rfl,hn⟩:=hx b hb;exact Dz l of k x a1 n hn)) ?_
 apply sR;simp only[go_sem,seval];exact ai.pure hs rfl
def DN(l:List Nd)(hl:dz l)(hb:Xh l=true)(of:List Int)(Yq:of.length<=1000000)(Xt:∀x∈of,0<=x/\x<l.length)(hm:rC l of=true)(k:Nat)(hk:k<=of.length)(x:Kn):
 aE prog 191 [jM l of k x] (.bool (decide (1∈gX l of k))):=λU=>by
 refine U3.q ?_;have hs:=aa.refl U;have hn:l.length<=100000:=by have:=hl.1;omega
 refine mS 5 ?_;simp only[go_sem,seval,P8,jM];refine al hs λi1 Z1 s1 a1 f1 _ hs=>?_;simp only[go_sem,seval,a1];refine pS rfl (Ep l hl hb of Yq Xt hm k hk _) ?_;simp only[go_sem,seval];refine pS rfl (Ch _ (by have:=mv hn of k;omega) 1 _) ?_;simp only[go_sem,seval];exact ai.pure hs rfl
open Go.Proofs
def BH(s:Int)(j:Nat)(b:Bool):Int:=if b then s+2^j else s
def kQ(l:List Nd)(of:List Int)(k:Nat):Nat->Bool
 |0=>Fm l of (cq l of k).text k
 |1=>qu l (cq l of k)
 |_=>decide (1∈gX l of k)
def dB(l:List Nd)(of:List Int)(k:Nat):Nat->Int
 |0=>0
 |j+1=>BH (dB l of k j) j (kQ l of k j)
def mC(l:List Nd)(of:List Int)(k:Nat):Int:=if k=0\/k=of.length then 0 else dB l of k 3
def Cx{l:List Nd}{of:List Int}(Xt:∀x∈of,0<=x/\x<l.length)(k:Nat):(cq l of k).text<l.length:=by
 rw[cq];simp only;split
 .rename_i h;have hgd:of.getD k 0=of[k]'h.2.1:=by simp[h.2.1]
  rw[hgd];exact(Xt _ (Xo h.2.1)).2
 .omega
def PZ(l:List Nd)(hl:dz l)(hb:Xh l=true)(of:List Int)(Yq:of.length<=1000000)(Xt:∀x∈of,0<=x/\x<l.length)(hm:rC l of=true)(k:Nat)(hk:k<=of.length):
 aE prog 138 [ay l,aN of,vI k] (.WC [vI (mC l of k),vI 0]):=λU=>by
 refine Wg.q ?_;have hs:=aa.refl U;have XI:=cV of;have hn:l.length<=100000:=by have:=hl.1;omega
 have hb1:∀(f:FuncId) (a:List V),(V.bm f a).cells=[.bm f a]:=λ_ _=>rfl;have W1:∀f:FuncId,(V.bm f [.agg [aN (cq l of k).ends,aN (cq l of k).YL,aN (cq l of k).both,vI (cq l of k).text,ay l,aN of,vI k]]).stays=true:=λ_=>rfl;have hnf:V.Ya.cells=[.Ya]:=rfl;refine mS 15 ?_;simp only[go_sem,seval,RF];refine pR rfl (OJ l hl hb of Yq Xt hm k hk _) ?_;have hpc:(jM l of k (cq l of k)).stays=true:=rfl;apply sR;simp only[go_sem,seval,jM];refine al hs λi8 Z8 s8 a8 f8 z8 hs=>?_;have q0:((0:Int)≠0)=False:=H' (λh=>h rfl);unfold mC;by_cases hk0:k=0
 .subst hk0;have q1:(((0:Nat):Int)=0)=True:=L' rfl;simp only[go_sem,seval,a8,q0];exact ai.pure (hs.ao z8) (by simp)
 have q1:((k:Int)=0)=False:=H';by_cases X6:k=of.length
 .have q2:((k:Int)=of.length)=True:=L';simp only[go_sem,seval,a8,q0,q1,q2,XI];exact ai.pure (hs.ao z8) (by simp[X6])
 have q2:((k:Int)=of.length)=False:=H';rw[au (by omega)];simp only[go_sem,seval,a8,q0,q1,q2,XI,hb1,W1];generalize Yc:C' _ i8 _=Y8;replace a8:=XD Yc;replace hs:=Xz Yc hs z8;refine al hs λi10 Z10 Yt Xm f10 Zn hs=>?_;obtain⟨n810,a8⟩:=WG a8 f10 Yt;simp only[go_sem,seval,Xm];generalize Xu:C' _ i10 _=Y10;replace Xm:=XD Xu;replace a8:=WQ Xu n810 a8;replace hs:=Xz Xu hs Zn;have ht:=Cx Xt (l:=l) k;have c0:aE prog 189 [jM l of k (cq l of k)] (.bool (kQ l of k 0)):=M5 l hl hb of Yq k (cq l of k) ht;have c1:aE prog 190 [jM l of k (cq l of k)] (.bool (kQ l of k 1)):=Gu l of k (cq l of k) (oL Xt) (jP (lu hn) (by omega));have c2:aE prog 191 [jM l of k (cq l of k)] (.bool (kQ l of k 2)):=DN l hl hb of Yq Xt hm k hk (cq l of k);rw[jM]at c0 c1 c2;generalize hpv:V.agg [aN (cq l of k).ends,aN (cq l of k).YL,aN (cq l of k).both,vI (cq l of k).text,ay l,aN of,vI k]=pv at*;refine ag.fP (λst=>aa U st.U/\st.s 11=vI (dB l of k 3))
  (λm st=>∃j:Nat,j<=3/\m=3-j/\aa U st.U/\st.s 11=vI (dB l of k j)/\st.s 41=.agg [.bm 189 [pv],.bm 190 [pv],.bm 191 [pv]]/\st.s 42=vI j) 3 ?_ ?_ ?_
 .exact⟨0,by omega,rfl,hs,rfl,rfl,rfl⟩
 .clear hs a8 Xm;rintro m ⟨S,J⟩ ⟨j,hj,rfl,hs,t11,t41,t42⟩;simp only at hs t11 t41 t42;refine ag.mix 15 ?_;rcases(by omega:j=0\/j=1\/j=2\/j=3)with rfl|rfl|rfl|rfl
  .have u42:S 42=vI 0:=t42;have hp:dB l of k 0=0:=rfl;have u11:S 11=vI 0:=by rw[t11,hp]
   apply sR;simp only[go_sem,seval,t41,u42];refine ag.lX rfl rfl rfl (c0 _) ?_;rintro r Z' ⟨rfl,rfl⟩;cases hv:kQ l of k 0
   .apply sR;simp only[go_sem,seval,u11,t41,u42];refine⟨ae,_,?_,1,by omega,rfl,hs,by rw[dB,hp,hv];rfl,rfl⟩;omega
   .apply sR;simp only[go_sem,seval,u11,t41,u42];refine⟨ae,_,?_,1,by omega,rfl,hs,by rw[dB,hp,hv];rfl,rfl⟩;omega
  .have u42:S 42=vI 1:=t42;have hp:dB l of k 1=0\/dB l of k 1=1:=by rw[dB,dB,BH];split<;>simp
   rcases hp with hp|hp
   .have:=hp;have u11:S 11=vI 0:=by rw[t11,hp]
    apply sR;simp only[go_sem,seval,t41,u42];refine ag.lX rfl rfl rfl (c1 _) ?_;rintro r Z' ⟨rfl,rfl⟩;cases hv:kQ l of k 1
    .apply sR;simp only[go_sem,seval,u11,t41,u42];refine⟨ae,_,?_,2,by omega,rfl,hs,by rw[dB,hp,hv];rfl,rfl⟩;omega
    .apply sR;simp only[go_sem,seval,u11,t41,u42];refine⟨ae,_,?_,2,by omega,rfl,hs,by rw[dB,hp,hv];rfl,rfl⟩;omega
   .have:=hp;have u11:S 11=vI 1:=by rw[t11,hp]
    apply sR;simp only[go_sem,seval,t41,u42];refine ag.lX rfl rfl rfl (c1 _) ?_;rintro r Z' ⟨rfl,rfl⟩;cases hv:kQ l of k 1
    .apply sR;simp only[go_sem,seval,u11,t41,u42];refine⟨ae,_,?_,2,by omega,rfl,hs,by rw[dB,hp,hv];rfl,rfl⟩;omega
    .apply sR;simp only[go_sem,seval,u11,t41,u42];refine⟨ae,_,?_,2,by omega,rfl,hs,by rw[dB,hp,hv];rfl,rfl⟩;omega
  .have u42:S 42=vI 2:=t42;have hp:dB l of k 2=0\/dB l of k 2=1\/dB l of k 2=2\/dB l of k 2=3:=by rw[dB,dB,dB,BH,BH];split<;>split<;>simp
   rcases hp with hp|hp|hp|hp
   .have:=hp;have u11:S 11=vI 0:=by rw[t11,hp]
    apply sR;simp only[go_sem,seval,t41,u42];refine ag.lX rfl rfl rfl (c2 _) ?_;rintro r Z' ⟨rfl,rfl⟩;cases hv:kQ l of k 2
    .apply sR;simp only[go_sem,seval,u11,t41,u42];refine⟨ae,_,?_,3,by omega,rfl,hs,by rw[dB,hp,hv];rfl,rfl⟩;omega
    .apply sR;simp only[go_sem,seval,u11,t41,u42];refine⟨ae,_,?_,3,by omega,rfl,hs,by rw[dB,hp,hv];rfl,rfl⟩;omega
   .have:=hp;have u11:S 11=vI 1:=by rw[t11,hp]
    apply sR;simp only[go_sem,seval,t41,u42];refine ag.lX rfl rfl rfl (c2 _) ?_;rintro r Z' ⟨rfl,rfl⟩;cases hv:kQ l of k 2
    .apply sR;simp only[go_sem,seval,u11,t41,u42];refine⟨ae,_,?_,3,by omega,rfl,hs,by rw[dB,hp,hv];rfl,rfl⟩;omega
    .apply sR;simp only[go_sem,seval,u11,t41,u42];refine⟨ae,_,?_,3,by omega,rfl,hs,by rw[dB,hp,hv];rfl,rfl⟩;omega
   .have:=hp;have u11:S 11=vI 2:=by rw[t11,hp]
    apply sR;simp only[go_sem,seval,t41,u42];refine ag.lX rfl rfl rfl (c2 _) ?_;rintro r Z' ⟨rfl,rfl⟩;cases hv:kQ l of k 2
    .apply sR;simp only[go_sem,seval,u11,t41,u42];refine⟨ae,_,?_,3,by omega,rfl,hs,by rw[dB,hp,hv];rfl,rfl⟩;omega
    .apply sR;simp only[go_sem,seval,u11,t41,u42];refine⟨ae,_,?_,3,by omega,rfl,hs,by rw[dB,hp,hv];rfl,rfl⟩;omega
   .have:=hp;have u11:S 11=vI 3:=by rw[t11,hp]
    apply sR;simp only[go_sem,seval,t41,u42];refine ag.lX rfl rfl rfl (c2 _) ?_;rintro r Z' ⟨rfl,rfl⟩;cases hv:kQ l of k 2
    .apply sR;simp only[go_sem,seval,u11,t41,u42];refine⟨ae,_,?_,3,by omega,rfl,hs,by rw[dB,hp,hv];rfl,rfl⟩;omega
    .apply sR;simp only[go_sem,seval,u11,t41,u42];refine⟨ae,_,?_,3,by omega,rfl,hs,by rw[dB,hp,hv];rfl,rfl⟩;omega
  .have u42:S 42=vI 3:=t42;apply sR;simp only[go_sem,seval,t11,u42];exact hs
 .rintro⟨S,J⟩ ⟨hs,t11⟩;simp only at hs t11;refine mS 15 ?_;simp only[go_sem,seval,t11];exact ai.pure hs rfl
open Go.Proofs
def tv(l:List Nd)(of:List Int):List Int:=(List.range (of.length+1)).map (mC l of)
def OI(l:List Nd)(hl:dz l)(hb:Xh l=true)(of:List Int)(Yq:of.length<=1000000)(Xt:∀x∈of,0<=x/\x<l.length)(hm:rC l of=true):
 aE prog 88 [ay l,aN of] (.WC [aN (tv l of),vI 0]):=λU=>by
 refine e88.q ?_;have hs:=aa.refl U;have XI:=cV of;refine mS 11 ?_;simp only[go_sem,seval,c88];refine pR rfl (qx l hl hb of Yq hm _) ?_;have q0:((0:Int)≠0)=False:=H' (λh=>h rfl);have r0:WI .i64 ((of.length:Int)+1):=ae;apply sR;simp only[go_sem,seval,q0,XI,r0];refine ag.fP (λst=>aa U st.U/\aq U st.U 3 1 (st.s 7) ((tv l of).map vI))
  (λm st=>∃j:Nat,j<=of.length+1/\m=of.length+1-j/\aa U st.U/\aq U st.U 3 1 (st.s 7) (((List.range j).map (mC l of)).map vI)/\st.s 0=ay l/\st.s 1=aN of/\st.s 19=vI ((of.length:Int)+1)/\st.s 20=vI j) (of.length+1) ?_ ?_ ?_
 .exact⟨0,by omega,rfl,hs,aq.start,rfl,rfl,rfl,rfl⟩
 .clear hs;rintro m ⟨S,J⟩ ⟨j,hj,rfl,hs,ho,t0,t1,t19,t20⟩;simp only at hs ho t0 t1 t19 t20;generalize ZD:S 7=v7 at ho;refine ag.mix 11 ?_;by_cases B':j<of.length+1
  .have q:((j:Int)<of.length+1)=True:=L';have r1:=rI j;have W8:(((List.range (j+1)).map (mC l of)).map vI)=(((List.range j).map (mC l of)).map vI)++[vI (mC l of j)]:=by
    rw[List.range_succ];simp
   have Yd:(((List.range j).map (mC l of)).map vI).length=j:=by simp
   apply sR;simp only[go_sem,seval,t0,t1,t19,t20,q];refine pR rfl (PZ l hl hb of Yq Xt hm j (by omega) _) ?_;generalize ((List.range j).map (mC l of)).map vI=rows at*;apply sR;simp only[go_sem,seval,ZD];refine aj λi32 Z32 s32 a32 f32=>?_;obtain⟨idA,Xg,WK,XG,hd2⟩:=ho.mE s32;have W1:(rows.length+1)*9<=140737488355328:=by omega
   simp only[go_sem,seval,Xg,bl a32,W1];refine aX λi33 Z33 s33 a33 f33=>?_;have k33:=(WK U (aa.refl _) Z32 (hs.trans s32)).trans s33;have n33:U i33=none:=(hs.trans s32).none f33;simp only[go_sem,seval,t0,t1,t19,t20,r1];refine⟨_,?_,j+1,by omega,rfl,k33,?_,by simp⟩
   .omega
   .rw[W8];exact aq.new (by simp) a33 n33
  .have q:((j:Int)<of.length+1)=False:=H';have YK:j=of.length+1:=by omega
   subst YK;apply sR;simp only[go_sem,seval,t19,t20,q];exact⟨hs,ZD▸ho⟩
 .rintro⟨S,J⟩ ⟨hs,ho⟩;simp only at hs ho;generalize ZD:S 7=v7 at ho;refine mS 11 ?_;simp only[go_sem,seval,ZD];exact⟨_,U,hs,Wk.WC (vs':=[aN (tv l of),vI 0]) ⟨ho.wk (aa.refl _) hs,Wk.refl hs _,trivial⟩,rfl,rfl⟩
open Go.Proofs
structure Yr where
 (cls forced W6:Int)
deriving DecidableEq
def bX(x:Yr):V:=.agg [vI x.cls,vI x.forced,vI x.W6]
def aY(l:List Yr):V:=.sl 3 (l.map bX)
def j8(l:List Yr):(aY l).cells=[aY l]:=rfl
def j6(l:List Yr):(aY l).stays=true:=rfl
def wP(l:List Yr):dv false (aY l)=some (.int .i64 l.length):=by simp[aY,dv]
def nN{U:ad}{l:List Yr}{i:Nat}(h:i<l.length):bp U 3 (aY l) (.int .i64 i)=some (.rp (bX l[i])):=by simp[aY,bp,h,bX]
def dj(of:List Int)(k:Nat):Int:=if k=0 then 0 else if k=of.length then 3 else if of.getD k 0=of.getD (k-1) 0 then 2 else 1
def K6(of:List Int)(Yq:of.length<=1000000)(k:Nat)(hk:k<=of.length):aE prog 89 [aN of,vI k] (vI (dj of k)):=λU=>by
 refine e89.q ?_;have XI:=cV of;refine ag.mix 6 ?_;unfold dj;rcases Nat.eq_zero_or_pos k with rfl|h0
 .have q1:(((0:Nat):Int)=0)=True:=L' rfl;apply sR;simp only[go_sem,seval,c89];exact ai.same rfl
 have q1:((k:Int)=0)=False:=H';rw[au (by omega)];by_cases X6:k=of.length
 .have q2:((k:Int)=of.length)=True:=L';rw[ak X6];apply sR;simp only[go_sem,seval,c89,q1,q2,XI];exact ai.same rfl
 have q2:((k:Int)=of.length)=False:=H';rw[au X6];have h1:k<of.length:=by omega
 have q5:=ae (m:=((k-1:Nat):Int)) (by omega) (by omega);have q6:((k:Int)-1)=((k-1:Nat):Int):=by omega
 have q7:=λU=>de (U:=U) h1;have q8:=λU=>de (U:=U) (l:=of) (i:=k-1) (by omega);have g1:of.getD k 0=of[k]:=by simp[h1]
 have g2:of.getD (k-1) 0=of[k-1]:=by
  have:k-1<of.length:=by omega
  simp[this]
 rw[g1,g2];by_cases h2:of[k]=of[k-1]
 .have q9:(of[k]=of[k-1])=True:=L' h2;rw[ak h2];apply sR;simp only[go_sem,seval,c89,q1,q2,XI,q5,q6,q7,q8,q9];exact ai.same rfl
 .have q9:(of[k]=of[k-1])=False:=H' h2;rw[au h2];apply sR;simp only[go_sem,seval,c89,q1,q2,XI,q5,q6,q7,q8,q9];exact ai.same rfl
open Go.Proofs
def bkR(l:List Nd)(of:List Int)(k:Nat):Yr:=⟨dj of k,iO l of k,if iO l of k=0 then mC l of k else 0⟩
def oU(l:List Nd)(of:List Int):List Yr:=(List.range (of.length+1)).map (bkR l of)
def E9{U:ad}{f:Nat->Int}{n j:Nat}(h:j<n):bp U 1 (aN ((List.range n).map f)) (.int .i64 j)=some (.rp (vI (f j))):=by
 rw[de (by simpa using h)];simp
def N1(l:List Nd)(hl:dz l)(hb:Xh l=true)(of:List Int)(Yq:of.length<=1000000)(Xt:∀x∈of,0<=x/\x<l.length)(hm:rC l of=true):
 aE prog 37 [ay l,aN of] (.WC [aY (oU l of),vI 0]):=λU=>by
 refine e37.q ?_;have hs:=aa.refl U;have XI:=cV of;refine mS 14 ?_;simp only[go_sem,seval,c37];refine pR rfl (qx l hl hb of Yq hm _) ?_;have q0:((0:Int)≠0)=False:=H' (λh=>h rfl);have r0:WI .i64 ((of.length:Int)+1):=ae;apply sR;simp only[go_sem,seval,q0];refine pS rfl (NM l hl hb of Yq Xt hm _) ?_;simp only[go_sem,seval];refine pS rfl (OI l hl hb of Yq Xt hm _) ?_;simp only[go_sem,seval,XI,r0];refine ag.fP (λst=>aa U st.U/\aq U st.U 102 3 (st.s 11) ((oU l of).map bX))
  (λm st=>∃j:Nat,j<=of.length+1/\m=of.length+1-j/\aa U st.U/\aq U st.U 102 3 (st.s 11) (((List.range j).map (bkR l of)).map bX)/\st.s 0=ay l/\st.s 1=aN of/\st.s 7=aN (th l of)/\st.s 9=aN (tv l of)/\st.s 34=vI ((of.length:Int)+1)/\st.s 35=vI j) (of.length+1) ?_ ?_ ?_
 .exact⟨0,by omega,rfl,hs,aq.start,rfl,rfl,rfl,rfl,rfl,rfl⟩
 .clear hs;rintro m ⟨S,J⟩ ⟨j,hj,rfl,hs,ho,t0,t1,t7,t9,t34,t35⟩;simp only at hs ho t0 t1 t7 t9 t34 t35;generalize hv11:S 11=v11 at ho;refine ag.mix 14 ?_;by_cases B':j<of.length+1
  .have q:((j:Int)<of.length+1)=True:=L';have r1:=rI j;have W8:(((List.range (j+1)).map (bkR l of)).map bX)=(((List.range j).map (bkR l of)).map bX)++[bX (bkR l of j)]:=by
    rw[List.range_succ];simp
   have Yd:(((List.range j).map (bkR l of)).map bX).length=j:=by simp
   have hi7:∀U,bp U 1 (aN (th l of)) (.int .i64 j)=some (.rp (vI (iO l of j))):=λU=>E9 B';have hi9:∀U,bp U 1 (aN (tv l of)) (.int .i64 j)=some (.rp (vI (mC l of j))):=λU=>E9 B';apply sR;simp only[go_sem,seval,t1,t34,t35,q];refine pJ rfl (K6 of Yq j (by omega)) ?_;apply sG;simp only[go_sem,seval,t7,hi7];refine bF λi13 Z13 s13 XM f13=>?_;by_cases hz:iO l of j=0
   .have q2:(iO l of j=0)=True:=L' hz;have Ze:bX (bkR l of j)=.agg [vI (dj of j),vI (iO l of j),vI (mC l of j)]:=by rw[bkR,ak hz];rfl
    simp only[go_sem,seval,XM,t7,t9,hv11,hi7,hi9,q2];generalize hq13:C' _ i13 _=Y13;have s13':aa J Y13:=by rw[<-hq13];exact s13.ao f13
    clear hq13;refine aj λi58 Z58 YS a58 f58=>?_;obtain⟨idA,Xg,WK,XG,hd2⟩:=ho.mE (s13'.trans YS);generalize ((List.range j).map (bkR l of)).map bX=rows at*;have W1:(rows.length+1)*25<=140737488355328:=by omega
    simp only[go_sem,seval,Xg,bl a58,W1];refine aX λi59 Z59 s59 a59 f59=>?_;have k59:=(WK U (aa.refl _) Z58 (hs.trans (s13'.trans YS))).trans s59;have n59:U i59=none:=(hs.trans (s13'.trans YS)).none f59;simp only[go_sem,seval,t0,t1,t7,t9,t34,t35,r1];refine⟨_,?_,j+1,by omega,rfl,k59,?_,by simp⟩
    .omega
    .rw[W8,Ze];exact aq.new (by simp) a59 n59
   .have q2:(iO l of j=0)=False:=H' hz;have Ze:bX (bkR l of j)=.agg [vI (dj of j),vI (iO l of j),vI 0]:=by rw[bkR,au hz];rfl
    simp only[go_sem,seval,XM,t7,hv11,hi7,q2];generalize hq13:C' _ i13 _=Y13;have s13':aa J Y13:=by rw[<-hq13];exact s13.ao f13
    clear hq13;refine aj λi58 Z58 YS a58 f58=>?_;obtain⟨idA,Xg,WK,XG,hd2⟩:=ho.mE (s13'.trans YS);generalize ((List.range j).map (bkR l of)).map bX=rows at*;have W1:(rows.length+1)*25<=140737488355328:=by omega
    simp only[go_sem,seval,Xg,bl a58,W1];refine aX λi59 Z59 s59 a59 f59=>?_;have k59:=(WK U (aa.refl _) Z58 (hs.trans (s13'.trans YS))).trans s59;have n59:U i59=none:=(hs.trans (s13'.trans YS)).none f59;simp only[go_sem,seval,t0,t1,t7,t9,t34,t35,r1];refine⟨_,?_,j+1,by omega,rfl,k59,?_,by simp⟩
    .omega
    .rw[W8,Ze];exact aq.new (by simp) a59 n59
  .have q:((j:Int)<of.length+1)=False:=H';have YK:j=of.length+1:=by omega
   subst YK;apply sR;simp only[go_sem,seval,t34,t35,q];exact⟨hs,hv11▸ho⟩
 .rintro⟨S,J⟩ ⟨hs,ho⟩;simp only at hs ho;generalize hv11:S 11=v11 at ho;refine mS 14 ?_;simp only[go_sem,seval,hv11];exact⟨_,U,hs,Wk.WC (vs':=[aY (oU l of),vI 0]) ⟨ho.wk (aa.refl _) hs,Wk.refl hs _,trivial⟩,rfl,rfl⟩
end Go.Vc
