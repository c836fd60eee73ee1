/- Part 7 of the library of this proof. -/
import Derived.Test.YtdaelobhgmdoeaaGreatW6
set_option linter.all false
set_option maxHeartbeats 8000000
set_option maxRecDepth 100000
namespace Go.Vc
open Go.Proofs Go.Proofs.Tryz
def WG(l:List Nd):Nat->Int->List Int
 |0,_=>[]
 |f+1,p=>if 0<=p then p::WG l f (eQ l p.toNat)else[]
def wH{l:List Nd}{f:Nat}{p:Int}(h:p<0):WG l f p=[]:=by
 cases f with
 |zero=>rfl
 |succ f=>rw[WG,if_neg (by omega)]
def rL{l:List Nd}{f:Nat}{p:Int}(h:0<=p)(hf:p<f):∃g,f=g+1/\WG l f p=p::WG l g (eQ l p.toNat):=by
 cases f with
 |zero=>omega
 |succ f=>exact⟨f,rfl,by rw[WG,if_pos h]⟩
def fW(l:List Nd)(a:Nat):-1<=eQ l a/\eQ l a<a:=tP l a a
def ldN(U:ai)(l:List Nd):bT U false 1 (.rp (aK l))=some (aK l):=rfl
def fdN(l:List Nd):gx false 0 1 (.rp (.agg [aK l]))=some (.rp (aK l)):=rfl
def mX(l:List Int):List (List V):=l.map λp=>[vI p]
def tw(l:List Nd)(hl:dH l)(hb:So l=true)(a:Nat)(ha:a<l.length):Iter prog 260 [.rp (.agg [aK l]),.rp (vI a)] (mX (WG l (l.length+1) (eQ l a))):=by
 have hhas:uS l (a:Int)=true:=yV.2 ⟨by omega,by omega⟩;have ZC:=fW l a;refine⟨NM.c,λRZ τ Jx Z0 hy hJ=>?_⟩;refine(NM.r (by simp[LI]) ?_).2;refine ad.mix 5 ?_;apply sR;simp only[BB,seval,<-decide_not,bx,fg,aL,cU,eJ,eo,eN,dY,cz,jQ,bI,fH,dP,fq,cL,cP,bF,iP,dh,cQ,cp,SG,jT,dd,cc,iO,dI,cd,dc,cZ,kG,binBV,bW,dp,V.cells,V.stays,TJ.nothing,LI,ldN,fdN];refine ad.aB rfl rfl rfl (Lb l a _) ?_;rw[hhas];apply sR;simp only[BB,seval,<-decide_not,bx,fg,aL,cU,eJ,eo,eN,dY,cz,jQ,bI,fH,dP,fq,cL,cP,bF,iP,dh,cQ,cp,SG,jT,dd,cc,iO,dI,cd,dc,cZ,kG,binBV,bW,dp,V.cells,V.stays,TJ.nothing,ldN,fdN];refine ad.aB rfl rfl rfl (uX l hl hb a ha _) ?_;apply sR;simp only[go_sem,seval];refine ad.loop (λm st=>∃(pre:List Int) (q:Int) (f:Nat) (ZJ:ai),m=(q+1).toNat/\-1<=q/\q<l.length/\q<f/\WG l (l.length+1) (eQ l a)=pre++WG l f q/\τ (mX pre) ZJ/\aa ZJ st.U/\
  st.s 0=.yl RZ/\st.s 1=.rp (.agg [aK l])/\st.s 4=vI q) (eQ l a+1).toNat ?_ ?_
 .exact⟨[],eQ l a,l.length+1,Z0,rfl,by omega,by omega,by omega,rfl,hJ,aa.refl _,rfl,rfl,rfl⟩
 .rintro m ⟨s,Z'⟩ ⟨pre,q,f,ZJ,rfl,hq1,hq2,hqf,Ub,hJp,G',h0,h1,h4⟩;simp only at G' h0 h1 h4;refine ad.mix 5 ?_;by_cases hq:0<=q
  .obtain⟨g,rfl,hu⟩:=rL (l:=l) hq hqf;obtain⟨k,rfl⟩:∃k:Nat,q=k:=⟨q.toNat,by omega⟩
   have We:((k:Int)>=0)=True:=by simp
   rw[Int.toNat_natCast]at hu;have hpk:=fW l k;have TR:k<l.length:=by omega
   have e:mX (WG l (l.length+1) (eQ l a))=mX pre++[vI k]::mX (WG l g (eQ l k)):=by rw[Ub,hu];simp[mX]
   apply sR;simp only[go_sem,seval,h0,h1,h4,We];refine ad.lN (Post:=λb Z2=>∃RX,bh ZJ Z' RX Z2/\((b=true/\τ (mX pre++[[vI k]]) RX)\/(b=false/\Jx (mX pre++[[vI k]]) RX))) rfl rfl rfl (hy _ [vI k] _ ZJ Z' e hJp G') ?_;rintro b Z2 ⟨RX,SI,Sr⟩;rcases Sr with⟨rfl,Sr⟩|⟨rfl,Sr⟩
   .apply sR;simp only[BB,seval,<-decide_not,bx,fg,aL,cU,eJ,eo,eN,dY,cz,jQ,bI,fH,dP,fq,cL,cP,bF,iP,dh,cQ,cp,SG,jT,dd,cc,iO,dI,cd,dc,cZ,kG,binBV,bW,dp,V.cells,V.stays,TJ.nothing,h0,h1,h4,ldN,fdN];refine ad.aB rfl rfl rfl (uX l hl hb k TR _) ?_;apply sR;simp only[go_sem,seval,h0,h1];refine⟨_,?_,pre++[(k:Int)],eQ l k,g,RX,rfl,by omega,by omega,by omega,by rw[Ub,hu];simp,?_,SI.1,by simp[h0,h1]⟩
    .omega
    .simpa[mX]using Sr
   .apply sR;simp only[go_sem,seval,h0,h1,h4];refine⟨_,RX,SI.1,Wk.refl SI.1 _,.inr ⟨mX pre++[[vI k]],?_,Sr⟩⟩;rw[e];exact⟨mX (WG l g (eQ l k)),by simp⟩
  .have We:(q>=0)=False:=by simp;omega
   apply sR;simp only[go_sem,seval,h0,h1,h4,We];rw[wH (l:=l) (f:=f) (p:=q) (by omega),List.append_nil]at Ub;exact⟨_,ZJ,G',Wk.refl G' _,.inl (by rw[Ub];exact hJp)⟩
def xW(l:List Nd)(a:Int):aV prog 215 [.agg [aK l],vI a] (.fn 260 [.rp (.agg [aK l]),.rp (vI a)]):=λU=>by
 refine P6.r (by simp[K5]) ?_;refine ad.mix 4 ?_;have q1:(V.agg [aK l]).cells.length=1:=rfl;have q2:(V.agg [aK l]).stays=true:=rfl;generalize V.agg [aK l]=x at*;apply sR;simp only[go_sem,seval,K5,q1,q2];refine af λU4 Z1 s1 a1 f1=>?_;simp only[go_sem,seval];refine af λWC Z2 s2 a2 f2=>?_;simp only[go_sem,seval];exact⟨_,U,s1.trans s2,Wk.fn (vs':=[.rp x,.rp (vI a)]) ⟨Wk.ptr (s1.trans s2) (s2 _ _ a1) f1,Wk.ptr (s1.trans s2) a2 (s1.none f2),trivial⟩,rfl,rfl⟩
def Bu(l:List Nd)(hl:dH l)(hb:So l=true)(a:Nat)(ha:a<l.length):aV prog 277 [aK l,vI a] (vI (eQ l a)):=λU=>by
 refine OU.r (by simp[LB]) ?_;refine ad.mix 5 ?_;have WM:=tw l hl hb a ha;have ZC:=fW l a;apply sR;simp only[go_sem,seval,LB];refine af λVk Z1 s1 a4 f4=>?_;simp only[go_sem,seval];refine ad.aB rfl rfl rfl (Bo l hl hb _) ?_;apply sR;simp only[go_sem,seval];refine ad.aB rfl rfl rfl (xW l a _) ?_;apply sR;simp only[go_sem,seval];generalize hS:mix 5 _ _=S;have S4:S 4=.ptr Vk 0 0:=by rw[<-hS];rfl
 have S9:S 9=.fn 260 [.rp (.agg [aK l]),.rp (vI a)]:=by rw[<-hS];rfl
 clear hS;have hx0:∀x pre post,mX (WG l (l.length+1) (eQ l a))=pre++x::post->pre=[]->x=[vI (eQ l a)]:=λx pre post h hp=>by
  subst hp;by_cases h0:0<=eQ l a
  .obtain⟨g,_,hu⟩:=rL (l:=l) (f:=l.length+1) h0 (by omega);rw[hu]at h;simp only[mX,List.map_cons,List.nil_append,List.cons.injEq]at h;exact h.1.symm
  .rw[wH (by omega)]at h;simp[mX]at h
 refine ad.cX (g:=.t 9) (caps:=[.rp (.agg [aK l]),.rp (vI a)]) S9 WM (λx hx=>?_) [] (λpre ZJ=>pre=[]/\ZJ=Z1) (λc pre ZJ=>c=none/\ZJ=C' Z1 Vk ⟨3,1,[vI (eQ l a)]⟩) ?_ ?_ ?_ ?_ ?_
 .simp only[mX,List.mem_map]at hx;obtain⟨t,_,rfl⟩:=hx;rfl
 .exact⟨rfl,rfl⟩
 .rintro pre x post ZJ ZB Ub ⟨rfl,rfl⟩ G';obtain rfl:=hx0 x [] post Ub rfl;have b4:=G' _ _ a4;generalize TD:mj S [10] [vI (eQ l a)]=S0;have T4:S0 4=.ptr Vk 0 0:=by rw[<-TD];exact S4
  have W8:S0 10=vI (eQ l a):=by rw[<-TD];rfl
  clear TD;refine ad.mix 11 ?_;apply sR;simp only[go_sem,seval,T4,W8,b4];refine ad.mix 11 ?_;apply sR;simp only[go_sem,seval,T4,b4];exact⟨_,(bh.refl G').set (o:=⟨3,1,[vI 0]⟩) a4,rfl⟩
 .rintro Z' ⟨hn,rfl⟩;have hpm:eQ l a=-1:=by
   by_cases h0:0<=eQ l a
   .obtain⟨g,_,hu⟩:=rL (l:=l) (f:=l.length+1) h0 (by omega);rw[hu]at hn;simp[mX]at hn
   .omega
  refine ad.mix 5 ?_;apply sR;simp only[go_sem,seval,S4,a4];rw[hpm];exact ay.pure (s1.aE f4) rfl
 .intro id h;cases h
 .rintro pre Z' _ ⟨_,rfl⟩;refine ad.mix 5 ?_;apply sR;simp only[go_sem,seval,S4,ag];exact ay.pure (s1.aE f4) rfl
open Go.Proofs Go.Proofs.Tryz
def lp{l:List Nd}{a b:Int}:gU l a b=true↔0<=a/\b<l.length/\a<=b/\b<a+Sa l a.toNat:=by
 simp only[gU,Ba,yV,decide_eq_true_eq];constructor
 .rintro⟨h1,h2,h3,h4⟩;omega
 .rintro⟨h1,h2,h3,h4⟩;omega
def vW(l:List Nd)(b:Nat):∀k,(rC l b k=-1/\∀i:Nat,i<k->gU l i b=false)\/∃q:Nat,rC l b k=q/\q<k/\gU l q b=true/\∀i:Nat,q<i->i<k->gU l i b=false
 |0=>.inl ⟨rfl,λi h=>by omega⟩
 |k+1=>by
  rw[rC];cases hk:gU l k b
  .simp only[Bool.false_eq_true,↓reduceIte];rcases vW l b k with⟨h1,h2⟩|⟨q,h1,h2,h3,h4⟩
   .refine .inl ⟨h1,λi hi=>?_⟩;by_cases e:i=k
    .rw[e];exact hk
    .exact h2 i (by omega)
   .refine .inr ⟨q,h1,by omega,h3,λi hi Tl=>?_⟩;by_cases e:i=k
    .rw[e];exact hk
    .exact h4 i hi (by omega)
  .simp only[↓reduceIte];exact .inr ⟨k,rfl,by omega,hk,λi hi Tl=>by omega⟩
def nest{l:List Nd}(hb:So l=true){x q:Nat}(hx:x<l.length)(h1:x<=q)(h2:(q:Int)<x+Sa l x)(hq:q<l.length):(q:Int)+Sa l q<=x+Sa l x:=by
 by_cases e:x=q
 .subst e;omega
 .have Se:cq l 0 l.length=true:=by simp only[So,Ba]at hb;exact hb.2
  obtain⟨z1,z2⟩:=pO hb hx;obtain⟨z3,_⟩:=dt (Nat.le_refl _) Se (Nat.zero_le x) hx;have X9:=mo l (l.length+1) 0 l.length (by omega) (Nat.le_refl _) Se x (by omega) hx hx;rw[<-lf hx]at X9;have:=(dt (e:=x+(Sa l x).toNat) (by omega) X9 (k:=q) (by omega) (by omega)).1;omega
def EM(l:List Nd):∀(f:Nat) (p x:Int),x∈WG l f p->0<=x/\x<=p
 |0,_,_,h=>by simp[WG]at h
 |f+1,p,x,h=>by
  rw[WG]at h;split at h
  .rcases List.mem_cons.1 h with rfl|h
   .omega
   .have:=EM l f _ x h;have:=fW l p.toNat;omega
  .simp at h
def oE{l:List Nd}{a b:Nat}:∀k:Nat,(∀i:Nat,i<k->gU l i a=gU l i b)->gG l a k=gG l b k
 |0,_=>rfl
 |k+1,h=>by
  rw[gG,gG,h k (by omega),oE k λi hi=>h i (by omega)]
def l8{l:List Nd}{a q:Nat}:∀k:Nat,q<=k->(∀i:Nat,q<=i->i<k->gU l i a=false)->gG l a k=gG l a q
 |0,h,_=>by rw[Nat.le_zero.1 h]
 |k+1,h,hh=>by
  by_cases e:q=k+1
  .rw[e]
  .rw[gG,hh k (by omega) (by omega),if_neg (by simp)];exact l8 k (by omega) λi h1 h2=>hh i h1 (by omega)
def vD{l:List Nd}(hb:So l=true):∀(f a:Nat),a<l.length->eQ l a<f->WG l f (eQ l a)=gG l a a
 |f,a,ha,hf=>by
  rcases vW l a a with⟨h1,h2⟩|⟨q,h1,h2,h3,h4⟩
  .have e:eQ l a=-1:=h1;rw[e,wH (by omega),l8 (q:=0) a (by omega) λi _ hi=>h2 i hi];rfl
  .have e:eQ l a=q:=h1;rw[e]at hf|-;obtain⟨g,rfl,hu⟩:=rL (l:=l) (f:=f) (p:=q) (by omega) hf;rw[hu,Int.toNat_natCast];have hpq:=fW l q;rw[vD hb g q (by omega) (by omega),l8 (q:=q+1) a (by omega) λi i1 i2=>h4 i (by omega) i2,gG,h3,if_pos rfl];congr 1;refine oE q λi hi=>?_;rw[Bool.eq_iff_iff,lp,lp];rw[lp]at h3;simp only[Int.toNat_natCast]at h3|-;constructor
   .rintro⟨_,_,_,g4⟩;have:=nest hb (x:=i) (q:=q) (by omega) (by omega) g4 (by omega);omega
   .rintro⟨_,_,_,_⟩;omega
open Go.Proofs Go.Proofs.Tryz
def bh.Eb{ZJ U RX Z':ai}(h:bh ZJ U RX Z'){e:Option Nat}(he:∀i,e=some i->∃o,RX i=some o):bh ZJ U (Vc.bK RX e) (Vc.bK Z' e):=by
 cases e with
 |none=>exact h
 |some e=>
  refine⟨BZ h.1,λi o h1 h2=>?_⟩;obtain⟨h3,h4⟩:=h.2 i o h1 h2;have:i≠e:=λe'=>by subst e';obtain⟨o',ho'⟩:=he i rfl;rw[h4]at ho';cases ho'
  simp only[Vc.bK,dK this];exact⟨h3,h4⟩
def aT.DQ{K ZJ Z1:ai}{e sz:Nat}{v:V}{rows:List V}(h:aT K ZJ e sz v rows)(hs:aa ZJ Z1):
 ∃RN,cg Z1 e sz v=some (rows,RN)/\∀i,RN=some i->K i=none/\∃o,ZJ i=some o:=by
 rcases h with⟨rfl,rfl⟩|⟨id,rfl,ho,hk⟩
 .exact⟨none,rfl,λ_ h=>by cases h⟩
 .refine⟨some id,?_,λi h=>by cases h;exact⟨hk,_,ho⟩⟩;simp only[cg,hs _ _ ho];rw[if_pos ⟨trivial,trivial,trivial,Nat.le_refl _⟩,List.take_length]
def bg(U:ai)(id:Nat):ai:=λi=>if i=id then some ⟨0,0,[]⟩else U i
def aM{U:ai}{id i:Nat}:bg U id i=none↔i≠id/\U i=none:=by
 unfold bg;split
 .rename_i h;simp[h]
 .rename_i h;simp[h]
def oD{α:Type}{f:α->V}{xs:List α}{pre post:List (List V)}{x:List V}(h:(xs.map λa=>[f a])=pre++x::post):∃a,xs[pre.length]?=some a/\x=[f a]:=by
 have:=congrArg (·[pre.length]?) h;simp only[List.getElem?_map,List.getElem?_append_right (Nat.le_refl _),Nat.sub_self,List.getElem?_cons_zero,Option.map_eq_some_iff]at this;obtain⟨t,h1,h2⟩:=this;exact⟨t,h1,h2.symm⟩
def x7{g:FuncId}{caps:List V}{xs:List Int}(WM:Iter prog g caps (xs.map λn=>[vI n]))(hx:xs.length<=1000000)(U:ai):
 aD prog 259 [.aC,.fn g caps] U λr Z'=>aa U Z'/\aT U Z' 3 1 r (xs.map vI):=by
 refine O8.r (by simp[Jw]) ?_;refine ad.mix 8 ?_;apply sR;simp only[go_sem,seval,Jw];refine af λWC Z2 s2 a2 f2=>?_;simp only[go_sem,seval];generalize hS:mix 8 _ _=S;have S2:S 2=.ptr WC 0 0:=by rw[<-hS];rfl
 have S6:S 6=.fn g caps:=by rw[<-hS];rfl
 clear hS;refine ad.cX (g:=.t 6) (caps:=caps) S6 WM (λx hx=>?_) [] (λpre ZJ=>∃v,ZJ WC=some ⟨57,1,[v]⟩/\aa U ZJ/\aT (bg U WC) ZJ 3 1 v ((xs.take pre.length).map vI))
  (λ_ _ _=>False) ?_ ?_ ?_ ?_ ?_
 .obtain⟨t,_,rfl⟩:=List.mem_map.1 hx;rfl
 .exact⟨.aC,a2,s2,by simpa using aT.start⟩
 .rintro pre x post ZJ ZB Ub ⟨v,J2,Js,Jo⟩ G';obtain⟨t,ZD,rfl⟩:=oD (f:=vI) Ub;have SB:xs.take (pre.length+1)=xs.take pre.length++[t]:=by rw[List.take_add_one,ZD];rfl
  have hlen:(pre++[[vI t]]).length=pre.length+1:=by simp
  rw[hlen,SB];have TR:((xs.take pre.length).map vI).length<=1000001:=by simp;omega
  have Ve:v.cells=[v]:=by rcases Jo with⟨rfl,_⟩|⟨_,rfl,_⟩<;>rfl
  generalize Se:((xs.take pre.length).map vI)=rows at*;have b2:=G' _ _ J2;generalize TD:mj S [7] [vI t]=S0;have T2:S0 2=.ptr WC 0 0:=by rw[<-TD];exact S2
  have T7:S0 7=vI t:=by rw[<-TD];rfl
  refine ad.mix 8 ?_;apply sR;simp only[go_sem,seval,T2,T7];apply sR;simp only[go_sem,seval,T2,T7,b2,Ve];rw[aO];intro Vf f28;have Vn:=(bh.refl G').pN (o:=⟨3,1,[vI t]⟩) f28;have y2:C' ZB Vf ⟨3,1,[vI t]⟩ WC=some ⟨57,1,[v]⟩:=by rw[ab (aq b2 f28)];exact b2
  have a28:C' ZB Vf ⟨3,1,[vI t]⟩ Vf=some ⟨3,1,[vI t]⟩:=ag;generalize C' ZB Vf ⟨3,1,[vI t]⟩=Z8 at*;obtain⟨RN,Th,VD⟩:=Jo.DQ Vn.1;have Sx:(rows.length+1)*9<=140737488355328:=by omega
  have k2:bg U WC WC≠none:=λh=>(aM.1 h).1 rfl;have U0:∀(i:Nat) (Zx:ai),bg U WC i≠none->Vc.bK Zx RN i=Zx i:=λi Zx hk=>by
   cases RN with
   |none=>rfl
   |some a=>exact dK (λe=>hk (by rw[e];exact(VD a rfl).1))
  simp only[go_sem,seval,Th,dT a28,Sx,T2];rw[aO];intro TE f29;have f29:Z8 TE=none:=f29;have Za:WC≠TE:=aq y2 f29;have f29':Vc.bK Z8 RN TE=none:=by
   cases RN with
   |none=>exact f29
   |some a=>simp only[Vc.bK,del];split<;>first|rfl|exact f29
  have y2':C' (Vc.bK Z8 RN) TE ⟨3,1,rows++[vI t]⟩ WC=some ⟨57,1,[v]⟩:=by rw[ab Za,U0 _ _ k2];exact y2
  have hB9:=((Vn.Eb (e:=RN) λi h=>(VD i h).2).new (o:=⟨3,1,rows++[vI t]⟩) f29').set (id:=WC) (o:=⟨57,1,[v]⟩) (o':=⟨57,1,[.own TE 0 (rows.length+1)]⟩) (by rw[ab Za,U0 _ _ k2];exact J2);simp only[go_sem,seval,Ve,y2',T2];refine⟨_,hB9,.own TE 0 (rows.length+1),ag,?_,?_⟩
  .refine aa.aE (λi o h=>?_) f2;have h1:=Js _ _ h;rw[ab (aq (Vn.1 _ _ h1) f29),U0 _ _ (λhk=>by rw[(aM.1 hk).2]at h;cases h)];exact h1
  .rw[List.map_append,Se];refine aT.new (by simp) (by rw[ab Za.symm,ag];rfl) ?_;rw[aM];refine⟨Za.symm,?_⟩;cases h:U TE with
   |none=>rfl
   |some o=>rw[Vn.1 _ _ (Js _ _ h)]at f29;cases f29
 .rintro Z' ⟨v,J2,Js,Jo⟩;rw[List.length_map,List.take_length]at Jo;have Ve:v.cells=[v]:=by rcases Jo with⟨rfl,_⟩|⟨_,rfl,_⟩<;>rfl
  refine ad.mix 5 ?_;apply sR;simp only[go_sem,seval,S2,J2,Ve];refine⟨_,_,aa.refl _,Wk.refl (aa.refl _) _,Js,?_⟩;rcases Jo with h|⟨id,h1,h2,h3⟩
  .exact .inl h
  .exact .inr ⟨id,h1,h2,(aM.1 h3).2⟩
 .intro id h;cases h
 .rintro pre Z' _ ⟨⟩
def vC{g:FuncId}{caps:List V}{xs:List Int}(WM:Iter prog g caps (xs.map λn=>[vI n]))(hx:xs.length<=1000000):
 aV prog 214 [.fn g caps] (bn xs):=λU=>by
 refine QP.r (by simp[MB]) ?_;refine ad.mix 3 ?_;apply sR;simp only[go_sem,seval,MB];refine ad.call rfl rfl rfl (x7 WM hx U) ?_;rintro r Z1 ⟨h1,h2⟩;apply sR;simp only[go_sem,seval];exact h2.Et h1 rfl
def Vu(l:List Nd)(a:Nat):List Int:=WG l (l.length+1) (eQ l a)
def iR(l:List Nd):∀(f:Nat) (p:Int),(WG l f p).length<=f
 |0,_=>by simp[WG]
 |f+1,p=>by
  rw[WG];split
  .have:=iR l f (eQ l p.toNat);simp only[List.length_cons];omega
  .simp
def LJ{l:List Nd}(hb:So l=true){a:Nat}(ha:a<l.length):Vu l a=gG l a a:=vD hb _ _ ha (by have:=fW l a;omega)
def zx(l:List Nd)(hl:dH l)(hb:So l=true)(hn:l.length<=100000)(a:Nat)(ha:a<l.length):aV prog 159 [aK l,vI a] (bn (Vu l a)):=λU=>by
 refine Pu.r (by simp[JW]) ?_;refine ad.mix 5 ?_;apply sR;simp only[go_sem,seval,JW];refine ad.aB rfl rfl rfl (Bo l hl hb _) ?_;apply sR;simp only[go_sem,seval];refine ad.aB rfl rfl rfl (xW l a _) ?_;apply sR;simp only[go_sem,seval];refine ad.aB rfl rfl rfl (vC (tw l hl hb a ha) (by have:=iR l (l.length+1) (eQ l a);omega) _) ?_;apply sR;simp only[go_sem,seval];exact ay.same rfl
structure SOk(s:SW):Prop where
 top:0<=s.top/\s.top<=1099511627776
 RT:0<=s.RT/\s.RT<=1099511627776
 RI:0<=s.RI/\s.RI<=1099511627776
 Rx:0<=s.Rx/\s.Rx<=1099511627776
 Sv:0<=s.Sv/\s.Sv<=1099511627776
 R8:0<=s.R8/\s.R8<=1099511627776
 Sh:0<=s.Sh/\s.Sh<=1099511627776
 head:0<=s.head/\s.head<=1099511627776
 before:0<=s.before/\s.before<=4
 after:0<=s.after/\s.after<=4
 inside:0<=s.inside/\s.inside<=1
 clear:0<=s.clear/\s.clear<=3
structure Zb(x:Nd):Prop where
 st:SOk x.st
 kind:x.kind=1\/x.kind=2\/x.kind=3\/x.kind=4
 line:0<=x.line/\x.line<=1099511627776
 space:0<=x.space/\x.space<=1099511627776
 words:∀w∈x.words,1<=w/\w<=1099511627776
 w:0<=x.w/\x.w<=1099511627776
 h:0<=x.h/\x.h<=1099511627776
 side:0<=x.side/\x.side<=2
 text:x.kind=2->0<x.words.length/\1<=x.line
 box:x.kind=3\/x.kind=4->1<=x.w/\1<=x.h
 fl:x.kind=4->1<=x.side
 jV:x.kind≠1->x.st=SW.zero
 Zd:x.kind≠2->x.words=[]
def nD{n a b:Int}:br n a b=true↔a<=n/\n<=b:=by simp[br]
def Gn:SOk SW.zero:=by constructor<;>simp[SW.zero]
def JM{s:SW}(h:s.ok=true):SOk s:=by
 simp only[SW.ok,Ba,nD,mx]at h;constructor<;>omega
def JO{x:Nd}(h:x.ok=true):Zb x:=by
 unfold Nd.ok at h;split at h
 .rename_i hk;simp only[Ba,decide_eq_true_eq]at h;obtain⟨⟨⟨⟨⟨⟨h1,h2⟩,h3⟩,h4⟩,h5⟩,h6⟩,h7⟩:=h;have hw:x.words=[]:=List.eq_nil_of_length_eq_zero h4;exact⟨JM h1,.inl hk,by omega,by omega,by rw[hw];simp,by omega,by omega,by omega,by omega,by omega,by omega,by omega,λ_=>hw⟩
 .rename_i hk;split at h
  .cases h
  .rename_i RV;have hs:x.st=SW.zero:=Classical.byContradiction RV;have hso:SOk x.st:=by rw[hs];exact Gn
   split at h
   .rename_i UK;simp only[Ba,decide_eq_true_eq,nD,mx,List.all_eq_true]at h;obtain⟨⟨⟨⟨⟨⟨h1,h2⟩,h3⟩,h4⟩,h5⟩,h6⟩,h7⟩:=h;exact⟨hso,.inr (.inl UK),by omega,by omega,h1,by omega,by omega,by omega,λ_=>⟨h2,h3.1⟩,by omega,by omega,λ_=>hs,by omega⟩
   .rename_i UK;simp only[Ba,Bool.or_eq_true,decide_eq_true_eq,nD,mx]at h;obtain⟨⟨⟨⟨⟨h1,h2⟩,h3⟩,h4⟩,h5⟩,h6⟩:=h;have hw:x.words=[]:=List.eq_nil_of_length_eq_zero h3;exact⟨hso,by omega,by omega,by omega,by rw[hw];simp,by omega,by omega,by omega,by omega,by omega,by omega,λ_=>hs,λ_=>hw⟩
def gr{l:List Nd}(hb:So l=true){a:Nat}(h:a<l.length):Zb l[a]:=by
 simp only[So,Ba,List.all_eq_true]at hb;exact JO (hb.1 _ (List.getElem_mem h))
open Go.Proofs Go.Proofs.Tryz
structure Rm where
 (x w:Int)
deriving DecidableEq
def j9(r:Rm):V:=.agg [vI r.x,vI r.w]
def cH(l:List Rm):V:=.sl 2 (l.map j9)
def F1(l:List Nd)(a:Nat):Int:=((l[a]?).map λn=>n.st.Sv).getD 0
def nK(r:Rm)(i:Int):Rm:=⟨min (r.x+i) 1099511627776,max (r.w-2*i) 1⟩
def de(l:List Nd):Nat->Nat->Nat->Rm->List Rm
 |0,_,_,_=>[]
 |k+1,a,e,r=>if a<e then r::(de l k (a+1) (a+(Sa l a).toNat) (nK r (F1 l a))++de l k (a+(Sa l a).toNat) e r)else[]
def ld{l:List Nd}{e:Nat}(he:e<=l.length):∀(k a:Nat) (r:Rm),e-a<=k->a<=e->cq l a e=true->(de l k a e r).length=e-a
 |0,a,r,hk,ha,_=>by simp[de];omega
 |k+1,a,r,hk,ha,hr=>by
  rw[de];split
  .rename_i H';obtain⟨h1,h2⟩:=dt he hr (Nat.le_refl a) H';obtain⟨h3,h4⟩:=ej he hr H';have ih:=ld he k (a+(Sa l a).toNat) r (by omega) (by omega) h3;have ih2:=ld (e:=a+(Sa l a).toNat) (by omega) k (a+1) (nK r (F1 l a)) (by omega) (by omega) h4;simp only[List.length_cons,List.length_append];omega
  .simp;omega
def j3{l:List Nd}{e:Nat}(he:e<=l.length):∀(k j a:Nat) (r:Rm),e-a<=k->e-a<=j->cq l a e=true->de l k a e r=de l j a e r
 |0,0,_,_,_,_,_=>rfl
 |0,j+1,a,r,h,_,_=>by rw[de,de,if_neg (by omega)]
 |k+1,0,a,r,_,h,_=>by rw[de,de,if_neg (by omega)]
 |k+1,j+1,a,r,h,h',hr=>by
  rw[de,de];split
  .rename_i H';obtain⟨h1,h2⟩:=dt he hr (Nat.le_refl a) H';obtain⟨h3,h4⟩:=ej he hr H';rw[j3 he k j _ _ (by omega) (by omega) h3,j3 (e:=a+(Sa l a).toNat) (by omega) k j _ _ (by omega) (by omega) h4]
  .rfl
def cJ{U:ai}{l:List Nd}{a:Nat}(h:a<l.length):bQ U 20 (aK l) (.int .i64 a)=some (.rp (.agg (Nd.cells l[a]))):=by
 simp[aK,bQ,h,iz]
def ny(U:ai)(a b c:Nat):ai:=λi=>if i=a\/i=b\/i=c then some ⟨0,0,[]⟩else U i
def fX{U:ai}{a b c i:Nat}:ny U a b c i=none↔i≠a/\i≠b/\i≠c/\U i=none:=by
 unfold ny;split
 .rename_i h;simp;intro h1 h2 h3;simp_all
 .rename_i h;simp only[not_or]at h;simp[h]
structure RmJ(l:List Nd)(Z0:ai)(il io ip:Nat)(rows:List V)(U:ai):Prop where
 rl:U il=some ⟨22,1,[aK l]⟩
 rp:U ip=some ⟨256,1,[.fn 162 [.ptr il 0 0,.ptr io 0 0,.ptr ip 0 0]]⟩
 sub:aa Z0 U
 no:Z0 io=none
 out:∃v,U io=some ⟨204,1,[v]⟩/\aT (ny Z0 il io ip) U 258 2 v rows
def zi(r:Rm):(j9 r).cells=[vI r.x,vI r.w]:=rfl
def zS(r:Rm):(j9 r).stays=true:=rfl
def Rm.ok(r:Rm):Prop:=0<=r.x/\r.x<=1099511627776/\1<=r.w/\r.w<=1099511627776
def wy{r:Rm}(h:r.ok){i:Int}(h0:0<=i):(nK r i).ok:=by
 obtain⟨a,b,c,d⟩:=h;unfold nK Rm.ok;simp only;omega
def Ga{l:List Nd}(hb:So l=true){a:Nat}(h:a<l.length):F1 l a=l[a].st.Sv/\0<=l[a].st.Sv/\l[a].st.Sv<=1099511627776:=by
 refine⟨by simp[F1,h],?_⟩;exact(gr hb h).st.Sv
def Er(l:List Nd)(hl:dH l)(hb:So l=true)(il io ip:Nat)(nlo:il≠io)(nlp:il≠ip)(nop:io≠ip):∀(m a e:Nat) (r:Rm) (rows:List V) (Z0 U:ai),e-a<m->a<=e->e<=l.length->cq l a e=true->r.ok->
 rows.length+(e-a)<=l.length->RmJ l Z0 il io ip rows U->
 aD prog 162 [vI a,vI e,j9 r,.ptr il 0 0,.ptr io 0 0,.ptr ip 0 0] U λq Z'=>q=.RB []/\RmJ l Z0 il io ip (rows++(de l (e-a) a e r).map j9) Z':=by
 intro m
 induction m with
 |zero=>intro a e r rows Z0 U h;omega
 |succ m ih=>?_
 intro a e r rows ZB U hm Xa he hrB hr hlen hJB;have hl1:=hl.1;refine Rg.r (by simp[J9]) ?_;refine ad.mix 11 ?_;apply sR;simp only[go_sem,seval,J9,zi,zS];refine af λi8 Z8 s8 a8 f8=>?_;simp only[go_sem,seval];have no8:io≠i8:=by obtain⟨v,vo,_⟩:=hJB.out;exact aq vo f8
 have fB8:ZB i8=none:=hJB.sub.none f8;obtain⟨Z0,hY0⟩:∃s,s=C' ZB i8 ⟨258,2,[j9 r]⟩:=⟨_,rfl⟩
 have hk8:∀i,ny Z0 il io ip i=none↔i≠i8/\ny ZB il io ip i=none:=λi=>by
  rw[fX,fX,hY0];by_cases h:i=i8
  .subst h;simp[ag]
  .rw[ab h];simp[h]
 have Ta:RmJ l Z0 il io ip rows Z8:=by
  refine⟨s8 _ _ hJB.rl,s8 _ _ hJB.rp,?_,by rw[hY0,ab no8];exact hJB.no,?_⟩
  .intro i o h;rw[hY0]at h;by_cases hi:i=i8
   .subst hi;rw[ag]at h;rw[a8];exact h
   .rw[ab hi]at h;exact s8 _ _ (hJB.sub _ _ h)
  .obtain⟨v,vo,TZ⟩:=hJB.out;refine⟨v,s8 _ _ vo,?_⟩;rcases TZ with h|⟨id,h1,h2,h3⟩
   .exact .inl h
   .exact .inr ⟨id,h1,s8 _ _ h2,(hk8 id).2 ⟨aq h2 f8,h3⟩⟩
 have hback:∀(rows:List V) (J:ai),RmJ l Z0 il io ip rows J->RmJ l ZB il io ip rows J:=λrows J h=>by
  refine⟨h.rl,h.rp,λi o hi=>h.sub _ _ (by rw[hY0,ab (λe=>by rw[e,fB8]at hi;cases hi)];exact hi),by have:=h.no;rw[hY0,ab no8]at this;exact this,?_⟩;obtain⟨v,vo,TZ⟩:=h.out;refine⟨v,vo,?_⟩;rcases TZ with h|⟨id,h1,h2,h3⟩
  .exact .inl h
  .exact .inr ⟨id,h1,h2,((hk8 id).1 h3).2⟩
 have h08:Z0 i8=some ⟨258,2,[j9 r]⟩:=by rw[hY0];exact ag
 clear hY0;refine ad.loop (λq st=>∃(b:Nat) (done:List V),q=e-b/\a<=b/\b<=e/\cq l b e=true/\done.length+(e-b)<=l.length/\rows++(de l (e-a) a e r).map j9=done++(de l (e-b) b e r).map j9/\RmJ l Z0 il io ip done st.U/\
  st.s 1=vI e/\st.s 3=.ptr il 0 0/\st.s 4=.ptr io 0 0/\st.s 5=.ptr ip 0 0/\st.s 8=.ptr i8 0 0/\st.s 9=vI b) (e-a) ?_ ?_
 .exact⟨a,rows,rfl,Nat.le_refl _,Xa,hrB,hlen,rfl,Ta,rfl,rfl,rfl,rfl,rfl,rfl⟩
 .rintro q ⟨S,J⟩ ⟨b,done,rfl,WA,ZW,hbB,hdl,X8,hJ,t1,t3,t4,t5,t8,t9⟩;simp only at hJ t1 t3 t4 t5 t8 t9;refine ad.mix 11 ?_;by_cases H':b<e
  .have q1:((b:Int)<(e:Int))=True:=eq_true (by omega);obtain⟨h1,h2⟩:=dt he hbB (Nat.le_refl b) H';obtain⟨h3,h4⟩:=ej he hbB H';have SD:b<l.length:=by omega
   obtain⟨g1,g2,g3⟩:=Ga hb SD;have TF:=lf SD;obtain⟨v,vo,TZ⟩:=hJ.out;have Ve:v.cells=[v]:=by rcases TZ with⟨rfl,_⟩|⟨_,rfl,_⟩<;>rfl
   have r8:=hJ.sub _ _ h08;have r8':=r8;rw[j9]at r8';apply sR;simp only[go_sem,seval,q1,t1,t3,t4,t5,t8,t9,r8',vo,Ve];refine af λi24 Z24 s24 a24 f24=>?_;obtain⟨RN,Th,VD⟩:=TZ.DQ s24;have Sx:(done.length+1)*17<=140737488355328:=by omega
   simp only[go_sem,seval,t1,t3,t4,t5,t8,t9,Th,dT a24,Sx];rw[aO];intro i25 f25;have f25:Z24 i25=none:=f25;have U0:∀(i:Nat) (Zx:ai),ny Z0 il io ip i≠none->Vc.bK Zx RN i=Zx i:=λi Zx hk=>by
    cases RN with
    |none=>rfl
    |some a=>exact dK (λe=>hk (by rw[e];exact(VD a rfl).1))
   have kl:ny Z0 il io ip il≠none:=λh=>(fX.1 h).1 rfl;have ko:ny Z0 il io ip io≠none:=λh=>(fX.1 h).2.1 rfl;have kp:ny Z0 il io ip ip≠none:=λh=>(fX.1 h).2.2.1 rfl;have ol:=s24 _ _ hJ.rl;have oo:=s24 _ _ vo;have op:=s24 _ _ hJ.rp;have o8:=s24 _ _ r8;have nl:=aq ol f25;have no:=aq oo f25;have np:=aq op f25;have n8:=aq o8 f25;have k8:ny Z0 il io ip i8≠none:=λh=>((hk8 i8).1 h).1 rfl;have hsub25:aa Z0 (C' (Vc.bK Z24 RN) i25 ⟨258,2,done++[.agg [vI r.x,vI r.w]]⟩):=λi o h=>by
    have h1:=s24 _ _ (hJ.sub _ _ h);rw[ab (aq h1 f25),U0 _ _ (λhk=>by rw[(fX.1 hk).2.2.2]at h;cases h)];exact h1
   have pl:(C' (Vc.bK Z24 RN) i25 ⟨258,2,done++[.agg [vI r.x,vI r.w]]⟩) il=some ⟨22,1,[aK l]⟩:=by rw[ab nl,U0 _ _ kl];exact ol
   have po:(C' (Vc.bK Z24 RN) i25 ⟨258,2,done++[.agg [vI r.x,vI r.w]]⟩) io=some ⟨204,1,[v]⟩:=by rw[ab no,U0 _ _ ko];exact oo
   have pp:(C' (Vc.bK Z24 RN) i25 ⟨258,2,done++[.agg [vI r.x,vI r.w]]⟩) ip=some ⟨256,1,[.fn 162 [.ptr il 0 0,.ptr io 0 0,.ptr ip 0 0]]⟩:=by rw[ab np,U0 _ _ kp];exact op
   have p25:(C' (Vc.bK Z24 RN) i25 ⟨258,2,done++[.agg [vI r.x,vI r.w]]⟩) i25=some ⟨258,2,done++[.agg [vI r.x,vI r.w]]⟩:=ag;have f0:Z0 i25=none:=(hJ.sub.trans s24).none f25;have Rv:=λU=>cJ (U:=U) SD;have q2:((b:Int)+1)=((b+1:Nat):Int):=by omega
   have q3:((b:Int)+l[b].size)=((b+(Sa l b).toNat:Nat):Int):=by rw[TF];omega
   obtain⟨rx0,rx1,rw0,rw1⟩:=id hr;have r1:RM .i64 ((b:Int)+1):=ao (by omega) (by omega);have r2:RM .i64 ((b:Int)+l[b].size):=ao (by omega) (by omega);have r3:RM .i64 (r.x+l[b].st.Sv):=ao (by omega) (by omega);have r4:RM .i64 (2*l[b].st.Sv):=ao (by omega) (by omega);have r5:RM .i64 (r.w-2*l[b].st.Sv):=ao (by omega) (by omega);generalize C' (Vc.bK Z24 RN) i25 ⟨258,2,done++[.agg [vI r.x,vI r.w]]⟩=Z25 at*;have p8:=hsub25 _ _ h08;rw[j9]at p8;simp only[go_sem,seval,t1,t3,t4,t5,t8,t9,pl,po,pp,p8,Ve,ae,ax,ab no8.symm,ab nlo,ab nlp.symm,ab nop.symm,ab nop,Rv,Nd.cells,r1,r2,r3,r4,r5,dg,e8];have TA:RmJ l Z0 il io ip (done++[.agg [vI r.x,vI r.w]]) (C' Z25 io ⟨204,1,[.own i25 0 (done.length+1)]⟩):=by
    refine⟨by rw[ab nlo];exact pl,by rw[ab nop.symm];exact pp,hsub25.aE hJ.no,hJ.no,_,ag,aT.new (by simp) (by rw[ab no.symm];exact p25) (fX.2 ⟨nl.symm,no.symm,np.symm,f0⟩)⟩
   have hc:=ih (b+1) (b+(Sa l b).toNat) (nK r l[b].st.Sv) (done++[.agg [vI r.x,vI r.w]]) Z0 _ (by omega) (by omega) (by omega) h4 (wy hr g2) (by simp only[List.length_append,List.length_cons,List.length_nil];omega) TA;rw[<-q2,<-q3]at hc;refine ad.call rfl rfl rfl hc ?_;rintro q' Z' ⟨rfl,T0⟩;have cl:=T0.rl;apply sR;simp only[go_sem,seval,t1,t3,t4,t5,t8,t9,cl,ae,ax,Rv,Nd.cells,r2];have hk:de l (e-b) b e r=r::(de l (b+(Sa l b).toNat-(b+1)) (b+1) (b+(Sa l b).toNat) (nK r (F1 l b))++de l (e-(b+(Sa l b).toNat)) (b+(Sa l b).toNat) e r):=by
    rw[show e-b=(e-b-1)+1 by omega,de,if_pos H',j3 (by omega) (e-b-1) _ _ _ (by omega) (Nat.le_refl _) h4,j3 he (e-b-1) _ _ _ (by omega) (Nat.le_refl _) h3]
   have Vd:=ld (l:=l) (e:=b+(Sa l b).toNat) (by omega) (b+(Sa l b).toNat-(b+1)) (b+1) (nK r l[b].st.Sv) (Nat.le_refl _) (by omega) h4;refine⟨e-(b+(Sa l b).toNat),by omega,b+(Sa l b).toNat,_,rfl,by omega,by omega,h3,?_,?_,T0,by simp[t1,t3,t4,t5,t8,q3]⟩
   .simp only[List.length_append,List.length_cons,List.length_nil,List.length_map,Vd];omega
   .rw[X8,hk,g1];simp only[List.map_cons,List.map_append,List.append_assoc,List.cons_append,List.nil_append];rfl
  .have q1:((b:Int)<(e:Int))=False:=eq_false (by omega);apply sR;simp only[go_sem,seval,q1,t1,t3,t4,t5,t8,t9];refine⟨_,_,aa.refl _,Wk.refl (aa.refl _) _,rfl,?_⟩;have hz:de l (e-b) b e r=[]:=by rw[show e-b=0 by omega];rfl
   rw[X8,hz];exact hback _ _ (by simpa using hJ)
def Hv(l:List Nd)(hl:dH l)(hb:So l=true)(w:Int)(h1:1<=w)(h2:w<=1099511627776):aV prog 106 [aK l,vI w] (cH (de l l.length 0 l.length ⟨0,w⟩)):=λU=>by
 refine Pv.r (by simp[JG]) ?_;have hs:=aa.refl U;refine ad.mix 8 ?_;apply sR;simp only[go_sem,seval,JG,ae,ax];refine af λi2 Z2 s2 a2 f2=>?_;have z2:=hs.none f2;replace hs:=hs.trans s2;simp only[go_sem,seval,a2,ae,ax];refine ad.aB rfl rfl rfl (Bo l hl hb _) ?_;apply sR;simp only[go_sem,seval,a2,ae,ax];refine af λi5 Z5 s5 a5 f5=>?_;have ZR:=aq a2 f5;replace a2:=s5 _ _ a2;have z5:=hs.none f5;replace hs:=hs.trans s5;have q1:(w<1)=False:=eq_false (by omega);have q2:(w>1099511627776)=False:=eq_false (by omega);simp only[go_sem,seval,a5,a2,ae,ax,q1,q2,ab ZR,ab ZR];generalize Ui:C' Z5 i5 _=Y5;have b5:Y5 i5=some ⟨254,1,[.agg [aK l]]⟩:=by rw[<-Ui];exact ag
 have b2:Y5 i2=some ⟨22,1,[aK l]⟩:=by rw[<-Ui,ab ZR];exact a2
 have VM:aa U Y5:=by rw[<-Ui];exact hs.aE z5
 have Uh:aa Y5 Y5:=aa.refl _;clear Ui;refine af λi6 Z6 s6 a6 f6=>?_;have c5:=s6 _ _ b5;have c2:=s6 _ _ b2;have z6:U i6=none:=VM.none f6;simp only[go_sem,seval];refine af λi7 Z7 s7 a7 f7=>?_;have d5:=s7 _ _ c5;have d2:=s7 _ _ c2;have d6:=s7 _ _ a6;have z7:U i7=none:=(VM.trans s6).none f7;have n57:=aq c5 f7;have n27:=aq c2 f7;have V7:=aq a6 f7;have n26:=aq b2 f6;have hn:=fj l;have Xv:V.RQ.cells=[.RQ]:=rfl;simp only[go_sem,seval,a7,Xv,d5,d2,d6,ab n57,ab n27,ab V7,hn,ae,ax];have hJ:RmJ l U i2 i6 i7 [] (C' Z7 i7 ⟨256,1,[.fn 162 [.ptr i2 0 0,.ptr i6 0 0,.ptr i7 0 0]]⟩):=
  ⟨by rw[ab n27];exact d2,ag,(((VM.trans s6).trans s7)).aE z7,z6,.aC,by rw[ab V7];exact d6,aT.start⟩
 have hc:=Er l hl hb i2 i6 i7 n26 n27 V7 (l.length+1) 0 l.length ⟨0,w⟩ [] U _ (by omega) (by omega) (by omega) (by simp only[So,Ba]at hb;exact hb.2) ⟨by simp,by simp,h1,h2⟩ (by simp) hJ;refine ad.call rfl rfl rfl hc ?_;rintro q Z' ⟨rfl,T0⟩;obtain⟨v,vo,TZ⟩:=T0.out;have Ve:v.cells=[v]:=by rcases TZ with⟨rfl,_⟩|⟨_,rfl,_⟩<;>rfl
 apply sR;simp only[go_sem,seval,vo,Ve];have ho:aT U Z' 258 2 v ((de l l.length 0 l.length ⟨0,w⟩).map j9):=by
  rcases TZ with⟨h,h'⟩|⟨id,h1,h2,h3⟩
  .exact .inl ⟨h,by simpa using h'⟩
  .exact .inr ⟨id,by simpa using h1,by simpa using h2,(fX.1 h3).2.2.2⟩
 exact ho.Et T0.sub rfl
section
variable {P:Program} {n:Nat}
def ad.ND{st:St}{Q:St->Prop}{k:List It}{i:aN}{l:List aN}{xa:VX}(hw:bu st.s i.g=some true)(ho:i.op=.Ts false xa (.c (.iface 0 .undef))){b:Bool}
 (hx:(xa.ev st.s=.aC/\b=true)\/(∃sz r rows,xa.ev st.s=.sl sz (r::rows)/\b=false)\/∃id off m,xa.ev st.s=.own id off (m+1)/\b=false)
 (h:ad P n (.ops l::k) ⟨aX st.s i.dst (.bool b),st.U⟩ Q):ad P n (.ops (i::l)::k) st Q:=by
 refine ad.ins (by rw[ho];simp) hw λF hn I a w o all hi hs next Q' RL=>?_
 subst hn;obtain⟨RH,hd⟩:=eF hi;rw[ho]at RH;obtain⟨t,x,y,m,c,yt,e,g1,rfl,g2,rfl⟩:=yL RH;have R:=cM hs x;have hX:∃ba len cap,a.eval x=.slice ba len cap/\ba.isNone=b:=by
  rcases hx with⟨hx,rfl⟩|⟨sz,r,rows,hx,rfl⟩|⟨id,off,m,hx,rfl⟩
  .rw[hx]at R;simp only[E']at R;exact⟨none,0,0,R,rfl⟩
  .rw[hx]at R;simp only[E']at R;obtain⟨ba,cap,hX,_,hr⟩:=R;rcases hr with hr|⟨b,off,rfl,_⟩
   .cases hr
   .exact⟨_,_,_,hX,rfl⟩
  .rw[hx]at R;simp only[E']at R;split at R
   .exact R.elim
   .exact absurd R.2.2 (by omega)
   .obtain⟨o,c,hX,_⟩:=R;exact⟨_,_,_,hX,rfl⟩
 obtain⟨ba,len,cap,hX,rfl⟩:=hX;have Sf:(execOp a.eval o).run P w=.ok (.value (.bool ba.isNone)) w:=by
  unfold execOp;rw[g1];have hY:a.eval (.const (.slice none m c))=.slice none m c:=rfl;simp[hX,hY,eqGuard,Lib.run_eql_slice_nil w t e ba len cap m c g2]
 unfold Oper.wp;rw[Sf];refine RL _ _ _ ⟨I,?_⟩ h;rw[<-hd];exact hs.pure (by simp[E'])
end
open Go.Proofs Go.Proofs.Tryz
def uL(U:ai)(v v':V):Prop:=∀J,aa U J->Wk J jV v v'
def uL.mono{U J:ai}{v v':V}(h:uL U v v')(hs:aa U J):uL J v v':=λX' h'=>h X' (hs.trans h')
def uL.at{U:ai}{v v':V}(h:uL U v v'):Wk U jV v v':=h U (aa.refl _)
def aT.Gh{K U:ai}{e sz:Nat}{v:V}{rows:List V}(h:aT K U e sz v rows):uL U v (.sl sz rows):=λJ hs=>(h.mono hs).wk (oV _) (oV _)
def Uy{J:ai}(v:V):Wk J jV v v:=Wk.refl (oV _) _
def GC(vf:V){U:ai}(fs:List P')(hvf:uL U vf (aH fs))(ws:List Int)(space high:Int)(y:Int)(s:Sz)(hl:fs.length<=1000000)(RC:∀f∈fs,f.ok)(B:Int)(hB:∀f∈fs,f.y+f.h<=B)(hB1:B<=1152921504606846976)(ZX:0<=y)(hy:y<=B)(hh:0<=high)(hh1:high<=1099511627776)
 (TI:Ty s.a/\Ty s.b)(hw:WOk ws space):aD prog 219 [vf,bn ws,vI space,vI high,vI y,aZ s] U λr Z'=>aa U Z'/\aT U Z' 294 5 r ((dM fs ws space high s ws.length 0 y).map l5):=by
 refine Qi.r (by simp[JE]) ?_;have hs:=aa.refl U;have hn:=fG ws;have Vd:=hw.len;refine ad.mix 16 ?_;apply sR;simp only[go_sem,seval,JE,aZ];refine af λTz ZS VO Vs f11=>?_;have z11:=hs.none f11;replace hs:=hs.trans VO;simp only[go_sem,seval,Vs];generalize hG:dM fs ws space high s ws.length 0 y=G;refine ad.loop (λm st=>∃(i k:Nat) (y':Int) (acc:List Ln),m=ws.length-i/\i<=ws.length/\ws.length-i<=k/\acc.length<=i/\G=acc++dM fs ws space high s k i y'/\0<=y'/\y'<=B+1099511627776*i/\aa U st.U/\aT U st.U 294 5 (st.s 13) (acc.map l5)/\
  st.U Tz=some ⟨288,2,[.agg [vI s.a,vI s.b]]⟩/\st.s 0=vf/\st.s 1=bn ws/\st.s 2=vI space/\st.s 3=vI high/\st.s 4=vI y'/\st.s 11=.ptr Tz 0 0/\st.s 14=vI i) ws.length ?_ ?_
 .exact⟨0,ws.length,y,[],rfl,by omega,by omega,by simp,hG.symm,ZX,by omega,hs,aT.start,Vs,rfl,rfl,rfl,rfl,rfl,rfl,rfl⟩
 .rintro m ⟨S,J⟩ ⟨i,k,y',acc,rfl,hi,hk,Up,hg,hy1,hy2,G',TZ,b11,t0,t1,t2,t3,t4,t11,t14⟩;simp only at G' TZ b11 t0 t1 t2 t3 t4 t11 t14;generalize XR:S 13=v13 at TZ;refine ad.mix 16 ?_;by_cases H':i<ws.length
  .have q:((i:Int)<ws.length)=True:=eq_true (by omega);obtain⟨k,rfl⟩:∃k',k=k'+1:=⟨k-1,by omega⟩
   rw[dM,if_pos H']at hg;have W1:=zB (space:=space) (width:=jt (dX fs (kS fs (ws.getD i 0) high s y') high s)) H';have hyr:=fV (w:=ws.getD i 0) (high:=high) (y:=y') (s:=s) hB;have hx:=Iu fs ws space high i y' s hl RC ⟨by omega,by omega⟩ ⟨by omega,by omega⟩ TI hw H';obtain⟨x,YV⟩:∃x,x=nv fs ws space high i y' s:=⟨_,rfl⟩
   have x1:∃j:Nat,x.to=j/\i<j/\j<=ws.length:=by rw[YV];exact⟨_,rfl,W1⟩
   have x2:y'<=x.y/\x.y<=max y' B:=by rw[YV];exact hyr
   rw[<-YV]at hg hx;clear YV W1 hyr;obtain⟨j,hj,hij,V6⟩:=x1;rw[hj,Int.toNat_natCast]at hg;apply sR;simp only[go_sem,seval,t0,t1,t2,t3,t4,t11,t14,b11,hn,q];refine ad.aB rfl rfl rfl (aV.uP (args':=[aH fs,bn ws,vI space,vI high,vI i,vI y',aZ s]) ⟨(hvf.mono G').at,Uy _,Uy _,Uy _,Uy _,Uy _,Uy _,trivial⟩ hx rfl) ?_;have hc:=yW x;have RV:=AF x;have SJ:(l5 x).cells.length=5:=rfl;have WH:V.agg [vI x.fr,vI x.to,vI x.x,vI x.y,vI x.w]=l5 x:=rfl;apply sR;simp only[go_sem,seval,t0,t1,t2,t3,t4,t11,t14,XR,hc,RV];refine af λZw Y15 s15 Xj f15=>?_;simp only[go_sem,seval,Xj,t0,t1,t2,t3,t4,t11,t14,XR,hc,SJ,RV,WH];generalize Ux:C' Y15 Zw _=Z15;have b15:Z15 Zw=some ⟨294,5,[.agg [vI x.fr,vI x.to,vI x.x,vI x.y,vI x.w]]⟩:=by rw[<-Ux];exact ag
   have s15':aa J Z15:=by rw[<-Ux];exact s15.aE f15
   clear Ux;refine af λZY Z30 s30 a30 f30=>?_;obtain⟨RN,Th,SQ,ZA,XK⟩:=TZ.Be (s15'.trans s30);have Sx:(acc.length+1)*41<=140737488355328:=by omega
   have WT:(acc.map l5).length=acc.length:=by simp
   simp only[go_sem,seval,t0,t1,t2,t3,t4,t11,t14,XR,Th,dT a30,WT,Sx];refine ga λi31 Z31 s31 a31 f31=>?_;have k31:=(SQ U (aa.refl _) Z30 (G'.trans (s15'.trans s30))).trans s31;have n31:U i31=none:=(G'.trans (s15'.trans s30)).none f31;have c15:Z31 Zw=some ⟨294,5,[.agg [vI x.fr,vI x.to,vI x.x,vI x.y,vI x.w]]⟩:=s31 _ _ (by rw[XK Zw f15];exact s30 _ _ b15);have c11:Z31 Tz=some ⟨288,2,[.agg [vI s.a,vI s.b]]⟩:=s31 _ _ (by rw[ZA Tz _ b11 (.inr (by simp))];exact s30 _ _ (s15' _ _ b11));have r1:RM .i64 (x.y+high):=ao (by omega) (by omega);simp only[go_sem,seval,t0,t1,t2,t3,t4,t11,t14,c15,hj,r1];refine⟨_,?_,j,k,x.y+high,acc++[x],rfl,V6,by omega,by simp;omega,by rw[hg];simp,by omega,by omega,k31,?_,c11,by simp[t0,t1,t2,t3,t11]⟩
   .omega
   .rw[List.map_append];exact aT.new (by simp) a31 n31
  .have q:((i:Int)<ws.length)=False:=eq_false (by omega);apply sR;simp only[go_sem,seval,t0,t1,t2,t3,t4,t11,t14,XR,b11,hn,q];have:dM fs ws space high s k i y'=[]:=by
    cases k with
    |zero=>rfl
    |succ k=>rw[dM,if_neg H']
   rw[this,List.append_nil]at hg;refine⟨_,_,aa.refl _,Wk.refl (aa.refl _) _,G',?_⟩;rw[hg];exact TZ
def zl{P:Program}{f:FuncId}{fn:Func}(hf:P.funcs[f]?=some fn){e sz b:Nat}(hc:cfn P fn=some (mB e sz b))(hk:eG P f=true){K U:ai}{v:V}{rows:List V}(hv:aT K U e sz v rows)(R6:rows=[]->v=.aC)(hb:rows.length*(b+1)<=140737488355328):
 aD P f [v] U λr Z'=>aa U Z'/\aT U Z' e sz r rows:=by
 refine aD.kc hf hc hk (by simp[mB]) ?_;refine ad.mix 3 ?_;rcases hv with⟨rfl,rfl⟩|⟨id,rfl,ho,_⟩
 ·(refine ad.bN TJ.nothing 8 ?_;simp only[go_sem,seval,nI,mB])
  refine ad.ND rfl rfl (b:=true) (.inl ⟨rfl,rfl⟩) ?_;apply sR;simp only[go_sem,seval];exact⟨_,_,aa.refl _,Wk.refl (aa.refl _) _,aa.refl _,aT.start⟩
 .obtain⟨m,hm⟩:∃m,rows.length=m+1:=by
   cases rows with
   |nil=>exact absurd (R6 rfl) (by simp)
   |cons r rs=>exact⟨rs.length,by simp⟩
  (refine ad.bN TJ.nothing 8 ?_;simp only[go_sem,seval,nI,mB])
  refine ad.ND rfl rfl (b:=false) (.inr (.inr ⟨id,0,m,by rw[hm];rfl,rfl⟩)) ?_;apply sR;simp only[go_sem,seval];refine af λU4 Z1 s1 a1 f1=>?_;obtain⟨RN,hd,SQ⟩:=(aT.new (K:=U) (e:=e) (sz:=sz) (n:=0) (rows:=[]) rfl a1 f1).dst (aa.refl _);have Yq:bR Z1 sz (.own id 0 rows.length)=some rows:=by simp[bR,s1 _ _ ho]
  simp only[go_sem,seval,hd,Yq,hb];refine ga λWC Z2 s2 a2 f2=>?_;have Uh:=(SQ U (aa.refl _) Z1 s1).trans s2;simp only[go_sem,seval];exact⟨_,_,aa.refl _,Wk.refl (aa.refl _) _,Uh,aT.new (by simp) a2 (s1.none f2)⟩
def Hu(vf:V){K U:ai}(fs:List P')(hvf:aT K U 150 7 vf (fs.map aQ))(R6:fs=[]->vf=.aC)(f:P')(y:Int)(s:Sz)(hl:fs.length<=1000000)(RC:∀f∈fs,f.ok)(hy:Ty y)(hh:Bq f.h)(hw:Bq f.w)(TI:Ty s.a/\Ty s.b):
 aD prog 223 [vf,aQ f,vI y,aZ s] U λr Z'=>aa U Z'/\aT U Z' 150 7 r ((tB fs f y s).map aQ):=by
 refine OY.r (by simp[LW]) ?_;have hs:=aa.refl U;refine ad.mix 14 ?_;apply sR;simp only[go_sem,seval,LW,aQ,aZ];refine af λi5 Z5 s5 a5 f5=>?_;have z5:=hs.none f5;replace hs:=hs.trans s5;simp only[go_sem,seval,a5];refine af λi7 Z7 s7 a7 f7=>?_;have n57:=aq a5 f7;replace a5:=s7 _ _ a5;have z7:=hs.none f7;replace hs:=hs.trans s7;simp only[go_sem,seval,a7,a5];refine ad.aB rfl rfl rfl (aV.uP (args':=[aH fs,aQ f,vI y,aZ s]) ⟨((hvf.mono hs).Gh).at,Uy _,Uy _,Uy _,trivial⟩ (M5 fs f y s hl RC hy hh hw TI) rfl) ?_;apply sR;simp only[go_sem,seval,a7,a5,ab n57,ab n57.symm,di];generalize Ui:C' Z7 i5 _=Y5;have b5:Y5 i5=some ⟨150,7,[aQ (jM fs f y s)]⟩:=by rw[<-Ui];exact ag
 have VM:aa U Y5:=by rw[<-Ui];exact hs.aE z5
 clear Ui;have VK:aQ (jM fs f y s)=.agg [vI f.node,vI f.side,vI f.anchor,vI (oL fs f y s),vI (kL fs f y s),vI f.w,vI f.h]:=rfl;rw[VK]at b5;have WT:(fs.map aQ).length=fs.length:=by simp
 have Sx:(fs.length+1)*57<=140737488355328:=by omega
 have Wy:fs.map aQ++[V.agg [vI f.node,vI f.side,vI f.anchor,vI (oL fs f y s),vI (kL fs f y s),vI f.w,vI f.h]]=(tB fs f y s).map aQ:=by simp[tB,<-VK]
 have hne':fs.map aQ=[]->vf=.aC:=λh=>R6 (by simpa using h);refine ad.Dl (by kernel_rfl) 8 (.fork [[],[0],[],[2],[1,3,0,2],[4,0,1,2,3]] [0,2] [1,3] [(.leaf [[],[0],[],[1,0,2],[1,0,3,2],[1,0,4,2,3]] [1,3,4,5]),(.leaf [[],[3,2,0],[],[2],[3,2,1,0],[3,2,4,0,1]] [3,1,4,5])]) (by kernel_rfl) ?_;refine GT.o9 (its:=[0,4]) (by kernel_rfl) ?_;refine RE.SC (n:=0) [] [0,4] [⟨(.some 19),(.RJ (.t 0)),.none⟩,⟨(.some 21),(.load .true 7 (.t 5)),.none⟩] rfl rfl ?_;apply sG;simp only[go_sem,seval,b5];refine⟨?_,?_⟩
 .refine GT.iK (its:=[2,5,6,8,10]) (by kernel_rfl) ?_;refine RE.call rfl rfl rfl rfl rfl (zl func62 (e62.b.trans rfl) e62.c (hvf.mono VM) hne' (by simp;omega)) ?_;rintro r Z3 ⟨s3,TZ⟩;replace b5:=s3 _ _ b5;have hs3:=VM.trans s3;refine RE.SX rfl rfl rfl rfl rfl trivial (by simp only[go_sem,seval,b5]) ?_;refine RE.SC (n:=0) [] [6,8,10] [⟨(.some 22),(.bp 150 7 [(.t 21)]),.none⟩,⟨(.some 23),(.append 150 7 56 (.t 20) (.t 22)),.none⟩,⟨(.some 8),(.RJ (.t 23)),.none⟩] rfl rfl ?_;apply sG;simp only[go_sem,seval,b5];refine bw λi9 Z9 s9 a9 f9=>?_;obtain⟨RN,Th,SQ⟩:=TZ.dst s9;simp only[go_sem,seval,Th,dT a9,WT,Sx,Wy];refine ju λSb WO TV Sg f10=>?_;have Xh:=(SQ U VM Z9 (hs3.trans s9)).trans TV;have n10:U Sb=none:=(hs3.trans s9).none f10;simp only[go_sem,seval];apply sR;simp only[go_sem,seval];exact⟨_,_,aa.refl _,Wk.refl (aa.refl _) _,Xh,aT.new (by simp[tB]) Sg n10⟩
 .refine GT.iK (its:=[6,2,8,10]) (by kernel_rfl) ?_;refine RE.SC (n:=0) [2,8,10] [6] [⟨(.some 22),(.bp 150 7 [(.t 21)]),.none⟩] rfl rfl ?_;apply sG;simp only[go_sem,seval,b5];refine bw λi9 Z9 s9 a9 f9=>?_;simp only[go_sem,seval];refine RE.call rfl rfl rfl rfl rfl (zl func62 (e62.b.trans rfl) e62.c (hvf.mono (VM.trans s9)) hne' (by simp;omega)) ?_;rintro r Z3 ⟨s3,TZ⟩;have a9':=s3 _ _ a9;obtain⟨RN,Th,SQ⟩:=TZ.dst (aa.refl _);refine RE.SC (n:=0) [] [8,10] [⟨(.some 23),(.append 150 7 56 (.t 20) (.t 22)),.none⟩,⟨(.some 8),(.RJ (.t 23)),.none⟩] rfl rfl ?_;apply sG;simp only[go_sem,seval,Th,dT a9',WT,Sx,Wy];refine ju λSb WO TV Sg f10=>?_;have Xh:=(SQ U (VM.trans s9) Z3 ((VM.trans s9).trans s3)).trans TV;have n10:U Sb=none:=((VM.trans s9).trans s3).none f10;simp only[go_sem,seval];apply sR;simp only[go_sem,seval];exact⟨_,_,aa.refl _,Wk.refl (aa.refl _) _,Xh,aT.new (by simp[tB]) Sg n10⟩
open Go.Proofs Go.Proofs.Tryz
structure Sk where
 (kind node fr to x y w h:Int)
deriving DecidableEq
def cF(a:Sk):V:=.agg [vI a.kind,vI a.node,vI a.fr,vI a.to,vI a.x,vI a.y,vI a.w,vI a.h]
def bl(l:List Sk):V:=.sl 8 (l.map cF)
structure WS where
 atoms:List Sk
 B':List P'
 Rw:Int
 RK:Pn
structure Uq(l:List Nd)(rs:List Rm)(Z0:ai)(iw:Nat)(s:WS)(U:ai):Prop where
 sub:aa Z0 U
 no:Z0 iw=none
 row:∃va vf,U iw=some ⟨209,7,[.agg [va,vf,vI s.Rw,vI s.RK.y,vI s.RK.m,aK l,cH rs]]⟩/\
  aT (bg Z0 iw) U 137 8 va (s.atoms.map cF)/\aT (bg Z0 iw) U 150 7 vf (s.B'.map aQ)/\(s.B'=[]->vf=.aC)
def az(l:List Rm):(cH l).cells=[cH l]:=rfl
def xM(l:List Rm):(cH l).stays=true:=rfl
def HK{U:ai}{l:List Rm}{i:Nat}(h:i<l.length):bQ U 2 (cH l) (.int .i64 i)=some (.rp (j9 l[i])):=by simp[cH,bQ,h]
def aT.vc{K U:ai}{e sz:Nat}{v:V}{rows:List V}(h:aT K U e sz v rows):v.cells=[v]/\v.stays=true:=by rcases h with⟨rfl,_⟩|⟨_,rfl,_⟩<;>exact⟨rfl,rfl⟩
def eI(rs:List Rm)(a:Nat):Sz:=⟨(rs.getD a ⟨0,0⟩).x,(rs.getD a ⟨0,0⟩).x+(rs.getD a ⟨0,0⟩).w⟩
def zr{l:List Nd}{rs:List Rm}{Z0 U:ai}{iw:Nat}{s:WS}(hJ:Uq l rs Z0 iw s U)(a:Nat)(ha:a<rs.length)(hr:rs[a].ok):
 aD prog 220 [.ptr iw 0 0,vI a] U λr Z'=>r=aZ (eI rs a)/\Z'=U:=by
 obtain⟨va,vf,w1,V9,WU,_⟩:=hJ.row;obtain⟨ca,sa⟩:=V9.vc;obtain⟨cf,sf⟩:=WU.vc;obtain⟨r1,r2,r3,r4⟩:=hr;have Wt:rs.getD a ⟨0,0⟩=rs[a]:=by simp[ha]
 have Rv:=λU=>HK (U:=U) ha;unfold eI;rw[Wt];generalize rs[a]=r at*;have hen:j9 r=.agg [vI r.x,vI r.w]:=rfl;have rr:RM .i64 (r.x+r.w):=ao (by omega) (by omega);refine QL.r (by simp[Kh]) ?_;have hs:=aa.refl U;refine ad.mix 6 ?_;apply sR;simp only[go_sem,seval,Kh];refine af λi4 Z4 s4 a4 f4=>?_;have w4:=s4 _ _ w1;simp only[go_sem,seval,w4,Rv,hen,ca,cf,az,ae];refine af λi5 Z5 s5 a5 f5=>?_;have b4:=s5 _ _ a4;have TL:=aq a4 f5;simp only[go_sem,seval,a5,b4,ab TL,rr];exact ay.pure (((s4.trans s5).aE (s4.none f5)).aE f4) rfl
def qR(a:Sk):(cF a).cells=[vI a.kind,vI a.node,vI a.fr,vI a.to,vI a.x,vI a.y,vI a.w,vI a.h]:=rfl
def qF(a:Sk):(cF a).stays=true:=rfl
def WS.put(s:WS)(a:Sk):WS:={ s with atoms:=s.atoms++[a],RK:=⟨a.y+a.h,0⟩ }
def Em{l:List Nd}{rs:List Rm}{Z0 U:ai}{iw:Nat}{s:WS}(hJ:Uq l rs Z0 iw s U)(a:Sk)(hy:Bq a.y)(hh:Bq a.h)(hn:s.atoms.length<=1000000):
 aD prog 221 [.ptr iw 0 0,cF a] U λr Z'=>r=.RB []/\Uq l rs Z0 iw (s.put a) Z':=by
 obtain⟨va,vf,w1,V9,WU,hf2⟩:=hJ.row;obtain⟨ca,sa⟩:=V9.vc;obtain⟨cf,sf⟩:=WU.vc;refine Rn.r (by simp[Lw]) ?_;refine ad.mix 4 ?_;apply sR;simp only[go_sem,seval,Lw,qR,qF];refine af λi3 Z3 s3 a3 f3=>?_;have w3:=s3 _ _ w1;simp only[go_sem,seval,w3,a3,ca,cf,az,ae,qR,qF];refine bw λTz ZS VO Vs f11=>?_;obtain⟨RN,Th,SQ,ZA,XK⟩:=V9.Be (s3.trans VO);have Sx:(s.atoms.length+1)*65<=140737488355328:=by omega
 have WT:(s.atoms.map cF).length=s.atoms.length:=by simp
 simp only[go_sem,seval,Th,dT Vs,WT,Sx];rw[aP];intro Ti f12;have f12:ZS Ti=none:=f12;have w11:=VO _ _ w3;have nw:=aq w11 f12;have b3:=VO _ _ a3;have n3:=aq b3 f12;have nw3:=aq w1 f3;have hdw:=ZA iw _ w1 (.inr (by simp));have hd3:=XK i3 f3;have cw:(C' (Vc.bK ZS RN) Ti ⟨137,8,s.atoms.map cF++[.agg [vI a.kind,vI a.node,vI a.fr,vI a.to,vI a.x,vI a.y,vI a.w,vI a.h]]⟩) iw=some ⟨209,7,[.agg [va,vf,vI s.Rw,vI s.RK.y,vI s.RK.m,aK l,cH rs]]⟩:=by rw[ab nw,hdw];exact w11
 have c3:(C' (Vc.bK ZS RN) Ti ⟨137,8,s.atoms.map cF++[.agg [vI a.kind,vI a.node,vI a.fr,vI a.to,vI a.x,vI a.y,vI a.w,vI a.h]]⟩) i3=some ⟨137,8,[.agg [vI a.kind,vI a.node,vI a.fr,vI a.to,vI a.x,vI a.y,vI a.w,vI a.h]]⟩:=by rw[ab n3,hd3];exact b3
 have c12:(C' (Vc.bK ZS RN) Ti ⟨137,8,s.atoms.map cF++[.agg [vI a.kind,vI a.node,vI a.fr,vI a.to,vI a.x,vI a.y,vI a.w,vI a.h]]⟩) Ti=some ⟨137,8,s.atoms.map cF++[.agg [vI a.kind,vI a.node,vI a.fr,vI a.to,vI a.x,vI a.y,vI a.w,vI a.h]]⟩:=ag;have G':aa Z0 (C' (Vc.bK ZS RN) Ti ⟨137,8,s.atoms.map cF++[.agg [vI a.kind,vI a.node,vI a.fr,vI a.to,vI a.x,vI a.y,vI a.w,vI a.h]]⟩):=by
  have h1:=SQ Z0 (λi o h=>by rw[bg,if_neg (λe=>by rw[e,hJ.no]at h;cases h)];exact h) ZS ((hJ.sub.trans s3).trans VO);exact h1.aE (((hJ.sub.trans s3).trans VO).none f12)
 have Uf:bg Z0 iw Ti=none:=aM.2 ⟨nw.symm,((hJ.sub.trans s3).trans VO).none f12⟩;have hf3:∀o,aT (bg Z0 iw) (C' (Vc.bK ZS RN) Ti o) 150 7 vf (s.B'.map aQ):=λo=>by
  rcases WU with h|⟨id,h1,h2,h3⟩
  .exact .inl h
  .have h4:=VO _ _ (s3 _ _ h2);exact .inr ⟨id,h1,by rw[ab (aq h4 f12),ZA id _ h2 (.inr (by simp))];exact h4,h3⟩
 replace hf3:=hf3 ⟨137,8,s.atoms.map cF++[.agg [vI a.kind,vI a.node,vI a.fr,vI a.to,vI a.x,vI a.y,vI a.w,vI a.h]]⟩;generalize C' (Vc.bK ZS RN) Ti ⟨137,8,s.atoms.map cF++[.agg [vI a.kind,vI a.node,vI a.fr,vI a.to,vI a.x,vI a.y,vI a.w,vI a.h]]⟩=J at*;simp only[go_sem,seval,cw,ca,cf,az,ae,di];have dw:(C' J iw ⟨209,7,[.agg [.own Ti 0 (s.atoms.length+1),vf,vI s.Rw,vI s.RK.y,vI s.RK.m,aK l,cH rs]]⟩) iw=some ⟨209,7,[.agg [.own Ti 0 (s.atoms.length+1),vf,vI s.Rw,vI s.RK.y,vI s.RK.m,aK l,cH rs]]⟩:=ag;have d3:(C' J iw ⟨209,7,[.agg [.own Ti 0 (s.atoms.length+1),vf,vI s.Rw,vI s.RK.y,vI s.RK.m,aK l,cH rs]]⟩) i3=some ⟨137,8,[.agg [vI a.kind,vI a.node,vI a.fr,vI a.to,vI a.x,vI a.y,vI a.w,vI a.h]]⟩:=by rw[ab nw3.symm];exact c3
 have d12:(C' J iw ⟨209,7,[.agg [.own Ti 0 (s.atoms.length+1),vf,vI s.Rw,vI s.RK.y,vI s.RK.m,aK l,cH rs]]⟩) Ti=some ⟨137,8,s.atoms.map cF++[.agg [vI a.kind,vI a.node,vI a.fr,vI a.to,vI a.x,vI a.y,vI a.w,vI a.h]]⟩:=by rw[ab nw.symm];exact c12
 replace G':=G'.aE hJ.no (o:=⟨209,7,[.agg [.own Ti 0 (s.atoms.length+1),vf,vI s.Rw,vI s.RK.y,vI s.RK.m,aK l,cH rs]]⟩);have hf4:aT (bg Z0 iw) (C' J iw ⟨209,7,[.agg [.own Ti 0 (s.atoms.length+1),vf,vI s.Rw,vI s.RK.y,vI s.RK.m,aK l,cH rs]]⟩) 150 7 vf (s.B'.map aQ):=by
  rcases hf3 with h|⟨id,h1,h2,h3⟩
  .exact .inl h
  .exact .inr ⟨id,h1,by rw[ab (aM.1 h3).1];exact h2,h3⟩
 clear hf3 cw c3 c12;generalize C' J iw ⟨209,7,[.agg [.own Ti 0 (s.atoms.length+1),vf,vI s.Rw,vI s.RK.y,vI s.RK.m,aK l,cH rs]]⟩=Y2 at*;refine ad.rA (by kernel_rfl) [0,1,2,3,4,5,6,7,8,9,10,11,12] [[],[],[1],[1,2],[1,2,3],[],[5],[],[7],[1,2,3,4,5,6,7,8],[0,1,2,3,4,5,6,7,8,9],[0,1,2,3,4,5,6,7,8,9,10],[0,1,2,3,4,5,6,7,8,9,10,11]] [0,2,4,6,8,10,12,14,16,18,20,22,24] (by kernel_rfl) (by kernel_rfl) ?_;refine RE.SC (n:=0) [18,20,22,24] [0,2,4,6,8,10,12,14,16] [⟨(.some 16),(.RJ (.t 0)),.none⟩,⟨(.some 17),(.RJ (.t 0)),.none⟩,⟨(.some 18),(.nilCheck (.t 17)),.none⟩,⟨(.some 19),(.RU .true 3 2 (.t 18)),.none⟩,⟨(.some 20),(.load .true 2 (.t 19)),.none⟩,⟨(.some 21),(.RU .false 5 1 (.t 3)),.none⟩,⟨(.some 22),(.load .false 1 (.t 21)),.none⟩,⟨(.some 23),(.RU .false 7 1 (.t 3)),.none⟩,⟨(.some 24),(.load .false 1 (.t 23)),.none⟩] rfl rfl ?_;apply sG;simp only[go_sem,seval,dw,d3,cf,az,ae];refine RE.aB rfl rfl rfl rfl rfl (JX s.RK a.y a.h hy hh _) ?_;refine RE.SC (n:=0) [] [20,22,24] [⟨(.some 26),(.nilCheck (.t 16)),.none⟩,⟨(.some 27),(.RU .true 3 2 (.t 26)),.none⟩,⟨.none,(.store 2 (.t 27) (.t 25)),.none⟩] rfl rfl ?_;apply sG;simp only[go_sem,seval,dw,gN,cf,az,ae];apply sR;simp only[go_sem,seval];have SA:aa Z0 (C' Y2 iw ⟨209,7,[.agg [.own Ti 0 (s.atoms.length+1),vf,vI s.Rw,vI (a.y+a.h),vI 0,aK l,cH rs]]⟩):=G'.aE hJ.no;refine⟨_,_,aa.refl _,Wk.refl (aa.refl _) _,rfl,SA,hJ.no,.own Ti 0 (s.atoms.length+1),vf,ag,?_,?_,hf2⟩
 .exact aT.new (by simp[WS.put]) (by rw[ab nw.symm,d12];simp[WS.put];rfl) Uf
 .rcases hf4 with h|⟨id,h1,h2,h3⟩
  .exact .inl h
  .exact .inr ⟨id,h1,by rw[ab (aM.1 h3).1];exact h2,h3⟩
def vy{l:List P'}{w high:Int}{s:Sz}:∀(k:Nat) (y:Int),gtJ l y<=k->nm l w high s (kP l w high s k y)=true
 |0,y,h=>by
  rw[kP];simp only[nm,Bool.or_eq_true,Bool.not_eq_true',decide_eq_true_eq];left;cases hn:(gy l y high s).2 with
  |false=>rfl
  |true=>
   have:=wZ (ir hn);omega
 |k+1,y,h=>by
  rw[kP];split
  .rename_i hb;exact hb
  .rename_i hb;simp only[nm,Bool.or_eq_true,Bool.not_eq_true',not_or,Bool.not_eq_false]at hb;have:=wZ (ir hb.1);exact vy k _ (by omega)
def Dy(l:List P')(w high:Int)(s:Sz)(y:Int):(gy l (oG l w high s y) high s).2=false\/jt (dX l (oG l w high s y) high s)>=w:=by
 have:=vy (l:=l) (w:=w) (high:=high) (s:=s) l.length y (List.length_filter_le _ _);simp only[nm,Bool.or_eq_true,Bool.not_eq_true',decide_eq_true_eq]at this;exact this
def qG{l:List P'}{w high B:Int}{s:Sz}(hB:∀f∈l,f.y+f.h<=B):∀(k:Nat) (y:Int),y<=kP l w high s k y/\kP l w high s k y<=max y B
 |0,y=>by simp only[kP];omega
 |k+1,y=>by
  rw[kP];split
  .omega
  .rename_i hb;simp only[nm,Bool.or_eq_true,Bool.not_eq_true',not_or,Bool.not_eq_false]at hb;obtain⟨f,hm,h1,h2⟩:=ir hb.1;have:=qG hB k (gy l y high s).1 (w:=w) (high:=high) (s:=s);have:=hB f hm;omega
def G4(f:P')(s:Sz):s.a<=(jR f s).a/\(jR f s).b<=s.b:=by
 unfold jR;split
 .simp only;omega
 .simp only;omega
def zV:∀(l:List P') (s:Sz),s.a<=(l.foldl (λs f=>jR f s) s).a/\(l.foldl (λs f=>jR f s) s).b<=s.b
 |[],s=>by simp
 |f::l,s=>by
  have h1:=G4 f s;have h2:=zV l (jR f s);simp only[List.foldl_cons];omega
def Fl(l:List P')(y high:Int)(s:Sz):s.a<=(dX l y high s).a/\(dX l y high s).b<=s.b:=zV _ _
structure ZE(B:Int)(f:P'):Prop where
 x0:0<=f.x
 w0:0<=f.w
 w1:f.w<=1099511627776
 h0:0<=f.h
 h1:f.h<=1099511627776
 y0:0<=f.y
 yB:f.y+f.h<=B
 xw:f.x+f.w<=8796093022208
def ZE.ok{B:Int}{f:P'}(h:ZE B f)(hB:B<=1152921504606846976):f.ok:=by
 obtain⟨h1,h2,h3,h4,h5,h6,h7,h8⟩:=h;exact⟨⟨by omega,by omega⟩,⟨by omega,by omega⟩,⟨by omega,by omega⟩,⟨by omega,by omega⟩⟩
def ZE.mono{B C:Int}{f:P'}(h:ZE B f)(hB:B<=C):ZE C f:=by
 obtain⟨h1,h2,h3,h4,h5,h6,h7,h8⟩:=h;exact⟨h1,h2,h3,h4,h5,h6,by omega,h8⟩
def Dt(s:Sz):Prop:=0<=s.a/\s.a<=2199023255552/\0<=s.b/\s.b<=2199023255552
def A8{fs:List P'}{B y:Int}(hB:∀f∈fs,ZE B f):y<=nV fs y/\nV fs y<=max y B:=by
 unfold nV;split
 .rename_i h;obtain⟨f,hf,h1,_⟩:=kZ h;have:=hB f hf;have h2:(uz f).1=f.y:=rfl;rw[h1,h2];have:=this.yB;have:=(hB f hf).h0;omega
 .omega
def zp{fs:List P'}{B y:Int}(hB:∀f∈fs,ZE B f)(f:P')(s:Sz):y<=kL fs f y s/\kL fs f y s<=max y B:=by
 have h1:=A8 (y:=y) hB;have h2:=qG (w:=f.w) (high:=f.h) (s:=s) (λf hf=>(hB f hf).yB) fs.length (nV fs y);unfold kL oG;omega
def DY{fs:List P'}{B y:Int}(hB:∀f∈fs,ZE B f){f:P'}{s:Sz}(hs:Dt s)(ZX:0<=y)(hyB:y<=B)(w0:1<=f.w)(w1:f.w<=1099511627776)(h0:0<=f.h)(h1:f.h<=1099511627776):ZE (B+1099511627776) (jM fs f y s):=by
 obtain⟨s1,s2,s3,s4⟩:=hs;have hy:=zp (y:=y) hB f s;have hb:=Fl fs (kL fs f y s) f.h s;have hx:0<=oL fs f y s/\oL fs f y s+f.w<=8796093022208:=by
  unfold oL;simp only;have he:=Dy fs f.w f.h s (nV fs y);have e:oG fs f.w f.h s (nV fs y)=kL fs f y s:=rfl;rw[e]at he;rcases he with h|h
  .have SI:dX fs (kL fs f y s) f.h s=s:=Classical.byContradiction λhn=>by
    have:=nU hn;rw[h]at this;cases this
   rw[SI];split<;>omega
  .unfold jt at h;split at h
   .omega
   .split<;>omega
 exact⟨hx.1,by simp only[jM];omega,by simp only[jM];omega,by simp only[jM];omega,by simp only[jM];omega,by simp only[jM];omega,by simp only[jM];omega,by simpa[jM]using hx.2⟩
def Hk{fs:List P'}{B y:Int}(hB:∀f∈fs,ZE B f){f:P'}{s:Sz}(hs:Dt s)(ZX:0<=y)(hyB:y<=B)(w0:1<=f.w)(w1:f.w<=1099511627776)(h0:0<=f.h)(h1:f.h<=1099511627776):∀g∈tB fs f y s,ZE (B+1099511627776) g:=by
 intro g hg;rcases List.mem_append.1 hg with hg|hg
 .exact(hB g hg).mono (by omega)
 .simp only[List.mem_singleton]at hg;subst hg;exact DY hB hs ZX hyB w0 w1 h0 h1
structure Bd(s:WS)(B:Int):Prop where
 fl:∀f∈s.B',ZE B f
 y0:0<=s.RK.y
 m0:0<=s.RK.m
 m1:s.RK.m<=1099511627776
 yB:s.RK.y+s.RK.m<=B
def Bd.mono{s:WS}{B C:Int}(h:Bd s B)(hB:B<=C):Bd s C:=⟨λf hf=>(h.fl f hf).mono hB,h.y0,h.m0,h.m1,by have:=h.yB;omega⟩
def WS.mono(l:List Nd)(rs:List Rm)(s:WS)(a:Nat)(n:Nd):WS:=
 let RY:=kS s.B' n.w n.h (eI rs a) (s.RK.y+s.RK.m)
 let b:=dX s.B' RY n.h (eI rs a)
 s.put ⟨2,a,0,0,b.a,RY,n.w,n.h⟩
def fe(a:Nat)(h:Int)(x:Ln):Sk:=⟨1,a,x.fr,x.to,x.x,x.y,x.w,h⟩
def WS.text(rs:List Rm)(s:WS)(a:Nat)(n:Nd):WS:=
 (dM s.B' n.words n.space n.line (eI rs a) n.words.length 0 (s.RK.y+s.RK.m)).foldl (λs x=>s.put (fe a n.line x)) s
def WS.float(rs:List Rm)(s:WS)(a:Nat)(n:Nd):WS:=
 { s with B':=tB s.B' ⟨a,n.side,s.atoms.length,0,0,n.w,n.h⟩ (s.RK.y+s.RK.m) (eI rs a) }
def WS.enter(s:WS)(t:SW):WS:=
 let p:=if(ee (lC t.clear) s.B').2 then jf s.RK (ee (lC t.clear) s.B').1 else s.RK
 { s with RK:=eD p t.top t.RI }
def WS.leave(s:WS)(t:SW):WS:={ s with RK:=ln s.RK t.RT t.Rx }
def Bd.enter{s:WS}{B:Int}(h:Bd s B){t:SW}(ht:SOk t):Bd (s.enter t) (B+2199023255552):=by
 obtain⟨hf,h1,h2,h3,h4⟩:=h;have hp:∀p:Pn,0<=p.y->0<=p.m->p.m<=1099511627776->p.y+p.m<=B->Bd { s with RK:=eD p t.top t.RI } (B+2199023255552):=by
  intro p g1 g2 g3 g4;have a1:=ht.top;have a2:=ht.RI;refine⟨λf U1=>(hf f U1).mono (by omega),?_,?_,?_,?_⟩<;>simp only[eD,ta]<;>(repeat' split)<;>omega
 unfold WS.enter;simp only;split
 .rename_i hm;obtain⟨f,hfm,e1,_⟩:=kZ hm;have e2:(lC t.clear f).1=f.y+f.h:=rfl;have Ws:=hf f hfm;have hy:=Ws.yB;have ZX:=Ws.y0;have hh0:=Ws.h0;rw[e1,e2];refine hp _ ?_ ?_ ?_ ?_<;>(unfold jf;split)<;>(try simp only)<;>omega
 .exact hp _ h1 h2 h3 h4
def Bd.leave{s:WS}{B:Int}(h:Bd s B){t:SW}(ht:SOk t):Bd (s.leave t) (B+2199023255552):=by
 obtain⟨hf,h1,h2,h3,h4⟩:=h;have a1:=ht.RT;have a2:=ht.Rx;refine⟨λf U1=>(hf f U1).mono (by omega),?_,?_,?_,?_⟩<;>simp only[WS.leave,ln,ta]<;>(repeat' split)<;>omega
open Go.Proofs Go.Proofs.Tryz
structure YE(l:List Nd)(rs:List Rm):Prop where
 rE:l.length<=2000
 Yd:So l=true
 len:rs.length=l.length
 rok:∀r∈rs,r.ok
def YE.room{l:List Nd}{rs:List Rm}(h:YE l rs){a:Nat}(ha:a<l.length):∃h':a<rs.length,rs[a].ok:=⟨by rw[h.len];exact ha,h.rok _ (List.getElem_mem _)⟩
def YE.span{l:List Nd}{rs:List Rm}(h:YE l rs){a:Nat}(ha:a<l.length):Dt (eI rs a):=by
 obtain⟨h',r1,r2,r3,r4⟩:=h.room ha;have e:rs.getD a ⟨0,0⟩=rs[a]:=by simp[h']
 unfold eI Dt;rw[e];simp only;omega
def Dt.bq{s:Sz}(h:Dt s):Ty s.a/\Ty s.b:=by obtain⟨a,b,c,d⟩:=h;exact⟨⟨by omega,by omega⟩,⟨by omega,by omega⟩⟩
def Bd.YF{s:WS}{B:Int}(h:Bd s B)(hB:B<=1152921504606846976):∀f∈s.B',f.ok:=λf hf=>(h.fl f hf).ok hB
def ji(l:List Nd){a:Nat}(h:a<l.length)(U:ai):bQ U 20 (aK l) (.int .i64 a)=some (.rp (.agg (Nd.cells l[a]))):=cJ h
def Uq.mono{l:List Nd}{rs:List Rm}{Z0 U J:ai}{iw:Nat}{s:WS}(hJ:Uq l rs Z0 iw s U)(hs:aa U J):Uq l rs Z0 iw s J:=by
 obtain⟨va,vf,w1,h1,h2,h3⟩:=hJ.row;exact⟨hJ.sub.trans hs,hJ.no,va,vf,hs _ _ w1,h1.mono hs,h2.mono hs,h3⟩
def Hm{l:List Nd}{rs:List Rm}(hD:YE l rs){Z0 U:ai}{iw:Nat}{s:WS}{B:Int}(hJ:Uq l rs Z0 iw s U)(hB:Bd s B)(hB1:B<=576460752303423488)(a:Nat)(ha:a<l.length)(hk:l[a].kind=3)(hn:s.atoms.length<=100000)(hfn:s.B'.length<=100000):
 aD prog 165 [.ptr iw 0 0,vI a] U λr Z'=>r=.RB []/\Uq l rs Z0 iw (WS.mono l rs s a l[a]) Z':=by
 obtain⟨va,vf,w1,V9,WU,hf2⟩:=hJ.row;obtain⟨ca,sa⟩:=V9.vc;obtain⟨cf,sf⟩:=WU.vc;have R7:=gr hD.Yd ha;have hsp:=hD.span ha;obtain⟨har,YG⟩:=hD.room ha;have Rv:=ji l ha;have hen:∀n:Nd,V.agg (Nd.cells n)=iz n:=λ_=>rfl;unfold WS.mono;generalize l[a]=n at*;refine Q3.r (by simp[J1]) ?_;refine ad.mix 7 ?_;apply sR;simp only[go_sem,seval,J1,w1,ca,cf,az,ae,aj,av,Rv,Nd.cells];refine af λi4 Z4 s4 a4 f4=>?_;simp only[go_sem,seval,a4,aj,av,di];generalize Tv:C' Z4 i4 _=Y4;have b4:Y4 i4=some ⟨59,20,[.agg (Nd.cells n)]⟩:=by rw[<-Tv];exact ag
 rw[Nd.cells]at b4;have Ze:aa U Y4:=by rw[<-Tv];exact s4.aE f4
 clear Tv;have w4:=Ze _ _ w1;have hlen:uL Y4 vf (aH s.B'):=(WU.mono Ze).Gh;have Xl:=hJ.mono Ze;have hm:=hB.m1;have Wj:=hB.m0;have ZX:=hB.y0;have hyB:=hB.yB;have hws:=R7.w;have hhs:=R7.h;have Wf:=Fj s.B' n.w n.h (s.RK.y+s.RK.m) (eI rs a) (by omega) (hB.YF (by omega)) ⟨by omega,by omega⟩ ⟨by omega,by omega⟩ hsp.bq;obtain⟨RY,S1⟩:∃z,z=kS s.B' n.w n.h (eI rs a) (s.RK.y+s.RK.m):=⟨_,rfl⟩
 have hyr:=fV (w:=n.w) (high:=n.h) (y:=s.RK.y+s.RK.m) (s:=eI rs a) (λf hf=>(hB.fl f hf).yB);rw[<-S1]at Wf hyr|-;obtain⟨b,hb⟩:∃b,b=dX s.B' RY n.h (eI rs a):=⟨_,rfl⟩
 rw[<-hb]at Wf|-;have fin:∀(S:Nat->V) (J:ai) (i5:Nat),aa Y4 J->J i5=some ⟨288,2,[.agg [vI b.a,vI b.b]]⟩->S 0=.ptr iw 0 0->S 1=vI a->S 4=.ptr i4 0 0->S 5=.ptr i5 0 0->S 6=vI RY->
  ad prog 46 [It.code (.Sd false [⟨some 35,.RJ (.t 0),none⟩,⟨some 36,.RJ (.t 1),none⟩,⟨some 37,.RU false 0 1 (.t 5),none⟩,⟨some 38,.load false 1 (.t 37),none⟩,⟨some 39,.RJ (.t 6),none⟩,⟨some 40,.RU false 18 1 (.t 4),none⟩,⟨some 41,.load false 1 (.t 40),none⟩,⟨some 42,.RU false 19 1 (.t 4),none⟩,⟨some 43,.load false 1 (.t 42),none⟩,⟨some 44,.build [.int .i64 0,.int .i64 0,.int .i64 0,.int .i64 0,.int .i64 0,.int .i64 0,.int .i64 0,.int .i64 0] [(0,1,.c (.int .i64 2)),(1,1,.t 36),(4,1,.t 38),(5,1,.t 39),(6,1,.t 41),(7,1,.t 43)],none⟩,⟨some 45,.call (.c (.fn 221 [])) [.t 35,.t 44],none⟩])] ⟨S,J⟩
   (λst=>ay (.RB []) st.U λr Z'=>r=.RB []/\Uq l rs Z0 iw (s.put ⟨2,a,0,0,b.a,RY,n.w,n.h⟩) Z'):=by
  intro S J i5 ZF c5 t0 t1 t4 t5 t6;have c4:=ZF _ _ b4;refine ad.mix 7 ?_;apply sR;simp only[go_sem,seval,t0,t1,t4,t5,t6,c4,c5,aj];refine ad.call rfl rfl rfl (Em (Xl.mono ZF) ⟨2,a,0,0,b.a,RY,n.w,n.h⟩ (show Bq RY from⟨by omega,by omega⟩) (show Bq n.h from⟨by omega,by omega⟩) (by omega)) ?_;rintro r Z' ⟨rfl,T0⟩;apply sR;simp only[go_sem,seval];exact⟨_,_,aa.refl _,Wk.refl (aa.refl _) _,rfl,T0⟩
 refine ad.Dl (by kernel_rfl) 8 (.fork [[],[0],[1,0],[2,1,0],[3,2,1,0],[],[5],[],[7],[],[9],[10,9],[11,10,9],[12,11,10,9],[],[],[14,15,13,12,11,10,9],[4,6,8,13,16,3,2,1,0,5,7,12,11,10,9,14,15],[17,4,6,8,13,16,3,2,1,0,5,7,12,11,10,9,14,15],[18,17,4,6,8,13,16,3,2,1,0,5,7,12,11,10,9,14,15],[18,17,4,6,8,13,16,3,2,1,0,5,7,12,11,10,9,14,15],[],[21,19,17,0,1,2,3,4,5,6,7,8,9,10,11,12,13,14,15,16,18],[20,22,0,1,2,3,4,5,6,7,8,9,10,11,12,13,14,15,16,17,18,19,21]] [0,1,2,3,4,5,6,7,8,9,10,11,12,14,15] [13,21] [(.fork [[],[0],[1,0],[2,1,0],[3,2,1,0],[],[5],[],[7],[],[9],[10,9],[11,10,9],[12,11,10,9],[],[],[14,15,13,12,11,10,9],[4,6,8,13,16,3,2,1,0,5,7,12,11,10,9,14,15],[17,4,6,8,13,16,3,2,1,0,5,7,12,11,10,9,14,15],[18,17,4,6,8,13,16,3,2,1,0,5,7,12,11,10,9,14,15],[18,17,4,6,8,13,16,3,2,1,0,5,7,12,11,10,9,14,15],[13,12,11,10,9],[13,12,11,10,9,21,19,17,0,1,2,3,4,5,6,7,8,14,15,16,18],[13,12,11,10,9,20,22,0,1,2,3,4,5,6,7,8,14,15,16,17,18,19,21]] [13] [16,21] [(.fork [[],[0],[1,0],[2,1,0],[3,2,1,0],[],[5],[],[7],[],[9],[10,9],[11,10,9],[12,11,10,9],[],[],[14,15,13,12,11,10,9],[4,6,8,13,16,3,2,1,0,5,7,12,11,10,9,14,15],[17,4,6,8,13,16,3,2,1,0,5,7,12,11,10,9,14,15],[18,17,4,6,8,13,16,3,2,1,0,5,7,12,11,10,9,14,15],[18,17,4,6,8,13,16,3,2,1,0,5,7,12,11,10,9,14,15],[16,14,15,13,12,11,10,9],[16,14,15,13,12,11,10,9,21,19,17,0,1,2,3,4,5,6,7,8,18],[16,14,15,13,12,11,10,9,20,22,0,1,2,3,4,5,6,7,8,17,18,19,21]] [16] [17,21] [(.leaf [[],[0],[1,0],[2,1,0],[3,2,1,0],[],[5],[],[7],[],[9],[10,9],[11,10,9],[12,11,10,9],[],[],[14,15,13,12,11,10,9],[4,6,8,13,16,3,2,1,0,5,7,12,11,10,9,14,15],[17,4,6,8,13,16,3,2,1,0,5,7,12,11,10,9,14,15],[18,17,4,6,8,13,16,3,2,1,0,5,7,12,11,10,9,14,15],[18,17,4,6,8,13,16,3,2,1,0,5,7,12,11,10,9,14,15],[17,4,6,8,13,16,3,2,1,0,5,7,12,11,10,9,14,15],[17,4,6,8,13,16,3,2,1,0,5,7,12,11,10,9,14,15,21,19,18],[17,4,6,8,13,16,3,2,1,0,5,7,12,11,10,9,14,15,20,22,18,19,21]] [17,18,19,20,21,22,23]),(.leaf [[],[0],[1,0],[2,1,0],[3,2,1,0],[],[5],[],[7],[],[9],[10,9],[11,10,9],[12,11,10,9],[],[],[14,15,13,12,11,10,9],[21,16,14,15,13,12,11,10,9,4,6,8,3,2,1,0,5,7],[21,16,14,15,13,12,11,10,9,17,4,6,8,3,2,1,0,5,7],[21,16,14,15,13,12,11,10,9,18,17,4,6,8,3,2,1,0,5,7],[21,16,14,15,13,12,11,10,9,18,17,4,6,8,3,2,1,0,5,7],[16,14,15,13,12,11,10,9],[21,16,14,15,13,12,11,10,9,19,17,0,1,2,3,4,5,6,7,8,18],[21,16,14,15,13,12,11,10,9,20,22,0,1,2,3,4,5,6,7,8,17,18,19]] [21,17,18,19,20,22,23])]),(.leaf [[],[0],[1,0],[2,1,0],[3,2,1,0],[],[5],[],[7],[],[9],[10,9],[11,10,9],[12,11,10,9],[],[],[21,13,12,11,10,9,14,15],[21,13,12,11,10,9,4,6,8,16,3,2,1,0,5,7,14,15],[21,13,12,11,10,9,17,4,6,8,16,3,2,1,0,5,7,14,15],[21,13,12,11,10,9,18,17,4,6,8,16,3,2,1,0,5,7,14,15],[21,13,12,11,10,9,18,17,4,6,8,16,3,2,1,0,5,7,14,15],[13,12,11,10,9],[21,13,12,11,10,9,19,17,0,1,2,3,4,5,6,7,8,14,15,16,18],[21,13,12,11,10,9,20,22,0,1,2,3,4,5,6,7,8,14,15,16,17,18,19]] [21,16,17,18,19,20,22,23])]),(.leaf [[],[0],[1,0],[2,1,0],[3,2,1,0],[],[5],[],[7],[],[9],[10,9],[11,10,9],[21,12,11,10,9],[],[],[21,14,15,13,12,11,10,9],[21,4,6,8,13,16,3,2,1,0,5,7,12,11,10,9,14,15],[21,17,4,6,8,13,16,3,2,1,0,5,7,12,11,10,9,14,15],[21,18,17,4,6,8,13,16,3,2,1,0,5,7,12,11,10,9,14,15],[21,18,17,4,6,8,13,16,3,2,1,0,5,7,12,11,10,9,14,15],[],[21,19,17,0,1,2,3,4,5,6,7,8,9,10,11,12,13,14,15,16,18],[21,20,22,0,1,2,3,4,5,6,7,8,9,10,11,12,13,14,15,16,17,18,19]] [21,13,16,17,18,19,20,22,23])]) (by kernel_rfl) ?_;refine GT.o9 (its:=[0,2,4,6,8,10,12,14,16,18,20,22,24,28,30]) (by kernel_rfl) ?_;refine RE.SC (n:=0) [] [0,2,4,6,8,10,12,14,16,18,20,22,24,28,30] [⟨(.some 15),(.RJ (.t 0)),.none⟩,⟨(.some 16),(.nilCheck (.t 15)),.none⟩,⟨(.some 17),(.RU .true 0 3 (.t 16)),.none⟩,⟨(.some 18),(.RU .false 1 1 (.t 17)),.none⟩,⟨(.some 19),(.load .false 1 (.t 18)),.none⟩,⟨(.some 20),(.RU .false 18 1 (.t 4)),.none⟩,⟨(.some 21),(.load .false 1 (.t 20)),.none⟩,⟨(.some 22),(.RU .false 19 1 (.t 4)),.none⟩,⟨(.some 23),(.load .false 1 (.t 22)),.none⟩,⟨(.some 24),(.RJ (.t 0)),.none⟩,⟨(.some 25),(.nilCheck (.t 24)),.none⟩,⟨(.some 26),(.RU .true 3 2 (.t 25)),.none⟩,⟨(.some 27),(.load .true 2 (.t 26)),.none⟩,⟨(.some 29),(.RJ (.t 0)),.none⟩,⟨(.some 30),(.RJ (.t 1)),.none⟩] rfl rfl ?_;apply sG;simp only[go_sem,seval,b4,w4,ca,cf,az,ae,aj,av];refine⟨?_,?_⟩
 .refine GT.o9 (its:=[26,9,13,17]) (by kernel_rfl) ?_;refine RE.aB rfl rfl rfl rfl rfl (D3 s.RK ⟨by omega,by omega⟩ ⟨by omega,by omega⟩ _) ?_;refine RE.SX rfl rfl rfl rfl rfl trivial (by simp only[go_sem,seval,b4,w4,ca,cf,az,ae,aj,av]) ?_;refine RE.SX rfl rfl rfl rfl rfl trivial (by simp only[go_sem,seval,b4,w4,ca,cf,az,ae,aj,av]) ?_;refine RE.SX rfl rfl rfl rfl rfl trivial (by simp only[go_sem,seval,b4,w4,ca,cf,az,ae,aj,av]) ?_;refine⟨?_,?_⟩
  .refine GT.o9 (its:=[32,9,13,17]) (by kernel_rfl) ?_;refine RE.aB rfl rfl rfl rfl rfl (zr Xl a har YG) ?_;refine RE.SX rfl rfl rfl rfl rfl trivial (by simp only[go_sem,seval,b4,w4,ca,cf,az,ae,aj,av]) ?_;refine RE.SX rfl rfl rfl rfl rfl trivial (by simp only[go_sem,seval,b4,w4,ca,cf,az,ae,aj,av]) ?_;refine RE.SX rfl rfl rfl rfl rfl trivial (by simp only[go_sem,seval,b4,w4,ca,cf,az,ae,aj,av]) ?_;refine⟨?_,?_⟩
   .refine GT.iK (its:=[34,36,38,40,42,44,46]) (by kernel_rfl) ?_;refine RE.aB rfl rfl rfl rfl rfl (aV.uP (args':=[aH s.B',vI n.w,vI n.h,vI (s.RK.y+s.RK.m),aZ (eI rs a)]) ⟨hlen.at,Uy _,Uy _,Uy _,Uy _,trivial⟩ Wf rfl) ?_;refine RE.SC (n:=0) [] [36,38,40,42,44,46] [⟨(.some 14),(.RJ (.t 32)),.none⟩,⟨(.some 33),(.ext 0 (.t 14)),.none⟩,⟨(.some 34),(.ext 1 (.t 14)),.none⟩,⟨(.some 5),(.alloc 288 2 (.agg [(.int .i64 0),(.int .i64 0)])),.none⟩,⟨.none,(.store 2 (.t 5) (.t 33)),.none⟩,⟨(.some 6),(.RJ (.t 34)),.none⟩] rfl rfl ?_;apply sG;simp only[go_sem,seval,b4,w4,ca,cf,az,ae,aj,av];refine bw λi5 Z5 s5 a5 f5=>?_;replace b4:=s5 _ _ b4;replace w4:=s5 _ _ w4;replace hlen:=hlen.mono s5;replace Xl:=Xl.mono s5;simp only[go_sem,seval,b4,w4,ca,cf,az,ae,aj,av,a5,aZ];exact fin _ _ i5 (s5.aE f5) ag rfl rfl rfl rfl rfl
   .refine GT.iK (its:=[42,9,13,17,34,36,38,40,44,46]) (by kernel_rfl) ?_;refine RE.SC (n:=0) [9,13,17,34,36,38,40,44,46] [42] [⟨(.some 5),(.alloc 288 2 (.agg [(.int .i64 0),(.int .i64 0)])),.none⟩] rfl rfl ?_;apply sG;simp only[go_sem,seval,b4,w4,ca,cf,az,ae,aj,av];refine bw λi5 Z5 s5 a5 f5=>?_;replace b4:=s5 _ _ b4;replace w4:=s5 _ _ w4;replace hlen:=hlen.mono s5;replace Xl:=Xl.mono s5;simp only[go_sem,seval,b4,w4,ca,cf,az,ae,aj,av,a5,aZ];refine RE.SX rfl rfl rfl rfl rfl trivial (by simp only[go_sem,seval,b4,w4,ca,cf,az,ae,aj,av,a5,aZ]) ?_;refine RE.SX rfl rfl rfl rfl rfl trivial (by simp only[go_sem,seval,b4,w4,ca,cf,az,ae,aj,av,a5,aZ]) ?_;refine RE.SX rfl rfl rfl rfl rfl trivial (by simp only[go_sem,seval,b4,w4,ca,cf,az,ae,aj,av,a5,aZ]) ?_;refine RE.aB rfl rfl rfl rfl rfl (aV.uP (args':=[aH s.B',vI n.w,vI n.h,vI (s.RK.y+s.RK.m),aZ (eI rs a)]) ⟨hlen.at,Uy _,Uy _,Uy _,Uy _,trivial⟩ Wf rfl) ?_;refine RE.SC (n:=0) [] [36,38,40,44,46] [⟨(.some 14),(.RJ (.t 32)),.none⟩,⟨(.some 33),(.ext 0 (.t 14)),.none⟩,⟨(.some 34),(.ext 1 (.t 14)),.none⟩,⟨.none,(.store 2 (.t 5) (.t 33)),.none⟩,⟨(.some 6),(.RJ (.t 34)),.none⟩] rfl rfl ?_;apply sG;simp only[go_sem,seval,b4,w4,ca,cf,az,ae,aj,av,a5,aZ];exact fin _ _ i5 (s5.aE f5) ag rfl rfl rfl rfl rfl
  .refine GT.iK (its:=[42,9,13,17,32,9,13,17,34,36,38,40,44,46]) (by kernel_rfl) ?_;refine RE.SC (n:=0) [9,13,17,32,9,13,17,34,36,38,40,44,46] [42] [⟨(.some 5),(.alloc 288 2 (.agg [(.int .i64 0),(.int .i64 0)])),.none⟩] rfl rfl ?_;apply sG;simp only[go_sem,seval,b4,w4,ca,cf,az,ae,aj,av];refine bw λi5 Z5 s5 a5 f5=>?_;replace b4:=s5 _ _ b4;replace w4:=s5 _ _ w4;replace hlen:=hlen.mono s5;replace Xl:=Xl.mono s5;simp only[go_sem,seval,b4,w4,ca,cf,az,ae,aj,av,a5,aZ];refine RE.SX rfl rfl rfl rfl rfl trivial (by simp only[go_sem,seval,b4,w4,ca,cf,az,ae,aj,av,a5,aZ]) ?_;refine RE.SX rfl rfl rfl rfl rfl trivial (by simp only[go_sem,seval,b4,w4,ca,cf,az,ae,aj,av,a5,aZ]) ?_;refine RE.SX rfl rfl rfl rfl rfl trivial (by simp only[go_sem,seval,b4,w4,ca,cf,az,ae,aj,av,a5,aZ]) ?_;refine RE.aB rfl rfl rfl rfl rfl (zr Xl a har YG) ?_;refine RE.SX rfl rfl rfl rfl rfl trivial (by simp only[go_sem,seval,b4,w4,ca,cf,az,ae,aj,av,a5,aZ]) ?_;refine RE.SX rfl rfl rfl rfl rfl trivial (by simp only[go_sem,seval,b4,w4,ca,cf,az,ae,aj,av,a5,aZ]) ?_;refine RE.SX rfl rfl rfl rfl rfl trivial (by simp only[go_sem,seval,b4,w4,ca,cf,az,ae,aj,av,a5,aZ]) ?_;refine RE.aB rfl rfl rfl rfl rfl (aV.uP (args':=[aH s.B',vI n.w,vI n.h,vI (s.RK.y+s.RK.m),aZ (eI rs a)]) ⟨hlen.at,Uy _,Uy _,Uy _,Uy _,trivial⟩ Wf rfl) ?_;refine RE.SC (n:=0) [] [36,38,40,44,46] [⟨(.some 14),(.RJ (.t 32)),.none⟩,⟨(.some 33),(.ext 0 (.t 14)),.none⟩,⟨(.some 34),(.ext 1 (.t 14)),.none⟩,⟨.none,(.store 2 (.t 5) (.t 33)),.none⟩,⟨(.some 6),(.RJ (.t 34)),.none⟩] rfl rfl ?_;apply sG;simp only[go_sem,seval,b4,w4,ca,cf,az,ae,aj,av,a5,aZ];exact fin _ _ i5 (s5.aE f5) ag rfl rfl rfl rfl rfl
 .refine GT.iK (its:=[42,9,13,17,25,26,9,13,17,32,9,13,17,34,36,38,40,44,46]) (by kernel_rfl) ?_;refine RE.SC (n:=0) [9,13,17,25,26,9,13,17,32,9,13,17,34,36,38,40,44,46] [42] [⟨(.some 5),(.alloc 288 2 (.agg [(.int .i64 0),(.int .i64 0)])),.none⟩] rfl rfl ?_;apply sG;simp only[go_sem,seval,b4,w4,ca,cf,az,ae,aj,av];refine bw λi5 Z5 s5 a5 f5=>?_;replace b4:=s5 _ _ b4;replace w4:=s5 _ _ w4;replace hlen:=hlen.mono s5;replace Xl:=Xl.mono s5;simp only[go_sem,seval,b4,w4,ca,cf,az,ae,aj,av,a5,aZ];refine RE.SX rfl rfl rfl rfl rfl trivial (by simp only[go_sem,seval,b4,w4,ca,cf,az,ae,aj,av,a5,aZ]) ?_;refine RE.SX rfl rfl rfl rfl rfl trivial (by simp only[go_sem,seval,b4,w4,ca,cf,az,ae,aj,av,a5,aZ]) ?_;refine RE.SX rfl rfl rfl rfl rfl trivial (by simp only[go_sem,seval,b4,w4,ca,cf,az,ae,aj,av,a5,aZ]) ?_;refine RE.SX rfl rfl rfl rfl rfl trivial (by simp only[go_sem,seval,b4,w4,ca,cf,az,ae,aj,av,a5,aZ]) ?_;refine RE.aB rfl rfl rfl rfl rfl (D3 s.RK ⟨by omega,by omega⟩ ⟨by omega,by omega⟩ _) ?_;refine RE.SX rfl rfl rfl rfl rfl trivial (by simp only[go_sem,seval,b4,w4,ca,cf,az,ae,aj,av,a5,aZ]) ?_;refine RE.SX rfl rfl rfl rfl rfl trivial (by simp only[go_sem,seval,b4,w4,ca,cf,az,ae,aj,av,a5,aZ]) ?_;refine RE.SX rfl rfl rfl rfl rfl trivial (by simp only[go_sem,seval,b4,w4,ca,cf,az,ae,aj,av,a5,aZ]) ?_;refine RE.aB rfl rfl rfl rfl rfl (zr Xl a har YG) ?_;refine RE.SX rfl rfl rfl rfl rfl trivial (by simp only[go_sem,seval,b4,w4,ca,cf,az,ae,aj,av,a5,aZ]) ?_;refine RE.SX rfl rfl rfl rfl rfl trivial (by simp only[go_sem,seval,b4,w4,ca,cf,az,ae,aj,av,a5,aZ]) ?_;refine RE.SX rfl rfl rfl rfl rfl trivial (by simp only[go_sem,seval,b4,w4,ca,cf,az,ae,aj,av,a5,aZ]) ?_;refine RE.aB rfl rfl rfl rfl rfl (aV.uP (args':=[aH s.B',vI n.w,vI n.h,vI (s.RK.y+s.RK.m),aZ (eI rs a)]) ⟨hlen.at,Uy _,Uy _,Uy _,Uy _,trivial⟩ Wf rfl) ?_;refine RE.SC (n:=0) [] [36,38,40,44,46] [⟨(.some 14),(.RJ (.t 32)),.none⟩,⟨(.some 33),(.ext 0 (.t 14)),.none⟩,⟨(.some 34),(.ext 1 (.t 14)),.none⟩,⟨.none,(.store 2 (.t 5) (.t 33)),.none⟩,⟨(.some 6),(.RJ (.t 34)),.none⟩] rfl rfl ?_;apply sG;simp only[go_sem,seval,b4,w4,ca,cf,az,ae,aj,av,a5,aZ];exact fin _ _ i5 (s5.aE f5) ag rfl rfl rfl rfl rfl
open Go.Proofs Go.Proofs.Tryz
def aT.Bg{Z0 J:ai}{iw e sz:Nat}{v:V}{rows:List V}{o:Ob}(h:aT (bg Z0 iw) J e sz v rows):aT (bg Z0 iw) (C' J iw o) e sz v rows:=by
 rcases h with h|⟨id,h1,h2,h3⟩
 .exact .inl h
 .exact .inr ⟨id,h1,by rw[ab (aM.1 h3).1];exact h2,h3⟩
def aT.mc{Z0 J U:ai}{iw e sz:Nat}{v:V}{rows:List V}(h:aT J U e sz v rows)(hs:aa Z0 J){o:Ob}(hw:J iw=some o):aT (bg Z0 iw) U e sz v rows:=by
 rcases h with h|⟨id,h1,h2,h3⟩
 .exact .inl h
 .exact .inr ⟨id,h1,h2,aM.2 ⟨λe=>(by rw[e,hw]at h3;cases h3),hs.none h3⟩⟩
def ER{l:List Nd}{rs:List Rm}(hD:YE l rs){Z0 U:ai}{iw:Nat}{s:WS}{B:Int}(hJ:Uq l rs Z0 iw s U)(hB:Bd s B)(hB1:B<=576460752303423488)(a:Nat)(ha:a<l.length)(hn:s.atoms.length<=100000)(hfn:s.B'.length<=100000):
 aD prog 166 [.ptr iw 0 0,vI a] U λr Z'=>r=.RB []/\Uq l rs Z0 iw (WS.float rs s a l[a]) Z':=by
 obtain⟨va,vf,w1,V9,WU,hf2⟩:=hJ.row;obtain⟨ca,sa⟩:=V9.vc;obtain⟨cf,sf⟩:=WU.vc;have Up:dy false va=some (.int .i64 s.atoms.length):=by rw[V9.len];simp
 have R7:=gr hD.Yd ha;have hsp:=hD.span ha;obtain⟨har,YG⟩:=hD.room ha;have Rv:=ji l ha;unfold WS.float;generalize l[a]=n at*;refine Q1.r (by simp[Kz]) ?_;refine ad.mix 6 ?_;apply sR;simp only[go_sem,seval,Kz,w1,ca,cf,az,ae,aj,av,Rv,Nd.cells];refine af λi4 Z4 s4 a4 f4=>?_;have w4':=s4 _ _ w1;have n4:=aq w1 f4;simp only[go_sem,seval,a4,w4',ab n4,ca,cf,Up,az,ae,aj,av];generalize Tv:C' Z4 i4 _=Y4;have b4:Y4 i4=some ⟨59,20,[.agg (Nd.cells n)]⟩:=by rw[<-Tv];exact ag
 rw[Nd.cells]at b4;have s4'':aa U Y4:=by rw[<-Tv];exact s4.aE f4
 clear Tv;have w4:=s4'' _ _ w1;refine bw λi5 Z5 s5 a5 f5=>?_;have s5':=s4''.trans s5;have Wl:=hJ.mono (s5'.aE (o:=⟨150,7,[aQ ⟨a,n.side,s.atoms.length,0,0,n.w,n.h⟩]⟩) (s4''.none f5));have hen:aQ ⟨a,n.side,s.atoms.length,0,0,n.w,n.h⟩=.agg [vI a,vI n.side,vI s.atoms.length,vI 0,vI 0,vI n.w,vI n.h]:=rfl;rw[hen]at Wl;simp only[go_sem,seval,a5,di];generalize Ui:C' Z5 i5 _=Y5 at*;have b5:Y5 i5=some ⟨150,7,[.agg [vI a,vI n.side,vI s.atoms.length,vI 0,vI 0,vI n.w,vI n.h]]⟩:=by rw[<-Ui];exact ag
 have w5:Y5 iw=some ⟨209,7,[.agg [va,vf,vI s.Rw,vI s.RK.y,vI s.RK.m,aK l,cH rs]]⟩:=by rw[<-Ui,ab (aq w4 f5)];exact s5 _ _ w4
 have s6:aa U Y5:=by rw[<-Ui];exact s5'.aE (s4''.none f5)
 clear Ui;have hf5:=WU.mono s6;have hm:=hB.m1;have Wj:=hB.m0;have ZX:=hB.y0;have hyB:=hB.yB;have hws:=R7.w;have hhs:=R7.h;have hput:=Hu vf s.B' hf5 hf2 ⟨a,n.side,s.atoms.length,0,0,n.w,n.h⟩ (s.RK.y+s.RK.m) (eI rs a) (by omega) (hB.YF (by omega)) ⟨by omega,by omega⟩ (show Bq n.h from⟨by omega,by omega⟩) (show Bq n.w from⟨by omega,by omega⟩) hsp.bq;rw[hen]at hput;have hpne:tB s.B' ⟨a,n.side,s.atoms.length,0,0,n.w,n.h⟩ (s.RK.y+s.RK.m) (eI rs a)≠[]:=by simp[tB]
 have hs05:=hJ.sub.trans s6;have w5o:=w5;generalize tB s.B' ⟨a,n.side,s.atoms.length,0,0,n.w,n.h⟩ (s.RK.y+s.RK.m) (eI rs a)=fs' at*;refine ad.Dl (by kernel_rfl) 8 (.leaf [[],[],[1],[2,1],[3,2,1],[4,3,2,1],[],[],[7],[8,7],[9,8,7],[10,9,8,7],[],[],[12,13,11,10,9,8,7],[5,6,11,14,4,3,2,1,10,9,8,7,12,13],[0,1,2,3,4,5,6,7,8,9,10,11,12,13,14,15],[16,0,1,2,3,4,5,6,7,8,9,10,11,12,13,14,15],[17,0,1,2,3,4,5,6,7,8,9,10,11,12,13,14,15,16],[18,15,0,1,2,3,4,5,6,7,8,9,10,11,12,13,14,17,16]] [0,1,2,3,4,5,6,7,8,9,10,12,13,11,14,15,16,17,18,19]) (by kernel_rfl) ?_;refine GT.iK (its:=[0,2,4,6,8,10,12,14,16,18,20,24,26,22,11,13,28,11,13,30,32,34,36,38]) (by kernel_rfl) ?_;refine RE.SC (n:=0) [22,11,13,28,11,13,30,32,34,36,38] [0,2,4,6,8,10,12,14,16,18,20,24,26] [⟨(.some 27),(.RJ (.t 0)),.none⟩,⟨(.some 28),(.RJ (.t 0)),.none⟩,⟨(.some 29),(.nilCheck (.t 28)),.none⟩,⟨(.some 30),(.RU .true 0 3 (.t 29)),.none⟩,⟨(.some 31),(.RU .false 1 1 (.t 30)),.none⟩,⟨(.some 32),(.load .false 1 (.t 31)),.none⟩,⟨(.some 33),(.load .true 7 (.t 5)),.none⟩,⟨(.some 34),(.RJ (.t 0)),.none⟩,⟨(.some 35),(.nilCheck (.t 34)),.none⟩,⟨(.some 36),(.RU .true 3 2 (.t 35)),.none⟩,⟨(.some 37),(.load .true 2 (.t 36)),.none⟩,⟨(.some 39),(.RJ (.t 0)),.none⟩,⟨(.some 40),(.RJ (.t 1)),.none⟩] rfl rfl ?_;apply sG;simp only[go_sem,seval,b5,w5,ca,cf,az,ae];refine RE.aB rfl rfl rfl rfl rfl (D3 s.RK ⟨by omega,by omega⟩ ⟨by omega,by omega⟩ _) ?_;refine RE.SX rfl rfl rfl rfl rfl trivial (by simp only[go_sem,seval,b5,w5,ca,cf,az,ae]) ?_;refine RE.SX rfl rfl rfl rfl rfl trivial (by simp only[go_sem,seval,b5,w5,ca,cf,az,ae]) ?_;refine RE.aB rfl rfl rfl rfl rfl (zr Wl a har YG) ?_;refine RE.SX rfl rfl rfl rfl rfl trivial (by simp only[go_sem,seval,b5,w5,ca,cf,az,ae]) ?_;refine RE.SX rfl rfl rfl rfl rfl trivial (by simp only[go_sem,seval,b5,w5,ca,cf,az,ae]) ?_;refine RE.call rfl rfl rfl rfl rfl hput ?_;rintro r Z7 ⟨s7,TZ⟩;have w7:=s7 _ _ w5;replace b5:=s7 _ _ b5;replace w5:=s7 _ _ w5;obtain⟨cr,sr⟩:=TZ.vc;refine RE.SC (n:=0) [] [32,34,36,38] [⟨(.some 43),(.nilCheck (.t 27)),.none⟩,⟨(.some 44),(.RU .true 0 3 (.t 43)),.none⟩,⟨(.some 45),(.RU .false 1 1 (.t 44)),.none⟩,⟨.none,(.store 1 (.t 45) (.t 42)),.none⟩] rfl rfl ?_;apply sG;simp only[go_sem,seval,b5,w5,ca,cf,az,ae,cr,sr];apply sR;simp only[go_sem,seval];refine⟨_,_,aa.refl _,Wk.refl (aa.refl _) _,rfl,?_⟩;have hfa:=(V9.mono s6).mono s7;exact⟨(hs05.trans s7).aE hJ.no,hJ.no,va,r,ag,hfa.Bg,(TZ.mc hs05 w5o).Bg,λh=>absurd h hpne⟩
open Go.Proofs Go.Proofs.Tryz
section
variable {P:Program} {n:Nat} {st:St} {Q:St->Prop} {k:List It}
def Go.xp{i:aN}{l:List aN}{fx:VX}{xs:List VX}{f:FuncId}{caps:List V}{v:V}(hw:bu st.s i.g=some true)(ho:i.op=.call fx xs)
 (hf:fx.ev st.s=.fn f caps)(hc:∀Z1,aa st.U Z1->aD P f (xs.map (·.ev st.s)++caps) Z1 λr Z'=>r=v/\Z'=Z1)(h:Go P n (.d l k) ⟨aX st.s i.dst v,st.U⟩ Q):Go P n (.d (i::l) k) st Q:=by
 refine nP hw ?_;rw[ho];exact⟨f,caps,v,hf,λZ1 h1=>hc Z1 h1,h⟩
end
def jl{fs:List P'}{ws:List Int}{space high B:Int}{s:Sz}(hB:∀f∈fs,f.y+f.h<=B)(h0:0<=high):∀(k i:Nat) (y:Int),∀x∈dM fs ws space high s k i y,y<=x.y/\x.y+high<=max y B+high*k
 |0,_,_,x,hx=>by simp[dM]at hx
 |k+1,i,y,x,hx=>by
  rw[dM]at hx;split at hx
  .have hr:=fV (w:=ws.getD i 0) (high:=high) (y:=y) (s:=s) hB;have e:(nv fs ws space high i y s).y=kS fs (ws.getD i 0) high s y:=rfl;have e2:high*((k+1:Nat):Int)=high*k+high:=by rw[Int.natCast_add,Int.mul_add];simp
   have hk:0<=high*(k:Int):=Int.mul_nonneg h0 (by omega);rcases List.mem_cons.1 hx with rfl|hx
   .rw[e,e2];omega
   .have:=jl hB h0 k _ _ x hx;rw[e]at this;rw[e2];omega
  .cases hx
def Uq.ni{l:List Nd}{rs:List Rm}{Z0 U:ai}{iw i:Nat}{s:WS}{o:Ob}(hJ:Uq l rs Z0 iw s U)(hi:U i=some o)(h1:o.elem≠137)(h2:o.elem≠150)(h3:i≠iw):Uq l rs (C' Z0 i o) iw s U:=by
 obtain⟨va,vf,w1,g1,g2,g3⟩:=hJ.row;have key:∀{e sz:Nat} {v:V} {rows:List V},o.elem≠e->aT (bg Z0 iw) U e sz v rows->aT (bg (C' Z0 i o) iw) U e sz v rows:=λ{e sz v rows} he h=>by
  rcases h with h|⟨id,a1,a2,a3⟩
  .exact .inl h
  .have R6:id≠i:=λe'=>by subst e';rw[a2]at hi;injection hi with hi;subst hi;exact he rfl
   exact .inr ⟨id,a1,a2,aM.2 ⟨(aM.1 a3).1,by rw[ab R6];exact(aM.1 a3).2⟩⟩
 refine⟨λj p h=>?_,by rw[ab h3.symm];exact hJ.no,va,vf,w1,key h1 g1,key h2 g2,g3⟩;by_cases e:j=i
 .subst e;rw[ag]at h;rw[hi];exact h
 .rw[ab e]at h;exact hJ.sub _ _ h
def Uq.narrow{l:List Nd}{rs:List Rm}{Z0 U:ai}{iw i:Nat}{s:WS}{o:Ob}(hJ:Uq l rs (C' Z0 i o) iw s U)(hi:Z0 i=none)(h3:i≠iw):Uq l rs Z0 iw s U:=by
 obtain⟨va,vf,w1,g1,g2,g3⟩:=hJ.row;have hs:aa Z0 (C' Z0 i o):=(aa.refl Z0).aE hi;have key:∀{e sz:Nat} {v:V} {rows:List V},aT (bg (C' Z0 i o) iw) U e sz v rows->aT (bg Z0 iw) U e sz v rows:=λ{e sz v rows} h=>by
  rcases h with h|⟨id,a1,a2,a3⟩
  .exact .inl h
  .exact .inr ⟨id,a1,a2,aM.2 ⟨(aM.1 a3).1,hs.none (aM.1 a3).2⟩⟩
 exact⟨hs.trans hJ.sub,hs.none hJ.no,va,vf,w1,key g1,key g2,g3⟩
def j7{U:ai}{e sz id:Nat}{rows:List V}{i:Nat}(h:U id=some ⟨e,sz,rows⟩)(hi:i<rows.length):bQ U sz (.own id 0 rows.length) (.int .i64 i)=some (.ptr id i 0):=by
 simp[bQ,h,hi]
def hU(a:Nat)(h:Int)(s:WS)(L:List Ln):WS:=L.foldl (λs x=>s.put (fe a h x)) s
def AY{a:Nat}{h:Int}{s:WS}{L:List Ln}{j:Nat}(hj:j<L.length):hU a h s (L.take (j+1))=(hU a h s (L.take j)).put (fe a h L[j]):=by
 unfold hU;rw[List.take_succ_eq_append_getElem hj,List.foldl_append];rfl
def qf(a:Nat)(h:Int):∀(L:List Ln) (s:WS),(hU a h s L).atoms.length=s.atoms.length+L.length
 |[],s=>by simp[hU]
 |x::L,s=>by
  have:=qf a h L (s.put (fe a h x));simp only[hU,List.foldl_cons]at this|-;rw[this];simp only[WS.put,List.length_append,List.length_cons,List.length_nil];omega
def G7{l:List Nd}{rs:List Rm}(hD:YE l rs){Z0 U:ai}{iw:Nat}{s:WS}{B:Int}(hJ:Uq l rs Z0 iw s U)(hB:Bd s B)(hB1:B<=288230376151711744)(a:Nat)(ha:a<l.length)(hn:s.atoms.length<=100000)(hfn:s.B'.length<=100000)(hwl:l[a].words.length<=10000):
 aD prog 164 [.ptr iw 0 0,vI a] U λr Z'=>r=.RB []/\Uq l rs Z0 iw (WS.text rs s a l[a]) Z':=by
 obtain⟨va,vf,w1,V9,WU,hf2⟩:=hJ.row;obtain⟨ca,sa⟩:=V9.vc;obtain⟨cf,sf⟩:=WU.vc;have R7:=gr hD.Yd ha;have hsp:=hD.span ha;obtain⟨har,YG⟩:=hD.room ha;have Rv:=ji l ha;unfold WS.text;generalize l[a]=n at*;have hwok:WOk n.words n.space:=⟨by omega,λx hx=>by have:=R7.words x hx;omega,R7.space.1,R7.space.2⟩
 have hm:=hB.m1;have Wj:=hB.m0;have ZX:=hB.y0;have hyB:=hB.yB;have Wm:=R7.line;refine QD.r (by simp[Kd]) ?_;refine ad.mix 7 ?_;apply sR;simp only[go_sem,seval,Kd,w1,ca,cf,az,ae,aj,av,Rv,Nd.cells];refine af λi4 Z4 s4 a4 f4=>?_;have w4':=s4 _ _ w1;have n4:=aq w1 f4;simp only[go_sem,seval,a4,w4',ab n4,ca,cf,az,ae,aj,av];generalize Tv:C' Z4 i4 _=Y4;have b4:Y4 i4=some ⟨59,20,[.agg (Nd.cells n)]⟩:=by rw[<-Tv];exact ag
 rw[Nd.cells]at b4;have Ze:aa U Y4:=by rw[<-Tv];exact s4.aE f4
 clear Tv;have w4:=Ze _ _ w1;have hlen:uL Y4 vf (aH s.B'):=(WU.mono Ze).Gh;have Xl:=hJ.mono Ze;refine Go.bO rfl rfl rfl (D3 s.RK ⟨by omega,by omega⟩ ⟨by omega,by omega⟩) ?_;apply sG;simp only[go_sem,seval];refine Go.xp rfl rfl rfl (λZ8 h8=>zr (Xl.mono h8) a har YG) ?_;apply sG;simp only[go_sem,seval];have hLl:=jx s.B' n.words n.space n.line (eI rs a) n.words.length 0 (s.RK.y+s.RK.m);have hLb:=jl (ws:=n.words) (space:=n.space) (s:=eI rs a) (λf hf=>(hB.fl f hf).yB) Wm.1 n.words.length 0 (s.RK.y+s.RK.m);have H':=λZ8 (h8:aa Y4 Z8)=>(GC vf s.B' (hlen.mono h8) n.words n.space n.line (s.RK.y+s.RK.m) (eI rs a) (by omega) (hB.YF (by omega)) B (λf hf=>(hB.fl f hf).yB) (by omega) (by omega) (by omega) Wm.1 Wm.2 hsp.bq hwok).GX λ_ _ h=>h.2.Et (v0:=pI (dM s.B' n.words n.space n.line (eI rs a) n.words.length 0 (s.RK.y+s.RK.m))) h.1 rfl;generalize dM s.B' n.words n.space n.line (eI rs a) n.words.length 0 (s.RK.y+s.RK.m)=L at*;refine Go.xp rfl rfl rfl (λZ8 h8=>H' Z8 h8) ?_;have hnL:dy false (pI L)=some (.int .i64 L.length):=by simp[pI,dy]
 apply sG;simp only[go_sem,seval,hnL];have h0i:Z0 i4=none:=hJ.sub.none f4;have hJw:=Xl.ni b4 (by simp) (by simp) n4.symm;have U5:((n.words.length:Nat):Int)<=10000:=by omega
 have hmul:n.line*(n.words.length:Int)<=1099511627776*10000:=Int.mul_le_mul Wm.2 U5 (by omega) (by omega);refine ad.loop (λm st=>∃j:Nat,j<=L.length/\m=L.length-j/\Uq l rs (C' Z0 i4 ⟨59,20,[.agg [vI n.kind,vI n.size,vI n.st.top,vI n.st.RT,vI n.st.RI,vI n.st.Rx,vI n.st.Sv,vI n.st.R8,vI n.st.Sh,vI n.st.head,vI n.st.before,vI n.st.after,vI n.st.inside,vI n.st.clear,vI n.line,vI n.space,bn n.words,vI n.side,vI n.w,vI n.h]]⟩) iw (hU a n.line s (L.take j)) st.U/\
  st.s 0=.ptr iw 0 0/\st.s 1=vI a/\st.s 4=.ptr i4 0 0/\st.s 33=pI L/\st.s 34=vI L.length/\st.s 35=vI j) L.length ?_ ?_
 .exact⟨0,by omega,rfl,hJw,rfl,rfl,rfl,rfl,rfl,rfl⟩
 .rintro m ⟨S,J⟩ ⟨j,hj,rfl,Tq,t0,t1,t4,t33,t34,t35⟩;simp only at Tq t0 t1 t4 t33 t34 t35;refine ad.mix 7 ?_;have c4:=Tq.sub _ _ (ag (id:=i4));by_cases H':j<L.length
  .have q:((j:Int)<L.length)=True:=eq_true (by omega);have hix:∀U,bQ U 5 (pI L) (.int .i64 j)=some (.rp (l5 L[j])):=λU=>by simp[pI,bQ,H']
   have SB:=AY (a:=a) (h:=n.line) (s:=s) H';have Sx:=hLb L[j] (List.getElem_mem H');have Up:=qf a n.line (L.take j) s;rw[List.length_take]at Up;generalize L[j]=x at*;have hen:l5 x=.agg [vI x.fr,vI x.to,vI x.x,vI x.y,vI x.w]:=rfl;apply sR;simp only[go_sem,seval,t0,t1,t4,t33,t34,t35,q,hix,hen];refine af λi6 Z6 s6 a6 f6=>?_;have d4:=s6 _ _ c4;have Zu:=aq c4 f6;simp only[go_sem,seval,a6,d4,t0,t1,t4,ab Zu,aj];refine ad.call rfl rfl rfl (Em (Tq.mono (s6.aE f6)) (fe a n.line x) (show Bq x.y from⟨by omega,by omega⟩) (show Bq n.line from⟨by omega,by omega⟩) (by omega)) ?_;rintro r Z' ⟨rfl,T0⟩;have r1:RM .i64 ((j:Int)+1):=ao (by omega) (by omega);apply sR;simp only[go_sem,seval,t0,t1,t4,t33,t34,t35,r1];exact⟨_,by omega,j+1,by omega,rfl,by rw[SB];exact T0,by simp[t0,t1,t4,t33,t34]⟩
  .have q:((j:Int)<L.length)=False:=eq_false (by omega);rw[List.take_of_length_le (by omega)]at Tq;apply sR;simp only[go_sem,seval,t0,t1,t4,t33,t34,t35,q];exact⟨_,_,aa.refl _,Wk.refl (aa.refl _) _,rfl,Tq.narrow h0i n4.symm⟩
def nd0:Nd:=⟨0,0,SW.zero,0,0,[],0,0,0⟩
def R4(l:List Nd)(a:Nat):Nd:=l.getD a nd0
def iU{l:List Nd}{a:Nat}(h:a<l.length):R4 l a=l[a]:=by simp[R4,h]
def eA(l:List Nd)(rs:List Rm):Nat->Nat->Nat->WS->WS
 |0,_,_,s=>s
 |k+1,a,e,s=>if a<e then eA l rs k (a+(Sa l a).toNat) e
   (if(R4 l a).kind=1 then(eA l rs k (a+1) (a+(Sa l a).toNat) (s.enter (R4 l a).st)).leave (R4 l a).st
    else if(R4 l a).kind=2 then s.text rs a (R4 l a)else if(R4 l a).kind=3 then WS.mono l rs s a (R4 l a)else s.float rs a (R4 l a))else s
def mT{l:List Nd}{rs:List Rm}{e:Nat}(he:e<=l.length):∀(k j a:Nat) (s:WS),e-a<=k->e-a<=j->cq l a e=true->eA l rs k a e s=eA l rs j a e s
 |0,0,_,_,_,_,_=>rfl
 |0,j+1,a,s,h,_,_=>by rw[eA,eA,if_neg (by omega)]
 |k+1,0,a,s,_,h,_=>by rw[eA,eA,if_neg (by omega)]
 |k+1,j+1,a,s,h,h',hr=>by
  rw[eA,eA];by_cases H':a<e
  .obtain⟨h1,h2⟩:=dt he hr (Nat.le_refl a) H';obtain⟨h3,h4⟩:=ej he hr H';rw[if_pos H',if_pos H',mT (e:=a+(Sa l a).toNat) (by omega) k j _ _ (by omega) (by omega) h4,mT he k j _ _ (by omega) (by omega) h3]
  .rw[if_neg H',if_neg H']
def Tb(l:List Nd)(a e:Nat):Nat:=(((l.take e).drop a).map λn=>4+n.words.length).sum
def G3(l:List Nd)(a:Nat):Tb l a a=0:=by unfold Tb;rw[List.drop_of_length_le (by rw[List.length_take];omega)];rfl
def kN{l:List Nd}{a m e:Nat}(h1:a<=m)(h2:m<=e)(h3:e<=l.length):Tb l a e=Tb l a m+Tb l m e:=by
 unfold Tb;rw[<-List.sum_append_nat,<-List.map_append];congr 2;have e1:l.take m=(l.take e).take m:=by rw[List.take_take,Nat.min_eq_left h2]
 rw[e1]
 conv=>lhs;rw[<-List.take_append_drop m (l.take e)]
 rw[List.drop_append_of_le_length (by rw[List.length_take,List.length_take];omega)]
def HF{l:List Nd}{a:Nat}(h:a<l.length):Tb l a (a+1)=4+l[a].words.length:=by
 unfold Tb;rw[List.take_succ_eq_append_getElem h,List.drop_append_of_le_length (by rw[List.length_take];omega),List.drop_of_length_le (by rw[List.length_take];omega)];simp
def sF{l:List Nd}{a e:Nat}(h1:a<e)(h3:e<=l.length):Tb l a e=4+(R4 l a).words.length+Tb l (a+1) e:=by
 rw[kN (Nat.le_succ a) h1 h3,HF (by omega),iU (by omega)]
structure fU(s:WS)(C:Nat):Prop where
 bd:Bd s (1099511627776*(C:Int))
 RY:s.atoms.length<=C
 fl:s.B'.length<=C
def fU.more{s:WS}{C D:Nat}(h:fU s C)(hD:C<=D):fU s D:=⟨h.bd.mono (by omega),Nat.le_trans h.RY hD,Nat.le_trans h.fl hD⟩
def kF{l:List Nd}{rs:List Rm}{s:WS}{C:Nat}(h:fU s C){n:Nd}(hn:Zb n)(a:Nat):fU (WS.mono l rs s a n) (C+1):=by
 obtain⟨⟨hf,h1,h2,h3,h4⟩,h5,h6⟩:=h;have hyr:=fV (w:=n.w) (high:=n.h) (y:=s.RK.y+s.RK.m) (s:=eI rs a) (λf U1=>(hf f U1).yB);have hh:=hn.h;refine⟨⟨λf U1=>(hf f U1).mono (by omega),?_,?_,?_,?_⟩,?_,?_⟩<;>simp only[WS.mono,WS.put,List.length_append,List.length_cons,List.length_nil]<;>omega
def jr{l:List Nd}{rs:List Rm}(hD:YE l rs){s:WS}{C:Nat}(h:fU s C){a:Nat}(ha:a<l.length){n:Nd}(hn:Zb n)(hk:n.kind=4):fU (s.float rs a n) (C+1):=by
 obtain⟨⟨hf,h1,h2,h3,h4⟩,h5,h6⟩:=h;have hb:=hn.box (.inr hk);have hw:=hn.w;have hh:=hn.h;refine⟨⟨λf U1=>?_,h1,h2,h3,by simp only[WS.float];omega⟩,by simp only[WS.float];omega,by simp only[WS.float,tB,List.length_append,List.length_cons,List.length_nil];omega⟩;exact(Hk (f:=⟨a,n.side,s.atoms.length,0,0,n.w,n.h⟩) hf (hD.span ha) (by omega) (by omega) (by simp only;omega) (by simp only;omega) (by simp only;omega) (by simp only;omega) f U1).mono (by omega)
def kU{rs:List Rm}{s:WS}{C:Nat}(h:fU s C){n:Nd}(hn:Zb n)(a:Nat):fU (s.text rs a n) (C+n.words.length):=by
 obtain⟨⟨hf,h1,h2,h3,h4⟩,h5,h6⟩:=h;have hl:=hn.line;unfold WS.text;have hLl:=jx s.B' n.words n.space n.line (eI rs a) n.words.length 0 (s.RK.y+s.RK.m);have hLb:=jl (ws:=n.words) (space:=n.space) (s:=eI rs a) (λf U1=>(hf f U1).yB) hl.1 n.words.length 0 (s.RK.y+s.RK.m);generalize dM s.B' n.words n.space n.line (eI rs a) n.words.length 0 (s.RK.y+s.RK.m)=L at*;have hmul:n.line*(n.words.length:Int)<=1099511627776*(n.words.length:Int):=Int.mul_le_mul_of_nonneg_right hl.2 (by omega);have Wj:0<=n.line*(n.words.length:Int):=Int.mul_nonneg hl.1 (by omega);have key:∀(L:List Ln) (t:WS),(∀x∈L,s.RK.y+s.RK.m<=x.y/\x.y+n.line<=max (s.RK.y+s.RK.m) (1099511627776*(C:Int))+n.line*(n.words.length:Int))->t.B'=s.B'->0<=t.RK.y->0<=t.RK.m->t.RK.m<=1099511627776->
  t.RK.y+t.RK.m<=1099511627776*((C+n.words.length:Nat):Int)->(hU a n.line t L).B'=s.B'/\0<=(hU a n.line t L).RK.y/\0<=(hU a n.line t L).RK.m/\(hU a n.line t L).RK.m<=1099511627776/\(hU a n.line t L).RK.y+(hU a n.line t L).RK.m<=1099511627776*((C+n.words.length:Nat):Int):=by
  intro L
  induction L with
  |nil=>intro t _ g1 g2 g3 g4 g5;exact⟨g1,g2,g3,g4,g5⟩
  |cons x L ih=>
   intro t hx g1 g2 g3 g4 g5;have hx0:=hx x (by simp);exact ih (t.put (fe a n.line x)) (λy hy=>hx y (by simp[hy])) g1 (by simp only[WS.put,fe];omega) (by simp[WS.put]) (by simp[WS.put]) (by simp only[WS.put,fe];omega)
 obtain⟨k1,k2,k3,k4,k5⟩:=key L s hLb rfl h1 h2 h3 (by omega);have Up:=qf a n.line L s;refine⟨⟨λf U1=>(hf f ?_).mono (by omega),k2,k3,k4,k5⟩,?_,?_⟩
 .have:f∈(hU a n.line s L).B':=U1;rw[k1]at this;exact this
 .show(hU a n.line s L).atoms.length<=_;omega
 .show(hU a n.line s L).B'.length<=_;rw[k1];omega
def fk{s:WS}{C:Nat}(h:fU s C){t:SW}(ht:SOk t):fU (s.enter t) (C+2):=⟨(h.bd.enter ht).mono (by omega),by have:=h.RY;simp only[WS.enter];omega,by have:=h.fl;simp only[WS.enter];omega⟩
def jP{s:WS}{C:Nat}(h:fU s C){t:SW}(ht:SOk t):fU (s.leave t) (C+2):=⟨(h.bd.leave ht).mono (by omega),by have:=h.RY;simp only[WS.leave];omega,by have:=h.fl;simp only[WS.leave];omega⟩
def gz{l:List Nd}{rs:List Rm}(hD:YE l rs):∀(k a e:Nat) (s:WS) (C:Nat),e-a<=k->a<=e->e<=l.length->cq l a e=true->fU s C->fU (eA l rs k a e s) (C+Tb l a e)
 |0,a,e,s,C,_,Xa,_,_,h=>h.more (Nat.le_add_right _ _)
 |k+1,a,e,s,C,hk,Xa,he,hr,h=>by
  rw[eA];by_cases H':a<e
  .rw[if_pos H'];obtain⟨h1,h2⟩:=dt he hr (Nat.le_refl a) H';obtain⟨h3,h4⟩:=ej he hr H';have R7:Zb (R4 l a):=by rw[iU (by omega)];exact gr hD.Yd (by omega)
   have YQ:Tb l a e=Tb l a (a+(Sa l a).toNat)+Tb l (a+(Sa l a).toNat) e:=kN (by omega) (by omega) he;have hc2:Tb l a (a+(Sa l a).toNat)=4+(R4 l a).words.length+Tb l (a+1) (a+(Sa l a).toNat):=sF (by omega) (by omega);have step:∀t,fU t (C+Tb l a (a+(Sa l a).toNat))->fU (eA l rs k (a+(Sa l a).toNat) e t) (C+Tb l a e):=λt ht=>by
    rw[YQ,<-Nat.add_assoc];exact gz hD k _ e t _ (by omega) (by omega) he h3 ht
   refine step _ ?_;rw[hc2];split
   .have:=jP (gz hD k (a+1) (a+(Sa l a).toNat) _ _ (by omega) (by omega) (by omega) h4 (fk h R7.st)) R7.st;exact this.more (by omega)
   .split
    .exact(kU h R7 a).more (by omega)
    .split
     .exact(kF h R7 a).more (by omega)
     .rename_i g1 g2 g3;have hk4:(R4 l a).kind=4:=by have:=R7.kind;omega
      exact(jr hD h (by omega) R7 hk4).more (by omega)
  .rw[if_neg H'];exact h.more (Nat.le_add_right _ _)
open Go.Proofs Go.Proofs.Tryz
def Nz(l:List Nd)(rs:List Rm)(iw:Nat)(a e:Nat)(C:Nat):Prop:=
 ∀(s:WS) (Z0 U:ai),Uq l rs Z0 iw s U->fU s C->aD prog 107 [.ptr iw 0 0,vI a,vI e] U λr Z'=>r=.RB []/\Uq l rs Z0 iw (eA l rs (e-a) a e s) Z'
def Uq.Fb{l:List Nd}{rs:List Rm}{Z0 J:ai}{iw:Nat}{s:WS}(hJ:Uq l rs Z0 iw s J){va vf:V}{y m:Int}(w:J iw=some ⟨209,7,[.agg [va,vf,vI s.Rw,vI y,vI m,aK l,cH rs]]⟩)(p:Pn):
 Uq l rs Z0 iw { s with RK:=p } (C' J iw ⟨209,7,[.agg [va,vf,vI s.Rw,vI p.y,vI p.m,aK l,cH rs]]⟩):=by
 obtain⟨va',Vo,w',g1,g2,g3⟩:=hJ.row;rw[w]at w';simp only[Oi,Ob.mk.injEq,List.cons.injEq,V.agg.injEq,true_and,and_true]at w';obtain⟨rfl,rfl,_⟩:=w';exact⟨hJ.sub.aE hJ.no,hJ.no,va,vf,ag,g1.Bg,g2.Bg,g3⟩
def jB(s:SW):V:=.agg [vI s.top,vI s.RT,vI s.RI,vI s.Rx,vI s.Sv,vI s.R8,vI s.Sh,vI s.head,vI s.before,vI s.after,vI s.inside,vI s.clear]
def F7{l:List Nd}{rs:List Rm}(hD:YE l rs){Z0 U:ai}{iw:Nat}{s:WS}{C:Nat}(hJ:Uq l rs Z0 iw s U)(hI:fU s C)(hC:C<=50000)(a:Nat)(ha:a<l.length)(SN:Nz l rs iw (a+1) (a+(Sa l a).toNat) (C+2))(hC2:C+2+Tb l (a+1) (a+(Sa l a).toNat)<=50000)
 (TF:a+(Sa l a).toNat<=l.length)(hrB:cq l (a+1) (a+(Sa l a).toNat)=true)(TI:1<=Sa l a):
 aD prog 163 [.ptr iw 0 0,vI a] U λr Z'=>r=.RB []/\Uq l rs Z0 iw ((eA l rs (a+(Sa l a).toNat-(a+1)) (a+1) (a+(Sa l a).toNat) (s.enter l[a].st)).leave l[a].st) Z':=by
 obtain⟨va,vf,w1,V9,WU,hf2⟩:=hJ.row;obtain⟨ca,sa⟩:=V9.vc;obtain⟨cf,sf⟩:=WU.vc;have R7:=gr hD.Yd ha;have Rv:=ji l ha;have hszn:=lf ha;have hfine:=hD.rE;have q3:((a:Int)+l[a].size)=((a+(Sa l a).toNat:Nat):Int):=by rw[hszn];omega
 have q2:((a:Int)+1)=((a+1:Nat):Int):=by omega
 have hB:=hI.bd;have hm:=hB.m1;have Wj:=hB.m0;have ZX:=hB.y0;have hyB:=hB.yB;have U6:=hI.fl;refine P0.r (by simp[LU]) ?_;refine ad.mix 7 ?_;apply sR;simp only[go_sem,seval,LU,w1,ca,cf,az,ae,aj,av,Rv,Nd.cells];refine af λi4 Z4 s4 a4 f4=>?_;have w4':=s4 _ _ w1;have n4:=aq w1 f4;simp only[go_sem,seval,a4,w4',ab n4,ca,cf,az,ae,aj,av];generalize Tv:C' Z4 i4 _=Y4;have b4:Y4 i4=some ⟨56,12,[jB l[a].st]⟩:=by rw[<-Tv];exact ag
 have Ze:aa U Y4:=by rw[<-Tv];exact s4.aE f4
 clear Tv;have w4:=Ze _ _ w1;have hlen:uL Y4 vf (aH s.B'):=(WU.mono Ze).Gh;have h0i:Z0 i4=none:=hJ.sub.none f4;have Xl:=(hJ.mono Ze).ni b4 (by simp) (by simp) n4.symm;refine Go.xp rfl rfl rfl (λZ8 h8=>aV.uP (args':=[aH s.B',vI l[a].st.clear]) ⟨(hlen.mono h8).at,Uy _,trivial⟩ (zy s.B' l[a].st.clear (by omega) (hB.YF (by omega))) rfl) ?_;apply sG;simp only[go_sem,seval];obtain⟨s1,WI⟩:∃x,x=s.enter l[a].st:=⟨_,rfl⟩
 have hI1:=fk hI R7.st;rw[<-WI]at hI1|-;unfold WS.enter at WI;simp only at WI;cases ZG:(ee (lC l[a].st.clear) s.B').2
 .rw[ZG]at WI;simp only[Bool.false_eq_true,↓reduceIte]at WI;simp only[go_sem,seval,di];obtain⟨p,hp⟩:∃p:Pn,p=s.RK:=⟨_,rfl⟩
  have hs1e':s1={ s with RK:=eD p l[a].st.top l[a].st.RI }:=by rw[WI,hp]
  have Wl:Uq l rs (C' Z0 i4 ⟨56,12,[jB l[a].st]⟩) iw { s with RK:=p } Y4:=by rw[hp];exact Xl
  have w5:Y4 iw=some ⟨209,7,[.agg [va,vf,vI s.Rw,vI p.y,vI p.m,aK l,cH rs]]⟩:=by rw[hp];exact w4
  have b5:=b4;obtain⟨hp1,hp2,hp3,hp4⟩:0<=p.y/\0<=p.m/\p.m<=1099511627776/\p.y+p.m<=1099511627776*(C:Int):=by rw[hp];exact⟨ZX,Wj,hm,hyB⟩
  clear hp;generalize Y4=Y5 at*;rw[jB]at b5;have RV:=R7.st;have k1:=RV.top;have k2:=RV.RI;have k3:=RV.RT;have k4:=RV.Rx;refine ad.rA (by kernel_rfl) [0,1,2,3,4,5,6,7,8,9,10,11,12] [[],[],[1],[1,2],[1,2,3],[],[5],[],[7],[1,2,3,4,5,6,7,8],[0,1,2,3,4,5,6,7,8,9],[0,1,2,3,4,5,6,7,8,9,10],[0,1,2,3,4,5,6,7,8,9,10,11]] [0,2,4,6,8,10,12,14,16,18,20,22,24] (by kernel_rfl) (by kernel_rfl) ?_;refine RE.SC (n:=0) [18,20,22,24] [0,2,4,6,8,10,12,14,16] [⟨(.some 36),(.RJ (.t 0)),.none⟩,⟨(.some 37),(.RJ (.t 0)),.none⟩,⟨(.some 38),(.nilCheck (.t 37)),.none⟩,⟨(.some 39),(.RU .true 3 2 (.t 38)),.none⟩,⟨(.some 40),(.load .true 2 (.t 39)),.none⟩,⟨(.some 41),(.RU .false 0 1 (.t 4)),.none⟩,⟨(.some 42),(.load .false 1 (.t 41)),.none⟩,⟨(.some 43),(.RU .false 2 1 (.t 4)),.none⟩,⟨(.some 44),(.load .false 1 (.t 43)),.none⟩] rfl rfl ?_;apply sG;simp only[go_sem,seval,w5,b5,ca,cf,az,ae];refine RE.aB rfl rfl rfl rfl rfl (Cq p l[a].st.top l[a].st.RI ⟨by omega,by omega⟩ ⟨by omega,by omega⟩ ⟨by omega,by omega⟩ ⟨by omega,by omega⟩ _) ?_;refine RE.SC (n:=0) [] [20,22,24] [⟨(.some 46),(.nilCheck (.t 36)),.none⟩,⟨(.some 47),(.RU .true 3 2 (.t 46)),.none⟩,⟨.none,(.store 2 (.t 47) (.t 45)),.none⟩] rfl rfl ?_;apply sG;simp only[go_sem,seval,w5,gN,ca,cf,az,ae];have Wn:=Wl.Fb w5 (eD p l[a].st.top l[a].st.RI);rw[<-hs1e']at Wn;have r1:RM .i64 ((a:Int)+1):=ao (by omega) (by omega);have r2:RM .i64 ((a:Int)+l[a].size):=ao (by omega) (by omega);have w6:=ag (U:=Y5) (id:=iw) (o:=⟨209,7,[.agg [va,vf,vI s.Rw,vI (eD p l[a].st.top l[a].st.RI).y,vI (eD p l[a].st.top l[a].st.RI).m,aK l,cH rs]]⟩);have hc:=SN s1 _ _ Wn hI1;rw[<-q2,<-q3]at hc;generalize C' Y5 iw ⟨209,7,[.agg [va,vf,vI s.Rw,vI (eD p l[a].st.top l[a].st.RI).y,vI (eD p l[a].st.top l[a].st.RI).m,aK l,cH rs]]⟩=Y6 at*;apply sR;simp only[go_sem,seval,w6,Rv,Nd.cells,r1,r2,ca,cf,az,ae,aj];refine ad.call rfl rfl rfl hc ?_;rintro r Z7 ⟨rfl,ZZ⟩;have hI7:=gz hD (a+(Sa l a).toNat-(a+1)) (a+1) (a+(Sa l a).toNat) s1 _ (Nat.le_refl _) (by omega) TF hrB hI1;have b7:=ZZ.sub _ _ (ag (id:=i4));rw[jB]at b7;generalize eA l rs (a+(Sa l a).toNat-(a+1)) (a+1) (a+(Sa l a).toNat) s1=s2 at*;obtain⟨va7,vf7,w7,g71,g72,_⟩:=ZZ.row;obtain⟨ca7,_⟩:=g71.vc;obtain⟨cf7,_⟩:=g72.vc;have m1:=hI7.bd.m1;have m2:=hI7.bd.m0;have m3:=hI7.bd.y0;have m4:=hI7.bd.yB;apply sR;simp only[go_sem,seval,di];refine ad.rA (by kernel_rfl) [0,1,2,3,4,5,6,7,8,9,10,11,12] [[],[],[1],[1,2],[1,2,3],[],[5],[],[7],[1,2,3,4,5,6,7,8],[0,1,2,3,4,5,6,7,8,9],[0,1,2,3,4,5,6,7,8,9,10],[0,1,2,3,4,5,6,7,8,9,10,11]] [0,2,4,6,8,10,12,14,16,18,20,22,24] (by kernel_rfl) (by kernel_rfl) ?_;refine RE.SC (n:=0) [18,20,22,24] [0,2,4,6,8,10,12,14,16] [⟨(.some 62),(.RJ (.t 0)),.none⟩,⟨(.some 63),(.RJ (.t 0)),.none⟩,⟨(.some 64),(.nilCheck (.t 63)),.none⟩,⟨(.some 65),(.RU .true 3 2 (.t 64)),.none⟩,⟨(.some 66),(.load .true 2 (.t 65)),.none⟩,⟨(.some 67),(.RU .false 1 1 (.t 4)),.none⟩,⟨(.some 68),(.load .false 1 (.t 67)),.none⟩,⟨(.some 69),(.RU .false 3 1 (.t 4)),.none⟩,⟨(.some 70),(.load .false 1 (.t 69)),.none⟩] rfl rfl ?_;apply sG;simp only[go_sem,seval,w7,b7,ca7,cf7,az,ae];refine RE.aB rfl rfl rfl rfl rfl (Cy s2.RK l[a].st.RT l[a].st.Rx ⟨by omega,by omega⟩ ⟨by omega,by omega⟩ ⟨by omega,by omega⟩ ⟨by omega,by omega⟩ _) ?_;refine RE.SC (n:=0) [] [20,22,24] [⟨(.some 72),(.nilCheck (.t 62)),.none⟩,⟨(.some 73),(.RU .true 3 2 (.t 72)),.none⟩,⟨.none,(.store 2 (.t 73) (.t 71)),.none⟩] rfl rfl ?_;apply sG;simp only[go_sem,seval,w7,gN,ca7,cf7,az,ae];apply sR;simp only[go_sem,seval];exact⟨_,_,aa.refl _,Wk.refl (aa.refl _) _,rfl,(ZZ.Fb w7 (ln s2.RK l[a].st.RT l[a].st.Rx)).narrow h0i n4.symm⟩
 .rw[ZG]at WI;simp only[↓reduceIte]at WI;obtain⟨f,hfm,e1,_⟩:=kZ ZG;have e2:(lC l[a].st.clear f).1=f.y+f.h:=rfl;have Ws:=hB.fl f hfm;generalize (ee (lC l[a].st.clear) s.B').1=low at*;simp only[go_sem,seval,w4,ca,cf,az,ae];refine ad.aB rfl rfl rfl (Ep s.RK low ⟨by omega,by omega⟩ ⟨by omega,by omega⟩ _) ?_;apply sR;simp only[go_sem,seval,w4,gN,ca,cf,az,ae,di];obtain⟨p,hp⟩:∃p:Pn,p=jf s.RK low:=⟨_,rfl⟩
  rw[<-hp]at WI|-;have hs1e':=WI;have Wl:=Xl.Fb w4 p;have w5:=ag (U:=Y4) (id:=iw) (o:=⟨209,7,[.agg [va,vf,vI s.Rw,vI p.y,vI p.m,aK l,cH rs]]⟩);have b5:C' Y4 iw ⟨209,7,[.agg [va,vf,vI s.Rw,vI p.y,vI p.m,aK l,cH rs]]⟩ i4=some ⟨56,12,[jB l[a].st]⟩:=by rw[ab n4.symm];exact b4
  obtain⟨hp1,hp2,hp3,hp4⟩:0<=p.y/\0<=p.m/\p.m<=1099511627776/\p.y+p.m<=1099511627776*(C:Int):=by
   rw[hp];have hy:=Ws.yB;have ZX:=Ws.y0;have hh0:=Ws.h0;unfold jf;split<;>(try simp only)<;>omega
  clear hp;generalize C' Y4 iw ⟨209,7,[.agg [va,vf,vI s.Rw,vI p.y,vI p.m,aK l,cH rs]]⟩=Y5 at*;rw[jB]at b5;have RV:=R7.st;have k1:=RV.top;have k2:=RV.RI;have k3:=RV.RT;have k4:=RV.Rx;refine ad.rA (by kernel_rfl) [0,1,2,3,4,5,6,7,8,9,10,11,12] [[],[],[1],[1,2],[1,2,3],[],[5],[],[7],[1,2,3,4,5,6,7,8],[0,1,2,3,4,5,6,7,8,9],[0,1,2,3,4,5,6,7,8,9,10],[0,1,2,3,4,5,6,7,8,9,10,11]] [0,2,4,6,8,10,12,14,16,18,20,22,24] (by kernel_rfl) (by kernel_rfl) ?_;refine RE.SC (n:=0) [18,20,22,24] [0,2,4,6,8,10,12,14,16] [⟨(.some 36),(.RJ (.t 0)),.none⟩,⟨(.some 37),(.RJ (.t 0)),.none⟩,⟨(.some 38),(.nilCheck (.t 37)),.none⟩,⟨(.some 39),(.RU .true 3 2 (.t 38)),.none⟩,⟨(.some 40),(.load .true 2 (.t 39)),.none⟩,⟨(.some 41),(.RU .false 0 1 (.t 4)),.none⟩,⟨(.some 42),(.load .false 1 (.t 41)),.none⟩,⟨(.some 43),(.RU .false 2 1 (.t 4)),.none⟩,⟨(.some 44),(.load .false 1 (.t 43)),.none⟩] rfl rfl ?_;apply sG;simp only[go_sem,seval,w5,b5,ca,cf,az,ae];refine RE.aB rfl rfl rfl rfl rfl (Cq p l[a].st.top l[a].st.RI ⟨by omega,by omega⟩ ⟨by omega,by omega⟩ ⟨by omega,by omega⟩ ⟨by omega,by omega⟩ _) ?_;refine RE.SC (n:=0) [] [20,22,24] [⟨(.some 46),(.nilCheck (.t 36)),.none⟩,⟨(.some 47),(.RU .true 3 2 (.t 46)),.none⟩,⟨.none,(.store 2 (.t 47) (.t 45)),.none⟩] rfl rfl ?_;apply sG;simp only[go_sem,seval,w5,gN,ca,cf,az,ae];have Wn:=Wl.Fb w5 (eD p l[a].st.top l[a].st.RI);rw[<-hs1e']at Wn;have r1:RM .i64 ((a:Int)+1):=ao (by omega) (by omega);have r2:RM .i64 ((a:Int)+l[a].size):=ao (by omega) (by omega);have w6:=ag (U:=Y5) (id:=iw) (o:=⟨209,7,[.agg [va,vf,vI s.Rw,vI (eD p l[a].st.top l[a].st.RI).y,vI (eD p l[a].st.top l[a].st.RI).m,aK l,cH rs]]⟩);have hc:=SN s1 _ _ Wn hI1;rw[<-q2,<-q3]at hc;generalize C' Y5 iw ⟨209,7,[.agg [va,vf,vI s.Rw,vI (eD p l[a].st.top l[a].st.RI).y,vI (eD p l[a].st.top l[a].st.RI).m,aK l,cH rs]]⟩=Y6 at*;apply sR;simp only[go_sem,seval,w6,Rv,Nd.cells,r1,r2,ca,cf,az,ae,aj];refine ad.call rfl rfl rfl hc ?_;rintro r Z7 ⟨rfl,ZZ⟩;have hI7:=gz hD (a+(Sa l a).toNat-(a+1)) (a+1) (a+(Sa l a).toNat) s1 _ (Nat.le_refl _) (by omega) TF hrB hI1;have b7:=ZZ.sub _ _ (ag (id:=i4));rw[jB]at b7;generalize eA l rs (a+(Sa l a).toNat-(a+1)) (a+1) (a+(Sa l a).toNat) s1=s2 at*;obtain⟨va7,vf7,w7,g71,g72,_⟩:=ZZ.row;obtain⟨ca7,_⟩:=g71.vc;obtain⟨cf7,_⟩:=g72.vc;have m1:=hI7.bd.m1;have m2:=hI7.bd.m0;have m3:=hI7.bd.y0;have m4:=hI7.bd.yB;apply sR;simp only[go_sem,seval,di];refine ad.rA (by kernel_rfl) [0,1,2,3,4,5,6,7,8,9,10,11,12] [[],[],[1],[1,2],[1,2,3],[],[5],[],[7],[1,2,3,4,5,6,7,8],[0,1,2,3,4,5,6,7,8,9],[0,1,2,3,4,5,6,7,8,9,10],[0,1,2,3,4,5,6,7,8,9,10,11]] [0,2,4,6,8,10,12,14,16,18,20,22,24] (by kernel_rfl) (by kernel_rfl) ?_;refine RE.SC (n:=0) [18,20,22,24] [0,2,4,6,8,10,12,14,16] [⟨(.some 62),(.RJ (.t 0)),.none⟩,⟨(.some 63),(.RJ (.t 0)),.none⟩,⟨(.some 64),(.nilCheck (.t 63)),.none⟩,⟨(.some 65),(.RU .true 3 2 (.t 64)),.none⟩,⟨(.some 66),(.load .true 2 (.t 65)),.none⟩,⟨(.some 67),(.RU .false 1 1 (.t 4)),.none⟩,⟨(.some 68),(.load .false 1 (.t 67)),.none⟩,⟨(.some 69),(.RU .false 3 1 (.t 4)),.none⟩,⟨(.some 70),(.load .false 1 (.t 69)),.none⟩] rfl rfl ?_;apply sG;simp only[go_sem,seval,w7,b7,ca7,cf7,az,ae];refine RE.aB rfl rfl rfl rfl rfl (Cy s2.RK l[a].st.RT l[a].st.Rx ⟨by omega,by omega⟩ ⟨by omega,by omega⟩ ⟨by omega,by omega⟩ ⟨by omega,by omega⟩ _) ?_;refine RE.SC (n:=0) [] [20,22,24] [⟨(.some 72),(.nilCheck (.t 62)),.none⟩,⟨(.some 73),(.RU .true 3 2 (.t 72)),.none⟩,⟨.none,(.store 2 (.t 73) (.t 71)),.none⟩] rfl rfl ?_;apply sG;simp only[go_sem,seval,w7,gN,ca7,cf7,az,ae];apply sR;simp only[go_sem,seval];exact⟨_,_,aa.refl _,Wk.refl (aa.refl _) _,rfl,(ZZ.Fb w7 (ln s2.RK l[a].st.RT l[a].st.Rx)).narrow h0i n4.symm⟩
open Go.Proofs Go.Proofs.Tryz
def D1{l:List Nd}{rs:List Rm}{b e:Nat}(he:e<=l.length)(hr:cq l b e=true)(H':b<e)(s:WS):
 eA l rs (e-b) b e s=eA l rs (e-(b+(Sa l b).toNat)) (b+(Sa l b).toNat) e
  (if(R4 l b).kind=1 then(eA l rs (b+(Sa l b).toNat-(b+1)) (b+1) (b+(Sa l b).toNat) (s.enter (R4 l b).st)).leave (R4 l b).st
   else if(R4 l b).kind=2 then s.text rs b (R4 l b)else if(R4 l b).kind=3 then WS.mono l rs s b (R4 l b)else s.float rs b (R4 l b)):=by
 obtain⟨h1,h2⟩:=dt he hr (Nat.le_refl b) H';obtain⟨h3,h4⟩:=ej he hr H';rw[show e-b=(e-b-1)+1 by omega,eA,if_pos H',mT (e:=b+(Sa l b).toNat) (by omega) (e-b-1) _ _ _ (by omega) (Nat.le_refl _) h4,mT he (e-b-1) _ _ _ (by omega) (Nat.le_refl _) h3]
def J4{l:List Nd}{rs:List Rm}(hD:YE l rs)(hwl:∀n∈l,n.words.length<=10000){iw:Nat}:∀(m a e C:Nat),e-a<m->a<=e->e<=l.length->cq l a e=true->C+Tb l a e<=50000->Nz l rs iw a e C:=by
 intro m
 induction m with
 |zero=>intro a e C h;omega
 |succ m ih=>?_
 intro a e C hm Xa he hrB hC s Z0 U hJ hI;have hfine:=hD.rE;refine PZ.r (by simp[JH]) ?_;refine ad.mix 7 ?_;obtain⟨va0,vf0,w0,_,_,_⟩:=hJ.row;have Ww:∀f:FuncId,(V.bm f [.ptr iw 0 0]).cells=[.bm f [.ptr iw 0 0]]:=λ_=>rfl;have Sx:∀f:FuncId,(V.bm f [.ptr iw 0 0]).stays=true:=λ_=>rfl;have Xv:V.RQ.cells=[.RQ]:=rfl;apply sR;simp only[go_sem,seval,JH,Ww,Sx,Xv];refine af λi6 Z6 s6 a6 f6=>?_;have n6:=aq w0 f6;simp only[go_sem,seval,a6,Ww,Sx,Xv];generalize VT:C' Z6 i6 _=Y6;have b6:Y6 i6=some ⟨260,5,[.agg [.RQ,.bm 163 [.ptr iw 0 0],.bm 164 [.ptr iw 0 0],.bm 165 [.ptr iw 0 0],.bm 166 [.ptr iw 0 0]]]⟩:=by rw[<-VT];exact ag
 have s6':aa U Y6:=by rw[<-VT];exact s6.aE f6
 clear VT;have h0i:Z0 i6=none:=hJ.sub.none f6;have Wn:=(hJ.mono s6').ni b6 (by simp) (by simp) n6.symm;refine ad.loop (λq st=>∃(b:Nat) (s':WS),q=e-b/\a<=b/\b<=e/\cq l b e=true/\eA l rs (e-a) a e s=eA l rs (e-b) b e s'/\fU s' (C+Tb l a b)/\
  Uq l rs (C' Z0 i6 ⟨260,5,[.agg [.RQ,.bm 163 [.ptr iw 0 0],.bm 164 [.ptr iw 0 0],.bm 165 [.ptr iw 0 0],.bm 166 [.ptr iw 0 0]]]⟩) iw s' st.U/\
  st.s 0=.ptr iw 0 0/\st.s 1=vI b/\st.s 2=vI e/\st.s 6=.ptr i6 0 0) (e-a) ?_ ?_
 .exact⟨a,s,rfl,Nat.le_refl _,Xa,hrB,rfl,by rw[G3];exact hI,Wn,rfl,rfl,rfl,rfl⟩
 .rintro q ⟨S,J⟩ ⟨b,s',rfl,WA,ZW,hbB,heq,hIb,hJb,t0,t1,t2,t6⟩;simp only at hJb t0 t1 t2 t6;refine ad.mix 7 ?_;by_cases H':b<e
  .have q1:((b:Int)<(e:Int))=True:=eq_true (by omega);obtain⟨h1,h2⟩:=dt he hbB (Nat.le_refl b) H';obtain⟨h3,h4⟩:=ej he hbB H';have SD:b<l.length:=by omega
   have R7:=gr hD.Yd SD;have TF:=lf SD;have Rv:=ji l SD;have YQ:Tb l a e=Tb l a b+Tb l b e:=kN WA ZW he;have hc2:Tb l b e=Tb l b (b+(Sa l b).toNat)+Tb l (b+(Sa l b).toNat) e:=kN (by omega) (by omega) he;have Ue:Tb l b (b+(Sa l b).toNat)=4+(R4 l b).words.length+Tb l (b+1) (b+(Sa l b).toNat):=sF (by omega) (by omega);have hc4:Tb l a (b+(Sa l b).toNat)=Tb l a b+Tb l b (b+(Sa l b).toNat):=kN WA (by omega) (by omega);have Tm:=iU SD;have q3:((b:Int)+l[b].size)=((b+(Sa l b).toNat:Nat):Int):=by rw[TF];omega
   have r2:RM .i64 ((b:Int)+l[b].size):=ao (by omega) (by omega);have RV:=D1 (rs:=rs) he hbB H' s';rw[Tm]at RV Ue;have c6:=hJb.sub _ _ (ag (id:=i6));obtain⟨va,vf,w1,g1,g2,_⟩:=hJb.row;obtain⟨ca,_⟩:=g1.vc;obtain⟨cf,_⟩:=g2.vc;have hBb:=hIb.bd.mono (C:=288230376151711744) (by omega);have SA:∀s2,s2=(if l[b].kind=1 then(eA l rs (b+(Sa l b).toNat-(b+1)) (b+1) (b+(Sa l b).toNat) (s'.enter l[b].st)).leave l[b].st
    else if l[b].kind=2 then s'.text rs b l[b]else if l[b].kind=3 then WS.mono l rs s' b l[b]else s'.float rs b l[b])->fU s2 (C+Tb l a (b+(Sa l b).toNat)):=by
     rintro s2 rfl;rw[hc4,Ue];split
     .exact(jP (gz hD _ (b+1) (b+(Sa l b).toNat) _ _ (Nat.le_refl _) (by omega) (by omega) h4 (fk hIb R7.st)) R7.st).more (by omega)
     .split
      .exact(kU hIb R7 b).more (by omega)
      .split
       .exact(kF hIb R7 b).more (by omega)
       .rename_i g1 g2 g3;exact(jr hD hIb SD R7 (by have:=R7.kind;omega)).more (by omega)
   rcases R7.kind with hk|hk|hk|hk
   .apply sR;simp only[go_sem,seval,q1,t0,t1,t2,t6,w1,c6,Rv,Nd.cells,hk,ca,cf,Ww,Sx,Xv,az,ae,aj];refine ad.kJ rfl rfl rfl (F7 hD hJb hIb (by omega) b SD (ih (b+1) (b+(Sa l b).toNat) _ (by omega) (by omega) (by omega) h4 (by omega)) (by omega) (by omega) h4 h2) ?_;rintro r Z' ⟨rfl,T0⟩;have w2':=T0.row;obtain⟨va2,vf2,w2,g12,g22,_⟩:=w2';obtain⟨ca2,_⟩:=g12.vc;obtain⟨cf2,_⟩:=g22.vc;apply sR;simp only[go_sem,seval,t0,t1,t2,t6,w2,Rv,Nd.cells,r2,ca2,cf2,az,ae,aj];refine⟨_,?_,b+(Sa l b).toNat,_,rfl,by omega,by omega,h3,by rw[heq,RV],SA _ rfl,?_,by simp[t0,t2,t6,q3]⟩
    .omega
    .simpa[hk]using T0
   .apply sR;simp only[go_sem,seval,q1,t0,t1,t2,t6,w1,c6,Rv,Nd.cells,hk,ca,cf,Ww,Sx,Xv,az,ae,aj];refine ad.kJ rfl rfl rfl (G7 hD hJb hBb (by omega) b SD (by have:=hIb.RY;omega) (by have:=hIb.fl;omega) (hwl _ (List.getElem_mem SD))) ?_;rintro r Z' ⟨rfl,T0⟩;have w2':=T0.row;obtain⟨va2,vf2,w2,g12,g22,_⟩:=w2';obtain⟨ca2,_⟩:=g12.vc;obtain⟨cf2,_⟩:=g22.vc;apply sR;simp only[go_sem,seval,t0,t1,t2,t6,w2,Rv,Nd.cells,r2,ca2,cf2,az,ae,aj];refine⟨_,?_,b+(Sa l b).toNat,_,rfl,by omega,by omega,h3,by rw[heq,RV],SA _ rfl,?_,by simp[t0,t2,t6,q3]⟩
    .omega
    .simpa[hk]using T0
   .apply sR;simp only[go_sem,seval,q1,t0,t1,t2,t6,w1,c6,Rv,Nd.cells,hk,ca,cf,Ww,Sx,Xv,az,ae,aj];refine ad.kJ rfl rfl rfl (Hm hD hJb hBb (by omega) b SD hk (by have:=hIb.RY;omega) (by have:=hIb.fl;omega)) ?_;rintro r Z' ⟨rfl,T0⟩;have w2':=T0.row;obtain⟨va2,vf2,w2,g12,g22,_⟩:=w2';obtain⟨ca2,_⟩:=g12.vc;obtain⟨cf2,_⟩:=g22.vc;apply sR;simp only[go_sem,seval,t0,t1,t2,t6,w2,Rv,Nd.cells,r2,ca2,cf2,az,ae,aj];refine⟨_,?_,b+(Sa l b).toNat,_,rfl,by omega,by omega,h3,by rw[heq,RV],SA _ rfl,?_,by simp[t0,t2,t6,q3]⟩
    .omega
    .simpa[hk]using T0
   .apply sR;simp only[go_sem,seval,q1,t0,t1,t2,t6,w1,c6,Rv,Nd.cells,hk,ca,cf,Ww,Sx,Xv,az,ae,aj];refine ad.kJ rfl rfl rfl (ER hD hJb hBb (by omega) b SD (by have:=hIb.RY;omega) (by have:=hIb.fl;omega)) ?_;rintro r Z' ⟨rfl,T0⟩;have w2':=T0.row;obtain⟨va2,vf2,w2,g12,g22,_⟩:=w2';obtain⟨ca2,_⟩:=g12.vc;obtain⟨cf2,_⟩:=g22.vc;apply sR;simp only[go_sem,seval,t0,t1,t2,t6,w2,Rv,Nd.cells,r2,ca2,cf2,az,ae,aj];refine⟨_,?_,b+(Sa l b).toNat,_,rfl,by omega,by omega,h3,by rw[heq,RV],SA _ rfl,?_,by simp[t0,t2,t6,q3]⟩
    .omega
    .simpa[hk]using T0
  .have q1:((b:Int)<(e:Int))=False:=eq_false (by omega);apply sR;simp only[go_sem,seval,q1,t0,t1,t2,t6];refine⟨_,_,aa.refl _,Wk.refl (aa.refl _) _,rfl,?_⟩;have hz:eA l rs (e-b) b e s'=s':=by rw[show e-b=0 by omega];rfl
   rw[heq,hz];exact hJb.narrow h0i n6.symm
open Go.Proofs Go.Proofs.Tryz
def tL(n:Nat)(f:P'):P':={ f with anchor:=max 0 (min f.anchor ((n:Int)-1)) }
def za(s:WS):Int:=if(ee (lC 3) s.B').2 then max (s.RK.y+s.RK.m) (ee (lC 3) s.B').1 else s.RK.y+s.RK.m
def WS.fin(s:WS):WS:={ s with Rw:=za s,B':=s.B'.map (tL s.atoms.length) }
def gV(n j:Nat)(l:List P'):List P':=(l.take j).map (tL n)++l.drop j
def mK(n j:Nat)(l:List P'):(gV n j l).length=l.length:=by unfold gV;simp;omega
def vY{n j:Nat}{l:List P'}(h:j<l.length):(gV n j l)[j]?=some l[j]:=by
 unfold gV;rw[List.getElem?_append_right (by simp;omega)];simp[h,Nat.min_eq_left (Nat.le_of_lt h)]
def wq{n j:Nat}{l:List P'}(h:j<l.length):(gV n j l).set j (tL n l[j])=gV n (j+1) l:=by
 unfold gV;have e1:((l.take j).map (tL n)).length=j:=by simp;omega
 have e2:l.drop j=l[j]::l.drop (j+1):=List.drop_eq_getElem_cons h;rw[List.set_append_right _ _ (by omega),e1,Nat.sub_self,e2,List.set_cons_zero,List.take_succ_eq_append_getElem h,List.map_append];simp
def Uq.I7{l:List Nd}{rs:List Rm}{Z0 J:ai}{iw:Nat}{s:WS}(hJ:Uq l rs Z0 iw s J){va vf:V}{h0:Int}(w:J iw=some ⟨209,7,[.agg [va,vf,vI h0,vI s.RK.y,vI s.RK.m,aK l,cH rs]]⟩)(h:Int):
 Uq l rs Z0 iw { s with Rw:=h } (C' J iw ⟨209,7,[.agg [va,vf,vI h,vI s.RK.y,vI s.RK.m,aK l,cH rs]]⟩):=by
 obtain⟨va',Vo,w',g1,g2,g3⟩:=hJ.row;rw[w]at w';simp only[Oi,Ob.mk.injEq,List.cons.injEq,V.agg.injEq,true_and,and_true]at w';obtain⟨rfl,rfl,_⟩:=w';exact⟨hJ.sub.aE hJ.no,hJ.no,va,vf,ag,g1.Bg,g2.Bg,g3⟩
def Jz{l:List Nd}{rs:List Rm}{Z0 U:ai}{iw:Nat}{s:WS}{C:Nat}(hJ:Uq l rs Z0 iw s U)(hI:fU s C)(hC:C<=100000):
 aD prog 108 [.ptr iw 0 0] U λr Z'=>r=.RB []/\Uq l rs Z0 iw s.fin Z':=by
 obtain⟨va,vf,w1,V9,WU,hf2⟩:=hJ.row;obtain⟨ca,sa⟩:=V9.vc;obtain⟨cf,sf⟩:=WU.vc;have hB:=hI.bd;have hm:=hB.m1;have Wj:=hB.m0;have ZX:=hB.y0;have hyB:=hB.yB;have U6:=hI.fl;have Up:=hI.RY;have UH:dy false va=some (.int .i64 s.atoms.length):=by rw[V9.len];simp
 have Xm:dy false vf=some (.int .i64 s.B'.length):=by rw[WU.len];simp
 refine Ox.r (by simp[Mo]) ?_;refine ad.mix 5 ?_;apply sR;simp only[go_sem,seval,Mo,w1,ca,cf,az,ae];refine ad.aB rfl rfl rfl (D3 s.RK ⟨by omega,by omega⟩ ⟨by omega,by omega⟩ _) ?_;apply sR;simp only[go_sem,seval,w1,ca,cf,az,ae];have hJ2:=hJ.I7 w1 (s.RK.y+s.RK.m);have w2:=ag (U:=U) (id:=iw) (o:=⟨209,7,[.agg [va,vf,vI (s.RK.y+s.RK.m),vI s.RK.y,vI s.RK.m,aK l,cH rs]]⟩);have hf3:=WU.Bg (o:=⟨209,7,[.agg [va,vf,vI (s.RK.y+s.RK.m),vI s.RK.y,vI s.RK.m,aK l,cH rs]]⟩);generalize C' U iw ⟨209,7,[.agg [va,vf,vI (s.RK.y+s.RK.m),vI s.RK.y,vI s.RK.m,aK l,cH rs]]⟩=Y2 at*;refine ad.aB rfl rfl rfl (aV.uP (args':=[aH s.B',vI 3]) ⟨hf3.Gh.at,Uy _,trivial⟩ (zy s.B' 3 (by omega) (hB.YF (by omega))) rfl) ?_;cases ZG:(ee (lC 3) s.B').2
 .have hh:za s=s.RK.y+s.RK.m:=by unfold za;rw[ZG];rfl
  apply sR;simp only[go_sem,seval,w2,ca,cf,Xm,az,ae];have hJ3:Uq l rs Z0 iw { s with Rw:=za s } Y2:=by rw[hh];exact hJ2
  refine ad.loop (λm st=>∃j:Nat,j<=s.B'.length/\m=s.B'.length-j/\Uq l rs Z0 iw { s with Rw:=za s,B':=gV s.atoms.length j s.B' } st.U/\st.s 0=.ptr iw 0 0/\st.s 40=vI s.B'.length/\st.s 41=vI j) s.B'.length ?_ ?_
  .exact⟨0,by omega,rfl,by simpa[gV]using hJ3,rfl,rfl,rfl⟩
  .rintro m ⟨S,J⟩ ⟨j,hj,rfl,Tq,t0,t40,t41⟩;simp only at Tq t0 t40 t41;refine ad.mix 5 ?_;by_cases H':j<s.B'.length
   .have q:((j:Int)<s.B'.length)=True:=eq_true (by omega);obtain⟨va4,vf4,w4,g1,g2,g3⟩:=Tq.row;simp only at w4 g1 g2 g3;obtain⟨ca4,_⟩:=g1.vc;have hla4:dy false va4=some (.int .i64 s.atoms.length):=by rw[g1.len];simp
    have XT:=mK s.atoms.length j s.B';rcases g2 with⟨_,h0⟩|⟨id,rfl,h2,h3⟩
    .exfalso;have:=congrArg List.length h0;rw[List.length_map,XT]at this;simp only[List.length_nil]at this;omega
    have Ut:=vY (n:=s.atoms.length) H';have XC:=wq (n:=s.atoms.length) H';have XU:((gV s.atoms.length j s.B').map aQ)[j]?=some (aQ s.B'[j]):=by rw[List.getElem?_map,Ut];rfl
    have W3:((gV s.atoms.length j s.B').map aQ).length=s.B'.length:=by rw[List.length_map,XT]
    have M':∀n,n=s.B'.length->bQ J 7 (.own id 0 n) (.int .i64 j)=some (.ptr id j 0):=λn hn=>by subst hn;rw[<-W3];exact j7 h2 (by rw[W3];exact H')
    generalize hfj:s.B'[j]=f at*;have hen:aQ f=.agg [vI f.node,vI f.side,vI f.anchor,vI f.x,vI f.y,vI f.w,vI f.h]:=rfl;rw[hen]at XU;have r1:RM .i64 ((s.atoms.length:Int)-1):=ao (by omega) (by omega);have r2:RM .i64 ((j:Int)+1):=ao (by omega) (by omega);have cf4:(V.own id 0 s.B'.length).cells=[.own id 0 s.B'.length]:=rfl;rw[W3]at w4;apply sR;simp only[go_sem,seval,t0,t40,t41,q,w4,ca4,cf4,hla4,h2,M' _ rfl,XU,r1,r2,dg,e8,az,ae];have R6:iw≠id:=(aM.1 h3).1.symm;have XV:=mK s.atoms.length (j+1) s.B';refine⟨_,by omega,j+1,by omega,rfl,⟨Tq.sub.aE (aM.1 h3).2,Tq.no,va4,.own id 0 s.B'.length,by rw[ab R6];exact w4,?_,.inr ⟨id,by rw[List.length_map,XV],?_,h3⟩,λh=>?_⟩,rfl⟩
    .rcases g1 with h|⟨i1,k1,k2,k3⟩
     .exact .inl h
     .have hne1:i1≠id:=λe=>by rw[e,h2]at k2;simp at k2
      exact .inr ⟨i1,k1,by rw[ab hne1];exact k2,k3⟩
    .rw[ag,<-XC,List.map_set];rfl
    .have:=congrArg List.length h;rw[XV]at this;simp only[List.length_nil]at this;omega
   .have q:((j:Int)<s.B'.length)=False:=eq_false (by omega);apply sR;simp only[go_sem,seval,t0,t40,t41,q];refine⟨_,_,aa.refl _,Wk.refl (aa.refl _) _,rfl,?_⟩;have he:gV s.atoms.length j s.B'=s.B'.map (tL s.atoms.length):=by
     unfold gV;rw[List.take_of_length_le (by omega),List.drop_of_length_le (by omega),List.append_nil]
    rw[he]at Tq;exact Tq
 .have hh:za s=max (s.RK.y+s.RK.m) (ee (lC 3) s.B').1:=by unfold za;rw[ZG];rfl
  generalize (ee (lC 3) s.B').1=low at*;apply sR;simp only[go_sem,seval,w2,ca,cf,Xm,dg,az,ae];have hJ3:=hJ2.I7 w2 (max (s.RK.y+s.RK.m) low);simp only at hJ3;rw[<-hh]at hJ3|-;refine ad.loop (λm st=>∃j:Nat,j<=s.B'.length/\m=s.B'.length-j/\Uq l rs Z0 iw { s with Rw:=za s,B':=gV s.atoms.length j s.B' } st.U/\st.s 0=.ptr iw 0 0/\st.s 40=vI s.B'.length/\st.s 41=vI j) s.B'.length ?_ ?_
  .exact⟨0,by omega,rfl,by simpa[gV]using hJ3,rfl,rfl,rfl⟩
  .rintro m ⟨S,J⟩ ⟨j,hj,rfl,Tq,t0,t40,t41⟩;simp only at Tq t0 t40 t41;refine ad.mix 5 ?_;by_cases H':j<s.B'.length
   .have q:((j:Int)<s.B'.length)=True:=eq_true (by omega);obtain⟨va4,vf4,w4,g1,g2,g3⟩:=Tq.row;simp only at w4 g1 g2 g3;obtain⟨ca4,_⟩:=g1.vc;have hla4:dy false va4=some (.int .i64 s.atoms.length):=by rw[g1.len];simp
    have XT:=mK s.atoms.length j s.B';rcases g2 with⟨_,h0⟩|⟨id,rfl,h2,h3⟩
    .exfalso;have:=congrArg List.length h0;rw[List.length_map,XT]at this;simp only[List.length_nil]at this;omega
    have Ut:=vY (n:=s.atoms.length) H';have XC:=wq (n:=s.atoms.length) H';have XU:((gV s.atoms.length j s.B').map aQ)[j]?=some (aQ s.B'[j]):=by rw[List.getElem?_map,Ut];rfl
    have W3:((gV s.atoms.length j s.B').map aQ).length=s.B'.length:=by rw[List.length_map,XT]
    have M':∀n,n=s.B'.length->bQ J 7 (.own id 0 n) (.int .i64 j)=some (.ptr id j 0):=λn hn=>by subst hn;rw[<-W3];exact j7 h2 (by rw[W3];exact H')
    generalize hfj:s.B'[j]=f at*;have hen:aQ f=.agg [vI f.node,vI f.side,vI f.anchor,vI f.x,vI f.y,vI f.w,vI f.h]:=rfl;rw[hen]at XU;have r1:RM .i64 ((s.atoms.length:Int)-1):=ao (by omega) (by omega);have r2:RM .i64 ((j:Int)+1):=ao (by omega) (by omega);have cf4:(V.own id 0 s.B'.length).cells=[.own id 0 s.B'.length]:=rfl;rw[W3]at w4;apply sR;simp only[go_sem,seval,t0,t40,t41,q,w4,ca4,cf4,hla4,h2,M' _ rfl,XU,r1,r2,dg,e8,az,ae];have R6:iw≠id:=(aM.1 h3).1.symm;have XV:=mK s.atoms.length (j+1) s.B';refine⟨_,by omega,j+1,by omega,rfl,⟨Tq.sub.aE (aM.1 h3).2,Tq.no,va4,.own id 0 s.B'.length,by rw[ab R6];exact w4,?_,.inr ⟨id,by rw[List.length_map,XV],?_,h3⟩,λh=>?_⟩,rfl⟩
    .rcases g1 with h|⟨i1,k1,k2,k3⟩
     .exact .inl h
     .have hne1:i1≠id:=λe=>by rw[e,h2]at k2;simp at k2
      exact .inr ⟨i1,k1,by rw[ab hne1];exact k2,k3⟩
    .rw[ag,<-XC,List.map_set];rfl
    .have:=congrArg List.length h;rw[XV]at this;simp only[List.length_nil]at this;omega
   .have q:((j:Int)<s.B'.length)=False:=eq_false (by omega);apply sR;simp only[go_sem,seval,t0,t40,t41,q];refine⟨_,_,aa.refl _,Wk.refl (aa.refl _) _,rfl,?_⟩;have he:gV s.atoms.length j s.B'=s.B'.map (tL s.atoms.length):=by
     unfold gV;rw[List.take_of_length_le (by omega),List.drop_of_length_le (by omega),List.append_nil]
    rw[he]at Tq;exact Tq
open Go.Proofs Go.Proofs.Tryz
structure Gal where
 atoms:List Sk
 B':List P'
 Rw:Int
def EP(g:Gal):V:=.agg [bl g.atoms,aH g.B',vI g.Rw]
def kW(l:List Nd)(w:Int):List Rm:=de l l.length 0 l.length ⟨0,w⟩
def Km(l:List Nd)(w:Int):WS:=(eA l (kW l w) l.length 0 l.length ⟨[],[],0,⟨0,0⟩⟩).fin
def dj(l:List Nd)(w:Int):Gal:=⟨(Km l w).atoms,(Km l w).B',(Km l w).Rw⟩
def px{l:List Nd}(hb:So l=true):∀(k a e:Nat) (r:Rm),e<=l.length->cq l a e=true->r.ok->∀q∈de l k a e r,q.ok
 |0,_,_,_,_,_,_,q,hq=>by simp[de]at hq
 |k+1,a,e,r,he,hr,RC,q,hq=>by
  rw[de]at hq;split at hq
  .rename_i H';obtain⟨h1,h2⟩:=dt he hr (Nat.le_refl a) H';obtain⟨h3,h4⟩:=ej he hr H';rcases List.mem_cons.1 hq with rfl|hq
   .exact RC
   .rcases List.mem_append.1 hq with hq|hq
    .obtain⟨g1,g2,_⟩:=Ga hb (a:=a) (by omega);exact px hb k _ _ _ (by omega) h4 (wy RC (by rw[g1];exact g2)) q hq
    .exact px hb k _ _ _ he h3 RC q hq
  .cases hq
def uw{l:List Nd}(hb:So l=true)(hn:l.length<=2000){w:Int}(h1:1<=w)(h2:w<=1099511627776):YE l (kW l w):=by
 have hr:cq l 0 l.length=true:=by simp only[So,Ba]at hb;exact hb.2
 exact⟨hn,hb,by unfold kW;rw[ld (Nat.le_refl _) _ _ _ (by omega) (by omega) hr];omega,px hb _ _ _ _ (Nat.le_refl _) hr ⟨by simp,by simp,h1,h2⟩⟩
def Mq(l:List Nd)(hl:dH l)(hb:So l=true)(hn:l.length<=2000)(hwl:∀n∈l,n.words.length<=10000)(hc:Tb l 0 l.length<=50000)(hck:aV prog 45 [aK l] (vI 0))(w:Int)(h1:1<=w)(h2:w<=1099511627776):
 aV prog 51 [aK l,vI w] (.RB [EP (dj l w),vI 0]):=λU=>by
 refine e51.r (by simp[c51]) ?_;have hs:=aa.refl U;have hD:=uw hb hn h1 h2;have hr:cq l 0 l.length=true:=by simp only[So,Ba]at hb;exact hb.2
 refine ad.mix 8 ?_;apply sR;simp only[go_sem,seval,c51];refine af λi4 Z4 s4 a4 f4=>?_;have z4:=hs.none f4;replace hs:=hs.trans s4;have Sl:=pU w;rw[show decide (1<=w/\w<=1099511627776)=true by simp;omega]at Sl;simp only[go_sem,seval];refine ad.aB rfl rfl rfl (Sl _) ?_;have qz:((0:Int)≠0)=False:=eq_false (λh=>h rfl);apply sR;simp only[go_sem,seval];refine ad.aB rfl rfl rfl (hck _) ?_;apply sR;simp only[go_sem,seval,qz];refine ad.aB rfl rfl rfl (Hv l hl hb w h1 h2 _) ?_;have hrm:de l l.length 0 l.length ⟨0,w⟩=kW l w:=rfl;rw[hrm];apply sR;simp only[go_sem,seval,ae,ax,az,xM];refine af λi23 Z23 s23 a23 f23=>?_;have hJ:Uq l (kW l w) Z4 i23 ⟨[],[],0,⟨0,0⟩⟩ Z23:=⟨s23,f23,.aC,.aC,a23,aT.start,aT.start,λ_=>rfl⟩
 have hI:fU ⟨[],[],0,⟨0,0⟩⟩ 0:=⟨⟨by simp,by simp,by simp,by simp,by simp⟩,by simp,by simp⟩
 have hn0:=fj l;simp only[go_sem,seval,hn0];have SN:=J4 hD hwl (l.length+1) 0 l.length 0 (by omega) (by omega) (Nat.le_refl _) hr (by omega) _ _ _ hJ hI;refine ad.call rfl rfl rfl SN ?_;rintro r Z5 ⟨rfl,Wl⟩;have hI5:=gz hD (l.length-0) 0 l.length ⟨[],[],0,⟨0,0⟩⟩ 0 (by omega) (by omega) (Nat.le_refl _) hr hI;apply sR;simp only[go_sem,seval];refine ad.call rfl rfl rfl (Jz Wl hI5 (by omega)) ?_;rintro r Z6 ⟨rfl,Wn⟩;have hgl:dj l w=⟨(eA l (kW l w) (l.length-0) 0 l.length ⟨[],[],0,⟨0,0⟩⟩).fin.atoms,(eA l (kW l w) (l.length-0) 0 l.length ⟨[],[],0,⟨0,0⟩⟩).fin.B',(eA l (kW l w) (l.length-0) 0 l.length ⟨[],[],0,⟨0,0⟩⟩).fin.Rw⟩:=rfl;rw[hgl];generalize (eA l (kW l w) (l.length-0) 0 l.length ⟨[],[],0,⟨0,0⟩⟩).fin=s at*;obtain⟨va,vf,w6,g1,g2,_⟩:=Wn.row;obtain⟨ca,sa⟩:=g1.vc;obtain⟨cf,sf⟩:=g2.vc;have b4:=Wn.sub _ _ a4;have n423:=aq a4 f23;apply sR;simp only[go_sem,seval,w6,b4,ca,sa,cf,sf,az,ae,ab n423];have hK:aa U (bg Z4 i23):=λi o h=>by
  rw[bg,if_neg (λe=>by rw[e,hs.none f23]at h;cases h)];exact hs _ _ h
 have key:∀{e sz:Nat} {v:V} {rows:List V} {o:Ob},aT (bg Z4 i23) Z6 e sz v rows->aT (bg Z4 i23) (C' Z6 i4 o) e sz v rows:=λ{e sz v rows o} h=>by
  rcases h with h|⟨id,k1,k2,k3⟩
  .exact .inl h
  .exact .inr ⟨id,k1,by rw[ab (λe=>by rw[e]at k3;rw[(aM.1 k3).2]at a4;cases a4)];exact k2,k3⟩
 have SA:∀o,aa U (C' Z6 i4 o):=λo=>(hs.trans Wn.sub).aE z4;refine⟨_,U,SA _,Wk.RB (vs':=[EP ⟨s.atoms,s.B',s.Rw⟩,vI 0]) ⟨Wk.agg (vs':=[bl s.atoms,aH s.B',vI s.Rw]) ⟨(key g1).wk hK (SA _),(key g2).wk hK (SA _),Wk.refl (SA _) _,trivial⟩,Wk.refl (SA _) _,trivial⟩,rfl,rfl⟩
open Go.Proofs Go.Proofs.Tryz
def tG(node:Int):List Int->Nat
 |[]=>0
 |x::r=>if x=node then tG node r+1 else 0
def I6(node:Int):∀l,tG node l<=l.length
 |[]=>by simp[tG]
 |x::r=>by
  rw[tG];split
  .have:=I6 node r;simp only[List.length_cons];omega
  .simp
def lu(of:List Int)(fr:Nat)(node:Int):Nat:=tG node (of.drop fr)
def vN(of:List Int)(fr:Nat)(node:Int):lu of fr node<=of.length-fr:=by
 have:=I6 node (of.drop fr);rw[List.length_drop]at this;exact this
def okN(x:Nd)(n:Nat):Bool:=if x.kind=2 then decide (1<=n/\n<=x.words.length)else if x.kind=3 then decide (n=1)else decide (n=0)
def An(of:List Int):List Nd->Nat->Nat->Bool
 |[],_,RY=>decide (RY=of.length)
 |x::r,i,RY=>okN x (lu of RY i)&&An of r (i+1) (RY+lu of RY i)
def pX(l:List Nd)(of:List Int):Bool:=An of l 0 0
def nt(l:List Nd)(of:List Int):V:=.agg [aK l,bn of]
def lQ(l:List Nd)(of:List Int):(nt l of).cells=[aK l,bn of]:=rfl
def lO(l:List Nd)(of:List Int):(nt l of).stays=true:=rfl
def Hs(l:List Nd)(of:List Int)(hn:of.length<=1000000)(fr:Nat)(hf:fr<=of.length)(node:Int):aV prog 227 [nt l of,vI fr,vI node] (vI (lu of fr node)):=λU=>by
 refine Qf.r (by simp[JJ]) ?_;have hs:=aa.refl U;have hl:=fG of;have htl:=vN of fr node;refine ad.mix 8 ?_;apply sR;simp only[go_sem,seval,JJ,lQ,lO,ae,aj,av,ax];refine af λi3 Z3 s3 a3 f3=>?_;have z3:=hs.none f3;replace hs:=hs.trans s3;have a3':Z3 i3=some ⟨266,2,[.agg [aK l,bn of]]⟩:=a3;simp only[go_sem,seval];refine ad.loop (λm st=>∃j:Nat,fr+j<=of.length/\m=of.length-(fr+j)/\lu of fr node=j+tG node (of.drop (fr+j))/\st.U=Z3/\st.s 1=vI fr/\st.s 2=vI node/\st.s 3=.ptr i3 0 0/\st.s 7=vI j) (of.length-fr) ?_ ?_
 .exact⟨0,by omega,by omega,by simp[lu],rfl,rfl,rfl,rfl,rfl⟩
 .rintro m ⟨S,J⟩ ⟨j,hj,rfl,ht,R3,t1,t2,t3,t7⟩;simp only at R3 t1 t2 t3 t7;subst R3;refine ad.mix 8 ?_;have hjj:(fr:Int)+(j:Int)=((fr+j:Nat):Int):=by omega
  have r1:RM .i64 ((fr:Int)+j):=ao (by omega) (by omega);have r2:RM .i64 ((j:Int)+1):=ao (by omega) (by omega);by_cases H':fr+j<of.length
  .have q:(((fr+j:Nat):Int)<of.length)=True:=eq_true (by omega);have Rv:=λU=>gS (U:=U) H';rw[List.drop_eq_getElem_cons H',tG]at ht;generalize of[fr+j]=x at*;rw[hjj]at r1;by_cases hx:x=node
   .rw[if_pos hx]at ht;have q2:(x=node)=True:=eq_true hx;apply sR;simp only[go_sem,seval,t1,t2,t3,t7,a3',hl,hjj,q,q2,Rv,r1,r2,ae,aj];exact⟨_,by omega,j+1,by omega,rfl,by rw[ht,show fr+(j+1)=fr+j+1 by omega];omega,by simp[t1,t2,t3]⟩
   .rw[if_neg hx]at ht;have q2:(x=node)=False:=eq_false hx;apply sR;simp only[go_sem,seval,t1,t2,t3,t7,a3',hl,hjj,q,q2,Rv,r1,r2,ae,aj];exact ay.pure hs (by rw[ht];simp)
  .have q:(((fr+j:Nat):Int)<of.length)=False:=eq_false (by omega);rw[List.drop_of_length_le (by omega),tG]at ht;rw[hjj]at r1;apply sR;simp only[go_sem,seval,t1,t2,t3,t7,a3',hl,hjj,q,r1,r2,ae,aj];exact ay.pure hs (by rw[ht];simp)
def Ni(l:List Nd)(Ye:l.length<=100000)(of:List Int)(hn:of.length<=1000000)(hm:pX l of=true):aV prog 169 [nt l of] (.bool true):=λU=>by
 refine OX.r (by simp[KV]) ?_;have hs:=aa.refl U;have hl:=fG of;have Vb:=fj l;refine ad.mix 7 ?_;apply sR;simp only[go_sem,seval,KV,lQ,lO,ae,aj,av,ax];refine af λi1 Z1 s1 a1 f1=>?_;have z1:=hs.none f1;replace hs:=hs.trans s1;have a1':Z1 i1=some ⟨266,2,[.agg [aK l,bn of]]⟩:=a1;simp only[go_sem,seval,a1',Vb,ae,aj];refine ad.loop (λm st=>∃(i RY:Nat),i<=l.length/\m=l.length-i/\RY<=of.length/\An of (l.drop i) i RY=true/\aa Z1 st.U/\st.s 1=.ptr i1 0 0/\st.s 3=vI RY/\st.s 8=aK l/\st.s 9=vI l.length/\st.s 10=vI i) l.length ?_ ?_
 .exact⟨0,0,by omega,rfl,by omega,by simpa[pX]using hm,aa.refl _,rfl,rfl,rfl,rfl,rfl⟩
 .rintro m ⟨S,J⟩ ⟨i,RY,hi,rfl,S1,hmk,G',t1,t3,t8,t9,t10⟩;simp only at G' t1 t3 t8 t9 t10;refine ad.mix 7 ?_;have b1:=G' _ _ a1';by_cases H':i<l.length
  .have q:((i:Int)<l.length)=True:=eq_true (by omega);have Rv:=ji l H';rw[List.drop_eq_getElem_cons H',An,Ba]at hmk;obtain⟨RC,hmk⟩:=hmk;have htl:=vN of RY i;have htc:=Hs l of hn RY S1 i;generalize lu of RY i=n at*;generalize l[i]=x at*;apply sR;simp only[go_sem,seval,t1,t3,t8,t9,t10,q,Rv,Nd.cells];refine af λi5 Z5 s5 a5 f5=>?_;have c1:=s5 _ _ b1;have Zf:=aq b1 f5;simp only[go_sem,seval,a5,c1,t1,t3,t8,t9,t10,ab Zf,ae,aj,av];refine ad.aB rfl rfl rfl (htc _) ?_;have hwl:dy false (bn x.words)=some (.int .i64 x.words.length):=fG _;have r1:RM .i64 ((i:Int)+1):=ao (by omega) (by omega);have r2:RM .i64 ((RY:Int)+n):=ao (by omega) (by omega);have q5:((RY:Int)+n)=((RY+n:Nat):Int):=by omega
   rw[q5]at r2;unfold okN at RC;by_cases k2:x.kind=2
   .rw[if_pos k2]at RC;simp only[decide_eq_true_eq]at RC;have p1:((n:Int)<1)=False:=eq_false (by omega);have p2:((n:Int)>x.words.length)=False:=eq_false (by omega);have p0:(x.kind=2)=True:=eq_true k2;apply sR;simp only[go_sem,seval,t1,t3,t8,t9,t10,c1,ab Zf,p0,p1,p2,hwl,r1,r2,q5,aj,av];exact⟨_,by omega,i+1,RY+n,by omega,rfl,by omega,hmk,G'.trans (s5.aE f5),by simp[t1,t8,t9]⟩
   .rw[if_neg k2]at RC;have p0:(x.kind=2)=False:=eq_false k2;by_cases k3:x.kind=3
    .rw[if_pos k3]at RC;simp only[decide_eq_true_eq]at RC;have p3:(x.kind=3)=True:=eq_true k3;have p1:((n:Int)≠1)=False:=eq_false (by omega);apply sR;simp only[go_sem,seval,t1,t3,t8,t9,t10,c1,ab Zf,p0,p3,p1,r1,r2,q5,aj,av];exact⟨_,by omega,i+1,RY+n,by omega,rfl,by omega,hmk,G'.trans (s5.aE f5),by simp[t1,t8,t9]⟩
    .rw[if_neg k3]at RC;simp only[decide_eq_true_eq]at RC;have p3:(x.kind=3)=False:=eq_false k3;have p1:((n:Int)>0)=False:=eq_false (by omega);apply sR;simp only[go_sem,seval,t1,t3,t8,t9,t10,c1,ab Zf,p0,p3,p1,r1,r2,q5,aj,av];exact⟨_,by omega,i+1,RY+n,by omega,rfl,by omega,hmk,G'.trans (s5.aE f5),by simp[t1,t8,t9]⟩
  .have q:((i:Int)<l.length)=False:=eq_false (by omega);rw[List.drop_of_length_le (by omega),An,decide_eq_true_eq]at hmk;have q2:((RY:Int)=of.length)=True:=eq_true (by omega);apply sR;simp only[go_sem,seval,t1,t3,t8,t9,t10,q,b1,hl,q2,ae,aj];exact ay.pure (hs.trans G') rfl
def nY(l:List Nd)(hf:dH l)(hb:So l=true)(of:List Int)(hn:of.length<=1000000)(hm:pX l of=true):aV prog 109 [aK l,bn of] (vI 0):=λU=>by
 refine O2.r (by simp[LM]) ?_;have hv:=BN l hf;rw[hb]at hv;have hl1:=hf.1;refine ad.mix 5 ?_;apply sR;simp only[go_sem,seval,LM];refine ad.aB rfl rfl rfl (hv _) ?_;apply sR;simp only[go_sem,seval,ae,aj,av,ax];refine ad.aB rfl rfl rfl (Ni l (by omega) of hn hm _) ?_;apply sR;simp only[go_sem,seval];exact ay.same rfl
open Go.Proofs Go.Proofs.Tryz
def w9(l:List Nd)(a b:Int):Bool:=decide (a<=b/\b<a+Sa l a.toNat)
def E3(l:List Nd)(hb:So l=true)(hn:l.length<=100000)(a:Nat)(ha:a<l.length)(b:Int)(h0:0<=b)(h1:b<=1000000):aV prog 311 [aK l,vI a,vI b] (.bool (w9 l a b)):=λU=>by
 refine PH.r (by simp[Is]) ?_;have Rv:=ji l ha;have TF:=lf ha;have hsb:=pO hb ha;refine ad.mix 7 ?_;unfold w9;rw[Int.toNat_natCast,TF];rw[TF]at hsb;by_cases h:(a:Int)<=b
 .have q:((a:Int)<=b)=True:=eq_true h;have r1:RM .i64 ((a:Int)+l[a].size):=ao (by omega) (by omega);apply sR;simp only[go_sem,seval,Is,q,Rv,Nd.cells,r1];exact ay.same (by simp[h])
 .have q:((a:Int)<=b)=False:=eq_false h;apply sR;simp only[go_sem,seval,Is,q];exact ay.same (by simp[h])
def Xn(l:List Nd)(of:List Int)(b k:Int):Bool:=if 0<=k/\k<of.length then w9 l b (of.getD k.toNat 0)else false
def Bb(l:List Nd)(hb:So l=true)(hn:l.length<=100000)(of:List Int)(Uc:of.length<=1000000)(SS:∀x∈of,0<=x/\x<l.length)(b:Nat)(SD:b<l.length)(k:Int){U:ai}{i4 i9:Nat}(h4:U i4=some ⟨57,1,[bn of]⟩)(h9:U i9=some ⟨266,2,[nt l of]⟩):
 aD prog 310 [vI b,vI k,.ptr i4 0 0,.ptr i9 0 0] U λr Z'=>r=.bool (Xn l of b k)/\Z'=U:=by
 refine PE.r (by simp[Gr]) ?_;have hl:=fG of;rw[nt]at h9;refine ad.mix 7 ?_;unfold Xn;by_cases Vi:0<=k
 .have q0:(k>=0)=True:=eq_true Vi;obtain⟨j,rfl⟩:∃j:Nat,k=j:=⟨k.toNat,by omega⟩
  by_cases T':(j:Int)<of.length
  .have q1:((j:Int)<of.length)=True:=eq_true T';have V6:j<of.length:=by omega
   have Rv:=λU=>gS (U:=U) V6;have hx:=SS _ (List.getElem_mem V6);have Wt:of.getD j 0=of[j]:=by simp[V6]
   rw[if_pos ⟨Vi,T'⟩,Int.toNat_natCast,Wt];apply sR;simp only[go_sem,seval,Gr,q0,q1,h4,h9,hl,Rv,ae,aj];refine Go.bO rfl rfl rfl (E3 l hb hn b SD of[j] hx.1 (by omega)) ?_;apply sG;simp only[go_sem,seval];exact ay.same rfl
  .have q1:((j:Int)<of.length)=False:=eq_false T';rw[if_neg (λh=>T' h.2)];apply sR;simp only[go_sem,seval,Gr,q0,q1,h4,h9,hl,ae,aj];exact ay.same rfl
 .have q0:(k>=0)=False:=eq_false Vi;rw[if_neg (λh=>Vi h.1)];apply sR;simp only[go_sem,seval,Gr,q0];exact ay.same rfl
structure BK(l:List Nd)(of:List Int)(k:Int)(i4 i5 i9 Sb:Nat)(U:ai):Prop where
 r4:U i4=some ⟨57,1,[bn of]⟩
 r5:U i5=some ⟨3,1,[vI k]⟩
 r9:U i9=some ⟨266,2,[nt l of]⟩
 Xi:U Sb=some ⟨278,1,[.fn 310 [.ptr i4 0 0,.ptr i9 0 0]]⟩
def BK.mono{l:List Nd}{of:List Int}{k:Int}{i4 i5 i9 Sb:Nat}{U J:ai}(h:BK l of k i4 i5 i9 Sb U)(hs:aa U J):BK l of k i4 i5 i9 Sb J:=⟨hs _ _ h.r4,hs _ _ h.r5,hs _ _ h.r9,hs _ _ h.Xi⟩
def La(l:List Nd)(hb:So l=true)(hn:l.length<=100000)(of:List Int)(Uc:of.length<=1000000)(SS:∀x∈of,0<=x/\x<l.length)(b:Nat)(SD:b<l.length)(k:Int){U:ai}{i4 i5 i9 Sb:Nat}(h:BK l of k i4 i5 i9 Sb U):
 aD prog 313 [vI b,.ptr Sb 0 0,.ptr i5 0 0] U λr Z'=>r=.bool (!Xn l of b k)/\Z'=U:=by
 refine OJ.r (by simp[K3]) ?_;have r5:=h.r5;have Xi:=h.Xi;refine ad.mix 5 ?_;apply sR;simp only[go_sem,seval,K3,r5,Xi];refine ad.aB rfl rfl rfl (Bb l hb hn of Uc SS b SD k h.r4 h.r9) ?_;apply sR;simp only[go_sem,seval];exact ay.same rfl
def Kj(l:List Nd)(hb:So l=true)(hn:l.length<=100000)(of:List Int)(Uc:of.length<=1000000)(SS:∀x∈of,0<=x/\x<l.length)(b:Nat)(SD:b<l.length)(k:Int)(Vi:0<=k)(T':k<=1000000){U:ai}{i4 i5 i9 Sb:Nat}(h:BK l of k i4 i5 i9 Sb U):
 aD prog 314 [vI b,.ptr Sb 0 0,.ptr i5 0 0] U λr Z'=>r=.bool (!Xn l of b (k-1))/\Z'=U:=by
 refine Rq.r (by simp[LP]) ?_;have r5:=h.r5;have Xi:=h.Xi;have r1:RM .i64 (k-1):=ao (by omega) (by omega);refine ad.mix 5 ?_;apply sR;simp only[go_sem,seval,LP,r5,Xi,r1];refine ad.aB rfl rfl rfl (Bb l hb hn of Uc SS b SD (k-1) h.r4 h.r9) ?_;apply sR;simp only[go_sem,seval];exact ay.same rfl
def Mh(l:List Nd)(hb:So l=true)(hn:l.length<=100000)(of:List Int)(Uc:of.length<=1000000)(SS:∀x∈of,0<=x/\x<l.length)(b:Nat)(SD:b<l.length)(k:Int)(Vi:0<=k)(T':k<=1000000){U:ai}{i4 i5 i9 Sb:Nat}(h:BK l of k i4 i5 i9 Sb U):
 aD prog 316 [vI b,.ptr Sb 0 0,.ptr i5 0 0] U λr Z'=>r=.bool (Xn l of b (k-1))/\Z'=U:=by
 refine Q8.r (by simp[KC]) ?_;have r5:=h.r5;have Xi:=h.Xi;have r1:RM .i64 (k-1):=ao (by omega) (by omega);refine ad.mix 5 ?_;apply sR;simp only[go_sem,seval,KC,r5,Xi,r1];refine ad.aB rfl rfl rfl (Bb l hb hn of Uc SS b SD (k-1) h.r4 h.r9) ?_;apply sR;simp only[go_sem,seval];exact ay.same rfl
def yq(l:List Nd)(hl:dH l)(hb:So l=true)(hn:l.length<=100000)(a:Nat)(ha:a<l.length):Iter prog 337 [.rp (aK l),.rp (vI a)] ((Vu l a).map λn=>[vI n]):=by
 refine⟨Ny.c,λRZ τ Jx Z0 hy hJ=>?_⟩;refine(Ny.r (by simp[Jp]) ?_).2;have WA:=zx l hl hb hn a ha;have Up:=iR l (l.length+1) (eQ l a);have e0:(Vu l a).length<=l.length+1:=Up;have hlen:=fG (Vu l a);generalize Vu l a=L at*;have ldA:∀U,bT U false 1 (.rp (aK l))=some (aK l):=λU=>rfl;have ldB:∀U (n:Int),bT U false 1 (.rp (vI n))=some (vI n):=λU n=>rfl;refine ad.mix 6 ?_;apply sR;simp only[go_sem,seval,Jp,ldA,ldB];refine ad.aB rfl rfl rfl (WA _) ?_;apply sR;simp only[go_sem,seval,hlen];refine ad.loop (λm st=>∃(j:Nat) (ZJ:ai),j<=L.length/\m=L.length-j/\τ ((L.take j).map λn=>[vI n]) ZJ/\aa ZJ st.U/\st.s 0=.yl RZ/\st.s 8=bn L/\st.s 9=vI L.length/\st.s 10=vI j) L.length ?_ ?_
 .exact⟨0,Z0,by omega,rfl,by simpa using hJ,aa.refl _,rfl,rfl,rfl,rfl⟩
 .rintro m ⟨S,J⟩ ⟨j,ZJ,hj,rfl,Tq,G',t0,t8,t9,t10⟩;simp only at G' t0 t8 t9 t10;refine ad.mix 6 ?_;by_cases H':j<L.length
  .have q:((j:Int)<L.length)=True:=eq_true (by omega);have Rv:=λU=>gS (U:=U) H';have SB:L.take (j+1)=L.take j++[L[j]]:=List.take_succ_eq_append_getElem H';have e:(L.map λn=>[vI n])=((L.take j).map λn=>[vI n])++[vI L[j]]::((L.drop (j+1)).map λn=>[vI n]):=by
    have e0':L=L.take j++L[j]::L.drop (j+1):=by rw[<-List.drop_eq_getElem_cons H',List.take_append_drop]
    have:=congrArg (List.map λn=>[vI n]) e0'
    rwa [List.map_append,List.map_cons]at this
   generalize L[j]=x at*;have r1:RM .i64 ((j:Int)+1):=ao (by omega) (by omega);apply sR;simp only[go_sem,seval,t0,t8,t9,t10,q,Rv];refine ad.lN (Post:=λb Z2=>∃RX,bh ZJ J RX Z2/\((b=true/\τ (((L.take j).map λn=>[vI n])++[[vI x]]) RX)\/(b=false/\Jx (((L.take j).map λn=>[vI n])++[[vI x]]) RX))) rfl rfl rfl (hy _ [vI x] _ ZJ J e Tq G') ?_;rintro b Z2 ⟨RX,SI,Sr⟩;rcases Sr with⟨rfl,Sr⟩|⟨rfl,Sr⟩
   .apply sR;simp only[go_sem,seval,t0,t8,t9,t10,r1];refine⟨_,?_,j+1,RX,by omega,rfl,by rw[SB];simpa using Sr,SI.1,by simp[t0,t8,t9]⟩;omega
   .apply sR;simp only[go_sem,seval,t0];refine⟨_,RX,SI.1,Wk.refl SI.1 _,.inr ⟨_,?_,Sr⟩⟩;rw[e];exact⟨(L.drop (j+1)).map λn=>[vI n],by simp⟩
  .have q:((j:Int)<L.length)=False:=eq_false (by omega);rw[List.take_of_length_le (by omega)]at Tq;apply sR;simp only[go_sem,seval,t0,t8,t9,t10,q];exact⟨_,ZJ,G',Wk.refl G' _,.inl Tq⟩
def F8(l:List Nd)(a:Int):aV prog 333 [aK l,vI a] (.fn 337 [.rp (aK l),.rp (vI a)]):=λU=>by
 refine Rd.r (by simp[Kl]) ?_;refine ad.mix 4 ?_;have q1:=ae l;have q2:=ax l;generalize aK l=x at*;apply sR;simp only[go_sem,seval,Kl,q1,q2];refine af λU4 Z1 s1 a1 f1=>?_;simp only[go_sem,seval];refine af λWC Z2 s2 a2 f2=>?_;simp only[go_sem,seval];exact⟨_,U,s1.trans s2,Wk.fn (vs':=[.rp x,.rp (vI a)]) ⟨Wk.ptr (s1.trans s2) (s2 _ _ a1) f1,Wk.ptr (s1.trans s2) a2 (s1.none f2),trivial⟩,rfl,rfl⟩
open Go.Proofs Go.Proofs.Tryz
def V'(l:List Nd)(of:List Int)(k:Int)(p:Int->Bool):List Int:=if 0<=k/\k<of.length then(Vu l (of.getD k.toNat 0).toNat).filter p else[]
def og{l:List Nd}{a:Nat}(ha:a<l.length):∀x∈Vu l a,∃n:Nat,x=n/\n<a:=λx hx=>by
 have:=EM l _ _ x hx;have h2:=fW l a;exact⟨x.toNat,by omega,by omega⟩
def pW{p:Int->Bool}{L:List Int}{j:Nat}{x:Int}(h:L[j]?=some x):(L.take (j+1)).filter p=(L.take j).filter p++if p x then[x]else[]:=by
 rw[List.take_add_one,h,List.filter_append];cases hp:p x<;>simp[hp]
def tc(l:List Nd)(hl:dH l)(hb:So l=true)(hn:l.length<=100000)(of:List Int)(Uc:of.length<=1000000)(SS:∀x∈of,0<=x/\x<l.length)(k:Int)(g:FuncId)(caps:List V)(p:Int->Bool){U:ai}
 (hg:∀b:Nat,b<l.length->∀J,aa U J->aD prog g (vI b::caps) J λr Z'=>r=.bool (p b)/\Z'=J):
 aD prog 312 [nt l of,vI k,.fn g caps] U λr Z'=>aa U Z'/\aT U Z' 3 1 r ((V' l of k p).map vI)/\(V' l of k p=[]->r=.aC):=by
 refine PY.r (by simp[Jh]) ?_;have hs:=aa.refl U;have U5:=fG of;refine ad.mix 9 ?_;apply sR;simp only[go_sem,seval,Jh,lQ,lO,ae,aj,av,ax];refine af λi3 Z3 s3 a3 f3=>?_;have z3:=hs.none f3;replace hs:=hs.trans s3;simp only[go_sem,seval];refine af λi5 Z5 s5 a5 f5=>?_;have Yw:=aq a3 f5;replace a3:=s5 _ _ a3;have z5:=hs.none f5;replace hs:=hs.trans s5;have a3':Z5 i3=some ⟨266,2,[.agg [aK l,bn of]]⟩:=a3;by_cases Vi:k<0
 .have q0:(k<0)=True:=eq_true Vi;have hc:V' l of k p=[]:=by unfold V';rw[if_neg (by omega)]
  simp only[go_sem,seval,q0];rw[hc];exact⟨_,_,aa.refl _,Wk.refl (aa.refl _) _,hs,aT.start,λ_=>rfl⟩
 have q0:(k<0)=False:=eq_false Vi;obtain⟨j,rfl⟩:∃j:Nat,k=j:=⟨k.toNat,by omega⟩
 by_cases T':(j:Int)>=of.length
 .have q1:((j:Int)>=of.length)=True:=eq_true T';have hc:V' l of j p=[]:=by unfold V';rw[if_neg (by omega)]
  simp only[go_sem,seval,q0,a3',U5,q1,ae,aj];rw[hc];exact⟨_,_,aa.refl _,Wk.refl (aa.refl _) _,hs,aT.start,λ_=>rfl⟩
 have q1:((j:Int)>=of.length)=False:=eq_false T';have V6:j<of.length:=by omega
 have Rv:=λU=>gS (U:=U) V6;obtain⟨hx0,hx1⟩:=SS _ (List.getElem_mem V6);have Wt:of.getD j 0=of[j]:=by simp[V6]
 have hc:V' l of j p=(Vu l of[j].toNat).filter p:=by unfold V';rw[if_pos ⟨by omega,by omega⟩,Int.toNat_natCast,Wt]
 rw[hc];simp only[go_sem,seval,q0,a3',U5,q1,ae,aj];refine af λi7 Z7 s7 a7 f7=>?_;have b3:=s7 _ _ a3';have b5:=s7 _ _ a5;simp only[go_sem,seval,b3,Rv,ae,aj];obtain⟨x,hx⟩:∃x:Nat,of[j]=x:=⟨of[j].toNat,by omega⟩
 rw[hx]at hx1|-;refine ad.aB rfl rfl rfl (F8 l x _) ?_;have WM:=yq l hl hb hn x (by omega);have WN:=og (l:=l) (a:=x) (by omega);have hlL:(Vu l x).length<=l.length+1:=iR _ _ _;rw[Int.toNat_natCast];generalize Vu l x=L at*;apply sR;simp only[go_sem,seval];generalize hS:mix 9 _ _=S;have S5:S 5=.ptr i5 0 0:=by rw[<-hS];rfl
 have S7:S 7=.ptr i7 0 0:=by rw[<-hS];rfl
 have S25:S 25=.fn 337 [.rp (aK l),.rp (vI x)]:=by rw[<-hS];rfl
 clear hS;refine ad.cX (g:=.t 25) (caps:=[.rp (aK l),.rp (vI x)]) S25 WM (λy hy=>?_) [] (λpre ZJ=>∃v,ZJ i7=some ⟨57,1,[v]⟩/\aa Z5 ZJ/\aT (bg Z5 i7) ZJ 3 1 v (((L.take pre.length).filter p).map vI)/\((L.take pre.length).filter p=[]->v=.aC))
  (λ_ _ _=>False) ?_ ?_ ?_ ?_ ?_
 .obtain⟨t,_,rfl⟩:=List.mem_map.1 hy;rfl
 .exact⟨.aC,a7,s7,by simpa using aT.start,λ_=>rfl⟩
 .rintro pre y post ZJ ZB Ub ⟨v,J7,Js,Jo,Jn⟩ G';obtain⟨t,ZD,rfl⟩:=oD (f:=vI) Ub;obtain⟨tn,rfl,htn⟩:=WN t (List.mem_of_getElem? ZD);have SB:=pW (p:=p) ZD;have hlen:(pre++[[vI (tn:Int)]]).length=pre.length+1:=by simp
  rw[hlen,SB];have TR:(((L.take pre.length).filter p).map vI).length<=1000001:=by
   rw[List.length_map];have:=List.length_filter_le p (L.take pre.length);rw[List.length_take]at this;omega
  have Ve:v.cells=[v]:=by rcases Jo with⟨rfl,_⟩|⟨_,rfl,_⟩<;>rfl
  generalize Se:(((L.take pre.length).filter p).map vI)=rows at*;have c7:=G' _ _ J7;have c5:=G' _ _ (Js _ _ a5);generalize TD:mj S [26] [vI (tn:Int)]=S0;have T5:S0 5=.ptr i5 0 0:=by rw[<-TD];exact S5
  have T7:S0 7=.ptr i7 0 0:=by rw[<-TD];exact S7
  have T26:S0 26=vI (tn:Int):=by rw[<-TD];rfl
  clear TD;refine ad.mix 9 ?_;apply sR;simp only[go_sem,seval,T5,T7,T26];apply sR;simp only[go_sem,seval,T5,T7,T26,c5];refine ad.aB rfl rfl rfl (hg tn (by omega) _ ((hs.trans Js).trans G')) ?_;cases hp:p (tn:Int)
  .apply sR;simp only[go_sem,seval];refine⟨_,bh.refl G',v,J7,Js,?_,by simpa using Jn⟩;simpa[Se]using Jo
  .apply sR;simp only[go_sem,seval,T5,T7,T26,c7,Ve];rw[aO];intro Vf f28;have Vn:=(bh.refl G').pN (o:=⟨3,1,[vI (tn:Int)]⟩) f28;have y2:C' ZB Vf ⟨3,1,[vI (tn:Int)]⟩ i7=some ⟨57,1,[v]⟩:=by rw[ab (aq c7 f28)];exact c7
   have a28:C' ZB Vf ⟨3,1,[vI (tn:Int)]⟩ Vf=some ⟨3,1,[vI (tn:Int)]⟩:=ag;generalize C' ZB Vf ⟨3,1,[vI (tn:Int)]⟩=Z8 at*;obtain⟨RN,Th,VD⟩:=Jo.DQ Vn.1;have Sx:(rows.length+1)*9<=140737488355328:=by omega
   have k2:bg Z5 i7 i7≠none:=λh=>(aM.1 h).1 rfl;have U0:∀(i:Nat) (Zx:ai),bg Z5 i7 i≠none->Vc.bK Zx RN i=Zx i:=λi Zx hk=>by
    cases RN with
    |none=>rfl
    |some a=>exact dK (λe=>hk (by rw[e];exact(VD a rfl).1))
   simp only[go_sem,seval,Th,dT a28,Sx,T7];rw[aO];intro TE f29;have f29:Z8 TE=none:=f29;have Za:i7≠TE:=aq y2 f29;have f29':Vc.bK Z8 RN TE=none:=by
    cases RN with
    |none=>exact f29
    |some a=>simp only[Vc.bK,del];split<;>first|rfl|exact f29
   have y2':C' (Vc.bK Z8 RN) TE ⟨3,1,rows++[vI (tn:Int)]⟩ i7=some ⟨57,1,[v]⟩:=by rw[ab Za,U0 _ _ k2];exact y2
   have hB9:=((Vn.Eb (e:=RN) λi h=>(VD i h).2).new (o:=⟨3,1,rows++[vI (tn:Int)]⟩) f29').set (id:=i7) (o:=⟨57,1,[v]⟩) (o':=⟨57,1,[.own TE 0 (rows.length+1)]⟩) (by rw[ab Za,U0 _ _ k2];exact J7);simp only[go_sem,seval,Ve,y2',T7];refine⟨_,hB9,.own TE 0 (rows.length+1),ag,?_,?_,λh=>by simp at h⟩
   .refine aa.aE (λi o h=>?_) f7;have h1:=Js _ _ h;rw[ab (aq (Vn.1 _ _ h1) f29),U0 _ _ (λhk=>by rw[(aM.1 hk).2]at h;cases h)];exact h1
   .rw[List.map_append,Se];refine aT.new (by simp) (by rw[ab Za.symm,ag];rfl) ?_;rw[aM];refine⟨Za.symm,?_⟩;cases h:Z5 TE with
    |none=>rfl
    |some o=>rw[Vn.1 _ _ (Js _ _ h)]at f29;cases f29
 .rintro Z' ⟨v,J7,Js,Jo,Jn⟩;rw[List.length_map,List.take_length]at Jo Jn;have Ve:v.cells=[v]:=by rcases Jo with⟨rfl,_⟩|⟨_,rfl,_⟩<;>rfl
  refine ad.mix 9 ?_;apply sR;simp only[go_sem,seval,S7,J7,Ve];refine⟨_,_,aa.refl _,Wk.refl (aa.refl _) _,hs.trans Js,?_,Jn⟩;rcases Jo with h|⟨id,h1,h2,h3⟩
  .exact .inl h
  .exact .inr ⟨id,h1,h2,hs.none (aM.1 h3).2⟩
 .intro id h;cases h
 .rintro pre Z' _ ⟨⟩
open Go.Proofs Go.Proofs.Tryz
def swp(L:List Int)(i j:Nat):List Int:=(L.set i (L.getD j 0)).set j (L.getD i 0)
def jU(L:List Int):Nat->List Int
 |0=>L
 |t+1=>swp (jU L t) t (L.length-1-t)
def kQ(L:List Int):∀t,(jU L t).length=L.length
 |0=>rfl
 |t+1=>by simp[jU,swp,kQ L t]
def y8(L:List Int):∀(t:Nat),2*t<=L.length->∀i,i<L.length->(jU L t)[i]?=if i<t\/L.length-t<=i then L[L.length-1-i]? else L[i]?
 |0,_,i,hi=>by rw[jU,if_neg (by omega)]
 |t+1,ht,i,hi=>by
  have ih:=λi hi=>y8 L t (by omega) i hi;have hl:=kQ L t;have e1:(jU L t).getD t 0=L.getD t 0:=by
   rw[List.getD_eq_getElem?_getD,List.getD_eq_getElem?_getD,ih t (by omega),if_neg (by omega)]
  have e2:(jU L t).getD (L.length-1-t) 0=L.getD (L.length-1-t) 0:=by
   rw[List.getD_eq_getElem?_getD,List.getD_eq_getElem?_getD,ih _ (by omega),if_neg (by omega)]
  rw[jU,swp,e1,e2,List.getElem?_set,List.getElem?_set,List.length_set,hl];have g:∀k,k<L.length->some (L.getD k 0)=L[k]?:=λk hk=>by simp[hk]
  by_cases h1:L.length-1-t=i
  .rw[if_pos h1,if_pos (by omega),if_pos (by omega),g t (by omega)];congr 1;omega
  .rw[if_neg h1];by_cases h2:t=i
   .rw[if_pos h2,if_pos (by omega),if_pos (by omega),g _ (by omega)];congr 1;omega
   .rw[if_neg h2,ih i hi];by_cases h3:i<t\/L.length-t<=i
    .rw[if_pos h3,if_pos (by omega)]
    .rw[if_neg h3,if_neg (by omega)]
def Fx(L:List Int){t:Nat}(h1:2*t<=L.length)(h2:L.length<=2*t+1):jU L t=L.reverse:=by
 apply List.ext_getElem?;intro i;by_cases hi:i<L.length
 .rw[y8 L t h1 i hi,List.getElem?_reverse hi];split
  .rfl
  .congr 1;omega
 .rw[List.getElem?_eq_none (by rw[kQ];omega),List.getElem?_eq_none (by simp;omega)]
def D4(L:List Int)(hL:L.length<=1000000){K U:ai}{v:V}(hv:aT K U 3 1 v (L.map vI))(R6:L=[]->v=.aC):
 aD prog 315 [v] U λr Z'=>r=.RB []/\aT K Z' 3 1 v (L.reverse.map vI)/\∀i o,U i=some o->(o.elem≠3\/K i≠none)->Z' i=some o:=by
 refine PM.r (by simp[HV]) ?_;refine ad.mix 5 ?_;rcases hv with⟨rfl,h0⟩|⟨id,rfl,h2,h3⟩
 .obtain rfl:L=[]:=by simpa using h0
  apply sR;simp only[go_sem,seval,HV];refine⟨ao (by omega) (by omega),?_⟩;refine ad.loop (λm st=>st.U=U/\st.s 2=vI 0/\∃z:Int,st.s 3=vI z/\z<0) 0 ?_ ?_
  .refine⟨rfl,rfl,_,rfl,?_⟩;simp
  .rintro m ⟨S,J⟩ ⟨R3,t2,z,t3,hz⟩;simp only at R3 t2 t3;subst R3;refine ad.mix 5 ?_;have q:((0:Int)<z)=False:=eq_false (by omega);apply sR;simp only[go_sem,seval,t2,t3,q];exact⟨_,_,aa.refl _,Wk.refl (aa.refl _) _,rfl,.inl ⟨rfl,rfl⟩,λi o h _=>h⟩
 .have hn:0<L.length:=List.length_pos_iff.2 λe=>by have:=R6 e;cases this
  have WT:(L.map vI).length=L.length:=by simp
  have r1:RM .i64 ((L.length:Int)-1):=ao (by omega) (by omega);apply sR;simp only[go_sem,seval,HV,WT,r1];refine ad.loop (λm st=>∃t:Nat,2*t<=L.length/\m=L.length-t/\st.U id=some ⟨3,1,(jU L t).map vI⟩/\(∀i,i≠id->st.U i=U i)/\st.s 0=.own id 0 L.length/\st.s 2=vI t/\∃z:Int,st.s 3=vI z/\z=(L.length:Int)-1-t) L.length ?_ ?_
  .exact⟨0,by omega,by omega,h2,λ_ _=>rfl,rfl,rfl,_,rfl,by simp⟩
  .rintro m ⟨S,J⟩ ⟨t,ht,rfl,g1,g2,t0,t2,z,t3,rfl⟩;simp only at g1 g2 t0 t2 t3;refine ad.mix 5 ?_;have W3:((jU L t).map vI).length=L.length:=by rw[List.length_map,kQ]
   by_cases H':(t:Int)<(L.length:Int)-1-t
   .have q:((t:Int)<(L.length:Int)-1-t)=True:=eq_true H';have hj:((L.length:Int)-1-t)=((L.length-1-t:Nat):Int):=by omega
    obtain⟨j,hjj⟩:∃j,j=L.length-1-t:=⟨_,rfl⟩
    rw[hj,<-hjj]at t3 q;have ZD:t<(jU L t).length:=by rw[kQ];omega
    have Uv:j<(jU L t).length:=by rw[kQ];omega
    have i1:∀n,n=L.length->bQ J 1 (.own id 0 n) (.int .i64 t)=some (.ptr id t 0):=λn hn=>by subst hn;rw[<-W3];exact j7 g1 (by rw[W3];omega)
    have i2:∀n,n=L.length->bQ J 1 (.own id 0 n) (.int .i64 j)=some (.ptr id j 0):=λn hn=>by subst hn;rw[<-W3];exact j7 g1 (by rw[W3];omega)
    have v1:((jU L t).map vI)[t]?=some (vI ((jU L t).getD t 0)):=by simp[ZD]
    have v2:((jU L t).map vI)[j]?=some (vI ((jU L t).getD j 0)):=by simp[Uv]
    have i3:∀a n,n=L.length->bQ (C' J id ⟨3,1,((jU L t).map vI).set t a⟩) 1 (.own id 0 n) (.int .i64 j)=some (.ptr id j 0):=λa n hn=>by
     have e:n=(((jU L t).map vI).set t a).length:=by rw[List.length_set,W3,hn]
     rw[e];exact j7 ag (by rw[List.length_set,W3];omega)
    have v3:∀a,(((jU L t).map vI).set t a)[j]?=some (vI ((jU L t).getD j 0)):=λa=>by rw[List.getElem?_set_ne (by omega)];exact v2
    have r4:RM .i64 ((t:Int)+1):=ao (by omega) (by omega);have r5:RM .i64 ((j:Int)-1):=ao (by omega) (by omega);apply sR;simp only[go_sem,seval,t0,t2,t3,q,g1,i1 _ rfl,i2 _ rfl,i3 _ _ rfl,v1,v2,v3,r4,r5];refine⟨_,?_,t+1,by omega,rfl,?_,λi hi=>?_,by simp[t0],_,rfl,by omega⟩
    .omega
    .simp only[jU,swp,List.map_set];rw[hjj]
    .rw[ab hi];exact g2 i hi
   .have q:((t:Int)<(L.length:Int)-1-t)=False:=eq_false H';apply sR;simp only[go_sem,seval,t0,t2,t3,q];have hr:=Fx L ht (by omega);rw[hr]at g1;refine⟨_,_,aa.refl _,Wk.refl (aa.refl _) _,rfl,.inr ⟨id,by simp,g1,h3⟩,λi o h hio=>?_⟩;rw[g2 i (λe=>by subst e;rw[h2]at h;injection h with h;subst h;rcases hio with h|h;exact h rfl;exact h h3)]
    exact h
open Go.Proofs Go.Proofs.Tryz
structure Kn where
 (ends T1 both:List Int)
 text:Int
def ia(x:Kn):V:=.agg [bn x.ends,bn x.T1,bn x.both,vI x.text]
def eC(l:List Nd)(of:List Int)(k:Nat):Kn:=
 ⟨V' l of ((k:Int)-1) (λb=>!Xn l of b k),(V' l of k (λb=>!Xn l of b ((k:Int)-1))).reverse,V' l of k (λb=>Xn l of b ((k:Int)-1)),
  if 0<k/\k<of.length/\of.getD k 0=of.getD (k-1) 0 then of.getD k 0 else -1⟩
structure KR(l:List Nd)(of:List Int)(k:Int)(i4 i5 i6 i9 Sb Tz:Nat)(v:V)(Z0 U:ai):Prop where
 ask:BK l of k i4 i5 i9 Sb U
 r6:U i6=some ⟨321,4,[.agg [.aC,.aC,.aC,vI 0]]⟩
 r11:U Tz=some ⟨321,4,[v]⟩
 sub:aa Z0 U
 no:Z0 Tz=none
 ne:i4≠Tz/\i5≠Tz/\i6≠Tz/\i9≠Tz/\Sb≠Tz
def KR.mono{l:List Nd}{of:List Int}{k:Int}{i4 i5 i6 i9 Sb Tz:Nat}{v:V}{Z0 U J:ai}(h:KR l of k i4 i5 i6 i9 Sb Tz v Z0 U)(hs:aa U J):KR l of k i4 i5 i6 i9 Sb Tz v Z0 J:=
 ⟨h.ask.mono hs,hs _ _ h.r6,hs _ _ h.r11,h.sub.trans hs,h.no,h.ne⟩
def KR.put{l:List Nd}{of:List Int}{k:Int}{i4 i5 i6 i9 Sb Tz:Nat}{v w:V}{Z0 U:ai}(h:KR l of k i4 i5 i6 i9 Sb Tz v Z0 U):KR l of k i4 i5 i6 i9 Sb Tz w Z0 (C' U Tz ⟨321,4,[w]⟩):=by
 obtain⟨n1,n2,n3,n4,n5⟩:=h.ne;exact⟨⟨by rw[ab n1];exact h.ask.r4,by rw[ab n2];exact h.ask.r5,by rw[ab n4];exact h.ask.r9,by rw[ab n5];exact h.ask.Xi⟩,by rw[ab n3];exact h.r6,ag,h.sub.aE h.no,h.no,h.ne⟩
def Ck(l:List Nd)(hl:dH l)(hb:So l=true)(of:List Int)(Uc:of.length<=1000000)(SS:∀x∈of,0<=x/\x<l.length)(hm:pX l of=true)(k:Nat)(hk:k<=of.length):
 aV prog 273 [aK l,bn of,vI k] (.RB [ia (eC l of k),vI 0]):=λU=>by
 refine Po.r (by simp[Ls]) ?_;have hs:=aa.refl U;have U5:=fG of;have hn:l.length<=100000:=by have:=hl.1;omega
 refine ad.mix 12 ?_;apply sR;simp only[go_sem,seval,Ls,ae,aj,av,ax];refine af λi4 Z4 s4 a4 f4=>?_;have z4:=hs.none f4;replace hs:=hs.trans s4;simp only[go_sem,seval];refine af λi5 Z5 s5 a5 f5=>?_;have TL:=aq a4 f5;replace a4:=s5 _ _ a4;have z5:=hs.none f5;replace hs:=hs.trans s5;simp only[go_sem,seval];refine af λi6 Z6 s6 a6 f6=>?_;have Zu:=aq a4 f6;replace a4:=s6 _ _ a4;have n56:=aq a5 f6;replace a5:=s6 _ _ a5;have z6:=hs.none f6;replace hs:=hs.trans s6;simp only[go_sem,seval,a4,a5,a6,ae,aj,av];refine ad.aB rfl rfl rfl (nY l hl hb of Uc hm _) ?_;have q0:((0:Int)≠0)=False:=eq_false (λh=>h rfl);have q1:((k:Int)<0)=False:=eq_false (by omega);have q2:((k:Int)>of.length)=False:=eq_false (by omega);apply sR;simp only[go_sem,seval,q0,q1,q2,a4,a5,a6,U5,ae,aj,av,ax];refine af λi9 Z9 s9 a9 f9=>?_;have n49:=aq a4 f9;replace a4:=s9 _ _ a4;have n59:=aq a5 f9;replace a5:=s9 _ _ a5;have n69:=aq a6 f9;replace a6:=s9 _ _ a6;have z9:=hs.none f9;replace hs:=hs.trans s9;simp only[go_sem,seval,a9,a4,a5,a6,ae,aj,av,ax];generalize SL:C' _ i9 _=Y9;replace a9:=(congrFun SL i9).symm.trans ag;replace a4:=((congrFun SL i4).symm.trans (ab n49)).trans a4;replace a5:=((congrFun SL i5).symm.trans (ab n59)).trans a5;replace a6:=((congrFun SL i6).symm.trans (ab n69)).trans a6;replace hs:=Eq.subst (motive:=aa _) SL (hs.aE z9);clear SL;have Xv:V.RQ.cells=[.RQ]:=rfl;refine af λSb WO TV Sg f10=>?_;have n410:=aq a4 f10;replace a4:=TV _ _ a4;have n510:=aq a5 f10;replace a5:=TV _ _ a5;have n610:=aq a6 f10;replace a6:=TV _ _ a6;have n910:=aq a9 f10;replace a9:=TV _ _ a9;have Vr:=hs.none f10;replace hs:=hs.trans TV;simp only[go_sem,seval,Sg,Xv];generalize TW:C' _ Sb _=Y10;replace Sg:=(congrFun TW Sb).symm.trans ag;replace a4:=((congrFun TW i4).symm.trans (ab n410)).trans a4;replace a5:=((congrFun TW i5).symm.trans (ab n510)).trans a5;replace a6:=((congrFun TW i6).symm.trans (ab n610)).trans a6;replace a9:=((congrFun TW i9).symm.trans (ab n910)).trans a9;replace hs:=Eq.subst (motive:=aa _) TW (hs.aE Vr);clear TW;refine af λTz ZS VO Vs f11=>?_;have YH:=aq a4 f11;replace a4:=VO _ _ a4;have XW:=aq a5 f11;replace a5:=VO _ _ a5;have UI:=aq a6 f11;replace a6:=VO _ _ a6;have XX:=aq a9 f11;replace a9:=VO _ _ a9;have SR:=aq Sg f11;replace Sg:=VO _ _ Sg;have z11:=hs.none f11;replace hs:=hs.trans VO;simp only[go_sem,seval,Vs,Sg,a9,a5,a4,ab YH,ab XW,ab UI,ab XX,ab SR,ae,aj];generalize Tj:C' _ Tz _=Y11;replace Vs:=(congrFun Tj Tz).symm.trans ag;replace a4:=((congrFun Tj i4).symm.trans (ab YH)).trans a4;replace a5:=((congrFun Tj i5).symm.trans (ab XW)).trans a5;replace a6:=((congrFun Tj i6).symm.trans (ab UI)).trans a6;replace a9:=((congrFun Tj i9).symm.trans (ab XX)).trans a9;replace Sg:=((congrFun Tj Sb).symm.trans (ab SR)).trans Sg;replace hs:=Eq.subst (motive:=aa _) Tj (hs.aE z11);clear Tj;have hK:KR l of k i4 i5 i6 i9 Sb Tz (.agg [.aC,.aC,.aC,vI (-1)]) U Y11:=⟨⟨a4,a5,a9,Sg⟩,a6,Vs,hs,z11,YH,XW,UI,XX,SR⟩
 clear hs a4 a5 a6 a9 Sg Vs;generalize Y11=J at*;have hZ11:=hK.r11;have hZs:=hK.sub;refine⟨ao (by omega) (by omega),?_⟩;refine ad.call rfl rfl rfl (tc l hl hb hn of Uc SS ((k:Int)-1) 313 [.ptr Sb 0 0,.ptr i5 0 0] (λb=>!Xn l of b k) (λb SD X' ZF=>La l hb hn of Uc SS b SD k (hK.ask.mono ZF))) ?_;rintro v0 Z1 ⟨s1,o0,_⟩;have hK1:=hK.mono s1;clear hK s1;obtain⟨cv0,sv0⟩:=o0.vc;have c11:=hK1.r11;have c9:=hK1.ask.r9;have c5:=hK1.ask.r5;rw[nt]at c9;apply sR;simp only[go_sem,seval,c11,c9,c5,cv0,sv0,ab XX,ab XW,ae,aj];have hK2:=hK1.put (w:=.agg [v0,.aC,.aC,vI (-1)]);have o0':aT (bg U Tz) (C' Z1 Tz ⟨321,4,[.agg [v0,.aC,.aC,vI (-1)]]⟩) 3 1 v0 ((V' l of ((k:Int)-1) (λb=>!Xn l of b k)).map vI):=by
  rcases o0 with h|⟨id,g1,g2,g3⟩
  .exact .inl h
  .have g3:J id=none:=g3;have R6:id≠Tz:=λe=>by rw[e,hZ11]at g3;cases g3
   exact .inr ⟨id,g1,by rw[ab R6];exact g2,aM.2 ⟨R6,hZs.none g3⟩⟩
 generalize C' Z1 Tz ⟨321,4,[.agg [v0,.aC,.aC,vI (-1)]]⟩=Y2 at*;refine ad.call rfl rfl rfl (tc l hl hb hn of Uc SS k 314 [.ptr Sb 0 0,.ptr i5 0 0] (λb=>!Xn l of b ((k:Int)-1)) (λb SD X' ZF=>Kj l hb hn of Uc SS b SD k (by omega) (by omega) (hK2.ask.mono ZF))) ?_;rintro v1 Z3 ⟨s3,o1,n1⟩;have hK3:=hK2.mono s3;have o03:=o0'.mono s3;obtain⟨cv1,sv1⟩:=o1.vc;have d11:=hK3.r11;have x11:=hK2.r11;apply sR;simp only[go_sem,seval,d11,cv0,sv0,cv1,sv1];have hK4:=hK3.put (w:=.agg [v0,v1,.aC,vI (-1)]);have push:∀{K Zx:ai} {v:V} {rows:List V} {o:Ob},K Tz≠none->aT K Zx 3 1 v rows->aT K (C' Zx Tz o) 3 1 v rows:=λ{K Zx v rows o} hk h=>by
  rcases h with h|⟨id,g1,g2,g3⟩
  .exact .inl h
  .exact .inr ⟨id,g1,by rw[ab (λe=>by rw[e]at g3;exact hk g3)];exact g2,g3⟩
 have kk:bg U Tz Tz≠none:=λh=>(aM.1 h).1 rfl;have o1':aT Y2 Z3 3 1 v1 _:=o1;have o04:=push (o:=⟨321,4,[.agg [v0,v1,.aC,vI (-1)]]⟩) kk o03;have o14:=push (o:=⟨321,4,[.agg [v0,v1,.aC,vI (-1)]]⟩) (by rw[x11];simp) o1';generalize C' Z3 Tz ⟨321,4,[.agg [v0,v1,.aC,vI (-1)]]⟩=Y4 at*;have SJ:∀kk p,(V' l of kk p).length<=1000000:=λkk p=>by
  unfold V';split
  .have h1:=List.length_filter_le p (Vu l (of.getD kk.toNat 0).toNat);have h2:=iR l (l.length+1) (eQ l (of.getD kk.toNat 0).toNat);have h3:(Vu l (of.getD kk.toNat 0).toNat).length<=l.length+1:=h2;omega
  .simp
 refine ad.call rfl rfl rfl (D4 _ (SJ _ _) o14 n1) ?_;rintro r Z5 ⟨rfl,o15,TP⟩;have y5:=hK2.ask.r5;have hK5:KR l of k i4 i5 i6 i9 Sb Tz (.agg [v0,v1,.aC,vI (-1)]) U Z5:=
  ⟨⟨TP _ _ hK4.ask.r4 (.inl (by simp)),TP _ _ hK4.ask.r5 (.inr (by rw[y5];simp)),TP _ _ hK4.ask.r9 (.inl (by simp)),TP _ _ hK4.ask.Xi (.inl (by simp))⟩,TP _ _ hK4.r6 (.inl (by simp)),TP _ _ hK4.r11 (.inl (by simp)),
    λi o h=>TP _ _ (hK4.sub _ _ h) (.inr (by rw[hK2.sub _ _ h];simp)),hK4.no,hK4.ne⟩
 have o05:aT (bg U Tz) Z5 3 1 v0 ((V' l of ((k:Int)-1) (λb=>!Xn l of b k)).map vI):=by
  rcases o0' with h|⟨id,g1,g2,g3⟩
  .exact .inl h
  .rcases o04 with⟨e,_⟩|⟨Tx,e1,e2,_⟩
   .rw[g1]at e;cases e
   .rw[g1]at e1;injection e1 with e1 _ _
    subst e1;exact .inr ⟨id,g1,TP _ _ e2 (.inr (by rw[g2];simp)),g3⟩
 have e9:=hK5.ask.r9;have e5:=hK5.ask.r5;have e11:=hK5.r11;rw[nt]at e9;apply sR;simp only[go_sem,seval,e9,e5,e11,ae,aj];refine ad.call rfl rfl rfl (tc l hl hb hn of Uc SS k 316 [.ptr Sb 0 0,.ptr i5 0 0] (λb=>Xn l of b ((k:Int)-1)) (λb SD X' ZF=>Mh l hb hn of Uc SS b SD k (by omega) (by omega) (hK5.ask.mono ZF))) ?_;rintro v2 Z6 ⟨s6,o2,_⟩;have hK6:=hK5.mono s6;have o06:=o05.mono s6;have o16:=o15.mono s6;have o2':aT Z5 Z6 3 1 v2 _:=o2;obtain⟨cv2,sv2⟩:=o2.vc;have f11:=hK6.r11;have f4:=hK6.ask.r4;have f5:=hK6.ask.r5;have f6:=hK6.r6;have WV:∀{K:ai} {J:ai} {v:V} {rows x:List V} {i:Nat} {o:Ob},J i=some ⟨321,4,x⟩->aT K J 3 1 v rows->aT K (C' J i o) 3 1 v rows:=λ{K J v rows x i o} hi h=>by
  rcases h with h|⟨id,g1,g2,g3⟩
  .exact .inl h
  .refine .inr ⟨id,g1,?_,g3⟩;rw[ab (λe=>by rw[e,hi]at g2;cases g2)];exact g2
 have hsK1:aa U (bg U Tz):=λi o h=>by rw[bg,if_neg (λe=>by rw[e,hK6.no]at h;cases h)];exact h
 have fin:∀(t:Int) (o:Ob),t=(eC l of k).text->ay (.RB [.agg [v0,v1,v2,vI t],vI 0]) (C' (C' Z6 Tz ⟨321,4,[.agg [v0,v1,v2,vI t]]⟩) i6 o) λr Z'=>r=.RB [ia (eC l of k),vI 0]/\Z'=U:=by
  intro t o ht;have g6:=f6;rw[<-ab (U:=Z6) (o:=⟨321,4,[.agg [v0,v1,v2,vI t]]⟩) UI]at g6;have p0:=WV (o:=o) g6 (WV (o:=⟨321,4,[.agg [v0,v1,v2,vI t]]⟩) f11 o06);have p1:=WV (o:=o) g6 (WV (o:=⟨321,4,[.agg [v0,v1,v2,vI t]]⟩) f11 o16);have p2:=WV (o:=o) g6 (WV (o:=⟨321,4,[.agg [v0,v1,v2,vI t]]⟩) f11 o2');have RV:=((hK6.sub.aE (o:=⟨321,4,[.agg [v0,v1,v2,vI t]]⟩) hK6.no)).aE (o:=o) z6;refine⟨_,U,RV,Wk.RB (vs':=[ia (eC l of k),vI 0]) ⟨Wk.agg (vs':=[bn (eC l of k).ends,bn (eC l of k).T1,bn (eC l of k).both,vI (eC l of k).text]) ⟨p0.wk hsK1 RV,p1.wk hK2.sub RV,p2.wk hK5.sub RV,by rw[<-ht];exact Wk.refl RV _,trivial⟩,Wk.refl RV _,trivial⟩,rfl,rfl⟩
 rcases Nat.eq_zero_or_pos k with rfl|h0
 .have q3:((((0:Nat):Int))>0)=False:=eq_false (by omega);have ft:=fin (-1);apply sR;simp only[go_sem,seval,f11,f4,f5,f6,cv0,sv0,cv1,sv1,cv2,sv2,ab YH,ab XW,ab UI,ab XX,ab SR,q3,ae,aj,av,ax];exact fin _ _ (by simp[eC])
 have q3:((k:Int)>0)=True:=eq_true (by omega);by_cases h1:k<of.length
 .have q4:((k:Int)<of.length)=True:=eq_true (by omega);have q5:=ao (m:=((k-1:Nat):Int)) (by omega) (by omega);have q6:((k:Int)-1)=((k-1:Nat):Int):=by omega
  have q7:=λU=>gS (U:=U) h1;have q8:=λU=>gS (U:=U) (l:=of) (i:=k-1) (by omega);have g1:of.getD k 0=of[k]:=by simp[h1]
  have g2:of.getD (k-1) 0=of[k-1]:=by have:k-1<of.length:=by omega
                                      simp[this]
  by_cases h2:of.getD k 0=of.getD (k-1) 0
  .have q9:(of[k]=of[k-1])=True:=eq_true (by rw[<-g1,<-g2];exact h2);apply sR;simp only[go_sem,seval,f11,f4,f5,f6,cv0,sv0,cv1,sv1,cv2,sv2,ab YH,ab XW,ab UI,ab XX,ab SR,q3,q4,q5,q6,q7,q8,q9,U5,ae,aj,av,ax];exact fin _ _ (by simp only[eC];rw[if_pos ⟨h0,h1,h2⟩,g1])
  .have q9:(of[k]=of[k-1])=False:=eq_false (by rw[<-g1,<-g2];exact h2);apply sR;simp only[go_sem,seval,f11,f4,f5,f6,cv0,sv0,cv1,sv1,cv2,sv2,ab YH,ab XW,ab UI,ab XX,ab SR,q3,q4,q5,q6,q7,q8,q9,U5,ae,aj,av,ax];exact fin _ _ (by simp only[eC];rw[if_neg (λh=>h2 h.2.2)])
 .have q4:((k:Int)<of.length)=False:=eq_false (by omega);apply sR;simp only[go_sem,seval,f11,f4,f5,f6,cv0,sv0,cv1,sv1,cv2,sv2,ab YH,ab XW,ab UI,ab XX,ab SR,q3,q4,U5,ae,aj,av,ax];exact fin _ _ (by simp only[eC];rw[if_neg (λh=>h1 h.2.1)])
open Go.Proofs Go.Proofs.Tryz
def Tk(l:List Nd)(b:Int):SW:=((l[b.toNat]?).map Nd.st).getD SW.zero
def lE(l:List Nd)(b:Int):List Int:=(if 0<(Tk l b).head then[2]else[])++[(Tk l b).before]
def Bs(l:List Nd)(x:Kn):List Int:=x.ends.map (λb=>(Tk l b).after)++x.T1.flatMap (lE l)
def jj{l:List Nd}{b:Nat}(h:b<l.length):Tk l b=l[b].st:=by simp[Tk,h]
def AT(l:List Nd)(x:Kn)(hE:x.ends.length<=1000000)(hB:x.T1.length<=1000000)(he:∀b∈x.ends,∃n:Nat,b=n/\n<l.length)(hb:∀b∈x.T1,∃n:Nat,b=n/\n<l.length):
 Iter prog 317 [.rp (ia x),.rp (aK l)] ((Bs l x).map λn=>[vI n]):=by
 refine⟨NW.c,λRZ τ Jx Z0 hy hJ=>?_⟩;refine(NW.r (by simp[MJ]) ?_).2;obtain⟨E,B,C,tx⟩:=x;simp only at hE hB he hb;have hlE:=fG E;have hlB:=fG B;have ldI:∀(U:ai) (X:List Int),bT U false 1 (.rp (bn X))=some (bn X):=λU X=>rfl;have ldN:∀U:ai,bT U false 1 (.rp (aK l))=some (aK l):=λU=>rfl;generalize hT:(Bs l ⟨E,B,C,tx⟩).map (λn=>[vI n])=T at hy|-;refine ad.mix 9 ?_;apply sR;simp only[go_sem,seval,MJ,ia,ldI,hlE,aj,av];refine ad.fi (λst=>∃(ZJ:ai),τ ((E.map λb=>(Tk l b).after).map λn=>[vI n]) ZJ/\aa ZJ st.U/\st.s 0=.yl RZ/\st.s 1=.rp (ia ⟨E,B,C,tx⟩)/\st.s 2=.rp (aK l))
  (λm st=>∃(j:Nat) (ZJ:ai),j<=E.length/\m=E.length-j/\τ (((E.take j).map λb=>(Tk l b).after).map λn=>[vI n]) ZJ/\aa ZJ st.U/\st.s 0=.yl RZ/\st.s 1=.rp (ia ⟨E,B,C,tx⟩)/\st.s 2=.rp (aK l)/\st.s 10=bn E/\st.s 11=vI E.length/\st.s 12=vI j) E.length ?_ ?_ ?_
 .exact⟨0,Z0,by omega,rfl,by simpa using hJ,aa.refl _,rfl,rfl,rfl,rfl,rfl,rfl⟩
 .rintro m ⟨S,J⟩ ⟨j,ZJ,hj,rfl,Tq,G',t0,t1,t2,t10,t11,t12⟩;simp only at G' t0 t1 t2 t10 t11 t12;refine ad.mix 9 ?_;by_cases H':j<E.length
  .have q:((j:Int)<E.length)=True:=eq_true (by omega);have Rv:=λU=>gS (U:=U) H';have SB:E.take (j+1)=E.take j++[E[j]]:=List.take_succ_eq_append_getElem H';obtain⟨b,ZW,SD⟩:=he _ (List.getElem_mem H');have e0':E=E.take j++E[j]::E.drop (j+1):=by rw[<-List.drop_eq_getElem_cons H',List.take_append_drop]
   have e:T=(((E.take j).map λb=>(Tk l b).after).map λn=>[vI n])++[vI l[b].st.after]::((((E.drop (j+1)).map λb=>(Tk l b).after)++B.flatMap (lE l)).map λn=>[vI n]):=by
    rw[<-hT,Bs]
    conv=>lhs;rw[e0']
    simp[ZW,jj SD]
   rw[ZW]at Rv SB;have Tm:=λU=>cJ (U:=U) (l:=l) (a:=b) SD;have r1:RM .i64 ((j:Int)+1):=ao (by omega) (by omega);apply sR;simp only[go_sem,seval,t0,t1,t2,t10,t11,t12,q,Rv,ldN,Tm,Nd.cells];refine ad.lN (Post:=λb' Z2=>∃RX,bh ZJ J RX Z2/\((b'=true/\τ ((((E.take j).map λb=>(Tk l b).after).map λn=>[vI n])++[[vI l[b].st.after]]) RX)\/(b'=false/\Jx ((((E.take j).map λb=>(Tk l b).after).map λn=>[vI n])++[[vI l[b].st.after]]) RX))) rfl rfl rfl (hy _ [vI l[b].st.after] _ ZJ J e Tq G') ?_;rintro b' Z2 ⟨RX,SI,Sr⟩;rcases Sr with⟨rfl,Sr⟩|⟨rfl,Sr⟩
   .apply sR;simp only[go_sem,seval,t0,t1,t2,t10,t11,t12,r1];refine⟨_,?_,j+1,RX,by omega,rfl,by rw[SB];simpa[jj SD]using Sr,SI.1,by simp[t0,t1,t2,t10,t11]⟩;omega
   .apply sR;simp only[go_sem,seval,t0,t1,t2,t10,t11,t12];exact⟨_,RX,SI.1,Wk.refl SI.1 _,.inr ⟨_,⟨_,by rw[e,List.append_assoc];rfl⟩,Sr⟩⟩
  .have q:((j:Int)<E.length)=False:=eq_false (by omega);rw[List.take_of_length_le (by omega)]at Tq;apply sR;simp only[go_sem,seval,t0,t1,t2,t10,t11,t12,q];exact⟨ZJ,Tq,G'⟩
 .rintro⟨S,J⟩ ⟨ZJ,Tq,G',t0,t1,t2⟩;simp only at G' t0 t1 t2;generalize hP:((E.map λb=>(Tk l b).after).map λn=>[vI n])=P1 at*;refine ad.mix 9 ?_;apply sR;simp only[go_sem,seval,t0,t1,t2,ia,ldI,hlB,aj,av];refine ad.loop (λm st=>∃(j:Nat) (ZJ:ai),j<=B.length/\m=B.length-j/\τ (P1++((B.take j).flatMap (lE l)).map λn=>[vI n]) ZJ/\aa ZJ st.U/\st.s 0=.yl RZ/\st.s 2=.rp (aK l)/\st.s 27=bn B/\st.s 28=vI B.length/\st.s 29=vI j) B.length ?_ ?_
  .exact⟨0,ZJ,by omega,rfl,by simpa using Tq,G',t0,t2,rfl,rfl,rfl⟩
  .clear Tq G' t0 t1 t2;rintro m ⟨S,J⟩ ⟨j,ZJ,hj,rfl,Tq,G',t0,t2,t27,t28,t29⟩;simp only at G' t0 t2 t27 t28 t29;refine ad.mix 9 ?_;by_cases H':j<B.length
   .have q:((j:Int)<B.length)=True:=eq_true (by omega);have Rv:=λU=>gS (U:=U) H';have SB:B.take (j+1)=B.take j++[B[j]]:=List.take_succ_eq_append_getElem H';obtain⟨b,ZW,SD⟩:=hb _ (List.getElem_mem H');have e0':B=B.take j++B[j]::B.drop (j+1):=by rw[<-List.drop_eq_getElem_cons H',List.take_append_drop]
    have e:T=(P1++((B.take j).flatMap (lE l)).map λn=>[vI n])++((lE l b).map λn=>[vI n])++(((B.drop (j+1)).flatMap (lE l)).map λn=>[vI n]):=by
     rw[<-hT,Bs,List.map_append,hP]
     conv=>lhs;rw[e0']
     simp[ZW]
    rw[ZW]at Rv SB;have Tm:=λU=>cJ (U:=U) (l:=l) (a:=b) SD;have r1:RM .i64 ((j:Int)+1):=ao (by omega) (by omega);have hs:=aa.refl J;have htk2:(P1++((B.take (j+1)).flatMap (lE l)).map λn=>[vI n])=(P1++((B.take j).flatMap (lE l)).map λn=>[vI n])++((lE l b).map λn=>[vI n]):=by rw[SB];simp
    generalize (P1++((B.take j).flatMap (lE l)).map λn=>[vI n])=P2 at*;have hbg:lE l b=(if 0<l[b].st.head then[2]else[])++[l[b].st.before]:=by rw[lE,jj SD]
    apply sR;simp only[go_sem,seval,t0,t2,t27,t28,t29,q,Rv,ldN,Tm,Nd.cells];refine af λi8 Z8 s8 a8 f8=>?_;have z8:=hs.none f8;replace hs:=hs.trans s8;simp only[go_sem,seval,a8,t0,t2,t27,t28,t29,ldN,Tm,Nd.cells];generalize SY:C' _ i8 _=Y8;replace a8:=(congrFun SY i8).symm.trans ag;replace hs:=Eq.subst (motive:=aa _) SY (hs.aE z8);clear SY;generalize ((B.drop (j+1)).flatMap (lE l)).map (λn=>[vI n])=R2 at*;refine⟨λh0=>?_,λh0=>?_⟩
    .have e1:T=P2++[vI 2]::([vI l[b].st.before]::R2):=by rw[e,hbg,if_pos h0];simp
     have e2:T=(P2++[[vI 2]])++[vI l[b].st.before]::R2:=by rw[e1];simp
     have e3:(P2++[[vI 2]])++[[vI l[b].st.before]]=P2++(lE l b).map λn=>[vI n]:=by rw[hbg,if_pos h0];simp
     have hsub8:aa ZJ Y8:=G'.trans hs;refine ad.lN (Post:=λb' Z2=>∃RX,bh ZJ Y8 RX Z2/\((b'=true/\τ (P2++[[vI 2]]) RX)\/(b'=false/\Jx (P2++[[vI 2]]) RX))) rfl rfl rfl (hy _ [vI 2] _ ZJ Y8 e1 Tq hsub8) ?_;rintro b' Z2 ⟨RX,SI,Sr⟩;rcases Sr with⟨rfl,Sr⟩|⟨rfl,Sr⟩
     .have a8':=(SI.2 i8 _ (G'.none z8) a8).1;apply sR;simp only[go_sem,seval,t0,t2,t27,t28,t29,a8'];refine ad.lN (Post:=λb' Z3=>∃ZH,bh RX Z2 ZH Z3/\((b'=true/\τ ((P2++[[vI 2]])++[[vI l[b].st.before]]) ZH)\/(b'=false/\Jx ((P2++[[vI 2]])++[[vI l[b].st.before]]) ZH))) rfl rfl rfl (hy _ [vI l[b].st.before] _ RX Z2 e2 Sr SI.1) ?_;rintro b3 Z3 ⟨ZH,YI,Wa⟩;rcases Wa with⟨rfl,Wa⟩|⟨rfl,Wa⟩
      .apply sR;simp only[go_sem,seval,t0,t2,t27,t28,t29,r1];refine⟨_,?_,j+1,ZH,by omega,rfl,by rw[htk2,<-e3];exact Wa,YI.1,by simp[t0,t2,t27,t28]⟩;omega
      .apply sR;simp only[go_sem,seval,t0,t2,t27,t28,t29];exact⟨_,ZH,YI.1,Wk.refl YI.1 _,.inr ⟨_,⟨_,by rw[e2,List.append_assoc];rfl⟩,Wa⟩⟩
     .apply sR;simp only[go_sem,seval,t0,t2,t27,t28,t29];exact⟨_,RX,SI.1,Wk.refl SI.1 _,.inr ⟨_,⟨_,by rw[e1,List.append_assoc];rfl⟩,Sr⟩⟩
    .have e2:T=P2++[vI l[b].st.before]::R2:=by rw[e,hbg,if_neg (by omega)];simp
     have e3:P2++[[vI l[b].st.before]]=P2++(lE l b).map λn=>[vI n]:=by rw[hbg,if_neg (by omega)];simp
     have hsub8:aa ZJ Y8:=G'.trans hs;apply sR;simp only[go_sem,seval,t0,t2,t27,t28,t29,a8];refine ad.lN (Post:=λb' Z3=>∃ZH,bh ZJ Y8 ZH Z3/\((b'=true/\τ (P2++[[vI l[b].st.before]]) ZH)\/(b'=false/\Jx (P2++[[vI l[b].st.before]]) ZH))) rfl rfl rfl (hy _ [vI l[b].st.before] _ ZJ Y8 e2 Tq hsub8) ?_;rintro b3 Z3 ⟨ZH,YI,Wa⟩;rcases Wa with⟨rfl,Wa⟩|⟨rfl,Wa⟩
     .apply sR;simp only[go_sem,seval,t0,t2,t27,t28,t29,r1];refine⟨_,?_,j+1,ZH,by omega,rfl,by rw[htk2,<-e3];exact Wa,YI.1,by simp[t0,t2,t27,t28]⟩;omega
     .apply sR;simp only[go_sem,seval,t0,t2,t27,t28,t29];exact⟨_,ZH,YI.1,Wk.refl YI.1 _,.inr ⟨_,⟨_,by rw[e2,List.append_assoc];rfl⟩,Wa⟩⟩
   .have q:((j:Int)<B.length)=False:=eq_false (by omega);rw[List.take_of_length_le (by omega),<-hP,<-List.map_append]at Tq;apply sR;simp only[go_sem,seval,t0,t2,t27,t28,t29,q];exact⟨_,ZJ,G',Wk.refl G' _,.inl (hT▸Tq)⟩
open Go.Proofs Go.Proofs.Tryz
def wB{l:List Nd}{of:List Int}(SS:∀x∈of,0<=x/\x<l.length){k:Int}{p:Int->Bool}:∀b∈V' l of k p,∃n:Nat,b=n/\n<l.length:=λb hb=>by
 unfold V' at hb;split at hb
 .rename_i h;have H':k.toNat<of.length:=by omega
  have Wt:of.getD k.toNat 0=of[k.toNat]:=by simp[H']
  rw[Wt]at hb;obtain⟨h0,h1⟩:=SS _ (List.getElem_mem H');obtain⟨n,rfl,hn⟩:=og (l:=l) (a:=of[k.toNat].toNat) (by omega) b (List.mem_filter.1 hb).1;exact⟨n,rfl,by omega⟩
 .cases hb
def nZ{l:List Nd}(hn:l.length<=100000){of:List Int}{k:Int}{p:Int->Bool}:(V' l of k p).length<=100001:=by
 unfold V';split
 .have h1:=List.length_filter_le p (Vu l (of.getD k.toNat 0).toNat);have h2:=iR l (l.length+1) (eQ l (of.getD k.toNat 0).toNat);have h3:(Vu l (of.getD k.toNat 0).toNat).length<=l.length+1:=h2;omega
 .simp
def FJ(l:List Nd)(b:Int):(lE l b).length<=2:=by unfold lE;split<;>simp
def yY{α β:Type}(f:α->List β)(hf:∀a,(f a).length<=2):∀L:List α,(L.flatMap f).length<=2*L.length
 |[]=>by simp
 |a::L=>by
  rw[List.flatMap_cons,List.length_append,List.length_cons];have:=yY f hf L;have:=hf a;omega
def jK(l:List Nd)(of:List Int)(k:Nat):List Int:=if k=of.length then[]else Bs l (eC l of k)
def yD{l:List Nd}(hn:l.length<=100000)(of:List Int)(k:Nat):(Bs l (eC l of k)).length<=1000000:=by
 unfold Bs;rw[List.length_append,List.length_map];have h1:=yY (lE l) (FJ l) (eC l of k).T1;have h2:(eC l of k).ends.length<=100001:=nZ hn;have h3:(eC l of k).T1.length<=100001:=by
  rw[eC,List.length_reverse];exact nZ hn
 omega
def Gz(l:List Nd)(x:Kn):aV prog 274 [aK l,ia x] (.fn 317 [.rp (ia x),.rp (aK l)]):=λU=>by
 refine PD.r (by simp[MC]) ?_;refine ad.mix 4 ?_;have q1:=ae l;have q2:=ax l;generalize aK l=y at*;obtain⟨E,B,C,tx⟩:=x;simp only[ia];apply sR;simp only[go_sem,seval,MC,q1,q2,aj,av];refine af λU4 Z1 s1 a1 f1=>?_;simp only[go_sem,seval,q1,q2,aj,av];refine af λWC Z2 s2 a2 f2=>?_;simp only[go_sem,seval];exact⟨_,U,s1.trans s2,Wk.fn (vs':=[.rp (.agg [bn E,bn B,bn C,vI tx]),.rp y]) ⟨Wk.ptr (s1.trans s2) a2 (s1.none f2),Wk.ptr (s1.trans s2) (s2 _ _ a1) f1,trivial⟩,rfl,rfl⟩
def B5(l:List Nd)(hl:dH l)(hb:So l=true)(of:List Int)(Uc:of.length<=1000000)(SS:∀x∈of,0<=x/\x<l.length)(hm:pX l of=true)(k:Nat)(hk:k<=of.length):
 aV prog 228 [aK l,bn of,vI k] (.RB [bn (jK l of k),vI 0]):=λU=>by
 refine OF.r (by simp[Kw]) ?_;have hs:=aa.refl U;have U5:=fG of;have hn:l.length<=100000:=by have:=hl.1;omega
 refine ad.mix 10 ?_;apply sR;simp only[go_sem,seval,Kw];refine ad.aB rfl rfl rfl (Ck l hl hb of Uc SS hm k hk _) ?_;apply sR;simp only[go_sem,seval,ia];refine af λi8 Z8 s8 a8 f8=>?_;have z8:=hs.none f8;replace hs:=hs.trans s8;have q0:((0:Int)≠0)=False:=eq_false (λh=>h rfl);by_cases Vz:k=of.length
 .have q1:((k:Int)=of.length)=True:=eq_true (by omega);simp only[go_sem,seval,a8,U5,q0,q1,ia,aj,av];rw[jK,if_pos Vz];have RV:=hs.aE (o:=⟨321,4,[ia (eC l of k)]⟩) z8;exact⟨_,U,RV,Wk.RB (vs':=[bn [],vI 0]) ⟨(aT.start (e:=3)).wk (aa.refl _) RV,Wk.refl RV _,trivial⟩,rfl,rfl⟩
 .have q1:((k:Int)=of.length)=False:=eq_false (by omega);simp only[go_sem,seval,a8,U5,q0,q1,ia,aj,av];refine ad.aB rfl rfl rfl (Gz l (eC l of k) _) ?_;apply sR;simp only[go_sem,seval];have Up:=yD hn of k;have WM:=AT l (eC l of k) (Nat.le_trans (nZ hn) (by omega)) (by rw[eC,List.length_reverse];exact Nat.le_trans (nZ hn) (by omega)) (wB SS) (λb hb=>wB SS b (List.mem_reverse.1 hb));refine ad.aB rfl rfl rfl (vC WM Up _) ?_;apply sR;simp only[go_sem,seval];rw[jK,if_neg Vz];have RV:=hs.aE (o:=⟨321,4,[ia (eC l of k)]⟩) z8;exact⟨_,U,RV,Wk.refl RV _,rfl,rfl⟩
open Go.Proofs Go.Proofs.Tryz
def mq(out n:Int)(WJ:Bool):Int:=if WJ=true\/out=0 then n else out
def j6(out n:Int):Int:=if n=3\/n=4 then mq out n true else if n=2 then mq out n false else out
def dB(all:List Int):Int:=all.foldl j6 0
def wX(n:Int)(WJ:Bool)(out:Int){U:ai}{i3:Nat}(h:U i3=some ⟨3,1,[vI out]⟩):
 aD prog 275 [vI n,.bool WJ,.ptr i3 0 0] U λ_ Z'=>Z' i3=some ⟨3,1,[vI (mq out n WJ)]⟩/\∀i,i≠i3->Z' i=U i:=by
 refine Rk.r (by simp[Ej]) ?_;refine ad.mix 5 ?_;have fin:∀J:ai,J i3=some ⟨3,1,[vI (mq out n WJ)]⟩->(∀i,i≠i3->J i=U i)->ay (.RB []) J λ_ Z'=>Z' i3=some ⟨3,1,[vI (mq out n WJ)]⟩/\∀i,i≠i3->Z' i=U i:=λJ h1 h2=>
  ⟨_,J,aa.refl _,Wk.refl (aa.refl _) _,h1,h2⟩
 by_cases h0:WJ=true\/out=0
 .have ht:mq out n WJ=n:=if_pos h0;rw[ht]at fin|-;cases WJ
  .have q:(out=0)=True:=eq_true (by simpa using h0);apply sR;simp only[go_sem,seval,Ej,h,q];exact fin _ ag λi hi=>ab hi
  .apply sR;simp only[go_sem,seval,Ej,h];exact fin _ ag λi hi=>ab hi
 .have ht:mq out n WJ=out:=if_neg h0;rw[ht]at fin|-;simp only[not_or,Bool.not_eq_true]at h0;obtain⟨rfl,h0⟩:=h0;have q:(out=0)=False:=eq_false h0;apply sR;simp only[go_sem,seval,Ej,h,q];exact fin _ h λi hi=>rfl
def Eo(all:List Int)(Up:all.length<=1000000):aV prog 229 [bn all] (vI (dB all)):=λU=>by
 refine O3.r (by simp[K0]) ?_;have hs:=aa.refl U;have UH:=fG all;refine ad.mix 8 ?_;apply sR;simp only[go_sem,seval,K0];refine af λi3 Z3 s3 a3 f3=>?_;have z3:=hs.none f3;replace hs:=hs.trans s3;simp only[go_sem,seval,a3,UH];generalize ZI:C' _ i3 _=X3;replace a3:=(congrFun ZI i3).symm.trans ag;replace hs:=Eq.subst (motive:=aa _) ZI (hs.aE z3);clear ZI;refine ad.fi (λst=>st.U i3=some ⟨3,1,[vI (dB all)]⟩/\aa U st.U/\st.s 3=.ptr i3 0 0)
  (λm st=>∃j:Nat,j<=all.length/\m=all.length-j/\st.U i3=some ⟨3,1,[vI (dB (all.take j))]⟩/\aa U st.U/\st.s 3=.ptr i3 0 0/\st.s 4=.fn 275 [.ptr i3 0 0]/\st.s 9=bn all/\st.s 10=vI all.length/\st.s 11=vI j) all.length ?_ ?_ ?_
 .exact⟨0,by omega,rfl,a3,hs,rfl,rfl,rfl,rfl,rfl⟩
 .clear a3 hs;rintro m ⟨S,J⟩ ⟨j,hj,rfl,b3,hs,t3,t4,t9,t10,t11⟩;simp only at b3 hs t3 t4 t9 t10 t11;refine ad.mix 8 ?_;by_cases H':j<all.length
  .have q:((j:Int)<all.length)=True:=eq_true (by omega);have Rv:=λU=>gS (U:=U) H';have SB:dB (all.take (j+1))=j6 (dB (all.take j)) all[j]:=by
    rw[dB,List.take_succ_eq_append_getElem H',List.foldl_append];rfl
   have r1:RM .i64 ((j:Int)+1):=ao (by omega) (by omega);generalize all[j]=n at*;have sub2:∀{ρ:ai} {o:Ob},ρ i3=some o->(∀i,i≠i3->ρ i=J i)->aa U ρ:=λ{ρ o} h1 h2 i x hx=>by
    rw[h2 i (λe=>by rw[e,z3]at hx;cases hx)];exact hs _ _ hx
   by_cases h3:n=3
   .have q3:(n=3)=True:=eq_true h3;have RV:mq (dB (all.take j)) n true=j6 (dB (all.take j)) n:=by rw[j6,if_pos (.inl h3)]
    apply sR;simp only[go_sem,seval,t3,t4,t9,t10,t11,q,q3,Rv];refine ad.call rfl rfl rfl (wX n true (dB (all.take j)) b3) ?_;rintro-ρ ⟨g1,g2⟩;apply sR;simp only[go_sem,seval,t3,t4,t9,t10,t11,r1];refine⟨_,?_,j+1,by omega,rfl,by rw[SB];exact RV▸g1,sub2 g1 g2,by simp[t3,t4,t9,t10]⟩;omega
   .have q3:(n=3)=False:=eq_false h3;by_cases h4:n=4
    .have q4:(n=4)=True:=eq_true h4;have RV:mq (dB (all.take j)) n true=j6 (dB (all.take j)) n:=by rw[j6,if_pos (.inr h4)]
     apply sR;simp only[go_sem,seval,t3,t4,t9,t10,t11,q,q3,q4,Rv];refine ad.call rfl rfl rfl (wX n true (dB (all.take j)) b3) ?_;rintro-ρ ⟨g1,g2⟩;apply sR;simp only[go_sem,seval,t3,t4,t9,t10,t11,r1];refine⟨_,?_,j+1,by omega,rfl,by rw[SB];exact RV▸g1,sub2 g1 g2,by simp[t3,t4,t9,t10]⟩;omega
    .have q4:(n=4)=False:=eq_false h4;by_cases h2:n=2
     .have q2:(n=2)=True:=eq_true h2;have RV:mq (dB (all.take j)) n false=j6 (dB (all.take j)) n:=by rw[j6,if_neg (by simp[h3,h4]),if_pos h2]
      apply sR;simp only[go_sem,seval,t3,t4,t9,t10,t11,q,q3,q4,q2,Rv];refine ad.call rfl rfl rfl (wX n false (dB (all.take j)) b3) ?_;rintro-ρ ⟨g1,g2⟩;apply sR;simp only[go_sem,seval,t3,t4,t9,t10,t11,r1];refine⟨_,?_,j+1,by omega,rfl,by rw[SB];exact RV▸g1,sub2 g1 g2,by simp[t3,t4,t9,t10]⟩;omega
     .have q2:(n=2)=False:=eq_false h2;have RV:dB (all.take j)=j6 (dB (all.take j)) n:=by rw[j6,if_neg (by simp[h3,h4]),if_neg h2]
      apply sR;simp only[go_sem,seval,t3,t4,t9,t10,t11,q,q3,q4,q2,r1,Rv];refine⟨_,?_,j+1,by omega,rfl,by rw[SB,<-RV];exact b3,hs,by simp[t3,t4,t9,t10]⟩;omega
  .have q:((j:Int)<all.length)=False:=eq_false (by omega);rw[List.take_of_length_le (by omega)]at b3;apply sR;simp only[go_sem,seval,t3,t4,t9,t10,t11,q];exact⟨b3,hs⟩
 .rintro⟨S,J⟩ ⟨b3,hs,t3⟩;simp only at b3 hs t3;refine ad.mix 8 ?_;apply sR;simp only[go_sem,seval,t3,b3];exact⟨_,U,hs,Wk.refl hs _,rfl,rfl⟩
open Go.Proofs Go.Proofs.Tryz
def je(l:List Nd)(of:List Int)(k:Nat):Int:=dB (jK l of k)
def sM{l:List Nd}(hn:l.length<=100000)(of:List Int)(k:Nat):(jK l of k).length<=1000000:=by
 unfold jK;split
 .simp
 .exact yD hn of k
def Nv(l:List Nd)(hl:dH l)(hb:So l=true)(of:List Int)(Uc:of.length<=1000000)(SS:∀x∈of,0<=x/\x<l.length)(hm:pX l of=true)(k:Nat)(hk:k<=of.length):
 aV prog 170 [aK l,bn of,vI k] (.RB [vI (je l of k),vI 0]):=λU=>by
 refine ON.r (by simp[MG]) ?_;have hs:=aa.refl U;have hn:l.length<=100000:=by have:=hl.1;omega
 refine ad.mix 11 ?_;apply sR;simp only[go_sem,seval,MG];refine ad.aB rfl rfl rfl (B5 l hl hb of Uc SS hm k hk _) ?_;apply sR;simp only[go_sem,seval];refine ad.aB rfl rfl rfl (Eo _ (sM hn of k) _) ?_;apply sR;simp only[go_sem,seval];exact ay.pure hs rfl
def yr(l:List Nd)(of:List Int):List Int:=(List.range (of.length+1)).map (je l of)
def Je(l:List Nd)(hl:dH l)(hb:So l=true)(of:List Int)(Uc:of.length<=1000000)(SS:∀x∈of,0<=x/\x<l.length)(hm:pX l of=true):
 aV prog 110 [aK l,bn of] (.RB [bn (yr l of),vI 0]):=λU=>by
 refine QM.r (by simp[KZ]) ?_;have hs:=aa.refl U;have U5:=fG of;refine ad.mix 11 ?_;apply sR;simp only[go_sem,seval,KZ];refine ad.aB rfl rfl rfl (nY l hl hb of Uc hm _) ?_;have q0:((0:Int)≠0)=False:=eq_false (λh=>h rfl);have r0:RM .i64 ((of.length:Int)+1):=ao (by omega) (by omega);apply sR;simp only[go_sem,seval,q0,U5,r0];refine ad.fi (λst=>aa U st.U/\aT U st.U 3 1 (st.s 7) ((yr l of).map vI))
  (λm st=>∃j:Nat,j<=of.length+1/\m=of.length+1-j/\aa U st.U/\aT U st.U 3 1 (st.s 7) (((List.range j).map (je l of)).map vI)/\st.s 0=aK l/\st.s 1=bn of/\st.s 19=vI ((of.length:Int)+1)/\st.s 20=vI j) (of.length+1) ?_ ?_ ?_
 .exact⟨0,by omega,rfl,hs,aT.start,rfl,rfl,rfl,rfl⟩
 .clear hs;rintro m ⟨S,J⟩ ⟨j,hj,rfl,hs,ho,t0,t1,t19,t20⟩;simp only at hs ho t0 t1 t19 t20;generalize hv7:S 7=v7 at ho;refine ad.mix 11 ?_;by_cases H':j<of.length+1
  .have q:((j:Int)<of.length+1)=True:=eq_true (by omega);have r1:RM .i64 ((j:Int)+1):=ao (by omega) (by omega);have Se:(((List.range (j+1)).map (je l of)).map vI)=(((List.range j).map (je l of)).map vI)++[vI (je l of j)]:=by
    rw[List.range_succ];simp
   have WT:(((List.range j).map (je l of)).map vI).length=j:=by simp
   apply sR;simp only[go_sem,seval,t0,t1,t19,t20,q];refine ad.aB rfl rfl rfl (Nv l hl hb of Uc SS hm j (by omega) _) ?_;generalize ((List.range j).map (je l of)).map vI=rows at*;apply sR;simp only[go_sem,seval,t0,t1,t19,t20,hv7];refine af λi32 Z32 s32 a32 f32=>?_;obtain⟨RN,Th,SQ,ZA,XK⟩:=ho.Be s32;have Sx:(rows.length+1)*9<=140737488355328:=by omega
   simp only[go_sem,seval,t0,t1,t19,t20,hv7,Th,dT a32,Sx];refine ga λi33 Z33 s33 a33 f33=>?_;have k33:=(SQ U (aa.refl _) Z32 (hs.trans s32)).trans s33;have n33:U i33=none:=(hs.trans s32).none f33;simp only[go_sem,seval,t0,t1,t19,t20,r1];refine⟨_,?_,j+1,by omega,rfl,k33,?_,by simp[t0,t1,t19]⟩
   .omega
   .rw[Se];exact aT.new (by simp) a33 n33
  .have q:((j:Int)<of.length+1)=False:=eq_false (by omega);have Tt:j=of.length+1:=by omega
   subst Tt;apply sR;simp only[go_sem,seval,t0,t1,t19,t20,q];exact⟨hs,hv7▸ho⟩
 .rintro⟨S,J⟩ ⟨hs,ho⟩;simp only at hs ho;generalize hv7:S 7=v7 at ho;refine ad.mix 11 ?_;apply sR;simp only[go_sem,seval,hv7];exact⟨_,U,hs,Wk.RB (vs':=[bn (yr l of),vI 0]) ⟨ho.wk (aa.refl _) hs,Wk.refl hs _,trivial⟩,rfl,rfl⟩
open Go.Proofs Go.Proofs.Tryz
def iL(l:List Nd)(of:List Int)(k:Int)(x:Kn):V:=.agg [bn x.ends,bn x.T1,bn x.both,vI x.text,aK l,bn of,vI k]
def KW(l:List Nd)(hl:dH l)(hb:So l=true)(of:List Int)(Uc:of.length<=1000000)(SS:∀x∈of,0<=x/\x<l.length)(hm:pX l of=true)(k:Nat)(hk:k<=of.length):
 aV prog 230 [aK l,bn of,vI k] (.RB [iL l of k (eC l of k),vI 0]):=λU=>by
 refine Qv.r (by simp[K9]) ?_;have hs:=aa.refl U;refine ad.mix 10 ?_;apply sR;simp only[go_sem,seval,K9];refine af λi6 Z6 s6 a6 f6=>?_;have z6:=hs.none f6;replace hs:=hs.trans s6;simp only[go_sem,seval];refine ad.aB rfl rfl rfl (Ck l hl hb of Uc SS hm k hk _) ?_;apply sR;simp only[go_sem,seval,ia];refine af λi8 Z8 s8 a8 f8=>?_;have n68:=aq a6 f8;replace a6:=s8 _ _ a6;have z8:=hs.none f8;replace hs:=hs.trans s8;simp only[go_sem,seval,a8,a6,ab n68,ia,ae,aj,av,ax];exact ay.pure ((hs.aE z8).aE z6) rfl
def GQ:aV prog 276 [] (.agg [vI 0,vI 0,vI 0,vI 0,vI 0,vI 2,vI 2,vI 0,vI 0,vI 0,vI 0,vI 0]):=λU=>by
 refine Q6.r (by simp[M1]) ?_;apply sR;simp only[go_sem,seval,M1];refine af λWK Z0 s0 a0 f0=>?_;simp only[go_sem,seval,a0];exact .pure (s0.aE f0) rfl
def rF(a:Int):List Int->Nat->Int
 |[],_=>-1
 |q::r,i=>if q=a then i else rF a r (i+1)
def DB{a:Int}{p:List Int}{i:Nat}(h:i<p.length):rF a (p.drop i) i=if p[i]=a then(i:Int)else rF a (p.drop (i+1)) (i+1):=by
 rw[List.drop_eq_getElem_cons h,rF]
def zn(a:Int):∀(p:List Int) (i:Nat),rF a p i>=0↔a∈p
 |[],_=>by simp[rF]
 |q::r,i=>by
  rw[rF];split
  .rename_i h;subst h;simp
  .rename_i h;rw[zn a r (i+1),List.mem_cons];constructor
   .exact .inr
   .rintro(rfl|h2)
    .exact absurd rfl h
    .exact h2
def Gb(p:List Int)(hp:p.length<=1000000000)(a:Int):aV prog 318 [bn p,vI a] (vI (rF a p 0)):=λU=>by
 refine Qm.r (by simp[Mj]) ?_;have Yf:=fG p;refine ad.mix 9 ?_;apply sR;simp only[go_sem,seval,Mj,Yf];refine ad.loop (λm st=>∃(i:Nat),i<=p.length/\m=p.length-i/\rF a p 0=rF a (p.drop i) i/\st.U=U/\st.s 0=bn p/\st.s 1=vI a/\st.s 7=vI p.length/\st.s 8=vI i) p.length ?_ ?_
 .exact⟨0,by omega,rfl,rfl,rfl,rfl,rfl,rfl,rfl⟩
 .rintro m ⟨s,Z'⟩ ⟨i,hi,rfl,heq,R3,h0,h1,h7,h8⟩;simp only at R3 h0 h1 h7 h8;subst R3;refine ad.mix 9 ?_;by_cases H':i<p.length
  .have q:((i:Int)<p.length)=True:=eq_true (by omega);have hd:=DB (a:=a) H';have Rv:=λU=>gS (U:=U) H';have r1:RM .i64 ((i:Int)+1):=ao (by omega) (by omega);by_cases hc:p[i]=a
   .have q1:(a=p[i])=True:=eq_true hc.symm;apply sR;simp only[go_sem,seval,h0,h1,h7,h8,q,Rv,q1];refine ay.same ?_;rw[heq,hd,if_pos hc]
   .have q1:(a=p[i])=False:=eq_false (λh=>hc h.symm);apply sR;simp only[go_sem,seval,h0,h1,h7,h8,q,Rv,q1,r1];refine⟨_,?_,i+1,by omega,rfl,?_,by simp[h0,h1,h7]⟩
    .omega
    .rw[heq,hd,if_neg hc]
  .have q:((i:Int)<p.length)=False:=eq_false (by omega);have Um:i=p.length:=by omega
   apply sR;simp only[go_sem,seval,h0,h1,h7,h8,q];refine ay.same ?_;rw[heq,Um,List.drop_length];rfl
def yz(p:List Int)(hp:p.length<=1000000000)(a:Int):aV prog 280 [bn p,vI a] (.bool (decide (a∈p))):=λU=>by
 refine QQ.r (by simp[MI]) ?_;apply sR;simp only[go_sem,seval,MI];refine ad.aB rfl rfl rfl (Gb p hp a _) ?_;have h:=zn a p 0;by_cases ha:a∈p
 .have q:(rF a p 0>=0)=True:=eq_true (h.2 ha);apply sR;simp only[go_sem,seval,q];exact ay.same (by simp[ha])
 .have q:(rF a p 0>=0)=False:=eq_false (λhh=>ha (h.1 hh));apply sR;simp only[go_sem,seval,q];exact ay.same (by simp[ha])
open Go.Proofs Go.Proofs.Tryz
def kz(of:List Int)(t:Int)(k:Nat):Nat->Nat×Nat
 |0=>(0,0)
 |j+1=>if of.getD j 0=t then if j<k then((kz of t k j).1+1,(kz of t k j).2)else((kz of t k j).1,(kz of t k j).2+1)else kz of t k j
def nG(of:List Int)(t:Int)(k:Nat):Nat×Nat:=if t<0 then(0,0)else kz of t k of.length
def CW(of:List Int)(t:Int)(k:Nat):∀j,(kz of t k j).1<=j/\(kz of t k j).2<=j
 |0=>by simp[kz]
 |j+1=>by
  have:=CW of t k j;rw[kz];split
  .split<;>simp only<;>omega
  .omega
def FY(l:List Nd)(of:List Int)(Uc:of.length<=1000000)(k:Nat)(x:Kn):
 aV prog 278 [iL l of k x] (.RB [vI (nG of x.text k).1,vI (nG of x.text k).2]):=λU=>by
 refine PS.r (by simp[MY]) ?_;have hs:=aa.refl U;have U5:=fG of;obtain⟨E,B,C,t⟩:=x;simp only;refine ad.mix 6 ?_;apply sR;simp only[go_sem,seval,MY,iL,ae,aj,av,ax];refine af λi1 Z1 s1 a1 f1=>?_;have z1:=hs.none f1;replace hs:=hs.trans s1;unfold nG;by_cases ht:t<0
 .have q:(t<0)=True:=eq_true ht;simp only[go_sem,seval,a1,q,ae,aj,av,ax];exact ay.pure hs (by simp[ht])
 have q:(t<0)=False:=eq_false ht;rw[if_neg ht];simp only[go_sem,seval,a1,q,U5,ae,aj,av,ax];refine ad.loop (λm st=>∃j:Nat,j<=of.length/\m=of.length-j/\st.U=Z1/\st.s 1=.ptr i1 0 0/\st.s 2=vI (kz of t k j).1/\st.s 3=vI (kz of t k j).2/\st.s 11=bn of/\st.s 12=vI of.length/\st.s 13=vI j) of.length ?_ ?_
 .exact⟨0,by omega,rfl,rfl,rfl,rfl,rfl,rfl,rfl,rfl⟩
 .rintro m ⟨S,J⟩ ⟨j,hj,rfl,R3,t1,t2,t3,t11,t12,t13⟩;simp only at R3 t1 t2 t3 t11 t12 t13;subst R3;refine ad.mix 6 ?_;by_cases H':j<of.length
  .have q0:((j:Int)<of.length)=True:=eq_true (by omega);have r1:RM .i64 ((j:Int)+1):=ao (by omega) (by omega);have Rv:=λU=>gS (U:=U) H';have Wt:of.getD j 0=of[j]:=by simp[H']
   have hle:=CW of t k j;have RV:kz of t k (j+1)=if of[j]=t then if j<k then((kz of t k j).1+1,(kz of t k j).2)else((kz of t k j).1,(kz of t k j).2+1)else kz of t k j:=by rw[kz,Wt]
   have r2:RM .i64 (((kz of t k j).1:Int)+1):=ao (by omega) (by omega);have r3:RM .i64 (((kz of t k j).2:Int)+1):=ao (by omega) (by omega);by_cases hn:of[j]=t
   .have q1:(of[j]≠t)=False:=eq_false (λh=>h hn);rw[if_pos hn]at RV;by_cases hk:j<k
    .have q2:((j:Int)<k)=True:=eq_true (by omega);rw[if_pos hk]at RV;apply sR;simp only[go_sem,seval,t1,t2,t3,t11,t12,t13,a1,q0,q1,q2,r1,r2,Rv,ae,aj,av,ax];refine⟨_,?_,j+1,by omega,rfl,by rw[RV];simp[t1,t2,t3,t11,t12]⟩;omega
    .have q2:((j:Int)<k)=False:=eq_false (by omega);rw[if_neg hk]at RV;apply sR;simp only[go_sem,seval,t1,t2,t3,t11,t12,t13,a1,q0,q1,q2,r1,r3,Rv,ae,aj,av,ax];refine⟨_,?_,j+1,by omega,rfl,by rw[RV];simp[t1,t2,t3,t11,t12]⟩;omega
   .have q1:(of[j]≠t)=True:=eq_true hn;rw[if_neg hn]at RV;apply sR;simp only[go_sem,seval,t1,t2,t3,t11,t12,t13,a1,q0,q1,r1,Rv,ae,aj,av,ax];refine⟨_,?_,j+1,by omega,rfl,by rw[RV];simp[t1,t2,t3,t11,t12]⟩;omega
  .have q0:((j:Int)<of.length)=False:=eq_false (by omega);have Tt:j=of.length:=by omega
   apply sR;simp only[go_sem,seval,t1,t2,t3,t11,t12,t13,q0];exact ay.pure hs (by rw[Tt])
open Go.Proofs Go.Proofs.Tryz
def xN:SW:=⟨0,0,0,0,0,2,2,0,0,0,0,0⟩
def wz(l:List Nd)(t:Int):SW:=if 0<=eQ l t.toNat then Tk l (eQ l t.toNat)else xN
def MZ(l:List Nd)(of:List Int)(t:Int)(k:Nat):Bool:=if t<0 then false else decide (((nG of t k).1:Int)<(wz l t).R8\/((nG of t k).2:Int)<(wz l t).Sh)
def KA(l:List Nd)(hl:dH l)(hb:So l=true)(of:List Int)(Uc:of.length<=1000000)(k:Nat)(x:Kn)(hx:x.text<l.length):
 aV prog 231 [iL l of k x] (.bool (MZ l of x.text k)):=λU=>by
 refine Pp.r (by simp[Jy]) ?_;have hs:=aa.refl U;have Xo:=λx=>FY l of Uc k x;obtain⟨E,B,C,t⟩:=x;simp only at hx|-;refine ad.mix 7 ?_;apply sR;simp only[go_sem,seval,Jy,iL,ae,aj,av,ax];refine af λi1 Z1 s1 a1 f1=>?_;have z1:=hs.none f1;replace hs:=hs.trans s1;unfold MZ;by_cases ht:t<0
 .have q:(t<0)=True:=eq_true ht;simp only[go_sem,seval,a1,q,ae,aj,av,ax];exact ay.pure hs (by simp[ht])
 have q:(t<0)=False:=eq_false ht;rw[if_neg ht];obtain⟨a,rfl⟩:∃a:Nat,t=a:=⟨t.toNat,by omega⟩
 simp only[go_sem,seval,a1,q,ae,aj,av,ax];refine ad.aB rfl rfl rfl (GQ _) ?_;apply sR;simp only[go_sem,seval];refine af λi3 Z3 s3 a3 f3=>?_;have Vt:=aq a1 f3;replace a1:=s3 _ _ a1;have z3:=hs.none f3;replace hs:=hs.trans s3;simp only[go_sem,seval,a3,a1,ab Vt,ae,aj,av,ax];generalize ZI:C' _ i3 _=X3;replace a3:=(congrFun ZI i3).symm.trans ag;replace a1:=((congrFun ZI i1).symm.trans (ab Vt)).trans a1;replace hs:=Eq.subst (motive:=aa _) ZI (hs.aE z3);clear ZI;refine ad.aB rfl rfl rfl (Bu l hl hb a (by omega) _) ?_;have ZC:=fW l a;have UZ:wz l (a:Int)=if 0<=eQ l a then Tk l (eQ l a)else xN:=by simp[wz]
 rw[UZ];by_cases hp:0<=eQ l a
 .have q0:(eQ l a>=0)=True:=eq_true hp;obtain⟨b,ZW⟩:∃b:Nat,eQ l a=b:=⟨(eQ l a).toNat,by omega⟩
  rw[if_pos hp];rw[ZW]at q0 ZC|-;have SD:b<l.length:=by omega
  have Tm:=λU=>cJ (U:=U) (l:=l) (a:=b) SD;rw[jj SD];apply sR;simp only[go_sem,seval,a1,a3,q0,Tm,Nd.cells,ab Vt,ae,aj,av,ax];generalize Tv:C' X3 i3 _=Y4;have b3:Y4 i3=some ⟨56,12,[jB l[b].st]⟩:=by rw[<-Tv];exact ag
  replace hs:aa U Y4:=by rw[<-Tv];exact hs.aE z3
  clear Tv;generalize l[b].st=st at*;rw[jB]at b3;refine ad.aB rfl rfl rfl (Xo ⟨E,B,C,a⟩ _) ?_;generalize nG of (a:Int) k=L at*;obtain⟨L1,L2⟩:=L;simp only;by_cases h1:(L1:Int)<st.R8
  .have q1:((L1:Int)<st.R8)=True:=eq_true h1;apply sR;simp only[go_sem,seval,b3,q1,ae,aj,av,ax];exact ay.pure hs (by simp[h1])
  .have q1:((L1:Int)<st.R8)=False:=eq_false h1;by_cases h2:(L2:Int)<st.Sh
   .have q2:((L2:Int)<st.Sh)=True:=eq_true h2;apply sR;simp only[go_sem,seval,b3,q1,q2,ae,aj,av,ax];exact ay.pure hs (by simp[h2])
   .have q2:((L2:Int)<st.Sh)=False:=eq_false h2;apply sR;simp only[go_sem,seval,b3,q1,q2,ae,aj,av,ax];exact ay.pure hs (by simp[h1,h2])
 .have q0:(eQ l a>=0)=False:=eq_false hp;rw[if_neg hp];apply sR;simp only[go_sem,seval,a1,a3,q0,ab Vt,ae,aj,av,ax];have b3:X3 i3=some ⟨56,12,[jB xN]⟩:=a3;generalize xN=st at*;rw[jB]at b3;refine ad.aB rfl rfl rfl (Xo ⟨E,B,C,a⟩ _) ?_;generalize nG of (a:Int) k=L at*;obtain⟨L1,L2⟩:=L;simp only;by_cases h1:(L1:Int)<st.R8
  .have q1:((L1:Int)<st.R8)=True:=eq_true h1;apply sR;simp only[go_sem,seval,b3,q1,ae,aj,av,ax];exact ay.pure hs (by simp[h1])
  .have q1:((L1:Int)<st.R8)=False:=eq_false h1;by_cases h2:(L2:Int)<st.Sh
   .have q2:((L2:Int)<st.Sh)=True:=eq_true h2;apply sR;simp only[go_sem,seval,b3,q1,q2,ae,aj,av,ax];exact ay.pure hs (by simp[h2])
   .have q2:((L2:Int)<st.Sh)=False:=eq_false h2;apply sR;simp only[go_sem,seval,b3,q1,q2,ae,aj,av,ax];exact ay.pure hs (by simp[h1,h2])
open Go.Proofs Go.Proofs.Tryz
def CP(l:List Nd)(x:Kn):Bool:=x.both.any λb=>decide ((Tk l b).inside=1)
def BC(l:List Nd)(of:List Int)(k:Nat)(x:Kn){U:ai}{i1:Nat}(h:U i1=some ⟨323,7,[iL l of k x]⟩)(n:Nat)(hn:n<l.length):
 aD prog 279 [vI n,.ptr i1 0 0] U λr Z'=>r=.bool (decide ((Tk l n).inside=1))/\Z'=U:=by
 refine Rh.r (by simp[H9]) ?_;refine ad.mix 4 ?_;have Tm:=λU=>cJ (U:=U) (l:=l) (a:=n) hn;rw[jj hn];rw[iL]at h;by_cases hi:l[n].st.inside=1
 .have q:(l[n].st.inside=1)=True:=eq_true hi;apply sR;simp only[go_sem,seval,H9,h,Tm,Nd.cells,q,ae,aj];exact ay.same (by simp[hi])
 .have q:(l[n].st.inside=1)=False:=eq_false hi;apply sR;simp only[go_sem,seval,H9,h,Tm,Nd.cells,q,ae,aj];exact ay.same (by simp[hi])
def CY(l:List Nd)(of:List Int)(k:Nat)(x:Kn)(hx:∀b∈x.both,∃n:Nat,b=n/\n<l.length)(hlen:x.both.length<=1000000):
 aV prog 232 [iL l of k x] (.bool (CP l x)):=λU=>by
 refine Qh.r (by simp[Ml]) ?_;have hs:=aa.refl U;refine ad.mix 3 ?_;apply sR;simp only[go_sem,seval,Ml,iL,ae,aj,av,ax];refine af λi1 Z1 s1 a1 f1=>?_;have z1:=hs.none f1;replace hs:=hs.trans s1;simp only[go_sem,seval,a1,ae,aj,av,ax];refine ad.aB rfl rfl rfl (lM (p:=λb=>decide ((Tk l b).inside=1)) Reads.ints (by omega) (λb hb=>by
  obtain⟨n,rfl,hn⟩:=hx b hb;exact BC l of k x a1 n hn)) ?_
 apply sR;simp only[go_sem,seval];exact ay.pure hs rfl
def A3(l:List Nd)(hl:dH l)(hb:So l=true)(of:List Int)(Uc:of.length<=1000000)(SS:∀x∈of,0<=x/\x<l.length)(hm:pX l of=true)(k:Nat)(hk:k<=of.length)(x:Kn):
 aV prog 233 [iL l of k x] (.bool (decide (1∈jK l of k))):=λU=>by
 refine O4.r (by simp[K4]) ?_;have hs:=aa.refl U;have hn:l.length<=100000:=by have:=hl.1;omega
 refine ad.mix 5 ?_;apply sR;simp only[go_sem,seval,K4,iL,ae,aj,av,ax];refine af λi1 Z1 s1 a1 f1=>?_;have z1:=hs.none f1;replace hs:=hs.trans s1;simp only[go_sem,seval,a1,ae,aj,av,ax];refine ad.aB rfl rfl rfl (B5 l hl hb of Uc SS hm k hk _) ?_;apply sR;simp only[go_sem,seval];refine ad.aB rfl rfl rfl (yz _ (by have:=sM hn of k;omega) 1 _) ?_;apply sR;simp only[go_sem,seval];exact ay.pure hs rfl
open Go.Proofs Go.Proofs.Tryz
def Ei(s:Int)(j:Nat)(b:Bool):Int:=if b then s+2^j else s
def j8(l:List Nd)(of:List Int)(k:Nat):Nat->Bool
 |0=>MZ l of (eC l of k).text k
 |1=>CP l (eC l of k)
 |_=>decide (1∈jK l of k)
def dF(l:List Nd)(of:List Int)(k:Nat):Nat->Int
 |0=>0
 |j+1=>Ei (dF l of k j) j (j8 l of k j)
def pj(l:List Nd)(of:List Int)(k:Nat):Int:=if k=0\/k=of.length then 0 else dF l of k 3
def EJ{l:List Nd}{of:List Int}(SS:∀x∈of,0<=x/\x<l.length)(k:Nat):(eC l of k).text<l.length:=by
 rw[eC];simp only;split
 .rename_i h;have Wt:of.getD k 0=of[k]'h.2.1:=by simp[h.2.1]
  rw[Wt];exact(SS _ (List.getElem_mem h.2.1)).2
 .omega
def NO(l:List Nd)(hl:dH l)(hb:So l=true)(of:List Int)(Uc:of.length<=1000000)(SS:∀x∈of,0<=x/\x<l.length)(hm:pX l of=true)(k:Nat)(hk:k<=of.length):
 aV prog 171 [aK l,bn of,vI k] (.RB [vI (pj l of k),vI 0]):=λU=>by
 refine Q2.r (by simp[MV]) ?_;have hs:=aa.refl U;have U5:=fG of;have hn:l.length<=100000:=by have:=hl.1;omega
 have Ww:∀(f:FuncId) (a:List V),(V.bm f a).cells=[.bm f a]:=λ_ _=>rfl;have Sx:∀f:FuncId,(V.bm f [.agg [bn (eC l of k).ends,bn (eC l of k).T1,bn (eC l of k).both,vI (eC l of k).text,aK l,bn of,vI k]]).stays=true:=λ_=>rfl;have Xv:V.RQ.cells=[.RQ]:=rfl;refine ad.mix 15 ?_;apply sR;simp only[go_sem,seval,MV];refine ad.aB rfl rfl rfl (KW l hl hb of Uc SS hm k hk _) ?_;have Uu:(iL l of k (eC l of k)).stays=true:=rfl;apply sR;simp only[go_sem,seval,iL,Uu];refine af λi8 Z8 s8 a8 f8=>?_;have z8:=hs.none f8;replace hs:=hs.trans s8;have q0:((0:Int)≠0)=False:=eq_false (λh=>h rfl);unfold pj;by_cases Vi:k=0
 .subst Vi;have q1:(((0:Nat):Int)=0)=True:=eq_true rfl;simp only[go_sem,seval,a8,q0,q1,ae,aj,av,ax];exact ay.pure (hs.aE z8) (by simp)
 have q1:((k:Int)=0)=False:=eq_false (by omega);by_cases T':k=of.length
 .have q2:((k:Int)=of.length)=True:=eq_true (by omega);simp only[go_sem,seval,a8,q0,q1,q2,U5,ae,aj,av,ax];exact ay.pure (hs.aE z8) (by simp[T'])
 have q2:((k:Int)=of.length)=False:=eq_false (by omega);rw[if_neg (by omega)];simp only[go_sem,seval,a8,q0,q1,q2,U5,Ww,Sx,Xv,ae,aj,av,ax];generalize SY:C' _ i8 _=Y8;replace a8:=(congrFun SY i8).symm.trans ag;replace hs:=Eq.subst (motive:=aa _) SY (hs.aE z8);clear SY;refine af λSb WO TV Sg f10=>?_;have n810:=aq a8 f10;replace a8:=TV _ _ a8;have Vr:=hs.none f10;replace hs:=hs.trans TV;simp only[go_sem,seval,Sg,Ww,Sx,Xv,ae,aj,av,ax];generalize TW:C' _ Sb _=Y10;replace Sg:=(congrFun TW Sb).symm.trans ag;replace a8:=((congrFun TW i8).symm.trans (ab n810)).trans a8;replace hs:=Eq.subst (motive:=aa _) TW (hs.aE Vr);clear TW;have ht:=EJ SS (l:=l) k;have c0:aV prog 231 [iL l of k (eC l of k)] (.bool (j8 l of k 0)):=KA l hl hb of Uc k (eC l of k) ht;have c1:aV prog 232 [iL l of k (eC l of k)] (.bool (j8 l of k 1)):=CY l of k (eC l of k) (wB SS) (Nat.le_trans (nZ hn) (by omega));have c2:aV prog 233 [iL l of k (eC l of k)] (.bool (j8 l of k 2)):=A3 l hl hb of Uc SS hm k hk (eC l of k);rw[iL]at c0 c1 c2;generalize hpv:V.agg [bn (eC l of k).ends,bn (eC l of k).T1,bn (eC l of k).both,vI (eC l of k).text,aK l,bn of,vI k]=pv at*;refine ad.fi (λst=>aa U st.U/\st.s 11=vI (dF l of k 3))
  (λm st=>∃j:Nat,j<=3/\m=3-j/\aa U st.U/\st.s 11=vI (dF l of k j)/\st.s 41=.agg [.bm 231 [pv],.bm 232 [pv],.bm 233 [pv]]/\st.s 42=vI j) 3 ?_ ?_ ?_
 .exact⟨0,by omega,rfl,hs,rfl,rfl,rfl⟩
 .clear hs a8 Sg;rintro m ⟨S,J⟩ ⟨j,hj,rfl,hs,t11,t41,t42⟩;simp only at hs t11 t41 t42;refine ad.mix 15 ?_;rcases(by omega:j=0\/j=1\/j=2\/j=3)with rfl|rfl|rfl|rfl
  .have VG:S 42=vI 0:=t42;have hp:dF l of k 0=0:=rfl;have U8:S 11=vI 0:=by rw[t11,hp]
   apply sR;simp only[go_sem,seval,U8,t41,VG];refine ad.kJ rfl rfl rfl (c0 _) ?_;rintro r Z' ⟨rfl,rfl⟩;cases hv:j8 l of k 0
   .apply sR;simp only[go_sem,seval,U8,t41,VG];refine⟨ao (by omega) (by omega),_,?_,1,by omega,rfl,hs,by rw[dF,hp,hv];rfl,rfl⟩;omega
   .apply sR;simp only[go_sem,seval,U8,t41,VG];refine⟨ao (by omega) (by omega),_,?_,1,by omega,rfl,hs,by rw[dF,hp,hv];rfl,rfl⟩;omega
  .have VG:S 42=vI 1:=t42;have hp:dF l of k 1=0\/dF l of k 1=1:=by rw[dF,dF,Ei];split<;>simp
   rcases hp with hp|hp
   .have:=hp;have U8:S 11=vI 0:=by rw[t11,hp]
    apply sR;simp only[go_sem,seval,U8,t41,VG];refine ad.kJ rfl rfl rfl (c1 _) ?_;rintro r Z' ⟨rfl,rfl⟩;cases hv:j8 l of k 1
    .apply sR;simp only[go_sem,seval,U8,t41,VG];refine⟨ao (by omega) (by omega),_,?_,2,by omega,rfl,hs,by rw[dF,hp,hv];rfl,rfl⟩;omega
    .apply sR;simp only[go_sem,seval,U8,t41,VG];refine⟨ao (by omega) (by omega),_,?_,2,by omega,rfl,hs,by rw[dF,hp,hv];rfl,rfl⟩;omega
   .have:=hp;have U8:S 11=vI 1:=by rw[t11,hp]
    apply sR;simp only[go_sem,seval,U8,t41,VG];refine ad.kJ rfl rfl rfl (c1 _) ?_;rintro r Z' ⟨rfl,rfl⟩;cases hv:j8 l of k 1
    .apply sR;simp only[go_sem,seval,U8,t41,VG];refine⟨ao (by omega) (by omega),_,?_,2,by omega,rfl,hs,by rw[dF,hp,hv];rfl,rfl⟩;omega
    .apply sR;simp only[go_sem,seval,U8,t41,VG];refine⟨ao (by omega) (by omega),_,?_,2,by omega,rfl,hs,by rw[dF,hp,hv];rfl,rfl⟩;omega
  .have VG:S 42=vI 2:=t42;have hp:dF l of k 2=0\/dF l of k 2=1\/dF l of k 2=2\/dF l of k 2=3:=by rw[dF,dF,dF,Ei,Ei];split<;>split<;>simp
   rcases hp with hp|hp|hp|hp
   .have:=hp;have U8:S 11=vI 0:=by rw[t11,hp]
    apply sR;simp only[go_sem,seval,U8,t41,VG];refine ad.kJ rfl rfl rfl (c2 _) ?_;rintro r Z' ⟨rfl,rfl⟩;cases hv:j8 l of k 2
    .apply sR;simp only[go_sem,seval,U8,t41,VG];refine⟨ao (by omega) (by omega),_,?_,3,by omega,rfl,hs,by rw[dF,hp,hv];rfl,rfl⟩;omega
    .apply sR;simp only[go_sem,seval,U8,t41,VG];refine⟨ao (by omega) (by omega),_,?_,3,by omega,rfl,hs,by rw[dF,hp,hv];rfl,rfl⟩;omega
   .have:=hp;have U8:S 11=vI 1:=by rw[t11,hp]
    apply sR;simp only[go_sem,seval,U8,t41,VG];refine ad.kJ rfl rfl rfl (c2 _) ?_;rintro r Z' ⟨rfl,rfl⟩;cases hv:j8 l of k 2
    .apply sR;simp only[go_sem,seval,U8,t41,VG];refine⟨ao (by omega) (by omega),_,?_,3,by omega,rfl,hs,by rw[dF,hp,hv];rfl,rfl⟩;omega
    .apply sR;simp only[go_sem,seval,U8,t41,VG];refine⟨ao (by omega) (by omega),_,?_,3,by omega,rfl,hs,by rw[dF,hp,hv];rfl,rfl⟩;omega
   .have:=hp;have U8:S 11=vI 2:=by rw[t11,hp]
    apply sR;simp only[go_sem,seval,U8,t41,VG];refine ad.kJ rfl rfl rfl (c2 _) ?_;rintro r Z' ⟨rfl,rfl⟩;cases hv:j8 l of k 2
    .apply sR;simp only[go_sem,seval,U8,t41,VG];refine⟨ao (by omega) (by omega),_,?_,3,by omega,rfl,hs,by rw[dF,hp,hv];rfl,rfl⟩;omega
    .apply sR;simp only[go_sem,seval,U8,t41,VG];refine⟨ao (by omega) (by omega),_,?_,3,by omega,rfl,hs,by rw[dF,hp,hv];rfl,rfl⟩;omega
   .have:=hp;have U8:S 11=vI 3:=by rw[t11,hp]
    apply sR;simp only[go_sem,seval,U8,t41,VG];refine ad.kJ rfl rfl rfl (c2 _) ?_;rintro r Z' ⟨rfl,rfl⟩;cases hv:j8 l of k 2
    .apply sR;simp only[go_sem,seval,U8,t41,VG];refine⟨ao (by omega) (by omega),_,?_,3,by omega,rfl,hs,by rw[dF,hp,hv];rfl,rfl⟩;omega
    .apply sR;simp only[go_sem,seval,U8,t41,VG];refine⟨ao (by omega) (by omega),_,?_,3,by omega,rfl,hs,by rw[dF,hp,hv];rfl,rfl⟩;omega
  .have VG:S 42=vI 3:=t42;apply sR;simp only[go_sem,seval,t11,t41,VG];exact hs
 .rintro⟨S,J⟩ ⟨hs,t11⟩;simp only at hs t11;refine ad.mix 15 ?_;apply sR;simp only[go_sem,seval,t11];exact ay.pure hs rfl
end Go.Vc
