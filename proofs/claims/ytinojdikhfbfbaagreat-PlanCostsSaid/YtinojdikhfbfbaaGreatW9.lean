import Derived.Test.YtinojdikhfbfbaaGreatW8
set_option linter.all false
set_option maxHeartbeats 8000000
set_option maxRecDepth 100000
open Go.Proofs.Tryz
namespace Go.Vc
def SdI(s:WS):Prop:=∀f∈s.g',f.side=1\/f.side=2
def SdI.same{s t:WS}(h:SdI s)(e:t.g'=s.g'):SdI t:=λf hf=>h f (e▸hf)
def sy(rs:List Rm)(s:WS)(a:Nat)(n:Nd):(s.text rs a n).g'=s.g':=by
 unfold WS.text;generalize cM s.g' n.words n.space n.line (eR rs a) n.words.length 0 (s.P'.y+s.P'.m)=L
 suffices key:∀(L:List Ln) (t:WS),(L.foldl (λs x=>s.put (fv a n.line x)) t).g'=t.g' from key L s
 intro L
 induction L with
 |nil=>intro t;rfl
 |cons x L ih=>intro t;rw[jW,ih];rfl
def rC{l:List Nd}{rs:List Rm}(hb:SA l=true):∀(k a e:Nat) (s:WS),a<=e->e<=l.length->bE l a e=true->SdI s->SdI (cZ l rs k a e s)
 |0,a,e,s,_,_,_,h=>h
 |k+1,a,e,s,W9,he,hr,h=>by
  rw[cZ];by_cases u':a<e
  .rw[aI u'];obtain⟨h1,h2⟩:=cc he hr (SD a) u';obtain⟨h3,h4⟩:=cQ he hr u';have Sw:ZN (Sr l a):=by rw[gS (by omega)];exact fA hb (by omega)
   have step:∀t,SdI t->SdI (cZ l rs k (a+(R7 l a).toNat) e t):=λt hA=>rC hb k _ e t (by omega) he h3 hA;split
   .refine step _ (SdI.same (rC hb k (a+1) (a+(R7 l a).toNat) (s.enter (Sr l a).st) (by omega) (by omega) h4 (h.same rfl)) rfl)
   .split
    .exact step _ (h.same (sy _ _ _ _))
    .split
     .exact step _ (h.same rfl)
     .have k4:(Sr l a).kind=4:=by rename_i g1 g2 g3;rcases Sw.kind with h|h|h|h;exact absurd h g1;exact absurd h g2;exact absurd h g3;exact h
      refine step _ λf hf=>?_;have hf:f∈s.g'++[iS s.g' ⟨a,(Sr l a).side,s.atoms.length,0,0,(Sr l a).w,(Sr l a).h⟩ (s.P'.y+s.P'.m) (eR rs a)]:=hf;rcases gl.1 hf with hf|hf
      .exact h f hf
      .rw[kc.1 hf];show(Sr l a).side=1\/(Sr l a).side=2;have:=Sw.fl k4;have:=Sw.side.2;omega
  .rw[aK u'];exact h
open Go.Proofs
def Cg{y high:Int}{f:Si}:fe y high f=true↔f.h>0/\f.y<y+max high 1/\f.y+f.h>y:=by
 unfold fe nT;split
 .rename_i h;simp only at h;simp only[decide_true,Bool.not_true,jb,false_iff];omega
 .rename_i h;simp only at h;have Sh:¬((⟨max f.y y,min (f.y+f.h) (y+max high 1)⟩:SK)=⟨0,0⟩):=by
   intro e;have e1:=congrArg SK.a e;have e2:=congrArg SK.b e;simp only at e1 e2;omega
  simp only[Sh,decide_false,Bool.not_false,true_iff];omega
def EF{f:Si}{s:SK}:hU f s=s↔(f.side=1/\f.x+f.w<=s.a)\/(f.side≠1/\s.b<=f.x):=by
 obtain⟨a,b⟩:=s;unfold hU;by_cases h:f.side=1
 .rw[aI h];simp only[SK.mk.injEq,h,true_and,and_true,not_true,false_and,or_false,ne_eq];omega
 .rw[aK h];simp only[SK.mk.injEq,h,true_and,false_and,false_or,ne_eq,not_false_eq_true];omega
def Cm{l:List Si}{y high:Int}{s:SK}{i:Nat}(h:i<l.length):bP (l.take (i+1)) y high s=if fe y high l[i]=true then hU l[i] (bP (l.take i) y high s)else bP (l.take i) y high s:=by
 unfold bP;rw[nz _ _ h,nj];cases fe y high l[i]<;>rfl
def Bw{l:List Si}{y high:Int}{s:SK}{i:Nat}(h:i<l.length):cJ (l.take (i+1)) y high s=if fe y high l[i]=true then iZ s (cJ (l.take i) y high s) l[i]else cJ (l.take i) y high s:=by
 unfold cJ;rw[nz _ _ h,nj];cases fe y high l[i]<;>rfl
def uh{tell:Si->Int×Bool}{l:List Si}{i:Nat}(h:i<l.length):cF tell (l.take (i+1))=ir tell (cF tell (l.take i)) l[i]:=by
 unfold cF;rw[Vn h,nj];rfl
def AL{s:SK}:∀{l:List Si} {t:SK},s.a<=t.a->t.b<=s.b->(t≠s\/∃f∈l,hU f s≠s)->l.foldl (λs f=>hU f s) t≠s
 |[],t,_,_,h=>by simpa using h
 |f::l,t,h1,h2,h=>by
  have h3:=Cz f t;rw[jW];refine AL (Int.le_trans h1 h3.1) (Int.le_trans h3.2 h2) ?_;rcases h with h|⟨g,hg,h⟩
  .left;intro e;apply h;obtain⟨ta,tb⟩:=t;obtain⟨sa,sb⟩:=s;rw[e]at h3;simp only[SK.mk.injEq]at h1 h2 h3|-;omega
  .rcases ew.1 hg with rfl|hg
   .left;intro e;apply h;obtain⟨ta,tb⟩:=t;obtain⟨sa,sb⟩:=s;unfold hU at e|-;by_cases h4:g.side=1<;>simp only[h4,if_true,if_false,SK.mk.injEq,true_and,and_true]at e h1 h2|-<;>omega
   .exact .inr ⟨g,hg,h⟩
def HB{l:List Si}{y high:Int}{s:SK}:(cJ l y high s).2=true↔bP l y high s≠s:=by
 refine⟨λh=>?_,mM⟩;refine AL (Int.le_refl _) (Int.le_refl _) (.inr (Classical.byContradiction λhn=>?_));have TI:∀f∈l.filter (fe y high),hU f s=s:=λf hf=>Classical.byContradiction λhe=>hn ⟨f,hf,he⟩;have:∀(m:List Si) (a:Int×Bool),(∀f∈m,hU f s=s)->m.foldl (iZ s) a=a:=by
  intro m
  induction m with
  |nil=>intro a _;rfl
  |cons f m ih=>
   intro a hm;rw[jW,show iZ s a f=a by unfold iZ;rw[aI (.inl (hm f (by simp)))]];exact ih a λg hg=>hm g (by simp[hg])
 unfold cJ at h;rw[this _ _ TI]at h;cases h
def l5{l:List Si}{w high y:Int}{s:SK}:mV l w high s y=true↔(cJ l y high s).2=false\/w<=fN (bP l y high s):=by
 have h:=HB (l:=l) (y:=y) (high:=high) (s:=s);simp only[mV,kI,US];cases hn:(cJ l y high s).2
 .rw[hn]at h;have:bP l y high s=s:=Classical.byContradiction λSh=>by simpa using h.2 Sh
  simp[this]
 .rw[hn]at h;have:=h.1 rfl;simp[this]
def Di{l:List Si}{y high:Int}{s:SK}(h:Xb l y=0):(cJ l y high s).2=false:=by
 cases hn:(cJ l y high s).2
 .rfl
 .have:=mu (fC hn);omega
def wb{l:List Si}{w high:Int}{s:SK}:∀(k k':Nat) (y:Int),Xb l y<=k->Xb l y<=k'->kg l w high s k y=kg l w high s k' y
 |0,k',y,h,_=>by
  have hf:mV l w high s y=true:=l5.2 (.inl (Di (by omega)));cases k'<;>simp[kg,hf]
 |k+1,0,y,_,h=>by
  have hf:mV l w high s y=true:=l5.2 (.inl (Di (by omega)));simp[kg,hf]
 |k+1,k'+1,y,h,h'=>by
  simp only[kg];by_cases hf:mV l w high s y=true
  .simp[hf]
  .simp only[hf,jb,if_false];have hn:(cJ l y high s).2=true:=by
    cases hn:(cJ l y high s).2
    .exact absurd (l5.2 (.inl hn)) hf
    .rfl
   have:=mu (fC hn);exact wb k k' _ (by omega) (by omega)
def E2(l:List Si)(y:Int):Xb l y<=l.length:=List.length_filter_le _ _
def F5{l:List Si}{w high y:Int}{s:SK}:gu l w high s y=if(cJ l y high s).2=false\/w<=fN (bP l y high s)then y else gu l w high s (cJ l y high s).1:=by
 have e:gu l w high s y=kg l w high s (l.length+1) y:=wb _ _ _ (E2 l y) (by have:=E2 l y;omega);rw[e,kg];by_cases hf:mV l w high s y=true
 .rw[aI hf,aI (l5.1 hf)]
 .rw[aK hf,aK (λh=>hf (l5.2 h))];rfl
def oz{l:List Si}{w high y:Int}{s:SK}:kK l w high s y=true↔(cJ l y high s).2=false\/fN (bP l y high s)>=w:=by
 simp[kK]
def vQ{l:List Si}{w high:Int}{s:SK}{k:Nat}{y:Int}(h:kK l w high s y=true):iX l w high s k y=y:=by
 cases k<;>simp[iX,h]
def F2{l:List Si}{w high:Int}{s:SK}{k:Nat}{y:Int}(hk:Xb l y<=k)(h:kK l w high s y=false):∃k',k=k'+1/\Xb l (cJ l y high s).1<=k'/\iX l w high s k y=iX l w high s k' (cJ l y high s).1:=by
 have hn:(cJ l y high s).2=true:=by
  cases hn:(cJ l y high s).2
  .rw[oz.2 (.inl hn)]at h;cases h
  .rfl
 have:=mu (fC hn);obtain⟨k',rfl⟩:∃k',k=k'+1:=⟨k-1,by omega⟩
 exact⟨k',rfl,by omega,by rw[iX,h];rfl⟩
open Go.Proofs
def vJ(l:List Nd)(w:Int):Nat->Nat->Rm
 |0,_=>⟨0,w⟩
 |k+1,a=>if dq l a<0 then⟨0,w⟩else jM (vJ l w k (dq l a).toNat) (tq l (dq l a).toNat)
def lz(l:List Nd)(w:Int)(a:Nat):Rm:=vJ l w (a+1) a
def uO{l:List Nd}{w:Int}:∀(k j a:Nat),a<k->a<j->vJ l w k a=vJ l w j a
 |0,_,_,h,_=>by omega
 |_+1,0,_,_,h=>by omega
 |k+1,j+1,a,h,h'=>by
  have hr:=ez l a;rw[vJ,vJ];split
  .rfl
  .rw[uO k j (dq l a).toNat (by omega) (by omega)]
def As{l:List Nd}{w:Int}{a:Nat}:lz l w a=if dq l a<0 then⟨0,w⟩else jM (lz l w (dq l a).toNat) (tq l (dq l a).toNat):=by
 have hr:=ez l a;unfold lz;rw[vJ];split
 .rfl
 .rw[uO a ((dq l a).toNat+1) _ (by omega) (by omega)]
def xZ(l:List Nd)(w:Int)(p:Int):Rm:=if p<0 then⟨0,w⟩else jM (lz l w p.toNat) (tq l p.toNat)
def rj{l:List Nd}{w:Int}:∀(k b a e:Nat) (p:Int) (r:Rm),e<=l.length->Kd l p a e->r=xZ l w p->e-b<=k->a<=b->b<=e->bE l b e=true->(∀i,a<=i->i<b->(i:Int)+R7 l i<=b)->
 ∀j,b<=j->j<e->(dt l k b e r)[j-b]?=some (lz l w j)
 |0,b,a,e,p,r,_,_,_,h,_,_,_,_,j,h1,h2=>by omega
 |k+1,b,a,e,p,r,he,hA,hr,hk,VT,WU,hrw,VS,j,h1,h2=>by
  have u':b<e:=by omega
  have hb:b<l.length:=by omega
  obtain⟨Zh,Sz⟩:=cc he hrw (SD b) u';obtain⟨hr2,W6⟩:=cQ he hrw u';rw[dt,aI u'];have hp:dq l b=p:=by
   rcases hA with⟨rfl,rfl⟩|⟨q,rfl,rfl,hq⟩
   .exact xc hb b (SD _) (λi hi=>VS i (by omega) hi)
   .exact C1 hb (by omega) b (by omega) (SD _) (λi h1 h2=>VS i (by omega) h2)
  have hrb:r=lz l w b:=by rw[hr,As,hp];rfl
  by_cases e1:j=b
  .subst e1;rw[Nat.sub_self,EU,hrb]
  .obtain⟨d,rfl⟩:∃d,j=b+1+d:=⟨j-b-1,by omega⟩
   rw[show b+1+d-b=d+1 by omega,GM];have Ux:=jC (l:=l) (e:=b+(R7 l b).toNat) (by omega) k (b+1) (jM r (tq l b)) (by omega) (by omega) W6;have hri:jM r (tq l b)=xZ l w (b:Int):=by
    unfold xZ;rw[aK (by omega),hrb];rfl
   by_cases h3:b+1+d<b+(R7 l b).toNat
   .rw[Iu (by omega)];have:=rj (w:=w) k (b+1) (b+1) (b+(R7 l b).toNat) b _ (by omega) (.inr ⟨b,rfl,rfl,by omega⟩) hri (by omega) (SD _) (by omega) W6 (λi h1 h2=>by omega) (b+1+d) (by omega) h3
    rwa [show b+1+d-(b+1)=d by omega]at this
   .rw[KQ (by omega),Ux];have:=rj (w:=w) k (b+(R7 l b).toNat) a e p r he hA hr (by omega) (by omega) (by omega) hr2 (λi h1 h2=>by
     by_cases e2:i<b
     .have:=VS i h1 e2;omega
     .by_cases e3:i=b
      .subst e3;omega
      .have:=(cc (by omega) W6 (k:=i) (by omega) h2).1;omega) (b+1+d) (by omega) h2
    rwa [show b+1+d-(b+(R7 l b).toNat)=d-(b+(R7 l b).toNat-(b+1)) by omega]at this
def wP{l:List Nd}(hb:SA l=true){w:Int}{a:Nat}(ha:a<l.length):(cG l w).getD a ⟨0,0⟩=lz l w a:=by
 have hr:bE l 0 l.length=true:=by simp only[SA,Ba]at hb;exact hb.2
 have:=rj (w:=w) l.length 0 0 l.length (-1) ⟨0,w⟩ (SD _) (.inl ⟨rfl,rfl⟩) (by simp[xZ]) (by omega) (SD _) (by omega) hr (λi _ h=>by omega) a (by omega) ha;rw[Nat.sub_zero]at this;unfold cG;rw[yd,this];rfl
def AN{l:List Nd}(hb:SA l=true)(hn:l.length<=2000){w:Int}(h1:1<=w)(h2:w<=1099511627776){a:Nat}(ha:a<l.length):(lz l w a).ok:=by
 have hD:=nU hb hn h1 h2;have hr:bE l 0 l.length=true:=by simp only[SA,Ba]at hb;exact hb.2
 have hlen:(cG l w).length=l.length:=by unfold cG;rw[jC (SD _) _ _ _ (by omega) (by omega) hr];omega
 rw[<-wP hb ha,yd,V7 (by omega),Option.getD_some];exact oh hb _ _ _ _ (SD _) hr ⟨by simp,by simp,h1,h2⟩ _ (SU _)
def Cf{l:List Nd}(hb:SA l=true){w:Int}{a:Nat}(ha:a<l.length):eR (cG l w) a=⟨(lz l w a).x,(lz l w a).x+(lz l w a).w⟩:=by
 unfold eR;rw[wP hb ha]
def pZ(l:List Nd)(rs:List Rm)(s:WS)(a:Nat):WS:=
 if(Sr l a).kind=1 then(cZ l rs (a+(R7 l a).toNat-(a+1)) (a+1) (a+(R7 l a).toNat) (s.enter (Sr l a).st)).leave (Sr l a).st
 else if(Sr l a).kind=2 then s.text rs a (Sr l a)else if(Sr l a).kind=3 then WS.mono l rs s a (Sr l a)else s.float rs a (Sr l a)
def vS{l:List Nd}{rs:List Rm}{b e:Nat}(he:e<=l.length)(hr:bE l b e=true)(u':b<e)(s:WS):
 cZ l rs (e-b) b e s=cZ l rs (e-(b+(R7 l b).toNat)) (b+(R7 l b).toNat) e (pZ l rs s b):=w9 he hr u' s
def uk{l:List Nd}{rs:List Rm}{e:Nat}(s:WS):cZ l rs (e-e) e e s=s:=by rw[Nat.sub_self];rfl
def hiF(h:Int)(l:List Si):Int:=l.foldl (λh f=>max h (f.y+f.h)) h
def Cy:∀(l:List Si) (a:Int) (p:Int),(∀f∈l,f.side=1\/f.side=2)->(l.foldl (ir (gk 3)) (a,true)).2=true/\max p (l.foldl (ir (gk 3)) (a,true)).1=hiF (max p a) l
 |[],a,p,_=>⟨rfl,rfl⟩
 |f::l,a,p,h=>by
  have hf:(gk 3 f).2=true:=by
   rcases h f (by simp)with e|e<;>simp only[gk,e]<;>decide
  have h1:ir (gk 3) (a,true) f=(max a (f.y+f.h),true):=by
   unfold ir;rw[hf];simp only[gk,true_and,Bool.true_eq_false,false_or];split
   .congr 1;omega
   .congr 1;omega
  obtain⟨g1,g2⟩:=Cy l (max a (f.y+f.h)) p (λg hg=>h g (by simp[hg]));rw[jW,h1];refine⟨g1,?_⟩;rw[g2];unfold hiF;rw[jW];congr 1;omega
def Ic{s:WS}(h:SdI s):vy s=hiF (s.P'.y+s.P'.m) s.g':=by
 unfold vy cF;unfold SdI at h;cases hl:s.g' with
 |nil=>simp[hiF]
 |cons f l=>
  rw[hl]at h;have hf:(gk 3 f).2=true:=by
   rcases h f (by simp)with e|e<;>simp only[gk,e]<;>decide
  have h1:ir (gk 3) (0,false) f=(f.y+f.h,true):=by
   unfold ir;rw[hf];simp[gk]
  obtain⟨g1,g2⟩:=Cy l (f.y+f.h) (s.P'.y+s.P'.m) (λg hg=>h g (by simp[hg]));rw[jW,h1,aI g1,g2];rfl
def GU{h:Int}{l:List Si}{i:Nat}(hi:i<l.length):hiF h (l.take (i+1))=max (hiF h (l.take i)) (l[i].y+l[i].h):=by
 unfold hiF;rw[Vn hi,nj];rfl
def AnI(s:WS):Prop:=∀f∈s.g',0<=f.anchor
def AnI.same{s t:WS}(h:AnI s)(e:t.g'=s.g'):AnI t:=λf hf=>h f (e▸hf)
def uM{l:List Nd}{rs:List Rm}:∀(k a e:Nat) (s:WS),AnI s->AnI (cZ l rs k a e s)
 |0,_,_,_,h=>h
 |k+1,a,e,s,h=>by
  rw[cZ];by_cases u':a<e
  .rw[aI u'];refine uM k _ e _ ?_;split
   .exact AnI.same (uM k _ _ _ (h.same (t:=s.enter (Sr l a).st) rfl)) rfl
   .split
    .exact h.same (sy _ _ _ _)
    .split
     .exact h.same rfl
     .intro f hf;simp only[WS.float,nL,gl,kc]at hf;rcases hf with hf|rfl
      .exact h f hf
      .simp[iS]
  .rw[aK u'];exact h
def Fp{n:Nat}{f:Si}(h:0<=f.anchor):mn n f=if f.anchor>=n then{ f with anchor:=max ((n:Int)-1) 0 }else f:=by
 obtain⟨a,b,c,d,e,g,i⟩:=f;unfold mn;simp only at h|-;split
 .congr 1;omega
 .congr 1;omega
def jm(l:List Nd)(of:List Int)(i:Nat)(k:Int):Bool:=decide (0<=k/\k<of.length)&&ct l i (of.getD k.toNat 0)
def jV(l:List Nd)(p:Nat->Bool)(n:Nat):List Int:=((List.range n).filter λi=>decide (WX l i=1)&&p i).map λ(i:Nat)=>(i:Int)
def lU{l:List Nd}{p:Nat->Bool}{n:Nat}:jV l p (n+1)=jV l p n++if WX l n=1/\p n=true then[(n:Int)]else[]:=by
 unfold jV;rw[List.range_succ,List.filter_append,fw];congr 1;by_cases h1:WX l n=1<;>cases h2:p n<;>simp[h1,h2]
def mz{l:List Nd}{a:Nat}:∀n:Nat,dL l a n=(((List.range n).filter λ(i:Nat)=>ct l i a).map λ(i:Nat)=>(i:Int)).reverse
 |0=>rfl
 |n+1=>by
  rw[dL,List.range_succ,List.filter_append,fw,List.reverse_append,<-mz n];cases h:ct l n a<;>simp[h]
def A8{l:List Nd}(hb:SA l=true){i a:Nat}(hia:i<a)(h:ct l i a=true):WX l i=1:=by
 obtain⟨h1,h2,h3,h4⟩:=iR.1 h;have Uk:i<l.length:=by omega
 obtain⟨g1,g2,g3⟩:=vD hb Uk;rw[KK Uk];rw[gM,ix Uk]at h4;rcases g3 with g3|g3
 .exact g3
 .omega
def C0{l:List Nd}{p:Nat->Bool}{a:Nat}:∀d:Nat,(∀i,a<=i->i<a+d->WX l i=1->p i=false)->jV l p (a+d)=jV l p a
 |0,_=>rfl
 |d+1,h=>by
  rw[<-Nat.add_assoc,lU,C0 d λi h1 h2=>h i h1 (by omega)];rw[aK,kr];rintro⟨h1,h2⟩;rw[h (a+d) (by omega) (by omega) h1]at h2;cases h2
def n9(p:Int->Bool):∀L:List Nat,(L.map λ(i:Nat)=>(i:Int)).filter p=(L.filter λ(i:Nat)=>p i).map λ(i:Nat)=>(i:Int)
 |[]=>rfl
 |x::L=>by
  rw[ga,List.filter_cons,List.filter_cons,n9 p L];cases p x<;>simp
def BN{l:List Nd}(hb:SA l=true){of:List Int}(SR:∀x∈of,(0<=x/\x<l.length)/\WX l x.toNat≠1)(k:Int)(p:Int->Bool):
 Wy l of k p=(jV l (λi=>jm l of i k&&p i) l.length).reverse:=by
 unfold Wy;split
 .rename_i hk;have hkn:k.toNat<of.length:=by omega
  have Vh:=SU hkn;obtain⟨⟨h1,h2⟩,h3⟩:=SR _ Vh;have VK:of.getD k.toNat 0=of[k.toNat]:=by simp[hkn]
  have hrf:∀i,jm l of i k=ct l i of[k.toNat]:=λi=>by
   unfold jm;rw[VK,Tv hk,Bool.true_and]
  rw[VK];generalize of[k.toNat]=x at*;obtain⟨a,rfl⟩:∃a:Nat,x=a:=⟨x.toNat,by omega⟩
  rw[gM]at h3|-;have Xd:a<l.length:=by omega
  rw[BV hb Xd,mz,List.filter_reverse,n9,List.filter_filter];have hd:l.length=a+(l.length-a):=by omega
  rw[hd,C0 (l.length-a) λi h4 h5 h6=>?_]
  .unfold jV;congr 2;refine List.filter_congr λi hi=>?_;rw[List.mem_range]at hi;simp only[hrf];cases hh:ct l i a
   .simp
   .simp[A8 hb hi hh]
  .rw[hrf];have:ct l i a=false:=by
    cases hh:ct l i a
    .rfl
    .have:=iR.1 hh;have:i=a:=by omega
     subst this;exact absurd h6 h3
   rw[this];rfl
 .rename_i hk;have:jV l (λi=>jm l of i k&&p i) l.length=[]:=by
   unfold jV;rw[List.map_eq_nil_iff,List.filter_eq_nil_iff];intro i _;unfold jm;rw[TE hk];simp
  rw[this];rfl
def yT{l:List Nd}{of:List Int}(SR:∀x∈of,(0<=x/\x<l.length)/\WX l x.toNat≠1){i:Nat}(hi:i<l.length)(k:Int):X9 l of i k=jm l of i k:=by
 unfold X9 jm;split
 .rename_i hk;have hkn:k.toNat<of.length:=by omega
  obtain⟨⟨h1,h2⟩,h3⟩:=SR _ (SU hkn);have VK:of.getD k.toNat 0=of[k.toNat]:=by simp[hkn]
  rw[VK,Tv hk,Bool.true_and];rw[Bool.eq_iff_iff,iR];simp only[uF,US];omega
 .rename_i hk;rw[TE hk];rfl
def pc{l:List Nd}{p q:Nat->Bool}{n:Nat}(h:∀i,i<n->p i=q i):jV l p n=jV l q n:=by
 unfold jV;congr 1;exact List.filter_congr λi hi=>by rw[h i (List.mem_range.1 hi)]
def IJ{l:List Nd}(hb:SA l=true){of:List Int}(SR:∀x∈of,(0<=x/\x<l.length)/\WX l x.toNat≠1)(k:Nat):
 cE l of k=⟨(jV l (λi=>jm l of i ((k:Int)-1)&&!jm l of i k) l.length).reverse,jV l (λi=>jm l of i k&&!jm l of i ((k:Int)-1)) l.length,
  (jV l (λi=>jm l of i ((k:Int)-1)&&jm l of i k) l.length).reverse,if 0<k/\k<of.length/\of.getD k 0=of.getD (k-1) 0 then of.getD k 0 else -1⟩:=by
 unfold cE;rw[BN hb SR,BN hb SR,BN hb SR,List.reverse_reverse];refine congr (congr (congr (congrArg Kn.mk ?_) ?_) ?_) rfl
 .exact congrArg List.reverse (pc λi hi=>by rw[yT SR hi])
 .exact pc λi hi=>by rw[yT SR hi]
 .exact congrArg List.reverse (pc λi hi=>by rw[yT SR hi,Bool.and_comm])
def jh(all:List Int):Int:=match all.reverse.find? λn=>decide (n=3\/n=4)with
 |some n=>n
 |none=>if 2∈all then 2 else 0
def xV(L:List Int)(n:Int):da (L++[n])=ki (da L) n:=by unfold da;rw[nj];rfl
def yX(L:List Int)(n:Int):jh (L++[n])=if n=3\/n=4 then n else if n=2 then(if jh L=0 then 2 else jh L)else jh L:=by
 unfold jh;rw[List.reverse_append,List.reverse_singleton,List.singleton_append,List.find?_cons];by_cases h:n=3\/n=4
 .rw[Tv h,aI h]
 .rw[TE h,aK h];simp only[gl,kc];cases hf:L.reverse.find? λn=>decide (n=3\/n=4)with
  |some m=>
   have:=List.find?_some hf;simp only[US]at this;simp only;split
   .rw[aK (by omega)]
   .rfl
  |none=>
   simp only;by_cases h2:n=2
   .subst h2;simp only[or_true,if_true];by_cases h4:2∈L<;>simp[h4]
   .have:¬(2=n):=λe=>h2 e.symm;simp only[this,or_false,h2,if_false]
def wM:∀(n:Nat) (L:List Int),L.length=n->da L=jh L
 |0,L,h=>by rw[td h];rfl
 |n+1,L,h=>by
  have Sh:L≠[]:=λe=>by rw[e]at h;cases h
  rw[<-List.dropLast_concat_getLast Sh,xV,yX,wM n _ (by rw[List.length_dropLast];omega)];generalize L.getLast Sh=m;generalize jh L.dropLast=q;unfold ki mQ;by_cases h1:m=3\/m=4
  .simp[h1]
  .by_cases h2:m=2
   .subst h2;simp
   .simp[h1,h2]
def PM(a b c:Bool):Bg (Bg (Bg 0 0 a) 1 b) 2 c=(if a then 1 else 0)+2*(if b then 1 else 0)+4*(if c then 1 else 0):=by
 cases a<;>cases b<;>cases c<;>rfl
def Jr{l:List Nd}{of:List Int}{k:Nat}:mJ l of k=if k=0\/k=of.length then 0 else
 (if DE l of (cE l of k).text k then 1 else 0)+2*(if qC l (cE l of k)then 1 else 0)+4*(if 1∈iu l of k then 1 else 0):=by
 unfold mJ;split
 .rfl
 .simp only[ej,lf,PM];simp
def CH{α:Type}(f:α->Int):∀(L:List α) (m:Int),(m=0\/m=1)->(∀x∈L,0<=f x/\f x<=1)->L.foldl (λm x=>max m (f x)) m=if m=1\/(L.any λx=>decide (f x=1))=true then 1 else 0
 |[],m,h,_=>by rcases h with rfl|rfl<;>simp
 |x::L,m,h,hL=>by
  have hx:=hL x (by simp);rw[jW,CH f L _ (by omega) λy hy=>hL y (by simp[hy])];rw[List.any_cons];by_cases e:f x=1
  .simp[e];have:max m 1=1:=by omega
   simp[this]
  .have:f x=0:=by omega
   have hm:max m (f x)=m:=by omega
   rw[hm];simp[e]
def jw(l:List Nd)(a:Nat)(h:Int):Nat->Kp
 |0=>⟨[],0,h⟩
 |n+1=>if ct l n a=true then jy l (jw l a h n) n else jw l a h n
def wJ{l:List Nd}{L:List Int}{h:Int}:∀m,m<=L.length->j9 l L h m=(L.reverse.take m).foldl (jy l) ⟨[],0,h⟩
 |0,_=>rfl
 |m+1,hm=>by
  have hml:m<L.reverse.length:=by rw[List.length_reverse];omega
  rw[j9,wJ m (by omega),Vn hml,nj];have:L.getD (L.length-1-m) 0=L.reverse[m]:=by
   rw[List.getElem_reverse];have:L.length-1-m<L.length:=by omega
   simp[this]
  rw[this];rfl
def uW{l:List Nd}{a:Nat}{h:Int}:∀n,jw l a h n=(((List.range n).filter λ(i:Nat)=>ct l i a).map λ(i:Nat)=>(i:Int)).foldl (jy l) ⟨[],0,h⟩
 |0=>rfl
 |n+1=>by
  rw[jw,List.range_succ,List.filter_append,fw,nj,<-uW n];cases hh:ct l n a<;>simp[hh]
def H7{l:List Nd}(hb:SA l=true){a:Nat}(ha:a<l.length){h:Int}:qj l a h=jw l a h a:=by
 unfold qj;rw[wJ _ (SD _),qq (by rw[List.length_reverse];exact SD _),BV hb ha,mz,List.reverse_reverse,uW]
def zK{l:List Nd}{x:Kp}{a:Int}(h0:0<=(Uy l a).head):jy l x a=if(Uy l a).head=0\/(Uy l a).head>=x.body then x else⟨x.TM++[a],x.high+(Uy l a).head,x.body-(Uy l a).head⟩:=by
 unfold jy;by_cases h:(Uy l a).head=0\/(Uy l a).head>=x.body
 .rw[aI (by omega),aI h]
 .rw[aK (by omega),aK h]
def xf{l:List Nd}(hb:SA l=true){a:Nat}{h:Int}(hh:1<=h):∀n,n<=l.length->(jw l a h n).TM.length<=n/\0<=(jw l a h n).high/\1<=(jw l a h n).body/\(jw l a h n).high+(jw l a h n).body=h
 |0,_=>by simp[jw];omega
 |n+1,hn=>by
  obtain⟨h1,h2,h3,h4⟩:=xf hb hh (a:=a) n (by omega);have h0:0<=(Uy l (n:Int)).head:=by
   rw[gG (by omega)];exact(fA hb (by omega)).st.head.1
  rw[jw];split
  .rw[zK h0];split
   .exact⟨by omega,h2,h3,h4⟩
   .simp only[kL,Uf,List.length_nil];omega
  .exact⟨by omega,h2,h3,h4⟩
def Ag{l:List Nd}{h:Int}{j:Nat}:fU l h (j+1)=if(Sr l j).kind=2\/(Sr l j).kind=3 then min (fU l h j) (qj l j h).body else fU l h j:=rfl
def Hk(b:List U4)(i:Nat)(to:Int):btw b ((i:Int)+1) to=List.range' (i+1) (uv b ((i:Int)+1) to):=by
 unfold btw;rw[show(max ((i:Int)+1) 0).toNat=i+1 by omega]
def HE{b:List U4}{i:Nat}{to:Int}:uv b ((i:Int)+1) to=(min to ((b.length:Int)-1)-i).toNat:=by
 unfold uv;congr 1;omega
def vp:∀(l:List Fd) (x:Fd),l.foldl (kO gi) (x,true)=(x,true)
 |[],x=>rfl
 |y::l,x=>by rw[jW];exact vp l x
def pq:∀(l:List Fd) (d:Fd),(∀x∈l,x.b.forced=0)->iI gi l d=(d,false)
 |[],d,_=>rfl
 |y::l,d,h=>by
  unfold iI;rw[jW,show kO gi (d,false) y=(d,false) by simp[kO,gi,h y (by simp)]];exact pq l d λx hx=>h x (by simp[hx])
def A1{b:List U4}{i:Nat}{to:Int}(h:∀k:Nat,i<k->k<=i+uv b ((i:Int)+1) to->(UR b k).forced=0):fH b ((i:Int)+1) to=-1:=by
 unfold fH;rw[Hk,pq]
 .rfl
 .intro x hx;obtain⟨k,hk,rfl⟩:=iE.1 hx;rw[List.mem_range'_1]at hk;exact h k (by omega) (by omega)
def Eh{b:List U4}{i j:Nat}{to:Int}(hj:j<uv b ((i:Int)+1) to)(h:∀k:Nat,i<k->k<=i+j->(UR b k).forced=0)(hf:(UR b (i+1+j)).forced≠0):fH b ((i:Int)+1) to=((i+1+j:Nat):Int):=by
 unfold fH;obtain⟨r,hr⟩:∃r,uv b ((i:Int)+1) to=j+(r+1):=⟨uv b ((i:Int)+1) to-j-1,by omega⟩
 rw[Hk,hr,<-List.range'_append_1,fw];unfold iI;rw[nj];have h1:=pq ((List.range' (i+1) j).map (p7 b)) xM λx hx=>by
  obtain⟨k,hk,rfl⟩:=iE.1 hx;rw[List.mem_range'_1]at hk;exact h k (by omega) (by omega)
 unfold iI at h1;rw[h1,List.range'_succ,ga,jW];have h2:kO gi (xM,false) (p7 b (i+1+j))=(p7 b (i+1+j),true):=by
  have e3:(p7 b (i+1+j)).b=UR b (i+1+j):=rfl;simp[kO,gi,e3,hf]
 rw[h2,vp];rfl
open Go.Proofs
def GG(l:List Tk)(hl:lT l)(hpw:l.Pairwise λx y=>x.y+x.h<=y.y)(Ul:∀a∈l,1<=a.h)(s:R3)(hm:dc l s)(hd:s.done<=1152921504606846976)(kept shift body:Int)(hk:-1152921504606846976<=kept/\kept<=1152921504606846976)(hsh:0<=shift/\shift<=1152921504606846976):
 aX prog 30 [bL l,aN s,vI kept,vI shift,vI body] (vI (nA l s kept shift body)):=λU=>by
 refine e30.q ?_;have hs:=aa.refl U;have hc:=tE l s;rw[Tv hm]at hc;have Ux:=iV l;have hll:=hl.len;obtain⟨r,h1,h2,h3,h4,h5⟩:=mv (b:=⟨[],0,0,l,[],0,[]⟩) hpw Ul hm kept shift body;simp only at h1 h3 h4 h5;rw[h1];have UT:=λ(k:Nat) (Tt:s.atom<=k) (TK:k<l.length)=>I4 l hl s hm hd kept shift body k hk hsh Tt TK;have Yw:=hm;obtain⟨a,d,fr⟩:=s;obtain⟨⟨g0,g1⟩,g2,g3⟩:=hm;simp only at g0 g1 g2 g3 hd h2 h4 h5 UT;obtain⟨n,rfl⟩:∃n:Nat,a=n:=⟨a.toNat,by omega⟩
 refine mS 12 ?_;simp only[go_sem,seval,c30,aN];refine aE hs λi6 Z6 s6 a6 f6 z6 hs=>?_;simp only[go_sem,seval,a6];refine pS rfl (hc _) ?_;simp only[go_sem,seval,a6];refine ay.loop (λm st=>∃k:Nat,n<=k/\k<=r/\m=r-k/\aa U st.U/\st.U i6=some ⟨24,3,[.agg [vI n,vI d,.bool fr]]⟩/\st.s 0=bL l/\st.s 2=vI kept/\st.s 3=vI shift/\st.s 4=vI body/\st.s 6=.ptr i6 0 0/\st.s 11=vI k) (r-n) ?_ ?_
 .exact⟨n,by omega,by omega,rfl,hs,a6,rfl,rfl,rfl,rfl,rfl,rfl⟩
 .clear a6;rintro m ⟨S,J⟩ ⟨k,hnk,hkr,rfl,hs,a6,k0,k2,k3,k4,k6,T'⟩;simp only at hs a6 k0 k2 k3 k4 k6 T';refine ay.mix 12 ?_;by_cases u':k<l.length
  .have q:=qT u';have r1:=rI k;have hft:=UT k (by omega) u';apply sR;simp only[go_sem,seval,k0,k2,k3,k4,k6,T',q,Ux,a6];refine pR rfl (hft _) ?_;by_cases hkr2:k<r
   .have q2:(fq l ⟨n,d,fr⟩ kept shift k+l[k].h<=body)=True:=RX (h4 k u' (by omega) hkr2);apply sR;simp only[go_sem,seval,k0,k2,k3,k4,k6,T',q2,r1,a6];exact⟨_,by omega,k+1,by omega,by omega,rfl,hs,by simp[k0,k2,k3,k4,k6]⟩
   .obtain rfl:k=r:=by omega
    have q2:(fq l ⟨n,d,fr⟩ kept shift k+l[k].h<=body)=False:=H' (by have:=h5 u';omega);apply sR;simp only[go_sem,seval,k0,k2,k3,k4,k6,T',q2,a6];exact aD.pure hs rfl
  .have q:=qF u';obtain rfl:k=r:=by omega
   apply sR;simp only[go_sem,seval,k0,k2,k3,k4,k6,T',q,Ux,a6];exact aD.pure hs rfl
open Go.Proofs
def I2(s:SK):aX prog 196 [aY s] (.bool (decide (s.b<=s.a))):=λU=>by
 refine PL.q ?_;apply sR;simp only[go_sem,seval,M7,aY];refine aF λi1 Z1 s1 a1 f1=>?_;simp only[go_sem,seval,a1];exact aD.pure s1 rfl
def Ch(s:SK)(ha:Tj s.a)(hb:Tj s.b):aX prog 163 [aY s] (vI (fN s)):=λU=>by
 obtain⟨h1,h2⟩:=ha;obtain⟨h3,h4⟩:=hb;refine Qi.q ?_;apply sR;simp only[go_sem,seval,MY,aY];refine aF λi1 Z1 s1 a1 f1=>?_;simp only[go_sem,seval,a1];refine pS rfl (I2 ⟨_,_⟩ _) ?_;simp only[go_sem,seval,a1];unfold fN;refine And.intro (λh=>?_) (λh=>?_)
 .rw[aI h];exact aD.pure s1 rfl
 .rw[aK h];exact⟨ar,aD.pure s1 rfl⟩
def AV(f:Si)(y high:Int)(hf:f.ok)(hy:Tj y)(hh:Bq high):aX prog 195 [br f,vI y,vI high] (.bool (fe y high f)):=λU=>by
 obtain⟨⟨x1,x2⟩,⟨y1,y2⟩,⟨w1,w2⟩,h1,h2⟩:=hf;obtain⟨g1,g2⟩:=hy;obtain⟨g3,g4⟩:=hh;have hm:=Cg (y:=y) (high:=high) (f:=f);have r1:Sn .i64 (y+max high 1):=ar;have r2:Sn .i64 (f.y+f.h):=ar;generalize hM:max high 1=M at*;have hM':(if high>1 then high else 1)=M:=by omega
 have hM2:max 1 high=M:=by omega
 refine Qz.q ?_;have hs:=aa.refl U;refine mS 7 ?_;simp only[go_sem,seval,Nl,br];refine aE hs λi3 Z3 s3 a3 f3 z3 hs=>?_;by_cases p1:f.h>0
 .have q1:(f.h>0)=True:=RX p1;by_cases p2:f.y<y+M
  .have q2:(f.y<y+M)=True:=RX p2;simp only[go_sem,seval,a3,q1,q2,r1,r2,hM,hM2,cj];exact aD.pure hs (by simp only[V.bool.injEq];rw[Bool.eq_iff_iff,hm];simp[p1,p2])
  .have q2:(f.y<y+M)=False:=H' p2;simp only[go_sem,seval,a3,q1,q2,r1,r2,hM,hM2,cj];exact aD.pure hs (by simp only[V.bool.injEq];rw[eq_comm,Bool.eq_false_iff];intro e;exact p2 (hm.1 e).2.1)
 .have q1:(f.h>0)=False:=H' p1;simp only[go_sem,seval,a3,q1,r1,r2];exact aD.pure hs (by simp only[V.bool.injEq];rw[eq_comm,Bool.eq_false_iff];intro e;exact p1 (hm.1 e).1)
def F3(l:List Si)(y high:Int)(s:SK)(hl:l.length<=1000000)(Se:∀f∈l,f.ok)(hy:Tj y)(hh:Bq high):aX prog 161 [bj l,vI y,vI high,aY s] (aY (bP l y high s)):=λU=>by
 refine PG.q ?_;have hs:=aa.refl U;have hn:=jT l;refine mS 10 ?_;simp only[go_sem,seval,MD,aY];refine aE hs λi7 Z7 s7 a7 f7 z7 hs=>?_;simp only[go_sem,seval,a7];refine aE hs λi8 Z8 s8 a8 f8 z8 hs=>?_;obtain⟨V0,a7⟩:=RZ a7 f8 s8;simp only[go_sem,seval,a8,a7];refine ay.loop (λm st=>∃(i:Nat) (b:SK),i<=l.length/\m=l.length-i/\b=bP (l.take i) y high s/\aa U st.U/\st.U i7=some ⟨195,2,[.agg [vI b.a,vI b.b]]⟩/\st.U i8=some ⟨195,2,[.agg [vI 0,vI 0]]⟩/\st.s 0=bj l/\st.s 1=vI y/\st.s 2=vI high/\st.s 7=.ptr i7 0 0/\st.s 8=.ptr i8 0 0/\st.s 9=vI i) l.length ?_ ?_
 .exact⟨0,s,by omega,rfl,rfl,hs,a7,a8,rfl,rfl,rfl,rfl,rfl,rfl⟩
 .clear a7 a8;rintro m ⟨S,J⟩ ⟨i,b,hi,rfl,hb,hs,a7,a8,k0,k1,k2,k7,k8,k9⟩;simp only at hs a7 a8 k0 k1 k2 k7 k8 k9;refine ay.mix 10 ?_;by_cases u':i<l.length
  .have q:=qT u';have SW:=λU=>oD (U:=U) u';have SB:=Cm (y:=y) (high:=high) (s:=s) u';have XA:=Se _ (SU u');generalize l[i]=f at*;have fI:Sn .i64 (f.x+f.w):=by obtain⟨⟨x1,x2⟩,_,⟨w1,w2⟩,_⟩:=XA;exact ar
   rw[<-hb]at SB;apply sR;simp only[go_sem,seval,k0,k1,k2,k7,k8,k9,hn,q,SW,br];refine aE hs λi10 XV TN Sb f10 UH hs=>?_;obtain⟨TB,a7⟩:=RZ a7 f10 TN;obtain⟨Wm,a8⟩:=RZ a8 f10 TN;simp only[go_sem,seval,Sb,a7,a8,k0,k1,k2,k7,k8,k9];generalize Ss:C' _ i10 _=Y10;replace Sb:=Ti Ss;replace a7:=So Ss TB a7;replace a8:=So Ss Wm a8;replace hs:=Te Ss hs UH;refine pR rfl (AV f y high XA hy hh _) ?_;cases hm:fe y high f
   .rw[aK (by rw[hm];simp)]at SB;apply sR;simp only[go_sem,seval,k0,k1,k2,k7,k8,k9,a7,a8,Sb];exact⟨ar,_,by omega,i+1,b,by omega,rfl,SB.symm,hs,by simp[k0,k1,k2,k7,k8]⟩
   .rw[aI hm]at SB;unfold hU at SB;by_cases U9:f.side=1
    .have q1:(f.side=1)=True:=RX U9;rw[aI U9]at SB;apply sR;simp only[go_sem,seval,k0,k1,k2,k7,k8,k9,a7,a8,Sb,q1,fI,cj];exact⟨ar,_,by omega,i+1,_,by omega,rfl,SB.symm,hs.aL z7,rfl,by first|rfl|exact a8|exact(ad V0.symm).trans a8|exact(ad V0).trans a8,by simp[k0,k1,k2,k7,k8]⟩
    .have q1:(f.side=1)=False:=H' U9;rw[aK U9]at SB;apply sR;simp only[go_sem,seval,k0,k1,k2,k7,k8,k9,a7,a8,Sb,q1,eP];exact⟨ar,_,by omega,i+1,_,by omega,rfl,SB.symm,hs.aL z7,rfl,by first|rfl|exact a8|exact(ad V0.symm).trans a8|exact(ad V0).trans a8,by simp[k0,k1,k2,k7,k8]⟩
  .have q:=qF u';obtain rfl:i=l.length:=by omega
   rw[iC]at hb;apply sR;simp only[go_sem,seval,k0,k1,k2,k7,k8,k9,hn,q,a7,a8];exact aD.pure (hs.aL z8) (by rw[<-hb])
def CW(l:List Si)(y high:Int)(s:SK)(hl:l.length<=1000000)(Se:∀f∈l,f.ok)(hy:Tj y)(hh:Bq high):aX prog 162 [bj l,vI y,vI high,aY s] (.Sa [vI (cJ l y high s).1,.bool (cJ l y high s).2]):=λU=>by
 refine Qb.q ?_;have hs:=aa.refl U;have hn:=jT l;refine mS 13 ?_;simp only[go_sem,seval,NH,aY];refine aE hs λi7 Z7 s7 a7 f7 z7 hs=>?_;simp only[go_sem,seval,a7];refine ay.loop (λm st=>∃(i:Nat) (b:Int) (fd:Bool),i<=l.length/\m=l.length-i/\cJ (l.take i) y high s=(b,fd)/\aa U st.U/\st.U i7=some ⟨195,2,[.agg [vI s.a,vI s.b]]⟩/\st.s 0=bj l/\st.s 1=vI y/\st.s 2=vI high/\st.s 7=.ptr i7 0 0/\st.s 10=vI b/\st.s 11=.bool fd/\st.s 12=vI i) l.length ?_ ?_
 .exact⟨0,0,false,by omega,rfl,rfl,hs,a7,rfl,rfl,rfl,rfl,rfl,rfl,rfl⟩
 .clear a7;rintro m ⟨S,J⟩ ⟨i,b,fd,hi,rfl,hb,hs,a7,k0,k1,k2,k7,Tp,T',Tc⟩;simp only at hs a7 k0 k1 k2 k7 Tp T' Tc;refine ay.mix 13 ?_;by_cases u':i<l.length
  .have q:=qT u';have SW:=λU=>oD (U:=U) u';have SB:=Bw (y:=y) (high:=high) (s:=s) u';have XA:=Se _ (SU u');generalize l[i]=f at*;have fI:Sn .i64 (f.x+f.w):=by obtain⟨⟨x1,x2⟩,_,⟨w1,w2⟩,_⟩:=XA;exact ar
   have VD:Sn .i64 (f.y+f.h):=by obtain⟨_,⟨x1,x2⟩,_,⟨w1,w2⟩⟩:=XA;exact ar
   rw[hb]at SB;apply sR;simp only[go_sem,seval,k0,k1,k2,k7,Tp,T',Tc,hn,q,SW,br];refine aE hs λi13 Z13 YN TF f13 z13 hs=>?_;obtain⟨n713,a7⟩:=RZ a7 f13 YN;simp only[go_sem,seval,TF,a7,k0,k1,k2,k7,Tp,T',Tc];generalize UU:C' _ i13 _=Y13;replace TF:=Ti UU;replace a7:=So UU n713 a7;replace hs:=Te UU hs z13;refine pR rfl (AV f y high XA hy hh _) ?_;have XR:=EF (f:=f) (s:=s);cases hm:fe y high f
   .rw[aK (by rw[hm];simp)]at SB;apply sR;simp only[go_sem,seval,k0,k1,k2,k7,Tp,T',Tc,a7,TF];exact⟨ar,_,by omega,i+1,_,_,by omega,rfl,SB,hs,by simp[k0,k1,k2,k7,Tp,T']⟩
   .rw[aI hm]at SB;unfold iZ at SB;have go:¬hU f s=s->∀(c:Bool),c=(!fd||decide (f.y+f.h<b))->cJ (l.take (i+1)) y high s=if c then(f.y+f.h,true)else(b,fd):=λh c hc=>by
     rw[SB,hc];simp only[h,false_or];cases fd
     .simp
     .by_cases h2:f.y+f.h<b
      .simp[h2];try omega
      .simp[h2];try omega
    by_cases U9:f.side=1
    .have q1:(f.side=1)=True:=RX U9;have q1b:(f.side≠1)=False:=H' (λh=>h U9);by_cases hx:f.x+f.w<=s.a
     .have q2:(f.x+f.w<=s.a)=True:=RX hx;rw[aI (.inl (XR.2 (.inl ⟨U9,hx⟩)))]at SB;apply sR;simp only[go_sem,seval,k0,k1,k2,k7,Tp,T',Tc,a7,TF,q1,q1b,q2,fI];exact⟨ar,_,by omega,i+1,_,_,by omega,rfl,SB,hs,by simp[k0,k1,k2,k7,Tp,T']⟩
     .have q2:(f.x+f.w<=s.a)=False:=H' hx;have Sh:¬hU f s=s:=λe=>by rcases XR.1 e with h|h;exact hx h.2;exact h.1 U9
      cases fd
      .have g:=go Sh true rfl;apply sR;simp only[go_sem,seval,k0,k1,k2,k7,Tp,T',Tc,a7,TF,q1,q1b,q2,fI,VD];exact⟨ar,_,by omega,i+1,_,_,by omega,rfl,g,hs,by simp[k0,k1,k2,k7,Tp,T']⟩
      .by_cases S1:f.y+f.h<b
       .have q3:(f.y+f.h<b)=True:=RX S1;have g:=go Sh true (by simp[S1]);apply sR;simp only[go_sem,seval,k0,k1,k2,k7,Tp,T',Tc,a7,TF,q1,q1b,q2,q3,fI,VD];exact⟨ar,_,by omega,i+1,_,_,by omega,rfl,g,hs,by simp[k0,k1,k2,k7,Tp,T']⟩
       .have q3:(f.y+f.h<b)=False:=H' S1;have g:=go Sh false (by simp[S1]);apply sR;simp only[go_sem,seval,k0,k1,k2,k7,Tp,T',Tc,a7,TF,q1,q1b,q2,q3,fI,VD];exact⟨ar,_,by omega,i+1,_,_,by omega,rfl,g,hs,by simp[k0,k1,k2,k7,Tp,T']⟩
    .have q1:(f.side=1)=False:=H' U9;have q1b:(f.side≠1)=True:=RX U9;by_cases hx:f.x>=s.b
     .have q2:(f.x>=s.b)=True:=RX hx;rw[aI (.inl (XR.2 (.inr ⟨U9,hx⟩)))]at SB;apply sR;simp only[go_sem,seval,k0,k1,k2,k7,Tp,T',Tc,a7,TF,q1,q1b,q2,fI];exact⟨ar,_,by omega,i+1,_,_,by omega,rfl,SB,hs,by simp[k0,k1,k2,k7,Tp,T']⟩
     .have q2:(f.x>=s.b)=False:=H' hx;have Sh:¬hU f s=s:=λe=>by rcases XR.1 e with h|h;exact U9 h.1;exact hx h.2
      cases fd
      .have g:=go Sh true rfl;apply sR;simp only[go_sem,seval,k0,k1,k2,k7,Tp,T',Tc,a7,TF,q1,q1b,q2,fI,VD];exact⟨ar,_,by omega,i+1,_,_,by omega,rfl,g,hs,by simp[k0,k1,k2,k7,Tp,T']⟩
      .by_cases S1:f.y+f.h<b
       .have q3:(f.y+f.h<b)=True:=RX S1;have g:=go Sh true (by simp[S1]);apply sR;simp only[go_sem,seval,k0,k1,k2,k7,Tp,T',Tc,a7,TF,q1,q1b,q2,q3,fI,VD];exact⟨ar,_,by omega,i+1,_,_,by omega,rfl,g,hs,by simp[k0,k1,k2,k7,Tp,T']⟩
       .have q3:(f.y+f.h<b)=False:=H' S1;have g:=go Sh false (by simp[S1]);apply sR;simp only[go_sem,seval,k0,k1,k2,k7,Tp,T',Tc,a7,TF,q1,q1b,q2,q3,fI,VD];exact⟨ar,_,by omega,i+1,_,_,by omega,rfl,g,hs,by simp[k0,k1,k2,k7,Tp,T']⟩
  .have q:=qF u';obtain rfl:i=l.length:=by omega
   rw[iC]at hb;apply sR;simp only[go_sem,seval,k0,k1,k2,k7,Tp,T',Tc,hn,q,a7];exact aD.pure hs (by rw[hb])
def Ls(l:List Si)(hl:l.length<=1000000):aX prog 197 [bj l] (.Sa [vI (cF ln l).1,.bool (cF ln l).2]):=λU=>by
 refine Pb.q ?_;have hs:=aa.refl U;have hn:=jT l;refine mS 6 ?_;simp only[go_sem,seval,NV];refine ay.loop (λm st=>∃(i:Nat) (b:Int),i<=l.length/\m=l.length-i/\cF ln (l.take i)=(b,decide (0<i))/\aa U st.U/\st.s 0=bj l/\st.s 4=vI b/\st.s 5=vI i) l.length ?_ ?_
 .exact⟨0,0,by omega,rfl,rfl,hs,rfl,rfl,rfl⟩
 .rintro m ⟨S,J⟩ ⟨i,b,hi,rfl,hb,hs,k0,k4,k5⟩;simp only at hs k0 k4 k5;refine ay.mix 6 ?_;by_cases u':i<l.length
  .have q:=qT u';have SW:=λU=>oD (U:=U) u';have SB:=uh (tell:=ln) u';generalize l[i]=f at*;rw[hb]at SB;have hd:decide (0<i+1)=true:=Tv (by omega);by_cases h0:i=0
   .have q0:((i:Int)=0)=True:=RX;have WN:decide (0<i)=false:=TE (by omega);have e:ir ln (b,decide (0<i)) f=(f.y,decide (0<i+1)):=by rw[hd,WN];simp[ir,ln]
    rw[e]at SB;apply sR;simp only[go_sem,seval,k0,k4,k5,hn,q,q0,SW,br];exact⟨ar,_,by omega,i+1,_,by omega,rfl,SB,hs,by simp[k0]⟩
   .have q0:((i:Int)=0)=False:=H';have WN:decide (0<i)=true:=Tv (by omega);rw[WN]at SB;by_cases h1:f.y>b
    .have q1:(f.y>b)=True:=RX h1;have e:ir ln (b,true) f=(f.y,decide (0<i+1)):=by rw[hd];simp[ir,ln,h1]
     rw[e]at SB;apply sR;simp only[go_sem,seval,k0,k4,k5,hn,q,q0,q1,SW,br];exact⟨ar,_,by omega,i+1,_,by omega,rfl,SB,hs,by simp[k0]⟩
    .have q1:(f.y>b)=False:=H' h1;have e:ir ln (b,true) f=(b,decide (0<i+1)):=by rw[hd];simp[ir,ln,h1]
     rw[e]at SB;apply sR;simp only[go_sem,seval,k0,k4,k5,hn,q,q0,q1,SW,br];exact⟨ar,_,by omega,i+1,_,by omega,rfl,SB,hs,by simp[k0,k4]⟩
  .have q:=qF u';obtain rfl:i=l.length:=by omega
   rw[iC]at hb;apply sR;simp only[go_sem,seval,k0,k4,k5,hn,q];exact aD.pure hs (by rw[hb];simp)
open Go.Proofs
def Dr(l:List Si)(w high:Int)(s:SK)(hl:l.length<=1000000)(Se:∀f∈l,f.ok)(hh:Bq high)(TJ:Tj s.a/\Tj s.b):∀(n:Nat) (y:Int),Xb l y<n->Tj y->
 aX prog 134 [bj l,vI w,vI high,vI y,aY s] (.Sa [aY (bP l (gu l w high s y) high s),vI (gu l w high s y)]):=by
 intro n
 induction n with
 |zero=>intro y h;omega
 |succ n ih=>?_
 intro y hn hy U;refine P0.q ?_;have hs:=aa.refl U;refine mS 13 ?_;simp only[go_sem,seval,Of,aY];refine aE hs λi9 Y9 s9 a9 f9 z9 hs=>?_;simp only[go_sem,seval,a9];refine aE hs λi10 XV TN Sb f10 UH hs=>?_;obtain⟨Vi,a9⟩:=RZ a9 f10 TN;simp only[go_sem,seval,Sb,a9];refine pR rfl (F3 l y high s hl Se hy hh _) ?_;have Wx:=je (y:=y) (high:=high) Se TJ;have Vo:=F5 (l:=l) (w:=w) (high:=high) (y:=y) (s:=s);obtain⟨b,hb⟩:∃b,b=bP l y high s:=⟨_,rfl⟩
 rw[<-hb]at Vo Wx|-;apply sR;simp only[go_sem,seval,Sb,a9,aY];refine aE hs λi12 Y12 XX a12 f12 z12 hs=>?_;obtain⟨Ys,a9⟩:=RZ a9 f12 XX;obtain⟨V1,Sb⟩:=RZ Sb f12 XX;simp only[go_sem,seval,a12,Sb,a9,aY,ad Ys,ad V1];generalize TL:C' _ i12 _=Z12;replace a12:=Ti TL;replace a9:=So TL Ys a9;replace Sb:=So TL V1 Sb;replace hs:=Te TL hs z12;refine pR rfl (CW l y high s hl Se hy hh _) ?_;cases Xo:(cJ l y high s).2
 .rw[Xo]at Vo;rw[aI (.inl rfl)]at Vo;rw[Vo,<-hb];apply sR;simp only[go_sem,seval,a12,Sb,a9,aY];exact aD.pure (hs.aL UH) rfl
 .have hdec:=mu (fC Xo);have hnb:=yu Se Xo;rw[Xo]at Vo;apply sR;simp only[go_sem,seval,a12,Sb,a9,aY];refine pR rfl (Ch b Wx.1 Wx.2 _) ?_;by_cases hw:w<=fN b
  .have q:(fN b>=w)=True:=RX hw;rw[aI (.inr hw)]at Vo;rw[Vo,<-hb];apply sR;simp only[go_sem,seval,a12,Sb,a9,aY,q];exact aD.pure (hs.aL UH) rfl
  .have q:(fN b>=w)=False:=H' hw;rw[aK (by simp[hw])]at Vo;rw[Vo];apply sR;simp only[go_sem,seval,a12,Sb,a9,aY,q];refine pS rfl (ih _ (by omega) hnb _) ?_;simp only[go_sem,seval,a12,Sb,a9,aY];exact aD.pure (hs.aL UH) rfl
open Go.Proofs
def HW(fs:List Si)(f:Si)(y:Int)(s:SK)(hl:fs.length<=1000000)(Se:∀f∈fs,f.ok)(hy:Tj y)(hh:Bq f.h)(hw:Bq f.w)(TJ:Tj s.a/\Tj s.b):
 aX prog 164 [bj fs,br f,vI y,aY s] (.Sa [vI (me fs f y s),vI (j4 fs f y s)]):=λU=>by
 refine QH.q ?_;have hs:=aa.refl U;have hn:=jT fs;refine mS 15 ?_;simp only[go_sem,seval,OD,br,aY];refine aE hs λi5 Z5 s5 a5 f5 z5 hs=>?_;simp only[go_sem,seval,a5];refine aE hs λi7 Z7 s7 a7 f7 z7 hs=>?_;obtain⟨n57,a5⟩:=RZ a5 f7 s7;simp only[go_sem,seval,a7,a5];refine pR rfl (Ls fs hl _) ?_;have VQ:=CS (y:=y) Se hy;obtain⟨Y,hY⟩:∃Y,Y=j4 fs f y s:=⟨_,rfl⟩
 have hX:me fs f y s=if f.side=1 then(bP fs Y f.h s).a else max (bP fs Y f.h s).a ((bP fs Y f.h s).b-f.w):=by rw[hY];rfl
 rw[hX,<-hY];have hYd:Y=iX fs f.w f.h s fs.length (mZ fs y):=hY;clear hX hY;have Wx:=je (y:=Y) (high:=f.h) Se TJ;obtain⟨z,hz⟩:∃z,z=mZ fs y:=⟨_,rfl⟩
 rw[<-hz]at hYd VQ;unfold mZ at hz;generalize hS:cF ln fs=S at*;obtain⟨t,sm⟩:=S;simp only at hz;clear hS;rcases(show(sm=false/\z=y)\/(sm=true/\¬t>y/\z=y)\/(sm=true/\t>y/\z=t) by
  cases sm
  .exact .inl ⟨rfl,hz⟩
  .by_cases h:t>y
   .exact .inr (.inr ⟨rfl,h,by rw[hz];simp;omega⟩)
   .exact .inr (.inl ⟨rfl,h,by rw[hz];simp;omega⟩))with⟨rfl,rfl⟩|⟨rfl,hgt,rfl⟩|⟨rfl,hgt,rfl⟩
 case' inl=>
  apply sR;simp only[go_sem,seval,a7,a5]
 case' inr.inl=>
  have q:(t>z)=False:=H' hgt;apply sR;simp only[go_sem,seval,a7,a5,q]
 case' inr.inr=>
  have q:(z>y)=True:=RX hgt;apply sR;simp only[go_sem,seval,a7,a5,q]
 all_goals
  refine ay.kY (λst=>aa U st.U/\st.U i5=some ⟨137,7,[.agg [vI f.node,vI f.side,vI f.anchor,vI f.x,vI f.y,vI f.w,vI f.h]]⟩/\st.U i7=some ⟨195,2,[.agg [vI s.a,vI s.b]]⟩/\st.s 0=bj fs/\st.s 2=vI Y/\st.s 5=.ptr i5 0 0/\st.s 7=.ptr i7 0 0/\Tj Y)
   (λm st=>∃(y':Int) (i k:Nat),m=Xb fs y'/\i+k=fs.length/\Xb fs y'<=k/\Y=iX fs f.w f.h s k y'/\Tj y'/\aa U st.U/\st.U i5=some ⟨137,7,[.agg [vI f.node,vI f.side,vI f.anchor,vI f.x,vI f.y,vI f.w,vI f.h]]⟩/\st.U i7=some ⟨195,2,[.agg [vI s.a,vI s.b]]⟩/\st.s 0=bj fs/\st.s 2=vI y'/\st.s 5=.ptr i5 0 0/\st.s 7=.ptr i7 0 0/\st.s 12=vI i) (Xb fs z) ?_ ?_ ?_
  .exact⟨z,0,fs.length,rfl,by omega,E2 _ _,hYd,VQ,hs,a5,a7,rfl,rfl,rfl,rfl,rfl⟩
  .clear a5 a7 hYd VQ;rintro m ⟨S,J⟩ ⟨y',i,k,rfl,hik,hk,hYd,VQ,hs,a5,a7,k0,k2,k5,k7,Tc⟩;simp only at hs a5 a7 k0 k2 k5 k7 Tc;refine ay.mix 15 ?_;have q:((i:Int)<=fs.length)=True:=RX;have SF:=je (y:=y') (high:=f.h) Se TJ;apply sR;simp only[go_sem,seval,k0,k2,k5,k7,Tc,hn,q,a5,a7];refine pJ rfl (F3 fs y' f.h s hl Se VQ hh) ?_;apply sG;simp only[go_sem,seval,k0,k2,k5,k7,Tc,a5,a7];refine pJ rfl (Ch _ SF.1 SF.2) ?_;by_cases hle:fN (bP fs y' f.h s)>=f.w
   .have q1:(fN (bP fs y' f.h s)>=f.w)=True:=RX hle;rw[vQ (oz.2 (.inr hle))]at hYd;subst hYd;apply sG;simp only[go_sem,seval,k0,k2,k5,k7,Tc,a5,a7,q1];exact⟨hs,VQ⟩
   .have q1:(fN (bP fs y' f.h s)>=f.w)=False:=H' hle;apply sG;simp only[go_sem,seval,k0,k2,k5,k7,Tc,a5,a7,q1];refine pR rfl (CW fs y' f.h s hl Se VQ hh _) ?_;cases Xo:(cJ fs y' f.h s).2
    .rw[vQ (oz.2 (.inl Xo))]at hYd;subst hYd;apply sR;simp only[go_sem,seval,k0,k2,k5,k7,Tc,a5,a7];exact⟨hs,VQ⟩
    .have hdb:kK fs f.w f.h s y'=false:=by
      rw[Bool.eq_false_iff];intro e;rcases oz.1 e with e|e
      .rw[Xo]at e;cases e
      .exact hle e
     obtain⟨k',rfl,h1,h2⟩:=F2 hk hdb;have hdec:=mu (fC Xo);apply sR;simp only[go_sem,seval,k0,k2,k5,k7,Tc,a5,a7];exact⟨ar,_,hdec,_,i+1,k',rfl,by omega,h1,by rw[hYd,h2],yu Se Xo,hs,by simp[k0,k5,k7]⟩
  .clear a5 a7 hYd VQ;rintro⟨S,J⟩ ⟨hs,a5,a7,k0,k2,k5,k7,hYq⟩;simp only at hs a5 a7 k0 k2 k5 k7;refine ay.mix 15 ?_;have Wx:=Wx;apply sR;simp only[go_sem,seval,k0,k2,k5,k7,a5,a7];refine pR rfl (F3 fs Y f.h s hl Se hYq hh _) ?_;obtain⟨b,hb⟩:∃b,b=bP fs Y f.h s:=⟨_,rfl⟩
   rw[<-hb]at Wx|-;obtain⟨⟨b1,b2⟩,b3,b4⟩:=Wx;obtain⟨w1,w2⟩:=hw;apply sR;simp only[go_sem,seval,k0,k2,k5,k7,a5,a7,aY];refine aE hs λi15 Z15 XD Vg f15 z15 hs=>?_;obtain⟨n515,a5⟩:=RZ a5 f15 XD;obtain⟨n715,a7⟩:=RZ a7 f15 XD;by_cases U9:f.side=1
   .have q1:(f.side=1)=True:=RX U9;rw[aI U9];simp only[go_sem,seval,Vg,a5,a7,k0,k2,k5,k7,q1,ad n515,ad n715];exact aD.pure (hs.aL z15) rfl
   .have q1:(f.side=1)=False:=H' U9;rw[aK U9];have r1:Sn .i64 (b.b-f.w):=ar;simp only[go_sem,seval,Vg,a5,a7,k0,k2,k5,k7,q1,r1,cj,ad n515,ad n715];exact aD.pure (hs.aL z15) rfl
open Go.Proofs
def yR(ws:List Int)(i k:Nat):Int:=wo ((ws.take k).drop i)
def vm(ws:List Int)(i:Nat):yR ws i i=0:=by
 unfold yR;rw[List.drop_of_length_le (by rw[mf];omega)];rfl
def wS{ws:List Int}{i k:Nat}(hik:i<=k)(h:k<ws.length):yR ws i (k+1)=yR ws i k+ws[k]:=by
 unfold yR;rw[Vn h,zS (by simp;omega),sV,uT]
def Aq{ws:List Int}{space:Int}(h:WOk ws space){i:Nat}:∀d:Nat,i+d<=ws.length->0<=yR ws i (i+d)/\yR ws i (i+d)<=1099511627776*d
 |0,_=>by rw[Nat.add_zero,vm];omega
 |d+1,hd=>by
  have ih:=Aq h d (i:=i) (by omega);have hx:=h.get (i:=i+d) (by omega);rw[<-Nat.add_assoc,wS (by omega) (by omega)];omega
def xU(ws:List Int)(space:Int)(hw:WOk ws space)(i j:Nat)(XY:i<j)(hj:j<=ws.length):aX prog 221 [aZ ws,vI space,vI i,vI j] (vI (j5 ws space i j)):=λU=>by
 refine Rt.q ?_;have hs:=aa.refl U;have hn:=dz ws;have Ux:=hw.len;obtain⟨s0,s1⟩:0<=space/\space<=1099511627776:=⟨hw.s0,hw.s1⟩
 obtain⟨P,hP⟩:∃P:Int,P=((j:Int)-i-1)*space:=⟨_,rfl⟩
 have p0:0<=P:=by rw[hP];exact Int.mul_nonneg (by omega) s0
 have p1:P<=100000*1099511627776:=by rw[hP];exact Int.mul_le_mul (by omega) s1 s0 (by omega)
 have q1:((i:Int)<0)=False:=H';have q2:((i:Int)>=ws.length)=False:=H';have q3:((j:Int)<=i)=False:=H';have q4:((j:Int)>ws.length)=False:=H';have r1:Sn .i64 ((j:Int)-i):=ar;have r2:Sn .i64 ((j:Int)-i-1):=ar;have r3:Sn .i64 P:=ar;have hP':=hP.symm;refine mS 11 ?_;simp only[go_sem,seval,N5,hn,q1,q2,q3,q4,r1,r2,r3,hP'];refine ay.loop (λm st=>∃d:Nat,i+d<=j/\m=j-(i+d)/\aa U st.U/\st.s 0=aZ ws/\st.s 3=vI j/\st.s 9=vI (P+yR ws i (i+d))/\st.s 10=vI (i+d:Nat)) (j-i) ?_ ?_
 .exact⟨0,by omega,rfl,hs,rfl,rfl,by rw[Nat.add_zero,vm,Int.add_zero];rfl,rfl⟩
 .rintro m ⟨S,J⟩ ⟨d,hd,rfl,hs,k0,k3,k9,Tp⟩;simp only at hs k0 k3 k9 Tp;refine ay.mix 11 ?_;by_cases u':i+d<j
  .have q:(((i+d:Nat):Int)<j)=True:=RX;have WJ:i+d<ws.length:=by omega
   have SW:=λU=>dH (U:=U) WJ;have hsr:=Aq hw (i:=i) d (by omega);have hsc:=wS (ws:=ws) (i:=i) (k:=i+d) (by omega) WJ;have hx:=hw.get WJ;generalize ws[i+d]=x at*;have r4:Sn .i64 (P+yR ws i (i+d)+x):=ar;have r5:Sn .i64 (((i+d:Nat):Int)+1):=ar;apply sR;simp only[go_sem,seval,k0,k3,k9,Tp,q,SW,r4,r5];exact⟨_,by omega,d+1,by omega,rfl,hs,by rw[<-Nat.add_assoc,hsc];simp[vI];omega,by simp[vI];omega⟩
  .have q:(((i+d:Nat):Int)<j)=False:=H';have e:i+d=j:=by omega
   rw[e]at k9 Tp q;apply sR;simp only[go_sem,seval,k0,k3,k9,Tp,q];refine aD.pure hs ?_;unfold j5;rw[<-hP];rfl
def Jb(ws:List Int)(space width:Int)(hw:WOk ws space)(i:Nat)(hi:i<ws.length):aX prog 194 [aZ ws,vI space,vI width,vI i] (rW i (jc ws space width i).1 (jc ws space width i).2):=λU=>by
 refine Qy.q ?_;have hs:=aa.refl U;have hn:=dz ws;have Ux:=hw.len;have q1:((i:Int)<0)=False:=H';have q2:((i:Int)>=ws.length)=False:=H';have r1:=rI i;refine mS 10 ?_;simp only[go_sem,seval,ND];refine aE hs λi8 Z8 s8 a8 f8 z8 hs=>?_;simp only[go_sem,seval,hn,q1,q2,r1];have h0:jc ws space width i=lh space width (ws.drop (i+1)) (i+1) (j5 ws space i (i+1)):=by
  rw[EG hi];unfold jc;simp[hi]
 obtain⟨T,hT⟩:∃T,T=jc ws space width i:=⟨_,rfl⟩
 rw[<-hT]at h0|-;refine ay.loop (λm st=>∃j:Nat,i<j/\j<=ws.length/\m=ws.length-j/\T=lh space width (ws.drop j) j (j5 ws space i j)/\aa U st.U/\st.U i8=some ⟨263,3,[.agg [vI 0,vI 0,vI 0]]⟩/\st.s 0=aZ ws/\st.s 1=vI space/\st.s 2=vI width/\st.s 3=vI i/\st.s 8=.ptr i8 0 0/\st.s 9=vI j) (ws.length-(i+1)) ?_ ?_
 .exact⟨i+1,by omega,by omega,rfl,h0,hs,a8,rfl,rfl,rfl,rfl,rfl,rfl⟩
 .clear a8;rintro m ⟨S,J⟩ ⟨j,XY,hj,rfl,hTj,hs,a8,k0,k1,k2,k3,k8,k9⟩;simp only at hs a8 k0 k1 k2 k3 k8 k9;refine ay.mix 10 ?_;have Sg:=B4 (ws:=ws) (space:=space) (width:=width) XY;rw[<-hTj]at Sg;by_cases u':j<ws.length
  .have q:=qT u';have r2:=rI j;apply sR;simp only[go_sem,seval,k0,k1,k2,k3,k8,k9,q,hn,r2];refine pR rfl (xU ws space hw i (j+1) (by omega) (by omega) _) ?_;by_cases hle:j5 ws space i (j+1)<=width
   .have q3:(j5 ws space i (j+1)<=width)=True:=RX hle;rw[aI ⟨u',hle⟩]at Sg;apply sR;simp only[go_sem,seval,k0,k1,k2,k3,k8,k9,q3,r2];exact⟨_,by omega,j+1,by omega,by omega,rfl,Sg,hs,a8,by simp[k0,k1,k2,k3,k8]⟩
   .have q3:(j5 ws space i (j+1)<=width)=False:=H' hle;rw[aK (λh=>hle h.2)]at Sg;apply sR;simp only[go_sem,seval,k0,k1,k2,k3,k8,k9,q3];refine pS rfl (xU ws space hw i j XY hj _) ?_;simp only[go_sem,seval,k0,k1,k2,k3,k8,k9,a8];rw[Sg];exact aD.pure (hs.aL z8) rfl
  .have q:=qF u';rw[aK (λh=>u' h.1)]at Sg;apply sR;simp only[go_sem,seval,k0,k1,k2,k3,k8,k9,q,hn];refine pS rfl (xU ws space hw i j XY hj _) ?_;simp only[go_sem,seval,k0,k1,k2,k3,k8,k9,a8];rw[Sg];exact aD.pure (hs.aL z8) rfl
open Go.Proofs
def Gf(l:List Si)(w high y:Int)(s:SK)(hl:l.length<=1000000)(Se:∀f∈l,f.ok)(hy:Tj y)(hh:Bq high)(TJ:Tj s.a/\Tj s.b):
 aX prog 134 [bj l,vI w,vI high,vI y,aY s] (.Sa [aY (bP l (gu l w high s y) high s),vI (gu l w high s y)]):=Dr l w high s hl Se hh TJ (Xb l y+1) y (Nat.lt_succ_self _) hy
def Ir(fs:List Si)(ws:List Int)(space high:Int)(i:Nat)(y:Int)(s:SK)(hl:fs.length<=1000000)(Se:∀f∈fs,f.ok)(hy:Tj y)(hh:Bq high)(TJ:Tj s.a/\Tj s.b)(hw:WOk ws space)(hi:i<ws.length):
 aX prog 160 [bj fs,aZ ws,vI space,vI high,vI i,vI y,aY s] (jo (lV fs ws space high i y s)):=λU=>by
 refine P9.q ?_;have hs:=aa.refl U;have hn:=dz ws;have R0:=λU=>dH (U:=U) hi;have q0:((i:Int)<0)=False:=H';have q1:((i:Int)>=ws.length)=False:=H';refine mS 18 ?_;simp only[go_sem,seval,Oo,aY];refine aE hs λi13 Z13 YN TF f13 z13 hs=>?_;simp only[go_sem,seval,TF];refine aE hs λi14 Z14 s14 Vu f14 z14 hs=>?_;obtain⟨n1314,TF⟩:=RZ TF f14 s14;simp only[go_sem,seval,Vu,TF,hn,R0,q0,q1];have VK:ws.getD i 0=ws[i]:=by simp[hi]
 obtain⟨SI,U7⟩:∃a,a=gu fs ws[i] high s y:=⟨_,rfl⟩
 have Vo:=Gf fs ws[i] high y s hl Se hy hh TJ;rw[<-U7]at Vo;have Wx:=je (y:=SI) (high:=high) Se TJ;unfold lV;rw[VK];simp only;rw[<-U7];obtain⟨b,hb⟩:∃b,b=bP fs SI high s:=⟨_,rfl⟩
 rw[<-hb]at Vo Wx|-;refine pJ rfl Vo ?_;apply sG;simp only[go_sem,seval,aY];refine xd hs λi15 Z15 XD Vg f15 z15 hs=>?_;obtain⟨n1315,TF⟩:=RZ TF f15 XD;obtain⟨n1415,Vu⟩:=RZ Vu f15 XD;simp only[go_sem,seval,Vg,Vu,TF,aY];generalize TW:C' _ i15 _=Y15;replace Vg:=Ti TW;replace TF:=So TW n1315 TF;replace Vu:=So TW n1415 Vu;replace hs:=Te TW hs z15;refine pS rfl (Ch b Wx.1 Wx.2 _) ?_;simp only[go_sem,seval];refine pS rfl (Jb ws space (fN b) hw i hi _) ?_;simp only[go_sem,seval,rW];refine aE hs λi17 Z17 X6 Zi f17 z17 hs=>?_;obtain⟨Xc,TF⟩:=RZ TF f17 X6;obtain⟨n1417,Vu⟩:=RZ Vu f17 X6;obtain⟨n1517,Vg⟩:=RZ Vg f17 X6;simp only[go_sem,seval,Zi,Vg,Vu,ad Xc,ad n1417,ad n1517];exact aD.pure ((hs.aL z17).aL z14) rfl
def Gz(p:Pn)(low:Int)(h1:Bq p.y)(h2:Bq p.m):aX prog 130 [dx p,vI low] (dx (fk p low)):=λU=>by
 obtain⟨g1,g2⟩:=h1;obtain⟨g3,g4⟩:=h2;refine Pp.q ?_;have hs:=aa.refl U;have r1:Sn .i64 (p.y+p.m):=ar;refine mS 5 ?_;simp only[go_sem,seval,OT,dx];refine aE hs λi2 Z2 s2 a2 f2 z2 hs=>?_;simp only[go_sem,seval,a2];refine aE hs λi4 Z4 s4 a4 f4 z4 hs=>?_;obtain⟨VZ,a2⟩:=RZ a2 f4 s4;unfold fk;by_cases h:low>p.y+p.m
 .have q:(low>p.y+p.m)=True:=RX h;rw[aI h];simp only[go_sem,seval,a4,a2,q,r1,ad VZ,ad VZ.symm];exact aD.pure (hs.aL z4) rfl
 .have q:(low>p.y+p.m)=False:=H' h;rw[aK h];simp only[go_sem,seval,a4,a2,q,r1,ad VZ,ad VZ.symm];exact aD.pure (hs.aL z4) rfl
def FP(l:List Nd)(hb:SA l=true)(hn:l.length<=2000)(w:Int)(hw1:1<=w)(Vp:w<=1099511627776):∀(n a:Nat),a<n->a<l.length->aX prog 128 [aQ l,vI a,vI w] (j0 (lz l w a)):=by
 intro n
 induction n with
 |zero=>intro a h;omega
 |succ n ih=>?_
 intro a han ha U;refine Rc.q ?_;have hs:=aa.refl U;refine mS 10 ?_;simp only[go_sem,seval,Ni];refine aE hs λi6 Z6 s6 a6 f6 z6 hs=>?_;simp only[go_sem,seval,a6];refine pR rfl (Bo l (by omega) a ha _) ?_;have hrg:=ez l a;have heq:=As (l:=l) (w:=w) (a:=a);by_cases hp:dq l a<0
 .have q:(dq l a<0)=True:=RX hp;rw[aI hp]at heq;rw[heq];apply sR;simp only[go_sem,seval,a6,q];exact aD.pure (hs.aL z6) rfl
 .have q:(dq l a<0)=False:=H' hp;rw[aK hp]at heq;obtain⟨p,hpe⟩:∃p:Nat,dq l a=p:=⟨(dq l a).toNat,by omega⟩
  have Wr:p<l.length:=by omega
  rw[hpe]at q heq;rw[gM]at heq;have Se:=AN hb hn hw1 Vp Wr;obtain⟨k1,k2,k3,k4⟩:=Se;have hins:tq l p=l[p].st.SG:=by simp[tq,Wr]
  have Sg:=(fA hb Wr).st.SG;have SW:=λU=>bN (U:=U) Wr;rw[heq];unfold jM;rw[hins];apply sR;simp only[go_sem,seval,a6,hpe,q];refine pR rfl (ih p (by omega) Wr _) ?_;generalize lz l w p=r at*;generalize l[p]=nd at*;have r1:Sn .i64 (r.x+nd.st.SG):=ar;have r2:Sn .i64 (r.w-nd.st.SG):=ar;have r3:Sn .i64 (r.w-nd.st.SG-nd.st.SG):=ar;have e3:r.w-2*nd.st.SG=r.w-nd.st.SG-nd.st.SG:=by omega
  rw[e3];apply sR;simp only[go_sem,seval,a6,j0];refine aE hs λi8 Z8 s8 a8 f8 z8 hs=>?_;obtain⟨Wl,a6⟩:=RZ a6 f8 s8;simp only[go_sem,seval,a8,a6,SW,Nd.cells,r1,r2,r3,eP,cj,ad Wl,ad Wl.symm];exact aD.pure ((hs.aL z8).aL z6) rfl
open Go.Proofs
def zz(p:Pn)(SS pad:Int)(h1:Bq p.y)(h2:Bq p.m)(h3:Bq SS)(h4:Bq pad):aX prog 131 [dx p,vI SS,vI pad] (dx (er p SS pad)):=λU=>by
 obtain⟨g1,g2⟩:=h1;obtain⟨g3,g4⟩:=h2;obtain⟨g5,g6⟩:=h3;obtain⟨g7,g8⟩:=h4;refine QT.q ?_;have hs:=aa.refl U;obtain⟨py,pm⟩:=p;simp only at g1 g2 g3 g4;unfold er;have r1:Sn .i64 (py+pm):=ar;have r2:Sn .i64 (py+pm+pad):=ar;have r3:Sn .i64 (py+SS):=ar;have r4:Sn .i64 (py+SS+pad):=ar;refine mS 7 ?_;simp only[go_sem,seval,LZ,dx];refine aE hs λi3 Z3 s3 a3 f3 z3 hs=>?_;simp only[go_sem,seval,a3];refine aE hs λi6 Z6 s6 a6 f6 z6 hs=>?_;obtain⟨XZ,a3⟩:=RZ a3 f6 s6;by_cases hm:SS>pm
 .have q1:(SS>pm)=True:=RX hm;have e:max pm SS=SS:=by omega
  by_cases hp:pad>0
  .have q2:(pad>0)=True:=RX hp;simp only[go_sem,seval,a6,a3,q1,q2,r3,r4,ad XZ,ad XZ.symm];exact aD.pure ((hs.aL z3).aL z6) (by unfold kS;simp[hp,e,vI]<;>omega)
  .have q2:(pad>0)=False:=H' hp;simp only[go_sem,seval,a6,a3,q1,q2,r3,r4,ad XZ,ad XZ.symm];exact aD.pure ((hs.aL z3).aL z6) (by unfold kS;simp[hp,e,vI]<;>omega)
 .have q1:(SS>pm)=False:=H' hm;have e:max pm SS=pm:=by omega
  by_cases hp:pad>0
  .have q2:(pad>0)=True:=RX hp;simp only[go_sem,seval,a6,a3,q1,q2,r1,r2,ad XZ,ad XZ.symm];exact aD.pure (hs.aL z6) (by unfold kS;simp[hp,e,vI]<;>omega)
  .have q2:(pad>0)=False:=H' hp;simp only[go_sem,seval,a6,a3,q1,q2,r1,r2,ad XZ,ad XZ.symm];exact aD.pure (hs.aL z6) (by unfold kS;simp[hp,e,vI]<;>omega)
def Bm(p:Pn)(SS pad:Int)(h1:Bq p.y)(h2:Bq p.m)(h3:Bq SS)(h4:Bq pad):aX prog 132 [dx p,vI SS,vI pad] (dx (ky p SS pad)):=λU=>by
 obtain⟨g1,g2⟩:=h1;obtain⟨g3,g4⟩:=h2;obtain⟨g5,g6⟩:=h3;obtain⟨g7,g8⟩:=h4;refine Q7.q ?_;have hs:=aa.refl U;obtain⟨py,pm⟩:=p;simp only at g1 g2 g3 g4;unfold ky;have r1:Sn .i64 (py+pm):=ar;have r2:Sn .i64 (py+pm+pad):=ar;refine mS 7 ?_;simp only[go_sem,seval,Md,dx];refine aE hs λi3 Z3 s3 a3 f3 z3 hs=>?_;simp only[go_sem,seval,a3];refine aE hs λi6 Z6 s6 a6 f6 z6 hs=>?_;obtain⟨XZ,a3⟩:=RZ a3 f6 s6;by_cases hp:pad>0
 .have q2:(pad>0)=True:=RX hp;by_cases hm:SS>0
  .have q1:(SS>0)=True:=RX hm;simp only[go_sem,seval,a6,a3,q1,q2,r1,r2,ad XZ,ad XZ.symm];exact aD.pure ((hs.aL z3).aL z6) (by unfold kS;simp[hp,vI]<;>omega)
  .have q1:(SS>0)=False:=H' hm;simp only[go_sem,seval,a6,a3,q1,q2,r1,r2,ad XZ,ad XZ.symm];exact aD.pure ((hs.aL z3).aL z6) (by unfold kS;simp[hp,vI]<;>omega)
 .have q2:(pad>0)=False:=H' hp;by_cases hm:SS>pm
  .have q1:(SS>pm)=True:=RX hm;simp only[go_sem,seval,a6,a3,q1,q2,r1,r2,ad XZ,ad XZ.symm];exact aD.pure ((hs.aL z3).aL z6) (by unfold kS;simp[hp,vI]<;>omega)
  .have q1:(SS>pm)=False:=H' hm;simp only[go_sem,seval,a6,a3,q1,q2,r1,r2,ad XZ,ad XZ.symm];exact aD.pure (hs.aL z6) (by unfold kS;simp[hp,vI]<;>omega)
open Go.Proofs
def Gw{U:al}{id e sz:Nat}(h:U id=some ⟨e,sz,[]⟩):bX U e sz (.own id 0 0)=some ([],some id):=by
 simp only[bX,h];rw[aI (by simp)];simp
def EI(l:List Si)(Tl:Int)(hl:l.length<=1000000)(Se:∀f∈l,f.ok):aX prog 129 [bj l,vI Tl] (.Sa [vI (cF (gk Tl) l).1,.bool (cF (gk Tl) l).2]):=λU=>by
 refine PR.q ?_;have hs:=aa.refl U;have hn:=jT l;refine mS 9 ?_;simp only[go_sem,seval,MV];refine ay.loop (λm st=>∃(i:Nat) (b:Int) (fd:Bool),i<=l.length/\m=l.length-i/\cF (gk Tl) (l.take i)=(b,fd)/\aa U st.U/\st.s 0=bj l/\st.s 1=vI Tl/\st.s 6=vI b/\st.s 7=.bool fd/\st.s 8=vI i) l.length ?_ ?_
 .exact⟨0,0,false,by omega,rfl,rfl,hs,rfl,rfl,rfl,rfl,rfl⟩
 .rintro m ⟨S,J⟩ ⟨i,b,fd,hi,rfl,hb,hs,k0,k1,k6,k7,k8⟩;simp only at hs k0 k1 k6 k7 k8;refine ay.mix 9 ?_;by_cases u':i<l.length
  .have q:=qT u';have SW:=λU=>oD (U:=U) u';have SB:=uh (tell:=gk Tl) u';have XA:=Se _ (SU u');generalize l[i]=f at*;have VD:Sn .i64 (f.y+f.h):=by obtain⟨_,⟨x1,x2⟩,_,⟨w1,w2⟩⟩:=XA;exact ar
   rw[hb]at SB;have go:Kz f.side Tl≠0->∀c:Bool,c=(!fd||decide (f.y+f.h>b))->cF (gk Tl) (l.take (i+1))=if c then(f.y+f.h,true)else(b,fd):=λhz c hc=>by
    rw[SB,hc];unfold ir gk;cases fd<;>simp[hz]
   have no:Kz f.side Tl=0->cF (gk Tl) (l.take (i+1))=(b,fd):=λhz=>by rw[SB];simp[ir,gk,hz]
   cases fd
   .apply sR;simp only[go_sem,seval,k0,k1,k6,k7,k8,hn,q,SW,br,VD];refine And.intro (λhz=>?_) (λhz=>?_)
    .exact⟨ar,_,by omega,i+1,_,_,by omega,rfl,no hz,hs,by simp[k0,k1,k6,k7]⟩
    .have g:=go hz true rfl;exact⟨ar,_,by omega,i+1,_,_,by omega,rfl,g,hs,by simp[k0,k1,k6,k7]⟩
   .by_cases S1:f.y+f.h>b
    .have q3:(f.y+f.h>b)=True:=RX S1;apply sR;simp only[go_sem,seval,k0,k1,k6,k7,k8,hn,q,SW,br,q3,VD];refine And.intro (λhz=>?_) (λhz=>?_)
     .exact⟨ar,_,by omega,i+1,_,_,by omega,rfl,no hz,hs,by simp[k0,k1,k6,k7]⟩
     .have g:=go hz true (by simp[S1]);exact⟨ar,_,by omega,i+1,_,_,by omega,rfl,g,hs,by simp[k0,k1,k6,k7]⟩
    .have q3:(f.y+f.h>b)=False:=H' S1;apply sR;simp only[go_sem,seval,k0,k1,k6,k7,k8,hn,q,SW,br,q3,VD];refine And.intro (λhz=>?_) (λhz=>?_)
     .exact⟨ar,_,by omega,i+1,_,_,by omega,rfl,no hz,hs,by simp[k0,k1,k6,k7]⟩
     .have g:=go hz false (by simp[S1]);exact⟨ar,_,by omega,i+1,_,_,by omega,rfl,g,hs,by simp[k0,k1,k6,k7]⟩
  .have q:=qF u';obtain rfl:i=l.length:=by omega
   rw[iC]at hb;apply sR;simp only[go_sem,seval,k0,k1,k6,k7,k8,hn,q];exact aD.pure hs (by rw[hb])
open Go.Proofs
def Gr(l:List Nd)(hl:l.length<=1000000000)(of:List Int)(i:Nat)(k:Int):aX prog 198 [aQ l,aZ of,vI i,vI k] (.bool (jm l of i k)):=λU=>by
 refine RA.q ?_;have hs:=aa.refl U;have hn:=dz of;unfold jm;refine ay.mix 9 ?_;by_cases h0:k>=0
 .have q0:(k>=0)=True:=RX h0;by_cases h1:k<of.length
  .have q1:(k<of.length)=True:=RX h1;obtain⟨n,rfl⟩:∃n:Nat,k=n:=⟨k.toNat,by omega⟩
   have Xo:n<of.length:=by omega
   have SW:=λU=>dH (U:=U) Xo;have VK:of.getD ((n:Int)).toNat 0=of[n]:=by simp[Xo]
   rw[Tv (show(0:Int)<=n/\(n:Int)<of.length by omega),Bool.true_and,VK];generalize of[n]=x at*;apply sR;simp only[go_sem,seval,IQ,q0,q1,hn,SW];refine pS rfl (Dc l hl i x _) ?_;simp only[go_sem,seval];exact aD.pure hs rfl
  .have q1:(k<of.length)=False:=H' h1;rw[TE (λh=>h1 h.2),Bool.false_and];apply sR;simp only[go_sem,seval,IQ,q0,q1,hn];exact aD.pure hs rfl
 .have q0:(k>=0)=False:=H' h0;rw[TE (λh=>h0 h.1),Bool.false_and];apply sR;simp only[go_sem,seval,IQ,q0,hn];exact aD.pure hs rfl
open Go.Proofs
def CY(l:List Nd)(hl:dN l)(h:Int)(his:aX prog 104 [aQ l] (.bool (SA l))):aX prog 73 [aQ l,vI h] (.bool (gH l h)):=λU=>by
 refine e73.q ?_;have hs:=aa.refl U;unfold gH;refine ay.mix 5 ?_;by_cases h0:h>=1
 .have q0:(h>=1)=True:=RX h0;by_cases h1:h<=1099511627776
  .have q1:(h<=1099511627776)=True:=RX h1;rw[Tv ⟨h0,h1⟩,Bool.true_and];apply sR;simp only[go_sem,seval,c73,q0,q1];refine pS rfl (his _) ?_;simp only[go_sem,seval];exact aD.pure hs rfl
  .have q1:(h<=1099511627776)=False:=H' h1;rw[TE (λe=>h1 e.2),Bool.false_and];apply sR;simp only[go_sem,seval,c73,q0,q1];exact aD.pure hs rfl
 .have q0:(h>=1)=False:=H' h0;rw[TE (λe=>h0 e.1),Bool.false_and];apply sR;simp only[go_sem,seval,c73,q0];exact aD.pure hs rfl
def qk{l:List Nd}{p:Nat->Bool}:∀n,(jV l p n).length<=n
 |0=>by simp[jV]
 |n+1=>by
  rw[lU,kL];have:=qk (l:=l) (p:=p) n;split<;>simp<;>omega
def ED{l:List Nd}{L:List Int}{i:Nat}(h:i<L.length):(L.take (i+1)).flatMap (iG l)=(L.take i).flatMap (iG l)++iG l L[i]:=by
 rw[Vn h,List.flatMap_append];simp
def D1{l:List Nd}{L:List Int}{i:Nat}(h:i<L.length):(L.take (i+1)).map (λb=>(Uy l b).after)=(L.take i).map (λb=>(Uy l b).after)++[(Uy l L[i]).after]:=by
 rw[Vn h,fw];simp
def zO{of:List Int}{t:Int}{k:Nat}:∀i,i<=k->(fZ of t k i).2=0
 |0,_=>rfl
 |i+1,h=>by
  have:=zO (of:=of) (t:=t) i (by omega:i<=k);rw[fZ];split
  .rw[aI (by omega)];exact this
  .exact this
def uB(L:List Int):Int:=if 1∈L then 1 else 0
def DS{L:List Int}{i:Nat}(h:i<L.length):uB (L.take (i+1))=if L[i]=1 then 1 else uB (L.take i):=by
 unfold uB;rw[Vn h];simp only[gl,kc];by_cases e:L[i]=1
 .simp[e]
 .have:¬(1=L[i]):=λh=>e h.symm;simp[e,this]
def oJ(l:List Nd)(L:List Int):Int:=L.foldl (λm b=>max m (Uy l b).inside) 0
def DM{l:List Nd}{L:List Int}{i:Nat}(h:i<L.length):oJ l (L.take (i+1))=max (oJ l (L.take i)) (Uy l L[i]).inside:=by
 unfold oJ;rw[Vn h,nj];rfl
def JB{l:List Nd}{x:Kn}(h:∀b∈x.both,0<=(Uy l b).inside/\(Uy l b).inside<=1):oJ l x.both=if qC l x then 1 else 0:=by
 unfold oJ;rw[CH (λb=>(Uy l b).inside) _ _ (.inl rfl) h];simp[qC]
open Go.Proofs
def zF{U:al}{id e sz:Nat}{r:V}(h:U id=some ⟨e,sz,[r]⟩):bX U e sz (.own id 0 1)=some ([r],some id):=by
 simp[bX,h]
def aP.cT{K U:al}{e sz i:Nat}{v:V}{rows:List V}{o p:Ob}(h:aP K U e sz v rows)(hi:U i=some p)(Sh:p.elem≠e):aP K (C' U i o) e sz v rows:=by
 rcases h with h|⟨id,g1,g2,g3⟩
 .exact .inl h
 .refine .inr ⟨id,g1,?_,g3⟩;rw[Vc.ad (λe'=>by rw[e',hi]at g2;cases g2;exact Sh rfl)];exact g2
def aP.ke{K U:al}{e sz i:Nat}{v:V}{rows:List V}{p:Ob}(h:aP K U e sz v rows)(hi:U i=some p)(Sh:p.elem≠e):∀n,v≠.own i 0 n:=λn hv=>by
 subst hv;rcases h with⟨h,_⟩|⟨id,h,g2,_⟩
 .cases h
 .cases h;rw[hi]at g2;cases g2;exact Sh rfl
def aP.Im{K U:al}{e sz:Nat}{v:V}{rows:List V}(h:aP K U e sz v rows){idA:Option Nat}(h1:∀i,idA=some i->∀n,v≠.own i 0 n):aP K (Vc.bW U idA) e sz v rows:=by
 rcases h with h|⟨a,rfl,ho,hk⟩
 .exact .inl h
 .refine .inr ⟨a,rfl,?_,hk⟩;cases idA with
  |none=>exact ho
  |some i=>
   have:a≠i:=λe=>h1 i rfl _ (by rw[e]);simp only[Vc.bW];rw[eV this];exact ho
def aP.AH{K ZJ Z1:al}{e sz:Nat}{v:V}{rows:List V}(h:aP K ZJ e sz v rows)(hs:aa ZJ Z1):
 ∃idA,bX Z1 e sz v=some (rows,idA)/\(∀i,idA=some i->v=.own i 0 rows.length)/\(∀j,(∀n,v≠.own j 0 n)->∀Z2:al,Vc.bW Z2 idA j=Z2 j)/\(∀K':al,aa K' K->∀Z2,aa K' Z2->aa K' (Vc.bW Z2 idA)):=by
 rcases h with⟨rfl,rfl⟩|⟨id,rfl,ho,hk⟩
 .exact⟨none,rfl,λ_ h=>(by cases h),λ_ _ _=>rfl,λ_ _ _ h=>h⟩
 .refine⟨some id,?_,λi h=>(by cases h;rfl),λj hj Z2=>eV λe'=>hj rows.length (by rw[e']),λK' hK Z2 h=>h.uL (hK.none hk)⟩;simp only[bX,hs _ _ ho];rw[aI ⟨trivial,trivial,trivial,SD _⟩,iC]
structure KnJ(Z0:al)(i6 i7:Nat)(E B O:List Int)(U:al):Prop where
 sub:aa Z0 U
 no:Z0 i7=none
 no6:Z0 i6=none
 r6:U i6=some ⟨240,4,[.agg [.bl,.bl,.bl,vI 0]]⟩
 ne:i6≠i7
 row:∃ve vb vo,U i7=some ⟨240,4,[.agg [ve,vb,vo,vI (-1)]]⟩/\aP Z0 U 3 1 ve (E.map vI)/\aP Z0 U 3 1 vb (B.map vI)/\aP Z0 U 3 1 vo (O.map vI)/\fT vb ve/\fT vb vo
def Cl(l:List Nd)(hb:SA l=true)(hn:l.length<=2000)(of:List Int)(SY:of.length<=1000000)(SR:∀x∈of,(0<=x/\x<l.length)/\WX l x.toNat≠1)(k:Nat)(hk:k<=of.length):
 aX prog 166 [aQ l,aZ of,vI k] (gI (cE l of k)):=λU=>by
 refine PA.q ?_;have hs:=aa.refl U;have Ux:=bT l;have S1:=dz of;have hH:=λ(i:Nat) (k:Int)=>Gr l (by omega) of i k;rw[IJ hb SR];generalize hpE:(λi=>jm l of i ((k:Int)-1)&&!jm l of i k)=pE;generalize hpB:(λi=>jm l of i k&&!jm l of i ((k:Int)-1))=pB;generalize hpO:(λi=>jm l of i ((k:Int)-1)&&jm l of i k)=pO;have eE:∀i,pE i=(jm l of i ((k:Int)-1)&&!jm l of i k):=λi=>by rw[<-hpE]
 have eB:∀i,pB i=(jm l of i k&&!jm l of i ((k:Int)-1)):=λi=>by rw[<-hpB]
 have eO:∀i,pO i=(jm l of i ((k:Int)-1)&&jm l of i k):=λi=>by rw[<-hpO]
 clear hpE hpB hpO;refine mS 11 ?_;simp only[go_sem,seval,Mg];refine aE hs λi6 Z6 s6 a6 f6 z6 hs=>?_;simp only[go_sem,seval,a6];refine aE hs λi7 Z7 s7 a7 f7 z7 hs=>?_;obtain⟨Uh,a6⟩:=RZ a6 f7 s7;simp only[go_sem,seval,a7,a6,ad Uh,ad Uh];generalize Wo:C' _ i7 _=Y7;replace a7:=Ti Wo;replace a6:=So Wo Uh a6;replace hs:=Te Wo hs z7;have hJ0:KnJ U i6 i7 [] [] [] Y7:=⟨hs,z7,z6,a6,Uh,_,_,_,a7,aP.start,aP.start,aP.start,fT.bl _,fT.bl _⟩
 refine ay.loop (λm st=>∃i:Nat,i<=l.length/\m=l.length-i/\KnJ U i6 i7 (jV l pE i).reverse (jV l pB i) (jV l pO i).reverse st.U/\st.s 0=aQ l/\st.s 1=aZ of/\st.s 2=vI k/\st.s 6=.ptr i6 0 0/\st.s 7=.ptr i7 0 0/\st.s 8=vI i) l.length ?_ ?_
 .exact⟨0,by omega,rfl,hJ0,rfl,rfl,rfl,rfl,rfl,rfl⟩
 .clear hs a6 a7 hJ0;rintro m ⟨S,J⟩ ⟨i,hi,rfl,hJ,k0,k1,k2,k6,k7,k8⟩;simp only at hJ k0 k1 k2 k6 k7 k8;obtain⟨ve,vb,vo,a7,hve,hvb,hvo,WU,Wx⟩:=hJ.row;have a6:=hJ.r6;obtain⟨ce,se⟩:=hve.vc;obtain⟨cb,sb⟩:=hvb.vc;obtain⟨co,so⟩:=hvo.vc;refine ay.mix 11 ?_;by_cases u':i<l.length
  .have q:=qT u';have Th:=λU=>bN (U:=U) (l:=l) (a:=i) u';have r1:=rI i;have r2:Sn .i64 ((k:Int)-1):=ar;have hkd:WX l i=l[i].kind:=by simp[WX,u']
   have sE:=lU (l:=l) (p:=pE) (n:=i);have sB:=lU (l:=l) (p:=pB) (n:=i);have sO:=lU (l:=l) (p:=pO) (n:=i);have lE:=qk (l:=l) (p:=pE) i;have lB:=qk (l:=l) (p:=pB) i;have lO:=qk (l:=l) (p:=pO) i;rw[eE,hkd]at sE;rw[eB,hkd]at sB;rw[eO,hkd]at sO;have h1:=hH i ((k:Int)-1);have h2:=hH i k;generalize jV l pE i=E at*;generalize jV l pB i=B at*;generalize jV l pO i=O at*;generalize l[i]=x at*;by_cases Tt:x.kind=1
   .have q1:(x.kind≠1)=False:=H' (λh=>h Tt);simp only[Tt,true_and]at sE sB sO;apply sR;simp only[go_sem,seval,k0,k1,k2,k6,k7,k8,Ux,q,Th,Nd.cells,q1,r2];refine pS rfl (h1 _) ?_;simp only[go_sem,seval,k0,k1,k2,k6,k7,k8];refine pR rfl (h2 _) ?_;cases ha:jm l of i ((k:Int)-1)<;>cases hb:jm l of i k
    all_goals rw[ha,hb]at sE sB sO
    all_goals simp only[Bool.not_true,Bool.not_false,Bool.and_self,Bool.and_true,Bool.and_false,Bool.true_and,Bool.false_and,if_true,jb,if_false,kr]at sE sB sO
    .apply sR;simp only[go_sem,seval,k0,k1,k2,k6,k7,k8,r1];exact⟨_,by omega,i+1,by omega,rfl,by rw[sE,sB,sO];exact hJ,by simp[k0,k1,k2,k6,k7]⟩
    .apply sR;simp only[go_sem,seval,k0,k1,k2,k6,k7,k8,r1,a7,ce,cb,co,se,sb,so];refine aF λi54 Z54 s54 a54 f54=>?_;obtain⟨idA,Ta,hdv,Us,Sd⟩:=hvb.AH s54;have b7:=(Us i7 (hvb.ke a7 (by simp)) Z54).trans (s54 _ _ a7);have b6:=(Us i6 (hvb.ke a6 (by simp)) Z54).trans (s54 _ _ a6);have gE:=(hve.mono s54).Im (idA:=idA) λj hj n hv=>WU _ _ _ _ (hdv j hj) hv rfl;have gO:=(hvo.mono s54).Im (idA:=idA) λj hj n hv=>Wx _ _ _ _ (hdv j hj) hv rfl;have UF:(B.map vI).length=B.length:=by simp
     have SF:(B.length+1)*9<=140737488355328:=by omega
     simp only[go_sem,seval,k0,k1,k2,k6,k7,k8,Ta,bR a54,UF,SF];refine bn λi55 Z55 s55 a55 f55=>?_;have k55:=(Sd U (aa.refl U) Z54 (hJ.sub.trans s54)).trans s55;have n55:U i55=none:=(hJ.sub.trans s54).none f55;have c7:=s55 _ _ b7;have c6:=s55 _ _ b6;have apE:fT (.own i55 0 (B.length+1)) ve:=fT.new (hve.mono s54) f55;have apO:fT (.own i55 0 (B.length+1)) vo:=fT.new (hvo.mono s54) f55;replace gE:=gE.mono s55;replace gO:=gO.mono s55;simp only[go_sem,seval,k0,k1,k2,k6,k7,k8,c7,ce,cb,co,se,sb,so];have Vd:aP U Z55 3 1 (.own i55 0 (B.length+1)) ((B++[(i:Int)]).map vI):=aP.new (by simp) (by rw[a55,fw];rfl) n55;refine⟨r1,_,by omega,i+1,by omega,rfl,?_,by simp[vI]⟩;rw[sE,sB,sO];exact⟨k55.aL hJ.no,hJ.no,hJ.no6,(ad hJ.ne).trans c6,hJ.ne,_,_,_,aA,gE.cT c7 (by simp),Vd.cT c7 (by simp),gO.cT c7 (by simp),apE,apO⟩
    .apply sR;simp only[go_sem,seval,k0,k1,k2,k6,k7,k8,r1,a7,ce,cb,co,se,sb,so];refine aF λi41 Z41 s41 a41 f41=>?_;have b7:=s41 _ _ a7;have UF:(E.reverse.map vI).length=E.length:=by simp
     have SF:(1+E.length)*9<=140737488355328:=by omega
     simp only[go_sem,seval,k0,k1,k2,k6,k7,k8,b7,ce,cb,co,se,sb,so,zF a41,hve.src s41,UF,SF];refine bn λi44 Z44 s44 a44 f44=>?_;have s4:aa J Z44:=(s41.uL f41).trans s44;have n44:=hJ.sub.none (s41.none f44);have c7:=s4 _ _ a7;have c6:=s4 _ _ a6;simp only[go_sem,seval,k0,k1,k2,k6,k7,k8,c7,ce,cb,co,se,sb,so];have Vd:aP U Z44 3 1 (.own i44 0 (1+E.length)) (((i:Int)::E.reverse).map vI):=aP.new (by simp;omega) a44 n44;have hap:fT vb (.own i44 0 (1+E.length)):=(fT.new hvb (s41.none f44)).symm;have gE:=hve.mono s4;have gB:=hvb.mono s4;have gO:=hvo.mono s4;refine⟨r1,_,by omega,i+1,by omega,rfl,?_,by simp[vI]⟩;rw[sE,sB,sO,List.reverse_append,List.reverse_singleton,List.singleton_append];exact⟨(hJ.sub.trans s4).aL hJ.no,hJ.no,hJ.no6,(ad hJ.ne).trans c6,hJ.ne,_,_,_,aA,Vd.cT c7 (by simp),gB.cT c7 (by simp),gO.cT c7 (by simp),hap,Wx⟩
    .apply sR;simp only[go_sem,seval,k0,k1,k2,k6,k7,k8,r1,a7,ce,cb,co,se,sb,so];refine aF λi41 Z41 s41 a41 f41=>?_;have b7:=s41 _ _ a7;have UF:(O.reverse.map vI).length=O.length:=by simp
     have SF:(1+O.length)*9<=140737488355328:=by omega
     simp only[go_sem,seval,k0,k1,k2,k6,k7,k8,b7,ce,cb,co,se,sb,so,zF a41,hvo.src s41,UF,SF];refine bn λi44 Z44 s44 a44 f44=>?_;have s4:aa J Z44:=(s41.uL f41).trans s44;have n44:=hJ.sub.none (s41.none f44);have c7:=s4 _ _ a7;have c6:=s4 _ _ a6;simp only[go_sem,seval,k0,k1,k2,k6,k7,k8,c7,ce,cb,co,se,sb,so];have Vd:aP U Z44 3 1 (.own i44 0 (1+O.length)) (((i:Int)::O.reverse).map vI):=aP.new (by simp;omega) a44 n44;have hap:fT vb (.own i44 0 (1+O.length)):=(fT.new hvb (s41.none f44)).symm;have gE:=hve.mono s4;have gB:=hvb.mono s4;have gO:=hvo.mono s4;refine⟨r1,_,by omega,i+1,by omega,rfl,?_,by simp[vI]⟩;rw[sE,sB,sO,List.reverse_append,List.reverse_singleton,List.singleton_append];exact⟨(hJ.sub.trans s4).aL hJ.no,hJ.no,hJ.no6,(ad hJ.ne).trans c6,hJ.ne,_,_,_,aA,gE.cT c7 (by simp),gB.cT c7 (by simp),Vd.cT c7 (by simp),WU,hap⟩
   .have q1:(x.kind≠1)=True:=RX Tt;simp only[Tt,false_and,if_false,kr]at sE sB sO;apply sR;simp only[go_sem,seval,k0,k1,k2,k6,k7,k8,Ux,q,Th,Nd.cells,q1,r1];exact⟨_,by omega,i+1,by omega,rfl,by rw[sE,sB,sO];exact hJ,by simp[k0,k1,k2,k6,k7]⟩
  .have q:=qF u';obtain rfl:i=l.length:=by omega
   generalize (jV l pE l.length).reverse=E at*;generalize jV l pB l.length=B at*;generalize (jV l pO l.length).reverse=O at*;have fin:∀(t:Int) (Z1:al),aa U Z1->Z1 i6=some ⟨240,4,[.agg [.bl,.bl,.bl,vI 0]]⟩->aP U Z1 3 1 ve (E.map vI)->aP U Z1 3 1 vb (B.map vI)->aP U Z1 3 1 vo (O.map vI)->
    aD (.agg [ve,vb,vo,vI t]) (C' Z1 i6 ⟨240,4,[.agg [ve,vb,vo,vI t]]⟩) λr Z'=>r=gI ⟨E,B,O,t⟩/\Z'=U:=by
    intro t Z1 h1 h6 g1 g2 g3;have Sg:aa U (C' Z1 i6 ⟨240,4,[.agg [ve,vb,vo,vI t]]⟩):=h1.aL hJ.no6;have p1:=g1.cT (o:=⟨240,4,[.agg [ve,vb,vo,vI t]]⟩) h6 (by simp);have p2:=g2.cT (o:=⟨240,4,[.agg [ve,vb,vo,vI t]]⟩) h6 (by simp);have p3:=g3.cT (o:=⟨240,4,[.agg [ve,vb,vo,vI t]]⟩) h6 (by simp);exact⟨_,U,Sg,Wk.agg (vs':=[aZ E,aZ B,aZ O,vI t]) ⟨p1.wk (aa.refl U) Sg,p2.wk (aa.refl U) Sg,p3.wk (aa.refl U) Sg,Wk.refl Sg _,trivial⟩,rfl,rfl⟩
   have c6:∀o,C' J i7 o i6=some ⟨240,4,[.agg [.bl,.bl,.bl,vI 0]]⟩:=λo=>(ad hJ.ne).trans a6;rcases Nat.eq_zero_or_pos k with rfl|h0
   .have q3:((((0:Nat):Int))>0)=False:=H';rw[aK (by omega)];apply sR;simp only[go_sem,seval,k0,k1,k2,k6,k7,k8,Ux,q,S1,q3,a7,a6,ce,cb,co,se,sb,so,ad hJ.ne,ad hJ.ne.symm];exact fin _ _ hJ.sub a6 hve hvb hvo
   have q3:((k:Int)>0)=True:=RX;by_cases h1:k<of.length
   .have q4:=qT h1;have q5:=ar (m:=((k-1:Nat):Int)) (by omega) (by omega);have q6:((k:Int)-1)=((k-1:Nat):Int):=by omega
    have q7:=λU=>dH (U:=U) h1;have q8:=λU=>dH (U:=U) (l:=of) (i:=k-1) (by omega);have g1:of.getD k 0=of[k]:=by simp[h1]
    have g2:of.getD (k-1) 0=of[k-1]:=by have:k-1<of.length:=by omega
                                        simp[this]
    by_cases h2:of.getD k 0=of.getD (k-1) 0
    .have q9:(of[k]=of[k-1])=True:=RX (by rw[<-g1,<-g2];exact h2);rw[aI ⟨h0,h1,h2⟩,g1];apply sR;simp only[go_sem,seval,k0,k1,k2,k6,k7,k8,Ux,q,S1,q3,q4,q5,q6,q7,q8,q9,a7,a6,c6,ce,cb,co,se,sb,so,ad hJ.ne,ad hJ.ne.symm];exact fin _ _ (hJ.sub.aL hJ.no) (c6 _) (hve.cT a7 (by simp)) (hvb.cT a7 (by simp)) (hvo.cT a7 (by simp))
    .have q9:(of[k]=of[k-1])=False:=H' (by rw[<-g1,<-g2];exact h2);rw[aK (λh=>h2 h.2.2)];apply sR;simp only[go_sem,seval,k0,k1,k2,k6,k7,k8,Ux,q,S1,q3,q4,q5,q6,q7,q8,q9,a7,a6,ce,cb,co,se,sb,so,ad hJ.ne,ad hJ.ne.symm];exact fin _ _ hJ.sub a6 hve hvb hvo
   .have q4:=qF h1;rw[aK (λh=>h1 h.2.1)];apply sR;simp only[go_sem,seval,k0,k1,k2,k6,k7,k8,Ux,q,S1,q3,q4,a7,a6,ce,cb,co,se,sb,so,ad hJ.ne,ad hJ.ne.symm];exact fin _ _ hJ.sub a6 hve hvb hvo
open Go.Proofs
def BZ{L:List Int}{j:Nat}(hj:j<L.length)(h:∀i (h:i<L.length),j<i->¬(L[i]=3\/L[i]=4))(hf:L[j]=3\/L[j]=4):jh L=L[j]:=by
 have hL:L.take j++L[j]::L.drop (j+1)=L:=by rw[<-jt hj,Bb]
 have h2:∀x∈L.drop (j+1),¬(x=3\/x=4):=by
  intro x hx;obtain⟨i,hi,rfl⟩:=List.mem_iff_getElem.1 hx;rw[List.getElem_drop];rw[D5]at hi;exact h _ (by omega) (by omega)
 have e:L.reverse.find? (λn=>decide (n=3\/n=4))=some L[j]:=by
  generalize L[j]=x at*;rw[<-hL,List.reverse_append,List.reverse_cons,mY,List.find?_append,List.find?_eq_none.2 (λy hy=>by simpa using h2 y (E4.1 hy))];simp[hf]
 unfold jh;rw[e]
def Cq{L:List Int}(h:∀i (h:i<L.length),¬(L[i]=3\/L[i]=4)):jh L=if 2∈L then 2 else 0:=by
 have e:L.reverse.find? (λn=>decide (n=3\/n=4))=none:=List.find?_eq_none.2 λy hy=>by
  obtain⟨i,hi,rfl⟩:=List.mem_iff_getElem.1 (E4.1 hy);simpa using h i hi
 unfold jh;rw[e]
def Db{l:List Nd}{of:List Int}(SR:∀x∈of,(0<=x/\x<l.length)/\WX l x.toNat≠1)(k:Nat):(∀b∈(cE l of k).ends,∃n:Nat,b=n/\n<l.length)/\(∀b∈(cE l of k).Uc,∃n:Nat,b=n/\n<l.length)/\∀b∈(cE l of k).both,∃n:Nat,b=n/\n<l.length:=by
 have h0:∀x∈of,0<=x/\x<l.length:=λx hx=>(SR x hx).1;exact⟨oC h0,λb hb=>oC h0 b (E4.1 hb),oC h0⟩
def CI{l:List Nd}(hn:l.length<=2000)(of:List Int)(k:Nat):(cE l of k).ends.length<=100001/\(cE l of k).Uc.length<=100001/\(cE l of k).both.length<=100001:=by
 refine⟨lA (by omega),?_,lA (by omega)⟩;show(Wy l of k _).reverse.length<=_;rw[List.length_reverse];exact lA (by omega)
def A2(l:List Nd)(hb:SA l=true)(hn:l.length<=2000)(of:List Int)(SY:of.length<=1000000)(SR:∀x∈of,(0<=x/\x<l.length)/\WX l x.toNat≠1)(k:Nat)(hk:k<=of.length):
 aX prog 165 [aQ l,aZ of,vI k] (aZ (iu l of k)):=λU=>by
 refine PH.q ?_;have hs:=aa.refl U;have hkc:=Cl l hb hn of SY SR k hk;have S1:=dz of;obtain⟨gE,gB,-⟩:=Db SR k;obtain⟨lE,lB,-⟩:=CI hn of k;unfold iu;refine ay.mix 12 ?_;by_cases he:k=of.length
 .have q:((k:Int)=of.length)=True:=RX;rw[aI he];apply sR;simp only[go_sem,seval,K8,S1,q];exact(aP.start (e:=0) (sz:=1)).nG hs rfl
 .have q:((k:Int)=of.length)=False:=H';rw[aK he];generalize cE l of k=x at*;obtain⟨E,B,C,tx⟩:=x;simp only at gE gB lE lB;have hlE:=dz E;have hlB:=dz B;apply sR;simp only[go_sem,seval,K8,S1,q];refine pS rfl (hkc _) ?_;simp only[go_sem,seval,gI,ag,ak];refine aE hs λi8 Z8 s8 a8 f8 z8 hs=>?_;simp only[go_sem,seval,a8,ag,ak];generalize VC:C' _ i8 _=Y8;replace a8:=Ti VC;replace hs:=Te VC hs z8;refine ay.loop (λm st=>∃i:Nat,i<=E.length/\m=E.length-i/\aa U st.U/\aP U st.U 3 1 (st.s 7) (((E.take i).map λb=>(Uy l b).after).map vI)/\st.U i8=some ⟨240,4,[.agg [aZ E,aZ B,aZ C,vI tx]]⟩/\st.s 0=aQ l/\st.s 8=.ptr i8 0 0/\st.s 9=vI i) E.length ?_ ?_
  .exact⟨0,by omega,rfl,hs,aP.start,a8,rfl,rfl,rfl⟩
  .clear a8 hs;rintro m ⟨S,J⟩ ⟨i,hi,rfl,hs,Sq,a8,k0,k8,k9⟩;simp only at hs Sq a8 k0 k8 k9;generalize Ut:S 7=v7 at Sq;refine ay.mix 12 ?_;by_cases u':i<E.length
   .have q1:=qT u';have SW:=λU=>dH (U:=U) u';obtain⟨n,X8,T9⟩:=gE _ (SU u');have SB:=D1 (l:=l) u';rw[X8]at SW SB;rw[gG T9]at SB;have Th:=λU=>bN (U:=U) (l:=l) (a:=n) T9;have r1:=rI i;have UF:(((E.take i).map λb=>(Uy l b).after).map vI).length=i:=by simp;omega
    have SF:(i+1)*9<=140737488355328:=by omega
    generalize l[n]=nd at*;apply sR;simp only[go_sem,seval,k0,k8,k9,Ut,a8,q1,hlE,SW,Th,Nd.cells,ag];refine aF λi38 Z38 Yc a38 f38=>?_;obtain⟨idA,Ta,hdv,Us,Sd⟩:=Sq.AH Yc;have b8:=(Us i8 (Sq.ke a8 (by simp)) Z38).trans (Yc _ _ a8);simp only[go_sem,seval,Ta,bR a38,UF,SF,k0,k8,k9];refine bn λi39 Z39 s39 a39 f39=>?_;have k39:=(Sd U (aa.refl U) Z38 (hs.trans Yc)).trans s39;have n39:U i39=none:=(hs.trans Yc).none f39;have c8:=s39 _ _ b8;simp only[go_sem,seval,k0,k8,k9,r1,c8];refine⟨_,by omega,i+1,by omega,rfl,k39,?_,by simp[k0,k8,c8]⟩;rw[SB,fw];exact aP.new (by simp;omega) a39 n39
   .have q1:=qF u';obtain rfl:i=E.length:=by omega
    rw[iC]at Sq;apply sR;simp only[go_sem,seval,k0,k8,k9,Ut,a8,q1,hlE,ag];generalize hAE:(E.map λb=>(Uy l b).after)=AE at*;have hAl:AE.length<=100001:=by rw[<-hAE,dO];exact lE
    have SO:zl l ⟨E,B,C,tx⟩=AE++B.flatMap (iG l):=by rw[<-hAE];rfl
    rw[SO];refine ay.loop (λm st=>∃i:Nat,i<=B.length/\m=B.length-i/\aa U st.U/\aP U st.U 3 1 (st.s 7) ((AE++(B.take i).flatMap (iG l)).map vI)/\st.U i8=some ⟨240,4,[.agg [aZ E,aZ B,aZ C,vI tx]]⟩/\st.s 0=aQ l/\st.s 8=.ptr i8 0 0/\st.s 10=vI i) B.length ?_ ?_
    .exact⟨0,by omega,rfl,hs,by rw[List.take_zero,List.flatMap_nil,kr];show aP _ _ _ _ (S 7) _;rw[Ut];exact Sq,a8,k0,k8,rfl⟩
    .clear a8 hs Sq k0 k8 k9 Ut hi;rintro m ⟨S,J⟩ ⟨i,hi,rfl,hs,Sq,a8,k0,k8,Tp⟩;simp only at hs Sq a8 k0 k8 Tp;generalize Ut:S 7=v7 at Sq;refine ay.mix 12 ?_;by_cases u':i<B.length
     .have q1:=qT u';have SW:=λU=>dH (U:=U) u';obtain⟨n,X8,T9⟩:=gB _ (SU u');have SB:=ED (l:=l) u';rw[X8]at SW SB;have Th:=λU=>bN (U:=U) (l:=l) (a:=n) T9;have hbg:iG l (n:Int)=(if 0<l[n].st.head then[2]else[])++[l[n].st.before]:=by unfold iG;rw[gG T9]
      rw[hbg]at SB;have r1:=rI i;have hll:((B.take i).flatMap (iG l)).length<=2*i:=mN (tU _ (AI l) _) (by rw[mf];omega);have UF:((AE++(B.take i).flatMap (iG l)).map vI).length=(AE++(B.take i).flatMap (iG l)).length:=by simp
      have hlb:(AE++(B.take i).flatMap (iG l)).length<=400000:=by rw[kL];omega
      have hRn:AE++(B.take (i+1)).flatMap (iG l)=(AE++(B.take i).flatMap (iG l))++((if 0<l[n].st.head then[2]else[])++[l[n].st.before]):=by rw[SB,mY]
      generalize AE++(B.take i).flatMap (iG l)=R at*;have SF:(R.length+1)*9<=140737488355328:=by omega
      generalize l[n]=nd at*;have TY:=hs;replace hs:=aa.refl J;apply sR;simp only[go_sem,seval,k0,k8,Tp,Ut,a8,q1,hlB,SW,Th,Nd.cells,ag];refine aE hs λi11 Yq Vq Ts f11 YK hs=>?_;obtain⟨n811,a8⟩:=RZ a8 f11 Vq;have hout1:=(Sq.mono Vq)
      by_cases hd:nd.st.head>0
      .have q2:(nd.st.head>0)=True:=RX hd;simp only[go_sem,seval,k0,k8,Tp,Ut,Ts,q2];generalize TD:C' Yq i11 _=Y11;have a11':=(congrFun TD i11).symm.trans aA;have a8':=((congrFun TD i8).symm.trans (ad n811)).trans a8;have Yd:aP U Y11 3 1 v7 (R.map vI):=by rw[<-TD];exact hout1.cT Ts (by simp)
       have TJ:aa U Y11:=by rw[<-TD];exact(TY.trans Vq).aL ((TY.trans (aa.refl J)).none YK)
       clear TD;refine aF λi60 Z60 s60 a60 f60=>?_;obtain⟨idA,Ta,hdv,Us,Sd⟩:=Yd.AH s60;have b8:=(Us i8 (Yd.ke a8' (by simp)) Z60).trans (s60 _ _ a8');have b11:=(Us i11 (Yd.ke a11' (by simp)) Z60).trans (s60 _ _ a11');simp only[go_sem,seval,Ta,bR a60,UF,SF,k0,k8,Tp];refine bn λi61 Z61 s61 a61 f61=>?_;have k61:=(Sd U (aa.refl U) Z60 (TJ.trans s60)).trans s61;have n61:U i61=none:=(TJ.trans s60).none f61;have c8:=s61 _ _ b8;have c11:=s61 _ _ b11;have hout3:aP U Z61 3 1 (.own i61 0 (R.length+1)) ((R++[2]).map vI):=aP.new (by simp) (by rw[a61,fw];rfl) n61;have hlm3:((R++[(2:Int)]).map vI).length=R.length+1:=by simp
       have hb3:(R.length+1+1)*9<=140737488355328:=by omega
       simp only[go_sem,seval,k0,k8,Tp,c11,c8];refine aF λi65 Z65 s65 a65 f65=>?_;obtain⟨idB,hdb,hdvB,hdB1,hdelB⟩:=hout3.AH s65;have d8:=(hdB1 i8 (hout3.ke c8 (by simp)) Z65).trans (s65 _ _ c8);simp only[go_sem,seval,hdb,bR a65,hlm3,hb3,k0,k8,Tp];refine bn λi66 Z66 s66 a66 f66=>?_;have k66:=(hdelB U (aa.refl U) Z65 (k61.trans s65)).trans s66;have n66:U i66=none:=(k61.trans s65).none f66;have e8:=s66 _ _ d8;simp only[go_sem,seval,k0,k8,Tp,r1,e8];refine⟨_,by omega,i+1,by omega,rfl,k66,?_,by simp[k0,k8,e8]⟩;rw[hRn,aI hd];exact aP.new (by simp) (by rw[a66];simp) n66
      .have q2:(nd.st.head>0)=False:=H' hd;simp only[go_sem,seval,k0,k8,Tp,Ut,Ts,q2];generalize TD:C' Yq i11 _=Y11;have a11':=(congrFun TD i11).symm.trans aA;have a8':=((congrFun TD i8).symm.trans (ad n811)).trans a8;have Yd:aP U Y11 3 1 v7 (R.map vI):=by rw[<-TD];exact hout1.cT Ts (by simp)
       have TJ:aa U Y11:=by rw[<-TD];exact(TY.trans Vq).aL ((TY.trans (aa.refl J)).none YK)
       clear TD;refine aF λi65 Z65 s65 a65 f65=>?_;obtain⟨idB,hdb,hdvB,hdB1,hdelB⟩:=Yd.AH s65;have d8:=(hdB1 i8 (Yd.ke a8' (by simp)) Z65).trans (s65 _ _ a8');simp only[go_sem,seval,hdb,bR a65,UF,SF,k0,k8,Tp];refine bn λi66 Z66 s66 a66 f66=>?_;have k66:=(hdelB U (aa.refl U) Z65 (TJ.trans s65)).trans s66;have n66:U i66=none:=(TJ.trans s65).none f66;have e8:=s66 _ _ d8;simp only[go_sem,seval,k0,k8,Tp,r1,e8];refine⟨_,by omega,i+1,by omega,rfl,k66,?_,by simp[k0,k8,e8]⟩;rw[hRn,aK (by omega),lS];exact aP.new (by simp) (by rw[a66];simp) n66
     .have q1:=qF u';obtain rfl:i=B.length:=by omega
      rw[iC]at Sq;apply sR;simp only[go_sem,seval,k0,k8,Tp,Ut,a8,q1,hlB,ag];exact Sq.nG hs rfl
open Go.Proofs
def KE(l:List Nd)(hb:SA l=true)(hn:l.length<=2000)(of:List Int)(SY:of.length<=1000000)(SR:∀x∈of,(0<=x/\x<l.length)/\WX l x.toNat≠1)(k:Nat)(hk:k<=of.length):
 aX prog 136 [aQ l,aZ of,vI k] (vI (ja l of k)):=λU=>by
 refine PD.q ?_;have hs:=aa.refl U;have hac:=A2 l hb hn of SY SR k hk;have hAl:=mq (l:=l) (by omega) of k;unfold ja;rw[wM _ _ rfl];generalize iu l of k=A at*;have hlA:=dz A;have r0:Sn .i64 ((A.length:Int)-1):=ar;refine mS 10 ?_;simp only[go_sem,seval,Og];refine pS rfl (hac _) ?_;simp only[go_sem,seval,hlA,r0];refine ay.loop (λm st=>∃j:Nat,j<=A.length/\m=j/\(∀i (h:i<A.length),j<=i->¬(A[i]=3\/A[i]=4))/\st.U=U/\st.s 7=aZ A/\st.s 8=vI ((j:Int)-1)) A.length ?_ ?_
 .exact⟨A.length,by omega,rfl,λi h h'=>by omega,rfl,rfl,rfl⟩
 .rintro m ⟨S,J⟩ ⟨j,hj,rfl,hz,Su,k7,k8⟩;simp only at Su k7 k8;subst Su;refine ay.mix 10 ?_;rcases Nat.eq_zero_or_pos m with rfl|Ul
  .have q:(((0:Nat):Int)-1>=0)=False:=H';rw[Cq λi h=>hz i h (by omega)];apply sR;simp only[go_sem,seval,k7,k8,q];refine ay.loop (λm st=>∃i:Nat,i<=A.length/\m=A.length-i/\2∉A.take i/\st.U=J/\st.s 7=aZ A/\st.s 9=vI i) A.length ?_ ?_
   .exact⟨0,by omega,rfl,by simp,rfl,k7,rfl⟩
   .clear k7 k8;rintro m ⟨S,U⟩ ⟨i,hi,rfl,hz,Su,k7,k9⟩;simp only at Su k7 k9;subst Su;refine ay.mix 10 ?_;by_cases u':i<A.length
    .have q1:=qT u';have SW:=λU=>dH (U:=U) u';have Vh:A[i]∈A:=SU u';have SB:A.take (i+1)=A.take i++[A[i]]:=Vn u';have r1:=rI i;generalize A[i]=x at*;by_cases hx:x=2
     .have q2:(x=2)=True:=RX hx;rw[aI (by rw[<-hx];exact Vh)];apply sR;simp only[go_sem,seval,k7,k9,q1,hlA,SW,q2];exact aD.pure hs rfl
     .have q2:(x=2)=False:=H' hx;apply sR;simp only[go_sem,seval,k7,k9,q1,hlA,SW,q2,r1];refine⟨_,by omega,i+1,by omega,rfl,?_,by simp[k7,vI]⟩;rw[SB];simp only[gl,kc,not_or];exact⟨hz,λh=>hx h.symm⟩
    .have q1:=qF u';obtain rfl:i=A.length:=by omega
     rw[iC]at hz;rw[aK hz];apply sR;simp only[go_sem,seval,k7,k9,q1,hlA];exact aD.pure hs rfl
  .obtain⟨j,rfl⟩:∃j,m=j+1:=⟨m-1,by omega⟩
   have e1:(((j+1:Nat):Int)-1)=j:=by omega
   rw[e1]at k8;have q:((j:Int)>=0)=True:=RX;have u':j<A.length:=by omega
   have SW:=λU=>dH (U:=U) u';have U7:=BZ u' (λi h h'=>hz i h (by omega));have r1:Sn .i64 ((j:Int)-1):=ar;generalize hx:A[j]=x at*;by_cases h3:x=3
   .have q3:(x=3)=True:=RX h3;rw[U7 (.inl h3)];apply sR;simp only[go_sem,seval,k7,k8,q,SW,q3];exact aD.pure hs rfl
   .have q3:(x=3)=False:=H' h3;by_cases h4:x=4
    .have q4:(x=4)=True:=RX h4;rw[U7 (.inr h4)];apply sR;simp only[go_sem,seval,k7,k8,q,SW,q3,q4];exact aD.pure hs rfl
    .have q4:(x=4)=False:=H' h4;apply sR;simp only[go_sem,seval,k7,k8,q,SW,q3,q4,r1];refine⟨_,by omega,j,by omega,rfl,λi h h'=>?_,by simp[k7,vI]⟩;by_cases e:i=j
     .subst e;rw[hx];omega
     .exact hz i h (by omega)
def tP(f:Nat->Int)(i:Nat):((List.range (i+1)).map f).map vI=((List.range i).map f).map vI++[vI (f i)]:=by
 rw[List.range_succ,fw,fw];rfl
def Iv(l:List Nd)(hb:SA l=true)(hn:l.length<=2000)(of:List Int)(SY:of.length<=1000000)(SR:∀x∈of,(0<=x/\x<l.length)/\WX l x.toNat≠1):
 aX prog 107 [aQ l,aZ of] (aZ (rO l of)):=λU=>by
 refine Qj.q ?_;have hs:=aa.refl U;have hac:=λk hk=>KE l hb hn of SY SR k hk;have S1:=dz of;unfold rO;generalize ja l of=F at*;generalize hX:aZ ((List.range (of.length+1)).map F)=X;refine mS 7 ?_;simp only[go_sem,seval,M1];refine ay.loop (λm st=>∃i:Nat,i<=of.length+1/\m=of.length+1-i/\aa U st.U/\aP U st.U 3 1 (st.s 5) (((List.range i).map F).map vI)/\st.s 0=aQ l/\st.s 1=aZ of/\st.s 6=vI i) (of.length+1) ?_ ?_
 .exact⟨0,by omega,rfl,hs,aP.start,rfl,rfl,rfl⟩
 .clear hs;rintro m ⟨S,J⟩ ⟨i,hi,rfl,hs,Sq,k0,k1,k6⟩;simp only at hs Sq k0 k1 k6;generalize hv5:S 5=v5 at Sq;refine ay.mix 7 ?_;by_cases u':i<=of.length
  .have q:((i:Int)<=of.length)=True:=RX;have r1:=rI i;have UF:(((List.range i).map F).map vI).length=i:=by simp
   have SF:(i+1)*9<=140737488355328:=by omega
   apply sR;simp only[go_sem,seval,k0,k1,k6,hv5,q,S1];refine pS rfl (hac i u' _) ?_;simp only[go_sem,seval,k0,k1,k6,hv5];refine aF λi38 Z38 Yc a38 f38=>?_;obtain⟨idA,Ta,Sd⟩:=Sq.dst Yc;simp only[go_sem,seval,Ta,bR a38,UF,SF,k0,k1,k6];refine bn λi39 Z39 s39 a39 f39=>?_;have k39:=(Sd U (aa.refl U) Z38 (hs.trans Yc)).trans s39;have n39:U i39=none:=(hs.trans Yc).none f39;simp only[go_sem,seval,k0,k1,k6,r1];refine⟨_,by omega,i+1,by omega,rfl,k39,?_,by simp[k0,k1]⟩;rw[tP];exact aP.new (by simp) a39 n39
  .have q:((i:Int)<=of.length)=False:=H';obtain rfl:i=of.length+1:=by omega
   apply sR;simp only[go_sem,seval,k0,k1,k6,hv5,q,S1];exact Sq.nG hs hX
open Go.Proofs
def Hg(l:List Nd)(hb:SA l=true)(hn:l.length<=2000)(of:List Int)(SY:of.length<=1000000)(SR:∀x∈of,(0<=x/\x<l.length)/\WX l x.toNat≠1)(k:Nat)(hk:k<=of.length):
 aX prog 167 [aQ l,aZ of,vI k] (.Sa [vI (jL of (cE l of k).text k).1,vI (jL of (cE l of k).text k).2]):=λU=>by
 refine Rl.q ?_;have hs:=aa.refl U;have hkc:=Cl l hb hn of SY SR k hk;have S1:=dz of;generalize cE l of k=x at*;obtain⟨E,B,C,t⟩:=x;simp only at hkc|-;refine mS 13 ?_;simp only[go_sem,seval,LV];refine pR rfl (hkc _) ?_;unfold jL;by_cases ht:t<0
 .have q:(t<0)=True:=RX ht;rw[aI ht];apply sR;simp only[go_sem,seval,gI,q];exact aD.pure hs rfl
 .have q:(t<0)=False:=H' ht;rw[aK ht];apply sR;simp only[go_sem,seval,gI,q];refine ay.loop (λm st=>∃i:Nat,i<=k/\m=k-i/\st.U=U/\st.s 1=aZ of/\st.s 2=vI k/\st.s 8=vI t/\st.s 9=vI (fZ of t k i).1/\st.s 10=vI 0/\st.s 11=vI i) k ?_ ?_
  .exact⟨0,by omega,rfl,rfl,rfl,rfl,rfl,rfl,rfl,rfl⟩
  .rintro m ⟨S,J⟩ ⟨i,hi,rfl,Su,k1,k2,k8,k9,Tp,T'⟩;simp only at Su k1 k2 k8 k9 Tp T';subst Su;refine ay.mix 13 ?_;by_cases u':i<k
   .have q1:((i:Int)<k)=True:=RX;have Uk:i<of.length:=by omega
    have SW:=λU=>dH (U:=U) Uk;have VK:of.getD i 0=of[i]:=by simp[Uk]
    have Sg:fZ of t k (i+1)=if of.getD i 0=t then if i<k then((fZ of t k i).1+1,(fZ of t k i).2)else((fZ of t k i).1,(fZ of t k i).2+1)else fZ of t k i:=rfl
    rw[VK,aI u']at Sg;have hle:=(tz of t k i).1;have r1:=rI i;have r2:Sn .i64 (((fZ of t k i).1:Int)+1):=ar;generalize of[i]=y at*;by_cases hy:y=t
    .have q2:(y=t)=True:=RX hy;rw[aI hy]at Sg;apply sR;simp only[go_sem,seval,k1,k2,k8,k9,Tp,T',q1,SW,q2,r1,r2];exact⟨_,by omega,i+1,by omega,rfl,by simp[Sg,vI]⟩
    .have q2:(y=t)=False:=H' hy;rw[aK hy]at Sg;apply sR;simp only[go_sem,seval,k1,k2,k8,k9,Tp,T',q1,SW,q2,r1];exact⟨_,by omega,i+1,by omega,rfl,by simp[Sg,vI]⟩
   .have q1:((i:Int)<k)=False:=H';obtain rfl:i=k:=by omega
    have h0:=zO (of:=of) (t:=t) i (SD _);apply sR;simp only[go_sem,seval,k1,k2,k8,k9,Tp,T',q1];refine ay.loop (λm st=>∃j:Nat,i<=j/\j<=of.length/\m=of.length-j/\st.U=J/\st.s 1=aZ of/\st.s 8=vI t/\st.s 9=vI (fZ of t i j).1/\st.s 10=vI (fZ of t i j).2/\st.s 12=vI j) (of.length-i) ?_ ?_
    .exact⟨i,by omega,by omega,rfl,rfl,k1,k8,k9,by rw[h0];exact Tp,rfl⟩
    .clear k1 k2 k8 k9 Tp T';rintro m ⟨S,U⟩ ⟨j,XY,hj,rfl,Su,k1,k8,k9,Tp,Tc⟩;simp only at Su k1 k8 k9 Tp Tc;subst Su;refine ay.mix 13 ?_;by_cases u':j<of.length
     .have q2:=qT u';have SW:=λU=>dH (U:=U) u';have VK:of.getD j 0=of[j]:=by simp[u']
      have Sg:fZ of t i (j+1)=if of.getD j 0=t then if j<i then((fZ of t i j).1+1,(fZ of t i j).2)else((fZ of t i j).1,(fZ of t i j).2+1)else fZ of t i j:=rfl
      rw[VK,aK (show¬j<i by omega)]at Sg;have hle:=(tz of t i j).2;have r1:=rI j;have r2:Sn .i64 (((fZ of t i j).2:Int)+1):=ar;generalize of[j]=y at*;by_cases hy:y=t
      .have q3:(y=t)=True:=RX hy;rw[aI hy]at Sg;apply sR;simp only[go_sem,seval,k1,k8,k9,Tp,Tc,S1,q2,SW,q3,r1,r2];exact⟨_,by omega,j+1,by omega,by omega,rfl,by simp[Sg,vI]⟩
      .have q3:(y=t)=False:=H' hy;rw[aK hy]at Sg;apply sR;simp only[go_sem,seval,k1,k8,k9,Tp,Tc,S1,q2,SW,q3,r1];exact⟨_,by omega,j+1,by omega,by omega,rfl,by simp[Sg,vI]⟩
     .have q2:=qF u';obtain rfl:j=of.length:=by omega
      apply sR;simp only[go_sem,seval,k1,k8,k9,Tp,Tc,S1,q2];exact aD.pure hs rfl
open Go.Proofs
def LF(l:List Nd)(hb:SA l=true)(hn:l.length<=2000)(of:List Int)(SY:of.length<=1000000)(SR:∀x∈of,(0<=x/\x<l.length)/\WX l x.toNat≠1)(k:Nat)(hk:k<=of.length):
 aX prog 137 [aQ l,aZ of,vI k] (vI (mJ l of k)):=λU=>by
 refine Px.q ?_;have hs:=aa.refl U;have hkc:=Cl l hb hn of SY SR k hk;have Zu:=Hg l hb hn of SY SR k hk;have hac:=A2 l hb hn of SY SR k hk;have hAl:=mq (l:=l) (by omega) of k;have S1:=dz of;have Ux:=bT l;obtain⟨-,-,gO⟩:=Db SR k;obtain⟨-,-,lO⟩:=CI hn of k;have htx:=Ap (λx hx=>(SR x hx).1) k;rw[Jr];have hwi:∀b∈(cE l of k).both,0<=(Uy l b).inside/\(Uy l b).inside<=1:=λb UY=>by
  obtain⟨n,rfl,T9⟩:=gO b UY;rw[gG T9];exact(fA hb T9).st.inside
 have hins:=JB hwi;rw[<-hins];have hfw:(if DE l of (cE l of k).text k=true then(1:Int)else 0)=if 0<=(cE l of k).text/\(((jL of (cE l of k).text k).1:Int)<(jI l (cE l of k).text).R9\/((jL of (cE l of k).text k).2:Int)<(jI l (cE l of k).text).Sl)then 1 else 0:=by
  unfold DE;by_cases h:(cE l of k).text<0
  .rw[aI h,aK (by simp),aK (λh'=>by omega)]
  .rw[aK h];simp only[US,show(0<=(cE l of k).text)=True from RX,true_and]
 rw[hfw];have YF:=λ(a:Nat) (ha:a<l.length)=>Bo l (by omega) a ha;have hI:0<=oJ l (cE l of k).both/\oJ l (cE l of k).both<=1:=by rw[hins];split<;>omega
 clear hfw hins;generalize cE l of k=x at*;obtain⟨E,B,O,t⟩:=x;simp only at gO lO htx hwi hkc Zu hI|-;have hlO:=dz O;generalize iu l of k=A at*;have hlA:=dz A;generalize jL of t k=X at*;obtain⟨a,b⟩:=X;simp only at Zu|-;refine ay.mix 19 ?_;by_cases h0:k=0\/k=of.length
 .rw[aI h0];by_cases h1:k=0
  .have q0:((k:Int)=0)=True:=RX;apply sR;simp only[go_sem,seval,Je,q0];exact aD.pure hs rfl
  .have q0:((k:Int)=0)=False:=H';have q1:((k:Int)=of.length)=True:=RX;apply sR;simp only[go_sem,seval,Je,S1,q0,q1];exact aD.pure hs rfl
 rw[aK h0];obtain⟨ANS,hANS⟩:∃z,z=(if 0<=t/\((a:Int)<(jI l t).R9\/(b:Int)<(jI l t).Sl)then(1:Int)else 0)+2*oJ l O+4*(if 1∈A then 1 else 0):=⟨_,rfl⟩
 rw[<-hANS];have q0:((k:Int)=0)=False:=H';have q1:((k:Int)=of.length)=False:=H';apply sR;simp only[go_sem,seval,Je,S1,q0,q1];refine pS rfl (hkc _) ?_;simp only[go_sem,seval,gI,ag,ak];refine aE hs λi7 Z7 s7 a7 f7 z7 hs=>?_;by_cases ht:t<0
 case' pos=>
  have q2:(t>=0)=False:=H';generalize W2:jI l t=sd at*;obtain⟨sm,Xp⟩:∃sm:Int,sm=0:=⟨0,rfl⟩
  have fI:(if 0<=t/\((a:Int)<sd.R9\/(b:Int)<sd.Sl)then(1:Int)else 0)=sm:=by rw[Xp,aK (λh=>by omega)]
  simp only[go_sem,seval,a7,ag,ak,q2];generalize Wo:C' _ i7 _=Y7;replace a7:=Ti Wo;replace hs:=Te Wo hs z7
 case' neg=>
  have q2:(t>=0)=True:=RX;obtain⟨n,hnt⟩:∃n:Nat,t=n:=⟨t.toNat,by omega⟩
  have hpn:=YF n (by omega);have hpr:=ez l n;have U9:jI l t=if 0<=dq l n then Uy l (dq l n)else pC:=by unfold jI;rw[hnt];rfl
  rw[<-hnt]at hpn;simp only[go_sem,seval,a7,ag,ak,q2];generalize Wo:C' _ i7 _=Y7;replace a7:=Ti Wo;replace hs:=Te Wo hs z7;apply sR;simp only[go_sem,seval,a7];refine pR rfl (hpn _) ?_;generalize dq l n=pr at*;rcases Decidable.em (pr>=0)with hp|hp
  case' inl=>
   have q3:(pr>=0)=True:=RX hp;obtain⟨m,rfl⟩:∃m:Nat,pr=m:=⟨pr.toNat,by omega⟩
   have hml:m<l.length:=by omega
   have Th:=λU=>bN (U:=U) (l:=l) (a:=m) hml;rw[show jI l t=l[m].st by rw[U9,aI (by omega),gG hml]]at hANS;apply sR;simp only[go_sem,seval,a7,q3,Th,Nd.cells];generalize l[m].st=sd at*;refine pR rfl (Zu _) ?_;by_cases ha:(a:Int)<sd.R9
   case' pos=>
    have q4:((a:Int)<sd.R9)=True:=RX ha;obtain⟨sm,Xp⟩:∃sm:Int,sm=1:=⟨1,rfl⟩
    have fI:(if 0<=t/\((a:Int)<sd.R9\/(b:Int)<sd.Sl)then(1:Int)else 0)=sm:=by rw[Xp];exact aI ⟨by omega,.inl ha⟩
    apply sR;simp only[go_sem,seval,a7,ag,ak,q4]
   case' neg=>
    have q4:((a:Int)<sd.R9)=False:=H' ha;by_cases hbw:(b:Int)<sd.Sl
    case' pos=>
     have q5:((b:Int)<sd.Sl)=True:=RX hbw;obtain⟨sm,Xp⟩:∃sm:Int,sm=1:=⟨1,rfl⟩
     have fI:(if 0<=t/\((a:Int)<sd.R9\/(b:Int)<sd.Sl)then(1:Int)else 0)=sm:=by rw[Xp];exact aI ⟨by omega,.inr hbw⟩
     apply sR;simp only[go_sem,seval,a7,ag,ak,q4,q5]
    case' neg=>
     have q5:((b:Int)<sd.Sl)=False:=H' hbw;obtain⟨sm,Xp⟩:∃sm:Int,sm=0:=⟨0,rfl⟩
     have fI:(if 0<=t/\((a:Int)<sd.R9\/(b:Int)<sd.Sl)then(1:Int)else 0)=sm:=by rw[Xp];exact aK (λh=>by omega)
     apply sR;simp only[go_sem,seval,a7,ag,ak,q4,q5]
  case' inr=>
   have q3:(pr>=0)=False:=H' hp;rw[show jI l t=pC by rw[U9,aK (by omega)]]at hANS;generalize W2:pC=sd at hANS;have e1:sd.R9=2:=by rw[<-W2];rfl
   have e2:sd.Sl=2:=by rw[<-W2];rfl
   apply sR;simp only[go_sem,seval,a7,q3];refine pR rfl (Zu _) ?_;by_cases ha:(a:Int)<sd.R9
   case' pos=>
    have q4:((a:Int)<2)=True:=RX;obtain⟨sm,Xp⟩:∃sm:Int,sm=1:=⟨1,rfl⟩
    have fI:(if 0<=t/\((a:Int)<sd.R9\/(b:Int)<sd.Sl)then(1:Int)else 0)=sm:=by rw[Xp];exact aI ⟨by omega,.inl ha⟩
    apply sR;simp only[go_sem,seval,a7,ag,ak,q4]
   case' neg=>
    have q4:((a:Int)<2)=False:=H';by_cases hbw:(b:Int)<sd.Sl
    case' pos=>
     have q5:((b:Int)<2)=True:=RX;obtain⟨sm,Xp⟩:∃sm:Int,sm=1:=⟨1,rfl⟩
     have fI:(if 0<=t/\((a:Int)<sd.R9\/(b:Int)<sd.Sl)then(1:Int)else 0)=sm:=by rw[Xp];exact aI ⟨by omega,.inr hbw⟩
     apply sR;simp only[go_sem,seval,a7,ag,ak,q4,q5]
    case' neg=>
     have q5:((b:Int)<2)=False:=H';obtain⟨sm,Xp⟩:∃sm:Int,sm=0:=⟨0,rfl⟩
     have fI:(if 0<=t/\((a:Int)<sd.R9\/(b:Int)<sd.Sl)then(1:Int)else 0)=sm:=by rw[Xp];exact aK (λh=>by omega)
     apply sR;simp only[go_sem,seval,a7,ag,ak,q4,q5]
 all_goals
  clear Zu;rw[fI]at hANS;clear fI;have hsm1:0<=sm/\sm<=1:=by omega
  refine ay.loop (λm st=>∃i:Nat,i<=O.length/\m=O.length-i/\aa U st.U/\st.U i7=some ⟨240,4,[.agg [aZ E,aZ B,aZ O,vI t]]⟩/\st.s 0=aQ l/\st.s 1=aZ of/\st.s 2=vI k/\st.s 7=.ptr i7 0 0/\st.s 8=vI sm/\st.s 14=vI (oJ l (O.take i))/\st.s 15=vI i) O.length ?_ ?_
  .exact⟨0,by omega,rfl,hs,a7,rfl,rfl,rfl,rfl,by rw[Xp];rfl,rfl,rfl⟩
  .clear hs a7;rintro m ⟨S,J⟩ ⟨i,hi,rfl,hs,a7,k0,k1,k2,k7,k8,VN,k15⟩;simp only at hs a7 k0 k1 k2 k7 k8 VN k15;refine ay.mix 19 ?_;by_cases u':i<O.length
   .have u1:=qT u';have SW:=λU=>dH (U:=U) u';obtain⟨n,X8,T9⟩:=gO _ (SU u');have SB:=DM (l:=l) u';rw[X8]at SW SB;rw[gG T9]at SB;have Th:=λU=>bN (U:=U) (l:=l) (a:=n) T9;have r1:=rI i;generalize l[n]=nd at*;apply sR;simp only[go_sem,seval,k0,k1,k2,k7,k8,VN,k15,a7,u1,hlO,SW,Th,Nd.cells,ag,cj,r1];exact⟨_,by omega,i+1,by omega,rfl,hs,by simp[k0,k1,k2,k7,k8,a7,SB,vI]⟩
   .have u1:=qF u';obtain rfl:i=O.length:=by omega
    rw[iC]at VN;apply sR;simp only[go_sem,seval,k0,k1,k2,k7,k8,VN,k15,a7,u1,hlO,ag];refine pS rfl (hac _) ?_;simp only[go_sem,seval];refine ay.loop (λm st=>∃i:Nat,i<=A.length/\m=A.length-i/\aa U st.U/\st.s 8=vI sm/\st.s 14=vI (oJ l O)/\st.s 16=vI (uB (A.take i))/\st.s 17=aZ A/\st.s 18=vI i) A.length ?_ ?_
    .exact⟨0,by omega,rfl,hs,k8,VN,rfl,rfl,rfl⟩
    .clear hs k0 k1 k2 k7 k8 VN k15 hi hac;rintro m ⟨S,J⟩ ⟨i,hi,rfl,hs,k8,VN,k16,k17,k18⟩;simp only at hs k8 VN k16 k17 k18;refine ay.mix 19 ?_;by_cases u':i<A.length
     .have u1:=qT u';have SW:=λU=>dH (U:=U) u';have SB:=DS u';have r1:=rI i;generalize A[i]=y at*;by_cases hy:y=1
      .have u2:(y=1)=True:=RX hy;rw[aI hy]at SB;apply sR;simp only[go_sem,seval,k8,VN,k16,k17,k18,u1,hlA,SW,u2,r1];exact⟨_,by omega,i+1,by omega,rfl,hs,by simp[k8,VN,k17,SB,vI]⟩
      .have u2:(y=1)=False:=H' hy;rw[aK hy]at SB;apply sR;simp only[go_sem,seval,k8,VN,k16,k17,k18,u1,hlA,SW,u2,r1];exact⟨_,by omega,i+1,by omega,rfl,hs,by simp[k8,VN,k16,k17,SB,vI]⟩
     .have u1:=qF u';obtain rfl:i=A.length:=by omega
      rw[iC]at k16;have hh:uB A=0\/uB A=1:=by unfold uB;split<;>simp
      rw[show(if 1∈A then(1:Int)else 0)=uB A from rfl]at hANS;have r1:Sn .i64 (2*oJ l O):=ar;have r2:Sn .i64 (sm+2*oJ l O):=ar;have r3:Sn .i64 (4*uB A):=ar;have r4:Sn .i64 (sm+2*oJ l O+4*uB A):=ar;generalize uB A=q at*;generalize oJ l O=w at*;apply sR;simp only[go_sem,seval,k8,VN,k16,k17,k18,u1,hlA,r1,r2,r3,r4];exact aD.pure hs (by rw[hANS])
open Go.Proofs
def HP(l:List Nd)(hb:SA l=true)(hn:l.length<=2000)(of:List Int)(SY:of.length<=1000000)(SR:∀x∈of,(0<=x/\x<l.length)/\WX l x.toNat≠1):
 aX prog 108 [aQ l,aZ of] (aZ (rT l of)):=λU=>by
 refine RO.q ?_;have hs:=aa.refl U;have hac:=λk hk=>LF l hb hn of SY SR k hk;have S1:=dz of;unfold rT;generalize mJ l of=F at*;generalize hX:aZ ((List.range (of.length+1)).map F)=X;refine mS 7 ?_;simp only[go_sem,seval,L7];refine ay.loop (λm st=>∃i:Nat,i<=of.length+1/\m=of.length+1-i/\aa U st.U/\aP U st.U 3 1 (st.s 5) (((List.range i).map F).map vI)/\st.s 0=aQ l/\st.s 1=aZ of/\st.s 6=vI i) (of.length+1) ?_ ?_
 .exact⟨0,by omega,rfl,hs,aP.start,rfl,rfl,rfl⟩
 .clear hs;rintro m ⟨S,J⟩ ⟨i,hi,rfl,hs,Sq,k0,k1,k6⟩;simp only at hs Sq k0 k1 k6;generalize hv5:S 5=v5 at Sq;refine ay.mix 7 ?_;by_cases u':i<=of.length
  .have q:((i:Int)<=of.length)=True:=RX;have r1:=rI i;have UF:(((List.range i).map F).map vI).length=i:=by simp
   have SF:(i+1)*9<=140737488355328:=by omega
   apply sR;simp only[go_sem,seval,k0,k1,k6,hv5,q,S1];refine pS rfl (hac i u' _) ?_;simp only[go_sem,seval,k0,k1,k6,hv5];refine aF λi38 Z38 Yc a38 f38=>?_;obtain⟨idA,Ta,Sd⟩:=Sq.dst Yc;simp only[go_sem,seval,Ta,bR a38,UF,SF,k0,k1,k6];refine bn λi39 Z39 s39 a39 f39=>?_;have k39:=(Sd U (aa.refl U) Z38 (hs.trans Yc)).trans s39;have n39:U i39=none:=(hs.trans Yc).none f39;simp only[go_sem,seval,k0,k1,k6,r1];refine⟨_,by omega,i+1,by omega,rfl,k39,?_,by simp[k0,k1]⟩;rw[tP];exact aP.new (by simp) a39 n39
  .have q:((i:Int)<=of.length)=False:=H';obtain rfl:i=of.length+1:=by omega
   apply sR;simp only[go_sem,seval,k0,k1,k6,hv5,q,S1];exact Sq.nG hs hX
def HU(l:List Nd)(hb:SA l=true)(hn:l.length<=2000)(of:List Int)(SY:of.length<=1000000)(SR:∀x∈of,(0<=x/\x<l.length)/\WX l x.toNat≠1):
 aX prog 72 [aQ l,aZ of] (dv (pD l of)):=λU=>by
 refine e72.q ?_;have hs:=aa.refl U;have hfc:=Iv l hb hn of SY SR;have hrc:=HP l hb hn of SY SR;have S1:=dz of;have hbkR:∀k,Vx l of k=⟨dC of k,ja l of k,if ja l of k=0 then mJ l of k else 0⟩:=λ_=>rfl;unfold rO at hfc;unfold rT at hrc;generalize hX:dv (pD l of)=X;generalize ja l of=F at*;generalize mJ l of=R at*;refine mS 10 ?_;simp only[go_sem,seval,c72];refine pS rfl (hfc _) ?_;simp only[go_sem,seval];refine pS rfl (hrc _) ?_;simp only[go_sem,seval];clear hfc hrc;obtain⟨vF,hvF⟩:∃v,v=aZ ((List.range (of.length+1)).map F):=⟨_,rfl⟩
 obtain⟨vR,hvR⟩:∃v,v=aZ ((List.range (of.length+1)).map R):=⟨_,rfl⟩
 have hi5:∀j:Nat,j<of.length+1->∀U,bI U 1 vF (.int .i64 j)=some (.rp (vI (F j))):=λj h U=>by rw[hvF];exact C2 h
 have hi6:∀j:Nat,j<of.length+1->∀U,bI U 1 vR (.int .i64 j)=some (.rp (vI (R j))):=λj h U=>by rw[hvR];exact C2 h
 refine ay.loop (λm st=>∃j:Nat,j<=of.length+1/\m=of.length+1-j/\aa U st.U/\aP U st.U 77 3 (st.s 7) (((List.range j).map (Vx l of)).map dy)/\st.s 0=aQ l/\st.s 1=aZ of/\st.s 5=vF/\st.s 6=vR/\st.s 8=vI j) (of.length+1) ?_ ?_
 .exact⟨0,by omega,rfl,hs,aP.start,rfl,rfl,by rw[hvF,List.range_succ];rfl,by rw[hvR,List.range_succ];rfl,rfl⟩
 .clear hs hvF hvR;rintro m ⟨S,J⟩ ⟨j,hj,rfl,hs,Sq,t0,t1,t5,t6,t8⟩;simp only at hs Sq t0 t1 t5 t6 t8;generalize Ut:S 7=v7 at Sq;refine ay.mix 10 ?_;by_cases u':j<=of.length
  .have q:((j:Int)<=of.length)=True:=RX;have r1:=rI j;have Sx:(((List.range (j+1)).map (Vx l of)).map dy)=(((List.range j).map (Vx l of)).map dy)++[dy (Vx l of j)]:=by
    rw[List.range_succ];simp
   have UF:(((List.range j).map (Vx l of)).map dy).length=j:=by simp
   replace hi5:=hi5 j (by omega);replace hi6:=hi6 j (by omega);generalize ((List.range j).map (Vx l of)).map dy=rows at*;have TY:=hs;replace hs:=aa.refl J;apply sR;simp only[go_sem,seval,t0,t1,t5,t6,Ut,t8,S1,q,hi5,hi6];refine xd hs λi9 Y9 s9 a9 f9 z9 hs=>?_;by_cases hz:F j=0
   .have q2:(F j≠0)=False:=H' (λh=>h hz);have Xk:dy (Vx l of j)=.agg [vI (dC of j),vI (F j),vI (R j)]:=by rw[hbkR,aI hz];rfl
    rcases(show(j=0/\of.length=0)\/(j=0/\of.length≠0)\/(0<j/\j=of.length)\/(0<j/\j<of.length/\of.getD (j-1) 0=of.getD j 0)\/(0<j/\j<of.length/\of.getD (j-1) 0≠of.getD j 0) by
     by_cases e:of.getD (j-1) 0=of.getD j 0<;>simp only[e,ne_eq,not_true,not_false_eq_true,and_true,and_false]<;>omega)with⟨g1,g2⟩|⟨g1,g2⟩|⟨g1,g2⟩|⟨g1,g2,g3⟩|⟨g1,g2,g3⟩
    .have w1:((j:Int)>0)=False:=H';have w2:((j:Int)<of.length)=False:=H';have w3:((j:Int)=of.length)=True:=RX;have w4:((j:Int)=0)=True:=RX;have Vy:dy (Vx l of j)=.agg [vI 0,vI (F j),vI (R j)]:=by rw[Xk,show dC of j=0 by rw[dC,aI g1]]
     simp only[go_sem,seval,a9,t0,t1,t5,t6,Ut,t8,hi5,hi6,S1,q2,w1,w2,w3,w4];generalize Tb:C' _ i9 _=Z9;have UW:aa J Z9:=by rw[<-Tb];exact s9.aL f9
     clear Tb;refine aF λi58 Xg Ur Xh f58=>?_;obtain⟨idA,Ta,Sd,Us,Wn⟩:=Sq.nM (UW.trans Ur);have SF:(rows.length+1)*25<=140737488355328:=by omega
     simp only[go_sem,seval,t0,t1,t5,t6,Ut,t8,Ta,bR Xh,SF];refine bn λi59 Z59 Xi a59 f59=>?_;have Xj:=(Sd U (aa.refl _) Xg (TY.trans (UW.trans Ur))).trans Xi;have Wz:U i59=none:=(TY.trans (UW.trans Ur)).none f59;simp only[go_sem,seval,t0,t1,t5,t6,t8,r1];refine⟨_,?_,j+1,by omega,rfl,Xj,?_,by simp[t0,t1,t5,t6]⟩
     .omega
     .rw[Sx,Vy];exact aP.new (by simp) a59 Wz
    .have w1:((j:Int)>0)=False:=H';have w2:((j:Int)<of.length)=True:=RX;have w3:((j:Int)=of.length)=False:=H';have w4:((j:Int)=0)=True:=RX;have Vy:dy (Vx l of j)=.agg [vI 0,vI (F j),vI (R j)]:=by rw[Xk,show dC of j=0 by rw[dC,aI g1]]
     simp only[go_sem,seval,a9,t0,t1,t5,t6,Ut,t8,hi5,hi6,S1,q2,w1,w2,w3,w4];generalize Tb:C' _ i9 _=Z9;have UW:aa J Z9:=by rw[<-Tb];exact s9.aL f9
     clear Tb;refine aF λi58 Xg Ur Xh f58=>?_;obtain⟨idA,Ta,Sd,Us,Wn⟩:=Sq.nM (UW.trans Ur);have SF:(rows.length+1)*25<=140737488355328:=by omega
     simp only[go_sem,seval,t0,t1,t5,t6,Ut,t8,Ta,bR Xh,SF];refine bn λi59 Z59 Xi a59 f59=>?_;have Xj:=(Sd U (aa.refl _) Xg (TY.trans (UW.trans Ur))).trans Xi;have Wz:U i59=none:=(TY.trans (UW.trans Ur)).none f59;simp only[go_sem,seval,t0,t1,t5,t6,t8,r1];refine⟨_,?_,j+1,by omega,rfl,Xj,?_,by simp[t0,t1,t5,t6]⟩
     .omega
     .rw[Sx,Vy];exact aP.new (by simp) a59 Wz
    .have w1:((j:Int)>0)=True:=RX;have w2:((j:Int)<of.length)=False:=H';have w3:((j:Int)=of.length)=True:=RX;have w4:((j:Int)=0)=False:=H';have Vy:dy (Vx l of j)=.agg [vI 3,vI (F j),vI (R j)]:=by rw[Xk,show dC of j=3 by rw[dC,aK (by omega),aI g2]]
     simp only[go_sem,seval,a9,t0,t1,t5,t6,Ut,t8,hi5,hi6,S1,q2,w1,w2,w3,w4];generalize Tb:C' _ i9 _=Z9;have UW:aa J Z9:=by rw[<-Tb];exact s9.aL f9
     clear Tb;refine aF λi58 Xg Ur Xh f58=>?_;obtain⟨idA,Ta,Sd,Us,Wn⟩:=Sq.nM (UW.trans Ur);have SF:(rows.length+1)*25<=140737488355328:=by omega
     simp only[go_sem,seval,t0,t1,t5,t6,Ut,t8,Ta,bR Xh,SF];refine bn λi59 Z59 Xi a59 f59=>?_;have Xj:=(Sd U (aa.refl _) Xg (TY.trans (UW.trans Ur))).trans Xi;have Wz:U i59=none:=(TY.trans (UW.trans Ur)).none f59;simp only[go_sem,seval,t0,t1,t5,t6,t8,r1];refine⟨_,?_,j+1,by omega,rfl,Xj,?_,by simp[t0,t1,t5,t6]⟩
     .omega
     .rw[Sx,Vy];exact aP.new (by simp) a59 Wz
    .have w1:((j:Int)>0)=True:=RX;have w2:((j:Int)<of.length)=True:=RX;have w3:((j:Int)=of.length)=False:=H';have w4:((j:Int)=0)=False:=H';have x1:=λU=>dH (U:=U) (l:=of) (i:=j-1) (by omega);have x2:=λU=>dH (U:=U) g2;have x3:((j:Int)-1)=((j-1:Nat):Int):=by omega
     have x4:=ar (m:=((j-1:Nat):Int)) (by omega) (by omega);have e1:of.getD j 0=of[j]:=by simp[g2]
     have e2:of.getD (j-1) 0=of[j-1]:=by have:j-1<of.length:=by omega
                                         simp[this]
     have w5:(of[j-1]=of[j])=True:=RX (by rw[<-e1,<-e2];exact g3);have Vy:dy (Vx l of j)=.agg [vI 2,vI (F j),vI (R j)]:=by rw[Xk,show dC of j=2 by rw[dC,aK (by omega),aK (by omega),aI g3.symm]]
     simp only[go_sem,seval,a9,t0,t1,t5,t6,Ut,t8,hi5,hi6,S1,q2,w1,w2,w3,w4,x1,x2,x3,x4,w5];generalize Tb:C' _ i9 _=Z9;have UW:aa J Z9:=by rw[<-Tb];exact s9.aL f9
     clear Tb;refine aF λi58 Xg Ur Xh f58=>?_;obtain⟨idA,Ta,Sd,Us,Wn⟩:=Sq.nM (UW.trans Ur);have SF:(rows.length+1)*25<=140737488355328:=by omega
     simp only[go_sem,seval,t0,t1,t5,t6,Ut,t8,Ta,bR Xh,SF];refine bn λi59 Z59 Xi a59 f59=>?_;have Xj:=(Sd U (aa.refl _) Xg (TY.trans (UW.trans Ur))).trans Xi;have Wz:U i59=none:=(TY.trans (UW.trans Ur)).none f59;simp only[go_sem,seval,t0,t1,t5,t6,t8,r1];refine⟨_,?_,j+1,by omega,rfl,Xj,?_,by simp[t0,t1,t5,t6]⟩
     .omega
     .rw[Sx,Vy];exact aP.new (by simp) a59 Wz
    .have w1:((j:Int)>0)=True:=RX;have w2:((j:Int)<of.length)=True:=RX;have w3:((j:Int)=of.length)=False:=H';have w4:((j:Int)=0)=False:=H';have x1:=λU=>dH (U:=U) (l:=of) (i:=j-1) (by omega);have x2:=λU=>dH (U:=U) g2;have x3:((j:Int)-1)=((j-1:Nat):Int):=by omega
     have x4:=ar (m:=((j-1:Nat):Int)) (by omega) (by omega);have e1:of.getD j 0=of[j]:=by simp[g2]
     have e2:of.getD (j-1) 0=of[j-1]:=by have:j-1<of.length:=by omega
                                         simp[this]
     have w5:(of[j-1]=of[j])=False:=H' (by rw[<-e1,<-e2];exact g3);have Vy:dy (Vx l of j)=.agg [vI 1,vI (F j),vI (R j)]:=by rw[Xk,show dC of j=1 by rw[dC,aK (by omega),aK (by omega),aK (λh=>g3 h.symm)]]
     simp only[go_sem,seval,a9,t0,t1,t5,t6,Ut,t8,hi5,hi6,S1,q2,w1,w2,w3,w4,x1,x2,x3,x4,w5];generalize Tb:C' _ i9 _=Z9;have UW:aa J Z9:=by rw[<-Tb];exact s9.aL f9
     clear Tb;refine aF λi58 Xg Ur Xh f58=>?_;obtain⟨idA,Ta,Sd,Us,Wn⟩:=Sq.nM (UW.trans Ur);have SF:(rows.length+1)*25<=140737488355328:=by omega
     simp only[go_sem,seval,t0,t1,t5,t6,Ut,t8,Ta,bR Xh,SF];refine bn λi59 Z59 Xi a59 f59=>?_;have Xj:=(Sd U (aa.refl _) Xg (TY.trans (UW.trans Ur))).trans Xi;have Wz:U i59=none:=(TY.trans (UW.trans Ur)).none f59;simp only[go_sem,seval,t0,t1,t5,t6,t8,r1];refine⟨_,?_,j+1,by omega,rfl,Xj,?_,by simp[t0,t1,t5,t6]⟩
     .omega
     .rw[Sx,Vy];exact aP.new (by simp) a59 Wz
   .have q2:(F j≠0)=True:=RX hz;have Xk:dy (Vx l of j)=.agg [vI (dC of j),vI (F j),vI (0)]:=by rw[hbkR,aK hz];rfl
    rcases(show(j=0/\of.length=0)\/(j=0/\of.length≠0)\/(0<j/\j=of.length)\/(0<j/\j<of.length/\of.getD (j-1) 0=of.getD j 0)\/(0<j/\j<of.length/\of.getD (j-1) 0≠of.getD j 0) by
     by_cases e:of.getD (j-1) 0=of.getD j 0<;>simp only[e,ne_eq,not_true,not_false_eq_true,and_true,and_false]<;>omega)with⟨g1,g2⟩|⟨g1,g2⟩|⟨g1,g2⟩|⟨g1,g2,g3⟩|⟨g1,g2,g3⟩
    .have w1:((j:Int)>0)=False:=H';have w2:((j:Int)<of.length)=False:=H';have w3:((j:Int)=of.length)=True:=RX;have w4:((j:Int)=0)=True:=RX;have Vy:dy (Vx l of j)=.agg [vI 0,vI (F j),vI (0)]:=by rw[Xk,show dC of j=0 by rw[dC,aI g1]]
     simp only[go_sem,seval,a9,t0,t1,t5,t6,Ut,t8,hi5,hi6,S1,q2,w1,w2,w3,w4];generalize Tb:C' _ i9 _=Z9;have UW:aa J Z9:=by rw[<-Tb];exact s9.aL f9
     clear Tb;refine aF λi58 Xg Ur Xh f58=>?_;obtain⟨idA,Ta,Sd,Us,Wn⟩:=Sq.nM (UW.trans Ur);have SF:(rows.length+1)*25<=140737488355328:=by omega
     simp only[go_sem,seval,t0,t1,t5,t6,Ut,t8,Ta,bR Xh,SF];refine bn λi59 Z59 Xi a59 f59=>?_;have Xj:=(Sd U (aa.refl _) Xg (TY.trans (UW.trans Ur))).trans Xi;have Wz:U i59=none:=(TY.trans (UW.trans Ur)).none f59;simp only[go_sem,seval,t0,t1,t5,t6,t8,r1];refine⟨_,?_,j+1,by omega,rfl,Xj,?_,by simp[t0,t1,t5,t6]⟩
     .omega
     .rw[Sx,Vy];exact aP.new (by simp) a59 Wz
    .have w1:((j:Int)>0)=False:=H';have w2:((j:Int)<of.length)=True:=RX;have w3:((j:Int)=of.length)=False:=H';have w4:((j:Int)=0)=True:=RX;have Vy:dy (Vx l of j)=.agg [vI 0,vI (F j),vI (0)]:=by rw[Xk,show dC of j=0 by rw[dC,aI g1]]
     simp only[go_sem,seval,a9,t0,t1,t5,t6,Ut,t8,hi5,hi6,S1,q2,w1,w2,w3,w4];generalize Tb:C' _ i9 _=Z9;have UW:aa J Z9:=by rw[<-Tb];exact s9.aL f9
     clear Tb;refine aF λi58 Xg Ur Xh f58=>?_;obtain⟨idA,Ta,Sd,Us,Wn⟩:=Sq.nM (UW.trans Ur);have SF:(rows.length+1)*25<=140737488355328:=by omega
     simp only[go_sem,seval,t0,t1,t5,t6,Ut,t8,Ta,bR Xh,SF];refine bn λi59 Z59 Xi a59 f59=>?_;have Xj:=(Sd U (aa.refl _) Xg (TY.trans (UW.trans Ur))).trans Xi;have Wz:U i59=none:=(TY.trans (UW.trans Ur)).none f59;simp only[go_sem,seval,t0,t1,t5,t6,t8,r1];refine⟨_,?_,j+1,by omega,rfl,Xj,?_,by simp[t0,t1,t5,t6]⟩
     .omega
     .rw[Sx,Vy];exact aP.new (by simp) a59 Wz
    .have w1:((j:Int)>0)=True:=RX;have w2:((j:Int)<of.length)=False:=H';have w3:((j:Int)=of.length)=True:=RX;have w4:((j:Int)=0)=False:=H';have Vy:dy (Vx l of j)=.agg [vI 3,vI (F j),vI (0)]:=by rw[Xk,show dC of j=3 by rw[dC,aK (by omega),aI g2]]
     simp only[go_sem,seval,a9,t0,t1,t5,t6,Ut,t8,hi5,hi6,S1,q2,w1,w2,w3,w4];generalize Tb:C' _ i9 _=Z9;have UW:aa J Z9:=by rw[<-Tb];exact s9.aL f9
     clear Tb;refine aF λi58 Xg Ur Xh f58=>?_;obtain⟨idA,Ta,Sd,Us,Wn⟩:=Sq.nM (UW.trans Ur);have SF:(rows.length+1)*25<=140737488355328:=by omega
     simp only[go_sem,seval,t0,t1,t5,t6,Ut,t8,Ta,bR Xh,SF];refine bn λi59 Z59 Xi a59 f59=>?_;have Xj:=(Sd U (aa.refl _) Xg (TY.trans (UW.trans Ur))).trans Xi;have Wz:U i59=none:=(TY.trans (UW.trans Ur)).none f59;simp only[go_sem,seval,t0,t1,t5,t6,t8,r1];refine⟨_,?_,j+1,by omega,rfl,Xj,?_,by simp[t0,t1,t5,t6]⟩
     .omega
     .rw[Sx,Vy];exact aP.new (by simp) a59 Wz
    .have w1:((j:Int)>0)=True:=RX;have w2:((j:Int)<of.length)=True:=RX;have w3:((j:Int)=of.length)=False:=H';have w4:((j:Int)=0)=False:=H';have x1:=λU=>dH (U:=U) (l:=of) (i:=j-1) (by omega);have x2:=λU=>dH (U:=U) g2;have x3:((j:Int)-1)=((j-1:Nat):Int):=by omega
     have x4:=ar (m:=((j-1:Nat):Int)) (by omega) (by omega);have e1:of.getD j 0=of[j]:=by simp[g2]
     have e2:of.getD (j-1) 0=of[j-1]:=by have:j-1<of.length:=by omega
                                         simp[this]
     have w5:(of[j-1]=of[j])=True:=RX (by rw[<-e1,<-e2];exact g3);have Vy:dy (Vx l of j)=.agg [vI 2,vI (F j),vI (0)]:=by rw[Xk,show dC of j=2 by rw[dC,aK (by omega),aK (by omega),aI g3.symm]]
     simp only[go_sem,seval,a9,t0,t1,t5,t6,Ut,t8,hi5,hi6,S1,q2,w1,w2,w3,w4,x1,x2,x3,x4,w5];generalize Tb:C' _ i9 _=Z9;have UW:aa J Z9:=by rw[<-Tb];exact s9.aL f9
     clear Tb;refine aF λi58 Xg Ur Xh f58=>?_;obtain⟨idA,Ta,Sd,Us,Wn⟩:=Sq.nM (UW.trans Ur);have SF:(rows.length+1)*25<=140737488355328:=by omega
     simp only[go_sem,seval,t0,t1,t5,t6,Ut,t8,Ta,bR Xh,SF];refine bn λi59 Z59 Xi a59 f59=>?_;have Xj:=(Sd U (aa.refl _) Xg (TY.trans (UW.trans Ur))).trans Xi;have Wz:U i59=none:=(TY.trans (UW.trans Ur)).none f59;simp only[go_sem,seval,t0,t1,t5,t6,t8,r1];refine⟨_,?_,j+1,by omega,rfl,Xj,?_,by simp[t0,t1,t5,t6]⟩
     .omega
     .rw[Sx,Vy];exact aP.new (by simp) a59 Wz
    .have w1:((j:Int)>0)=True:=RX;have w2:((j:Int)<of.length)=True:=RX;have w3:((j:Int)=of.length)=False:=H';have w4:((j:Int)=0)=False:=H';have x1:=λU=>dH (U:=U) (l:=of) (i:=j-1) (by omega);have x2:=λU=>dH (U:=U) g2;have x3:((j:Int)-1)=((j-1:Nat):Int):=by omega
     have x4:=ar (m:=((j-1:Nat):Int)) (by omega) (by omega);have e1:of.getD j 0=of[j]:=by simp[g2]
     have e2:of.getD (j-1) 0=of[j-1]:=by have:j-1<of.length:=by omega
                                         simp[this]
     have w5:(of[j-1]=of[j])=False:=H' (by rw[<-e1,<-e2];exact g3);have Vy:dy (Vx l of j)=.agg [vI 1,vI (F j),vI (0)]:=by rw[Xk,show dC of j=1 by rw[dC,aK (by omega),aK (by omega),aK (λh=>g3 h.symm)]]
     simp only[go_sem,seval,a9,t0,t1,t5,t6,Ut,t8,hi5,hi6,S1,q2,w1,w2,w3,w4,x1,x2,x3,x4,w5];generalize Tb:C' _ i9 _=Z9;have UW:aa J Z9:=by rw[<-Tb];exact s9.aL f9
     clear Tb;refine aF λi58 Xg Ur Xh f58=>?_;obtain⟨idA,Ta,Sd,Us,Wn⟩:=Sq.nM (UW.trans Ur);have SF:(rows.length+1)*25<=140737488355328:=by omega
     simp only[go_sem,seval,t0,t1,t5,t6,Ut,t8,Ta,bR Xh,SF];refine bn λi59 Z59 Xi a59 f59=>?_;have Xj:=(Sd U (aa.refl _) Xg (TY.trans (UW.trans Ur))).trans Xi;have Wz:U i59=none:=(TY.trans (UW.trans Ur)).none f59;simp only[go_sem,seval,t0,t1,t5,t6,t8,r1];refine⟨_,?_,j+1,by omega,rfl,Xj,?_,by simp[t0,t1,t5,t6]⟩
     .omega
     .rw[Sx,Vy];exact aP.new (by simp) a59 Wz
  .have q:((j:Int)<=of.length)=False:=H';obtain rfl:j=of.length+1:=by omega
   apply sR;simp only[go_sem,seval,t0,t1,t5,t6,Ut,t8,S1,q];exact Sq.nG hs hX
end Go.Vc
