import Derived.Test.YtinojdikhfbfbaaGreatW8
set_option linter.all false
set_option maxHeartbeats 8000000
set_option maxRecDepth 100000
open Go.Proofs.Tryz
namespace Go.Vc
def SdI(s:WS):Prop:=∀f∈s.g',f.side=1\/f.side=2
def SdI.same{s t:WS}(h:SdI s)(e:t.g'=s.g'):SdI t:=λf hf=>h f (e▸hf)
def rD(rs:List Rm)(s:WS)(a:Nat)(n:Nd):(s.text rs a n).g'=s.g':=by
 unfold WS.text;generalize cA s.g' n.words n.space n.line (eo rs a) n.words.length 0 (s.P'.y+s.P'.m)=L
 suffices key:∀(L:List Ln) (t:WS),(L.foldl (λs x=>s.put (eM a n.line x)) t).g'=t.g' from key L s
 intro L
 induction L with
 |nil=>intro t;rfl
 |cons x L ih=>intro t;rw[jK,ih];rfl
def qX{l:List Nd}{rs:List Rm}(hb:Sc l=true):∀(k a e:Nat) (s:WS),a<=e->e<=l.length->bC l a e=true->SdI s->SdI (cM l rs k a e s)
 |0,a,e,s,_,_,_,h=>h
 |k+1,a,e,s,WD,he,hr,h=>by
  rw[cM];by_cases u':a<e
  .rw[aK u'];obtain⟨h1,h2⟩:=bS he hr (Sf a) u';obtain⟨h3,h4⟩:=cE he hr u';have R9:YZ (R4 l a):=by rw[gx (by omega)];exact eJ hb (by omega)
   have step:∀t,SdI t->SdI (cM l rs k (a+(RJ l a).toNat) e t):=λt hA=>qX hb k _ e t (by omega) he h3 hA;split
   .refine step _ (SdI.same (qX hb k (a+1) (a+(RJ l a).toNat) (s.enter (R4 l a).st) (by omega) (by omega) h4 (h.same rfl)) rfl)
   .split
    .exact step _ (h.same (rD _ _ _ _))
    .split
     .exact step _ (h.same rfl)
     .have k4:(R4 l a).kind=4:=by rename_i g1 g2 g3;rcases R9.kind with h|h|h|h;exact absurd h g1;exact absurd h g2;exact absurd h g3;exact h
      refine step _ λf hf=>?_;have hf:f∈s.g'++[iK s.g' ⟨a,(R4 l a).side,s.atoms.length,0,0,(R4 l a).w,(R4 l a).h⟩ (s.P'.y+s.P'.m) (eo rs a)]:=hf;rcases fH.1 hf with hf|hf
      .exact h f hf
      .rw[jY.1 hf];show(R4 l a).side=1\/(R4 l a).side=2;have:=R9.fl k4;have:=R9.side.2;omega
  .rw[aM u'];exact h
open Go.Proofs
def Bj{y high:Int}{f:RS}:ep y high f=true↔f.h>0/\f.y<y+max high 1/\f.y+f.h>y:=by
 unfold ep nL;split
 .rename_i h;simp only at h;simp only[decide_true,Bool.not_true,iP,false_iff];omega
 .rename_i h;simp only at h;have RU:¬((⟨max f.y y,min (f.y+f.h) (y+max high 1)⟩:Sn)=⟨0,0⟩):=by
   intro e;have e1:=congrArg Sn.a e;have e2:=congrArg Sn.b e;simp only at e1 e2;omega
  simp only[RU,decide_false,Bool.not_false,true_iff];omega
def Ev{f:RS}{s:Sn}:gI f s=s↔(f.side=1/\f.x+f.w<=s.a)\/(f.side≠1/\s.b<=f.x):=by
 obtain⟨a,b⟩:=s;unfold gI;by_cases h:f.side=1
 .rw[aK h];simp only[Sn.mk.injEq,h,true_and,and_true,not_true,false_and,or_false,ne_eq];omega
 .rw[aM h];simp only[Sn.mk.injEq,h,true_and,false_and,false_or,ne_eq,not_false_eq_true];omega
def Bl{l:List RS}{y high:Int}{s:Sn}{i:Nat}(h:i<l.length):bM (l.take (i+1)) y high s=if ep y high l[i]=true then gI l[i] (bM (l.take i) y high s)else bM (l.take i) y high s:=by
 unfold bM;rw[nk _ _ h,nT];cases ep y high l[i]<;>rfl
def Bg{l:List RS}{y high:Int}{s:Sn}{i:Nat}(h:i<l.length):cz (l.take (i+1)) y high s=if ep y high l[i]=true then iN s (cz (l.take i) y high s) l[i]else cz (l.take i) y high s:=by
 unfold cz;rw[nk _ _ h,nT];cases ep y high l[i]<;>rfl
def uf{tell:RS->Int×Bool}{l:List RS}{i:Nat}(h:i<l.length):cu tell (l.take (i+1))=gU tell (cu tell (l.take i)) l[i]:=by
 unfold cu;rw[U0 h,nT];rfl
def Ap{s:Sn}:∀{l:List RS} {t:Sn},s.a<=t.a->t.b<=s.b->(t≠s\/∃f∈l,gI f s≠s)->l.foldl (λs f=>gI f s) t≠s
 |[],t,_,_,h=>by simpa using h
 |f::l,t,h1,h2,h=>by
  have h3:=C9 f t;rw[jK];refine Ap (Int.le_trans h1 h3.1) (Int.le_trans h3.2 h2) ?_;rcases h with h|⟨g,hg,h⟩
  .left;intro e;apply h;obtain⟨ta,tb⟩:=t;obtain⟨sa,sb⟩:=s;rw[e]at h3;simp only[Sn.mk.injEq]at h1 h2 h3|-;omega
  .rcases dZ.1 hg with rfl|hg
   .left;intro e;apply h;obtain⟨ta,tb⟩:=t;obtain⟨sa,sb⟩:=s;unfold gI at e|-;by_cases h4:g.side=1<;>simp only[h4,if_true,if_false,Sn.mk.injEq,true_and,and_true]at e h1 h2|-<;>omega
   .exact .inr ⟨g,hg,h⟩
def FO{l:List RS}{y high:Int}{s:Sn}:(cz l y high s).2=true↔bM l y high s≠s:=by
 refine⟨λh=>?_,mu⟩;refine Ap (Int.le_refl _) (Int.le_refl _) (.inr (Classical.byContradiction λhn=>?_));have Tf:∀f∈l.filter (ep y high),gI f s=s:=λf hf=>Classical.byContradiction λhe=>hn ⟨f,hf,he⟩;have:∀(m:List RS) (a:Int×Bool),(∀f∈m,gI f s=s)->m.foldl (iN s) a=a:=by
  intro m
  induction m with
  |nil=>intro a _;rfl
  |cons f m ih=>
   intro a hm;rw[jK,show iN s a f=a by unfold iN;rw[aK (.inl (hm f (by simp)))]];exact ih a λg hg=>hm g (by simp[hg])
 unfold cz at h;rw[this _ _ Tf]at h;cases h
def l3{l:List RS}{w high y:Int}{s:Sn}:mF l w high s y=true↔(cz l y high s).2=false\/w<=fj (bM l y high s):=by
 have h:=FO (l:=l) (y:=y) (high:=high) (s:=s);simp only[mF,kO,Uy];cases hn:(cz l y high s).2
 .rw[hn]at h;have:bM l y high s=s:=Classical.byContradiction λRU=>by simpa using h.2 RU
  simp[this]
 .rw[hn]at h;have:=h.1 rfl;simp[this]
def C7{l:List RS}{y high:Int}{s:Sn}(h:WH l y=0):(cz l y high s).2=false:=by
 cases hn:(cz l y high s).2
 .rfl
 .have:=my (eW hn);omega
def uO{l:List RS}{w high:Int}{s:Sn}:∀(k k':Nat) (y:Int),WH l y<=k->WH l y<=k'->j2 l w high s k y=j2 l w high s k' y
 |0,k',y,h,_=>by
  have hf:mF l w high s y=true:=l3.2 (.inl (C7 (by omega)));cases k'<;>simp[j2,hf]
 |k+1,0,y,_,h=>by
  have hf:mF l w high s y=true:=l3.2 (.inl (C7 (by omega)));simp[j2,hf]
 |k+1,k'+1,y,h,h'=>by
  simp only[j2];by_cases hf:mF l w high s y=true
  .simp[hf]
  .simp only[hf,iP,if_false];have hn:(cz l y high s).2=true:=by
    cases hn:(cz l y high s).2
    .exact absurd (l3.2 (.inl hn)) hf
    .rfl
   have:=my (eW hn);exact uO k k' _ (by omega) (by omega)
def EJ(l:List RS)(y:Int):WH l y<=l.length:=List.length_filter_le _ _
def Gf{l:List RS}{w high y:Int}{s:Sn}:fN l w high s y=if(cz l y high s).2=false\/w<=fj (bM l y high s)then y else fN l w high s (cz l y high s).1:=by
 have e:fN l w high s y=j2 l w high s (l.length+1) y:=uO _ _ _ (EJ l y) (by have:=EJ l y;omega);rw[e,j2];by_cases hf:mF l w high s y=true
 .rw[aK hf,aK (l3.1 hf)]
 .rw[aM hf,aM (λh=>hf (l3.2 h))];rfl
def og{l:List RS}{w high y:Int}{s:Sn}:kK l w high s y=true↔(cz l y high s).2=false\/fj (bM l y high s)>=w:=by
 simp[kK]
def uh{l:List RS}{w high:Int}{s:Sn}{k:Nat}{y:Int}(h:kK l w high s y=true):iM l w high s k y=y:=by
 cases k<;>simp[iM,h]
def Fq{l:List RS}{w high:Int}{s:Sn}{k:Nat}{y:Int}(hk:WH l y<=k)(h:kK l w high s y=false):∃k',k=k'+1/\WH l (cz l y high s).1<=k'/\iM l w high s k y=iM l w high s k' (cz l y high s).1:=by
 have hn:(cz l y high s).2=true:=by
  cases hn:(cz l y high s).2
  .rw[og.2 (.inl hn)]at h;cases h
  .rfl
 have:=my (eW hn);obtain⟨k',rfl⟩:∃k',k=k'+1:=⟨k-1,by omega⟩
 exact⟨k',rfl,by omega,by rw[iM,h];rfl⟩
open Go.Proofs
def vJ(l:List Nd)(w:Int):Nat->Nat->Rm
 |0,_=>⟨0,w⟩
 |k+1,a=>if cS l a<0 then⟨0,w⟩else jz (vJ l w k (cS l a).toNat) (sT l (cS l a).toNat)
def kT(l:List Nd)(w:Int)(a:Nat):Rm:=vJ l w (a+1) a
def ue{l:List Nd}{w:Int}:∀(k j a:Nat),a<k->a<j->vJ l w k a=vJ l w j a
 |0,_,_,h,_=>by omega
 |_+1,0,_,_,h=>by omega
 |k+1,j+1,a,h,h'=>by
  have hr:=dR l a;rw[vJ,vJ];split
  .rfl
  .rw[ue k j (cS l a).toNat (by omega) (by omega)]
def Aa{l:List Nd}{w:Int}{a:Nat}:kT l w a=if cS l a<0 then⟨0,w⟩else jz (kT l w (cS l a).toNat) (sT l (cS l a).toNat):=by
 have hr:=dR l a;unfold kT;rw[vJ];split
 .rfl
 .rw[ue a ((cS l a).toNat+1) _ (by omega) (by omega)]
def yp(l:List Nd)(w:Int)(p:Int):Rm:=if p<0 then⟨0,w⟩else jz (kT l w p.toNat) (sT l p.toNat)
def qR{l:List Nd}{w:Int}:∀(k b a e:Nat) (p:Int) (r:Rm),e<=l.length->Kg l p a e->r=yp l w p->e-b<=k->a<=b->b<=e->bC l b e=true->(∀i,a<=i->i<b->(i:Int)+RJ l i<=b)->
 ∀j,b<=j->j<e->(cZ l k b e r)[j-b]?=some (kT l w j)
 |0,b,a,e,p,r,_,_,_,h,_,_,_,_,j,h1,h2=>by omega
 |k+1,b,a,e,p,r,he,hA,hr,hk,Vw,Wr,hrw,Vv,j,h1,h2=>by
  have u':b<e:=by omega
  have hb:b<l.length:=by omega
  obtain⟨hend,Sb⟩:=bS he hrw (Sf b) u';obtain⟨hr2,Xp⟩:=cE he hrw u';rw[cZ,aK u'];have hp:cS l b=p:=by
   rcases hA with⟨rfl,rfl⟩|⟨q,rfl,rfl,hq⟩
   .exact wJ hb b (Sf _) (λi hi=>Vv i (by omega) hi)
   .exact C0 hb (by omega) b (by omega) (Sf _) (λi h1 h2=>Vv i (by omega) h2)
  have hrb:r=kT l w b:=by rw[hr,Aa,hp];rfl
  by_cases e1:j=b
  .subst e1;rw[Nat.sub_self,G6,hrb]
  .obtain⟨d,rfl⟩:∃d,j=b+1+d:=⟨j-b-1,by omega⟩
   rw[show b+1+d-b=d+1 by omega,EZ];have T1:=ju (l:=l) (e:=b+(RJ l b).toNat) (by omega) k (b+1) (jz r (sT l b)) (by omega) (by omega) Xp;have hri:jz r (sT l b)=yp l w (b:Int):=by
    unfold yp;rw[aM (by omega),hrb];rfl
   by_cases h3:b+1+d<b+(RJ l b).toNat
   .rw[H4 (by omega)];have:=qR (w:=w) k (b+1) (b+1) (b+(RJ l b).toNat) b _ (by omega) (.inr ⟨b,rfl,rfl,by omega⟩) hri (by omega) (Sf _) (by omega) Xp (λi h1 h2=>by omega) (b+1+d) (by omega) h3
    rwa [show b+1+d-(b+1)=d by omega]at this
   .rw[KZ (by omega),T1];have:=qR (w:=w) k (b+(RJ l b).toNat) a e p r he hA hr (by omega) (by omega) (by omega) hr2 (λi h1 h2=>by
     by_cases e2:i<b
     .have:=Vv i h1 e2;omega
     .by_cases e3:i=b
      .subst e3;omega
      .have:=(bS (by omega) Xp (k:=i) (by omega) h2).1;omega) (b+1+d) (by omega) h2
    rwa [show b+1+d-(b+(RJ l b).toNat)=d-(b+(RJ l b).toNat-(b+1)) by omega]at this
def wG{l:List Nd}(hb:Sc l=true){w:Int}{a:Nat}(ha:a<l.length):(ct l w).getD a ⟨0,0⟩=kT l w a:=by
 have hr:bC l 0 l.length=true:=by simp only[Sc,Ba]at hb;exact hb.2
 have:=qR (w:=w) l.length 0 0 l.length (-1) ⟨0,w⟩ (Sf _) (.inl ⟨rfl,rfl⟩) (by simp[yp]) (by omega) (Sf _) (by omega) hr (λi _ h=>by omega) a (by omega) ha;rw[Nat.sub_zero]at this;unfold ct;rw[yb,this];rfl
def yT{l:List Nd}(hb:Sc l=true)(hn:l.length<=2000){w:Int}(h1:1<=w)(h2:w<=1099511627776){a:Nat}(ha:a<l.length):(kT l w a).ok:=by
 have hD:=nI hb hn h1 h2;have hr:bC l 0 l.length=true:=by simp only[Sc,Ba]at hb;exact hb.2
 have hlen:(ct l w).length=l.length:=by unfold ct;rw[ju (Sf _) _ _ _ (by omega) (by omega) hr];omega
 rw[<-wG hb ha,yb,VH (by omega),Option.getD_some];exact oh hb _ _ _ _ (Sf _) hr ⟨by simp,by simp,h1,h2⟩ _ (Sx _)
def B9{l:List Nd}(hb:Sc l=true){w:Int}{a:Nat}(ha:a<l.length):eo (ct l w) a=⟨(kT l w a).x,(kT l w a).x+(kT l w a).w⟩:=by
 unfold eo;rw[wG hb ha]
def qm(l:List Nd)(rs:List Rm)(s:WS)(a:Nat):WS:=
 if(R4 l a).kind=1 then(cM l rs (a+(RJ l a).toNat-(a+1)) (a+1) (a+(RJ l a).toNat) (s.enter (R4 l a).st)).leave (R4 l a).st
 else if(R4 l a).kind=2 then s.text rs a (R4 l a)else if(R4 l a).kind=3 then WS.mono l rs s a (R4 l a)else s.float rs a (R4 l a)
def ux{l:List Nd}{rs:List Rm}{b e:Nat}(he:e<=l.length)(hr:bC l b e=true)(u':b<e)(s:WS):
 cM l rs (e-b) b e s=cM l rs (e-(b+(RJ l b).toNat)) (b+(RJ l b).toNat) e (qm l rs s b):=wZ he hr u' s
def vD{l:List Nd}{rs:List Rm}{e:Nat}(s:WS):cM l rs (e-e) e e s=s:=by rw[Nat.sub_self];rfl
def hiF(h:Int)(l:List RS):Int:=l.foldl (λh f=>max h (f.y+f.h)) h
def CB:∀(l:List RS) (a:Int) (p:Int),(∀f∈l,f.side=1\/f.side=2)->(l.foldl (gU (fI 3)) (a,true)).2=true/\max p (l.foldl (gU (fI 3)) (a,true)).1=hiF (max p a) l
 |[],a,p,_=>⟨rfl,rfl⟩
 |f::l,a,p,h=>by
  have hf:(fI 3 f).2=true:=by
   rcases h f (by simp)with e|e<;>simp only[fI,e]<;>decide
  have h1:gU (fI 3) (a,true) f=(max a (f.y+f.h),true):=by
   unfold gU;rw[hf];simp only[fI,true_and,Bool.true_eq_false,false_or];split
   .congr 1;omega
   .congr 1;omega
  obtain⟨g1,g2⟩:=CB l (max a (f.y+f.h)) p (λg hg=>h g (by simp[hg]));rw[jK,h1];refine⟨g1,?_⟩;rw[g2];unfold hiF;rw[jK];congr 1;omega
def Hz{s:WS}(h:SdI s):vM s=hiF (s.P'.y+s.P'.m) s.g':=by
 unfold vM cu;unfold SdI at h;cases hl:s.g' with
 |nil=>simp[hiF]
 |cons f l=>
  rw[hl]at h;have hf:(fI 3 f).2=true:=by
   rcases h f (by simp)with e|e<;>simp only[fI,e]<;>decide
  have h1:gU (fI 3) (0,false) f=(f.y+f.h,true):=by
   unfold gU;rw[hf];simp[fI]
  obtain⟨g1,g2⟩:=CB l (f.y+f.h) (s.P'.y+s.P'.m) (λg hg=>h g (by simp[hg]));rw[jK,h1,aK g1,g2];rfl
def Gn{h:Int}{l:List RS}{i:Nat}(hi:i<l.length):hiF h (l.take (i+1))=max (hiF h (l.take i)) (l[i].y+l[i].h):=by
 unfold hiF;rw[U0 hi,nT];rfl
def AnI(s:WS):Prop:=∀f∈s.g',0<=f.anchor
def AnI.same{s t:WS}(h:AnI s)(e:t.g'=s.g'):AnI t:=λf hf=>h f (e▸hf)
def uN{l:List Nd}{rs:List Rm}:∀(k a e:Nat) (s:WS),AnI s->AnI (cM l rs k a e s)
 |0,_,_,_,h=>h
 |k+1,a,e,s,h=>by
  rw[cM];by_cases u':a<e
  .rw[aK u'];refine uN k _ e _ ?_;split
   .exact AnI.same (uN k _ _ _ (h.same (t:=s.enter (R4 l a).st) rfl)) rfl
   .split
    .exact h.same (rD _ _ _ _)
    .split
     .exact h.same rfl
     .intro f hf;simp only[WS.float,mU,fH,jY]at hf;rcases hf with hf|rfl
      .exact h f hf
      .simp[iK]
  .rw[aM u'];exact h
def Gp{n:Nat}{f:RS}(h:0<=f.anchor):lK n f=if f.anchor>=n then{ f with anchor:=max ((n:Int)-1) 0 }else f:=by
 obtain⟨a,b,c,d,e,g,i⟩:=f;unfold lK;simp only at h|-;split
 .congr 1;omega
 .congr 1;omega
def iR(l:List Nd)(of:List Int)(i:Nat)(k:Int):Bool:=decide (0<=k/\k<of.length)&&cc l i (of.getD k.toNat 0)
def jJ(l:List Nd)(p:Nat->Bool)(n:Nat):List Int:=((List.range n).filter λi=>decide (Wu l i=1)&&p i).map λ(i:Nat)=>(i:Int)
def lW{l:List Nd}{p:Nat->Bool}{n:Nat}:jJ l p (n+1)=jJ l p n++if Wu l n=1/\p n=true then[(n:Int)]else[]:=by
 unfold jJ;rw[List.range_succ,List.filter_append,eQ];congr 1;by_cases h1:Wu l n=1<;>cases h2:p n<;>simp[h1,h2]
def mf{l:List Nd}{a:Nat}:∀n:Nat,dr l a n=(((List.range n).filter λ(i:Nat)=>cc l i a).map λ(i:Nat)=>(i:Int)).reverse
 |0=>rfl
 |n+1=>by
  rw[dr,List.range_succ,List.filter_append,eQ,List.reverse_append,<-mf n];cases h:cc l n a<;>simp[h]
def Ay{l:List Nd}(hb:Sc l=true){i a:Nat}(hia:i<a)(h:cc l i a=true):Wu l i=1:=by
 obtain⟨h1,h2,h3,h4⟩:=iB.1 h;have TM:i<l.length:=by omega
 obtain⟨g1,g2,g3⟩:=uK hb TM;rw[KK TM];rw[gu,gZ TM]at h4;rcases g3 with g3|g3
 .exact g3
 .omega
def CD{l:List Nd}{p:Nat->Bool}{a:Nat}:∀d:Nat,(∀i,a<=i->i<a+d->Wu l i=1->p i=false)->jJ l p (a+d)=jJ l p a
 |0,_=>rfl
 |d+1,h=>by
  rw[<-Nat.add_assoc,lW,CD d λi h1 h2=>h i h1 (by omega)];rw[aM,j6];rintro⟨h1,h2⟩;rw[h (a+d) (by omega) (by omega) h1]at h2;cases h2
def mX(p:Int->Bool):∀L:List Nat,(L.map λ(i:Nat)=>(i:Int)).filter p=(L.filter λ(i:Nat)=>p i).map λ(i:Nat)=>(i:Int)
 |[]=>rfl
 |x::L=>by
  rw[fC,List.filter_cons,List.filter_cons,mX p L];cases p x<;>simp
def BI{l:List Nd}(hb:Sc l=true){of:List Int}(Sv:∀x∈of,(0<=x/\x<l.length)/\Wu l x.toNat≠1)(k:Int)(p:Int->Bool):
 V8 l of k p=(jJ l (λi=>iR l of i k&&p i) l.length).reverse:=by
 unfold V8;split
 .rename_i hk;have hkn:k.toNat<of.length:=by omega
  have UT:=Sx hkn;obtain⟨⟨h1,h2⟩,h3⟩:=Sv _ UT;have Vo:of.getD k.toNat 0=of[k.toNat]:=by simp[hkn]
  have hrf:∀i,iR l of i k=cc l i of[k.toNat]:=λi=>by
   unfold iR;rw[Vo,Tl hk,Bool.true_and]
  rw[Vo];generalize of[k.toNat]=x at*;obtain⟨a,rfl⟩:∃a:Nat,x=a:=⟨x.toNat,by omega⟩
  rw[gu]at h3|-;have WI:a<l.length:=by omega
  rw[B0 hb WI,mf,List.filter_reverse,mX,List.filter_filter];have hd:l.length=a+(l.length-a):=by omega
  rw[hd,CD (l.length-a) λi h4 h5 h6=>?_]
  .unfold jJ;congr 2;refine List.filter_congr λi hi=>?_;rw[List.mem_range]at hi;simp only[hrf];cases hh:cc l i a
   .simp
   .simp[Ay hb hi hh]
  .rw[hrf];have:cc l i a=false:=by
    cases hh:cc l i a
    .rfl
    .have:=iB.1 hh;have:i=a:=by omega
     subst this;exact absurd h6 h3
   rw[this];rfl
 .rename_i hk;have:jJ l (λi=>iR l of i k&&p i) l.length=[]:=by
   unfold jJ;rw[List.map_eq_nil_iff,List.filter_eq_nil_iff];intro i _;unfold iR;rw[Tw hk];simp
  rw[this];rfl
def yH{l:List Nd}{of:List Int}(Sv:∀x∈of,(0<=x/\x<l.length)/\Wu l x.toNat≠1){i:Nat}(hi:i<l.length)(k:Int):Xy l of i k=iR l of i k:=by
 unfold Xy iR;split
 .rename_i hk;have hkn:k.toNat<of.length:=by omega
  obtain⟨⟨h1,h2⟩,h3⟩:=Sv _ (Sx hkn);have Vo:of.getD k.toNat 0=of[k.toNat]:=by simp[hkn]
  rw[Vo,Tl hk,Bool.true_and];rw[Bool.eq_iff_iff,iB];simp only[uQ,Uy];omega
 .rename_i hk;rw[Tw hk];rfl
def ph{l:List Nd}{p q:Nat->Bool}{n:Nat}(h:∀i,i<n->p i=q i):jJ l p n=jJ l q n:=by
 unfold jJ;congr 1;exact List.filter_congr λi hi=>by rw[h i (List.mem_range.1 hi)]
def Iw{l:List Nd}(hb:Sc l=true){of:List Int}(Sv:∀x∈of,(0<=x/\x<l.length)/\Wu l x.toNat≠1)(k:Nat):
 cq l of k=⟨(jJ l (λi=>iR l of i ((k:Int)-1)&&!iR l of i k) l.length).reverse,jJ l (λi=>iR l of i k&&!iR l of i ((k:Int)-1)) l.length,
  (jJ l (λi=>iR l of i ((k:Int)-1)&&iR l of i k) l.length).reverse,if 0<k/\k<of.length/\of.getD k 0=of.getD (k-1) 0 then of.getD k 0 else -1⟩:=by
 unfold cq;rw[BI hb Sv,BI hb Sv,BI hb Sv,List.reverse_reverse];refine congr (congr (congr (congrArg Kn.mk ?_) ?_) ?_) rfl
 .exact congrArg List.reverse (ph λi hi=>by rw[yH Sv hi])
 .exact ph λi hi=>by rw[yH Sv hi]
 .exact congrArg List.reverse (ph λi hi=>by rw[yH Sv hi,Bool.and_comm])
def iU(all:List Int):Int:=match all.reverse.find? λn=>decide (n=3\/n=4)with
 |some n=>n
 |none=>if 2∈all then 2 else 0
def xM(L:List Int)(n:Int):cL (L++[n])=j1 (cL L) n:=by unfold cL;rw[nT];rfl
def ym(L:List Int)(n:Int):iU (L++[n])=if n=3\/n=4 then n else if n=2 then(if iU L=0 then 2 else iU L)else iU L:=by
 unfold iU;rw[List.reverse_append,List.reverse_singleton,List.singleton_append,List.find?_cons];by_cases h:n=3\/n=4
 .rw[Tl h,aK h]
 .rw[Tw h,aM h];simp only[fH,jY];cases hf:L.reverse.find? λn=>decide (n=3\/n=4)with
  |some m=>
   have:=List.find?_some hf;simp only[Uy]at this;simp only;split
   .rw[aM (by omega)]
   .rfl
  |none=>
   simp only;by_cases h2:n=2
   .subst h2;simp only[or_true,if_true];by_cases h4:2∈L<;>simp[h4]
   .have:¬(2=n):=λe=>h2 e.symm;simp only[this,or_false,h2,if_false]
def w8:∀(n:Nat) (L:List Int),L.length=n->cL L=iU L
 |0,L,h=>by rw[tc h];rfl
 |n+1,L,h=>by
  have RU:L≠[]:=λe=>by rw[e]at h;cases h
  rw[<-List.dropLast_concat_getLast RU,xM,ym,w8 n _ (by rw[List.length_dropLast];omega)];generalize L.getLast RU=m;generalize iU L.dropLast=q;unfold j1 mD;by_cases h1:m=3\/m=4
  .simp[h1]
  .by_cases h2:m=2
   .subst h2;simp
   .simp[h1,h2]
def Rg(a b c:Bool):Al (Al (Al 0 0 a) 1 b) 2 c=(if a then 1 else 0)+2*(if b then 1 else 0)+4*(if c then 1 else 0):=by
 cases a<;>cases b<;>cases c<;>rfl
def I7{l:List Nd}{of:List Int}{k:Nat}:mo l of k=if k=0\/k=of.length then 0 else
 (if Dl l of (cq l of k).text k then 1 else 0)+2*(if pH l (cq l of k)then 1 else 0)+4*(if 1∈gY l of k then 1 else 0):=by
 unfold mo;split
 .rfl
 .simp only[dH,kN,Rg];simp
def CL{α:Type}(f:α->Int):∀(L:List α) (m:Int),(m=0\/m=1)->(∀x∈L,0<=f x/\f x<=1)->L.foldl (λm x=>max m (f x)) m=if m=1\/(L.any λx=>decide (f x=1))=true then 1 else 0
 |[],m,h,_=>by rcases h with rfl|rfl<;>simp
 |x::L,m,h,hL=>by
  have hx:=hL x (by simp);rw[jK,CL f L _ (by omega) λy hy=>hL y (by simp[hy])];rw[List.any_cons];by_cases e:f x=1
  .simp[e];have:max m 1=1:=by omega
   simp[this]
  .have:f x=0:=by omega
   have hm:max m (f x)=m:=by omega
   rw[hm];simp[e]
def jm(l:List Nd)(a:Nat)(h:Int):Nat->Kp
 |0=>⟨[],0,h⟩
 |n+1=>if cc l n a=true then jo l (jm l a h n) n else jm l a h n
def xi{l:List Nd}{L:List Int}{h:Int}:∀m,m<=L.length->j0 l L h m=(L.reverse.take m).foldl (jo l) ⟨[],0,h⟩
 |0,_=>rfl
 |m+1,hm=>by
  have hml:m<L.reverse.length:=by rw[List.length_reverse];omega
  rw[j0,xi m (by omega),U0 hml,nT];have:L.getD (L.length-1-m) 0=L.reverse[m]:=by
   rw[List.getElem_reverse];have:L.length-1-m<L.length:=by omega
   simp[this]
  rw[this];rfl
def uc{l:List Nd}{a:Nat}{h:Int}:∀n,jm l a h n=(((List.range n).filter λ(i:Nat)=>cc l i a).map λ(i:Nat)=>(i:Int)).foldl (jo l) ⟨[],0,h⟩
 |0=>rfl
 |n+1=>by
  rw[jm,List.range_succ,List.filter_append,eQ,nT,<-uc n];cases hh:cc l n a<;>simp[hh]
def HC{l:List Nd}(hb:Sc l=true){a:Nat}(ha:a<l.length){h:Int}:pX l a h=jm l a h a:=by
 unfold pX;rw[xi _ (Sf _),pL (by rw[List.length_reverse];exact Sf _),B0 hb ha,mf,List.reverse_reverse,uc]
def zy{l:List Nd}{x:Kp}{a:Int}(h0:0<=(T9 l a).head):jo l x a=if(T9 l a).head=0\/(T9 l a).head>=x.body then x else⟨x.Tk++[a],x.high+(T9 l a).head,x.body-(T9 l a).head⟩:=by
 unfold jo;by_cases h:(T9 l a).head=0\/(T9 l a).head>=x.body
 .rw[aK (by omega),aK h]
 .rw[aM (by omega),aM h]
def wY{l:List Nd}(hb:Sc l=true){a:Nat}{h:Int}(hh:1<=h):∀n,n<=l.length->(jm l a h n).Tk.length<=n/\0<=(jm l a h n).high/\1<=(jm l a h n).body/\(jm l a h n).high+(jm l a h n).body=h
 |0,_=>by simp[jm];omega
 |n+1,hn=>by
  obtain⟨h1,h2,h3,h4⟩:=wY hb hh (a:=a) n (by omega);have h0:0<=(T9 l (n:Int)).head:=by
   rw[fX (by omega)];exact(eJ hb (by omega)).st.head.1
  rw[jm];split
  .rw[zy h0];split
   .exact⟨by omega,h2,h3,h4⟩
   .simp only[kI,TI,List.length_nil];omega
  .exact⟨by omega,h2,h3,h4⟩
def zp{l:List Nd}{h:Int}{j:Nat}:fp l h (j+1)=if(R4 l j).kind=2\/(R4 l j).kind=3 then min (fp l h j) (pX l j h).body else fp l h j:=rfl
def EN(b:List UH)(i:Nat)(to:Int):btw b ((i:Int)+1) to=List.range' (i+1) (vL b ((i:Int)+1) to):=by
 unfold btw;rw[show(max ((i:Int)+1) 0).toNat=i+1 by omega]
def HH{b:List UH}{i:Nat}{to:Int}:vL b ((i:Int)+1) to=(min to ((b.length:Int)-1)-i).toNat:=by
 unfold vL;congr 1;omega
def tN:∀(l:List Fd) (x:Fd),l.foldl (kj fD) (x,true)=(x,true)
 |[],x=>rfl
 |y::l,x=>by rw[jK];exact tN l x
def pk:∀(l:List Fd) (d:Fd),(∀x∈l,x.b.forced=0)->hU fD l d=(d,false)
 |[],d,_=>rfl
 |y::l,d,h=>by
  unfold hU;rw[jK,show kj fD (d,false) y=(d,false) by simp[kj,fD,h y (by simp)]];exact pk l d λx hx=>h x (by simp[hx])
def Au{b:List UH}{i:Nat}{to:Int}(h:∀k:Nat,i<k->k<=i+vL b ((i:Int)+1) to->(Um b k).forced=0):fe b ((i:Int)+1) to=-1:=by
 unfold fe;rw[EN,pk]
 .rfl
 .intro x hx;obtain⟨k,hk,rfl⟩:=iD.1 hx;rw[List.mem_range'_1]at hk;exact h k (by omega) (by omega)
def D2{b:List UH}{i j:Nat}{to:Int}(hj:j<vL b ((i:Int)+1) to)(h:∀k:Nat,i<k->k<=i+j->(Um b k).forced=0)(hf:(Um b (i+1+j)).forced≠0):fe b ((i:Int)+1) to=((i+1+j:Nat):Int):=by
 unfold fe;obtain⟨r,hr⟩:∃r,vL b ((i:Int)+1) to=j+(r+1):=⟨vL b ((i:Int)+1) to-j-1,by omega⟩
 rw[EN,hr,<-List.range'_append_1,eQ];unfold hU;rw[nT];have h1:=pk ((List.range' (i+1) j).map (pF b)) yg λx hx=>by
  obtain⟨k,hk,rfl⟩:=iD.1 hx;rw[List.mem_range'_1]at hk;exact h k (by omega) (by omega)
 unfold hU at h1;rw[h1,List.range'_succ,fC,jK];have h2:kj fD (yg,false) (pF b (i+1+j))=(pF b (i+1+j),true):=by
  have e3:(pF b (i+1+j)).b=Um b (i+1+j):=rfl;simp[kj,fD,e3,hf]
 rw[h2,tN];rfl
open Go.Proofs
def EC(l:List SK)(hl:lS l)(hpw:l.Pairwise λx y=>x.y+x.h<=y.y)(TN:∀a∈l,1<=a.h)(s:RG)(hm:de l s)(hd:s.done<=1152921504606846976)(kept shift body:Int)(hk:-1152921504606846976<=kept/\kept<=1152921504606846976)(hsh:0<=shift/\shift<=1152921504606846976):
 aV prog 30 [bK l,aO s,vI kept,vI shift,vI body] (vI (nR l s kept shift body)):=λU=>by
 refine e30.q ?_;have hs:=aa.refl U;have hc:=qw l s;rw[Tl hm]at hc;have T1:=jw l;have hll:=hl.len;obtain⟨r,h1,h2,h3,h4,h5⟩:=ml (b:=⟨[],0,0,l,[],0,[]⟩) hpw TN hm kept shift body;simp only at h1 h3 h4 h5;rw[h1];have Uz:=λ(k:Nat) (SV:s.atom<=k) (Ti:k<l.length)=>IG l hl s hm hd kept shift body k hk hsh SV Ti;have Zd:=hm;obtain⟨a,d,fr⟩:=s;obtain⟨⟨g0,g1⟩,g2,g3⟩:=hm;simp only at g0 g1 g2 g3 hd h2 h4 h5 Uz;obtain⟨n,rfl⟩:∃n:Nat,a=n:=⟨a.toNat,by omega⟩
 refine mS 12 ?_;simp only[go_sem,seval,c30,aO];refine aG hs λi6 Z6 s6 a6 f6 z6 hs=>?_;simp only[go_sem,seval,a6];refine pS rfl (hc _) ?_;simp only[go_sem,seval,a6];refine aq.loop (λm st=>∃k:Nat,n<=k/\k<=r/\m=r-k/\aa U st.U/\st.U i6=some ⟨24,3,[.agg [vI n,vI d,.bool fr]]⟩/\st.s 0=bK l/\st.s 2=vI kept/\st.s 3=vI shift/\st.s 4=vI body/\st.s 6=.ptr i6 0 0/\st.s 11=vI k) (r-n) ?_ ?_
 .exact⟨n,by omega,by omega,rfl,hs,a6,rfl,rfl,rfl,rfl,rfl,rfl⟩
 .clear a6;rintro m ⟨S,J⟩ ⟨k,hnk,hkr,rfl,hs,a6,k0,k2,k3,k4,k6,TB⟩;simp only at hs a6 k0 k2 k3 k4 k6 TB;refine aq.mix 12 ?_;by_cases u':k<l.length
  .have q:=qT u';have r1:=rI k;have hft:=Uz k (by omega) u';apply sR;simp only[go_sem,seval,k0,k2,k3,k4,k6,TB,q,T1,a6];refine pR rfl (hft _) ?_;by_cases hkr2:k<r
   .have q2:(eL l ⟨n,d,fr⟩ kept shift k+l[k].h<=body)=True:=RA (h4 k u' (by omega) hkr2);apply sR;simp only[go_sem,seval,k0,k2,k3,k4,k6,TB,q2,r1,a6];exact⟨_,by omega,k+1,by omega,by omega,rfl,hs,by simp[k0,k2,k3,k4,k6]⟩
   .obtain rfl:k=r:=by omega
    have q2:(eL l ⟨n,d,fr⟩ kept shift k+l[k].h<=body)=False:=H' (by have:=h5 u';omega);apply sR;simp only[go_sem,seval,k0,k2,k3,k4,k6,TB,q2,a6];exact az.pure hs rfl
  .have q:=qF u';obtain rfl:k=r:=by omega
   apply sR;simp only[go_sem,seval,k0,k2,k3,k4,k6,TB,q,T1,a6];exact az.pure hs rfl
open Go.Proofs
def HO(s:Sn):aV prog 196 [aW s] (.bool (decide (s.b<=s.a))):=λU=>by
 refine OR.q ?_;apply sR;simp only[go_sem,seval,Oy,aW];refine aD λi1 Z1 s1 a1 f1=>?_;simp only[go_sem,seval,a1];exact az.pure s1 rfl
def BT(s:Sn)(ha:SJ s.a)(hb:SJ s.b):aV prog 163 [aW s] (vI (fj s)):=λU=>by
 obtain⟨h1,h2⟩:=ha;obtain⟨h3,h4⟩:=hb;refine Pg.q ?_;apply sR;simp only[go_sem,seval,Lv,aW];refine aD λi1 Z1 s1 a1 f1=>?_;simp only[go_sem,seval,a1];refine pS rfl (HO ⟨_,_⟩ _) ?_;simp only[go_sem,seval,a1];unfold fj;refine And.intro (λh=>?_) (λh=>?_)
 .rw[aK h];exact az.pure s1 rfl
 .rw[aM h];exact⟨ao,az.pure s1 rfl⟩
def Ar(f:RS)(y high:Int)(hf:f.ok)(hy:SJ y)(hh:Bq high):aV prog 195 [bl f,vI y,vI high] (.bool (ep y high f)):=λU=>by
 obtain⟨⟨x1,x2⟩,⟨y1,y2⟩,⟨w1,w2⟩,h1,h2⟩:=hf;obtain⟨g1,g2⟩:=hy;obtain⟨g3,g4⟩:=hh;have hm:=Bj (y:=y) (high:=high) (f:=f);have r1:R0 .i64 (y+max high 1):=ao;have r2:R0 .i64 (f.y+f.h):=ao;generalize hM:max high 1=M at*;have hM':(if high>1 then high else 1)=M:=by omega
 have hM2:max 1 high=M:=by omega
 refine PX.q ?_;have hs:=aa.refl U;refine mS 7 ?_;simp only[go_sem,seval,Nj,bl];refine aG hs λi3 Z3 s3 a3 f3 z3 hs=>?_;by_cases p1:f.h>0
 .have q1:(f.h>0)=True:=RA p1;by_cases p2:f.y<y+M
  .have q2:(f.y<y+M)=True:=RA p2;simp only[go_sem,seval,a3,q1,q2,r1,r2,hM,hM2,bW];exact az.pure hs (by simp only[V.bool.injEq];rw[Bool.eq_iff_iff,hm];simp[p1,p2])
  .have q2:(f.y<y+M)=False:=H' p2;simp only[go_sem,seval,a3,q1,q2,r1,r2,hM,hM2,bW];exact az.pure hs (by simp only[V.bool.injEq];rw[eq_comm,Bool.eq_false_iff];intro e;exact p2 (hm.1 e).2.1)
 .have q1:(f.h>0)=False:=H' p1;simp only[go_sem,seval,a3,q1,r1,r2];exact az.pure hs (by simp only[V.bool.injEq];rw[eq_comm,Bool.eq_false_iff];intro e;exact p1 (hm.1 e).1)
def G4(l:List RS)(y high:Int)(s:Sn)(hl:l.length<=1000000)(RP:∀f∈l,f.ok)(hy:SJ y)(hh:Bq high):aV prog 161 [bg l,vI y,vI high,aW s] (aW (bM l y high s)):=λU=>by
 refine Qr.q ?_;have hs:=aa.refl U;have hn:=jF l;refine mS 10 ?_;simp only[go_sem,seval,M3,aW];refine aG hs λi7 Z7 s7 a7 f7 z7 hs=>?_;simp only[go_sem,seval,a7];refine aG hs λi8 Z8 s8 a8 f8 z8 hs=>?_;obtain⟨VA,a7⟩:=RC a7 f8 s8;simp only[go_sem,seval,a8,a7];refine aq.loop (λm st=>∃(i:Nat) (b:Sn),i<=l.length/\m=l.length-i/\b=bM (l.take i) y high s/\aa U st.U/\st.U i7=some ⟨195,2,[.agg [vI b.a,vI b.b]]⟩/\st.U i8=some ⟨195,2,[.agg [vI 0,vI 0]]⟩/\st.s 0=bg l/\st.s 1=vI y/\st.s 2=vI high/\st.s 7=.ptr i7 0 0/\st.s 8=.ptr i8 0 0/\st.s 9=vI i) l.length ?_ ?_
 .exact⟨0,s,by omega,rfl,rfl,hs,a7,a8,rfl,rfl,rfl,rfl,rfl,rfl⟩
 .clear a7 a8;rintro m ⟨S,J⟩ ⟨i,b,hi,rfl,hb,hs,a7,a8,k0,k1,k2,k7,k8,k9⟩;simp only at hs a7 a8 k0 k1 k2 k7 k8 k9;refine aq.mix 10 ?_;by_cases u':i<l.length
  .have q:=qT u';have SA:=λU=>oe (U:=U) u';have Sd:=Bl (y:=y) (high:=high) (s:=s) u';have W8:=RP _ (Sx u');generalize l[i]=f at*;have fb:R0 .i64 (f.x+f.w):=by obtain⟨⟨x1,x2⟩,_,⟨w1,w2⟩,_⟩:=W8;exact ao
   rw[<-hb]at Sd;apply sR;simp only[go_sem,seval,k0,k1,k2,k7,k8,k9,hn,q,SA,bl];refine aG hs λi10 XP To RZ f10 Uq hs=>?_;obtain⟨Ta,a7⟩:=RC a7 f10 To;obtain⟨VW,a8⟩:=RC a8 f10 To;simp only[go_sem,seval,RZ,a7,a8,k0,k1,k2,k7,k8,k9];generalize R5:C' _ i10 _=Y10;replace RZ:=SR R5;replace a7:=R6 R5 Ta a7;replace a8:=R6 R5 VW a8;replace hs:=SL R5 hs Uq;refine pR rfl (Ar f y high W8 hy hh _) ?_;cases hm:ep y high f
   .rw[aM (by rw[hm];simp)]at Sd;apply sR;simp only[go_sem,seval,k0,k1,k2,k7,k8,k9,a7,a8,RZ];exact⟨ao,_,by omega,i+1,b,by omega,rfl,Sd.symm,hs,by simp[k0,k1,k2,k7,k8]⟩
   .rw[aK hm]at Sd;unfold gI at Sd;by_cases UM:f.side=1
    .have q1:(f.side=1)=True:=RA UM;rw[aK UM]at Sd;apply sR;simp only[go_sem,seval,k0,k1,k2,k7,k8,k9,a7,a8,RZ,q1,fb,bW];exact⟨ao,_,by omega,i+1,_,by omega,rfl,Sd.symm,hs.aL z7,rfl,by first|rfl|exact a8|exact(ab VA.symm).trans a8|exact(ab VA).trans a8,by simp[k0,k1,k2,k7,k8]⟩
    .have q1:(f.side=1)=False:=H' UM;rw[aM UM]at Sd;apply sR;simp only[go_sem,seval,k0,k1,k2,k7,k8,k9,a7,a8,RZ,q1,eh];exact⟨ao,_,by omega,i+1,_,by omega,rfl,Sd.symm,hs.aL z7,rfl,by first|rfl|exact a8|exact(ab VA.symm).trans a8|exact(ab VA).trans a8,by simp[k0,k1,k2,k7,k8]⟩
  .have q:=qF u';obtain rfl:i=l.length:=by omega
   rw[ik]at hb;apply sR;simp only[go_sem,seval,k0,k1,k2,k7,k8,k9,hn,q,a7,a8];exact az.pure (hs.aL z8) (by rw[<-hb])
def CF(l:List RS)(y high:Int)(s:Sn)(hl:l.length<=1000000)(RP:∀f∈l,f.ok)(hy:SJ y)(hh:Bq high):aV prog 162 [bg l,vI y,vI high,aW s] (.RM [vI (cz l y high s).1,.bool (cz l y high s).2]):=λU=>by
 refine PM.q ?_;have hs:=aa.refl U;have hn:=jF l;refine mS 13 ?_;simp only[go_sem,seval,Lr,aW];refine aG hs λi7 Z7 s7 a7 f7 z7 hs=>?_;simp only[go_sem,seval,a7];refine aq.loop (λm st=>∃(i:Nat) (b:Int) (fd:Bool),i<=l.length/\m=l.length-i/\cz (l.take i) y high s=(b,fd)/\aa U st.U/\st.U i7=some ⟨195,2,[.agg [vI s.a,vI s.b]]⟩/\st.s 0=bg l/\st.s 1=vI y/\st.s 2=vI high/\st.s 7=.ptr i7 0 0/\st.s 10=vI b/\st.s 11=.bool fd/\st.s 12=vI i) l.length ?_ ?_
 .exact⟨0,0,false,by omega,rfl,rfl,hs,a7,rfl,rfl,rfl,rfl,rfl,rfl,rfl⟩
 .clear a7;rintro m ⟨S,J⟩ ⟨i,b,fd,hi,rfl,hb,hs,a7,k0,k1,k2,k7,SQ,TB,SF⟩;simp only at hs a7 k0 k1 k2 k7 SQ TB SF;refine aq.mix 13 ?_;by_cases u':i<l.length
  .have q:=qT u';have SA:=λU=>oe (U:=U) u';have Sd:=Bg (y:=y) (high:=high) (s:=s) u';have W8:=RP _ (Sx u');generalize l[i]=f at*;have fb:R0 .i64 (f.x+f.w):=by obtain⟨⟨x1,x2⟩,_,⟨w1,w2⟩,_⟩:=W8;exact ao
   have Vh:R0 .i64 (f.y+f.h):=by obtain⟨_,⟨x1,x2⟩,_,⟨w1,w2⟩⟩:=W8;exact ao
   rw[hb]at Sd;apply sR;simp only[go_sem,seval,k0,k1,k2,k7,SQ,TB,SF,hn,q,SA,bl];refine aG hs λi13 Y13 s13 Uw f13 z13 hs=>?_;obtain⟨n713,a7⟩:=RC a7 f13 s13;simp only[go_sem,seval,Uw,a7,k0,k1,k2,k7,SQ,TB,SF];generalize X6:C' _ i13 _=Z13;replace Uw:=SR X6;replace a7:=R6 X6 n713 a7;replace hs:=SL X6 hs z13;refine pR rfl (Ar f y high W8 hy hh _) ?_;have Xo:=Ev (f:=f) (s:=s);cases hm:ep y high f
   .rw[aM (by rw[hm];simp)]at Sd;apply sR;simp only[go_sem,seval,k0,k1,k2,k7,SQ,TB,SF,a7,Uw];exact⟨ao,_,by omega,i+1,_,_,by omega,rfl,Sd,hs,by simp[k0,k1,k2,k7,SQ,TB]⟩
   .rw[aK hm]at Sd;unfold iN at Sd;have go:¬gI f s=s->∀(c:Bool),c=(!fd||decide (f.y+f.h<b))->cz (l.take (i+1)) y high s=if c then(f.y+f.h,true)else(b,fd):=λh c hc=>by
     rw[Sd,hc];simp only[h,false_or];cases fd
     .simp
     .by_cases h2:f.y+f.h<b
      .simp[h2];try omega
      .simp[h2];try omega
    by_cases UM:f.side=1
    .have q1:(f.side=1)=True:=RA UM;have q1b:(f.side≠1)=False:=H' (λh=>h UM);by_cases hx:f.x+f.w<=s.a
     .have q2:(f.x+f.w<=s.a)=True:=RA hx;rw[aK (.inl (Xo.2 (.inl ⟨UM,hx⟩)))]at Sd;apply sR;simp only[go_sem,seval,k0,k1,k2,k7,SQ,TB,SF,a7,Uw,q1,q1b,q2,fb];exact⟨ao,_,by omega,i+1,_,_,by omega,rfl,Sd,hs,by simp[k0,k1,k2,k7,SQ,TB]⟩
     .have q2:(f.x+f.w<=s.a)=False:=H' hx;have RU:¬gI f s=s:=λe=>by rcases Xo.1 e with h|h;exact hx h.2;exact h.1 UM
      cases fd
      .have g:=go RU true rfl;apply sR;simp only[go_sem,seval,k0,k1,k2,k7,SQ,TB,SF,a7,Uw,q1,q1b,q2,fb,Vh];exact⟨ao,_,by omega,i+1,_,_,by omega,rfl,g,hs,by simp[k0,k1,k2,k7,SQ,TB]⟩
      .by_cases SD:f.y+f.h<b
       .have q3:(f.y+f.h<b)=True:=RA SD;have g:=go RU true (by simp[SD]);apply sR;simp only[go_sem,seval,k0,k1,k2,k7,SQ,TB,SF,a7,Uw,q1,q1b,q2,q3,fb,Vh];exact⟨ao,_,by omega,i+1,_,_,by omega,rfl,g,hs,by simp[k0,k1,k2,k7,SQ,TB]⟩
       .have q3:(f.y+f.h<b)=False:=H' SD;have g:=go RU false (by simp[SD]);apply sR;simp only[go_sem,seval,k0,k1,k2,k7,SQ,TB,SF,a7,Uw,q1,q1b,q2,q3,fb,Vh];exact⟨ao,_,by omega,i+1,_,_,by omega,rfl,g,hs,by simp[k0,k1,k2,k7,SQ,TB]⟩
    .have q1:(f.side=1)=False:=H' UM;have q1b:(f.side≠1)=True:=RA UM;by_cases hx:f.x>=s.b
     .have q2:(f.x>=s.b)=True:=RA hx;rw[aK (.inl (Xo.2 (.inr ⟨UM,hx⟩)))]at Sd;apply sR;simp only[go_sem,seval,k0,k1,k2,k7,SQ,TB,SF,a7,Uw,q1,q1b,q2,fb];exact⟨ao,_,by omega,i+1,_,_,by omega,rfl,Sd,hs,by simp[k0,k1,k2,k7,SQ,TB]⟩
     .have q2:(f.x>=s.b)=False:=H' hx;have RU:¬gI f s=s:=λe=>by rcases Xo.1 e with h|h;exact UM h.1;exact hx h.2
      cases fd
      .have g:=go RU true rfl;apply sR;simp only[go_sem,seval,k0,k1,k2,k7,SQ,TB,SF,a7,Uw,q1,q1b,q2,fb,Vh];exact⟨ao,_,by omega,i+1,_,_,by omega,rfl,g,hs,by simp[k0,k1,k2,k7,SQ,TB]⟩
      .by_cases SD:f.y+f.h<b
       .have q3:(f.y+f.h<b)=True:=RA SD;have g:=go RU true (by simp[SD]);apply sR;simp only[go_sem,seval,k0,k1,k2,k7,SQ,TB,SF,a7,Uw,q1,q1b,q2,q3,fb,Vh];exact⟨ao,_,by omega,i+1,_,_,by omega,rfl,g,hs,by simp[k0,k1,k2,k7,SQ,TB]⟩
       .have q3:(f.y+f.h<b)=False:=H' SD;have g:=go RU false (by simp[SD]);apply sR;simp only[go_sem,seval,k0,k1,k2,k7,SQ,TB,SF,a7,Uw,q1,q1b,q2,q3,fb,Vh];exact⟨ao,_,by omega,i+1,_,_,by omega,rfl,g,hs,by simp[k0,k1,k2,k7,SQ,TB]⟩
  .have q:=qF u';obtain rfl:i=l.length:=by omega
   rw[ik]at hb;apply sR;simp only[go_sem,seval,k0,k1,k2,k7,SQ,TB,SF,hn,q,a7];exact az.pure hs (by rw[hb])
def La(l:List RS)(hl:l.length<=1000000):aV prog 197 [bg l] (.RM [vI (cu kR l).1,.bool (cu kR l).2]):=λU=>by
 refine Q6.q ?_;have hs:=aa.refl U;have hn:=jF l;refine mS 6 ?_;simp only[go_sem,seval,OM];refine aq.loop (λm st=>∃(i:Nat) (b:Int),i<=l.length/\m=l.length-i/\cu kR (l.take i)=(b,decide (0<i))/\aa U st.U/\st.s 0=bg l/\st.s 4=vI b/\st.s 5=vI i) l.length ?_ ?_
 .exact⟨0,0,by omega,rfl,rfl,hs,rfl,rfl,rfl⟩
 .rintro m ⟨S,J⟩ ⟨i,b,hi,rfl,hb,hs,k0,k4,k5⟩;simp only at hs k0 k4 k5;refine aq.mix 6 ?_;by_cases u':i<l.length
  .have q:=qT u';have SA:=λU=>oe (U:=U) u';have Sd:=uf (tell:=kR) u';generalize l[i]=f at*;rw[hb]at Sd;have hd:decide (0<i+1)=true:=Tl (by omega);by_cases h0:i=0
   .have q0:((i:Int)=0)=True:=RA;have Wm:decide (0<i)=false:=Tw (by omega);have e:gU kR (b,decide (0<i)) f=(f.y,decide (0<i+1)):=by rw[hd,Wm];simp[gU,kR]
    rw[e]at Sd;apply sR;simp only[go_sem,seval,k0,k4,k5,hn,q,q0,SA,bl];exact⟨ao,_,by omega,i+1,_,by omega,rfl,Sd,hs,by simp[k0]⟩
   .have q0:((i:Int)=0)=False:=H';have Wm:decide (0<i)=true:=Tl (by omega);rw[Wm]at Sd;by_cases h1:f.y>b
    .have q1:(f.y>b)=True:=RA h1;have e:gU kR (b,true) f=(f.y,decide (0<i+1)):=by rw[hd];simp[gU,kR,h1]
     rw[e]at Sd;apply sR;simp only[go_sem,seval,k0,k4,k5,hn,q,q0,q1,SA,bl];exact⟨ao,_,by omega,i+1,_,by omega,rfl,Sd,hs,by simp[k0]⟩
    .have q1:(f.y>b)=False:=H' h1;have e:gU kR (b,true) f=(b,decide (0<i+1)):=by rw[hd];simp[gU,kR,h1]
     rw[e]at Sd;apply sR;simp only[go_sem,seval,k0,k4,k5,hn,q,q0,q1,SA,bl];exact⟨ao,_,by omega,i+1,_,by omega,rfl,Sd,hs,by simp[k0,k4]⟩
  .have q:=qF u';obtain rfl:i=l.length:=by omega
   rw[ik]at hb;apply sR;simp only[go_sem,seval,k0,k4,k5,hn,q];exact az.pure hs (by rw[hb];simp)
open Go.Proofs
def Cw(l:List RS)(w high:Int)(s:Sn)(hl:l.length<=1000000)(RP:∀f∈l,f.ok)(hh:Bq high)(Tg:SJ s.a/\SJ s.b):∀(n:Nat) (y:Int),WH l y<n->SJ y->
 aV prog 134 [bg l,vI w,vI high,vI y,aW s] (.RM [aW (bM l (fN l w high s y) high s),vI (fN l w high s y)]):=by
 intro n
 induction n with
 |zero=>intro y h;omega
 |succ n ih=>?_
 intro y hn hy U;refine Pb.q ?_;have hs:=aa.refl U;refine mS 13 ?_;simp only[go_sem,seval,Lq,aW];refine aG hs λi9 Y9 s9 a9 f9 z9 hs=>?_;simp only[go_sem,seval,a9];refine aG hs λi10 XP To RZ f10 Uq hs=>?_;obtain⟨UU,a9⟩:=RC a9 f10 To;simp only[go_sem,seval,RZ,a9];refine pR rfl (G4 l y high s hl RP hy hh _) ?_;have V7:=jf (y:=y) (high:=high) RP Tg;have U2:=Gf (l:=l) (w:=w) (high:=high) (y:=y) (s:=s);obtain⟨b,hb⟩:∃b,b=bM l y high s:=⟨_,rfl⟩
 rw[<-hb]at U2 V7|-;apply sR;simp only[go_sem,seval,RZ,a9,aW];refine aG hs λi12 Y12 Xt a12 f12 z12 hs=>?_;obtain⟨XR,a9⟩:=RC a9 f12 Xt;obtain⟨VB,RZ⟩:=RC RZ f12 Xt;simp only[go_sem,seval,a12,RZ,a9,aW,ab XR,ab VB];generalize Tj:C' _ i12 _=Z12;replace a12:=SR Tj;replace a9:=R6 Tj XR a9;replace RZ:=R6 Tj VB RZ;replace hs:=SL Tj hs z12;refine pR rfl (CF l y high s hl RP hy hh _) ?_;cases WT:(cz l y high s).2
 .rw[WT]at U2;rw[aK (.inl rfl)]at U2;rw[U2,<-hb];apply sR;simp only[go_sem,seval,a12,RZ,a9,aW];exact az.pure (hs.aL Uq) rfl
 .have hdec:=my (eW WT);have hnb:=x9 RP WT;rw[WT]at U2;apply sR;simp only[go_sem,seval,a12,RZ,a9,aW];refine pR rfl (BT b V7.1 V7.2 _) ?_;by_cases hw:w<=fj b
  .have q:(fj b>=w)=True:=RA hw;rw[aK (.inr hw)]at U2;rw[U2,<-hb];apply sR;simp only[go_sem,seval,a12,RZ,a9,aW,q];exact az.pure (hs.aL Uq) rfl
  .have q:(fj b>=w)=False:=H' hw;rw[aM (by simp[hw])]at U2;rw[U2];apply sR;simp only[go_sem,seval,a12,RZ,a9,aW,q];refine pS rfl (ih _ (by omega) hnb _) ?_;simp only[go_sem,seval,a12,RZ,a9,aW];exact az.pure (hs.aL Uq) rfl
open Go.Proofs
def HQ(fs:List RS)(f:RS)(y:Int)(s:Sn)(hl:fs.length<=1000000)(RP:∀f∈fs,f.ok)(hy:SJ y)(hh:Bq f.h)(hw:Bq f.w)(Tg:SJ s.a/\SJ s.b):
 aV prog 164 [bg fs,bl f,vI y,aW s] (.RM [vI (lT fs f y s),vI (jT fs f y s)]):=λU=>by
 refine Qi.q ?_;have hs:=aa.refl U;have hn:=jF fs;refine mS 15 ?_;simp only[go_sem,seval,LF,bl,aW];refine aG hs λi5 Z5 s5 a5 f5 z5 hs=>?_;simp only[go_sem,seval,a5];refine aG hs λi7 Z7 s7 a7 f7 z7 hs=>?_;obtain⟨n57,a5⟩:=RC a5 f7 s7;simp only[go_sem,seval,a7,a5];refine pR rfl (La fs hl _) ?_;have Vu:=Cu (y:=y) RP hy;obtain⟨Y,hY⟩:∃Y,Y=jT fs f y s:=⟨_,rfl⟩
 have hX:lT fs f y s=if f.side=1 then(bM fs Y f.h s).a else max (bM fs Y f.h s).a ((bM fs Y f.h s).b-f.w):=by rw[hY];rfl
 rw[hX,<-hY];have hYd:Y=iM fs f.w f.h s fs.length (mP fs y):=hY;clear hX hY;have V7:=jf (y:=Y) (high:=f.h) RP Tg;obtain⟨z,hz⟩:∃z,z=mP fs y:=⟨_,rfl⟩
 rw[<-hz]at hYd Vu;unfold mP at hz;generalize hS:cu kR fs=S at*;obtain⟨t,sm⟩:=S;simp only at hz;clear hS;rcases(show(sm=false/\z=y)\/(sm=true/\¬t>y/\z=y)\/(sm=true/\t>y/\z=t) by
  cases sm
  .exact .inl ⟨rfl,hz⟩
  .by_cases h:t>y
   .exact .inr (.inr ⟨rfl,h,by rw[hz];simp;omega⟩)
   .exact .inr (.inl ⟨rfl,h,by rw[hz];simp;omega⟩))with⟨rfl,rfl⟩|⟨rfl,hgt,rfl⟩|⟨rfl,hgt,rfl⟩
 case' inl=>
  apply sR;simp only[go_sem,seval,a7,a5]
 case' inr.inl=>
  have q:(t>z)=False:=H' hgt;apply sR;simp only[go_sem,seval,a7,a5,q]
 case' inr.inr=>
  have q:(z>y)=True:=RA hgt;apply sR;simp only[go_sem,seval,a7,a5,q]
 all_goals
  refine aq.kE (λst=>aa U st.U/\st.U i5=some ⟨137,7,[.agg [vI f.node,vI f.side,vI f.anchor,vI f.x,vI f.y,vI f.w,vI f.h]]⟩/\st.U i7=some ⟨195,2,[.agg [vI s.a,vI s.b]]⟩/\st.s 0=bg fs/\st.s 2=vI Y/\st.s 5=.ptr i5 0 0/\st.s 7=.ptr i7 0 0/\SJ Y)
   (λm st=>∃(y':Int) (i k:Nat),m=WH fs y'/\i+k=fs.length/\WH fs y'<=k/\Y=iM fs f.w f.h s k y'/\SJ y'/\aa U st.U/\st.U i5=some ⟨137,7,[.agg [vI f.node,vI f.side,vI f.anchor,vI f.x,vI f.y,vI f.w,vI f.h]]⟩/\st.U i7=some ⟨195,2,[.agg [vI s.a,vI s.b]]⟩/\st.s 0=bg fs/\st.s 2=vI y'/\st.s 5=.ptr i5 0 0/\st.s 7=.ptr i7 0 0/\st.s 12=vI i) (WH fs z) ?_ ?_ ?_
  .exact⟨z,0,fs.length,rfl,by omega,EJ _ _,hYd,Vu,hs,a5,a7,rfl,rfl,rfl,rfl,rfl⟩
  .clear a5 a7 hYd Vu;rintro m ⟨S,J⟩ ⟨y',i,k,rfl,hik,hk,hYd,Vu,hs,a5,a7,k0,k2,k5,k7,SF⟩;simp only at hs a5 a7 k0 k2 k5 k7 SF;refine aq.mix 15 ?_;have q:((i:Int)<=fs.length)=True:=RA;have Sh:=jf (y:=y') (high:=f.h) RP Tg;apply sR;simp only[go_sem,seval,k0,k2,k5,k7,SF,hn,q,a5,a7];refine pJ rfl (G4 fs y' f.h s hl RP Vu hh) ?_;apply sG;simp only[go_sem,seval,k0,k2,k5,k7,SF,a5,a7];refine pJ rfl (BT _ Sh.1 Sh.2) ?_;by_cases hle:fj (bM fs y' f.h s)>=f.w
   .have q1:(fj (bM fs y' f.h s)>=f.w)=True:=RA hle;rw[uh (og.2 (.inr hle))]at hYd;subst hYd;apply sG;simp only[go_sem,seval,k0,k2,k5,k7,SF,a5,a7,q1];exact⟨hs,Vu⟩
   .have q1:(fj (bM fs y' f.h s)>=f.w)=False:=H' hle;apply sG;simp only[go_sem,seval,k0,k2,k5,k7,SF,a5,a7,q1];refine pR rfl (CF fs y' f.h s hl RP Vu hh _) ?_;cases WT:(cz fs y' f.h s).2
    .rw[uh (og.2 (.inl WT))]at hYd;subst hYd;apply sR;simp only[go_sem,seval,k0,k2,k5,k7,SF,a5,a7];exact⟨hs,Vu⟩
    .have hdb:kK fs f.w f.h s y'=false:=by
      rw[Bool.eq_false_iff];intro e;rcases og.1 e with e|e
      .rw[WT]at e;cases e
      .exact hle e
     obtain⟨k',rfl,h1,h2⟩:=Fq hk hdb;have hdec:=my (eW WT);apply sR;simp only[go_sem,seval,k0,k2,k5,k7,SF,a5,a7];exact⟨ao,_,hdec,_,i+1,k',rfl,by omega,h1,by rw[hYd,h2],x9 RP WT,hs,by simp[k0,k5,k7]⟩
  .clear a5 a7 hYd Vu;rintro⟨S,J⟩ ⟨hs,a5,a7,k0,k2,k5,k7,hYq⟩;simp only at hs a5 a7 k0 k2 k5 k7;refine aq.mix 15 ?_;have V7:=V7;apply sR;simp only[go_sem,seval,k0,k2,k5,k7,a5,a7];refine pR rfl (G4 fs Y f.h s hl RP hYq hh _) ?_;obtain⟨b,hb⟩:∃b,b=bM fs Y f.h s:=⟨_,rfl⟩
   rw[<-hb]at V7|-;obtain⟨⟨b1,b2⟩,b3,b4⟩:=V7;obtain⟨w1,w2⟩:=hw;apply sR;simp only[go_sem,seval,k0,k2,k5,k7,a5,a7,aW];refine aG hs λi15 Z15 Xa US f15 z15 hs=>?_;obtain⟨n515,a5⟩:=RC a5 f15 Xa;obtain⟨n715,a7⟩:=RC a7 f15 Xa;by_cases UM:f.side=1
   .have q1:(f.side=1)=True:=RA UM;rw[aK UM];simp only[go_sem,seval,US,a5,a7,k0,k2,k5,k7,q1,ab n515,ab n715];exact az.pure (hs.aL z15) rfl
   .have q1:(f.side=1)=False:=H' UM;rw[aM UM];have r1:R0 .i64 (b.b-f.w):=ao;simp only[go_sem,seval,US,a5,a7,k0,k2,k5,k7,q1,r1,bW,ab n515,ab n715];exact az.pure (hs.aL z15) rfl
open Go.Proofs
def yi(ws:List Int)(i k:Nat):Int:=wg ((ws.take k).drop i)
def uZ(ws:List Int)(i:Nat):yi ws i i=0:=by
 unfold yi;rw[List.drop_of_length_le (by rw[lQ];omega)];rfl
def wR{ws:List Int}{i k:Nat}(hik:i<=k)(h:k<ws.length):yi ws i (k+1)=yi ws i k+ws[k]:=by
 unfold yi;rw[U0 h,Ad (by simp;omega),sJ,vj]
def zU{ws:List Int}{space:Int}(h:WOk ws space){i:Nat}:∀d:Nat,i+d<=ws.length->0<=yi ws i (i+d)/\yi ws i (i+d)<=1099511627776*d
 |0,_=>by rw[Nat.add_zero,uZ];omega
 |d+1,hd=>by
  have ih:=zU h d (i:=i) (by omega);have hx:=h.get (i:=i+d) (by omega);rw[<-Nat.add_assoc,wR (by omega) (by omega)];omega
def xy(ws:List Int)(space:Int)(hw:WOk ws space)(i j:Nat)(Xu:i<j)(hj:j<=ws.length):aV prog 221 [aX ws,vI space,vI i,vI j] (vI (jU ws space i j)):=λU=>by
 refine Rx.q ?_;have hs:=aa.refl U;have hn:=db ws;have T1:=hw.len;obtain⟨s0,s1⟩:0<=space/\space<=1099511627776:=⟨hw.s0,hw.s1⟩
 obtain⟨P,hP⟩:∃P:Int,P=((j:Int)-i-1)*space:=⟨_,rfl⟩
 have p0:0<=P:=by rw[hP];exact Int.mul_nonneg (by omega) s0
 have p1:P<=100000*1099511627776:=by rw[hP];exact Int.mul_le_mul (by omega) s1 s0 (by omega)
 have q1:((i:Int)<0)=False:=H';have q2:((i:Int)>=ws.length)=False:=H';have q3:((j:Int)<=i)=False:=H';have q4:((j:Int)>ws.length)=False:=H';have r1:R0 .i64 ((j:Int)-i):=ao;have r2:R0 .i64 ((j:Int)-i-1):=ao;have r3:R0 .i64 P:=ao;have hP':=hP.symm;refine mS 11 ?_;simp only[go_sem,seval,Mt,hn,q1,q2,q3,q4,r1,r2,r3,hP'];refine aq.loop (λm st=>∃d:Nat,i+d<=j/\m=j-(i+d)/\aa U st.U/\st.s 0=aX ws/\st.s 3=vI j/\st.s 9=vI (P+yi ws i (i+d))/\st.s 10=vI (i+d:Nat)) (j-i) ?_ ?_
 .exact⟨0,by omega,rfl,hs,rfl,rfl,by rw[Nat.add_zero,uZ,Int.add_zero];rfl,rfl⟩
 .rintro m ⟨S,J⟩ ⟨d,hd,rfl,hs,k0,k3,k9,SQ⟩;simp only at hs k0 k3 k9 SQ;refine aq.mix 11 ?_;by_cases u':i+d<j
  .have q:(((i+d:Nat):Int)<j)=True:=RA;have Wh:i+d<ws.length:=by omega
   have SA:=λU=>dp (U:=U) Wh;have hsr:=zU hw (i:=i) d (by omega);have hsc:=wR (ws:=ws) (i:=i) (k:=i+d) (by omega) Wh;have hx:=hw.get Wh;generalize ws[i+d]=x at*;have r4:R0 .i64 (P+yi ws i (i+d)+x):=ao;have r5:R0 .i64 (((i+d:Nat):Int)+1):=ao;apply sR;simp only[go_sem,seval,k0,k3,k9,SQ,q,SA,r4,r5];exact⟨_,by omega,d+1,by omega,rfl,hs,by rw[<-Nat.add_assoc,hsc];simp[vI];omega,by simp[vI];omega⟩
  .have q:(((i+d:Nat):Int)<j)=False:=H';have e:i+d=j:=by omega
   rw[e]at k9 SQ q;apply sR;simp only[go_sem,seval,k0,k3,k9,SQ,q];refine az.pure hs ?_;unfold jU;rw[<-hP];rfl
def Hx(ws:List Int)(space width:Int)(hw:WOk ws space)(i:Nat)(hi:i<ws.length):aV prog 194 [aX ws,vI space,vI width,vI i] (rZ i (iW ws space width i).1 (iW ws space width i).2):=λU=>by
 refine Qu.q ?_;have hs:=aa.refl U;have hn:=db ws;have T1:=hw.len;have q1:((i:Int)<0)=False:=H';have q2:((i:Int)>=ws.length)=False:=H';have r1:=rI i;refine mS 10 ?_;simp only[go_sem,seval,LR];refine aG hs λi8 Z8 s8 a8 f8 z8 hs=>?_;simp only[go_sem,seval,hn,q1,q2,r1];have h0:iW ws space width i=kB space width (ws.drop (i+1)) (i+1) (jU ws space i (i+1)):=by
  rw[Dt hi];unfold iW;simp[hi]
 obtain⟨T,hT⟩:∃T,T=iW ws space width i:=⟨_,rfl⟩
 rw[<-hT]at h0|-;refine aq.loop (λm st=>∃j:Nat,i<j/\j<=ws.length/\m=ws.length-j/\T=kB space width (ws.drop j) j (jU ws space i j)/\aa U st.U/\st.U i8=some ⟨263,3,[.agg [vI 0,vI 0,vI 0]]⟩/\st.s 0=aX ws/\st.s 1=vI space/\st.s 2=vI width/\st.s 3=vI i/\st.s 8=.ptr i8 0 0/\st.s 9=vI j) (ws.length-(i+1)) ?_ ?_
 .exact⟨i+1,by omega,by omega,rfl,h0,hs,a8,rfl,rfl,rfl,rfl,rfl,rfl⟩
 .clear a8;rintro m ⟨S,J⟩ ⟨j,Xu,hj,rfl,hTj,hs,a8,k0,k1,k2,k3,k8,k9⟩;simp only at hs a8 k0 k1 k2 k3 k8 k9;refine aq.mix 10 ?_;have RR:=BJ (ws:=ws) (space:=space) (width:=width) Xu;rw[<-hTj]at RR;by_cases u':j<ws.length
  .have q:=qT u';have r2:=rI j;apply sR;simp only[go_sem,seval,k0,k1,k2,k3,k8,k9,q,hn,r2];refine pR rfl (xy ws space hw i (j+1) (by omega) (by omega) _) ?_;by_cases hle:jU ws space i (j+1)<=width
   .have q3:(jU ws space i (j+1)<=width)=True:=RA hle;rw[aK ⟨u',hle⟩]at RR;apply sR;simp only[go_sem,seval,k0,k1,k2,k3,k8,k9,q3,r2];exact⟨_,by omega,j+1,by omega,by omega,rfl,RR,hs,a8,by simp[k0,k1,k2,k3,k8]⟩
   .have q3:(jU ws space i (j+1)<=width)=False:=H' hle;rw[aM (λh=>hle h.2)]at RR;apply sR;simp only[go_sem,seval,k0,k1,k2,k3,k8,k9,q3];refine pS rfl (xy ws space hw i j Xu hj _) ?_;simp only[go_sem,seval,k0,k1,k2,k3,k8,k9,a8];rw[RR];exact az.pure (hs.aL z8) rfl
  .have q:=qF u';rw[aM (λh=>u' h.1)]at RR;apply sR;simp only[go_sem,seval,k0,k1,k2,k3,k8,k9,q,hn];refine pS rfl (xy ws space hw i j Xu hj _) ?_;simp only[go_sem,seval,k0,k1,k2,k3,k8,k9,a8];rw[RR];exact az.pure (hs.aL z8) rfl
open Go.Proofs
def F1(l:List RS)(w high y:Int)(s:Sn)(hl:l.length<=1000000)(RP:∀f∈l,f.ok)(hy:SJ y)(hh:Bq high)(Tg:SJ s.a/\SJ s.b):
 aV prog 134 [bg l,vI w,vI high,vI y,aW s] (.RM [aW (bM l (fN l w high s y) high s),vI (fN l w high s y)]):=Cw l w high s hl RP hh Tg (WH l y+1) y (Nat.lt_succ_self _) hy
def I4(fs:List RS)(ws:List Int)(space high:Int)(i:Nat)(y:Int)(s:Sn)(hl:fs.length<=1000000)(RP:∀f∈fs,f.ok)(hy:SJ y)(hh:Bq high)(Tg:SJ s.a/\SJ s.b)(hw:WOk ws space)(hi:i<ws.length):
 aV prog 160 [bg fs,aX ws,vI space,vI high,vI i,vI y,aW s] (iX (lP fs ws space high i y s)):=λU=>by
 refine Ph.q ?_;have hs:=aa.refl U;have hn:=db ws;have RF:=λU=>dp (U:=U) hi;have q0:((i:Int)<0)=False:=H';have q1:((i:Int)>=ws.length)=False:=H';refine mS 18 ?_;simp only[go_sem,seval,NF,aW];refine aG hs λi13 Y13 s13 Uw f13 z13 hs=>?_;simp only[go_sem,seval,Uw];refine aG hs λi14 Z14 s14 U7 f14 z14 hs=>?_;obtain⟨n1314,Uw⟩:=RC Uw f14 s14;simp only[go_sem,seval,U7,Uw,hn,RF,q0,q1];have Vo:ws.getD i 0=ws[i]:=by simp[hi]
 obtain⟨Sl,UK⟩:∃a,a=fN fs ws[i] high s y:=⟨_,rfl⟩
 have U2:=F1 fs ws[i] high y s hl RP hy hh Tg;rw[<-UK]at U2;have V7:=jf (y:=Sl) (high:=high) RP Tg;unfold lP;rw[Vo];simp only;rw[<-UK];obtain⟨b,hb⟩:∃b,b=bM fs Sl high s:=⟨_,rfl⟩
 rw[<-hb]at U2 V7|-;refine pJ rfl U2 ?_;apply sG;simp only[go_sem,seval,aW];refine wx hs λi15 Z15 Xa US f15 z15 hs=>?_;obtain⟨n1315,Uw⟩:=RC Uw f15 Xa;obtain⟨n1415,U7⟩:=RC U7 f15 Xa;simp only[go_sem,seval,US,U7,Uw,aW];generalize Tv:C' _ i15 _=Y15;replace US:=SR Tv;replace Uw:=R6 Tv n1315 Uw;replace U7:=R6 Tv n1415 U7;replace hs:=SL Tv hs z15;refine pS rfl (BT b V7.1 V7.2 _) ?_;simp only[go_sem,seval];refine pS rfl (Hx ws space (fj b) hw i hi _) ?_;simp only[go_sem,seval,rZ];refine aG hs λi17 Z17 s17 a17 f17 z17 hs=>?_;obtain⟨n1317,Uw⟩:=RC Uw f17 s17;obtain⟨n1417,U7⟩:=RC U7 f17 s17;obtain⟨n1517,US⟩:=RC US f17 s17;simp only[go_sem,seval,a17,US,U7,ab n1317,ab n1417,ab n1517];exact az.pure ((hs.aL z17).aL z14) rfl
def Hf(p:Pn)(low:Int)(h1:Bq p.y)(h2:Bq p.m):aV prog 130 [dd p,vI low] (dd (eC p low)):=λU=>by
 obtain⟨g1,g2⟩:=h1;obtain⟨g3,g4⟩:=h2;refine QG.q ?_;have hs:=aa.refl U;have r1:R0 .i64 (p.y+p.m):=ao;refine mS 5 ?_;simp only[go_sem,seval,Mp,dd];refine aG hs λi2 Z2 s2 a2 f2 z2 hs=>?_;simp only[go_sem,seval,a2];refine aG hs λi4 Z4 s4 a4 f4 z4 hs=>?_;obtain⟨YW,a2⟩:=RC a2 f4 s4;unfold eC;by_cases h:low>p.y+p.m
 .have q:(low>p.y+p.m)=True:=RA h;rw[aK h];simp only[go_sem,seval,a4,a2,q,r1,ab YW,ab YW.symm];exact az.pure (hs.aL z4) rfl
 .have q:(low>p.y+p.m)=False:=H' h;rw[aM h];simp only[go_sem,seval,a4,a2,q,r1,ab YW,ab YW.symm];exact az.pure (hs.aL z4) rfl
def Hb(l:List Nd)(hb:Sc l=true)(hn:l.length<=2000)(w:Int)(hw1:1<=w)(U3:w<=1099511627776):∀(n a:Nat),a<n->a<l.length->aV prog 128 [aQ l,vI a,vI w] (jQ (kT l w a)):=by
 intro n
 induction n with
 |zero=>intro a h;omega
 |succ n ih=>?_
 intro a han ha U;refine PN.q ?_;have hs:=aa.refl U;refine mS 10 ?_;simp only[go_sem,seval,Nl];refine aG hs λi6 Z6 s6 a6 f6 z6 hs=>?_;simp only[go_sem,seval,a6];refine pR rfl (yY l (by omega) a ha _) ?_;have hrg:=dR l a;have heq:=Aa (l:=l) (w:=w) (a:=a);by_cases hp:cS l a<0
 .have q:(cS l a<0)=True:=RA hp;rw[aK hp]at heq;rw[heq];apply sR;simp only[go_sem,seval,a6,q];exact az.pure (hs.aL z6) rfl
 .have q:(cS l a<0)=False:=H' hp;rw[aM hp]at heq;obtain⟨p,hpe⟩:∃p:Nat,cS l a=p:=⟨(cS l a).toNat,by omega⟩
  have V2:p<l.length:=by omega
  rw[hpe]at q heq;rw[gu]at heq;have RP:=yT hb hn hw1 U3 V2;obtain⟨k1,k2,k3,k4⟩:=RP;have hins:sT l p=l[p].st.Si:=by simp[sT,V2]
  have RR:=(eJ hb V2).st.Si;have SA:=λU=>bI (U:=U) V2;rw[heq];unfold jz;rw[hins];apply sR;simp only[go_sem,seval,a6,hpe,q];refine pR rfl (ih p (by omega) V2 _) ?_;generalize kT l w p=r at*;generalize l[p]=nd at*;have r1:R0 .i64 (r.x+nd.st.Si):=ao;have r2:R0 .i64 (r.w-nd.st.Si):=ao;have r3:R0 .i64 (r.w-nd.st.Si-nd.st.Si):=ao;have e3:r.w-2*nd.st.Si=r.w-nd.st.Si-nd.st.Si:=by omega
  rw[e3];apply sR;simp only[go_sem,seval,a6,jQ];refine aG hs λi8 Z8 s8 a8 f8 z8 hs=>?_;obtain⟨VU,a6⟩:=RC a6 f8 s8;simp only[go_sem,seval,a8,a6,SA,Nd.cells,r1,r2,r3,eh,bW,ab VU,ab VU.symm];exact az.pure ((hs.aL z8).aL z6) rfl
open Go.Proofs
def zO(p:Pn)(Sw pad:Int)(h1:Bq p.y)(h2:Bq p.m)(h3:Bq Sw)(h4:Bq pad):aV prog 131 [dd p,vI Sw,vI pad] (dd (dK p Sw pad)):=λU=>by
 obtain⟨g1,g2⟩:=h1;obtain⟨g3,g4⟩:=h2;obtain⟨g5,g6⟩:=h3;obtain⟨g7,g8⟩:=h4;refine P6.q ?_;have hs:=aa.refl U;obtain⟨py,pm⟩:=p;simp only at g1 g2 g3 g4;unfold dK;have r1:R0 .i64 (py+pm):=ao;have r2:R0 .i64 (py+pm+pad):=ao;have r3:R0 .i64 (py+Sw):=ao;have r4:R0 .i64 (py+Sw+pad):=ao;refine mS 7 ?_;simp only[go_sem,seval,OK,dd];refine aG hs λi3 Z3 s3 a3 f3 z3 hs=>?_;simp only[go_sem,seval,a3];refine aG hs λi6 Z6 s6 a6 f6 z6 hs=>?_;obtain⟨Xv,a3⟩:=RC a3 f6 s6;by_cases hm:Sw>pm
 .have q1:(Sw>pm)=True:=RA hm;have e:max pm Sw=Sw:=by omega
  by_cases hp:pad>0
  .have q2:(pad>0)=True:=RA hp;simp only[go_sem,seval,a6,a3,q1,q2,r3,r4,ab Xv,ab Xv.symm];exact az.pure ((hs.aL z3).aL z6) (by unfold kM;simp[hp,e,vI]<;>omega)
  .have q2:(pad>0)=False:=H' hp;simp only[go_sem,seval,a6,a3,q1,q2,r3,r4,ab Xv,ab Xv.symm];exact az.pure ((hs.aL z3).aL z6) (by unfold kM;simp[hp,e,vI]<;>omega)
 .have q1:(Sw>pm)=False:=H' hm;have e:max pm Sw=pm:=by omega
  by_cases hp:pad>0
  .have q2:(pad>0)=True:=RA hp;simp only[go_sem,seval,a6,a3,q1,q2,r1,r2,ab Xv,ab Xv.symm];exact az.pure (hs.aL z6) (by unfold kM;simp[hp,e,vI]<;>omega)
  .have q2:(pad>0)=False:=H' hp;simp only[go_sem,seval,a6,a3,q1,q2,r1,r2,ab Xv,ab Xv.symm];exact az.pure (hs.aL z6) (by unfold kM;simp[hp,e,vI]<;>omega)
def zV(p:Pn)(Sw pad:Int)(h1:Bq p.y)(h2:Bq p.m)(h3:Bq Sw)(h4:Bq pad):aV prog 132 [dd p,vI Sw,vI pad] (dd (j7 p Sw pad)):=λU=>by
 obtain⟨g1,g2⟩:=h1;obtain⟨g3,g4⟩:=h2;obtain⟨g5,g6⟩:=h3;obtain⟨g7,g8⟩:=h4;refine PE.q ?_;have hs:=aa.refl U;obtain⟨py,pm⟩:=p;simp only at g1 g2 g3 g4;unfold j7;have r1:R0 .i64 (py+pm):=ao;have r2:R0 .i64 (py+pm+pad):=ao;refine mS 7 ?_;simp only[go_sem,seval,No,dd];refine aG hs λi3 Z3 s3 a3 f3 z3 hs=>?_;simp only[go_sem,seval,a3];refine aG hs λi6 Z6 s6 a6 f6 z6 hs=>?_;obtain⟨Xv,a3⟩:=RC a3 f6 s6;by_cases hp:pad>0
 .have q2:(pad>0)=True:=RA hp;by_cases hm:Sw>0
  .have q1:(Sw>0)=True:=RA hm;simp only[go_sem,seval,a6,a3,q1,q2,r1,r2,ab Xv,ab Xv.symm];exact az.pure ((hs.aL z3).aL z6) (by unfold kM;simp[hp,vI]<;>omega)
  .have q1:(Sw>0)=False:=H' hm;simp only[go_sem,seval,a6,a3,q1,q2,r1,r2,ab Xv,ab Xv.symm];exact az.pure ((hs.aL z3).aL z6) (by unfold kM;simp[hp,vI]<;>omega)
 .have q2:(pad>0)=False:=H' hp;by_cases hm:Sw>pm
  .have q1:(Sw>pm)=True:=RA hm;simp only[go_sem,seval,a6,a3,q1,q2,r1,r2,ab Xv,ab Xv.symm];exact az.pure ((hs.aL z3).aL z6) (by unfold kM;simp[hp,vI]<;>omega)
  .have q1:(Sw>pm)=False:=H' hm;simp only[go_sem,seval,a6,a3,q1,q2,r1,r2,ab Xv,ab Xv.symm];exact az.pure (hs.aL z6) (by unfold kM;simp[hp,vI]<;>omega)
open Go.Proofs
def Gg{U:ak}{id e sz:Nat}(h:U id=some ⟨e,sz,[]⟩):cm U e sz (.own id 0 0)=some ([],some id):=by
 simp only[cm,h];rw[aK (by simp)];simp
def Ef(l:List RS)(SN:Int)(hl:l.length<=1000000)(RP:∀f∈l,f.ok):aV prog 129 [bg l,vI SN] (.RM [vI (cu (fI SN) l).1,.bool (cu (fI SN) l).2]):=λU=>by
 refine QT.q ?_;have hs:=aa.refl U;have hn:=jF l;refine mS 9 ?_;simp only[go_sem,seval,Oz];refine aq.loop (λm st=>∃(i:Nat) (b:Int) (fd:Bool),i<=l.length/\m=l.length-i/\cu (fI SN) (l.take i)=(b,fd)/\aa U st.U/\st.s 0=bg l/\st.s 1=vI SN/\st.s 6=vI b/\st.s 7=.bool fd/\st.s 8=vI i) l.length ?_ ?_
 .exact⟨0,0,false,by omega,rfl,rfl,hs,rfl,rfl,rfl,rfl,rfl⟩
 .rintro m ⟨S,J⟩ ⟨i,b,fd,hi,rfl,hb,hs,k0,k1,k6,k7,k8⟩;simp only at hs k0 k1 k6 k7 k8;refine aq.mix 9 ?_;by_cases u':i<l.length
  .have q:=qT u';have SA:=λU=>oe (U:=U) u';have Sd:=uf (tell:=fI SN) u';have W8:=RP _ (Sx u');generalize l[i]=f at*;have Vh:R0 .i64 (f.y+f.h):=by obtain⟨_,⟨x1,x2⟩,_,⟨w1,w2⟩⟩:=W8;exact ao
   rw[hb]at Sd;have go:Kz f.side SN≠0->∀c:Bool,c=(!fd||decide (f.y+f.h>b))->cu (fI SN) (l.take (i+1))=if c then(f.y+f.h,true)else(b,fd):=λhz c hc=>by
    rw[Sd,hc];unfold gU fI;cases fd<;>simp[hz]
   have no:Kz f.side SN=0->cu (fI SN) (l.take (i+1))=(b,fd):=λhz=>by rw[Sd];simp[gU,fI,hz]
   cases fd
   .apply sR;simp only[go_sem,seval,k0,k1,k6,k7,k8,hn,q,SA,bl,Vh];refine And.intro (λhz=>?_) (λhz=>?_)
    .exact⟨ao,_,by omega,i+1,_,_,by omega,rfl,no hz,hs,by simp[k0,k1,k6,k7]⟩
    .have g:=go hz true rfl;exact⟨ao,_,by omega,i+1,_,_,by omega,rfl,g,hs,by simp[k0,k1,k6,k7]⟩
   .by_cases SD:f.y+f.h>b
    .have q3:(f.y+f.h>b)=True:=RA SD;apply sR;simp only[go_sem,seval,k0,k1,k6,k7,k8,hn,q,SA,bl,q3,Vh];refine And.intro (λhz=>?_) (λhz=>?_)
     .exact⟨ao,_,by omega,i+1,_,_,by omega,rfl,no hz,hs,by simp[k0,k1,k6,k7]⟩
     .have g:=go hz true (by simp[SD]);exact⟨ao,_,by omega,i+1,_,_,by omega,rfl,g,hs,by simp[k0,k1,k6,k7]⟩
    .have q3:(f.y+f.h>b)=False:=H' SD;apply sR;simp only[go_sem,seval,k0,k1,k6,k7,k8,hn,q,SA,bl,q3,Vh];refine And.intro (λhz=>?_) (λhz=>?_)
     .exact⟨ao,_,by omega,i+1,_,_,by omega,rfl,no hz,hs,by simp[k0,k1,k6,k7]⟩
     .have g:=go hz false (by simp[SD]);exact⟨ao,_,by omega,i+1,_,_,by omega,rfl,g,hs,by simp[k0,k1,k6,k7]⟩
  .have q:=qF u';obtain rfl:i=l.length:=by omega
   rw[ik]at hb;apply sR;simp only[go_sem,seval,k0,k1,k6,k7,k8,hn,q];exact az.pure hs (by rw[hb])
open Go.Proofs
def Fp(l:List Nd)(hl:l.length<=1000000000)(of:List Int)(i:Nat)(k:Int):aV prog 198 [aQ l,aX of,vI i,vI k] (.bool (iR l of i k)):=λU=>by
 refine Ry.q ?_;have hs:=aa.refl U;have hn:=db of;unfold iR;refine aq.mix 9 ?_;by_cases h0:k>=0
 .have q0:(k>=0)=True:=RA h0;by_cases h1:k<of.length
  .have q1:(k<of.length)=True:=RA h1;obtain⟨n,rfl⟩:∃n:Nat,k=n:=⟨k.toNat,by omega⟩
   have WT:n<of.length:=by omega
   have SA:=λU=>dp (U:=U) WT;have Vo:of.getD ((n:Int)).toNat 0=of[n]:=by simp[WT]
   rw[Tl (show(0:Int)<=n/\(n:Int)<of.length by omega),Bool.true_and,Vo];generalize of[n]=x at*;apply sR;simp only[go_sem,seval,HD,q0,q1,hn,SA];refine pS rfl (CQ l hl i x _) ?_;simp only[go_sem,seval];exact az.pure hs rfl
  .have q1:(k<of.length)=False:=H' h1;rw[Tw (λh=>h1 h.2),Bool.false_and];apply sR;simp only[go_sem,seval,HD,q0,q1,hn];exact az.pure hs rfl
 .have q0:(k>=0)=False:=H' h0;rw[Tw (λh=>h0 h.1),Bool.false_and];apply sR;simp only[go_sem,seval,HD,q0,hn];exact az.pure hs rfl
open Go.Proofs
def Cx(l:List Nd)(hl:dq l)(h:Int)(his:aV prog 104 [aQ l] (.bool (Sc l))):aV prog 73 [aQ l,vI h] (.bool (fW l h)):=λU=>by
 refine e73.q ?_;have hs:=aa.refl U;unfold fW;refine aq.mix 5 ?_;by_cases h0:h>=1
 .have q0:(h>=1)=True:=RA h0;by_cases h1:h<=1099511627776
  .have q1:(h<=1099511627776)=True:=RA h1;rw[Tl ⟨h0,h1⟩,Bool.true_and];apply sR;simp only[go_sem,seval,c73,q0,q1];refine pS rfl (his _) ?_;simp only[go_sem,seval];exact az.pure hs rfl
  .have q1:(h<=1099511627776)=False:=H' h1;rw[Tw (λe=>h1 e.2),Bool.false_and];apply sR;simp only[go_sem,seval,c73,q0,q1];exact az.pure hs rfl
 .have q0:(h>=1)=False:=H' h0;rw[Tw (λe=>h0 e.1),Bool.false_and];apply sR;simp only[go_sem,seval,c73,q0];exact az.pure hs rfl
def qs{l:List Nd}{p:Nat->Bool}:∀n,(jJ l p n).length<=n
 |0=>by simp[jJ]
 |n+1=>by
  rw[lW,kI];have:=qs (l:=l) (p:=p) n;split<;>simp<;>omega
def Ec{l:List Nd}{L:List Int}{i:Nat}(h:i<L.length):(L.take (i+1)).flatMap (ie l)=(L.take i).flatMap (ie l)++ie l L[i]:=by
 rw[U0 h,List.flatMap_append];simp
def DN{l:List Nd}{L:List Int}{i:Nat}(h:i<L.length):(L.take (i+1)).map (λb=>(T9 l b).after)=(L.take i).map (λb=>(T9 l b).after)++[(T9 l L[i]).after]:=by
 rw[U0 h,eQ];simp
def zQ{of:List Int}{t:Int}{k:Nat}:∀i,i<=k->(fz of t k i).2=0
 |0,_=>rfl
 |i+1,h=>by
  have:=zQ (of:=of) (t:=t) i (by omega:i<=k);rw[fz];split
  .rw[aK (by omega)];exact this
  .exact this
def uu(L:List Int):Int:=if 1∈L then 1 else 0
def Eu{L:List Int}{i:Nat}(h:i<L.length):uu (L.take (i+1))=if L[i]=1 then 1 else uu (L.take i):=by
 unfold uu;rw[U0 h];simp only[fH,jY];by_cases e:L[i]=1
 .simp[e]
 .have:¬(1=L[i]):=λh=>e h.symm;simp[e,this]
def oz(l:List Nd)(L:List Int):Int:=L.foldl (λm b=>max m (T9 l b).inside) 0
def Eo{l:List Nd}{L:List Int}{i:Nat}(h:i<L.length):oz l (L.take (i+1))=max (oz l (L.take i)) (T9 l L[i]).inside:=by
 unfold oz;rw[U0 h,nT];rfl
def IH{l:List Nd}{x:Kn}(h:∀b∈x.both,0<=(T9 l b).inside/\(T9 l b).inside<=1):oz l x.both=if pH l x then 1 else 0:=by
 unfold oz;rw[CL (λb=>(T9 l b).inside) _ _ (.inl rfl) h];simp[pH]
open Go.Proofs
def Ah{U:ak}{id e sz:Nat}{r:V}(h:U id=some ⟨e,sz,[r]⟩):cm U e sz (.own id 0 1)=some ([r],some id):=by
 simp[cm,h]
def aP.cI{K U:ak}{e sz i:Nat}{v:V}{rows:List V}{o p:Ob}(h:aP K U e sz v rows)(hi:U i=some p)(RU:p.elem≠e):aP K (C' U i o) e sz v rows:=by
 rcases h with h|⟨id,g1,g2,g3⟩
 .exact .inl h
 .refine .inr ⟨id,g1,?_,g3⟩;rw[Vc.ab (λe'=>by rw[e',hi]at g2;cases g2;exact RU rfl)];exact g2
def aP.j4{K U:ak}{e sz i:Nat}{v:V}{rows:List V}{p:Ob}(h:aP K U e sz v rows)(hi:U i=some p)(RU:p.elem≠e):∀n,v≠.own i 0 n:=λn hv=>by
 subst hv;rcases h with⟨h,_⟩|⟨id,h,g2,_⟩
 .cases h
 .cases h;rw[hi]at g2;cases g2;exact RU rfl
def aP.Ht{K U:ak}{e sz:Nat}{v:V}{rows:List V}(h:aP K U e sz v rows){idA:Option Nat}(h1:∀i,idA=some i->∀n,v≠.own i 0 n):aP K (Vc.bR U idA) e sz v rows:=by
 rcases h with h|⟨a,rfl,ho,hk⟩
 .exact .inl h
 .refine .inr ⟨a,rfl,?_,hk⟩;cases idA with
  |none=>exact ho
  |some i=>
   have:a≠i:=λe=>h1 i rfl _ (by rw[e]);simp only[Vc.bR];rw[eT this];exact ho
def aP.AX{K ZJ Z1:ak}{e sz:Nat}{v:V}{rows:List V}(h:aP K ZJ e sz v rows)(hs:aa ZJ Z1):
 ∃idA,cm Z1 e sz v=some (rows,idA)/\(∀i,idA=some i->v=.own i 0 rows.length)/\(∀j,(∀n,v≠.own j 0 n)->∀Z2:ak,Vc.bR Z2 idA j=Z2 j)/\(∀K':ak,aa K' K->∀Z2,aa K' Z2->aa K' (Vc.bR Z2 idA)):=by
 rcases h with⟨rfl,rfl⟩|⟨id,rfl,ho,hk⟩
 .exact⟨none,rfl,λ_ h=>(by cases h),λ_ _ _=>rfl,λ_ _ _ h=>h⟩
 .refine⟨some id,?_,λi h=>(by cases h;rfl),λj hj Z2=>eT λe'=>hj rows.length (by rw[e']),λK' hK Z2 h=>h.x7 (hK.none hk)⟩;simp only[cm,hs _ _ ho];rw[aK ⟨trivial,trivial,trivial,Sf _⟩,ik]
structure KnJ(Z0:ak)(i6 i7:Nat)(E B O:List Int)(U:ak):Prop where
 sub:aa Z0 U
 no:Z0 i7=none
 no6:Z0 i6=none
 r6:U i6=some ⟨240,4,[.agg [.bj,.bj,.bj,vI 0]]⟩
 ne:i6≠i7
 row:∃ve vb vo,U i7=some ⟨240,4,[.agg [ve,vb,vo,vI (-1)]]⟩/\aP Z0 U 3 1 ve (E.map vI)/\aP Z0 U 3 1 vb (B.map vI)/\aP Z0 U 3 1 vo (O.map vI)/\fw vb ve/\fw vb vo
def BE(l:List Nd)(hb:Sc l=true)(hn:l.length<=2000)(of:List Int)(SB:of.length<=1000000)(Sv:∀x∈of,(0<=x/\x<l.length)/\Wu l x.toNat≠1)(k:Nat)(hk:k<=of.length):
 aV prog 166 [aQ l,aX of,vI k] (fV (cq l of k)):=λU=>by
 refine PR.q ?_;have hs:=aa.refl U;have T1:=bO l;have SD:=db of;have hH:=λ(i:Nat) (k:Int)=>Fp l (by omega) of i k;rw[Iw hb Sv];generalize hpE:(λi=>iR l of i ((k:Int)-1)&&!iR l of i k)=pE;generalize hpB:(λi=>iR l of i k&&!iR l of i ((k:Int)-1))=pB;generalize hpO:(λi=>iR l of i ((k:Int)-1)&&iR l of i k)=pO;have eE:∀i,pE i=(iR l of i ((k:Int)-1)&&!iR l of i k):=λi=>by rw[<-hpE]
 have eB:∀i,pB i=(iR l of i k&&!iR l of i ((k:Int)-1)):=λi=>by rw[<-hpB]
 have eO:∀i,pO i=(iR l of i ((k:Int)-1)&&iR l of i k):=λi=>by rw[<-hpO]
 clear hpE hpB hpO;refine mS 11 ?_;simp only[go_sem,seval,LD];refine aG hs λi6 Z6 s6 a6 f6 z6 hs=>?_;simp only[go_sem,seval,a6];refine aG hs λi7 Z7 s7 a7 f7 z7 hs=>?_;obtain⟨TH,a6⟩:=RC a6 f7 s7;simp only[go_sem,seval,a7,a6,ab TH,ab TH];generalize VZ:C' _ i7 _=Y7;replace a7:=SR VZ;replace a6:=R6 VZ TH a6;replace hs:=SL VZ hs z7;have hJ0:KnJ U i6 i7 [] [] [] Y7:=⟨hs,z7,z6,a6,TH,_,_,_,a7,aP.start,aP.start,aP.start,fw.bj _,fw.bj _⟩
 refine aq.loop (λm st=>∃i:Nat,i<=l.length/\m=l.length-i/\KnJ U i6 i7 (jJ l pE i).reverse (jJ l pB i) (jJ l pO i).reverse st.U/\st.s 0=aQ l/\st.s 1=aX of/\st.s 2=vI k/\st.s 6=.ptr i6 0 0/\st.s 7=.ptr i7 0 0/\st.s 8=vI i) l.length ?_ ?_
 .exact⟨0,by omega,rfl,hJ0,rfl,rfl,rfl,rfl,rfl,rfl⟩
 .clear hs a6 a7 hJ0;rintro m ⟨S,J⟩ ⟨i,hi,rfl,hJ,k0,k1,k2,k6,k7,k8⟩;simp only at hJ k0 k1 k2 k6 k7 k8;obtain⟨ve,vb,vo,a7,hve,hvb,hvo,Wr,V7⟩:=hJ.row;have a6:=hJ.r6;obtain⟨ce,se⟩:=hve.vc;obtain⟨cb,sb⟩:=hvb.vc;obtain⟨co,so⟩:=hvo.vc;refine aq.mix 11 ?_;by_cases u':i<l.length
  .have q:=qT u';have SI:=λU=>bI (U:=U) (l:=l) (a:=i) u';have r1:=rI i;have r2:R0 .i64 ((k:Int)-1):=ao;have hkd:Wu l i=l[i].kind:=by simp[Wu,u']
   have sE:=lW (l:=l) (p:=pE) (n:=i);have sB:=lW (l:=l) (p:=pB) (n:=i);have sO:=lW (l:=l) (p:=pO) (n:=i);have lE:=qs (l:=l) (p:=pE) i;have lB:=qs (l:=l) (p:=pB) i;have lO:=qs (l:=l) (p:=pO) i;rw[eE,hkd]at sE;rw[eB,hkd]at sB;rw[eO,hkd]at sO;have h1:=hH i ((k:Int)-1);have h2:=hH i k;generalize jJ l pE i=E at*;generalize jJ l pB i=B at*;generalize jJ l pO i=O at*;generalize l[i]=x at*;by_cases SV:x.kind=1
   .have q1:(x.kind≠1)=False:=H' (λh=>h SV);simp only[SV,true_and]at sE sB sO;apply sR;simp only[go_sem,seval,k0,k1,k2,k6,k7,k8,T1,q,SI,Nd.cells,q1,r2];refine pS rfl (h1 _) ?_;simp only[go_sem,seval,k0,k1,k2,k6,k7,k8];refine pR rfl (h2 _) ?_;cases ha:iR l of i ((k:Int)-1)<;>cases hb:iR l of i k
    all_goals rw[ha,hb]at sE sB sO
    all_goals simp only[Bool.not_true,Bool.not_false,Bool.and_self,Bool.and_true,Bool.and_false,Bool.true_and,Bool.false_and,if_true,iP,if_false,j6]at sE sB sO
    .apply sR;simp only[go_sem,seval,k0,k1,k2,k6,k7,k8,r1];exact⟨_,by omega,i+1,by omega,rfl,by rw[sE,sB,sO];exact hJ,by simp[k0,k1,k2,k6,k7]⟩
    .apply sR;simp only[go_sem,seval,k0,k1,k2,k6,k7,k8,r1,a7,ce,cb,co,se,sb,so];refine aD λi54 Z54 s54 a54 f54=>?_;obtain⟨idA,SE,hdv,TW,RO⟩:=hvb.AX s54;have b7:=(TW i7 (hvb.j4 a7 (by simp)) Z54).trans (s54 _ _ a7);have b6:=(TW i6 (hvb.j4 a6 (by simp)) Z54).trans (s54 _ _ a6);have gE:=(hve.mono s54).Ht (idA:=idA) λj hj n hv=>Wr _ _ _ _ (hdv j hj) hv rfl;have gO:=(hvo.mono s54).Ht (idA:=idA) λj hj n hv=>V7 _ _ _ _ (hdv j hj) hv rfl;have Uh:(B.map vI).length=B.length:=by simp
     have Sh:(B.length+1)*9<=140737488355328:=by omega
     simp only[go_sem,seval,k0,k1,k2,k6,k7,k8,SE,bN a54,Uh,Sh];refine bk λi55 Z55 s55 a55 f55=>?_;have k55:=(RO U (aa.refl U) Z54 (hJ.sub.trans s54)).trans s55;have n55:U i55=none:=(hJ.sub.trans s54).none f55;have c7:=s55 _ _ b7;have c6:=s55 _ _ b6;have apE:fw (.own i55 0 (B.length+1)) ve:=fw.new (hve.mono s54) f55;have apO:fw (.own i55 0 (B.length+1)) vo:=fw.new (hvo.mono s54) f55;replace gE:=gE.mono s55;replace gO:=gO.mono s55;simp only[go_sem,seval,k0,k1,k2,k6,k7,k8,c7,ce,cb,co,se,sb,so];have UQ:aP U Z55 3 1 (.own i55 0 (B.length+1)) ((B++[(i:Int)]).map vI):=aP.new (by simp) (by rw[a55,eQ];rfl) n55;refine⟨r1,_,by omega,i+1,by omega,rfl,?_,by simp[vI]⟩;rw[sE,sB,sO];exact⟨k55.aL hJ.no,hJ.no,hJ.no6,(ab hJ.ne).trans c6,hJ.ne,_,_,_,av,gE.cI c7 (by simp),UQ.cI c7 (by simp),gO.cI c7 (by simp),apE,apO⟩
    .apply sR;simp only[go_sem,seval,k0,k1,k2,k6,k7,k8,r1,a7,ce,cb,co,se,sb,so];refine aD λi41 Z41 s41 a41 f41=>?_;have b7:=s41 _ _ a7;have Uh:(E.reverse.map vI).length=E.length:=by simp
     have Sh:(1+E.length)*9<=140737488355328:=by omega
     simp only[go_sem,seval,k0,k1,k2,k6,k7,k8,b7,ce,cb,co,se,sb,so,Ah a41,hve.src s41,Uh,Sh];refine bk λi44 Z44 s44 a44 f44=>?_;have s4:aa J Z44:=(s41.x7 f41).trans s44;have n44:=hJ.sub.none (s41.none f44);have c7:=s4 _ _ a7;have c6:=s4 _ _ a6;simp only[go_sem,seval,k0,k1,k2,k6,k7,k8,c7,ce,cb,co,se,sb,so];have UQ:aP U Z44 3 1 (.own i44 0 (1+E.length)) (((i:Int)::E.reverse).map vI):=aP.new (by simp;omega) a44 n44;have hap:fw vb (.own i44 0 (1+E.length)):=(fw.new hvb (s41.none f44)).symm;have gE:=hve.mono s4;have gB:=hvb.mono s4;have gO:=hvo.mono s4;refine⟨r1,_,by omega,i+1,by omega,rfl,?_,by simp[vI]⟩;rw[sE,sB,sO,List.reverse_append,List.reverse_singleton,List.singleton_append];exact⟨(hJ.sub.trans s4).aL hJ.no,hJ.no,hJ.no6,(ab hJ.ne).trans c6,hJ.ne,_,_,_,av,UQ.cI c7 (by simp),gB.cI c7 (by simp),gO.cI c7 (by simp),hap,V7⟩
    .apply sR;simp only[go_sem,seval,k0,k1,k2,k6,k7,k8,r1,a7,ce,cb,co,se,sb,so];refine aD λi41 Z41 s41 a41 f41=>?_;have b7:=s41 _ _ a7;have Uh:(O.reverse.map vI).length=O.length:=by simp
     have Sh:(1+O.length)*9<=140737488355328:=by omega
     simp only[go_sem,seval,k0,k1,k2,k6,k7,k8,b7,ce,cb,co,se,sb,so,Ah a41,hvo.src s41,Uh,Sh];refine bk λi44 Z44 s44 a44 f44=>?_;have s4:aa J Z44:=(s41.x7 f41).trans s44;have n44:=hJ.sub.none (s41.none f44);have c7:=s4 _ _ a7;have c6:=s4 _ _ a6;simp only[go_sem,seval,k0,k1,k2,k6,k7,k8,c7,ce,cb,co,se,sb,so];have UQ:aP U Z44 3 1 (.own i44 0 (1+O.length)) (((i:Int)::O.reverse).map vI):=aP.new (by simp;omega) a44 n44;have hap:fw vb (.own i44 0 (1+O.length)):=(fw.new hvb (s41.none f44)).symm;have gE:=hve.mono s4;have gB:=hvb.mono s4;have gO:=hvo.mono s4;refine⟨r1,_,by omega,i+1,by omega,rfl,?_,by simp[vI]⟩;rw[sE,sB,sO,List.reverse_append,List.reverse_singleton,List.singleton_append];exact⟨(hJ.sub.trans s4).aL hJ.no,hJ.no,hJ.no6,(ab hJ.ne).trans c6,hJ.ne,_,_,_,av,gE.cI c7 (by simp),gB.cI c7 (by simp),UQ.cI c7 (by simp),Wr,hap⟩
   .have q1:(x.kind≠1)=True:=RA SV;simp only[SV,false_and,if_false,j6]at sE sB sO;apply sR;simp only[go_sem,seval,k0,k1,k2,k6,k7,k8,T1,q,SI,Nd.cells,q1,r1];exact⟨_,by omega,i+1,by omega,rfl,by rw[sE,sB,sO];exact hJ,by simp[k0,k1,k2,k6,k7]⟩
  .have q:=qF u';obtain rfl:i=l.length:=by omega
   generalize (jJ l pE l.length).reverse=E at*;generalize jJ l pB l.length=B at*;generalize (jJ l pO l.length).reverse=O at*;have fin:∀(t:Int) (Z1:ak),aa U Z1->Z1 i6=some ⟨240,4,[.agg [.bj,.bj,.bj,vI 0]]⟩->aP U Z1 3 1 ve (E.map vI)->aP U Z1 3 1 vb (B.map vI)->aP U Z1 3 1 vo (O.map vI)->
    az (.agg [ve,vb,vo,vI t]) (C' Z1 i6 ⟨240,4,[.agg [ve,vb,vo,vI t]]⟩) λr Z'=>r=fV ⟨E,B,O,t⟩/\Z'=U:=by
    intro t Z1 h1 h6 g1 g2 g3;have RR:aa U (C' Z1 i6 ⟨240,4,[.agg [ve,vb,vo,vI t]]⟩):=h1.aL hJ.no6;have p1:=g1.cI (o:=⟨240,4,[.agg [ve,vb,vo,vI t]]⟩) h6 (by simp);have p2:=g2.cI (o:=⟨240,4,[.agg [ve,vb,vo,vI t]]⟩) h6 (by simp);have p3:=g3.cI (o:=⟨240,4,[.agg [ve,vb,vo,vI t]]⟩) h6 (by simp);exact⟨_,U,RR,Wk.agg (vs':=[aX E,aX B,aX O,vI t]) ⟨p1.wk (aa.refl U) RR,p2.wk (aa.refl U) RR,p3.wk (aa.refl U) RR,Wk.refl RR _,trivial⟩,rfl,rfl⟩
   have c6:∀o,C' J i7 o i6=some ⟨240,4,[.agg [.bj,.bj,.bj,vI 0]]⟩:=λo=>(ab hJ.ne).trans a6;rcases Nat.eq_zero_or_pos k with rfl|h0
   .have q3:((((0:Nat):Int))>0)=False:=H';rw[aM (by omega)];apply sR;simp only[go_sem,seval,k0,k1,k2,k6,k7,k8,T1,q,SD,q3,a7,a6,ce,cb,co,se,sb,so,ab hJ.ne,ab hJ.ne.symm];exact fin _ _ hJ.sub a6 hve hvb hvo
   have q3:((k:Int)>0)=True:=RA;by_cases h1:k<of.length
   .have q4:=qT h1;have q5:=ao (m:=((k-1:Nat):Int)) (by omega) (by omega);have q6:((k:Int)-1)=((k-1:Nat):Int):=by omega
    have q7:=λU=>dp (U:=U) h1;have q8:=λU=>dp (U:=U) (l:=of) (i:=k-1) (by omega);have g1:of.getD k 0=of[k]:=by simp[h1]
    have g2:of.getD (k-1) 0=of[k-1]:=by have:k-1<of.length:=by omega
                                        simp[this]
    by_cases h2:of.getD k 0=of.getD (k-1) 0
    .have q9:(of[k]=of[k-1])=True:=RA (by rw[<-g1,<-g2];exact h2);rw[aK ⟨h0,h1,h2⟩,g1];apply sR;simp only[go_sem,seval,k0,k1,k2,k6,k7,k8,T1,q,SD,q3,q4,q5,q6,q7,q8,q9,a7,a6,c6,ce,cb,co,se,sb,so,ab hJ.ne,ab hJ.ne.symm];exact fin _ _ (hJ.sub.aL hJ.no) (c6 _) (hve.cI a7 (by simp)) (hvb.cI a7 (by simp)) (hvo.cI a7 (by simp))
    .have q9:(of[k]=of[k-1])=False:=H' (by rw[<-g1,<-g2];exact h2);rw[aM (λh=>h2 h.2.2)];apply sR;simp only[go_sem,seval,k0,k1,k2,k6,k7,k8,T1,q,SD,q3,q4,q5,q6,q7,q8,q9,a7,a6,ce,cb,co,se,sb,so,ab hJ.ne,ab hJ.ne.symm];exact fin _ _ hJ.sub a6 hve hvb hvo
   .have q4:=qF h1;rw[aM (λh=>h1 h.2.1)];apply sR;simp only[go_sem,seval,k0,k1,k2,k6,k7,k8,T1,q,SD,q3,q4,a7,a6,ce,cb,co,se,sb,so,ab hJ.ne,ab hJ.ne.symm];exact fin _ _ hJ.sub a6 hve hvb hvo
open Go.Proofs
def BR{L:List Int}{j:Nat}(hj:j<L.length)(h:∀i (h:i<L.length),j<i->¬(L[i]=3\/L[i]=4))(hf:L[j]=3\/L[j]=4):iU L=L[j]:=by
 have hL:L.take j++L[j]::L.drop (j+1)=L:=by rw[<-jM hj,A8]
 have h2:∀x∈L.drop (j+1),¬(x=3\/x=4):=by
  intro x hx;obtain⟨i,hi,rfl⟩:=List.mem_iff_getElem.1 hx;rw[List.getElem_drop];rw[DC]at hi;exact h _ (by omega) (by omega)
 have e:L.reverse.find? (λn=>decide (n=3\/n=4))=some L[j]:=by
  generalize L[j]=x at*;rw[<-hL,List.reverse_append,List.reverse_cons,mR,List.find?_append,List.find?_eq_none.2 (λy hy=>by simpa using h2 y (Hg.1 hy))];simp[hf]
 unfold iU;rw[e]
def BL{L:List Int}(h:∀i (h:i<L.length),¬(L[i]=3\/L[i]=4)):iU L=if 2∈L then 2 else 0:=by
 have e:L.reverse.find? (λn=>decide (n=3\/n=4))=none:=List.find?_eq_none.2 λy hy=>by
  obtain⟨i,hi,rfl⟩:=List.mem_iff_getElem.1 (Hg.1 hy);simpa using h i hi
 unfold iU;rw[e]
def CI{l:List Nd}{of:List Int}(Sv:∀x∈of,(0<=x/\x<l.length)/\Wu l x.toNat≠1)(k:Nat):(∀b∈(cq l of k).ends,∃n:Nat,b=n/\n<l.length)/\(∀b∈(cq l of k).TF,∃n:Nat,b=n/\n<l.length)/\∀b∈(cq l of k).both,∃n:Nat,b=n/\n<l.length:=by
 have h0:∀x∈of,0<=x/\x<l.length:=λx hx=>(Sv x hx).1;exact⟨ox h0,λb hb=>ox h0 b (Hg.1 hb),ox h0⟩
def Ct{l:List Nd}(hn:l.length<=2000)(of:List Int)(k:Nat):(cq l of k).ends.length<=100001/\(cq l of k).TF.length<=100001/\(cq l of k).both.length<=100001:=by
 refine⟨lh (by omega),?_,lh (by omega)⟩;show(V8 l of k _).reverse.length<=_;rw[List.length_reverse];exact lh (by omega)
def yV(l:List Nd)(hb:Sc l=true)(hn:l.length<=2000)(of:List Int)(SB:of.length<=1000000)(Sv:∀x∈of,(0<=x/\x<l.length)/\Wu l x.toNat≠1)(k:Nat)(hk:k<=of.length):
 aV prog 165 [aQ l,aX of,vI k] (aX (gY l of k)):=λU=>by
 refine Ps.q ?_;have hs:=aa.refl U;have hkc:=BE l hb hn of SB Sv k hk;have SD:=db of;obtain⟨gE,gB,-⟩:=CI Sv k;obtain⟨lE,lB,-⟩:=Ct hn of k;unfold gY;refine aq.mix 12 ?_;by_cases he:k=of.length
 .have q:((k:Int)=of.length)=True:=RA;rw[aK he];apply sR;simp only[go_sem,seval,KD,SD,q];exact(aP.start (e:=0) (sz:=1)).ns hs rfl
 .have q:((k:Int)=of.length)=False:=H';rw[aM he];generalize cq l of k=x at*;obtain⟨E,B,C,tx⟩:=x;simp only at gE gB lE lB;have hlE:=db E;have hlB:=db B;apply sR;simp only[go_sem,seval,KD,SD,q];refine pS rfl (hkc _) ?_;simp only[go_sem,seval,fV,ae,af];refine aG hs λi8 Z8 s8 a8 f8 z8 hs=>?_;simp only[go_sem,seval,a8,ae,af];generalize Vf:C' _ i8 _=Y8;replace a8:=SR Vf;replace hs:=SL Vf hs z8;refine aq.loop (λm st=>∃i:Nat,i<=E.length/\m=E.length-i/\aa U st.U/\aP U st.U 3 1 (st.s 7) (((E.take i).map λb=>(T9 l b).after).map vI)/\st.U i8=some ⟨240,4,[.agg [aX E,aX B,aX C,vI tx]]⟩/\st.s 0=aQ l/\st.s 8=.ptr i8 0 0/\st.s 9=vI i) E.length ?_ ?_
  .exact⟨0,by omega,rfl,hs,aP.start,a8,rfl,rfl,rfl⟩
  .clear a8 hs;rintro m ⟨S,J⟩ ⟨i,hi,rfl,hs,R3,a8,k0,k8,k9⟩;simp only at hs R3 a8 k0 k8 k9;generalize TX:S 7=v7 at R3;refine aq.mix 12 ?_;by_cases u':i<E.length
   .have q1:=qT u';have SA:=λU=>dp (U:=U) u';obtain⟨n,Xx,TK⟩:=gE _ (Sx u');have Sd:=DN (l:=l) u';rw[Xx]at SA Sd;rw[fX TK]at Sd;have SI:=λU=>bI (U:=U) (l:=l) (a:=n) TK;have r1:=rI i;have Uh:(((E.take i).map λb=>(T9 l b).after).map vI).length=i:=by simp;omega
    have Sh:(i+1)*9<=140737488355328:=by omega
    generalize l[n]=nd at*;apply sR;simp only[go_sem,seval,k0,k8,k9,TX,a8,q1,hlE,SA,SI,Nd.cells,ae];refine aD λi38 Z38 s38 a38 f38=>?_;obtain⟨idA,SE,hdv,TW,RO⟩:=R3.AX s38;have b8:=(TW i8 (R3.j4 a8 (by simp)) Z38).trans (s38 _ _ a8);simp only[go_sem,seval,SE,bN a38,Uh,Sh,k0,k8,k9];refine bk λi39 Z39 s39 a39 f39=>?_;have k39:=(RO U (aa.refl U) Z38 (hs.trans s38)).trans s39;have n39:U i39=none:=(hs.trans s38).none f39;have c8:=s39 _ _ b8;simp only[go_sem,seval,k0,k8,k9,r1,c8];refine⟨_,by omega,i+1,by omega,rfl,k39,?_,by simp[k0,k8,c8]⟩;rw[Sd,eQ];exact aP.new (by simp;omega) a39 n39
   .have q1:=qF u';obtain rfl:i=E.length:=by omega
    rw[ik]at R3;apply sR;simp only[go_sem,seval,k0,k8,k9,TX,a8,q1,hlE,ae];generalize hAE:(E.map λb=>(T9 l b).after)=AE at*;have hAl:AE.length<=100001:=by rw[<-hAE,dC];exact lE
    have Sq:zJ l ⟨E,B,C,tx⟩=AE++B.flatMap (ie l):=by rw[<-hAE];rfl
    rw[Sq];refine aq.loop (λm st=>∃i:Nat,i<=B.length/\m=B.length-i/\aa U st.U/\aP U st.U 3 1 (st.s 7) ((AE++(B.take i).flatMap (ie l)).map vI)/\st.U i8=some ⟨240,4,[.agg [aX E,aX B,aX C,vI tx]]⟩/\st.s 0=aQ l/\st.s 8=.ptr i8 0 0/\st.s 10=vI i) B.length ?_ ?_
    .exact⟨0,by omega,rfl,hs,by rw[List.take_zero,List.flatMap_nil,j6];show aP _ _ _ _ (S 7) _;rw[TX];exact R3,a8,k0,k8,rfl⟩
    .clear a8 hs R3 k0 k8 k9 TX hi;rintro m ⟨S,J⟩ ⟨i,hi,rfl,hs,R3,a8,k0,k8,SQ⟩;simp only at hs R3 a8 k0 k8 SQ;generalize TX:S 7=v7 at R3;refine aq.mix 12 ?_;by_cases u':i<B.length
     .have q1:=qT u';have SA:=λU=>dp (U:=U) u';obtain⟨n,Xx,TK⟩:=gB _ (Sx u');have Sd:=Ec (l:=l) u';rw[Xx]at SA Sd;have SI:=λU=>bI (U:=U) (l:=l) (a:=n) TK;have hbg:ie l (n:Int)=(if 0<l[n].st.head then[2]else[])++[l[n].st.before]:=by unfold ie;rw[fX TK]
      rw[hbg]at Sd;have r1:=rI i;have hll:((B.take i).flatMap (ie l)).length<=2*i:=l9 (vw _ (AJ l) _) (by rw[lQ];omega);have Uh:((AE++(B.take i).flatMap (ie l)).map vI).length=(AE++(B.take i).flatMap (ie l)).length:=by simp
      have hlb:(AE++(B.take i).flatMap (ie l)).length<=400000:=by rw[kI];omega
      have hRn:AE++(B.take (i+1)).flatMap (ie l)=(AE++(B.take i).flatMap (ie l))++((if 0<l[n].st.head then[2]else[])++[l[n].st.before]):=by rw[Sd,mR]
      generalize AE++(B.take i).flatMap (ie l)=R at*;have Sh:(R.length+1)*9<=140737488355328:=by omega
      generalize l[n]=nd at*;have Ty:=hs;replace hs:=aa.refl J;apply sR;simp only[go_sem,seval,k0,k8,SQ,TX,a8,q1,hlB,SA,SI,Nd.cells,ae];refine aG hs λi11 Yf Vb Ug f11 YE hs=>?_;obtain⟨n811,a8⟩:=RC a8 f11 Vb;have hout1:=(R3.mono Vb)
      by_cases hd:nd.st.head>0
      .have q2:(nd.st.head>0)=True:=RA hd;simp only[go_sem,seval,k0,k8,SQ,TX,Ug,q2];generalize Tb:C' Yf i11 _=Y11;have a11':=(congrFun Tb i11).symm.trans av;have a8':=((congrFun Tb i8).symm.trans (ab n811)).trans a8;have XB:aP U Y11 3 1 v7 (R.map vI):=by rw[<-Tb];exact hout1.cI Ug (by simp)
       have Tg:aa U Y11:=by rw[<-Tb];exact(Ty.trans Vb).aL ((Ty.trans (aa.refl J)).none YE)
       clear Tb;refine aD λi60 Z60 s60 a60 f60=>?_;obtain⟨idA,SE,hdv,TW,RO⟩:=XB.AX s60;have b8:=(TW i8 (XB.j4 a8' (by simp)) Z60).trans (s60 _ _ a8');have b11:=(TW i11 (XB.j4 a11' (by simp)) Z60).trans (s60 _ _ a11');simp only[go_sem,seval,SE,bN a60,Uh,Sh,k0,k8,SQ];refine bk λi61 Z61 s61 a61 f61=>?_;have k61:=(RO U (aa.refl U) Z60 (Tg.trans s60)).trans s61;have n61:U i61=none:=(Tg.trans s60).none f61;have c8:=s61 _ _ b8;have c11:=s61 _ _ b11;have hout3:aP U Z61 3 1 (.own i61 0 (R.length+1)) ((R++[2]).map vI):=aP.new (by simp) (by rw[a61,eQ];rfl) n61;have hlm3:((R++[(2:Int)]).map vI).length=R.length+1:=by simp
       have hb3:(R.length+1+1)*9<=140737488355328:=by omega
       simp only[go_sem,seval,k0,k8,SQ,c11,c8];refine aD λi65 Z65 s65 a65 f65=>?_;obtain⟨idB,hdb,hdvB,hdB1,hdelB⟩:=hout3.AX s65;have d8:=(hdB1 i8 (hout3.j4 c8 (by simp)) Z65).trans (s65 _ _ c8);simp only[go_sem,seval,hdb,bN a65,hlm3,hb3,k0,k8,SQ];refine bk λi66 Z66 s66 a66 f66=>?_;have k66:=(hdelB U (aa.refl U) Z65 (k61.trans s65)).trans s66;have n66:U i66=none:=(k61.trans s65).none f66;have e8:=s66 _ _ d8;simp only[go_sem,seval,k0,k8,SQ,r1,e8];refine⟨_,by omega,i+1,by omega,rfl,k66,?_,by simp[k0,k8,e8]⟩;rw[hRn,aK hd];exact aP.new (by simp) (by rw[a66];simp) n66
      .have q2:(nd.st.head>0)=False:=H' hd;simp only[go_sem,seval,k0,k8,SQ,TX,Ug,q2];generalize Tb:C' Yf i11 _=Y11;have a11':=(congrFun Tb i11).symm.trans av;have a8':=((congrFun Tb i8).symm.trans (ab n811)).trans a8;have XB:aP U Y11 3 1 v7 (R.map vI):=by rw[<-Tb];exact hout1.cI Ug (by simp)
       have Tg:aa U Y11:=by rw[<-Tb];exact(Ty.trans Vb).aL ((Ty.trans (aa.refl J)).none YE)
       clear Tb;refine aD λi65 Z65 s65 a65 f65=>?_;obtain⟨idB,hdb,hdvB,hdB1,hdelB⟩:=XB.AX s65;have d8:=(hdB1 i8 (XB.j4 a8' (by simp)) Z65).trans (s65 _ _ a8');simp only[go_sem,seval,hdb,bN a65,Uh,Sh,k0,k8,SQ];refine bk λi66 Z66 s66 a66 f66=>?_;have k66:=(hdelB U (aa.refl U) Z65 (Tg.trans s65)).trans s66;have n66:U i66=none:=(Tg.trans s65).none f66;have e8:=s66 _ _ d8;simp only[go_sem,seval,k0,k8,SQ,r1,e8];refine⟨_,by omega,i+1,by omega,rfl,k66,?_,by simp[k0,k8,e8]⟩;rw[hRn,aM (by omega),mL];exact aP.new (by simp) (by rw[a66];simp) n66
     .have q1:=qF u';obtain rfl:i=B.length:=by omega
      rw[ik]at R3;apply sR;simp only[go_sem,seval,k0,k8,SQ,TX,a8,q1,hlB,ae];exact R3.ns hs rfl
open Go.Proofs
def JS(l:List Nd)(hb:Sc l=true)(hn:l.length<=2000)(of:List Int)(SB:of.length<=1000000)(Sv:∀x∈of,(0<=x/\x<l.length)/\Wu l x.toNat≠1)(k:Nat)(hk:k<=of.length):
 aV prog 136 [aQ l,aX of,vI k] (vI (iO l of k)):=λU=>by
 refine Po.q ?_;have hs:=aa.refl U;have hac:=yV l hb hn of SB Sv k hk;have hAl:=mz (l:=l) (by omega) of k;unfold iO;rw[w8 _ _ rfl];generalize gY l of k=A at*;have hlA:=db A;have r0:R0 .i64 ((A.length:Int)-1):=ao;refine mS 10 ?_;simp only[go_sem,seval,MI];refine pS rfl (hac _) ?_;simp only[go_sem,seval,hlA,r0];refine aq.loop (λm st=>∃j:Nat,j<=A.length/\m=j/\(∀i (h:i<A.length),j<=i->¬(A[i]=3\/A[i]=4))/\st.U=U/\st.s 7=aX A/\st.s 8=vI ((j:Int)-1)) A.length ?_ ?_
 .exact⟨A.length,by omega,rfl,λi h h'=>by omega,rfl,rfl,rfl⟩
 .rintro m ⟨S,J⟩ ⟨j,hj,rfl,hz,R8,k7,k8⟩;simp only at R8 k7 k8;subst R8;refine aq.mix 10 ?_;rcases Nat.eq_zero_or_pos m with rfl|TN
  .have q:(((0:Nat):Int)-1>=0)=False:=H';rw[BL λi h=>hz i h (by omega)];apply sR;simp only[go_sem,seval,k7,k8,q];refine aq.loop (λm st=>∃i:Nat,i<=A.length/\m=A.length-i/\2∉A.take i/\st.U=J/\st.s 7=aX A/\st.s 9=vI i) A.length ?_ ?_
   .exact⟨0,by omega,rfl,by simp,rfl,k7,rfl⟩
   .clear k7 k8;rintro m ⟨S,U⟩ ⟨i,hi,rfl,hz,R8,k7,k9⟩;simp only at R8 k7 k9;subst R8;refine aq.mix 10 ?_;by_cases u':i<A.length
    .have q1:=qT u';have SA:=λU=>dp (U:=U) u';have UT:A[i]∈A:=Sx u';have Sd:A.take (i+1)=A.take i++[A[i]]:=U0 u';have r1:=rI i;generalize A[i]=x at*;by_cases hx:x=2
     .have q2:(x=2)=True:=RA hx;rw[aK (by rw[<-hx];exact UT)];apply sR;simp only[go_sem,seval,k7,k9,q1,hlA,SA,q2];exact az.pure hs rfl
     .have q2:(x=2)=False:=H' hx;apply sR;simp only[go_sem,seval,k7,k9,q1,hlA,SA,q2,r1];refine⟨_,by omega,i+1,by omega,rfl,?_,by simp[k7,vI]⟩;rw[Sd];simp only[fH,jY,not_or];exact⟨hz,λh=>hx h.symm⟩
    .have q1:=qF u';obtain rfl:i=A.length:=by omega
     rw[ik]at hz;rw[aM hz];apply sR;simp only[go_sem,seval,k7,k9,q1,hlA];exact az.pure hs rfl
  .obtain⟨j,rfl⟩:∃j,m=j+1:=⟨m-1,by omega⟩
   have e1:(((j+1:Nat):Int)-1)=j:=by omega
   rw[e1]at k8;have q:((j:Int)>=0)=True:=RA;have u':j<A.length:=by omega
   have SA:=λU=>dp (U:=U) u';have UK:=BR u' (λi h h'=>hz i h (by omega));have r1:R0 .i64 ((j:Int)-1):=ao;generalize hx:A[j]=x at*;by_cases h3:x=3
   .have q3:(x=3)=True:=RA h3;rw[UK (.inl h3)];apply sR;simp only[go_sem,seval,k7,k8,q,SA,q3];exact az.pure hs rfl
   .have q3:(x=3)=False:=H' h3;by_cases h4:x=4
    .have q4:(x=4)=True:=RA h4;rw[UK (.inr h4)];apply sR;simp only[go_sem,seval,k7,k8,q,SA,q3,q4];exact az.pure hs rfl
    .have q4:(x=4)=False:=H' h4;apply sR;simp only[go_sem,seval,k7,k8,q,SA,q3,q4,r1];refine⟨_,by omega,j,by omega,rfl,λi h h'=>?_,by simp[k7,vI]⟩;by_cases e:i=j
     .subst e;rw[hx];omega
     .exact hz i h (by omega)
def uP(f:Nat->Int)(i:Nat):((List.range (i+1)).map f).map vI=((List.range i).map f).map vI++[vI (f i)]:=by
 rw[List.range_succ,eQ,eQ];rfl
def ID(l:List Nd)(hb:Sc l=true)(hn:l.length<=2000)(of:List Int)(SB:of.length<=1000000)(Sv:∀x∈of,(0<=x/\x<l.length)/\Wu l x.toNat≠1):
 aV prog 107 [aQ l,aX of] (aX (rM l of)):=λU=>by
 refine Q8.q ?_;have hs:=aa.refl U;have hac:=λk hk=>JS l hb hn of SB Sv k hk;have SD:=db of;unfold rM;generalize iO l of=F at*;generalize hX:aX ((List.range (of.length+1)).map F)=X;refine mS 7 ?_;simp only[go_sem,seval,Md];refine aq.loop (λm st=>∃i:Nat,i<=of.length+1/\m=of.length+1-i/\aa U st.U/\aP U st.U 3 1 (st.s 5) (((List.range i).map F).map vI)/\st.s 0=aQ l/\st.s 1=aX of/\st.s 6=vI i) (of.length+1) ?_ ?_
 .exact⟨0,by omega,rfl,hs,aP.start,rfl,rfl,rfl⟩
 .clear hs;rintro m ⟨S,J⟩ ⟨i,hi,rfl,hs,R3,k0,k1,k6⟩;simp only at hs R3 k0 k1 k6;generalize hv5:S 5=v5 at R3;refine aq.mix 7 ?_;by_cases u':i<=of.length
  .have q:((i:Int)<=of.length)=True:=RA;have r1:=rI i;have Uh:(((List.range i).map F).map vI).length=i:=by simp
   have Sh:(i+1)*9<=140737488355328:=by omega
   apply sR;simp only[go_sem,seval,k0,k1,k6,hv5,q,SD];refine pS rfl (hac i u' _) ?_;simp only[go_sem,seval,k0,k1,k6,hv5];refine aD λi38 Z38 s38 a38 f38=>?_;obtain⟨idA,SE,RO⟩:=R3.dst s38;simp only[go_sem,seval,SE,bN a38,Uh,Sh,k0,k1,k6];refine bk λi39 Z39 s39 a39 f39=>?_;have k39:=(RO U (aa.refl U) Z38 (hs.trans s38)).trans s39;have n39:U i39=none:=(hs.trans s38).none f39;simp only[go_sem,seval,k0,k1,k6,r1];refine⟨_,by omega,i+1,by omega,rfl,k39,?_,by simp[k0,k1]⟩;rw[uP];exact aP.new (by simp) a39 n39
  .have q:((i:Int)<=of.length)=False:=H';obtain rfl:i=of.length+1:=by omega
   apply sR;simp only[go_sem,seval,k0,k1,k6,hv5,q,SD];exact R3.ns hs hX
open Go.Proofs
def F2(l:List Nd)(hb:Sc l=true)(hn:l.length<=2000)(of:List Int)(SB:of.length<=1000000)(Sv:∀x∈of,(0<=x/\x<l.length)/\Wu l x.toNat≠1)(k:Nat)(hk:k<=of.length):
 aV prog 167 [aQ l,aX of,vI k] (.RM [vI (jE of (cq l of k).text k).1,vI (jE of (cq l of k).text k).2]):=λU=>by
 refine OV.q ?_;have hs:=aa.refl U;have hkc:=BE l hb hn of SB Sv k hk;have SD:=db of;generalize cq l of k=x at*;obtain⟨E,B,C,t⟩:=x;simp only at hkc|-;refine mS 13 ?_;simp only[go_sem,seval,Oc];refine pR rfl (hkc _) ?_;unfold jE;by_cases ht:t<0
 .have q:(t<0)=True:=RA ht;rw[aK ht];apply sR;simp only[go_sem,seval,fV,q];exact az.pure hs rfl
 .have q:(t<0)=False:=H' ht;rw[aM ht];apply sR;simp only[go_sem,seval,fV,q];refine aq.loop (λm st=>∃i:Nat,i<=k/\m=k-i/\st.U=U/\st.s 1=aX of/\st.s 2=vI k/\st.s 8=vI t/\st.s 9=vI (fz of t k i).1/\st.s 10=vI 0/\st.s 11=vI i) k ?_ ?_
  .exact⟨0,by omega,rfl,rfl,rfl,rfl,rfl,rfl,rfl,rfl⟩
  .rintro m ⟨S,J⟩ ⟨i,hi,rfl,R8,k1,k2,k8,k9,SQ,TB⟩;simp only at R8 k1 k2 k8 k9 SQ TB;subst R8;refine aq.mix 13 ?_;by_cases u':i<k
   .have q1:((i:Int)<k)=True:=RA;have TM:i<of.length:=by omega
    have SA:=λU=>dp (U:=U) TM;have Vo:of.getD i 0=of[i]:=by simp[TM]
    have RR:fz of t k (i+1)=if of.getD i 0=t then if i<k then((fz of t k i).1+1,(fz of t k i).2)else((fz of t k i).1,(fz of t k i).2+1)else fz of t k i:=rfl
    rw[Vo,aK u']at RR;have hle:=(tA of t k i).1;have r1:=rI i;have r2:R0 .i64 (((fz of t k i).1:Int)+1):=ao;generalize of[i]=y at*;by_cases hy:y=t
    .have q2:(y=t)=True:=RA hy;rw[aK hy]at RR;apply sR;simp only[go_sem,seval,k1,k2,k8,k9,SQ,TB,q1,SA,q2,r1,r2];exact⟨_,by omega,i+1,by omega,rfl,by simp[RR,vI]⟩
    .have q2:(y=t)=False:=H' hy;rw[aM hy]at RR;apply sR;simp only[go_sem,seval,k1,k2,k8,k9,SQ,TB,q1,SA,q2,r1];exact⟨_,by omega,i+1,by omega,rfl,by simp[RR,vI]⟩
   .have q1:((i:Int)<k)=False:=H';obtain rfl:i=k:=by omega
    have h0:=zQ (of:=of) (t:=t) i (Sf _);apply sR;simp only[go_sem,seval,k1,k2,k8,k9,SQ,TB,q1];refine aq.loop (λm st=>∃j:Nat,i<=j/\j<=of.length/\m=of.length-j/\st.U=J/\st.s 1=aX of/\st.s 8=vI t/\st.s 9=vI (fz of t i j).1/\st.s 10=vI (fz of t i j).2/\st.s 12=vI j) (of.length-i) ?_ ?_
    .exact⟨i,by omega,by omega,rfl,rfl,k1,k8,k9,by rw[h0];exact SQ,rfl⟩
    .clear k1 k2 k8 k9 SQ TB;rintro m ⟨S,U⟩ ⟨j,Xu,hj,rfl,R8,k1,k8,k9,SQ,SF⟩;simp only at R8 k1 k8 k9 SQ SF;subst R8;refine aq.mix 13 ?_;by_cases u':j<of.length
     .have q2:=qT u';have SA:=λU=>dp (U:=U) u';have Vo:of.getD j 0=of[j]:=by simp[u']
      have RR:fz of t i (j+1)=if of.getD j 0=t then if j<i then((fz of t i j).1+1,(fz of t i j).2)else((fz of t i j).1,(fz of t i j).2+1)else fz of t i j:=rfl
      rw[Vo,aM (show¬j<i by omega)]at RR;have hle:=(tA of t i j).2;have r1:=rI j;have r2:R0 .i64 (((fz of t i j).2:Int)+1):=ao;generalize of[j]=y at*;by_cases hy:y=t
      .have q3:(y=t)=True:=RA hy;rw[aK hy]at RR;apply sR;simp only[go_sem,seval,k1,k8,k9,SQ,SF,SD,q2,SA,q3,r1,r2];exact⟨_,by omega,j+1,by omega,by omega,rfl,by simp[RR,vI]⟩
      .have q3:(y=t)=False:=H' hy;rw[aM hy]at RR;apply sR;simp only[go_sem,seval,k1,k8,k9,SQ,SF,SD,q2,SA,q3,r1];exact⟨_,by omega,j+1,by omega,by omega,rfl,by simp[RR,vI]⟩
     .have q2:=qF u';obtain rfl:j=of.length:=by omega
      apply sR;simp only[go_sem,seval,k1,k8,k9,SQ,SF,SD,q2];exact az.pure hs rfl
open Go.Proofs
def Kx(l:List Nd)(hb:Sc l=true)(hn:l.length<=2000)(of:List Int)(SB:of.length<=1000000)(Sv:∀x∈of,(0<=x/\x<l.length)/\Wu l x.toNat≠1)(k:Nat)(hk:k<=of.length):
 aV prog 137 [aQ l,aX of,vI k] (vI (mo l of k)):=λU=>by
 refine ON.q ?_;have hs:=aa.refl U;have hkc:=BE l hb hn of SB Sv k hk;have YM:=F2 l hb hn of SB Sv k hk;have hac:=yV l hb hn of SB Sv k hk;have hAl:=mz (l:=l) (by omega) of k;have SD:=db of;have T1:=bO l;obtain⟨-,-,gO⟩:=CI Sv k;obtain⟨-,-,lO⟩:=Ct hn of k;have htx:=yX (λx hx=>(Sv x hx).1) k;rw[I7];have hwi:∀b∈(cq l of k).both,0<=(T9 l b).inside/\(T9 l b).inside<=1:=λb UB=>by
  obtain⟨n,rfl,TK⟩:=gO b UB;rw[fX TK];exact(eJ hb TK).st.inside
 have hins:=IH hwi;rw[<-hins];have hfw:(if Dl l of (cq l of k).text k=true then(1:Int)else 0)=if 0<=(cq l of k).text/\(((jE of (cq l of k).text k).1:Int)<(jD l (cq l of k).text).RL\/((jE of (cq l of k).text k).2:Int)<(jD l (cq l of k).text).RY)then 1 else 0:=by
  unfold Dl;by_cases h:(cq l of k).text<0
  .rw[aK h,aM (by simp),aM (λh'=>by omega)]
  .rw[aM h];simp only[Uy,show(0<=(cq l of k).text)=True from RA,true_and]
 rw[hfw];have hpc:=λ(a:Nat) (ha:a<l.length)=>yY l (by omega) a ha;have hI:0<=oz l (cq l of k).both/\oz l (cq l of k).both<=1:=by rw[hins];split<;>omega
 clear hfw hins;generalize cq l of k=x at*;obtain⟨E,B,O,t⟩:=x;simp only at gO lO htx hwi hkc YM hI|-;have hlO:=db O;generalize gY l of k=A at*;have hlA:=db A;generalize jE of t k=X at*;obtain⟨a,b⟩:=X;simp only at YM|-;refine aq.mix 19 ?_;by_cases h0:k=0\/k=of.length
 .rw[aK h0];by_cases h1:k=0
  .have q0:((k:Int)=0)=True:=RA;apply sR;simp only[go_sem,seval,IB,q0];exact az.pure hs rfl
  .have q0:((k:Int)=0)=False:=H';have q1:((k:Int)=of.length)=True:=RA;apply sR;simp only[go_sem,seval,IB,SD,q0,q1];exact az.pure hs rfl
 rw[aM h0];obtain⟨ANS,ZM⟩:∃z,z=(if 0<=t/\((a:Int)<(jD l t).RL\/(b:Int)<(jD l t).RY)then(1:Int)else 0)+2*oz l O+4*(if 1∈A then 1 else 0):=⟨_,rfl⟩
 rw[<-ZM];have q0:((k:Int)=0)=False:=H';have q1:((k:Int)=of.length)=False:=H';apply sR;simp only[go_sem,seval,IB,SD,q0,q1];refine pS rfl (hkc _) ?_;simp only[go_sem,seval,fV,ae,af];refine aG hs λi7 Z7 s7 a7 f7 z7 hs=>?_;by_cases ht:t<0
 case' pos=>
  have q2:(t>=0)=False:=H';generalize Wx:jD l t=sd at*;obtain⟨sm,W7⟩:∃sm:Int,sm=0:=⟨0,rfl⟩
  have fb:(if 0<=t/\((a:Int)<sd.RL\/(b:Int)<sd.RY)then(1:Int)else 0)=sm:=by rw[W7,aM (λh=>by omega)]
  simp only[go_sem,seval,a7,ae,af,q2];generalize VZ:C' _ i7 _=Y7;replace a7:=SR VZ;replace hs:=SL VZ hs z7
 case' neg=>
  have q2:(t>=0)=True:=RA;obtain⟨n,hnt⟩:∃n:Nat,t=n:=⟨t.toNat,by omega⟩
  have hpn:=hpc n (by omega);have hpr:=dR l n;have UM:jD l t=if 0<=cS l n then T9 l (cS l n)else oY:=by unfold jD;rw[hnt];rfl
  rw[<-hnt]at hpn;simp only[go_sem,seval,a7,ae,af,q2];generalize VZ:C' _ i7 _=Y7;replace a7:=SR VZ;replace hs:=SL VZ hs z7;apply sR;simp only[go_sem,seval,a7];refine pR rfl (hpn _) ?_;generalize cS l n=pr at*;rcases Decidable.em (pr>=0)with hp|hp
  case' inl=>
   have q3:(pr>=0)=True:=RA hp;obtain⟨m,rfl⟩:∃m:Nat,pr=m:=⟨pr.toNat,by omega⟩
   have hml:m<l.length:=by omega
   have SI:=λU=>bI (U:=U) (l:=l) (a:=m) hml;rw[show jD l t=l[m].st by rw[UM,aK (by omega),fX hml]]at ZM;apply sR;simp only[go_sem,seval,a7,q3,SI,Nd.cells];generalize l[m].st=sd at*;refine pR rfl (YM _) ?_;by_cases ha:(a:Int)<sd.RL
   case' pos=>
    have q4:((a:Int)<sd.RL)=True:=RA ha;obtain⟨sm,W7⟩:∃sm:Int,sm=1:=⟨1,rfl⟩
    have fb:(if 0<=t/\((a:Int)<sd.RL\/(b:Int)<sd.RY)then(1:Int)else 0)=sm:=by rw[W7];exact aK ⟨by omega,.inl ha⟩
    apply sR;simp only[go_sem,seval,a7,ae,af,q4]
   case' neg=>
    have q4:((a:Int)<sd.RL)=False:=H' ha;by_cases hbw:(b:Int)<sd.RY
    case' pos=>
     have q5:((b:Int)<sd.RY)=True:=RA hbw;obtain⟨sm,W7⟩:∃sm:Int,sm=1:=⟨1,rfl⟩
     have fb:(if 0<=t/\((a:Int)<sd.RL\/(b:Int)<sd.RY)then(1:Int)else 0)=sm:=by rw[W7];exact aK ⟨by omega,.inr hbw⟩
     apply sR;simp only[go_sem,seval,a7,ae,af,q4,q5]
    case' neg=>
     have q5:((b:Int)<sd.RY)=False:=H' hbw;obtain⟨sm,W7⟩:∃sm:Int,sm=0:=⟨0,rfl⟩
     have fb:(if 0<=t/\((a:Int)<sd.RL\/(b:Int)<sd.RY)then(1:Int)else 0)=sm:=by rw[W7];exact aM (λh=>by omega)
     apply sR;simp only[go_sem,seval,a7,ae,af,q4,q5]
  case' inr=>
   have q3:(pr>=0)=False:=H' hp;rw[show jD l t=oY by rw[UM,aM (by omega)]]at ZM;generalize Wx:oY=sd at ZM;have e1:sd.RL=2:=by rw[<-Wx];rfl
   have e2:sd.RY=2:=by rw[<-Wx];rfl
   apply sR;simp only[go_sem,seval,a7,q3];refine pR rfl (YM _) ?_;by_cases ha:(a:Int)<sd.RL
   case' pos=>
    have q4:((a:Int)<2)=True:=RA;obtain⟨sm,W7⟩:∃sm:Int,sm=1:=⟨1,rfl⟩
    have fb:(if 0<=t/\((a:Int)<sd.RL\/(b:Int)<sd.RY)then(1:Int)else 0)=sm:=by rw[W7];exact aK ⟨by omega,.inl ha⟩
    apply sR;simp only[go_sem,seval,a7,ae,af,q4]
   case' neg=>
    have q4:((a:Int)<2)=False:=H';by_cases hbw:(b:Int)<sd.RY
    case' pos=>
     have q5:((b:Int)<2)=True:=RA;obtain⟨sm,W7⟩:∃sm:Int,sm=1:=⟨1,rfl⟩
     have fb:(if 0<=t/\((a:Int)<sd.RL\/(b:Int)<sd.RY)then(1:Int)else 0)=sm:=by rw[W7];exact aK ⟨by omega,.inr hbw⟩
     apply sR;simp only[go_sem,seval,a7,ae,af,q4,q5]
    case' neg=>
     have q5:((b:Int)<2)=False:=H';obtain⟨sm,W7⟩:∃sm:Int,sm=0:=⟨0,rfl⟩
     have fb:(if 0<=t/\((a:Int)<sd.RL\/(b:Int)<sd.RY)then(1:Int)else 0)=sm:=by rw[W7];exact aM (λh=>by omega)
     apply sR;simp only[go_sem,seval,a7,ae,af,q4,q5]
 all_goals
  clear YM;rw[fb]at ZM;clear fb;have hsm1:0<=sm/\sm<=1:=by omega
  refine aq.loop (λm st=>∃i:Nat,i<=O.length/\m=O.length-i/\aa U st.U/\st.U i7=some ⟨240,4,[.agg [aX E,aX B,aX O,vI t]]⟩/\st.s 0=aQ l/\st.s 1=aX of/\st.s 2=vI k/\st.s 7=.ptr i7 0 0/\st.s 8=vI sm/\st.s 14=vI (oz l (O.take i))/\st.s 15=vI i) O.length ?_ ?_
  .exact⟨0,by omega,rfl,hs,a7,rfl,rfl,rfl,rfl,by rw[W7];rfl,rfl,rfl⟩
  .clear hs a7;rintro m ⟨S,J⟩ ⟨i,hi,rfl,hs,a7,k0,k1,k2,k7,k8,Vr,k15⟩;simp only at hs a7 k0 k1 k2 k7 k8 Vr k15;refine aq.mix 19 ?_;by_cases u':i<O.length
   .have u1:=qT u';have SA:=λU=>dp (U:=U) u';obtain⟨n,Xx,TK⟩:=gO _ (Sx u');have Sd:=Eo (l:=l) u';rw[Xx]at SA Sd;rw[fX TK]at Sd;have SI:=λU=>bI (U:=U) (l:=l) (a:=n) TK;have r1:=rI i;generalize l[n]=nd at*;apply sR;simp only[go_sem,seval,k0,k1,k2,k7,k8,Vr,k15,a7,u1,hlO,SA,SI,Nd.cells,ae,bW,r1];exact⟨_,by omega,i+1,by omega,rfl,hs,by simp[k0,k1,k2,k7,k8,a7,Sd,vI]⟩
   .have u1:=qF u';obtain rfl:i=O.length:=by omega
    rw[ik]at Vr;apply sR;simp only[go_sem,seval,k0,k1,k2,k7,k8,Vr,k15,a7,u1,hlO,ae];refine pS rfl (hac _) ?_;simp only[go_sem,seval];refine aq.loop (λm st=>∃i:Nat,i<=A.length/\m=A.length-i/\aa U st.U/\st.s 8=vI sm/\st.s 14=vI (oz l O)/\st.s 16=vI (uu (A.take i))/\st.s 17=aX A/\st.s 18=vI i) A.length ?_ ?_
    .exact⟨0,by omega,rfl,hs,k8,Vr,rfl,rfl,rfl⟩
    .clear hs k0 k1 k2 k7 k8 Vr k15 hi hac;rintro m ⟨S,J⟩ ⟨i,hi,rfl,hs,k8,Vr,k16,k17,k18⟩;simp only at hs k8 Vr k16 k17 k18;refine aq.mix 19 ?_;by_cases u':i<A.length
     .have u1:=qT u';have SA:=λU=>dp (U:=U) u';have Sd:=Eu u';have r1:=rI i;generalize A[i]=y at*;by_cases hy:y=1
      .have u2:(y=1)=True:=RA hy;rw[aK hy]at Sd;apply sR;simp only[go_sem,seval,k8,Vr,k16,k17,k18,u1,hlA,SA,u2,r1];exact⟨_,by omega,i+1,by omega,rfl,hs,by simp[k8,Vr,k17,Sd,vI]⟩
      .have u2:(y=1)=False:=H' hy;rw[aM hy]at Sd;apply sR;simp only[go_sem,seval,k8,Vr,k16,k17,k18,u1,hlA,SA,u2,r1];exact⟨_,by omega,i+1,by omega,rfl,hs,by simp[k8,Vr,k16,k17,Sd,vI]⟩
     .have u1:=qF u';obtain rfl:i=A.length:=by omega
      rw[ik]at k16;have hh:uu A=0\/uu A=1:=by unfold uu;split<;>simp
      rw[show(if 1∈A then(1:Int)else 0)=uu A from rfl]at ZM;have r1:R0 .i64 (2*oz l O):=ao;have r2:R0 .i64 (sm+2*oz l O):=ao;have r3:R0 .i64 (4*uu A):=ao;have r4:R0 .i64 (sm+2*oz l O+4*uu A):=ao;generalize uu A=q at*;generalize oz l O=w at*;apply sR;simp only[go_sem,seval,k8,Vr,k16,k17,k18,u1,hlA,r1,r2,r3,r4];exact az.pure hs (by rw[ZM])
open Go.Proofs
def IT(l:List Nd)(hb:Sc l=true)(hn:l.length<=2000)(of:List Int)(SB:of.length<=1000000)(Sv:∀x∈of,(0<=x/\x<l.length)/\Wu l x.toNat≠1):
 aV prog 108 [aQ l,aX of] (aX (sy l of)):=λU=>by
 refine Rp.q ?_;have hs:=aa.refl U;have hac:=λk hk=>Kx l hb hn of SB Sv k hk;have SD:=db of;unfold sy;generalize mo l of=F at*;generalize hX:aX ((List.range (of.length+1)).map F)=X;refine mS 7 ?_;simp only[go_sem,seval,NC];refine aq.loop (λm st=>∃i:Nat,i<=of.length+1/\m=of.length+1-i/\aa U st.U/\aP U st.U 3 1 (st.s 5) (((List.range i).map F).map vI)/\st.s 0=aQ l/\st.s 1=aX of/\st.s 6=vI i) (of.length+1) ?_ ?_
 .exact⟨0,by omega,rfl,hs,aP.start,rfl,rfl,rfl⟩
 .clear hs;rintro m ⟨S,J⟩ ⟨i,hi,rfl,hs,R3,k0,k1,k6⟩;simp only at hs R3 k0 k1 k6;generalize hv5:S 5=v5 at R3;refine aq.mix 7 ?_;by_cases u':i<=of.length
  .have q:((i:Int)<=of.length)=True:=RA;have r1:=rI i;have Uh:(((List.range i).map F).map vI).length=i:=by simp
   have Sh:(i+1)*9<=140737488355328:=by omega
   apply sR;simp only[go_sem,seval,k0,k1,k6,hv5,q,SD];refine pS rfl (hac i u' _) ?_;simp only[go_sem,seval,k0,k1,k6,hv5];refine aD λi38 Z38 s38 a38 f38=>?_;obtain⟨idA,SE,RO⟩:=R3.dst s38;simp only[go_sem,seval,SE,bN a38,Uh,Sh,k0,k1,k6];refine bk λi39 Z39 s39 a39 f39=>?_;have k39:=(RO U (aa.refl U) Z38 (hs.trans s38)).trans s39;have n39:U i39=none:=(hs.trans s38).none f39;simp only[go_sem,seval,k0,k1,k6,r1];refine⟨_,by omega,i+1,by omega,rfl,k39,?_,by simp[k0,k1]⟩;rw[uP];exact aP.new (by simp) a39 n39
  .have q:((i:Int)<=of.length)=False:=H';obtain rfl:i=of.length+1:=by omega
   apply sR;simp only[go_sem,seval,k0,k1,k6,hv5,q,SD];exact R3.ns hs hX
def Ix(l:List Nd)(hb:Sc l=true)(hn:l.length<=2000)(of:List Int)(SB:of.length<=1000000)(Sv:∀x∈of,(0<=x/\x<l.length)/\Wu l x.toNat≠1):
 aV prog 72 [aQ l,aX of] (dh (oU l of)):=λU=>by
 refine e72.q ?_;have hs:=aa.refl U;have ZI:=ID l hb hn of SB Sv;have hrc:=IT l hb hn of SB Sv;have SD:=db of;have hbkR:∀k,U' l of k=⟨dg of k,iO l of k,if iO l of k=0 then mo l of k else 0⟩:=λ_=>rfl;unfold rM at ZI;unfold sy at hrc;generalize hX:dh (oU l of)=X;generalize iO l of=F at*;generalize mo l of=R at*;refine mS 10 ?_;simp only[go_sem,seval,c72];refine pS rfl (ZI _) ?_;simp only[go_sem,seval];refine pS rfl (hrc _) ?_;simp only[go_sem,seval];clear ZI hrc;obtain⟨vF,hvF⟩:∃v,v=aX ((List.range (of.length+1)).map F):=⟨_,rfl⟩
 obtain⟨vR,hvR⟩:∃v,v=aX ((List.range (of.length+1)).map R):=⟨_,rfl⟩
 have hi5:∀j:Nat,j<of.length+1->∀U,bG U 1 vF (.int .i64 j)=some (.rp (vI (F j))):=λj h U=>by rw[hvF];exact Cz h
 have hi6:∀j:Nat,j<of.length+1->∀U,bG U 1 vR (.int .i64 j)=some (.rp (vI (R j))):=λj h U=>by rw[hvR];exact Cz h
 refine aq.loop (λm st=>∃j:Nat,j<=of.length+1/\m=of.length+1-j/\aa U st.U/\aP U st.U 77 3 (st.s 7) (((List.range j).map (U' l of)).map da)/\st.s 0=aQ l/\st.s 1=aX of/\st.s 5=vF/\st.s 6=vR/\st.s 8=vI j) (of.length+1) ?_ ?_
 .exact⟨0,by omega,rfl,hs,aP.start,rfl,rfl,by rw[hvF,List.range_succ];rfl,by rw[hvR,List.range_succ];rfl,rfl⟩
 .clear hs hvF hvR;rintro m ⟨S,J⟩ ⟨j,hj,rfl,hs,R3,t0,t1,t5,t6,t8⟩;simp only at hs R3 t0 t1 t5 t6 t8;generalize TX:S 7=v7 at R3;refine aq.mix 10 ?_;by_cases u':j<=of.length
  .have q:((j:Int)<=of.length)=True:=RA;have r1:=rI j;have Sa:(((List.range (j+1)).map (U' l of)).map da)=(((List.range j).map (U' l of)).map da)++[da (U' l of j)]:=by
    rw[List.range_succ];simp
   have Uh:(((List.range j).map (U' l of)).map da).length=j:=by simp
   replace hi5:=hi5 j (by omega);replace hi6:=hi6 j (by omega);generalize ((List.range j).map (U' l of)).map da=rows at*;have Ty:=hs;replace hs:=aa.refl J;apply sR;simp only[go_sem,seval,t0,t1,t5,t6,TX,t8,SD,q,hi5,hi6];refine wx hs λi9 Y9 s9 a9 f9 z9 hs=>?_;by_cases hz:F j=0
   .have q2:(F j≠0)=False:=H' (λh=>h hz);have WQ:da (U' l of j)=.agg [vI (dg of j),vI (F j),vI (R j)]:=by rw[hbkR,aK hz];rfl
    rcases(show(j=0/\of.length=0)\/(j=0/\of.length≠0)\/(0<j/\j=of.length)\/(0<j/\j<of.length/\of.getD (j-1) 0=of.getD j 0)\/(0<j/\j<of.length/\of.getD (j-1) 0≠of.getD j 0) by
     by_cases e:of.getD (j-1) 0=of.getD j 0<;>simp only[e,ne_eq,not_true,not_false_eq_true,and_true,and_false]<;>omega)with⟨g1,g2⟩|⟨g1,g2⟩|⟨g1,g2⟩|⟨g1,g2,g3⟩|⟨g1,g2,g3⟩
    .have w1:((j:Int)>0)=False:=H';have w2:((j:Int)<of.length)=False:=H';have w3:((j:Int)=of.length)=True:=RA;have w4:((j:Int)=0)=True:=RA;have Vg:da (U' l of j)=.agg [vI 0,vI (F j),vI (R j)]:=by rw[WQ,show dg of j=0 by rw[dg,aK g1]]
     simp only[go_sem,seval,a9,t0,t1,t5,t6,TX,t8,hi5,hi6,SD,q2,w1,w2,w3,w4];generalize Sy:C' _ i9 _=Z9;have UA:aa J Z9:=by rw[<-Sy];exact s9.aL f9
     clear Sy;refine aD λi58 WL TV WM f58=>?_;obtain⟨idA,SE,RO,TW,VY⟩:=R3.nM (UA.trans TV);have Sh:(rows.length+1)*25<=140737488355328:=by omega
     simp only[go_sem,seval,t0,t1,t5,t6,TX,t8,SE,bN WM,Sh];refine bk λi59 Z59 WN a59 f59=>?_;have WO:=(RO U (aa.refl _) WL (Ty.trans (UA.trans TV))).trans WN;have V9:U i59=none:=(Ty.trans (UA.trans TV)).none f59;simp only[go_sem,seval,t0,t1,t5,t6,t8,r1];refine⟨_,?_,j+1,by omega,rfl,WO,?_,by simp[t0,t1,t5,t6]⟩
     .omega
     .rw[Sa,Vg];exact aP.new (by simp) a59 V9
    .have w1:((j:Int)>0)=False:=H';have w2:((j:Int)<of.length)=True:=RA;have w3:((j:Int)=of.length)=False:=H';have w4:((j:Int)=0)=True:=RA;have Vg:da (U' l of j)=.agg [vI 0,vI (F j),vI (R j)]:=by rw[WQ,show dg of j=0 by rw[dg,aK g1]]
     simp only[go_sem,seval,a9,t0,t1,t5,t6,TX,t8,hi5,hi6,SD,q2,w1,w2,w3,w4];generalize Sy:C' _ i9 _=Z9;have UA:aa J Z9:=by rw[<-Sy];exact s9.aL f9
     clear Sy;refine aD λi58 WL TV WM f58=>?_;obtain⟨idA,SE,RO,TW,VY⟩:=R3.nM (UA.trans TV);have Sh:(rows.length+1)*25<=140737488355328:=by omega
     simp only[go_sem,seval,t0,t1,t5,t6,TX,t8,SE,bN WM,Sh];refine bk λi59 Z59 WN a59 f59=>?_;have WO:=(RO U (aa.refl _) WL (Ty.trans (UA.trans TV))).trans WN;have V9:U i59=none:=(Ty.trans (UA.trans TV)).none f59;simp only[go_sem,seval,t0,t1,t5,t6,t8,r1];refine⟨_,?_,j+1,by omega,rfl,WO,?_,by simp[t0,t1,t5,t6]⟩
     .omega
     .rw[Sa,Vg];exact aP.new (by simp) a59 V9
    .have w1:((j:Int)>0)=True:=RA;have w2:((j:Int)<of.length)=False:=H';have w3:((j:Int)=of.length)=True:=RA;have w4:((j:Int)=0)=False:=H';have Vg:da (U' l of j)=.agg [vI 3,vI (F j),vI (R j)]:=by rw[WQ,show dg of j=3 by rw[dg,aM (by omega),aK g2]]
     simp only[go_sem,seval,a9,t0,t1,t5,t6,TX,t8,hi5,hi6,SD,q2,w1,w2,w3,w4];generalize Sy:C' _ i9 _=Z9;have UA:aa J Z9:=by rw[<-Sy];exact s9.aL f9
     clear Sy;refine aD λi58 WL TV WM f58=>?_;obtain⟨idA,SE,RO,TW,VY⟩:=R3.nM (UA.trans TV);have Sh:(rows.length+1)*25<=140737488355328:=by omega
     simp only[go_sem,seval,t0,t1,t5,t6,TX,t8,SE,bN WM,Sh];refine bk λi59 Z59 WN a59 f59=>?_;have WO:=(RO U (aa.refl _) WL (Ty.trans (UA.trans TV))).trans WN;have V9:U i59=none:=(Ty.trans (UA.trans TV)).none f59;simp only[go_sem,seval,t0,t1,t5,t6,t8,r1];refine⟨_,?_,j+1,by omega,rfl,WO,?_,by simp[t0,t1,t5,t6]⟩
     .omega
     .rw[Sa,Vg];exact aP.new (by simp) a59 V9
    .have w1:((j:Int)>0)=True:=RA;have w2:((j:Int)<of.length)=True:=RA;have w3:((j:Int)=of.length)=False:=H';have w4:((j:Int)=0)=False:=H';have x1:=λU=>dp (U:=U) (l:=of) (i:=j-1) (by omega);have x2:=λU=>dp (U:=U) g2;have x3:((j:Int)-1)=((j-1:Nat):Int):=by omega
     have x4:=ao (m:=((j-1:Nat):Int)) (by omega) (by omega);have e1:of.getD j 0=of[j]:=by simp[g2]
     have e2:of.getD (j-1) 0=of[j-1]:=by have:j-1<of.length:=by omega
                                         simp[this]
     have w5:(of[j-1]=of[j])=True:=RA (by rw[<-e1,<-e2];exact g3);have Vg:da (U' l of j)=.agg [vI 2,vI (F j),vI (R j)]:=by rw[WQ,show dg of j=2 by rw[dg,aM (by omega),aM (by omega),aK g3.symm]]
     simp only[go_sem,seval,a9,t0,t1,t5,t6,TX,t8,hi5,hi6,SD,q2,w1,w2,w3,w4,x1,x2,x3,x4,w5];generalize Sy:C' _ i9 _=Z9;have UA:aa J Z9:=by rw[<-Sy];exact s9.aL f9
     clear Sy;refine aD λi58 WL TV WM f58=>?_;obtain⟨idA,SE,RO,TW,VY⟩:=R3.nM (UA.trans TV);have Sh:(rows.length+1)*25<=140737488355328:=by omega
     simp only[go_sem,seval,t0,t1,t5,t6,TX,t8,SE,bN WM,Sh];refine bk λi59 Z59 WN a59 f59=>?_;have WO:=(RO U (aa.refl _) WL (Ty.trans (UA.trans TV))).trans WN;have V9:U i59=none:=(Ty.trans (UA.trans TV)).none f59;simp only[go_sem,seval,t0,t1,t5,t6,t8,r1];refine⟨_,?_,j+1,by omega,rfl,WO,?_,by simp[t0,t1,t5,t6]⟩
     .omega
     .rw[Sa,Vg];exact aP.new (by simp) a59 V9
    .have w1:((j:Int)>0)=True:=RA;have w2:((j:Int)<of.length)=True:=RA;have w3:((j:Int)=of.length)=False:=H';have w4:((j:Int)=0)=False:=H';have x1:=λU=>dp (U:=U) (l:=of) (i:=j-1) (by omega);have x2:=λU=>dp (U:=U) g2;have x3:((j:Int)-1)=((j-1:Nat):Int):=by omega
     have x4:=ao (m:=((j-1:Nat):Int)) (by omega) (by omega);have e1:of.getD j 0=of[j]:=by simp[g2]
     have e2:of.getD (j-1) 0=of[j-1]:=by have:j-1<of.length:=by omega
                                         simp[this]
     have w5:(of[j-1]=of[j])=False:=H' (by rw[<-e1,<-e2];exact g3);have Vg:da (U' l of j)=.agg [vI 1,vI (F j),vI (R j)]:=by rw[WQ,show dg of j=1 by rw[dg,aM (by omega),aM (by omega),aM (λh=>g3 h.symm)]]
     simp only[go_sem,seval,a9,t0,t1,t5,t6,TX,t8,hi5,hi6,SD,q2,w1,w2,w3,w4,x1,x2,x3,x4,w5];generalize Sy:C' _ i9 _=Z9;have UA:aa J Z9:=by rw[<-Sy];exact s9.aL f9
     clear Sy;refine aD λi58 WL TV WM f58=>?_;obtain⟨idA,SE,RO,TW,VY⟩:=R3.nM (UA.trans TV);have Sh:(rows.length+1)*25<=140737488355328:=by omega
     simp only[go_sem,seval,t0,t1,t5,t6,TX,t8,SE,bN WM,Sh];refine bk λi59 Z59 WN a59 f59=>?_;have WO:=(RO U (aa.refl _) WL (Ty.trans (UA.trans TV))).trans WN;have V9:U i59=none:=(Ty.trans (UA.trans TV)).none f59;simp only[go_sem,seval,t0,t1,t5,t6,t8,r1];refine⟨_,?_,j+1,by omega,rfl,WO,?_,by simp[t0,t1,t5,t6]⟩
     .omega
     .rw[Sa,Vg];exact aP.new (by simp) a59 V9
   .have q2:(F j≠0)=True:=RA hz;have WQ:da (U' l of j)=.agg [vI (dg of j),vI (F j),vI (0)]:=by rw[hbkR,aM hz];rfl
    rcases(show(j=0/\of.length=0)\/(j=0/\of.length≠0)\/(0<j/\j=of.length)\/(0<j/\j<of.length/\of.getD (j-1) 0=of.getD j 0)\/(0<j/\j<of.length/\of.getD (j-1) 0≠of.getD j 0) by
     by_cases e:of.getD (j-1) 0=of.getD j 0<;>simp only[e,ne_eq,not_true,not_false_eq_true,and_true,and_false]<;>omega)with⟨g1,g2⟩|⟨g1,g2⟩|⟨g1,g2⟩|⟨g1,g2,g3⟩|⟨g1,g2,g3⟩
    .have w1:((j:Int)>0)=False:=H';have w2:((j:Int)<of.length)=False:=H';have w3:((j:Int)=of.length)=True:=RA;have w4:((j:Int)=0)=True:=RA;have Vg:da (U' l of j)=.agg [vI 0,vI (F j),vI (0)]:=by rw[WQ,show dg of j=0 by rw[dg,aK g1]]
     simp only[go_sem,seval,a9,t0,t1,t5,t6,TX,t8,hi5,hi6,SD,q2,w1,w2,w3,w4];generalize Sy:C' _ i9 _=Z9;have UA:aa J Z9:=by rw[<-Sy];exact s9.aL f9
     clear Sy;refine aD λi58 WL TV WM f58=>?_;obtain⟨idA,SE,RO,TW,VY⟩:=R3.nM (UA.trans TV);have Sh:(rows.length+1)*25<=140737488355328:=by omega
     simp only[go_sem,seval,t0,t1,t5,t6,TX,t8,SE,bN WM,Sh];refine bk λi59 Z59 WN a59 f59=>?_;have WO:=(RO U (aa.refl _) WL (Ty.trans (UA.trans TV))).trans WN;have V9:U i59=none:=(Ty.trans (UA.trans TV)).none f59;simp only[go_sem,seval,t0,t1,t5,t6,t8,r1];refine⟨_,?_,j+1,by omega,rfl,WO,?_,by simp[t0,t1,t5,t6]⟩
     .omega
     .rw[Sa,Vg];exact aP.new (by simp) a59 V9
    .have w1:((j:Int)>0)=False:=H';have w2:((j:Int)<of.length)=True:=RA;have w3:((j:Int)=of.length)=False:=H';have w4:((j:Int)=0)=True:=RA;have Vg:da (U' l of j)=.agg [vI 0,vI (F j),vI (0)]:=by rw[WQ,show dg of j=0 by rw[dg,aK g1]]
     simp only[go_sem,seval,a9,t0,t1,t5,t6,TX,t8,hi5,hi6,SD,q2,w1,w2,w3,w4];generalize Sy:C' _ i9 _=Z9;have UA:aa J Z9:=by rw[<-Sy];exact s9.aL f9
     clear Sy;refine aD λi58 WL TV WM f58=>?_;obtain⟨idA,SE,RO,TW,VY⟩:=R3.nM (UA.trans TV);have Sh:(rows.length+1)*25<=140737488355328:=by omega
     simp only[go_sem,seval,t0,t1,t5,t6,TX,t8,SE,bN WM,Sh];refine bk λi59 Z59 WN a59 f59=>?_;have WO:=(RO U (aa.refl _) WL (Ty.trans (UA.trans TV))).trans WN;have V9:U i59=none:=(Ty.trans (UA.trans TV)).none f59;simp only[go_sem,seval,t0,t1,t5,t6,t8,r1];refine⟨_,?_,j+1,by omega,rfl,WO,?_,by simp[t0,t1,t5,t6]⟩
     .omega
     .rw[Sa,Vg];exact aP.new (by simp) a59 V9
    .have w1:((j:Int)>0)=True:=RA;have w2:((j:Int)<of.length)=False:=H';have w3:((j:Int)=of.length)=True:=RA;have w4:((j:Int)=0)=False:=H';have Vg:da (U' l of j)=.agg [vI 3,vI (F j),vI (0)]:=by rw[WQ,show dg of j=3 by rw[dg,aM (by omega),aK g2]]
     simp only[go_sem,seval,a9,t0,t1,t5,t6,TX,t8,hi5,hi6,SD,q2,w1,w2,w3,w4];generalize Sy:C' _ i9 _=Z9;have UA:aa J Z9:=by rw[<-Sy];exact s9.aL f9
     clear Sy;refine aD λi58 WL TV WM f58=>?_;obtain⟨idA,SE,RO,TW,VY⟩:=R3.nM (UA.trans TV);have Sh:(rows.length+1)*25<=140737488355328:=by omega
     simp only[go_sem,seval,t0,t1,t5,t6,TX,t8,SE,bN WM,Sh];refine bk λi59 Z59 WN a59 f59=>?_;have WO:=(RO U (aa.refl _) WL (Ty.trans (UA.trans TV))).trans WN;have V9:U i59=none:=(Ty.trans (UA.trans TV)).none f59;simp only[go_sem,seval,t0,t1,t5,t6,t8,r1];refine⟨_,?_,j+1,by omega,rfl,WO,?_,by simp[t0,t1,t5,t6]⟩
     .omega
     .rw[Sa,Vg];exact aP.new (by simp) a59 V9
    .have w1:((j:Int)>0)=True:=RA;have w2:((j:Int)<of.length)=True:=RA;have w3:((j:Int)=of.length)=False:=H';have w4:((j:Int)=0)=False:=H';have x1:=λU=>dp (U:=U) (l:=of) (i:=j-1) (by omega);have x2:=λU=>dp (U:=U) g2;have x3:((j:Int)-1)=((j-1:Nat):Int):=by omega
     have x4:=ao (m:=((j-1:Nat):Int)) (by omega) (by omega);have e1:of.getD j 0=of[j]:=by simp[g2]
     have e2:of.getD (j-1) 0=of[j-1]:=by have:j-1<of.length:=by omega
                                         simp[this]
     have w5:(of[j-1]=of[j])=True:=RA (by rw[<-e1,<-e2];exact g3);have Vg:da (U' l of j)=.agg [vI 2,vI (F j),vI (0)]:=by rw[WQ,show dg of j=2 by rw[dg,aM (by omega),aM (by omega),aK g3.symm]]
     simp only[go_sem,seval,a9,t0,t1,t5,t6,TX,t8,hi5,hi6,SD,q2,w1,w2,w3,w4,x1,x2,x3,x4,w5];generalize Sy:C' _ i9 _=Z9;have UA:aa J Z9:=by rw[<-Sy];exact s9.aL f9
     clear Sy;refine aD λi58 WL TV WM f58=>?_;obtain⟨idA,SE,RO,TW,VY⟩:=R3.nM (UA.trans TV);have Sh:(rows.length+1)*25<=140737488355328:=by omega
     simp only[go_sem,seval,t0,t1,t5,t6,TX,t8,SE,bN WM,Sh];refine bk λi59 Z59 WN a59 f59=>?_;have WO:=(RO U (aa.refl _) WL (Ty.trans (UA.trans TV))).trans WN;have V9:U i59=none:=(Ty.trans (UA.trans TV)).none f59;simp only[go_sem,seval,t0,t1,t5,t6,t8,r1];refine⟨_,?_,j+1,by omega,rfl,WO,?_,by simp[t0,t1,t5,t6]⟩
     .omega
     .rw[Sa,Vg];exact aP.new (by simp) a59 V9
    .have w1:((j:Int)>0)=True:=RA;have w2:((j:Int)<of.length)=True:=RA;have w3:((j:Int)=of.length)=False:=H';have w4:((j:Int)=0)=False:=H';have x1:=λU=>dp (U:=U) (l:=of) (i:=j-1) (by omega);have x2:=λU=>dp (U:=U) g2;have x3:((j:Int)-1)=((j-1:Nat):Int):=by omega
     have x4:=ao (m:=((j-1:Nat):Int)) (by omega) (by omega);have e1:of.getD j 0=of[j]:=by simp[g2]
     have e2:of.getD (j-1) 0=of[j-1]:=by have:j-1<of.length:=by omega
                                         simp[this]
     have w5:(of[j-1]=of[j])=False:=H' (by rw[<-e1,<-e2];exact g3);have Vg:da (U' l of j)=.agg [vI 1,vI (F j),vI (0)]:=by rw[WQ,show dg of j=1 by rw[dg,aM (by omega),aM (by omega),aM (λh=>g3 h.symm)]]
     simp only[go_sem,seval,a9,t0,t1,t5,t6,TX,t8,hi5,hi6,SD,q2,w1,w2,w3,w4,x1,x2,x3,x4,w5];generalize Sy:C' _ i9 _=Z9;have UA:aa J Z9:=by rw[<-Sy];exact s9.aL f9
     clear Sy;refine aD λi58 WL TV WM f58=>?_;obtain⟨idA,SE,RO,TW,VY⟩:=R3.nM (UA.trans TV);have Sh:(rows.length+1)*25<=140737488355328:=by omega
     simp only[go_sem,seval,t0,t1,t5,t6,TX,t8,SE,bN WM,Sh];refine bk λi59 Z59 WN a59 f59=>?_;have WO:=(RO U (aa.refl _) WL (Ty.trans (UA.trans TV))).trans WN;have V9:U i59=none:=(Ty.trans (UA.trans TV)).none f59;simp only[go_sem,seval,t0,t1,t5,t6,t8,r1];refine⟨_,?_,j+1,by omega,rfl,WO,?_,by simp[t0,t1,t5,t6]⟩
     .omega
     .rw[Sa,Vg];exact aP.new (by simp) a59 V9
  .have q:((j:Int)<=of.length)=False:=H';obtain rfl:j=of.length+1:=by omega
   apply sR;simp only[go_sem,seval,t0,t1,t5,t6,TX,t8,SD,q];exact R3.ns hs hX
end Go.Vc
