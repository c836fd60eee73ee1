/- Part 10 of the library of this proof. -/
import Derived.Test.YtdaelobhgmdoeaaGreatW9
import Derived.Test.YtdaelobhgmdoeaaGreatProg
import Derived.KernelRfl
set_option linter.all false
set_option maxHeartbeats 8000000
set_option maxRecDepth 100000
namespace Go.Vc
def fS.qs{a b:Bk}{s:Xp}{r:Int}(h:fS a b s r)(h1:s.atom<=r)(h0:0<=s.atom)(ha:r<=(a.L'.length:Int)-1)(hb:r<=(b.L'.length:Int)-1):qs a.L' s.atom r=Go.Vc.qs b.L' s.atom r:=by
 have e:(btw a.L' (s.atom+1) r).map (mq a.L')=(btw b.L' (s.atom+1) r).map (mq b.L'):=by
  have e1:btw a.L' (s.atom+1) r=btw b.L' (s.atom+1) r:=by
   unfold btw uR;rw[show min r ((a.L'.length:Int)-1)=r by omega,show min r ((b.L'.length:Int)-1)=r by omega]
  rw[e1];refine List.map_congr_left λk hk=>?_;unfold mq;rw[h.bk k ?_];unfold btw uR at hk;have:=List.mem_range'_1.1 hk;omega
 unfold Go.Vc.qs lR Fm;rw[e]
def fS.top{a b:Bk}{s:XE}{r:Int}(h:fS a b s.s r)(ha:BkFull a)(hb:BkFull b)(h0:0<=s.s.atom):bP a s=bP b s:=by
 have e1:=h.aV ha hb h0;have e2:=h.hdk;unfold bP bC;rw[e2,e1]
def fS.UC{a b:Bk}(ha:bH a)(hb:bH b){s:XE}{r:Int}(h:fS a b s.s r)(h1:s.s.atom<=r)(hm:Go.Vc.bQ a.atoms s.s)(x:Wx)(hx:x.s=s.s)(hr:cm a x=r):da a x=da b x/\dQ a x=dQ b x/\cm b x=r:=by
 have hm':=(h.bQ h1).1 hm;have ek:cD a x=cD b x:=by unfold cD;rw[hx];exact h.kept h1 _
 have hr':cm b x=r:=by
  unfold cm at hr|-;rw[<-ek];rw[hx]at hr|-;exact h.reach ha hb h1 _ _ _ hm hr
 obtain⟨u,u1,u2,u3,-,-⟩:=gY ha.Zg ha.pos hm (cD a x) x.shift x.body;obtain⟨v,v1,v2,v3,-,-⟩:=gY hb.Zg hb.pos hm' (cD b x) x.shift x.body;have hra:r=u:=by rw[<-hr];unfold cm;rw[hx];exact u1
 have hrb:r=v:=by rw[<-hr'];unfold cm;rw[hx];exact v1
 have Zl:=ha.brk;have hlb:=hb.brk;have ecut:pT a x=pT b x:=by
  unfold pT;rw[hr,hr',hx];exact h.qs h1 hm.1.1 (by omega) (by omega)
 have eok:eE a.L' x.s.atom (cm a x)↔eE b.L' x.s.atom (cm b x):=by
  unfold eE;rw[hr,hr',hx];have:=hm.1;have:=hm'.1;constructor
  .rintro⟨-,g2,g3,g4⟩;exact⟨hb.mayb,g2,by omega,g4⟩
  .rintro⟨-,g2,g3,g4⟩;exact⟨ha.mayb,g2,by omega,g4⟩
 refine⟨?_,?_,hr'⟩
 .unfold da;by_cases hc:eE a.L' x.s.atom (cm a x)
  .rw[aq hc,aq (eok.1 hc),<-ecut,<-ek];obtain⟨c,c1,c2,c3,-⟩:=wY hc (by rw[hr];omega);have hcx:pT a x=c:=c1;rw[hcx];rw[hr]at c3;unfold sV bY;have e1:((List.range ((c:Int).toNat-x.s.atom.toNat)).map λi:Nat=>ct x.high (cG a.atoms x.s (cD a x) x.shift (x.s.atom+(i:Nat))))=(List.range ((c:Int).toNat-x.s.atom.toNat)).map λi:Nat=>ct x.high (cG b.atoms x.s (cD a x) x.shift (x.s.atom+(i:Nat))):=by
    refine List.map_congr_left λi hi=>?_;have hi':=List.mem_range.1 hi;have hm0:=hm.1.1;have hxa:x.s.atom=s.s.atom:=by rw[hx]
    have hk:x.s.atom+(i:Int)<=r:=by omega
    rw[hx]at hk|-;rw[h.whole h1 _ _ hk]
   have e2:cu a.atoms a.M' x.s (c:Int).toNat (cD a x) x.shift x.body=cu b.atoms b.M' x.s (c:Int).toNat (cD a x) x.shift x.body:=by
    rw[hx];exact h.here h1 (by omega) _ _ _
   simp only[e1,e2]
  .rw[ao hc,ao λg=>hc (eok.2 g)];unfold tV;have e1:ja a.atoms x.s x.body=ja b.atoms x.s x.body:=by
    have e0:dF a.atoms x.s x.body=dF b.atoms x.s x.body:=by unfold dF fe;rw[hx,h.XV h1]
    unfold ja;rw[hx]at e0|-;by_cases hq:1<=x.body
    .rw[aq (show kX a.atoms s.s x.body from⟨hm,hq⟩),aq (show kX b.atoms s.s x.body from⟨hm',hq⟩),e0]
    .rw[ao λg:kX a.atoms s.s x.body=>hq g.2,ao λg:kX b.atoms s.s x.body=>hq g.2]
   have e2:cu a.atoms a.M' x.s (x.s.atom+1) 0 0 x.body=cu b.atoms b.M' x.s (x.s.atom+1) 0 0 x.body:=by
    rw[hx];exact h.here h1 (by omega) _ _ _
   simp only[e1,e2]
 .unfold dQ;by_cases hc:eE a.L' x.s.atom (cm a x)
  .rw[aq hc,aq (eok.1 hc),<-ecut,<-ek];obtain⟨c,c1,c2,c3,-⟩:=wY hc (by rw[hr];omega);have hcx:pT a x=c:=c1;rw[hcx];rw[hr]at c3;unfold xU;have e2:cu a.atoms a.M' x.s (c:Int).toNat (cD a x) x.shift x.body=cu b.atoms b.M' x.s (c:Int).toNat (cD a x) x.shift x.body:=by
    rw[hx];exact h.here h1 (by omega) _ _ _
   have e3:a.L'.getD (c:Int).toNat ⟨0,0,0⟩=b.L'.getD (c:Int).toNat ⟨0,0,0⟩:=h.bk _ (by omega);simp only[e2,e3]
  .rw[ao hc,ao λg=>hc (eok.2 g)];unfold ub;have e1:dn a.atoms x.s x.body=dn b.atoms x.s x.body:=by
    have e0:dF a.atoms x.s x.body=dF b.atoms x.s x.body:=by unfold dF fe;rw[hx,h.XV h1]
    unfold dn;rw[hx]at e0|-;by_cases hq:1<=x.body
    .rw[aq (show kX a.atoms s.s x.body from⟨hm,hq⟩),aq (show kX b.atoms s.s x.body from⟨hm',hq⟩),e0];unfold iL;have:(dF b.atoms s.s x.body).atom=s.s.atom:=rfl;rw[this,h.XV h1]
    .rw[ao λg:kX a.atoms s.s x.body=>hq g.2,ao λg:kX b.atoms s.s x.body=>hq g.2]
   have e2:cu a.atoms a.M' x.s (x.s.atom+1) 0 0 x.body=cu b.atoms b.M' x.s (x.s.atom+1) 0 0 x.body:=by
    rw[hx];exact h.here h1 (by omega) _ _ _
   simp only[e1,e2]
def E1{b:Bk}(hb:bH b){s:XE}{kind:Int}(hm:kind=1->Go.Vc.bQ b.atoms s.s):s.s.atom<=dk b s kind:=by
 unfold dk;split
 .omega
 .rename_i hk;obtain⟨u,u1,u2,-⟩:=gY hb.Zg hb.pos (hm (by omega)) (iW b.atoms s.s ((aV b s.s).body-(cB (aV b s.s).body s.bx 0).2.2)) (cB (aV b s.s).body s.bx 0).2.2 (aV b s.s).body;rw[u1];exact u2
def fS.R4{a b:Bk}(ha:bH a)(hb:bH b){s:XE}(he:¬cH a s)(h:fS a b s.s (dk a s (aG a s).1.kind))(na:a.atoms≠[])(nb:b.atoms≠[]):aG a s=aG b s/\dk b s (aG b s).1.kind=dk a s (aG a s).1.kind:=by
 have Xq:gu a s:=Decidable.byContradiction λh=>he (.inl h);have Yb:0<=s.s.atom:=by rcases Xq.2 with h|h;exact h.1.1;omega
 have hg:=eu ha he;have h1:s.s.atom<=dk a s (aG a s).1.kind:=E1 ha λk=>(hg.cut k).1;have e1:=h.aV ha.toBkFull hb.toBkFull Yb;have e2:=h.top ha.toBkFull hb.toBkFull Yb;have hn:s.s.atom=a.atoms.length↔s.s.atom=b.atoms.length:=by
  have hl:=h.lt Yb h1;have q:s.s.atom<=a.atoms.length:=by rcases Xq.2 with h|h;have:=h.1.2;omega;omega
  constructor
  .intro g;have:=h.Xg s.s.atom.toNat (by omega);have hz:¬s.s.atom<b.atoms.length:=λg'=>by have:=hl.2 g';omega
   rcases Nat.lt_or_ge b.atoms.length a.atoms.length with g'|g'
   .have:=(h.lt (k:=b.atoms.length) (by omega) (by omega)).1 (by omega);omega
   .omega
  .intro g;have hz:¬s.s.atom<a.atoms.length:=λg'=>by have:=hl.1 g';omega
   omega
 have ef:kf a s↔kf b s:=by
  unfold kf;rw[hn,e1,h.left h1]
 have na':¬(a.atoms=[]/\s.s.free=true):=λg=>na g.1;have nb':¬(b.atoms=[]/\s.s.free=true):=λg=>nb g.1;unfold aG at h h1|-;rw[ao na']at h h1;rw[ao na',ao nb'];by_cases hf:kf a s
 .rw[aq hf]at h h1;rw[aq hf,aq (ef.1 hf),e2,e1];have hl:s.s.atom<a.atoms.length↔s.s.atom<b.atoms.length:=by
   have:=h.lt Yb (k:=s.s.atom) (by unfold dk;simp[ku]);exact this
  refine⟨by simp only[hl],?_⟩;unfold dk;simp[ku]
 .rw[ao hf]at h h1;have hm:Go.Vc.bQ a.atoms s.s:=Xq.2.resolve_right λg=>hf (.inl g.1);have hk:(ku (da a (bP a s))).kind=1:=(ij a (bP a s)).2;rw[ao hf,ao λg=>hf (ef.2 g)];have hr:cm a (bP a s)=dk a s (ku (da a (bP a s))).kind:=by
   unfold dk;rw[hk];rfl
  have Zw:(bP a s).s=s.s:=rfl;obtain⟨g1,g2,g3⟩:=h.UC ha hb h1 hm (bP a s) Zw hr;rw[<-e2,g1,g2];refine⟨rfl,?_⟩;rw[<-g1,<-hr];have hkb:(ku (da a (bP a s))).kind=1:=hk;unfold dk;rw[hkb];rw[e2]at g3 hr|-;rw[hr,<-g3];rfl
def bE{α:Type}[DecidableEq α]:List α->List α->Nat
 |x::l,y::m=>if x=y then bE l m+1 else 0
 |_,_=>0
def u7{α:Type}[DecidableEq α]:∀(l m:List α),bE l m<=l.length/\bE l m<=m.length
 |[],m=>by simp[bE]
 |x::l,[]=>by simp[bE]
 |x::l,y::m=>by
  have:=u7 l m;rw[bE];split<;>simp only[XX]<;>omega
def mF{α:Type}[DecidableEq α]:∀(l m:List α) (r:Nat),r<bE l m↔r<l.length/\∀k,k<=r->l[k]?=m[k]?
 |[],m,r=>by simp[bE]
 |x::l,[],r=>by
  simp only[bE];constructor
  .intro h;omega
  .intro h;have:=h.2 0 (Nat.zero_le r);simp at this
 |x::l,y::m,r=>by
  rw[bE];split
  .rename_i e;subst e;cases r with
   |zero=>simp
   |succ r=>
    have ih:=mF l m r;rw[show r+1<bE l m+1↔r<bE l m by omega,ih];simp only[XX];constructor
    .rintro⟨h1,h2⟩;refine⟨by omega,λk hk=>?_⟩;cases k with
     |zero=>rfl
     |succ k=>rw[uG,uG];exact h2 k (by omega)
    .rintro⟨h1,h2⟩;refine⟨by omega,λk hk=>?_⟩;have:=h2 (k+1) (by omega)
     rwa [uG,uG]at this
  .rename_i e;constructor
   .intro h;omega
   .intro h;have:=h.2 0 (Nat.zero_le r);simp only[KL,aI]at this;exact absurd this e
def l5(b:Bk)(r:Int):List T':=b.M'.filter λf=>decide (f.anchor<=r)
def mV(a b:Bk)(s:Xp):Prop:=(aV a s).WQ=(aV b s).WQ/\∀n∈(aV a s).WQ,(YG a.nodes n).head=(YG b.nodes n).head
instance (a b:Bk) (s:Xp):Decidable (mV a b s):=by unfold mV;infer_instance
def eQ(a b:Bk)(s:XE)(kind:Int):Prop:=
 if(a.atoms.length:Int)=0\/(b.atoms.length:Int)=0 then(a.atoms.length:Int)=b.atoms.length/\a.M'=b.M'
 else(dk a s kind<bE a.atoms b.atoms\/dk a s kind=a.atoms.length/\dk a s kind=b.atoms.length/\dk a s kind=bE a.atoms b.atoms)/\dk a s kind<bE a.L' b.L'/\l5 a (dk a s kind)=l5 b (dk a s kind)/\mV a b s.s
instance (a b:Bk) (s:XE) (kind:Int):Decidable (eQ a b s kind):=by unfold eQ;infer_instance
def vN{b:Bk}(hb:bH b){s:XE}(he:¬cH b s):0<=s.s.atom/\s.s.atom<=dk b s (aG b s).1.kind/\dk b s (aG b s).1.kind<=b.atoms.length:=by
 have Xq:gu b s:=Decidable.byContradiction λh=>he (.inl h);have Yb:0<=s.s.atom:=by rcases Xq.2 with h|h;exact h.1.1;omega
 have Zh:s.s.atom<=b.atoms.length:=by rcases Xq.2 with h|h;have:=h.1.2;omega;omega
 have hg:=eu hb he;refine⟨Yb,E1 hb λk=>(hg.cut k).1,?_⟩;unfold dk;split
 .exact Zh
 .rename_i hk;have hm:=(hg.cut (by omega)).1;obtain⟨u,u1,-,u3,-⟩:=gY hb.Zg hb.pos hm (iW b.atoms s.s ((aV b s.s).body-(cB (aV b s.s).body s.bx 0).2.2)) (cB (aV b s.s).body s.bx 0).2.2 (aV b s.s).body;rw[u1];omega
def Jh{a b:Bk}(ha:bH a){s:XE}(he:¬cH a s)(na:a.atoms≠[])(nb:b.atoms≠[])(hw:a.w=b.w)(hh:a.h=b.h):
 eQ a b s (aG a s).1.kind↔fS a b s.s (dk a s (aG a s).1.kind)/\∀k:Nat,(k:Int)<=dk a s (aG a s).1.kind->a.L'[k]?=b.L'[k]?:=by
 obtain⟨r1,r2,r3⟩:=vN ha he;have XU:=ha.brk;have l1:=py.2 na;have l2:=py.2 nb;unfold eQ;rw[ao (by omega)];generalize dk a s (aG a s).1.kind=r at*;obtain⟨q,rfl⟩:∃q:Nat,r=q:=⟨r.toNat,by omega⟩
 have hb1:(q:Int)<bE a.L' b.L'↔∀k:Nat,(k:Int)<=q->a.L'[k]?=b.L'[k]?:=by
  have:=mF a.L' b.L' q;constructor
  .intro h k hk;exact(this.1 (by omega)).2 k (by omega)
  .intro h;have:=this.2 ⟨by omega,λk hk=>h k (by omega)⟩;omega
 have ha1:((q:Int)<bE a.atoms b.atoms\/(q:Int)=a.atoms.length/\(q:Int)=b.atoms.length/\(q:Int)=bE a.atoms b.atoms)↔∀k:Nat,(k:Int)<=q->a.atoms[k]?=b.atoms[k]?:=by
  have hl:=u7 a.atoms b.atoms;constructor
  .rintro(h|⟨h1,h2,h3⟩) k hk
   .exact((mF a.atoms b.atoms q).1 (by omega)).2 k (by omega)
   .rcases Nat.lt_or_ge k q with hkq|hkq
    .exact((mF a.atoms b.atoms k).1 (by omega)).2 k (Xm k)
    .rw[oI (by omega),oI (by omega)]
  .intro h;rcases Nat.lt_or_ge q a.atoms.length with hq|hq
   .left;have:=(mF a.atoms b.atoms q).2 ⟨hq,λk hk=>h k (by omega)⟩;omega
   .right;have hn:=h q (Int.le_refl _);rw[oI (by omega)]at hn;have hmb:=Lq.1 hn.symm;have hld:q-1<bE a.atoms b.atoms:=(mF a.atoms b.atoms (q-1)).2 ⟨by omega,λk hk=>h k (by omega)⟩;refine⟨by omega,by omega,by omega⟩
 rw[ha1,hb1];constructor
 .rintro⟨h1,h2,h3,h4,h5⟩;refine⟨⟨by omega,h1,λk hk=>?_,h3,h4,h5,hw,hh⟩,h2⟩;unfold Yt;rw[qo,qo,h2 k hk]
 .rintro⟨h,h2⟩;exact⟨h.Xg,h2,h.fl,h.hd,h.st⟩
def GM{a b:Bk}(ha:bH a)(hb:bH b)(hw:a.w=b.w)(hh:a.h=b.h){s:XE}(he:¬cH a s)(hs:eQ a b s (aG a s).1.kind):
 aG a s=aG b s/\eQ b a s (aG b s).1.kind/\Yt a.L' s.s.atom.toNat=Yt b.L' s.s.atom.toNat\/a.atoms=[]/\b.atoms=[]/\aG a s=aG b s/\eQ b a s (aG b s).1.kind:=by
 by_cases h0:(a.atoms.length:Int)=0\/(b.atoms.length:Int)=0
 .right;unfold eQ at hs;rw[aq h0]at hs;have ea:a.atoms=[]:=rM (by omega);have eb:b.atoms=[]:=rM (by omega);have er:aV a s.s=aV b s.s:=by unfold aV;rw[aq ea,aq eb,hh]
  have erh:(aV b s.s).WQ=[]:=by unfold aV;rw[aq eb]
  have eh:∀hv,bC a s.s hv=bC b s.s hv:=λhv=>by unfold bC;rw[er,erh];rfl
  have et:bP a s=bP b s:=by unfold bP;rw[eh,er]
  have Xq:gu a s:=Decidable.byContradiction λh=>he (.inl h);have Yb:s.s.atom=0:=by
   rcases Xq.2 with h|h
   .have:=h.1;rw[ea]at this;simp at this;omega
   .rw[ea]at h;simpa using h.1
  have hf:kf a s:=.inl (by rw[Yb,ea];rfl);have ZW:kf b s:=.inl (by rw[Yb,eb];rfl);have ep:aG a s=aG b s:=by
   unfold aG;by_cases hfr:s.s.free=true
   .rw[aq ⟨ea,hfr⟩,aq ⟨eb,hfr⟩,eh];unfold xF ln;rw[hs.2]
   .rw[ao λg:a.atoms=[]/\s.s.free=true=>hfr g.2,ao λg:b.atoms=[]/\s.s.free=true=>hfr g.2,aq hf,aq ZW,et,er,ea,eb]
  refine⟨ea,eb,ep,?_⟩;unfold eQ;rw[aq (.inl (by rw[eb];rfl))];exact⟨by rw[ea,eb],hs.2.symm⟩
 .left;have na:a.atoms≠[]:=λe=>h0 (.inl (by rw[e];rfl));have nb:b.atoms≠[]:=λe=>h0 (.inr (by rw[e];rfl));obtain⟨hl,hbk⟩:=(Jh ha he na nb hw hh).1 hs;obtain⟨g1,g2⟩:=hl.R4 ha hb he na nb;obtain⟨r1,r2,r3⟩:=vN ha he;have l1:=py.2 na;have l2:=py.2 nb;refine⟨g1,?_,hl.bk _ (by omega)⟩;unfold eQ at hs|-;rw[ao (by omega)]at hs|-;rw[g2];obtain⟨h1,h2,h3,h4⟩:=hs;have s1:bE b.atoms a.atoms=bE a.atoms b.atoms:=by
   have key:∀{α:Type} [DecidableEq α] (l m:List α),bE l m=bE m l:=by
    intro α _ l
    induction l with
    |nil=>intro m;cases m<;>rfl
    |cons x l ih=>
     intro m;cases m with
     |nil=>rfl
     |cons y m=>
      simp only[bE,ih m];by_cases e:x=y
      .rw[aq e,aq e.symm]
      .rw[ao e,ao λg=>e g.symm]
   exact key _ _
  have s2:bE b.L' a.L'=bE a.L' b.L':=by
   have key:∀{α:Type} [DecidableEq α] (l m:List α),bE l m=bE m l:=by
    intro α _ l
    induction l with
    |nil=>intro m;cases m<;>rfl
    |cons x l ih=>
     intro m;cases m with
     |nil=>rfl
     |cons y m=>
      simp only[bE,ih m];by_cases e:x=y
      .rw[aq e,aq e.symm]
      .rw[ao e,ao λg=>e g.symm]
   exact key _ _
  rw[s1,s2];refine⟨by omega,h2,h3.symm,h4.1.symm,λn hn=>(h4.2 n (h4.1▸hn)).symm⟩
def lu(a b:Bk):Nat->XE->Nat->Nat
 |0,_,n=>n
 |f+1,s,n=>if cH a s then n else if¬eQ a b s (aG a s).1.kind then n
  else lu a b f (aG a s).2 (if fw a (aG a s).1 s.s ((n:Int)+1)then n+2 else n+1)
def jM(a b:Bk):Nat:=if(a.atoms.length:Int)+a.M'.length=0 then(if eQ a b ⟨⟨0,0,false⟩,[]⟩ 3 then 1 else 0)else lu a b 1000000001 ⟨⟨0,0,true⟩,[]⟩ 0
def zj{a b:Bk}(ha:bH a){s:XE}(he:¬cH a s)(hp:aG a s=aG b s)(h:Yt a.L' s.s.atom.toNat=Yt b.L' s.s.atom.toNat\/a.atoms=[])(no:Int):fw a (aG a s).1 s.s no↔fw b (aG b s).1 s.s no:=by
 rcases h with h|h
 .unfold fw;rw[hp,h]
 .have hk:(aG a s).1.kind≠1:=λk=>by
   have:=((eu ha he).cut k).1.1;rw[h]at this;simp at this;omega
  unfold fw;rw[<-hp];constructor
  .intro g;exact absurd g.1 hk
  .intro g;exact absurd g.1 hk
def Gh{a b:Bk}(ha:bH a)(hb:bH b)(hw:a.w=b.w)(hh:a.h=b.h){s:XE}(he:¬cH a s)(hs:eQ a b s (aG a s).1.kind):
 aG a s=aG b s/\eQ b a s (aG b s).1.kind/\∀no,fw a (aG a s).1 s.s no↔fw b (aG b s).1 s.s no:=by
 rcases GM ha hb hw hh he hs with⟨g1,g2,g3⟩|⟨g0,-,g1,g2⟩
 .exact⟨g1,g2,zj ha he g1 (.inl g3)⟩
 .exact⟨g1,g2,zj ha he g1 (.inr g0)⟩
def IP{a b:Bk}(hb:bH b){s:XE}(hm:gu a s)(he:cH a s)(he':¬cH b s):¬eQ b a s (aG b s).1.kind:=λhs=>by
 obtain⟨e1,e2,e3⟩:=he.resolve_left (λh=>h hm);obtain⟨r1,r2,r3⟩:=vN hb he';unfold eQ at hs;split at hs
 .exact he' (.inr ⟨by omega,e2,e3⟩)
 .have hl:=u7 b.atoms a.atoms;rcases hs.1 with h|⟨h1,h2,h3⟩
  .omega
  .exact he' (.inr ⟨by omega,e2,e3⟩)
open Go.Proofs Go.Proofs.Tryz
def LC(sz:Nat)(ks:List Nat):WD:=⟨26,(.seq (.Za false [⟨(some 4),(.W1 (.c (.bool false))),none⟩]) (.seq (.seq (.Za false [⟨(some 6),(.W1 (.t 0)),none⟩,⟨(some 7),(.len false (.t 6)),none⟩,⟨(some 8),(.W1 (.t 1)),none⟩,⟨(some 9),(.len false (.t 8)),none⟩,⟨(some 10),(.bin .neq (.t 7) (.t 9)),none⟩]) (.cond (.t 10) (.seq (.Za false [⟨(some 4),(.W1 (.c (.bool false))),none⟩]) .ret) .skip)) (.seq (.seq (.Za false [⟨(some 11),(.W1 (.t 0)),none⟩,⟨(some 12),(.len false (.t 11)),none⟩,⟨(some 13),(.W1 (.c (.int .i64 0))),none⟩]) (.block 0 (.loop (.seq (.Za false [⟨(some 14),(.bin .lss (.t 13) (.t 12)),none⟩]) (.seq (.cond (.t 14) .skip (.exit 0)) (.seq (.block 1 (.seq (.Za false [⟨(some 15),(.W1 (.t 13)),none⟩,⟨(some 5),(.W1 (.t 15)),none⟩]) (.seq (.Za true [⟨(some 16),(.W1 (.t 0)),none⟩,⟨(some 17),(.W1 (.t 5)),none⟩,⟨(some 18),(.ZG sz (.t 16) (.t 17)),none⟩,⟨(some 19),(.load true sz (.t 18)),none⟩,⟨(some 20),(.W1 (.t 1)),none⟩,⟨(some 21),(.W1 (.t 5)),none⟩,⟨(some 22),(.ZG sz (.t 20) (.t 21)),none⟩,⟨(some 23),(.load true sz (.t 22)),none⟩,⟨(some 24),(.eqS true ks (.t 19) (.t 23)),none⟩]) (.cond (.t 24) (.seq (.Za false [⟨(some 4),(.W1 (.c (.bool false))),none⟩]) .ret) .skip)))) (.Za false [⟨(some 25),(.bin .add (.t 13) (.c (.int .i64 1))),none⟩,⟨(some 13),(.W1 (.t 25)),none⟩]))))))) (.seq (.Za false [⟨(some 4),(.W1 (.c (.bool true))),none⟩]) .ret)))),[(.tmp (.t 4))]⟩
def Kt{P:Program}{f:FuncId}{fn:Func}(hf:P.funcs[f]?=some fn){sz:Nat}{ks:List Nat}(hc:cfn P fn=some (LC sz ks))(hk:dZ P f=true){α:Type}[DecidableEq α](enc:α->V)
 (he:∀a b,ng true ks (enc a) (enc b)=some (.bool (decide (a≠b))))(hl:∀U a,bF U true sz (.rp (enc a))=some (enc a))(xs ys:List α)(hx:xs.length<=1000000000000000):
 aK P f [.sl sz (xs.map enc),.sl sz (ys.map enc)] (.bool (decide (xs=ys))):=λU=>by
 refine ax.j2 hf hc hk (by simp[LC]) ?_;refine ab.mix 6 ?_;have n1:cP false (.sl sz (xs.map enc))=some (.int .i64 xs.length):=by simp[cP]
 have n2:cP false (.sl sz (ys.map enc))=some (.int .i64 ys.length):=by simp[cP]
 by_cases hlen:xs.length=ys.length
 .have q:((xs.length:Int)≠ys.length)=False:=O';apply sR;simp only[go_sem,seval,LC,n1,n2,q];refine ab.loop (λm st=>∃j,j<=xs.length/\m=xs.length-j/\xs.take j=ys.take j/\st.s 0=.sl sz (xs.map enc)/\st.s 1=.sl sz (ys.map enc)/\st.s 12=.int .i64 xs.length/\st.s 13=.int .i64 j/\st.U=U) xs.length ⟨0,by omega,rfl,rfl,rfl,rfl,rfl,rfl,rfl⟩ ?_;rintro m ⟨S,Z'⟩ ⟨j,hj,rfl,ht,t0,t1,t12,t13,W4⟩;simp only at t0 t1 t12 t13 W4;subst W4;refine ab.mix 6 ?_;by_cases H':j<xs.length
  .have q1:((j:Int)<xs.length)=True:=WE;have hlt2:j<ys.length:=by omega
   have i1:∀U,bo U sz (.sl sz (xs.map enc)) (.int .i64 j)=some (.rp (enc xs[j])):=λU=>by simp[bo,H']
   have i2:∀U,bo U sz (.sl sz (ys.map enc)) (.int .i64 j)=some (.rp (enc ys[j])):=λU=>by simp[bo,hlt2]
   have hee:=he xs[j] ys[j];have tx:=ZS H';have ty:=ZS hlt2;by_cases hq:xs[j]=ys[j]
   .rw[show decide (xs[j]≠ys[j])=false by simpa using hq]at hee;apply sR;simp only[BB,seval,bf,eC,aF,dV,iD,Yp.nothing,t0,t1,t12,t13,q1,i1,i2,hl,hee];exact⟨ai,_,by omega,j+1,by omega,rfl,by rw[tx,ty,ht,hq],by simp⟩
   .rw[show decide (xs[j]≠ys[j])=true by simpa using hq]at hee;apply sR;simp only[BB,seval,bf,eC,aF,dV,iD,Yp.nothing,t0,t1,t12,t13,q1,i1,i2,hl,hee];refine ak.same ?_;have:¬xs=ys:=λh=>hq (by simp only[h]);rw[Xr this]
  .have q1:((j:Int)<xs.length)=False:=O';apply sR;simp only[go_sem,seval,t12,t13,q1];refine ak.same ?_;rw[lf (by omega),lf (by omega)]at ht;rw[XJ ht]
 .have q:((xs.length:Int)≠ys.length)=True:=WE;apply sR;simp only[go_sem,seval,LC,n1,n2,q];refine ak.same ?_;rw[Xr λh=>hlen (by rw[h])]
def Kl(sz:Nat):WD:=⟨30,(.seq (.Za false [⟨(some 6),(.W1 (.c (.int .i64 0))),none⟩]) (.seq (.Za false [⟨(some 7),(.W1 (.c (.int .i64 0))),none⟩]) (.seq (.block 0 (.loop (.seq (.seq (.Za true [⟨(some 8),(.W1 (.t 7)),none⟩,⟨(some 9),(.W1 (.t 0)),none⟩,⟨(some 10),(.len false (.t 9)),none⟩,⟨(some 11),(.W1 (.t 1)),none⟩,⟨(some 12),(.len false (.t 11)),none⟩,⟨(some 13),(.minmax false (.t 10) (.t 12)),none⟩,⟨(some 14),(.bin .lss (.t 8) (.t 13)),none⟩,⟨(some 15),(.W1 (.t 14)),none⟩,⟨(some 16),(.W1 (.t 2)),(some ((.t 15),true))⟩,⟨(some 17),(.W1 (.t 0)),(some ((.t 15),true))⟩,⟨(some 18),(.W1 (.t 7)),(some ((.t 15),true))⟩,⟨(some 19),(.ZG sz (.t 17) (.t 18)),(some ((.t 15),true))⟩,⟨(some 20),(.load true sz (.t 19)),(some ((.t 15),true))⟩,⟨(some 21),(.W1 (.t 1)),(some ((.t 15),true))⟩,⟨(some 22),(.W1 (.t 7)),(some ((.t 15),true))⟩,⟨(some 23),(.ZG sz (.t 21) (.t 22)),(some ((.t 15),true))⟩,⟨(some 24),(.load true sz (.t 23)),(some ((.t 15),true))⟩,⟨(some 25),(.call (.t 16) [(.t 20),(.t 24)]),(some ((.t 15),true))⟩,⟨(some 26),(.pick (.t 15) (.t 25) (.c (.bool false))),none⟩]) (.cond (.t 26) .skip (.exit 0))) (.block 1 (.Za false [⟨(some 27),(.W1 (.t 7)),none⟩,⟨(some 28),(.bin .add (.t 27) (.c (.int .i64 1))),none⟩,⟨(some 7),(.W1 (.t 28)),none⟩]))))) (.seq (.Za false [⟨(some 29),(.W1 (.t 7)),none⟩,⟨(some 6),(.W1 (.t 29)),none⟩]) .ret)))),[(.tmp (.t 6))]⟩
def yD{α:Type}[DecidableEq α]:∀{l m:List α} {n:Nat},n<=l.length->n<=m.length->l.take n=m.take n->bE l m=n+bE (l.drop n) (m.drop n)
 |_,_,0,_,_,_=>by simp
 |[],_,n+1,h,_,_=>by simp at h
 |_::_,[],n+1,_,h,_=>by simp at h
 |x::l,y::m,n+1,h1,h2,h=>by
  simp only[pz,List.cons.injEq]at h;obtain⟨rfl,h⟩:=h;rw[bE,aq rfl,D5,D5,yD (by simpa using h1) (by simpa using h2) h];omega
def EJ{P:Program}{f:FuncId}{fn:Func}(hf:P.funcs[f]?=some fn){sz:Nat}(hc:cfn P fn=some (Kl sz))(hk:dZ P f=true){α:Type}[DecidableEq α](enc:α->V){g:FuncId}
 (hg:∀a b,aK P g [enc a,enc b] (.bool (decide (a=b))))(hl:∀U a,bF U true sz (.rp (enc a))=some (enc a))(xs ys:List α)(hx:xs.length<=1000000):
 aK P f [.sl sz (xs.map enc),.sl sz (ys.map enc),.fn g []] (vI (bE xs ys)):=λU=>by
 refine ax.j2 hf hc hk (by simp[Kl]) ?_;refine ab.mix 8 ?_;have n1:cP false (.sl sz (xs.map enc))=some (.int .i64 xs.length):=by simp[cP]
 have n2:cP false (.sl sz (ys.map enc))=some (.int .i64 ys.length):=by simp[cP]
 apply sR;simp only[go_sem,seval,Kl];refine ab.eH (λst=>st.U=U/\st.s 7=vI (bE xs ys)) (λm st=>∃j:Nat,j<=xs.length/\j<=ys.length/\m=xs.length-j/\xs.take j=ys.take j/\st.s 0=.sl sz (xs.map enc)/\st.s 1=.sl sz (ys.map enc)/\st.s 2=.fn g []/\st.s 7=vI j/\st.U=U) xs.length ⟨0,by omega,by omega,rfl,rfl,rfl,rfl,rfl,rfl,rfl⟩ ?_ ?_
 .rintro m ⟨S,Z'⟩ ⟨j,hj,hj2,rfl,ht,t0,t1,t2,t7,W4⟩;simp only at t0 t1 t2 t7 W4;subst W4;refine ab.mix 8 ?_;have hM:(if(ys.length:Int)<xs.length then(ys.length:Int)else xs.length)=((min xs.length ys.length:Nat):Int):=by split<;>omega
  have H':=yD hj hj2 ht;by_cases h1:j<min xs.length ys.length
  .have q1:((j:Int)<((min xs.length ys.length:Nat):Int))=True:=WE;have hlx:j<xs.length:=by omega
   have hly:j<ys.length:=by omega
   have i1:∀U,bo U sz (.sl sz (xs.map enc)) (.int .i64 j)=some (.rp (enc xs[j])):=λU=>by simp[bo,hlx]
   have i2:∀U,bo U sz (.sl sz (ys.map enc)) (.int .i64 j)=some (.rp (enc ys[j])):=λU=>by simp[bo,hly]
   have hee:=hg xs[j] ys[j];have tx:=ZS hlx;have ty:=ZS hly;rw[gB hlx,gB hly,bE]at H';have r1:WR .i64 ((j:Int)+1):=ai;by_cases hq:xs[j]=ys[j]
   .rw[aq hq]at H';rw[XJ hq]at hee;apply sR;simp only[go_sem,seval,t0,t1,t2,t7,n1,n2,hM,q1,i1,i2,hl];refine Go.bw rfl rfl rfl hee ?_;apply sG;simp only[go_sem,seval,t7,r1];exact⟨_,by omega,j+1,by omega,by omega,rfl,by rw[tx,ty,ht,hq],by simp[t0,t1,t2]⟩
   .rw[ao hq]at H';rw[Xr hq]at hee;apply sR;simp only[go_sem,seval,t0,t1,t2,t7,n1,n2,hM,q1,i1,i2,hl];refine Go.bw rfl rfl rfl hee ?_;apply sG;simp only[go_sem,seval,t7];rw[H'];rfl
  .have q1:((j:Int)<((min xs.length ys.length:Nat):Int))=False:=O';have hz:bE (xs.drop j) (ys.drop j)=0:=by
    have:=u7 (xs.drop j) (ys.drop j);rw[nZ,nZ]at this;omega
   apply sR;simp only[go_sem,seval,t0,t1,t7,n1,n2,hM,q1];rw[H',hz];rfl
 .rintro⟨S,Z'⟩ ⟨W4,t7⟩;simp only at t7 W4;subst W4;refine ab.mix 8 ?_;apply sR;simp only[go_sem,seval,t7];exact ak.same rfl
open Go.Proofs Go.Proofs.Tryz
section
variable {P:Program} {n:Nat} {st:St} {Q:St->Prop} {k:List It}
def Iz{o:Op}{x y:VX}(h:WX P n o=.bin .sub x y):∃t x0 y0 yt,o=.binOp .sub t x0 y0 yt/\cx n x0=x/\cx n y0=y:=by
 cases o
 case binOp op' t x0 y0 yt=>
  simp only[WX,cy]at h
  repeat' split at h
  all_goals first
   |(simp only[W5.bin.injEq]at h;obtain⟨rfl,h2,h3⟩:=h;exact⟨t,x0,y0,yt,rfl,h2,h3⟩)
   |cases h
   |(cases op'<;>cases h)
 case call c=>
  obtain⟨callee,args,argTypes⟩:=c;cases callee
  case builtin b=>cases b<;>simp only[WX]at h<;>(repeat' split at h)<;>cases h
  all_goals (simp only[WX]at h;cases h)
 case unOp op t x=>cases op<;>simp only[WX]at h<;>cases h
 case makeFunc f a b=>cases f<;>simp only[WX]at h<;>(repeat' split at h)<;>cases h
 all_goals (simp only[WX]at h;(repeat' split at h)<;>cases h)
def ab.Sf{i:aD}{l:List aD}{x y:VX}{kk:IntKind}{a b:Int}(hw:aZ st.s i.g=some true)(ho:i.op=.bin .sub x y)(hx:x.ev st.s=.int kk a)(hy:y.ev st.s=.int kk b)
 (h:ab P n (.ops l::k) ⟨aQ st.s i.dst (.int kk (kk.wrap (a-b))),st.U⟩ Q):ab P n (.ops (i::l)::k) st Q:=by
 refine ab.ins (by rw[ho];simp) hw λF hn I act w o all hi hs next Q' WK=>?_
 subst hn;obtain⟨WN,hd⟩:=cY hi;rw[ho]at WN;obtain⟨t,x0,y0,yt,g1,rfl,rfl⟩:=Iz WN;have ex:act.eval x0=.int kk a:=by
  have:=bU hs x0;rw[hx]at this;simpa[E']using this
 have ey:act.eval y0=.int kk b:=by
  have:=bU hs y0;rw[hy]at this;simpa[E']using this
 have Xi:(execOp act.eval o).run P w=.ok (.value (.int kk (kk.wrap (a-b)))) w:=by
  unfold execOp;rw[g1];simp[ex,ey,eqGuard,binOp,Op.intArith]
 unfold Oper.wp;rw[Xi];refine WK _ _ _ ⟨I,?_⟩ h;have:=hs.pure (d:=o.dst) (v:=.int kk (kk.wrap (a-b))) (x:=.int kk (kk.wrap (a-b))) (by simp[E']);rw[<-hd];exact this
end
def AJ(h:Int):Prop:=-9223372036854775808<=h/\h<=9223372036854775807
def MM(x:Int):AJ (IntKind.i64.wrap x):=by unfold AJ;rw[IntKind.wrap_i64];omega
def Jq(x B:Int)(hB:0<=B):0<=(if B<if 0>x then 0 else x then B else if 0>x then 0 else x)/\(if B<if 0>x then 0 else x then B else if 0>x then 0 else x)<=B:=by
 by_cases h:0>x
 .simp only[aq h];split<;>omega
 .simp only[ao h];split<;>omega
open Go.Proofs Go.Proofs.Tryz
def jr(l:List Xs):cP false (aE l)=some (.int .i64 l.length):=by simp[aE,cP]
def uV{U:ag}{l:List Xs}{i:Nat}(h:i<l.length):bo U 7 (aE l) (.int .i64 i)=some (.rp (bl l[i])):=by simp[aE,bo,h,bl]
open Go.Proofs Go.Proofs.Tryz
def kT(l:List Xd):cP false (bT l)=some (.int .i64 l.length):=by simp[bT,cP]
def nY{U:ag}{l:List Xd}{i:Nat}(h:i<l.length):bo U 5 (bT l) (.int .i64 i)=some (.rp (aL l[i])):=by simp[bT,bo,h,aL]
def SI(U:ag)(l:List Xs):bF U false 1 (.rp (aE l))=some (aE l):=rfl
open Go.Proofs Go.Proofs.Tryz
def jQ(b:Bk):V:=.agg [.rp (bc b),aC b.nodes,vI b.h,aW b.atoms,aB b.M',vI b.WG,bj b.L']
def Ev:V:=.agg [.XY,.ay,vI 0,.ay,.ay,vI 0,.ay]
def bI(b:Bk):(jQ b).cells=[.rp (bc b),aC b.nodes,vI b.h,aW b.atoms,aB b.M',vI b.WG,bj b.L']:=rfl
def hU(b:Bk):(jQ b).stays=true:=rfl
def EW(l:List Nd)(w h:Int):V:=if cE l w h=0 then jQ (aP l w h)else Ev
def E6(l:List Nd)(hl:cU l)(w h:Int):aK prog 68 [aC l,vI w,vI h] (.WJ [EW l w h,vI (cE l w h)]):=λU=>by
 refine e68.r (by simp[c68]) ?_;have hs:=aa.refl U;have hn:=Ki l hl w h;unfold C9 at hn;refine ab.mix 9 ?_;apply sR;simp only[go_sem,seval,c68];refine ad λi6 Z6 s6 a6 f6=>?_;have z6:=hs.none f6;replace hs:=hs.trans s6;simp only[go_sem,seval];refine ab.au rfl rfl rfl (hn _) ?_;by_cases he:cE l w h=0
 .have hb:=dh hl he;have hbk:(aP l w h).nodes=l:=rfl;have hbh:(aP l w h).h=h:=rfl;unfold EW;rw[aq he,aq he,he];generalize aP l w h=b at*;subst hbk;subst hbh;have q:((0:Int)≠0)=False:=O' (λh=>h rfl);have hgc:(sD b).cells=[aW b.atoms,aB b.M',vI b.WG]:=rfl;have hgs:(sD b).stays=true:=rfl;apply sR;simp only[go_sem,seval,q];refine ab.au rfl rfl rfl (sU b hb.toBkFull _) ?_;apply sR;simp only[go_sem,seval];refine ab.au rfl rfl rfl (sY b hb.toBkFull _) ?_;apply sR;simp only[go_sem,seval,a6,hgc,hgs,iC,iR,cc,dR];exact ak.pure (hs.av z6) rfl
 .have q:(cE l w h≠0)=True:=WE he;unfold EW;rw[ao he,ao he];generalize cE l w h=E at*;apply sR;simp only[go_sem,seval,q,a6];exact ak.pure (hs.av z6) rfl
def R9(a b:Xv):ng false [0,0,0,0,0,0,0,0] (cq a) (cq b)=some (.bool (decide (a=b))):=by
 obtain⟨a1,a2,a3,a4,a5,a6,a7,a8⟩:=a;obtain⟨b1,b2,b3,b4,b5,b6,b7,b8⟩:=b;simp only[ng,cq,iB,fp,jg,vI,XX,List.length_nil,true_and,↓reduceIte,Xv.mk.injEq];by_cases h1:a1=b1<;>simp[h1]
def RX(a b:YJ):ng false [0,0,0] (du a) (du b)=some (.bool (decide (a=b))):=by
 obtain⟨a1,a2,a3⟩:=a;obtain⟨b1,b2,b3⟩:=b;simp only[ng,du,iB,fp,jg,vI,XX,List.length_nil,true_and,↓reduceIte,YJ.mk.injEq];by_cases h1:a1=b1<;>simp[h1]
def NN(a b:T'):ng true [0,0,0,0,0,0,0] (aJ a) (aJ b)=some (.bool (decide (a≠b))):=by
 obtain⟨a1,a2,a3,a4,a5,a6,a7⟩:=a;obtain⟨b1,b2,b3,b4,b5,b6,b7⟩:=b;simp only[ng,aJ,iB,fp,jg,vI,XX,List.length_nil,true_and,↓reduceIte,ne_eq,T'.mk.injEq];by_cases h1:a1=b1<;>simp[h1]
def KU(a b:Xv):aK prog 70 [cq a,cq b] (.bool (decide (a=b))):=λU=>by
 refine e70.r (by simp[c70]) ?_;have hs:=aa.refl U;have he:=R9 a b;have hc:∀a:Xv,(cq a).cells=[vI a.kind,vI a.node,vI a.fr,vI a.to,vI a.x,vI a.y,vI a.w,vI a.h]:=λ_=>rfl;have WY:∀a:Xv,(cq a).stays=true:=λ_=>rfl;have hag:∀a:Xv,V.agg [vI a.kind,vI a.node,vI a.fr,vI a.to,vI a.x,vI a.y,vI a.w,vI a.h]=cq a:=λ_=>rfl;refine ab.mix 4 ?_;apply sR;simp only[go_sem,seval,c70,hc,WY];refine ad λi2 Z2 s2 a2 f2=>?_;replace hs:=hs.trans s2;simp only[go_sem,seval,hc,WY];refine ad λi3 Z3 s3 a3 f3=>?_;replace a2:=s3 _ _ a2;replace hs:=hs.trans s3;simp only[BB,seval,bf,eC,aF,a2,a3,hc,hag,he];exact ak.pure hs rfl
def MJ(a b:YJ):aK prog 72 [du a,du b] (.bool (decide (a=b))):=λU=>by
 refine e72.r (by simp[c72]) ?_;have hs:=aa.refl U;have he:=RX a b;have hc:∀a:YJ,(du a).cells=[vI a.cls,vI a.forced,vI a.XD]:=λ_=>rfl;have WY:∀a:YJ,(du a).stays=true:=λ_=>rfl;have hag:∀a:YJ,V.agg [vI a.cls,vI a.forced,vI a.XD]=du a:=λ_=>rfl;refine ab.mix 4 ?_;apply sR;simp only[go_sem,seval,c72,hc,WY];refine ad λi2 Z2 s2 a2 f2=>?_;replace hs:=hs.trans s2;simp only[go_sem,seval,hc,WY];refine ad λi3 Z3 s3 a3 f3=>?_;replace a2:=s3 _ _ a2;replace hs:=hs.trans s3;simp only[BB,seval,bf,eC,aF,a2,a3,hc,hag,he];exact ak.pure hs rfl
def L8(a b:List Xv)(h:a.length<=1000000):aK prog 69 [aW a,aW b,.fn 70 []] (vI (bE a b)):=
 EJ func69 (e69.b.trans rfl) e69.c cq KU (λ_ _=>rfl) a b h
def K3(a b:List YJ)(h:a.length<=1000000):aK prog 71 [bj a,bj b,.fn 72 []] (vI (bE a b)):=
 EJ func71 (e71.b.trans rfl) e71.c du MJ (λ_ _=>rfl) a b h
def Fw(a b:List T')(h:a.length<=1000000):aK prog 132 [aB a,aB b] (.bool (decide (a=b))):=
 Kt func132 (Tj.b.trans rfl) Tj.c aJ NN (λ_ _=>rfl) a b (by omega)
def Ph(end':Int)(f:T'){U:ag}{i3:Nat}(a3:U i3=some ⟨3,1,[vI end']⟩):
 ax prog 189 [aJ f,.ptr i3 0 0] U λr Z'=>r=.bool (decide (f.anchor>end'))/\Z'=U:=by
 refine VQ.r (by simp[QD]) ?_;have hs:=aa.refl U;have hc:(aJ f).cells=[vI f.node,vI f.side,vI f.anchor,vI f.x,vI f.y,vI f.w,vI f.h]:=rfl;have WY:(aJ f).stays=true:=rfl;refine ab.mix 5 ?_;apply sR;simp only[go_sem,seval,QD,hc,WY];refine ad λi2 Z2 s2 a2 f2=>?_;replace a3:=s2 _ _ a3;replace hs:=hs.trans s2;simp only[go_sem,seval,a2,a3,hc];exact⟨_,U,hs,Wk.refl hs _,rfl,rfl⟩
def Ht(b:Bk)(r:Int):l8 (λf=>decide (f.anchor>r)) b.M'=l5 b r:=by
 unfold l5 l8;congr 1;funext f;by_cases h:f.anchor<=r
 .show(!decide (f.anchor>r))=decide (f.anchor<=r);rw[XJ h,Xr (by omega)];rfl
 .show(!decide (f.anchor>r))=decide (f.anchor<=r);rw[Xr h,XJ (by omega)];rfl
def zr(b:Bk)(hl:b.M'.length<=1000000)(r:Int):aK prog 134 [jQ b,vI r] (aB (l5 b r)):=λU=>by
 refine Vt.r (by simp[Qn]) ?_;have hs:=aa.refl U;refine ab.mix 5 ?_;apply sR;simp only[go_sem,seval,Qn,bI,hU];refine ad λi2 Z2 s2 a2 f2=>?_;replace hs:=hs.trans s2;simp only[go_sem,seval];refine ad λi3 Z3 s3 a3 f3=>?_;replace a2:=s3 _ _ a2;replace hs:=hs.trans s3;simp only[go_sem,seval,a2,bI];refine ab.call rfl rfl rfl (n7 func62 (e62.b.trans rfl) e62.c (b.M'.map aJ) (by simp;omega) _) ?_;rintro r1 Z9 ⟨h9,ho9⟩;apply sR;simp only[go_sem,seval];refine ab.call rfl rfl rfl (zc b.M' hl h9 ho9 (λf=>decide (f.anchor>r)) (λx _ J hτ=>Ph r x (hτ _ _ a3))) ?_;rintro r2 Z10 ⟨hp,h10⟩;rw[Ht]at hp;apply sR;simp only[go_sem,seval];exact⟨_,U,hs.trans h10,hp.wk hs (hs.trans h10),rfl,rfl⟩
def Gt(b:Bk)(s:Xp):V:=if b.atoms=[]then .agg [.ay,vI 0,vI b.h]else kE (aV b s)
def AD(b:Bk)(hb:BkFull b)(s:Xp)(W9:0<=s.atom):aK prog 187 [jQ b,aU s] (Gt b s):=λU=>by
 refine VT.r (by simp[P6]) ?_;have hs:=aa.refl U;have hsc:(aU s).cells=[vI s.atom,vI s.done,.bool s.free]:=rfl;have hss:(aU s).stays=true:=rfl;have hln:=fF b.atoms;have hlen:=hb.len;refine ab.mix 6 ?_;apply sR;simp only[go_sem,seval,P6,bI,hU];refine ad λi2 Z2 s2 a2 f2=>?_;replace hs:=hs.trans s2;simp only[go_sem,seval,hsc,hss];refine ad λi3 Z3 s3 a3 f3=>?_;replace a2:=s3 _ _ a2;replace hs:=hs.trans s3;simp only[go_sem,seval];refine ad λi4 Z4 s4 a4 f4=>?_;replace a3:=s4 _ _ a3;replace a2:=s4 _ _ a2;have z4:=hs.none f4;replace hs:=hs.trans s4;by_cases hn:b.atoms=[]
 .have q:((b.atoms.length:Int)=0)=True:=WE (by rw[hn];rfl);simp only[go_sem,seval,a2,a4,bI,hln,q];unfold Gt;rw[aq hn];exact ak.pure (hs.av z4) rfl
 .have hl0:=py.2 hn;have q:((b.atoms.length:Int)=0)=False:=O';unfold Gt;rw[ao hn,aV,ao hn];obtain⟨k,hk⟩:∃k:Nat,min s.atom ((b.atoms.length:Int)-1)=k:=⟨(min s.atom ((b.atoms.length:Int)-1)).toNat,by omega⟩
  have Yn:k<b.atoms.length:=by omega
  have hmin:(if(b.atoms.length:Int)-1<s.atom then(b.atoms.length:Int)-1 else s.atom)=k:=by split<;>omega
  have r1:WR .i64 ((b.atoms.length:Int)-1):=ai;have U':=λU=>iU (U:=U) Yn;rw[hk,bg Yn];have hc:=Nc b.nodes hb.uF b.atoms[k].node b.h;have hac:∀a:Xv,(cq a).cells=[vI a.kind,vI a.node,vI a.fr,vI a.to,vI a.x,vI a.y,vI a.w,vI a.h]:=λ_=>rfl;have hkc:∀x:Kp,(kE x).cells=[bb x.WQ,vI x.high,vI x.body]:=λ_=>rfl;have hks:∀x:Kp,(kE x).stays=true:=λ_=>rfl;generalize b.atoms[k]=A at*;simp only[go_sem,seval,a2,a3,hsc,bI,hln,q,hmin,r1,U',hac];refine Go.bw rfl rfl rfl hc ?_;apply sG;simp only[go_sem,seval,a4,hkc,hks];exact ak.pure (hs.av z4) rfl
open Go.Proofs Go.Proofs.Tryz
def bu(s:XE):(bB s).cells=[vI s.s.atom,vI s.s.done,.bool s.s.free,aB s.bx]:=rfl
def eW(s:XE):(bB s).stays=true:=rfl
def mX(s:Xp):V.agg [vI s.atom,vI s.done,.bool s.free]=aU s:=rfl
def bR(s:Xp):(aU s).cells=[vI s.atom,vI s.done,.bool s.free]:=rfl
def oS(s:Xp):(aU s).stays=true:=rfl
def PX(b:Bk)(hb:bH b)(s:XE)(kind:Int)(h0:0<=s.s.atom)(hm:kind=1->bQ b.atoms s.s)(hp:s.bx.length<=1000000)(hph:∀f∈s.bx,0<=f.h):
 aK prog 133 [jQ b,bB s,vI kind] (vI (dk b s kind)):=λU=>by
 refine V6.r (by simp[NT]) ?_;have hs:=aa.refl U;refine ab.mix 12 ?_;apply sR;simp only[go_sem,seval,NT,bI,hU];refine ad λi3 Z3 s3 a3 f3=>?_;replace hs:=hs.trans s3;simp only[go_sem,seval,bu,eW];refine ad λi4 Z4 s4 a4 f4=>?_;replace a3:=s4 _ _ a3;replace hs:=hs.trans s4;by_cases hk:kind=1
 .have q:(kind≠1)=False:=O' (λh=>h hk);have hf:=hm hk;have W6:b.atoms≠[]:=λh=>by have:=hf.1;rw[h]at this;simp at this;omega
  have hR:dk b s kind=jK b.atoms s.s (iW b.atoms s.s ((aV b s.s).body-(cB (aV b s.s).body s.bx 0).2.2)) (cB (aV b s.s).body s.bx 0).2.2 (aV b s.s).body:=by unfold dk;rw[ao (λh=>h hk)]
  rw[hR];have hrv:Gt b s.s=kE (aV b s.s):=ao W6;have hrc:=AD b hb.toBkFull s.s h0;rw[hrv]at hrc;have hr1:=gv hb.toBkFull s.s h0;have hro:=(mL hb.toBkFull s.s).body;have hkc:∀x:Kp,(kE x).cells=[bb x.WQ,vI x.high,vI x.body]:=λ_=>rfl;have hks:∀x:Kp,(kE x).stays=true:=λ_=>rfl;generalize aV b s.s=X at*;have htc:=IA s.bx hp X.body hr1 (by omega) hph;obtain⟨g1,g2,g3,g4⟩:=rk (body:=X.body) s.bx 0 (Int.le_refl _) (by omega) hph;generalize cB X.body s.bx 0=T at*;have hkr:=yP hb.toBkOk s.s (X.body-T.2.2);have hKc:=Ft b.atoms hb.Xg s.s (X.body-T.2.2);have hdn:=sM hb.toBkOk hf;have hRc:=BT b.atoms hb.Xg s.s (by omega) (iW b.atoms s.s (X.body-T.2.2)) T.2.2 X.body hkr ⟨by omega,by omega⟩;generalize iW b.atoms s.s (X.body-T.2.2)=K at*;have r1:WR .i64 (X.body-T.2.2):=ai;have hI:(bb X.WQ).cells=[bb X.WQ]:=rfl;have hIs:(bb X.WQ).stays=true:=rfl;simp only[go_sem,seval,a3,a4,q,bI,bu];rw[<-jQ,mX];refine ab.au rfl rfl rfl (hrc _) ?_;apply sR;simp only[go_sem,seval];refine ad λi7 Z7 s7 a7 f7=>?_;have n37:=al a3 f7;replace a3:=s7 _ _ a3;have n47:=al a4 f7;replace a4:=s7 _ _ a4;have z7:=hs.none f7;replace hs:=hs.trans s7;simp only[go_sem,seval,a7,hkc,hks];generalize YD:C' _ i7 _=Y7;replace a7:=(congrFun YD i7).symm.trans af;replace a3:=((congrFun YD i3).symm.trans (ae n37)).trans a3;replace a4:=((congrFun YD i4).symm.trans (ae n47)).trans a4;replace hs:=Eq.subst (motive:=aa _) YD (hs.av z7);clear YD;simp only[go_sem,seval,a4,a7,hkc,bu];refine ab.au rfl rfl rfl (htc _) ?_;apply sR;simp only[go_sem,seval,a3,a4,a7,r1,hkc,bI,bu];rw[mX];refine ab.au rfl rfl rfl (hKc _) ?_;apply sR;simp only[go_sem,seval,a3,a4,a7,hkc,bI,bu];rw[mX];refine ab.au rfl rfl rfl (hRc _) ?_;apply sR;simp only[go_sem,seval];exact ak.pure hs rfl
 .have q:(kind≠1)=True:=WE hk;unfold dk;rw[aq hk];simp only[go_sem,seval,a4,q,bu];exact ak.pure hs rfl
def ny(a b:Bk)(n m:Int):V:=.agg [.rp (bc a),aC a.nodes,vI a.h,aW a.atoms,aB a.M',vI a.WG,bj a.L',.rp (bc b),aC b.nodes,vI b.h,aW b.atoms,aB b.M',vI b.WG,bj b.L',vI n,vI m]
def cX(a b:Bk)(n m:Int):(ny a b n m).cells=[.rp (bc a),aC a.nodes,vI a.h,aW a.atoms,aB a.M',vI a.WG,bj a.L',.rp (bc b),aC b.nodes,vI b.h,aW b.atoms,aB b.M',vI b.WG,bj b.L',vI n,vI m]:=rfl
def Ac(a b:Bk)(n m:Int):(ny a b n m).stays=true:=rfl
def LG(a b:Bk)(n m:Int)(i k:Int)(hi:∃j:Nat,i=j/\j<a.nodes.length)(hk:∃j:Nat,k=j/\j<b.nodes.length){U:ag}{i2:Nat}(a2:U i2=some ⟨104,16,[ny a b n m]⟩):
 ax prog 191 [vI i,vI k,.ptr i2 0 0] U λr Z'=>r=.bool (decide (i=k/\(YG a.nodes i).head=(YG b.nodes k).head))/\Z'=U:=by
 refine Tu.r (by simp[Lk]) ?_;obtain⟨i,rfl,hi⟩:=hi;obtain⟨k,rfl,hk⟩:=hk;have e1:(YG a.nodes (i:Int)).head=a.nodes[i].st.head:=by simp[YG,hi]
 have e2:(YG b.nodes (k:Int)).head=b.nodes[k].st.head:=by simp[YG,hk]
 have x1:=λU=>cA (U:=U) hi;have x2:=λU=>cA (U:=U) hk;rw[e1,e2];generalize a.nodes[i]=x at*;generalize b.nodes[k]=y at*;refine ab.mix 5 ?_;by_cases hik:(i:Int)=k
 .have q:((i:Int)=k)=True:=WE hik;apply sR;simp only[go_sem,seval,Lk,a2,cX,q,x1,x2,Nd.cells];exact ak.same (by simp)
 .have q:((i:Int)=k)=False:=O' hik;apply sR;simp only[go_sem,seval,Lk,q];exact ak.same (by simp)
def kY{α:Type}(p:α->α->Bool):List α->List α->Bool
 |[],[]=>true
 |x::l,y::m=>p x y&&kY p l m
 |_,_=>false
def xy{α:Type}{p:α->α->Bool}:∀{l m:List α},l.length≠m.length->kY p l m=false
 |[],[],h=>absurd rfl h
 |x::l,y::m,h=>by rw[kY,xy (by simpa using h),Bool.and_false]
 |[],_::_,_=>rfl
 |_::_,[],_=>rfl
def O7{U:ag}{f:FuncId}{caps:List V}(p:Int->Int->Bool)(xs ys:List Int)(hx:xs.length<=1000000)
 (hf:∀x∈xs,∀y∈ys,ax prog f (vI x::vI y::caps) U λr Z'=>r=.bool (p x y)/\Z'=U):
 ax prog 190 [bb xs,bb ys,.fn f caps] U λr Z'=>r=.bool (kY p xs ys)/\Z'=U:=by
 refine Wz.r (by simp[LF]) ?_;refine ab.mix 10 ?_;have n1:=eX xs;have n2:=eX ys;by_cases hlen:xs.length=ys.length
 .have q:((xs.length:Int)≠ys.length)=False:=O';apply sR;simp only[go_sem,seval,LF,n1,n2,q];refine ab.loop (λm st=>∃j,j<=xs.length/\m=xs.length-j/\kY p xs ys=kY p (xs.drop j) (ys.drop j)/\st.s 1=bb ys/\st.s 2=.fn f caps/\st.s 15=bb xs/\st.s 16=.int .i64 xs.length/\st.s 17=.int .i64 j/\st.U=U) xs.length ⟨0,by omega,rfl,rfl,rfl,rfl,rfl,rfl,rfl,rfl⟩ ?_;rintro m ⟨S,Z'⟩ ⟨j,hj,rfl,ht,t1,t2,t15,t16,t17,W4⟩;simp only at t1 t2 t15 t16 t17 W4;subst W4;refine ab.mix 10 ?_;by_cases H':j<xs.length
  .have q1:((j:Int)<xs.length)=True:=WE;have hlt2:j<ys.length:=by omega
   have i1:=λU=>ie (U:=U) H';have i2:=λU=>ie (U:=U) hlt2;have hee:=hf xs[j] (XI H') ys[j] (XI hlt2);rw[gB H',gB hlt2,kY]at ht;have r1:WR .i64 ((j:Int)+1):=ai;generalize xs[j]=x at*;generalize ys[j]=y at*;apply sR;simp only[go_sem,seval,t1,t2,t15,t16,t17,q1,i1,i2,nt];refine ab.au rfl rfl rfl hee ?_;cases hp:p x y
   .apply sR;simp only[go_sem,seval];exact ak.same (by rw[ht,hp];rfl)
   .apply sR;simp only[go_sem,seval,t1,t2,t15,t16,t17,r1];exact⟨_,by omega,j+1,by omega,rfl,by rw[ht,hp];rfl,by simp⟩
  .have q1:((j:Int)<xs.length)=False:=O';apply sR;simp only[go_sem,seval,t16,t17,q1];refine ak.same ?_;rw[ht,xr (by omega),xr (by omega)];rfl
 .have q:((xs.length:Int)≠ys.length)=True:=WE;apply sR;simp only[go_sem,seval,LF,n1,n2,q];exact ak.same (by rw[xy hlen])
def Dh{q:Int->Int->Prop}[∀x y,Decidable (q x y)]:∀(l m:List Int),kY (λx y=>decide (x=y/\q x y)) l m=decide (l=m/\∀n∈l,q n n)
 |[],[]=>by simp[kY]
 |[],y::m=>by simp[kY]
 |x::l,[]=>by simp[kY]
 |x::l,y::m=>by
  rw[kY,Dh l m];by_cases h:x=y
  .subst h;simp only[true_and,List.cons.injEq,dc,forall_eq_or_imp,Bool.decide_and];cases decide (q x x)<;>cases decide (l=m)<;>simp
  .simp[h]
def Ha(a b:Bk)(ha:bH a)(hb:bH b)(na:a.atoms≠[])(nb:b.atoms≠[])(n m:Int)(s:Xp)(h0:0<=s.atom):
 aK prog 135 [ny a b n m,aU s] (.bool (decide (mV a b s))):=λU=>by
 refine To.r (by simp[NV]) ?_;have hs:=aa.refl U;have ca:=AD a ha.toBkFull s h0;have cb:=AD b hb.toBkFull s h0;rw[Gt,ao na]at ca;rw[Gt,ao nb]at cb;have oa:=mL ha.toBkFull s;have ob:=mL hb.toBkFull s;have hD:decide (mV a b s)=kY (λx y=>decide (x=y/\(YG a.nodes x).head=(YG b.nodes y).head)) (aV a s).WQ (aV b s).WQ:=by
  rw[Dh (q:=λx y=>(YG a.nodes x).head=(YG b.nodes y).head)];exact decide_eq_decide.2 Iff.rfl
 rw[hD];clear hD;have hkc:∀x:Kp,(kE x).cells=[bb x.WQ,vI x.high,vI x.body]:=λ_=>rfl;have hks:∀x:Kp,(kE x).stays=true:=λ_=>rfl;have hIc:∀l,(bb l).cells=[bb l]:=λ_=>rfl;have hIs:∀l,(bb l).stays=true:=λ_=>rfl;generalize aV a s=X at*;generalize aV b s=Y at*;refine ab.mix 7 ?_;apply sR;simp only[go_sem,seval,NV,cX,Ac];refine ad λi2 Z2 s2 a2 f2=>?_;replace hs:=hs.trans s2;simp only[go_sem,seval,bR,oS];refine ad λi3 Z3 s3 a3 f3=>?_;replace a2:=s3 _ _ a2;replace hs:=hs.trans s3;simp only[go_sem,seval,a2,a3,cX,bR];refine Go.bw rfl rfl rfl ca ?_;apply sG;simp only[go_sem,seval,a2,a3,cX,bR];refine Go.bw rfl rfl rfl cb ?_;apply sG;simp only[go_sem,seval];refine aS λi5 Z5 s5 a5 f5=>?_;have n35:=al a3 f5;replace a3:=s5 _ _ a3;have n25:=al a2 f5;replace a2:=s5 _ _ a2;have z5:=hs.none f5;replace hs:=hs.trans s5;simp only[go_sem,seval];refine aS λi6 Z6 s6 a6 f6=>?_;have n56:=al a5 f6;replace a5:=s6 _ _ a5;have n36:=al a3 f6;replace a3:=s6 _ _ a3;have n26:=al a2 f6;replace a2:=s6 _ _ a2;have z6:=hs.none f6;replace hs:=hs.trans s6;simp only[go_sem,seval,a5,a6,hkc,hks,ae n56.symm,ae n56];generalize X9:C' _ i5 _=Y5;replace a5:=(congrFun X9 i5).symm.trans af;replace a2:=((congrFun X9 i2).symm.trans (ae n25)).trans a2;replace a3:=((congrFun X9 i3).symm.trans (ae n35)).trans a3;replace a6:=((congrFun X9 i6).symm.trans (ae n56.symm)).trans a6;replace hs:=Eq.subst (motive:=aa _) X9 (hs.av z5);clear X9;generalize ZX:C' _ i6 _=Y6;replace a6:=(congrFun ZX i6).symm.trans af;replace a2:=((congrFun ZX i2).symm.trans (ae n26)).trans a2;replace a3:=((congrFun ZX i3).symm.trans (ae n36)).trans a3;replace a5:=((congrFun ZX i5).symm.trans (ae n56)).trans a5;replace hs:=Eq.subst (motive:=aa _) ZX (hs.av z6);clear ZX;apply sR;simp only[go_sem,seval];refine ab.au rfl rfl rfl (O7 (λx y=>decide (x=y/\(YG a.nodes x).head=(YG b.nodes y).head)) X.WQ Y.WQ oa.len λx hx y hy=>LG a b n m x y (oa.mem x hx) (ob.mem y hy) a2) ?_;apply sR;simp only[go_sem,seval];exact ak.pure hs rfl
open Go.Proofs Go.Proofs.Tryz
def KP(b:Bk)(XU:b.L'.length<=1000000)(p:Xd)(s:Xp)(h0:0<=s.atom)(h1:s.atom<b.L'.length)(no:Int)(Xa:0<=no):aK prog 74 [jQ b,aU s,vI p.kind,vI no] (.bool (decide (fw b p s no))):=λU=>by
 refine e74.r (by simp[c74]) ?_;have hs:=aa.refl U;obtain⟨k,hk⟩:∃k:Nat,s.atom=k:=⟨s.atom.toNat,by omega⟩
 have Yn:k<b.L'.length:=by omega
 have U':=λU=>pR (U:=U) Yn;have hg:Yt b.L' s.atom.toNat=b.L'[k]:=by rw[hk];simp[Yt,Yn]
 have hb3:∀x:YJ,(du x).cells=[vI x.cls,vI x.forced,vI x.XD]:=λ_=>rfl;have htm:no.tmod 2=no%2:=Int.tmod_eq_emod_of_nonneg Xa;refine ab.mix 9 ?_;have hD:decide (fw b p s no)=decide (p.kind=1/\¬s.done>0/\(b.L'[k].forced=3/\no%2=1\/b.L'[k].forced=4/\no%2=0)):=decide_eq_decide.2 (by unfold fw;rw[hg]);rw[hD];clear hD hg;generalize hX:decide (p.kind=1/\¬s.done>0/\(b.L'[k].forced=3/\no%2=1\/b.L'[k].forced=4/\no%2=0))=X;generalize b.L'[k]=x at*;apply sR;simp only[go_sem,seval,c74,bI,hU];refine ad λi4 Z4 s4 a4 f4=>?_;replace hs:=hs.trans s4;simp only[go_sem,seval,bR,oS];refine ad λi5 Z5 s5 a5 f5=>?_;replace a4:=s5 _ _ a4;replace hs:=hs.trans s5;by_cases q1:p.kind=1
 .have q1':(p.kind≠1)=False:=O' (λh=>h q1);by_cases q2:s.done>0
  .have q2':(s.done>0)=True:=WE q2;simp only[go_sem,seval,a5,q1',q2',bR];exact ak.pure hs (by rw[<-hX,Xr λh=>h.2.1 q2])
  .have q2':(s.done>0)=False:=O' q2;by_cases q3:x.forced=3
   .have q3':(x.forced=3)=True:=WE q3;have q6:(x.forced=4)=False:=O';by_cases q4:no%2=1
    .have q4':(no.tmod 2=1)=True:=WE;simp only[go_sem,seval,a4,a5,q1',q2',q3',q4',hk,U',hb3,bR,bI];exact ak.pure hs (by rw[<-hX,XJ ⟨q1,q2,.inl ⟨q3,q4⟩⟩])
    .have q4':(no.tmod 2=1)=False:=O';simp only[go_sem,seval,a4,a5,q1',q2',q3',q4',q6,hk,U',hb3,bR,bI];exact ak.pure hs (by rw[<-hX,Xr];omega)
   .have q3':(x.forced=3)=False:=O' q3;by_cases q6:x.forced=4
    .have q6':(x.forced=4)=True:=WE q6;by_cases q4:no%2=0
     .have q4':(no.tmod 2=0)=True:=WE;simp only[go_sem,seval,a4,a5,q1',q2',q3',q4',q6',hk,U',hb3,bR,bI];exact ak.pure hs (by rw[<-hX,XJ ⟨q1,q2,.inr ⟨q6,q4⟩⟩])
     .have q4':(no.tmod 2=0)=False:=O';simp only[go_sem,seval,a4,a5,q1',q2',q3',q4',q6',hk,U',hb3,bR,bI];exact ak.pure hs (by rw[<-hX,Xr];omega)
    .have q6':(x.forced=4)=False:=O' q6;simp only[go_sem,seval,a4,a5,q1',q2',q3',q6',hk,U',hb3,bR,bI];exact ak.pure hs (by rw[<-hX,Xr];omega)
 .have q1':(p.kind≠1)=True:=WE q1;simp only[go_sem,seval,q1'];exact ak.pure hs (by rw[<-hX,Xr λh=>q1 h.1])
def uw(a b:Bk):V:=.agg [.rp (bc a),aC a.nodes,vI a.h,aW a.atoms,aB a.M',vI a.WG,bj a.L',.rp (bc b),aC b.nodes,vI b.h,aW b.atoms,aB b.M',vI b.WG,bj b.L']
def eN(a b:Bk):(uw a b).cells=[.rp (bc a),aC a.nodes,vI a.h,aW a.atoms,aB a.M',vI a.WG,bj a.L',.rp (bc b),aC b.nodes,vI b.h,aW b.atoms,aB b.M',vI b.WG,bj b.L']:=rfl
def AU(a b:Bk):(uw a b).stays=true:=rfl
def yN(a b:Bk)(ha:a.atoms.length<=1000000)(hb:a.L'.length<=1000000):aK prog 35 [uw a b] (ny a b (bE a.atoms b.atoms) (bE a.L' b.L')):=λU=>by
 refine e35.r (by simp[c35]) ?_;have hs:=aa.refl U;have c1:=L8 a.atoms b.atoms ha;have c2:=K3 a.L' b.L' hb;generalize bE a.atoms b.atoms=n1 at*;generalize bE a.L' b.L'=n2 at*;have fin:∀(S:Nat->V) (J:ag) (i2 i3 i4:Nat) (hsZ:aa U J) (z2:U i2=none) (a2:J i2=some ⟨104,16,[.agg [.XY,.ay,vI 0,.ay,.ay,vI 0,.ay,.XY,.ay,vI 0,.ay,.ay,vI 0,.ay,vI 0,vI 0]]⟩) (a3:J i3=some ⟨99,7,[jQ a]⟩) (a4:J i4=some ⟨99,7,[jQ b]⟩) (t2:S 2=.ptr i2 0 0) (t3:S 3=.ptr i3 0 0) (t4:S 4=.ptr i4 0 0),
  ab prog 24 [It.code c35.code.rt.rt] ⟨S,J⟩ λst=>Ret [.cell true 16 (.t 2)] st λr Z'=>r=ny a b n1 n2/\Z'=U:=by
  intro S J i2 i3 i4 hsZ z2 a2 a3 a4 t2 t3 t4;refine ab.mix 5 ?_;apply sR;simp only[go_sem,seval,c35,bG.rt,t3,t4,a3,a4,bI];refine Go.bw rfl rfl rfl c1 ?_;apply sG;simp only[go_sem,seval,t3,t4,a3,a4,bI];refine Go.bw rfl rfl rfl c2 ?_;apply sG;simp only[go_sem,seval,t2,a2];exact ak.pure (hsZ.av z2) rfl
 refine ab.mix 5 ?_;apply sR;simp only[go_sem,seval,c35,eN,AU];refine ad λi1 Z1 s1 a1 f1=>?_;replace hs:=hs.trans s1;simp only[go_sem,seval];refine ad λi2 Z2 s2 a2 f2=>?_;replace a1:=s2 _ _ a1;have z2:=hs.none f2;replace hs:=hs.trans s2;simp only[go_sem,seval,cN];have a3:True:=trivial;have a4:True:=trivial;have hn:True:=trivial;have u13:True:=trivial;have u14:True:=trivial;have u23:True:=trivial;have u24:True:=trivial;have W9:=hs;refine ab.Dv (by kernel_rfl) 8 (.fork [[],[0],[],[2],[],[],[4,1,0,5],[5,3,6,0,1,2,4]] [0,1,2,3] [4,5] [(.leaf [[],[0],[],[2],[],[4],[4,1,0,5],[4,5,3,6,0,1,2]] [4,5,6,7]),(.leaf [[],[0],[],[2],[5],[],[5,4,1,0],[5,3,6,0,1,2,4]] [5,4,6,7])]) (by kernel_rfl) ?_;refine GT.nA (its:=[0,2,4,6]) (by kernel_rfl) ?_;refine RE.XG (n:=0) [] [0,2,4,6] [⟨(.some 5),(.idxAA .true 2 7 (.t 1) (.c (.int .i64 0))),.none⟩,⟨(.some 6),(.load .true 7 (.t 5)),.none⟩,⟨(.some 7),(.idxAA .true 2 7 (.t 1) (.c (.int .i64 1))),.none⟩,⟨(.some 8),(.load .true 7 (.t 7)),.none⟩] rfl rfl ?_;apply sG;simp only[go_sem,seval,a1,eN];refine⟨?_,?_⟩
 .refine GT.gb (its:=[8,3,7,10,3,7,12,7,14]) (by kernel_rfl) ?_;refine RE.XG (n:=0) [3,7,10,3,7,12,7,14] [8] [⟨(.some 3),(.alloc 99 7 (.agg [.XY,.ay,(.int .i64 0),.ay,.ay,(.int .i64 0),.ay])),.none⟩] rfl rfl ?_;apply sG;simp only[go_sem,seval];refine aS λi3 Z3 s3 a3 f3=>?_
  try replace hn:=bD (al a4 f3).symm
  try replace a4:=s3 _ _ a4
  have n13:=al a1 f3;have n23:=al a2 f3;replace u13:=(bD n13).2;replace u23:=(bD n23).2;replace a1:=s3 _ _ a1;replace a2:=s3 _ _ a2;have z3:=W9.none f3;replace W9:=W9.trans s3;simp only[go_sem,seval];refine RE.X2 rfl rfl rfl rfl rfl trivial (by simp only[go_sem,seval,a1,eN]) ?_;refine RE.X2 rfl rfl rfl rfl rfl trivial (by simp only[go_sem,seval,a1,eN]) ?_;refine RE.XG (n:=0) [3,7,12,7,14] [10] [⟨(.some 4),(.alloc 99 7 (.agg [.XY,.ay,(.int .i64 0),.ay,.ay,(.int .i64 0),.ay])),.none⟩] rfl rfl ?_;apply sG;simp only[go_sem,seval];refine aS λi4 Z4 s4 a4 f4=>?_
  try replace hn:=bD (al a3 f4)
  try replace a3:=s4 _ _ a3
  have n14:=al a1 f4;have n24:=al a2 f4;replace u14:=(bD n14).2;replace u24:=(bD n24).2;replace a1:=s4 _ _ a1;replace a2:=s4 _ _ a2;have z4:=W9.none f4;replace W9:=W9.trans s4;simp only[go_sem,seval];refine RE.X2 rfl rfl rfl rfl rfl trivial (by simp only[go_sem,seval,a1,eN]) ?_;refine RE.X2 rfl rfl rfl rfl rfl trivial (by simp only[go_sem,seval,a1,eN]) ?_;refine RE.XG (n:=0) [7,14] [12] [⟨.none,(.store 7 (.t 3) (.t 6)),.none⟩] rfl rfl ?_;apply sG;simp only[go_sem,seval,a3];refine RE.X2 rfl rfl rfl rfl rfl trivial (by simp only[go_sem,seval,a1,eN,u13]) ?_;refine RE.XG (n:=0) [] [14] [⟨.none,(.store 7 (.t 4) (.t 8)),.none⟩] rfl rfl ?_;apply sG;simp only[go_sem,seval,a4,hn];exact fin _ _ i2 i3 i4 ((W9.av z3).av z4) z2 (((ae n24).trans (ae n23)).trans a2) ((hn.2 _ _).trans af) af rfl rfl rfl
 .refine GT.gb (its:=[10,3,7,8,3,7,12,7,14]) (by kernel_rfl) ?_;refine RE.XG (n:=0) [3,7,8,3,7,12,7,14] [10] [⟨(.some 4),(.alloc 99 7 (.agg [.XY,.ay,(.int .i64 0),.ay,.ay,(.int .i64 0),.ay])),.none⟩] rfl rfl ?_;apply sG;simp only[go_sem,seval];refine aS λi4 Z4 s4 a4 f4=>?_
  try replace hn:=bD (al a3 f4)
  try replace a3:=s4 _ _ a3
  have n14:=al a1 f4;have n24:=al a2 f4;replace u14:=(bD n14).2;replace u24:=(bD n24).2;replace a1:=s4 _ _ a1;replace a2:=s4 _ _ a2;have z4:=W9.none f4;replace W9:=W9.trans s4;simp only[go_sem,seval];refine RE.X2 rfl rfl rfl rfl rfl trivial (by simp only[go_sem,seval,a1,eN]) ?_;refine RE.X2 rfl rfl rfl rfl rfl trivial (by simp only[go_sem,seval,a1,eN]) ?_;refine RE.XG (n:=0) [3,7,12,7,14] [8] [⟨(.some 3),(.alloc 99 7 (.agg [.XY,.ay,(.int .i64 0),.ay,.ay,(.int .i64 0),.ay])),.none⟩] rfl rfl ?_;apply sG;simp only[go_sem,seval];refine aS λi3 Z3 s3 a3 f3=>?_
  try replace hn:=bD (al a4 f3).symm
  try replace a4:=s3 _ _ a4
  have n13:=al a1 f3;have n23:=al a2 f3;replace u13:=(bD n13).2;replace u23:=(bD n23).2;replace a1:=s3 _ _ a1;replace a2:=s3 _ _ a2;have z3:=W9.none f3;replace W9:=W9.trans s3;simp only[go_sem,seval];refine RE.X2 rfl rfl rfl rfl rfl trivial (by simp only[go_sem,seval,a1,eN]) ?_;refine RE.X2 rfl rfl rfl rfl rfl trivial (by simp only[go_sem,seval,a1,eN]) ?_;refine RE.XG (n:=0) [7,14] [12] [⟨.none,(.store 7 (.t 3) (.t 6)),.none⟩] rfl rfl ?_;apply sG;simp only[go_sem,seval,a3];refine RE.X2 rfl rfl rfl rfl rfl trivial (by simp only[go_sem,seval,a1,eN,u13]) ?_;refine RE.XG (n:=0) [] [14] [⟨.none,(.store 7 (.t 4) (.t 8)),.none⟩] rfl rfl ?_;apply sG;simp only[go_sem,seval,a4,hn];exact fin _ _ i2 i3 i4 ((W9.av z3).av z4) z2 (((ae n24).trans (ae n23)).trans a2) ((hn.2 _ _).trans af) af rfl rfl rfl
open Go.Proofs Go.Proofs.Tryz
def MB(a b:Bk)(ha:bH a)(hb:bH b)(s:XE)(kind:Int)(WY:a.atoms≠[]->b.atoms≠[]->0<=s.s.atom/\(kind=1->bQ a.atoms s.s)/\s.bx.length<=1000000/\∀f∈s.bx,0<=f.h):
 aK prog 73 [ny a b (bE a.atoms b.atoms) (bE a.L' b.L'),bB s,vI kind] (.bool (decide (eQ a b s kind))):=λU=>by
 refine e73.r (by simp[c73]) ?_;have hs:=aa.refl U;have Zl:=fF a.atoms;have hlb:=fF b.atoms;refine ab.mix 11 ?_;apply sR;simp only[go_sem,seval,c73,cX,Ac];refine ad λi3 Z3 s3 a3 f3=>?_;replace hs:=hs.trans s3;simp only[go_sem,seval,bu,eW];refine ad λi4 Z4 s4 a4 f4=>?_;replace a3:=s4 _ _ a3;replace hs:=hs.trans s4;generalize hX:decide (eQ a b s kind)=X;by_cases h0:(a.atoms.length:Int)=0\/(b.atoms.length:Int)=0
 .have hq:((a.atoms.length:Int)=0)=True\/((a.atoms.length:Int)=0)=False/\((b.atoms.length:Int)=0)=True:=by
   by_cases h:(a.atoms.length:Int)=0
   .exact .inl (WE h)
   .exact .inr ⟨O' h,WE (h0.resolve_left h)⟩
  have hX':X=decide ((a.atoms.length:Int)=b.atoms.length/\a.M'=b.M'):=by
   rw[<-hX];exact decide_eq_decide.2 (by unfold eQ;rw[aq h0])
  clear hX;have hc:=Fw a.M' b.M' ha.Zi;by_cases hnm:(a.atoms.length:Int)=b.atoms.length
  .have q2:((a.atoms.length:Int)=b.atoms.length)=True:=WE hnm;have XL:X=decide (a.M'=b.M'):=hX'.trans (decide_eq_decide.2 (by simp[hnm]));rw[<-XL]at hc;rcases hq with q1|⟨q1,q3⟩
   .simp only[go_sem,seval,a3,cX,Zl,hlb,q1,q2];refine ab.au rfl rfl rfl (hc _) ?_;apply sR;simp only[go_sem,seval];exact ak.pure hs rfl
   .simp only[go_sem,seval,a3,cX,Zl,hlb,q1,q2,q3];refine ab.au rfl rfl rfl (hc _) ?_;apply sR;simp only[go_sem,seval];exact ak.pure hs rfl
  .have q2:((a.atoms.length:Int)=b.atoms.length)=False:=O' hnm;have XL:X=false:=hX'.trans (Xr λh=>hnm h.1);rw[XL];rcases hq with q1|⟨q1,q3⟩
   .simp only[go_sem,seval,a3,cX,Zl,hlb,q1,q2];exact ak.pure hs rfl
   .simp only[go_sem,seval,a3,cX,Zl,hlb,q1,q2,q3];exact ak.pure hs rfl
 .have na:a.atoms≠[]:=λh=>h0 (.inl (by rw[h];rfl));have nb:b.atoms≠[]:=λh=>h0 (.inr (by rw[h];rfl));obtain⟨x0,x1,x2,x3⟩:=WY na nb;have q1:((a.atoms.length:Int)=0)=False:=O' λh=>h0 (.inl h);have q3:((b.atoms.length:Int)=0)=False:=O' λh=>h0 (.inr h);have hec:=PX a ha s kind x0 x1 x2 x3;have hX':X=decide ((dk a s kind<bE a.atoms b.atoms\/dk a s kind=a.atoms.length/\dk a s kind=b.atoms.length/\dk a s kind=bE a.atoms b.atoms)/\dk a s kind<bE a.L' b.L'/\l5 a (dk a s kind)=l5 b (dk a s kind)/\mV a b s.s):=by
   rw[<-hX];exact decide_eq_decide.2 (by unfold eQ;rw[ao h0])
  clear hX;have hhc:=Ha a b ha hb na nb (bE a.atoms b.atoms) (bE a.L' b.L') s.s x0;generalize dk a s kind=r at*;have fa:=zr a ha.Zi r;have fb:=zr b hb.Zi r;have hul:(l5 a r).length<=1000000:=by
   have:=List.length_filter_le (λf:T'=>decide (f.anchor<=r)) a.M';have h2:=ha.Zi;unfold l5;omega
  have hc:=Fw (l5 a r) (l5 b r) hul;generalize l5 a r=A at*;generalize l5 b r=B at*;generalize bE a.atoms b.atoms=n1 at*;generalize bE a.L' b.L'=n2 at*;generalize hH:decide (mV a b s.s)=Hb at hhc;simp only[go_sem,seval,a3,a4,cX,bu,Zl,hlb,q1,q3];rw[<-jQ,<-bB];refine ab.au rfl rfl rfl (hec _) ?_;by_cases p1:r<n1
  .have s1:(r<(n1:Int))=True:=WE p1;have hsm:(r<(n1:Int)\/r=a.atoms.length/\r=b.atoms.length/\r=n1):=.inl p1;by_cases hB:r<n2
   .have s2:(r<(n2:Int))=True:=WE hB;apply sR;simp only[go_sem,seval,a3,cX,s1,s2];rw[<-jQ];refine Go.bw rfl rfl rfl fa ?_;apply sG;simp only[go_sem,seval,a3,cX];rw[<-jQ];refine Go.bw rfl rfl rfl fb ?_;apply sG;simp only[go_sem,seval];refine Go.bw rfl rfl rfl hc ?_;by_cases hAB:A=B
    .rw[XJ hAB];apply sG;simp only[go_sem,seval,a3,a4,cX,bu];rw[<-ny,mX];refine Go.bw rfl rfl rfl hhc ?_;apply sG;simp only[go_sem,seval];exact ak.pure hs (by rw[hX',<-hH];exact congrArg V.bool (decide_eq_decide.2 ⟨λh=>⟨hsm,hB,hAB,h⟩,λh=>h.2.2.2⟩))
    .rw[Xr hAB];apply sG;simp only[go_sem,seval];exact ak.pure hs (by rw[hX',Xr λh=>hAB h.2.2.1])
   .have s2:(r<(n2:Int))=False:=O' hB;apply sR;simp only[go_sem,seval,a3,cX,s1,s2];exact ak.pure hs (by rw[hX',Xr λh=>hB h.2.1])
  .have s1:(r<(n1:Int))=False:=O' p1;by_cases p2:r=a.atoms.length
   .have s3:(r=(a.atoms.length:Int))=True:=WE p2;by_cases p3:r=b.atoms.length
    .have s4:(r=(b.atoms.length:Int))=True:=WE p3;by_cases p4:r=n1
     .have s5:(r=(n1:Int))=True:=WE p4;have hsm:(r<(n1:Int)\/r=a.atoms.length/\r=b.atoms.length/\r=n1):=.inr ⟨p2,p3,p4⟩;by_cases hB:r<n2
      .have s2:(r<(n2:Int))=True:=WE hB;apply sR;simp only[go_sem,seval,a3,cX,s1,s2,s3,s4,s5];rw[<-jQ];refine Go.bw rfl rfl rfl fa ?_;apply sG;simp only[go_sem,seval,a3,cX];rw[<-jQ];refine Go.bw rfl rfl rfl fb ?_;apply sG;simp only[go_sem,seval];refine Go.bw rfl rfl rfl hc ?_;by_cases hAB:A=B
       .rw[XJ hAB];apply sG;simp only[go_sem,seval,a3,a4,cX,bu];rw[<-ny,mX];refine Go.bw rfl rfl rfl hhc ?_;apply sG;simp only[go_sem,seval];exact ak.pure hs (by rw[hX',<-hH];exact congrArg V.bool (decide_eq_decide.2 ⟨λh=>⟨hsm,hB,hAB,h⟩,λh=>h.2.2.2⟩))
       .rw[Xr hAB];apply sG;simp only[go_sem,seval];exact ak.pure hs (by rw[hX',Xr λh=>hAB h.2.2.1])
      .have s2:(r<(n2:Int))=False:=O' hB;apply sR;simp only[go_sem,seval,a3,cX,s1,s2,s3,s4,s5];exact ak.pure hs (by rw[hX',Xr λh=>hB h.2.1])
     .have s5:(r=(n1:Int))=False:=O' p4;apply sR;simp only[go_sem,seval,a3,cX,s1,s3,s4,s5];exact ak.pure hs (by rw[hX',Xr λh=>h.1.elim p1 λg=>p4 g.2.2])
    .have s4:(r=(b.atoms.length:Int))=False:=O' p3;apply sR;simp only[go_sem,seval,a3,cX,s1,s3,s4];exact ak.pure hs (by rw[hX',Xr λh=>h.1.elim p1 λg=>p3 g.2.1])
   .have s3:(r=(a.atoms.length:Int))=False:=O' p2;apply sR;simp only[go_sem,seval,a3,cX,s1,s3];exact ak.pure hs (by rw[hX',Xr λh=>h.1.elim p1 λg=>p2 g.1])
open Go.Proofs Go.Proofs.Tryz
def Gq{b:Bk}(hb:BkOk b){s:XE}(h:gu b s):s.bx.length<=1000000:=by
 have h1:=(rP _ 0 h.1).length_le;rw[xj]at h1;have:=hb.Zi;omega
def FG(a b:Bk):∀(f:Nat) (s:XE) (n:Nat),lu a b f s n<=n+2*f
 |0,_,_=>Xm _
 |f+1,s,n=>by
  rw[lu];split
  .omega
  .split
   .omega
   .refine jx (FG a b f _ _) ?_;split<;>omega
def FJ(a b:Bk)(ha:bH a)(hb:bH b){L:Int}(hL:o9 a L):
 aK prog 36 [ny a b (bE a.atoms b.atoms) (bE a.L' b.L')] (vI (jM a b)):=λU=>by
 refine e36.r (by simp[c36]) ?_;have hs:=aa.refl U;have Zl:=fF a.atoms;have hlf:=fO a.M';have Zh:=ha.len;have hfl:=ha.Zi;have r0:WR .i64 ((a.atoms.length:Int)+a.M'.length):=ai;have hsf:=MB a b ha hb;have XU:=ha.brk;have hmu:=sX hL;have hlc:=cX a b (bE a.atoms b.atoms) (bE a.L' b.L');have hls:=Ac a b (bE a.atoms b.atoms) (bE a.L' b.L');have hag:V.agg [.rp (bc a),aC a.nodes,vI a.h,aW a.atoms,aB a.M',vI a.WG,bj a.L',.rp (bc b),aC b.nodes,vI b.h,aW b.atoms,aB b.M',vI b.WG,bj b.L',vI (bE a.atoms b.atoms),vI (bE a.L' b.L')]=ny a b (bE a.atoms b.atoms) (bE a.L' b.L'):=rfl;have XP:∀p:Xd,(aL p).cells=[vI p.no,vI p.kind,aE p.hs,aE p.fs,aE p.ls]:=λ_=>rfl;have ZP:∀p:Xd,(aL p).stays=true:=λ_=>rfl;have ZA:∀l:List Xs,(aE l).cells=[aE l]:=λ_=>rfl;have Yu:∀l:List Xs,(aE l).stays=true:=λ_=>rfl;refine ab.mix 8 ?_;unfold jM;apply sR;simp only[go_sem,seval,c36,hlc,hls];refine ad λi1 Z1 s1 a1 f1=>?_;replace hs:=hs.trans s1;by_cases h0:(a.atoms.length:Int)+a.M'.length=0
 .have q0:((a.atoms.length:Int)+a.M'.length=0)=True:=WE h0;rw[aq h0];have hc:=hsf ⟨⟨0,0,false⟩,[]⟩ 3 (λna _=>absurd (rM (by omega)) na);have WY:bB ⟨⟨0,0,false⟩,[]⟩=.agg [vI 0,vI 0,.bool false,aB []]:=rfl;have hn1:Wk U ld .ay (aB []):=Wk.ay 7;by_cases hsf':eQ a b ⟨⟨0,0,false⟩,[]⟩ 3
  .rw[aq hsf'];rw[XJ hsf']at hc;simp only[go_sem,seval,a1,hlc,Zl,hlf,r0,q0];rw[hag];refine ab.au rfl rfl rfl (aK.x9 (args':=[_,bB ⟨⟨0,0,false⟩,[]⟩,vI 3]) ⟨ZV _,Wk.agg (vs':=[vI 0,vI 0,.bool false,aB []]) ⟨ZV _,ZV _,ZV _,Wk.ay 7,trivial⟩,ZV _,trivial⟩ hc rfl) ?_;apply sR;simp only[go_sem,seval];exact ak.pure hs rfl
  .rw[ao hsf'];rw[Xr hsf']at hc;simp only[go_sem,seval,a1,hlc,Zl,hlf,r0,q0];rw[hag];refine ab.au rfl rfl rfl (aK.x9 (args':=[_,bB ⟨⟨0,0,false⟩,[]⟩,vI 3]) ⟨ZV _,Wk.agg (vs':=[vI 0,vI 0,.bool false,aB []]) ⟨ZV _,ZV _,ZV _,Wk.ay 7,trivial⟩,ZV _,trivial⟩ hc rfl) ?_;apply sR;simp only[go_sem,seval];exact ak.pure hs rfl
 .have q0:((a.atoms.length:Int)+a.M'.length=0)=False:=O' h0;rw[ao h0];simp only[go_sem,seval,a1,hlc,Zl,hlf,r0,q0];refine ab.au rfl rfl rfl (yM a ha.toBkFull _) ?_;apply sR;simp only[go_sem,seval];refine ad λi4 Z4 s4 a4 f4=>?_;have n14:=al a1 f4;replace a1:=s4 _ _ a1;have z4:=hs.none f4;replace hs:=hs.trans s4;simp only[go_sem,seval,a4,bu,eW];generalize Ys:C' _ i4 _=Y4;replace a4:=(congrFun Ys i4).symm.trans af;replace a1:=((congrFun Ys i1).symm.trans (ae n14)).trans a1;replace hs:=Eq.subst (motive:=aa _) Ys (hs.av z4);clear Ys;apply sR;simp only[go_sem,seval];have hml:=FG a b 1000000001 ⟨⟨0,0,true⟩,[]⟩ 0;generalize hR:lu a b 1000000001 ⟨⟨0,0,true⟩,[]⟩ 0=R at*;refine ab.eH (λst=>aa U st.U/\st.s 3=vI R)
   (λm st=>∃(s:XE) (n i4':Nat),mu2 a L s<m/\R=lu a b m s n/\gu a s/\n+2*m<=2000000002/\aa U st.U/\U i4'=none/\st.U i1=some ⟨104,16,[ny a b (bE a.atoms b.atoms) (bE a.L' b.L')]⟩/\st.U i4'=some ⟨45,4,[bB s]⟩/\st.s 1=.ptr i1 0 0/\st.s 3=vI n/\st.s 4=.ptr i4' 0 0) 1000000001 ?_ ?_ ?_
  .exact⟨⟨⟨0,0,true⟩,[]⟩,0,i4,by omega,hR.symm,sC a ha.pos,by omega,hs,z4,a1,a4,rfl,rfl,rfl⟩
  .clear hs a1 a4;rintro m ⟨S,J⟩ ⟨s,n,i4,hm,hRm,Xq,hn,hs,z4,a1,a4,t1,t3,t4⟩;simp only at hs a1 a4 t1 t3 t4;have n14:i1≠i4:=λe=>by rw[e,a4]at a1;simp at a1
   obtain⟨f,rfl⟩:∃f,m=f+1:=⟨m-1,by omega⟩
   have hp:=Gq ha.toBkOk Xq;refine ab.mix 8 ?_;apply sR;simp only[go_sem,seval,t1,t4,a1,a4,hlc,bu];rw[<-bB];refine ab.au rfl rfl rfl (vi a ha.toBkFull s hp _) ?_;rw[lu]at hRm;by_cases he:cH a s
   .rw[aq he]at hRm;rw[XJ he,hRm];apply sR;simp only[go_sem,seval,t3];exact hs
   .rw[ao he]at hRm;rw[Xr he];have hpg:=AM a ha.toBkFull ha.fh s hp;rw[ao he]at hpg;have Yb:0<=s.s.atom/\s.s.atom<a.L'.length:=by
     rcases Xq.2 with h|h
     .have:=h.1;omega
     .omega
    have hgd:=eu ha he;have hph:∀f∈s.bx,0<=f.h:=λf hf=>ha.fh f (mz _ _ Xq.1 f hf);have hsc:=hsf s (aG a s).1.kind (λ_ _=>⟨Yb.1,λhk=>(hgd.cut hk).1,hp,hph⟩);have hac:=KP a (by omega) (aG a s).1 s.s Yb.1 Yb.2 ((n:Int)+1) (by omega);have hmn:=wm ha hL he;have hmy:=vM ha he;generalize aG a s=X at*;obtain⟨p,t⟩:=X;simp only at hpg hsc hac hmn hmy hRm;have r1:WR .i64 ((n:Int)+1):=ai;have r2:WR .i64 ((n:Int)+1+1):=ai;apply sR;simp only[go_sem,seval,t1,t4,a1,a4,hlc,bu];rw[<-bB];refine ab.au rfl rfl rfl (hpg _) ?_;apply sR;simp only[go_sem,seval];refine ad λi5 Z5 s5 a5 f5=>?_;have n15:=al a1 f5;replace a1:=s5 _ _ a1;have n45:=al a4 f5;replace a4:=s5 _ _ a4;have z5:=hs.none f5;replace hs:=hs.trans s5;simp only[go_sem,seval];refine ad λi6 Z6 s6 a6 f6=>?_;have n16:=al a1 f6;replace a1:=s6 _ _ a1;have n46:=al a4 f6;replace a4:=s6 _ _ a4;have n56:=al a5 f6;replace a5:=s6 _ _ a5;have z6:=hs.none f6;replace hs:=hs.trans s6;simp only[go_sem,seval,a5,XP,ZP,bu,eW];generalize X9:C' _ i5 _=Y5;replace a5:=(congrFun X9 i5).symm.trans af;replace a1:=((congrFun X9 i1).symm.trans (ae n15)).trans a1;replace a4:=((congrFun X9 i4).symm.trans (ae n45)).trans a4;replace a6:=((congrFun X9 i6).symm.trans (ae n56.symm)).trans a6;replace hs:=Eq.subst (motive:=aa _) X9 (hs.av z5);clear X9;simp only[go_sem,seval,a6];generalize ZX:C' _ i6 _=Y6;replace a6:=(congrFun ZX i6).symm.trans af;replace a1:=((congrFun ZX i1).symm.trans (ae n16)).trans a1;replace a4:=((congrFun ZX i4).symm.trans (ae n46)).trans a4;replace a5:=((congrFun ZX i5).symm.trans (ae n56)).trans a5;replace hs:=Eq.subst (motive:=aa _) ZX (hs.av z6);clear ZX;simp only[go_sem,seval,t1,t4,a1,a4,a5,hlc,XP,bu];rw[hag,<-bB];refine ab.au rfl rfl rfl (hsc _) ?_;by_cases hsaf:eQ a b s p.kind
    .rw[ao (λh=>h hsaf)]at hRm;rw[XJ hsaf];apply sR;simp only[go_sem,seval,t1,t3,t4,a1,a4,a5,r1,hlc,XP,bu];rw[<-jQ,mX];refine ab.au rfl rfl rfl (hac _) ?_;by_cases hsd:fw a p s.s ((n:Int)+1)
     .rw[aq hsd]at hRm;rw[XJ hsd];apply sR;simp only[go_sem,seval,t3,t4,a4,a6,r1,r2,bu];generalize Ys:C' _ i4 _=Y4;replace a4:=(congrFun Ys i4).symm.trans af;replace a1:=((congrFun Ys i1).symm.trans (ae n14)).trans a1;replace a5:=((congrFun Ys i5).symm.trans (ae n45.symm)).trans a5;replace a6:=((congrFun Ys i6).symm.trans (ae n46.symm)).trans a6;replace hs:=Eq.subst (motive:=aa _) Ys (hs.av z4);clear Ys;refine ad λi7 Z7 s7 a7 f7=>?_;have n17:=al a1 f7;replace a1:=s7 _ _ a1;have n47:=al a4 f7;replace a4:=s7 _ _ a4;have z7:=hs.none f7;replace hs:=hs.trans s7;simp only[go_sem,seval,a7];generalize YD:C' _ i7 _=Y7;replace a7:=(congrFun YD i7).symm.trans af;replace a1:=((congrFun YD i1).symm.trans (ae n17)).trans a1;replace a4:=((congrFun YD i4).symm.trans (ae n47)).trans a4;replace hs:=Eq.subst (motive:=aa _) YD (hs.av z7);clear YD;exact⟨f,by omega,t,n+2,i7,by omega,hRm,hmy,by omega,hs,z7,a1,a7,by simp[t1];omega⟩
     .rw[ao hsd]at hRm;rw[Xr hsd];apply sR;simp only[go_sem,seval,t3,t4,a4,a6,r1,bu];generalize Ys:C' _ i4 _=Y4;replace a4:=(congrFun Ys i4).symm.trans af;replace a1:=((congrFun Ys i1).symm.trans (ae n14)).trans a1;replace a5:=((congrFun Ys i5).symm.trans (ae n45.symm)).trans a5;replace a6:=((congrFun Ys i6).symm.trans (ae n46.symm)).trans a6;replace hs:=Eq.subst (motive:=aa _) Ys (hs.av z4);clear Ys;refine ad λi7 Z7 s7 a7 f7=>?_;have n17:=al a1 f7;replace a1:=s7 _ _ a1;have n47:=al a4 f7;replace a4:=s7 _ _ a4;have z7:=hs.none f7;replace hs:=hs.trans s7;simp only[go_sem,seval,a7];generalize YD:C' _ i7 _=Y7;replace a7:=(congrFun YD i7).symm.trans af;replace a1:=((congrFun YD i1).symm.trans (ae n17)).trans a1;replace a4:=((congrFun YD i4).symm.trans (ae n47)).trans a4;replace hs:=Eq.subst (motive:=aa _) YD (hs.av z7);clear YD;exact⟨f,by omega,t,n+1,i7,by omega,hRm,hmy,by omega,hs,z7,a1,a7,by simp[t1]⟩
    .rw[aq hsaf]at hRm;rw[Xr hsaf,hRm];apply sR;simp only[go_sem,seval,t3];exact hs
  .rintro⟨S,J⟩ ⟨hs,t3⟩;simp only at hs t3;refine ab.mix 8 ?_;apply sR;simp only[go_sem,seval,t3];exact ak.pure hs rfl
open Go.Proofs Go.Proofs.Tryz
def yW:V:=.agg [.XY,.ay,vI 0,.ay,.ay,vI 0,.ay,.XY,.ay,vI 0,.ay,.ay,vI 0,.ay]
def iO(l m:List Nd)(w h:Int):Int:=if cE l w h≠0 then cE l w h else cE m w h
def EH(l m:List Nd)(w h:Int):V:=if iO l m w h=0 then uw (aP l w h) (aP m w h)else yW
def HR(a:Bk):V:=.agg [.rp (bc a),aC a.nodes,vI a.h,aW a.atoms,aB a.M',vI a.WG,bj a.L',.XY,.ay,vI 0,.ay,.ay,vI 0,.ay]
def yJ(l m:List Nd)(hl:cU l)(hm:cU m)(w h:Int):aK prog 34 [aC l,aC m,vI w,vI h] (.WJ [EH l m w h,vI (iO l m w h)]):=λU=>by
 refine e34.r (by simp[c34]) ?_;have hs:=aa.refl U;have c1:=E6 l hl w h;have c2:=E6 m hm w h;have hz:Ev.cells=[.XY,.ay,vI 0,.ay,.ay,vI 0,.ay]:=rfl;have hzs:Ev.stays=true:=rfl;refine ab.mix 10 ?_;apply sR;simp only[go_sem,seval,c34];refine ad λi8 Z8 s8 a8 f8=>?_;have z8:=hs.none f8;replace hs:=hs.trans s8;simp only[go_sem,seval,cc,dR];unfold EH iO;unfold EW at c1 c2;generalize hA:aP l w h=A at*;generalize hB:aP m w h=B at*;generalize cE l w h=e1 at*;generalize cE m w h=e2 at*;refine ab.eH (λst=>aa U st.U/\e1=0/\e2=0/\st.s 8=.ptr i8 0 0/\st.U i8=some ⟨100,14,[uw A B]⟩)
  (λk st=>aa U st.U/\st.s 2=vI w/\st.s 3=vI h/\st.s 8=.ptr i8 0 0/\st.s 14=.agg [aC l,aC m]/\(k=2/\st.s 15=vI 0/\st.U i8=some ⟨100,14,[yW]⟩\/k=1/\st.s 15=vI 1/\e1=0/\st.U i8=some ⟨100,14,[HR A]⟩\/k=0/\st.s 15=vI 2/\e1=0/\e2=0/\st.U i8=some ⟨100,14,[uw A B]⟩)) 2 ?_ ?_ ?_
 .exact⟨hs,rfl,rfl,rfl,rfl,.inl ⟨rfl,rfl,a8⟩⟩
 .clear hs a8;rintro k ⟨S,J⟩ ⟨hs,t2,t3,t8,t14,hc⟩;simp only at hs t2 t3 t8 t14 hc;refine ab.mix 10 ?_;rcases hc with⟨rfl,t15,a8⟩|⟨rfl,t15,hz1,a8⟩|⟨rfl,t15,hz1,hz2,a8⟩
  .apply sR;simp only[go_sem,seval,t2,t3,t14,t15];refine ab.au rfl rfl rfl (c1 _) ?_;by_cases h1:e1=0
   .have q1:(e1≠0)=False:=O' (λh=>h h1);rw[aq h1];rw[yW]at a8;apply sR;simp only[go_sem,seval,t2,t3,t8,t14,t15,a8,q1,bI,hU];generalize Yf:C' _ i8 _=Y8;replace a8:=(congrFun Yf i8).symm.trans af;replace hs:=Eq.subst (motive:=aa _) Yf (hs.av z8);clear Yf;exact⟨ai,1,by omega,hs,.inr (.inl ⟨rfl,h1,rfl⟩)⟩
   .have q1:(e1≠0)=True:=WE h1;rw[ao h1,aq h1,ao h1];rw[yW]at a8;apply sR;simp only[go_sem,seval,t8,a8,q1,hz,hzs];exact ak.pure (hs.av z8) rfl
  .have h1n:¬(e1≠0):=λh=>h hz1;rw[ao h1n];apply sR;simp only[go_sem,seval,t2,t3,t14,t15];refine ab.au rfl rfl rfl (c2 _) ?_;by_cases h1:e2=0
   .have q1:(e2≠0)=False:=O' (λh=>h h1);rw[aq h1];rw[HR]at a8;apply sR;simp only[go_sem,seval,t2,t3,t8,t14,t15,a8,q1,bI,hU];generalize Yf:C' _ i8 _=Y8;replace a8:=(congrFun Yf i8).symm.trans af;replace hs:=Eq.subst (motive:=aa _) Yf (hs.av z8);clear Yf;exact⟨ai,0,by omega,hs,.inr (.inr ⟨rfl,hz1,h1,rfl⟩)⟩
   .have q1:(e2≠0)=True:=WE h1;rw[ao h1,ao h1];rw[HR]at a8;apply sR;simp only[go_sem,seval,t8,a8,q1,hz,hzs];exact ak.pure (hs.av z8) rfl
  .apply sR;simp only[go_sem,seval,t15];exact⟨hs,hz1,hz2,t8,a8⟩
 .rintro⟨S,J⟩ ⟨hs,h1,h2,t8,a8⟩;simp only at hs t8 a8;refine ab.mix 10 ?_;rw[ao (show¬(e1≠0)from λh=>h h1),aq h2,h2];apply sR;simp only[go_sem,seval,t8,a8,eN];exact ak.pure (hs.av z8) rfl
def FD(l m:List Nd)(hl:cU l)(hm:cU m)(w h:Int):aK prog 18 [aC l,aC m,vI w,vI h] (.WJ [vI (if iO l m w h=0 then jM (aP l w h) (aP m w h)else 0:Nat),vI (iO l m w h)]):=λU=>by
 refine e18.r (by simp[c18]) ?_;have hs:=aa.refl U;have hc:=yJ l m hl hm w h;unfold EH at hc;refine ab.mix 13 ?_;apply sR;simp only[go_sem,seval,c18];refine ab.au rfl rfl rfl (hc _) ?_;by_cases he:iO l m w h=0
 .rw[aq he,aq he];have e1:cE l w h=0:=by
   unfold iO at he;by_cases g:cE l w h=0
   .exact g
   .rw[aq g]at he;exact he
  have e2:cE m w h=0:=by
   unfold iO at he;rw[ao (λh=>h e1)]at he;exact he
  have ha:=dh hl e1;have hb:=dh hm e2;have hL:=mH e1;have XU:=ha.brk;have Zh:=ha.len;have hlk:=yN (aP l w h) (aP m w h) (by omega) (by omega);have hmy:=FJ (aP l w h) (aP m w h) ha hb hL;generalize aP l w h=A at*;generalize aP m w h=B at*;rw[he];have q0:((0:Int)≠0)=False:=O' (λh=>h rfl);apply sR;simp only[go_sem,seval];refine ad λXk Z10 YP Xy f10=>?_;have z10:=hs.none f10;replace hs:=hs.trans YP;simp only[go_sem,seval,Xy,eN,AU];generalize YB:C' _ Xk _=Y10;replace Xy:=(congrFun YB Xk).symm.trans af;replace hs:=Eq.subst (motive:=aa _) YB (hs.av z10);clear YB;apply sR;simp only[go_sem,seval];rw[<-uw];refine ab.au rfl rfl rfl (hlk _) ?_;apply sR;simp only[go_sem,seval];refine ab.au rfl rfl rfl (hmy _) ?_;apply sR;simp only[go_sem,seval];exact ak.pure hs rfl
 .rw[ao he,ao he];have q:(iO l m w h≠0)=True:=WE he;generalize iO l m w h=E at*;have hz:yW.cells=[.XY,.ay,vI 0,.ay,.ay,vI 0,.ay,.XY,.ay,vI 0,.ay,.ay,vI 0,.ay]:=rfl;have hzs:yW.stays=true:=rfl;apply sR;simp only[go_sem,seval];refine ad λXk Z10 YP Xy f10=>?_;have z10:=hs.none f10;replace hs:=hs.trans YP;simp only[go_sem,seval,Xy,hz,hzs,q];exact ak.pure (hs.av z10) rfl
open Go.Proofs Go.Proofs.Tryz
def Cg(l:List Nd)(hlen:l.length<=1000000000000)(hw:∀x∈l,x.words.length<=200000000000000)(h:Int)(hh:AJ h)(vp:V)(P:List Xd)(hlP:cP false vp=some (.int .i64 P.length))(hiP:∀(U:ag) (i:Nat) (h:i<P.length),bo U 5 vp (.int .i64 i)=some (.rp (aL P[i])))
 (hPl:P.length<=10000000000000)(hPp:∀p∈P,p.hs.length<=1000000000000000/\p.fs.length<=1000000000000000/\p.ls.length<=1000000000000000)(U:ag):
 ax prog 16 [aC l,vI h,vp] U λr Z'=>(∃x,r=.bool x/\(x=false->l.length<=30/\P.length<=60))/\Z'=U:=by
 refine e16.r (by simp[c16]) ?_;have hln:=fi l;have XP:∀p:Xd,(aL p).cells=[vI p.no,vI p.kind,aE p.hs,aE p.fs,aE p.ls]:=λ_=>rfl;have finT:ak (.bool true) U λr Z'=>(∃x,r=.bool x/\(x=false->l.length<=30/\P.length<=60))/\Z'=U:=⟨_,_,aa.refl _,Wk.refl (aa.refl _) _,⟨_,rfl,λh=>by cases h⟩,rfl⟩
 refine ab.mix 13 ?_;by_cases h30:l.length<=30
 .have q0:((l.length:Int)>30)=False:=O';by_cases h60:P.length<=60
  .have q00:((P.length:Int)>60)=False:=O';apply sR;simp only[go_sem,seval,c16,hln,hlP,q0,q00];refine ab.eH (λst=>st.U=U/\st.s 0=aC l/\st.s 1=vI h/\st.s 2=vp/\st.s 9=vI 0/\∃c g:Int,st.s 7=vI c/\st.s 8=vI g/\0<=g/\g<=1152921504606846976)
    (λm st=>∃(i:Nat) (c g:Int),i<=l.length/\m=l.length-i/\st.U=U/\st.s 0=aC l/\st.s 1=vI h/\st.s 2=vp/\st.s 9=vI 0/\st.s 7=vI c/\0<=c/\c<=i*200000000000000/\st.s 8=vI g/\0<=g/\g<=i*3300000000000/\st.s 10=vI i) l.length ?_ ?_ ?_
   .exact⟨0,0,0,by omega,by omega,rfl,rfl,rfl,rfl,rfl,rfl,by omega,by omega,rfl,by omega,by omega,rfl⟩
   .rintro m ⟨S,J⟩ ⟨i,c,g,hi,rfl,W4,t0,t1,t2,t9,t7,hc0,hc1,t8,hg0,hg1,t10⟩;simp only at W4 t0 t1 t2 t9 t7 t8 t10;subst W4;refine ab.mix 13 ?_;by_cases H':i<l.length
    .have q1:((i:Int)<l.length)=True:=WE;have YK:=λU=>cA (U:=U) (l:=l) (a:=i) H';have hwi:=hw _ (XI H');have hlw:=eX l[i].words;have r1:WR .i64 ((i:Int)+1):=ai;have r2:WR .i64 (c+l[i].words.length):=ai;apply sR;simp only[go_sem,seval,t0,t1,t2,t9,t7,t8,t10,hln,q1,YK,Nd.cells,hlw,r1,r2,yq];obtain⟨b0,b1⟩:=Jq l[i].line 8589934592 (by omega);obtain⟨d0,d1⟩:=Jq l[i].h 2199023255552 (by omega);have e0:0<=(if 120<(l[i].words.length:Int)then 120 else(l[i].words.length:Int))/\(if 120<(l[i].words.length:Int)then 120 else(l[i].words.length:Int))<=120:=by split<;>omega
     obtain⟨e0,e1⟩:=e0;generalize (if 8589934592<if 0>l[i].line then 0 else l[i].line then 8589934592 else if 0>l[i].line then 0 else l[i].line)=A at*;generalize (if 2199023255552<if 0>l[i].h then 0 else l[i].h then 2199023255552 else if 0>l[i].h then 0 else l[i].h)=B at*;generalize (if 120<(l[i].words.length:Int)then 120 else(l[i].words.length:Int))=C at*;have m0:=Int.mul_nonneg b0 e0;have m1:=Int.mul_le_mul b1 e1 e0 (by omega:(0:Int)<=8589934592);generalize A*C=M at*;exact⟨ai,ai,ai,_,by omega,i+1,_,_,by omega,rfl,rfl,by omega,by omega,rfl,by omega,by omega,rfl⟩
    .have q1:((i:Int)<l.length)=False:=O';apply sR;simp only[go_sem,seval,t0,t10,hln,q1];exact⟨t1,t2,t9,c,g,t7,t8,hg0,by omega⟩
   .rintro⟨S,J⟩ ⟨W4,t0,t1,t2,t9,c,g,t7,t8,hg0,hg1⟩;simp only at W4 t0 t1 t2 t9 t7 t8;subst W4;refine ab.mix 13 ?_;apply sR;simp only[go_sem,seval];refine ab.eH (λst=>st.U=J/\st.s 2=vp/\st.s 9=vI 0/\∃h':Int,st.s 1=vI h'/\AJ h'/\st.s 7=vI c/\st.s 8=vI g)
     (λm st=>∃(i:Nat) (h':Int),i<=l.length/\m=l.length-i/\st.U=J/\st.s 2=vp/\st.s 9=vI 0/\st.s 0=aC l/\st.s 1=vI h'/\AJ h'/\st.s 7=vI c/\st.s 8=vI g/\st.s 11=vI i) l.length ?_ ?_ ?_
    .exact⟨0,h,by omega,by omega,rfl,t2,t9,t0,t1,hh,t7,t8,rfl⟩
    .rintro m ⟨S,X'⟩ ⟨i,h',hi,rfl,W4,t2,t9,t0,t1,hh',t7,t8,t11⟩;simp only at W4 t2 t9 t0 t1 t7 t8 t11;subst W4;refine ab.mix 13 ?_;by_cases H':i<l.length
     .have q1:((i:Int)<l.length)=True:=WE;have YK:=λU=>cA (U:=U) (l:=l) (a:=i) H';have r1:WR .i64 ((i:Int)+1):=ai;by_cases hb:h'=-9223372036854775808
      ·(refine ab.bt Yp.nothing 22 ?_;simp only[go_sem,seval,jG,t0,t1,t11,hln,q1,YK,Nd.cells])
       refine ab.Sf rfl rfl rfl rfl ?_;generalize IntKind.i64.wrap (h'-1)=X
       (refine ab.bt Yp.nothing 2 ?_;simp only[go_sem,seval,jG])
       refine ab.Sf rfl rfl rfl rfl ?_;generalize hX:IntKind.i64.wrap _=Y;have hY:AJ Y:=by rw[<-hX];exact MM _
       apply sR;simp only[go_sem,seval,t11,r1,t7,t8,t0,t2,t9];exact⟨_,by omega,i+1,_,by omega,rfl,rfl,hY,rfl⟩
      .apply sR;simp only[go_sem,seval,t0,t1,t2,t9,t7,t8,t11,hln,q1,YK,Nd.cells,r1];have hz:0<=(if(if 0>h'-1 then 0 else h'-1)<(if 0>l[i].st.head then 0 else l[i].st.head)then(if 0>h'-1 then 0 else h'-1)else if 0>l[i].st.head then 0 else l[i].st.head)/\
        (if(if 0>h'-1 then 0 else h'-1)<(if 0>l[i].st.head then 0 else l[i].st.head)then(if 0>h'-1 then 0 else h'-1)else if 0>l[i].st.head then 0 else l[i].st.head)<=(if 0>h'-1 then 0 else h'-1):=by
        have h1:0<=(if 0>h'-1 then 0 else h'-1):=by split<;>omega
        have h2:0<=(if 0>l[i].st.head then 0 else l[i].st.head):=by split<;>omega
        generalize (if 0>h'-1 then 0 else h'-1)=A at*;generalize (if 0>l[i].st.head then 0 else l[i].st.head)=B at*;split<;>omega
       have hx:(if 0>h'-1 then 0 else h'-1)=0\/(if 0>h'-1 then 0 else h'-1)=h'-1/\h'>=1:=by split<;>omega
       generalize (if(if 0>h'-1 then 0 else h'-1)<(if 0>l[i].st.head then 0 else l[i].st.head)then(if 0>h'-1 then 0 else h'-1)else if 0>l[i].st.head then 0 else l[i].st.head)=Z at*;unfold AJ at hh';exact⟨ai,ai,_,by omega,i+1,_,by omega,rfl,rfl,⟨by omega,by omega⟩,rfl⟩
     .have q1:((i:Int)<l.length)=False:=O';apply sR;simp only[go_sem,seval,t0,t11,hln,q1];exact⟨t2,t9,h',t1,hh',t7,t8⟩
    .rintro⟨S,X'⟩ ⟨W4,t2,t9,h',t1,hh',t7,t8⟩;simp only at W4 t1 t7 t8 t2 t9;subst W4;refine ab.mix 13 ?_;apply sR;simp only[go_sem,seval];refine ab.eH (λst=>st.U=X'/\st.s 1=vI h'/\st.s 7=vI c/\st.s 8=vI g/\∃q:Int,st.s 9=vI q)
      (λm st=>∃(i:Nat) (q:Int),i<=P.length/\m=P.length-i/\st.U=X'/\st.s 1=vI h'/\st.s 2=vp/\st.s 7=vI c/\st.s 8=vI g/\st.s 9=vI q/\0<=q/\q<=i*3000000000000000/\st.s 12=vI i) P.length ?_ ?_ ?_
     .exact⟨0,0,by omega,by omega,rfl,t1,t2,t7,t8,t9,by omega,by omega,rfl⟩
     .rintro m ⟨S,J⟩ ⟨i,q,hi,rfl,W4,t1,t2,t7,t8,t9,hq0,hq1,t12⟩;simp only at W4 t1 t2 t7 t8 t9 t12;subst W4;refine ab.mix 13 ?_;by_cases H':i<P.length
      .have q1:((i:Int)<P.length)=True:=WE;have YK:=λU=>hiP U i H';have hpl:=hPp _ (XI H');generalize P[i]=p at*;have l1:=jr p.hs;have l2:=jr p.fs;have l3:=jr p.ls;have r1:WR .i64 ((i:Int)+1):=ai;have r2:WR .i64 ((p.hs.length:Int)+p.fs.length):=ai;have r3:WR .i64 ((p.hs.length:Int)+p.fs.length+p.ls.length):=ai;have r4:WR .i64 (q+((p.hs.length:Int)+p.fs.length+p.ls.length)):=ai;apply sR;simp only[go_sem,seval,t1,t2,t7,t8,t9,t12,hlP,q1,YK,XP,SI,l1,l2,l3,r1,r2,r3,r4];exact⟨_,by omega,i+1,_,by omega,rfl,rfl,by omega,by omega,rfl⟩
      .have q1:((i:Int)<P.length)=False:=O';apply sR;simp only[go_sem,seval,t2,t12,hlP,q1];exact⟨t1,t7,t8,q,t9⟩
     .rintro⟨S,J⟩ ⟨W4,t1,t7,t8,q,t9⟩;simp only at W4 t1 t7 t8 t9;subst W4;refine ab.mix 13 ?_;have fin:∀x:Bool,ak (.bool x) J λr Z'=>(∃x,r=.bool x/\(x=false->l.length<=30/\P.length<=60))/\Z'=J:=λx=>⟨_,_,aa.refl _,Wk.refl (aa.refl _) _,⟨_,rfl,λ_=>⟨h30,h60⟩⟩,rfl⟩
      by_cases p1:c>120
      .have q1:(c>120)=True:=WE p1;apply sR;simp only[go_sem,seval,t7,q1];exact fin _
      .have q1:(c>120)=False:=O' p1;by_cases p0:q>600
       .have q5:(q>600)=True:=WE p0;apply sR;simp only[go_sem,seval,t7,t9,q1,q5];exact fin _
       .have q5:(q>600)=False:=O' p0;by_cases p2:h'>=1
        .have q2:(h'>=1)=True:=WE p2;have q3:(h'=0)=False:=O';have hq0:=Int.tdiv_nonneg hg0 (by omega:0<=h');have hq1:=Int.tdiv_le_self h' hg0;have r1:WR .i64 (g.tdiv h'):=ai;by_cases p4:g.tdiv h'>300
         .have q4:(g.tdiv h'>300)=True:=WE p4;apply sR;simp only[go_sem,seval,t1,t7,t8,t9,q1,q5,q2,q3,q4,r1];exact fin _
         .have q4:(g.tdiv h'>300)=False:=O' p4;apply sR;simp only[go_sem,seval,t1,t7,t8,t9,q1,q5,q2,q3,q4,r1];exact fin _
        .have q2:(h'>=1)=False:=O' p2;apply sR;simp only[go_sem,seval,t1,t7,t9,q1,q5,q2];exact fin _
  .have q00:((P.length:Int)>60)=True:=WE;apply sR;simp only[go_sem,seval,c16,hln,hlP,q0,q00];exact finT
 .have q0:((l.length:Int)>30)=True:=WE;apply sR;simp only[go_sem,seval,c16,hln,q0];exact finT
inductive Tr(α:Type) where
 |e
 |n (l:Tr α) (v:α) (r:Tr α)
def CU:Nat->Nat->List Bool
 |0,_=>[]
 |_+1,0=>[]
 |f+1,k+1=>Nat.beq (Nat.mod k 2) 0::CU f (Nat.div k 2)
def pathOf(k:Nat):List Bool:=CU (Nat.succ k) k
def SK{α:Type}(d:α)(f:Nat):List Bool->Tr α->α:=
 @Nat.rec (λ_=>List Bool->Tr α->α) (λ_ _=>d)
  (λ_ ih p t=>@List.casesOn Bool (λ_=>α) p (@Tr.casesOn α (λ_=>α) t d (λ_ v _=>v))
    (λb p'=>@Tr.casesOn α (λ_=>α) t d (λl _ r=>ih p' (@Bool.casesOn (λ_=>Tr α) b r l)))) f
def nB{α:Type}(d:α)(k:Nat)(t:Tr α):α:=SK d (Nat.succ k) (pathOf k) t
def SZ{α:Type}(d v:α)(f:Nat):List Bool->Tr α->Tr α:=
 @Nat.rec (λ_=>List Bool->Tr α->Tr α) (λ_ t=>t)
  (λ_ ih p t=>@List.casesOn Bool (λ_=>Tr α) p (@Tr.casesOn α (λ_=>Tr α) t (.n .e v .e) (λl _ r=>.n l v r))
    (λb p'=>@Tr.casesOn α (λ_=>Tr α) t (@Bool.casesOn (λ_=>Tr α) b (.n .e d (ih p' .e)) (.n (ih p' .e) d .e))
      (λl u r=>@Bool.casesOn (λ_=>Tr α) b (.n l u (ih p' r)) (.n (ih p' l) u r)))) f
def nT{α:Type}(d v:α)(k:Nat)(t:Tr α):Tr α:=SZ d v (Nat.succ k) (pathOf k) t
structure CS where
 s:Tr V
 U:Tr (Option Ob)
 X8:Nat
def CS.sf(cs:CS):Nat->V:=λi=>nB (.WJ []) i cs.s
def stF(U:Tr (Option Ob)):ag:=λi=>nB none i U
def T1(cs:CS)(d:Nat)(v:V):CS:=⟨nT (.WJ []) v d cs.s,cs.U,cs.X8⟩
def CS.put(cs:CS)(d:Option Nat)(v:V):CS:=@Option.casesOn Nat (λ_=>CS) d cs (λd=>T1 cs d v)
def eqQ:Int->Int->Bool
 |.ofNat m,.ofNat n=>Nat.beq m n
 |.negSucc m,.negSucc n=>Nat.beq m n
 |_,_=>false
def leQ:Int->Int->Bool
 |.ofNat m,.ofNat n=>Nat.ble m n
 |.negSucc _,.ofNat _=>true
 |.negSucc m,.negSucc n=>Nat.ble n m
 |.ofNat _,.negSucc _=>false
def SS:Int->Int->Int
 |.ofNat m,.ofNat n=>.ofNat (Nat.add m n)
 |a,b=>a+b
def Ri:Int->Int->Int
 |.ofNat m,.ofNat n=>@Bool.casesOn (λ_=>Int) (Nat.ble n m) (.negSucc (Nat.sub (Nat.sub n m) 1)) (.ofNat (Nat.sub m n))
 |a,b=>a-b
def Q5:Int->Bool
 |.ofNat m=>Nat.ble m 9223372036854775807
 |.negSucc m=>Nat.ble m 9223372036854775807
def O4(k:IntKind)(n:Int):Bool:=match k with
 |.i64=>Q5 n
 |k=>decide (k.wrap n=n)
def gI(k:IntKind)(n:Int):Option V:=@Bool.casesOn (λ_=>Option V) (O4 k n) none (some (.int k n))
def eqK(k k':IntKind):Bool:=decide (k=k')
def QV:IntKind->Bool
 |.i64=>true
 |_=>false
structure FI where
 f:IntKind->Int->Int->Option V
def qK(op:BinOp):FI:=
 match op with
 |.add=>⟨λk a b=>gI k (SS a b)⟩
 |.sub=>⟨λk a b=>gI k (Ri a b)⟩
 |.mul=>⟨λk a b=>gI k (a*b)⟩
 |.quo=>⟨λk a b=>if b=0 then none else gI k (a.tdiv b)⟩
 |.rem=>⟨λk a b=>if b=0 then none else some (.int k (a.tmod b))⟩
 |.eql=>⟨λ_ a b=>some (.bool (eqQ a b))⟩
 |.neq=>⟨λ_ a b=>some (.bool (not (eqQ a b)))⟩
 |.lss=>⟨λ_ a b=>some (.bool (not (leQ b a)))⟩
 |.leq=>⟨λ_ a b=>some (.bool (leQ a b))⟩
 |.gtr=>⟨λ_ a b=>some (.bool (not (leQ a b)))⟩
 |.geq=>⟨λ_ a b=>some (.bool (leQ b a))⟩
 |.and=>⟨λk a b=>dV .and k a b⟩
 |.or=>⟨λk a b=>dV .or k a b⟩
 |.shl=>⟨λk a b=>dV .shl k a b⟩
 |.shr=>⟨λk a b=>dV .shr k a b⟩
 |_=>⟨λ_ _ _=>none⟩
def zU(op:BinOp)(a b:List UInt8):Option V:=
 match op with
 |.add=>@Bool.casesOn (λ_=>Option V) (Nat.ble (a.length+b.length) 9223372036854775807) none (some (.str (a++b)))
 |.eql=>some (.bool (decide (a=b)))
 |.neq=>some (.bool (decide (a≠b)))
 |_=>none
def I3(k k':IntKind):Bool:=@Bool.casesOn (λ_=>Bool) (QV k) (eqK k k') (QV k')
def Se(k:IntKind)(a:Int)(g:IntKind->Int->Int->Option V):V->Option V
 |.int k' b=>@Bool.casesOn (λ_=>Option V) (I3 k k') none (g k a b)
 |_=>none
def Sh(op:BinOp)(a:List UInt8):V->Option V
 |.str b=>zU op a b
 |_=>none
def LK(op:BinOp)(g:IntKind->Int->Int->Option V)(y:V):V->Option V
 |.int k a=>Se k a g y
 |.str a=>Sh op a y
 |_=>none
def SN:V->Option V
 |.int k a=>gI k (0-a)
 |_=>none
def M9(k:IntKind):V->Option V
 |.int _ a=>gI k a
 |_=>none
def Sj:V->Option V
 |.bool b=>some (.bool (!b))
 |_=>none
def Nh(a b:V):V->Option V
 |.bool t=>some (@Bool.casesOn (λ_=>V) t b a)
 |_=>none
def Cw:Int->Option Nat
 |.ofNat m=>some m
 |_=>none
def O6(U:Tr (Option Ob))(Yg:Nat)(x i:V):Option V:=
 match x,i with
 |.own id off len,.int _ j=>match Cw j with
  |some m=>match nB none id U with
   |some ob=>@Bool.casesOn (λ_=>Option V) (Nat.beq ob.sz Yg&&Nat.blt m len) none (some (.ptr id (Nat.add off m) 0))
   |none=>none
  |none=>none
 |.sl sz rows,.int _ j=>match Cw j with
  |some m=>@Bool.casesOn (λ_=>Option V) (Nat.beq sz Yg) none (match rows[m]? with
   |some r=>some (.rp r)
   |none=>none)
  |none=>none
 |_,_=>none
def Ix(U:Tr (Option Ob))(agg:Bool)(sz:Nat)(x:V):Option V:=
 match x with
 |.ptr id i k=>match nB none id U with
  |some ob=>match ob.rows[i]? with
   |some r=>match agg with
    |true=>@Bool.casesOn (λ_=>Option V) (Nat.beq k 0&&Nat.beq r.cells.length sz)
       (@Bool.casesOn (λ_=>Option V) (Nat.ble (Nat.add k sz) r.cells.length) none (some (.agg ((r.cells.drop k).take sz)))) (some (.agg r.cells))
    |false=>r.cells[k]?
   |none=>none
  |none=>none
 |x=>bF (stF U) agg sz x
def IB:V->V->Option V
 |.str s,.int _ j=>match Cw j with
  |some m=>match s[m]? with
   |some b=>some (.int .u8 (Int.ofNat b.toNat))
   |none=>none
  |none=>none
 |_,_=>none
structure Mk where
 var:Bool
 len:Nat
 gone:Option Nat
 ob:Ob
def Ti(e sz:Nat)(x:V):Option Mk:=@Bool.casesOn (λ_=>Option Mk) (Nat.beq x.cells.length sz&&x.stays) none (some ⟨true,0,none,⟨e,sz,[x]⟩⟩)
def FO(e sz:Nat)(xs:List V):Option Mk:=@Bool.casesOn (λ_=>Option Mk) (xs.all λx=>Nat.beq x.cells.length sz&&x.stays) none (some ⟨false,xs.length,none,⟨e,sz,xs⟩⟩)
def mkQ(e sz bytes:Nat)(z:V):V->Option Mk
 |.int k m=>match k with
  |.i64=>match Cw m with
   |some j=>@Bool.casesOn (λ_=>Option Mk) (Nat.ble (j*(bytes+1)) 140737488355328) none (some ⟨false,j,none,⟨e,sz,List.replicate j z⟩⟩)
   |none=>none
  |_=>none
 |_=>none
def E2(U:Tr (Option Ob))(e sz bytes:Nat)(a b:V):Option Mk:=match bV (stF U) e sz a,bJ (stF U) sz b with
 |some (base,WW),some src=>@Bool.casesOn (λ_=>Option Mk) (Nat.ble ((base.length+src.length)*(bytes+1)) 140737488355328) none (some ⟨false,base.length+src.length,WW,⟨e,sz,base++src⟩⟩)
 |_,_=>none
def AA(fl:Nat)(dst:Option Nat)(cs:CS)(m:Mk):Option CS:=
 match m.gone with
 |none=>some (CS.put ⟨cs.s,nT none (some m.ob) cs.X8 cs.U,Nat.succ cs.X8⟩ dst (@Bool.casesOn (λ_=>V) m.var (.own cs.X8 0 m.len) (.ptr cs.X8 0 0)))
 |some d=>@Bool.casesOn (λ_=>Option CS) (Nat.ble fl d) none
    (some (CS.put ⟨cs.s,nT none (some m.ob) cs.X8 (nT none none d cs.U),Nat.succ cs.X8⟩ dst (@Bool.casesOn (λ_=>V) m.var (.own cs.X8 0 m.len) (.ptr cs.X8 0 0))))
inductive Out where
 |nx (cs:CS)
 |ex (id:Nat) (cs:CS)
 |rt (cs:CS)
 |bad
structure Rs where
 v:V
 U:Tr (Option Ob)
 X8:Nat
def nW:=FuncId->List V->Tr (Option Ob)->Nat->Nat->Option Rs
structure BI where
 f:nW->Nat->CS->Option CS
def kj(dst:Option Nat)(g:CS->Option V):BI:=⟨λ_ _ cs=>match g cs with
 |some v=>some (cs.put dst v)
 |none=>none⟩
def Sg(dst:Option Nat)(x:VX):BI:=⟨λ_ _ cs=>some (cs.put dst (x.ev cs.sf))⟩
def Ew(dst:Option Nat)(g:CS->Option Mk):BI:=⟨λ_ fl cs=>match g cs with
 |some m=>AA fl dst cs m
 |none=>none⟩
def D4(dst:Option Nat)(cs:CS):Option Rs->Option CS
 |some r=>some (CS.put ⟨cs.s,r.U,r.X8⟩ dst r.v)
 |none=>none
def zT(dst:Option Nat)(cs:CS):Option Rs->Option CS
 |some r=>@Bool.casesOn (λ_=>Option CS) r.v.eJ none (some (cs.put dst r.v))
 |none=>none
def Ii(draw:Bool)(dst:Option Nat)(fx:VX)(xs:List VX):BI:=match draw with
 |true=>⟨λcall _ cs=>match fx.ev cs.sf with
  |.fn f caps=>zT dst cs (call f (xs.map (·.ev cs.sf)++caps) cs.U cs.X8 cs.X8)
  |_=>none⟩
 |false=>⟨λcall fl cs=>match fx.ev cs.sf with
  |.fn f caps=>D4 dst cs (call f (xs.map (·.ev cs.sf)++caps) cs.U cs.X8 fl)
  |_=>none⟩
def EU(dst:Option Nat)(fl sz:Nat)(xv:V)(cs:CS):V->Option CS
 |.ptr id i0 c=>@Bool.casesOn (λ_=>Option CS) (Nat.ble fl id) none (match nB none id cs.U with
  |some ob=>match ob.rows[i0]? with
   |some r=>match ec r c sz xv with
    |some r'=>some (CS.put ⟨cs.s,nT none (some ⟨ob.elem,ob.sz,ob.rows.set i0 r'⟩) id cs.U,cs.X8⟩ dst (.WJ []))
    |none=>none
   |none=>none
  |none=>none)
 |_=>none
def Dx(dst:Option Nat)(sz:Nat)(xa xv:VX):BI:=⟨λ_ fl cs=>EU dst fl sz (xv.ev cs.sf) cs (xa.ev cs.sf)⟩
def Fy(dst:Option Nat)(fl sz:Nat)(z:V)(cs:CS):V->Option CS
 |.own id off len=>@Bool.casesOn (λ_=>Option CS) (Nat.ble fl id) none (match nB none id cs.U with
  |some ob=>@Bool.casesOn (λ_=>Option CS) (Nat.beq ob.sz sz&&Nat.ble (off+len) ob.rows.length) none
     (some (CS.put ⟨cs.s,nT none (some ⟨ob.elem,ob.sz,ob.rows.take off++List.replicate len z++ob.rows.drop (off+len)⟩) id cs.U,cs.X8⟩ dst (.WJ [])))
  |none=>none)
 |_=>none
def Em(draw:Bool)(dst:Option Nat)(sz:Nat)(z:V)(xv:VX):BI:=match draw with
 |true=>⟨λ_ _ _=>none⟩
 |false=>⟨λ_ fl cs=>Fy dst fl sz z cs (xv.ev cs.sf)⟩
def lC(draw:Bool)(dst:Option Nat)(op:W5):BI:=match op with
 |.W1 x=>Sg dst x
 |.pick c a b=>kj dst λcs=>Nh (a.ev cs.sf) (b.ev cs.sf) (c.ev cs.sf)
 |.bin op x y=>@FI.casesOn (λ_=>BI) (qK op) λg=>kj dst λcs=>LK op g (y.ev cs.sf) (x.ev cs.sf)
 |.not x=>kj dst λcs=>Sj (x.ev cs.sf)
 |.neg x=>kj dst λcs=>SN (x.ev cs.sf)
 |.convI k x=>kj dst λcs=>M9 k (x.ev cs.sf)
 |.ZG Yg x i=>kj dst λcs=>O6 cs.U Yg (x.ev cs.sf) (i.ev cs.sf)
 |.idxS x i=>kj dst λcs=>IB (x.ev cs.sf) (i.ev cs.sf)
 |.load agg sz x=>kj dst λcs=>Ix cs.U agg sz (x.ev cs.sf)
 |.box e sz x=>Ew dst λcs=>Ti e sz (x.ev cs.sf)
 |.alloc e sz z=>Ew dst λ_=>some ⟨true,0,none,⟨e,sz,[z]⟩⟩
 |.fk e sz xs=>Ew dst λcs=>FO e sz (xs.map (·.ev cs.sf))
 |.mk e sz bytes z x=>Ew dst λcs=>mkQ e sz bytes z (x.ev cs.sf)
 |.append e sz bytes a b=>Ew dst λcs=>E2 cs.U e sz bytes (a.ev cs.sf) (b.ev cs.sf)
 |.call f xs=>Ii draw dst f xs
 |.store sz a x=>Dx dst sz a x
 |.clear sz z x=>Em draw dst sz z x
 |op=>kj dst λcs=>aF (stF cs.U) cs.sf op
def Ip(dst:Option Nat)(b:Bool)(B:BI)(call:nW)(fl:Nat)(cs:CS):V->Option CS
 |.bool c=>@Bool.casesOn (λ_=>Option CS) (Bool.xor c b) (B.f call fl cs) (some (cs.put dst (.WJ [])))
 |.WJ []=>some (cs.put dst (.WJ []))
 |.int _ _=>some (cs.put dst (.WJ []))
 |_=>none
def tW(draw:Bool)(i:aD):BI:=match i.g with
 |none=>lC draw i.dst i.op
 |some (x,b)=>⟨λcall fl cs=>Ip i.dst b (lC draw i.dst i.op) call fl cs (x.ev cs.sf)⟩
def oR(draw:Bool)(call:nW)(fl m:Nat):List aD->CS->Out:=
 @Nat.rec (λ_=>List aD->CS->Out) (λ_ _=>.bad)
  (λ_ ih l cs=>@List.casesOn aD (λ_=>Out) l (.nx cs)
    (λi l'=>@BI.casesOn (λ_=>Out) (tW draw i) λf=>@Option.casesOn CS (λ_=>Out) (f call fl cs) .bad (ih l'))) m
def Ku(draw:Bool)(call:nW)(fl:Nat)(l:List aD)(cs:CS):Out:=oR draw call fl 1000 l cs
def Tr.ofL:List V->Nat->Tr V->Tr V
 |[],_,t=>t
 |v::l,k,t=>Tr.ofL l (Nat.succ k) (nT (.WJ []) v k t)
def L5(res:List VR)(cs:CS):Option Rs:=match nP ⟨cs.sf,stF cs.U⟩ res with
 |some v=>some ⟨v,cs.U,cs.X8⟩
 |none=>none
def S1(res:List VR):Out->Option Rs
 |.nx cs=>L5 res cs
 |.rt cs=>L5 res cs
 |_=>none
def evF(run:Nat->bG->CS->Out)(code:FuncId->Option WD):nW:=λf args U X8 fl=>match code f with
 |none=>none
 |some vf=>@Bool.casesOn (λ_=>Option Rs) (Nat.ble args.length vf.n) none (S1 vf.res (run fl vf.code ⟨Tr.ofL args 0 .e,U,X8⟩))
def G1(o:Out)(k:CS->Out):Out:=@Out.casesOn (λ_=>Out) o k (λid cs=>.ex id cs) (λcs=>.rt cs) .bad
def NX(id:Nat)(o:Out):Out:=@Out.casesOn (λ_=>Out) o (λcs=>.nx cs) (λj cs=>@Bool.casesOn (λ_=>Out) (Nat.beq j id) (.ex j cs) (.nx cs)) (λcs=>.rt cs) .bad
def onB(v:V)(a b:Out):Out:=match v with
 |.bool c=>@Bool.casesOn (λ_=>Out) c b a
 |_=>.bad
def evL(code:FuncId->Option WD)(fuel:Nat):Nat->bG->CS->Out:=
 @Nat.rec (λ_=>Nat->bG->CS->Out) (λ_ _ _=>.bad)
  (λ_ ih fl c cs=>match c with
    |.skip=>.nx cs
    |.Za draw l=>Ku draw (evF ih code) fl l cs
    |.seq a b=>G1 (ih fl a cs) λYi=>ih fl b Yi
    |.cond c a b=>onB (c.ev cs.sf) (ih fl a cs) (ih fl b cs)
    |.block id a=>NX id (ih fl a cs)
    |.loop a=>G1 (ih fl a cs) λYi=>ih fl (.loop a) Yi
    |.exit id=>.ex id cs
    |.ret=>.rt cs
    |.ee ..=>.bad
    |.regA ..=>.bad
    |.uM ..=>.bad
    |.bad=>.bad) fuel
def gL{α:Type}(d:α):List Bool->Tr α->α
 |_,.e=>d
 |[],.n _ v _=>v
 |b::p,.n l _ r=>gL d p (if b then l else r)
def sL{α:Type}(d v:α):List Bool->Tr α->Tr α
 |[],.e=>.n .e v .e
 |[],.n l _ r=>.n l v r
 |b::p,.e=>if b then .n (sL d v p .e) d .e else .n .e d (sL d v p .e)
 |b::p,.n l u r=>if b then .n (sL d v p l) u r else .n l u (sL d v p r)
def u9{α:Type}(d:α):∀(f:Nat) (p:List Bool) (t:Tr α),p.length<f->SK d f p t=gL d p t
 |0,_,_,h=>by omega
 |f+1,[],t,_=>by cases t<;>rfl
 |f+1,b::p,t,h=>by
  cases t with
  |e=>rfl
  |n l u r=>
   have ih:=u9 d f p (if b then l else r) (by simpa using h);cases b<;>exact ih
def Al{α:Type}(d v:α):∀(f:Nat) (p:List Bool) (t:Tr α),p.length<f->SZ d v f p t=sL d v p t
 |0,_,_,h=>by omega
 |f+1,[],t,_=>by cases t<;>rfl
 |f+1,b::p,t,h=>by
  have h':p.length<f:=by simpa using h
  cases t with
  |e=>cases b<;>simp only[sL,fG,if_false,if_true]<;>rw[<-Al d v f p _ h']<;>rfl
  |n l u r=>cases b<;>simp only[sL,fG,if_false,if_true]<;>rw[<-Al d v f p _ h']<;>rfl
def RJ{α:Type}(d:α)(p:List Bool):gL d p .e=d:=by cases p<;>rfl
def EZ{α:Type}(d v:α):∀(p q:List Bool) (t:Tr α),gL d q (sL d v p t)=if q=p then v else gL d q t
 |[],[],t=>by cases t<;>simp[sL,gL]
 |[],b::q,t=>by cases t<;>simp[sL,gL,RJ]
 |a::p,[],t=>by cases t<;>cases a<;>simp[sL,gL]
 |a::p,b::q,t=>by
  cases t with
  |e=>
   have ih:=EZ d v p q .e;cases a<;>cases b<;>simp[sL,gL,RJ,ih]
  |n l u r=>
   have ihl:=EZ d v p q l;have ihr:=EZ d v p q r;cases a<;>cases b<;>simp[sL,gL,ihl,ihr]
def zN:List Bool->Nat
 |[]=>0
 |b::p=>2*zN p+(if b then 1 else 2)
def oU:∀(f k:Nat),k<f->zN (CU f k)=k
 |0,_,h=>by omega
 |f+1,0,_=>rfl
 |f+1,k+1,h=>by
  have ih:=oU f (k/2) (by omega);have ih':zN (CU f (k.div 2))=k/2:=ih;simp only[CU,zN,ih'];have h1:Nat.mod k 2=k%2:=rfl;by_cases hk:k%2=0
  .have:Nat.beq (Nat.mod k 2) 0=true:=by rw[h1,hk];rfl
   simp only[this,if_true];omega
  .have Zv:k%2=1:=by omega
   have:Nat.beq (Nat.mod k 2) 0=false:=by rw[h1,Zv];rfl
   simp only[this,fG,if_false];omega
def Tg:∀p:List Bool,p.length<=zN p
 |[]=>Xm _
 |b::p=>by have:=Tg p;simp only[XX,zN];split<;>omega
def mR(k:Nat):(pathOf k).length<k.succ:=by
 have h1:=Tg (pathOf k);have h2:zN (pathOf k)=k:=oU (k+1) k (by omega);omega
def Eo{i k:Nat}(h:pathOf i=pathOf k):i=k:=by
 have h1:zN (pathOf i)=i:=oU (i+1) i (by omega);have h2:zN (pathOf k)=k:=oU (k+1) k (by omega);rw[<-h1,<-h2,h]
def ra{α:Type}(d v:α)(i k:Nat)(t:Tr α):nB d i (nT d v k t)=if i=k then v else nB d i t:=by
 unfold nB nT;rw[u9 _ _ _ _ (mR i),u9 _ _ _ _ (mR i),Al _ _ _ _ _ (mR k),EZ];by_cases h:i=k
 .simp[h]
 .rw[ao h,ao (λe=>h (Eo e))]
def PI{α:Type}(d:α)(i:Nat):nB d i .e=d:=by
 unfold nB;rw[u9 _ _ _ _ (mR i),RJ]
def Ql(cs:CS)(d:Option Nat)(v:V):(cs.put d v).sf=aQ cs.sf d v:=by
 funext i;cases d with
 |none=>rfl
 |some d=>show nB _ i (nT _ v d cs.s)=_;rw[ra];rfl
def IN(cs:CS)(d:Option Nat)(v:V):(cs.put d v).U=cs.U/\(cs.put d v).X8=cs.X8:=by cases d<;>exact⟨rfl,rfl⟩
def uY(U:Tr (Option Ob))(k:Nat)(o:Ob):stF (nT none (some o) k U)=C' (stF U) k o:=by
 funext i;show nB none i _=_;rw[ra];rfl
def L9(U:Tr (Option Ob))(k:Nat):stF (nT none none k U)=del (stF U) k:=by
 funext i;show nB none i _=_;rw[ra];rfl
mutual
def aA(R:Nat->Nat->Prop):V->V->Prop
 |.own id off len,u=>∃YQ,u=.own YQ off len/\R id YQ
 |.ptr id i k,u=>∃YQ,u=.ptr YQ i k/\R id YQ
 |.sl sz rows,u=>∃WM,u=.sl sz WM/\aN R rows WM
 |.rp v,u=>∃v',u=.rp v'/\aA R v v'
 |.fn f caps,u=>∃caps',u=.fn f caps'/\aN R caps caps'
 |.bm f caps,u=>∃caps',u=.bm f caps'/\aN R caps caps'
 |.iface t v,u=>∃v',u=.iface t v'/\aA R v v'
 |.agg c,u=>∃c',u=.agg c'/\aN R c c'
 |.WJ c,u=>∃c',u=.WJ c'/\aN R c c'
 |.undef,u=>u=.undef
 |.int k n,u=>u=.int k n
 |.bool b,u=>u=.bool b
 |.str s,u=>u=.str s
 |.ay,u=>u=.ay
 |.XY,u=>u=.XY
 |.Xu,u=>u=.Xu
 |.Xx,u=>u=.Xx
 |.raw v,u=>u=.raw v
 |.obj v,u=>u=.obj v
 |.gp v,u=>u=.gp v
 |.yl v,u=>∃YQ,u=.yl YQ/\R v YQ
 |.mp v,u=>u=.mp v
def aN(R:Nat->Nat->Prop):List V->List V->Prop
 |[],l=>l=[]
 |v::vs,l=>∃u us,l=u::us/\aA R v u/\aN R vs us
end
section
variable {R R':Nat->Nat->Prop}
mutual
def aA.mono(h:∀a b,R a b->R' a b):∀(v u:V),aA R v u->aA R' v u
 |.own id off len,u,g=>by simp only[aA]at g|-;obtain⟨i,e,r⟩:=g;exact⟨i,e,h _ _ r⟩
 |.ptr id i k,u,g=>by simp only[aA]at g|-;obtain⟨i,e,r⟩:=g;exact⟨i,e,h _ _ r⟩
 |.sl sz rows,u,g=>by simp only[aA]at g|-;obtain⟨i,e,r⟩:=g;exact⟨i,e,aN.mono h _ _ r⟩
 |.rp v,u,g=>by simp only[aA]at g|-;obtain⟨i,e,r⟩:=g;exact⟨i,e,aA.mono h _ _ r⟩
 |.fn f caps,u,g=>by simp only[aA]at g|-;obtain⟨i,e,r⟩:=g;exact⟨i,e,aN.mono h _ _ r⟩
 |.bm f caps,u,g=>by simp only[aA]at g|-;obtain⟨i,e,r⟩:=g;exact⟨i,e,aN.mono h _ _ r⟩
 |.iface t v,u,g=>by simp only[aA]at g|-;obtain⟨i,e,r⟩:=g;exact⟨i,e,aA.mono h _ _ r⟩
 |.agg c,u,g=>by simp only[aA]at g|-;obtain⟨i,e,r⟩:=g;exact⟨i,e,aN.mono h _ _ r⟩
 |.WJ c,u,g=>by simp only[aA]at g|-;obtain⟨i,e,r⟩:=g;exact⟨i,e,aN.mono h _ _ r⟩
 |.undef,u,g=>by simpa[aA]using g
 |.int k n,u,g=>by simpa[aA]using g
 |.bool b,u,g=>by simpa[aA]using g
 |.str s,u,g=>by simpa[aA]using g
 |.ay,u,g=>by simpa[aA]using g
 |.XY,u,g=>by simpa[aA]using g
 |.Xu,u,g=>by simpa[aA]using g
 |.Xx,u,g=>by simpa[aA]using g
 |.raw v,u,g=>by simpa[aA]using g
 |.obj v,u,g=>by simpa[aA]using g
 |.gp v,u,g=>by simpa[aA]using g
 |.yl v,u,g=>by simp only[aA]at g|-;obtain⟨i,e,r⟩:=g;exact⟨i,e,h _ _ r⟩
 |.mp v,u,g=>by simpa[aA]using g
def aN.mono(h:∀a b,R a b->R' a b):∀(v u:List V),aN R v u->aN R' v u
 |[],u,g=>by simpa[aN]using g
 |v::vs,u,g=>by
  simp only[aN]at g|-;obtain⟨a,as1,e,r,rs⟩:=g;exact⟨a,as1,e,aA.mono h _ _ r,aN.mono h _ _ rs⟩
end
mutual
def eS:∀(v:V),v.eJ=true->aA R v v
 |.own ..,g=>by simp[V.eJ]at g
 |.ptr ..,g=>by simp[V.eJ]at g
 |.sl sz rows,g=>by simp only[V.eJ]at g;simp only[aA];exact⟨rows,rfl,fV rows g⟩
 |.rp v,g=>by simp only[V.eJ]at g;simp only[aA];exact⟨v,rfl,eS v g⟩
 |.fn f caps,g=>by simp only[V.eJ]at g;simp only[aA];exact⟨caps,rfl,fV caps g⟩
 |.bm f caps,g=>by simp only[V.eJ]at g;simp only[aA];exact⟨caps,rfl,fV caps g⟩
 |.iface t v,g=>by simp only[V.eJ]at g;simp only[aA];exact⟨v,rfl,eS v g⟩
 |.agg c,g=>by simp only[V.eJ]at g;simp only[aA];exact⟨c,rfl,fV c g⟩
 |.WJ c,g=>by simp only[V.eJ]at g;simp only[aA];exact⟨c,rfl,fV c g⟩
 |.undef,_=>by simp[aA]
 |.int k n,_=>by simp[aA]
 |.bool b,_=>by simp[aA]
 |.str s,_=>by simp[aA]
 |.ay,_=>by simp[aA]
 |.XY,_=>by simp[aA]
 |.Xu,_=>by simp[aA]
 |.Xx,_=>by simp[aA]
 |.raw v,_=>by simp[aA]
 |.obj v,_=>by simp[aA]
 |.gp v,_=>by simp[aA]
 |.yl v,g=>by simp[V.eJ]at g
 |.mp v,_=>by simp[aA]
def fV:∀(l:List V),gz l=true->aN R l l
 |[],_=>by simp[aN]
 |v::vs,g=>by
  simp only[gz,Ba]at g;simp only[aN];exact⟨v,vs,rfl,eS v g.1,fV vs g.2⟩
end
mutual
def qZ:∀(v u:V),v.eJ=true->aA R v u->u=v
 |.own ..,_,g,_=>by simp[V.eJ]at g
 |.ptr ..,_,g,_=>by simp[V.eJ]at g
 |.sl sz rows,u,g,h=>by simp only[V.eJ]at g;simp only[aA]at h;obtain⟨r,rfl,h⟩:=h;rw[mc rows r g h]
 |.rp v,u,g,h=>by simp only[V.eJ]at g;simp only[aA]at h;obtain⟨r,rfl,h⟩:=h;rw[qZ v r g h]
 |.fn f caps,u,g,h=>by simp only[V.eJ]at g;simp only[aA]at h;obtain⟨r,rfl,h⟩:=h;rw[mc caps r g h]
 |.bm f caps,u,g,h=>by simp only[V.eJ]at g;simp only[aA]at h;obtain⟨r,rfl,h⟩:=h;rw[mc caps r g h]
 |.iface t v,u,g,h=>by simp only[V.eJ]at g;simp only[aA]at h;obtain⟨r,rfl,h⟩:=h;rw[qZ v r g h]
 |.agg c,u,g,h=>by simp only[V.eJ]at g;simp only[aA]at h;obtain⟨r,rfl,h⟩:=h;rw[mc c r g h]
 |.WJ c,u,g,h=>by simp only[V.eJ]at g;simp only[aA]at h;obtain⟨r,rfl,h⟩:=h;rw[mc c r g h]
 |.undef,u,_,h=>by simpa[aA]using h
 |.int k n,u,_,h=>by simpa[aA]using h
 |.bool b,u,_,h=>by simpa[aA]using h
 |.str s,u,_,h=>by simpa[aA]using h
 |.ay,u,_,h=>by simpa[aA]using h
 |.XY,u,_,h=>by simpa[aA]using h
 |.Xu,u,_,h=>by simpa[aA]using h
 |.Xx,u,_,h=>by simpa[aA]using h
 |.raw v,u,_,h=>by simpa[aA]using h
 |.obj v,u,_,h=>by simpa[aA]using h
 |.gp v,u,_,h=>by simpa[aA]using h
 |.yl v,_,g,_=>by simp[V.eJ]at g
 |.mp v,u,_,h=>by simpa[aA]using h
def mc:∀(l m:List V),gz l=true->aN R l m->m=l
 |[],m,_,h=>by simpa[aN]using h
 |v::vs,m,g,h=>by
  simp only[gz,Ba]at g;simp only[aN]at h;obtain⟨u,us,rfl,h1,h2⟩:=h;rw[qZ v u g.1 h1,mc vs us g.2 h2]
end
def aN.jq{l:List V}:aN R [] l↔l=[]:=by simp[aN]
def aN.cp{v:V}{vs l:List V}:aN R (v::vs) l↔∃u us,l=u::us/\aA R v u/\aN R vs us:=by simp[aN]
def aN.length:∀{l m:List V},aN R l m->m.length=l.length
 |[],_,h=>by rw[aN.jq]at h;simp[h]
 |v::vs,_,h=>by obtain⟨u,us,rfl,_,h2⟩:=aN.cp.1 h;simp[h2.length]
def aN.get:∀{l m:List V},aN R l m->∀{i:Nat} {v:V},l[i]?=some v->∃u,m[i]?=some u/\aA R v u
 |[],_,_,i,v,hv=>by simp at hv
 |v::vs,_,h,i,x,hv=>by
  obtain⟨u,us,rfl,h1,h2⟩:=aN.cp.1 h;cases i with
  |zero=>simp at hv;subst hv;exact⟨u,by simp,h1⟩
  |succ i=>simp at hv;simpa using h2.get hv
def aN.append:∀{l m l' m':List V},aN R l m->aN R l' m'->aN R (l++l') (m++m')
 |[],_,_,_,h,h'=>by rw[aN.jq]at h;subst h;simpa using h'
 |v::vs,_,_,_,h,h'=>by
  obtain⟨u,us,rfl,h1,h2⟩:=aN.cp.1 h;exact aN.cp.2 ⟨u,us++_,by simp,h1,h2.append h'⟩
def aN.take:∀{l m:List V},aN R l m->∀i,aN R (l.take i) (m.take i)
 |[],_,h,i=>by rw[aN.jq]at h;subst h;simp[aN]
 |v::vs,_,h,i=>by
  obtain⟨u,us,rfl,h1,h2⟩:=aN.cp.1 h;cases i with
  |zero=>simp[aN]
  |succ i=>exact aN.cp.2 ⟨u,us.take i,by simp,h1,h2.take i⟩
def aN.drop:∀{l m:List V},aN R l m->∀i,aN R (l.drop i) (m.drop i)
 |[],_,h,i=>by rw[aN.jq]at h;subst h;simp[aN]
 |v::vs,_,h,i=>by
  obtain⟨u,us,rfl,h1,h2⟩:=aN.cp.1 h;cases i with
  |zero=>exact aN.cp.2 ⟨u,us,by simp,h1,h2⟩
  |succ i=>simpa using h2.drop i
def aN.set:∀{l m:List V},aN R l m->∀(i:Nat) {v u:V},aA R v u->aN R (l.set i v) (m.set i u)
 |[],_,h,i,_,_,_=>by rw[aN.jq]at h;subst h;simp[aN]
 |v::vs,_,h,i,x,y,hx=>by
  obtain⟨u,us,rfl,h1,h2⟩:=aN.cp.1 h;cases i with
  |zero=>exact aN.cp.2 ⟨y,us,by simp,hx,h2⟩
  |succ i=>exact aN.cp.2 ⟨u,us.set i y,by simp,h1,h2.set i hx⟩
def aN.replicate{v u:V}(h:aA R v u):∀n,aN R (List.replicate n v) (List.replicate n u)
 |0=>by simp[aN]
 |n+1=>aN.cp.2 ⟨u,List.replicate n u,by simp[List.replicate_succ],h,aN.replicate h n⟩
def aN.one{v u:V}(h:aA R v u):aN R [v] [u]:=aN.cp.2 ⟨u,[],rfl,h,by simp[aN]⟩
def aA.lG{k:IntKind}{n:Int}{u:V}:aA R (.int k n) u↔u=.int k n:=by simp[aA]
def aA.oO{b:Bool}{u:V}:aA R (.bool b) u↔u=.bool b:=by simp[aA]
def aA.vk{b:List UInt8}{u:V}:aA R (.str b) u↔u=.str b:=by simp[aA]
def aA.rR{b:List V}{u:V}:aA R (.agg b) u↔∃c,u=.agg c/\aN R b c:=by simp[aA]
def aA.agg{l m:List V}(h:aN R l m):aA R (.agg l) (.agg m):=aA.rR.2 ⟨m,rfl,h⟩
def aA.rp{l m:V}(h:aA R l m):aA R (.rp l) (.rp m):=by simp only[aA];exact⟨m,rfl,h⟩
def aA.cells{v u:V}(h:aA R v u):aN R v.cells u.cells:=by
 cases v<;>simp only[aA]at h
 case agg c=>obtain⟨c',rfl,h⟩:=h;simpa[V.cells]using h
 all_goals first
  |(subst h;exact aN.one (by simp[aA]))
  |(obtain⟨c,rfl,h⟩:=h;exact aN.one (by simp only[aA];exact⟨_,rfl,h⟩))
def aA.stays{v u:V}(h:aA R v u):u.stays=v.stays:=by
 cases v<;>simp only[aA]at h<;>first
  |(subst h;rfl)
  |(obtain⟨c,rfl,h⟩:=h;rfl)
end
def Lv(R:Nat->Nat->Prop)(Zc U:ag):Prop:=∀c a o,R c a->Zc c=some o->∃WM,U a=some ⟨o.elem,o.sz,WM⟩/\aN R o.rows WM
def Lv.sup{R:Nat->Nat->Prop}{Zc U Z1:ag}(h:Lv R Zc U)(hs:aa U Z1):Lv R Zc Z1:=λc a o hc ho=>by
 obtain⟨WM,h1,h2⟩:=h c a o hc ho;exact⟨WM,hs _ _ h1,h2⟩
structure qG(K:ag)(fl:Nat)(R:Nat->Nat->Prop)(Zc:ag)(X8:Nat)(U:ag):Prop where
 dom:∀c a,R c a->c<X8
 live:Lv R Zc U
 inj:∀c c' a o o',R c a->R c' a->Zc c=some o->Zc c'=some o'->c=c'
 fn:∀c a a',R c a->R c a'->a=a'
 lT:aa K U
 kfl:∀a o c oc,K a=some o->R c a->Zc c=some oc->c<fl
section
variable {R:Nat->Nat->Prop} {K Zc U:ag} {fl X8:Nat}
def qG.write(h:qG K fl R Zc X8 U){c a:Nat}{o:Ob}(hc:R c a)(ho:Zc c=some o)(hf:fl<=c){rows WM:List V}(hr:aN R rows WM):
 qG K fl R (C' Zc c ⟨o.elem,o.sz,rows⟩) X8 (C' U a ⟨o.elem,o.sz,WM⟩):=by
 have hlive:∀i x,C' Zc c ⟨o.elem,o.sz,rows⟩ i=some x->∃y,Zc i=some y:=λi x hx=>by
  by_cases e:i=c
  .rw[e];exact⟨o,ho⟩
  .rw[ae e]at hx;exact⟨x,hx⟩
 refine⟨h.dom,?_,?_,?_,?_,?_⟩
 .intro c1 a1 o1 h1 h2;by_cases e:c1=c
  .subst e;have:a1=a:=h.fn c1 a1 a h1 hc;subst this;rw[af]at h2;simp only[aI]at h2;subst h2;exact⟨WM,af,hr⟩
  .rw[ae e]at h2;have W6:a1≠a:=λe'=>by subst e';exact e (h.inj c1 c a1 o1 o h1 hc h2 ho)
   rw[ae W6];exact h.live c1 a1 o1 h1 h2
 .intro c1 c2 a1 o1 o2 h1 h2 h3 h4;obtain⟨y,hy⟩:=hlive _ _ h3;obtain⟨z,hz⟩:=hlive _ _ h4;exact h.inj c1 c2 a1 y z h1 h2 hy hz
 .exact h.fn
 .intro i x hx;have W6:i≠a:=λe=>by subst e;have:=h.kfl i x c o hx hc ho;omega
  rw[ae W6];exact h.lT i x hx
 .intro a1 o1 c1 oc h1 h2 h3;obtain⟨y,hy⟩:=hlive _ _ h3;exact h.kfl a1 o1 c1 y h1 h2 hy
def qG.rem(h:qG K fl R Zc X8 U){c a:Nat}{o:Ob}(hc:R c a)(ho:Zc c=some o)(hf:fl<=c):
 qG K fl R (del Zc c) X8 (del U a):=by
 have hlive:∀i x,del Zc c i=some x->i≠c/\Zc i=some x:=λi x hx=>by
  by_cases e:i=c
  .subst e;simp[Vc.del]at hx
  .rw[de e]at hx;exact⟨e,hx⟩
 refine⟨h.dom,?_,?_,?_,?_,?_⟩
 .intro c1 a1 o1 h1 h2;obtain⟨e,h2⟩:=hlive _ _ h2;have W6:a1≠a:=λe'=>by subst e';exact e (h.inj c1 c a1 o1 o h1 hc h2 ho)
  rw[de W6];exact h.live c1 a1 o1 h1 h2
 .intro c1 c2 a1 o1 o2 h1 h2 h3 h4;exact h.inj c1 c2 a1 o1 o2 h1 h2 (hlive _ _ h3).2 (hlive _ _ h4).2
 .exact h.fn
 .intro i x hx;have W6:i≠a:=λe=>by subst e;have:=h.kfl i x c o hx hc ho;omega
  rw[de W6];exact h.lT i x hx
 .intro a1 o1 c1 oc h1 h2 h3;exact h.kfl a1 o1 c1 oc h1 h2 (hlive _ _ h3).2
def ext(R:Nat->Nat->Prop)(c a:Nat):Nat->Nat->Prop:=λx y=>R x y\/(x=c/\y=a)
def AS(c a:Nat):∀x y,R x y->ext R c a x y:=λ_ _ h=>.inl h
def qG.new(h:qG K fl R Zc X8 U){i:Nat}(hi:U i=none){ob:Ob}{WM:List V}(hr:aN R ob.rows WM):
 qG K fl (ext R X8 i) (C' Zc X8 ob) (X8+1) (C' U i ⟨ob.elem,ob.sz,WM⟩):=by
 have H':∀c a,R c a->c≠X8:=λc a hc=>by have:=h.dom c a hc;omega
 have hold:∀c a o,R c a->C' Zc X8 ob c=some o->Zc c=some o/\a≠i:=λc a o hc ho=>by
  rw[ae (H' c a hc)]at ho;refine⟨ho,λe=>?_⟩;subst e;obtain⟨r,hr,_⟩:=h.live c a o hc ho;rw[hi]at hr;cases hr
 refine⟨?_,?_,?_,?_,h.lT.C' hi,?_⟩
 .rintro c a (hc|⟨rfl,rfl⟩)
  .have:=h.dom c a hc;omega
  .omega
 .rintro c a o (hc|⟨rfl,rfl⟩) ho
  .obtain⟨h1,h2⟩:=hold c a o hc ho;obtain⟨r,h3,h4⟩:=h.live c a o hc h1;rw[ae h2];exact⟨r,h3,aN.mono (AS X8 i) _ _ h4⟩
  .rw[af]at ho;simp only[aI]at ho;subst ho;exact⟨WM,af,aN.mono (AS _ _) _ _ hr⟩
 .rintro c c' a o o' (hc|⟨rfl,rfl⟩) (hc'|⟨rfl,e⟩) ho ho'
  .exact h.inj c c' a o o' hc hc' (hold _ _ _ hc ho).1 (hold _ _ _ hc' ho').1
  .exact absurd e (hold _ _ _ hc ho).2
  .exact absurd rfl (hold _ _ _ hc' ho').2
  .rfl
 .rintro c a a' (hc|⟨rfl,rfl⟩) (hc'|⟨e,rfl⟩)
  .exact h.fn c a a' hc hc'
  .exact absurd e (H' _ _ hc)
  .exact absurd rfl (H' _ _ hc')
  .rfl
 .rintro a o c oc hk (hc|⟨rfl,rfl⟩) ho
  .exact h.kfl a o c oc hk hc (hold _ _ _ hc ho).1
  .have:=h.lT a o hk;rw[hi]at this;cases this
def okX:VX->Bool
 |.t _=>true
 |.c v=>v.eJ
def sW(op:W5):Bool:=op.xs.all okX&&(match op with
 |.alloc _ _ z=>z.eJ
 |.build zero _=>gz zero
 |.clear _ z _=>z.eJ
 |.mk _ _ _ z _=>z.eJ
 |.more (.tas _ _ z) _=>z.eJ
 |_=>true)
def rz(i:aD):Bool:=sW i.op&&(match i.g with
 |some (x,_)=>okX x
 |none=>true)
def jj:bG->Bool
 |.Za _ l=>l.all rz
 |.seq a b=>jj a&&jj b
 |.cond c a b=>okX c&&(jj a&&jj b)
 |.block _ a=>jj a
 |.loop a=>jj a
 |_=>true
def EG:VR->Bool
 |.tmp x=>okX x
 |.cell _ _ x=>okX x
 |.bad=>true
def OW(f:WD):Bool:=jj f.code&&f.res.all EG
variable {s s':Nat->V}
def fK(hs:∀i,aA R (s i) (s' i)){x:VX}(hx:okX x=true):aA R (x.ev s) (x.ev s'):=by
 cases x with
 |t n=>exact hs n
 |c v=>exact eS v hx
def pn(hs:∀i,aA R (s i) (s' i)):∀{xs:List VX},xs.all okX=true->aN R (xs.map (·.ev s)) (xs.map (·.ev s'))
 |[],_=>by simp[aN]
 |x::xs,h=>by
  simp only[nJ,Ba]at h;exact aN.cp.2 ⟨_,_,rfl,fK hs h.1,pn hs h.2⟩
def B3{op:BinOp}{k:IntKind}{a b:Int}{v:V}(h:dV op k a b=some v):v.eJ=true:=by
 unfold dV at h;split at h<;>first
  |(simp only[aI]at h;subst h;rfl)
  |(split at h<;>first|(simp only[aI]at h;subst h;rfl)|cases h)
  |cases h
def Bi{op:BinOp}{a b:List UInt8}{v:V}(h:qu op a b=some v):v.eJ=true:=by
 unfold qu at h;split at h<;>first
  |(simp only[aI]at h;subst h;rfl)
  |cases h
def Jr{op:BinOp}{a b a' b' v:V}(ha:aA R a a')(hb:aA R b b')(h:yi op a b=some v):a'=a/\b'=b/\v.eJ=true:=by
 unfold yi at h;split at h
 .simp only[aA]at ha hb;split at h
  .exact⟨ha,hb,B3 h⟩
  .cases h
 .simp only[aA]at ha hb;exact⟨ha,hb,Bi h⟩
 .cases h
def Jj{b:Bool}{x x' v:V}(hx:aA R x x')(h:cP b x=some v):∃v',cP b x'=some v'/\aA R v v':=by
 unfold cP at h;split at h<;>simp only[aI,reduceCtorEq]at h<;>simp only[aA]at hx<;>subst h
 .obtain⟨i,rfl,_⟩:=hx;exact⟨_,rfl,by simp[aA]⟩
 .obtain⟨i,rfl,hr⟩:=hx;exact⟨_,rfl,by simp[aA,hr.length]⟩
 .subst hx;exact⟨_,rfl,by simp[aA]⟩
 .subst hx;exact⟨_,rfl,by simp[aA]⟩
def j7{agg:Bool}{off sz:Nat}{vs us:List V}{v:V}(h:aN R vs us)(hv:cZ agg off sz vs=some v):∃v',cZ agg off sz us=some v'/\aA R v v':=by
 unfold cZ at hv|-;cases agg
 .simpa using h.get hv
 .simp only[if_true,aI]at hv|-;subst hv;exact⟨_,rfl,aA.agg ((h.drop off).take sz)⟩
def I2{agg:Bool}{off sz:Nat}{x x' v:V}(hx:aA R x x')(h:Gd agg off sz x=some v):∃v',Gd agg off sz x'=some v'/\aA R v v':=by
 unfold Gd at h;split at h
 .obtain⟨c,rfl,hr⟩:=aA.rR.1 hx;exact j7 hr h
 .cases h
def GI{agg:Bool}{off sz:Nat}{x x' v:V}(hx:aA R x x')(h:lk agg off sz x=some v):∃v',lk agg off sz x'=some v'/\aA R v v':=by
 unfold lk at h;split at h
 .simp only[aA]at hx;obtain⟨i,rfl,hr⟩:=hx;simp only[aI]at h;subst h;exact⟨_,rfl,by simp only[aA];exact⟨i,rfl,hr⟩⟩
 .simp only[aA]at hx;obtain⟨u,rfl,hr⟩:=hx;simp only[Zq8]at h;obtain⟨w,hw,rfl⟩:=h;obtain⟨w',h1,h2⟩:=j7 hr.cells hw;exact⟨.rp w',by simp[lk,h1],aA.rp h2⟩
 .cases h
def GD(hm:Lv R Zc U){Yg:Nat}{x i x' i' v:V}(hx:aA R x x')(hi:aA R i i')(h:bo Zc Yg x i=some v):∃v',bo U Yg x' i'=some v'/\aA R v v':=by
 unfold bo at h;split at h
 .simp only[aA]at hx hi;obtain⟨a,rfl,ha⟩:=hx;subst hi;split at h
  .rename_i ob Xz;obtain⟨WM,h1,h2⟩:=hm _ _ _ ha Xz;split at h
   .rename_i hc;simp only[aI]at h;subst h;refine⟨_,?_,by simp only[aA];exact⟨a,rfl,ha⟩⟩;simp only[bo,h1];rw[aq hc]
   .cases h
  .cases h
 .simp only[aA]at hx hi;obtain⟨WM,rfl,hr⟩:=hx;subst hi;split at h
  .rename_i hc;split at h
   .rename_i r hrr;simp only[aI]at h;subst h;obtain⟨u,h1,h2⟩:=hr.get hrr;refine⟨.rp u,?_,aA.rp h2⟩;simp only[bo,h1];rw[aq hc]
   .cases h
  .cases h
 .cases h
def Ep{agg:Bool}{n Yg:Nat}{x i x' i' v:V}(hx:aA R x x')(hi:aA R i i')(h:mS agg n Yg x i=some v):∃v',mS agg n Yg x' i'=some v'/\aA R v v':=by
 unfold mS at h;split at h
 .simp only[aA]at hx hi;obtain⟨a,rfl,ha⟩:=hx;subst hi;split at h
  .rename_i hc;simp only[aI]at h;subst h;exact⟨_,by simp only[mS];rw[aq hc],by simp only[aA];exact⟨a,rfl,ha⟩⟩
  .cases h
 .simp only[aA]at hx hi;obtain⟨u,rfl,hr⟩:=hx;subst hi;split at h
  .rename_i hc;simp only[Zq8]at h;obtain⟨w,hw,rfl⟩:=h;obtain⟨w',h1,h2⟩:=j7 hr.cells hw;exact⟨.rp w',by simp only[mS];rw[aq hc,h1];rfl,aA.rp h2⟩
  .cases h
 .cases h
def Gf{agg:Bool}{n Yg:Nat}{x i x' i' v:V}(hx:aA R x x')(hi:aA R i i')(h:uu agg n Yg x i=some v):∃v',uu agg n Yg x' i'=some v'/\aA R v v':=by
 unfold uu at h;split at h
 .obtain⟨c,rfl,hr⟩:=aA.rR.1 hx;rw[aA.lG]at hi;subst hi;split at h
  .rename_i hc;obtain⟨w',h1,h2⟩:=j7 hr h;exact⟨w',by simp only[uu];rw[aq hc,h1],h2⟩
  .cases h
 .cases h
def GP{x i x' i' v:V}(hx:aA R x x')(hi:aA R i i')(h:rF x i=some v):∃v',rF x' i'=some v'/\aA R v v':=by
 have h0:=h;unfold rF at h;split at h
 .rw[aA.vk]at hx;rw[aA.lG]at hi;subst hx hi;refine⟨v,h0,?_⟩;split at h
  .split at h
   .simp only[aI]at h;subst h;simp[aA]
   .cases h
  .cases h
 .cases h
def yQ(hm:Lv R Zc U){agg:Bool}{sz:Nat}{x x' v:V}(hx:aA R x x')(h:bF Zc agg sz x=some v):∃v',bF U agg sz x'=some v'/\aA R v v':=by
 unfold bF at h;split at h
 .simp only[aA]at hx;obtain⟨a,rfl,ha⟩:=hx;split at h
  .rename_i ob Xz;obtain⟨WM,h1,h2⟩:=hm _ _ _ ha Xz;split at h
   .rename_i r hr;obtain⟨r',h3,h4⟩:=h2.get hr;have hl:=h4.cells.length;simp only[bF,h1,h3,hl];cases agg
    .simp only[fG,if_false]at h|-;exact h4.cells.get h
    .simp only[if_true]at h|-;split at h
     .rename_i hc;simp only[aI]at h;subst h;exact⟨_,by rw[aq hc],aA.agg h4.cells⟩
     .split at h
      .rename_i hc hc';rw[ao hc,aq hc'];simp only[aI]at h;subst h;exact⟨_,rfl,aA.agg ((h4.cells.drop _).take _)⟩
      .cases h
   .cases h
  .cases h
 .simp only[aA]at hx;obtain⟨u,rfl,hr⟩:=hx;rename_i w;have hl:=hr.cells.length;cases agg
  .simp only[fG,if_false]at h;split at h
   .cases h
   .simp only[aI]at h;subst h;rename_i hna;refine⟨u,?_,hr⟩;cases u<;>simp only[bF,fG,if_false];cases w<;>simp only[aA]at hr<;>simp at hr hna
  .simp only[if_true]at h;split at h
   .rename_i hc;simp only[aI]at h;subst h;refine⟨_,?_,aA.agg hr.cells⟩;simp only[bF,hl,if_true];rw[aq hc]
   .cases h
 .cases h
def EB{d:Int}:∀{o o':Option V},(match o,o' with|none,none=>True|some x,some x'=>aA R x x'|_,_=>False)->∀{j:Int},bX d o=some j->bX d o'=some j
 |none,none,_,j,h=>h
 |some x,some x',hx,j,h=>by
  simp only at hx;cases x<;>simp only[bX]at h<;>first|cases h|skip
  rw[aA.lG]at hx;subst hx;rfl
 |none,some _,hx,_,_=>hx.elim
 |some _,none,hx,_,_=>hx.elim
def DD(hm:Lv R Zc U){Yg:Nat}{x x' v:V}{lo hi mx lo' hi' mx':Option V}(hx:aA R x x')
 (h1:∀d j,bX d lo=some j->bX d lo'=some j)(h2:∀d j,bX d hi=some j->bX d hi'=some j)(h3:∀d j,bX d mx=some j->bX d mx'=some j)
 (h:eK Zc Yg x lo hi mx=some v):∃v',eK U Yg x' lo' hi' mx'=some v'/\aA R v v':=by
 unfold eK at h;split at h
 .simp only[aA]at hx;obtain⟨a,rfl,ha⟩:=hx;split at h
  .rename_i l hh m e1 e2 e3;split at h
   .rename_i hc;simp only[aI]at h;subst h;have Zb:yu U a Yg=true:=by
     have hz:=hc.2.2.2.2;unfold yu at hz|-;split at hz
     .rename_i ob Xz;obtain⟨WM,g1,g2⟩:=hm _ _ _ ha Xz;rw[g1];exact hz
     .cases hz
    refine⟨_,?_,by simp only[aA];exact⟨a,rfl,ha⟩⟩;simp only[eK,h1 _ _ e1,h2 _ _ e2,h3 _ _ e3];rw[aq ⟨hc.1,hc.2.1,hc.2.2.1,hc.2.2.2.1,Zb⟩]
   .cases h
  .cases h
 .simp only[aA]at hx;obtain⟨WM,rfl,hr⟩:=hx;have hl:=hr.length;split at h
  .rename_i l hh m e1 e2 e3;split at h
   .rename_i hc;simp only[aI]at h;subst h;refine⟨.sl _ ((WM.drop l.toNat).take (hh.toNat-l.toNat)),?_,by simp only[aA];exact⟨_,rfl,(hr.drop _).take _⟩⟩;simp only[eK,h1 _ _ e1,hl,h2 _ _ e2,h3 _ _ e3];rw[aq hc]
   .cases h
  .cases h
 .simp only[aA]at hx;subst hx;split at h
  .rename_i l hh m e1 e2 e3;split at h
   .rename_i hc;simp only[aI]at h;subst h;refine⟨.ay,?_,by simp[aA]⟩;simp only[eK,h1 _ _ e1,h2 _ _ e2,h3 _ _ e3];rw[aq hc]
   .cases h
  .cases h
 .cases h
def A4{x x' v:V}{lo hi lo' hi':Option V}(hx:aA R x x')
 (h1:∀d j,bX d lo=some j->bX d lo'=some j)(h2:∀d j,bX d hi=some j->bX d hi'=some j)
 (h:lj x lo hi=some v):∃v',lj x' lo' hi'=some v'/\aA R v v':=by
 unfold lj at h;split at h
 .rw[aA.vk]at hx;subst hx;split at h
  .rename_i l hh e1 e2;split at h
   .rename_i hc;simp only[aI]at h;subst h;refine⟨_,?_,aA.vk.2 rfl⟩;simp only[lj,h1 _ _ e1,h2 _ _ e2];rw[aq hc]
   .cases h
  .cases h
 .cases h
def xW{x x' v:V}(hx:aA R x x')(h:ir x=some v):∃v',ir x'=some v'/\aA R v v':=by
 unfold ir at h;split at h<;>first|cases h|skip
 all_goals (have hx0:=hx;simp only[aA]at hx;obtain⟨i,rfl,_⟩:=hx;exact⟨_,rfl,hx0⟩)
def Hl{neg:Bool}{x y x' y' v:V}(hx:aA R x x')(hy:aA R y y')(h:binBV neg x y=some v):∃v',binBV neg x' y'=some v'/\aA R v v':=by
 have h0:=h;unfold binBV at h;split at h
 .rw[aA.oO]at hx hy;subst hx hy;refine⟨v,h0,?_⟩;simp only[aI]at h;subst h;simp[aA]
 .cases h
def BF{m:Bool}{x y x' y' v:V}(hx:aA R x x')(hy:aA R y y')(h:mU m x y=some v):∃v',mU m x' y'=some v'/\aA R v v':=by
 have h0:=h;unfold mU at h;split at h
 .rw[aA.lG]at hx hy;subst hx hy;refine⟨v,h0,?_⟩;split at h
  .simp only[aI]at h;subst h;simp[aA]
  .cases h
 .cases h
def DQ{x y x' y':V}{b:Bool}(hx:aA R x x')(hy:aA R y y')(h:jg x y=some b):x'=x/\y'=y:=by
 unfold jg at h;split at h<;>first|cases h|skip
 all_goals simp only[aA]at hx hy
 all_goals exact⟨hx,hy⟩
def tD:∀{l m l' m':List V} {b:Bool},aN R l l'->aN R m m'->fp l m=some b->l'=l/\m'=m
 |[],[],_,_,_,h1,h2,_=>by rw[aN.jq]at h1 h2;exact⟨h1,h2⟩
 |v::vs,u::us,_,_,b,h1,h2,h=>by
  obtain⟨v',vs',rfl,g1,g2⟩:=aN.cp.1 h1;obtain⟨u',us',rfl,g3,g4⟩:=aN.cp.1 h2;simp only[fp]at h;split at h
  .rename_i e1 e2;obtain⟨rfl,rfl⟩:=DQ g1 g3 e1;obtain⟨rfl,rfl⟩:=tD g2 g4 e2;exact⟨rfl,rfl⟩
  .cases h
 |[],_::_,_,_,_,_,_,h=>by simp[fp]at h
 |_::_,[],_,_,_,_,_,h=>by simp[fp]at h
def IX{neg:Bool}{ks:List Nat}{x y x' y' v:V}(hx:aA R x x')(hy:aA R y y')(h:ng neg ks x y=some v):∃v',ng neg ks x' y'=some v'/\aA R v v':=by
 have h0:=h;unfold ng at h;split at h
 .obtain⟨c,rfl,g1⟩:=aA.rR.1 hx;obtain⟨d,rfl,g2⟩:=aA.rR.1 hy;split at h
  .split at h
   .rename_i e;obtain⟨rfl,rfl⟩:=tD g1 g2 e;refine⟨v,h0,?_⟩;simp only[aI]at h;subst h;simp[aA]
   .cases h
  .cases h
 .cases h
def tR:∀{l m:List V} {b:List UInt8},aN R l m->bytesOf l=some b->m=l
 |[],_,_,h,_=>by rw[aN.jq]at h;exact h
 |v::vs,_,b,h,hb=>by
  obtain⟨u,us,rfl,g1,g2⟩:=aN.cp.1 h;simp only[bytesOf]at hb;split at hb
  .rename_i e1 e2;rw[tR g2 e2];cases v<;>simp[byteOf]at e1;rw[aA.lG]at g1;rw[g1]
  .cases hb
def Ee(hm:Lv R Zc U){x x' v:V}(hx:aA R x x')(h:kr Zc x=some v):∃v',kr U x'=some v'/\aA R v v':=by
 unfold kr at h;split at h
 .simp only[aA]at hx;subst hx;simp only[aI]at h;subst h;exact⟨_,rfl,by simp[aA]⟩
 .simp only[aA]at hx;obtain⟨a,rfl,ha⟩:=hx;split at h
  .rename_i ob Xz;obtain⟨WM,h1,h2⟩:=hm _ _ _ ha Xz;split at h
   .rename_i hc;simp only[Zq8]at h;obtain⟨l,hl,rfl⟩:=h;have e:=tR ((h2.drop _).take _) hl;refine⟨_,?_,aA.vk.2 rfl⟩;simp only[kr,h1,h2.length,e,hl,Option.map_some];rw[aq hc]
   .cases h
  .cases h
 .cases h
def JG{i:Nat}{x x' v:V}(hx:aA R x x')(h:Eh i x=some v):∃v',Eh i x'=some v'/\aA R v v':=by
 unfold Eh at h;split at h
 .simp only[aA]at hx;obtain⟨c,rfl,hr⟩:=hx;exact hr.get h
 .cases h
def kA(R:Nat->Nat->Prop):List (Nat×Nat×V)->List (Nat×Nat×V)->Prop
 |[],l=>l=[]
 |p::ps,l=>∃u us,l=(p.1,p.2.1,u)::us/\aA R p.2.2 u/\kA R ps us
def xE:∀{ps ps':List (Nat×Nat×V)} {z z' l:List V},aN R z z'->kA R ps ps'->jF z ps=some l->∃l',jF z' ps'=some l'/\aN R l l'
 |[],_,z,z',l,hz,hp,h=>by
  simp only[kA]at hp;subst hp;simp only[jF,aI]at h;subst h;exact⟨_,rfl,hz⟩
 |(off,sz,x)::ps,_,z,z',l,hz,hp,h=>by
  simp only[kA]at hp;obtain⟨u,us,rfl,h1,h2⟩:=hp;simp only[jF]at h|-;split at h
  .rename_i hc;rw[aq ⟨by rw[h1.cells.length];exact hc.1,by rw[h1.stays];exact hc.2.1,by rw[hz.length];exact hc.2.2⟩];refine xE ?_ h2 h;unfold eo;rw[h1.cells.length];exact((hz.take _).append h1.cells).append (hz.drop _)
  .cases h
def n9(hs:∀i,aA R (s i) (s' i)){lo:Option VX}(h:∀x∈lo.toList,okX x=true)(d j:Int):bX d (lo.map (·.ev s))=some j->bX d (lo.map (·.ev s'))=some j:=by
 refine EB (R:=R) ?_;cases lo with
 |none=>trivial
 |some x=>exact fK hs (h x (by simp))
def GV(hm:Lv R Zc U)(hs:∀i,aA R (s i) (s' i)){op:W5}(WL:sW op=true){v:V}(hp:eC s op)(h:aF Zc s op=some v):
 eC s' op/\∃v',aF U s' op=some v'/\aA R v v':=by
 have hok':=WL;simp only[sW,Ba]at WL;have hx:=eO.1 WL.1;have E:∀x,x∈op.xs->aA R (x.ev s) (x.ev s'):=λx h=>fK hs (hx x h);cases op<;>simp only[W5.xs,dc,List.not_mem_nil,or_false,forall_eq_or_imp,forall_eq,dE]at E<;>simp only[aF,eC,aI,reduceCtorEq,true_and]at h hp|-
 case W1=>subst h;exact⟨_,rfl,E⟩
 case pick c a b=>
  split at h
  .rename_i t ht;have:=E.1;rw[ht,aA.oO]at this;rw[this];simp only[aI]at h|-;subst h;refine⟨_,rfl,?_⟩;cases t
   .exact E.2.2
   .exact E.2.1
  .cases h
 case bin op x y=>
  obtain⟨e1,e2,e3⟩:=Jr E.1 E.2 h;rw[e1,e2];exact⟨hp,v,h,eS v e3⟩
 case not x=>
  split at h
  .rename_i b hb;rw[hb,aA.oO]at E;rw[E];simp only[aI]at h|-;subst h;exact⟨_,rfl,by simp[aA]⟩
  .cases h
 case neg x=>
  split at h
  .rename_i k b hb;rw[hb]at hp;rw[hb,aA.lG]at E;rw[E];simp only[aI]at h|-;subst h;exact⟨hp,_,rfl,by simp[aA]⟩
  .cases h
 case len=>exact Jj E h
 case cap=>
  unfold LP at h;split at h
  .rename_i hn;rw[hn]at E;simp only[aA]at E;rw[E];simp only[aI]at h;subst h;exact⟨_,rfl,by simp[aA]⟩
  .cases h
 case fld=>exact I2 E h
 case W7=>exact GI E h
 case ZG=>exact GD hm E.1 E.2 h
 case idxAA=>exact Ep E.1 E.2 h
 case idxV=>exact Gf E.1 E.2 h
 case idxS=>exact GP E.1 E.2 h
 case load=>exact yQ hm E h
 case slice Yg x lo hi mx=>
  have W8:=hx;simp only[W5.xs,dc,dE]at W8;exact DD hm E.1 (n9 hs λy hy=>W8 y (.inr (.inl (.inl hy)))) (n9 hs λy hy=>W8 y (.inr (.inl (.inr hy)))) (n9 hs λy hy=>W8 y (.inr (.inr hy))) h
 case sliceS x lo hi=>
  have W8:=hx;simp only[W5.xs,dc,dE]at W8;exact A4 E.1 (n9 hs λy hy=>W8 y (.inr (.inl hy))) (n9 hs λy hy=>W8 y (.inr (.inr hy))) h
 case ext=>exact JG E h
 case more m xs=>
  by_cases hb:∃f,m=.mkB f
  .obtain⟨f,rfl⟩:=hb;simp only[aF,aI]at h|-;subst h;exact⟨_,rfl,by simp only[aA];exact⟨_,rfl,pn hs WL.1⟩⟩
  cases xs with
  |nil=>cases m<;>first|exact absurd ⟨_,rfl⟩ hb|simp[aF]at h
  |cons x xs=>
   have ex:=E x (by simp);cases xs with
   |cons y ys=>cases m<;>first|exact absurd ⟨_,rfl⟩ hb|simp[aF]at h
   |nil=>
    cases m
    case mkB=>exact absurd ⟨_,rfl⟩ hb
    case mkI t=>
     simp only[aI]at h|-;subst h;exact⟨_,rfl,by simp only[aA];exact⟨_,rfl,ex⟩⟩
    case tas t ok z=>
     have hz:z.eJ=true:=WL.2;simp only[]at h|-;unfold HJ at h|-;split at h
     .rename_i t' v' hv';rw[hv']at ex;simp only[aA]at ex;obtain⟨u,hu,hru⟩:=ex;rw[hu];simp only;split at h
      .rename_i e;rw[aq e];simp only[aI]at h|-;subst h;refine⟨_,rfl,?_⟩;cases ok
       .exact hru
       .simp only[if_true,aA,aN];exact⟨_,rfl,_,_,rfl,hru,_,_,rfl,rfl,rfl⟩
      .rename_i e;rw[ao e];cases ok
       .simp at h
       .simp only[if_true,aI]at h|-;subst h;refine⟨_,rfl,?_⟩;simp only[aA,aN];exact⟨_,rfl,_,_,rfl,eS z hz,_,_,rfl,rfl,rfl⟩
     .rename_i hv';rw[hv']at ex;simp only[aA]at ex;rw[ex];cases ok
      .simp at h
      .simp only[if_true,aI]at h|-;subst h;refine⟨_,rfl,?_⟩;simp only[aA,aN];exact⟨_,rfl,_,_,rfl,eS z hz,_,_,rfl,rfl,rfl⟩
     .cases h
    case nilP neg=>
     simp only[]at h|-;unfold Fe at h;split at h
     .rename_i hv';rw[hv']at ex;simp only[aA]at ex;rw[ex];exact⟨v,h,by simp only[aI]at h;subst h;simp[aA]⟩
     .rename_i hv';rw[hv']at ex;simp only[aA]at ex;obtain⟨u,hu,_⟩:=ex;rw[hu];exact⟨v,h,by simp only[aI]at h;subst h;simp[aA]⟩
     .rename_i hv';rw[hv']at ex;simp only[aA]at ex;obtain⟨u,hu,_⟩:=ex;rw[hu];exact⟨v,h,by simp only[aI]at h;subst h;simp[aA]⟩
     .cases h
    all_goals simp[aF]at h
 case mkfn f xs=>
  subst h;exact⟨_,rfl,by simp only[aA];exact⟨_,rfl,pn hs WL.1⟩⟩
 case convI k x=>
  split at h
  .rename_i k' b hb;rw[hb]at hp;rw[hb,aA.lG]at E;rw[E];simp only[aI]at h|-;subst h;exact⟨hp,_,rfl,by simp[aA]⟩
  .cases h
 case nilCheck=>exact xW E h
 case YU=>exact Hl E.1 E.2 h
 case eqS=>exact IX E.1 E.2 h
 case minmax=>exact BF E.1 E.2 h
 case bstr=>exact Ee hm E h
 case build zero parts=>
  simp only[Zq8]at h;obtain⟨l,hl,rfl⟩:=h;have hpr:∀ps:List (Nat×Nat×VX),(∀p∈ps,okX p.2.2=true)->kA R (ps.map λp=>(p.1,p.2.1,p.2.2.ev s)) (ps.map λp=>(p.1,p.2.1,p.2.2.ev s')):=by
   intro ps
   induction ps with
   |nil=>intro _;simp[kA]
   |cons p ps ih=>
    intro ZP;simp only[ej,kA];exact⟨_,_,rfl,fK hs (ZP p (by simp)),ih λq hq=>ZP q (by simp[hq])⟩
  obtain⟨l',h1,h2⟩:=xE (fV zero WL.2) (hpr parts λp hp=>hx _ (by simp only[W5.xs,gJ];exact⟨p,hp,rfl⟩)) hl;exact⟨.agg l',by rw[h1];rfl,aA.agg h2⟩
end
variable {R:Nat->Nat->Prop} {K:ag} {fl:Nat} {P:Program} {n:Nat}
structure fW(K:ag)(fl:Nat)(R:Nat->Nat->Prop)(cs:CS)(st:St):Prop where
 slot:∀i,aA R (cs.sf i) (st.s i)
 mem:qG K fl R (stF cs.U) cs.X8 st.U
def Hk{s s':Nat->V}(h:∀i,aA R (s i) (s' i)){d:Option Nat}{v u:V}(hv:aA R v u):∀i,aA R (aQ s d v i) (aQ s' d u i):=by
 intro i;cases d with
 |none=>exact h i
 |some d=>
  show aA R (if i=d then v else s i) (if i=d then u else s' i);split
  .exact hv
  .exact h i
def fW.put{cs:CS}{st:St}(h:fW K fl R cs st){d:Option Nat}{v u:V}(hv:aA R v u):fW K fl R (cs.put d v) ⟨aQ st.s d u,st.U⟩:=by
 refine⟨?_,?_⟩
 .rw[Ql];exact Hk h.slot hv
 .rw[(IN cs d v).1,(IN cs d v).2];exact h.mem
def aA.K5:aA R (.WJ []) (.WJ []):=by simp[aA,aN]
def Py(a b:Int):eqQ a b=decide (a=b):=by
 cases a<;>cases b<;>rw[Bool.eq_iff_iff]<;>simp[eqQ]<;>first|rfl|omega
def RD(a b:Int):leQ a b=decide (a<=b):=by
 cases a<;>cases b<;>rw[Bool.eq_iff_iff]<;>simp only[leQ,Nat.ble_eq,Zs,fG,false_iff,true_iff,Int.ofNat_eq_natCast]<;>omega
def Mo(a b:Int):SS a b=a+b:=by cases a<;>cases b<;>rfl
def LR(a b:Int):Ri a b=a-b:=by
 cases a<;>cases b<;>simp only[Ri];rename_i m k;cases h:Nat.ble k m
 .have:¬k<=m:=by rw[<-Nat.ble_eq];simp[h]
  simp only[Nat.sub_eq,Int.ofNat_eq_natCast];omega
 .have:k<=m:=x8 h;simp only[Nat.sub_eq,Int.ofNat_eq_natCast];omega
def Lu{a:Int}(h:Q5 a=true):WR .i64 a:=by
 cases a<;>simp only[Q5,Nat.ble_eq]at h
 .rw[Int.ofNat_eq_natCast];exact ai
 .exact ai
def KW{k:IntKind}{a:Int}(h:O4 k a=true):WR k a:=by
 unfold O4 at h;split at h
 .exact Lu h
 .simpa[WR]using h
def jS{α:Type}{b:Bool}{x y:α}:@Bool.casesOn (λ_=>α) b x y=if b then y else x:=by cases b<;>rfl
def F0{α:Type}{b:Bool}{x y:α}:@Bool.rec (λ_=>α) x y b=if b then y else x:=by cases b<;>rfl
def y7{k:IntKind}{a:Int}{v:V}(h:gI k a=some v):v=.int k a/\WR k a:=by
 unfold gI at h;rw[jS]at h;split at h
 .rename_i hi;simp only[aI]at h;exact⟨h.symm,KW hi⟩
 .cases h
def Ey{op:BinOp}{k:IntKind}{a b:Int}{v:V}(h:(qK op).f k a b=some v):iD op k a b/\dV op k a b=some v:=by
 unfold qK at h;split at h<;>simp only[]at h
 .obtain⟨rfl,h2⟩:=y7 h;rw[Mo]at*;exact⟨h2,rfl⟩
 .obtain⟨rfl,h2⟩:=y7 h;rw[LR]at*;exact⟨h2,rfl⟩
 .obtain⟨rfl,h2⟩:=y7 h;exact⟨h2,rfl⟩
 .split at h
  .cases h
  .rename_i hb;obtain⟨rfl,h2⟩:=y7 h;exact⟨h2,by simp[dV,hb]⟩
 .split at h
  .cases h
  .rename_i hb;simp only[aI]at h;subst h;exact⟨trivial,by simp[dV,hb]⟩
 all_goals first
  |exact⟨trivial,h⟩
  |(simp only[aI]at h;subst h;refine⟨trivial,?_⟩;simp only[Py,RD,dV,aI,V.bool.injEq];try (rw[Bool.eq_iff_iff];simp))
  |cases h
def Er{op:BinOp}{a b:List UInt8}{v:V}(h:zU op a b=some v):xe op a b/\qu op a b=some v:=by
 unfold zU at h;split at h
 .rw[jS]at h;split at h
  .rename_i hb;simp only[aI]at h;subst h;exact⟨x8 hb,rfl⟩
  .cases h
 .exact⟨trivial,h⟩
 .exact⟨trivial,h⟩
 .cases h
def Jf{k k':IntKind}(h:I3 k k'=true):k=k':=by
 unfold I3 at h;rw[jS]at h;cases k<;>cases k'<;>simp_all [QV,eqK]
def K0{op:BinOp}{x y v:V}(h:LK op (qK op).f y x=some v):qI op x y/\yi op x y=some v:=by
 unfold LK at h;split at h
 .unfold Se at h;split at h
  .rw[jS]at h;split at h
   .rename_i hk;have:=Jf hk;subst this;obtain⟨h1,h2⟩:=Ey h;exact⟨h1,by simp[yi,h2]⟩
   .cases h
  .cases h
 .unfold Sh at h;split at h
  .exact Er h
  .cases h
 .cases h
def Lw{U:Tr (Option Ob)}{Yg:Nat}{x i v:V}(h:O6 U Yg x i=some v):bo (stF U) Yg x i=some v:=by
 unfold O6 at h;split at h
 .split at h
  .rename_i m hm;have hj:=hm;unfold Cw at hm;split at hm
   .simp only[aI]at hm;subst hm;split at h
    .rename_i ob Xz;rw[jS]at h;split at h
     .rename_i hc;simp only[Ba,Nat.beq_eq,Nat.blt_eq]at hc;have e:stF U _=some ob:=Xz;simp only[bo,e];rw[aq ⟨hc.1,by simp,by simpa using hc.2⟩];exact h
     .cases h
    .cases h
   .cases hm
  .cases h
 .split at h
  .rename_i m hm;unfold Cw at hm;split at hm
   .simp only[aI]at hm;subst hm;rw[jS]at h;split at h
    .rename_i hc;rw[Nat.beq_eq]at hc;simp only[bo];rw[aq ⟨hc,by simp⟩];exact h
    .cases h
   .cases hm
  .cases h
 .cases h
def H0{x i v:V}(h:IB x i=some v):rF x i=some v:=by
 unfold IB at h;split at h
 .split at h
  .rename_i m hm;unfold Cw at hm;split at hm
   .simp only[aI]at hm;subst hm;simp only[rF];rw[aq (by simp)];exact h
   .cases hm
  .cases h
 .cases h
def H8{U:Tr (Option Ob)}{agg:Bool}{sz:Nat}{x v:V}(h:Ix U agg sz x=some v):bF (stF U) agg sz x=some v:=by
 unfold Ix at h;split at h
 .split at h
  .rename_i ob Xz;have e:stF U _=some ob:=Xz;split at h
   .rename_i r hr;simp only[bF,e,hr];split at h
    .rw[jS,jS]at h;simp only[if_true];split at h
     .rename_i hc;simp only[Ba,Nat.beq_eq]at hc;rw[aq hc];exact h
     .rename_i hc;split at h
      .rename_i hc';rw[ao (by simpa using hc),aq (show _+sz<=_ from x8 hc')];exact h
      .cases h
    .simpa using h
   .cases h
  .cases h
 .exact h
def zt{draw:Bool}{call:nW}{dst:Option Nat}{op:W5}{cs Yi:CS}{st:St}(hk:bf op=0)(WL:sW op=true)(h:fW K fl R cs st)
 (hr:(lC draw dst op).f call fl cs=some Yi):∃v',eC st.s op/\aF st.U st.s op=some v'/\fW K fl R Yi ⟨aQ st.s dst v',st.U⟩:=by
 have key:∃v,eC cs.sf op/\aF (stF cs.U) cs.sf op=some v/\Yi=cs.put dst v:=by
  have hp:∀(g:CS->Option V),(kj dst g).f call fl cs=some Yi->∃v,g cs=some v/\Yi=cs.put dst v:=by
   intro g hg;simp only[kj]at hg;split at hg
   .rename_i v hv;simp only[aI]at hg;exact⟨v,hv,hg.symm⟩
   .cases hg
  cases op<;>simp only[bf,reduceCtorEq,Nat.reduceEqDiff]at hk<;>simp only[lC]at hr
  case W1 x=>
   simp only[Sg,aI]at hr;exact⟨_,trivial,rfl,hr.symm⟩
  case bin op x y=>
   have hr':(kj dst λcs=>LK op (qK op).f (y.ev cs.sf) (x.ev cs.sf)).f call fl cs=some Yi:=hr;obtain⟨v,h1,h2⟩:=hp _ hr';obtain⟨h3,h4⟩:=K0 h1;exact⟨v,h3,h4,h2⟩
  case pick c a b=>
   obtain⟨v,h1,h2⟩:=hp _ hr;refine⟨v,trivial,?_,h2⟩;simp only[aF];unfold Nh at h1;split at h1
   .rename_i t ht;rw[jS]at h1;rw[ht];exact h1
   .cases h1
  case not x=>
   obtain⟨v,h1,h2⟩:=hp _ hr;refine⟨v,trivial,?_,h2⟩;simp only[aF];unfold Sj at h1;split at h1
   .rename_i t ht;rw[ht];exact h1
   .cases h1
  case neg x=>
   obtain⟨v,h1,h2⟩:=hp _ hr;unfold SN at h1;split at h1
   .rename_i k t ht;obtain⟨h3,h4⟩:=y7 h1;exact⟨v,by simp only[eC,ht];exact h4,by simp only[aF,ht,h3],h2⟩
   .cases h1
  case convI k x=>
   obtain⟨v,h1,h2⟩:=hp _ hr;unfold M9 at h1;split at h1
   .rename_i k t ht;obtain⟨h3,h4⟩:=y7 h1;exact⟨v,by simp only[eC,ht];exact h4,by simp only[aF,ht,h3],h2⟩
   .cases h1
  case ZG=>obtain⟨v,h1,h2⟩:=hp _ hr;exact⟨v,trivial,Lw h1,h2⟩
  case idxS=>obtain⟨v,h1,h2⟩:=hp _ hr;exact⟨v,trivial,H0 h1,h2⟩
  case load=>obtain⟨v,h1,h2⟩:=hp _ hr;exact⟨v,trivial,H8 h1,h2⟩
  all_goals (obtain⟨v,h1,h2⟩:=hp _ hr;exact⟨v,trivial,h1,h2⟩)
 obtain⟨v,h1,h2,rfl⟩:=key;obtain⟨h3,v',h4,h5⟩:=GV h.mem.live h.slot WL h1 h2;exact⟨v',h3,h4,h.put h5⟩
def Cd{Zc U:ag}(hm:Lv R Zc U){sz:Nat}{x x':V}{l:List V}(hx:aA R x x')(h:bJ Zc sz x=some l):∃l',bJ U sz x'=some l'/\aN R l l':=by
 unfold bJ at h;split at h
 .simp only[aA]at hx;obtain⟨a,rfl,ha⟩:=hx;split at h
  .rename_i ob Xz;obtain⟨WM,h1,h2⟩:=hm _ _ _ ha Xz;split at h
   .rename_i hc;simp only[aI]at h;subst h;refine⟨_,?_,(h2.drop _).take _⟩;simp only[bJ,h1,h2.length];rw[aq hc]
   .cases h
  .cases h
 .simp only[aA]at hx;obtain⟨WM,rfl,hr⟩:=hx;split at h
  .rename_i hc;simp only[aI]at h;subst h;exact⟨WM,by simp[bJ,hc],hr⟩
  .cases h
 .simp only[aA]at hx;subst hx;simp only[aI]at h;subst h;exact⟨[],rfl,by simp[aN]⟩
 .rename_i s;simp only[aA]at hx;subst hx;refine⟨l,h,?_⟩;split at h
  .simp only[aI]at h;subst h
   induction s with
   |nil=>simp[aN]
   |cons b s ih=>simp only[ej,aN];exact⟨_,_,rfl,by simp[aA],ih⟩
  .cases h
 .cases h
def B9{Zc U:ag}(hm:Lv R Zc U){e sz:Nat}{x x':V}{l:List V}{d:Option Nat}(hx:aA R x x')(h:bV Zc e sz x=some (l,d)):
 ∃l' d',bV U e sz x'=some (l',d')/\aN R l l'/\(d=none/\d'=none\/∃c a o,d=some c/\d'=some a/\R c a/\Zc c=some o):=by
 unfold bV at h;split at h
 .simp only[aA]at hx;obtain⟨a,rfl,ha⟩:=hx;split at h
  .rename_i ob Xz;obtain⟨WM,h1,h2⟩:=hm _ _ _ ha Xz;split at h
   .rename_i hc;simp only[aI,Prod.mk.injEq]at h;obtain⟨rfl,rfl⟩:=h;refine⟨_,some a,?_,h2.take _,.inr ⟨_,a,ob,rfl,rfl,ha,Xz⟩⟩;simp only[bV,h1,h2.length];rw[aq hc]
   .cases h
  .cases h
 .simp only[aA]at hx;subst hx;simp only[aI,Prod.mk.injEq]at h;obtain⟨rfl,rfl⟩:=h;exact⟨[],none,rfl,by simp[aN],.inl ⟨rfl,rfl⟩⟩
 .cases h
def kG{dst:Option Nat}{cs Yi:CS}{st:St}(h:fW K fl R cs st){m:Mk}{WM:List V}{d':Option Nat}(Xo:aN R m.ob.rows WM)
 (hd:m.gone=none/\d'=none\/∃c a o,m.gone=some c/\d'=some a/\R c a/\stF cs.U c=some o)(hr:AA fl dst cs m=some Yi){id:Nat}(P':st.U id=none):
 ∃R',(∀a b,R a b->R' a b)/\fW K fl R' Yi ⟨aQ st.s dst (if m.var then .ptr id 0 0 else .own id 0 m.len),C' (bz st.U d') id ⟨m.ob.elem,m.ob.sz,WM⟩⟩:=by
 refine⟨ext R cs.X8 id,AS _ _,?_⟩;have hval:aA (ext R cs.X8 id) (@Bool.casesOn (λ_=>V) m.var (.own cs.X8 0 m.len) (.ptr cs.X8 0 0)) (if m.var then .ptr id 0 0 else .own id 0 m.len):=by
  cases m.var
  .simp only[aA,fG,if_false];exact⟨id,rfl,.inr ⟨rfl,rfl⟩⟩
  .simp only[aA,if_true];exact⟨id,rfl,.inr ⟨rfl,rfl⟩⟩
 have hslot:∀i,aA (ext R cs.X8 id) (cs.sf i) (st.s i):=λi=>aA.mono (AS _ _) _ _ (h.slot i);unfold AA at hr;rcases hd with⟨e1,rfl⟩|⟨c,a,o,e1,rfl,hR,ho⟩
 .rw[e1]at hr;simp only[aI]at hr;subst hr;have hm:=h.mem.new P' Xo;have hS:fW K fl (ext R cs.X8 id) ⟨cs.s,nT none (some m.ob) cs.X8 cs.U,Nat.succ cs.X8⟩ ⟨st.s,C' st.U id ⟨m.ob.elem,m.ob.sz,WM⟩⟩:=
   ⟨hslot,by simp only[uY];exact hm⟩
  exact hS.put hval
 .rw[e1]at hr;simp only[jS]at hr;split at hr
  .rename_i hf;simp only[aI]at hr;subst hr;have h1:=h.mem.rem hR ho (x8 hf);have hid':del st.U a id=none:=by
    by_cases e:id=a
    .simp[del,e]
    .rw[de e];exact P'
   have hm:=h1.new hid' Xo;have hS:fW K fl (ext R cs.X8 id) ⟨cs.s,nT none (some m.ob) cs.X8 (nT none none c cs.U),Nat.succ cs.X8⟩ ⟨st.s,C' (del st.U a) id ⟨m.ob.elem,m.ob.sz,WM⟩⟩:=
    ⟨hslot,by simp only[uY,L9];exact hm⟩
   rw[jS]at hval;exact hS.put hval
  .cases hr
def Dj{draw:Bool}{call:nW}{dst:Option Nat}{op:W5}{cs Yi:CS}{st:St}(hk:bf op=3)(WL:sW op=true)(h:fW K fl R cs st)
 (hr:(lC draw dst op).f call fl cs=some Yi):∃g',Ze st.s st.U op=some g'/\∀id,st.U id=none->∃R',(∀a b,R a b->R' a b)/\
   fW K fl R' Yi ⟨aQ st.s dst (g' id).1,(g' id).2⟩:=by
 have hp:∀(g:CS->Option Mk),(Ew dst g).f call fl cs=some Yi->∃m,g cs=some m/\AA fl dst cs m=some Yi:=by
  intro g hg;simp only[Ew]at hg;split at hg
  .rename_i v hv;exact⟨v,hv,hg⟩
  .cases hg
 simp only[sW,Ba]at WL;have hx:=eO.1 WL.1;cases op<;>simp only[bf,reduceCtorEq,Nat.reduceEqDiff]at hk<;>simp only[lC]at hr
 case more m xs=>cases m<;>simp at hk
 case alloc e sz z=>
  obtain⟨m,h1,h2⟩:=hp _ hr;simp only[aI]at h1;subst h1;refine⟨_,rfl,λid P'=>?_⟩;have:=kG (d':=none) h (aN.one (eS (R:=R) z WL.2)) (.inl ⟨rfl,rfl⟩) h2 P';simpa[bz]using this
 case box e sz x=>
  obtain⟨m,h1,h2⟩:=hp _ hr;have hv:=fK h.slot (hx x (by simp[W5.xs]));unfold Ti at h1;rw[jS]at h1;split at h1
  .rename_i hc;simp only[Ba,Nat.beq_eq]at hc;simp only[aI]at h1;subst h1;refine⟨λid=>(.ptr id 0 0,C' st.U id ⟨e,sz,[x.ev st.s]⟩),?_,λid P'=>?_⟩
   .simp only[Ze];rw[aq ⟨by rw[hv.cells.length];exact hc.1,by rw[hv.stays];exact hc.2⟩]
   .have:=kG (d':=none) h (aN.one hv) (.inl ⟨rfl,rfl⟩) h2 P';simpa[bz]using this
  .cases h1
 case appz=>simp[kj,aF]at hr
 case mk e sz bytes z x=>
  obtain⟨m,h1,h2⟩:=hp _ hr;have hv:=fK h.slot (hx x (by simp[W5.xs]));unfold mkQ at h1;split at h1
  .rename_i kk mm hxe;rw[hxe]at hv;simp only[aA]at hv;split at h1
   .split at h1
    .rename_i j hj;rw[jS]at h1;split at h1
     .rename_i hc;simp only[aI]at h1;subst h1;have hmj:mm=(j:Int):=by
       cases mm<;>simp only[Cw,aI,reduceCtorEq]at hj;subst hj;rfl
      subst hmj;refine⟨λid=>(.own id 0 j,C' st.U id ⟨e,sz,List.replicate j z⟩),?_,λid P'=>?_⟩
      .simp only[Ze];rw[hv];have hc':j*(bytes+1)<=140737488355328:=x8 hc;simp only[fc];rw[aq ⟨by omega,hc'⟩]
      .have:=kG (d':=none) h (aN.replicate (eS (R:=R) z WL.2) j) (.inl ⟨rfl,rfl⟩) h2 P';simpa[bz]using this
     .cases h1
    .cases h1
   .cases h1
  .cases h1
 case fk e sz xs=>
  obtain⟨m,h1,h2⟩:=hp _ hr;have hv:=pn h.slot WL.1;simp only[W5.xs]at hv;unfold FO at h1;rw[jS]at h1;split at h1
  .rename_i hc;simp only[aI]at h1;subst h1;refine⟨λid=>(.own id 0 xs.length,C' st.U id ⟨e,sz,xs.map (·.ev st.s)⟩),?_,λid P'=>?_⟩
   .simp only[Ze];rw[aq];rw[eO];intro y hy;rw[gJ]at hy;obtain⟨x,hxx,rfl⟩:=hy;have hvx:=fK h.slot (hx x (by simp[W5.xs,hxx]));have:=eO.1 hc (x.ev cs.sf) (gJ.2 ⟨x,hxx,rfl⟩);simp only[Ba,Nat.beq_eq]at this;simp[hvx.cells.length,hvx.stays,this]
   .have:=kG (d':=none) h hv (.inl ⟨rfl,rfl⟩) h2 P';simpa[bz]using this
  .cases h1
 case append e sz bytes xa xb=>
  obtain⟨m,h1,h2⟩:=hp _ hr;have ha:=fK h.slot (hx xa (by simp[W5.xs]));have hb:=fK h.slot (hx xb (by simp[W5.xs]));unfold E2 at h1;split at h1
  .rename_i base WW src e1 e2;obtain⟨base',d',g1,g2,g3⟩:=B9 h.mem.live ha e1;obtain⟨src',g4,g5⟩:=Cd h.mem.live hb e2;rw[jS]at h1;split at h1
   .rename_i hc;simp only[aI]at h1;subst h1;refine⟨λid=>(.own id 0 (base'.length+src'.length),C' (bz st.U d') id ⟨e,sz,base'++src'⟩),?_,λid P'=>?_⟩
    .simp only[Ze,g1,g4];rw[aq (by rw[g2.length,g5.length];exact x8 hc)]
    .have:=kG h (g2.append g5) g3 h2 P';simpa[g2.length,g5.length]using this
   .cases h1
  .cases h1
def BE{r r' x x' q:V}{k sz:Nat}(hr:aA R r r')(hx:aA R x x')(h:ec r k sz x=some q):∃q',ec r' k sz x'=some q'/\aA R q q':=by
 unfold ec at h;split at h
 .rename_i hc;have hc':x'.cells.length=sz/\x'.stays=true:=⟨by rw[hx.cells.length];exact hc.1,by rw[hx.stays];exact hc.2⟩
  split at h
  .rename_i hd;simp only[aI]at h;subst h;refine⟨x',?_,hx⟩;unfold ec;rw[aq hc',aq ⟨hd.1,by rw[hr.cells.length];exact hd.2⟩]
  .rename_i hd;split at h
   .rename_i he;simp only[aI]at h;subst h;refine⟨_,?_,aA.agg (((hr.cells.take k).append hx.cells).append (hr.cells.drop (k+sz)))⟩;unfold ec;rw[aq hc',ao (by rw[hr.cells.length];exact hd),aq (by rw[hr.cells.length];exact he)]
   .cases h
 .cases h
def xM{dst:Option Nat}{sz:Nat}{xa xv:VX}{call:nW}{cs Yi:CS}{st:St}(WL:sW (.store sz xa xv)=true)(h:fW K fl R cs st)
 (hr:(Dx dst sz xa xv).f call fl cs=some Yi):∃Z',fI st.U sz (xa.ev st.s) (xv.ev st.s)=some Z'/\fW K fl R Yi ⟨aQ st.s dst (.WJ []),Z'⟩:=by
 simp only[sW,W5.xs,nJ,List.all_nil,Bool.and_true,Ba]at WL;have ha:=fK h.slot WL.1;have hv:=fK h.slot WL.2;simp only[Dx,EU]at hr;split at hr
 .rename_i id i0 c hptr;rw[hptr]at ha;simp only[aA]at ha;obtain⟨a,ha1,ha2⟩:=ha;rw[F0]at hr;split at hr
  .rename_i hf;split at hr
   .rename_i ob Xz;have hob':stF cs.U id=some ob:=Xz;obtain⟨WM,h1,h2⟩:=h.mem.live _ _ _ ha2 hob';split at hr
    .rename_i r hrr;obtain⟨r',h3,h4⟩:=h2.get hrr;split at hr
     .rename_i q hq;obtain⟨q',h5,h6⟩:=BE h4 hv hq;simp only[aI]at hr;subst hr;refine⟨C' st.U a ⟨ob.elem,ob.sz,WM.set i0 q'⟩,?_,?_⟩
      .simp only[fI,ha1,h1,h3,h5]
      .have hm:=h.mem.write ha2 hob' (x8 hf) (h2.set i0 h6);have hS:fW K fl R ⟨cs.s,nT none (some ⟨ob.elem,ob.sz,ob.rows.set i0 q⟩) id cs.U,cs.X8⟩ ⟨st.s,C' st.U a ⟨ob.elem,ob.sz,WM.set i0 q'⟩⟩:=
        ⟨h.slot,by simp only[uY];exact hm⟩
       exact hS.put aA.K5
     .cases hr
    .cases hr
   .cases hr
  .cases hr
 .cases hr
variable {P:Program} {n:Nat}
def Le(R R':Nat->Nat->Prop):Prop:=∀a b,R a b->R' a b
def Le.refl(R:Nat->Nat->Prop):Le R R:=λ_ _ h=>h
def Le.trans{R R' R'':Nat->Nat->Prop}(h:Le R R')(h':Le R' R''):Le R R'':=λa b g=>h' a b (h a b g)
def wN(P:Program)(call:nW):Prop:=∀g args Zc X8 fl r,call g args Zc X8 fl=some r->∀(K:ag) (R:Nat->Nat->Prop) (U:ag) (args':List V),
 qG K fl R (stF Zc) X8 U->aN R args args'->ax P g args' U λv Z'=>∃R',Le R R'/\aA R' r.v v/\qG K fl R' (stF r.U) r.X8 Z'
def ax.drop{f:FuncId}{args:List V}{U:ag}{Post Post':V->ag->Prop}(h:ax P f args U Post)
 (hp:∀r Z',Post r Z'->∃Z0,aa Z0 Z'/\Post' r Z0):ax P f args U Post':=by
 refine⟨h.1,λI w WO hs hr=>(h.2 I w WO hs hr).mono ?_⟩;rintro e w' ⟨r,Z',Y',val,h1,h2,h3,h4,h5⟩;obtain⟨Z0,h6,h7⟩:=hp r Z' h2;exact⟨r,Z0,Y',val,h1,h7,h3,h4.drop h6,Wk.refl h6 r Y' _ _ _ val h4 h5⟩
section
variable {call:nW} {K:ag} {fl:Nat} {R:Nat->Nat->Prop} {cs Yi:CS} {st:St} {Q:St->Prop} {k:List It}
def tA{draw:Bool}{i:aD}(WL:rz i=true)(h:fW K fl R cs st)(hr:(tW draw i).f call fl cs=some Yi):
 (aZ st.s i.g=some true/\(lC draw i.dst i.op).f call fl cs=some Yi)\/(aZ st.s i.g=some false/\Yi=cs.put i.dst (.WJ [])):=by
 simp only[rz,Ba]at WL;unfold tW at hr;split at hr
 .rename_i hg;exact .inl ⟨by simp[hg,aZ],hr⟩
 .rename_i x b hg;have hx:=WL.2;simp only[hg]at hx;have hv:=fK h.slot hx;simp only[Ip]at hr;split at hr
  .rename_i c hc;rw[hc,aA.oO]at hv;rw[F0]at hr;split at hr
   .rename_i hcb;simp only[aI]at hr;refine .inr ⟨?_,hr.symm⟩;simp only[hg,aZ,hv];cases c<;>cases b<;>simp_all
   .rename_i hcb;refine .inl ⟨?_,hr⟩;simp only[hg,aZ,hv];cases c<;>cases b<;>simp_all
  .rename_i hc;rw[hc]at hv;simp only[aA,aN]at hv;obtain⟨c',hv,rfl⟩:=hv;simp only[aI]at hr;exact .inr ⟨by simp only[hg,aZ,hv],hr.symm⟩
  .rename_i hc;rw[hc,aA.lG]at hv;simp only[aI]at hr;exact .inr ⟨by simp only[hg,aZ,hv],hr.symm⟩
  .cases hr
def Fu{draw:Bool}{dst:Option Nat}{op:W5}(h:op=.bad\/(∃b x,op=.rngS b x)\/(∃x,op=.nxtS x)\/∃m xs,op=.more m xs/\bf op=4)(hr:(lC draw dst op).f call fl cs=some Yi):False:=by
 rcases h with rfl|⟨b,x,rfl⟩|⟨x,rfl⟩|⟨m,xs,rfl,hk⟩
 case inr.inr.inr=>cases m<;>simp[bf]at hk<;>simp[lC,kj,aF]at hr
 all_goals simp[lC,kj,aF]at hr
def tE(op:W5):bf op=0\/(∃fx xs,op=.call fx xs)\/(∃sz a x,op=.store sz a x)\/bf op=3\/(∃sz z x,op=.clear sz z x)\/(op=.bad\/(∃b x,op=.rngS b x)\/(∃x,op=.nxtS x)\/∃m xs,op=.more m xs/\bf op=4):=by
 cases op
 case more m xs=>cases m<;>simp[bf]
 all_goals simp[bf]
def KM(hc:wN P call){i:aD}{l:List aD}(WL:rz i=true)(h:fW K fl R cs st)(hr:(tW false i).f call fl cs=some Yi)
 (hk:∀R' Yy,Le R R'->fW K fl R' Yi Yy->ab P n (.ops l::k) Yy Q):ab P n (.ops (i::l)::k) st Q:=by
 have WN:sW i.op=true:=by simp only[rz,Ba]at WL;exact WL.1
 rcases tA WL h hr with⟨hw,hr⟩|⟨hw,rfl⟩
 .rcases tE i.op with h0|⟨fx,xs,h0⟩|⟨sz,a,x,h0⟩|h0|⟨sz,z,x,h0⟩|h0
  .obtain⟨v',h1,h2,h3⟩:=zt h0 WN h hr;exact ab.pure hw h1 h2 (hk R _ (Le.refl R) h3)
  .rw[h0]at hr WN;simp only[lC,Ii]at hr;simp only[sW,W5.xs,nJ,Ba]at WN;split at hr
   .rename_i f caps hf;have hfx:=fK h.slot WN.1.1;rw[hf]at hfx;simp only[aA]at hfx;obtain⟨caps',ZW,hcaps⟩:=hfx;generalize XH:call f (xs.map (·.ev cs.sf)++caps) cs.U cs.X8 fl=r at hr;cases r with
    |none=>simp[D4]at hr
    |some r=>
     simp only[D4,aI]at hr;refine ab.call hw h0 ZW (hc _ _ _ _ _ _ XH K R st.U _ h.mem ((pn h.slot WN.1.2).append hcaps)) ?_;rintro v Z' ⟨R',hle,hv,hm⟩;have hS:fW K fl R' ⟨cs.s,r.U,r.X8⟩ ⟨st.s,Z'⟩:=⟨λj=>aA.mono hle _ _ (h.slot j),hm⟩
     exact hk R' _ hle (hr▸hS.put hv)
   .cases hr
  .rw[h0]at hr WN;obtain⟨Z',h1,h2⟩:=xM WN h hr;exact ab.fI hw h0 h1 (hk R _ (Le.refl R) h2)
  .obtain⟨g',h1,h2⟩:=Dj h0 WN h hr;refine ab.Ze hw h1 λid P'=>?_;obtain⟨R',h3,h4⟩:=h2 id P';exact hk R' _ h3 h4
  .rw[h0]at hr WN;simp only[lC,Em,Fy]at hr;simp only[sW,W5.xs,nJ,List.all_nil,Bool.and_true,Ba]at WN;have hx:=fK h.slot WN.1;split at hr
   .rename_i id off len P';rw[P']at hx;simp only[aA]at hx;obtain⟨a,ha1,ha2⟩:=hx;rw[F0]at hr;split at hr
    .rename_i hf;split at hr
     .rename_i ob Xz;have hob':stF cs.U id=some ob:=Xz;obtain⟨WM,g1,g2⟩:=h.mem.live _ _ _ ha2 hob';rw[F0]at hr;split at hr
      .rename_i XZ;simp only[Ba,Nat.beq_eq,Nat.ble_eq]at XZ;simp only[aI]at hr;refine ab.clear hw h0 ha1 g1 XZ.1 (by rw[g2.length];exact XZ.2) ?_;have hm:=h.mem.write ha2 hob' (x8 hf) (((g2.take off).append (aN.replicate (eS (R:=R) z WN.2) len)).append (g2.drop (off+len)));have hS:fW K fl R ⟨cs.s,nT none (some ⟨ob.elem,ob.sz,ob.rows.take off++List.replicate len z++ob.rows.drop (off+len)⟩) id cs.U,cs.X8⟩
        ⟨st.s,C' st.U a ⟨ob.elem,ob.sz,WM.take off++List.replicate len z++WM.drop (off+len)⟩⟩:=⟨h.slot,by simp only[uY];exact hm⟩
       exact hk R _ (Le.refl R) (hr▸hS.put aA.K5)
      .cases hr
     .cases hr
    .cases hr
   .cases hr
  .exact(Fu h0 hr).elim
 .exact ab.uW hw (hk R _ (Le.refl R) (h.put aA.K5))
def Ss(hc:wN P call){i:aD}(WL:rz i=true)(h:fW K fl R cs st)(hr:(tW true i).f call fl cs=some Yi){K':St->Prop}
 (hk:∀R' Yy,Le R R'->fW K fl R' Yi Yy->K' Yy):T P i st K':=by
 have WN:sW i.op=true:=by simp only[rz,Ba]at WL;exact WL.1
 rcases tA WL h hr with⟨hw,hr⟩|⟨hw,rfl⟩
 .refine pZ hw ?_;rcases tE i.op with h0|⟨fx,xs,h0⟩|⟨sz,a,x,h0⟩|h0|⟨sz,z,x,h0⟩|h0
  .obtain⟨v',h1,h2,h3⟩:=zt h0 WN h hr;unfold TO;simp only[h0];exact⟨h1,v',h2,hk R _ (Le.refl R) h3⟩
  .rw[h0]at hr WN;rw[h0];simp only[lC,Ii]at hr;simp only[sW,W5.xs,nJ,Ba]at WN;split at hr
   .rename_i f caps hf;have hfx:=fK h.slot WN.1.1;rw[hf]at hfx;simp only[aA]at hfx;obtain⟨caps',ZW,hcaps⟩:=hfx;generalize XH:call f (xs.map (·.ev cs.sf)++caps) cs.U cs.X8 cs.X8=r at hr;cases r with
    |none=>simp[zT]at hr
    |some r=>
     simp only[zT,F0]at hr;split at hr
     .rename_i Xa;simp only[aI]at hr;refine⟨f,caps',r.v,ZW,λZ1 YR=>?_,hk R _ (Le.refl R) (hr▸h.put (eS r.v Xa))⟩;have hm0:qG Z1 cs.X8 R (stF cs.U) cs.X8 Z1:=⟨h.mem.dom,h.mem.live.sup YR,h.mem.inj,h.mem.fn,aa.refl _,λ_ _ c _ _ hcR _=>h.mem.dom c _ hcR⟩
      refine(hc _ _ _ _ _ _ XH Z1 R Z1 _ hm0 ((pn h.slot WN.1.2).append hcaps)).drop ?_;rintro v Z' ⟨R',hle,hv,hm⟩;exact⟨Z1,hm.lT,qZ _ _ Xa hv,rfl⟩
     .cases hr
   .cases hr
  .rw[h0]at hr WN;rw[h0];obtain⟨Z',h1,h2⟩:=xM WN h hr;exact⟨Z',h1,hk R _ (Le.refl R) h2⟩
  .obtain⟨g',h1,h2⟩:=Dj h0 WN h hr;unfold TO;simp only[h0];refine⟨g',h1,λid P'=>?_⟩;obtain⟨R',h3,h4⟩:=h2 id P';exact hk R' _ h3 h4
  .rw[h0]at hr;simp[lC,Em]at hr
  .exact(Fu h0 hr).elim
 .exact vj hw (hk R _ (Le.refl R) (h.put aA.K5))
def oG(draw:Bool)(m:Nat)(i:aD)(l:List aD):oR draw call fl (m+1) (i::l) cs=match(tW draw i).f call fl cs with
 |some Yi=>oR draw call fl m l Yi
 |none=>.bad:=by
 show(@Option.casesOn CS (λ_=>Out) ((tW draw i).f call fl cs) .bad (oR draw call fl m l))=_;cases (tW draw i).f call fl cs<;>rfl
def Fp(hc:wN P call):∀(m:Nat) (l:List aD) (R:Nat->Nat->Prop) (cs:CS) (st:St),oR false call fl m l cs=.nx Yi->l.all rz=true->fW K fl R cs st->
 (∀R' Yy,Le R R'->fW K fl R' Yi Yy->ab P n k Yy Q)->ab P n (.ops l::k) st Q
 |0,_,_,_,_,h,_,_,_=>by cases h
 |m+1,[],R,cs,st,h,_,hs,hk=>by
  have h':Out.nx cs=.nx Yi:=h;simp only[Out.nx.injEq]at h';subst h';exact ab.E4 (hk R st (Le.refl R) hs)
 |m+1,i::l,R,cs,st,h,WL,hs,hk=>by
  rw[oG]at h;simp only[nJ,Ba]at WL;split at h
  .rename_i cs1 h1;refine KM hc WL.1 hs h1 λR' Yy hle WT=>?_;exact Fp hc m l R' cs1 Yy h WL.2 WT λR'' st'' hle' hs''=>hk R'' st'' (hle.trans hle') hs''
  .cases h
def NC(hc:wN P call){K':St->Prop}:∀(m:Nat) (l:List aD) (R:Nat->Nat->Prop) (cs:CS) (st:St),oR true call fl m l cs=.nx Yi->l.all rz=true->fW K fl R cs st->
 (∀R' Yy,Le R R'->fW K fl R' Yi Yy->K' Yy)->gV P K' l st
 |0,_,_,_,_,h,_,_,_=>by cases h
 |m+1,[],R,cs,st,h,_,hs,hk=>by
  have h':Out.nx cs=.nx Yi:=h;simp only[Out.nx.injEq]at h';subst h';exact hk R st (Le.refl R) hs
 |m+1,i::l,R,cs,st,h,WL,hs,hk=>by
  rw[oG]at h;simp only[nJ,Ba]at WL;split at h
  .rename_i cs1 h1;refine Ss hc WL.1 hs h1 λR' Yy hle WT=>?_;exact NC hc m l R' cs1 Yy h WL.2 WT λR'' st'' hle' hs''=>hk R'' st'' (hle.trans hle') hs''
  .cases h
end
def GO(P:Program)(n:Nat)(K:ag)(fl:Nat)(R:Nat->Nat->Prop)(k:List It)(Q:St->Prop):Out->Prop
 |.nx cs=>∀R' st,Le R R'->fW K fl R' cs st->ab P n k st Q
 |.ex id cs=>∃k',jz id k=some k'/\∀R' st,Le R R'->fW K fl R' cs st->ab P n k' st Q
 |.rt cs=>∀R' st,Le R R'->fW K fl R' cs st->Q st
 |.bad=>False
def GO.le{K:ag}{fl:Nat}{R R':Nat->Nat->Prop}{k:List It}{Q:St->Prop}{o:Out}(h:GO P n K fl R k Q o)(hle:Le R R'):GO P n K fl R' k Q o:=by
 cases o
 case bad=>exact h
 case ex=>obtain⟨k',h1,h2⟩:=h;exact⟨k',h1,λR'' st h3 h4=>h2 R'' st (hle.trans h3) h4⟩
 all_goals exact λR'' st h3 h4=>h R'' st (hle.trans h3) h4
def xS(P:Program)(code:FuncId->Option WD):Prop:=∀g vf,code g=some vf->dZ P g=true/\OW vf=true/\∃fn,P.funcs[g]?=some fn/\cfn P fn=some vf
def LOk(P:Program)(code:FuncId->Option WD)(fuel:Nat):Prop:=∀(n:Nat) (K:ag) (fl:Nat) (R:Nat->Nat->Prop) (c:bG) (cs:CS) (st:St) (k:List It) (Q:St->Prop),
 jj c=true->fW K fl R cs st->GO P n K fl R k Q (evL code fuel fl c cs)->ab P n (.code c::k) st Q
def FC(i:Nat):∀(l:List V) (k:Nat) (t:Tr V),nB (.WJ []) i (Tr.ofL l k t)=if k<=i/\i<k+l.length then l.getD (i-k) (.WJ [])else nB (.WJ []) i t
 |[],k,t=>by simp[Tr.ofL];intro h1 h2;omega
 |v::l,k,t=>by
  rw[Tr.ofL,FC i l (k+1),ra];simp only[XX];by_cases h1:i=k
  .subst h1;rw[ao (by omega),aq rfl,aq (by omega)];simp
  .by_cases h2:k+1<=i/\i<k+1+l.length
   .rw[aq h2,aq (by omega),show i-k=(i-(k+1))+1 by omega];simp
   .rw[ao h2,ao h1,ao (by omega)]
def Ec{K:ag}{fl:Nat}{R:Nat->Nat->Prop}{cs:CS}{st:St}(h:fW K fl R cs st){r:VR}(WL:EG r=true){v:V}(hv:gF ⟨cs.sf,stF cs.U⟩ r=some v):
 ∃v',gF st r=some v'/\aA R v v':=by
 cases r<;>simp only[gF,reduceCtorEq,aI]at hv|-
 case tmp x=>subst hv;exact⟨_,rfl,fK h.slot WL⟩
 case cell agg sz x=>exact yQ h.mem.live (fK h.slot WL) hv
def wI{K:ag}{fl:Nat}{R:Nat->Nat->Prop}{cs:CS}{st:St}(h:fW K fl R cs st):∀{l:List VR},l.all EG=true->∀{vs:List V},eI ⟨cs.sf,stF cs.U⟩ l=some vs->
 ∃vs',eI st l=some vs'/\aN R vs vs'
 |[],_,vs,hv=>by simp only[eI,aI]at hv;subst hv;exact⟨[],rfl,by simp[aN]⟩
 |r::l,WL,vs,hv=>by
  simp only[nJ,Ba]at WL;simp only[eI]at hv;split at hv
  .rename_i v h1;split at hv
   .rename_i us h2;simp only[aI]at hv;subst hv;obtain⟨v',g1,g2⟩:=Ec h WL.1 h1;obtain⟨us',g3,g4⟩:=wI h WL.2 h2;exact⟨v'::us',by simp[eI,g1,g3],aN.cp.2 ⟨v',us',rfl,g2,g4⟩⟩
   .cases hv
  .cases hv
def Kx{K:ag}{fl:Nat}{R:Nat->Nat->Prop}{cs:CS}{st:St}(h:fW K fl R cs st){l:List VR}(WL:l.all EG=true){v:V}(hv:nP ⟨cs.sf,stF cs.U⟩ l=some v):
 ∃v',nP st l=some v'/\aA R v v':=by
 unfold nP at hv;cases hr:eI ⟨cs.sf,stF cs.U⟩ l with
 |none=>simp[hr]at hv
 |some vs=>
  obtain⟨vs',g1,g2⟩:=wI h WL hr;rw[hr]at hv;unfold nP;rw[g1]
  match vs,hv,g2 with
  |[],hv,g2=>
   rw[aN.jq]at g2;subst g2;simp only[aI]at hv;subst hv;exact⟨_,rfl,by simp[aA,aN]⟩
  |[u],hv,g2=>
   obtain⟨x,xs,rfl,g3,g4⟩:=aN.cp.1 g2;rw[aN.jq]at g4;subst g4;simp only[aI]at hv;subst hv;exact⟨_,rfl,g3⟩
  |u1::u2::us,hv,g2=>
   obtain⟨x,xs,rfl,g3,g4⟩:=aN.cp.1 g2;obtain⟨y,ys,rfl,g5,g6⟩:=aN.cp.1 g4;simp only[aI]at hv;subst hv;exact⟨_,rfl,by simp only[aA];exact⟨_,rfl,g2⟩⟩
def AL{code:FuncId->Option WD}(hcode:xS P code){fuel:Nat}(ih:LOk P code fuel):wN P (evF (evL code fuel) code):=by
 intro g args Zc X8 fl r hr K R U args' hm XA;unfold evF at hr;split at hr
 .cases hr
 .rename_i vf hvf;rw[jS]at hr;split at hr
  .rename_i hlen;obtain⟨XH,WL,fn,hf,hcf⟩:=hcode g vf hvf;simp only[OW,Ba]at WL;have hlen':=x8 hlen;refine ax.j2 hf hcf XH (by rw[XA.length];exact hlen') ?_;have hs:fW K fl R ⟨Tr.ofL args 0 .e,Zc,X8⟩ ⟨fB args',U⟩:=by
    refine⟨λi=>?_,hm⟩;show aA R (nB (.WJ []) i (Tr.ofL args 0 .e)) (args'.getD i (.WJ []));rw[FC,PI];by_cases hi:i<args.length
    .rw[aq ⟨Nat.zero_le _,by omega⟩,Nat.sub_zero];obtain⟨u,h1,h2⟩:=XA.get (ZF hi);simp only[qo,h1,ZF hi,Option.getD_some];exact h2
    .rw[ao (by omega)];have:args'[i]?=none:=oI (by rw[XA.length];omega);simp only[qo,this,Option.getD_none];simp[aA,aN]
   have XL:∀Yi,L5 vf.res Yi=some r->∀R' st,Le R R'->fW K fl R' Yi st->Ret vf.res st λv Z'=>∃R',Le R R'/\aA R' r.v v/\qG K fl R' (stF r.U) r.X8 Z':=by
    intro Yi hq R' st hle WT;unfold L5 at hq;split at hq
    .rename_i v hv;simp only[aI]at hq;subst hq;obtain⟨v',g1,g2⟩:=Kx WT WL.2 hv;exact⟨v',v',st.U,g1,aa.refl _,Wk.refl (aa.refl _) _,R',hle,g2,WT.mem⟩
    .cases hq
   refine ih vf.n K fl R vf.code _ _ [] _ WL.1 hs ?_;generalize evL code fuel fl vf.code ⟨Tr.ofL args 0 .e,Zc,X8⟩=o at hr;cases o<;>simp only[S1,reduceCtorEq]at hr
   .exact λR' st hle WT=>ab.nil (XL _ hr R' st hle WT)
   .exact λR' st hle WT=>XL _ hr R' st hle WT
  .cases hr
def Ct(code:FuncId->Option WD)(f fl:Nat)(c:bG)(cs:CS):evL code (f+1) fl c cs=match c with
 |.skip=>.nx cs
 |.Za draw l=>Ku draw (evF (evL code f) code) fl l cs
 |.seq a b=>G1 (evL code f fl a cs) λYi=>evL code f fl b Yi
 |.cond c a b=>onB (c.ev cs.sf) (evL code f fl a cs) (evL code f fl b cs)
 |.block id a=>NX id (evL code f fl a cs)
 |.loop a=>G1 (evL code f fl a cs) λYi=>evL code f fl (.loop a) Yi
 |.exit id=>.ex id cs
 |.ret=>.rt cs
 |.ee ..=>.bad
 |.regA ..=>.bad
 |.uM ..=>.bad
 |.bad=>.bad:=rfl
def BJ{draw:Bool}{call:nW}{fl:Nat}:∀(m:Nat) (l:List aD) (cs:CS),(∃Yi,oR draw call fl m l cs=.nx Yi)\/oR draw call fl m l cs=.bad
 |0,_,_=>.inr rfl
 |m+1,[],cs=>.inl ⟨cs,rfl⟩
 |m+1,i::l,cs=>by
  rw[oG];split
  .exact BJ m l _
  .exact .inr rfl
def QM{code:FuncId->Option WD}(hcode:xS P code):∀fuel,LOk P code fuel:=by
 intro fuel
 induction fuel using Nat.strongRecOn with
 |_ fuel ih=>
  intro n K fl R c cs st k Q WL hs Xb;cases fuel with
  |zero=>exact Xb.elim
  |succ f=>
   have ihf:=ih f (by omega);rw[Ct]at Xb;cases c with
   |skip=>exact ab.skip (Xb R st (Le.refl R) hs)
   |Za draw l=>
    simp only[jj]at WL;simp only[Ku]at Xb;rcases BJ (draw:=draw) (call:=evF (evL code f) code) (fl:=fl) 1000 l cs with⟨Yi,he⟩|he
    .rw[he]at Xb;cases draw
     .exact ab.region (Fp (AL hcode ihf) 1000 l R cs st he WL hs Xb)
     .exact ab.Fc (NC (AL hcode ihf) 1000 l R cs st he WL hs Xb)
    .rw[he]at Xb;exact Xb.elim
   |seq a b=>
    simp only[jj,Ba]at WL;refine ab.seq (ihf n K fl R a cs st _ Q WL.1 hs ?_);simp only[G1]at Xb;generalize evL code f fl a cs=o at Xb;cases o with
    |nx cs1=>exact λR1 st1 hle1 YR=>ihf n K fl R1 b cs1 st1 k Q WL.2 YR (Xb.le hle1)
    |ex id cs1=>exact Xb
    |rt cs1=>exact Xb
    |bad=>exact Xb
   |cond c a b=>
    simp only[jj,Ba]at WL;have hv:=fK hs.slot WL.1;have Xb:GO P n K fl R k Q (onB (c.ev cs.sf) (evL code f fl a cs) (evL code f fl b cs)):=Xb;unfold onB at Xb;split at Xb
    .rename_i t ht;rw[ht,aA.oO]at hv;refine ab.cond hv (λe=>?_) (λe=>?_)
     .subst e;exact ihf n K fl R a cs st k Q WL.2.1 hs Xb
     .subst e;exact ihf n K fl R b cs st k Q WL.2.2 hs Xb
    .exact Xb.elim
   |block id a=>
    simp only[jj]at WL;refine ab.block (ihf n K fl R a cs st _ Q WL hs ?_);simp only[NX]at Xb;generalize evL code f fl a cs=o at Xb;cases o with
    |nx cs1=>exact λR1 st1 hle1 YR=>ab.inBlock (Xb R1 st1 hle1 YR)
    |ex j cs1=>
     simp only[F0]at Xb;by_cases hj:j=id
     .subst hj;rw[aq (by rw[Nat.beq_eq])]at Xb;exact⟨k,by simp[jz],Xb⟩
     .rw[ao (by rw[Nat.beq_eq];exact hj)]at Xb;obtain⟨k',h1,h2⟩:=Xb;exact⟨k',by simp[jz,hj,h1],h2⟩
    |rt cs1=>exact Xb
    |bad=>exact Xb
   |loop a=>
    have hok':=WL;simp only[jj]at WL;have ZK:GO P n K fl R k Q (evL code (f+1) fl (.loop a) cs):=Xb;generalize ho:evL code (f+1) fl (.loop a) cs=o at ZK;refine ab.loop (λm st=>m<=f+1/\∃R1 cs1,Le R R1/\fW K fl R1 cs1 st/\evL code m fl (.loop a) cs1=o) (f+1) ⟨Xm _,R,cs,Le.refl R,hs,ho⟩ ?_;rintro m st1 ⟨hm,R1,cs1,hle1,YR,ho1⟩;cases m with
    |zero=>
     have:o=.bad:=ho1.symm;rw[this]at ZK;exact ZK.elim
    |succ m=>
     have ihm:=ih m (by omega);rw[Ct]at ho1;refine ihm n K fl R1 a cs1 st1 _ Q WL YR ?_;simp only[G1]at ho1;generalize evL code m fl a cs1=o1 at ho1;cases o1 with
     |nx cs2=>exact λR2 ZZ hle2 ZM=>ab.stop ⟨m,by omega,by omega,R2,cs2,hle1.trans hle2,ZM,ho1⟩
     |ex id cs2=>
      have ho1:Out.ex id cs2=o:=ho1;rw[<-ho1]at ZK;obtain⟨k',h1,h2⟩:=ZK;exact⟨k',by simpa[jz]using h1,λR2 ZZ hle2 ZM=>h2 R2 ZZ (hle1.trans hle2) ZM⟩
     |rt cs2=>
      have ho1:Out.rt cs2=o:=ho1;rw[<-ho1]at ZK;exact λR2 ZZ hle2 ZM=>ZK R2 ZZ (hle1.trans hle2) ZM
     |bad=>
      have ho1:Out.bad=o:=ho1;rw[<-ho1]at ZK;exact ZK.elim
   |exit id=>
    obtain⟨k',h1,h2⟩:=Xb;exact ab.exit h1 (h2 R st (Le.refl R) hs)
   |ret=>exact ab.ret (Xb R st (Le.refl R) hs)
   |ee g ps a b=>exact Xb.elim
   |regA l W2=>exact Xb.elim
   |uM l e=>exact Xb.elim
   |bad=>exact Xb.elim
def AP(g:V->V->Bool):List V->List V->Bool
 |[],[]=>true
 |v::vs,u::us=>g v u&&AP g vs us
 |_,_=>false
def fzB:Nat->Tr (Option Ob)->V->V->Bool
 |0,_,_,_=>false
 |f+1,U,v,u=>match v with
  |.own id off len=>match u with
   |.sl sz rows=>match nB none id U with
    |some ob=>Nat.beq ob.sz sz&&(Nat.ble (off+len) ob.rows.length&&AP (fzB f U) ((ob.rows.drop off).take len) rows)
    |none=>false
   |_=>false
  |.ay=>match u with
   |.sl _ rows=>rows.isEmpty
   |.ay=>true
   |_=>false
  |.sl sz rows=>match u with
   |.sl sz' WM=>Nat.beq sz sz'&&AP (fzB f U) rows WM
   |_=>false
  |.agg cs=>match u with
   |.agg ds=>AP (fzB f U) cs ds
   |_=>false
  |.WJ cs=>match u with
   |.WJ ds=>AP (fzB f U) cs ds
   |_=>false
  |.int k n=>match u with
   |.int k' n'=>eqK k k'&&eqQ n n'
   |_=>false
  |.bool b=>match u with
   |.bool b'=>b==b'
   |_=>false
  |.str b=>match u with
   |.str b'=>decide (b=b')
   |_=>false
  |.XY=>match u with
   |.XY=>true
   |_=>false
  |_=>false
def MN{a b:Int}(h:eqQ a b=true):a=b:=by
 cases a<;>cases b<;>simp only[eqQ,fG]at h
 .rw[L4 h]
 .rw[L4 h]
def HN{R:Nat->Nat->Prop}{Zt:Tr (Option Ob)}{U:ag}(hm:Lv R (stF Zt) U):∀(f:Nat) (v u v':V),fzB f Zt v v'=true->aA R v u->Fz U (λa=>∃c o,R c a/\stF Zt c=some o) u v'
 |0,_,_,_,h,_=>by simp[fzB]at h
 |f+1,v,u,v',h,hr=>by
  have hL:∀(vs us out:List V),AP (fzB f Zt) vs out=true->aN R vs us->YX U (λa=>∃c o,R c a/\stF Zt c=some o) us out:=by
   intro vs
   induction vs with
   |nil=>
    intro us out h1 h2;rw[aN.jq]at h2;subst h2;cases out with
    |nil=>exact .nil
    |cons a b=>simp[AP]at h1
   |cons a vs ih=>
    intro us out h1 h2;obtain⟨b,bs,rfl,h3,h4⟩:=aN.cp.1 h2;cases out with
    |nil=>simp[AP]at h1
    |cons c cs=>
     simp only[AP,Ba]at h1;exact .cons _ _ _ _ (HN hm f _ _ _ h1.1 h3) (ih _ _ h1.2 h4)
  have Xa:v.eJ=true->v'=v->Fz U (λa=>∃c o,R c a/\stF Zt c=some o) u v':=λh1 h2=>by
   have:=qZ v u h1 hr;rw[this,h2];exact .same v h1
  simp only[fzB]at h;cases v<;>simp only[fG]at h
  case own id off len=>
   split at h
   .split at h
    .rename_i ob Xz;simp only[Ba]at h;obtain⟨h1,h2,h3⟩:=h;simp only[aA]at hr;obtain⟨YQ,rfl,hR⟩:=hr;obtain⟨WM,g1,g2⟩:=hm _ YQ ob hR Xz;have:=hL _ _ _ h3 ((g2.drop _).take _);rw[<-L4 h1];exact .own YQ _ _ ⟨ob.elem,ob.sz,WM⟩ _ g1 ⟨_,ob,hR,Xz⟩ (by rw[g2.length];exact x8 h2) this
    .cases h
   .cases h
  case ay=>
   split at h
   .rename_i sz rows;simp only[aA]at hr;subst hr;have:rows=[]:=by simpa using h
    subst this;exact .nil _
   .exact Xa rfl rfl
   .cases h
  case sl sz rows=>
   split at h
   .simp only[Ba]at h;simp only[aA]at hr;obtain⟨WM,rfl,hr⟩:=hr;rw[<-L4 h.1];exact .sl _ _ _ (hL _ _ _ h.2 hr)
   .cases h
  case agg cs=>
   split at h
   .simp only[aA]at hr;obtain⟨es,rfl,hr⟩:=hr;exact .agg _ _ (hL _ _ _ h hr)
   .cases h
  case WJ cs=>
   split at h
   .simp only[aA]at hr;obtain⟨es,rfl,hr⟩:=hr;exact .WJ _ _ (hL _ _ _ h hr)
   .cases h
  case int k n=>
   split at h
   .simp only[Ba]at h;refine Xa rfl ?_;rw[MN h.2,of_decide_eq_true h.1]
   .cases h
  case bool b=>
   split at h
   .refine Xa rfl ?_;rw[eq_of_beq h]
   .cases h
  case str b=>
   split at h
   .refine Xa rfl ?_;rw[of_decide_eq_true h]
   .cases h
  case XY=>
   split at h
   .exact Xa rfl rfl
   .cases h
def HH(code:FuncId->Option WD)(fuel:Nat)(f:FuncId)(args:List V)(v:V):Bool:=match evF (evL code fuel) code f args .e 0 0 with
 |some r=>fzB 10 r.U r.v v
 |none=>false
def aK.xT{P:Program}{code:FuncId->Option WD}(hcode:xS P code){fuel:Nat}{f:FuncId}{args:List V}{v:V}(ha:gz args=true)
 (h:HH code fuel f args v=true):aK P f args v:=by
 intro U;unfold HH at h;split at h
 .rename_i r hr;have hm:qG U 0 (λ_ _=>False) (stF .e) 0 U:=⟨λ_ _ h=>h.elim,λ_ _ _ h=>h.elim,λ_ _ _ _ _ h=>h.elim,λ_ _ _ h=>h.elim,aa.refl U,λ_ _ _ _ _ h=>h.elim⟩
  refine(AL hcode (QM hcode fuel) f args .e 0 0 r hr U _ U args hm (fV args ha)).Gc ?_;rintro u Z' ⟨R',_,h1,h2⟩;refine⟨v,U,h2.lT,(HN h2.live 10 r.v u v h h1).wk h2.lT ?_,rfl,rfl⟩;rintro a ⟨c,o,hc,ho⟩;cases hk:U a with
  |none=>rfl
  |some x=>have:=h2.kfl a x c o hk hc ho;omega
 .cases h
open Go.Proofs Go.Proofs.Tryz
def cdF(P:Program)(l:List Nat)(f:FuncId):Option WD:=
 if l.contains f then(P.funcs[f]?).bind λfn=>(cfn P fn).bind λvf=>if dZ P f&&OW vf then some vf else none else none
def NM(P:Program)(l:List Nat):xS P (cdF P l):=by
 intro g vf h;unfold cdF at h;split at h
 .simp only[SW]at h;obtain⟨fn,h1,vf',h2,h3⟩:=h;split at h3
  .rename_i h4;simp only[Ba]at h4;simp only[aI]at h3;subst h3;exact⟨h4.1,h4.2,fn,h1,h2⟩
  .cases h3
 .cases h
def RT:List Nat:=[20,38,39,77,78,79,80,81,136,137,138,139,192,193,194,195,196,245]
noncomputable def UQ:FuncId->Option WD:=cdF prog RT
def rj:xS prog UQ:=NM _ _
open Go.Proofs Go.Proofs.Tryz
def SP:YA:=⟨0,0,0,0,0,0,0,0,0,0,0,0⟩
def HE(n:Int):Nd:=⟨1,n,⟨0,0,0,0,0,1,1,0,0,0,0,0⟩,0,0,[],0,0,0⟩
def J6(ws:List Int):Nd:=⟨2,1,SP,10,0,ws,0,0,0⟩
def Ah:List Nd:=[HE 2,J6 [5,5,5]]
def Sa:List Nd:=[HE 2,J6 [5,5,5],⟨3,1,SP,0,0,[],0,3,4⟩]
def Sv:List Nd:=[HE 2,J6 [5,5,6]]
def Ta:List Nd:=[HE 2,J6 [5,6,5]]
def R7:List Nd:=[HE 2,J6 [5,5,5,5]]
set_option maxRecDepth 1000000
def SO:aK prog 20 [.str [91,111,49,119,49,32,40,49,48,32,48,32,53,32,53,32,53,41,93]] (.WJ [aC Ah,vI 0,vI 0]):=aK.xT (fuel:=3000) rj rfl (by kernel_rfl)
def Sk:aK prog 20 [.str [91,111,49,119,49,32,40,49,48,32,48,32,53,32,53,32,53,41,93,123,51,32,52,125]] (.WJ [aC Sa,vI 0,vI 0]):=aK.xT (fuel:=3000) rj rfl (by kernel_rfl)
def SQ:aK prog 20 [.str [91,111,49,119,49,32,40,49,48,32,48,32,53,32,53,32,54,41,93]] (.WJ [aC Sv,vI 0,vI 0]):=aK.xT (fuel:=3000) rj rfl (by kernel_rfl)
def RL:aK prog 20 [.str [91,111,49,119,49,32,40,49,48,32,48,32,53,32,54,32,53,41,93]] (.WJ [aC Ta,vI 0,vI 0]):=aK.xT (fuel:=3000) rj rfl (by kernel_rfl)
def R6:aK prog 20 [.str [91,111,49,119,49,32,40,49,48,32,48,32,53,32,53,32,53,32,53,41,93]] (.WJ [aC R7,vI 0,vI 0]):=aK.xT (fuel:=3000) rj rfl (by kernel_rfl)
open Go.Proofs Go.Proofs.Tryz
def wz(s:List UInt8)(l:List Nd)(x y:V)(Ya:aK prog 20 [.str s] (.WJ [aC l,x,y])):aK prog 67 [.str s] (aC l):=λU=>by
 refine e67.r (by simp[c67]) ?_;refine ab.mix 6 ?_;apply sR;simp only[go_sem,seval,c67];refine ab.au rfl rfl rfl (Ya _) ?_;apply sR;simp only[go_sem,seval];exact ak.same rfl
def qY(a:aK prog 67 [.str [91,111,49,119,49,32,40,49,48,32,48,32,53,32,53,32,53,41,93]] (aC Ah))(s:List UInt8)(l:List Nd)(hl:cU l)(k:aK prog 67 [.str s] (aC l))(n:Int)
 (h1:iO Ah l 8 20=0)(h2:(jM (aP Ah 8 20) (aP l 8 20):Int)=n):aK prog 33 [.str s,vI n] (.bool true):=λU=>by
 refine e33.r (by simp[c33]) ?_;have hc:=FD Ah l ⟨by decide,by decide⟩ hl 8 20;rw[aq h1,h1]at hc;have q:(((jM (aP Ah 8 20) (aP l 8 20):Nat):Int)=n)=True:=WE h2;generalize jM (aP Ah 8 20) (aP l 8 20)=M at*;generalize Ah=D at*;refine ab.mix 7 ?_;apply sR;simp only[go_sem,seval,c33];refine ab.au rfl rfl rfl (a _) ?_;apply sR;simp only[go_sem,seval];refine ab.au rfl rfl rfl (k _) ?_;apply sR;simp only[go_sem,seval];refine ab.au rfl rfl rfl (hc _) ?_;apply sR;simp only[go_sem,seval,q];exact ak.same rfl
def Qr:aK prog 17 [] (.bool true):=λU=>by
 refine e17.r (by simp[c17]) ?_;have a:=wz _ _ _ _ SO;have k1:=qY a _ Ah ⟨by decide,by decide⟩ a 2 (by kernel_rfl) (by kernel_rfl);have k2:=qY a _ Sa ⟨by decide,by decide⟩ (wz _ _ _ _ Sk) 1 (by kernel_rfl) (by kernel_rfl);have k3:=qY a _ Sv ⟨by decide,by decide⟩ (wz _ _ _ _ SQ) 0 (by kernel_rfl) (by kernel_rfl);have k4:=qY a _ Ta ⟨by decide,by decide⟩ (wz _ _ _ _ RL) 0 (by kernel_rfl) (by kernel_rfl);have k5:=qY a _ R7 ⟨by decide,by decide⟩ (wz _ _ _ _ R6) 1 (by kernel_rfl) (by kernel_rfl);clear a;refine ab.mix 1 ?_;apply sR;simp only[go_sem,seval,c17];refine ab.au rfl rfl rfl (k1 _) ?_;apply sR;simp only[go_sem,seval];refine ab.au rfl rfl rfl (k2 _) ?_;apply sR;simp only[go_sem,seval];refine ab.au rfl rfl rfl (k3 _) ?_;apply sR;simp only[go_sem,seval];refine ab.au rfl rfl rfl (k4 _) ?_;apply sR;simp only[go_sem,seval];refine ab.au rfl rfl rfl (k5 _) ?_;apply sR;simp only[go_sem,seval];exact ak.same rfl
def zp:∀(U:ag) (i:Nat) (h:i<([]:List Xd).length),bo U 5 .ay (.int .i64 i)=some (.rp (aL ([]:List Xd)[i])):=λ_ i h=>absurd h (by simp)
open Go.RowKit
variable {P:Program} {n:Nat} {st:St} {Q:St->Prop} {k:List It} {I:Mu} {w:World}
def Jt(c:IntKind)(m:Int):Value->Bool
 |.int c' m'=>decide (c'=c/\m'=m)
 |_=>false
def ke{c:IntKind}{m m':Int}:Jt c m (.int c m')=decide (m'=m):=by simp[Jt]
def gg(c:IntKind)(m:Int):List MapEntry->List V->Option V
 |e::es,v::vs=>if Jt c m e.key then some v else gg c m es vs
 |_,_=>none
structure nX(c:IntKind)(es:List MapEntry)(env:List V)(f:Int->Option V):Prop where
 len:es.length=env.length
 keys:∀e∈es,∃m,e.key=.int c m
 get:∀m,gg c m es env=f m
 apart:es.Pairwise λa b=>a.key≠b.key
def mo(c:IntKind)(U:ag)(id:Nat)(f:Int->Option V):Prop:=
 ∃(es:Array MapEntry) (clock:Nat) (env:List V),U id=some (gh (.map es clock) env)/\nX c es.toList env f
def mo.sub{c:IntKind}{U Z':ag}{id:Nat}{f:Int->Option V}(h:mo c U id f)(hs:aa U Z'):mo c Z' id f:=by
 obtain⟨es,clock,env,h1,h2⟩:=h;exact⟨es,clock,env,hs _ _ h1,h2⟩
def mo.ne{c:IntKind}{U:ag}{id j:Nat}{f:Int->Option V}{e:TypeId}{sz:Nat}{rows:List V}(h:mo c U id f)(hj:U j=some ⟨e,sz,rows⟩)(hz:sz≠0):j≠id:=by
 rintro rfl;obtain⟨es,clock,env,h1,_⟩:=h;rw[h1]at hj;simp only[gh,aI,Ob.mk.injEq]at hj;exact hz hj.2.1.symm
def wR(c:IntKind)(kk:IntKind)(m:Int):∀(es:List MapEntry) (env:List V) (i:Nat),es.length=env.length->(∀e∈es,∃m,e.key=.int c m)->
 (gg c m es env=none/\Instr.findNow (.int kk) (.int c m) es i=some none/\∀e∈es,e.key≠.int c m)\/
 (∃j e v,es[j]?=some e/\env[j]?=some v/\e.key=.int c m/\gg c m es env=some v/\Instr.findNow (.int kk) (.int c m) es i=some (some (i+j,e.val)))
 |[],env,i,_,_=>.inl ⟨by simp[gg],by simp[Instr.findNow],by simp⟩
 |e::es,[],i,hl,_=>by simp at hl
 |e::es,v::vs,i,hl,hk=>by
  obtain⟨m',hm'⟩:=hk e (by simp);by_cases hm:m'=m
  .subst hm;refine .inr ⟨0,e,v,rfl,rfl,hm',by simp[gg,hm',ke],?_⟩;simp[Instr.findNow,Instr.sameNow,hm']
  .have hmm:¬m=m':=λe=>hm e.symm;have hg:gg c m (e::es) (v::vs)=gg c m es vs:=by simp[gg,hm',ke,hm]
   have hf:Instr.findNow (.int kk) (.int c m) (e::es) i=Instr.findNow (.int kk) (.int c m) es (i+1):=by
    have hb:(m==m')=false:=by simpa using hmm
    simp[Instr.findNow,Instr.sameNow,hm',hb]
   rcases wR c kk m es vs (i+1) (by simpa using hl) (λx hx=>hk x (by simp[hx]))with⟨h1,h2,h3⟩|⟨j,e',v',h1,h2,h3,h4,h5⟩
   .refine .inl ⟨by rw[hg,h1],by rw[hf,h2],λx hx=>?_⟩;rcases dc.1 hx with rfl|hx
    .rw[hm'];intro e;cases e;exact hm rfl
    .exact h3 x hx
   .refine .inr ⟨j+1,e',v',by simpa using h1,by simpa using h2,h3,by rw[hg,h4],?_⟩;rw[hf,h5,show i+1+j=i+(j+1) by omega]
def vQ{c:IntKind}{m:Int}{v:V}{e':MapEntry}(he':e'.key=.int c m)(m':Int):∀(es:List MapEntry) (env:List V) (j:Nat) (e:MapEntry),es.length=env.length->(∀e∈es,∃m,e.key=.int c m)->
 es.Pairwise (λa b=>a.key≠b.key)->es[j]?=some e->e.key=.int c m->gg c m' (es.set j e') (env.set j v)=if m'=m then some v else gg c m' es env
 |[],_,j,e,_,_,_,h,_=>by simp at h
 |x::es,[],j,e,hl,_,_,_,_=>by simp at hl
 |x::es,u::us,0,e,hl,hk,hp,h,he=>by
  simp at h;subst h;simp only[List.set_cons_zero,gg,he',he,ke];by_cases hm:m'=m
  .subst hm;simp
  .have:¬m=m':=λe=>hm e.symm;simp[hm,this]
 |x::es,u::us,j+1,e,hl,hk,hp,h,he=>by
  obtain⟨mx,hmx⟩:=hk x (by simp);have hpx:=(List.pairwise_cons.1 hp)
  have W6:mx≠m:=by
   rintro rfl;exact hpx.1 e (ym (by simpa using h)) (by rw[hmx,he])
  have ih:=vQ he' m' (v:=v) es us j e (by simpa using hl) (λy hy=>hk y (by simp[hy])) hpx.2 (by simpa using h) he;simp only[List.set_cons_succ,gg,hmx,ke];by_cases hm:mx=m'
  .have:¬m'=m:=λe=>W6 (hm.trans e);simp[hm,this]
  .simp only[hm,decide_false,fG,if_false];exact ih
def tN{c:IntKind}{m:Int}{v:V}{e':MapEntry}(he':e'.key=.int c m)(m':Int):∀(es:List MapEntry) (env:List V),es.length=env.length->(∀e∈es,∃m,e.key=.int c m)->
 (∀e∈es,e.key≠.int c m)->gg c m' (es++[e']) (env++[v])=if m'=m then some v else gg c m' es env
 |[],[],_,_,_=>by
  simp only[j5,gg,he',ke];by_cases hm:m'=m
  .subst hm;simp
  .have:¬m=m':=λe=>hm e.symm;simp[hm,this]
 |[],_::_,hl,_,_=>by simp at hl
 |x::es,[],hl,_,_=>by simp at hl
 |x::es,u::us,hl,hk,hn=>by
  obtain⟨mx,hmx⟩:=hk x (by simp);have W6:mx≠m:=by
   rintro rfl;exact hn x (by simp) hmx
  have ih:=tN he' m' (v:=v) es us (by simpa using hl) (λy hy=>hk y (by simp[hy])) (λy hy=>hn y (by simp[hy]));simp only[List.cons_append,gg,hmx,ke];by_cases hm:mx=m'
  .have:¬m'=m:=λe=>W6 (hm.trans e);simp[hm,this]
  .simp only[hm,decide_false,fG,if_false];exact ih
def nX.set{c:IntKind}{es:List MapEntry}{env:List V}{f:Int->Option V}(h:nX c es env f){m:Int}{v:V}{j:Nat}{e e':MapEntry}(hj:es[j]?=some e)(he:e.key=.int c m)(he':e'.key=.int c m):
 nX c (es.set j e') (env.set j v) λm'=>if m'=m then some v else f m' where
 len:=by simp[h.len]
 keys:=λx hx=>by
  rcases List.mem_or_eq_of_mem_set hx with hx|rfl
  .exact h.keys x hx
  .exact⟨m,he'⟩
 get:=λm'=>by rw[vQ he' m' es env j e h.len h.keys h.apart hj he,h.get m']
 apart:=by
  have hmap:(es.set j e').map (·.key)=es.map (·.key):=by
   rw[List.map_set,he',<-he];apply List.ext_getElem?;intro i;rw[List.getElem?_set];split
   .rename_i e1;subst e1;split
    .simp[hj]
    .rename_i hge;rw[oI (by omega)]
   .rfl
  have h1:(es.map (·.key)).Pairwise (·≠·):=List.pairwise_map.2 h.apart;rw[<-hmap]at h1;exact List.pairwise_map.1 h1
def nX.push{c:IntKind}{es:List MapEntry}{env:List V}{f:Int->Option V}(h:nX c es env f){m:Int}{v:V}{e':MapEntry}(hn:∀e∈es,e.key≠.int c m)(he':e'.key=.int c m):
 nX c (es++[e']) (env++[v]) λm'=>if m'=m then some v else f m' where
 len:=by simp[h.len]
 keys:=λx hx=>by
  rcases dE.1 hx with hx|hx
  .exact h.keys x hx
  .simp at hx;subst hx;exact⟨m,he'⟩
 get:=λm'=>by rw[tN he' m' es env h.len h.keys hn,h.get m']
 apart:=by
  rw[List.pairwise_append];refine⟨h.apart,by simp,λa ha b hb=>?_⟩;simp at hb;subst hb;rw[he'];exact hn a ha
open Go.RowKit
variable {P:Program} {n:Nat} {st:St} {Q:St->Prop} {k:List It} {I:Mu} {w:World}
def yY{t e:TypeId}(h:C1 P t=some e):∃kt kk,P.underlying t=some (.map kt e)/\P.underlying kt=some (.int kk):=by
 unfold C1 at h;split at h
 .rename_i kt et ht;split at h
  .rename_i kk hk;simp only[aI]at h;subst h;exact⟨kt,kk,ht,hk⟩
  .cases h
 .cases h
def Hf{o:Op}{xs:List VX}(h:WX P n o=.more .mkMap xs):∃t,o=.makeMap t none/\xs=[]:=by
 cases o
 case makeMap t r=>
  simp only[WX]at h;split at h
  .rename_i hc;simp only[Ba,Option.isNone_iff_eq_none]at hc;obtain⟨rfl,_⟩:=hc;simp only[W5.more.injEq,true_and]at h;exact⟨t,rfl,h.symm⟩
  .cases h
 case call c=>
  obtain⟨callee,args,argTypes⟩:=c;cases callee
  case value=>simp[WX]at h
  case invoke r name=>simp[WX]at h
  case builtin b=>cases b<;>(simp only[WX]at h;(repeat' split at h)<;>cases h)
 case unOp op t x=>cases op<;>simp only[WX]at h<;>cases h
 case makeFunc f a b=>cases f<;>simp only[WX]at h<;>(repeat' split at h)<;>cases h
 all_goals (simp only[WX,cy]at h;(repeat' split at h)<;>cases h)
def Im{o:Op}{xs:List VX}(h:WX P n o=.more .GY xs):∃t m y x,(o=.insert t m y x\/o=.mapUpdate t m y x)/\(C1 P t).isSome=true/\xs=[cx n m,cx n y,cx n x]:=by
 cases o
 case insert t m y x=>
  simp only[WX]at h;split at h
  .rename_i hc;simp only[W5.more.injEq,true_and]at h;exact⟨t,m,y,x,.inl rfl,hc,h.symm⟩
  .cases h
 case mapUpdate t m y x=>
  simp only[WX]at h;split at h
  .rename_i hc;simp only[W5.more.injEq,true_and]at h;exact⟨t,m,y,x,.inr rfl,hc,h.symm⟩
  .cases h
 case call c=>
  obtain⟨callee,args,argTypes⟩:=c;cases callee
  case value=>simp[WX]at h
  case invoke r name=>simp[WX]at h
  case builtin b=>cases b<;>(simp only[WX]at h;(repeat' split at h)<;>cases h)
 case unOp op t x=>cases op<;>simp only[WX]at h<;>cases h
 case makeFunc f a b=>cases f<;>simp only[WX]at h<;>(repeat' split at h)<;>cases h
 all_goals (simp only[WX,cy]at h;(repeat' split at h)<;>cases h)
def Hs{o:Op}{xs:List VX}{ok:Bool}{zv:V}(h:WX P n o=.more (.uv ok zv) xs):∃t x y e i z,o=.lookup t x y ok/\C1 P t=some e/\zeroOf P e=some (i,z)/\zv=ofValue z/\xs=[cx n x,cx n y]:=by
 cases o
 case lookup t x y ok'=>
  simp only[WX]at h;split at h
  .rename_i e he;split at h
   .rename_i i z hz;simp only[W5.more.injEq,MOp.uv.injEq]at h;obtain⟨⟨rfl,rfl⟩,rfl⟩:=h;exact⟨t,x,y,e,i,z,rfl,he,hz,rfl,rfl⟩
   .cases h
  .cases h
 case call c=>
  obtain⟨callee,args,argTypes⟩:=c;cases callee
  case value=>simp[WX]at h
  case invoke r name=>simp[WX]at h
  case builtin b=>cases b<;>(simp only[WX]at h;(repeat' split at h)<;>cases h)
 case unOp op t x=>cases op<;>simp only[WX]at h<;>cases h
 case makeFunc f a b=>cases f<;>simp only[WX]at h<;>(repeat' split at h)<;>cases h
 all_goals (simp only[WX,cy]at h;(repeat' split at h)<;>cases h)
def rN{b:Nat}{es:Array MapEntry}{c:Nat}(h:w.heap[b]?=some (.map es c)):(getObj b).run P w=.ok (.map es c) w:=by simp[getObj,Sem.run,h]
def BG{b:Nat}{es:Array MapEntry}{c:Nat}(o':Obj)(h:w.heap[b]?=some (.map es c)):(setObj b o').run P w=.ok () (w.putObj b o'):=by simp[setObj,Sem.run,h,World.putObj]
def mO{em:Bool}{t:TypeId}{kk c:IntKind}{m:Int}(h:P.underlying t=some (.int kk)):(Instr.checkKey em 10000 t (.int c m)).run P w=.ok () w:=by
 show(Instr.checkKey em (9999+1) t (.int c m)).run P w=.ok () w;rw[Instr.checkKey];simp[run_underlying h]
def oV{t:TypeId}{kk c:IntKind}{m:Int}(h:P.underlying t=some (.int kk)){es:List MapEntry}{r:Option (Nat×Value)}(hf:Instr.findNow (.int kk) (.int c m) es 0=some r):
 (Instr.findKey t (.int c m) es).run P w=.ok r w:=by
 simp[Instr.findKey,run_underlying h,hf]
def Aq{c:IntKind}{m:Int}:(Instr.keyThatStays (.int c m) (.int c m)).run P w=.ok (.int c m) w:=by
 have:Instr.sameBits 10000 (.int c m) (.int c m)=true:=by
  show Instr.sameBits (9999+1) (.int c m) (.int c m)=true;simp[Instr.sameBits]
 simp[Instr.keyThatStays,this]
def ar.set{ow:Nat->Prop}:∀{vs:List V} {l:List Value} {v:V} {x:Value} (j:Nat),ar I ow w vs l->E' I ow w v x->ar I ow w (vs.set j v) (l.set j x)
 |[],l,v,x,j,h,hv=>by simp only[ar]at h;subst h;simp[ar]
 |u::us,l,v,x,0,h,hv=>by
  simp only[ar]at h;obtain⟨y,ys,rfl,h1,h2⟩:=h;simp only[List.set_cons_zero,ar];exact⟨x,ys,rfl,hv,h2⟩
 |u::us,l,v,x,j+1,h,hv=>by
  simp only[ar]at h;obtain⟨y,ys,rfl,h1,h2⟩:=h;simp only[List.set_cons_succ,ar];exact⟨y,_,rfl,h1,ar.set j h2 hv⟩
def ab.mkMap{i:aD}{l:List aD}{xs:List VX}(hw:aZ st.s i.g=some true)(ho:i.op=.more .mkMap xs)
 (h:∀id,st.U id=none->ab P n (.ops l::k) ⟨aQ st.s i.dst (.mp id),C' st.U id (gh (.map #[] 0) [])⟩ Q):ab P n (.ops (i::l)::k) st Q:=by
 refine ab.ins (by rw[ho];simp) hw λF hn I a w o all hi hs next Q' WK=>?_
 subst hn;obtain⟨WN,hd⟩:=cY hi;rw[ho]at WN;obtain⟨t,h1,_⟩:=Hf WN;obtain⟨id,P',Y',g1,g2,g3,g4⟩:=hs.sat.SJ (.map #[] 0) [] (by simp[ar,tmpsOf]);have Xi:(execOp a.eval o).run P w=.ok (.value (.map (some w.heap.size))) (w.alloc (.map #[] 0)):=by
  unfold execOp;rw[h1];simp[Instr.makeMap]
  all_goals rfl
 unfold Oper.wp;rw[Xi];refine WK _ _ _ ⟨Y',?_⟩ (h id P');rw[<-hd];exact hs.step g3 g2 g4 (by simp) (by simp[E',g1])
def IE{i:aD}{xm xk:VX}{ok:Bool}{zv:V}(ho:i.op=.more (.uv ok zv) [xm,xk]){id:Nat}{c:IntKind}{f:Int->Option V}{m:Int}
 (hm:xm.ev st.s=.mp id)(hmap:mo c st.U id f)(hk:xk.ev st.s=.int c m){K:St->Prop}
 (h:K ⟨aQ st.s i.dst (if ok then .WJ [(f m).getD zv,.bool (f m).isSome]else(f m).getD zv),st.U⟩):
 ∀(F:Fr),F.n=n->∀(I:Mu) (a:Act) (w:World) (o:Oper) (all:Array Oper),bM P n all o=i->cQ F I st a w->
  ∀(next:Act->World->Prop) (Q':Exit->Act->World->Prop),(∀Yy a' w',ew F Yy a' w'->K Yy->next a' w')->o.wp P a w next Q':=by
 intro F hn I a w o all hi hs next Q' WK
 subst hn;obtain⟨WN,hd⟩:=cY hi;rw[ho]at WN;obtain⟨t,x,y,e,ti,z,g1,g2,g3,rfl,g4⟩:=Hs WN;simp only[List.cons.injEq,and_true]at g4;obtain⟨rfl,rfl⟩:=g4;obtain⟨kt,kk,u1,u2⟩:=yY g2;obtain⟨es,clock,env,W4,hrel⟩:=hmap;have hr:=bU hs x;have hrk:=bU hs y;rw[hm]at hr;rw[hk]at hrk;simp only[E']at hr hrk;split at hr
 .rename_i b cap P';obtain⟨Xz,henv⟩:=hs.sat.Ma W4 P';simp only[tmpsOf]at henv;rcases wR c kk m es.toList env 0 hrel.len hrel.keys with⟨q1,q2,q3⟩|⟨j,en,v,q1,q2,q3,q4,q5⟩
  .rw[hrel.get m]at q1;rw[q1]at h;have Xi:(Instr.lookup t (a.eval x) (a.eval y) ok).run P w=.ok (if ok then .tuple #[z,.bool false]else z) w:=by
    simp[Instr.lookup,run_underlying u1,hr,hrk,rN Xz,mO u2,oV u2 q2,dS g3]
   have hx:(execOp a.eval o).run P w=.ok (.value (if ok then .tuple #[z,.bool false]else z)) w:=by
    unfold execOp;rw[g1];simp[Xi]
   unfold Oper.wp;rw[hx];refine WK _ _ _ ⟨I,?_⟩ h;rw[<-hd];have hz:E' I (az I st.U) w (ofValue z) z:=oK z;refine hs.pure ?_;cases ok
   .simpa using hz
   .simp only[if_true,Option.getD_none,Option.isSome_none,E'];exact⟨_,rfl,by simp only[ar,E'];exact⟨_,_,rfl,hz,_,_,rfl,rfl,rfl⟩⟩
  .rw[hrel.get m]at q4;rw[q4]at h;rw[iV]at q5;have hv:E' I (az I st.U) w v en.val:=by
    obtain⟨x',W8,hrx⟩:=henv.get q2;rw[rB,q1]at W8;simp at W8;subst W8;exact hrx
   have Xi:(Instr.lookup t (a.eval x) (a.eval y) ok).run P w=.ok (if ok then .tuple #[en.val,.bool true]else en.val) w:=by
    simp[Instr.lookup,run_underlying u1,hr,hrk,rN Xz,mO u2,oV u2 q5]
   have hx:(execOp a.eval o).run P w=.ok (.value (if ok then .tuple #[en.val,.bool true]else en.val)) w:=by
    unfold execOp;rw[g1];simp[Xi]
   unfold Oper.wp;rw[hx];refine WK _ _ _ ⟨I,?_⟩ h;rw[<-hd];refine hs.pure ?_;cases ok
   .simpa using hv
   .simp only[if_true,Option.getD_some,Option.isSome_some,E'];exact⟨_,rfl,by simp only[ar,E'];exact⟨_,_,rfl,hv,_,_,rfl,rfl,rfl⟩⟩
 .exact hr.elim
open Go.RowKit
variable {P:Program} {n:Nat} {st:St} {Q:St->Prop} {k:List It} {I:Mu} {w:World}
def qp{α:Type}{f:α->α}:∀(l:List α) (j:Nat) (x:α),l[j]?=some x->l.modify j f=l.set j (f x)
 |[],j,x,h=>by simp at h
 |y::l,0,x,h=>by simp at h;subst h;rfl
 |y::l,j+1,x,h=>by
  have:=qp (f:=f) l j x (by simpa using h);rw[List.modify_succ_cons,List.set_cons_succ,this]
def MT{i:aD}{xm xk xv:VX}(ho:i.op=.more .GY [xm,xk,xv]){id:Nat}{c:IntKind}{f:Int->Option V}{m:Int}{v:V}
 (hm:xm.ev st.s=.mp id)(hmap:mo c st.U id f)(hk:xk.ev st.s=.int c m)(hv:xv.ev st.s=v){K:St->Prop}
 (h:∀ob:Ob,ob.sz=0->mo c (C' st.U id ob) id (λm'=>if m'=m then some v else f m')->K ⟨aQ st.s i.dst (.WJ []),C' st.U id ob⟩):
 ∀(F:Fr),F.n=n->∀(I:Mu) (a:Act) (w:World) (o:Oper) (all:Array Oper),bM P n all o=i->cQ F I st a w->
  ∀(next:Act->World->Prop) (Q':Exit->Act->World->Prop),(∀Yy a' w',ew F Yy a' w'->K Yy->next a' w')->o.wp P a w next Q':=by
 intro F hn I a w o all hi hs next Q' WK
 subst hn;obtain⟨WN,hd⟩:=cY hi;rw[ho]at WN;obtain⟨t,x,y,z,g1,g2,g4⟩:=Im WN;simp only[List.cons.injEq,and_true]at g4;obtain⟨rfl,rfl,rfl⟩:=g4;obtain⟨e,he⟩:=Option.isSome_iff_exists.1 g2;obtain⟨kt,kk,u1,u2⟩:=yY he;obtain⟨es,clock,env,W4,hrel⟩:=hmap;have hr:=bU hs x;have hrk:=bU hs y;have hrv:=bU hs z;rw[hm]at hr;rw[hk]at hrk;rw[hv]at hrv;simp only[E']at hr hrk;split at hr
 .rename_i b cap P';obtain⟨Xz,henv⟩:=hs.sat.Ma W4 P';simp only[tmpsOf]at henv;have XL:∀(o':Obj) (env':List V),(∀es' clock',o'=.map es' clock'->nX c es'.toList env' (λm'=>if m'=m then some v else f m'))->(∃es' clock',o'=.map es' clock')->ar I (az I st.U) w env' (tmpsOf o')->
   (Instr.mapUpdate t (a.eval x) (a.eval y) (a.eval z)).run P w=.ok () (w.putObj b o')->o.wp P a w next Q':=by
   intro o' env' hmr hmap' Zn Xi;have hx:(execOp a.eval o).run P w=.ok .skip (w.putObj b o'):=by
    unfold execOp;rcases g1 with g1|g1<;>(rw[g1];simp[Xi])
   have hset:=hs.sat.RK W4 P' o' env' Zn;obtain⟨es',clock',rfl⟩:=hmap';unfold Oper.wp;rw[hx];refine WK _ _ _ ⟨I,?_⟩ (h (gh (.map es' clock') env') rfl ⟨es',clock',env',af,hmr _ _ rfl⟩);rw[<-hd];exact hs.step hset.1 (cI.refl _) hset.2 (by simp) (by simp only[E'];exact⟨[],rfl,by simp[ar]⟩)
  rcases wR c kk m es.toList env 0 hrel.len hrel.keys with⟨q1,q2,q3⟩|⟨j,en,v0,q1,q2,q3,q4,q5⟩
  .refine XL (.map (es.push { key:=.int c m,val:=a.eval z,born:=clock }) (clock+1)) (env++[v]) (λes' clock' e=>?_) ⟨_,_,rfl⟩ ?_ ?_
   .cases e;rw[Array.toList_push];exact hrel.push q3 rfl
   .simp only[tmpsOf,Array.toList_push,gC,ej,List.map_nil];exact henv.append (by simp only[ar];exact⟨_,_,rfl,hrv,rfl⟩)
   .simp[Instr.mapUpdate,run_underlying u1,hr,hrk,rN Xz,mO u2,oV u2 q2,BG _ Xz]
  .rw[iV]at q5;refine XL (.map (es.modify j λe=>{ e with key:=.int c m,val:=a.eval z }) clock) (env.set j v) (λes' clock' e=>?_) ⟨_,_,rfl⟩ ?_ ?_
   .cases e;have hl:(es.modify j λe=>{ e with key:=.int c m,val:=a.eval z }).toList=es.toList.set j { en with key:=.int c m,val:=a.eval z }:=by
     rw[Array.toList_modify,qp _ _ _ q1]
    rw[hl];exact hrel.set q1 q3 rfl
   .have hl:(es.modify j λe=>{ e with key:=.int c m,val:=a.eval z }).toList=es.toList.set j { en with key:=.int c m,val:=a.eval z }:=by
     rw[Array.toList_modify,qp _ _ _ q1]
    simp only[tmpsOf,hl,List.map_set];exact ar.set j henv hrv
   .have hkey:((es[j]?).map (·.key)).getD (.int c m)=.int c m:=by
     rw[<-Array.getElem?_toList,q1];simp[q3]
    simp[Instr.mapUpdate,run_underlying u1,hr,hrk,rN Xz,mO u2,oV u2 q5,BG _ Xz,hkey,Aq]
 .exact hr.elim
open Go.RowKit
variable {P:Program} {n:Nat} {st:St} {Q:St->Prop} {k:List It}
def TS(P:Program)(n:Nat)(i:aD)(x:St)(K:St->Prop):Prop:=i.op≠.bad/\aZ x.s i.g=some true/\
 ∀(F:Fr),F.n=n->∀(I:Mu) (a:Act) (w:World) (o:Oper) (all:Array Oper),bM P n all o=i->cQ F I x a w->
  ∀(next:Act->World->Prop) (Q':Exit->Act->World->Prop),(∀Yy a' w',ew F Yy a' w'->K Yy->next a' w')->o.wp P a w next Q'
def XT(P:Program)(n:Nat)(sp:List Nat)(m:Nat)(i:aD)(x:St)(K:St->Prop):Prop:=T P i x K\/m∈sp/\TS P n i x K
variable {sp:List Nat}
def XT.mono{m:Nat}{i:aD}{x:St}{K K':St->Prop}(hk:∀x,K x->K' x)(h:XT P n sp m i x K):XT P n sp m i x K':=by
 rcases h with h|⟨h1,h2,h3,h4⟩
 .exact .inl (h.mono hk)
 .exact .inr ⟨h1,h2,h3,λF hn I a w o all hi hs next Q' WK=>h4 F hn I a w o all hi hs next Q' λYy a' w' WT hq=>WK _ _ _ WT (hk _ hq)⟩
def XT.inf{m:Nat}{i:aD}{x:St}{K:St->Prop}(hi:Inf x.U)(h:XT P n sp m i x K):XT P n sp m i x λx'=>Inf x'.U/\K x':=by
 rcases h with h|⟨h1,h2,h3,h4⟩
 .exact .inl (h.inf hi)
 .exact .inr ⟨h1,h2,h3,λF hn I a w o all hi hs next Q' WK=>h4 F hn I a w o all hi hs next Q' λYy a' w' WT hq=>WK _ _ _ WT ⟨WT.inf,hq⟩⟩
def chB(l:List aD):Nat->Nat->Nat->Bool
 |0,_,_=>false
 |f+1,i,j=>match l[i]?,l[j]? with
  |some a,some b=>!iH a b||(List.range l.length).any λk=>decide (i<k)&&(decide (k<j)&&((match l[k]? with
   |some c=>!iH a c
   |none=>false)&&chB l f k j))
  |_,_=>false
def Jb(l:List aD)(sp:List Nat):Bool:=sp.all λm=>(List.range l.length).all λi=>decide (i=m)||(decide (i<m)&&chB l 8 i m||decide (m<i)&&chB l 8 m i)
def G0(P:Program)(n:Nat)(ops:Array Oper)(k:Nat):Prop:=∀i j oi oj,k<=i->i<j->ops[i]?=some oi->ops[j]?=some oj->((Region.before ops).getD j 0).testBit i=true\/iH (bM P n ops oi) (bM P n ops oj)=true
def Kr{ops:Array Oper}:∀(m k:Nat) (A':Array Bool),m+k=ops.size->(∀j,k<=j->j<ops.size->A'.getD j true=false)->yn P n ops m k A'=true->G0 P n ops k
 |0,k,A',hm,_,_=>λi j oi oj h1 h2 h3 h4=>by
  have:=(oP.1 h3).1;omega
 |m+1,k,A',hm,hl,h=>λi j oi oj h1 h2 h3 h4=>by
  simp only[yn,Ba]at h;obtain⟨⟨_,hf⟩,hB⟩:=h;have hj:=(oP.1 h4).1;by_cases hik:i=k
  .subst hik;cases hb:((Region.before ops).getD j 0).testBit i with
   |true=>exact .inl rfl
   |false=>exact .inr (mK h3 hf j oj h4 (by omega) (hl j (by omega) hj) hb)
  .exact Kr m (k+1) _ (by omega) (λj' h5 h6=>by rw[getD_set_ne true (by omega)];exact hl j' (by omega) h6) hB i j oi oj (by omega) h2 h3 h4
def Am{a:Array Bool}{i:Nat}(h:a.getD i false=true):a.getD i true=true:=by
 rw[Zq7]at h|-;cases hi:a[i]? with
 |none=>rfl
 |some b=>rw[hi]at h;exact h
def qm{ops:Array Oper}{A':Array Bool}(XH:iM ops A')(hG:G0 P n ops 0):∀(f i j:Nat) (oj:Oper),i<j->ops[j]?=some oj->(∀e∈oj.after,Region.binds .any e=true->A'.getD e.on false=true)->
 chB (ops.toList.map (bM P n ops)) f i j=true->A'.getD i false=true
 |0,_,_,_,_,_,_,h=>by cases h
 |f+1,i,j,oj,hij,hoj,XF,h=>by
  have get:∀(m:Nat) (om:Oper),ops[m]?=some om->(ops.toList.map (bM P n ops))[m]?=some (bM P n ops om):=λm om hm=>by
   rw[rB,Array.getElem?_toList,hm];rfl
  have hjl:=(oP.1 hoj).1;obtain⟨oi,hoi⟩:∃o,ops[i]?=some o:=⟨ops[i]'(by omega),Array.getElem?_eq_getElem (by omega)⟩
  have key:∀(k:Nat) (ok:Oper),i<k->ops[k]?=some ok->(∀e∈ok.after,Region.binds .any e=true->A'.getD e.on false=true)->iH (bM P n ops oi) (bM P n ops ok)=false->A'.getD i false=true:=λk ok hk WL Zh hp=>by
   rcases hG i k oi ok (Nat.zero_le _) hk hoi WL with hb|hb
   .exact lF XH k ok i WL hb Zh
   .rw[hp]at hb;cases hb
  simp only[chB,get i oi hoi,get j oj hoj,la,Bool.not_eq_true']at h;rcases h with h|h
  .exact key j oj hij hoj XF h
  .obtain⟨k,_,hk⟩:=NI.1 h;simp only[Ba,Zs]at hk;obtain⟨h1,h2,h3,h4⟩:=hk;obtain⟨ok,WL⟩:∃o,ops[k]?=some o:=⟨ops[k]'(by omega),Array.getElem?_eq_getElem (by omega)⟩
   have Yn:=qm XH hG f k j oj h2 hoj XF h4;rw[get k ok WL]at h3;exact key k ok h1 WL (XH k ok WL (Am Yn)) (by simpa using h3)
def wM{ops:Array Oper}{A':Array Bool}(XH:iM ops A')(hG:G0 P n ops 0)(hsp:Jb (ops.toList.map (bM P n ops)) sp=true){m j:Nat}(hm:m∈sp)(hrm:m∈Region.ready .any ops A')(hrj:j∈Region.ready .any ops A')(W6:j≠m):False:=by
 obtain⟨um,om,hom,am⟩:=mem_ready.1 hrm;obtain⟨uj,oj,hoj,aj⟩:=mem_ready.1 hrj;have hjl:=(oP.1 hoj).1;have h:=eO.1 (eO.1 hsp m hm) j (List.mem_range.2 (by simpa using hjl));simp only[la,Ba,Zs,W6,false_or]at h;rcases h with⟨h1,h2⟩|⟨h1,h2⟩
 .have:=qm XH hG 8 j m om h1 hom am h2;rw[Am this]at uj;cases uj
 .have:=qm XH hG 8 m j oj h1 hoj aj h2;rw[Am this]at um;cases um
def Xn(P:Program)(n:Nat)(sp:List Nat)(ops:Array Oper)(i:Nat)(x:St)(K:St->Prop):Prop:=match ops[i]? with
 |some o=>XT P n sp i (bM P n ops o) x K
 |none=>K x
def te(P:Program)(n:Nat)(sp:List Nat)(ops:Array Oper)(Q:St->Prop):Nat->Array Bool->St->Prop
 |0,A',x=>Region.ready .any ops A'=[]/\Q x
 |f+1,A',x=>(Region.ready .any ops A'=[]->Q x)/\∀i∈Region.ready .any ops A',Xn P n sp ops i x (te P n sp ops Q f (A'.setIfInBounds i true))
def mI{F:Fr}(hn:F.n=n){ops:Array Oper}{Q:St->Prop}{Q':Exit->Act->World->Prop}(hQ:∀x a w,ew F x a w->Q x->Q' .normal a w):
 ∀(f:Nat) (A':Array Bool) (x:St) (a:Act) (w:World),ew F x a w->te P n sp ops Q f A' x->wpAnyIn F.ed 0 P .any ops Q' f A' a w
 |0,_,_,_,_,hs,h=>⟨h.1,hQ _ _ _ hs h.2⟩
 |f+1,A',x,a,w,hs,h=>by
  refine⟨λh0=>hQ _ _ _ hs (h.1 h0),λi hi=>?_⟩;have h1:=h.2 i hi;unfold Xn at h1;unfold wpOpIn;cases ho:ops[i]? with
  |none=>
   simp only[ho]at h1;exact mI hn hQ f _ x a w hs h1
  |some o=>
   simp only[ho]at h1;rcases h1 with h1|⟨-,g2,g3,g4⟩
   .have h2:=ve (Q':=Q') hn h1 hs λx' a' w' WT hk=>mI hn hQ f _ x' a' w' WT hk;by_cases hw:Region.wanted o (yielded ops a.tmps)=true
    .rw[aq hw]at h2;simp only[hw,if_true];exact Gn (j8 h2.1) h2.2
    .rw[ao hw]at h2;simp only[hw];exact⟨λ_ _=>trivial,h2⟩
   .obtain⟨I,hs⟩:=hs;have hw:Region.wanted o (yielded ops a.tmps)=true:=by
     subst hn;exact qL (P:=P) hs ops o g3
    simp only[hw,if_true];exact Gn (j8 (P:=P) (n:=n) g2) (g4 F hn I a w o ops rfl hs _ _ λx' a' w' WT hk=>mI hn hQ f _ x' a' w' WT hk)
def zX{ops:Array Oper}{Q:St->Prop}(hG:G0 P n ops 0)(hsp:Jb (ops.toList.map (bM P n ops)) sp=true){i:Nat}{oi:Oper}(hi:ops[i]?=some oi):∀(f:Nat) (A':Array Bool) (x:St),Inf x.U->iM ops A'->
 (∀j oj,ops[j]?=some oj->j≠i->A'.getD j true=false->((Region.before ops).getD j 0).testBit i=false->iH (bM P n ops oi) (bM P n ops oj)=true)->
 i∈Region.ready .any ops A'->XT P n sp i (bM P n ops oi) x (te P n sp ops Q f (A'.setIfInBounds i true))->te P n sp ops Q (f+1) A' x:=by
 intro f
 induction f with
 |zero=>
  intro A' x YW XH hfree hr H;refine⟨λh=>(by rw[h]at hr;cases hr),λj hj=>?_⟩;by_cases YO:j=i
  .subst YO;unfold Xn;simp only[hi];exact H
  .rcases H with H|H
   .have:=ready_mono hj YO;obtain⟨x',W8⟩:=H.exists YW;rw[W8.1]at this;cases this
   .exact(wM XH hG hsp H.1 hr hj YO).elim
 |succ f ih=>
  intro A' x YW XH hfree hr H;refine⟨λh=>(by rw[h]at hr;cases hr),λj hj=>?_⟩;by_cases YO:j=i
  .subst YO;unfold Xn;simp only[hi];exact H
  .obtain⟨hjun,oj,hoj,XF⟩:=mem_ready.1 hj;rcases H with H|H
   .have hnot:((Region.before ops).getD j 0).testBit i=false:=by
     cases hb:((Region.before ops).getD j 0).testBit i with
     |false=>rfl
     |true=>
      exfalso;have h1:=lF XH j oj i hoj hb XF;have h0:=(mem_ready.1 hr).1;rcases Nat.lt_or_ge i A'.size with h'|h'
      .simp[h']at h0 h1;rw[h0]at h1;cases h1
      .simp[Array.getElem?_eq_none h']at h1
    have H2:T P (bM P n ops oi) x λx'=>T P (bM P n ops oj) x' (te P n sp ops Q f ((A'.setIfInBounds i true).setIfInBounds j true)):=by
     refine H.mono λx' W8=>?_;have:=W8.2 j (ready_mono hj YO);unfold Xn at this;simp only[hoj]at this;rcases this with h|h
     .exact h
     .exact(wM XH hG hsp h.1 hj hr (Ne.symm YO)).elim
    have h2:=D1 (hfree j oj hoj YO hjun hnot) YW H2;have hfree':∀k ok,ops[k]?=some ok->k≠i->(A'.setIfInBounds j true).getD k true=false->
     ((Region.before ops).getD k 0).testBit i=false->iH (bM P n ops oi) (bM P n ops ok)=true:=λk ok hk hki hun Xa=>by
     refine hfree k ok hk hki ?_ Xa;by_cases hjk:j=k
     .subst hjk;exact hjun
     .rw[getD_set_ne true hjk]at hun;exact hun
    unfold Xn;simp only[hoj];refine .inl ((h2.inf YW).mono λx' W8=>ih (A'.setIfInBounds j true) x' W8.1 (XH.list hj) hfree' (ready_mono hr (Ne.symm YO)) ?_);rw[Array.setIfInBounds_comm _ _ YO];exact .inl W8.2
   .exact(wM XH hG hsp H.1 hr hj YO).elim
def fU(P:Program)(n:Nat)(sp:List Nat)(Q:St->Prop):Nat->List aD->St->Prop
 |_,[],x=>Q x
 |m,i::l,x=>XT P n sp m i x (fU P n sp Q (m+1) l)
def vU{ops:Array Oper}{Q:St->Prop}(hG:G0 P n ops 0)(hsp:Jb (ops.toList.map (bM P n ops)) sp=true):∀(l:List Oper) (k:Nat) (A':Array Bool) (x:St),Inf x.U->iM ops A'->(∀j,l[j]?=ops[k+j]?)->
 yn P n ops l.length k A'=true->fU P n sp Q k (l.map (bM P n ops)) x->te P n sp ops Q l.length A' x
 |[],_,_,_,_,_,_,hB,h=>⟨by simpa[yn]using hB,h⟩
 |o::l,k,A',x,YW,XH,hl,hB,h=>by
  have h0:ops[k]?=some o:=by simpa using(hl 0).symm
  simp only[XX,yn,Ba]at hB;obtain⟨⟨hr,hf⟩,hB'⟩:=hB;refine zX hG hsp h0 l.length A' x YW XH (mK h0 hf) (by simpa using hr) ?_;refine(XT.inf YW h).mono λx' W8=>?_;exact vU hG hsp l (k+1) _ x' W8.1 (XH.list (by simpa using hr)) (λj=>by have:=hl (j+1);simpa[Nat.add_assoc,Ez 1 j]using this) hB' W8.2
def xX{F:Fr}(hn:F.n=n){ops:Array Oper}(WL:p9 P n ops=true)(hsp:Jb (ops.toList.map (bM P n ops)) sp=true){id:Nat}{x:St}{a:Act}{w:World}(hs:ew F x a w){Q:St->Prop}{Q':Exit->Act->World->Prop}
 (hQ:∀x a w,ew F x a w->Q x->Q' .normal a w)(h:fU P n sp Q 0 (ops.toList.map (bM P n ops)) x):(Code.region id ops true).wpIn F.ed 0 P Q' a w:=by
 simp only[p9,Ba]at WL;have WT:ew F x a { w with drawn:=w.drawn+1 }:=by
  obtain⟨I,hs⟩:=hs;have hk:cJ (az I x.U) (az I x.U) w { w with drawn:=w.drawn+1 }:=λ_ _ h=>⟨h,rfl⟩
  refine⟨I,⟨⟨hs.sat.size,hs.sat.os,hs.sat.tape,hs.sat.output,hs.sat.same,hs.sat.fin,hs.sat.inj,λid o ho=>?_,hs.sat.fresh,hs.sat.glob⟩,hs.le,hs.size,hs.book.lT hk,λi hi=>?_⟩⟩
  .exact(hs.sat.obj id o ho).mono (cI.refl I) hk (Xm _) (λ_ _ _ _=>rfl)
  .exact E'.mono (cI.refl I) hk (Xm _) _ _ (hs.slot i hi)
 have Zn:∀j,j<ops.size->(Array.replicate ops.size false).getD j true=false:=λj hj=>by
  rw[Zq7,Array.getElem?_replicate,aq hj];rfl
 have hG:G0 P n ops 0:=Kr ops.size 0 (Array.replicate ops.size false) rfl (λj _ hj=>Zn j hj) (by simpa using WL.2.2);refine wpIn_region_any WL.1 (mI (sp:=sp) hn hQ _ _ _ _ _ WT ?_);have:=vU (P:=P) (n:=n) (Q:=Q) hG hsp ops.toList 0 (Array.replicate ops.size false) x hs.inf (λm om hm hl=>by
  have H':m<ops.size:=(oP.1 hm).1;rw[Zn m H']at hl;cases hl) (by simp) (by simpa using WL.2.2) h
 simpa using this
def ab.PQ(sp:List Nat){l:List aD}(hsp:Jb l sp=true)(h:fU P n sp (λx=>ab P n k x Q) 0 l st):ab P n (.code (.Za true l)::k) st Q:=by
 intro F hn kt hk a w hs;obtain⟨z,YN,rfl,hy,Yc⟩:=dJ hk;obtain⟨c0,rfl,XZ⟩:=gw hy;have hc0:∃id ops,c0=.region id ops true/\p9 P n ops=true/\ops.toList.map (bM P n ops)=l:=by
  cases c0<;>simp only[di,reduceCtorEq]at XZ;rename_i id ops draw;cases draw
  .simp at XZ
  .simp only[Bool.true_and]at XZ;split at XZ
   .cases XZ
   .split at XZ
    .cases XZ
    .rename_i hd;simp only[bG.Za.injEq,true_and]at XZ;exact⟨id,ops,rfl,by simpa using hd,XZ⟩
 obtain⟨id,ops,rfl,WL,rfl⟩:=hc0;exact xX hn WL hsp hs (λx a w hs h=>h F hn YN Yc a w hs) h
variable {K:St->Prop} {m:Nat} {x:St}
def XC.app{suf:List aD}:∀(pre:List aD) {m:Nat} {x:St},Go P n (.d pre [.stop λy=>fU P n sp K (m+pre.length) suf y]) x Q->fU P n sp K m (pre++suf) x
 |[],_,_,h=>h
 |i::pre,m,_,h=>.inl (T.mono (λ_ h=>XC.app (m:=m+1) pre (by rw[show m+1+pre.length=m+(i::pre).length by simp;omega];exact h)) h)
def XC.go(j:Nat){l:List aD}(h:Go P n (.d (l.take j) [.stop λy=>fU P n sp K (m+(l.take j).length) (l.drop j) y]) x λ_=>True):fU P n sp K m l x:=by
 have:=XC.app _ h
 rwa [uJ]at this
def XC.uv{i:aD}{l:List aD}{xm xk:VX}{ok:Bool}{zv:V}(hm:m∈sp)(hw:aZ x.s i.g=some true)(ho:i.op=.more (.uv ok zv) [xm,xk]){id:Nat}{c:IntKind}{f:Int->Option V}{q:Int}
 (hx:xm.ev x.s=.mp id)(hmap:mo c x.U id f)(hk:xk.ev x.s=.int c q)
 (h:fU P n sp K (m+1) l ⟨aQ x.s i.dst (if ok then .WJ [(f q).getD zv,.bool (f q).isSome]else(f q).getD zv),x.U⟩):fU P n sp K m (i::l) x:=
 .inr ⟨hm,by rw[ho];simp,hw,IE ho hx hmap hk h⟩
def XC.GY{i:aD}{l:List aD}{xm xk xv:VX}(hm:m∈sp)(hw:aZ x.s i.g=some true)(ho:i.op=.more .GY [xm,xk,xv]){id:Nat}{c:IntKind}{f:Int->Option V}{q:Int}{v:V}
 (hx:xm.ev x.s=.mp id)(hmap:mo c x.U id f)(hk:xk.ev x.s=.int c q)(hv:xv.ev x.s=v)
 (h:∀ob:Ob,ob.sz=0->mo c (C' x.U id ob) id (λm'=>if m'=q then some v else f m')->fU P n sp K (m+1) l ⟨aQ x.s i.dst (.WJ []),C' x.U id ob⟩):fU P n sp K m (i::l) x:=
 .inr ⟨hm,by rw[ho];simp,hw,MT ho hx hmap hk hv h⟩
def XC.call{i:aD}{l:List aD}{fx:VX}{xs:List VX}(hm:m∈sp)(hw:aZ x.s i.g=some true)(ho:i.op=.call fx xs){f:FuncId}{caps:List V}(hf:fx.ev x.s=.fn f caps)
 {Post:V->ag->Prop}(hc:ax P f (xs.map (·.ev x.s)++caps) x.U Post)(h:∀r Z',Post r Z'->fU P n sp K (m+1) l ⟨aQ x.s i.dst r,Z'⟩):fU P n sp K m (i::l) x:=by
 refine .inr ⟨hm,by rw[ho];simp,hw,λF hn I a w o all hi hs next Q' WK=>?_⟩;subst hn;obtain⟨WN,hd⟩:=cY hi;rw[ho]at WN;obtain⟨f0,args,argTypes,g1,rfl,rfl⟩:=mD WN;refine mP hs g1 hf hc λr Z' hp a' w' WT=>WK _ a' w' WT ?_;rw[hd];exact h r Z' hp
def XC.skip{i:aD}{l:List aD}(hw:aZ x.s i.g=some false)(h:fU P n sp K (m+1) l ⟨aQ x.s i.dst (.WJ []),x.U⟩):fU P n sp K m (i::l) x:=by
 refine .inl ?_;unfold T;rw[hw];exact h
def XC.nil(h:K x):fU P n sp K m [] x:=h
end Go.Vc
