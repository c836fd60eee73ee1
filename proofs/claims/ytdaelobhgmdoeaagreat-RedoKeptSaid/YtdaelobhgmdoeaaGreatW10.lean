/- Part 10 of the library of this proof. -/
import Derived.Test.YtdaelobhgmdoeaaGreatW9
import Derived.Test.YtdaelobhgmdoeaaGreatProg
import Derived.KernelRfl
set_option linter.all false
set_option maxHeartbeats 8000000
set_option maxRecDepth 100000
namespace Go.Vc
def gn.qF{a b:Bk}{s:Xp}{r:Int}(h:gn a b s r)(h1:s.atom<=r)(h0:0<=s.atom)(ha:r<=(a.L'.length:Int)-1)(hb:r<=(b.L'.length:Int)-1):qF a.L' s.atom r=Go.Vc.qF b.L' s.atom r:=by
 have e:(btw a.L' (s.atom+1) r).map (mi a.L')=(btw b.L' (s.atom+1) r).map (mi b.L'):=by
  have e1:btw a.L' (s.atom+1) r=btw b.L' (s.atom+1) r:=by
   unfold btw uG;rw[show min r ((a.L'.length:Int)-1)=r by omega,show min r ((b.L'.length:Int)-1)=r by omega]
  rw[e1];refine List.map_congr_left λk hk=>?_;unfold mi;rw[h.bk k ?_];unfold btw uG at hk;have:=List.mem_range'_1.1 hk;omega
 unfold Go.Vc.qF lL EG;rw[e]
def gn.top{a b:Bk}{s:XE}{r:Int}(h:gn a b s.s r)(ha:BkFull a)(hb:BkFull b)(h0:0<=s.s.atom):bP a s=bP b s:=by
 have e1:=h.aV ha hb h0;have e2:=h.hdk;unfold bP bB;rw[e2,e1]
def gn.Ud{a b:Bk}(ha:bJ a)(hb:bJ b){s:XE}{r:Int}(h:gn a b s.s r)(h1:s.s.atom<=r)(hm:Go.Vc.bS a.atoms s.s)(x:Wx)(hx:x.s=s.s)(hr:cj a x=r):cZ a x=cZ b x/\dQ a x=dQ b x/\cj b x=r:=by
 have hm':=(h.bS h1).1 hm;have ek:cD a x=cD b x:=by unfold cD;rw[hx];exact h.kept h1 _
 have hr':cj b x=r:=by
  unfold cj at hr|-;rw[<-ek];rw[hx]at hr|-;exact h.reach ha hb h1 _ _ _ hm hr
 obtain⟨u,u1,u2,u3,-,-⟩:=gW ha.Zg ha.pos hm (cD a x) x.shift x.body;obtain⟨v,v1,v2,v3,-,-⟩:=gW hb.Zg hb.pos hm' (cD b x) x.shift x.body;have hra:r=u:=by rw[<-hr];unfold cj;rw[hx];exact u1
 have hrb:r=v:=by rw[<-hr'];unfold cj;rw[hx];exact v1
 have Zl:=ha.brk;have hlb:=hb.brk;have ecut:p9 a x=p9 b x:=by
  unfold p9;rw[hr,hr',hx];exact h.qF h1 hm.1.1 (by omega) (by omega)
 have eok:eD a.L' x.s.atom (cj a x)↔eD b.L' x.s.atom (cj b x):=by
  unfold eD;rw[hr,hr',hx];have:=hm.1;have:=hm'.1;constructor
  .rintro⟨-,g2,g3,g4⟩;exact⟨hb.mayb,g2,by omega,g4⟩
  .rintro⟨-,g2,g3,g4⟩;exact⟨ha.mayb,g2,by omega,g4⟩
 refine⟨?_,?_,hr'⟩
 .unfold cZ;by_cases hc:eD a.L' x.s.atom (cj a x)
  .rw[aq hc,aq (eok.1 hc),<-ecut,<-ek];obtain⟨c,c1,c2,c3,-⟩:=xG hc (by rw[hr];omega);have hcx:p9 a x=c:=c1;rw[hcx];rw[hr]at c3;unfold sE bY;have e1:((List.range ((c:Int).toNat-x.s.atom.toNat)).map λi:Nat=>ct x.high (cF a.atoms x.s (cD a x) x.shift (x.s.atom+(i:Nat))))=(List.range ((c:Int).toNat-x.s.atom.toNat)).map λi:Nat=>ct x.high (cF b.atoms x.s (cD a x) x.shift (x.s.atom+(i:Nat))):=by
    refine List.map_congr_left λi hi=>?_;have hi':=List.mem_range.1 hi;have hm0:=hm.1.1;have hxa:x.s.atom=s.s.atom:=by rw[hx]
    have hk:x.s.atom+(i:Int)<=r:=by omega
    rw[hx]at hk|-;rw[h.whole h1 _ _ hk]
   have e2:cu a.atoms a.M' x.s (c:Int).toNat (cD a x) x.shift x.body=cu b.atoms b.M' x.s (c:Int).toNat (cD a x) x.shift x.body:=by
    rw[hx];exact h.here h1 (by omega) _ _ _
   simp only[e1,e2]
  .rw[ao hc,ao λg=>hc (eok.2 g)];unfold ui;have e1:iZ a.atoms x.s x.body=iZ b.atoms x.s x.body:=by
    have e0:dE a.atoms x.s x.body=dE b.atoms x.s x.body:=by unfold dE fe;rw[hx,h.XV h1]
    unfold iZ;rw[hx]at e0|-;by_cases hq:1<=x.body
    .rw[aq (show kZ a.atoms s.s x.body from⟨hm,hq⟩),aq (show kZ b.atoms s.s x.body from⟨hm',hq⟩),e0]
    .rw[ao λg:kZ a.atoms s.s x.body=>hq g.2,ao λg:kZ b.atoms s.s x.body=>hq g.2]
   have e2:cu a.atoms a.M' x.s (x.s.atom+1) 0 0 x.body=cu b.atoms b.M' x.s (x.s.atom+1) 0 0 x.body:=by
    rw[hx];exact h.here h1 (by omega) _ _ _
   simp only[e1,e2]
 .unfold dQ;by_cases hc:eD a.L' x.s.atom (cj a x)
  .rw[aq hc,aq (eok.1 hc),<-ecut,<-ek];obtain⟨c,c1,c2,c3,-⟩:=xG hc (by rw[hr];omega);have hcx:p9 a x=c:=c1;rw[hcx];rw[hr]at c3;unfold xJ;have e2:cu a.atoms a.M' x.s (c:Int).toNat (cD a x) x.shift x.body=cu b.atoms b.M' x.s (c:Int).toNat (cD a x) x.shift x.body:=by
    rw[hx];exact h.here h1 (by omega) _ _ _
   have e3:a.L'.getD (c:Int).toNat ⟨0,0,0⟩=b.L'.getD (c:Int).toNat ⟨0,0,0⟩:=h.bk _ (by omega);simp only[e2,e3]
  .rw[ao hc,ao λg=>hc (eok.2 g)];unfold uv;have e1:dp a.atoms x.s x.body=dp b.atoms x.s x.body:=by
    have e0:dE a.atoms x.s x.body=dE b.atoms x.s x.body:=by unfold dE fe;rw[hx,h.XV h1]
    unfold dp;rw[hx]at e0|-;by_cases hq:1<=x.body
    .rw[aq (show kZ a.atoms s.s x.body from⟨hm,hq⟩),aq (show kZ b.atoms s.s x.body from⟨hm',hq⟩),e0];unfold iQ;have:(dE b.atoms s.s x.body).atom=s.s.atom:=rfl;rw[this,h.XV h1]
    .rw[ao λg:kZ a.atoms s.s x.body=>hq g.2,ao λg:kZ b.atoms s.s x.body=>hq g.2]
   have e2:cu a.atoms a.M' x.s (x.s.atom+1) 0 0 x.body=cu b.atoms b.M' x.s (x.s.atom+1) 0 0 x.body:=by
    rw[hx];exact h.here h1 (by omega) _ _ _
   simp only[e1,e2]
def EW{b:Bk}(hb:bJ b){s:XE}{kind:Int}(hm:kind=1->Go.Vc.bS b.atoms s.s):s.s.atom<=dj b s kind:=by
 unfold dj;split
 .omega
 .rename_i hk;obtain⟨u,u1,u2,-⟩:=gW hb.Zg hb.pos (hm (by omega)) (iW b.atoms s.s ((aV b s.s).body-(cC (aV b s.s).body s.bx 0).2.2)) (cC (aV b s.s).body s.bx 0).2.2 (aV b s.s).body;rw[u1];exact u2
def gn.Su{a b:Bk}(ha:bJ a)(hb:bJ b){s:XE}(he:¬cH a s)(h:gn a b s.s (dj a s (aG a s).1.kind))(na:a.atoms≠[])(nb:b.atoms≠[]):aG a s=aG b s/\dj b s (aG b s).1.kind=dj a s (aG a s).1.kind:=by
 have Xq:gr a s:=Decidable.byContradiction λh=>he (.inl h);have Yb:0<=s.s.atom:=by rcases Xq.2 with h|h;exact h.1.1;omega
 have hg:=eu ha he;have h1:s.s.atom<=dj a s (aG a s).1.kind:=EW ha λk=>(hg.cut k).1;have e1:=h.aV ha.toBkFull hb.toBkFull Yb;have e2:=h.top ha.toBkFull hb.toBkFull Yb;have hn:s.s.atom=a.atoms.length↔s.s.atom=b.atoms.length:=by
  have hl:=h.lt Yb h1;have q:s.s.atom<=a.atoms.length:=by rcases Xq.2 with h|h;have:=h.1.2;omega;omega
  constructor
  .intro g;have:=h.Xg s.s.atom.toNat (by omega);have hz:¬s.s.atom<b.atoms.length:=λg'=>by have:=hl.2 g';omega
   rcases Nat.lt_or_ge b.atoms.length a.atoms.length with g'|g'
   .have:=(h.lt (k:=b.atoms.length) (by omega) (by omega)).1 (by omega);omega
   .omega
  .intro g;have hz:¬s.s.atom<a.atoms.length:=λg'=>by have:=hl.1 g';omega
   omega
 have ef:kv a s↔kv b s:=by
  unfold kv;rw[hn,e1,h.left h1]
 have na':¬(a.atoms=[]/\s.s.free=true):=λg=>na g.1;have nb':¬(b.atoms=[]/\s.s.free=true):=λg=>nb g.1;unfold aG at h h1|-;rw[ao na']at h h1;rw[ao na',ao nb'];by_cases hf:kv a s
 .rw[aq hf]at h h1;rw[aq hf,aq (ef.1 hf),e2,e1];have hl:s.s.atom<a.atoms.length↔s.s.atom<b.atoms.length:=by
   have:=h.lt Yb (k:=s.s.atom) (by unfold dj;simp[kH]);exact this
  refine⟨by simp only[hl],?_⟩;unfold dj;simp[kH]
 .rw[ao hf]at h h1;have hm:Go.Vc.bS a.atoms s.s:=Xq.2.resolve_right λg=>hf (.inl g.1);have hk:(kH (cZ a (bP a s))).kind=1:=(iu a (bP a s)).2;rw[ao hf,ao λg=>hf (ef.2 g)];have hr:cj a (bP a s)=dj a s (kH (cZ a (bP a s))).kind:=by
   unfold dj;rw[hk];rfl
  have Zw:(bP a s).s=s.s:=rfl;obtain⟨g1,g2,g3⟩:=h.Ud ha hb h1 hm (bP a s) Zw hr;rw[<-e2,g1,g2];refine⟨rfl,?_⟩;rw[<-g1,<-hr];have hkb:(kH (cZ a (bP a s))).kind=1:=hk;unfold dj;rw[hkb];rw[e2]at g3 hr|-;rw[hr,<-g3];rfl
def bE{α:Type}[DecidableEq α]:List α->List α->Nat
 |x::l,y::m=>if x=y then bE l m+1 else 0
 |_,_=>0
def vt{α:Type}[DecidableEq α]:∀(l m:List α),bE l m<=l.length/\bE l m<=m.length
 |[],m=>by simp[bE]
 |x::l,[]=>by simp[bE]
 |x::l,y::m=>by
  have:=vt l m;rw[bE];split<;>simp only[XX]<;>omega
def me{α:Type}[DecidableEq α]:∀(l m:List α) (r:Nat),r<bE l m↔r<l.length/\∀k,k<=r->l[k]?=m[k]?
 |[],m,r=>by simp[bE]
 |x::l,[],r=>by
  simp only[bE];constructor
  .intro h;omega
  .intro h;have:=h.2 0 (Nat.zero_le r);simp at this
 |x::l,y::m,r=>by
  rw[bE];split
  .rename_i e;subst e;cases r with
   |zero=>simp
   |succ r=>
    have ih:=me l m r;rw[show r+1<bE l m+1↔r<bE l m by omega,ih];simp only[XX];constructor
    .rintro⟨h1,h2⟩;refine⟨by omega,λk hk=>?_⟩;cases k with
     |zero=>rfl
     |succ k=>rw[uP,uP];exact h2 k (by omega)
    .rintro⟨h1,h2⟩;refine⟨by omega,λk hk=>?_⟩;have:=h2 (k+1) (by omega)
     rwa [uP,uP]at this
  .rename_i e;constructor
   .intro h;omega
   .intro h;have:=h.2 0 (Nat.zero_le r);simp only[L4,aI]at this;exact absurd this e
def mc(b:Bk)(r:Int):List T':=b.M'.filter λf=>decide (f.anchor<=r)
def nt(a b:Bk)(s:Xp):Prop:=(aV a s).WQ=(aV b s).WQ/\∀n∈(aV a s).WQ,(YG a.nodes n).head=(YG b.nodes n).head
instance (a b:Bk) (s:Xp):Decidable (nt a b s):=by unfold nt;infer_instance
def eO(a b:Bk)(s:XE)(kind:Int):Prop:=
 if(a.atoms.length:Int)=0\/(b.atoms.length:Int)=0 then(a.atoms.length:Int)=b.atoms.length/\a.M'=b.M'
 else(dj a s kind<bE a.atoms b.atoms\/dj a s kind=a.atoms.length/\dj a s kind=b.atoms.length/\dj a s kind=bE a.atoms b.atoms)/\dj a s kind<bE a.L' b.L'/\mc a (dj a s kind)=mc b (dj a s kind)/\nt a b s.s
instance (a b:Bk) (s:XE) (kind:Int):Decidable (eO a b s kind):=by unfold eO;infer_instance
def xC{b:Bk}(hb:bJ b){s:XE}(he:¬cH b s):0<=s.s.atom/\s.s.atom<=dj b s (aG b s).1.kind/\dj b s (aG b s).1.kind<=b.atoms.length:=by
 have Xq:gr b s:=Decidable.byContradiction λh=>he (.inl h);have Yb:0<=s.s.atom:=by rcases Xq.2 with h|h;exact h.1.1;omega
 have Zh:s.s.atom<=b.atoms.length:=by rcases Xq.2 with h|h;have:=h.1.2;omega;omega
 have hg:=eu hb he;refine⟨Yb,EW hb λk=>(hg.cut k).1,?_⟩;unfold dj;split
 .exact Zh
 .rename_i hk;have hm:=(hg.cut (by omega)).1;obtain⟨u,u1,-,u3,-⟩:=gW hb.Zg hb.pos hm (iW b.atoms s.s ((aV b s.s).body-(cC (aV b s.s).body s.bx 0).2.2)) (cC (aV b s.s).body s.bx 0).2.2 (aV b s.s).body;rw[u1];omega
def H5{a b:Bk}(ha:bJ a){s:XE}(he:¬cH a s)(na:a.atoms≠[])(nb:b.atoms≠[])(hw:a.w=b.w)(hh:a.h=b.h):
 eO a b s (aG a s).1.kind↔gn a b s.s (dj a s (aG a s).1.kind)/\∀k:Nat,(k:Int)<=dj a s (aG a s).1.kind->a.L'[k]?=b.L'[k]?:=by
 obtain⟨r1,r2,r3⟩:=xC ha he;have XU:=ha.brk;have l1:=py.2 na;have l2:=py.2 nb;unfold eO;rw[ao (by omega)];generalize dj a s (aG a s).1.kind=r at*;obtain⟨q,rfl⟩:∃q:Nat,r=q:=⟨r.toNat,by omega⟩
 have hb1:(q:Int)<bE a.L' b.L'↔∀k:Nat,(k:Int)<=q->a.L'[k]?=b.L'[k]?:=by
  have:=me a.L' b.L' q;constructor
  .intro h k hk;exact(this.1 (by omega)).2 k (by omega)
  .intro h;have:=this.2 ⟨by omega,λk hk=>h k (by omega)⟩;omega
 have ha1:((q:Int)<bE a.atoms b.atoms\/(q:Int)=a.atoms.length/\(q:Int)=b.atoms.length/\(q:Int)=bE a.atoms b.atoms)↔∀k:Nat,(k:Int)<=q->a.atoms[k]?=b.atoms[k]?:=by
  have hl:=vt a.atoms b.atoms;constructor
  .rintro(h|⟨h1,h2,h3⟩) k hk
   .exact((me a.atoms b.atoms q).1 (by omega)).2 k (by omega)
   .rcases Nat.lt_or_ge k q with hkq|hkq
    .exact((me a.atoms b.atoms k).1 (by omega)).2 k (Xm k)
    .rw[oE (by omega),oE (by omega)]
  .intro h;rcases Nat.lt_or_ge q a.atoms.length with hq|hq
   .left;have:=(me a.atoms b.atoms q).2 ⟨hq,λk hk=>h k (by omega)⟩;omega
   .right;have hn:=h q (Int.le_refl _);rw[oE (by omega)]at hn;have hmb:=L8.1 hn.symm;have hld:q-1<bE a.atoms b.atoms:=(me a.atoms b.atoms (q-1)).2 ⟨by omega,λk hk=>h k (by omega)⟩;refine⟨by omega,by omega,by omega⟩
 rw[ha1,hb1];constructor
 .rintro⟨h1,h2,h3,h4,h5⟩;refine⟨⟨by omega,h1,λk hk=>?_,h3,h4,h5,hw,hh⟩,h2⟩;unfold Yt;rw[pW,pW,h2 k hk]
 .rintro⟨h,h2⟩;exact⟨h.Xg,h2,h.fl,h.hd,h.st⟩
def Gf{a b:Bk}(ha:bJ a)(hb:bJ b)(hw:a.w=b.w)(hh:a.h=b.h){s:XE}(he:¬cH a s)(hs:eO a b s (aG a s).1.kind):
 aG a s=aG b s/\eO b a s (aG b s).1.kind/\Yt a.L' s.s.atom.toNat=Yt b.L' s.s.atom.toNat\/a.atoms=[]/\b.atoms=[]/\aG a s=aG b s/\eO b a s (aG b s).1.kind:=by
 by_cases h0:(a.atoms.length:Int)=0\/(b.atoms.length:Int)=0
 .right;unfold eO at hs;rw[aq h0]at hs;have ea:a.atoms=[]:=rF (by omega);have eb:b.atoms=[]:=rF (by omega);have er:aV a s.s=aV b s.s:=by unfold aV;rw[aq ea,aq eb,hh]
  have erh:(aV b s.s).WQ=[]:=by unfold aV;rw[aq eb]
  have eh:∀hv,bB a s.s hv=bB b s.s hv:=λhv=>by unfold bB;rw[er,erh];rfl
  have et:bP a s=bP b s:=by unfold bP;rw[eh,er]
  have Xq:gr a s:=Decidable.byContradiction λh=>he (.inl h);have Yb:s.s.atom=0:=by
   rcases Xq.2 with h|h
   .have:=h.1;rw[ea]at this;simp at this;omega
   .rw[ea]at h;simpa using h.1
  have hf:kv a s:=.inl (by rw[Yb,ea];rfl);have ZW:kv b s:=.inl (by rw[Yb,eb];rfl);have ep:aG a s=aG b s:=by
   unfold aG;by_cases hfr:s.s.free=true
   .rw[aq ⟨ea,hfr⟩,aq ⟨eb,hfr⟩,eh];unfold xq lq;rw[hs.2]
   .rw[ao λg:a.atoms=[]/\s.s.free=true=>hfr g.2,ao λg:b.atoms=[]/\s.s.free=true=>hfr g.2,aq hf,aq ZW,et,er,ea,eb]
  refine⟨ea,eb,ep,?_⟩;unfold eO;rw[aq (.inl (by rw[eb];rfl))];exact⟨by rw[ea,eb],hs.2.symm⟩
 .left;have na:a.atoms≠[]:=λe=>h0 (.inl (by rw[e];rfl));have nb:b.atoms≠[]:=λe=>h0 (.inr (by rw[e];rfl));obtain⟨hl,hbk⟩:=(H5 ha he na nb hw hh).1 hs;obtain⟨g1,g2⟩:=hl.Su ha hb he na nb;obtain⟨r1,r2,r3⟩:=xC ha he;have l1:=py.2 na;have l2:=py.2 nb;refine⟨g1,?_,hl.bk _ (by omega)⟩;unfold eO at hs|-;rw[ao (by omega)]at hs|-;rw[g2];obtain⟨h1,h2,h3,h4⟩:=hs;have s1:bE b.atoms a.atoms=bE a.atoms b.atoms:=by
   have key:∀{α:Type} [DecidableEq α] (l m:List α),bE l m=bE m l:=by
    intro α _ l
    induction l with
    |nil=>intro m;cases m<;>rfl
    |cons x l ih=>
     intro m;cases m with
     |nil=>rfl
     |cons y m=>
      simp only[bE,ih m];by_cases e:x=y
      .rw[aq e,aq e.symm]
      .rw[ao e,ao λg=>e g.symm]
   exact key _ _
  have s2:bE b.L' a.L'=bE a.L' b.L':=by
   have key:∀{α:Type} [DecidableEq α] (l m:List α),bE l m=bE m l:=by
    intro α _ l
    induction l with
    |nil=>intro m;cases m<;>rfl
    |cons x l ih=>
     intro m;cases m with
     |nil=>rfl
     |cons y m=>
      simp only[bE,ih m];by_cases e:x=y
      .rw[aq e,aq e.symm]
      .rw[ao e,ao λg=>e g.symm]
   exact key _ _
  rw[s1,s2];refine⟨by omega,h2,h3.symm,h4.1.symm,λn hn=>(h4.2 n (h4.1▸hn)).symm⟩
def lA(a b:Bk):Nat->XE->Nat->Nat
 |0,_,n=>n
 |f+1,s,n=>if cH a s then n else if¬eO a b s (aG a s).1.kind then n
  else lA a b f (aG a s).2 (if fv a (aG a s).1 s.s ((n:Int)+1)then n+2 else n+1)
def jO(a b:Bk):Nat:=if(a.atoms.length:Int)+a.M'.length=0 then(if eO a b ⟨⟨0,0,false⟩,[]⟩ 3 then 1 else 0)else lA a b 1000000001 ⟨⟨0,0,true⟩,[]⟩ 0
def zb{a b:Bk}(ha:bJ a){s:XE}(he:¬cH a s)(hp:aG a s=aG b s)(h:Yt a.L' s.s.atom.toNat=Yt b.L' s.s.atom.toNat\/a.atoms=[])(no:Int):fv a (aG a s).1 s.s no↔fv b (aG b s).1 s.s no:=by
 rcases h with h|h
 .unfold fv;rw[hp,h]
 .have hk:(aG a s).1.kind≠1:=λk=>by
   have:=((eu ha he).cut k).1.1;rw[h]at this;simp at this;omega
  unfold fv;rw[<-hp];constructor
  .intro g;exact absurd g.1 hk
  .intro g;exact absurd g.1 hk
def Ho{a b:Bk}(ha:bJ a)(hb:bJ b)(hw:a.w=b.w)(hh:a.h=b.h){s:XE}(he:¬cH a s)(hs:eO a b s (aG a s).1.kind):
 aG a s=aG b s/\eO b a s (aG b s).1.kind/\∀no,fv a (aG a s).1 s.s no↔fv b (aG b s).1 s.s no:=by
 rcases Gf ha hb hw hh he hs with⟨g1,g2,g3⟩|⟨g0,-,g1,g2⟩
 .exact⟨g1,g2,zb ha he g1 (.inl g3)⟩
 .exact⟨g1,g2,zb ha he g1 (.inr g0)⟩
def Kh{a b:Bk}(hb:bJ b){s:XE}(hm:gr a s)(he:cH a s)(he':¬cH b s):¬eO b a s (aG b s).1.kind:=λhs=>by
 obtain⟨e1,e2,e3⟩:=he.resolve_left (λh=>h hm);obtain⟨r1,r2,r3⟩:=xC hb he';unfold eO at hs;split at hs
 .exact he' (.inr ⟨by omega,e2,e3⟩)
 .have hl:=vt b.atoms a.atoms;rcases hs.1 with h|⟨h1,h2,h3⟩
  .omega
  .exact he' (.inr ⟨by omega,e2,e3⟩)
open Go.Proofs Go.Proofs.Tryz
def L9(sz:Nat)(ks:List Nat):WD:=⟨26,(.seq (.Za false [⟨(some 4),(.W1 (.c (.bool false))),none⟩]) (.seq (.seq (.Za false [⟨(some 6),(.W1 (.t 0)),none⟩,⟨(some 7),(.len false (.t 6)),none⟩,⟨(some 8),(.W1 (.t 1)),none⟩,⟨(some 9),(.len false (.t 8)),none⟩,⟨(some 10),(.bin .neq (.t 7) (.t 9)),none⟩]) (.cond (.t 10) (.seq (.Za false [⟨(some 4),(.W1 (.c (.bool false))),none⟩]) .ret) .skip)) (.seq (.seq (.Za false [⟨(some 11),(.W1 (.t 0)),none⟩,⟨(some 12),(.len false (.t 11)),none⟩,⟨(some 13),(.W1 (.c (.int .i64 0))),none⟩]) (.block 0 (.loop (.seq (.Za false [⟨(some 14),(.bin .lss (.t 13) (.t 12)),none⟩]) (.seq (.cond (.t 14) .skip (.exit 0)) (.seq (.block 1 (.seq (.Za false [⟨(some 15),(.W1 (.t 13)),none⟩,⟨(some 5),(.W1 (.t 15)),none⟩]) (.seq (.Za true [⟨(some 16),(.W1 (.t 0)),none⟩,⟨(some 17),(.W1 (.t 5)),none⟩,⟨(some 18),(.ZG sz (.t 16) (.t 17)),none⟩,⟨(some 19),(.load true sz (.t 18)),none⟩,⟨(some 20),(.W1 (.t 1)),none⟩,⟨(some 21),(.W1 (.t 5)),none⟩,⟨(some 22),(.ZG sz (.t 20) (.t 21)),none⟩,⟨(some 23),(.load true sz (.t 22)),none⟩,⟨(some 24),(.eqS true ks (.t 19) (.t 23)),none⟩]) (.cond (.t 24) (.seq (.Za false [⟨(some 4),(.W1 (.c (.bool false))),none⟩]) .ret) .skip)))) (.Za false [⟨(some 25),(.bin .add (.t 13) (.c (.int .i64 1))),none⟩,⟨(some 13),(.W1 (.t 25)),none⟩]))))))) (.seq (.Za false [⟨(some 4),(.W1 (.c (.bool true))),none⟩]) .ret)))),[(.tmp (.t 4))]⟩
def J4{P:Program}{f:FuncId}{fn:Func}(hf:P.funcs[f]?=some fn){sz:Nat}{ks:List Nat}(hc:cfn P fn=some (L9 sz ks))(hk:dZ P f=true){α:Type}[DecidableEq α](enc:α->V)
 (he:∀a b,mW true ks (enc a) (enc b)=some (.bool (decide (a≠b))))(hl:∀U a,bF U true sz (.rp (enc a))=some (enc a))(xs ys:List α)(hx:xs.length<=1000000000000000):
 aK P f [.sl sz (xs.map enc),.sl sz (ys.map enc)] (.bool (decide (xs=ys))):=λU=>by
 refine ax.jX hf hc hk (by simp[L9]) ?_;refine ab.mix 6 ?_;have n1:cP false (.sl sz (xs.map enc))=some (.int .i64 xs.length):=by simp[cP]
 have n2:cP false (.sl sz (ys.map enc))=some (.int .i64 ys.length):=by simp[cP]
 by_cases hlen:xs.length=ys.length
 .have q:((xs.length:Int)≠ys.length)=False:=O';apply sR;simp only[go_sem,seval,L9,n1,n2,q];refine ab.loop (λm st=>∃j,j<=xs.length/\m=xs.length-j/\xs.take j=ys.take j/\st.s 0=.sl sz (xs.map enc)/\st.s 1=.sl sz (ys.map enc)/\st.s 12=.int .i64 xs.length/\st.s 13=.int .i64 j/\st.U=U) xs.length ⟨0,by omega,rfl,rfl,rfl,rfl,rfl,rfl,rfl⟩ ?_;rintro m ⟨S,Z'⟩ ⟨j,hj,rfl,ht,t0,t1,t12,t13,W4⟩;simp only at t0 t1 t12 t13 W4;subst W4;refine ab.mix 6 ?_;by_cases H':j<xs.length
  .have q1:((j:Int)<xs.length)=True:=WE;have hlt2:j<ys.length:=by omega
   have i1:∀U,bp U sz (.sl sz (xs.map enc)) (.int .i64 j)=some (.rp (enc xs[j])):=λU=>by simp[bp,H']
   have i2:∀U,bp U sz (.sl sz (ys.map enc)) (.int .i64 j)=some (.rp (enc ys[j])):=λU=>by simp[bp,hlt2]
   have hee:=he xs[j] ys[j];have tx:=ZS H';have ty:=ZS hlt2;by_cases hq:xs[j]=ys[j]
   .rw[show decide (xs[j]≠ys[j])=false by simpa using hq]at hee;apply sR;simp only[BB,seval,bf,ez,aF,dV,iJ,Yp.nothing,t0,t1,t12,t13,q1,i1,i2,hl,hee];exact⟨ai,_,by omega,j+1,by omega,rfl,by rw[tx,ty,ht,hq],by simp⟩
   .rw[show decide (xs[j]≠ys[j])=true by simpa using hq]at hee;apply sR;simp only[BB,seval,bf,ez,aF,dV,iJ,Yp.nothing,t0,t1,t12,t13,q1,i1,i2,hl,hee];refine ak.same ?_;have:¬xs=ys:=λh=>hq (by simp only[h]);rw[Xr this]
  .have q1:((j:Int)<xs.length)=False:=O';apply sR;simp only[go_sem,seval,t12,t13,q1];refine ak.same ?_;rw[lg (by omega),lg (by omega)]at ht;rw[XJ ht]
 .have q:((xs.length:Int)≠ys.length)=True:=WE;apply sR;simp only[go_sem,seval,L9,n1,n2,q];refine ak.same ?_;rw[Xr λh=>hlen (by rw[h])]
def Jm(sz:Nat):WD:=⟨30,(.seq (.Za false [⟨(some 6),(.W1 (.c (.int .i64 0))),none⟩]) (.seq (.Za false [⟨(some 7),(.W1 (.c (.int .i64 0))),none⟩]) (.seq (.block 0 (.loop (.seq (.seq (.Za true [⟨(some 8),(.W1 (.t 7)),none⟩,⟨(some 9),(.W1 (.t 0)),none⟩,⟨(some 10),(.len false (.t 9)),none⟩,⟨(some 11),(.W1 (.t 1)),none⟩,⟨(some 12),(.len false (.t 11)),none⟩,⟨(some 13),(.minmax false (.t 10) (.t 12)),none⟩,⟨(some 14),(.bin .lss (.t 8) (.t 13)),none⟩,⟨(some 15),(.W1 (.t 14)),none⟩,⟨(some 16),(.W1 (.t 2)),(some ((.t 15),true))⟩,⟨(some 17),(.W1 (.t 0)),(some ((.t 15),true))⟩,⟨(some 18),(.W1 (.t 7)),(some ((.t 15),true))⟩,⟨(some 19),(.ZG sz (.t 17) (.t 18)),(some ((.t 15),true))⟩,⟨(some 20),(.load true sz (.t 19)),(some ((.t 15),true))⟩,⟨(some 21),(.W1 (.t 1)),(some ((.t 15),true))⟩,⟨(some 22),(.W1 (.t 7)),(some ((.t 15),true))⟩,⟨(some 23),(.ZG sz (.t 21) (.t 22)),(some ((.t 15),true))⟩,⟨(some 24),(.load true sz (.t 23)),(some ((.t 15),true))⟩,⟨(some 25),(.call (.t 16) [(.t 20),(.t 24)]),(some ((.t 15),true))⟩,⟨(some 26),(.pick (.t 15) (.t 25) (.c (.bool false))),none⟩]) (.cond (.t 26) .skip (.exit 0))) (.block 1 (.Za false [⟨(some 27),(.W1 (.t 7)),none⟩,⟨(some 28),(.bin .add (.t 27) (.c (.int .i64 1))),none⟩,⟨(some 7),(.W1 (.t 28)),none⟩]))))) (.seq (.Za false [⟨(some 29),(.W1 (.t 7)),none⟩,⟨(some 6),(.W1 (.t 29)),none⟩]) .ret)))),[(.tmp (.t 6))]⟩
def zC{α:Type}[DecidableEq α]:∀{l m:List α} {n:Nat},n<=l.length->n<=m.length->l.take n=m.take n->bE l m=n+bE (l.drop n) (m.drop n)
 |_,_,0,_,_,_=>by simp
 |[],_,n+1,h,_,_=>by simp at h
 |_::_,[],n+1,_,h,_=>by simp at h
 |x::l,y::m,n+1,h1,h2,h=>by
  simp only[px,List.cons.injEq]at h;obtain⟨rfl,h⟩:=h;rw[bE,aq rfl,Em,Em,zC (by simpa using h1) (by simpa using h2) h];omega
def E6{P:Program}{f:FuncId}{fn:Func}(hf:P.funcs[f]?=some fn){sz:Nat}(hc:cfn P fn=some (Jm sz))(hk:dZ P f=true){α:Type}[DecidableEq α](enc:α->V){g:FuncId}
 (hg:∀a b,aK P g [enc a,enc b] (.bool (decide (a=b))))(hl:∀U a,bF U true sz (.rp (enc a))=some (enc a))(xs ys:List α)(hx:xs.length<=1000000):
 aK P f [.sl sz (xs.map enc),.sl sz (ys.map enc),.fn g []] (vI (bE xs ys)):=λU=>by
 refine ax.jX hf hc hk (by simp[Jm]) ?_;refine ab.mix 8 ?_;have n1:cP false (.sl sz (xs.map enc))=some (.int .i64 xs.length):=by simp[cP]
 have n2:cP false (.sl sz (ys.map enc))=some (.int .i64 ys.length):=by simp[cP]
 apply sR;simp only[go_sem,seval,Jm];refine ab.eG (λst=>st.U=U/\st.s 7=vI (bE xs ys)) (λm st=>∃j:Nat,j<=xs.length/\j<=ys.length/\m=xs.length-j/\xs.take j=ys.take j/\st.s 0=.sl sz (xs.map enc)/\st.s 1=.sl sz (ys.map enc)/\st.s 2=.fn g []/\st.s 7=vI j/\st.U=U) xs.length ⟨0,by omega,by omega,rfl,rfl,rfl,rfl,rfl,rfl,rfl⟩ ?_ ?_
 .rintro m ⟨S,Z'⟩ ⟨j,hj,hj2,rfl,ht,t0,t1,t2,t7,W4⟩;simp only at t0 t1 t2 t7 W4;subst W4;refine ab.mix 8 ?_;have hM:(if(ys.length:Int)<xs.length then(ys.length:Int)else xs.length)=((min xs.length ys.length:Nat):Int):=by split<;>omega
  have H':=zC hj hj2 ht;by_cases h1:j<min xs.length ys.length
  .have q1:((j:Int)<((min xs.length ys.length:Nat):Int))=True:=WE;have hlx:j<xs.length:=by omega
   have hly:j<ys.length:=by omega
   have i1:∀U,bp U sz (.sl sz (xs.map enc)) (.int .i64 j)=some (.rp (enc xs[j])):=λU=>by simp[bp,hlx]
   have i2:∀U,bp U sz (.sl sz (ys.map enc)) (.int .i64 j)=some (.rp (enc ys[j])):=λU=>by simp[bp,hly]
   have hee:=hg xs[j] ys[j];have tx:=ZS hlx;have ty:=ZS hly;rw[gF hlx,gF hly,bE]at H';have r1:WR .i64 ((j:Int)+1):=ai;by_cases hq:xs[j]=ys[j]
   .rw[aq hq]at H';rw[XJ hq]at hee;apply sR;simp only[go_sem,seval,t0,t1,t2,t7,n1,n2,hM,q1,i1,i2,hl];refine Go.bw rfl rfl rfl hee ?_;apply sG;simp only[go_sem,seval,t7,r1];exact⟨_,by omega,j+1,by omega,by omega,rfl,by rw[tx,ty,ht,hq],by simp[t0,t1,t2]⟩
   .rw[ao hq]at H';rw[Xr hq]at hee;apply sR;simp only[go_sem,seval,t0,t1,t2,t7,n1,n2,hM,q1,i1,i2,hl];refine Go.bw rfl rfl rfl hee ?_;apply sG;simp only[go_sem,seval,t7];rw[H'];rfl
  .have q1:((j:Int)<((min xs.length ys.length:Nat):Int))=False:=O';have hz:bE (xs.drop j) (ys.drop j)=0:=by
    have:=vt (xs.drop j) (ys.drop j);rw[oG,oG]at this;omega
   apply sR;simp only[go_sem,seval,t0,t1,t7,n1,n2,hM,q1];rw[H',hz];rfl
 .rintro⟨S,Z'⟩ ⟨W4,t7⟩;simp only at t7 W4;subst W4;refine ab.mix 8 ?_;apply sR;simp only[go_sem,seval,t7];exact ak.same rfl
open Go.Proofs Go.Proofs.Tryz
section
variable {P:Program} {n:Nat} {st:St} {Q:St->Prop} {k:List It}
def Ky{o:Op}{x y:VX}(h:WX P n o=.bin .sub x y):∃t x0 y0 yt,o=.binOp .sub t x0 y0 yt/\cx n x0=x/\cx n y0=y:=by
 cases o
 case binOp op' t x0 y0 yt=>
  simp only[WX,cy]at h
  repeat' split at h
  all_goals first
   |(simp only[W5.bin.injEq]at h;obtain⟨rfl,h2,h3⟩:=h;exact⟨t,x0,y0,yt,rfl,h2,h3⟩)
   |cases h
   |(cases op'<;>cases h)
 case call c=>
  obtain⟨callee,args,argTypes⟩:=c;cases callee
  case builtin b=>cases b<;>simp only[WX]at h<;>(repeat' split at h)<;>cases h
  all_goals (simp only[WX]at h;cases h)
 case unOp op t x=>cases op<;>simp only[WX]at h<;>cases h
 case makeFunc f a b=>cases f<;>simp only[WX]at h<;>(repeat' split at h)<;>cases h
 all_goals (simp only[WX]at h;(repeat' split at h)<;>cases h)
def ab.Tf{i:aD}{l:List aD}{x y:VX}{kk:IntKind}{a b:Int}(hw:aZ st.s i.g=some true)(ho:i.op=.bin .sub x y)(hx:x.ev st.s=.int kk a)(hy:y.ev st.s=.int kk b)
 (h:ab P n (.ops l::k) ⟨aQ st.s i.dst (.int kk (kk.wrap (a-b))),st.U⟩ Q):ab P n (.ops (i::l)::k) st Q:=by
 refine ab.ins (by rw[ho];simp) hw λF hn I act w o all hi hs next Q' WK=>?_
 subst hn;obtain⟨WN,hd⟩:=cW hi;rw[ho]at WN;obtain⟨t,x0,y0,yt,g1,rfl,rfl⟩:=Ky WN;have ex:act.eval x0=.int kk a:=by
  have:=bU hs x0;rw[hx]at this;simpa[E']using this
 have ey:act.eval y0=.int kk b:=by
  have:=bU hs y0;rw[hy]at this;simpa[E']using this
 have Xi:(execOp act.eval o).run P w=.ok (.value (.int kk (kk.wrap (a-b)))) w:=by
  unfold execOp;rw[g1];simp[ex,ey,eqGuard,binOp,Op.intArith]
 unfold Oper.wp;rw[Xi];refine WK _ _ _ ⟨I,?_⟩ h;have:=hs.pure (d:=o.dst) (v:=.int kk (kk.wrap (a-b))) (x:=.int kk (kk.wrap (a-b))) (by simp[E']);rw[<-hd];exact this
end
def Aa(h:Int):Prop:=-9223372036854775808<=h/\h<=9223372036854775807
def KT(x:Int):Aa (IntKind.i64.wrap x):=by unfold Aa;rw[IntKind.wrap_i64];omega
def HY(x B:Int)(hB:0<=B):0<=(if B<if 0>x then 0 else x then B else if 0>x then 0 else x)/\(if B<if 0>x then 0 else x then B else if 0>x then 0 else x)<=B:=by
 by_cases h:0>x
 .simp only[aq h];split<;>omega
 .simp only[ao h];split<;>omega
open Go.Proofs Go.Proofs.Tryz
def jq(l:List Xs):cP false (aE l)=some (.int .i64 l.length):=by simp[aE,cP]
def u5{U:ag}{l:List Xs}{i:Nat}(h:i<l.length):bp U 7 (aE l) (.int .i64 i)=some (.rp (bl l[i])):=by simp[aE,bp,h,bl]
open Go.Proofs Go.Proofs.Tryz
def kQ(l:List Xd):cP false (bT l)=some (.int .i64 l.length):=by simp[bT,cP]
def oR{U:ag}{l:List Xd}{i:Nat}(h:i<l.length):bp U 5 (bT l) (.int .i64 i)=some (.rp (aL l[i])):=by simp[bT,bp,h,aL]
def SD(U:ag)(l:List Xs):bF U false 1 (.rp (aE l))=some (aE l):=rfl
open Go.Proofs Go.Proofs.Tryz
def jP(b:Bk):V:=.agg [.rp (bc b),aC b.nodes,vI b.h,aW b.atoms,aB b.M',vI b.WG,bh b.L']
def Ex:V:=.agg [.XY,.ay,vI 0,.ay,.ay,vI 0,.ay]
def bH(b:Bk):(jP b).cells=[.rp (bc b),aC b.nodes,vI b.h,aW b.atoms,aB b.M',vI b.WG,bh b.L']:=rfl
def ie(b:Bk):(jP b).stays=true:=rfl
def Ft(l:List Nd)(w h:Int):V:=if cE l w h=0 then jP (aP l w h)else Ex
def EX(l:List Nd)(hl:cT l)(w h:Int):aK prog 68 [aC l,vI w,vI h] (.WJ [Ft l w h,vI (cE l w h)]):=λU=>by
 refine e68.r (by simp[c68]) ?_;have hs:=aa.refl U;have hn:=IY l hl w h;unfold Cs at hn;refine ab.mix 9 ?_;apply sR;simp only[go_sem,seval,c68];refine ad λi6 Z6 s6 a6 f6=>?_;have z6:=hs.none f6;replace hs:=hs.trans s6;simp only[go_sem,seval];refine ab.au rfl rfl rfl (hn _) ?_;by_cases he:cE l w h=0
 .have hb:=de hl he;have hbk:(aP l w h).nodes=l:=rfl;have hbh:(aP l w h).h=h:=rfl;unfold Ft;rw[aq he,aq he,he];generalize aP l w h=b at*;subst hbk;subst hbh;have q:((0:Int)≠0)=False:=O' (λh=>h rfl);have hgc:(tg b).cells=[aW b.atoms,aB b.M',vI b.WG]:=rfl;have hgs:(tg b).stays=true:=rfl;apply sR;simp only[go_sem,seval,q];refine ab.au rfl rfl rfl (tf b hb.toBkFull _) ?_;apply sR;simp only[go_sem,seval];refine ab.au rfl rfl rfl (th b hb.toBkFull _) ?_;apply sR;simp only[go_sem,seval,a6,hgc,hgs,iN,iU,cg,dR];exact ak.pure (hs.av z6) rfl
 .have q:(cE l w h≠0)=True:=WE he;unfold Ft;rw[ao he,ao he];generalize cE l w h=E at*;apply sR;simp only[go_sem,seval,q,a6];exact ak.pure (hs.av z6) rfl
def Ss(a b:Xv):mW false [0,0,0,0,0,0,0,0] (cp a) (cp b)=some (.bool (decide (a=b))):=by
 obtain⟨a1,a2,a3,a4,a5,a6,a7,a8⟩:=a;obtain⟨b1,b2,b3,b4,b5,b6,b7,b8⟩:=b;simp only[mW,cp,iM,fo,jh,vI,XX,List.length_nil,true_and,↓reduceIte,Xv.mk.injEq];by_cases h1:a1=b1<;>simp[h1]
def Sz(a b:YJ):mW false [0,0,0] (dt a) (dt b)=some (.bool (decide (a=b))):=by
 obtain⟨a1,a2,a3⟩:=a;obtain⟨b1,b2,b3⟩:=b;simp only[mW,dt,iM,fo,jh,vI,XX,List.length_nil,true_and,↓reduceIte,YJ.mk.injEq];by_cases h1:a1=b1<;>simp[h1]
def Qg(a b:T'):mW true [0,0,0,0,0,0,0] (aJ a) (aJ b)=some (.bool (decide (a≠b))):=by
 obtain⟨a1,a2,a3,a4,a5,a6,a7⟩:=a;obtain⟨b1,b2,b3,b4,b5,b6,b7⟩:=b;simp only[mW,aJ,iM,fo,jh,vI,XX,List.length_nil,true_and,↓reduceIte,ne_eq,T'.mk.injEq];by_cases h1:a1=b1<;>simp[h1]
def LF(a b:Xv):aK prog 70 [cp a,cp b] (.bool (decide (a=b))):=λU=>by
 refine e70.r (by simp[c70]) ?_;have hs:=aa.refl U;have he:=Ss a b;have hc:∀a:Xv,(cp a).cells=[vI a.kind,vI a.node,vI a.fr,vI a.to,vI a.x,vI a.y,vI a.w,vI a.h]:=λ_=>rfl;have WY:∀a:Xv,(cp a).stays=true:=λ_=>rfl;have hag:∀a:Xv,V.agg [vI a.kind,vI a.node,vI a.fr,vI a.to,vI a.x,vI a.y,vI a.w,vI a.h]=cp a:=λ_=>rfl;refine ab.mix 4 ?_;apply sR;simp only[go_sem,seval,c70,hc,WY];refine ad λi2 Z2 s2 a2 f2=>?_;replace hs:=hs.trans s2;simp only[go_sem,seval,hc,WY];refine ad λi3 Z3 s3 a3 f3=>?_;replace a2:=s3 _ _ a2;replace hs:=hs.trans s3;simp only[BB,seval,bf,ez,aF,a2,a3,hc,hag,he];exact ak.pure hs rfl
def LL(a b:YJ):aK prog 72 [dt a,dt b] (.bool (decide (a=b))):=λU=>by
 refine e72.r (by simp[c72]) ?_;have hs:=aa.refl U;have he:=Sz a b;have hc:∀a:YJ,(dt a).cells=[vI a.cls,vI a.forced,vI a.XD]:=λ_=>rfl;have WY:∀a:YJ,(dt a).stays=true:=λ_=>rfl;have hag:∀a:YJ,V.agg [vI a.cls,vI a.forced,vI a.XD]=dt a:=λ_=>rfl;refine ab.mix 4 ?_;apply sR;simp only[go_sem,seval,c72,hc,WY];refine ad λi2 Z2 s2 a2 f2=>?_;replace hs:=hs.trans s2;simp only[go_sem,seval,hc,WY];refine ad λi3 Z3 s3 a3 f3=>?_;replace a2:=s3 _ _ a2;replace hs:=hs.trans s3;simp only[BB,seval,bf,ez,aF,a2,a3,hc,hag,he];exact ak.pure hs rfl
def Lb(a b:List Xv)(h:a.length<=1000000):aK prog 69 [aW a,aW b,.fn 70 []] (vI (bE a b)):=
 E6 func69 (e69.b.trans rfl) e69.c cp LF (λ_ _=>rfl) a b h
def Mz(a b:List YJ)(h:a.length<=1000000):aK prog 71 [bh a,bh b,.fn 72 []] (vI (bE a b)):=
 E6 func71 (e71.b.trans rfl) e71.c dt LL (λ_ _=>rfl) a b h
def E4(a b:List T')(h:a.length<=1000000):aK prog 132 [aB a,aB b] (.bool (decide (a=b))):=
 J4 func132 (SN.b.trans rfl) SN.c aJ Qg (λ_ _=>rfl) a b (by omega)
def OV(end':Int)(f:T'){U:ag}{i3:Nat}(a3:U i3=some ⟨3,1,[vI end']⟩):
 ax prog 189 [aJ f,.ptr i3 0 0] U λr Z'=>r=.bool (decide (f.anchor>end'))/\Z'=U:=by
 refine Uu.r (by simp[PG]) ?_;have hs:=aa.refl U;have hc:(aJ f).cells=[vI f.node,vI f.side,vI f.anchor,vI f.x,vI f.y,vI f.w,vI f.h]:=rfl;have WY:(aJ f).stays=true:=rfl;refine ab.mix 5 ?_;apply sR;simp only[go_sem,seval,PG,hc,WY];refine ad λi2 Z2 s2 a2 f2=>?_;replace a3:=s2 _ _ a3;replace hs:=hs.trans s2;simp only[go_sem,seval,a2,a3,hc];exact⟨_,U,hs,Wk.refl hs _,rfl,rfl⟩
def Gd(b:Bk)(r:Int):mf (λf=>decide (f.anchor>r)) b.M'=mc b r:=by
 unfold mc mf;congr 1;funext f;by_cases h:f.anchor<=r
 .show(!decide (f.anchor>r))=decide (f.anchor<=r);rw[XJ h,Xr (by omega)];rfl
 .show(!decide (f.anchor>r))=decide (f.anchor<=r);rw[Xr h,XJ (by omega)];rfl
def zz(b:Bk)(hl:b.M'.length<=1000000)(r:Int):aK prog 134 [jP b,vI r] (aB (mc b r)):=λU=>by
 refine Ws.r (by simp[N9]) ?_;have hs:=aa.refl U;refine ab.mix 5 ?_;apply sR;simp only[go_sem,seval,N9,bH,ie];refine ad λi2 Z2 s2 a2 f2=>?_;replace hs:=hs.trans s2;simp only[go_sem,seval];refine ad λi3 Z3 s3 a3 f3=>?_;replace a2:=s3 _ _ a2;replace hs:=hs.trans s3;simp only[go_sem,seval,a2,bH];refine ab.call rfl rfl rfl (oJ func62 (e62.b.trans rfl) e62.c (b.M'.map aJ) (by simp;omega) _) ?_;rintro r1 Z9 ⟨h9,ho9⟩;apply sR;simp only[go_sem,seval];refine ab.call rfl rfl rfl (yM b.M' hl h9 ho9 (λf=>decide (f.anchor>r)) (λx _ J hτ=>OV r x (hτ _ _ a3))) ?_;rintro r2 Z10 ⟨hp,h10⟩;rw[Gd]at hp;apply sR;simp only[go_sem,seval];exact⟨_,U,hs.trans h10,hp.wk hs (hs.trans h10),rfl,rfl⟩
def F4(b:Bk)(s:Xp):V:=if b.atoms=[]then .agg [.ay,vI 0,vI b.h]else kP (aV b s)
def AF(b:Bk)(hb:BkFull b)(s:Xp)(W9:0<=s.atom):aK prog 187 [jP b,aU s] (F4 b s):=λU=>by
 refine VJ.r (by simp[P3]) ?_;have hs:=aa.refl U;have hsc:(aU s).cells=[vI s.atom,vI s.done,.bool s.free]:=rfl;have hss:(aU s).stays=true:=rfl;have hln:=fK b.atoms;have hlen:=hb.len;refine ab.mix 6 ?_;apply sR;simp only[go_sem,seval,P3,bH,ie];refine ad λi2 Z2 s2 a2 f2=>?_;replace hs:=hs.trans s2;simp only[go_sem,seval,hsc,hss];refine ad λi3 Z3 s3 a3 f3=>?_;replace a2:=s3 _ _ a2;replace hs:=hs.trans s3;simp only[go_sem,seval];refine ad λi4 Z4 s4 a4 f4=>?_;replace a3:=s4 _ _ a3;replace a2:=s4 _ _ a2;have z4:=hs.none f4;replace hs:=hs.trans s4;by_cases hn:b.atoms=[]
 .have q:((b.atoms.length:Int)=0)=True:=WE (by rw[hn];rfl);simp only[go_sem,seval,a2,a4,bH,hln,q];unfold F4;rw[aq hn];exact ak.pure (hs.av z4) rfl
 .have hl0:=py.2 hn;have q:((b.atoms.length:Int)=0)=False:=O';unfold F4;rw[ao hn,aV,ao hn];obtain⟨k,hk⟩:∃k:Nat,min s.atom ((b.atoms.length:Int)-1)=k:=⟨(min s.atom ((b.atoms.length:Int)-1)).toNat,by omega⟩
  have Yn:k<b.atoms.length:=by omega
  have hmin:(if(b.atoms.length:Int)-1<s.atom then(b.atoms.length:Int)-1 else s.atom)=k:=by split<;>omega
  have r1:WR .i64 ((b.atoms.length:Int)-1):=ai;have U':=λU=>iP (U:=U) Yn;rw[hk,bg Yn];have hc:=Ni b.nodes hb.uE b.atoms[k].node b.h;have hac:∀a:Xv,(cp a).cells=[vI a.kind,vI a.node,vI a.fr,vI a.to,vI a.x,vI a.y,vI a.w,vI a.h]:=λ_=>rfl;have hkc:∀x:Kp,(kP x).cells=[bb x.WQ,vI x.high,vI x.body]:=λ_=>rfl;have hks:∀x:Kp,(kP x).stays=true:=λ_=>rfl;generalize b.atoms[k]=A at*;simp only[go_sem,seval,a2,a3,hsc,bH,hln,q,hmin,r1,U',hac];refine Go.bw rfl rfl rfl hc ?_;apply sG;simp only[go_sem,seval,a4,hkc,hks];exact ak.pure (hs.av z4) rfl
open Go.Proofs Go.Proofs.Tryz
def bu(s:XE):(bC s).cells=[vI s.s.atom,vI s.s.done,.bool s.s.free,aB s.bx]:=rfl
def eZ(s:XE):(bC s).stays=true:=rfl
def mI(s:Xp):V.agg [vI s.atom,vI s.done,.bool s.free]=aU s:=rfl
def bR(s:Xp):(aU s).cells=[vI s.atom,vI s.done,.bool s.free]:=rfl
def nS(s:Xp):(aU s).stays=true:=rfl
def Ry(b:Bk)(hb:bJ b)(s:XE)(kind:Int)(h0:0<=s.s.atom)(hm:kind=1->bS b.atoms s.s)(hp:s.bx.length<=1000000)(hph:∀f∈s.bx,0<=f.h):
 aK prog 133 [jP b,bC s,vI kind] (vI (dj b s kind)):=λU=>by
 refine TD.r (by simp[Rf]) ?_;have hs:=aa.refl U;refine ab.mix 12 ?_;apply sR;simp only[go_sem,seval,Rf,bH,ie];refine ad λi3 Z3 s3 a3 f3=>?_;replace hs:=hs.trans s3;simp only[go_sem,seval,bu,eZ];refine ad λi4 Z4 s4 a4 f4=>?_;replace a3:=s4 _ _ a3;replace hs:=hs.trans s4;by_cases hk:kind=1
 .have q:(kind≠1)=False:=O' (λh=>h hk);have hf:=hm hk;have W6:b.atoms≠[]:=λh=>by have:=hf.1;rw[h]at this;simp at this;omega
  have hR:dj b s kind=jD b.atoms s.s (iW b.atoms s.s ((aV b s.s).body-(cC (aV b s.s).body s.bx 0).2.2)) (cC (aV b s.s).body s.bx 0).2.2 (aV b s.s).body:=by unfold dj;rw[ao (λh=>h hk)]
  rw[hR];have hrv:F4 b s.s=kP (aV b s.s):=ao W6;have hrc:=AF b hb.toBkFull s.s h0;rw[hrv]at hrc;have hr1:=gv hb.toBkFull s.s h0;have hro:=(nk hb.toBkFull s.s).body;have hkc:∀x:Kp,(kP x).cells=[bb x.WQ,vI x.high,vI x.body]:=λ_=>rfl;have hks:∀x:Kp,(kP x).stays=true:=λ_=>rfl;generalize aV b s.s=X at*;have htc:=Jb s.bx hp X.body hr1 (by omega) hph;obtain⟨g1,g2,g3,g4⟩:=rL (body:=X.body) s.bx 0 (Int.le_refl _) (by omega) hph;generalize cC X.body s.bx 0=T at*;have hkr:=zr hb.toBkOk s.s (X.body-T.2.2);have hKc:=EZ b.atoms hb.Xg s.s (X.body-T.2.2);have hdn:=td hb.toBkOk hf;have hRc:=Be b.atoms hb.Xg s.s (by omega) (iW b.atoms s.s (X.body-T.2.2)) T.2.2 X.body hkr ⟨by omega,by omega⟩;generalize iW b.atoms s.s (X.body-T.2.2)=K at*;have r1:WR .i64 (X.body-T.2.2):=ai;have hI:(bb X.WQ).cells=[bb X.WQ]:=rfl;have hIs:(bb X.WQ).stays=true:=rfl;simp only[go_sem,seval,a3,a4,q,bH,bu];rw[<-jP,mI];refine ab.au rfl rfl rfl (hrc _) ?_;apply sR;simp only[go_sem,seval];refine ad λi7 Z7 s7 a7 f7=>?_;have n37:=al a3 f7;replace a3:=s7 _ _ a3;have n47:=al a4 f7;replace a4:=s7 _ _ a4;have z7:=hs.none f7;replace hs:=hs.trans s7;simp only[go_sem,seval,a7,hkc,hks];generalize YD:C' _ i7 _=Y7;replace a7:=(congrFun YD i7).symm.trans af;replace a3:=((congrFun YD i3).symm.trans (ae n37)).trans a3;replace a4:=((congrFun YD i4).symm.trans (ae n47)).trans a4;replace hs:=Eq.subst (motive:=aa _) YD (hs.av z7);clear YD;simp only[go_sem,seval,a4,a7,hkc,bu];refine ab.au rfl rfl rfl (htc _) ?_;apply sR;simp only[go_sem,seval,a3,a4,a7,r1,hkc,bH,bu];rw[mI];refine ab.au rfl rfl rfl (hKc _) ?_;apply sR;simp only[go_sem,seval,a3,a4,a7,hkc,bH,bu];rw[mI];refine ab.au rfl rfl rfl (hRc _) ?_;apply sR;simp only[go_sem,seval];exact ak.pure hs rfl
 .have q:(kind≠1)=True:=WE hk;unfold dj;rw[aq hk];simp only[go_sem,seval,a4,q,bu];exact ak.pure hs rfl
def nv(a b:Bk)(n m:Int):V:=.agg [.rp (bc a),aC a.nodes,vI a.h,aW a.atoms,aB a.M',vI a.WG,bh a.L',.rp (bc b),aC b.nodes,vI b.h,aW b.atoms,aB b.M',vI b.WG,bh b.L',vI n,vI m]
def cY(a b:Bk)(n m:Int):(nv a b n m).cells=[.rp (bc a),aC a.nodes,vI a.h,aW a.atoms,aB a.M',vI a.WG,bh a.L',.rp (bc b),aC b.nodes,vI b.h,aW b.atoms,aB b.M',vI b.WG,bh b.L',vI n,vI m]:=rfl
def AU(a b:Bk)(n m:Int):(nv a b n m).stays=true:=rfl
def MK(a b:Bk)(n m:Int)(i k:Int)(hi:∃j:Nat,i=j/\j<a.nodes.length)(hk:∃j:Nat,k=j/\j<b.nodes.length){U:ag}{i2:Nat}(a2:U i2=some ⟨104,16,[nv a b n m]⟩):
 ax prog 191 [vI i,vI k,.ptr i2 0 0] U λr Z'=>r=.bool (decide (i=k/\(YG a.nodes i).head=(YG b.nodes k).head))/\Z'=U:=by
 refine U4.r (by simp[KQ]) ?_;obtain⟨i,rfl,hi⟩:=hi;obtain⟨k,rfl,hk⟩:=hk;have e1:(YG a.nodes (i:Int)).head=a.nodes[i].st.head:=by simp[YG,hi]
 have e2:(YG b.nodes (k:Int)).head=b.nodes[k].st.head:=by simp[YG,hk]
 have x1:=λU=>cA (U:=U) hi;have x2:=λU=>cA (U:=U) hk;rw[e1,e2];generalize a.nodes[i]=x at*;generalize b.nodes[k]=y at*;refine ab.mix 5 ?_;by_cases hik:(i:Int)=k
 .have q:((i:Int)=k)=True:=WE hik;apply sR;simp only[go_sem,seval,KQ,a2,cY,q,x1,x2,Nd.cells];exact ak.same (by simp)
 .have q:((i:Int)=k)=False:=O' hik;apply sR;simp only[go_sem,seval,KQ,q];exact ak.same (by simp)
def lf{α:Type}(p:α->α->Bool):List α->List α->Bool
 |[],[]=>true
 |x::l,y::m=>p x y&&lf p l m
 |_,_=>false
def vx{α:Type}{p:α->α->Bool}:∀{l m:List α},l.length≠m.length->lf p l m=false
 |[],[],h=>absurd rfl h
 |x::l,y::m,h=>by rw[lf,vx (by simpa using h),Bool.and_false]
 |[],_::_,_=>rfl
 |_::_,[],_=>rfl
def Rr{U:ag}{f:FuncId}{caps:List V}(p:Int->Int->Bool)(xs ys:List Int)(hx:xs.length<=1000000)
 (hf:∀x∈xs,∀y∈ys,ax prog f (vI x::vI y::caps) U λr Z'=>r=.bool (p x y)/\Z'=U):
 ax prog 190 [bb xs,bb ys,.fn f caps] U λr Z'=>r=.bool (lf p xs ys)/\Z'=U:=by
 refine US.r (by simp[L7]) ?_;refine ab.mix 10 ?_;have n1:=eR xs;have n2:=eR ys;by_cases hlen:xs.length=ys.length
 .have q:((xs.length:Int)≠ys.length)=False:=O';apply sR;simp only[go_sem,seval,L7,n1,n2,q];refine ab.loop (λm st=>∃j,j<=xs.length/\m=xs.length-j/\lf p xs ys=lf p (xs.drop j) (ys.drop j)/\st.s 1=bb ys/\st.s 2=.fn f caps/\st.s 15=bb xs/\st.s 16=.int .i64 xs.length/\st.s 17=.int .i64 j/\st.U=U) xs.length ⟨0,by omega,rfl,rfl,rfl,rfl,rfl,rfl,rfl,rfl⟩ ?_;rintro m ⟨S,Z'⟩ ⟨j,hj,rfl,ht,t1,t2,t15,t16,t17,W4⟩;simp only at t1 t2 t15 t16 t17 W4;subst W4;refine ab.mix 10 ?_;by_cases H':j<xs.length
  .have q1:((j:Int)<xs.length)=True:=WE;have hlt2:j<ys.length:=by omega
   have i1:=λU=>iq (U:=U) H';have i2:=λU=>iq (U:=U) hlt2;have hee:=hf xs[j] (XI H') ys[j] (XI hlt2);rw[gF H',gF hlt2,lf]at ht;have r1:WR .i64 ((j:Int)+1):=ai;generalize xs[j]=x at*;generalize ys[j]=y at*;apply sR;simp only[go_sem,seval,t1,t2,t15,t16,t17,q1,i1,i2,mT];refine ab.au rfl rfl rfl hee ?_;cases hp:p x y
   .apply sR;simp only[go_sem,seval];exact ak.same (by rw[ht,hp];rfl)
   .apply sR;simp only[go_sem,seval,t1,t2,t15,t16,t17,r1];exact⟨_,by omega,j+1,by omega,rfl,by rw[ht,hp];rfl,by simp⟩
  .have q1:((j:Int)<xs.length)=False:=O';apply sR;simp only[go_sem,seval,t16,t17,q1];refine ak.same ?_;rw[ht,xF (by omega),xF (by omega)];rfl
 .have q:((xs.length:Int)≠ys.length)=True:=WE;apply sR;simp only[go_sem,seval,L7,n1,n2,q];exact ak.same (by rw[vx hlen])
def Ct{q:Int->Int->Prop}[∀x y,Decidable (q x y)]:∀(l m:List Int),lf (λx y=>decide (x=y/\q x y)) l m=decide (l=m/\∀n∈l,q n n)
 |[],[]=>by simp[lf]
 |[],y::m=>by simp[lf]
 |x::l,[]=>by simp[lf]
 |x::l,y::m=>by
  rw[lf,Ct l m];by_cases h:x=y
  .subst h;simp only[true_and,List.cons.injEq,db,forall_eq_or_imp,Bool.decide_and];cases decide (q x x)<;>cases decide (l=m)<;>simp
  .simp[h]
def Ha(a b:Bk)(ha:bJ a)(hb:bJ b)(na:a.atoms≠[])(nb:b.atoms≠[])(n m:Int)(s:Xp)(h0:0<=s.atom):
 aK prog 135 [nv a b n m,aU s] (.bool (decide (nt a b s))):=λU=>by
 refine UI.r (by simp[NL]) ?_;have hs:=aa.refl U;have ca:=AF a ha.toBkFull s h0;have cb:=AF b hb.toBkFull s h0;rw[F4,ao na]at ca;rw[F4,ao nb]at cb;have oa:=nk ha.toBkFull s;have ob:=nk hb.toBkFull s;have hD:decide (nt a b s)=lf (λx y=>decide (x=y/\(YG a.nodes x).head=(YG b.nodes y).head)) (aV a s).WQ (aV b s).WQ:=by
  rw[Ct (q:=λx y=>(YG a.nodes x).head=(YG b.nodes y).head)];exact decide_eq_decide.2 Iff.rfl
 rw[hD];clear hD;have hkc:∀x:Kp,(kP x).cells=[bb x.WQ,vI x.high,vI x.body]:=λ_=>rfl;have hks:∀x:Kp,(kP x).stays=true:=λ_=>rfl;have hIc:∀l,(bb l).cells=[bb l]:=λ_=>rfl;have hIs:∀l,(bb l).stays=true:=λ_=>rfl;generalize aV a s=X at*;generalize aV b s=Y at*;refine ab.mix 7 ?_;apply sR;simp only[go_sem,seval,NL,cY,AU];refine ad λi2 Z2 s2 a2 f2=>?_;replace hs:=hs.trans s2;simp only[go_sem,seval,bR,nS];refine ad λi3 Z3 s3 a3 f3=>?_;replace a2:=s3 _ _ a2;replace hs:=hs.trans s3;simp only[go_sem,seval,a2,a3,cY,bR];refine Go.bw rfl rfl rfl ca ?_;apply sG;simp only[go_sem,seval,a2,a3,cY,bR];refine Go.bw rfl rfl rfl cb ?_;apply sG;simp only[go_sem,seval];refine aS λi5 Z5 s5 a5 f5=>?_;have n35:=al a3 f5;replace a3:=s5 _ _ a3;have n25:=al a2 f5;replace a2:=s5 _ _ a2;have z5:=hs.none f5;replace hs:=hs.trans s5;simp only[go_sem,seval];refine aS λi6 Z6 s6 a6 f6=>?_;have n56:=al a5 f6;replace a5:=s6 _ _ a5;have n36:=al a3 f6;replace a3:=s6 _ _ a3;have n26:=al a2 f6;replace a2:=s6 _ _ a2;have z6:=hs.none f6;replace hs:=hs.trans s6;simp only[go_sem,seval,a5,a6,hkc,hks,ae n56.symm,ae n56];generalize X9:C' _ i5 _=Y5;replace a5:=(congrFun X9 i5).symm.trans af;replace a2:=((congrFun X9 i2).symm.trans (ae n25)).trans a2;replace a3:=((congrFun X9 i3).symm.trans (ae n35)).trans a3;replace a6:=((congrFun X9 i6).symm.trans (ae n56.symm)).trans a6;replace hs:=Eq.subst (motive:=aa _) X9 (hs.av z5);clear X9;generalize ZX:C' _ i6 _=Y6;replace a6:=(congrFun ZX i6).symm.trans af;replace a2:=((congrFun ZX i2).symm.trans (ae n26)).trans a2;replace a3:=((congrFun ZX i3).symm.trans (ae n36)).trans a3;replace a5:=((congrFun ZX i5).symm.trans (ae n56)).trans a5;replace hs:=Eq.subst (motive:=aa _) ZX (hs.av z6);clear ZX;apply sR;simp only[go_sem,seval];refine ab.au rfl rfl rfl (Rr (λx y=>decide (x=y/\(YG a.nodes x).head=(YG b.nodes y).head)) X.WQ Y.WQ oa.len λx hx y hy=>MK a b n m x y (oa.mem x hx) (ob.mem y hy) a2) ?_;apply sR;simp only[go_sem,seval];exact ak.pure hs rfl
open Go.Proofs Go.Proofs.Tryz
def Mo(b:Bk)(XU:b.L'.length<=1000000)(p:Xd)(s:Xp)(h0:0<=s.atom)(h1:s.atom<b.L'.length)(no:Int)(Xa:0<=no):aK prog 74 [jP b,aU s,vI p.kind,vI no] (.bool (decide (fv b p s no))):=λU=>by
 refine e74.r (by simp[c74]) ?_;have hs:=aa.refl U;obtain⟨k,hk⟩:∃k:Nat,s.atom=k:=⟨s.atom.toNat,by omega⟩
 have Yn:k<b.L'.length:=by omega
 have U':=λU=>qI (U:=U) Yn;have hg:Yt b.L' s.atom.toNat=b.L'[k]:=by rw[hk];simp[Yt,Yn]
 have hb3:∀x:YJ,(dt x).cells=[vI x.cls,vI x.forced,vI x.XD]:=λ_=>rfl;have htm:no.tmod 2=no%2:=Int.tmod_eq_emod_of_nonneg Xa;refine ab.mix 9 ?_;have hD:decide (fv b p s no)=decide (p.kind=1/\¬s.done>0/\(b.L'[k].forced=3/\no%2=1\/b.L'[k].forced=4/\no%2=0)):=decide_eq_decide.2 (by unfold fv;rw[hg]);rw[hD];clear hD hg;generalize hX:decide (p.kind=1/\¬s.done>0/\(b.L'[k].forced=3/\no%2=1\/b.L'[k].forced=4/\no%2=0))=X;generalize b.L'[k]=x at*;apply sR;simp only[go_sem,seval,c74,bH,ie];refine ad λi4 Z4 s4 a4 f4=>?_;replace hs:=hs.trans s4;simp only[go_sem,seval,bR,nS];refine ad λi5 Z5 s5 a5 f5=>?_;replace a4:=s5 _ _ a4;replace hs:=hs.trans s5;by_cases q1:p.kind=1
 .have q1':(p.kind≠1)=False:=O' (λh=>h q1);by_cases q2:s.done>0
  .have q2':(s.done>0)=True:=WE q2;simp only[go_sem,seval,a5,q1',q2',bR];exact ak.pure hs (by rw[<-hX,Xr λh=>h.2.1 q2])
  .have q2':(s.done>0)=False:=O' q2;by_cases q3:x.forced=3
   .have q3':(x.forced=3)=True:=WE q3;have q6:(x.forced=4)=False:=O';by_cases q4:no%2=1
    .have q4':(no.tmod 2=1)=True:=WE;simp only[go_sem,seval,a4,a5,q1',q2',q3',q4',hk,U',hb3,bR,bH];exact ak.pure hs (by rw[<-hX,XJ ⟨q1,q2,.inl ⟨q3,q4⟩⟩])
    .have q4':(no.tmod 2=1)=False:=O';simp only[go_sem,seval,a4,a5,q1',q2',q3',q4',q6,hk,U',hb3,bR,bH];exact ak.pure hs (by rw[<-hX,Xr];omega)
   .have q3':(x.forced=3)=False:=O' q3;by_cases q6:x.forced=4
    .have q6':(x.forced=4)=True:=WE q6;by_cases q4:no%2=0
     .have q4':(no.tmod 2=0)=True:=WE;simp only[go_sem,seval,a4,a5,q1',q2',q3',q4',q6',hk,U',hb3,bR,bH];exact ak.pure hs (by rw[<-hX,XJ ⟨q1,q2,.inr ⟨q6,q4⟩⟩])
     .have q4':(no.tmod 2=0)=False:=O';simp only[go_sem,seval,a4,a5,q1',q2',q3',q4',q6',hk,U',hb3,bR,bH];exact ak.pure hs (by rw[<-hX,Xr];omega)
    .have q6':(x.forced=4)=False:=O' q6;simp only[go_sem,seval,a4,a5,q1',q2',q3',q6',hk,U',hb3,bR,bH];exact ak.pure hs (by rw[<-hX,Xr];omega)
 .have q1':(p.kind≠1)=True:=WE q1;simp only[go_sem,seval,q1'];exact ak.pure hs (by rw[<-hX,Xr λh=>q1 h.1])
def tS(a b:Bk):V:=.agg [.rp (bc a),aC a.nodes,vI a.h,aW a.atoms,aB a.M',vI a.WG,bh a.L',.rp (bc b),aC b.nodes,vI b.h,aW b.atoms,aB b.M',vI b.WG,bh b.L']
def eN(a b:Bk):(tS a b).cells=[.rp (bc a),aC a.nodes,vI a.h,aW a.atoms,aB a.M',vI a.WG,bh a.L',.rp (bc b),aC b.nodes,vI b.h,aW b.atoms,aB b.M',vI b.WG,bh b.L']:=rfl
def AJ(a b:Bk):(tS a b).stays=true:=rfl
def y7(a b:Bk)(ha:a.atoms.length<=1000000)(hb:a.L'.length<=1000000):aK prog 35 [tS a b] (nv a b (bE a.atoms b.atoms) (bE a.L' b.L')):=λU=>by
 refine e35.r (by simp[c35]) ?_;have hs:=aa.refl U;have c1:=Lb a.atoms b.atoms ha;have c2:=Mz a.L' b.L' hb;generalize bE a.atoms b.atoms=n1 at*;generalize bE a.L' b.L'=n2 at*;have fin:∀(S:Nat->V) (J:ag) (i2 i3 i4:Nat) (hsZ:aa U J) (z2:U i2=none) (a2:J i2=some ⟨104,16,[.agg [.XY,.ay,vI 0,.ay,.ay,vI 0,.ay,.XY,.ay,vI 0,.ay,.ay,vI 0,.ay,vI 0,vI 0]]⟩) (a3:J i3=some ⟨99,7,[jP a]⟩) (a4:J i4=some ⟨99,7,[jP b]⟩) (t2:S 2=.ptr i2 0 0) (t3:S 3=.ptr i3 0 0) (t4:S 4=.ptr i4 0 0),
  ab prog 24 [It.code c35.code.rt.rt] ⟨S,J⟩ λst=>Ret [.cell true 16 (.t 2)] st λr Z'=>r=nv a b n1 n2/\Z'=U:=by
  intro S J i2 i3 i4 hsZ z2 a2 a3 a4 t2 t3 t4;refine ab.mix 5 ?_;apply sR;simp only[go_sem,seval,c35,bG.rt,t3,t4,a3,a4,bH];refine Go.bw rfl rfl rfl c1 ?_;apply sG;simp only[go_sem,seval,t3,t4,a3,a4,bH];refine Go.bw rfl rfl rfl c2 ?_;apply sG;simp only[go_sem,seval,t2,a2];exact ak.pure (hsZ.av z2) rfl
 refine ab.mix 5 ?_;apply sR;simp only[go_sem,seval,c35,eN,AJ];refine ad λi1 Z1 s1 a1 f1=>?_;replace hs:=hs.trans s1;simp only[go_sem,seval];refine ad λi2 Z2 s2 a2 f2=>?_;replace a1:=s2 _ _ a1;have z2:=hs.none f2;replace hs:=hs.trans s2;simp only[go_sem,seval,cK];have a3:True:=trivial;have a4:True:=trivial;have hn:True:=trivial;have u13:True:=trivial;have u14:True:=trivial;have u23:True:=trivial;have u24:True:=trivial;have W9:=hs;refine ab.D3 (by kernel_rfl) 8 (.fork [[],[0],[],[2],[],[],[4,1,0,5],[5,3,6,0,1,2,4]] [0,1,2,3] [4,5] [(.leaf [[],[0],[],[2],[],[4],[4,1,0,5],[4,5,3,6,0,1,2]] [4,5,6,7]),(.leaf [[],[0],[],[2],[5],[],[5,4,1,0],[5,3,6,0,1,2,4]] [5,4,6,7])]) (by kernel_rfl) ?_;refine GT.ny (its:=[0,2,4,6]) (by kernel_rfl) ?_;refine RE.XG (n:=0) [] [0,2,4,6] [⟨(.some 5),(.idxAA .true 2 7 (.t 1) (.c (.int .i64 0))),.none⟩,⟨(.some 6),(.load .true 7 (.t 5)),.none⟩,⟨(.some 7),(.idxAA .true 2 7 (.t 1) (.c (.int .i64 1))),.none⟩,⟨(.some 8),(.load .true 7 (.t 7)),.none⟩] rfl rfl ?_;apply sG;simp only[go_sem,seval,a1,eN];refine⟨?_,?_⟩
 .refine GT.gm (its:=[8,3,7,10,3,7,12,7,14]) (by kernel_rfl) ?_;refine RE.XG (n:=0) [3,7,10,3,7,12,7,14] [8] [⟨(.some 3),(.alloc 99 7 (.agg [.XY,.ay,(.int .i64 0),.ay,.ay,(.int .i64 0),.ay])),.none⟩] rfl rfl ?_;apply sG;simp only[go_sem,seval];refine aS λi3 Z3 s3 a3 f3=>?_
  try replace hn:=bD (al a4 f3).symm
  try replace a4:=s3 _ _ a4
  have n13:=al a1 f3;have n23:=al a2 f3;replace u13:=(bD n13).2;replace u23:=(bD n23).2;replace a1:=s3 _ _ a1;replace a2:=s3 _ _ a2;have z3:=W9.none f3;replace W9:=W9.trans s3;simp only[go_sem,seval];refine RE.X2 rfl rfl rfl rfl rfl trivial (by simp only[go_sem,seval,a1,eN]) ?_;refine RE.X2 rfl rfl rfl rfl rfl trivial (by simp only[go_sem,seval,a1,eN]) ?_;refine RE.XG (n:=0) [3,7,12,7,14] [10] [⟨(.some 4),(.alloc 99 7 (.agg [.XY,.ay,(.int .i64 0),.ay,.ay,(.int .i64 0),.ay])),.none⟩] rfl rfl ?_;apply sG;simp only[go_sem,seval];refine aS λi4 Z4 s4 a4 f4=>?_
  try replace hn:=bD (al a3 f4)
  try replace a3:=s4 _ _ a3
  have n14:=al a1 f4;have n24:=al a2 f4;replace u14:=(bD n14).2;replace u24:=(bD n24).2;replace a1:=s4 _ _ a1;replace a2:=s4 _ _ a2;have z4:=W9.none f4;replace W9:=W9.trans s4;simp only[go_sem,seval];refine RE.X2 rfl rfl rfl rfl rfl trivial (by simp only[go_sem,seval,a1,eN]) ?_;refine RE.X2 rfl rfl rfl rfl rfl trivial (by simp only[go_sem,seval,a1,eN]) ?_;refine RE.XG (n:=0) [7,14] [12] [⟨.none,(.store 7 (.t 3) (.t 6)),.none⟩] rfl rfl ?_;apply sG;simp only[go_sem,seval,a3];refine RE.X2 rfl rfl rfl rfl rfl trivial (by simp only[go_sem,seval,a1,eN,u13]) ?_;refine RE.XG (n:=0) [] [14] [⟨.none,(.store 7 (.t 4) (.t 8)),.none⟩] rfl rfl ?_;apply sG;simp only[go_sem,seval,a4,hn];exact fin _ _ i2 i3 i4 ((W9.av z3).av z4) z2 (((ae n24).trans (ae n23)).trans a2) ((hn.2 _ _).trans af) af rfl rfl rfl
 .refine GT.gm (its:=[10,3,7,8,3,7,12,7,14]) (by kernel_rfl) ?_;refine RE.XG (n:=0) [3,7,8,3,7,12,7,14] [10] [⟨(.some 4),(.alloc 99 7 (.agg [.XY,.ay,(.int .i64 0),.ay,.ay,(.int .i64 0),.ay])),.none⟩] rfl rfl ?_;apply sG;simp only[go_sem,seval];refine aS λi4 Z4 s4 a4 f4=>?_
  try replace hn:=bD (al a3 f4)
  try replace a3:=s4 _ _ a3
  have n14:=al a1 f4;have n24:=al a2 f4;replace u14:=(bD n14).2;replace u24:=(bD n24).2;replace a1:=s4 _ _ a1;replace a2:=s4 _ _ a2;have z4:=W9.none f4;replace W9:=W9.trans s4;simp only[go_sem,seval];refine RE.X2 rfl rfl rfl rfl rfl trivial (by simp only[go_sem,seval,a1,eN]) ?_;refine RE.X2 rfl rfl rfl rfl rfl trivial (by simp only[go_sem,seval,a1,eN]) ?_;refine RE.XG (n:=0) [3,7,12,7,14] [8] [⟨(.some 3),(.alloc 99 7 (.agg [.XY,.ay,(.int .i64 0),.ay,.ay,(.int .i64 0),.ay])),.none⟩] rfl rfl ?_;apply sG;simp only[go_sem,seval];refine aS λi3 Z3 s3 a3 f3=>?_
  try replace hn:=bD (al a4 f3).symm
  try replace a4:=s3 _ _ a4
  have n13:=al a1 f3;have n23:=al a2 f3;replace u13:=(bD n13).2;replace u23:=(bD n23).2;replace a1:=s3 _ _ a1;replace a2:=s3 _ _ a2;have z3:=W9.none f3;replace W9:=W9.trans s3;simp only[go_sem,seval];refine RE.X2 rfl rfl rfl rfl rfl trivial (by simp only[go_sem,seval,a1,eN]) ?_;refine RE.X2 rfl rfl rfl rfl rfl trivial (by simp only[go_sem,seval,a1,eN]) ?_;refine RE.XG (n:=0) [7,14] [12] [⟨.none,(.store 7 (.t 3) (.t 6)),.none⟩] rfl rfl ?_;apply sG;simp only[go_sem,seval,a3];refine RE.X2 rfl rfl rfl rfl rfl trivial (by simp only[go_sem,seval,a1,eN,u13]) ?_;refine RE.XG (n:=0) [] [14] [⟨.none,(.store 7 (.t 4) (.t 8)),.none⟩] rfl rfl ?_;apply sG;simp only[go_sem,seval,a4,hn];exact fin _ _ i2 i3 i4 ((W9.av z3).av z4) z2 (((ae n24).trans (ae n23)).trans a2) ((hn.2 _ _).trans af) af rfl rfl rfl
open Go.Proofs Go.Proofs.Tryz
def K9(a b:Bk)(ha:bJ a)(hb:bJ b)(s:XE)(kind:Int)(WY:a.atoms≠[]->b.atoms≠[]->0<=s.s.atom/\(kind=1->bS a.atoms s.s)/\s.bx.length<=1000000/\∀f∈s.bx,0<=f.h):
 aK prog 73 [nv a b (bE a.atoms b.atoms) (bE a.L' b.L'),bC s,vI kind] (.bool (decide (eO a b s kind))):=λU=>by
 refine e73.r (by simp[c73]) ?_;have hs:=aa.refl U;have Zl:=fK a.atoms;have hlb:=fK b.atoms;refine ab.mix 11 ?_;apply sR;simp only[go_sem,seval,c73,cY,AU];refine ad λi3 Z3 s3 a3 f3=>?_;replace hs:=hs.trans s3;simp only[go_sem,seval,bu,eZ];refine ad λi4 Z4 s4 a4 f4=>?_;replace a3:=s4 _ _ a3;replace hs:=hs.trans s4;generalize hX:decide (eO a b s kind)=X;by_cases h0:(a.atoms.length:Int)=0\/(b.atoms.length:Int)=0
 .have hq:((a.atoms.length:Int)=0)=True\/((a.atoms.length:Int)=0)=False/\((b.atoms.length:Int)=0)=True:=by
   by_cases h:(a.atoms.length:Int)=0
   .exact .inl (WE h)
   .exact .inr ⟨O' h,WE (h0.resolve_left h)⟩
  have hX':X=decide ((a.atoms.length:Int)=b.atoms.length/\a.M'=b.M'):=by
   rw[<-hX];exact decide_eq_decide.2 (by unfold eO;rw[aq h0])
  clear hX;have hc:=E4 a.M' b.M' ha.Zi;by_cases hnm:(a.atoms.length:Int)=b.atoms.length
  .have q2:((a.atoms.length:Int)=b.atoms.length)=True:=WE hnm;have XL:X=decide (a.M'=b.M'):=hX'.trans (decide_eq_decide.2 (by simp[hnm]));rw[<-XL]at hc;rcases hq with q1|⟨q1,q3⟩
   .simp only[go_sem,seval,a3,cY,Zl,hlb,q1,q2];refine ab.au rfl rfl rfl (hc _) ?_;apply sR;simp only[go_sem,seval];exact ak.pure hs rfl
   .simp only[go_sem,seval,a3,cY,Zl,hlb,q1,q2,q3];refine ab.au rfl rfl rfl (hc _) ?_;apply sR;simp only[go_sem,seval];exact ak.pure hs rfl
  .have q2:((a.atoms.length:Int)=b.atoms.length)=False:=O' hnm;have XL:X=false:=hX'.trans (Xr λh=>hnm h.1);rw[XL];rcases hq with q1|⟨q1,q3⟩
   .simp only[go_sem,seval,a3,cY,Zl,hlb,q1,q2];exact ak.pure hs rfl
   .simp only[go_sem,seval,a3,cY,Zl,hlb,q1,q2,q3];exact ak.pure hs rfl
 .have na:a.atoms≠[]:=λh=>h0 (.inl (by rw[h];rfl));have nb:b.atoms≠[]:=λh=>h0 (.inr (by rw[h];rfl));obtain⟨x0,x1,x2,x3⟩:=WY na nb;have q1:((a.atoms.length:Int)=0)=False:=O' λh=>h0 (.inl h);have q3:((b.atoms.length:Int)=0)=False:=O' λh=>h0 (.inr h);have hec:=Ry a ha s kind x0 x1 x2 x3;have hX':X=decide ((dj a s kind<bE a.atoms b.atoms\/dj a s kind=a.atoms.length/\dj a s kind=b.atoms.length/\dj a s kind=bE a.atoms b.atoms)/\dj a s kind<bE a.L' b.L'/\mc a (dj a s kind)=mc b (dj a s kind)/\nt a b s.s):=by
   rw[<-hX];exact decide_eq_decide.2 (by unfold eO;rw[ao h0])
  clear hX;have hhc:=Ha a b ha hb na nb (bE a.atoms b.atoms) (bE a.L' b.L') s.s x0;generalize dj a s kind=r at*;have fa:=zz a ha.Zi r;have fb:=zz b hb.Zi r;have hul:(mc a r).length<=1000000:=by
   have:=List.length_filter_le (λf:T'=>decide (f.anchor<=r)) a.M';have h2:=ha.Zi;unfold mc;omega
  have hc:=E4 (mc a r) (mc b r) hul;generalize mc a r=A at*;generalize mc b r=B at*;generalize bE a.atoms b.atoms=n1 at*;generalize bE a.L' b.L'=n2 at*;generalize hH:decide (nt a b s.s)=Hb at hhc;simp only[go_sem,seval,a3,a4,cY,bu,Zl,hlb,q1,q3];rw[<-jP,<-bC];refine ab.au rfl rfl rfl (hec _) ?_;by_cases p1:r<n1
  .have s1:(r<(n1:Int))=True:=WE p1;have hsm:(r<(n1:Int)\/r=a.atoms.length/\r=b.atoms.length/\r=n1):=.inl p1;by_cases hB:r<n2
   .have s2:(r<(n2:Int))=True:=WE hB;apply sR;simp only[go_sem,seval,a3,cY,s1,s2];rw[<-jP];refine Go.bw rfl rfl rfl fa ?_;apply sG;simp only[go_sem,seval,a3,cY];rw[<-jP];refine Go.bw rfl rfl rfl fb ?_;apply sG;simp only[go_sem,seval];refine Go.bw rfl rfl rfl hc ?_;by_cases hAB:A=B
    .rw[XJ hAB];apply sG;simp only[go_sem,seval,a3,a4,cY,bu];rw[<-nv,mI];refine Go.bw rfl rfl rfl hhc ?_;apply sG;simp only[go_sem,seval];exact ak.pure hs (by rw[hX',<-hH];exact congrArg V.bool (decide_eq_decide.2 ⟨λh=>⟨hsm,hB,hAB,h⟩,λh=>h.2.2.2⟩))
    .rw[Xr hAB];apply sG;simp only[go_sem,seval];exact ak.pure hs (by rw[hX',Xr λh=>hAB h.2.2.1])
   .have s2:(r<(n2:Int))=False:=O' hB;apply sR;simp only[go_sem,seval,a3,cY,s1,s2];exact ak.pure hs (by rw[hX',Xr λh=>hB h.2.1])
  .have s1:(r<(n1:Int))=False:=O' p1;by_cases p2:r=a.atoms.length
   .have s3:(r=(a.atoms.length:Int))=True:=WE p2;by_cases p3:r=b.atoms.length
    .have s4:(r=(b.atoms.length:Int))=True:=WE p3;by_cases p4:r=n1
     .have s5:(r=(n1:Int))=True:=WE p4;have hsm:(r<(n1:Int)\/r=a.atoms.length/\r=b.atoms.length/\r=n1):=.inr ⟨p2,p3,p4⟩;by_cases hB:r<n2
      .have s2:(r<(n2:Int))=True:=WE hB;apply sR;simp only[go_sem,seval,a3,cY,s1,s2,s3,s4,s5];rw[<-jP];refine Go.bw rfl rfl rfl fa ?_;apply sG;simp only[go_sem,seval,a3,cY];rw[<-jP];refine Go.bw rfl rfl rfl fb ?_;apply sG;simp only[go_sem,seval];refine Go.bw rfl rfl rfl hc ?_;by_cases hAB:A=B
       .rw[XJ hAB];apply sG;simp only[go_sem,seval,a3,a4,cY,bu];rw[<-nv,mI];refine Go.bw rfl rfl rfl hhc ?_;apply sG;simp only[go_sem,seval];exact ak.pure hs (by rw[hX',<-hH];exact congrArg V.bool (decide_eq_decide.2 ⟨λh=>⟨hsm,hB,hAB,h⟩,λh=>h.2.2.2⟩))
       .rw[Xr hAB];apply sG;simp only[go_sem,seval];exact ak.pure hs (by rw[hX',Xr λh=>hAB h.2.2.1])
      .have s2:(r<(n2:Int))=False:=O' hB;apply sR;simp only[go_sem,seval,a3,cY,s1,s2,s3,s4,s5];exact ak.pure hs (by rw[hX',Xr λh=>hB h.2.1])
     .have s5:(r=(n1:Int))=False:=O' p4;apply sR;simp only[go_sem,seval,a3,cY,s1,s3,s4,s5];exact ak.pure hs (by rw[hX',Xr λh=>h.1.elim p1 λg=>p4 g.2.2])
    .have s4:(r=(b.atoms.length:Int))=False:=O' p3;apply sR;simp only[go_sem,seval,a3,cY,s1,s3,s4];exact ak.pure hs (by rw[hX',Xr λh=>h.1.elim p1 λg=>p3 g.2.1])
   .have s3:(r=(a.atoms.length:Int))=False:=O' p2;apply sR;simp only[go_sem,seval,a3,cY,s1,s3];exact ak.pure hs (by rw[hX',Xr λh=>h.1.elim p1 λg=>p2 g.1])
open Go.Proofs Go.Proofs.Tryz
def GK{b:Bk}(hb:BkOk b){s:XE}(h:gr b s):s.bx.length<=1000000:=by
 have h1:=(rh _ 0 h.1).length_le;rw[wV]at h1;have:=hb.Zi;omega
def EM(a b:Bk):∀(f:Nat) (s:XE) (n:Nat),lA a b f s n<=n+2*f
 |0,_,_=>Xm _
 |f+1,s,n=>by
  rw[lA];split
  .omega
  .split
   .omega
   .refine jx (EM a b f _ _) ?_;split<;>omega
def FV(a b:Bk)(ha:bJ a)(hb:bJ b){L:Int}(hL:oV a L):
 aK prog 36 [nv a b (bE a.atoms b.atoms) (bE a.L' b.L')] (vI (jO a b)):=λU=>by
 refine e36.r (by simp[c36]) ?_;have hs:=aa.refl U;have Zl:=fK a.atoms;have hlf:=fM a.M';have Zh:=ha.len;have hfl:=ha.Zi;have r0:WR .i64 ((a.atoms.length:Int)+a.M'.length):=ai;have hsf:=K9 a b ha hb;have XU:=ha.brk;have hmu:=sW hL;have hlc:=cY a b (bE a.atoms b.atoms) (bE a.L' b.L');have hls:=AU a b (bE a.atoms b.atoms) (bE a.L' b.L');have hag:V.agg [.rp (bc a),aC a.nodes,vI a.h,aW a.atoms,aB a.M',vI a.WG,bh a.L',.rp (bc b),aC b.nodes,vI b.h,aW b.atoms,aB b.M',vI b.WG,bh b.L',vI (bE a.atoms b.atoms),vI (bE a.L' b.L')]=nv a b (bE a.atoms b.atoms) (bE a.L' b.L'):=rfl;have XP:∀p:Xd,(aL p).cells=[vI p.no,vI p.kind,aE p.hs,aE p.fs,aE p.ls]:=λ_=>rfl;have ZP:∀p:Xd,(aL p).stays=true:=λ_=>rfl;have ZA:∀l:List Xs,(aE l).cells=[aE l]:=λ_=>rfl;have Yu:∀l:List Xs,(aE l).stays=true:=λ_=>rfl;refine ab.mix 8 ?_;unfold jO;apply sR;simp only[go_sem,seval,c36,hlc,hls];refine ad λi1 Z1 s1 a1 f1=>?_;replace hs:=hs.trans s1;by_cases h0:(a.atoms.length:Int)+a.M'.length=0
 .have q0:((a.atoms.length:Int)+a.M'.length=0)=True:=WE h0;rw[aq h0];have hc:=hsf ⟨⟨0,0,false⟩,[]⟩ 3 (λna _=>absurd (rF (by omega)) na);have WY:bC ⟨⟨0,0,false⟩,[]⟩=.agg [vI 0,vI 0,.bool false,aB []]:=rfl;have hn1:Wk U kY .ay (aB []):=Wk.ay 7;by_cases hsf':eO a b ⟨⟨0,0,false⟩,[]⟩ 3
  .rw[aq hsf'];rw[XJ hsf']at hc;simp only[go_sem,seval,a1,hlc,Zl,hlf,r0,q0];rw[hag];refine ab.au rfl rfl rfl (aK.xV (args':=[_,bC ⟨⟨0,0,false⟩,[]⟩,vI 3]) ⟨ZV _,Wk.agg (vs':=[vI 0,vI 0,.bool false,aB []]) ⟨ZV _,ZV _,ZV _,Wk.ay 7,trivial⟩,ZV _,trivial⟩ hc rfl) ?_;apply sR;simp only[go_sem,seval];exact ak.pure hs rfl
  .rw[ao hsf'];rw[Xr hsf']at hc;simp only[go_sem,seval,a1,hlc,Zl,hlf,r0,q0];rw[hag];refine ab.au rfl rfl rfl (aK.xV (args':=[_,bC ⟨⟨0,0,false⟩,[]⟩,vI 3]) ⟨ZV _,Wk.agg (vs':=[vI 0,vI 0,.bool false,aB []]) ⟨ZV _,ZV _,ZV _,Wk.ay 7,trivial⟩,ZV _,trivial⟩ hc rfl) ?_;apply sR;simp only[go_sem,seval];exact ak.pure hs rfl
 .have q0:((a.atoms.length:Int)+a.M'.length=0)=False:=O' h0;rw[ao h0];simp only[go_sem,seval,a1,hlc,Zl,hlf,r0,q0];refine ab.au rfl rfl rfl (yP a ha.toBkFull _) ?_;apply sR;simp only[go_sem,seval];refine ad λi4 Z4 s4 a4 f4=>?_;have n14:=al a1 f4;replace a1:=s4 _ _ a1;have z4:=hs.none f4;replace hs:=hs.trans s4;simp only[go_sem,seval,a4,bu,eZ];generalize Ys:C' _ i4 _=Y4;replace a4:=(congrFun Ys i4).symm.trans af;replace a1:=((congrFun Ys i1).symm.trans (ae n14)).trans a1;replace hs:=Eq.subst (motive:=aa _) Ys (hs.av z4);clear Ys;apply sR;simp only[go_sem,seval];have hml:=EM a b 1000000001 ⟨⟨0,0,true⟩,[]⟩ 0;generalize hR:lA a b 1000000001 ⟨⟨0,0,true⟩,[]⟩ 0=R at*;refine ab.eG (λst=>aa U st.U/\st.s 3=vI R)
   (λm st=>∃(s:XE) (n i4':Nat),mu2 a L s<m/\R=lA a b m s n/\gr a s/\n+2*m<=2000000002/\aa U st.U/\U i4'=none/\st.U i1=some ⟨104,16,[nv a b (bE a.atoms b.atoms) (bE a.L' b.L')]⟩/\st.U i4'=some ⟨45,4,[bC s]⟩/\st.s 1=.ptr i1 0 0/\st.s 3=vI n/\st.s 4=.ptr i4' 0 0) 1000000001 ?_ ?_ ?_
  .exact⟨⟨⟨0,0,true⟩,[]⟩,0,i4,by omega,hR.symm,rX a ha.pos,by omega,hs,z4,a1,a4,rfl,rfl,rfl⟩
  .clear hs a1 a4;rintro m ⟨S,J⟩ ⟨s,n,i4,hm,hRm,Xq,hn,hs,z4,a1,a4,t1,t3,t4⟩;simp only at hs a1 a4 t1 t3 t4;have n14:i1≠i4:=λe=>by rw[e,a4]at a1;simp at a1
   obtain⟨f,rfl⟩:∃f,m=f+1:=⟨m-1,by omega⟩
   have hp:=GK ha.toBkOk Xq;refine ab.mix 8 ?_;apply sR;simp only[go_sem,seval,t1,t4,a1,a4,hlc,bu];rw[<-bC];refine ab.au rfl rfl rfl (vj a ha.toBkFull s hp _) ?_;rw[lA]at hRm;by_cases he:cH a s
   .rw[aq he]at hRm;rw[XJ he,hRm];apply sR;simp only[go_sem,seval,t3];exact hs
   .rw[ao he]at hRm;rw[Xr he];have hpg:=AX a ha.toBkFull ha.fh s hp;rw[ao he]at hpg;have Yb:0<=s.s.atom/\s.s.atom<a.L'.length:=by
     rcases Xq.2 with h|h
     .have:=h.1;omega
     .omega
    have hgd:=eu ha he;have hph:∀f∈s.bx,0<=f.h:=λf hf=>ha.fh f (lY _ _ Xq.1 f hf);have hsc:=hsf s (aG a s).1.kind (λ_ _=>⟨Yb.1,λhk=>(hgd.cut hk).1,hp,hph⟩);have hac:=Mo a (by omega) (aG a s).1 s.s Yb.1 Yb.2 ((n:Int)+1) (by omega);have hmn:=wT ha hL he;have hmy:=wA ha he;generalize aG a s=X at*;obtain⟨p,t⟩:=X;simp only at hpg hsc hac hmn hmy hRm;have r1:WR .i64 ((n:Int)+1):=ai;have r2:WR .i64 ((n:Int)+1+1):=ai;apply sR;simp only[go_sem,seval,t1,t4,a1,a4,hlc,bu];rw[<-bC];refine ab.au rfl rfl rfl (hpg _) ?_;apply sR;simp only[go_sem,seval];refine ad λi5 Z5 s5 a5 f5=>?_;have n15:=al a1 f5;replace a1:=s5 _ _ a1;have n45:=al a4 f5;replace a4:=s5 _ _ a4;have z5:=hs.none f5;replace hs:=hs.trans s5;simp only[go_sem,seval];refine ad λi6 Z6 s6 a6 f6=>?_;have n16:=al a1 f6;replace a1:=s6 _ _ a1;have n46:=al a4 f6;replace a4:=s6 _ _ a4;have n56:=al a5 f6;replace a5:=s6 _ _ a5;have z6:=hs.none f6;replace hs:=hs.trans s6;simp only[go_sem,seval,a5,XP,ZP,bu,eZ];generalize X9:C' _ i5 _=Y5;replace a5:=(congrFun X9 i5).symm.trans af;replace a1:=((congrFun X9 i1).symm.trans (ae n15)).trans a1;replace a4:=((congrFun X9 i4).symm.trans (ae n45)).trans a4;replace a6:=((congrFun X9 i6).symm.trans (ae n56.symm)).trans a6;replace hs:=Eq.subst (motive:=aa _) X9 (hs.av z5);clear X9;simp only[go_sem,seval,a6];generalize ZX:C' _ i6 _=Y6;replace a6:=(congrFun ZX i6).symm.trans af;replace a1:=((congrFun ZX i1).symm.trans (ae n16)).trans a1;replace a4:=((congrFun ZX i4).symm.trans (ae n46)).trans a4;replace a5:=((congrFun ZX i5).symm.trans (ae n56)).trans a5;replace hs:=Eq.subst (motive:=aa _) ZX (hs.av z6);clear ZX;simp only[go_sem,seval,t1,t4,a1,a4,a5,hlc,XP,bu];rw[hag,<-bC];refine ab.au rfl rfl rfl (hsc _) ?_;by_cases hsaf:eO a b s p.kind
    .rw[ao (λh=>h hsaf)]at hRm;rw[XJ hsaf];apply sR;simp only[go_sem,seval,t1,t3,t4,a1,a4,a5,r1,hlc,XP,bu];rw[<-jP,mI];refine ab.au rfl rfl rfl (hac _) ?_;by_cases hsd:fv a p s.s ((n:Int)+1)
     .rw[aq hsd]at hRm;rw[XJ hsd];apply sR;simp only[go_sem,seval,t3,t4,a4,a6,r1,r2,bu];generalize Ys:C' _ i4 _=Y4;replace a4:=(congrFun Ys i4).symm.trans af;replace a1:=((congrFun Ys i1).symm.trans (ae n14)).trans a1;replace a5:=((congrFun Ys i5).symm.trans (ae n45.symm)).trans a5;replace a6:=((congrFun Ys i6).symm.trans (ae n46.symm)).trans a6;replace hs:=Eq.subst (motive:=aa _) Ys (hs.av z4);clear Ys;refine ad λi7 Z7 s7 a7 f7=>?_;have n17:=al a1 f7;replace a1:=s7 _ _ a1;have n47:=al a4 f7;replace a4:=s7 _ _ a4;have z7:=hs.none f7;replace hs:=hs.trans s7;simp only[go_sem,seval,a7];generalize YD:C' _ i7 _=Y7;replace a7:=(congrFun YD i7).symm.trans af;replace a1:=((congrFun YD i1).symm.trans (ae n17)).trans a1;replace a4:=((congrFun YD i4).symm.trans (ae n47)).trans a4;replace hs:=Eq.subst (motive:=aa _) YD (hs.av z7);clear YD;exact⟨f,by omega,t,n+2,i7,by omega,hRm,hmy,by omega,hs,z7,a1,a7,by simp[t1];omega⟩
     .rw[ao hsd]at hRm;rw[Xr hsd];apply sR;simp only[go_sem,seval,t3,t4,a4,a6,r1,bu];generalize Ys:C' _ i4 _=Y4;replace a4:=(congrFun Ys i4).symm.trans af;replace a1:=((congrFun Ys i1).symm.trans (ae n14)).trans a1;replace a5:=((congrFun Ys i5).symm.trans (ae n45.symm)).trans a5;replace a6:=((congrFun Ys i6).symm.trans (ae n46.symm)).trans a6;replace hs:=Eq.subst (motive:=aa _) Ys (hs.av z4);clear Ys;refine ad λi7 Z7 s7 a7 f7=>?_;have n17:=al a1 f7;replace a1:=s7 _ _ a1;have n47:=al a4 f7;replace a4:=s7 _ _ a4;have z7:=hs.none f7;replace hs:=hs.trans s7;simp only[go_sem,seval,a7];generalize YD:C' _ i7 _=Y7;replace a7:=(congrFun YD i7).symm.trans af;replace a1:=((congrFun YD i1).symm.trans (ae n17)).trans a1;replace a4:=((congrFun YD i4).symm.trans (ae n47)).trans a4;replace hs:=Eq.subst (motive:=aa _) YD (hs.av z7);clear YD;exact⟨f,by omega,t,n+1,i7,by omega,hRm,hmy,by omega,hs,z7,a1,a7,by simp[t1]⟩
    .rw[aq hsaf]at hRm;rw[Xr hsaf,hRm];apply sR;simp only[go_sem,seval,t3];exact hs
  .rintro⟨S,J⟩ ⟨hs,t3⟩;simp only at hs t3;refine ab.mix 8 ?_;apply sR;simp only[go_sem,seval,t3];exact ak.pure hs rfl
open Go.Proofs Go.Proofs.Tryz
def yE:V:=.agg [.XY,.ay,vI 0,.ay,.ay,vI 0,.ay,.XY,.ay,vI 0,.ay,.ay,vI 0,.ay]
def iK(l m:List Nd)(w h:Int):Int:=if cE l w h≠0 then cE l w h else cE m w h
def Fw(l m:List Nd)(w h:Int):V:=if iK l m w h=0 then tS (aP l w h) (aP m w h)else yE
def Ih(a:Bk):V:=.agg [.rp (bc a),aC a.nodes,vI a.h,aW a.atoms,aB a.M',vI a.WG,bh a.L',.XY,.ay,vI 0,.ay,.ay,vI 0,.ay]
def yW(l m:List Nd)(hl:cT l)(hm:cT m)(w h:Int):aK prog 34 [aC l,aC m,vI w,vI h] (.WJ [Fw l m w h,vI (iK l m w h)]):=λU=>by
 refine e34.r (by simp[c34]) ?_;have hs:=aa.refl U;have c1:=EX l hl w h;have c2:=EX m hm w h;have hz:Ex.cells=[.XY,.ay,vI 0,.ay,.ay,vI 0,.ay]:=rfl;have hzs:Ex.stays=true:=rfl;refine ab.mix 10 ?_;apply sR;simp only[go_sem,seval,c34];refine ad λi8 Z8 s8 a8 f8=>?_;have z8:=hs.none f8;replace hs:=hs.trans s8;simp only[go_sem,seval,cg,dR];unfold Fw iK;unfold Ft at c1 c2;generalize hA:aP l w h=A at*;generalize hB:aP m w h=B at*;generalize cE l w h=e1 at*;generalize cE m w h=e2 at*;refine ab.eG (λst=>aa U st.U/\e1=0/\e2=0/\st.s 8=.ptr i8 0 0/\st.U i8=some ⟨100,14,[tS A B]⟩)
  (λk st=>aa U st.U/\st.s 2=vI w/\st.s 3=vI h/\st.s 8=.ptr i8 0 0/\st.s 14=.agg [aC l,aC m]/\(k=2/\st.s 15=vI 0/\st.U i8=some ⟨100,14,[yE]⟩\/k=1/\st.s 15=vI 1/\e1=0/\st.U i8=some ⟨100,14,[Ih A]⟩\/k=0/\st.s 15=vI 2/\e1=0/\e2=0/\st.U i8=some ⟨100,14,[tS A B]⟩)) 2 ?_ ?_ ?_
 .exact⟨hs,rfl,rfl,rfl,rfl,.inl ⟨rfl,rfl,a8⟩⟩
 .clear hs a8;rintro k ⟨S,J⟩ ⟨hs,t2,t3,t8,t14,hc⟩;simp only at hs t2 t3 t8 t14 hc;refine ab.mix 10 ?_;rcases hc with⟨rfl,t15,a8⟩|⟨rfl,t15,hz1,a8⟩|⟨rfl,t15,hz1,hz2,a8⟩
  .apply sR;simp only[go_sem,seval,t2,t3,t14,t15];refine ab.au rfl rfl rfl (c1 _) ?_;by_cases h1:e1=0
   .have q1:(e1≠0)=False:=O' (λh=>h h1);rw[aq h1];rw[yE]at a8;apply sR;simp only[go_sem,seval,t2,t3,t8,t14,t15,a8,q1,bH,ie];generalize Yf:C' _ i8 _=Y8;replace a8:=(congrFun Yf i8).symm.trans af;replace hs:=Eq.subst (motive:=aa _) Yf (hs.av z8);clear Yf;exact⟨ai,1,by omega,hs,.inr (.inl ⟨rfl,h1,rfl⟩)⟩
   .have q1:(e1≠0)=True:=WE h1;rw[ao h1,aq h1,ao h1];rw[yE]at a8;apply sR;simp only[go_sem,seval,t8,a8,q1,hz,hzs];exact ak.pure (hs.av z8) rfl
  .have h1n:¬(e1≠0):=λh=>h hz1;rw[ao h1n];apply sR;simp only[go_sem,seval,t2,t3,t14,t15];refine ab.au rfl rfl rfl (c2 _) ?_;by_cases h1:e2=0
   .have q1:(e2≠0)=False:=O' (λh=>h h1);rw[aq h1];rw[Ih]at a8;apply sR;simp only[go_sem,seval,t2,t3,t8,t14,t15,a8,q1,bH,ie];generalize Yf:C' _ i8 _=Y8;replace a8:=(congrFun Yf i8).symm.trans af;replace hs:=Eq.subst (motive:=aa _) Yf (hs.av z8);clear Yf;exact⟨ai,0,by omega,hs,.inr (.inr ⟨rfl,hz1,h1,rfl⟩)⟩
   .have q1:(e2≠0)=True:=WE h1;rw[ao h1,ao h1];rw[Ih]at a8;apply sR;simp only[go_sem,seval,t8,a8,q1,hz,hzs];exact ak.pure (hs.av z8) rfl
  .apply sR;simp only[go_sem,seval,t15];exact⟨hs,hz1,hz2,t8,a8⟩
 .rintro⟨S,J⟩ ⟨hs,h1,h2,t8,a8⟩;simp only at hs t8 a8;refine ab.mix 10 ?_;rw[ao (show¬(e1≠0)from λh=>h h1),aq h2,h2];apply sR;simp only[go_sem,seval,t8,a8,eN];exact ak.pure (hs.av z8) rfl
def ET(l m:List Nd)(hl:cT l)(hm:cT m)(w h:Int):aK prog 18 [aC l,aC m,vI w,vI h] (.WJ [vI (if iK l m w h=0 then jO (aP l w h) (aP m w h)else 0:Nat),vI (iK l m w h)]):=λU=>by
 refine e18.r (by simp[c18]) ?_;have hs:=aa.refl U;have hc:=yW l m hl hm w h;unfold Fw at hc;refine ab.mix 13 ?_;apply sR;simp only[go_sem,seval,c18];refine ab.au rfl rfl rfl (hc _) ?_;by_cases he:iK l m w h=0
 .rw[aq he,aq he];have e1:cE l w h=0:=by
   unfold iK at he;by_cases g:cE l w h=0
   .exact g
   .rw[aq g]at he;exact he
  have e2:cE m w h=0:=by
   unfold iK at he;rw[ao (λh=>h e1)]at he;exact he
  have ha:=de hl e1;have hb:=de hm e2;have hL:=mV e1;have XU:=ha.brk;have Zh:=ha.len;have hlk:=y7 (aP l w h) (aP m w h) (by omega) (by omega);have hmy:=FV (aP l w h) (aP m w h) ha hb hL;generalize aP l w h=A at*;generalize aP m w h=B at*;rw[he];have q0:((0:Int)≠0)=False:=O' (λh=>h rfl);apply sR;simp only[go_sem,seval];refine ad λXk Z10 YP Xy f10=>?_;have z10:=hs.none f10;replace hs:=hs.trans YP;simp only[go_sem,seval,Xy,eN,AJ];generalize YB:C' _ Xk _=Y10;replace Xy:=(congrFun YB Xk).symm.trans af;replace hs:=Eq.subst (motive:=aa _) YB (hs.av z10);clear YB;apply sR;simp only[go_sem,seval];rw[<-tS];refine ab.au rfl rfl rfl (hlk _) ?_;apply sR;simp only[go_sem,seval];refine ab.au rfl rfl rfl (hmy _) ?_;apply sR;simp only[go_sem,seval];exact ak.pure hs rfl
 .rw[ao he,ao he];have q:(iK l m w h≠0)=True:=WE he;generalize iK l m w h=E at*;have hz:yE.cells=[.XY,.ay,vI 0,.ay,.ay,vI 0,.ay,.XY,.ay,vI 0,.ay,.ay,vI 0,.ay]:=rfl;have hzs:yE.stays=true:=rfl;apply sR;simp only[go_sem,seval];refine ad λXk Z10 YP Xy f10=>?_;have z10:=hs.none f10;replace hs:=hs.trans YP;simp only[go_sem,seval,Xy,hz,hzs,q];exact ak.pure (hs.av z10) rfl
open Go.Proofs Go.Proofs.Tryz
def CR(l:List Nd)(hlen:l.length<=1000000000000)(hw:∀x∈l,x.words.length<=200000000000000)(h:Int)(hh:Aa h)(vp:V)(P:List Xd)(hlP:cP false vp=some (.int .i64 P.length))(hiP:∀(U:ag) (i:Nat) (h:i<P.length),bp U 5 vp (.int .i64 i)=some (.rp (aL P[i])))
 (hPl:P.length<=10000000000000)(hPp:∀p∈P,p.hs.length<=1000000000000000/\p.fs.length<=1000000000000000/\p.ls.length<=1000000000000000)(U:ag):
 ax prog 16 [aC l,vI h,vp] U λr Z'=>(∃x,r=.bool x/\(x=false->l.length<=30/\P.length<=60))/\Z'=U:=by
 refine e16.r (by simp[c16]) ?_;have hln:=fj l;have XP:∀p:Xd,(aL p).cells=[vI p.no,vI p.kind,aE p.hs,aE p.fs,aE p.ls]:=λ_=>rfl;have finT:ak (.bool true) U λr Z'=>(∃x,r=.bool x/\(x=false->l.length<=30/\P.length<=60))/\Z'=U:=⟨_,_,aa.refl _,Wk.refl (aa.refl _) _,⟨_,rfl,λh=>by cases h⟩,rfl⟩
 refine ab.mix 13 ?_;by_cases h30:l.length<=30
 .have q0:((l.length:Int)>30)=False:=O';by_cases h60:P.length<=60
  .have q00:((P.length:Int)>60)=False:=O';apply sR;simp only[go_sem,seval,c16,hln,hlP,q0,q00];refine ab.eG (λst=>st.U=U/\st.s 0=aC l/\st.s 1=vI h/\st.s 2=vp/\st.s 9=vI 0/\∃c g:Int,st.s 7=vI c/\st.s 8=vI g/\0<=g/\g<=1152921504606846976)
    (λm st=>∃(i:Nat) (c g:Int),i<=l.length/\m=l.length-i/\st.U=U/\st.s 0=aC l/\st.s 1=vI h/\st.s 2=vp/\st.s 9=vI 0/\st.s 7=vI c/\0<=c/\c<=i*200000000000000/\st.s 8=vI g/\0<=g/\g<=i*3300000000000/\st.s 10=vI i) l.length ?_ ?_ ?_
   .exact⟨0,0,0,by omega,by omega,rfl,rfl,rfl,rfl,rfl,rfl,by omega,by omega,rfl,by omega,by omega,rfl⟩
   .rintro m ⟨S,J⟩ ⟨i,c,g,hi,rfl,W4,t0,t1,t2,t9,t7,hc0,hc1,t8,hg0,hg1,t10⟩;simp only at W4 t0 t1 t2 t9 t7 t8 t10;subst W4;refine ab.mix 13 ?_;by_cases H':i<l.length
    .have q1:((i:Int)<l.length)=True:=WE;have YK:=λU=>cA (U:=U) (l:=l) (a:=i) H';have hwi:=hw _ (XI H');have hlw:=eR l[i].words;have r1:WR .i64 ((i:Int)+1):=ai;have r2:WR .i64 (c+l[i].words.length):=ai;apply sR;simp only[go_sem,seval,t0,t1,t2,t9,t7,t8,t10,hln,q1,YK,Nd.cells,hlw,r1,r2,yi];obtain⟨b0,b1⟩:=HY l[i].line 8589934592 (by omega);obtain⟨d0,d1⟩:=HY l[i].h 2199023255552 (by omega);have e0:0<=(if 120<(l[i].words.length:Int)then 120 else(l[i].words.length:Int))/\(if 120<(l[i].words.length:Int)then 120 else(l[i].words.length:Int))<=120:=by split<;>omega
     obtain⟨e0,e1⟩:=e0;generalize (if 8589934592<if 0>l[i].line then 0 else l[i].line then 8589934592 else if 0>l[i].line then 0 else l[i].line)=A at*;generalize (if 2199023255552<if 0>l[i].h then 0 else l[i].h then 2199023255552 else if 0>l[i].h then 0 else l[i].h)=B at*;generalize (if 120<(l[i].words.length:Int)then 120 else(l[i].words.length:Int))=C at*;have m0:=Int.mul_nonneg b0 e0;have m1:=Int.mul_le_mul b1 e1 e0 (by omega:(0:Int)<=8589934592);generalize A*C=M at*;exact⟨ai,ai,ai,_,by omega,i+1,_,_,by omega,rfl,rfl,by omega,by omega,rfl,by omega,by omega,rfl⟩
    .have q1:((i:Int)<l.length)=False:=O';apply sR;simp only[go_sem,seval,t0,t10,hln,q1];exact⟨t1,t2,t9,c,g,t7,t8,hg0,by omega⟩
   .rintro⟨S,J⟩ ⟨W4,t0,t1,t2,t9,c,g,t7,t8,hg0,hg1⟩;simp only at W4 t0 t1 t2 t9 t7 t8;subst W4;refine ab.mix 13 ?_;apply sR;simp only[go_sem,seval];refine ab.eG (λst=>st.U=J/\st.s 2=vp/\st.s 9=vI 0/\∃h':Int,st.s 1=vI h'/\Aa h'/\st.s 7=vI c/\st.s 8=vI g)
     (λm st=>∃(i:Nat) (h':Int),i<=l.length/\m=l.length-i/\st.U=J/\st.s 2=vp/\st.s 9=vI 0/\st.s 0=aC l/\st.s 1=vI h'/\Aa h'/\st.s 7=vI c/\st.s 8=vI g/\st.s 11=vI i) l.length ?_ ?_ ?_
    .exact⟨0,h,by omega,by omega,rfl,t2,t9,t0,t1,hh,t7,t8,rfl⟩
    .rintro m ⟨S,X'⟩ ⟨i,h',hi,rfl,W4,t2,t9,t0,t1,hh',t7,t8,t11⟩;simp only at W4 t2 t9 t0 t1 t7 t8 t11;subst W4;refine ab.mix 13 ?_;by_cases H':i<l.length
     .have q1:((i:Int)<l.length)=True:=WE;have YK:=λU=>cA (U:=U) (l:=l) (a:=i) H';have r1:WR .i64 ((i:Int)+1):=ai;by_cases hb:h'=-9223372036854775808
      ·(refine ab.bt Yp.nothing 22 ?_;simp only[go_sem,seval,jF,t0,t1,t11,hln,q1,YK,Nd.cells])
       refine ab.Tf rfl rfl rfl rfl ?_;generalize IntKind.i64.wrap (h'-1)=X
       (refine ab.bt Yp.nothing 2 ?_;simp only[go_sem,seval,jF])
       refine ab.Tf rfl rfl rfl rfl ?_;generalize hX:IntKind.i64.wrap _=Y;have hY:Aa Y:=by rw[<-hX];exact KT _
       apply sR;simp only[go_sem,seval,t11,r1,t7,t8,t0,t2,t9];exact⟨_,by omega,i+1,_,by omega,rfl,rfl,hY,rfl⟩
      .apply sR;simp only[go_sem,seval,t0,t1,t2,t9,t7,t8,t11,hln,q1,YK,Nd.cells,r1];have hz:0<=(if(if 0>h'-1 then 0 else h'-1)<(if 0>l[i].st.head then 0 else l[i].st.head)then(if 0>h'-1 then 0 else h'-1)else if 0>l[i].st.head then 0 else l[i].st.head)/\
        (if(if 0>h'-1 then 0 else h'-1)<(if 0>l[i].st.head then 0 else l[i].st.head)then(if 0>h'-1 then 0 else h'-1)else if 0>l[i].st.head then 0 else l[i].st.head)<=(if 0>h'-1 then 0 else h'-1):=by
        have h1:0<=(if 0>h'-1 then 0 else h'-1):=by split<;>omega
        have h2:0<=(if 0>l[i].st.head then 0 else l[i].st.head):=by split<;>omega
        generalize (if 0>h'-1 then 0 else h'-1)=A at*;generalize (if 0>l[i].st.head then 0 else l[i].st.head)=B at*;split<;>omega
       have hx:(if 0>h'-1 then 0 else h'-1)=0\/(if 0>h'-1 then 0 else h'-1)=h'-1/\h'>=1:=by split<;>omega
       generalize (if(if 0>h'-1 then 0 else h'-1)<(if 0>l[i].st.head then 0 else l[i].st.head)then(if 0>h'-1 then 0 else h'-1)else if 0>l[i].st.head then 0 else l[i].st.head)=Z at*;unfold Aa at hh';exact⟨ai,ai,_,by omega,i+1,_,by omega,rfl,rfl,⟨by omega,by omega⟩,rfl⟩
     .have q1:((i:Int)<l.length)=False:=O';apply sR;simp only[go_sem,seval,t0,t11,hln,q1];exact⟨t2,t9,h',t1,hh',t7,t8⟩
    .rintro⟨S,X'⟩ ⟨W4,t2,t9,h',t1,hh',t7,t8⟩;simp only at W4 t1 t7 t8 t2 t9;subst W4;refine ab.mix 13 ?_;apply sR;simp only[go_sem,seval];refine ab.eG (λst=>st.U=X'/\st.s 1=vI h'/\st.s 7=vI c/\st.s 8=vI g/\∃q:Int,st.s 9=vI q)
      (λm st=>∃(i:Nat) (q:Int),i<=P.length/\m=P.length-i/\st.U=X'/\st.s 1=vI h'/\st.s 2=vp/\st.s 7=vI c/\st.s 8=vI g/\st.s 9=vI q/\0<=q/\q<=i*3000000000000000/\st.s 12=vI i) P.length ?_ ?_ ?_
     .exact⟨0,0,by omega,by omega,rfl,t1,t2,t7,t8,t9,by omega,by omega,rfl⟩
     .rintro m ⟨S,J⟩ ⟨i,q,hi,rfl,W4,t1,t2,t7,t8,t9,hq0,hq1,t12⟩;simp only at W4 t1 t2 t7 t8 t9 t12;subst W4;refine ab.mix 13 ?_;by_cases H':i<P.length
      .have q1:((i:Int)<P.length)=True:=WE;have YK:=λU=>hiP U i H';have hpl:=hPp _ (XI H');generalize P[i]=p at*;have l1:=jq p.hs;have l2:=jq p.fs;have l3:=jq p.ls;have r1:WR .i64 ((i:Int)+1):=ai;have r2:WR .i64 ((p.hs.length:Int)+p.fs.length):=ai;have r3:WR .i64 ((p.hs.length:Int)+p.fs.length+p.ls.length):=ai;have r4:WR .i64 (q+((p.hs.length:Int)+p.fs.length+p.ls.length)):=ai;apply sR;simp only[go_sem,seval,t1,t2,t7,t8,t9,t12,hlP,q1,YK,XP,SD,l1,l2,l3,r1,r2,r3,r4];exact⟨_,by omega,i+1,_,by omega,rfl,rfl,by omega,by omega,rfl⟩
      .have q1:((i:Int)<P.length)=False:=O';apply sR;simp only[go_sem,seval,t2,t12,hlP,q1];exact⟨t1,t7,t8,q,t9⟩
     .rintro⟨S,J⟩ ⟨W4,t1,t7,t8,q,t9⟩;simp only at W4 t1 t7 t8 t9;subst W4;refine ab.mix 13 ?_;have fin:∀x:Bool,ak (.bool x) J λr Z'=>(∃x,r=.bool x/\(x=false->l.length<=30/\P.length<=60))/\Z'=J:=λx=>⟨_,_,aa.refl _,Wk.refl (aa.refl _) _,⟨_,rfl,λ_=>⟨h30,h60⟩⟩,rfl⟩
      by_cases p1:c>120
      .have q1:(c>120)=True:=WE p1;apply sR;simp only[go_sem,seval,t7,q1];exact fin _
      .have q1:(c>120)=False:=O' p1;by_cases p0:q>600
       .have q5:(q>600)=True:=WE p0;apply sR;simp only[go_sem,seval,t7,t9,q1,q5];exact fin _
       .have q5:(q>600)=False:=O' p0;by_cases p2:h'>=1
        .have q2:(h'>=1)=True:=WE p2;have q3:(h'=0)=False:=O';have hq0:=Int.tdiv_nonneg hg0 (by omega:0<=h');have hq1:=Int.tdiv_le_self h' hg0;have r1:WR .i64 (g.tdiv h'):=ai;by_cases p4:g.tdiv h'>300
         .have q4:(g.tdiv h'>300)=True:=WE p4;apply sR;simp only[go_sem,seval,t1,t7,t8,t9,q1,q5,q2,q3,q4,r1];exact fin _
         .have q4:(g.tdiv h'>300)=False:=O' p4;apply sR;simp only[go_sem,seval,t1,t7,t8,t9,q1,q5,q2,q3,q4,r1];exact fin _
        .have q2:(h'>=1)=False:=O' p2;apply sR;simp only[go_sem,seval,t1,t7,t9,q1,q5,q2];exact fin _
  .have q00:((P.length:Int)>60)=True:=WE;apply sR;simp only[go_sem,seval,c16,hln,hlP,q0,q00];exact finT
 .have q0:((l.length:Int)>30)=True:=WE;apply sR;simp only[go_sem,seval,c16,hln,q0];exact finT
inductive Tr(α:Type) where
 |e
 |n (l:Tr α) (v:α) (r:Tr α)
def Dn:Nat->Nat->List Bool
 |0,_=>[]
 |_+1,0=>[]
 |f+1,k+1=>Nat.beq (Nat.mod k 2) 0::Dn f (Nat.div k 2)
def pathOf(k:Nat):List Bool:=Dn (Nat.succ k) k
def SJ{α:Type}(d:α)(f:Nat):List Bool->Tr α->α:=
 @Nat.rec (λ_=>List Bool->Tr α->α) (λ_ _=>d)
  (λ_ ih p t=>@List.casesOn Bool (λ_=>α) p (@Tr.casesOn α (λ_=>α) t d (λ_ v _=>v))
    (λb p'=>@Tr.casesOn α (λ_=>α) t d (λl _ r=>ih p' (@Bool.casesOn (λ_=>Tr α) b r l)))) f
def nD{α:Type}(d:α)(k:Nat)(t:Tr α):α:=SJ d (Nat.succ k) (pathOf k) t
def SG{α:Type}(d v:α)(f:Nat):List Bool->Tr α->Tr α:=
 @Nat.rec (λ_=>List Bool->Tr α->Tr α) (λ_ t=>t)
  (λ_ ih p t=>@List.casesOn Bool (λ_=>Tr α) p (@Tr.casesOn α (λ_=>Tr α) t (.n .e v .e) (λl _ r=>.n l v r))
    (λb p'=>@Tr.casesOn α (λ_=>Tr α) t (@Bool.casesOn (λ_=>Tr α) b (.n .e d (ih p' .e)) (.n (ih p' .e) d .e))
      (λl u r=>@Bool.casesOn (λ_=>Tr α) b (.n l u (ih p' r)) (.n (ih p' l) u r)))) f
def oL{α:Type}(d v:α)(k:Nat)(t:Tr α):Tr α:=SG d v (Nat.succ k) (pathOf k) t
structure CS where
 s:Tr V
 U:Tr (Option Ob)
 X8:Nat
def CS.sf(cs:CS):Nat->V:=λi=>nD (.WJ []) i cs.s
def stF(U:Tr (Option Ob)):ag:=λi=>nD none i U
def We(cs:CS)(d:Nat)(v:V):CS:=⟨oL (.WJ []) v d cs.s,cs.U,cs.X8⟩
def CS.put(cs:CS)(d:Option Nat)(v:V):CS:=@Option.casesOn Nat (λ_=>CS) d cs (λd=>We cs d v)
def eqQ:Int->Int->Bool
 |.ofNat m,.ofNat n=>Nat.beq m n
 |.negSucc m,.negSucc n=>Nat.beq m n
 |_,_=>false
def leQ:Int->Int->Bool
 |.ofNat m,.ofNat n=>Nat.ble m n
 |.negSucc _,.ofNat _=>true
 |.negSucc m,.negSucc n=>Nat.ble n m
 |.ofNat _,.negSucc _=>false
def Sg:Int->Int->Int
 |.ofNat m,.ofNat n=>.ofNat (Nat.add m n)
 |a,b=>a+b
def RH:Int->Int->Int
 |.ofNat m,.ofNat n=>@Bool.casesOn (λ_=>Int) (Nat.ble n m) (.negSucc (Nat.sub (Nat.sub n m) 1)) (.ofNat (Nat.sub m n))
 |a,b=>a-b
def QG:Int->Bool
 |.ofNat m=>Nat.ble m 9223372036854775807
 |.negSucc m=>Nat.ble m 9223372036854775807
def Qo(k:IntKind)(n:Int):Bool:=match k with
 |.i64=>QG n
 |k=>decide (k.wrap n=n)
def gI(k:IntKind)(n:Int):Option V:=@Bool.casesOn (λ_=>Option V) (Qo k n) none (some (.int k n))
def eqK(k k':IntKind):Bool:=decide (k=k')
def OR:IntKind->Bool
 |.i64=>true
 |_=>false
structure FI where
 f:IntKind->Int->Int->Option V
def qU(op:BinOp):FI:=
 match op with
 |.add=>⟨λk a b=>gI k (Sg a b)⟩
 |.sub=>⟨λk a b=>gI k (RH a b)⟩
 |.mul=>⟨λk a b=>gI k (a*b)⟩
 |.quo=>⟨λk a b=>if b=0 then none else gI k (a.tdiv b)⟩
 |.rem=>⟨λk a b=>if b=0 then none else some (.int k (a.tmod b))⟩
 |.eql=>⟨λ_ a b=>some (.bool (eqQ a b))⟩
 |.neq=>⟨λ_ a b=>some (.bool (not (eqQ a b)))⟩
 |.lss=>⟨λ_ a b=>some (.bool (not (leQ b a)))⟩
 |.leq=>⟨λ_ a b=>some (.bool (leQ a b))⟩
 |.gtr=>⟨λ_ a b=>some (.bool (not (leQ a b)))⟩
 |.geq=>⟨λ_ a b=>some (.bool (leQ b a))⟩
 |.and=>⟨λk a b=>dV .and k a b⟩
 |.or=>⟨λk a b=>dV .or k a b⟩
 |.shl=>⟨λk a b=>dV .shl k a b⟩
 |.shr=>⟨λk a b=>dV .shr k a b⟩
 |_=>⟨λ_ _ _=>none⟩
def zK(op:BinOp)(a b:List UInt8):Option V:=
 match op with
 |.add=>@Bool.casesOn (λ_=>Option V) (Nat.ble (a.length+b.length) 9223372036854775807) none (some (.str (a++b)))
 |.eql=>some (.bool (decide (a=b)))
 |.neq=>some (.bool (decide (a≠b)))
 |_=>none
def IM(k k':IntKind):Bool:=@Bool.casesOn (λ_=>Bool) (OR k) (eqK k k') (OR k')
def Sj(k:IntKind)(a:Int)(g:IntKind->Int->Int->Option V):V->Option V
 |.int k' b=>@Bool.casesOn (λ_=>Option V) (IM k k') none (g k a b)
 |_=>none
def R3(op:BinOp)(a:List UInt8):V->Option V
 |.str b=>zK op a b
 |_=>none
def KZ(op:BinOp)(g:IntKind->Int->Int->Option V)(y:V):V->Option V
 |.int k a=>Sj k a g y
 |.str a=>R3 op a y
 |_=>none
def Sp:V->Option V
 |.int k a=>gI k (0-a)
 |_=>none
def M1(k:IntKind):V->Option V
 |.int _ a=>gI k a
 |_=>none
def Sv:V->Option V
 |.bool b=>some (.bool (!b))
 |_=>none
def Np(a b:V):V->Option V
 |.bool t=>some (@Bool.casesOn (λ_=>V) t b a)
 |_=>none
def Dk:Int->Option Nat
 |.ofNat m=>some m
 |_=>none
def QC(U:Tr (Option Ob))(Yg:Nat)(x i:V):Option V:=
 match x,i with
 |.own id off len,.int _ j=>match Dk j with
  |some m=>match nD none id U with
   |some ob=>@Bool.casesOn (λ_=>Option V) (Nat.beq ob.sz Yg&&Nat.blt m len) none (some (.ptr id (Nat.add off m) 0))
   |none=>none
  |none=>none
 |.sl sz rows,.int _ j=>match Dk j with
  |some m=>@Bool.casesOn (λ_=>Option V) (Nat.beq sz Yg) none (match rows[m]? with
   |some r=>some (.rp r)
   |none=>none)
  |none=>none
 |_,_=>none
def Kg(U:Tr (Option Ob))(agg:Bool)(sz:Nat)(x:V):Option V:=
 match x with
 |.ptr id i k=>match nD none id U with
  |some ob=>match ob.rows[i]? with
   |some r=>match agg with
    |true=>@Bool.casesOn (λ_=>Option V) (Nat.beq k 0&&Nat.beq r.cells.length sz)
       (@Bool.casesOn (λ_=>Option V) (Nat.ble (Nat.add k sz) r.cells.length) none (some (.agg ((r.cells.drop k).take sz)))) (some (.agg r.cells))
    |false=>r.cells[k]?
   |none=>none
  |none=>none
 |x=>bF (stF U) agg sz x
def JZ:V->V->Option V
 |.str s,.int _ j=>match Dk j with
  |some m=>match s[m]? with
   |some b=>some (.int .u8 (Int.ofNat b.toNat))
   |none=>none
  |none=>none
 |_,_=>none
structure Mk where
 var:Bool
 len:Nat
 gone:Option Nat
 ob:Ob
def R6(e sz:Nat)(x:V):Option Mk:=@Bool.casesOn (λ_=>Option Mk) (Nat.beq x.cells.length sz&&x.stays) none (some ⟨true,0,none,⟨e,sz,[x]⟩⟩)
def E3(e sz:Nat)(xs:List V):Option Mk:=@Bool.casesOn (λ_=>Option Mk) (xs.all λx=>Nat.beq x.cells.length sz&&x.stays) none (some ⟨false,xs.length,none,⟨e,sz,xs⟩⟩)
def mkQ(e sz bytes:Nat)(z:V):V->Option Mk
 |.int k m=>match k with
  |.i64=>match Dk m with
   |some j=>@Bool.casesOn (λ_=>Option Mk) (Nat.ble (j*(bytes+1)) 140737488355328) none (some ⟨false,j,none,⟨e,sz,List.replicate j z⟩⟩)
   |none=>none
  |_=>none
 |_=>none
def EK(U:Tr (Option Ob))(e sz bytes:Nat)(a b:V):Option Mk:=match bV (stF U) e sz a,bI (stF U) sz b with
 |some (base,WW),some src=>@Bool.casesOn (λ_=>Option Mk) (Nat.ble ((base.length+src.length)*(bytes+1)) 140737488355328) none (some ⟨false,base.length+src.length,WW,⟨e,sz,base++src⟩⟩)
 |_,_=>none
def Ad(fl:Nat)(dst:Option Nat)(cs:CS)(m:Mk):Option CS:=
 match m.gone with
 |none=>some (CS.put ⟨cs.s,oL none (some m.ob) cs.X8 cs.U,Nat.succ cs.X8⟩ dst (@Bool.casesOn (λ_=>V) m.var (.own cs.X8 0 m.len) (.ptr cs.X8 0 0)))
 |some d=>@Bool.casesOn (λ_=>Option CS) (Nat.ble fl d) none
    (some (CS.put ⟨cs.s,oL none (some m.ob) cs.X8 (oL none none d cs.U),Nat.succ cs.X8⟩ dst (@Bool.casesOn (λ_=>V) m.var (.own cs.X8 0 m.len) (.ptr cs.X8 0 0))))
inductive Out where
 |nx (cs:CS)
 |ex (id:Nat) (cs:CS)
 |rt (cs:CS)
 |bad
structure Rs where
 v:V
 U:Tr (Option Ob)
 X8:Nat
def oy:=FuncId->List V->Tr (Option Ob)->Nat->Nat->Option Rs
structure BI where
 f:oy->Nat->CS->Option CS
def kL(dst:Option Nat)(g:CS->Option V):BI:=⟨λ_ _ cs=>match g cs with
 |some v=>some (cs.put dst v)
 |none=>none⟩
def RK(dst:Option Nat)(x:VX):BI:=⟨λ_ _ cs=>some (cs.put dst (x.ev cs.sf))⟩
def DJ(dst:Option Nat)(g:CS->Option Mk):BI:=⟨λ_ fl cs=>match g cs with
 |some m=>Ad fl dst cs m
 |none=>none⟩
def Dz(dst:Option Nat)(cs:CS):Option Rs->Option CS
 |some r=>some (CS.put ⟨cs.s,r.U,r.X8⟩ dst r.v)
 |none=>none
def Ac(dst:Option Nat)(cs:CS):Option Rs->Option CS
 |some r=>@Bool.casesOn (λ_=>Option CS) r.v.eL none (some (cs.put dst r.v))
 |none=>none
def JK(draw:Bool)(dst:Option Nat)(fx:VX)(xs:List VX):BI:=match draw with
 |true=>⟨λcall _ cs=>match fx.ev cs.sf with
  |.fn f caps=>Ac dst cs (call f (xs.map (·.ev cs.sf)++caps) cs.U cs.X8 cs.X8)
  |_=>none⟩
 |false=>⟨λcall fl cs=>match fx.ev cs.sf with
  |.fn f caps=>Dz dst cs (call f (xs.map (·.ev cs.sf)++caps) cs.U cs.X8 fl)
  |_=>none⟩
def Fa(dst:Option Nat)(fl sz:Nat)(xv:V)(cs:CS):V->Option CS
 |.ptr id i0 c=>@Bool.casesOn (λ_=>Option CS) (Nat.ble fl id) none (match nD none id cs.U with
  |some ob=>match ob.rows[i0]? with
   |some r=>match ec r c sz xv with
    |some r'=>some (CS.put ⟨cs.s,oL none (some ⟨ob.elem,ob.sz,ob.rows.set i0 r'⟩) id cs.U,cs.X8⟩ dst (.WJ []))
    |none=>none
   |none=>none
  |none=>none)
 |_=>none
def Ew(dst:Option Nat)(sz:Nat)(xa xv:VX):BI:=⟨λ_ fl cs=>Fa dst fl sz (xv.ev cs.sf) cs (xa.ev cs.sf)⟩
def FR(dst:Option Nat)(fl sz:Nat)(z:V)(cs:CS):V->Option CS
 |.own id off len=>@Bool.casesOn (λ_=>Option CS) (Nat.ble fl id) none (match nD none id cs.U with
  |some ob=>@Bool.casesOn (λ_=>Option CS) (Nat.beq ob.sz sz&&Nat.ble (off+len) ob.rows.length) none
     (some (CS.put ⟨cs.s,oL none (some ⟨ob.elem,ob.sz,ob.rows.take off++List.replicate len z++ob.rows.drop (off+len)⟩) id cs.U,cs.X8⟩ dst (.WJ [])))
  |none=>none)
 |_=>none
def EA(draw:Bool)(dst:Option Nat)(sz:Nat)(z:V)(xv:VX):BI:=match draw with
 |true=>⟨λ_ _ _=>none⟩
 |false=>⟨λ_ fl cs=>FR dst fl sz z cs (xv.ev cs.sf)⟩
def lh(draw:Bool)(dst:Option Nat)(op:W5):BI:=match op with
 |.W1 x=>RK dst x
 |.pick c a b=>kL dst λcs=>Np (a.ev cs.sf) (b.ev cs.sf) (c.ev cs.sf)
 |.bin op x y=>@FI.casesOn (λ_=>BI) (qU op) λg=>kL dst λcs=>KZ op g (y.ev cs.sf) (x.ev cs.sf)
 |.not x=>kL dst λcs=>Sv (x.ev cs.sf)
 |.neg x=>kL dst λcs=>Sp (x.ev cs.sf)
 |.convI k x=>kL dst λcs=>M1 k (x.ev cs.sf)
 |.ZG Yg x i=>kL dst λcs=>QC cs.U Yg (x.ev cs.sf) (i.ev cs.sf)
 |.idxS x i=>kL dst λcs=>JZ (x.ev cs.sf) (i.ev cs.sf)
 |.load agg sz x=>kL dst λcs=>Kg cs.U agg sz (x.ev cs.sf)
 |.box e sz x=>DJ dst λcs=>R6 e sz (x.ev cs.sf)
 |.alloc e sz z=>DJ dst λ_=>some ⟨true,0,none,⟨e,sz,[z]⟩⟩
 |.fk e sz xs=>DJ dst λcs=>E3 e sz (xs.map (·.ev cs.sf))
 |.mk e sz bytes z x=>DJ dst λcs=>mkQ e sz bytes z (x.ev cs.sf)
 |.append e sz bytes a b=>DJ dst λcs=>EK cs.U e sz bytes (a.ev cs.sf) (b.ev cs.sf)
 |.call f xs=>JK draw dst f xs
 |.store sz a x=>Ew dst sz a x
 |.clear sz z x=>EA draw dst sz z x
 |op=>kL dst λcs=>aF (stF cs.U) cs.sf op
def Io(dst:Option Nat)(b:Bool)(B:BI)(call:oy)(fl:Nat)(cs:CS):V->Option CS
 |.bool c=>@Bool.casesOn (λ_=>Option CS) (Bool.xor c b) (B.f call fl cs) (some (cs.put dst (.WJ [])))
 |.WJ []=>some (cs.put dst (.WJ []))
 |.int _ _=>some (cs.put dst (.WJ []))
 |_=>none
def tE(draw:Bool)(i:aD):BI:=match i.g with
 |none=>lh draw i.dst i.op
 |some (x,b)=>⟨λcall fl cs=>Io i.dst b (lh draw i.dst i.op) call fl cs (x.ev cs.sf)⟩
def nM(draw:Bool)(call:oy)(fl m:Nat):List aD->CS->Out:=
 @Nat.rec (λ_=>List aD->CS->Out) (λ_ _=>.bad)
  (λ_ ih l cs=>@List.casesOn aD (λ_=>Out) l (.nx cs)
    (λi l'=>@BI.casesOn (λ_=>Out) (tE draw i) λf=>@Option.casesOn CS (λ_=>Out) (f call fl cs) .bad (ih l'))) m
def Is(draw:Bool)(call:oy)(fl:Nat)(l:List aD)(cs:CS):Out:=nM draw call fl 1000 l cs
def Tr.ofL:List V->Nat->Tr V->Tr V
 |[],_,t=>t
 |v::l,k,t=>Tr.ofL l (Nat.succ k) (oL (.WJ []) v k t)
def LG(res:List VR)(cs:CS):Option Rs:=match oN ⟨cs.sf,stF cs.U⟩ res with
 |some v=>some ⟨v,cs.U,cs.X8⟩
 |none=>none
def RM(res:List VR):Out->Option Rs
 |.nx cs=>LG res cs
 |.rt cs=>LG res cs
 |_=>none
def evF(run:Nat->bG->CS->Out)(code:FuncId->Option WD):oy:=λf args U X8 fl=>match code f with
 |none=>none
 |some vf=>@Bool.casesOn (λ_=>Option Rs) (Nat.ble args.length vf.n) none (RM vf.res (run fl vf.code ⟨Tr.ofL args 0 .e,U,X8⟩))
def Hn(o:Out)(k:CS->Out):Out:=@Out.casesOn (λ_=>Out) o k (λid cs=>.ex id cs) (λcs=>.rt cs) .bad
def OW(id:Nat)(o:Out):Out:=@Out.casesOn (λ_=>Out) o (λcs=>.nx cs) (λj cs=>@Bool.casesOn (λ_=>Out) (Nat.beq j id) (.ex j cs) (.nx cs)) (λcs=>.rt cs) .bad
def onB(v:V)(a b:Out):Out:=match v with
 |.bool c=>@Bool.casesOn (λ_=>Out) c b a
 |_=>.bad
def evL(code:FuncId->Option WD)(fuel:Nat):Nat->bG->CS->Out:=
 @Nat.rec (λ_=>Nat->bG->CS->Out) (λ_ _ _=>.bad)
  (λ_ ih fl c cs=>match c with
    |.skip=>.nx cs
    |.Za draw l=>Is draw (evF ih code) fl l cs
    |.seq a b=>Hn (ih fl a cs) λYi=>ih fl b Yi
    |.cond c a b=>onB (c.ev cs.sf) (ih fl a cs) (ih fl b cs)
    |.block id a=>OW id (ih fl a cs)
    |.loop a=>Hn (ih fl a cs) λYi=>ih fl (.loop a) Yi
    |.exit id=>.ex id cs
    |.ret=>.rt cs
    |.ej ..=>.bad
    |.regA ..=>.bad
    |.uM ..=>.bad
    |.bad=>.bad) fuel
def gL{α:Type}(d:α):List Bool->Tr α->α
 |_,.e=>d
 |[],.n _ v _=>v
 |b::p,.n l _ r=>gL d p (if b then l else r)
def sL{α:Type}(d v:α):List Bool->Tr α->Tr α
 |[],.e=>.n .e v .e
 |[],.n l _ r=>.n l v r
 |b::p,.e=>if b then .n (sL d v p .e) d .e else .n .e d (sL d v p .e)
 |b::p,.n l u r=>if b then .n (sL d v p l) u r else .n l u (sL d v p r)
def uW{α:Type}(d:α):∀(f:Nat) (p:List Bool) (t:Tr α),p.length<f->SJ d f p t=gL d p t
 |0,_,_,h=>by omega
 |f+1,[],t,_=>by cases t<;>rfl
 |f+1,b::p,t,h=>by
  cases t with
  |e=>rfl
  |n l u r=>
   have ih:=uW d f p (if b then l else r) (by simpa using h);cases b<;>exact ih
def zV{α:Type}(d v:α):∀(f:Nat) (p:List Bool) (t:Tr α),p.length<f->SG d v f p t=sL d v p t
 |0,_,_,h=>by omega
 |f+1,[],t,_=>by cases t<;>rfl
 |f+1,b::p,t,h=>by
  have h':p.length<f:=by simpa using h
  cases t with
  |e=>cases b<;>simp only[sL,fG,if_false,if_true]<;>rw[<-zV d v f p _ h']<;>rfl
  |n l u r=>cases b<;>simp only[sL,fG,if_false,if_true]<;>rw[<-zV d v f p _ h']<;>rfl
def Qb{α:Type}(d:α)(p:List Bool):gL d p .e=d:=by cases p<;>rfl
def EJ{α:Type}(d v:α):∀(p q:List Bool) (t:Tr α),gL d q (sL d v p t)=if q=p then v else gL d q t
 |[],[],t=>by cases t<;>simp[sL,gL]
 |[],b::q,t=>by cases t<;>simp[sL,gL,Qb]
 |a::p,[],t=>by cases t<;>cases a<;>simp[sL,gL]
 |a::p,b::q,t=>by
  cases t with
  |e=>
   have ih:=EJ d v p q .e;cases a<;>cases b<;>simp[sL,gL,Qb,ih]
  |n l u r=>
   have ihl:=EJ d v p q l;have ihr:=EJ d v p q r;cases a<;>cases b<;>simp[sL,gL,ihl,ihr]
def AR:List Bool->Nat
 |[]=>0
 |b::p=>2*AR p+(if b then 1 else 2)
def pn:∀(f k:Nat),k<f->AR (Dn f k)=k
 |0,_,h=>by omega
 |f+1,0,_=>rfl
 |f+1,k+1,h=>by
  have ih:=pn f (k/2) (by omega);have ih':AR (Dn f (k.div 2))=k/2:=ih;simp only[Dn,AR,ih'];have h1:Nat.mod k 2=k%2:=rfl;by_cases hk:k%2=0
  .have:Nat.beq (Nat.mod k 2) 0=true:=by rw[h1,hk];rfl
   simp only[this,if_true];omega
  .have Zv:k%2=1:=by omega
   have:Nat.beq (Nat.mod k 2) 0=false:=by rw[h1,Zv];rfl
   simp only[this,fG,if_false];omega
def RN:∀p:List Bool,p.length<=AR p
 |[]=>Xm _
 |b::p=>by have:=RN p;simp only[XX,AR];split<;>omega
def mL(k:Nat):(pathOf k).length<k.succ:=by
 have h1:=RN (pathOf k);have h2:AR (pathOf k)=k:=pn (k+1) k (by omega);omega
def Dy{i k:Nat}(h:pathOf i=pathOf k):i=k:=by
 have h1:AR (pathOf i)=i:=pn (i+1) i (by omega);have h2:AR (pathOf k)=k:=pn (k+1) k (by omega);rw[<-h1,<-h2,h]
def qW{α:Type}(d v:α)(i k:Nat)(t:Tr α):nD d i (oL d v k t)=if i=k then v else nD d i t:=by
 unfold nD oL;rw[uW _ _ _ _ (mL i),uW _ _ _ _ (mL i),zV _ _ _ _ _ (mL k),EJ];by_cases h:i=k
 .simp[h]
 .rw[ao h,ao (λe=>h (Dy e))]
def P8{α:Type}(d:α)(i:Nat):nD d i .e=d:=by
 unfold nD;rw[uW _ _ _ _ (mL i),Qb]
def PF(cs:CS)(d:Option Nat)(v:V):(cs.put d v).sf=aQ cs.sf d v:=by
 funext i;cases d with
 |none=>rfl
 |some d=>show nD _ i (oL _ v d cs.s)=_;rw[qW];rfl
def JW(cs:CS)(d:Option Nat)(v:V):(cs.put d v).U=cs.U/\(cs.put d v).X8=cs.X8:=by cases d<;>exact⟨rfl,rfl⟩
def ve(U:Tr (Option Ob))(k:Nat)(o:Ob):stF (oL none (some o) k U)=C' (stF U) k o:=by
 funext i;show nD none i _=_;rw[qW];rfl
def LH(U:Tr (Option Ob))(k:Nat):stF (oL none none k U)=del (stF U) k:=by
 funext i;show nD none i _=_;rw[qW];rfl
mutual
def aA(R:Nat->Nat->Prop):V->V->Prop
 |.own id off len,u=>∃YQ,u=.own YQ off len/\R id YQ
 |.ptr id i k,u=>∃YQ,u=.ptr YQ i k/\R id YQ
 |.sl sz rows,u=>∃WM,u=.sl sz WM/\aN R rows WM
 |.rp v,u=>∃v',u=.rp v'/\aA R v v'
 |.fn f caps,u=>∃caps',u=.fn f caps'/\aN R caps caps'
 |.bm f caps,u=>∃caps',u=.bm f caps'/\aN R caps caps'
 |.iface t v,u=>∃v',u=.iface t v'/\aA R v v'
 |.agg c,u=>∃c',u=.agg c'/\aN R c c'
 |.WJ c,u=>∃c',u=.WJ c'/\aN R c c'
 |.undef,u=>u=.undef
 |.int k n,u=>u=.int k n
 |.bool b,u=>u=.bool b
 |.str s,u=>u=.str s
 |.ay,u=>u=.ay
 |.XY,u=>u=.XY
 |.Xu,u=>u=.Xu
 |.Xx,u=>u=.Xx
 |.raw v,u=>u=.raw v
 |.obj v,u=>u=.obj v
 |.gp v,u=>u=.gp v
 |.yl v,u=>∃YQ,u=.yl YQ/\R v YQ
 |.mp v,u=>u=.mp v
def aN(R:Nat->Nat->Prop):List V->List V->Prop
 |[],l=>l=[]
 |v::vs,l=>∃u us,l=u::us/\aA R v u/\aN R vs us
end
section
variable {R R':Nat->Nat->Prop}
mutual
def aA.mono(h:∀a b,R a b->R' a b):∀(v u:V),aA R v u->aA R' v u
 |.own id off len,u,g=>by simp only[aA]at g|-;obtain⟨i,e,r⟩:=g;exact⟨i,e,h _ _ r⟩
 |.ptr id i k,u,g=>by simp only[aA]at g|-;obtain⟨i,e,r⟩:=g;exact⟨i,e,h _ _ r⟩
 |.sl sz rows,u,g=>by simp only[aA]at g|-;obtain⟨i,e,r⟩:=g;exact⟨i,e,aN.mono h _ _ r⟩
 |.rp v,u,g=>by simp only[aA]at g|-;obtain⟨i,e,r⟩:=g;exact⟨i,e,aA.mono h _ _ r⟩
 |.fn f caps,u,g=>by simp only[aA]at g|-;obtain⟨i,e,r⟩:=g;exact⟨i,e,aN.mono h _ _ r⟩
 |.bm f caps,u,g=>by simp only[aA]at g|-;obtain⟨i,e,r⟩:=g;exact⟨i,e,aN.mono h _ _ r⟩
 |.iface t v,u,g=>by simp only[aA]at g|-;obtain⟨i,e,r⟩:=g;exact⟨i,e,aA.mono h _ _ r⟩
 |.agg c,u,g=>by simp only[aA]at g|-;obtain⟨i,e,r⟩:=g;exact⟨i,e,aN.mono h _ _ r⟩
 |.WJ c,u,g=>by simp only[aA]at g|-;obtain⟨i,e,r⟩:=g;exact⟨i,e,aN.mono h _ _ r⟩
 |.undef,u,g=>by simpa[aA]using g
 |.int k n,u,g=>by simpa[aA]using g
 |.bool b,u,g=>by simpa[aA]using g
 |.str s,u,g=>by simpa[aA]using g
 |.ay,u,g=>by simpa[aA]using g
 |.XY,u,g=>by simpa[aA]using g
 |.Xu,u,g=>by simpa[aA]using g
 |.Xx,u,g=>by simpa[aA]using g
 |.raw v,u,g=>by simpa[aA]using g
 |.obj v,u,g=>by simpa[aA]using g
 |.gp v,u,g=>by simpa[aA]using g
 |.yl v,u,g=>by simp only[aA]at g|-;obtain⟨i,e,r⟩:=g;exact⟨i,e,h _ _ r⟩
 |.mp v,u,g=>by simpa[aA]using g
def aN.mono(h:∀a b,R a b->R' a b):∀(v u:List V),aN R v u->aN R' v u
 |[],u,g=>by simpa[aN]using g
 |v::vs,u,g=>by
  simp only[aN]at g|-;obtain⟨a,as1,e,r,rs⟩:=g;exact⟨a,as1,e,aA.mono h _ _ r,aN.mono h _ _ rs⟩
end
mutual
def eY:∀(v:V),v.eL=true->aA R v v
 |.own ..,g=>by simp[V.eL]at g
 |.ptr ..,g=>by simp[V.eL]at g
 |.sl sz rows,g=>by simp only[V.eL]at g;simp only[aA];exact⟨rows,rfl,fV rows g⟩
 |.rp v,g=>by simp only[V.eL]at g;simp only[aA];exact⟨v,rfl,eY v g⟩
 |.fn f caps,g=>by simp only[V.eL]at g;simp only[aA];exact⟨caps,rfl,fV caps g⟩
 |.bm f caps,g=>by simp only[V.eL]at g;simp only[aA];exact⟨caps,rfl,fV caps g⟩
 |.iface t v,g=>by simp only[V.eL]at g;simp only[aA];exact⟨v,rfl,eY v g⟩
 |.agg c,g=>by simp only[V.eL]at g;simp only[aA];exact⟨c,rfl,fV c g⟩
 |.WJ c,g=>by simp only[V.eL]at g;simp only[aA];exact⟨c,rfl,fV c g⟩
 |.undef,_=>by simp[aA]
 |.int k n,_=>by simp[aA]
 |.bool b,_=>by simp[aA]
 |.str s,_=>by simp[aA]
 |.ay,_=>by simp[aA]
 |.XY,_=>by simp[aA]
 |.Xu,_=>by simp[aA]
 |.Xx,_=>by simp[aA]
 |.raw v,_=>by simp[aA]
 |.obj v,_=>by simp[aA]
 |.gp v,_=>by simp[aA]
 |.yl v,g=>by simp[V.eL]at g
 |.mp v,_=>by simp[aA]
def fV:∀(l:List V),gA l=true->aN R l l
 |[],_=>by simp[aN]
 |v::vs,g=>by
  simp only[gA,Ba]at g;simp only[aN];exact⟨v,vs,rfl,eY v g.1,fV vs g.2⟩
end
mutual
def rj:∀(v u:V),v.eL=true->aA R v u->u=v
 |.own ..,_,g,_=>by simp[V.eL]at g
 |.ptr ..,_,g,_=>by simp[V.eL]at g
 |.sl sz rows,u,g,h=>by simp only[V.eL]at g;simp only[aA]at h;obtain⟨r,rfl,h⟩:=h;rw[l9 rows r g h]
 |.rp v,u,g,h=>by simp only[V.eL]at g;simp only[aA]at h;obtain⟨r,rfl,h⟩:=h;rw[rj v r g h]
 |.fn f caps,u,g,h=>by simp only[V.eL]at g;simp only[aA]at h;obtain⟨r,rfl,h⟩:=h;rw[l9 caps r g h]
 |.bm f caps,u,g,h=>by simp only[V.eL]at g;simp only[aA]at h;obtain⟨r,rfl,h⟩:=h;rw[l9 caps r g h]
 |.iface t v,u,g,h=>by simp only[V.eL]at g;simp only[aA]at h;obtain⟨r,rfl,h⟩:=h;rw[rj v r g h]
 |.agg c,u,g,h=>by simp only[V.eL]at g;simp only[aA]at h;obtain⟨r,rfl,h⟩:=h;rw[l9 c r g h]
 |.WJ c,u,g,h=>by simp only[V.eL]at g;simp only[aA]at h;obtain⟨r,rfl,h⟩:=h;rw[l9 c r g h]
 |.undef,u,_,h=>by simpa[aA]using h
 |.int k n,u,_,h=>by simpa[aA]using h
 |.bool b,u,_,h=>by simpa[aA]using h
 |.str s,u,_,h=>by simpa[aA]using h
 |.ay,u,_,h=>by simpa[aA]using h
 |.XY,u,_,h=>by simpa[aA]using h
 |.Xu,u,_,h=>by simpa[aA]using h
 |.Xx,u,_,h=>by simpa[aA]using h
 |.raw v,u,_,h=>by simpa[aA]using h
 |.obj v,u,_,h=>by simpa[aA]using h
 |.gp v,u,_,h=>by simpa[aA]using h
 |.yl v,_,g,_=>by simp[V.eL]at g
 |.mp v,u,_,h=>by simpa[aA]using h
def l9:∀(l m:List V),gA l=true->aN R l m->m=l
 |[],m,_,h=>by simpa[aN]using h
 |v::vs,m,g,h=>by
  simp only[gA,Ba]at g;simp only[aN]at h;obtain⟨u,us,rfl,h1,h2⟩:=h;rw[rj v u g.1 h1,l9 vs us g.2 h2]
end
def aN.jr{l:List V}:aN R [] l↔l=[]:=by simp[aN]
def aN.cq{v:V}{vs l:List V}:aN R (v::vs) l↔∃u us,l=u::us/\aA R v u/\aN R vs us:=by simp[aN]
def aN.length:∀{l m:List V},aN R l m->m.length=l.length
 |[],_,h=>by rw[aN.jr]at h;simp[h]
 |v::vs,_,h=>by obtain⟨u,us,rfl,_,h2⟩:=aN.cq.1 h;simp[h2.length]
def aN.get:∀{l m:List V},aN R l m->∀{i:Nat} {v:V},l[i]?=some v->∃u,m[i]?=some u/\aA R v u
 |[],_,_,i,v,hv=>by simp at hv
 |v::vs,_,h,i,x,hv=>by
  obtain⟨u,us,rfl,h1,h2⟩:=aN.cq.1 h;cases i with
  |zero=>simp at hv;subst hv;exact⟨u,by simp,h1⟩
  |succ i=>simp at hv;simpa using h2.get hv
def aN.append:∀{l m l' m':List V},aN R l m->aN R l' m'->aN R (l++l') (m++m')
 |[],_,_,_,h,h'=>by rw[aN.jr]at h;subst h;simpa using h'
 |v::vs,_,_,_,h,h'=>by
  obtain⟨u,us,rfl,h1,h2⟩:=aN.cq.1 h;exact aN.cq.2 ⟨u,us++_,by simp,h1,h2.append h'⟩
def aN.take:∀{l m:List V},aN R l m->∀i,aN R (l.take i) (m.take i)
 |[],_,h,i=>by rw[aN.jr]at h;subst h;simp[aN]
 |v::vs,_,h,i=>by
  obtain⟨u,us,rfl,h1,h2⟩:=aN.cq.1 h;cases i with
  |zero=>simp[aN]
  |succ i=>exact aN.cq.2 ⟨u,us.take i,by simp,h1,h2.take i⟩
def aN.drop:∀{l m:List V},aN R l m->∀i,aN R (l.drop i) (m.drop i)
 |[],_,h,i=>by rw[aN.jr]at h;subst h;simp[aN]
 |v::vs,_,h,i=>by
  obtain⟨u,us,rfl,h1,h2⟩:=aN.cq.1 h;cases i with
  |zero=>exact aN.cq.2 ⟨u,us,by simp,h1,h2⟩
  |succ i=>simpa using h2.drop i
def aN.set:∀{l m:List V},aN R l m->∀(i:Nat) {v u:V},aA R v u->aN R (l.set i v) (m.set i u)
 |[],_,h,i,_,_,_=>by rw[aN.jr]at h;subst h;simp[aN]
 |v::vs,_,h,i,x,y,hx=>by
  obtain⟨u,us,rfl,h1,h2⟩:=aN.cq.1 h;cases i with
  |zero=>exact aN.cq.2 ⟨y,us,by simp,hx,h2⟩
  |succ i=>exact aN.cq.2 ⟨u,us.set i y,by simp,h1,h2.set i hx⟩
def aN.replicate{v u:V}(h:aA R v u):∀n,aN R (List.replicate n v) (List.replicate n u)
 |0=>by simp[aN]
 |n+1=>aN.cq.2 ⟨u,List.replicate n u,by simp[List.replicate_succ],h,aN.replicate h n⟩
def aN.one{v u:V}(h:aA R v u):aN R [v] [u]:=aN.cq.2 ⟨u,[],rfl,h,by simp[aN]⟩
def aA.ln{k:IntKind}{n:Int}{u:V}:aA R (.int k n) u↔u=.int k n:=by simp[aA]
def aA.nP{b:Bool}{u:V}:aA R (.bool b) u↔u=.bool b:=by simp[aA]
def aA.uS{b:List UInt8}{u:V}:aA R (.str b) u↔u=.str b:=by simp[aA]
def aA.rB{b:List V}{u:V}:aA R (.agg b) u↔∃c,u=.agg c/\aN R b c:=by simp[aA]
def aA.agg{l m:List V}(h:aN R l m):aA R (.agg l) (.agg m):=aA.rB.2 ⟨m,rfl,h⟩
def aA.rp{l m:V}(h:aA R l m):aA R (.rp l) (.rp m):=by simp only[aA];exact⟨m,rfl,h⟩
def aA.cells{v u:V}(h:aA R v u):aN R v.cells u.cells:=by
 cases v<;>simp only[aA]at h
 case agg c=>obtain⟨c',rfl,h⟩:=h;simpa[V.cells]using h
 all_goals first
  |(subst h;exact aN.one (by simp[aA]))
  |(obtain⟨c,rfl,h⟩:=h;exact aN.one (by simp only[aA];exact⟨_,rfl,h⟩))
def aA.stays{v u:V}(h:aA R v u):u.stays=v.stays:=by
 cases v<;>simp only[aA]at h<;>first
  |(subst h;rfl)
  |(obtain⟨c,rfl,h⟩:=h;rfl)
end
def Lv(R:Nat->Nat->Prop)(Zc U:ag):Prop:=∀c a o,R c a->Zc c=some o->∃WM,U a=some ⟨o.elem,o.sz,WM⟩/\aN R o.rows WM
def Lv.sup{R:Nat->Nat->Prop}{Zc U Z1:ag}(h:Lv R Zc U)(hs:aa U Z1):Lv R Zc Z1:=λc a o hc ho=>by
 obtain⟨WM,h1,h2⟩:=h c a o hc ho;exact⟨WM,hs _ _ h1,h2⟩
structure qo(K:ag)(fl:Nat)(R:Nat->Nat->Prop)(Zc:ag)(X8:Nat)(U:ag):Prop where
 dom:∀c a,R c a->c<X8
 live:Lv R Zc U
 inj:∀c c' a o o',R c a->R c' a->Zc c=some o->Zc c'=some o'->c=c'
 fn:∀c a a',R c a->R c a'->a=a'
 lV:aa K U
 kfl:∀a o c oc,K a=some o->R c a->Zc c=some oc->c<fl
section
variable {R:Nat->Nat->Prop} {K Zc U:ag} {fl X8:Nat}
def qo.write(h:qo K fl R Zc X8 U){c a:Nat}{o:Ob}(hc:R c a)(ho:Zc c=some o)(hf:fl<=c){rows WM:List V}(hr:aN R rows WM):
 qo K fl R (C' Zc c ⟨o.elem,o.sz,rows⟩) X8 (C' U a ⟨o.elem,o.sz,WM⟩):=by
 have hlive:∀i x,C' Zc c ⟨o.elem,o.sz,rows⟩ i=some x->∃y,Zc i=some y:=λi x hx=>by
  by_cases e:i=c
  .rw[e];exact⟨o,ho⟩
  .rw[ae e]at hx;exact⟨x,hx⟩
 refine⟨h.dom,?_,?_,?_,?_,?_⟩
 .intro c1 a1 o1 h1 h2;by_cases e:c1=c
  .subst e;have:a1=a:=h.fn c1 a1 a h1 hc;subst this;rw[af]at h2;simp only[aI]at h2;subst h2;exact⟨WM,af,hr⟩
  .rw[ae e]at h2;have W6:a1≠a:=λe'=>by subst e';exact e (h.inj c1 c a1 o1 o h1 hc h2 ho)
   rw[ae W6];exact h.live c1 a1 o1 h1 h2
 .intro c1 c2 a1 o1 o2 h1 h2 h3 h4;obtain⟨y,hy⟩:=hlive _ _ h3;obtain⟨z,hz⟩:=hlive _ _ h4;exact h.inj c1 c2 a1 y z h1 h2 hy hz
 .exact h.fn
 .intro i x hx;have W6:i≠a:=λe=>by subst e;have:=h.kfl i x c o hx hc ho;omega
  rw[ae W6];exact h.lV i x hx
 .intro a1 o1 c1 oc h1 h2 h3;obtain⟨y,hy⟩:=hlive _ _ h3;exact h.kfl a1 o1 c1 y h1 h2 hy
def qo.rem(h:qo K fl R Zc X8 U){c a:Nat}{o:Ob}(hc:R c a)(ho:Zc c=some o)(hf:fl<=c):
 qo K fl R (del Zc c) X8 (del U a):=by
 have hlive:∀i x,del Zc c i=some x->i≠c/\Zc i=some x:=λi x hx=>by
  by_cases e:i=c
  .subst e;simp[Vc.del]at hx
  .rw[dg e]at hx;exact⟨e,hx⟩
 refine⟨h.dom,?_,?_,?_,?_,?_⟩
 .intro c1 a1 o1 h1 h2;obtain⟨e,h2⟩:=hlive _ _ h2;have W6:a1≠a:=λe'=>by subst e';exact e (h.inj c1 c a1 o1 o h1 hc h2 ho)
  rw[dg W6];exact h.live c1 a1 o1 h1 h2
 .intro c1 c2 a1 o1 o2 h1 h2 h3 h4;exact h.inj c1 c2 a1 o1 o2 h1 h2 (hlive _ _ h3).2 (hlive _ _ h4).2
 .exact h.fn
 .intro i x hx;have W6:i≠a:=λe=>by subst e;have:=h.kfl i x c o hx hc ho;omega
  rw[dg W6];exact h.lV i x hx
 .intro a1 o1 c1 oc h1 h2 h3;exact h.kfl a1 o1 c1 oc h1 h2 (hlive _ _ h3).2
def ext(R:Nat->Nat->Prop)(c a:Nat):Nat->Nat->Prop:=λx y=>R x y\/(x=c/\y=a)
def Ak(c a:Nat):∀x y,R x y->ext R c a x y:=λ_ _ h=>.inl h
def qo.new(h:qo K fl R Zc X8 U){i:Nat}(hi:U i=none){ob:Ob}{WM:List V}(hr:aN R ob.rows WM):
 qo K fl (ext R X8 i) (C' Zc X8 ob) (X8+1) (C' U i ⟨ob.elem,ob.sz,WM⟩):=by
 have H':∀c a,R c a->c≠X8:=λc a hc=>by have:=h.dom c a hc;omega
 have hold:∀c a o,R c a->C' Zc X8 ob c=some o->Zc c=some o/\a≠i:=λc a o hc ho=>by
  rw[ae (H' c a hc)]at ho;refine⟨ho,λe=>?_⟩;subst e;obtain⟨r,hr,_⟩:=h.live c a o hc ho;rw[hi]at hr;cases hr
 refine⟨?_,?_,?_,?_,h.lV.C' hi,?_⟩
 .rintro c a (hc|⟨rfl,rfl⟩)
  .have:=h.dom c a hc;omega
  .omega
 .rintro c a o (hc|⟨rfl,rfl⟩) ho
  .obtain⟨h1,h2⟩:=hold c a o hc ho;obtain⟨r,h3,h4⟩:=h.live c a o hc h1;rw[ae h2];exact⟨r,h3,aN.mono (Ak X8 i) _ _ h4⟩
  .rw[af]at ho;simp only[aI]at ho;subst ho;exact⟨WM,af,aN.mono (Ak _ _) _ _ hr⟩
 .rintro c c' a o o' (hc|⟨rfl,rfl⟩) (hc'|⟨rfl,e⟩) ho ho'
  .exact h.inj c c' a o o' hc hc' (hold _ _ _ hc ho).1 (hold _ _ _ hc' ho').1
  .exact absurd e (hold _ _ _ hc ho).2
  .exact absurd rfl (hold _ _ _ hc' ho').2
  .rfl
 .rintro c a a' (hc|⟨rfl,rfl⟩) (hc'|⟨e,rfl⟩)
  .exact h.fn c a a' hc hc'
  .exact absurd e (H' _ _ hc)
  .exact absurd rfl (H' _ _ hc')
  .rfl
 .rintro a o c oc hk (hc|⟨rfl,rfl⟩) ho
  .exact h.kfl a o c oc hk hc (hold _ _ _ hc ho).1
  .have:=h.lV a o hk;rw[hi]at this;cases this
def okX:VX->Bool
 |.t _=>true
 |.c v=>v.eL
def sC(op:W5):Bool:=op.xs.all okX&&(match op with
 |.alloc _ _ z=>z.eL
 |.build zero _=>gA zero
 |.clear _ z _=>z.eL
 |.mk _ _ _ z _=>z.eL
 |.more (.tas _ _ z) _=>z.eL
 |_=>true)
def rS(i:aD):Bool:=sC i.op&&(match i.g with
 |some (x,_)=>okX x
 |none=>true)
def jk:bG->Bool
 |.Za _ l=>l.all rS
 |.seq a b=>jk a&&jk b
 |.cond c a b=>okX c&&(jk a&&jk b)
 |.block _ a=>jk a
 |.loop a=>jk a
 |_=>true
def FD:VR->Bool
 |.tmp x=>okX x
 |.cell _ _ x=>okX x
 |.bad=>true
def PS(f:WD):Bool:=jk f.code&&f.res.all FD
variable {s s':Nat->V}
def fH(hs:∀i,aA R (s i) (s' i)){x:VX}(hx:okX x=true):aA R (x.ev s) (x.ev s'):=by
 cases x with
 |t n=>exact hs n
 |c v=>exact eY v hx
def oX(hs:∀i,aA R (s i) (s' i)):∀{xs:List VX},xs.all okX=true->aN R (xs.map (·.ev s)) (xs.map (·.ev s'))
 |[],_=>by simp[aN]
 |x::xs,h=>by
  simp only[oe,Ba]at h;exact aN.cq.2 ⟨_,_,rfl,fH hs h.1,oX hs h.2⟩
def Br{op:BinOp}{k:IntKind}{a b:Int}{v:V}(h:dV op k a b=some v):v.eL=true:=by
 unfold dV at h;split at h<;>first
  |(simp only[aI]at h;subst h;rfl)
  |(split at h<;>first|(simp only[aI]at h;subst h;rfl)|cases h)
  |cases h
def BG{op:BinOp}{a b:List UInt8}{v:V}(h:qv op a b=some v):v.eL=true:=by
 unfold qv at h;split at h<;>first
  |(simp only[aI]at h;subst h;rfl)
  |cases h
def Kw{op:BinOp}{a b a' b' v:V}(ha:aA R a a')(hb:aA R b b')(h:x8 op a b=some v):a'=a/\b'=b/\v.eL=true:=by
 unfold x8 at h;split at h
 .simp only[aA]at ha hb;split at h
  .exact⟨ha,hb,Br h⟩
  .cases h
 .simp only[aA]at ha hb;exact⟨ha,hb,BG h⟩
 .cases h
def JD{b:Bool}{x x' v:V}(hx:aA R x x')(h:cP b x=some v):∃v',cP b x'=some v'/\aA R v v':=by
 unfold cP at h;split at h<;>simp only[aI,reduceCtorEq]at h<;>simp only[aA]at hx<;>subst h
 .obtain⟨i,rfl,_⟩:=hx;exact⟨_,rfl,by simp[aA]⟩
 .obtain⟨i,rfl,hr⟩:=hx;exact⟨_,rfl,by simp[aA,hr.length]⟩
 .subst hx;exact⟨_,rfl,by simp[aA]⟩
 .subst hx;exact⟨_,rfl,by simp[aA]⟩
def j5{agg:Bool}{off sz:Nat}{vs us:List V}{v:V}(h:aN R vs us)(hv:da agg off sz vs=some v):∃v',da agg off sz us=some v'/\aA R v v':=by
 unfold da at hv|-;cases agg
 .simpa using h.get hv
 .simp only[if_true,aI]at hv|-;subst hv;exact⟨_,rfl,aA.agg ((h.drop off).take sz)⟩
def IU{agg:Bool}{off sz:Nat}{x x' v:V}(hx:aA R x x')(h:Hc agg off sz x=some v):∃v',Hc agg off sz x'=some v'/\aA R v v':=by
 unfold Hc at h;split at h
 .obtain⟨c,rfl,hr⟩:=aA.rB.1 hx;exact j5 hr h
 .cases h
def Gi{agg:Bool}{off sz:Nat}{x x' v:V}(hx:aA R x x')(h:lx agg off sz x=some v):∃v',lx agg off sz x'=some v'/\aA R v v':=by
 unfold lx at h;split at h
 .simp only[aA]at hx;obtain⟨i,rfl,hr⟩:=hx;simp only[aI]at h;subst h;exact⟨_,rfl,by simp only[aA];exact⟨i,rfl,hr⟩⟩
 .simp only[aA]at hx;obtain⟨u,rfl,hr⟩:=hx;simp only[Zq8]at h;obtain⟨w,hw,rfl⟩:=h;obtain⟨w',h1,h2⟩:=j5 hr.cells hw;exact⟨.rp w',by simp[lx,h1],aA.rp h2⟩
 .cases h
def Gv(hm:Lv R Zc U){Yg:Nat}{x i x' i' v:V}(hx:aA R x x')(hi:aA R i i')(h:bp Zc Yg x i=some v):∃v',bp U Yg x' i'=some v'/\aA R v v':=by
 unfold bp at h;split at h
 .simp only[aA]at hx hi;obtain⟨a,rfl,ha⟩:=hx;subst hi;split at h
  .rename_i ob Xz;obtain⟨WM,h1,h2⟩:=hm _ _ _ ha Xz;split at h
   .rename_i hc;simp only[aI]at h;subst h;refine⟨_,?_,by simp only[aA];exact⟨a,rfl,ha⟩⟩;simp only[bp,h1];rw[aq hc]
   .cases h
  .cases h
 .simp only[aA]at hx hi;obtain⟨WM,rfl,hr⟩:=hx;subst hi;split at h
  .rename_i hc;split at h
   .rename_i r hrr;simp only[aI]at h;subst h;obtain⟨u,h1,h2⟩:=hr.get hrr;refine⟨.rp u,?_,aA.rp h2⟩;simp only[bp,h1];rw[aq hc]
   .cases h
  .cases h
 .cases h
def Es{agg:Bool}{n Yg:Nat}{x i x' i' v:V}(hx:aA R x x')(hi:aA R i i')(h:nr agg n Yg x i=some v):∃v',nr agg n Yg x' i'=some v'/\aA R v v':=by
 unfold nr at h;split at h
 .simp only[aA]at hx hi;obtain⟨a,rfl,ha⟩:=hx;subst hi;split at h
  .rename_i hc;simp only[aI]at h;subst h;exact⟨_,by simp only[nr];rw[aq hc],by simp only[aA];exact⟨a,rfl,ha⟩⟩
  .cases h
 .simp only[aA]at hx hi;obtain⟨u,rfl,hr⟩:=hx;subst hi;split at h
  .rename_i hc;simp only[Zq8]at h;obtain⟨w,hw,rfl⟩:=h;obtain⟨w',h1,h2⟩:=j5 hr.cells hw;exact⟨.rp w',by simp only[nr];rw[aq hc,h1];rfl,aA.rp h2⟩
  .cases h
 .cases h
def Hk{agg:Bool}{n Yg:Nat}{x i x' i' v:V}(hx:aA R x x')(hi:aA R i i')(h:ue agg n Yg x i=some v):∃v',ue agg n Yg x' i'=some v'/\aA R v v':=by
 unfold ue at h;split at h
 .obtain⟨c,rfl,hr⟩:=aA.rB.1 hx;rw[aA.ln]at hi;subst hi;split at h
  .rename_i hc;obtain⟨w',h1,h2⟩:=j5 hr h;exact⟨w',by simp only[ue];rw[aq hc,h1],h2⟩
  .cases h
 .cases h
def G0{x i x' i' v:V}(hx:aA R x x')(hi:aA R i i')(h:rk x i=some v):∃v',rk x' i'=some v'/\aA R v v':=by
 have h0:=h;unfold rk at h;split at h
 .rw[aA.uS]at hx;rw[aA.ln]at hi;subst hx hi;refine⟨v,h0,?_⟩;split at h
  .split at h
   .simp only[aI]at h;subst h;simp[aA]
   .cases h
  .cases h
 .cases h
def yX(hm:Lv R Zc U){agg:Bool}{sz:Nat}{x x' v:V}(hx:aA R x x')(h:bF Zc agg sz x=some v):∃v',bF U agg sz x'=some v'/\aA R v v':=by
 unfold bF at h;split at h
 .simp only[aA]at hx;obtain⟨a,rfl,ha⟩:=hx;split at h
  .rename_i ob Xz;obtain⟨WM,h1,h2⟩:=hm _ _ _ ha Xz;split at h
   .rename_i r hr;obtain⟨r',h3,h4⟩:=h2.get hr;have hl:=h4.cells.length;simp only[bF,h1,h3,hl];cases agg
    .simp only[fG,if_false]at h|-;exact h4.cells.get h
    .simp only[if_true]at h|-;split at h
     .rename_i hc;simp only[aI]at h;subst h;exact⟨_,by rw[aq hc],aA.agg h4.cells⟩
     .split at h
      .rename_i hc hc';rw[ao hc,aq hc'];simp only[aI]at h;subst h;exact⟨_,rfl,aA.agg ((h4.cells.drop _).take _)⟩
      .cases h
   .cases h
  .cases h
 .simp only[aA]at hx;obtain⟨u,rfl,hr⟩:=hx;rename_i w;have hl:=hr.cells.length;cases agg
  .simp only[fG,if_false]at h;split at h
   .cases h
   .simp only[aI]at h;subst h;rename_i hna;refine⟨u,?_,hr⟩;cases u<;>simp only[bF,fG,if_false];cases w<;>simp only[aA]at hr<;>simp at hr hna
  .simp only[if_true]at h;split at h
   .rename_i hc;simp only[aI]at h;subst h;refine⟨_,?_,aA.agg hr.cells⟩;simp only[bF,hl,if_true];rw[aq hc]
   .cases h
 .cases h
def DB{d:Int}:∀{o o':Option V},(match o,o' with|none,none=>True|some x,some x'=>aA R x x'|_,_=>False)->∀{j:Int},bX d o=some j->bX d o'=some j
 |none,none,_,j,h=>h
 |some x,some x',hx,j,h=>by
  simp only at hx;cases x<;>simp only[bX]at h<;>first|cases h|skip
  rw[aA.ln]at hx;subst hx;rfl
 |none,some _,hx,_,_=>hx.elim
 |some _,none,hx,_,_=>hx.elim
def Eg(hm:Lv R Zc U){Yg:Nat}{x x' v:V}{lo hi mx lo' hi' mx':Option V}(hx:aA R x x')
 (h1:∀d j,bX d lo=some j->bX d lo'=some j)(h2:∀d j,bX d hi=some j->bX d hi'=some j)(h3:∀d j,bX d mx=some j->bX d mx'=some j)
 (h:eK Zc Yg x lo hi mx=some v):∃v',eK U Yg x' lo' hi' mx'=some v'/\aA R v v':=by
 unfold eK at h;split at h
 .simp only[aA]at hx;obtain⟨a,rfl,ha⟩:=hx;split at h
  .rename_i l hh m e1 e2 e3;split at h
   .rename_i hc;simp only[aI]at h;subst h;have Zb:yd U a Yg=true:=by
     have hz:=hc.2.2.2.2;unfold yd at hz|-;split at hz
     .rename_i ob Xz;obtain⟨WM,g1,g2⟩:=hm _ _ _ ha Xz;rw[g1];exact hz
     .cases hz
    refine⟨_,?_,by simp only[aA];exact⟨a,rfl,ha⟩⟩;simp only[eK,h1 _ _ e1,h2 _ _ e2,h3 _ _ e3];rw[aq ⟨hc.1,hc.2.1,hc.2.2.1,hc.2.2.2.1,Zb⟩]
   .cases h
  .cases h
 .simp only[aA]at hx;obtain⟨WM,rfl,hr⟩:=hx;have hl:=hr.length;split at h
  .rename_i l hh m e1 e2 e3;split at h
   .rename_i hc;simp only[aI]at h;subst h;refine⟨.sl _ ((WM.drop l.toNat).take (hh.toNat-l.toNat)),?_,by simp only[aA];exact⟨_,rfl,(hr.drop _).take _⟩⟩;simp only[eK,h1 _ _ e1,hl,h2 _ _ e2,h3 _ _ e3];rw[aq hc]
   .cases h
  .cases h
 .simp only[aA]at hx;subst hx;split at h
  .rename_i l hh m e1 e2 e3;split at h
   .rename_i hc;simp only[aI]at h;subst h;refine⟨.ay,?_,by simp[aA]⟩;simp only[eK,h1 _ _ e1,h2 _ _ e2,h3 _ _ e3];rw[aq hc]
   .cases h
  .cases h
 .cases h
def CF{x x' v:V}{lo hi lo' hi':Option V}(hx:aA R x x')
 (h1:∀d j,bX d lo=some j->bX d lo'=some j)(h2:∀d j,bX d hi=some j->bX d hi'=some j)
 (h:lE x lo hi=some v):∃v',lE x' lo' hi'=some v'/\aA R v v':=by
 unfold lE at h;split at h
 .rw[aA.uS]at hx;subst hx;split at h
  .rename_i l hh e1 e2;split at h
   .rename_i hc;simp only[aI]at h;subst h;refine⟨_,?_,aA.uS.2 rfl⟩;simp only[lE,h1 _ _ e1,h2 _ _ e2];rw[aq hc]
   .cases h
  .cases h
 .cases h
def yy{x x' v:V}(hx:aA R x x')(h:ia x=some v):∃v',ia x'=some v'/\aA R v v':=by
 unfold ia at h;split at h<;>first|cases h|skip
 all_goals (have hx0:=hx;simp only[aA]at hx;obtain⟨i,rfl,_⟩:=hx;exact⟨_,rfl,hx0⟩)
def G3{neg:Bool}{x y x' y' v:V}(hx:aA R x x')(hy:aA R y y')(h:binBV neg x y=some v):∃v',binBV neg x' y'=some v'/\aA R v v':=by
 have h0:=h;unfold binBV at h;split at h
 .rw[aA.nP]at hx hy;subst hx hy;refine⟨v,h0,?_⟩;simp only[aI]at h;subst h;simp[aA]
 .cases h
def Dl{m:Bool}{x y x' y' v:V}(hx:aA R x x')(hy:aA R y y')(h:mN m x y=some v):∃v',mN m x' y'=some v'/\aA R v v':=by
 have h0:=h;unfold mN at h;split at h
 .rw[aA.ln]at hx hy;subst hx hy;refine⟨v,h0,?_⟩;split at h
  .simp only[aI]at h;subst h;simp[aA]
  .cases h
 .cases h
def Ev{x y x' y':V}{b:Bool}(hx:aA R x x')(hy:aA R y y')(h:jh x y=some b):x'=x/\y'=y:=by
 unfold jh at h;split at h<;>first|cases h|skip
 all_goals simp only[aA]at hx hy
 all_goals exact⟨hx,hy⟩
def uy:∀{l m l' m':List V} {b:Bool},aN R l l'->aN R m m'->fo l m=some b->l'=l/\m'=m
 |[],[],_,_,_,h1,h2,_=>by rw[aN.jr]at h1 h2;exact⟨h1,h2⟩
 |v::vs,u::us,_,_,b,h1,h2,h=>by
  obtain⟨v',vs',rfl,g1,g2⟩:=aN.cq.1 h1;obtain⟨u',us',rfl,g3,g4⟩:=aN.cq.1 h2;simp only[fo]at h;split at h
  .rename_i e1 e2;obtain⟨rfl,rfl⟩:=Ev g1 g3 e1;obtain⟨rfl,rfl⟩:=uy g2 g4 e2;exact⟨rfl,rfl⟩
  .cases h
 |[],_::_,_,_,_,_,_,h=>by simp[fo]at h
 |_::_,[],_,_,_,_,_,h=>by simp[fo]at h
def JO{neg:Bool}{ks:List Nat}{x y x' y' v:V}(hx:aA R x x')(hy:aA R y y')(h:mW neg ks x y=some v):∃v',mW neg ks x' y'=some v'/\aA R v v':=by
 have h0:=h;unfold mW at h;split at h
 .obtain⟨c,rfl,g1⟩:=aA.rB.1 hx;obtain⟨d,rfl,g2⟩:=aA.rB.1 hy;split at h
  .split at h
   .rename_i e;obtain⟨rfl,rfl⟩:=uy g1 g2 e;refine⟨v,h0,?_⟩;simp only[aI]at h;subst h;simp[aA]
   .cases h
  .cases h
 .cases h
def uq:∀{l m:List V} {b:List UInt8},aN R l m->bytesOf l=some b->m=l
 |[],_,_,h,_=>by rw[aN.jr]at h;exact h
 |v::vs,_,b,h,hb=>by
  obtain⟨u,us,rfl,g1,g2⟩:=aN.cq.1 h;simp only[bytesOf]at hb;split at hb
  .rename_i e1 e2;rw[uq g2 e2];cases v<;>simp[byteOf]at e1;rw[aA.ln]at g1;rw[g1]
  .cases hb
def D0(hm:Lv R Zc U){x x' v:V}(hx:aA R x x')(h:ky Zc x=some v):∃v',ky U x'=some v'/\aA R v v':=by
 unfold ky at h;split at h
 .simp only[aA]at hx;subst hx;simp only[aI]at h;subst h;exact⟨_,rfl,by simp[aA]⟩
 .simp only[aA]at hx;obtain⟨a,rfl,ha⟩:=hx;split at h
  .rename_i ob Xz;obtain⟨WM,h1,h2⟩:=hm _ _ _ ha Xz;split at h
   .rename_i hc;simp only[Zq8]at h;obtain⟨l,hl,rfl⟩:=h;have e:=uq ((h2.drop _).take _) hl;refine⟨_,?_,aA.uS.2 rfl⟩;simp only[ky,h1,h2.length,e,hl,Option.map_some];rw[aq hc]
   .cases h
  .cases h
 .cases h
def IA{i:Nat}{x x' v:V}(hx:aA R x x')(h:DV i x=some v):∃v',DV i x'=some v'/\aA R v v':=by
 unfold DV at h;split at h
 .simp only[aA]at hx;obtain⟨c,rfl,hr⟩:=hx;exact hr.get h
 .cases h
def kR(R:Nat->Nat->Prop):List (Nat×Nat×V)->List (Nat×Nat×V)->Prop
 |[],l=>l=[]
 |p::ps,l=>∃u us,l=(p.1,p.2.1,u)::us/\aA R p.2.2 u/\kR R ps us
def vy:∀{ps ps':List (Nat×Nat×V)} {z z' l:List V},aN R z z'->kR R ps ps'->jH z ps=some l->∃l',jH z' ps'=some l'/\aN R l l'
 |[],_,z,z',l,hz,hp,h=>by
  simp only[kR]at hp;subst hp;simp only[jH,aI]at h;subst h;exact⟨_,rfl,hz⟩
 |(off,sz,x)::ps,_,z,z',l,hz,hp,h=>by
  simp only[kR]at hp;obtain⟨u,us,rfl,h1,h2⟩:=hp;simp only[jH]at h|-;split at h
  .rename_i hc;rw[aq ⟨by rw[h1.cells.length];exact hc.1,by rw[h1.stays];exact hc.2.1,by rw[hz.length];exact hc.2.2⟩];refine vy ?_ h2 h;unfold ei;rw[h1.cells.length];exact((hz.take _).append h1.cells).append (hz.drop _)
  .cases h
def nL(hs:∀i,aA R (s i) (s' i)){lo:Option VX}(h:∀x∈lo.toList,okX x=true)(d j:Int):bX d (lo.map (·.ev s))=some j->bX d (lo.map (·.ev s'))=some j:=by
 refine DB (R:=R) ?_;cases lo with
 |none=>trivial
 |some x=>exact fH hs (h x (by simp))
def Hr(hm:Lv R Zc U)(hs:∀i,aA R (s i) (s' i)){op:W5}(WL:sC op=true){v:V}(hp:ez s op)(h:aF Zc s op=some v):
 ez s' op/\∃v',aF U s' op=some v'/\aA R v v':=by
 have hok':=WL;simp only[sC,Ba]at WL;have hx:=eT.1 WL.1;have E:∀x,x∈op.xs->aA R (x.ev s) (x.ev s'):=λx h=>fH hs (hx x h);cases op<;>simp only[W5.xs,db,List.not_mem_nil,or_false,forall_eq_or_imp,forall_eq,dD]at E<;>simp only[aF,ez,aI,reduceCtorEq,true_and]at h hp|-
 case W1=>subst h;exact⟨_,rfl,E⟩
 case pick c a b=>
  split at h
  .rename_i t ht;have:=E.1;rw[ht,aA.nP]at this;rw[this];simp only[aI]at h|-;subst h;refine⟨_,rfl,?_⟩;cases t
   .exact E.2.2
   .exact E.2.1
  .cases h
 case bin op x y=>
  obtain⟨e1,e2,e3⟩:=Kw E.1 E.2 h;rw[e1,e2];exact⟨hp,v,h,eY v e3⟩
 case not x=>
  split at h
  .rename_i b hb;rw[hb,aA.nP]at E;rw[E];simp only[aI]at h|-;subst h;exact⟨_,rfl,by simp[aA]⟩
  .cases h
 case neg x=>
  split at h
  .rename_i k b hb;rw[hb]at hp;rw[hb,aA.ln]at E;rw[E];simp only[aI]at h|-;subst h;exact⟨hp,_,rfl,by simp[aA]⟩
  .cases h
 case len=>exact JD E h
 case cap=>
  unfold Mr at h;split at h
  .rename_i hn;rw[hn]at E;simp only[aA]at E;rw[E];simp only[aI]at h;subst h;exact⟨_,rfl,by simp[aA]⟩
  .cases h
 case fld=>exact IU E h
 case W7=>exact Gi E h
 case ZG=>exact Gv hm E.1 E.2 h
 case idxAA=>exact Es E.1 E.2 h
 case idxV=>exact Hk E.1 E.2 h
 case idxS=>exact G0 E.1 E.2 h
 case load=>exact yX hm E h
 case slice Yg x lo hi mx=>
  have W8:=hx;simp only[W5.xs,db,dD]at W8;exact Eg hm E.1 (nL hs λy hy=>W8 y (.inr (.inl (.inl hy)))) (nL hs λy hy=>W8 y (.inr (.inl (.inr hy)))) (nL hs λy hy=>W8 y (.inr (.inr hy))) h
 case sliceS x lo hi=>
  have W8:=hx;simp only[W5.xs,db,dD]at W8;exact CF E.1 (nL hs λy hy=>W8 y (.inr (.inl hy))) (nL hs λy hy=>W8 y (.inr (.inr hy))) h
 case ext=>exact IA E h
 case more m xs=>
  by_cases hb:∃f,m=.mkB f
  .obtain⟨f,rfl⟩:=hb;simp only[aF,aI]at h|-;subst h;exact⟨_,rfl,by simp only[aA];exact⟨_,rfl,oX hs WL.1⟩⟩
  cases xs with
  |nil=>cases m<;>first|exact absurd ⟨_,rfl⟩ hb|simp[aF]at h
  |cons x xs=>
   have ex:=E x (by simp);cases xs with
   |cons y ys=>cases m<;>first|exact absurd ⟨_,rfl⟩ hb|simp[aF]at h
   |nil=>
    cases m
    case mkB=>exact absurd ⟨_,rfl⟩ hb
    case mkI t=>
     simp only[aI]at h|-;subst h;exact⟨_,rfl,by simp only[aA];exact⟨_,rfl,ex⟩⟩
    case tas t ok z=>
     have hz:z.eL=true:=WL.2;simp only[]at h|-;unfold Ij at h|-;split at h
     .rename_i t' v' hv';rw[hv']at ex;simp only[aA]at ex;obtain⟨u,hu,hru⟩:=ex;rw[hu];simp only;split at h
      .rename_i e;rw[aq e];simp only[aI]at h|-;subst h;refine⟨_,rfl,?_⟩;cases ok
       .exact hru
       .simp only[if_true,aA,aN];exact⟨_,rfl,_,_,rfl,hru,_,_,rfl,rfl,rfl⟩
      .rename_i e;rw[ao e];cases ok
       .simp at h
       .simp only[if_true,aI]at h|-;subst h;refine⟨_,rfl,?_⟩;simp only[aA,aN];exact⟨_,rfl,_,_,rfl,eY z hz,_,_,rfl,rfl,rfl⟩
     .rename_i hv';rw[hv']at ex;simp only[aA]at ex;rw[ex];cases ok
      .simp at h
      .simp only[if_true,aI]at h|-;subst h;refine⟨_,rfl,?_⟩;simp only[aA,aN];exact⟨_,rfl,_,_,rfl,eY z hz,_,_,rfl,rfl,rfl⟩
     .cases h
    case nilP neg=>
     simp only[]at h|-;unfold FG at h;split at h
     .rename_i hv';rw[hv']at ex;simp only[aA]at ex;rw[ex];exact⟨v,h,by simp only[aI]at h;subst h;simp[aA]⟩
     .rename_i hv';rw[hv']at ex;simp only[aA]at ex;obtain⟨u,hu,_⟩:=ex;rw[hu];exact⟨v,h,by simp only[aI]at h;subst h;simp[aA]⟩
     .rename_i hv';rw[hv']at ex;simp only[aA]at ex;obtain⟨u,hu,_⟩:=ex;rw[hu];exact⟨v,h,by simp only[aI]at h;subst h;simp[aA]⟩
     .cases h
    all_goals simp[aF]at h
 case mkfn f xs=>
  subst h;exact⟨_,rfl,by simp only[aA];exact⟨_,rfl,oX hs WL.1⟩⟩
 case convI k x=>
  split at h
  .rename_i k' b hb;rw[hb]at hp;rw[hb,aA.ln]at E;rw[E];simp only[aI]at h|-;subst h;exact⟨hp,_,rfl,by simp[aA]⟩
  .cases h
 case nilCheck=>exact yy E h
 case YU=>exact G3 E.1 E.2 h
 case eqS=>exact JO E.1 E.2 h
 case minmax=>exact Dl E.1 E.2 h
 case bstr=>exact D0 hm E h
 case build zero parts=>
  simp only[Zq8]at h;obtain⟨l,hl,rfl⟩:=h;have hpr:∀ps:List (Nat×Nat×VX),(∀p∈ps,okX p.2.2=true)->kR R (ps.map λp=>(p.1,p.2.1,p.2.2.ev s)) (ps.map λp=>(p.1,p.2.1,p.2.2.ev s')):=by
   intro ps
   induction ps with
   |nil=>intro _;simp[kR]
   |cons p ps ih=>
    intro ZP;simp only[eo,kR];exact⟨_,_,rfl,fH hs (ZP p (by simp)),ih λq hq=>ZP q (by simp[hq])⟩
  obtain⟨l',h1,h2⟩:=vy (fV zero WL.2) (hpr parts λp hp=>hx _ (by simp only[W5.xs,gM];exact⟨p,hp,rfl⟩)) hl;exact⟨.agg l',by rw[h1];rfl,aA.agg h2⟩
end
variable {R:Nat->Nat->Prop} {K:ag} {fl:Nat} {P:Program} {n:Nat}
structure fY(K:ag)(fl:Nat)(R:Nat->Nat->Prop)(cs:CS)(st:St):Prop where
 slot:∀i,aA R (cs.sf i) (st.s i)
 mem:qo K fl R (stF cs.U) cs.X8 st.U
def Hj{s s':Nat->V}(h:∀i,aA R (s i) (s' i)){d:Option Nat}{v u:V}(hv:aA R v u):∀i,aA R (aQ s d v i) (aQ s' d u i):=by
 intro i;cases d with
 |none=>exact h i
 |some d=>
  show aA R (if i=d then v else s i) (if i=d then u else s' i);split
  .exact hv
  .exact h i
def fY.put{cs:CS}{st:St}(h:fY K fl R cs st){d:Option Nat}{v u:V}(hv:aA R v u):fY K fl R (cs.put d v) ⟨aQ st.s d u,st.U⟩:=by
 refine⟨?_,?_⟩
 .rw[PF];exact Hj h.slot hv
 .rw[(JW cs d v).1,(JW cs d v).2];exact h.mem
def aA.My:aA R (.WJ []) (.WJ []):=by simp[aA,aN]
def Oq(a b:Int):eqQ a b=decide (a=b):=by
 cases a<;>cases b<;>rw[Bool.eq_iff_iff]<;>simp[eqQ]<;>first|rfl|omega
def Oz(a b:Int):leQ a b=decide (a<=b):=by
 cases a<;>cases b<;>rw[Bool.eq_iff_iff]<;>simp only[leQ,Nat.ble_eq,Zs,fG,false_iff,true_iff,Int.ofNat_eq_natCast]<;>omega
def LJ(a b:Int):Sg a b=a+b:=by cases a<;>cases b<;>rfl
def Mf(a b:Int):RH a b=a-b:=by
 cases a<;>cases b<;>simp only[RH];rename_i m k;cases h:Nat.ble k m
 .have:¬k<=m:=by rw[<-Nat.ble_eq];simp[h]
  simp only[Nat.sub_eq,Int.ofNat_eq_natCast];omega
 .have:k<=m:=ye h;simp only[Nat.sub_eq,Int.ofNat_eq_natCast];omega
def Mq{a:Int}(h:QG a=true):WR .i64 a:=by
 cases a<;>simp only[QG,Nat.ble_eq]at h
 .rw[Int.ofNat_eq_natCast];exact ai
 .exact ai
def Ml{k:IntKind}{a:Int}(h:Qo k a=true):WR k a:=by
 unfold Qo at h;split at h
 .exact Mq h
 .simpa[WR]using h
def jQ{α:Type}{b:Bool}{x y:α}:@Bool.casesOn (λ_=>α) b x y=if b then y else x:=by cases b<;>rfl
def G4{α:Type}{b:Bool}{x y:α}:@Bool.rec (λ_=>α) x y b=if b then y else x:=by cases b<;>rfl
def yK{k:IntKind}{a:Int}{v:V}(h:gI k a=some v):v=.int k a/\WR k a:=by
 unfold gI at h;rw[jQ]at h;split at h
 .rename_i hi;simp only[aI]at h;exact⟨h.symm,Ml hi⟩
 .cases h
def DO{op:BinOp}{k:IntKind}{a b:Int}{v:V}(h:(qU op).f k a b=some v):iJ op k a b/\dV op k a b=some v:=by
 unfold qU at h;split at h<;>simp only[]at h
 .obtain⟨rfl,h2⟩:=yK h;rw[LJ]at*;exact⟨h2,rfl⟩
 .obtain⟨rfl,h2⟩:=yK h;rw[Mf]at*;exact⟨h2,rfl⟩
 .obtain⟨rfl,h2⟩:=yK h;exact⟨h2,rfl⟩
 .split at h
  .cases h
  .rename_i hb;obtain⟨rfl,h2⟩:=yK h;exact⟨h2,by simp[dV,hb]⟩
 .split at h
  .cases h
  .rename_i hb;simp only[aI]at h;subst h;exact⟨trivial,by simp[dV,hb]⟩
 all_goals first
  |exact⟨trivial,h⟩
  |(simp only[aI]at h;subst h;refine⟨trivial,?_⟩;simp only[Oq,Oz,dV,aI,V.bool.injEq];try (rw[Bool.eq_iff_iff];simp))
  |cases h
def Ee{op:BinOp}{a b:List UInt8}{v:V}(h:zK op a b=some v):wh op a b/\qv op a b=some v:=by
 unfold zK at h;split at h
 .rw[jQ]at h;split at h
  .rename_i hb;simp only[aI]at h;subst h;exact⟨ye hb,rfl⟩
  .cases h
 .exact⟨trivial,h⟩
 .exact⟨trivial,h⟩
 .cases h
def II{k k':IntKind}(h:IM k k'=true):k=k':=by
 unfold IM at h;rw[jQ]at h;cases k<;>cases k'<;>simp_all [OR,eqK]
def Lp{op:BinOp}{x y v:V}(h:KZ op (qU op).f y x=some v):qe op x y/\x8 op x y=some v:=by
 unfold KZ at h;split at h
 .unfold Sj at h;split at h
  .rw[jQ]at h;split at h
   .rename_i hk;have:=II hk;subst this;obtain⟨h1,h2⟩:=DO h;exact⟨h1,by simp[x8,h2]⟩
   .cases h
  .cases h
 .unfold R3 at h;split at h
  .exact Ee h
  .cases h
 .cases h
def Mx{U:Tr (Option Ob)}{Yg:Nat}{x i v:V}(h:QC U Yg x i=some v):bp (stF U) Yg x i=some v:=by
 unfold QC at h;split at h
 .split at h
  .rename_i m hm;have hj:=hm;unfold Dk at hm;split at hm
   .simp only[aI]at hm;subst hm;split at h
    .rename_i ob Xz;rw[jQ]at h;split at h
     .rename_i hc;simp only[Ba,Nat.beq_eq,Nat.blt_eq]at hc;have e:stF U _=some ob:=Xz;simp only[bp,e];rw[aq ⟨hc.1,by simp,by simpa using hc.2⟩];exact h
     .cases h
    .cases h
   .cases hm
  .cases h
 .split at h
  .rename_i m hm;unfold Dk at hm;split at hm
   .simp only[aI]at hm;subst hm;rw[jQ]at h;split at h
    .rename_i hc;rw[Nat.beq_eq]at hc;simp only[bp];rw[aq ⟨hc,by simp⟩];exact h
    .cases h
   .cases hm
  .cases h
 .cases h
def IP{x i v:V}(h:JZ x i=some v):rk x i=some v:=by
 unfold JZ at h;split at h
 .split at h
  .rename_i m hm;unfold Dk at hm;split at hm
   .simp only[aI]at hm;subst hm;simp only[rk];rw[aq (by simp)];exact h
   .cases hm
  .cases h
 .cases h
def JQ{U:Tr (Option Ob)}{agg:Bool}{sz:Nat}{x v:V}(h:Kg U agg sz x=some v):bF (stF U) agg sz x=some v:=by
 unfold Kg at h;split at h
 .split at h
  .rename_i ob Xz;have e:stF U _=some ob:=Xz;split at h
   .rename_i r hr;simp only[bF,e,hr];split at h
    .rw[jQ,jQ]at h;simp only[if_true];split at h
     .rename_i hc;simp only[Ba,Nat.beq_eq]at hc;rw[aq hc];exact h
     .rename_i hc;split at h
      .rename_i hc';rw[ao (by simpa using hc),aq (show _+sz<=_ from ye hc')];exact h
      .cases h
    .simpa using h
   .cases h
  .cases h
 .exact h
def yC{draw:Bool}{call:oy}{dst:Option Nat}{op:W5}{cs Yi:CS}{st:St}(hk:bf op=0)(WL:sC op=true)(h:fY K fl R cs st)
 (hr:(lh draw dst op).f call fl cs=some Yi):∃v',ez st.s op/\aF st.U st.s op=some v'/\fY K fl R Yi ⟨aQ st.s dst v',st.U⟩:=by
 have key:∃v,ez cs.sf op/\aF (stF cs.U) cs.sf op=some v/\Yi=cs.put dst v:=by
  have hp:∀(g:CS->Option V),(kL dst g).f call fl cs=some Yi->∃v,g cs=some v/\Yi=cs.put dst v:=by
   intro g hg;simp only[kL]at hg;split at hg
   .rename_i v hv;simp only[aI]at hg;exact⟨v,hv,hg.symm⟩
   .cases hg
  cases op<;>simp only[bf,reduceCtorEq,Nat.reduceEqDiff]at hk<;>simp only[lh]at hr
  case W1 x=>
   simp only[RK,aI]at hr;exact⟨_,trivial,rfl,hr.symm⟩
  case bin op x y=>
   have hr':(kL dst λcs=>KZ op (qU op).f (y.ev cs.sf) (x.ev cs.sf)).f call fl cs=some Yi:=hr;obtain⟨v,h1,h2⟩:=hp _ hr';obtain⟨h3,h4⟩:=Lp h1;exact⟨v,h3,h4,h2⟩
  case pick c a b=>
   obtain⟨v,h1,h2⟩:=hp _ hr;refine⟨v,trivial,?_,h2⟩;simp only[aF];unfold Np at h1;split at h1
   .rename_i t ht;rw[jQ]at h1;rw[ht];exact h1
   .cases h1
  case not x=>
   obtain⟨v,h1,h2⟩:=hp _ hr;refine⟨v,trivial,?_,h2⟩;simp only[aF];unfold Sv at h1;split at h1
   .rename_i t ht;rw[ht];exact h1
   .cases h1
  case neg x=>
   obtain⟨v,h1,h2⟩:=hp _ hr;unfold Sp at h1;split at h1
   .rename_i k t ht;obtain⟨h3,h4⟩:=yK h1;exact⟨v,by simp only[ez,ht];exact h4,by simp only[aF,ht,h3],h2⟩
   .cases h1
  case convI k x=>
   obtain⟨v,h1,h2⟩:=hp _ hr;unfold M1 at h1;split at h1
   .rename_i k t ht;obtain⟨h3,h4⟩:=yK h1;exact⟨v,by simp only[ez,ht];exact h4,by simp only[aF,ht,h3],h2⟩
   .cases h1
  case ZG=>obtain⟨v,h1,h2⟩:=hp _ hr;exact⟨v,trivial,Mx h1,h2⟩
  case idxS=>obtain⟨v,h1,h2⟩:=hp _ hr;exact⟨v,trivial,IP h1,h2⟩
  case load=>obtain⟨v,h1,h2⟩:=hp _ hr;exact⟨v,trivial,JQ h1,h2⟩
  all_goals (obtain⟨v,h1,h2⟩:=hp _ hr;exact⟨v,trivial,h1,h2⟩)
 obtain⟨v,h1,h2,rfl⟩:=key;obtain⟨h3,v',h4,h5⟩:=Hr h.mem.live h.slot WL h1 h2;exact⟨v',h3,h4,h.put h5⟩
def CV{Zc U:ag}(hm:Lv R Zc U){sz:Nat}{x x':V}{l:List V}(hx:aA R x x')(h:bI Zc sz x=some l):∃l',bI U sz x'=some l'/\aN R l l':=by
 unfold bI at h;split at h
 .simp only[aA]at hx;obtain⟨a,rfl,ha⟩:=hx;split at h
  .rename_i ob Xz;obtain⟨WM,h1,h2⟩:=hm _ _ _ ha Xz;split at h
   .rename_i hc;simp only[aI]at h;subst h;refine⟨_,?_,(h2.drop _).take _⟩;simp only[bI,h1,h2.length];rw[aq hc]
   .cases h
  .cases h
 .simp only[aA]at hx;obtain⟨WM,rfl,hr⟩:=hx;split at h
  .rename_i hc;simp only[aI]at h;subst h;exact⟨WM,by simp[bI,hc],hr⟩
  .cases h
 .simp only[aA]at hx;subst hx;simp only[aI]at h;subst h;exact⟨[],rfl,by simp[aN]⟩
 .rename_i s;simp only[aA]at hx;subst hx;refine⟨l,h,?_⟩;split at h
  .simp only[aI]at h;subst h
   induction s with
   |nil=>simp[aN]
   |cons b s ih=>simp only[eo,aN];exact⟨_,_,rfl,by simp[aA],ih⟩
  .cases h
 .cases h
def CQ{Zc U:ag}(hm:Lv R Zc U){e sz:Nat}{x x':V}{l:List V}{d:Option Nat}(hx:aA R x x')(h:bV Zc e sz x=some (l,d)):
 ∃l' d',bV U e sz x'=some (l',d')/\aN R l l'/\(d=none/\d'=none\/∃c a o,d=some c/\d'=some a/\R c a/\Zc c=some o):=by
 unfold bV at h;split at h
 .simp only[aA]at hx;obtain⟨a,rfl,ha⟩:=hx;split at h
  .rename_i ob Xz;obtain⟨WM,h1,h2⟩:=hm _ _ _ ha Xz;split at h
   .rename_i hc;simp only[aI,Prod.mk.injEq]at h;obtain⟨rfl,rfl⟩:=h;refine⟨_,some a,?_,h2.take _,.inr ⟨_,a,ob,rfl,rfl,ha,Xz⟩⟩;simp only[bV,h1,h2.length];rw[aq hc]
   .cases h
  .cases h
 .simp only[aA]at hx;subst hx;simp only[aI,Prod.mk.injEq]at h;obtain⟨rfl,rfl⟩:=h;exact⟨[],none,rfl,by simp[aN],.inl ⟨rfl,rfl⟩⟩
 .cases h
def kx{dst:Option Nat}{cs Yi:CS}{st:St}(h:fY K fl R cs st){m:Mk}{WM:List V}{d':Option Nat}(Xo:aN R m.ob.rows WM)
 (hd:m.gone=none/\d'=none\/∃c a o,m.gone=some c/\d'=some a/\R c a/\stF cs.U c=some o)(hr:Ad fl dst cs m=some Yi){id:Nat}(P':st.U id=none):
 ∃R',(∀a b,R a b->R' a b)/\fY K fl R' Yi ⟨aQ st.s dst (if m.var then .ptr id 0 0 else .own id 0 m.len),C' (bz st.U d') id ⟨m.ob.elem,m.ob.sz,WM⟩⟩:=by
 refine⟨ext R cs.X8 id,Ak _ _,?_⟩;have hval:aA (ext R cs.X8 id) (@Bool.casesOn (λ_=>V) m.var (.own cs.X8 0 m.len) (.ptr cs.X8 0 0)) (if m.var then .ptr id 0 0 else .own id 0 m.len):=by
  cases m.var
  .simp only[aA,fG,if_false];exact⟨id,rfl,.inr ⟨rfl,rfl⟩⟩
  .simp only[aA,if_true];exact⟨id,rfl,.inr ⟨rfl,rfl⟩⟩
 have hslot:∀i,aA (ext R cs.X8 id) (cs.sf i) (st.s i):=λi=>aA.mono (Ak _ _) _ _ (h.slot i);unfold Ad at hr;rcases hd with⟨e1,rfl⟩|⟨c,a,o,e1,rfl,hR,ho⟩
 .rw[e1]at hr;simp only[aI]at hr;subst hr;have hm:=h.mem.new P' Xo;have hS:fY K fl (ext R cs.X8 id) ⟨cs.s,oL none (some m.ob) cs.X8 cs.U,Nat.succ cs.X8⟩ ⟨st.s,C' st.U id ⟨m.ob.elem,m.ob.sz,WM⟩⟩:=
   ⟨hslot,by simp only[ve];exact hm⟩
  exact hS.put hval
 .rw[e1]at hr;simp only[jQ]at hr;split at hr
  .rename_i hf;simp only[aI]at hr;subst hr;have h1:=h.mem.rem hR ho (ye hf);have hid':del st.U a id=none:=by
    by_cases e:id=a
    .simp[del,e]
    .rw[dg e];exact P'
   have hm:=h1.new hid' Xo;have hS:fY K fl (ext R cs.X8 id) ⟨cs.s,oL none (some m.ob) cs.X8 (oL none none c cs.U),Nat.succ cs.X8⟩ ⟨st.s,C' (del st.U a) id ⟨m.ob.elem,m.ob.sz,WM⟩⟩:=
    ⟨hslot,by simp only[ve,LH];exact hm⟩
   rw[jQ]at hval;exact hS.put hval
  .cases hr
def CN{draw:Bool}{call:oy}{dst:Option Nat}{op:W5}{cs Yi:CS}{st:St}(hk:bf op=3)(WL:sC op=true)(h:fY K fl R cs st)
 (hr:(lh draw dst op).f call fl cs=some Yi):∃g',Ze st.s st.U op=some g'/\∀id,st.U id=none->∃R',(∀a b,R a b->R' a b)/\
   fY K fl R' Yi ⟨aQ st.s dst (g' id).1,(g' id).2⟩:=by
 have hp:∀(g:CS->Option Mk),(DJ dst g).f call fl cs=some Yi->∃m,g cs=some m/\Ad fl dst cs m=some Yi:=by
  intro g hg;simp only[DJ]at hg;split at hg
  .rename_i v hv;exact⟨v,hv,hg⟩
  .cases hg
 simp only[sC,Ba]at WL;have hx:=eT.1 WL.1;cases op<;>simp only[bf,reduceCtorEq,Nat.reduceEqDiff]at hk<;>simp only[lh]at hr
 case more m xs=>cases m<;>simp at hk
 case alloc e sz z=>
  obtain⟨m,h1,h2⟩:=hp _ hr;simp only[aI]at h1;subst h1;refine⟨_,rfl,λid P'=>?_⟩;have:=kx (d':=none) h (aN.one (eY (R:=R) z WL.2)) (.inl ⟨rfl,rfl⟩) h2 P';simpa[bz]using this
 case box e sz x=>
  obtain⟨m,h1,h2⟩:=hp _ hr;have hv:=fH h.slot (hx x (by simp[W5.xs]));unfold R6 at h1;rw[jQ]at h1;split at h1
  .rename_i hc;simp only[Ba,Nat.beq_eq]at hc;simp only[aI]at h1;subst h1;refine⟨λid=>(.ptr id 0 0,C' st.U id ⟨e,sz,[x.ev st.s]⟩),?_,λid P'=>?_⟩
   .simp only[Ze];rw[aq ⟨by rw[hv.cells.length];exact hc.1,by rw[hv.stays];exact hc.2⟩]
   .have:=kx (d':=none) h (aN.one hv) (.inl ⟨rfl,rfl⟩) h2 P';simpa[bz]using this
  .cases h1
 case appz=>simp[kL,aF]at hr
 case mk e sz bytes z x=>
  obtain⟨m,h1,h2⟩:=hp _ hr;have hv:=fH h.slot (hx x (by simp[W5.xs]));unfold mkQ at h1;split at h1
  .rename_i kk mm hxe;rw[hxe]at hv;simp only[aA]at hv;split at h1
   .split at h1
    .rename_i j hj;rw[jQ]at h1;split at h1
     .rename_i hc;simp only[aI]at h1;subst h1;have hmj:mm=(j:Int):=by
       cases mm<;>simp only[Dk,aI,reduceCtorEq]at hj;subst hj;rfl
      subst hmj;refine⟨λid=>(.own id 0 j,C' st.U id ⟨e,sz,List.replicate j z⟩),?_,λid P'=>?_⟩
      .simp only[Ze];rw[hv];have hc':j*(bytes+1)<=140737488355328:=ye hc;simp only[fc];rw[aq ⟨by omega,hc'⟩]
      .have:=kx (d':=none) h (aN.replicate (eY (R:=R) z WL.2) j) (.inl ⟨rfl,rfl⟩) h2 P';simpa[bz]using this
     .cases h1
    .cases h1
   .cases h1
  .cases h1
 case fk e sz xs=>
  obtain⟨m,h1,h2⟩:=hp _ hr;have hv:=oX h.slot WL.1;simp only[W5.xs]at hv;unfold E3 at h1;rw[jQ]at h1;split at h1
  .rename_i hc;simp only[aI]at h1;subst h1;refine⟨λid=>(.own id 0 xs.length,C' st.U id ⟨e,sz,xs.map (·.ev st.s)⟩),?_,λid P'=>?_⟩
   .simp only[Ze];rw[aq];rw[eT];intro y hy;rw[gM]at hy;obtain⟨x,hxx,rfl⟩:=hy;have hvx:=fH h.slot (hx x (by simp[W5.xs,hxx]));have:=eT.1 hc (x.ev cs.sf) (gM.2 ⟨x,hxx,rfl⟩);simp only[Ba,Nat.beq_eq]at this;simp[hvx.cells.length,hvx.stays,this]
   .have:=kx (d':=none) h hv (.inl ⟨rfl,rfl⟩) h2 P';simpa[bz]using this
  .cases h1
 case append e sz bytes xa xb=>
  obtain⟨m,h1,h2⟩:=hp _ hr;have ha:=fH h.slot (hx xa (by simp[W5.xs]));have hb:=fH h.slot (hx xb (by simp[W5.xs]));unfold EK at h1;split at h1
  .rename_i base WW src e1 e2;obtain⟨base',d',g1,g2,g3⟩:=CQ h.mem.live ha e1;obtain⟨src',g4,g5⟩:=CV h.mem.live hb e2;rw[jQ]at h1;split at h1
   .rename_i hc;simp only[aI]at h1;subst h1;refine⟨λid=>(.own id 0 (base'.length+src'.length),C' (bz st.U d') id ⟨e,sz,base'++src'⟩),?_,λid P'=>?_⟩
    .simp only[Ze,g1,g4];rw[aq (by rw[g2.length,g5.length];exact ye hc)]
    .have:=kx h (g2.append g5) g3 h2 P';simpa[g2.length,g5.length]using this
   .cases h1
  .cases h1
def AZ{r r' x x' q:V}{k sz:Nat}(hr:aA R r r')(hx:aA R x x')(h:ec r k sz x=some q):∃q',ec r' k sz x'=some q'/\aA R q q':=by
 unfold ec at h;split at h
 .rename_i hc;have hc':x'.cells.length=sz/\x'.stays=true:=⟨by rw[hx.cells.length];exact hc.1,by rw[hx.stays];exact hc.2⟩
  split at h
  .rename_i hd;simp only[aI]at h;subst h;refine⟨x',?_,hx⟩;unfold ec;rw[aq hc',aq ⟨hd.1,by rw[hr.cells.length];exact hd.2⟩]
  .rename_i hd;split at h
   .rename_i he;simp only[aI]at h;subst h;refine⟨_,?_,aA.agg (((hr.cells.take k).append hx.cells).append (hr.cells.drop (k+sz)))⟩;unfold ec;rw[aq hc',ao (by rw[hr.cells.length];exact hd),aq (by rw[hr.cells.length];exact he)]
   .cases h
 .cases h
def wD{dst:Option Nat}{sz:Nat}{xa xv:VX}{call:oy}{cs Yi:CS}{st:St}(WL:sC (.store sz xa xv)=true)(h:fY K fl R cs st)
 (hr:(Ew dst sz xa xv).f call fl cs=some Yi):∃Z',fI st.U sz (xa.ev st.s) (xv.ev st.s)=some Z'/\fY K fl R Yi ⟨aQ st.s dst (.WJ []),Z'⟩:=by
 simp only[sC,W5.xs,oe,List.all_nil,Bool.and_true,Ba]at WL;have ha:=fH h.slot WL.1;have hv:=fH h.slot WL.2;simp only[Ew,Fa]at hr;split at hr
 .rename_i id i0 c hptr;rw[hptr]at ha;simp only[aA]at ha;obtain⟨a,ha1,ha2⟩:=ha;rw[G4]at hr;split at hr
  .rename_i hf;split at hr
   .rename_i ob Xz;have hob':stF cs.U id=some ob:=Xz;obtain⟨WM,h1,h2⟩:=h.mem.live _ _ _ ha2 hob';split at hr
    .rename_i r hrr;obtain⟨r',h3,h4⟩:=h2.get hrr;split at hr
     .rename_i q hq;obtain⟨q',h5,h6⟩:=AZ h4 hv hq;simp only[aI]at hr;subst hr;refine⟨C' st.U a ⟨ob.elem,ob.sz,WM.set i0 q'⟩,?_,?_⟩
      .simp only[fI,ha1,h1,h3,h5]
      .have hm:=h.mem.write ha2 hob' (ye hf) (h2.set i0 h6);have hS:fY K fl R ⟨cs.s,oL none (some ⟨ob.elem,ob.sz,ob.rows.set i0 q⟩) id cs.U,cs.X8⟩ ⟨st.s,C' st.U a ⟨ob.elem,ob.sz,WM.set i0 q'⟩⟩:=
        ⟨h.slot,by simp only[ve];exact hm⟩
       exact hS.put aA.My
     .cases hr
    .cases hr
   .cases hr
  .cases hr
 .cases hr
variable {P:Program} {n:Nat}
def Le(R R':Nat->Nat->Prop):Prop:=∀a b,R a b->R' a b
def Le.refl(R:Nat->Nat->Prop):Le R R:=λ_ _ h=>h
def Le.trans{R R' R'':Nat->Nat->Prop}(h:Le R R')(h':Le R' R''):Le R R'':=λa b g=>h' a b (h a b g)
def wU(P:Program)(call:oy):Prop:=∀g args Zc X8 fl r,call g args Zc X8 fl=some r->∀(K:ag) (R:Nat->Nat->Prop) (U:ag) (args':List V),
 qo K fl R (stF Zc) X8 U->aN R args args'->ax P g args' U λv Z'=>∃R',Le R R'/\aA R' r.v v/\qo K fl R' (stF r.U) r.X8 Z'
def ax.drop{f:FuncId}{args:List V}{U:ag}{Post Post':V->ag->Prop}(h:ax P f args U Post)
 (hp:∀r Z',Post r Z'->∃Z0,aa Z0 Z'/\Post' r Z0):ax P f args U Post':=by
 refine⟨h.1,λI w WO hs hr=>(h.2 I w WO hs hr).mono ?_⟩;rintro e w' ⟨r,Z',Y',val,h1,h2,h3,h4,h5⟩;obtain⟨Z0,h6,h7⟩:=hp r Z' h2;exact⟨r,Z0,Y',val,h1,h7,h3,h4.drop h6,Wk.refl h6 r Y' _ _ _ val h4 h5⟩
section
variable {call:oy} {K:ag} {fl:Nat} {R:Nat->Nat->Prop} {cs Yi:CS} {st:St} {Q:St->Prop} {k:List It}
def tW{draw:Bool}{i:aD}(WL:rS i=true)(h:fY K fl R cs st)(hr:(tE draw i).f call fl cs=some Yi):
 (aZ st.s i.g=some true/\(lh draw i.dst i.op).f call fl cs=some Yi)\/(aZ st.s i.g=some false/\Yi=cs.put i.dst (.WJ [])):=by
 simp only[rS,Ba]at WL;unfold tE at hr;split at hr
 .rename_i hg;exact .inl ⟨by simp[hg,aZ],hr⟩
 .rename_i x b hg;have hx:=WL.2;simp only[hg]at hx;have hv:=fH h.slot hx;simp only[Io]at hr;split at hr
  .rename_i c hc;rw[hc,aA.nP]at hv;rw[G4]at hr;split at hr
   .rename_i hcb;simp only[aI]at hr;refine .inr ⟨?_,hr.symm⟩;simp only[hg,aZ,hv];cases c<;>cases b<;>simp_all
   .rename_i hcb;refine .inl ⟨?_,hr⟩;simp only[hg,aZ,hv];cases c<;>cases b<;>simp_all
  .rename_i hc;rw[hc]at hv;simp only[aA,aN]at hv;obtain⟨c',hv,rfl⟩:=hv;simp only[aI]at hr;exact .inr ⟨by simp only[hg,aZ,hv],hr.symm⟩
  .rename_i hc;rw[hc,aA.ln]at hv;simp only[aI]at hr;exact .inr ⟨by simp only[hg,aZ,hv],hr.symm⟩
  .cases hr
def EY{draw:Bool}{dst:Option Nat}{op:W5}(h:op=.bad\/(∃b x,op=.rngS b x)\/(∃x,op=.nxtS x)\/∃m xs,op=.more m xs/\bf op=4)(hr:(lh draw dst op).f call fl cs=some Yi):False:=by
 rcases h with rfl|⟨b,x,rfl⟩|⟨x,rfl⟩|⟨m,xs,rfl,hk⟩
 case inr.inr.inr=>cases m<;>simp[bf]at hk<;>simp[lh,kL,aF]at hr
 all_goals simp[lh,kL,aF]at hr
def uo(op:W5):bf op=0\/(∃fx xs,op=.call fx xs)\/(∃sz a x,op=.store sz a x)\/bf op=3\/(∃sz z x,op=.clear sz z x)\/(op=.bad\/(∃b x,op=.rngS b x)\/(∃x,op=.nxtS x)\/∃m xs,op=.more m xs/\bf op=4):=by
 cases op
 case more m xs=>cases m<;>simp[bf]
 all_goals simp[bf]
def LB(hc:wU P call){i:aD}{l:List aD}(WL:rS i=true)(h:fY K fl R cs st)(hr:(tE false i).f call fl cs=some Yi)
 (hk:∀R' Yy,Le R R'->fY K fl R' Yi Yy->ab P n (.ops l::k) Yy Q):ab P n (.ops (i::l)::k) st Q:=by
 have WN:sC i.op=true:=by simp only[rS,Ba]at WL;exact WL.1
 rcases tW WL h hr with⟨hw,hr⟩|⟨hw,rfl⟩
 .rcases uo i.op with h0|⟨fx,xs,h0⟩|⟨sz,a,x,h0⟩|h0|⟨sz,z,x,h0⟩|h0
  .obtain⟨v',h1,h2,h3⟩:=yC h0 WN h hr;exact ab.pure hw h1 h2 (hk R _ (Le.refl R) h3)
  .rw[h0]at hr WN;simp only[lh,JK]at hr;simp only[sC,W5.xs,oe,Ba]at WN;split at hr
   .rename_i f caps hf;have hfx:=fH h.slot WN.1.1;rw[hf]at hfx;simp only[aA]at hfx;obtain⟨caps',ZW,hcaps⟩:=hfx;generalize XH:call f (xs.map (·.ev cs.sf)++caps) cs.U cs.X8 fl=r at hr;cases r with
    |none=>simp[Dz]at hr
    |some r=>
     simp only[Dz,aI]at hr;refine ab.call hw h0 ZW (hc _ _ _ _ _ _ XH K R st.U _ h.mem ((oX h.slot WN.1.2).append hcaps)) ?_;rintro v Z' ⟨R',hle,hv,hm⟩;have hS:fY K fl R' ⟨cs.s,r.U,r.X8⟩ ⟨st.s,Z'⟩:=⟨λj=>aA.mono hle _ _ (h.slot j),hm⟩
     exact hk R' _ hle (hr▸hS.put hv)
   .cases hr
  .rw[h0]at hr WN;obtain⟨Z',h1,h2⟩:=wD WN h hr;exact ab.fI hw h0 h1 (hk R _ (Le.refl R) h2)
  .obtain⟨g',h1,h2⟩:=CN h0 WN h hr;refine ab.Ze hw h1 λid P'=>?_;obtain⟨R',h3,h4⟩:=h2 id P';exact hk R' _ h3 h4
  .rw[h0]at hr WN;simp only[lh,EA,FR]at hr;simp only[sC,W5.xs,oe,List.all_nil,Bool.and_true,Ba]at WN;have hx:=fH h.slot WN.1;split at hr
   .rename_i id off len P';rw[P']at hx;simp only[aA]at hx;obtain⟨a,ha1,ha2⟩:=hx;rw[G4]at hr;split at hr
    .rename_i hf;split at hr
     .rename_i ob Xz;have hob':stF cs.U id=some ob:=Xz;obtain⟨WM,g1,g2⟩:=h.mem.live _ _ _ ha2 hob';rw[G4]at hr;split at hr
      .rename_i XZ;simp only[Ba,Nat.beq_eq,Nat.ble_eq]at XZ;simp only[aI]at hr;refine ab.clear hw h0 ha1 g1 XZ.1 (by rw[g2.length];exact XZ.2) ?_;have hm:=h.mem.write ha2 hob' (ye hf) (((g2.take off).append (aN.replicate (eY (R:=R) z WN.2) len)).append (g2.drop (off+len)));have hS:fY K fl R ⟨cs.s,oL none (some ⟨ob.elem,ob.sz,ob.rows.take off++List.replicate len z++ob.rows.drop (off+len)⟩) id cs.U,cs.X8⟩
        ⟨st.s,C' st.U a ⟨ob.elem,ob.sz,WM.take off++List.replicate len z++WM.drop (off+len)⟩⟩:=⟨h.slot,by simp only[ve];exact hm⟩
       exact hk R _ (Le.refl R) (hr▸hS.put aA.My)
      .cases hr
     .cases hr
    .cases hr
   .cases hr
  .exact(EY h0 hr).elim
 .exact ab.u9 hw (hk R _ (Le.refl R) (h.put aA.My))
def RQ(hc:wU P call){i:aD}(WL:rS i=true)(h:fY K fl R cs st)(hr:(tE true i).f call fl cs=some Yi){K':St->Prop}
 (hk:∀R' Yy,Le R R'->fY K fl R' Yi Yy->K' Yy):T P i st K':=by
 have WN:sC i.op=true:=by simp only[rS,Ba]at WL;exact WL.1
 rcases tW WL h hr with⟨hw,hr⟩|⟨hw,rfl⟩
 .refine pZ hw ?_;rcases uo i.op with h0|⟨fx,xs,h0⟩|⟨sz,a,x,h0⟩|h0|⟨sz,z,x,h0⟩|h0
  .obtain⟨v',h1,h2,h3⟩:=yC h0 WN h hr;unfold TO;simp only[h0];exact⟨h1,v',h2,hk R _ (Le.refl R) h3⟩
  .rw[h0]at hr WN;rw[h0];simp only[lh,JK]at hr;simp only[sC,W5.xs,oe,Ba]at WN;split at hr
   .rename_i f caps hf;have hfx:=fH h.slot WN.1.1;rw[hf]at hfx;simp only[aA]at hfx;obtain⟨caps',ZW,hcaps⟩:=hfx;generalize XH:call f (xs.map (·.ev cs.sf)++caps) cs.U cs.X8 cs.X8=r at hr;cases r with
    |none=>simp[Ac]at hr
    |some r=>
     simp only[Ac,G4]at hr;split at hr
     .rename_i Xa;simp only[aI]at hr;refine⟨f,caps',r.v,ZW,λZ1 YR=>?_,hk R _ (Le.refl R) (hr▸h.put (eY r.v Xa))⟩;have hm0:qo Z1 cs.X8 R (stF cs.U) cs.X8 Z1:=⟨h.mem.dom,h.mem.live.sup YR,h.mem.inj,h.mem.fn,aa.refl _,λ_ _ c _ _ hcR _=>h.mem.dom c _ hcR⟩
      refine(hc _ _ _ _ _ _ XH Z1 R Z1 _ hm0 ((oX h.slot WN.1.2).append hcaps)).drop ?_;rintro v Z' ⟨R',hle,hv,hm⟩;exact⟨Z1,hm.lV,rj _ _ Xa hv,rfl⟩
     .cases hr
   .cases hr
  .rw[h0]at hr WN;rw[h0];obtain⟨Z',h1,h2⟩:=wD WN h hr;exact⟨Z',h1,hk R _ (Le.refl R) h2⟩
  .obtain⟨g',h1,h2⟩:=CN h0 WN h hr;unfold TO;simp only[h0];refine⟨g',h1,λid P'=>?_⟩;obtain⟨R',h3,h4⟩:=h2 id P';exact hk R' _ h3 h4
  .rw[h0]at hr;simp[lh,EA]at hr
  .exact(EY h0 hr).elim
 .exact vi hw (hk R _ (Le.refl R) (h.put aA.My))
def nY(draw:Bool)(m:Nat)(i:aD)(l:List aD):nM draw call fl (m+1) (i::l) cs=match(tE draw i).f call fl cs with
 |some Yi=>nM draw call fl m l Yi
 |none=>.bad:=by
 show(@Option.casesOn CS (λ_=>Out) ((tE draw i).f call fl cs) .bad (nM draw call fl m l))=_;cases (tE draw i).f call fl cs<;>rfl
def EP(hc:wU P call):∀(m:Nat) (l:List aD) (R:Nat->Nat->Prop) (cs:CS) (st:St),nM false call fl m l cs=.nx Yi->l.all rS=true->fY K fl R cs st->
 (∀R' Yy,Le R R'->fY K fl R' Yi Yy->ab P n k Yy Q)->ab P n (.ops l::k) st Q
 |0,_,_,_,_,h,_,_,_=>by cases h
 |m+1,[],R,cs,st,h,_,hs,hk=>by
  have h':Out.nx cs=.nx Yi:=h;simp only[Out.nx.injEq]at h';subst h';exact ab.ES (hk R st (Le.refl R) hs)
 |m+1,i::l,R,cs,st,h,WL,hs,hk=>by
  rw[nY]at h;simp only[oe,Ba]at WL;split at h
  .rename_i cs1 h1;refine LB hc WL.1 hs h1 λR' Yy hle WT=>?_;exact EP hc m l R' cs1 Yy h WL.2 WT λR'' st'' hle' hs''=>hk R'' st'' (hle.trans hle') hs''
  .cases h
def Nr(hc:wU P call){K':St->Prop}:∀(m:Nat) (l:List aD) (R:Nat->Nat->Prop) (cs:CS) (st:St),nM true call fl m l cs=.nx Yi->l.all rS=true->fY K fl R cs st->
 (∀R' Yy,Le R R'->fY K fl R' Yi Yy->K' Yy)->gX P K' l st
 |0,_,_,_,_,h,_,_,_=>by cases h
 |m+1,[],R,cs,st,h,_,hs,hk=>by
  have h':Out.nx cs=.nx Yi:=h;simp only[Out.nx.injEq]at h';subst h';exact hk R st (Le.refl R) hs
 |m+1,i::l,R,cs,st,h,WL,hs,hk=>by
  rw[nY]at h;simp only[oe,Ba]at WL;split at h
  .rename_i cs1 h1;refine RQ hc WL.1 hs h1 λR' Yy hle WT=>?_;exact Nr hc m l R' cs1 Yy h WL.2 WT λR'' st'' hle' hs''=>hk R'' st'' (hle.trans hle') hs''
  .cases h
end
def Gl(P:Program)(n:Nat)(K:ag)(fl:Nat)(R:Nat->Nat->Prop)(k:List It)(Q:St->Prop):Out->Prop
 |.nx cs=>∀R' st,Le R R'->fY K fl R' cs st->ab P n k st Q
 |.ex id cs=>∃k',jB id k=some k'/\∀R' st,Le R R'->fY K fl R' cs st->ab P n k' st Q
 |.rt cs=>∀R' st,Le R R'->fY K fl R' cs st->Q st
 |.bad=>False
def Gl.le{K:ag}{fl:Nat}{R R':Nat->Nat->Prop}{k:List It}{Q:St->Prop}{o:Out}(h:Gl P n K fl R k Q o)(hle:Le R R'):Gl P n K fl R' k Q o:=by
 cases o
 case bad=>exact h
 case ex=>obtain⟨k',h1,h2⟩:=h;exact⟨k',h1,λR'' st h3 h4=>h2 R'' st (hle.trans h3) h4⟩
 all_goals exact λR'' st h3 h4=>h R'' st (hle.trans h3) h4
def vD(P:Program)(code:FuncId->Option WD):Prop:=∀g vf,code g=some vf->dZ P g=true/\PS vf=true/\∃fn,P.funcs[g]?=some fn/\cfn P fn=some vf
def LOk(P:Program)(code:FuncId->Option WD)(fuel:Nat):Prop:=∀(n:Nat) (K:ag) (fl:Nat) (R:Nat->Nat->Prop) (c:bG) (cs:CS) (st:St) (k:List It) (Q:St->Prop),
 jk c=true->fY K fl R cs st->Gl P n K fl R k Q (evL code fuel fl c cs)->ab P n (.code c::k) st Q
def Fj(i:Nat):∀(l:List V) (k:Nat) (t:Tr V),nD (.WJ []) i (Tr.ofL l k t)=if k<=i/\i<k+l.length then l.getD (i-k) (.WJ [])else nD (.WJ []) i t
 |[],k,t=>by simp[Tr.ofL];intro h1 h2;omega
 |v::l,k,t=>by
  rw[Tr.ofL,Fj i l (k+1),qW];simp only[XX];by_cases h1:i=k
  .subst h1;rw[ao (by omega),aq rfl,aq (by omega)];simp
  .by_cases h2:k+1<=i/\i<k+1+l.length
   .rw[aq h2,aq (by omega),show i-k=(i-(k+1))+1 by omega];simp
   .rw[ao h2,ao h1,ao (by omega)]
def DA{K:ag}{fl:Nat}{R:Nat->Nat->Prop}{cs:CS}{st:St}(h:fY K fl R cs st){r:VR}(WL:FD r=true){v:V}(hv:gE ⟨cs.sf,stF cs.U⟩ r=some v):
 ∃v',gE st r=some v'/\aA R v v':=by
 cases r<;>simp only[gE,reduceCtorEq,aI]at hv|-
 case tmp x=>subst hv;exact⟨_,rfl,fH h.slot WL⟩
 case cell agg sz x=>exact yX h.mem.live (fH h.slot WL) hv
def xA{K:ag}{fl:Nat}{R:Nat->Nat->Prop}{cs:CS}{st:St}(h:fY K fl R cs st):∀{l:List VR},l.all FD=true->∀{vs:List V},eJ ⟨cs.sf,stF cs.U⟩ l=some vs->
 ∃vs',eJ st l=some vs'/\aN R vs vs'
 |[],_,vs,hv=>by simp only[eJ,aI]at hv;subst hv;exact⟨[],rfl,by simp[aN]⟩
 |r::l,WL,vs,hv=>by
  simp only[oe,Ba]at WL;simp only[eJ]at hv;split at hv
  .rename_i v h1;split at hv
   .rename_i us h2;simp only[aI]at hv;subst hv;obtain⟨v',g1,g2⟩:=DA h WL.1 h1;obtain⟨us',g3,g4⟩:=xA h WL.2 h2;exact⟨v'::us',by simp[eJ,g1,g3],aN.cq.2 ⟨v',us',rfl,g2,g4⟩⟩
   .cases hv
  .cases hv
def Kj{K:ag}{fl:Nat}{R:Nat->Nat->Prop}{cs:CS}{st:St}(h:fY K fl R cs st){l:List VR}(WL:l.all FD=true){v:V}(hv:oN ⟨cs.sf,stF cs.U⟩ l=some v):
 ∃v',oN st l=some v'/\aA R v v':=by
 unfold oN at hv;cases hr:eJ ⟨cs.sf,stF cs.U⟩ l with
 |none=>simp[hr]at hv
 |some vs=>
  obtain⟨vs',g1,g2⟩:=xA h WL hr;rw[hr]at hv;unfold oN;rw[g1]
  match vs,hv,g2 with
  |[],hv,g2=>
   rw[aN.jr]at g2;subst g2;simp only[aI]at hv;subst hv;exact⟨_,rfl,by simp[aA,aN]⟩
  |[u],hv,g2=>
   obtain⟨x,xs,rfl,g3,g4⟩:=aN.cq.1 g2;rw[aN.jr]at g4;subst g4;simp only[aI]at hv;subst hv;exact⟨_,rfl,g3⟩
  |u1::u2::us,hv,g2=>
   obtain⟨x,xs,rfl,g3,g4⟩:=aN.cq.1 g2;obtain⟨y,ys,rfl,g5,g6⟩:=aN.cq.1 g4;simp only[aI]at hv;subst hv;exact⟨_,rfl,by simp only[aA];exact⟨_,rfl,g2⟩⟩
def AB{code:FuncId->Option WD}(hcode:vD P code){fuel:Nat}(ih:LOk P code fuel):wU P (evF (evL code fuel) code):=by
 intro g args Zc X8 fl r hr K R U args' hm XA;unfold evF at hr;split at hr
 .cases hr
 .rename_i vf hvf;rw[jQ]at hr;split at hr
  .rename_i hlen;obtain⟨XH,WL,fn,hf,hcf⟩:=hcode g vf hvf;simp only[PS,Ba]at WL;have hlen':=ye hlen;refine ax.jX hf hcf XH (by rw[XA.length];exact hlen') ?_;have hs:fY K fl R ⟨Tr.ofL args 0 .e,Zc,X8⟩ ⟨ft args',U⟩:=by
    refine⟨λi=>?_,hm⟩;show aA R (nD (.WJ []) i (Tr.ofL args 0 .e)) (args'.getD i (.WJ []));rw[Fj,P8];by_cases hi:i<args.length
    .rw[aq ⟨Nat.zero_le _,by omega⟩,Nat.sub_zero];obtain⟨u,h1,h2⟩:=XA.get (ZF hi);simp only[pW,h1,ZF hi,Option.getD_some];exact h2
    .rw[ao (by omega)];have:args'[i]?=none:=oE (by rw[XA.length];omega);simp only[pW,this,Option.getD_none];simp[aA,aN]
   have XL:∀Yi,LG vf.res Yi=some r->∀R' st,Le R R'->fY K fl R' Yi st->Ret vf.res st λv Z'=>∃R',Le R R'/\aA R' r.v v/\qo K fl R' (stF r.U) r.X8 Z':=by
    intro Yi hq R' st hle WT;unfold LG at hq;split at hq
    .rename_i v hv;simp only[aI]at hq;subst hq;obtain⟨v',g1,g2⟩:=Kj WT WL.2 hv;exact⟨v',v',st.U,g1,aa.refl _,Wk.refl (aa.refl _) _,R',hle,g2,WT.mem⟩
    .cases hq
   refine ih vf.n K fl R vf.code _ _ [] _ WL.1 hs ?_;generalize evL code fuel fl vf.code ⟨Tr.ofL args 0 .e,Zc,X8⟩=o at hr;cases o<;>simp only[RM,reduceCtorEq]at hr
   .exact λR' st hle WT=>ab.nil (XL _ hr R' st hle WT)
   .exact λR' st hle WT=>XL _ hr R' st hle WT
  .cases hr
def BX(code:FuncId->Option WD)(f fl:Nat)(c:bG)(cs:CS):evL code (f+1) fl c cs=match c with
 |.skip=>.nx cs
 |.Za draw l=>Is draw (evF (evL code f) code) fl l cs
 |.seq a b=>Hn (evL code f fl a cs) λYi=>evL code f fl b Yi
 |.cond c a b=>onB (c.ev cs.sf) (evL code f fl a cs) (evL code f fl b cs)
 |.block id a=>OW id (evL code f fl a cs)
 |.loop a=>Hn (evL code f fl a cs) λYi=>evL code f fl (.loop a) Yi
 |.exit id=>.ex id cs
 |.ret=>.rt cs
 |.ej ..=>.bad
 |.regA ..=>.bad
 |.uM ..=>.bad
 |.bad=>.bad:=rfl
def Bb{draw:Bool}{call:oy}{fl:Nat}:∀(m:Nat) (l:List aD) (cs:CS),(∃Yi,nM draw call fl m l cs=.nx Yi)\/nM draw call fl m l cs=.bad
 |0,_,_=>.inr rfl
 |m+1,[],cs=>.inl ⟨cs,rfl⟩
 |m+1,i::l,cs=>by
  rw[nY];split
  .exact Bb m l _
  .exact .inr rfl
def Q8{code:FuncId->Option WD}(hcode:vD P code):∀fuel,LOk P code fuel:=by
 intro fuel
 induction fuel using Nat.strongRecOn with
 |_ fuel ih=>
  intro n K fl R c cs st k Q WL hs Xb;cases fuel with
  |zero=>exact Xb.elim
  |succ f=>
   have ihf:=ih f (by omega);rw[BX]at Xb;cases c with
   |skip=>exact ab.skip (Xb R st (Le.refl R) hs)
   |Za draw l=>
    simp only[jk]at WL;simp only[Is]at Xb;rcases Bb (draw:=draw) (call:=evF (evL code f) code) (fl:=fl) 1000 l cs with⟨Yi,he⟩|he
    .rw[he]at Xb;cases draw
     .exact ab.region (EP (AB hcode ihf) 1000 l R cs st he WL hs Xb)
     .exact ab.E0 (Nr (AB hcode ihf) 1000 l R cs st he WL hs Xb)
    .rw[he]at Xb;exact Xb.elim
   |seq a b=>
    simp only[jk,Ba]at WL;refine ab.seq (ihf n K fl R a cs st _ Q WL.1 hs ?_);simp only[Hn]at Xb;generalize evL code f fl a cs=o at Xb;cases o with
    |nx cs1=>exact λR1 st1 hle1 YR=>ihf n K fl R1 b cs1 st1 k Q WL.2 YR (Xb.le hle1)
    |ex id cs1=>exact Xb
    |rt cs1=>exact Xb
    |bad=>exact Xb
   |cond c a b=>
    simp only[jk,Ba]at WL;have hv:=fH hs.slot WL.1;have Xb:Gl P n K fl R k Q (onB (c.ev cs.sf) (evL code f fl a cs) (evL code f fl b cs)):=Xb;unfold onB at Xb;split at Xb
    .rename_i t ht;rw[ht,aA.nP]at hv;refine ab.cond hv (λe=>?_) (λe=>?_)
     .subst e;exact ihf n K fl R a cs st k Q WL.2.1 hs Xb
     .subst e;exact ihf n K fl R b cs st k Q WL.2.2 hs Xb
    .exact Xb.elim
   |block id a=>
    simp only[jk]at WL;refine ab.block (ihf n K fl R a cs st _ Q WL hs ?_);simp only[OW]at Xb;generalize evL code f fl a cs=o at Xb;cases o with
    |nx cs1=>exact λR1 st1 hle1 YR=>ab.inBlock (Xb R1 st1 hle1 YR)
    |ex j cs1=>
     simp only[G4]at Xb;by_cases hj:j=id
     .subst hj;rw[aq (by rw[Nat.beq_eq])]at Xb;exact⟨k,by simp[jB],Xb⟩
     .rw[ao (by rw[Nat.beq_eq];exact hj)]at Xb;obtain⟨k',h1,h2⟩:=Xb;exact⟨k',by simp[jB,hj,h1],h2⟩
    |rt cs1=>exact Xb
    |bad=>exact Xb
   |loop a=>
    have hok':=WL;simp only[jk]at WL;have ZK:Gl P n K fl R k Q (evL code (f+1) fl (.loop a) cs):=Xb;generalize ho:evL code (f+1) fl (.loop a) cs=o at ZK;refine ab.loop (λm st=>m<=f+1/\∃R1 cs1,Le R R1/\fY K fl R1 cs1 st/\evL code m fl (.loop a) cs1=o) (f+1) ⟨Xm _,R,cs,Le.refl R,hs,ho⟩ ?_;rintro m st1 ⟨hm,R1,cs1,hle1,YR,ho1⟩;cases m with
    |zero=>
     have:o=.bad:=ho1.symm;rw[this]at ZK;exact ZK.elim
    |succ m=>
     have ihm:=ih m (by omega);rw[BX]at ho1;refine ihm n K fl R1 a cs1 st1 _ Q WL YR ?_;simp only[Hn]at ho1;generalize evL code m fl a cs1=o1 at ho1;cases o1 with
     |nx cs2=>exact λR2 ZZ hle2 ZM=>ab.stop ⟨m,by omega,by omega,R2,cs2,hle1.trans hle2,ZM,ho1⟩
     |ex id cs2=>
      have ho1:Out.ex id cs2=o:=ho1;rw[<-ho1]at ZK;obtain⟨k',h1,h2⟩:=ZK;exact⟨k',by simpa[jB]using h1,λR2 ZZ hle2 ZM=>h2 R2 ZZ (hle1.trans hle2) ZM⟩
     |rt cs2=>
      have ho1:Out.rt cs2=o:=ho1;rw[<-ho1]at ZK;exact λR2 ZZ hle2 ZM=>ZK R2 ZZ (hle1.trans hle2) ZM
     |bad=>
      have ho1:Out.bad=o:=ho1;rw[<-ho1]at ZK;exact ZK.elim
   |exit id=>
    obtain⟨k',h1,h2⟩:=Xb;exact ab.exit h1 (h2 R st (Le.refl R) hs)
   |ret=>exact ab.ret (Xb R st (Le.refl R) hs)
   |ej g ps a b=>exact Xb.elim
   |regA l W2=>exact Xb.elim
   |uM l e=>exact Xb.elim
   |bad=>exact Xb.elim
def Au(g:V->V->Bool):List V->List V->Bool
 |[],[]=>true
 |v::vs,u::us=>g v u&&Au g vs us
 |_,_=>false
def fzB:Nat->Tr (Option Ob)->V->V->Bool
 |0,_,_,_=>false
 |f+1,U,v,u=>match v with
  |.own id off len=>match u with
   |.sl sz rows=>match nD none id U with
    |some ob=>Nat.beq ob.sz sz&&(Nat.ble (off+len) ob.rows.length&&Au (fzB f U) ((ob.rows.drop off).take len) rows)
    |none=>false
   |_=>false
  |.ay=>match u with
   |.sl _ rows=>rows.isEmpty
   |.ay=>true
   |_=>false
  |.sl sz rows=>match u with
   |.sl sz' WM=>Nat.beq sz sz'&&Au (fzB f U) rows WM
   |_=>false
  |.agg cs=>match u with
   |.agg ds=>Au (fzB f U) cs ds
   |_=>false
  |.WJ cs=>match u with
   |.WJ ds=>Au (fzB f U) cs ds
   |_=>false
  |.int k n=>match u with
   |.int k' n'=>eqK k k'&&eqQ n n'
   |_=>false
  |.bool b=>match u with
   |.bool b'=>b==b'
   |_=>false
  |.str b=>match u with
   |.str b'=>decide (b=b')
   |_=>false
  |.XY=>match u with
   |.XY=>true
   |_=>false
  |_=>false
def LW{a b:Int}(h:eqQ a b=true):a=b:=by
 cases a<;>cases b<;>simp only[eqQ,fG]at h
 .rw[MS h]
 .rw[MS h]
def Iy{R:Nat->Nat->Prop}{Zt:Tr (Option Ob)}{U:ag}(hm:Lv R (stF Zt) U):∀(f:Nat) (v u v':V),fzB f Zt v v'=true->aA R v u->Fz U (λa=>∃c o,R c a/\stF Zt c=some o) u v'
 |0,_,_,_,h,_=>by simp[fzB]at h
 |f+1,v,u,v',h,hr=>by
  have hL:∀(vs us out:List V),Au (fzB f Zt) vs out=true->aN R vs us->YX U (λa=>∃c o,R c a/\stF Zt c=some o) us out:=by
   intro vs
   induction vs with
   |nil=>
    intro us out h1 h2;rw[aN.jr]at h2;subst h2;cases out with
    |nil=>exact .nil
    |cons a b=>simp[Au]at h1
   |cons a vs ih=>
    intro us out h1 h2;obtain⟨b,bs,rfl,h3,h4⟩:=aN.cq.1 h2;cases out with
    |nil=>simp[Au]at h1
    |cons c cs=>
     simp only[Au,Ba]at h1;exact .cons _ _ _ _ (Iy hm f _ _ _ h1.1 h3) (ih _ _ h1.2 h4)
  have Xa:v.eL=true->v'=v->Fz U (λa=>∃c o,R c a/\stF Zt c=some o) u v':=λh1 h2=>by
   have:=rj v u h1 hr;rw[this,h2];exact .same v h1
  simp only[fzB]at h;cases v<;>simp only[fG]at h
  case own id off len=>
   split at h
   .split at h
    .rename_i ob Xz;simp only[Ba]at h;obtain⟨h1,h2,h3⟩:=h;simp only[aA]at hr;obtain⟨YQ,rfl,hR⟩:=hr;obtain⟨WM,g1,g2⟩:=hm _ YQ ob hR Xz;have:=hL _ _ _ h3 ((g2.drop _).take _);rw[<-MS h1];exact .own YQ _ _ ⟨ob.elem,ob.sz,WM⟩ _ g1 ⟨_,ob,hR,Xz⟩ (by rw[g2.length];exact ye h2) this
    .cases h
   .cases h
  case ay=>
   split at h
   .rename_i sz rows;simp only[aA]at hr;subst hr;have:rows=[]:=by simpa using h
    subst this;exact .nil _
   .exact Xa rfl rfl
   .cases h
  case sl sz rows=>
   split at h
   .simp only[Ba]at h;simp only[aA]at hr;obtain⟨WM,rfl,hr⟩:=hr;rw[<-MS h.1];exact .sl _ _ _ (hL _ _ _ h.2 hr)
   .cases h
  case agg cs=>
   split at h
   .simp only[aA]at hr;obtain⟨es,rfl,hr⟩:=hr;exact .agg _ _ (hL _ _ _ h hr)
   .cases h
  case WJ cs=>
   split at h
   .simp only[aA]at hr;obtain⟨es,rfl,hr⟩:=hr;exact .WJ _ _ (hL _ _ _ h hr)
   .cases h
  case int k n=>
   split at h
   .simp only[Ba]at h;refine Xa rfl ?_;rw[LW h.2,of_decide_eq_true h.1]
   .cases h
  case bool b=>
   split at h
   .refine Xa rfl ?_;rw[eq_of_beq h]
   .cases h
  case str b=>
   split at h
   .refine Xa rfl ?_;rw[of_decide_eq_true h]
   .cases h
  case XY=>
   split at h
   .exact Xa rfl rfl
   .cases h
def Jq(code:FuncId->Option WD)(fuel:Nat)(f:FuncId)(args:List V)(v:V):Bool:=match evF (evL code fuel) code f args .e 0 0 with
 |some r=>fzB 10 r.U r.v v
 |none=>false
def aK.vE{P:Program}{code:FuncId->Option WD}(hcode:vD P code){fuel:Nat}{f:FuncId}{args:List V}{v:V}(ha:gA args=true)
 (h:Jq code fuel f args v=true):aK P f args v:=by
 intro U;unfold Jq at h;split at h
 .rename_i r hr;have hm:qo U 0 (λ_ _=>False) (stF .e) 0 U:=⟨λ_ _ h=>h.elim,λ_ _ _ h=>h.elim,λ_ _ _ _ _ h=>h.elim,λ_ _ _ h=>h.elim,aa.refl U,λ_ _ _ _ _ h=>h.elim⟩
  refine(AB hcode (Q8 hcode fuel) f args .e 0 0 r hr U _ U args hm (fV args ha)).Gh ?_;rintro u Z' ⟨R',_,h1,h2⟩;refine⟨v,U,h2.lV,(Iy h2.live 10 r.v u v h h1).wk h2.lV ?_,rfl,rfl⟩;rintro a ⟨c,o,hc,ho⟩;cases hk:U a with
  |none=>rfl
  |some x=>have:=h2.kfl a x c o hk hc ho;omega
 .cases h
open Go.Proofs Go.Proofs.Tryz
def cdF(P:Program)(l:List Nat)(f:FuncId):Option WD:=
 if l.contains f then(P.funcs[f]?).bind λfn=>(cfn P fn).bind λvf=>if dZ P f&&PS vf then some vf else none else none
def Ro(P:Program)(l:List Nat):vD P (cdF P l):=by
 intro g vf h;unfold cdF at h;split at h
 .simp only[SF]at h;obtain⟨fn,h1,vf',h2,h3⟩:=h;split at h3
  .rename_i h4;simp only[Ba]at h4;simp only[aI]at h3;subst h3;exact⟨h4.1,h4.2,fn,h1,h2⟩
  .cases h3
 .cases h
def Tj:List Nat:=[20,38,39,77,78,79,80,81,136,137,138,139,192,193,194,195,196,245]
noncomputable def U9:FuncId->Option WD:=cdF prog Tj
def rE:vD prog U9:=Ro _ _
open Go.Proofs Go.Proofs.Tryz
def Ti:YA:=⟨0,0,0,0,0,0,0,0,0,0,0,0⟩
def Iv(n:Int):Nd:=⟨1,n,⟨0,0,0,0,0,1,1,0,0,0,0,0⟩,0,0,[],0,0,0⟩
def Ik(ws:List Int):Nd:=⟨2,1,Ti,10,0,ws,0,0,0⟩
def zS:List Nd:=[Iv 2,Ik [5,5,5]]
def SW:List Nd:=[Iv 2,Ik [5,5,5],⟨3,1,Ti,0,0,[],0,3,4⟩]
def R8:List Nd:=[Iv 2,Ik [5,5,6]]
def RO:List Nd:=[Iv 2,Ik [5,6,5]]
def RX:List Nd:=[Iv 2,Ik [5,5,5,5]]
set_option maxRecDepth 1000000
def SO:aK prog 20 [.str [91,111,49,119,49,32,40,49,48,32,48,32,53,32,53,32,53,41,93]] (.WJ [aC zS,vI 0,vI 0]):=aK.vE (fuel:=3000) rE rfl (by kernel_rfl)
def SA:aK prog 20 [.str [91,111,49,119,49,32,40,49,48,32,48,32,53,32,53,32,53,41,93,123,51,32,52,125]] (.WJ [aC SW,vI 0,vI 0]):=aK.vE (fuel:=3000) rE rfl (by kernel_rfl)
def SU:aK prog 20 [.str [91,111,49,119,49,32,40,49,48,32,48,32,53,32,53,32,54,41,93]] (.WJ [aC R8,vI 0,vI 0]):=aK.vE (fuel:=3000) rE rfl (by kernel_rfl)
def Sc:aK prog 20 [.str [91,111,49,119,49,32,40,49,48,32,48,32,53,32,54,32,53,41,93]] (.WJ [aC RO,vI 0,vI 0]):=aK.vE (fuel:=3000) rE rfl (by kernel_rfl)
def Te:aK prog 20 [.str [91,111,49,119,49,32,40,49,48,32,48,32,53,32,53,32,53,32,53,41,93]] (.WJ [aC RX,vI 0,vI 0]):=aK.vE (fuel:=3000) rE rfl (by kernel_rfl)
open Go.Proofs Go.Proofs.Tryz
def wc(s:List UInt8)(l:List Nd)(x y:V)(Ya:aK prog 20 [.str s] (.WJ [aC l,x,y])):aK prog 67 [.str s] (aC l):=λU=>by
 refine e67.r (by simp[c67]) ?_;refine ab.mix 6 ?_;apply sR;simp only[go_sem,seval,c67];refine ab.au rfl rfl rfl (Ya _) ?_;apply sR;simp only[go_sem,seval];exact ak.same rfl
def rJ(a:aK prog 67 [.str [91,111,49,119,49,32,40,49,48,32,48,32,53,32,53,32,53,41,93]] (aC zS))(s:List UInt8)(l:List Nd)(hl:cT l)(k:aK prog 67 [.str s] (aC l))(n:Int)
 (h1:iK zS l 8 20=0)(h2:(jO (aP zS 8 20) (aP l 8 20):Int)=n):aK prog 33 [.str s,vI n] (.bool true):=λU=>by
 refine e33.r (by simp[c33]) ?_;have hc:=ET zS l ⟨by decide,by decide⟩ hl 8 20;rw[aq h1,h1]at hc;have q:(((jO (aP zS 8 20) (aP l 8 20):Nat):Int)=n)=True:=WE h2;generalize jO (aP zS 8 20) (aP l 8 20)=M at*;generalize zS=D at*;refine ab.mix 7 ?_;apply sR;simp only[go_sem,seval,c33];refine ab.au rfl rfl rfl (a _) ?_;apply sR;simp only[go_sem,seval];refine ab.au rfl rfl rfl (k _) ?_;apply sR;simp only[go_sem,seval];refine ab.au rfl rfl rfl (hc _) ?_;apply sR;simp only[go_sem,seval,q];exact ak.same rfl
def Od:aK prog 17 [] (.bool true):=λU=>by
 refine e17.r (by simp[c17]) ?_;have a:=wc _ _ _ _ SO;have k1:=rJ a _ zS ⟨by decide,by decide⟩ a 2 (by kernel_rfl) (by kernel_rfl);have k2:=rJ a _ SW ⟨by decide,by decide⟩ (wc _ _ _ _ SA) 1 (by kernel_rfl) (by kernel_rfl);have k3:=rJ a _ R8 ⟨by decide,by decide⟩ (wc _ _ _ _ SU) 0 (by kernel_rfl) (by kernel_rfl);have k4:=rJ a _ RO ⟨by decide,by decide⟩ (wc _ _ _ _ Sc) 0 (by kernel_rfl) (by kernel_rfl);have k5:=rJ a _ RX ⟨by decide,by decide⟩ (wc _ _ _ _ Te) 1 (by kernel_rfl) (by kernel_rfl);clear a;refine ab.mix 1 ?_;apply sR;simp only[go_sem,seval,c17];refine ab.au rfl rfl rfl (k1 _) ?_;apply sR;simp only[go_sem,seval];refine ab.au rfl rfl rfl (k2 _) ?_;apply sR;simp only[go_sem,seval];refine ab.au rfl rfl rfl (k3 _) ?_;apply sR;simp only[go_sem,seval];refine ab.au rfl rfl rfl (k4 _) ?_;apply sR;simp only[go_sem,seval];refine ab.au rfl rfl rfl (k5 _) ?_;apply sR;simp only[go_sem,seval];exact ak.same rfl
def za:∀(U:ag) (i:Nat) (h:i<([]:List Xd).length),bp U 5 .ay (.int .i64 i)=some (.rp (aL ([]:List Xd)[i])):=λ_ i h=>absurd h (by simp)
open Go.RowKit
variable {P:Program} {n:Nat} {st:St} {Q:St->Prop} {k:List It} {I:Mu} {w:World}
def JL(c:IntKind)(m:Int):Value->Bool
 |.int c' m'=>decide (c'=c/\m'=m)
 |_=>false
def j9{c:IntKind}{m m':Int}:JL c m (.int c m')=decide (m'=m):=by simp[JL]
def fX(c:IntKind)(m:Int):List MapEntry->List V->Option V
 |e::es,v::vs=>if JL c m e.key then some v else fX c m es vs
 |_,_=>none
structure oF(c:IntKind)(es:List MapEntry)(env:List V)(f:Int->Option V):Prop where
 len:es.length=env.length
 keys:∀e∈es,∃m,e.key=.int c m
 get:∀m,fX c m es env=f m
 apart:es.Pairwise λa b=>a.key≠b.key
def lT(c:IntKind)(U:ag)(id:Nat)(f:Int->Option V):Prop:=
 ∃(es:Array MapEntry) (clock:Nat) (env:List V),U id=some (gh (.map es clock) env)/\oF c es.toList env f
def lT.sub{c:IntKind}{U Z':ag}{id:Nat}{f:Int->Option V}(h:lT c U id f)(hs:aa U Z'):lT c Z' id f:=by
 obtain⟨es,clock,env,h1,h2⟩:=h;exact⟨es,clock,env,hs _ _ h1,h2⟩
def lT.ne{c:IntKind}{U:ag}{id j:Nat}{f:Int->Option V}{e:TypeId}{sz:Nat}{rows:List V}(h:lT c U id f)(hj:U j=some ⟨e,sz,rows⟩)(hz:sz≠0):j≠id:=by
 rintro rfl;obtain⟨es,clock,env,h1,_⟩:=h;rw[h1]at hj;simp only[gh,aI,Ob.mk.injEq]at hj;exact hz hj.2.1.symm
def wg(c:IntKind)(kk:IntKind)(m:Int):∀(es:List MapEntry) (env:List V) (i:Nat),es.length=env.length->(∀e∈es,∃m,e.key=.int c m)->
 (fX c m es env=none/\Instr.findNow (.int kk) (.int c m) es i=some none/\∀e∈es,e.key≠.int c m)\/
 (∃j e v,es[j]?=some e/\env[j]?=some v/\e.key=.int c m/\fX c m es env=some v/\Instr.findNow (.int kk) (.int c m) es i=some (some (i+j,e.val)))
 |[],env,i,_,_=>.inl ⟨by simp[fX],by simp[Instr.findNow],by simp⟩
 |e::es,[],i,hl,_=>by simp at hl
 |e::es,v::vs,i,hl,hk=>by
  obtain⟨m',hm'⟩:=hk e (by simp);by_cases hm:m'=m
  .subst hm;refine .inr ⟨0,e,v,rfl,rfl,hm',by simp[fX,hm',j9],?_⟩;simp[Instr.findNow,Instr.sameNow,hm']
  .have hmm:¬m=m':=λe=>hm e.symm;have hg:fX c m (e::es) (v::vs)=fX c m es vs:=by simp[fX,hm',j9,hm]
   have hf:Instr.findNow (.int kk) (.int c m) (e::es) i=Instr.findNow (.int kk) (.int c m) es (i+1):=by
    have hb:(m==m')=false:=by simpa using hmm
    simp[Instr.findNow,Instr.sameNow,hm',hb]
   rcases wg c kk m es vs (i+1) (by simpa using hl) (λx hx=>hk x (by simp[hx]))with⟨h1,h2,h3⟩|⟨j,e',v',h1,h2,h3,h4,h5⟩
   .refine .inl ⟨by rw[hg,h1],by rw[hf,h2],λx hx=>?_⟩;rcases db.1 hx with rfl|hx
    .rw[hm'];intro e;cases e;exact hm rfl
    .exact h3 x hx
   .refine .inr ⟨j+1,e',v',by simpa using h1,by simpa using h2,h3,by rw[hg,h4],?_⟩;rw[hf,h5,show i+1+j=i+(j+1) by omega]
def wE{c:IntKind}{m:Int}{v:V}{e':MapEntry}(he':e'.key=.int c m)(m':Int):∀(es:List MapEntry) (env:List V) (j:Nat) (e:MapEntry),es.length=env.length->(∀e∈es,∃m,e.key=.int c m)->
 es.Pairwise (λa b=>a.key≠b.key)->es[j]?=some e->e.key=.int c m->fX c m' (es.set j e') (env.set j v)=if m'=m then some v else fX c m' es env
 |[],_,j,e,_,_,_,h,_=>by simp at h
 |x::es,[],j,e,hl,_,_,_,_=>by simp at hl
 |x::es,u::us,0,e,hl,hk,hp,h,he=>by
  simp at h;subst h;simp only[List.set_cons_zero,fX,he',he,j9];by_cases hm:m'=m
  .subst hm;simp
  .have:¬m=m':=λe=>hm e.symm;simp[hm,this]
 |x::es,u::us,j+1,e,hl,hk,hp,h,he=>by
  obtain⟨mx,hmx⟩:=hk x (by simp);have hpx:=(List.pairwise_cons.1 hp)
  have W6:mx≠m:=by
   rintro rfl;exact hpx.1 e (yk (by simpa using h)) (by rw[hmx,he])
  have ih:=wE he' m' (v:=v) es us j e (by simpa using hl) (λy hy=>hk y (by simp[hy])) hpx.2 (by simpa using h) he;simp only[List.set_cons_succ,fX,hmx,j9];by_cases hm:mx=m'
  .have:¬m'=m:=λe=>W6 (hm.trans e);simp[hm,this]
  .simp only[hm,decide_false,fG,if_false];exact ih
def uC{c:IntKind}{m:Int}{v:V}{e':MapEntry}(he':e'.key=.int c m)(m':Int):∀(es:List MapEntry) (env:List V),es.length=env.length->(∀e∈es,∃m,e.key=.int c m)->
 (∀e∈es,e.key≠.int c m)->fX c m' (es++[e']) (env++[v])=if m'=m then some v else fX c m' es env
 |[],[],_,_,_=>by
  simp only[j6,fX,he',j9];by_cases hm:m'=m
  .subst hm;simp
  .have:¬m=m':=λe=>hm e.symm;simp[hm,this]
 |[],_::_,hl,_,_=>by simp at hl
 |x::es,[],hl,_,_=>by simp at hl
 |x::es,u::us,hl,hk,hn=>by
  obtain⟨mx,hmx⟩:=hk x (by simp);have W6:mx≠m:=by
   rintro rfl;exact hn x (by simp) hmx
  have ih:=uC he' m' (v:=v) es us (by simpa using hl) (λy hy=>hk y (by simp[hy])) (λy hy=>hn y (by simp[hy]));simp only[List.cons_append,fX,hmx,j9];by_cases hm:mx=m'
  .have:¬m'=m:=λe=>W6 (hm.trans e);simp[hm,this]
  .simp only[hm,decide_false,fG,if_false];exact ih
def oF.set{c:IntKind}{es:List MapEntry}{env:List V}{f:Int->Option V}(h:oF c es env f){m:Int}{v:V}{j:Nat}{e e':MapEntry}(hj:es[j]?=some e)(he:e.key=.int c m)(he':e'.key=.int c m):
 oF c (es.set j e') (env.set j v) λm'=>if m'=m then some v else f m' where
 len:=by simp[h.len]
 keys:=λx hx=>by
  rcases List.mem_or_eq_of_mem_set hx with hx|rfl
  .exact h.keys x hx
  .exact⟨m,he'⟩
 get:=λm'=>by rw[wE he' m' es env j e h.len h.keys h.apart hj he,h.get m']
 apart:=by
  have hmap:(es.set j e').map (·.key)=es.map (·.key):=by
   rw[List.map_set,he',<-he];apply List.ext_getElem?;intro i;rw[List.getElem?_set];split
   .rename_i e1;subst e1;split
    .simp[hj]
    .rename_i hge;rw[oE (by omega)]
   .rfl
  have h1:(es.map (·.key)).Pairwise (·≠·):=List.pairwise_map.2 h.apart;rw[<-hmap]at h1;exact List.pairwise_map.1 h1
def oF.push{c:IntKind}{es:List MapEntry}{env:List V}{f:Int->Option V}(h:oF c es env f){m:Int}{v:V}{e':MapEntry}(hn:∀e∈es,e.key≠.int c m)(he':e'.key=.int c m):
 oF c (es++[e']) (env++[v]) λm'=>if m'=m then some v else f m' where
 len:=by simp[h.len]
 keys:=λx hx=>by
  rcases dD.1 hx with hx|hx
  .exact h.keys x hx
  .simp at hx;subst hx;exact⟨m,he'⟩
 get:=λm'=>by rw[uC he' m' es env h.len h.keys hn,h.get m']
 apart:=by
  rw[List.pairwise_append];refine⟨h.apart,by simp,λa ha b hb=>?_⟩;simp at hb;subst hb;rw[he'];exact hn a ha
open Go.RowKit
variable {P:Program} {n:Nat} {st:St} {Q:St->Prop} {k:List It} {I:Mu} {w:World}
def zt{t e:TypeId}(h:B1 P t=some e):∃kt kk,P.underlying t=some (.map kt e)/\P.underlying kt=some (.int kk):=by
 unfold B1 at h;split at h
 .rename_i kt et ht;split at h
  .rename_i kk hk;simp only[aI]at h;subst h;exact⟨kt,kk,ht,hk⟩
  .cases h
 .cases h
def Gy{o:Op}{xs:List VX}(h:WX P n o=.more .mkMap xs):∃t,o=.makeMap t none/\xs=[]:=by
 cases o
 case makeMap t r=>
  simp only[WX]at h;split at h
  .rename_i hc;simp only[Ba,Option.isNone_iff_eq_none]at hc;obtain⟨rfl,_⟩:=hc;simp only[W5.more.injEq,true_and]at h;exact⟨t,rfl,h.symm⟩
  .cases h
 case call c=>
  obtain⟨callee,args,argTypes⟩:=c;cases callee
  case value=>simp[WX]at h
  case invoke r name=>simp[WX]at h
  case builtin b=>cases b<;>(simp only[WX]at h;(repeat' split at h)<;>cases h)
 case unOp op t x=>cases op<;>simp only[WX]at h<;>cases h
 case makeFunc f a b=>cases f<;>simp only[WX]at h<;>(repeat' split at h)<;>cases h
 all_goals (simp only[WX,cy]at h;(repeat' split at h)<;>cases h)
def J0{o:Op}{xs:List VX}(h:WX P n o=.more .Hp xs):∃t m y x,(o=.insert t m y x\/o=.mapUpdate t m y x)/\(B1 P t).isSome=true/\xs=[cx n m,cx n y,cx n x]:=by
 cases o
 case insert t m y x=>
  simp only[WX]at h;split at h
  .rename_i hc;simp only[W5.more.injEq,true_and]at h;exact⟨t,m,y,x,.inl rfl,hc,h.symm⟩
  .cases h
 case mapUpdate t m y x=>
  simp only[WX]at h;split at h
  .rename_i hc;simp only[W5.more.injEq,true_and]at h;exact⟨t,m,y,x,.inr rfl,hc,h.symm⟩
  .cases h
 case call c=>
  obtain⟨callee,args,argTypes⟩:=c;cases callee
  case value=>simp[WX]at h
  case invoke r name=>simp[WX]at h
  case builtin b=>cases b<;>(simp only[WX]at h;(repeat' split at h)<;>cases h)
 case unOp op t x=>cases op<;>simp only[WX]at h<;>cases h
 case makeFunc f a b=>cases f<;>simp only[WX]at h<;>(repeat' split at h)<;>cases h
 all_goals (simp only[WX,cy]at h;(repeat' split at h)<;>cases h)
def GF{o:Op}{xs:List VX}{ok:Bool}{zv:V}(h:WX P n o=.more (.tB ok zv) xs):∃t x y e i z,o=.lookup t x y ok/\B1 P t=some e/\zeroOf P e=some (i,z)/\zv=ofValue z/\xs=[cx n x,cx n y]:=by
 cases o
 case lookup t x y ok'=>
  simp only[WX]at h;split at h
  .rename_i e he;split at h
   .rename_i i z hz;simp only[W5.more.injEq,MOp.tB.injEq]at h;obtain⟨⟨rfl,rfl⟩,rfl⟩:=h;exact⟨t,x,y,e,i,z,rfl,he,hz,rfl,rfl⟩
   .cases h
  .cases h
 case call c=>
  obtain⟨callee,args,argTypes⟩:=c;cases callee
  case value=>simp[WX]at h
  case invoke r name=>simp[WX]at h
  case builtin b=>cases b<;>(simp only[WX]at h;(repeat' split at h)<;>cases h)
 case unOp op t x=>cases op<;>simp only[WX]at h<;>cases h
 case makeFunc f a b=>cases f<;>simp only[WX]at h<;>(repeat' split at h)<;>cases h
 all_goals (simp only[WX,cy]at h;(repeat' split at h)<;>cases h)
def rC{b:Nat}{es:Array MapEntry}{c:Nat}(h:w.heap[b]?=some (.map es c)):(getObj b).run P w=.ok (.map es c) w:=by simp[getObj,Sem.run,h]
def C5{b:Nat}{es:Array MapEntry}{c:Nat}(o':Obj)(h:w.heap[b]?=some (.map es c)):(setObj b o').run P w=.ok () (w.putObj b o'):=by simp[setObj,Sem.run,h,World.putObj]
def mJ{em:Bool}{t:TypeId}{kk c:IntKind}{m:Int}(h:P.underlying t=some (.int kk)):(Instr.checkKey em 10000 t (.int c m)).run P w=.ok () w:=by
 show(Instr.checkKey em (9999+1) t (.int c m)).run P w=.ok () w;rw[Instr.checkKey];simp[run_underlying h]
def pk{t:TypeId}{kk c:IntKind}{m:Int}(h:P.underlying t=some (.int kk)){es:List MapEntry}{r:Option (Nat×Value)}(hf:Instr.findNow (.int kk) (.int c m) es 0=some r):
 (Instr.findKey t (.int c m) es).run P w=.ok r w:=by
 simp[Instr.findKey,run_underlying h,hf]
def Ar{c:IntKind}{m:Int}:(Instr.keyThatStays (.int c m) (.int c m)).run P w=.ok (.int c m) w:=by
 have:Instr.sameBits 10000 (.int c m) (.int c m)=true:=by
  show Instr.sameBits (9999+1) (.int c m) (.int c m)=true;simp[Instr.sameBits]
 simp[Instr.keyThatStays,this]
def ar.set{ow:Nat->Prop}:∀{vs:List V} {l:List Value} {v:V} {x:Value} (j:Nat),ar I ow w vs l->E' I ow w v x->ar I ow w (vs.set j v) (l.set j x)
 |[],l,v,x,j,h,hv=>by simp only[ar]at h;subst h;simp[ar]
 |u::us,l,v,x,0,h,hv=>by
  simp only[ar]at h;obtain⟨y,ys,rfl,h1,h2⟩:=h;simp only[List.set_cons_zero,ar];exact⟨x,ys,rfl,hv,h2⟩
 |u::us,l,v,x,j+1,h,hv=>by
  simp only[ar]at h;obtain⟨y,ys,rfl,h1,h2⟩:=h;simp only[List.set_cons_succ,ar];exact⟨y,_,rfl,h1,ar.set j h2 hv⟩
def ab.mkMap{i:aD}{l:List aD}{xs:List VX}(hw:aZ st.s i.g=some true)(ho:i.op=.more .mkMap xs)
 (h:∀id,st.U id=none->ab P n (.ops l::k) ⟨aQ st.s i.dst (.mp id),C' st.U id (gh (.map #[] 0) [])⟩ Q):ab P n (.ops (i::l)::k) st Q:=by
 refine ab.ins (by rw[ho];simp) hw λF hn I a w o all hi hs next Q' WK=>?_
 subst hn;obtain⟨WN,hd⟩:=cW hi;rw[ho]at WN;obtain⟨t,h1,_⟩:=Gy WN;obtain⟨id,P',Y',g1,g2,g3,g4⟩:=hs.sat.RS (.map #[] 0) [] (by simp[ar,tmpsOf]);have Xi:(execOp a.eval o).run P w=.ok (.value (.map (some w.heap.size))) (w.alloc (.map #[] 0)):=by
  unfold execOp;rw[h1];simp[Instr.makeMap]
  all_goals rfl
 unfold Oper.wp;rw[Xi];refine WK _ _ _ ⟨Y',?_⟩ (h id P');rw[<-hd];exact hs.step g3 g2 g4 (by simp) (by simp[E',g1])
def HQ{i:aD}{xm xk:VX}{ok:Bool}{zv:V}(ho:i.op=.more (.tB ok zv) [xm,xk]){id:Nat}{c:IntKind}{f:Int->Option V}{m:Int}
 (hm:xm.ev st.s=.mp id)(hmap:lT c st.U id f)(hk:xk.ev st.s=.int c m){K:St->Prop}
 (h:K ⟨aQ st.s i.dst (if ok then .WJ [(f m).getD zv,.bool (f m).isSome]else(f m).getD zv),st.U⟩):
 ∀(F:Fr),F.n=n->∀(I:Mu) (a:Act) (w:World) (o:Oper) (all:Array Oper),bM P n all o=i->cQ F I st a w->
  ∀(next:Act->World->Prop) (Q':Exit->Act->World->Prop),(∀Yy a' w',eE F Yy a' w'->K Yy->next a' w')->o.wp P a w next Q':=by
 intro F hn I a w o all hi hs next Q' WK
 subst hn;obtain⟨WN,hd⟩:=cW hi;rw[ho]at WN;obtain⟨t,x,y,e,ti,z,g1,g2,g3,rfl,g4⟩:=GF WN;simp only[List.cons.injEq,and_true]at g4;obtain⟨rfl,rfl⟩:=g4;obtain⟨kt,kk,u1,u2⟩:=zt g2;obtain⟨es,clock,env,W4,hrel⟩:=hmap;have hr:=bU hs x;have hrk:=bU hs y;rw[hm]at hr;rw[hk]at hrk;simp only[E']at hr hrk;split at hr
 .rename_i b cap P';obtain⟨Xz,henv⟩:=hs.sat.MG W4 P';simp only[tmpsOf]at henv;rcases wg c kk m es.toList env 0 hrel.len hrel.keys with⟨q1,q2,q3⟩|⟨j,en,v,q1,q2,q3,q4,q5⟩
  .rw[hrel.get m]at q1;rw[q1]at h;have Xi:(Instr.lookup t (a.eval x) (a.eval y) ok).run P w=.ok (if ok then .tuple #[z,.bool false]else z) w:=by
    simp[Instr.lookup,run_underlying u1,hr,hrk,rC Xz,mJ u2,pk u2 q2,dP g3]
   have hx:(execOp a.eval o).run P w=.ok (.value (if ok then .tuple #[z,.bool false]else z)) w:=by
    unfold execOp;rw[g1];simp[Xi]
   unfold Oper.wp;rw[hx];refine WK _ _ _ ⟨I,?_⟩ h;rw[<-hd];have hz:E' I (az I st.U) w (ofValue z) z:=ot z;refine hs.pure ?_;cases ok
   .simpa using hz
   .simp only[if_true,Option.getD_none,Option.isSome_none,E'];exact⟨_,rfl,by simp only[ar,E'];exact⟨_,_,rfl,hz,_,_,rfl,rfl,rfl⟩⟩
  .rw[hrel.get m]at q4;rw[q4]at h;rw[iV]at q5;have hv:E' I (az I st.U) w v en.val:=by
    obtain⟨x',W8,hrx⟩:=henv.get q2;rw[qX,q1]at W8;simp at W8;subst W8;exact hrx
   have Xi:(Instr.lookup t (a.eval x) (a.eval y) ok).run P w=.ok (if ok then .tuple #[en.val,.bool true]else en.val) w:=by
    simp[Instr.lookup,run_underlying u1,hr,hrk,rC Xz,mJ u2,pk u2 q5]
   have hx:(execOp a.eval o).run P w=.ok (.value (if ok then .tuple #[en.val,.bool true]else en.val)) w:=by
    unfold execOp;rw[g1];simp[Xi]
   unfold Oper.wp;rw[hx];refine WK _ _ _ ⟨I,?_⟩ h;rw[<-hd];refine hs.pure ?_;cases ok
   .simpa using hv
   .simp only[if_true,Option.getD_some,Option.isSome_some,E'];exact⟨_,rfl,by simp only[ar,E'];exact⟨_,_,rfl,hv,_,_,rfl,rfl,rfl⟩⟩
 .exact hr.elim
open Go.RowKit
variable {P:Program} {n:Nat} {st:St} {Q:St->Prop} {k:List It} {I:Mu} {w:World}
def qi{α:Type}{f:α->α}:∀(l:List α) (j:Nat) (x:α),l[j]?=some x->l.modify j f=l.set j (f x)
 |[],j,x,h=>by simp at h
 |y::l,0,x,h=>by simp at h;subst h;rfl
 |y::l,j+1,x,h=>by
  have:=qi (f:=f) l j x (by simpa using h);rw[List.modify_succ_cons,List.set_cons_succ,this]
def Ll{i:aD}{xm xk xv:VX}(ho:i.op=.more .Hp [xm,xk,xv]){id:Nat}{c:IntKind}{f:Int->Option V}{m:Int}{v:V}
 (hm:xm.ev st.s=.mp id)(hmap:lT c st.U id f)(hk:xk.ev st.s=.int c m)(hv:xv.ev st.s=v){K:St->Prop}
 (h:∀ob:Ob,ob.sz=0->lT c (C' st.U id ob) id (λm'=>if m'=m then some v else f m')->K ⟨aQ st.s i.dst (.WJ []),C' st.U id ob⟩):
 ∀(F:Fr),F.n=n->∀(I:Mu) (a:Act) (w:World) (o:Oper) (all:Array Oper),bM P n all o=i->cQ F I st a w->
  ∀(next:Act->World->Prop) (Q':Exit->Act->World->Prop),(∀Yy a' w',eE F Yy a' w'->K Yy->next a' w')->o.wp P a w next Q':=by
 intro F hn I a w o all hi hs next Q' WK
 subst hn;obtain⟨WN,hd⟩:=cW hi;rw[ho]at WN;obtain⟨t,x,y,z,g1,g2,g4⟩:=J0 WN;simp only[List.cons.injEq,and_true]at g4;obtain⟨rfl,rfl,rfl⟩:=g4;obtain⟨e,he⟩:=Option.isSome_iff_exists.1 g2;obtain⟨kt,kk,u1,u2⟩:=zt he;obtain⟨es,clock,env,W4,hrel⟩:=hmap;have hr:=bU hs x;have hrk:=bU hs y;have hrv:=bU hs z;rw[hm]at hr;rw[hk]at hrk;rw[hv]at hrv;simp only[E']at hr hrk;split at hr
 .rename_i b cap P';obtain⟨Xz,henv⟩:=hs.sat.MG W4 P';simp only[tmpsOf]at henv;have XL:∀(o':Obj) (env':List V),(∀es' clock',o'=.map es' clock'->oF c es'.toList env' (λm'=>if m'=m then some v else f m'))->(∃es' clock',o'=.map es' clock')->ar I (az I st.U) w env' (tmpsOf o')->
   (Instr.mapUpdate t (a.eval x) (a.eval y) (a.eval z)).run P w=.ok () (w.putObj b o')->o.wp P a w next Q':=by
   intro o' env' hmr hmap' Zn Xi;have hx:(execOp a.eval o).run P w=.ok .skip (w.putObj b o'):=by
    unfold execOp;rcases g1 with g1|g1<;>(rw[g1];simp[Xi])
   have hset:=hs.sat.RV W4 P' o' env' Zn;obtain⟨es',clock',rfl⟩:=hmap';unfold Oper.wp;rw[hx];refine WK _ _ _ ⟨I,?_⟩ (h (gh (.map es' clock') env') rfl ⟨es',clock',env',af,hmr _ _ rfl⟩);rw[<-hd];exact hs.step hset.1 (cI.refl _) hset.2 (by simp) (by simp only[E'];exact⟨[],rfl,by simp[ar]⟩)
  rcases wg c kk m es.toList env 0 hrel.len hrel.keys with⟨q1,q2,q3⟩|⟨j,en,v0,q1,q2,q3,q4,q5⟩
  .refine XL (.map (es.push { key:=.int c m,val:=a.eval z,born:=clock }) (clock+1)) (env++[v]) (λes' clock' e=>?_) ⟨_,_,rfl⟩ ?_ ?_
   .cases e;rw[Array.toList_push];exact hrel.push q3 rfl
   .simp only[tmpsOf,Array.toList_push,gB,eo,List.map_nil];exact henv.append (by simp only[ar];exact⟨_,_,rfl,hrv,rfl⟩)
   .simp[Instr.mapUpdate,run_underlying u1,hr,hrk,rC Xz,mJ u2,pk u2 q2,C5 _ Xz]
  .rw[iV]at q5;refine XL (.map (es.modify j λe=>{ e with key:=.int c m,val:=a.eval z }) clock) (env.set j v) (λes' clock' e=>?_) ⟨_,_,rfl⟩ ?_ ?_
   .cases e;have hl:(es.modify j λe=>{ e with key:=.int c m,val:=a.eval z }).toList=es.toList.set j { en with key:=.int c m,val:=a.eval z }:=by
     rw[Array.toList_modify,qi _ _ _ q1]
    rw[hl];exact hrel.set q1 q3 rfl
   .have hl:(es.modify j λe=>{ e with key:=.int c m,val:=a.eval z }).toList=es.toList.set j { en with key:=.int c m,val:=a.eval z }:=by
     rw[Array.toList_modify,qi _ _ _ q1]
    simp only[tmpsOf,hl,List.map_set];exact ar.set j henv hrv
   .have hkey:((es[j]?).map (·.key)).getD (.int c m)=.int c m:=by
     rw[<-Array.getElem?_toList,q1];simp[q3]
    simp[Instr.mapUpdate,run_underlying u1,hr,hrk,rC Xz,mJ u2,pk u2 q5,C5 _ Xz,hkey,Ar]
 .exact hr.elim
open Go.RowKit
variable {P:Program} {n:Nat} {st:St} {Q:St->Prop} {k:List It}
def TS(P:Program)(n:Nat)(i:aD)(x:St)(K:St->Prop):Prop:=i.op≠.bad/\aZ x.s i.g=some true/\
 ∀(F:Fr),F.n=n->∀(I:Mu) (a:Act) (w:World) (o:Oper) (all:Array Oper),bM P n all o=i->cQ F I x a w->
  ∀(next:Act->World->Prop) (Q':Exit->Act->World->Prop),(∀Yy a' w',eE F Yy a' w'->K Yy->next a' w')->o.wp P a w next Q'
def XT(P:Program)(n:Nat)(sp:List Nat)(m:Nat)(i:aD)(x:St)(K:St->Prop):Prop:=T P i x K\/m∈sp/\TS P n i x K
variable {sp:List Nat}
def XT.mono{m:Nat}{i:aD}{x:St}{K K':St->Prop}(hk:∀x,K x->K' x)(h:XT P n sp m i x K):XT P n sp m i x K':=by
 rcases h with h|⟨h1,h2,h3,h4⟩
 .exact .inl (h.mono hk)
 .exact .inr ⟨h1,h2,h3,λF hn I a w o all hi hs next Q' WK=>h4 F hn I a w o all hi hs next Q' λYy a' w' WT hq=>WK _ _ _ WT (hk _ hq)⟩
def XT.inf{m:Nat}{i:aD}{x:St}{K:St->Prop}(hi:Inf x.U)(h:XT P n sp m i x K):XT P n sp m i x λx'=>Inf x'.U/\K x':=by
 rcases h with h|⟨h1,h2,h3,h4⟩
 .exact .inl (h.inf hi)
 .exact .inr ⟨h1,h2,h3,λF hn I a w o all hi hs next Q' WK=>h4 F hn I a w o all hi hs next Q' λYy a' w' WT hq=>WK _ _ _ WT ⟨WT.inf,hq⟩⟩
def chB(l:List aD):Nat->Nat->Nat->Bool
 |0,_,_=>false
 |f+1,i,j=>match l[i]?,l[j]? with
  |some a,some b=>!iH a b||(List.range l.length).any λk=>decide (i<k)&&(decide (k<j)&&((match l[k]? with
   |some c=>!iH a c
   |none=>false)&&chB l f k j))
  |_,_=>false
def IL(l:List aD)(sp:List Nat):Bool:=sp.all λm=>(List.range l.length).all λi=>decide (i=m)||(decide (i<m)&&chB l 8 i m||decide (m<i)&&chB l 8 m i)
def F2(P:Program)(n:Nat)(ops:Array Oper)(k:Nat):Prop:=∀i j oi oj,k<=i->i<j->ops[i]?=some oi->ops[j]?=some oj->((Region.before ops).getD j 0).testBit i=true\/iH (bM P n ops oi) (bM P n ops oj)=true
def HG{ops:Array Oper}:∀(m k:Nat) (A':Array Bool),m+k=ops.size->(∀j,k<=j->j<ops.size->A'.getD j true=false)->xW P n ops m k A'=true->F2 P n ops k
 |0,k,A',hm,_,_=>λi j oi oj h1 h2 h3 h4=>by
  have:=(oz.1 h3).1;omega
 |m+1,k,A',hm,hl,h=>λi j oi oj h1 h2 h3 h4=>by
  simp only[xW,Ba]at h;obtain⟨⟨_,hf⟩,hB⟩:=h;have hj:=(oz.1 h4).1;by_cases hik:i=k
  .subst hik;cases hb:((Region.before ops).getD j 0).testBit i with
   |true=>exact .inl rfl
   |false=>exact .inr (mH h3 hf j oj h4 (by omega) (hl j (by omega) hj) hb)
  .exact HG m (k+1) _ (by omega) (λj' h5 h6=>by rw[getD_set_ne true (by omega)];exact hl j' (by omega) h6) hB i j oi oj (by omega) h2 h3 h4
def zW{a:Array Bool}{i:Nat}(h:a.getD i false=true):a.getD i true=true:=by
 rw[Zq7]at h|-;cases hi:a[i]? with
 |none=>rfl
 |some b=>rw[hi]at h;exact h
def qG{ops:Array Oper}{A':Array Bool}(XH:iS ops A')(hG:F2 P n ops 0):∀(f i j:Nat) (oj:Oper),i<j->ops[j]?=some oj->(∀e∈oj.after,Region.binds .any e=true->A'.getD e.on false=true)->
 chB (ops.toList.map (bM P n ops)) f i j=true->A'.getD i false=true
 |0,_,_,_,_,_,_,h=>by cases h
 |f+1,i,j,oj,hij,hoj,XF,h=>by
  have get:∀(m:Nat) (om:Oper),ops[m]?=some om->(ops.toList.map (bM P n ops))[m]?=some (bM P n ops om):=λm om hm=>by
   rw[qX,Array.getElem?_toList,hm];rfl
  have hjl:=(oz.1 hoj).1;obtain⟨oi,hoi⟩:∃o,ops[i]?=some o:=⟨ops[i]'(by omega),Array.getElem?_eq_getElem (by omega)⟩
  have key:∀(k:Nat) (ok:Oper),i<k->ops[k]?=some ok->(∀e∈ok.after,Region.binds .any e=true->A'.getD e.on false=true)->iH (bM P n ops oi) (bM P n ops ok)=false->A'.getD i false=true:=λk ok hk WL Zh hp=>by
   rcases hG i k oi ok (Nat.zero_le _) hk hoi WL with hb|hb
   .exact lF XH k ok i WL hb Zh
   .rw[hp]at hb;cases hb
  simp only[chB,get i oi hoi,get j oj hoj,kX,Bool.not_eq_true']at h;rcases h with h|h
  .exact key j oj hij hoj XF h
  .obtain⟨k,_,hk⟩:=PX.1 h;simp only[Ba,Zs]at hk;obtain⟨h1,h2,h3,h4⟩:=hk;obtain⟨ok,WL⟩:∃o,ops[k]?=some o:=⟨ops[k]'(by omega),Array.getElem?_eq_getElem (by omega)⟩
   have Yn:=qG XH hG f k j oj h2 hoj XF h4;rw[get k ok WL]at h3;exact key k ok h1 WL (XH k ok WL (zW Yn)) (by simpa using h3)
def xM{ops:Array Oper}{A':Array Bool}(XH:iS ops A')(hG:F2 P n ops 0)(hsp:IL (ops.toList.map (bM P n ops)) sp=true){m j:Nat}(hm:m∈sp)(hrm:m∈Region.ready .any ops A')(hrj:j∈Region.ready .any ops A')(W6:j≠m):False:=by
 obtain⟨um,om,hom,am⟩:=mem_ready.1 hrm;obtain⟨uj,oj,hoj,aj⟩:=mem_ready.1 hrj;have hjl:=(oz.1 hoj).1;have h:=eT.1 (eT.1 hsp m hm) j (List.mem_range.2 (by simpa using hjl));simp only[kX,Ba,Zs,W6,false_or]at h;rcases h with⟨h1,h2⟩|⟨h1,h2⟩
 .have:=qG XH hG 8 j m om h1 hom am h2;rw[zW this]at uj;cases uj
 .have:=qG XH hG 8 m j oj h1 hoj aj h2;rw[zW this]at um;cases um
def Xn(P:Program)(n:Nat)(sp:List Nat)(ops:Array Oper)(i:Nat)(x:St)(K:St->Prop):Prop:=match ops[i]? with
 |some o=>XT P n sp i (bM P n ops o) x K
 |none=>K x
def ta(P:Program)(n:Nat)(sp:List Nat)(ops:Array Oper)(Q:St->Prop):Nat->Array Bool->St->Prop
 |0,A',x=>Region.ready .any ops A'=[]/\Q x
 |f+1,A',x=>(Region.ready .any ops A'=[]->Q x)/\∀i∈Region.ready .any ops A',Xn P n sp ops i x (ta P n sp ops Q f (A'.setIfInBounds i true))
def mP{F:Fr}(hn:F.n=n){ops:Array Oper}{Q:St->Prop}{Q':Exit->Act->World->Prop}(hQ:∀x a w,eE F x a w->Q x->Q' .normal a w):
 ∀(f:Nat) (A':Array Bool) (x:St) (a:Act) (w:World),eE F x a w->ta P n sp ops Q f A' x->wpAnyIn F.ed 0 P .any ops Q' f A' a w
 |0,_,_,_,_,hs,h=>⟨h.1,hQ _ _ _ hs h.2⟩
 |f+1,A',x,a,w,hs,h=>by
  refine⟨λh0=>hQ _ _ _ hs (h.1 h0),λi hi=>?_⟩;have h1:=h.2 i hi;unfold Xn at h1;unfold wpOpIn;cases ho:ops[i]? with
  |none=>
   simp only[ho]at h1;exact mP hn hQ f _ x a w hs h1
  |some o=>
   simp only[ho]at h1;rcases h1 with h1|⟨-,g2,g3,g4⟩
   .have h2:=uY (Q':=Q') hn h1 hs λx' a' w' WT hk=>mP hn hQ f _ x' a' w' WT hk;by_cases hw:Region.wanted o (yielded ops a.tmps)=true
    .rw[aq hw]at h2;simp only[hw,if_true];exact Gb (ke h2.1) h2.2
    .rw[ao hw]at h2;simp only[hw];exact⟨λ_ _=>trivial,h2⟩
   .obtain⟨I,hs⟩:=hs;have hw:Region.wanted o (yielded ops a.tmps)=true:=by
     subst hn;exact rG (P:=P) hs ops o g3
    simp only[hw,if_true];exact Gb (ke (P:=P) (n:=n) g2) (g4 F hn I a w o ops rfl hs _ _ λx' a' w' WT hk=>mP hn hQ f _ x' a' w' WT hk)
def Ai{ops:Array Oper}{Q:St->Prop}(hG:F2 P n ops 0)(hsp:IL (ops.toList.map (bM P n ops)) sp=true){i:Nat}{oi:Oper}(hi:ops[i]?=some oi):∀(f:Nat) (A':Array Bool) (x:St),Inf x.U->iS ops A'->
 (∀j oj,ops[j]?=some oj->j≠i->A'.getD j true=false->((Region.before ops).getD j 0).testBit i=false->iH (bM P n ops oi) (bM P n ops oj)=true)->
 i∈Region.ready .any ops A'->XT P n sp i (bM P n ops oi) x (ta P n sp ops Q f (A'.setIfInBounds i true))->ta P n sp ops Q (f+1) A' x:=by
 intro f
 induction f with
 |zero=>
  intro A' x YW XH hfree hr H;refine⟨λh=>(by rw[h]at hr;cases hr),λj hj=>?_⟩;by_cases YO:j=i
  .subst YO;unfold Xn;simp only[hi];exact H
  .rcases H with H|H
   .have:=ready_mono hj YO;obtain⟨x',W8⟩:=H.exists YW;rw[W8.1]at this;cases this
   .exact(xM XH hG hsp H.1 hr hj YO).elim
 |succ f ih=>
  intro A' x YW XH hfree hr H;refine⟨λh=>(by rw[h]at hr;cases hr),λj hj=>?_⟩;by_cases YO:j=i
  .subst YO;unfold Xn;simp only[hi];exact H
  .obtain⟨hjun,oj,hoj,XF⟩:=mem_ready.1 hj;rcases H with H|H
   .have hnot:((Region.before ops).getD j 0).testBit i=false:=by
     cases hb:((Region.before ops).getD j 0).testBit i with
     |false=>rfl
     |true=>
      exfalso;have h1:=lF XH j oj i hoj hb XF;have h0:=(mem_ready.1 hr).1;rcases Nat.lt_or_ge i A'.size with h'|h'
      .simp[h']at h0 h1;rw[h0]at h1;cases h1
      .simp[Array.getElem?_eq_none h']at h1
    have H2:T P (bM P n ops oi) x λx'=>T P (bM P n ops oj) x' (ta P n sp ops Q f ((A'.setIfInBounds i true).setIfInBounds j true)):=by
     refine H.mono λx' W8=>?_;have:=W8.2 j (ready_mono hj YO);unfold Xn at this;simp only[hoj]at this;rcases this with h|h
     .exact h
     .exact(xM XH hG hsp h.1 hj hr (Ne.symm YO)).elim
    have h2:=DW (hfree j oj hoj YO hjun hnot) YW H2;have hfree':∀k ok,ops[k]?=some ok->k≠i->(A'.setIfInBounds j true).getD k true=false->
     ((Region.before ops).getD k 0).testBit i=false->iH (bM P n ops oi) (bM P n ops ok)=true:=λk ok hk hki hun Xa=>by
     refine hfree k ok hk hki ?_ Xa;by_cases hjk:j=k
     .subst hjk;exact hjun
     .rw[getD_set_ne true hjk]at hun;exact hun
    unfold Xn;simp only[hoj];refine .inl ((h2.inf YW).mono λx' W8=>ih (A'.setIfInBounds j true) x' W8.1 (XH.list hj) hfree' (ready_mono hr (Ne.symm YO)) ?_);rw[Array.setIfInBounds_comm _ _ YO];exact .inl W8.2
   .exact(xM XH hG hsp H.1 hr hj YO).elim
def fW(P:Program)(n:Nat)(sp:List Nat)(Q:St->Prop):Nat->List aD->St->Prop
 |_,[],x=>Q x
 |m,i::l,x=>XT P n sp m i x (fW P n sp Q (m+1) l)
def vK{ops:Array Oper}{Q:St->Prop}(hG:F2 P n ops 0)(hsp:IL (ops.toList.map (bM P n ops)) sp=true):∀(l:List Oper) (k:Nat) (A':Array Bool) (x:St),Inf x.U->iS ops A'->(∀j,l[j]?=ops[k+j]?)->
 xW P n ops l.length k A'=true->fW P n sp Q k (l.map (bM P n ops)) x->ta P n sp ops Q l.length A' x
 |[],_,_,_,_,_,_,hB,h=>⟨by simpa[xW]using hB,h⟩
 |o::l,k,A',x,YW,XH,hl,hB,h=>by
  have h0:ops[k]?=some o:=by simpa using(hl 0).symm
  simp only[XX,xW,Ba]at hB;obtain⟨⟨hr,hf⟩,hB'⟩:=hB;refine Ai hG hsp h0 l.length A' x YW XH (mH h0 hf) (by simpa using hr) ?_;refine(XT.inf YW h).mono λx' W8=>?_;exact vK hG hsp l (k+1) _ x' W8.1 (XH.list (by simpa using hr)) (λj=>by have:=hl (j+1);simpa[Nat.add_assoc,DK 1 j]using this) hB' W8.2
def yc{F:Fr}(hn:F.n=n){ops:Array Oper}(WL:qd P n ops=true)(hsp:IL (ops.toList.map (bM P n ops)) sp=true){id:Nat}{x:St}{a:Act}{w:World}(hs:eE F x a w){Q:St->Prop}{Q':Exit->Act->World->Prop}
 (hQ:∀x a w,eE F x a w->Q x->Q' .normal a w)(h:fW P n sp Q 0 (ops.toList.map (bM P n ops)) x):(Code.region id ops true).wpIn F.ed 0 P Q' a w:=by
 simp only[qd,Ba]at WL;have WT:eE F x a { w with drawn:=w.drawn+1 }:=by
  obtain⟨I,hs⟩:=hs;have hk:cM (az I x.U) (az I x.U) w { w with drawn:=w.drawn+1 }:=λ_ _ h=>⟨h,rfl⟩
  refine⟨I,⟨⟨hs.sat.size,hs.sat.os,hs.sat.tape,hs.sat.output,hs.sat.same,hs.sat.fin,hs.sat.inj,λid o ho=>?_,hs.sat.fresh,hs.sat.glob⟩,hs.le,hs.size,hs.book.lV hk,λi hi=>?_⟩⟩
  .exact(hs.sat.obj id o ho).mono (cI.refl I) hk (Xm _) (λ_ _ _ _=>rfl)
  .exact E'.mono (cI.refl I) hk (Xm _) _ _ (hs.slot i hi)
 have Zn:∀j,j<ops.size->(Array.replicate ops.size false).getD j true=false:=λj hj=>by
  rw[Zq7,Array.getElem?_replicate,aq hj];rfl
 have hG:F2 P n ops 0:=HG ops.size 0 (Array.replicate ops.size false) rfl (λj _ hj=>Zn j hj) (by simpa using WL.2.2);refine wpIn_region_any WL.1 (mP (sp:=sp) hn hQ _ _ _ _ _ WT ?_);have:=vK (P:=P) (n:=n) (Q:=Q) hG hsp ops.toList 0 (Array.replicate ops.size false) x hs.inf (λm om hm hl=>by
  have H':m<ops.size:=(oz.1 hm).1;rw[Zn m H']at hl;cases hl) (by simp) (by simpa using WL.2.2) h
 simpa using this
def ab.QS(sp:List Nat){l:List aD}(hsp:IL l sp=true)(h:fW P n sp (λx=>ab P n k x Q) 0 l st):ab P n (.code (.Za true l)::k) st Q:=by
 intro F hn kt hk a w hs;obtain⟨z,YN,rfl,hy,Yc⟩:=dN hk;obtain⟨c0,rfl,XZ⟩:=gw hy;have hc0:∃id ops,c0=.region id ops true/\qd P n ops=true/\ops.toList.map (bM P n ops)=l:=by
  cases c0<;>simp only[dk,reduceCtorEq]at XZ;rename_i id ops draw;cases draw
  .simp at XZ
  .simp only[Bool.true_and]at XZ;split at XZ
   .cases XZ
   .split at XZ
    .cases XZ
    .rename_i hd;simp only[bG.Za.injEq,true_and]at XZ;exact⟨id,ops,rfl,by simpa using hd,XZ⟩
 obtain⟨id,ops,rfl,WL,rfl⟩:=hc0;exact yc hn WL hsp hs (λx a w hs h=>h F hn YN Yc a w hs) h
variable {K:St->Prop} {m:Nat} {x:St}
def XC.app{suf:List aD}:∀(pre:List aD) {m:Nat} {x:St},Go P n (.d pre [.stop λy=>fW P n sp K (m+pre.length) suf y]) x Q->fW P n sp K m (pre++suf) x
 |[],_,_,h=>h
 |i::pre,m,_,h=>.inl (T.mono (λ_ h=>XC.app (m:=m+1) pre (by rw[show m+1+pre.length=m+(i::pre).length by simp;omega];exact h)) h)
def XC.go(j:Nat){l:List aD}(h:Go P n (.d (l.take j) [.stop λy=>fW P n sp K (m+(l.take j).length) (l.drop j) y]) x λ_=>True):fW P n sp K m l x:=by
 have:=XC.app _ h
 rwa [uR]at this
def XC.tB{i:aD}{l:List aD}{xm xk:VX}{ok:Bool}{zv:V}(hm:m∈sp)(hw:aZ x.s i.g=some true)(ho:i.op=.more (.tB ok zv) [xm,xk]){id:Nat}{c:IntKind}{f:Int->Option V}{q:Int}
 (hx:xm.ev x.s=.mp id)(hmap:lT c x.U id f)(hk:xk.ev x.s=.int c q)
 (h:fW P n sp K (m+1) l ⟨aQ x.s i.dst (if ok then .WJ [(f q).getD zv,.bool (f q).isSome]else(f q).getD zv),x.U⟩):fW P n sp K m (i::l) x:=
 .inr ⟨hm,by rw[ho];simp,hw,HQ ho hx hmap hk h⟩
def XC.Hp{i:aD}{l:List aD}{xm xk xv:VX}(hm:m∈sp)(hw:aZ x.s i.g=some true)(ho:i.op=.more .Hp [xm,xk,xv]){id:Nat}{c:IntKind}{f:Int->Option V}{q:Int}{v:V}
 (hx:xm.ev x.s=.mp id)(hmap:lT c x.U id f)(hk:xk.ev x.s=.int c q)(hv:xv.ev x.s=v)
 (h:∀ob:Ob,ob.sz=0->lT c (C' x.U id ob) id (λm'=>if m'=q then some v else f m')->fW P n sp K (m+1) l ⟨aQ x.s i.dst (.WJ []),C' x.U id ob⟩):fW P n sp K m (i::l) x:=
 .inr ⟨hm,by rw[ho];simp,hw,Ll ho hx hmap hk hv h⟩
def XC.call{i:aD}{l:List aD}{fx:VX}{xs:List VX}(hm:m∈sp)(hw:aZ x.s i.g=some true)(ho:i.op=.call fx xs){f:FuncId}{caps:List V}(hf:fx.ev x.s=.fn f caps)
 {Post:V->ag->Prop}(hc:ax P f (xs.map (·.ev x.s)++caps) x.U Post)(h:∀r Z',Post r Z'->fW P n sp K (m+1) l ⟨aQ x.s i.dst r,Z'⟩):fW P n sp K m (i::l) x:=by
 refine .inr ⟨hm,by rw[ho];simp,hw,λF hn I a w o all hi hs next Q' WK=>?_⟩;subst hn;obtain⟨WN,hd⟩:=cW hi;rw[ho]at WN;obtain⟨f0,args,argTypes,g1,rfl,rfl⟩:=mo WN;refine mQ hs g1 hf hc λr Z' hp a' w' WT=>WK _ a' w' WT ?_;rw[hd];exact h r Z' hp
def XC.skip{i:aD}{l:List aD}(hw:aZ x.s i.g=some false)(h:fW P n sp K (m+1) l ⟨aQ x.s i.dst (.WJ []),x.U⟩):fW P n sp K m (i::l) x:=by
 refine .inl ?_;unfold T;rw[hw];exact h
def XC.nil(h:K x):fW P n sp K m [] x:=h
end Go.Vc
