/- Part 11 of the library of this proof. -/
import Derived.Test.YtdaelobhgmdoeaaGreatW10
import Derived.Test.YtdaelobhgmdoeaaGreatProg
import Derived.KernelRfl
set_option linter.all false
set_option maxHeartbeats 8000000
set_option maxRecDepth 100000
namespace Go.Vc
open Go.Proofs Go.Proofs.Tryz
def N4(p:YL):∀U:af,bB U true 5 (.rp (aQ p))=some (aQ p):=λ_=>rfl
def iW(p:YL):(aQ p).cells=[vI p.no,vI p.kind,aG p.hs,aG p.fs,aG p.ls]:=rfl
def yL(p:YL):(aQ p).stays=true:=rfl
def sO(a b:List Zi)(h:a.length<=2000000):aJ prog 31 [aG a,aG b] (.bool (decide (a=b))):=
 Ma func31 (sz:=7) (ks:=[0,0,0,0,0,0,0]) (e31.b.trans rfl) e31.c bb JG (λ_ _=>rfl) a b (by omega)
def FD(p q:YL)(hp:p.hs.length<=2000000/\p.fs.length<=2000000/\p.ls.length<=2000000):aJ prog 12 [aQ p,aQ q] (.bool (decide (p=q))):=λU=>by
 refine e12.r (by simp[c12]) ?_;have hs:=aa.refl U;have c1:=sO p.hs q.hs hp.1;have c2:=sO p.fs q.fs hp.2.1;have c3:=sO p.ls q.ls hp.2.2;generalize hX:decide (p=q)=X;have hX':(p.no=q.no/\p.kind=q.kind/\p.hs=q.hs/\p.fs=q.fs/\p.ls=q.ls)↔p=q:=by cases p;cases q;simp
 refine ab.mix 5 ?_;apply sR;simp only[go_sem,seval,c12,iW,yL];refine ad λi2 Z2 s2 a2 f2=>?_;replace hs:=hs.trans s2;simp only[go_sem,seval,iW,yL];refine ad λi3 Z3 s3 a3 f3=>?_;replace a2:=s3 _ _ a2;replace hs:=hs.trans s3;by_cases h1:p.no=q.no
 .have q1:(p.no=q.no)=True:=Yi h1;by_cases h2:p.kind=q.kind
  .have q2:(p.kind=q.kind)=True:=Yi h2;simp only[go_sem,seval,a2,a3,q1,q2,iW];refine ab.ay rfl rfl rfl (c1 _) ?_;by_cases h3:p.hs=q.hs
   .rw[ZN h3];apply sR;simp only[go_sem,seval,a2,a3,iW];refine ab.ay rfl rfl rfl (c2 _) ?_;by_cases h4:p.fs=q.fs
    .rw[ZN h4];apply sR;simp only[go_sem,seval,a2,a3,iW];refine ab.ay rfl rfl rfl (c3 _) ?_;by_cases h5:p.ls=q.ls
     .rw[ZN h5];apply sR;simp only[go_sem,seval];exact ak.pure hs (by rw[<-hX,ZN (hX'.1 ⟨h1,h2,h3,h4,h5⟩)])
     .rw[Zz h5];apply sR;simp only[go_sem,seval];exact ak.pure hs (by rw[<-hX,Zz λh=>h5 (hX'.2 h).2.2.2.2])
    .rw[Zz h4];apply sR;simp only[go_sem,seval];exact ak.pure hs (by rw[<-hX,Zz λh=>h4 (hX'.2 h).2.2.2.1])
   .rw[Zz h3];apply sR;simp only[go_sem,seval];exact ak.pure hs (by rw[<-hX,Zz λh=>h3 (hX'.2 h).2.2.1])
  .have q2:(p.kind=q.kind)=False:=T' h2;simp only[go_sem,seval,a2,a3,q1,q2,iW];exact ak.pure hs (by rw[<-hX,Zz λh=>h2 (hX'.2 h).2.1])
 .have q1:(p.no=q.no)=False:=T' h1;simp only[go_sem,seval,a2,a3,q1,iW];exact ak.pure hs (by rw[<-hX,Zz λh=>h1 (hX'.2 h).1])
def Kl(xs ys:List YL)(hx:xs.length<=10000000000)(hl:∀p∈xs,p.hs.length<=2000000/\p.fs.length<=2000000/\p.ls.length<=2000000):aJ prog 11 [bl xs,bl ys] (.bool (decide (xs=ys))):=λU=>by
 refine e11.r (by simp[c11]) ?_;have n1:=jt xs;have n2:=jt ys;refine ab.mix 6 ?_;by_cases hlen:xs.length=ys.length
 .have q:((xs.length:Int)≠ys.length)=False:=T';apply sR;simp only[go_sem,seval,c11,n1,n2,q];refine ab.loop (λm st=>∃j,j<=xs.length/\m=xs.length-j/\xs.take j=ys.take j/\st.s 0=bl xs/\st.s 1=bl ys/\st.s 5=.int .i64 j/\st.U=U) xs.length ⟨0,by omega,rfl,rfl,rfl,rfl,rfl,rfl⟩ ?_;rintro m ⟨S,Z'⟩ ⟨j,hj,rfl,ht,t0,t1,t5,YK⟩;simp only at t0 t1 t5 YK;subst YK;refine ab.mix 6 ?_;by_cases L':j<xs.length
  .have q1:((j:Int)<xs.length)=True:=Yi;have hlt2:j<ys.length:=by omega
   have i1:=λU=>oS (U:=U) L';have i2:=λU=>oS (U:=U) hlt2;have hee:=FD xs[j] ys[j] (hl _ (Zw L'));have tx:=Zq0 L';have ty:=Zq0 hlt2;have r1:Yr .i64 ((j:Int)+1):=ai;have hxy:xs[j]≠ys[j]->xs≠ys:=λhn h=>hn (by simp only[h]);generalize xs[j]=x at*;generalize ys[j]=y at*;have l1:=N4 x;have l2:=N4 y;apply sR;simp only[go_sem,seval,t0,t1,t5,n1,q1,i1,i2,l1,l2];refine Go.bW rfl rfl rfl hee ?_;by_cases hq:x=y
   .rw[ZN hq];apply sG;simp only[go_sem,seval,t0,t1,t5,r1];exact⟨_,by omega,j+1,by omega,rfl,by rw[tx,ty,ht,hq],by simp⟩
   .rw[Zz hq];apply sG;simp only[go_sem,seval];exact ak.same (by rw[Zz (hxy hq)])
  .have q1:((j:Int)<xs.length)=False:=T';apply sR;simp only[go_sem,seval,t0,t5,n1,q1];refine ak.same ?_;rw[jW (by omega),jW (by omega)]at ht;rw[ZN ht]
 .have q:((xs.length:Int)≠ys.length)=True:=Yi;apply sR;simp only[go_sem,seval,c11,n1,n2,q];exact ak.same (by rw[Zz λh=>hlen (by rw[h])])
def iG(g:V->Option V):List V->Option (List V)
 |[]=>some []
 |v::vs=>match g v with
  |some u=>(match iG g vs with
   |some us=>some (u::us)
   |none=>none)
  |none=>none
def fzQ:Nat->Tr (Option Ob)->V->Option V
 |0,_,_=>none
 |f+1,U,v=>match v with
  |.own id off len=>match fj none id U with
   |some ob=>@Bool.casesOn (λ_=>Option V) (Nat.ble (off+len) ob.rows.length) none ((iG (fzQ f U) ((ob.rows.drop off).take len)).map (.sl ob.sz))
   |none=>none
  |.ptr id i k=>@Bool.casesOn (λ_=>Option V) (Nat.beq k 0) none (match fj none id U with
   |some ob=>(match ob.rows[i]? with
    |some r=>(fzQ f U r).map .rp
    |none=>none)
   |none=>none)
  |.sl sz rows=>(iG (fzQ f U) rows).map (.sl sz)
  |.agg cs=>(iG (fzQ f U) cs).map .agg
  |.P' cs=>(iG (fzQ f U) cs).map .P'
  |.fn g cs=>(iG (fzQ f U) cs).map (.fn g)
  |.bm g cs=>(iG (fzQ f U) cs).map (.bm g)
  |.iface t u=>(fzQ f U u).map (.iface t)
  |v=>@Bool.casesOn (λ_=>Option V) v.cu none (some v)
def o5{g:V->Option V}(hg:∀v u,g v=some u->u.cu=true):∀{l m:List V},iG g l=some m->cj m=true
 |[],m,h=>by simp only[iG,aB]at h;subst h;rfl
 |v::vs,m,h=>by
  simp only[iG]at h;split at h
  .rename_i u hu;split at h
   .rename_i us hus;simp only[aB]at h;subst h;simp only[cj,hg v u hu,o5 hg hus,Bool.and_self]
   .cases h
  .cases h
def AE{g:V->Option V}(hg:∀v u,g v=some u->v.cu=true->u=v):∀{l m:List V},iG g l=some m->cj l=true->m=l
 |[],m,h,_=>by simp only[iG,aB]at h;exact h.symm
 |v::vs,m,h,hn=>by
  simp only[cj,Ba]at hn;simp only[iG]at h;split at h
  .rename_i u hu;split at h
   .rename_i us hus;simp only[aB]at h;subst h;rw[hg v u hu hn.1,AE hg hus hn.2]
   .cases h
  .cases h
def mn:∀(f:Nat) (U:Tr (Option Ob)) (v u:V),fzQ f U v=some u->u.cu=true
 |0,_,_,_,h=>by simp[fzQ]at h
 |f+1,U,v,u,h=>by
  have hL:∀{l m:List V},iG (fzQ f U) l=some m->cj m=true:=λh=>o5 (mn f U) h;cases v<;>simp only[fzQ,bO]at h
  case own id off len=>
   split at h
   .split at h
    .simp only[Zq8]at h;obtain⟨m,hm,rfl⟩:=h;simpa[V.cu]using hL hm
    .cases h
   .cases h
  case ptr id i k=>
   split at h
   .split at h
    .split at h
     .simp only[Zq8]at h;obtain⟨m,hm,rfl⟩:=h;simpa[V.cu]using mn f U _ _ hm
     .cases h
    .cases h
   .cases h
  case iface=>
   simp only[Zq8]at h;obtain⟨m,hm,rfl⟩:=h;simpa[V.cu]using mn f U _ _ hm
  all_goals first
   |(simp only[Zq8]at h
     obtain⟨m,hm,rfl⟩:=h;simpa[V.cu]using hL hm)
   |(split at h
     .rename_i hn;simp only[aB]at h;subst h;exact hn
     .cases h)
def EM:∀(f:Nat) (U:Tr (Option Ob)) (v u:V),fzQ f U v=some u->v.cu=true->u=v
 |0,_,_,_,h,_=>by simp[fzQ]at h
 |f+1,U,v,u,h,hn=>by
  have hL:∀{l m:List V},iG (fzQ f U) l=some m->cj l=true->m=l:=λh=>AE (EM f U) h;cases v<;>simp only[fzQ,bO]at h
  case own=>simp[V.cu]at hn
  case ptr=>simp[V.cu]at hn
  case iface=>
   simp only[V.cu]at hn;simp only[Zq8]at h;obtain⟨m,hm,rfl⟩:=h;rw[EM f U _ _ hm hn]
  all_goals first
   |(simp only[V.cu]at hn
     simp only[Zq8]at h;obtain⟨m,hm,rfl⟩:=h;rw[hL hm hn])
   |(split at h<;>first|exact absurd hn ‹_›|(simp only[aB,reduceCtorEq]at h;try exact h.symm))
def vV{R:Nat->Nat->Prop}{Zt:Tr (Option Ob)}{U:af}(hm:Lv R (ZQ Zt) U):∀(f:Nat) (v u v':V),fzQ f Zt v=some v'->aq R v u->Fz U (λa=>∃c o,R c a/\ZQ Zt c=some o) u v'
 |0,_,_,_,h,_=>by simp[fzQ]at h
 |f+1,v,u,v',h,hr=>by
  have hL:∀(vs us out:List V),iG (fzQ f Zt) vs=some out->aD R vs us->FzL U (λa=>∃c o,R c a/\ZQ Zt c=some o) us out:=by
   intro vs
   induction vs with
   |nil=>
    intro us out h1 h2;rw[aD.eX]at h2;subst h2;simp only[iG,aB]at h1;subst h1;exact .nil
   |cons a vs ih=>
    intro us out h1 h2;obtain⟨b,bs,rfl,h3,h4⟩:=aD.bu.1 h2;simp only[iG]at h1;split at h1
    .rename_i c hc;split at h1
     .rename_i cs hcs;simp only[aB]at h1;subst h1;exact .cons _ _ _ _ (vV hm f _ _ _ hc h3) (ih _ _ hcs h4)
     .cases h1
    .cases h1
  cases v<;>simp only[fzQ,bO]at h
  case own id off len=>
   split at h
   .rename_i ob Zb;split at h
    .rename_i hle;simp only[Zq8]at h;obtain⟨rows,h3,rfl⟩:=h;simp only[aq]at hr;obtain⟨ZL,rfl,hR⟩:=hr;obtain⟨Yc,g1,g2⟩:=hm _ ZL ob hR Zb;have:=hL _ _ _ h3 ((g2.drop _).take _);exact .own ZL _ _ ⟨ob.elem,ob.sz,Yc⟩ _ g1 ⟨_,ob,hR,Zb⟩ (by rw[g2.length];exact nH hle) this
    .cases h
   .cases h
  case ptr id i k=>
   split at h
   .rename_i hk;split at h
    .rename_i ob Zb;split at h
     .rename_i r hri;simp only[Zq8]at h;obtain⟨r',h3,rfl⟩:=h;simp only[aq]at hr;obtain⟨ZL,rfl,hR⟩:=hr;obtain⟨Yc,g1,g2⟩:=hm _ ZL ob hR Zb;obtain⟨q,g3,g4⟩:=g2.get hri;have hk0:k=0:=gC hk;subst hk0;exact .ptr ZL _ ⟨ob.elem,ob.sz,Yc⟩ q r' g1 ⟨_,ob,hR,Zb⟩ g3 (vV hm f _ _ _ h3 g4)
     .cases h
    .cases h
   .cases h
  case iface t x=>
   simp only[aq]at hr;obtain⟨y,rfl,hr⟩:=hr;simp only[Zq8]at h;obtain⟨m,hm',rfl⟩:=h;exact .iface _ _ _ (vV hm f _ _ _ hm' hr)
  case sl sz rows=>
   simp only[aq]at hr;obtain⟨y,rfl,hr⟩:=hr;simp only[Zq8]at h;obtain⟨m,hm',rfl⟩:=h;exact .sl _ _ _ (hL _ _ _ hm' hr)
  case agg=>
   simp only[aq]at hr;obtain⟨y,rfl,hr⟩:=hr;simp only[Zq8]at h;obtain⟨m,hm',rfl⟩:=h;exact .agg _ _ (hL _ _ _ hm' hr)
  case P'=>
   simp only[aq]at hr;obtain⟨y,rfl,hr⟩:=hr;simp only[Zq8]at h;obtain⟨m,hm',rfl⟩:=h;exact .P' _ _ (hL _ _ _ hm' hr)
  case fn=>
   simp only[aq]at hr;obtain⟨y,rfl,hr⟩:=hr;simp only[Zq8]at h;obtain⟨m,hm',rfl⟩:=h;exact .fn _ _ _ (hL _ _ _ hm' hr)
  case bm=>
   simp only[aq]at hr;obtain⟨y,rfl,hr⟩:=hr;simp only[Zq8]at h;obtain⟨m,hm',rfl⟩:=h;exact .bm _ _ _ (hL _ _ _ hm' hr)
  all_goals (split at h
             .rename_i YE;simp only[aB]at h;subst h;have:=pq _ _ YE hr;subst this;exact .same _ YE
             .cases h)
def Gx{R:Nat->Nat->Prop}{Zt:Tr (Option Ob)}{U:af}(hm:Lv R (ZQ Zt) U){f:Nat}:∀(vs us out:List V),iG (fzQ f Zt) vs=some out->aD R vs us->WkL U iN us out
 |[],us,out,h1,h2=>by
  rw[aD.eX]at h2;subst h2;simp only[iG,aB]at h1;subst h1;simp[WkL]
 |a::vs,us,out,h1,h2=>by
  obtain⟨b,bs,rfl,h3,h4⟩:=aD.bu.1 h2;simp only[iG]at h1;split at h1
  .rename_i c hc;split at h1
   .rename_i cs hcs;simp only[aB]at h1;subst h1;simp only[WkL];exact⟨(vV hm f _ _ _ hc h3).wk (mc U) (λ_ _=>rfl),Gx hm _ _ _ hcs h4⟩
   .cases h1
  .cases h1
inductive Fk where
 |code (vf:Yh)
 |fz (vf:Yh)
 |orc (g:List V->Option V)
def AQ(U:Tr (Option Ob))(args:List V)(h:List V->Option V)(YA:Nat):Option Rs:=match iG (fzQ 40 U) args with
 |some as1=>(match h as1 with
  |some v=>@Bool.casesOn (λ_=>Option Rs) (v.cu&&(cj args||v.scalar)) none (some ⟨v,U,YA⟩)
  |none=>none)
 |none=>none
def evZ(run:Nat->bc->CS->Out)(vf:Yh)(as1:List V):Option V:=@Bool.casesOn (λ_=>Option V) (Nat.ble as1.length vf.n) none
 (match Nu vf.res (run 0 vf.code ⟨Tr.ofL as1 0 .e,.e,0⟩)with
   |some r=>fzQ 40 r.U r.v
   |none=>none)
def iU(run:Nat->bc->CS->Out)(T:FuncId->Option Fk):gr:=λf args U YA fl=>match T f with
 |none=>none
 |some k=>match k with
  |.code vf=>@Bool.casesOn (λ_=>Option Rs) (Nat.ble args.length vf.n) none (Nu vf.res (run fl vf.code ⟨Tr.ofL args 0 .e,U,YA⟩))
  |.fz vf=>AQ U args (evZ run vf) YA
  |.orc g=>AQ U args g YA
variable {P:Program} {n:Nat}
def zA{f:FuncId}{h:List V->Option V}(hp:∀as1 v,h as1=some v->cj as1=true->v.cu=true->aJ P f as1 v){args:List V}{Zc:Tr (Option Ob)}{YA fl:Nat}{r:Rs}(hr:AQ Zc args h YA=some r)
 {K:af}{R:Nat->Nat->Prop}{U:af}{args':List V}(hm:fW K fl R (ZQ Zc) YA U)(ha:aD R args args'):
 au P f args' U λv Z'=>∃R',Le R R'/\aq R' r.v v/\fW K fl R' (ZQ r.U) r.YA Z':=by
 unfold AQ at hr;split at hr
 .rename_i as1 h1;split at hr
  .rename_i v h2;rw[bO]at hr;split at hr
   .rename_i hc;simp only[Ba,kU]at hc;simp only[aB]at hr;subst hr;have hno1:=o5 (mn 40 Zc) h1;have hpf:=hp as1 v h2 hno1 hc.1;have key:au P f args' U λr Z'=>r=v/\Z'=U:=by
     rcases hc.2 with h3|h3
     .have e1:as1=args:=AE (EM 40 Zc) h1 h3;have e2:args'=args:=jw _ _ h3 ha;rw[e2,<-e1];exact hpf U
     .exact aJ.borrow (Gx hm.live _ _ _ h1 ha) hpf h3
    refine key.AL ?_;rintro r Z' ⟨rfl,rfl⟩;exact⟨r,Z',aa.refl _,Wk.refl (aa.refl _) _,R,Le.refl R,cT _ hc.1,hm⟩
   .cases hr
  .cases hr
 .cases hr
def iP(g:V->V->Bool):List V->List V->Bool
 |[],[]=>true
 |v::vs,u::us=>@Bool.casesOn (λ_=>Bool) (g v u) false (iP g vs us)
 |_,_=>false
def rP:Nat->V->V->Bool
 |0,_,_=>false
 |f+1,v,u=>match v with
  |.int k n=>match u with
   |.int k' n'=>eqK k k'&&eqQ n n'
   |_=>false
  |.bool b=>match u with
   |.bool b'=>b==b'
   |_=>false
  |.str b=>match u with
   |.str b'=>decide (b=b')
   |_=>false
  |.aC=>match u with
   |.aC=>true
   |_=>false
  |.nilp=>match u with
   |.nilp=>true
   |_=>false
  |.own a b c=>match u with
   |.own a' b' c'=>Nat.beq a a'&&(Nat.beq b b'&&Nat.beq c c')
   |_=>false
  |.ptr a b c=>match u with
   |.ptr a' b' c'=>Nat.beq a a'&&(Nat.beq b b'&&Nat.beq c c')
   |_=>false
  |.sl sz rows=>match u with
   |.sl sz' Yc=>Nat.beq sz sz'&&iP (rP f) rows Yc
   |_=>false
  |.rp x=>match u with
   |.rp y=>rP f x y
   |_=>false
  |.fn g cs=>match u with
   |.fn g' ds=>decide (g=g')&&iP (rP f) cs ds
   |_=>false
  |.agg cs=>match u with
   |.agg ds=>iP (rP f) cs ds
   |_=>false
  |.P' cs=>match u with
   |.P' ds=>iP (rP f) cs ds
   |_=>false
  |.iface a x=>match u with
   |.iface b y=>Nat.beq a b&&rP f x y
   |_=>false
  |.Yz=>match u with
   |.Yz=>true
   |_=>false
  |.YQ=>match u with
   |.YQ=>true
   |_=>false
  |_=>false
def u5{g:V->V->Bool}(hg:∀v u,g v u=true->v=u):∀{l m:List V},iP g l m=true->l=m
 |[],[],_=>rfl
 |v::vs,u::us,h=>by
  simp only[iP,bO]at h;split at h
  .rename_i hv;rw[hg v u hv,u5 hg h]
  .cases h
 |[],_::_,h=>by simp[iP]at h
 |_::_,[],h=>by simp[iP]at h
def nj:∀(f:Nat) (v u:V),rP f v u=true->v=u
 |0,_,_,h=>by simp[rP]at h
 |f+1,v,u,h=>by
  have hL:∀{l m:List V},iP (rP f) l m=true->l=m:=λh=>u5 (nj f) h;cases v<;>cases u<;>simp only[rP,eT,Ba,Zq9,beq_iff_eq]at h<;>try rfl
  case int.int=>rw[GC h.2,of_decide_eq_true (p:=_=_) h.1]
  case bool.bool=>rw[h]
  case str.str=>rw[h]
  case own.own=>rw[gC h.1,gC h.2.1,gC h.2.2]
  case ptr.ptr=>rw[gC h.1,gC h.2.1,gC h.2.2]
  case sl.sl=>rw[gC h.1,hL h.2]
  case rp.rp=>rw[nj f _ _ h]
  case fn.fn=>rw[h.1,hL h.2]
  case agg.agg=>rw[hL h]
  case P'.P'=>rw[hL h]
  case iface.iface=>rw[gC h.1,nj f _ _ h.2]
section
variable {R:Nat->Nat->Prop}
mutual
/-- numbers stand for one number -/
def aq.fun(hf:∀c a a',R c a->R c a'->a=a'):∀(v u u':V),aq R v u->aq R v u'->u=u'
 |.own id off len,u,u',h,h'=>by simp only[aq]at h h';obtain⟨i,rfl,r⟩:=h;obtain⟨j,rfl,r'⟩:=h';rw[hf _ _ _ r r']
 |.ptr id i k,u,u',h,h'=>by simp only[aq]at h h';obtain⟨i,rfl,r⟩:=h;obtain⟨j,rfl,r'⟩:=h';rw[hf _ _ _ r r']
 |.sl sz rows,u,u',h,h'=>by simp only[aq]at h h';obtain⟨i,rfl,r⟩:=h;obtain⟨j,rfl,r'⟩:=h';rw[aD.fun hf _ _ _ r r']
 |.rp v,u,u',h,h'=>by simp only[aq]at h h';obtain⟨i,rfl,r⟩:=h;obtain⟨j,rfl,r'⟩:=h';rw[aq.fun hf _ _ _ r r']
 |.fn f caps,u,u',h,h'=>by simp only[aq]at h h';obtain⟨i,rfl,r⟩:=h;obtain⟨j,rfl,r'⟩:=h';rw[aD.fun hf _ _ _ r r']
 |.bm f caps,u,u',h,h'=>by simp only[aq]at h h';obtain⟨i,rfl,r⟩:=h;obtain⟨j,rfl,r'⟩:=h';rw[aD.fun hf _ _ _ r r']
 |.iface t v,u,u',h,h'=>by simp only[aq]at h h';obtain⟨i,rfl,r⟩:=h;obtain⟨j,rfl,r'⟩:=h';rw[aq.fun hf _ _ _ r r']
 |.agg c,u,u',h,h'=>by simp only[aq]at h h';obtain⟨i,rfl,r⟩:=h;obtain⟨j,rfl,r'⟩:=h';rw[aD.fun hf _ _ _ r r']
 |.P' c,u,u',h,h'=>by simp only[aq]at h h';obtain⟨i,rfl,r⟩:=h;obtain⟨j,rfl,r'⟩:=h';rw[aD.fun hf _ _ _ r r']
 |.undef,u,u',h,h'=>by simp only[aq]at h h';rw[h,h']
 |.int k n,u,u',h,h'=>by simp only[aq]at h h';rw[h,h']
 |.bool b,u,u',h,h'=>by simp only[aq]at h h';rw[h,h']
 |.str s,u,u',h,h'=>by simp only[aq]at h h';rw[h,h']
 |.aC,u,u',h,h'=>by simp only[aq]at h h';rw[h,h']
 |.nilp,u,u',h,h'=>by simp only[aq]at h h';rw[h,h']
 |.YQ,u,u',h,h'=>by simp only[aq]at h h';rw[h,h']
 |.Yz,u,u',h,h'=>by simp only[aq]at h h';rw[h,h']
 |.raw v,u,u',h,h'=>by simp only[aq]at h h';rw[h,h']
 |.obj v,u,u',h,h'=>by simp only[aq]at h h';rw[h,h']
 |.gp v,u,u',h,h'=>by simp only[aq]at h h';rw[h,h']
 |.yl v,u,u',h,h'=>by simp only[aq]at h h';obtain⟨i,rfl,r⟩:=h;obtain⟨j,rfl,r'⟩:=h';rw[hf _ _ _ r r']
 |.mp v,u,u',h,h'=>by simp only[aq]at h h';rw[h,h']
def aD.fun(hf:∀c a a',R c a->R c a'->a=a'):∀(v u u':List V),aD R v u->aD R v u'->u=u'
 |[],u,u',h,h'=>by simp only[aD]at h h';rw[h,h']
 |v::vs,u,u',h,h'=>by
  simp only[aD]at h h';obtain⟨a,as1,rfl,r,rs⟩:=h;obtain⟨b,bs,rfl,r',rs'⟩:=h';rw[aq.fun hf _ _ _ r r',aD.fun hf _ _ _ rs rs']
end
end
def Uw(dst:Option Nat)(tbl:List (TypeId×FuncId))(rx:VX)(xs:List VX):BI:=⟨λcall fl cs=>match rx.ev cs.sf with
 |.iface t v=>match tbl.lookup t with
  |some f=>ir dst cs (call f (v::xs.map (·.ev cs.sf)) cs.U cs.YA fl)
  |none=>none
 |_=>none⟩
def IA(dst:Option Nat)(fx:VX)(xs:List VX):BI:=⟨λcall fl cs=>match fx.ev cs.sf with
 |.fn f caps=>ir dst cs (call f (xs.map (·.ev cs.sf)++caps) cs.U cs.YA fl)
 |.bm f first=>ir dst cs (call f (first++xs.map (·.ev cs.sf)) cs.U cs.YA fl)
 |_=>none⟩
def ON(dst:Option Nat)(neg:Bool)(x:VX):BI:=⟨λ_ _ cs=>match x.ev cs.sf with
 |.YQ=>some (cs.put dst (.bool (true != neg)))
 |.fn _ _=>some (cs.put dst (.bool (false != neg)))
 |_=>none⟩
def Fq(dst:Option Nat)(xa xv:VX):BI:=⟨λ_ _ cs=>match xa.ev cs.sf with
 |.rp _=>(match xv.ev cs.sf with
  |.agg []=>some (cs.put dst (.P' []))
  |_=>none)
 |_=>none⟩
def OO(dst:Option Nat)(neg:Bool)(x:VX):BI:=⟨λ_ _ cs=>match x.ev cs.sf with
 |.Yz=>some (cs.put dst (.bool (true != neg)))
 |.iface _ _=>some (cs.put dst (.bool (false != neg)))
 |_=>none⟩
def OD(dst:Option Nat)(x:VX):BI:=⟨λ_ _ cs=>match x.ev cs.sf with
 |.aC=>some (cs.put dst (.bool true))
 |.sl _ (_::_)=>some (cs.put dst (.bool false))
 |.own _ _ (_+1)=>some (cs.put dst (.bool false))
 |_=>none⟩
def Al(dst:Option Nat)(op:Yw):BI:=match op with
 |.more (.inv tbl) (rx::xs)=>Uw dst tbl rx xs
 |.more .oF []=>⟨λ_ _ cs=>some (cs.put dst (.rp (.agg [])))⟩
 |.more .oL [xa,xv]=>Fq dst xa xv
 |.call fx xs=>IA dst fx xs
 |.ZG neg x (.c (.iface 2 .undef))=>ON dst neg x
 |.ZG neg x (.c (.iface 1 .undef))=>OO dst neg x
 |.ZG false x (.c (.iface 0 .undef))=>OD dst x
 |op=>ju false dst op
def ou(i:az):BI:=match i.g with
 |none=>Al i.dst i.op
 |some (x,b)=>⟨λcall fl cs=>te i.dst b (Al i.dst i.op) call fl cs (x.ev cs.sf)⟩
def nb(call:gr)(fl m:Nat):List az->CS->Out:=
 @Nat.rec (λ_=>List az->CS->Out) (λ_ _=>.bad)
  (λ_ ih l cs=>@List.casesOn az (λ_=>Out) l (.nx cs)
    (λi l'=>@BI.casesOn (λ_=>Out) (ou i) λf=>@Option.casesOn CS (λ_=>Out) (f call fl cs) .bad (ih l'))) m
def tp(g:V->List Nat):List V->List Nat
 |[]=>[]
 |v::vs=>g v++tp g vs
def qk:Nat->Tr (Option Ob)->V->List Nat
 |0,_,_=>[]
 |f+1,U,v=>match v with
  |.own id off len=>id::(match fj none id U with
   |some ob=>tp (qk f U) ((ob.rows.drop off).take len)
   |none=>[])
  |.ptr id i _=>id::(match fj none id U with
   |some ob=>(match ob.rows[i]? with
    |some r=>qk f U r
    |none=>[])
   |none=>[])
  |.sl _ rows=>tp (qk f U) rows
  |.agg cs=>tp (qk f U) cs
  |.P' cs=>tp (qk f U) cs
  |.fn _ cs=>tp (qk f U) cs
  |.bm _ cs=>tp (qk f U) cs
  |.iface _ u=>qk f U u
  |_=>[]
def En(dst:Option Nat)(cs:CS):Option Rs->Option CS
 |some r=>@Bool.casesOn (λ_=>Option CS) r.v.cu (@Bool.casesOn (λ_=>Option CS) ((qk 40 r.U r.v).all λc=>Nat.ble cs.YA c) none (match fzQ 40 r.U r.v with
  |some v=>some (cs.put dst v)
  |none=>none)) (some (cs.put dst r.v))
 |none=>none
def Jt(dst:Option Nat)(fx:VX)(xs:List VX):BI:=⟨λcall _ cs=>match fx.ev cs.sf with
 |.fn f caps=>En dst cs (call f (xs.map (·.ev cs.sf)++caps) cs.U cs.YA cs.YA)
 |_=>none⟩
def zZ(dst:Option Nat)(op:Yw):BI:=match op with
 |.call fx xs=>Jt dst fx xs
 |op=>ju true dst op
def qn(i:az):BI:=match i.g with
 |none=>zZ i.dst i.op
 |some (x,b)=>⟨λcall fl cs=>te i.dst b (zZ i.dst i.op) call fl cs (x.ev cs.sf)⟩
def mQ(call:gr)(fl m:Nat):List az->CS->Out:=
 @Nat.rec (λ_=>List az->CS->Out) (λ_ _=>.bad)
  (λ_ ih l cs=>@List.casesOn az (λ_=>Out) l (.nx cs)
    (λi l'=>@BI.casesOn (λ_=>Out) (qn i) λf=>@Option.casesOn CS (λ_=>Out) (f call fl cs) .bad (ih l'))) m
def jl(draw:Bool)(call:gr)(fl:Nat)(l:List az)(cs:CS):Out:=match draw with
 |true=>mQ call fl 1000 l cs
 |false=>nb call fl 1000 l cs
def UN:List (List Nat)->List (List Nat)->List (List Nat)
 |acc,[]=>acc
 |acc,d::ds=>UN (acc++[(d++d.flatMap λi=>acc.getD i []).eraseDups]) ds
def Qq(D:List (List Nat))(n:Nat)(done:List Nat):List Nat:=(List.range n).filter λi=>!(done.contains i)&&(D.getD i []).all done.contains
def Jl(l:List az)(D Yu:List (List Nat))(n:Nat):Nat->List Nat->List Nat->List Nat×List Nat
 |0,_,m=>(m,[])
 |f+1,done,m=>match Qq D n done with
  |[]=>(m,[])
  |i::is=>match(i::is).find? (λi=>!(cY l Yu i))with
   |some i=>Jl l D Yu n f (done++[i]) (m++[i])
   |none=>match is with
    |[]=>Jl l D Yu n f (done++[i]) (m++[i])
    |_::_=>(m,i::is)
def Uj(Yu:List (List Nat))(S:List Nat)(s:Nat):Nat->List (List Nat)->List (List Nat)
 |_,[]=>[]
 |j,b::r=>(if !(j==s)&&(S.contains j||b.any λi=>S.contains i&&!(i==s))then(s::(ep Yu s++b)).eraseDups else b)::Uj Yu S s (j+1) r
def Oh(l:List az):Nat->List (List Nat)->List (List Nat)->List Nat->PT
 |0,_,_,_=>.leaf [] []
 |f+1,D,Yu,done=>match Jl l D Yu l.length (l.length+1) done []with
  |(m,[])=>.leaf Yu m
  |(m,s::S)=>.fork Yu m (s::S) ((s::S).map λq=>Oh l f (pH D (s::S) q) (Uj Yu (s::S) q 0 Yu) (done++m))
def Ov(l:List az)(Yo:List (List Nat))(t:PT):Option PT:=@Bool.casesOn (λ_=>Option PT) (Ej l 8 Yo [] t) none (some t)
def FP(l:List az)(Yo:List (List Nat)):Option PT:=Ov l Yo (Oh l 7 Yo (UN [] Yo) [])
def Qa(call:gr)(fl:Nat)(i:az)(cs:CS):Bool:=@Bool.casesOn (λ_=>Bool) (Nat.beq (aX i.op) 0) false (match(wo true i).f call fl cs with
 |some YG=>match i.dst with
  |some d=>rP 40 (YG.sf d) (cs.sf d)
  |none=>true
 |none=>false)
def x5(call:gr)(fl:Nat)(l:List az):List Nat->CS->Out
 |[],cs=>.nx cs
 |m::ms,cs=>match l[m/2]? with
  |none=>.bad
  |some i=>@Bool.casesOn (λ_=>Out) (Nat.beq (m%2) 0)
     (@Bool.casesOn (λ_=>Out) (Qa call fl i cs) .bad (x5 call fl l ms cs))
     (@Bool.casesOn (λ_=>Out) (Nat.ble (aX i.op) 3) .bad (match(wo false i).f call fl cs with
       |some YG=>x5 call fl l ms YG
       |none=>.bad))
def rho(n N r c:Nat):Nat:=@Bool.casesOn (λ_=>Nat) (Nat.blt c n) (@Bool.casesOn (λ_=>Nat) (Nat.blt c N) c (@Bool.casesOn (λ_=>Nat) (Nat.blt (Nat.add c r) N) (Nat.sub (Nat.add c r) (Nat.sub N n)) (Nat.add c r))) c
def nC(ρ:Nat->Nat):Nat->V->V->Bool
 |0,_,_=>false
 |f+1,v,u=>match v with
  |.int k n=>match u with
   |.int k' n'=>eqK k k'&&eqQ n n'
   |_=>false
  |.bool b=>match u with
   |.bool b'=>b==b'
   |_=>false
  |.str b=>match u with
   |.str b'=>decide (b=b')
   |_=>false
  |.aC=>match u with
   |.aC=>true
   |_=>false
  |.nilp=>match u with
   |.nilp=>true
   |_=>false
  |.YQ=>match u with
   |.YQ=>true
   |_=>false
  |.Yz=>match u with
   |.Yz=>true
   |_=>false
  |.own a b c=>match u with
   |.own a' b' c'=>Nat.beq (ρ a) a'&&(Nat.beq b b'&&Nat.beq c c')
   |_=>false
  |.ptr a b c=>match u with
   |.ptr a' b' c'=>Nat.beq (ρ a) a'&&(Nat.beq b b'&&Nat.beq c c')
   |_=>false
  |.yl a=>match u with
   |.yl a'=>Nat.beq (ρ a) a'
   |_=>false
  |.sl sz rows=>match u with
   |.sl sz' Yc=>Nat.beq sz sz'&&iP (nC ρ f) rows Yc
   |_=>false
  |.rp x=>match u with
   |.rp y=>nC ρ f x y
   |_=>false
  |.iface t x=>match u with
   |.iface t' y=>Nat.beq t t'&&nC ρ f x y
   |_=>false
  |.fn g cs=>match u with
   |.fn g' ds=>Nat.beq g g'&&iP (nC ρ f) cs ds
   |_=>false
  |.bm g cs=>match u with
   |.bm g' ds=>Nat.beq g g'&&iP (nC ρ f) cs ds
   |_=>false
  |.agg cs=>match u with
   |.agg ds=>iP (nC ρ f) cs ds
   |_=>false
  |.P' cs=>match u with
   |.P' ds=>iP (nC ρ f) cs ds
   |_=>false
  |_=>false
def E4(ρ:Nat->Nat)(a b:Option Ob):Bool:=match a with
 |none=>(match b with
  |none=>true
  |some _=>false)
 |some x=>(match b with
  |none=>false
  |some y=>Nat.beq x.elem y.elem&&(Nat.beq x.sz y.sz&&iP (nC ρ 40) x.rows y.rows))
def trB{α:Type}(f:α->α->Bool):Tr α->Tr α->Bool
 |.e,.e=>true
 |.n l v r,.n l' v' r'=>@Bool.casesOn (λ_=>Bool) (f v v') false (@Bool.casesOn (λ_=>Bool) (trB f l l') false (trB f r r'))
 |_,_=>false
def IE(U:Tr (Option Ob))(n:Nat):Nat->Tr (Option Ob)
 |0=>U
 |m+1=>kc none none (Nat.add n m) (IE U n m)
def GD(ρ:Nat->Nat)(A B:Tr (Option Ob))(n:Nat):Nat->Bool
 |0=>true
 |m+1=>@Bool.casesOn (λ_=>Bool) (E4 ρ (fj none (Nat.add n m) A) (fj none (ρ (Nat.add n m)) B)) false (GD ρ A B n m)
def Uk(n N r:Nat)(A B:CS):Bool:=@Bool.casesOn (λ_=>Bool) (Nat.ble r (Nat.sub N n)) false (@Bool.casesOn (λ_=>Bool) (GD (rho n N r) A.U B.U n (Nat.sub N n)) false
 (@Bool.casesOn (λ_=>Bool) (trB (nC (rho n N r) 40) A.s B.s) false (trB (E4 (rho n N r)) (IE A.U n (Nat.sub N n)) (IE B.U n (Nat.sub N n)))))
def FX(f:Nat->Bool):Nat->Bool
 |0=>f 0
 |m+1=>@Bool.casesOn (λ_=>Bool) (f (Nat.succ m)) (FX f m) true
def Mx(fl n:Nat)(A B:CS):Bool:=@Bool.casesOn (λ_=>Bool) (Nat.beq A.YA B.YA&&(Nat.ble fl n&&Nat.ble n A.YA)) false (FX (λr=>Uk n A.YA r A B) (Nat.sub A.YA n))
def Fy(g:PT->Out)(fl n:Nat)(A:CS):List PT->Bool
 |[]=>true
 |k::r=>match g k with
  |.nx B=>@Bool.casesOn (λ_=>Bool) (Mx fl n A B) false (Fy g fl n A r)
  |_=>false
def KM(g:PT->Out)(fl n:Nat):List PT->Out
 |[]=>.bad
 |k::r=>match g k with
  |.nx A=>@Bool.casesOn (λ_=>Out) (Fy g fl n A r) .bad (.nx A)
  |_=>.bad
def evT(call:gr)(fl:Nat)(l:List az):Nat->List Nat->PT->CS->Out
 |0,_,_,_=>.bad
 |f+1,pre,t,cs=>match t with
  |.leaf Yu r=>x5 call fl l (dC l Yu pre r) cs
  |.fork Yu m _ kids=>match x5 call fl l (dC l Yu pre m) cs with
   |.nx cs0=>KM (λk=>evT call fl l f (pre++m) k cs0) fl cs0.YA kids
   |_=>.bad
def evA(call:gr)(fl:Nat)(l:List az)(Yo:List (List Nat))(cs:CS):Out:=@Option.casesOn PT (λ_=>Out) (FP l Yo) .bad λt=>evT call fl l 8 [] t cs
def zE:List Nat->Tr (Option Ob)->Tr (Option Ob)
 |[],U=>U
 |c::cs,U=>zE cs (match fj none c U with
  |some _=>kc none none c U
  |none=>U)
def uy:List Nat->List V->Tr V->Tr V
 |p::ps,x::xs,s=>uy ps xs (kc (.P' []) x p s)
 |_,_,s=>s
def DZ(s0:Tr V)(ps:List Nat)(body:CS->Out):List (List V)->Tr (Option Ob)->Nat->Out
 |[],U,YA=>.nx ⟨s0,U,YA⟩
 |x::xs,U,YA=>match body ⟨uy ps x s0,U,YA⟩with
  |.nx cs=>DZ s0 ps body xs cs.U cs.YA
  |.ex id cs=>.ex id ⟨s0,cs.U,cs.YA⟩
  |.rt cs=>.rt ⟨s0,cs.U,cs.YA⟩
  |.bad=>.bad
def C0(run:Nat->bc->CS->Out)(a b:bc)(cs:CS):Out:=match run 0 a cs with
 |.nx YG=>run 0 b YG
 |_=>.bad
def UD(run:Nat->bc->CS->Out)(d:Nat)(gf:FuncId)(ps:List Nat)(a b:bc)(cs:CS)(ids:List Nat)(caps:List V)(xs:List (List V)):Out:=
 @Bool.casesOn (λ_=>Out) (xs.all λx=>cj x&&Nat.beq x.length ps.length) .bad
  (DZ (kc (.P' []) (.fn gf caps) d cs.s) ps (C0 run a b) xs (zE ids cs.U) cs.YA)
def evR(run:Nat->bc->CS->Out)(μ:FuncId->Option (List V->Option (List (List V))))(fl:Nat)(g:VX)(ps:List Nat)(a b:bc)(cs:CS):Out:=
 @Bool.casesOn (λ_=>Out) (Nat.beq fl 0) .bad (match g with
  |.t d=>match cs.sf d with
   |.fn gf caps=>match μ gf with
    |some h=>match iG (fzQ 40 cs.U) caps with
     |some Zl=>match h Zl with
      |some xs=>UD run d gf ps a b cs (tp (qk 40 cs.U) caps) Zl xs
      |none=>.bad
     |none=>.bad
    |none=>.bad
   |_=>.bad
  |.c _=>.bad)
structure Tb where
 fn:FuncId->Option Fk
 it:FuncId->Option (List V->Option (List (List V)))
def cZ(T:Tb)(fuel:Nat):Nat->bc->CS->Out:=
 @Nat.rec (λ_=>Nat->bc->CS->Out) (λ_ _ _=>.bad)
  (λ_ ih fl c cs=>match c with
    |.skip=>.nx cs
    |.reg draw l=>jl draw (iU ih T.fn) fl l cs
    |.seq a b=>yc (ih fl a cs) λYG=>ih fl b YG
    |.cond c a b=>onB (c.ev cs.sf) (ih fl a cs) (ih fl b cs)
    |.block id a=>Qh id (ih fl a cs)
    |.loop a=>yc (ih fl a cs) λYG=>ih fl (.loop a) YG
    |.exit id=>.ex id cs
    |.ret=>.rt cs
    |.cE g ps a b=>evR ih T.it fl g ps a b cs
    |.regA l Yo=>evA (iU ih T.fn) fl l Yo cs
    |.nB l e=>yc (jl true (iU ih T.fn) fl l cs) λYG=>jl false (iU ih T.fn) fl e YG
    |.bad=>.bad) fuel
variable {P:Program} {n:Nat}
def bT:bc->Bool
 |.reg _ l=>l.all dv
 |.seq a b=>bT a&&bT b
 |.cond c a b=>okX c&&(bT a&&bT b)
 |.block _ a=>bT a
 |.loop a=>bT a
 |.cE _ _ a b=>bT a&&bT b
 |.regA l _=>l.all dv
 |.nB l e=>l.all dv&&e.all dv
 |_=>true
def mo(f:Yh):Bool:=bT f.code&&f.res.all F3
def DR{o:Op}{xs:List VX}(h:Yn P n o=.more .oF xs):∃t,o=.alloc t/\nt P t=true:=by
 cases o
 case alloc t=>
  simp only[Yn]at h;split at h
  .cases h
  .split at h
   .rename_i hn;exact⟨t,rfl,hn⟩
   .cases h
 case call c=>
  obtain⟨callee,args,argTypes⟩:=c;cases callee
  case builtin b=>cases b<;>simp only[Yn]at h<;>(repeat' split at h)<;>cases h
  all_goals (simp only[Yn]at h;cases h)
 case unOp op t x=>cases op<;>simp only[Yn]at h<;>cases h
 case makeFunc f a b=>cases f<;>simp only[Yn]at h<;>(repeat' split at h)<;>cases h
 case binOp op t x y yt=>cases op<;>simp only[Yn,bR]at h<;>(repeat' split at h)<;>cases h
 all_goals (simp only[Yn]at h;(repeat' split at h)<;>cases h)
def B3{o:Op}{xs:List VX}(h:Yn P n o=.more .oL xs):∃t x y,o=.store t x y/\nt P t=true/\xs=[cx n x,cx n y]:=by
 cases o
 case store t x y=>
  simp only[Yn]at h;split at h
  .cases h
  .split at h
   .rename_i hn;simp only[Yw.more.injEq,true_and]at h;exact⟨t,x,y,rfl,hn,h.symm⟩
   .cases h
 case call c=>
  obtain⟨callee,args,argTypes⟩:=c;cases callee
  case builtin b=>cases b<;>simp only[Yn]at h<;>(repeat' split at h)<;>cases h
  all_goals (simp only[Yn]at h;cases h)
 case unOp op t x=>cases op<;>simp only[Yn]at h<;>cases h
 case makeFunc f a b=>cases f<;>simp only[Yn]at h<;>(repeat' split at h)<;>cases h
 case binOp op t x y yt=>cases op<;>simp only[Yn,bR]at h<;>(repeat' split at h)<;>cases h
 all_goals (simp only[Yn]at h;(repeat' split at h)<;>cases h)
def ab.L6{st:St}{Q:St->Prop}{k:List It}{i:az}{l:List az}(hw:aP st.s i.g=some true)(ho:i.op=.more .oF [])
 (h:ab P n (.ops l::k) ⟨aN st.s i.dst (.rp (.agg [])),st.U⟩ Q):ab P n (.ops (i::l)::k) st Q:=by
 refine ab.ins (by rw[ho];simp) hw λF hn I a w o all hi hs next Q' Yd=>?_
 subst hn;obtain⟨Yf,hd⟩:=bZ hi;rw[ho]at Yf;obtain⟨t,g1,hn⟩:=DR Yf;have YD:(execOp a.eval o).run P w=.ok (.value (.pointer (some ⟨w.heap.size,0,none⟩))) (w.alloc (.cells #[] t)):=by
  unfold execOp;rw[g1];simp[Instr.alloc,o9 hn,newVar,newRow,Value.cells]
 unfold Oper.wp;rw[YD];obtain⟨h1,hk⟩:=hs.sat.more (.cells #[] t);refine Yd _ _ _ ⟨I,?_⟩ h;rw[<-hd];exact hs.step h1 (cD.refl I) hk (by simp) (by simp only[E'];exact⟨w.heap.size,0,rfl,by simp,.inl rfl,by simp[bj,aM]⟩)
def ab.L7{st:St}{Q:St->Prop}{k:List It}{i:az}{l:List az}{xa xv:VX}{u:V}(hw:aP st.s i.g=some true)(ho:i.op=.more .oL [xa,xv])(ha:xa.ev st.s=.rp u)(hv:xv.ev st.s=.agg [])
 (h:ab P n (.ops l::k) ⟨aN st.s i.dst (.P' []),st.U⟩ Q):ab P n (.ops (i::l)::k) st Q:=by
 refine ab.ins (by rw[ho];simp) hw λF hn I a w o all hi hs next Q' Yd=>?_
 subst hn;obtain⟨Yf,hd⟩:=bZ hi;rw[ho]at Yf;obtain⟨t,x,y,g1,hn,g2⟩:=B3 Yf;simp only[List.cons.injEq,and_true]at g2;obtain⟨rfl,rfl⟩:=g2;have R1:=bE hs x;have R2:=bE hs y;rw[ha]at R1;rw[hv]at R2;simp only[E']at R1 R2;obtain⟨b,off,e1,_⟩:=R1;obtain⟨Yl,e2,e3,_⟩:=R2;simp only[al]at e3;subst e3;obtain⟨ti,_,hti,hsz,_⟩:=lW hn;have YD:(execOp a.eval o).run P w=.ok .skip w:=by
  unfold execOp;rw[g1];simp[Instr.storeAt,Instr.sureAddr,e1,e2,storeVar,sizeOf,typeInfo,hti,hsz,Value.cells,storeCells]
 unfold Oper.wp;rw[YD];refine Yd _ _ _ ⟨I,?_⟩ h;rw[<-hd];exact hs.pure (by simp[E',al,undef])
def ab.Kk{st:St}{Q:St->Prop}{k:List It}{i:az}{l:List az}{xa:VX}(hw:aP st.s i.g=some true)(ho:i.op=.ZG false xa (.c (.iface 0 .undef))){b:Bool}
 (hx:(xa.ev st.s=.aC/\b=true)\/(∃sz r rows,xa.ev st.s=.sl sz (r::rows)/\b=false)\/∃id off m,xa.ev st.s=.own id off (m+1)/\b=false)
 (h:ab P n (.ops l::k) ⟨aN st.s i.dst (.bool b),st.U⟩ Q):ab P n (.ops (i::l)::k) st Q:=by
 refine ab.ins (by rw[ho];simp) hw λF hn I a w o all hi hs next Q' Yd=>?_
 subst hn;obtain⟨Yf,hd⟩:=bZ hi;rw[ho]at Yf;obtain⟨t,x,y,m,c,yt,e,g1,rfl,g2,rfl⟩:=vL Yf;have R:=bE hs x;have hX:∃ba len cap,a.eval x=.slice ba len cap/\ba.isNone=b:=by
  rcases hx with⟨hx,rfl⟩|⟨sz,r,rows,hx,rfl⟩|⟨id,off,m,hx,rfl⟩
  .rw[hx]at R;simp only[E']at R;exact⟨none,0,0,R,rfl⟩
  .rw[hx]at R;simp only[E']at R;obtain⟨ba,cap,hX,_,hr⟩:=R;rcases hr with hr|⟨b,off,rfl,_⟩
   .cases hr
   .exact⟨_,_,_,hX,rfl⟩
  .rw[hx]at R;simp only[E']at R;split at R
   .exact R.elim
   .exact absurd R.2.2 (by omega)
   .obtain⟨o,c,hX,_⟩:=R;exact⟨_,_,_,hX,rfl⟩
 obtain⟨ba,len,cap,hX,rfl⟩:=hX;have YD:(execOp a.eval o).run P w=.ok (.value (.bool ba.isNone)) w:=by
  unfold execOp;rw[g1];have hY:a.eval (.const (.slice none m c))=.slice none m c:=rfl;simp[hX,hY,eqGuard,Lib.run_eql_slice_nil w t e ba len cap m c g2]
 unfold Oper.wp;rw[YD];refine Yd _ _ _ ⟨I,?_⟩ h;rw[<-hd];exact hs.pure (by simp[E'])
def VF(P:Program)(g:FuncId):Fk->Prop
 |.code vf=>bV P g=true/\mo vf=true/\∃fn,P.funcs[g]?=some fn/\cfn P fn=some vf
 |.fz vf=>bV P g=true/\mo vf=true/\∃fn,P.funcs[g]?=some fn/\cfn P fn=some vf
 |.orc h=>∀as1 v,h as1=some v->cj as1=true->v.cu=true->aJ P g as1 v
structure TOk(P:Program)(T:Tb):Prop where
 mix:P.follows .mixedOrders=true
 fn:∀g k,T.fn g=some k->VF P g k
 it:∀g h,T.it g=some h->∀caps xs,h caps=some xs->cj caps=true->Iter P g caps xs
def rb{R:Nat->Nat->Prop}{Zt:Tr (Option Ob)}{U:af}(hm:Lv R (ZQ Zt) U){N:Nat->Prop}:∀(f:Nat) (v u v':V),fzQ f Zt v=some v'->aq R v u->
 (∀c∈qk f Zt v,∀a o,R c a->ZQ Zt c=some o->N a)->Fz U N u v'
 |0,_,_,_,h,_,_=>by simp[fzQ]at h
 |f+1,v,u,v',h,hr,hN=>by
  have hL:∀(vs us out:List V),iG (fzQ f Zt) vs=some out->aD R vs us->(∀c∈tp (qk f Zt) vs,∀a o,R c a->ZQ Zt c=some o->N a)->FzL U N us out:=by
   intro vs
   induction vs with
   |nil=>
    intro us out h1 h2 _;rw[aD.eX]at h2;subst h2;simp only[iG,aB]at h1;subst h1;exact .nil
   |cons a vs ih=>
    intro us out h1 h2 hN;obtain⟨b,bs,rfl,h3,h4⟩:=aD.bu.1 h2;simp only[tp,db]at hN;simp only[iG]at h1;split at h1
    .rename_i c hc;split at h1
     .rename_i cs hcs;simp only[aB]at h1;subst h1;exact .cons _ _ _ _ (rb hm f _ _ _ hc h3 λc hc=>hN c (.inl hc)) (ih _ _ hcs h4 λc hc=>hN c (.inr hc))
     .cases h1
    .cases h1
  cases v<;>simp only[fzQ,bO]at h<;>simp only[qk]at hN
  case own id off len=>
   split at h
   .rename_i ob Zb;simp only[Zb,cm]at hN;split at h
    .rename_i hle;simp only[Zq8]at h;obtain⟨rows,h3,rfl⟩:=h;simp only[aq]at hr;obtain⟨ZL,rfl,hR⟩:=hr;obtain⟨Yc,g1,g2⟩:=hm _ ZL ob hR Zb;have:=hL _ _ _ h3 ((g2.drop _).take _) λc hc=>hN c (.inr hc);exact .own ZL _ _ ⟨ob.elem,ob.sz,Yc⟩ _ g1 (hN id (.inl rfl) ZL ob hR Zb) (by rw[g2.length];exact nH hle) this
    .cases h
   .cases h
  case ptr id i k=>
   split at h
   .rename_i hk;split at h
    .rename_i ob Zb;split at h
     .rename_i r hri;simp only[Zb,hri,cm]at hN;simp only[Zq8]at h;obtain⟨r',h3,rfl⟩:=h;simp only[aq]at hr;obtain⟨ZL,rfl,hR⟩:=hr;obtain⟨Yc,g1,g2⟩:=hm _ ZL ob hR Zb;obtain⟨q,g3,g4⟩:=g2.get hri;have hk0:k=0:=gC hk;subst hk0;exact .ptr ZL _ ⟨ob.elem,ob.sz,Yc⟩ q r' g1 (hN id (.inl rfl) ZL ob hR Zb) g3 (rb hm f _ _ _ h3 g4 λc hc=>hN c (.inr hc))
     .cases h
    .cases h
   .cases h
  case iface t x=>
   simp only[aq]at hr;obtain⟨y,rfl,hr⟩:=hr;simp only[Zq8]at h;obtain⟨m,hm',rfl⟩:=h;exact .iface _ _ _ (rb hm f _ _ _ hm' hr hN)
  case sl sz rows=>
   simp only[aq]at hr;obtain⟨y,rfl,hr⟩:=hr;simp only[Zq8]at h;obtain⟨m,hm',rfl⟩:=h;exact .sl _ _ _ (hL _ _ _ hm' hr hN)
  case agg=>
   simp only[aq]at hr;obtain⟨y,rfl,hr⟩:=hr;simp only[Zq8]at h;obtain⟨m,hm',rfl⟩:=h;exact .agg _ _ (hL _ _ _ hm' hr hN)
  case P'=>
   simp only[aq]at hr;obtain⟨y,rfl,hr⟩:=hr;simp only[Zq8]at h;obtain⟨m,hm',rfl⟩:=h;exact .P' _ _ (hL _ _ _ hm' hr hN)
  case fn=>
   simp only[aq]at hr;obtain⟨y,rfl,hr⟩:=hr;simp only[Zq8]at h;obtain⟨m,hm',rfl⟩:=h;exact .fn _ _ _ (hL _ _ _ hm' hr hN)
  case bm=>
   simp only[aq]at hr;obtain⟨y,rfl,hr⟩:=hr;simp only[Zq8]at h;obtain⟨m,hm',rfl⟩:=h;exact .bm _ _ _ (hL _ _ _ hm' hr hN)
  all_goals (split at h
             .rename_i YE;simp only[aB]at h;subst h;have:=pq _ _ YE hr;subst this;exact .same _ YE
             .cases h)
def BF{R:Nat->Nat->Prop}{Zt:Tr (Option Ob)}{U:af}(hm:Lv R (ZQ Zt) U){N:Nat->Prop}{f:Nat}:∀(vs us out:List V),iG (fzQ f Zt) vs=some out->aD R vs us->
 (∀c∈tp (qk f Zt) vs,∀a o,R c a->ZQ Zt c=some o->N a)->FzL U N us out
 |[],us,out,h1,h2,_=>by
  rw[aD.eX]at h2;subst h2;simp only[iG,aB]at h1;subst h1;exact .nil
 |a::vs,us,out,h1,h2,hN=>by
  obtain⟨b,bs,rfl,h3,h4⟩:=aD.bu.1 h2;simp only[tp,db]at hN;simp only[iG]at h1;split at h1
  .rename_i c hc;split at h1
   .rename_i cs hcs;simp only[aB]at h1;subst h1;exact .cons _ _ _ _ (rb hm f _ _ _ hc h3 λc hc=>hN c (.inl hc)) (BF hm _ _ _ hcs h4 λc hc=>hN c (.inr hc))
   .cases h1
  .cases h1
section
variable {call:gr} {K:af} {fl:Nat} {R:Nat->Nat->Prop} {cs YG:CS} {st:St} {Q:St->Prop} {k:List It}
def zR{i:az}(M':dv i=true)(h:cC K fl R cs st)(hr:(ou i).f call fl cs=some YG):
 (aP st.s i.g=some true/\(Al i.dst i.op).f call fl cs=some YG)\/(aP st.s i.g=some false/\YG=cs.put i.dst (.P' [])):=by
 simp only[dv,Ba]at M';unfold ou at hr;split at hr
 .rename_i hg;exact .inl ⟨by simp[hg,aP],hr⟩
 .rename_i x b hg;have hx:=M'.2;simp only[hg]at hx;have hv:=cg h.slot hx;simp only[te]at hr;split at hr
  .rename_i c hc;rw[hc,aq.ij]at hv;rw[sd]at hr;split at hr
   .rename_i hcb;simp only[aB]at hr;refine .inr ⟨?_,hr.symm⟩;simp only[hg,aP,hv];cases c<;>cases b<;>simp_all
   .rename_i hcb;refine .inl ⟨?_,hr⟩;simp only[hg,aP,hv];cases c<;>cases b<;>simp_all
  .rename_i hc;rw[hc]at hv;simp only[aq,aD]at hv;obtain⟨c',hv,rfl⟩:=hv;simp only[aB]at hr;exact .inr ⟨by simp only[hg,aP,hv],hr.symm⟩
  .rename_i hc;rw[hc,aq.iH]at hv;simp only[aB]at hr;exact .inr ⟨by simp only[hg,aP,hv],hr.symm⟩
  .cases hr
def K4(hc:kQ P call){i:az}{l:List az}(M':dv i=true)(h:cC K fl R cs st)(hw:aP st.s i.g=some true)(hr:(ju false i.dst i.op).f call fl cs=some YG)
 (hk:∀R' Zd,Le R R'->cC K fl R' YG Zd->ab P n (.ops l::k) Zd Q):ab P n (.ops (i::l)::k) st Q:=by
 have hi:aP st.s (⟨i.dst,i.op,none⟩:az).g=some true:=rfl;have hok':dv ⟨i.dst,i.op,none⟩=true:=by
  simp only[dv,Ba]at M'|-;exact⟨M'.1,trivial⟩
 have:=M3 (P:=P) (n:=n) (k:=k) (Q:=Q) (l:=l) hc hok' h (show(wo false ⟨i.dst,i.op,none⟩).f call fl cs=some YG from hr) hk;intro F hn kt hkt a w hs;obtain⟨z,kt',rfl,hy,ZU⟩:=dn hkt;cases z<;>simp only[KI.it,It.ops.injEq,reduceCtorEq]at hy;rename_i all os;cases os with
 |nil=>simp at hy
 |cons o os=>
  simp only[dP,List.cons.injEq]at hy;obtain⟨hi1,hl⟩:=hy;obtain⟨I,Yk⟩:=hs;have hwant:=pF (P:=P) Yk all o (b:=true) (by rw[hn,hi1];exact hw);have h2:=this F hn (.ops all ({ o with guard:=none }::os)::kt') (by
   simp only[dP,KI.it,ZU,List.cons.injEq,It.ops.injEq,hl,and_true];rw[<-hi1];rfl) a w ⟨I,Yk⟩
  simp only[kO,wpListIn,hwant,if_true]at h2|-;have e1:Region.wanted { o with guard:=none } (yielded all a.tmps)=true:=rfl;simp only[e1,if_true]at h2;exact h2
def CZ(hc:kQ P call){i:az}{l:List az}(M':dv i=true)(h:cC K fl R cs st)(hr:(ou i).f call fl cs=some YG)
 (hk:∀R' Zd,Le R R'->cC K fl R' YG Zd->ab P n (.ops l::k) Zd Q):ab P n (.ops (i::l)::k) st Q:=by
 have Yf:jV i.op=true:=by simp only[dv,Ba]at M';exact M'.1
 rcases zR M' h hr with⟨hw,hr⟩|⟨hw,rfl⟩
 .unfold Al at hr;split at hr
  .rename_i tbl rx xs hop';rw[hop']at Yf;simp only[jV,Yw.xs,ja,Ba]at Yf;simp only[Uw]at hr;split at hr
   .rename_i t v hv;have hrx:=cg h.slot Yf.1.1;rw[hv]at hrx;simp only[aq]at hrx;obtain⟨v',hv',hvr⟩:=hrx;split at hr
    .rename_i f hf;generalize Zj:call f (v::xs.map (·.ev cs.sf)) cs.U cs.YA fl=r at hr;cases r with
     |none=>simp[ir]at hr
     |some r=>
      simp only[ir,aB]at hr;refine ab.inv hw hop' hv' hf (hc _ _ _ _ _ _ Zj K R st.U _ h.mem (aD.bu.2 ⟨_,_,rfl,hvr,ga h.slot Yf.1.2⟩)) ?_;rintro u Z' ⟨R',hle,hu,hm⟩;have hS:cC K fl R' ⟨cs.s,r.U,r.YA⟩ ⟨st.s,Z'⟩:=⟨λj=>aq.mono hle _ _ (h.slot j),hm⟩
      exact hk R' _ hle (hr▸hS.put hu)
    .cases hr
   .cases hr
  .rename_i hop';simp only[aB]at hr;subst hr;exact ab.L6 hw hop' (hk R _ (Le.refl R) (h.put (by simp[aq,aD])))
  .rename_i xa xv hop';rw[hop']at Yf;simp only[jV,Yw.xs,ja,Ba]at Yf;have h1:=cg h.slot Yf.1.1;have h2:=cg h.slot Yf.1.2.1;simp only[Fq]at hr;split at hr
   .rename_i u hu;rw[hu]at h1;simp only[aq]at h1;obtain⟨u',hu',_⟩:=h1;split at hr
    .rename_i hv;rw[hv]at h2;simp only[aq,aD]at h2;obtain⟨_,hv',rfl⟩:=h2;simp only[aB]at hr;subst hr;exact ab.L7 hw hop' hu' hv' (hk R _ (Le.refl R) (h.put aq.An))
    .cases hr
   .cases hr
  .rename_i fx xs hop';rw[hop']at Yf;simp only[jV,Yw.xs,ja,Ba]at Yf;simp only[IA]at hr;split at hr
   .rename_i f caps hf;have hfx:=cg h.slot Yf.1.1;rw[hf]at hfx;simp only[aq]at hfx;obtain⟨Zl,hf',hcaps⟩:=hfx;generalize Zj:call f (xs.map (·.ev cs.sf)++caps) cs.U cs.YA fl=r at hr;cases r with
    |none=>simp[ir]at hr
    |some r=>
     simp only[ir,aB]at hr;refine ab.call hw hop' hf' (hc _ _ _ _ _ _ Zj K R st.U _ h.mem ((ga h.slot Yf.1.2).append hcaps)) ?_;rintro v Z' ⟨R',hle,hv,hm⟩;have hS:cC K fl R' ⟨cs.s,r.U,r.YA⟩ ⟨st.s,Z'⟩:=⟨λj=>aq.mono hle _ _ (h.slot j),hm⟩
     exact hk R' _ hle (hr▸hS.put hv)
   .rename_i f caps hf;have hfx:=cg h.slot Yf.1.1;rw[hf]at hfx;simp only[aq]at hfx;obtain⟨Zl,hf',hcaps⟩:=hfx;generalize Zj:call f (caps++xs.map (·.ev cs.sf)) cs.U cs.YA fl=r at hr;cases r with
    |none=>simp[ir]at hr
    |some r=>
     simp only[ir,aB]at hr;refine ab.lz hw hop' hf' (hc _ _ _ _ _ _ Zj K R st.U _ h.mem (hcaps.append (ga h.slot Yf.1.2))) ?_;rintro v Z' ⟨R',hle,hv,hm⟩;have hS:cC K fl R' ⟨cs.s,r.U,r.YA⟩ ⟨st.s,Z'⟩:=⟨λj=>aq.mono hle _ _ (h.slot j),hm⟩
     exact hk R' _ hle (hr▸hS.put hv)
   .cases hr
  .rename_i neg x hop';rw[hop']at Yf;simp only[jV,Yw.xs,ja,Ba]at Yf;have hx:=cg h.slot Yf.1.1;simp only[ON]at hr;split at hr
   .rename_i hv;rw[hv]at hx;simp only[aq]at hx;simp only[aB]at hr;exact ab.NF hw hop' (.inl ⟨hx,rfl⟩) (hk R _ (Le.refl R) (hr▸h.put (by simp[aq])))
   .rename_i f caps hv;rw[hv]at hx;simp only[aq]at hx;obtain⟨Zl,hx,_⟩:=hx;simp only[aB]at hr;exact ab.NF hw hop' (.inr ⟨f,Zl,hx,rfl⟩) (hk R _ (Le.refl R) (hr▸h.put (by simp[aq])))
   .cases hr
  .rename_i neg x hop';rw[hop']at Yf;simp only[jV,Yw.xs,ja,Ba]at Yf;have hx:=cg h.slot Yf.1.1;simp only[OO]at hr;split at hr
   .rename_i hv;rw[hv]at hx;simp only[aq]at hx;simp only[aB]at hr;exact ab.TV hw hop' (.inl ⟨hx,rfl⟩) (hk R _ (Le.refl R) (hr▸h.put (by simp[aq])))
   .rename_i t' v' hv;rw[hv]at hx;simp only[aq]at hx;obtain⟨u,hx,_⟩:=hx;simp only[aB]at hr;exact ab.TV hw hop' (.inr ⟨t',u,hx,rfl⟩) (hk R _ (Le.refl R) (hr▸h.put (by simp[aq])))
   .cases hr
  .rename_i x hop';rw[hop']at Yf;simp only[jV,Yw.xs,ja,Ba]at Yf;have hx:=cg h.slot Yf.1.1;simp only[OD]at hr;split at hr
   .rename_i hv;rw[hv]at hx;simp only[aq]at hx;simp only[aB]at hr;exact ab.Kk hw hop' (.inl ⟨hx,rfl⟩) (hk R _ (Le.refl R) (hr▸h.put (by simp[aq])))
   .rename_i sz r rows hv;rw[hv]at hx;simp only[aq]at hx;obtain⟨Yc,hx,hr'⟩:=hx;obtain⟨r',rows'',rfl,_,_⟩:=aD.bu.1 hr';simp only[aB]at hr;exact ab.Kk hw hop' (.inr (.inl ⟨sz,r',rows'',hx,rfl⟩)) (hk R _ (Le.refl R) (hr▸h.put (by simp[aq])))
   .rename_i id off m hv;rw[hv]at hx;simp only[aq]at hx;obtain⟨ZL,hx,_⟩:=hx;simp only[aB]at hr;exact ab.Kk hw hop' (.inr (.inr ⟨ZL,off,m,hx,rfl⟩)) (hk R _ (Le.refl R) (hr▸h.put (by simp[aq])))
   .cases hr
  .exact K4 hc M' h hw hr hk
 .exact ab.o6 hw (hk R _ (Le.refl R) (h.put aq.An))
def rJ(m:Nat)(i:az)(l:List az):nb call fl (m+1) (i::l) cs=match(ou i).f call fl cs with
 |some YG=>nb call fl m l YG
 |none=>.bad:=by
 show(@Option.casesOn CS (λ_=>Out) ((ou i).f call fl cs) .bad (nb call fl m l))=_;cases (ou i).f call fl cs<;>rfl
def qw:∀(m:Nat) (l:List az) (cs:CS),(∃YG,nb call fl m l cs=.nx YG)\/nb call fl m l cs=.bad
 |0,_,_=>.inr rfl
 |m+1,[],cs=>.inl ⟨cs,rfl⟩
 |m+1,i::l,cs=>by
  rw[rJ];split
  .exact qw m l _
  .exact .inr rfl
def wa(hc:kQ P call):∀(m:Nat) (l:List az) (R:Nat->Nat->Prop) (cs:CS) (st:St),nb call fl m l cs=.nx YG->l.all dv=true->cC K fl R cs st->
 (∀R' Zd,Le R R'->cC K fl R' YG Zd->ab P n k Zd Q)->ab P n (.ops l::k) st Q
 |0,_,_,_,_,h,_,_,_=>by cases h
 |m+1,[],R,cs,st,h,_,hs,hk=>by
  have h':Out.nx cs=.nx YG:=h;simp only[Out.nx.injEq]at h';subst h';exact ab.AJ (hk R st (Le.refl R) hs)
 |m+1,i::l,R,cs,st,h,M',hs,hk=>by
  rw[rJ]at h;simp only[ja,Ba]at M';split at h
  .rename_i cs1 h1;refine CZ hc M'.1 hs h1 λR' Zd hle Yk=>?_;exact wa hc m l R' cs1 Zd h M'.2 Yk λR'' st'' hle' hs''=>hk R'' st'' (hle.trans hle') hs''
  .cases h
def AN{i:az}(M':dv i=true)(h:cC K fl R cs st)(hr:(qn i).f call fl cs=some YG):
 (aP st.s i.g=some true/\(zZ i.dst i.op).f call fl cs=some YG)\/(aP st.s i.g=some false/\YG=cs.put i.dst (.P' [])):=by
 simp only[dv,Ba]at M';unfold qn at hr;split at hr
 .rename_i hg;exact .inl ⟨by simp[hg,aP],hr⟩
 .rename_i x b hg;have hx:=M'.2;simp only[hg]at hx;have hv:=cg h.slot hx;simp only[te]at hr;split at hr
  .rename_i c hc;rw[hc,aq.ij]at hv;rw[sd]at hr;split at hr
   .rename_i hcb;simp only[aB]at hr;refine .inr ⟨?_,hr.symm⟩;simp only[hg,aP,hv];cases c<;>cases b<;>simp_all
   .rename_i hcb;refine .inl ⟨?_,hr⟩;simp only[hg,aP,hv];cases c<;>cases b<;>simp_all
  .rename_i hc;rw[hc]at hv;simp only[aq,aD]at hv;obtain⟨c',hv,rfl⟩:=hv;simp only[aB]at hr;exact .inr ⟨by simp only[hg,aP,hv],hr.symm⟩
  .rename_i hc;rw[hc,aq.iH]at hv;simp only[aB]at hr;exact .inr ⟨by simp only[hg,aP,hv],hr.symm⟩
  .cases hr
def SO(hc:kQ P call){i:az}(M':dv i=true)(h:cC K fl R cs st)(hr:(qn i).f call fl cs=some YG){K':St->Prop}
 (hk:∀R' Zd,Le R R'->cC K fl R' YG Zd->K' Zd):T P i st K':=by
 have Yf:jV i.op=true:=by simp only[dv,Ba]at M';exact M'.1
 rcases AN M' h hr with⟨hw,hr⟩|⟨hw,rfl⟩
 .refine lK hw ?_;unfold zZ at hr;split at hr
  .rename_i fx xs h0;rw[h0]at Yf;rw[h0];simp only[Jt]at hr;simp only[jV,Yw.xs,ja,Ba]at Yf;split at hr
   .rename_i f caps hf;have hfx:=cg h.slot Yf.1.1;rw[hf]at hfx;simp only[aq]at hfx;obtain⟨Zl,hf',hcaps⟩:=hfx;generalize Zj:call f (xs.map (·.ev cs.sf)++caps) cs.U cs.YA cs.YA=r at hr;cases r with
    |none=>simp[En]at hr
    |some r=>
     have key:∀Z1,aa st.U Z1->fW Z1 cs.YA R (ZQ cs.U) cs.YA Z1:=λZ1 ZV=>⟨h.mem.dom,h.mem.live.sup ZV,h.mem.inj,h.mem.fn,aa.refl _,λ_ _ c _ _ hcR _=>h.mem.dom c _ hcR⟩
     simp only[En,sd]at hr;split at hr
     .rename_i YE;simp only[aB]at hr;refine⟨f,Zl,r.v,hf',λZ1 ZV=>?_,hk R _ (Le.refl R) (hr▸h.put (cT r.v YE))⟩;refine(hc _ _ _ _ _ _ Zj Z1 R Z1 _ (key Z1 ZV) ((ga h.slot Yf.1.2).append hcaps)).drop ?_;rintro v Z' ⟨R',hle,hv,hm⟩;exact⟨Z1,hm.gP,pq _ _ YE hv,rfl⟩
     .split at hr
      .rename_i hids;split at hr
       .rename_i v hv;have YE:=mn 40 _ _ _ hv;simp only[aB]at hr;refine⟨f,Zl,v,hf',λZ1 ZV=>?_,hk R _ (Le.refl R) (hr▸h.put (cT v YE))⟩;refine(hc _ _ _ _ _ _ Zj Z1 R Z1 _ (key Z1 ZV) ((ga h.slot Yf.1.2).append hcaps)).AL ?_;rintro u Z' ⟨R',hle,hu,hm⟩;refine⟨v,Z1,hm.gP,(rb (N:=λa=>Z1 a=none) hm.live 40 _ _ _ hv hu λc hcm a o hR ho=>?_).wk hm.gP λ_ h=>h,rfl,rfl⟩;have hge:=ed.1 hids c hcm;cases hk:Z1 a with
        |none=>rfl
        |some x=>
         have h1:=hm.kfl a x c o hk hR ho;have h2:=nH hge;omega
       .cases hr
      .cases hr
   .cases hr
  .rename_i op hnc;rcases nX i.op with h0|⟨fx,xs,h0⟩|⟨sz,a,x,h0⟩|h0|⟨sz,z,x,h0⟩|h0
   .obtain⟨v',h1,h2,h3⟩:=oX h0 Yf h hr;unfold TO;simp only[h0];exact⟨h1,v',h2,hk R _ (Le.refl R) h3⟩
   .exact absurd h0 (hnc fx xs)
   .rw[h0]at hr Yf;rw[h0];obtain⟨Z',h1,h2⟩:=qe Yf h hr;exact⟨Z',h1,hk R _ (Le.refl R) h2⟩
   .obtain⟨g',h1,h2⟩:=xT h0 Yf h hr;unfold TO;simp only[h0];refine⟨g',h1,λid O'=>?_⟩;obtain⟨R',h3,h4⟩:=h2 id O';exact hk R' _ h3 h4
   .rw[h0]at hr;simp[ju,DV]at hr
   .exact(A6 h0 hr).elim
 .exact ra hw (hk R _ (Le.refl R) (h.put aq.An))
def rf(m:Nat)(i:az)(l:List az):mQ call fl (m+1) (i::l) cs=match(qn i).f call fl cs with
 |some YG=>mQ call fl m l YG
 |none=>.bad:=by
 show(@Option.casesOn CS (λ_=>Out) ((qn i).f call fl cs) .bad (mQ call fl m l))=_;cases (qn i).f call fl cs<;>rfl
def ng:∀(m:Nat) (l:List az) (cs:CS),(∃YG,mQ call fl m l cs=.nx YG)\/mQ call fl m l cs=.bad
 |0,_,_=>.inr rfl
 |m+1,[],cs=>.inl ⟨cs,rfl⟩
 |m+1,i::l,cs=>by
  rw[rf];split
  .exact ng m l _
  .exact .inr rfl
def AK(hc:kQ P call){K':St->Prop}:∀(m:Nat) (l:List az) (R:Nat->Nat->Prop) (cs:CS) (st:St),mQ call fl m l cs=.nx YG->l.all dv=true->cC K fl R cs st->
 (∀R' Zd,Le R R'->cC K fl R' YG Zd->K' Zd)->gK P K' l st
 |0,_,_,_,_,h,_,_,_=>by cases h
 |m+1,[],R,cs,st,h,_,hs,hk=>by
  have h':Out.nx cs=.nx YG:=h;simp only[Out.nx.injEq]at h';subst h';exact hk R st (Le.refl R) hs
 |m+1,i::l,R,cs,st,h,M',hs,hk=>by
  rw[rf]at h;simp only[ja,Ba]at M';split at h
  .rename_i cs1 h1;refine SO hc M'.1 hs h1 λR' Zd hle Yk=>?_;exact AK hc m l R' cs1 Zd h M'.2 Yk λR'' st'' hle' hs''=>hk R'' st'' (hle.trans hle') hs''
  .cases h
def RU(hc:kQ P call){i:az}(M':dv i=true)(hk3:aX i.op<=3)(h:cC K fl R cs st)(hr:(wo false i).f call fl cs=some YG){K':St->Prop}
 (hk:∀R' Zd,Le R R'->cC K fl R' YG Zd->K' Zd):TC P i st K':=by
 have Yf:jV i.op=true:=by simp only[dv,Ba]at M';exact M'.1
 rcases oE M' h hr with⟨hw,hr⟩|⟨hw,rfl⟩
 .rcases nX i.op with h0|⟨fx,xs,h0⟩|⟨sz,a,x,h0⟩|h0|⟨sz,z,x,h0⟩|h0
  .obtain⟨v',h1,h2,h3⟩:=oX h0 Yf h hr;refine .inl (lK hw ?_);unfold TO;simp only[h0];exact⟨h1,v',h2,hk R _ (Le.refl R) h3⟩
  .rw[h0]at hr Yf;refine .inr ⟨hw,?_⟩;rw[h0];simp only[ju,IF]at hr;simp only[jV,Yw.xs,ja,Ba]at Yf;split at hr
   .rename_i f caps hf;have hfx:=cg h.slot Yf.1.1;rw[hf]at hfx;simp only[aq]at hfx;obtain⟨Zl,hf',hcaps⟩:=hfx;generalize Zj:call f (xs.map (·.ev cs.sf)++caps) cs.U cs.YA fl=r at hr;cases r with
    |none=>simp[ir]at hr
    |some r=>
     simp only[ir,aB]at hr;refine⟨f,Zl,_,hf',hc _ _ _ _ _ _ Zj K R st.U _ h.mem ((ga h.slot Yf.1.2).append hcaps),?_⟩;rintro v Z' ⟨R',hle,hv,hm⟩;have hS:cC K fl R' ⟨cs.s,r.U,r.YA⟩ ⟨st.s,Z'⟩:=⟨λj=>aq.mono hle _ _ (h.slot j),hm⟩
     exact hk R' _ hle (hr▸hS.put hv)
   .cases hr
  .refine .inl (lK hw ?_);rw[h0]at hr Yf;rw[h0];obtain⟨Z',h1,h2⟩:=qe Yf h hr;exact⟨Z',h1,hk R _ (Le.refl R) h2⟩
  .obtain⟨g',h1,h2⟩:=xT h0 Yf h hr;refine .inl (lK hw ?_);unfold TO;simp only[h0];refine⟨g',h1,λid O'=>?_⟩;obtain⟨R',h3,h4⟩:=h2 id O';exact hk R' _ h3 h4
  .rw[h0]at hk3;simp[aX]at hk3
  .exact(A6 h0 hr).elim
 .exact .inl (ra hw (hk R _ (Le.refl R) (h.put aq.An)))
def NK{i:az}(M':dv i=true)(h:cC K fl R cs st)(hr:Qa call fl i cs=true):QYd P i st:=by
 unfold Qa at hr;rw[bO]at hr;split at hr
 .rename_i hk0;have hk0:=gC hk0;split at hr
  .rename_i YG hcs;have Yf:jV i.op=true:=by simp only[dv,Ba]at M';exact M'.1
   have key:∀u,(∀d,i.dst=some d->aq R (YG.sf d) u)->∀d,i.dst=some d->u=st.s d:=λu hu d hd=>by
    rw[hd]at hr;have:=nj 40 _ _ hr;have h1:=hu d hd;rw[this]at h1;exact aq.fun h.mem.fn _ _ _ h1 (h.slot d)
   rcases oE M' h hcs with⟨hw,hcs⟩|⟨hw,rfl⟩
   .obtain⟨v',h1,h2,h3⟩:=oX hk0 Yf h hcs;have hq:QY P i st.s st.U v':=.inl ⟨hw,by unfold QO;simp only[hk0];exact⟨h1,h2⟩⟩;unfold QYd;cases hd:i.dst with
    |none=>exact⟨v',hq⟩
    |some d=>
     simp only;rw[<-key v' (λd' hd'=>by
      have:=h3.slot d';rw[hd']at this;simpa[aN]using this) d hd]
     exact hq
   .have hq:QY P i st.s st.U (.P' []):=.inr ⟨hw,rfl⟩;unfold QYd;cases hd:i.dst with
    |none=>exact⟨_,hq⟩
    |some d=>
     simp only;rw[<-key (.P' []) (λd' hd'=>by
      have:(cs.put i.dst (.P' [])).sf d'=.P' []:=by rw[JF,hd'];simp[aN]
      rw[this];exact aq.An) d hd]
     exact hq
  .cases hr
 .cases hr
def Ao{l:List az}:∀(its:List Nat) (cs:CS),(∃YG,x5 call fl l its cs=.nx YG)\/x5 call fl l its cs=.bad
 |[],cs=>.inl ⟨cs,rfl⟩
 |m::ms,cs=>by
  simp only[x5,bO];split
  .exact .inr rfl
  .split
   .split
    .split
     .exact Ao ms _
     .exact .inr rfl
    .exact .inr rfl
   .split
    .exact Ao ms _
    .exact .inr rfl
def uY(hc:kQ P call){l:List az}(M':l.all dv=true){K':St->Prop}:∀(its:List Nat) (R:Nat->Nat->Prop) (cs:CS) (st:St),x5 call fl l its cs=.nx YG->cC K fl R cs st->
 (∀R' Zd,Le R R'->cC K fl R' YG Zd->K' Zd)->RE P l K' its st
 |[],R,cs,st,h,hs,hk=>by
  simp only[x5,Out.nx.injEq]at h;subst h;exact hk R st (Le.refl R) hs
 |m::ms,R,cs,st,h,hs,hk=>by
  simp only[x5,bO]at h;unfold RE;split at h
  .cases h
  .rename_i i hi;have hoki:dv i=true:=ed.1 M' i (yd hi)
   try rw[hi]
   try simp only
   split at h
   .rename_i hm;have hm:=gC hm;rw[ar hm];split at h
    .rename_i hk3;split at h
     .rename_i cs1 h1;exact RU hc hoki (nH hk3) hs h1 λR' Zd hle Yk=>uY hc M' ms R' cs1 Zd h Yk λR'' st'' hle' hs''=>hk R'' st'' (hle.trans hle') hs''
     .cases h
    .cases h
   .rename_i hm;have hm':¬m%2=0:=λe=>hm (by rw[e];rfl);rw[av hm'];split at h
    .rename_i hck;exact⟨NK hoki hs hck,uY hc M' ms R cs st h hs hk⟩
    .cases h
end
variable {P:Program} {n:Nat} {K:af} {R:Nat->Nat->Prop} {k:List It} {Q:St->Prop}
def RC{n N r c:Nat}(h:c<n):rho n N r c=c:=by
 have h1:Nat.blt c n=true:=Nat.ble_eq_true_of_le h;unfold rho;rw[h1]
def zS(n N r c:Nat):rho n N r c=if c<n then c else if c<N then(if c+r<N then c+r else c+r-(N-n))else c:=by
 unfold rho;simp only[bO,Nat.blt_eq];rfl
def KO{n N r c:Nat}(hn:n<=N)(hr:r<=N-n)(h:rho n N r c<N):c<N:=by
 rw[zS]at h;split at h
 .omega
 .split at h<;>omega
def Oc{n N r c c':Nat}(hn:n<=N)(hr:r<=N-n)(h:rho n N r c=rho n N r c'):c=c':=by
 simp only[zS]at h;by_cases h1:c<n<;>by_cases h2:c<N<;>by_cases h3:c+r<N<;>by_cases h4:c'<n<;>by_cases h5:c'<N<;>by_cases h6:c'+r<N<;>simp only[h1,h2,h3,h4,h5,h6,if_true,if_false]at h<;>omega
def Nr{n N r c:Nat}(hn:n<=N)(hr:r<=N-n)(h:rho n N r c<n):c=rho n N r c:=by
 rw[zS]at h|-;split at h
 .rw[ar ‹_›]
 .split at h
  .split at h<;>omega
  .omega
def oO{ρ:Nat->Nat}{R':Nat->Nat->Prop}:∀(f:Nat) (v u x:V),nC ρ f v u=true->aq R' u x->aq (λc a=>R' (ρ c) a) v x
 |0,_,_,_,h,_=>by simp[nC]at h
 |f+1,v,u,x,h,hr=>by
  have hL:∀{l m y:List V},iP (nC ρ f) l m=true->aD R' m y->aD (λc a=>R' (ρ c) a) l y:=by
   intro l
   induction l with
   |nil=>
    intro m y h1 h2;cases m with
    |nil=>rw[aD.eX]at h2;subst h2;simp[aD]
    |cons a b=>simp[iP]at h1
   |cons a l ih=>
    intro m y h1 h2;cases m with
    |nil=>simp[iP]at h1
    |cons b m=>
     simp only[iP,bO]at h1;split at h1
     .rename_i hab;obtain⟨z,zs,rfl,h3,h4⟩:=aD.bu.1 h2;exact aD.bu.2 ⟨z,zs,rfl,oO f _ _ _ hab h3,ih h1 h4⟩
     .cases h1
  cases v<;>cases u<;>simp only[nC,eT,Ba,Zq9,beq_iff_eq]at h<;>simp only[aq]at hr|-
  case int.int=>rw[hr,GC h.2,of_decide_eq_true (p:=_=_) h.1]
  case bool.bool=>rw[hr,h]
  case str.str=>rw[hr,h]
  case aC.aC=>exact hr
  case nilp.nilp=>exact hr
  case YQ.YQ=>exact hr
  case Yz.Yz=>exact hr
  case own.own=>obtain⟨i,rfl,r⟩:=hr;exact⟨i,by rw[gC h.2.1,gC h.2.2],by rw[gC h.1];exact r⟩
  case ptr.ptr=>obtain⟨i,rfl,r⟩:=hr;exact⟨i,by rw[gC h.2.1,gC h.2.2],by rw[gC h.1];exact r⟩
  case yl.yl=>obtain⟨i,rfl,r⟩:=hr;exact⟨i,rfl,by rw[gC h];exact r⟩
  case sl.sl=>obtain⟨y,rfl,r⟩:=hr;exact⟨y,by rw[gC h.1],hL h.2 r⟩
  case rp.rp=>obtain⟨y,rfl,r⟩:=hr;exact⟨y,rfl,oO f _ _ _ h r⟩
  case iface.iface=>obtain⟨y,rfl,r⟩:=hr;exact⟨y,by rw[gC h.1],oO f _ _ _ h.2 r⟩
  case fn.fn=>obtain⟨y,rfl,r⟩:=hr;exact⟨y,by rw[gC h.1],hL h.2 r⟩
  case bm.bm=>obtain⟨y,rfl,r⟩:=hr;exact⟨y,by rw[gC h.1],hL h.2 r⟩
  case agg.agg=>obtain⟨y,rfl,r⟩:=hr;exact⟨y,rfl,hL h r⟩
  case P'.P'=>obtain⟨y,rfl,r⟩:=hr;exact⟨y,rfl,hL h r⟩
def Ca{ρ:Nat->Nat}{R':Nat->Nat->Prop}{f:Nat}:∀{l m y:List V},iP (nC ρ f) l m=true->aD R' m y->aD (λc a=>R' (ρ c) a) l y
 |[],m,y,h1,h2=>by
  cases m with
  |nil=>rw[aD.eX]at h2;subst h2;simp[aD]
  |cons a b=>simp[iP]at h1
 |a::l,m,y,h1,h2=>by
  cases m with
  |nil=>simp[iP]at h1
  |cons b m=>
   simp only[iP,bO]at h1;split at h1
   .rename_i hab;obtain⟨z,zs,rfl,h3,h4⟩:=aD.bu.1 h2;exact aD.bu.2 ⟨z,zs,rfl,oO f _ _ _ hab h3,Ca h1 h4⟩
   .cases h1
def DY{α:Type}{f:α->α->Bool}{d:α}(hd:f d d=true):∀(p:List Bool) (t t':Tr α),trB f t t'=true->f (gL d p t) (gL d p t')=true
 |p,.e,.e,_=>by rw[NO];exact hd
 |[],.n l v r,.n l' v' r',h=>by
  simp only[trB,bO]at h;split at h
  .rename_i hv;exact hv
  .cases h
 |b::p,.n l v r,.n l' v' r',h=>by
  simp only[trB,bO]at h;split at h
  .split at h
   .rename_i hl;cases b
    .exact DY hd p r r' h
    .exact DY hd p l l' hl
   .cases h
  .cases h
 |_,.e,.n _ _ _,h=>by simp[trB]at h
 |_,.n _ _ _,.e,h=>by simp[trB]at h
def Fs{α:Type}{f:α->α->Bool}{d:α}(hd:f d d=true){t t':Tr α}(h:trB f t t'=true)(i:Nat):f (fj d i t) (fj d i t')=true:=by
 unfold fj;rw[ph _ _ _ _ (iZ i),ph _ _ _ _ (iZ i)];exact DY hd _ _ _ h
def wE{U:Tr (Option Ob)}{n i:Nat}:∀{m:Nat},(i<n\/n+m<=i)->fj none i (IE U n m)=fj none i U
 |0,_=>rfl
 |m+1,h=>by
  have e:Nat.add n m=n+m:=rfl;rw[IE,kr,av (by omega)];exact wE (by omega)
def zu{ρ:Nat->Nat}{A B:Tr (Option Ob)}{n:Nat}:∀{m:Nat},GD ρ A B n m=true->∀i,n<=i->i<n+m->E4 ρ (fj none i A) (fj none (ρ i) B)=true
 |0,_,i,_,_=>by omega
 |m+1,h,i,h1,h2=>by
  simp only[GD,bO]at h;split at h
  .rename_i hr;by_cases e:i=n+m
   .subst e;exact hr
   .exact zu h i h1 (by omega)
  .cases h
def xE{f:Nat->Bool}:∀{m:Nat},FX f m=true->∃r,f r=true
 |0,h=>⟨0,h⟩
 |m+1,h=>by
  simp only[FX,bO]at h;split at h
  .rename_i hf;exact⟨_,hf⟩
  .exact xE h
def Cb{ρ:Nat->Nat}{a b:Option Ob}(h:E4 ρ a b=true){o:Ob}(ha:a=some o):∃o',b=some o'/\o.elem=o'.elem/\o.sz=o'.sz/\iP (nC ρ 40) o.rows o'.rows=true:=by
 subst ha;cases b with
 |none=>simp[E4]at h
 |some o'=>
  simp only[E4,Ba]at h;exact⟨o',rfl,gC h.1,gC h.2.1,h.2.2⟩
def Nw{fl m:Nat}{A B:CS}(h:Mx fl m A B=true){R0 R':Nat->Nat->Prop}(hd:∀c a,R0 c a->c<m)(hle:Le R0 R'){st:St}(hs:cC K fl R' B st):∃R'',Le R0 R''/\cC K fl R'' A st:=by
 unfold Mx at h;rw[bO]at h;split at h
 .rename_i hc;simp only[Ba,Nat.ble_eq]at hc;obtain⟨hN,hfl,hmN⟩:=hc;have hN:=gC hN;obtain⟨r,hr⟩:=xE h;generalize hNN:A.YA=N at*;unfold Uk at hr;rw[bO]at hr;split at hr
  .rename_i hrN;rw[bO]at hr;split at hr
   .rename_i YS;rw[bO]at hr;split at hr
    .rename_i hsl;have hrN:r<=N-m:=nH hrN;generalize hρ:rho m N r=ρ at*;have key:∀c o,ZQ A.U c=some o->∃o',ZQ B.U (ρ c)=some o'/\o.elem=o'.elem/\o.sz=o'.sz/\iP (nC ρ 40) o.rows o'.rows=true:=by
      intro c o ho;by_cases hin:m<=c/\c<N
      .exact Cb (zu YS c hin.1 (by have:Nat.sub N m=N-m:=rfl;omega)) ho
      .have ZH:ρ c=c:=by rw[<-hρ,zS];split<;>(try split)<;>omega
       have h1:=Fs (d:=none) (by simp[E4]) hr c;rw[wE (by have:Nat.sub N m=N-m:=rfl;omega),wE (by have:Nat.sub N m=N-m:=rfl;omega)]at h1;rw[ZH];exact Cb h1 ho
     refine⟨λc a=>R' (ρ c) a,λc a hR=>?_,⟨λi=>?_,?_⟩⟩
     .have:ρ c=c:=by rw[<-hρ];exact RC (hd c a hR)
      show R' (ρ c) a;rw[this];exact hle c a hR
     .have h1:nC ρ 40 (A.sf i) (B.sf i)=true:=Fs (d:=V.P' []) (by simp[nC,iP]) hsl i;exact oO 40 _ _ _ h1 (hs.slot i)
     .have hm:=hs.mem;refine⟨λc a hR=>?_,λc a o hR ho=>?_,λc c' a o o' h1 h2 h3 h4=>?_,λc a a' h1 h2=>hm.fn _ a a' h1 h2,hm.gP,λa o c oc h1 h2 h3=>?_⟩
      .have h1:=hm.dom _ a hR;rw[<-hN]at h1;rw[hNN];exact KO hmN hrN (by rw[hρ];exact h1)
      .obtain⟨o',g1,g2,g3,g4⟩:=key c o ho;obtain⟨Yc,g5,g6⟩:=hm.live _ a o' hR g1;exact⟨Yc,by rw[g2,g3];exact g5,Ca g4 g6⟩
      .obtain⟨x,g1,_⟩:=key c o h3;obtain⟨y,g2,_⟩:=key c' o' h4;have:=hm.inj _ _ a x y h1 h2 g1 g2;rw[<-hρ]at this;exact Oc hmN hrN this
      .obtain⟨x,g1,_⟩:=key c oc h3;have h4:=hm.kfl a o _ x h1 h2 g1;have h5:rho m N r c<m:=by rw[hρ];omega
       have h6:=Nr hmN hrN h5;rw[h6,hρ];exact h4
    .cases hr
   .cases hr
  .cases hr
 .cases h
def xC{g:PT->Out}{fl m:Nat}{A:CS}:∀{kids:List PT},Fy g fl m A kids=true->∀k∈kids,∃B,g k=.nx B/\Mx fl m A B=true
 |[],_,k,hk=>by cases hk
 |a::r,h,k,hk=>by
  simp only[Fy]at h;split at h
  .rename_i B hB;rw[sd]at h;split at h
   .rename_i hc;rcases cm.1 hk with rfl|hk
    .exact⟨B,hB,hc⟩
    .exact xC h k hk
   .cases h
  .cases h
def QC{call:gr}{fl:Nat}{l:List az}:∀(f:Nat) (pre:List Nat) (t:PT) (cs:CS),(∃YG,evT call fl l f pre t cs=.nx YG)\/evT call fl l f pre t cs=.bad
 |0,_,_,_=>.inr rfl
 |f+1,pre,t,cs=>by
  cases t with
  |leaf Yu r=>exact Ao (call:=call) (fl:=fl) (l:=l) _ cs
  |fork Yu m S kids=>
   simp only[evT];split
   .rename_i cs0 h0;cases kids with
    |nil=>exact .inr rfl
    |cons k r=>
     simp only[KM];split
     .rw[sd];split
      .exact .inl ⟨_,rfl⟩
      .exact .inr rfl
     .exact .inr rfl
   .exact .inr rfl
def EP{call:gr}{fl:Nat}(hc:kQ P call){l:List az}(M':l.all dv=true){K':St->Prop}:∀(f:Nat) (pre:List Nat) (t:PT) (R:Nat->Nat->Prop) (cs:CS) (st:St) {YG:CS},evT call fl l f pre t cs=.nx YG->cC K fl R cs st->
 (∀R' Zd,Le R R'->cC K fl R' YG Zd->K' Zd)->GT P l K' f pre t st
 |0,_,_,_,_,_,_,h,_,_=>by cases h
 |f+1,pre,t,R,cs,st,YG,h,hs,hk=>by
  cases t with
  |leaf Yu r=>exact uY hc M' _ R cs st h hs hk
  |fork Yu m S kids=>
   simp only[evT]at h;split at h
   .rename_i cs0 h0;refine uY hc M' _ R cs st h0 hs λR0 st0 hle0 YT=>?_;cases kids with
    |nil=>cases h
    |cons k r=>
     simp only[KM]at h;split at h
     .rename_i A hA;rw[sd]at h;split at h
      .rename_i hE;simp only[Out.nx.injEq]at h;subst h;intro kid hkid;rcases cm.1 hkid with rfl|hkid
       .exact EP hc M' f _ _ R0 cs0 st0 hA YT λR1 st1 hle1 ZV=>hk R1 st1 (hle0.trans hle1) ZV
       .obtain⟨B,hB,hck⟩:=xC hE kid hkid;refine EP hc M' f _ _ R0 cs0 st0 hB YT λR1 st1 hle1 ZV=>?_;obtain⟨R2,hle2,hs2⟩:=Nw hck (λc a h=>YT.mem.dom c a h) hle1 ZV;exact hk R2 st1 (hle0.trans hle2) hs2
      .cases h
     .cases h
   .cases h
def IN{l:List az}{Yo:List (List Nat)}{t:PT}(h:FP l Yo=some t):Ej l 8 Yo [] t=true:=by
 unfold FP Ov at h;rw[bO]at h;split at h
 .rename_i hc;simp only[aB]at h;subst h;exact hc
 .cases h
variable {P:Program} {n:Nat} {K:af} {R:Nat->Nat->Prop} {k:List It} {Q:St->Prop}
def fW.Wu{fl YA:Nat}{Zc U:af}(h:fW K fl R Zc YA U)(c:Nat):fW K fl R (del Zc c) YA U:=by
 have hlive:∀i x,del Zc c i=some x->Zc i=some x:=λi x hx=>by
  by_cases e:i=c
  .subst e;simp[Vc.del]at hx
  .rw[cA e]at hx;exact hx
 exact⟨h.dom,λc1 a1 o1 h1 h2=>h.live c1 a1 o1 h1 (hlive _ _ h2),λc1 c2 a1 o1 o2 h1 h2 h3 h4=>h.inj c1 c2 a1 o1 o2 h1 h2 (hlive _ _ h3) (hlive _ _ h4),h.fn,h.gP,
  λa1 o1 c1 oc h1 h2 h3=>h.kfl a1 o1 c1 oc h1 h2 (hlive _ _ h3)⟩
def pc{YA:Nat}:∀(ids:List Nat) (Zt:Tr (Option Ob)) (U:af),fW K 0 R (ZQ Zt) YA U->∃Z',aa Z' U/\fW K 0 R (ZQ (zE ids Zt)) YA Z'/\
 ∀c∈ids,∀a o,R c a->ZQ Zt c=some o->Z' a=none
 |[],Zt,U,h=>⟨U,aa.refl _,h,by simp⟩
 |c::cs,Zt,U,h=>by
  cases hc:fj none c Zt with
  |none=>
   obtain⟨Z',h1,h2,h3⟩:=pc cs Zt U h;refine⟨Z',h1,by simp only[zE,hc];exact h2,λc' hc' a o hR ho=>?_⟩;rcases cm.1 hc' with rfl|hc'
   .have:ZQ Zt c'=none:=hc;rw[this]at ho;cases ho
   .exact h3 c' hc' a o hR ho
  |some ob=>
   have Zb:ZQ Zt c=some ob:=hc;have ZI:ZQ (kc none none c Zt)=del (ZQ Zt) c:=FU _ _;have hoth:∀c' o,c'≠c->ZQ Zt c'=some o->ZQ (kc none none c Zt) c'=some o:=λc' o YF ho=>by rw[ZI,cA YF];exact ho
   by_cases hex:∃a,R c a
   .obtain⟨a0,ha0⟩:=hex;have hm1:=h.rem ha0 Zb (Nat.zero_le _);rw[<-ZI]at hm1;obtain⟨Z',h1,h2,h3⟩:=pc cs _ _ hm1;refine⟨Z',h1.trans λi o hi=>?_,by simp only[zE,hc];exact h2,λc' hc' a o hR ho=>?_⟩
    .by_cases e:i=a0
     .subst e;simp[Vc.del]at hi
     .rw[cA e]at hi;exact hi
    .by_cases e:c'=c
     .subst e;have:=h.fn _ _ _ hR ha0;subst this;exact h1.none (by simp[Vc.del])
     .exact h3 c' ((cm.1 hc').resolve_left e) a o hR (hoth c' o e ho)
   .have hm1:=h.Wu c;rw[<-ZI]at hm1;obtain⟨Z',h1,h2,h3⟩:=pc cs _ _ hm1;refine⟨Z',h1,by simp only[zE,hc];exact h2,λc' hc' a o hR ho=>?_⟩;by_cases e:c'=c
    .subst e;exact absurd ⟨a,hR⟩ hex
    .exact h3 c' ((cm.1 hc').resolve_left e) a o hR (hoth c' o e ho)
def y8:∀(ps:List Nat) (x:List V) (s0:Tr V) (s:Nat->V),cj x=true->(∀i,aq R (fj (.P' []) i s0) (s i))->∀i,aq R (fj (.P' []) i (uy ps x s0)) (lf s ps x i)
 |[],x,s0,s,_,h,i=>by simp only[uy,lf];exact h i
 |_::_,[],s0,s,_,h,i=>by simp only[uy,lf];exact h i
 |p::ps,x::xs,s0,s,hx,h,i=>by
  simp only[cj,Ba]at hx;simp only[uy,lf];refine y8 ps xs _ _ hx.2 (λj=>?_) i;rw[kr];split
  .exact cT x hx.1
  .exact h j
def bsd(ZJ U C:af):af:=λid=>match ZJ id,U id with
 |none,some _=>none
 |_,_=>C id
def Dr{ZJ U C:af}{id:Nat}{o:Ob}(h:ZJ id=none)(h':U id=some o):bsd ZJ U C id=none:=by simp[bsd,h,h']
def wz{ZJ U C:af}{id:Nat}(h:¬(ZJ id=none/\U id≠none)):bsd ZJ U C id=C id:=by
 unfold bsd;split
 .rename_i h1 h2;exact absurd ⟨h1,by rw[h2];simp⟩ h
 .rfl
def oM{ZJ U C:af}{Zc Zc2:af}{nx nx2:Nat}{R2:Nat->Nat->Prop}(hm0:fW K 0 R Zc nx ZJ)(hm2:fW (λid=>match ZJ id with|none=>U id|some _=>K id) 0 R2 Zc2 nx2 C):
 ∃Z2,aT ZJ U Z2 C/\fW K 0 R2 Zc2 nx2 Z2:=by
 have hK:∀id,ZJ id=none->(match ZJ id with|none=>U id|some _=>K id)=U id:=λid h=>by rw[h]
 have hK':∀id o,ZJ id=some o->(match ZJ id with|none=>U id|some _=>K id)=K id:=λid o h=>by rw[h]
 have key:∀c a o,R2 c a->Zc2 c=some o->¬(ZJ a=none/\U a≠none):=by
  rintro c a o hc ho ⟨h1,h2⟩;cases hs:U a with
  |none=>exact h2 hs
  |some x=>have:=hm2.kfl a x c o (by rw[hK a h1];exact hs) hc ho;omega
 refine⟨bsd ZJ U C,⟨λid o h=>?_,λid o h1 h2=>⟨hm2.gP id o (by rw[hK id h1];exact h2),Dr h1 h2⟩⟩,hm2.dom,?_,hm2.inj,hm2.fn,?_,?_⟩
 .by_cases hc:ZJ id=none/\U id≠none
  .cases hs:U id with
   |none=>exact absurd hs hc.2
   |some x=>rw[Dr hc.1 hs]at h;cases h
  .rw[wz hc]at h;exact h
 .intro c a o hc ho;obtain⟨rows,h1,h2⟩:=hm2.live c a o hc ho;exact⟨rows,by rw[wz (key c a o hc ho)];exact h1,h2⟩
 .intro id o h;have h1:=hm0.gP id o h;rw[wz (by rw[h1];simp)];exact hm2.gP id o (by rw[hK' id o h1];exact h)
 .intro a o c oc h1 h2 h3;exact hm2.kfl a o c oc (by rw[hK' a o (hm0.gP a o h1)];exact h1) h2 h3
def Rz{run:Nat->bc->CS->Out}
 (ih:∀(K:af) (R:Nat->Nat->Prop) (c:bc) (cs:CS) (st:St) (k:List It) (Q:St->Prop),bT c=true->cC K 0 R cs st->uM P n K 0 R k Q (run 0 c cs)->ab P n (.code c::k) st Q)
 {d gf:Nat}{ps:List Nat}{a b:bc}{caps:List V}{xs:List (List V)}(hit:Iter P gf caps xs)(ha:bT a=true)(hb:bT b=true)
 (hxs:(xs.all λx=>cj x&&Nat.beq x.length ps.length)=true){s0:Tr V}{Zt:Tr (Option Ob)}{YA:Nat}{st:St}(hs:cC K 0 R ⟨s0,Zt,YA⟩ st)(hg:st.s d=.fn gf caps)
 (H':uM P n K 0 R k Q (DZ s0 ps (C0 run a b) xs Zt YA)):ab P n (.code (.cE (.t d) ps a b)::k) st Q:=by
 generalize hT:DZ s0 ps (C0 run a b) xs Zt YA=total at H';have Ze:∀x∈xs,cj x=true/\x.length=ps.length:=λx hx=>by
  have:=ed.1 hxs x hx;simp only[Ba]at this;exact⟨this.1,gC this.2⟩
 refine ab.cE (g:=.t d) hg hit (λx hx=>(Ze x hx).2) (match total with|.ex id _=>[id]|_=>[])
  (λpre Za=>∃Zc nx R',Le R R'/\fW K 0 R' (ZQ Zc) nx Za/\DZ s0 ps (C0 run a b) (xs.drop pre.length) Zc nx=total)
  (λe _ Za=>∃YG R',Le R R'/\fW K 0 R' (ZQ YG.U) YG.YA Za/\YG.s=s0/\total=(match e with|some id=>.ex id YG|none=>.rt YG))
  ⟨Zt,YA,R,Le.refl R,hs.mem,hT⟩ ?_ ?_ ?_ ?_
 .rintro pre x post ZJ U hxs' ⟨Zc,nx,R',hle,hm,htot⟩ G';have hdrop:xs.drop pre.length=x::post:=by rw[hxs'];simp
  rw[hdrop]at htot;have YE:=(Ze x (by rw[hxs'];simp)).1;have hm':fW (λid=>match ZJ id with|none=>U id|some _=>K id) 0 R' (ZQ Zc) nx U:=by
   refine⟨hm.dom,hm.live.sup G',hm.inj,hm.fn,λid o h=>?_,λa o c oc h1 h2 h3=>?_⟩
   .have h:(match ZJ id with|none=>U id|some _=>K id)=some o:=h
    split at h
    .exact h
    .exact G' _ _ (hm.gP _ _ h)
   .have h1:(match ZJ a with|none=>U a|some _=>K a)=some o:=h1
    split at h1
    .rename_i hn;obtain⟨r,hr,_⟩:=hm.live c a oc h2 h3;rw[hn]at hr;cases hr
    .exact hm.kfl a o c oc h1 h2 h3
  have hS:cC (λid=>match ZJ id with|none=>U id|some _=>K id) 0 R' ⟨uy ps x s0,Zc,nx⟩ ⟨lf st.s ps x,U⟩:=
   ⟨y8 ps x s0 st.s YE λi=>aq.mono hle _ _ (hs.slot i),hm'⟩
  have Yd:xs.drop (pre++[x]).length=post:=by rw[hxs'];simp
  refine ih _ R' a _ _ _ _ ha hS ?_;simp only[DZ,C0]at htot;generalize run 0 a ⟨uy ps x s0,Zc,nx⟩=oa at htot;cases oa with
  |nx cs1=>
   intro R1 st1 hle1 ZV;refine ab.stop ?_;refine ih _ R1 b cs1 st1 _ _ hb ZV ?_;simp only at htot;generalize run 0 b cs1=ob at htot;cases ob with
   |nx cs2=>
    intro R2 st2 hle2 hs2;refine ab.stop ?_;obtain⟨Z2,Zu,hm2⟩:=oM hm hs2.mem;exact⟨Z2,Zu,cs2.U,cs2.YA,R2,hle.trans (hle1.trans hle2),hm2,by rw[Yd];exact htot⟩
   |ex id cs2=>
    simp only at htot;subst htot;refine⟨_,by simp[exK,gg];rfl,λR2 st2 hle2 hs2=>?_⟩;refine ab.stop ?_;obtain⟨Z2,Zu,hm2⟩:=oM hm hs2.mem;exact⟨Z2,Zu,⟨s0,cs2.U,cs2.YA⟩,R2,hle.trans (hle1.trans hle2),hm2,rfl,rfl⟩
   |rt cs2=>
    simp only at htot;subst htot;intro R2 st2 hle2 hs2;obtain⟨Z2,Zu,hm2⟩:=oM hm hs2.mem;exact⟨Z2,Zu,⟨s0,cs2.U,cs2.YA⟩,R2,hle.trans (hle1.trans hle2),hm2,rfl,rfl⟩
   |bad=>
    simp only at htot;subst htot;exact H'.elim
  |ex id cs1=>simp only at htot;subst htot;exact H'.elim
  |rt cs1=>simp only at htot;subst htot;exact H'.elim
  |bad=>simp only at htot;subst htot;exact H'.elim
 .rintro Z' ⟨Zc,nx,R',hle,hm,htot⟩;rw[ym]at htot;simp only[DZ]at htot;subst htot;exact H' R' _ hle ⟨λi=>aq.mono hle _ _ (hs.slot i),hm⟩
 .rintro id O' pre Z'-⟨YG,R',hle,hm,h1,h2⟩;simp only at h2;subst h2;obtain⟨k',h3,h4⟩:=H';refine ab.exit h3 (h4 R' _ hle ⟨λi=>?_,hm⟩);show aq R' (fj (.P' []) i YG.s) _;rw[h1];exact aq.mono hle _ _ (hs.slot i)
 .rintro pre Z'-⟨YG,R',hle,hm,h1,h2⟩;simp only at h2;subst h2;refine ab.ret (H' R' _ hle ⟨λi=>?_,hm⟩);show aq R' (fj (.P' []) i YG.s) _;rw[h1];exact aq.mono hle _ _ (hs.slot i)
def MR(P:Program)(T:Tb)(fuel:Nat):Prop:=∀(n:Nat) (K:af) (fl:Nat) (R:Nat->Nat->Prop) (c:bc) (cs:CS) (st:St) (k:List It) (Q:St->Prop),
 bT c=true->cC K fl R cs st->uM P n K fl R k Q (cZ T fuel fl c cs)->ab P n (.code c::k) st Q
def BK{T:Tb}{fuel:Nat}(ih:MR P T fuel){g:FuncId}{vf:Yh}(hk:bV P g=true/\mo vf=true/\∃fn,P.funcs[g]?=some fn/\cfn P fn=some vf){args:List V}{Zc:Tr (Option Ob)}{YA fl:Nat}{r:Rs}
 (hlen:args.length<=vf.n)(hr:Nu vf.res (cZ T fuel fl vf.code ⟨Tr.ofL args 0 .e,Zc,YA⟩)=some r){K:af}{R:Nat->Nat->Prop}{U:af}{args':List V}(hm:fW K fl R (ZQ Zc) YA U)(YN:aD R args args'):
 au P g args' U λv Z'=>∃R',Le R R'/\aq R' r.v v/\fW K fl R' (ZQ r.U) r.YA Z':=by
 obtain⟨Zj,M',fn,hf,hcf⟩:=hk;simp only[mo,Ba]at M';refine au.jU hf hcf Zj (by rw[YN.length];exact hlen) ?_;have hs:cC K fl R ⟨Tr.ofL args 0 .e,Zc,YA⟩ ⟨fb args',U⟩:=by
  refine⟨λi=>?_,hm⟩;show aq R (fj (.P' []) i (Tr.ofL args 0 .e)) (args'.getD i (.P' []));rw[AP,wg];by_cases hi:i<args.length
  .rw[ar ⟨Nat.zero_le _,by omega⟩,Nat.sub_zero];obtain⟨u,h1,h2⟩:=YN.get (Zq6 hi);simp only[sH,h1,Zq6 hi,Option.getD_some];exact h2
  .rw[av (by omega)];have:args'[i]?=none:=qY (by rw[YN.length];omega);simp only[sH,this,Option.getD_none];simp[aq,aD]
 have Zn:∀YG,DL vf.res YG=some r->∀R' st,Le R R'->cC K fl R' YG st->Ret vf.res st λv Z'=>∃R',Le R R'/\aq R' r.v v/\fW K fl R' (ZQ r.U) r.YA Z':=by
  intro YG hq R' st hle Yk;unfold DL at hq;split at hq
  .rename_i v hv;simp only[aB]at hq;subst hq;obtain⟨v',g1,g2⟩:=Br Yk M'.2 hv;exact⟨v',v',st.U,g1,aa.refl _,Wk.refl (aa.refl _) _,R',hle,g2,Yk.mem⟩
  .cases hq
 refine ih vf.n K fl R vf.code _ _ [] _ M'.1 hs ?_;generalize cZ T fuel fl vf.code ⟨Tr.ofL args 0 .e,Zc,YA⟩=o at hr;cases o<;>simp only[Nu,reduceCtorEq]at hr
 .exact λR' st hle Yk=>ab.nil (Zn _ hr R' st hle Yk)
 .exact λR' st hle Yk=>Zn _ hr R' st hle Yk
def IQ{T:Tb}{fuel:Nat}(ih:MR P T fuel){g:FuncId}{vf:Yh}(hk:bV P g=true/\mo vf=true/\∃fn,P.funcs[g]?=some fn/\cfn P fn=some vf){args:List V}{v:V}
 (h:evZ (cZ T fuel) vf args=some v)(ha:cj args=true):aJ P g args v:=by
 intro U;unfold evZ at h;rw[bO]at h;split at h
 .rename_i hlen;split at h
  .rename_i r hr;have hm:fW U 0 (λ_ _=>False) (ZQ .e) 0 U:=⟨λ_ _ h=>h.elim,λ_ _ _ h=>h.elim,λ_ _ _ _ _ h=>h.elim,λ_ _ _ h=>h.elim,aa.refl U,λ_ _ _ _ _ h=>h.elim⟩
   refine(BK ih hk (nH hlen) hr hm (eR args ha)).AL ?_;rintro u Z' ⟨R',_,h1,h2⟩;refine⟨v,U,h2.gP,(vV h2.live 40 r.v u v h h1).wk h2.gP ?_,rfl,rfl⟩;rintro a ⟨c,o,hc,ho⟩;cases hk:U a with
   |none=>rfl
   |some x=>have:=h2.kfl a x c o hk hc ho;omega
  .cases h
 .cases h
def C9{T:Tb}(hT:TOk P T){fuel:Nat}(ih:MR P T fuel):kQ P (iU (cZ T fuel) T.fn):=by
 intro g args Zc YA fl r hr K R U args' hm YN;unfold iU at hr;split at hr
 .cases hr
 .rename_i kd hkd;have M':=hT.fn g kd hkd;split at hr
  .rename_i vf;rw[bO]at hr;split at hr
   .rename_i hlen;exact BK ih M' (nH hlen) hr hm YN
   .cases hr
  .rename_i vf;exact zA (λas1 v h1 h2 _=>IQ ih M' h1 h2) hr hm YN
  .exact zA M' hr hm YN
def zk(T:Tb)(f fl:Nat)(c:bc)(cs:CS):cZ T (f+1) fl c cs=match c with
 |.skip=>.nx cs
 |.reg draw l=>jl draw (iU (cZ T f) T.fn) fl l cs
 |.seq a b=>yc (cZ T f fl a cs) λYG=>cZ T f fl b YG
 |.cond c a b=>onB (c.ev cs.sf) (cZ T f fl a cs) (cZ T f fl b cs)
 |.block id a=>Qh id (cZ T f fl a cs)
 |.loop a=>yc (cZ T f fl a cs) λYG=>cZ T f fl (.loop a) YG
 |.exit id=>.ex id cs
 |.ret=>.rt cs
 |.cE g ps a b=>evR (cZ T f) T.it fl g ps a b cs
 |.regA l Yo=>evA (iU (cZ T f) T.fn) fl l Yo cs
 |.nB l e=>yc (jl true (iU (cZ T f) T.fn) fl l cs) λYG=>jl false (iU (cZ T f) T.fn) fl e YG
 |.bad=>.bad:=rfl
def Av{T:Tb}(hT:TOk P T):∀fuel,MR P T fuel:=by
 intro fuel
 induction fuel using Nat.strongRecOn with
 |_ fuel ih=>
  intro n K fl R c cs st k Q M' hs H';cases fuel with
  |zero=>exact H'.elim
  |succ f=>
   have ihf:=ih f (by omega);have Zp:=C9 hT ihf;rw[zk]at H';cases c with
   |skip=>exact ab.skip (H' R st (Le.refl R) hs)
   |reg draw l=>
    simp only[bT]at M';simp only[jl]at H';cases draw
    .simp only at H';rcases qw (call:=iU (cZ T f) T.fn) (fl:=fl) 1000 l cs with⟨YG,he⟩|he
     .rw[he]at H';exact ab.region (wa Zp 1000 l R cs st he M' hs H')
     .rw[he]at H';exact H'.elim
    .simp only at H';rcases ng (call:=iU (cZ T f) T.fn) (fl:=fl) 1000 l cs with⟨YG,he⟩|he
     .rw[he]at H';exact ab.Gw (AK Zp 1000 l R cs st he M' hs H')
     .rw[he]at H';exact H'.elim
   |seq a b=>
    simp only[bT,Ba]at M';refine ab.seq (ihf n K fl R a cs st _ Q M'.1 hs ?_);simp only[yc]at H';generalize cZ T f fl a cs=o at H';cases o with
    |nx cs1=>exact λR1 st1 hle1 ZV=>ihf n K fl R1 b cs1 st1 k Q M'.2 ZV (H'.le hle1)
    |ex id cs1=>exact H'
    |rt cs1=>exact H'
    |bad=>exact H'
   |cond c a b=>
    simp only[bT,Ba]at M';have hv:=cg hs.slot M'.1;have H':uM P n K fl R k Q (onB (c.ev cs.sf) (cZ T f fl a cs) (cZ T f fl b cs)):=H';unfold onB at H';split at H'
    .rename_i t ht;rw[ht,aq.ij]at hv;refine ab.cond hv (λe=>?_) (λe=>?_)
     .subst e;exact ihf n K fl R a cs st k Q M'.2.1 hs H'
     .subst e;exact ihf n K fl R b cs st k Q M'.2.2 hs H'
    .exact H'.elim
   |block id a=>
    simp only[bT]at M';refine ab.block (ihf n K fl R a cs st _ Q M' hs ?_);simp only[Qh]at H';generalize cZ T f fl a cs=o at H';cases o with
    |nx cs1=>exact λR1 st1 hle1 ZV=>ab.inBlock (H' R1 st1 hle1 ZV)
    |ex j cs1=>
     simp only[sd]at H';by_cases hj:j=id
     .subst hj;rw[ar (by rw[Nat.beq_eq])]at H';exact⟨k,by simp[gg],H'⟩
     .rw[av (by rw[Nat.beq_eq];exact hj)]at H';obtain⟨k',h1,h2⟩:=H';exact⟨k',by simp[gg,hj,h1],h2⟩
    |rt cs1=>exact H'
    |bad=>exact H'
   |loop a=>
    have hok':=M';simp only[bT]at M';have hthen0:uM P n K fl R k Q (cZ T (f+1) fl (.loop a) cs):=H';generalize ho:cZ T (f+1) fl (.loop a) cs=o at hthen0;refine ab.loop (λm st=>m<=f+1/\∃R1 cs1,Le R R1/\cC K fl R1 cs1 st/\cZ T m fl (.loop a) cs1=o) (f+1) ⟨YY _,R,cs,Le.refl R,hs,ho⟩ ?_;rintro m st1 ⟨hm,R1,cs1,hle1,ZV,ho1⟩;cases m with
    |zero=>
     have:o=.bad:=ho1.symm;rw[this]at hthen0;exact hthen0.elim
    |succ m=>
     have ihm:=ih m (by omega);rw[zk]at ho1;refine ihm n K fl R1 a cs1 st1 _ Q M' ZV ?_;simp only[yc]at ho1;generalize cZ T m fl a cs1=o1 at ho1;cases o1 with
     |nx cs2=>exact λR2 st2 hle2 hs2=>ab.stop ⟨m,by omega,by omega,R2,cs2,hle1.trans hle2,hs2,ho1⟩
     |ex id cs2=>
      have ho1:Out.ex id cs2=o:=ho1;rw[<-ho1]at hthen0;obtain⟨k',h1,h2⟩:=hthen0;exact⟨k',by simpa[gg]using h1,λR2 st2 hle2 hs2=>h2 R2 st2 (hle1.trans hle2) hs2⟩
     |rt cs2=>
      have ho1:Out.rt cs2=o:=ho1;rw[<-ho1]at hthen0;exact λR2 st2 hle2 hs2=>hthen0 R2 st2 (hle1.trans hle2) hs2
     |bad=>
      have ho1:Out.bad=o:=ho1;rw[<-ho1]at hthen0;exact hthen0.elim
   |exit id=>
    obtain⟨k',h1,h2⟩:=H';exact ab.exit h1 (h2 R st (Le.refl R) hs)
   |ret=>exact ab.ret (H' R st (Le.refl R) hs)
   |cE g ps a b=>
    simp only[bT,Ba]at M';have H':uM P n K fl R k Q (evR (cZ T f) T.it fl g ps a b cs):=H';unfold evR at H';rw[bO]at H';split at H'
    .rename_i hfl;have hfl:=gC hfl;subst hfl;split at H'
     .rename_i d _;split at H'
      .rename_i gf caps hd;split at H'
       .rename_i h hI;split at H'
        .rename_i Zl hcaps;split at H'
         .rename_i xs hxs;unfold UD at H';rw[bO]at H';split at H'
          .rename_i Ze;have YE:=o5 (mn 40 cs.U) hcaps;have hit:=hT.it gf h hI Zl xs hxs YE;obtain⟨Z',g1,g2,g3⟩:=pc (tp (qk 40 cs.U) caps) cs.U st.U hs.mem;have hslot:=hs.slot d;rw[hd]at hslot;simp only[aq]at hslot;obtain⟨caps2,hd2,hcr⟩:=hslot;have hfz:FzL st.U (λa=>Z' a=none) caps2 Zl:=BF hs.mem.live _ _ _ hcaps hcr g3;have hw:NS st ⟨aN st.s (some d) (.fn gf Zl),Z'⟩:=⟨g1,λi=>by
            show Wk st.U Z' (st.s i) (if i=d then .fn gf Zl else st.s i);split
            .rename_i e;subst e;rw[hd2];exact(Fz.fn gf _ _ hfz).wk g1 (λ_ h=>h)
            .exact Wk.refl g1 _⟩
           refine ab.weaken hw ?_;refine Rz (run:=cZ T f) (λK R c cs st k Q=>ihf n K 0 R c cs st k Q) hit M'.1 M'.2 Ze (st:=⟨aN st.s (some d) (.fn gf Zl),Z'⟩) ⟨λi=>?_,g2⟩ (by simp[aN]) H';show aq R (fj (.P' []) i (kc (.P' []) (.fn gf Zl) d cs.s)) (if i=d then .fn gf Zl else st.s i);rw[kr];split
           .exact cT _ (by simpa[V.cu]using YE)
           .exact hs.slot i
          .exact H'.elim
         .exact H'.elim
        .exact H'.elim
       .exact H'.elim
      .exact H'.elim
     .exact H'.elim
    .exact H'.elim
   |regA l Yo=>
    simp only[bT]at M';have H':uM P n K fl R k Q (evA (iU (cZ T f) T.fn) fl l Yo cs):=H';unfold evA at H';cases hp:FP l Yo with
    |none=>rw[hp]at H';exact H'.elim
    |some t=>
     rw[hp]at H';have H':uM P n K fl R k Q (evT (iU (cZ T f) T.fn) fl l 8 [] t cs):=H';rcases QC (call:=iU (cZ T f) T.fn) (fl:=fl) (l:=l) 8 [] t cs with⟨YG,hx⟩|hx
     .rw[hx]at H';exact ab.D5 hT.mix 8 t (IN hp) (EP Zp M' 8 [] t R cs st hx hs H')
     .rw[hx]at H';exact H'.elim
   |nB l e=>
    simp only[bT,Ba]at M';have H':uM P n K fl R k Q (yc (jl true (iU (cZ T f) T.fn) fl l cs) λYG=>jl false (iU (cZ T f) T.fn) fl e YG):=H';simp only[jl]at H';rcases ng (call:=iU (cZ T f) T.fn) (fl:=fl) 1000 l cs with⟨YG,he⟩|he
    .rw[he]at H';simp only[yc]at H';rcases qw (call:=iU (cZ T f) T.fn) (fl:=fl) 1000 e YG with⟨cs2,he2⟩|he2
     .rw[he2]at H';refine ab.nB (AK Zp 1000 l R cs st he M'.1 hs λR' Zd hle Yk=>?_);exact wa Zp 1000 e R' YG Zd he2 M'.2 Yk (H'.le hle)
     .rw[he2]at H';exact H'.elim
    .rw[he]at H';exact H'.elim
   |bad=>exact H'.elim
def tbF(P:Program)(z:FuncId->Bool)(o:FuncId->Option (List V->Option V)):FuncId->Option Fk:=λf=>match o f with
 |some g=>some (.orc g)
 |none=>match P.funcs[f]? with
  |some fn=>(match cfn P fn with
   |some vf=>@Bool.casesOn (λ_=>Option Fk) (bV P f&&mo vf) none (some (@Bool.casesOn (λ_=>Fk) (z f) (.fz vf) (.code vf)))
   |none=>none)
  |none=>none
def SU{P:Program}(hm:P.follows .mixedOrders=true)(z:FuncId->Bool){o:FuncId->Option (List V->Option V)}{it:FuncId->Option (List V->Option (List (List V)))}
 (ho:∀f g,o f=some g->∀as1 v,g as1=some v->cj as1=true->v.cu=true->aJ P f as1 v)(hi:∀g h,it g=some h->∀caps xs,h caps=some xs->cj caps=true->Iter P g caps xs):
 TOk P ⟨tbF P z o,it⟩:=by
 refine⟨hm,λg k h=>?_,hi⟩;simp only[tbF]at h;split at h
 .rename_i og hog;simp only[aB]at h;subst h;exact ho g og hog
 .split at h
  .rename_i fn hfn;split at h
   .rename_i vf hvf;rw[sd]at h;split at h
    .rename_i hc;simp only[Ba]at hc;simp only[aB]at h;subst h;have hk:bV P g=true/\mo vf=true/\∃fn,P.funcs[g]?=some fn/\cfn P fn=some vf:=⟨hc.1,hc.2,fn,hfn,hvf⟩
     cases z g<;>exact hk
    .cases h
   .cases h
  .cases h
def ev3(P:Program)(T:Tb)(fuel:Nat)(f:FuncId)(args:List V):Option V:=match P.funcs[f]? with
 |some fn=>(match cfn P fn with
  |some vf=>@Bool.casesOn (λ_=>Option V) (bV P f&&mo vf) none (evZ (cZ T fuel) vf args)
  |none=>none)
 |none=>none
def Pv(P:Program)(T:Tb)(fuel:Nat)(f:FuncId)(args:List V)(v:V):Bool:=match ev3 P T fuel f args with
 |some u=>rP 40 u v
 |none=>false
def aJ.Sk{P:Program}{T:Tb}(hT:TOk P T)(fuel:Nat){f:FuncId}{args:List V}{v:V}(ha:cj args=true)(h:Pv P T fuel f args v=true):aJ P f args v:=by
 unfold Pv at h;split at h
 .rename_i u hu;rw[<-nj 40 u v h];unfold ev3 at hu;split at hu
  .rename_i fn hfn;split at hu
   .rename_i vf hvf;rw[bO]at hu;split at hu
    .rename_i hc;simp only[Ba]at hc;exact IQ (Av hT fuel) ⟨hc.1,hc.2,fn,hfn,hvf⟩ hu ha
    .cases hu
   .cases hu
  .cases hu
 .cases h
structure YCf where
 cs:CS
 i:Nat
 stop:Bool
 log:List (List V)
inductive gn where
 |nx (c:YCf)
 |ex (id:Nat) (c:YCf)
 |rt (c:YCf)
def tF{α β:Type}(f:α->Option (List β)):List α->Option (List β)
 |[]=>some []
 |a::l=>match f a with
  |some x=>(match tF f l with
   |some y=>some (x++y)
   |none=>none)
  |none=>none
def nxY(k:YCf->Option (List gn))(o:gn):Option (List gn):=match o with
 |.nx c=>k c
 |.ex id c=>some [.ex id c]
 |.rt c=>some [.rt c]
def yM(o:Option (List gn))(k:YCf->Option (List gn)):Option (List gn):=match o with
 |some l=>tF (nxY k) l
 |none=>none
def OP(id:Nat)(o:gn):gn:=match o with
 |.nx c=>.nx c
 |.ex j c=>@Bool.casesOn (λ_=>gn) (Nat.beq j id) (.ex j c) (.nx c)
 |.rt c=>.rt c
def iL(c:YCf)(o:Out):Option (List gn):=match o with
 |.nx cs=>some [.nx ⟨cs,c.i,c.stop,c.log⟩]
 |.ex id cs=>some [.ex id ⟨cs,c.i,c.stop,c.log⟩]
 |.rt cs=>some [.rt ⟨cs,c.i,c.stop,c.log⟩]
 |.bad=>none
def nxs:List YCf->List gn
 |[]=>[]
 |c::l=>.nx c::nxs l
def Ix(xs:Option (List (List V)))(dst:Option Nat)(args:List V)(c:YCf):Option (List YCf):=match xs with
 |none=>@Bool.casesOn (λ_=>Option (List YCf)) (cj args) none (some [⟨c.cs.put dst (.bool true),Nat.succ c.i,false,args::c.log⟩])
 |some l=>match l[c.i]? with
  |some x=>@Bool.casesOn (λ_=>Option (List YCf)) (cj args&&(iP (rP 40) args x&&!c.stop)) none
     (some [⟨c.cs.put dst (.bool true),Nat.succ c.i,false,[]⟩,⟨c.cs.put dst (.bool false),Nat.succ c.i,true,[]⟩])
  |none=>none
def L5(res:List VR)(dst:Option Nat)(c:YCf)(o:gn):Option (List YCf):=match o with
 |.ex _ _=>none
 |.nx c1=>(match DL res c1.cs with
  |some r=>some [⟨CS.put ⟨c.cs.s,r.U,r.YA⟩ dst r.v,c1.i,c1.stop,c1.log⟩]
  |none=>none)
 |.rt c1=>(match DL res c1.cs with
  |some r=>some [⟨CS.put ⟨c.cs.s,r.U,r.YA⟩ dst r.v,c1.i,c1.stop,c1.log⟩]
  |none=>none)
def OC(run:bc->YCf->Option (List gn))(vf:Yh)(dst:Option Nat)(args:List V)(c:YCf):Option (List YCf):=
 @Bool.casesOn (λ_=>Option (List YCf)) (Nat.ble args.length vf.n) none (match run vf.code ⟨⟨Tr.ofL args 0 .e,c.cs.U,c.cs.YA⟩,c.i,c.stop,c.log⟩with
  |some outs=>tF (L5 vf.res dst c) outs
  |none=>none)
def Jm(call:gr)(i:az)(c:YCf):Option (List YCf):=match(ou i).f call 0 c.cs with
 |some YG=>some [⟨YG,c.i,c.stop,c.log⟩]
 |none=>none
def EX(T:Tb)(call:gr)(run:bc->YCf->Option (List gn))(xs:Option (List (List V)))(i:az)(c:YCf):Option (List YCf):=match i.op with
 |.call fx args=>(match aP c.cs.sf i.g with
  |some true=>(match fx.ev c.cs.sf with
   |.yl j=>@Bool.casesOn (λ_=>Option (List YCf)) (Nat.beq j 0) none (Ix xs i.dst (args.map (·.ev c.cs.sf)) c)
   |.fn f caps=>(match T.fn f with
    |some (.code vf)=>OC run vf i.dst (args.map (·.ev c.cs.sf)++caps) c
    |_=>Jm call i c)
   |_=>Jm call i c)
  |some false=>some [⟨c.cs.put i.dst (.P' []),c.i,c.stop,c.log⟩]
  |none=>none)
 |_=>Jm call i c
def A0(f:az->YCf->Option (List YCf)):List az->YCf->Option (List YCf)
 |[],c=>some [c]
 |i::l,c=>match f i c with
  |some cs=>tF (A0 f l) cs
  |none=>none
def GZ(o:Option (List YCf)):Option (List gn):=match o with
 |some l=>some (nxs l)
 |none=>none
def onY(v:V)(a b:Option (List gn)):Option (List gn):=match v with
 |.bool t=>@Bool.casesOn (λ_=>Option (List gn)) t b a
 |_=>none
def S1(id:Nat)(o:Option (List gn)):Option (List gn):=match o with
 |some l=>some (l.map (OP id))
 |none=>none
def evY(T:Tb)(xs:Option (List (List V)))(fuel:Nat):bc->YCf->Option (List gn):=
 @Nat.rec (λ_=>bc->YCf->Option (List gn)) (λ_ _=>none)
  (λf ih c y=>match c with
    |.skip=>some [.nx y]
    |.reg draw l=>@Bool.casesOn (λ_=>Option (List gn)) draw (GZ (A0 (EX T (iU (cZ T f) T.fn) ih xs) l y)) (iL y (cZ T (f+1) 0 (.reg true l) y.cs))
    |.seq a b=>yM (ih a y) (ih b)
    |.cond x a b=>onY (x.ev y.cs.sf) (ih a y) (ih b y)
    |.block id a=>S1 id (ih a y)
    |.loop a=>yM (ih a y) (ih (.loop a))
    |.exit id=>some [.ex id y]
    |.ret=>some [.rt y]
    |.cE g ps a b=>iL y (cZ T (f+1) 0 (.cE g ps a b) y.cs)
    |.regA l Yo=>iL y (cZ T (f+1) 0 (.regA l Yo) y.cs)
    |.nB l e=>(match jl true (iU (cZ T f) T.fn) 0 l y.cs with
     |.nx YG=>GZ (A0 (EX T (iU (cZ T f) T.fn) ih xs) e ⟨YG,y.i,y.stop,y.log⟩)
     |_=>none)
    |.bad=>none) fuel
def mi{α β:Type}{f:α->Option (List β)}:∀{l:List α} {r:List β},tF f l=some r->∀a∈l,∃x,f a=some x/\∀b∈x,b∈r
 |[],_,_,a,ha=>by simp at ha
 |a::l,r,h,a',ha=>by
  simp only[tF]at h;split at h
  .rename_i x hx;split at h
   .rename_i y hy;simp only[aB]at h;subst h;rcases cm.1 ha with rfl|ha
    .exact⟨x,hx,λb hb=>List.mem_append_left _ hb⟩
    .obtain⟨z,h1,h2⟩:=mi hy a' ha;exact⟨z,h1,λb hb=>List.mem_append_right _ (h2 b hb)⟩
   .cases h
  .cases h
def Gt:∀{l:List YCf} {c:YCf},c∈l->gn.nx c∈nxs l
 |a::l,c,h=>by
  rcases cm.1 h with rfl|h
  .simp[nxs]
  .simp[nxs,Gt h]
variable {P:Program} {n:Nat}
section
variable {Yv:Nat} {J Jx:List (List V)->af->Prop} {xs:List (List V)}
def YI(J Jx:List (List V)->af->Prop)(xs:List (List V))(c:YCf)(ZJ:af):Prop:=(c.stop=false->J (xs.take c.i) ZJ)/\(c.stop=true->∃pre,pre <+: xs/\Jx pre ZJ)
def YR(Yv:Nat)(J Jx:List (List V)->af->Prop)(xs:List (List V))(R:Nat->Nat->Prop)(c:YCf)(st:St):Prop:=R 0 Yv/\∃ZJ,YI J Jx xs c ZJ/\cC ZJ 0 R c.cs st
def Cr(P:Program)(Yv:Nat)(J Jx:List (List V)->af->Prop)(xs:List (List V))(n:Nat)(R:Nat->Nat->Prop)(k:List It)(Q:St->Prop):gn->Prop
 |.nx c=>∀R' st,Le R R'->YR Yv J Jx xs R' c st->ab P n k st Q
 |.ex id c=>∃k',gg id k=some k'/\∀R' st,Le R R'->YR Yv J Jx xs R' c st->ab P n k' st Q
 |.rt c=>∀R' st,Le R R'->YR Yv J Jx xs R' c st->Q st
def Cr.le{R R':Nat->Nat->Prop}{k:List It}{Q:St->Prop}{o:gn}(h:Cr P Yv J Jx xs n R k Q o)(hle:Le R R'):Cr P Yv J Jx xs n R' k Q o:=by
 cases o
 case ex=>obtain⟨k',h1,h2⟩:=h;exact⟨k',h1,λR'' st h3 h4=>h2 R'' st (hle.trans h3) h4⟩
 all_goals exact λR'' st h3 h4=>h R'' st (hle.trans h3) h4
def HY(P:Program)(Yv:Nat)(J Jx:List (List V)->af->Prop)(xs:List (List V)):Prop:=∀pre x post ZJ U,xs=pre++x::post->J pre ZJ->aa ZJ U->
 YC P Yv x U λb Z'=>∃Yx,aT ZJ U Yx Z'/\((b=true/\J (pre++[x]) Yx)\/(b=false/\Jx (pre++[x]) Yx))
def LY(P:Program)(Yv:Nat)(J Jx:List (List V)->af->Prop)(xs:List (List V))(run:bc->YCf->Option (List gn)):Prop:=∀(n:Nat) (R:Nat->Nat->Prop) (code:bc) (c:YCf) (st:St) (k:List It) (Q:St->Prop) (outs:List gn),
 bT code=true->YR Yv J Jx xs R c st->run code c=some outs->(∀o∈outs,Cr P Yv J Jx xs n R k Q o)->ab P n (.code code::k) st Q
def BL{run:bc->YCf->Option (List gn)}(ih:LY P Yv J Jx xs run){g:FuncId}{vf:Yh}(hk:bV P g=true/\mo vf=true/\∃fn,P.funcs[g]?=some fn/\cfn P fn=some vf){args:List V}{c:YCf}{dst:Option Nat}{outs:List gn}{rs:List YCf}
 (hlen:args.length<=vf.n)(hr:run vf.code ⟨⟨Tr.ofL args 0 .e,c.cs.U,c.cs.YA⟩,c.i,c.stop,c.log⟩=some outs)(hrs:tF (L5 vf.res dst c) outs=some rs){R:Nat->Nat->Prop}{ZJ U:af}{args':List V}(h0:R 0 Yv)(hI:YI J Jx xs c ZJ)
 (hm:fW ZJ 0 R (ZQ c.cs.U) c.cs.YA U)(YN:aD R args args'):
 au P g args' U λv Z'=>∃(c1:YCf) (r:Rs) (R':Nat->Nat->Prop) (Yx:af),(⟨CS.put ⟨c.cs.s,r.U,r.YA⟩ dst r.v,c1.i,c1.stop,c1.log⟩:YCf)∈rs/\Le R R'/\aq R' r.v v/\YI J Jx xs c1 Yx/\fW Yx 0 R' (ZQ r.U) r.YA Z':=by
 obtain⟨Zj,M',fn,hf,hcf⟩:=hk;simp only[mo,Ba]at M';refine au.jU hf hcf Zj (by rw[YN.length];exact hlen) ?_;have hs:cC ZJ 0 R ⟨Tr.ofL args 0 .e,c.cs.U,c.cs.YA⟩ ⟨fb args',U⟩:=by
  refine⟨λi=>?_,hm⟩;show aq R (fj (.P' []) i (Tr.ofL args 0 .e)) (args'.getD i (.P' []));rw[AP,wg];by_cases hi:i<args.length
  .rw[ar ⟨Nat.zero_le _,by omega⟩,Nat.sub_zero];obtain⟨u,h1,h2⟩:=YN.get (Zq6 hi);simp only[sH,h1,Zq6 hi,Option.getD_some];exact h2
  .rw[av (by omega)];have:args'[i]?=none:=qY (by rw[YN.length];omega);simp only[sH,this,Option.getD_none];simp[aq,aD]
 have Zn:∀c1,(∃x,(match DL vf.res c1.cs with|some r=>some [(⟨CS.put ⟨c.cs.s,r.U,r.YA⟩ dst r.v,c1.i,c1.stop,c1.log⟩:YCf)]|none=>none)=some x/\∀b∈x,b∈rs)->∀R' st,Le R R'->YR Yv J Jx xs R' c1 st->
  Ret vf.res st λv Z'=>∃(c1:YCf) (r:Rs) (R':Nat->Nat->Prop) (Yx:af),(⟨CS.put ⟨c.cs.s,r.U,r.YA⟩ dst r.v,c1.i,c1.stop,c1.log⟩:YCf)∈rs/\Le R R'/\aq R' r.v v/\YI J Jx xs c1 Yx/\fW Yx 0 R' (ZQ r.U) r.YA Z':=by
  rintro c1 ⟨x,hx,hmem⟩ R' st hle ⟨_,Yx,hI',Yk⟩;split at hx
  .rename_i r hq;simp only[aB]at hx;subst hx;have hq0:=hq;unfold DL at hq;split at hq
   .rename_i v hv;simp only[aB]at hq;obtain⟨v',g1,g2⟩:=Br Yk M'.2 hv;refine⟨v',v',st.U,g1,aa.refl _,Wk.refl (aa.refl _) _,c1,r,R',Yx,hmem _ (by simp),hle,?_,hI',?_⟩
    .rw[<-hq];exact g2
    .rw[<-hq];exact Yk.mem
   .cases hq
  .cases hx
 refine ih vf.n R vf.code ⟨⟨Tr.ofL args 0 .e,c.cs.U,c.cs.YA⟩,c.i,c.stop,c.log⟩ _ [] _ outs M'.1 ⟨h0,ZJ,hI,hs⟩ hr λo ho=>?_;have hb:=mi hrs o ho;cases o with
 |nx c1=>exact λR' st hle Yk=>ab.nil (Zn c1 hb R' st hle Yk)
 |ex id c1=>obtain⟨x,hx,_⟩:=hb;simp[L5]at hx
 |rt c1=>exact λR' st hle Yk=>Zn c1 hb R' st hle Yk
def Dv{R:Nat->Nat->Prop}{s s':Nat->V}(h:∀i,aq R (s i) (s' i)){g:Option (VX×Bool)}(hg:(match g with|some (x,_)=>okX x|none=>true)=true){b:Bool}(hw:aP s g=some b):aP s' g=some b:=by
 unfold aP at hw|-;split at hw
 .exact hw
 .rename_i x t;have hv:=cg h (x:=x) hg;split at hw
  .rename_i c hc;rw[hc,aq.ij]at hv;rw[hv];exact hw
  .rename_i hc;rw[hc]at hv;simp only[aq,aD]at hv;obtain⟨_,hv,rfl⟩:=hv;rw[hv];exact hw
  .rename_i hc;rw[hc,aq.iH]at hv;rw[hv];exact hw
  .cases hw
def LA(hy:HY P Yv J Jx xs){T:Tb}(hT:TOk P T){call:gr}(hc:kQ P call){run:bc->YCf->Option (List gn)}(ih:LY P Yv J Jx xs run){i:az}{l:List az}{R:Nat->Nat->Prop}{c:YCf}{st:St}{k:List It}{Q:St->Prop}{cs:List YCf}
 (M':dv i=true)(h:YR Yv J Jx xs R c st)(hr:EX T call run (some xs) i c=some cs)
 (hk:∀c'∈cs,∀R' Zd,Le R R'->YR Yv J Jx xs R' c' Zd->ab P n (.ops l::k) Zd Q):ab P n (.ops (i::l)::k) st Q:=by
 obtain⟨h0,ZJ,hI,hs⟩:=h;have hplain:Jm call i c=some cs->ab P n (.ops (i::l)::k) st Q:=by
  intro hr;unfold Jm at hr;split at hr
  .rename_i YG hcs;simp only[aB]at hr;subst hr;exact CZ hc M' hs hcs λR' Zd hle Yk=>hk _ (eu.2 rfl) R' Zd hle ⟨hle _ _ h0,ZJ,hI,Yk⟩
  .cases hr
 unfold EX at hr;split at hr
 .rename_i fx args Yf;have hok':=M';simp only[dv,Ba]at hok';have hokx:=hok'.1;rw[Yf]at hokx;simp only[jV,Yw.xs,ja,Ba]at hokx;have hgok:(match i.g with|some (x,_)=>okX x|none=>true)=true:=by
   have:=hok'.2;revert this;cases i.g with
   |none=>simp
   |some x=>simp
  split at hr
  .rename_i hw;have hw':=Dv hs.slot hgok hw;split at hr
   .rename_i j hj;rw[bO]at hr;split at hr
    .rename_i hj0;have hj0:=gC hj0;subst hj0;have hfx:=cg hs.slot hokx.1.1;rw[hj]at hfx;simp only[aq]at hfx;obtain⟨ZL,hfx,hR⟩:=hfx;have:ZL=Yv:=hs.mem.fn _ _ _ hR h0;subst this;simp only[Ix]at hr;split at hr
     .rename_i x hx;rw[sd]at hr;split at hr
      .rename_i hcond;simp only[Ba,Bool.not_eq_true']at hcond;obtain⟨YE,heq,Yy⟩:=hcond;have heq:=u5 (nj 40) heq;simp only[aB]at hr;subst hr;have YN:=ga hs.slot hokx.1.2;have YN:=jw _ _ YE YN;have L':c.i<xs.length:=(jj.1 hx).1;have hxs:xs=xs.take c.i++x::xs.drop (c.i+1):=by
        have h1:xs[c.i]=x:=(jj.1 hx).2;rw[<-h1,<-ie L',uQ]
       have Zg:xs.take c.i++[x]=xs.take (c.i+1):=by
        have h1:xs[c.i]=x:=(jj.1 hx).2;rw[IL,hx];rfl
       have hyc:=hy (xs.take c.i) x _ ZJ st.U hxs (hI.1 Yy) hs.mem.gP;refine ab.nv hw' Yf hfx (Post:=λb Z'=>∃Yx,aT ZJ st.U Yx Z'/\((b=true/\J (xs.take c.i++[x]) Yx)\/(b=false/\Jx (xs.take c.i++[x]) Yx))) ?_ ?_
       .rw[YN,heq];exact hyc
       .rintro b Z' ⟨Yx,hb,Zo⟩;have hm:fW Yx 0 R (ZQ c.cs.U) c.cs.YA Z':=by
         have hnone:∀a o c1,R c1 a->ZQ c.cs.U c1=some o->ZJ a=none:=λa o c1 hR ho=>by
          cases hj:ZJ a with
          |none=>rfl
          |some x=>have:=hs.mem.kfl a x c1 o hj hR ho;omega
         refine⟨hs.mem.dom,λc1 a o hR ho=>?_,hs.mem.inj,hs.mem.fn,hb.1,λa o c1 oc h1 h2 h3=>?_⟩
         .obtain⟨Yc,g1,g2⟩:=hs.mem.live c1 a o hR ho;exact⟨Yc,(hb.2 a _ (hnone a o c1 hR ho) g1).1,g2⟩
         .obtain⟨Yc,g1,g2⟩:=hs.mem.live c1 a oc h2 h3;have:=(hb.2 a _ (hnone a oc c1 h2 h3) g1).2;rw[this]at h1;cases h1
        have hS:cC Yx 0 R c.cs ⟨st.s,Z'⟩:=⟨hs.slot,hm⟩
        rcases Zo with⟨rfl,hJ⟩|⟨rfl,hJ⟩
        .refine hk ⟨c.cs.put i.dst (.bool true),Nat.succ c.i,false,[]⟩ (by simp) R _ (Le.refl R) ⟨h0,Yx,⟨λ_=>?_,λe=>by simp at e⟩,hS.put (by simp[aq])⟩;rw[Zg]at hJ;exact hJ
        .exact hk ⟨c.cs.put i.dst (.bool false),Nat.succ c.i,true,[]⟩ (by simp) R _ (Le.refl R) ⟨h0,Yx,⟨λe=>by simp at e,λ_=>⟨_,⟨xs.drop (c.i+1),by rw[lN];exact hxs.symm⟩,hJ⟩⟩,hS.put (by simp[aq])⟩
      .cases hr
     .cases hr
    .cases hr
   .rename_i f caps hf;split at hr
    .rename_i vf hvf;have hkf:=hT.fn f _ hvf;have hfx:=cg hs.slot hokx.1.1;rw[hf]at hfx;simp only[aq]at hfx;obtain⟨Zl,hf',hcaps⟩:=hfx;unfold OC at hr;rw[bO]at hr;split at hr
     .rename_i hlen;split at hr
      .rename_i outs houts;refine ab.call hw' Yf hf' (BL ih hkf (nH hlen) houts hr h0 hI hs.mem ((ga hs.slot hokx.1.2).append hcaps)) ?_;rintro v Z' ⟨c1,r,R',Yx,hmem,hle,hv,hI',hm'⟩;have hS:cC Yx 0 R' ⟨c.cs.s,r.U,r.YA⟩ ⟨st.s,Z'⟩:=⟨λj=>aq.mono hle _ _ (hs.slot j),hm'⟩
       exact hk _ hmem R' _ hle ⟨hle _ _ h0,Yx,hI',hS.put hv⟩
      .cases hr
     .cases hr
    .exact hplain hr
   .exact hplain hr
  .rename_i hw;have hw':=Dv hs.slot hgok hw;simp only[aB]at hr;subst hr;exact ab.o6 hw' (hk _ (eu.2 rfl) R _ (Le.refl R) ⟨h0,ZJ,hI,hs.put aq.An⟩)
  .cases hr
 .exact hplain hr
def DI{f:az->YCf->Option (List YCf)}{k:List It}{Q:St->Prop}
 (hins:∀(i:az) (l:List az) (R:Nat->Nat->Prop) (c:YCf) (st:St) (cs:List YCf),dv i=true->YR Yv J Jx xs R c st->f i c=some cs->
   (∀c'∈cs,∀R' Zd,Le R R'->YR Yv J Jx xs R' c' Zd->ab P n (.ops l::k) Zd Q)->ab P n (.ops (i::l)::k) st Q):∀(l:List az) (R:Nat->Nat->Prop) (c:YCf) (st:St) (outs:List YCf),
   l.all dv=true->YR Yv J Jx xs R c st->A0 f l c=some outs->(∀c'∈outs,∀R' Zd,Le R R'->YR Yv J Jx xs R' c' Zd->ab P n k Zd Q)->ab P n (.ops l::k) st Q
 |[],R,c,st,outs,_,h,hr,hk=>by
  simp only[A0,aB]at hr;subst hr;exact ab.AJ (hk c (by simp) R st (Le.refl R) h)
 |i::l,R,c,st,outs,M',h,hr,hk=>by
  simp only[ja,Ba]at M';simp only[A0]at hr;split at hr
  .rename_i cs hcs;refine hins i l R c st cs M'.1 h hcs λc' hc' R' Zd hle h'=>?_;obtain⟨x,h1,h2⟩:=mi hr c' hc';exact DI hins l R' c' Zd x M'.2 h' h1 λc'' hc'' R'' st'' hle' h''=>hk c'' (h2 _ hc'') R'' st'' (hle.trans hle') h''
  .cases hr
def Cz(T:Tb)(xs:Option (List (List V)))(f:Nat)(c:bc)(y:YCf):evY T xs (f+1) c y=match c with
 |.skip=>some [.nx y]
 |.reg draw l=>@Bool.casesOn (λ_=>Option (List gn)) draw (GZ (A0 (EX T (iU (cZ T f) T.fn) (evY T xs f) xs) l y)) (iL y (cZ T (f+1) 0 (.reg true l) y.cs))
 |.seq a b=>yM (evY T xs f a y) (evY T xs f b)
 |.cond x a b=>onY (x.ev y.cs.sf) (evY T xs f a y) (evY T xs f b y)
 |.block id a=>S1 id (evY T xs f a y)
 |.loop a=>yM (evY T xs f a y) (evY T xs f (.loop a))
 |.exit id=>some [.ex id y]
 |.ret=>some [.rt y]
 |.cE g ps a b=>iL y (cZ T (f+1) 0 (.cE g ps a b) y.cs)
 |.regA l Yo=>iL y (cZ T (f+1) 0 (.regA l Yo) y.cs)
 |.nB l e=>(match jl true (iU (cZ T f) T.fn) 0 l y.cs with
  |.nx YG=>GZ (A0 (EX T (iU (cZ T f) T.fn) (evY T xs f) xs) e ⟨YG,y.i,y.stop,y.log⟩)
  |_=>none)
 |.bad=>none:=rfl
def Ps(hy:HY P Yv J Jx xs){T:Tb}(hT:TOk P T):∀fuel,LY P Yv J Jx xs (evY T (some xs) fuel):=by
 intro fuel
 induction fuel using Nat.strongRecOn with
 |_ fuel ih=>
  intro n R code c st k Q outs M' h hr H';cases fuel with
  |zero=>cases hr
  |succ f=>
   have ihf:=ih f (by omega);have Zp:=C9 hT (Av hT f);have hplain:iL c (cZ T (f+1) 0 code c.cs)=some outs->ab P n (.code code::k) st Q:=by
    intro hr;obtain⟨h0,ZJ,hI,hs⟩:=h;refine Av hT (f+1) n ZJ 0 R code c.cs st k Q M' hs ?_;generalize cZ T (f+1) 0 code c.cs=o at hr;cases o with
    |nx YG=>
     simp only[iL,aB]at hr;subst hr;have h1:=H' _ (eu.2 rfl);exact λR' Zd hle Yk=>h1 R' Zd hle ⟨hle _ _ h0,ZJ,hI,Yk⟩
    |ex id YG=>
     simp only[iL,aB]at hr;subst hr;obtain⟨k',h1,h2⟩:=H' _ (eu.2 rfl);exact⟨k',h1,λR' Zd hle Yk=>h2 R' Zd hle ⟨hle _ _ h0,ZJ,hI,Yk⟩⟩
    |rt YG=>
     simp only[iL,aB]at hr;subst hr;have h1:=H' _ (eu.2 rfl);exact λR' Zd hle Yk=>h1 R' Zd hle ⟨hle _ _ h0,ZJ,hI,Yk⟩
    |bad=>simp[iL]at hr
   have hops:∀(l:List az) (R:Nat->Nat->Prop) (c:YCf) (st:St),l.all dv=true->YR Yv J Jx xs R c st->GZ (A0 (EX T (iU (cZ T f) T.fn) (evY T (some xs) f) (some xs)) l c)=some outs->
    (∀o∈outs,Cr P Yv J Jx xs n R k Q o)->ab P n (.ops l::k) st Q:=by
    intro l R c st hl h hr H';unfold GZ at hr;split at hr
    .rename_i cs hcs;simp only[aB]at hr;subst hr;refine DI (λi l R c st cs h1 h2 h3 h4=>LA hy hT Zp ihf h1 h2 h3 h4) l R c st cs hl h hcs λc' hc'=>?_;exact H' _ (Gt hc')
    .cases hr
   rw[Cz]at hr;cases code with
   |skip=>
    simp only[aB]at hr;subst hr;have h1:=H' _ (eu.2 rfl);exact ab.skip (h1 R st (Le.refl R) h)
   |reg draw l=>
    cases draw
    .simp only[bT]at M';exact ab.region (hops l R c st M' h hr H')
    .exact hplain hr
   |seq a b=>
    simp only[bT,Ba]at M';simp only[yM]at hr;split at hr
    .rename_i o1 ho1;refine ab.seq (ihf n R a c st _ Q o1 M'.1 h ho1 λo ho=>?_);obtain⟨x,h1,h2⟩:=mi hr o ho;cases o with
     |nx c1=>exact λR1 st1 hle1 ZV=>ihf n R1 b c1 st1 k Q x M'.2 ZV h1 λo ho=>(H' o (h2 o ho)).le hle1
     |ex id c1=>
      simp only[nxY,aB]at h1;subst h1;exact H' _ (h2 _ (eu.2 rfl))
     |rt c1=>
      simp only[nxY,aB]at h1;subst h1;exact H' _ (h2 _ (eu.2 rfl))
    .cases hr
   |cond x a b=>
    simp only[bT,Ba]at M';obtain⟨h0,ZJ,hI,hs⟩:=h;have hv:=cg hs.slot M'.1;have hr:onY (x.ev c.cs.sf) (evY T (some xs) f a c) (evY T (some xs) f b c)=some outs:=hr;unfold onY at hr;split at hr
    .rename_i t ht;rw[ht,aq.ij]at hv;refine ab.cond hv (λe=>?_) (λe=>?_)
     .subst e;exact ihf n R a c st k Q outs M'.2.1 ⟨h0,ZJ,hI,hs⟩ hr H'
     .subst e;exact ihf n R b c st k Q outs M'.2.2 ⟨h0,ZJ,hI,hs⟩ hr H'
    .cases hr
   |block id a=>
    simp only[bT]at M';simp only[S1]at hr;split at hr
    .rename_i o1 ho1;simp only[aB]at hr;subst hr;refine ab.block (ihf n R a c st _ Q o1 M' h ho1 λo ho=>?_);have h1:=H' _ (gl.2 ⟨o,ho,rfl⟩);cases o with
     |nx c1=>exact λR1 st1 hle1 ZV=>ab.inBlock (h1 R1 st1 hle1 ZV)
     |ex j c1=>
      simp only[OP,bO]at h1;by_cases hj:j=id
      .subst hj;rw[ar (by rw[Nat.beq_eq])]at h1;exact⟨k,by simp[gg],h1⟩
      .rw[av (by rw[Nat.beq_eq];exact hj)]at h1;obtain⟨k',h2,h3⟩:=h1;exact⟨k',by simp[gg,hj,h2],h3⟩
     |rt c1=>exact h1
    .cases hr
   |loop a=>
    have hok':=M';simp only[bT]at M';have hr0:evY T (some xs) (f+1) (.loop a) c=some outs:=hr;refine ab.loop (λm st=>m<=f+1/\∃R1 c1 o1,Le R R1/\YR Yv J Jx xs R1 c1 st/\evY T (some xs) m (.loop a) c1=some o1/\∀o∈o1,o∈outs) (f+1) ⟨YY _,R,c,outs,Le.refl R,h,hr0,λ_ h=>h⟩ ?_;rintro m st1 ⟨hm,R1,c1,o1,hle1,ZV,ho1,G'⟩;cases m with
    |zero=>cases ho1
    |succ m=>
     have ihm:=ih m (by omega);rw[Cz]at ho1;simp only[yM]at ho1;split at ho1
     .rename_i o2 ho2;refine ihm n R1 a c1 st1 _ Q o2 M' ZV ho2 λo ho=>?_;obtain⟨x,h1,h2⟩:=mi ho1 o ho;cases o with
      |nx c2=>exact λR2 st2 hle2 hs2=>ab.stop ⟨m,by omega,by omega,R2,c2,x,hle1.trans hle2,hs2,h1,λo ho=>G' o (h2 o ho)⟩
      |ex id c2=>
       simp only[nxY,aB]at h1;subst h1;obtain⟨k',h3,h4⟩:=H' _ (G' _ (h2 _ (eu.2 rfl)));exact⟨k',by simpa[gg]using h3,λR2 st2 hle2 hs2=>h4 R2 st2 (hle1.trans hle2) hs2⟩
      |rt c2=>
       simp only[nxY,aB]at h1;subst h1;exact(H' _ (G' _ (h2 _ (eu.2 rfl)))).le hle1
     .cases ho1
   |exit id=>
    simp only[aB]at hr;subst hr;obtain⟨k',h1,h2⟩:=H' _ (eu.2 rfl);exact ab.exit h1 (h2 R st (Le.refl R) h)
   |ret=>
    simp only[aB]at hr;subst hr;have h1:=H' _ (eu.2 rfl);exact ab.ret (h1 R st (Le.refl R) h)
   |cE g ps a b=>exact hplain hr
   |regA l Yo=>exact hplain hr
   |nB l e=>
    simp only[bT,Ba]at M';obtain⟨h0,ZJ,hI,hs⟩:=h;simp only[jl]at hr;rcases ng (call:=iU (cZ T f) T.fn) (fl:=0) 1000 l c.cs with⟨YG,he⟩|he
    .rw[he]at hr;refine ab.nB (AK Zp 1000 l R c.cs st he M'.1 hs λR' Zd hle Yk=>?_);exact hops e R' ⟨YG,c.i,c.stop,c.log⟩ Zd M'.2 ⟨hle _ _ h0,ZJ,hI,Yk⟩ hr λo ho=>(H' o ho).le hle
    .rw[he]at hr;cases hr
   |bad=>cases hr
end
def Rv(P:Program)(f:FuncId):Option Yh:=match P.funcs[f]? with
 |some fn=>(match cfn P fn with
  |some vf=>@Bool.casesOn (λ_=>Option Yh) (bV P f&&mo vf) none (some vf)
  |none=>none)
 |none=>none
def NZ{f:FuncId}{vf:Yh}(h:Rv P f=some vf):bV P f=true/\mo vf=true/\∃fn,P.funcs[f]?=some fn/\cfn P fn=some vf:=by
 unfold Rv at h;split at h
 .rename_i fn hfn;split at h
  .rename_i vf' hvf;rw[bO]at h;split at h
   .rename_i hc;simp only[Ba]at hc;simp only[aB]at h;subst h;exact⟨hc.1,hc.2,fn,hfn,hvf⟩
   .cases h
  .cases h
 .cases h
def WG:List gn->Option (List (List V))
 |[.nx c]=>some c.log.reverse
 |[.rt c]=>some c.log.reverse
 |_=>none
def T1(n:Nat)(c:YCf):Bool:=@Bool.casesOn (λ_=>Bool) c.stop (Nat.beq c.i n) true
def c0Y(caps:List V):YCf:=⟨⟨Tr.ofL (.yl 0::caps) 0 .e,.e,1⟩,0,false,[]⟩
def itY(T:Tb)(fuel:Nat)(vf:Yh)(caps:List V):Option (List (List V)):=@Bool.casesOn (λ_=>Option (List (List V))) (Nat.ble (Nat.succ caps.length) vf.n) none
 (match evY T none fuel vf.code (c0Y caps)with
   |some o1=>(match WG o1 with
    |some xs=>(match evY T (some xs) fuel vf.code (c0Y caps)with
     |some o2=>(match tF (L5 vf.res none (c0Y caps)) o2 with
      |some rs=>@Bool.casesOn (λ_=>Option (List (List V))) (rs.all (T1 xs.length)) none (some xs)
      |none=>none)
     |none=>none)
    |none=>none)
   |none=>none)
def Qp{T:Tb}(hT:TOk P T){fuel:Nat}{g:FuncId}{vf:Yh}(hk:bV P g=true/\mo vf=true/\∃fn,P.funcs[g]?=some fn/\cfn P fn=some vf){caps:List V}{xs:List (List V)}(h:itY T fuel vf caps=some xs)(hn:cj caps=true):Iter P g caps xs:=by
 unfold itY at h;rw[bO]at h;split at h
 .rename_i hlen;split at h
  .split at h
   .split at h
    .rename_i o2 ho2;split at h
     .rename_i rs hrs;rw[bO]at h;split at h
      .rename_i Zn;simp only[aB]at h;subst h;refine⟨hk.1,λYv J Jx Z0 hy hJ=>?_⟩;have hm:fW Z0 0 (λa b=>a=0/\b=Yv) (ZQ .e) 1 Z0:=⟨λ_ _ h=>by omega,λc a o _ h=>by simp[ZQ,wg]at h,λc c' a o o' _ _ h=>by simp[ZQ,wg]at h,λc a a' h1 h2=>h1.2.trans h2.2.symm,aa.refl Z0,λa o c oc _ _ h=>by simp[ZQ,wg]at h⟩
       refine((BL (c:=c0Y caps) (args:=.yl 0::caps) (args':=.yl Yv::caps) (ZJ:=Z0) (Ps hy hT fuel) hk (nH hlen) ho2 hrs ⟨rfl,rfl⟩ ⟨λ_=>by simpa[c0Y]using hJ,λe=>by simp[c0Y]at e⟩ hm ?_).drop ?_).2
       .exact aD.bu.2 ⟨_,_,rfl,by simp only[aq];exact⟨Yv,rfl,trivial,rfl⟩,eR caps hn⟩
       .rintro r Z' ⟨c1,r',R',Yx,hmem,-,-,hI,hm'⟩;refine⟨Yx,hm'.gP,?_⟩;have hf:=ed.1 Zn _ hmem;simp only[T1,bO]at hf;cases Yy:c1.stop with
        |true=>exact .inr (hI.2 Yy)
        |false=>
         simp only[Yy,eT,if_false,Nat.beq_eq]at hf;have:=hI.1 Yy;rw[hf,ic]at this;exact .inl this
      .cases h
     .cases h
    .cases h
   .cases h
  .cases h
 .cases h
def upT(P:Program)(fuel:Nat)(T:Tb):Tb:=⟨T.fn,λg=>match Rv P g with
 |some vf=>some (itY T fuel vf)
 |none=>none⟩
def EZ{T:Tb}(hT:TOk P T)(fuel:Nat):TOk P (upT P fuel T):=by
 refine⟨hT.mix,hT.fn,λg h hg caps xs hx hn=>?_⟩;simp only[upT]at hg;split at hg
 .rename_i vf hvf;simp only[aB]at hg;subst hg;exact Qp hT (NZ hvf) hx hn
 .cases hg
variable {P:Program}
abbrev Ex:=FuncId×List V×V
def uJ(P:Program)(E:List Ex):Prop:=∀e∈E,aJ P e.1 e.2.1 e.2.2
def uJ.nil:uJ P []:=λ_ h=>by cases h
def uJ.cons{E:List Ex}{f:FuncId}{args:List V}{v:V}(hp:aJ P f args v)(h:uJ P E):uJ P ((f,args,v)::E):=λe he=>by
 rcases cm.1 he with rfl|he
 .exact hp
 .exact h e he
def FR(f:FuncId)(args:List V):List Ex->Option V
 |[]=>none
 |e::E=>@Bool.casesOn (λ_=>Option V) (Nat.beq e.1 f&&iP (rP 40) e.2.1 args) (FR f args E) (some e.2.2)
def CP{f:FuncId}{args:List V}{v:V}:∀{E:List Ex},uJ P E->FR f args E=some v->aJ P f args v
 |[],_,h=>by cases h
 |e::E,hE,h=>by
  simp only[FR,bO]at h;split at h
  .rename_i hc;simp only[Ba]at hc;simp only[aB]at h;subst h;have:=hE e (by simp);rw[gC hc.1,u5 (nj 40) hc.2]at this;exact this
  .exact CP (λe he=>hE e (List.mem_cons_of_mem _ he)) h
def Ut(f:FuncId):List Ex->Bool
 |[]=>false
 |e::E=>@Bool.casesOn (λ_=>Bool) (Nat.beq e.1 f) (Ut f E) true
def UM(E:List Ex)(f:FuncId):Option (List V->Option V):=@Bool.casesOn (λ_=>Option (List V->Option V)) (Ut f E) none (some λargs=>FR f args E)
def I3(f:FuncId):List FuncId->Bool
 |[]=>true
 |g::l=>@Bool.casesOn (λ_=>Bool) (Nat.beq g f) (I3 f l) false
noncomputable def tE (P:Program) (z:List FuncId) (E:List Ex):Tb:=upT P 2000 (upT P 2000 (upT P 2000 ⟨tbF P (λf=>I3 f z) (UM E),λ_=>none⟩))
def UK(hm:P.follows .mixedOrders=true)(z:List FuncId){E:List Ex}(hE:uJ P E):TOk P (tE P z E):=
 EZ (EZ (EZ (SU hm _ (λf g h as1 v hv _ _=>by
  simp only[UM,bO]at h;split at h
  .simp only[aB]at h;subst h;exact CP hE hv
  .cases h) (λ_ _ h=>by cases h)) 2000) 2000) 2000
def GJ(hm:P.follows .mixedOrders=true)(z:List FuncId){E:List Ex}(hE:uJ P E){f:FuncId}{args:List V}{v:V}(ha:cj args=true)(h:Pv P (tE P z E) 3000 f args v=true):aJ P f args v:=
 aJ.Sk (UK hm z hE) 3000 ha h
def aJ.fz{P:Program}{f:FuncId}{args:List V}{v u:V}(h:aJ P f args v)(hz:∀U,Fz U (λ_=>False) v u):aJ P f args u:=λU=>(h U).AL λr Z' e=>by
 obtain⟨rfl,rfl⟩:=e;exact⟨_,_,aa.refl _,Fz.wk (hz _) (aa.refl _) (λ_ h=>h.elim),rfl,rfl⟩
def fzC{U:af}{N:Nat->Prop}{v:V}{vs us:List V}(hv:v.cu=true)(h:FzL U N vs us):FzL U N (v::vs) (v::us):=.cons _ _ _ _ (.same v hv) h
open Go.Proofs Go.Proofs.Tryz
set_option maxRecDepth 1000000
def NH:prog.follows .mixedOrders=true:=by kernel_rfl
def s31:V:=.str [91,111,49,119,49,32,40,49,48,32,48,32,53,32,53,32,53,41,93]
def n31:V:=(.sl 20 [(.agg [(.int .i64 1),(.int .i64 2),(.int .i64 0),(.int .i64 0),(.int .i64 0),(.int .i64 0),(.int .i64 0),(.int .i64 1),(.int .i64 1),(.int .i64 0),(.int .i64 0),(.int .i64 0),(.int .i64 0),(.int .i64 0),(.int .i64 0),(.int .i64 0),(.sl 1 []),(.int .i64 0),(.int .i64 0),(.int .i64 0)]),(.agg [(.int .i64 2),(.int .i64 1),(.int .i64 0),(.int .i64 0),(.int .i64 0),(.int .i64 0),(.int .i64 0),(.int .i64 0),(.int .i64 0),(.int .i64 0),(.int .i64 0),(.int .i64 0),(.int .i64 0),(.int .i64 0),(.int .i64 10),(.int .i64 0),(.sl 1 [(.int .i64 5),(.int .i64 5),(.int .i64 5)]),(.int .i64 0),(.int .i64 0),(.int .i64 0)])])
def Pt:V:=(.sl 20 [(.agg [(.int .i64 1),(.int .i64 2),(.int .i64 0),(.int .i64 0),(.int .i64 0),(.int .i64 0),(.int .i64 0),(.int .i64 1),(.int .i64 1),(.int .i64 0),(.int .i64 0),(.int .i64 0),(.int .i64 0),(.int .i64 0),(.int .i64 0),(.int .i64 0),.aC,(.int .i64 0),(.int .i64 0),(.int .i64 0)]),(.agg [(.int .i64 2),(.int .i64 1),(.int .i64 0),(.int .i64 0),(.int .i64 0),(.int .i64 0),(.int .i64 0),(.int .i64 0),(.int .i64 0),(.int .i64 0),(.int .i64 0),(.int .i64 0),(.int .i64 0),(.int .i64 0),(.int .i64 10),(.int .i64 0),(.sl 1 [(.int .i64 5),(.int .i64 5),(.int .i64 5)]),(.int .i64 0),(.int .i64 0),(.int .i64 0)])])
def Rt:V:=(.int .i64 0)
def SC:V:=(.int .i64 0)
def N8:aJ prog 20 [s31] (.P' [Pt,Rt,SC]):=GJ NH [20,21,40,42] (E:=[]) uJ.nil rfl (by kernel_rfl)
def Ct:aJ prog 20 [s31] (.P' [n31,.int .i64 0,.int .i64 0]):=N8.fz λ_=>.P' _ _ (.cons _ _ _ _ (.sl _ _ _ (.cons _ _ _ _ (.agg _ _ (fzC rfl (fzC rfl (fzC rfl (fzC rfl (fzC rfl (fzC rfl (fzC rfl (fzC rfl (fzC rfl (fzC rfl (fzC rfl (fzC rfl (fzC rfl (fzC rfl (fzC rfl (fzC rfl (.cons _ _ _ _ (.nil 1) (fzC rfl (fzC rfl (fzC rfl (.nil)))))))))))))))))))))) (fzC rfl .nil))) (fzC rfl (fzC rfl .nil)))
def LL:V:=(.agg [(.sl 20 [(.agg [(.int .i64 1),(.int .i64 2),(.int .i64 0),(.int .i64 0),(.int .i64 0),(.int .i64 0),(.int .i64 0),(.int .i64 1),(.int .i64 1),(.int .i64 0),(.int .i64 0),(.int .i64 0),(.int .i64 0),(.int .i64 0),(.int .i64 0),(.int .i64 0),(.sl 1 []),(.int .i64 0),(.int .i64 0),(.int .i64 0)]),(.agg [(.int .i64 2),(.int .i64 1),(.int .i64 0),(.int .i64 0),(.int .i64 0),(.int .i64 0),(.int .i64 0),(.int .i64 0),(.int .i64 0),(.int .i64 0),(.int .i64 0),(.int .i64 0),(.int .i64 0),(.int .i64 0),(.int .i64 10),(.int .i64 0),(.sl 1 [(.int .i64 5),(.int .i64 5),(.int .i64 5)]),(.int .i64 0),(.int .i64 0),(.int .i64 0)])]),(.int .i64 8),(.int .i64 20),(.sl 8 [(.agg [(.int .i64 1),(.int .i64 1),(.int .i64 0),(.int .i64 1),(.int .i64 0),(.int .i64 0),(.int .i64 5),(.int .i64 10)]),(.agg [(.int .i64 1),(.int .i64 1),(.int .i64 1),(.int .i64 2),(.int .i64 0),(.int .i64 10),(.int .i64 5),(.int .i64 10)]),(.agg [(.int .i64 1),(.int .i64 1),(.int .i64 2),(.int .i64 3),(.int .i64 0),(.int .i64 20),(.int .i64 5),(.int .i64 10)])]),.aC,(.int .i64 30),(.sl 3 [(.agg [(.int .i64 0),(.int .i64 0),(.int .i64 0)]),(.agg [(.int .i64 2),(.int .i64 0),(.int .i64 0)]),(.agg [(.int .i64 2),(.int .i64 0),(.int .i64 0)]),(.agg [(.int .i64 3),(.int .i64 0),(.int .i64 0)])])])
def Kx:V:=(.int .i64 0)
def L4:aJ prog 40 [n31,.int .i64 8,.int .i64 20] (.P' [LL,Kx]):=GJ NH [20,21,40,42] (E:=[]) uJ.nil rfl (by kernel_rfl)
def Ff:V:=(.sl 5 [(.agg [(.int .i64 1),(.int .i64 1),.aC,(.sl 7 [(.agg [(.int .i64 1),(.int .i64 0),(.int .i64 0),(.int .i64 0),(.int .i64 0),(.int .i64 5),(.int .i64 10)]),(.agg [(.int .i64 1),(.int .i64 1),(.int .i64 0),(.int .i64 0),(.int .i64 10),(.int .i64 5),(.int .i64 10)])]),(.sl 7 [])]),(.agg [(.int .i64 2),(.int .i64 1),.aC,(.sl 7 [(.agg [(.int .i64 1),(.int .i64 2),(.int .i64 0),(.int .i64 0),(.int .i64 0),(.int .i64 5),(.int .i64 10)])]),(.sl 7 [])])])
def Ka:V:=(.int .i64 0)
def NA:aJ prog 21 [n31,.int .i64 8,.int .i64 20] (.P' [Ff,Ka]):=GJ NH [20,21,40,42] (E:=[(40,[n31,.int .i64 8,.int .i64 20],(.P' [LL,Kx]))]) (.cons L4 uJ.nil) rfl (by kernel_rfl)
open Go.Proofs Go.Proofs.Tryz
def Fa:dV qH:=⟨by decide,by decide⟩
def Gg(vp:V)(P:List YL)(hlP:cU false vp=some (.int .i64 P.length))(hiP:∀(U:af) (i:Nat) (h:i<P.length),bo U 5 vp (.int .i64 i)=some (.rp (aQ P[i])))
 (hPp:∀p∈P,kL p)(hPl:P.length<=10000000000000)(page rule:Int)(he:ew qH 8 20=0)(hv:eF (cb (br qH 8 20)) P 0=(page,rule)):
 aJ prog 22 [vp,vI page,vI rule] (.bool true):=λU=>by
 refine e22.r (by simp[c22]) ?_;have hs:=aa.refl U;have hc:=vw qH Fa 8 20 vp P hlP hiP hPp hPl;rw[ar he,hv,he]at hc;have ZY:aJ prog 20 [.str [91,111,49,119,49,32,40,49,48,32,48,32,53,32,53,32,53,41,93]] (.P' [aI qH,vI 0,vI 0]):=Ct;have hfc:(EA (page,rule)).cells=[vI page,vI rule]:=rfl;have hfs:(EA (page,rule)).stays=true:=rfl;generalize qH=D at*;refine ab.mix 12 ?_;apply sR;simp only[go_sem,seval,c22];refine ab.ay rfl rfl rfl (ZY _) ?_;apply sR;simp only[go_sem,seval];refine ab.ay rfl rfl rfl (hc _) ?_;apply sR;simp only[go_sem,seval];refine ad λYU Z10 s10 Zf f10=>?_;have z10:=hs.none f10;replace hs:=hs.trans s10;simp only[go_sem,seval,Zf,EA];generalize hq10:C' _ YU _=Y10;replace Zf:=(congrFun hq10 YU).symm.trans ag;replace hs:=Eq.subst (motive:=aa _) hq10 (hs.ax z10);clear hq10;exact ak.pure hs rfl
open Go.Proofs Go.Proofs.Tryz
def Iy(l:List Nd)(hlen:l.length<=1000000000000)(hw:∀x∈l,x.words.length<=200000000000000)(h:Int)(hh:A5 h)(vp:V)(P:List YL)(hlP:cU false vp=some (.int .i64 P.length))(hiP:∀(U:af) (i:Nat) (h:i<P.length),bo U 5 vp (.int .i64 i)=some (.rp (aQ P[i])))
 (hPl:P.length<=10000000000000)(hPp:∀p∈P,p.hs.length<=1000000000000000/\p.fs.length<=1000000000000000/\p.ls.length<=1000000000000000)(U:af):
 au prog 7 [aI l,vI h,vp] U λr Z'=>(∃x,r=.bool x/\(x=false->l.length<=30/\P.length<=60/\∀p∈P,(p.hs.length:Int)+p.fs.length+p.ls.length<=600))/\Z'=U:=by
 refine e7.r (by simp[c7]) ?_;have hln:=eW l;have ZD:∀p:YL,(aQ p).cells=[vI p.no,vI p.kind,aG p.hs,aG p.fs,aG p.ls]:=λ_=>rfl;have finT:ak (.bool true) U λr Z'=>(∃x,r=.bool x/\(x=false->l.length<=30/\P.length<=60/\∀p∈P,(p.hs.length:Int)+p.fs.length+p.ls.length<=600))/\Z'=U:=⟨_,_,aa.refl _,Wk.refl (aa.refl _) _,⟨_,rfl,λh=>by cases h⟩,rfl⟩
 refine ab.mix 13 ?_;by_cases h30:l.length<=30
 .have q0:((l.length:Int)>30)=False:=T';by_cases h60:P.length<=60
  .have q00:((P.length:Int)>60)=False:=T';apply sR;simp only[go_sem,seval,c7,hln,hlP,q0,q00];refine ab.eY (λst=>st.U=U/\st.s 0=aI l/\st.s 1=vI h/\st.s 2=vp/\st.s 9=vI 0/\∃c g:Int,st.s 7=vI c/\st.s 8=vI g/\0<=g/\g<=1152921504606846976)
    (λm st=>∃(i:Nat) (c g:Int),i<=l.length/\m=l.length-i/\st.U=U/\st.s 0=aI l/\st.s 1=vI h/\st.s 2=vp/\st.s 9=vI 0/\st.s 7=vI c/\0<=c/\c<=i*200000000000000/\st.s 8=vI g/\0<=g/\g<=i*3300000000000/\st.s 10=vI i) l.length ?_ ?_ ?_
   .exact⟨0,0,0,by omega,by omega,rfl,rfl,rfl,rfl,rfl,rfl,by omega,by omega,rfl,by omega,by omega,rfl⟩
   .rintro m ⟨S,C⟩ ⟨i,c,g,hi,rfl,YK,t0,t1,t2,t9,t7,hc0,hc1,t8,hg0,hg1,t10⟩;simp only at YK t0 t1 t2 t9 t7 t8 t10;subst YK;refine ab.mix 13 ?_;by_cases L':i<l.length
    .have q1:((i:Int)<l.length)=True:=Yi;have hnd:=λU=>dd (U:=U) (l:=l) (a:=i) L';have hwi:=hw _ (Zw L');have hlw:=fY l[i].words;have r1:Yr .i64 ((i:Int)+1):=ai;have r2:Yr .i64 (c+l[i].words.length):=ai;apply sR;simp only[go_sem,seval,t0,t1,t2,t9,t7,t8,t10,hln,q1,hnd,Nd.cells,hlw,r1,r2,yy];obtain⟨b0,b1⟩:=Lq l[i].line 8589934592 (by omega);obtain⟨d0,d1⟩:=Lq l[i].h 2199023255552 (by omega);have e0:0<=(if 120<(l[i].words.length:Int)then 120 else(l[i].words.length:Int))/\(if 120<(l[i].words.length:Int)then 120 else(l[i].words.length:Int))<=120:=by split<;>omega
     obtain⟨e0,e1⟩:=e0;generalize (if 8589934592<if 0>l[i].line then 0 else l[i].line then 8589934592 else if 0>l[i].line then 0 else l[i].line)=A at*;generalize (if 2199023255552<if 0>l[i].h then 0 else l[i].h then 2199023255552 else if 0>l[i].h then 0 else l[i].h)=B at*;generalize (if 120<(l[i].words.length:Int)then 120 else(l[i].words.length:Int))=τ at*;have m0:=Int.mul_nonneg b0 e0;have m1:=Int.mul_le_mul b1 e1 e0 (by omega:(0:Int)<=8589934592);generalize A*τ=M at*;exact⟨ai,ai,ai,_,by omega,i+1,_,_,by omega,rfl,rfl,by omega,by omega,rfl,by omega,by omega,rfl⟩
    .have q1:((i:Int)<l.length)=False:=T';apply sR;simp only[go_sem,seval,t0,t10,hln,q1];exact⟨t1,t2,t9,c,g,t7,t8,hg0,by omega⟩
   .rintro⟨S,C⟩ ⟨YK,t0,t1,t2,t9,c,g,t7,t8,hg0,hg1⟩;simp only at YK t0 t1 t2 t9 t7 t8;subst YK;refine ab.mix 13 ?_;apply sR;simp only[go_sem,seval];refine ab.eY (λst=>st.U=C/\st.s 2=vp/\st.s 9=vI 0/\∃h':Int,st.s 1=vI h'/\A5 h'/\st.s 7=vI c/\st.s 8=vI g)
     (λm st=>∃(i:Nat) (h':Int),i<=l.length/\m=l.length-i/\st.U=C/\st.s 2=vp/\st.s 9=vI 0/\st.s 0=aI l/\st.s 1=vI h'/\A5 h'/\st.s 7=vI c/\st.s 8=vI g/\st.s 11=vI i) l.length ?_ ?_ ?_
    .exact⟨0,h,by omega,by omega,rfl,t2,t9,t0,t1,hh,t7,t8,rfl⟩
    .rintro m ⟨S,X'⟩ ⟨i,h',hi,rfl,YK,t2,t9,t0,t1,hh',t7,t8,t11⟩;simp only at YK t2 t9 t0 t1 t7 t8 t11;subst YK;refine ab.mix 13 ?_;by_cases L':i<l.length
     .have q1:((i:Int)<l.length)=True:=Yi;have hnd:=λU=>dd (U:=U) (l:=l) (a:=i) L';have r1:Yr .i64 ((i:Int)+1):=ai;by_cases hb:h'=-9223372036854775808
      ·(refine ab.bn Orc.nothing 22 ?_;simp only[go_sem,seval,jK,t0,t1,t11,hln,q1,hnd,Nd.cells])
       refine ab.Ux rfl rfl rfl rfl ?_;generalize IntKind.i64.wrap (h'-1)=X
       (refine ab.bn Orc.nothing 2 ?_;simp only[go_sem,seval,jK])
       refine ab.Ux rfl rfl rfl rfl ?_;generalize hX:IntKind.i64.wrap _=Y;have hY:A5 Y:=by rw[<-hX];exact Ni _
       apply sR;simp only[go_sem,seval,t11,r1,t7,t8,t0,t2,t9];exact⟨_,by omega,i+1,_,by omega,rfl,rfl,hY,rfl⟩
      .apply sR;simp only[go_sem,seval,t0,t1,t2,t9,t7,t8,t11,hln,q1,hnd,Nd.cells,r1];have hz:0<=(if(if 0>h'-1 then 0 else h'-1)<(if 0>l[i].st.head then 0 else l[i].st.head)then(if 0>h'-1 then 0 else h'-1)else if 0>l[i].st.head then 0 else l[i].st.head)/\
        (if(if 0>h'-1 then 0 else h'-1)<(if 0>l[i].st.head then 0 else l[i].st.head)then(if 0>h'-1 then 0 else h'-1)else if 0>l[i].st.head then 0 else l[i].st.head)<=(if 0>h'-1 then 0 else h'-1):=by
        have h1:0<=(if 0>h'-1 then 0 else h'-1):=by split<;>omega
        have h2:0<=(if 0>l[i].st.head then 0 else l[i].st.head):=by split<;>omega
        generalize (if 0>h'-1 then 0 else h'-1)=A at*;generalize (if 0>l[i].st.head then 0 else l[i].st.head)=B at*;split<;>omega
       have hx:(if 0>h'-1 then 0 else h'-1)=0\/(if 0>h'-1 then 0 else h'-1)=h'-1/\h'>=1:=by split<;>omega
       generalize (if(if 0>h'-1 then 0 else h'-1)<(if 0>l[i].st.head then 0 else l[i].st.head)then(if 0>h'-1 then 0 else h'-1)else if 0>l[i].st.head then 0 else l[i].st.head)=Z at*;unfold A5 at hh';exact⟨ai,ai,_,by omega,i+1,_,by omega,rfl,rfl,⟨by omega,by omega⟩,rfl⟩
     .have q1:((i:Int)<l.length)=False:=T';apply sR;simp only[go_sem,seval,t0,t11,hln,q1];exact⟨t2,t9,h',t1,hh',t7,t8⟩
    .rintro⟨S,X'⟩ ⟨YK,t2,t9,h',t1,hh',t7,t8⟩;simp only at YK t1 t7 t8 t2 t9;subst YK;refine ab.mix 13 ?_;apply sR;simp only[go_sem,seval];refine ab.eY (λst=>st.U=X'/\st.s 1=vI h'/\st.s 7=vI c/\st.s 8=vI g/\∃q:Int,st.s 9=vI q/\∀p∈P,(p.hs.length:Int)+p.fs.length+p.ls.length<=q)
      (λm st=>∃(i:Nat) (q:Int),i<=P.length/\m=P.length-i/\st.U=X'/\st.s 1=vI h'/\st.s 2=vp/\st.s 7=vI c/\st.s 8=vI g/\st.s 9=vI q/\0<=q/\q<=i*3000000000000000/\st.s 12=vI i/\∀p∈P.take i,(p.hs.length:Int)+p.fs.length+p.ls.length<=q) P.length ?_ ?_ ?_
     .exact⟨0,0,by omega,by omega,rfl,t1,t2,t7,t8,t9,by omega,by omega,rfl,by simp⟩
     .rintro m ⟨S,C⟩ ⟨i,q,hi,rfl,YK,t1,t2,t7,t8,t9,hq0,hq1,t12,Ze⟩;simp only at YK t1 t2 t7 t8 t9 t12;subst YK;refine ab.mix 13 ?_;by_cases L':i<P.length
      .have q1:((i:Int)<P.length)=True:=Yi;have hnd:=λU=>hiP U i L';have hpl:=hPp _ (Zw L');have Zg:=Zq0 L';generalize P[i]=p at*;have l1:=jn p.hs;have l2:=jn p.fs;have l3:=jn p.ls;have r1:Yr .i64 ((i:Int)+1):=ai;have r2:Yr .i64 ((p.hs.length:Int)+p.fs.length):=ai;have r3:Yr .i64 ((p.hs.length:Int)+p.fs.length+p.ls.length):=ai;have r4:Yr .i64 (q+((p.hs.length:Int)+p.fs.length+p.ls.length)):=ai;apply sR;simp only[go_sem,seval,t1,t2,t7,t8,t9,t12,hlP,q1,hnd,ZD,US,l1,l2,l3,r1,r2,r3,r4];exact⟨_,by omega,i+1,_,by omega,rfl,rfl,by omega,by omega,rfl,λu hu=>by
        rw[Zg]at hu;rcases db.1 hu with hu|hu
        .have:=Ze u hu;omega
        .rw[eu.1 hu];omega⟩
      .have q1:((i:Int)<P.length)=False:=T';apply sR;simp only[go_sem,seval,t2,t12,hlP,q1];rw[jW (by omega)]at Ze;exact⟨t1,t7,t8,q,t9,Ze⟩
     .rintro⟨S,C⟩ ⟨YK,t1,t7,t8,q,t9,Ze⟩;simp only at YK t1 t7 t8 t9;subst YK;refine ab.mix 13 ?_;have fin:∀x:Bool,(x=false->q<=600)->ak (.bool x) C λr Z'=>(∃x,r=.bool x/\(x=false->l.length<=30/\P.length<=60/\∀p∈P,(p.hs.length:Int)+p.fs.length+p.ls.length<=600))/\Z'=C:=λx hx=>⟨_,_,aa.refl _,Wk.refl (aa.refl _) _,⟨_,rfl,λh=>⟨h30,h60,λp hp=>by have:=Ze p hp;have:=hx h;omega⟩⟩,rfl⟩
      by_cases p1:c>120
      .have q1:(c>120)=True:=Yi p1;apply sR;simp only[go_sem,seval,t7,q1];exact fin _ (λh=>by cases h)
      .have q1:(c>120)=False:=T' p1;by_cases p0:q>600
       .have q5:(q>600)=True:=Yi p0;apply sR;simp only[go_sem,seval,t7,t9,q1,q5];exact fin _ (λh=>by cases h)
       .have q5:(q>600)=False:=T' p0;by_cases p2:h'>=1
        .have q2:(h'>=1)=True:=Yi p2;have q3:(h'=0)=False:=T';have hq0:=Int.tdiv_nonneg hg0 (by omega:0<=h');have hq1:=Int.tdiv_le_self h' hg0;have r1:Yr .i64 (g.tdiv h'):=ai;by_cases p4:g.tdiv h'>300
         .have q4:(g.tdiv h'>300)=True:=Yi p4;apply sR;simp only[go_sem,seval,t1,t7,t8,t9,q1,q5,q2,q3,q4,r1];exact fin _ (λ_=>by omega)
         .have q4:(g.tdiv h'>300)=False:=T' p4;apply sR;simp only[go_sem,seval,t1,t7,t8,t9,q1,q5,q2,q3,q4,r1];exact fin _ (λ_=>by omega)
        .have q2:(h'>=1)=False:=T' p2;apply sR;simp only[go_sem,seval,t1,t7,t9,q1,q5,q2];exact fin _ (λ_=>by omega)
  .have q00:((P.length:Int)>60)=True:=Yi;apply sR;simp only[go_sem,seval,c7,hln,hlP,q0,q00];exact finT
 .have q0:((l.length:Int)>30)=True:=Yi;apply sR;simp only[go_sem,seval,c7,hln,q0];exact finT
open Go.Proofs Go.Proofs.Tryz
def TJ(l:List Nd):Prop:=l.length<=1000000000000/\∀x∈l,x.words.length<=200000000000000
open Go.Proofs Go.Proofs.Tryz
def CF:∀(i:Nat) (R P:List YL),R.take i=P.take i->i<=R.length->i<=P.length->(∀(h1:i<R.length) (h2:i<P.length),P[i]≠R[i])->iV R P=i
 |0,[],_,_,_,_,_=>rfl
 |0,_::_,[],_,_,_,_=>rfl
 |0,a::R,p::P,_,_,_,h=>by
  rw[iV,av λe=>h (by simp) (by simp) e.symm]
 |i+1,[],_,_,h,_,_=>by simp at h
 |i+1,_::_,[],_,_,h,_=>by simp at h
 |i+1,a::R,p::P,ht,h1,h2,h=>by
  simp only[pK,List.cons.injEq]at ht;rw[iV,ar ht.1,CF i R P ht.2 (by simpa using h1) (by simpa using h2) λg1 g2=>h (by simpa using g1) (by simpa using g2)]
def BY:∀(R P:List YL),iV R P<=P.length
 |[],_=>Nat.zero_le _
 |_::_,[]=>Nat.zero_le _
 |a::R,p::P=>by
  rw[iV];split
  .have:=BY R P;simp only[ZR];omega
  .exact Nat.zero_le _
def pU(x:Int×Int):(EA x).cells=[vI x.1,vI x.2]:=rfl
def Jq(x:Int×Int):(EA x).stays=true:=rfl
def UQ(P:List YL):Prop:=P.length<=10000000000000/\∀p∈P,kL p
def Az(aw:aJ prog 8 [] (.bool true))(l:List Nd)(ha:TJ l)(w h:Int)(hh:A5 h)(P:List YL)(hP:UQ P):
 aJ prog 3 [aI l,vI w,vI h,bl P] (.bool true):=λU=>by
 refine e3.r (by simp[c3]) ?_;have hs:=aa.refl U;have hlP:=jt P;have va:=λU=>Iy l ha.1 ha.2 h hh (bl P) P hlP (mE P) hP.1 hP.2 U;refine ab.mix 17 ?_;apply sR;simp only[go_sem,seval,c3];refine ab.call rfl rfl rfl (va _) ?_;rintro r Z' ⟨⟨x,rfl,hx⟩,rfl⟩;cases x with
 |true=>
  apply sR;simp only[go_sem,seval];refine ab.ay rfl rfl rfl (aw _) ?_;apply sR;simp only[go_sem,seval];exact ak.same rfl
 |false=>
  obtain⟨h30,h60,h600⟩:=hx rfl;have fl:dV l:=⟨by omega,ha.2⟩
  have pg:=H6 l fl w h;have ck:=vw l fl w h (bl P) P hlP (mE P) hP.2 hP.1;have h600':∀p∈P,p.hs.length<=2000000/\p.fs.length<=2000000/\p.ls.length<=2000000:=λp hp=>by have:=h600 p hp;omega
  apply sR;simp only[go_sem,seval];refine ab.ay rfl rfl rfl (pg _) ?_;by_cases he:ew l w h=0
  .have hrb:=tJ fl he;have hrl:=pk fl he;have hPR:=mG (br l w h);have ck2:=vw l fl w h (bl (cb (br l w h))) _ (jt _) (mE _) (λp hp=>by have:=hrl p hp;unfold kL;omega) (by omega);rw[ar he,he]at ck ck2;rw[ar he];generalize br l w h=b at*;generalize cb b=R at*;rw[(sy R R 0 hrb).2 rfl]at ck2;have sm:=Kl P R (by omega) h600';have hlR:=jt R;have vs:=λYF=>zb R P 0 hrb YF;have vn:=sy R P 0 hrb;generalize eF R P 0=v at*;obtain⟨a,c⟩:=v;simp only[Prod.mk.injEq]at vn;have q0:((0:Int)≠0)=False:=T' (λh=>h rfl);apply sR;simp only[go_sem,seval];refine ab.ay rfl rfl rfl (ck _) ?_;apply sR;simp only[go_sem,seval];refine ad λZM Z11 s11 ZT f11=>?_;have z11:=hs.none f11;replace hs:=hs.trans s11;simp only[go_sem,seval,ZT,pU,Jq,q0];generalize ZE:C' _ ZM _=Y11;replace ZT:=(congrFun ZE ZM).symm.trans ag;replace hs:=Eq.subst (motive:=aa _) ZE (hs.ax z11);clear ZE;refine ab.ay rfl rfl rfl (ck2 _) ?_;apply sR;simp only[go_sem,seval];refine ad λi13 Y13 s13 a13 f13=>?_;have n1113:=ao ZT f13;replace ZT:=s13 _ _ ZT;have z13:=hs.none f13;replace hs:=hs.trans s13;simp only[go_sem,seval,a13,pU,Jq,q0];generalize hq13:C' _ i13 _=Z13;replace a13:=(congrFun hq13 i13).symm.trans ag;replace ZT:=((congrFun hq13 ZM).symm.trans (ae n1113)).trans ZT;replace hs:=Eq.subst (motive:=aa _) hq13 (hs.ax z13);clear hq13;have Zo:∀x:Bool,(x==x)=true:=λx=>by cases x<;>rfl
   by_cases hpr:P=R
   .obtain⟨ea,ec⟩:=vn.2 hpr;have w1:(a=0)=True:=Yi ea;have w2:(c=0)=True:=Yi ec;rw[ZN hpr]at sm;simp only[go_sem,seval,ZT,w1,w2,pU];refine Go.bW rfl rfl rfl sm ?_;apply sG;simp only[go_sem,seval,ZT,w1,w2,pU,Zo];refine ab.ay rfl rfl rfl (aw _) ?_;apply sR;simp only[go_sem,seval];exact ak.pure hs rfl
   .obtain⟨k1,k2,k3,k4⟩:=vs hpr;simp only at k1 k2 k3 k4;have w1:(a=0)=False:=T';rw[Zz hpr]at sm;simp only[go_sem,seval,ZT,w1,pU];refine Go.bW rfl rfl rfl sm ?_;have fi:=λi=>CF i R P;have fle:=BY R P;generalize iV R P=F at*;apply sG;simp only[go_sem,seval,Bool.false_and,Bool.not_true,ZT,w1,pU,Zo];refine ab.eY (λst=>st.U=Z13/\st.s 3=bl P/\st.s 9=bl R/\st.s 11=.ptr ZM 0 0/\st.s 15=vI F)
     (λm st=>∃i:Nat,i<=P.length/\i<=R.length/\m=P.length-i/\R.take i=P.take i/\st.U=Z13/\st.s 3=bl P/\st.s 9=bl R/\st.s 11=.ptr ZM 0 0/\st.s 15=vI i) P.length ?_ ?_ ?_
    .exact⟨0,by omega,by omega,rfl,rfl,rfl,rfl,rfl,rfl,rfl⟩
    .rintro m ⟨S,ω⟩ ⟨i,g1,g2,rfl,Zg,YK,t3,t9,t11,t15⟩;simp only at YK t3 t9 t11 t15;subst YK;refine ab.mix 17 ?_;by_cases e1:i<P.length
     .have p1:((i:Int)<P.length)=True:=Yi;by_cases e2:i<R.length
      .have p2:((i:Int)<R.length)=True:=Yi;have i1:=λU=>oS (U:=U) e1;have i2:=λU=>oS (U:=U) e2;have hee:=FD P[i] R[i] (h600' _ (Zw e1));have tx:=Zq0 e1;have ty:=Zq0 e2;have r1:Yr .i64 ((i:Int)+1):=ai;have hfi:P[i]≠R[i]->F=i:=λhn=>fi i Zg g2 g1 λ_ _=>hn;generalize P[i]=x at*;generalize R[i]=y at*;have l1:=N4 x;have l2:=N4 y;apply sR;simp only[go_sem,seval,t3,t9,t15,hlP,hlR,p1,p2,i1,i2,l1,l2];refine Go.bW rfl rfl rfl hee ?_;by_cases hq:x=y
       .rw[ZN hq];apply sG;simp only[go_sem,seval,t3,t9,t11,t15,r1];exact⟨_,by omega,i+1,by omega,by omega,rfl,by rw[tx,ty,Zg,hq],by simp⟩
       .rw[Zz hq];apply sG;simp only[go_sem,seval,t3,t9,t11,t15];exact by rw[hfi hq]
      .have p2:((i:Int)<R.length)=False:=T';apply sR;simp only[go_sem,seval,t3,t9,t11,t15,hlP,hlR,p1,p2];exact by rw[fi i Zg g2 g1 λg _=>absurd g e2]
     .have p1:((i:Int)<P.length)=False:=T';apply sR;simp only[go_sem,seval,t3,t9,t11,t15,hlP,p1];exact by rw[fi i Zg g2 g1 λ_ g=>absurd g e1]
    .rintro⟨S,ω⟩ ⟨YK,t3,t9,t11,t15⟩;simp only at YK t3 t9 t11 t15;subst YK;refine ab.mix 17 ?_;have r1:Yr .i64 ((F:Int)+1):=ai;have p3:(a=(F:Int)+1)=True:=Yi;have p4:(c>=1)=True:=Yi k3;have p5:(c<=9)=True:=Yi k4;by_cases e1:F>=P.length
     .have p1:((F:Int)>=P.length)=True:=Yi;have p6:(c=9)=True:=Yi (k2.2 (.inl e1));apply sR;simp only[go_sem,seval,t3,t11,t15,hlP,p1,p3,p4,p5,p6,r1,ZT,pU,Zo];refine ab.ay rfl rfl rfl (aw _) ?_;apply sR;simp only[go_sem,seval];exact ak.pure hs rfl
     .have p1:((F:Int)>=P.length)=False:=T';by_cases e2:F>=R.length
      .have p2:((F:Int)>=R.length)=True:=Yi;have p6:(c=9)=True:=Yi (k2.2 (.inr e2));apply sR;simp only[go_sem,seval,t3,t9,t11,t15,hlP,hlR,p1,p2,p3,p4,p5,p6,r1,ZT,pU,Zo];refine ab.ay rfl rfl rfl (aw _) ?_;apply sR;simp only[go_sem,seval];exact ak.pure hs rfl
      .have p2:((F:Int)>=R.length)=False:=T';have p6:(c=9)=False:=T' λh=>by rcases k2.1 h with h|h<;>omega
       apply sR;simp only[go_sem,seval,t3,t9,t11,t15,hlP,hlR,p1,p2,p3,p4,p5,p6,r1,ZT,pU,Zo];refine ab.ay rfl rfl rfl (aw _) ?_;apply sR;simp only[go_sem,seval];exact ak.pure hs rfl
  .rw[av he]at ck;rw[av he];have q1:(ew l w h≠0)=True:=Yi he;generalize ew l w h=E at*;have q2:(E≠E)=False:=T' (λh=>h rfl);apply sR;simp only[go_sem,seval];refine ab.ay rfl rfl rfl (ck _) ?_;apply sR;simp only[go_sem,seval];refine ad λZM Z11 s11 ZT f11=>?_;have z11:=hs.none f11;replace hs:=hs.trans s11;simp only[go_sem,seval,ZT,pU,Jq,q1,q2];generalize ZE:C' _ ZM _=Y11;replace ZT:=(congrFun ZE ZM).symm.trans ag;replace hs:=Eq.subst (motive:=aa _) ZE (hs.ax z11);clear ZE;refine ab.ay rfl rfl rfl (aw _) ?_;apply sR;simp only[go_sem,seval];exact ak.pure hs rfl
open Go.Proofs Go.Proofs.Tryz
set_option maxRecDepth 100000
def EC:prog.cellsOf 63=7:=by kernel_rfl
def IP:eM prog 63=true:=by kernel_rfl
def Ey:prog.bytesOf 63=56:=by kernel_rfl
def Fg:prog.cellsOf 37=5:=by kernel_rfl
def Jb:eM prog 37=true:=by kernel_rfl
def Fl:prog.bytesOf 37=88:=by kernel_rfl
def GO:eM prog 23=false:=by kernel_rfl
def Kg{n:Nat}{vs:List V}(h:gO prog (n+2) 63 vs):∃x:Zi,vs=(bb x).cells:=by
 replace h:=lu underlying63 h;simp only[uv]at h;obtain⟨_,_,rfl,h1,_,_,rfl,h2,_,_,rfl,h3,_,_,rfl,h4,_,_,rfl,h5,_,_,rfl,h6,_,_,rfl,h7,rfl⟩:=h;obtain⟨m1,rfl,_⟩:=bM h1;obtain⟨m2,rfl,_⟩:=bM h2;obtain⟨m3,rfl,_⟩:=bM h3;obtain⟨m4,rfl,_⟩:=bM h4;obtain⟨m5,rfl,_⟩:=bM h5;obtain⟨m6,rfl,_⟩:=bM h6;obtain⟨m7,rfl,_⟩:=bM h7;exact⟨⟨m1,m2,m3,m4,m5,m6,m7⟩,rfl⟩
def sC{n:Nat}{vs:List V}(h:gO prog (n+3) 35 vs):∃l,vs=[aG l]/\l.length<=1000000000000000:=by
 obtain⟨rows,rfl,hl,h⟩:=mL underlying35 h;obtain⟨l,rfl,-⟩:=rK (f:=bb) (p:=λ_=>True) λr hr=>by
  obtain⟨cs,hc,rfl⟩:=h r hr;obtain⟨x,rfl⟩:=Kg hc;exact⟨x,by rw[IP];rfl,trivial⟩
 rw[Ey]at hl;simp only[de,reachBytes]at hl;exact⟨l,by rw[EC];rfl,by omega⟩
def Lo{n:Nat}{vs:List V}(h:gO prog (n+4) 37 vs):∃p:YL,vs=(aQ p).cells/\p.hs.length<=1000000000000000/\p.fs.length<=1000000000000000/\p.ls.length<=1000000000000000:=by
 replace h:=lu underlying37 h;simp only[uv]at h;obtain⟨_,_,rfl,h1,_,_,rfl,h2,_,_,rfl,h3,_,_,rfl,h4,_,_,rfl,h5,rfl⟩:=h;obtain⟨m1,rfl,_⟩:=bM h1;obtain⟨m2,rfl,_⟩:=bM h2;obtain⟨l3,rfl,g3⟩:=sC h3;obtain⟨l4,rfl,g4⟩:=sC h4;obtain⟨l5,rfl,g5⟩:=sC h5;exact⟨⟨m1,m2,l3,l4,l5⟩,rfl,g3,g4,g5⟩
def HK{n:Nat}{vs:List V}(h:gO prog (n+5) 23 vs):∃l,nK prog 23 vs=bl l/\l.length<=10000000000000/\
 ∀p∈l,p.hs.length<=1000000000000000/\p.fs.length<=1000000000000000/\p.ls.length<=1000000000000000:=by
 obtain⟨rows,rfl,hl,h⟩:=mL underlying23 h;obtain⟨l,rfl,hp⟩:=rK (f:=aQ) (p:=λp=>p.hs.length<=1000000000000000/\p.fs.length<=1000000000000000/\p.ls.length<=1000000000000000) λr hr=>by
  obtain⟨cs,hc,rfl⟩:=h r hr;obtain⟨x,rfl,hx⟩:=Lo hc;exact⟨x,by rw[Jb];rfl,hx⟩
 rw[Fl]at hl;simp only[de,reachBytes]at hl;exact⟨l,by unfold nK;rw[GO,Fg];rfl,by omega,hp⟩
open Go.Proofs Go.Proofs.Tryz
set_option maxRecDepth 100000
def A31:YL:=⟨1,1,[],[⟨1,0,0,0,0,5,10⟩,⟨1,1,0,0,10,5,10⟩],[]⟩
def B31:YL:=⟨2,1,[],[⟨1,2,0,0,0,5,10⟩],[]⟩
def FM:ew qH 8 20=0:=by kernel_rfl
def E6:cb (br qH 8 20)=[A31,B31]:=by kernel_rfl
def V6:jH (br qH 8 20) (bN .nil [A31,B31] 1)=⟨⟨2,0,false⟩,[]⟩:=by kernel_rfl
def WU(U:af)(N:Nat->Prop):Fz U N Ff (bl [A31,B31]):=
 .sl _ _ _ (.cons _ _ _ _ (.agg _ _ (.cons _ _ _ _ (.same _ rfl) (.cons _ _ _ _ (.same _ rfl) (.cons _ _ _ _ (.nil 7) (.cons _ _ _ _ (.same _ rfl) (.cons _ _ _ _ (.same _ rfl) .nil))))))
  (.cons _ _ _ _ (.agg _ _ (.cons _ _ _ _ (.same _ rfl) (.cons _ _ _ _ (.same _ rfl) (.cons _ _ _ _ (.nil 7) (.cons _ _ _ _ (.same _ rfl) (.cons _ _ _ _ (.same _ rfl) .nil)))))) .nil))
def UP:aJ prog 21 [aI qH,vI 8,vI 20] (.P' [bl [A31,B31],vI 0]):=λU=>by
 have h0:au prog 21 [aI qH,vI 8,vI 20] U λr Z'=>r=.P' [Ff,Ka]/\Z'=U:=NA U;refine h0.AL λr Z' h=>?_
 .obtain⟨rfl,rfl⟩:=h;exact⟨_,_,aa.refl _,Fz.wk (N:=λ_=>False) (.P' _ _ (.cons _ _ _ _ (WU _ _) (.cons _ _ _ _ (.same _ rfl) .nil))) (aa.refl _) (λ_ h=>h.elim),rfl,rfl⟩
def MO:aJ prog 15 [aI qH,vI 8,vI 20,bl [A31,B31],vI 1] (.P' [bI ⟨⟨2,0,false⟩,[]⟩,vI 0]):=by
 have h:=IX qH Fa 8 20 FM 1 (by rw[E6];decide);rw[E6,V6]at h;exact h
def Ki:aJ prog 13 [aI qH,vI 8,vI 20,bl [A31,B31],vI 1] (.P' [bl [B31],vI 0]):=by
 have h:=E3 qH Fa 8 20 FM 1 (by rw[E6];decide) _ (by rw[E6];decide) rfl;rw[E6]at h;exact h
def pn(Q:List YL)(hQ:∀p∈Q,kL p)(hl:Q.length<=10000000000000)(page rule:Int)(hv:eF [A31,B31] Q 0=(page,rule)):aJ prog 22 [bl Q,vI page,vI rule] (.bool true):=
 Gg (bl Q) Q (jt Q) (mE Q) hQ hl page rule FM (by rw[E6];exact hv)
def UX:aJ prog 22 [.aC,vI 1,vI 9] (.bool true):=
 Gg .aC [] rfl DF (by simp) (by decide) 1 9 FM (by rw[E6];decide)
def GN{p:YL}(h1:p.hs.length<=2)(h2:p.fs.length<=2)(h3:p.ls.length<=2):kL p:=by unfold kL;omega
def TG:aJ prog 22 [bl [A31,B31],vI 0,vI 0] (.bool true):=pn _ (by intro p hp;simp only[cm,List.mem_nil_iff,or_false]at hp;rcases hp with rfl|rfl<;>exact GN (by decide) (by decide) (by decide)) (by decide) 0 0 (by decide)
def Uv:aJ prog 22 [bl [A31],vI 2,vI 9] (.bool true):=pn _ (by intro p hp;rw[eu.1 hp];exact GN (by decide) (by decide) (by decide)) (by decide) 2 9 (by decide)
def UY:aJ prog 22 [bl [{ A31 with no:=2 }],vI 1,vI 1] (.bool true):=pn _ (by intro p hp;rw[eu.1 hp];exact GN (by decide) (by decide) (by decide)) (by decide) 1 1 (by decide)
def TD:aJ prog 22 [bl [B31],vI 1,vI 1] (.bool true):=pn _ (by intro p hp;rw[eu.1 hp];exact GN (by decide) (by decide) (by decide)) (by decide) 1 1 (by decide)
def TK:aJ prog 22 [bl [{ A31 with fs:=[⟨1,0,0,0,0,5,10⟩] }],vI 1,vI 5] (.bool true):=pn _ (by intro p hp;rw[eu.1 hp];exact GN (by decide) (by decide) (by decide)) (by decide) 1 5 (by decide)
def Tu:aJ prog 22 [bl [{ A31 with fs:=[⟨1,0,0,0,0,5,10⟩,⟨1,1,0,0,11,5,10⟩] }],vI 1,vI 6] (.bool true):=pn _ (by intro p hp;rw[eu.1 hp];exact GN (by decide) (by decide) (by decide)) (by decide) 1 6 (by decide)
end Go.Vc
