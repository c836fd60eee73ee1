/- Part 11 of the library of this proof. -/
import Derived.Test.YtdaelobhgmdoeaaGreatW10
import Derived.Test.YtdaelobhgmdoeaaGreatProg
import Derived.KernelRfl
set_option linter.all false
set_option maxHeartbeats 8000000
set_option maxRecDepth 100000
namespace Go.Vc
open Go.Proofs Go.Proofs.Tryz
def Nv(p:YL):∀U:af,bB U true 5 (.rp (aQ p))=some (aQ p):=λ_=>rfl
def jd(p:YL):(aQ p).cells=[vI p.no,vI p.kind,aG p.hs,aG p.fs,aG p.ls]:=rfl
def yN(p:YL):(aQ p).stays=true:=rfl
def sk(a b:List Zi)(h:a.length<=2000000):aJ prog 31 [aG a,aG b] (.bool (decide (a=b))):=
 Mj func31 (sz:=7) (ks:=[0,0,0,0,0,0,0]) (e31.trans rfl) k31 bb IZ (λ_ _=>rfl) a b (by omega)
def Gs(p q:YL)(hp:p.hs.length<=2000000/\p.fs.length<=2000000/\p.ls.length<=2000000):aJ prog 12 [aQ p,aQ q] (.bool (decide (p=q))):=λU=>by
 refine e12.r (by simp[c12]) ?_;have hs:=aa.refl U;have c1:=sk p.hs q.hs hp.1;have c2:=sk p.fs q.fs hp.2.1;have c3:=sk p.ls q.ls hp.2.2;generalize hX:decide (p=q)=X;have hX':(p.no=q.no/\p.kind=q.kind/\p.hs=q.hs/\p.fs=q.fs/\p.ls=q.ls)↔p=q:=by cases p;cases q;simp
 refine ab.mix 5 ?_;apply sR;simp only[go_sem,seval,c12,jd,yN];refine ad λi2 Z2 s2 a2 f2=>?_;replace hs:=hs.trans s2;simp only[go_sem,seval,jd,yN];refine ad λi3 Z3 s3 a3 f3=>?_;replace a2:=s3 _ _ a2;replace hs:=hs.trans s3;by_cases h1:p.no=q.no
 .have q1:(p.no=q.no)=True:=Yi h1;by_cases h2:p.kind=q.kind
  .have q2:(p.kind=q.kind)=True:=Yi h2;simp only[go_sem,seval,a2,a3,q1,q2,jd];refine ab.ay rfl rfl rfl (c1 _) ?_;by_cases h3:p.hs=q.hs
   .rw[ZN h3];apply sR;simp only[go_sem,seval,a2,a3,jd];refine ab.ay rfl rfl rfl (c2 _) ?_;by_cases h4:p.fs=q.fs
    .rw[ZN h4];apply sR;simp only[go_sem,seval,a2,a3,jd];refine ab.ay rfl rfl rfl (c3 _) ?_;by_cases h5:p.ls=q.ls
     .rw[ZN h5];apply sR;simp only[go_sem,seval];exact ak.pure hs (by rw[<-hX,ZN (hX'.1 ⟨h1,h2,h3,h4,h5⟩)])
     .rw[Zz h5];apply sR;simp only[go_sem,seval];exact ak.pure hs (by rw[<-hX,Zz λh=>h5 (hX'.2 h).2.2.2.2])
    .rw[Zz h4];apply sR;simp only[go_sem,seval];exact ak.pure hs (by rw[<-hX,Zz λh=>h4 (hX'.2 h).2.2.2.1])
   .rw[Zz h3];apply sR;simp only[go_sem,seval];exact ak.pure hs (by rw[<-hX,Zz λh=>h3 (hX'.2 h).2.2.1])
  .have q2:(p.kind=q.kind)=False:=T' h2;simp only[go_sem,seval,a2,a3,q1,q2,jd];exact ak.pure hs (by rw[<-hX,Zz λh=>h2 (hX'.2 h).2.1])
 .have q1:(p.no=q.no)=False:=T' h1;simp only[go_sem,seval,a2,a3,q1,jd];exact ak.pure hs (by rw[<-hX,Zz λh=>h1 (hX'.2 h).1])
def Ld(xs ys:List YL)(hx:xs.length<=10000000000)(hl:∀p∈xs,p.hs.length<=2000000/\p.fs.length<=2000000/\p.ls.length<=2000000):aJ prog 11 [bl xs,bl ys] (.bool (decide (xs=ys))):=λU=>by
 refine e11.r (by simp[c11]) ?_;have n1:=jr xs;have n2:=jr ys;refine ab.mix 6 ?_;by_cases hlen:xs.length=ys.length
 .have q:((xs.length:Int)≠ys.length)=False:=T';apply sR;simp only[go_sem,seval,c11,n1,n2,q];refine ab.loop (λm st=>∃j,j<=xs.length/\m=xs.length-j/\xs.take j=ys.take j/\st.s 0=bl xs/\st.s 1=bl ys/\st.s 5=.int .i64 j/\st.U=U) xs.length ⟨0,by omega,rfl,rfl,rfl,rfl,rfl,rfl⟩ ?_;rintro m ⟨S,Z'⟩ ⟨j,hj,rfl,ht,t0,t1,t5,YK⟩;simp only at t0 t1 t5 YK;subst YK;refine ab.mix 6 ?_;by_cases L':j<xs.length
  .have q1:((j:Int)<xs.length)=True:=Yi;have hlt2:j<ys.length:=by omega
   have i1:=λU=>nG (U:=U) L';have i2:=λU=>nG (U:=U) hlt2;have hee:=Gs xs[j] ys[j] (hl _ (Zw L'));have tx:=Zq0 L';have ty:=Zq0 hlt2;have r1:Yr .i64 ((j:Int)+1):=ai;have hxy:xs[j]≠ys[j]->xs≠ys:=λhn h=>hn (by simp only[h]);generalize xs[j]=x at*;generalize ys[j]=y at*;have l1:=Nv x;have l2:=Nv y;apply sR;simp only[go_sem,seval,t0,t1,t5,n1,q1,i1,i2,l1,l2];refine Go.bW rfl rfl rfl hee ?_;by_cases hq:x=y
   .rw[ZN hq];apply sG;simp only[go_sem,seval,t0,t1,t5,r1];exact⟨_,by omega,j+1,by omega,rfl,by rw[tx,ty,ht,hq],by simp⟩
   .rw[Zz hq];apply sG;simp only[go_sem,seval];exact ak.same (by rw[Zz (hxy hq)])
  .have q1:((j:Int)<xs.length)=False:=T';apply sR;simp only[go_sem,seval,t0,t5,n1,q1];refine ak.same ?_;rw[j7 (by omega),j7 (by omega)]at ht;rw[ZN ht]
 .have q:((xs.length:Int)≠ys.length)=True:=Yi;apply sR;simp only[go_sem,seval,c11,n1,n2,q];exact ak.same (by rw[Zz λh=>hlen (by rw[h])])
def iJ(g:V->Option V):List V->Option (List V)
 |[]=>some []
 |v::vs=>match g v with
  |some u=>(match iJ g vs with
   |some us=>some (u::us)
   |none=>none)
  |none=>none
def fzQ:Nat->Tr (Option Ob)->V->Option V
 |0,_,_=>none
 |f+1,U,v=>match v with
  |.own id off len=>match fb none id U with
   |some ob=>@Bool.casesOn (λ_=>Option V) (Nat.ble (off+len) ob.rows.length) none ((iJ (fzQ f U) ((ob.rows.drop off).take len)).map (.sl ob.sz))
   |none=>none
  |.ptr id i k=>@Bool.casesOn (λ_=>Option V) (Nat.beq k 0) none (match fb none id U with
   |some ob=>(match ob.rows[i]? with
    |some r=>(fzQ f U r).map .rp
    |none=>none)
   |none=>none)
  |.sl sz rows=>(iJ (fzQ f U) rows).map (.sl sz)
  |.agg cs=>(iJ (fzQ f U) cs).map .agg
  |.P' cs=>(iJ (fzQ f U) cs).map .P'
  |.fn g cs=>(iJ (fzQ f U) cs).map (.fn g)
  |.bm g cs=>(iJ (fzQ f U) cs).map (.bm g)
  |.iface t u=>(fzQ f U u).map (.iface t)
  |v=>@Bool.casesOn (λ_=>Option V) v.cu none (some v)
def oX{g:V->Option V}(hg:∀v u,g v=some u->u.cu=true):∀{l m:List V},iJ g l=some m->cj m=true
 |[],m,h=>by simp only[iJ,aB]at h;subst h;rfl
 |v::vs,m,h=>by
  simp only[iJ]at h;split at h
  .rename_i u hu;split at h
   .rename_i us hus;simp only[aB]at h;subst h;simp only[cj,hg v u hu,oX hg hus,Bool.and_self]
   .cases h
  .cases h
def AI{g:V->Option V}(hg:∀v u,g v=some u->v.cu=true->u=v):∀{l m:List V},iJ g l=some m->cj l=true->m=l
 |[],m,h,_=>by simp only[iJ,aB]at h;exact h.symm
 |v::vs,m,h,hn=>by
  simp only[cj,Ba]at hn;simp only[iJ]at h;split at h
  .rename_i u hu;split at h
   .rename_i us hus;simp only[aB]at h;subst h;rw[hg v u hu hn.1,AI hg hus hn.2]
   .cases h
  .cases h
def mc:∀(f:Nat) (U:Tr (Option Ob)) (v u:V),fzQ f U v=some u->u.cu=true
 |0,_,_,_,h=>by simp[fzQ]at h
 |f+1,U,v,u,h=>by
  have hL:∀{l m:List V},iJ (fzQ f U) l=some m->cj m=true:=λh=>oX (mc f U) h;cases v<;>simp only[fzQ,bO]at h
  case own id off len=>
   split at h
   .split at h
    .simp only[Zq8]at h;obtain⟨m,hm,rfl⟩:=h;simpa[V.cu]using hL hm
    .cases h
   .cases h
  case ptr id i k=>
   split at h
   .split at h
    .split at h
     .simp only[Zq8]at h;obtain⟨m,hm,rfl⟩:=h;simpa[V.cu]using mc f U _ _ hm
     .cases h
    .cases h
   .cases h
  case iface=>
   simp only[Zq8]at h;obtain⟨m,hm,rfl⟩:=h;simpa[V.cu]using mc f U _ _ hm
  all_goals first
   |(simp only[Zq8]at h
     obtain⟨m,hm,rfl⟩:=h;simpa[V.cu]using hL hm)
   |(split at h
     .rename_i hn;simp only[aB]at h;subst h;exact hn
     .cases h)
def ER:∀(f:Nat) (U:Tr (Option Ob)) (v u:V),fzQ f U v=some u->v.cu=true->u=v
 |0,_,_,_,h,_=>by simp[fzQ]at h
 |f+1,U,v,u,h,hn=>by
  have hL:∀{l m:List V},iJ (fzQ f U) l=some m->cj l=true->m=l:=λh=>AI (ER f U) h;cases v<;>simp only[fzQ,bO]at h
  case own=>simp[V.cu]at hn
  case ptr=>simp[V.cu]at hn
  case iface=>
   simp only[V.cu]at hn;simp only[Zq8]at h;obtain⟨m,hm,rfl⟩:=h;rw[ER f U _ _ hm hn]
  all_goals first
   |(simp only[V.cu]at hn
     simp only[Zq8]at h;obtain⟨m,hm,rfl⟩:=h;rw[hL hm hn])
   |(split at h<;>first|exact absurd hn ‹_›|(simp only[aB,reduceCtorEq]at h;try exact h.symm))
def vJ{R:Nat->Nat->Prop}{Zt:Tr (Option Ob)}{U:af}(hm:Lv R (ZQ Zt) U):∀(f:Nat) (v u v':V),fzQ f Zt v=some v'->aq R v u->Fz U (λa=>∃c o,R c a/\ZQ Zt c=some o) u v'
 |0,_,_,_,h,_=>by simp[fzQ]at h
 |f+1,v,u,v',h,hr=>by
  have hL:∀(vs us out:List V),iJ (fzQ f Zt) vs=some out->aD R vs us->FzL U (λa=>∃c o,R c a/\ZQ Zt c=some o) us out:=by
   intro vs
   induction vs with
   |nil=>
    intro us out h1 h2;rw[aD.eY]at h2;subst h2;simp only[iJ,aB]at h1;subst h1;exact .nil
   |cons a vs ih=>
    intro us out h1 h2;obtain⟨b,bs,rfl,h3,h4⟩:=aD.bu.1 h2;simp only[iJ]at h1;split at h1
    .rename_i c hc;split at h1
     .rename_i cs hcs;simp only[aB]at h1;subst h1;exact .cons _ _ _ _ (vJ hm f _ _ _ hc h3) (ih _ _ hcs h4)
     .cases h1
    .cases h1
  cases v<;>simp only[fzQ,bO]at h
  case own id off len=>
   split at h
   .rename_i ob Zb;split at h
    .rename_i hle;simp only[Zq8]at h;obtain⟨rows,h3,rfl⟩:=h;simp only[aq]at hr;obtain⟨ZL,rfl,hR⟩:=hr;obtain⟨Yc,g1,g2⟩:=hm _ ZL ob hR Zb;have:=hL _ _ _ h3 ((g2.drop _).take _);exact .own ZL _ _ ⟨ob.elem,ob.sz,Yc⟩ _ g1 ⟨_,ob,hR,Zb⟩ (by rw[g2.length];exact oK hle) this
    .cases h
   .cases h
  case ptr id i k=>
   split at h
   .rename_i hk;split at h
    .rename_i ob Zb;split at h
     .rename_i r hri;simp only[Zq8]at h;obtain⟨r',h3,rfl⟩:=h;simp only[aq]at hr;obtain⟨ZL,rfl,hR⟩:=hr;obtain⟨Yc,g1,g2⟩:=hm _ ZL ob hR Zb;obtain⟨q,g3,g4⟩:=g2.get hri;have hk0:k=0:=gu hk;subst hk0;exact .ptr ZL _ ⟨ob.elem,ob.sz,Yc⟩ q r' g1 ⟨_,ob,hR,Zb⟩ g3 (vJ hm f _ _ _ h3 g4)
     .cases h
    .cases h
   .cases h
  case iface t x=>
   simp only[aq]at hr;obtain⟨y,rfl,hr⟩:=hr;simp only[Zq8]at h;obtain⟨m,hm',rfl⟩:=h;exact .iface _ _ _ (vJ hm f _ _ _ hm' hr)
  case sl sz rows=>
   simp only[aq]at hr;obtain⟨y,rfl,hr⟩:=hr;simp only[Zq8]at h;obtain⟨m,hm',rfl⟩:=h;exact .sl _ _ _ (hL _ _ _ hm' hr)
  case agg=>
   simp only[aq]at hr;obtain⟨y,rfl,hr⟩:=hr;simp only[Zq8]at h;obtain⟨m,hm',rfl⟩:=h;exact .agg _ _ (hL _ _ _ hm' hr)
  case P'=>
   simp only[aq]at hr;obtain⟨y,rfl,hr⟩:=hr;simp only[Zq8]at h;obtain⟨m,hm',rfl⟩:=h;exact .P' _ _ (hL _ _ _ hm' hr)
  case fn=>
   simp only[aq]at hr;obtain⟨y,rfl,hr⟩:=hr;simp only[Zq8]at h;obtain⟨m,hm',rfl⟩:=h;exact .fn _ _ _ (hL _ _ _ hm' hr)
  case bm=>
   simp only[aq]at hr;obtain⟨y,rfl,hr⟩:=hr;simp only[Zq8]at h;obtain⟨m,hm',rfl⟩:=h;exact .bm _ _ _ (hL _ _ _ hm' hr)
  all_goals (split at h
             .rename_i YE;simp only[aB]at h;subst h;have:=oW _ _ YE hr;subst this;exact .same _ YE
             .cases h)
def F8{R:Nat->Nat->Prop}{Zt:Tr (Option Ob)}{U:af}(hm:Lv R (ZQ Zt) U){f:Nat}:∀(vs us out:List V),iJ (fzQ f Zt) vs=some out->aD R vs us->WkL U iF us out
 |[],us,out,h1,h2=>by
  rw[aD.eY]at h2;subst h2;simp only[iJ,aB]at h1;subst h1;simp[WkL]
 |a::vs,us,out,h1,h2=>by
  obtain⟨b,bs,rfl,h3,h4⟩:=aD.bu.1 h2;simp only[iJ]at h1;split at h1
  .rename_i c hc;split at h1
   .rename_i cs hcs;simp only[aB]at h1;subst h1;simp only[WkL];exact⟨(vJ hm f _ _ _ hc h3).wk (l9 U) (λ_ _=>rfl),F8 hm _ _ _ hcs h4⟩
   .cases h1
  .cases h1
inductive Fk where
 |code (vf:Yh)
 |fz (vf:Yh)
 |orc (g:List V->Option V)
def AJ(U:Tr (Option Ob))(args:List V)(h:List V->Option V)(YA:Nat):Option Rs:=match iJ (fzQ 40 U) args with
 |some as1=>(match h as1 with
  |some v=>@Bool.casesOn (λ_=>Option Rs) (v.cu&&(cj args||v.scalar)) none (some ⟨v,U,YA⟩)
  |none=>none)
 |none=>none
def evZ(run:Nat->bc->CS->Out)(vf:Yh)(as1:List V):Option V:=@Bool.casesOn (λ_=>Option V) (Nat.ble as1.length vf.n) none
 (match Nh vf.res (run 0 vf.code ⟨Tr.ofL as1 0 .e,.e,0⟩)with
   |some r=>fzQ 40 r.U r.v
   |none=>none)
def ji(run:Nat->bc->CS->Out)(T:FuncId->Option Fk):gz:=λf args U YA fl=>match T f with
 |none=>none
 |some k=>match k with
  |.code vf=>@Bool.casesOn (λ_=>Option Rs) (Nat.ble args.length vf.n) none (Nh vf.res (run fl vf.code ⟨Tr.ofL args 0 .e,U,YA⟩))
  |.fz vf=>AJ U args (evZ run vf) YA
  |.orc g=>AJ U args g YA
variable {P:Program} {n:Nat}
def zl{f:FuncId}{h:List V->Option V}(hp:∀as1 v,h as1=some v->cj as1=true->v.cu=true->aJ P f as1 v){args:List V}{Zc:Tr (Option Ob)}{YA fl:Nat}{r:Rs}(hr:AJ Zc args h YA=some r)
 {K:af}{R:Nat->Nat->Prop}{U:af}{args':List V}(hm:fO K fl R (ZQ Zc) YA U)(ha:aD R args args'):
 au P f args' U λv Z'=>∃R',Le R R'/\aq R' r.v v/\fO K fl R' (ZQ r.U) r.YA Z':=by
 unfold AJ at hr;split at hr
 .rename_i as1 h1;split at hr
  .rename_i v h2;rw[bO]at hr;split at hr
   .rename_i hc;simp only[Ba,kN]at hc;simp only[aB]at hr;subst hr;have hno1:=oX (mc 40 Zc) h1;have hpf:=hp as1 v h2 hno1 hc.1;have key:au P f args' U λr Z'=>r=v/\Z'=U:=by
     rcases hc.2 with h3|h3
     .have e1:as1=args:=AI (ER 40 Zc) h1 h3;have e2:args'=args:=jt _ _ h3 ha;rw[e2,<-e1];exact hpf U
     .exact aJ.borrow (F8 hm.live _ _ _ h1 ha) hpf h3
    refine key.zM ?_;rintro r Z' ⟨rfl,rfl⟩;exact⟨r,Z',aa.refl _,Wk.refl (aa.refl _) _,R,Le.refl R,cT _ hc.1,hm⟩
   .cases hr
  .cases hr
 .cases hr
def iD(g:V->V->Bool):List V->List V->Bool
 |[],[]=>true
 |v::vs,u::us=>@Bool.casesOn (λ_=>Bool) (g v u) false (iD g vs us)
 |_,_=>false
def rY:Nat->V->V->Bool
 |0,_,_=>false
 |f+1,v,u=>match v with
  |.int k n=>match u with
   |.int k' n'=>eqK k k'&&eqQ n n'
   |_=>false
  |.bool b=>match u with
   |.bool b'=>b==b'
   |_=>false
  |.str b=>match u with
   |.str b'=>decide (b=b')
   |_=>false
  |.aC=>match u with
   |.aC=>true
   |_=>false
  |.nilp=>match u with
   |.nilp=>true
   |_=>false
  |.own a b c=>match u with
   |.own a' b' c'=>Nat.beq a a'&&(Nat.beq b b'&&Nat.beq c c')
   |_=>false
  |.ptr a b c=>match u with
   |.ptr a' b' c'=>Nat.beq a a'&&(Nat.beq b b'&&Nat.beq c c')
   |_=>false
  |.sl sz rows=>match u with
   |.sl sz' Yc=>Nat.beq sz sz'&&iD (rY f) rows Yc
   |_=>false
  |.rp x=>match u with
   |.rp y=>rY f x y
   |_=>false
  |.fn g cs=>match u with
   |.fn g' ds=>decide (g=g')&&iD (rY f) cs ds
   |_=>false
  |.agg cs=>match u with
   |.agg ds=>iD (rY f) cs ds
   |_=>false
  |.P' cs=>match u with
   |.P' ds=>iD (rY f) cs ds
   |_=>false
  |.iface a x=>match u with
   |.iface b y=>Nat.beq a b&&rY f x y
   |_=>false
  |.Yz=>match u with
   |.Yz=>true
   |_=>false
  |.YQ=>match u with
   |.YQ=>true
   |_=>false
  |_=>false
def uT{g:V->V->Bool}(hg:∀v u,g v u=true->v=u):∀{l m:List V},iD g l m=true->l=m
 |[],[],_=>rfl
 |v::vs,u::us,h=>by
  simp only[iD,bO]at h;split at h
  .rename_i hv;rw[hg v u hv,uT hg h]
  .cases h
 |[],_::_,h=>by simp[iD]at h
 |_::_,[],h=>by simp[iD]at h
def mM:∀(f:Nat) (v u:V),rY f v u=true->v=u
 |0,_,_,h=>by simp[rY]at h
 |f+1,v,u,h=>by
  have hL:∀{l m:List V},iD (rY f) l m=true->l=m:=λh=>uT (mM f) h;cases v<;>cases u<;>simp only[rY,eR,Ba,Zq9,beq_iff_eq]at h<;>try rfl
  case int.int=>rw[GA h.2,of_decide_eq_true (p:=_=_) h.1]
  case bool.bool=>rw[h]
  case str.str=>rw[h]
  case own.own=>rw[gu h.1,gu h.2.1,gu h.2.2]
  case ptr.ptr=>rw[gu h.1,gu h.2.1,gu h.2.2]
  case sl.sl=>rw[gu h.1,hL h.2]
  case rp.rp=>rw[mM f _ _ h]
  case fn.fn=>rw[h.1,hL h.2]
  case agg.agg=>rw[hL h]
  case P'.P'=>rw[hL h]
  case iface.iface=>rw[gu h.1,mM f _ _ h.2]
section
variable {R:Nat->Nat->Prop}
mutual
/-- numbers stand for one number -/
def aq.fun(hf:∀c a a',R c a->R c a'->a=a'):∀(v u u':V),aq R v u->aq R v u'->u=u'
 |.own id off len,u,u',h,h'=>by simp only[aq]at h h';obtain⟨i,rfl,r⟩:=h;obtain⟨j,rfl,r'⟩:=h';rw[hf _ _ _ r r']
 |.ptr id i k,u,u',h,h'=>by simp only[aq]at h h';obtain⟨i,rfl,r⟩:=h;obtain⟨j,rfl,r'⟩:=h';rw[hf _ _ _ r r']
 |.sl sz rows,u,u',h,h'=>by simp only[aq]at h h';obtain⟨i,rfl,r⟩:=h;obtain⟨j,rfl,r'⟩:=h';rw[aD.fun hf _ _ _ r r']
 |.rp v,u,u',h,h'=>by simp only[aq]at h h';obtain⟨i,rfl,r⟩:=h;obtain⟨j,rfl,r'⟩:=h';rw[aq.fun hf _ _ _ r r']
 |.fn f caps,u,u',h,h'=>by simp only[aq]at h h';obtain⟨i,rfl,r⟩:=h;obtain⟨j,rfl,r'⟩:=h';rw[aD.fun hf _ _ _ r r']
 |.bm f caps,u,u',h,h'=>by simp only[aq]at h h';obtain⟨i,rfl,r⟩:=h;obtain⟨j,rfl,r'⟩:=h';rw[aD.fun hf _ _ _ r r']
 |.iface t v,u,u',h,h'=>by simp only[aq]at h h';obtain⟨i,rfl,r⟩:=h;obtain⟨j,rfl,r'⟩:=h';rw[aq.fun hf _ _ _ r r']
 |.agg c,u,u',h,h'=>by simp only[aq]at h h';obtain⟨i,rfl,r⟩:=h;obtain⟨j,rfl,r'⟩:=h';rw[aD.fun hf _ _ _ r r']
 |.P' c,u,u',h,h'=>by simp only[aq]at h h';obtain⟨i,rfl,r⟩:=h;obtain⟨j,rfl,r'⟩:=h';rw[aD.fun hf _ _ _ r r']
 |.undef,u,u',h,h'=>by simp only[aq]at h h';rw[h,h']
 |.int k n,u,u',h,h'=>by simp only[aq]at h h';rw[h,h']
 |.bool b,u,u',h,h'=>by simp only[aq]at h h';rw[h,h']
 |.str s,u,u',h,h'=>by simp only[aq]at h h';rw[h,h']
 |.aC,u,u',h,h'=>by simp only[aq]at h h';rw[h,h']
 |.nilp,u,u',h,h'=>by simp only[aq]at h h';rw[h,h']
 |.YQ,u,u',h,h'=>by simp only[aq]at h h';rw[h,h']
 |.Yz,u,u',h,h'=>by simp only[aq]at h h';rw[h,h']
 |.raw v,u,u',h,h'=>by simp only[aq]at h h';rw[h,h']
 |.obj v,u,u',h,h'=>by simp only[aq]at h h';rw[h,h']
 |.gp v,u,u',h,h'=>by simp only[aq]at h h';rw[h,h']
 |.yl v,u,u',h,h'=>by simp only[aq]at h h';obtain⟨i,rfl,r⟩:=h;obtain⟨j,rfl,r'⟩:=h';rw[hf _ _ _ r r']
 |.mp v,u,u',h,h'=>by simp only[aq]at h h';rw[h,h']
def aD.fun(hf:∀c a a',R c a->R c a'->a=a'):∀(v u u':List V),aD R v u->aD R v u'->u=u'
 |[],u,u',h,h'=>by simp only[aD]at h h';rw[h,h']
 |v::vs,u,u',h,h'=>by
  simp only[aD]at h h';obtain⟨a,as1,rfl,r,rs⟩:=h;obtain⟨b,bs,rfl,r',rs'⟩:=h';rw[aq.fun hf _ _ _ r r',aD.fun hf _ _ _ rs rs']
end
end
def UR(dst:Option Nat)(tbl:List (TypeId×FuncId))(rx:VX)(xs:List VX):BI:=⟨λcall fl cs=>match rx.ev cs.sf with
 |.iface t v=>match tbl.lookup t with
  |some f=>iM dst cs (call f (v::xs.map (·.ev cs.sf)) cs.U cs.YA fl)
  |none=>none
 |_=>none⟩
def KC(dst:Option Nat)(fx:VX)(xs:List VX):BI:=⟨λcall fl cs=>match fx.ev cs.sf with
 |.fn f caps=>iM dst cs (call f (xs.map (·.ev cs.sf)++caps) cs.U cs.YA fl)
 |.bm f first=>iM dst cs (call f (first++xs.map (·.ev cs.sf)) cs.U cs.YA fl)
 |_=>none⟩
def OK(dst:Option Nat)(neg:Bool)(x:VX):BI:=⟨λ_ _ cs=>match x.ev cs.sf with
 |.YQ=>some (cs.put dst (.bool (true != neg)))
 |.fn _ _=>some (cs.put dst (.bool (false != neg)))
 |_=>none⟩
def FC(dst:Option Nat)(xa xv:VX):BI:=⟨λ_ _ cs=>match xa.ev cs.sf with
 |.rp _=>(match xv.ev cs.sf with
  |.agg []=>some (cs.put dst (.P' []))
  |_=>none)
 |_=>none⟩
def Oo(dst:Option Nat)(neg:Bool)(x:VX):BI:=⟨λ_ _ cs=>match x.ev cs.sf with
 |.Yz=>some (cs.put dst (.bool (true != neg)))
 |.iface _ _=>some (cs.put dst (.bool (false != neg)))
 |_=>none⟩
def OG(dst:Option Nat)(x:VX):BI:=⟨λ_ _ cs=>match x.ev cs.sf with
 |.aC=>some (cs.put dst (.bool true))
 |.sl _ (_::_)=>some (cs.put dst (.bool false))
 |.own _ _ (_+1)=>some (cs.put dst (.bool false))
 |_=>none⟩
def zJ(dst:Option Nat)(op:Yw):BI:=match op with
 |.more (.inv tbl) (rx::xs)=>UR dst tbl rx xs
 |.more .nZ []=>⟨λ_ _ cs=>some (cs.put dst (.rp (.agg [])))⟩
 |.more .oU [xa,xv]=>FC dst xa xv
 |.call fx xs=>KC dst fx xs
 |.ZG neg x (.c (.iface 2 .undef))=>OK dst neg x
 |.ZG neg x (.c (.iface 1 .undef))=>Oo dst neg x
 |.ZG false x (.c (.iface 0 .undef))=>OG dst x
 |op=>jz false dst op
def nM(i:az):BI:=match i.g with
 |none=>zJ i.dst i.op
 |some (x,b)=>⟨λcall fl cs=>sS i.dst b (zJ i.dst i.op) call fl cs (x.ev cs.sf)⟩
def mU(call:gz)(fl m:Nat):List az->CS->Out:=
 @Nat.rec (λ_=>List az->CS->Out) (λ_ _=>.bad)
  (λ_ ih l cs=>@List.casesOn az (λ_=>Out) l (.nx cs)
    (λi l'=>@BI.casesOn (λ_=>Out) (nM i) λf=>@Option.casesOn CS (λ_=>Out) (f call fl cs) .bad (ih l'))) m
def sP(g:V->List Nat):List V->List Nat
 |[]=>[]
 |v::vs=>g v++sP g vs
def qI:Nat->Tr (Option Ob)->V->List Nat
 |0,_,_=>[]
 |f+1,U,v=>match v with
  |.own id off len=>id::(match fb none id U with
   |some ob=>sP (qI f U) ((ob.rows.drop off).take len)
   |none=>[])
  |.ptr id i _=>id::(match fb none id U with
   |some ob=>(match ob.rows[i]? with
    |some r=>qI f U r
    |none=>[])
   |none=>[])
  |.sl _ rows=>sP (qI f U) rows
  |.agg cs=>sP (qI f U) cs
  |.P' cs=>sP (qI f U) cs
  |.fn _ cs=>sP (qI f U) cs
  |.bm _ cs=>sP (qI f U) cs
  |.iface _ u=>qI f U u
  |_=>[]
def D5(dst:Option Nat)(cs:CS):Option Rs->Option CS
 |some r=>@Bool.casesOn (λ_=>Option CS) r.v.cu (@Bool.casesOn (λ_=>Option CS) ((qI 40 r.U r.v).all λc=>Nat.ble cs.YA c) none (match fzQ 40 r.U r.v with
  |some v=>some (cs.put dst v)
  |none=>none)) (some (cs.put dst r.v))
 |none=>none
def IJ(dst:Option Nat)(fx:VX)(xs:List VX):BI:=⟨λcall _ cs=>match fx.ev cs.sf with
 |.fn f caps=>D5 dst cs (call f (xs.map (·.ev cs.sf)++caps) cs.U cs.YA cs.YA)
 |_=>none⟩
def Ax(dst:Option Nat)(op:Yw):BI:=match op with
 |.call fx xs=>IJ dst fx xs
 |op=>jz true dst op
def qk(i:az):BI:=match i.g with
 |none=>Ax i.dst i.op
 |some (x,b)=>⟨λcall fl cs=>sS i.dst b (Ax i.dst i.op) call fl cs (x.ev cs.sf)⟩
def mO(call:gz)(fl m:Nat):List az->CS->Out:=
 @Nat.rec (λ_=>List az->CS->Out) (λ_ _=>.bad)
  (λ_ ih l cs=>@List.casesOn az (λ_=>Out) l (.nx cs)
    (λi l'=>@BI.casesOn (λ_=>Out) (qk i) λf=>@Option.casesOn CS (λ_=>Out) (f call fl cs) .bad (ih l'))) m
def jh(draw:Bool)(call:gz)(fl:Nat)(l:List az)(cs:CS):Out:=match draw with
 |true=>mO call fl 1000 l cs
 |false=>mU call fl 1000 l cs
def Ua:List (List Nat)->List (List Nat)->List (List Nat)
 |acc,[]=>acc
 |acc,d::ds=>Ua (acc++[(d++d.flatMap λi=>acc.getD i []).eraseDups]) ds
def PM(D:List (List Nat))(n:Nat)(done:List Nat):List Nat:=(List.range n).filter λi=>!(done.contains i)&&(D.getD i []).all done.contains
def Jr(l:List az)(D Yu:List (List Nat))(n:Nat):Nat->List Nat->List Nat->List Nat×List Nat
 |0,_,m=>(m,[])
 |f+1,done,m=>match PM D n done with
  |[]=>(m,[])
  |i::is=>match(i::is).find? (λi=>!(cX l Yu i))with
   |some i=>Jr l D Yu n f (done++[i]) (m++[i])
   |none=>match is with
    |[]=>Jr l D Yu n f (done++[i]) (m++[i])
    |_::_=>(m,i::is)
def Uo(Yu:List (List Nat))(S:List Nat)(s:Nat):Nat->List (List Nat)->List (List Nat)
 |_,[]=>[]
 |j,b::r=>(if !(j==s)&&(S.contains j||b.any λi=>S.contains i&&!(i==s))then(s::(ep Yu s++b)).eraseDups else b)::Uo Yu S s (j+1) r
def OF(l:List az):Nat->List (List Nat)->List (List Nat)->List Nat->PT
 |0,_,_,_=>.leaf [] []
 |f+1,D,Yu,done=>match Jr l D Yu l.length (l.length+1) done []with
  |(m,[])=>.leaf Yu m
  |(m,s::S)=>.fork Yu m (s::S) ((s::S).map λq=>OF l f (pH D (s::S) q) (Uo Yu (s::S) q 0 Yu) (done++m))
def Ot(l:List az)(Yo:List (List Nat))(t:PT):Option PT:=@Bool.casesOn (λ_=>Option PT) (Ed l 8 Yo [] t) none (some t)
def FO(l:List az)(Yo:List (List Nat)):Option PT:=Ot l Yo (OF l 7 Yo (Ua [] Yo) [])
def Qk(call:gz)(fl:Nat)(i:az)(cs:CS):Bool:=@Bool.casesOn (λ_=>Bool) (Nat.beq (aX i.op) 0) false (match(wE true i).f call fl cs with
 |some YG=>match i.dst with
  |some d=>rY 40 (YG.sf d) (cs.sf d)
  |none=>true
 |none=>false)
def x5(call:gz)(fl:Nat)(l:List az):List Nat->CS->Out
 |[],cs=>.nx cs
 |m::ms,cs=>match l[m/2]? with
  |none=>.bad
  |some i=>@Bool.casesOn (λ_=>Out) (Nat.beq (m%2) 0)
     (@Bool.casesOn (λ_=>Out) (Qk call fl i cs) .bad (x5 call fl l ms cs))
     (@Bool.casesOn (λ_=>Out) (Nat.ble (aX i.op) 3) .bad (match(wE false i).f call fl cs with
       |some YG=>x5 call fl l ms YG
       |none=>.bad))
def rho(n N r c:Nat):Nat:=@Bool.casesOn (λ_=>Nat) (Nat.blt c n) (@Bool.casesOn (λ_=>Nat) (Nat.blt c N) c (@Bool.casesOn (λ_=>Nat) (Nat.blt (Nat.add c r) N) (Nat.sub (Nat.add c r) (Nat.sub N n)) (Nat.add c r))) c
def nB(ρ:Nat->Nat):Nat->V->V->Bool
 |0,_,_=>false
 |f+1,v,u=>match v with
  |.int k n=>match u with
   |.int k' n'=>eqK k k'&&eqQ n n'
   |_=>false
  |.bool b=>match u with
   |.bool b'=>b==b'
   |_=>false
  |.str b=>match u with
   |.str b'=>decide (b=b')
   |_=>false
  |.aC=>match u with
   |.aC=>true
   |_=>false
  |.nilp=>match u with
   |.nilp=>true
   |_=>false
  |.YQ=>match u with
   |.YQ=>true
   |_=>false
  |.Yz=>match u with
   |.Yz=>true
   |_=>false
  |.own a b c=>match u with
   |.own a' b' c'=>Nat.beq (ρ a) a'&&(Nat.beq b b'&&Nat.beq c c')
   |_=>false
  |.ptr a b c=>match u with
   |.ptr a' b' c'=>Nat.beq (ρ a) a'&&(Nat.beq b b'&&Nat.beq c c')
   |_=>false
  |.yl a=>match u with
   |.yl a'=>Nat.beq (ρ a) a'
   |_=>false
  |.sl sz rows=>match u with
   |.sl sz' Yc=>Nat.beq sz sz'&&iD (nB ρ f) rows Yc
   |_=>false
  |.rp x=>match u with
   |.rp y=>nB ρ f x y
   |_=>false
  |.iface t x=>match u with
   |.iface t' y=>Nat.beq t t'&&nB ρ f x y
   |_=>false
  |.fn g cs=>match u with
   |.fn g' ds=>Nat.beq g g'&&iD (nB ρ f) cs ds
   |_=>false
  |.bm g cs=>match u with
   |.bm g' ds=>Nat.beq g g'&&iD (nB ρ f) cs ds
   |_=>false
  |.agg cs=>match u with
   |.agg ds=>iD (nB ρ f) cs ds
   |_=>false
  |.P' cs=>match u with
   |.P' ds=>iD (nB ρ f) cs ds
   |_=>false
  |_=>false
def Ey(ρ:Nat->Nat)(a b:Option Ob):Bool:=match a with
 |none=>(match b with
  |none=>true
  |some _=>false)
 |some x=>(match b with
  |none=>false
  |some y=>Nat.beq x.elem y.elem&&(Nat.beq x.sz y.sz&&iD (nB ρ 40) x.rows y.rows))
def trB{α:Type}(f:α->α->Bool):Tr α->Tr α->Bool
 |.e,.e=>true
 |.n l v r,.n l' v' r'=>@Bool.casesOn (λ_=>Bool) (f v v') false (@Bool.casesOn (λ_=>Bool) (trB f l l') false (trB f r r'))
 |_,_=>false
def JU(U:Tr (Option Ob))(n:Nat):Nat->Tr (Option Ob)
 |0=>U
 |m+1=>jW none none (Nat.add n m) (JU U n m)
def Ga(ρ:Nat->Nat)(A B:Tr (Option Ob))(n:Nat):Nat->Bool
 |0=>true
 |m+1=>@Bool.casesOn (λ_=>Bool) (Ey ρ (fb none (Nat.add n m) A) (fb none (ρ (Nat.add n m)) B)) false (Ga ρ A B n m)
def Ud(n N r:Nat)(A B:CS):Bool:=@Bool.casesOn (λ_=>Bool) (Nat.ble r (Nat.sub N n)) false (@Bool.casesOn (λ_=>Bool) (Ga (rho n N r) A.U B.U n (Nat.sub N n)) false
 (@Bool.casesOn (λ_=>Bool) (trB (nB (rho n N r) 40) A.s B.s) false (trB (Ey (rho n N r)) (JU A.U n (Nat.sub N n)) (JU B.U n (Nat.sub N n)))))
def FM(f:Nat->Bool):Nat->Bool
 |0=>f 0
 |m+1=>@Bool.casesOn (λ_=>Bool) (f (Nat.succ m)) (FM f m) true
def L8(fl n:Nat)(A B:CS):Bool:=@Bool.casesOn (λ_=>Bool) (Nat.beq A.YA B.YA&&(Nat.ble fl n&&Nat.ble n A.YA)) false (FM (λr=>Ud n A.YA r A B) (Nat.sub A.YA n))
def FT(g:PT->Out)(fl n:Nat)(A:CS):List PT->Bool
 |[]=>true
 |k::r=>match g k with
  |.nx B=>@Bool.casesOn (λ_=>Bool) (L8 fl n A B) false (FT g fl n A r)
  |_=>false
def IV(g:PT->Out)(fl n:Nat):List PT->Out
 |[]=>.bad
 |k::r=>match g k with
  |.nx A=>@Bool.casesOn (λ_=>Out) (FT g fl n A r) .bad (.nx A)
  |_=>.bad
def evT(call:gz)(fl:Nat)(l:List az):Nat->List Nat->PT->CS->Out
 |0,_,_,_=>.bad
 |f+1,pre,t,cs=>match t with
  |.leaf Yu r=>x5 call fl l (dF l Yu pre r) cs
  |.fork Yu m _ kids=>match x5 call fl l (dF l Yu pre m) cs with
   |.nx cs0=>IV (λk=>evT call fl l f (pre++m) k cs0) fl cs0.YA kids
   |_=>.bad
def evA(call:gz)(fl:Nat)(l:List az)(Yo:List (List Nat))(cs:CS):Out:=@Option.casesOn PT (λ_=>Out) (FO l Yo) .bad λt=>evT call fl l 8 [] t cs
def zy:List Nat->Tr (Option Ob)->Tr (Option Ob)
 |[],U=>U
 |c::cs,U=>zy cs (match fb none c U with
  |some _=>jW none none c U
  |none=>U)
def uC:List Nat->List V->Tr V->Tr V
 |p::ps,x::xs,s=>uC ps xs (jW (.P' []) x p s)
 |_,_,s=>s
def Ep(s0:Tr V)(ps:List Nat)(body:CS->Out):List (List V)->Tr (Option Ob)->Nat->Out
 |[],U,YA=>.nx ⟨s0,U,YA⟩
 |x::xs,U,YA=>match body ⟨uC ps x s0,U,YA⟩with
  |.nx cs=>Ep s0 ps body xs cs.U cs.YA
  |.ex id cs=>.ex id ⟨s0,cs.U,cs.YA⟩
  |.rt cs=>.rt ⟨s0,cs.U,cs.YA⟩
  |.bad=>.bad
def DT(run:Nat->bc->CS->Out)(a b:bc)(cs:CS):Out:=match run 0 a cs with
 |.nx YG=>run 0 b YG
 |_=>.bad
def UW(run:Nat->bc->CS->Out)(d:Nat)(gf:FuncId)(ps:List Nat)(a b:bc)(cs:CS)(ids:List Nat)(caps:List V)(xs:List (List V)):Out:=
 @Bool.casesOn (λ_=>Out) (xs.all λx=>cj x&&Nat.beq x.length ps.length) .bad
  (Ep (jW (.P' []) (.fn gf caps) d cs.s) ps (DT run a b) xs (zy ids cs.U) cs.YA)
def evR(run:Nat->bc->CS->Out)(μ:FuncId->Option (List V->Option (List (List V))))(fl:Nat)(g:VX)(ps:List Nat)(a b:bc)(cs:CS):Out:=
 @Bool.casesOn (λ_=>Out) (Nat.beq fl 0) .bad (match g with
  |.t d=>match cs.sf d with
   |.fn gf caps=>match μ gf with
    |some h=>match iJ (fzQ 40 cs.U) caps with
     |some Zl=>match h Zl with
      |some xs=>UW run d gf ps a b cs (sP (qI 40 cs.U) caps) Zl xs
      |none=>.bad
     |none=>.bad
    |none=>.bad
   |_=>.bad
  |.c _=>.bad)
structure Tb where
 fn:FuncId->Option Fk
 it:FuncId->Option (List V->Option (List (List V)))
def dc(T:Tb)(fuel:Nat):Nat->bc->CS->Out:=
 @Nat.rec (λ_=>Nat->bc->CS->Out) (λ_ _ _=>.bad)
  (λ_ ih fl c cs=>match c with
    |.skip=>.nx cs
    |.reg draw l=>jh draw (ji ih T.fn) fl l cs
    |.seq a b=>yu (ih fl a cs) λYG=>ih fl b YG
    |.cond c a b=>onB (c.ev cs.sf) (ih fl a cs) (ih fl b cs)
    |.block id a=>Qt id (ih fl a cs)
    |.loop a=>yu (ih fl a cs) λYG=>ih fl (.loop a) YG
    |.exit id=>.ex id cs
    |.ret=>.rt cs
    |.cA g ps a b=>evR ih T.it fl g ps a b cs
    |.regA l Yo=>evA (ji ih T.fn) fl l Yo cs
    |.ny l e=>yu (jh true (ji ih T.fn) fl l cs) λYG=>jh false (ji ih T.fn) fl e YG
    |.bad=>.bad) fuel
variable {P:Program} {n:Nat}
def bT:bc->Bool
 |.reg _ l=>l.all dx
 |.seq a b=>bT a&&bT b
 |.cond c a b=>okX c&&(bT a&&bT b)
 |.block _ a=>bT a
 |.loop a=>bT a
 |.cA _ _ a b=>bT a&&bT b
 |.regA l _=>l.all dx
 |.ny l e=>l.all dx&&e.all dx
 |_=>true
def l7(f:Yh):Bool:=bT f.code&&f.res.all F0
def C1{o:Op}{xs:List VX}(h:Yn P n o=.more .nZ xs):∃t,o=.alloc t/\nt P t=true:=by
 cases o
 case alloc t=>
  simp only[Yn]at h;split at h
  .cases h
  .split at h
   .rename_i hn;exact⟨t,rfl,hn⟩
   .cases h
 case call c=>
  obtain⟨callee,args,argTypes⟩:=c;cases callee
  case builtin b=>cases b<;>simp only[Yn]at h<;>(repeat' split at h)<;>cases h
  all_goals (simp only[Yn]at h;cases h)
 case unOp op t x=>cases op<;>simp only[Yn]at h<;>cases h
 case makeFunc f a b=>cases f<;>simp only[Yn]at h<;>(repeat' split at h)<;>cases h
 case binOp op t x y yt=>cases op<;>simp only[Yn,bR]at h<;>(repeat' split at h)<;>cases h
 all_goals (simp only[Yn]at h;(repeat' split at h)<;>cases h)
def C2{o:Op}{xs:List VX}(h:Yn P n o=.more .oU xs):∃t x y,o=.store t x y/\nt P t=true/\xs=[cx n x,cx n y]:=by
 cases o
 case store t x y=>
  simp only[Yn]at h;split at h
  .cases h
  .split at h
   .rename_i hn;simp only[Yw.more.injEq,true_and]at h;exact⟨t,x,y,rfl,hn,h.symm⟩
   .cases h
 case call c=>
  obtain⟨callee,args,argTypes⟩:=c;cases callee
  case builtin b=>cases b<;>simp only[Yn]at h<;>(repeat' split at h)<;>cases h
  all_goals (simp only[Yn]at h;cases h)
 case unOp op t x=>cases op<;>simp only[Yn]at h<;>cases h
 case makeFunc f a b=>cases f<;>simp only[Yn]at h<;>(repeat' split at h)<;>cases h
 case binOp op t x y yt=>cases op<;>simp only[Yn,bR]at h<;>(repeat' split at h)<;>cases h
 all_goals (simp only[Yn]at h;(repeat' split at h)<;>cases h)
def ab.NL{st:St}{Q:St->Prop}{k:List It}{i:az}{l:List az}(hw:aP st.s i.g=some true)(ho:i.op=.more .nZ [])
 (h:ab P n (.ops l::k) ⟨aN st.s i.dst (.rp (.agg [])),st.U⟩ Q):ab P n (.ops (i::l)::k) st Q:=by
 refine ab.ins (by rw[ho];simp) hw λF hn I a w o all hi hs next Q' Yd=>?_
 subst hn;obtain⟨Yf,hd⟩:=cc hi;rw[ho]at Yf;obtain⟨t,g1,hn⟩:=C1 Yf;have YD:(execOp a.eval o).run P w=.ok (.value (.pointer (some ⟨w.heap.size,0,none⟩))) (w.alloc (.cells #[] t)):=by
  unfold execOp;rw[g1];simp[Instr.alloc,pn hn,newVar,newRow,Value.cells]
 unfold Oper.wp;rw[YD];obtain⟨h1,hk⟩:=hs.sat.more (.cells #[] t);refine Yd _ _ _ ⟨I,?_⟩ h;rw[<-hd];exact hs.step h1 (cE.refl I) hk (by simp) (by simp only[E'];exact⟨w.heap.size,0,rfl,by simp,.inl rfl,by simp[bj,aM]⟩)
def ab.M6{st:St}{Q:St->Prop}{k:List It}{i:az}{l:List az}{xa xv:VX}{u:V}(hw:aP st.s i.g=some true)(ho:i.op=.more .oU [xa,xv])(ha:xa.ev st.s=.rp u)(hv:xv.ev st.s=.agg [])
 (h:ab P n (.ops l::k) ⟨aN st.s i.dst (.P' []),st.U⟩ Q):ab P n (.ops (i::l)::k) st Q:=by
 refine ab.ins (by rw[ho];simp) hw λF hn I a w o all hi hs next Q' Yd=>?_
 subst hn;obtain⟨Yf,hd⟩:=cc hi;rw[ho]at Yf;obtain⟨t,x,y,g1,hn,g2⟩:=C2 Yf;simp only[List.cons.injEq,and_true]at g2;obtain⟨rfl,rfl⟩:=g2;have R1:=bE hs x;have R2:=bE hs y;rw[ha]at R1;rw[hv]at R2;simp only[E']at R1 R2;obtain⟨b,off,e1,_⟩:=R1;obtain⟨Yl,e2,e3,_⟩:=R2;simp only[al]at e3;subst e3;obtain⟨ti,_,hti,hsz,_⟩:=mz hn;have YD:(execOp a.eval o).run P w=.ok .skip w:=by
  unfold execOp;rw[g1];simp[Instr.storeAt,Instr.sureAddr,e1,e2,storeVar,sizeOf,typeInfo,hti,hsz,Value.cells,storeCells]
 unfold Oper.wp;rw[YD];refine Yd _ _ _ ⟨I,?_⟩ h;rw[<-hd];exact hs.pure (by simp[E',al,undef])
def ab.Jh{st:St}{Q:St->Prop}{k:List It}{i:az}{l:List az}{xa:VX}(hw:aP st.s i.g=some true)(ho:i.op=.ZG false xa (.c (.iface 0 .undef))){b:Bool}
 (hx:(xa.ev st.s=.aC/\b=true)\/(∃sz r rows,xa.ev st.s=.sl sz (r::rows)/\b=false)\/∃id off m,xa.ev st.s=.own id off (m+1)/\b=false)
 (h:ab P n (.ops l::k) ⟨aN st.s i.dst (.bool b),st.U⟩ Q):ab P n (.ops (i::l)::k) st Q:=by
 refine ab.ins (by rw[ho];simp) hw λF hn I a w o all hi hs next Q' Yd=>?_
 subst hn;obtain⟨Yf,hd⟩:=cc hi;rw[ho]at Yf;obtain⟨t,x,y,m,c,yt,e,g1,rfl,g2,rfl⟩:=xB Yf;have R:=bE hs x;have hX:∃ba len cap,a.eval x=.slice ba len cap/\ba.isNone=b:=by
  rcases hx with⟨hx,rfl⟩|⟨sz,r,rows,hx,rfl⟩|⟨id,off,m,hx,rfl⟩
  .rw[hx]at R;simp only[E']at R;exact⟨none,0,0,R,rfl⟩
  .rw[hx]at R;simp only[E']at R;obtain⟨ba,cap,hX,_,hr⟩:=R;rcases hr with hr|⟨b,off,rfl,_⟩
   .cases hr
   .exact⟨_,_,_,hX,rfl⟩
  .rw[hx]at R;simp only[E']at R;split at R
   .exact R.elim
   .exact absurd R.2.2 (by omega)
   .obtain⟨o,c,hX,_⟩:=R;exact⟨_,_,_,hX,rfl⟩
 obtain⟨ba,len,cap,hX,rfl⟩:=hX;have YD:(execOp a.eval o).run P w=.ok (.value (.bool ba.isNone)) w:=by
  unfold execOp;rw[g1];have hY:a.eval (.const (.slice none m c))=.slice none m c:=rfl;simp[hX,hY,eqGuard,Lib.run_eql_slice_nil w t e ba len cap m c g2]
 unfold Oper.wp;rw[YD];refine Yd _ _ _ ⟨I,?_⟩ h;rw[<-hd];exact hs.pure (by simp[E'])
def VU(P:Program)(g:FuncId):Fk->Prop
 |.code vf=>bU P g=true/\l7 vf=true/\∃fn,P.funcs[g]?=some fn/\cfn P fn=some vf
 |.fz vf=>bU P g=true/\l7 vf=true/\∃fn,P.funcs[g]?=some fn/\cfn P fn=some vf
 |.orc h=>∀as1 v,h as1=some v->cj as1=true->v.cu=true->aJ P g as1 v
structure TOk(P:Program)(T:Tb):Prop where
 mix:P.follows .mixedOrders=true
 fn:∀g k,T.fn g=some k->VU P g k
 it:∀g h,T.it g=some h->∀caps xs,h caps=some xs->cj caps=true->Iter P g caps xs
def rh{R:Nat->Nat->Prop}{Zt:Tr (Option Ob)}{U:af}(hm:Lv R (ZQ Zt) U){N:Nat->Prop}:∀(f:Nat) (v u v':V),fzQ f Zt v=some v'->aq R v u->
 (∀c∈qI f Zt v,∀a o,R c a->ZQ Zt c=some o->N a)->Fz U N u v'
 |0,_,_,_,h,_,_=>by simp[fzQ]at h
 |f+1,v,u,v',h,hr,hN=>by
  have hL:∀(vs us out:List V),iJ (fzQ f Zt) vs=some out->aD R vs us->(∀c∈sP (qI f Zt) vs,∀a o,R c a->ZQ Zt c=some o->N a)->FzL U N us out:=by
   intro vs
   induction vs with
   |nil=>
    intro us out h1 h2 _;rw[aD.eY]at h2;subst h2;simp only[iJ,aB]at h1;subst h1;exact .nil
   |cons a vs ih=>
    intro us out h1 h2 hN;obtain⟨b,bs,rfl,h3,h4⟩:=aD.bu.1 h2;simp only[sP,da]at hN;simp only[iJ]at h1;split at h1
    .rename_i c hc;split at h1
     .rename_i cs hcs;simp only[aB]at h1;subst h1;exact .cons _ _ _ _ (rh hm f _ _ _ hc h3 λc hc=>hN c (.inl hc)) (ih _ _ hcs h4 λc hc=>hN c (.inr hc))
     .cases h1
    .cases h1
  cases v<;>simp only[fzQ,bO]at h<;>simp only[qI]at hN
  case own id off len=>
   split at h
   .rename_i ob Zb;simp only[Zb,cp]at hN;split at h
    .rename_i hle;simp only[Zq8]at h;obtain⟨rows,h3,rfl⟩:=h;simp only[aq]at hr;obtain⟨ZL,rfl,hR⟩:=hr;obtain⟨Yc,g1,g2⟩:=hm _ ZL ob hR Zb;have:=hL _ _ _ h3 ((g2.drop _).take _) λc hc=>hN c (.inr hc);exact .own ZL _ _ ⟨ob.elem,ob.sz,Yc⟩ _ g1 (hN id (.inl rfl) ZL ob hR Zb) (by rw[g2.length];exact oK hle) this
    .cases h
   .cases h
  case ptr id i k=>
   split at h
   .rename_i hk;split at h
    .rename_i ob Zb;split at h
     .rename_i r hri;simp only[Zb,hri,cp]at hN;simp only[Zq8]at h;obtain⟨r',h3,rfl⟩:=h;simp only[aq]at hr;obtain⟨ZL,rfl,hR⟩:=hr;obtain⟨Yc,g1,g2⟩:=hm _ ZL ob hR Zb;obtain⟨q,g3,g4⟩:=g2.get hri;have hk0:k=0:=gu hk;subst hk0;exact .ptr ZL _ ⟨ob.elem,ob.sz,Yc⟩ q r' g1 (hN id (.inl rfl) ZL ob hR Zb) g3 (rh hm f _ _ _ h3 g4 λc hc=>hN c (.inr hc))
     .cases h
    .cases h
   .cases h
  case iface t x=>
   simp only[aq]at hr;obtain⟨y,rfl,hr⟩:=hr;simp only[Zq8]at h;obtain⟨m,hm',rfl⟩:=h;exact .iface _ _ _ (rh hm f _ _ _ hm' hr hN)
  case sl sz rows=>
   simp only[aq]at hr;obtain⟨y,rfl,hr⟩:=hr;simp only[Zq8]at h;obtain⟨m,hm',rfl⟩:=h;exact .sl _ _ _ (hL _ _ _ hm' hr hN)
  case agg=>
   simp only[aq]at hr;obtain⟨y,rfl,hr⟩:=hr;simp only[Zq8]at h;obtain⟨m,hm',rfl⟩:=h;exact .agg _ _ (hL _ _ _ hm' hr hN)
  case P'=>
   simp only[aq]at hr;obtain⟨y,rfl,hr⟩:=hr;simp only[Zq8]at h;obtain⟨m,hm',rfl⟩:=h;exact .P' _ _ (hL _ _ _ hm' hr hN)
  case fn=>
   simp only[aq]at hr;obtain⟨y,rfl,hr⟩:=hr;simp only[Zq8]at h;obtain⟨m,hm',rfl⟩:=h;exact .fn _ _ _ (hL _ _ _ hm' hr hN)
  case bm=>
   simp only[aq]at hr;obtain⟨y,rfl,hr⟩:=hr;simp only[Zq8]at h;obtain⟨m,hm',rfl⟩:=h;exact .bm _ _ _ (hL _ _ _ hm' hr hN)
  all_goals (split at h
             .rename_i YE;simp only[aB]at h;subst h;have:=oW _ _ YE hr;subst this;exact .same _ YE
             .cases h)
def Bn{R:Nat->Nat->Prop}{Zt:Tr (Option Ob)}{U:af}(hm:Lv R (ZQ Zt) U){N:Nat->Prop}{f:Nat}:∀(vs us out:List V),iJ (fzQ f Zt) vs=some out->aD R vs us->
 (∀c∈sP (qI f Zt) vs,∀a o,R c a->ZQ Zt c=some o->N a)->FzL U N us out
 |[],us,out,h1,h2,_=>by
  rw[aD.eY]at h2;subst h2;simp only[iJ,aB]at h1;subst h1;exact .nil
 |a::vs,us,out,h1,h2,hN=>by
  obtain⟨b,bs,rfl,h3,h4⟩:=aD.bu.1 h2;simp only[sP,da]at hN;simp only[iJ]at h1;split at h1
  .rename_i c hc;split at h1
   .rename_i cs hcs;simp only[aB]at h1;subst h1;exact .cons _ _ _ _ (rh hm f _ _ _ hc h3 λc hc=>hN c (.inl hc)) (Bn hm _ _ _ hcs h4 λc hc=>hN c (.inr hc))
   .cases h1
  .cases h1
section
variable {call:gz} {K:af} {fl:Nat} {R:Nat->Nat->Prop} {cs YG:CS} {st:St} {Q:St->Prop} {k:List It}
def Al{i:az}(M':dx i=true)(h:cB K fl R cs st)(hr:(nM i).f call fl cs=some YG):
 (aP st.s i.g=some true/\(zJ i.dst i.op).f call fl cs=some YG)\/(aP st.s i.g=some false/\YG=cs.put i.dst (.P' [])):=by
 simp only[dx,Ba]at M';unfold nM at hr;split at hr
 .rename_i hg;exact .inl ⟨by simp[hg,aP],hr⟩
 .rename_i x b hg;have hx:=M'.2;simp only[hg]at hx;have hv:=cd h.slot hx;simp only[sS]at hr;split at hr
  .rename_i c hc;rw[hc,aq.iG]at hv;rw[sN]at hr;split at hr
   .rename_i hcb;simp only[aB]at hr;refine .inr ⟨?_,hr.symm⟩;simp only[hg,aP,hv];cases c<;>cases b<;>simp_all
   .rename_i hcb;refine .inl ⟨?_,hr⟩;simp only[hg,aP,hv];cases c<;>cases b<;>simp_all
  .rename_i hc;rw[hc]at hv;simp only[aq,aD]at hv;obtain⟨c',hv,rfl⟩:=hv;simp only[aB]at hr;exact .inr ⟨by simp only[hg,aP,hv],hr.symm⟩
  .rename_i hc;rw[hc,aq.iB]at hv;simp only[aB]at hr;exact .inr ⟨by simp only[hg,aP,hv],hr.symm⟩
  .cases hr
def Lm(hc:kQ P call){i:az}{l:List az}(M':dx i=true)(h:cB K fl R cs st)(hw:aP st.s i.g=some true)(hr:(jz false i.dst i.op).f call fl cs=some YG)
 (hk:∀R' Zd,Le R R'->cB K fl R' YG Zd->ab P n (.ops l::k) Zd Q):ab P n (.ops (i::l)::k) st Q:=by
 have hi:aP st.s (⟨i.dst,i.op,none⟩:az).g=some true:=rfl;have hok':dx ⟨i.dst,i.op,none⟩=true:=by
  simp only[dx,Ba]at M'|-;exact⟨M'.1,trivial⟩
 have:=M0 (P:=P) (n:=n) (k:=k) (Q:=Q) (l:=l) hc hok' h (show(wE false ⟨i.dst,i.op,none⟩).f call fl cs=some YG from hr) hk;intro F hn kt hkt a w hs;obtain⟨z,kt',rfl,hy,ZU⟩:=dn hkt;cases z<;>simp only[KI.it,It.ops.injEq,reduceCtorEq]at hy;rename_i all os;cases os with
 |nil=>simp at hy
 |cons o os=>
  simp only[dO,List.cons.injEq]at hy;obtain⟨hi1,hl⟩:=hy;obtain⟨I,Yk⟩:=hs;have hwant:=pq (P:=P) Yk all o (b:=true) (by rw[hn,hi1];exact hw);have h2:=this F hn (.ops all ({ o with guard:=none }::os)::kt') (by
   simp only[dO,KI.it,ZU,List.cons.injEq,It.ops.injEq,hl,and_true];rw[<-hi1];rfl) a w ⟨I,Yk⟩
  simp only[kM,wpListIn,hwant,if_true]at h2|-;have e1:Region.wanted { o with guard:=none } (yielded all a.tmps)=true:=rfl;simp only[e1,if_true]at h2;exact h2
def Dl(hc:kQ P call){i:az}{l:List az}(M':dx i=true)(h:cB K fl R cs st)(hr:(nM i).f call fl cs=some YG)
 (hk:∀R' Zd,Le R R'->cB K fl R' YG Zd->ab P n (.ops l::k) Zd Q):ab P n (.ops (i::l)::k) st Q:=by
 have Yf:jU i.op=true:=by simp only[dx,Ba]at M';exact M'.1
 rcases Al M' h hr with⟨hw,hr⟩|⟨hw,rfl⟩
 .unfold zJ at hr;split at hr
  .rename_i tbl rx xs hop';rw[hop']at Yf;simp only[jU,Yw.xs,iZ,Ba]at Yf;simp only[UR]at hr;split at hr
   .rename_i t v hv;have hrx:=cd h.slot Yf.1.1;rw[hv]at hrx;simp only[aq]at hrx;obtain⟨v',hv',hvr⟩:=hrx;split at hr
    .rename_i f hf;generalize Zj:call f (v::xs.map (·.ev cs.sf)) cs.U cs.YA fl=r at hr;cases r with
     |none=>simp[iM]at hr
     |some r=>
      simp only[iM,aB]at hr;refine ab.inv hw hop' hv' hf (hc _ _ _ _ _ _ Zj K R st.U _ h.mem (aD.bu.2 ⟨_,_,rfl,hvr,fZ h.slot Yf.1.2⟩)) ?_;rintro u Z' ⟨R',hle,hu,hm⟩;have hS:cB K fl R' ⟨cs.s,r.U,r.YA⟩ ⟨st.s,Z'⟩:=⟨λj=>aq.mono hle _ _ (h.slot j),hm⟩
      exact hk R' _ hle (hr▸hS.put hu)
    .cases hr
   .cases hr
  .rename_i hop';simp only[aB]at hr;subst hr;exact ab.NL hw hop' (hk R _ (Le.refl R) (h.put (by simp[aq,aD])))
  .rename_i xa xv hop';rw[hop']at Yf;simp only[jU,Yw.xs,iZ,Ba]at Yf;have h1:=cd h.slot Yf.1.1;have h2:=cd h.slot Yf.1.2.1;simp only[FC]at hr;split at hr
   .rename_i u hu;rw[hu]at h1;simp only[aq]at h1;obtain⟨u',hu',_⟩:=h1;split at hr
    .rename_i hv;rw[hv]at h2;simp only[aq,aD]at h2;obtain⟨_,hv',rfl⟩:=h2;simp only[aB]at hr;subst hr;exact ab.M6 hw hop' hu' hv' (hk R _ (Le.refl R) (h.put aq.AH))
    .cases hr
   .cases hr
  .rename_i fx xs hop';rw[hop']at Yf;simp only[jU,Yw.xs,iZ,Ba]at Yf;simp only[KC]at hr;split at hr
   .rename_i f caps hf;have hfx:=cd h.slot Yf.1.1;rw[hf]at hfx;simp only[aq]at hfx;obtain⟨Zl,hf',hcaps⟩:=hfx;generalize Zj:call f (xs.map (·.ev cs.sf)++caps) cs.U cs.YA fl=r at hr;cases r with
    |none=>simp[iM]at hr
    |some r=>
     simp only[iM,aB]at hr;refine ab.call hw hop' hf' (hc _ _ _ _ _ _ Zj K R st.U _ h.mem ((fZ h.slot Yf.1.2).append hcaps)) ?_;rintro v Z' ⟨R',hle,hv,hm⟩;have hS:cB K fl R' ⟨cs.s,r.U,r.YA⟩ ⟨st.s,Z'⟩:=⟨λj=>aq.mono hle _ _ (h.slot j),hm⟩
     exact hk R' _ hle (hr▸hS.put hv)
   .rename_i f caps hf;have hfx:=cd h.slot Yf.1.1;rw[hf]at hfx;simp only[aq]at hfx;obtain⟨Zl,hf',hcaps⟩:=hfx;generalize Zj:call f (caps++xs.map (·.ev cs.sf)) cs.U cs.YA fl=r at hr;cases r with
    |none=>simp[iM]at hr
    |some r=>
     simp only[iM,aB]at hr;refine ab.ly hw hop' hf' (hc _ _ _ _ _ _ Zj K R st.U _ h.mem (hcaps.append (fZ h.slot Yf.1.2))) ?_;rintro v Z' ⟨R',hle,hv,hm⟩;have hS:cB K fl R' ⟨cs.s,r.U,r.YA⟩ ⟨st.s,Z'⟩:=⟨λj=>aq.mono hle _ _ (h.slot j),hm⟩
     exact hk R' _ hle (hr▸hS.put hv)
   .cases hr
  .rename_i neg x hop';rw[hop']at Yf;simp only[jU,Yw.xs,iZ,Ba]at Yf;have hx:=cd h.slot Yf.1.1;simp only[OK]at hr;split at hr
   .rename_i hv;rw[hv]at hx;simp only[aq]at hx;simp only[aB]at hr;exact ab.L9 hw hop' (.inl ⟨hx,rfl⟩) (hk R _ (Le.refl R) (hr▸h.put (by simp[aq])))
   .rename_i f caps hv;rw[hv]at hx;simp only[aq]at hx;obtain⟨Zl,hx,_⟩:=hx;simp only[aB]at hr;exact ab.L9 hw hop' (.inr ⟨f,Zl,hx,rfl⟩) (hk R _ (Le.refl R) (hr▸h.put (by simp[aq])))
   .cases hr
  .rename_i neg x hop';rw[hop']at Yf;simp only[jU,Yw.xs,iZ,Ba]at Yf;have hx:=cd h.slot Yf.1.1;simp only[Oo]at hr;split at hr
   .rename_i hv;rw[hv]at hx;simp only[aq]at hx;simp only[aB]at hr;exact ab.UF hw hop' (.inl ⟨hx,rfl⟩) (hk R _ (Le.refl R) (hr▸h.put (by simp[aq])))
   .rename_i t' v' hv;rw[hv]at hx;simp only[aq]at hx;obtain⟨u,hx,_⟩:=hx;simp only[aB]at hr;exact ab.UF hw hop' (.inr ⟨t',u,hx,rfl⟩) (hk R _ (Le.refl R) (hr▸h.put (by simp[aq])))
   .cases hr
  .rename_i x hop';rw[hop']at Yf;simp only[jU,Yw.xs,iZ,Ba]at Yf;have hx:=cd h.slot Yf.1.1;simp only[OG]at hr;split at hr
   .rename_i hv;rw[hv]at hx;simp only[aq]at hx;simp only[aB]at hr;exact ab.Jh hw hop' (.inl ⟨hx,rfl⟩) (hk R _ (Le.refl R) (hr▸h.put (by simp[aq])))
   .rename_i sz r rows hv;rw[hv]at hx;simp only[aq]at hx;obtain⟨Yc,hx,hr'⟩:=hx;obtain⟨r',rows'',rfl,_,_⟩:=aD.bu.1 hr';simp only[aB]at hr;exact ab.Jh hw hop' (.inr (.inl ⟨sz,r',rows'',hx,rfl⟩)) (hk R _ (Le.refl R) (hr▸h.put (by simp[aq])))
   .rename_i id off m hv;rw[hv]at hx;simp only[aq]at hx;obtain⟨ZL,hx,_⟩:=hx;simp only[aB]at hr;exact ab.Jh hw hop' (.inr (.inr ⟨ZL,off,m,hx,rfl⟩)) (hk R _ (Le.refl R) (hr▸h.put (by simp[aq])))
   .cases hr
  .exact Lm hc M' h hw hr hk
 .exact ab.ph hw (hk R _ (Le.refl R) (h.put aq.AH))
def rF(m:Nat)(i:az)(l:List az):mU call fl (m+1) (i::l) cs=match(nM i).f call fl cs with
 |some YG=>mU call fl m l YG
 |none=>.bad:=by
 show(@Option.casesOn CS (λ_=>Out) ((nM i).f call fl cs) .bad (mU call fl m l))=_;cases (nM i).f call fl cs<;>rfl
def qt:∀(m:Nat) (l:List az) (cs:CS),(∃YG,mU call fl m l cs=.nx YG)\/mU call fl m l cs=.bad
 |0,_,_=>.inr rfl
 |m+1,[],cs=>.inl ⟨cs,rfl⟩
 |m+1,i::l,cs=>by
  rw[rF];split
  .exact qt m l _
  .exact .inr rfl
def wN(hc:kQ P call):∀(m:Nat) (l:List az) (R:Nat->Nat->Prop) (cs:CS) (st:St),mU call fl m l cs=.nx YG->l.all dx=true->cB K fl R cs st->
 (∀R' Zd,Le R R'->cB K fl R' YG Zd->ab P n k Zd Q)->ab P n (.ops l::k) st Q
 |0,_,_,_,_,h,_,_,_=>by cases h
 |m+1,[],R,cs,st,h,_,hs,hk=>by
  have h':Out.nx cs=.nx YG:=h;simp only[Out.nx.injEq]at h';subst h';exact ab.An (hk R st (Le.refl R) hs)
 |m+1,i::l,R,cs,st,h,M',hs,hk=>by
  rw[rF]at h;simp only[iZ,Ba]at M';split at h
  .rename_i cs1 h1;refine Dl hc M'.1 hs h1 λR' Zd hle Yk=>?_;exact wN hc m l R' cs1 Zd h M'.2 Yk λR'' st'' hle' hs''=>hk R'' st'' (hle.trans hle') hs''
  .cases h
def AQ{i:az}(M':dx i=true)(h:cB K fl R cs st)(hr:(qk i).f call fl cs=some YG):
 (aP st.s i.g=some true/\(Ax i.dst i.op).f call fl cs=some YG)\/(aP st.s i.g=some false/\YG=cs.put i.dst (.P' [])):=by
 simp only[dx,Ba]at M';unfold qk at hr;split at hr
 .rename_i hg;exact .inl ⟨by simp[hg,aP],hr⟩
 .rename_i x b hg;have hx:=M'.2;simp only[hg]at hx;have hv:=cd h.slot hx;simp only[sS]at hr;split at hr
  .rename_i c hc;rw[hc,aq.iG]at hv;rw[sN]at hr;split at hr
   .rename_i hcb;simp only[aB]at hr;refine .inr ⟨?_,hr.symm⟩;simp only[hg,aP,hv];cases c<;>cases b<;>simp_all
   .rename_i hcb;refine .inl ⟨?_,hr⟩;simp only[hg,aP,hv];cases c<;>cases b<;>simp_all
  .rename_i hc;rw[hc]at hv;simp only[aq,aD]at hv;obtain⟨c',hv,rfl⟩:=hv;simp only[aB]at hr;exact .inr ⟨by simp only[hg,aP,hv],hr.symm⟩
  .rename_i hc;rw[hc,aq.iB]at hv;simp only[aB]at hr;exact .inr ⟨by simp only[hg,aP,hv],hr.symm⟩
  .cases hr
def QT(hc:kQ P call){i:az}(M':dx i=true)(h:cB K fl R cs st)(hr:(qk i).f call fl cs=some YG){K':St->Prop}
 (hk:∀R' Zd,Le R R'->cB K fl R' YG Zd->K' Zd):T P i st K':=by
 have Yf:jU i.op=true:=by simp only[dx,Ba]at M';exact M'.1
 rcases AQ M' h hr with⟨hw,hr⟩|⟨hw,rfl⟩
 .refine lE hw ?_;unfold Ax at hr;split at hr
  .rename_i fx xs h0;rw[h0]at Yf;rw[h0];simp only[IJ]at hr;simp only[jU,Yw.xs,iZ,Ba]at Yf;split at hr
   .rename_i f caps hf;have hfx:=cd h.slot Yf.1.1;rw[hf]at hfx;simp only[aq]at hfx;obtain⟨Zl,hf',hcaps⟩:=hfx;generalize Zj:call f (xs.map (·.ev cs.sf)++caps) cs.U cs.YA cs.YA=r at hr;cases r with
    |none=>simp[D5]at hr
    |some r=>
     have key:∀Z1,aa st.U Z1->fO Z1 cs.YA R (ZQ cs.U) cs.YA Z1:=λZ1 ZV=>⟨h.mem.dom,h.mem.live.sup ZV,h.mem.inj,h.mem.fn,aa.refl _,λ_ _ c _ _ hcR _=>h.mem.dom c _ hcR⟩
     simp only[D5,sN]at hr;split at hr
     .rename_i YE;simp only[aB]at hr;refine⟨f,Zl,r.v,hf',λZ1 ZV=>?_,hk R _ (Le.refl R) (hr▸h.put (cT r.v YE))⟩;refine(hc _ _ _ _ _ _ Zj Z1 R Z1 _ (key Z1 ZV) ((fZ h.slot Yf.1.2).append hcaps)).drop ?_;rintro v Z' ⟨R',hle,hv,hm⟩;exact⟨Z1,hm.gN,oW _ _ YE hv,rfl⟩
     .split at hr
      .rename_i hids;split at hr
       .rename_i v hv;have YE:=mc 40 _ _ _ hv;simp only[aB]at hr;refine⟨f,Zl,v,hf',λZ1 ZV=>?_,hk R _ (Le.refl R) (hr▸h.put (cT v YE))⟩;refine(hc _ _ _ _ _ _ Zj Z1 R Z1 _ (key Z1 ZV) ((fZ h.slot Yf.1.2).append hcaps)).zM ?_;rintro u Z' ⟨R',hle,hu,hm⟩;refine⟨v,Z1,hm.gN,(rh (N:=λa=>Z1 a=none) hm.live 40 _ _ _ hv hu λc hcm a o hR ho=>?_).wk hm.gN λ_ h=>h,rfl,rfl⟩;have hge:=dX.1 hids c hcm;cases hk:Z1 a with
        |none=>rfl
        |some x=>
         have h1:=hm.kfl a x c o hk hR ho;have h2:=oK hge;omega
       .cases hr
      .cases hr
   .cases hr
  .rename_i op hnc;rcases nS i.op with h0|⟨fx,xs,h0⟩|⟨sz,a,x,h0⟩|h0|⟨sz,z,x,h0⟩|h0
   .obtain⟨v',h1,h2,h3⟩:=oZ h0 Yf h hr;unfold TO;simp only[h0];exact⟨h1,v',h2,hk R _ (Le.refl R) h3⟩
   .exact absurd h0 (hnc fx xs)
   .rw[h0]at hr Yf;rw[h0];obtain⟨Z',h1,h2⟩:=qJ Yf h hr;exact⟨Z',h1,hk R _ (Le.refl R) h2⟩
   .obtain⟨g',h1,h2⟩:=wG h0 Yf h hr;unfold TO;simp only[h0];refine⟨g',h1,λid O'=>?_⟩;obtain⟨R',h3,h4⟩:=h2 id O';exact hk R' _ h3 h4
   .rw[h0]at hr;simp[jz,Fg]at hr
   .exact(AK h0 hr).elim
 .exact qR hw (hk R _ (Le.refl R) (h.put aq.AH))
def rN(m:Nat)(i:az)(l:List az):mO call fl (m+1) (i::l) cs=match(qk i).f call fl cs with
 |some YG=>mO call fl m l YG
 |none=>.bad:=by
 show(@Option.casesOn CS (λ_=>Out) ((qk i).f call fl cs) .bad (mO call fl m l))=_;cases (qk i).f call fl cs<;>rfl
def mW:∀(m:Nat) (l:List az) (cs:CS),(∃YG,mO call fl m l cs=.nx YG)\/mO call fl m l cs=.bad
 |0,_,_=>.inr rfl
 |m+1,[],cs=>.inl ⟨cs,rfl⟩
 |m+1,i::l,cs=>by
  rw[rN];split
  .exact mW m l _
  .exact .inr rfl
def AE(hc:kQ P call){K':St->Prop}:∀(m:Nat) (l:List az) (R:Nat->Nat->Prop) (cs:CS) (st:St),mO call fl m l cs=.nx YG->l.all dx=true->cB K fl R cs st->
 (∀R' Zd,Le R R'->cB K fl R' YG Zd->K' Zd)->gP P K' l st
 |0,_,_,_,_,h,_,_,_=>by cases h
 |m+1,[],R,cs,st,h,_,hs,hk=>by
  have h':Out.nx cs=.nx YG:=h;simp only[Out.nx.injEq]at h';subst h';exact hk R st (Le.refl R) hs
 |m+1,i::l,R,cs,st,h,M',hs,hk=>by
  rw[rN]at h;simp only[iZ,Ba]at M';split at h
  .rename_i cs1 h1;refine QT hc M'.1 hs h1 λR' Zd hle Yk=>?_;exact AE hc m l R' cs1 Zd h M'.2 Yk λR'' st'' hle' hs''=>hk R'' st'' (hle.trans hle') hs''
  .cases h
def Q3(hc:kQ P call){i:az}(M':dx i=true)(hk3:aX i.op<=3)(h:cB K fl R cs st)(hr:(wE false i).f call fl cs=some YG){K':St->Prop}
 (hk:∀R' Zd,Le R R'->cB K fl R' YG Zd->K' Zd):TC P i st K':=by
 have Yf:jU i.op=true:=by simp only[dx,Ba]at M';exact M'.1
 rcases ot M' h hr with⟨hw,hr⟩|⟨hw,rfl⟩
 .rcases nS i.op with h0|⟨fx,xs,h0⟩|⟨sz,a,x,h0⟩|h0|⟨sz,z,x,h0⟩|h0
  .obtain⟨v',h1,h2,h3⟩:=oZ h0 Yf h hr;refine .inl (lE hw ?_);unfold TO;simp only[h0];exact⟨h1,v',h2,hk R _ (Le.refl R) h3⟩
  .rw[h0]at hr Yf;refine .inr ⟨hw,?_⟩;rw[h0];simp only[jz,Kz]at hr;simp only[jU,Yw.xs,iZ,Ba]at Yf;split at hr
   .rename_i f caps hf;have hfx:=cd h.slot Yf.1.1;rw[hf]at hfx;simp only[aq]at hfx;obtain⟨Zl,hf',hcaps⟩:=hfx;generalize Zj:call f (xs.map (·.ev cs.sf)++caps) cs.U cs.YA fl=r at hr;cases r with
    |none=>simp[iM]at hr
    |some r=>
     simp only[iM,aB]at hr;refine⟨f,Zl,_,hf',hc _ _ _ _ _ _ Zj K R st.U _ h.mem ((fZ h.slot Yf.1.2).append hcaps),?_⟩;rintro v Z' ⟨R',hle,hv,hm⟩;have hS:cB K fl R' ⟨cs.s,r.U,r.YA⟩ ⟨st.s,Z'⟩:=⟨λj=>aq.mono hle _ _ (h.slot j),hm⟩
     exact hk R' _ hle (hr▸hS.put hv)
   .cases hr
  .refine .inl (lE hw ?_);rw[h0]at hr Yf;rw[h0];obtain⟨Z',h1,h2⟩:=qJ Yf h hr;exact⟨Z',h1,hk R _ (Le.refl R) h2⟩
  .obtain⟨g',h1,h2⟩:=wG h0 Yf h hr;refine .inl (lE hw ?_);unfold TO;simp only[h0];refine⟨g',h1,λid O'=>?_⟩;obtain⟨R',h3,h4⟩:=h2 id O';exact hk R' _ h3 h4
  .rw[h0]at hk3;simp[aX]at hk3
  .exact(AK h0 hr).elim
 .exact .inl (qR hw (hk R _ (Le.refl R) (h.put aq.AH)))
def NC{i:az}(M':dx i=true)(h:cB K fl R cs st)(hr:Qk call fl i cs=true):QYd P i st:=by
 unfold Qk at hr;rw[bO]at hr;split at hr
 .rename_i hk0;have hk0:=gu hk0;split at hr
  .rename_i YG hcs;have Yf:jU i.op=true:=by simp only[dx,Ba]at M';exact M'.1
   have key:∀u,(∀d,i.dst=some d->aq R (YG.sf d) u)->∀d,i.dst=some d->u=st.s d:=λu hu d hd=>by
    rw[hd]at hr;have:=mM 40 _ _ hr;have h1:=hu d hd;rw[this]at h1;exact aq.fun h.mem.fn _ _ _ h1 (h.slot d)
   rcases ot M' h hcs with⟨hw,hcs⟩|⟨hw,rfl⟩
   .obtain⟨v',h1,h2,h3⟩:=oZ hk0 Yf h hcs;have hq:QY P i st.s st.U v':=.inl ⟨hw,by unfold QO;simp only[hk0];exact⟨h1,h2⟩⟩;unfold QYd;cases hd:i.dst with
    |none=>exact⟨v',hq⟩
    |some d=>
     simp only;rw[<-key v' (λd' hd'=>by
      have:=h3.slot d';rw[hd']at this;simpa[aN]using this) d hd]
     exact hq
   .have hq:QY P i st.s st.U (.P' []):=.inr ⟨hw,rfl⟩;unfold QYd;cases hd:i.dst with
    |none=>exact⟨_,hq⟩
    |some d=>
     simp only;rw[<-key (.P' []) (λd' hd'=>by
      have:(cs.put i.dst (.P' [])).sf d'=.P' []:=by rw[LF,hd'];simp[aN]
      rw[this];exact aq.AH) d hd]
     exact hq
  .cases hr
 .cases hr
def AY{l:List az}:∀(its:List Nat) (cs:CS),(∃YG,x5 call fl l its cs=.nx YG)\/x5 call fl l its cs=.bad
 |[],cs=>.inl ⟨cs,rfl⟩
 |m::ms,cs=>by
  simp only[x5,bO];split
  .exact .inr rfl
  .split
   .split
    .split
     .exact AY ms _
     .exact .inr rfl
    .exact .inr rfl
   .split
    .exact AY ms _
    .exact .inr rfl
def u9(hc:kQ P call){l:List az}(M':l.all dx=true){K':St->Prop}:∀(its:List Nat) (R:Nat->Nat->Prop) (cs:CS) (st:St),x5 call fl l its cs=.nx YG->cB K fl R cs st->
 (∀R' Zd,Le R R'->cB K fl R' YG Zd->K' Zd)->RE P l K' its st
 |[],R,cs,st,h,hs,hk=>by
  simp only[x5,Out.nx.injEq]at h;subst h;exact hk R st (Le.refl R) hs
 |m::ms,R,cs,st,h,hs,hk=>by
  simp only[x5,bO]at h;unfold RE;split at h
  .cases h
  .rename_i i hi;have hoki:dx i=true:=dX.1 M' i (yc hi)
   try rw[hi]
   try simp only
   split at h
   .rename_i hm;have hm:=gu hm;rw[ar hm];split at h
    .rename_i hk3;split at h
     .rename_i cs1 h1;exact Q3 hc hoki (oK hk3) hs h1 λR' Zd hle Yk=>u9 hc M' ms R' cs1 Zd h Yk λR'' st'' hle' hs''=>hk R'' st'' (hle.trans hle') hs''
     .cases h
    .cases h
   .rename_i hm;have hm':¬m%2=0:=λe=>hm (by rw[e];rfl);rw[av hm'];split at h
    .rename_i hck;exact⟨NC hoki hs hck,u9 hc M' ms R cs st h hs hk⟩
    .cases h
end
variable {P:Program} {n:Nat} {K:af} {R:Nat->Nat->Prop} {k:List It} {Q:St->Prop}
def Qq{n N r c:Nat}(h:c<n):rho n N r c=c:=by
 have h1:Nat.blt c n=true:=Nat.ble_eq_true_of_le h;unfold rho;rw[h1]
def Ao(n N r c:Nat):rho n N r c=if c<n then c else if c<N then(if c+r<N then c+r else c+r-(N-n))else c:=by
 unfold rho;simp only[bO,Nat.blt_eq];rfl
def KB{n N r c:Nat}(hn:n<=N)(hr:r<=N-n)(h:rho n N r c<N):c<N:=by
 rw[Ao]at h;split at h
 .omega
 .split at h<;>omega
def Ml{n N r c c':Nat}(hn:n<=N)(hr:r<=N-n)(h:rho n N r c=rho n N r c'):c=c':=by
 simp only[Ao]at h;by_cases h1:c<n<;>by_cases h2:c<N<;>by_cases h3:c+r<N<;>by_cases h4:c'<n<;>by_cases h5:c'<N<;>by_cases h6:c'+r<N<;>simp only[h1,h2,h3,h4,h5,h6,if_true,if_false]at h<;>omega
def NP{n N r c:Nat}(hn:n<=N)(hr:r<=N-n)(h:rho n N r c<n):c=rho n N r c:=by
 rw[Ao]at h|-;split at h
 .rw[ar ‹_›]
 .split at h
  .split at h<;>omega
  .omega
def oD{ρ:Nat->Nat}{R':Nat->Nat->Prop}:∀(f:Nat) (v u x:V),nB ρ f v u=true->aq R' u x->aq (λc a=>R' (ρ c) a) v x
 |0,_,_,_,h,_=>by simp[nB]at h
 |f+1,v,u,x,h,hr=>by
  have hL:∀{l m y:List V},iD (nB ρ f) l m=true->aD R' m y->aD (λc a=>R' (ρ c) a) l y:=by
   intro l
   induction l with
   |nil=>
    intro m y h1 h2;cases m with
    |nil=>rw[aD.eY]at h2;subst h2;simp[aD]
    |cons a b=>simp[iD]at h1
   |cons a l ih=>
    intro m y h1 h2;cases m with
    |nil=>simp[iD]at h1
    |cons b m=>
     simp only[iD,bO]at h1;split at h1
     .rename_i hab;obtain⟨z,zs,rfl,h3,h4⟩:=aD.bu.1 h2;exact aD.bu.2 ⟨z,zs,rfl,oD f _ _ _ hab h3,ih h1 h4⟩
     .cases h1
  cases v<;>cases u<;>simp only[nB,eR,Ba,Zq9,beq_iff_eq]at h<;>simp only[aq]at hr|-
  case int.int=>rw[hr,GA h.2,of_decide_eq_true (p:=_=_) h.1]
  case bool.bool=>rw[hr,h]
  case str.str=>rw[hr,h]
  case aC.aC=>exact hr
  case nilp.nilp=>exact hr
  case YQ.YQ=>exact hr
  case Yz.Yz=>exact hr
  case own.own=>obtain⟨i,rfl,r⟩:=hr;exact⟨i,by rw[gu h.2.1,gu h.2.2],by rw[gu h.1];exact r⟩
  case ptr.ptr=>obtain⟨i,rfl,r⟩:=hr;exact⟨i,by rw[gu h.2.1,gu h.2.2],by rw[gu h.1];exact r⟩
  case yl.yl=>obtain⟨i,rfl,r⟩:=hr;exact⟨i,rfl,by rw[gu h];exact r⟩
  case sl.sl=>obtain⟨y,rfl,r⟩:=hr;exact⟨y,by rw[gu h.1],hL h.2 r⟩
  case rp.rp=>obtain⟨y,rfl,r⟩:=hr;exact⟨y,rfl,oD f _ _ _ h r⟩
  case iface.iface=>obtain⟨y,rfl,r⟩:=hr;exact⟨y,by rw[gu h.1],oD f _ _ _ h.2 r⟩
  case fn.fn=>obtain⟨y,rfl,r⟩:=hr;exact⟨y,by rw[gu h.1],hL h.2 r⟩
  case bm.bm=>obtain⟨y,rfl,r⟩:=hr;exact⟨y,by rw[gu h.1],hL h.2 r⟩
  case agg.agg=>obtain⟨y,rfl,r⟩:=hr;exact⟨y,rfl,hL h r⟩
  case P'.P'=>obtain⟨y,rfl,r⟩:=hr;exact⟨y,rfl,hL h r⟩
def Db{ρ:Nat->Nat}{R':Nat->Nat->Prop}{f:Nat}:∀{l m y:List V},iD (nB ρ f) l m=true->aD R' m y->aD (λc a=>R' (ρ c) a) l y
 |[],m,y,h1,h2=>by
  cases m with
  |nil=>rw[aD.eY]at h2;subst h2;simp[aD]
  |cons a b=>simp[iD]at h1
 |a::l,m,y,h1,h2=>by
  cases m with
  |nil=>simp[iD]at h1
  |cons b m=>
   simp only[iD,bO]at h1;split at h1
   .rename_i hab;obtain⟨z,zs,rfl,h3,h4⟩:=aD.bu.1 h2;exact aD.bu.2 ⟨z,zs,rfl,oD f _ _ _ hab h3,Db h1 h4⟩
   .cases h1
def DV{α:Type}{f:α->α->Bool}{d:α}(hd:f d d=true):∀(p:List Bool) (t t':Tr α),trB f t t'=true->f (gL d p t) (gL d p t')=true
 |p,.e,.e,_=>by rw[Mw];exact hd
 |[],.n l v r,.n l' v' r',h=>by
  simp only[trB,bO]at h;split at h
  .rename_i hv;exact hv
  .cases h
 |b::p,.n l v r,.n l' v' r',h=>by
  simp only[trB,bO]at h;split at h
  .split at h
   .rename_i hl;cases b
    .exact DV hd p r r' h
    .exact DV hd p l l' hl
   .cases h
  .cases h
 |_,.e,.n _ _ _,h=>by simp[trB]at h
 |_,.n _ _ _,.e,h=>by simp[trB]at h
def GI{α:Type}{f:α->α->Bool}{d:α}(hd:f d d=true){t t':Tr α}(h:trB f t t'=true)(i:Nat):f (fb d i t) (fb d i t')=true:=by
 unfold fb;rw[pf _ _ _ _ (jj i),pf _ _ _ _ (jj i)];exact DV hd _ _ _ h
def vK{U:Tr (Option Ob)}{n i:Nat}:∀{m:Nat},(i<n\/n+m<=i)->fb none i (JU U n m)=fb none i U
 |0,_=>rfl
 |m+1,h=>by
  have e:Nat.add n m=n+m:=rfl;rw[JU,kK,av (by omega)];exact vK (by omega)
def zj{ρ:Nat->Nat}{A B:Tr (Option Ob)}{n:Nat}:∀{m:Nat},Ga ρ A B n m=true->∀i,n<=i->i<n+m->Ey ρ (fb none i A) (fb none (ρ i) B)=true
 |0,_,i,_,_=>by omega
 |m+1,h,i,h1,h2=>by
  simp only[Ga,bO]at h;split at h
  .rename_i hr;by_cases e:i=n+m
   .subst e;exact hr
   .exact zj h i h1 (by omega)
  .cases h
def wa{f:Nat->Bool}:∀{m:Nat},FM f m=true->∃r,f r=true
 |0,h=>⟨0,h⟩
 |m+1,h=>by
  simp only[FM,bO]at h;split at h
  .rename_i hf;exact⟨_,hf⟩
  .exact wa h
def CY{ρ:Nat->Nat}{a b:Option Ob}(h:Ey ρ a b=true){o:Ob}(ha:a=some o):∃o',b=some o'/\o.elem=o'.elem/\o.sz=o'.sz/\iD (nB ρ 40) o.rows o'.rows=true:=by
 subst ha;cases b with
 |none=>simp[Ey]at h
 |some o'=>
  simp only[Ey,Ba]at h;exact⟨o',rfl,gu h.1,gu h.2.1,h.2.2⟩
def Nw{fl m:Nat}{A B:CS}(h:L8 fl m A B=true){R0 R':Nat->Nat->Prop}(hd:∀c a,R0 c a->c<m)(hle:Le R0 R'){st:St}(hs:cB K fl R' B st):∃R'',Le R0 R''/\cB K fl R'' A st:=by
 unfold L8 at h;rw[bO]at h;split at h
 .rename_i hc;simp only[Ba,Nat.ble_eq]at hc;obtain⟨hN,hfl,hmN⟩:=hc;have hN:=gu hN;obtain⟨r,hr⟩:=wa h;generalize hNN:A.YA=N at*;unfold Ud at hr;rw[bO]at hr;split at hr
  .rename_i hrN;rw[bO]at hr;split at hr
   .rename_i YS;rw[bO]at hr;split at hr
    .rename_i hsl;have hrN:r<=N-m:=oK hrN;generalize hρ:rho m N r=ρ at*;have key:∀c o,ZQ A.U c=some o->∃o',ZQ B.U (ρ c)=some o'/\o.elem=o'.elem/\o.sz=o'.sz/\iD (nB ρ 40) o.rows o'.rows=true:=by
      intro c o ho;by_cases hin:m<=c/\c<N
      .exact CY (zj YS c hin.1 (by have:Nat.sub N m=N-m:=rfl;omega)) ho
      .have ZH:ρ c=c:=by rw[<-hρ,Ao];split<;>(try split)<;>omega
       have h1:=GI (d:=none) (by simp[Ey]) hr c;rw[vK (by have:Nat.sub N m=N-m:=rfl;omega),vK (by have:Nat.sub N m=N-m:=rfl;omega)]at h1;rw[ZH];exact CY h1 ho
     refine⟨λc a=>R' (ρ c) a,λc a hR=>?_,⟨λi=>?_,?_⟩⟩
     .have:ρ c=c:=by rw[<-hρ];exact Qq (hd c a hR)
      show R' (ρ c) a;rw[this];exact hle c a hR
     .have h1:nB ρ 40 (A.sf i) (B.sf i)=true:=GI (d:=V.P' []) (by simp[nB,iD]) hsl i;exact oD 40 _ _ _ h1 (hs.slot i)
     .have hm:=hs.mem;refine⟨λc a hR=>?_,λc a o hR ho=>?_,λc c' a o o' h1 h2 h3 h4=>?_,λc a a' h1 h2=>hm.fn _ a a' h1 h2,hm.gN,λa o c oc h1 h2 h3=>?_⟩
      .have h1:=hm.dom _ a hR;rw[<-hN]at h1;rw[hNN];exact KB hmN hrN (by rw[hρ];exact h1)
      .obtain⟨o',g1,g2,g3,g4⟩:=key c o ho;obtain⟨Yc,g5,g6⟩:=hm.live _ a o' hR g1;exact⟨Yc,by rw[g2,g3];exact g5,Db g4 g6⟩
      .obtain⟨x,g1,_⟩:=key c o h3;obtain⟨y,g2,_⟩:=key c' o' h4;have:=hm.inj _ _ a x y h1 h2 g1 g2;rw[<-hρ]at this;exact Ml hmN hrN this
      .obtain⟨x,g1,_⟩:=key c oc h3;have h4:=hm.kfl a o _ x h1 h2 g1;have h5:rho m N r c<m:=by rw[hρ];omega
       have h6:=NP hmN hrN h5;rw[h6,hρ];exact h4
    .cases hr
   .cases hr
  .cases hr
 .cases h
def xQ{g:PT->Out}{fl m:Nat}{A:CS}:∀{kids:List PT},FT g fl m A kids=true->∀k∈kids,∃B,g k=.nx B/\L8 fl m A B=true
 |[],_,k,hk=>by cases hk
 |a::r,h,k,hk=>by
  simp only[FT]at h;split at h
  .rename_i B hB;rw[sN]at h;split at h
   .rename_i hc;rcases cp.1 hk with rfl|hk
    .exact⟨B,hB,hc⟩
    .exact xQ h k hk
   .cases h
  .cases h
def Sn{call:gz}{fl:Nat}{l:List az}:∀(f:Nat) (pre:List Nat) (t:PT) (cs:CS),(∃YG,evT call fl l f pre t cs=.nx YG)\/evT call fl l f pre t cs=.bad
 |0,_,_,_=>.inr rfl
 |f+1,pre,t,cs=>by
  cases t with
  |leaf Yu r=>exact AY (call:=call) (fl:=fl) (l:=l) _ cs
  |fork Yu m S kids=>
   simp only[evT];split
   .rename_i cs0 h0;cases kids with
    |nil=>exact .inr rfl
    |cons k r=>
     simp only[IV];split
     .rw[sN];split
      .exact .inl ⟨_,rfl⟩
      .exact .inr rfl
     .exact .inr rfl
   .exact .inr rfl
def Fa{call:gz}{fl:Nat}(hc:kQ P call){l:List az}(M':l.all dx=true){K':St->Prop}:∀(f:Nat) (pre:List Nat) (t:PT) (R:Nat->Nat->Prop) (cs:CS) (st:St) {YG:CS},evT call fl l f pre t cs=.nx YG->cB K fl R cs st->
 (∀R' Zd,Le R R'->cB K fl R' YG Zd->K' Zd)->GT P l K' f pre t st
 |0,_,_,_,_,_,_,h,_,_=>by cases h
 |f+1,pre,t,R,cs,st,YG,h,hs,hk=>by
  cases t with
  |leaf Yu r=>exact u9 hc M' _ R cs st h hs hk
  |fork Yu m S kids=>
   simp only[evT]at h;split at h
   .rename_i cs0 h0;refine u9 hc M' _ R cs st h0 hs λR0 st0 hle0 YT=>?_;cases kids with
    |nil=>cases h
    |cons k r=>
     simp only[IV]at h;split at h
     .rename_i A hA;rw[sN]at h;split at h
      .rename_i hE;simp only[Out.nx.injEq]at h;subst h;intro kid hkid;rcases cp.1 hkid with rfl|hkid
       .exact Fa hc M' f _ _ R0 cs0 st0 hA YT λR1 st1 hle1 ZV=>hk R1 st1 (hle0.trans hle1) ZV
       .obtain⟨B,hB,hck⟩:=xQ hE kid hkid;refine Fa hc M' f _ _ R0 cs0 st0 hB YT λR1 st1 hle1 ZV=>?_;obtain⟨R2,hle2,hs2⟩:=Nw hck (λc a h=>YT.mem.dom c a h) hle1 ZV;exact hk R2 st1 (hle0.trans hle2) hs2
      .cases h
     .cases h
   .cases h
def JV{l:List az}{Yo:List (List Nat)}{t:PT}(h:FO l Yo=some t):Ed l 8 Yo [] t=true:=by
 unfold FO Ot at h;rw[bO]at h;split at h
 .rename_i hc;simp only[aB]at h;subst h;exact hc
 .cases h
variable {P:Program} {n:Nat} {K:af} {R:Nat->Nat->Prop} {k:List It} {Q:St->Prop}
def fO.W8{fl YA:Nat}{Zc U:af}(h:fO K fl R Zc YA U)(c:Nat):fO K fl R (del Zc c) YA U:=by
 have hlive:∀i x,del Zc c i=some x->Zc i=some x:=λi x hx=>by
  by_cases e:i=c
  .subst e;simp[Vc.del]at hx
  .rw[cC e]at hx;exact hx
 exact⟨h.dom,λc1 a1 o1 h1 h2=>h.live c1 a1 o1 h1 (hlive _ _ h2),λc1 c2 a1 o1 o2 h1 h2 h3 h4=>h.inj c1 c2 a1 o1 o2 h1 h2 (hlive _ _ h3) (hlive _ _ h4),h.fn,h.gN,
  λa1 o1 c1 oc h1 h2 h3=>h.kfl a1 o1 c1 oc h1 h2 (hlive _ _ h3)⟩
def pF{YA:Nat}:∀(ids:List Nat) (Zt:Tr (Option Ob)) (U:af),fO K 0 R (ZQ Zt) YA U->∃Z',aa Z' U/\fO K 0 R (ZQ (zy ids Zt)) YA Z'/\
 ∀c∈ids,∀a o,R c a->ZQ Zt c=some o->Z' a=none
 |[],Zt,U,h=>⟨U,aa.refl _,h,by simp⟩
 |c::cs,Zt,U,h=>by
  cases hc:fb none c Zt with
  |none=>
   obtain⟨Z',h1,h2,h3⟩:=pF cs Zt U h;refine⟨Z',h1,by simp only[zy,hc];exact h2,λc' hc' a o hR ho=>?_⟩;rcases cp.1 hc' with rfl|hc'
   .have:ZQ Zt c'=none:=hc;rw[this]at ho;cases ho
   .exact h3 c' hc' a o hR ho
  |some ob=>
   have Zb:ZQ Zt c=some ob:=hc;have ZI:ZQ (jW none none c Zt)=del (ZQ Zt) c:=Gg _ _;have hoth:∀c' o,c'≠c->ZQ Zt c'=some o->ZQ (jW none none c Zt) c'=some o:=λc' o YF ho=>by rw[ZI,cC YF];exact ho
   by_cases hex:∃a,R c a
   .obtain⟨a0,ha0⟩:=hex;have hm1:=h.rem ha0 Zb (Nat.zero_le _);rw[<-ZI]at hm1;obtain⟨Z',h1,h2,h3⟩:=pF cs _ _ hm1;refine⟨Z',h1.trans λi o hi=>?_,by simp only[zy,hc];exact h2,λc' hc' a o hR ho=>?_⟩
    .by_cases e:i=a0
     .subst e;simp[Vc.del]at hi
     .rw[cC e]at hi;exact hi
    .by_cases e:c'=c
     .subst e;have:=h.fn _ _ _ hR ha0;subst this;exact h1.none (by simp[Vc.del])
     .exact h3 c' ((cp.1 hc').resolve_left e) a o hR (hoth c' o e ho)
   .have hm1:=h.W8 c;rw[<-ZI]at hm1;obtain⟨Z',h1,h2,h3⟩:=pF cs _ _ hm1;refine⟨Z',h1,by simp only[zy,hc];exact h2,λc' hc' a o hR ho=>?_⟩;by_cases e:c'=c
    .subst e;exact absurd ⟨a,hR⟩ hex
    .exact h3 c' ((cp.1 hc').resolve_left e) a o hR (hoth c' o e ho)
def yO:∀(ps:List Nat) (x:List V) (s0:Tr V) (s:Nat->V),cj x=true->(∀i,aq R (fb (.P' []) i s0) (s i))->∀i,aq R (fb (.P' []) i (uC ps x s0)) (ld s ps x i)
 |[],x,s0,s,_,h,i=>by simp only[uC,ld];exact h i
 |_::_,[],s0,s,_,h,i=>by simp only[uC,ld];exact h i
 |p::ps,x::xs,s0,s,hx,h,i=>by
  simp only[cj,Ba]at hx;simp only[uC,ld];refine yO ps xs _ _ hx.2 (λj=>?_) i;rw[kK];split
  .exact cT x hx.1
  .exact h j
def bsd(ZJ U C:af):af:=λid=>match ZJ id,U id with
 |none,some _=>none
 |_,_=>C id
def BW{ZJ U C:af}{id:Nat}{o:Ob}(h:ZJ id=none)(h':U id=some o):bsd ZJ U C id=none:=by simp[bsd,h,h']
def wZ{ZJ U C:af}{id:Nat}(h:¬(ZJ id=none/\U id≠none)):bsd ZJ U C id=C id:=by
 unfold bsd;split
 .rename_i h1 h2;exact absurd ⟨h1,by rw[h2];simp⟩ h
 .rfl
def nI{ZJ U C:af}{Zc Zc2:af}{nx nx2:Nat}{R2:Nat->Nat->Prop}(hm0:fO K 0 R Zc nx ZJ)(hm2:fO (λid=>match ZJ id with|none=>U id|some _=>K id) 0 R2 Zc2 nx2 C):
 ∃Z2,aT ZJ U Z2 C/\fO K 0 R2 Zc2 nx2 Z2:=by
 have hK:∀id,ZJ id=none->(match ZJ id with|none=>U id|some _=>K id)=U id:=λid h=>by rw[h]
 have hK':∀id o,ZJ id=some o->(match ZJ id with|none=>U id|some _=>K id)=K id:=λid o h=>by rw[h]
 have key:∀c a o,R2 c a->Zc2 c=some o->¬(ZJ a=none/\U a≠none):=by
  rintro c a o hc ho ⟨h1,h2⟩;cases hs:U a with
  |none=>exact h2 hs
  |some x=>have:=hm2.kfl a x c o (by rw[hK a h1];exact hs) hc ho;omega
 refine⟨bsd ZJ U C,⟨λid o h=>?_,λid o h1 h2=>⟨hm2.gN id o (by rw[hK id h1];exact h2),BW h1 h2⟩⟩,hm2.dom,?_,hm2.inj,hm2.fn,?_,?_⟩
 .by_cases hc:ZJ id=none/\U id≠none
  .cases hs:U id with
   |none=>exact absurd hs hc.2
   |some x=>rw[BW hc.1 hs]at h;cases h
  .rw[wZ hc]at h;exact h
 .intro c a o hc ho;obtain⟨rows,h1,h2⟩:=hm2.live c a o hc ho;exact⟨rows,by rw[wZ (key c a o hc ho)];exact h1,h2⟩
 .intro id o h;have h1:=hm0.gN id o h;rw[wZ (by rw[h1];simp)];exact hm2.gN id o (by rw[hK' id o h1];exact h)
 .intro a o c oc h1 h2 h3;exact hm2.kfl a o c oc (by rw[hK' a o (hm0.gN a o h1)];exact h1) h2 h3
def O7{run:Nat->bc->CS->Out}
 (ih:∀(K:af) (R:Nat->Nat->Prop) (c:bc) (cs:CS) (st:St) (k:List It) (Q:St->Prop),bT c=true->cB K 0 R cs st->uJ P n K 0 R k Q (run 0 c cs)->ab P n (.code c::k) st Q)
 {d gf:Nat}{ps:List Nat}{a b:bc}{caps:List V}{xs:List (List V)}(hit:Iter P gf caps xs)(ha:bT a=true)(hb:bT b=true)
 (hxs:(xs.all λx=>cj x&&Nat.beq x.length ps.length)=true){s0:Tr V}{Zt:Tr (Option Ob)}{YA:Nat}{st:St}(hs:cB K 0 R ⟨s0,Zt,YA⟩ st)(hg:st.s d=.fn gf caps)
 (H':uJ P n K 0 R k Q (Ep s0 ps (DT run a b) xs Zt YA)):ab P n (.code (.cA (.t d) ps a b)::k) st Q:=by
 generalize hT:Ep s0 ps (DT run a b) xs Zt YA=total at H';have Ze:∀x∈xs,cj x=true/\x.length=ps.length:=λx hx=>by
  have:=dX.1 hxs x hx;simp only[Ba]at this;exact⟨this.1,gu this.2⟩
 refine ab.cA (g:=.t d) hg hit (λx hx=>(Ze x hx).2) (match total with|.ex id _=>[id]|_=>[])
  (λpre Za=>∃Zc nx R',Le R R'/\fO K 0 R' (ZQ Zc) nx Za/\Ep s0 ps (DT run a b) (xs.drop pre.length) Zc nx=total)
  (λe _ Za=>∃YG R',Le R R'/\fO K 0 R' (ZQ YG.U) YG.YA Za/\YG.s=s0/\total=(match e with|some id=>.ex id YG|none=>.rt YG))
  ⟨Zt,YA,R,Le.refl R,hs.mem,hT⟩ ?_ ?_ ?_ ?_
 .rintro pre x post ZJ U hxs' ⟨Zc,nx,R',hle,hm,htot⟩ G';have hdrop:xs.drop pre.length=x::post:=by rw[hxs'];simp
  rw[hdrop]at htot;have YE:=(Ze x (by rw[hxs'];simp)).1;have hm':fO (λid=>match ZJ id with|none=>U id|some _=>K id) 0 R' (ZQ Zc) nx U:=by
   refine⟨hm.dom,hm.live.sup G',hm.inj,hm.fn,λid o h=>?_,λa o c oc h1 h2 h3=>?_⟩
   .have h:(match ZJ id with|none=>U id|some _=>K id)=some o:=h
    split at h
    .exact h
    .exact G' _ _ (hm.gN _ _ h)
   .have h1:(match ZJ a with|none=>U a|some _=>K a)=some o:=h1
    split at h1
    .rename_i hn;obtain⟨r,hr,_⟩:=hm.live c a oc h2 h3;rw[hn]at hr;cases hr
    .exact hm.kfl a o c oc h1 h2 h3
  have hS:cB (λid=>match ZJ id with|none=>U id|some _=>K id) 0 R' ⟨uC ps x s0,Zc,nx⟩ ⟨ld st.s ps x,U⟩:=
   ⟨yO ps x s0 st.s YE λi=>aq.mono hle _ _ (hs.slot i),hm'⟩
  have Yd:xs.drop (pre++[x]).length=post:=by rw[hxs'];simp
  refine ih _ R' a _ _ _ _ ha hS ?_;simp only[Ep,DT]at htot;generalize run 0 a ⟨uC ps x s0,Zc,nx⟩=oa at htot;cases oa with
  |nx cs1=>
   intro R1 st1 hle1 ZV;refine ab.stop ?_;refine ih _ R1 b cs1 st1 _ _ hb ZV ?_;simp only at htot;generalize run 0 b cs1=ob at htot;cases ob with
   |nx cs2=>
    intro R2 st2 hle2 hs2;refine ab.stop ?_;obtain⟨Z2,Zu,hm2⟩:=nI hm hs2.mem;exact⟨Z2,Zu,cs2.U,cs2.YA,R2,hle.trans (hle1.trans hle2),hm2,by rw[Yd];exact htot⟩
   |ex id cs2=>
    simp only at htot;subst htot;refine⟨_,by simp[exK,gg];rfl,λR2 st2 hle2 hs2=>?_⟩;refine ab.stop ?_;obtain⟨Z2,Zu,hm2⟩:=nI hm hs2.mem;exact⟨Z2,Zu,⟨s0,cs2.U,cs2.YA⟩,R2,hle.trans (hle1.trans hle2),hm2,rfl,rfl⟩
   |rt cs2=>
    simp only at htot;subst htot;intro R2 st2 hle2 hs2;obtain⟨Z2,Zu,hm2⟩:=nI hm hs2.mem;exact⟨Z2,Zu,⟨s0,cs2.U,cs2.YA⟩,R2,hle.trans (hle1.trans hle2),hm2,rfl,rfl⟩
   |bad=>
    simp only at htot;subst htot;exact H'.elim
  |ex id cs1=>simp only at htot;subst htot;exact H'.elim
  |rt cs1=>simp only at htot;subst htot;exact H'.elim
  |bad=>simp only at htot;subst htot;exact H'.elim
 .rintro Z' ⟨Zc,nx,R',hle,hm,htot⟩;rw[yq]at htot;simp only[Ep]at htot;subst htot;exact H' R' _ hle ⟨λi=>aq.mono hle _ _ (hs.slot i),hm⟩
 .rintro id O' pre Z'-⟨YG,R',hle,hm,h1,h2⟩;simp only at h2;subst h2;obtain⟨k',h3,h4⟩:=H';refine ab.exit h3 (h4 R' _ hle ⟨λi=>?_,hm⟩);show aq R' (fb (.P' []) i YG.s) _;rw[h1];exact aq.mono hle _ _ (hs.slot i)
 .rintro pre Z'-⟨YG,R',hle,hm,h1,h2⟩;simp only at h2;subst h2;refine ab.ret (H' R' _ hle ⟨λi=>?_,hm⟩);show aq R' (fb (.P' []) i YG.s) _;rw[h1];exact aq.mono hle _ _ (hs.slot i)
def Nz(P:Program)(T:Tb)(fuel:Nat):Prop:=∀(n:Nat) (K:af) (fl:Nat) (R:Nat->Nat->Prop) (c:bc) (cs:CS) (st:St) (k:List It) (Q:St->Prop),
 bT c=true->cB K fl R cs st->uJ P n K fl R k Q (dc T fuel fl c cs)->ab P n (.code c::k) st Q
def Bx{T:Tb}{fuel:Nat}(ih:Nz P T fuel){g:FuncId}{vf:Yh}(hk:bU P g=true/\l7 vf=true/\∃fn,P.funcs[g]?=some fn/\cfn P fn=some vf){args:List V}{Zc:Tr (Option Ob)}{YA fl:Nat}{r:Rs}
 (hlen:args.length<=vf.n)(hr:Nh vf.res (dc T fuel fl vf.code ⟨Tr.ofL args 0 .e,Zc,YA⟩)=some r){K:af}{R:Nat->Nat->Prop}{U:af}{args':List V}(hm:fO K fl R (ZQ Zc) YA U)(YN:aD R args args'):
 au P g args' U λv Z'=>∃R',Le R R'/\aq R' r.v v/\fO K fl R' (ZQ r.U) r.YA Z':=by
 obtain⟨Zj,M',fn,hf,hcf⟩:=hk;simp only[l7,Ba]at M';refine au.j4 hf hcf Zj (by rw[YN.length];exact hlen) ?_;have hs:cB K fl R ⟨Tr.ofL args 0 .e,Zc,YA⟩ ⟨fj args',U⟩:=by
  refine⟨λi=>?_,hm⟩;show aq R (fb (.P' []) i (Tr.ofL args 0 .e)) (args'.getD i (.P' []));rw[AN,vS];by_cases hi:i<args.length
  .rw[ar ⟨Nat.zero_le _,by omega⟩,Nat.sub_zero];obtain⟨u,h1,h2⟩:=YN.get (Zq6 hi);simp only[sU,h1,Zq6 hi,Option.getD_some];exact h2
  .rw[av (by omega)];have:args'[i]?=none:=ra (by rw[YN.length];omega);simp only[sU,this,Option.getD_none];simp[aq,aD]
 have Zn:∀YG,CN vf.res YG=some r->∀R' st,Le R R'->cB K fl R' YG st->Ret vf.res st λv Z'=>∃R',Le R R'/\aq R' r.v v/\fO K fl R' (ZQ r.U) r.YA Z':=by
  intro YG hq R' st hle Yk;unfold CN at hq;split at hq
  .rename_i v hv;simp only[aB]at hq;subst hq;obtain⟨v',g1,g2⟩:=B9 Yk M'.2 hv;exact⟨v',v',st.U,g1,aa.refl _,Wk.refl (aa.refl _) _,R',hle,g2,Yk.mem⟩
  .cases hq
 refine ih vf.n K fl R vf.code _ _ [] _ M'.1 hs ?_;generalize dc T fuel fl vf.code ⟨Tr.ofL args 0 .e,Zc,YA⟩=o at hr;cases o<;>simp only[Nh,reduceCtorEq]at hr
 .exact λR' st hle Yk=>ab.nil (Zn _ hr R' st hle Yk)
 .exact λR' st hle Yk=>Zn _ hr R' st hle Yk
def Jb{T:Tb}{fuel:Nat}(ih:Nz P T fuel){g:FuncId}{vf:Yh}(hk:bU P g=true/\l7 vf=true/\∃fn,P.funcs[g]?=some fn/\cfn P fn=some vf){args:List V}{v:V}
 (h:evZ (dc T fuel) vf args=some v)(ha:cj args=true):aJ P g args v:=by
 intro U;unfold evZ at h;rw[bO]at h;split at h
 .rename_i hlen;split at h
  .rename_i r hr;have hm:fO U 0 (λ_ _=>False) (ZQ .e) 0 U:=⟨λ_ _ h=>h.elim,λ_ _ _ h=>h.elim,λ_ _ _ _ _ h=>h.elim,λ_ _ _ h=>h.elim,aa.refl U,λ_ _ _ _ _ h=>h.elim⟩
   refine(Bx ih hk (oK hlen) hr hm (eS args ha)).zM ?_;rintro u Z' ⟨R',_,h1,h2⟩;refine⟨v,U,h2.gN,(vJ h2.live 40 r.v u v h h1).wk h2.gN ?_,rfl,rfl⟩;rintro a ⟨c,o,hc,ho⟩;cases hk:U a with
   |none=>rfl
   |some x=>have:=h2.kfl a x c o hk hc ho;omega
  .cases h
 .cases h
def DI{T:Tb}(hT:TOk P T){fuel:Nat}(ih:Nz P T fuel):kQ P (ji (dc T fuel) T.fn):=by
 intro g args Zc YA fl r hr K R U args' hm YN;unfold ji at hr;split at hr
 .cases hr
 .rename_i kd hkd;have M':=hT.fn g kd hkd;split at hr
  .rename_i vf;rw[bO]at hr;split at hr
   .rename_i hlen;exact Bx ih M' (oK hlen) hr hm YN
   .cases hr
  .rename_i vf;exact zl (λas1 v h1 h2 _=>Jb ih M' h1 h2) hr hm YN
  .exact zl M' hr hm YN
def y9(T:Tb)(f fl:Nat)(c:bc)(cs:CS):dc T (f+1) fl c cs=match c with
 |.skip=>.nx cs
 |.reg draw l=>jh draw (ji (dc T f) T.fn) fl l cs
 |.seq a b=>yu (dc T f fl a cs) λYG=>dc T f fl b YG
 |.cond c a b=>onB (c.ev cs.sf) (dc T f fl a cs) (dc T f fl b cs)
 |.block id a=>Qt id (dc T f fl a cs)
 |.loop a=>yu (dc T f fl a cs) λYG=>dc T f fl (.loop a) YG
 |.exit id=>.ex id cs
 |.ret=>.rt cs
 |.cA g ps a b=>evR (dc T f) T.it fl g ps a b cs
 |.regA l Yo=>evA (ji (dc T f) T.fn) fl l Yo cs
 |.ny l e=>yu (jh true (ji (dc T f) T.fn) fl l cs) λYG=>jh false (ji (dc T f) T.fn) fl e YG
 |.bad=>.bad:=rfl
def AP{T:Tb}(hT:TOk P T):∀fuel,Nz P T fuel:=by
 intro fuel
 induction fuel using Nat.strongRecOn with
 |_ fuel ih=>
  intro n K fl R c cs st k Q M' hs H';cases fuel with
  |zero=>exact H'.elim
  |succ f=>
   have ihf:=ih f (by omega);have Zp:=DI hT ihf;rw[y9]at H';cases c with
   |skip=>exact ab.skip (H' R st (Le.refl R) hs)
   |reg draw l=>
    simp only[bT]at M';simp only[jh]at H';cases draw
    .simp only at H';rcases qt (call:=ji (dc T f) T.fn) (fl:=fl) 1000 l cs with⟨YG,he⟩|he
     .rw[he]at H';exact ab.region (wN Zp 1000 l R cs st he M' hs H')
     .rw[he]at H';exact H'.elim
    .simp only at H';rcases mW (call:=ji (dc T f) T.fn) (fl:=fl) 1000 l cs with⟨YG,he⟩|he
     .rw[he]at H';exact ab.F4 (AE Zp 1000 l R cs st he M' hs H')
     .rw[he]at H';exact H'.elim
   |seq a b=>
    simp only[bT,Ba]at M';refine ab.seq (ihf n K fl R a cs st _ Q M'.1 hs ?_);simp only[yu]at H';generalize dc T f fl a cs=o at H';cases o with
    |nx cs1=>exact λR1 st1 hle1 ZV=>ihf n K fl R1 b cs1 st1 k Q M'.2 ZV (H'.le hle1)
    |ex id cs1=>exact H'
    |rt cs1=>exact H'
    |bad=>exact H'
   |cond c a b=>
    simp only[bT,Ba]at M';have hv:=cd hs.slot M'.1;have H':uJ P n K fl R k Q (onB (c.ev cs.sf) (dc T f fl a cs) (dc T f fl b cs)):=H';unfold onB at H';split at H'
    .rename_i t ht;rw[ht,aq.iG]at hv;refine ab.cond hv (λe=>?_) (λe=>?_)
     .subst e;exact ihf n K fl R a cs st k Q M'.2.1 hs H'
     .subst e;exact ihf n K fl R b cs st k Q M'.2.2 hs H'
    .exact H'.elim
   |block id a=>
    simp only[bT]at M';refine ab.block (ihf n K fl R a cs st _ Q M' hs ?_);simp only[Qt]at H';generalize dc T f fl a cs=o at H';cases o with
    |nx cs1=>exact λR1 st1 hle1 ZV=>ab.inBlock (H' R1 st1 hle1 ZV)
    |ex j cs1=>
     simp only[sN]at H';by_cases hj:j=id
     .subst hj;rw[ar (by rw[Nat.beq_eq])]at H';exact⟨k,by simp[gg],H'⟩
     .rw[av (by rw[Nat.beq_eq];exact hj)]at H';obtain⟨k',h1,h2⟩:=H';exact⟨k',by simp[gg,hj,h1],h2⟩
    |rt cs1=>exact H'
    |bad=>exact H'
   |loop a=>
    have hok':=M';simp only[bT]at M';have hthen0:uJ P n K fl R k Q (dc T (f+1) fl (.loop a) cs):=H';generalize ho:dc T (f+1) fl (.loop a) cs=o at hthen0;refine ab.loop (λm st=>m<=f+1/\∃R1 cs1,Le R R1/\cB K fl R1 cs1 st/\dc T m fl (.loop a) cs1=o) (f+1) ⟨YY _,R,cs,Le.refl R,hs,ho⟩ ?_;rintro m st1 ⟨hm,R1,cs1,hle1,ZV,ho1⟩;cases m with
    |zero=>
     have:o=.bad:=ho1.symm;rw[this]at hthen0;exact hthen0.elim
    |succ m=>
     have ihm:=ih m (by omega);rw[y9]at ho1;refine ihm n K fl R1 a cs1 st1 _ Q M' ZV ?_;simp only[yu]at ho1;generalize dc T m fl a cs1=o1 at ho1;cases o1 with
     |nx cs2=>exact λR2 st2 hle2 hs2=>ab.stop ⟨m,by omega,by omega,R2,cs2,hle1.trans hle2,hs2,ho1⟩
     |ex id cs2=>
      have ho1:Out.ex id cs2=o:=ho1;rw[<-ho1]at hthen0;obtain⟨k',h1,h2⟩:=hthen0;exact⟨k',by simpa[gg]using h1,λR2 st2 hle2 hs2=>h2 R2 st2 (hle1.trans hle2) hs2⟩
     |rt cs2=>
      have ho1:Out.rt cs2=o:=ho1;rw[<-ho1]at hthen0;exact λR2 st2 hle2 hs2=>hthen0 R2 st2 (hle1.trans hle2) hs2
     |bad=>
      have ho1:Out.bad=o:=ho1;rw[<-ho1]at hthen0;exact hthen0.elim
   |exit id=>
    obtain⟨k',h1,h2⟩:=H';exact ab.exit h1 (h2 R st (Le.refl R) hs)
   |ret=>exact ab.ret (H' R st (Le.refl R) hs)
   |cA g ps a b=>
    simp only[bT,Ba]at M';have H':uJ P n K fl R k Q (evR (dc T f) T.it fl g ps a b cs):=H';unfold evR at H';rw[bO]at H';split at H'
    .rename_i hfl;have hfl:=gu hfl;subst hfl;split at H'
     .rename_i d _;split at H'
      .rename_i gf caps hd;split at H'
       .rename_i h hI;split at H'
        .rename_i Zl hcaps;split at H'
         .rename_i xs hxs;unfold UW at H';rw[bO]at H';split at H'
          .rename_i Ze;have YE:=oX (mc 40 cs.U) hcaps;have hit:=hT.it gf h hI Zl xs hxs YE;obtain⟨Z',g1,g2,g3⟩:=pF (sP (qI 40 cs.U) caps) cs.U st.U hs.mem;have hslot:=hs.slot d;rw[hd]at hslot;simp only[aq]at hslot;obtain⟨caps2,hd2,hcr⟩:=hslot;have hfz:FzL st.U (λa=>Z' a=none) caps2 Zl:=Bn hs.mem.live _ _ _ hcaps hcr g3;have hw:LX st ⟨aN st.s (some d) (.fn gf Zl),Z'⟩:=⟨g1,λi=>by
            show Wk st.U Z' (st.s i) (if i=d then .fn gf Zl else st.s i);split
            .rename_i e;subst e;rw[hd2];exact(Fz.fn gf _ _ hfz).wk g1 (λ_ h=>h)
            .exact Wk.refl g1 _⟩
           refine ab.weaken hw ?_;refine O7 (run:=dc T f) (λK R c cs st k Q=>ihf n K 0 R c cs st k Q) hit M'.1 M'.2 Ze (st:=⟨aN st.s (some d) (.fn gf Zl),Z'⟩) ⟨λi=>?_,g2⟩ (by simp[aN]) H';show aq R (fb (.P' []) i (jW (.P' []) (.fn gf Zl) d cs.s)) (if i=d then .fn gf Zl else st.s i);rw[kK];split
           .exact cT _ (by simpa[V.cu]using YE)
           .exact hs.slot i
          .exact H'.elim
         .exact H'.elim
        .exact H'.elim
       .exact H'.elim
      .exact H'.elim
     .exact H'.elim
    .exact H'.elim
   |regA l Yo=>
    simp only[bT]at M';have H':uJ P n K fl R k Q (evA (ji (dc T f) T.fn) fl l Yo cs):=H';unfold evA at H';cases hp:FO l Yo with
    |none=>rw[hp]at H';exact H'.elim
    |some t=>
     rw[hp]at H';have H':uJ P n K fl R k Q (evT (ji (dc T f) T.fn) fl l 8 [] t cs):=H';rcases Sn (call:=ji (dc T f) T.fn) (fl:=fl) (l:=l) 8 [] t cs with⟨YG,hx⟩|hx
     .rw[hx]at H';exact ab.D3 hT.mix 8 t (JV hp) (Fa Zp M' 8 [] t R cs st hx hs H')
     .rw[hx]at H';exact H'.elim
   |ny l e=>
    simp only[bT,Ba]at M';have H':uJ P n K fl R k Q (yu (jh true (ji (dc T f) T.fn) fl l cs) λYG=>jh false (ji (dc T f) T.fn) fl e YG):=H';simp only[jh]at H';rcases mW (call:=ji (dc T f) T.fn) (fl:=fl) 1000 l cs with⟨YG,he⟩|he
    .rw[he]at H';simp only[yu]at H';rcases qt (call:=ji (dc T f) T.fn) (fl:=fl) 1000 e YG with⟨cs2,he2⟩|he2
     .rw[he2]at H';refine ab.ny (AE Zp 1000 l R cs st he M'.1 hs λR' Zd hle Yk=>?_);exact wN Zp 1000 e R' YG Zd he2 M'.2 Yk (H'.le hle)
     .rw[he2]at H';exact H'.elim
    .rw[he]at H';exact H'.elim
   |bad=>exact H'.elim
def tbF(P:Program)(z:FuncId->Bool)(o:FuncId->Option (List V->Option V)):FuncId->Option Fk:=λf=>match o f with
 |some g=>some (.orc g)
 |none=>match P.funcs[f]? with
  |some fn=>(match cfn P fn with
   |some vf=>@Bool.casesOn (λ_=>Option Fk) (bU P f&&l7 vf) none (some (@Bool.casesOn (λ_=>Fk) (z f) (.fz vf) (.code vf)))
   |none=>none)
  |none=>none
def RD{P:Program}(hm:P.follows .mixedOrders=true)(z:FuncId->Bool){o:FuncId->Option (List V->Option V)}{it:FuncId->Option (List V->Option (List (List V)))}
 (ho:∀f g,o f=some g->∀as1 v,g as1=some v->cj as1=true->v.cu=true->aJ P f as1 v)(hi:∀g h,it g=some h->∀caps xs,h caps=some xs->cj caps=true->Iter P g caps xs):
 TOk P ⟨tbF P z o,it⟩:=by
 refine⟨hm,λg k h=>?_,hi⟩;simp only[tbF]at h;split at h
 .rename_i og hog;simp only[aB]at h;subst h;exact ho g og hog
 .split at h
  .rename_i fn hfn;split at h
   .rename_i vf hvf;rw[sN]at h;split at h
    .rename_i hc;simp only[Ba]at hc;simp only[aB]at h;subst h;have hk:bU P g=true/\l7 vf=true/\∃fn,P.funcs[g]?=some fn/\cfn P fn=some vf:=⟨hc.1,hc.2,fn,hfn,hvf⟩
     cases z g<;>exact hk
    .cases h
   .cases h
  .cases h
def ev3(P:Program)(T:Tb)(fuel:Nat)(f:FuncId)(args:List V):Option V:=match P.funcs[f]? with
 |some fn=>(match cfn P fn with
  |some vf=>@Bool.casesOn (λ_=>Option V) (bU P f&&l7 vf) none (evZ (dc T fuel) vf args)
  |none=>none)
 |none=>none
def OY(P:Program)(T:Tb)(fuel:Nat)(f:FuncId)(args:List V)(v:V):Bool:=match ev3 P T fuel f args with
 |some u=>rY 40 u v
 |none=>false
def aJ.Ti{P:Program}{T:Tb}(hT:TOk P T)(fuel:Nat){f:FuncId}{args:List V}{v:V}(ha:cj args=true)(h:OY P T fuel f args v=true):aJ P f args v:=by
 unfold OY at h;split at h
 .rename_i u hu;rw[<-mM 40 u v h];unfold ev3 at hu;split at hu
  .rename_i fn hfn;split at hu
   .rename_i vf hvf;rw[bO]at hu;split at hu
    .rename_i hc;simp only[Ba]at hc;exact Jb (AP hT fuel) ⟨hc.1,hc.2,fn,hfn,hvf⟩ hu ha
    .cases hu
   .cases hu
  .cases hu
 .cases h
structure YCf where
 cs:CS
 i:Nat
 stop:Bool
 log:List (List V)
inductive gk where
 |nx (c:YCf)
 |ex (id:Nat) (c:YCf)
 |rt (c:YCf)
def uD{α β:Type}(f:α->Option (List β)):List α->Option (List β)
 |[]=>some []
 |a::l=>match f a with
  |some x=>(match uD f l with
   |some y=>some (x++y)
   |none=>none)
  |none=>none
def nxY(k:YCf->Option (List gk))(o:gk):Option (List gk):=match o with
 |.nx c=>k c
 |.ex id c=>some [.ex id c]
 |.rt c=>some [.rt c]
def y7(o:Option (List gk))(k:YCf->Option (List gk)):Option (List gk):=match o with
 |some l=>uD (nxY k) l
 |none=>none
def Oh(id:Nat)(o:gk):gk:=match o with
 |.nx c=>.nx c
 |.ex j c=>@Bool.casesOn (λ_=>gk) (Nat.beq j id) (.ex j c) (.nx c)
 |.rt c=>.rt c
def iz(c:YCf)(o:Out):Option (List gk):=match o with
 |.nx cs=>some [.nx ⟨cs,c.i,c.stop,c.log⟩]
 |.ex id cs=>some [.ex id ⟨cs,c.i,c.stop,c.log⟩]
 |.rt cs=>some [.rt ⟨cs,c.i,c.stop,c.log⟩]
 |.bad=>none
def nxs:List YCf->List gk
 |[]=>[]
 |c::l=>.nx c::nxs l
def La(xs:Option (List (List V)))(dst:Option Nat)(args:List V)(c:YCf):Option (List YCf):=match xs with
 |none=>@Bool.casesOn (λ_=>Option (List YCf)) (cj args) none (some [⟨c.cs.put dst (.bool true),Nat.succ c.i,false,args::c.log⟩])
 |some l=>match l[c.i]? with
  |some x=>@Bool.casesOn (λ_=>Option (List YCf)) (cj args&&(iD (rY 40) args x&&!c.stop)) none
     (some [⟨c.cs.put dst (.bool true),Nat.succ c.i,false,[]⟩,⟨c.cs.put dst (.bool false),Nat.succ c.i,true,[]⟩])
  |none=>none
def Mx(res:List VR)(dst:Option Nat)(c:YCf)(o:gk):Option (List YCf):=match o with
 |.ex _ _=>none
 |.nx c1=>(match CN res c1.cs with
  |some r=>some [⟨CS.put ⟨c.cs.s,r.U,r.YA⟩ dst r.v,c1.i,c1.stop,c1.log⟩]
  |none=>none)
 |.rt c1=>(match CN res c1.cs with
  |some r=>some [⟨CS.put ⟨c.cs.s,r.U,r.YA⟩ dst r.v,c1.i,c1.stop,c1.log⟩]
  |none=>none)
def OC(run:bc->YCf->Option (List gk))(vf:Yh)(dst:Option Nat)(args:List V)(c:YCf):Option (List YCf):=
 @Bool.casesOn (λ_=>Option (List YCf)) (Nat.ble args.length vf.n) none (match run vf.code ⟨⟨Tr.ofL args 0 .e,c.cs.U,c.cs.YA⟩,c.i,c.stop,c.log⟩with
  |some outs=>uD (Mx vf.res dst c) outs
  |none=>none)
def Je(call:gz)(i:az)(c:YCf):Option (List YCf):=match(nM i).f call 0 c.cs with
 |some YG=>some [⟨YG,c.i,c.stop,c.log⟩]
 |none=>none
def Ea(T:Tb)(call:gz)(run:bc->YCf->Option (List gk))(xs:Option (List (List V)))(i:az)(c:YCf):Option (List YCf):=match i.op with
 |.call fx args=>(match aP c.cs.sf i.g with
  |some true=>(match fx.ev c.cs.sf with
   |.yl j=>@Bool.casesOn (λ_=>Option (List YCf)) (Nat.beq j 0) none (La xs i.dst (args.map (·.ev c.cs.sf)) c)
   |.fn f caps=>(match T.fn f with
    |some (.code vf)=>OC run vf i.dst (args.map (·.ev c.cs.sf)++caps) c
    |_=>Je call i c)
   |_=>Je call i c)
  |some false=>some [⟨c.cs.put i.dst (.P' []),c.i,c.stop,c.log⟩]
  |none=>none)
 |_=>Je call i c
def Ab(f:az->YCf->Option (List YCf)):List az->YCf->Option (List YCf)
 |[],c=>some [c]
 |i::l,c=>match f i c with
  |some cs=>uD (Ab f l) cs
  |none=>none
def HC(o:Option (List YCf)):Option (List gk):=match o with
 |some l=>some (nxs l)
 |none=>none
def onY(v:V)(a b:Option (List gk)):Option (List gk):=match v with
 |.bool t=>@Bool.casesOn (λ_=>Option (List gk)) t b a
 |_=>none
def Pc(id:Nat)(o:Option (List gk)):Option (List gk):=match o with
 |some l=>some (l.map (Oh id))
 |none=>none
def evY(T:Tb)(xs:Option (List (List V)))(fuel:Nat):bc->YCf->Option (List gk):=
 @Nat.rec (λ_=>bc->YCf->Option (List gk)) (λ_ _=>none)
  (λf ih c y=>match c with
    |.skip=>some [.nx y]
    |.reg draw l=>@Bool.casesOn (λ_=>Option (List gk)) draw (HC (Ab (Ea T (ji (dc T f) T.fn) ih xs) l y)) (iz y (dc T (f+1) 0 (.reg true l) y.cs))
    |.seq a b=>y7 (ih a y) (ih b)
    |.cond x a b=>onY (x.ev y.cs.sf) (ih a y) (ih b y)
    |.block id a=>Pc id (ih a y)
    |.loop a=>y7 (ih a y) (ih (.loop a))
    |.exit id=>some [.ex id y]
    |.ret=>some [.rt y]
    |.cA g ps a b=>iz y (dc T (f+1) 0 (.cA g ps a b) y.cs)
    |.regA l Yo=>iz y (dc T (f+1) 0 (.regA l Yo) y.cs)
    |.ny l e=>(match jh true (ji (dc T f) T.fn) 0 l y.cs with
     |.nx YG=>HC (Ab (Ea T (ji (dc T f) T.fn) ih xs) e ⟨YG,y.i,y.stop,y.log⟩)
     |_=>none)
    |.bad=>none) fuel
def mB{α β:Type}{f:α->Option (List β)}:∀{l:List α} {r:List β},uD f l=some r->∀a∈l,∃x,f a=some x/\∀b∈x,b∈r
 |[],_,_,a,ha=>by simp at ha
 |a::l,r,h,a',ha=>by
  simp only[uD]at h;split at h
  .rename_i x hx;split at h
   .rename_i y hy;simp only[aB]at h;subst h;rcases cp.1 ha with rfl|ha
    .exact⟨x,hx,λb hb=>List.mem_append_left _ hb⟩
    .obtain⟨z,h1,h2⟩:=mB hy a' ha;exact⟨z,h1,λb hb=>List.mem_append_right _ (h2 b hb)⟩
   .cases h
  .cases h
def Gl:∀{l:List YCf} {c:YCf},c∈l->gk.nx c∈nxs l
 |a::l,c,h=>by
  rcases cp.1 h with rfl|h
  .simp[nxs]
  .simp[nxs,Gl h]
variable {P:Program} {n:Nat}
section
variable {Yv:Nat} {J Jx:List (List V)->af->Prop} {xs:List (List V)}
def YI(J Jx:List (List V)->af->Prop)(xs:List (List V))(c:YCf)(ZJ:af):Prop:=(c.stop=false->J (xs.take c.i) ZJ)/\(c.stop=true->∃pre,pre <+: xs/\Jx pre ZJ)
def YR(Yv:Nat)(J Jx:List (List V)->af->Prop)(xs:List (List V))(R:Nat->Nat->Prop)(c:YCf)(st:St):Prop:=R 0 Yv/\∃ZJ,YI J Jx xs c ZJ/\cB ZJ 0 R c.cs st
def CM(P:Program)(Yv:Nat)(J Jx:List (List V)->af->Prop)(xs:List (List V))(n:Nat)(R:Nat->Nat->Prop)(k:List It)(Q:St->Prop):gk->Prop
 |.nx c=>∀R' st,Le R R'->YR Yv J Jx xs R' c st->ab P n k st Q
 |.ex id c=>∃k',gg id k=some k'/\∀R' st,Le R R'->YR Yv J Jx xs R' c st->ab P n k' st Q
 |.rt c=>∀R' st,Le R R'->YR Yv J Jx xs R' c st->Q st
def CM.le{R R':Nat->Nat->Prop}{k:List It}{Q:St->Prop}{o:gk}(h:CM P Yv J Jx xs n R k Q o)(hle:Le R R'):CM P Yv J Jx xs n R' k Q o:=by
 cases o
 case ex=>obtain⟨k',h1,h2⟩:=h;exact⟨k',h1,λR'' st h3 h4=>h2 R'' st (hle.trans h3) h4⟩
 all_goals exact λR'' st h3 h4=>h R'' st (hle.trans h3) h4
def HY(P:Program)(Yv:Nat)(J Jx:List (List V)->af->Prop)(xs:List (List V)):Prop:=∀pre x post ZJ U,xs=pre++x::post->J pre ZJ->aa ZJ U->
 YC P Yv x U λb Z'=>∃Yx,aT ZJ U Yx Z'/\((b=true/\J (pre++[x]) Yx)\/(b=false/\Jx (pre++[x]) Yx))
def LY(P:Program)(Yv:Nat)(J Jx:List (List V)->af->Prop)(xs:List (List V))(run:bc->YCf->Option (List gk)):Prop:=∀(n:Nat) (R:Nat->Nat->Prop) (code:bc) (c:YCf) (st:St) (k:List It) (Q:St->Prop) (outs:List gk),
 bT code=true->YR Yv J Jx xs R c st->run code c=some outs->(∀o∈outs,CM P Yv J Jx xs n R k Q o)->ab P n (.code code::k) st Q
def Ci{run:bc->YCf->Option (List gk)}(ih:LY P Yv J Jx xs run){g:FuncId}{vf:Yh}(hk:bU P g=true/\l7 vf=true/\∃fn,P.funcs[g]?=some fn/\cfn P fn=some vf){args:List V}{c:YCf}{dst:Option Nat}{outs:List gk}{rs:List YCf}
 (hlen:args.length<=vf.n)(hr:run vf.code ⟨⟨Tr.ofL args 0 .e,c.cs.U,c.cs.YA⟩,c.i,c.stop,c.log⟩=some outs)(hrs:uD (Mx vf.res dst c) outs=some rs){R:Nat->Nat->Prop}{ZJ U:af}{args':List V}(h0:R 0 Yv)(hI:YI J Jx xs c ZJ)
 (hm:fO ZJ 0 R (ZQ c.cs.U) c.cs.YA U)(YN:aD R args args'):
 au P g args' U λv Z'=>∃(c1:YCf) (r:Rs) (R':Nat->Nat->Prop) (Yx:af),(⟨CS.put ⟨c.cs.s,r.U,r.YA⟩ dst r.v,c1.i,c1.stop,c1.log⟩:YCf)∈rs/\Le R R'/\aq R' r.v v/\YI J Jx xs c1 Yx/\fO Yx 0 R' (ZQ r.U) r.YA Z':=by
 obtain⟨Zj,M',fn,hf,hcf⟩:=hk;simp only[l7,Ba]at M';refine au.j4 hf hcf Zj (by rw[YN.length];exact hlen) ?_;have hs:cB ZJ 0 R ⟨Tr.ofL args 0 .e,c.cs.U,c.cs.YA⟩ ⟨fj args',U⟩:=by
  refine⟨λi=>?_,hm⟩;show aq R (fb (.P' []) i (Tr.ofL args 0 .e)) (args'.getD i (.P' []));rw[AN,vS];by_cases hi:i<args.length
  .rw[ar ⟨Nat.zero_le _,by omega⟩,Nat.sub_zero];obtain⟨u,h1,h2⟩:=YN.get (Zq6 hi);simp only[sU,h1,Zq6 hi,Option.getD_some];exact h2
  .rw[av (by omega)];have:args'[i]?=none:=ra (by rw[YN.length];omega);simp only[sU,this,Option.getD_none];simp[aq,aD]
 have Zn:∀c1,(∃x,(match CN vf.res c1.cs with|some r=>some [(⟨CS.put ⟨c.cs.s,r.U,r.YA⟩ dst r.v,c1.i,c1.stop,c1.log⟩:YCf)]|none=>none)=some x/\∀b∈x,b∈rs)->∀R' st,Le R R'->YR Yv J Jx xs R' c1 st->
  Ret vf.res st λv Z'=>∃(c1:YCf) (r:Rs) (R':Nat->Nat->Prop) (Yx:af),(⟨CS.put ⟨c.cs.s,r.U,r.YA⟩ dst r.v,c1.i,c1.stop,c1.log⟩:YCf)∈rs/\Le R R'/\aq R' r.v v/\YI J Jx xs c1 Yx/\fO Yx 0 R' (ZQ r.U) r.YA Z':=by
  rintro c1 ⟨x,hx,hmem⟩ R' st hle ⟨_,Yx,hI',Yk⟩;split at hx
  .rename_i r hq;simp only[aB]at hx;subst hx;have hq0:=hq;unfold CN at hq;split at hq
   .rename_i v hv;simp only[aB]at hq;obtain⟨v',g1,g2⟩:=B9 Yk M'.2 hv;refine⟨v',v',st.U,g1,aa.refl _,Wk.refl (aa.refl _) _,c1,r,R',Yx,hmem _ (by simp),hle,?_,hI',?_⟩
    .rw[<-hq];exact g2
    .rw[<-hq];exact Yk.mem
   .cases hq
  .cases hx
 refine ih vf.n R vf.code ⟨⟨Tr.ofL args 0 .e,c.cs.U,c.cs.YA⟩,c.i,c.stop,c.log⟩ _ [] _ outs M'.1 ⟨h0,ZJ,hI,hs⟩ hr λo ho=>?_;have hb:=mB hrs o ho;cases o with
 |nx c1=>exact λR' st hle Yk=>ab.nil (Zn c1 hb R' st hle Yk)
 |ex id c1=>obtain⟨x,hx,_⟩:=hb;simp[Mx]at hx
 |rt c1=>exact λR' st hle Yk=>Zn c1 hb R' st hle Yk
def Bm{R:Nat->Nat->Prop}{s s':Nat->V}(h:∀i,aq R (s i) (s' i)){g:Option (VX×Bool)}(hg:(match g with|some (x,_)=>okX x|none=>true)=true){b:Bool}(hw:aP s g=some b):aP s' g=some b:=by
 unfold aP at hw|-;split at hw
 .exact hw
 .rename_i x t;have hv:=cd h (x:=x) hg;split at hw
  .rename_i c hc;rw[hc,aq.iG]at hv;rw[hv];exact hw
  .rename_i hc;rw[hc]at hv;simp only[aq,aD]at hv;obtain⟨_,hv,rfl⟩:=hv;rw[hv];exact hw
  .rename_i hc;rw[hc,aq.iB]at hv;rw[hv];exact hw
  .cases hw
def J5(hy:HY P Yv J Jx xs){T:Tb}(hT:TOk P T){call:gz}(hc:kQ P call){run:bc->YCf->Option (List gk)}(ih:LY P Yv J Jx xs run){i:az}{l:List az}{R:Nat->Nat->Prop}{c:YCf}{st:St}{k:List It}{Q:St->Prop}{cs:List YCf}
 (M':dx i=true)(h:YR Yv J Jx xs R c st)(hr:Ea T call run (some xs) i c=some cs)
 (hk:∀c'∈cs,∀R' Zd,Le R R'->YR Yv J Jx xs R' c' Zd->ab P n (.ops l::k) Zd Q):ab P n (.ops (i::l)::k) st Q:=by
 obtain⟨h0,ZJ,hI,hs⟩:=h;have hplain:Je call i c=some cs->ab P n (.ops (i::l)::k) st Q:=by
  intro hr;unfold Je at hr;split at hr
  .rename_i YG hcs;simp only[aB]at hr;subst hr;exact Dl hc M' hs hcs λR' Zd hle Yk=>hk _ (ew.2 rfl) R' Zd hle ⟨hle _ _ h0,ZJ,hI,Yk⟩
  .cases hr
 unfold Ea at hr;split at hr
 .rename_i fx args Yf;have hok':=M';simp only[dx,Ba]at hok';have hokx:=hok'.1;rw[Yf]at hokx;simp only[jU,Yw.xs,iZ,Ba]at hokx;have hgok:(match i.g with|some (x,_)=>okX x|none=>true)=true:=by
   have:=hok'.2;revert this;cases i.g with
   |none=>simp
   |some x=>simp
  split at hr
  .rename_i hw;have hw':=Bm hs.slot hgok hw;split at hr
   .rename_i j hj;rw[bO]at hr;split at hr
    .rename_i hj0;have hj0:=gu hj0;subst hj0;have hfx:=cd hs.slot hokx.1.1;rw[hj]at hfx;simp only[aq]at hfx;obtain⟨ZL,hfx,hR⟩:=hfx;have:ZL=Yv:=hs.mem.fn _ _ _ hR h0;subst this;simp only[La]at hr;split at hr
     .rename_i x hx;rw[sN]at hr;split at hr
      .rename_i hcond;simp only[Ba,Bool.not_eq_true']at hcond;obtain⟨YE,heq,Yy⟩:=hcond;have heq:=uT (mM 40) heq;simp only[aB]at hr;subst hr;have YN:=fZ hs.slot hokx.1.2;have YN:=jt _ _ YE YN;have L':c.i<xs.length:=(iV.1 hx).1;have hxs:xs=xs.take c.i++x::xs.drop (c.i+1):=by
        have h1:xs[c.i]=x:=(iV.1 hx).2;rw[<-h1,<-ie L',uS]
       have Zg:xs.take c.i++[x]=xs.take (c.i+1):=by
        have h1:xs[c.i]=x:=(iV.1 hx).2;rw[I5,hx];rfl
       have hyc:=hy (xs.take c.i) x _ ZJ st.U hxs (hI.1 Yy) hs.mem.gN;refine ab.nu hw' Yf hfx (Post:=λb Z'=>∃Yx,aT ZJ st.U Yx Z'/\((b=true/\J (xs.take c.i++[x]) Yx)\/(b=false/\Jx (xs.take c.i++[x]) Yx))) ?_ ?_
       .rw[YN,heq];exact hyc
       .rintro b Z' ⟨Yx,hb,Zo⟩;have hm:fO Yx 0 R (ZQ c.cs.U) c.cs.YA Z':=by
         have hnone:∀a o c1,R c1 a->ZQ c.cs.U c1=some o->ZJ a=none:=λa o c1 hR ho=>by
          cases hj:ZJ a with
          |none=>rfl
          |some x=>have:=hs.mem.kfl a x c1 o hj hR ho;omega
         refine⟨hs.mem.dom,λc1 a o hR ho=>?_,hs.mem.inj,hs.mem.fn,hb.1,λa o c1 oc h1 h2 h3=>?_⟩
         .obtain⟨Yc,g1,g2⟩:=hs.mem.live c1 a o hR ho;exact⟨Yc,(hb.2 a _ (hnone a o c1 hR ho) g1).1,g2⟩
         .obtain⟨Yc,g1,g2⟩:=hs.mem.live c1 a oc h2 h3;have:=(hb.2 a _ (hnone a oc c1 h2 h3) g1).2;rw[this]at h1;cases h1
        have hS:cB Yx 0 R c.cs ⟨st.s,Z'⟩:=⟨hs.slot,hm⟩
        rcases Zo with⟨rfl,hJ⟩|⟨rfl,hJ⟩
        .refine hk ⟨c.cs.put i.dst (.bool true),Nat.succ c.i,false,[]⟩ (by simp) R _ (Le.refl R) ⟨h0,Yx,⟨λ_=>?_,λe=>by simp at e⟩,hS.put (by simp[aq])⟩;rw[Zg]at hJ;exact hJ
        .exact hk ⟨c.cs.put i.dst (.bool false),Nat.succ c.i,true,[]⟩ (by simp) R _ (Le.refl R) ⟨h0,Yx,⟨λe=>by simp at e,λ_=>⟨_,⟨xs.drop (c.i+1),by rw[lG];exact hxs.symm⟩,hJ⟩⟩,hS.put (by simp[aq])⟩
      .cases hr
     .cases hr
    .cases hr
   .rename_i f caps hf;split at hr
    .rename_i vf hvf;have hkf:=hT.fn f _ hvf;have hfx:=cd hs.slot hokx.1.1;rw[hf]at hfx;simp only[aq]at hfx;obtain⟨Zl,hf',hcaps⟩:=hfx;unfold OC at hr;rw[bO]at hr;split at hr
     .rename_i hlen;split at hr
      .rename_i outs houts;refine ab.call hw' Yf hf' (Ci ih hkf (oK hlen) houts hr h0 hI hs.mem ((fZ hs.slot hokx.1.2).append hcaps)) ?_;rintro v Z' ⟨c1,r,R',Yx,hmem,hle,hv,hI',hm'⟩;have hS:cB Yx 0 R' ⟨c.cs.s,r.U,r.YA⟩ ⟨st.s,Z'⟩:=⟨λj=>aq.mono hle _ _ (hs.slot j),hm'⟩
       exact hk _ hmem R' _ hle ⟨hle _ _ h0,Yx,hI',hS.put hv⟩
      .cases hr
     .cases hr
    .exact hplain hr
   .exact hplain hr
  .rename_i hw;have hw':=Bm hs.slot hgok hw;simp only[aB]at hr;subst hr;exact ab.ph hw' (hk _ (ew.2 rfl) R _ (Le.refl R) ⟨h0,ZJ,hI,hs.put aq.AH⟩)
  .cases hr
 .exact hplain hr
def Dv{f:az->YCf->Option (List YCf)}{k:List It}{Q:St->Prop}
 (hins:∀(i:az) (l:List az) (R:Nat->Nat->Prop) (c:YCf) (st:St) (cs:List YCf),dx i=true->YR Yv J Jx xs R c st->f i c=some cs->
   (∀c'∈cs,∀R' Zd,Le R R'->YR Yv J Jx xs R' c' Zd->ab P n (.ops l::k) Zd Q)->ab P n (.ops (i::l)::k) st Q):∀(l:List az) (R:Nat->Nat->Prop) (c:YCf) (st:St) (outs:List YCf),
   l.all dx=true->YR Yv J Jx xs R c st->Ab f l c=some outs->(∀c'∈outs,∀R' Zd,Le R R'->YR Yv J Jx xs R' c' Zd->ab P n k Zd Q)->ab P n (.ops l::k) st Q
 |[],R,c,st,outs,_,h,hr,hk=>by
  simp only[Ab,aB]at hr;subst hr;exact ab.An (hk c (by simp) R st (Le.refl R) h)
 |i::l,R,c,st,outs,M',h,hr,hk=>by
  simp only[iZ,Ba]at M';simp only[Ab]at hr;split at hr
  .rename_i cs hcs;refine hins i l R c st cs M'.1 h hcs λc' hc' R' Zd hle h'=>?_;obtain⟨x,h1,h2⟩:=mB hr c' hc';exact Dv hins l R' c' Zd x M'.2 h' h1 λc'' hc'' R'' st'' hle' h''=>hk c'' (h2 _ hc'') R'' st'' (hle.trans hle') h''
  .cases hr
def BG(T:Tb)(xs:Option (List (List V)))(f:Nat)(c:bc)(y:YCf):evY T xs (f+1) c y=match c with
 |.skip=>some [.nx y]
 |.reg draw l=>@Bool.casesOn (λ_=>Option (List gk)) draw (HC (Ab (Ea T (ji (dc T f) T.fn) (evY T xs f) xs) l y)) (iz y (dc T (f+1) 0 (.reg true l) y.cs))
 |.seq a b=>y7 (evY T xs f a y) (evY T xs f b)
 |.cond x a b=>onY (x.ev y.cs.sf) (evY T xs f a y) (evY T xs f b y)
 |.block id a=>Pc id (evY T xs f a y)
 |.loop a=>y7 (evY T xs f a y) (evY T xs f (.loop a))
 |.exit id=>some [.ex id y]
 |.ret=>some [.rt y]
 |.cA g ps a b=>iz y (dc T (f+1) 0 (.cA g ps a b) y.cs)
 |.regA l Yo=>iz y (dc T (f+1) 0 (.regA l Yo) y.cs)
 |.ny l e=>(match jh true (ji (dc T f) T.fn) 0 l y.cs with
  |.nx YG=>HC (Ab (Ea T (ji (dc T f) T.fn) (evY T xs f) xs) e ⟨YG,y.i,y.stop,y.log⟩)
  |_=>none)
 |.bad=>none:=rfl
def SG(hy:HY P Yv J Jx xs){T:Tb}(hT:TOk P T):∀fuel,LY P Yv J Jx xs (evY T (some xs) fuel):=by
 intro fuel
 induction fuel using Nat.strongRecOn with
 |_ fuel ih=>
  intro n R code c st k Q outs M' h hr H';cases fuel with
  |zero=>cases hr
  |succ f=>
   have ihf:=ih f (by omega);have Zp:=DI hT (AP hT f);have hplain:iz c (dc T (f+1) 0 code c.cs)=some outs->ab P n (.code code::k) st Q:=by
    intro hr;obtain⟨h0,ZJ,hI,hs⟩:=h;refine AP hT (f+1) n ZJ 0 R code c.cs st k Q M' hs ?_;generalize dc T (f+1) 0 code c.cs=o at hr;cases o with
    |nx YG=>
     simp only[iz,aB]at hr;subst hr;have h1:=H' _ (ew.2 rfl);exact λR' Zd hle Yk=>h1 R' Zd hle ⟨hle _ _ h0,ZJ,hI,Yk⟩
    |ex id YG=>
     simp only[iz,aB]at hr;subst hr;obtain⟨k',h1,h2⟩:=H' _ (ew.2 rfl);exact⟨k',h1,λR' Zd hle Yk=>h2 R' Zd hle ⟨hle _ _ h0,ZJ,hI,Yk⟩⟩
    |rt YG=>
     simp only[iz,aB]at hr;subst hr;have h1:=H' _ (ew.2 rfl);exact λR' Zd hle Yk=>h1 R' Zd hle ⟨hle _ _ h0,ZJ,hI,Yk⟩
    |bad=>simp[iz]at hr
   have hops:∀(l:List az) (R:Nat->Nat->Prop) (c:YCf) (st:St),l.all dx=true->YR Yv J Jx xs R c st->HC (Ab (Ea T (ji (dc T f) T.fn) (evY T (some xs) f) (some xs)) l c)=some outs->
    (∀o∈outs,CM P Yv J Jx xs n R k Q o)->ab P n (.ops l::k) st Q:=by
    intro l R c st hl h hr H';unfold HC at hr;split at hr
    .rename_i cs hcs;simp only[aB]at hr;subst hr;refine Dv (λi l R c st cs h1 h2 h3 h4=>J5 hy hT Zp ihf h1 h2 h3 h4) l R c st cs hl h hcs λc' hc'=>?_;exact H' _ (Gl hc')
    .cases hr
   rw[BG]at hr;cases code with
   |skip=>
    simp only[aB]at hr;subst hr;have h1:=H' _ (ew.2 rfl);exact ab.skip (h1 R st (Le.refl R) h)
   |reg draw l=>
    cases draw
    .simp only[bT]at M';exact ab.region (hops l R c st M' h hr H')
    .exact hplain hr
   |seq a b=>
    simp only[bT,Ba]at M';simp only[y7]at hr;split at hr
    .rename_i o1 ho1;refine ab.seq (ihf n R a c st _ Q o1 M'.1 h ho1 λo ho=>?_);obtain⟨x,h1,h2⟩:=mB hr o ho;cases o with
     |nx c1=>exact λR1 st1 hle1 ZV=>ihf n R1 b c1 st1 k Q x M'.2 ZV h1 λo ho=>(H' o (h2 o ho)).le hle1
     |ex id c1=>
      simp only[nxY,aB]at h1;subst h1;exact H' _ (h2 _ (ew.2 rfl))
     |rt c1=>
      simp only[nxY,aB]at h1;subst h1;exact H' _ (h2 _ (ew.2 rfl))
    .cases hr
   |cond x a b=>
    simp only[bT,Ba]at M';obtain⟨h0,ZJ,hI,hs⟩:=h;have hv:=cd hs.slot M'.1;have hr:onY (x.ev c.cs.sf) (evY T (some xs) f a c) (evY T (some xs) f b c)=some outs:=hr;unfold onY at hr;split at hr
    .rename_i t ht;rw[ht,aq.iG]at hv;refine ab.cond hv (λe=>?_) (λe=>?_)
     .subst e;exact ihf n R a c st k Q outs M'.2.1 ⟨h0,ZJ,hI,hs⟩ hr H'
     .subst e;exact ihf n R b c st k Q outs M'.2.2 ⟨h0,ZJ,hI,hs⟩ hr H'
    .cases hr
   |block id a=>
    simp only[bT]at M';simp only[Pc]at hr;split at hr
    .rename_i o1 ho1;simp only[aB]at hr;subst hr;refine ab.block (ihf n R a c st _ Q o1 M' h ho1 λo ho=>?_);have h1:=H' _ (gn.2 ⟨o,ho,rfl⟩);cases o with
     |nx c1=>exact λR1 st1 hle1 ZV=>ab.inBlock (h1 R1 st1 hle1 ZV)
     |ex j c1=>
      simp only[Oh,bO]at h1;by_cases hj:j=id
      .subst hj;rw[ar (by rw[Nat.beq_eq])]at h1;exact⟨k,by simp[gg],h1⟩
      .rw[av (by rw[Nat.beq_eq];exact hj)]at h1;obtain⟨k',h2,h3⟩:=h1;exact⟨k',by simp[gg,hj,h2],h3⟩
     |rt c1=>exact h1
    .cases hr
   |loop a=>
    have hok':=M';simp only[bT]at M';have hr0:evY T (some xs) (f+1) (.loop a) c=some outs:=hr;refine ab.loop (λm st=>m<=f+1/\∃R1 c1 o1,Le R R1/\YR Yv J Jx xs R1 c1 st/\evY T (some xs) m (.loop a) c1=some o1/\∀o∈o1,o∈outs) (f+1) ⟨YY _,R,c,outs,Le.refl R,h,hr0,λ_ h=>h⟩ ?_;rintro m st1 ⟨hm,R1,c1,o1,hle1,ZV,ho1,G'⟩;cases m with
    |zero=>cases ho1
    |succ m=>
     have ihm:=ih m (by omega);rw[BG]at ho1;simp only[y7]at ho1;split at ho1
     .rename_i o2 ho2;refine ihm n R1 a c1 st1 _ Q o2 M' ZV ho2 λo ho=>?_;obtain⟨x,h1,h2⟩:=mB ho1 o ho;cases o with
      |nx c2=>exact λR2 st2 hle2 hs2=>ab.stop ⟨m,by omega,by omega,R2,c2,x,hle1.trans hle2,hs2,h1,λo ho=>G' o (h2 o ho)⟩
      |ex id c2=>
       simp only[nxY,aB]at h1;subst h1;obtain⟨k',h3,h4⟩:=H' _ (G' _ (h2 _ (ew.2 rfl)));exact⟨k',by simpa[gg]using h3,λR2 st2 hle2 hs2=>h4 R2 st2 (hle1.trans hle2) hs2⟩
      |rt c2=>
       simp only[nxY,aB]at h1;subst h1;exact(H' _ (G' _ (h2 _ (ew.2 rfl)))).le hle1
     .cases ho1
   |exit id=>
    simp only[aB]at hr;subst hr;obtain⟨k',h1,h2⟩:=H' _ (ew.2 rfl);exact ab.exit h1 (h2 R st (Le.refl R) h)
   |ret=>
    simp only[aB]at hr;subst hr;have h1:=H' _ (ew.2 rfl);exact ab.ret (h1 R st (Le.refl R) h)
   |cA g ps a b=>exact hplain hr
   |regA l Yo=>exact hplain hr
   |ny l e=>
    simp only[bT,Ba]at M';obtain⟨h0,ZJ,hI,hs⟩:=h;simp only[jh]at hr;rcases mW (call:=ji (dc T f) T.fn) (fl:=0) 1000 l c.cs with⟨YG,he⟩|he
    .rw[he]at hr;refine ab.ny (AE Zp 1000 l R c.cs st he M'.1 hs λR' Zd hle Yk=>?_);exact hops e R' ⟨YG,c.i,c.stop,c.log⟩ Zd M'.2 ⟨hle _ _ h0,ZJ,hI,Yk⟩ hr λo ho=>(H' o ho).le hle
    .rw[he]at hr;cases hr
   |bad=>cases hr
end
def O6(P:Program)(f:FuncId):Option Yh:=match P.funcs[f]? with
 |some fn=>(match cfn P fn with
  |some vf=>@Bool.casesOn (λ_=>Option Yh) (bU P f&&l7 vf) none (some vf)
  |none=>none)
 |none=>none
def ND{f:FuncId}{vf:Yh}(h:O6 P f=some vf):bU P f=true/\l7 vf=true/\∃fn,P.funcs[f]?=some fn/\cfn P fn=some vf:=by
 unfold O6 at h;split at h
 .rename_i fn hfn;split at h
  .rename_i vf' hvf;rw[bO]at h;split at h
   .rename_i hc;simp only[Ba]at hc;simp only[aB]at h;subst h;exact⟨hc.1,hc.2,fn,hfn,hvf⟩
   .cases h
  .cases h
 .cases h
def WD:List gk->Option (List (List V))
 |[.nx c]=>some c.log.reverse
 |[.rt c]=>some c.log.reverse
 |_=>none
def UJ(n:Nat)(c:YCf):Bool:=@Bool.casesOn (λ_=>Bool) c.stop (Nat.beq c.i n) true
def c0Y(caps:List V):YCf:=⟨⟨Tr.ofL (.yl 0::caps) 0 .e,.e,1⟩,0,false,[]⟩
def itY(T:Tb)(fuel:Nat)(vf:Yh)(caps:List V):Option (List (List V)):=@Bool.casesOn (λ_=>Option (List (List V))) (Nat.ble (Nat.succ caps.length) vf.n) none
 (match evY T none fuel vf.code (c0Y caps)with
   |some o1=>(match WD o1 with
    |some xs=>(match evY T (some xs) fuel vf.code (c0Y caps)with
     |some o2=>(match uD (Mx vf.res none (c0Y caps)) o2 with
      |some rs=>@Bool.casesOn (λ_=>Option (List (List V))) (rs.all (UJ xs.length)) none (some xs)
      |none=>none)
     |none=>none)
    |none=>none)
   |none=>none)
def PJ{T:Tb}(hT:TOk P T){fuel:Nat}{g:FuncId}{vf:Yh}(hk:bU P g=true/\l7 vf=true/\∃fn,P.funcs[g]?=some fn/\cfn P fn=some vf){caps:List V}{xs:List (List V)}(h:itY T fuel vf caps=some xs)(hn:cj caps=true):Iter P g caps xs:=by
 unfold itY at h;rw[bO]at h;split at h
 .rename_i hlen;split at h
  .split at h
   .split at h
    .rename_i o2 ho2;split at h
     .rename_i rs hrs;rw[bO]at h;split at h
      .rename_i Zn;simp only[aB]at h;subst h;refine⟨hk.1,λYv J Jx Z0 hy hJ=>?_⟩;have hm:fO Z0 0 (λa b=>a=0/\b=Yv) (ZQ .e) 1 Z0:=⟨λ_ _ h=>by omega,λc a o _ h=>by simp[ZQ,vS]at h,λc c' a o o' _ _ h=>by simp[ZQ,vS]at h,λc a a' h1 h2=>h1.2.trans h2.2.symm,aa.refl Z0,λa o c oc _ _ h=>by simp[ZQ,vS]at h⟩
       refine((Ci (c:=c0Y caps) (args:=.yl 0::caps) (args':=.yl Yv::caps) (ZJ:=Z0) (SG hy hT fuel) hk (oK hlen) ho2 hrs ⟨rfl,rfl⟩ ⟨λ_=>by simpa[c0Y]using hJ,λe=>by simp[c0Y]at e⟩ hm ?_).drop ?_).2
       .exact aD.bu.2 ⟨_,_,rfl,by simp only[aq];exact⟨Yv,rfl,trivial,rfl⟩,eS caps hn⟩
       .rintro r Z' ⟨c1,r',R',Yx,hmem,-,-,hI,hm'⟩;refine⟨Yx,hm'.gN,?_⟩;have hf:=dX.1 Zn _ hmem;simp only[UJ,bO]at hf;cases Yy:c1.stop with
        |true=>exact .inr (hI.2 Yy)
        |false=>
         simp only[Yy,eR,if_false,Nat.beq_eq]at hf;have:=hI.1 Yy;rw[hf,ia]at this;exact .inl this
      .cases h
     .cases h
    .cases h
   .cases h
  .cases h
 .cases h
def upT(P:Program)(fuel:Nat)(T:Tb):Tb:=⟨T.fn,λg=>match O6 P g with
 |some vf=>some (itY T fuel vf)
 |none=>none⟩
def E3{T:Tb}(hT:TOk P T)(fuel:Nat):TOk P (upT P fuel T):=by
 refine⟨hT.mix,hT.fn,λg h hg caps xs hx hn=>?_⟩;simp only[upT]at hg;split at hg
 .rename_i vf hvf;simp only[aB]at hg;subst hg;exact PJ hT (ND hvf) hx hn
 .cases hg
variable {P:Program}
abbrev Ex:=FuncId×List V×V
def uQ(P:Program)(E:List Ex):Prop:=∀e∈E,aJ P e.1 e.2.1 e.2.2
def uQ.nil:uQ P []:=λ_ h=>by cases h
def uQ.cons{E:List Ex}{f:FuncId}{args:List V}{v:V}(hp:aJ P f args v)(h:uQ P E):uQ P ((f,args,v)::E):=λe he=>by
 rcases cp.1 he with rfl|he
 .exact hp
 .exact h e he
def FY(f:FuncId)(args:List V):List Ex->Option V
 |[]=>none
 |e::E=>@Bool.casesOn (λ_=>Option V) (Nat.beq e.1 f&&iD (rY 40) e.2.1 args) (FY f args E) (some e.2.2)
def Cl{f:FuncId}{args:List V}{v:V}:∀{E:List Ex},uQ P E->FY f args E=some v->aJ P f args v
 |[],_,h=>by cases h
 |e::E,hE,h=>by
  simp only[FY,bO]at h;split at h
  .rename_i hc;simp only[Ba]at hc;simp only[aB]at h;subst h;have:=hE e (by simp);rw[gu hc.1,uT (mM 40) hc.2]at this;exact this
  .exact Cl (λe he=>hE e (List.mem_cons_of_mem _ he)) h
def T0(f:FuncId):List Ex->Bool
 |[]=>false
 |e::E=>@Bool.casesOn (λ_=>Bool) (Nat.beq e.1 f) (T0 f E) true
def TG(E:List Ex)(f:FuncId):Option (List V->Option V):=@Bool.casesOn (λ_=>Option (List V->Option V)) (T0 f E) none (some λargs=>FY f args E)
def JX(f:FuncId):List FuncId->Bool
 |[]=>true
 |g::l=>@Bool.casesOn (λ_=>Bool) (Nat.beq g f) (JX f l) false
noncomputable def tE (P:Program) (z:List FuncId) (E:List Ex):Tb:=upT P 2000 (upT P 2000 (upT P 2000 ⟨tbF P (λf=>JX f z) (TG E),λ_=>none⟩))
def TJ(hm:P.follows .mixedOrders=true)(z:List FuncId){E:List Ex}(hE:uQ P E):TOk P (tE P z E):=
 E3 (E3 (E3 (RD hm _ (λf g h as1 v hv _ _=>by
  simp only[TG,bO]at h;split at h
  .simp only[aB]at h;subst h;exact Cl hE hv
  .cases h) (λ_ _ h=>by cases h)) 2000) 2000) 2000
def Fy(hm:P.follows .mixedOrders=true)(z:List FuncId){E:List Ex}(hE:uQ P E){f:FuncId}{args:List V}{v:V}(ha:cj args=true)(h:OY P (tE P z E) 3000 f args v=true):aJ P f args v:=
 aJ.Ti (TJ hm z hE) 3000 ha h
def aJ.fz{P:Program}{f:FuncId}{args:List V}{v u:V}(h:aJ P f args v)(hz:∀U,Fz U (λ_=>False) v u):aJ P f args u:=λU=>(h U).zM λr Z' e=>by
 obtain⟨rfl,rfl⟩:=e;exact⟨_,_,aa.refl _,Fz.wk (hz _) (aa.refl _) (λ_ h=>h.elim),rfl,rfl⟩
def fzC{U:af}{N:Nat->Prop}{v:V}{vs us:List V}(hv:v.cu=true)(h:FzL U N vs us):FzL U N (v::vs) (v::us):=.cons _ _ _ _ (.same v hv) h
open Go.Proofs Go.Proofs.Tryz
set_option maxRecDepth 1000000
def L7:prog.follows .mixedOrders=true:=by kernel_rfl
def s31:V:=.str [91,111,49,119,49,32,40,49,48,32,48,32,53,32,53,32,53,41,93]
def n31:V:=(.sl 20 [(.agg [(.int .i64 1),(.int .i64 2),(.int .i64 0),(.int .i64 0),(.int .i64 0),(.int .i64 0),(.int .i64 0),(.int .i64 1),(.int .i64 1),(.int .i64 0),(.int .i64 0),(.int .i64 0),(.int .i64 0),(.int .i64 0),(.int .i64 0),(.int .i64 0),(.sl 1 []),(.int .i64 0),(.int .i64 0),(.int .i64 0)]),(.agg [(.int .i64 2),(.int .i64 1),(.int .i64 0),(.int .i64 0),(.int .i64 0),(.int .i64 0),(.int .i64 0),(.int .i64 0),(.int .i64 0),(.int .i64 0),(.int .i64 0),(.int .i64 0),(.int .i64 0),(.int .i64 0),(.int .i64 10),(.int .i64 0),(.sl 1 [(.int .i64 5),(.int .i64 5),(.int .i64 5)]),(.int .i64 0),(.int .i64 0),(.int .i64 0)])])
def Tf:V:=(.sl 20 [(.agg [(.int .i64 1),(.int .i64 2),(.int .i64 0),(.int .i64 0),(.int .i64 0),(.int .i64 0),(.int .i64 0),(.int .i64 1),(.int .i64 1),(.int .i64 0),(.int .i64 0),(.int .i64 0),(.int .i64 0),(.int .i64 0),(.int .i64 0),(.int .i64 0),.aC,(.int .i64 0),(.int .i64 0),(.int .i64 0)]),(.agg [(.int .i64 2),(.int .i64 1),(.int .i64 0),(.int .i64 0),(.int .i64 0),(.int .i64 0),(.int .i64 0),(.int .i64 0),(.int .i64 0),(.int .i64 0),(.int .i64 0),(.int .i64 0),(.int .i64 0),(.int .i64 0),(.int .i64 10),(.int .i64 0),(.sl 1 [(.int .i64 5),(.int .i64 5),(.int .i64 5)]),(.int .i64 0),(.int .i64 0),(.int .i64 0)])])
def SO:V:=(.int .i64 0)
def Sw:V:=(.int .i64 0)
def Mm:aJ prog 20 [s31] (.P' [Tf,SO,Sw]):=Fy L7 [20,21,40,42] (E:=[]) uQ.nil rfl (by kernel_rfl)
def BZ:aJ prog 20 [s31] (.P' [n31,.int .i64 0,.int .i64 0]):=Mm.fz λ_=>.P' _ _ (.cons _ _ _ _ (.sl _ _ _ (.cons _ _ _ _ (.agg _ _ (fzC rfl (fzC rfl (fzC rfl (fzC rfl (fzC rfl (fzC rfl (fzC rfl (fzC rfl (fzC rfl (fzC rfl (fzC rfl (fzC rfl (fzC rfl (fzC rfl (fzC rfl (fzC rfl (.cons _ _ _ _ (.nil 1) (fzC rfl (fzC rfl (fzC rfl (.nil)))))))))))))))))))))) (fzC rfl .nil))) (fzC rfl (fzC rfl .nil)))
def JL:V:=(.agg [(.sl 20 [(.agg [(.int .i64 1),(.int .i64 2),(.int .i64 0),(.int .i64 0),(.int .i64 0),(.int .i64 0),(.int .i64 0),(.int .i64 1),(.int .i64 1),(.int .i64 0),(.int .i64 0),(.int .i64 0),(.int .i64 0),(.int .i64 0),(.int .i64 0),(.int .i64 0),(.sl 1 []),(.int .i64 0),(.int .i64 0),(.int .i64 0)]),(.agg [(.int .i64 2),(.int .i64 1),(.int .i64 0),(.int .i64 0),(.int .i64 0),(.int .i64 0),(.int .i64 0),(.int .i64 0),(.int .i64 0),(.int .i64 0),(.int .i64 0),(.int .i64 0),(.int .i64 0),(.int .i64 0),(.int .i64 10),(.int .i64 0),(.sl 1 [(.int .i64 5),(.int .i64 5),(.int .i64 5)]),(.int .i64 0),(.int .i64 0),(.int .i64 0)])]),(.int .i64 8),(.int .i64 20),(.sl 8 [(.agg [(.int .i64 1),(.int .i64 1),(.int .i64 0),(.int .i64 1),(.int .i64 0),(.int .i64 0),(.int .i64 5),(.int .i64 10)]),(.agg [(.int .i64 1),(.int .i64 1),(.int .i64 1),(.int .i64 2),(.int .i64 0),(.int .i64 10),(.int .i64 5),(.int .i64 10)]),(.agg [(.int .i64 1),(.int .i64 1),(.int .i64 2),(.int .i64 3),(.int .i64 0),(.int .i64 20),(.int .i64 5),(.int .i64 10)])]),.aC,(.int .i64 30),(.sl 3 [(.agg [(.int .i64 0),(.int .i64 0),(.int .i64 0)]),(.agg [(.int .i64 2),(.int .i64 0),(.int .i64 0)]),(.agg [(.int .i64 2),(.int .i64 0),(.int .i64 0)]),(.agg [(.int .i64 3),(.int .i64 0),(.int .i64 0)])])])
def I9:V:=(.int .i64 0)
def MV:aJ prog 40 [n31,.int .i64 8,.int .i64 20] (.P' [JL,I9]):=Fy L7 [20,21,40,42] (E:=[]) uQ.nil rfl (by kernel_rfl)
def Eh:V:=(.sl 5 [(.agg [(.int .i64 1),(.int .i64 1),.aC,(.sl 7 [(.agg [(.int .i64 1),(.int .i64 0),(.int .i64 0),(.int .i64 0),(.int .i64 0),(.int .i64 5),(.int .i64 10)]),(.agg [(.int .i64 1),(.int .i64 1),(.int .i64 0),(.int .i64 0),(.int .i64 10),(.int .i64 5),(.int .i64 10)])]),(.sl 7 [])]),(.agg [(.int .i64 2),(.int .i64 1),.aC,(.sl 7 [(.agg [(.int .i64 1),(.int .i64 2),(.int .i64 0),(.int .i64 0),(.int .i64 0),(.int .i64 5),(.int .i64 10)])]),(.sl 7 [])])])
def JR:V:=(.int .i64 0)
def MY:aJ prog 21 [n31,.int .i64 8,.int .i64 20] (.P' [Eh,JR]):=Fy L7 [20,21,40,42] (E:=[(40,[n31,.int .i64 8,.int .i64 20],(.P' [JL,I9]))]) (.cons MV uQ.nil) rfl (by kernel_rfl)
open Go.Proofs Go.Proofs.Tryz
def Fm:dV qq:=⟨by decide,by decide⟩
def F2(vp:V)(P:List YL)(hlP:cU false vp=some (.int .i64 P.length))(hiP:∀(U:af) (i:Nat) (h:i<P.length),bo U 5 vp (.int .i64 i)=some (.rp (aQ P[i])))
 (hPp:∀p∈P,kz p)(hPl:P.length<=10000000000000)(page rule:Int)(he:eu qq 8 20=0)(hv:eJ (bZ (br qq 8 20)) P 0=(page,rule)):
 aJ prog 22 [vp,vI page,vI rule] (.bool true):=λU=>by
 refine e22.r (by simp[c22]) ?_;have hs:=aa.refl U;have hc:=wR qq Fm 8 20 vp P hlP hiP hPp hPl;rw[ar he,hv,he]at hc;have ZY:aJ prog 20 [.str [91,111,49,119,49,32,40,49,48,32,48,32,53,32,53,32,53,41,93]] (.P' [aI qq,vI 0,vI 0]):=BZ;have hfc:(Fh (page,rule)).cells=[vI page,vI rule]:=rfl;have hfs:(Fh (page,rule)).stays=true:=rfl;generalize qq=D at*;refine ab.mix 12 ?_;apply sR;simp only[go_sem,seval,c22];refine ab.ay rfl rfl rfl (ZY _) ?_;apply sR;simp only[go_sem,seval];refine ab.ay rfl rfl rfl (hc _) ?_;apply sR;simp only[go_sem,seval];refine ad λYU Z10 s10 Zf f10=>?_;have z10:=hs.none f10;replace hs:=hs.trans s10;simp only[go_sem,seval,Zf,Fh];generalize hq10:C' _ YU _=Y10;replace Zf:=(congrFun hq10 YU).symm.trans ag;replace hs:=Eq.subst (motive:=aa _) hq10 (hs.ax z10);clear hq10;exact ak.pure hs rfl
open Go.Proofs Go.Proofs.Tryz
def IN(l:List Nd)(hlen:l.length<=1000000000000)(hw:∀x∈l,x.words.length<=200000000000000)(h:Int)(hh:A1 h)(vp:V)(P:List YL)(hlP:cU false vp=some (.int .i64 P.length))(hiP:∀(U:af) (i:Nat) (h:i<P.length),bo U 5 vp (.int .i64 i)=some (.rp (aQ P[i])))
 (hPl:P.length<=10000000000000)(hPp:∀p∈P,p.hs.length<=1000000000000000/\p.fs.length<=1000000000000000/\p.ls.length<=1000000000000000)(U:af):
 au prog 7 [aI l,vI h,vp] U λr Z'=>(∃x,r=.bool x/\(x=false->l.length<=30/\P.length<=60/\∀p∈P,(p.hs.length:Int)+p.fs.length+p.ls.length<=600))/\Z'=U:=by
 refine e7.r (by simp[c7]) ?_;have hln:=eX l;have ZD:∀p:YL,(aQ p).cells=[vI p.no,vI p.kind,aG p.hs,aG p.fs,aG p.ls]:=λ_=>rfl;have finT:ak (.bool true) U λr Z'=>(∃x,r=.bool x/\(x=false->l.length<=30/\P.length<=60/\∀p∈P,(p.hs.length:Int)+p.fs.length+p.ls.length<=600))/\Z'=U:=⟨_,_,aa.refl _,Wk.refl (aa.refl _) _,⟨_,rfl,λh=>by cases h⟩,rfl⟩
 refine ab.mix 13 ?_;by_cases h30:l.length<=30
 .have q0:((l.length:Int)>30)=False:=T';by_cases h60:P.length<=60
  .have q00:((P.length:Int)>60)=False:=T';apply sR;simp only[go_sem,seval,c7,hln,hlP,q0,q00];refine ab.eW (λst=>st.U=U/\st.s 0=aI l/\st.s 1=vI h/\st.s 2=vp/\st.s 9=vI 0/\∃c g:Int,st.s 7=vI c/\st.s 8=vI g/\0<=g/\g<=1152921504606846976)
    (λm st=>∃(i:Nat) (c g:Int),i<=l.length/\m=l.length-i/\st.U=U/\st.s 0=aI l/\st.s 1=vI h/\st.s 2=vp/\st.s 9=vI 0/\st.s 7=vI c/\0<=c/\c<=i*200000000000000/\st.s 8=vI g/\0<=g/\g<=i*3300000000000/\st.s 10=vI i) l.length ?_ ?_ ?_
   .exact⟨0,0,0,by omega,by omega,rfl,rfl,rfl,rfl,rfl,rfl,by omega,by omega,rfl,by omega,by omega,rfl⟩
   .rintro m ⟨S,C⟩ ⟨i,c,g,hi,rfl,YK,t0,t1,t2,t9,t7,hc0,hc1,t8,hg0,hg1,t10⟩;simp only at YK t0 t1 t2 t9 t7 t8 t10;subst YK;refine ab.mix 13 ?_;by_cases L':i<l.length
    .have q1:((i:Int)<l.length)=True:=Yi;have hnd:=λU=>db (U:=U) (l:=l) (a:=i) L';have hwi:=hw _ (Zw L');have hlw:=ga l[i].words;have r1:Yr .i64 ((i:Int)+1):=ai;have r2:Yr .i64 (c+l[i].words.length):=ai;apply sR;simp only[go_sem,seval,t0,t1,t2,t9,t7,t8,t10,hln,q1,hnd,Nd.cells,hlw,r1,r2,yg];obtain⟨b0,b1⟩:=KX l[i].line 8589934592 (by omega);obtain⟨d0,d1⟩:=KX l[i].h 2199023255552 (by omega);have e0:0<=(if 120<(l[i].words.length:Int)then 120 else(l[i].words.length:Int))/\(if 120<(l[i].words.length:Int)then 120 else(l[i].words.length:Int))<=120:=by split<;>omega
     obtain⟨e0,e1⟩:=e0;generalize (if 8589934592<if 0>l[i].line then 0 else l[i].line then 8589934592 else if 0>l[i].line then 0 else l[i].line)=A at*;generalize (if 2199023255552<if 0>l[i].h then 0 else l[i].h then 2199023255552 else if 0>l[i].h then 0 else l[i].h)=B at*;generalize (if 120<(l[i].words.length:Int)then 120 else(l[i].words.length:Int))=τ at*;have m0:=Int.mul_nonneg b0 e0;have m1:=Int.mul_le_mul b1 e1 e0 (by omega:(0:Int)<=8589934592);generalize A*τ=M at*;exact⟨ai,ai,ai,_,by omega,i+1,_,_,by omega,rfl,rfl,by omega,by omega,rfl,by omega,by omega,rfl⟩
    .have q1:((i:Int)<l.length)=False:=T';apply sR;simp only[go_sem,seval,t0,t10,hln,q1];exact⟨t1,t2,t9,c,g,t7,t8,hg0,by omega⟩
   .rintro⟨S,C⟩ ⟨YK,t0,t1,t2,t9,c,g,t7,t8,hg0,hg1⟩;simp only at YK t0 t1 t2 t9 t7 t8;subst YK;refine ab.mix 13 ?_;apply sR;simp only[go_sem,seval];refine ab.eW (λst=>st.U=C/\st.s 2=vp/\st.s 9=vI 0/\∃h':Int,st.s 1=vI h'/\A1 h'/\st.s 7=vI c/\st.s 8=vI g)
     (λm st=>∃(i:Nat) (h':Int),i<=l.length/\m=l.length-i/\st.U=C/\st.s 2=vp/\st.s 9=vI 0/\st.s 0=aI l/\st.s 1=vI h'/\A1 h'/\st.s 7=vI c/\st.s 8=vI g/\st.s 11=vI i) l.length ?_ ?_ ?_
    .exact⟨0,h,by omega,by omega,rfl,t2,t9,t0,t1,hh,t7,t8,rfl⟩
    .rintro m ⟨S,X'⟩ ⟨i,h',hi,rfl,YK,t2,t9,t0,t1,hh',t7,t8,t11⟩;simp only at YK t2 t9 t0 t1 t7 t8 t11;subst YK;refine ab.mix 13 ?_;by_cases L':i<l.length
     .have q1:((i:Int)<l.length)=True:=Yi;have hnd:=λU=>db (U:=U) (l:=l) (a:=i) L';have r1:Yr .i64 ((i:Int)+1):=ai;by_cases hb:h'=-9223372036854775808
      ·(refine ab.bn Orc.nothing 22 ?_;simp only[go_sem,seval,jI,t0,t1,t11,hln,q1,hnd,Nd.cells])
       refine ab.Up rfl rfl rfl rfl ?_;generalize IntKind.i64.wrap (h'-1)=X
       (refine ab.bn Orc.nothing 2 ?_;simp only[go_sem,seval,jI])
       refine ab.Up rfl rfl rfl rfl ?_;generalize hX:IntKind.i64.wrap _=Y;have hY:A1 Y:=by rw[<-hX];exact LP _
       apply sR;simp only[go_sem,seval,t11,r1,t7,t8,t0,t2,t9];exact⟨_,by omega,i+1,_,by omega,rfl,rfl,hY,rfl⟩
      .apply sR;simp only[go_sem,seval,t0,t1,t2,t9,t7,t8,t11,hln,q1,hnd,Nd.cells,r1];have hz:0<=(if(if 0>h'-1 then 0 else h'-1)<(if 0>l[i].st.head then 0 else l[i].st.head)then(if 0>h'-1 then 0 else h'-1)else if 0>l[i].st.head then 0 else l[i].st.head)/\
        (if(if 0>h'-1 then 0 else h'-1)<(if 0>l[i].st.head then 0 else l[i].st.head)then(if 0>h'-1 then 0 else h'-1)else if 0>l[i].st.head then 0 else l[i].st.head)<=(if 0>h'-1 then 0 else h'-1):=by
        have h1:0<=(if 0>h'-1 then 0 else h'-1):=by split<;>omega
        have h2:0<=(if 0>l[i].st.head then 0 else l[i].st.head):=by split<;>omega
        generalize (if 0>h'-1 then 0 else h'-1)=A at*;generalize (if 0>l[i].st.head then 0 else l[i].st.head)=B at*;split<;>omega
       have hx:(if 0>h'-1 then 0 else h'-1)=0\/(if 0>h'-1 then 0 else h'-1)=h'-1/\h'>=1:=by split<;>omega
       generalize (if(if 0>h'-1 then 0 else h'-1)<(if 0>l[i].st.head then 0 else l[i].st.head)then(if 0>h'-1 then 0 else h'-1)else if 0>l[i].st.head then 0 else l[i].st.head)=Z at*;unfold A1 at hh';exact⟨ai,ai,_,by omega,i+1,_,by omega,rfl,rfl,⟨by omega,by omega⟩,rfl⟩
     .have q1:((i:Int)<l.length)=False:=T';apply sR;simp only[go_sem,seval,t0,t11,hln,q1];exact⟨t2,t9,h',t1,hh',t7,t8⟩
    .rintro⟨S,X'⟩ ⟨YK,t2,t9,h',t1,hh',t7,t8⟩;simp only at YK t1 t7 t8 t2 t9;subst YK;refine ab.mix 13 ?_;apply sR;simp only[go_sem,seval];refine ab.eW (λst=>st.U=X'/\st.s 1=vI h'/\st.s 7=vI c/\st.s 8=vI g/\∃q:Int,st.s 9=vI q/\∀p∈P,(p.hs.length:Int)+p.fs.length+p.ls.length<=q)
      (λm st=>∃(i:Nat) (q:Int),i<=P.length/\m=P.length-i/\st.U=X'/\st.s 1=vI h'/\st.s 2=vp/\st.s 7=vI c/\st.s 8=vI g/\st.s 9=vI q/\0<=q/\q<=i*3000000000000000/\st.s 12=vI i/\∀p∈P.take i,(p.hs.length:Int)+p.fs.length+p.ls.length<=q) P.length ?_ ?_ ?_
     .exact⟨0,0,by omega,by omega,rfl,t1,t2,t7,t8,t9,by omega,by omega,rfl,by simp⟩
     .rintro m ⟨S,C⟩ ⟨i,q,hi,rfl,YK,t1,t2,t7,t8,t9,hq0,hq1,t12,Ze⟩;simp only at YK t1 t2 t7 t8 t9 t12;subst YK;refine ab.mix 13 ?_;by_cases L':i<P.length
      .have q1:((i:Int)<P.length)=True:=Yi;have hnd:=λU=>hiP U i L';have hpl:=hPp _ (Zw L');have Zg:=Zq0 L';generalize P[i]=p at*;have l1:=jn p.hs;have l2:=jn p.fs;have l3:=jn p.ls;have r1:Yr .i64 ((i:Int)+1):=ai;have r2:Yr .i64 ((p.hs.length:Int)+p.fs.length):=ai;have r3:Yr .i64 ((p.hs.length:Int)+p.fs.length+p.ls.length):=ai;have r4:Yr .i64 (q+((p.hs.length:Int)+p.fs.length+p.ls.length)):=ai;apply sR;simp only[go_sem,seval,t1,t2,t7,t8,t9,t12,hlP,q1,hnd,ZD,UN,l1,l2,l3,r1,r2,r3,r4];exact⟨_,by omega,i+1,_,by omega,rfl,rfl,by omega,by omega,rfl,λu hu=>by
        rw[Zg]at hu;rcases da.1 hu with hu|hu
        .have:=Ze u hu;omega
        .rw[ew.1 hu];omega⟩
      .have q1:((i:Int)<P.length)=False:=T';apply sR;simp only[go_sem,seval,t2,t12,hlP,q1];rw[j7 (by omega)]at Ze;exact⟨t1,t7,t8,q,t9,Ze⟩
     .rintro⟨S,C⟩ ⟨YK,t1,t7,t8,q,t9,Ze⟩;simp only at YK t1 t7 t8 t9;subst YK;refine ab.mix 13 ?_;have fin:∀x:Bool,(x=false->q<=600)->ak (.bool x) C λr Z'=>(∃x,r=.bool x/\(x=false->l.length<=30/\P.length<=60/\∀p∈P,(p.hs.length:Int)+p.fs.length+p.ls.length<=600))/\Z'=C:=λx hx=>⟨_,_,aa.refl _,Wk.refl (aa.refl _) _,⟨_,rfl,λh=>⟨h30,h60,λp hp=>by have:=Ze p hp;have:=hx h;omega⟩⟩,rfl⟩
      by_cases p1:c>120
      .have q1:(c>120)=True:=Yi p1;apply sR;simp only[go_sem,seval,t7,q1];exact fin _ (λh=>by cases h)
      .have q1:(c>120)=False:=T' p1;by_cases p0:q>600
       .have q5:(q>600)=True:=Yi p0;apply sR;simp only[go_sem,seval,t7,t9,q1,q5];exact fin _ (λh=>by cases h)
       .have q5:(q>600)=False:=T' p0;by_cases p2:h'>=1
        .have q2:(h'>=1)=True:=Yi p2;have q3:(h'=0)=False:=T';have hq0:=Int.tdiv_nonneg hg0 (by omega:0<=h');have hq1:=Int.tdiv_le_self h' hg0;have r1:Yr .i64 (g.tdiv h'):=ai;by_cases p4:g.tdiv h'>300
         .have q4:(g.tdiv h'>300)=True:=Yi p4;apply sR;simp only[go_sem,seval,t1,t7,t8,t9,q1,q5,q2,q3,q4,r1];exact fin _ (λ_=>by omega)
         .have q4:(g.tdiv h'>300)=False:=T' p4;apply sR;simp only[go_sem,seval,t1,t7,t8,t9,q1,q5,q2,q3,q4,r1];exact fin _ (λ_=>by omega)
        .have q2:(h'>=1)=False:=T' p2;apply sR;simp only[go_sem,seval,t1,t7,t9,q1,q5,q2];exact fin _ (λ_=>by omega)
  .have q00:((P.length:Int)>60)=True:=Yi;apply sR;simp only[go_sem,seval,c7,hln,hlP,q0,q00];exact finT
 .have q0:((l.length:Int)>30)=True:=Yi;apply sR;simp only[go_sem,seval,c7,hln,q0];exact finT
open Go.Proofs Go.Proofs.Tryz
def Um(l:List Nd):Prop:=l.length<=1000000000000/\∀x∈l,x.words.length<=200000000000000
open Go.Proofs Go.Proofs.Tryz
def Dw:∀(i:Nat) (R P:List YL),R.take i=P.take i->i<=R.length->i<=P.length->(∀(h1:i<R.length) (h2:i<P.length),P[i]≠R[i])->jc R P=i
 |0,[],_,_,_,_,_=>rfl
 |0,_::_,[],_,_,_,_=>rfl
 |0,a::R,p::P,_,_,_,h=>by
  rw[jc,av λe=>h (by simp) (by simp) e.symm]
 |i+1,[],_,_,h,_,_=>by simp at h
 |i+1,_::_,[],_,_,h,_=>by simp at h
 |i+1,a::R,p::P,ht,h1,h2,h=>by
  simp only[pI,List.cons.injEq]at ht;rw[jc,ar ht.1,Dw i R P ht.2 (by simpa using h1) (by simpa using h2) λg1 g2=>h (by simpa using g1) (by simpa using g2)]
def BH:∀(R P:List YL),jc R P<=P.length
 |[],_=>Nat.zero_le _
 |_::_,[]=>Nat.zero_le _
 |a::R,p::P=>by
  rw[jc];split
  .have:=BH R P;simp only[ZR];omega
  .exact Nat.zero_le _
def pW(x:Int×Int):(Fh x).cells=[vI x.1,vI x.2]:=rfl
def Iu(x:Int×Int):(Fh x).stays=true:=rfl
def TA(P:List YL):Prop:=P.length<=10000000000000/\∀p∈P,kz p
def A5(aw:aJ prog 8 [] (.bool true))(l:List Nd)(ha:Um l)(w h:Int)(hh:A1 h)(P:List YL)(hP:TA P):
 aJ prog 3 [aI l,vI w,vI h,bl P] (.bool true):=λU=>by
 refine e3.r (by simp[c3]) ?_;have hs:=aa.refl U;have hlP:=jr P;have va:=λU=>IN l ha.1 ha.2 h hh (bl P) P hlP (lV P) hP.1 hP.2 U;refine ab.mix 17 ?_;apply sR;simp only[go_sem,seval,c3];refine ab.call rfl rfl rfl (va _) ?_;rintro r Z' ⟨⟨x,rfl,hx⟩,rfl⟩;cases x with
 |true=>
  apply sR;simp only[go_sem,seval];refine ab.ay rfl rfl rfl (aw _) ?_;apply sR;simp only[go_sem,seval];exact ak.same rfl
 |false=>
  obtain⟨h30,h60,h600⟩:=hx rfl;have fl:dV l:=⟨by omega,ha.2⟩
  have pg:=G6 l fl w h;have ck:=wR l fl w h (bl P) P hlP (lV P) hP.2 hP.1;have h600':∀p∈P,p.hs.length<=2000000/\p.fs.length<=2000000/\p.ls.length<=2000000:=λp hp=>by have:=h600 p hp;omega
  apply sR;simp only[go_sem,seval];refine ab.ay rfl rfl rfl (pg _) ?_;by_cases he:eu l w h=0
  .have hrb:=tJ fl he;have hrl:=pj fl he;have hPR:=mZ (br l w h);have ck2:=wR l fl w h (bl (bZ (br l w h))) _ (jr _) (lV _) (λp hp=>by have:=hrl p hp;unfold kz;omega) (by omega);rw[ar he,he]at ck ck2;rw[ar he];generalize br l w h=b at*;generalize bZ b=R at*;rw[(sx R R 0 hrb).2 rfl]at ck2;have sm:=Ld P R (by omega) h600';have hlR:=jr R;have vs:=λYF=>yV R P 0 hrb YF;have vn:=sx R P 0 hrb;generalize eJ R P 0=v at*;obtain⟨a,c⟩:=v;simp only[Prod.mk.injEq]at vn;have q0:((0:Int)≠0)=False:=T' (λh=>h rfl);apply sR;simp only[go_sem,seval];refine ab.ay rfl rfl rfl (ck _) ?_;apply sR;simp only[go_sem,seval];refine ad λZM Z11 s11 ZT f11=>?_;have z11:=hs.none f11;replace hs:=hs.trans s11;simp only[go_sem,seval,ZT,pW,Iu,q0];generalize ZE:C' _ ZM _=Y11;replace ZT:=(congrFun ZE ZM).symm.trans ag;replace hs:=Eq.subst (motive:=aa _) ZE (hs.ax z11);clear ZE;refine ab.ay rfl rfl rfl (ck2 _) ?_;apply sR;simp only[go_sem,seval];refine ad λi13 Y13 s13 a13 f13=>?_;have n1113:=ao ZT f13;replace ZT:=s13 _ _ ZT;have z13:=hs.none f13;replace hs:=hs.trans s13;simp only[go_sem,seval,a13,pW,Iu,q0];generalize hq13:C' _ i13 _=Z13;replace a13:=(congrFun hq13 i13).symm.trans ag;replace ZT:=((congrFun hq13 ZM).symm.trans (ae n1113)).trans ZT;replace hs:=Eq.subst (motive:=aa _) hq13 (hs.ax z13);clear hq13;have Zo:∀x:Bool,(x==x)=true:=λx=>by cases x<;>rfl
   by_cases hpr:P=R
   .obtain⟨ea,ec⟩:=vn.2 hpr;have w1:(a=0)=True:=Yi ea;have w2:(c=0)=True:=Yi ec;rw[ZN hpr]at sm;simp only[go_sem,seval,ZT,w1,w2,pW];refine Go.bW rfl rfl rfl sm ?_;apply sG;simp only[go_sem,seval,ZT,w1,w2,pW,Zo];refine ab.ay rfl rfl rfl (aw _) ?_;apply sR;simp only[go_sem,seval];exact ak.pure hs rfl
   .obtain⟨k1,k2,k3,k4⟩:=vs hpr;simp only at k1 k2 k3 k4;have w1:(a=0)=False:=T';rw[Zz hpr]at sm;simp only[go_sem,seval,ZT,w1,pW];refine Go.bW rfl rfl rfl sm ?_;have fi:=λi=>Dw i R P;have fle:=BH R P;generalize jc R P=F at*;apply sG;simp only[go_sem,seval,Bool.false_and,Bool.not_true,ZT,w1,pW,Zo];refine ab.eW (λst=>st.U=Z13/\st.s 3=bl P/\st.s 9=bl R/\st.s 11=.ptr ZM 0 0/\st.s 15=vI F)
     (λm st=>∃i:Nat,i<=P.length/\i<=R.length/\m=P.length-i/\R.take i=P.take i/\st.U=Z13/\st.s 3=bl P/\st.s 9=bl R/\st.s 11=.ptr ZM 0 0/\st.s 15=vI i) P.length ?_ ?_ ?_
    .exact⟨0,by omega,by omega,rfl,rfl,rfl,rfl,rfl,rfl,rfl⟩
    .rintro m ⟨S,ω⟩ ⟨i,g1,g2,rfl,Zg,YK,t3,t9,t11,t15⟩;simp only at YK t3 t9 t11 t15;subst YK;refine ab.mix 17 ?_;by_cases e1:i<P.length
     .have p1:((i:Int)<P.length)=True:=Yi;by_cases e2:i<R.length
      .have p2:((i:Int)<R.length)=True:=Yi;have i1:=λU=>nG (U:=U) e1;have i2:=λU=>nG (U:=U) e2;have hee:=Gs P[i] R[i] (h600' _ (Zw e1));have tx:=Zq0 e1;have ty:=Zq0 e2;have r1:Yr .i64 ((i:Int)+1):=ai;have hfi:P[i]≠R[i]->F=i:=λhn=>fi i Zg g2 g1 λ_ _=>hn;generalize P[i]=x at*;generalize R[i]=y at*;have l1:=Nv x;have l2:=Nv y;apply sR;simp only[go_sem,seval,t3,t9,t15,hlP,hlR,p1,p2,i1,i2,l1,l2];refine Go.bW rfl rfl rfl hee ?_;by_cases hq:x=y
       .rw[ZN hq];apply sG;simp only[go_sem,seval,t3,t9,t11,t15,r1];exact⟨_,by omega,i+1,by omega,by omega,rfl,by rw[tx,ty,Zg,hq],by simp⟩
       .rw[Zz hq];apply sG;simp only[go_sem,seval,t3,t9,t11,t15];exact by rw[hfi hq]
      .have p2:((i:Int)<R.length)=False:=T';apply sR;simp only[go_sem,seval,t3,t9,t11,t15,hlP,hlR,p1,p2];exact by rw[fi i Zg g2 g1 λg _=>absurd g e2]
     .have p1:((i:Int)<P.length)=False:=T';apply sR;simp only[go_sem,seval,t3,t9,t11,t15,hlP,p1];exact by rw[fi i Zg g2 g1 λ_ g=>absurd g e1]
    .rintro⟨S,ω⟩ ⟨YK,t3,t9,t11,t15⟩;simp only at YK t3 t9 t11 t15;subst YK;refine ab.mix 17 ?_;have r1:Yr .i64 ((F:Int)+1):=ai;have p3:(a=(F:Int)+1)=True:=Yi;have p4:(c>=1)=True:=Yi k3;have p5:(c<=9)=True:=Yi k4;by_cases e1:F>=P.length
     .have p1:((F:Int)>=P.length)=True:=Yi;have p6:(c=9)=True:=Yi (k2.2 (.inl e1));apply sR;simp only[go_sem,seval,t3,t11,t15,hlP,p1,p3,p4,p5,p6,r1,ZT,pW,Zo];refine ab.ay rfl rfl rfl (aw _) ?_;apply sR;simp only[go_sem,seval];exact ak.pure hs rfl
     .have p1:((F:Int)>=P.length)=False:=T';by_cases e2:F>=R.length
      .have p2:((F:Int)>=R.length)=True:=Yi;have p6:(c=9)=True:=Yi (k2.2 (.inr e2));apply sR;simp only[go_sem,seval,t3,t9,t11,t15,hlP,hlR,p1,p2,p3,p4,p5,p6,r1,ZT,pW,Zo];refine ab.ay rfl rfl rfl (aw _) ?_;apply sR;simp only[go_sem,seval];exact ak.pure hs rfl
      .have p2:((F:Int)>=R.length)=False:=T';have p6:(c=9)=False:=T' λh=>by rcases k2.1 h with h|h<;>omega
       apply sR;simp only[go_sem,seval,t3,t9,t11,t15,hlP,hlR,p1,p2,p3,p4,p5,p6,r1,ZT,pW,Zo];refine ab.ay rfl rfl rfl (aw _) ?_;apply sR;simp only[go_sem,seval];exact ak.pure hs rfl
  .rw[av he]at ck;rw[av he];have q1:(eu l w h≠0)=True:=Yi he;generalize eu l w h=E at*;have q2:(E≠E)=False:=T' (λh=>h rfl);apply sR;simp only[go_sem,seval];refine ab.ay rfl rfl rfl (ck _) ?_;apply sR;simp only[go_sem,seval];refine ad λZM Z11 s11 ZT f11=>?_;have z11:=hs.none f11;replace hs:=hs.trans s11;simp only[go_sem,seval,ZT,pW,Iu,q1,q2];generalize ZE:C' _ ZM _=Y11;replace ZT:=(congrFun ZE ZM).symm.trans ag;replace hs:=Eq.subst (motive:=aa _) ZE (hs.ax z11);clear ZE;refine ab.ay rfl rfl rfl (aw _) ?_;apply sR;simp only[go_sem,seval];exact ak.pure hs rfl
open Go.Proofs Go.Proofs.Tryz
set_option maxRecDepth 100000
def EW:prog.cellsOf 63=7:=by kernel_rfl
def Jl:eE prog 63=true:=by kernel_rfl
def EC:prog.bytesOf 63=56:=by kernel_rfl
def ET:prog.cellsOf 37=5:=by kernel_rfl
def JS:eE prog 37=true:=by kernel_rfl
def E7:prog.bytesOf 37=88:=by kernel_rfl
def HJ:eE prog 23=false:=by kernel_rfl
def Ip{n:Nat}{vs:List V}(h:gM prog (n+2) 63 vs):∃x:Zi,vs=(bb x).cells:=by
 replace h:=lD underlying63 h;simp only[uE]at h;obtain⟨_,_,rfl,h1,_,_,rfl,h2,_,_,rfl,h3,_,_,rfl,h4,_,_,rfl,h5,_,_,rfl,h6,_,_,rfl,h7,rfl⟩:=h;obtain⟨m1,rfl,_⟩:=bM h1;obtain⟨m2,rfl,_⟩:=bM h2;obtain⟨m3,rfl,_⟩:=bM h3;obtain⟨m4,rfl,_⟩:=bM h4;obtain⟨m5,rfl,_⟩:=bM h5;obtain⟨m6,rfl,_⟩:=bM h6;obtain⟨m7,rfl,_⟩:=bM h7;exact⟨⟨m1,m2,m3,m4,m5,m6,m7⟩,rfl⟩
def tu{n:Nat}{vs:List V}(h:gM prog (n+3) 35 vs):∃l,vs=[aG l]/\l.length<=1000000000000000:=by
 obtain⟨rows,rfl,hl,h⟩:=mR underlying35 h;obtain⟨l,rfl,-⟩:=rB (f:=bb) (p:=λ_=>True) λr hr=>by
  obtain⟨cs,hc,rfl⟩:=h r hr;obtain⟨x,rfl⟩:=Ip hc;exact⟨x,by rw[Jl];rfl,trivial⟩
 rw[EC]at hl;simp only[di,reachBytes]at hl;exact⟨l,by rw[EW];rfl,by omega⟩
def JH{n:Nat}{vs:List V}(h:gM prog (n+4) 37 vs):∃p:YL,vs=(aQ p).cells/\p.hs.length<=1000000000000000/\p.fs.length<=1000000000000000/\p.ls.length<=1000000000000000:=by
 replace h:=lD underlying37 h;simp only[uE]at h;obtain⟨_,_,rfl,h1,_,_,rfl,h2,_,_,rfl,h3,_,_,rfl,h4,_,_,rfl,h5,rfl⟩:=h;obtain⟨m1,rfl,_⟩:=bM h1;obtain⟨m2,rfl,_⟩:=bM h2;obtain⟨l3,rfl,g3⟩:=tu h3;obtain⟨l4,rfl,g4⟩:=tu h4;obtain⟨l5,rfl,g5⟩:=tu h5;exact⟨⟨m1,m2,l3,l4,l5⟩,rfl,g3,g4,g5⟩
def HL{n:Nat}{vs:List V}(h:gM prog (n+5) 23 vs):∃l,oL prog 23 vs=bl l/\l.length<=10000000000000/\
 ∀p∈l,p.hs.length<=1000000000000000/\p.fs.length<=1000000000000000/\p.ls.length<=1000000000000000:=by
 obtain⟨rows,rfl,hl,h⟩:=mR underlying23 h;obtain⟨l,rfl,hp⟩:=rB (f:=aQ) (p:=λp=>p.hs.length<=1000000000000000/\p.fs.length<=1000000000000000/\p.ls.length<=1000000000000000) λr hr=>by
  obtain⟨cs,hc,rfl⟩:=h r hr;obtain⟨x,rfl,hx⟩:=JH hc;exact⟨x,by rw[JS];rfl,hx⟩
 rw[E7]at hl;simp only[di,reachBytes]at hl;exact⟨l,by unfold oL;rw[HJ,ET];rfl,by omega,hp⟩
open Go.Proofs Go.Proofs.Tryz
set_option maxRecDepth 100000
def A31:YL:=⟨1,1,[],[⟨1,0,0,0,0,5,10⟩,⟨1,1,0,0,10,5,10⟩],[]⟩
def B31:YL:=⟨2,1,[],[⟨1,2,0,0,0,5,10⟩],[]⟩
def F5:eu qq 8 20=0:=by kernel_rfl
def DZ:bZ (br qq 8 20)=[A31,B31]:=by kernel_rfl
def WJ:jK (br qq 8 20) (bN .nil [A31,B31] 1)=⟨⟨2,0,false⟩,[]⟩:=by kernel_rfl
def Vm(U:af)(N:Nat->Prop):Fz U N Eh (bl [A31,B31]):=
 .sl _ _ _ (.cons _ _ _ _ (.agg _ _ (.cons _ _ _ _ (.same _ rfl) (.cons _ _ _ _ (.same _ rfl) (.cons _ _ _ _ (.nil 7) (.cons _ _ _ _ (.same _ rfl) (.cons _ _ _ _ (.same _ rfl) .nil))))))
  (.cons _ _ _ _ (.agg _ _ (.cons _ _ _ _ (.same _ rfl) (.cons _ _ _ _ (.same _ rfl) (.cons _ _ _ _ (.nil 7) (.cons _ _ _ _ (.same _ rfl) (.cons _ _ _ _ (.same _ rfl) .nil)))))) .nil))
def UE:aJ prog 21 [aI qq,vI 8,vI 20] (.P' [bl [A31,B31],vI 0]):=λU=>by
 have h0:au prog 21 [aI qq,vI 8,vI 20] U λr Z'=>r=.P' [Eh,JR]/\Z'=U:=MY U;refine h0.zM λr Z' h=>?_
 .obtain⟨rfl,rfl⟩:=h;exact⟨_,_,aa.refl _,Fz.wk (N:=λ_=>False) (.P' _ _ (.cons _ _ _ _ (Vm _ _) (.cons _ _ _ _ (.same _ rfl) .nil))) (aa.refl _) (λ_ h=>h.elim),rfl,rfl⟩
def Od:aJ prog 15 [aI qq,vI 8,vI 20,bl [A31,B31],vI 1] (.P' [bJ ⟨⟨2,0,false⟩,[]⟩,vI 0]):=by
 have h:=Ki qq Fm 8 20 F5 1 (by rw[DZ];decide);rw[DZ,WJ]at h;exact h
def Kb:aJ prog 13 [aI qq,vI 8,vI 20,bl [A31,B31],vI 1] (.P' [bl [B31],vI 0]):=by
 have h:=EN qq Fm 8 20 F5 1 (by rw[DZ];decide) _ (by rw[DZ];decide) rfl;rw[DZ]at h;exact h
def pG(Q:List YL)(hQ:∀p∈Q,kz p)(hl:Q.length<=10000000000000)(page rule:Int)(hv:eJ [A31,B31] Q 0=(page,rule)):aJ prog 22 [bl Q,vI page,vI rule] (.bool true):=
 F2 (bl Q) Q (jr Q) (lV Q) hQ hl page rule F5 (by rw[DZ];exact hv)
def UP:aJ prog 22 [.aC,vI 1,vI 9] (.bool true):=
 F2 .aC [] rfl Br (by simp) (by decide) 1 9 F5 (by rw[DZ];decide)
def GN{p:YL}(h1:p.hs.length<=2)(h2:p.fs.length<=2)(h3:p.ls.length<=2):kz p:=by unfold kz;omega
def Tq:aJ prog 22 [bl [A31,B31],vI 0,vI 0] (.bool true):=pG _ (by intro p hp;simp only[cp,List.mem_nil_iff,or_false]at hp;rcases hp with rfl|rfl<;>exact GN (by decide) (by decide) (by decide)) (by decide) 0 0 (by decide)
def Us:aJ prog 22 [bl [A31],vI 2,vI 9] (.bool true):=pG _ (by intro p hp;rw[ew.1 hp];exact GN (by decide) (by decide) (by decide)) (by decide) 2 9 (by decide)
def UU:aJ prog 22 [bl [{ A31 with no:=2 }],vI 1,vI 1] (.bool true):=pG _ (by intro p hp;rw[ew.1 hp];exact GN (by decide) (by decide) (by decide)) (by decide) 1 1 (by decide)
def UM:aJ prog 22 [bl [B31],vI 1,vI 1] (.bool true):=pG _ (by intro p hp;rw[ew.1 hp];exact GN (by decide) (by decide) (by decide)) (by decide) 1 1 (by decide)
def TK:aJ prog 22 [bl [{ A31 with fs:=[⟨1,0,0,0,0,5,10⟩] }],vI 1,vI 5] (.bool true):=pG _ (by intro p hp;rw[ew.1 hp];exact GN (by decide) (by decide) (by decide)) (by decide) 1 5 (by decide)
def UD:aJ prog 22 [bl [{ A31 with fs:=[⟨1,0,0,0,0,5,10⟩,⟨1,1,0,0,11,5,10⟩] }],vI 1,vI 6] (.bool true):=pG _ (by intro p hp;rw[ew.1 hp];exact GN (by decide) (by decide) (by decide)) (by decide) 1 6 (by decide)
end Go.Vc
