import Derived.Test.YtompjkkmfibkiaaGreatW1
import Derived.TacticsIn
import Derived.RangeFuncNested
import Derived.RangeFuncLeaves
import Derived.Orders
import Derived.OrdersIn
import Derived.Lib.SliceRun
import Derived.WideLaws
set_option linter.all false
set_option maxHeartbeats 8000000
namespace Go.Vc
inductive It where
 |code (c:bW)
 |inBlock (id:Nat)
 |ops (l:List aK)
 |stop (μ:St->Prop)
inductive KI where
 |code (c:Code)
 |inBlock (id:Nat)
 |ops (all:Array Oper) (l:List Oper)
 |stop (μ:St->Prop)
def KI.it(P:Program)(n:Nat):KI->It
 |.code c=>.code (dZ P n c)
 |.inBlock id=>.inBlock id
 |.ops all l=>.ops (l.map (dg P n all))
 |.stop μ=>.stop μ
def Fr.fC(F:Fr):Fence:={ Fence.wide with round:=F.rd.map (·.1) }
def lC(F:Fr):F.fC.depth.isSome=true->1<=0:=λh=>by simp[Fr.fC,Fence.wide]at h
def oZ{F:Fr}{n:Nat}{P:Program}{f:FuncId}{args:Array Value}{w:World}{R:Ending->World->Prop}(h:Calls P f args w R):CallsIn F.fC n P f args w R:=by
 have h1:CallsIn Fence.wide n P f args w R:=callsIn_wide.2 h;exact h1
def Kz{F:Fr}{P:Program}{o:Oper}{a:Act}{w:World}{next:Act->World->Prop}{Q:Exit->Act->World->Prop}(hd:∀c,o.op≠.defer c)(h:o.wp P a w next Q):
 o.wpIn F.fC 0 P a w next Q:=by
 refine⟨λ_ _=>trivial,?_⟩;rw[Oper.semAt_eq _ _ _ hd];unfold Oper.wp at h;generalize (execOp a.eval o).run P w=r at*;cases r with
 |ok x w'=>
  cases x<;>simp only[Oper.upon,Oper.uponIn]at h|-<;>first
   |exact h
   |exact⟨lC F,oZ h⟩
   |contradiction
   |skip
  exact⟨lC F,λc cs _=>let ⟨v,w',r,s⟩:=h c cs;⟨v,w',r,stepsIn_wide.2 s⟩⟩
 |halt x w'=>cases x<;>simp only[Oper.upon,Oper.uponIn]at h|-<;>first|exact h|contradiction
def og{P:Program}{n:Nat}{o:Op}(h:Wj P n o≠.bad)(c:Call):o≠.defer c:=λe=>by subst e;exact h rfl
def l5(P:Program)(F:Fr)(Q:St->Prop):List KI->Exit->Act->World->Prop
 |[],e,a,w=>(e=.normal\/e=.ret)/\∃st,Q st/\gl F st a w
 |.code c::k,e,a,w=>match e with
   |.normal=>c.wpIn F.fC 0 P (l5 P F Q k) a w
   |e=>l5 P F Q k e a w
 |.inBlock id::k,e,a,w=>Exit.inBlock id (l5 P F Q k) e a w
 |.ops all l::k,e,a,w=>match e with
   |.normal=>wpListIn F.fC 0 P all (l5 P F Q k) l a w
   |e=>l5 P F Q k e a w
 |.stop μ::k,e,a,w=>match e with
   |.normal=>∃st,μ st/\gl F st a w
   |e=>l5 P F Q k e a w
def ai(P:Program)(n:Nat)(todo:List It)(st:St)(Q:St->Prop):Prop:=
 ∀F:Fr,F.n=n->∀kt:List KI,kt.map (KI.it P n)=todo->∀a w,gl F st a w->l5 P F Q kt .normal a w
variable {P:Program} {n:Nat} {st:St} {Q:St->Prop} {k:List It}
def ai.nil(h:Q st):ai P n [] st Q:=by
 intro F _ kt hk a w hs;cases kt with
 |nil=>exact⟨.inl rfl,st,h,hs⟩
 |cons x kt=>simp at hk
def fg{kt:List KI}{x:It}(h:kt.map (KI.it P n)=x::k):∃y YA,kt=y::YA/\y.it P n=x/\YA.map (KI.it P n)=k:=by
 cases kt with
 |nil=>simp at h
 |cons y YA=>simp only[fF,List.cons.injEq]at h;exact⟨y,YA,rfl,h.1,h.2⟩
def iO{y:KI}{c:bW}(h:y.it P n=.code c):∃c0,y=.code c0/\dZ P n c0=c:=by
 cases y<;>simp only[KI.it,It.code.injEq,reduceCtorEq]at h;exact⟨_,rfl,h⟩
def ai.skip(h:ai P n k st Q):ai P n (.code .skip::k) st Q:=by
 intro F hn kt hk a w hs;obtain⟨y,YA,rfl,hy,XO⟩:=fg hk;obtain⟨c0,rfl,hc⟩:=iO hy;have hc0:c0=.skip:=by
  cases c0<;>simp only[dZ,reduceCtorEq]at hc<;>(try (split at hc;cases hc))<;>(try (split at hc<;>cases hc))<;>try rfl
 subst hc0;exact wpIn_skip (h F hn YA XO a w hs)
def ai.seq{x y:bW}(h:ai P n (.code x::.code y::k) st Q):ai P n (.code (.seq x y)::k) st Q:=by
 intro F hn kt hk a w hs;obtain⟨z,YA,rfl,hy,XO⟩:=fg hk;obtain⟨c0,rfl,hc⟩:=iO hy;have hc0:∃x0 y0,c0=.seq x0 y0/\dZ P n x0=x/\dZ P n y0=y:=by
  cases c0<;>simp only[dZ,reduceCtorEq,bW.seq.injEq]at hc
  case region=>(split at hc;cases hc);split at hc<;>cases hc
  exact⟨_,_,rfl,hc.1,hc.2⟩
 obtain⟨x0,y0,rfl,rfl,rfl⟩:=hc0;refine wpIn_seq (wpIn_mono (h F hn (.code x0::.code y0::YA) (by simp[KI.it,XO]) a w hs) ?_);intro e a' w' hq;cases e<;>exact hq
def ai.block{id:Nat}{x:bW}(h:ai P n (.code x::.inBlock id::k) st Q):ai P n (.code (.block id x)::k) st Q:=by
 intro F hn kt hk a w hs;obtain⟨z,YA,rfl,hy,XO⟩:=fg hk;obtain⟨c0,rfl,hc⟩:=iO hy;have hc0:∃x0,c0=.block id x0/\dZ P n x0=x:=by
  cases c0<;>simp only[dZ,reduceCtorEq,bW.block.injEq]at hc
  case region=>(split at hc;cases hc);split at hc<;>cases hc
  obtain⟨rfl,h2⟩:=hc;exact⟨_,rfl,h2⟩
 obtain⟨x0,rfl,rfl⟩:=hc0;exact wpIn_block (h F hn (.code x0::.inBlock id::YA) (by simp[KI.it,XO]) a w hs)
def ai.inBlock{id:Nat}(h:ai P n k st Q):ai P n (.inBlock id::k) st Q:=by
 intro F hn kt hk a w hs;obtain⟨z,YA,rfl,hy,XO⟩:=fg hk;cases z<;>simp only[KI.it,It.inBlock.injEq,reduceCtorEq]at hy;exact h F hn YA XO a w hs
def ai.stop{μ:St->Prop}(h:μ st):ai P n (.stop μ::k) st Q:=by
 intro F hn kt hk a w hs;obtain⟨z,YA,rfl,hy,XO⟩:=fg hk;cases z<;>simp only[KI.it,It.stop.injEq,reduceCtorEq]at hy;subst hy;exact⟨st,h,hs⟩
def eP(id:Nat):List It->Option (List It)
 |[]=>none
 |.inBlock j::k=>if id=j then some k else eP id k
 |_::k=>eP id k
def l6{F:Fr}{id:Nat}{a:Act}{w:World}:∀{kt:List KI} {k':List It},eP id (kt.map (KI.it P n))=some k'->
 (∀YA,YA.map (KI.it P n)=k'->l5 P F Q YA .normal a w)->l5 P F Q kt (.exit id) a w
 |[],_,h,_=>by simp[eP]at h
 |.code c::kt,_,h,hq=>l6 (kt:=kt) (by simpa[KI.it,eP]using h) hq
 |.ops all l::kt,_,h,hq=>l6 (kt:=kt) (by simpa[KI.it,eP]using h) hq
 |.stop μ::kt,_,h,hq=>l6 (kt:=kt) (by simpa[KI.it,eP]using h) hq
 |.inBlock j::kt,k',h,hq=>by
  simp only[fF,KI.it,eP]at h;simp only[l5,Exit.inBlock];by_cases hj:id=j
  .rw[av hj]at h|-;simp only[aS]at h;exact hq kt h
  .rw[aD hj]at h|-;exact l6 h hq
def ai.exit{id:Nat}{k':List It}(hp:eP id k=some k')(h:ai P n k' st Q):ai P n (.code (.exit id)::k) st Q:=by
 intro F hn kt hk a w hs;obtain⟨z,YA,rfl,hy,XO⟩:=fg hk;obtain⟨c0,rfl,hc⟩:=iO hy;have hc0:c0=.exit id:=by
  cases c0<;>simp only[dZ,reduceCtorEq,bW.exit.injEq]at hc
  case region=>(split at hc;cases hc);split at hc<;>cases hc
  rw[hc]
 subst hc0;exact wpIn_exit (l6 (n:=n) (by rw[XO];exact hp) (λkt'' h''=>h F hn kt'' h'' a w hs))
def lT{F:Fr}{a:Act}{w:World}(h:∃st,Q st/\gl F st a w):∀(kt:List KI),l5 P F Q kt .ret a w
 |[]=>⟨.inr rfl,h⟩
 |.code _::kt=>lT h kt
 |.inBlock _::kt=>lT h kt
 |.ops _ _::kt=>lT h kt
 |.stop _::kt=>lT h kt
def ai.ret(h:Q st):ai P n (.code .ret::k) st Q:=by
 intro F hn kt hk a w hs;obtain⟨z,YA,rfl,hy,XO⟩:=fg hk;obtain⟨c0,rfl,hc⟩:=iO hy;have hc0:c0=.ret:=by
  cases c0<;>simp only[dZ,reduceCtorEq]at hc<;>(try (split at hc;cases hc))<;>(try (split at hc<;>cases hc))<;>try rfl
 subst hc0;exact wpIn_ret (lT ⟨st,h,hs⟩ YA)
def ai.cond{c:VX}{x y:bW}{b:Bool}(hc:c.ev st.s=.bool b)(h1:b=true->ai P n (.code x::k) st Q)(h2:b=false->ai P n (.code y::k) st Q):
 ai P n (.code (.cond c x y)::k) st Q:=by
 intro F hn kt hk a w hs;obtain⟨z,YA,rfl,hy,XO⟩:=fg hk;obtain⟨c0,rfl,Xo⟩:=iO hy;have hc0:∃o x0 y0,c0=.cond o x0 y0/\cx n o=c/\dZ P n x0=x/\dZ P n y0=y:=by
  cases c0<;>simp only[dZ,reduceCtorEq,bW.cond.injEq]at Xo
  case region=>(split at Xo;cases Xo);split at Xo<;>cases Xo
  exact⟨_,_,_,rfl,Xo.1,Xo.2.1,Xo.2.2⟩
 obtain⟨o,x0,y0,rfl,rfl,rfl,rfl⟩:=hc0;obtain⟨I,VW⟩:=hs;have he:=dr VW o;rw[hn,hc]at he;simp only[E']at he;exact wpIn_cond_split he (λhb=>h1 hb F hn (.code x0::YA) (by simp[KI.it,XO]) a w ⟨I,VW⟩) (λhb=>h2 hb F hn (.code y0::YA) (by simp[KI.it,XO]) a w ⟨I,VW⟩)
def ai.region{l:List aK}(h:ai P n (.ops l::k) st Q):ai P n (.code (.reg false l)::k) st Q:=by
 intro F hn kt hk a w hs;obtain⟨z,YA,rfl,hy,XO⟩:=fg hk;obtain⟨c0,rfl,Xo⟩:=iO hy;have hc0:∃id ops,c0=.region id ops false/\ops.toList.map (dg P n ops)=l:=by
  cases c0<;>simp only[dZ,reduceCtorEq]at Xo;rename_i id ops draw;cases draw
  .simp only[Bool.false_and,gi,if_false,bW.reg.injEq,true_and]at Xo;exact⟨id,ops,rfl,Xo⟩
  .simp only[Bool.true_and]at Xo;split at Xo
   .cases Xo
   .split at Xo
    .cases Xo
    .simp at Xo
 obtain⟨id,ops,rfl,rfl⟩:=hc0;exact wpIn_region_list (h F hn (.ops ops ops.toList::YA) (by simp[KI.it,XO]) a w hs)
def ai.DD(h:ai P n k st Q):ai P n (.ops []::k) st Q:=by
 intro F hn kt hk a w hs;obtain⟨z,YA,rfl,hy,XO⟩:=fg hk;cases z<;>simp only[KI.it,It.ops.injEq,reduceCtorEq,List.map_eq_nil_iff]at hy;subst hy;exact h F hn YA XO a w hs
def bz(s:Nat->V):Option (VX×Bool)->Option Bool
 |none=>some true
 |some (x,b)=>match x.ev s with
    |.bool c=>some (c==b)
    |.VG []=>some false
    |.int _ _=>some false
    |_=>none
def uu{F:Fr}{I:Mu}{st:St}{a:Act}{w:World}(hs:dB F I st a w)(all:Array Oper)(o:Oper){b:Bool}(h:bz st.s (dg P F.n all o).g=some b):
 Region.wanted o (yielded all a.tmps)=b:=by
 unfold Region.wanted;cases hg:o.guard with
 |none=>simp[dg,hg,bz]at h;simp[h]
 |some g=>
  obtain⟨j,want⟩:=g;simp only[dg,hg,Option.map_some,bz]at h;cases hd:(all[j]?).bind (·.dst)with
  |none=>
   simp only[hd,VX.ev]at h;simp only[aS]at h;subst h;simp[yielded,hd]
  |some d=>
   simp only[hd]at h;by_cases hdn:d<F.n
   .simp only[av hdn,VX.ev]at h;have hr:=hs.slot d hdn;have XE:a.tmps[d]?=some (a.tmps.getD d undef):=by
     rw[Zq7,Array.getElem?_eq_getElem (by rw[hs.size];exact hdn)];rfl
    simp only[yielded,hd,Option.bind_some,XE];split at h
    .rename_i c hc;rw[hc]at hr;simp only[E']at hr;rw[hr];simp only[aS]at h;rw[<-h];rfl
    .rename_i hc;rw[hc]at hr;simp only[E',aq]at hr;obtain⟨VI,hv,rfl⟩:=hr;rw[hv];simp only[aS]at h;rw[<-h];rfl
    .rename_i hc;rw[hc]at hr;simp only[E']at hr;rw[hr];simp only[aS]at h;rw[<-h];rfl
    .cases h
   .simp only[aD hdn,VX.ev]at h;simp only[aS]at h;have hle:a.tmps.size<=d:=by rw[hs.size];exact Nat.le_of_not_lt hdn
    have:a.tmps[d]?=none:=Array.getElem?_eq_none hle;simp[yielded,hd,this,<-h]
def St.put(st:St)(d:Option Nat)(v:V):St:=⟨bc st.s d v,st.U⟩
def ai.LU{i:aK}{l:List aK}(hw:bz st.s i.g=some true)
 (h:∀(F:Fr),F.n=n->∀(I:Mu) (a:Act) (w:World) (o:Oper) (all:Array Oper),dg P n all o=i->dB F I st a w->
   ∀(next:Act->World->Prop) (Q':Exit->Act->World->Prop),(∀Ye a' w',gl F Ye a' w'->ai P n (.ops l::k) Ye Q->next a' w')->o.wpIn F.fC 0 P a w next Q'):
 ai P n (.ops (i::l)::k) st Q:=by
 intro F hn kt hk a w hs;obtain⟨z,YA,rfl,hy,XO⟩:=fg hk;cases z<;>simp only[KI.it,It.ops.injEq,reduceCtorEq]at hy;rename_i all os;cases os with
 |nil=>simp at hy
 |cons o os=>
  simp only[fF,List.cons.injEq]at hy;obtain⟨hi,hl⟩:=hy;obtain⟨I,VW⟩:=hs;have hwant:=uu (P:=P) VW all o (b:=true) (by rw[hn,hi];exact hw);simp only[l5,wpListIn,hwant,if_true];refine h F hn I a w o all hi VW _ _ ?_;intro Ye a' w' hs'' hsem;exact hsem F hn (.ops all os::YA) (by simp[KI.it,hl,XO]) a' w' hs''
def ai.ins{i:aK}{l:List aK}(hb:i.op≠.bad)(hw:bz st.s i.g=some true)
 (h:∀(F:Fr),F.n=n->∀(I:Mu) (a:Act) (w:World) (o:Oper) (all:Array Oper),dg P n all o=i->dB F I st a w->
   ∀(next:Act->World->Prop) (Q':Exit->Act->World->Prop),(∀Ye a' w',gl F Ye a' w'->ai P n (.ops l::k) Ye Q->next a' w')->o.wp P a w next Q'):
 ai P n (.ops (i::l)::k) st Q:=by
 refine ai.LU hw λF hn I a w o all hi hs next Q' VT=>Kz ?_ (h F hn I a w o all hi hs next Q' VT)
 refine og (P:=P) (n:=n) ?_;have:i.op=Wj P n o.op:=by rw[<-hi];rfl
 rw[<-this];exact hb
def ai.uF{i:aK}{l:List aK}(hw:bz st.s i.g=some false)(h:ai P n (.ops l::k) (st.put i.dst (.VG [])) Q):ai P n (.ops (i::l)::k) st Q:=by
 intro F hn kt hk a w hs;obtain⟨z,YA,rfl,hy,XO⟩:=fg hk;cases z<;>simp only[KI.it,It.ops.injEq,reduceCtorEq]at hy;rename_i all os;cases os with
 |nil=>simp at hy
 |cons o os=>
  simp only[fF,List.cons.injEq]at hy;obtain⟨hi,hl⟩:=hy;obtain⟨I,VW⟩:=hs;have hwant:=uu (P:=P) VW all o (b:=false) (by rw[hn,hi];exact hw);simp only[l5,wpListIn,hwant,gi,if_false];refine⟨λ_ _=>trivial,?_⟩;refine h F hn (.ops all os::YA) (by simp[KI.it,hl,XO]) _ w ⟨I,?_⟩;have hd:i.dst=o.dst.filter (·<F.n):=by rw[<-hi,hn];rfl
  rw[St.put,hd];exact VW.pure (by simp only[E'];exact⟨[],rfl,by simp[aq]⟩)
def ai.pure{i:aK}{l:List aK}{v:V}(hw:bz st.s i.g=some true)(hp:eL st.s i.op)(hv:aJ st.U st.s i.op=some v)
 (h:ai P n (.ops l::k) (st.put i.dst v) Q):ai P n (.ops (i::l)::k) st Q:=by
 refine ai.ins (λe=>by rw[e]at hv;simp[aJ]at hv) hw λF hn I a w o all hi hs next Q' VT=>?_
 subst hn;have VS:i.op=Wj P F.n o.op:=by rw[<-hi];rfl
 have hd:i.dst=o.dst.filter (·<F.n):=by rw[<-hi];rfl
 obtain⟨z,hz,hr⟩:=sN hs o (VS▸hp) (VS▸hv);unfold Oper.wp;rw[hz];refine VT (st.put i.dst v) _ _ ⟨I,?_⟩ h;rw[St.put,hd];exact hs.pure hr
variable {P:Program} {n:Nat} {st:St} {Q:St->Prop} {k:List It}
def FE{F:Fr}{o:Oper}{a:Act}{w:World}{next next':Act->World->Prop}{R R':Exit->Act->World->Prop}(h:o.wpIn F.fC 0 P a w next R)
 (hn:∀a w,next a w->next' a w)(hq:∀e a w,e≠.normal->R e a w->R' e a w):o.wpIn F.fC 0 P a w next' R':=by
 refine⟨h.1,?_⟩;have h:=h.2;generalize (o.semAt F.fC.round a.eval).run P w=r at*;cases r with
 |ok x w'=>
  cases x<;>simp only[Oper.uponIn]at h|-<;>first
   |exact hn _ _ h
   |exact⟨h.1,CallsIn.mono h.2 (λe w'' he=>by cases e<;>first|exact hn _ _ he|exact hq _ _ _ (by simp) he|(obtain⟨a0,w0,h2⟩:=he;exact⟨a0,w0,hq _ _ _ (by simp) h2⟩))⟩
   |exact⟨h.1,RowsIn.mono h.2 (λ_ _ he=>hn _ _ he)⟩
   |exact⟨h.1,RoundIn.mono h.2 (λe w'' he=>by cases e<;>first|exact hn _ _ he|exact hq _ _ _ (by simp) he|(obtain⟨a0,w0,h2⟩:=he;exact⟨a0,w0,hq _ _ _ (by simp) h2⟩))⟩
   |contradiction
 |halt x w'=>cases x<;>simp only[Oper.uponIn]at h|-<;>first|exact hq _ _ _ (by simp) h|contradiction
def ng{F:Fr}{all:Array Oper}{R R':Exit->Act->World->Prop}(hq:∀e a w,R e a w->R' e a w):∀(l:List Oper) (a:Act) (w:World),wpListIn F.fC 0 P all R l a w->wpListIn F.fC 0 P all R' l a w
 |[],a,w,h=>hq _ _ _ h
 |o::l,a,w,h=>by
  simp only[wpListIn]at h|-;split
  .rename_i hw;simp only[hw,if_true]at h;exact FE h (ng hq l) (λe a w _=>hq e a w)
  .rename_i hw;simp only[hw]at h;exact⟨h.1,ng hq l _ _ h.2⟩
def Wk(U Z':ad)(v v':V):Prop:=∀(I:Mu) (w0 w:World) (WU:Nat->Prop) (x:Value),Sat w0 WU I U w->E' I (aE I U) w v x->E' I (aE I Z') w v' x
def Wk.refl{U Z':ad}(h:aa Z' U)(v:V):Wk U Z' v v:=λI _ w _ x _ hr=>E'.mono (dL.refl I) (di.sub w h) (Wa _) v x hr
def Wk.undef{U Z':ad}(v:V):Wk U Z' v .undef:=λ_ _ _ _ _ _ _=>by simp[E']
def Wk.own{U Z':ad}(h:aa Z' U){id off len:Nat}{ob:Ob}(ho:U id=some ob)(M':Z' id=none)(hl:off+len<=ob.rows.length):
 Wk U Z' (.own id off len) (.sl ob.sz ((ob.rows.drop off).take len)):=by
 intro I w0 w WU x hs hr;simp only[E']at hr|-;have hlen:((ob.rows.drop off).take len).length=len:=by simp;omega
 have WO:=hs.obj id ob ho;split at hr
 .exact hr.elim
 .obtain⟨rfl,rfl,rfl⟩:=hr;exact⟨none,0,by simp,by simp,.inl (by simp)⟩
 .rename_i b sz cap hb;obtain⟨o,c,rfl,h1,h2,h3,hz⟩:=hr;refine⟨_,c,by rw[hlen],by omega,?_⟩;by_cases h0:len=0
  .left;subst h0;simp
  .right;rw[hb]at WO;obtain⟨g1,g2,g3,g4,g5⟩:=WO.rows hz;have ho':o=off*sz:=by
    rcases h3 with h3|h3
    .exact h3
    .omega
   subst ho' g1;refine⟨b,_,rfl,?_,g2,?_⟩
   .rintro⟨Xn,ob',XP,W2,e1,e2⟩;have:=hs.inj Xn id ob' ob _ _ _ _ _ (h _ _ e1) ho e2 hb;rw[this,M']at e1;cases e1
   .have:=(g5.drop off).take len;rw[fU]at this;exact bg.mono (dL.refl I) (di.sub w h) (Wa _) _ _ _ _ rfl this
def WkL(U Z':ad):List V->List V->Prop
 |[],[]=>True
 |v::vs,v'::vs'=>Wk U Z' v v'/\WkL U Z' vs vs'
 |_,_=>False
def WkL.all{U Z':ad}{I:Mu}{w0 w:World}{WU:Nat->Prop}(hs:Sat w0 WU I U w):∀{vs vs':List V} {l:List Value},WkL U Z' vs vs'->
 aq I (aE I U) w vs l->aq I (aE I Z') w vs' l
 |[],[],_,_,h=>by simpa[aq]using h
 |v::vs,v'::vs',l,hw,h=>by
  simp only[aq]at h|-;obtain⟨x,xs,rfl,h1,h2⟩:=h;exact⟨x,xs,rfl,hw.1 I w0 w WU x hs h1,WkL.all hs hw.2 h2⟩
 |[],_::_,_,hw,_=>hw.elim
 |_::_,[],_,hw,_=>hw.elim
def Wk.agg{U Z':ad}{vs vs':List V}(h:WkL U Z' vs vs'):Wk U Z' (.agg vs) (.agg vs'):=by
 intro I w0 w WU x hs hr;simp only[E']at hr|-;obtain⟨VI,rfl,h1,h2⟩:=hr;exact⟨VI,rfl,WkL.all hs h h1,h2⟩
def Wk.VG{U Z':ad}{vs vs':List V}(h:WkL U Z' vs vs'):Wk U Z' (.VG vs) (.VG vs'):=by
 intro I w0 w WU x hs hr;simp only[E']at hr|-;obtain⟨VI,rfl,h1⟩:=hr;exact⟨VI,rfl,WkL.all hs h h1⟩
def N6(st Ye:St):Prop:=aa Ye.U st.U/\∀i,Wk st.U Ye.U (st.s i) (Ye.s i)
def N6.sat{st Ye:St}(h:N6 st Ye){F:Fr}{a:Act}{w:World}(hs:gl F st a w):gl F Ye a w:=by
 obtain⟨I,hs⟩:=hs;exact⟨I,hs.sat.drop h.1,hs.le,hs.size,hs.book.mR (di.sub w h.1),λi hi=>h.2 i I _ _ _ _ hs.sat (hs.slot i hi)⟩
def ai.weaken{todo:List It}{Ye:St}(h:N6 st Ye)(hr:ai P n todo Ye Q):ai P n todo st Q:=
 λF hn kt hk a w hs=>hr F hn kt hk a w (h.sat hs)
def xD{F:Fence}{m0:Nat}{c:Code}{Q':Exit->Act->World->Prop}(μ:Nat->Act->World->Prop)
 (round:∀m a w,μ m a w->c.wpIn F m0 P (Exit.then (λa' w'=>∃m',m'<m/\μ m' a' w') Q') a w):∀m a w,μ m a w->(Code.loop c).wpIn F m0 P Q' a w:=by
 intro m a w h b k cs XZ hb hr;have key:∀m a w,μ m a w->∃e a' w',Q' e a' w'/\ArrivesIn (Machine.fenced P F) P (lone (b.atR a (.code c::.inLoop c::k)) cs w) b k cs e a' w':=by
  intro m
  induction m using Nat.strongRecOn with
  |_ m ih=>
   intro a w hI;obtain⟨e,a₁,w₁,hq,harr⟩:=round m a w hI b (.inLoop c::k) cs XZ hb hr;cases e with
   |normal=>
    obtain⟨m',B',hI'⟩:=hq;obtain⟨e₂,a₂,w₂,hq₂,harr₂⟩:=ih m' B' a₁ w₁ hI';exact⟨e₂,a₂,w₂,hq₂,.of_steps (StepsIn.trans harr (.one (fenced_calm hb hr rfl) stepR_inLoop)) harr₂⟩
   |exit id=>exact⟨_,a₁,w₁,hq,.pass (x:=.inLoop c) rfl (λ_ _=>.inl (by simp)) harr⟩
   |goto l=>exact⟨_,a₁,w₁,hq,.pass (x:=.inLoop c) rfl (λ_ _=>.inl (by simp)) harr⟩
   |ret=>exact⟨_,a₁,w₁,hq,.pass (x:=.inLoop c) rfl (λ_ _=>.inl (by simp)) harr⟩
   |panic ch=>exact⟨_,a₁,w₁,hq,.pass (x:=.inLoop c) rfl (λ_ _=>.inl (by simp)) harr⟩
   |outgrown=>exact⟨_,a₁,w₁,hq,.pass (x:=.inLoop c) rfl (λ_ _=>.inl (by simp)) harr⟩
 obtain⟨e,a',w',hq,harr⟩:=key m a w h;exact⟨e,a',w',hq,.of_steps (.one (fenced_calm hb hr rfl) stepR_loop) harr⟩
def ai.loop{x:bW}(μ:Nat->St->Prop)(m:Nat)(h0:μ m st)(hr:∀m st,μ m st->ai P n (.code x::.stop (λYe=>∃m',m'<m/\μ m' Ye)::k) st Q):
 ai P n (.code (.loop x)::k) st Q:=by
 intro F hn kt hk a w hs;obtain⟨z,YA,rfl,hy,XO⟩:=fg hk;obtain⟨c0,rfl,hc⟩:=iO hy;have hc0:∃x0,c0=.loop x0/\dZ P n x0=x:=by
  cases c0<;>simp only[dZ,reduceCtorEq,bW.loop.injEq]at hc
  case region=>(split at hc;cases hc);split at hc<;>cases hc
  exact⟨_,rfl,hc⟩
 obtain⟨x0,rfl,rfl⟩:=hc0;refine xD (λm a w=>∃st,μ m st/\gl F st a w) ?_ m a w ⟨st,h0,hs⟩;rintro m a w ⟨st,hi,hs⟩;refine wpIn_mono (hr m st hi F hn (.code x0::.stop (λYe=>∃m',m'<m/\μ m' Ye)::YA) (by simp[KI.it,XO]) a w hs) ?_;intro e a' w' h;cases e
 case normal=>obtain⟨Ye,⟨m',B',hi'⟩,VW⟩:=h;exact⟨m',B',Ye,hi',VW⟩
 all_goals exact h
variable {P:Program} {n:Nat} {st:St} {Q:St->Prop} {k:List It}
def yu{o:Op}{e sz:Nat}{z:V}(h:Wj P n o=.alloc e sz z):∃i zv,o=.alloc e/\zeroOf P e=some (i,zv)/\i.size=sz/\ofValue zv=z:=by
 cases o
 case alloc t=>
  simp only[Wj,cV]at h;split at h
  .rename_i i zv hz;simp only[Wd.alloc.injEq]at h;obtain⟨rfl,h2,h3⟩:=h;exact⟨i,zv,rfl,hz,h2,h3⟩
  ·(repeat' split at h)<;>cases h
 case call c=>
  obtain⟨callee,args,argTypes⟩:=c;cases callee
  case builtin b=>cases b<;>simp only[Wj,cV]at h<;>(repeat' split at h)<;>cases h
  all_goals (simp only[Wj,cV]at h;cases h)
 case unOp op t x=>cases op<;>simp only[Wj,cV]at h<;>cases h
 case makeFunc f a b=>cases f<;>simp only[Wj,cV]at h<;>(repeat' split at h)<;>cases h
 all_goals (simp only[Wj,cV]at h;(repeat' split at h)<;>cases h)
def xM{o:Op}{sz:Nat}{xa xv:VX}(h:Wj P n o=.store sz xa xv):∃t x y,o=.store t x y/\cg P t=true/\P.cellsOf t=sz/\cx n x=xa/\cx n y=xv:=by
 cases o
 case store t x y=>
  simp only[Wj,cV]at h;split at h
  .rename_i hk;simp only[Wd.store.injEq]at h;exact⟨t,x,y,rfl,hk,h.1,h.2.1,h.2.2⟩
  ·(repeat' split at h)<;>cases h
 case call c=>
  obtain⟨callee,args,argTypes⟩:=c;cases callee
  case builtin b=>cases b<;>simp only[Wj,cV]at h<;>(repeat' split at h)<;>cases h
  all_goals (simp only[Wj,cV]at h;cases h)
 case unOp op t x=>cases op<;>simp only[Wj,cV]at h<;>cases h
 case makeFunc f a b=>cases f<;>simp only[Wj,cV]at h<;>(repeat' split at h)<;>cases h
 all_goals (simp only[Wj,cV]at h;(repeat' split at h)<;>cases h)
def u5{o:Op}{e sz:Nat}{xs:List VX}(h:Wj P n o=.gW e sz xs):∃t len parts i z,o=.buildSlice t len parts/\P.underlying t=some (.slice e)/\zeroOf P e=some (i,z)/\
 i.size=sz/\parts.toList.map (·.1)=List.range len/\len*i.size<=16777216/\parts.toList.map (λp=>cx n p.2)=xs:=by
 cases o
 case buildSlice t len parts=>
  simp only[Wj,cV]at h;split at h
  .rename_i e' he;split at h
   .rename_i i z hz;split at h
    .rename_i hc;simp only[Wd.gW.injEq]at h;obtain⟨rfl,h2,h3⟩:=h;exact⟨t,len,parts,i,z,rfl,he,hz,h2,hc.1,hc.2,h3⟩
    .cases h
   .cases h
  .cases h
 case call c=>
  obtain⟨callee,args,argTypes⟩:=c;cases callee
  case builtin b=>cases b<;>simp only[Wj,cV]at h<;>(repeat' split at h)<;>cases h
  all_goals (simp only[Wj,cV]at h;cases h)
 case unOp op t x=>cases op<;>simp only[Wj,cV]at h<;>cases h
 case makeFunc f a b=>cases f<;>simp only[Wj,cV]at h<;>(repeat' split at h)<;>cases h
 all_goals (simp only[Wj,cV]at h;(repeat' split at h)<;>cases h)
def GR{o:Op}{e sz bytes:Nat}{zv:V}{xn:VX}(h:Wj P n o=.mk e sz bytes zv xn):∃t l c i z,o=.makeSlice t l c/\P.underlying t=some (.slice e)/\zeroOf P e=some (i,z)/\
 i.size=sz/\i.bytes=bytes/\ofValue z=zv/\uL l c=true/\cx n l=xn:=by
 cases o
 case makeSlice t l c=>
  simp only[Wj,cV]at h;split at h
  .rename_i e' he;split at h
   .rename_i i z hz;split at h
    .rename_i hc;simp only[Wd.mk.injEq]at h;obtain⟨rfl,h2,h3,h4,h5⟩:=h;exact⟨t,l,c,i,z,rfl,he,hz,h2,h3,h4,hc,h5⟩
    .cases h
   .cases h
  .cases h
 case call c=>
  obtain⟨callee,args,argTypes⟩:=c;cases callee
  case builtin b=>cases b<;>simp only[Wj,cV]at h<;>(repeat' split at h)<;>cases h
  all_goals (simp only[Wj,cV]at h;cases h)
 case unOp op t x=>cases op<;>simp only[Wj,cV]at h<;>cases h
 case makeFunc f a b=>cases f<;>simp only[Wj,cV]at h<;>(repeat' split at h)<;>cases h
 all_goals (simp only[Wj,cV]at h;(repeat' split at h)<;>cases h)
def BD{o:Op}{e sz bytes:Nat}{zv:V}{xa xb:VX}(h:Wj P n o=.appz e sz bytes zv xa xb):∃t tn kn x y args argTypes i z,o=.call { callee:=.builtin .append,args:=args,argTypes:=argTypes }/\
 args=#[x,y]/\argTypes=#[t,tn]/\P.underlying t=some (.slice e)/\P.underlying tn=some (.int kn)/\zeroOf P e=some (i,z)/\i.size=sz/\i.bytes=bytes/\ofValue z=zv/\cx n x=xa/\cx n y=xb:=by
 cases o
 case call c=>
  obtain⟨callee,args,argTypes⟩:=c;cases callee
  case value=>simp[Wj]at h
  case invoke=>simp[Wj]at h
  case builtin b=>
   cases b
   case append=>
    simp only[Wj,cV]at h;split at h
    .rename_i x y t t' h1 h2;split at h
     .split at h
      .split at h<;>cases h
      .cases h
     .split at h
      .rename_i e' kn he hn;split at h
       .rename_i i z hz;simp only[Wd.appz.injEq]at h;obtain⟨rfl,h4,h5,h6,h7,h8⟩:=h;exact⟨t,t',kn,x,y,args,argTypes,i,z,rfl,by apply Array.ext';simpa using h1,by apply Array.ext';simpa using h2,he,hn,hz,h4,h5,h6,h7,h8⟩
       .cases h
      .split at h<;>cases h
      .cases h
    .cases h
   all_goals (simp only[Wj,cV]at h;(repeat' split at h)<;>cases h)
 case unOp op t x=>cases op<;>simp only[Wj,cV]at h<;>cases h
 case makeFunc f a b=>cases f<;>simp only[Wj,cV]at h<;>(repeat' split at h)<;>cases h
 all_goals (simp only[Wj,cV]at h;(repeat' split at h)<;>cases h)
def vx{o:Op}{e sz bytes:Nat}{xa xb:VX}(h:Wj P n o=.append e sz bytes xa xb):∃t t' x y args argTypes i z,o=.call { callee:=.builtin .append,args:=args,argTypes:=argTypes }/\
 args=#[x,y]/\argTypes=#[t,t']/\(t'=t\/P.underlying t'=some .string)/\P.underlying t=some (.slice e)/\zeroOf P e=some (i,z)/\i.size=sz/\i.bytes=bytes/\cx n x=xa/\cx n y=xb:=by
 cases o
 case call c=>
  obtain⟨callee,args,argTypes⟩:=c;cases callee
  case value=>simp[Wj]at h
  case invoke=>simp[Wj]at h
  case builtin b=>
   cases b
   case append=>
    simp only[Wj,cV]at h;split at h
    .rename_i x y t t' h1 h2;split at h
     .rename_i htt;subst htt;split at h
      .rename_i e' he;split at h
       .rename_i i z hz;simp only[Wd.append.injEq]at h;obtain⟨rfl,h4,h5,h6,h7⟩:=h;exact⟨t,t,x,y,args,argTypes,i,z,rfl,by apply Array.ext';simpa using h1,by apply Array.ext';simpa using h2,.inl rfl,he,hz,h4,h5,h6,h7⟩
       .cases h
      .cases h
     .split at h
      .split at h<;>cases h
      .rename_i e' he hn;split at h
       .rename_i i z hz;simp only[Wd.append.injEq]at h;obtain⟨rfl,h4,h5,h6,h7⟩:=h;exact⟨t,t',x,y,args,argTypes,i,z,rfl,by apply Array.ext';simpa using h1,by apply Array.ext';simpa using h2,.inr hn,he,hz,h4,h5,h6,h7⟩
       .cases h
      .cases h
    .cases h
   all_goals (simp only[Wj,cV]at h;(repeat' split at h)<;>cases h)
 case unOp op t x=>cases op<;>simp only[Wj,cV]at h<;>cases h
 case makeFunc f a b=>cases f<;>simp only[Wj,cV]at h<;>(repeat' split at h)<;>cases h
 all_goals (simp only[Wj,cV]at h;(repeat' split at h)<;>cases h)
def nA{o:Op}{f:VX}{xs:List VX}(h:Wj P n o=.call f xs):∃f0 args argTypes,o=.call { callee:=.value f0,args:=args,argTypes:=argTypes }/\cx n f0=f/\args.toList.map (cx n)=xs:=by
 cases o
 case call c=>
  obtain⟨callee,args,argTypes⟩:=c;cases callee
  case value f0=>simp only[Wj,Wd.call.injEq]at h;exact⟨f0,args,argTypes,rfl,h.1,h.2⟩
  case invoke=>simp[Wj]at h
  case builtin b=>cases b<;>simp only[Wj,cV]at h<;>(repeat' split at h)<;>cases h
 case unOp op t x=>cases op<;>simp only[Wj,cV]at h<;>cases h
 case makeFunc f a b=>cases f<;>simp only[Wj,cV]at h<;>(repeat' split at h)<;>cases h
 all_goals (simp only[Wj,cV]at h;(repeat' split at h)<;>cases h)
def DL{o:Op}{e sz:Nat}{xv:VX}(h:Wj P n o=.box e sz xv):∃x,o=.box e x/\cg P e=true/\P.cellsOf e=sz/\cx n x=xv:=by
 cases o
 case box t x=>
  simp only[Wj,cV]at h;split at h
  .rename_i hk;simp only[Wd.box.injEq]at h;obtain⟨rfl,h2,h3⟩:=h;exact⟨x,rfl,hk,h2,h3⟩
  .cases h
 case call c=>
  obtain⟨callee,args,argTypes⟩:=c;cases callee
  case builtin b=>cases b<;>simp only[Wj,cV]at h<;>(repeat' split at h)<;>cases h
  all_goals (simp only[Wj,cV]at h;cases h)
 case unOp op t x=>cases op<;>simp only[Wj,cV]at h<;>cases h
 case makeFunc f a b=>cases f<;>simp only[Wj,cV]at h<;>(repeat' split at h)<;>cases h
 all_goals (simp only[Wj,cV]at h;(repeat' split at h)<;>cases h)
def yg{o:Op}{sz:Nat}{z:V}{xv:VX}(h:Wj P n o=.clear sz z xv):∃x t e args argTypes i zv,o=.call { callee:=.builtin .clear,args:=args,argTypes:=argTypes }/\
 args=#[x]/\argTypes[0]?=some t/\P.underlying t=some (.slice e)/\zeroOf P e=some (i,zv)/\i.size=sz/\ofValue zv=z/\cx n x=xv:=by
 cases o
 case call c=>
  obtain⟨callee,args,argTypes⟩:=c;cases callee
  case builtin b=>
   cases b
   case clear=>
    simp only[Wj,cV]at h;split at h
    .rename_i x t h1 h2;split at h
     .rename_i e he;split at h
      .rename_i i zv hz;simp only[Wd.clear.injEq]at h;exact⟨x,t,e,args,argTypes,i,zv,rfl,by apply Array.ext';simpa using h1,h2,he,hz,h.1,h.2.1,h.2.2⟩
      .cases h
     .cases h
    .cases h
   all_goals (simp only[Wj,cV]at h;(repeat' split at h)<;>cases h)
  all_goals (simp only[Wj,cV]at h;cases h)
 case unOp op t x=>cases op<;>simp only[Wj,cV]at h<;>cases h
 case makeFunc f a b=>cases f<;>simp only[Wj,cV]at h<;>(repeat' split at h)<;>cases h
 all_goals (simp only[Wj,cV]at h;(repeat' split at h)<;>cases h)
def yK{F:Fr}{I:Mu}{a:Act}{w:World}(hs:dB F I st a w){o:Oper}{t:TypeId}{x:Operand}(hoo:o.op=.box t x)(hk:cg P t=true)
 (hx:((cx F.n x).ev st.s).cells.length=P.cellsOf t)(VP:((cx F.n x).ev st.s).stays=true):
 ∃id,st.U id=none/\∃y w' Y',(execOp a.eval o).run P w=.ok (.value y) w'/\
  dB F Y' ⟨bc st.s (o.dst.filter (·<F.n)) (.ptr id 0 0),C' st.U id ⟨t,P.cellsOf t,[(cx F.n x).ev st.s]⟩⟩ (a.put o.dst y) w':=by
 have Xd:=(eh hk).2.2;obtain⟨g1,g2⟩:=(dr hs x).cells VP;have hl:=(dr hs x).kB VP;obtain⟨id,M',Y',h1,h2,h3,h4⟩:=hs.sat.renew (row:=none) (World.grownBy_alloc w (.cells (a.eval x).cells t) none) none (.inl rfl) w.heap.size (P.cellsOf t) 1 (a.eval x).cells t [(cx F.n x).ev st.s] (a.eval x).cells.toList (.inr (Wa _))
  (heap_alloc_new w _) Xd (by omega) (by simp) (by simp[maxLen]) (by intro r hr;simp at hr;subst hr;exact hx)
  (by simp only[flat,zq,List.flatMap_nil,jt];exact g1) g2 (by intro j u hu;simpa using hu)
 refine⟨id,M',.pointer (some ⟨w.heap.size,0,none⟩),w.alloc (.cells (a.eval x).cells t),Y',?_,hs.step h3 h2 h4 (by simp) (by simp[E',h1];exact Xd)⟩;unfold execOp;rw[hoo];simp[Instr.box,newVar,newRow]
def ff{all:Array Oper}{o:Oper}{i:aK}(h:dg P n all o=i):Wj P n o.op=i.op/\o.dst.filter (·<n)=i.dst:=by rw[<-h];exact⟨rfl,rfl⟩
def ai.alloc{i:aK}{l:List aK}{e sz:Nat}{z:V}(hw:bz st.s i.g=some true)(ho:i.op=.alloc e sz z)
 (h:∀id,st.U id=none->ai P n (.ops l::k) ⟨bc st.s i.dst (.ptr id 0 0),C' st.U id ⟨e,sz,[z]⟩⟩ Q):ai P n (.ops (i::l)::k) st Q:=by
 refine ai.ins (by rw[ho];simp) hw λF hn I a w o all hi hs next Q' VT=>?_
 subst hn;obtain⟨VS,hd⟩:=ff hi;rw[ho]at VS;obtain⟨ti,zv,h1,h2,rfl,rfl⟩:=yu VS;obtain⟨id,M',x,w',Y',hx,VW⟩:=tu hs h1 h2;unfold Oper.wp;rw[hx];refine VT _ _ _ ⟨Y',?_⟩ (h id M');rw[<-hd];exact VW
def ai.box{i:aK}{l:List aK}{e sz:Nat}{xv:VX}(hw:bz st.s i.g=some true)(ho:i.op=.box e sz xv)
 (hx:(xv.ev st.s).cells.length=sz)(VP:(xv.ev st.s).stays=true)
 (h:∀id,st.U id=none->ai P n (.ops l::k) ⟨bc st.s i.dst (.ptr id 0 0),C' st.U id ⟨e,sz,[xv.ev st.s]⟩⟩ Q):ai P n (.ops (i::l)::k) st Q:=by
 refine ai.ins (by rw[ho];simp) hw λF hn I a w o all hi hs next Q' VT=>?_
 subst hn;obtain⟨VS,hd⟩:=ff hi;rw[ho]at VS;obtain⟨x,h1,h2,rfl,rfl⟩:=DL VS;obtain⟨id,M',y,w',Y',hy,VW⟩:=yK hs h1 h2 hx VP;unfold Oper.wp;rw[hy];refine VT _ _ _ ⟨Y',?_⟩ (h id M');rw[<-hd];exact VW
def ai.store{i:aK}{l:List aK}{sz:Nat}{xa xv:VX}(hw:bz st.s i.g=some true)(ho:i.op=.store sz xa xv)
 {id r0 c:Nat}(h1:xa.ev st.s=.ptr id r0 c){ob:Ob}(h2:st.U id=some ob){r r':V}(h3:ob.rows[r0]?=some r)(h4:cF r c sz (xv.ev st.s)=some r')
 (h:ai P n (.ops l::k) ⟨bc st.s i.dst (.VG []),C' st.U id { ob with rows:=ob.rows.set r0 r' }⟩ Q):ai P n (.ops (i::l)::k) st Q:=by
 refine ai.ins (by rw[ho];simp) hw λF hn I a w o all hi hs next Q' VT=>?_
 subst hn;obtain⟨VS,hd⟩:=ff hi;rw[ho]at VS;obtain⟨t,x,y,g1,g2,rfl,rfl,rfl⟩:=xM VS;obtain⟨w',hx,VW⟩:=tI hs g1 g2 h1 h2 h3 h4;unfold Oper.wp;rw[hx];refine VT _ _ _ ⟨I,?_⟩ h;rw[<-hd];exact VW
def ai.mkS{i:aK}{l:List aK}{e sz bytes:Nat}{zv:V}{xn:VX}(hw:bz st.s i.g=some true)(ho:i.op=.mk e sz bytes zv xn){m:Int}(hm:xn.ev st.s=.int .i64 m)
 (h0:0<=m)(hb:m.toNat*(bytes+1)<=140737488355328)
 (h:∀id,st.U id=none->ai P n (.ops l::k) ⟨bc st.s i.dst (.own id 0 m.toNat),C' st.U id ⟨e,sz,List.replicate m.toNat zv⟩⟩ Q):ai P n (.ops (i::l)::k) st Q:=by
 refine ai.ins (by rw[ho];simp) hw λF hn I a w o all hi hs next Q' VT=>?_
 subst hn;obtain⟨VS,hd⟩:=ff hi;rw[ho]at VS;obtain⟨t,l',c,ti,z,h1,h2,h3,rfl,rfl,rfl,h5,rfl⟩:=GR VS;obtain⟨id,M',x,w',Y',Wl,VW⟩:=Cg hs h1 h5 h2 h3 hm h0 hb;unfold Oper.wp;rw[Wl];refine VT _ _ _ ⟨Y',?_⟩ (h id M');rw[<-hd];exact VW
def ai.RR{i:aK}{l:List aK}{e sz bytes:Nat}{zv:V}{xa xn:VX}(hw:bz st.s i.g=some true)(ho:i.op=.appz e sz bytes zv xa xn)(hx:xa.ev st.s=.aO){kq:IntKind}{m:Int}(hm:xn.ev st.s=.int kq m)
 (h0:0<m)(hb:m.toNat*(bytes+1)<=140737488355328)
 (h:∀id,st.U id=none->ai P n (.ops l::k) ⟨bc st.s i.dst (.own id 0 m.toNat),C' st.U id ⟨e,sz,List.replicate m.toNat zv⟩⟩ Q):ai P n (.ops (i::l)::k) st Q:=by
 refine ai.ins (by rw[ho];simp) hw λF hn I a w o all hi hs next Q' VT=>?_
 subst hn;obtain⟨VS,hd⟩:=ff hi;rw[ho]at VS;obtain⟨t,tn,kn,x,y,args,argTypes,ti,z,h1,h2,h3,h4,h5,h6,rfl,rfl,rfl,rfl,rfl⟩:=BD VS;obtain⟨id,M',x,w',Y',Wl,VW⟩:=wh hs h1 h2 h3 h4 h5 h6 hx hm h0 hb;unfold Oper.wp;rw[Wl];refine VT _ _ _ ⟨Y',?_⟩ (h id M');rw[<-hd];exact VW
def ai.gW{i:aK}{l:List aK}{e sz:Nat}{xs:List VX}(hw:bz st.s i.g=some true)(ho:i.op=.gW e sz xs)
 (hx:∀x∈xs.map (·.ev st.s),x.cells.length=sz/\x.stays=true)
 (h:∀id,st.U id=none->ai P n (.ops l::k) ⟨bc st.s i.dst (.own id 0 xs.length),C' st.U id ⟨e,sz,xs.map (·.ev st.s)⟩⟩ Q):ai P n (.ops (i::l)::k) st Q:=by
 refine ai.ins (by rw[ho];simp) hw λF hn I a w o all hi hs next Q' VT=>?_
 subst hn;obtain⟨VS,hd⟩:=ff hi;rw[ho]at VS;obtain⟨t,len,parts,ti,z,h1,h2,h3,rfl,h5,h6,rfl⟩:=u5 VS;rw[List.map_map]at hx;obtain⟨id,M',x,w',Y',Wl,VW⟩:=qj hs h1 h2 h3 h5 h6 hx;unfold Oper.wp;rw[Wl];refine VT _ _ _ ⟨Y',?_⟩ (h id M');have hl:parts.size=len:=by have:=congrArg List.length h5;simpa using this
 simp only[cO,List.map_map,Array.length_toList,hl,<-hd];exact VW
def ai.append{i:aK}{l:List aK}{e sz bytes:Nat}{xa xb:VX}(hw:bz st.s i.g=some true)(ho:i.op=.append e sz bytes xa xb)
 {base src:List V}{idA:Option Nat}(h1:bL st.U e sz (xa.ev st.s)=some (base,idA))(h2:bM st.U sz (xb.ev st.s)=some src)
 (hb:(base.length+src.length)*(bytes+1)<=140737488355328)
 (h:∀id,st.U id=none->ai P n (.ops l::k) ⟨bc st.s i.dst (.own id 0 (base.length+src.length)),C' (bN st.U idA) id ⟨e,sz,base++src⟩⟩ Q):
 ai P n (.ops (i::l)::k) st Q:=by
 refine ai.ins (by rw[ho];simp) hw λF hn I a w o all hi hs next Q' VT=>?_
 subst hn;obtain⟨VS,hd⟩:=ff hi;rw[ho]at VS;obtain⟨t,t',x,y,args,argTypes,ti,z,g1,g2,g3,g3',g4,g5,rfl,rfl,rfl,rfl⟩:=vx VS;obtain⟨id,M',r,w',Y',hx,VW⟩:=qX hs g1 g2 g3 g3' g4 g5 h1 h2 hb;unfold Oper.wp;rw[hx];refine VT _ _ _ ⟨Y',?_⟩ (h id M');rw[<-hd];exact VW
def fK(P:Program)(f:FuncId):Bool:=match P.funcs[f]? with
 |some fn=>fn.name != "runtime.NumGoroutine"&&fn.body.isSome
 |none=>false
def mr{w:World}{f:FuncId}(h:fK P f=true)(args:Array Value):(callFunc f args).run P w=.ok (.enter f args) w:=by
 unfold fK at h;split at h
 .rename_i fn hf;simp only[Ba,bne_iff_ne,ne_eq]at h;cases hb:fn.body with
  |none=>simp[hb]at h
  |some c=>simp[callFunc,hf,h.1,hb]
 .cases h
def au(P:Program)(f:FuncId)(args:List V)(U:ad)(Post:V->ad->Prop):Prop:=fK P f=true/\tO P f args U Post
def au.mono{f:FuncId}{args:List V}{U:ad}{Post Zj:V->ad->Prop}(h:au P f args U Post)(hp:∀r Z',Post r Z'->Zj r Z'):
 au P f args U Zj:=⟨h.1,h.2.mono hp⟩
def aq.app{I:Mu}{ow:Nat->Prop}{w:World}{vs us:List V}{l m:List Value}(h:aq I ow w vs l)(h':aq I ow w us m):aq I ow w (vs++us) (l++m):=h.append h'
def pt{F:Fr}{I:Mu}{a:Act}{w:World}(hs:dB F I st a w){o:Oper}{f0:Operand}{args:Array Operand}{argTypes:Array TypeId}
 (hoo:o.op=.call { callee:=.value f0,args:=args,argTypes:=argTypes }){f:FuncId}{caps:List V}(hf:(cx F.n f0).ev st.s=.fn f caps)
 {Post:V->ad->Prop}(hc:au P f ((args.toList.map (cx F.n)).map (·.ev st.s)++caps) st.U Post){next:Act->World->Prop}{Q':Exit->Act->World->Prop}
 (VT:∀r Z',Post r Z'->∀a' w',gl F ⟨bc st.s (o.dst.filter (·<F.n)) r,Z'⟩ a' w'->next a' w'):o.wp P a w next Q':=by
 have hfr:=dr hs f0;rw[hf]at hfr;simp only[E']at hfr;obtain⟨cvals,hfv,hcr⟩:=hfr;have WK:=(oe hs args.toList).app hcr;have Wv:(execOp a.eval o).run P w=.ok (.enter f ((args.toList.map a.eval++cvals).toArray)) w:=by
  unfold execOp;rw[hoo];simp only[resolve,hfv,Deferred.ofValue,Sem.run_bind,Sem.run_pure,Result.andThen_ok,invoke,mr hc.1];congr 2;apply Array.ext';simp
 unfold Oper.wp;rw[Wv];simp only[Oper.upon];have Yo:Sat w (aE I st.U) I st.U w:=by
  have h:=hs.sat;exact⟨Wa _,rfl,rfl,rfl,λ_ _ _=>rfl,h.fin,h.inj,h.obj,λb hb _=>hb,h.lU⟩
 refine(hc.2 I w _ Yo WK).mono ?_;rintro e w' ⟨r,Z',Y',val,rfl,hp,hle,VW,hr⟩;refine VT r Z' hp _ _ ⟨Y',?_⟩;have Yk:di (aE I st.U) (aE Y' Z') w w':=λb hb hn=>⟨λho=>hn (VW.fresh b ho hb),VW.same b hb hn⟩
 have h0:=hs.sat;have Xj:Sat F.w0 F.WU Y' Z' w':=by
  refine⟨j2 h0.size VW.size,VW.os.trans h0.os,VW.tape.trans h0.tape,VW.output.trans h0.output,?_,VW.fin,VW.inj,VW.obj,?_,h0.Za⟩
  .intro b hb hn;have h1:¬aE I st.U b:=λho=>hn (h0.fresh b ho hb);rw[VW.same b (Nat.lt_of_lt_of_le hb h0.size) h1,h0.same b hb hn]
  .intro b hb B';have h1:=VW.fresh b hb (Nat.lt_of_lt_of_le B' h0.size);exact h0.fresh b h1 B'
 exact hs.step Xj hle Yk VW.size hr
def ai.call{i:aK}{l:List aK}{fx:VX}{xs:List VX}(hw:bz st.s i.g=some true)(ho:i.op=.call fx xs){f:FuncId}{caps:List V}(hf:fx.ev st.s=.fn f caps)
 {Post:V->ad->Prop}(hc:au P f (xs.map (·.ev st.s)++caps) st.U Post)
 (h:∀r Z',Post r Z'->ai P n (.ops l::k) ⟨bc st.s i.dst r,Z'⟩ Q):ai P n (.ops (i::l)::k) st Q:=by
 refine ai.ins (by rw[ho];simp) hw λF hn I a w o all hi hs next Q' VT=>?_
 subst hn;obtain⟨VS,hd⟩:=ff hi;rw[ho]at VS;obtain⟨f0,args,argTypes,g1,rfl,rfl⟩:=nA VS;refine pt hs g1 hf hc λr Z' hp a' w' VW=>VT _ a' w' VW ?_;rw[hd];exact h r Z' hp
def Bg{F:Fr}{I:Mu}{a:Act}{w:World}(hs:dB F I st a w){o:Oper}{f0:Operand}{args:Array Operand}{argTypes:Array TypeId}
 (hoo:o.op=.call { callee:=.value f0,args:=args,argTypes:=argTypes }){f:FuncId}{first:List V}(hf:(cx F.n f0).ev st.s=.bm f first)
 {Post:V->ad->Prop}(hc:au P f (first++(args.toList.map (cx F.n)).map (·.ev st.s)) st.U Post){next:Act->World->Prop}{Q':Exit->Act->World->Prop}
 (VT:∀r Z',Post r Z'->∀a' w',gl F ⟨bc st.s (o.dst.filter (·<F.n)) r,Z'⟩ a' w'->next a' w'):o.wp P a w next Q':=by
 have hfr:=dr hs f0;rw[hf]at hfr;simp only[E']at hfr;obtain⟨cvals,hfv,hcr⟩:=hfr;have WK:=hcr.app (oe hs args.toList);have Wv:(execOp a.eval o).run P w=.ok (.enter f ((cvals++args.toList.map a.eval).toArray)) w:=by
  unfold execOp;rw[hoo];simp only[resolve,hfv,Deferred.ofValue,Sem.run_bind,Sem.run_pure,Result.andThen_ok,invoke,mr hc.1];congr 2;apply Array.ext';simp
 unfold Oper.wp;rw[Wv];simp only[Oper.upon];have Yo:Sat w (aE I st.U) I st.U w:=by
  have h:=hs.sat;exact⟨Wa _,rfl,rfl,rfl,λ_ _ _=>rfl,h.fin,h.inj,h.obj,λb hb _=>hb,h.lU⟩
 refine(hc.2 I w _ Yo WK).mono ?_;rintro e w' ⟨r,Z',Y',val,rfl,hp,hle,VW,hr⟩;refine VT r Z' hp _ _ ⟨Y',?_⟩;have Yk:di (aE I st.U) (aE Y' Z') w w':=λb hb hn=>⟨λho=>hn (VW.fresh b ho hb),VW.same b hb hn⟩
 have h0:=hs.sat;have Xj:Sat F.w0 F.WU Y' Z' w':=by
  refine⟨j2 h0.size VW.size,VW.os.trans h0.os,VW.tape.trans h0.tape,VW.output.trans h0.output,?_,VW.fin,VW.inj,VW.obj,?_,h0.Za⟩
  .intro b hb hn;have h1:¬aE I st.U b:=λho=>hn (h0.fresh b ho hb);rw[VW.same b (Nat.lt_of_lt_of_le hb h0.size) h1,h0.same b hb hn]
  .intro b hb B';have h1:=VW.fresh b hb (Nat.lt_of_lt_of_le B' h0.size);exact h0.fresh b h1 B'
 exact hs.step Xj hle Yk VW.size hr
def ai.lZ{i:aK}{l:List aK}{fx:VX}{xs:List VX}(hw:bz st.s i.g=some true)(ho:i.op=.call fx xs){f:FuncId}{first:List V}(hf:fx.ev st.s=.bm f first)
 {Post:V->ad->Prop}(hc:au P f (first++xs.map (·.ev st.s)) st.U Post)
 (h:∀r Z',Post r Z'->ai P n (.ops l::k) ⟨bc st.s i.dst r,Z'⟩ Q):ai P n (.ops (i::l)::k) st Q:=by
 refine ai.ins (by rw[ho];simp) hw λF hn I a w o all hi hs next Q' VT=>?_
 subst hn;obtain⟨VS,hd⟩:=ff hi;rw[ho]at VS;obtain⟨f0,args,argTypes,g1,rfl,rfl⟩:=nA VS;refine Bg hs g1 hf hc λr Z' hp a' w' VW=>VT _ a' w' VW ?_;rw[hd];exact h r Z' hp
inductive VR where
 |tmp (x:VX)
 |cell (agg:Bool) (sz:Nat) (x:VX)
 |bad
def Bc(P:Program)(n:Nat):ResultVar->VR
 |.tmp t=>.tmp (cx n (.tmp t))
 |.cell t ty=>if cg P ty then .cell (fS P ty) (P.cellsOf ty) (cx n (.tmp t))else .bad
def iV(st:St):VR->Option V
 |.tmp x=>some (x.ev st.s)
 |.cell agg sz x=>cj st.U agg sz (x.ev st.s)
 |.bad=>none
def fL(st:St):List VR->Option (List V)
 |[]=>some []
 |r::rs=>match iV st r with
   |some v=>match fL st rs with
    |some vs=>some (v::vs)
    |none=>none
   |none=>none
def oL(st:St)(l:List VR):Option V:=match fL st l with
 |some [v]=>some v
 |some vs=>some (.VG vs)
 |none=>none
def Ret(l:List VR)(st:St)(Post:V->ad->Prop):Prop:=
 ∃v v' Z',oL st l=some v/\aa Z' st.U/\Wk st.U Z' v v'/\Post v' Z'
structure U' where
 n:Nat
 code:bW
 res:List VR
def cfn(P:Program)(fn:Func):Option U':=match fn.body with
 |some c=>some ⟨fn.ntmps,dZ P fn.ntmps c,fn.results.toList.map (Bc P fn.ntmps)⟩
 |none=>none
def zD(tmps:Array Value):ResultVar->Go.Sem Value
 |.tmp t=>pure (tmps.getD t undef)
 |.cell b t=>do loadVar t (<-asAddr (tmps.getD b undef))
def C0(fn:Func)(tmps:Array Value):results fn tmps=(do
 let vs <-Functor.map List.toArray (fn.results.toList.mapM (zD tmps))
 pure (if h:vs.size=1 then vs[0]else .tuple vs)):=by
 unfold results;rw[Array.mapM_eq_mapM_toList];congr 3
def zI{F:Fr}{I:Mu}{a:Act}{w:World}(hs:dB F I st a w)(r:ResultVar){v:V}(h:iV st (Bc P F.n r)=some v):
 ∃x,(zD a.tmps r).run P w=.ok x w/\E' I (aE I st.U) w v x:=by
 cases r with
 |tmp t=>
  simp only[Bc,iV,aS]at h;subst h;exact⟨_,rfl,dr hs (.tmp t)⟩
 |cell b t=>
  simp only[Bc]at h;split at h
  .rename_i hk;simp only[iV]at h;have hx:=dr hs (.tmp b);obtain⟨z,h1,h2⟩:=xL (P:=P) hs.sat hk hx h;refine⟨z,?_,h2⟩;have he:a.eval (.tmp b)=a.tmps.getD b undef:=rfl;rw[he]at h1;simp only[Instr.loadAt,Sem.run_bind]at h1;simp only[zD,Sem.run_bind];generalize a.tmps.getD b undef=u at*;cases u<;>simp[Instr.sureAddr]at h1;rename_i p;cases p<;>simp[asAddr]at h1|-;exact h1
  .simp[iV]at h
def xy{F:Fr}{I:Mu}{a:Act}{w:World}(hs:dB F I st a w)(fn:Func){v:V}(h:oL st (fn.results.toList.map (Bc P F.n))=some v):
 ∃x,(results fn a.tmps).run P w=.ok x w/\E' I (aE I st.U) w v x:=by
 have key:∀(l:List ResultVar) (vs:List V),fL st (l.map (Bc P F.n))=some vs->
  ∃xs,(l.mapM (zD a.tmps)).run P w=.ok xs w/\aq I (aE I st.U) w vs xs:=by
  intro l
  induction l with
  |nil=>intro vs h;simp only[List.map_nil,fL,aS]at h;subst h;exact⟨[],rfl,by simp[aq]⟩
  |cons r l ih=>
   intro vs h;simp only[fF,fL]at h;split at h
   .rename_i v hv;split at h
    .rename_i vs' hvs;simp only[aS]at h;subst h;obtain⟨x,h1,h2⟩:=zI (P:=P) hs r hv;obtain⟨xs,h3,h4⟩:=ih vs' hvs;refine⟨x::xs,?_,by simp only[aq];exact⟨x,xs,rfl,h2,h4⟩⟩;rw[List.mapM_cons];simp only[Sem.run_bind];rw[h1];simp only[Result.andThen_ok];rw[h3];simp
    .cases h
   .cases h
 unfold oL at h;cases WY:fL st (fn.results.toList.map (Bc P F.n))with
 |none=>simp[WY]at h
 |some vs=>
  obtain⟨xs,h1,h2⟩:=key _ _ WY;have Wv:(results fn a.tmps).run P w=.ok (if hl:xs.toArray.size=1 then xs.toArray[0]else .tuple xs.toArray) w:=by
   rw[C0];simp only[Sem.run_bind,Sem.run_map];rw[h1];simp
  rw[WY]at h
  match vs,h,h2 with
  |[],h,h2=>
   simp only[aq]at h2;subst h2;simp only[aS]at h;subst h;exact⟨_,Wv,by simp[E',aq]⟩
  |[u],h,h2=>
   simp only[aq]at h2;obtain⟨x,xs',rfl,h3,rfl⟩:=h2;simp only[aS]at h;subst h;exact⟨_,Wv,by simpa using h3⟩
  |u1::u2::us,h,h2=>
   simp only[aS]at h;subst h;have hlen:=h2.length;refine⟨_,Wv,?_⟩;rw[dif_neg (by simp[hlen])];simp only[E'];exact⟨xs,rfl,h2⟩
def cS(args:List V):Nat->V:=λi=>args.getD i (.VG [])
def dB.Ms{F:Fr}{I:Mu}{a:Act}{w:World}(hs:dB F I st a w){d:Deferred}{ds:List Deferred}(hd:a.defers=d::ds):
 ∃D w',d.target=.collected D/\(Instr.takeDeferred D).run P w=.ok [] w'/\dB F I st { a with defers:=ds } w':=by
 obtain⟨Ds,h1,h2,h3⟩:=hs.book.marks;rw[hd]at h1;cases Ds with
 |nil=>simp at h1
 |cons D Ds=>
  simp only[fF,List.cons.injEq]at h1;obtain⟨rfl,rfl⟩:=h1;obtain⟨g1,g2,g3⟩:=h3 D (by simp);simp only[List.nodup_cons]at h2;refine⟨D,w.putObj D (.deferred none),rfl,run_takeDeferred g2,?_⟩;have V2:∀b,b≠D->(w.putObj D (.deferred none)).heap[b]?=w.heap[b]?:=λb hb=>World.putObj_heap_other hb;have hk:rF (aE I st.U) (aE I st.U) w (w.putObj D (.deferred none)):=λb _ hn=>⟨hn,λoff x hx=>by
   by_cases hb:b=D
   .subst hb;simp[World.cell?,g2]at hx
   .exact fA (V2 b hb) off x hx⟩
  have hz:w.heap.size<=(w.putObj D (.deferred none)).heap.size:=by simp
  refine⟨⟨by simpa using hs.sat.size,hs.sat.os,hs.sat.tape,hs.sat.output,λb hb hn=>(V2 b (by omega)).trans (hs.sat.same b hb hn),hs.sat.fin,hs.sat.inj,λid o ho=>?_,hs.sat.fresh,hs.sat.Za⟩,
   hs.le,hs.size,⟨λl r e=>?_,Ds,rfl,h2.2,λD' hD'=>?_⟩,λi hi=>E'.ck (dL.refl I) hk hz _ _ (hs.slot i hi)⟩
  .refine(hs.sat.obj id o ho).ck (dL.refl I) hk hz λb sz cap hp=>V2 b ?_;rintro rfl;exact g3 ⟨id,o,sz,cap,ho,hp⟩
  .obtain⟨q1,q2⟩:=hs.book.rnd l r e;refine⟨(V2 l ?_).trans q1,q2⟩;rintro rfl;rw[g2]at q1;cases q1
  .obtain⟨q1,q2,q3⟩:=h3 D' (by simp[hD']);refine⟨q1,(V2 D' ?_).trans q2,q3⟩;rintro rfl;exact h2.1 hD'
def yn{F:Fr}{I:Mu}{fn:Func}{R:Ending->World->Prop}:∀(ds:List Deferred) (a:Act) (w:World),a.defers=ds->dB F I st a w->
 (∀a' w',a'.tmps=a.tmps->dB F I st a' w'->∃v,(results fn a'.tmps).run P w'=.ok v w'/\R (.returned v) w')->LeavesInM F.fC 0 P fn a.tmps R ds .returning w
 |[],a,w,_,hs,h=>by
  obtain⟨v,h1,h2⟩:=h a w rfl hs;exact⟨v,h1,h2⟩
 |d::ds,a,w,hd,hs,h=>by
  obtain⟨D,w',h1,h2,h3⟩:=hs.Ms (P:=P) hd;exact⟨by simp,.inl ⟨D,w',h1,h2,yn ds { a with defers:=ds } w' rfl h3 (λa' w' e VW=>h a' w' e VW)⟩⟩
def tO.mC{f:FuncId}{fn:Func}{vf:U'}(hf:P.funcs[f]?=some fn)(hv:cfn P fn=some vf){args:List V}{U:ad}{Post:V->ad->Prop}(hlen:args.length<=vf.n)
 (h:ai P vf.n [.code vf.code] ⟨cS args,U⟩ λst=>Ret vf.res st Post):tO P f args U Post:=by
 intro I w VI Yo hr;unfold cfn at hv;cases hb:fn.body with
 |none=>simp[hb]at hv
 |some c=>
  simp only[hb,aS]at hv;subst hv;simp only at h hlen;have hl:=hr.length;refine callsIn_wide.1 (callsIn_of_wp_marks (n:=0) hf hb trivial ?_ rfl);have hs:dB ⟨w,aE I U,I,fn.ntmps,none⟩ I ⟨cS args,U⟩ { tmps:=VI.toArray++Array.replicate (fn.ntmps-VI.toArray.size) undef,defers:=[] } w:=by
   refine⟨Yo,dL.refl I,by simp;omega,⟨λ_ _ e=>by simp at e,[],rfl,.nil,by simp⟩,λi hi=>?_⟩;simp only[cS];by_cases B':i<args.length
   .have hv:args[i]?=some (args.getD i (.VG [])):=by simp[List.getD,Zq6 B']
    obtain⟨x,hx,hrx⟩:=hr.get hv;rw[Zq7,Array.getElem?_append_left (by simp;omega)];simp only[List.getElem?_toArray,hx,Option.getD_some];exact hrx
   .have hv:args.getD i (.VG [])=.VG []:=by simp[List.getD,wW (Nat.le_of_not_lt B')]
    rw[hv,Zq7,Array.getElem?_append_right (by simp;omega)];simp only[E'];refine⟨[],?_,by simp[aq]⟩;rw[Array.getElem?_replicate];split<;>rfl
  have Yp:=h ⟨w,aE I U,I,fn.ntmps,none⟩ rfl [.code c] rfl _ w ⟨I,hs⟩;refine wpIn_mono (F:=Fence.wide) Yp ?_;rintro e a' w' ⟨he,st,⟨v,v',Z',hres,G',hwk,hpost⟩,Y',VW⟩;have Xj:LeavesInM Fence.wide 0 P fn a'.tmps (λe w'=>∃r Z' Y' val,e=Ending.returned val/\Post r Z'/\dL I Y'/\Sat w (aE I U) Y' Z' w'/\E' Y' (aE Y' Z') w' r val) a'.defers .returning w':=by
   refine yn (F:=⟨w,aE I U,I,fn.ntmps,none⟩) a'.defers a' w' rfl VW λa1 w1 _ W9=>?_;obtain⟨x,hx,hrx⟩:=xy (P:=P) W9 fn hres;exact⟨x,hx,v',Z',Y',x,rfl,hpost,W9.le,W9.sat.drop G',hwk Y' _ _ _ _ W9.sat hrx⟩
  rcases he with rfl|rfl<;>exact Xj
def au.mC{f:FuncId}{fn:Func}{vf:U'}(hf:P.funcs[f]?=some fn)(hv:cfn P fn=some vf)(Xg:fK P f=true){args:List V}{U:ad}{Post:V->ad->Prop}(hlen:args.length<=vf.n)
 (h:ai P vf.n [.code vf.code] ⟨cS args,U⟩ λst=>Ret vf.res st Post):au P f args U Post:=⟨Xg,.mC hf hv hlen h⟩
structure Fo(P:Program)(f:FuncId)(fn:Func)(vf:U'):Prop where
 a:P.funcs[f]?=some fn
 b:cfn P fn=some vf:=by kernel_rfl
 c:fK P f=true:=by kernel_rfl
def Fo.r{P:Program}{f:FuncId}{fn:Func}{vf:U'}(h:Fo P f fn vf){args:List V}{U:ad}{Post:V->ad->Prop}(hlen:args.length<=vf.n)
 (k:ai P vf.n [.code vf.code] ⟨cS args,U⟩ λst=>Ret vf.res st Post):au P f args U Post:=au.mC h.a h.b h.c hlen k
def Fo.q{P:Program}{f:FuncId}{fn:Func}{vf:U'}(h:Fo P f fn vf){args:List V}{U:ad}{Post:V->ad->Prop}(k:ai P vf.n [.code vf.code] ⟨cS args,U⟩ λst=>Ret vf.res st Post)
 (hlen:Nat.ble args.length vf.n=true:=by exact rfl):au P f args U Post:=h.r (Nat.le_of_ble_eq_true hlen) k
variable {P:Program} {n:Nat}
def dn(U:ad)(sz:Nat)(xa xv:V):Option ad:=
 match xa with
 |.ptr id i c=>match U id with
  |some ob=>match ob.rows[i]? with
   |some r=>match cF r c sz xv with
    |some r'=>some (C' U id ⟨ob.elem,ob.sz,ob.rows.set i r'⟩)
    |none=>none
   |none=>none
  |none=>none
 |_=>none
def Xl(s:Nat->V)(U:ad):Wd->Option (Nat->V×ad)
 |.alloc e sz z=>some λid=>(.ptr id 0 0,C' U id ⟨e,sz,[z]⟩)
 |.box e sz x=>if(x.ev s).cells.length=sz/\(x.ev s).stays=true then some λid=>(.ptr id 0 0,C' U id ⟨e,sz,[x.ev s]⟩)else none
 |.gW e sz xs=>if(xs.map (·.ev s)).all (λx=>decide (x.cells.length=sz)&&x.stays)then some λid=>(.own id 0 xs.length,C' U id ⟨e,sz,xs.map (·.ev s)⟩)else none
 |.append e sz bytes xa xb=>match bL U e sz (xa.ev s),bM U sz (xb.ev s)with
  |some (base,idA),some src=>if(base.length+src.length)*(bytes+1)<=140737488355328 then
     some λid=>(.own id 0 (base.length+src.length),C' (bN U idA) id ⟨e,sz,base++src⟩)else none
  |_,_=>none
 |.mk e sz bytes z x=>match x.ev s with
  |.int .i64 m=>if 0<=m/\m.toNat*(bytes+1)<=140737488355328 then some λid=>(.own id 0 m.toNat,C' U id ⟨e,sz,List.replicate m.toNat z⟩)else none
  |_=>none
 |.appz e sz bytes z y x=>match y.ev s,x.ev s with
  |.aO,.int _ m=>if 0<m/\m.toNat*(bytes+1)<=140737488355328 then some λid=>(.own id 0 m.toNat,C' U id ⟨e,sz,List.replicate m.toNat z⟩)else none
  |_,_=>none
 |_=>none
def TO(P:Program)(dst:Option Nat)(op:Wd)(x:St)(K:St->Prop):Prop:=
 match br op with
 |0=>eL x.s op/\∃v,aJ x.U x.s op=some v/\K ⟨bc x.s dst v,x.U⟩
 |1=>match op with
  |.call fx xs=>∃f caps v,fx.ev x.s=.fn f caps/\(∀Z1,aa x.U Z1->au P f (xs.map (·.ev x.s)++caps) Z1 (λr Z'=>r=v/\Z'=Z1))/\K ⟨bc x.s dst v,x.U⟩
  |_=>False
 |2=>match op with
  |.store sz xa xv=>∃Z',dn x.U sz (xa.ev x.s) (xv.ev x.s)=some Z'/\K ⟨bc x.s dst (.VG []),Z'⟩
  |_=>False
 |3=>∃g,Xl x.s x.U op=some g/\∀id,x.U id=none->K ⟨bc x.s dst (g id).1,(g id).2⟩
 |_=>False
def T(P:Program)(i:aK)(x:St)(K:St->Prop):Prop:=
 match bz x.s i.g with
 |some true=>TO P i.dst i.op x K
 |some false=>K ⟨bc x.s i.dst (.VG []),x.U⟩
 |none=>False
def TO.mono{dst:Option Nat}{op:Wd}{x:St}{K K':St->Prop}(hk:∀x,K x->K' x)(h:TO P dst op x K):TO P dst op x K':=by
 unfold TO at*;split<;>rename_i ho<;>simp only[ho]at h
 .obtain⟨h1,v,h2,h3⟩:=h;exact⟨h1,v,h2,hk _ h3⟩
 .split at h
  .obtain⟨f,caps,v,h1,h2,h3⟩:=h;exact⟨f,caps,v,h1,h2,hk _ h3⟩
  .exact h.elim
 .split at h
  .obtain⟨Z',h1,h2⟩:=h;exact⟨Z',h1,hk _ h2⟩
  .exact h.elim
 .obtain⟨g,h1,h2⟩:=h;exact⟨g,h1,λid M'=>hk _ (h2 id M')⟩
def T.mono{i:aK}{x:St}{K K':St->Prop}(hk:∀x,K x->K' x)(h:T P i x K):T P i x K':=by
 unfold T at*;split<;>rename_i ho<;>simp only[ho]at h
 .exact h.mono hk
 .exact hk _ h
def Inf(U:ad):Prop:=∀N,∃id,N<=id/\U id=none
def Inf.C'{U:ad}(h:Inf U)(id:Nat)(o:Ob):Inf (C' U id o):=λN=>by
 obtain⟨i,h1,h2⟩:=h (max N (id+1));exact⟨i,by omega,by simp[Vc.C',show i≠id by omega,h2]⟩
def Inf.bN{U:ad}(h:Inf U)(o:Option Nat):Inf (bN U o):=λN=>by
 obtain⟨i,h1,h2⟩:=h N;refine⟨i,h1,?_⟩;cases o with
 |none=>exact h2
 |some j=>simp only[Vc.bN,del];split<;>simp_all
def gl.inf{F:Fr}{st:St}{a:Act}{w:World}(h:gl F st a w):Inf st.U:=by
 obtain⟨I,h⟩:=h;obtain⟨N,hN⟩:=h.sat.fin;intro M;refine⟨max N M,by omega,?_⟩;cases ho:st.U (max N M)with
 |none=>rfl
 |some o=>
  have:=h.sat.obj _ o ho;rw[hN _ (by omega)]at this;exact this.elim
def Kh{s:Nat->V}{U:ad}(h:Inf U){op:Wd}{g:Nat->V×ad}(he:Xl s U op=some g)(id:Nat):Inf (g id).2:=by
 unfold Xl at he;split at he
 .simp only[aS]at he;subst he;exact h.C' _ _
 .split at he
  .simp only[aS]at he;subst he;exact h.C' _ _
  .cases he
 .split at he
  .simp only[aS]at he;subst he;exact h.C' _ _
  .cases he
 .split at he
  .split at he
   .simp only[aS]at he;subst he;exact(h.bN _).C' _ _
   .cases he
  .cases he
 .split at he
  .split at he
   .simp only[aS]at he;subst he;exact h.C' _ _
   .cases he
  .cases he
 .split at he
  .split at he
   .simp only[aS]at he;subst he;exact h.C' _ _
   .cases he
  .cases he
 .cases he
def CU{U Z':ad}(h:Inf U){sz:Nat}{a v:V}(he:dn U sz a v=some Z'):Inf Z':=by
 unfold dn at he;split at he
 .split at he
  .split at he
   .split at he
    .simp only[aS]at he;subst he;exact h.C' _ _
    .cases he
   .cases he
  .cases he
 .cases he
def TO.inf{dst:Option Nat}{op:Wd}{x:St}{K:St->Prop}(hi:Inf x.U)(h:TO P dst op x K):TO P dst op x λx'=>Inf x'.U/\K x':=by
 unfold TO at*;split<;>rename_i ho<;>simp only[ho]at h
 .obtain⟨h1,v,h2,h3⟩:=h;exact⟨h1,v,h2,hi,h3⟩
 .split at h
  .obtain⟨f,caps,v,h1,h2,h3⟩:=h;exact⟨f,caps,v,h1,h2,hi,h3⟩
  .exact h.elim
 .split at h
  .obtain⟨Z',h1,h2⟩:=h;exact⟨Z',h1,CU hi h1,h2⟩
  .exact h.elim
 .obtain⟨g,h1,h2⟩:=h;exact⟨g,h1,λid M'=>⟨Kh hi h1 id,h2 id M'⟩⟩
def T.inf{i:aK}{x:St}{K:St->Prop}(hi:Inf x.U)(h:T P i x K):T P i x λx'=>Inf x'.U/\K x':=by
 unfold T at*;split<;>rename_i ho<;>simp only[ho]at h
 .exact h.inf hi
 .exact⟨hi,h⟩
def HO{s:Nat->V}{d:Option Nat}{v:V}{x:VX}(h:∀t,d=some t->x.Kr≠some t):x.ev (bc s d v)=x.ev s:=by
 cases d with
 |none=>rfl
 |some t=>
  cases x with
  |c _=>rfl
  |t u=>
   simp only[VX.ev,bc];have:=h t rfl;simp only[VX.Kr,ne_eq,aS]at this;rw[aD this]
def rD{s s':Nat->V}{l:List VX}(h:∀x∈l,x.ev s=x.ev s'):l.map (·.ev s)=l.map (·.ev s'):=List.map_congr_left h
def qR{s s':Nat->V}{l:Option VX}(h:∀x∈l.toList,x.ev s=x.ev s'):l.map (·.ev s)=l.map (·.ev s'):=by
 cases l with
 |none=>rfl
 |some x=>simp[h x (by simp)]
def tT{s s':Nat->V}{U:ad}{op:Wd}(h:∀x∈op.xs,x.ev s=x.ev s'):aJ U s op=aJ U s' op/\(eL s op↔eL s' op):=by
 cases op<;>simp only[Wd.xs,et,List.not_mem_nil,or_false,forall_eq_or_imp,forall_eq,ec]at h<;>
  simp only[aJ,eL,h,and_true,and_self]
 case slice X8 x lo hi mx=>
  rw[qR (l:=lo) (λy hy=>h.2 y (.inl (.inl hy))),qR (l:=hi) (λy hy=>h.2 y (.inl (.inr hy))),qR (l:=mx) (λy hy=>h.2 y (.inr hy))]
 case sliceS x lo hi=>
  rw[qR (l:=lo) (λy hy=>h.2 y (.inl hy)),qR (l:=hi) (λy hy=>h.2 y (.inr hy))]
 case mkfn f xs=>rw[rD h]
 case more m xs=>
  by_cases hb:∃f,m=.mkB f
  .obtain⟨f,rfl⟩:=hb;have e:=rD h;cases xs with
   |nil=>rfl
   |cons x xs=>cases xs<;>exact congrArg (λl=>some (V.bm f l)) e
  cases xs with
  |nil=>cases m<;>rfl
  |cons x xs=>
   have hx:=h x (by simp);cases xs with
   |nil=>cases m<;>first|rfl|exact absurd ⟨_,rfl⟩ hb|simp only[hx]
   |cons y ys=>cases m<;>first|rfl|exact absurd ⟨_,rfl⟩ hb
 case build z ps=>
  have:(ps.map λp=>(p.1,p.2.1,p.2.2.ev s))=ps.map λp=>(p.1,p.2.1,p.2.2.ev s'):=List.map_congr_left λp hp=>by
   rw[h _ (gM.2 ⟨p,hp,rfl⟩)]
  rw[this]
def gv{s s':Nat->V}{U:ad}{op:Wd}(h:∀x∈op.xs,x.ev s=x.ev s'):Xl s U op=Xl s' U op:=by
 cases op<;>simp only[Wd.xs,et,List.not_mem_nil,or_false,forall_eq_or_imp,forall_eq,ec]at h<;>
  simp only[Xl,h]
 case gW e sz xs=>rw[rD h]
def Af{s:Nat->V}{U Z':ad}{op:Wd}(h:lz op=true):aJ U s op=aJ Z' s op:=by
 cases op
 case more m xs=>
  cases xs with
  |nil=>cases m<;>rfl
  |cons x xs=>cases xs<;>cases m<;>rfl
 all_goals first|rfl|simp[lz]at h
variable {P:Program} {n:Nat}
def apart_spec{A B:aK}(h:CR A B=true):(∀d,A.dst=some d->d∉B.l8)/\(∀d,B.dst=some d->d∉A.l8)/\(∀d,A.dst=some d->B.dst≠some d):=by
 simp only[CR,Ba]at h;obtain⟨h1,h2⟩:=h;refine⟨λd hd=>?_,λd hd=>?_,λd hd=>?_⟩
 .rw[hd]at h1;simp at h1;exact h1.1
 .rw[hd]at h2;simpa using h2
 .rw[hd]at h1;simp at h1;exact h1.2
def Fb{s:Nat->V}{a b:Option Nat}{u v:V}(h:∀d,a=some d->b≠some d):bc (bc s a u) b v=bc (bc s b v) a u:=by
 cases a with
 |none=>rfl
 |some x=>
  cases b with
  |none=>rfl
  |some y=>
   have V2:y≠x:=λe=>h x rfl (by rw[e]);funext i;simp only[bc];by_cases h1:i=y<;>by_cases h2:i=x<;>simp_all
def DV{i:aK}{x:VX}(hx:x∈i.op.xs){t:Nat}(ht:x.Kr=some t):t∈i.l8:=
 List.mem_filterMap.2 ⟨x,List.mem_append_left _ hx,ht⟩
def iQ{i:aK}{d:Option Nat}{v:V}(h:∀t,d=some t->t∉i.l8)(s:Nat->V):∀x∈i.op.xs,x.ev (bc s d v)=x.ev s:=
 λ_ hx=>HO λt ht e=>h t ht (DV hx e)
def cJ{i:aK}{d:Option Nat}{v:V}(h:∀t,d=some t->t∉i.l8)(s:Nat->V):bz (bc s d v) i.g=bz s i.g:=by
 cases hg:i.g with
 |none=>rfl
 |some g=>
  obtain⟨x,b⟩:=g;have:x.ev (bc s d v)=x.ev s:=HO λt ht e=>h t ht (List.mem_filterMap.2 ⟨x,List.mem_append_right _ (by simp[hg]),e⟩);simp only[bz,this]
def QO(P:Program)(op:Wd)(s:Nat->V)(U:ad)(v:V):Prop:=
 match br op with
 |0=>eL s op/\aJ U s op=some v
 |1=>match op with
  |.call fx xs=>∃f caps,fx.ev s=.fn f caps/\∀Z1,aa U Z1->au P f (xs.map (·.ev s)++caps) Z1 (λr Z'=>r=v/\Z'=Z1)
  |_=>False
 |_=>False
def QY(P:Program)(i:aK)(s:Nat->V)(U:ad)(v:V):Prop:=
 (bz s i.g=some true/\QO P i.op s U v)\/(bz s i.g=some false/\v=.VG [])
def cM{i:aK}(hq:gw i=true){x:St}{K:St->Prop}:T P i x K↔∃v,QY P i x.s x.U v/\K ⟨bc x.s i.dst v,x.U⟩:=by
 simp only[gw,X7]at hq;unfold T QY;cases hw:bz x.s i.g with
 |none=>simp
 |some b=>
  cases b
  .simp
  .simp only[true_and,aS,Bool.true_eq_false,false_and,or_false];unfold TO QO;have:br i.op=0\/br i.op=1:=by omega
   rcases this with h0|h0<;>simp only[h0]
   .constructor
    .rintro⟨h1,v,h2,h3⟩;exact⟨v,⟨h1,h2⟩,h3⟩
    .rintro⟨v,⟨h1,h2⟩,h3⟩;exact⟨h1,v,h2,h3⟩
   .cases VS:i.op<;>simp[br,VS]at h0|-;constructor
    .rintro⟨f,caps,h1,v,h2,h3⟩;exact⟨v,⟨f,caps,h1,h2⟩,h3⟩
    .rintro⟨v,⟨f,caps,h1,h2⟩,h3⟩;exact⟨f,caps,h1,v,h2,h3⟩
def vE{op:Wd}{s s':Nat->V}{U:ad}{v:V}(h:∀x∈op.xs,x.ev s=x.ev s')(hq:QO P op s U v):QO P op s' U v:=by
 unfold QO at*;by_cases h0:br op=0
 .obtain⟨h1,h2⟩:=tT (U:=U) h;simp only[h0]at hq|-;exact⟨h2.1 hq.1,h1▸hq.2⟩
 .by_cases h1:br op=1
  .simp only[h1]at hq|-;cases op<;>simp only[]at hq<;>first|exact hq.elim|skip
   rename_i fx xs;obtain⟨f,caps,g1,g2⟩:=hq;refine⟨f,caps,?_,?_⟩
   .rw[<-h fx (by simp[Wd.xs])];exact g1
   .rw[<-rD (s:=s) (s':=s') λx hx=>h x (by simp[Wd.xs,hx])];exact g2
  .exfalso;revert hq;split<;>simp_all
def gU{i:aK}{s:Nat->V}{U:ad}{v u:V}{d:Option Nat}(h:∀t,d=some t->t∉i.l8):QY P i (bc s d u) U v↔QY P i s U v:=by
 unfold QY;rw[cJ h];constructor
 .rintro(⟨h1,h2⟩|h1)
  .exact .inl ⟨h1,vE (iQ h s) h2⟩
  .exact .inr h1
 .rintro(⟨h1,h2⟩|h1)
  .exact .inl ⟨h1,vE (λx hx=>(iQ h s x hx).symm) h2⟩
  .exact .inr h1
def mG{op:Wd}(h:lz op=true):br op=0:=by
 cases op
 case more m xs=>cases m<;>simp[lz,br]at h|-
 all_goals simp[lz,br]at h|-
def lg{i:aK}(hf:lz i.op=true){s:Nat->V}{U Z':ad}{v:V}(h:QY P i s U v):QY P i s Z' v:=by
 rcases h with⟨h1,h2⟩|h1
 .refine .inl ⟨h1,?_⟩;unfold QO at*;simp only[mG hf]at*;exact⟨h2.1,by rw[<-Af (U:=U) hf];exact h2.2⟩
 .exact .inr h1
def MP{i:aK}(hf:lz i.op=true){s:Nat->V}{U:ad}{v v':V}(h:QY P i s U v)(h':QY P i s U v'):v=v':=by
 rcases h with⟨h1,h2⟩|⟨h1,h2⟩<;>rcases h' with⟨g1,g2⟩|⟨g1,g2⟩
 .unfold QO at*;simp only[mG hf]at*;have:=h2.2.symm.trans g2.2;simpa using this
 .rw[h1]at g1;cases g1
 .rw[h1]at g1;cases g1
 .rw[h2,g2]
def iG{i:aK}(he:tU i=true){x:St}{K:St->Prop}:T P i x K↔
 (bz x.s i.g=some false/\K ⟨bc x.s i.dst (.VG []),x.U⟩)\/
 (bz x.s i.g=some true/\((∃sz xa xv Z',i.op=.store sz xa xv/\dn x.U sz (xa.ev x.s) (xv.ev x.s)=some Z'/\K ⟨bc x.s i.dst (.VG []),Z'⟩)\/
   (br i.op=3/\∃g,Xl x.s x.U i.op=some g/\∀id,x.U id=none->K ⟨bc x.s i.dst (g id).1,(g id).2⟩))):=by
 unfold T;cases hw:bz x.s i.g with
 |none=>simp
 |some b=>
  cases b
  .simp
  .simp only[aS,Bool.true_eq_false,false_and,false_or,true_and];unfold TO;simp only[tU,lP,beq_iff_eq]at he;rcases he with h0|h0<;>simp only[h0]
   .cases VS:i.op<;>simp[br,VS]at h0|-;constructor
    .rintro⟨Z',h1,h2⟩;exact⟨_,_,_,⟨rfl,rfl,rfl⟩,Z',h1,h2⟩
    .rintro⟨_,_,_,⟨rfl,rfl,rfl⟩,Z',h1,h2⟩;exact⟨Z',h1,h2⟩
   .have:∀sz xa xv,i.op≠.store sz xa xv:=λ_ _ _ e=>by rw[e]at h0;simp[br]at h0
    simp[this]
def lJ(s:Nat->V):Wd->Option Nat
 |.load _ _ x=>match x.ev s with
   |.ptr id _ _=>some id
   |_=>none
 |.idxA _ x _=>match x.ev s with
   |.own id _ _=>some id
   |_=>none
 |.slice _ x _ _ _=>match x.ev s with
   |.own id _ _=>some id
   |_=>none
 |.bstr x=>match x.ev s with
   |.own id _ _=>some id
   |_=>none
 |_=>none
def CV{s:Nat->V}{U Z':ad}{op:Wd}(h:∀j,lJ s op=some j->U j=Z' j):aJ U s op=aJ Z' s op:=by
 cases op<;>try rfl
 case more m xs=>
  cases xs with
  |nil=>cases m<;>rfl
  |cons x xs=>cases xs<;>cases m<;>rfl
 case load agg sz x=>
  simp only[lJ]at h;simp only[aJ,cj];split
  .rename_i id i k hx;simp only[hx,aS,forall_eq']at h;rw[h]
  .rfl
  .rfl
 case idxA X8 x i=>
  simp only[lJ]at h;simp only[aJ];generalize x.ev s=xv at*;generalize i.ev s=iv at*;cases xv<;>try (cases iv<;>rfl)
  case own id off len=>
   simp only[aS,forall_eq']at h;cases iv<;>try rfl
   simp only[bO,h]
 case bstr x=>
  simp only[lJ]at h;simp only[aJ];generalize x.ev s=xv at*;cases xv<;>try rfl
  case own id off len=>
   simp only[aS,forall_eq']at h;simp only[ei,h]
 case slice X8 x lo hi mx=>
  simp only[lJ]at h;simp only[aJ,eI];split
  .rename_i id off len hx;simp only[hx,aS,forall_eq']at h;have:lu U id X8=lu Z' id X8:=by simp only[lu,h]
   simp only[this]
  .rfl
  .rfl
  .rfl
def Ct{s:Nat->V}{U:ad}{op:Wd}{v:V}(hv:aJ U s op=some v){j:Nat}(hj:lJ s op=some j):U j≠none:=by
 intro hn;cases op<;>simp only[lJ,reduceCtorEq]at hj
 case load agg sz x=>
  split at hj
  .rename_i id i k hx;simp only[aS]at hj;subst hj;simp[aJ,cj,hx,hn]at hv
  .cases hj
 case idxA X8 x i=>
  split at hj
  .rename_i id off len hx;simp only[aS]at hj;subst hj;simp only[aJ]at hv;rw[hx]at hv;generalize i.ev s=iv at hv;cases iv<;>simp[bO,hn]at hv
  .cases hj
 case bstr x=>
  split at hj
  .rename_i id off len hx;simp only[aS]at hj;subst hj;simp[aJ,ei,hx,hn]at hv
  .cases hj
 case slice X8 x lo hi mx=>
  split at hj
  .rename_i id off len hx;simp only[aS]at hj;subst hj;simp only[aJ,eI,hx,lu,hn]at hv;split at hv
   .simp at hv
   .cases hv
  .cases hj
def uA{i:aK}(h:mkI i=true):br i.op=3/\∀s U g,Xl s U i.op=some g->∀id j,j≠id->(g id).2 j=U j:=by
 unfold mkI at h;split at h
 .rename_i VS;refine⟨by rw[VS];rfl,λs U g hg id j hj=>?_⟩;rw[VS]at hg;simp only[Xl,aS]at hg;subst hg;simp[Vc.C',hj]
 .rename_i VS;refine⟨by rw[VS];rfl,λs U g hg id j hj=>?_⟩;rw[VS]at hg;simp only[Xl]at hg;split at hg
  .simp only[aS]at hg;subst hg;simp[Vc.C',hj]
  .cases hg
 .rename_i VS;refine⟨by rw[VS];rfl,λs U g hg id j hj=>?_⟩;rw[VS]at hg;simp only[Xl]at hg;split at hg
  .simp only[aS]at hg;subst hg;simp[Vc.C',hj]
  .cases hg
 .rename_i VS;refine⟨by rw[VS];rfl,λs U g hg id j hj=>?_⟩;rw[VS]at hg;simp only[Xl]at hg;split at hg
  .split at hg
   .simp only[aS]at hg;subst hg;simp[Vc.C',hj]
   .cases hg
  .cases hg
 .cases h
def zV{i:aK}(h:EZ i=true):br i.op=3/\∀s U g,Xl s U i.op=some g->∀id j,j≠id->(g id).2 j=U j\/(g id).2 j=none:=by
 by_cases hm:mkI i=true
 .exact⟨(uA hm).1,λs U g hg id j hj=>.inl ((uA hm).2 s U g hg id j hj)⟩
 .unfold EZ at h;unfold mkI at hm;cases VS:i.op<;>rw[VS]at h hm<;>simp at h hm;refine⟨rfl,λs U g hg id j hj=>?_⟩;simp only[Xl]at hg;split at hg
  .split at hg
   .simp only[aS]at hg;subst hg;rename_i idA _ _ _ _ _;simp only[Vc.C',aD hj];rename_i base idA src _ _ _;cases idA with
    |none=>exact .inl rfl
    |some a=>
     simp only[bN,del];split
     .exact .inr rfl
     .exact .inl rfl
   .cases hg
  .cases hg
def yT{i:aK}(hp:kM i=true){s:Nat->V}{U Z':ad}(h:∀j,lJ s i.op=some j->U j=Z' j){v:V}(hq:QY P i s U v):QY P i s Z' v:=by
 simp only[kM,beq_iff_eq]at hp;rcases hq with⟨h1,h2⟩|h1
 .refine .inl ⟨h1,?_⟩;unfold QO at*;simp only[hp]at*;exact⟨h2.1,by rw[<-CV h];exact h2.2⟩
 .exact .inr h1
def yO{i:aK}(hp:kM i=true){s:Nat->V}{U:ad}{v v':V}(h:QY P i s U v)(h':QY P i s U v'):v=v':=by
 simp only[kM,beq_iff_eq]at hp;rcases h with⟨h1,h2⟩|⟨h1,h2⟩<;>rcases h' with⟨g1,g2⟩|⟨g1,g2⟩
 .unfold QO at*;simp only[hp]at*;have:=h2.2.symm.trans g2.2;simpa using this
 .rw[h1]at g1;cases g1
 .rw[h1]at g1;cases g1
 .rw[h2,g2]
def uK{i:aK}(hp:kM i=true){s:Nat->V}{U:ad}{v:V}(h:QY P i s U v)(hw:bz s i.g=some true){j:Nat}(hj:lJ s i.op=some j):U j≠none:=by
 simp only[kM,beq_iff_eq]at hp;rcases h with⟨_,h2⟩|⟨h1,_⟩
 .unfold QO at h2;simp only[hp]at h2;exact Ct h2.2 hj
 .rw[hw]at h1;cases h1
def zB{i:aK}{s:Nat->V}{U Z':ad}{v:V}(h:QY P i s U v)(hw:bz s i.g≠some true):QY P i s Z' v:=by
 rcases h with⟨h1,_⟩|h1
 .exact absurd h1 hw
 .exact .inr h1
def Gr{i:aK}(hp:kM i=true){s:Nat->V}{U Z':ad}{id:Nat}(M':U id=none)(V7:∀j,j≠id->Z' j=U j){v:V}(h:QY P i s U v):QY P i s Z' v:=by
 by_cases hw:bz s i.g=some true
 .refine yT hp (λj hj=>?_) h;have:=uK hp h hw hj;rw[V7 j (λe=>this (e▸M'))]
 .exact zB h hw
def Fh{i:aK}(hq:gw i=true){s:Nat->V}{U Z':ad}{id:Nat}(M':U id=none)(V7:∀j,j≠id->Z' j=U j){v:V}(h:QY P i s U v):QY P i s Z' v:=by
 by_cases hp:kM i=true
 .exact Gr hp M' V7 h
 .have G':aa U Z':=λj o hj=>by rw[V7 j (λe=>by rw[e,M']at hj;cases hj)];exact hj
  rcases h with⟨h1,h2⟩|h1
  .refine .inl ⟨h1,?_⟩;have hk:br i.op=1:=by
    simp only[gw,X7]at hq;simp only[kM,beq_iff_eq]at hp;omega
   unfold QO at*;simp only[hk]at*;split at h2
   .obtain⟨f,caps,g1,g2⟩:=h2;exact⟨f,caps,g1,λZ1 hs=>g2 Z1 (G'.trans hs)⟩
   .exact h2.elim
  .exact .inr h1
def zZ{i:aK}(h:mkI i=true){s:Nat->V}{U:ad}{g:Nat->V×ad}(hg:Xl s U i.op=some g):
 ∃(vf:Nat->V) (ob:Ob),(∀id,g id=(vf id,Vc.C' U id ob))/\∀Z',Xl s Z' i.op=some λid=>(vf id,Vc.C' Z' id ob):=by
 unfold mkI at h;split at h
 .rename_i VS;rw[VS]at hg|-;simp only[Xl,aS]at hg;subst hg;exact⟨_,_,λ_=>rfl,λ_=>rfl⟩
 .rename_i VS;rw[VS]at hg|-;simp only[Xl]at hg|-;split at hg
  .rename_i hc;simp only[aS]at hg;subst hg;exact⟨_,_,λ_=>rfl,λZ'=>by rw[av hc]⟩
  .cases hg
 .rename_i VS;rw[VS]at hg|-;simp only[Xl]at hg|-;split at hg
  .rename_i hc;simp only[aS]at hg;subst hg;exact⟨_,_,λ_=>rfl,λZ'=>by rw[av hc]⟩
  .cases hg
 .rename_i VS;rw[VS]at hg|-;simp only[Xl]at hg|-;split at hg
  .rename_i hx;split at hg
   .rename_i hc;simp only[aS]at hg;subst hg;exact⟨_,_,λ_=>rfl,λZ'=>by rw[av hc]⟩
   .cases hg
  .cases hg
 .cases h
def oJ{op:Wd}(hk:br op=3){sz:Nat}{xa xv:VX}(VS:op=.store sz xa xv):False:=by rw[VS]at hk;simp[br]at hk
def yk{U:ad}{a b:Nat}{oa ob:Ob}(h:a≠b):Vc.C' (Vc.C' U a oa) b ob=Vc.C' (Vc.C' U b ob) a oa:=by
 funext i;unfold Vc.C';by_cases h1:i=a<;>by_cases h2:i=b<;>simp_all
def H8{i:aK}(h:EZ i=true){s:Nat->V}{U:ad}{g:Nat->V×ad}(hg:Xl s U i.op=some g):
 ∃(vf:Nat->V) (ob:Ob) (d:Option Nat),(∀id,g id=(vf id,Vc.C' (bN U d) id ob))/\(∀a,d=some a->U a≠none)/\
  ∀j o,U j=none->Xl s (Vc.C' U j o) i.op=some λid=>(vf id,Vc.C' (bN (Vc.C' U j o) d) id ob):=by
 by_cases hm:mkI i=true
 .obtain⟨vf,ob,h1,h2⟩:=zZ hm hg;exact⟨vf,ob,none,h1,by simp,λj o _=>h2 _⟩
 .unfold EZ at h;unfold mkI at hm;cases VS:i.op<;>rw[VS]at h hm hg<;>simp at h hm;rename_i e sz bytes xa xb;simp only[Xl]at hg|-;split at hg
  .rename_i base idA src e1 e2;split at hg
   .rename_i hc;simp only[aS]at hg;subst hg;have ZM:∀a,idA=some a->U a≠none:=λa ha=>by
     subst ha;unfold bL at e1;split at e1
     .split at e1
      .rename_i ob WO;split at e1
       .simp only[aS,Prod.mk.injEq]at e1;rw[<-e1.2,WO];simp
       .cases e1
      .cases e1
     .simp at e1
     .cases e1
    refine⟨_,_,idA,λ_=>rfl,ZM,λj o hj=>?_⟩;have V2:∀id ob,U id=some ob->Vc.C' U j o id=some ob:=λid ob h=>by
     have:id≠j:=λe=>by rw[e,hj]at h;cases h
     simp[Vc.C',this,h]
    have d1:bL (Vc.C' U j o) e sz (xa.ev s)=some (base,idA):=by
     rw[<-e1];unfold bL at e1|-;split at e1
     .rename_i id _ _ _;split at e1
      .rename_i ob WO;simp only[WO,V2 _ _ WO]
      .cases e1
     .rfl
     .cases e1
    have d2:bM (Vc.C' U j o) sz (xb.ev s)=some src:=by
     rw[<-e2];unfold bM at e2|-;split at e2
     .split at e2
      .rename_i ob WO;simp only[WO,V2 _ _ WO]
      .cases e2
     all_goals first|rfl|cases e2
    simp only[d1,d2];rw[av hc]
   .cases hg
  .cases hg
def IJ{A B:aK}(hp:nj A B=true){x:St}(hi:Inf x.U){K:St->Prop}(h:T P A x λx'=>T P B x' K):T P B x λx'=>T P A x' K:=by
 simp only[nj,Ba,lP]at hp;obtain⟨hap,hk⟩:=hp;obtain⟨h1,h2,h3⟩:=apart_spec hap;have X9:∀(s:Nat->V) u v,bc (bc s A.dst u) B.dst v=bc (bc s B.dst v) A.dst u:=λs u v=>Fb h3;rcases hk with((((⟨qa,qb⟩|⟨ea,sb⟩)|⟨sa,eb⟩)|⟨pa,mb⟩)|⟨ma,pb⟩)|⟨ma,mb⟩
 .rw[cM qa]at h;obtain⟨u,hu,h⟩:=h;rw[cM qb]at h;obtain⟨v,hv,h⟩:=h;rw[cM qb];refine⟨v,(gU h1).1 hv,?_⟩;rw[cM qa];refine⟨u,(gU h2).2 hu,?_⟩;simp only at h|-;rw[<-X9];exact h
 .have qb:gw B=true:=by simp[gw,mG sb]
  rw[iG ea]at h;rcases h with⟨hw,h⟩|⟨hw,⟨sz,xa,xv,Z',VS,hs,h⟩|⟨hk3,g,hg,h⟩⟩
  .rw[cM qb]at h;obtain⟨v,hv,h⟩:=h;rw[cM qb];refine⟨v,(gU h1).1 hv,?_⟩;rw[iG ea];refine .inl ⟨by rw[cJ h2];exact hw,?_⟩;simp only at h|-;rw[<-X9];exact h
  .rw[cM qb]at h;obtain⟨v,hv,h⟩:=h;rw[cM qb];refine⟨v,lg sb ((gU h1).1 hv),?_⟩;rw[iG ea];refine .inr ⟨by rw[cJ h2];exact hw,.inl ⟨sz,xa,xv,Z',VS,?_,?_⟩⟩
   .simp only;rw[iQ h2 x.s xa (by simp[VS,Wd.xs]),iQ h2 x.s xv (by simp[VS,Wd.xs])];exact hs
   .simp only at h|-;rw[<-X9];exact h
  .obtain⟨id0,_,hid0⟩:=hi 0;have h0:=h id0 hid0;rw[cM qb]at h0;obtain⟨v,hv,_⟩:=h0;have hvx:QY P B x.s x.U v:=lg sb ((gU h1).1 hv);rw[cM qb];refine⟨v,hvx,?_⟩;rw[iG ea];refine .inr ⟨by rw[cJ h2];exact hw,.inr ⟨hk3,g,?_,λid M'=>?_⟩⟩
   .rw[<-hg];exact gv (iQ h2 x.s)
   .have h4:=h id M';rw[cM qb]at h4;obtain⟨v',hv',h4⟩:=h4;have hvx':QY P B x.s x.U v':=lg sb ((gU h1).1 hv');have:=MP sb hvx hvx';subst this;simp only at h4|-;rw[<-X9];exact h4
 .have qa:gw A=true:=by simp[gw,mG sa]
  rw[cM qa]at h;obtain⟨u,hu,h⟩:=h;rw[iG eb]at h;rw[iG eb];rcases h with⟨hw,h⟩|⟨hw,⟨sz,xa,xv,Z',VS,hs,h⟩|⟨hk3,g,hg,h⟩⟩
  .refine .inl ⟨by rw[<-cJ h1];exact hw,?_⟩;rw[cM qa];refine⟨u,(gU h2).2 hu,?_⟩;simp only at h|-;rw[<-X9];exact h
  .refine .inr ⟨by rw[<-cJ h1];exact hw,.inl ⟨sz,xa,xv,Z',VS,?_,?_⟩⟩
   .simp only at hs;rw[iQ h1 x.s xa (by simp[VS,Wd.xs]),iQ h1 x.s xv (by simp[VS,Wd.xs])]at hs;exact hs
   .rw[cM qa];refine⟨u,(gU h2).2 (lg sa hu),?_⟩;simp only at h|-;rw[<-X9];exact h
  .refine .inr ⟨by rw[<-cJ h1];exact hw,.inr ⟨hk3,g,?_,λid M'=>?_⟩⟩
   .rw[<-hg];exact(gv (iQ h1 x.s)).symm
   .rw[cM qa];refine⟨u,(gU h2).2 (lg sa hu),?_⟩;have h4:=h id M';simp only at h4|-;rw[<-X9];exact h4
 .have qa:gw A=true:=pa;obtain⟨hk3,hfr⟩:=uA mb;have eb:tU B=true:=by simp[tU,hk3]
  rw[cM qa]at h;obtain⟨u,hu,h⟩:=h;rw[iG eb]at h;rw[iG eb];rcases h with⟨hw,h⟩|⟨hw,⟨sz,xa,xv,Z',VS,hs,h⟩|⟨_,g,hg,h⟩⟩
  .refine .inl ⟨by rw[<-cJ h1];exact hw,?_⟩;rw[cM qa];refine⟨u,(gU h2).2 hu,?_⟩;simp only at h|-;rw[<-X9];exact h
  .rw[VS]at hk3;simp[br]at hk3
  .refine .inr ⟨by rw[<-cJ h1];exact hw,.inr ⟨hk3,g,?_,λid M'=>?_⟩⟩
   .rw[<-hg];exact(gv (iQ h1 x.s)).symm
   .rw[cM qa];refine⟨u,(gU h2).2 (Fh qa M' (λj hj=>hfr _ _ g hg id j hj) hu),?_⟩;have h4:=h id M';simp only at h4|-;rw[<-X9];exact h4
 .have qb:gw B=true:=by simp only[kM,beq_iff_eq]at pb;simp[gw,pb]
  obtain⟨hk3,hfr⟩:=zV ma;have ea:tU A=true:=by simp[tU,hk3]
  rw[iG ea]at h;rcases h with⟨hw,h⟩|⟨hw,⟨sz,xa,xv,Z',VS,hs,h⟩|⟨_,g,hg,h⟩⟩
  .rw[cM qb]at h;obtain⟨v,hv,h⟩:=h;rw[cM qb];refine⟨v,(gU h1).1 hv,?_⟩;rw[iG ea];refine .inl ⟨by rw[cJ h2];exact hw,?_⟩;simp only at h|-;rw[<-X9];exact h
  .rw[VS]at hk3;simp[br]at hk3
  ·
   obtain⟨id0,YU,hid0⟩:=hi ((lJ x.s B.op).getD 0+1);have h0:=h id0 hid0;rw[cM qb]at h0;obtain⟨v,hv,_⟩:=h0;have hv1:=(gU h1).1 hv;have hvx:QY P B x.s x.U v:=by
    by_cases hwB:bz x.s B.g=some true
    .refine yT pb (λj hj=>?_) hv1;have hn:=uK pb hv1 hwB hj;refine(hfr _ _ g hg id0 j (λe=>?_)).resolve_right hn;rw[hj]at YU;simp at YU;omega
    .exact zB hv1 hwB
   rw[cM qb];refine⟨v,hvx,?_⟩;rw[iG ea];refine .inr ⟨by rw[cJ h2];exact hw,.inr ⟨hk3,g,?_,λid M'=>?_⟩⟩
   .rw[<-hg];exact gv (iQ h2 x.s)
   .have h4:=h id M';rw[cM qb]at h4;obtain⟨v',hv',h4⟩:=h4;have hv2:=(gU h1).1 hv';have hv3:QY P B x.s x.U v':=by
     by_cases hwB:bz x.s B.g=some true
     .refine yT pb (λj hj=>?_) hv2;have hn:=uK pb hv2 hwB hj;have hs:=uK pb hvx hwB hj;exact(hfr _ _ g hg id j (λe=>hs (e▸M'))).resolve_right hn
     .exact zB hv2 hwB
    have:=yO pb hv3 hvx;subst this;simp only at h4|-;rw[<-X9];exact h4
 .have ka:=(zV ma).1;have kb:=(uA mb).1;have ea:tU A=true:=by simp[tU,ka]
  have eb:tU B=true:=by simp[tU,kb]
  rw[iG ea]at h;rw[iG eb];rcases h with⟨hw,h⟩|⟨hw,⟨sz,xa,xv,Z',VS,_⟩|⟨_,g,hg,h⟩⟩
  .rw[iG eb]at h;rcases h with⟨Zm,h⟩|⟨Zm,⟨sz,xa,xv,Z',VS,_⟩|⟨_,g2,hg2,h⟩⟩
   .refine .inl ⟨by rw[<-cJ h1];exact Zm,?_⟩;rw[iG ea];refine .inl ⟨by rw[cJ h2];exact hw,?_⟩;simp only at h|-;rw[<-X9];exact h
   .exact(oJ kb VS).elim
   .refine .inr ⟨by rw[<-cJ h1];exact Zm,.inr ⟨kb,g2,by rw[<-hg2];exact(gv (iQ h1 x.s)).symm,λid M'=>?_⟩⟩;rw[iG ea];refine .inl ⟨by rw[cJ h2];exact hw,?_⟩;have h4:=h id M';simp only at h4|-;rw[<-X9];exact h4
  .exact(oJ ka VS).elim
  .obtain⟨vA,oA,dA,hA,hdA,hA'⟩:=H8 ma hg;obtain⟨id0,_,hid0⟩:=hi 0;have h0:=h id0 hid0;rw[iG eb]at h0;rcases h0 with⟨Zm,_⟩|⟨Zm,⟨sz,xa,xv,Z',VS,_⟩|⟨_,g2,hg2,_⟩⟩
   .refine .inl ⟨by rw[<-cJ h1];exact Zm,?_⟩;rw[iG ea];refine .inr ⟨by rw[cJ h2];exact hw,.inr ⟨ka,g,by rw[<-hg];exact gv (iQ h2 x.s),λid M'=>?_⟩⟩;have h4:=h id M';rw[iG eb]at h4;rcases h4 with⟨_,h4⟩|⟨hw3,_⟩
    .simp only at h4|-;rw[<-X9];exact h4
    .exfalso;have e1:=cJ (v:=(g id).1) h1 (s:=x.s);have e2:=cJ (v:=(g id0).1) h1 (s:=x.s);simp only at Zm hw3;rw[e1]at hw3;rw[e2]at Zm;rw[hw3]at Zm;cases Zm
   .exact(oJ kb VS).elim
   .have hg2x:Xl x.s (g id0).2 B.op=some g2:=by rw[<-hg2];exact(gv (iQ h1 x.s)).symm
    obtain⟨vB,oB,hB,hB'⟩:=zZ mb hg2x;refine .inr ⟨by rw[<-cJ h1];exact Zm,.inr ⟨kb,_,hB' x.U,λidB hidB=>?_⟩⟩;rw[iG ea];refine .inr ⟨by rw[cJ h2];exact hw,.inr ⟨ka,λid=>(vA id,Vc.C' (bN (Vc.C' x.U idB oB) dA) id oA),?_,λidA hidA=>?_⟩⟩
    .rw[<-hA' idB oB hidB];exact gv (iQ h2 x.s)
    .have V2:idA≠idB:=λe=>by subst e;simp[Vc.C']at hidA
     have hidA':x.U idA=none:=by simpa[Vc.C',V2]using hidA
     have h4:=h idA hidA';rw[iG eb]at h4;rw[hA idA]at h4;rcases h4 with⟨hw3,_⟩|⟨_,⟨sz,xa,xv,Z',VS,_⟩|⟨_,g3,hg3,h4⟩⟩
     .exfalso;have e1:=cJ (v:=vA idA) h1 (s:=x.s);have e2:=cJ (v:=(g id0).1) h1 (s:=x.s);simp only at Zm hw3;rw[e1]at hw3;rw[e2]at Zm;rw[hw3]at Zm;cases Zm
     .exact(oJ kb VS).elim
     .have e3:Xl x.s (Vc.C' (bN x.U dA) idA oA) B.op=some g3:=by rw[<-hg3];exact(gv (iQ h1 x.s)).symm
      rw[hB' (Vc.C' (bN x.U dA) idA oA)]at e3;simp only[aS]at e3;subst e3;have VL:∀i,x.U i=none->bN x.U dA i=none:=λi hi=>by
       cases dA with
       |none=>exact hi
       |some a=>simp only[bN,del];split<;>first|rfl|exact hi
      have h5:=h4 idB (by simp[Vc.C',V2.symm,VL _ hidB]);have hsw:bN (Vc.C' x.U idB oB) dA=Vc.C' (bN x.U dA) idB oB:=by
       cases dA with
       |none=>rfl
       |some a=>
        funext i;have Zs:a≠idB:=λe=>hdA a rfl (by rw[e];exact hidB);simp only[bN,del,Vc.C'];by_cases e1:i=a
        .have hib:i≠idB:=λe=>Zs (e1▸e);simp[e1,Zs]
        .by_cases e2:i=idB<;>simp[e1,e2,Ne.symm Zs]
      simp only at h5|-;rw[<-X9,hsw,<-yk V2];exact h5
variable {P:Program} {n:Nat}
def T.exists{i:aK}{x:St}{K:St->Prop}(hi:Inf x.U)(h:T P i x K):∃x',K x':=by
 unfold T at h;split at h
 .unfold TO at h;split at h
  .obtain⟨_,v,_,h⟩:=h;exact⟨_,h⟩
  .split at h
   .obtain⟨_,_,v,_,_,h⟩:=h;exact⟨_,h⟩
   .exact h.elim
  .split at h
   .obtain⟨_,_,h⟩:=h;exact⟨_,h⟩
   .exact h.elim
  .obtain⟨g,_,h⟩:=h;obtain⟨id,_,M'⟩:=hi 0;exact⟨_,h id M'⟩
  .exact h.elim
 .exact⟨_,h⟩
 .exact h.elim
def zQ{F:Fr}(hn:F.n=n){o:Oper}{all:Array Oper}{x:St}{K:St->Prop}{a:Act}{w:World}(h:T P (dg P n all o) x K)(hs:gl F x a w)
 {next:Act->World->Prop}{Q':Exit->Act->World->Prop}(VT:∀x' a' w',gl F x' a' w'->K x'->next a' w'):
 if Region.wanted o (yielded all a.tmps)then Wj P n o.op≠.bad/\o.wp P a w next Q' else next (a.put o.dst undef) w:=by
 subst hn;obtain⟨I,hs⟩:=hs;unfold T at h;cases hw:bz x.s (dg P F.n all o).g with
 |none=>simp only[hw]at h
 |some b=>
  have hwant:=uu (P:=P) hs all o hw;rw[hwant];simp only[hw]at h;cases b
  .simp only[gi,if_false]at h|-;exact VT _ _ _ ⟨I,hs.pure (d:=o.dst) (by simp only[E'];exact⟨[],rfl,by simp[aq]⟩)⟩ h
  .simp only[if_true]at h|-;refine⟨λe=>?_,?_⟩
   .have hopc:(dg P F.n all o).op=Wj P F.n o.op:=rfl;rw[hopc,e]at h;simp[TO,br]at h
   have hdst:(dg P F.n all o).dst=o.dst.filter (·<F.n):=rfl;have hopc:(dg P F.n all o).op=Wj P F.n o.op:=rfl;rw[hdst,hopc]at h;unfold TO at h;split at h
   .obtain⟨h1,v,h2,h3⟩:=h;obtain⟨z,hz,hr⟩:=sN hs o h1 h2;unfold Oper.wp;rw[hz];exact VT _ _ _ ⟨I,hs.pure hr⟩ h3
   .split at h
    .rename_i fx xs VS;obtain⟨f,caps,v,h1,h2,h3⟩:=h;obtain⟨f0,args,argTypes,g1,rfl,rfl⟩:=nA VS;refine pt hs g1 h1 (h2 _ (aa.refl _)) λr Z' hp a' w' VW=>?_;obtain⟨rfl,rfl⟩:=hp;exact VT _ a' w' VW h3
    .exact h.elim
   .split at h
    .rename_i sz xa xv VS;obtain⟨Z',h1,h2⟩:=h;obtain⟨t,y,z,g1,g2,rfl,rfl,rfl⟩:=xM VS;unfold dn at h1;split at h1
     .rename_i id r0 c e1;split at h1
      .rename_i ob e2;split at h1
       .rename_i r e3;split at h1
        .rename_i r' e4;simp only[aS]at h1;subst h1;obtain⟨w',hx,VW⟩:=tI hs g1 g2 e1 e2 e3 e4;unfold Oper.wp;rw[hx];exact VT _ _ _ ⟨I,VW⟩ h2
        .cases h1
       .cases h1
      .cases h1
     .cases h1
    .exact h.elim
   .obtain⟨g,hg,h⟩:=h;cases VS:Wj P F.n o.op<;>rw[VS]at hg
    case box e sz xv=>
     simp only[Xl]at hg;split at hg
     .rename_i hc;simp only[aS]at hg;subst hg;obtain⟨y,g1,g2,rfl,rfl⟩:=DL VS;obtain⟨id,M',z,w',Y',hz,VW⟩:=yK hs g1 g2 hc.1 hc.2;unfold Oper.wp;rw[hz];exact VT _ _ _ ⟨Y',VW⟩ (h id M')
     .cases hg
    case alloc e sz z=>
     simp only[Xl,aS]at hg;subst hg;obtain⟨ti,zv,g1,g2,rfl,rfl⟩:=yu VS;obtain⟨id,M',y,w',Y',hy,VW⟩:=tu hs g1 g2;unfold Oper.wp;rw[hy];exact VT _ _ _ ⟨Y',VW⟩ (h id M')
    case gW e sz xs=>
     simp only[Xl]at hg;split at hg
     .rename_i hc;simp only[aS]at hg;subst hg;obtain⟨t,len,parts,ti,z,h1,h2,h3,rfl,h5,h6,rfl⟩:=u5 VS;have hx:∀y∈parts.toList.map (λp=>(cx F.n p.2).ev x.s),y.cells.length=ti.size/\y.stays=true:=by
       intro y hy;have:=fM.1 hc y (by rw[List.map_map];exact hy);simpa using this
      obtain⟨id,M',y,w',Y',hy,VW⟩:=qj hs h1 h2 h3 h5 h6 hx;unfold Oper.wp;rw[hy];have hl:parts.size=len:=by have:=congrArg List.length h5;simpa using this
      refine VT _ _ _ ⟨Y',VW⟩ ?_;have:=h id M';simpa only[cO,List.map_map,Array.length_toList,hl,Function.comp_def]using this
     .cases hg
    case mk e sz bytes zv y=>
     simp only[Xl]at hg;split at hg
     .rename_i m hm;split at hg
      .rename_i hc;simp only[aS]at hg;subst hg;obtain⟨t,l',c,ti,z,g1,g2,g3,rfl,rfl,rfl,g5,rfl⟩:=GR VS;obtain⟨id,M',x',w',Y',Wl,VW⟩:=Cg hs g1 g5 g2 g3 hm hc.1 hc.2;unfold Oper.wp;rw[Wl];exact VT _ _ _ ⟨Y',VW⟩ (h id M')
      .cases hg
     .cases hg
    case appz e sz bytes zv ya y=>
     simp only[Xl]at hg;split at hg
     .rename_i kq m hy hm;split at hg
      .rename_i hc;simp only[aS]at hg;subst hg;obtain⟨t,tn,kn,x1,y1,args,argTypes,ti,z,g1,g2,g3,g4,g5,g6,rfl,rfl,rfl,rfl,rfl⟩:=BD VS;obtain⟨id,M',x',w',Y',Wl,VW⟩:=wh hs g1 g2 g3 g4 g5 g6 hy hm hc.1 hc.2;unfold Oper.wp;rw[Wl];exact VT _ _ _ ⟨Y',VW⟩ (h id M')
      .cases hg
     .cases hg
    case append e sz bytes xa xb=>
     simp only[Xl]at hg;split at hg
     .rename_i base idA src e1 e2;split at hg
      .rename_i hb;simp only[aS]at hg;subst hg;obtain⟨t,t',y,z,args,argTypes,ti,zv,g1,g2,g3,g3',g4,g5,rfl,rfl,rfl,rfl⟩:=vx VS;obtain⟨id,M',r,w',Y',hx,VW⟩:=qX hs g1 g2 g3 g3' g4 g5 e1 e2 hb;unfold Oper.wp;rw[hx];exact VT _ _ _ ⟨Y',VW⟩ (h id M')
      .cases hg
     .cases hg
    all_goals simp[Xl]at hg
   .exact h.elim
def Tn(P:Program)(n:Nat)(ops:Array Oper)(i:Nat)(x:St)(K:St->Prop):Prop:=match ops[i]? with
 |some o=>T P (dg P n ops o) x K
 |none=>K x
def rM(P:Program)(n:Nat)(ops:Array Oper)(Q:St->Prop):Nat->Array Bool->St->Prop
 |0,A',x=>Region.ready .any ops A'=[]/\Q x
 |f+1,A',x=>(Region.ready .any ops A'=[]->Q x)/\∀i∈Region.ready .any ops A',Tn P n ops i x (rM P n ops Q f (A'.setIfInBounds i true))
def pN{F:Fr}(hn:F.n=n){ops:Array Oper}{Q:St->Prop}{Q':Exit->Act->World->Prop}(hQ:∀x a w,gl F x a w->Q x->Q' .normal a w):
 ∀(f:Nat) (A':Array Bool) (x:St) (a:Act) (w:World),gl F x a w->rM P n ops Q f A' x->wpAnyIn F.fC 0 P .any ops Q' f A' a w
 |0,_,_,_,_,hs,h=>⟨h.1,hQ _ _ _ hs h.2⟩
 |f+1,A',x,a,w,hs,h=>by
  refine⟨λh0=>hQ _ _ _ hs (h.1 h0),λi hi=>?_⟩;have h1:=h.2 i hi;unfold Tn at h1;unfold wpOpIn;cases ho:ops[i]? with
  |none=>
   simp only[ho]at h1;exact pN hn hQ f _ x a w hs h1
  |some o=>
   simp only[ho]at h1;have h2:=zQ (Q':=Q') hn h1 hs λx' a' w' VW hk=>pN hn hQ f _ x' a' w' VW hk;by_cases hw:Region.wanted o (yielded ops a.tmps)=true
   .rw[av hw]at h2;simp only[hw,if_true];exact Kz (og h2.1) h2.2
   .rw[aD hw]at h2;simp only[hw];exact⟨λ_ _=>trivial,h2⟩
def lN(ops:Array Oper)(A':Array Bool):Prop:=∀m om,ops[m]?=some om->A'.getD m true=true->∀e∈om.after,Region.binds .any e=true->A'.getD e.on false=true
def lN.list{ops:Array Oper}{A':Array Bool}(h:lN ops A'){i:Nat}(hi:i∈Region.ready .any ops A'):lN ops (A'.setIfInBounds i true):=by
 intro m om hm hl e he hb;by_cases hmi:m=i
 .subst hmi;obtain⟨_,o,ho,WY⟩:=mem_ready.1 hi;rw[hm]at ho;cases ho;exact getD_set_true (WY e he hb)
 .rw[getD_set_ne true (Ne.symm hmi)]at hl;exact getD_set_true (h m om hm hl e he hb)
def CD{f:Edge->Nat}(l:List Edge):∀(s:Nat) (i:Nat),(l.foldl (λs e=>if Region.binds .any e then s ||| 2^e.on ||| f e else s) s).testBit i=true->
 s.testBit i=true\/∃e∈l,Region.binds .any e=true/\(i=e.on\/(f e).testBit i=true):=by
 induction l with
 |nil=>intro s i h;exact .inl h
 |cons e l ih=>
  intro s i h;simp only[gC]at h;rcases ih _ i h with h1|⟨e',h2,h3,h4⟩
  .by_cases hb:Region.binds .any e=true
   .rw[av hb]at h1;simp only[Nat.testBit_or,lP,Nat.testBit_two_pow]at h1;rcases h1 with(h1|h1)|h1
    .exact .inl h1
    .exact .inr ⟨e,by simp,hb,.inl (by simpa using(of_decide_eq_true h1).symm)⟩
    .exact .inr ⟨e,by simp,hb,.inr h1⟩
   .rw[aD hb]at h1;exact .inl h1
  .exact .inr ⟨e',by simp[h2],h3,h4⟩
def sY{ops:Array Oper}{A':Array Bool}(hc:lN ops A'):∀(j:Nat) (oj:Oper) (i:Nat),ops[j]?=some oj->((Region.before ops).getD j 0).testBit i=true->
 (∀e∈oj.after,Region.binds .any e=true->A'.getD e.on false=true)->A'.getD i false=true:=by
 have key:∀(l:List Oper) (acc:Array Nat) (k:Nat),acc.size=k->(∀j,l[j]?=ops[k+j]?)->
  (∀j oj i,j<k->ops[j]?=some oj->(acc.getD j 0).testBit i=true->(∀e∈oj.after,Region.binds .any e=true->A'.getD e.on false=true)->A'.getD i false=true)->
  ∀j oj i,ops[j]?=some oj->((l.foldl (λacc o=>acc.push (o.after.foldl (λs e=>if Region.binds .any e then s ||| 2^e.on ||| acc.getD e.on 0 else s) 0)) acc).getD j 0).testBit i=true->
   (∀e∈oj.after,Region.binds .any e=true->A'.getD e.on false=true)->A'.getD i false=true:=by
  intro l
  induction l with
  |nil=>
   intro acc k hk hl h j oj i hj hb hd;have B':j<k:=by
    rcases Nat.lt_or_ge j k with h1|h1
    .exact h1
    .have:=hl (j-k);rw[show k+(j-k)=j by omega,hj]at this;simp at this
   exact h j oj i B' hj hb hd
  |cons o l ih=>
   intro acc k hk hl h;have VE:ops[k]?=some o:=by simpa using(hl 0).symm
   refine ih _ (k+1) (by simp[hk]) (λj=>by have:=hl (j+1);simpa[Nat.add_assoc,FO 1 j]using this) ?_;intro j oj i hj hoj hb hd;by_cases hjk:j=k
   .subst hjk;rw[hoj]at VE;cases VE;rw[Zq7,<-hk,Array.getElem?_push_size]at hb;simp only[Option.getD_some]at hb;rw[<-Array.foldl_toList]at hb;rcases CD (f:=λe=>acc.getD e.on 0) o.after.toList 0 i hb with h1|⟨e,he,hbd,h1|h1⟩
    .simp at h1
    .rw[h1];exact hd e (by simpa using he) hbd
    .have hel:=hd e (by simpa using he) hbd;by_cases hek:e.on<acc.size
     .have hex:e.on<ops.size:=by
       have:=(uh.1 hoj).1;omega
      have hoe:ops[e.on]?=some ops[e.on]:=Array.getElem?_eq_getElem hex;refine h e.on _ i (by omega) hoe h1 (hc e.on _ hoe ?_);have Xr:e.on<A'.size:=by
       rcases Nat.lt_or_ge e.on A'.size with h2|h2
       .exact h2
       .simp[Array.getElem?_eq_none h2]at hel
      simp only[Zq7,Array.getElem?_eq_getElem Xr,Option.getD_some]at hel|-;exact hel
     .rw[Zq7,Array.getElem?_eq_none (by omega)]at h1;simp at h1
   .have hjlt:j<k:=by omega
    rw[Zq7,Array.getElem?_push_lt (by omega)]at hb;refine h j oj i hjlt hoj ?_ hd;rw[Zq7,Array.getElem?_eq_getElem (by omega)];exact hb
 intro j oj i hj hb hd;unfold Region.before at hb;rw[<-Array.foldl_toList]at hb;exact key ops.toList #[] 0 rfl (by simp) (λj oj i h=>by omega) j oj i hj hb hd
def yL{ops:Array Oper}{Q:St->Prop}{i:Nat}{oi:Oper}(hi:ops[i]?=some oi):∀(f:Nat) (A':Array Bool) (x:St),Inf x.U->lN ops A'->
 (∀j oj,ops[j]?=some oj->j≠i->A'.getD j true=false->((Region.before ops).getD j 0).testBit i=false->nj (dg P n ops oi) (dg P n ops oj)=true)->
 i∈Region.ready .any ops A'->T P (dg P n ops oi) x (rM P n ops Q f (A'.setIfInBounds i true))->rM P n ops Q (f+1) A' x:=by
 intro f
 induction f with
 |zero=>
  intro A' x ZW _ _ hr H;refine⟨λh=>(by rw[h]at hr;cases hr),λj hj=>?_⟩;by_cases Zd:j=i
  .subst Zd;unfold Tn;simp only[hi];exact H
  .have:=ready_mono hj Zd;obtain⟨x',Wl⟩:=H.exists ZW;rw[Wl.1]at this;cases this
 |succ f ih=>
  intro A' x ZW Xg hfree hr H;refine⟨λh=>(by rw[h]at hr;cases hr),λj hj=>?_⟩;by_cases Zd:j=i
  .subst Zd;unfold Tn;simp only[hi];exact H
  .obtain⟨hjun,oj,hoj,WY⟩:=mem_ready.1 hj;have hnot:((Region.before ops).getD j 0).testBit i=false:=by
    cases hb:((Region.before ops).getD j 0).testBit i with
    |false=>rfl
    |true=>
     exfalso;have h1:=sY Xg j oj i hoj hb WY;have h0:=(mem_ready.1 hr).1;rcases Nat.lt_or_ge i A'.size with h'|h'
     .simp[h']at h0 h1;rw[h0]at h1;cases h1
     .simp[Array.getElem?_eq_none h']at h1
   have H2:T P (dg P n ops oi) x λx'=>T P (dg P n ops oj) x' (rM P n ops Q f ((A'.setIfInBounds i true).setIfInBounds j true)):=by
    refine H.mono λx' Wl=>?_;have:=Wl.2 j (ready_mono hj Zd);unfold Tn at this;simpa only[hoj]using this
   have h2:=IJ (hfree j oj hoj Zd hjun hnot) ZW H2;have hfree':∀k ok,ops[k]?=some ok->k≠i->(A'.setIfInBounds j true).getD k true=false->
    ((Region.before ops).getD k 0).testBit i=false->nj (dg P n ops oi) (dg P n ops ok)=true:=λk ok hk hki hun Wb=>by
    refine hfree k ok hk hki ?_ Wb;by_cases hjk:j=k
    .subst hjk;exact hjun
    .rw[getD_set_ne true hjk]at hun;exact hun
   unfold Tn;simp only[hoj];refine(h2.inf ZW).mono λx' Wl=>ih (A'.setIfInBounds j true) x' Wl.1 (Xg.list hj) hfree' (ready_mono hr (Ne.symm Zd)) ?_;rw[Array.setIfInBounds_comm _ _ Zd];exact Wl.2
def xe{ops:Array Oper}{k:Nat}{ok:Oper}{A':Array Bool}(hk:ops[k]?=some ok)(h:EF P n ops k A'=true)(j:Nat)(oj:Oper)(hj:ops[j]?=some oj)(V2:j≠k)
 (hun:A'.getD j true=false)(Wb:((Region.before ops).getD j 0).testBit k=false):nj (dg P n ops ok) (dg P n ops oj)=true:=by
 unfold EF at h;simp only[hk]at h;have hjlt:j<ops.size:=(uh.1 hj).1;have:=fM.1 h j (List.mem_range.2 hjlt);simp only[hj,hun,Wb,Bool.or_false,Bool.false_or,lP,beq_iff_eq,V2,false_or]at this;exact this
def iW(P:Program)(Q:St->Prop):List aK->St->Prop
 |[],x=>Q x
 |i::l,x=>T P i x (iW P Q l)
def wO{ops:Array Oper}{Q:St->Prop}:∀(l:List Oper) (k:Nat) (A':Array Bool) (x:St),Inf x.U->lN ops A'->(∀j,l[j]?=ops[k+j]?)->
 GN P n ops l.length k A'=true->iW P Q (l.map (dg P n ops)) x->rM P n ops Q l.length A' x
 |[],_,_,_,_,_,_,hB,h=>⟨by simpa[GN]using hB,h⟩
 |o::l,k,A',x,ZW,Xg,hl,hB,h=>by
  have h0:ops[k]?=some o:=by simpa using(hl 0).symm
  simp only[XU,GN,Ba]at hB;obtain⟨⟨hr,hf⟩,hB'⟩:=hB;refine yL h0 l.length A' x ZW Xg (xe h0 hf) (by simpa using hr) ?_;refine(T.inf ZW h).mono λx' Wl=>?_;exact wO l (k+1) _ x' Wl.1 (Xg.list (by simpa using hr)) (λj=>by have:=hl (j+1);simpa[Nat.add_assoc,FO 1 j]using this) hB' Wl.2
def zm{F:Fr}(hn:F.n=n){ops:Array Oper}(VE:zA P n ops=true){id:Nat}{x:St}{a:Act}{w:World}(hs:gl F x a w){Q:St->Prop}{Q':Exit->Act->World->Prop}
 (hQ:∀x a w,gl F x a w->Q x->Q' .normal a w)(h:iW P Q (ops.toList.map (dg P n ops)) x):(Code.region id ops true).wpIn F.fC 0 P Q' a w:=by
 simp only[zA,Ba]at VE;have VW:gl F x a { w with drawn:=w.drawn+1 }:=by
  obtain⟨I,hs⟩:=hs;have hk:di (aE I x.U) (aE I x.U) w { w with drawn:=w.drawn+1 }:=λ_ _ h=>⟨h,rfl⟩
  refine⟨I,⟨⟨hs.sat.size,hs.sat.os,hs.sat.tape,hs.sat.output,hs.sat.same,hs.sat.fin,hs.sat.inj,λid o ho=>?_,hs.sat.fresh,hs.sat.Za⟩,hs.le,hs.size,hs.book.mR hk,λi hi=>?_⟩⟩
  .exact(hs.sat.obj id o ho).mono (dL.refl I) hk (Wa _) (λ_ _ _ _=>rfl)
  .exact E'.mono (dL.refl I) hk (Wa _) _ _ (hs.slot i hi)
 refine wpIn_region_any VE.1 (pN hn hQ _ _ _ _ _ VW ?_);have:=wO (P:=P) (n:=n) (Q:=Q) ops.toList 0 (Array.replicate ops.size false) x hs.inf (λm om hm hl=>by
  have B':m<ops.size:=(uh.1 hm).1;rw[Zq7,Array.getElem?_replicate,av B']at hl;simp at hl) (by simp) (by simpa using VE.2.2) h
 simpa using this
def rJ(P:Program)(n:Nat)(ops:Array Oper)(m:Nat)(Q:St->Prop):Nat->Array Bool->St->Prop
 |0,A',x=>(Region.ready .any ops A'=[m]/\Region.ready .any ops (A'.setIfInBounds m true)=[])/\Q x
 |f+1,A',x=>Region.ready .any ops A'≠[]/\∀i∈Region.ready .any ops A',i≠m/\Tn P n ops i x (rJ P n ops m Q f (A'.setIfInBounds i true))
def pY{F:Fr}(hn:F.n=n){ops:Array Oper}{m:Nat}{Q:St->Prop}{Q':Exit->Act->World->Prop}(hQ:∀x a w,gl F x a w->Q x->wpOpIn F.fC 0 P ops Q' m (Q' .normal) a w):
 ∀(f:Nat) (A':Array Bool) (x:St) (a:Act) (w:World),gl F x a w->rJ P n ops m Q f A' x->wpAnyIn F.fC 0 P .any ops Q' (f+1) A' a w
 |0,A',x,a,w,hs,h=>by
  obtain⟨⟨h1,h2⟩,h3⟩:=h;refine⟨λh0=>(by rw[h1]at h0;cases h0),λi hi=>?_⟩;rw[h1]at hi;have him:i=m:=by simpa using hi
  subst him;exact wpOpIn_mono (λa w h=>⟨h2,h⟩) (hQ x a w hs h3)
 |f+1,A',x,a,w,hs,h=>by
  refine⟨λh0=>absurd h0 h.1,λi hi=>?_⟩;have h1:=(h.2 i hi).2;unfold Tn at h1;unfold wpOpIn;cases ho:ops[i]? with
  |none=>
   simp only[ho]at h1;exact pY hn hQ f _ x a w hs h1
  |some o=>
   simp only[ho]at h1;have h2:=zQ (Q':=Q') hn h1 hs λx' a' w' VW hk=>pY hn hQ f _ x' a' w' VW hk;by_cases hw:Region.wanted o (yielded ops a.tmps)=true
   .rw[av hw]at h2;simp only[hw,if_true];exact Kz (og h2.1) h2.2
   .rw[aD hw]at h2;simp only[hw];exact⟨λ_ _=>trivial,h2⟩
def zb{ops:Array Oper}{m:Nat}{Q:St->Prop}{i:Nat}{oi:Oper}(hi:ops[i]?=some oi)(him:i≠m)(hm:((Region.before ops).getD m 0).testBit i=true):
 ∀(f:Nat) (A':Array Bool) (x:St),Inf x.U->lN ops A'->
 (∀j oj,ops[j]?=some oj->j≠i->A'.getD j true=false->((Region.before ops).getD j 0).testBit i=false->nj (dg P n ops oi) (dg P n ops oj)=true)->
 i∈Region.ready .any ops A'->T P (dg P n ops oi) x (rJ P n ops m Q f (A'.setIfInBounds i true))->rJ P n ops m Q (f+1) A' x:=by
 have hnotj:∀(A':Array Bool),lN ops A'->i∈Region.ready .any ops A'->∀j,j∈Region.ready .any ops A'->((Region.before ops).getD j 0).testBit i=false:=λA' Xg hr j hj=>by
  obtain⟨hjun,oj,hoj,WY⟩:=mem_ready.1 hj;cases hb:((Region.before ops).getD j 0).testBit i with
  |false=>rfl
  |true=>
   exfalso;have h1:=sY Xg j oj i hoj hb WY;have h0:=(mem_ready.1 hr).1;rcases Nat.lt_or_ge i A'.size with h'|h'
   .simp[h']at h0 h1;rw[h0]at h1;cases h1
   .simp[Array.getElem?_eq_none h']at h1
 have hjm:∀(A':Array Bool),lN ops A'->i∈Region.ready .any ops A'->∀j,j∈Region.ready .any ops A'->j≠m:=λA' Xg hr j hj e=>by
  have:=hnotj A' Xg hr j hj;rw[e,hm]at this;cases this
 intro f
 induction f with
 |zero=>
  intro A' x ZW Xg _ hr H;refine⟨λh=>(by rw[h]at hr;cases hr),λj hj=>⟨hjm A' Xg hr j hj,?_⟩⟩;by_cases Zd:j=i
  .subst Zd;unfold Tn;simp only[hi];exact H
  .have:=ready_mono hj Zd;obtain⟨x',Wl⟩:=H.exists ZW;rw[Wl.1.1]at this;exact absurd (by simpa using this) (hjm A' Xg hr j hj)
 |succ f ih=>
  intro A' x ZW Xg hfree hr H;refine⟨λh=>(by rw[h]at hr;cases hr),λj hj=>⟨hjm A' Xg hr j hj,?_⟩⟩;by_cases Zd:j=i
  .subst Zd;unfold Tn;simp only[hi];exact H
  .obtain⟨hjun,oj,hoj,WY⟩:=mem_ready.1 hj;have hnot:=hnotj A' Xg hr j hj;have H2:T P (dg P n ops oi) x λx'=>T P (dg P n ops oj) x' (rJ P n ops m Q f ((A'.setIfInBounds i true).setIfInBounds j true)):=by
    refine H.mono λx' Wl=>?_;have:=(Wl.2 j (ready_mono hj Zd)).2;unfold Tn at this;simpa only[hoj]using this
   have h2:=IJ (hfree j oj hoj Zd hjun hnot) ZW H2;have hfree':∀k ok,ops[k]?=some ok->k≠i->(A'.setIfInBounds j true).getD k true=false->
    ((Region.before ops).getD k 0).testBit i=false->nj (dg P n ops oi) (dg P n ops ok)=true:=λk ok hk hki hun Wb=>by
    refine hfree k ok hk hki ?_ Wb;by_cases hjk:j=k
    .subst hjk;exact hjun
    .rw[getD_set_ne true hjk]at hun;exact hun
   unfold Tn;simp only[hoj];refine(h2.inf ZW).mono λx' Wl=>ih (A'.setIfInBounds j true) x' Wl.1 (Xg.list hj) hfree' (ready_mono hr (Ne.symm Zd)) ?_;rw[Array.setIfInBounds_comm _ _ Zd];exact Wl.2
def vN{ops:Array Oper}{m:Nat}{Q:St->Prop}:∀(l:List Oper) (k:Nat) (A':Array Bool) (x:St),Inf x.U->lN ops A'->(∀j,j<l.length->l[j]?=ops[k+j]?)->
 HW P n ops m l.length k A'=true->iW P Q (l.map (dg P n ops)) x->rJ P n ops m Q l.length A' x
 |[],_,_,_,_,_,_,hB,h=>⟨by simpa[HW]using hB,h⟩
 |o::l,k,A',x,ZW,Xg,hl,hB,h=>by
  have h0:ops[k]?=some o:=by simpa using(hl 0 (by simp)).symm
  simp only[XU,HW,Ba]at hB;obtain⟨⟨hr,hkm,hbit⟩,hf,hB'⟩:=hB;refine zb h0 (by simpa using hkm) hbit l.length A' x ZW Xg (xe h0 hf) (by simpa using hr) ?_;refine(T.inf ZW h).mono λx' Wl=>?_;exact vN l (k+1) _ x' Wl.1 (Xg.list (by simpa using hr)) (λj hj=>by have:=hl (j+1) (by simpa using hj);simpa[Nat.add_assoc,FO 1 j]using this) hB' Wl.2
def xu{F:Fr}(hn:F.n=n){ops:Array Oper}(VE:zG P n ops=true){id:Nat}{x:St}{a:Act}{w:World}(hs:gl F x a w){Q:St->Prop}{Q':Exit->Act->World->Prop}
 (hQ:∀x a w,gl F x a w->Q x->wpListIn F.fC 0 P ops Q' (ops.toList.drop (ops.size-1)) a w)(h:iW P Q ((ops.toList.take (ops.size-1)).map (dg P n ops)) x):(Code.region id ops true).wpIn F.fC 0 P Q' a w:=by
 simp only[zG,Ba,X7]at VE;obtain⟨hmx,Xd,_,_,hlex⟩:=VE;have VW:gl F x a { w with drawn:=w.drawn+1 }:=by
  obtain⟨I,hs⟩:=hs;have hk:di (aE I x.U) (aE I x.U) w { w with drawn:=w.drawn+1 }:=λ_ _ h=>⟨h,rfl⟩
  refine⟨I,⟨⟨hs.sat.size,hs.sat.os,hs.sat.tape,hs.sat.output,hs.sat.same,hs.sat.fin,hs.sat.inj,λid o ho=>?_,hs.sat.fresh,hs.sat.Za⟩,hs.le,hs.size,hs.book.mR hk,λi hi=>?_⟩⟩
  .exact(hs.sat.obj id o ho).mono (dL.refl I) hk (Wa _) (λ_ _ _ _=>rfl)
  .exact E'.mono (dL.refl I) hk (Wa _) _ _ (hs.slot i hi)
 refine wpIn_region_any hmx ?_;have hlen:(ops.toList.take (ops.size-1)).length=ops.size-1:=by simp
 have hdrop:ops.toList.drop (ops.size-1)=[ops[ops.size-1]'(by omega)]:=by
  rw[ju (by simpa using(by omega:ops.size-1<ops.size))];simp[K7,show ops.size<=ops.size-1+1 by omega]
 have XE:ops[ops.size-1]?=some (ops[ops.size-1]'(by omega)):=Array.getElem?_eq_getElem (by omega);have hL:=vN (P:=P) (n:=n) (Q:=Q) (m:=ops.size-1) (ops.toList.take (ops.size-1)) 0 (Array.replicate ops.size false) x hs.inf (λm om hm hl=>by
  have B':m<ops.size:=(uh.1 hm).1;rw[Zq7,Array.getElem?_replicate,av B']at hl;simp at hl) (λj hj=>by rw[hlen]at hj;simp[List.getElem?_take,hj]) (by rw[hlen];exact hlex) h
 rw[hlen]at hL;have:=pY (Q':=Q') hn (λx a w hs hq=>by
  have:=hQ x a w hs hq;rw[hdrop]at this;unfold wpOpIn;simpa only[XE,wpListIn]using this) _ _ _ _ _ VW hL
 rwa [show ops.size-1+1=ops.size by omega]at this
variable {P:Program} {n:Nat} {st:St} {Q:St->Prop} {k:List It}
def ai.Ei{l:List aK}(h:iW P (λx=>ai P n k x Q) l st):ai P n (.code (.reg true l)::k) st Q:=by
 intro F hn kt hk a w hs;obtain⟨z,YA,rfl,hy,XO⟩:=fg hk;obtain⟨c0,rfl,Xo⟩:=iO hy;have hc0:∃id ops,c0=.region id ops true/\zA P n ops=true/\ops.toList.map (dg P n ops)=l:=by
  cases c0<;>simp only[dZ,reduceCtorEq]at Xo;rename_i id ops draw;cases draw
  .simp at Xo
  .simp only[Bool.true_and]at Xo;split at Xo
   .cases Xo
   split at Xo
   .cases Xo
   .rename_i hd;simp only[bW.reg.injEq,true_and]at Xo;exact⟨id,ops,rfl,by simpa using hd,Xo⟩
 obtain⟨id,ops,rfl,VE,rfl⟩:=hc0;exact zm hn VE hs (λx a w hs h=>h F hn YA XO a w hs) h
def ai.tV{l e:List aK}(h:iW P (λx=>ai P n (.ops e::k) x Q) l st):ai P n (.code (.tV l e)::k) st Q:=by
 intro F hn kt hk a w hs;obtain⟨z,YA,rfl,hy,XO⟩:=fg hk;obtain⟨c0,rfl,Xo⟩:=iO hy;have hc0:∃id ops,c0=.region id ops true/\zG P n ops=true/\(ops.toList.take (ops.size-1)).map (dg P n ops)=l/\(ops.toList.drop (ops.size-1)).map (dg P n ops)=e:=by
  cases c0<;>simp only[dZ,reduceCtorEq]at Xo;rename_i id ops draw;cases draw
  .simp at Xo
  .simp only[Bool.true_and]at Xo;split at Xo
   .rename_i hd;simp only[bW.tV.injEq]at Xo;exact⟨id,ops,rfl,hd,Xo.1,Xo.2⟩
   .split at Xo<;>cases Xo
 obtain⟨id,ops,rfl,VE,rfl,rfl⟩:=hc0;exact xu hn VE hs (λx a w hs h=>h F hn (.ops ops (ops.toList.drop (ops.size-1))::YA) (by simp[KI.it,XO]) a w hs) h
def St.lit(st:St):VX->V->St
 |.t d,v=>⟨bc st.s (some d) v,st.U⟩
 |.c _,_=>st
inductive Td where
 |r (todo:List It)
 |d (l:List aK) (todo:List It)
def Kof(P:Program)(n:Nat)(todo:List It)(st:St)(Q:St->Prop):Prop:=match todo with
 |.stop μ::_=>μ st
 |todo=>ai P n todo st Q
def Kof.runs{todo:List It}(h:Kof P n todo st Q):ai P n todo st Q:=by
 cases todo with
 |nil=>exact h
 |cons x k=>cases x<;>first|exact ai.stop h|exact h
def iW.mono{K K':St->Prop}(hk:∀x,K x->K' x):∀{l:List aK} {x:St},iW P K l x->iW P K' l x
 |[],_,h=>hk _ h
 |_::_,_,h=>T.mono (λ_ h=>iW.mono hk h) h
def Go(P:Program)(n:Nat)(t:Td)(st:St)(Q:St->Prop):Prop:=
 match t with
 |.r todo=>Kof P n todo st Q
 |.d l todo=>iW P (λx=>Kof P n todo x Q) l st
def Go.runs{todo:List It}(h:Go P n (.r todo) st Q):ai P n todo st Q:=Kof.runs h
def Go.chain{l:List aK}(h:Go P n (.d l k) st Q):iW P (λx=>ai P n k x Q) l st:=iW.mono (λ_ h=>Kof.runs h) h
def ez{α:Type}(o:Option α)(k:α->Prop):Prop:=match o with
 |some v=>k v
 |none=>False
def sV{α:Type}(v:α)(k:α->Prop):ez (some v) k=k v:=rfl
def iU{α:Type}{o:Option α}{k:α->Prop}:ez o k↔∃v,o=some v/\k v:=by cases o<;>simp[ez]
def eC(v:V)(k:Bool->Prop)(z:Prop):Prop:=match v with
 |.bool c=>k c
 |.VG []=>z
 |.int _ _=>z
 |_=>False
def mE{v:V}{k:Bool->Prop}{z:Prop}(h:eC v k z):(∃c,v=.bool c/\k c)\/(v=.VG []/\z)\/(∃q m,v=.int q m/\z):=by
 unfold eC at h;split at h
 .exact .inl ⟨_,rfl,h⟩
 .exact .inr (.inl ⟨rfl,h⟩)
 .exact .inr (.inr ⟨_,_,rfl,h⟩)
 .exact h.elim
def both(c b:Bool)(x y:Prop):Prop:=(c=b->x)/\(c=!b->y)
def dJ(s:Nat->V)(U:ad):Wd->Option ad
 |.store sz xa xv=>dn U sz (xa.ev s) (xv.ev s)
 |_=>none
structure Xu(P:Program) where
 get:FuncId->List V->ad->Option V
 ok:∀f args U v,get f args U=some v->au P f args U λr Z'=>r=v/\Z'=U
 up:∀f args U Z' v,aa U Z'->get f args U=some v->get f args Z'=some v:=by intros;assumption
def Xu.nothing:Xu P where
 get _ _ _:=none
 ok _ _ _ _ h:=by cases h
def yA(O:Xu P)(s:Nat->V)(U:ad):Wd->Option V
 |.call fx xs=>match fx.ev s with
   |.fn f caps=>O.get f (xs.map (·.ev s)++caps) U
   |_=>none
 |_=>none
def zu(o:Option V)(k:V->Prop)(z:Prop):Prop:=match o with
 |some v=>k v
 |none=>z
def qS{o:Option V}{k:V->Prop}{z:Prop}(h:zu o k z):(∃v,o=some v/\k v)\/z:=by
 cases o with
 |none=>exact .inr h
 |some v=>exact .inl ⟨v,rfl,h⟩
def yX(q:Nat)(a b c d g:Prop):Prop:=match q with
 |0=>a
 |1=>b
 |2=>c
 |3=>d
 |_=>g
def oS{q:Nat}{a b c d g:Prop}(h:yX q a b c d g):(q=0/\a)\/(q=1/\b)\/(q=2/\c)\/(q=3/\d)\/g:=by
 unfold yX at h;split at h<;>simp_all
def xC(O:Xu P)(q:Nat)(d:Option Nat)(op:Wd)(st:St)(k:St->Prop)(z:Prop):Prop:=
 yX q (eL st.s op/\ez (aJ st.U st.s op) λv=>k ⟨bc st.s d v,st.U⟩)
  (zu (yA O st.s st.U op) (λv=>k ⟨bc st.s d v,st.U⟩) z)
  (ez (dJ st.s st.U op) λZ'=>k ⟨bc st.s d (.VG []),Z'⟩)
  (ez (Xl st.s st.U op) λg=>∀id,st.U id=none->k ⟨bc st.s d (g id).1,(g id).2⟩) z
def step(P:Program)(O:Xu P)(n:Nat):Nat->Td->St->(St->Prop)->Prop
 |0,t,st,Q=>Go P n t st Q
 |f+1,t,st,Q=>match t with
  |.d l k=>match l with
   |[]=>step P O n f (.r k) st Q
   |i::l=>match i.g with
    |none=>xC O (br i.op) i.dst i.op st (λst=>step P O n f (.d l k) st Q) (Go P n (.d (i::l) k) st Q)
    |some (x,b)=>eC (x.ev st.s) (λc=>both c b
       (xC O (br i.op) i.dst i.op (st.lit x (.bool b)) (λst=>step P O n f (.d l k) st Q) (Go P n (.d (i::l) k) (st.lit x (.bool b)) Q))
       (step P O n f (.d l k) ⟨bc (st.lit x (.bool !b)).s i.dst (.VG []),(st.lit x (.bool !b)).U⟩ Q))
       (step P O n f (.d l k) ⟨bc st.s i.dst (.VG []),st.U⟩ Q)
  |.r todo=>match todo with
   |[]=>Q st
   |.stop μ::_=>μ st
   |.inBlock _::k=>step P O n f (.r k) st Q
   |.ops []::k=>step P O n f (.r k) st Q
   |.ops (i::l)::k=>match i.g with
    |none=>xC O (br i.op) i.dst i.op st (λst=>step P O n f (.r (.ops l::k)) st Q) (ai P n (.ops (i::l)::k) st Q)
    |some (x,b)=>eC (x.ev st.s) (λc=>both c b
       (xC O (br i.op) i.dst i.op (st.lit x (.bool b)) (λst=>step P O n f (.r (.ops l::k)) st Q) (ai P n (.ops (i::l)::k) (st.lit x (.bool b)) Q))
       (step P O n f (.r (.ops l::k)) ⟨bc (st.lit x (.bool !b)).s i.dst (.VG []),(st.lit x (.bool !b)).U⟩ Q))
       (step P O n f (.r (.ops l::k)) ⟨bc st.s i.dst (.VG []),st.U⟩ Q)
   |.code c::k=>match c with
    |.skip=>step P O n f (.r k) st Q
    |.seq a b=>step P O n f (.r (.code a::.code b::k)) st Q
    |.block id a=>step P O n f (.r (.code a::.inBlock id::k)) st Q
    |.exit id=>ez (eP id k) λk'=>step P O n f (.r k') st Q
    |.ret=>Q st
    |.cond c a b=>eC (c.ev st.s) (λt=>both t true (step P O n f (.r (.code a::k)) st Q) (step P O n f (.r (.code b::k)) st Q)) False
    |.reg draw l=>match draw with
     |false=>step P O n f (.r (.ops l::k)) st Q
     |true=>step P O n f (.d l k) st Q
    |.loop a=>ai P n (.code (.loop a)::k) st Q
    |.fk g ps a b=>ai P n (.code (.fk g ps a b)::k) st Q
    |.regA l V'=>ai P n (.code (.regA l V')::k) st Q
    |.tV l e=>step P O n f (.d l (.ops e::k)) st Q
    |.bad=>False
def zg{st:St}{x:VX}{v:V}(h:x.ev st.s=v):st.lit x v=st:=by
 cases x with
 |t d=>
  simp only[VX.ev]at h;have:bc st.s (some d) v=st.s:=by
   funext i;simp only[bc];split
   .rename_i e;rw[e,h]
   .rfl
  simp[St.lit,this]
 |c _=>rfl
def ai.dn{i:aK}{l:List aK}{sz:Nat}{xa xv:VX}(hw:bz st.s i.g=some true)(ho:i.op=.store sz xa xv){Z':ad}
 (h1:Vc.dn st.U sz (xa.ev st.s) (xv.ev st.s)=some Z')(h:ai P n (.ops l::k) ⟨bc st.s i.dst (.VG []),Z'⟩ Q):ai P n (.ops (i::l)::k) st Q:=by
 unfold Vc.dn at h1;split at h1
 .rename_i id r0 c e1;split at h1
  .rename_i ob e2;split at h1
   .rename_i r e3;split at h1
    .rename_i r' e4;simp only[aS]at h1;subst h1;exact ai.store hw ho e1 e2 e3 e4 h
    .cases h1
   .cases h1
  .cases h1
 .cases h1
def ai.Xl{i:aK}{l:List aK}(hw:bz st.s i.g=some true){g:Nat->V×ad}(hg:Vc.Xl st.s st.U i.op=some g)
 (h:∀id,st.U id=none->ai P n (.ops l::k) ⟨bc st.s i.dst (g id).1,(g id).2⟩ Q):ai P n (.ops (i::l)::k) st Q:=by
 cases VS:i.op<;>rw[VS]at hg<;>simp only[Vc.Xl,reduceCtorEq]at hg
 case box e sz xv=>
  split at hg
  .rename_i hc;simp only[aS]at hg;subst hg;exact ai.box hw VS hc.1 hc.2 h
  .cases hg
 case alloc e sz z=>
  simp only[aS]at hg;subst hg;exact ai.alloc hw VS h
 case gW e sz xs=>
  split at hg
  .rename_i hc;simp only[aS]at hg;subst hg;refine ai.gW hw VS (λx hx=>?_) h;have:=fM.1 hc x hx;simpa using this
  .cases hg
 case mk e sz bytes zv x=>
  split at hg
  .rename_i m hm;split at hg
   .rename_i hc;simp only[aS]at hg;subst hg;exact ai.mkS hw VS hm hc.1 hc.2 h
   .cases hg
  .cases hg
 case appz e sz bytes zv y x=>
  split at hg
  .rename_i kq m hy hm;split at hg
   .rename_i hc;simp only[aS]at hg;subst hg;exact ai.RR hw VS hy hm hc.1 hc.2 h
   .cases hg
  .cases hg
 case append e sz bytes xa xb=>
  split at hg
  .rename_i base idA src e1 e2;split at hg
   .rename_i hb;simp only[aS]at hg;subst hg;exact ai.append hw VS e1 e2 hb h
   .cases hg
  .cases hg
def pL{i:aK}{K:St->Prop}(hw:bz st.s i.g=some true)(h:TO P i.dst i.op st K):T P i st K:=by unfold T;simp only[hw];exact h
def uC{i:aK}{K:St->Prop}(hw:bz st.s i.g=some false)(h:K ⟨bc st.s i.dst (.VG []),st.U⟩):T P i st K:=by unfold T;simp only[hw];exact h
def wq{O:Xu P}{s:Nat->V}{U:ad}{op:Wd}{v:V}(h:yA O s U op=some v):
 ∃fx xs f caps,op=.call fx xs/\fx.ev s=.fn f caps/\∀Z1,aa U Z1->au P f (xs.map (·.ev s)++caps) Z1 λr Z'=>r=v/\Z'=Z1:=by
 unfold yA at h;split at h
 .rename_i fx xs;split at h
  .rename_i f caps hf;exact⟨fx,xs,f,caps,rfl,hf,λZ1 h1=>O.ok _ _ _ _ (O.up _ _ _ _ _ h1 h)⟩
  .cases h
 .cases h
def ai.vZ{O:Xu P}{i:aK}{l:List aK}{st:St}(hw:bz st.s i.g=some true){K:St->Prop}(hK:∀st,K st->ai P n (.ops l::k) st Q)
 (h:xC O (br i.op) i.dst i.op st K (ai P n (.ops (i::l)::k) st Q)):ai P n (.ops (i::l)::k) st Q:=by
 unfold xC at h;rcases oS h with⟨_,h1,h⟩|⟨_,h⟩|⟨_,h⟩|⟨_,h⟩|h
 .obtain⟨v,hv,h⟩:=iU.1 h;exact ai.pure hw h1 hv (hK _ h)
 .rcases qS h with⟨v,hv,h⟩|h
  .obtain⟨fx,xs,f,caps,ho,hf,hc⟩:=wq hv;refine ai.call hw ho hf (hc _ (aa.refl _)) ?_;rintro r Z' ⟨rfl,rfl⟩;exact hK _ h
  .exact h
 .obtain⟨Z',hs,h⟩:=iU.1 h;cases VS:i.op<;>rw[VS]at hs<;>simp only[dJ,reduceCtorEq]at hs;exact ai.dn hw VS hs (hK _ h)
 .obtain⟨g,hgg,h⟩:=iU.1 h;exact ai.Xl hw hgg λid M'=>hK _ (h id M')
 .exact h
def Go.vZ{O:Xu P}{i:aK}{l:List aK}{st:St}(hw:bz st.s i.g=some true){K:St->Prop}(hK:∀st,K st->Go P n (.d l k) st Q)
 (h:xC O (br i.op) i.dst i.op st K (Go P n (.d (i::l) k) st Q)):Go P n (.d (i::l) k) st Q:=by
 unfold xC at h;rcases oS h with⟨hk,h1,h⟩|⟨hk,h⟩|⟨_,h⟩|⟨hk,h⟩|h
 .obtain⟨v,hv,h⟩:=iU.1 h;refine pL hw ?_;unfold TO;simp only[hk];exact⟨h1,v,hv,hK _ h⟩
 .rcases qS h with⟨v,hv,h⟩|h
  .obtain⟨fx,xs,f,caps,ho,hf,hc⟩:=wq hv;refine pL hw ?_;rw[ho];exact⟨f,caps,v,hf,hc,hK _ h⟩
  .exact h
 .obtain⟨Z',hs,h⟩:=iU.1 h;refine pL hw ?_;cases VS:i.op<;>rw[VS]at hs<;>simp only[dJ,reduceCtorEq]at hs;exact⟨Z',hs,hK _ h⟩
 .obtain⟨g,hgg,h⟩:=iU.1 h;refine pL hw ?_;unfold TO;simp only[hk];exact⟨g,hgg,λid M'=>hK _ (h id M')⟩
 .exact h
def Go.bH(O:Xu P):∀(f:Nat) (t:Td) (st:St),step P O n f t st Q->Go P n t st Q
 |0,_,_,h=>h
 |f+1,.d [] k,st,h=>Go.bH O f (.r k) st h
 |f+1,.d (i::l) k,st,h=>by
  simp only[step]at h;split at h
  .rename_i hg;have hw:bz st.s i.g=some true:=by simp[hg,bz]
   exact Go.vZ hw (λst h=>Go.bH O f (.d l k) st h) h
  .rename_i x b hg;rcases mE h with⟨c,hc,h⟩|⟨hc,h⟩|⟨q,m,hc,h⟩
   .by_cases hcb:c=b
    .subst hcb;have h1:=h.1 rfl;have hw:bz st.s i.g=some true:=by simp[hg,bz,hc]
     rw[zg hc]at h1;exact Go.vZ hw (λst h=>Go.bH O f (.d l k) st h) h1
    .have hcb':c=!b:=by revert hcb;cases c<;>cases b<;>simp
     have h2:=h.2 hcb';rw[zg (by rw[hc,hcb'])]at h2;exact uC (by simp only[hg,bz,hc];rw[hcb'];cases b<;>rfl) (Go.bH O f (.d l k) _ h2)
   .exact uC (by simp[hg,bz,hc]) (Go.bH O f (.d l k) _ h)
   .exact uC (by simp[hg,bz,hc]) (Go.bH O f (.d l k) _ h)
 |f+1,.r [],_,h=>ai.nil h
 |f+1,.r (.stop _::_),_,h=>h
 |f+1,.r (.inBlock _::k),st,h=>ai.inBlock (Go.bH O f (.r k) st h).runs
 |f+1,.r (.ops []::k),st,h=>ai.DD (Go.bH O f (.r k) st h).runs
 |f+1,.r (.ops (i::l)::k),st,h=>by
  simp only[step]at h;split at h
  .rename_i hg;have hw:bz st.s i.g=some true:=by simp[hg,bz]
   exact ai.vZ hw (λst h=>(Go.bH O f (.r (.ops l::k)) st h).runs) h
  .rename_i x b hg;rcases mE h with⟨c,hc,h⟩|⟨hc,h⟩|⟨q,m,hc,h⟩
   .by_cases hcb:c=b
    .subst hcb;have h1:=h.1 rfl;have hw:bz st.s i.g=some true:=by simp[hg,bz,hc]
     rw[zg hc]at h1;exact ai.vZ hw (λst h=>(Go.bH O f (.r (.ops l::k)) st h).runs) h1
    .have hcb':c=!b:=by revert hcb;cases c<;>cases b<;>simp
     have h2:=h.2 hcb';rw[zg (by rw[hc,hcb'])]at h2;exact ai.uF (by simp only[hg,bz,hc];rw[hcb'];cases b<;>rfl) (Go.bH O f (.r (.ops l::k)) _ h2).runs
   .exact ai.uF (by simp[hg,bz,hc]) (Go.bH O f (.r (.ops l::k)) _ h).runs
   .exact ai.uF (by simp[hg,bz,hc]) (Go.bH O f (.r (.ops l::k)) _ h).runs
 |f+1,.r (.code c::k),st,h=>by
  cases c with
  |skip=>exact ai.skip (Go.bH O f (.r _) _ h).runs
  |seq a b=>exact ai.seq (Go.bH O f (.r _) _ h).runs
  |block id a=>exact ai.block (Go.bH O f (.r _) _ h).runs
  |exit id=>
   simp only[step]at h;obtain⟨k',XO,h⟩:=iU.1 h;exact ai.exit XO (Go.bH O f (.r _) _ h).runs
  |ret=>exact ai.ret h
  |cond c a b=>
   simp only[step]at h;rcases mE h with⟨t,ht,h⟩|⟨_,h⟩|⟨_,_,_,h⟩
   .exact ai.cond ht (λe=>(Go.bH O f (.r _) _ (h.1 e)).runs) (λe=>(Go.bH O f (.r _) _ (h.2 (by rw[e];rfl))).runs)
   .exact h.elim
   .exact h.elim
  |reg draw l=>
   cases draw
   .exact ai.region (Go.bH O f (.r _) _ h).runs
   .exact ai.Ei (Go.bH O f (.d l k) _ h).chain
  |loop a=>exact h
  |fk g ps a b=>exact h
  |regA l V'=>exact h
  |tV l e=>exact ai.tV (Go.bH O f (.d l (.ops e::k)) _ h).chain
  |bad=>exact h.elim
def ai.bH(O:Xu P)(f:Nat){todo:List It}{st:St}(h:step P O n f (.r todo) st Q):ai P n todo st Q:=(Go.bH O f (.r todo) st h).runs
section rules
variable (P:Program) (O:Xu P) (n:Nat) (f:Nat)
def exR(o:Option (List It))(st:St)(Q:St->Prop):Prop:=ez o λk'=>step P O n f (.r k') st Q
def cR(v:V)(a b:bW)(k:List It)(st:St)(Q:St->Prop):Prop:=eC v (λt=>both t true (step P O n f (.r (.code a::k)) st Q) (step P O n f (.r (.code b::k)) st Q)) False
def L9(l:List aK)(k:List It)(d:Option Nat)(st:St)(Q:St->Prop)(o:Option V):Prop:=ez o λv=>step P O n f (.r (.ops l::k)) ⟨bc st.s d v,st.U⟩ Q
def G0(l:List aK)(k:List It)(d:Option Nat)(st:St)(Q:St->Prop)(o:Option ad):Prop:=ez o λZ'=>step P O n f (.r (.ops l::k)) ⟨bc st.s d (.VG []),Z'⟩ Q
def FJ(l:List aK)(k:List It)(d:Option Nat)(st:St)(Q:St->Prop)(o:Option (Nat->V×ad)):Prop:=
 ez o λg=>∀id,st.U id=none->step P O n f (.r (.ops l::k)) ⟨bc st.s d (g id).1,(g id).2⟩ Q
def IL(l:List aK)(k:List It)(d:Option Nat)(op:Wd)(g:Option (VX×Bool))(st:St)(Q:St->Prop)(o:Option V):Prop:=
 zu o (λv=>step P O n f (.r (.ops l::k)) ⟨bc st.s d v,st.U⟩ Q) (ai P n (.ops (⟨d,op,g⟩::l)::k) st Q)
def xd(q:Nat)(d:Option Nat)(op:Wd)(g:Option (VX×Bool))(l:List aK)(k:List It)(st:St)(Q:St->Prop):Prop:=
 xC O q d op st (λst=>step P O n f (.r (.ops l::k)) st Q) (ai P n (.ops (⟨d,op,g⟩::l)::k) st Q)
def gR(v:V)(d:Option Nat)(op:Wd)(x:VX)(b:Bool)(l:List aK)(k:List It)(st:St)(Q:St->Prop):Prop:=
 eC v (λc=>both c b (xd P O n f (br op) d op (some (x,b)) l k (st.lit x (.bool b)) Q)
  (step P O n f (.r (.ops l::k)) ⟨bc (st.lit x (.bool !b)).s d (.VG []),(st.lit x (.bool !b)).U⟩ Q)) (step P O n f (.r (.ops l::k)) ⟨bc st.s d (.VG []),st.U⟩ Q)
def Ma(l:List aK)(k:List It)(d:Option Nat)(st:St)(Q:St->Prop)(o:Option V):Prop:=ez o λv=>step P O n f (.d l k) ⟨bc st.s d v,st.U⟩ Q
def Hm(l:List aK)(k:List It)(d:Option Nat)(st:St)(Q:St->Prop)(o:Option ad):Prop:=ez o λZ'=>step P O n f (.d l k) ⟨bc st.s d (.VG []),Z'⟩ Q
def Fg(l:List aK)(k:List It)(d:Option Nat)(st:St)(Q:St->Prop)(o:Option (Nat->V×ad)):Prop:=
 ez o λg=>∀id,st.U id=none->step P O n f (.d l k) ⟨bc st.s d (g id).1,(g id).2⟩ Q
def Jb(l:List aK)(k:List It)(d:Option Nat)(op:Wd)(g:Option (VX×Bool))(st:St)(Q:St->Prop)(o:Option V):Prop:=
 zu o (λv=>step P O n f (.d l k) ⟨bc st.s d v,st.U⟩ Q) (Go P n (.d (⟨d,op,g⟩::l) k) st Q)
def xg(q:Nat)(d:Option Nat)(op:Wd)(g:Option (VX×Bool))(l:List aK)(k:List It)(st:St)(Q:St->Prop):Prop:=
 xC O q d op st (λst=>step P O n f (.d l k) st Q) (Go P n (.d (⟨d,op,g⟩::l) k) st Q)
def gD(v:V)(d:Option Nat)(op:Wd)(x:VX)(b:Bool)(l:List aK)(k:List It)(st:St)(Q:St->Prop):Prop:=
 eC v (λc=>both c b (xg P O n f (br op) d op (some (x,b)) l k (st.lit x (.bool b)) Q)
  (step P O n f (.d l k) ⟨bc (st.lit x (.bool !b)).s d (.VG []),(st.lit x (.bool !b)).U⟩ Q)) (step P O n f (.d l k) ⟨bc st.s d (.VG []),st.U⟩ Q)
variable {P O n} {f}
def xE(s:Nat->V)(d:Nat)(v:V)(i:Nat):bc s (some d) v i=if i=d then v else s i:=rfl
def yF(s:Nat->V)(v:V)(i:Nat):bc s none v i=s i:=rfl
def Mf(st:St)(d:Nat)(v:V):st.lit (.t d) v=⟨bc st.s (some d) v,st.U⟩:=rfl
def LL(st:St)(u v:V):st.lit (.c u) v=st:=rfl
def R9(s:Nat->V)(d:Nat):VX.ev s (.t d)=s d:=rfl
def O5(s:Nat->V)(v:V):VX.ev s (.c v)=v:=rfl
def GU(d:Option Nat)(op:Wd)(g:Option (VX×Bool))(l:List aK):xd P O n f 0 d op g l k st Q=(eL st.s op/\L9 P O n f l k d st Q (aJ st.U st.s op)):=rfl
def Im(d:Option Nat)(op:Wd)(g:Option (VX×Bool))(l:List aK):xd P O n f 1 d op g l k st Q=IL P O n f l k d op g st Q (yA O st.s st.U op):=rfl
def Jh(d:Option Nat)(op:Wd)(g:Option (VX×Bool))(l:List aK):xd P O n f 2 d op g l k st Q=G0 P O n f l k d st Q (dJ st.s st.U op):=rfl
def I1(d:Option Nat)(op:Wd)(g:Option (VX×Bool))(l:List aK):xd P O n f 3 d op g l k st Q=FJ P O n f l k d st Q (Xl st.s st.U op):=rfl
def GH(d:Option Nat)(op:Wd)(g:Option (VX×Bool))(l:List aK):xd P O n f 4 d op g l k st Q=ai P n (.ops (⟨d,op,g⟩::l)::k) st Q:=rfl
def wM(d:Option Nat)(op:Wd)(g:Option (VX×Bool))(l:List aK)(v:V):IL P O n f l k d op g st Q (some v)=step P O n f (.r (.ops l::k)) ⟨bc st.s d v,st.U⟩ Q:=rfl
def wY(d:Option Nat)(op:Wd)(g:Option (VX×Bool))(l:List aK):IL P O n f l k d op g st Q none=ai P n (.ops (⟨d,op,g⟩::l)::k) st Q:=rfl
def A2(s:Nat->V)(U:ad)(fx:VX)(xs:List VX):yA O s U (.call fx xs)=match fx.ev s with
 |.fn f caps=>O.get f (xs.map (·.ev s)++caps) U
 |_=>none:=rfl
def HV(d:Option Nat)(op:Wd)(g:Option (VX×Bool))(l:List aK):xg P O n f 0 d op g l k st Q=(eL st.s op/\Ma P O n f l k d st Q (aJ st.U st.s op)):=rfl
def HN(d:Option Nat)(op:Wd)(g:Option (VX×Bool))(l:List aK):xg P O n f 1 d op g l k st Q=Jb P O n f l k d op g st Q (yA O st.s st.U op):=rfl
def IS(d:Option Nat)(op:Wd)(g:Option (VX×Bool))(l:List aK):xg P O n f 2 d op g l k st Q=Hm P O n f l k d st Q (dJ st.s st.U op):=rfl
def Iq(d:Option Nat)(op:Wd)(g:Option (VX×Bool))(l:List aK):xg P O n f 3 d op g l k st Q=Fg P O n f l k d st Q (Xl st.s st.U op):=rfl
def wH(d:Option Nat)(op:Wd)(g:Option (VX×Bool))(l:List aK)(v:V):Jb P O n f l k d op g st Q (some v)=step P O n f (.d l k) ⟨bc st.s d v,st.U⟩ Q:=rfl
def xc(d:Option Nat)(op:Wd)(g:Option (VX×Bool))(l:List aK):Jb P O n f l k d op g st Q none=Go P n (.d (⟨d,op,g⟩::l) k) st Q:=rfl
def Dw:step P O n (f+1) (.r []) st Q=Q st:=rfl
def wQ(μ:St->Prop):step P O n (f+1) (.r (.stop μ::k)) st Q=μ st:=rfl
def td(id:Nat):step P O n (f+1) (.r (.inBlock id::k)) st Q=step P O n f (.r k) st Q:=rfl
def sJ:step P O n (f+1) (.r (.ops []::k)) st Q=step P O n f (.r k) st Q:=rfl
def Ca:step P O n (f+1) (.r (.code .skip::k)) st Q=step P O n f (.r k) st Q:=rfl
def Em(a b:bW):step P O n (f+1) (.r (.code (.seq a b)::k)) st Q=step P O n f (.r (.code a::.code b::k)) st Q:=rfl
def xO(id:Nat)(a:bW):step P O n (f+1) (.r (.code (.block id a)::k)) st Q=step P O n f (.r (.code a::.inBlock id::k)) st Q:=rfl
def Bf(id:Nat):step P O n (f+1) (.r (.code (.exit id)::k)) st Q=exR P O n f (eP id k) st Q:=rfl
def Ac(k':List It):exR P O n f (some k') st Q=step P O n f (.r k') st Q:=rfl
def EA:step P O n (f+1) (.r (.code .ret::k)) st Q=Q st:=rfl
def Be(a:bW):step P O n (f+1) (.r (.code (.loop a)::k)) st Q=ai P n (.code (.loop a)::k) st Q:=rfl
def B5(l e:List aK):step P O n (f+1) (.r (.code (.tV l e)::k)) st Q=step P O n f (.d l (.ops e::k)) st Q:=rfl
def cp(l:List aK)(V':List (List Nat)):step P O n (f+1) (.r (.code (.regA l V')::k)) st Q=ai P n (.code (.regA l V')::k) st Q:=rfl
def wF(g:VX)(ps:List Nat)(a b:bW):step P O n (f+1) (.r (.code (.fk g ps a b)::k)) st Q=ai P n (.code (.fk g ps a b)::k) st Q:=rfl
def DW(l:List aK):step P O n (f+1) (.r (.code (.reg false l)::k)) st Q=step P O n f (.r (.ops l::k)) st Q:=rfl
def Bt(l:List aK):step P O n (f+1) (.r (.code (.reg true l)::k)) st Q=step P O n f (.d l k) st Q:=rfl
def EK:step P O n (f+1) (.d [] k) st Q=step P O n f (.r k) st Q:=rfl
def AH(c:VX)(a b:bW):step P O n (f+1) (.r (.code (.cond c a b)::k)) st Q=cR P O n f (c.ev st.s) a b k st Q:=rfl
def Ox(a b:bW):cR P O n f (.bool true) a b k st Q=step P O n f (.r (.code a::k)) st Q:=by simp[cR,eC,both]
def Og(a b:bW):cR P O n f (.bool false) a b k st Q=step P O n f (.r (.code b::k)) st Q:=by simp[cR,eC,both]
def G3(p:Prop)[Decidable p](a b:bW):cR P O n f (.bool (decide p)) a b k st Q=((p->step P O n f (.r (.code a::k)) st Q)/\(¬p->step P O n f (.r (.code b::k)) st Q)):=by simp[cR,eC,both]
def Eg(d:Option Nat)(op:Wd)(l:List aK):step P O n (f+1) (.r (.ops (⟨d,op,none⟩::l)::k)) st Q=xd P O n f (br op) d op none l k st Q:=rfl
def uQ(d:Option Nat)(l:List aK)(v:V):L9 P O n f l k d st Q (some v)=step P O n f (.r (.ops l::k)) ⟨bc st.s d v,st.U⟩ Q:=rfl
def sI(d:Option Nat)(l:List aK)(Z':ad):G0 P O n f l k d st Q (some Z')=step P O n f (.r (.ops l::k)) ⟨bc st.s d (.VG []),Z'⟩ Q:=rfl
def ax(d:Option Nat)(l:List aK)(g:Nat->V×ad):FJ P O n f l k d st Q (some g)=∀id,st.U id=none->step P O n f (.r (.ops l::k)) ⟨bc st.s d (g id).1,(g id).2⟩ Q:=rfl
def D6(d:Option Nat)(op:Wd)(l:List aK):step P O n (f+1) (.d (⟨d,op,none⟩::l) k) st Q=xg P O n f (br op) d op none l k st Q:=rfl
def vQ(d:Option Nat)(l:List aK)(v:V):Ma P O n f l k d st Q (some v)=step P O n f (.d l k) ⟨bc st.s d v,st.U⟩ Q:=rfl
def tM(d:Option Nat)(l:List aK)(Z':ad):Hm P O n f l k d st Q (some Z')=step P O n f (.d l k) ⟨bc st.s d (.VG []),Z'⟩ Q:=rfl
def aB(d:Option Nat)(l:List aK)(g:Nat->V×ad):Fg P O n f l k d st Q (some g)=∀id,st.U id=none->step P O n f (.d l k) ⟨bc st.s d (g id).1,(g id).2⟩ Q:=rfl
def Am(d:Option Nat)(op:Wd)(x:VX)(b:Bool)(l:List aK):step P O n (f+1) (.r (.ops (⟨d,op,some (x,b)⟩::l)::k)) st Q=gR P O n f (x.ev st.s) d op x b l k st Q:=rfl
def GJ(d:Option Nat)(op:Wd)(x:VX)(b:Bool)(l:List aK):gR P O n f (.VG []) d op x b l k st Q=step P O n f (.r (.ops l::k)) ⟨bc st.s d (.VG []),st.U⟩ Q:=rfl
def LM(d:Option Nat)(op:Wd)(x:VX)(l:List aK):gR P O n f (.bool true) d op x true l k st Q=xd P O n f (br op) d op (some (x,true)) l k (st.lit x (.bool true)) Q:=by simp[gR,eC,both]
def L8(d:Option Nat)(op:Wd)(x:VX)(l:List aK):gR P O n f (.bool false) d op x false l k st Q=xd P O n f (br op) d op (some (x,false)) l k (st.lit x (.bool false)) Q:=by simp[gR,eC,both]
def LN(d:Option Nat)(op:Wd)(x:VX)(l:List aK):gR P O n f (.bool true) d op x false l k st Q=step P O n f (.r (.ops l::k)) ⟨bc (st.lit x (.bool true)).s d (.VG []),(st.lit x (.bool true)).U⟩ Q:=by simp[gR,eC,both]
def Mi(d:Option Nat)(op:Wd)(x:VX)(l:List aK):gR P O n f (.bool false) d op x true l k st Q=step P O n f (.r (.ops l::k)) ⟨bc (st.lit x (.bool false)).s d (.VG []),(st.lit x (.bool false)).U⟩ Q:=by simp[gR,eC,both]
def A4(p:Prop)[Decidable p](d:Option Nat)(op:Wd)(x:VX)(l:List aK):gR P O n f (.bool (decide p)) d op x true l k st Q=
 ((p->xd P O n f (br op) d op (some (x,true)) l k (st.lit x (.bool true)) Q)/\(¬p->step P O n f (.r (.ops l::k)) ⟨bc (st.lit x (.bool false)).s d (.VG []),(st.lit x (.bool false)).U⟩ Q)):=by simp[gR,eC,both]
def BE(p:Prop)[Decidable p](d:Option Nat)(op:Wd)(x:VX)(l:List aK):gR P O n f (.bool (decide p)) d op x false l k st Q=
 ((¬p->xd P O n f (br op) d op (some (x,false)) l k (st.lit x (.bool false)) Q)/\(p->step P O n f (.r (.ops l::k)) ⟨bc (st.lit x (.bool true)).s d (.VG []),(st.lit x (.bool true)).U⟩ Q)):=by simp[gR,eC,both]
def BG(d:Option Nat)(op:Wd)(x:VX)(b:Bool)(l:List aK):step P O n (f+1) (.d (⟨d,op,some (x,b)⟩::l) k) st Q=gD P O n f (x.ev st.s) d op x b l k st Q:=rfl
def GC(d:Option Nat)(op:Wd)(x:VX)(b:Bool)(l:List aK):gD P O n f (.VG []) d op x b l k st Q=step P O n f (.d l k) ⟨bc st.s d (.VG []),st.U⟩ Q:=rfl
def LV(d:Option Nat)(op:Wd)(x:VX)(l:List aK):gD P O n f (.bool true) d op x true l k st Q=xg P O n f (br op) d op (some (x,true)) l k (st.lit x (.bool true)) Q:=by simp[gD,eC,both]
def L6(d:Option Nat)(op:Wd)(x:VX)(l:List aK):gD P O n f (.bool false) d op x false l k st Q=xg P O n f (br op) d op (some (x,false)) l k (st.lit x (.bool false)) Q:=by simp[gD,eC,both]
def L5(d:Option Nat)(op:Wd)(x:VX)(l:List aK):gD P O n f (.bool true) d op x false l k st Q=step P O n f (.d l k) ⟨bc (st.lit x (.bool true)).s d (.VG []),(st.lit x (.bool true)).U⟩ Q:=by simp[gD,eC,both]
def LP(d:Option Nat)(op:Wd)(x:VX)(l:List aK):gD P O n f (.bool false) d op x true l k st Q=step P O n f (.d l k) ⟨bc (st.lit x (.bool false)).s d (.VG []),(st.lit x (.bool false)).U⟩ Q:=by simp[gD,eC,both]
def AI(p:Prop)[Decidable p](d:Option Nat)(op:Wd)(x:VX)(l:List aK):gD P O n f (.bool (decide p)) d op x true l k st Q=
 ((p->xg P O n f (br op) d op (some (x,true)) l k (st.lit x (.bool true)) Q)/\(¬p->step P O n f (.d l k) ⟨bc (st.lit x (.bool false)).s d (.VG []),(st.lit x (.bool false)).U⟩ Q)):=by simp[gD,eC,both]
def B6(p:Prop)[Decidable p](d:Option Nat)(op:Wd)(x:VX)(l:List aK):gD P O n f (.bool (decide p)) d op x false l k st Q=
 ((¬p->xg P O n f (br op) d op (some (x,false)) l k (st.lit x (.bool false)) Q)/\(p->step P O n f (.d l k) ⟨bc (st.lit x (.bool true)).s d (.VG []),(st.lit x (.bool true)).U⟩ Q)):=by simp[gD,eC,both]
end rules
def aL(P:Program)(f:FuncId)(args:List V)(v:V):Prop:=∀U,au P f args U λr Z'=>r=v/\Z'=U
variable {P:Program} {n:Nat} {st:St} {Q:St->Prop} {k:List It}
def fW:ad:=λ_=>none
def eu(U:ad):aa fW U:=λ_ _ h=>by simp[fW]at h
def V.lone:V->Bool
 |.int ..|.bool _|.str _=>true
 |_=>false
def V.scalar:V->Bool
 |.VG vs=>vs.all V.lone
 |.agg vs=>vs.all V.lone
 |v=>v.lone
def E'.lone{I Y':Mu}{ow XC:Nat->Prop}{w w':World}{v:V}{x:Value}(hv:v.lone=true)(h:E' I ow w v x):E' Y' XC w' v x:=by
 cases v<;>simp only[V.lone,gi]at hv<;>simpa[E']using h
def aq.Ho{I Y':Mu}{ow XC:Nat->Prop}{w w':World}:∀{vs:List V} {l:List Value},vs.all V.lone=true->aq I ow w vs l->aq Y' XC w' vs l
 |[],l,_,h=>by simpa[aq]using h
 |u::us,l,hv,h=>by
  simp only[mV,Ba]at hv;simp only[aq]at h|-;obtain⟨y,ys,rfl,h1,h2⟩:=h;exact⟨y,ys,rfl,E'.lone hv.1 h1,aq.Ho hv.2 h2⟩
def E'.scalar{I Y':Mu}{ow XC:Nat->Prop}{w w':World}{v:V}{x:Value}(hv:v.scalar=true)(h:E' I ow w v x):E' Y' XC w' v x:=by
 by_cases ht:∃vs,v=.VG vs
 .obtain⟨vs,rfl⟩:=ht;simp only[E']at h|-;obtain⟨VI,rfl,h⟩:=h;exact⟨VI,rfl,aq.Ho hv h⟩
 .by_cases ha:∃vs,v=.agg vs
  .obtain⟨vs,rfl⟩:=ha;simp only[E']at h|-;obtain⟨VI,rfl,h,h2⟩:=h;exact⟨VI,rfl,aq.Ho hv h,h2⟩
  .refine E'.lone ?_ h;cases v<;>simp_all [V.scalar]
def aL.borrow{f:FuncId}{args args':List V}{v:V}{U:ad}(hw:WkL U fW args args')(h:aL P f args' v)(hv:v.scalar=true):
 au P f args U λr Z'=>r=v/\Z'=U:=by
 refine⟨(h fW).1,?_⟩;intro I w VI hs hr;have Wm:Sat w (aE I fW) I fW w:=by
  have:=hs.drop (eu U);exact⟨Wa _,rfl,rfl,rfl,λ_ _ _=>rfl,this.fin,this.inj,this.obj,λb hb _=>hb,this.lU⟩
 refine((h fW).2 I w VI Wm (WkL.all hs hw hr)).mono ?_;rintro e w' ⟨r,Z',Y',val,rfl,⟨rfl,rfl⟩,hle,VW,XJ⟩;have Wb:∀b,¬aE I fW b:=λb ⟨_,_,_,_,h,_⟩=>by simp[fW]at h
 have Xa:∀b,b<w.heap.size->w'.heap[b]?=w.heap[b]?:=λb hb=>VW.same b hb (Wb b);have W3:∀id o,U id=some o->Y' id=I id:=λid o ho=>hle id (λe=>by
  have:=hs.obj id o ho;rw[e]at this;exact this)
 have hown:∀b,aE Y' U b->aE I U b:=λb ⟨id,o,sz,cap,h1,h2⟩=>⟨id,o,sz,cap,h1,W3 id o h1▸h2⟩
 have hk:di (aE I U) (aE Y' U) w w':=λb hb hn=>⟨λho=>hn (hown b ho),Xa b hb⟩
 refine⟨_,U,Y',val,rfl,⟨rfl,rfl⟩,hle,?_,E'.scalar hv XJ⟩;refine⟨VW.size,VW.os,VW.tape,VW.output,λb hb _=>Xa b hb,VW.fin,?_,?_,λb hb _=>hown b hb,hs.Za⟩
 .intro id Xn o o' b sz cap XP W2 h1 h2 h3 h4;exact hs.inj id Xn o o' b sz cap XP W2 h1 h2 (W3 id o h1▸h3) (W3 Xn o' h2▸h4)
 .intro id o ho;rw[W3 id o ho];refine(hs.obj id o ho).mono hle hk VW.size λb sz cap hp=>Xa b ?_;exact aE.lt hs ⟨id,o,sz,cap,ho,hp⟩
def ak(v:V)(U:ad)(Post:V->ad->Prop):Prop:=∃v' Z',aa Z' U/\Wk U Z' v v'/\Post v' Z'
def DX{s:Nat->V}{U:ad}{d:Nat}{Post:V->ad->Prop}:Ret [.tmp (.t d)] ⟨s,U⟩ Post=ak (s d) U Post:=by
 apply propext;simp only[Ret,ak,oL,fL,iV,VX.ev];constructor
 .rintro⟨v,v',Z',h1,h2⟩;simp only[aS]at h1;subst h1;exact⟨v',Z',h2⟩
 .rintro⟨v',Z',h2⟩;exact⟨_,v',Z',rfl,h2⟩
def DY{s:Nat->V}{U:ad}{d e:Nat}{Post:V->ad->Prop}:Ret [.tmp (.t d),.tmp (.t e)] ⟨s,U⟩ Post=ak (.VG [s d,s e]) U Post:=by
 apply propext;simp only[Ret,ak,oL,fL,iV,VX.ev];constructor
 .rintro⟨v,v',Z',h1,h2⟩;simp only[aS]at h1;subst h1;exact⟨v',Z',h2⟩
 .rintro⟨v',Z',h2⟩;exact⟨_,v',Z',rfl,h2⟩
def xN{s:Nat->V}{U:ad}{d e g:Nat}{Post:V->ad->Prop}:Ret [.tmp (.t d),.tmp (.t e),.tmp (.t g)] ⟨s,U⟩ Post=ak (.VG [s d,s e,s g]) U Post:=by
 apply propext;simp only[Ret,ak,oL,fL,iV,VX.ev];constructor
 .rintro⟨v,v',Z',h1,h2⟩;simp only[aS]at h1;subst h1;exact⟨v',Z',h2⟩
 .rintro⟨v',Z',h2⟩;exact⟨_,v',Z',rfl,h2⟩
def BZ{st:St}{Post:V->ad->Prop}:Ret [] st Post=ak (.VG []) st.U Post:=by
 apply propext;simp only[Ret,ak,oL,fL];constructor
 .rintro⟨v,v',Z',h1,h2⟩;simp only[aS]at h1;subst h1;exact⟨v',Z',h2⟩
 .rintro⟨v',Z',h2⟩;exact⟨_,v',Z',rfl,h2⟩
def ak.pure{v v0:V}{U Z1:ad}(h:aa U Z1)(hv:v=v0):ak v Z1 λr Z'=>r=v0/\Z'=U:=
 ⟨v,U,h,Wk.refl h v,hv,rfl⟩
def ak.same{v v0:V}{U:ad}(hv:v=v0):ak v U λr Z'=>r=v0/\Z'=U:=.pure (aa.refl U) hv
def gX{U:ad}{id i:Nat}{o:Ob}:C' U id o i=none↔i≠id/\U i=none:=by
 unfold C';split<;>simp_all
def ag{U:ad}{id:Nat}{o:Ob}:C' U id o id=some o:=by simp[C']
def ab{U:ad}{id i:Nat}{o:Ob}(h:i≠id):C' U id o i=U i:=by simp[C',h]
def VN{U J:ad}{i j:Nat}{o:Ob}{x:Option Ob}(h:C' U j o=J)(n:i≠j)(a:U i=x):J i=x:=by subst h;rw[ab n];exact a
def WC{U J:ad}{j:Nat}{o:Ob}(h:C' U j o=J):J j=some o:=by subst h;exact ag
def cc{U:ad}{id i:Nat}(h:i≠id):del U id i=U i:=by simp[del,h]
def DC{U:ad}{id:Nat}{a b:Ob}:C' (C' U id a) id b=C' U id b:=by
 funext i;simp only[C'];split<;>rfl
def D4{U:ad}{id:Nat}{a:Ob}(h:U id=none):del (C' U id a) id=U:=by
 funext i;simp only[del,C'];split
 .rename_i e;rw[e,h]
 .rfl
def aa.C'{Z' U:ad}{id:Nat}{o:Ob}(h:aa Z' U)(M':U id=none):aa Z' (Vc.C' U id o):=
 h.KB (by
  cases hs:Z' id with
  |none=>rfl
  |some x=>have:=h id x hs;rw[M']at this;cases this)
def aa.M6{U Z':ad}{id:Nat}{o:Ob}(h:aa U Z'):aa (Vc.C' U id o) (Vc.C' Z' id o):=λi x hx=>by
 simp only[Vc.C']at hx|-;split at hx
 .rename_i e;rw[av e];exact hx
 .rename_i e;rw[aD e];exact h i x hx
variable {P:Program} {n:Nat} {st:St} {Q:St->Prop} {k:List It} {I:Mu} {w:World}
def xY{rows:List V}{sz:Nat}(h:∀r∈rows,r.cells.length=sz)(k:Nat):flat (rows.drop k)=(flat rows).drop (k*sz):=by
 induction rows generalizing k with
 |nil=>simp[flat]
 |cons r rs ih=>
  have e:∀l,flat (r::l)=r.cells++flat l:=λl=>by simp[flat]
  cases k with
  |zero=>simp[flat]
  |succ k=>
   rw[List.drop_succ_cons,e,ih (λx hx=>h x (by simp[hx])),Nat.add_mul,Nat.one_mul,FO,<-h r (by simp),<-List.drop_drop,List.drop_left]
def aq.replicate{ow:Nat->Prop}{vs:List V}{l:List Value}(h:aq I ow w vs l):∀n,aq I ow w (List.replicate n vs).flatten (List.replicate n l).flatten
 |0=>by simp[aq]
 |n+1=>by
  simp only[List.replicate_succ,List.flatten_cons];exact h.append (aq.replicate h n)
def A3{F:Fr}{a:Act}(hs:dB F I st a w){o:Oper}{x:Operand}{t e:TypeId}{args:Array Operand}{argTypes:Array TypeId}{i:TypeInfo}{z:Value}
 (hoo:o.op=.call { callee:=.builtin .clear,args:=args,argTypes:=argTypes })(harg:args=#[x])(Zq:argTypes[0]?=some t)
 (ht:P.underlying t=some (.slice e))(hz:zeroOf P e=some (i,z)){id off len:Nat}(h1:(cx F.n x).ev st.s=.own id off len){ob:Ob}(h2:st.U id=some ob)
 (h3:ob.sz=i.size)(h4:off+len<=ob.rows.length):
 ∃y w',(execOp a.eval o).run P w=.ok (.value y) w'/\
  dB F I ⟨bc st.s (o.dst.filter (·<F.n)) (.VG []),C' st.U id { ob with rows:=ob.rows.take off++List.replicate len (ofValue z)++ob.rows.drop (off+len) }⟩ (a.put o.dst y) w':=by
 obtain⟨hi,hz0,hk,hzs,Wc,Xr⟩:=fv hz;have R:=dr hs;have hx:=R x;rw[h1]at hx;simp only[E']at hx;have Wv:∀w',(Builtin.clear_ argTypes o.type #[a.eval x]).run P w=.ok (.tuple #[]) w'->(execOp a.eval o).run P w=.ok (.value (.tuple #[])) w':=by
  intro w' hw';unfold execOp;rw[hoo];simp[resolve,invoke,Go.builtin,harg,hw']
 have XJ:E' I (aE I st.U) w (.VG []) (.tuple #[]):=by simp only[E'];exact⟨[],rfl,by simp[aq]⟩
 have hzero:len=0->∃y w',(execOp a.eval o).run P w=.ok (.value y) w'/\
  dB F I ⟨bc st.s (o.dst.filter (·<F.n)) (.VG []),C' st.U id { ob with rows:=ob.rows.take off++List.replicate len (ofValue z)++ob.rows.drop (off+len) }⟩ (a.put o.dst y) w':=by
  intro h0;subst h0;have hX:∃b c,a.eval x=.slice b 0 c:=by
   split at hx
   .exact hx.elim
   .exact⟨_,_,hx.1⟩
   .obtain⟨o',c,h,_⟩:=hx;exact⟨_,_,h⟩
  obtain⟨b,c,hX⟩:=hX;have VP:C' st.U id { ob with rows:=ob.rows.take off++List.replicate 0 (ofValue z)++ob.rows.drop (off+0) }=st.U:=by
   funext j;simp only[C',List.replicate_zero,jt,Nat.add_zero,ua];split
   .rename_i e';rw[e',h2]
   .rfl
  rw[VP];refine⟨.tuple #[],w,Wv w ?_,hs.pure XJ⟩;rw[hX];cases b<;>simp[Builtin.clear_,Zq,run_underlying ht]
 split at hx
 .exact hx.elim
 .exact hzero hx.2.2
 .rename_i b szb cap M';obtain⟨o',c,hX,c1,c2,c3,hz0⟩:=hx;by_cases h0:len=0
  .exact hzero h0
  have WO:=hs.sat.obj id ob h2;rw[M']at WO;obtain⟨cur,e1,e2,e3,e4,e5,e6,e7⟩:=WO.plain hz0;obtain⟨g1,xs,g2,g3,g4,g5⟩:=e7.cur e1;have hoff:o'=off*szb:=by
   rcases c3 with c3|c3
   .exact c3
   .omega
  subst hoff;have VW:szb=i.size:=by omega
  subst VW;have hzl:z.cells.size=i.size:=hzs;have hnews:=kW z.cells len;have Xe:(Builtin.zeroCells z.cells len).toList.length=len*i.size:=by rw[hnews];simp[hzl]
  have hbound:off*i.size+len*i.size<=ob.rows.length*i.size:=by rw[<-Nat.add_mul];exact Nat.mul_le_mul_right _ h4
  have hbound2:ob.rows.length*i.size<=cap*i.size:=Nat.mul_le_mul_right _ e5;have hone':∀u∈(Builtin.zeroCells z.cells len).toList,u.oneCell'=true:=by
   rw[hnews];intro u hu;simp only[List.mem_flatten,List.mem_replicate]at hu;obtain⟨l,⟨_,rfl⟩,hu⟩:=hu;exact Wc u hu
  have VP:=run_storeCells_at P b (off*i.size) ob.elem (Builtin.zeroCells z.cells len).toList 0 cur w e1 (by rw[Xe];omega) hone';simp only[Nat.add_zero]at VP;refine⟨.tuple #[],w.setRow b (cur.toList.take (off*i.size)++(Builtin.zeroCells z.cells len).toList++cur.toList.drop (off*i.size+(Builtin.zeroCells z.cells len).toList.length)).toArray,Wv _ ?_,?_⟩
  .rw[hX];obtain⟨m,rfl⟩:∃m,len=m+1:=⟨len-1,by omega⟩
   simp only[Builtin.clear_,Zq,Sem.run_bind,List.getElem?_toArray,Sem.run_pure,Result.andThen_ok,run_underlying ht,eH hz];simp[VP,run_underlying ht,eH hz]
  .have hgrow:w.grownBy (w.setRow b (cur.toList.take (off*i.size)++(Builtin.zeroCells z.cells len).toList++cur.toList.drop (off*i.size+(Builtin.zeroCells z.cells len).toList.length)).toArray) (some b):=
    ⟨rfl,rfl,rfl,by simp,λkk _ hkk=>setRow_other w b kk _ (λe=>hkk (by rw[e]))⟩
   have hzc:(ofValue z).cells.length=i.size:=by rw[iK Wc];simp[hzl]
   have hrows':∀q∈ob.rows.take off++List.replicate len (ofValue z)++ob.rows.drop (off+len),q.cells.length=i.size:=by
    intro q hq;simp only[ec]at hq;rcases hq with(hq|hq)|hq
    .exact g1 q (rQ hq)
    .rw[(List.mem_replicate.1 hq).2];exact hzc
    .exact g1 q (List.mem_of_mem_drop hq)
   have hflat:flat (ob.rows.take off++List.replicate len (ofValue z)++ob.rows.drop (off+len))=
    (flat ob.rows).take (off*i.size)++(List.replicate len (ofValue z).cells).flatten++(flat ob.rows).drop (off*i.size+len*i.size):=by
    rw[jb,jb,uV,rE g1];congr 1;rw[xY g1,Nat.add_mul]
   have hzr:aq I (aE I st.U) w (ofValue z).cells z.cells.toList:=by rw[iK Wc];exact fV _
   have hch:=hs.sat.change h2 M' (by omega) hgrow _ (ob.rows.take off++List.replicate len (ofValue z)++ob.rows.drop (off+len)) (xs.take (off*i.size)++(Builtin.zeroCells z.cells len).toList++xs.drop (off*i.size+(Builtin.zeroCells z.cells len).toList.length))
    (setRow_heap w b cur _ ob.elem _ e1) (by simp only[List.size_toArray,jm,jN,ri,Xe];rw[Array.length_toList];omega) (by simp;omega) hrows'
    (by rw[hflat,Xe,hnews];exact((g2.take _).append (hzr.replicate len)).append (g2.drop _))
    (by intro u hu
        simp only[ec]at hu;rcases hu with(hu|hu)|hu
        .exact g3 u (rQ hu)
        .exact hone' u hu
        .exact g3 u (List.mem_of_mem_drop hu))
    (by intro j u hu
        have:=lQ cur.toList xs _ g5 (off*i.size) (by rw[Xe,g4];omega) j u hu;simpa using this)
   exact hs.step hch.1 (dL.refl _) hch.2 (by simp) (by simp only[E'];exact⟨[],rfl,by simp[aq]⟩)
def ai.clear{i:aK}{l:List aK}{sz:Nat}{z:V}{xv:VX}(hw:bz st.s i.g=some true)(ho:i.op=.clear sz z xv)
 {id off len:Nat}(h1:xv.ev st.s=.own id off len){ob:Ob}(h2:st.U id=some ob)(h3:ob.sz=sz)(h4:off+len<=ob.rows.length)
 (h:ai P n (.ops l::k) ⟨bc st.s i.dst (.VG []),C' st.U id { ob with rows:=ob.rows.take off++List.replicate len z++ob.rows.drop (off+len) }⟩ Q):ai P n (.ops (i::l)::k) st Q:=by
 refine ai.ins (by rw[ho];simp) hw λF hn I a w o all hi hs next Q' VT=>?_
 subst hn;obtain⟨VS,hd⟩:=ff hi;rw[ho]at VS;obtain⟨x,t,e,args,argTypes,ti,zv,g1,g2,g3,g4,g5,rfl,rfl,rfl⟩:=yg VS;obtain⟨y,w',hx,VW⟩:=A3 hs g1 g2 g3 g4 g5 h1 h2 h3 h4;unfold Oper.wp;rw[hx];refine VT _ _ _ ⟨I,?_⟩ h;rw[<-hd];exact VW
def Ir{y:Operand}{t:TypeId}{v:V}:cx n y≠.c (.iface t v):=by
 cases y
 case tmp m=>simp only[cx];split<;>simp
 case const u=>
  simp only[cx,ne_eq,VX.c.injEq];unfold ofValue;split
  .split<;>simp
  .unfold cellOf
   repeat' split
   all_goals simp
 all_goals simp[cx]
def Ah{o:Op}{xa:VX}(h:Wj P n o=.Zk false xa (.c (.iface 0 .undef))):∃t x y m c yt e,o=.binOp .eql t x y yt/\y=.const (.slice none m c)/\P.underlying t=some (.slice e)/\cx n x=xa:=by
 cases o
 case binOp op t x y yt=>
  simp only[Wj]at h;split at h
  .cases op<;>simp only[reduceCtorEq,Wd.Zk.injEq,Bool.true_eq_false,false_and]at h;exact absurd h.2.2 Ir
  .split at h
   .cases op<;>simp only[reduceCtorEq]at h
   .cases h
  .split at h
   .rename_i hs;unfold cV at h;split at h
    .rename_i hy;obtain⟨rfl,hy⟩:=hy;simp only[Wd.Zk.injEq,and_true,true_and]at h;unfold zM at hs;split at hs
     .rename_i e ht;unfold Fq PK at hy;split at hy
      .split at hy
       .exact⟨t,x,_,_,_,yt,e,rfl,rfl,ht,h⟩
       .cases hy
      .cases hy
     .cases hs
    .cases h
   .split at h
    .split at h
     .simp only[Wd.Zk.injEq,VX.c.injEq,V.iface.injEq]at h;exact absurd h.2.2.1 (by decide)
     .cases h
    .split at h
     .split at h
      .simp only[Wd.Zk.injEq,VX.c.injEq,V.iface.injEq]at h;exact absurd h.2.2.1 (by decide)
      .cases h
     ·(repeat' split at h)<;>cases h
 case call c=>
  obtain⟨callee,args,argTypes⟩:=c;cases callee
  case builtin b=>cases b<;>simp only[Wj]at h<;>(repeat' split at h)<;>cases h
  all_goals (simp only[Wj]at h;cases h)
 case unOp op t x=>cases op<;>simp only[Wj]at h<;>cases h
 case makeFunc f a b=>cases f<;>simp only[Wj]at h<;>(repeat' split at h)<;>cases h
 all_goals (simp only[Wj]at h;(repeat' split at h)<;>cases h)
def ai.Fq{i:aK}{l:List aK}{xa:VX}(hw:bz st.s i.g=some true)(ho:i.op=.Zk false xa (.c (.iface 0 .undef))){sz:Nat}{rows:List V}
 (hx:xa.ev st.s=.sl sz rows)(h:∀b,(b=true->rows=[])->ai P n (.ops l::k) ⟨bc st.s i.dst (.bool b),st.U⟩ Q):ai P n (.ops (i::l)::k) st Q:=by
 refine ai.ins (by rw[ho];simp) hw λF hn I a w o all hi hs next Q' VT=>?_
 subst hn;obtain⟨VS,hd⟩:=ff hi;rw[ho]at VS;obtain⟨t,x,y,m,c,yt,e,g1,rfl,g2,rfl⟩:=Ah VS;have R:=dr hs x;rw[hx]at R;simp only[E']at R;obtain⟨ba,cap,hX,_,hr⟩:=R;have Wv:(execOp a.eval o).run P w=.ok (.value (.bool ba.isNone)) w:=by
  unfold execOp;rw[g1];have hY:a.eval (.const (.slice none m c))=.slice none m c:=rfl;simp[hX,hY,eqGuard,Lib.run_eql_slice_nil w t e ba rows.length cap m c g2]
 unfold Oper.wp;rw[Wv];refine VT _ _ _ ⟨I,?_⟩ (h ba.isNone ?_)
 .rw[<-hd];exact hs.pure (by simp[E'])
 .intro hb;rcases hr with hr|⟨b,off,rfl,_⟩
  .exact hr
  .cases hb
end Go.Vc
