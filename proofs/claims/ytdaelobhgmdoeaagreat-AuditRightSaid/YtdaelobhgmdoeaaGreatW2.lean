/- Part 2 of the library of this proof. -/
import Derived.Test.YtdaelobhgmdoeaaGreatW1
import Derived.TacticsIn
import Derived.RangeFuncNested
import Derived.RangeFuncLeaves
import Derived.Orders
import Derived.OrdersIn
import Derived.Lib.SliceRun
import Derived.WideLaws
import Derived.Laws.RangeString
import Derived.Laws.Runes
import Derived.Attr
set_option linter.all false
set_option maxHeartbeats 8000000
set_option maxRecDepth 100000
namespace Go.Vc
inductive It where
 |code (c:bc)
 |inBlock (id:Nat)
 |ops (l:List az)
 |stop (μ:St->Prop)
inductive KI where
 |code (c:Code)
 |inBlock (id:Nat)
 |ops (all:Array Oper) (l:List Oper)
 |stop (μ:St->Prop)
def KI.it(P:Program)(n:Nat):KI->It
 |.code c=>.code (cX P n c)
 |.inBlock id=>.inBlock id
 |.ops all l=>.ops (l.map (bG P n all))
 |.stop μ=>.stop μ
def Fr.dW(F:Fr):Fence:={ Fence.wide with round:=F.rd.map (·.1) }
def lq(F:Fr):F.dW.depth.isSome=true->1<=0:=λh=>by simp[Fr.dW,Fence.wide]at h
def pY{F:Fr}{n:Nat}{P:Program}{f:FuncId}{args:Array Value}{w:World}{R:Ending->World->Prop}(h:Calls P f args w R):CallsIn F.dW n P f args w R:=by
 have h1:CallsIn Fence.wide n P f args w R:=callsIn_wide.2 h;exact h1
def Hf{F:Fr}{P:Program}{o:Oper}{a:Act}{w:World}{next:Act->World->Prop}{Q:Exit->Act->World->Prop}(hd:∀c,o.op≠.defer c)(h:o.wp P a w next Q):
 o.wpIn F.dW 0 P a w next Q:=by
 refine⟨λ_ _=>trivial,?_⟩;rw[Oper.semAt_eq _ _ _ hd];unfold Oper.wp at h;generalize (execOp a.eval o).run P w=r at*;cases r with
 |ok x w'=>
  cases x<;>simp only[Oper.upon,Oper.uponIn]at h|-<;>first
   |exact h
   |exact⟨lq F,pY h⟩
   |contradiction
   |skip
  exact⟨lq F,λc cs _=>let ⟨v,w',r,s⟩:=h c cs;⟨v,w',r,stepsIn_wide.2 s⟩⟩
 |halt x w'=>cases x<;>simp only[Oper.upon,Oper.uponIn]at h|-<;>first|exact h|contradiction
def kg{P:Program}{n:Nat}{o:Op}(h:Yn P n o≠.bad)(c:Call):o≠.defer c:=λe=>by subst e;exact h rfl
def kO(P:Program)(F:Fr)(Q:St->Prop):List KI->Exit->Act->World->Prop
 |[],e,a,w=>(e=.normal\/e=.ret)/\∃st,Q st/\ef F st a w
 |.code c::k,e,a,w=>match e with
   |.normal=>c.wpIn F.dW 0 P (kO P F Q k) a w
   |e=>kO P F Q k e a w
 |.inBlock id::k,e,a,w=>Exit.inBlock id (kO P F Q k) e a w
 |.ops all l::k,e,a,w=>match e with
   |.normal=>wpListIn F.dW 0 P all (kO P F Q k) l a w
   |e=>kO P F Q k e a w
 |.stop μ::k,e,a,w=>match e with
   |.normal=>∃st,μ st/\ef F st a w
   |e=>kO P F Q k e a w
def ab(P:Program)(n:Nat)(todo:List It)(st:St)(Q:St->Prop):Prop:=
 ∀F:Fr,F.n=n->∀kt:List KI,kt.map (KI.it P n)=todo->∀a w,ef F st a w->kO P F Q kt .normal a w
variable {P:Program} {n:Nat} {st:St} {Q:St->Prop} {k:List It}
def ab.nil(h:Q st):ab P n [] st Q:=by
 intro F _ kt hk a w hs;cases kt with
 |nil=>exact⟨.inl rfl,st,h,hs⟩
 |cons x kt=>simp at hk
def dn{kt:List KI}{x:It}(h:kt.map (KI.it P n)=x::k):∃y kt',kt=y::kt'/\y.it P n=x/\kt'.map (KI.it P n)=k:=by
 cases kt with
 |nil=>simp at h
 |cons y kt'=>simp only[dP,List.cons.injEq]at h;exact⟨y,kt',rfl,h.1,h.2⟩
def fX{y:KI}{c:bc}(h:y.it P n=.code c):∃c0,y=.code c0/\cX P n c0=c:=by
 cases y<;>simp only[KI.it,It.code.injEq,reduceCtorEq]at h;exact⟨_,rfl,h⟩
def ab.skip(h:ab P n k st Q):ab P n (.code .skip::k) st Q:=by
 intro F hn kt hk a w hs;obtain⟨y,kt',rfl,hy,ZU⟩:=dn hk;obtain⟨c0,rfl,hc⟩:=fX hy;have hc0:c0=.skip:=by
  cases c0<;>simp only[cX,reduceCtorEq]at hc<;>(try (split at hc;cases hc))<;>(try (split at hc<;>cases hc))<;>try rfl
 subst hc0;exact wpIn_skip (h F hn kt' ZU a w hs)
def ab.seq{x y:bc}(h:ab P n (.code x::.code y::k) st Q):ab P n (.code (.seq x y)::k) st Q:=by
 intro F hn kt hk a w hs;obtain⟨z,kt',rfl,hy,ZU⟩:=dn hk;obtain⟨c0,rfl,hc⟩:=fX hy;have hc0:∃x0 y0,c0=.seq x0 y0/\cX P n x0=x/\cX P n y0=y:=by
  cases c0<;>simp only[cX,reduceCtorEq,bc.seq.injEq]at hc
  case region=>(split at hc;cases hc);split at hc<;>cases hc
  exact⟨_,_,rfl,hc.1,hc.2⟩
 obtain⟨x0,y0,rfl,rfl,rfl⟩:=hc0;refine wpIn_seq (wpIn_mono (h F hn (.code x0::.code y0::kt') (by simp[KI.it,ZU]) a w hs) ?_);intro e a' w' hq;cases e<;>exact hq
def ab.block{id:Nat}{x:bc}(h:ab P n (.code x::.inBlock id::k) st Q):ab P n (.code (.block id x)::k) st Q:=by
 intro F hn kt hk a w hs;obtain⟨z,kt',rfl,hy,ZU⟩:=dn hk;obtain⟨c0,rfl,hc⟩:=fX hy;have hc0:∃x0,c0=.block id x0/\cX P n x0=x:=by
  cases c0<;>simp only[cX,reduceCtorEq,bc.block.injEq]at hc
  case region=>(split at hc;cases hc);split at hc<;>cases hc
  obtain⟨rfl,h2⟩:=hc;exact⟨_,rfl,h2⟩
 obtain⟨x0,rfl,rfl⟩:=hc0;exact wpIn_block (h F hn (.code x0::.inBlock id::kt') (by simp[KI.it,ZU]) a w hs)
def ab.inBlock{id:Nat}(h:ab P n k st Q):ab P n (.inBlock id::k) st Q:=by
 intro F hn kt hk a w hs;obtain⟨z,kt',rfl,hy,ZU⟩:=dn hk;cases z<;>simp only[KI.it,It.inBlock.injEq,reduceCtorEq]at hy;exact h F hn kt' ZU a w hs
def ab.stop{μ:St->Prop}(h:μ st):ab P n (.stop μ::k) st Q:=by
 intro F hn kt hk a w hs;obtain⟨z,kt',rfl,hy,ZU⟩:=dn hk;cases z<;>simp only[KI.it,It.stop.injEq,reduceCtorEq]at hy;subst hy;exact⟨st,h,hs⟩
def gg(id:Nat):List It->Option (List It)
 |[]=>none
 |.inBlock j::k=>if id=j then some k else gg id k
 |_::k=>gg id k
def l8{F:Fr}{id:Nat}{a:Act}{w:World}:∀{kt:List KI} {k':List It},gg id (kt.map (KI.it P n))=some k'->
 (∀kt',kt'.map (KI.it P n)=k'->kO P F Q kt' .normal a w)->kO P F Q kt (.exit id) a w
 |[],_,h,_=>by simp[gg]at h
 |.code c::kt,_,h,hq=>l8 (kt:=kt) (by simpa[KI.it,gg]using h) hq
 |.ops all l::kt,_,h,hq=>l8 (kt:=kt) (by simpa[KI.it,gg]using h) hq
 |.stop μ::kt,_,h,hq=>l8 (kt:=kt) (by simpa[KI.it,gg]using h) hq
 |.inBlock j::kt,k',h,hq=>by
  simp only[dP,KI.it,gg]at h;simp only[kO,Exit.inBlock];by_cases hj:id=j
  .rw[ar hj]at h|-;simp only[aB]at h;exact hq kt h
  .rw[av hj]at h|-;exact l8 h hq
def ab.exit{id:Nat}{k':List It}(hp:gg id k=some k')(h:ab P n k' st Q):ab P n (.code (.exit id)::k) st Q:=by
 intro F hn kt hk a w hs;obtain⟨z,kt',rfl,hy,ZU⟩:=dn hk;obtain⟨c0,rfl,hc⟩:=fX hy;have hc0:c0=.exit id:=by
  cases c0<;>simp only[cX,reduceCtorEq,bc.exit.injEq]at hc
  case region=>(split at hc;cases hc);split at hc<;>cases hc
  rw[hc]
 subst hc0;exact wpIn_exit (l8 (n:=n) (by rw[ZU];exact hp) (λkt'' h''=>h F hn kt'' h'' a w hs))
def l9{F:Fr}{a:Act}{w:World}(h:∃st,Q st/\ef F st a w):∀(kt:List KI),kO P F Q kt .ret a w
 |[]=>⟨.inr rfl,h⟩
 |.code _::kt=>l9 h kt
 |.inBlock _::kt=>l9 h kt
 |.ops _ _::kt=>l9 h kt
 |.stop _::kt=>l9 h kt
def ab.ret(h:Q st):ab P n (.code .ret::k) st Q:=by
 intro F hn kt hk a w hs;obtain⟨z,kt',rfl,hy,ZU⟩:=dn hk;obtain⟨c0,rfl,hc⟩:=fX hy;have hc0:c0=.ret:=by
  cases c0<;>simp only[cX,reduceCtorEq]at hc<;>(try (split at hc;cases hc))<;>(try (split at hc<;>cases hc))<;>try rfl
 subst hc0;exact wpIn_ret (l9 ⟨st,h,hs⟩ kt')
def ab.cond{c:VX}{x y:bc}{b:Bool}(hc:c.ev st.s=.bool b)(h1:b=true->ab P n (.code x::k) st Q)(h2:b=false->ab P n (.code y::k) st Q):
 ab P n (.code (.cond c x y)::k) st Q:=by
 intro F hn kt hk a w hs;obtain⟨z,kt',rfl,hy,ZU⟩:=dn hk;obtain⟨c0,rfl,ZH⟩:=fX hy;have hc0:∃o x0 y0,c0=.cond o x0 y0/\cx n o=c/\cX P n x0=x/\cX P n y0=y:=by
  cases c0<;>simp only[cX,reduceCtorEq,bc.cond.injEq]at ZH
  case region=>(split at ZH;cases ZH);split at ZH<;>cases ZH
  exact⟨_,_,_,rfl,ZH.1,ZH.2.1,ZH.2.2⟩
 obtain⟨o,x0,y0,rfl,rfl,rfl,rfl⟩:=hc0;obtain⟨I,Yk⟩:=hs;have he:=bE Yk o;rw[hn,hc]at he;simp only[E']at he;exact wpIn_cond_split he (λhb=>h1 hb F hn (.code x0::kt') (by simp[KI.it,ZU]) a w ⟨I,Yk⟩) (λhb=>h2 hb F hn (.code y0::kt') (by simp[KI.it,ZU]) a w ⟨I,Yk⟩)
def ab.region{l:List az}(h:ab P n (.ops l::k) st Q):ab P n (.code (.reg false l)::k) st Q:=by
 intro F hn kt hk a w hs;obtain⟨z,kt',rfl,hy,ZU⟩:=dn hk;obtain⟨c0,rfl,ZH⟩:=fX hy;have hc0:∃id ops,c0=.region id ops false/\ops.toList.map (bG P n ops)=l:=by
  cases c0<;>simp only[cX,reduceCtorEq]at ZH;rename_i id ops draw;cases draw
  .simp only[Bool.false_and,eT,if_false,bc.reg.injEq,true_and]at ZH;exact⟨id,ops,rfl,ZH⟩
  .simp only[Bool.true_and]at ZH;split at ZH
   .cases ZH
   .split at ZH
    .cases ZH
    .simp at ZH
 obtain⟨id,ops,rfl,rfl⟩:=hc0;exact wpIn_region_list (h F hn (.ops ops ops.toList::kt') (by simp[KI.it,ZU]) a w hs)
def ab.AJ(h:ab P n k st Q):ab P n (.ops []::k) st Q:=by
 intro F hn kt hk a w hs;obtain⟨z,kt',rfl,hy,ZU⟩:=dn hk;cases z<;>simp only[KI.it,It.ops.injEq,reduceCtorEq,List.map_eq_nil_iff]at hy;subst hy;exact h F hn kt' ZU a w hs
def aP(s:Nat->V):Option (VX×Bool)->Option Bool
 |none=>some true
 |some (x,b)=>match x.ev s with
    |.bool c=>some (c==b)
    |.P' []=>some false
    |.int _ _=>some false
    |_=>none
def pF{F:Fr}{I:Mu}{st:St}{a:Act}{w:World}(hs:cK F I st a w)(all:Array Oper)(o:Oper){b:Bool}(h:aP st.s (bG P F.n all o).g=some b):
 Region.wanted o (yielded all a.tmps)=b:=by
 unfold Region.wanted;cases hg:o.guard with
 |none=>simp[bG,hg,aP]at h;simp[h]
 |some g=>
  obtain⟨j,want⟩:=g;simp only[bG,hg,Option.map_some,aP]at h;cases hd:(all[j]?).bind (·.dst)with
  |none=>
   simp only[hd,VX.ev]at h;simp only[aB]at h;subst h;simp[yielded,hd]
  |some d=>
   simp only[hd]at h;by_cases hdn:d<F.n
   .simp only[ar hdn,VX.ev]at h;have hr:=hs.slot d hdn;have hget:a.tmps[d]?=some (a.tmps.getD d undef):=by
     rw[Zq7,Array.getElem?_eq_getElem (by rw[hs.size];exact hdn)];rfl
    simp only[yielded,hd,Option.bind_some,hget];split at h
    .rename_i c hc;rw[hc]at hr;simp only[E']at hr;rw[hr];simp only[aB]at h;rw[<-h];rfl
    .rename_i hc;rw[hc]at hr;simp only[E',al]at hr;obtain⟨Yl,hv,rfl⟩:=hr;rw[hv];simp only[aB]at h;rw[<-h];rfl
    .rename_i hc;rw[hc]at hr;simp only[E']at hr;rw[hr];simp only[aB]at h;rw[<-h];rfl
    .cases h
   .simp only[av hdn,VX.ev]at h;simp only[aB]at h;have hle:a.tmps.size<=d:=by rw[hs.size];exact Nat.le_of_not_lt hdn
    have:a.tmps[d]?=none:=Array.getElem?_eq_none hle;simp[yielded,hd,this,<-h]
def St.put(st:St)(d:Option Nat)(v:V):St:=⟨aN st.s d v,st.U⟩
def ab.Oo{i:az}{l:List az}(hw:aP st.s i.g=some true)
 (h:∀(F:Fr),F.n=n->∀(I:Mu) (a:Act) (w:World) (o:Oper) (all:Array Oper),bG P n all o=i->cK F I st a w->
   ∀(next:Act->World->Prop) (Q':Exit->Act->World->Prop),(∀Zd a' w',ef F Zd a' w'->ab P n (.ops l::k) Zd Q->next a' w')->o.wpIn F.dW 0 P a w next Q'):
 ab P n (.ops (i::l)::k) st Q:=by
 intro F hn kt hk a w hs;obtain⟨z,kt',rfl,hy,ZU⟩:=dn hk;cases z<;>simp only[KI.it,It.ops.injEq,reduceCtorEq]at hy;rename_i all os;cases os with
 |nil=>simp at hy
 |cons o os=>
  simp only[dP,List.cons.injEq]at hy;obtain⟨hi,hl⟩:=hy;obtain⟨I,Yk⟩:=hs;have hwant:=pF (P:=P) Yk all o (b:=true) (by rw[hn,hi];exact hw);simp only[kO,wpListIn,hwant,if_true];refine h F hn I a w o all hi Yk _ _ ?_;intro Zd a' w' hs'' hsem;exact hsem F hn (.ops all os::kt') (by simp[KI.it,hl,ZU]) a' w' hs''
def ab.ins{i:az}{l:List az}(hb:i.op≠.bad)(hw:aP st.s i.g=some true)
 (h:∀(F:Fr),F.n=n->∀(I:Mu) (a:Act) (w:World) (o:Oper) (all:Array Oper),bG P n all o=i->cK F I st a w->
   ∀(next:Act->World->Prop) (Q':Exit->Act->World->Prop),(∀Zd a' w',ef F Zd a' w'->ab P n (.ops l::k) Zd Q->next a' w')->o.wp P a w next Q'):
 ab P n (.ops (i::l)::k) st Q:=by
 refine ab.Oo hw λF hn I a w o all hi hs next Q' Yd=>Hf ?_ (h F hn I a w o all hi hs next Q' Yd)
 refine kg (P:=P) (n:=n) ?_;have:i.op=Yn P n o.op:=by rw[<-hi];rfl
 rw[<-this];exact hb
def ab.o6{i:az}{l:List az}(hw:aP st.s i.g=some false)(h:ab P n (.ops l::k) (st.put i.dst (.P' [])) Q):ab P n (.ops (i::l)::k) st Q:=by
 intro F hn kt hk a w hs;obtain⟨z,kt',rfl,hy,ZU⟩:=dn hk;cases z<;>simp only[KI.it,It.ops.injEq,reduceCtorEq]at hy;rename_i all os;cases os with
 |nil=>simp at hy
 |cons o os=>
  simp only[dP,List.cons.injEq]at hy;obtain⟨hi,hl⟩:=hy;obtain⟨I,Yk⟩:=hs;have hwant:=pF (P:=P) Yk all o (b:=false) (by rw[hn,hi];exact hw);simp only[kO,wpListIn,hwant,eT,if_false];refine⟨λ_ _=>trivial,?_⟩;refine h F hn (.ops all os::kt') (by simp[KI.it,hl,ZU]) _ w ⟨I,?_⟩;have hd:i.dst=o.dst.filter (·<F.n):=by rw[<-hi,hn];rfl
  rw[St.put,hd];exact Yk.pure (by simp only[E'];exact⟨[],rfl,by simp[al]⟩)
def ab.pure{i:az}{l:List az}{v:V}(hw:aP st.s i.g=some true)(hp:eN st.s i.op)(hv:aE st.U st.s i.op=some v)
 (h:ab P n (.ops l::k) (st.put i.dst v) Q):ab P n (.ops (i::l)::k) st Q:=by
 refine ab.ins (λe=>by rw[e]at hv;simp[aE]at hv) hw λF hn I a w o all hi hs next Q' Yd=>?_
 subst hn;have Yf:i.op=Yn P F.n o.op:=by rw[<-hi];rfl
 have hd:i.dst=o.dst.filter (·<F.n):=by rw[<-hi];rfl
 obtain⟨z,hz,hr⟩:=uD hs o (Yf▸hp) (Yf▸hv);unfold Oper.wp;rw[hz];refine Yd (st.put i.dst v) _ _ ⟨I,?_⟩ h;rw[St.put,hd];exact hs.pure hr
variable {P:Program} {n:Nat} {st:St} {Q:St->Prop} {k:List It}
def Ia{F:Fr}{o:Oper}{a:Act}{w:World}{next next':Act->World->Prop}{R R':Exit->Act->World->Prop}(h:o.wpIn F.dW 0 P a w next R)
 (hn:∀a w,next a w->next' a w)(hq:∀e a w,e≠.normal->R e a w->R' e a w):o.wpIn F.dW 0 P a w next' R':=by
 refine⟨h.1,?_⟩;have h:=h.2;generalize (o.semAt F.dW.round a.eval).run P w=r at*;cases r with
 |ok x w'=>
  cases x<;>simp only[Oper.uponIn]at h|-<;>first
   |exact hn _ _ h
   |exact⟨h.1,CallsIn.mono h.2 (λe w'' he=>by cases e<;>first|exact hn _ _ he|exact hq _ _ _ (by simp) he|(obtain⟨a0,w0,h2⟩:=he;exact⟨a0,w0,hq _ _ _ (by simp) h2⟩))⟩
   |exact⟨h.1,RowsIn.mono h.2 (λ_ _ he=>hn _ _ he)⟩
   |exact⟨h.1,RoundIn.mono h.2 (λe w'' he=>by cases e<;>first|exact hn _ _ he|exact hq _ _ _ (by simp) he|(obtain⟨a0,w0,h2⟩:=he;exact⟨a0,w0,hq _ _ _ (by simp) h2⟩))⟩
   |contradiction
 |halt x w'=>cases x<;>simp only[Oper.uponIn]at h|-<;>first|exact hq _ _ _ (by simp) h|contradiction
def lB{F:Fr}{all:Array Oper}{R R':Exit->Act->World->Prop}(hq:∀e a w,R e a w->R' e a w):∀(l:List Oper) (a:Act) (w:World),wpListIn F.dW 0 P all R l a w->wpListIn F.dW 0 P all R' l a w
 |[],a,w,h=>hq _ _ _ h
 |o::l,a,w,h=>by
  simp only[wpListIn]at h|-;split
  .rename_i hw;simp only[hw,if_true]at h;exact Ia h (lB hq l) (λe a w _=>hq e a w)
  .rename_i hw;simp only[hw]at h;exact⟨h.1,lB hq l _ _ h.2⟩
def Wk(U Z':af)(v v':V):Prop:=∀(I:Mu) (w0 w:World) (Zs:Nat->Prop) (x:Value),Sat w0 Zs I U w->E' I (aA I U) w v x->E' I (aA I Z') w v' x
def Wk.refl{U Z':af}(h:aa Z' U)(v:V):Wk U Z' v v:=λI _ w _ x _ hr=>E'.mono (cD.refl I) (cF.sub w h) (YY _) v x hr
def Wk.undef{U Z':af}(v:V):Wk U Z' v .undef:=λ_ _ _ _ _ _ _=>by simp[E']
def Wk.own{U Z':af}(h:aa Z' U){id off len:Nat}{ob:Ob}(ho:U id=some ob)(O':Z' id=none)(hl:off+len<=ob.rows.length):
 Wk U Z' (.own id off len) (.sl ob.sz ((ob.rows.drop off).take len)):=by
 intro I w0 w Zs x hs hr;simp only[E']at hr|-;have hlen:((ob.rows.drop off).take len).length=len:=by simp;omega
 have Zb:=hs.obj id ob ho;split at hr
 .exact hr.elim
 .obtain⟨rfl,rfl,rfl⟩:=hr;exact⟨none,0,by simp,by simp,.inl (by simp)⟩
 .rename_i b sz cap hb;obtain⟨o,c,rfl,h1,h2,h3,hz⟩:=hr;refine⟨_,c,by rw[hlen],by omega,?_⟩;by_cases h0:len=0
  .left;subst h0;simp
  .right;rw[hb]at Zb;obtain⟨g1,g2,g3,g4,g5⟩:=Zb.rows hz;have ho':o=off*sz:=by
    rcases h3 with h3|h3
    .exact h3
    .omega
   subst ho' g1;refine⟨b,_,rfl,?_,g2,?_⟩
   .rintro⟨ZL,ob',sz',cap',e1,e2⟩;have:=hs.inj ZL id ob' ob _ _ _ _ _ (h _ _ e1) ho e2 hb;rw[this,O']at e1;cases e1
   .have:=(g5.drop off).take len;rw[jc]at this;exact aS.mono (cD.refl I) (cF.sub w h) (YY _) _ _ _ _ rfl this
def WkL(U Z':af):List V->List V->Prop
 |[],[]=>True
 |v::vs,v'::vs'=>Wk U Z' v v'/\WkL U Z' vs vs'
 |_,_=>False
def WkL.all{U Z':af}{I:Mu}{w0 w:World}{Zs:Nat->Prop}(hs:Sat w0 Zs I U w):∀{vs vs':List V} {l:List Value},WkL U Z' vs vs'->
 al I (aA I U) w vs l->al I (aA I Z') w vs' l
 |[],[],_,_,h=>by simpa[al]using h
 |v::vs,v'::vs',l,hw,h=>by
  simp only[al]at h|-;obtain⟨x,xs,rfl,h1,h2⟩:=h;exact⟨x,xs,rfl,hw.1 I w0 w Zs x hs h1,WkL.all hs hw.2 h2⟩
 |[],_::_,_,hw,_=>hw.elim
 |_::_,[],_,hw,_=>hw.elim
def Wk.agg{U Z':af}{vs vs':List V}(h:WkL U Z' vs vs'):Wk U Z' (.agg vs) (.agg vs'):=by
 intro I w0 w Zs x hs hr;simp only[E']at hr|-;obtain⟨Yl,rfl,h1,h2⟩:=hr;exact⟨Yl,rfl,WkL.all hs h h1,h2⟩
def Wk.P'{U Z':af}{vs vs':List V}(h:WkL U Z' vs vs'):Wk U Z' (.P' vs) (.P' vs'):=by
 intro I w0 w Zs x hs hr;simp only[E']at hr|-;obtain⟨Yl,rfl,h1⟩:=hr;exact⟨Yl,rfl,WkL.all hs h h1⟩
def NS(st Zd:St):Prop:=aa Zd.U st.U/\∀i,Wk st.U Zd.U (st.s i) (Zd.s i)
def NS.sat{st Zd:St}(h:NS st Zd){F:Fr}{a:Act}{w:World}(hs:ef F st a w):ef F Zd a w:=by
 obtain⟨I,hs⟩:=hs;exact⟨I,hs.sat.drop h.1,hs.le,hs.size,hs.book.gP (cF.sub w h.1),λi hi=>h.2 i I _ _ _ _ hs.sat (hs.slot i hi)⟩
def ab.weaken{todo:List It}{Zd:St}(h:NS st Zd)(hr:ab P n todo Zd Q):ab P n todo st Q:=
 λF hn kt hk a w hs=>hr F hn kt hk a w (h.sat hs)
def ab.cut{x:It}(μ:St->Prop)(h1:ab P n (x::.stop μ::k) st Q)(h2:∀st,μ st->ab P n k st Q):ab P n (x::k) st Q:=by
 intro F hn kt hk a w hs;obtain⟨y,kt',rfl,hy,ZU⟩:=dn hk;have h3:=h1 F hn (y::.stop μ::kt') (by rw[dP,dP,hy,ZU];rfl) a w hs;have key:∀e a w,kO P F Q (.stop μ::kt') e a w->kO P F Q kt' e a w:=by
  intro e a w h;cases e
  case normal=>obtain⟨Zd,hi,Yk⟩:=h;exact h2 Zd hi F hn kt' ZU a w Yk
  all_goals exact h
 cases y with
 |code c=>exact wpIn_mono h3 key
 |inBlock id=>exact key _ _ _ h3
 |stop J=>exact h3
 |ops all l=>exact lB key l a w h3
def x4{F:Fence}{m0:Nat}{c:Code}{Q':Exit->Act->World->Prop}(μ:Nat->Act->World->Prop)
 (round:∀m a w,μ m a w->c.wpIn F m0 P (Exit.then (λa' w'=>∃m',m'<m/\μ m' a' w') Q') a w):∀m a w,μ m a w->(Code.loop c).wpIn F m0 P Q' a w:=by
 intro m a w h b k cs hro hb hr;have key:∀m a w,μ m a w->∃e a' w',Q' e a' w'/\ArrivesIn (Machine.fenced P F) P (lone (b.atR a (.code c::.inLoop c::k)) cs w) b k cs e a' w':=by
  intro m
  induction m using Nat.strongRecOn with
  |_ m ih=>
   intro a w hI;obtain⟨e,a₁,w₁,hq,harr⟩:=round m a w hI b (.inLoop c::k) cs hro hb hr;cases e with
   |normal=>
    obtain⟨m',L',hI'⟩:=hq;obtain⟨e₂,a₂,w₂,hq₂,harr₂⟩:=ih m' L' a₁ w₁ hI';exact⟨e₂,a₂,w₂,hq₂,.of_steps (StepsIn.trans harr (.one (fenced_calm hb hr rfl) stepR_inLoop)) harr₂⟩
   |exit id=>exact⟨_,a₁,w₁,hq,.pass (x:=.inLoop c) rfl (λ_ _=>.inl (by simp)) harr⟩
   |goto l=>exact⟨_,a₁,w₁,hq,.pass (x:=.inLoop c) rfl (λ_ _=>.inl (by simp)) harr⟩
   |ret=>exact⟨_,a₁,w₁,hq,.pass (x:=.inLoop c) rfl (λ_ _=>.inl (by simp)) harr⟩
   |panic ch=>exact⟨_,a₁,w₁,hq,.pass (x:=.inLoop c) rfl (λ_ _=>.inl (by simp)) harr⟩
   |outgrown=>exact⟨_,a₁,w₁,hq,.pass (x:=.inLoop c) rfl (λ_ _=>.inl (by simp)) harr⟩
 obtain⟨e,a',w',hq,harr⟩:=key m a w h;exact⟨e,a',w',hq,.of_steps (.one (fenced_calm hb hr rfl) stepR_loop) harr⟩
def ab.loop{x:bc}(μ:Nat->St->Prop)(m:Nat)(h0:μ m st)(hr:∀m st,μ m st->ab P n (.code x::.stop (λZd=>∃m',m'<m/\μ m' Zd)::k) st Q):
 ab P n (.code (.loop x)::k) st Q:=by
 intro F hn kt hk a w hs;obtain⟨z,kt',rfl,hy,ZU⟩:=dn hk;obtain⟨c0,rfl,hc⟩:=fX hy;have hc0:∃x0,c0=.loop x0/\cX P n x0=x:=by
  cases c0<;>simp only[cX,reduceCtorEq,bc.loop.injEq]at hc
  case region=>(split at hc;cases hc);split at hc<;>cases hc
  exact⟨_,rfl,hc⟩
 obtain⟨x0,rfl,rfl⟩:=hc0;refine x4 (λm a w=>∃st,μ m st/\ef F st a w) ?_ m a w ⟨st,h0,hs⟩;rintro m a w ⟨st,hi,hs⟩;refine wpIn_mono (hr m st hi F hn (.code x0::.stop (λZd=>∃m',m'<m/\μ m' Zd)::kt') (by simp[KI.it,ZU]) a w hs) ?_;intro e a' w' h;cases e
 case normal=>obtain⟨Zd,⟨m',L',hi'⟩,Yk⟩:=h;exact⟨m',L',Zd,hi',Yk⟩
 all_goals exact h
variable {P:Program} {n:Nat} {st:St} {Q:St->Prop} {k:List It}
def zf{o:Op}{e sz:Nat}{z:V}(h:Yn P n o=.alloc e sz z):∃i zv,o=.alloc e/\zeroOf P e=some (i,zv)/\i.size=sz/\ofValue zv=z:=by
 cases o
 case alloc t=>
  simp only[Yn,bR]at h;split at h
  .rename_i i zv hz;simp only[Yw.alloc.injEq]at h;obtain⟨rfl,h2,h3⟩:=h;exact⟨i,zv,rfl,hz,h2,h3⟩
  ·(repeat' split at h)<;>cases h
 case call c=>
  obtain⟨callee,args,argTypes⟩:=c;cases callee
  case builtin b=>cases b<;>simp only[Yn,bR]at h<;>(repeat' split at h)<;>cases h
  all_goals (simp only[Yn,bR]at h;cases h)
 case unOp op t x=>cases op<;>simp only[Yn,bR]at h<;>cases h
 case makeFunc f a b=>cases f<;>simp only[Yn,bR]at h<;>(repeat' split at h)<;>cases h
 all_goals (simp only[Yn,bR]at h;(repeat' split at h)<;>cases h)
def yC{o:Op}{sz:Nat}{xa xv:VX}(h:Yn P n o=.store sz xa xv):∃t x y,o=.store t x y/\bK P t=true/\P.cellsOf t=sz/\cx n x=xa/\cx n y=xv:=by
 cases o
 case store t x y=>
  simp only[Yn,bR]at h;split at h
  .rename_i hk;simp only[Yw.store.injEq]at h;exact⟨t,x,y,rfl,hk,h.1,h.2.1,h.2.2⟩
  ·(repeat' split at h)<;>cases h
 case call c=>
  obtain⟨callee,args,argTypes⟩:=c;cases callee
  case builtin b=>cases b<;>simp only[Yn,bR]at h<;>(repeat' split at h)<;>cases h
  all_goals (simp only[Yn,bR]at h;cases h)
 case unOp op t x=>cases op<;>simp only[Yn,bR]at h<;>cases h
 case makeFunc f a b=>cases f<;>simp only[Yn,bR]at h<;>(repeat' split at h)<;>cases h
 all_goals (simp only[Yn,bR]at h;(repeat' split at h)<;>cases h)
def wu{o:Op}{e sz:Nat}{xs:List VX}(h:Yn P n o=.eU e sz xs):∃t len parts i z,o=.buildSlice t len parts/\P.underlying t=some (.slice e)/\zeroOf P e=some (i,z)/\
 i.size=sz/\parts.toList.map (·.1)=List.range len/\len*i.size<=16777216/\parts.toList.map (λp=>cx n p.2)=xs:=by
 cases o
 case buildSlice t len parts=>
  simp only[Yn,bR]at h;split at h
  .rename_i e' he;split at h
   .rename_i i z hz;split at h
    .rename_i hc;simp only[Yw.eU.injEq]at h;obtain⟨rfl,h2,h3⟩:=h;exact⟨t,len,parts,i,z,rfl,he,hz,h2,hc.1,hc.2,h3⟩
    .cases h
   .cases h
  .cases h
 case call c=>
  obtain⟨callee,args,argTypes⟩:=c;cases callee
  case builtin b=>cases b<;>simp only[Yn,bR]at h<;>(repeat' split at h)<;>cases h
  all_goals (simp only[Yn,bR]at h;cases h)
 case unOp op t x=>cases op<;>simp only[Yn,bR]at h<;>cases h
 case makeFunc f a b=>cases f<;>simp only[Yn,bR]at h<;>(repeat' split at h)<;>cases h
 all_goals (simp only[Yn,bR]at h;(repeat' split at h)<;>cases h)
def Lr{o:Op}{e sz bytes:Nat}{zv:V}{xn:VX}(h:Yn P n o=.mk e sz bytes zv xn):∃t l c i z,o=.makeSlice t l c/\P.underlying t=some (.slice e)/\zeroOf P e=some (i,z)/\
 i.size=sz/\i.bytes=bytes/\ofValue z=zv/\vg l c=true/\cx n l=xn:=by
 cases o
 case makeSlice t l c=>
  simp only[Yn,bR]at h;split at h
  .rename_i e' he;split at h
   .rename_i i z hz;split at h
    .rename_i hc;simp only[Yw.mk.injEq]at h;obtain⟨rfl,h2,h3,h4,h5⟩:=h;exact⟨t,l,c,i,z,rfl,he,hz,h2,h3,h4,hc,h5⟩
    .cases h
   .cases h
  .cases h
 case call c=>
  obtain⟨callee,args,argTypes⟩:=c;cases callee
  case builtin b=>cases b<;>simp only[Yn,bR]at h<;>(repeat' split at h)<;>cases h
  all_goals (simp only[Yn,bR]at h;cases h)
 case unOp op t x=>cases op<;>simp only[Yn,bR]at h<;>cases h
 case makeFunc f a b=>cases f<;>simp only[Yn,bR]at h<;>(repeat' split at h)<;>cases h
 all_goals (simp only[Yn,bR]at h;(repeat' split at h)<;>cases h)
def Cf{o:Op}{e sz bytes:Nat}{zv:V}{xa xb:VX}(h:Yn P n o=.appz e sz bytes zv xa xb):∃t tn kn x y args argTypes i z,o=.call { callee:=.builtin .append,args:=args,argTypes:=argTypes }/\
 args=#[x,y]/\argTypes=#[t,tn]/\P.underlying t=some (.slice e)/\P.underlying tn=some (.int kn)/\zeroOf P e=some (i,z)/\i.size=sz/\i.bytes=bytes/\ofValue z=zv/\cx n x=xa/\cx n y=xb:=by
 cases o
 case call c=>
  obtain⟨callee,args,argTypes⟩:=c;cases callee
  case value=>simp[Yn]at h
  case invoke=>simp[Yn]at h
  case builtin b=>
   cases b
   case append=>
    simp only[Yn,bR]at h;split at h
    .rename_i x y t t' h1 h2;split at h
     .split at h
      .split at h<;>cases h
      .cases h
     .split at h
      .rename_i e' kn he hn;split at h
       .rename_i i z hz;simp only[Yw.appz.injEq]at h;obtain⟨rfl,h4,h5,h6,h7,h8⟩:=h;exact⟨t,t',kn,x,y,args,argTypes,i,z,rfl,by apply Array.ext';simpa using h1,by apply Array.ext';simpa using h2,he,hn,hz,h4,h5,h6,h7,h8⟩
       .cases h
      .split at h<;>cases h
      .cases h
    .cases h
   all_goals (simp only[Yn,bR]at h;(repeat' split at h)<;>cases h)
 case unOp op t x=>cases op<;>simp only[Yn,bR]at h<;>cases h
 case makeFunc f a b=>cases f<;>simp only[Yn,bR]at h<;>(repeat' split at h)<;>cases h
 all_goals (simp only[Yn,bR]at h;(repeat' split at h)<;>cases h)
def vW{o:Op}{e sz bytes:Nat}{xa xb:VX}(h:Yn P n o=.append e sz bytes xa xb):∃t t' x y args argTypes i z,o=.call { callee:=.builtin .append,args:=args,argTypes:=argTypes }/\
 args=#[x,y]/\argTypes=#[t,t']/\(t'=t\/P.underlying t'=some .string)/\P.underlying t=some (.slice e)/\zeroOf P e=some (i,z)/\i.size=sz/\i.bytes=bytes/\cx n x=xa/\cx n y=xb:=by
 cases o
 case call c=>
  obtain⟨callee,args,argTypes⟩:=c;cases callee
  case value=>simp[Yn]at h
  case invoke=>simp[Yn]at h
  case builtin b=>
   cases b
   case append=>
    simp only[Yn,bR]at h;split at h
    .rename_i x y t t' h1 h2;split at h
     .rename_i htt;subst htt;split at h
      .rename_i e' he;split at h
       .rename_i i z hz;simp only[Yw.append.injEq]at h;obtain⟨rfl,h4,h5,h6,h7⟩:=h;exact⟨t,t,x,y,args,argTypes,i,z,rfl,by apply Array.ext';simpa using h1,by apply Array.ext';simpa using h2,.inl rfl,he,hz,h4,h5,h6,h7⟩
       .cases h
      .cases h
     .split at h
      .split at h<;>cases h
      .rename_i e' he hn;split at h
       .rename_i i z hz;simp only[Yw.append.injEq]at h;obtain⟨rfl,h4,h5,h6,h7⟩:=h;exact⟨t,t',x,y,args,argTypes,i,z,rfl,by apply Array.ext';simpa using h1,by apply Array.ext';simpa using h2,.inr hn,he,hz,h4,h5,h6,h7⟩
       .cases h
      .cases h
    .cases h
   all_goals (simp only[Yn,bR]at h;(repeat' split at h)<;>cases h)
 case unOp op t x=>cases op<;>simp only[Yn,bR]at h<;>cases h
 case makeFunc f a b=>cases f<;>simp only[Yn,bR]at h<;>(repeat' split at h)<;>cases h
 all_goals (simp only[Yn,bR]at h;(repeat' split at h)<;>cases h)
def mC{o:Op}{f:VX}{xs:List VX}(h:Yn P n o=.call f xs):∃f0 args argTypes,o=.call { callee:=.value f0,args:=args,argTypes:=argTypes }/\cx n f0=f/\args.toList.map (cx n)=xs:=by
 cases o
 case call c=>
  obtain⟨callee,args,argTypes⟩:=c;cases callee
  case value f0=>simp only[Yn,Yw.call.injEq]at h;exact⟨f0,args,argTypes,rfl,h.1,h.2⟩
  case invoke=>simp[Yn]at h
  case builtin b=>cases b<;>simp only[Yn,bR]at h<;>(repeat' split at h)<;>cases h
 case unOp op t x=>cases op<;>simp only[Yn,bR]at h<;>cases h
 case makeFunc f a b=>cases f<;>simp only[Yn,bR]at h<;>(repeat' split at h)<;>cases h
 all_goals (simp only[Yn,bR]at h;(repeat' split at h)<;>cases h)
def Gi{o:Op}{e sz:Nat}{xv:VX}(h:Yn P n o=.box e sz xv):∃x,o=.box e x/\bK P e=true/\P.cellsOf e=sz/\cx n x=xv:=by
 cases o
 case box t x=>
  simp only[Yn,bR]at h;split at h
  .rename_i hk;simp only[Yw.box.injEq]at h;obtain⟨rfl,h2,h3⟩:=h;exact⟨x,rfl,hk,h2,h3⟩
  .cases h
 case call c=>
  obtain⟨callee,args,argTypes⟩:=c;cases callee
  case builtin b=>cases b<;>simp only[Yn,bR]at h<;>(repeat' split at h)<;>cases h
  all_goals (simp only[Yn,bR]at h;cases h)
 case unOp op t x=>cases op<;>simp only[Yn,bR]at h<;>cases h
 case makeFunc f a b=>cases f<;>simp only[Yn,bR]at h<;>(repeat' split at h)<;>cases h
 all_goals (simp only[Yn,bR]at h;(repeat' split at h)<;>cases h)
def HL{o:Op}{sz:Nat}{z:V}{xv:VX}(h:Yn P n o=.clear sz z xv):∃x t e args argTypes i zv,o=.call { callee:=.builtin .clear,args:=args,argTypes:=argTypes }/\
 args=#[x]/\argTypes[0]?=some t/\P.underlying t=some (.slice e)/\zeroOf P e=some (i,zv)/\i.size=sz/\ofValue zv=z/\cx n x=xv:=by
 cases o
 case call c=>
  obtain⟨callee,args,argTypes⟩:=c;cases callee
  case builtin b=>
   cases b
   case clear=>
    simp only[Yn,bR]at h;split at h
    .rename_i x t h1 h2;split at h
     .rename_i e he;split at h
      .rename_i i zv hz;simp only[Yw.clear.injEq]at h;exact⟨x,t,e,args,argTypes,i,zv,rfl,by apply Array.ext';simpa using h1,h2,he,hz,h.1,h.2.1,h.2.2⟩
      .cases h
     .cases h
    .cases h
   all_goals (simp only[Yn,bR]at h;(repeat' split at h)<;>cases h)
  all_goals (simp only[Yn,bR]at h;cases h)
 case unOp op t x=>cases op<;>simp only[Yn,bR]at h<;>cases h
 case makeFunc f a b=>cases f<;>simp only[Yn,bR]at h<;>(repeat' split at h)<;>cases h
 all_goals (simp only[Yn,bR]at h;(repeat' split at h)<;>cases h)
def ze{F:Fr}{I:Mu}{a:Act}{w:World}(hs:cK F I st a w){o:Oper}{t:TypeId}{x:Operand}(hoo:o.op=.box t x)(hk:bK P t=true)
 (hx:((cx F.n x).ev st.s).cells.length=P.cellsOf t)(Yy:((cx F.n x).ev st.s).stays=true):
 ∃id,st.U id=none/\∃y w' Y',(execOp a.eval o).run P w=.ok (.value y) w'/\
  cK F Y' ⟨aN st.s (o.dst.filter (·<F.n)) (.ptr id 0 0),C' st.U id ⟨t,P.cellsOf t,[(cx F.n x).ev st.s]⟩⟩ (a.put o.dst y) w':=by
 have ZX:=(dt hk).2.2;obtain⟨g1,g2⟩:=(bE hs x).cells Yy;have hl:=(bE hs x).jS Yy;obtain⟨id,O',Y',h1,h2,h3,h4⟩:=hs.sat.renew (row:=none) (World.grownBy_alloc w (.cells (a.eval x).cells t) none) none (.inl rfl) w.heap.size (P.cellsOf t) 1 (a.eval x).cells t [(cx F.n x).ev st.s] (a.eval x).cells.toList (.inr (YY _))
  (heap_alloc_new w _) ZX (by omega) (by simp) (by simp[maxLen]) (by intro r hr;simp at hr;subst hr;exact hx)
  (by simp only[flat,AO,List.flatMap_nil,lO];exact g1) g2 (by intro j u hu;simpa using hu)
 refine⟨id,O',.pointer (some ⟨w.heap.size,0,none⟩),w.alloc (.cells (a.eval x).cells t),Y',?_,hs.step h3 h2 h4 (by simp) (by simp[E',h1];exact ZX)⟩;unfold execOp;rw[hoo];simp[Instr.box,newVar,newRow]
def bZ{all:Array Oper}{o:Oper}{i:az}(h:bG P n all o=i):Yn P n o.op=i.op/\o.dst.filter (·<n)=i.dst:=by rw[<-h];exact⟨rfl,rfl⟩
def ab.alloc{i:az}{l:List az}{e sz:Nat}{z:V}(hw:aP st.s i.g=some true)(ho:i.op=.alloc e sz z)
 (h:∀id,st.U id=none->ab P n (.ops l::k) ⟨aN st.s i.dst (.ptr id 0 0),C' st.U id ⟨e,sz,[z]⟩⟩ Q):ab P n (.ops (i::l)::k) st Q:=by
 refine ab.ins (by rw[ho];simp) hw λF hn I a w o all hi hs next Q' Yd=>?_
 subst hn;obtain⟨Yf,hd⟩:=bZ hi;rw[ho]at Yf;obtain⟨ti,zv,h1,h2,rfl,rfl⟩:=zf Yf;obtain⟨id,O',x,w',Y',hx,Yk⟩:=uC hs h1 h2;unfold Oper.wp;rw[hx];refine Yd _ _ _ ⟨Y',?_⟩ (h id O');rw[<-hd];exact Yk
def ab.box{i:az}{l:List az}{e sz:Nat}{xv:VX}(hw:aP st.s i.g=some true)(ho:i.op=.box e sz xv)
 (hx:(xv.ev st.s).cells.length=sz)(Yy:(xv.ev st.s).stays=true)
 (h:∀id,st.U id=none->ab P n (.ops l::k) ⟨aN st.s i.dst (.ptr id 0 0),C' st.U id ⟨e,sz,[xv.ev st.s]⟩⟩ Q):ab P n (.ops (i::l)::k) st Q:=by
 refine ab.ins (by rw[ho];simp) hw λF hn I a w o all hi hs next Q' Yd=>?_
 subst hn;obtain⟨Yf,hd⟩:=bZ hi;rw[ho]at Yf;obtain⟨x,h1,h2,rfl,rfl⟩:=Gi Yf;obtain⟨id,O',y,w',Y',hy,Yk⟩:=ze hs h1 h2 hx Yy;unfold Oper.wp;rw[hy];refine Yd _ _ _ ⟨Y',?_⟩ (h id O');rw[<-hd];exact Yk
def ab.store{i:az}{l:List az}{sz:Nat}{xa xv:VX}(hw:aP st.s i.g=some true)(ho:i.op=.store sz xa xv)
 {id r0 c:Nat}(h1:xa.ev st.s=.ptr id r0 c){ob:Ob}(h2:st.U id=some ob){r r':V}(h3:ob.rows[r0]?=some r)(h4:fC r c sz (xv.ev st.s)=some r')
 (h:ab P n (.ops l::k) ⟨aN st.s i.dst (.P' []),C' st.U id { ob with rows:=ob.rows.set r0 r' }⟩ Q):ab P n (.ops (i::l)::k) st Q:=by
 refine ab.ins (by rw[ho];simp) hw λF hn I a w o all hi hs next Q' Yd=>?_
 subst hn;obtain⟨Yf,hd⟩:=bZ hi;rw[ho]at Yf;obtain⟨t,x,y,g1,g2,rfl,rfl,rfl⟩:=yC Yf;obtain⟨w',hx,Yk⟩:=tP hs g1 g2 h1 h2 h3 h4;unfold Oper.wp;rw[hx];refine Yd _ _ _ ⟨I,?_⟩ h;rw[<-hd];exact Yk
def ab.mkS{i:az}{l:List az}{e sz bytes:Nat}{zv:V}{xn:VX}(hw:aP st.s i.g=some true)(ho:i.op=.mk e sz bytes zv xn){m:Int}(hm:xn.ev st.s=.int .i64 m)
 (h0:0<=m)(hb:m.toNat*(bytes+1)<=140737488355328)
 (h:∀id,st.U id=none->ab P n (.ops l::k) ⟨aN st.s i.dst (.own id 0 m.toNat),C' st.U id ⟨e,sz,List.replicate m.toNat zv⟩⟩ Q):ab P n (.ops (i::l)::k) st Q:=by
 refine ab.ins (by rw[ho];simp) hw λF hn I a w o all hi hs next Q' Yd=>?_
 subst hn;obtain⟨Yf,hd⟩:=bZ hi;rw[ho]at Yf;obtain⟨t,l',c,ti,z,h1,h2,h3,rfl,rfl,rfl,h5,rfl⟩:=Lr Yf;obtain⟨id,O',x,w',Y',YM,Yk⟩:=BU hs h1 h5 h2 h3 hm h0 hb;unfold Oper.wp;rw[YM];refine Yd _ _ _ ⟨Y',?_⟩ (h id O');rw[<-hd];exact Yk
def ab.Uy{i:az}{l:List az}{e sz bytes:Nat}{zv:V}{xa xn:VX}(hw:aP st.s i.g=some true)(ho:i.op=.appz e sz bytes zv xa xn)(hx:xa.ev st.s=.aC){kq:IntKind}{m:Int}(hm:xn.ev st.s=.int kq m)
 (h0:0<m)(hb:m.toNat*(bytes+1)<=140737488355328)
 (h:∀id,st.U id=none->ab P n (.ops l::k) ⟨aN st.s i.dst (.own id 0 m.toNat),C' st.U id ⟨e,sz,List.replicate m.toNat zv⟩⟩ Q):ab P n (.ops (i::l)::k) st Q:=by
 refine ab.ins (by rw[ho];simp) hw λF hn I a w o all hi hs next Q' Yd=>?_
 subst hn;obtain⟨Yf,hd⟩:=bZ hi;rw[ho]at Yf;obtain⟨t,tn,kn,x,y,args,argTypes,ti,z,h1,h2,h3,h4,h5,h6,rfl,rfl,rfl,rfl,rfl⟩:=Cf Yf;obtain⟨id,O',x,w',Y',YM,Yk⟩:=xF hs h1 h2 h3 h4 h5 h6 hx hm h0 hb;unfold Oper.wp;rw[YM];refine Yd _ _ _ ⟨Y',?_⟩ (h id O');rw[<-hd];exact Yk
def ab.eU{i:az}{l:List az}{e sz:Nat}{xs:List VX}(hw:aP st.s i.g=some true)(ho:i.op=.eU e sz xs)
 (hx:∀x∈xs.map (·.ev st.s),x.cells.length=sz/\x.stays=true)
 (h:∀id,st.U id=none->ab P n (.ops l::k) ⟨aN st.s i.dst (.own id 0 xs.length),C' st.U id ⟨e,sz,xs.map (·.ev st.s)⟩⟩ Q):ab P n (.ops (i::l)::k) st Q:=by
 refine ab.ins (by rw[ho];simp) hw λF hn I a w o all hi hs next Q' Yd=>?_
 subst hn;obtain⟨Yf,hd⟩:=bZ hi;rw[ho]at Yf;obtain⟨t,len,parts,ti,z,h1,h2,h3,rfl,h5,h6,rfl⟩:=wu Yf;rw[List.map_map]at hx;obtain⟨id,O',x,w',Y',YM,Yk⟩:=rA hs h1 h2 h3 h5 h6 hx;unfold Oper.wp;rw[YM];refine Yd _ _ _ ⟨Y',?_⟩ (h id O');have hl:parts.size=len:=by have:=congrArg List.length h5;simpa using this
 simp only[de,List.map_map,Array.length_toList,hl,<-hd];exact Yk
def ab.append{i:az}{l:List az}{e sz bytes:Nat}{xa xb:VX}(hw:aP st.s i.g=some true)(ho:i.op=.append e sz bytes xa xb)
 {base src:List V}{Yt:Option Nat}(h1:bP st.U e sz (xa.ev st.s)=some (base,Yt))(h2:bF st.U sz (xb.ev st.s)=some src)
 (hb:(base.length+src.length)*(bytes+1)<=140737488355328)
 (h:∀id,st.U id=none->ab P n (.ops l::k) ⟨aN st.s i.dst (.own id 0 (base.length+src.length)),C' (bt st.U Yt) id ⟨e,sz,base++src⟩⟩ Q):
 ab P n (.ops (i::l)::k) st Q:=by
 refine ab.ins (by rw[ho];simp) hw λF hn I a w o all hi hs next Q' Yd=>?_
 subst hn;obtain⟨Yf,hd⟩:=bZ hi;rw[ho]at Yf;obtain⟨t,t',x,y,args,argTypes,ti,z,g1,g2,g3,g3',g4,g5,rfl,rfl,rfl,rfl⟩:=vW Yf;obtain⟨id,O',r,w',Y',hx,Yk⟩:=rF hs g1 g2 g3 g3' g4 g5 h1 h2 hb;unfold Oper.wp;rw[hx];refine Yd _ _ _ ⟨Y',?_⟩ (h id O');rw[<-hd];exact Yk
def bV(P:Program)(f:FuncId):Bool:=match P.funcs[f]? with
 |some fn=>fn.name != "runtime.NumGoroutine"&&fn.body.isSome
 |none=>false
def j9{w:World}{f:FuncId}(h:bV P f=true)(args:Array Value):(callFunc f args).run P w=.ok (.enter f args) w:=by
 unfold bV at h;split at h
 .rename_i fn hf;simp only[Ba,bne_iff_ne,ne_eq]at h;cases hb:fn.body with
  |none=>simp[hb]at h
  |some c=>simp[callFunc,hf,h.1,hb]
 .cases h
def au(P:Program)(f:FuncId)(args:List V)(U:af)(Post:V->af->Prop):Prop:=bV P f=true/\tM P f args U Post
def au.mono{f:FuncId}{args:List V}{U:af}{Post Post':V->af->Prop}(h:au P f args U Post)(hp:∀r Z',Post r Z'->Post' r Z'):
 au P f args U Post':=⟨h.1,h.2.mono hp⟩
def al.app{I:Mu}{ow:Nat->Prop}{w:World}{vs us:List V}{l m:List Value}(h:al I ow w vs l)(h':al I ow w us m):al I ow w (vs++us) (l++m):=h.append h'
def mT{F:Fr}{I:Mu}{a:Act}{w:World}(hs:cK F I st a w){o:Oper}{f0:Operand}{args:Array Operand}{argTypes:Array TypeId}
 (hoo:o.op=.call { callee:=.value f0,args:=args,argTypes:=argTypes }){f:FuncId}{caps:List V}(hf:(cx F.n f0).ev st.s=.fn f caps)
 {Post:V->af->Prop}(hc:au P f ((args.toList.map (cx F.n)).map (·.ev st.s)++caps) st.U Post){next:Act->World->Prop}{Q':Exit->Act->World->Prop}
 (Yd:∀r Z',Post r Z'->∀a' w',ef F ⟨aN st.s (o.dst.filter (·<F.n)) r,Z'⟩ a' w'->next a' w'):o.wp P a w next Q':=by
 have hfr:=bE hs f0;rw[hf]at hfr;simp only[E']at hfr;obtain⟨cvals,hfv,hcr⟩:=hfr;have YN:=(mK hs args.toList).app hcr;have YD:(execOp a.eval o).run P w=.ok (.enter f ((args.toList.map a.eval++cvals).toArray)) w:=by
  unfold execOp;rw[hoo];simp only[resolve,hfv,Deferred.ofValue,Sem.run_bind,Sem.run_pure,Result.andThen_ok,invoke,j9 hc.1];congr 2;apply Array.ext';simp
 unfold Oper.wp;rw[YD];simp only[Oper.upon];have hsat:Sat w (aA I st.U) I st.U w:=by
  have h:=hs.sat;exact⟨YY _,rfl,rfl,rfl,λ_ _ _=>rfl,h.fin,h.inj,h.obj,λb hb _=>hb,h.oq⟩
 refine(hc.2 I w _ hsat YN).mono ?_;rintro e w' ⟨r,Z',Y',val,rfl,hp,hle,Yk,hr⟩;refine Yd r Z' hp _ _ ⟨Y',?_⟩;have ZS:cF (aA I st.U) (aA Y' Z') w w':=λb hb hn=>⟨λho=>hn (Yk.fresh b ho hb),Yk.same b hb hn⟩
 have h0:=hs.sat;have Zn:Sat F.w0 F.Zs Y' Z' w':=by
  refine⟨jE h0.size Yk.size,Yk.os.trans h0.os,Yk.tape.trans h0.tape,Yk.output.trans h0.output,?_,Yk.fin,Yk.inj,Yk.obj,?_,h0.glob⟩
  .intro b hb hn;have h1:¬aA I st.U b:=λho=>hn (h0.fresh b ho hb);rw[Yk.same b (Nat.lt_of_lt_of_le hb h0.size) h1,h0.same b hb hn]
  .intro b hb L';have h1:=Yk.fresh b hb (Nat.lt_of_lt_of_le L' h0.size);exact h0.fresh b h1 L'
 exact hs.step Zn hle ZS Yk.size hr
def ab.call{i:az}{l:List az}{fx:VX}{xs:List VX}(hw:aP st.s i.g=some true)(ho:i.op=.call fx xs){f:FuncId}{caps:List V}(hf:fx.ev st.s=.fn f caps)
 {Post:V->af->Prop}(hc:au P f (xs.map (·.ev st.s)++caps) st.U Post)
 (h:∀r Z',Post r Z'->ab P n (.ops l::k) ⟨aN st.s i.dst r,Z'⟩ Q):ab P n (.ops (i::l)::k) st Q:=by
 refine ab.ins (by rw[ho];simp) hw λF hn I a w o all hi hs next Q' Yd=>?_
 subst hn;obtain⟨Yf,hd⟩:=bZ hi;rw[ho]at Yf;obtain⟨f0,args,argTypes,g1,rfl,rfl⟩:=mC Yf;refine mT hs g1 hf hc λr Z' hp a' w' Yk=>Yd _ a' w' Yk ?_;rw[hd];exact h r Z' hp
def CU{F:Fr}{I:Mu}{a:Act}{w:World}(hs:cK F I st a w){o:Oper}{f0:Operand}{args:Array Operand}{argTypes:Array TypeId}
 (hoo:o.op=.call { callee:=.value f0,args:=args,argTypes:=argTypes }){f:FuncId}{first:List V}(hf:(cx F.n f0).ev st.s=.bm f first)
 {Post:V->af->Prop}(hc:au P f (first++(args.toList.map (cx F.n)).map (·.ev st.s)) st.U Post){next:Act->World->Prop}{Q':Exit->Act->World->Prop}
 (Yd:∀r Z',Post r Z'->∀a' w',ef F ⟨aN st.s (o.dst.filter (·<F.n)) r,Z'⟩ a' w'->next a' w'):o.wp P a w next Q':=by
 have hfr:=bE hs f0;rw[hf]at hfr;simp only[E']at hfr;obtain⟨cvals,hfv,hcr⟩:=hfr;have YN:=hcr.app (mK hs args.toList);have YD:(execOp a.eval o).run P w=.ok (.enter f ((cvals++args.toList.map a.eval).toArray)) w:=by
  unfold execOp;rw[hoo];simp only[resolve,hfv,Deferred.ofValue,Sem.run_bind,Sem.run_pure,Result.andThen_ok,invoke,j9 hc.1];congr 2;apply Array.ext';simp
 unfold Oper.wp;rw[YD];simp only[Oper.upon];have hsat:Sat w (aA I st.U) I st.U w:=by
  have h:=hs.sat;exact⟨YY _,rfl,rfl,rfl,λ_ _ _=>rfl,h.fin,h.inj,h.obj,λb hb _=>hb,h.oq⟩
 refine(hc.2 I w _ hsat YN).mono ?_;rintro e w' ⟨r,Z',Y',val,rfl,hp,hle,Yk,hr⟩;refine Yd r Z' hp _ _ ⟨Y',?_⟩;have ZS:cF (aA I st.U) (aA Y' Z') w w':=λb hb hn=>⟨λho=>hn (Yk.fresh b ho hb),Yk.same b hb hn⟩
 have h0:=hs.sat;have Zn:Sat F.w0 F.Zs Y' Z' w':=by
  refine⟨jE h0.size Yk.size,Yk.os.trans h0.os,Yk.tape.trans h0.tape,Yk.output.trans h0.output,?_,Yk.fin,Yk.inj,Yk.obj,?_,h0.glob⟩
  .intro b hb hn;have h1:¬aA I st.U b:=λho=>hn (h0.fresh b ho hb);rw[Yk.same b (Nat.lt_of_lt_of_le hb h0.size) h1,h0.same b hb hn]
  .intro b hb L';have h1:=Yk.fresh b hb (Nat.lt_of_lt_of_le L' h0.size);exact h0.fresh b h1 L'
 exact hs.step Zn hle ZS Yk.size hr
def ab.lz{i:az}{l:List az}{fx:VX}{xs:List VX}(hw:aP st.s i.g=some true)(ho:i.op=.call fx xs){f:FuncId}{first:List V}(hf:fx.ev st.s=.bm f first)
 {Post:V->af->Prop}(hc:au P f (first++xs.map (·.ev st.s)) st.U Post)
 (h:∀r Z',Post r Z'->ab P n (.ops l::k) ⟨aN st.s i.dst r,Z'⟩ Q):ab P n (.ops (i::l)::k) st Q:=by
 refine ab.ins (by rw[ho];simp) hw λF hn I a w o all hi hs next Q' Yd=>?_
 subst hn;obtain⟨Yf,hd⟩:=bZ hi;rw[ho]at Yf;obtain⟨f0,args,argTypes,g1,rfl,rfl⟩:=mC Yf;refine CU hs g1 hf hc λr Z' hp a' w' Yk=>Yd _ a' w' Yk ?_;rw[hd];exact h r Z' hp
inductive VR where
 |tmp (x:VX)
 |cell (agg:Bool) (sz:Nat) (x:VX)
 |bad
def Bx(P:Program)(n:Nat):ResultVar->VR
 |.tmp t=>.tmp (cx n (.tmp t))
 |.cell t ty=>if bK P ty then .cell (eM P ty) (P.cellsOf ty) (cx n (.tmp t))else .bad
def gj(st:St):VR->Option V
 |.tmp x=>some (x.ev st.s)
 |.cell agg sz x=>bB st.U agg sz (x.ev st.s)
 |.bad=>none
def ei(st:St):List VR->Option (List V)
 |[]=>some []
 |r::rs=>match gj st r with
   |some v=>match ei st rs with
    |some vs=>some (v::vs)
    |none=>none
   |none=>none
def nS(st:St)(l:List VR):Option V:=match ei st l with
 |some [v]=>some v
 |some vs=>some (.P' vs)
 |none=>none
def Ret(l:List VR)(st:St)(Post:V->af->Prop):Prop:=
 ∃v v' Z',nS st l=some v/\aa Z' st.U/\Wk st.U Z' v v'/\Post v' Z'
structure Yh where
 n:Nat
 code:bc
 res:List VR
def cfn(P:Program)(fn:Func):Option Yh:=match fn.body with
 |some c=>some ⟨fn.ntmps,cX P fn.ntmps c,fn.results.toList.map (Bx P fn.ntmps)⟩
 |none=>none
def zG(tmps:Array Value):ResultVar->Go.Sem Value
 |.tmp t=>pure (tmps.getD t undef)
 |.cell b t=>do loadVar t (<-asAddr (tmps.getD b undef))
def E0(fn:Func)(tmps:Array Value):results fn tmps=(do
 let vs <-Functor.map List.toArray (fn.results.toList.mapM (zG tmps))
 pure (if h:vs.size=1 then vs[0]else .tuple vs)):=by
 unfold results;rw[Array.mapM_eq_mapM_toList];congr 3
def Au{F:Fr}{I:Mu}{a:Act}{w:World}(hs:cK F I st a w)(r:ResultVar){v:V}(h:gj st (Bx P F.n r)=some v):
 ∃x,(zG a.tmps r).run P w=.ok x w/\E' I (aA I st.U) w v x:=by
 cases r with
 |tmp t=>
  simp only[Bx,gj,aB]at h;subst h;exact⟨_,rfl,bE hs (.tmp t)⟩
 |cell b t=>
  simp only[Bx]at h;split at h
  .rename_i hk;simp only[gj]at h;have hx:=bE hs (.tmp b);obtain⟨z,h1,h2⟩:=zg (P:=P) hs.sat hk hx h;refine⟨z,?_,h2⟩;have he:a.eval (.tmp b)=a.tmps.getD b undef:=rfl;rw[he]at h1;simp only[Instr.loadAt,Sem.run_bind]at h1;simp only[zG,Sem.run_bind];generalize a.tmps.getD b undef=u at*;cases u<;>simp[Instr.sureAddr]at h1;rename_i p;cases p<;>simp[asAddr]at h1|-;exact h1
  .simp[gj]at h
def x6{F:Fr}{I:Mu}{a:Act}{w:World}(hs:cK F I st a w)(fn:Func){v:V}(h:nS st (fn.results.toList.map (Bx P F.n))=some v):
 ∃x,(results fn a.tmps).run P w=.ok x w/\E' I (aA I st.U) w v x:=by
 have key:∀(l:List ResultVar) (vs:List V),ei st (l.map (Bx P F.n))=some vs->
  ∃xs,(l.mapM (zG a.tmps)).run P w=.ok xs w/\al I (aA I st.U) w vs xs:=by
  intro l
  induction l with
  |nil=>intro vs h;simp only[List.map_nil,ei,aB]at h;subst h;exact⟨[],rfl,by simp[al]⟩
  |cons r l ih=>
   intro vs h;simp only[dP,ei]at h;split at h
   .rename_i v hv;split at h
    .rename_i vs' hvs;simp only[aB]at h;subst h;obtain⟨x,h1,h2⟩:=Au (P:=P) hs r hv;obtain⟨xs,h3,h4⟩:=ih vs' hvs;refine⟨x::xs,?_,by simp only[al];exact⟨x,xs,rfl,h2,h4⟩⟩;rw[List.mapM_cons];simp only[Sem.run_bind];rw[h1];simp only[Result.andThen_ok];rw[h3];simp
    .cases h
   .cases h
 unfold nS at h;cases Ze:ei st (fn.results.toList.map (Bx P F.n))with
 |none=>simp[Ze]at h
 |some vs=>
  obtain⟨xs,h1,h2⟩:=key _ _ Ze;have YD:(results fn a.tmps).run P w=.ok (if hl:xs.toArray.size=1 then xs.toArray[0]else .tuple xs.toArray) w:=by
   rw[E0];simp only[Sem.run_bind,Sem.run_map];rw[h1];simp
  rw[Ze]at h
  match vs,h,h2 with
  |[],h,h2=>
   simp only[al]at h2;subst h2;simp only[aB]at h;subst h;exact⟨_,YD,by simp[E',al]⟩
  |[u],h,h2=>
   simp only[al]at h2;obtain⟨x,xs',rfl,h3,rfl⟩:=h2;simp only[aB]at h;subst h;exact⟨_,YD,by simpa using h3⟩
  |u1::u2::us,h,h2=>
   simp only[aB]at h;subst h;have hlen:=h2.length;refine⟨_,YD,?_⟩;rw[dif_neg (by simp[hlen])];simp only[E'];exact⟨xs,rfl,h2⟩
def fb(args:List V):Nat->V:=λi=>args.getD i (.P' [])
def cK.Sv{F:Fr}{I:Mu}{a:Act}{w:World}(hs:cK F I st a w){d:Deferred}{ds:List Deferred}(hd:a.defers=d::ds):
 ∃D w',d.target=.collected D/\(Instr.takeDeferred D).run P w=.ok [] w'/\cK F I st { a with defers:=ds } w':=by
 obtain⟨Ds,h1,h2,h3⟩:=hs.book.marks;rw[hd]at h1;cases Ds with
 |nil=>simp at h1
 |cons D Ds=>
  simp only[dP,List.cons.injEq]at h1;obtain⟨rfl,rfl⟩:=h1;obtain⟨g1,g2,g3⟩:=h3 D (by simp);simp only[List.nodup_cons]at h2;refine⟨D,w.putObj D (.deferred none),rfl,run_takeDeferred g2,?_⟩;have YF:∀b,b≠D->(w.putObj D (.deferred none)).heap[b]?=w.heap[b]?:=λb hb=>World.putObj_heap_other hb;have hk:sk (aA I st.U) (aA I st.U) w (w.putObj D (.deferred none)):=λb _ hn=>⟨hn,λoff x hx=>by
   by_cases hb:b=D
   .subst hb;simp[World.cell?,g2]at hx
   .exact ek (YF b hb) off x hx⟩
  have hz:w.heap.size<=(w.putObj D (.deferred none)).heap.size:=by simp
  refine⟨⟨by simpa using hs.sat.size,hs.sat.os,hs.sat.tape,hs.sat.output,λb hb hn=>(YF b (by omega)).trans (hs.sat.same b hb hn),hs.sat.fin,hs.sat.inj,λid o ho=>?_,hs.sat.fresh,hs.sat.glob⟩,
   hs.le,hs.size,⟨λl r e=>?_,Ds,rfl,h2.2,λD' hD'=>?_⟩,λi hi=>E'.bL (cD.refl I) hk hz _ _ (hs.slot i hi)⟩
  .refine(hs.sat.obj id o ho).bL (cD.refl I) hk hz λb sz cap hp=>YF b ?_;rintro rfl;exact g3 ⟨id,o,sz,cap,ho,hp⟩
  .obtain⟨q1,q2⟩:=hs.book.rnd l r e;refine⟨(YF l ?_).trans q1,q2⟩;rintro rfl;rw[g2]at q1;cases q1
  .obtain⟨q1,q2,q3⟩:=h3 D' (by simp[hD']);refine⟨q1,(YF D' ?_).trans q2,q3⟩;rintro rfl;exact h2.1 hD'
def y7{F:Fr}{I:Mu}{fn:Func}{R:Ending->World->Prop}:∀(ds:List Deferred) (a:Act) (w:World),a.defers=ds->cK F I st a w->
 (∀a' w',a'.tmps=a.tmps->cK F I st a' w'->∃v,(results fn a'.tmps).run P w'=.ok v w'/\R (.returned v) w')->LeavesInM F.dW 0 P fn a.tmps R ds .returning w
 |[],a,w,_,hs,h=>by
  obtain⟨v,h1,h2⟩:=h a w rfl hs;exact⟨v,h1,h2⟩
 |d::ds,a,w,hd,hs,h=>by
  obtain⟨D,w',h1,h2,h3⟩:=hs.Sv (P:=P) hd;exact⟨by simp,.inl ⟨D,w',h1,h2,y7 ds { a with defers:=ds } w' rfl h3 (λa' w' e Yk=>h a' w' e Yk)⟩⟩
def tM.jU{f:FuncId}{fn:Func}{vf:Yh}(hf:P.funcs[f]?=some fn)(hv:cfn P fn=some vf){args:List V}{U:af}{Post:V->af->Prop}(hlen:args.length<=vf.n)
 (h:ab P vf.n [.code vf.code] ⟨fb args,U⟩ λst=>Ret vf.res st Post):tM P f args U Post:=by
 intro I w Yl hsat hr;unfold cfn at hv;cases hb:fn.body with
 |none=>simp[hb]at hv
 |some c=>
  simp only[hb,aB]at hv;subst hv;simp only at h hlen;have hl:=hr.length;refine callsIn_wide.1 (callsIn_of_wp_marks (n:=0) hf hb trivial ?_ rfl);have hs:cK ⟨w,aA I U,I,fn.ntmps,none⟩ I ⟨fb args,U⟩ { tmps:=Yl.toArray++Array.replicate (fn.ntmps-Yl.toArray.size) undef,defers:=[] } w:=by
   refine⟨hsat,cD.refl I,by simp;omega,⟨λ_ _ e=>by simp at e,[],rfl,.nil,by simp⟩,λi hi=>?_⟩;simp only[fb];by_cases L':i<args.length
   .have hv:args[i]?=some (args.getD i (.P' [])):=by simp[List.getD,Zq6 L']
    obtain⟨x,hx,hrx⟩:=hr.get hv;rw[Zq7,Array.getElem?_append_left (by simp;omega)];simp only[List.getElem?_toArray,hx,Option.getD_some];exact hrx
   .have hv:args.getD i (.P' [])=.P' []:=by simp[List.getD,qY (Nat.le_of_not_lt L')]
    rw[hv,Zq7,Array.getElem?_append_right (by simp;omega)];simp only[E'];refine⟨[],?_,by simp[al]⟩;rw[Array.getElem?_replicate];split<;>rfl
  have hgo:=h ⟨w,aA I U,I,fn.ntmps,none⟩ rfl [.code c] rfl _ w ⟨I,hs⟩;refine wpIn_mono (F:=Fence.wide) hgo ?_;rintro e a' w' ⟨he,st,⟨v,v',Z',hres,G',hwk,hpost⟩,Y',Yk⟩;have Zn:LeavesInM Fence.wide 0 P fn a'.tmps (λe w'=>∃r Z' Y' val,e=Ending.returned val/\Post r Z'/\cD I Y'/\Sat w (aA I U) Y' Z' w'/\E' Y' (aA Y' Z') w' r val) a'.defers .returning w':=by
   refine y7 (F:=⟨w,aA I U,I,fn.ntmps,none⟩) a'.defers a' w' rfl Yk λa1 w1 _ ZV=>?_;obtain⟨x,hx,hrx⟩:=x6 (P:=P) ZV fn hres;exact⟨x,hx,v',Z',Y',x,rfl,hpost,ZV.le,ZV.sat.drop G',hwk Y' _ _ _ _ ZV.sat hrx⟩
  rcases he with rfl|rfl<;>exact Zn
def au.jU{f:FuncId}{fn:Func}{vf:Yh}(hf:P.funcs[f]?=some fn)(hv:cfn P fn=some vf)(Zj:bV P f=true){args:List V}{U:af}{Post:V->af->Prop}(hlen:args.length<=vf.n)
 (h:ab P vf.n [.code vf.code] ⟨fb args,U⟩ λst=>Ret vf.res st Post):au P f args U Post:=⟨Zj,.jU hf hv hlen h⟩
structure Fo(P:Program)(f:FuncId)(fn:Func)(vf:Yh):Prop where
 a:P.funcs[f]?=some fn
 b:cfn P fn=some vf:=by kernel_rfl
 c:bV P f=true:=by kernel_rfl
def Fo.r{P:Program}{f:FuncId}{fn:Func}{vf:Yh}(h:Fo P f fn vf){args:List V}{U:af}{Post:V->af->Prop}(hlen:args.length<=vf.n)
 (k:ab P vf.n [.code vf.code] ⟨fb args,U⟩ λst=>Ret vf.res st Post):au P f args U Post:=au.jU h.a h.b h.c hlen k
variable {P:Program} {n:Nat}
def gk(U:af)(sz:Nat)(xa xv:V):Option af:=
 match xa with
 |.ptr id i c=>match U id with
  |some ob=>match ob.rows[i]? with
   |some r=>match fC r c sz xv with
    |some r'=>some (C' U id ⟨ob.elem,ob.sz,ob.rows.set i r'⟩)
    |none=>none
   |none=>none
  |none=>none
 |_=>none
def eff(s:Nat->V)(U:af):Yw->Option (Nat->V×af)
 |.alloc e sz z=>some λid=>(.ptr id 0 0,C' U id ⟨e,sz,[z]⟩)
 |.box e sz x=>if(x.ev s).cells.length=sz/\(x.ev s).stays=true then some λid=>(.ptr id 0 0,C' U id ⟨e,sz,[x.ev s]⟩)else none
 |.eU e sz xs=>if(xs.map (·.ev s)).all (λx=>decide (x.cells.length=sz)&&x.stays)then some λid=>(.own id 0 xs.length,C' U id ⟨e,sz,xs.map (·.ev s)⟩)else none
 |.append e sz bytes xa xb=>match bP U e sz (xa.ev s),bF U sz (xb.ev s)with
  |some (base,Yt),some src=>if(base.length+src.length)*(bytes+1)<=140737488355328 then
     some λid=>(.own id 0 (base.length+src.length),C' (bt U Yt) id ⟨e,sz,base++src⟩)else none
  |_,_=>none
 |.mk e sz bytes z x=>match x.ev s with
  |.int .i64 m=>if 0<=m/\m.toNat*(bytes+1)<=140737488355328 then some λid=>(.own id 0 m.toNat,C' U id ⟨e,sz,List.replicate m.toNat z⟩)else none
  |_=>none
 |.appz e sz bytes z y x=>match y.ev s,x.ev s with
  |.aC,.int _ m=>if 0<m/\m.toNat*(bytes+1)<=140737488355328 then some λid=>(.own id 0 m.toNat,C' U id ⟨e,sz,List.replicate m.toNat z⟩)else none
  |_,_=>none
 |_=>none
def TO(P:Program)(dst:Option Nat)(op:Yw)(x:St)(K:St->Prop):Prop:=
 match aX op with
 |0=>eN x.s op/\∃v,aE x.U x.s op=some v/\K ⟨aN x.s dst v,x.U⟩
 |1=>match op with
  |.call fx xs=>∃f caps v,fx.ev x.s=.fn f caps/\(∀Z1,aa x.U Z1->au P f (xs.map (·.ev x.s)++caps) Z1 (λr Z'=>r=v/\Z'=Z1))/\K ⟨aN x.s dst v,x.U⟩
  |_=>False
 |2=>match op with
  |.store sz xa xv=>∃Z',gk x.U sz (xa.ev x.s) (xv.ev x.s)=some Z'/\K ⟨aN x.s dst (.P' []),Z'⟩
  |_=>False
 |3=>∃g,eff x.s x.U op=some g/\∀id,x.U id=none->K ⟨aN x.s dst (g id).1,(g id).2⟩
 |_=>False
def T(P:Program)(i:az)(x:St)(K:St->Prop):Prop:=
 match aP x.s i.g with
 |some true=>TO P i.dst i.op x K
 |some false=>K ⟨aN x.s i.dst (.P' []),x.U⟩
 |none=>False
def TO.mono{dst:Option Nat}{op:Yw}{x:St}{K K':St->Prop}(hk:∀x,K x->K' x)(h:TO P dst op x K):TO P dst op x K':=by
 unfold TO at*;split<;>rename_i ho<;>simp only[ho]at h
 .obtain⟨h1,v,h2,h3⟩:=h;exact⟨h1,v,h2,hk _ h3⟩
 .split at h
  .obtain⟨f,caps,v,h1,h2,h3⟩:=h;exact⟨f,caps,v,h1,h2,hk _ h3⟩
  .exact h.elim
 .split at h
  .obtain⟨Z',h1,h2⟩:=h;exact⟨Z',h1,hk _ h2⟩
  .exact h.elim
 .obtain⟨g,h1,h2⟩:=h;exact⟨g,h1,λid O'=>hk _ (h2 id O')⟩
def T.mono{i:az}{x:St}{K K':St->Prop}(hk:∀x,K x->K' x)(h:T P i x K):T P i x K':=by
 unfold T at*;split<;>rename_i ho<;>simp only[ho]at h
 .exact h.mono hk
 .exact hk _ h
def Inf(U:af):Prop:=∀N,∃id,N<=id/\U id=none
def Inf.C'{U:af}(h:Inf U)(id:Nat)(o:Ob):Inf (C' U id o):=λN=>by
 obtain⟨i,h1,h2⟩:=h (max N (id+1));exact⟨i,by omega,by simp[Vc.C',show i≠id by omega,h2]⟩
def Inf.bt{U:af}(h:Inf U)(o:Option Nat):Inf (bt U o):=λN=>by
 obtain⟨i,h1,h2⟩:=h N;refine⟨i,h1,?_⟩;cases o with
 |none=>exact h2
 |some j=>simp only[Vc.bt,del];split<;>simp_all
def ef.inf{F:Fr}{st:St}{a:Act}{w:World}(h:ef F st a w):Inf st.U:=by
 obtain⟨I,h⟩:=h;obtain⟨N,hN⟩:=h.sat.fin;intro M;refine⟨max N M,by omega,?_⟩;cases ho:st.U (max N M)with
 |none=>rfl
 |some o=>
  have:=h.sat.obj _ o ho;rw[hN _ (by omega)]at this;exact this.elim
def Mw{s:Nat->V}{U:af}(h:Inf U){op:Yw}{g:Nat->V×af}(he:eff s U op=some g)(id:Nat):Inf (g id).2:=by
 unfold eff at he;split at he
 .simp only[aB]at he;subst he;exact h.C' _ _
 .split at he
  .simp only[aB]at he;subst he;exact h.C' _ _
  .cases he
 .split at he
  .simp only[aB]at he;subst he;exact h.C' _ _
  .cases he
 .split at he
  .split at he
   .simp only[aB]at he;subst he;exact(h.bt _).C' _ _
   .cases he
  .cases he
 .split at he
  .split at he
   .simp only[aB]at he;subst he;exact h.C' _ _
   .cases he
  .cases he
 .split at he
  .split at he
   .simp only[aB]at he;subst he;exact h.C' _ _
   .cases he
  .cases he
 .cases he
def D1{U Z':af}(h:Inf U){sz:Nat}{a v:V}(he:gk U sz a v=some Z'):Inf Z':=by
 unfold gk at he;split at he
 .split at he
  .split at he
   .split at he
    .simp only[aB]at he;subst he;exact h.C' _ _
    .cases he
   .cases he
  .cases he
 .cases he
def TO.inf{dst:Option Nat}{op:Yw}{x:St}{K:St->Prop}(hi:Inf x.U)(h:TO P dst op x K):TO P dst op x λx'=>Inf x'.U/\K x':=by
 unfold TO at*;split<;>rename_i ho<;>simp only[ho]at h
 .obtain⟨h1,v,h2,h3⟩:=h;exact⟨h1,v,h2,hi,h3⟩
 .split at h
  .obtain⟨f,caps,v,h1,h2,h3⟩:=h;exact⟨f,caps,v,h1,h2,hi,h3⟩
  .exact h.elim
 .split at h
  .obtain⟨Z',h1,h2⟩:=h;exact⟨Z',h1,D1 hi h1,h2⟩
  .exact h.elim
 .obtain⟨g,h1,h2⟩:=h;exact⟨g,h1,λid O'=>⟨Mw hi h1 id,h2 id O'⟩⟩
def T.inf{i:az}{x:St}{K:St->Prop}(hi:Inf x.U)(h:T P i x K):T P i x λx'=>Inf x'.U/\K x':=by
 unfold T at*;split<;>rename_i ho<;>simp only[ho]at h
 .exact h.inf hi
 .exact⟨hi,h⟩
def KQ{s:Nat->V}{d:Option Nat}{v:V}{x:VX}(h:∀t,d=some t->x.M1≠some t):x.ev (aN s d v)=x.ev s:=by
 cases d with
 |none=>rfl
 |some t=>
  cases x with
  |c _=>rfl
  |t u=>
   simp only[VX.ev,aN];have:=h t rfl;simp only[VX.M1,ne_eq,aB]at this;rw[av this]
def sV{s s':Nat->V}{l:List VX}(h:∀x∈l,x.ev s=x.ev s'):l.map (·.ev s)=l.map (·.ev s'):=List.map_congr_left h
def rR{s s':Nat->V}{l:Option VX}(h:∀x∈l.toList,x.ev s=x.ev s'):l.map (·.ev s)=l.map (·.ev s'):=by
 cases l with
 |none=>rfl
 |some x=>simp[h x (by simp)]
def tZ{s s':Nat->V}{U:af}{op:Yw}(h:∀x∈op.xs,x.ev s=x.ev s'):aE U s op=aE U s' op/\(eN s op↔eN s' op):=by
 cases op<;>simp only[Yw.xs,cm,List.not_mem_nil,or_false,forall_eq_or_imp,forall_eq,db]at h<;>
  simp only[aE,eN,h,and_true,and_self]
 case slice ZZ x lo hi mx=>
  rw[rR (l:=lo) (λy hy=>h.2 y (.inl (.inl hy))),rR (l:=hi) (λy hy=>h.2 y (.inl (.inr hy))),rR (l:=mx) (λy hy=>h.2 y (.inr hy))]
 case sliceS x lo hi=>
  rw[rR (l:=lo) (λy hy=>h.2 y (.inl hy)),rR (l:=hi) (λy hy=>h.2 y (.inr hy))]
 case mkfn f xs=>rw[sV h]
 case more m xs=>
  by_cases hb:∃f,m=.mkB f
  .obtain⟨f,rfl⟩:=hb;have e:=sV h;cases xs with
   |nil=>rfl
   |cons x xs=>cases xs<;>exact congrArg (λl=>some (V.bm f l)) e
  cases xs with
  |nil=>cases m<;>rfl
  |cons x xs=>
   have hx:=h x (by simp);cases xs with
   |nil=>cases m<;>first|rfl|exact absurd ⟨_,rfl⟩ hb|simp only[hx]
   |cons y ys=>cases m<;>first|rfl|exact absurd ⟨_,rfl⟩ hb
 case build z ps=>
  have:(ps.map λp=>(p.1,p.2.1,p.2.2.ev s))=ps.map λp=>(p.1,p.2.1,p.2.2.ev s'):=List.map_congr_left λp hp=>by
   rw[h _ (gl.2 ⟨p,hp,rfl⟩)]
  rw[this]
def fo{s s':Nat->V}{U:af}{op:Yw}(h:∀x∈op.xs,x.ev s=x.ev s'):eff s U op=eff s' U op:=by
 cases op<;>simp only[Yw.xs,cm,List.not_mem_nil,or_false,forall_eq_or_imp,forall_eq,db]at h<;>
  simp only[eff,h]
 case eU e sz xs=>rw[sV h]
def CB{s:Nat->V}{U Z':af}{op:Yw}(h:lD op=true):aE U s op=aE Z' s op:=by
 cases op
 case more m xs=>
  cases xs with
  |nil=>cases m<;>rfl
  |cons x xs=>cases xs<;>cases m<;>rfl
 all_goals first|rfl|simp[lD]at h
variable {P:Program} {n:Nat}
def apart_spec{A B:az}(h:D7 A B=true):(∀d,A.dst=some d->d∉B.mF)/\(∀d,B.dst=some d->d∉A.mF)/\(∀d,A.dst=some d->B.dst≠some d):=by
 simp only[D7,Ba]at h;obtain⟨h1,h2⟩:=h;refine⟨λd hd=>?_,λd hd=>?_,λd hd=>?_⟩
 .rw[hd]at h1;simp at h1;exact h1.1
 .rw[hd]at h2;simpa using h2
 .rw[hd]at h1;simp at h1;exact h1.2
def HC{s:Nat->V}{a b:Option Nat}{u v:V}(h:∀d,a=some d->b≠some d):aN (aN s a u) b v=aN (aN s b v) a u:=by
 cases a with
 |none=>rfl
 |some x=>
  cases b with
  |none=>rfl
  |some y=>
   have YF:y≠x:=λe=>h x rfl (by rw[e]);funext i;simp only[aN];by_cases h1:i=y<;>by_cases h2:i=x<;>simp_all
def Ge{i:az}{x:VX}(hx:x∈i.op.xs){t:Nat}(ht:x.M1=some t):t∈i.mF:=
 List.mem_filterMap.2 ⟨x,List.mem_append_left _ hx,ht⟩
def gM{i:az}{d:Option Nat}{v:V}(h:∀t,d=some t->t∉i.mF)(s:Nat->V):∀x∈i.op.xs,x.ev (aN s d v)=x.ev s:=
 λ_ hx=>KQ λt ht e=>h t ht (Ge hx e)
def bU{i:az}{d:Option Nat}{v:V}(h:∀t,d=some t->t∉i.mF)(s:Nat->V):aP (aN s d v) i.g=aP s i.g:=by
 cases hg:i.g with
 |none=>rfl
 |some g=>
  obtain⟨x,b⟩:=g;have:x.ev (aN s d v)=x.ev s:=KQ λt ht e=>h t ht (List.mem_filterMap.2 ⟨x,List.mem_append_right _ (by simp[hg]),e⟩);simp only[aP,this]
def QO(P:Program)(op:Yw)(s:Nat->V)(U:af)(v:V):Prop:=
 match aX op with
 |0=>eN s op/\aE U s op=some v
 |1=>match op with
  |.call fx xs=>∃f caps,fx.ev s=.fn f caps/\∀Z1,aa U Z1->au P f (xs.map (·.ev s)++caps) Z1 (λr Z'=>r=v/\Z'=Z1)
  |_=>False
 |_=>False
def QY(P:Program)(i:az)(s:Nat->V)(U:af)(v:V):Prop:=
 (aP s i.g=some true/\QO P i.op s U v)\/(aP s i.g=some false/\v=.P' [])
def bY{i:az}(hq:fq i=true){x:St}{K:St->Prop}:T P i x K↔∃v,QY P i x.s x.U v/\K ⟨aN x.s i.dst v,x.U⟩:=by
 simp only[fq,Zq9]at hq;unfold T QY;cases hw:aP x.s i.g with
 |none=>simp
 |some b=>
  cases b
  .simp
  .simp only[true_and,aB,Bool.true_eq_false,false_and,or_false];unfold TO QO;have:aX i.op=0\/aX i.op=1:=by omega
   rcases this with h0|h0<;>simp only[h0]
   .constructor
    .rintro⟨h1,v,h2,h3⟩;exact⟨v,⟨h1,h2⟩,h3⟩
    .rintro⟨v,⟨h1,h2⟩,h3⟩;exact⟨h1,v,h2,h3⟩
   .cases Yf:i.op<;>simp[aX,Yf]at h0|-;constructor
    .rintro⟨f,caps,h1,v,h2,h3⟩;exact⟨v,⟨f,caps,h1,h2⟩,h3⟩
    .rintro⟨v,⟨f,caps,h1,h2⟩,h3⟩;exact⟨f,caps,h1,v,h2,h3⟩
def xz{op:Yw}{s s':Nat->V}{U:af}{v:V}(h:∀x∈op.xs,x.ev s=x.ev s')(hq:QO P op s U v):QO P op s' U v:=by
 unfold QO at*;by_cases h0:aX op=0
 .obtain⟨h1,h2⟩:=tZ (U:=U) h;simp only[h0]at hq|-;exact⟨h2.1 hq.1,h1▸hq.2⟩
 .by_cases h1:aX op=1
  .simp only[h1]at hq|-;cases op<;>simp only[]at hq<;>first|exact hq.elim|skip
   rename_i fx xs;obtain⟨f,caps,g1,g2⟩:=hq;refine⟨f,caps,?_,?_⟩
   .rw[<-h fx (by simp[Yw.xs])];exact g1
   .rw[<-sV (s:=s) (s':=s') λx hx=>h x (by simp[Yw.xs,hx])];exact g2
  .exfalso;revert hq;split<;>simp_all
def fF{i:az}{s:Nat->V}{U:af}{v u:V}{d:Option Nat}(h:∀t,d=some t->t∉i.mF):QY P i (aN s d u) U v↔QY P i s U v:=by
 unfold QY;rw[bU h];constructor
 .rintro(⟨h1,h2⟩|h1)
  .exact .inl ⟨h1,xz (gM h s) h2⟩
  .exact .inr h1
 .rintro(⟨h1,h2⟩|h1)
  .exact .inl ⟨h1,xz (λx hx=>(gM h s x hx).symm) h2⟩
  .exact .inr h1
def mY{op:Yw}(h:lD op=true):aX op=0:=by
 cases op
 case more m xs=>cases m<;>simp[lD,aX]at h|-
 all_goals simp[lD,aX]at h|-
def ku{i:az}(hf:lD i.op=true){s:Nat->V}{U Z':af}{v:V}(h:QY P i s U v):QY P i s Z' v:=by
 rcases h with⟨h1,h2⟩|h1
 .refine .inl ⟨h1,?_⟩;unfold QO at*;simp only[mY hf]at*;exact⟨h2.1,by rw[<-CB (U:=U) hf];exact h2.2⟩
 .exact .inr h1
def QW{i:az}(hf:lD i.op=true){s:Nat->V}{U:af}{v v':V}(h:QY P i s U v)(h':QY P i s U v'):v=v':=by
 rcases h with⟨h1,h2⟩|⟨h1,h2⟩<;>rcases h' with⟨g1,g2⟩|⟨g1,g2⟩
 .unfold QO at*;simp only[mY hf]at*;have:=h2.2.symm.trans g2.2;simpa using this
 .rw[h1]at g1;cases g1
 .rw[h1]at g1;cases g1
 .rw[h2,g2]
def gB{i:az}(he:uS i=true){x:St}{K:St->Prop}:T P i x K↔
 (aP x.s i.g=some false/\K ⟨aN x.s i.dst (.P' []),x.U⟩)\/
 (aP x.s i.g=some true/\((∃sz xa xv Z',i.op=.store sz xa xv/\gk x.U sz (xa.ev x.s) (xv.ev x.s)=some Z'/\K ⟨aN x.s i.dst (.P' []),Z'⟩)\/
   (aX i.op=3/\∃g,eff x.s x.U i.op=some g/\∀id,x.U id=none->K ⟨aN x.s i.dst (g id).1,(g id).2⟩))):=by
 unfold T;cases hw:aP x.s i.g with
 |none=>simp
 |some b=>
  cases b
  .simp
  .simp only[aB,Bool.true_eq_false,false_and,false_or,true_and];unfold TO;simp only[uS,kU,beq_iff_eq]at he;rcases he with h0|h0<;>simp only[h0]
   .cases Yf:i.op<;>simp[aX,Yf]at h0|-;constructor
    .rintro⟨Z',h1,h2⟩;exact⟨_,_,_,⟨rfl,rfl,rfl⟩,Z',h1,h2⟩
    .rintro⟨_,_,_,⟨rfl,rfl,rfl⟩,Z',h1,h2⟩;exact⟨Z',h1,h2⟩
   .have:∀sz xa xv,i.op≠.store sz xa xv:=λ_ _ _ e=>by rw[e]at h0;simp[aX]at h0
    simp[this]
def lM(s:Nat->V):Yw->Option Nat
 |.load _ _ x=>match x.ev s with
   |.ptr id _ _=>some id
   |_=>none
 |.idxA _ x _=>match x.ev s with
   |.own id _ _=>some id
   |_=>none
 |.slice _ x _ _ _=>match x.ev s with
   |.own id _ _=>some id
   |_=>none
 |.bstr x=>match x.ev s with
   |.own id _ _=>some id
   |_=>none
 |_=>none
def EL{s:Nat->V}{U Z':af}{op:Yw}(h:∀j,lM s op=some j->U j=Z' j):aE U s op=aE Z' s op:=by
 cases op<;>try rfl
 case more m xs=>
  cases xs with
  |nil=>cases m<;>rfl
  |cons x xs=>cases xs<;>cases m<;>rfl
 case load agg sz x=>
  simp only[lM]at h;simp only[aE,bB];split
  .rename_i id i k hx;simp only[hx,aB,forall_eq']at h;rw[h]
  .rfl
  .rfl
 case idxA ZZ x i=>
  simp only[lM]at h;simp only[aE];generalize x.ev s=xv at*;generalize i.ev s=iv at*;cases xv<;>try (cases iv<;>rfl)
  case own id off len=>
   simp only[aB,forall_eq']at h;cases iv<;>try rfl
   simp only[bo,h]
 case bstr x=>
  simp only[lM]at h;simp only[aE];generalize x.ev s=xv at*;cases xv<;>try rfl
  case own id off len=>
   simp only[aB,forall_eq']at h;simp only[kR,h]
 case slice ZZ x lo hi mx=>
  simp only[lM]at h;simp only[aE,eo];split
  .rename_i id off len hx;simp only[hx,aB,forall_eq']at h;have:xY U id ZZ=xY Z' id ZZ:=by simp only[xY,h]
   simp only[this]
  .rfl
  .rfl
  .rfl
def Fm{s:Nat->V}{U:af}{op:Yw}{v:V}(hv:aE U s op=some v){j:Nat}(hj:lM s op=some j):U j≠none:=by
 intro hn;cases op<;>simp only[lM,reduceCtorEq]at hj
 case load agg sz x=>
  split at hj
  .rename_i id i k hx;simp only[aB]at hj;subst hj;simp[aE,bB,hx,hn]at hv
  .cases hj
 case idxA ZZ x i=>
  split at hj
  .rename_i id off len hx;simp only[aB]at hj;subst hj;simp only[aE]at hv;rw[hx]at hv;generalize i.ev s=iv at hv;cases iv<;>simp[bo,hn]at hv
  .cases hj
 case bstr x=>
  split at hj
  .rename_i id off len hx;simp only[aB]at hj;subst hj;simp[aE,kR,hx,hn]at hv
  .cases hj
 case slice ZZ x lo hi mx=>
  split at hj
  .rename_i id off len hx;simp only[aB]at hj;subst hj;simp only[aE,eo,hx,xY,hn]at hv;split at hv
   .simp at hv
   .cases hv
  .cases hj
def u9{i:az}(h:mkI i=true):aX i.op=3/\∀s U g,eff s U i.op=some g->∀id j,j≠id->(g id).2 j=U j:=by
 unfold mkI at h;split at h
 .rename_i Yf;refine⟨by rw[Yf];rfl,λs U g hg id j hj=>?_⟩;rw[Yf]at hg;simp only[eff,aB]at hg;subst hg;simp[Vc.C',hj]
 .rename_i Yf;refine⟨by rw[Yf];rfl,λs U g hg id j hj=>?_⟩;rw[Yf]at hg;simp only[eff]at hg;split at hg
  .simp only[aB]at hg;subst hg;simp[Vc.C',hj]
  .cases hg
 .rename_i Yf;refine⟨by rw[Yf];rfl,λs U g hg id j hj=>?_⟩;rw[Yf]at hg;simp only[eff]at hg;split at hg
  .simp only[aB]at hg;subst hg;simp[Vc.C',hj]
  .cases hg
 .rename_i Yf;refine⟨by rw[Yf];rfl,λs U g hg id j hj=>?_⟩;rw[Yf]at hg;simp only[eff]at hg;split at hg
  .split at hg
   .simp only[aB]at hg;subst hg;simp[Vc.C',hj]
   .cases hg
  .cases hg
 .cases h
def Df{i:az}(h:Ic i=true):aX i.op=3/\∀s U g,eff s U i.op=some g->∀id j,j≠id->(g id).2 j=U j\/(g id).2 j=none:=by
 by_cases hm:mkI i=true
 .exact⟨(u9 hm).1,λs U g hg id j hj=>.inl ((u9 hm).2 s U g hg id j hj)⟩
 .unfold Ic at h;unfold mkI at hm;cases Yf:i.op<;>rw[Yf]at h hm<;>simp at h hm;refine⟨rfl,λs U g hg id j hj=>?_⟩;simp only[eff]at hg;split at hg
  .split at hg
   .simp only[aB]at hg;subst hg;rename_i Yt _ _ _ _ _;simp only[Vc.C',av hj];rename_i base Yt src _ _ _;cases Yt with
    |none=>exact .inl rfl
    |some a=>
     simp only[bt,del];split
     .exact .inr rfl
     .exact .inl rfl
   .cases hg
  .cases hg
def AY{i:az}(hp:kB i=true){s:Nat->V}{U Z':af}(h:∀j,lM s i.op=some j->U j=Z' j){v:V}(hq:QY P i s U v):QY P i s Z' v:=by
 simp only[kB,beq_iff_eq]at hp;rcases hq with⟨h1,h2⟩|h1
 .refine .inl ⟨h1,?_⟩;unfold QO at*;simp only[hp]at*;exact⟨h2.1,by rw[<-EL h];exact h2.2⟩
 .exact .inr h1
def Ag{i:az}(hp:kB i=true){s:Nat->V}{U:af}{v v':V}(h:QY P i s U v)(h':QY P i s U v'):v=v':=by
 simp only[kB,beq_iff_eq]at hp;rcases h with⟨h1,h2⟩|⟨h1,h2⟩<;>rcases h' with⟨g1,g2⟩|⟨g1,g2⟩
 .unfold QO at*;simp only[hp]at*;have:=h2.2.symm.trans g2.2;simpa using this
 .rw[h1]at g1;cases g1
 .rw[h1]at g1;cases g1
 .rw[h2,g2]
def vv{i:az}(hp:kB i=true){s:Nat->V}{U:af}{v:V}(h:QY P i s U v)(hw:aP s i.g=some true){j:Nat}(hj:lM s i.op=some j):U j≠none:=by
 simp only[kB,beq_iff_eq]at hp;rcases h with⟨_,h2⟩|⟨h1,_⟩
 .unfold QO at h2;simp only[hp]at h2;exact Fm h2.2 hj
 .rw[hw]at h1;cases h1
def Ae{i:az}{s:Nat->V}{U Z':af}{v:V}(h:QY P i s U v)(hw:aP s i.g≠some true):QY P i s Z' v:=by
 rcases h with⟨h1,_⟩|h1
 .exact absurd h1 hw
 .exact .inr h1
def K5{i:az}(hp:kB i=true){s:Nat->V}{U Z':af}{id:Nat}(O':U id=none)(YK:∀j,j≠id->Z' j=U j){v:V}(h:QY P i s U v):QY P i s Z' v:=by
 by_cases hw:aP s i.g=some true
 .refine AY hp (λj hj=>?_) h;have:=vv hp h hw hj;rw[YK j (λe=>this (e▸O'))]
 .exact Ae h hw
def HP{i:az}(hq:fq i=true){s:Nat->V}{U Z':af}{id:Nat}(O':U id=none)(YK:∀j,j≠id->Z' j=U j){v:V}(h:QY P i s U v):QY P i s Z' v:=by
 by_cases hp:kB i=true
 .exact K5 hp O' YK h
 .have G':aa U Z':=λj o hj=>by rw[YK j (λe=>by rw[e,O']at hj;cases hj)];exact hj
  rcases h with⟨h1,h2⟩|h1
  .refine .inl ⟨h1,?_⟩;have hk:aX i.op=1:=by
    simp only[fq,Zq9]at hq;simp only[kB,beq_iff_eq]at hp;omega
   unfold QO at*;simp only[hk]at*;split at h2
   .obtain⟨f,caps,g1,g2⟩:=h2;exact⟨f,caps,g1,λZ1 hs=>g2 Z1 (G'.trans hs)⟩
   .exact h2.elim
  .exact .inr h1
def Dw{i:az}(h:mkI i=true){s:Nat->V}{U:af}{g:Nat->V×af}(hg:eff s U i.op=some g):
 ∃(vf:Nat->V) (ob:Ob),(∀id,g id=(vf id,Vc.C' U id ob))/\∀Z',eff s Z' i.op=some λid=>(vf id,Vc.C' Z' id ob):=by
 unfold mkI at h;split at h
 .rename_i Yf;rw[Yf]at hg|-;simp only[eff,aB]at hg;subst hg;exact⟨_,_,λ_=>rfl,λ_=>rfl⟩
 .rename_i Yf;rw[Yf]at hg|-;simp only[eff]at hg|-;split at hg
  .rename_i hc;simp only[aB]at hg;subst hg;exact⟨_,_,λ_=>rfl,λZ'=>by rw[ar hc]⟩
  .cases hg
 .rename_i Yf;rw[Yf]at hg|-;simp only[eff]at hg|-;split at hg
  .rename_i hc;simp only[aB]at hg;subst hg;exact⟨_,_,λ_=>rfl,λZ'=>by rw[ar hc]⟩
  .cases hg
 .rename_i Yf;rw[Yf]at hg|-;simp only[eff]at hg|-;split at hg
  .rename_i hx;split at hg
   .rename_i hc;simp only[aB]at hg;subst hg;exact⟨_,_,λ_=>rfl,λZ'=>by rw[ar hc]⟩
   .cases hg
  .cases hg
 .cases h
def pG{op:Yw}(hk:aX op=3){sz:Nat}{xa xv:VX}(Yf:op=.store sz xa xv):False:=by rw[Yf]at hk;simp[aX]at hk
def zD{U:af}{a b:Nat}{oa ob:Ob}(h:a≠b):Vc.C' (Vc.C' U a oa) b ob=Vc.C' (Vc.C' U b ob) a oa:=by
 funext i;unfold Vc.C';by_cases h1:i=a<;>by_cases h2:i=b<;>simp_all
def Kr{i:az}(h:Ic i=true){s:Nat->V}{U:af}{g:Nat->V×af}(hg:eff s U i.op=some g):
 ∃(vf:Nat->V) (ob:Ob) (d:Option Nat),(∀id,g id=(vf id,Vc.C' (bt U d) id ob))/\(∀a,d=some a->U a≠none)/\
  ∀j o,U j=none->eff s (Vc.C' U j o) i.op=some λid=>(vf id,Vc.C' (bt (Vc.C' U j o) d) id ob):=by
 by_cases hm:mkI i=true
 .obtain⟨vf,ob,h1,h2⟩:=Dw hm hg;exact⟨vf,ob,none,h1,by simp,λj o _=>h2 _⟩
 .unfold Ic at h;unfold mkI at hm;cases Yf:i.op<;>rw[Yf]at h hm hg<;>simp at h hm;rename_i e sz bytes xa xb;simp only[eff]at hg|-;split at hg
  .rename_i base Yt src e1 e2;split at hg
   .rename_i hc;simp only[aB]at hg;subst hg;have hlive:∀a,Yt=some a->U a≠none:=λa ha=>by
     subst ha;unfold bP at e1;split at e1
     .split at e1
      .rename_i ob Zb;split at e1
       .simp only[aB,Prod.mk.injEq]at e1;rw[<-e1.2,Zb];simp
       .cases e1
      .cases e1
     .simp at e1
     .cases e1
    refine⟨_,_,Yt,λ_=>rfl,hlive,λj o hj=>?_⟩;have YF:∀id ob,U id=some ob->Vc.C' U j o id=some ob:=λid ob h=>by
     have:id≠j:=λe=>by rw[e,hj]at h;cases h
     simp[Vc.C',this,h]
    have d1:bP (Vc.C' U j o) e sz (xa.ev s)=some (base,Yt):=by
     rw[<-e1];unfold bP at e1|-;split at e1
     .rename_i id _ _ _;split at e1
      .rename_i ob Zb;simp only[Zb,YF _ _ Zb]
      .cases e1
     .rfl
     .cases e1
    have d2:bF (Vc.C' U j o) sz (xb.ev s)=some src:=by
     rw[<-e2];unfold bF at e2|-;split at e2
     .split at e2
      .rename_i ob Zb;simp only[Zb,YF _ _ Zb]
      .cases e2
     all_goals first|rfl|cases e2
    simp only[d1,d2];rw[ar hc]
   .cases hg
  .cases hg
def EU{A B:az}(hp:iF A B=true){x:St}(hi:Inf x.U){K:St->Prop}(h:T P A x λx'=>T P B x' K):T P B x λx'=>T P A x' K:=by
 simp only[iF,Ba,kU]at hp;obtain⟨hap,hk⟩:=hp;obtain⟨h1,h2,h3⟩:=apart_spec hap;have hcomm:∀(s:Nat->V) u v,aN (aN s A.dst u) B.dst v=aN (aN s B.dst v) A.dst u:=λs u v=>HC h3;rcases hk with((((⟨qa,qb⟩|⟨ea,sb⟩)|⟨sa,eb⟩)|⟨pa,mb⟩)|⟨ma,pb⟩)|⟨ma,mb⟩
 .rw[bY qa]at h;obtain⟨u,hu,h⟩:=h;rw[bY qb]at h;obtain⟨v,hv,h⟩:=h;rw[bY qb];refine⟨v,(fF h1).1 hv,?_⟩;rw[bY qa];refine⟨u,(fF h2).2 hu,?_⟩;simp only at h|-;rw[<-hcomm];exact h
 .have qb:fq B=true:=by simp[fq,mY sb]
  rw[gB ea]at h;rcases h with⟨hw,h⟩|⟨hw,⟨sz,xa,xv,Z',Yf,hs,h⟩|⟨hk3,g,hg,h⟩⟩
  .rw[bY qb]at h;obtain⟨v,hv,h⟩:=h;rw[bY qb];refine⟨v,(fF h1).1 hv,?_⟩;rw[gB ea];refine .inl ⟨by rw[bU h2];exact hw,?_⟩;simp only at h|-;rw[<-hcomm];exact h
  .rw[bY qb]at h;obtain⟨v,hv,h⟩:=h;rw[bY qb];refine⟨v,ku sb ((fF h1).1 hv),?_⟩;rw[gB ea];refine .inr ⟨by rw[bU h2];exact hw,.inl ⟨sz,xa,xv,Z',Yf,?_,?_⟩⟩
   .simp only;rw[gM h2 x.s xa (by simp[Yf,Yw.xs]),gM h2 x.s xv (by simp[Yf,Yw.xs])];exact hs
   .simp only at h|-;rw[<-hcomm];exact h
  .obtain⟨id0,_,hid0⟩:=hi 0;have h0:=h id0 hid0;rw[bY qb]at h0;obtain⟨v,hv,_⟩:=h0;have hvx:QY P B x.s x.U v:=ku sb ((fF h1).1 hv);rw[bY qb];refine⟨v,hvx,?_⟩;rw[gB ea];refine .inr ⟨by rw[bU h2];exact hw,.inr ⟨hk3,g,?_,λid O'=>?_⟩⟩
   .rw[<-hg];exact fo (gM h2 x.s)
   .have h4:=h id O';rw[bY qb]at h4;obtain⟨v',hv',h4⟩:=h4;have hvx':QY P B x.s x.U v':=ku sb ((fF h1).1 hv');have:=QW sb hvx hvx';subst this;simp only at h4|-;rw[<-hcomm];exact h4
 .have qa:fq A=true:=by simp[fq,mY sa]
  rw[bY qa]at h;obtain⟨u,hu,h⟩:=h;rw[gB eb]at h;rw[gB eb];rcases h with⟨hw,h⟩|⟨hw,⟨sz,xa,xv,Z',Yf,hs,h⟩|⟨hk3,g,hg,h⟩⟩
  .refine .inl ⟨by rw[<-bU h1];exact hw,?_⟩;rw[bY qa];refine⟨u,(fF h2).2 hu,?_⟩;simp only at h|-;rw[<-hcomm];exact h
  .refine .inr ⟨by rw[<-bU h1];exact hw,.inl ⟨sz,xa,xv,Z',Yf,?_,?_⟩⟩
   .simp only at hs;rw[gM h1 x.s xa (by simp[Yf,Yw.xs]),gM h1 x.s xv (by simp[Yf,Yw.xs])]at hs;exact hs
   .rw[bY qa];refine⟨u,(fF h2).2 (ku sa hu),?_⟩;simp only at h|-;rw[<-hcomm];exact h
  .refine .inr ⟨by rw[<-bU h1];exact hw,.inr ⟨hk3,g,?_,λid O'=>?_⟩⟩
   .rw[<-hg];exact(fo (gM h1 x.s)).symm
   .rw[bY qa];refine⟨u,(fF h2).2 (ku sa hu),?_⟩;have h4:=h id O';simp only at h4|-;rw[<-hcomm];exact h4
 .have qa:fq A=true:=pa;obtain⟨hk3,hfr⟩:=u9 mb;have eb:uS B=true:=by simp[uS,hk3]
  rw[bY qa]at h;obtain⟨u,hu,h⟩:=h;rw[gB eb]at h;rw[gB eb];rcases h with⟨hw,h⟩|⟨hw,⟨sz,xa,xv,Z',Yf,hs,h⟩|⟨_,g,hg,h⟩⟩
  .refine .inl ⟨by rw[<-bU h1];exact hw,?_⟩;rw[bY qa];refine⟨u,(fF h2).2 hu,?_⟩;simp only at h|-;rw[<-hcomm];exact h
  .rw[Yf]at hk3;simp[aX]at hk3
  .refine .inr ⟨by rw[<-bU h1];exact hw,.inr ⟨hk3,g,?_,λid O'=>?_⟩⟩
   .rw[<-hg];exact(fo (gM h1 x.s)).symm
   .rw[bY qa];refine⟨u,(fF h2).2 (HP qa O' (λj hj=>hfr _ _ g hg id j hj) hu),?_⟩;have h4:=h id O';simp only at h4|-;rw[<-hcomm];exact h4
 .have qb:fq B=true:=by simp only[kB,beq_iff_eq]at pb;simp[fq,pb]
  obtain⟨hk3,hfr⟩:=Df ma;have ea:uS A=true:=by simp[uS,hk3]
  rw[gB ea]at h;rcases h with⟨hw,h⟩|⟨hw,⟨sz,xa,xv,Z',Yf,hs,h⟩|⟨_,g,hg,h⟩⟩
  .rw[bY qb]at h;obtain⟨v,hv,h⟩:=h;rw[bY qb];refine⟨v,(fF h1).1 hv,?_⟩;rw[gB ea];refine .inl ⟨by rw[bU h2];exact hw,?_⟩;simp only at h|-;rw[<-hcomm];exact h
  .rw[Yf]at hk3;simp[aX]at hk3
  ·
   obtain⟨id0,hge,hid0⟩:=hi ((lM x.s B.op).getD 0+1);have h0:=h id0 hid0;rw[bY qb]at h0;obtain⟨v,hv,_⟩:=h0;have hv1:=(fF h1).1 hv;have hvx:QY P B x.s x.U v:=by
    by_cases hwB:aP x.s B.g=some true
    .refine AY pb (λj hj=>?_) hv1;have hn:=vv pb hv1 hwB hj;refine(hfr _ _ g hg id0 j (λe=>?_)).resolve_right hn;rw[hj]at hge;simp at hge;omega
    .exact Ae hv1 hwB
   rw[bY qb];refine⟨v,hvx,?_⟩;rw[gB ea];refine .inr ⟨by rw[bU h2];exact hw,.inr ⟨hk3,g,?_,λid O'=>?_⟩⟩
   .rw[<-hg];exact fo (gM h2 x.s)
   .have h4:=h id O';rw[bY qb]at h4;obtain⟨v',hv',h4⟩:=h4;have hv2:=(fF h1).1 hv';have hv3:QY P B x.s x.U v':=by
     by_cases hwB:aP x.s B.g=some true
     .refine AY pb (λj hj=>?_) hv2;have hn:=vv pb hv2 hwB hj;have hs:=vv pb hvx hwB hj;exact(hfr _ _ g hg id j (λe=>hs (e▸O'))).resolve_right hn
     .exact Ae hv2 hwB
    have:=Ag pb hv3 hvx;subst this;simp only at h4|-;rw[<-hcomm];exact h4
 .have ka:=(Df ma).1;have kb:=(u9 mb).1;have ea:uS A=true:=by simp[uS,ka]
  have eb:uS B=true:=by simp[uS,kb]
  rw[gB ea]at h;rw[gB eb];rcases h with⟨hw,h⟩|⟨hw,⟨sz,xa,xv,Z',Yf,_⟩|⟨_,g,hg,h⟩⟩
  .rw[gB eb]at h;rcases h with⟨hw2,h⟩|⟨hw2,⟨sz,xa,xv,Z',Yf,_⟩|⟨_,g2,hg2,h⟩⟩
   .refine .inl ⟨by rw[<-bU h1];exact hw2,?_⟩;rw[gB ea];refine .inl ⟨by rw[bU h2];exact hw,?_⟩;simp only at h|-;rw[<-hcomm];exact h
   .exact(pG kb Yf).elim
   .refine .inr ⟨by rw[<-bU h1];exact hw2,.inr ⟨kb,g2,by rw[<-hg2];exact(fo (gM h1 x.s)).symm,λid O'=>?_⟩⟩;rw[gB ea];refine .inl ⟨by rw[bU h2];exact hw,?_⟩;have h4:=h id O';simp only at h4|-;rw[<-hcomm];exact h4
  .exact(pG ka Yf).elim
  .obtain⟨vA,oA,dA,hA,hdA,hA'⟩:=Kr ma hg;obtain⟨id0,_,hid0⟩:=hi 0;have h0:=h id0 hid0;rw[gB eb]at h0;rcases h0 with⟨hw2,_⟩|⟨hw2,⟨sz,xa,xv,Z',Yf,_⟩|⟨_,g2,hg2,_⟩⟩
   .refine .inl ⟨by rw[<-bU h1];exact hw2,?_⟩;rw[gB ea];refine .inr ⟨by rw[bU h2];exact hw,.inr ⟨ka,g,by rw[<-hg];exact fo (gM h2 x.s),λid O'=>?_⟩⟩;have h4:=h id O';rw[gB eb]at h4;rcases h4 with⟨_,h4⟩|⟨hw3,_⟩
    .simp only at h4|-;rw[<-hcomm];exact h4
    .exfalso;have e1:=bU (v:=(g id).1) h1 (s:=x.s);have e2:=bU (v:=(g id0).1) h1 (s:=x.s);simp only at hw2 hw3;rw[e1]at hw3;rw[e2]at hw2;rw[hw3]at hw2;cases hw2
   .exact(pG kb Yf).elim
   .have hg2x:eff x.s (g id0).2 B.op=some g2:=by rw[<-hg2];exact(fo (gM h1 x.s)).symm
    obtain⟨vB,oB,hB,hB'⟩:=Dw mb hg2x;refine .inr ⟨by rw[<-bU h1];exact hw2,.inr ⟨kb,_,hB' x.U,λidB hidB=>?_⟩⟩;rw[gB ea];refine .inr ⟨by rw[bU h2];exact hw,.inr ⟨ka,λid=>(vA id,Vc.C' (bt (Vc.C' x.U idB oB) dA) id oA),?_,λYt hidA=>?_⟩⟩
    .rw[<-hA' idB oB hidB];exact fo (gM h2 x.s)
    .have YF:Yt≠idB:=λe=>by subst e;simp[Vc.C']at hidA
     have hidA':x.U Yt=none:=by simpa[Vc.C',YF]using hidA
     have h4:=h Yt hidA';rw[gB eb]at h4;rw[hA Yt]at h4;rcases h4 with⟨hw3,_⟩|⟨_,⟨sz,xa,xv,Z',Yf,_⟩|⟨_,g3,hg3,h4⟩⟩
     .exfalso;have e1:=bU (v:=vA Yt) h1 (s:=x.s);have e2:=bU (v:=(g id0).1) h1 (s:=x.s);simp only at hw2 hw3;rw[e1]at hw3;rw[e2]at hw2;rw[hw3]at hw2;cases hw2
     .exact(pG kb Yf).elim
     .have e3:eff x.s (Vc.C' (bt x.U dA) Yt oA) B.op=some g3:=by rw[<-hg3];exact(fo (gM h1 x.s)).symm
      rw[hB' (Vc.C' (bt x.U dA) Yt oA)]at e3;simp only[aB]at e3;subst e3;have ZI:∀i,x.U i=none->bt x.U dA i=none:=λi hi=>by
       cases dA with
       |none=>exact hi
       |some a=>simp only[bt,del];split<;>first|rfl|exact hi
      have h5:=h4 idB (by simp[Vc.C',YF.symm,ZI _ hidB]);have hsw:bt (Vc.C' x.U idB oB) dA=Vc.C' (bt x.U dA) idB oB:=by
       cases dA with
       |none=>rfl
       |some a=>
        funext i;have hab:a≠idB:=λe=>hdA a rfl (by rw[e];exact hidB);simp only[bt,del,Vc.C'];by_cases e1:i=a
        .have hib:i≠idB:=λe=>hab (e1▸e);simp[e1,hab]
        .by_cases e2:i=idB<;>simp[e1,e2,Ne.symm hab]
      simp only at h5|-;rw[<-hcomm,hsw,<-zD YF];exact h5
variable {P:Program} {n:Nat}
def T.exists{i:az}{x:St}{K:St->Prop}(hi:Inf x.U)(h:T P i x K):∃x',K x':=by
 unfold T at h;split at h
 .unfold TO at h;split at h
  .obtain⟨_,v,_,h⟩:=h;exact⟨_,h⟩
  .split at h
   .obtain⟨_,_,v,_,_,h⟩:=h;exact⟨_,h⟩
   .exact h.elim
  .split at h
   .obtain⟨_,_,h⟩:=h;exact⟨_,h⟩
   .exact h.elim
  .obtain⟨g,_,h⟩:=h;obtain⟨id,_,O'⟩:=hi 0;exact⟨_,h id O'⟩
  .exact h.elim
 .exact⟨_,h⟩
 .exact h.elim
def vq{F:Fr}(hn:F.n=n){o:Oper}{all:Array Oper}{x:St}{K:St->Prop}{a:Act}{w:World}(h:T P (bG P n all o) x K)(hs:ef F x a w)
 {next:Act->World->Prop}{Q':Exit->Act->World->Prop}(Yd:∀x' a' w',ef F x' a' w'->K x'->next a' w'):
 if Region.wanted o (yielded all a.tmps)then Yn P n o.op≠.bad/\o.wp P a w next Q' else next (a.put o.dst undef) w:=by
 subst hn;obtain⟨I,hs⟩:=hs;unfold T at h;cases hw:aP x.s (bG P F.n all o).g with
 |none=>simp only[hw]at h
 |some b=>
  have hwant:=pF (P:=P) hs all o hw;rw[hwant];simp only[hw]at h;cases b
  .simp only[eT,if_false]at h|-;exact Yd _ _ _ ⟨I,hs.pure (d:=o.dst) (by simp only[E'];exact⟨[],rfl,by simp[al]⟩)⟩ h
  .simp only[if_true]at h|-;refine⟨λe=>?_,?_⟩
   .have hopc:(bG P F.n all o).op=Yn P F.n o.op:=rfl;rw[hopc,e]at h;simp[TO,aX]at h
   have hdst:(bG P F.n all o).dst=o.dst.filter (·<F.n):=rfl;have hopc:(bG P F.n all o).op=Yn P F.n o.op:=rfl;rw[hdst,hopc]at h;unfold TO at h;split at h
   .obtain⟨h1,v,h2,h3⟩:=h;obtain⟨z,hz,hr⟩:=uD hs o h1 h2;unfold Oper.wp;rw[hz];exact Yd _ _ _ ⟨I,hs.pure hr⟩ h3
   .split at h
    .rename_i fx xs Yf;obtain⟨f,caps,v,h1,h2,h3⟩:=h;obtain⟨f0,args,argTypes,g1,rfl,rfl⟩:=mC Yf;refine mT hs g1 h1 (h2 _ (aa.refl _)) λr Z' hp a' w' Yk=>?_;obtain⟨rfl,rfl⟩:=hp;exact Yd _ a' w' Yk h3
    .exact h.elim
   .split at h
    .rename_i sz xa xv Yf;obtain⟨Z',h1,h2⟩:=h;obtain⟨t,y,z,g1,g2,rfl,rfl,rfl⟩:=yC Yf;unfold gk at h1;split at h1
     .rename_i id r0 c e1;split at h1
      .rename_i ob e2;split at h1
       .rename_i r e3;split at h1
        .rename_i r' e4;simp only[aB]at h1;subst h1;obtain⟨w',hx,Yk⟩:=tP hs g1 g2 e1 e2 e3 e4;unfold Oper.wp;rw[hx];exact Yd _ _ _ ⟨I,Yk⟩ h2
        .cases h1
       .cases h1
      .cases h1
     .cases h1
    .exact h.elim
   .obtain⟨g,hg,h⟩:=h;cases Yf:Yn P F.n o.op<;>rw[Yf]at hg
    case box e sz xv=>
     simp only[eff]at hg;split at hg
     .rename_i hc;simp only[aB]at hg;subst hg;obtain⟨y,g1,g2,rfl,rfl⟩:=Gi Yf;obtain⟨id,O',z,w',Y',hz,Yk⟩:=ze hs g1 g2 hc.1 hc.2;unfold Oper.wp;rw[hz];exact Yd _ _ _ ⟨Y',Yk⟩ (h id O')
     .cases hg
    case alloc e sz z=>
     simp only[eff,aB]at hg;subst hg;obtain⟨ti,zv,g1,g2,rfl,rfl⟩:=zf Yf;obtain⟨id,O',y,w',Y',hy,Yk⟩:=uC hs g1 g2;unfold Oper.wp;rw[hy];exact Yd _ _ _ ⟨Y',Yk⟩ (h id O')
    case eU e sz xs=>
     simp only[eff]at hg;split at hg
     .rename_i hc;simp only[aB]at hg;subst hg;obtain⟨t,len,parts,ti,z,h1,h2,h3,rfl,h5,h6,rfl⟩:=wu Yf;have hx:∀y∈parts.toList.map (λp=>(cx F.n p.2).ev x.s),y.cells.length=ti.size/\y.stays=true:=by
       intro y hy;have:=ed.1 hc y (by rw[List.map_map];exact hy);simpa using this
      obtain⟨id,O',y,w',Y',hy,Yk⟩:=rA hs h1 h2 h3 h5 h6 hx;unfold Oper.wp;rw[hy];have hl:parts.size=len:=by have:=congrArg List.length h5;simpa using this
      refine Yd _ _ _ ⟨Y',Yk⟩ ?_;have:=h id O';simpa only[de,List.map_map,Array.length_toList,hl,Function.comp_def]using this
     .cases hg
    case mk e sz bytes zv y=>
     simp only[eff]at hg;split at hg
     .rename_i m hm;split at hg
      .rename_i hc;simp only[aB]at hg;subst hg;obtain⟨t,l',c,ti,z,g1,g2,g3,rfl,rfl,rfl,g5,rfl⟩:=Lr Yf;obtain⟨id,O',x',w',Y',YM,Yk⟩:=BU hs g1 g5 g2 g3 hm hc.1 hc.2;unfold Oper.wp;rw[YM];exact Yd _ _ _ ⟨Y',Yk⟩ (h id O')
      .cases hg
     .cases hg
    case appz e sz bytes zv ya y=>
     simp only[eff]at hg;split at hg
     .rename_i kq m hy hm;split at hg
      .rename_i hc;simp only[aB]at hg;subst hg;obtain⟨t,tn,kn,x1,y1,args,argTypes,ti,z,g1,g2,g3,g4,g5,g6,rfl,rfl,rfl,rfl,rfl⟩:=Cf Yf;obtain⟨id,O',x',w',Y',YM,Yk⟩:=xF hs g1 g2 g3 g4 g5 g6 hy hm hc.1 hc.2;unfold Oper.wp;rw[YM];exact Yd _ _ _ ⟨Y',Yk⟩ (h id O')
      .cases hg
     .cases hg
    case append e sz bytes xa xb=>
     simp only[eff]at hg;split at hg
     .rename_i base Yt src e1 e2;split at hg
      .rename_i hb;simp only[aB]at hg;subst hg;obtain⟨t,t',y,z,args,argTypes,ti,zv,g1,g2,g3,g3',g4,g5,rfl,rfl,rfl,rfl⟩:=vW Yf;obtain⟨id,O',r,w',Y',hx,Yk⟩:=rF hs g1 g2 g3 g3' g4 g5 e1 e2 hb;unfold Oper.wp;rw[hx];exact Yd _ _ _ ⟨Y',Yk⟩ (h id O')
      .cases hg
     .cases hg
    all_goals simp[eff]at hg
   .exact h.elim
def Tn(P:Program)(n:Nat)(ops:Array Oper)(i:Nat)(x:St)(K:St->Prop):Prop:=match ops[i]? with
 |some o=>T P (bG P n ops o) x K
 |none=>K x
def se(P:Program)(n:Nat)(ops:Array Oper)(Q:St->Prop):Nat->Array Bool->St->Prop
 |0,A',x=>Region.ready .any ops A'=[]/\Q x
 |f+1,A',x=>(Region.ready .any ops A'=[]->Q x)/\∀i∈Region.ready .any ops A',Tn P n ops i x (se P n ops Q f (A'.setIfInBounds i true))
def qd{F:Fr}(hn:F.n=n){ops:Array Oper}{Q:St->Prop}{Q':Exit->Act->World->Prop}(hQ:∀x a w,ef F x a w->Q x->Q' .normal a w):
 ∀(f:Nat) (A':Array Bool) (x:St) (a:Act) (w:World),ef F x a w->se P n ops Q f A' x->wpAnyIn F.dW 0 P .any ops Q' f A' a w
 |0,_,_,_,_,hs,h=>⟨h.1,hQ _ _ _ hs h.2⟩
 |f+1,A',x,a,w,hs,h=>by
  refine⟨λh0=>hQ _ _ _ hs (h.1 h0),λi hi=>?_⟩;have h1:=h.2 i hi;unfold Tn at h1;unfold wpOpIn;cases ho:ops[i]? with
  |none=>
   simp only[ho]at h1;exact qd hn hQ f _ x a w hs h1
  |some o=>
   simp only[ho]at h1;have h2:=vq (Q':=Q') hn h1 hs λx' a' w' Yk hk=>qd hn hQ f _ x' a' w' Yk hk;by_cases hw:Region.wanted o (yielded ops a.tmps)=true
   .rw[ar hw]at h2;simp only[hw,if_true];exact Hf (kg h2.1) h2.2
   .rw[av hw]at h2;simp only[hw];exact⟨λ_ _=>trivial,h2⟩
def iK(ops:Array Oper)(A':Array Bool):Prop:=∀m om,ops[m]?=some om->A'.getD m true=true->∀e∈om.after,Region.binds .any e=true->A'.getD e.on false=true
def iK.list{ops:Array Oper}{A':Array Bool}(h:iK ops A'){i:Nat}(hi:i∈Region.ready .any ops A'):iK ops (A'.setIfInBounds i true):=by
 intro m om hm hl e he hb;by_cases hmi:m=i
 .subst hmi;obtain⟨_,o,ho,Ze⟩:=mem_ready.1 hi;rw[hm]at ho;cases ho;exact getD_set_true (Ze e he hb)
 .rw[getD_set_ne true (Ne.symm hmi)]at hl;exact getD_set_true (h m om hm hl e he hb)
def E8{f:Edge->Nat}(l:List Edge):∀(s:Nat) (i:Nat),(l.foldl (λs e=>if Region.binds .any e then s ||| 2^e.on ||| f e else s) s).testBit i=true->
 s.testBit i=true\/∃e∈l,Region.binds .any e=true/\(i=e.on\/(f e).testBit i=true):=by
 induction l with
 |nil=>intro s i h;exact .inl h
 |cons e l ih=>
  intro s i h;simp only[j4]at h;rcases ih _ i h with h1|⟨e',h2,h3,h4⟩
  .by_cases hb:Region.binds .any e=true
   .rw[ar hb]at h1;simp only[Nat.testBit_or,kU,Nat.testBit_two_pow]at h1;rcases h1 with(h1|h1)|h1
    .exact .inl h1
    .exact .inr ⟨e,by simp,hb,.inl (by simpa using(of_decide_eq_true h1).symm)⟩
    .exact .inr ⟨e,by simp,hb,.inr h1⟩
   .rw[av hb]at h1;exact .inl h1
  .exact .inr ⟨e',by simp[h2],h3,h4⟩
def lk{ops:Array Oper}{A':Array Bool}(hc:iK ops A'):∀(j:Nat) (oj:Oper) (i:Nat),ops[j]?=some oj->((Region.before ops).getD j 0).testBit i=true->
 (∀e∈oj.after,Region.binds .any e=true->A'.getD e.on false=true)->A'.getD i false=true:=by
 have key:∀(l:List Oper) (acc:Array Nat) (k:Nat),acc.size=k->(∀j,l[j]?=ops[k+j]?)->
  (∀j oj i,j<k->ops[j]?=some oj->(acc.getD j 0).testBit i=true->(∀e∈oj.after,Region.binds .any e=true->A'.getD e.on false=true)->A'.getD i false=true)->
  ∀j oj i,ops[j]?=some oj->((l.foldl (λacc o=>acc.push (o.after.foldl (λs e=>if Region.binds .any e then s ||| 2^e.on ||| acc.getD e.on 0 else s) 0)) acc).getD j 0).testBit i=true->
   (∀e∈oj.after,Region.binds .any e=true->A'.getD e.on false=true)->A'.getD i false=true:=by
  intro l
  induction l with
  |nil=>
   intro acc k hk hl h j oj i hj hb hd;have L':j<k:=by
    rcases Nat.lt_or_ge j k with h1|h1
    .exact h1
    .have:=hl (j-k);rw[show k+(j-k)=j by omega,hj]at this;simp at this
   exact h j oj i L' hj hb hd
  |cons o l ih=>
   intro acc k hk hl h;have M':ops[k]?=some o:=by simpa using(hl 0).symm
   refine ih _ (k+1) (by simp[hk]) (λj=>by have:=hl (j+1);simpa[Nat.add_assoc,Eu 1 j]using this) ?_;intro j oj i hj hoj hb hd;by_cases hjk:j=k
   .subst hjk;rw[hoj]at M';cases M';rw[Zq7,<-hk,Array.getElem?_push_size]at hb;simp only[Option.getD_some]at hb;rw[<-Array.foldl_toList]at hb;rcases E8 (f:=λe=>acc.getD e.on 0) o.after.toList 0 i hb with h1|⟨e,he,hbd,h1|h1⟩
    .simp at h1
    .rw[h1];exact hd e (by simpa using he) hbd
    .have hel:=hd e (by simpa using he) hbd;by_cases hek:e.on<acc.size
     .have hex:e.on<ops.size:=by
       have:=(nP.1 hoj).1;omega
      have hoe:ops[e.on]?=some ops[e.on]:=Array.getElem?_eq_getElem hex;refine h e.on _ i (by omega) hoe h1 (hc e.on _ hoe ?_);have hsz:e.on<A'.size:=by
       rcases Nat.lt_or_ge e.on A'.size with h2|h2
       .exact h2
       .simp[Array.getElem?_eq_none h2]at hel
      simp only[Zq7,Array.getElem?_eq_getElem hsz,Option.getD_some]at hel|-;exact hel
     .rw[Zq7,Array.getElem?_eq_none (by omega)]at h1;simp at h1
   .have hjlt:j<k:=by omega
    rw[Zq7,Array.getElem?_push_lt (by omega)]at hb;refine h j oj i hjlt hoj ?_ hd;rw[Zq7,Array.getElem?_eq_getElem (by omega)];exact hb
 intro j oj i hj hb hd;unfold Region.before at hb;rw[<-Array.foldl_toList]at hb;exact key ops.toList #[] 0 rfl (by simp) (λj oj i h=>by omega) j oj i hj hb hd
def AA{ops:Array Oper}{Q:St->Prop}{i:Nat}{oi:Oper}(hi:ops[i]?=some oi):∀(f:Nat) (A':Array Bool) (x:St),Inf x.U->iK ops A'->
 (∀j oj,ops[j]?=some oj->j≠i->A'.getD j true=false->((Region.before ops).getD j 0).testBit i=false->iF (bG P n ops oi) (bG P n ops oj)=true)->
 i∈Region.ready .any ops A'->T P (bG P n ops oi) x (se P n ops Q f (A'.setIfInBounds i true))->se P n ops Q (f+1) A' x:=by
 intro f
 induction f with
 |zero=>
  intro A' x hinf _ _ hr H;refine⟨λh=>(by rw[h]at hr;cases hr),λj hj=>?_⟩;by_cases hji:j=i
  .subst hji;unfold Tn;simp only[hi];exact H
  .have:=ready_mono hj hji;obtain⟨x',YM⟩:=H.exists hinf;rw[YM.1]at this;cases this
 |succ f ih=>
  intro A' x hinf Zj hfree hr H;refine⟨λh=>(by rw[h]at hr;cases hr),λj hj=>?_⟩;by_cases hji:j=i
  .subst hji;unfold Tn;simp only[hi];exact H
  .obtain⟨hjun,oj,hoj,Ze⟩:=mem_ready.1 hj;have hnot:((Region.before ops).getD j 0).testBit i=false:=by
    cases hb:((Region.before ops).getD j 0).testBit i with
    |false=>rfl
    |true=>
     exfalso;have h1:=lk Zj j oj i hoj hb Ze;have h0:=(mem_ready.1 hr).1;rcases Nat.lt_or_ge i A'.size with h'|h'
     .simp[h']at h0 h1;rw[h0]at h1;cases h1
     .simp[Array.getElem?_eq_none h']at h1
   have H2:T P (bG P n ops oi) x λx'=>T P (bG P n ops oj) x' (se P n ops Q f ((A'.setIfInBounds i true).setIfInBounds j true)):=by
    refine H.mono λx' YM=>?_;have:=YM.2 j (ready_mono hj hji);unfold Tn at this;simpa only[hoj]using this
   have h2:=EU (hfree j oj hoj hji hjun hnot) hinf H2;have hfree':∀k ok,ops[k]?=some ok->k≠i->(A'.setIfInBounds j true).getD k true=false->
    ((Region.before ops).getD k 0).testBit i=false->iF (bG P n ops oi) (bG P n ops ok)=true:=λk ok hk hki hun YE=>by
    refine hfree k ok hk hki ?_ YE;by_cases hjk:j=k
    .subst hjk;exact hjun
    .rw[getD_set_ne true hjk]at hun;exact hun
   unfold Tn;simp only[hoj];refine(h2.inf hinf).mono λx' YM=>ih (A'.setIfInBounds j true) x' YM.1 (Zj.list hj) hfree' (ready_mono hr (Ne.symm hji)) ?_;rw[Array.setIfInBounds_comm _ _ hji];exact YM.2
def mW{ops:Array Oper}{k:Nat}{ok:Oper}{A':Array Bool}(hk:ops[k]?=some ok)(h:Gq P n ops k A'=true)(j:Nat)(oj:Oper)(hj:ops[j]?=some oj)(YF:j≠k)
 (hun:A'.getD j true=false)(YE:((Region.before ops).getD j 0).testBit k=false):iF (bG P n ops ok) (bG P n ops oj)=true:=by
 unfold Gq at h;simp only[hk]at h;have hjlt:j<ops.size:=(nP.1 hj).1;have:=ed.1 h j (List.mem_range.2 hjlt);simp only[hj,hun,YE,Bool.or_false,Bool.false_or,kU,beq_iff_eq,YF,false_or]at this;exact this
def gK(P:Program)(Q:St->Prop):List az->St->Prop
 |[],x=>Q x
 |i::l,x=>T P i x (gK P Q l)
def xe{ops:Array Oper}{Q:St->Prop}:∀(l:List Oper) (k:Nat) (A':Array Bool) (x:St),Inf x.U->iK ops A'->(∀j,l[j]?=ops[k+j]?)->
 xZ P n ops l.length k A'=true->gK P Q (l.map (bG P n ops)) x->se P n ops Q l.length A' x
 |[],_,_,_,_,_,_,hB,h=>⟨by simpa[xZ]using hB,h⟩
 |o::l,k,A',x,hinf,Zj,hl,hB,h=>by
  have h0:ops[k]?=some o:=by simpa using(hl 0).symm
  simp only[ZR,xZ,Ba]at hB;obtain⟨⟨hr,hf⟩,hB'⟩:=hB;refine AA h0 l.length A' x hinf Zj (mW h0 hf) (by simpa using hr) ?_;refine(T.inf hinf h).mono λx' YM=>?_;exact xe l (k+1) _ x' YM.1 (Zj.list (by simpa using hr)) (λj=>by have:=hl (j+1);simpa[Nat.add_assoc,Eu 1 j]using this) hB' YM.2
def Af{F:Fr}(hn:F.n=n){ops:Array Oper}(M':qo P n ops=true){id:Nat}{x:St}{a:Act}{w:World}(hs:ef F x a w){Q:St->Prop}{Q':Exit->Act->World->Prop}
 (hQ:∀x a w,ef F x a w->Q x->Q' .normal a w)(h:gK P Q (ops.toList.map (bG P n ops)) x):(Code.region id ops true).wpIn F.dW 0 P Q' a w:=by
 simp only[qo,Ba]at M';have Yk:ef F x a { w with drawn:=w.drawn+1 }:=by
  obtain⟨I,hs⟩:=hs;have hk:cF (aA I x.U) (aA I x.U) w { w with drawn:=w.drawn+1 }:=λ_ _ h=>⟨h,rfl⟩
  refine⟨I,⟨⟨hs.sat.size,hs.sat.os,hs.sat.tape,hs.sat.output,hs.sat.same,hs.sat.fin,hs.sat.inj,λid o ho=>?_,hs.sat.fresh,hs.sat.glob⟩,hs.le,hs.size,hs.book.gP hk,λi hi=>?_⟩⟩
  .exact(hs.sat.obj id o ho).mono (cD.refl I) hk (YY _) (λ_ _ _ _=>rfl)
  .exact E'.mono (cD.refl I) hk (YY _) _ _ (hs.slot i hi)
 refine wpIn_region_any M'.1 (qd hn hQ _ _ _ _ _ Yk ?_);have:=xe (P:=P) (n:=n) (Q:=Q) ops.toList 0 (Array.replicate ops.size false) x hs.inf (λm om hm hl=>by
  have L':m<ops.size:=(nP.1 hm).1;rw[Zq7,Array.getElem?_replicate,ar L']at hl;simp at hl) (by simp) (by simpa using M'.2.2) h
 simpa using this
def sP(P:Program)(n:Nat)(ops:Array Oper)(m:Nat)(Q:St->Prop):Nat->Array Bool->St->Prop
 |0,A',x=>(Region.ready .any ops A'=[m]/\Region.ready .any ops (A'.setIfInBounds m true)=[])/\Q x
 |f+1,A',x=>Region.ready .any ops A'≠[]/\∀i∈Region.ready .any ops A',i≠m/\Tn P n ops i x (sP P n ops m Q f (A'.setIfInBounds i true))
def qL{F:Fr}(hn:F.n=n){ops:Array Oper}{m:Nat}{Q:St->Prop}{Q':Exit->Act->World->Prop}(hQ:∀x a w,ef F x a w->Q x->wpOpIn F.dW 0 P ops Q' m (Q' .normal) a w):
 ∀(f:Nat) (A':Array Bool) (x:St) (a:Act) (w:World),ef F x a w->sP P n ops m Q f A' x->wpAnyIn F.dW 0 P .any ops Q' (f+1) A' a w
 |0,A',x,a,w,hs,h=>by
  obtain⟨⟨h1,h2⟩,h3⟩:=h;refine⟨λh0=>(by rw[h1]at h0;cases h0),λi hi=>?_⟩;rw[h1]at hi;have him:i=m:=by simpa using hi
  subst him;exact wpOpIn_mono (λa w h=>⟨h2,h⟩) (hQ x a w hs h3)
 |f+1,A',x,a,w,hs,h=>by
  refine⟨λh0=>absurd h0 h.1,λi hi=>?_⟩;have h1:=(h.2 i hi).2;unfold Tn at h1;unfold wpOpIn;cases ho:ops[i]? with
  |none=>
   simp only[ho]at h1;exact qL hn hQ f _ x a w hs h1
  |some o=>
   simp only[ho]at h1;have h2:=vq (Q':=Q') hn h1 hs λx' a' w' Yk hk=>qL hn hQ f _ x' a' w' Yk hk;by_cases hw:Region.wanted o (yielded ops a.tmps)=true
   .rw[ar hw]at h2;simp only[hw,if_true];exact Hf (kg h2.1) h2.2
   .rw[av hw]at h2;simp only[hw];exact⟨λ_ _=>trivial,h2⟩
def AM{ops:Array Oper}{m:Nat}{Q:St->Prop}{i:Nat}{oi:Oper}(hi:ops[i]?=some oi)(him:i≠m)(hm:((Region.before ops).getD m 0).testBit i=true):
 ∀(f:Nat) (A':Array Bool) (x:St),Inf x.U->iK ops A'->
 (∀j oj,ops[j]?=some oj->j≠i->A'.getD j true=false->((Region.before ops).getD j 0).testBit i=false->iF (bG P n ops oi) (bG P n ops oj)=true)->
 i∈Region.ready .any ops A'->T P (bG P n ops oi) x (sP P n ops m Q f (A'.setIfInBounds i true))->sP P n ops m Q (f+1) A' x:=by
 have hnotj:∀(A':Array Bool),iK ops A'->i∈Region.ready .any ops A'->∀j,j∈Region.ready .any ops A'->((Region.before ops).getD j 0).testBit i=false:=λA' Zj hr j hj=>by
  obtain⟨hjun,oj,hoj,Ze⟩:=mem_ready.1 hj;cases hb:((Region.before ops).getD j 0).testBit i with
  |false=>rfl
  |true=>
   exfalso;have h1:=lk Zj j oj i hoj hb Ze;have h0:=(mem_ready.1 hr).1;rcases Nat.lt_or_ge i A'.size with h'|h'
   .simp[h']at h0 h1;rw[h0]at h1;cases h1
   .simp[Array.getElem?_eq_none h']at h1
 have hjm:∀(A':Array Bool),iK ops A'->i∈Region.ready .any ops A'->∀j,j∈Region.ready .any ops A'->j≠m:=λA' Zj hr j hj e=>by
  have:=hnotj A' Zj hr j hj;rw[e,hm]at this;cases this
 intro f
 induction f with
 |zero=>
  intro A' x hinf Zj _ hr H;refine⟨λh=>(by rw[h]at hr;cases hr),λj hj=>⟨hjm A' Zj hr j hj,?_⟩⟩;by_cases hji:j=i
  .subst hji;unfold Tn;simp only[hi];exact H
  .have:=ready_mono hj hji;obtain⟨x',YM⟩:=H.exists hinf;rw[YM.1.1]at this;exact absurd (by simpa using this) (hjm A' Zj hr j hj)
 |succ f ih=>
  intro A' x hinf Zj hfree hr H;refine⟨λh=>(by rw[h]at hr;cases hr),λj hj=>⟨hjm A' Zj hr j hj,?_⟩⟩;by_cases hji:j=i
  .subst hji;unfold Tn;simp only[hi];exact H
  .obtain⟨hjun,oj,hoj,Ze⟩:=mem_ready.1 hj;have hnot:=hnotj A' Zj hr j hj;have H2:T P (bG P n ops oi) x λx'=>T P (bG P n ops oj) x' (sP P n ops m Q f ((A'.setIfInBounds i true).setIfInBounds j true)):=by
    refine H.mono λx' YM=>?_;have:=(YM.2 j (ready_mono hj hji)).2;unfold Tn at this;simpa only[hoj]using this
   have h2:=EU (hfree j oj hoj hji hjun hnot) hinf H2;have hfree':∀k ok,ops[k]?=some ok->k≠i->(A'.setIfInBounds j true).getD k true=false->
    ((Region.before ops).getD k 0).testBit i=false->iF (bG P n ops oi) (bG P n ops ok)=true:=λk ok hk hki hun YE=>by
    refine hfree k ok hk hki ?_ YE;by_cases hjk:j=k
    .subst hjk;exact hjun
    .rw[getD_set_ne true hjk]at hun;exact hun
   unfold Tn;simp only[hoj];refine(h2.inf hinf).mono λx' YM=>ih (A'.setIfInBounds j true) x' YM.1 (Zj.list hj) hfree' (ready_mono hr (Ne.symm hji)) ?_;rw[Array.setIfInBounds_comm _ _ hji];exact YM.2
def xL{ops:Array Oper}{m:Nat}{Q:St->Prop}:∀(l:List Oper) (k:Nat) (A':Array Bool) (x:St),Inf x.U->iK ops A'->(∀j,j<l.length->l[j]?=ops[k+j]?)->
 Lz P n ops m l.length k A'=true->gK P Q (l.map (bG P n ops)) x->sP P n ops m Q l.length A' x
 |[],_,_,_,_,_,_,hB,h=>⟨by simpa[Lz]using hB,h⟩
 |o::l,k,A',x,hinf,Zj,hl,hB,h=>by
  have h0:ops[k]?=some o:=by simpa using(hl 0 (by simp)).symm
  simp only[ZR,Lz,Ba]at hB;obtain⟨⟨hr,hkm,hbit⟩,hf,hB'⟩:=hB;refine AM h0 (by simpa using hkm) hbit l.length A' x hinf Zj (mW h0 hf) (by simpa using hr) ?_;refine(T.inf hinf h).mono λx' YM=>?_;exact xL l (k+1) _ x' YM.1 (Zj.list (by simpa using hr)) (λj hj=>by have:=hl (j+1) (by simpa using hj);simpa[Nat.add_assoc,Eu 1 j]using this) hB' YM.2
def x8{F:Fr}(hn:F.n=n){ops:Array Oper}(M':Ac P n ops=true){id:Nat}{x:St}{a:Act}{w:World}(hs:ef F x a w){Q:St->Prop}{Q':Exit->Act->World->Prop}
 (hQ:∀x a w,ef F x a w->Q x->wpListIn F.dW 0 P ops Q' (ops.toList.drop (ops.size-1)) a w)(h:gK P Q ((ops.toList.take (ops.size-1)).map (bG P n ops)) x):(Code.region id ops true).wpIn F.dW 0 P Q' a w:=by
 simp only[Ac,Ba,Zq9]at M';obtain⟨hmx,ZX,_,_,hlex⟩:=M';have Yk:ef F x a { w with drawn:=w.drawn+1 }:=by
  obtain⟨I,hs⟩:=hs;have hk:cF (aA I x.U) (aA I x.U) w { w with drawn:=w.drawn+1 }:=λ_ _ h=>⟨h,rfl⟩
  refine⟨I,⟨⟨hs.sat.size,hs.sat.os,hs.sat.tape,hs.sat.output,hs.sat.same,hs.sat.fin,hs.sat.inj,λid o ho=>?_,hs.sat.fresh,hs.sat.glob⟩,hs.le,hs.size,hs.book.gP hk,λi hi=>?_⟩⟩
  .exact(hs.sat.obj id o ho).mono (cD.refl I) hk (YY _) (λ_ _ _ _=>rfl)
  .exact E'.mono (cD.refl I) hk (YY _) _ _ (hs.slot i hi)
 refine wpIn_region_any hmx ?_;have hlen:(ops.toList.take (ops.size-1)).length=ops.size-1:=by simp
 have hdrop:ops.toList.drop (ops.size-1)=[ops[ops.size-1]'(by omega)]:=by
  rw[ie (by simpa using(by omega:ops.size-1<ops.size))];simp[Aw,show ops.size<=ops.size-1+1 by omega]
 have hget:ops[ops.size-1]?=some (ops[ops.size-1]'(by omega)):=Array.getElem?_eq_getElem (by omega);have hL:=xL (P:=P) (n:=n) (Q:=Q) (m:=ops.size-1) (ops.toList.take (ops.size-1)) 0 (Array.replicate ops.size false) x hs.inf (λm om hm hl=>by
  have L':m<ops.size:=(nP.1 hm).1;rw[Zq7,Array.getElem?_replicate,ar L']at hl;simp at hl) (λj hj=>by rw[hlen]at hj;simp[List.getElem?_take,hj]) (by rw[hlen];exact hlex) h
 rw[hlen]at hL;have:=qL (Q':=Q') hn (λx a w hs hq=>by
  have:=hQ x a w hs hq;rw[hdrop]at this;unfold wpOpIn;simpa only[hget,wpListIn]using this) _ _ _ _ _ Yk hL
 rwa [show ops.size-1+1=ops.size by omega]at this
variable {P:Program} {n:Nat} {st:St} {Q:St->Prop} {k:List It}
def ab.Gw{l:List az}(h:gK P (λx=>ab P n k x Q) l st):ab P n (.code (.reg true l)::k) st Q:=by
 intro F hn kt hk a w hs;obtain⟨z,kt',rfl,hy,ZU⟩:=dn hk;obtain⟨c0,rfl,ZH⟩:=fX hy;have hc0:∃id ops,c0=.region id ops true/\qo P n ops=true/\ops.toList.map (bG P n ops)=l:=by
  cases c0<;>simp only[cX,reduceCtorEq]at ZH;rename_i id ops draw;cases draw
  .simp at ZH
  .simp only[Bool.true_and]at ZH;split at ZH
   .cases ZH
   split at ZH
   .cases ZH
   .rename_i hd;simp only[bc.reg.injEq,true_and]at ZH;exact⟨id,ops,rfl,by simpa using hd,ZH⟩
 obtain⟨id,ops,rfl,M',rfl⟩:=hc0;exact Af hn M' hs (λx a w hs h=>h F hn kt' ZU a w hs) h
def ab.nB{l e:List az}(h:gK P (λx=>ab P n (.ops e::k) x Q) l st):ab P n (.code (.nB l e)::k) st Q:=by
 intro F hn kt hk a w hs;obtain⟨z,kt',rfl,hy,ZU⟩:=dn hk;obtain⟨c0,rfl,ZH⟩:=fX hy;have hc0:∃id ops,c0=.region id ops true/\Ac P n ops=true/\(ops.toList.take (ops.size-1)).map (bG P n ops)=l/\(ops.toList.drop (ops.size-1)).map (bG P n ops)=e:=by
  cases c0<;>simp only[cX,reduceCtorEq]at ZH;rename_i id ops draw;cases draw
  .simp at ZH
  .simp only[Bool.true_and]at ZH;split at ZH
   .rename_i hd;simp only[bc.nB.injEq]at ZH;exact⟨id,ops,rfl,hd,ZH.1,ZH.2⟩
   .split at ZH<;>cases ZH
 obtain⟨id,ops,rfl,M',rfl,rfl⟩:=hc0;exact x8 hn M' hs (λx a w hs h=>h F hn (.ops ops (ops.toList.drop (ops.size-1))::kt') (by simp[KI.it,ZU]) a w hs) h
def St.lit(st:St):VX->V->St
 |.t d,v=>⟨aN st.s (some d) v,st.U⟩
 |.c _,_=>st
inductive Td where
 |r (todo:List It)
 |d (l:List az) (todo:List It)
def Kof(P:Program)(n:Nat)(todo:List It)(st:St)(Q:St->Prop):Prop:=match todo with
 |.stop μ::_=>μ st
 |todo=>ab P n todo st Q
def Kof.runs{todo:List It}(h:Kof P n todo st Q):ab P n todo st Q:=by
 cases todo with
 |nil=>exact h
 |cons x k=>cases x<;>first|exact ab.stop h|exact h
def gK.mono{K K':St->Prop}(hk:∀x,K x->K' x):∀{l:List az} {x:St},gK P K l x->gK P K' l x
 |[],_,h=>hk _ h
 |_::_,_,h=>T.mono (λ_ h=>gK.mono hk h) h
def Go(P:Program)(n:Nat)(t:Td)(st:St)(Q:St->Prop):Prop:=
 match t with
 |.r todo=>Kof P n todo st Q
 |.d l todo=>gK P (λx=>Kof P n todo x Q) l st
def Go.runs{todo:List It}(h:Go P n (.r todo) st Q):ab P n todo st Q:=Kof.runs h
def Go.chain{l:List az}(h:Go P n (.d l k) st Q):gK P (λx=>ab P n k x Q) l st:=gK.mono (λ_ h=>Kof.runs h) h
def dj{α:Type}(o:Option α)(k:α->Prop):Prop:=match o with
 |some v=>k v
 |none=>False
def uE{α:Type}(v:α)(k:α->Prop):dj (some v) k=k v:=rfl
def gS{α:Type}{o:Option α}{k:α->Prop}:dj o k↔∃v,o=some v/\k v:=by cases o<;>simp[dj]
def dy(v:V)(k:Bool->Prop)(z:Prop):Prop:=match v with
 |.bool c=>k c
 |.P' []=>z
 |.int _ _=>z
 |_=>False
def mM{v:V}{k:Bool->Prop}{z:Prop}(h:dy v k z):(∃c,v=.bool c/\k c)\/(v=.P' []/\z)\/(∃q m,v=.int q m/\z):=by
 unfold dy at h;split at h
 .exact .inl ⟨_,rfl,h⟩
 .exact .inr (.inl ⟨rfl,h⟩)
 .exact .inr (.inr ⟨_,_,rfl,h⟩)
 .exact h.elim
def both(c b:Bool)(x y:Prop):Prop:=(c=b->x)/\(c=!b->y)
def lx(s:Nat->V)(U:af):Yw->Option af
 |.store sz xa xv=>gk U sz (xa.ev s) (xv.ev s)
 |_=>none
structure Orc(P:Program) where
 get:FuncId->List V->af->Option V
 ok:∀f args U v,get f args U=some v->au P f args U λr Z'=>r=v/\Z'=U
 up:∀f args U Z' v,aa U Z'->get f args U=some v->get f args Z'=some v:=by intros;assumption
def Orc.nothing:Orc P where
 get _ _ _:=none
 ok _ _ _ _ h:=by cases h
def zh(O:Orc P)(s:Nat->V)(U:af):Yw->Option V
 |.call fx xs=>match fx.ev s with
   |.fn f caps=>O.get f (xs.map (·.ev s)++caps) U
   |_=>none
 |_=>none
def zY(o:Option V)(k:V->Prop)(z:Prop):Prop:=match o with
 |some v=>k v
 |none=>z
def ri{o:Option V}{k:V->Prop}{z:Prop}(h:zY o k z):(∃v,o=some v/\k v)\/z:=by
 cases o with
 |none=>exact .inr h
 |some v=>exact .inl ⟨v,rfl,h⟩
def A4(q:Nat)(a b c d g:Prop):Prop:=match q with
 |0=>a
 |1=>b
 |2=>c
 |3=>d
 |_=>g
def pT{q:Nat}{a b c d g:Prop}(h:A4 q a b c d g):(q=0/\a)\/(q=1/\b)\/(q=2/\c)\/(q=3/\d)\/g:=by
 unfold A4 at h;split at h<;>simp_all
def yk(O:Orc P)(q:Nat)(d:Option Nat)(op:Yw)(st:St)(k:St->Prop)(z:Prop):Prop:=
 A4 q (eN st.s op/\dj (aE st.U st.s op) λv=>k ⟨aN st.s d v,st.U⟩)
  (zY (zh O st.s st.U op) (λv=>k ⟨aN st.s d v,st.U⟩) z)
  (dj (lx st.s st.U op) λZ'=>k ⟨aN st.s d (.P' []),Z'⟩)
  (dj (eff st.s st.U op) λg=>∀id,st.U id=none->k ⟨aN st.s d (g id).1,(g id).2⟩) z
def step(P:Program)(O:Orc P)(n:Nat):Nat->Td->St->(St->Prop)->Prop
 |0,t,st,Q=>Go P n t st Q
 |f+1,t,st,Q=>match t with
  |.d l k=>match l with
   |[]=>step P O n f (.r k) st Q
   |i::l=>match i.g with
    |none=>yk O (aX i.op) i.dst i.op st (λst=>step P O n f (.d l k) st Q) (Go P n (.d (i::l) k) st Q)
    |some (x,b)=>dy (x.ev st.s) (λc=>both c b
       (yk O (aX i.op) i.dst i.op (st.lit x (.bool b)) (λst=>step P O n f (.d l k) st Q) (Go P n (.d (i::l) k) (st.lit x (.bool b)) Q))
       (step P O n f (.d l k) ⟨aN (st.lit x (.bool !b)).s i.dst (.P' []),(st.lit x (.bool !b)).U⟩ Q))
       (step P O n f (.d l k) ⟨aN st.s i.dst (.P' []),st.U⟩ Q)
  |.r todo=>match todo with
   |[]=>Q st
   |.stop μ::_=>μ st
   |.inBlock _::k=>step P O n f (.r k) st Q
   |.ops []::k=>step P O n f (.r k) st Q
   |.ops (i::l)::k=>match i.g with
    |none=>yk O (aX i.op) i.dst i.op st (λst=>step P O n f (.r (.ops l::k)) st Q) (ab P n (.ops (i::l)::k) st Q)
    |some (x,b)=>dy (x.ev st.s) (λc=>both c b
       (yk O (aX i.op) i.dst i.op (st.lit x (.bool b)) (λst=>step P O n f (.r (.ops l::k)) st Q) (ab P n (.ops (i::l)::k) (st.lit x (.bool b)) Q))
       (step P O n f (.r (.ops l::k)) ⟨aN (st.lit x (.bool !b)).s i.dst (.P' []),(st.lit x (.bool !b)).U⟩ Q))
       (step P O n f (.r (.ops l::k)) ⟨aN st.s i.dst (.P' []),st.U⟩ Q)
   |.code c::k=>match c with
    |.skip=>step P O n f (.r k) st Q
    |.seq a b=>step P O n f (.r (.code a::.code b::k)) st Q
    |.block id a=>step P O n f (.r (.code a::.inBlock id::k)) st Q
    |.exit id=>dj (gg id k) λk'=>step P O n f (.r k') st Q
    |.ret=>Q st
    |.cond c a b=>dy (c.ev st.s) (λt=>both t true (step P O n f (.r (.code a::k)) st Q) (step P O n f (.r (.code b::k)) st Q)) False
    |.reg draw l=>match draw with
     |false=>step P O n f (.r (.ops l::k)) st Q
     |true=>step P O n f (.d l k) st Q
    |.loop a=>ab P n (.code (.loop a)::k) st Q
    |.cE g ps a b=>ab P n (.code (.cE g ps a b)::k) st Q
    |.regA l Yo=>ab P n (.code (.regA l Yo)::k) st Q
    |.nB l e=>step P O n f (.d l (.ops e::k)) st Q
    |.bad=>False
def Aa{st:St}{x:VX}{v:V}(h:x.ev st.s=v):st.lit x v=st:=by
 cases x with
 |t d=>
  simp only[VX.ev]at h;have:aN st.s (some d) v=st.s:=by
   funext i;simp only[aN];split
   .rename_i e;rw[e,h]
   .rfl
  simp[St.lit,this]
 |c _=>rfl
def ab.gk{i:az}{l:List az}{sz:Nat}{xa xv:VX}(hw:aP st.s i.g=some true)(ho:i.op=.store sz xa xv){Z':af}
 (h1:Vc.gk st.U sz (xa.ev st.s) (xv.ev st.s)=some Z')(h:ab P n (.ops l::k) ⟨aN st.s i.dst (.P' []),Z'⟩ Q):ab P n (.ops (i::l)::k) st Q:=by
 unfold Vc.gk at h1;split at h1
 .rename_i id r0 c e1;split at h1
  .rename_i ob e2;split at h1
   .rename_i r e3;split at h1
    .rename_i r' e4;simp only[aB]at h1;subst h1;exact ab.store hw ho e1 e2 e3 e4 h
    .cases h1
   .cases h1
  .cases h1
 .cases h1
def ab.eff{i:az}{l:List az}(hw:aP st.s i.g=some true){g:Nat->V×af}(hg:Vc.eff st.s st.U i.op=some g)
 (h:∀id,st.U id=none->ab P n (.ops l::k) ⟨aN st.s i.dst (g id).1,(g id).2⟩ Q):ab P n (.ops (i::l)::k) st Q:=by
 cases Yf:i.op<;>rw[Yf]at hg<;>simp only[Vc.eff,reduceCtorEq]at hg
 case box e sz xv=>
  split at hg
  .rename_i hc;simp only[aB]at hg;subst hg;exact ab.box hw Yf hc.1 hc.2 h
  .cases hg
 case alloc e sz z=>
  simp only[aB]at hg;subst hg;exact ab.alloc hw Yf h
 case eU e sz xs=>
  split at hg
  .rename_i hc;simp only[aB]at hg;subst hg;refine ab.eU hw Yf (λx hx=>?_) h;have:=ed.1 hc x hx;simpa using this
  .cases hg
 case mk e sz bytes zv x=>
  split at hg
  .rename_i m hm;split at hg
   .rename_i hc;simp only[aB]at hg;subst hg;exact ab.mkS hw Yf hm hc.1 hc.2 h
   .cases hg
  .cases hg
 case appz e sz bytes zv y x=>
  split at hg
  .rename_i kq m hy hm;split at hg
   .rename_i hc;simp only[aB]at hg;subst hg;exact ab.Uy hw Yf hy hm hc.1 hc.2 h
   .cases hg
  .cases hg
 case append e sz bytes xa xb=>
  split at hg
  .rename_i base Yt src e1 e2;split at hg
   .rename_i hb;simp only[aB]at hg;subst hg;exact ab.append hw Yf e1 e2 hb h
   .cases hg
  .cases hg
def lK{i:az}{K:St->Prop}(hw:aP st.s i.g=some true)(h:TO P i.dst i.op st K):T P i st K:=by unfold T;simp only[hw];exact h
def ra{i:az}{K:St->Prop}(hw:aP st.s i.g=some false)(h:K ⟨aN st.s i.dst (.P' []),st.U⟩):T P i st K:=by unfold T;simp only[hw];exact h
def vz{O:Orc P}{s:Nat->V}{U:af}{op:Yw}{v:V}(h:zh O s U op=some v):
 ∃fx xs f caps,op=.call fx xs/\fx.ev s=.fn f caps/\∀Z1,aa U Z1->au P f (xs.map (·.ev s)++caps) Z1 λr Z'=>r=v/\Z'=Z1:=by
 unfold zh at h;split at h
 .rename_i fx xs;split at h
  .rename_i f caps hf;exact⟨fx,xs,f,caps,rfl,hf,λZ1 h1=>O.ok _ _ _ _ (O.up _ _ _ _ _ h1 h)⟩
  .cases h
 .cases h
def ab.vG{O:Orc P}{i:az}{l:List az}{st:St}(hw:aP st.s i.g=some true){K:St->Prop}(hK:∀st,K st->ab P n (.ops l::k) st Q)
 (h:yk O (aX i.op) i.dst i.op st K (ab P n (.ops (i::l)::k) st Q)):ab P n (.ops (i::l)::k) st Q:=by
 unfold yk at h;rcases pT h with⟨_,h1,h⟩|⟨_,h⟩|⟨_,h⟩|⟨_,h⟩|h
 .obtain⟨v,hv,h⟩:=gS.1 h;exact ab.pure hw h1 hv (hK _ h)
 .rcases ri h with⟨v,hv,h⟩|h
  .obtain⟨fx,xs,f,caps,ho,hf,hc⟩:=vz hv;refine ab.call hw ho hf (hc _ (aa.refl _)) ?_;rintro r Z' ⟨rfl,rfl⟩;exact hK _ h
  .exact h
 .obtain⟨Z',hs,h⟩:=gS.1 h;cases Yf:i.op<;>rw[Yf]at hs<;>simp only[lx,reduceCtorEq]at hs;exact ab.gk hw Yf hs (hK _ h)
 .obtain⟨g,hgg,h⟩:=gS.1 h;exact ab.eff hw hgg λid O'=>hK _ (h id O')
 .exact h
def Go.vG{O:Orc P}{i:az}{l:List az}{st:St}(hw:aP st.s i.g=some true){K:St->Prop}(hK:∀st,K st->Go P n (.d l k) st Q)
 (h:yk O (aX i.op) i.dst i.op st K (Go P n (.d (i::l) k) st Q)):Go P n (.d (i::l) k) st Q:=by
 unfold yk at h;rcases pT h with⟨hk,h1,h⟩|⟨hk,h⟩|⟨_,h⟩|⟨hk,h⟩|h
 .obtain⟨v,hv,h⟩:=gS.1 h;refine lK hw ?_;unfold TO;simp only[hk];exact⟨h1,v,hv,hK _ h⟩
 .rcases ri h with⟨v,hv,h⟩|h
  .obtain⟨fx,xs,f,caps,ho,hf,hc⟩:=vz hv;refine lK hw ?_;rw[ho];exact⟨f,caps,v,hf,hc,hK _ h⟩
  .exact h
 .obtain⟨Z',hs,h⟩:=gS.1 h;refine lK hw ?_;cases Yf:i.op<;>rw[Yf]at hs<;>simp only[lx,reduceCtorEq]at hs;exact⟨Z',hs,hK _ h⟩
 .obtain⟨g,hgg,h⟩:=gS.1 h;refine lK hw ?_;unfold TO;simp only[hk];exact⟨g,hgg,λid O'=>hK _ (h id O')⟩
 .exact h
def Go.bn(O:Orc P):∀(f:Nat) (t:Td) (st:St),step P O n f t st Q->Go P n t st Q
 |0,_,_,h=>h
 |f+1,.d [] k,st,h=>Go.bn O f (.r k) st h
 |f+1,.d (i::l) k,st,h=>by
  simp only[step]at h;split at h
  .rename_i hg;have hw:aP st.s i.g=some true:=by simp[hg,aP]
   exact Go.vG hw (λst h=>Go.bn O f (.d l k) st h) h
  .rename_i x b hg;rcases mM h with⟨c,hc,h⟩|⟨hc,h⟩|⟨q,m,hc,h⟩
   .by_cases hcb:c=b
    .subst hcb;have h1:=h.1 rfl;have hw:aP st.s i.g=some true:=by simp[hg,aP,hc]
     rw[Aa hc]at h1;exact Go.vG hw (λst h=>Go.bn O f (.d l k) st h) h1
    .have hcb':c=!b:=by revert hcb;cases c<;>cases b<;>simp
     have h2:=h.2 hcb';rw[Aa (by rw[hc,hcb'])]at h2;exact ra (by simp only[hg,aP,hc];rw[hcb'];cases b<;>rfl) (Go.bn O f (.d l k) _ h2)
   .exact ra (by simp[hg,aP,hc]) (Go.bn O f (.d l k) _ h)
   .exact ra (by simp[hg,aP,hc]) (Go.bn O f (.d l k) _ h)
 |f+1,.r [],_,h=>ab.nil h
 |f+1,.r (.stop _::_),_,h=>h
 |f+1,.r (.inBlock _::k),st,h=>ab.inBlock (Go.bn O f (.r k) st h).runs
 |f+1,.r (.ops []::k),st,h=>ab.AJ (Go.bn O f (.r k) st h).runs
 |f+1,.r (.ops (i::l)::k),st,h=>by
  simp only[step]at h;split at h
  .rename_i hg;have hw:aP st.s i.g=some true:=by simp[hg,aP]
   exact ab.vG hw (λst h=>(Go.bn O f (.r (.ops l::k)) st h).runs) h
  .rename_i x b hg;rcases mM h with⟨c,hc,h⟩|⟨hc,h⟩|⟨q,m,hc,h⟩
   .by_cases hcb:c=b
    .subst hcb;have h1:=h.1 rfl;have hw:aP st.s i.g=some true:=by simp[hg,aP,hc]
     rw[Aa hc]at h1;exact ab.vG hw (λst h=>(Go.bn O f (.r (.ops l::k)) st h).runs) h1
    .have hcb':c=!b:=by revert hcb;cases c<;>cases b<;>simp
     have h2:=h.2 hcb';rw[Aa (by rw[hc,hcb'])]at h2;exact ab.o6 (by simp only[hg,aP,hc];rw[hcb'];cases b<;>rfl) (Go.bn O f (.r (.ops l::k)) _ h2).runs
   .exact ab.o6 (by simp[hg,aP,hc]) (Go.bn O f (.r (.ops l::k)) _ h).runs
   .exact ab.o6 (by simp[hg,aP,hc]) (Go.bn O f (.r (.ops l::k)) _ h).runs
 |f+1,.r (.code c::k),st,h=>by
  cases c with
  |skip=>exact ab.skip (Go.bn O f (.r _) _ h).runs
  |seq a b=>exact ab.seq (Go.bn O f (.r _) _ h).runs
  |block id a=>exact ab.block (Go.bn O f (.r _) _ h).runs
  |exit id=>
   simp only[step]at h;obtain⟨k',ZU,h⟩:=gS.1 h;exact ab.exit ZU (Go.bn O f (.r _) _ h).runs
  |ret=>exact ab.ret h
  |cond c a b=>
   simp only[step]at h;rcases mM h with⟨t,ht,h⟩|⟨_,h⟩|⟨_,_,_,h⟩
   .exact ab.cond ht (λe=>(Go.bn O f (.r _) _ (h.1 e)).runs) (λe=>(Go.bn O f (.r _) _ (h.2 (by rw[e];rfl))).runs)
   .exact h.elim
   .exact h.elim
  |reg draw l=>
   cases draw
   .exact ab.region (Go.bn O f (.r _) _ h).runs
   .exact ab.Gw (Go.bn O f (.d l k) _ h).chain
  |loop a=>exact h
  |cE g ps a b=>exact h
  |regA l Yo=>exact h
  |nB l e=>exact ab.nB (Go.bn O f (.d l (.ops e::k)) _ h).chain
  |bad=>exact h.elim
def ab.bn(O:Orc P)(f:Nat){todo:List It}{st:St}(h:step P O n f (.r todo) st Q):ab P n todo st Q:=(Go.bn O f (.r todo) st h).runs
section rules
variable (P:Program) (O:Orc P) (n:Nat) (f:Nat)
def exR(o:Option (List It))(st:St)(Q:St->Prop):Prop:=dj o λk'=>step P O n f (.r k') st Q
def cR(v:V)(a b:bc)(k:List It)(st:St)(Q:St->Prop):Prop:=dy v (λt=>both t true (step P O n f (.r (.code a::k)) st Q) (step P O n f (.r (.code b::k)) st Q)) False
def OE(l:List az)(k:List It)(d:Option Nat)(st:St)(Q:St->Prop)(o:Option V):Prop:=dj o λv=>step P O n f (.r (.ops l::k)) ⟨aN st.s d v,st.U⟩ Q
def KJ(l:List az)(k:List It)(d:Option Nat)(st:St)(Q:St->Prop)(o:Option af):Prop:=dj o λZ'=>step P O n f (.r (.ops l::k)) ⟨aN st.s d (.P' []),Z'⟩ Q
def NU(l:List az)(k:List It)(d:Option Nat)(st:St)(Q:St->Prop)(o:Option (Nat->V×af)):Prop:=
 dj o λg=>∀id,st.U id=none->step P O n f (.r (.ops l::k)) ⟨aN st.s d (g id).1,(g id).2⟩ Q
def Jd(l:List az)(k:List It)(d:Option Nat)(op:Yw)(g:Option (VX×Bool))(st:St)(Q:St->Prop)(o:Option V):Prop:=
 zY o (λv=>step P O n f (.r (.ops l::k)) ⟨aN st.s d v,st.U⟩ Q) (ab P n (.ops (⟨d,op,g⟩::l)::k) st Q)
def wN(q:Nat)(d:Option Nat)(op:Yw)(g:Option (VX×Bool))(l:List az)(k:List It)(st:St)(Q:St->Prop):Prop:=
 yk O q d op st (λst=>step P O n f (.r (.ops l::k)) st Q) (ab P n (.ops (⟨d,op,g⟩::l)::k) st Q)
def gR(v:V)(d:Option Nat)(op:Yw)(x:VX)(b:Bool)(l:List az)(k:List It)(st:St)(Q:St->Prop):Prop:=
 dy v (λc=>both c b (wN P O n f (aX op) d op (some (x,b)) l k (st.lit x (.bool b)) Q)
  (step P O n f (.r (.ops l::k)) ⟨aN (st.lit x (.bool !b)).s d (.P' []),(st.lit x (.bool !b)).U⟩ Q)) (step P O n f (.r (.ops l::k)) ⟨aN st.s d (.P' []),st.U⟩ Q)
def OG(l:List az)(k:List It)(d:Option Nat)(st:St)(Q:St->Prop)(o:Option V):Prop:=dj o λv=>step P O n f (.d l k) ⟨aN st.s d v,st.U⟩ Q
def J1(l:List az)(k:List It)(d:Option Nat)(st:St)(Q:St->Prop)(o:Option af):Prop:=dj o λZ'=>step P O n f (.d l k) ⟨aN st.s d (.P' []),Z'⟩ Q
def LK(l:List az)(k:List It)(d:Option Nat)(st:St)(Q:St->Prop)(o:Option (Nat->V×af)):Prop:=
 dj o λg=>∀id,st.U id=none->step P O n f (.d l k) ⟨aN st.s d (g id).1,(g id).2⟩ Q
def Jy(l:List az)(k:List It)(d:Option Nat)(op:Yw)(g:Option (VX×Bool))(st:St)(Q:St->Prop)(o:Option V):Prop:=
 zY o (λv=>step P O n f (.d l k) ⟨aN st.s d v,st.U⟩ Q) (Go P n (.d (⟨d,op,g⟩::l) k) st Q)
def yj(q:Nat)(d:Option Nat)(op:Yw)(g:Option (VX×Bool))(l:List az)(k:List It)(st:St)(Q:St->Prop):Prop:=
 yk O q d op st (λst=>step P O n f (.d l k) st Q) (Go P n (.d (⟨d,op,g⟩::l) k) st Q)
def gD(v:V)(d:Option Nat)(op:Yw)(x:VX)(b:Bool)(l:List az)(k:List It)(st:St)(Q:St->Prop):Prop:=
 dy v (λc=>both c b (yj P O n f (aX op) d op (some (x,b)) l k (st.lit x (.bool b)) Q)
  (step P O n f (.d l k) ⟨aN (st.lit x (.bool !b)).s d (.P' []),(st.lit x (.bool !b)).U⟩ Q)) (step P O n f (.d l k) ⟨aN st.s d (.P' []),st.U⟩ Q)
variable {P O n} {f}
def yZ(s:Nat->V)(d:Nat)(v:V)(i:Nat):aN s (some d) v i=if i=d then v else s i:=rfl
def zi(s:Nat->V)(v:V)(i:Nat):aN s none v i=s i:=rfl
def OL(st:St)(d:Nat)(v:V):st.lit (.t d) v=⟨aN st.s (some d) v,st.U⟩:=rfl
def Ok(st:St)(u v:V):st.lit (.c u) v=st:=rfl
def TT(s:Nat->V)(d:Nat):VX.ev s (.t d)=s d:=rfl
def UE(s:Nat->V)(v:V):VX.ev s (.c v)=v:=rfl
def La(d:Option Nat)(op:Yw)(g:Option (VX×Bool))(l:List az):wN P O n f 0 d op g l k st Q=(eN st.s op/\OE P O n f l k d st Q (aE st.U st.s op)):=rfl
def KW(d:Option Nat)(op:Yw)(g:Option (VX×Bool))(l:List az):wN P O n f 1 d op g l k st Q=Jd P O n f l k d op g st Q (zh O st.s st.U op):=rfl
def I7(d:Option Nat)(op:Yw)(g:Option (VX×Bool))(l:List az):wN P O n f 2 d op g l k st Q=KJ P O n f l k d st Q (lx st.s st.U op):=rfl
def I8(d:Option Nat)(op:Yw)(g:Option (VX×Bool))(l:List az):wN P O n f 3 d op g l k st Q=NU P O n f l k d st Q (eff st.s st.U op):=rfl
def LC(d:Option Nat)(op:Yw)(g:Option (VX×Bool))(l:List az):wN P O n f 4 d op g l k st Q=ab P n (.ops (⟨d,op,g⟩::l)::k) st Q:=rfl
def wP(d:Option Nat)(op:Yw)(g:Option (VX×Bool))(l:List az)(v:V):Jd P O n f l k d op g st Q (some v)=step P O n f (.r (.ops l::k)) ⟨aN st.s d v,st.U⟩ Q:=rfl
def wY(d:Option Nat)(op:Yw)(g:Option (VX×Bool))(l:List az):Jd P O n f l k d op g st Q none=ab P n (.ops (⟨d,op,g⟩::l)::k) st Q:=rfl
def Bm(s:Nat->V)(U:af)(fx:VX)(xs:List VX):zh O s U (.call fx xs)=match fx.ev s with
 |.fn f caps=>O.get f (xs.map (·.ev s)++caps) U
 |_=>none:=rfl
def KL(d:Option Nat)(op:Yw)(g:Option (VX×Bool))(l:List az):yj P O n f 0 d op g l k st Q=(eN st.s op/\OG P O n f l k d st Q (aE st.U st.s op)):=rfl
def IC(d:Option Nat)(op:Yw)(g:Option (VX×Bool))(l:List az):yj P O n f 1 d op g l k st Q=Jy P O n f l k d op g st Q (zh O st.s st.U op):=rfl
def KF(d:Option Nat)(op:Yw)(g:Option (VX×Bool))(l:List az):yj P O n f 2 d op g l k st Q=J1 P O n f l k d st Q (lx st.s st.U op):=rfl
def Jh(d:Option Nat)(op:Yw)(g:Option (VX×Bool))(l:List az):yj P O n f 3 d op g l k st Q=LK P O n f l k d st Q (eff st.s st.U op):=rfl
def xK(d:Option Nat)(op:Yw)(g:Option (VX×Bool))(l:List az)(v:V):Jy P O n f l k d op g st Q (some v)=step P O n f (.d l k) ⟨aN st.s d v,st.U⟩ Q:=rfl
def vT(d:Option Nat)(op:Yw)(g:Option (VX×Bool))(l:List az):Jy P O n f l k d op g st Q none=Go P n (.d (⟨d,op,g⟩::l) k) st Q:=rfl
def F7:step P O n (f+1) (.r []) st Q=Q st:=rfl
def DS(μ:St->Prop):step P O n (f+1) (.r (.stop μ::k)) st Q=μ st:=rfl
def uu(id:Nat):step P O n (f+1) (.r (.inBlock id::k)) st Q=step P O n f (.r k) st Q:=rfl
def tI:step P O n (f+1) (.r (.ops []::k)) st Q=step P O n f (.r k) st Q:=rfl
def By:step P O n (f+1) (.r (.code .skip::k)) st Q=step P O n f (.r k) st Q:=rfl
def FO(a b:bc):step P O n (f+1) (.r (.code (.seq a b)::k)) st Q=step P O n f (.r (.code a::.code b::k)) st Q:=rfl
def yR(id:Nat)(a:bc):step P O n (f+1) (.r (.code (.block id a)::k)) st Q=step P O n f (.r (.code a::.inBlock id::k)) st Q:=rfl
def BN(id:Nat):step P O n (f+1) (.r (.code (.exit id)::k)) st Q=exR P O n f (gg id k) st Q:=rfl
def CL(k':List It):exR P O n f (some k') st Q=step P O n f (.r k') st Q:=rfl
def Fu:step P O n (f+1) (.r (.code .ret::k)) st Q=Q st:=rfl
def CM(a:bc):step P O n (f+1) (.r (.code (.loop a)::k)) st Q=ab P n (.code (.loop a)::k) st Q:=rfl
def Dg(l e:List az):step P O n (f+1) (.r (.code (.nB l e)::k)) st Q=step P O n f (.d l (.ops e::k)) st Q:=rfl
def cQ(l:List az)(Yo:List (List Nat)):step P O n (f+1) (.r (.code (.regA l Yo)::k)) st Q=ab P n (.code (.regA l Yo)::k) st Q:=rfl
def xH(g:VX)(ps:List Nat)(a b:bc):step P O n (f+1) (.r (.code (.cE g ps a b)::k)) st Q=ab P n (.code (.cE g ps a b)::k) st Q:=rfl
def Ga(l:List az):step P O n (f+1) (.r (.code (.reg false l)::k)) st Q=step P O n f (.r (.ops l::k)) st Q:=rfl
def BV(l:List az):step P O n (f+1) (.r (.code (.reg true l)::k)) st Q=step P O n f (.d l k) st Q:=rfl
def Gz:step P O n (f+1) (.d [] k) st Q=step P O n f (.r k) st Q:=rfl
def CG(c:VX)(a b:bc):step P O n (f+1) (.r (.code (.cond c a b)::k)) st Q=cR P O n f (c.ev st.s) a b k st Q:=rfl
def T9(a b:bc):cR P O n f (.bool true) a b k st Q=step P O n f (.r (.code a::k)) st Q:=by simp[cR,dy,both]
def Ts(a b:bc):cR P O n f (.bool false) a b k st Q=step P O n f (.r (.code b::k)) st Q:=by simp[cR,dy,both]
def Jj(p:Prop)[Decidable p](a b:bc):cR P O n f (.bool (decide p)) a b k st Q=((p->step P O n f (.r (.code a::k)) st Q)/\(¬p->step P O n f (.r (.code b::k)) st Q)):=by simp[cR,dy,both]
def Gp(d:Option Nat)(op:Yw)(l:List az):step P O n (f+1) (.r (.ops (⟨d,op,none⟩::l)::k)) st Q=wN P O n f (aX op) d op none l k st Q:=rfl
def wA(d:Option Nat)(l:List az)(v:V):OE P O n f l k d st Q (some v)=step P O n f (.r (.ops l::k)) ⟨aN st.s d v,st.U⟩ Q:=rfl
def uA(d:Option Nat)(l:List az)(Z':af):KJ P O n f l k d st Q (some Z')=step P O n f (.r (.ops l::k)) ⟨aN st.s d (.P' []),Z'⟩ Q:=rfl
def bD(d:Option Nat)(l:List az)(g:Nat->V×af):NU P O n f l k d st Q (some g)=∀id,st.U id=none->step P O n f (.r (.ops l::k)) ⟨aN st.s d (g id).1,(g id).2⟩ Q:=rfl
def FT(d:Option Nat)(op:Yw)(l:List az):step P O n (f+1) (.d (⟨d,op,none⟩::l) k) st Q=yj P O n f (aX op) d op none l k st Q:=rfl
def vH(d:Option Nat)(l:List az)(v:V):OG P O n f l k d st Q (some v)=step P O n f (.d l k) ⟨aN st.s d v,st.U⟩ Q:=rfl
def tO(d:Option Nat)(l:List az)(Z':af):J1 P O n f l k d st Q (some Z')=step P O n f (.d l k) ⟨aN st.s d (.P' []),Z'⟩ Q:=rfl
def fk(d:Option Nat)(l:List az)(g:Nat->V×af):LK P O n f l k d st Q (some g)=∀id,st.U id=none->step P O n f (.d l k) ⟨aN st.s d (g id).1,(g id).2⟩ Q:=rfl
def Dx(d:Option Nat)(op:Yw)(x:VX)(b:Bool)(l:List az):step P O n (f+1) (.r (.ops (⟨d,op,some (x,b)⟩::l)::k)) st Q=gR P O n f (x.ev st.s) d op x b l k st Q:=rfl
def J4(d:Option Nat)(op:Yw)(x:VX)(b:Bool)(l:List az):gR P O n f (.P' []) d op x b l k st Q=step P O n f (.r (.ops l::k)) ⟨aN st.s d (.P' []),st.U⟩ Q:=rfl
def Ow(d:Option Nat)(op:Yw)(x:VX)(l:List az):gR P O n f (.bool true) d op x true l k st Q=wN P O n f (aX op) d op (some (x,true)) l k (st.lit x (.bool true)) Q:=by simp[gR,dy,both]
def OM(d:Option Nat)(op:Yw)(x:VX)(l:List az):gR P O n f (.bool false) d op x false l k st Q=wN P O n f (aX op) d op (some (x,false)) l k (st.lit x (.bool false)) Q:=by simp[gR,dy,both]
def Oy(d:Option Nat)(op:Yw)(x:VX)(l:List az):gR P O n f (.bool true) d op x false l k st Q=step P O n f (.r (.ops l::k)) ⟨aN (st.lit x (.bool true)).s d (.P' []),(st.lit x (.bool true)).U⟩ Q:=by simp[gR,dy,both]
def OR(d:Option Nat)(op:Yw)(x:VX)(l:List az):gR P O n f (.bool false) d op x true l k st Q=step P O n f (.r (.ops l::k)) ⟨aN (st.lit x (.bool false)).s d (.P' []),(st.lit x (.bool false)).U⟩ Q:=by simp[gR,dy,both]
def Bv(p:Prop)[Decidable p](d:Option Nat)(op:Yw)(x:VX)(l:List az):gR P O n f (.bool (decide p)) d op x true l k st Q=
 ((p->wN P O n f (aX op) d op (some (x,true)) l k (st.lit x (.bool true)) Q)/\(¬p->step P O n f (.r (.ops l::k)) ⟨aN (st.lit x (.bool false)).s d (.P' []),(st.lit x (.bool false)).U⟩ Q)):=by simp[gR,dy,both]
def CR(p:Prop)[Decidable p](d:Option Nat)(op:Yw)(x:VX)(l:List az):gR P O n f (.bool (decide p)) d op x false l k st Q=
 ((¬p->wN P O n f (aX op) d op (some (x,false)) l k (st.lit x (.bool false)) Q)/\(p->step P O n f (.r (.ops l::k)) ⟨aN (st.lit x (.bool true)).s d (.P' []),(st.lit x (.bool true)).U⟩ Q)):=by simp[gR,dy,both]
def Cq(d:Option Nat)(op:Yw)(x:VX)(b:Bool)(l:List az):step P O n (f+1) (.d (⟨d,op,some (x,b)⟩::l) k) st Q=gD P O n f (x.ev st.s) d op x b l k st Q:=rfl
def Lm(d:Option Nat)(op:Yw)(x:VX)(b:Bool)(l:List az):gD P O n f (.P' []) d op x b l k st Q=step P O n f (.d l k) ⟨aN st.s d (.P' []),st.U⟩ Q:=rfl
def Oz(d:Option Nat)(op:Yw)(x:VX)(l:List az):gD P O n f (.bool true) d op x true l k st Q=yj P O n f (aX op) d op (some (x,true)) l k (st.lit x (.bool true)) Q:=by simp[gD,dy,both]
def OU(d:Option Nat)(op:Yw)(x:VX)(l:List az):gD P O n f (.bool false) d op x false l k st Q=yj P O n f (aX op) d op (some (x,false)) l k (st.lit x (.bool false)) Q:=by simp[gD,dy,both]
def OA(d:Option Nat)(op:Yw)(x:VX)(l:List az):gD P O n f (.bool true) d op x false l k st Q=step P O n f (.d l k) ⟨aN (st.lit x (.bool true)).s d (.P' []),(st.lit x (.bool true)).U⟩ Q:=by simp[gD,dy,both]
def Ot(d:Option Nat)(op:Yw)(x:VX)(l:List az):gD P O n f (.bool false) d op x true l k st Q=step P O n f (.d l k) ⟨aN (st.lit x (.bool false)).s d (.P' []),(st.lit x (.bool false)).U⟩ Q:=by simp[gD,dy,both]
def A9(p:Prop)[Decidable p](d:Option Nat)(op:Yw)(x:VX)(l:List az):gD P O n f (.bool (decide p)) d op x true l k st Q=
 ((p->yj P O n f (aX op) d op (some (x,true)) l k (st.lit x (.bool true)) Q)/\(¬p->step P O n f (.d l k) ⟨aN (st.lit x (.bool false)).s d (.P' []),(st.lit x (.bool false)).U⟩ Q)):=by simp[gD,dy,both]
def DU(p:Prop)[Decidable p](d:Option Nat)(op:Yw)(x:VX)(l:List az):gD P O n f (.bool (decide p)) d op x false l k st Q=
 ((¬p->yj P O n f (aX op) d op (some (x,false)) l k (st.lit x (.bool false)) Q)/\(p->step P O n f (.d l k) ⟨aN (st.lit x (.bool true)).s d (.P' []),(st.lit x (.bool true)).U⟩ Q)):=by simp[gD,dy,both]
end rules
def aJ(P:Program)(f:FuncId)(args:List V)(v:V):Prop:=∀U,au P f args U λr Z'=>r=v/\Z'=U
variable {P:Program} {n:Nat} {st:St} {Q:St->Prop} {k:List It}
def iN:af:=λ_=>none
def mc(U:af):aa iN U:=λ_ _ h=>by simp[iN]at h
def V.lone:V->Bool
 |.int ..|.bool _|.str _=>true
 |_=>false
def V.scalar:V->Bool
 |.P' vs=>vs.all V.lone
 |.agg vs=>vs.all V.lone
 |v=>v.lone
def E'.lone{I Y':Mu}{ow ow':Nat->Prop}{w w':World}{v:V}{x:Value}(hv:v.lone=true)(h:E' I ow w v x):E' Y' ow' w' v x:=by
 cases v<;>simp only[V.lone,eT]at hv<;>simpa[E']using h
def al.Jc{I Y':Mu}{ow ow':Nat->Prop}{w w':World}:∀{vs:List V} {l:List Value},vs.all V.lone=true->al I ow w vs l->al Y' ow' w' vs l
 |[],l,_,h=>by simpa[al]using h
 |u::us,l,hv,h=>by
  simp only[ja,Ba]at hv;simp only[al]at h|-;obtain⟨y,ys,rfl,h1,h2⟩:=h;exact⟨y,ys,rfl,E'.lone hv.1 h1,al.Jc hv.2 h2⟩
def E'.scalar{I Y':Mu}{ow ow':Nat->Prop}{w w':World}{v:V}{x:Value}(hv:v.scalar=true)(h:E' I ow w v x):E' Y' ow' w' v x:=by
 by_cases ht:∃vs,v=.P' vs
 .obtain⟨vs,rfl⟩:=ht;simp only[E']at h|-;obtain⟨Yl,rfl,h⟩:=h;exact⟨Yl,rfl,al.Jc hv h⟩
 .by_cases ha:∃vs,v=.agg vs
  .obtain⟨vs,rfl⟩:=ha;simp only[E']at h|-;obtain⟨Yl,rfl,h,h2⟩:=h;exact⟨Yl,rfl,al.Jc hv h,h2⟩
  .refine E'.lone ?_ h;cases v<;>simp_all [V.scalar]
def aJ.borrow{f:FuncId}{args args':List V}{v:V}{U:af}(hw:WkL U iN args args')(h:aJ P f args' v)(hv:v.scalar=true):
 au P f args U λr Z'=>r=v/\Z'=U:=by
 refine⟨(h iN).1,?_⟩;intro I w Yl hs hr;have YT:Sat w (aA I iN) I iN w:=by
  have:=hs.drop (mc U);exact⟨YY _,rfl,rfl,rfl,λ_ _ _=>rfl,this.fin,this.inj,this.obj,λb hb _=>hb,this.oq⟩
 refine((h iN).2 I w Yl YT (WkL.all hs hw hr)).mono ?_;rintro e w' ⟨r,Z',Y',val,rfl,⟨rfl,rfl⟩,hle,Yk,hrep⟩;have YE:∀b,¬aA I iN b:=λb ⟨_,_,_,_,h,_⟩=>by simp[iN]at h
 have hsame:∀b,b<w.heap.size->w'.heap[b]?=w.heap[b]?:=λb hb=>Yk.same b hb (YE b);have hborn:∀id o,U id=some o->Y' id=I id:=λid o ho=>hle id (λe=>by
  have:=hs.obj id o ho;rw[e]at this;exact this)
 have hown:∀b,aA Y' U b->aA I U b:=λb ⟨id,o,sz,cap,h1,h2⟩=>⟨id,o,sz,cap,h1,hborn id o h1▸h2⟩
 have hk:cF (aA I U) (aA Y' U) w w':=λb hb hn=>⟨λho=>hn (hown b ho),hsame b hb⟩
 refine⟨_,U,Y',val,rfl,⟨rfl,rfl⟩,hle,?_,E'.scalar hv hrep⟩;refine⟨Yk.size,Yk.os,Yk.tape,Yk.output,λb hb _=>hsame b hb,Yk.fin,?_,?_,λb hb _=>hown b hb,hs.glob⟩
 .intro id ZL o o' b sz cap sz' cap' h1 h2 h3 h4;exact hs.inj id ZL o o' b sz cap sz' cap' h1 h2 (hborn id o h1▸h3) (hborn ZL o' h2▸h4)
 .intro id o ho;rw[hborn id o ho];refine(hs.obj id o ho).mono hle hk Yk.size λb sz cap hp=>hsame b ?_;exact aA.lt hs ⟨id,o,sz,cap,ho,hp⟩
def ak(v:V)(U:af)(Post:V->af->Prop):Prop:=∃v' Z',aa Z' U/\Wk U Z' v v'/\Post v' Z'
def Gj{s:Nat->V}{U:af}{d:Nat}{Post:V->af->Prop}:Ret [.tmp (.t d)] ⟨s,U⟩ Post=ak (s d) U Post:=by
 apply propext;simp only[Ret,ak,nS,ei,gj,VX.ev];constructor
 .rintro⟨v,v',Z',h1,h2⟩;simp only[aB]at h1;subst h1;exact⟨v',Z',h2⟩
 .rintro⟨v',Z',h2⟩;exact⟨_,v',Z',rfl,h2⟩
def FK{s:Nat->V}{U:af}{d e:Nat}{Post:V->af->Prop}:Ret [.tmp (.t d),.tmp (.t e)] ⟨s,U⟩ Post=ak (.P' [s d,s e]) U Post:=by
 apply propext;simp only[Ret,ak,nS,ei,gj,VX.ev];constructor
 .rintro⟨v,v',Z',h1,h2⟩;simp only[aB]at h1;subst h1;exact⟨v',Z',h2⟩
 .rintro⟨v',Z',h2⟩;exact⟨_,v',Z',rfl,h2⟩
def yA{s:Nat->V}{U:af}{d e g:Nat}{Post:V->af->Prop}:Ret [.tmp (.t d),.tmp (.t e),.tmp (.t g)] ⟨s,U⟩ Post=ak (.P' [s d,s e,s g]) U Post:=by
 apply propext;simp only[Ret,ak,nS,ei,gj,VX.ev];constructor
 .rintro⟨v,v',Z',h1,h2⟩;simp only[aB]at h1;subst h1;exact⟨v',Z',h2⟩
 .rintro⟨v',Z',h2⟩;exact⟨_,v',Z',rfl,h2⟩
def wU{st:St}{Post:V->af->Prop}:Ret [] st Post=ak (.P' []) st.U Post:=by
 apply propext;simp only[Ret,ak,nS,ei];constructor
 .rintro⟨v,v',Z',h1,h2⟩;simp only[aB]at h1;subst h1;exact⟨v',Z',h2⟩
 .rintro⟨v',Z',h2⟩;exact⟨_,v',Z',rfl,h2⟩
def ak.pure{v v0:V}{U Z1:af}(h:aa U Z1)(hv:v=v0):ak v Z1 λr Z'=>r=v0/\Z'=U:=
 ⟨v,U,h,Wk.refl h v,hv,rfl⟩
def ak.same{v v0:V}{U:af}(hv:v=v0):ak v U λr Z'=>r=v0/\Z'=U:=.pure (aa.refl U) hv
def fT{U:af}{id i:Nat}{o:Ob}:C' U id o i=none↔i≠id/\U i=none:=by
 unfold C';split<;>simp_all
def ag{U:af}{id:Nat}{o:Ob}:C' U id o id=some o:=by simp[C']
def ae{U:af}{id i:Nat}{o:Ob}(h:i≠id):C' U id o i=U i:=by simp[C',h]
def cA{U:af}{id i:Nat}(h:i≠id):del U id i=U i:=by simp[del,h]
def Gf{U:af}{id:Nat}{a b:Ob}:C' (C' U id a) id b=C' U id b:=by
 funext i;simp only[C'];split<;>rfl
def Gs{U:af}{id:Nat}{a:Ob}(h:U id=none):del (C' U id a) id=U:=by
 funext i;simp only[del,C'];split
 .rename_i e;rw[e,h]
 .rfl
def aa.C'{Z' U:af}{id:Nat}{o:Ob}(h:aa Z' U)(O':U id=none):aa Z' (Vc.C' U id o):=
 h.Nk (by
  cases hs:Z' id with
  |none=>rfl
  |some x=>have:=h id x hs;rw[O']at this;cases this)
def aa.Pf{U Z':af}{id:Nat}{o:Ob}(h:aa U Z'):aa (Vc.C' U id o) (Vc.C' Z' id o):=λi x hx=>by
 simp only[Vc.C']at hx|-;split at hx
 .rename_i e;rw[ar e];exact hx
 .rename_i e;rw[av e];exact h i x hx
variable {P:Program} {n:Nat} {st:St} {Q:St->Prop} {k:List It} {I:Mu} {w:World}
def yP{rows:List V}{sz:Nat}(h:∀r∈rows,r.cells.length=sz)(k:Nat):flat (rows.drop k)=(flat rows).drop (k*sz):=by
 induction rows generalizing k with
 |nil=>simp[flat]
 |cons r rs ih=>
  have e:∀l,flat (r::l)=r.cells++flat l:=λl=>by simp[flat]
  cases k with
  |zero=>simp[flat]
  |succ k=>
   rw[Lf,e,ih (λx hx=>h x (by simp[hx])),Nat.add_mul,Nat.one_mul,Eu,<-h r (by simp),<-List.drop_drop,List.drop_left]
def al.replicate{ow:Nat->Prop}{vs:List V}{l:List Value}(h:al I ow w vs l):∀n,al I ow w (List.replicate n vs).flatten (List.replicate n l).flatten
 |0=>by simp[al]
 |n+1=>by
  simp only[List.replicate_succ,List.flatten_cons];exact h.append (al.replicate h n)
def B0{F:Fr}{a:Act}(hs:cK F I st a w){o:Oper}{x:Operand}{t e:TypeId}{args:Array Operand}{argTypes:Array TypeId}{i:TypeInfo}{z:Value}
 (hoo:o.op=.call { callee:=.builtin .clear,args:=args,argTypes:=argTypes })(harg:args=#[x])(hty:argTypes[0]?=some t)
 (ht:P.underlying t=some (.slice e))(hz:zeroOf P e=some (i,z)){id off len:Nat}(h1:(cx F.n x).ev st.s=.own id off len){ob:Ob}(h2:st.U id=some ob)
 (h3:ob.sz=i.size)(h4:off+len<=ob.rows.length):
 ∃y w',(execOp a.eval o).run P w=.ok (.value y) w'/\
  cK F I ⟨aN st.s (o.dst.filter (·<F.n)) (.P' []),C' st.U id { ob with rows:=ob.rows.take off++List.replicate len (ofValue z)++ob.rows.drop (off+len) }⟩ (a.put o.dst y) w':=by
 obtain⟨hi,hz0,hk,hzs,hone,hsz⟩:=ej hz;have R:=bE hs;have hx:=R x;rw[h1]at hx;simp only[E']at hx;have YD:∀w',(Builtin.clear_ argTypes o.type #[a.eval x]).run P w=.ok (.tuple #[]) w'->(execOp a.eval o).run P w=.ok (.value (.tuple #[])) w':=by
  intro w' hw';unfold execOp;rw[hoo];simp[resolve,invoke,Go.builtin,harg,hw']
 have hrep:E' I (aA I st.U) w (.P' []) (.tuple #[]):=by simp only[E'];exact⟨[],rfl,by simp[al]⟩
 have hzero:len=0->∃y w',(execOp a.eval o).run P w=.ok (.value y) w'/\
  cK F I ⟨aN st.s (o.dst.filter (·<F.n)) (.P' []),C' st.U id { ob with rows:=ob.rows.take off++List.replicate len (ofValue z)++ob.rows.drop (off+len) }⟩ (a.put o.dst y) w':=by
  intro h0;subst h0;have hX:∃b c,a.eval x=.slice b 0 c:=by
   split at hx
   .exact hx.elim
   .exact⟨_,_,hx.1⟩
   .obtain⟨o',c,h,_⟩:=hx;exact⟨_,_,h⟩
  obtain⟨b,c,hX⟩:=hX;have Yy:C' st.U id { ob with rows:=ob.rows.take off++List.replicate 0 (ofValue z)++ob.rows.drop (off+0) }=st.U:=by
   funext j;simp only[C',List.replicate_zero,lO,Nat.add_zero,uQ];split
   .rename_i e';rw[e',h2]
   .rfl
  rw[Yy];refine⟨.tuple #[],w,YD w ?_,hs.pure hrep⟩;rw[hX];cases b<;>simp[Builtin.clear_,hty,run_underlying ht]
 split at hx
 .exact hx.elim
 .exact hzero hx.2.2
 .rename_i b szb cap O';obtain⟨o',c,hX,c1,c2,c3,hz0⟩:=hx;by_cases h0:len=0
  .exact hzero h0
  have Zb:=hs.sat.obj id ob h2;rw[O']at Zb;obtain⟨cur,e1,e2,e3,e4,e5,e6,e7⟩:=Zb.plain hz0;obtain⟨g1,xs,g2,g3,g4,g5⟩:=e7.cur e1;have hoff:o'=off*szb:=by
   rcases c3 with c3|c3
   .exact c3
   .omega
  subst hoff;have Yk:szb=i.size:=by omega
  subst Yk;have hzl:z.cells.size=i.size:=hzs;have hnews:=ky z.cells len;have hnl:(Builtin.zeroCells z.cells len).toList.length=len*i.size:=by rw[hnews];simp[hzl]
  have hbound:off*i.size+len*i.size<=ob.rows.length*i.size:=by rw[<-Nat.add_mul];exact Nat.mul_le_mul_right _ h4
  have hbound2:ob.rows.length*i.size<=cap*i.size:=Nat.mul_le_mul_right _ e5;have hone':∀u∈(Builtin.zeroCells z.cells len).toList,u.oneCell'=true:=by
   rw[hnews];intro u hu;simp only[List.mem_flatten,List.mem_replicate]at hu;obtain⟨l,⟨_,rfl⟩,hu⟩:=hu;exact hone u hu
  have Yy:=run_storeCells_at P b (off*i.size) ob.elem (Builtin.zeroCells z.cells len).toList 0 cur w e1 (by rw[hnl];omega) hone';simp only[Nat.add_zero]at Yy;refine⟨.tuple #[],w.setRow b (cur.toList.take (off*i.size)++(Builtin.zeroCells z.cells len).toList++cur.toList.drop (off*i.size+(Builtin.zeroCells z.cells len).toList.length)).toArray,YD _ ?_,?_⟩
  .rw[hX];obtain⟨m,rfl⟩:∃m,len=m+1:=⟨len-1,by omega⟩
   simp only[Builtin.clear_,hty,Sem.run_bind,List.getElem?_toArray,Sem.run_pure,Result.andThen_ok,run_underlying ht,dK hz];simp[Yy,run_underlying ht,dK hz]
  .have hgrow:w.grownBy (w.setRow b (cur.toList.take (off*i.size)++(Builtin.zeroCells z.cells len).toList++cur.toList.drop (off*i.size+(Builtin.zeroCells z.cells len).toList.length)).toArray) (some b):=
    ⟨rfl,rfl,rfl,by simp,λkk _ hkk=>setRow_other w b kk _ (λe=>hkk (by rw[e]))⟩
   have hzc:(ofValue z).cells.length=i.size:=by rw[gF hone];simp[hzl]
   have hrows':∀q∈ob.rows.take off++List.replicate len (ofValue z)++ob.rows.drop (off+len),q.cells.length=i.size:=by
    intro q hq;simp only[db]at hq;rcases hq with(hq|hq)|hq
    .exact g1 q (rq hq)
    .rw[(List.mem_replicate.1 hq).2];exact hzc
    .exact g1 q (List.mem_of_mem_drop hq)
   have hflat:flat (ob.rows.take off++List.replicate len (ofValue z)++ob.rows.drop (off+len))=
    (flat ob.rows).take (off*i.size)++(List.replicate len (ofValue z).cells).flatten++(flat ob.rows).drop (off*i.size+len*i.size):=by
    rw[gU,gU,xP,tm g1];congr 1;rw[yP g1,Nat.add_mul]
   have hzr:al I (aA I st.U) w (ofValue z).cells z.cells.toList:=by rw[gF hone];exact eQ _
   have hch:=hs.sat.change h2 O' (by omega) hgrow _ (ob.rows.take off++List.replicate len (ofValue z)++ob.rows.drop (off+len)) (xs.take (off*i.size)++(Builtin.zeroCells z.cells len).toList++xs.drop (off*i.size+(Builtin.zeroCells z.cells len).toList.length))
    (setRow_heap w b cur _ ob.elem _ e1) (by simp only[List.size_toArray,iE,ia,rW,hnl];rw[Array.length_toList];omega) (by simp;omega) hrows'
    (by rw[hflat,hnl,hnews];exact((g2.take _).append (hzr.replicate len)).append (g2.drop _))
    (by intro u hu
        simp only[db]at hu;rcases hu with(hu|hu)|hu
        .exact g3 u (rq hu)
        .exact hone' u hu
        .exact g3 u (List.mem_of_mem_drop hu))
    (by intro j u hu
        have:=lF cur.toList xs _ g5 (off*i.size) (by rw[hnl,g4];omega) j u hu;simpa using this)
   exact hs.step hch.1 (cD.refl _) hch.2 (by simp) (by simp only[E'];exact⟨[],rfl,by simp[al]⟩)
def ab.clear{i:az}{l:List az}{sz:Nat}{z:V}{xv:VX}(hw:aP st.s i.g=some true)(ho:i.op=.clear sz z xv)
 {id off len:Nat}(h1:xv.ev st.s=.own id off len){ob:Ob}(h2:st.U id=some ob)(h3:ob.sz=sz)(h4:off+len<=ob.rows.length)
 (h:ab P n (.ops l::k) ⟨aN st.s i.dst (.P' []),C' st.U id { ob with rows:=ob.rows.take off++List.replicate len z++ob.rows.drop (off+len) }⟩ Q):ab P n (.ops (i::l)::k) st Q:=by
 refine ab.ins (by rw[ho];simp) hw λF hn I a w o all hi hs next Q' Yd=>?_
 subst hn;obtain⟨Yf,hd⟩:=bZ hi;rw[ho]at Yf;obtain⟨x,t,e,args,argTypes,ti,zv,g1,g2,g3,g4,g5,rfl,rfl,rfl⟩:=HL Yf;obtain⟨y,w',hx,Yk⟩:=B0 hs g1 g2 g3 g4 g5 h1 h2 h3 h4;unfold Oper.wp;rw[hx];refine Yd _ _ _ ⟨I,?_⟩ h;rw[<-hd];exact Yk
def nQ{y:Operand}{t:TypeId}{v:V}:cx n y≠.c (.iface t v):=by
 cases y
 case tmp m=>simp only[cx];split<;>simp
 case const u=>
  simp only[cx,ne_eq,VX.c.injEq];unfold ofValue;split
  .split<;>simp
  .unfold cellOf
   repeat' split
   all_goals simp
 all_goals simp[cx]
def vL{o:Op}{xa:VX}(h:Yn P n o=.ZG false xa (.c (.iface 0 .undef))):∃t x y m c yt e,o=.binOp .eql t x y yt/\y=.const (.slice none m c)/\P.underlying t=some (.slice e)/\cx n x=xa:=by
 cases o
 case binOp op t x y yt=>
  simp only[Yn]at h;split at h
  .cases op<;>simp only[reduceCtorEq,Yw.ZG.injEq,Bool.true_eq_false,false_and]at h;exact absurd h.2.2 nQ
  .split at h
   .cases op<;>simp only[reduceCtorEq]at h
   .cases h
  .split at h
   .rename_i hs;unfold bR at h;split at h
    .rename_i hy;obtain⟨rfl,hy⟩:=hy;simp only[Yw.ZG.injEq,and_true,true_and]at h;unfold Ay at hs;split at hs
     .rename_i e ht;unfold G3 UB at hy;split at hy
      .split at hy
       .exact⟨t,x,_,_,_,yt,e,rfl,rfl,ht,h⟩
       .cases hy
      .cases hy
     .cases hs
    .cases h
   .split at h
    .split at h
     .simp only[Yw.ZG.injEq,VX.c.injEq,V.iface.injEq]at h;exact absurd h.2.2.1 (by decide)
     .cases h
    .split at h
     .split at h
      .simp only[Yw.ZG.injEq,VX.c.injEq,V.iface.injEq]at h;exact absurd h.2.2.1 (by decide)
      .cases h
     ·(repeat' split at h)<;>cases h
 case call c=>
  obtain⟨callee,args,argTypes⟩:=c;cases callee
  case builtin b=>cases b<;>simp only[Yn]at h<;>(repeat' split at h)<;>cases h
  all_goals (simp only[Yn]at h;cases h)
 case unOp op t x=>cases op<;>simp only[Yn]at h<;>cases h
 case makeFunc f a b=>cases f<;>simp only[Yn]at h<;>(repeat' split at h)<;>cases h
 all_goals (simp only[Yn]at h;(repeat' split at h)<;>cases h)
def ab.G3{i:az}{l:List az}{xa:VX}(hw:aP st.s i.g=some true)(ho:i.op=.ZG false xa (.c (.iface 0 .undef))){sz:Nat}{rows:List V}
 (hx:xa.ev st.s=.sl sz rows)(h:∀b,(b=true->rows=[])->ab P n (.ops l::k) ⟨aN st.s i.dst (.bool b),st.U⟩ Q):ab P n (.ops (i::l)::k) st Q:=by
 refine ab.ins (by rw[ho];simp) hw λF hn I a w o all hi hs next Q' Yd=>?_
 subst hn;obtain⟨Yf,hd⟩:=bZ hi;rw[ho]at Yf;obtain⟨t,x,y,m,c,yt,e,g1,rfl,g2,rfl⟩:=vL Yf;have R:=bE hs x;rw[hx]at R;simp only[E']at R;obtain⟨ba,cap,hX,_,hr⟩:=R;have YD:(execOp a.eval o).run P w=.ok (.value (.bool ba.isNone)) w:=by
  unfold execOp;rw[g1];have hY:a.eval (.const (.slice none m c))=.slice none m c:=rfl;simp[hX,hY,eqGuard,Lib.run_eql_slice_nil w t e ba rows.length cap m c g2]
 unfold Oper.wp;rw[YD];refine Yd _ _ _ ⟨I,?_⟩ (h ba.isNone ?_)
 .rw[<-hd];exact hs.pure (by simp[E'])
 .intro hb;rcases hr with hr|⟨b,off,rfl,_⟩
  .exact hr
  .cases hb
def LJ{o:Op}{xa:VX}{neg:Bool}(h:Yn P n o=.ZG neg xa (.c (.iface 1 .undef))):∃op t x yt ms,o=.binOp op t x (.const .nilIface) yt/\((op=.eql/\neg=false)\/(op=.neq/\neg=true))/\P.underlying t=some (.interface ms)/\cx n x=xa:=by
 cases o
 case binOp op t x y yt=>
  simp only[Yn]at h;split at h
  .cases op<;>simp only[reduceCtorEq,Yw.ZG.injEq]at h
   .exact absurd h.2.2 nQ
   .exact absurd h.2.2 nQ
  .split at h
   .cases op<;>simp only[reduceCtorEq]at h
   .cases h
  .split at h
   .unfold bR at h;split at h
    .simp only[Yw.ZG.injEq,VX.c.injEq,V.iface.injEq]at h;exact absurd h.2.2.1 (by decide)
    .cases h
   .split at h
    .rename_i hs;split at h
     .rename_i hy;obtain⟨ho,hy⟩:=hy;simp only[Yw.ZG.injEq,and_true]at h;unfold sU at hs;split at hs
      .rename_i ms ht;unfold Oe at hy;split at hy
       .rcases ho with rfl|rfl
        .exact⟨.eql,t,x,yt,ms,rfl,.inl ⟨rfl,h.1.symm⟩,ht,h.2⟩
        .exact⟨.neq,t,x,yt,ms,rfl,.inr ⟨rfl,h.1.symm⟩,ht,h.2⟩
       .cases hy
      .cases hs
     .cases h
    .split at h
     .split at h
      .simp only[Yw.ZG.injEq,VX.c.injEq,V.iface.injEq]at h;exact absurd h.2.2.1 (by decide)
      .cases h
     ·(repeat' split at h)<;>cases h
 case call c=>
  obtain⟨callee,args,argTypes⟩:=c;cases callee
  case builtin b=>cases b<;>simp only[Yn]at h<;>(repeat' split at h)<;>cases h
  all_goals (simp only[Yn]at h;cases h)
 case unOp op t x=>cases op<;>simp only[Yn]at h<;>cases h
 case makeFunc f a b=>cases f<;>simp only[Yn]at h<;>(repeat' split at h)<;>cases h
 all_goals (simp only[Yn]at h;(repeat' split at h)<;>cases h)
def ab.TV{i:az}{l:List az}{xa:VX}{neg:Bool}(hw:aP st.s i.g=some true)(ho:i.op=.ZG neg xa (.c (.iface 1 .undef))){b:Bool}
 (hx:(xa.ev st.s=.Yz/\b=true)\/∃t v,xa.ev st.s=.iface t v/\b=false)(h:ab P n (.ops l::k) ⟨aN st.s i.dst (.bool (b != neg)),st.U⟩ Q):ab P n (.ops (i::l)::k) st Q:=by
 refine ab.ins (by rw[ho];simp) hw λF hn I a w o all hi hs next Q' Yd=>?_
 subst hn;obtain⟨Yf,hd⟩:=bZ hi;rw[ho]at Yf;obtain⟨op,t,x,yt,ms,g1,g2,g3,rfl⟩:=LJ Yf;have R:=bE hs x;have hY:a.eval (.const .nilIface)=.nilIface:=rfl;have hm:P.underlying t=some (.interface (P.methodsAt t)):=by simp[Program.methodsAt,g3]
 have YD:(execOp a.eval o).run P w=.ok (.value (.bool (b != neg))) w:=by
  unfold execOp;rw[g1];rcases hx with⟨hx,rfl⟩|⟨t',v,hx,rfl⟩
  .rw[hx]at R;simp only[E']at R;rcases g2 with⟨rfl,rfl⟩|⟨rfl,rfl⟩
   .simp[R,hY,eqGuard,run_eql_nil_nil w t hm]
   .simp[R,hY,eqGuard,run_neq_nil_nil w t hm]
  .rw[hx]at R;simp only[E']at R;obtain⟨y,hy,_⟩:=R;rcases g2 with⟨rfl,rfl⟩|⟨rfl,rfl⟩
   .simp[hy,hY,eqGuard,run_eql_held_nil w t t' y hm]
   .simp[hy,hY,eqGuard,run_neq_held_nil w t t' y hm]
 unfold Oper.wp;rw[YD];refine Yd _ _ _ ⟨I,?_⟩ h;rw[<-hd];exact hs.pure (by simp[E'])
def Kt{o:Op}{xa:VX}{neg:Bool}(h:Yn P n o=.ZG neg xa (.c (.iface 2 .undef))):∃op t x yt p r vr,o=.binOp op t x (.const .nilFunc) yt/\((op=.eql/\neg=false)\/(op=.neq/\neg=true))/\P.underlying t=some (.func p r vr)/\cx n x=xa:=by
 cases o
 case binOp op t x y yt=>
  simp only[Yn]at h;split at h
  .cases op<;>simp only[reduceCtorEq,Yw.ZG.injEq]at h
   .exact absurd h.2.2 nQ
   .exact absurd h.2.2 nQ
  .split at h
   .cases op<;>simp only[reduceCtorEq]at h
   .cases h
  .split at h
   .unfold bR at h;split at h
    .simp only[Yw.ZG.injEq,VX.c.injEq,V.iface.injEq]at h;exact absurd h.2.2.1 (by decide)
    .cases h
   .split at h
    .split at h
     .simp only[Yw.ZG.injEq,VX.c.injEq,V.iface.injEq]at h;exact absurd h.2.2.1 (by decide)
     .cases h
    .split at h
     .rename_i hs;split at h
      .rename_i hy;obtain⟨ho,hy⟩:=hy;simp only[Yw.ZG.injEq,and_true]at h;unfold OK at hs;split at hs
       .rename_i p r vr ht;unfold OT at hy;split at hy
        .rcases ho with rfl|rfl
         .exact⟨.eql,t,x,yt,p,r,vr,rfl,.inl ⟨rfl,h.1.symm⟩,ht,h.2⟩
         .exact⟨.neq,t,x,yt,p,r,vr,rfl,.inr ⟨rfl,h.1.symm⟩,ht,h.2⟩
        .cases hy
       .cases hs
      .cases h
     ·(repeat' split at h)<;>cases h
 case call c=>
  obtain⟨callee,args,argTypes⟩:=c;cases callee
  case builtin b=>cases b<;>simp only[Yn]at h<;>(repeat' split at h)<;>cases h
  all_goals (simp only[Yn]at h;cases h)
 case unOp op t x=>cases op<;>simp only[Yn]at h<;>cases h
 case makeFunc f a b=>cases f<;>simp only[Yn]at h<;>(repeat' split at h)<;>cases h
 all_goals (simp only[Yn]at h;(repeat' split at h)<;>cases h)
def ES{t:TypeId}{p r:Array TypeId}{vr:Bool}(w:World)(ht:P.underlying t=some (.func p r vr))(x:Value)(b:Bool)(hx:(x=.nilFunc/\b=true)\/(∃f q c,x=.func f q c)/\b=false):
 (binOp .eql t x .nilFunc).run P w=.ok (.bool b) w/\(binOp .neq t x .nilFunc).run P w=.ok (.bool (!b)) w:=by
 have he:(Op.equal t x .nilFunc).run P w=.ok b w:=by
  unfold Op.equal;rw[show Op.maxDepth=9999+1 from rfl];generalize 9999=d;rcases hx with⟨rfl,rfl⟩|⟨⟨f,q,c,rfl⟩,rfl⟩
  .simp[Op.equalIn,run_underlying ht]
  .simp[Op.equalIn,run_underlying ht]
 rcases hx with⟨rfl,rfl⟩|⟨⟨f,q,c,rfl⟩,rfl⟩
 .exact⟨by simp[binOp,he],by simp[binOp,he]⟩
 .exact⟨by simp[binOp,he],by simp[binOp,he]⟩
def ab.NF{i:az}{l:List az}{xa:VX}{neg:Bool}(hw:aP st.s i.g=some true)(ho:i.op=.ZG neg xa (.c (.iface 2 .undef))){b:Bool}
 (hx:(xa.ev st.s=.YQ/\b=true)\/∃f caps,xa.ev st.s=.fn f caps/\b=false)(h:ab P n (.ops l::k) ⟨aN st.s i.dst (.bool (b != neg)),st.U⟩ Q):ab P n (.ops (i::l)::k) st Q:=by
 refine ab.ins (by rw[ho];simp) hw λF hn I a w o all hi hs next Q' Yd=>?_
 subst hn;obtain⟨Yf,hd⟩:=bZ hi;rw[ho]at Yf;obtain⟨op,t,x,yt,p,r,vr,g1,g2,g3,rfl⟩:=Kt Yf;have R:=bE hs x;have hY:a.eval (.const .nilFunc)=.nilFunc:=rfl;have YD:(execOp a.eval o).run P w=.ok (.value (.bool (b != neg))) w:=by
  unfold execOp;rw[g1];have hX:(a.eval x=.nilFunc/\b=true)\/(∃f q c,a.eval x=.func f q c)/\b=false:=by
   rcases hx with⟨hx,rfl⟩|⟨f,caps,hx,rfl⟩
   .rw[hx]at R;simp only[E']at R;exact .inl ⟨R,rfl⟩
   .rw[hx]at R;simp only[E']at R;obtain⟨y,hy,_⟩:=R;exact .inr ⟨⟨_,_,_,hy⟩,rfl⟩
  obtain⟨q1,q2⟩:=ES w g3 (a.eval x) b hX;have hg:∀op,(eqGuard op t x (.const .nilFunc) (a.eval x) .nilFunc).run P w=.ok () w:=by
   intro op;rcases hX with⟨h1,_⟩|⟨⟨f,q,c,h1⟩,_⟩<;>rw[h1]<;>simp[eqGuard]
  rcases g2 with⟨rfl,rfl⟩|⟨rfl,rfl⟩
  .simp[hY,hg,q1]
  .simp[hY,hg,q2]
 unfold Oper.wp;rw[YD];refine Yd _ _ _ ⟨I,?_⟩ h;rw[<-hd];exact hs.pure (by simp[E'])
variable {P:Program} {n:Nat} {st:St} {Q:St->Prop} {k:List It}
def FF(l:List Nat)(s:Nat->V):Nat->V:=λi=>if l.contains i then s i else .undef
def CO(l:List Nat)(s:Nat->V)(i:Nat):FF l s i=if l.contains i then s i else .undef:=rfl
def mix(m:Nat)(a b:Nat->V):Nat->V:=λi=>if i<m then a i else b i
def FC(m:Nat)(a b:Nat->V)(i:Nat):mix m a b i=if i<m then a i else b i:=rfl
def Lw(m:Nat)(s:Nat->V):mix m s s=s:=by funext i;simp[mix]
def rS(s:Nat->V)(v:V):aN s none v=s:=rfl
def Fp{m d:Nat}(h:d<m)(a b:Nat->V)(v:V):aN (mix m a b) (some d) v=mix m (aN a (some d) v) b:=by
 funext i;simp only[aN,mix];split
 .rename_i e;subst e;simp[h]
 .split<;>rfl
def GI{m d:Nat}(h:m<=d)(a b:Nat->V)(v:V):aN (mix m a b) (some d) v=mix m a (aN b (some d) v):=by
 funext i;simp only[aN,mix];split
 .rename_i e;subst e;simp[Nat.not_lt.2 h]
 .split<;>rfl
def ab.mix(m:Nat){todo:List It}{s:Nat->V}{U:af}(h:ab P n todo ⟨Vc.mix m s s,U⟩ Q):ab P n todo ⟨s,U⟩ Q:=by
 rw[Lw]at h;exact h
def rk{s:Nat->V}{U:af}{agg:Bool}{sz d:Nat}{Post:V->af->Prop}:
 Ret [.cell agg sz (.t d)] ⟨s,U⟩ Post=dj (bB U agg sz (s d)) λv=>ak v U Post:=by
 unfold Ret ak nS;simp only[ei,gj,VX.ev];cases bB U agg sz (s d)<;>simp[dj]
def qR{s:Nat->V}{U:af}{agg:Bool}{sz d e:Nat}{Post:V->af->Prop}:
 Ret [.cell agg sz (.t d),.tmp (.t e)] ⟨s,U⟩ Post=dj (bB U agg sz (s d)) λv=>ak (.P' [v,s e]) U Post:=by
 unfold Ret ak nS;simp only[ei,gj,VX.ev];cases bB U agg sz (s d)<;>simp[dj]
def aa.ax{Z0 U:af}{id:Nat}{o:Ob}(h:aa Z0 U)(O':Z0 id=none):aa Z0 (Vc.C' U id o):=λi x hx=>by
 have YF:i≠id:=λe=>by rw[e,O']at hx;cases hx
 rw[ae YF];exact h i x hx
def aa.none{a b:af}(h:aa a b){i:Nat}(hi:b i=none):a i=none:=by
 cases ha:a i with
 |none=>rfl
 |some o=>rw[h i o ha]at hi;cases hi
def ao{U:af}{i j:Nat}{o:Ob}(h:U i=some o)(hj:U j=none):i≠j:=by rintro rfl;rw[h]at hj;cases hj
def ad{O:Orc P}{f:Nat}{d:Option Nat}{l:List az}{v:Nat->V}{ob:Ob}{s:Nat->V}{U:af}
 (h:∀id Z',aa U Z'->Z' id=some ob->U id=none->step P O n f (.r (.ops l::k)) ⟨aN s d (v id),Z'⟩ Q):
 NU P O n f l k d ⟨s,U⟩ Q (some λid=>(v id,Vc.C' U id ob)):=by
 rw[bD];exact λid O'=>h id _ ((aa.refl U).C' O') ag O'
def aW{O:Orc P}{f:Nat}{d:Option Nat}{l:List az}{v:Nat->V}{ob:Ob}{s:Nat->V}{U:af}
 (h:∀id Z',aa U Z'->Z' id=some ob->U id=none->step P O n f (.d l k) ⟨aN s d (v id),Z'⟩ Q):
 LK P O n f l k d ⟨s,U⟩ Q (some λid=>(v id,Vc.C' U id ob)):=by
 rw[fk];exact λid O'=>h id _ ((aa.refl U).C' O') ag O'
def CV{O:Orc P}{f:Nat}(t:Bool)(a b:bc):cR P O n f (.bool t) a b k st Q=((t=true->step P O n f (.r (.code a::k)) st Q)/\(t=false->step P O n f (.r (.code b::k)) st Q)):=by
 cases t<;>simp[cR,dy,both]
def ab.ay{i:az}{l:List az}{fx:VX}{xs:List VX}{s:Nat->V}{U:af}{f:FuncId}{caps:List V}{v:V}(hw:aP s i.g=some true)(ho:i.op=.call fx xs)
 (hf:fx.ev s=.fn f caps)(hc:au P f (xs.map (·.ev s)++caps) U λr Z'=>r=v/\Z'=U)(h:ab P n (.ops l::k) ⟨aN s i.dst v,U⟩ Q):
 ab P n (.ops (i::l)::k) ⟨s,U⟩ Q:=by
 refine ab.call hw ho hf hc ?_;rintro r Z' ⟨rfl,rfl⟩;exact h
def Da(op:BinOp)(k:IntKind)(a b:Int):x7 op (.int k a) (.int k b)=dX op k a b:=by simp[x7]
def Bs(op:BinOp)(a b:List UInt8):x7 op (.str a) (.str b)=qv op a b:=rfl
def xI(op:BinOp)(k k':IntKind)(a b:Int):qJ op (.int k a) (.int k' b)=jm op k a b:=rfl
def xr(op:BinOp)(a b:List UInt8):qJ op (.str a) (.str b)=vO op a b:=rfl
def Cn(id off n:Nat):cU false (.own id off n)=some (.int .i64 n):=rfl
def FW(sz:Nat)(rows:List V):cU false (.sl sz rows)=some (.int .i64 rows.length):=rfl
def y9:cU false .aC=some (.int .i64 0):=rfl
def A7(s:List UInt8):cU true (.str s)=some (.int .i64 s.length):=rfl
def zq(U:af)(ZZ id off len:Nat)(k:IntKind)(j:Int):bo U ZZ (.own id off len) (.int k j)=match U id with
 |some ob=>if ob.sz=ZZ/\0<=j/\j<len then some (.ptr id (off+j.toNat) 0)else none
 |none=>none:=rfl
def zp(U:af)(agg:Bool)(sz id i k:Nat):bB U agg sz (.ptr id i k)=match U id with
 |some ob=>match ob.rows[i]? with
  |some r=>if agg then(if k=0/\r.cells.length=sz then some (.agg r.cells)else if k+sz<=r.cells.length then some (.agg ((r.cells.drop k).take sz))else none)
     else r.cells[k]?
  |none=>none
 |none=>none:=rfl
def rV(U:af)(sz:Nat)(vs:List V):bB U true sz (.rp (.agg vs))=if vs.length=sz then some (.agg vs)else none:=rfl
def rM(U:af)(sz:Nat)(k:IntKind)(j:Int):bB U false sz (.rp (.int k j))=some (.int k j):=rfl
def Reads(U:af)(sz:Nat)(agg:Bool)(sv:V)(rows:List V):Prop:=
 cU false sv=some (.int .i64 rows.length)/\∀(i:Nat) v,rows[i]?=some v->∃p,bo U sz sv (.int .i64 i)=some p/\bB U agg sz p=some v
def Reads.ints{U:af}{l:List Int}:Reads U 1 false (.sl 1 (l.map (.int .i64 ·))) (l.map (.int .i64 ·)):=by
 refine⟨rfl,λi v hv=>?_⟩;obtain⟨n,hn,rfl⟩:∃n,l[i]?=some n/\v=.int .i64 n:=by
  rw[ry]at hv;cases h:l[i]? with
  |none=>simp[h]at hv
  |some n=>simp[h]at hv;exact⟨n,rfl,hv.symm⟩
 refine⟨.rp (.int .i64 n),?_,rfl⟩;simp[bo,hn]
def Reads.own{U:af}{sz id off len:Nat}{ob:Ob}(ho:U id=some ob)(hs:ob.sz=sz)(hl:off+len<=ob.rows.length)(h1:∀r∈ob.rows,r.cells=[r]):
 Reads U sz false (.own id off len) ((ob.rows.drop off).take len):=by
 refine⟨by simp[cU];omega,λi v hv=>?_⟩;have hi:i<len:=by
  have:=(jj.1 hv).1;simp at this;omega
 have hv':ob.rows[off+i]?=some v:=by
  rw[List.getElem?_take,ar hi,Mh]at hv;exact hv
 refine⟨.ptr id (off+i) 0,?_,?_⟩
 .simp[bo,ho,hs,hi]
 .simp[bB,ho,hv',h1 v (yd hv')]
def ai{m:Int}(h1:-9223372036854775808<=m:=by omega)(h2:m<=9223372036854775807:=by omega):Yr .i64 m:=by
 unfold Yr;rw[IntKind.wrap_i64];omega
mutual
/-- no row's number in it -/
def V.cu:V->Bool
 |.own ..|.ptr ..|.yl _=>false
 |.sl _ rows=>cj rows
 |.rp v=>v.cu
 |.fn _ caps=>cj caps
 |.bm _ caps=>cj caps
 |.iface _ v=>v.cu
 |.agg c|.P' c=>cj c
 |_=>true
def cj:List V->Bool
 |[]=>true
 |v::vs=>v.cu&&cj vs
end
def au.AL{P:Program}{f:FuncId}{args:List V}{U:af}{Post Post':V->af->Prop}(h:au P f args U Post)
 (hp:∀r Z',Post r Z'->ak r Z' Post'):au P f args U Post':=⟨h.1,λI w Yl hs hr=>(h.2 I w Yl hs hr).mono λe w' ⟨r,Z',Y',val,h1,h2,h3,h4,h5⟩=>by
 obtain⟨v',Z'',g1,g2,g3⟩:=hp r Z' h2;exact⟨v',Z'',Y',val,h1,g3,h3,h4.drop g1,g2 Y' _ _ _ _ h4 h5⟩⟩
mutual
/-- the same,with each row of its own as one that is only read -/
inductive Fz(U:af)(N:Nat->Prop):V->V->Prop
 |same (v:V) (h:v.cu=true):Fz U N v v
 |own (id off len:Nat) (ob:Ob) (rows:List V) (h1:U id=some ob) (h2:N id) (h3:off+len<=ob.rows.length) (h4:FzL U N ((ob.rows.drop off).take len) rows):
    Fz U N (.own id off len) (.sl ob.sz rows)
 |nil (sz:Nat):Fz U N .aC (.sl sz [])
 |sl (sz:Nat) (rows Yc:List V) (h:FzL U N rows Yc):Fz U N (.sl sz rows) (.sl sz Yc)
 |agg (cs ds:List V) (h:FzL U N cs ds):Fz U N (.agg cs) (.agg ds)
 |P' (cs ds:List V) (h:FzL U N cs ds):Fz U N (.P' cs) (.P' ds)
 |ptr (id i:Nat) (ob:Ob) (r u:V) (h1:U id=some ob) (h2:N id) (h3:ob.rows[i]?=some r) (h4:Fz U N r u):Fz U N (.ptr id i 0) (.rp u)
 |fn (f:FuncId) (cs ds:List V) (h:FzL U N cs ds):Fz U N (.fn f cs) (.fn f ds)
 |bm (f:FuncId) (cs ds:List V) (h:FzL U N cs ds):Fz U N (.bm f cs) (.bm f ds)
 |iface (t:TypeId) (v u:V) (h:Fz U N v u):Fz U N (.iface t v) (.iface t u)
inductive FzL(U:af)(N:Nat->Prop):List V->List V->Prop
 |nil:FzL U N [] []
 |cons (v u:V) (vs us:List V) (h:Fz U N v u) (h':FzL U N vs us):FzL U N (v::vs) (u::us)
end
section
variable {U K:af} {N:Nat->Prop} {I:Mu} {w0 w:World} {Zs:Nat->Prop}
def bj.lift{ow ow':Nat->Prop}{v u:V}{b off:Nat}(hv:∀cs,v≠.agg cs)(hu:∀cs,u≠.agg cs)(h:∀x,E' I ow w v x->E' I ow' w u x)
 (hr:bj I ow w v b off):bj I ow' w u b off:=by
 have e1:∃x,w.cell? ⟨b,off,none⟩=some x/\E' I ow w v x/\x.oneCell'=true:=by
  cases v<;>first|exact absurd rfl (hv _)|simpa only[bj]using hr
 obtain⟨x,h1,h2,h3⟩:=e1;have e2:∃x,w.cell? ⟨b,off,none⟩=some x/\E' I ow' w u x/\x.oneCell'=true:=⟨x,h1,h x h2,h3⟩
 cases u<;>first|exact absurd rfl (hu _)|simpa only[bj]using e2
mutual
def Fz.down(hs:Sat w0 Zs I U w)(hK:aa K U)(hN:∀id,N id->K id=none):∀{v u:V},Fz U N v u->(∀x,E' I (aA I U) w v x->E' I (aA I K) w u x)/\
 (∀b off,bj I (aA I U) w v b off->bj I (aA I K) w u b off)/\u.cells.length=v.cells.length
 |_,_,.same v h=>⟨λx hr=>E'.mono (cD.refl I) (cF.sub w hK) (YY _) v x hr,λb off hr=>bj.mono (cD.refl I) (cF.sub w hK) (YY _) v b off rfl hr,rfl⟩
 |_,_,.own id off len ob rows ho h2 hl h4=>by
  have hd:=FzL.down hs hK hN h4;have key:∀x,E' I (aA I U) w (.own id off len) x->E' I (aA I K) w (.sl ob.sz rows) x:=by
   intro x hr;simp only[E']at hr|-;have hlen:rows.length=len:=by rw[hd.2.2.2];simp;omega
   have Zb:=hs.obj id ob ho;split at hr
   .exact hr.elim
   .obtain⟨rfl,rfl,rfl⟩:=hr;have:rows=[]:=vx hlen;subst this;exact⟨none,0,by simp,by simp,.inl rfl⟩
   .rename_i b sz cap hb;obtain⟨o,c,rfl,h1,h2',h3,hz⟩:=hr;refine⟨_,c,by rw[hlen],by omega,?_⟩;by_cases h0:len=0
    .left;exact vx (by omega)
    .right;rw[hb]at Zb;obtain⟨g1,g2,g3,g4,g5⟩:=Zb.rows hz;have ho':o=off*sz:=by
      rcases h3 with h3|h3
      .exact h3
      .omega
     subst ho' g1;refine⟨b,_,rfl,?_,g2,?_⟩
     .rintro⟨ZL,ob',sz',cap',e1,e2⟩;have:=hs.inj ZL id ob' ob _ _ _ _ _ (hK _ _ e1) ho e2 hb;rw[this,hN id h2]at e1;cases e1
     .have:=(g5.drop off).take len;rw[jc]at this;exact hd.2.2.1 _ _ _ this
  exact⟨key,λb off' hr=>bj.lift (λ_=>by simp) (λ_=>by simp) key hr,rfl⟩
 |_,_,.nil sz=>by
  have key:∀x,E' I (aA I U) w .aC x->E' I (aA I K) w (.sl sz []) x:=λx hr=>by
   simp only[E']at hr|-;exact⟨none,0,by simpa using hr,by simp,.inl trivial⟩
  exact⟨key,λb off' hr=>bj.lift (λ_=>by simp) (λ_=>by simp) key hr,rfl⟩
 |_,_,.sl sz rows Yc h=>by
  have hd:=FzL.down hs hK hN h;have key:∀x,E' I (aA I U) w (.sl sz rows) x->E' I (aA I K) w (.sl sz Yc) x:=λx hr=>by
   simp only[E']at hr|-;obtain⟨a,cap,rfl,h1,h2⟩:=hr;refine⟨a,cap,by rw[hd.2.2.2],by rw[hd.2.2.2];exact h1,?_⟩;rcases h2 with h2|⟨b,off,h3,h4,h5,h6⟩
   .left;have:=hd.2.2.2;rw[h2]at this;exact vx this
   .exact .inr ⟨b,off,h3,λho=>h4 (ho.sub hK),h5,hd.2.2.1 _ _ _ h6⟩
  exact⟨key,λb off' hr=>bj.lift (λ_=>by simp) (λ_=>by simp) key hr,rfl⟩
 |_,_,.agg cs ds h=>by
  have hd:=FzL.down hs hK hN h;refine⟨λx hr=>?_,λb off hr=>?_,by simp only[V.cells];exact hd.2.2.2⟩
  .simp only[E']at hr|-;obtain⟨Yl,rfl,h1,h2⟩:=hr;exact⟨Yl,rfl,hd.1 _ h1,h2⟩
  .simp only[bj]at hr|-;exact hd.2.1 _ _ hr
 |_,_,.P' cs ds h=>by
  have hd:=FzL.down hs hK hN h;have key:∀x,E' I (aA I U) w (.P' cs) x->E' I (aA I K) w (.P' ds) x:=λx hr=>by
   simp only[E']at hr|-;obtain⟨Yl,rfl,h1⟩:=hr;exact⟨Yl,rfl,hd.1 _ h1⟩
  exact⟨key,λb off' hr=>bj.lift (λ_=>by simp) (λ_=>by simp) key hr,rfl⟩
 |_,_,.ptr id i ob r u ho h2 hi h4=>by
  have hd:=Fz.down hs hK hN h4;have key:∀x,E' I (aA I U) w (.ptr id i 0) x->E' I (aA I K) w (.rp u) x:=by
   intro x hr;simp only[E']at hr|-;have Zb:=hs.obj id ob ho;split at hr
   .rename_i b sz cap hb;obtain⟨rfl,hz⟩:=hr;rw[hb]at Zb;obtain⟨g1,g2,g3,g4,g5⟩:=Zb.rows hz;obtain⟨e1,e2⟩:=g5.get hi;rw[jc]at e2;have YE:¬aA I K b:=by
     rintro⟨ZL,ob',sz',cap',e1,e2⟩;have:=hs.inj ZL id ob' ob _ _ _ _ _ (hK _ _ e1) ho e2 hb;rw[this,hN id h2]at e1;cases e1
    refine⟨b,i*sz,by simp,?_,.inr YE,hd.2.1 _ _ ((dL _ _ _ _ _ _).2 e2)⟩;cases hc:r.cells with
    |nil=>rw[hc]at e1;simp at e1;omega
    |cons c cs=>
     rw[hc]at e2;simp only[aM]at e2;obtain⟨⟨y,hy,_⟩,_⟩:=e2;exact World.block_lt_of_cell? w _ hy
   .exact hr.elim
  exact⟨key,λb off' hr=>bj.lift (λ_=>by simp) (λ_=>by simp) key hr,rfl⟩
 |_,_,.fn f cs ds h=>by
  have hd:=FzL.down hs hK hN h;have key:∀x,E' I (aA I U) w (.fn f cs) x->E' I (aA I K) w (.fn f ds) x:=λx hr=>by
   simp only[E']at hr|-;obtain⟨Yl,rfl,h1⟩:=hr;exact⟨Yl,rfl,hd.1 _ h1⟩
  exact⟨key,λb off' hr=>bj.lift (λ_=>by simp) (λ_=>by simp) key hr,rfl⟩
 |_,_,.bm f cs ds h=>by
  have hd:=FzL.down hs hK hN h;have key:∀x,E' I (aA I U) w (.bm f cs) x->E' I (aA I K) w (.bm f ds) x:=λx hr=>by
   simp only[E']at hr|-;obtain⟨Yl,rfl,h1⟩:=hr;exact⟨Yl,rfl,hd.1 _ h1⟩
  exact⟨key,λb off' hr=>bj.lift (λ_=>by simp) (λ_=>by simp) key hr,rfl⟩
 |_,_,.iface t v u h=>by
  have hd:=Fz.down hs hK hN h;have key:∀x,E' I (aA I U) w (.iface t v) x->E' I (aA I K) w (.iface t u) x:=λx hr=>by
   simp only[E']at hr|-;obtain⟨y,rfl,h1⟩:=hr;exact⟨y,rfl,hd.1 _ h1⟩
  exact⟨key,λb off' hr=>bj.lift (λ_=>by simp) (λ_=>by simp) key hr,rfl⟩
def FzL.down(hs:Sat w0 Zs I U w)(hK:aa K U)(hN:∀id,N id->K id=none):∀{vs us:List V},FzL U N vs us->(∀l,al I (aA I U) w vs l->al I (aA I K) w us l)/\
 (∀b off,aM I (aA I U) w vs b off->aM I (aA I K) w us b off)/\(∀b off sz,aS I (aA I U) w vs b off sz->aS I (aA I K) w us b off sz)/\us.length=vs.length
 |_,_,.nil=>⟨λl h=>by simpa[al]using h,λ_ _ _=>by simp[aM],λ_ _ _ _=>by simp[aS],rfl⟩
 |_,_,.cons v u vs us h h'=>by
  have hd:=Fz.down hs hK hN h;have hd':=FzL.down hs hK hN h';refine⟨λl hr=>?_,λb off hr=>?_,λb off sz hr=>?_,by simp[hd'.2.2.2]⟩
  .simp only[al]at hr|-;obtain⟨x,xs,rfl,h1,h2⟩:=hr;exact⟨x,xs,rfl,hd.1 _ h1,hd'.1 _ h2⟩
  .simp only[aM]at hr|-;obtain⟨⟨x,h1,h2,h3⟩,h4⟩:=hr;exact⟨⟨x,h1,hd.1 _ h2,h3⟩,hd'.2.1 _ _ h4⟩
  .simp only[aS]at hr|-;exact⟨by rw[hd.2.2];exact hr.1,hd.2.1 _ _ hr.2.1,hd'.2.2.1 _ _ _ hr.2.2⟩
end
def Fz.wk{v u:V}(h:Fz U N v u)(hK:aa K U)(hN:∀id,N id->K id=none):Wk U K v u:=λ_ _ _ _ x hs hr=>(Fz.down hs hK hN h).1 x hr
end
variable {P:Program} {n:Nat} {st:St} {Q:St->Prop} {k:List It} {I:Mu} {w w':World}
abbrev gh(o:Obj)(env:List V:=[]):Ob:=⟨0,0,.obj o::env⟩
def Sat.TE{w0:World}{Zs:Nat->Prop}{U:af}(h:Sat w0 Zs I U w)(o:Obj)(env:List V)(he:al I (aA I U) w env (tmpsOf o)):
 ∃id,U id=none/\∃Y':Mu,Y' id=.Zr w.heap.size 0 0/\cD I Y'/\Sat w0 Zs Y' (C' U id (gh o env)) (w.alloc o)/\cF (aA I U) (aA Y' (C' U id (gh o env))) w (w.alloc o):=by
 obtain⟨id,O',YK,Zn⟩:=h.dp;have hle:cD I (λk=>if k=id then .Zr w.heap.size 0 0 else I k):=λk hk=>by
  have:k≠id:=λe'=>hk (e'▸O');simp[this]
 refine⟨id,YK,λk=>if k=id then .Zr w.heap.size 0 0 else I k,by simp,hle,?_⟩;refine h.put (row:=none) (World.grownBy_alloc w o none) (by simp) hle (Zn _) id (gh o env) (λo' ho=>?_) (λi o' hi ho=>?_) (λb' sz' cap' hb'=>?_) (λhk=>?_)
 .simp[C']at ho;exact ho.symm
 .simp only[C',av hi]at ho;exact⟨ho,by simp⟩
 .simp only[if_true,Pl.Zr.injEq]at hb';exact .inr (by omega)
 .simp only[if_true];exact .inr ⟨rfl,rfl,o,env,rfl,World.alloc_heap_new w o,al.mono hle hk (by simp) _ _ he⟩
def Sat.UU{w0:World}{Zs:Nat->Prop}{U:af}(h:Sat w0 Zs I U w){id b cap:Nat}{o:Ob}(ho:U id=some o)(O':I id=.Zr b 0 cap)(o':Obj)(env:List V)(he:al I (aA I U) w env (tmpsOf o')):
 Sat w0 Zs I (C' U id (gh o' env)) (w.putObj b o')/\cF (aA I U) (aA I (C' U id (gh o' env))) w (w.putObj b o'):=by
 have L':b<w.heap.size:=aA.lt h ⟨id,o,0,cap,ho,O'⟩;refine h.put (grownBy_putObj' w b o') (λb' hb'=>by cases hb';exact⟨id,o,0,cap,ho,O'⟩) (cD.refl _) h.fin id (gh o' env) (λx YM=>by simp[C']at YM;exact YM.symm)
  (λi x hi YM=>?_) (λb' sz' cap' hb'=>?_) (λhk=>?_)
 .simp only[C',av hi]at YM;refine⟨YM,λb' sz' cap' h4 h5=>hi ?_⟩;cases h5;exact h.inj i id x o _ _ _ _ _ YM ho h4 O'
 .rw[O']at hb';cases hb';exact .inl rfl
 .rw[O'];exact .inr ⟨rfl,rfl,o',env,rfl,World.putObj_heap_same L',al.mono (cD.refl _) hk (by simp) _ _ he⟩
def Sat.MQ{w0:World}{Zs:Nat->Prop}{U:af}(h:Sat w0 Zs I U w){id b cap:Nat}{o:Obj}{env:List V}(ho:U id=some (gh o env))(O':I id=.Zr b 0 cap):w.heap[b]?=some o/\al I (aA I U) w env (tmpsOf o):=by
 have:=h.obj id _ ho;rw[O']at this;rcases this with⟨_,_,_,h1,_⟩|⟨_,_,ob,env',h1,h2,h3⟩
 .omega
 .simp only[List.cons.injEq,V.obj.injEq]at h1;obtain⟨rfl,rfl⟩:=h1;exact⟨h2,h3⟩
variable {P:Program} {n:Nat} {st:St} {Q:St->Prop} {k:List It} {I:Mu} {w w':World}
def Sat.compose{w0:World}{Zs:Nat->Prop}{I Y':Mu}{U Z':af}(h0:Sat w0 Zs I U w)(Yk:Sat w (aA I U) Y' Z' w'):
 Sat w0 Zs Y' Z' w'/\cF (aA I U) (aA Y' Z') w w':=by
 have ZS:cF (aA I U) (aA Y' Z') w w':=λb hb hn=>⟨λho=>hn (Yk.fresh b ho hb),Yk.same b hb hn⟩
 refine⟨⟨jE h0.size Yk.size,Yk.os.trans h0.os,Yk.tape.trans h0.tape,Yk.output.trans h0.output,?_,Yk.fin,Yk.inj,Yk.obj,?_,h0.glob⟩,ZS⟩
 .intro b hb hn;have h1:¬aA I U b:=λho=>hn (h0.fresh b ho hb);exact(Yk.same b (Nat.lt_of_lt_of_le hb h0.size) h1).trans (h0.same b hb hn)
 .intro b hb L';exact h0.fresh b (Yk.fresh b hb (Nat.lt_of_lt_of_le L' h0.size)) L'
def Sat.here{w0:World}{Zs:Nat->Prop}{U:af}(h:Sat w0 Zs I U w):Sat w (aA I U) I U w:=
 ⟨YY _,rfl,rfl,rfl,λ_ _ _=>rfl,h.fin,h.inj,h.obj,λb hb _=>hb,h.oq⟩
def YC(P:Program)(Yv:Nat)(x:List V)(U:af)(Post:Bool->af->Prop):Prop:=
 ∀I w Yl l c,I Yv=.Zr l 0 c->Sat w (aA I U) I U w->al I (aA I U) w x Yl->
  YieldAt Fence.wide 0 P l Yl.toArray w λe w'=>∃b Z' Y',e=.returned (.bool b)/\Post b Z'/\cD I Y'/\Sat w (aA I U) Y' Z' w'
def yr{F:Fr}{m m':Nat}{l:Nat}{f:FuncId}{tmps:Array Value}{assign body:Code}{R:Ending->World->Prop}
 (h:RoundIn Fence.wide m P l f tmps assign body w R):RoundIn F.dW m' P l f tmps assign body w R:=
 ⟨trivial,λc cs _=>h.2 c cs (room_wide _)⟩
def ab.nv{i:az}{l:List az}{fx:VX}{xs:List VX}(hw:aP st.s i.g=some true)(ho:i.op=.call fx xs){Yv:Nat}(hf:fx.ev st.s=.yl Yv)
 {Post:Bool->af->Prop}(hc:YC P Yv (xs.map (·.ev st.s)) st.U Post)
 (h:∀b Z',Post b Z'->ab P n (.ops l::k) ⟨aN st.s i.dst (.bool b),Z'⟩ Q):ab P n (.ops (i::l)::k) st Q:=by
 refine ab.Oo hw λF hn I a w o all hi hs next Q' Yd=>?_
 subst hn;obtain⟨Yf,hd⟩:=bZ hi;rw[ho]at Yf;obtain⟨f0,args,argTypes,g1,rfl,rfl⟩:=mC Yf;have hfr:=bE hs f0;rw[hf]at hfr;simp only[E']at hfr;split at hfr
 .rename_i lb c O';have YN:=mK hs args.toList;obtain⟨fn,tmps,assign,body,hy,hR⟩:=hc I w _ lb c O' hs.sat.here YN;have YD:(execOp a.eval o).run P w=.ok (.round lb fn tmps assign body) w:=by
   unfold execOp;rw[g1];simp only[resolve,hfr,Deferred.ofValue,Sem.run_bind,Sem.run_pure,Result.andThen_ok,invoke];rw[<-hy];congr 2;apply Array.ext';simp
  refine⟨λ_ _=>trivial,?_⟩;rw[Oper.semAt_eq _ _ _ (by rw[g1];intro c e;cases e),YD];refine⟨lq F,yr (hR.mono ?_)⟩;rintro e w' ⟨b,Z',Y',rfl,hp,hle,Yk⟩;obtain⟨h1,h2⟩:=hs.sat.compose Yk;refine Yd _ _ _ ⟨Y',?_⟩ (h b Z' hp);rw[<-hd];exact hs.step h1 hle h2 Yk.size (by simp[E'])
 .exact hfr.elim
def aT(ZJ U Yx Z':af):Prop:=aa Yx Z'/\∀id o,ZJ id=none->U id=some o->Z' id=some o/\Yx id=none
def aT.refl{ZJ U:af}(h:aa ZJ U):aT ZJ U ZJ U:=⟨h,λ_ _ h1 h2=>⟨h2,h1⟩⟩
def aT.set{ZJ U Yx Z':af}(h:aT ZJ U Yx Z'){id:Nat}{o o':Ob}(O':Yx id=some o):aT ZJ U (C' Yx id o') (C' Z' id o'):=
 ⟨h.1.Pf,λi x h1 h2=>by
  obtain⟨h3,h4⟩:=h.2 i x h1 h2;have:i≠id:=λe=>by rw[e,O']at h4;cases h4
  simp[Vc.C',this,h3,h4]⟩
def aT.new{ZJ U Yx Z':af}(h:aT ZJ U Yx Z'){id:Nat}{o:Ob}(O':Z' id=none):aT ZJ U (C' Yx id o) (C' Z' id o):=
 ⟨h.1.Pf,λi x h1 h2=>by
  obtain⟨h3,h4⟩:=h.2 i x h1 h2;have:i≠id:=λe=>by rw[e,O']at h3;cases h3
  simp[Vc.C',this,h3,h4]⟩
def aT.sF{ZJ U Yx Z':af}(h:aT ZJ U Yx Z'){id:Nat}{o:Ob}(O':Z' id=none):aT ZJ U Yx (C' Z' id o):=
 ⟨h.1.trans (aa.C' (aa.refl _) O'),λi x h1 h2=>by
  obtain⟨h3,h4⟩:=h.2 i x h1 h2;have:i≠id:=λe=>by rw[e,O']at h3;cases h3
  simp[Vc.C',this,h3,h4]⟩
def Iter(P:Program)(g:FuncId)(caps:List V)(xs:List (List V)):Prop:=
 bV P g=true/\∀(Yv:Nat) (J Jx:List (List V)->af->Prop) (Z0:af),
  (∀pre x post ZJ U,xs=pre++x::post->J pre ZJ->aa ZJ U->
    YC P Yv x U λb Z'=>∃Yx,aT ZJ U Yx Z'/\((b=true/\J (pre++[x]) Yx)\/(b=false/\Jx (pre++[x]) Yx)))->
  J [] Z0->tM P g (.yl Yv::caps) Z0 λ_ Z'=>J xs Z'\/∃pre,pre <+: xs/\Jx pre Z'
variable {P:Program} {n:Nat} {st:St} {Q:St->Prop} {k:List It} {I:Mu} {w w':World}
def lf(s:Nat->V):List Nat->List V->Nat->V
 |p::ps,x::xs=>lf (λi=>if i=p then x else s i) ps xs
 |_,_=>s
def exK:List (Nat×(St->Prop))->List It
 |[]=>[]
 |(id,μ)::l=>.inBlock id::.stop μ::exK l
def F6{U Z':af}{id:Nat}(h:aa U Z'):aa (del U id) (del Z' id):=λi o e=>by
 unfold del at e|-;split at e
 .cases e
 .rename_i hi;rw[av hi];exact h i o e
def Sat.more{w0:World}{Zs:Nat->Prop}{U:af}(h:Sat w0 Zs I U w)(o:Obj):Sat w0 Zs I U (w.alloc o)/\cF (aA I U) (aA I U) w (w.alloc o):=by
 have hsame:∀b,b<w.heap.size->(w.alloc o).heap[b]?=w.heap[b]?:=λb hb=>Go.RowKit.Below.heap_alloc w o b hb;have hk:cF (aA I U) (aA I U) w (w.alloc o):=λb hb hn=>⟨hn,hsame b hb⟩
 refine⟨⟨by have:=h.size;simp;omega,h.os,h.tape,h.output,λb hb hn=>(hsame b (Nat.lt_of_lt_of_le hb h.size)).trans (h.same b hb hn),h.fin,h.inj,λid ob ho=>?_,h.fresh,h.glob⟩,hk⟩;exact(h.obj id ob ho).mono (cD.refl I) hk (by simp) λb sz cap hp=>hsame b (aA.lt h ⟨id,ob,sz,cap,ho,hp⟩)
def cK.enter{F:Fr}{a:Act}(hs:cK F I st a w)(fn:FuncId)(ps:Array Tmp)(assign body:Code):
 ∃mark W0 D,cK F I st { a with defers:=mark++a.defers } W0/\(Instr.enterLoop fn a.tmps ps assign body F.dW.round).run P w=
  .ok (W0.heap.size,mark) (W0.alloc (.loop { state:=.ready,pending:=none,fn,tmps:=a.tmps,params:=ps,assign,body,defers:=D })):=by
 cases hrd:F.rd with
 |some lr=>
  obtain⟨l0,r0⟩:=lr;obtain⟨h1,_⟩:=hs.book.rnd l0 r0 hrd;refine⟨[],w,r0.defers,hs,?_⟩;have:F.dW.round=some l0:=by simp[Fr.dW,hrd]
  rw[this];exact run_enterLoop_inner h1 fn a.tmps ps assign body
 |none=>
  have:F.dW.round=none:=by simp[Fr.dW,hrd]
  rw[this];refine⟨[{ target:=.collected w.heap.size,args:=#[] }],w.alloc (.deferred (some [])),w.heap.size,?_,?_⟩
  .obtain⟨h1,hk⟩:=hs.sat.more (.deferred (some []));have hb:=hs.book.gP hk;refine⟨h1,hs.le,hs.size,⟨hb.rnd,?_⟩,λi hi=>E'.mono (cD.refl I) hk (by simp) _ _ (hs.slot i hi)⟩;obtain⟨Ds,g1,g2,g3⟩:=hb.marks;obtain⟨Ds',g1',g2',g3'⟩:=hs.book.marks;refine⟨w.heap.size::Ds',by simp[g1'],?_,?_⟩
   .refine List.nodup_cons.2 ⟨λhin=>?_,g2'⟩;have:=(nP.1 (g3' _ hin).2.1).1;omega
   .intro D hD;simp only[cm]at hD;rcases hD with rfl|hD
    .refine⟨hs.sat.size,World.alloc_heap_new w _,λho=>?_⟩;have:=aA.lt hs.sat ho;omega
    .obtain⟨q1,q2,q3⟩:=g3' D hD;have L':=(nP.1 q2).1;exact⟨q1,(hk D L' q3).2.trans q2,q3⟩
  .rw[run_enterLoop_outer];simp
def H4(ps:List Nat):∀(xs:List Value) (t:Array Value) (vs:List V) (s:Nat->V) {ow:Nat->Prop} (m:Nat),t.size=m->al I ow w vs xs->vs.length=ps.length->
 (∀i,i<m->E' I ow w (s i) (t.getD i undef))->
 ((ps.zip xs).foldl (λt (p,v)=>t.setIfInBounds p v) t).size=m/\∀i,i<m->E' I ow w (lf s ps vs i) (((ps.zip xs).foldl (λt (p,v)=>t.setIfInBounds p v) t).getD i undef):=by
 induction ps with
 |nil=>intro xs t vs s ow m ht _ _ hi;exact⟨by simpa using ht,by simpa[lf]using hi⟩
 |cons p ps ih=>
  intro xs t vs s ow m ht hv hl hi;cases vs with
  |nil=>simp at hl
  |cons v vs=>
   simp only[al]at hv;obtain⟨x,xs',rfl,h1,h2⟩:=hv;simp only[List.zip_cons_cons,j4,lf];refine ih xs' (t.setIfInBounds p x) vs _ m (by simp[ht]) h2 (by simpa using hl) λi L'=>?_;by_cases hip:i=p
   .subst hip;rw[ar rfl,Zq7,Array.getElem?_setIfInBounds_self_of_lt (by omega)];exact h1
   .rw[av hip,Zq7,Array.getElem?_setIfInBounds_ne (λe=>hip e.symm),<-Zq7];exact hi i L'
variable {P:Program} {n:Nat} {st:St} {Q:St->Prop} {k:List It} {I:Mu} {w w':World}
def wB{b:Nat}{o o':Obj}(h:w.heap[b]?=some o)(hc:∀off x,w.cell? ⟨b,off,none⟩≠some x):
 (∀b',b'≠b->(w.putObj b o').heap[b']?=w.heap[b']?)/\∀(ow:Nat->Prop),sk ow ow w (w.putObj b o'):=by
 have YF:∀b',b'≠b->(w.putObj b o').heap[b']?=w.heap[b']?:=λb' hb=>World.putObj_heap_other hb;refine⟨YF,λow b' _ hn=>⟨hn,λoff x hx=>?_⟩⟩;by_cases hb:b'=b
 .subst hb;exact absurd hx (hc off x)
 .exact ek (YF b' hb) off x hx
def lL{b:Nat}{r:Loop}(h:w.heap[b]?=some (.loop r)):∀off x,w.cell? ⟨b,off,none⟩≠some x:=λoff x=>by simp[World.cell?,h]
def cK.WT{F F':Fr}{a:Act}{l:Nat}{r r':Loop}(hs:cK F I st a w)(hF:F.rd=some (l,r))(hF':F'={ F with rd:=some (l,r') })(hl:l<F.w0.heap.size->F.Zs l):
 cK F' I st a (w.putObj l (.loop r')):=by
 subst hF';obtain⟨h1,h2⟩:=hs.book.rnd l r hF;obtain⟨YF,hk⟩:=wB (o':=.loop r') h1 (lL h1);have hk:=hk (aA I st.U);have hz:w.heap.size<=(w.putObj l (.loop r')).heap.size:=by simp
 have L':=(nP.1 h1).1;refine⟨⟨by simpa using hs.sat.size,hs.sat.os,hs.sat.tape,hs.sat.output,λb hb hn=>?_,hs.sat.fin,hs.sat.inj,λid o ho=>?_,hs.sat.fresh,hs.sat.glob⟩,hs.le,hs.size,⟨λl' r'' e=>?_,?_⟩,λi hi=>E'.bL (cD.refl I) hk hz _ _ (hs.slot i hi)⟩
 .by_cases hb':b=l
  .subst hb';exact absurd (hl hb) hn
  .exact(YF b hb').trans (hs.sat.same b hb hn)
 .refine(hs.sat.obj id o ho).bL (cD.refl I) hk hz λb sz cap hp=>YF b ?_;rintro rfl;exact h2 ⟨id,o,sz,cap,ho,hp⟩
 .simp only[aB,Prod.mk.injEq]at e;obtain⟨rfl,rfl⟩:=e;exact⟨World.putObj_heap_same L',h2⟩
 .obtain⟨Ds,g1,g2,g3⟩:=hs.book.marks;refine⟨Ds,g1,g2,λD hD=>?_⟩;obtain⟨q1,q2,q3⟩:=g3 D hD;refine⟨q1,(YF D ?_).trans q2,q3⟩;rintro rfl;rw[h1]at q2;cases q2
def Sat.Rw{w0:World}{Zs:Nat->Prop}{U:af}(h:Sat w0 Zs I U w){Yv l c:Nat}(YK:U Yv=none)(O':I Yv=.Zr l 0 c)(YE:¬aA I U l){r:Loop}(hr:w.heap[l]?=some (.loop r))
 (hl:l<w0.heap.size->Zs l)(o:Obj)(env:List V)(he:al I (aA I U) w env (tmpsOf o)):Sat w0 Zs I (C' U Yv (gh o env)) (w.putObj l o):=by
 obtain⟨YF,_⟩:=wB (o':=o) hr (lL hr);have L':=(nP.1 hr).1;have hz:w.heap.size<=(w.putObj l o).heap.size:=by simp
 have hown:∀b,aA I (C' U Yv (gh o env)) b->aA I U b\/b=l:=by
  rintro b ⟨id,ob,sz,cap,h1,h2⟩;by_cases e:id=Yv
  .subst e;rw[O']at h2;cases h2;exact .inr rfl
  .rw[ae e]at h1;exact .inl ⟨id,ob,sz,cap,h1,h2⟩
 have hk:sk (aA I U) (aA I (C' U Yv (gh o env))) w (w.putObj l o):=λb ⟨off,x,hx⟩ hn=>by
  have ZO:b≠l:=by rintro rfl;exact lL hr off x hx
  exact⟨λho=>(hown b ho).elim hn ZO,ek (YF b ZO)⟩
 refine⟨by simpa using h.size,h.os,h.tape,h.output,λb hb hn=>?_,h.fin,?_,?_,?_,h.glob⟩
 .by_cases hb':b=l
  .subst hb';exact absurd (hl hb) hn
  .exact(YF b hb').trans (h.same b hb hn)
 .intro id ZL ob ob' b sz cap sz' cap' h1 h2 h3 h4;by_cases e:id=Yv<;>by_cases e':ZL=Yv
  .rw[e,e']
  .exfalso;subst e;rw[O']at h3;cases h3;rw[ae e']at h2;exact YE ⟨ZL,ob',sz',cap',h2,h4⟩
  .exfalso;subst e';rw[O']at h4;cases h4;rw[ae e]at h1;exact YE ⟨id,ob,sz,cap,h1,h3⟩
  .rw[ae e]at h1;rw[ae e']at h2;exact h.inj id ZL ob ob' b sz cap sz' cap' h1 h2 h3 h4
 .intro id ob ho;by_cases e:id=Yv
  .subst e;rw[ag]at ho;cases ho;rw[O'];exact .inr ⟨rfl,rfl,o,env,rfl,World.putObj_heap_same L',al.bL (cD.refl I) hk hz _ _ he⟩
  .rw[ae e]at ho;refine(h.obj id ob ho).bL (cD.refl I) hk hz λb sz cap hp=>YF b ?_;rintro rfl;exact YE ⟨id,ob,sz,cap,ho,hp⟩
 .intro b hb hlt';rcases hown b hb with h1|h1
  .exact h.fresh b h1 hlt'
  .subst h1;exact hl hlt'
variable {P:Program} {n:Nat} {st:St} {Q:St->Prop} {k:List It} {I:Mu} {w w':World}
def B9:List (Nat×(St->Prop))->List KI
 |[]=>[]
 |(id,μ)::l=>.inBlock id::.stop μ::B9 l
def Gc:∀(l:List (Nat×(St->Prop))),(B9 l).map (KI.it P n)=exK l
 |[]=>rfl
 |(id,μ)::l=>by simp[B9,exK,KI.it,Gc l]
def jk{F:Fr}{e:Exit}{a:Act}(he:e≠.normal):∀(l:List (Nat×(St->Prop))),kO P F Q (B9 l) e a w->
 (e=.ret/\∃st,Q st/\ef F st a w)\/∃id μ,(id,μ)∈l/\e=.exit id/\∃st,μ st/\ef F st a w
 |[],h=>.inl ⟨h.1.resolve_left he,h.2⟩
 |(id,μ)::l,h=>by
  have h:Exit.inBlock id (kO P F Q (.stop μ::B9 l)) e a w:=h;have up:kO P F Q (B9 l) e a w->_:=jk he l;have go:kO P F Q (B9 l) e a w->(e=.ret/\∃st,Q st/\ef F st a w)\/∃ZL I',(ZL,I')∈(id,μ)::l/\e=.exit ZL/\∃st,I' st/\ef F st a w:=λh=>by
   rcases up h with h|⟨i,I',h1,h2⟩
   .exact .inl h
   .exact .inr ⟨i,I',by simp[h1],h2⟩
  cases e with
  |normal=>exact absurd rfl he
  |exit j=>
   simp only[Exit.inBlock]at h;by_cases hj:j=id
   .rw[ar hj]at h;exact .inr ⟨id,μ,by simp,by rw[hj],h⟩
   .rw[av hj]at h;exact go h
  |_=>exact go h
def Ip:Option Nat->Code
 |none=>.ret
 |some id=>.exit id
def IV{rec:Loop}(hready:rec.state=.ready)(hpend:rec.pending=none)(htm:rec.tmps.size=n){s:Nat->V}{Yv:Nat}{x:List V}{ZJ U:af}
 (hx:x.length=rec.params.toList.length)(ZW:ZJ Yv=some (gh (.loop rec) ((List.range n).map s)))(G':aa ZJ U)
 (Jn:af->Prop)(exits:List Nat)(Jx:Option Nat->af->Prop)
 (hb:ab P n [.code (cX P n rec.assign),.stop λst1=>ab P n (.code (cX P n rec.body)::.stop (λst2=>∃Z2,aT (del ZJ Yv) (del U Yv) Z2 st2.U/\Jn Z2)::
   exK (exits.map λid=>(id,λst2=>∃Z2,aT (del ZJ Yv) (del U Yv) Z2 st2.U/\Jx (some id) Z2))) st1 (λst2=>∃Z2,aT (del ZJ Yv) (del U Yv) Z2 st2.U/\Jx none Z2)]
   ⟨lf s rec.params.toList x,del U Yv⟩ (λ_=>False)):
 YC P Yv x U λb Z'=>∃Yx,aT ZJ U Yx Z'/\((b=true/\Yx Yv=some (gh (.loop rec) ((List.range n).map s))/\Jn (del Yx Yv))\/
  (b=false/\∃e:Option Nat,Yx Yv=some (gh (.loop { rec with state:=.done,pending:=some (Ip e) }) ((List.range n).map s))/\Jx e (del Yx Yv)/\∀id,e=some id->id∈exits)):=by
 intro Y3 w3 Yl l c O' hsat hrep;have YK:=G' _ _ ZW;obtain⟨hl,henv⟩:=hsat.MQ YK O';have hvl:Yl.length=rec.params.toList.length:=by rw[<-hx];exact hrep.length
 have hy:=run_yield (P:=P) (args:=Yl.toArray) hl (by simpa using hvl);have YE:¬aA Y3 (del U Yv) l:=by
  rintro⟨id,o,sz,cap,h1,h2⟩;have:=hsat.inj id Yv o _ l sz cap 0 c (aa.zH U Yv id o h1) YK h2 O';subst this;simp[del]at h1
 have hks:cF (aA Y3 U) (aA Y3 (del U Yv)) w3 w3:=cF.sub w3 (aa.zH U Yv);have hslots:∀i,i<n->E' Y3 (aA Y3 (del U Yv)) w3 (s i) (rec.tmps.getD i undef):=λi hi=>by
  have hv:((List.range n).map s)[i]?=some (s i):=by simp[hi]
  obtain⟨y,h1,h2⟩:=henv.get hv;have:rec.tmps.getD i undef=y:=by
   simp only[tmpsOf]at h1;rw[Zq7,<-Array.getElem?_toList,h1];rfl
  rw[this];exact E'.mono (cD.refl _) hks (YY _) _ _ h2
 obtain⟨hg1,hg2⟩:=H4 rec.params.toList Yl rec.tmps x s n htm (al.mono (cD.refl _) hks (YY _) _ _ hrep) hx hslots;have hzip:(rec.params.zip Yl.toArray).foldl (λtmps (t,a)=>tmps.setIfInBounds t a) rec.tmps=(rec.params.toList.zip Yl).foldl (λt (p,v)=>t.setIfInBounds p v) rec.tmps:=by
  rw[<-Array.foldl_toList,Array.toList_zip]
 rw[hzip]at hy;refine⟨rec.fn,_,rec.assign,rec.body,hy,roundIn_of_wpIn (F:=Fence.wide) trivial ?_⟩;have ZV:cK ⟨w3,aA Y3 U,Y3,n,some (l,rec)⟩ Y3 ⟨lf s rec.params.toList x,del U Yv⟩ { tmps:=(rec.params.toList.zip Yl).foldl (λt (p,v)=>t.setIfInBounds p v) rec.tmps,defers:=[] } w3:=by
  refine⟨hsat.drop (aa.zH U Yv),cD.refl _,hg1,⟨λl' r' e=>?_,[],rfl,.nil,by simp⟩,hg2⟩;simp only[aB,Prod.mk.injEq]at e;obtain⟨rfl,rfl⟩:=e;exact⟨hl,YE⟩
 have h1:=hb ⟨w3,aA Y3 U,Y3,n,some (l,rec)⟩ rfl [.code rec.assign,.stop _] rfl _ w3 ⟨Y3,ZV⟩;refine wpIn_mono (F:=Fence.wide.inRound l) h1 ?_;intro e a1 w1 h;cases e with
 |normal=>
  obtain⟨st1,hI,μ4,hs4⟩:=h;have hpk:=hs4.WT (F':=⟨w3,aA Y3 U,Y3,n,some (l,{ rec with state:=.busy })⟩) (r':={ rec with state:=.busy }) rfl rfl (λ_=>⟨Yv,_,0,c,YK,O'⟩);refine⟨_,run_beginRound (hs4.book.rnd l rec rfl).1 hready,?_⟩;have h2:=hI ⟨w3,aA Y3 U,Y3,n,some (l,{ rec with state:=.busy })⟩ rfl (.code rec.body::.stop _::B9 _) (by simp only[dP,Gc];rfl) a1 _ ⟨μ4,hpk⟩;refine wpIn_mono (F:=Fence.wide.inRound l) h2 ?_;have fin:∀(st2:St) (a2:Act) (w2:World) (jump:Option Code) (Z2:af),ef ⟨w3,aA Y3 U,Y3,n,some (l,{ rec with state:=.busy })⟩ st2 a2 w2->aT (del ZJ Yv) (del U Yv) Z2 st2.U->
   ∃v w'',(Instr.endRound l jump).run P w2=.ok v w''/\v=.bool jump.isNone/\∃Z' Y' Yx,cD Y3 Y'/\Sat w3 (aA Y3 U) Y' Z' w''/\aT ZJ U Yx Z'/\
    Yx Yv=some (gh (.loop { rec with state:=if jump.isNone then .ready else .done,pending:=jump }) ((List.range n).map s))/\del Yx Yv=Z2:=by
   rintro st2 a2 w2 jump Z2 ⟨μ5,hs5⟩ hbs;obtain⟨q1,q2⟩:=hs5.book.rnd l _ rfl;have hid5:μ5 Yv=.Zr l 0 c:=(hs5.le Yv (show Y3 Yv≠.dp by rw[O'];simp)).trans O';have hn5:st2.U Yv=none:=by
    cases h:st2.U Yv with
    |none=>rfl
    |some o=>exact absurd ⟨Yv,o,0,c,h,hid5⟩ q2
   have hk5:cF (aA Y3 U) (aA μ5 st2.U) w3 w2:=λb hb hn=>⟨λho=>hn (hs5.sat.fresh b ho hb),hs5.sat.same b hb hn⟩
   have henv5:=al.mono hs5.le hk5 hs5.sat.size _ _ henv;have hn2:Z2 Yv=none:=by
    cases h:Z2 Yv with
    |none=>rfl
    |some o=>have:=hbs.1 Yv o h;rw[hn5]at this;cases this
   refine⟨_,_,run_endRound (P:=P) jump q1,rfl,C' st2.U Yv (gh (.loop { rec with state:=if jump.isNone then .ready else .done,pending:=jump }) ((List.range n).map s)),μ5,
    C' Z2 Yv (gh (.loop { rec with state:=if jump.isNone then .ready else .done,pending:=jump }) ((List.range n).map s)),hs5.le,?_,⟨hbs.1.Pf,λi o h1 h2=>?_⟩,ag,Gs hn2⟩
   .exact hs5.sat.Rw hn5 hid5 q2 q1 (λ_=>⟨Yv,_,0,c,YK,O'⟩) _ _ henv5
   .have YF:i≠Yv:=λe=>by rw[e,ZW]at h1;cases h1
    obtain⟨g1,g2⟩:=hbs.2 i o (by rw[cA YF];exact h1) (by rw[cA YF];exact h2);rw[ae YF,ae YF];exact⟨g1,g2⟩
  intro e a2 w2 h;cases e with
  |normal=>
   obtain⟨st2,⟨Z2,hbs,hj⟩,hs2⟩:=h;obtain⟨v,w'',g1,rfl,Z',Y',Yx,g2,g3,g4,g5,g6⟩:=fin st2 a2 w2 none Z2 hs2 hbs;refine⟨_,w'',g1,true,Z',Y',rfl,⟨Yx,g4,.inl ⟨rfl,?_,by rw[g6];exact hj⟩⟩,g2,g3⟩;rw[g5];have:({ rec with state:=.ready,pending:=none }:Loop)=rec:=by rw[<-hready,<-hpend]
   simp[this]
  |ret=>
   rcases jk (by simp) _ h with⟨_,st2,⟨Z2,hbs,hj⟩,hs2⟩|⟨_,_,_,h,_⟩
   .obtain⟨v,w'',g1,rfl,Z',Y',Yx,g2,g3,g4,g5,g6⟩:=fin st2 a2 w2 (some .ret) Z2 hs2 hbs;exact⟨_,w'',g1,false,Z',Y',rfl,⟨Yx,g4,.inr ⟨rfl,none,g5,by rw[g6];exact hj,by simp⟩⟩,g2,g3⟩
   .cases h
  |exit id=>
   rcases jk (by simp) _ h with⟨h,_⟩|⟨ZL,μ,hin,h,st2,hI2,hs2⟩
   .cases h
   .cases h;simp only[gl,Prod.mk.injEq]at hin;obtain⟨id'',hin',rfl,rfl⟩:=hin;obtain⟨Z2,hbs,hj⟩:=hI2;obtain⟨v,w'',g1,rfl,Z',Y',Yx,g2,g3,g4,g5,g6⟩:=fin st2 a2 w2 (some (.exit id'')) Z2 hs2 hbs;exact⟨_,w'',g1,false,Z',Y',rfl,⟨Yx,g4,.inr ⟨rfl,some id'',g5,by rw[g6];exact hj,by simp[hin']⟩⟩,g2,g3⟩
  |goto t=>rcases jk (by simp) _ h with⟨h,_⟩|⟨_,_,_,h,_⟩<;>cases h
  |panic ch=>rcases jk (by simp) _ h with⟨h,_⟩|⟨_,_,_,h,_⟩<;>cases h
  |outgrown=>rcases jk (by simp) _ h with⟨h,_⟩|⟨_,_,_,h,_⟩<;>cases h
 |ret=>exact h.2.choose_spec.1.elim
 |exit id=>rcases h.1 with h|h<;>cases h
 |goto t=>rcases h.1 with h|h<;>cases h
 |panic ch=>rcases h.1 with h|h<;>cases h
 |outgrown=>rcases h.1 with h|h<;>cases h
variable {P:Program} {n:Nat} {st:St} {Q:St->Prop} {k:List It} {I:Mu} {w w':World}
def yq{a:Act}{g:Operand}{l:Nat}{f:FuncId}{cv:List Value}(h:a.eval g=.func (.func f) #[] ⟨cv⟩):
 (resolve a.eval (rangeCall g l) 0).run P w=.ok { target:=.fn (.func f) ⟨cv⟩,args:=#[.func (.yield l) #[] #[]] } w:=by
 simp only[resolve,h,Deferred.ofValue];simp[go_sem]
def ab.MV{g:VX}{ps:List Nat}{A B:bc}{gf:FuncId}{caps:List V}(hg:g.ev st.s=.fn gf caps){xs:List (List V)}{Z0:af}(hs00:aa Z0 st.U)
 (hit:bV P gf=true/\∀(Yv:Nat) (J Jx:List (List V)->af->Prop) (o:Ob),st.U Yv=none->
   (∀pre x post ZJ U,xs=pre++x::post->J pre ZJ->aa ZJ U->
     YC P Yv x U λb Z'=>∃Yx,aT ZJ U Yx Z'/\((b=true/\J (pre++[x]) Yx)\/(b=false/\Jx (pre++[x]) Yx)))->
   J [] (C' Z0 Yv o)->tM P gf (.yl Yv::caps) (C' st.U Yv o) λ_ Z'=>J xs Z'\/∃pre,pre <+: xs/\Jx pre Z')
 (hlen:∀x∈xs,x.length=ps.length)(exits:List Nat)(J:List (List V)->af->Prop)(Jx:Option Nat->List (List V)->af->Prop)(h0:J [] Z0)
 (hbody:∀pre x post ZJ U,xs=pre++x::post->J pre ZJ->aa ZJ U->
   ab P n [.code A,.stop λst1=>ab P n (.code B::.stop (λst2=>∃Z2,aT ZJ U Z2 st2.U/\J (pre++[x]) Z2)::
    exK (exits.map λid=>(id,λst2=>∃Z2,aT ZJ U Z2 st2.U/\Jx (some id) (pre++[x]) Z2))) st1 (λst2=>∃Z2,aT ZJ U Z2 st2.U/\Jx none (pre++[x]) Z2)]
    ⟨lf st.s ps x,U⟩ (λ_=>False))
 (hdone:∀Z',J xs Z'->ab P n k ⟨st.s,Z'⟩ Q)
 (hexit:∀id∈exits,∀pre Z',pre <+: xs->Jx (some id) pre Z'->ab P n (.code (.exit id)::k) ⟨st.s,Z'⟩ Q)
 (hret:∀pre Z',pre <+: xs->Jx none pre Z'->ab P n (.code .ret::k) ⟨st.s,Z'⟩ Q):ab P n (.code (.cE g ps A B)::k) st Q:=by
 intro F hn kt hk a w hs;subst hn;obtain⟨z,kt',rfl,hy,ZU⟩:=dn hk;obtain⟨c0,rfl,hc⟩:=fX hy;have hc0:∃g0 ps0 a0 b0,c0=.rangeFunc g0 ps0 a0 b0/\cx F.n g0=g/\ps0.toList=ps/\cX P F.n a0=A/\cX P F.n b0=B:=by
  cases c0<;>simp only[cX,reduceCtorEq,bc.cE.injEq]at hc
  case region=>(split at hc;cases hc);split at hc<;>cases hc
  exact⟨_,_,_,_,rfl,hc.1,hc.2.1,hc.2.2.1,hc.2.2.2⟩
 obtain⟨g0,ps0,a0,b0,rfl,rfl,rfl,rfl,rfl⟩:=hc0;obtain⟨I,hs⟩:=hs;have hrg:=bE hs g0;rw[hg]at hrg;simp only[E']at hrg;obtain⟨cv,hgv,hcv⟩:=hrg;refine wpIn_rangeFunc λfn _=>?_;obtain⟨mark,W0,D,YT,YD⟩:=hs.enter (P:=P) fn ps0 a0 b0;generalize hrec:({ state:=.ready,pending:=none,fn,tmps:=a.tmps,params:=ps0,assign:=a0,body:=b0,defers:=D }:Loop)=rec at YD;have hr1:rec.state=.ready:=by rw[<-hrec]
 have hr2:rec.pending=none:=by rw[<-hrec]
 have hr3:rec.tmps=a.tmps:=by rw[<-hrec]
 have hr4:rec.params=ps0:=by rw[<-hrec]
 have hr5:rec.assign=a0:=by rw[<-hrec]
 have hr6:rec.body=b0:=by rw[<-hrec]
 have hszn:rec.tmps.size=F.n:=by rw[hr3];exact hs.size
 have henv:al I (aA I st.U) W0 ((List.range F.n).map st.s) (tmpsOf (.loop rec)):=by
  have hl:tmpsOf (.loop rec)=(List.range F.n).map λi=>a.tmps.getD i undef:=by
   simp only[tmpsOf,hr3];apply List.ext_getElem
   .simp[hs.size]
   .intro i h1 h2;simp only[de,List.length_range]at h2;simp only[Array.getElem_toList,List.getElem_map,List.getElem_range];rw[Zq7,Array.getElem?_eq_getElem (by rw[hs.size];exact h2)];rfl
  rw[hl];have Ze:∀l:List Nat,(∀i∈l,i<F.n)->al I (aA I st.U) W0 (l.map st.s) (l.map λi=>a.tmps.getD i undef):=by
   intro l
   induction l with
   |nil=>intro _;simp[al]
   |cons i l ih=>
    intro h;simp only[dP,al];exact⟨_,_,rfl,YT.slot i (h i (by simp)),ih λj hj=>h j (by simp[hj])⟩
  exact Ze _ λi hi=>by simpa using hi
 obtain⟨Yv,hidn,μ1,hid1,hle1,hsat1,hk1⟩:=YT.sat.TE (.loop rec) _ henv;generalize hE:(List.range F.n).map st.s=env at*;have hcvt:al μ1 (aA μ1 (C' st.U Yv (gh (.loop rec) env))) (W0.alloc (.loop rec)) caps cv:=by
  have h1:al I (aA I st.U) W0 caps cv:=by
   have h2:=bE YT g0;rw[hg]at h2;simp only[E']at h2;obtain⟨cv',h3,h4⟩:=h2;have:a.eval g0=.func (.func gf) #[] ⟨cv'⟩:=h3;rw[hgv]at this;simp only[Value.func.injEq,Array.mk.injEq,true_and]at this;rw[this];exact h4
  exact al.mono hle1 hk1 (by simp) _ _ h1
 obtain⟨Zp,hiter⟩:=hit;have key:=hiter Yv (λpre ZJ=>ZJ Yv=some (gh (.loop rec) env)/\J pre (del ZJ Yv))
  (λpre ZJ=>∃e:Option Nat,ZJ Yv=some (gh (.loop { rec with state:=.done,pending:=some (Ip e) }) env)/\Jx e pre (del ZJ Yv)/\∀id,e=some id->id∈exits)
  (gh (.loop rec) env) hidn ?_ ⟨ag,by rw[Gs (hs00.none hidn)];exact h0⟩
 .refine⟨W0.heap.size,mark,_,_,_,gf,_,_,by rw[show F.dW.round=F.dW.round from rfl];exact YD,yq hgv,λ_ _=>trivial,
   by simp only[invoke];exact j9 Zp _,lq F,pY ?_⟩
  have YN:al μ1 (aA μ1 (C' st.U Yv (gh (.loop rec) env))) (W0.alloc (.loop rec)) (.yl Yv::caps) (.func (.yield W0.heap.size) #[] #[]::cv):=by
   simp only[al];exact⟨_,_,rfl,by simp[E',hid1],hcvt⟩
  have Zj:=key μ1 _ _ hsat1.here YN;have hvals:(Value.func (.yield W0.heap.size) #[] #[]::cv).toArray=#[.func (.yield W0.heap.size) #[] #[]]++⟨cv⟩:=by
   apply Array.ext';simp
  rw[hvals]at Zj;refine Zj.mono ?_;rintro e w2 ⟨r,Z',Y',val,rfl,hp,hle2,hs2,-⟩;obtain⟨hs3,hk3⟩:=hsat1.compose hs2;have hid2:Y' Yv=.Zr W0.heap.size 0 0:=(hle2 Yv (by rw[hid1];simp)).trans hid1;have fin:∀(rec2:Loop),Z' Yv=some (gh (.loop rec2) env)->rec2.state≠.busy->∃w4,(Instr.endLoop W0.heap.size).run P w2=.ok rec2.pending w4/\
   ef F ⟨st.s,del Z' Yv⟩ { a with defers:=mark++a.defers } w4:=by
   intro rec2 ZW Yy;obtain⟨hl2,henv2⟩:=hs2.MQ ZW hid2;refine⟨_,run_endLoop hl2 Yy,Y',?_⟩;have hset:=hs3.UU ZW hid2 (.loop { rec2 with state:=.exhausted }) env henv2;have G':aa (del Z' Yv) (C' Z' Yv (gh (.loop { rec2 with state:=.exhausted }) env)):=λi o h=>by
    unfold del at h;split at h
    .cases h
    .rename_i hi;rw[ae hi];exact h
   have hks:=cF.sub (I:=Y') (w2.putObj W0.heap.size (.loop { rec2 with state:=.exhausted })) G';have hsz2:=hs2.size;have hkall:cF (aA I st.U) (aA Y' (del Z' Yv)) W0 (w2.putObj W0.heap.size (.loop { rec2 with state:=.exhausted })):=λb hb hn=>by
    obtain⟨q1,q2⟩:=hk1 b hb hn;have hb1:b<(W0.alloc (.loop rec)).heap.size:=by simp;omega
    obtain⟨q3,q4⟩:=hk3 b hb1 q1;have Zu:b<w2.heap.size:=Nat.lt_of_lt_of_le hb1 hsz2;obtain⟨q5,q6⟩:=hset.2 b Zu q3;exact⟨λho=>q5 (ho.sub G'),q6.trans (q4.trans q2)⟩
   have hle3:cD I Y':=hle1.trans hle2;have hz:W0.heap.size<=(w2.putObj W0.heap.size (.loop { rec2 with state:=.exhausted })).heap.size:=by
    simp at hsz2|-;omega
   exact⟨hset.1.drop G',YT.le.trans hle3,YT.size,YT.book.gP hkall,λi hi=>E'.mono hle3 hkall hz _ _ (YT.slot i hi)⟩
  rcases hp with⟨ZW,hj⟩|⟨pre,hpre,e,ZW,hj,hin⟩
  .obtain⟨w4,g1,g2⟩:=fin rec ZW (by rw[hr1];simp);refine⟨_,w4,g1,?_⟩;rw[hr2];exact hdone _ hj F rfl kt' ZU _ _ g2
  .obtain⟨w4,g1,g2⟩:=fin _ ZW (by simp);refine⟨_,w4,g1,?_⟩;cases e with
   |none=>exact hret pre _ hpre hj F rfl (.code .ret::kt') (by simp[KI.it,ZU,cX]) _ _ g2
   |some id=>exact hexit id (hin id rfl) pre _ hpre hj F rfl (.code (.exit id)::kt') (by simp[KI.it,ZU,cX]) _ _ g2
 .intro pre x post ZJ U hxs hJ G';have hx:x.length=rec.params.toList.length:=by rw[hr4];exact hlen x (by rw[hxs];simp)
  have hb:=hbody pre x post (del ZJ Yv) (del U Yv) hxs hJ.2 (F6 G');subst hE;refine IV hr1 hr2 hszn hx hJ.1 G' (J (pre++[x])) exits (λe=>Jx e (pre++[x])) ?_;rw[hr4,hr5,hr6];exact hb
def ab.cE{g:VX}{ps:List Nat}{A B:bc}{gf:FuncId}{caps:List V}(hg:g.ev st.s=.fn gf caps){xs:List (List V)}(hit:Iter P gf caps xs)
 (hlen:∀x∈xs,x.length=ps.length)(exits:List Nat)(J:List (List V)->af->Prop)(Jx:Option Nat->List (List V)->af->Prop)(h0:J [] st.U)
 (hbody:∀pre x post ZJ U,xs=pre++x::post->J pre ZJ->aa ZJ U->
   ab P n [.code A,.stop λst1=>ab P n (.code B::.stop (λst2=>∃Z2,aT ZJ U Z2 st2.U/\J (pre++[x]) Z2)::
    exK (exits.map λid=>(id,λst2=>∃Z2,aT ZJ U Z2 st2.U/\Jx (some id) (pre++[x]) Z2))) st1 (λst2=>∃Z2,aT ZJ U Z2 st2.U/\Jx none (pre++[x]) Z2)]
    ⟨lf st.s ps x,U⟩ (λ_=>False))
 (hdone:∀Z',J xs Z'->ab P n k ⟨st.s,Z'⟩ Q)
 (hexit:∀id∈exits,∀pre Z',pre <+: xs->Jx (some id) pre Z'->ab P n (.code (.exit id)::k) ⟨st.s,Z'⟩ Q)
 (hret:∀pre Z',pre <+: xs->Jx none pre Z'->ab P n (.code .ret::k) ⟨st.s,Z'⟩ Q):ab P n (.code (.cE g ps A B)::k) st Q:=
 ab.MV hg (aa.refl _) ⟨hit.1,λYv J' Jx' _ _ hb h=>hit.2 Yv J' Jx' _ hb h⟩ hlen exits J Jx h0 hbody hdone hexit hret
variable {P:Program} {n:Nat} {st:St} {Q:St->Prop} {k:List It}
def dB(Yo:List (List Nat))(A':List Nat):List Nat:=(List.range Yo.length).filter λi=>!A'.contains i&&(Yo.getD i []).all A'.contains
abbrev ki(ops:Array Oper):List (List Nat):=ops.toList.map λo=>(o.after.toList.filter (Region.binds .any)).map (·.on)
def zn{ops:Array Oper}{arr:Array Bool}{A':List Nat}(hs:arr.size=ops.size)(hl:∀i,i<ops.size->arr.getD i true=A'.contains i)
 (ho:∀i∈A',i<ops.size):Region.ready .any ops arr=dB (ki ops) A':=by
 unfold Region.ready dB;have hlen:(ki ops).length=ops.size:=by simp[ki]
 rw[hlen];refine List.filter_congr λi hi=>?_;have hi:i<ops.size:=by simpa using hi
 rw[hl i hi];congr 1;have h1:ops[i]?=some ops[i]:=Array.getElem?_eq_getElem hi;have h2:(ki ops).getD i []=(ops[i].after.toList.filter (Region.binds .any)).map (·.on):=by
  rw[sH];simp[ki,hi]
 rw[h1,h2];simp only[Option.map_some,Option.getD_some];rw[<-Array.all_toList,List.all_map,List.all_filter];congr 1;funext e;simp only[Function.comp];have h3:arr.getD e.on false=A'.contains e.on:=by
  by_cases he:e.on<ops.size
  .rw[<-hl _ he,Zq7,Zq7,Array.getElem?_eq_getElem (by omega)];rfl
  .rw[Zq7,Array.getElem?_eq_none (by omega)];simp only[Option.getD_none];symm;rw[Bool.eq_false_iff];intro hc;exact he (ho _ (by simpa using hc))
 rw[h3]
def BB:(((((((type_of%@F7)/\(type_of%@Gj))/\((type_of%@FK)/\(type_of%@yA)))/\(((type_of%@wU)/\(type_of%@rk))/\((type_of%@qR)/\(type_of%@uE))))/\((((type_of%@DS)/\(type_of%@uu))/\((type_of%@tI)/\(type_of%@By)))/\(((type_of%@FO)/\(type_of%@yR))/\((type_of%@BN)/\(type_of%@CL)))))/\(((((type_of%@Fu)/\(type_of%@CM))/\((type_of%@xH)/\(type_of%@Ga)))/\(((type_of%@BV)/\(type_of%@Dg))/\((type_of%@Gz)/\(type_of%@CG))))/\((((type_of%@T9)/\(type_of%@Ts))/\((type_of%@Jj)/\(type_of%@Gp)))/\(((type_of%@La)/\(type_of%@KW))/\((type_of%@I7)/\((type_of%@I8)/\(type_of%@LC)))))))/\((((((type_of%@wP)/\(type_of%@wY))/\((type_of%@Bm)/\(type_of%@xK)))/\(((type_of%@vT)/\(type_of%@wA))/\((type_of%@uA)/\(type_of%@FT))))/\((((type_of%@KL)/\(type_of%@IC))/\((type_of%@KF)/\(type_of%@Jh)))/\(((type_of%@vH)/\(type_of%@tO))/\((type_of%@Dx)/\((type_of%@J4)/\(type_of%@Ow))))))/\(((((type_of%@OM)/\(type_of%@Oy))/\((type_of%@OR)/\(type_of%@Bv)))/\(((type_of%@CR)/\(type_of%@Cq))/\((type_of%@Lm)/\(type_of%@Oz))))/\((((type_of%@OU)/\(type_of%@OA))/\((type_of%@Ot)/\(type_of%@A9)))/\(((type_of%@DU)/\(type_of%@rS))/\((type_of%@Fp)/\((type_of%@GI)/\(type_of%@FC))))))))/\(((((((type_of%@yZ)/\(type_of%@zi))/\((type_of%@OL)/\(type_of%@Ok)))/\(((type_of%@TT)/\(type_of%@UE))/\((type_of%@Da)/\(type_of%@Bs))))/\((((type_of%@xI)/\(type_of%@xr))/\((type_of%@Cn)/\(type_of%@FW)))/\(((type_of%@y9)/\(type_of%@A7))/\((type_of%@zq)/\(type_of%@zp)))))/\(((((type_of%@rV)/\(type_of%@rM))/\((type_of%@ag)/\(type_of%@Gf)))/\(((type_of%@true_implies)/\(type_of%@false_implies))/\((type_of%@implies_true.{0})/\(type_of%@CO))))/\((((type_of%@List.getD_cons_zero.{0})/\(type_of%@List.getD_cons_succ.{0}))/\((type_of%@List.getD_nil.{0})/\(type_of%@List.map_cons.{0,0})))/\(((type_of%@List.map_nil.{0,0})/\(type_of%@List.length_cons.{0}))/\((type_of%@List.length_nil.{0})/\((type_of%@List.drop_succ_cons.{0})/\(type_of%@List.drop_zero.{0})))))))/\((((((type_of%@List.take_succ_cons.{0})/\(type_of%@List.take_zero.{0}))/\((type_of%@List.set_cons_zero.{0})/\(type_of%@List.set_cons_succ.{0})))/\(((type_of%@List.append_nil.{0})/\(type_of%@List.nil_append.{0}))/\((type_of%@List.cons_append.{0})/\(type_of%@List.all_cons.{0}))))/\((((type_of%@List.all_nil.{0})/\(type_of%@List.getElem?_cons_zero.{0}))/\((type_of%@List.getElem?_cons_succ.{0})/\(type_of%@List.contains_cons.{0})))/\(((type_of%@List.contains_nil.{0})/\(type_of%@Option.isSome_some.{0}))/\((type_of%@Option.map_some.{0,0})/\((type_of%@Option.map_none.{0,0})/\(type_of%@true_and))))))/\(((((type_of%@and_true)/\(type_of%@and_self))/\((type_of%@Nat.zero_add)/\(type_of%@Nat.add_zero)))/\(((type_of%@Bool.not_true)/\(type_of%@Bool.not_false))/\((type_of%@Bool.false_eq_true)/\(type_of%@Bool.or_true))))/\((((type_of%@Bool.true_or)/\(type_of%@Bool.or_false))/\((type_of%@Bool.false_or)/\(type_of%@Bool.true_and)))/\(((type_of%@Bool.and_true)/\(type_of%@Bool.and_self))/\((type_of%@decide_true)/\((type_of%@decide_false)/\(type_of%@decide_eq_true_eq)))))))):=
 ⟨⟨⟨⟨⟨⟨⟨@F7,@Gj⟩,⟨@FK,@yA⟩⟩,⟨⟨@wU,@rk⟩,⟨@qR,@uE⟩⟩⟩,⟨⟨⟨@DS,@uu⟩,⟨@tI,@By⟩⟩,⟨⟨@FO,@yR⟩,⟨@BN,@CL⟩⟩⟩⟩,⟨⟨⟨⟨@Fu,@CM⟩,⟨@xH,@Ga⟩⟩,⟨⟨@BV,@Dg⟩,⟨@Gz,@CG⟩⟩⟩,⟨⟨⟨@T9,@Ts⟩,⟨@Jj,@Gp⟩⟩,⟨⟨@La,@KW⟩,⟨@I7,⟨@I8,@LC⟩⟩⟩⟩⟩⟩,⟨⟨⟨⟨⟨@wP,@wY⟩,⟨@Bm,@xK⟩⟩,⟨⟨@vT,@wA⟩,⟨@uA,@FT⟩⟩⟩,⟨⟨⟨@KL,@IC⟩,⟨@KF,@Jh⟩⟩,⟨⟨@vH,@tO⟩,⟨@Dx,⟨@J4,@Ow⟩⟩⟩⟩⟩,⟨⟨⟨⟨@OM,@Oy⟩,⟨@OR,@Bv⟩⟩,⟨⟨@CR,@Cq⟩,⟨@Lm,@Oz⟩⟩⟩,⟨⟨⟨@OU,@OA⟩,⟨@Ot,@A9⟩⟩,⟨⟨@DU,@rS⟩,⟨@Fp,⟨@GI,@FC⟩⟩⟩⟩⟩⟩⟩,⟨⟨⟨⟨⟨⟨@yZ,@zi⟩,⟨@OL,@Ok⟩⟩,⟨⟨@TT,@UE⟩,⟨@Da,@Bs⟩⟩⟩,⟨⟨⟨@xI,@xr⟩,⟨@Cn,@FW⟩⟩,⟨⟨@y9,@A7⟩,⟨@zq,@zp⟩⟩⟩⟩,⟨⟨⟨⟨@rV,@rM⟩,⟨@ag,@Gf⟩⟩,⟨⟨@true_implies,@false_implies⟩,⟨@implies_true.{0},@CO⟩⟩⟩,⟨⟨⟨@List.getD_cons_zero.{0},@List.getD_cons_succ.{0}⟩,⟨@List.getD_nil.{0},@List.map_cons.{0,0}⟩⟩,⟨⟨@List.map_nil.{0,0},@List.length_cons.{0}⟩,⟨@List.length_nil.{0},⟨@List.drop_succ_cons.{0},@List.drop_zero.{0}⟩⟩⟩⟩⟩⟩,⟨⟨⟨⟨⟨@List.take_succ_cons.{0},@List.take_zero.{0}⟩,⟨@List.set_cons_zero.{0},@List.set_cons_succ.{0}⟩⟩,⟨⟨@List.append_nil.{0},@List.nil_append.{0}⟩,⟨@List.cons_append.{0},@List.all_cons.{0}⟩⟩⟩,⟨⟨⟨@List.all_nil.{0},@List.getElem?_cons_zero.{0}⟩,⟨@List.getElem?_cons_succ.{0},@List.contains_cons.{0}⟩⟩,⟨⟨@List.contains_nil.{0},@Option.isSome_some.{0}⟩,⟨@Option.map_some.{0,0},⟨@Option.map_none.{0,0},@true_and⟩⟩⟩⟩⟩,⟨⟨⟨⟨@and_true,@and_self⟩,⟨@Nat.zero_add,@Nat.add_zero⟩⟩,⟨⟨@Bool.not_true,@Bool.not_false⟩,⟨@Bool.false_eq_true,@Bool.or_true⟩⟩⟩,⟨⟨⟨@Bool.true_or,@Bool.or_false⟩,⟨@Bool.false_or,@Bool.true_and⟩⟩,⟨⟨@Bool.and_true,@Bool.and_self⟩,⟨@decide_true,⟨@decide_false,@decide_eq_true_eq⟩⟩⟩⟩⟩⟩⟩⟩
def CC:(∀(l:List V),V.cells (.agg l)=l)/\(V.cells (.undef )=[.undef ])/\(∀(k:IntKind) (i:Int),V.cells (.int k i)=[.int k i])/\(∀(b:Bool),V.cells (.bool b)=[.bool b])/\(∀(s:List UInt8),V.cells (.str s)=[.str s])/\(V.cells (.aC )=[.aC ])/\(∀(a:Nat) (l:List V),V.cells (.sl a l)=[.sl a l])/\(∀(a b c:Nat),V.cells (.own a b c)=[.own a b c])/\(∀(a b c:Nat),V.cells (.ptr a b c)=[.ptr a b c])/\(∀(a:V),V.cells (.rp a)=[.rp a])/\(V.cells (.nilp )=[.nilp ])/\(∀(f:FuncId) (l:List V),V.cells (.fn f l)=[.fn f l])/\(∀(f:FuncId) (l:List V),V.cells (.bm f l)=[.bm f l])/\(V.cells (.YQ )=[.YQ ])/\(∀(t:TypeId) (a:V),V.cells (.iface t a)=[.iface t a])/\(V.cells (.Yz )=[.Yz ])/\(∀(l:List V),V.cells (.P' l)=[.P' l])/\(∀(x:Value),V.cells (.raw x)=[.raw x])/\(∀(a:Nat),V.cells (.gp a)=[.gp a])/\(∀(a:Nat),V.cells (.yl a)=[.yl a])/\(∀(a:Nat),V.cells (.mp a)=[.mp a])/\(∀(l:List V),V.stays (.agg l)=true)/\(V.stays (.undef )=false)/\(∀(k:IntKind) (i:Int),V.stays (.int k i)=true)/\(∀(b:Bool),V.stays (.bool b)=true)/\(∀(s:List UInt8),V.stays (.str s)=true)/\(V.stays (.aC )=true)/\(∀(a:Nat) (l:List V),V.stays (.sl a l)=true)/\(∀(a b c:Nat),V.stays (.own a b c)=true)/\(∀(a b c:Nat),V.stays (.ptr a b c)=true)/\(∀(a:V),V.stays (.rp a)=true)/\(V.stays (.nilp )=true)/\(∀(f:FuncId) (l:List V),V.stays (.fn f l)=true)/\(∀(f:FuncId) (l:List V),V.stays (.bm f l)=true)/\(V.stays (.YQ )=true)/\(∀(t:TypeId) (a:V),V.stays (.iface t a)=true)/\(V.stays (.Yz )=true)/\(∀(l:List V),V.stays (.P' l)=false)/\(∀(a:Nat),V.stays (.gp a)=true)/\(∀(a:Nat),V.stays (.yl a)=true)/\(∀(a:Nat),V.stays (.mp a)=true):=
 ⟨λ_=>rfl,rfl,λ_ _=>rfl,λ_=>rfl,λ_=>rfl,rfl,λ_ _=>rfl,λ_ _ _=>rfl,λ_ _ _=>rfl,λ_=>rfl,rfl,λ_ _=>rfl,λ_ _=>rfl,rfl,λ_ _=>rfl,rfl,λ_=>rfl,λ_=>rfl,λ_=>rfl,λ_=>rfl,λ_=>rfl,λ_=>rfl,rfl,λ_ _=>rfl,λ_=>rfl,λ_=>rfl,rfl,λ_ _=>rfl,λ_ _ _=>rfl,λ_ _ _=>rfl,λ_=>rfl,rfl,λ_ _=>rfl,λ_ _=>rfl,rfl,λ_ _=>rfl,rfl,λ_=>rfl,λ_=>rfl,λ_=>rfl,λ_=>rfl⟩
def VE{p:Prop}[Decidable p]:(!decide p)=decide (¬p):=decide_not.symm
def sR{P:Program}{n:Nat}{todo:List It}{st:St}{Q:St->Prop}(h:step P Orc.nothing n 300 (.r todo) st Q):ab P n todo st Q:=ab.bn Orc.nothing 300 h
def sG{P:Program}{n:Nat}{t:Td}{st:St}{Q:St->Prop}(h:step P Orc.nothing n 300 t st Q):Go P n t st Q:=Go.bn Orc.nothing 300 t st h
attribute [go_sem] BB CC VE Orc.nothing aX eN aE dX jm qv vO gg fb H9 mf cP tB mI qO eo lg bS xY lx gk fC eff HA jG dY sM jM gJ lI mS MS binBV gW kR
def aa.No{Z0 U:af}{e:Nat}(h:aa Z0 U)(he:Z0 e=Option.none):aa Z0 (del U e):=λi x hx=>by
 have YF:i≠e:=λe'=>by rw[e',he]at hx;cases hx
 rw[cA YF];exact h i x hx
def jK:(∀{P:Program} {O:Orc P} {n:Nat} {k:List It} {st:St} {Q:St->Prop},step P O n 0 (.r k) st Q=Kof P n k st Q)/\(∀{P:Program} {n:Nat} {c:bc} {k:List It} {st:St} {Q:St->Prop},Kof P n (.code c::k) st Q=ab P n (.code c::k) st Q)/\
 (∀{P:Program} {n:Nat} {l:List az} {k:List It} {st:St} {Q:St->Prop},Kof P n (.ops l::k) st Q=ab P n (.ops l::k) st Q)/\(∀{P:Program} {n id:Nat} {k:List It} {st:St} {Q:St->Prop},Kof P n (.inBlock id::k) st Q=ab P n (.inBlock id::k) st Q)/\
 ∀{P:Program} {n:Nat} {st:St} {Q:St->Prop},Kof P n [] st Q=ab P n [] st Q:=⟨rfl,rfl,rfl,rfl,rfl⟩
def Wk.aC{U Z':af}(sz:Nat):Wk U Z' .aC (.sl sz []):=by
 intro I w0 w Zs x hs hr;simp only[E']at hr|-;exact⟨none,0,by simpa using hr,by simp,.inl trivial⟩
def aL(K U:af)(e sz:Nat)(v:V)(rows:List V):Prop:=(v=.aC/\rows=[])\/∃id,v=.own id 0 rows.length/\U id=some ⟨e,sz,rows⟩/\K id=none
def aL.wk{K U:af}{e sz:Nat}{v:V}{rows:List V}(h:aL K U e sz v rows){K':af}(hK:aa K' K)(hs:aa K' U):Wk U K' v (.sl sz rows):=by
 rcases h with⟨rfl,rfl⟩|⟨id,rfl,ho,hk⟩
 .exact Wk.aC sz
 .have:=Wk.own hs ho (hK.none hk) (off:=0) (len:=rows.length) (by simp);rw[Ad,ic]at this;exact this
def aL.K8{K U:af}{e sz:Nat}{v:V}{rows:List V}(h:aL K U e sz v rows)(hs:aa K U){v0:V}(hv:V.sl sz rows=v0):
 ak v U λr Z'=>r=v0/\Z'=K:=⟨_,K,hs,h.wk (aa.refl K) hs,hv,rfl⟩
def eL{P:Program}{n:Nat}{Q:St->Prop}{k:List It}{O:Orc P}{f:Nat}{d:Option Nat}{l:List az}{v:Nat->V}{ob:Ob}{s:Nat->V}{U:af}{e:Option Nat}
 (h:∀id Z',aa (bt U e) Z'->Z' id=some ob->U id=none->step P O n f (.r (.ops l::k)) ⟨aN s d (v id),Z'⟩ Q):
 NU P O n f l k d ⟨s,U⟩ Q (some λid=>(v id,Vc.C' (bt U e) id ob)):=by
 rw[bD];refine λid O'=>h id _ ((aa.refl _).C' ?_) ag O';cases e with
 |none=>exact O'
 |some e=>
  simp only[bt,del];split
  .rfl
  .exact O'
def kP{P:Program}{n:Nat}{Q:St->Prop}{k:List It}{O:Orc P}{f:Nat}{d:Option Nat}{l:List az}{v:Nat->V}{ob:Ob}{s:Nat->V}{U:af}{e:Option Nat}
 (h:∀id Z',aa (bt U e) Z'->Z' id=some ob->U id=none->step P O n f (.d l k) ⟨aN s d (v id),Z'⟩ Q):
 LK P O n f l k d ⟨s,U⟩ Q (some λid=>(v id,Vc.C' (bt U e) id ob)):=by
 rw[fk];refine λid O'=>h id _ ((aa.refl _).C' ?_) ag O';cases e with
 |none=>exact O'
 |some e=>
  simp only[bt,del];split
  .rfl
  .exact O'
def aL.dst{K U:af}{e sz:Nat}{v:V}{rows:List V}(h:aL K U e sz v rows){Z1:af}(hs:aa U Z1):
 ∃Yt,bP Z1 e sz v=some (rows,Yt)/\∀K':af,aa K' K->∀Z2,aa K' Z2->aa K' (bt Z2 Yt):=by
 rcases h with⟨rfl,rfl⟩|⟨id,rfl,ho,hk⟩
 .exact⟨none,rfl,λ_ _ _ h=>h⟩
 .refine⟨some id,?_,λK' hK Z2 h=>h.No (hK.none hk)⟩;simp only[bP,hs _ _ ho];rw[ar ⟨trivial,trivial,trivial,YY _⟩,ic]
def aL.start{K U:af}{e sz:Nat}:aL K U e sz .aC []:=.inl ⟨rfl,rfl⟩
def aL.new{K U:af}{e sz id:Nat}{rows:List V}{n:Nat}(hn:n=rows.length)(h:U id=some ⟨e,sz,rows⟩)(hk:K id=none):aL K U e sz (.own id 0 n) rows:=by
 subst hn;exact .inr ⟨id,rfl,h,hk⟩
def aL.len{K U:af}{e sz:Nat}{v:V}{rows:List V}(h:aL K U e sz v rows):cU false v=some (.int .i64 rows.length):=by
 rcases h with⟨rfl,rfl⟩|⟨id,rfl,ho,hk⟩<;>rfl
def aL.mono{K U Z':af}{e sz:Nat}{v:V}{rows:List V}(h:aL K U e sz v rows)(hs:aa U Z'):aL K Z' e sz v rows:=by
 rcases h with h|⟨id,h1,h2,h3⟩
 .exact .inl h
 .exact .inr ⟨id,h1,hs _ _ h2,h3⟩
def dh{U:af}{id e sz:Nat}{r:V}(h:U id=some ⟨e,sz,[r]⟩):bF U sz (.own id 0 1)=some [r]:=by
 simp[bF,h]
def Wk.ptr{U Z':af}(h:aa Z' U){id:Nat}{e sz:Nat}{r:V}(ho:U id=some ⟨e,sz,[r]⟩)(O':Z' id=none):Wk U Z' (.ptr id 0 0) (.rp r):=by
 intro I w0 w Zs x hs hr;simp only[E']at hr|-;have Zb:=hs.obj id _ ho;split at hr
 .rename_i b sz' cap hb;obtain⟨rfl,hz⟩:=hr;rw[hb]at Zb;have L':b<w.heap.size:=aA.lt hs ⟨id,_,_,_,ho,hb⟩;obtain⟨g1,g2,g3,g4,g5⟩:=Zb.rows hz;refine⟨b,_,rfl,L',.inr ?_,?_⟩
  .rintro⟨ZL,ob',sz'',cap'',e1,e2⟩;have:=hs.inj ZL id ob' _ _ _ _ _ _ (h _ _ e1) ho e2 hb;rw[this,O']at e1;cases e1
  .simp only[aS]at g5;have:=aS.mono (cD.refl I) (cF.sub w h) (YY _) [r] b 0 sz' rfl (by simp only[aS];exact⟨g5.1,g5.2.1,trivial⟩);simp only[aS]at this;simpa using this.2.1
 .exact hr.elim
def Wk.fn{U Z':af}{f:FuncId}{vs vs':List V}(h:WkL U Z' vs vs'):Wk U Z' (.fn f vs) (.fn f vs'):=by
 intro I w0 w Zs x hs hr;simp only[E']at hr|-;obtain⟨Yl,rfl,h1⟩:=hr;exact⟨Yl,rfl,WkL.all hs h h1⟩
def FL(sz:Nat)(ks:List Nat):Yh:=⟨26,.seq (.reg false [⟨some 4,.YO (.c (.bool false)),none⟩]) (.seq (.seq (.reg false [⟨some 6,.YO (.t 0),none⟩,⟨some 7,.len false (.t 6),none⟩,⟨some 8,.YO (.t 1),none⟩,⟨some 9,.len false (.t 8),none⟩,⟨some 10,.bin .neq (.t 7) (.t 9),none⟩]) (.cond (.t 10) (.seq (.reg false [⟨some 4,.YO (.c (.bool false)),none⟩]) .ret) .skip)) (.seq (.seq (.reg false [⟨some 5,.YO (.c (.int .i64 0)),none⟩]) (.block 0 (.loop (.seq (.seq (.reg false [⟨some 11,.YO (.t 5),none⟩,⟨some 12,.YO (.t 0),none⟩,⟨some 13,.len false (.t 12),none⟩,⟨some 14,.bin .lss (.t 11) (.t 13),none⟩]) (.cond (.t 14) .skip (.exit 0))) (.seq (.block 1 (.seq (.reg true [⟨some 17,.YO (.t 0),none⟩,⟨some 18,.YO (.t 5),none⟩,⟨some 19,.idxA sz (.t 17) (.t 18),none⟩,⟨some 20,.load true sz (.t 19),none⟩,⟨some 21,.YO (.t 1),none⟩,⟨some 22,.YO (.t 5),none⟩,⟨some 23,.idxA sz (.t 21) (.t 22),none⟩,⟨some 24,.load true sz (.t 23),none⟩,⟨some 25,.eqS true ks (.t 20) (.t 24),none⟩]) (.cond (.t 25) (.seq (.reg false [⟨some 4,.YO (.c (.bool false)),none⟩]) .ret) .skip))) (.reg false [⟨some 15,.YO (.t 5),none⟩,⟨some 16,.bin .add (.t 15) (.c (.int .i64 1)),none⟩,⟨some 5,.YO (.t 16),none⟩])))))) (.seq (.reg false [⟨some 4,.YO (.c (.bool true)),none⟩]) .ret))),[.tmp (.t 4)]⟩
def Ma{P:Program}{f:FuncId}{fn:Func}(hf:P.funcs[f]?=some fn){sz:Nat}{ks:List Nat}(hc:cfn P fn=some (FL sz ks))(hk:bV P f=true){α:Type}[DecidableEq α](enc:α->V)
 (he:∀a b,sM true ks (enc a) (enc b)=some (.bool (decide (a≠b))))(hl:∀U a,bB U true sz (.rp (enc a))=some (enc a))(xs ys:List α)(hx:xs.length<=1000000000000):
 aJ P f [.sl sz (xs.map enc),.sl sz (ys.map enc)] (.bool (decide (xs=ys))):=λU=>by
 refine au.jU hf hc hk (by simp[FL]) ?_;refine ab.mix 6 ?_;have n1:cU false (.sl sz (xs.map enc))=some (.int .i64 xs.length):=by simp[cU]
 have n2:cU false (.sl sz (ys.map enc))=some (.int .i64 ys.length):=by simp[cU]
 by_cases hlen:xs.length=ys.length
 .have q:((xs.length:Int)≠ys.length)=False:=T';apply sR;simp only[go_sem,seval,FL,n1,n2,q];refine ab.loop (λm st=>∃j,j<=xs.length/\m=xs.length-j/\xs.take j=ys.take j/\st.s 0=.sl sz (xs.map enc)/\st.s 1=.sl sz (ys.map enc)/\st.s 5=.int .i64 j/\st.U=U) xs.length ⟨0,by omega,rfl,rfl,rfl,rfl,rfl,rfl⟩ ?_;rintro m ⟨S,Z'⟩ ⟨j,hj,rfl,ht,t0,t1,t5,YK⟩;simp only at t0 t1 t5 YK;subst YK;refine ab.mix 6 ?_;by_cases L':j<xs.length
  .have q1:((j:Int)<xs.length)=True:=Yi;have hlt2:j<ys.length:=by omega
   have i1:∀U,bo U sz (.sl sz (xs.map enc)) (.int .i64 j)=some (.rp (enc xs[j])):=λU=>by simp[bo,L']
   have i2:∀U,bo U sz (.sl sz (ys.map enc)) (.int .i64 j)=some (.rp (enc ys[j])):=λU=>by simp[bo,hlt2]
   have hee:=he xs[j] ys[j];have tx:=Zq0 L';have ty:=Zq0 hlt2;by_cases hq:xs[j]=ys[j]
   .rw[show decide (xs[j]≠ys[j])=false by simpa using hq]at hee;apply sR;simp only[BB,seval,aX,eN,aE,dX,jm,Orc.nothing,t0,t1,t5,n1,q1,i1,i2,hl,hee];exact⟨ai,_,by omega,j+1,by omega,rfl,by rw[tx,ty,ht,hq],by simp⟩
   .rw[show decide (xs[j]≠ys[j])=true by simpa using hq]at hee;apply sR;simp only[BB,seval,aX,eN,aE,dX,jm,Orc.nothing,t0,t1,t5,n1,q1,i1,i2,hl,hee];refine ak.same ?_;have:¬xs=ys:=λh=>hq (by simp only[h]);rw[Zz this]
  .have q1:((j:Int)<xs.length)=False:=T';apply sR;simp only[go_sem,seval,t0,t5,n1,q1];refine ak.same ?_;rw[jW (by omega),jW (by omega)]at ht;rw[ZN ht]
 .have q:((xs.length:Int)≠ys.length)=True:=Yi;apply sR;simp only[go_sem,seval,FL,n1,n2,q];refine ak.same ?_;rw[Zz λh=>hlen (by rw[h])]
abbrev vI(n:Int):V:=.int .i64 n
structure Sty where
 (top YB Yp Yj Zv YV Zh head before after inside clear:Int)
deriving DecidableEq
def Sty.cells(s:Sty):List V:=[vI s.top,vI s.YB,vI s.Yp,vI s.Yj,vI s.Zv,vI s.YV,vI s.Zh,vI s.head,vI s.before,vI s.after,vI s.inside,vI s.clear]
structure Nd where
 (kind size:Int)
 (st:Sty)
 (line space:Int)
 (words:List Int)
 (side w h:Int)
deriving DecidableEq
def bh(l:List Int):V:=.sl 1 (l.map vI)
def Nd.cells(x:Nd):List V:=[vI x.kind,vI x.size,vI x.st.top,vI x.st.YB,vI x.st.Yp,vI x.st.Yj,vI x.st.Zv,vI x.st.YV,vI x.st.Zh,vI x.st.head,vI x.st.before,vI x.st.after,vI x.st.inside,vI x.st.clear,
 vI x.line,vI x.space,bh x.words,vI x.side,vI x.w,vI x.h]
def jD(x:Nd):V:=.agg x.cells
def mx:Int:=1099511627776
def aY(n a b:Int):Bool:=decide (n>=a/\n<=b)
def Sty.ok(s:Sty):Bool:=aY s.top 0 mx&&aY s.YB 0 mx&&aY s.Yp 0 mx&&aY s.Yj 0 mx&&aY s.Zv 0 mx&&aY s.YV 1 mx&&aY s.Zh 1 mx&&aY s.head 0 mx&&
 aY s.before 0 4&&aY s.after 0 4&&aY s.inside 0 1&&aY s.clear 0 3
def Sty.zero:Sty:=⟨0,0,0,0,0,0,0,0,0,0,0,0⟩
def aI(l:List Nd):V:=.sl 20 (l.map jD)
def eW(l:List Nd):cU false (aI l)=some (.int .i64 l.length):=by simp[aI,cU]
def cy(l:List Nd):(aI l).cells=[aI l]:=rfl
def eO(l:List Nd):(aI l).stays=true:=rfl
end Go.Vc
