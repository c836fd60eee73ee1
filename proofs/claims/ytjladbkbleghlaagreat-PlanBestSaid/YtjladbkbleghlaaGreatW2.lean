/- Part 2 of the library of this proof. -/
import Derived.Test.YtjladbkbleghlaaGreatW1
import Derived.TacticsIn
import Derived.RangeFuncNested
import Derived.RangeFuncLeaves
import Derived.Orders
import Derived.OrdersIn
import Derived.Lib.SliceRun
import Derived.WideLaws
import Derived.Attr
import Derived.Laws.RangeString
import Derived.Laws.Runes
set_option linter.all false
set_option maxHeartbeats 8000000
namespace Go.Vc
inductive It where
 |code (c:bM)
 |inBlock (id:Nat)
 |ops (l:List aK)
 |stop (μ:St->Prop)
inductive KI where
 |code (c:Code)
 |inBlock (id:Nat)
 |ops (all:Array Oper) (l:List Oper)
 |stop (μ:St->Prop)
def KI.it(P:Program)(n:Nat):KI->It
 |.code c=>.code (dx P n c)
 |.inBlock id=>.inBlock id
 |.ops all l=>.ops (l.map (bJ P n all))
 |.stop μ=>.stop μ
def Fr.eB(F:Fr):Fence:={ Fence.wide with round:=F.rd.map (·.1) }
def jY(F:Fr):F.eB.depth.isSome=true->1<=0:=λh=>by simp[Fr.eB,Fence.wide]at h
def mE{F:Fr}{n:Nat}{P:Program}{f:FuncId}{args:Array Value}{w:World}{R:Ending->World->Prop}(h:Calls P f args w R):CallsIn F.eB n P f args w R:=by
 have h1:CallsIn Fence.wide n P f args w R:=callsIn_wide.2 h;exact h1
def AY{F:Fr}{P:Program}{o:Oper}{a:Act}{w:World}{next:Act->World->Prop}{Q:Exit->Act->World->Prop}(hd:∀c,o.op≠.defer c)(h:o.wp P a w next Q):
 o.wpIn F.eB 0 P a w next Q:=by
 refine⟨λ_ _=>trivial,?_⟩;rw[Oper.semAt_eq _ _ _ hd];unfold Oper.wp at h;generalize (execOp a.eval o).run P w=r at*;cases r with
 |ok x w'=>
  cases x<;>simp only[Oper.upon,Oper.uponIn]at h|-<;>first
   |exact h
   |exact⟨jY F,mE h⟩
   |contradiction
   |skip
  exact⟨jY F,λc cs _=>let ⟨v,w',r,s⟩:=h c cs;⟨v,w',r,stepsIn_wide.2 s⟩⟩
 |halt x w'=>cases x<;>simp only[Oper.upon,Oper.uponIn]at h|-<;>first|exact h|contradiction
def jb{P:Program}{n:Nat}{o:Op}(h:LU P n o≠.bad)(c:Call):o≠.defer c:=λe=>by subst e;exact h rfl
def kz(P:Program)(F:Fr)(Q:St->Prop):List KI->Exit->Act->World->Prop
 |[],e,a,w=>(e=.normal\/e=.ret)/\∃st,Q st/\eE F st a w
 |.code c::k,e,a,w=>match e with
   |.normal=>c.wpIn F.eB 0 P (kz P F Q k) a w
   |e=>kz P F Q k e a w
 |.inBlock id::k,e,a,w=>Exit.inBlock id (kz P F Q k) e a w
 |.ops all l::k,e,a,w=>match e with
   |.normal=>wpListIn F.eB 0 P all (kz P F Q k) l a w
   |e=>kz P F Q k e a w
 |.stop μ::k,e,a,w=>match e with
   |.normal=>∃st,μ st/\eE F st a w
   |e=>kz P F Q k e a w
def ab(P:Program)(n:Nat)(todo:List It)(st:St)(Q:St->Prop):Prop:=
 ∀F:Fr,F.n=n->∀kt:List KI,kt.map (KI.it P n)=todo->∀a w,eE F st a w->kz P F Q kt .normal a w
variable {P:Program} {n:Nat} {st:St} {Q:St->Prop} {k:List It}
def ab.nil(h:Q st):ab P n [] st Q:=by
 intro F _ kt hk a w hs;cases kt with
 |nil=>exact⟨.inl rfl,st,h,hs⟩
 |cons x kt=>simp at hk
def eA{kt:List KI}{x:It}(h:kt.map (KI.it P n)=x::k):∃y M9,kt=y::M9/\y.it P n=x/\M9.map (KI.it P n)=k:=by
 cases kt with
 |nil=>simp at h
 |cons y M9=>simp only[fb,List.cons.injEq]at h;exact⟨y,M9,rfl,h.1,h.2⟩
def fQ{y:KI}{c:bM}(h:y.it P n=.code c):∃c0,y=.code c0/\dx P n c0=c:=by
 cases y<;>simp only[KI.it,It.code.injEq,reduceCtorEq]at h;exact⟨_,rfl,h⟩
def ab.skip(h:ab P n k st Q):ab P n (.code .skip::k) st Q:=by
 intro F hn kt hk a w hs;obtain⟨y,M9,rfl,hy,MD⟩:=eA hk;obtain⟨c0,rfl,hc⟩:=fQ hy;have Oj:c0=.skip:=by
  cases c0<;>simp only[dx,reduceCtorEq]at hc<;>(try (split at hc;cases hc))<;>(try (split at hc<;>cases hc))<;>try rfl
 subst Oj;exact wpIn_skip (h F hn M9 MD a w hs)
def ab.seq{x y:bM}(h:ab P n (.code x::.code y::k) st Q):ab P n (.code (.seq x y)::k) st Q:=by
 intro F hn kt hk a w hs;obtain⟨z,M9,rfl,hy,MD⟩:=eA hk;obtain⟨c0,rfl,hc⟩:=fQ hy;have Oj:∃x0 y0,c0=.seq x0 y0/\dx P n x0=x/\dx P n y0=y:=by
  cases c0<;>simp only[dx,reduceCtorEq,bM.seq.injEq]at hc
  case region=>(split at hc;cases hc);split at hc<;>cases hc
  exact⟨_,_,rfl,hc.1,hc.2⟩
 obtain⟨x0,y0,rfl,rfl,rfl⟩:=Oj;refine wpIn_seq (wpIn_mono (h F hn (.code x0::.code y0::M9) (by simp[KI.it,MD]) a w hs) ?_);intro e a' w' hq;cases e<;>exact hq
def ab.block{id:Nat}{x:bM}(h:ab P n (.code x::.inBlock id::k) st Q):ab P n (.code (.block id x)::k) st Q:=by
 intro F hn kt hk a w hs;obtain⟨z,M9,rfl,hy,MD⟩:=eA hk;obtain⟨c0,rfl,hc⟩:=fQ hy;have Oj:∃x0,c0=.block id x0/\dx P n x0=x:=by
  cases c0<;>simp only[dx,reduceCtorEq,bM.block.injEq]at hc
  case region=>(split at hc;cases hc);split at hc<;>cases hc
  obtain⟨rfl,h2⟩:=hc;exact⟨_,rfl,h2⟩
 obtain⟨x0,rfl,rfl⟩:=Oj;exact wpIn_block (h F hn (.code x0::.inBlock id::M9) (by simp[KI.it,MD]) a w hs)
def ab.inBlock{id:Nat}(h:ab P n k st Q):ab P n (.inBlock id::k) st Q:=by
 intro F hn kt hk a w hs;obtain⟨z,M9,rfl,hy,MD⟩:=eA hk;cases z<;>simp only[KI.it,It.inBlock.injEq,reduceCtorEq]at hy;exact h F hn M9 MD a w hs
def ab.stop{μ:St->Prop}(h:μ st):ab P n (.stop μ::k) st Q:=by
 intro F hn kt hk a w hs;obtain⟨z,M9,rfl,hy,MD⟩:=eA hk;cases z<;>simp only[KI.it,It.stop.injEq,reduceCtorEq]at hy;subst hy;exact⟨st,h,hs⟩
def dv(id:Nat):List It->Option (List It)
 |[]=>none
 |.inBlock j::k=>if id=j then some k else dv id k
 |_::k=>dv id k
def kL{F:Fr}{id:Nat}{a:Act}{w:World}:∀{kt:List KI} {k':List It},dv id (kt.map (KI.it P n))=some k'->
 (∀M9,M9.map (KI.it P n)=k'->kz P F Q M9 .normal a w)->kz P F Q kt (.exit id) a w
 |[],_,h,_=>by simp[dv]at h
 |.code c::kt,_,h,hq=>kL (kt:=kt) (by simpa[KI.it,dv]using h) hq
 |.ops all l::kt,_,h,hq=>kL (kt:=kt) (by simpa[KI.it,dv]using h) hq
 |.stop μ::kt,_,h,hq=>kL (kt:=kt) (by simpa[KI.it,dv]using h) hq
 |.inBlock j::kt,k',h,hq=>by
  simp only[fb,KI.it,dv]at h;simp only[kz,Exit.inBlock];by_cases hj:id=j
  .rw[aI hj]at h|-;simp only[aX]at h;exact hq kt h
  .rw[aJ hj]at h|-;exact kL h hq
def ab.exit{id:Nat}{k':List It}(hp:dv id k=some k')(h:ab P n k' st Q):ab P n (.code (.exit id)::k) st Q:=by
 intro F hn kt hk a w hs;obtain⟨z,M9,rfl,hy,MD⟩:=eA hk;obtain⟨c0,rfl,hc⟩:=fQ hy;have Oj:c0=.exit id:=by
  cases c0<;>simp only[dx,reduceCtorEq,bM.exit.injEq]at hc
  case region=>(split at hc;cases hc);split at hc<;>cases hc
  rw[hc]
 subst Oj;exact wpIn_exit (kL (n:=n) (by rw[MD];exact hp) (λkt'' h''=>h F hn kt'' h'' a w hs))
def kI{F:Fr}{a:Act}{w:World}(h:∃st,Q st/\eE F st a w):∀(kt:List KI),kz P F Q kt .ret a w
 |[]=>⟨.inr rfl,h⟩
 |.code _::kt=>kI h kt
 |.inBlock _::kt=>kI h kt
 |.ops _ _::kt=>kI h kt
 |.stop _::kt=>kI h kt
def ab.ret(h:Q st):ab P n (.code .ret::k) st Q:=by
 intro F hn kt hk a w hs;obtain⟨z,M9,rfl,hy,MD⟩:=eA hk;obtain⟨c0,rfl,hc⟩:=fQ hy;have Oj:c0=.ret:=by
  cases c0<;>simp only[dx,reduceCtorEq]at hc<;>(try (split at hc;cases hc))<;>(try (split at hc<;>cases hc))<;>try rfl
 subst Oj;exact wpIn_ret (kI ⟨st,h,hs⟩ M9)
def ab.cond{c:VX}{x y:bM}{b:Bool}(hc:c.ev st.s=.bool b)(h1:b=true->ab P n (.code x::k) st Q)(h2:b=false->ab P n (.code y::k) st Q):
 ab P n (.code (.cond c x y)::k) st Q:=by
 intro F hn kt hk a w hs;obtain⟨z,M9,rfl,hy,MD⟩:=eA hk;obtain⟨c0,rfl,MA⟩:=fQ hy;have Oj:∃o x0 y0,c0=.cond o x0 y0/\cx n o=c/\dx P n x0=x/\dx P n y0=y:=by
  cases c0<;>simp only[dx,reduceCtorEq,bM.cond.injEq]at MA
  case region=>(split at MA;cases MA);split at MA<;>cases MA
  exact⟨_,_,_,rfl,MA.1,MA.2.1,MA.2.2⟩
 obtain⟨o,x0,y0,rfl,rfl,rfl,rfl⟩:=Oj;obtain⟨I,LK⟩:=hs;have he:=ct LK o;rw[hn,hc]at he;simp only[C']at he;exact wpIn_cond_split he (λhb=>h1 hb F hn (.code x0::M9) (by simp[KI.it,MD]) a w ⟨I,LK⟩) (λhb=>h2 hb F hn (.code y0::M9) (by simp[KI.it,MD]) a w ⟨I,LK⟩)
def ab.region{l:List aK}(h:ab P n (.ops l::k) st Q):ab P n (.code (.Oz false l)::k) st Q:=by
 intro F hn kt hk a w hs;obtain⟨z,M9,rfl,hy,MD⟩:=eA hk;obtain⟨c0,rfl,MA⟩:=fQ hy;have Oj:∃id ops,c0=.region id ops false/\ops.toList.map (bJ P n ops)=l:=by
  cases c0<;>simp only[dx,reduceCtorEq]at MA;rename_i id ops draw;cases draw
  .simp only[Bool.false_and,iG,if_false,bM.Oz.injEq,true_and]at MA;exact⟨id,ops,rfl,MA⟩
  .simp only[Bool.true_and]at MA;split at MA
   .cases MA
   .split at MA
    .cases MA
    .simp at MA
 obtain⟨id,ops,rfl,rfl⟩:=Oj;exact wpIn_region_list (h F hn (.ops ops ops.toList::M9) (by simp[KI.it,MD]) a w hs)
def ab.Ei(h:ab P n k st Q):ab P n (.ops []::k) st Q:=by
 intro F hn kt hk a w hs;obtain⟨z,M9,rfl,hy,MD⟩:=eA hk;cases z<;>simp only[KI.it,It.ops.injEq,reduceCtorEq,List.map_eq_nil_iff]at hy;subst hy;exact h F hn M9 MD a w hs
def bp(s:Nat->V):Option (VX×Bool)->Option Bool
 |none=>some true
 |some (x,b)=>match x.ev s with
    |.bool c=>some (c==b)
    |.LI []=>some false
    |.int _ _=>some false
    |_=>none
def od{F:Fr}{I:Mu}{st:St}{a:Act}{w:World}(hs:df F I st a w)(all:Array Oper)(o:Oper){b:Bool}(h:bp st.s (bJ P F.n all o).g=some b):
 Region.wanted o (yielded all a.tmps)=b:=by
 unfold Region.wanted;cases hg:o.guard with
 |none=>simp[bJ,hg,bp]at h;simp[h]
 |some g=>
  obtain⟨j,want⟩:=g;simp only[bJ,hg,Option.map_some,bp]at h;cases hd:(all[j]?).bind (·.dst)with
  |none=>
   simp only[hd,VX.ev]at h;simp only[aX]at h;subst h;simp[yielded,hd]
  |some d=>
   simp only[hd]at h;by_cases Ro:d<F.n
   .simp only[aI Ro,VX.ev]at h;have hr:=hs.slot d Ro;have Nr:a.tmps[d]?=some (a.tmps.getD d undef):=by
     rw[Og,Array.getElem?_eq_getElem (by rw[hs.size];exact Ro)];rfl
    simp only[yielded,hd,Option.bind_some,Nr];split at h
    .rename_i c hc;rw[hc]at hr;simp only[C']at hr;rw[hr];simp only[aX]at h;rw[<-h];rfl
    .rename_i hc;rw[hc]at hr;simp only[C',ax]at hr;obtain⟨Lz,hv,rfl⟩:=hr;rw[hv];simp only[aX]at h;rw[<-h];rfl
    .rename_i hc;rw[hc]at hr;simp only[C']at hr;rw[hr];simp only[aX]at h;rw[<-h];rfl
    .cases h
   .simp only[aJ Ro,VX.ev]at h;simp only[aX]at h;have hle:a.tmps.size<=d:=by rw[hs.size];exact Nat.le_of_not_lt Ro
    have:a.tmps[d]?=none:=Array.getElem?_eq_none hle;simp[yielded,hd,this,<-h]
def St.put(st:St)(d:Option Nat)(v:V):St:=⟨aU st.s d v,st.U⟩
def ab.Fw{i:aK}{l:List aK}(hw:bp st.s i.g=some true)
 (h:∀(F:Fr),F.n=n->∀(I:Mu) (a:Act) (w:World) (o:Oper) (all:Array Oper),bJ P n all o=i->df F I st a w->
   ∀(next:Act->World->Prop) (Q':Exit->Act->World->Prop),(∀NB a' w',eE F NB a' w'->ab P n (.ops l::k) NB Q->next a' w')->o.wpIn F.eB 0 P a w next Q'):
 ab P n (.ops (i::l)::k) st Q:=by
 intro F hn kt hk a w hs;obtain⟨z,M9,rfl,hy,MD⟩:=eA hk;cases z<;>simp only[KI.it,It.ops.injEq,reduceCtorEq]at hy;rename_i all os;cases os with
 |nil=>simp at hy
 |cons o os=>
  simp only[fb,List.cons.injEq]at hy;obtain⟨hi,hl⟩:=hy;obtain⟨I,LK⟩:=hs;have O7:=od (P:=P) LK all o (b:=true) (by rw[hn,hi];exact hw);simp only[kz,wpListIn,O7,if_true];refine h F hn I a w o all hi LK _ _ ?_;intro NB a' w' hs'' hsem;exact hsem F hn (.ops all os::M9) (by simp[KI.it,hl,MD]) a' w' hs''
def ab.ins{i:aK}{l:List aK}(hb:i.op≠.bad)(hw:bp st.s i.g=some true)
 (h:∀(F:Fr),F.n=n->∀(I:Mu) (a:Act) (w:World) (o:Oper) (all:Array Oper),bJ P n all o=i->df F I st a w->
   ∀(next:Act->World->Prop) (Q':Exit->Act->World->Prop),(∀NB a' w',eE F NB a' w'->ab P n (.ops l::k) NB Q->next a' w')->o.wp P a w next Q'):
 ab P n (.ops (i::l)::k) st Q:=by
 refine ab.Fw hw λF hn I a w o all hi hs next Q' Lw=>AY ?_ (h F hn I a w o all hi hs next Q' Lw)
 refine jb (P:=P) (n:=n) ?_;have:i.op=LU P n o.op:=by rw[<-hi];rfl
 rw[<-this];exact hb
def ab.u5{i:aK}{l:List aK}(hw:bp st.s i.g=some false)(h:ab P n (.ops l::k) (st.put i.dst (.LI [])) Q):ab P n (.ops (i::l)::k) st Q:=by
 intro F hn kt hk a w hs;obtain⟨z,M9,rfl,hy,MD⟩:=eA hk;cases z<;>simp only[KI.it,It.ops.injEq,reduceCtorEq]at hy;rename_i all os;cases os with
 |nil=>simp at hy
 |cons o os=>
  simp only[fb,List.cons.injEq]at hy;obtain⟨hi,hl⟩:=hy;obtain⟨I,LK⟩:=hs;have O7:=od (P:=P) LK all o (b:=false) (by rw[hn,hi];exact hw);simp only[kz,wpListIn,O7,iG,if_false];refine⟨λ_ _=>trivial,?_⟩;refine h F hn (.ops all os::M9) (by simp[KI.it,hl,MD]) _ w ⟨I,?_⟩;have hd:i.dst=o.dst.filter (·<F.n):=by rw[<-hi,hn];rfl
  rw[St.put,hd];exact LK.pure (by simp only[C'];exact⟨[],rfl,by simp[ax]⟩)
def ab.pure{i:aK}{l:List aK}{v:V}(hw:bp st.s i.g=some true)(hp:eV st.s i.op)(hv:aL st.U st.s i.op=some v)
 (h:ab P n (.ops l::k) (st.put i.dst v) Q):ab P n (.ops (i::l)::k) st Q:=by
 refine ab.ins (λe=>by rw[e]at hv;simp[aL]at hv) hw λF hn I a w o all hi hs next Q' Lw=>?_
 subst hn;have LF:i.op=LU P F.n o.op:=by rw[<-hi];rfl
 have hd:i.dst=o.dst.filter (·<F.n):=by rw[<-hi];rfl
 obtain⟨z,hz,hr⟩:=qh hs o (LF▸hp) (LF▸hv);unfold Oper.wp;rw[hz];refine Lw (st.put i.dst v) _ _ ⟨I,?_⟩ h;rw[St.put,hd];exact hs.pure hr
variable {P:Program} {n:Nat} {st:St} {Q:St->Prop} {k:List It}
def AP{F:Fr}{o:Oper}{a:Act}{w:World}{next next':Act->World->Prop}{R R':Exit->Act->World->Prop}(h:o.wpIn F.eB 0 P a w next R)
 (hn:∀a w,next a w->next' a w)(hq:∀e a w,e≠.normal->R e a w->R' e a w):o.wpIn F.eB 0 P a w next' R':=by
 refine⟨h.1,?_⟩;have h:=h.2;generalize (o.semAt F.eB.round a.eval).run P w=r at*;cases r with
 |ok x w'=>
  cases x<;>simp only[Oper.uponIn]at h|-<;>first
   |exact hn _ _ h
   |exact⟨h.1,CallsIn.mono h.2 (λe T0 he=>by cases e<;>first|exact hn _ _ he|exact hq _ _ _ (by simp) he|(obtain⟨a0,w0,h2⟩:=he;exact⟨a0,w0,hq _ _ _ (by simp) h2⟩))⟩
   |exact⟨h.1,RowsIn.mono h.2 (λ_ _ he=>hn _ _ he)⟩
   |exact⟨h.1,RoundIn.mono h.2 (λe T0 he=>by cases e<;>first|exact hn _ _ he|exact hq _ _ _ (by simp) he|(obtain⟨a0,w0,h2⟩:=he;exact⟨a0,w0,hq _ _ _ (by simp) h2⟩))⟩
   |contradiction
 |halt x w'=>cases x<;>simp only[Oper.uponIn]at h|-<;>first|exact hq _ _ _ (by simp) h|contradiction
def lW{F:Fr}{all:Array Oper}{R R':Exit->Act->World->Prop}(hq:∀e a w,R e a w->R' e a w):∀(l:List Oper) (a:Act) (w:World),wpListIn F.eB 0 P all R l a w->wpListIn F.eB 0 P all R' l a w
 |[],a,w,h=>hq _ _ _ h
 |o::l,a,w,h=>by
  simp only[wpListIn]at h|-;split
  .rename_i hw;simp only[hw,if_true]at h;exact AP h (lW hq l) (λe a w _=>hq e a w)
  .rename_i hw;simp only[hw]at h;exact⟨h.1,lW hq l _ _ h.2⟩
def Wk(U Z':ag)(v v':V):Prop:=∀(I:Mu) (w0 w:World) (Ml:Nat->Prop) (x:Value),Sat w0 Ml I U w->C' I (aD I U) w v x->C' I (aD I Z') w v' x
def Wk.refl{U Z':ag}(h:aa Z' U)(v:V):Wk U Z' v v:=λI _ w _ x _ hr=>C'.mono (cU.refl I) (cS.sub w h) (Md _) v x hr
def Wk.undef{U Z':ag}(v:V):Wk U Z' v .undef:=λ_ _ _ _ _ _ _=>by simp[C']
def Wk.own{U Z':ag}(h:aa Z' U){id off len:Nat}{ob:Ob}(ho:U id=some ob)(Ls:Z' id=none)(hl:off+len<=ob.rows.length):
 Wk U Z' (.own id off len) (.sl ob.sz ((ob.rows.drop off).take len)):=by
 intro I w0 w Ml x hs hr;simp only[C']at hr|-;have hlen:((ob.rows.drop off).take len).length=len:=by simp;omega
 have MG:=hs.obj id ob ho;split at hr
 .exact hr.elim
 .obtain⟨rfl,rfl,rfl⟩:=hr;exact⟨none,0,by simp,by simp,.inl (by simp)⟩
 .rename_i b sz cap hb;obtain⟨o,c,rfl,h1,h2,h3,hz⟩:=hr;refine⟨_,c,by rw[hlen],by omega,?_⟩;by_cases h0:len=0
  .left;subst h0;simp
  .right;rw[hb]at MG;obtain⟨g1,g2,g3,g4,g5⟩:=MG.rows hz;have Vi:o=off*sz:=by
    rcases h3 with h3|h3
    .exact h3
    .omega
   subst Vi g1;refine⟨b,_,rfl,?_,g2,?_⟩
   .rintro⟨NL,T1,NW,MP,e1,e2⟩;have:=hs.inj NL id T1 ob _ _ _ _ _ (h _ _ e1) ho e2 hb;rw[this,Ls]at e1;cases e1
   .have:=(g5.drop off).take len;rw[ky]at this;exact aY.mono (cU.refl I) (cS.sub w h) (Md _) _ _ _ _ rfl this
def Sy(U Z':ag):List V->List V->Prop
 |[],[]=>True
 |v::vs,v'::vs'=>Wk U Z' v v'/\Sy U Z' vs vs'
 |_,_=>False
def Sy.all{U Z':ag}{I:Mu}{w0 w:World}{Ml:Nat->Prop}(hs:Sat w0 Ml I U w):∀{vs vs':List V} {l:List Value},Sy U Z' vs vs'->
 ax I (aD I U) w vs l->ax I (aD I Z') w vs' l
 |[],[],_,_,h=>by simpa[ax]using h
 |v::vs,v'::vs',l,hw,h=>by
  simp only[ax]at h|-;obtain⟨x,xs,rfl,h1,h2⟩:=h;exact⟨x,xs,rfl,hw.1 I w0 w Ml x hs h1,Sy.all hs hw.2 h2⟩
 |[],_::_,_,hw,_=>hw.elim
 |_::_,[],_,hw,_=>hw.elim
def Wk.agg{U Z':ag}{vs vs':List V}(h:Sy U Z' vs vs'):Wk U Z' (.agg vs) (.agg vs'):=by
 intro I w0 w Ml x hs hr;simp only[C']at hr|-;obtain⟨Lz,rfl,h1,h2⟩:=hr;exact⟨Lz,rfl,Sy.all hs h h1,h2⟩
def Wk.LI{U Z':ag}{vs vs':List V}(h:Sy U Z' vs vs'):Wk U Z' (.LI vs) (.LI vs'):=by
 intro I w0 w Ml x hs hr;simp only[C']at hr|-;obtain⟨Lz,rfl,h1⟩:=hr;exact⟨Lz,rfl,Sy.all hs h h1⟩
def Ig(st NB:St):Prop:=aa NB.U st.U/\∀i,Wk st.U NB.U (st.s i) (NB.s i)
def Ig.sat{st NB:St}(h:Ig st NB){F:Fr}{a:Act}{w:World}(hs:eE F st a w):eE F NB a w:=by
 obtain⟨I,hs⟩:=hs;exact⟨I,hs.sat.drop h.1,hs.le,hs.size,hs.book.tg (cS.sub w h.1),λi hi=>h.2 i I _ _ _ _ hs.sat (hs.slot i hi)⟩
def ab.weaken{todo:List It}{NB:St}(h:Ig st NB)(hr:ab P n todo NB Q):ab P n todo st Q:=
 λF hn kt hk a w hs=>hr F hn kt hk a w (h.sat hs)
def th{F:Fence}{m0:Nat}{c:Code}{Q':Exit->Act->World->Prop}(μ:Nat->Act->World->Prop)
 (round:∀m a w,μ m a w->c.wpIn F m0 P (Exit.then (λa' w'=>∃m',m'<m/\μ m' a' w') Q') a w):∀m a w,μ m a w->(Code.loop c).wpIn F m0 P Q' a w:=by
 intro m a w h b k cs Sz hb hr;have key:∀m a w,μ m a w->∃e a' w',Q' e a' w'/\ArrivesIn (Machine.fenced P F) P (lone (b.atR a (.code c::.inLoop c::k)) cs w) b k cs e a' w':=by
  intro m
  induction m using Nat.strongRecOn with
  |_ m ih=>
   intro a w hI;obtain⟨e,a₁,w₁,hq,Qz⟩:=round m a w hI b (.inLoop c::k) cs Sz hb hr;cases e with
   |normal=>
    obtain⟨m',Lr,hI'⟩:=hq;obtain⟨e₂,a₂,w₂,hq₂,harr₂⟩:=ih m' Lr a₁ w₁ hI';exact⟨e₂,a₂,w₂,hq₂,.of_steps (StepsIn.trans Qz (.one (fenced_calm hb hr rfl) stepR_inLoop)) harr₂⟩
   |exit id=>exact⟨_,a₁,w₁,hq,.pass (x:=.inLoop c) rfl (λ_ _=>.inl (by simp)) Qz⟩
   |goto l=>exact⟨_,a₁,w₁,hq,.pass (x:=.inLoop c) rfl (λ_ _=>.inl (by simp)) Qz⟩
   |ret=>exact⟨_,a₁,w₁,hq,.pass (x:=.inLoop c) rfl (λ_ _=>.inl (by simp)) Qz⟩
   |panic ch=>exact⟨_,a₁,w₁,hq,.pass (x:=.inLoop c) rfl (λ_ _=>.inl (by simp)) Qz⟩
   |outgrown=>exact⟨_,a₁,w₁,hq,.pass (x:=.inLoop c) rfl (λ_ _=>.inl (by simp)) Qz⟩
 obtain⟨e,a',w',hq,Qz⟩:=key m a w h;exact⟨e,a',w',hq,.of_steps (.one (fenced_calm hb hr rfl) stepR_loop) Qz⟩
def ab.loop{x:bM}(μ:Nat->St->Prop)(m:Nat)(h0:μ m st)(hr:∀m st,μ m st->ab P n (.code x::.stop (λNB=>∃m',m'<m/\μ m' NB)::k) st Q):
 ab P n (.code (.loop x)::k) st Q:=by
 intro F hn kt hk a w hs;obtain⟨z,M9,rfl,hy,MD⟩:=eA hk;obtain⟨c0,rfl,hc⟩:=fQ hy;have Oj:∃x0,c0=.loop x0/\dx P n x0=x:=by
  cases c0<;>simp only[dx,reduceCtorEq,bM.loop.injEq]at hc
  case region=>(split at hc;cases hc);split at hc<;>cases hc
  exact⟨_,rfl,hc⟩
 obtain⟨x0,rfl,rfl⟩:=Oj;refine th (λm a w=>∃st,μ m st/\eE F st a w) ?_ m a w ⟨st,h0,hs⟩;rintro m a w ⟨st,hi,hs⟩;refine wpIn_mono (hr m st hi F hn (.code x0::.stop (λNB=>∃m',m'<m/\μ m' NB)::M9) (by simp[KI.it,MD]) a w hs) ?_;intro e a' w' h;cases e
 case normal=>obtain⟨NB,⟨m',Lr,SA⟩,LK⟩:=h;exact⟨m',Lr,NB,SA,LK⟩
 all_goals exact h
variable {P:Program} {n:Nat} {st:St} {Q:St->Prop} {k:List It}
def tD{o:Op}{e sz:Nat}{z:V}(h:LU P n o=.alloc e sz z):∃i zv,o=.alloc e/\zeroOf P e=some (i,zv)/\i.size=sz/\ofValue zv=z:=by
 cases o
 case alloc t=>
  simp only[LU,cy]at h;split at h
  .rename_i i zv hz;simp only[L5.alloc.injEq]at h;obtain⟨rfl,h2,h3⟩:=h;exact⟨i,zv,rfl,hz,h2,h3⟩
  ·(repeat' split at h)<;>cases h
 case call c=>
  obtain⟨callee,args,argTypes⟩:=c;cases callee
  case builtin b=>cases b<;>simp only[LU,cy]at h<;>(repeat' split at h)<;>cases h
  all_goals (simp only[LU,cy]at h;cases h)
 case unOp op t x=>cases op<;>simp only[LU,cy]at h<;>cases h
 case makeFunc f a b=>cases f<;>simp only[LU,cy]at h<;>(repeat' split at h)<;>cases h
 all_goals (simp only[LU,cy]at h;(repeat' split at h)<;>cases h)
def tL{o:Op}{sz:Nat}{xa xv:VX}(h:LU P n o=.store sz xa xv):∃t x y,o=.store t x y/\bR P t=true/\P.cellsOf t=sz/\cx n x=xa/\cx n y=xv:=by
 cases o
 case store t x y=>
  simp only[LU,cy]at h;split at h
  .rename_i hk;simp only[L5.store.injEq]at h;exact⟨t,x,y,rfl,hk,h.1,h.2.1,h.2.2⟩
  ·(repeat' split at h)<;>cases h
 case call c=>
  obtain⟨callee,args,argTypes⟩:=c;cases callee
  case builtin b=>cases b<;>simp only[LU,cy]at h<;>(repeat' split at h)<;>cases h
  all_goals (simp only[LU,cy]at h;cases h)
 case unOp op t x=>cases op<;>simp only[LU,cy]at h<;>cases h
 case makeFunc f a b=>cases f<;>simp only[LU,cy]at h<;>(repeat' split at h)<;>cases h
 all_goals (simp only[LU,cy]at h;(repeat' split at h)<;>cases h)
def rY{o:Op}{e sz:Nat}{xs:List VX}(h:LU P n o=.fF e sz xs):∃t len parts i z,o=.buildSlice t len parts/\P.underlying t=some (.slice e)/\zeroOf P e=some (i,z)/\
 i.size=sz/\parts.toList.map (·.1)=List.range len/\len*i.size<=16777216/\parts.toList.map (λp=>cx n p.2)=xs:=by
 cases o
 case buildSlice t len parts=>
  simp only[LU,cy]at h;split at h
  .rename_i e' he;split at h
   .rename_i i z hz;split at h
    .rename_i hc;simp only[L5.fF.injEq]at h;obtain⟨rfl,h2,h3⟩:=h;exact⟨t,len,parts,i,z,rfl,he,hz,h2,hc.1,hc.2,h3⟩
    .cases h
   .cases h
  .cases h
 case call c=>
  obtain⟨callee,args,argTypes⟩:=c;cases callee
  case builtin b=>cases b<;>simp only[LU,cy]at h<;>(repeat' split at h)<;>cases h
  all_goals (simp only[LU,cy]at h;cases h)
 case unOp op t x=>cases op<;>simp only[LU,cy]at h<;>cases h
 case makeFunc f a b=>cases f<;>simp only[LU,cy]at h<;>(repeat' split at h)<;>cases h
 all_goals (simp only[LU,cy]at h;(repeat' split at h)<;>cases h)
def DF{o:Op}{e sz bytes:Nat}{zv:V}{xn:VX}(h:LU P n o=.mk e sz bytes zv xn):∃t l c i z,o=.makeSlice t l c/\P.underlying t=some (.slice e)/\zeroOf P e=some (i,z)/\
 i.size=sz/\i.bytes=bytes/\ofValue z=zv/\qI l c=true/\cx n l=xn:=by
 cases o
 case makeSlice t l c=>
  simp only[LU,cy]at h;split at h
  .rename_i e' he;split at h
   .rename_i i z hz;split at h
    .rename_i hc;simp only[L5.mk.injEq]at h;obtain⟨rfl,h2,h3,h4,h5⟩:=h;exact⟨t,l,c,i,z,rfl,he,hz,h2,h3,h4,hc,h5⟩
    .cases h
   .cases h
  .cases h
 case call c=>
  obtain⟨callee,args,argTypes⟩:=c;cases callee
  case builtin b=>cases b<;>simp only[LU,cy]at h<;>(repeat' split at h)<;>cases h
  all_goals (simp only[LU,cy]at h;cases h)
 case unOp op t x=>cases op<;>simp only[LU,cy]at h<;>cases h
 case makeFunc f a b=>cases f<;>simp only[LU,cy]at h<;>(repeat' split at h)<;>cases h
 all_goals (simp only[LU,cy]at h;(repeat' split at h)<;>cases h)
def xp{o:Op}{e sz bytes:Nat}{zv:V}{xa xb:VX}(h:LU P n o=.P0 e sz bytes zv xa xb):∃t tn kn x y args argTypes i z,o=.call { callee:=.builtin .append,args:=args,argTypes:=argTypes }/\
 args=#[x,y]/\argTypes=#[t,tn]/\P.underlying t=some (.slice e)/\P.underlying tn=some (.int kn)/\zeroOf P e=some (i,z)/\i.size=sz/\i.bytes=bytes/\ofValue z=zv/\cx n x=xa/\cx n y=xb:=by
 cases o
 case call c=>
  obtain⟨callee,args,argTypes⟩:=c;cases callee
  case value=>simp[LU]at h
  case invoke=>simp[LU]at h
  case builtin b=>
   cases b
   case append=>
    simp only[LU,cy]at h;split at h
    .rename_i x y t t' h1 h2;split at h
     .split at h
      .split at h<;>cases h
      .cases h
     .split at h
      .rename_i e' kn he hn;split at h
       .rename_i i z hz;simp only[L5.P0.injEq]at h;obtain⟨rfl,h4,h5,h6,h7,h8⟩:=h;exact⟨t,t',kn,x,y,args,argTypes,i,z,rfl,by apply Array.ext';simpa using h1,by apply Array.ext';simpa using h2,he,hn,hz,h4,h5,h6,h7,h8⟩
       .cases h
      .split at h<;>cases h
      .cases h
    .cases h
   all_goals (simp only[LU,cy]at h;(repeat' split at h)<;>cases h)
 case unOp op t x=>cases op<;>simp only[LU,cy]at h<;>cases h
 case makeFunc f a b=>cases f<;>simp only[LU,cy]at h<;>(repeat' split at h)<;>cases h
 all_goals (simp only[LU,cy]at h;(repeat' split at h)<;>cases h)
def qP{o:Op}{e sz bytes:Nat}{xa xb:VX}(h:LU P n o=.append e sz bytes xa xb):∃t t' x y args argTypes i z,o=.call { callee:=.builtin .append,args:=args,argTypes:=argTypes }/\
 args=#[x,y]/\argTypes=#[t,t']/\(t'=t\/P.underlying t'=some .string)/\P.underlying t=some (.slice e)/\zeroOf P e=some (i,z)/\i.size=sz/\i.bytes=bytes/\cx n x=xa/\cx n y=xb:=by
 cases o
 case call c=>
  obtain⟨callee,args,argTypes⟩:=c;cases callee
  case value=>simp[LU]at h
  case invoke=>simp[LU]at h
  case builtin b=>
   cases b
   case append=>
    simp only[LU,cy]at h;split at h
    .rename_i x y t t' h1 h2;split at h
     .rename_i htt;subst htt;split at h
      .rename_i e' he;split at h
       .rename_i i z hz;simp only[L5.append.injEq]at h;obtain⟨rfl,h4,h5,h6,h7⟩:=h;exact⟨t,t,x,y,args,argTypes,i,z,rfl,by apply Array.ext';simpa using h1,by apply Array.ext';simpa using h2,.inl rfl,he,hz,h4,h5,h6,h7⟩
       .cases h
      .cases h
     .split at h
      .split at h<;>cases h
      .rename_i e' he hn;split at h
       .rename_i i z hz;simp only[L5.append.injEq]at h;obtain⟨rfl,h4,h5,h6,h7⟩:=h;exact⟨t,t',x,y,args,argTypes,i,z,rfl,by apply Array.ext';simpa using h1,by apply Array.ext';simpa using h2,.inr hn,he,hz,h4,h5,h6,h7⟩
       .cases h
      .cases h
    .cases h
   all_goals (simp only[LU,cy]at h;(repeat' split at h)<;>cases h)
 case unOp op t x=>cases op<;>simp only[LU,cy]at h<;>cases h
 case makeFunc f a b=>cases f<;>simp only[LU,cy]at h<;>(repeat' split at h)<;>cases h
 all_goals (simp only[LU,cy]at h;(repeat' split at h)<;>cases h)
def lM{o:Op}{f:VX}{xs:List VX}(h:LU P n o=.call f xs):∃f0 args argTypes,o=.call { callee:=.value f0,args:=args,argTypes:=argTypes }/\cx n f0=f/\args.toList.map (cx n)=xs:=by
 cases o
 case call c=>
  obtain⟨callee,args,argTypes⟩:=c;cases callee
  case value f0=>simp only[LU,L5.call.injEq]at h;exact⟨f0,args,argTypes,rfl,h.1,h.2⟩
  case invoke=>simp[LU]at h
  case builtin b=>cases b<;>simp only[LU,cy]at h<;>(repeat' split at h)<;>cases h
 case unOp op t x=>cases op<;>simp only[LU,cy]at h<;>cases h
 case makeFunc f a b=>cases f<;>simp only[LU,cy]at h<;>(repeat' split at h)<;>cases h
 all_goals (simp only[LU,cy]at h;(repeat' split at h)<;>cases h)
def Ap{o:Op}{e sz:Nat}{xv:VX}(h:LU P n o=.box e sz xv):∃x,o=.box e x/\bR P e=true/\P.cellsOf e=sz/\cx n x=xv:=by
 cases o
 case box t x=>
  simp only[LU,cy]at h;split at h
  .rename_i hk;simp only[L5.box.injEq]at h;obtain⟨rfl,h2,h3⟩:=h;exact⟨x,rfl,hk,h2,h3⟩
  .cases h
 case call c=>
  obtain⟨callee,args,argTypes⟩:=c;cases callee
  case builtin b=>cases b<;>simp only[LU,cy]at h<;>(repeat' split at h)<;>cases h
  all_goals (simp only[LU,cy]at h;cases h)
 case unOp op t x=>cases op<;>simp only[LU,cy]at h<;>cases h
 case makeFunc f a b=>cases f<;>simp only[LU,cy]at h<;>(repeat' split at h)<;>cases h
 all_goals (simp only[LU,cy]at h;(repeat' split at h)<;>cases h)
def AS{o:Op}{sz:Nat}{z:V}{xv:VX}(h:LU P n o=.clear sz z xv):∃x t e args argTypes i zv,o=.call { callee:=.builtin .clear,args:=args,argTypes:=argTypes }/\
 args=#[x]/\argTypes[0]?=some t/\P.underlying t=some (.slice e)/\zeroOf P e=some (i,zv)/\i.size=sz/\ofValue zv=z/\cx n x=xv:=by
 cases o
 case call c=>
  obtain⟨callee,args,argTypes⟩:=c;cases callee
  case builtin b=>
   cases b
   case clear=>
    simp only[LU,cy]at h;split at h
    .rename_i x t h1 h2;split at h
     .rename_i e he;split at h
      .rename_i i zv hz;simp only[L5.clear.injEq]at h;exact⟨x,t,e,args,argTypes,i,zv,rfl,by apply Array.ext';simpa using h1,h2,he,hz,h.1,h.2.1,h.2.2⟩
      .cases h
     .cases h
    .cases h
   all_goals (simp only[LU,cy]at h;(repeat' split at h)<;>cases h)
  all_goals (simp only[LU,cy]at h;cases h)
 case unOp op t x=>cases op<;>simp only[LU,cy]at h<;>cases h
 case makeFunc f a b=>cases f<;>simp only[LU,cy]at h<;>(repeat' split at h)<;>cases h
 all_goals (simp only[LU,cy]at h;(repeat' split at h)<;>cases h)
def uu{F:Fr}{I:Mu}{a:Act}{w:World}(hs:df F I st a w){o:Oper}{t:TypeId}{x:Operand}(P3:o.op=.box t x)(hk:bR P t=true)
 (hx:((cx F.n x).ev st.s).cells.length=P.cellsOf t)(L8:((cx F.n x).ev st.s).stays=true):
 ∃id,st.U id=none/\∃y w' Y',(execOp a.eval o).run P w=.ok (.value y) w'/\
  df F Y' ⟨aU st.s (o.dst.filter (·<F.n)) (.ptr id 0 0),E' st.U id ⟨t,P.cellsOf t,[(cx F.n x).ev st.s]⟩⟩ (a.put o.dst y) w':=by
 have Ns:=(eu hk).2.2;obtain⟨g1,g2⟩:=(ct hs x).cells L8;have hl:=(ct hs x).iZ L8;obtain⟨id,Ls,Y',h1,h2,h3,h4⟩:=hs.sat.renew (row:=none) (World.grownBy_alloc w (.cells (a.eval x).cells t) none) none (.inl rfl) w.heap.size (P.cellsOf t) 1 (a.eval x).cells t [(cx F.n x).ev st.s] (a.eval x).cells.toList (.inr (Md _))
  (heap_alloc_new w _) Ns (by omega) (by simp) (by simp[maxLen]) (by intro r hr;simp at hr;subst hr;exact hx)
  (by simp only[flat,u9,List.flatMap_nil,kC];exact g1) g2 (by intro j u hu;simpa using hu)
 refine⟨id,Ls,.pointer (some ⟨w.heap.size,0,none⟩),w.alloc (.cells (a.eval x).cells t),Y',?_,hs.step h3 h2 h4 (by simp) (by simp[C',h1];exact Ns)⟩;unfold execOp;rw[P3];simp[Instr.box,newVar,newRow]
def eF{all:Array Oper}{o:Oper}{i:aK}(h:bJ P n all o=i):LU P n o.op=i.op/\o.dst.filter (·<n)=i.dst:=by rw[<-h];exact⟨rfl,rfl⟩
def ab.alloc{i:aK}{l:List aK}{e sz:Nat}{z:V}(hw:bp st.s i.g=some true)(ho:i.op=.alloc e sz z)
 (h:∀id,st.U id=none->ab P n (.ops l::k) ⟨aU st.s i.dst (.ptr id 0 0),E' st.U id ⟨e,sz,[z]⟩⟩ Q):ab P n (.ops (i::l)::k) st Q:=by
 refine ab.ins (by rw[ho];simp) hw λF hn I a w o all hi hs next Q' Lw=>?_
 subst hn;obtain⟨LF,hd⟩:=eF hi;rw[ho]at LF;obtain⟨ti,zv,h1,h2,rfl,rfl⟩:=tD LF;obtain⟨id,Ls,x,w',Y',hx,LK⟩:=pU hs h1 h2;unfold Oper.wp;rw[hx];refine Lw _ _ _ ⟨Y',?_⟩ (h id Ls);rw[<-hd];exact LK
def ab.box{i:aK}{l:List aK}{e sz:Nat}{xv:VX}(hw:bp st.s i.g=some true)(ho:i.op=.box e sz xv)
 (hx:(xv.ev st.s).cells.length=sz)(L8:(xv.ev st.s).stays=true)
 (h:∀id,st.U id=none->ab P n (.ops l::k) ⟨aU st.s i.dst (.ptr id 0 0),E' st.U id ⟨e,sz,[xv.ev st.s]⟩⟩ Q):ab P n (.ops (i::l)::k) st Q:=by
 refine ab.ins (by rw[ho];simp) hw λF hn I a w o all hi hs next Q' Lw=>?_
 subst hn;obtain⟨LF,hd⟩:=eF hi;rw[ho]at LF;obtain⟨x,h1,h2,rfl,rfl⟩:=Ap LF;obtain⟨id,Ls,y,w',Y',hy,LK⟩:=uu hs h1 h2 hx L8;unfold Oper.wp;rw[hy];refine Lw _ _ _ ⟨Y',?_⟩ (h id Ls);rw[<-hd];exact LK
def ab.store{i:aK}{l:List aK}{sz:Nat}{xa xv:VX}(hw:bp st.s i.g=some true)(ho:i.op=.store sz xa xv)
 {id r0 c:Nat}(h1:xa.ev st.s=.ptr id r0 c){ob:Ob}(h2:st.U id=some ob){r r':V}(h3:ob.rows[r0]?=some r)(h4:bQ r c sz (xv.ev st.s)=some r')
 (h:ab P n (.ops l::k) ⟨aU st.s i.dst (.LI []),E' st.U id { ob with rows:=ob.rows.set r0 r' }⟩ Q):ab P n (.ops (i::l)::k) st Q:=by
 refine ab.ins (by rw[ho];simp) hw λF hn I a w o all hi hs next Q' Lw=>?_
 subst hn;obtain⟨LF,hd⟩:=eF hi;rw[ho]at LF;obtain⟨t,x,y,g1,g2,rfl,rfl,rfl⟩:=tL LF;obtain⟨w',hx,LK⟩:=pD hs g1 g2 h1 h2 h3 h4;unfold Oper.wp;rw[hx];refine Lw _ _ _ ⟨I,?_⟩ h;rw[<-hd];exact LK
def ab.mkS{i:aK}{l:List aK}{e sz bytes:Nat}{zv:V}{xn:VX}(hw:bp st.s i.g=some true)(ho:i.op=.mk e sz bytes zv xn){m:Int}(hm:xn.ev st.s=.int .i64 m)
 (h0:0<=m)(hb:m.toNat*(bytes+1)<=140737488355328)
 (h:∀id,st.U id=none->ab P n (.ops l::k) ⟨aU st.s i.dst (.own id 0 m.toNat),E' st.U id ⟨e,sz,List.replicate m.toNat zv⟩⟩ Q):ab P n (.ops (i::l)::k) st Q:=by
 refine ab.ins (by rw[ho];simp) hw λF hn I a w o all hi hs next Q' Lw=>?_
 subst hn;obtain⟨LF,hd⟩:=eF hi;rw[ho]at LF;obtain⟨t,l',c,ti,z,h1,h2,h3,rfl,rfl,rfl,h5,rfl⟩:=DF LF;obtain⟨id,Ls,x,w',Y',LX,LK⟩:=vY hs h1 h5 h2 h3 hm h0 hb;unfold Oper.wp;rw[LX];refine Lw _ _ _ ⟨Y',?_⟩ (h id Ls);rw[<-hd];exact LK
def ab.IZ{i:aK}{l:List aK}{e sz bytes:Nat}{zv:V}{xa xn:VX}(hw:bp st.s i.g=some true)(ho:i.op=.P0 e sz bytes zv xa xn)(hx:xa.ev st.s=.bz){kq:IntKind}{m:Int}(hm:xn.ev st.s=.int kq m)
 (h0:0<m)(hb:m.toNat*(bytes+1)<=140737488355328)
 (h:∀id,st.U id=none->ab P n (.ops l::k) ⟨aU st.s i.dst (.own id 0 m.toNat),E' st.U id ⟨e,sz,List.replicate m.toNat zv⟩⟩ Q):ab P n (.ops (i::l)::k) st Q:=by
 refine ab.ins (by rw[ho];simp) hw λF hn I a w o all hi hs next Q' Lw=>?_
 subst hn;obtain⟨LF,hd⟩:=eF hi;rw[ho]at LF;obtain⟨t,tn,kn,x,y,args,argTypes,ti,z,h1,h2,h3,h4,h5,h6,rfl,rfl,rfl,rfl,rfl⟩:=xp LF;obtain⟨id,Ls,x,w',Y',LX,LK⟩:=sH hs h1 h2 h3 h4 h5 h6 hx hm h0 hb;unfold Oper.wp;rw[LX];refine Lw _ _ _ ⟨Y',?_⟩ (h id Ls);rw[<-hd];exact LK
def ab.fF{i:aK}{l:List aK}{e sz:Nat}{xs:List VX}(hw:bp st.s i.g=some true)(ho:i.op=.fF e sz xs)
 (hx:∀x∈xs.map (·.ev st.s),x.cells.length=sz/\x.stays=true)
 (h:∀id,st.U id=none->ab P n (.ops l::k) ⟨aU st.s i.dst (.own id 0 xs.length),E' st.U id ⟨e,sz,xs.map (·.ev st.s)⟩⟩ Q):ab P n (.ops (i::l)::k) st Q:=by
 refine ab.ins (by rw[ho];simp) hw λF hn I a w o all hi hs next Q' Lw=>?_
 subst hn;obtain⟨LF,hd⟩:=eF hi;rw[ho]at LF;obtain⟨t,len,parts,ti,z,h1,h2,h3,rfl,h5,h6,rfl⟩:=rY LF;rw[List.map_map]at hx;obtain⟨id,Ls,x,w',Y',LX,LK⟩:=oO hs h1 h2 h3 h5 h6 hx;unfold Oper.wp;rw[LX];refine Lw _ _ _ ⟨Y',?_⟩ (h id Ls);have hl:parts.size=len:=by have:=congrArg List.length h5;simpa using this
 simp only[eU,List.map_map,Array.length_toList,hl,<-hd];exact LK
def ab.append{i:aK}{l:List aK}{e sz bytes:Nat}{xa xb:VX}(hw:bp st.s i.g=some true)(ho:i.op=.append e sz bytes xa xb)
 {base src:List V}{LQ:Option Nat}(h1:de st.U e sz (xa.ev st.s)=some (base,LQ))(h2:cC st.U sz (xb.ev st.s)=some src)
 (hb:(base.length+src.length)*(bytes+1)<=140737488355328)
 (h:∀id,st.U id=none->ab P n (.ops l::k) ⟨aU st.s i.dst (.own id 0 (base.length+src.length)),E' (bT st.U LQ) id ⟨e,sz,base++src⟩⟩ Q):
 ab P n (.ops (i::l)::k) st Q:=by
 refine ab.ins (by rw[ho];simp) hw λF hn I a w o all hi hs next Q' Lw=>?_
 subst hn;obtain⟨LF,hd⟩:=eF hi;rw[ho]at LF;obtain⟨t,t',x,y,args,argTypes,ti,z,g1,g2,g3,Xq,g4,g5,rfl,rfl,rfl,rfl⟩:=qP LF;obtain⟨id,Ls,r,w',Y',hx,LK⟩:=oP hs g1 g2 g3 Xq g4 g5 h1 h2 hb;unfold Oper.wp;rw[hx];refine Lw _ _ _ ⟨Y',?_⟩ (h id Ls);rw[<-hd];exact LK
def fw(P:Program)(f:FuncId):Bool:=match P.funcs[f]? with
 |some fn=>fn.name != "runtime.NumGoroutine"&&fn.body.isSome
 |none=>false
def kT{w:World}{f:FuncId}(h:fw P f=true)(args:Array Value):(callFunc f args).run P w=.ok (.enter f args) w:=by
 unfold fw at h;split at h
 .rename_i fn hf;simp only[Ba,bne_iff_ne,ne_eq]at h;cases hb:fn.body with
  |none=>simp[hb]at h
  |some c=>simp[callFunc,hf,h.1,hb]
 .cases h
def aA(P:Program)(f:FuncId)(args:List V)(U:ag)(Post:V->ag->Prop):Prop:=fw P f=true/\pV P f args U Post
def aA.mono{f:FuncId}{args:List V}{U:ag}{Post OJ:V->ag->Prop}(h:aA P f args U Post)(hp:∀r Z',Post r Z'->OJ r Z'):
 aA P f args U OJ:=⟨h.1,h.2.mono hp⟩
def ax.app{I:Mu}{ow:Nat->Prop}{w:World}{vs us:List V}{l m:List Value}(h:ax I ow w vs l)(h':ax I ow w us m):ax I ow w (vs++us) (l++m):=h.append h'
def nb{F:Fr}{I:Mu}{a:Act}{w:World}(hs:df F I st a w){o:Oper}{f0:Operand}{args:Array Operand}{argTypes:Array TypeId}
 (P3:o.op=.call { callee:=.value f0,args:=args,argTypes:=argTypes }){f:FuncId}{caps:List V}(hf:(cx F.n f0).ev st.s=.fn f caps)
 {Post:V->ag->Prop}(hc:aA P f ((args.toList.map (cx F.n)).map (·.ev st.s)++caps) st.U Post){next:Act->World->Prop}{Q':Exit->Act->World->Prop}
 (Lw:∀r Z',Post r Z'->∀a' w',eE F ⟨aU st.s (o.dst.filter (·<F.n)) r,Z'⟩ a' w'->next a' w'):o.wp P a w next Q':=by
 have Pw:=ct hs f0;rw[hf]at Pw;simp only[C']at Pw;obtain⟨SS,Wa,Wb⟩:=Pw;have Mq:=(mr hs args.toList).app Wb;have Me:(execOp a.eval o).run P w=.ok (.enter f ((args.toList.map a.eval++SS).toArray)) w:=by
  unfold execOp;rw[P3];simp only[resolve,Wa,Deferred.ofValue,Sem.run_bind,Sem.run_pure,Result.andThen_ok,invoke,kT hc.1];congr 2;apply Array.ext';simp
 unfold Oper.wp;rw[Me];simp only[Oper.upon];have Nc:Sat w (aD I st.U) I st.U w:=by
  have h:=hs.sat;exact⟨Md _,rfl,rfl,rfl,λ_ _ _=>rfl,h.fin,h.inj,h.obj,λb hb _=>hb,h.nJ⟩
 refine(hc.2 I w _ Nc Mq).mono ?_;rintro e w' ⟨r,Z',Y',val,rfl,hp,hle,LK,hr⟩;refine Lw r Z' hp _ _ ⟨Y',?_⟩;have M':cS (aD I st.U) (aD Y' Z') w w':=λb hb hn=>⟨λho=>hn (LK.fresh b ho hb),LK.same b hb hn⟩
 have h0:=hs.sat;have L3:Sat F.w0 F.Ml Y' Z' w':=by
  refine⟨ly h0.size LK.size,LK.os.trans h0.os,LK.tape.trans h0.tape,LK.output.trans h0.output,?_,LK.fin,LK.inj,LK.obj,?_,h0.NY⟩
  .intro b hb hn;have h1:¬aD I st.U b:=λho=>hn (h0.fresh b ho hb);rw[LK.same b (Nat.lt_of_lt_of_le hb h0.size) h1,h0.same b hb hn]
  .intro b hb Lr;have h1:=LK.fresh b hb (Nat.lt_of_lt_of_le Lr h0.size);exact h0.fresh b h1 Lr
 exact hs.step L3 hle M' LK.size hr
def ab.call{i:aK}{l:List aK}{fx:VX}{xs:List VX}(hw:bp st.s i.g=some true)(ho:i.op=.call fx xs){f:FuncId}{caps:List V}(hf:fx.ev st.s=.fn f caps)
 {Post:V->ag->Prop}(hc:aA P f (xs.map (·.ev st.s)++caps) st.U Post)
 (h:∀r Z',Post r Z'->ab P n (.ops l::k) ⟨aU st.s i.dst r,Z'⟩ Q):ab P n (.ops (i::l)::k) st Q:=by
 refine ab.ins (by rw[ho];simp) hw λF hn I a w o all hi hs next Q' Lw=>?_
 subst hn;obtain⟨LF,hd⟩:=eF hi;rw[ho]at LF;obtain⟨f0,args,argTypes,g1,rfl,rfl⟩:=lM LF;refine nb hs g1 hf hc λr Z' hp a' w' LK=>Lw _ a' w' LK ?_;rw[hd];exact h r Z' hp
def w9{F:Fr}{I:Mu}{a:Act}{w:World}(hs:df F I st a w){o:Oper}{f0:Operand}{args:Array Operand}{argTypes:Array TypeId}
 (P3:o.op=.call { callee:=.value f0,args:=args,argTypes:=argTypes }){f:FuncId}{first:List V}(hf:(cx F.n f0).ev st.s=.bm f first)
 {Post:V->ag->Prop}(hc:aA P f (first++(args.toList.map (cx F.n)).map (·.ev st.s)) st.U Post){next:Act->World->Prop}{Q':Exit->Act->World->Prop}
 (Lw:∀r Z',Post r Z'->∀a' w',eE F ⟨aU st.s (o.dst.filter (·<F.n)) r,Z'⟩ a' w'->next a' w'):o.wp P a w next Q':=by
 have Pw:=ct hs f0;rw[hf]at Pw;simp only[C']at Pw;obtain⟨SS,Wa,Wb⟩:=Pw;have Mq:=Wb.app (mr hs args.toList);have Me:(execOp a.eval o).run P w=.ok (.enter f ((SS++args.toList.map a.eval).toArray)) w:=by
  unfold execOp;rw[P3];simp only[resolve,Wa,Deferred.ofValue,Sem.run_bind,Sem.run_pure,Result.andThen_ok,invoke,kT hc.1];congr 2;apply Array.ext';simp
 unfold Oper.wp;rw[Me];simp only[Oper.upon];have Nc:Sat w (aD I st.U) I st.U w:=by
  have h:=hs.sat;exact⟨Md _,rfl,rfl,rfl,λ_ _ _=>rfl,h.fin,h.inj,h.obj,λb hb _=>hb,h.nJ⟩
 refine(hc.2 I w _ Nc Mq).mono ?_;rintro e w' ⟨r,Z',Y',val,rfl,hp,hle,LK,hr⟩;refine Lw r Z' hp _ _ ⟨Y',?_⟩;have M':cS (aD I st.U) (aD Y' Z') w w':=λb hb hn=>⟨λho=>hn (LK.fresh b ho hb),LK.same b hb hn⟩
 have h0:=hs.sat;have L3:Sat F.w0 F.Ml Y' Z' w':=by
  refine⟨ly h0.size LK.size,LK.os.trans h0.os,LK.tape.trans h0.tape,LK.output.trans h0.output,?_,LK.fin,LK.inj,LK.obj,?_,h0.NY⟩
  .intro b hb hn;have h1:¬aD I st.U b:=λho=>hn (h0.fresh b ho hb);rw[LK.same b (Nat.lt_of_lt_of_le hb h0.size) h1,h0.same b hb hn]
  .intro b hb Lr;have h1:=LK.fresh b hb (Nat.lt_of_lt_of_le Lr h0.size);exact h0.fresh b h1 Lr
 exact hs.step L3 hle M' LK.size hr
def ab.lu{i:aK}{l:List aK}{fx:VX}{xs:List VX}(hw:bp st.s i.g=some true)(ho:i.op=.call fx xs){f:FuncId}{first:List V}(hf:fx.ev st.s=.bm f first)
 {Post:V->ag->Prop}(hc:aA P f (first++xs.map (·.ev st.s)) st.U Post)
 (h:∀r Z',Post r Z'->ab P n (.ops l::k) ⟨aU st.s i.dst r,Z'⟩ Q):ab P n (.ops (i::l)::k) st Q:=by
 refine ab.ins (by rw[ho];simp) hw λF hn I a w o all hi hs next Q' Lw=>?_
 subst hn;obtain⟨LF,hd⟩:=eF hi;rw[ho]at LF;obtain⟨f0,args,argTypes,g1,rfl,rfl⟩:=lM LF;refine w9 hs g1 hf hc λr Z' hp a' w' LK=>Lw _ a' w' LK ?_;rw[hd];exact h r Z' hp
inductive VR where
 |tmp (x:VX)
 |cell (agg:Bool) (sz:Nat) (x:VX)
 |bad
def ye(P:Program)(n:Nat):ResultVar->VR
 |.tmp t=>.tmp (cx n (.tmp t))
 |.cell t ty=>if bR P ty then .cell (fc P ty) (P.cellsOf ty) (cx n (.tmp t))else .bad
def iq(st:St):VR->Option V
 |.tmp x=>some (x.ev st.s)
 |.cell agg sz x=>cJ st.U agg sz (x.ev st.s)
 |.bad=>none
def gk(st:St):List VR->Option (List V)
 |[]=>some []
 |r::rs=>match iq st r with
   |some v=>match gk st rs with
    |some vs=>some (v::vs)
    |none=>none
   |none=>none
def qm(st:St)(l:List VR):Option V:=match gk st l with
 |some [v]=>some v
 |some vs=>some (.LI vs)
 |none=>none
def O8(l:List VR)(st:St)(Post:V->ag->Prop):Prop:=
 ∃v v' Z',qm st l=some v/\aa Z' st.U/\Wk st.U Z' v v'/\Post v' Z'
structure Lx where
 n:Nat
 code:bM
 res:List VR
def Vj(P:Program)(fn:Func):Option Lx:=match fn.body with
 |some c=>some ⟨fn.ntmps,dx P fn.ntmps c,fn.results.toList.map (ye P fn.ntmps)⟩
 |none=>none
def vF(tmps:Array Value):ResultVar->Go.Sem Value
 |.tmp t=>pure (tmps.getD t undef)
 |.cell b t=>do loadVar t (<-asAddr (tmps.getD b undef))
def zo(fn:Func)(tmps:Array Value):results fn tmps=(do
 let vs <-Functor.map List.toArray (fn.results.toList.mapM (vF tmps))
 pure (if h:vs.size=1 then vs[0]else .tuple vs)):=by
 unfold results;rw[Array.mapM_eq_mapM_toList];congr 3
def uL{F:Fr}{I:Mu}{a:Act}{w:World}(hs:df F I st a w)(r:ResultVar){v:V}(h:iq st (ye P F.n r)=some v):
 ∃x,(vF a.tmps r).run P w=.ok x w/\C' I (aD I st.U) w v x:=by
 cases r with
 |tmp t=>
  simp only[ye,iq,aX]at h;subst h;exact⟨_,rfl,ct hs (.tmp t)⟩
 |cell b t=>
  simp only[ye]at h;split at h
  .rename_i hk;simp only[iq]at h;have hx:=ct hs (.tmp b);obtain⟨z,h1,h2⟩:=uw (P:=P) hs.sat hk hx h;refine⟨z,?_,h2⟩;have he:a.eval (.tmp b)=a.tmps.getD b undef:=rfl;rw[he]at h1;simp only[Instr.loadAt,Sem.run_bind]at h1;simp only[vF,Sem.run_bind];generalize a.tmps.getD b undef=u at*;cases u<;>simp[Instr.sureAddr]at h1;rename_i p;cases p<;>simp[asAddr]at h1|-;exact h1
  .simp[iq]at h
def tj{F:Fr}{I:Mu}{a:Act}{w:World}(hs:df F I st a w)(fn:Func){v:V}(h:qm st (fn.results.toList.map (ye P F.n))=some v):
 ∃x,(results fn a.tmps).run P w=.ok x w/\C' I (aD I st.U) w v x:=by
 have key:∀(l:List ResultVar) (vs:List V),gk st (l.map (ye P F.n))=some vs->
  ∃xs,(l.mapM (vF a.tmps)).run P w=.ok xs w/\ax I (aD I st.U) w vs xs:=by
  intro l
  induction l with
  |nil=>intro vs h;simp only[List.map_nil,gk,aX]at h;subst h;exact⟨[],rfl,by simp[ax]⟩
  |cons r l ih=>
   intro vs h;simp only[fb,gk]at h;split at h
   .rename_i v hv;split at h
    .rename_i vs' Yn;simp only[aX]at h;subst h;obtain⟨x,h1,h2⟩:=uL (P:=P) hs r hv;obtain⟨xs,h3,h4⟩:=ih vs' Yn;refine⟨x::xs,?_,by simp only[ax];exact⟨x,xs,rfl,h2,h4⟩⟩;rw[List.mapM_cons];simp only[Sem.run_bind];rw[h1];simp only[Result.andThen_ok];rw[h3];simp
    .cases h
   .cases h
 unfold qm at h;cases MI:gk st (fn.results.toList.map (ye P F.n))with
 |none=>simp[MI]at h
 |some vs=>
  obtain⟨xs,h1,h2⟩:=key _ _ MI;have Me:(results fn a.tmps).run P w=.ok (if hl:xs.toArray.size=1 then xs.toArray[0]else .tuple xs.toArray) w:=by
   rw[zo];simp only[Sem.run_bind,Sem.run_map];rw[h1];simp
  rw[MI]at h
  match vs,h,h2 with
  |[],h,h2=>
   simp only[ax]at h2;subst h2;simp only[aX]at h;subst h;exact⟨_,Me,by simp[C',ax]⟩
  |[u],h,h2=>
   simp only[ax]at h2;obtain⟨x,xs',rfl,h3,rfl⟩:=h2;simp only[aX]at h;subst h;exact⟨_,Me,by simpa using h3⟩
  |u1::u2::us,h,h2=>
   simp only[aX]at h;subst h;have hlen:=h2.length;refine⟨_,Me,?_⟩;rw[dif_neg (by simp[hlen])];simp only[C'];exact⟨xs,rfl,h2⟩
def bF(args:List V):Nat->V:=λi=>args.getD i (.LI [])
def df.Hn{F:Fr}{I:Mu}{a:Act}{w:World}(hs:df F I st a w){d:Deferred}{ds:List Deferred}(hd:a.defers=d::ds):
 ∃D w',d.target=.collected D/\(Instr.takeDeferred D).run P w=.ok [] w'/\df F I st { a with defers:=ds } w':=by
 obtain⟨Ds,h1,h2,h3⟩:=hs.book.marks;rw[hd]at h1;cases Ds with
 |nil=>simp at h1
 |cons D Ds=>
  simp only[fb,List.cons.injEq]at h1;obtain⟨rfl,rfl⟩:=h1;obtain⟨g1,g2,g3⟩:=h3 D (by simp);simp only[List.nodup_cons]at h2;refine⟨D,w.putObj D (.deferred none),rfl,run_takeDeferred g2,?_⟩;have LR:∀b,b≠D->(w.putObj D (.deferred none)).heap[b]?=w.heap[b]?:=λb hb=>World.putObj_heap_other hb;have hk:oT (aD I st.U) (aD I st.U) w (w.putObj D (.deferred none)):=λb _ hn=>⟨hn,λoff x hx=>by
   by_cases hb:b=D
   .subst hb;simp[World.cell?,g2]at hx
   .exact eL (LR b hb) off x hx⟩
  have hz:w.heap.size<=(w.putObj D (.deferred none)).heap.size:=by simp
  refine⟨⟨by simpa using hs.sat.size,hs.sat.os,hs.sat.tape,hs.sat.output,λb hb hn=>(LR b (by omega)).trans (hs.sat.same b hb hn),hs.sat.fin,hs.sat.inj,λid o ho=>?_,hs.sat.fresh,hs.sat.NY⟩,
   hs.le,hs.size,⟨λl r e=>?_,Ds,rfl,h2.2,λD' hD'=>?_⟩,λi hi=>C'.bO (cU.refl I) hk hz _ _ (hs.slot i hi)⟩
  .refine(hs.sat.obj id o ho).bO (cU.refl I) hk hz λb sz cap hp=>LR b ?_;rintro rfl;exact g3 ⟨id,o,sz,cap,ho,hp⟩
  .obtain⟨q1,q2⟩:=hs.book.Ve l r e;refine⟨(LR l ?_).trans q1,q2⟩;rintro rfl;rw[g2]at q1;cases q1
  .obtain⟨q1,q2,q3⟩:=h3 D' (by simp[hD']);refine⟨q1,(LR D' ?_).trans q2,q3⟩;rintro rfl;exact h2.1 hD'
def tS{F:Fr}{I:Mu}{fn:Func}{R:Ending->World->Prop}:∀(ds:List Deferred) (a:Act) (w:World),a.defers=ds->df F I st a w->
 (∀a' w',a'.tmps=a.tmps->df F I st a' w'->∃v,(results fn a'.tmps).run P w'=.ok v w'/\R (.returned v) w')->LeavesInM F.eB 0 P fn a.tmps R ds .returning w
 |[],a,w,_,hs,h=>by
  obtain⟨v,h1,h2⟩:=h a w rfl hs;exact⟨v,h1,h2⟩
 |d::ds,a,w,hd,hs,h=>by
  obtain⟨D,w',h1,h2,h3⟩:=hs.Hn (P:=P) hd;exact⟨by simp,.inl ⟨D,w',h1,h2,tS ds { a with defers:=ds } w' rfl h3 (λa' w' e LK=>h a' w' e LK)⟩⟩
def pV.mn{f:FuncId}{fn:Func}{vf:Lx}(hf:P.funcs[f]?=some fn)(hv:Vj P fn=some vf){args:List V}{U:ag}{Post:V->ag->Prop}(hlen:args.length<=vf.n)
 (h:ab P vf.n [.code vf.code] ⟨bF args,U⟩ λst=>O8 vf.res st Post):pV P f args U Post:=by
 intro I w Lz Nc hr;unfold Vj at hv;cases hb:fn.body with
 |none=>simp[hb]at hv
 |some c=>
  simp only[hb,aX]at hv;subst hv;simp only at h hlen;have hl:=hr.length;refine callsIn_wide.1 (callsIn_of_wp_marks (n:=0) hf hb trivial ?_ rfl);have hs:df ⟨w,aD I U,I,fn.ntmps,none⟩ I ⟨bF args,U⟩ { tmps:=Lz.toArray++Array.replicate (fn.ntmps-Lz.toArray.size) undef,defers:=[] } w:=by
   refine⟨Nc,cU.refl I,by simp;omega,⟨λ_ _ e=>by simp at e,[],rfl,.nil,by simp⟩,λi hi=>?_⟩;simp only[bF];by_cases Lr:i<args.length
   .have hv:args[i]?=some (args.getD i (.LI [])):=by simp[List.getD,Oy Lr]
    obtain⟨x,hx,V1⟩:=hr.get hv;rw[Og,Array.getElem?_append_left (by simp;omega)];simp only[List.getElem?_toArray,hx,Option.getD_some];exact V1
   .have hv:args.getD i (.LI [])=.LI []:=by simp[List.getD,qv (Nat.le_of_not_lt Lr)]
    rw[hv,Og,Array.getElem?_append_right (by simp;omega)];simp only[C'];refine⟨[],?_,by simp[ax]⟩;rw[Array.getElem?_replicate];split<;>rfl
  have M7:=h ⟨w,aD I U,I,fn.ntmps,none⟩ rfl [.code c] rfl _ w ⟨I,hs⟩;refine wpIn_mono (F:=Fence.wide) M7 ?_;rintro e a' w' ⟨he,st,⟨v,v',Z',Px,G',UD,Yx⟩,Y',LK⟩;have L3:LeavesInM Fence.wide 0 P fn a'.tmps (λe w'=>∃r Z' Y' val,e=Ending.returned val/\Post r Z'/\cU I Y'/\Sat w (aD I U) Y' Z' w'/\C' Y' (aD Y' Z') w' r val) a'.defers .returning w':=by
   refine tS (F:=⟨w,aD I U,I,fn.ntmps,none⟩) a'.defers a' w' rfl LK λa1 w1 _ NI=>?_;obtain⟨x,hx,V1⟩:=tj (P:=P) NI fn Px;exact⟨x,hx,v',Z',Y',x,rfl,Yx,NI.le,NI.sat.drop G',UD Y' _ _ _ _ NI.sat V1⟩
  rcases he with rfl|rfl<;>exact L3
def aA.mn{f:FuncId}{fn:Func}{vf:Lx}(hf:P.funcs[f]?=some fn)(hv:Vj P fn=some vf)(Mt:fw P f=true){args:List V}{U:ag}{Post:V->ag->Prop}(hlen:args.length<=vf.n)
 (h:ab P vf.n [.code vf.code] ⟨bF args,U⟩ λst=>O8 vf.res st Post):aA P f args U Post:=⟨Mt,.mn hf hv hlen h⟩
structure Fo(P:Program)(f:FuncId)(fn:Func)(vf:Lx):Prop where
 a:P.funcs[f]?=some fn
 b:Vj P fn=some vf:=by kernel_rfl
 c:fw P f=true:=by kernel_rfl
def Fo.r{P:Program}{f:FuncId}{fn:Func}{vf:Lx}(h:Fo P f fn vf){args:List V}{U:ag}{Post:V->ag->Prop}(hlen:args.length<=vf.n)
 (k:ab P vf.n [.code vf.code] ⟨bF args,U⟩ λst=>O8 vf.res st Post):aA P f args U Post:=aA.mn h.a h.b h.c hlen k
variable {P:Program} {n:Nat}
def bY(U:ag)(sz:Nat)(xa xv:V):Option ag:=
 match xa with
 |.ptr id i c=>match U id with
  |some ob=>match ob.rows[i]? with
   |some r=>match bQ r c sz xv with
    |some r'=>some (E' U id ⟨ob.elem,ob.sz,ob.rows.set i r'⟩)
    |none=>none
   |none=>none
  |none=>none
 |_=>none
def Mw(s:Nat->V)(U:ag):L5->Option (Nat->V×ag)
 |.alloc e sz z=>some λid=>(.ptr id 0 0,E' U id ⟨e,sz,[z]⟩)
 |.box e sz x=>if(x.ev s).cells.length=sz/\(x.ev s).stays=true then some λid=>(.ptr id 0 0,E' U id ⟨e,sz,[x.ev s]⟩)else none
 |.fF e sz xs=>if(xs.map (·.ev s)).all (λx=>decide (x.cells.length=sz)&&x.stays)then some λid=>(.own id 0 xs.length,E' U id ⟨e,sz,xs.map (·.ev s)⟩)else none
 |.append e sz bytes xa xb=>match de U e sz (xa.ev s),cC U sz (xb.ev s)with
  |some (base,LQ),some src=>if(base.length+src.length)*(bytes+1)<=140737488355328 then
     some λid=>(.own id 0 (base.length+src.length),E' (bT U LQ) id ⟨e,sz,base++src⟩)else none
  |_,_=>none
 |.mk e sz bytes z x=>match x.ev s with
  |.int .i64 m=>if 0<=m/\m.toNat*(bytes+1)<=140737488355328 then some λid=>(.own id 0 m.toNat,E' U id ⟨e,sz,List.replicate m.toNat z⟩)else none
  |_=>none
 |.P0 e sz bytes z y x=>match y.ev s,x.ev s with
  |.bz,.int _ m=>if 0<m/\m.toNat*(bytes+1)<=140737488355328 then some λid=>(.own id 0 m.toNat,E' U id ⟨e,sz,List.replicate m.toNat z⟩)else none
  |_,_=>none
 |_=>none
def TO(P:Program)(dst:Option Nat)(op:L5)(x:St)(K:St->Prop):Prop:=
 match bk op with
 |0=>eV x.s op/\∃v,aL x.U x.s op=some v/\K ⟨aU x.s dst v,x.U⟩
 |1=>match op with
  |.call fx xs=>∃f caps v,fx.ev x.s=.fn f caps/\(∀Z1,aa x.U Z1->aA P f (xs.map (·.ev x.s)++caps) Z1 (λr Z'=>r=v/\Z'=Z1))/\K ⟨aU x.s dst v,x.U⟩
  |_=>False
 |2=>match op with
  |.store sz xa xv=>∃Z',bY x.U sz (xa.ev x.s) (xv.ev x.s)=some Z'/\K ⟨aU x.s dst (.LI []),Z'⟩
  |_=>False
 |3=>∃g,Mw x.s x.U op=some g/\∀id,x.U id=none->K ⟨aU x.s dst (g id).1,(g id).2⟩
 |_=>False
def T(P:Program)(i:aK)(x:St)(K:St->Prop):Prop:=
 match bp x.s i.g with
 |some true=>TO P i.dst i.op x K
 |some false=>K ⟨aU x.s i.dst (.LI []),x.U⟩
 |none=>False
def TO.mono{dst:Option Nat}{op:L5}{x:St}{K K':St->Prop}(hk:∀x,K x->K' x)(h:TO P dst op x K):TO P dst op x K':=by
 unfold TO at*;split<;>rename_i ho<;>simp only[ho]at h
 .obtain⟨h1,v,h2,h3⟩:=h;exact⟨h1,v,h2,hk _ h3⟩
 .split at h
  .obtain⟨f,caps,v,h1,h2,h3⟩:=h;exact⟨f,caps,v,h1,h2,hk _ h3⟩
  .exact h.elim
 .split at h
  .obtain⟨Z',h1,h2⟩:=h;exact⟨Z',h1,hk _ h2⟩
  .exact h.elim
 .obtain⟨g,h1,h2⟩:=h;exact⟨g,h1,λid Ls=>hk _ (h2 id Ls)⟩
def T.mono{i:aK}{x:St}{K K':St->Prop}(hk:∀x,K x->K' x)(h:T P i x K):T P i x K':=by
 unfold T at*;split<;>rename_i ho<;>simp only[ho]at h
 .exact h.mono hk
 .exact hk _ h
def OS(U:ag):Prop:=∀N,∃id,N<=id/\U id=none
def OS.E'{U:ag}(h:OS U)(id:Nat)(o:Ob):OS (E' U id o):=λN=>by
 obtain⟨i,h1,h2⟩:=h (max N (id+1));exact⟨i,by omega,by simp[Vc.E',show i≠id by omega,h2]⟩
def OS.bT{U:ag}(h:OS U)(o:Option Nat):OS (bT U o):=λN=>by
 obtain⟨i,h1,h2⟩:=h N;refine⟨i,h1,?_⟩;cases o with
 |none=>exact h2
 |some j=>simp only[Vc.bT,del];split<;>simp_all
def eE.inf{F:Fr}{st:St}{a:Act}{w:World}(h:eE F st a w):OS st.U:=by
 obtain⟨I,h⟩:=h;obtain⟨N,hN⟩:=h.sat.fin;intro M;refine⟨max N M,by omega,?_⟩;cases ho:st.U (max N M)with
 |none=>rfl
 |some o=>
  have:=h.sat.obj _ o ho;rw[hN _ (by omega)]at this;exact this.elim
def EA{s:Nat->V}{U:ag}(h:OS U){op:L5}{g:Nat->V×ag}(he:Mw s U op=some g)(id:Nat):OS (g id).2:=by
 unfold Mw at he;split at he
 .simp only[aX]at he;subst he;exact h.E' _ _
 .split at he
  .simp only[aX]at he;subst he;exact h.E' _ _
  .cases he
 .split at he
  .simp only[aX]at he;subst he;exact h.E' _ _
  .cases he
 .split at he
  .split at he
   .simp only[aX]at he;subst he;exact(h.bT _).E' _ _
   .cases he
  .cases he
 .split at he
  .split at he
   .simp only[aX]at he;subst he;exact h.E' _ _
   .cases he
  .cases he
 .split at he
  .split at he
   .simp only[aX]at he;subst he;exact h.E' _ _
   .cases he
  .cases he
 .cases he
def yV{U Z':ag}(h:OS U){sz:Nat}{a v:V}(he:bY U sz a v=some Z'):OS Z':=by
 unfold bY at he;split at he
 .split at he
  .split at he
   .split at he
    .simp only[aX]at he;subst he;exact h.E' _ _
    .cases he
   .cases he
  .cases he
 .cases he
def TO.inf{dst:Option Nat}{op:L5}{x:St}{K:St->Prop}(hi:OS x.U)(h:TO P dst op x K):TO P dst op x λx'=>OS x'.U/\K x':=by
 unfold TO at*;split<;>rename_i ho<;>simp only[ho]at h
 .obtain⟨h1,v,h2,h3⟩:=h;exact⟨h1,v,h2,hi,h3⟩
 .split at h
  .obtain⟨f,caps,v,h1,h2,h3⟩:=h;exact⟨f,caps,v,h1,h2,hi,h3⟩
  .exact h.elim
 .split at h
  .obtain⟨Z',h1,h2⟩:=h;exact⟨Z',h1,yV hi h1,h2⟩
  .exact h.elim
 .obtain⟨g,h1,h2⟩:=h;exact⟨g,h1,λid Ls=>⟨EA hi h1 id,h2 id Ls⟩⟩
def T.inf{i:aK}{x:St}{K:St->Prop}(hi:OS x.U)(h:T P i x K):T P i x λx'=>OS x'.U/\K x':=by
 unfold T at*;split<;>rename_i ho<;>simp only[ho]at h
 .exact h.inf hi
 .exact⟨hi,h⟩
def DU{s:Nat->V}{d:Option Nat}{v:V}{x:VX}(h:∀t,d=some t->x.Ey≠some t):x.ev (aU s d v)=x.ev s:=by
 cases d with
 |none=>rfl
 |some t=>
  cases x with
  |c _=>rfl
  |t u=>
   simp only[VX.ev,aU];have:=h t rfl;simp only[VX.Ey,ne_eq,aX]at this;rw[aJ this]
def o9{s s':Nat->V}{l:List VX}(h:∀x∈l,x.ev s=x.ev s'):l.map (·.ev s)=l.map (·.ev s'):=List.map_congr_left h
def oy{s s':Nat->V}{l:Option VX}(h:∀x∈l.toList,x.ev s=x.ev s'):l.map (·.ev s)=l.map (·.ev s'):=by
 cases l with
 |none=>rfl
 |some x=>simp[h x (by simp)]
def pS{s s':Nat->V}{U:ag}{op:L5}(h:∀x∈op.xs,x.ev s=x.ev s'):aL U s op=aL U s' op/\(eV s op↔eV s' op):=by
 cases op<;>simp only[L5.xs,dI,List.not_mem_nil,or_false,forall_eq_or_imp,forall_eq,fq]at h<;>
  simp only[aL,eV,h,and_true,and_self]
 case slice NM x lo hi mx=>
  rw[oy (l:=lo) (λy hy=>h.2 y (.inl (.inl hy))),oy (l:=hi) (λy hy=>h.2 y (.inl (.inr hy))),oy (l:=mx) (λy hy=>h.2 y (.inr hy))]
 case PY x lo hi=>
  rw[oy (l:=lo) (λy hy=>h.2 y (.inl hy)),oy (l:=hi) (λy hy=>h.2 y (.inr hy))]
 case Ra f xs=>rw[o9 h]
 case more m xs=>
  by_cases hb:∃f,m=.Yi f
  .obtain⟨f,rfl⟩:=hb;have e:=o9 h;cases xs with
   |nil=>rfl
   |cons x xs=>cases xs<;>exact congrArg (λl=>some (V.bm f l)) e
  cases xs with
  |nil=>cases m<;>rfl
  |cons x xs=>
   have hx:=h x (by simp);cases xs with
   |nil=>cases m<;>first|rfl|exact absurd ⟨_,rfl⟩ hb|simp only[hx]
   |cons y ys=>cases m<;>first|rfl|exact absurd ⟨_,rfl⟩ hb
 case build z ps=>
  have:(ps.map λp=>(p.1,p.2.1,p.2.2.ev s))=ps.map λp=>(p.1,p.2.1,p.2.2.ev s'):=List.map_congr_left λp hp=>by
   rw[h _ (gO.2 ⟨p,hp,rfl⟩)]
  rw[this]
def fk{s s':Nat->V}{U:ag}{op:L5}(h:∀x∈op.xs,x.ev s=x.ev s'):Mw s U op=Mw s' U op:=by
 cases op<;>simp only[L5.xs,dI,List.not_mem_nil,or_false,forall_eq_or_imp,forall_eq,fq]at h<;>
  simp only[Mw,h]
 case fF e sz xs=>rw[o9 h]
def yD{s:Nat->V}{U Z':ag}{op:L5}(h:jL op=true):aL U s op=aL Z' s op:=by
 cases op
 case more m xs=>
  cases xs with
  |nil=>cases m<;>rfl
  |cons x xs=>cases xs<;>cases m<;>rfl
 all_goals first|rfl|simp[jL]at h
variable {P:Program} {n:Nat}
def apart_spec{A B:aK}(h:zx A B=true):(∀d,A.dst=some d->d∉B.kK)/\(∀d,B.dst=some d->d∉A.kK)/\(∀d,A.dst=some d->B.dst≠some d):=by
 simp only[zx,Ba]at h;obtain⟨h1,h2⟩:=h;refine⟨λd hd=>?_,λd hd=>?_,λd hd=>?_⟩
 .rw[hd]at h1;simp at h1;exact h1.1
 .rw[hd]at h2;simpa using h2
 .rw[hd]at h1;simp at h1;exact h1.2
def Be{s:Nat->V}{a b:Option Nat}{u v:V}(h:∀d,a=some d->b≠some d):aU (aU s a u) b v=aU (aU s b v) a u:=by
 cases a with
 |none=>rfl
 |some x=>
  cases b with
  |none=>rfl
  |some y=>
   have LR:y≠x:=λe=>h x rfl (by rw[e]);funext i;simp only[aU];by_cases h1:i=y<;>by_cases h2:i=x<;>simp_all
def At{i:aK}{x:VX}(hx:x∈i.op.xs){t:Nat}(ht:x.Ey=some t):t∈i.kK:=
 List.mem_filterMap.2 ⟨x,List.mem_append_left _ hx,ht⟩
def gl{i:aK}{d:Option Nat}{v:V}(h:∀t,d=some t->t∉i.kK)(s:Nat->V):∀x∈i.op.xs,x.ev (aU s d v)=x.ev s:=
 λ_ hx=>DU λt ht e=>h t ht (At hx e)
def cj{i:aK}{d:Option Nat}{v:V}(h:∀t,d=some t->t∉i.kK)(s:Nat->V):bp (aU s d v) i.g=bp s i.g:=by
 cases hg:i.g with
 |none=>rfl
 |some g=>
  obtain⟨x,b⟩:=g;have:x.ev (aU s d v)=x.ev s:=DU λt ht e=>h t ht (List.mem_filterMap.2 ⟨x,List.mem_append_right _ (by simp[hg]),e⟩);simp only[bp,this]
def QO(P:Program)(op:L5)(s:Nat->V)(U:ag)(v:V):Prop:=
 match bk op with
 |0=>eV s op/\aL U s op=some v
 |1=>match op with
  |.call fx xs=>∃f caps,fx.ev s=.fn f caps/\∀Z1,aa U Z1->aA P f (xs.map (·.ev s)++caps) Z1 (λr Z'=>r=v/\Z'=Z1)
  |_=>False
 |_=>False
def QY(P:Program)(i:aK)(s:Nat->V)(U:ag)(v:V):Prop:=
 (bp s i.g=some true/\QO P i.op s U v)\/(bp s i.g=some false/\v=.LI [])
def cp{i:aK}(hq:fo i=true){x:St}{K:St->Prop}:T P i x K↔∃v,QY P i x.s x.U v/\K ⟨aU x.s i.dst v,x.U⟩:=by
 simp only[fo,NV]at hq;unfold T QY;cases hw:bp x.s i.g with
 |none=>simp
 |some b=>
  cases b
  .simp
  .simp only[true_and,aX,Bool.true_eq_false,false_and,or_false];unfold TO QO;have:bk i.op=0\/bk i.op=1:=by omega
   rcases this with h0|h0<;>simp only[h0]
   .constructor
    .rintro⟨h1,v,h2,h3⟩;exact⟨v,⟨h1,h2⟩,h3⟩
    .rintro⟨v,⟨h1,h2⟩,h3⟩;exact⟨h1,v,h2,h3⟩
   .cases LF:i.op<;>simp[bk,LF]at h0|-;constructor
    .rintro⟨f,caps,h1,v,h2,h3⟩;exact⟨v,⟨f,caps,h1,h2⟩,h3⟩
    .rintro⟨v,⟨f,caps,h1,h2⟩,h3⟩;exact⟨f,caps,h1,v,h2,h3⟩
def rA{op:L5}{s s':Nat->V}{U:ag}{v:V}(h:∀x∈op.xs,x.ev s=x.ev s')(hq:QO P op s U v):QO P op s' U v:=by
 unfold QO at*;by_cases h0:bk op=0
 .obtain⟨h1,h2⟩:=pS (U:=U) h;simp only[h0]at hq|-;exact⟨h2.1 hq.1,h1▸hq.2⟩
 .by_cases h1:bk op=1
  .simp only[h1]at hq|-;cases op<;>simp only[]at hq<;>first|exact hq.elim|skip
   rename_i fx xs;obtain⟨f,caps,g1,g2⟩:=hq;refine⟨f,caps,?_,?_⟩
   .rw[<-h fx (by simp[L5.xs])];exact g1
   .rw[<-o9 (s:=s) (s':=s') λx hx=>h x (by simp[L5.xs,hx])];exact g2
  .exfalso;revert hq;split<;>simp_all
def fG{i:aK}{s:Nat->V}{U:ag}{v u:V}{d:Option Nat}(h:∀t,d=some t->t∉i.kK):QY P i (aU s d u) U v↔QY P i s U v:=by
 unfold QY;rw[cj h];constructor
 .rintro(⟨h1,h2⟩|h1)
  .exact .inl ⟨h1,rA (gl h s) h2⟩
  .exact .inr h1
 .rintro(⟨h1,h2⟩|h1)
  .exact .inl ⟨h1,rA (λx hx=>(gl h s x hx).symm) h2⟩
  .exact .inr h1
def lg{op:L5}(h:jL op=true):bk op=0:=by
 cases op
 case more m xs=>cases m<;>simp[jL,bk]at h|-
 all_goals simp[jL,bk]at h|-
def jB{i:aK}(hf:jL i.op=true){s:Nat->V}{U Z':ag}{v:V}(h:QY P i s U v):QY P i s Z' v:=by
 rcases h with⟨h1,h2⟩|h1
 .refine .inl ⟨h1,?_⟩;unfold QO at*;simp only[lg hf]at*;exact⟨h2.1,by rw[<-yD (U:=U) hf];exact h2.2⟩
 .exact .inr h1
def Hi{i:aK}(hf:jL i.op=true){s:Nat->V}{U:ag}{v v':V}(h:QY P i s U v)(h':QY P i s U v'):v=v':=by
 rcases h with⟨h1,h2⟩|⟨h1,h2⟩<;>rcases h' with⟨g1,g2⟩|⟨g1,g2⟩
 .unfold QO at*;simp only[lg hf]at*;have:=h2.2.symm.trans g2.2;simpa using this
 .rw[h1]at g1;cases g1
 .rw[h1]at g1;cases g1
 .rw[h2,g2]
def fT{i:aK}(he:qo i=true){x:St}{K:St->Prop}:T P i x K↔
 (bp x.s i.g=some false/\K ⟨aU x.s i.dst (.LI []),x.U⟩)\/
 (bp x.s i.g=some true/\((∃sz xa xv Z',i.op=.store sz xa xv/\bY x.U sz (xa.ev x.s) (xv.ev x.s)=some Z'/\K ⟨aU x.s i.dst (.LI []),Z'⟩)\/
   (bk i.op=3/\∃g,Mw x.s x.U i.op=some g/\∀id,x.U id=none->K ⟨aU x.s i.dst (g id).1,(g id).2⟩))):=by
 unfold T;cases hw:bp x.s i.g with
 |none=>simp
 |some b=>
  cases b
  .simp
  .simp only[aX,Bool.true_eq_false,false_and,false_or,true_and];unfold TO;simp only[qo,jH,beq_iff_eq]at he;rcases he with h0|h0<;>simp only[h0]
   .cases LF:i.op<;>simp[bk,LF]at h0|-;constructor
    .rintro⟨Z',h1,h2⟩;exact⟨_,_,_,⟨rfl,rfl,rfl⟩,Z',h1,h2⟩
    .rintro⟨_,_,_,⟨rfl,rfl,rfl⟩,Z',h1,h2⟩;exact⟨Z',h1,h2⟩
   .have:∀sz xa xv,i.op≠.store sz xa xv:=λ_ _ _ e=>by rw[e]at h0;simp[bk]at h0
    simp[this]
def j8(s:Nat->V):L5->Option Nat
 |.load _ _ x=>match x.ev s with
   |.ptr id _ _=>some id
   |_=>none
 |.O3 _ x _=>match x.ev s with
   |.own id _ _=>some id
   |_=>none
 |.slice _ x _ _ _=>match x.ev s with
   |.own id _ _=>some id
   |_=>none
 |.Rb x=>match x.ev s with
   |.own id _ _=>some id
   |_=>none
 |_=>none
def yW{s:Nat->V}{U Z':ag}{op:L5}(h:∀j,j8 s op=some j->U j=Z' j):aL U s op=aL Z' s op:=by
 cases op<;>try rfl
 case more m xs=>
  cases xs with
  |nil=>cases m<;>rfl
  |cons x xs=>cases xs<;>cases m<;>rfl
 case load agg sz x=>
  simp only[j8]at h;simp only[aL,cJ];split
  .rename_i id i k hx;simp only[hx,aX,forall_eq']at h;rw[h]
  .rfl
  .rfl
 case O3 NM x i=>
  simp only[j8]at h;simp only[aL];generalize x.ev s=xv at*;generalize i.ev s=iv at*;cases xv<;>try (cases iv<;>rfl)
  case own id off len=>
   simp only[aX,forall_eq']at h;cases iv<;>try rfl
   simp only[bN,h]
 case Rb x=>
  simp only[j8]at h;simp only[aL];generalize x.ev s=xv at*;cases xv<;>try rfl
  case own id off len=>
   simp only[aX,forall_eq']at h;simp only[cD,h]
 case slice NM x lo hi mx=>
  simp only[j8]at h;simp only[aL,cq];split
  .rename_i id off len hx;simp only[hx,aX,forall_eq']at h;have:fV U id NM=fV Z' id NM:=by simp only[fV,h]
   simp only[this]
  .rfl
  .rfl
  .rfl
def y4{s:Nat->V}{U:ag}{op:L5}{v:V}(hv:aL U s op=some v){j:Nat}(hj:j8 s op=some j):U j≠none:=by
 intro hn;cases op<;>simp only[j8,reduceCtorEq]at hj
 case load agg sz x=>
  split at hj
  .rename_i id i k hx;simp only[aX]at hj;subst hj;simp[aL,cJ,hx,hn]at hv
  .cases hj
 case O3 NM x i=>
  split at hj
  .rename_i id off len hx;simp only[aX]at hj;subst hj;simp only[aL]at hv;rw[hx]at hv;generalize i.ev s=iv at hv;cases iv<;>simp[bN,hn]at hv
  .cases hj
 case Rb x=>
  split at hj
  .rename_i id off len hx;simp only[aX]at hj;subst hj;simp[aL,cD,hx,hn]at hv
  .cases hj
 case slice NM x lo hi mx=>
  split at hj
  .rename_i id off len hx;simp only[aX]at hj;subst hj;simp only[aL,cq,hx,fV,hn]at hv;split at hv
   .simp at hv
   .cases hv
  .cases hj
def qK{i:aK}(h:RS i=true):bk i.op=3/\∀s U g,Mw s U i.op=some g->∀id j,j≠id->(g id).2 j=U j:=by
 unfold RS at h;split at h
 .rename_i LF;refine⟨by rw[LF];rfl,λs U g hg id j hj=>?_⟩;rw[LF]at hg;simp only[Mw,aX]at hg;subst hg;simp[Vc.E',hj]
 .rename_i LF;refine⟨by rw[LF];rfl,λs U g hg id j hj=>?_⟩;rw[LF]at hg;simp only[Mw]at hg;split at hg
  .simp only[aX]at hg;subst hg;simp[Vc.E',hj]
  .cases hg
 .rename_i LF;refine⟨by rw[LF];rfl,λs U g hg id j hj=>?_⟩;rw[LF]at hg;simp only[Mw]at hg;split at hg
  .simp only[aX]at hg;subst hg;simp[Vc.E',hj]
  .cases hg
 .rename_i LF;refine⟨by rw[LF];rfl,λs U g hg id j hj=>?_⟩;rw[LF]at hg;simp only[Mw]at hg;split at hg
  .split at hg
   .simp only[aX]at hg;subst hg;simp[Vc.E',hj]
   .cases hg
  .cases hg
 .cases h
def xg{i:aK}(h:Bb i=true):bk i.op=3/\∀s U g,Mw s U i.op=some g->∀id j,j≠id->(g id).2 j=U j\/(g id).2 j=none:=by
 by_cases hm:RS i=true
 .exact⟨(qK hm).1,λs U g hg id j hj=>.inl ((qK hm).2 s U g hg id j hj)⟩
 .unfold Bb at h;unfold RS at hm;cases LF:i.op<;>rw[LF]at h hm<;>simp at h hm;refine⟨rfl,λs U g hg id j hj=>?_⟩;simp only[Mw]at hg;split at hg
  .split at hg
   .simp only[aX]at hg;subst hg;rename_i LQ _ _ _ _ _;simp only[Vc.E',aJ hj];rename_i base LQ src _ _ _;cases LQ with
    |none=>exact .inl rfl
    |some a=>
     simp only[bT,del];split
     .exact .inr rfl
     .exact .inl rfl
   .cases hg
  .cases hg
def uR{i:aK}(hp:jo i=true){s:Nat->V}{U Z':ag}(h:∀j,j8 s i.op=some j->U j=Z' j){v:V}(hq:QY P i s U v):QY P i s Z' v:=by
 simp only[jo,beq_iff_eq]at hp;rcases hq with⟨h1,h2⟩|h1
 .refine .inl ⟨h1,?_⟩;unfold QO at*;simp only[hp]at*;exact⟨h2.1,by rw[<-yW h];exact h2.2⟩
 .exact .inr h1
def u7{i:aK}(hp:jo i=true){s:Nat->V}{U:ag}{v v':V}(h:QY P i s U v)(h':QY P i s U v'):v=v':=by
 simp only[jo,beq_iff_eq]at hp;rcases h with⟨h1,h2⟩|⟨h1,h2⟩<;>rcases h' with⟨g1,g2⟩|⟨g1,g2⟩
 .unfold QO at*;simp only[hp]at*;have:=h2.2.symm.trans g2.2;simpa using this
 .rw[h1]at g1;cases g1
 .rw[h1]at g1;cases g1
 .rw[h2,g2]
def qG{i:aK}(hp:jo i=true){s:Nat->V}{U:ag}{v:V}(h:QY P i s U v)(hw:bp s i.g=some true){j:Nat}(hj:j8 s i.op=some j):U j≠none:=by
 simp only[jo,beq_iff_eq]at hp;rcases h with⟨_,h2⟩|⟨h1,_⟩
 .unfold QO at h2;simp only[hp]at h2;exact y4 h2.2 hj
 .rw[hw]at h1;cases h1
def uO{i:aK}{s:Nat->V}{U Z':ag}{v:V}(h:QY P i s U v)(hw:bp s i.g≠some true):QY P i s Z' v:=by
 rcases h with⟨h1,_⟩|h1
 .exact absurd h1 hw
 .exact .inr h1
def C5{i:aK}(hp:jo i=true){s:Nat->V}{U Z':ag}{id:Nat}(Ls:U id=none)(L6:∀j,j≠id->Z' j=U j){v:V}(h:QY P i s U v):QY P i s Z' v:=by
 by_cases hw:bp s i.g=some true
 .refine uR hp (λj hj=>?_) h;have:=qG hp h hw hj;rw[L6 j (λe=>this (e▸Ls))]
 .exact uO h hw
def A9{i:aK}(hq:fo i=true){s:Nat->V}{U Z':ag}{id:Nat}(Ls:U id=none)(L6:∀j,j≠id->Z' j=U j){v:V}(h:QY P i s U v):QY P i s Z' v:=by
 by_cases hp:jo i=true
 .exact C5 hp Ls L6 h
 .have G':aa U Z':=λj o hj=>by rw[L6 j (λe=>by rw[e,Ls]at hj;cases hj)];exact hj
  rcases h with⟨h1,h2⟩|h1
  .refine .inl ⟨h1,?_⟩;have hk:bk i.op=1:=by
    simp only[fo,NV]at hq;simp only[jo,beq_iff_eq]at hp;omega
   unfold QO at*;simp only[hk]at*;split at h2
   .obtain⟨f,caps,g1,g2⟩:=h2;exact⟨f,caps,g1,λZ1 hs=>g2 Z1 (G'.trans hs)⟩
   .exact h2.elim
  .exact .inr h1
def wB{i:aK}(h:RS i=true){s:Nat->V}{U:ag}{g:Nat->V×ag}(hg:Mw s U i.op=some g):
 ∃(vf:Nat->V) (ob:Ob),(∀id,g id=(vf id,Vc.E' U id ob))/\∀Z',Mw s Z' i.op=some λid=>(vf id,Vc.E' Z' id ob):=by
 unfold RS at h;split at h
 .rename_i LF;rw[LF]at hg|-;simp only[Mw,aX]at hg;subst hg;exact⟨_,_,λ_=>rfl,λ_=>rfl⟩
 .rename_i LF;rw[LF]at hg|-;simp only[Mw]at hg|-;split at hg
  .rename_i hc;simp only[aX]at hg;subst hg;exact⟨_,_,λ_=>rfl,λZ'=>by rw[aI hc]⟩
  .cases hg
 .rename_i LF;rw[LF]at hg|-;simp only[Mw]at hg|-;split at hg
  .rename_i hc;simp only[aX]at hg;subst hg;exact⟨_,_,λ_=>rfl,λZ'=>by rw[aI hc]⟩
  .cases hg
 .rename_i LF;rw[LF]at hg|-;simp only[Mw]at hg|-;split at hg
  .rename_i hx;split at hg
   .rename_i hc;simp only[aX]at hg;subst hg;exact⟨_,_,λ_=>rfl,λZ'=>by rw[aI hc]⟩
   .cases hg
  .cases hg
 .cases h
def mi{op:L5}(hk:bk op=3){sz:Nat}{xa xv:VX}(LF:op=.store sz xa xv):False:=by rw[LF]at hk;simp[bk]at hk
def ua{U:ag}{a b:Nat}{oa ob:Ob}(h:a≠b):Vc.E' (Vc.E' U a oa) b ob=Vc.E' (Vc.E' U b ob) a oa:=by
 funext i;unfold Vc.E';by_cases h1:i=a<;>by_cases h2:i=b<;>simp_all
def Cw{i:aK}(h:Bb i=true){s:Nat->V}{U:ag}{g:Nat->V×ag}(hg:Mw s U i.op=some g):
 ∃(vf:Nat->V) (ob:Ob) (d:Option Nat),(∀id,g id=(vf id,Vc.E' (bT U d) id ob))/\(∀a,d=some a->U a≠none)/\
  ∀j o,U j=none->Mw s (Vc.E' U j o) i.op=some λid=>(vf id,Vc.E' (bT (Vc.E' U j o) d) id ob):=by
 by_cases hm:RS i=true
 .obtain⟨vf,ob,h1,h2⟩:=wB hm hg;exact⟨vf,ob,none,h1,by simp,λj o _=>h2 _⟩
 .unfold Bb at h;unfold RS at hm;cases LF:i.op<;>rw[LF]at h hm hg<;>simp at h hm;rename_i e sz bytes xa xb;simp only[Mw]at hg|-;split at hg
  .rename_i base LQ src e1 e2;split at hg
   .rename_i hc;simp only[aX]at hg;subst hg;have Yy:∀a,LQ=some a->U a≠none:=λa ha=>by
     subst ha;unfold de at e1;split at e1
     .split at e1
      .rename_i ob MG;split at e1
       .simp only[aX,Prod.mk.injEq]at e1;rw[<-e1.2,MG];simp
       .cases e1
      .cases e1
     .simp at e1
     .cases e1
    refine⟨_,_,LQ,λ_=>rfl,Yy,λj o hj=>?_⟩;have LR:∀id ob,U id=some ob->Vc.E' U j o id=some ob:=λid ob h=>by
     have:id≠j:=λe=>by rw[e,hj]at h;cases h
     simp[Vc.E',this,h]
    have d1:de (Vc.E' U j o) e sz (xa.ev s)=some (base,LQ):=by
     rw[<-e1];unfold de at e1|-;split at e1
     .rename_i id _ _ _;split at e1
      .rename_i ob MG;simp only[MG,LR _ _ MG]
      .cases e1
     .rfl
     .cases e1
    have d2:cC (Vc.E' U j o) sz (xb.ev s)=some src:=by
     rw[<-e2];unfold cC at e2|-;split at e2
     .split at e2
      .rename_i ob MG;simp only[MG,LR _ _ MG]
      .cases e2
     all_goals first|rfl|cases e2
    simp only[d1,d2];rw[aI hc]
   .cases hg
  .cases hg
def y3{A B:aK}(hp:gL A B=true){x:St}(hi:OS x.U){K:St->Prop}(h:T P A x λx'=>T P B x' K):T P B x λx'=>T P A x' K:=by
 simp only[gL,Ba,jH]at hp;obtain⟨Yz,hk⟩:=hp;obtain⟨h1,h2,h3⟩:=apart_spec Yz;have M3:∀(s:Nat->V) u v,aU (aU s A.dst u) B.dst v=aU (aU s B.dst v) A.dst u:=λs u v=>Be h3;rcases hk with((((⟨qa,qb⟩|⟨ea,sb⟩)|⟨sa,eb⟩)|⟨pa,mb⟩)|⟨ma,pb⟩)|⟨ma,mb⟩
 .rw[cp qa]at h;obtain⟨u,hu,h⟩:=h;rw[cp qb]at h;obtain⟨v,hv,h⟩:=h;rw[cp qb];refine⟨v,(fG h1).1 hv,?_⟩;rw[cp qa];refine⟨u,(fG h2).2 hu,?_⟩;simp only at h|-;rw[<-M3];exact h
 .have qb:fo B=true:=by simp[fo,lg sb]
  rw[fT ea]at h;rcases h with⟨hw,h⟩|⟨hw,⟨sz,xa,xv,Z',LF,hs,h⟩|⟨PQ,g,hg,h⟩⟩
  .rw[cp qb]at h;obtain⟨v,hv,h⟩:=h;rw[cp qb];refine⟨v,(fG h1).1 hv,?_⟩;rw[fT ea];refine .inl ⟨by rw[cj h2];exact hw,?_⟩;simp only at h|-;rw[<-M3];exact h
  .rw[cp qb]at h;obtain⟨v,hv,h⟩:=h;rw[cp qb];refine⟨v,jB sb ((fG h1).1 hv),?_⟩;rw[fT ea];refine .inr ⟨by rw[cj h2];exact hw,.inl ⟨sz,xa,xv,Z',LF,?_,?_⟩⟩
   .simp only;rw[gl h2 x.s xa (by simp[LF,L5.xs]),gl h2 x.s xv (by simp[LF,L5.xs])];exact hs
   .simp only at h|-;rw[<-M3];exact h
  .obtain⟨PN,_,SU⟩:=hi 0;have h0:=h PN SU;rw[cp qb]at h0;obtain⟨v,hv,_⟩:=h0;have Xr:QY P B x.s x.U v:=jB sb ((fG h1).1 hv);rw[cp qb];refine⟨v,Xr,?_⟩;rw[fT ea];refine .inr ⟨by rw[cj h2];exact hw,.inr ⟨PQ,g,?_,λid Ls=>?_⟩⟩
   .rw[<-hg];exact fk (gl h2 x.s)
   .have h4:=h id Ls;rw[cp qb]at h4;obtain⟨v',Re,h4⟩:=h4;have hvx':QY P B x.s x.U v':=jB sb ((fG h1).1 Re);have:=Hi sb Xr hvx';subst this;simp only at h4|-;rw[<-M3];exact h4
 .have qa:fo A=true:=by simp[fo,lg sa]
  rw[cp qa]at h;obtain⟨u,hu,h⟩:=h;rw[fT eb]at h;rw[fT eb];rcases h with⟨hw,h⟩|⟨hw,⟨sz,xa,xv,Z',LF,hs,h⟩|⟨PQ,g,hg,h⟩⟩
  .refine .inl ⟨by rw[<-cj h1];exact hw,?_⟩;rw[cp qa];refine⟨u,(fG h2).2 hu,?_⟩;simp only at h|-;rw[<-M3];exact h
  .refine .inr ⟨by rw[<-cj h1];exact hw,.inl ⟨sz,xa,xv,Z',LF,?_,?_⟩⟩
   .simp only at hs;rw[gl h1 x.s xa (by simp[LF,L5.xs]),gl h1 x.s xv (by simp[LF,L5.xs])]at hs;exact hs
   .rw[cp qa];refine⟨u,(fG h2).2 (jB sa hu),?_⟩;simp only at h|-;rw[<-M3];exact h
  .refine .inr ⟨by rw[<-cj h1];exact hw,.inr ⟨PQ,g,?_,λid Ls=>?_⟩⟩
   .rw[<-hg];exact(fk (gl h1 x.s)).symm
   .rw[cp qa];refine⟨u,(fG h2).2 (jB sa hu),?_⟩;have h4:=h id Ls;simp only at h4|-;rw[<-M3];exact h4
 .have qa:fo A=true:=pa;obtain⟨PQ,Pw⟩:=qK mb;have eb:qo B=true:=by simp[qo,PQ]
  rw[cp qa]at h;obtain⟨u,hu,h⟩:=h;rw[fT eb]at h;rw[fT eb];rcases h with⟨hw,h⟩|⟨hw,⟨sz,xa,xv,Z',LF,hs,h⟩|⟨_,g,hg,h⟩⟩
  .refine .inl ⟨by rw[<-cj h1];exact hw,?_⟩;rw[cp qa];refine⟨u,(fG h2).2 hu,?_⟩;simp only at h|-;rw[<-M3];exact h
  .rw[LF]at PQ;simp[bk]at PQ
  .refine .inr ⟨by rw[<-cj h1];exact hw,.inr ⟨PQ,g,?_,λid Ls=>?_⟩⟩
   .rw[<-hg];exact(fk (gl h1 x.s)).symm
   .rw[cp qa];refine⟨u,(fG h2).2 (A9 qa Ls (λj hj=>Pw _ _ g hg id j hj) hu),?_⟩;have h4:=h id Ls;simp only at h4|-;rw[<-M3];exact h4
 .have qb:fo B=true:=by simp only[jo,beq_iff_eq]at pb;simp[fo,pb]
  obtain⟨PQ,Pw⟩:=xg ma;have ea:qo A=true:=by simp[qo,PQ]
  rw[fT ea]at h;rcases h with⟨hw,h⟩|⟨hw,⟨sz,xa,xv,Z',LF,hs,h⟩|⟨_,g,hg,h⟩⟩
  .rw[cp qb]at h;obtain⟨v,hv,h⟩:=h;rw[cp qb];refine⟨v,(fG h1).1 hv,?_⟩;rw[fT ea];refine .inl ⟨by rw[cj h2];exact hw,?_⟩;simp only at h|-;rw[<-M3];exact h
  .rw[LF]at PQ;simp[bk]at PQ
  ·
   obtain⟨PN,Pv,SU⟩:=hi ((j8 x.s B.op).getD 0+1);have h0:=h PN SU;rw[cp qb]at h0;obtain⟨v,hv,_⟩:=h0;have hv1:=(fG h1).1 hv;have Xr:QY P B x.s x.U v:=by
    by_cases Xs:bp x.s B.g=some true
    .refine uR pb (λj hj=>?_) hv1;have hn:=qG pb hv1 Xs hj;refine(Pw _ _ g hg PN j (λe=>?_)).resolve_right hn;rw[hj]at Pv;simp at Pv;omega
    .exact uO hv1 Xs
   rw[cp qb];refine⟨v,Xr,?_⟩;rw[fT ea];refine .inr ⟨by rw[cj h2];exact hw,.inr ⟨PQ,g,?_,λid Ls=>?_⟩⟩
   .rw[<-hg];exact fk (gl h2 x.s)
   .have h4:=h id Ls;rw[cp qb]at h4;obtain⟨v',Re,h4⟩:=h4;have hv2:=(fG h1).1 Re;have hv3:QY P B x.s x.U v':=by
     by_cases Xs:bp x.s B.g=some true
     .refine uR pb (λj hj=>?_) hv2;have hn:=qG pb hv2 Xs hj;have hs:=qG pb Xr Xs hj;exact(Pw _ _ g hg id j (λe=>hs (e▸Ls))).resolve_right hn
     .exact uO hv2 Xs
    have:=u7 pb hv3 Xr;subst this;simp only at h4|-;rw[<-M3];exact h4
 .have ka:=(xg ma).1;have kb:=(qK mb).1;have ea:qo A=true:=by simp[qo,ka]
  have eb:qo B=true:=by simp[qo,kb]
  rw[fT ea]at h;rw[fT eb];rcases h with⟨hw,h⟩|⟨hw,⟨sz,xa,xv,Z',LF,_⟩|⟨_,g,hg,h⟩⟩
  .rw[fT eb]at h;rcases h with⟨OT,h⟩|⟨OT,⟨sz,xa,xv,Z',LF,_⟩|⟨_,g2,YA,h⟩⟩
   .refine .inl ⟨by rw[<-cj h1];exact OT,?_⟩;rw[fT ea];refine .inl ⟨by rw[cj h2];exact hw,?_⟩;simp only at h|-;rw[<-M3];exact h
   .exact(mi kb LF).elim
   .refine .inr ⟨by rw[<-cj h1];exact OT,.inr ⟨kb,g2,by rw[<-YA];exact(fk (gl h1 x.s)).symm,λid Ls=>?_⟩⟩;rw[fT ea];refine .inl ⟨by rw[cj h2];exact hw,?_⟩;have h4:=h id Ls;simp only at h4|-;rw[<-M3];exact h4
  .exact(mi ka LF).elim
  .obtain⟨vA,oA,dA,hA,Qk,hA'⟩:=Cw ma hg;obtain⟨PN,_,SU⟩:=hi 0;have h0:=h PN SU;rw[fT eb]at h0;rcases h0 with⟨OT,_⟩|⟨OT,⟨sz,xa,xv,Z',LF,_⟩|⟨_,g2,YA,_⟩⟩
   .refine .inl ⟨by rw[<-cj h1];exact OT,?_⟩;rw[fT ea];refine .inr ⟨by rw[cj h2];exact hw,.inr ⟨ka,g,by rw[<-hg];exact fk (gl h2 x.s),λid Ls=>?_⟩⟩;have h4:=h id Ls;rw[fT eb]at h4;rcases h4 with⟨_,h4⟩|⟨Wc,_⟩
    .simp only at h4|-;rw[<-M3];exact h4
    .exfalso;have e1:=cj (v:=(g id).1) h1 (s:=x.s);have e2:=cj (v:=(g PN).1) h1 (s:=x.s);simp only at OT Wc;rw[e1]at Wc;rw[e2]at OT;rw[Wc]at OT;cases OT
   .exact(mi kb LF).elim
   .have hg2x:Mw x.s (g PN).2 B.op=some g2:=by rw[<-YA];exact(fk (gl h1 x.s)).symm
    obtain⟨vB,oB,hB,Vk⟩:=wB mb hg2x;refine .inr ⟨by rw[<-cj h1];exact OT,.inr ⟨kb,_,Vk x.U,λSV Wd=>?_⟩⟩;rw[fT ea];refine .inr ⟨by rw[cj h2];exact hw,.inr ⟨ka,λid=>(vA id,Vc.E' (bT (Vc.E' x.U SV oB) dA) id oA),?_,λLQ YB=>?_⟩⟩
    .rw[<-hA' SV oB Wd];exact fk (gl h2 x.s)
    .have LR:LQ≠SV:=λe=>by subst e;simp[Vc.E']at YB
     have YD:x.U LQ=none:=by simpa[Vc.E',LR]using YB
     have h4:=h LQ YD;rw[fT eb]at h4;rw[hA LQ]at h4;rcases h4 with⟨Wc,_⟩|⟨_,⟨sz,xa,xv,Z',LF,_⟩|⟨_,g3,hg3,h4⟩⟩
     .exfalso;have e1:=cj (v:=vA LQ) h1 (s:=x.s);have e2:=cj (v:=(g PN).1) h1 (s:=x.s);simp only at OT Wc;rw[e1]at Wc;rw[e2]at OT;rw[Wc]at OT;cases OT
     .exact(mi kb LF).elim
     .have e3:Mw x.s (Vc.E' (bT x.U dA) LQ oA) B.op=some g3:=by rw[<-hg3];exact(fk (gl h1 x.s)).symm
      rw[Vk (Vc.E' (bT x.U dA) LQ oA)]at e3;simp only[aX]at e3;subst e3;have Mn:∀i,x.U i=none->bT x.U dA i=none:=λi hi=>by
       cases dA with
       |none=>exact hi
       |some a=>simp only[bT,del];split<;>first|rfl|exact hi
      have h5:=h4 SV (by simp[Vc.E',LR.symm,Mn _ Wd]);have Xt:bT (Vc.E' x.U SV oB) dA=Vc.E' (bT x.U dA) SV oB:=by
       cases dA with
       |none=>rfl
       |some a=>
        funext i;have Py:a≠SV:=λe=>Qk a rfl (by rw[e];exact Wd);simp only[bT,del,Vc.E'];by_cases e1:i=a
        .have hib:i≠SV:=λe=>Py (e1▸e);simp[e1,Py]
        .by_cases e2:i=SV<;>simp[e1,e2,Ne.symm Py]
      simp only at h5|-;rw[<-M3,Xt,<-ua LR];exact h5
variable {P:Program} {n:Nat}
def T.exists{i:aK}{x:St}{K:St->Prop}(hi:OS x.U)(h:T P i x K):∃x',K x':=by
 unfold T at h;split at h
 .unfold TO at h;split at h
  .obtain⟨_,v,_,h⟩:=h;exact⟨_,h⟩
  .split at h
   .obtain⟨_,_,v,_,_,h⟩:=h;exact⟨_,h⟩
   .exact h.elim
  .split at h
   .obtain⟨_,_,h⟩:=h;exact⟨_,h⟩
   .exact h.elim
  .obtain⟨g,_,h⟩:=h;obtain⟨id,_,Ls⟩:=hi 0;exact⟨_,h id Ls⟩
  .exact h.elim
 .exact⟨_,h⟩
 .exact h.elim
def qF{F:Fr}(hn:F.n=n){o:Oper}{all:Array Oper}{x:St}{K:St->Prop}{a:Act}{w:World}(h:T P (bJ P n all o) x K)(hs:eE F x a w)
 {next:Act->World->Prop}{Q':Exit->Act->World->Prop}(Lw:∀x' a' w',eE F x' a' w'->K x'->next a' w'):
 if Region.wanted o (yielded all a.tmps)then LU P n o.op≠.bad/\o.wp P a w next Q' else next (a.put o.dst undef) w:=by
 subst hn;obtain⟨I,hs⟩:=hs;unfold T at h;cases hw:bp x.s (bJ P F.n all o).g with
 |none=>simp only[hw]at h
 |some b=>
  have O7:=od (P:=P) hs all o hw;rw[O7];simp only[hw]at h;cases b
  .simp only[iG,if_false]at h|-;exact Lw _ _ _ ⟨I,hs.pure (d:=o.dst) (by simp only[C'];exact⟨[],rfl,by simp[ax]⟩)⟩ h
  .simp only[if_true]at h|-;refine⟨λe=>?_,?_⟩
   .have Rp:(bJ P F.n all o).op=LU P F.n o.op:=rfl;rw[Rp,e]at h;simp[TO,bk]at h
   have We:(bJ P F.n all o).dst=o.dst.filter (·<F.n):=rfl;have Rp:(bJ P F.n all o).op=LU P F.n o.op:=rfl;rw[We,Rp]at h;unfold TO at h;split at h
   .obtain⟨h1,v,h2,h3⟩:=h;obtain⟨z,hz,hr⟩:=qh hs o h1 h2;unfold Oper.wp;rw[hz];exact Lw _ _ _ ⟨I,hs.pure hr⟩ h3
   .split at h
    .rename_i fx xs LF;obtain⟨f,caps,v,h1,h2,h3⟩:=h;obtain⟨f0,args,argTypes,g1,rfl,rfl⟩:=lM LF;refine nb hs g1 h1 (h2 _ (aa.refl _)) λr Z' hp a' w' LK=>?_;obtain⟨rfl,rfl⟩:=hp;exact Lw _ a' w' LK h3
    .exact h.elim
   .split at h
    .rename_i sz xa xv LF;obtain⟨Z',h1,h2⟩:=h;obtain⟨t,y,z,g1,g2,rfl,rfl,rfl⟩:=tL LF;unfold bY at h1;split at h1
     .rename_i id r0 c e1;split at h1
      .rename_i ob e2;split at h1
       .rename_i r e3;split at h1
        .rename_i r' e4;simp only[aX]at h1;subst h1;obtain⟨w',hx,LK⟩:=pD hs g1 g2 e1 e2 e3 e4;unfold Oper.wp;rw[hx];exact Lw _ _ _ ⟨I,LK⟩ h2
        .cases h1
       .cases h1
      .cases h1
     .cases h1
    .exact h.elim
   .obtain⟨g,hg,h⟩:=h;cases LF:LU P F.n o.op<;>rw[LF]at hg
    case box e sz xv=>
     simp only[Mw]at hg;split at hg
     .rename_i hc;simp only[aX]at hg;subst hg;obtain⟨y,g1,g2,rfl,rfl⟩:=Ap LF;obtain⟨id,Ls,z,w',Y',hz,LK⟩:=uu hs g1 g2 hc.1 hc.2;unfold Oper.wp;rw[hz];exact Lw _ _ _ ⟨Y',LK⟩ (h id Ls)
     .cases hg
    case alloc e sz z=>
     simp only[Mw,aX]at hg;subst hg;obtain⟨ti,zv,g1,g2,rfl,rfl⟩:=tD LF;obtain⟨id,Ls,y,w',Y',hy,LK⟩:=pU hs g1 g2;unfold Oper.wp;rw[hy];exact Lw _ _ _ ⟨Y',LK⟩ (h id Ls)
    case fF e sz xs=>
     simp only[Mw]at hg;split at hg
     .rename_i hc;simp only[aX]at hg;subst hg;obtain⟨t,len,parts,ti,z,h1,h2,h3,rfl,h5,h6,rfl⟩:=rY LF;have hx:∀y∈parts.toList.map (λp=>(cx F.n p.2).ev x.s),y.cells.length=ti.size/\y.stays=true:=by
       intro y hy;have:=fa.1 hc y (by rw[List.map_map];exact hy);simpa using this
      obtain⟨id,Ls,y,w',Y',hy,LK⟩:=oO hs h1 h2 h3 h5 h6 hx;unfold Oper.wp;rw[hy];have hl:parts.size=len:=by have:=congrArg List.length h5;simpa using this
      refine Lw _ _ _ ⟨Y',LK⟩ ?_;have:=h id Ls;simpa only[eU,List.map_map,Array.length_toList,hl,Function.comp_def]using this
     .cases hg
    case mk e sz bytes zv y=>
     simp only[Mw]at hg;split at hg
     .rename_i m hm;split at hg
      .rename_i hc;simp only[aX]at hg;subst hg;obtain⟨t,l',c,ti,z,g1,g2,g3,rfl,rfl,rfl,g5,rfl⟩:=DF LF;obtain⟨id,Ls,x',w',Y',LX,LK⟩:=vY hs g1 g5 g2 g3 hm hc.1 hc.2;unfold Oper.wp;rw[LX];exact Lw _ _ _ ⟨Y',LK⟩ (h id Ls)
      .cases hg
     .cases hg
    case P0 e sz bytes zv ya y=>
     simp only[Mw]at hg;split at hg
     .rename_i kq m hy hm;split at hg
      .rename_i hc;simp only[aX]at hg;subst hg;obtain⟨t,tn,kn,x1,y1,args,argTypes,ti,z,g1,g2,g3,g4,g5,g6,rfl,rfl,rfl,rfl,rfl⟩:=xp LF;obtain⟨id,Ls,x',w',Y',LX,LK⟩:=sH hs g1 g2 g3 g4 g5 g6 hy hm hc.1 hc.2;unfold Oper.wp;rw[LX];exact Lw _ _ _ ⟨Y',LK⟩ (h id Ls)
      .cases hg
     .cases hg
    case append e sz bytes xa xb=>
     simp only[Mw]at hg;split at hg
     .rename_i base LQ src e1 e2;split at hg
      .rename_i hb;simp only[aX]at hg;subst hg;obtain⟨t,t',y,z,args,argTypes,ti,zv,g1,g2,g3,Xq,g4,g5,rfl,rfl,rfl,rfl⟩:=qP LF;obtain⟨id,Ls,r,w',Y',hx,LK⟩:=oP hs g1 g2 g3 Xq g4 g5 e1 e2 hb;unfold Oper.wp;rw[hx];exact Lw _ _ _ ⟨Y',LK⟩ (h id Ls)
      .cases hg
     .cases hg
    all_goals simp[Mw]at hg
   .exact h.elim
def Tn(P:Program)(n:Nat)(ops:Array Oper)(i:Nat)(x:St)(K:St->Prop):Prop:=match ops[i]? with
 |some o=>T P (bJ P n ops o) x K
 |none=>K x
def pg(P:Program)(n:Nat)(ops:Array Oper)(Q:St->Prop):Nat->Array Bool->St->Prop
 |0,g',x=>Region.ready .any ops g'=[]/\Q x
 |f+1,g',x=>(Region.ready .any ops g'=[]->Q x)/\∀i∈Region.ready .any ops g',Tn P n ops i x (pg P n ops Q f (g'.setIfInBounds i true))
def ng{F:Fr}(hn:F.n=n){ops:Array Oper}{Q:St->Prop}{Q':Exit->Act->World->Prop}(hQ:∀x a w,eE F x a w->Q x->Q' .normal a w):
 ∀(f:Nat) (g':Array Bool) (x:St) (a:Act) (w:World),eE F x a w->pg P n ops Q f g' x->wpAnyIn F.eB 0 P .any ops Q' f g' a w
 |0,_,_,_,_,hs,h=>⟨h.1,hQ _ _ _ hs h.2⟩
 |f+1,g',x,a,w,hs,h=>by
  refine⟨λh0=>hQ _ _ _ hs (h.1 h0),λi hi=>?_⟩;have h1:=h.2 i hi;unfold Tn at h1;unfold wpOpIn;cases ho:ops[i]? with
  |none=>
   simp only[ho]at h1;exact ng hn hQ f _ x a w hs h1
  |some o=>
   simp only[ho]at h1;have h2:=qF (Q':=Q') hn h1 hs λx' a' w' LK hk=>ng hn hQ f _ x' a' w' LK hk;by_cases hw:Region.wanted o (yielded ops a.tmps)=true
   .rw[aI hw]at h2;simp only[hw,if_true];exact AY (jb h2.1) h2.2
   .rw[aJ hw]at h2;simp only[hw];exact⟨λ_ _=>trivial,h2⟩
def gv(ops:Array Oper)(g':Array Bool):Prop:=∀m om,ops[m]?=some om->g'.getD m true=true->∀e∈om.after,Region.binds .any e=true->g'.getD e.on false=true
def gv.list{ops:Array Oper}{g':Array Bool}(h:gv ops g'){i:Nat}(hi:i∈Region.ready .any ops g'):gv ops (g'.setIfInBounds i true):=by
 intro m om hm hl e he hb;by_cases hmi:m=i
 .subst hmi;obtain⟨_,o,ho,MI⟩:=mem_ready.1 hi;rw[hm]at ho;cases ho;exact getD_set_true (MI e he hb)
 .rw[getD_set_ne true (Ne.symm hmi)]at hl;exact getD_set_true (h m om hm hl e he hb)
def yN{f:Edge->Nat}(l:List Edge):∀(s:Nat) (i:Nat),(l.foldl (λs e=>if Region.binds .any e then s ||| 2^e.on ||| f e else s) s).testBit i=true->
 s.testBit i=true\/∃e∈l,Region.binds .any e=true/\(i=e.on\/(f e).testBit i=true):=by
 induction l with
 |nil=>intro s i h;exact .inl h
 |cons e l ih=>
  intro s i h;simp only[nx]at h;rcases ih _ i h with h1|⟨e',h2,h3,h4⟩
  .by_cases hb:Region.binds .any e=true
   .rw[aI hb]at h1;simp only[Nat.testBit_or,jH,Nat.testBit_two_pow]at h1;rcases h1 with(h1|h1)|h1
    .exact .inl h1
    .exact .inr ⟨e,by simp,hb,.inl (by simpa using(of_decide_eq_true h1).symm)⟩
    .exact .inr ⟨e,by simp,hb,.inr h1⟩
   .rw[aJ hb]at h1;exact .inl h1
  .exact .inr ⟨e',by simp[h2],h3,h4⟩
def jU{ops:Array Oper}{g':Array Bool}(hc:gv ops g'):∀(j:Nat) (oj:Oper) (i:Nat),ops[j]?=some oj->((Region.before ops).getD j 0).testBit i=true->
 (∀e∈oj.after,Region.binds .any e=true->g'.getD e.on false=true)->g'.getD i false=true:=by
 have key:∀(l:List Oper) (acc:Array Nat) (k:Nat),acc.size=k->(∀j,l[j]?=ops[k+j]?)->
  (∀j oj i,j<k->ops[j]?=some oj->(acc.getD j 0).testBit i=true->(∀e∈oj.after,Region.binds .any e=true->g'.getD e.on false=true)->g'.getD i false=true)->
  ∀j oj i,ops[j]?=some oj->((l.foldl (λacc o=>acc.push (o.after.foldl (λs e=>if Region.binds .any e then s ||| 2^e.on ||| acc.getD e.on 0 else s) 0)) acc).getD j 0).testBit i=true->
   (∀e∈oj.after,Region.binds .any e=true->g'.getD e.on false=true)->g'.getD i false=true:=by
  intro l
  induction l with
  |nil=>
   intro acc k hk hl h j oj i hj hb hd;have Lr:j<k:=by
    rcases Nat.lt_or_ge j k with h1|h1
    .exact h1
    .have:=hl (j-k);rw[show k+(j-k)=j by omega,hj]at this;simp at this
   exact h j oj i Lr hj hb hd
  |cons o l ih=>
   intro acc k hk hl h;have LS:ops[k]?=some o:=by simpa using(hl 0).symm
   refine ih _ (k+1) (by simp[hk]) (λj=>by have:=hl (j+1);simpa[Nat.add_assoc,ze 1 j]using this) ?_;intro j oj i hj OB hb hd;by_cases SW:j=k
   .subst SW;rw[OB]at LS;cases LS;rw[Og,<-hk,Array.getElem?_push_size]at hb;simp only[Option.getD_some]at hb;rw[<-Array.foldl_toList]at hb;rcases yN (f:=λe=>acc.getD e.on 0) o.after.toList 0 i hb with h1|⟨e,he,YE,h1|h1⟩
    .simp at h1
    .rw[h1];exact hd e (by simpa using he) YE
    .have OL:=hd e (by simpa using he) YE;by_cases hek:e.on<acc.size
     .have hex:e.on<ops.size:=by
       have:=(lQ.1 OB).1;omega
      have hoe:ops[e.on]?=some ops[e.on]:=Array.getElem?_eq_getElem hex;refine h e.on _ i (by omega) hoe h1 (hc e.on _ hoe ?_);have No:e.on<g'.size:=by
       rcases Nat.lt_or_ge e.on g'.size with h2|h2
       .exact h2
       .simp[Array.getElem?_eq_none h2]at OL
      simp only[Og,Array.getElem?_eq_getElem No,Option.getD_some]at OL|-;exact OL
     .rw[Og,Array.getElem?_eq_none (by omega)]at h1;simp at h1
   .have Wf:j<k:=by omega
    rw[Og,Array.getElem?_push_lt (by omega)]at hb;refine h j oj i Wf OB ?_ hd;rw[Og,Array.getElem?_eq_getElem (by omega)];exact hb
 intro j oj i hj hb hd;unfold Region.before at hb;rw[<-Array.foldl_toList]at hb;exact key ops.toList #[] 0 rfl (by simp) (λj oj i h=>by omega) j oj i hj hb hd
def uE{ops:Array Oper}{Q:St->Prop}{i:Nat}{oi:Oper}(hi:ops[i]?=some oi):∀(f:Nat) (g':Array Bool) (x:St),OS x.U->gv ops g'->
 (∀j oj,ops[j]?=some oj->j≠i->g'.getD j true=false->((Region.before ops).getD j 0).testBit i=false->gL (bJ P n ops oi) (bJ P n ops oj)=true)->
 i∈Region.ready .any ops g'->T P (bJ P n ops oi) x (pg P n ops Q f (g'.setIfInBounds i true))->pg P n ops Q (f+1) g' x:=by
 intro f
 induction f with
 |zero=>
  intro g' x M4 _ _ hr H;refine⟨λh=>(by rw[h]at hr;cases hr),λj hj=>?_⟩;by_cases MZ:j=i
  .subst MZ;unfold Tn;simp only[hi];exact H
  .have:=ready_mono hj MZ;obtain⟨x',LX⟩:=H.exists M4;rw[LX.1]at this;cases this
 |succ f ih=>
  intro g' x M4 Mt Oo hr H;refine⟨λh=>(by rw[h]at hr;cases hr),λj hj=>?_⟩;by_cases MZ:j=i
  .subst MZ;unfold Tn;simp only[hi];exact H
  .obtain⟨P4,oj,OB,MI⟩:=mem_ready.1 hj;have SX:((Region.before ops).getD j 0).testBit i=false:=by
    cases hb:((Region.before ops).getD j 0).testBit i with
    |false=>rfl
    |true=>
     exfalso;have h1:=jU Mt j oj i OB hb MI;have h0:=(mem_ready.1 hr).1;rcases Nat.lt_or_ge i g'.size with h'|h'
     .simp[h']at h0 h1;rw[h0]at h1;cases h1
     .simp[Array.getElem?_eq_none h']at h1
   have H2:T P (bJ P n ops oi) x λx'=>T P (bJ P n ops oj) x' (pg P n ops Q f ((g'.setIfInBounds i true).setIfInBounds j true)):=by
    refine H.mono λx' LX=>?_;have:=LX.2 j (ready_mono hj MZ);unfold Tn at this;simpa only[OB]using this
   have h2:=y3 (Oo j oj OB MZ P4 SX) M4 H2;have O9:∀k ok,ops[k]?=some ok->k≠i->(g'.setIfInBounds j true).getD k true=false->
    ((Region.before ops).getD k 0).testBit i=false->gL (bJ P n ops oi) (bJ P n ops ok)=true:=λk ok hk YF T9 L7=>by
    refine Oo k ok hk YF ?_ L7;by_cases SW:j=k
    .subst SW;exact P4
    .rw[getD_set_ne true SW]at T9;exact T9
   unfold Tn;simp only[OB];refine(h2.inf M4).mono λx' LX=>ih (g'.setIfInBounds j true) x' LX.1 (Mt.list hj) O9 (ready_mono hr (Ne.symm MZ)) ?_;rw[Array.setIfInBounds_comm _ _ MZ];exact LX.2
def kN{ops:Array Oper}{k:Nat}{ok:Oper}{g':Array Bool}(hk:ops[k]?=some ok)(h:Aj P n ops k g'=true)(j:Nat)(oj:Oper)(hj:ops[j]?=some oj)(LR:j≠k)
 (T9:g'.getD j true=false)(L7:((Region.before ops).getD j 0).testBit k=false):gL (bJ P n ops ok) (bJ P n ops oj)=true:=by
 unfold Aj at h;simp only[hk]at h;have Wf:j<ops.size:=(lQ.1 hj).1;have:=fa.1 h j (List.mem_range.2 Wf);simp only[hj,T9,L7,Bool.or_false,Bool.false_or,jH,beq_iff_eq,LR,false_or]at this;exact this
def gJ(P:Program)(Q:St->Prop):List aK->St->Prop
 |[],x=>Q x
 |i::l,x=>T P i x (gJ P Q l)
def rD{ops:Array Oper}{Q:St->Prop}:∀(l:List Oper) (k:Nat) (g':Array Bool) (x:St),OS x.U->gv ops g'->(∀j,l[j]?=ops[k+j]?)->
 tp P n ops l.length k g'=true->gJ P Q (l.map (bJ P n ops)) x->pg P n ops Q l.length g' x
 |[],_,_,_,_,_,_,hB,h=>⟨by simpa[tp]using hB,h⟩
 |o::l,k,g',x,M4,Mt,hl,hB,h=>by
  have h0:ops[k]?=some o:=by simpa using(hl 0).symm
  simp only[MM,tp,Ba]at hB;obtain⟨⟨hr,hf⟩,Vk⟩:=hB;refine uE h0 l.length g' x M4 Mt (kN h0 hf) (by simpa using hr) ?_;refine(T.inf M4 h).mono λx' LX=>?_;exact rD l (k+1) _ x' LX.1 (Mt.list (by simpa using hr)) (λj=>by have:=hl (j+1);simpa[Nat.add_assoc,ze 1 j]using this) Vk LX.2
def vj{F:Fr}(hn:F.n=n){ops:Array Oper}(LS:nt P n ops=true){id:Nat}{x:St}{a:Act}{w:World}(hs:eE F x a w){Q:St->Prop}{Q':Exit->Act->World->Prop}
 (hQ:∀x a w,eE F x a w->Q x->Q' .normal a w)(h:gJ P Q (ops.toList.map (bJ P n ops)) x):(Code.region id ops true).wpIn F.eB 0 P Q' a w:=by
 simp only[nt,Ba]at LS;have LK:eE F x a { w with drawn:=w.drawn+1 }:=by
  obtain⟨I,hs⟩:=hs;have hk:cS (aD I x.U) (aD I x.U) w { w with drawn:=w.drawn+1 }:=λ_ _ h=>⟨h,rfl⟩
  refine⟨I,⟨⟨hs.sat.size,hs.sat.os,hs.sat.tape,hs.sat.output,hs.sat.same,hs.sat.fin,hs.sat.inj,λid o ho=>?_,hs.sat.fresh,hs.sat.NY⟩,hs.le,hs.size,hs.book.tg hk,λi hi=>?_⟩⟩
  .exact(hs.sat.obj id o ho).mono (cU.refl I) hk (Md _) (λ_ _ _ _=>rfl)
  .exact C'.mono (cU.refl I) hk (Md _) _ _ (hs.slot i hi)
 refine wpIn_region_any LS.1 (ng hn hQ _ _ _ _ _ LK ?_);have:=rD (P:=P) (n:=n) (Q:=Q) ops.toList 0 (Array.replicate ops.size false) x hs.inf (λm om hm hl=>by
  have Lr:m<ops.size:=(lQ.1 hm).1;rw[Og,Array.getElem?_replicate,aI Lr]at hl;simp at hl) (by simp) (by simpa using LS.2.2) h
 simpa using this
def oR(P:Program)(n:Nat)(ops:Array Oper)(m:Nat)(Q:St->Prop):Nat->Array Bool->St->Prop
 |0,g',x=>(Region.ready .any ops g'=[m]/\Region.ready .any ops (g'.setIfInBounds m true)=[])/\Q x
 |f+1,g',x=>Region.ready .any ops g'≠[]/\∀i∈Region.ready .any ops g',i≠m/\Tn P n ops i x (oR P n ops m Q f (g'.setIfInBounds i true))
def mU{F:Fr}(hn:F.n=n){ops:Array Oper}{m:Nat}{Q:St->Prop}{Q':Exit->Act->World->Prop}(hQ:∀x a w,eE F x a w->Q x->wpOpIn F.eB 0 P ops Q' m (Q' .normal) a w):
 ∀(f:Nat) (g':Array Bool) (x:St) (a:Act) (w:World),eE F x a w->oR P n ops m Q f g' x->wpAnyIn F.eB 0 P .any ops Q' (f+1) g' a w
 |0,g',x,a,w,hs,h=>by
  obtain⟨⟨h1,h2⟩,h3⟩:=h;refine⟨λh0=>(by rw[h1]at h0;cases h0),λi hi=>?_⟩;rw[h1]at hi;have Vl:i=m:=by simpa using hi
  subst Vl;exact wpOpIn_mono (λa w h=>⟨h2,h⟩) (hQ x a w hs h3)
 |f+1,g',x,a,w,hs,h=>by
  refine⟨λh0=>absurd h0 h.1,λi hi=>?_⟩;have h1:=(h.2 i hi).2;unfold Tn at h1;unfold wpOpIn;cases ho:ops[i]? with
  |none=>
   simp only[ho]at h1;exact mU hn hQ f _ x a w hs h1
  |some o=>
   simp only[ho]at h1;have h2:=qF (Q':=Q') hn h1 hs λx' a' w' LK hk=>mU hn hQ f _ x' a' w' LK hk;by_cases hw:Region.wanted o (yielded ops a.tmps)=true
   .rw[aI hw]at h2;simp only[hw,if_true];exact AY (jb h2.1) h2.2
   .rw[aJ hw]at h2;simp only[hw];exact⟨λ_ _=>trivial,h2⟩
def uG{ops:Array Oper}{m:Nat}{Q:St->Prop}{i:Nat}{oi:Oper}(hi:ops[i]?=some oi)(Vl:i≠m)(hm:((Region.before ops).getD m 0).testBit i=true):
 ∀(f:Nat) (g':Array Bool) (x:St),OS x.U->gv ops g'->
 (∀j oj,ops[j]?=some oj->j≠i->g'.getD j true=false->((Region.before ops).getD j 0).testBit i=false->gL (bJ P n ops oi) (bJ P n ops oj)=true)->
 i∈Region.ready .any ops g'->T P (bJ P n ops oi) x (oR P n ops m Q f (g'.setIfInBounds i true))->oR P n ops m Q (f+1) g' x:=by
 have Vm:∀(g':Array Bool),gv ops g'->i∈Region.ready .any ops g'->∀j,j∈Region.ready .any ops g'->((Region.before ops).getD j 0).testBit i=false:=λg' Mt hr j hj=>by
  obtain⟨P4,oj,OB,MI⟩:=mem_ready.1 hj;cases hb:((Region.before ops).getD j 0).testBit i with
  |false=>rfl
  |true=>
   exfalso;have h1:=jU Mt j oj i OB hb MI;have h0:=(mem_ready.1 hr).1;rcases Nat.lt_or_ge i g'.size with h'|h'
   .simp[h']at h0 h1;rw[h0]at h1;cases h1
   .simp[Array.getElem?_eq_none h']at h1
 have hjm:∀(g':Array Bool),gv ops g'->i∈Region.ready .any ops g'->∀j,j∈Region.ready .any ops g'->j≠m:=λg' Mt hr j hj e=>by
  have:=Vm g' Mt hr j hj;rw[e,hm]at this;cases this
 intro f
 induction f with
 |zero=>
  intro g' x M4 Mt _ hr H;refine⟨λh=>(by rw[h]at hr;cases hr),λj hj=>⟨hjm g' Mt hr j hj,?_⟩⟩;by_cases MZ:j=i
  .subst MZ;unfold Tn;simp only[hi];exact H
  .have:=ready_mono hj MZ;obtain⟨x',LX⟩:=H.exists M4;rw[LX.1.1]at this;exact absurd (by simpa using this) (hjm g' Mt hr j hj)
 |succ f ih=>
  intro g' x M4 Mt Oo hr H;refine⟨λh=>(by rw[h]at hr;cases hr),λj hj=>⟨hjm g' Mt hr j hj,?_⟩⟩;by_cases MZ:j=i
  .subst MZ;unfold Tn;simp only[hi];exact H
  .obtain⟨P4,oj,OB,MI⟩:=mem_ready.1 hj;have SX:=Vm g' Mt hr j hj;have H2:T P (bJ P n ops oi) x λx'=>T P (bJ P n ops oj) x' (oR P n ops m Q f ((g'.setIfInBounds i true).setIfInBounds j true)):=by
    refine H.mono λx' LX=>?_;have:=(LX.2 j (ready_mono hj MZ)).2;unfold Tn at this;simpa only[OB]using this
   have h2:=y3 (Oo j oj OB MZ P4 SX) M4 H2;have O9:∀k ok,ops[k]?=some ok->k≠i->(g'.setIfInBounds j true).getD k true=false->
    ((Region.before ops).getD k 0).testBit i=false->gL (bJ P n ops oi) (bJ P n ops ok)=true:=λk ok hk YF T9 L7=>by
    refine Oo k ok hk YF ?_ L7;by_cases SW:j=k
    .subst SW;exact P4
    .rw[getD_set_ne true SW]at T9;exact T9
   unfold Tn;simp only[OB];refine(h2.inf M4).mono λx' LX=>ih (g'.setIfInBounds j true) x' LX.1 (Mt.list hj) O9 (ready_mono hr (Ne.symm MZ)) ?_;rw[Array.setIfInBounds_comm _ _ MZ];exact LX.2
def rz{ops:Array Oper}{m:Nat}{Q:St->Prop}:∀(l:List Oper) (k:Nat) (g':Array Bool) (x:St),OS x.U->gv ops g'->(∀j,j<l.length->l[j]?=ops[k+j]?)->
 C1 P n ops m l.length k g'=true->gJ P Q (l.map (bJ P n ops)) x->oR P n ops m Q l.length g' x
 |[],_,_,_,_,_,_,hB,h=>⟨by simpa[C1]using hB,h⟩
 |o::l,k,g',x,M4,Mt,hl,hB,h=>by
  have h0:ops[k]?=some o:=by simpa using(hl 0 (by simp)).symm
  simp only[MM,C1,Ba]at hB;obtain⟨⟨hr,hkm,hbit⟩,hf,Vk⟩:=hB;refine uG h0 (by simpa using hkm) hbit l.length g' x M4 Mt (kN h0 hf) (by simpa using hr) ?_;refine(T.inf M4 h).mono λx' LX=>?_;exact rz l (k+1) _ x' LX.1 (Mt.list (by simpa using hr)) (λj hj=>by have:=hl (j+1) (by simpa using hj);simpa[Nat.add_assoc,ze 1 j]using this) Vk LX.2
def tt{F:Fr}(hn:F.n=n){ops:Array Oper}(LS:vk P n ops=true){id:Nat}{x:St}{a:Act}{w:World}(hs:eE F x a w){Q:St->Prop}{Q':Exit->Act->World->Prop}
 (hQ:∀x a w,eE F x a w->Q x->wpListIn F.eB 0 P ops Q' (ops.toList.drop (ops.size-1)) a w)(h:gJ P Q ((ops.toList.take (ops.size-1)).map (bJ P n ops)) x):(Code.region id ops true).wpIn F.eB 0 P Q' a w:=by
 simp only[vk,Ba,NV]at LS;obtain⟨hmx,Ns,_,_,hlex⟩:=LS;have LK:eE F x a { w with drawn:=w.drawn+1 }:=by
  obtain⟨I,hs⟩:=hs;have hk:cS (aD I x.U) (aD I x.U) w { w with drawn:=w.drawn+1 }:=λ_ _ h=>⟨h,rfl⟩
  refine⟨I,⟨⟨hs.sat.size,hs.sat.os,hs.sat.tape,hs.sat.output,hs.sat.same,hs.sat.fin,hs.sat.inj,λid o ho=>?_,hs.sat.fresh,hs.sat.NY⟩,hs.le,hs.size,hs.book.tg hk,λi hi=>?_⟩⟩
  .exact(hs.sat.obj id o ho).mono (cU.refl I) hk (Md _) (λ_ _ _ _=>rfl)
  .exact C'.mono (cU.refl I) hk (Md _) _ _ (hs.slot i hi)
 refine wpIn_region_any hmx ?_;have hlen:(ops.toList.take (ops.size-1)).length=ops.size-1:=by simp
 have YG:ops.toList.drop (ops.size-1)=[ops[ops.size-1]'(by omega)]:=by
  rw[iY (by simpa using(by omega:ops.size-1<ops.size))];simp[CZ,show ops.size<=ops.size-1+1 by omega]
 have Nr:ops[ops.size-1]?=some (ops[ops.size-1]'(by omega)):=Array.getElem?_eq_getElem (by omega);have hL:=rz (P:=P) (n:=n) (Q:=Q) (m:=ops.size-1) (ops.toList.take (ops.size-1)) 0 (Array.replicate ops.size false) x hs.inf (λm om hm hl=>by
  have Lr:m<ops.size:=(lQ.1 hm).1;rw[Og,Array.getElem?_replicate,aI Lr]at hl;simp at hl) (λj hj=>by rw[hlen]at hj;simp[List.getElem?_take,hj]) (by rw[hlen];exact hlex) h
 rw[hlen]at hL;have:=mU (Q':=Q') hn (λx a w hs hq=>by
  have:=hQ x a w hs hq;rw[YG]at this;unfold wpOpIn;simpa only[Nr,wpListIn]using this) _ _ _ _ _ LK hL
 rwa [show ops.size-1+1=ops.size by omega]at this
variable {P:Program} {n:Nat} {st:St} {Q:St->Prop} {k:List It}
def ab.D0{l:List aK}(h:gJ P (λx=>ab P n k x Q) l st):ab P n (.code (.Oz true l)::k) st Q:=by
 intro F hn kt hk a w hs;obtain⟨z,M9,rfl,hy,MD⟩:=eA hk;obtain⟨c0,rfl,MA⟩:=fQ hy;have Oj:∃id ops,c0=.region id ops true/\nt P n ops=true/\ops.toList.map (bJ P n ops)=l:=by
  cases c0<;>simp only[dx,reduceCtorEq]at MA;rename_i id ops draw;cases draw
  .simp at MA
  .simp only[Bool.true_and]at MA;split at MA
   .cases MA
   split at MA
   .cases MA
   .rename_i hd;simp only[bM.Oz.injEq,true_and]at MA;exact⟨id,ops,rfl,by simpa using hd,MA⟩
 obtain⟨id,ops,rfl,LS,rfl⟩:=Oj;exact vj hn LS hs (λx a w hs h=>h F hn M9 MD a w hs) h
def ab.vg{l e:List aK}(h:gJ P (λx=>ab P n (.ops e::k) x Q) l st):ab P n (.code (.vg l e)::k) st Q:=by
 intro F hn kt hk a w hs;obtain⟨z,M9,rfl,hy,MD⟩:=eA hk;obtain⟨c0,rfl,MA⟩:=fQ hy;have Oj:∃id ops,c0=.region id ops true/\vk P n ops=true/\(ops.toList.take (ops.size-1)).map (bJ P n ops)=l/\(ops.toList.drop (ops.size-1)).map (bJ P n ops)=e:=by
  cases c0<;>simp only[dx,reduceCtorEq]at MA;rename_i id ops draw;cases draw
  .simp at MA
  .simp only[Bool.true_and]at MA;split at MA
   .rename_i hd;simp only[bM.vg.injEq]at MA;exact⟨id,ops,rfl,hd,MA.1,MA.2⟩
   .split at MA<;>cases MA
 obtain⟨id,ops,rfl,LS,rfl,rfl⟩:=Oj;exact tt hn LS hs (λx a w hs h=>h F hn (.ops ops (ops.toList.drop (ops.size-1))::M9) (by simp[KI.it,MD]) a w hs) h
def St.lit(st:St):VX->V->St
 |.t d,v=>⟨aU st.s (some d) v,st.U⟩
 |.c _,_=>st
inductive Td where
 |r (todo:List It)
 |d (l:List aK) (todo:List It)
def SY(P:Program)(n:Nat)(todo:List It)(st:St)(Q:St->Prop):Prop:=match todo with
 |.stop μ::_=>μ st
 |todo=>ab P n todo st Q
def SY.runs{todo:List It}(h:SY P n todo st Q):ab P n todo st Q:=by
 cases todo with
 |nil=>exact h
 |cons x k=>cases x<;>first|exact ab.stop h|exact h
def gJ.mono{K K':St->Prop}(hk:∀x,K x->K' x):∀{l:List aK} {x:St},gJ P K l x->gJ P K' l x
 |[],_,h=>hk _ h
 |_::_,_,h=>T.mono (λ_ h=>gJ.mono hk h) h
def Go(P:Program)(n:Nat)(t:Td)(st:St)(Q:St->Prop):Prop:=
 match t with
 |.r todo=>SY P n todo st Q
 |.d l todo=>gJ P (λx=>SY P n todo x Q) l st
def Go.runs{todo:List It}(h:Go P n (.r todo) st Q):ab P n todo st Q:=SY.runs h
def Go.chain{l:List aK}(h:Go P n (.d l k) st Q):gJ P (λx=>ab P n k x Q) l st:=gJ.mono (λ_ h=>SY.runs h) h
def dL{α:Type}(o:Option α)(k:α->Prop):Prop:=match o with
 |some v=>k v
 |none=>False
def qf{α:Type}(v:α)(k:α->Prop):dL (some v) k=k v:=rfl
def gd{α:Type}{o:Option α}{k:α->Prop}:dL o k↔∃v,o=some v/\k v:=by cases o<;>simp[dL]
def dW(v:V)(k:Bool->Prop)(z:Prop):Prop:=match v with
 |.bool c=>k c
 |.LI []=>z
 |.int _ _=>z
 |_=>False
def kR{v:V}{k:Bool->Prop}{z:Prop}(h:dW v k z):(∃c,v=.bool c/\k c)\/(v=.LI []/\z)\/(∃q m,v=.int q m/\z):=by
 unfold dW at h;split at h
 .exact .inl ⟨_,rfl,h⟩
 .exact .inr (.inl ⟨rfl,h⟩)
 .exact .inr (.inr ⟨_,_,rfl,h⟩)
 .exact h.elim
def both(c b:Bool)(x y:Prop):Prop:=(c=b->x)/\(c=!b->y)
def bS(s:Nat->V)(U:ag):L5->Option ag
 |.store sz xa xv=>bY U sz (xa.ev s) (xv.ev s)
 |_=>none
structure MJ(P:Program) where
 get:FuncId->List V->ag->Option V
 ok:∀f args U v,get f args U=some v->aA P f args U λr Z'=>r=v/\Z'=U
 up:∀f args U Z' v,aa U Z'->get f args U=some v->get f args Z'=some v:=by intros;assumption
def MJ.nothing:MJ P where
 get _ _ _:=none
 ok _ _ _ _ h:=by cases h
def tO(O:MJ P)(s:Nat->V)(U:ag):L5->Option V
 |.call fx xs=>match fx.ev s with
   |.fn f caps=>O.get f (xs.map (·.ev s)++caps) U
   |_=>none
 |_=>none
def vE(o:Option V)(k:V->Prop)(z:Prop):Prop:=match o with
 |some v=>k v
 |none=>z
def nH{o:Option V}{k:V->Prop}{z:Prop}(h:vE o k z):(∃v,o=some v/\k v)\/z:=by
 cases o with
 |none=>exact .inr h
 |some v=>exact .inl ⟨v,rfl,h⟩
def vy(q:Nat)(a b c d g:Prop):Prop:=match q with
 |0=>a
 |1=>b
 |2=>c
 |3=>d
 |_=>g
def mN{q:Nat}{a b c d g:Prop}(h:vy q a b c d g):(q=0/\a)\/(q=1/\b)\/(q=2/\c)\/(q=3/\d)\/g:=by
 unfold vy at h;split at h<;>simp_all
def ql(O:MJ P)(q:Nat)(d:Option Nat)(op:L5)(st:St)(k:St->Prop)(z:Prop):Prop:=
 vy q (eV st.s op/\dL (aL st.U st.s op) λv=>k ⟨aU st.s d v,st.U⟩)
  (vE (tO O st.s st.U op) (λv=>k ⟨aU st.s d v,st.U⟩) z)
  (dL (bS st.s st.U op) λZ'=>k ⟨aU st.s d (.LI []),Z'⟩)
  (dL (Mw st.s st.U op) λg=>∀id,st.U id=none->k ⟨aU st.s d (g id).1,(g id).2⟩) z
def step(P:Program)(O:MJ P)(n:Nat):Nat->Td->St->(St->Prop)->Prop
 |0,t,st,Q=>Go P n t st Q
 |f+1,t,st,Q=>match t with
  |.d l k=>match l with
   |[]=>step P O n f (.r k) st Q
   |i::l=>match i.g with
    |none=>ql O (bk i.op) i.dst i.op st (λst=>step P O n f (.d l k) st Q) (Go P n (.d (i::l) k) st Q)
    |some (x,b)=>dW (x.ev st.s) (λc=>both c b
       (ql O (bk i.op) i.dst i.op (st.lit x (.bool b)) (λst=>step P O n f (.d l k) st Q) (Go P n (.d (i::l) k) (st.lit x (.bool b)) Q))
       (step P O n f (.d l k) ⟨aU (st.lit x (.bool !b)).s i.dst (.LI []),(st.lit x (.bool !b)).U⟩ Q))
       (step P O n f (.d l k) ⟨aU st.s i.dst (.LI []),st.U⟩ Q)
  |.r todo=>match todo with
   |[]=>Q st
   |.stop μ::_=>μ st
   |.inBlock _::k=>step P O n f (.r k) st Q
   |.ops []::k=>step P O n f (.r k) st Q
   |.ops (i::l)::k=>match i.g with
    |none=>ql O (bk i.op) i.dst i.op st (λst=>step P O n f (.r (.ops l::k)) st Q) (ab P n (.ops (i::l)::k) st Q)
    |some (x,b)=>dW (x.ev st.s) (λc=>both c b
       (ql O (bk i.op) i.dst i.op (st.lit x (.bool b)) (λst=>step P O n f (.r (.ops l::k)) st Q) (ab P n (.ops (i::l)::k) (st.lit x (.bool b)) Q))
       (step P O n f (.r (.ops l::k)) ⟨aU (st.lit x (.bool !b)).s i.dst (.LI []),(st.lit x (.bool !b)).U⟩ Q))
       (step P O n f (.r (.ops l::k)) ⟨aU st.s i.dst (.LI []),st.U⟩ Q)
   |.code c::k=>match c with
    |.skip=>step P O n f (.r k) st Q
    |.seq a b=>step P O n f (.r (.code a::.code b::k)) st Q
    |.block id a=>step P O n f (.r (.code a::.inBlock id::k)) st Q
    |.exit id=>dL (dv id k) λk'=>step P O n f (.r k') st Q
    |.ret=>Q st
    |.cond c a b=>dW (c.ev st.s) (λt=>both t true (step P O n f (.r (.code a::k)) st Q) (step P O n f (.r (.code b::k)) st Q)) False
    |.Oz draw l=>match draw with
     |false=>step P O n f (.r (.ops l::k)) st Q
     |true=>step P O n f (.d l k) st Q
    |.loop a=>ab P n (.code (.loop a)::k) st Q
    |.fK g ps a b=>ab P n (.code (.fK g ps a b)::k) st Q
    |.O4 l LL=>ab P n (.code (.O4 l LL)::k) st Q
    |.vg l e=>step P O n f (.d l (.ops e::k)) st Q
    |.bad=>False
def vz{st:St}{x:VX}{v:V}(h:x.ev st.s=v):st.lit x v=st:=by
 cases x with
 |t d=>
  simp only[VX.ev]at h;have:aU st.s (some d) v=st.s:=by
   funext i;simp only[aU];split
   .rename_i e;rw[e,h]
   .rfl
  simp[St.lit,this]
 |c _=>rfl
def ab.bY{i:aK}{l:List aK}{sz:Nat}{xa xv:VX}(hw:bp st.s i.g=some true)(ho:i.op=.store sz xa xv){Z':ag}
 (h1:Vc.bY st.U sz (xa.ev st.s) (xv.ev st.s)=some Z')(h:ab P n (.ops l::k) ⟨aU st.s i.dst (.LI []),Z'⟩ Q):ab P n (.ops (i::l)::k) st Q:=by
 unfold Vc.bY at h1;split at h1
 .rename_i id r0 c e1;split at h1
  .rename_i ob e2;split at h1
   .rename_i r e3;split at h1
    .rename_i r' e4;simp only[aX]at h1;subst h1;exact ab.store hw ho e1 e2 e3 e4 h
    .cases h1
   .cases h1
  .cases h1
 .cases h1
def ab.Mw{i:aK}{l:List aK}(hw:bp st.s i.g=some true){g:Nat->V×ag}(hg:Vc.Mw st.s st.U i.op=some g)
 (h:∀id,st.U id=none->ab P n (.ops l::k) ⟨aU st.s i.dst (g id).1,(g id).2⟩ Q):ab P n (.ops (i::l)::k) st Q:=by
 cases LF:i.op<;>rw[LF]at hg<;>simp only[Vc.Mw,reduceCtorEq]at hg
 case box e sz xv=>
  split at hg
  .rename_i hc;simp only[aX]at hg;subst hg;exact ab.box hw LF hc.1 hc.2 h
  .cases hg
 case alloc e sz z=>
  simp only[aX]at hg;subst hg;exact ab.alloc hw LF h
 case fF e sz xs=>
  split at hg
  .rename_i hc;simp only[aX]at hg;subst hg;refine ab.fF hw LF (λx hx=>?_) h;have:=fa.1 hc x hx;simpa using this
  .cases hg
 case mk e sz bytes zv x=>
  split at hg
  .rename_i m hm;split at hg
   .rename_i hc;simp only[aX]at hg;subst hg;exact ab.mkS hw LF hm hc.1 hc.2 h
   .cases hg
  .cases hg
 case P0 e sz bytes zv y x=>
  split at hg
  .rename_i kq m hy hm;split at hg
   .rename_i hc;simp only[aX]at hg;subst hg;exact ab.IZ hw LF hy hm hc.1 hc.2 h
   .cases hg
  .cases hg
 case append e sz bytes xa xb=>
  split at hg
  .rename_i base LQ src e1 e2;split at hg
   .rename_i hb;simp only[aX]at hg;subst hg;exact ab.append hw LF e1 e2 hb h
   .cases hg
  .cases hg
def nC{i:aK}{K:St->Prop}(hw:bp st.s i.g=some true)(h:TO P i.dst i.op st K):T P i st K:=by unfold T;simp only[hw];exact h
def uY{i:aK}{K:St->Prop}(hw:bp st.s i.g=some false)(h:K ⟨aU st.s i.dst (.LI []),st.U⟩):T P i st K:=by unfold T;simp only[hw];exact h
def rM{O:MJ P}{s:Nat->V}{U:ag}{op:L5}{v:V}(h:tO O s U op=some v):
 ∃fx xs f caps,op=.call fx xs/\fx.ev s=.fn f caps/\∀Z1,aa U Z1->aA P f (xs.map (·.ev s)++caps) Z1 λr Z'=>r=v/\Z'=Z1:=by
 unfold tO at h;split at h
 .rename_i fx xs;split at h
  .rename_i f caps hf;exact⟨fx,xs,f,caps,rfl,hf,λZ1 h1=>O.ok _ _ _ _ (O.up _ _ _ _ _ h1 h)⟩
  .cases h
 .cases h
def ab.rh{O:MJ P}{i:aK}{l:List aK}{st:St}(hw:bp st.s i.g=some true){K:St->Prop}(hK:∀st,K st->ab P n (.ops l::k) st Q)
 (h:ql O (bk i.op) i.dst i.op st K (ab P n (.ops (i::l)::k) st Q)):ab P n (.ops (i::l)::k) st Q:=by
 unfold ql at h;rcases mN h with⟨_,h1,h⟩|⟨_,h⟩|⟨_,h⟩|⟨_,h⟩|h
 .obtain⟨v,hv,h⟩:=gd.1 h;exact ab.pure hw h1 hv (hK _ h)
 .rcases nH h with⟨v,hv,h⟩|h
  .obtain⟨fx,xs,f,caps,ho,hf,hc⟩:=rM hv;refine ab.call hw ho hf (hc _ (aa.refl _)) ?_;rintro r Z' ⟨rfl,rfl⟩;exact hK _ h
  .exact h
 .obtain⟨Z',hs,h⟩:=gd.1 h;cases LF:i.op<;>rw[LF]at hs<;>simp only[bS,reduceCtorEq]at hs;exact ab.bY hw LF hs (hK _ h)
 .obtain⟨g,hgg,h⟩:=gd.1 h;exact ab.Mw hw hgg λid Ls=>hK _ (h id Ls)
 .exact h
def Go.rh{O:MJ P}{i:aK}{l:List aK}{st:St}(hw:bp st.s i.g=some true){K:St->Prop}(hK:∀st,K st->Go P n (.d l k) st Q)
 (h:ql O (bk i.op) i.dst i.op st K (Go P n (.d (i::l) k) st Q)):Go P n (.d (i::l) k) st Q:=by
 unfold ql at h;rcases mN h with⟨hk,h1,h⟩|⟨hk,h⟩|⟨_,h⟩|⟨hk,h⟩|h
 .obtain⟨v,hv,h⟩:=gd.1 h;refine nC hw ?_;unfold TO;simp only[hk];exact⟨h1,v,hv,hK _ h⟩
 .rcases nH h with⟨v,hv,h⟩|h
  .obtain⟨fx,xs,f,caps,ho,hf,hc⟩:=rM hv;refine nC hw ?_;rw[ho];exact⟨f,caps,v,hf,hc,hK _ h⟩
  .exact h
 .obtain⟨Z',hs,h⟩:=gd.1 h;refine nC hw ?_;cases LF:i.op<;>rw[LF]at hs<;>simp only[bS,reduceCtorEq]at hs;exact⟨Z',hs,hK _ h⟩
 .obtain⟨g,hgg,h⟩:=gd.1 h;refine nC hw ?_;unfold TO;simp only[hk];exact⟨g,hgg,λid Ls=>hK _ (h id Ls)⟩
 .exact h
def Go.bD(O:MJ P):∀(f:Nat) (t:Td) (st:St),step P O n f t st Q->Go P n t st Q
 |0,_,_,h=>h
 |f+1,.d [] k,st,h=>Go.bD O f (.r k) st h
 |f+1,.d (i::l) k,st,h=>by
  simp only[step]at h;split at h
  .rename_i hg;have hw:bp st.s i.g=some true:=by simp[hg,bp]
   exact Go.rh hw (λst h=>Go.bD O f (.d l k) st h) h
  .rename_i x b hg;rcases kR h with⟨c,hc,h⟩|⟨hc,h⟩|⟨q,m,hc,h⟩
   .by_cases YH:c=b
    .subst YH;have h1:=h.1 rfl;have hw:bp st.s i.g=some true:=by simp[hg,bp,hc]
     rw[vz hc]at h1;exact Go.rh hw (λst h=>Go.bD O f (.d l k) st h) h1
    .have Rq:c=!b:=by revert YH;cases c<;>cases b<;>simp
     have h2:=h.2 Rq;rw[vz (by rw[hc,Rq])]at h2;exact uY (by simp only[hg,bp,hc];rw[Rq];cases b<;>rfl) (Go.bD O f (.d l k) _ h2)
   .exact uY (by simp[hg,bp,hc]) (Go.bD O f (.d l k) _ h)
   .exact uY (by simp[hg,bp,hc]) (Go.bD O f (.d l k) _ h)
 |f+1,.r [],_,h=>ab.nil h
 |f+1,.r (.stop _::_),_,h=>h
 |f+1,.r (.inBlock _::k),st,h=>ab.inBlock (Go.bD O f (.r k) st h).runs
 |f+1,.r (.ops []::k),st,h=>ab.Ei (Go.bD O f (.r k) st h).runs
 |f+1,.r (.ops (i::l)::k),st,h=>by
  simp only[step]at h;split at h
  .rename_i hg;have hw:bp st.s i.g=some true:=by simp[hg,bp]
   exact ab.rh hw (λst h=>(Go.bD O f (.r (.ops l::k)) st h).runs) h
  .rename_i x b hg;rcases kR h with⟨c,hc,h⟩|⟨hc,h⟩|⟨q,m,hc,h⟩
   .by_cases YH:c=b
    .subst YH;have h1:=h.1 rfl;have hw:bp st.s i.g=some true:=by simp[hg,bp,hc]
     rw[vz hc]at h1;exact ab.rh hw (λst h=>(Go.bD O f (.r (.ops l::k)) st h).runs) h1
    .have Rq:c=!b:=by revert YH;cases c<;>cases b<;>simp
     have h2:=h.2 Rq;rw[vz (by rw[hc,Rq])]at h2;exact ab.u5 (by simp only[hg,bp,hc];rw[Rq];cases b<;>rfl) (Go.bD O f (.r (.ops l::k)) _ h2).runs
   .exact ab.u5 (by simp[hg,bp,hc]) (Go.bD O f (.r (.ops l::k)) _ h).runs
   .exact ab.u5 (by simp[hg,bp,hc]) (Go.bD O f (.r (.ops l::k)) _ h).runs
 |f+1,.r (.code c::k),st,h=>by
  cases c with
  |skip=>exact ab.skip (Go.bD O f (.r _) _ h).runs
  |seq a b=>exact ab.seq (Go.bD O f (.r _) _ h).runs
  |block id a=>exact ab.block (Go.bD O f (.r _) _ h).runs
  |exit id=>
   simp only[step]at h;obtain⟨k',MD,h⟩:=gd.1 h;exact ab.exit MD (Go.bD O f (.r _) _ h).runs
  |ret=>exact ab.ret h
  |cond c a b=>
   simp only[step]at h;rcases kR h with⟨t,ht,h⟩|⟨_,h⟩|⟨_,_,_,h⟩
   .exact ab.cond ht (λe=>(Go.bD O f (.r _) _ (h.1 e)).runs) (λe=>(Go.bD O f (.r _) _ (h.2 (by rw[e];rfl))).runs)
   .exact h.elim
   .exact h.elim
  |Oz draw l=>
   cases draw
   .exact ab.region (Go.bD O f (.r _) _ h).runs
   .exact ab.D0 (Go.bD O f (.d l k) _ h).chain
  |loop a=>exact h
  |fK g ps a b=>exact h
  |O4 l LL=>exact h
  |vg l e=>exact ab.vg (Go.bD O f (.d l (.ops e::k)) _ h).chain
  |bad=>exact h.elim
def ab.bD(O:MJ P)(f:Nat){todo:List It}{st:St}(h:step P O n f (.r todo) st Q):ab P n todo st Q:=(Go.bD O f (.r todo) st h).runs
section rules
variable (P:Program) (O:MJ P) (n:Nat) (f:Nat)
def exR(o:Option (List It))(st:St)(Q:St->Prop):Prop:=dL o λk'=>step P O n f (.r k') st Q
def cR(v:V)(a b:bM)(k:List It)(st:St)(Q:St->Prop):Prop:=dW v (λt=>both t true (step P O n f (.r (.code a::k)) st Q) (step P O n f (.r (.code b::k)) st Q)) False
def FY(l:List aK)(k:List It)(d:Option Nat)(st:St)(Q:St->Prop)(o:Option V):Prop:=dL o λv=>step P O n f (.r (.ops l::k)) ⟨aU st.s d v,st.U⟩ Q
def BJ(l:List aK)(k:List It)(d:Option Nat)(st:St)(Q:St->Prop)(o:Option ag):Prop:=dL o λZ'=>step P O n f (.r (.ops l::k)) ⟨aU st.s d (.LI []),Z'⟩ Q
def Em(l:List aK)(k:List It)(d:Option Nat)(st:St)(Q:St->Prop)(o:Option (Nat->V×ag)):Prop:=
 dL o λg=>∀id,st.U id=none->step P O n f (.r (.ops l::k)) ⟨aU st.s d (g id).1,(g id).2⟩ Q
def DG(l:List aK)(k:List It)(d:Option Nat)(op:L5)(g:Option (VX×Bool))(st:St)(Q:St->Prop)(o:Option V):Prop:=
 vE o (λv=>step P O n f (.r (.ops l::k)) ⟨aU st.s d v,st.U⟩ Q) (ab P n (.ops (⟨d,op,g⟩::l)::k) st Q)
def sq(q:Nat)(d:Option Nat)(op:L5)(g:Option (VX×Bool))(l:List aK)(k:List It)(st:St)(Q:St->Prop):Prop:=
 ql O q d op st (λst=>step P O n f (.r (.ops l::k)) st Q) (ab P n (.ops (⟨d,op,g⟩::l)::k) st Q)
def gR(v:V)(d:Option Nat)(op:L5)(x:VX)(b:Bool)(l:List aK)(k:List It)(st:St)(Q:St->Prop):Prop:=
 dW v (λc=>both c b (sq P O n f (bk op) d op (some (x,b)) l k (st.lit x (.bool b)) Q)
  (step P O n f (.r (.ops l::k)) ⟨aU (st.lit x (.bool !b)).s d (.LI []),(st.lit x (.bool !b)).U⟩ Q)) (step P O n f (.r (.ops l::k)) ⟨aU st.s d (.LI []),st.U⟩ Q)
def Fx(l:List aK)(k:List It)(d:Option Nat)(st:St)(Q:St->Prop)(o:Option V):Prop:=dL o λv=>step P O n f (.d l k) ⟨aU st.s d v,st.U⟩ Q
def CV(l:List aK)(k:List It)(d:Option Nat)(st:St)(Q:St->Prop)(o:Option ag):Prop:=dL o λZ'=>step P O n f (.d l k) ⟨aU st.s d (.LI []),Z'⟩ Q
def Dy(l:List aK)(k:List It)(d:Option Nat)(st:St)(Q:St->Prop)(o:Option (Nat->V×ag)):Prop:=
 dL o λg=>∀id,st.U id=none->step P O n f (.d l k) ⟨aU st.s d (g id).1,(g id).2⟩ Q
def C3(l:List aK)(k:List It)(d:Option Nat)(op:L5)(g:Option (VX×Bool))(st:St)(Q:St->Prop)(o:Option V):Prop:=
 vE o (λv=>step P O n f (.d l k) ⟨aU st.s d v,st.U⟩ Q) (Go P n (.d (⟨d,op,g⟩::l) k) st Q)
def tf(q:Nat)(d:Option Nat)(op:L5)(g:Option (VX×Bool))(l:List aK)(k:List It)(st:St)(Q:St->Prop):Prop:=
 ql O q d op st (λst=>step P O n f (.d l k) st Q) (Go P n (.d (⟨d,op,g⟩::l) k) st Q)
def gD(v:V)(d:Option Nat)(op:L5)(x:VX)(b:Bool)(l:List aK)(k:List It)(st:St)(Q:St->Prop):Prop:=
 dW v (λc=>both c b (tf P O n f (bk op) d op (some (x,b)) l k (st.lit x (.bool b)) Q)
  (step P O n f (.d l k) ⟨aU (st.lit x (.bool !b)).s d (.LI []),(st.lit x (.bool !b)).U⟩ Q)) (step P O n f (.d l k) ⟨aU st.s d (.LI []),st.U⟩ Q)
variable {P O n} {f}
def uh(s:Nat->V)(d:Nat)(v:V)(i:Nat):aU s (some d) v i=if i=d then v else s i:=rfl
def uc(s:Nat->V)(v:V)(i:Nat):aU s none v i=s i:=rfl
def FG(st:St)(d:Nat)(v:V):st.lit (.t d) v=⟨aU st.s (some d) v,st.U⟩:=rfl
def FC(st:St)(u v:V):st.lit (.c u) v=st:=rfl
def Jg(s:Nat->V)(d:Nat):VX.ev s (.t d)=s d:=rfl
def Jj(s:Nat->V)(v:V):VX.ev s (.c v)=v:=rfl
def BQ(d:Option Nat)(op:L5)(g:Option (VX×Bool))(l:List aK):sq P O n f 0 d op g l k st Q=(eV st.s op/\FY P O n f l k d st Q (aL st.U st.s op)):=rfl
def Cz(d:Option Nat)(op:L5)(g:Option (VX×Bool))(l:List aK):sq P O n f 1 d op g l k st Q=DG P O n f l k d op g st Q (tO O st.s st.U op):=rfl
def C2(d:Option Nat)(op:L5)(g:Option (VX×Bool))(l:List aK):sq P O n f 2 d op g l k st Q=BJ P O n f l k d st Q (bS st.s st.U op):=rfl
def Cs(d:Option Nat)(op:L5)(g:Option (VX×Bool))(l:List aK):sq P O n f 3 d op g l k st Q=Em P O n f l k d st Q (Mw st.s st.U op):=rfl
def Db(d:Option Nat)(op:L5)(g:Option (VX×Bool))(l:List aK):sq P O n f 4 d op g l k st Q=ab P n (.ops (⟨d,op,g⟩::l)::k) st Q:=rfl
def qR(d:Option Nat)(op:L5)(g:Option (VX×Bool))(l:List aK)(v:V):DG P O n f l k d op g st Q (some v)=step P O n f (.r (.ops l::k)) ⟨aU st.s d v,st.U⟩ Q:=rfl
def rV(d:Option Nat)(op:L5)(g:Option (VX×Bool))(l:List aK):DG P O n f l k d op g st Q none=ab P n (.ops (⟨d,op,g⟩::l)::k) st Q:=rfl
def xd(s:Nat->V)(U:ag)(fx:VX)(xs:List VX):tO O s U (.call fx xs)=match fx.ev s with
 |.fn f caps=>O.get f (xs.map (·.ev s)++caps) U
 |_=>none:=rfl
def Dw(d:Option Nat)(op:L5)(g:Option (VX×Bool))(l:List aK):tf P O n f 0 d op g l k st Q=(eV st.s op/\Fx P O n f l k d st Q (aL st.U st.s op)):=rfl
def Da(d:Option Nat)(op:L5)(g:Option (VX×Bool))(l:List aK):tf P O n f 1 d op g l k st Q=C3 P O n f l k d op g st Q (tO O st.s st.U op):=rfl
def C8(d:Option Nat)(op:L5)(g:Option (VX×Bool))(l:List aK):tf P O n f 2 d op g l k st Q=CV P O n f l k d st Q (bS st.s st.U op):=rfl
def CN(d:Option Nat)(op:L5)(g:Option (VX×Bool))(l:List aK):tf P O n f 3 d op g l k st Q=Dy P O n f l k d st Q (Mw st.s st.U op):=rfl
def rk(d:Option Nat)(op:L5)(g:Option (VX×Bool))(l:List aK)(v:V):C3 P O n f l k d op g st Q (some v)=step P O n f (.d l k) ⟨aU st.s d v,st.U⟩ Q:=rfl
def qY(d:Option Nat)(op:L5)(g:Option (VX×Bool))(l:List aK):C3 P O n f l k d op g st Q none=Go P n (.d (⟨d,op,g⟩::l) k) st Q:=rfl
def AD:step P O n (f+1) (.r []) st Q=Q st:=rfl
def ta(μ:St->Prop):step P O n (f+1) (.r (.stop μ::k)) st Q=μ st:=rfl
def pJ(id:Nat):step P O n (f+1) (.r (.inBlock id::k)) st Q=step P O n f (.r k) st Q:=rfl
def qd:step P O n (f+1) (.r (.ops []::k)) st Q=step P O n f (.r k) st Q:=rfl
def yn:step P O n (f+1) (.r (.code .skip::k)) st Q=step P O n f (.r k) st Q:=rfl
def zZ(a b:bM):step P O n (f+1) (.r (.code (.seq a b)::k)) st Q=step P O n f (.r (.code a::.code b::k)) st Q:=rfl
def uv(id:Nat)(a:bM):step P O n (f+1) (.r (.code (.block id a)::k)) st Q=step P O n f (.r (.code a::.inBlock id::k)) st Q:=rfl
def wL(id:Nat):step P O n (f+1) (.r (.code (.exit id)::k)) st Q=exR P O n f (dv id k) st Q:=rfl
def xI(k':List It):exR P O n f (some k') st Q=step P O n f (.r k') st Q:=rfl
def AF:step P O n (f+1) (.r (.code .ret::k)) st Q=Q st:=rfl
def xH(a:bM):step P O n (f+1) (.r (.code (.loop a)::k)) st Q=ab P n (.code (.loop a)::k) st Q:=rfl
def wh(l e:List aK):step P O n (f+1) (.r (.code (.vg l e)::k)) st Q=step P O n f (.d l (.ops e::k)) st Q:=rfl
def gK(l:List aK)(LL:List (List Nat)):step P O n (f+1) (.r (.code (.O4 l LL)::k)) st Q=ab P n (.code (.O4 l LL)::k) st Q:=rfl
def ra(g:VX)(ps:List Nat)(a b:bM):step P O n (f+1) (.r (.code (.fK g ps a b)::k)) st Q=ab P n (.code (.fK g ps a b)::k) st Q:=rfl
def zY(l:List aK):step P O n (f+1) (.r (.code (.Oz false l)::k)) st Q=step P O n f (.r (.ops l::k)) st Q:=rfl
def yh(l:List aK):step P O n (f+1) (.r (.code (.Oz true l)::k)) st Q=step P O n f (.d l k) st Q:=rfl
def zE:step P O n (f+1) (.d [] k) st Q=step P O n f (.r k) st Q:=rfl
def wS(c:VX)(a b:bM):step P O n (f+1) (.r (.code (.cond c a b)::k)) st Q=cR P O n f (c.ev st.s) a b k st Q:=rfl
def IW(a b:bM):cR P O n f (.bool true) a b k st Q=step P O n f (.r (.code a::k)) st Q:=by simp[cR,dW,both]
def Jf(a b:bM):cR P O n f (.bool false) a b k st Q=step P O n f (.r (.code b::k)) st Q:=by simp[cR,dW,both]
def CQ(p:Prop)[Decidable p](a b:bM):cR P O n f (.bool (decide p)) a b k st Q=((p->step P O n f (.r (.code a::k)) st Q)/\(¬p->step P O n f (.r (.code b::k)) st Q)):=by simp[cR,dW,both]
def zC(d:Option Nat)(op:L5)(l:List aK):step P O n (f+1) (.r (.ops (⟨d,op,none⟩::l)::k)) st Q=sq P O n f (bk op) d op none l k st Q:=rfl
def ri(d:Option Nat)(l:List aK)(v:V):FY P O n f l k d st Q (some v)=step P O n f (.r (.ops l::k)) ⟨aU st.s d v,st.U⟩ Q:=rfl
def pP(d:Option Nat)(l:List aK)(Z':ag):BJ P O n f l k d st Q (some Z')=step P O n f (.r (.ops l::k)) ⟨aU st.s d (.LI []),Z'⟩ Q:=rfl
def aN(d:Option Nat)(l:List aK)(g:Nat->V×ag):Em P O n f l k d st Q (some g)=∀id,st.U id=none->step P O n f (.r (.ops l::k)) ⟨aU st.s d (g id).1,(g id).2⟩ Q:=rfl
def zL(d:Option Nat)(op:L5)(l:List aK):step P O n (f+1) (.d (⟨d,op,none⟩::l) k) st Q=tf P O n f (bk op) d op none l k st Q:=rfl
def sy(d:Option Nat)(l:List aK)(v:V):Fx P O n f l k d st Q (some v)=step P O n f (.d l k) ⟨aU st.s d v,st.U⟩ Q:=rfl
def pG(d:Option Nat)(l:List aK)(Z':ag):CV P O n f l k d st Q (some Z')=step P O n f (.d l k) ⟨aU st.s d (.LI []),Z'⟩ Q:=rfl
def aP(d:Option Nat)(l:List aK)(g:Nat->V×ag):Dy P O n f l k d st Q (some g)=∀id,st.U id=none->step P O n f (.d l k) ⟨aU st.s d (g id).1,(g id).2⟩ Q:=rfl
def xA(d:Option Nat)(op:L5)(x:VX)(b:Bool)(l:List aK):step P O n (f+1) (.r (.ops (⟨d,op,some (x,b)⟩::l)::k)) st Q=gR P O n f (x.ev st.s) d op x b l k st Q:=rfl
def Dv(d:Option Nat)(op:L5)(x:VX)(b:Bool)(l:List aK):gR P O n f (.LI []) d op x b l k st Q=step P O n f (.r (.ops l::k)) ⟨aU st.s d (.LI []),st.U⟩ Q:=rfl
def Fy(d:Option Nat)(op:L5)(x:VX)(l:List aK):gR P O n f (.bool true) d op x true l k st Q=sq P O n f (bk op) d op (some (x,true)) l k (st.lit x (.bool true)) Q:=by simp[gR,dW,both]
def FP(d:Option Nat)(op:L5)(x:VX)(l:List aK):gR P O n f (.bool false) d op x false l k st Q=sq P O n f (bk op) d op (some (x,false)) l k (st.lit x (.bool false)) Q:=by simp[gR,dW,both]
def FK(d:Option Nat)(op:L5)(x:VX)(l:List aK):gR P O n f (.bool true) d op x false l k st Q=step P O n f (.r (.ops l::k)) ⟨aU (st.lit x (.bool true)).s d (.LI []),(st.lit x (.bool true)).U⟩ Q:=by simp[gR,dW,both]
def FB(d:Option Nat)(op:L5)(x:VX)(l:List aK):gR P O n f (.bool false) d op x true l k st Q=step P O n f (.r (.ops l::k)) ⟨aU (st.lit x (.bool false)).s d (.LI []),(st.lit x (.bool false)).U⟩ Q:=by simp[gR,dW,both]
def x4(p:Prop)[Decidable p](d:Option Nat)(op:L5)(x:VX)(l:List aK):gR P O n f (.bool (decide p)) d op x true l k st Q=
 ((p->sq P O n f (bk op) d op (some (x,true)) l k (st.lit x (.bool true)) Q)/\(¬p->step P O n f (.r (.ops l::k)) ⟨aU (st.lit x (.bool false)).s d (.LI []),(st.lit x (.bool false)).U⟩ Q)):=by simp[gR,dW,both]
def vS(p:Prop)[Decidable p](d:Option Nat)(op:L5)(x:VX)(l:List aK):gR P O n f (.bool (decide p)) d op x false l k st Q=
 ((¬p->sq P O n f (bk op) d op (some (x,false)) l k (st.lit x (.bool false)) Q)/\(p->step P O n f (.r (.ops l::k)) ⟨aU (st.lit x (.bool true)).s d (.LI []),(st.lit x (.bool true)).U⟩ Q)):=by simp[gR,dW,both]
def yc(d:Option Nat)(op:L5)(x:VX)(b:Bool)(l:List aK):step P O n (f+1) (.d (⟨d,op,some (x,b)⟩::l) k) st Q=gD P O n f (x.ev st.s) d op x b l k st Q:=rfl
def CO(d:Option Nat)(op:L5)(x:VX)(b:Bool)(l:List aK):gD P O n f (.LI []) d op x b l k st Q=step P O n f (.d l k) ⟨aU st.s d (.LI []),st.U⟩ Q:=rfl
def FO(d:Option Nat)(op:L5)(x:VX)(l:List aK):gD P O n f (.bool true) d op x true l k st Q=tf P O n f (bk op) d op (some (x,true)) l k (st.lit x (.bool true)) Q:=by simp[gD,dW,both]
def F1(d:Option Nat)(op:L5)(x:VX)(l:List aK):gD P O n f (.bool false) d op x false l k st Q=tf P O n f (bk op) d op (some (x,false)) l k (st.lit x (.bool false)) Q:=by simp[gD,dW,both]
def FL(d:Option Nat)(op:L5)(x:VX)(l:List aK):gD P O n f (.bool true) d op x false l k st Q=step P O n f (.d l k) ⟨aU (st.lit x (.bool true)).s d (.LI []),(st.lit x (.bool true)).U⟩ Q:=by simp[gD,dW,both]
def F3(d:Option Nat)(op:L5)(x:VX)(l:List aK):gD P O n f (.bool false) d op x true l k st Q=step P O n f (.d l k) ⟨aU (st.lit x (.bool false)).s d (.LI []),(st.lit x (.bool false)).U⟩ Q:=by simp[gD,dW,both]
def yp(p:Prop)[Decidable p](d:Option Nat)(op:L5)(x:VX)(l:List aK):gD P O n f (.bool (decide p)) d op x true l k st Q=
 ((p->tf P O n f (bk op) d op (some (x,true)) l k (st.lit x (.bool true)) Q)/\(¬p->step P O n f (.d l k) ⟨aU (st.lit x (.bool false)).s d (.LI []),(st.lit x (.bool false)).U⟩ Q)):=by simp[gD,dW,both]
def vV(p:Prop)[Decidable p](d:Option Nat)(op:L5)(x:VX)(l:List aK):gD P O n f (.bool (decide p)) d op x false l k st Q=
 ((¬p->tf P O n f (bk op) d op (some (x,false)) l k (st.lit x (.bool false)) Q)/\(p->step P O n f (.d l k) ⟨aU (st.lit x (.bool true)).s d (.LI []),(st.lit x (.bool true)).U⟩ Q)):=by simp[gD,dW,both]
end rules
def bc(P:Program)(f:FuncId)(args:List V)(v:V):Prop:=∀U,aA P f args U λr Z'=>r=v/\Z'=U
variable {P:Program} {n:Nat} {st:St} {Q:St->Prop} {k:List It}
def j4:ag:=λ_=>none
def oD(U:ag):aa j4 U:=λ_ _ h=>by simp[j4]at h
def V.lone:V->Bool
 |.int ..|.bool _|.str _=>true
 |_=>false
def C'.lone{I Y':Mu}{ow Nn:Nat->Prop}{w w':World}{v:V}{x:Value}(hv:v.lone=true)(h:C' I ow w v x):C' Y' Nn w' v x:=by
 cases v<;>simp only[V.lone,iG]at hv<;>simpa[C']using h
def aE(v:V)(U:ag)(Post:V->ag->Prop):Prop:=∃v' Z',aa Z' U/\Wk U Z' v v'/\Post v' Z'
def Ar{s:Nat->V}{U:ag}{d:Nat}{Post:V->ag->Prop}:O8 [.tmp (.t d)] ⟨s,U⟩ Post=aE (s d) U Post:=by
 apply propext;simp only[O8,aE,qm,gk,iq,VX.ev];constructor
 .rintro⟨v,v',Z',h1,h2⟩;simp only[aX]at h1;subst h1;exact⟨v',Z',h2⟩
 .rintro⟨v',Z',h2⟩;exact⟨_,v',Z',rfl,h2⟩
def Af{s:Nat->V}{U:ag}{d e:Nat}{Post:V->ag->Prop}:O8 [.tmp (.t d),.tmp (.t e)] ⟨s,U⟩ Post=aE (.LI [s d,s e]) U Post:=by
 apply propext;simp only[O8,aE,qm,gk,iq,VX.ev];constructor
 .rintro⟨v,v',Z',h1,h2⟩;simp only[aX]at h1;subst h1;exact⟨v',Z',h2⟩
 .rintro⟨v',Z',h2⟩;exact⟨_,v',Z',rfl,h2⟩
def uA{s:Nat->V}{U:ag}{d e g:Nat}{Post:V->ag->Prop}:O8 [.tmp (.t d),.tmp (.t e),.tmp (.t g)] ⟨s,U⟩ Post=aE (.LI [s d,s e,s g]) U Post:=by
 apply propext;simp only[O8,aE,qm,gk,iq,VX.ev];constructor
 .rintro⟨v,v',Z',h1,h2⟩;simp only[aX]at h1;subst h1;exact⟨v',Z',h2⟩
 .rintro⟨v',Z',h2⟩;exact⟨_,v',Z',rfl,h2⟩
def xO{st:St}{Post:V->ag->Prop}:O8 [] st Post=aE (.LI []) st.U Post:=by
 apply propext;simp only[O8,aE,qm,gk];constructor
 .rintro⟨v,v',Z',h1,h2⟩;simp only[aX]at h1;subst h1;exact⟨v',Z',h2⟩
 .rintro⟨v',Z',h2⟩;exact⟨_,v',Z',rfl,h2⟩
def aE.pure{v v0:V}{U Z1:ag}(h:aa U Z1)(hv:v=v0):aE v Z1 λr Z'=>r=v0/\Z'=U:=
 ⟨v,U,h,Wk.refl h v,hv,rfl⟩
def aE.same{v v0:V}{U:ag}(hv:v=v0):aE v U λr Z'=>r=v0/\Z'=U:=.pure (aa.refl U) hv
def fB{U:ag}{id i:Nat}{o:Ob}:E' U id o i=none↔i≠id/\U i=none:=by
 unfold E';split<;>simp_all
def ak{U:ag}{id:Nat}{o:Ob}:E' U id o id=some o:=by simp[E']
def ad{U:ag}{id i:Nat}{o:Ob}(h:i≠id):E' U id o i=U i:=by simp[E',h]
def eT{U:ag}{id i:Nat}(h:i≠id):del U id i=U i:=by simp[del,h]
def qC{U:ag}{id:Nat}{a b:Ob}:E' (E' U id a) id b=E' U id b:=by
 funext i;simp only[E'];split<;>rfl
def Ag{U:ag}{id:Nat}{a:Ob}(h:U id=none):del (E' U id a) id=U:=by
 funext i;simp only[del,E'];split
 .rename_i e;rw[e,h]
 .rfl
def aa.E'{Z' U:ag}{id:Nat}{o:Ob}(h:aa Z' U)(Ls:U id=none):aa Z' (Vc.E' U id o):=
 h.Ef (by
  cases hs:Z' id with
  |none=>rfl
  |some x=>have:=h id x hs;rw[Ls]at this;cases this)
def aa.Ic{U Z':ag}{id:Nat}{o:Ob}(h:aa U Z'):aa (Vc.E' U id o) (Vc.E' Z' id o):=λi x hx=>by
 simp only[Vc.E']at hx|-;split at hx
 .rename_i e;rw[aI e];exact hx
 .rename_i e;rw[aJ e];exact h i x hx
variable {P:Program} {n:Nat} {st:St} {Q:St->Prop} {k:List It} {I:Mu} {w:World}
def AJ{rows:List V}{sz:Nat}(h:∀r∈rows,r.cells.length=sz)(k:Nat):flat (rows.drop k)=(flat rows).drop (k*sz):=by
 induction rows generalizing k with
 |nil=>simp[flat]
 |cons r rs ih=>
  have e:∀l,flat (r::l)=r.cells++flat l:=λl=>by simp[flat]
  cases k with
  |zero=>simp[flat]
  |succ k=>
   rw[IY,e,ih (λx hx=>h x (by simp[hx])),Nat.add_mul,Nat.one_mul,ze,<-h r (by simp),<-List.drop_drop,List.drop_left]
def ax.replicate{ow:Nat->Prop}{vs:List V}{l:List Value}(h:ax I ow w vs l):∀n,ax I ow w (List.replicate n vs).flatten (List.replicate n l).flatten
 |0=>by simp[ax]
 |n+1=>by
  simp only[List.replicate_succ,List.flatten_cons];exact h.append (ax.replicate h n)
def wj{F:Fr}{a:Act}(hs:df F I st a w){o:Oper}{x:Operand}{t e:TypeId}{args:Array Operand}{argTypes:Array TypeId}{i:TypeInfo}{z:Value}
 (P3:o.op=.call { callee:=.builtin .clear,args:=args,argTypes:=argTypes })(harg:args=#[x])(QW:argTypes[0]?=some t)
 (ht:P.underlying t=some (.slice e))(hz:zeroOf P e=some (i,z)){id off len:Nat}(h1:(cx F.n x).ev st.s=.own id off len){ob:Ob}(h2:st.U id=some ob)
 (h3:ob.sz=i.size)(h4:off+len<=ob.rows.length):
 ∃y w',(execOp a.eval o).run P w=.ok (.value y) w'/\
  df F I ⟨aU st.s (o.dst.filter (·<F.n)) (.LI []),E' st.U id { ob with rows:=ob.rows.take off++List.replicate len (ofValue z)++ob.rows.drop (off+len) }⟩ (a.put o.dst y) w':=by
 obtain⟨hi,TY,hk,Se,MH,No⟩:=eI hz;have R:=ct hs;have hx:=R x;rw[h1]at hx;simp only[C']at hx;have Me:∀w',(Builtin.clear_ argTypes o.type #[a.eval x]).run P w=.ok (.tuple #[]) w'->(execOp a.eval o).run P w=.ok (.value (.tuple #[])) w':=by
  intro w' hw';unfold execOp;rw[P3];simp[resolve,invoke,Go.builtin,harg,hw']
 have MV:C' I (aD I st.U) w (.LI []) (.tuple #[]):=by simp only[C'];exact⟨[],rfl,by simp[ax]⟩
 have hzero:len=0->∃y w',(execOp a.eval o).run P w=.ok (.value y) w'/\
  df F I ⟨aU st.s (o.dst.filter (·<F.n)) (.LI []),E' st.U id { ob with rows:=ob.rows.take off++List.replicate len (ofValue z)++ob.rows.drop (off+len) }⟩ (a.put o.dst y) w':=by
  intro h0;subst h0;have hX:∃b c,a.eval x=.slice b 0 c:=by
   split at hx
   .exact hx.elim
   .exact⟨_,_,hx.1⟩
   .obtain⟨o',c,h,_⟩:=hx;exact⟨_,_,h⟩
  obtain⟨b,c,hX⟩:=hX;have L8:E' st.U id { ob with rows:=ob.rows.take off++List.replicate 0 (ofValue z)++ob.rows.drop (off+0) }=st.U:=by
   funext j;simp only[E',List.replicate_zero,kC,Nat.add_zero,yK];split
   .rename_i e';rw[e',h2]
   .rfl
  rw[L8];refine⟨.tuple #[],w,Me w ?_,hs.pure MV⟩;rw[hX];cases b<;>simp[Builtin.clear_,QW,run_underlying ht]
 split at hx
 .exact hx.elim
 .exact hzero hx.2.2
 .rename_i b OK cap Ls;obtain⟨o',c,hX,c1,c2,c3,TY⟩:=hx;by_cases h0:len=0
  .exact hzero h0
  have MG:=hs.sat.obj id ob h2;rw[Ls]at MG;obtain⟨cur,e1,e2,e3,e4,e5,e6,e7⟩:=MG.plain TY;obtain⟨g1,xs,g2,g3,g4,g5⟩:=e7.cur e1;have hoff:o'=off*OK:=by
   rcases c3 with c3|c3
   .exact c3
   .omega
  subst hoff;have LK:OK=i.size:=by omega
  subst LK;have hzl:z.cells.size=i.size:=Se;have SZ:=jq z.cells len;have OC:(Builtin.zeroCells z.cells len).toList.length=len*i.size:=by rw[SZ];simp[hzl]
  have hbound:off*i.size+len*i.size<=ob.rows.length*i.size:=by rw[<-Nat.add_mul];exact Nat.mul_le_mul_right _ h4
  have Uz:ob.rows.length*i.size<=cap*i.size:=Nat.mul_le_mul_right _ e5;have Vn:∀u∈(Builtin.zeroCells z.cells len).toList,u.oneCell'=true:=by
   rw[SZ];intro u hu;simp only[List.mem_flatten,List.mem_replicate]at hu;obtain⟨l,⟨_,rfl⟩,hu⟩:=hu;exact MH u hu
  have L8:=run_storeCells_at P b (off*i.size) ob.elem (Builtin.zeroCells z.cells len).toList 0 cur w e1 (by rw[OC];omega) Vn;simp only[Nat.add_zero]at L8;refine⟨.tuple #[],w.setRow b (cur.toList.take (off*i.size)++(Builtin.zeroCells z.cells len).toList++cur.toList.drop (off*i.size+(Builtin.zeroCells z.cells len).toList.length)).toArray,Me _ ?_,?_⟩
  .rw[hX];obtain⟨m,rfl⟩:∃m,len=m+1:=⟨len-1,by omega⟩
   simp only[Builtin.clear_,QW,Sem.run_bind,List.getElem?_toArray,Sem.run_pure,Result.andThen_ok,run_underlying ht,dY hz];simp[L8,run_underlying ht,dY hz]
  .have SO:w.grownBy (w.setRow b (cur.toList.take (off*i.size)++(Builtin.zeroCells z.cells len).toList++cur.toList.drop (off*i.size+(Builtin.zeroCells z.cells len).toList.length)).toArray) (some b):=
    ⟨rfl,rfl,rfl,by simp,λkk _ QX=>setRow_other w b kk _ (λe=>QX (by rw[e]))⟩
   have hzc:(ofValue z).cells.length=i.size:=by rw[fY MH];simp[hzl]
   have Rh:∀q∈ob.rows.take off++List.replicate len (ofValue z)++ob.rows.drop (off+len),q.cells.length=i.size:=by
    intro q hq;simp only[fq]at hq;rcases hq with(hq|hq)|hq
    .exact g1 q (uZ hq)
    .rw[(List.mem_replicate.1 hq).2];exact hzc
    .exact g1 q (List.mem_of_mem_drop hq)
   have Qv:flat (ob.rows.take off++List.replicate len (ofValue z)++ob.rows.drop (off+len))=
    (flat ob.rows).take (off*i.size)++(List.replicate len (ofValue z).cells).flatten++(flat ob.rows).drop (off*i.size+len*i.size):=by
    rw[jR,jR,rq,tT g1];congr 1;rw[AJ g1,Nat.add_mul]
   have hzr:ax I (aD I st.U) w (ofValue z).cells z.cells.toList:=by rw[fY MH];exact eW _
   have V8:=hs.sat.change h2 Ls (by omega) SO _ (ob.rows.take off++List.replicate len (ofValue z)++ob.rows.drop (off+len)) (xs.take (off*i.size)++(Builtin.zeroCells z.cells len).toList++xs.drop (off*i.size+(Builtin.zeroCells z.cells len).toList.length))
    (setRow_heap w b cur _ ob.elem _ e1) (by simp only[List.size_toArray,kf,nB,Dc,OC];rw[Array.length_toList];omega) (by simp;omega) Rh
    (by rw[Qv,OC,SZ];exact((g2.take _).append (hzr.replicate len)).append (g2.drop _))
    (by intro u hu
        simp only[fq]at hu;rcases hu with(hu|hu)|hu
        .exact g3 u (uZ hu)
        .exact Vn u hu
        .exact g3 u (List.mem_of_mem_drop hu))
    (by intro j u hu
        have:=mI cur.toList xs _ g5 (off*i.size) (by rw[OC,g4];omega) j u hu;simpa using this)
   exact hs.step V8.1 (cU.refl _) V8.2 (by simp) (by simp only[C'];exact⟨[],rfl,by simp[ax]⟩)
def ab.clear{i:aK}{l:List aK}{sz:Nat}{z:V}{xv:VX}(hw:bp st.s i.g=some true)(ho:i.op=.clear sz z xv)
 {id off len:Nat}(h1:xv.ev st.s=.own id off len){ob:Ob}(h2:st.U id=some ob)(h3:ob.sz=sz)(h4:off+len<=ob.rows.length)
 (h:ab P n (.ops l::k) ⟨aU st.s i.dst (.LI []),E' st.U id { ob with rows:=ob.rows.take off++List.replicate len z++ob.rows.drop (off+len) }⟩ Q):ab P n (.ops (i::l)::k) st Q:=by
 refine ab.ins (by rw[ho];simp) hw λF hn I a w o all hi hs next Q' Lw=>?_
 subst hn;obtain⟨LF,hd⟩:=eF hi;rw[ho]at LF;obtain⟨x,t,e,args,argTypes,ti,zv,g1,g2,g3,g4,g5,rfl,rfl,rfl⟩:=AS LF;obtain⟨y,w',hx,LK⟩:=wj hs g1 g2 g3 g4 g5 h1 h2 h3 h4;unfold Oper.wp;rw[hx];refine Lw _ _ _ ⟨I,?_⟩ h;rw[<-hd];exact LK
def DY{y:Operand}{t:TypeId}{v:V}:cx n y≠.c (.iface t v):=by
 cases y
 case tmp m=>simp only[cx];split<;>simp
 case const u=>
  simp only[cx,ne_eq,VX.c.injEq];unfold ofValue;split
  .split<;>simp
  .unfold cellOf
   repeat' split
   all_goals simp
 all_goals simp[cx]
def wg{o:Op}{xa:VX}(h:LU P n o=.NZ false xa (.c (.iface 0 .undef))):∃t x y m c yt e,o=.binOp .eql t x y yt/\y=.const (.slice none m c)/\P.underlying t=some (.slice e)/\cx n x=xa:=by
 cases o
 case binOp op t x y yt=>
  simp only[LU]at h;split at h
  .cases op<;>simp only[reduceCtorEq,L5.NZ.injEq,Bool.true_eq_false,false_and]at h;exact absurd h.2.2 DY
  .split at h
   .cases op<;>simp only[reduceCtorEq]at h
   .cases h
  .split at h
   .rename_i hs;unfold cy at h;split at h
    .rename_i hy;obtain⟨rfl,hy⟩:=hy;simp only[L5.NZ.injEq,and_true,true_and]at h;unfold uX at hs;split at hs
     .rename_i e ht;unfold BE I3 at hy;split at hy
      .split at hy
       .exact⟨t,x,_,_,_,yt,e,rfl,rfl,ht,h⟩
       .cases hy
      .cases hy
     .cases hs
    .cases h
   .split at h
    .split at h
     .simp only[L5.NZ.injEq,VX.c.injEq,V.iface.injEq]at h;exact absurd h.2.2.1 (by decide)
     .cases h
    .split at h
     .split at h
      .simp only[L5.NZ.injEq,VX.c.injEq,V.iface.injEq]at h;exact absurd h.2.2.1 (by decide)
      .cases h
     ·(repeat' split at h)<;>cases h
 case call c=>
  obtain⟨callee,args,argTypes⟩:=c;cases callee
  case builtin b=>cases b<;>simp only[LU]at h<;>(repeat' split at h)<;>cases h
  all_goals (simp only[LU]at h;cases h)
 case unOp op t x=>cases op<;>simp only[LU]at h<;>cases h
 case makeFunc f a b=>cases f<;>simp only[LU]at h<;>(repeat' split at h)<;>cases h
 all_goals (simp only[LU]at h;(repeat' split at h)<;>cases h)
def ab.BE{i:aK}{l:List aK}{xa:VX}(hw:bp st.s i.g=some true)(ho:i.op=.NZ false xa (.c (.iface 0 .undef))){sz:Nat}{rows:List V}
 (hx:xa.ev st.s=.sl sz rows)(h:∀b,(b=true->rows=[])->ab P n (.ops l::k) ⟨aU st.s i.dst (.bool b),st.U⟩ Q):ab P n (.ops (i::l)::k) st Q:=by
 refine ab.ins (by rw[ho];simp) hw λF hn I a w o all hi hs next Q' Lw=>?_
 subst hn;obtain⟨LF,hd⟩:=eF hi;rw[ho]at LF;obtain⟨t,x,y,m,c,yt,e,g1,rfl,g2,rfl⟩:=wg LF;have R:=ct hs x;rw[hx]at R;simp only[C']at R;obtain⟨ba,cap,hX,_,hr⟩:=R;have Me:(execOp a.eval o).run P w=.ok (.value (.bool ba.isNone)) w:=by
  unfold execOp;rw[g1];have hY:a.eval (.const (.slice none m c))=.slice none m c:=rfl;simp[hX,hY,eqGuard,Lib.run_eql_slice_nil w t e ba rows.length cap m c g2]
 unfold Oper.wp;rw[Me];refine Lw _ _ _ ⟨I,?_⟩ (h ba.isNone ?_)
 .rw[<-hd];exact hs.pure (by simp[C'])
 .intro hb;rcases hr with hr|⟨b,off,rfl,_⟩
  .exact hr
  .cases hb
variable {P:Program} {n:Nat} {st:St} {Q:St->Prop} {k:List It}
def zJ(l:List Nat)(s:Nat->V):Nat->V:=λi=>if l.contains i then s i else .undef
def xD(l:List Nat)(s:Nat->V)(i:Nat):zJ l s i=if l.contains i then s i else .undef:=rfl
def mix(m:Nat)(a b:Nat->V):Nat->V:=λi=>if i<m then a i else b i
def zO(m:Nat)(a b:Nat->V)(i:Nat):mix m a b i=if i<m then a i else b i:=rfl
def CP(m:Nat)(s:Nat->V):mix m s s=s:=by funext i;simp[mix]
def nK(s:Nat->V)(v:V):aU s none v=s:=rfl
def Ae{m d:Nat}(h:d<m)(a b:Nat->V)(v:V):aU (mix m a b) (some d) v=mix m (aU a (some d) v) b:=by
 funext i;simp only[aU,mix];split
 .rename_i e;subst e;simp[h]
 .split<;>rfl
def AA{m d:Nat}(h:m<=d)(a b:Nat->V)(v:V):aU (mix m a b) (some d) v=mix m a (aU b (some d) v):=by
 funext i;simp only[aU,mix];split
 .rename_i e;subst e;simp[Nat.not_lt.2 h]
 .split<;>rfl
def ab.mix(m:Nat){todo:List It}{s:Nat->V}{U:ag}(h:ab P n todo ⟨Vc.mix m s s,U⟩ Q):ab P n todo ⟨s,U⟩ Q:=by
 rw[CP]at h;exact h
def oc{s:Nat->V}{U:ag}{agg:Bool}{sz d:Nat}{Post:V->ag->Prop}:
 O8 [.cell agg sz (.t d)] ⟨s,U⟩ Post=dL (cJ U agg sz (s d)) λv=>aE v U Post:=by
 unfold O8 aE qm;simp only[gk,iq,VX.ev];cases cJ U agg sz (s d)<;>simp[dL]
def oN{s:Nat->V}{U:ag}{agg:Bool}{sz d e:Nat}{Post:V->ag->Prop}:
 O8 [.cell agg sz (.t d),.tmp (.t e)] ⟨s,U⟩ Post=dL (cJ U agg sz (s d)) λv=>aE (.LI [v,s e]) U Post:=by
 unfold O8 aE qm;simp only[gk,iq,VX.ev];cases cJ U agg sz (s d)<;>simp[dL]
def aa.aG{Z0 U:ag}{id:Nat}{o:Ob}(h:aa Z0 U)(Ls:Z0 id=none):aa Z0 (Vc.E' U id o):=λi x hx=>by
 have LR:i≠id:=λe=>by rw[e,Ls]at hx;cases hx
 rw[ad LR];exact h i x hx
def aa.none{a b:ag}(h:aa a b){i:Nat}(hi:b i=none):a i=none:=by
 cases ha:a i with
 |none=>rfl
 |some o=>rw[h i o ha]at hi;cases hi
def ao{U:ag}{i j:Nat}{o:Ob}(h:U i=some o)(hj:U j=none):i≠j:=by rintro rfl;rw[h]at hj;cases hj
def ae{O:MJ P}{f:Nat}{d:Option Nat}{l:List aK}{v:Nat->V}{ob:Ob}{s:Nat->V}{U:ag}
 (h:∀id Z',aa U Z'->Z' id=some ob->U id=none->step P O n f (.r (.ops l::k)) ⟨aU s d (v id),Z'⟩ Q):
 Em P O n f l k d ⟨s,U⟩ Q (some λid=>(v id,Vc.E' U id ob)):=by
 rw[aN];exact λid Ls=>h id _ ((aa.refl U).E' Ls) ak Ls
def bG{O:MJ P}{f:Nat}{d:Option Nat}{l:List aK}{v:Nat->V}{ob:Ob}{s:Nat->V}{U:ag}
 (h:∀id Z',aa U Z'->Z' id=some ob->U id=none->step P O n f (.d l k) ⟨aU s d (v id),Z'⟩ Q):
 Dy P O n f l k d ⟨s,U⟩ Q (some λid=>(v id,Vc.E' U id ob)):=by
 rw[aP];exact λid Ls=>h id _ ((aa.refl U).E' Ls) ak Ls
def tB{O:MJ P}{f:Nat}(t:Bool)(a b:bM):cR P O n f (.bool t) a b k st Q=((t=true->step P O n f (.r (.code a::k)) st Q)/\(t=false->step P O n f (.r (.code b::k)) st Q)):=by
 cases t<;>simp[cR,dW,both]
def ab.aC{i:aK}{l:List aK}{fx:VX}{xs:List VX}{s:Nat->V}{U:ag}{f:FuncId}{caps:List V}{v:V}(hw:bp s i.g=some true)(ho:i.op=.call fx xs)
 (hf:fx.ev s=.fn f caps)(hc:aA P f (xs.map (·.ev s)++caps) U λr Z'=>r=v/\Z'=U)(h:ab P n (.ops l::k) ⟨aU s i.dst v,U⟩ Q):
 ab P n (.ops (i::l)::k) ⟨s,U⟩ Q:=by
 refine ab.call hw ho hf hc ?_;rintro r Z' ⟨rfl,rfl⟩;exact h
def x5(op:BinOp)(k:IntKind)(a b:Int):AV op (.int k a) (.int k b)=cX op k a b:=by simp[AV]
def xR(op:BinOp)(a b:List UInt8):AV op (.str a) (.str b)=db op a b:=rfl
def rT(op:BinOp)(k k':IntKind)(a b:Int):pt op (.int k a) (.int k' b)=cV op k a b:=rfl
def sc(op:BinOp)(a b:List UInt8):pt op (.str a) (.str b)=da op a b:=rfl
def x6(id off n:Nat):eK false (.own id off n)=some (.int .i64 n):=rfl
def zX(sz:Nat)(rows:List V):eK false (.sl sz rows)=some (.int .i64 rows.length):=rfl
def tU:eK false .bz=some (.int .i64 0):=rfl
def xK(s:List UInt8):eK true (.str s)=some (.int .i64 s.length):=rfl
def tX(U:ag)(NM id off len:Nat)(k:IntKind)(j:Int):bN U NM (.own id off len) (.int k j)=match U id with
 |some ob=>if ob.sz=NM/\0<=j/\j<len then some (.ptr id (off+j.toNat) 0)else none
 |none=>none:=rfl
def uf(U:ag)(agg:Bool)(sz id i k:Nat):cJ U agg sz (.ptr id i k)=match U id with
 |some ob=>match ob.rows[i]? with
  |some r=>if agg then(if k=0/\r.cells.length=sz then some (.agg r.cells)else if k+sz<=r.cells.length then some (.agg ((r.cells.drop k).take sz))else none)
     else r.cells[k]?
  |none=>none
 |none=>none:=rfl
def n7(U:ag)(sz:Nat)(vs:List V):cJ U true sz (.rp (.agg vs))=if vs.length=sz then some (.agg vs)else none:=rfl
def ox(U:ag)(sz:Nat)(k:IntKind)(j:Int):cJ U false sz (.rp (.int k j))=some (.int k j):=rfl
def Reads(U:ag)(sz:Nat)(agg:Bool)(sv:V)(rows:List V):Prop:=
 eK false sv=some (.int .i64 rows.length)/\∀(i:Nat) v,rows[i]?=some v->∃p,bN U sz sv (.int .i64 i)=some p/\cJ U agg sz p=some v
def Reads.ints{U:ag}{l:List Int}:Reads U 1 false (.sl 1 (l.map (.int .i64 ·))) (l.map (.int .i64 ·)):=by
 refine⟨rfl,λi v hv=>?_⟩;obtain⟨n,hn,rfl⟩:∃n,l[i]?=some n/\v=.int .i64 n:=by
  rw[tq]at hv;cases h:l[i]? with
  |none=>simp[h]at hv
  |some n=>simp[h]at hv;exact⟨n,rfl,hv.symm⟩
 refine⟨.rp (.int .i64 n),?_,rfl⟩;simp[bN,hn]
def Reads.own{U:ag}{sz id off len:Nat}{ob:Ob}(ho:U id=some ob)(hs:ob.sz=sz)(hl:off+len<=ob.rows.length)(h1:∀r∈ob.rows,r.cells=[r]):
 Reads U sz false (.own id off len) ((ob.rows.drop off).take len):=by
 refine⟨by simp[eK];omega,λi v hv=>?_⟩;have hi:i<len:=by
  have:=(qn.1 hv).1;simp at this;omega
 have Re:ob.rows[off+i]?=some v:=by
  rw[List.getElem?_take,aI hi,F6]at hv;exact hv
 refine⟨.ptr id (off+i) 0,?_,?_⟩
 .simp[bN,ho,hs,hi]
 .simp[cJ,ho,Re,h1 v (Cp Re)]
def au{m:Int}(h1:-9223372036854775808<=m:=by omega)(h2:m<=9223372036854775807:=by omega):LP .i64 m:=by
 unfold LP;rw[IntKind.wrap_i64];omega
mutual
/-- no row's number in it -/
def V.yu:V->Bool
 |.own ..|.ptr ..|.yl _=>false
 |.sl _ rows=>jj rows
 |.rp v=>v.yu
 |.fn _ caps=>jj caps
 |.bm _ caps=>jj caps
 |.iface _ v=>v.yu
 |.agg c|.LI c=>jj c
 |_=>true
def jj:List V->Bool
 |[]=>true
 |v::vs=>v.yu&&jj vs
end
def aA.AU{P:Program}{f:FuncId}{args:List V}{U:ag}{Post OJ:V->ag->Prop}(h:aA P f args U Post)
 (hp:∀r Z',Post r Z'->aE r Z' OJ):aA P f args U OJ:=⟨h.1,λI w Lz hs hr=>(h.2 I w Lz hs hr).mono λe w' ⟨r,Z',Y',val,h1,h2,h3,h4,h5⟩=>by
 obtain⟨v',Z'',g1,g2,g3⟩:=hp r Z' h2;exact⟨v',Z'',Y',val,h1,g3,h3,h4.drop g1,g2 Y' _ _ _ _ h4 h5⟩⟩
mutual
/-- the same,with each row of its own as one that is only read -/
inductive Fz(U:ag)(N:Nat->Prop):V->V->Prop
 |same (v:V) (h:v.yu=true):Fz U N v v
 |own (id off len:Nat) (ob:Ob) (rows:List V) (h1:U id=some ob) (h2:N id) (h3:off+len<=ob.rows.length) (h4:NC U N ((ob.rows.drop off).take len) rows):
    Fz U N (.own id off len) (.sl ob.sz rows)
 |nil (sz:Nat):Fz U N .bz (.sl sz [])
 |sl (sz:Nat) (rows rows':List V) (h:NC U N rows rows'):Fz U N (.sl sz rows) (.sl sz rows')
 |agg (cs ds:List V) (h:NC U N cs ds):Fz U N (.agg cs) (.agg ds)
 |LI (cs ds:List V) (h:NC U N cs ds):Fz U N (.LI cs) (.LI ds)
 |ptr (id i:Nat) (ob:Ob) (r u:V) (h1:U id=some ob) (h2:N id) (h3:ob.rows[i]?=some r) (h4:Fz U N r u):Fz U N (.ptr id i 0) (.rp u)
 |fn (f:FuncId) (cs ds:List V) (h:NC U N cs ds):Fz U N (.fn f cs) (.fn f ds)
 |bm (f:FuncId) (cs ds:List V) (h:NC U N cs ds):Fz U N (.bm f cs) (.bm f ds)
 |iface (t:TypeId) (v u:V) (h:Fz U N v u):Fz U N (.iface t v) (.iface t u)
inductive NC(U:ag)(N:Nat->Prop):List V->List V->Prop
 |nil:NC U N [] []
 |cons (v u:V) (vs us:List V) (h:Fz U N v u) (h':NC U N vs us):NC U N (v::vs) (u::us)
end
section
variable {U K:ag} {N:Nat->Prop} {I:Mu} {w0 w:World} {Ml:Nat->Prop}
def bu.lift{ow Nn:Nat->Prop}{v u:V}{b off:Nat}(hv:∀cs,v≠.agg cs)(hu:∀cs,u≠.agg cs)(h:∀x,C' I ow w v x->C' I Nn w u x)
 (hr:bu I ow w v b off):bu I Nn w u b off:=by
 have e1:∃x,w.cell? ⟨b,off,none⟩=some x/\C' I ow w v x/\x.oneCell'=true:=by
  cases v<;>first|exact absurd rfl (hv _)|simpa only[bu]using hr
 obtain⟨x,h1,h2,h3⟩:=e1;have e2:∃x,w.cell? ⟨b,off,none⟩=some x/\C' I Nn w u x/\x.oneCell'=true:=⟨x,h1,h x h2,h3⟩
 cases u<;>first|exact absurd rfl (hu _)|simpa only[bu]using e2
mutual
def Fz.down(hs:Sat w0 Ml I U w)(hK:aa K U)(hN:∀id,N id->K id=none):∀{v u:V},Fz U N v u->(∀x,C' I (aD I U) w v x->C' I (aD I K) w u x)/\
 (∀b off,bu I (aD I U) w v b off->bu I (aD I K) w u b off)/\u.cells.length=v.cells.length
 |_,_,.same v h=>⟨λx hr=>C'.mono (cU.refl I) (cS.sub w hK) (Md _) v x hr,λb off hr=>bu.mono (cU.refl I) (cS.sub w hK) (Md _) v b off rfl hr,rfl⟩
 |_,_,.own id off len ob rows ho h2 hl h4=>by
  have hd:=NC.down hs hK hN h4;have key:∀x,C' I (aD I U) w (.own id off len) x->C' I (aD I K) w (.sl ob.sz rows) x:=by
   intro x hr;simp only[C']at hr|-;have hlen:rows.length=len:=by rw[hd.2.2.2];simp;omega
   have MG:=hs.obj id ob ho;split at hr
   .exact hr.elim
   .obtain⟨rfl,rfl,rfl⟩:=hr;have:rows=[]:=rE hlen;subst this;exact⟨none,0,by simp,by simp,.inl rfl⟩
   .rename_i b sz cap hb;obtain⟨o,c,rfl,h1,h2',h3,hz⟩:=hr;refine⟨_,c,by rw[hlen],by omega,?_⟩;by_cases h0:len=0
    .left;exact rE (by omega)
    .right;rw[hb]at MG;obtain⟨g1,g2,g3,g4,g5⟩:=MG.rows hz;have Vi:o=off*sz:=by
      rcases h3 with h3|h3
      .exact h3
      .omega
     subst Vi g1;refine⟨b,_,rfl,?_,g2,?_⟩
     .rintro⟨NL,T1,NW,MP,e1,e2⟩;have:=hs.inj NL id T1 ob _ _ _ _ _ (hK _ _ e1) ho e2 hb;rw[this,hN id h2]at e1;cases e1
     .have:=(g5.drop off).take len;rw[ky]at this;exact hd.2.2.1 _ _ _ this
  exact⟨key,λb O6 hr=>bu.lift (λ_=>by simp) (λ_=>by simp) key hr,rfl⟩
 |_,_,.nil sz=>by
  have key:∀x,C' I (aD I U) w .bz x->C' I (aD I K) w (.sl sz []) x:=λx hr=>by
   simp only[C']at hr|-;exact⟨none,0,by simpa using hr,by simp,.inl trivial⟩
  exact⟨key,λb O6 hr=>bu.lift (λ_=>by simp) (λ_=>by simp) key hr,rfl⟩
 |_,_,.sl sz rows rows' h=>by
  have hd:=NC.down hs hK hN h;have key:∀x,C' I (aD I U) w (.sl sz rows) x->C' I (aD I K) w (.sl sz rows') x:=λx hr=>by
   simp only[C']at hr|-;obtain⟨a,cap,rfl,h1,h2⟩:=hr;refine⟨a,cap,by rw[hd.2.2.2],by rw[hd.2.2.2];exact h1,?_⟩;rcases h2 with h2|⟨b,off,h3,h4,h5,h6⟩
   .left;have:=hd.2.2.2;rw[h2]at this;exact rE this
   .exact .inr ⟨b,off,h3,λho=>h4 (ho.sub hK),h5,hd.2.2.1 _ _ _ h6⟩
  exact⟨key,λb O6 hr=>bu.lift (λ_=>by simp) (λ_=>by simp) key hr,rfl⟩
 |_,_,.agg cs ds h=>by
  have hd:=NC.down hs hK hN h;refine⟨λx hr=>?_,λb off hr=>?_,by simp only[V.cells];exact hd.2.2.2⟩
  .simp only[C']at hr|-;obtain⟨Lz,rfl,h1,h2⟩:=hr;exact⟨Lz,rfl,hd.1 _ h1,h2⟩
  .simp only[bu]at hr|-;exact hd.2.1 _ _ hr
 |_,_,.LI cs ds h=>by
  have hd:=NC.down hs hK hN h;have key:∀x,C' I (aD I U) w (.LI cs) x->C' I (aD I K) w (.LI ds) x:=λx hr=>by
   simp only[C']at hr|-;obtain⟨Lz,rfl,h1⟩:=hr;exact⟨Lz,rfl,hd.1 _ h1⟩
  exact⟨key,λb O6 hr=>bu.lift (λ_=>by simp) (λ_=>by simp) key hr,rfl⟩
 |_,_,.ptr id i ob r u ho h2 hi h4=>by
  have hd:=Fz.down hs hK hN h4;have key:∀x,C' I (aD I U) w (.ptr id i 0) x->C' I (aD I K) w (.rp u) x:=by
   intro x hr;simp only[C']at hr|-;have MG:=hs.obj id ob ho;split at hr
   .rename_i b sz cap hb;obtain⟨rfl,hz⟩:=hr;rw[hb]at MG;obtain⟨g1,g2,g3,g4,g5⟩:=MG.rows hz;obtain⟨e1,e2⟩:=g5.get hi;rw[ky]at e2;have L7:¬aD I K b:=by
     rintro⟨NL,T1,NW,MP,e1,e2⟩;have:=hs.inj NL id T1 ob _ _ _ _ _ (hK _ _ e1) ho e2 hb;rw[this,hN id h2]at e1;cases e1
    refine⟨b,i*sz,by simp,?_,.inr L7,hd.2.1 _ _ ((ed _ _ _ _ _ _).2 e2)⟩;cases hc:r.cells with
    |nil=>rw[hc]at e1;simp at e1;omega
    |cons c cs=>
     rw[hc]at e2;simp only[aO]at e2;obtain⟨⟨y,hy,_⟩,_⟩:=e2;exact World.block_lt_of_cell? w _ hy
   .exact hr.elim
  exact⟨key,λb O6 hr=>bu.lift (λ_=>by simp) (λ_=>by simp) key hr,rfl⟩
 |_,_,.fn f cs ds h=>by
  have hd:=NC.down hs hK hN h;have key:∀x,C' I (aD I U) w (.fn f cs) x->C' I (aD I K) w (.fn f ds) x:=λx hr=>by
   simp only[C']at hr|-;obtain⟨Lz,rfl,h1⟩:=hr;exact⟨Lz,rfl,hd.1 _ h1⟩
  exact⟨key,λb O6 hr=>bu.lift (λ_=>by simp) (λ_=>by simp) key hr,rfl⟩
 |_,_,.bm f cs ds h=>by
  have hd:=NC.down hs hK hN h;have key:∀x,C' I (aD I U) w (.bm f cs) x->C' I (aD I K) w (.bm f ds) x:=λx hr=>by
   simp only[C']at hr|-;obtain⟨Lz,rfl,h1⟩:=hr;exact⟨Lz,rfl,hd.1 _ h1⟩
  exact⟨key,λb O6 hr=>bu.lift (λ_=>by simp) (λ_=>by simp) key hr,rfl⟩
 |_,_,.iface t v u h=>by
  have hd:=Fz.down hs hK hN h;have key:∀x,C' I (aD I U) w (.iface t v) x->C' I (aD I K) w (.iface t u) x:=λx hr=>by
   simp only[C']at hr|-;obtain⟨y,rfl,h1⟩:=hr;exact⟨y,rfl,hd.1 _ h1⟩
  exact⟨key,λb O6 hr=>bu.lift (λ_=>by simp) (λ_=>by simp) key hr,rfl⟩
def NC.down(hs:Sat w0 Ml I U w)(hK:aa K U)(hN:∀id,N id->K id=none):∀{vs us:List V},NC U N vs us->(∀l,ax I (aD I U) w vs l->ax I (aD I K) w us l)/\
 (∀b off,aO I (aD I U) w vs b off->aO I (aD I K) w us b off)/\(∀b off sz,aY I (aD I U) w vs b off sz->aY I (aD I K) w us b off sz)/\us.length=vs.length
 |_,_,.nil=>⟨λl h=>by simpa[ax]using h,λ_ _ _=>by simp[aO],λ_ _ _ _=>by simp[aY],rfl⟩
 |_,_,.cons v u vs us h h'=>by
  have hd:=Fz.down hs hK hN h;have Vo:=NC.down hs hK hN h';refine⟨λl hr=>?_,λb off hr=>?_,λb off sz hr=>?_,by simp[Vo.2.2.2]⟩
  .simp only[ax]at hr|-;obtain⟨x,xs,rfl,h1,h2⟩:=hr;exact⟨x,xs,rfl,hd.1 _ h1,Vo.1 _ h2⟩
  .simp only[aO]at hr|-;obtain⟨⟨x,h1,h2,h3⟩,h4⟩:=hr;exact⟨⟨x,h1,hd.1 _ h2,h3⟩,Vo.2.1 _ _ h4⟩
  .simp only[aY]at hr|-;exact⟨by rw[hd.2.2];exact hr.1,hd.2.1 _ _ hr.2.1,Vo.2.2.1 _ _ _ hr.2.2⟩
end
def Fz.wk{v u:V}(h:Fz U N v u)(hK:aa K U)(hN:∀id,N id->K id=none):Wk U K v u:=λ_ _ _ _ x hs hr=>(Fz.down hs hK hN h).1 x hr
end
def BB:(((((((type_of%@AD)/\(type_of%@Ar))/\((type_of%@Af)/\(type_of%@uA)))/\(((type_of%@xO)/\(type_of%@oc))/\((type_of%@oN)/\(type_of%@qf))))/\((((type_of%@ta)/\(type_of%@pJ))/\((type_of%@qd)/\(type_of%@yn)))/\(((type_of%@zZ)/\(type_of%@uv))/\((type_of%@wL)/\(type_of%@xI)))))/\(((((type_of%@AF)/\(type_of%@xH))/\((type_of%@ra)/\(type_of%@zY)))/\(((type_of%@yh)/\(type_of%@wh))/\((type_of%@zE)/\(type_of%@wS))))/\((((type_of%@IW)/\(type_of%@Jf))/\((type_of%@CQ)/\(type_of%@zC)))/\(((type_of%@BQ)/\(type_of%@Cz))/\((type_of%@C2)/\((type_of%@Cs)/\(type_of%@Db)))))))/\((((((type_of%@qR)/\(type_of%@rV))/\((type_of%@xd)/\(type_of%@rk)))/\(((type_of%@qY)/\(type_of%@ri))/\((type_of%@pP)/\(type_of%@zL))))/\((((type_of%@Dw)/\(type_of%@Da))/\((type_of%@C8)/\(type_of%@CN)))/\(((type_of%@sy)/\(type_of%@pG))/\((type_of%@xA)/\((type_of%@Dv)/\(type_of%@Fy))))))/\(((((type_of%@FP)/\(type_of%@FK))/\((type_of%@FB)/\(type_of%@x4)))/\(((type_of%@vS)/\(type_of%@yc))/\((type_of%@CO)/\(type_of%@FO))))/\((((type_of%@F1)/\(type_of%@FL))/\((type_of%@F3)/\(type_of%@yp)))/\(((type_of%@vV)/\(type_of%@nK))/\((type_of%@Ae)/\((type_of%@AA)/\(type_of%@zO))))))))/\(((((((type_of%@uh)/\(type_of%@uc))/\((type_of%@FG)/\(type_of%@FC)))/\(((type_of%@Jg)/\(type_of%@Jj))/\((type_of%@x5)/\(type_of%@xR))))/\((((type_of%@rT)/\(type_of%@sc))/\((type_of%@x6)/\(type_of%@zX)))/\(((type_of%@tU)/\(type_of%@xK))/\((type_of%@tX)/\(type_of%@uf)))))/\(((((type_of%@n7)/\(type_of%@ox))/\((type_of%@ak)/\(type_of%@qC)))/\(((type_of%@true_implies)/\(type_of%@false_implies))/\((type_of%@implies_true.{0})/\(type_of%@xD))))/\((((type_of%@List.getD_cons_zero.{0})/\(type_of%@List.getD_cons_succ.{0}))/\((type_of%@List.getD_nil.{0})/\(type_of%@List.map_cons.{0,0})))/\(((type_of%@List.map_nil.{0,0})/\(type_of%@List.length_cons.{0}))/\((type_of%@List.length_nil.{0})/\((type_of%@List.drop_succ_cons.{0})/\(type_of%@List.drop_zero.{0})))))))/\((((((type_of%@List.take_succ_cons.{0})/\(type_of%@List.take_zero.{0}))/\((type_of%@List.set_cons_zero.{0})/\(type_of%@List.set_cons_succ.{0})))/\(((type_of%@List.append_nil.{0})/\(type_of%@List.nil_append.{0}))/\((type_of%@List.cons_append.{0})/\(type_of%@List.all_cons.{0}))))/\((((type_of%@List.all_nil.{0})/\(type_of%@List.getElem?_cons_zero.{0}))/\((type_of%@List.getElem?_cons_succ.{0})/\(type_of%@List.contains_cons.{0})))/\(((type_of%@List.contains_nil.{0})/\(type_of%@Option.isSome_some.{0}))/\((type_of%@Option.map_some.{0,0})/\((type_of%@Option.map_none.{0,0})/\(type_of%@true_and))))))/\(((((type_of%@and_true)/\(type_of%@and_self))/\((type_of%@Nat.zero_add)/\(type_of%@Nat.add_zero)))/\(((type_of%@Bool.not_true)/\(type_of%@Bool.not_false))/\((type_of%@Bool.false_eq_true)/\(type_of%@Bool.or_true))))/\((((type_of%@Bool.true_or)/\(type_of%@Bool.or_false))/\((type_of%@Bool.false_or)/\(type_of%@Bool.true_and)))/\(((type_of%@Bool.and_true)/\(type_of%@Bool.and_self))/\((type_of%@decide_true)/\((type_of%@decide_false)/\(type_of%@decide_eq_true_eq)))))))):=
 ⟨⟨⟨⟨⟨⟨⟨@AD,@Ar⟩,⟨@Af,@uA⟩⟩,⟨⟨@xO,@oc⟩,⟨@oN,@qf⟩⟩⟩,⟨⟨⟨@ta,@pJ⟩,⟨@qd,@yn⟩⟩,⟨⟨@zZ,@uv⟩,⟨@wL,@xI⟩⟩⟩⟩,⟨⟨⟨⟨@AF,@xH⟩,⟨@ra,@zY⟩⟩,⟨⟨@yh,@wh⟩,⟨@zE,@wS⟩⟩⟩,⟨⟨⟨@IW,@Jf⟩,⟨@CQ,@zC⟩⟩,⟨⟨@BQ,@Cz⟩,⟨@C2,⟨@Cs,@Db⟩⟩⟩⟩⟩⟩,⟨⟨⟨⟨⟨@qR,@rV⟩,⟨@xd,@rk⟩⟩,⟨⟨@qY,@ri⟩,⟨@pP,@zL⟩⟩⟩,⟨⟨⟨@Dw,@Da⟩,⟨@C8,@CN⟩⟩,⟨⟨@sy,@pG⟩,⟨@xA,⟨@Dv,@Fy⟩⟩⟩⟩⟩,⟨⟨⟨⟨@FP,@FK⟩,⟨@FB,@x4⟩⟩,⟨⟨@vS,@yc⟩,⟨@CO,@FO⟩⟩⟩,⟨⟨⟨@F1,@FL⟩,⟨@F3,@yp⟩⟩,⟨⟨@vV,@nK⟩,⟨@Ae,⟨@AA,@zO⟩⟩⟩⟩⟩⟩⟩,⟨⟨⟨⟨⟨⟨@uh,@uc⟩,⟨@FG,@FC⟩⟩,⟨⟨@Jg,@Jj⟩,⟨@x5,@xR⟩⟩⟩,⟨⟨⟨@rT,@sc⟩,⟨@x6,@zX⟩⟩,⟨⟨@tU,@xK⟩,⟨@tX,@uf⟩⟩⟩⟩,⟨⟨⟨⟨@n7,@ox⟩,⟨@ak,@qC⟩⟩,⟨⟨@true_implies,@false_implies⟩,⟨@implies_true.{0},@xD⟩⟩⟩,⟨⟨⟨@List.getD_cons_zero.{0},@List.getD_cons_succ.{0}⟩,⟨@List.getD_nil.{0},@List.map_cons.{0,0}⟩⟩,⟨⟨@List.map_nil.{0,0},@List.length_cons.{0}⟩,⟨@List.length_nil.{0},⟨@List.drop_succ_cons.{0},@List.drop_zero.{0}⟩⟩⟩⟩⟩⟩,⟨⟨⟨⟨⟨@List.take_succ_cons.{0},@List.take_zero.{0}⟩,⟨@List.set_cons_zero.{0},@List.set_cons_succ.{0}⟩⟩,⟨⟨@List.append_nil.{0},@List.nil_append.{0}⟩,⟨@List.cons_append.{0},@List.all_cons.{0}⟩⟩⟩,⟨⟨⟨@List.all_nil.{0},@List.getElem?_cons_zero.{0}⟩,⟨@List.getElem?_cons_succ.{0},@List.contains_cons.{0}⟩⟩,⟨⟨@List.contains_nil.{0},@Option.isSome_some.{0}⟩,⟨@Option.map_some.{0,0},⟨@Option.map_none.{0,0},@true_and⟩⟩⟩⟩⟩,⟨⟨⟨⟨@and_true,@and_self⟩,⟨@Nat.zero_add,@Nat.add_zero⟩⟩,⟨⟨@Bool.not_true,@Bool.not_false⟩,⟨@Bool.false_eq_true,@Bool.or_true⟩⟩⟩,⟨⟨⟨@Bool.true_or,@Bool.or_false⟩,⟨@Bool.false_or,@Bool.true_and⟩⟩,⟨⟨@Bool.and_true,@Bool.and_self⟩,⟨@decide_true,⟨@decide_false,@decide_eq_true_eq⟩⟩⟩⟩⟩⟩⟩⟩
def CC:(∀(l:List V),V.cells (.agg l)=l)/\(V.cells (.undef )=[.undef ])/\(∀(k:IntKind) (i:Int),V.cells (.int k i)=[.int k i])/\(∀(b:Bool),V.cells (.bool b)=[.bool b])/\(∀(s:List UInt8),V.cells (.str s)=[.str s])/\(V.cells (.bz )=[.bz ])/\(∀(a:Nat) (l:List V),V.cells (.sl a l)=[.sl a l])/\(∀(a b c:Nat),V.cells (.own a b c)=[.own a b c])/\(∀(a b c:Nat),V.cells (.ptr a b c)=[.ptr a b c])/\(∀(a:V),V.cells (.rp a)=[.rp a])/\(V.cells (.O2 )=[.O2 ])/\(∀(f:FuncId) (l:List V),V.cells (.fn f l)=[.fn f l])/\(∀(f:FuncId) (l:List V),V.cells (.bm f l)=[.bm f l])/\(V.cells (.MN )=[.MN ])/\(∀(t:TypeId) (a:V),V.cells (.iface t a)=[.iface t a])/\(V.cells (.MO )=[.MO ])/\(∀(l:List V),V.cells (.LI l)=[.LI l])/\(∀(x:Value),V.cells (.raw x)=[.raw x])/\(∀(a:Nat),V.cells (.gp a)=[.gp a])/\(∀(a:Nat),V.cells (.yl a)=[.yl a])/\(∀(a:Nat),V.cells (.mp a)=[.mp a])/\(∀(l:List V),V.stays (.agg l)=true)/\(V.stays (.undef )=false)/\(∀(k:IntKind) (i:Int),V.stays (.int k i)=true)/\(∀(b:Bool),V.stays (.bool b)=true)/\(∀(s:List UInt8),V.stays (.str s)=true)/\(V.stays (.bz )=true)/\(∀(a:Nat) (l:List V),V.stays (.sl a l)=true)/\(∀(a b c:Nat),V.stays (.own a b c)=true)/\(∀(a b c:Nat),V.stays (.ptr a b c)=true)/\(∀(a:V),V.stays (.rp a)=true)/\(V.stays (.O2 )=true)/\(∀(f:FuncId) (l:List V),V.stays (.fn f l)=true)/\(∀(f:FuncId) (l:List V),V.stays (.bm f l)=true)/\(V.stays (.MN )=true)/\(∀(t:TypeId) (a:V),V.stays (.iface t a)=true)/\(V.stays (.MO )=true)/\(∀(l:List V),V.stays (.LI l)=false)/\(∀(a:Nat),V.stays (.gp a)=true)/\(∀(a:Nat),V.stays (.yl a)=true)/\(∀(a:Nat),V.stays (.mp a)=true):=
 ⟨λ_=>rfl,rfl,λ_ _=>rfl,λ_=>rfl,λ_=>rfl,rfl,λ_ _=>rfl,λ_ _ _=>rfl,λ_ _ _=>rfl,λ_=>rfl,rfl,λ_ _=>rfl,λ_ _=>rfl,rfl,λ_ _=>rfl,rfl,λ_=>rfl,λ_=>rfl,λ_=>rfl,λ_=>rfl,λ_=>rfl,λ_=>rfl,rfl,λ_ _=>rfl,λ_=>rfl,λ_=>rfl,rfl,λ_ _=>rfl,λ_ _ _=>rfl,λ_ _ _=>rfl,λ_=>rfl,rfl,λ_ _=>rfl,λ_ _=>rfl,rfl,λ_ _=>rfl,rfl,λ_=>rfl,λ_=>rfl,λ_=>rfl,λ_=>rfl⟩
def JQ{p:Prop}[Decidable p]:(!decide p)=decide (¬p):=decide_not.symm
def sR{P:Program}{n:Nat}{todo:List It}{st:St}{Q:St->Prop}(h:step P MJ.nothing n 300 (.r todo) st Q):ab P n todo st Q:=ab.bD MJ.nothing 300 h
def sG{P:Program}{n:Nat}{t:Td}{st:St}{Q:St->Prop}(h:step P MJ.nothing n 300 t st Q):Go P n t st Q:=Go.bD MJ.nothing 300 t st h
attribute [go_sem] BB CC JQ MJ.nothing bk eV aL cX cV db da dv bF gY fg bl eO cZ eN cq bZ bK fV bS bY bQ Mw gW cz bH kF cK bL cu cb ie binBV bC cD
abbrev vI(n:Int):V:=.int .i64 n
structure MT where
 (top LM LA Lt Mm LZ Mg head before after inside clear:Int)
deriving DecidableEq
def MT.cells(s:MT):List V:=[vI s.top,vI s.LM,vI s.LA,vI s.Lt,vI s.Mm,vI s.LZ,vI s.Mg,vI s.head,vI s.before,vI s.after,vI s.inside,vI s.clear]
structure Nd where
 (kind size:Int)
 (st:MT)
 (line space:Int)
 (words:List Int)
 (side w h:Int)
deriving DecidableEq
def bj(l:List Int):V:=.sl 1 (l.map vI)
def Nd.cells(x:Nd):List V:=[vI x.kind,vI x.size,vI x.st.top,vI x.st.LM,vI x.st.LA,vI x.st.Lt,vI x.st.Mm,vI x.st.LZ,vI x.st.Mg,vI x.st.head,vI x.st.before,vI x.st.after,vI x.st.inside,vI x.st.clear,
 vI x.line,vI x.space,bj x.words,vI x.side,vI x.w,vI x.h]
def ir(x:Nd):V:=.agg x.cells
def mx:Int:=1099511627776
def bf(n a b:Int):Bool:=decide (n>=a/\n<=b)
def MT.ok(s:MT):Bool:=bf s.top 0 mx&&bf s.LM 0 mx&&bf s.LA 0 mx&&bf s.Lt 0 mx&&bf s.Mm 0 mx&&bf s.LZ 1 mx&&bf s.Mg 1 mx&&bf s.head 0 mx&&
 bf s.before 0 4&&bf s.after 0 4&&bf s.inside 0 1&&bf s.clear 0 3
def MT.zero:MT:=⟨0,0,0,0,0,0,0,0,0,0,0,0⟩
def aM(l:List Nd):V:=.sl 20 (l.map ir)
def eX(l:List Nd):eK false (aM l)=some (.int .i64 l.length):=by simp[aM,eK]
def af(l:List Nd):(aM l).cells=[aM l]:=rfl
def aF(l:List Nd):(aM l).stays=true:=rfl
variable {P:Program} {n:Nat} {st:St} {Q:St->Prop} {k:List It} {I:Mu} {w w':World}
abbrev gh(o:Obj)(env:List V:=[]):Ob:=⟨0,0,.obj o::env⟩
def Sat.I8{w0:World}{Ml:Nat->Prop}{U:ag}(h:Sat w0 Ml I U w)(o:Obj)(env:List V)(he:ax I (aD I U) w env (tmpsOf o)):
 ∃id,U id=none/\∃Y':Mu,Y' id=.Mk w.heap.size 0 0/\cU I Y'/\Sat w0 Ml Y' (E' U id (gh o env)) (w.alloc o)/\cS (aD I U) (aD Y' (E' U id (gh o env))) w (w.alloc o):=by
 obtain⟨id,Ls,L6,L3⟩:=h.dJ;have hle:cU I (λk=>if k=id then .Mk w.heap.size 0 0 else I k):=λk hk=>by
  have:k≠id:=λe'=>hk (e'▸Ls);simp[this]
 refine⟨id,L6,λk=>if k=id then .Mk w.heap.size 0 0 else I k,by simp,hle,?_⟩;refine h.put (row:=none) (World.grownBy_alloc w o none) (by simp) hle (L3 _) id (gh o env) (λo' ho=>?_) (λi o' hi ho=>?_) (λb' NW MP N7=>?_) (λhk=>?_)
 .simp[E']at ho;exact ho.symm
 .simp only[E',aJ hi]at ho;exact⟨ho,by simp⟩
 .simp only[if_true,Pl.Mk.injEq]at N7;exact .inr (by omega)
 .simp only[if_true];exact .inr ⟨rfl,rfl,o,env,rfl,World.alloc_heap_new w o,ax.mono hle hk (by simp) _ _ he⟩
def Sat.JA{w0:World}{Ml:Nat->Prop}{U:ag}(h:Sat w0 Ml I U w){id b cap:Nat}{o:Ob}(ho:U id=some o)(Ls:I id=.Mk b 0 cap)(o':Obj)(env:List V)(he:ax I (aD I U) w env (tmpsOf o')):
 Sat w0 Ml I (E' U id (gh o' env)) (w.putObj b o')/\cS (aD I U) (aD I (E' U id (gh o' env))) w (w.putObj b o'):=by
 have Lr:b<w.heap.size:=aD.lt h ⟨id,o,0,cap,ho,Ls⟩;refine h.put (grownBy_putObj' w b o') (λb' N7=>by cases N7;exact⟨id,o,0,cap,ho,Ls⟩) (cU.refl _) h.fin id (gh o' env) (λx LX=>by simp[E']at LX;exact LX.symm)
  (λi x hi LX=>?_) (λb' NW MP N7=>?_) (λhk=>?_)
 .simp only[E',aJ hi]at LX;refine⟨LX,λb' NW MP h4 h5=>hi ?_⟩;cases h5;exact h.inj i id x o _ _ _ _ _ LX ho h4 Ls
 .rw[Ls]at N7;cases N7;exact .inl rfl
 .rw[Ls];exact .inr ⟨rfl,rfl,o',env,rfl,World.putObj_heap_same Lr,ax.mono (cU.refl _) hk (by simp) _ _ he⟩
def Sat.D5{w0:World}{Ml:Nat->Prop}{U:ag}(h:Sat w0 Ml I U w){id b cap:Nat}{o:Obj}{env:List V}(ho:U id=some (gh o env))(Ls:I id=.Mk b 0 cap):w.heap[b]?=some o/\ax I (aD I U) w env (tmpsOf o):=by
 have:=h.obj id _ ho;rw[Ls]at this;rcases this with⟨_,_,_,h1,_⟩|⟨_,_,ob,QA,h1,h2,h3⟩
 .omega
 .simp only[List.cons.injEq,V.obj.injEq]at h1;obtain⟨rfl,rfl⟩:=h1;exact⟨h2,h3⟩
variable {P:Program} {n:Nat} {st:St} {Q:St->Prop} {k:List It} {I:Mu} {w w':World}
def Sat.compose{w0:World}{Ml:Nat->Prop}{I Y':Mu}{U Z':ag}(h0:Sat w0 Ml I U w)(LK:Sat w (aD I U) Y' Z' w'):
 Sat w0 Ml Y' Z' w'/\cS (aD I U) (aD Y' Z') w w':=by
 have M':cS (aD I U) (aD Y' Z') w w':=λb hb hn=>⟨λho=>hn (LK.fresh b ho hb),LK.same b hb hn⟩
 refine⟨⟨ly h0.size LK.size,LK.os.trans h0.os,LK.tape.trans h0.tape,LK.output.trans h0.output,?_,LK.fin,LK.inj,LK.obj,?_,h0.NY⟩,M'⟩
 .intro b hb hn;have h1:¬aD I U b:=λho=>hn (h0.fresh b ho hb);exact(LK.same b (Nat.lt_of_lt_of_le hb h0.size) h1).trans (h0.same b hb hn)
 .intro b hb Lr;exact h0.fresh b (LK.fresh b hb (Nat.lt_of_lt_of_le Lr h0.size)) Lr
def Sat.here{w0:World}{Ml:Nat->Prop}{U:ag}(h:Sat w0 Ml I U w):Sat w (aD I U) I U w:=
 ⟨Md _,rfl,rfl,rfl,λ_ _ _=>rfl,h.fin,h.inj,h.obj,λb hb _=>hb,h.nJ⟩
def YC(P:Program)(L9:Nat)(x:List V)(U:ag)(Post:Bool->ag->Prop):Prop:=
 ∀I w Lz l c,I L9=.Mk l 0 c->Sat w (aD I U) I U w->ax I (aD I U) w x Lz->
  YieldAt Fence.wide 0 P l Lz.toArray w λe w'=>∃b Z' Y',e=.returned (.bool b)/\Post b Z'/\cU I Y'/\Sat w (aD I U) Y' Z' w'
def te{F:Fr}{m m':Nat}{l:Nat}{f:FuncId}{tmps:Array Value}{assign body:Code}{R:Ending->World->Prop}
 (h:RoundIn Fence.wide m P l f tmps assign body w R):RoundIn F.eB m' P l f tmps assign body w R:=
 ⟨trivial,λc cs _=>h.2 c cs (room_wide _)⟩
def ab.oK{i:aK}{l:List aK}{fx:VX}{xs:List VX}(hw:bp st.s i.g=some true)(ho:i.op=.call fx xs){L9:Nat}(hf:fx.ev st.s=.yl L9)
 {Post:Bool->ag->Prop}(hc:YC P L9 (xs.map (·.ev st.s)) st.U Post)
 (h:∀b Z',Post b Z'->ab P n (.ops l::k) ⟨aU st.s i.dst (.bool b),Z'⟩ Q):ab P n (.ops (i::l)::k) st Q:=by
 refine ab.Fw hw λF hn I a w o all hi hs next Q' Lw=>?_
 subst hn;obtain⟨LF,hd⟩:=eF hi;rw[ho]at LF;obtain⟨f0,args,argTypes,g1,rfl,rfl⟩:=lM LF;have Pw:=ct hs f0;rw[hf]at Pw;simp only[C']at Pw;split at Pw
 .rename_i lb c Ls;have Mq:=mr hs args.toList;obtain⟨fn,tmps,assign,body,hy,hR⟩:=hc I w _ lb c Ls hs.sat.here Mq;have Me:(execOp a.eval o).run P w=.ok (.round lb fn tmps assign body) w:=by
   unfold execOp;rw[g1];simp only[resolve,Pw,Deferred.ofValue,Sem.run_bind,Sem.run_pure,Result.andThen_ok,invoke];rw[<-hy];congr 2;apply Array.ext';simp
  refine⟨λ_ _=>trivial,?_⟩;rw[Oper.semAt_eq _ _ _ (by rw[g1];intro c e;cases e),Me];refine⟨jY F,te (hR.mono ?_)⟩;rintro e w' ⟨b,Z',Y',rfl,hp,hle,LK⟩;obtain⟨h1,h2⟩:=hs.sat.compose LK;refine Lw _ _ _ ⟨Y',?_⟩ (h b Z' hp);rw[<-hd];exact hs.step h1 hle h2 LK.size (by simp[C'])
 .exact Pw.elim
def bB(ZJ U L' Z':ag):Prop:=aa L' Z'/\∀id o,ZJ id=none->U id=some o->Z' id=some o/\L' id=none
def bB.refl{ZJ U:ag}(h:aa ZJ U):bB ZJ U ZJ U:=⟨h,λ_ _ h1 h2=>⟨h2,h1⟩⟩
def bB.set{ZJ U L' Z':ag}(h:bB ZJ U L' Z'){id:Nat}{o o':Ob}(Ls:L' id=some o):bB ZJ U (E' L' id o') (E' Z' id o'):=
 ⟨h.1.Ic,λi x h1 h2=>by
  obtain⟨h3,h4⟩:=h.2 i x h1 h2;have:i≠id:=λe=>by rw[e,Ls]at h4;cases h4
  simp[Vc.E',this,h3,h4]⟩
def bB.new{ZJ U L' Z':ag}(h:bB ZJ U L' Z'){id:Nat}{o:Ob}(Ls:Z' id=none):bB ZJ U (E' L' id o) (E' Z' id o):=
 ⟨h.1.Ic,λi x h1 h2=>by
  obtain⟨h3,h4⟩:=h.2 i x h1 h2;have:i≠id:=λe=>by rw[e,Ls]at h3;cases h3
  simp[Vc.E',this,h3,h4]⟩
def bB.Er{ZJ U L' Z':ag}(h:bB ZJ U L' Z'){id:Nat}{o:Ob}(Ls:Z' id=none):bB ZJ U L' (E' Z' id o):=
 ⟨h.1.trans (aa.E' (aa.refl _) Ls),λi x h1 h2=>by
  obtain⟨h3,h4⟩:=h.2 i x h1 h2;have:i≠id:=λe=>by rw[e,Ls]at h3;cases h3
  simp[Vc.E',this,h3,h4]⟩
def Iter(P:Program)(g:FuncId)(caps:List V)(xs:List (List V)):Prop:=
 fw P g=true/\∀(L9:Nat) (τ Jx:List (List V)->ag->Prop) (Z0:ag),
  (∀pre x post ZJ U,xs=pre++x::post->τ pre ZJ->aa ZJ U->
    YC P L9 x U λb Z'=>∃L',bB ZJ U L' Z'/\((b=true/\τ (pre++[x]) L')\/(b=false/\Jx (pre++[x]) L')))->
  τ [] Z0->pV P g (.yl L9::caps) Z0 λ_ Z'=>τ xs Z'\/∃pre,pre <+: xs/\Jx pre Z'
variable {P:Program} {n:Nat} {st:St} {Q:St->Prop} {k:List It} {I:Mu} {w w':World}
def nj(s:Nat->V):List Nat->List V->Nat->V
 |p::ps,x::xs=>nj (λi=>if i=p then x else s i) ps xs
 |_,_=>s
def Xu:List (Nat×(St->Prop))->List It
 |[]=>[]
 |(id,μ)::l=>.inBlock id::.stop μ::Xu l
def zQ{U Z':ag}{id:Nat}(h:aa U Z'):aa (del U id) (del Z' id):=λi o e=>by
 unfold del at e|-;split at e
 .cases e
 .rename_i hi;rw[aJ hi];exact h i o e
def Sat.more{w0:World}{Ml:Nat->Prop}{U:ag}(h:Sat w0 Ml I U w)(o:Obj):Sat w0 Ml I U (w.alloc o)/\cS (aD I U) (aD I U) w (w.alloc o):=by
 have Na:∀b,b<w.heap.size->(w.alloc o).heap[b]?=w.heap[b]?:=λb hb=>Go.RowKit.Below.heap_alloc w o b hb;have hk:cS (aD I U) (aD I U) w (w.alloc o):=λb hb hn=>⟨hn,Na b hb⟩
 refine⟨⟨by have:=h.size;simp;omega,h.os,h.tape,h.output,λb hb hn=>(Na b (Nat.lt_of_lt_of_le hb h.size)).trans (h.same b hb hn),h.fin,h.inj,λid ob ho=>?_,h.fresh,h.NY⟩,hk⟩;exact(h.obj id ob ho).mono (cU.refl I) hk (by simp) λb sz cap hp=>Na b (aD.lt h ⟨id,ob,sz,cap,ho,hp⟩)
def df.enter{F:Fr}{a:Act}(hs:df F I st a w)(fn:FuncId)(ps:Array Tmp)(assign body:Code):
 ∃mark W0 D,df F I st { a with defers:=mark++a.defers } W0/\(Instr.enterLoop fn a.tmps ps assign body F.eB.round).run P w=
  .ok (W0.heap.size,mark) (W0.alloc (.loop { state:=.ready,pending:=none,fn,tmps:=a.tmps,params:=ps,assign,body,defers:=D })):=by
 cases hrd:F.rd with
 |some lr=>
  obtain⟨l0,r0⟩:=lr;obtain⟨h1,_⟩:=hs.book.Ve l0 r0 hrd;refine⟨[],w,r0.defers,hs,?_⟩;have:F.eB.round=some l0:=by simp[Fr.eB,hrd]
  rw[this];exact run_enterLoop_inner h1 fn a.tmps ps assign body
 |none=>
  have:F.eB.round=none:=by simp[Fr.eB,hrd]
  rw[this];refine⟨[{ target:=.collected w.heap.size,args:=#[] }],w.alloc (.deferred (some [])),w.heap.size,?_,?_⟩
  .obtain⟨h1,hk⟩:=hs.sat.more (.deferred (some []));have hb:=hs.book.tg hk;refine⟨h1,hs.le,hs.size,⟨hb.Ve,?_⟩,λi hi=>C'.mono (cU.refl I) hk (by simp) _ _ (hs.slot i hi)⟩;obtain⟨Ds,g1,g2,g3⟩:=hb.marks;obtain⟨Ds',g1',g2',Xq⟩:=hs.book.marks;refine⟨w.heap.size::Ds',by simp[g1'],?_,?_⟩
   .refine List.nodup_cons.2 ⟨λQ0=>?_,g2'⟩;have:=(lQ.1 (Xq _ Q0).2.1).1;omega
   .intro D hD;simp only[dI]at hD;rcases hD with rfl|hD
    .refine⟨hs.sat.size,World.alloc_heap_new w _,λho=>?_⟩;have:=aD.lt hs.sat ho;omega
    .obtain⟨q1,q2,q3⟩:=Xq D hD;have Lr:=(lQ.1 q2).1;exact⟨q1,(hk D Lr q3).2.trans q2,q3⟩
  .rw[run_enterLoop_outer];simp
def Bl(ps:List Nat):∀(xs:List Value) (t:Array Value) (vs:List V) (s:Nat->V) {ow:Nat->Prop} (m:Nat),t.size=m->ax I ow w vs xs->vs.length=ps.length->
 (∀i,i<m->C' I ow w (s i) (t.getD i undef))->
 ((ps.zip xs).foldl (λt (p,v)=>t.setIfInBounds p v) t).size=m/\∀i,i<m->C' I ow w (nj s ps vs i) (((ps.zip xs).foldl (λt (p,v)=>t.setIfInBounds p v) t).getD i undef):=by
 induction ps with
 |nil=>intro xs t vs s ow m ht _ _ hi;exact⟨by simpa using ht,by simpa[nj]using hi⟩
 |cons p ps ih=>
  intro xs t vs s ow m ht hv hl hi;cases vs with
  |nil=>simp at hl
  |cons v vs=>
   simp only[ax]at hv;obtain⟨x,xs',rfl,h1,h2⟩:=hv;simp only[List.zip_cons_cons,nx,nj];refine ih xs' (t.setIfInBounds p x) vs _ m (by simp[ht]) h2 (by simpa using hl) λi Lr=>?_;by_cases hip:i=p
   .subst hip;rw[aI rfl,Og,Array.getElem?_setIfInBounds_self_of_lt (by omega)];exact h1
   .rw[aJ hip,Og,Array.getElem?_setIfInBounds_ne (λe=>hip e.symm),<-Og];exact hi i Lr
variable {P:Program} {n:Nat} {st:St} {Q:St->Prop} {k:List It} {I:Mu} {w w':World}
def re{b:Nat}{o o':Obj}(h:w.heap[b]?=some o)(hc:∀off x,w.cell? ⟨b,off,none⟩≠some x):
 (∀b',b'≠b->(w.putObj b o').heap[b']?=w.heap[b']?)/\∀(ow:Nat->Prop),oT ow ow w (w.putObj b o'):=by
 have LR:∀b',b'≠b->(w.putObj b o').heap[b']?=w.heap[b']?:=λb' hb=>World.putObj_heap_other hb;refine⟨LR,λow b' _ hn=>⟨hn,λoff x hx=>?_⟩⟩;by_cases hb:b'=b
 .subst hb;exact absurd hx (hc off x)
 .exact eL (LR b' hb) off x hx
def kd{b:Nat}{r:Loop}(h:w.heap[b]?=some (.loop r)):∀off x,w.cell? ⟨b,off,none⟩≠some x:=λoff x=>by simp[World.cell?,h]
def df.Kr{F F':Fr}{a:Act}{l:Nat}{r r':Loop}(hs:df F I st a w)(hF:F.rd=some (l,r))(hF':F'={ F with rd:=some (l,r') })(hl:l<F.w0.heap.size->F.Ml l):
 df F' I st a (w.putObj l (.loop r')):=by
 subst hF';obtain⟨h1,h2⟩:=hs.book.Ve l r hF;obtain⟨LR,hk⟩:=re (o':=.loop r') h1 (kd h1);have hk:=hk (aD I st.U);have hz:w.heap.size<=(w.putObj l (.loop r')).heap.size:=by simp
 have Lr:=(lQ.1 h1).1;refine⟨⟨by simpa using hs.sat.size,hs.sat.os,hs.sat.tape,hs.sat.output,λb hb hn=>?_,hs.sat.fin,hs.sat.inj,λid o ho=>?_,hs.sat.fresh,hs.sat.NY⟩,hs.le,hs.size,⟨λl' r'' e=>?_,?_⟩,λi hi=>C'.bO (cU.refl I) hk hz _ _ (hs.slot i hi)⟩
 .by_cases N7:b=l
  .subst N7;exact absurd (hl hb) hn
  .exact(LR b N7).trans (hs.sat.same b hb hn)
 .refine(hs.sat.obj id o ho).bO (cU.refl I) hk hz λb sz cap hp=>LR b ?_;rintro rfl;exact h2 ⟨id,o,sz,cap,ho,hp⟩
 .simp only[aX,Prod.mk.injEq]at e;obtain⟨rfl,rfl⟩:=e;exact⟨World.putObj_heap_same Lr,h2⟩
 .obtain⟨Ds,g1,g2,g3⟩:=hs.book.marks;refine⟨Ds,g1,g2,λD hD=>?_⟩;obtain⟨q1,q2,q3⟩:=g3 D hD;refine⟨q1,(LR D ?_).trans q2,q3⟩;rintro rfl;rw[h1]at q2;cases q2
def Sat.HX{w0:World}{Ml:Nat->Prop}{U:ag}(h:Sat w0 Ml I U w){L9 l c:Nat}(L6:U L9=none)(Ls:I L9=.Mk l 0 c)(L7:¬aD I U l){r:Loop}(hr:w.heap[l]?=some (.loop r))
 (hl:l<w0.heap.size->Ml l)(o:Obj)(env:List V)(he:ax I (aD I U) w env (tmpsOf o)):Sat w0 Ml I (E' U L9 (gh o env)) (w.putObj l o):=by
 obtain⟨LR,_⟩:=re (o':=o) hr (kd hr);have Lr:=(lQ.1 hr).1;have hz:w.heap.size<=(w.putObj l o).heap.size:=by simp
 have S1:∀b,aD I (E' U L9 (gh o env)) b->aD I U b\/b=l:=by
  rintro b ⟨id,ob,sz,cap,h1,h2⟩;by_cases e:id=L9
  .subst e;rw[Ls]at h2;cases h2;exact .inr rfl
  .rw[ad e]at h1;exact .inl ⟨id,ob,sz,cap,h1,h2⟩
 have hk:oT (aD I U) (aD I (E' U L9 (gh o env))) w (w.putObj l o):=λb ⟨off,x,hx⟩ hn=>by
  have ME:b≠l:=by rintro rfl;exact kd hr off x hx
  exact⟨λho=>(S1 b ho).elim hn ME,eL (LR b ME)⟩
 refine⟨by simpa using h.size,h.os,h.tape,h.output,λb hb hn=>?_,h.fin,?_,?_,?_,h.NY⟩
 .by_cases N7:b=l
  .subst N7;exact absurd (hl hb) hn
  .exact(LR b N7).trans (h.same b hb hn)
 .intro id NL ob T1 b sz cap NW MP h1 h2 h3 h4;by_cases e:id=L9<;>by_cases e':NL=L9
  .rw[e,e']
  .exfalso;subst e;rw[Ls]at h3;cases h3;rw[ad e']at h2;exact L7 ⟨NL,T1,NW,MP,h2,h4⟩
  .exfalso;subst e';rw[Ls]at h4;cases h4;rw[ad e]at h1;exact L7 ⟨id,ob,sz,cap,h1,h3⟩
  .rw[ad e]at h1;rw[ad e']at h2;exact h.inj id NL ob T1 b sz cap NW MP h1 h2 h3 h4
 .intro id ob ho;by_cases e:id=L9
  .subst e;rw[ak]at ho;cases ho;rw[Ls];exact .inr ⟨rfl,rfl,o,env,rfl,World.putObj_heap_same Lr,ax.bO (cU.refl I) hk hz _ _ he⟩
  .rw[ad e]at ho;refine(h.obj id ob ho).bO (cU.refl I) hk hz λb sz cap hp=>LR b ?_;rintro rfl;exact L7 ⟨id,ob,sz,cap,ho,hp⟩
 .intro b hb M5;rcases S1 b hb with h1|h1
  .exact h.fresh b h1 M5
  .subst h1;exact hl M5
variable {P:Program} {n:Nat} {st:St} {Q:St->Prop} {k:List It} {I:Mu} {w w':World}
def yE:List (Nat×(St->Prop))->List KI
 |[]=>[]
 |(id,μ)::l=>.inBlock id::.stop μ::yE l
def Ao:∀(l:List (Nat×(St->Prop))),(yE l).map (KI.it P n)=Xu l
 |[]=>rfl
 |(id,μ)::l=>by simp[yE,Xu,KI.it,Ao l]
def gU{F:Fr}{e:Exit}{a:Act}(he:e≠.normal):∀(l:List (Nat×(St->Prop))),kz P F Q (yE l) e a w->
 (e=.ret/\∃st,Q st/\eE F st a w)\/∃id μ,(id,μ)∈l/\e=.exit id/\∃st,μ st/\eE F st a w
 |[],h=>.inl ⟨h.1.resolve_left he,h.2⟩
 |(id,μ)::l,h=>by
  have h:Exit.inBlock id (kz P F Q (.stop μ::yE l)) e a w:=h;have up:kz P F Q (yE l) e a w->_:=gU he l;have go:kz P F Q (yE l) e a w->(e=.ret/\∃st,Q st/\eE F st a w)\/∃NL I',(NL,I')∈(id,μ)::l/\e=.exit NL/\∃st,I' st/\eE F st a w:=λh=>by
   rcases up h with h|⟨i,I',h1,h2⟩
   .exact .inl h
   .exact .inr ⟨i,I',by simp[h1],h2⟩
  cases e with
  |normal=>exact absurd rfl he
  |exit j=>
   simp only[Exit.inBlock]at h;by_cases hj:j=id
   .rw[aI hj]at h;exact .inr ⟨id,μ,by simp,by rw[hj],h⟩
   .rw[aJ hj]at h;exact go h
  |_=>exact go h
def CH:Option Nat->Code
 |none=>.ret
 |some id=>.exit id
def B7{rec:Loop}(Ta:rec.state=.ready)(YI:rec.pending=none)(htm:rec.tmps.size=n){s:Nat->V}{L9:Nat}{x:List V}{ZJ U:ag}
 (hx:x.length=rec.params.toList.length)(Mz:ZJ L9=some (gh (.loop rec) ((List.range n).map s)))(G':aa ZJ U)
 (Jn:ag->Prop)(NQ:List Nat)(Jx:Option Nat->ag->Prop)
 (hb:ab P n [.code (dx P n rec.assign),.stop λXv=>ab P n (.code (dx P n rec.body)::.stop (λOd=>∃Z2,bB (del ZJ L9) (del U L9) Z2 Od.U/\Jn Z2)::
   Xu (NQ.map λid=>(id,λOd=>∃Z2,bB (del ZJ L9) (del U L9) Z2 Od.U/\Jx (some id) Z2))) Xv (λOd=>∃Z2,bB (del ZJ L9) (del U L9) Z2 Od.U/\Jx none Z2)]
   ⟨nj s rec.params.toList x,del U L9⟩ (λ_=>False)):
 YC P L9 x U λb Z'=>∃L',bB ZJ U L' Z'/\((b=true/\L' L9=some (gh (.loop rec) ((List.range n).map s))/\Jn (del L' L9))\/
  (b=false/\∃e:Option Nat,L' L9=some (gh (.loop { rec with state:=.done,pending:=some (CH e) }) ((List.range n).map s))/\Jx e (del L' L9)/\∀id,e=some id->id∈NQ)):=by
 intro Y3 w3 Lz l c Ls Nc MV;have L6:=G' _ _ Mz;obtain⟨hl,O'⟩:=Nc.D5 L6 Ls;have V7:Lz.length=rec.params.toList.length:=by rw[<-hx];exact MV.length
 have hy:=run_yield (P:=P) (args:=Lz.toArray) hl (by simpa using V7);have L7:¬aD Y3 (del U L9) l:=by
  rintro⟨id,o,sz,cap,h1,h2⟩;have:=Nc.inj id L9 o _ l sz cap 0 c (aa.vw U L9 id o h1) L6 h2 Ls;subst this;simp[del]at h1
 have Wg:cS (aD Y3 U) (aD Y3 (del U L9)) w3 w3:=cS.sub w3 (aa.vw U L9);have Wh:∀i,i<n->C' Y3 (aD Y3 (del U L9)) w3 (s i) (rec.tmps.getD i undef):=λi hi=>by
  have hv:((List.range n).map s)[i]?=some (s i):=by simp[hi]
  obtain⟨y,h1,h2⟩:=O'.get hv;have:rec.tmps.getD i undef=y:=by
   simp only[tmpsOf]at h1;rw[Og,<-Array.getElem?_toList,h1];rfl
  rw[this];exact C'.mono (cU.refl _) Wg (Md _) _ _ h2
 obtain⟨hg1,YA⟩:=Bl rec.params.toList Lz rec.tmps x s n htm (ax.mono (cU.refl _) Wg (Md _) _ _ MV) hx Wh;have hzip:(rec.params.zip Lz.toArray).foldl (λtmps (t,a)=>tmps.setIfInBounds t a) rec.tmps=(rec.params.toList.zip Lz).foldl (λt (p,v)=>t.setIfInBounds p v) rec.tmps:=by
  rw[<-Array.foldl_toList,Array.toList_zip]
 rw[hzip]at hy;refine⟨rec.fn,_,rec.assign,rec.body,hy,roundIn_of_wpIn (F:=Fence.wide) trivial ?_⟩;have NI:df ⟨w3,aD Y3 U,Y3,n,some (l,rec)⟩ Y3 ⟨nj s rec.params.toList x,del U L9⟩ { tmps:=(rec.params.toList.zip Lz).foldl (λt (p,v)=>t.setIfInBounds p v) rec.tmps,defers:=[] } w3:=by
  refine⟨Nc.drop (aa.vw U L9),cU.refl _,hg1,⟨λl' r' e=>?_,[],rfl,.nil,by simp⟩,YA⟩;simp only[aX,Prod.mk.injEq]at e;obtain⟨rfl,rfl⟩:=e;exact⟨hl,L7⟩
 have h1:=hb ⟨w3,aD Y3 U,Y3,n,some (l,rec)⟩ rfl [.code rec.assign,.stop _] rfl _ w3 ⟨Y3,NI⟩;refine wpIn_mono (F:=Fence.wide.inRound l) h1 ?_;intro e a1 w1 h;cases e with
 |normal=>
  obtain⟨Xv,hI,X4,hs4⟩:=h;have RV:=hs4.Kr (F':=⟨w3,aD Y3 U,Y3,n,some (l,{ rec with state:=.busy })⟩) (r':={ rec with state:=.busy }) rfl rfl (λ_=>⟨L9,_,0,c,L6,Ls⟩);refine⟨_,run_beginRound (hs4.book.Ve l rec rfl).1 Ta,?_⟩;have h2:=hI ⟨w3,aD Y3 U,Y3,n,some (l,{ rec with state:=.busy })⟩ rfl (.code rec.body::.stop _::yE _) (by simp only[fb,Ao];rfl) a1 _ ⟨X4,RV⟩;refine wpIn_mono (F:=Fence.wide.inRound l) h2 ?_;have fin:∀(Od:St) (a2:Act) (w2:World) (jump:Option Code) (Z2:ag),eE ⟨w3,aD Y3 U,Y3,n,some (l,{ rec with state:=.busy })⟩ Od a2 w2->bB (del ZJ L9) (del U L9) Z2 Od.U->
   ∃v T0,(Instr.endRound l jump).run P w2=.ok v T0/\v=.bool jump.isNone/\∃Z' Y' L',cU Y3 Y'/\Sat w3 (aD Y3 U) Y' Z' T0/\bB ZJ U L' Z'/\
    L' L9=some (gh (.loop { rec with state:=if jump.isNone then .ready else .done,pending:=jump }) ((List.range n).map s))/\del L' L9=Z2:=by
   rintro Od a2 w2 jump Z2 ⟨X5,PR⟩ Nv;obtain⟨q1,q2⟩:=PR.book.Ve l _ rfl;have OU:X5 L9=.Mk l 0 c:=(PR.le L9 (show Y3 L9≠.dJ by rw[Ls];simp)).trans Ls;have hn5:Od.U L9=none:=by
    cases h:Od.U L9 with
    |none=>rfl
    |some o=>exact absurd ⟨L9,o,0,c,h,OU⟩ q2
   have hk5:cS (aD Y3 U) (aD X5 Od.U) w3 w2:=λb hb hn=>⟨λho=>hn (PR.sat.fresh b ho hb),PR.sat.same b hb hn⟩
   have YJ:=ax.mono PR.le hk5 PR.sat.size _ _ O';have UE:Z2 L9=none:=by
    cases h:Z2 L9 with
    |none=>rfl
    |some o=>have:=Nv.1 L9 o h;rw[hn5]at this;cases this
   refine⟨_,_,run_endRound (P:=P) jump q1,rfl,E' Od.U L9 (gh (.loop { rec with state:=if jump.isNone then .ready else .done,pending:=jump }) ((List.range n).map s)),X5,
    E' Z2 L9 (gh (.loop { rec with state:=if jump.isNone then .ready else .done,pending:=jump }) ((List.range n).map s)),PR.le,?_,⟨Nv.1.Ic,λi o h1 h2=>?_⟩,ak,Ag UE⟩
   .exact PR.sat.HX hn5 OU q2 q1 (λ_=>⟨L9,_,0,c,L6,Ls⟩) _ _ YJ
   .have LR:i≠L9:=λe=>by rw[e,Mz]at h1;cases h1
    obtain⟨g1,g2⟩:=Nv.2 i o (by rw[eT LR];exact h1) (by rw[eT LR];exact h2);rw[ad LR,ad LR];exact⟨g1,g2⟩
  intro e a2 w2 h;cases e with
  |normal=>
   obtain⟨Od,⟨Z2,Nv,hj⟩,N8⟩:=h;obtain⟨v,T0,g1,rfl,Z',Y',L',g2,g3,g4,g5,g6⟩:=fin Od a2 w2 none Z2 N8 Nv;refine⟨_,T0,g1,true,Z',Y',rfl,⟨L',g4,.inl ⟨rfl,?_,by rw[g6];exact hj⟩⟩,g2,g3⟩;rw[g5];have:({ rec with state:=.ready,pending:=none }:Loop)=rec:=by rw[<-Ta,<-YI]
   simp[this]
  |ret=>
   rcases gU (by simp) _ h with⟨_,Od,⟨Z2,Nv,hj⟩,N8⟩|⟨_,_,_,h,_⟩
   .obtain⟨v,T0,g1,rfl,Z',Y',L',g2,g3,g4,g5,g6⟩:=fin Od a2 w2 (some .ret) Z2 N8 Nv;exact⟨_,T0,g1,false,Z',Y',rfl,⟨L',g4,.inr ⟨rfl,none,g5,by rw[g6];exact hj,by simp⟩⟩,g2,g3⟩
   .cases h
  |exit id=>
   rcases gU (by simp) _ h with⟨h,_⟩|⟨NL,μ,Q0,h,Od,Vp,N8⟩
   .cases h
   .cases h;simp only[gO,Prod.mk.injEq]at Q0;obtain⟨YK,hin',rfl,rfl⟩:=Q0;obtain⟨Z2,Nv,hj⟩:=Vp;obtain⟨v,T0,g1,rfl,Z',Y',L',g2,g3,g4,g5,g6⟩:=fin Od a2 w2 (some (.exit YK)) Z2 N8 Nv;exact⟨_,T0,g1,false,Z',Y',rfl,⟨L',g4,.inr ⟨rfl,some YK,g5,by rw[g6];exact hj,by simp[hin']⟩⟩,g2,g3⟩
  |goto t=>rcases gU (by simp) _ h with⟨h,_⟩|⟨_,_,_,h,_⟩<;>cases h
  |panic ch=>rcases gU (by simp) _ h with⟨h,_⟩|⟨_,_,_,h,_⟩<;>cases h
  |outgrown=>rcases gU (by simp) _ h with⟨h,_⟩|⟨_,_,_,h,_⟩<;>cases h
 |ret=>exact h.2.choose_spec.1.elim
 |exit id=>rcases h.1 with h|h<;>cases h
 |goto t=>rcases h.1 with h|h<;>cases h
 |panic ch=>rcases h.1 with h|h<;>cases h
 |outgrown=>rcases h.1 with h|h<;>cases h
variable {P:Program} {n:Nat} {st:St} {Q:St->Prop} {k:List It} {I:Mu} {w w':World}
def tr{a:Act}{g:Operand}{l:Nat}{f:FuncId}{cv:List Value}(h:a.eval g=.func (.func f) #[] ⟨cv⟩):
 (resolve a.eval (rangeCall g l) 0).run P w=.ok { target:=.fn (.func f) ⟨cv⟩,args:=#[.func (.yield l) #[] #[]] } w:=by
 simp only[resolve,h,Deferred.ofValue];simp[go_sem]
def ab.D3{g:VX}{ps:List Nat}{A B:bM}{gf:FuncId}{caps:List V}(hg:g.ev st.s=.fn gf caps){xs:List (List V)}{Z0:ag}(hs00:aa Z0 st.U)
 (Ql:fw P gf=true/\∀(L9:Nat) (τ Jx:List (List V)->ag->Prop) (o:Ob),st.U L9=none->
   (∀pre x post ZJ U,xs=pre++x::post->τ pre ZJ->aa ZJ U->
     YC P L9 x U λb Z'=>∃L',bB ZJ U L' Z'/\((b=true/\τ (pre++[x]) L')\/(b=false/\Jx (pre++[x]) L')))->
   τ [] (E' Z0 L9 o)->pV P gf (.yl L9::caps) (E' st.U L9 o) λ_ Z'=>τ xs Z'\/∃pre,pre <+: xs/\Jx pre Z')
 (hlen:∀x∈xs,x.length=ps.length)(NQ:List Nat)(τ:List (List V)->ag->Prop)(Jx:Option Nat->List (List V)->ag->Prop)(h0:τ [] Z0)
 (Tb:∀pre x post ZJ U,xs=pre++x::post->τ pre ZJ->aa ZJ U->
   ab P n [.code A,.stop λXv=>ab P n (.code B::.stop (λOd=>∃Z2,bB ZJ U Z2 Od.U/\τ (pre++[x]) Z2)::
    Xu (NQ.map λid=>(id,λOd=>∃Z2,bB ZJ U Z2 Od.U/\Jx (some id) (pre++[x]) Z2))) Xv (λOd=>∃Z2,bB ZJ U Z2 Od.U/\Jx none (pre++[x]) Z2)]
    ⟨nj st.s ps x,U⟩ (λ_=>False))
 (Tc:∀Z',τ xs Z'->ab P n k ⟨st.s,Z'⟩ Q)
 (Te:∀id∈NQ,∀pre Z',pre <+: xs->Jx (some id) pre Z'->ab P n (.code (.exit id)::k) ⟨st.s,Z'⟩ Q)
 (Wi:∀pre Z',pre <+: xs->Jx none pre Z'->ab P n (.code .ret::k) ⟨st.s,Z'⟩ Q):ab P n (.code (.fK g ps A B)::k) st Q:=by
 intro F hn kt hk a w hs;subst hn;obtain⟨z,M9,rfl,hy,MD⟩:=eA hk;obtain⟨c0,rfl,hc⟩:=fQ hy;have Oj:∃g0 Xw a0 b0,c0=.rangeFunc g0 Xw a0 b0/\cx F.n g0=g/\Xw.toList=ps/\dx P F.n a0=A/\dx P F.n b0=B:=by
  cases c0<;>simp only[dx,reduceCtorEq,bM.fK.injEq]at hc
  case region=>(split at hc;cases hc);split at hc<;>cases hc
  exact⟨_,_,_,_,rfl,hc.1,hc.2.1,hc.2.2.1,hc.2.2.2⟩
 obtain⟨g0,Xw,a0,b0,rfl,rfl,rfl,rfl,rfl⟩:=Oj;obtain⟨I,hs⟩:=hs;have T':=ct hs g0;rw[hg]at T';simp only[C']at T';obtain⟨cv,hgv,hcv⟩:=T';refine wpIn_rangeFunc λfn _=>?_;obtain⟨mark,W0,D,OM,Me⟩:=hs.enter (P:=P) fn Xw a0 b0;generalize Sg:({ state:=.ready,pending:=none,fn,tmps:=a.tmps,params:=Xw,assign:=a0,body:=b0,defers:=D }:Loop)=rec at Me;have Xx:rec.state=.ready:=by rw[<-Sg]
 have Xy:rec.pending=none:=by rw[<-Sg]
 have hr3:rec.tmps=a.tmps:=by rw[<-Sg]
 have hr4:rec.params=Xw:=by rw[<-Sg]
 have hr5:rec.assign=a0:=by rw[<-Sg]
 have hr6:rec.body=b0:=by rw[<-Sg]
 have Wj:rec.tmps.size=F.n:=by rw[hr3];exact hs.size
 have O':ax I (aD I st.U) W0 ((List.range F.n).map st.s) (tmpsOf (.loop rec)):=by
  have hl:tmpsOf (.loop rec)=(List.range F.n).map λi=>a.tmps.getD i undef:=by
   simp only[tmpsOf,hr3];apply List.ext_getElem
   .simp[hs.size]
   .intro i h1 h2;simp only[eU,List.length_range]at h2;simp only[Array.getElem_toList,List.getElem_map,List.getElem_range];rw[Og,Array.getElem?_eq_getElem (by rw[hs.size];exact h2)];rfl
  rw[hl];have MI:∀l:List Nat,(∀i∈l,i<F.n)->ax I (aD I st.U) W0 (l.map st.s) (l.map λi=>a.tmps.getD i undef):=by
   intro l
   induction l with
   |nil=>intro _;simp[ax]
   |cons i l ih=>
    intro h;simp only[fb,ax];exact⟨_,_,rfl,OM.slot i (h i (by simp)),ih λj hj=>h j (by simp[hj])⟩
  exact MI _ λi hi=>by simpa using hi
 obtain⟨L9,YL,Y1,Pa,YM,Vq,Nf⟩:=OM.sat.I8 (.loop rec) _ O';generalize hE:(List.range F.n).map st.s=env at*;have hcvt:ax Y1 (aD Y1 (E' st.U L9 (gh (.loop rec) env))) (W0.alloc (.loop rec)) caps cv:=by
  have h1:ax I (aD I st.U) W0 caps cv:=by
   have h2:=ct OM g0;rw[hg]at h2;simp only[C']at h2;obtain⟨cv',h3,h4⟩:=h2;have:a.eval g0=.func (.func gf) #[] ⟨cv'⟩:=h3;rw[hgv]at this;simp only[Value.func.injEq,Array.mk.injEq,true_and]at this;rw[this];exact h4
  exact ax.mono YM Nf (by simp) _ _ h1
 obtain⟨Pb,YN⟩:=Ql;have key:=YN L9 (λpre ZJ=>ZJ L9=some (gh (.loop rec) env)/\τ pre (del ZJ L9))
  (λpre ZJ=>∃e:Option Nat,ZJ L9=some (gh (.loop { rec with state:=.done,pending:=some (CH e) }) env)/\Jx e pre (del ZJ L9)/\∀id,e=some id->id∈NQ)
  (gh (.loop rec) env) YL ?_ ⟨ak,by rw[Ag (hs00.none YL)];exact h0⟩
 .refine⟨W0.heap.size,mark,_,_,_,gf,_,_,by rw[show F.eB.round=F.eB.round from rfl];exact Me,tr hgv,λ_ _=>trivial,
   by simp only[invoke];exact kT Pb _,jY F,mE ?_⟩
  have Mq:ax Y1 (aD Y1 (E' st.U L9 (gh (.loop rec) env))) (W0.alloc (.loop rec)) (.yl L9::caps) (.func (.yield W0.heap.size) #[] #[]::cv):=by
   simp only[ax];exact⟨_,_,rfl,by simp[C',Pa],hcvt⟩
  have Mt:=key Y1 _ _ Vq.here Mq;have YO:(Value.func (.yield W0.heap.size) #[] #[]::cv).toArray=#[.func (.yield W0.heap.size) #[] #[]]++⟨cv⟩:=by
   apply Array.ext';simp
  rw[YO]at Mt;refine Mt.mono ?_;rintro e w2 ⟨r,Z',Y',val,rfl,hp,YP,N8,-⟩;obtain⟨hs3,PQ⟩:=Vq.compose N8;have Rr:Y' L9=.Mk W0.heap.size 0 0:=(YP L9 (by rw[Pa];simp)).trans Pa;have fin:∀(P5:Loop),Z' L9=some (gh (.loop P5) env)->P5.state≠.busy->∃w4,(Instr.endLoop W0.heap.size).run P w2=.ok P5.pending w4/\
   eE F ⟨st.s,del Z' L9⟩ { a with defers:=mark++a.defers } w4:=by
   intro P5 Mz L8;obtain⟨UF,YQ⟩:=N8.D5 Mz Rr;refine⟨_,run_endLoop UF L8,Y',?_⟩;have P6:=hs3.JA Mz Rr (.loop { P5 with state:=.exhausted }) env YQ;have G':aa (del Z' L9) (E' Z' L9 (gh (.loop { P5 with state:=.exhausted }) env)):=λi o h=>by
    unfold del at h;split at h
    .cases h
    .rename_i hi;rw[ad hi];exact h
   have Wg:=cS.sub (I:=Y') (w2.putObj W0.heap.size (.loop { P5 with state:=.exhausted })) G';have Uw:=N8.size;have Vr:cS (aD I st.U) (aD Y' (del Z' L9)) W0 (w2.putObj W0.heap.size (.loop { P5 with state:=.exhausted })):=λb hb hn=>by
    obtain⟨q1,q2⟩:=Nf b hb hn;have Oc:b<(W0.alloc (.loop rec)).heap.size:=by simp;omega
    obtain⟨q3,q4⟩:=PQ b Oc q1;have MR:b<w2.heap.size:=Nat.lt_of_lt_of_le Oc Uw;obtain⟨q5,q6⟩:=P6.2 b MR q3;exact⟨λho=>q5 (ho.sub G'),q6.trans (q4.trans q2)⟩
   have YR:cU I Y':=YM.trans YP;have hz:W0.heap.size<=(w2.putObj W0.heap.size (.loop { P5 with state:=.exhausted })).heap.size:=by
    simp at Uw|-;omega
   exact⟨P6.1.drop G',OM.le.trans YR,OM.size,OM.book.tg Vr,λi hi=>C'.mono YR Vr hz _ _ (OM.slot i hi)⟩
  rcases hp with⟨Mz,hj⟩|⟨pre,Pu,e,Mz,hj,Q0⟩
  .obtain⟨w4,g1,g2⟩:=fin rec Mz (by rw[Xx];simp);refine⟨_,w4,g1,?_⟩;rw[Xy];exact Tc _ hj F rfl M9 MD _ _ g2
  .obtain⟨w4,g1,g2⟩:=fin _ Mz (by simp);refine⟨_,w4,g1,?_⟩;cases e with
   |none=>exact Wi pre _ Pu hj F rfl (.code .ret::M9) (by simp[KI.it,MD,dx]) _ _ g2
   |some id=>exact Te id (Q0 id rfl) pre _ Pu hj F rfl (.code (.exit id)::M9) (by simp[KI.it,MD,dx]) _ _ g2
 .intro pre x post ZJ U N1 hJ G';have hx:x.length=rec.params.toList.length:=by rw[hr4];exact hlen x (by rw[N1];simp)
  have hb:=Tb pre x post (del ZJ L9) (del U L9) N1 hJ.2 (zQ G');subst hE;refine B7 Xx Xy Wj hx hJ.1 G' (τ (pre++[x])) NQ (λe=>Jx e (pre++[x])) ?_;rw[hr4,hr5,hr6];exact hb
def ab.fK{g:VX}{ps:List Nat}{A B:bM}{gf:FuncId}{caps:List V}(hg:g.ev st.s=.fn gf caps){xs:List (List V)}(Ql:Iter P gf caps xs)
 (hlen:∀x∈xs,x.length=ps.length)(NQ:List Nat)(τ:List (List V)->ag->Prop)(Jx:Option Nat->List (List V)->ag->Prop)(h0:τ [] st.U)
 (Tb:∀pre x post ZJ U,xs=pre++x::post->τ pre ZJ->aa ZJ U->
   ab P n [.code A,.stop λXv=>ab P n (.code B::.stop (λOd=>∃Z2,bB ZJ U Z2 Od.U/\τ (pre++[x]) Z2)::
    Xu (NQ.map λid=>(id,λOd=>∃Z2,bB ZJ U Z2 Od.U/\Jx (some id) (pre++[x]) Z2))) Xv (λOd=>∃Z2,bB ZJ U Z2 Od.U/\Jx none (pre++[x]) Z2)]
    ⟨nj st.s ps x,U⟩ (λ_=>False))
 (Tc:∀Z',τ xs Z'->ab P n k ⟨st.s,Z'⟩ Q)
 (Te:∀id∈NQ,∀pre Z',pre <+: xs->Jx (some id) pre Z'->ab P n (.code (.exit id)::k) ⟨st.s,Z'⟩ Q)
 (Wi:∀pre Z',pre <+: xs->Jx none pre Z'->ab P n (.code .ret::k) ⟨st.s,Z'⟩ Q):ab P n (.code (.fK g ps A B)::k) st Q:=
 ab.D3 hg (aa.refl _) ⟨Ql.1,λL9 J' Jx' _ _ hb h=>Ql.2 L9 J' Jx' _ hb h⟩ hlen NQ τ Jx h0 Tb Tc Te Wi
variable {P:Program} {n:Nat} {st:St} {Q:St->Prop} {k:List It}
def dX(LL:List (List Nat))(g':List Nat):List Nat:=(List.range LL.length).filter λi=>!g'.contains i&&(LL.getD i []).all g'.contains
abbrev jt(ops:Array Oper):List (List Nat):=ops.toList.map λo=>(o.after.toList.filter (Region.binds .any)).map (·.on)
def ug{ops:Array Oper}{arr:Array Bool}{g':List Nat}(hs:arr.size=ops.size)(hl:∀i,i<ops.size->arr.getD i true=g'.contains i)
 (ho:∀i∈g',i<ops.size):Region.ready .any ops arr=dX (jt ops) g':=by
 unfold Region.ready dX;have hlen:(jt ops).length=ops.size:=by simp[jt]
 rw[hlen];refine List.filter_congr λi hi=>?_;have hi:i<ops.size:=by simpa using hi
 rw[hl i hi];congr 1;have h1:ops[i]?=some ops[i]:=Array.getElem?_eq_getElem hi;have h2:(jt ops).getD i []=(ops[i].after.toList.filter (Region.binds .any)).map (·.on):=by
  rw[yi];simp[jt,hi]
 rw[h1,h2];simp only[Option.map_some,Option.getD_some];rw[<-Array.all_toList,List.all_map,List.all_filter];congr 1;funext e;simp only[Function.comp];have h3:arr.getD e.on false=g'.contains e.on:=by
  by_cases he:e.on<ops.size
  .rw[<-hl _ he,Og,Og,Array.getElem?_eq_getElem (by omega)];rfl
  .rw[Og,Array.getElem?_eq_none (by omega)];simp only[Option.getD_none];symm;rw[Bool.eq_false_iff];intro hc;exact he (ho _ (by simpa using hc))
 rw[h3]
def aa.Ci{Z0 U:ag}{e:Nat}(h:aa Z0 U)(he:Z0 e=Option.none):aa Z0 (del U e):=λi x hx=>by
 have LR:i≠e:=λe'=>by rw[e',he]at hx;cases hx
 rw[eT LR];exact h i x hx
def nu:(∀{P:Program} {O:MJ P} {n:Nat} {k:List It} {st:St} {Q:St->Prop},step P O n 0 (.r k) st Q=SY P n k st Q)/\(∀{P:Program} {n:Nat} {c:bM} {k:List It} {st:St} {Q:St->Prop},SY P n (.code c::k) st Q=ab P n (.code c::k) st Q)/\
 (∀{P:Program} {n:Nat} {l:List aK} {k:List It} {st:St} {Q:St->Prop},SY P n (.ops l::k) st Q=ab P n (.ops l::k) st Q)/\(∀{P:Program} {n id:Nat} {k:List It} {st:St} {Q:St->Prop},SY P n (.inBlock id::k) st Q=ab P n (.inBlock id::k) st Q)/\
 ∀{P:Program} {n:Nat} {st:St} {Q:St->Prop},SY P n [] st Q=ab P n [] st Q:=⟨rfl,rfl,rfl,rfl,rfl⟩
def Wk.bz{U Z':ag}(sz:Nat):Wk U Z' .bz (.sl sz []):=by
 intro I w0 w Ml x hs hr;simp only[C']at hr|-;exact⟨none,0,by simpa using hr,by simp,.inl trivial⟩
def aQ(K U:ag)(e sz:Nat)(v:V)(rows:List V):Prop:=(v=.bz/\rows=[])\/∃id,v=.own id 0 rows.length/\U id=some ⟨e,sz,rows⟩/\K id=none
def aQ.wk{K U:ag}{e sz:Nat}{v:V}{rows:List V}(h:aQ K U e sz v rows){K':ag}(hK:aa K' K)(hs:aa K' U):Wk U K' v (.sl sz rows):=by
 rcases h with⟨rfl,rfl⟩|⟨id,rfl,ho,hk⟩
 .exact Wk.bz sz
 .have:=Wk.own hs ho (hK.none hk) (off:=0) (len:=rows.length) (by simp);rw[zy,kP]at this;exact this
def aQ.vR{K U:ag}{e sz:Nat}{v:V}{rows:List V}(h:aQ K U e sz v rows)(hs:aa K U){v0:V}(hv:V.sl sz rows=v0):
 aE v U λr Z'=>r=v0/\Z'=K:=⟨_,K,hs,h.wk (aa.refl K) hs,hv,rfl⟩
def er{P:Program}{n:Nat}{Q:St->Prop}{k:List It}{O:MJ P}{f:Nat}{d:Option Nat}{l:List aK}{v:Nat->V}{ob:Ob}{s:Nat->V}{U:ag}{e:Option Nat}
 (h:∀id Z',aa (bT U e) Z'->Z' id=some ob->U id=none->step P O n f (.r (.ops l::k)) ⟨aU s d (v id),Z'⟩ Q):
 Em P O n f l k d ⟨s,U⟩ Q (some λid=>(v id,Vc.E' (bT U e) id ob)):=by
 rw[aN];refine λid Ls=>h id _ ((aa.refl _).E' ?_) ak Ls;cases e with
 |none=>exact Ls
 |some e=>
  simp only[bT,del];split
  .rfl
  .exact Ls
def yF{P:Program}{n:Nat}{Q:St->Prop}{k:List It}{O:MJ P}{f:Nat}{d:Option Nat}{l:List aK}{v:Nat->V}{ob:Ob}{s:Nat->V}{U:ag}{e:Option Nat}
 (h:∀id Z',aa (bT U e) Z'->Z' id=some ob->U id=none->step P O n f (.d l k) ⟨aU s d (v id),Z'⟩ Q):
 Dy P O n f l k d ⟨s,U⟩ Q (some λid=>(v id,Vc.E' (bT U e) id ob)):=by
 rw[aP];refine λid Ls=>h id _ ((aa.refl _).E' ?_) ak Ls;cases e with
 |none=>exact Ls
 |some e=>
  simp only[bT,del];split
  .rfl
  .exact Ls
def aQ.dst{K U:ag}{e sz:Nat}{v:V}{rows:List V}(h:aQ K U e sz v rows){Z1:ag}(hs:aa U Z1):
 ∃LQ,de Z1 e sz v=some (rows,LQ)/\∀K':ag,aa K' K->∀Z2,aa K' Z2->aa K' (bT Z2 LQ):=by
 rcases h with⟨rfl,rfl⟩|⟨id,rfl,ho,hk⟩
 .exact⟨none,rfl,λ_ _ _ h=>h⟩
 .refine⟨some id,?_,λK' hK Z2 h=>h.Ci (hK.none hk)⟩;simp only[de,hs _ _ ho];rw[aI ⟨trivial,trivial,trivial,Md _⟩,kP]
def aQ.start{K U:ag}{e sz:Nat}:aQ K U e sz .bz []:=.inl ⟨rfl,rfl⟩
def aQ.new{K U:ag}{e sz id:Nat}{rows:List V}{n:Nat}(hn:n=rows.length)(h:U id=some ⟨e,sz,rows⟩)(hk:K id=none):aQ K U e sz (.own id 0 n) rows:=by
 subst hn;exact .inr ⟨id,rfl,h,hk⟩
def aQ.len{K U:ag}{e sz:Nat}{v:V}{rows:List V}(h:aQ K U e sz v rows):eK false v=some (.int .i64 rows.length):=by
 rcases h with⟨rfl,rfl⟩|⟨id,rfl,ho,hk⟩<;>rfl
def aQ.mono{K U Z':ag}{e sz:Nat}{v:V}{rows:List V}(h:aQ K U e sz v rows)(hs:aa U Z'):aQ K Z' e sz v rows:=by
 rcases h with h|⟨id,h1,h2,h3⟩
 .exact .inl h
 .exact .inr ⟨id,h1,hs _ _ h2,h3⟩
def fm{U:ag}{id e sz:Nat}{r:V}(h:U id=some ⟨e,sz,[r]⟩):cC U sz (.own id 0 1)=some [r]:=by
 simp[cC,h]
def Wk.ptr{U Z':ag}(h:aa Z' U){id:Nat}{e sz:Nat}{r:V}(ho:U id=some ⟨e,sz,[r]⟩)(Ls:Z' id=none):Wk U Z' (.ptr id 0 0) (.rp r):=by
 intro I w0 w Ml x hs hr;simp only[C']at hr|-;have MG:=hs.obj id _ ho;split at hr
 .rename_i b NW cap hb;obtain⟨rfl,hz⟩:=hr;rw[hb]at MG;have Lr:b<w.heap.size:=aD.lt hs ⟨id,_,_,_,ho,hb⟩;obtain⟨g1,g2,g3,g4,g5⟩:=MG.rows hz;refine⟨b,_,rfl,Lr,.inr ?_,?_⟩
  .rintro⟨NL,T1,sz'',cap'',e1,e2⟩;have:=hs.inj NL id T1 _ _ _ _ _ _ (h _ _ e1) ho e2 hb;rw[this,Ls]at e1;cases e1
  .simp only[aY]at g5;have:=aY.mono (cU.refl I) (cS.sub w h) (Md _) [r] b 0 NW rfl (by simp only[aY];exact⟨g5.1,g5.2.1,trivial⟩);simp only[aY]at this;simpa using this.2.1
 .exact hr.elim
def Wk.fn{U Z':ag}{f:FuncId}{vs vs':List V}(h:Sy U Z' vs vs'):Wk U Z' (.fn f vs) (.fn f vs'):=by
 intro I w0 w Ml x hs hr;simp only[C']at hr|-;obtain⟨Lz,rfl,h1⟩:=hr;exact⟨Lz,rfl,Sy.all hs h h1⟩
def V.dj(vs:List V):V.cells (.agg vs)=vs:=rfl
def V.dh(k:IntKind)(i:Int):V.cells (.int k i)=[.int k i]:=rfl
def V.cH:V.cells .bz=[.bz]:=rfl
def V.dp(a b c:Nat):V.cells (.own a b c)=[.own a b c]:=rfl
def V.eo(a:Nat)(b:List V):V.cells (.sl a b)=[.sl a b]:=rfl
def V.di(a:List UInt8):V.cells (.str a)=[.str a]:=rfl
def V.cF(a:Bool):V.cells (.bool a)=[.bool a]:=rfl
def V.ek(a:FuncId)(b:List V):V.cells (.fn a b)=[.fn a b]:=rfl
def V.dk(a b c:Nat):V.cells (.ptr a b c)=[.ptr a b c]:=rfl
def V.ez(a:V):V.cells (.rp a)=[.rp a]:=rfl
def V.dn(vs:List V):V.stays (.agg vs)=true:=rfl
def V.dt(k:IntKind)(i:Int):V.stays (.int k i)=true:=rfl
def V.cE:V.stays .bz=true:=rfl
def V.dg(a b c:Nat):V.stays (.own a b c)=true:=rfl
def V.eh(a:Nat)(b:List V):V.stays (.sl a b)=true:=rfl
def V.dq(a:List UInt8):V.stays (.str a)=true:=rfl
def V.cI(a:Bool):V.stays (.bool a)=true:=rfl
def V.ew(a:FuncId)(b:List V):V.stays (.fn a b)=true:=rfl
def V.dr(a b c:Nat):V.stays (.ptr a b c)=true:=rfl
def V.ef(a:V):V.stays (.rp a)=true:=rfl
end Go.Vc
