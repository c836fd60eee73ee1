/- Part 2 of the library of this proof. -/
import Derived.Test.YtjladbkbleghlaaGreatW1
import Derived.TacticsIn
import Derived.RangeFuncNested
import Derived.RangeFuncLeaves
import Derived.Orders
import Derived.OrdersIn
import Derived.Lib.SliceRun
import Derived.WideLaws
import Derived.Attr
import Derived.Laws.RangeString
import Derived.Laws.Runes
set_option linter.all false
set_option maxHeartbeats 8000000
namespace Go.Vc
inductive It where
 |code (c:bM)
 |inBlock (id:Nat)
 |ops (l:List aK)
 |stop (μ:St->Prop)
inductive KI where
 |code (c:Code)
 |inBlock (id:Nat)
 |ops (all:Array Oper) (l:List Oper)
 |stop (μ:St->Prop)
def KI.it(P:Program)(n:Nat):KI->It
 |.code c=>.code (dE P n c)
 |.inBlock id=>.inBlock id
 |.ops all l=>.ops (l.map (bT P n all))
 |.stop μ=>.stop μ
def Fr.eB(F:Fr):Fence:={ Fence.wide with round:=F.rd.map (·.1) }
def kR(F:Fr):F.eB.depth.isSome=true->1<=0:=λh=>by simp[Fr.eB,Fence.wide]at h
def ov{F:Fr}{n:Nat}{P:Program}{f:FuncId}{args:Array Value}{w:World}{R:Ending->World->Prop}(h:Calls P f args w R):CallsIn F.eB n P f args w R:=by
 have h1:CallsIn Fence.wide n P f args w R:=callsIn_wide.2 h;exact h1
def De{F:Fr}{P:Program}{o:Oper}{a:Act}{w:World}{next:Act->World->Prop}{Q:Exit->Act->World->Prop}(hd:∀c,o.op≠.defer c)(h:o.wp P a w next Q):
 o.wpIn F.eB 0 P a w next Q:=by
 refine⟨λ_ _=>trivial,?_⟩;rw[Oper.semAt_eq _ _ _ hd];unfold Oper.wp at h;generalize (execOp a.eval o).run P w=r at*;cases r with
 |ok x w'=>
  cases x<;>simp only[Oper.upon,Oper.uponIn]at h|-<;>first
   |exact h
   |exact⟨kR F,ov h⟩
   |contradiction
   |skip
  exact⟨kR F,λc cs _=>let ⟨v,w',r,s⟩:=h c cs;⟨v,w',r,stepsIn_wide.2 s⟩⟩
 |halt x w'=>cases x<;>simp only[Oper.upon,Oper.uponIn]at h|-<;>first|exact h|contradiction
def j3{P:Program}{n:Nat}{o:Op}(h:P3 P n o≠.bad)(c:Call):o≠.defer c:=λe=>by subst e;exact h rfl
def lI(P:Program)(F:Fr)(Q:St->Prop):List KI->Exit->Act->World->Prop
 |[],e,a,w=>(e=.normal\/e=.ret)/\∃st,Q st/\eG F st a w
 |.code c::k,e,a,w=>match e with
   |.normal=>c.wpIn F.eB 0 P (lI P F Q k) a w
   |e=>lI P F Q k e a w
 |.inBlock id::k,e,a,w=>Exit.inBlock id (lI P F Q k) e a w
 |.ops all l::k,e,a,w=>match e with
   |.normal=>wpListIn F.eB 0 P all (lI P F Q k) l a w
   |e=>lI P F Q k e a w
 |.stop μ::k,e,a,w=>match e with
   |.normal=>∃st,μ st/\eG F st a w
   |e=>lI P F Q k e a w
def ae(P:Program)(n:Nat)(todo:List It)(st:St)(Q:St->Prop):Prop:=
 ∀F:Fr,F.n=n->∀kt:List KI,kt.map (KI.it P n)=todo->∀a w,eG F st a w->lI P F Q kt .normal a w
variable {P:Program} {n:Nat} {st:St} {Q:St->Prop} {k:List It}
def ae.nil(h:Q st):ae P n [] st Q:=by
 intro F _ kt hk a w hs;cases kt with
 |nil=>exact⟨.inl rfl,st,h,hs⟩
 |cons x kt=>simp at hk
def ez{kt:List KI}{x:It}(h:kt.map (KI.it P n)=x::k):∃y RT,kt=y::RT/\y.it P n=x/\RT.map (KI.it P n)=k:=by
 cases kt with
 |nil=>simp at h
 |cons y RT=>simp only[eD,List.cons.injEq]at h;exact⟨y,RT,rfl,h.1,h.2⟩
def gv{y:KI}{c:bM}(h:y.it P n=.code c):∃c0,y=.code c0/\dE P n c0=c:=by
 cases y<;>simp only[KI.it,It.code.injEq,reduceCtorEq]at h;exact⟨_,rfl,h⟩
def ae.skip(h:ae P n k st Q):ae P n (.code .skip::k) st Q:=by
 intro F hn kt hk a w hs;obtain⟨y,RT,rfl,hy,Q8⟩:=ez hk;obtain⟨c0,rfl,hc⟩:=gv hy;have Th:c0=.skip:=by
  cases c0<;>simp only[dE,reduceCtorEq]at hc<;>(try (split at hc;cases hc))<;>(try (split at hc<;>cases hc))<;>try rfl
 subst Th;exact wpIn_skip (h F hn RT Q8 a w hs)
def ae.seq{x y:bM}(h:ae P n (.code x::.code y::k) st Q):ae P n (.code (.seq x y)::k) st Q:=by
 intro F hn kt hk a w hs;obtain⟨z,RT,rfl,hy,Q8⟩:=ez hk;obtain⟨c0,rfl,hc⟩:=gv hy;have Th:∃x0 y0,c0=.seq x0 y0/\dE P n x0=x/\dE P n y0=y:=by
  cases c0<;>simp only[dE,reduceCtorEq,bM.seq.injEq]at hc
  case region=>(split at hc;cases hc);split at hc<;>cases hc
  exact⟨_,_,rfl,hc.1,hc.2⟩
 obtain⟨x0,y0,rfl,rfl,rfl⟩:=Th;refine wpIn_seq (wpIn_mono (h F hn (.code x0::.code y0::RT) (by simp[KI.it,Q8]) a w hs) ?_);intro e a' w' hq;cases e<;>exact hq
def ae.block{id:Nat}{x:bM}(h:ae P n (.code x::.inBlock id::k) st Q):ae P n (.code (.block id x)::k) st Q:=by
 intro F hn kt hk a w hs;obtain⟨z,RT,rfl,hy,Q8⟩:=ez hk;obtain⟨c0,rfl,hc⟩:=gv hy;have Th:∃x0,c0=.block id x0/\dE P n x0=x:=by
  cases c0<;>simp only[dE,reduceCtorEq,bM.block.injEq]at hc
  case region=>(split at hc;cases hc);split at hc<;>cases hc
  obtain⟨rfl,h2⟩:=hc;exact⟨_,rfl,h2⟩
 obtain⟨x0,rfl,rfl⟩:=Th;exact wpIn_block (h F hn (.code x0::.inBlock id::RT) (by simp[KI.it,Q8]) a w hs)
def ae.inBlock{id:Nat}(h:ae P n k st Q):ae P n (.inBlock id::k) st Q:=by
 intro F hn kt hk a w hs;obtain⟨z,RT,rfl,hy,Q8⟩:=ez hk;cases z<;>simp only[KI.it,It.inBlock.injEq,reduceCtorEq]at hy;exact h F hn RT Q8 a w hs
def ae.stop{μ:St->Prop}(h:μ st):ae P n (.stop μ::k) st Q:=by
 intro F hn kt hk a w hs;obtain⟨z,RT,rfl,hy,Q8⟩:=ez hk;cases z<;>simp only[KI.it,It.stop.injEq,reduceCtorEq]at hy;subst hy;exact⟨st,h,hs⟩
def dG(id:Nat):List It->Option (List It)
 |[]=>none
 |.inBlock j::k=>if id=j then some k else dG id k
 |_::k=>dG id k
def lK{F:Fr}{id:Nat}{a:Act}{w:World}:∀{kt:List KI} {k':List It},dG id (kt.map (KI.it P n))=some k'->
 (∀RT,RT.map (KI.it P n)=k'->lI P F Q RT .normal a w)->lI P F Q kt (.exit id) a w
 |[],_,h,_=>by simp[dG]at h
 |.code c::kt,_,h,hq=>lK (kt:=kt) (by simpa[KI.it,dG]using h) hq
 |.ops all l::kt,_,h,hq=>lK (kt:=kt) (by simpa[KI.it,dG]using h) hq
 |.stop μ::kt,_,h,hq=>lK (kt:=kt) (by simpa[KI.it,dG]using h) hq
 |.inBlock j::kt,k',h,hq=>by
  simp only[eD,KI.it,dG]at h;simp only[lI,Exit.inBlock];by_cases hj:id=j
  .rw[aE hj]at h|-;simp only[bf]at h;exact hq kt h
  .rw[aH hj]at h|-;exact lK h hq
def ae.exit{id:Nat}{k':List It}(hp:dG id k=some k')(h:ae P n k' st Q):ae P n (.code (.exit id)::k) st Q:=by
 intro F hn kt hk a w hs;obtain⟨z,RT,rfl,hy,Q8⟩:=ez hk;obtain⟨c0,rfl,hc⟩:=gv hy;have Th:c0=.exit id:=by
  cases c0<;>simp only[dE,reduceCtorEq,bM.exit.injEq]at hc
  case region=>(split at hc;cases hc);split at hc<;>cases hc
  rw[hc]
 subst Th;exact wpIn_exit (lK (n:=n) (by rw[Q8];exact hp) (λkt'' h''=>h F hn kt'' h'' a w hs))
def lH{F:Fr}{a:Act}{w:World}(h:∃st,Q st/\eG F st a w):∀(kt:List KI),lI P F Q kt .ret a w
 |[]=>⟨.inr rfl,h⟩
 |.code _::kt=>lH h kt
 |.inBlock _::kt=>lH h kt
 |.ops _ _::kt=>lH h kt
 |.stop _::kt=>lH h kt
def ae.ret(h:Q st):ae P n (.code .ret::k) st Q:=by
 intro F hn kt hk a w hs;obtain⟨z,RT,rfl,hy,Q8⟩:=ez hk;obtain⟨c0,rfl,hc⟩:=gv hy;have Th:c0=.ret:=by
  cases c0<;>simp only[dE,reduceCtorEq]at hc<;>(try (split at hc;cases hc))<;>(try (split at hc<;>cases hc))<;>try rfl
 subst Th;exact wpIn_ret (lH ⟨st,h,hs⟩ RT)
def ae.cond{c:VX}{x y:bM}{b:Bool}(hc:c.ev st.s=.bool b)(h1:b=true->ae P n (.code x::k) st Q)(h2:b=false->ae P n (.code y::k) st Q):
 ae P n (.code (.cond c x y)::k) st Q:=by
 intro F hn kt hk a w hs;obtain⟨z,RT,rfl,hy,Q8⟩:=ez hk;obtain⟨c0,rfl,Q1⟩:=gv hy;have Th:∃o x0 y0,c0=.cond o x0 y0/\cx n o=c/\dE P n x0=x/\dE P n y0=y:=by
  cases c0<;>simp only[dE,reduceCtorEq,bM.cond.injEq]at Q1
  case region=>(split at Q1;cases Q1);split at Q1<;>cases Q1
  exact⟨_,_,_,rfl,Q1.1,Q1.2.1,Q1.2.2⟩
 obtain⟨o,x0,y0,rfl,rfl,rfl,rfl⟩:=Th;obtain⟨I,PZ⟩:=hs;have he:=cz PZ o;rw[hn,hc]at he;simp only[E']at he;exact wpIn_cond_split he (λhb=>h1 hb F hn (.code x0::RT) (by simp[KI.it,Q8]) a w ⟨I,PZ⟩) (λhb=>h2 hb F hn (.code y0::RT) (by simp[KI.it,Q8]) a w ⟨I,PZ⟩)
def ae.region{l:List aK}(h:ae P n (.ops l::k) st Q):ae P n (.code (.TB false l)::k) st Q:=by
 intro F hn kt hk a w hs;obtain⟨z,RT,rfl,hy,Q8⟩:=ez hk;obtain⟨c0,rfl,Q1⟩:=gv hy;have Th:∃id ops,c0=.region id ops false/\ops.toList.map (bT P n ops)=l:=by
  cases c0<;>simp only[dE,reduceCtorEq]at Q1;rename_i id ops draw;cases draw
  .simp only[Bool.false_and,jz,if_false,bM.TB.injEq,true_and]at Q1;exact⟨id,ops,rfl,Q1⟩
  .simp only[Bool.true_and]at Q1;split at Q1
   .cases Q1
   .split at Q1
    .cases Q1
    .simp at Q1
 obtain⟨id,ops,rfl,rfl⟩:=Th;exact wpIn_region_list (h F hn (.ops ops ops.toList::RT) (by simp[KI.it,Q8]) a w hs)
def ae.HK(h:ae P n k st Q):ae P n (.ops []::k) st Q:=by
 intro F hn kt hk a w hs;obtain⟨z,RT,rfl,hy,Q8⟩:=ez hk;cases z<;>simp only[KI.it,It.ops.injEq,reduceCtorEq,List.map_eq_nil_iff]at hy;subst hy;exact h F hn RT Q8 a w hs
def bB(s:Nat->V):Option (VX×Bool)->Option Bool
 |none=>some true
 |some (x,b)=>match x.ev s with
    |.bool c=>some (c==b)
    |.PN []=>some false
    |.int _ _=>some false
    |_=>none
def pT{F:Fr}{I:Mu}{st:St}{a:Act}{w:World}(hs:dh F I st a w)(all:Array Oper)(o:Oper){b:Bool}(h:bB st.s (bT P F.n all o).g=some b):
 Region.wanted o (yielded all a.tmps)=b:=by
 unfold Region.wanted;cases hg:o.guard with
 |none=>simp[bT,hg,bB]at h;simp[h]
 |some g=>
  obtain⟨j,want⟩:=g;simp only[bT,hg,Option.map_some,bB]at h;cases hd:(all[j]?).bind (·.dst)with
  |none=>
   simp only[hd,VX.ev]at h;simp only[bf]at h;subst h;simp[yielded,hd]
  |some d=>
   simp only[hd]at h;by_cases WY:d<F.n
   .simp only[aE WY,VX.ev]at h;have hr:=hs.slot d WY;have Rp:a.tmps[d]?=some (a.tmps.getD d undef):=by
     rw[Tf,Array.getElem?_eq_getElem (by rw[hs.size];exact WY)];rfl
    simp only[yielded,hd,Option.bind_some,Rp];split at h
    .rename_i c hc;rw[hc]at hr;simp only[E']at hr;rw[hr];simp only[bf]at h;rw[<-h];rfl
    .rename_i hc;rw[hc]at hr;simp only[E',ax]at hr;obtain⟨PO,hv,rfl⟩:=hr;rw[hv];simp only[bf]at h;rw[<-h];rfl
    .rename_i hc;rw[hc]at hr;simp only[E']at hr;rw[hr];simp only[bf]at h;rw[<-h];rfl
    .cases h
   .simp only[aH WY,VX.ev]at h;simp only[bf]at h;have hle:a.tmps.size<=d:=by rw[hs.size];exact Nat.le_of_not_lt WY
    have:a.tmps[d]?=none:=Array.getElem?_eq_none hle;simp[yielded,hd,this,<-h]
def St.put(st:St)(d:Option Nat)(v:V):St:=⟨aZ st.s d v,st.U⟩
def ae.I0{i:aK}{l:List aK}(hw:bB st.s i.g=some true)
 (h:∀(F:Fr),F.n=n->∀(I:Mu) (a:Act) (w:World) (o:Oper) (all:Array Oper),bT P n all o=i->dh F I st a w->
   ∀(next:Act->World->Prop) (Q':Exit->Act->World->Prop),(∀Sh a' w',eG F Sh a' w'->ae P n (.ops l::k) Sh Q->next a' w')->o.wpIn F.eB 0 P a w next Q'):
 ae P n (.ops (i::l)::k) st Q:=by
 intro F hn kt hk a w hs;obtain⟨z,RT,rfl,hy,Q8⟩:=ez hk;cases z<;>simp only[KI.it,It.ops.injEq,reduceCtorEq]at hy;rename_i all os;cases os with
 |nil=>simp at hy
 |cons o os=>
  simp only[eD,List.cons.injEq]at hy;obtain⟨hi,hl⟩:=hy;obtain⟨I,PZ⟩:=hs;have UA:=pT (P:=P) PZ all o (b:=true) (by rw[hn,hi];exact hw);simp only[lI,wpListIn,UA,if_true];refine h F hn I a w o all hi PZ _ _ ?_;intro Sh a' w' hs'' hsem;exact hsem F hn (.ops all os::RT) (by simp[KI.it,hl,Q8]) a' w' hs''
def ae.ins{i:aK}{l:List aK}(hb:i.op≠.bad)(hw:bB st.s i.g=some true)
 (h:∀(F:Fr),F.n=n->∀(I:Mu) (a:Act) (w:World) (o:Oper) (all:Array Oper),bT P n all o=i->dh F I st a w->
   ∀(next:Act->World->Prop) (Q':Exit->Act->World->Prop),(∀Sh a' w',eG F Sh a' w'->ae P n (.ops l::k) Sh Q->next a' w')->o.wp P a w next Q'):
 ae P n (.ops (i::l)::k) st Q:=by
 refine ae.I0 hw λF hn I a w o all hi hs next Q' PL=>De ?_ (h F hn I a w o all hi hs next Q' PL)
 refine j3 (P:=P) (n:=n) ?_;have:i.op=P3 P n o.op:=by rw[<-hi];rfl
 rw[<-this];exact hb
def ae.xZ{i:aK}{l:List aK}(hw:bB st.s i.g=some false)(h:ae P n (.ops l::k) (st.put i.dst (.PN [])) Q):ae P n (.ops (i::l)::k) st Q:=by
 intro F hn kt hk a w hs;obtain⟨z,RT,rfl,hy,Q8⟩:=ez hk;cases z<;>simp only[KI.it,It.ops.injEq,reduceCtorEq]at hy;rename_i all os;cases os with
 |nil=>simp at hy
 |cons o os=>
  simp only[eD,List.cons.injEq]at hy;obtain⟨hi,hl⟩:=hy;obtain⟨I,PZ⟩:=hs;have UA:=pT (P:=P) PZ all o (b:=false) (by rw[hn,hi];exact hw);simp only[lI,wpListIn,UA,jz,if_false];refine⟨λ_ _=>trivial,?_⟩;refine h F hn (.ops all os::RT) (by simp[KI.it,hl,Q8]) _ w ⟨I,?_⟩;have hd:i.dst=o.dst.filter (·<F.n):=by rw[<-hi,hn];rfl
  rw[St.put,hd];exact PZ.pure (by simp only[E'];exact⟨[],rfl,by simp[ax]⟩)
def ae.pure{i:aK}{l:List aK}{v:V}(hw:bB st.s i.g=some true)(hp:fb st.s i.op)(hv:aM st.U st.s i.op=some v)
 (h:ae P n (.ops l::k) (st.put i.dst v) Q):ae P n (.ops (i::l)::k) st Q:=by
 refine ae.ins (λe=>by rw[e]at hv;simp[aM]at hv) hw λF hn I a w o all hi hs next Q' PL=>?_
 subst hn;have PV:i.op=P3 P F.n o.op:=by rw[<-hi];rfl
 have hd:i.dst=o.dst.filter (·<F.n):=by rw[<-hi];rfl
 obtain⟨z,hz,hr⟩:=rK hs o (PV▸hp) (PV▸hv);unfold Oper.wp;rw[hz];refine PL (st.put i.dst v) _ _ ⟨I,?_⟩ h;rw[St.put,hd];exact hs.pure hr
variable {P:Program} {n:Nat} {st:St} {Q:St->Prop} {k:List It}
def Dv{F:Fr}{o:Oper}{a:Act}{w:World}{next next':Act->World->Prop}{R R':Exit->Act->World->Prop}(h:o.wpIn F.eB 0 P a w next R)
 (hn:∀a w,next a w->next' a w)(hq:∀e a w,e≠.normal->R e a w->R' e a w):o.wpIn F.eB 0 P a w next' R':=by
 refine⟨h.1,?_⟩;have h:=h.2;generalize (o.semAt F.eB.round a.eval).run P w=r at*;cases r with
 |ok x w'=>
  cases x<;>simp only[Oper.uponIn]at h|-<;>first
   |exact hn _ _ h
   |exact⟨h.1,CallsIn.mono h.2 (λe ZK he=>by cases e<;>first|exact hn _ _ he|exact hq _ _ _ (by simp) he|(obtain⟨a0,w0,h2⟩:=he;exact⟨a0,w0,hq _ _ _ (by simp) h2⟩))⟩
   |exact⟨h.1,RowsIn.mono h.2 (λ_ _ he=>hn _ _ he)⟩
   |exact⟨h.1,RoundIn.mono h.2 (λe ZK he=>by cases e<;>first|exact hn _ _ he|exact hq _ _ _ (by simp) he|(obtain⟨a0,w0,h2⟩:=he;exact⟨a0,w0,hq _ _ _ (by simp) h2⟩))⟩
   |contradiction
 |halt x w'=>cases x<;>simp only[Oper.uponIn]at h|-<;>first|exact hq _ _ _ (by simp) h|contradiction
def nC{F:Fr}{all:Array Oper}{R R':Exit->Act->World->Prop}(hq:∀e a w,R e a w->R' e a w):∀(l:List Oper) (a:Act) (w:World),wpListIn F.eB 0 P all R l a w->wpListIn F.eB 0 P all R' l a w
 |[],a,w,h=>hq _ _ _ h
 |o::l,a,w,h=>by
  simp only[wpListIn]at h|-;split
  .rename_i hw;simp only[hw,if_true]at h;exact Dv h (nC hq l) (λe a w _=>hq e a w)
  .rename_i hw;simp only[hw]at h;exact⟨h.1,nC hq l _ _ h.2⟩
def Wk(U Z':ag)(v v':V):Prop:=∀(I:Mu) (w0 w:World) (QC:Nat->Prop) (x:Value),Sat w0 QC I U w->E' I (aI I U) w v x->E' I (aI I Z') w v' x
def Wk.refl{U Z':ag}(h:aa Z' U)(v:V):Wk U Z' v v:=λI _ w _ x _ hr=>E'.mono (dd.refl I) (dg.sub w h) (Qt _) v x hr
def Wk.undef{U Z':ag}(v:V):Wk U Z' v .undef:=λ_ _ _ _ _ _ _=>by simp[E']
def Wk.own{U Z':ag}(h:aa Z' U){id off len:Nat}{ob:Ob}(ho:U id=some ob)(M':Z' id=none)(hl:off+len<=ob.rows.length):
 Wk U Z' (.own id off len) (.sl ob.sz ((ob.rows.drop off).take len)):=by
 intro I w0 w QC x hs hr;simp only[E']at hr|-;have hlen:((ob.rows.drop off).take len).length=len:=by simp;omega
 have Q5:=hs.obj id ob ho;split at hr
 .exact hr.elim
 .obtain⟨rfl,rfl,rfl⟩:=hr;exact⟨none,0,by simp,by simp,.inl (by simp)⟩
 .rename_i b sz cap hb;obtain⟨o,c,rfl,h1,h2,h3,hz⟩:=hr;refine⟨_,c,by rw[hlen],by omega,?_⟩;by_cases h0:len=0
  .left;subst h0;simp
  .right;rw[hb]at Q5;obtain⟨g1,g2,g3,g4,g5⟩:=Q5.rows hz;have ho':o=off*sz:=by
    rcases h3 with h3|h3
    .exact h3
    .omega
   subst ho' g1;refine⟨b,_,rfl,?_,g2,?_⟩
   .rintro⟨Sq,ZL,SC,Rl,e1,e2⟩;have:=hs.inj Sq id ZL ob _ _ _ _ _ (h _ _ e1) ho e2 hb;rw[this,M']at e1;cases e1
   .have:=(g5.drop off).take len;rw[kI]at this;exact bg.mono (dd.refl I) (dg.sub w h) (Qt _) _ _ _ _ rfl this
def Yg(U Z':ag):List V->List V->Prop
 |[],[]=>True
 |v::vs,v'::vs'=>Wk U Z' v v'/\Yg U Z' vs vs'
 |_,_=>False
def Yg.all{U Z':ag}{I:Mu}{w0 w:World}{QC:Nat->Prop}(hs:Sat w0 QC I U w):∀{vs vs':List V} {l:List Value},Yg U Z' vs vs'->
 ax I (aI I U) w vs l->ax I (aI I Z') w vs' l
 |[],[],_,_,h=>by simpa[ax]using h
 |v::vs,v'::vs',l,hw,h=>by
  simp only[ax]at h|-;obtain⟨x,xs,rfl,h1,h2⟩:=h;exact⟨x,xs,rfl,hw.1 I w0 w QC x hs h1,Yg.all hs hw.2 h2⟩
 |[],_::_,_,hw,_=>hw.elim
 |_::_,[],_,hw,_=>hw.elim
def Wk.agg{U Z':ag}{vs vs':List V}(h:Yg U Z' vs vs'):Wk U Z' (.agg vs) (.agg vs'):=by
 intro I w0 w QC x hs hr;simp only[E']at hr|-;obtain⟨PO,rfl,h1,h2⟩:=hr;exact⟨PO,rfl,Yg.all hs h h1,h2⟩
def Wk.PN{U Z':ag}{vs vs':List V}(h:Yg U Z' vs vs'):Wk U Z' (.PN vs) (.PN vs'):=by
 intro I w0 w QC x hs hr;simp only[E']at hr|-;obtain⟨PO,rfl,h1⟩:=hr;exact⟨PO,rfl,Yg.all hs h h1⟩
def Lg(st Sh:St):Prop:=aa Sh.U st.U/\∀i,Wk st.U Sh.U (st.s i) (Sh.s i)
def Lg.sat{st Sh:St}(h:Lg st Sh){F:Fr}{a:Act}{w:World}(hs:eG F st a w):eG F Sh a w:=by
 obtain⟨I,hs⟩:=hs;exact⟨I,hs.sat.drop h.1,hs.le,hs.size,hs.book.vY (dg.sub w h.1),λi hi=>h.2 i I _ _ _ _ hs.sat (hs.slot i hi)⟩
def ae.weaken{todo:List It}{Sh:St}(h:Lg st Sh)(hr:ae P n todo Sh Q):ae P n todo st Q:=
 λF hn kt hk a w hs=>hr F hn kt hk a w (h.sat hs)
def vS{F:Fence}{m0:Nat}{c:Code}{Q':Exit->Act->World->Prop}(μ:Nat->Act->World->Prop)
 (round:∀m a w,μ m a w->c.wpIn F m0 P (Exit.then (λa' w'=>∃m',m'<m/\μ m' a' w') Q') a w):∀m a w,μ m a w->(Code.loop c).wpIn F m0 P Q' a w:=by
 intro m a w h b k cs UW hb hr;have key:∀m a w,μ m a w->∃e a' w',Q' e a' w'/\ArrivesIn (Machine.fenced P F) P (lone (b.atR a (.code c::.inLoop c::k)) cs w) b k cs e a' w':=by
  intro m
  induction m using Nat.strongRecOn with
  |_ m ih=>
   intro a w hI;obtain⟨e,a₁,w₁,hq,V9⟩:=round m a w hI b (.inLoop c::k) cs UW hb hr;cases e with
   |normal=>
    obtain⟨m',H',hI'⟩:=hq;obtain⟨e₂,a₂,w₂,hq₂,harr₂⟩:=ih m' H' a₁ w₁ hI';exact⟨e₂,a₂,w₂,hq₂,.of_steps (StepsIn.trans V9 (.one (fenced_calm hb hr rfl) stepR_inLoop)) harr₂⟩
   |exit id=>exact⟨_,a₁,w₁,hq,.pass (x:=.inLoop c) rfl (λ_ _=>.inl (by simp)) V9⟩
   |goto l=>exact⟨_,a₁,w₁,hq,.pass (x:=.inLoop c) rfl (λ_ _=>.inl (by simp)) V9⟩
   |ret=>exact⟨_,a₁,w₁,hq,.pass (x:=.inLoop c) rfl (λ_ _=>.inl (by simp)) V9⟩
   |panic ch=>exact⟨_,a₁,w₁,hq,.pass (x:=.inLoop c) rfl (λ_ _=>.inl (by simp)) V9⟩
   |outgrown=>exact⟨_,a₁,w₁,hq,.pass (x:=.inLoop c) rfl (λ_ _=>.inl (by simp)) V9⟩
 obtain⟨e,a',w',hq,V9⟩:=key m a w h;exact⟨e,a',w',hq,.of_steps (.one (fenced_calm hb hr rfl) stepR_loop) V9⟩
def ae.loop{x:bM}(μ:Nat->St->Prop)(m:Nat)(h0:μ m st)(hr:∀m st,μ m st->ae P n (.code x::.stop (λSh=>∃m',m'<m/\μ m' Sh)::k) st Q):
 ae P n (.code (.loop x)::k) st Q:=by
 intro F hn kt hk a w hs;obtain⟨z,RT,rfl,hy,Q8⟩:=ez hk;obtain⟨c0,rfl,hc⟩:=gv hy;have Th:∃x0,c0=.loop x0/\dE P n x0=x:=by
  cases c0<;>simp only[dE,reduceCtorEq,bM.loop.injEq]at hc
  case region=>(split at hc;cases hc);split at hc<;>cases hc
  exact⟨_,rfl,hc⟩
 obtain⟨x0,rfl,rfl⟩:=Th;refine vS (λm a w=>∃st,μ m st/\eG F st a w) ?_ m a w ⟨st,h0,hs⟩;rintro m a w ⟨st,hi,hs⟩;refine wpIn_mono (hr m st hi F hn (.code x0::.stop (λSh=>∃m',m'<m/\μ m' Sh)::RT) (by simp[KI.it,Q8]) a w hs) ?_;intro e a' w' h;cases e
 case normal=>obtain⟨Sh,⟨m',H',XQ⟩,PZ⟩:=h;exact⟨m',H',Sh,XQ,PZ⟩
 all_goals exact h
variable {P:Program} {n:Nat} {st:St} {Q:St->Prop} {k:List It}
def wL{o:Op}{e sz:Nat}{z:V}(h:P3 P n o=.alloc e sz z):∃i zv,o=.alloc e/\zeroOf P e=some (i,zv)/\i.size=sz/\ofValue zv=z:=by
 cases o
 case alloc t=>
  simp only[P3,cu]at h;split at h
  .rename_i i zv hz;simp only[Qp.alloc.injEq]at h;obtain⟨rfl,h2,h3⟩:=h;exact⟨i,zv,rfl,hz,h2,h3⟩
  ·(repeat' split at h)<;>cases h
 case call c=>
  obtain⟨callee,args,argTypes⟩:=c;cases callee
  case builtin b=>cases b<;>simp only[P3,cu]at h<;>(repeat' split at h)<;>cases h
  all_goals (simp only[P3,cu]at h;cases h)
 case unOp op t x=>cases op<;>simp only[P3,cu]at h<;>cases h
 case makeFunc f a b=>cases f<;>simp only[P3,cu]at h<;>(repeat' split at h)<;>cases h
 all_goals (simp only[P3,cu]at h;(repeat' split at h)<;>cases h)
def wV{o:Op}{sz:Nat}{xa xv:VX}(h:P3 P n o=.store sz xa xv):∃t x y,o=.store t x y/\cb P t=true/\P.cellsOf t=sz/\cx n x=xa/\cx n y=xv:=by
 cases o
 case store t x y=>
  simp only[P3,cu]at h;split at h
  .rename_i hk;simp only[Qp.store.injEq]at h;exact⟨t,x,y,rfl,hk,h.1,h.2.1,h.2.2⟩
  ·(repeat' split at h)<;>cases h
 case call c=>
  obtain⟨callee,args,argTypes⟩:=c;cases callee
  case builtin b=>cases b<;>simp only[P3,cu]at h<;>(repeat' split at h)<;>cases h
  all_goals (simp only[P3,cu]at h;cases h)
 case unOp op t x=>cases op<;>simp only[P3,cu]at h<;>cases h
 case makeFunc f a b=>cases f<;>simp only[P3,cu]at h<;>(repeat' split at h)<;>cases h
 all_goals (simp only[P3,cu]at h;(repeat' split at h)<;>cases h)
def tB{o:Op}{e sz:Nat}{xs:List VX}(h:P3 P n o=.gr e sz xs):∃t len parts i z,o=.buildSlice t len parts/\P.underlying t=some (.slice e)/\zeroOf P e=some (i,z)/\
 i.size=sz/\parts.toList.map (·.1)=List.range len/\len*i.size<=16777216/\parts.toList.map (λp=>cx n p.2)=xs:=by
 cases o
 case buildSlice t len parts=>
  simp only[P3,cu]at h;split at h
  .rename_i e' he;split at h
   .rename_i i z hz;split at h
    .rename_i hc;simp only[Qp.gr.injEq]at h;obtain⟨rfl,h2,h3⟩:=h;exact⟨t,len,parts,i,z,rfl,he,hz,h2,hc.1,hc.2,h3⟩
    .cases h
   .cases h
  .cases h
 case call c=>
  obtain⟨callee,args,argTypes⟩:=c;cases callee
  case builtin b=>cases b<;>simp only[P3,cu]at h<;>(repeat' split at h)<;>cases h
  all_goals (simp only[P3,cu]at h;cases h)
 case unOp op t x=>cases op<;>simp only[P3,cu]at h<;>cases h
 case makeFunc f a b=>cases f<;>simp only[P3,cu]at h<;>(repeat' split at h)<;>cases h
 all_goals (simp only[P3,cu]at h;(repeat' split at h)<;>cases h)
def F2{o:Op}{e sz bytes:Nat}{zv:V}{xn:VX}(h:P3 P n o=.mk e sz bytes zv xn):∃t l c i z,o=.makeSlice t l c/\P.underlying t=some (.slice e)/\zeroOf P e=some (i,z)/\
 i.size=sz/\i.bytes=bytes/\ofValue z=zv/\tm l c=true/\cx n l=xn:=by
 cases o
 case makeSlice t l c=>
  simp only[P3,cu]at h;split at h
  .rename_i e' he;split at h
   .rename_i i z hz;split at h
    .rename_i hc;simp only[Qp.mk.injEq]at h;obtain⟨rfl,h2,h3,h4,h5⟩:=h;exact⟨t,l,c,i,z,rfl,he,hz,h2,h3,h4,hc,h5⟩
    .cases h
   .cases h
  .cases h
 case call c=>
  obtain⟨callee,args,argTypes⟩:=c;cases callee
  case builtin b=>cases b<;>simp only[P3,cu]at h<;>(repeat' split at h)<;>cases h
  all_goals (simp only[P3,cu]at h;cases h)
 case unOp op t x=>cases op<;>simp only[P3,cu]at h<;>cases h
 case makeFunc f a b=>cases f<;>simp only[P3,cu]at h<;>(repeat' split at h)<;>cases h
 all_goals (simp only[P3,cu]at h;(repeat' split at h)<;>cases h)
def yP{o:Op}{e sz bytes:Nat}{zv:V}{xa xb:VX}(h:P3 P n o=.Vq e sz bytes zv xa xb):∃t tn kn x y args argTypes i z,o=.call { callee:=.builtin .append,args:=args,argTypes:=argTypes }/\
 args=#[x,y]/\argTypes=#[t,tn]/\P.underlying t=some (.slice e)/\P.underlying tn=some (.int kn)/\zeroOf P e=some (i,z)/\i.size=sz/\i.bytes=bytes/\ofValue z=zv/\cx n x=xa/\cx n y=xb:=by
 cases o
 case call c=>
  obtain⟨callee,args,argTypes⟩:=c;cases callee
  case value=>simp[P3]at h
  case invoke=>simp[P3]at h
  case builtin b=>
   cases b
   case append=>
    simp only[P3,cu]at h;split at h
    .rename_i x y t t' h1 h2;split at h
     .split at h
      .split at h<;>cases h
      .cases h
     .split at h
      .rename_i e' kn he hn;split at h
       .rename_i i z hz;simp only[Qp.Vq.injEq]at h;obtain⟨rfl,h4,h5,h6,h7,h8⟩:=h;exact⟨t,t',kn,x,y,args,argTypes,i,z,rfl,by apply Array.ext';simpa using h1,by apply Array.ext';simpa using h2,he,hn,hz,h4,h5,h6,h7,h8⟩
       .cases h
      .split at h<;>cases h
      .cases h
    .cases h
   all_goals (simp only[P3,cu]at h;(repeat' split at h)<;>cases h)
 case unOp op t x=>cases op<;>simp only[P3,cu]at h<;>cases h
 case makeFunc f a b=>cases f<;>simp only[P3,cu]at h<;>(repeat' split at h)<;>cases h
 all_goals (simp only[P3,cu]at h;(repeat' split at h)<;>cases h)
def uA{o:Op}{e sz bytes:Nat}{xa xb:VX}(h:P3 P n o=.append e sz bytes xa xb):∃t t' x y args argTypes i z,o=.call { callee:=.builtin .append,args:=args,argTypes:=argTypes }/\
 args=#[x,y]/\argTypes=#[t,t']/\(t'=t\/P.underlying t'=some .string)/\P.underlying t=some (.slice e)/\zeroOf P e=some (i,z)/\i.size=sz/\i.bytes=bytes/\cx n x=xa/\cx n y=xb:=by
 cases o
 case call c=>
  obtain⟨callee,args,argTypes⟩:=c;cases callee
  case value=>simp[P3]at h
  case invoke=>simp[P3]at h
  case builtin b=>
   cases b
   case append=>
    simp only[P3,cu]at h;split at h
    .rename_i x y t t' h1 h2;split at h
     .rename_i htt;subst htt;split at h
      .rename_i e' he;split at h
       .rename_i i z hz;simp only[Qp.append.injEq]at h;obtain⟨rfl,h4,h5,h6,h7⟩:=h;exact⟨t,t,x,y,args,argTypes,i,z,rfl,by apply Array.ext';simpa using h1,by apply Array.ext';simpa using h2,.inl rfl,he,hz,h4,h5,h6,h7⟩
       .cases h
      .cases h
     .split at h
      .split at h<;>cases h
      .rename_i e' he hn;split at h
       .rename_i i z hz;simp only[Qp.append.injEq]at h;obtain⟨rfl,h4,h5,h6,h7⟩:=h;exact⟨t,t',x,y,args,argTypes,i,z,rfl,by apply Array.ext';simpa using h1,by apply Array.ext';simpa using h2,.inr hn,he,hz,h4,h5,h6,h7⟩
       .cases h
      .cases h
    .cases h
   all_goals (simp only[P3,cu]at h;(repeat' split at h)<;>cases h)
 case unOp op t x=>cases op<;>simp only[P3,cu]at h<;>cases h
 case makeFunc f a b=>cases f<;>simp only[P3,cu]at h<;>(repeat' split at h)<;>cases h
 all_goals (simp only[P3,cu]at h;(repeat' split at h)<;>cases h)
def nz{o:Op}{f:VX}{xs:List VX}(h:P3 P n o=.call f xs):∃f0 args argTypes,o=.call { callee:=.value f0,args:=args,argTypes:=argTypes }/\cx n f0=f/\args.toList.map (cx n)=xs:=by
 cases o
 case call c=>
  obtain⟨callee,args,argTypes⟩:=c;cases callee
  case value f0=>simp only[P3,Qp.call.injEq]at h;exact⟨f0,args,argTypes,rfl,h.1,h.2⟩
  case invoke=>simp[P3]at h
  case builtin b=>cases b<;>simp only[P3,cu]at h<;>(repeat' split at h)<;>cases h
 case unOp op t x=>cases op<;>simp only[P3,cu]at h<;>cases h
 case makeFunc f a b=>cases f<;>simp only[P3,cu]at h<;>(repeat' split at h)<;>cases h
 all_goals (simp only[P3,cu]at h;(repeat' split at h)<;>cases h)
def C7{o:Op}{e sz:Nat}{xv:VX}(h:P3 P n o=.box e sz xv):∃x,o=.box e x/\cb P e=true/\P.cellsOf e=sz/\cx n x=xv:=by
 cases o
 case box t x=>
  simp only[P3,cu]at h;split at h
  .rename_i hk;simp only[Qp.box.injEq]at h;obtain⟨rfl,h2,h3⟩:=h;exact⟨x,rfl,hk,h2,h3⟩
  .cases h
 case call c=>
  obtain⟨callee,args,argTypes⟩:=c;cases callee
  case builtin b=>cases b<;>simp only[P3,cu]at h<;>(repeat' split at h)<;>cases h
  all_goals (simp only[P3,cu]at h;cases h)
 case unOp op t x=>cases op<;>simp only[P3,cu]at h<;>cases h
 case makeFunc f a b=>cases f<;>simp only[P3,cu]at h<;>(repeat' split at h)<;>cases h
 all_goals (simp only[P3,cu]at h;(repeat' split at h)<;>cases h)
def El{o:Op}{sz:Nat}{z:V}{xv:VX}(h:P3 P n o=.clear sz z xv):∃x t e args argTypes i zv,o=.call { callee:=.builtin .clear,args:=args,argTypes:=argTypes }/\
 args=#[x]/\argTypes[0]?=some t/\P.underlying t=some (.slice e)/\zeroOf P e=some (i,zv)/\i.size=sz/\ofValue zv=z/\cx n x=xv:=by
 cases o
 case call c=>
  obtain⟨callee,args,argTypes⟩:=c;cases callee
  case builtin b=>
   cases b
   case clear=>
    simp only[P3,cu]at h;split at h
    .rename_i x t h1 h2;split at h
     .rename_i e he;split at h
      .rename_i i zv hz;simp only[Qp.clear.injEq]at h;exact⟨x,t,e,args,argTypes,i,zv,rfl,by apply Array.ext';simpa using h1,h2,he,hz,h.1,h.2.1,h.2.2⟩
      .cases h
     .cases h
    .cases h
   all_goals (simp only[P3,cu]at h;(repeat' split at h)<;>cases h)
  all_goals (simp only[P3,cu]at h;cases h)
 case unOp op t x=>cases op<;>simp only[P3,cu]at h<;>cases h
 case makeFunc f a b=>cases f<;>simp only[P3,cu]at h<;>(repeat' split at h)<;>cases h
 all_goals (simp only[P3,cu]at h;(repeat' split at h)<;>cases h)
def wm{F:Fr}{I:Mu}{a:Act}{w:World}(hs:dh F I st a w){o:Oper}{t:TypeId}{x:Operand}(UT:o.op=.box t x)(hk:cb P t=true)
 (hx:((cx F.n x).ev st.s).cells.length=P.cellsOf t)(Qi:((cx F.n x).ev st.s).stays=true):
 ∃id,st.U id=none/\∃y w' Y',(execOp a.eval o).run P w=.ok (.value y) w'/\
  dh F Y' ⟨aZ st.s (o.dst.filter (·<F.n)) (.ptr id 0 0),C' st.U id ⟨t,P.cellsOf t,[(cx F.n x).ev st.s]⟩⟩ (a.put o.dst y) w':=by
 have QR:=(dU hk).2.2;obtain⟨g1,g2⟩:=(cz hs x).cells Qi;have hl:=(cz hs x).jW Qi;obtain⟨id,M',Y',h1,h2,h3,h4⟩:=hs.sat.renew (row:=none) (World.grownBy_alloc w (.cells (a.eval x).cells t) none) none (.inl rfl) w.heap.size (P.cellsOf t) 1 (a.eval x).cells t [(cx F.n x).ev st.s] (a.eval x).cells.toList (.inr (Qt _))
  (heap_alloc_new w _) QR (by omega) (by simp) (by simp[maxLen]) (by intro r hr;simp at hr;subst hr;exact hx)
  (by simp only[flat,yF,List.flatMap_nil,kL];exact g1) g2 (by intro j u hu;simpa using hu)
 refine⟨id,M',.pointer (some ⟨w.heap.size,0,none⟩),w.alloc (.cells (a.eval x).cells t),Y',?_,hs.step h3 h2 h4 (by simp) (by simp[E',h1];exact QR)⟩;unfold execOp;rw[UT];simp[Instr.box,newVar,newRow]
def dP{all:Array Oper}{o:Oper}{i:aK}(h:bT P n all o=i):P3 P n o.op=i.op/\o.dst.filter (·<n)=i.dst:=by rw[<-h];exact⟨rfl,rfl⟩
def ae.alloc{i:aK}{l:List aK}{e sz:Nat}{z:V}(hw:bB st.s i.g=some true)(ho:i.op=.alloc e sz z)
 (h:∀id,st.U id=none->ae P n (.ops l::k) ⟨aZ st.s i.dst (.ptr id 0 0),C' st.U id ⟨e,sz,[z]⟩⟩ Q):ae P n (.ops (i::l)::k) st Q:=by
 refine ae.ins (by rw[ho];simp) hw λF hn I a w o all hi hs next Q' PL=>?_
 subst hn;obtain⟨PV,hd⟩:=dP hi;rw[ho]at PV;obtain⟨ti,zv,h1,h2,rfl,rfl⟩:=wL PV;obtain⟨id,M',x,w',Y',hx,PZ⟩:=rZ hs h1 h2;unfold Oper.wp;rw[hx];refine PL _ _ _ ⟨Y',?_⟩ (h id M');rw[<-hd];exact PZ
def ae.box{i:aK}{l:List aK}{e sz:Nat}{xv:VX}(hw:bB st.s i.g=some true)(ho:i.op=.box e sz xv)
 (hx:(xv.ev st.s).cells.length=sz)(Qi:(xv.ev st.s).stays=true)
 (h:∀id,st.U id=none->ae P n (.ops l::k) ⟨aZ st.s i.dst (.ptr id 0 0),C' st.U id ⟨e,sz,[xv.ev st.s]⟩⟩ Q):ae P n (.ops (i::l)::k) st Q:=by
 refine ae.ins (by rw[ho];simp) hw λF hn I a w o all hi hs next Q' PL=>?_
 subst hn;obtain⟨PV,hd⟩:=dP hi;rw[ho]at PV;obtain⟨x,h1,h2,rfl,rfl⟩:=C7 PV;obtain⟨id,M',y,w',Y',hy,PZ⟩:=wm hs h1 h2 hx Qi;unfold Oper.wp;rw[hy];refine PL _ _ _ ⟨Y',?_⟩ (h id M');rw[<-hd];exact PZ
def ae.store{i:aK}{l:List aK}{sz:Nat}{xa xv:VX}(hw:bB st.s i.g=some true)(ho:i.op=.store sz xa xv)
 {id r0 c:Nat}(h1:xa.ev st.s=.ptr id r0 c){ob:Ob}(h2:st.U id=some ob){r r':V}(h3:ob.rows[r0]?=some r)(h4:cd r c sz (xv.ev st.s)=some r')
 (h:ae P n (.ops l::k) ⟨aZ st.s i.dst (.PN []),C' st.U id { ob with rows:=ob.rows.set r0 r' }⟩ Q):ae P n (.ops (i::l)::k) st Q:=by
 refine ae.ins (by rw[ho];simp) hw λF hn I a w o all hi hs next Q' PL=>?_
 subst hn;obtain⟨PV,hd⟩:=dP hi;rw[ho]at PV;obtain⟨t,x,y,g1,g2,rfl,rfl,rfl⟩:=wV PV;obtain⟨w',hx,PZ⟩:=sk hs g1 g2 h1 h2 h3 h4;unfold Oper.wp;rw[hx];refine PL _ _ _ ⟨I,?_⟩ h;rw[<-hd];exact PZ
def ae.mkS{i:aK}{l:List aK}{e sz bytes:Nat}{zv:V}{xn:VX}(hw:bB st.s i.g=some true)(ho:i.op=.mk e sz bytes zv xn){m:Int}(hm:xn.ev st.s=.int .i64 m)
 (h0:0<=m)(hb:m.toNat*(bytes+1)<=140737488355328)
 (h:∀id,st.U id=none->ae P n (.ops l::k) ⟨aZ st.s i.dst (.own id 0 m.toNat),C' st.U id ⟨e,sz,List.replicate m.toNat zv⟩⟩ Q):ae P n (.ops (i::l)::k) st Q:=by
 refine ae.ins (by rw[ho];simp) hw λF hn I a w o all hi hs next Q' PL=>?_
 subst hn;obtain⟨PV,hd⟩:=dP hi;rw[ho]at PV;obtain⟨t,l',c,ti,z,h1,h2,h3,rfl,rfl,rfl,h5,rfl⟩:=F2 PV;obtain⟨id,M',x,w',Y',Qh,PZ⟩:=Az hs h1 h5 h2 h3 hm h0 hb;unfold Oper.wp;rw[Qh];refine PL _ _ _ ⟨Y',?_⟩ (h id M');rw[<-hd];exact PZ
def ae.MZ{i:aK}{l:List aK}{e sz bytes:Nat}{zv:V}{xa xn:VX}(hw:bB st.s i.g=some true)(ho:i.op=.Vq e sz bytes zv xa xn)(hx:xa.ev st.s=.aT){kq:IntKind}{m:Int}(hm:xn.ev st.s=.int kq m)
 (h0:0<m)(hb:m.toNat*(bytes+1)<=140737488355328)
 (h:∀id,st.U id=none->ae P n (.ops l::k) ⟨aZ st.s i.dst (.own id 0 m.toNat),C' st.U id ⟨e,sz,List.replicate m.toNat zv⟩⟩ Q):ae P n (.ops (i::l)::k) st Q:=by
 refine ae.ins (by rw[ho];simp) hw λF hn I a w o all hi hs next Q' PL=>?_
 subst hn;obtain⟨PV,hd⟩:=dP hi;rw[ho]at PV;obtain⟨t,tn,kn,x,y,args,argTypes,ti,z,h1,h2,h3,h4,h5,h6,rfl,rfl,rfl,rfl,rfl⟩:=yP PV;obtain⟨id,M',x,w',Y',Qh,PZ⟩:=vy hs h1 h2 h3 h4 h5 h6 hx hm h0 hb;unfold Oper.wp;rw[Qh];refine PL _ _ _ ⟨Y',?_⟩ (h id M');rw[<-hd];exact PZ
def ae.gr{i:aK}{l:List aK}{e sz:Nat}{xs:List VX}(hw:bB st.s i.g=some true)(ho:i.op=.gr e sz xs)
 (hx:∀x∈xs.map (·.ev st.s),x.cells.length=sz/\x.stays=true)
 (h:∀id,st.U id=none->ae P n (.ops l::k) ⟨aZ st.s i.dst (.own id 0 xs.length),C' st.U id ⟨e,sz,xs.map (·.ev st.s)⟩⟩ Q):ae P n (.ops (i::l)::k) st Q:=by
 refine ae.ins (by rw[ho];simp) hw λF hn I a w o all hi hs next Q' PL=>?_
 subst hn;obtain⟨PV,hd⟩:=dP hi;rw[ho]at PV;obtain⟨t,len,parts,ti,z,h1,h2,h3,rfl,h5,h6,rfl⟩:=tB PV;rw[List.map_map]at hx;obtain⟨id,M',x,w',Y',Qh,PZ⟩:=pL hs h1 h2 h3 h5 h6 hx;unfold Oper.wp;rw[Qh];refine PL _ _ _ ⟨Y',?_⟩ (h id M');have hl:parts.size=len:=by have:=congrArg List.length h5;simpa using this
 simp only[du,List.map_map,Array.length_toList,hl,<-hd];exact PZ
def ae.append{i:aK}{l:List aK}{e sz bytes:Nat}{xa xb:VX}(hw:bB st.s i.g=some true)(ho:i.op=.append e sz bytes xa xb)
 {base src:List V}{PU:Option Nat}(h1:cZ st.U e sz (xa.ev st.s)=some (base,PU))(h2:cK st.U sz (xb.ev st.s)=some src)
 (hb:(base.length+src.length)*(bytes+1)<=140737488355328)
 (h:∀id,st.U id=none->ae P n (.ops l::k) ⟨aZ st.s i.dst (.own id 0 (base.length+src.length)),C' (bI st.U PU) id ⟨e,sz,base++src⟩⟩ Q):
 ae P n (.ops (i::l)::k) st Q:=by
 refine ae.ins (by rw[ho];simp) hw λF hn I a w o all hi hs next Q' PL=>?_
 subst hn;obtain⟨PV,hd⟩:=dP hi;rw[ho]at PV;obtain⟨t,t',x,y,args,argTypes,ti,z,g1,g2,g3,g3',g4,g5,rfl,rfl,rfl,rfl⟩:=uA PV;obtain⟨id,M',r,w',Y',hx,PZ⟩:=qh hs g1 g2 g3 g3' g4 g5 h1 h2 hb;unfold Oper.wp;rw[hx];refine PL _ _ _ ⟨Y',?_⟩ (h id M');rw[<-hd];exact PZ
def fW(P:Program)(f:FuncId):Bool:=match P.funcs[f]? with
 |some fn=>fn.name != "runtime.NumGoroutine"&&fn.body.isSome
 |none=>false
def ml{w:World}{f:FuncId}(h:fW P f=true)(args:Array Value):(callFunc f args).run P w=.ok (.enter f args) w:=by
 unfold fW at h;split at h
 .rename_i fn hf;simp only[Ba,bne_iff_ne,ne_eq]at h;cases hb:fn.body with
  |none=>simp[hb]at h
  |some c=>simp[callFunc,hf,h.1,hb]
 .cases h
def aB(P:Program)(f:FuncId)(args:List V)(U:ag)(Post:V->ag->Prop):Prop:=fW P f=true/\sM P f args U Post
def aB.mono{f:FuncId}{args:List V}{U:ag}{Post TQ:V->ag->Prop}(h:aB P f args U Post)(hp:∀r Z',Post r Z'->TQ r Z'):
 aB P f args U TQ:=⟨h.1,h.2.mono hp⟩
def ax.app{I:Mu}{ow:Nat->Prop}{w:World}{vs us:List V}{l m:List Value}(h:ax I ow w vs l)(h':ax I ow w us m):ax I ow w (vs++us) (l++m):=h.append h'
def pc{F:Fr}{I:Mu}{a:Act}{w:World}(hs:dh F I st a w){o:Oper}{f0:Operand}{args:Array Operand}{argTypes:Array TypeId}
 (UT:o.op=.call { callee:=.value f0,args:=args,argTypes:=argTypes }){f:FuncId}{caps:List V}(hf:(cx F.n f0).ev st.s=.fn f caps)
 {Post:V->ag->Prop}(hc:aB P f ((args.toList.map (cx F.n)).map (·.ev st.s)++caps) st.U Post){next:Act->World->Prop}{Q':Exit->Act->World->Prop}
 (PL:∀r Z',Post r Z'->∀a' w',eG F ⟨aZ st.s (o.dst.filter (·<F.n)) r,Z'⟩ a' w'->next a' w'):o.wp P a w next Q':=by
 have SP:=cz hs f0;rw[hf]at SP;simp only[E']at SP;obtain⟨YF,hfv,Vu⟩:=SP;have QM:=(nN hs args.toList).app Vu;have Qq:(execOp a.eval o).run P w=.ok (.enter f ((args.toList.map a.eval++YF).toArray)) w:=by
  unfold execOp;rw[UT];simp only[resolve,hfv,Deferred.ofValue,Sem.run_bind,Sem.run_pure,Result.andThen_ok,invoke,ml hc.1];congr 2;apply Array.ext';simp
 unfold Oper.wp;rw[Qq];simp only[Oper.upon];have RZ:Sat w (aI I st.U) I st.U w:=by
  have h:=hs.sat;exact⟨Qt _,rfl,rfl,rfl,λ_ _ _=>rfl,h.fin,h.inj,h.obj,λb hb _=>hb,h.pj⟩
 refine(hc.2 I w _ RZ QM).mono ?_;rintro e w' ⟨r,Z',Y',val,rfl,hp,hle,PZ,hr⟩;refine PL r Z' hp _ _ ⟨Y',?_⟩;have RU:dg (aI I st.U) (aI Y' Z') w w':=λb hb hn=>⟨λho=>hn (PZ.fresh b ho hb),PZ.same b hb hn⟩
 have h0:=hs.sat;have Qm:Sat F.w0 F.QC Y' Z' w':=by
  refine⟨mq h0.size PZ.size,PZ.os.trans h0.os,PZ.tape.trans h0.tape,PZ.output.trans h0.output,?_,PZ.fin,PZ.inj,PZ.obj,?_,h0.SD⟩
  .intro b hb hn;have h1:¬aI I st.U b:=λho=>hn (h0.fresh b ho hb);rw[PZ.same b (Nat.lt_of_lt_of_le hb h0.size) h1,h0.same b hb hn]
  .intro b hb H';have h1:=PZ.fresh b hb (Nat.lt_of_lt_of_le H' h0.size);exact h0.fresh b h1 H'
 exact hs.step Qm hle RU PZ.size hr
def ae.call{i:aK}{l:List aK}{fx:VX}{xs:List VX}(hw:bB st.s i.g=some true)(ho:i.op=.call fx xs){f:FuncId}{caps:List V}(hf:fx.ev st.s=.fn f caps)
 {Post:V->ag->Prop}(hc:aB P f (xs.map (·.ev st.s)++caps) st.U Post)
 (h:∀r Z',Post r Z'->ae P n (.ops l::k) ⟨aZ st.s i.dst r,Z'⟩ Q):ae P n (.ops (i::l)::k) st Q:=by
 refine ae.ins (by rw[ho];simp) hw λF hn I a w o all hi hs next Q' PL=>?_
 subst hn;obtain⟨PV,hd⟩:=dP hi;rw[ho]at PV;obtain⟨f0,args,argTypes,g1,rfl,rfl⟩:=nz PV;refine pc hs g1 hf hc λr Z' hp a' w' PZ=>PL _ a' w' PZ ?_;rw[hd];exact h r Z' hp
def zt{F:Fr}{I:Mu}{a:Act}{w:World}(hs:dh F I st a w){o:Oper}{f0:Operand}{args:Array Operand}{argTypes:Array TypeId}
 (UT:o.op=.call { callee:=.value f0,args:=args,argTypes:=argTypes }){f:FuncId}{first:List V}(hf:(cx F.n f0).ev st.s=.bm f first)
 {Post:V->ag->Prop}(hc:aB P f (first++(args.toList.map (cx F.n)).map (·.ev st.s)) st.U Post){next:Act->World->Prop}{Q':Exit->Act->World->Prop}
 (PL:∀r Z',Post r Z'->∀a' w',eG F ⟨aZ st.s (o.dst.filter (·<F.n)) r,Z'⟩ a' w'->next a' w'):o.wp P a w next Q':=by
 have SP:=cz hs f0;rw[hf]at SP;simp only[E']at SP;obtain⟨YF,hfv,Vu⟩:=SP;have QM:=Vu.app (nN hs args.toList);have Qq:(execOp a.eval o).run P w=.ok (.enter f ((YF++args.toList.map a.eval).toArray)) w:=by
  unfold execOp;rw[UT];simp only[resolve,hfv,Deferred.ofValue,Sem.run_bind,Sem.run_pure,Result.andThen_ok,invoke,ml hc.1];congr 2;apply Array.ext';simp
 unfold Oper.wp;rw[Qq];simp only[Oper.upon];have RZ:Sat w (aI I st.U) I st.U w:=by
  have h:=hs.sat;exact⟨Qt _,rfl,rfl,rfl,λ_ _ _=>rfl,h.fin,h.inj,h.obj,λb hb _=>hb,h.pj⟩
 refine(hc.2 I w _ RZ QM).mono ?_;rintro e w' ⟨r,Z',Y',val,rfl,hp,hle,PZ,hr⟩;refine PL r Z' hp _ _ ⟨Y',?_⟩;have RU:dg (aI I st.U) (aI Y' Z') w w':=λb hb hn=>⟨λho=>hn (PZ.fresh b ho hb),PZ.same b hb hn⟩
 have h0:=hs.sat;have Qm:Sat F.w0 F.QC Y' Z' w':=by
  refine⟨mq h0.size PZ.size,PZ.os.trans h0.os,PZ.tape.trans h0.tape,PZ.output.trans h0.output,?_,PZ.fin,PZ.inj,PZ.obj,?_,h0.SD⟩
  .intro b hb hn;have h1:¬aI I st.U b:=λho=>hn (h0.fresh b ho hb);rw[PZ.same b (Nat.lt_of_lt_of_le hb h0.size) h1,h0.same b hb hn]
  .intro b hb H';have h1:=PZ.fresh b hb (Nat.lt_of_lt_of_le H' h0.size);exact h0.fresh b h1 H'
 exact hs.step Qm hle RU PZ.size hr
def ae.kS{i:aK}{l:List aK}{fx:VX}{xs:List VX}(hw:bB st.s i.g=some true)(ho:i.op=.call fx xs){f:FuncId}{first:List V}(hf:fx.ev st.s=.bm f first)
 {Post:V->ag->Prop}(hc:aB P f (first++xs.map (·.ev st.s)) st.U Post)
 (h:∀r Z',Post r Z'->ae P n (.ops l::k) ⟨aZ st.s i.dst r,Z'⟩ Q):ae P n (.ops (i::l)::k) st Q:=by
 refine ae.ins (by rw[ho];simp) hw λF hn I a w o all hi hs next Q' PL=>?_
 subst hn;obtain⟨PV,hd⟩:=dP hi;rw[ho]at PV;obtain⟨f0,args,argTypes,g1,rfl,rfl⟩:=nz PV;refine zt hs g1 hf hc λr Z' hp a' w' PZ=>PL _ a' w' PZ ?_;rw[hd];exact h r Z' hp
inductive VR where
 |tmp (x:VX)
 |cell (agg:Bool) (sz:Nat) (x:VX)
 |bad
def yR(P:Program)(n:Nat):ResultVar->VR
 |.tmp t=>.tmp (cx n (.tmp t))
 |.cell t ty=>if cb P ty then .cell (fH P ty) (P.cellsOf ty) (cx n (.tmp t))else .bad
def iU(st:St):VR->Option V
 |.tmp x=>some (x.ev st.s)
 |.cell agg sz x=>cj st.U agg sz (x.ev st.s)
 |.bad=>none
def gM(st:St):List VR->Option (List V)
 |[]=>some []
 |r::rs=>match iU st r with
   |some v=>match gM st rs with
    |some vs=>some (v::vs)
    |none=>none
   |none=>none
def qF(st:St)(l:List VR):Option V:=match gM st l with
 |some [v]=>some v
 |some vs=>some (.PN vs)
 |none=>none
def TF(l:List VR)(st:St)(Post:V->ag->Prop):Prop:=
 ∃v v' Z',qF st l=some v/\aa Z' st.U/\Wk st.U Z' v v'/\Post v' Z'
structure PJ where
 n:Nat
 code:bM
 res:List VR
def cfn(P:Program)(fn:Func):Option PJ:=match fn.body with
 |some c=>some ⟨fn.ntmps,dE P fn.ntmps c,fn.results.toList.map (yR P fn.ntmps)⟩
 |none=>none
def xD(tmps:Array Value):ResultVar->Go.Sem Value
 |.tmp t=>pure (tmps.getD t undef)
 |.cell b t=>do loadVar t (<-asAddr (tmps.getD b undef))
def B3(fn:Func)(tmps:Array Value):results fn tmps=(do
 let vs <-Functor.map List.toArray (fn.results.toList.mapM (xD tmps))
 pure (if h:vs.size=1 then vs[0]else .tuple vs)):=by
 unfold results;rw[Array.mapM_eq_mapM_toList];congr 3
def x4{F:Fr}{I:Mu}{a:Act}{w:World}(hs:dh F I st a w)(r:ResultVar){v:V}(h:iU st (yR P F.n r)=some v):
 ∃x,(xD a.tmps r).run P w=.ok x w/\E' I (aI I st.U) w v x:=by
 cases r with
 |tmp t=>
  simp only[yR,iU,bf]at h;subst h;exact⟨_,rfl,cz hs (.tmp t)⟩
 |cell b t=>
  simp only[yR]at h;split at h
  .rename_i hk;simp only[iU]at h;have hx:=cz hs (.tmp b);obtain⟨z,h1,h2⟩:=wC (P:=P) hs.sat hk hx h;refine⟨z,?_,h2⟩;have he:a.eval (.tmp b)=a.tmps.getD b undef:=rfl;rw[he]at h1;simp only[Instr.loadAt,Sem.run_bind]at h1;simp only[xD,Sem.run_bind];generalize a.tmps.getD b undef=u at*;cases u<;>simp[Instr.sureAddr]at h1;rename_i p;cases p<;>simp[asAddr]at h1|-;exact h1
  .simp[iU]at h
def vV{F:Fr}{I:Mu}{a:Act}{w:World}(hs:dh F I st a w)(fn:Func){v:V}(h:qF st (fn.results.toList.map (yR P F.n))=some v):
 ∃x,(results fn a.tmps).run P w=.ok x w/\E' I (aI I st.U) w v x:=by
 have key:∀(l:List ResultVar) (vs:List V),gM st (l.map (yR P F.n))=some vs->
  ∃xs,(l.mapM (xD a.tmps)).run P w=.ok xs w/\ax I (aI I st.U) w vs xs:=by
  intro l
  induction l with
  |nil=>intro vs h;simp only[List.map_nil,gM,bf]at h;subst h;exact⟨[],rfl,by simp[ax]⟩
  |cons r l ih=>
   intro vs h;simp only[eD,gM]at h;split at h
   .rename_i v hv;split at h
    .rename_i vs' Yz;simp only[bf]at h;subst h;obtain⟨x,h1,h2⟩:=x4 (P:=P) hs r hv;obtain⟨xs,h3,h4⟩:=ih vs' Yz;refine⟨x::xs,?_,by simp only[ax];exact⟨x,xs,rfl,h2,h4⟩⟩;rw[List.mapM_cons];simp only[Sem.run_bind];rw[h1];simp only[Result.andThen_ok];rw[h3];simp
    .cases h
   .cases h
 unfold qF at h;cases Qz:gM st (fn.results.toList.map (yR P F.n))with
 |none=>simp[Qz]at h
 |some vs=>
  obtain⟨xs,h1,h2⟩:=key _ _ Qz;have Qq:(results fn a.tmps).run P w=.ok (if hl:xs.toArray.size=1 then xs.toArray[0]else .tuple xs.toArray) w:=by
   rw[B3];simp only[Sem.run_bind,Sem.run_map];rw[h1];simp
  rw[Qz]at h
  match vs,h,h2 with
  |[],h,h2=>
   simp only[ax]at h2;subst h2;simp only[bf]at h;subst h;exact⟨_,Qq,by simp[E',ax]⟩
  |[u],h,h2=>
   simp only[ax]at h2;obtain⟨x,xs',rfl,h3,rfl⟩:=h2;simp only[bf]at h;subst h;exact⟨_,Qq,by simpa using h3⟩
  |u1::u2::us,h,h2=>
   simp only[bf]at h;subst h;have hlen:=h2.length;refine⟨_,Qq,?_⟩;rw[dif_neg (by simp[hlen])];simp only[E'];exact⟨xs,rfl,h2⟩
def bO(args:List V):Nat->V:=λi=>args.getD i (.PN [])
def dh.Le{F:Fr}{I:Mu}{a:Act}{w:World}(hs:dh F I st a w){d:Deferred}{ds:List Deferred}(hd:a.defers=d::ds):
 ∃D w',d.target=.collected D/\(Instr.takeDeferred D).run P w=.ok [] w'/\dh F I st { a with defers:=ds } w':=by
 obtain⟨Ds,h1,h2,h3⟩:=hs.book.marks;rw[hd]at h1;cases Ds with
 |nil=>simp at h1
 |cons D Ds=>
  simp only[eD,List.cons.injEq]at h1;obtain⟨rfl,rfl⟩:=h1;obtain⟨g1,g2,g3⟩:=h3 D (by simp);simp only[List.nodup_cons]at h2;refine⟨D,w.putObj D (.deferred none),rfl,run_takeDeferred g2,?_⟩;have P':∀b,b≠D->(w.putObj D (.deferred none)).heap[b]?=w.heap[b]?:=λb hb=>World.putObj_heap_other hb;have hk:qo (aI I st.U) (aI I st.U) w (w.putObj D (.deferred none)):=λb _ hn=>⟨hn,λoff x hx=>by
   by_cases hb:b=D
   .subst hb;simp[World.cell?,g2]at hx
   .exact eN (P' b hb) off x hx⟩
  have hz:w.heap.size<=(w.putObj D (.deferred none)).heap.size:=by simp
  refine⟨⟨by simpa using hs.sat.size,hs.sat.os,hs.sat.tape,hs.sat.output,λb hb hn=>(P' b (by omega)).trans (hs.sat.same b hb hn),hs.sat.fin,hs.sat.inj,λid o ho=>?_,hs.sat.fresh,hs.sat.SD⟩,
   hs.le,hs.size,⟨λl r e=>?_,Ds,rfl,h2.2,λD' hD'=>?_⟩,λi hi=>E'.cc (dd.refl I) hk hz _ _ (hs.slot i hi)⟩
  .refine(hs.sat.obj id o ho).cc (dd.refl I) hk hz λb sz cap hp=>P' b ?_;rintro rfl;exact g3 ⟨id,o,sz,cap,ho,hp⟩
  .obtain⟨q1,q2⟩:=hs.book.rnd l r e;refine⟨(P' l ?_).trans q1,q2⟩;rintro rfl;rw[g2]at q1;cases q1
  .obtain⟨q1,q2,q3⟩:=h3 D' (by simp[hD']);refine⟨q1,(P' D' ?_).trans q2,q3⟩;rintro rfl;exact h2.1 hD'
def xr{F:Fr}{I:Mu}{fn:Func}{R:Ending->World->Prop}:∀(ds:List Deferred) (a:Act) (w:World),a.defers=ds->dh F I st a w->
 (∀a' w',a'.tmps=a.tmps->dh F I st a' w'->∃v,(results fn a'.tmps).run P w'=.ok v w'/\R (.returned v) w')->LeavesInM F.eB 0 P fn a.tmps R ds .returning w
 |[],a,w,_,hs,h=>by
  obtain⟨v,h1,h2⟩:=h a w rfl hs;exact⟨v,h1,h2⟩
 |d::ds,a,w,hd,hs,h=>by
  obtain⟨D,w',h1,h2,h3⟩:=hs.Le (P:=P) hd;exact⟨by simp,.inl ⟨D,w',h1,h2,xr ds { a with defers:=ds } w' rfl h3 (λa' w' e PZ=>h a' w' e PZ)⟩⟩
def sM.nI{f:FuncId}{fn:Func}{vf:PJ}(hf:P.funcs[f]?=some fn)(hv:cfn P fn=some vf){args:List V}{U:ag}{Post:V->ag->Prop}(hlen:args.length<=vf.n)
 (h:ae P vf.n [.code vf.code] ⟨bO args,U⟩ λst=>TF vf.res st Post):sM P f args U Post:=by
 intro I w PO RZ hr;unfold cfn at hv;cases hb:fn.body with
 |none=>simp[hb]at hv
 |some c=>
  simp only[hb,bf]at hv;subst hv;simp only at h hlen;have hl:=hr.length;refine callsIn_wide.1 (callsIn_of_wp_marks (n:=0) hf hb trivial ?_ rfl);have hs:dh ⟨w,aI I U,I,fn.ntmps,none⟩ I ⟨bO args,U⟩ { tmps:=PO.toArray++Array.replicate (fn.ntmps-PO.toArray.size) undef,defers:=[] } w:=by
   refine⟨RZ,dd.refl I,by simp;omega,⟨λ_ _ e=>by simp at e,[],rfl,.nil,by simp⟩,λi hi=>?_⟩;simp only[bO];by_cases H':i<args.length
   .have hv:args[i]?=some (args.getD i (.PN [])):=by simp[List.getD,Tq H']
    obtain⟨x,hx,hrx⟩:=hr.get hv;rw[Tf,Array.getElem?_append_left (by simp;omega)];simp only[List.getElem?_toArray,hx,Option.getD_some];exact hrx
   .have hv:args.getD i (.PN [])=.PN []:=by simp[List.getD,rC (Nat.le_of_not_lt H')]
    rw[hv,Tf,Array.getElem?_append_right (by simp;omega)];simp only[E'];refine⟨[],?_,by simp[ax]⟩;rw[Array.getElem?_replicate];split<;>rfl
  have RO:=h ⟨w,aI I U,I,fn.ntmps,none⟩ rfl [.code c] rfl _ w ⟨I,hs⟩;refine wpIn_mono (F:=Fence.wide) RO ?_;rintro e a' w' ⟨he,st,⟨v,v',Z',UX,G',hwk,hpost⟩,Y',PZ⟩;have Qm:LeavesInM Fence.wide 0 P fn a'.tmps (λe w'=>∃r Z' Y' val,e=Ending.returned val/\Post r Z'/\dd I Y'/\Sat w (aI I U) Y' Z' w'/\E' Y' (aI Y' Z') w' r val) a'.defers .returning w':=by
   refine xr (F:=⟨w,aI I U,I,fn.ntmps,none⟩) a'.defers a' w' rfl PZ λa1 w1 _ Sn=>?_;obtain⟨x,hx,hrx⟩:=vV (P:=P) Sn fn UX;exact⟨x,hx,v',Z',Y',x,rfl,hpost,Sn.le,Sn.sat.drop G',hwk Y' _ _ _ _ Sn.sat hrx⟩
  rcases he with rfl|rfl<;>exact Qm
def aB.nI{f:FuncId}{fn:Func}{vf:PJ}(hf:P.funcs[f]?=some fn)(hv:cfn P fn=some vf)(QG:fW P f=true){args:List V}{U:ag}{Post:V->ag->Prop}(hlen:args.length<=vf.n)
 (h:ae P vf.n [.code vf.code] ⟨bO args,U⟩ λst=>TF vf.res st Post):aB P f args U Post:=⟨QG,.nI hf hv hlen h⟩
structure Fo(P:Program)(f:FuncId)(fn:Func)(vf:PJ):Prop where
 a:P.funcs[f]?=some fn
 b:cfn P fn=some vf:=by kernel_rfl
 c:fW P f=true:=by kernel_rfl
def Fo.r{P:Program}{f:FuncId}{fn:Func}{vf:PJ}(h:Fo P f fn vf){args:List V}{U:ag}{Post:V->ag->Prop}(hlen:args.length<=vf.n)
 (k:ae P vf.n [.code vf.code] ⟨bO args,U⟩ λst=>TF vf.res st Post):aB P f args U Post:=aB.nI h.a h.b h.c hlen k
variable {P:Program} {n:Nat}
def cA(U:ag)(sz:Nat)(xa xv:V):Option ag:=
 match xa with
 |.ptr id i c=>match U id with
  |some ob=>match ob.rows[i]? with
   |some r=>match cd r c sz xv with
    |some r'=>some (C' U id ⟨ob.elem,ob.sz,ob.rows.set i r'⟩)
    |none=>none
   |none=>none
  |none=>none
 |_=>none
def QS(s:Nat->V)(U:ag):Qp->Option (Nat->V×ag)
 |.alloc e sz z=>some λid=>(.ptr id 0 0,C' U id ⟨e,sz,[z]⟩)
 |.box e sz x=>if(x.ev s).cells.length=sz/\(x.ev s).stays=true then some λid=>(.ptr id 0 0,C' U id ⟨e,sz,[x.ev s]⟩)else none
 |.gr e sz xs=>if(xs.map (·.ev s)).all (λx=>decide (x.cells.length=sz)&&x.stays)then some λid=>(.own id 0 xs.length,C' U id ⟨e,sz,xs.map (·.ev s)⟩)else none
 |.append e sz bytes xa xb=>match cZ U e sz (xa.ev s),cK U sz (xb.ev s)with
  |some (base,PU),some src=>if(base.length+src.length)*(bytes+1)<=140737488355328 then
     some λid=>(.own id 0 (base.length+src.length),C' (bI U PU) id ⟨e,sz,base++src⟩)else none
  |_,_=>none
 |.mk e sz bytes z x=>match x.ev s with
  |.int .i64 m=>if 0<=m/\m.toNat*(bytes+1)<=140737488355328 then some λid=>(.own id 0 m.toNat,C' U id ⟨e,sz,List.replicate m.toNat z⟩)else none
  |_=>none
 |.Vq e sz bytes z y x=>match y.ev s,x.ev s with
  |.aT,.int _ m=>if 0<m/\m.toNat*(bytes+1)<=140737488355328 then some λid=>(.own id 0 m.toNat,C' U id ⟨e,sz,List.replicate m.toNat z⟩)else none
  |_,_=>none
 |_=>none
def TO(P:Program)(dst:Option Nat)(op:Qp)(x:St)(K:St->Prop):Prop:=
 match bx op with
 |0=>fb x.s op/\∃v,aM x.U x.s op=some v/\K ⟨aZ x.s dst v,x.U⟩
 |1=>match op with
  |.call fx xs=>∃f caps v,fx.ev x.s=.fn f caps/\(∀Z1,aa x.U Z1->aB P f (xs.map (·.ev x.s)++caps) Z1 (λr Z'=>r=v/\Z'=Z1))/\K ⟨aZ x.s dst v,x.U⟩
  |_=>False
 |2=>match op with
  |.store sz xa xv=>∃Z',cA x.U sz (xa.ev x.s) (xv.ev x.s)=some Z'/\K ⟨aZ x.s dst (.PN []),Z'⟩
  |_=>False
 |3=>∃g,QS x.s x.U op=some g/\∀id,x.U id=none->K ⟨aZ x.s dst (g id).1,(g id).2⟩
 |_=>False
def T(P:Program)(i:aK)(x:St)(K:St->Prop):Prop:=
 match bB x.s i.g with
 |some true=>TO P i.dst i.op x K
 |some false=>K ⟨aZ x.s i.dst (.PN []),x.U⟩
 |none=>False
def TO.mono{dst:Option Nat}{op:Qp}{x:St}{K K':St->Prop}(hk:∀x,K x->K' x)(h:TO P dst op x K):TO P dst op x K':=by
 unfold TO at*;split<;>rename_i ho<;>simp only[ho]at h
 .obtain⟨h1,v,h2,h3⟩:=h;exact⟨h1,v,h2,hk _ h3⟩
 .split at h
  .obtain⟨f,caps,v,h1,h2,h3⟩:=h;exact⟨f,caps,v,h1,h2,hk _ h3⟩
  .exact h.elim
 .split at h
  .obtain⟨Z',h1,h2⟩:=h;exact⟨Z',h1,hk _ h2⟩
  .exact h.elim
 .obtain⟨g,h1,h2⟩:=h;exact⟨g,h1,λid M'=>hk _ (h2 id M')⟩
def T.mono{i:aK}{x:St}{K K':St->Prop}(hk:∀x,K x->K' x)(h:T P i x K):T P i x K':=by
 unfold T at*;split<;>rename_i ho<;>simp only[ho]at h
 .exact h.mono hk
 .exact hk _ h
def T'(U:ag):Prop:=∀N,∃id,N<=id/\U id=none
def T'.C'{U:ag}(h:T' U)(id:Nat)(o:Ob):T' (C' U id o):=λN=>by
 obtain⟨i,h1,h2⟩:=h (max N (id+1));exact⟨i,by omega,by simp[Vc.C',show i≠id by omega,h2]⟩
def T'.bI{U:ag}(h:T' U)(o:Option Nat):T' (bI U o):=λN=>by
 obtain⟨i,h1,h2⟩:=h N;refine⟨i,h1,?_⟩;cases o with
 |none=>exact h2
 |some j=>simp only[Vc.bI,del];split<;>simp_all
def eG.inf{F:Fr}{st:St}{a:Act}{w:World}(h:eG F st a w):T' st.U:=by
 obtain⟨I,h⟩:=h;obtain⟨N,hN⟩:=h.sat.fin;intro M;refine⟨max N M,by omega,?_⟩;cases ho:st.U (max N M)with
 |none=>rfl
 |some o=>
  have:=h.sat.obj _ o ho;rw[hN _ (by omega)]at this;exact this.elim
def Iw{s:Nat->V}{U:ag}(h:T' U){op:Qp}{g:Nat->V×ag}(he:QS s U op=some g)(id:Nat):T' (g id).2:=by
 unfold QS at he;split at he
 .simp only[bf]at he;subst he;exact h.C' _ _
 .split at he
  .simp only[bf]at he;subst he;exact h.C' _ _
  .cases he
 .split at he
  .simp only[bf]at he;subst he;exact h.C' _ _
  .cases he
 .split at he
  .split at he
   .simp only[bf]at he;subst he;exact(h.bI _).C' _ _
   .cases he
  .cases he
 .split at he
  .split at he
   .simp only[bf]at he;subst he;exact h.C' _ _
   .cases he
  .cases he
 .split at he
  .split at he
   .simp only[bf]at he;subst he;exact h.C' _ _
   .cases he
  .cases he
 .cases he
def Bv{U Z':ag}(h:T' U){sz:Nat}{a v:V}(he:cA U sz a v=some Z'):T' Z':=by
 unfold cA at he;split at he
 .split at he
  .split at he
   .split at he
    .simp only[bf]at he;subst he;exact h.C' _ _
    .cases he
   .cases he
  .cases he
 .cases he
def TO.inf{dst:Option Nat}{op:Qp}{x:St}{K:St->Prop}(hi:T' x.U)(h:TO P dst op x K):TO P dst op x λx'=>T' x'.U/\K x':=by
 unfold TO at*;split<;>rename_i ho<;>simp only[ho]at h
 .obtain⟨h1,v,h2,h3⟩:=h;exact⟨h1,v,h2,hi,h3⟩
 .split at h
  .obtain⟨f,caps,v,h1,h2,h3⟩:=h;exact⟨f,caps,v,h1,h2,hi,h3⟩
  .exact h.elim
 .split at h
  .obtain⟨Z',h1,h2⟩:=h;exact⟨Z',h1,Bv hi h1,h2⟩
  .exact h.elim
 .obtain⟨g,h1,h2⟩:=h;exact⟨g,h1,λid M'=>⟨Iw hi h1 id,h2 id M'⟩⟩
def T.inf{i:aK}{x:St}{K:St->Prop}(hi:T' x.U)(h:T P i x K):T P i x λx'=>T' x'.U/\K x':=by
 unfold T at*;split<;>rename_i ho<;>simp only[ho]at h
 .exact h.inf hi
 .exact⟨hi,h⟩
def FB{s:Nat->V}{d:Option Nat}{v:V}{x:VX}(h:∀t,d=some t->x.Is≠some t):x.ev (aZ s d v)=x.ev s:=by
 cases d with
 |none=>rfl
 |some t=>
  cases x with
  |c _=>rfl
  |t u=>
   simp only[VX.ev,aZ];have:=h t rfl;simp only[VX.Is,ne_eq,bf]at this;rw[aH this]
def qp{s s':Nat->V}{l:List VX}(h:∀x∈l,x.ev s=x.ev s'):l.map (·.ev s)=l.map (·.ev s'):=List.map_congr_left h
def qk{s s':Nat->V}{l:Option VX}(h:∀x∈l.toList,x.ev s=x.ev s'):l.map (·.ev s)=l.map (·.ev s'):=by
 cases l with
 |none=>rfl
 |some x=>simp[h x (by simp)]
def su{s s':Nat->V}{U:ag}{op:Qp}(h:∀x∈op.xs,x.ev s=x.ev s'):aM U s op=aM U s' op/\(fb s op↔fb s' op):=by
 cases op<;>simp only[Qp.xs,dc,List.not_mem_nil,or_false,forall_eq_or_imp,forall_eq,ei]at h<;>
  simp only[aM,fb,h,and_true,and_self]
 case slice Sr x lo hi mx=>
  rw[qk (l:=lo) (λy hy=>h.2 y (.inl (.inl hy))),qk (l:=hi) (λy hy=>h.2 y (.inl (.inr hy))),qk (l:=mx) (λy hy=>h.2 y (.inr hy))]
 case Vp x lo hi=>
  rw[qk (l:=lo) (λy hy=>h.2 y (.inl hy)),qk (l:=hi) (λy hy=>h.2 y (.inr hy))]
 case WN f xs=>rw[qp h]
 case more m xs=>
  by_cases hb:∃f,m=.mkB f
  .obtain⟨f,rfl⟩:=hb;have e:=qp h;cases xs with
   |nil=>rfl
   |cons x xs=>cases xs<;>exact congrArg (λl=>some (V.bm f l)) e
  cases xs with
  |nil=>cases m<;>rfl
  |cons x xs=>
   have hx:=h x (by simp);cases xs with
   |nil=>cases m<;>first|rfl|exact absurd ⟨_,rfl⟩ hb|simp only[hx]
   |cons y ys=>cases m<;>first|rfl|exact absurd ⟨_,rfl⟩ hb
 case build z ps=>
  have:(ps.map λp=>(p.1,p.2.1,p.2.2.ev s))=ps.map λp=>(p.1,p.2.1,p.2.2.ev s'):=List.map_congr_left λp hp=>by
   rw[h _ (fM.2 ⟨p,hp,rfl⟩)]
  rw[this]
def fK{s s':Nat->V}{U:ag}{op:Qp}(h:∀x∈op.xs,x.ev s=x.ev s'):QS s U op=QS s' U op:=by
 cases op<;>simp only[Qp.xs,dc,List.not_mem_nil,or_false,forall_eq_or_imp,forall_eq,ei]at h<;>
  simp only[QS,h]
 case gr e sz xs=>rw[qp h]
def AQ{s:Nat->V}{U Z':ag}{op:Qp}(h:k0 op=true):aM U s op=aM Z' s op:=by
 cases op
 case more m xs=>
  cases xs with
  |nil=>cases m<;>rfl
  |cons x xs=>cases xs<;>cases m<;>rfl
 all_goals first|rfl|simp[k0]at h
variable {P:Program} {n:Nat}
def apart_spec{A B:aK}(h:Br A B=true):(∀d,A.dst=some d->d∉B.lF)/\(∀d,B.dst=some d->d∉A.lF)/\(∀d,A.dst=some d->B.dst≠some d):=by
 simp only[Br,Ba]at h;obtain⟨h1,h2⟩:=h;refine⟨λd hd=>?_,λd hd=>?_,λd hd=>?_⟩
 .rw[hd]at h1;simp at h1;exact h1.1
 .rw[hd]at h2;simpa using h2
 .rw[hd]at h1;simp at h1;exact h1.2
def Eg{s:Nat->V}{a b:Option Nat}{u v:V}(h:∀d,a=some d->b≠some d):aZ (aZ s a u) b v=aZ (aZ s b v) a u:=by
 cases a with
 |none=>rfl
 |some x=>
  cases b with
  |none=>rfl
  |some y=>
   have P':y≠x:=λe=>h x rfl (by rw[e]);funext i;simp only[aZ];by_cases h1:i=y<;>by_cases h2:i=x<;>simp_all
def CY{i:aK}{x:VX}(hx:x∈i.op.xs){t:Nat}(ht:x.Is=some t):t∈i.lF:=
 List.mem_filterMap.2 ⟨x,List.mem_append_left _ hx,ht⟩
def hU{i:aK}{d:Option Nat}{v:V}(h:∀t,d=some t->t∉i.lF)(s:Nat->V):∀x∈i.op.xs,x.ev (aZ s d v)=x.ev s:=
 λ_ hx=>FB λt ht e=>h t ht (CY hx e)
def cE{i:aK}{d:Option Nat}{v:V}(h:∀t,d=some t->t∉i.lF)(s:Nat->V):bB (aZ s d v) i.g=bB s i.g:=by
 cases hg:i.g with
 |none=>rfl
 |some g=>
  obtain⟨x,b⟩:=g;have:x.ev (aZ s d v)=x.ev s:=FB λt ht e=>h t ht (List.mem_filterMap.2 ⟨x,List.mem_append_right _ (by simp[hg]),e⟩);simp only[bB,this]
def QO(P:Program)(op:Qp)(s:Nat->V)(U:ag)(v:V):Prop:=
 match bx op with
 |0=>fb s op/\aM U s op=some v
 |1=>match op with
  |.call fx xs=>∃f caps,fx.ev s=.fn f caps/\∀Z1,aa U Z1->aB P f (xs.map (·.ev s)++caps) Z1 (λr Z'=>r=v/\Z'=Z1)
  |_=>False
 |_=>False
def QY(P:Program)(i:aK)(s:Nat->V)(U:ag)(v:V):Prop:=
 (bB s i.g=some true/\QO P i.op s U v)\/(bB s i.g=some false/\v=.PN [])
def cN{i:aK}(hq:fN i=true){x:St}{K:St->Prop}:T P i x K↔∃v,QY P i x.s x.U v/\K ⟨aZ x.s i.dst v,x.U⟩:=by
 simp only[fN,Sp]at hq;unfold T QY;cases hw:bB x.s i.g with
 |none=>simp
 |some b=>
  cases b
  .simp
  .simp only[true_and,bf,Bool.true_eq_false,false_and,or_false];unfold TO QO;have:bx i.op=0\/bx i.op=1:=by omega
   rcases this with h0|h0<;>simp only[h0]
   .constructor
    .rintro⟨h1,v,h2,h3⟩;exact⟨v,⟨h1,h2⟩,h3⟩
    .rintro⟨v,⟨h1,h2⟩,h3⟩;exact⟨h1,v,h2,h3⟩
   .cases PV:i.op<;>simp[bx,PV]at h0|-;constructor
    .rintro⟨f,caps,h1,v,h2,h3⟩;exact⟨v,⟨f,caps,h1,h2⟩,h3⟩
    .rintro⟨v,⟨f,caps,h1,h2⟩,h3⟩;exact⟨f,caps,h1,v,h2,h3⟩
def tJ{op:Qp}{s s':Nat->V}{U:ag}{v:V}(h:∀x∈op.xs,x.ev s=x.ev s')(hq:QO P op s U v):QO P op s' U v:=by
 unfold QO at*;by_cases h0:bx op=0
 .obtain⟨h1,h2⟩:=su (U:=U) h;simp only[h0]at hq|-;exact⟨h2.1 hq.1,h1▸hq.2⟩
 .by_cases h1:bx op=1
  .simp only[h1]at hq|-;cases op<;>simp only[]at hq<;>first|exact hq.elim|skip
   rename_i fx xs;obtain⟨f,caps,g1,g2⟩:=hq;refine⟨f,caps,?_,?_⟩
   .rw[<-h fx (by simp[Qp.xs])];exact g1
   .rw[<-qp (s:=s) (s':=s') λx hx=>h x (by simp[Qp.xs,hx])];exact g2
  .exfalso;revert hq;split<;>simp_all
def gi{i:aK}{s:Nat->V}{U:ag}{v u:V}{d:Option Nat}(h:∀t,d=some t->t∉i.lF):QY P i (aZ s d u) U v↔QY P i s U v:=by
 unfold QY;rw[cE h];constructor
 .rintro(⟨h1,h2⟩|h1)
  .exact .inl ⟨h1,tJ (hU h s) h2⟩
  .exact .inr h1
 .rintro(⟨h1,h2⟩|h1)
  .exact .inl ⟨h1,tJ (λx hx=>(hU h s x hx).symm) h2⟩
  .exact .inr h1
def mm{op:Qp}(h:k0 op=true):bx op=0:=by
 cases op
 case more m xs=>cases m<;>simp[k0,bx]at h|-
 all_goals simp[k0,bx]at h|-
def j8{i:aK}(hf:k0 i.op=true){s:Nat->V}{U Z':ag}{v:V}(h:QY P i s U v):QY P i s Z' v:=by
 rcases h with⟨h1,h2⟩|h1
 .refine .inl ⟨h1,?_⟩;unfold QO at*;simp only[mm hf]at*;exact⟨h2.1,by rw[<-AQ (U:=U) hf];exact h2.2⟩
 .exact .inr h1
def Mh{i:aK}(hf:k0 i.op=true){s:Nat->V}{U:ag}{v v':V}(h:QY P i s U v)(h':QY P i s U v'):v=v':=by
 rcases h with⟨h1,h2⟩|⟨h1,h2⟩<;>rcases h' with⟨g1,g2⟩|⟨g1,g2⟩
 .unfold QO at*;simp only[mm hf]at*;have:=h2.2.symm.trans g2.2;simpa using this
 .rw[h1]at g1;cases g1
 .rw[h1]at g1;cases g1
 .rw[h2,g2]
def gU{i:aK}(he:sU i=true){x:St}{K:St->Prop}:T P i x K↔
 (bB x.s i.g=some false/\K ⟨aZ x.s i.dst (.PN []),x.U⟩)\/
 (bB x.s i.g=some true/\((∃sz xa xv Z',i.op=.store sz xa xv/\cA x.U sz (xa.ev x.s) (xv.ev x.s)=some Z'/\K ⟨aZ x.s i.dst (.PN []),Z'⟩)\/
   (bx i.op=3/\∃g,QS x.s x.U i.op=some g/\∀id,x.U id=none->K ⟨aZ x.s i.dst (g id).1,(g id).2⟩))):=by
 unfold T;cases hw:bB x.s i.g with
 |none=>simp
 |some b=>
  cases b
  .simp
  .simp only[bf,Bool.true_eq_false,false_and,false_or,true_and];unfold TO;simp only[sU,kJ,beq_iff_eq]at he;rcases he with h0|h0<;>simp only[h0]
   .cases PV:i.op<;>simp[bx,PV]at h0|-;constructor
    .rintro⟨Z',h1,h2⟩;exact⟨_,_,_,⟨rfl,rfl,rfl⟩,Z',h1,h2⟩
    .rintro⟨_,_,_,⟨rfl,rfl,rfl⟩,Z',h1,h2⟩;exact⟨Z',h1,h2⟩
   .have:∀sz xa xv,i.op≠.store sz xa xv:=λ_ _ _ e=>by rw[e]at h0;simp[bx]at h0
    simp[this]
def lv(s:Nat->V):Qp->Option Nat
 |.load _ _ x=>match x.ev s with
   |.ptr id _ _=>some id
   |_=>none
 |.TZ _ x _=>match x.ev s with
   |.own id _ _=>some id
   |_=>none
 |.slice _ x _ _ _=>match x.ev s with
   |.own id _ _=>some id
   |_=>none
 |.WO x=>match x.ev s with
   |.own id _ _=>some id
   |_=>none
 |_=>none
def B1{s:Nat->V}{U Z':ag}{op:Qp}(h:∀j,lv s op=some j->U j=Z' j):aM U s op=aM Z' s op:=by
 cases op<;>try rfl
 case more m xs=>
  cases xs with
  |nil=>cases m<;>rfl
  |cons x xs=>cases xs<;>cases m<;>rfl
 case load agg sz x=>
  simp only[lv]at h;simp only[aM,cj];split
  .rename_i id i k hx;simp only[hx,bf,forall_eq']at h;rw[h]
  .rfl
  .rfl
 case TZ Sr x i=>
  simp only[lv]at h;simp only[aM];generalize x.ev s=xv at*;generalize i.ev s=iv at*;cases xv<;>try (cases iv<;>rfl)
  case own id off len=>
   simp only[bf,forall_eq']at h;cases iv<;>try rfl
   simp only[bS,h]
 case WO x=>
  simp only[lv]at h;simp only[aM];generalize x.ev s=xv at*;cases xv<;>try rfl
  case own id off len=>
   simp only[bf,forall_eq']at h;simp only[cW,h]
 case slice Sr x lo hi mx=>
  simp only[lv]at h;simp only[aM,cP];split
  .rename_i id off len hx;simp only[hx,bf,forall_eq']at h;have:gW U id Sr=gW Z' id Sr:=by simp only[gW,h]
   simp only[this]
  .rfl
  .rfl
  .rfl
def Bi{s:Nat->V}{U:ag}{op:Qp}{v:V}(hv:aM U s op=some v){j:Nat}(hj:lv s op=some j):U j≠none:=by
 intro hn;cases op<;>simp only[lv,reduceCtorEq]at hj
 case load agg sz x=>
  split at hj
  .rename_i id i k hx;simp only[bf]at hj;subst hj;simp[aM,cj,hx,hn]at hv
  .cases hj
 case TZ Sr x i=>
  split at hj
  .rename_i id off len hx;simp only[bf]at hj;subst hj;simp only[aM]at hv;rw[hx]at hv;generalize i.ev s=iv at hv;cases iv<;>simp[bS,hn]at hv
  .cases hj
 case WO x=>
  split at hj
  .rename_i id off len hx;simp only[bf]at hj;subst hj;simp[aM,cW,hx,hn]at hv
  .cases hj
 case slice Sr x lo hi mx=>
  split at hj
  .rename_i id off len hx;simp only[bf]at hj;subst hj;simp only[aM,cP,hx,gW,hn]at hv;split at hv
   .simp at hv
   .cases hv
  .cases hj
def td{i:aK}(h:Xr i=true):bx i.op=3/\∀s U g,QS s U i.op=some g->∀id j,j≠id->(g id).2 j=U j:=by
 unfold Xr at h;split at h
 .rename_i PV;refine⟨by rw[PV];rfl,λs U g hg id j hj=>?_⟩;rw[PV]at hg;simp only[QS,bf]at hg;subst hg;simp[Vc.C',hj]
 .rename_i PV;refine⟨by rw[PV];rfl,λs U g hg id j hj=>?_⟩;rw[PV]at hg;simp only[QS]at hg;split at hg
  .simp only[bf]at hg;subst hg;simp[Vc.C',hj]
  .cases hg
 .rename_i PV;refine⟨by rw[PV];rfl,λs U g hg id j hj=>?_⟩;rw[PV]at hg;simp only[QS]at hg;split at hg
  .simp only[bf]at hg;subst hg;simp[Vc.C',hj]
  .cases hg
 .rename_i PV;refine⟨by rw[PV];rfl,λs U g hg id j hj=>?_⟩;rw[PV]at hg;simp only[QS]at hg;split at hg
  .split at hg
   .simp only[bf]at hg;subst hg;simp[Vc.C',hj]
   .cases hg
  .cases hg
 .cases h
def Bg{i:aK}(h:DQ i=true):bx i.op=3/\∀s U g,QS s U i.op=some g->∀id j,j≠id->(g id).2 j=U j\/(g id).2 j=none:=by
 by_cases hm:Xr i=true
 .exact⟨(td hm).1,λs U g hg id j hj=>.inl ((td hm).2 s U g hg id j hj)⟩
 .unfold DQ at h;unfold Xr at hm;cases PV:i.op<;>rw[PV]at h hm<;>simp at h hm;refine⟨rfl,λs U g hg id j hj=>?_⟩;simp only[QS]at hg;split at hg
  .split at hg
   .simp only[bf]at hg;subst hg;rename_i PU _ _ _ _ _;simp only[Vc.C',aH hj];rename_i base PU src _ _ _;cases PU with
    |none=>exact .inl rfl
    |some a=>
     simp only[bI,del];split
     .exact .inr rfl
     .exact .inl rfl
   .cases hg
  .cases hg
def yM{i:aK}(hp:j6 i=true){s:Nat->V}{U Z':ag}(h:∀j,lv s i.op=some j->U j=Z' j){v:V}(hq:QY P i s U v):QY P i s Z' v:=by
 simp only[j6,beq_iff_eq]at hp;rcases hq with⟨h1,h2⟩|h1
 .refine .inl ⟨h1,?_⟩;unfold QO at*;simp only[hp]at*;exact⟨h2.1,by rw[<-B1 h];exact h2.2⟩
 .exact .inr h1
def xS{i:aK}(hp:j6 i=true){s:Nat->V}{U:ag}{v v':V}(h:QY P i s U v)(h':QY P i s U v'):v=v':=by
 simp only[j6,beq_iff_eq]at hp;rcases h with⟨h1,h2⟩|⟨h1,h2⟩<;>rcases h' with⟨g1,g2⟩|⟨g1,g2⟩
 .unfold QO at*;simp only[hp]at*;have:=h2.2.symm.trans g2.2;simpa using this
 .rw[h1]at g1;cases g1
 .rw[h1]at g1;cases g1
 .rw[h2,g2]
def tq{i:aK}(hp:j6 i=true){s:Nat->V}{U:ag}{v:V}(h:QY P i s U v)(hw:bB s i.g=some true){j:Nat}(hj:lv s i.op=some j):U j≠none:=by
 simp only[j6,beq_iff_eq]at hp;rcases h with⟨_,h2⟩|⟨h1,_⟩
 .unfold QO at h2;simp only[hp]at h2;exact Bi h2.2 hj
 .rw[hw]at h1;cases h1
def yL{i:aK}{s:Nat->V}{U Z':ag}{v:V}(h:QY P i s U v)(hw:bB s i.g≠some true):QY P i s Z' v:=by
 rcases h with⟨h1,_⟩|h1
 .exact absurd h1 hw
 .exact .inr h1
def E5{i:aK}(hp:j6 i=true){s:Nat->V}{U Z':ag}{id:Nat}(M':U id=none)(Qj:∀j,j≠id->Z' j=U j){v:V}(h:QY P i s U v):QY P i s Z' v:=by
 by_cases hw:bB s i.g=some true
 .refine yM hp (λj hj=>?_) h;have:=tq hp h hw hj;rw[Qj j (λe=>this (e▸M'))]
 .exact yL h hw
def D2{i:aK}(hq:fN i=true){s:Nat->V}{U Z':ag}{id:Nat}(M':U id=none)(Qj:∀j,j≠id->Z' j=U j){v:V}(h:QY P i s U v):QY P i s Z' v:=by
 by_cases hp:j6 i=true
 .exact E5 hp M' Qj h
 .have G':aa U Z':=λj o hj=>by rw[Qj j (λe=>by rw[e,M']at hj;cases hj)];exact hj
  rcases h with⟨h1,h2⟩|h1
  .refine .inl ⟨h1,?_⟩;have hk:bx i.op=1:=by
    simp only[fN,Sp]at hq;simp only[j6,beq_iff_eq]at hp;omega
   unfold QO at*;simp only[hk]at*;split at h2
   .obtain⟨f,caps,g1,g2⟩:=h2;exact⟨f,caps,g1,λZ1 hs=>g2 Z1 (G'.trans hs)⟩
   .exact h2.elim
  .exact .inr h1
def zy{i:aK}(h:Xr i=true){s:Nat->V}{U:ag}{g:Nat->V×ag}(hg:QS s U i.op=some g):
 ∃(vf:Nat->V) (ob:Ob),(∀id,g id=(vf id,Vc.C' U id ob))/\∀Z',QS s Z' i.op=some λid=>(vf id,Vc.C' Z' id ob):=by
 unfold Xr at h;split at h
 .rename_i PV;rw[PV]at hg|-;simp only[QS,bf]at hg;subst hg;exact⟨_,_,λ_=>rfl,λ_=>rfl⟩
 .rename_i PV;rw[PV]at hg|-;simp only[QS]at hg|-;split at hg
  .rename_i hc;simp only[bf]at hg;subst hg;exact⟨_,_,λ_=>rfl,λZ'=>by rw[aE hc]⟩
  .cases hg
 .rename_i PV;rw[PV]at hg|-;simp only[QS]at hg|-;split at hg
  .rename_i hc;simp only[bf]at hg;subst hg;exact⟨_,_,λ_=>rfl,λZ'=>by rw[aE hc]⟩
  .cases hg
 .rename_i PV;rw[PV]at hg|-;simp only[QS]at hg|-;split at hg
  .rename_i hx;split at hg
   .rename_i hc;simp only[bf]at hg;subst hg;exact⟨_,_,λ_=>rfl,λZ'=>by rw[aE hc]⟩
   .cases hg
  .cases hg
 .cases h
def nK{op:Qp}(hk:bx op=3){sz:Nat}{xa xv:VX}(PV:op=.store sz xa xv):False:=by rw[PV]at hk;simp[bx]at hk
def wT{U:ag}{a b:Nat}{oa ob:Ob}(h:a≠b):Vc.C' (Vc.C' U a oa) b ob=Vc.C' (Vc.C' U b ob) a oa:=by
 funext i;unfold Vc.C';by_cases h1:i=a<;>by_cases h2:i=b<;>simp_all
def GA{i:aK}(h:DQ i=true){s:Nat->V}{U:ag}{g:Nat->V×ag}(hg:QS s U i.op=some g):
 ∃(vf:Nat->V) (ob:Ob) (d:Option Nat),(∀id,g id=(vf id,Vc.C' (bI U d) id ob))/\(∀a,d=some a->U a≠none)/\
  ∀j o,U j=none->QS s (Vc.C' U j o) i.op=some λid=>(vf id,Vc.C' (bI (Vc.C' U j o) d) id ob):=by
 by_cases hm:Xr i=true
 .obtain⟨vf,ob,h1,h2⟩:=zy hm hg;exact⟨vf,ob,none,h1,by simp,λj o _=>h2 _⟩
 .unfold DQ at h;unfold Xr at hm;cases PV:i.op<;>rw[PV]at h hm hg<;>simp at h hm;rename_i e sz bytes xa xb;simp only[QS]at hg|-;split at hg
  .rename_i base PU src e1 e2;split at hg
   .rename_i hc;simp only[bf]at hg;subst hg;have hlive:∀a,PU=some a->U a≠none:=λa ha=>by
     subst ha;unfold cZ at e1;split at e1
     .split at e1
      .rename_i ob Q5;split at e1
       .simp only[bf,Prod.mk.injEq]at e1;rw[<-e1.2,Q5];simp
       .cases e1
      .cases e1
     .simp at e1
     .cases e1
    refine⟨_,_,PU,λ_=>rfl,hlive,λj o hj=>?_⟩;have P':∀id ob,U id=some ob->Vc.C' U j o id=some ob:=λid ob h=>by
     have:id≠j:=λe=>by rw[e,hj]at h;cases h
     simp[Vc.C',this,h]
    have d1:cZ (Vc.C' U j o) e sz (xa.ev s)=some (base,PU):=by
     rw[<-e1];unfold cZ at e1|-;split at e1
     .rename_i id _ _ _;split at e1
      .rename_i ob Q5;simp only[Q5,P' _ _ Q5]
      .cases e1
     .rfl
     .cases e1
    have d2:cK (Vc.C' U j o) sz (xb.ev s)=some src:=by
     rw[<-e2];unfold cK at e2|-;split at e2
     .split at e2
      .rename_i ob Q5;simp only[Q5,P' _ _ Q5]
      .cases e2
     all_goals first|rfl|cases e2
    simp only[d1,d2];rw[aE hc]
   .cases hg
  .cases hg
def BH{A B:aK}(hp:iH A B=true){x:St}(hi:T' x.U){K:St->Prop}(h:T P A x λx'=>T P B x' K):T P B x λx'=>T P A x' K:=by
 simp only[iH,Ba,kJ]at hp;obtain⟨YG,hk⟩:=hp;obtain⟨h1,h2,h3⟩:=apart_spec YG;have RD:∀(s:Nat->V) u v,aZ (aZ s A.dst u) B.dst v=aZ (aZ s B.dst v) A.dst u:=λs u v=>Eg h3;rcases hk with((((⟨qa,qb⟩|⟨ea,sb⟩)|⟨sa,eb⟩)|⟨pa,mb⟩)|⟨ma,pb⟩)|⟨ma,mb⟩
 .rw[cN qa]at h;obtain⟨u,hu,h⟩:=h;rw[cN qb]at h;obtain⟨v,hv,h⟩:=h;rw[cN qb];refine⟨v,(gi h1).1 hv,?_⟩;rw[cN qa];refine⟨u,(gi h2).2 hu,?_⟩;simp only at h|-;rw[<-RD];exact h
 .have qb:fN B=true:=by simp[fN,mm sb]
  rw[gU ea]at h;rcases h with⟨hw,h⟩|⟨hw,⟨sz,xa,xv,Z',PV,hs,h⟩|⟨U',g,hg,h⟩⟩
  .rw[cN qb]at h;obtain⟨v,hv,h⟩:=h;rw[cN qb];refine⟨v,(gi h1).1 hv,?_⟩;rw[gU ea];refine .inl ⟨by rw[cE h2];exact hw,?_⟩;simp only at h|-;rw[<-RD];exact h
  .rw[cN qb]at h;obtain⟨v,hv,h⟩:=h;rw[cN qb];refine⟨v,j8 sb ((gi h1).1 hv),?_⟩;rw[gU ea];refine .inr ⟨by rw[cE h2];exact hw,.inl ⟨sz,xa,xv,Z',PV,?_,?_⟩⟩
   .simp only;rw[hU h2 x.s xa (by simp[PV,Qp.xs]),hU h2 x.s xv (by simp[PV,Qp.xs])];exact hs
   .simp only at h|-;rw[<-RD];exact h
  .obtain⟨U7,_,YH⟩:=hi 0;have h0:=h U7 YH;rw[cN qb]at h0;obtain⟨v,hv,_⟩:=h0;have hvx:QY P B x.s x.U v:=j8 sb ((gi h1).1 hv);rw[cN qb];refine⟨v,hvx,?_⟩;rw[gU ea];refine .inr ⟨by rw[cE h2];exact hw,.inr ⟨U',g,?_,λid M'=>?_⟩⟩
   .rw[<-hg];exact fK (hU h2 x.s)
   .have h4:=h id M';rw[cN qb]at h4;obtain⟨v',WT,h4⟩:=h4;have hvx':QY P B x.s x.U v':=j8 sb ((gi h1).1 WT);have:=Mh sb hvx hvx';subst this;simp only at h4|-;rw[<-RD];exact h4
 .have qa:fN A=true:=by simp[fN,mm sa]
  rw[cN qa]at h;obtain⟨u,hu,h⟩:=h;rw[gU eb]at h;rw[gU eb];rcases h with⟨hw,h⟩|⟨hw,⟨sz,xa,xv,Z',PV,hs,h⟩|⟨U',g,hg,h⟩⟩
  .refine .inl ⟨by rw[<-cE h1];exact hw,?_⟩;rw[cN qa];refine⟨u,(gi h2).2 hu,?_⟩;simp only at h|-;rw[<-RD];exact h
  .refine .inr ⟨by rw[<-cE h1];exact hw,.inl ⟨sz,xa,xv,Z',PV,?_,?_⟩⟩
   .simp only at hs;rw[hU h1 x.s xa (by simp[PV,Qp.xs]),hU h1 x.s xv (by simp[PV,Qp.xs])]at hs;exact hs
   .rw[cN qa];refine⟨u,(gi h2).2 (j8 sa hu),?_⟩;simp only at h|-;rw[<-RD];exact h
  .refine .inr ⟨by rw[<-cE h1];exact hw,.inr ⟨U',g,?_,λid M'=>?_⟩⟩
   .rw[<-hg];exact(fK (hU h1 x.s)).symm
   .rw[cN qa];refine⟨u,(gi h2).2 (j8 sa hu),?_⟩;have h4:=h id M';simp only at h4|-;rw[<-RD];exact h4
 .have qa:fN A=true:=pa;obtain⟨U',SP⟩:=td mb;have eb:sU B=true:=by simp[sU,U']
  rw[cN qa]at h;obtain⟨u,hu,h⟩:=h;rw[gU eb]at h;rw[gU eb];rcases h with⟨hw,h⟩|⟨hw,⟨sz,xa,xv,Z',PV,hs,h⟩|⟨_,g,hg,h⟩⟩
  .refine .inl ⟨by rw[<-cE h1];exact hw,?_⟩;rw[cN qa];refine⟨u,(gi h2).2 hu,?_⟩;simp only at h|-;rw[<-RD];exact h
  .rw[PV]at U';simp[bx]at U'
  .refine .inr ⟨by rw[<-cE h1];exact hw,.inr ⟨U',g,?_,λid M'=>?_⟩⟩
   .rw[<-hg];exact(fK (hU h1 x.s)).symm
   .rw[cN qa];refine⟨u,(gi h2).2 (D2 qa M' (λj hj=>SP _ _ g hg id j hj) hu),?_⟩;have h4:=h id M';simp only at h4|-;rw[<-RD];exact h4
 .have qb:fN B=true:=by simp only[j6,beq_iff_eq]at pb;simp[fN,pb]
  obtain⟨U',SP⟩:=Bg ma;have ea:sU A=true:=by simp[sU,U']
  rw[gU ea]at h;rcases h with⟨hw,h⟩|⟨hw,⟨sz,xa,xv,Z',PV,hs,h⟩|⟨_,g,hg,h⟩⟩
  .rw[cN qb]at h;obtain⟨v,hv,h⟩:=h;rw[cN qb];refine⟨v,(gi h1).1 hv,?_⟩;rw[gU ea];refine .inl ⟨by rw[cE h2];exact hw,?_⟩;simp only at h|-;rw[<-RD];exact h
  .rw[PV]at U';simp[bx]at U'
  ·
   obtain⟨U7,UU,YH⟩:=hi ((lv x.s B.op).getD 0+1);have h0:=h U7 YH;rw[cN qb]at h0;obtain⟨v,hv,_⟩:=h0;have hv1:=(gi h1).1 hv;have hvx:QY P B x.s x.U v:=by
    by_cases hwB:bB x.s B.g=some true
    .refine yM pb (λj hj=>?_) hv1;have hn:=tq pb hv1 hwB hj;refine(SP _ _ g hg U7 j (λe=>?_)).resolve_right hn;rw[hj]at UU;simp at UU;omega
    .exact yL hv1 hwB
   rw[cN qb];refine⟨v,hvx,?_⟩;rw[gU ea];refine .inr ⟨by rw[cE h2];exact hw,.inr ⟨U',g,?_,λid M'=>?_⟩⟩
   .rw[<-hg];exact fK (hU h2 x.s)
   .have h4:=h id M';rw[cN qb]at h4;obtain⟨v',WT,h4⟩:=h4;have hv2:=(gi h1).1 WT;have hv3:QY P B x.s x.U v':=by
     by_cases hwB:bB x.s B.g=some true
     .refine yM pb (λj hj=>?_) hv2;have hn:=tq pb hv2 hwB hj;have hs:=tq pb hvx hwB hj;exact(SP _ _ g hg id j (λe=>hs (e▸M'))).resolve_right hn
     .exact yL hv2 hwB
    have:=xS pb hv3 hvx;subst this;simp only at h4|-;rw[<-RD];exact h4
 .have ka:=(Bg ma).1;have kb:=(td mb).1;have ea:sU A=true:=by simp[sU,ka]
  have eb:sU B=true:=by simp[sU,kb]
  rw[gU ea]at h;rw[gU eb];rcases h with⟨hw,h⟩|⟨hw,⟨sz,xa,xv,Z',PV,_⟩|⟨_,g,hg,h⟩⟩
  .rw[gU eb]at h;rcases h with⟨Ua,h⟩|⟨Ua,⟨sz,xa,xv,Z',PV,_⟩|⟨_,g2,hg2,h⟩⟩
   .refine .inl ⟨by rw[<-cE h1];exact Ua,?_⟩;rw[gU ea];refine .inl ⟨by rw[cE h2];exact hw,?_⟩;simp only at h|-;rw[<-RD];exact h
   .exact(nK kb PV).elim
   .refine .inr ⟨by rw[<-cE h1];exact Ua,.inr ⟨kb,g2,by rw[<-hg2];exact(fK (hU h1 x.s)).symm,λid M'=>?_⟩⟩;rw[gU ea];refine .inl ⟨by rw[cE h2];exact hw,?_⟩;have h4:=h id M';simp only at h4|-;rw[<-RD];exact h4
  .exact(nK ka PV).elim
  .obtain⟨vA,oA,dA,hA,Ts,hA'⟩:=GA ma hg;obtain⟨U7,_,YH⟩:=hi 0;have h0:=h U7 YH;rw[gU eb]at h0;rcases h0 with⟨Ua,_⟩|⟨Ua,⟨sz,xa,xv,Z',PV,_⟩|⟨_,g2,hg2,_⟩⟩
   .refine .inl ⟨by rw[<-cE h1];exact Ua,?_⟩;rw[gU ea];refine .inr ⟨by rw[cE h2];exact hw,.inr ⟨ka,g,by rw[<-hg];exact fK (hU h2 x.s),λid M'=>?_⟩⟩;have h4:=h id M';rw[gU eb]at h4;rcases h4 with⟨_,h4⟩|⟨hw3,_⟩
    .simp only at h4|-;rw[<-RD];exact h4
    .exfalso;have e1:=cE (v:=(g id).1) h1 (s:=x.s);have e2:=cE (v:=(g U7).1) h1 (s:=x.s);simp only at Ua hw3;rw[e1]at hw3;rw[e2]at Ua;rw[hw3]at Ua;cases Ua
   .exact(nK kb PV).elim
   .have hg2x:QS x.s (g U7).2 B.op=some g2:=by rw[<-hg2];exact(fK (hU h1 x.s)).symm
    obtain⟨vB,oB,hB,YI⟩:=zy mb hg2x;refine .inr ⟨by rw[<-cE h1];exact Ua,.inr ⟨kb,_,YI x.U,λidB hidB=>?_⟩⟩;rw[gU ea];refine .inr ⟨by rw[cE h2];exact hw,.inr ⟨ka,λid=>(vA id,Vc.C' (bI (Vc.C' x.U idB oB) dA) id oA),?_,λPU hidA=>?_⟩⟩
    .rw[<-hA' idB oB hidB];exact fK (hU h2 x.s)
    .have P':PU≠idB:=λe=>by subst e;simp[Vc.C']at hidA
     have hidA':x.U PU=none:=by simpa[Vc.C',P']using hidA
     have h4:=h PU hidA';rw[gU eb]at h4;rw[hA PU]at h4;rcases h4 with⟨hw3,_⟩|⟨_,⟨sz,xa,xv,Z',PV,_⟩|⟨_,g3,hg3,h4⟩⟩
     .exfalso;have e1:=cE (v:=vA PU) h1 (s:=x.s);have e2:=cE (v:=(g U7).1) h1 (s:=x.s);simp only at Ua hw3;rw[e1]at hw3;rw[e2]at Ua;rw[hw3]at Ua;cases Ua
     .exact(nK kb PV).elim
     .have e3:QS x.s (Vc.C' (bI x.U dA) PU oA) B.op=some g3:=by rw[<-hg3];exact(fK (hU h1 x.s)).symm
      rw[YI (Vc.C' (bI x.U dA) PU oA)]at e3;simp only[bf]at e3;subst e3;have QJ:∀i,x.U i=none->bI x.U dA i=none:=λi hi=>by
       cases dA with
       |none=>exact hi
       |some a=>simp only[bI,del];split<;>first|rfl|exact hi
      have h5:=h4 idB (by simp[Vc.C',P'.symm,QJ _ hidB]);have ZM:bI (Vc.C' x.U idB oB) dA=Vc.C' (bI x.U dA) idB oB:=by
       cases dA with
       |none=>rfl
       |some a=>
        funext i;have UY:a≠idB:=λe=>Ts a rfl (by rw[e];exact hidB);simp only[bI,del,Vc.C'];by_cases e1:i=a
        .have hib:i≠idB:=λe=>UY (e1▸e);simp[e1,UY]
        .by_cases e2:i=idB<;>simp[e1,e2,Ne.symm UY]
      simp only at h5|-;rw[<-RD,ZM,<-wT P'];exact h5
variable {P:Program} {n:Nat}
def T.exists{i:aK}{x:St}{K:St->Prop}(hi:T' x.U)(h:T P i x K):∃x',K x':=by
 unfold T at h;split at h
 .unfold TO at h;split at h
  .obtain⟨_,v,_,h⟩:=h;exact⟨_,h⟩
  .split at h
   .obtain⟨_,_,v,_,_,h⟩:=h;exact⟨_,h⟩
   .exact h.elim
  .split at h
   .obtain⟨_,_,h⟩:=h;exact⟨_,h⟩
   .exact h.elim
  .obtain⟨g,_,h⟩:=h;obtain⟨id,_,M'⟩:=hi 0;exact⟨_,h id M'⟩
  .exact h.elim
 .exact⟨_,h⟩
 .exact h.elim
def tg{F:Fr}(hn:F.n=n){o:Oper}{all:Array Oper}{x:St}{K:St->Prop}{a:Act}{w:World}(h:T P (bT P n all o) x K)(hs:eG F x a w)
 {next:Act->World->Prop}{Q':Exit->Act->World->Prop}(PL:∀x' a' w',eG F x' a' w'->K x'->next a' w'):
 if Region.wanted o (yielded all a.tmps)then P3 P n o.op≠.bad/\o.wp P a w next Q' else next (a.put o.dst undef) w:=by
 subst hn;obtain⟨I,hs⟩:=hs;unfold T at h;cases hw:bB x.s (bT P F.n all o).g with
 |none=>simp only[hw]at h
 |some b=>
  have UA:=pT (P:=P) hs all o hw;rw[UA];simp only[hw]at h;cases b
  .simp only[jz,if_false]at h|-;exact PL _ _ _ ⟨I,hs.pure (d:=o.dst) (by simp only[E'];exact⟨[],rfl,by simp[ax]⟩)⟩ h
  .simp only[if_true]at h|-;refine⟨λe=>?_,?_⟩
   .have WZ:(bT P F.n all o).op=P3 P F.n o.op:=rfl;rw[WZ,e]at h;simp[TO,bx]at h
   have hdst:(bT P F.n all o).dst=o.dst.filter (·<F.n):=rfl;have WZ:(bT P F.n all o).op=P3 P F.n o.op:=rfl;rw[hdst,WZ]at h;unfold TO at h;split at h
   .obtain⟨h1,v,h2,h3⟩:=h;obtain⟨z,hz,hr⟩:=rK hs o h1 h2;unfold Oper.wp;rw[hz];exact PL _ _ _ ⟨I,hs.pure hr⟩ h3
   .split at h
    .rename_i fx xs PV;obtain⟨f,caps,v,h1,h2,h3⟩:=h;obtain⟨f0,args,argTypes,g1,rfl,rfl⟩:=nz PV;refine pc hs g1 h1 (h2 _ (aa.refl _)) λr Z' hp a' w' PZ=>?_;obtain⟨rfl,rfl⟩:=hp;exact PL _ a' w' PZ h3
    .exact h.elim
   .split at h
    .rename_i sz xa xv PV;obtain⟨Z',h1,h2⟩:=h;obtain⟨t,y,z,g1,g2,rfl,rfl,rfl⟩:=wV PV;unfold cA at h1;split at h1
     .rename_i id r0 c e1;split at h1
      .rename_i ob e2;split at h1
       .rename_i r e3;split at h1
        .rename_i r' e4;simp only[bf]at h1;subst h1;obtain⟨w',hx,PZ⟩:=sk hs g1 g2 e1 e2 e3 e4;unfold Oper.wp;rw[hx];exact PL _ _ _ ⟨I,PZ⟩ h2
        .cases h1
       .cases h1
      .cases h1
     .cases h1
    .exact h.elim
   .obtain⟨g,hg,h⟩:=h;cases PV:P3 P F.n o.op<;>rw[PV]at hg
    case box e sz xv=>
     simp only[QS]at hg;split at hg
     .rename_i hc;simp only[bf]at hg;subst hg;obtain⟨y,g1,g2,rfl,rfl⟩:=C7 PV;obtain⟨id,M',z,w',Y',hz,PZ⟩:=wm hs g1 g2 hc.1 hc.2;unfold Oper.wp;rw[hz];exact PL _ _ _ ⟨Y',PZ⟩ (h id M')
     .cases hg
    case alloc e sz z=>
     simp only[QS,bf]at hg;subst hg;obtain⟨ti,zv,g1,g2,rfl,rfl⟩:=wL PV;obtain⟨id,M',y,w',Y',hy,PZ⟩:=rZ hs g1 g2;unfold Oper.wp;rw[hy];exact PL _ _ _ ⟨Y',PZ⟩ (h id M')
    case gr e sz xs=>
     simp only[QS]at hg;split at hg
     .rename_i hc;simp only[bf]at hg;subst hg;obtain⟨t,len,parts,ti,z,h1,h2,h3,rfl,h5,h6,rfl⟩:=tB PV;have hx:∀y∈parts.toList.map (λp=>(cx F.n p.2).ev x.s),y.cells.length=ti.size/\y.stays=true:=by
       intro y hy;have:=fv.1 hc y (by rw[List.map_map];exact hy);simpa using this
      obtain⟨id,M',y,w',Y',hy,PZ⟩:=pL hs h1 h2 h3 h5 h6 hx;unfold Oper.wp;rw[hy];have hl:parts.size=len:=by have:=congrArg List.length h5;simpa using this
      refine PL _ _ _ ⟨Y',PZ⟩ ?_;have:=h id M';simpa only[du,List.map_map,Array.length_toList,hl,Function.comp_def]using this
     .cases hg
    case mk e sz bytes zv y=>
     simp only[QS]at hg;split at hg
     .rename_i m hm;split at hg
      .rename_i hc;simp only[bf]at hg;subst hg;obtain⟨t,l',c,ti,z,g1,g2,g3,rfl,rfl,rfl,g5,rfl⟩:=F2 PV;obtain⟨id,M',x',w',Y',Qh,PZ⟩:=Az hs g1 g5 g2 g3 hm hc.1 hc.2;unfold Oper.wp;rw[Qh];exact PL _ _ _ ⟨Y',PZ⟩ (h id M')
      .cases hg
     .cases hg
    case Vq e sz bytes zv ya y=>
     simp only[QS]at hg;split at hg
     .rename_i kq m hy hm;split at hg
      .rename_i hc;simp only[bf]at hg;subst hg;obtain⟨t,tn,kn,x1,y1,args,argTypes,ti,z,g1,g2,g3,g4,g5,g6,rfl,rfl,rfl,rfl,rfl⟩:=yP PV;obtain⟨id,M',x',w',Y',Qh,PZ⟩:=vy hs g1 g2 g3 g4 g5 g6 hy hm hc.1 hc.2;unfold Oper.wp;rw[Qh];exact PL _ _ _ ⟨Y',PZ⟩ (h id M')
      .cases hg
     .cases hg
    case append e sz bytes xa xb=>
     simp only[QS]at hg;split at hg
     .rename_i base PU src e1 e2;split at hg
      .rename_i hb;simp only[bf]at hg;subst hg;obtain⟨t,t',y,z,args,argTypes,ti,zv,g1,g2,g3,g3',g4,g5,rfl,rfl,rfl,rfl⟩:=uA PV;obtain⟨id,M',r,w',Y',hx,PZ⟩:=qh hs g1 g2 g3 g3' g4 g5 e1 e2 hb;unfold Oper.wp;rw[hx];exact PL _ _ _ ⟨Y',PZ⟩ (h id M')
      .cases hg
     .cases hg
    all_goals simp[QS]at hg
   .exact h.elim
def Tn(P:Program)(n:Nat)(ops:Array Oper)(i:Nat)(x:St)(K:St->Prop):Prop:=match ops[i]? with
 |some o=>T P (bT P n ops o) x K
 |none=>K x
def qY(P:Program)(n:Nat)(ops:Array Oper)(Q:St->Prop):Nat->Array Bool->St->Prop
 |0,g',x=>Region.ready .any ops g'=[]/\Q x
 |f+1,g',x=>(Region.ready .any ops g'=[]->Q x)/\∀i∈Region.ready .any ops g',Tn P n ops i x (qY P n ops Q f (g'.setIfInBounds i true))
def oN{F:Fr}(hn:F.n=n){ops:Array Oper}{Q:St->Prop}{Q':Exit->Act->World->Prop}(hQ:∀x a w,eG F x a w->Q x->Q' .normal a w):
 ∀(f:Nat) (g':Array Bool) (x:St) (a:Act) (w:World),eG F x a w->qY P n ops Q f g' x->wpAnyIn F.eB 0 P .any ops Q' f g' a w
 |0,_,_,_,_,hs,h=>⟨h.1,hQ _ _ _ hs h.2⟩
 |f+1,g',x,a,w,hs,h=>by
  refine⟨λh0=>hQ _ _ _ hs (h.1 h0),λi hi=>?_⟩;have h1:=h.2 i hi;unfold Tn at h1;unfold wpOpIn;cases ho:ops[i]? with
  |none=>
   simp only[ho]at h1;exact oN hn hQ f _ x a w hs h1
  |some o=>
   simp only[ho]at h1;have h2:=tg (Q':=Q') hn h1 hs λx' a' w' PZ hk=>oN hn hQ f _ x' a' w' PZ hk;by_cases hw:Region.wanted o (yielded ops a.tmps)=true
   .rw[aE hw]at h2;simp only[hw,if_true];exact De (j3 h2.1) h2.2
   .rw[aH hw]at h2;simp only[hw];exact⟨λ_ _=>trivial,h2⟩
def iI(ops:Array Oper)(g':Array Bool):Prop:=∀m om,ops[m]?=some om->g'.getD m true=true->∀e∈om.after,Region.binds .any e=true->g'.getD e.on false=true
def iI.list{ops:Array Oper}{g':Array Bool}(h:iI ops g'){i:Nat}(hi:i∈Region.ready .any ops g'):iI ops (g'.setIfInBounds i true):=by
 intro m om hm hl e he hb;by_cases hmi:m=i
 .subst hmi;obtain⟨_,o,ho,Qz⟩:=mem_ready.1 hi;rw[hm]at ho;cases ho;exact getD_set_true (Qz e he hb)
 .rw[getD_set_ne true (Ne.symm hmi)]at hl;exact getD_set_true (h m om hm hl e he hb)
def BX{f:Edge->Nat}(l:List Edge):∀(s:Nat) (i:Nat),(l.foldl (λs e=>if Region.binds .any e then s ||| 2^e.on ||| f e else s) s).testBit i=true->
 s.testBit i=true\/∃e∈l,Region.binds .any e=true/\(i=e.on\/(f e).testBit i=true):=by
 induction l with
 |nil=>intro s i h;exact .inl h
 |cons e l ih=>
  intro s i h;simp only[kf]at h;rcases ih _ i h with h1|⟨e',h2,h3,h4⟩
  .by_cases hb:Region.binds .any e=true
   .rw[aE hb]at h1;simp only[Nat.testBit_or,kJ,Nat.testBit_two_pow]at h1;rcases h1 with(h1|h1)|h1
    .exact .inl h1
    .exact .inr ⟨e,by simp,hb,.inl (by simpa using(of_decide_eq_true h1).symm)⟩
    .exact .inr ⟨e,by simp,hb,.inr h1⟩
   .rw[aH hb]at h1;exact .inl h1
  .exact .inr ⟨e',by simp[h2],h3,h4⟩
def kT{ops:Array Oper}{g':Array Bool}(hc:iI ops g'):∀(j:Nat) (oj:Oper) (i:Nat),ops[j]?=some oj->((Region.before ops).getD j 0).testBit i=true->
 (∀e∈oj.after,Region.binds .any e=true->g'.getD e.on false=true)->g'.getD i false=true:=by
 have key:∀(l:List Oper) (acc:Array Nat) (k:Nat),acc.size=k->(∀j,l[j]?=ops[k+j]?)->
  (∀j oj i,j<k->ops[j]?=some oj->(acc.getD j 0).testBit i=true->(∀e∈oj.after,Region.binds .any e=true->g'.getD e.on false=true)->g'.getD i false=true)->
  ∀j oj i,ops[j]?=some oj->((l.foldl (λacc o=>acc.push (o.after.foldl (λs e=>if Region.binds .any e then s ||| 2^e.on ||| acc.getD e.on 0 else s) 0)) acc).getD j 0).testBit i=true->
   (∀e∈oj.after,Region.binds .any e=true->g'.getD e.on false=true)->g'.getD i false=true:=by
  intro l
  induction l with
  |nil=>
   intro acc k hk hl h j oj i hj hb hd;have H':j<k:=by
    rcases Nat.lt_or_ge j k with h1|h1
    .exact h1
    .have:=hl (j-k);rw[show k+(j-k)=j by omega,hj]at this;simp at this
   exact h j oj i H' hj hb hd
  |cons o l ih=>
   intro acc k hk hl h;have P5:ops[k]?=some o:=by simpa using(hl 0).symm
   refine ih _ (k+1) (by simp[hk]) (λj=>by have:=hl (j+1);simpa[Nat.add_assoc,BP 1 j]using this) ?_;intro j oj i hj TG hb hd;by_cases Yh:j=k
   .subst Yh;rw[TG]at P5;cases P5;rw[Tf,<-hk,Array.getElem?_push_size]at hb;simp only[Option.getD_some]at hb;rw[<-Array.foldl_toList]at hb;rcases BX (f:=λe=>acc.getD e.on 0) o.after.toList 0 i hb with h1|⟨e,he,YJ,h1|h1⟩
    .simp at h1
    .rw[h1];exact hd e (by simpa using he) YJ
    .have TR:=hd e (by simpa using he) YJ;by_cases hek:e.on<acc.size
     .have hex:e.on<ops.size:=by
       have:=(mT.1 TG).1;omega
      have hoe:ops[e.on]?=some ops[e.on]:=Array.getElem?_eq_getElem hex;refine h e.on _ i (by omega) hoe h1 (hc e.on _ hoe ?_);have RS:e.on<g'.size:=by
       rcases Nat.lt_or_ge e.on g'.size with h2|h2
       .exact h2
       .simp[Array.getElem?_eq_none h2]at TR
      simp only[Tf,Array.getElem?_eq_getElem RS,Option.getD_some]at TR|-;exact TR
     .rw[Tf,Array.getElem?_eq_none (by omega)]at h1;simp at h1
   .have hjlt:j<k:=by omega
    rw[Tf,Array.getElem?_push_lt (by omega)]at hb;refine h j oj i hjlt TG ?_ hd;rw[Tf,Array.getElem?_eq_getElem (by omega)];exact hb
 intro j oj i hj hb hd;unfold Region.before at hb;rw[<-Array.foldl_toList]at hb;exact key ops.toList #[] 0 rfl (by simp) (λj oj i h=>by omega) j oj i hj hb hd
def yx{ops:Array Oper}{Q:St->Prop}{i:Nat}{oi:Oper}(hi:ops[i]?=some oi):∀(f:Nat) (g':Array Bool) (x:St),T' x.U->iI ops g'->
 (∀j oj,ops[j]?=some oj->j≠i->g'.getD j true=false->((Region.before ops).getD j 0).testBit i=false->iH (bT P n ops oi) (bT P n ops oj)=true)->
 i∈Region.ready .any ops g'->T P (bT P n ops oi) x (qY P n ops Q f (g'.setIfInBounds i true))->qY P n ops Q (f+1) g' x:=by
 intro f
 induction f with
 |zero=>
  intro g' x RF _ _ hr H;refine⟨λh=>(by rw[h]at hr;cases hr),λj hj=>?_⟩;by_cases RA:j=i
  .subst RA;unfold Tn;simp only[hi];exact H
  .have:=ready_mono hj RA;obtain⟨x',Qh⟩:=H.exists RF;rw[Qh.1]at this;cases this
 |succ f ih=>
  intro g' x RF QG Tt hr H;refine⟨λh=>(by rw[h]at hr;cases hr),λj hj=>?_⟩;by_cases RA:j=i
  .subst RA;unfold Tn;simp only[hi];exact H
  .obtain⟨Vv,oj,TG,Qz⟩:=mem_ready.1 hj;have Vw:((Region.before ops).getD j 0).testBit i=false:=by
    cases hb:((Region.before ops).getD j 0).testBit i with
    |false=>rfl
    |true=>
     exfalso;have h1:=kT QG j oj i TG hb Qz;have h0:=(mem_ready.1 hr).1;rcases Nat.lt_or_ge i g'.size with h'|h'
     .simp[h']at h0 h1;rw[h0]at h1;cases h1
     .simp[Array.getElem?_eq_none h']at h1
   have H2:T P (bT P n ops oi) x λx'=>T P (bT P n ops oj) x' (qY P n ops Q f ((g'.setIfInBounds i true).setIfInBounds j true)):=by
    refine H.mono λx' Qh=>?_;have:=Qh.2 j (ready_mono hj RA);unfold Tn at this;simpa only[TG]using this
   have h2:=BH (Tt j oj TG RA Vv Vw) RF H2;have UB:∀k ok,ops[k]?=some ok->k≠i->(g'.setIfInBounds j true).getD k true=false->
    ((Region.before ops).getD k 0).testBit i=false->iH (bT P n ops oi) (bT P n ops ok)=true:=λk ok hk hki ZN Qr=>by
    refine Tt k ok hk hki ?_ Qr;by_cases Yh:j=k
    .subst Yh;exact Vv
    .rw[getD_set_ne true Yh]at ZN;exact ZN
   unfold Tn;simp only[TG];refine(h2.inf RF).mono λx' Qh=>ih (g'.setIfInBounds j true) x' Qh.1 (QG.list hj) UB (ready_mono hr (Ne.symm RA)) ?_;rw[Array.setIfInBounds_comm _ _ RA];exact Qh.2
def me{ops:Array Oper}{k:Nat}{ok:Oper}{g':Array Bool}(hk:ops[k]?=some ok)(h:CL P n ops k g'=true)(j:Nat)(oj:Oper)(hj:ops[j]?=some oj)(P':j≠k)
 (ZN:g'.getD j true=false)(Qr:((Region.before ops).getD j 0).testBit k=false):iH (bT P n ops ok) (bT P n ops oj)=true:=by
 unfold CL at h;simp only[hk]at h;have hjlt:j<ops.size:=(mT.1 hj).1;have:=fv.1 h j (List.mem_range.2 hjlt);simp only[hj,ZN,Qr,Bool.or_false,Bool.false_or,kJ,beq_iff_eq,P',false_or]at this;exact this
def iD(P:Program)(Q:St->Prop):List aK->St->Prop
 |[],x=>Q x
 |i::l,x=>T P i x (iD P Q l)
def ui{ops:Array Oper}{Q:St->Prop}:∀(l:List Oper) (k:Nat) (g':Array Bool) (x:St),T' x.U->iI ops g'->(∀j,l[j]?=ops[k+j]?)->
 v8 P n ops l.length k g'=true->iD P Q (l.map (bT P n ops)) x->qY P n ops Q l.length g' x
 |[],_,_,_,_,_,_,hB,h=>⟨by simpa[v8]using hB,h⟩
 |o::l,k,g',x,RF,QG,hl,hB,h=>by
  have h0:ops[k]?=some o:=by simpa using(hl 0).symm
  simp only[Q4,v8,Ba]at hB;obtain⟨⟨hr,hf⟩,YI⟩:=hB;refine yx h0 l.length g' x RF QG (me h0 hf) (by simpa using hr) ?_;refine(T.inf RF h).mono λx' Qh=>?_;exact ui l (k+1) _ x' Qh.1 (QG.list (by simpa using hr)) (λj=>by have:=hl (j+1);simpa[Nat.add_assoc,BP 1 j]using this) YI Qh.2
def xP{F:Fr}(hn:F.n=n){ops:Array Oper}(P5:oQ P n ops=true){id:Nat}{x:St}{a:Act}{w:World}(hs:eG F x a w){Q:St->Prop}{Q':Exit->Act->World->Prop}
 (hQ:∀x a w,eG F x a w->Q x->Q' .normal a w)(h:iD P Q (ops.toList.map (bT P n ops)) x):(Code.region id ops true).wpIn F.eB 0 P Q' a w:=by
 simp only[oQ,Ba]at P5;have PZ:eG F x a { w with drawn:=w.drawn+1 }:=by
  obtain⟨I,hs⟩:=hs;have hk:dg (aI I x.U) (aI I x.U) w { w with drawn:=w.drawn+1 }:=λ_ _ h=>⟨h,rfl⟩
  refine⟨I,⟨⟨hs.sat.size,hs.sat.os,hs.sat.tape,hs.sat.output,hs.sat.same,hs.sat.fin,hs.sat.inj,λid o ho=>?_,hs.sat.fresh,hs.sat.SD⟩,hs.le,hs.size,hs.book.vY hk,λi hi=>?_⟩⟩
  .exact(hs.sat.obj id o ho).mono (dd.refl I) hk (Qt _) (λ_ _ _ _=>rfl)
  .exact E'.mono (dd.refl I) hk (Qt _) _ _ (hs.slot i hi)
 refine wpIn_region_any P5.1 (oN hn hQ _ _ _ _ _ PZ ?_);have:=ui (P:=P) (n:=n) (Q:=Q) ops.toList 0 (Array.replicate ops.size false) x hs.inf (λm om hm hl=>by
  have H':m<ops.size:=(mT.1 hm).1;rw[Tf,Array.getElem?_replicate,aE H']at hl;simp at hl) (by simp) (by simpa using P5.2.2) h
 simpa using this
def rb(P:Program)(n:Nat)(ops:Array Oper)(m:Nat)(Q:St->Prop):Nat->Array Bool->St->Prop
 |0,g',x=>(Region.ready .any ops g'=[m]/\Region.ready .any ops (g'.setIfInBounds m true)=[])/\Q x
 |f+1,g',x=>Region.ready .any ops g'≠[]/\∀i∈Region.ready .any ops g',i≠m/\Tn P n ops i x (rb P n ops m Q f (g'.setIfInBounds i true))
def oX{F:Fr}(hn:F.n=n){ops:Array Oper}{m:Nat}{Q:St->Prop}{Q':Exit->Act->World->Prop}(hQ:∀x a w,eG F x a w->Q x->wpOpIn F.eB 0 P ops Q' m (Q' .normal) a w):
 ∀(f:Nat) (g':Array Bool) (x:St) (a:Act) (w:World),eG F x a w->rb P n ops m Q f g' x->wpAnyIn F.eB 0 P .any ops Q' (f+1) g' a w
 |0,g',x,a,w,hs,h=>by
  obtain⟨⟨h1,h2⟩,h3⟩:=h;refine⟨λh0=>(by rw[h1]at h0;cases h0),λi hi=>?_⟩;rw[h1]at hi;have him:i=m:=by simpa using hi
  subst him;exact wpOpIn_mono (λa w h=>⟨h2,h⟩) (hQ x a w hs h3)
 |f+1,g',x,a,w,hs,h=>by
  refine⟨λh0=>absurd h0 h.1,λi hi=>?_⟩;have h1:=(h.2 i hi).2;unfold Tn at h1;unfold wpOpIn;cases ho:ops[i]? with
  |none=>
   simp only[ho]at h1;exact oX hn hQ f _ x a w hs h1
  |some o=>
   simp only[ho]at h1;have h2:=tg (Q':=Q') hn h1 hs λx' a' w' PZ hk=>oX hn hQ f _ x' a' w' PZ hk;by_cases hw:Region.wanted o (yielded ops a.tmps)=true
   .rw[aE hw]at h2;simp only[hw,if_true];exact De (j3 h2.1) h2.2
   .rw[aH hw]at h2;simp only[hw];exact⟨λ_ _=>trivial,h2⟩
def yE{ops:Array Oper}{m:Nat}{Q:St->Prop}{i:Nat}{oi:Oper}(hi:ops[i]?=some oi)(him:i≠m)(hm:((Region.before ops).getD m 0).testBit i=true):
 ∀(f:Nat) (g':Array Bool) (x:St),T' x.U->iI ops g'->
 (∀j oj,ops[j]?=some oj->j≠i->g'.getD j true=false->((Region.before ops).getD j 0).testBit i=false->iH (bT P n ops oi) (bT P n ops oj)=true)->
 i∈Region.ready .any ops g'->T P (bT P n ops oi) x (rb P n ops m Q f (g'.setIfInBounds i true))->rb P n ops m Q (f+1) g' x:=by
 have hnotj:∀(g':Array Bool),iI ops g'->i∈Region.ready .any ops g'->∀j,j∈Region.ready .any ops g'->((Region.before ops).getD j 0).testBit i=false:=λg' QG hr j hj=>by
  obtain⟨Vv,oj,TG,Qz⟩:=mem_ready.1 hj;cases hb:((Region.before ops).getD j 0).testBit i with
  |false=>rfl
  |true=>
   exfalso;have h1:=kT QG j oj i TG hb Qz;have h0:=(mem_ready.1 hr).1;rcases Nat.lt_or_ge i g'.size with h'|h'
   .simp[h']at h0 h1;rw[h0]at h1;cases h1
   .simp[Array.getElem?_eq_none h']at h1
 have hjm:∀(g':Array Bool),iI ops g'->i∈Region.ready .any ops g'->∀j,j∈Region.ready .any ops g'->j≠m:=λg' QG hr j hj e=>by
  have:=hnotj g' QG hr j hj;rw[e,hm]at this;cases this
 intro f
 induction f with
 |zero=>
  intro g' x RF QG _ hr H;refine⟨λh=>(by rw[h]at hr;cases hr),λj hj=>⟨hjm g' QG hr j hj,?_⟩⟩;by_cases RA:j=i
  .subst RA;unfold Tn;simp only[hi];exact H
  .have:=ready_mono hj RA;obtain⟨x',Qh⟩:=H.exists RF;rw[Qh.1.1]at this;exact absurd (by simpa using this) (hjm g' QG hr j hj)
 |succ f ih=>
  intro g' x RF QG Tt hr H;refine⟨λh=>(by rw[h]at hr;cases hr),λj hj=>⟨hjm g' QG hr j hj,?_⟩⟩;by_cases RA:j=i
  .subst RA;unfold Tn;simp only[hi];exact H
  .obtain⟨Vv,oj,TG,Qz⟩:=mem_ready.1 hj;have Vw:=hnotj g' QG hr j hj;have H2:T P (bT P n ops oi) x λx'=>T P (bT P n ops oj) x' (rb P n ops m Q f ((g'.setIfInBounds i true).setIfInBounds j true)):=by
    refine H.mono λx' Qh=>?_;have:=(Qh.2 j (ready_mono hj RA)).2;unfold Tn at this;simpa only[TG]using this
   have h2:=BH (Tt j oj TG RA Vv Vw) RF H2;have UB:∀k ok,ops[k]?=some ok->k≠i->(g'.setIfInBounds j true).getD k true=false->
    ((Region.before ops).getD k 0).testBit i=false->iH (bT P n ops oi) (bT P n ops ok)=true:=λk ok hk hki ZN Qr=>by
    refine Tt k ok hk hki ?_ Qr;by_cases Yh:j=k
    .subst Yh;exact Vv
    .rw[getD_set_ne true Yh]at ZN;exact ZN
   unfold Tn;simp only[TG];refine(h2.inf RF).mono λx' Qh=>ih (g'.setIfInBounds j true) x' Qh.1 (QG.list hj) UB (ready_mono hr (Ne.symm RA)) ?_;rw[Array.setIfInBounds_comm _ _ RA];exact Qh.2
def vq{ops:Array Oper}{m:Nat}{Q:St->Prop}:∀(l:List Oper) (k:Nat) (g':Array Bool) (x:St),T' x.U->iI ops g'->(∀j,j<l.length->l[j]?=ops[k+j]?)->
 EE P n ops m l.length k g'=true->iD P Q (l.map (bT P n ops)) x->rb P n ops m Q l.length g' x
 |[],_,_,_,_,_,_,hB,h=>⟨by simpa[EE]using hB,h⟩
 |o::l,k,g',x,RF,QG,hl,hB,h=>by
  have h0:ops[k]?=some o:=by simpa using(hl 0 (by simp)).symm
  simp only[Q4,EE,Ba]at hB;obtain⟨⟨hr,hkm,hbit⟩,hf,YI⟩:=hB;refine yE h0 (by simpa using hkm) hbit l.length g' x RF QG (me h0 hf) (by simpa using hr) ?_;refine(T.inf RF h).mono λx' Qh=>?_;exact vq l (k+1) _ x' Qh.1 (QG.list (by simpa using hr)) (λj hj=>by have:=hl (j+1) (by simpa using hj);simpa[Nat.add_assoc,BP 1 j]using this) YI Qh.2
def vU{F:Fr}(hn:F.n=n){ops:Array Oper}(P5:yI P n ops=true){id:Nat}{x:St}{a:Act}{w:World}(hs:eG F x a w){Q:St->Prop}{Q':Exit->Act->World->Prop}
 (hQ:∀x a w,eG F x a w->Q x->wpListIn F.eB 0 P ops Q' (ops.toList.drop (ops.size-1)) a w)(h:iD P Q ((ops.toList.take (ops.size-1)).map (bT P n ops)) x):(Code.region id ops true).wpIn F.eB 0 P Q' a w:=by
 simp only[yI,Ba,Sp]at P5;obtain⟨hmx,QR,_,_,hlex⟩:=P5;have PZ:eG F x a { w with drawn:=w.drawn+1 }:=by
  obtain⟨I,hs⟩:=hs;have hk:dg (aI I x.U) (aI I x.U) w { w with drawn:=w.drawn+1 }:=λ_ _ h=>⟨h,rfl⟩
  refine⟨I,⟨⟨hs.sat.size,hs.sat.os,hs.sat.tape,hs.sat.output,hs.sat.same,hs.sat.fin,hs.sat.inj,λid o ho=>?_,hs.sat.fresh,hs.sat.SD⟩,hs.le,hs.size,hs.book.vY hk,λi hi=>?_⟩⟩
  .exact(hs.sat.obj id o ho).mono (dd.refl I) hk (Qt _) (λ_ _ _ _=>rfl)
  .exact E'.mono (dd.refl I) hk (Qt _) _ _ (hs.slot i hi)
 refine wpIn_region_any hmx ?_;have hlen:(ops.toList.take (ops.size-1)).length=ops.size-1:=by simp
 have hdrop:ops.toList.drop (ops.size-1)=[ops[ops.size-1]'(by omega)]:=by
  rw[iy (by simpa using(by omega:ops.size-1<ops.size))];simp[E6,show ops.size<=ops.size-1+1 by omega]
 have Rp:ops[ops.size-1]?=some (ops[ops.size-1]'(by omega)):=Array.getElem?_eq_getElem (by omega);have hL:=vq (P:=P) (n:=n) (Q:=Q) (m:=ops.size-1) (ops.toList.take (ops.size-1)) 0 (Array.replicate ops.size false) x hs.inf (λm om hm hl=>by
  have H':m<ops.size:=(mT.1 hm).1;rw[Tf,Array.getElem?_replicate,aE H']at hl;simp at hl) (λj hj=>by rw[hlen]at hj;simp[List.getElem?_take,hj]) (by rw[hlen];exact hlex) h
 rw[hlen]at hL;have:=oX (Q':=Q') hn (λx a w hs hq=>by
  have:=hQ x a w hs hq;rw[hdrop]at this;unfold wpOpIn;simpa only[Rp,wpListIn]using this) _ _ _ _ _ PZ hL
 rwa [show ops.size-1+1=ops.size by omega]at this
variable {P:Program} {n:Nat} {st:St} {Q:St->Prop} {k:List It}
def ae.G9{l:List aK}(h:iD P (λx=>ae P n k x Q) l st):ae P n (.code (.TB true l)::k) st Q:=by
 intro F hn kt hk a w hs;obtain⟨z,RT,rfl,hy,Q8⟩:=ez hk;obtain⟨c0,rfl,Q1⟩:=gv hy;have Th:∃id ops,c0=.region id ops true/\oQ P n ops=true/\ops.toList.map (bT P n ops)=l:=by
  cases c0<;>simp only[dE,reduceCtorEq]at Q1;rename_i id ops draw;cases draw
  .simp at Q1
  .simp only[Bool.true_and]at Q1;split at Q1
   .cases Q1
   split at Q1
   .cases Q1
   .rename_i hd;simp only[bM.TB.injEq,true_and]at Q1;exact⟨id,ops,rfl,by simpa using hd,Q1⟩
 obtain⟨id,ops,rfl,P5,rfl⟩:=Th;exact xP hn P5 hs (λx a w hs h=>h F hn RT Q8 a w hs) h
def ae.xG{l e:List aK}(h:iD P (λx=>ae P n (.ops e::k) x Q) l st):ae P n (.code (.xG l e)::k) st Q:=by
 intro F hn kt hk a w hs;obtain⟨z,RT,rfl,hy,Q8⟩:=ez hk;obtain⟨c0,rfl,Q1⟩:=gv hy;have Th:∃id ops,c0=.region id ops true/\yI P n ops=true/\(ops.toList.take (ops.size-1)).map (bT P n ops)=l/\(ops.toList.drop (ops.size-1)).map (bT P n ops)=e:=by
  cases c0<;>simp only[dE,reduceCtorEq]at Q1;rename_i id ops draw;cases draw
  .simp at Q1
  .simp only[Bool.true_and]at Q1;split at Q1
   .rename_i hd;simp only[bM.xG.injEq]at Q1;exact⟨id,ops,rfl,hd,Q1.1,Q1.2⟩
   .split at Q1<;>cases Q1
 obtain⟨id,ops,rfl,P5,rfl,rfl⟩:=Th;exact vU hn P5 hs (λx a w hs h=>h F hn (.ops ops (ops.toList.drop (ops.size-1))::RT) (by simp[KI.it,Q8]) a w hs) h
def St.lit(st:St):VX->V->St
 |.t d,v=>⟨aZ st.s (some d) v,st.U⟩
 |.c _,_=>st
inductive Td where
 |r (todo:List It)
 |d (l:List aK) (todo:List It)
def YK(P:Program)(n:Nat)(todo:List It)(st:St)(Q:St->Prop):Prop:=match todo with
 |.stop μ::_=>μ st
 |todo=>ae P n todo st Q
def YK.runs{todo:List It}(h:YK P n todo st Q):ae P n todo st Q:=by
 cases todo with
 |nil=>exact h
 |cons x k=>cases x<;>first|exact ae.stop h|exact h
def iD.mono{K K':St->Prop}(hk:∀x,K x->K' x):∀{l:List aK} {x:St},iD P K l x->iD P K' l x
 |[],_,h=>hk _ h
 |_::_,_,h=>T.mono (λ_ h=>iD.mono hk h) h
def Go(P:Program)(n:Nat)(t:Td)(st:St)(Q:St->Prop):Prop:=
 match t with
 |.r todo=>YK P n todo st Q
 |.d l todo=>iD P (λx=>YK P n todo x Q) l st
def Go.runs{todo:List It}(h:Go P n (.r todo) st Q):ae P n todo st Q:=YK.runs h
def Go.chain{l:List aK}(h:Go P n (.d l k) st Q):iD P (λx=>ae P n k x Q) l st:=iD.mono (λ_ h=>YK.runs h) h
def dq{α:Type}(o:Option α)(k:α->Prop):Prop:=match o with
 |some v=>k v
 |none=>False
def rP{α:Type}(v:α)(k:α->Prop):dq (some v) k=k v:=rfl
def ie{α:Type}{o:Option α}{k:α->Prop}:dq o k↔∃v,o=some v/\k v:=by cases o<;>simp[dq]
def dY(v:V)(k:Bool->Prop)(z:Prop):Prop:=match v with
 |.bool c=>k c
 |.PN []=>z
 |.int _ _=>z
 |_=>False
def l7{v:V}{k:Bool->Prop}{z:Prop}(h:dY v k z):(∃c,v=.bool c/\k c)\/(v=.PN []/\z)\/(∃q m,v=.int q m/\z):=by
 unfold dY at h;split at h
 .exact .inl ⟨_,rfl,h⟩
 .exact .inr (.inl ⟨rfl,h⟩)
 .exact .inr (.inr ⟨_,_,rfl,h⟩)
 .exact h.elim
def both(c b:Bool)(x y:Prop):Prop:=(c=b->x)/\(c=!b->y)
def cm(s:Nat->V)(U:ag):Qp->Option ag
 |.store sz xa xv=>cA U sz (xa.ev s) (xv.ev s)
 |_=>none
structure Rd(P:Program) where
 get:FuncId->List V->ag->Option V
 ok:∀f args U v,get f args U=some v->aB P f args U λr Z'=>r=v/\Z'=U
 up:∀f args U Z' v,aa U Z'->get f args U=some v->get f args Z'=some v:=by intros;assumption
def Rd.nothing:Rd P where
 get _ _ _:=none
 ok _ _ _ _ h:=by cases h
def w9(O:Rd P)(s:Nat->V)(U:ag):Qp->Option V
 |.call fx xs=>match fx.ev s with
   |.fn f caps=>O.get f (xs.map (·.ev s)++caps) U
   |_=>none
 |_=>none
def yj(o:Option V)(k:V->Prop)(z:Prop):Prop:=match o with
 |some v=>k v
 |none=>z
def qc{o:Option V}{k:V->Prop}{z:Prop}(h:yj o k z):(∃v,o=some v/\k v)\/z:=by
 cases o with
 |none=>exact .inr h
 |some v=>exact .inl ⟨v,rfl,h⟩
def yg(q:Nat)(a b c d g:Prop):Prop:=match q with
 |0=>a
 |1=>b
 |2=>c
 |3=>d
 |_=>g
def od{q:Nat}{a b c d g:Prop}(h:yg q a b c d g):(q=0/\a)\/(q=1/\b)\/(q=2/\c)\/(q=3/\d)\/g:=by
 unfold yg at h;split at h<;>simp_all
def ta(O:Rd P)(q:Nat)(d:Option Nat)(op:Qp)(st:St)(k:St->Prop)(z:Prop):Prop:=
 yg q (fb st.s op/\dq (aM st.U st.s op) λv=>k ⟨aZ st.s d v,st.U⟩)
  (yj (w9 O st.s st.U op) (λv=>k ⟨aZ st.s d v,st.U⟩) z)
  (dq (cm st.s st.U op) λZ'=>k ⟨aZ st.s d (.PN []),Z'⟩)
  (dq (QS st.s st.U op) λg=>∀id,st.U id=none->k ⟨aZ st.s d (g id).1,(g id).2⟩) z
def step(P:Program)(O:Rd P)(n:Nat):Nat->Td->St->(St->Prop)->Prop
 |0,t,st,Q=>Go P n t st Q
 |f+1,t,st,Q=>match t with
  |.d l k=>match l with
   |[]=>step P O n f (.r k) st Q
   |i::l=>match i.g with
    |none=>ta O (bx i.op) i.dst i.op st (λst=>step P O n f (.d l k) st Q) (Go P n (.d (i::l) k) st Q)
    |some (x,b)=>dY (x.ev st.s) (λc=>both c b
       (ta O (bx i.op) i.dst i.op (st.lit x (.bool b)) (λst=>step P O n f (.d l k) st Q) (Go P n (.d (i::l) k) (st.lit x (.bool b)) Q))
       (step P O n f (.d l k) ⟨aZ (st.lit x (.bool !b)).s i.dst (.PN []),(st.lit x (.bool !b)).U⟩ Q))
       (step P O n f (.d l k) ⟨aZ st.s i.dst (.PN []),st.U⟩ Q)
  |.r todo=>match todo with
   |[]=>Q st
   |.stop μ::_=>μ st
   |.inBlock _::k=>step P O n f (.r k) st Q
   |.ops []::k=>step P O n f (.r k) st Q
   |.ops (i::l)::k=>match i.g with
    |none=>ta O (bx i.op) i.dst i.op st (λst=>step P O n f (.r (.ops l::k)) st Q) (ae P n (.ops (i::l)::k) st Q)
    |some (x,b)=>dY (x.ev st.s) (λc=>both c b
       (ta O (bx i.op) i.dst i.op (st.lit x (.bool b)) (λst=>step P O n f (.r (.ops l::k)) st Q) (ae P n (.ops (i::l)::k) (st.lit x (.bool b)) Q))
       (step P O n f (.r (.ops l::k)) ⟨aZ (st.lit x (.bool !b)).s i.dst (.PN []),(st.lit x (.bool !b)).U⟩ Q))
       (step P O n f (.r (.ops l::k)) ⟨aZ st.s i.dst (.PN []),st.U⟩ Q)
   |.code c::k=>match c with
    |.skip=>step P O n f (.r k) st Q
    |.seq a b=>step P O n f (.r (.code a::.code b::k)) st Q
    |.block id a=>step P O n f (.r (.code a::.inBlock id::k)) st Q
    |.exit id=>dq (dG id k) λk'=>step P O n f (.r k') st Q
    |.ret=>Q st
    |.cond c a b=>dY (c.ev st.s) (λt=>both t true (step P O n f (.r (.code a::k)) st Q) (step P O n f (.r (.code b::k)) st Q)) False
    |.TB draw l=>match draw with
     |false=>step P O n f (.r (.ops l::k)) st Q
     |true=>step P O n f (.d l k) st Q
    |.loop a=>ae P n (.code (.loop a)::k) st Q
    |.fk g ps a b=>ae P n (.code (.fk g ps a b)::k) st Q
    |.Uv l P7=>ae P n (.code (.Uv l P7)::k) st Q
    |.xG l e=>step P O n f (.d l (.ops e::k)) st Q
    |.bad=>False
def yK{st:St}{x:VX}{v:V}(h:x.ev st.s=v):st.lit x v=st:=by
 cases x with
 |t d=>
  simp only[VX.ev]at h;have:aZ st.s (some d) v=st.s:=by
   funext i;simp only[aZ];split
   .rename_i e;rw[e,h]
   .rfl
  simp[St.lit,this]
 |c _=>rfl
def ae.cA{i:aK}{l:List aK}{sz:Nat}{xa xv:VX}(hw:bB st.s i.g=some true)(ho:i.op=.store sz xa xv){Z':ag}
 (h1:Vc.cA st.U sz (xa.ev st.s) (xv.ev st.s)=some Z')(h:ae P n (.ops l::k) ⟨aZ st.s i.dst (.PN []),Z'⟩ Q):ae P n (.ops (i::l)::k) st Q:=by
 unfold Vc.cA at h1;split at h1
 .rename_i id r0 c e1;split at h1
  .rename_i ob e2;split at h1
   .rename_i r e3;split at h1
    .rename_i r' e4;simp only[bf]at h1;subst h1;exact ae.store hw ho e1 e2 e3 e4 h
    .cases h1
   .cases h1
  .cases h1
 .cases h1
def ae.QS{i:aK}{l:List aK}(hw:bB st.s i.g=some true){g:Nat->V×ag}(hg:Vc.QS st.s st.U i.op=some g)
 (h:∀id,st.U id=none->ae P n (.ops l::k) ⟨aZ st.s i.dst (g id).1,(g id).2⟩ Q):ae P n (.ops (i::l)::k) st Q:=by
 cases PV:i.op<;>rw[PV]at hg<;>simp only[Vc.QS,reduceCtorEq]at hg
 case box e sz xv=>
  split at hg
  .rename_i hc;simp only[bf]at hg;subst hg;exact ae.box hw PV hc.1 hc.2 h
  .cases hg
 case alloc e sz z=>
  simp only[bf]at hg;subst hg;exact ae.alloc hw PV h
 case gr e sz xs=>
  split at hg
  .rename_i hc;simp only[bf]at hg;subst hg;refine ae.gr hw PV (λx hx=>?_) h;have:=fv.1 hc x hx;simpa using this
  .cases hg
 case mk e sz bytes zv x=>
  split at hg
  .rename_i m hm;split at hg
   .rename_i hc;simp only[bf]at hg;subst hg;exact ae.mkS hw PV hm hc.1 hc.2 h
   .cases hg
  .cases hg
 case Vq e sz bytes zv y x=>
  split at hg
  .rename_i kq m hy hm;split at hg
   .rename_i hc;simp only[bf]at hg;subst hg;exact ae.MZ hw PV hy hm hc.1 hc.2 h
   .cases hg
  .cases hg
 case append e sz bytes xa xb=>
  split at hg
  .rename_i base PU src e1 e2;split at hg
   .rename_i hb;simp only[bf]at hg;subst hg;exact ae.append hw PV e1 e2 hb h
   .cases hg
  .cases hg
def oT{i:aK}{K:St->Prop}(hw:bB st.s i.g=some true)(h:TO P i.dst i.op st K):T P i st K:=by unfold T;simp only[hw];exact h
def yz{i:aK}{K:St->Prop}(hw:bB st.s i.g=some false)(h:K ⟨aZ st.s i.dst (.PN []),st.U⟩):T P i st K:=by unfold T;simp only[hw];exact h
def u6{O:Rd P}{s:Nat->V}{U:ag}{op:Qp}{v:V}(h:w9 O s U op=some v):
 ∃fx xs f caps,op=.call fx xs/\fx.ev s=.fn f caps/\∀Z1,aa U Z1->aB P f (xs.map (·.ev s)++caps) Z1 λr Z'=>r=v/\Z'=Z1:=by
 unfold w9 at h;split at h
 .rename_i fx xs;split at h
  .rename_i f caps hf;exact⟨fx,xs,f,caps,rfl,hf,λZ1 h1=>O.ok _ _ _ _ (O.up _ _ _ _ _ h1 h)⟩
  .cases h
 .cases h
def ae.uW{O:Rd P}{i:aK}{l:List aK}{st:St}(hw:bB st.s i.g=some true){K:St->Prop}(hK:∀st,K st->ae P n (.ops l::k) st Q)
 (h:ta O (bx i.op) i.dst i.op st K (ae P n (.ops (i::l)::k) st Q)):ae P n (.ops (i::l)::k) st Q:=by
 unfold ta at h;rcases od h with⟨_,h1,h⟩|⟨_,h⟩|⟨_,h⟩|⟨_,h⟩|h
 .obtain⟨v,hv,h⟩:=ie.1 h;exact ae.pure hw h1 hv (hK _ h)
 .rcases qc h with⟨v,hv,h⟩|h
  .obtain⟨fx,xs,f,caps,ho,hf,hc⟩:=u6 hv;refine ae.call hw ho hf (hc _ (aa.refl _)) ?_;rintro r Z' ⟨rfl,rfl⟩;exact hK _ h
  .exact h
 .obtain⟨Z',hs,h⟩:=ie.1 h;cases PV:i.op<;>rw[PV]at hs<;>simp only[cm,reduceCtorEq]at hs;exact ae.cA hw PV hs (hK _ h)
 .obtain⟨g,hgg,h⟩:=ie.1 h;exact ae.QS hw hgg λid M'=>hK _ (h id M')
 .exact h
def Go.uW{O:Rd P}{i:aK}{l:List aK}{st:St}(hw:bB st.s i.g=some true){K:St->Prop}(hK:∀st,K st->Go P n (.d l k) st Q)
 (h:ta O (bx i.op) i.dst i.op st K (Go P n (.d (i::l) k) st Q)):Go P n (.d (i::l) k) st Q:=by
 unfold ta at h;rcases od h with⟨hk,h1,h⟩|⟨hk,h⟩|⟨_,h⟩|⟨hk,h⟩|h
 .obtain⟨v,hv,h⟩:=ie.1 h;refine oT hw ?_;unfold TO;simp only[hk];exact⟨h1,v,hv,hK _ h⟩
 .rcases qc h with⟨v,hv,h⟩|h
  .obtain⟨fx,xs,f,caps,ho,hf,hc⟩:=u6 hv;refine oT hw ?_;rw[ho];exact⟨f,caps,v,hf,hc,hK _ h⟩
  .exact h
 .obtain⟨Z',hs,h⟩:=ie.1 h;refine oT hw ?_;cases PV:i.op<;>rw[PV]at hs<;>simp only[cm,reduceCtorEq]at hs;exact⟨Z',hs,hK _ h⟩
 .obtain⟨g,hgg,h⟩:=ie.1 h;refine oT hw ?_;unfold TO;simp only[hk];exact⟨g,hgg,λid M'=>hK _ (h id M')⟩
 .exact h
def Go.bL(O:Rd P):∀(f:Nat) (t:Td) (st:St),step P O n f t st Q->Go P n t st Q
 |0,_,_,h=>h
 |f+1,.d [] k,st,h=>Go.bL O f (.r k) st h
 |f+1,.d (i::l) k,st,h=>by
  simp only[step]at h;split at h
  .rename_i hg;have hw:bB st.s i.g=some true:=by simp[hg,bB]
   exact Go.uW hw (λst h=>Go.bL O f (.d l k) st h) h
  .rename_i x b hg;rcases l7 h with⟨c,hc,h⟩|⟨hc,h⟩|⟨q,m,hc,h⟩
   .by_cases hcb:c=b
    .subst hcb;have h1:=h.1 rfl;have hw:bB st.s i.g=some true:=by simp[hg,bB,hc]
     rw[yK hc]at h1;exact Go.uW hw (λst h=>Go.bL O f (.d l k) st h) h1
    .have W1:c=!b:=by revert hcb;cases c<;>cases b<;>simp
     have h2:=h.2 W1;rw[yK (by rw[hc,W1])]at h2;exact yz (by simp only[hg,bB,hc];rw[W1];cases b<;>rfl) (Go.bL O f (.d l k) _ h2)
   .exact yz (by simp[hg,bB,hc]) (Go.bL O f (.d l k) _ h)
   .exact yz (by simp[hg,bB,hc]) (Go.bL O f (.d l k) _ h)
 |f+1,.r [],_,h=>ae.nil h
 |f+1,.r (.stop _::_),_,h=>h
 |f+1,.r (.inBlock _::k),st,h=>ae.inBlock (Go.bL O f (.r k) st h).runs
 |f+1,.r (.ops []::k),st,h=>ae.HK (Go.bL O f (.r k) st h).runs
 |f+1,.r (.ops (i::l)::k),st,h=>by
  simp only[step]at h;split at h
  .rename_i hg;have hw:bB st.s i.g=some true:=by simp[hg,bB]
   exact ae.uW hw (λst h=>(Go.bL O f (.r (.ops l::k)) st h).runs) h
  .rename_i x b hg;rcases l7 h with⟨c,hc,h⟩|⟨hc,h⟩|⟨q,m,hc,h⟩
   .by_cases hcb:c=b
    .subst hcb;have h1:=h.1 rfl;have hw:bB st.s i.g=some true:=by simp[hg,bB,hc]
     rw[yK hc]at h1;exact ae.uW hw (λst h=>(Go.bL O f (.r (.ops l::k)) st h).runs) h1
    .have W1:c=!b:=by revert hcb;cases c<;>cases b<;>simp
     have h2:=h.2 W1;rw[yK (by rw[hc,W1])]at h2;exact ae.xZ (by simp only[hg,bB,hc];rw[W1];cases b<;>rfl) (Go.bL O f (.r (.ops l::k)) _ h2).runs
   .exact ae.xZ (by simp[hg,bB,hc]) (Go.bL O f (.r (.ops l::k)) _ h).runs
   .exact ae.xZ (by simp[hg,bB,hc]) (Go.bL O f (.r (.ops l::k)) _ h).runs
 |f+1,.r (.code c::k),st,h=>by
  cases c with
  |skip=>exact ae.skip (Go.bL O f (.r _) _ h).runs
  |seq a b=>exact ae.seq (Go.bL O f (.r _) _ h).runs
  |block id a=>exact ae.block (Go.bL O f (.r _) _ h).runs
  |exit id=>
   simp only[step]at h;obtain⟨k',Q8,h⟩:=ie.1 h;exact ae.exit Q8 (Go.bL O f (.r _) _ h).runs
  |ret=>exact ae.ret h
  |cond c a b=>
   simp only[step]at h;rcases l7 h with⟨t,ht,h⟩|⟨_,h⟩|⟨_,_,_,h⟩
   .exact ae.cond ht (λe=>(Go.bL O f (.r _) _ (h.1 e)).runs) (λe=>(Go.bL O f (.r _) _ (h.2 (by rw[e];rfl))).runs)
   .exact h.elim
   .exact h.elim
  |TB draw l=>
   cases draw
   .exact ae.region (Go.bL O f (.r _) _ h).runs
   .exact ae.G9 (Go.bL O f (.d l k) _ h).chain
  |loop a=>exact h
  |fk g ps a b=>exact h
  |Uv l P7=>exact h
  |xG l e=>exact ae.xG (Go.bL O f (.d l (.ops e::k)) _ h).chain
  |bad=>exact h.elim
def ae.bL(O:Rd P)(f:Nat){todo:List It}{st:St}(h:step P O n f (.r todo) st Q):ae P n todo st Q:=(Go.bL O f (.r todo) st h).runs
section rules
variable (P:Program) (O:Rd P) (n:Nat) (f:Nat)
def exR(o:Option (List It))(st:St)(Q:St->Prop):Prop:=dq o λk'=>step P O n f (.r k') st Q
def cR(v:V)(a b:bM)(k:List It)(st:St)(Q:St->Prop):Prop:=dY v (λt=>both t true (step P O n f (.r (.code a::k)) st Q) (step P O n f (.r (.code b::k)) st Q)) False
def Jd(l:List aK)(k:List It)(d:Option Nat)(st:St)(Q:St->Prop)(o:Option V):Prop:=dq o λv=>step P O n f (.r (.ops l::k)) ⟨aZ st.s d v,st.U⟩ Q
def GV(l:List aK)(k:List It)(d:Option Nat)(st:St)(Q:St->Prop)(o:Option ag):Prop:=dq o λZ'=>step P O n f (.r (.ops l::k)) ⟨aZ st.s d (.PN []),Z'⟩ Q
def Hj(l:List aK)(k:List It)(d:Option Nat)(st:St)(Q:St->Prop)(o:Option (Nat->V×ag)):Prop:=
 dq o λg=>∀id,st.U id=none->step P O n f (.r (.ops l::k)) ⟨aZ st.s d (g id).1,(g id).2⟩ Q
def EA(l:List aK)(k:List It)(d:Option Nat)(op:Qp)(g:Option (VX×Bool))(st:St)(Q:St->Prop)(o:Option V):Prop:=
 yj o (λv=>step P O n f (.r (.ops l::k)) ⟨aZ st.s d v,st.U⟩ Q) (ae P n (.ops (⟨d,op,g⟩::l)::k) st Q)
def uP(q:Nat)(d:Option Nat)(op:Qp)(g:Option (VX×Bool))(l:List aK)(k:List It)(st:St)(Q:St->Prop):Prop:=
 ta O q d op st (λst=>step P O n f (.r (.ops l::k)) st Q) (ae P n (.ops (⟨d,op,g⟩::l)::k) st Q)
def gR(v:V)(d:Option Nat)(op:Qp)(x:VX)(b:Bool)(l:List aK)(k:List It)(st:St)(Q:St->Prop):Prop:=
 dY v (λc=>both c b (uP P O n f (bx op) d op (some (x,b)) l k (st.lit x (.bool b)) Q)
  (step P O n f (.r (.ops l::k)) ⟨aZ (st.lit x (.bool !b)).s d (.PN []),(st.lit x (.bool !b)).U⟩ Q)) (step P O n f (.r (.ops l::k)) ⟨aZ st.s d (.PN []),st.U⟩ Q)
def I4(l:List aK)(k:List It)(d:Option Nat)(st:St)(Q:St->Prop)(o:Option V):Prop:=dq o λv=>step P O n f (.d l k) ⟨aZ st.s d v,st.U⟩ Q
def GP(l:List aK)(k:List It)(d:Option Nat)(st:St)(Q:St->Prop)(o:Option ag):Prop:=dq o λZ'=>step P O n f (.d l k) ⟨aZ st.s d (.PN []),Z'⟩ Q
def FZ(l:List aK)(k:List It)(d:Option Nat)(st:St)(Q:St->Prop)(o:Option (Nat->V×ag)):Prop:=
 dq o λg=>∀id,st.U id=none->step P O n f (.d l k) ⟨aZ st.s d (g id).1,(g id).2⟩ Q
def F7(l:List aK)(k:List It)(d:Option Nat)(op:Qp)(g:Option (VX×Bool))(st:St)(Q:St->Prop)(o:Option V):Prop:=
 yj o (λv=>step P O n f (.d l k) ⟨aZ st.s d v,st.U⟩ Q) (Go P n (.d (⟨d,op,g⟩::l) k) st Q)
def vR(q:Nat)(d:Option Nat)(op:Qp)(g:Option (VX×Bool))(l:List aK)(k:List It)(st:St)(Q:St->Prop):Prop:=
 ta O q d op st (λst=>step P O n f (.d l k) st Q) (Go P n (.d (⟨d,op,g⟩::l) k) st Q)
def gD(v:V)(d:Option Nat)(op:Qp)(x:VX)(b:Bool)(l:List aK)(k:List It)(st:St)(Q:St->Prop):Prop:=
 dY v (λc=>both c b (vR P O n f (bx op) d op (some (x,b)) l k (st.lit x (.bool b)) Q)
  (step P O n f (.d l k) ⟨aZ (st.lit x (.bool !b)).s d (.PN []),(st.lit x (.bool !b)).U⟩ Q)) (step P O n f (.d l k) ⟨aZ st.s d (.PN []),st.U⟩ Q)
variable {P O n} {f}
def xe(s:Nat->V)(d:Nat)(v:V)(i:Nat):aZ s (some d) v i=if i=d then v else s i:=rfl
def xB(s:Nat->V)(v:V)(i:Nat):aZ s none v i=s i:=rfl
def Jg(st:St)(d:Nat)(v:V):st.lit (.t d) v=⟨aZ st.s (some d) v,st.U⟩:=rfl
def I8(st:St)(u v:V):st.lit (.c u) v=st:=rfl
def Nk(s:Nat->V)(d:Nat):VX.ev s (.t d)=s d:=rfl
def MG(s:Nat->V)(v:V):VX.ev s (.c v)=v:=rfl
def F1(d:Option Nat)(op:Qp)(g:Option (VX×Bool))(l:List aK):uP P O n f 0 d op g l k st Q=(fb st.s op/\Jd P O n f l k d st Q (aM st.U st.s op)):=rfl
def GK(d:Option Nat)(op:Qp)(g:Option (VX×Bool))(l:List aK):uP P O n f 1 d op g l k st Q=EA P O n f l k d op g st Q (w9 O st.s st.U op):=rfl
def FJ(d:Option Nat)(op:Qp)(g:Option (VX×Bool))(l:List aK):uP P O n f 2 d op g l k st Q=GV P O n f l k d st Q (cm st.s st.U op):=rfl
def Fq(d:Option Nat)(op:Qp)(g:Option (VX×Bool))(l:List aK):uP P O n f 3 d op g l k st Q=Hj P O n f l k d st Q (QS st.s st.U op):=rfl
def EK(d:Option Nat)(op:Qp)(g:Option (VX×Bool))(l:List aK):uP P O n f 4 d op g l k st Q=ae P n (.ops (⟨d,op,g⟩::l)::k) st Q:=rfl
def uB(d:Option Nat)(op:Qp)(g:Option (VX×Bool))(l:List aK)(v:V):EA P O n f l k d op g st Q (some v)=step P O n f (.r (.ops l::k)) ⟨aZ st.s d v,st.U⟩ Q:=rfl
def vD(d:Option Nat)(op:Qp)(g:Option (VX×Bool))(l:List aK):EA P O n f l k d op g st Q none=ae P n (.ops (⟨d,op,g⟩::l)::k) st Q:=rfl
def yO(s:Nat->V)(U:ag)(fx:VX)(xs:List VX):w9 O s U (.call fx xs)=match fx.ev s with
 |.fn f caps=>O.get f (xs.map (·.ev s)++caps) U
 |_=>none:=rfl
def GY(d:Option Nat)(op:Qp)(g:Option (VX×Bool))(l:List aK):vR P O n f 0 d op g l k st Q=(fb st.s op/\I4 P O n f l k d st Q (aM st.U st.s op)):=rfl
def EC(d:Option Nat)(op:Qp)(g:Option (VX×Bool))(l:List aK):vR P O n f 1 d op g l k st Q=F7 P O n f l k d op g st Q (w9 O st.s st.U op):=rfl
def Gs(d:Option Nat)(op:Qp)(g:Option (VX×Bool))(l:List aK):vR P O n f 2 d op g l k st Q=GP P O n f l k d st Q (cm st.s st.U op):=rfl
def F3(d:Option Nat)(op:Qp)(g:Option (VX×Bool))(l:List aK):vR P O n f 3 d op g l k st Q=FZ P O n f l k d st Q (QS st.s st.U op):=rfl
def tE(d:Option Nat)(op:Qp)(g:Option (VX×Bool))(l:List aK)(v:V):F7 P O n f l k d op g st Q (some v)=step P O n f (.d l k) ⟨aZ st.s d v,st.U⟩ Q:=rfl
def u7(d:Option Nat)(op:Qp)(g:Option (VX×Bool))(l:List aK):F7 P O n f l k d op g st Q none=Go P n (.d (⟨d,op,g⟩::l) k) st Q:=rfl
def CX:step P O n (f+1) (.r []) st Q=Q st:=rfl
def uM(μ:St->Prop):step P O n (f+1) (.r (.stop μ::k)) st Q=μ st:=rfl
def rU(id:Nat):step P O n (f+1) (.r (.inBlock id::k)) st Q=step P O n f (.r k) st Q:=rfl
def sc:step P O n (f+1) (.r (.ops []::k)) st Q=step P O n f (.r k) st Q:=rfl
def Ap:step P O n (f+1) (.r (.code .skip::k)) st Q=step P O n f (.r k) st Q:=rfl
def CS(a b:bM):step P O n (f+1) (.r (.code (.seq a b)::k)) st Q=step P O n f (.r (.code a::.code b::k)) st Q:=rfl
def wz(id:Nat)(a:bM):step P O n (f+1) (.r (.code (.block id a)::k)) st Q=step P O n f (.r (.code a::.inBlock id::k)) st Q:=rfl
def Am(id:Nat):step P O n (f+1) (.r (.code (.exit id)::k)) st Q=exR P O n f (dG id k) st Q:=rfl
def zE(k':List It):exR P O n f (some k') st Q=step P O n f (.r k') st Q:=rfl
def Cq:step P O n (f+1) (.r (.code .ret::k)) st Q=Q st:=rfl
def zH(a:bM):step P O n (f+1) (.r (.code (.loop a)::k)) st Q=ae P n (.code (.loop a)::k) st Q:=rfl
def yT(l e:List aK):step P O n (f+1) (.r (.code (.xG l e)::k)) st Q=step P O n f (.d l (.ops e::k)) st Q:=rfl
def dL(l:List aK)(P7:List (List Nat)):step P O n (f+1) (.r (.code (.Uv l P7)::k)) st Q=ae P n (.code (.Uv l P7)::k) st Q:=rfl
def ue(g:VX)(ps:List Nat)(a b:bM):step P O n (f+1) (.r (.code (.fk g ps a b)::k)) st Q=ae P n (.code (.fk g ps a b)::k) st Q:=rfl
def CM(l:List aK):step P O n (f+1) (.r (.code (.TB false l)::k)) st Q=step P O n f (.r (.ops l::k)) st Q:=rfl
def Au(l:List aK):step P O n (f+1) (.r (.code (.TB true l)::k)) st Q=step P O n f (.d l k) st Q:=rfl
def C1:step P O n (f+1) (.d [] k) st Q=step P O n f (.r k) st Q:=rfl
def zz(c:VX)(a b:bM):step P O n (f+1) (.r (.code (.cond c a b)::k)) st Q=cR P O n f (c.ev st.s) a b k st Q:=rfl
def Ng(a b:bM):cR P O n f (.bool true) a b k st Q=step P O n f (.r (.code a::k)) st Q:=by simp[cR,dY,both]
def Nr(a b:bM):cR P O n f (.bool false) a b k st Q=step P O n f (.r (.code b::k)) st Q:=by simp[cR,dY,both]
def Fa(p:Prop)[Decidable p](a b:bM):cR P O n f (.bool (decide p)) a b k st Q=((p->step P O n f (.r (.code a::k)) st Q)/\(¬p->step P O n f (.r (.code b::k)) st Q)):=by simp[cR,dY,both]
def Cb(d:Option Nat)(op:Qp)(l:List aK):step P O n (f+1) (.r (.ops (⟨d,op,none⟩::l)::k)) st Q=uP P O n f (bx op) d op none l k st Q:=rfl
def vv(d:Option Nat)(l:List aK)(v:V):Jd P O n f l k d st Q (some v)=step P O n f (.r (.ops l::k)) ⟨aZ st.s d v,st.U⟩ Q:=rfl
def sq(d:Option Nat)(l:List aK)(Z':ag):GV P O n f l k d st Q (some Z')=step P O n f (.r (.ops l::k)) ⟨aZ st.s d (.PN []),Z'⟩ Q:=rfl
def aN(d:Option Nat)(l:List aK)(g:Nat->V×ag):Hj P O n f l k d st Q (some g)=∀id,st.U id=none->step P O n f (.r (.ops l::k)) ⟨aZ st.s d (g id).1,(g id).2⟩ Q:=rfl
def Cm(d:Option Nat)(op:Qp)(l:List aK):step P O n (f+1) (.d (⟨d,op,none⟩::l) k) st Q=vR P O n f (bx op) d op none l k st Q:=rfl
def uo(d:Option Nat)(l:List aK)(v:V):I4 P O n f l k d st Q (some v)=step P O n f (.d l k) ⟨aZ st.s d v,st.U⟩ Q:=rfl
def sx(d:Option Nat)(l:List aK)(Z':ag):GP P O n f l k d st Q (some Z')=step P O n f (.d l k) ⟨aZ st.s d (.PN []),Z'⟩ Q:=rfl
def aV(d:Option Nat)(l:List aK)(g:Nat->V×ag):FZ P O n f l k d st Q (some g)=∀id,st.U id=none->step P O n f (.d l k) ⟨aZ st.s d (g id).1,(g id).2⟩ Q:=rfl
def yW(d:Option Nat)(op:Qp)(x:VX)(b:Bool)(l:List aK):step P O n (f+1) (.r (.ops (⟨d,op,some (x,b)⟩::l)::k)) st Q=gR P O n f (x.ev st.s) d op x b l k st Q:=rfl
def FI(d:Option Nat)(op:Qp)(x:VX)(b:Bool)(l:List aK):gR P O n f (.PN []) d op x b l k st Q=step P O n f (.r (.ops l::k)) ⟨aZ st.s d (.PN []),st.U⟩ Q:=rfl
def I5(d:Option Nat)(op:Qp)(x:VX)(l:List aK):gR P O n f (.bool true) d op x true l k st Q=uP P O n f (bx op) d op (some (x,true)) l k (st.lit x (.bool true)) Q:=by simp[gR,dY,both]
def Jc(d:Option Nat)(op:Qp)(x:VX)(l:List aK):gR P O n f (.bool false) d op x false l k st Q=uP P O n f (bx op) d op (some (x,false)) l k (st.lit x (.bool false)) Q:=by simp[gR,dY,both]
def Je(d:Option Nat)(op:Qp)(x:VX)(l:List aK):gR P O n f (.bool true) d op x false l k st Q=step P O n f (.r (.ops l::k)) ⟨aZ (st.lit x (.bool true)).s d (.PN []),(st.lit x (.bool true)).U⟩ Q:=by simp[gR,dY,both]
def IZ(d:Option Nat)(op:Qp)(x:VX)(l:List aK):gR P O n f (.bool false) d op x true l k st Q=step P O n f (.r (.ops l::k)) ⟨aZ (st.lit x (.bool false)).s d (.PN []),(st.lit x (.bool false)).U⟩ Q:=by simp[gR,dY,both]
def zO(p:Prop)[Decidable p](d:Option Nat)(op:Qp)(x:VX)(l:List aK):gR P O n f (.bool (decide p)) d op x true l k st Q=
 ((p->uP P O n f (bx op) d op (some (x,true)) l k (st.lit x (.bool true)) Q)/\(¬p->step P O n f (.r (.ops l::k)) ⟨aZ (st.lit x (.bool false)).s d (.PN []),(st.lit x (.bool false)).U⟩ Q)):=by simp[gR,dY,both]
def zQ(p:Prop)[Decidable p](d:Option Nat)(op:Qp)(x:VX)(l:List aK):gR P O n f (.bool (decide p)) d op x false l k st Q=
 ((¬p->uP P O n f (bx op) d op (some (x,false)) l k (st.lit x (.bool false)) Q)/\(p->step P O n f (.r (.ops l::k)) ⟨aZ (st.lit x (.bool true)).s d (.PN []),(st.lit x (.bool true)).U⟩ Q)):=by simp[gR,dY,both]
def Aq(d:Option Nat)(op:Qp)(x:VX)(b:Bool)(l:List aK):step P O n (f+1) (.d (⟨d,op,some (x,b)⟩::l) k) st Q=gD P O n f (x.ev st.s) d op x b l k st Q:=rfl
def G2(d:Option Nat)(op:Qp)(x:VX)(b:Bool)(l:List aK):gD P O n f (.PN []) d op x b l k st Q=step P O n f (.d l k) ⟨aZ st.s d (.PN []),st.U⟩ Q:=rfl
def I2(d:Option Nat)(op:Qp)(x:VX)(l:List aK):gD P O n f (.bool true) d op x true l k st Q=vR P O n f (bx op) d op (some (x,true)) l k (st.lit x (.bool true)) Q:=by simp[gD,dY,both]
def IQ(d:Option Nat)(op:Qp)(x:VX)(l:List aK):gD P O n f (.bool false) d op x false l k st Q=vR P O n f (bx op) d op (some (x,false)) l k (st.lit x (.bool false)) Q:=by simp[gD,dY,both]
def I1(d:Option Nat)(op:Qp)(x:VX)(l:List aK):gD P O n f (.bool true) d op x false l k st Q=step P O n f (.d l k) ⟨aZ (st.lit x (.bool true)).s d (.PN []),(st.lit x (.bool true)).U⟩ Q:=by simp[gD,dY,both]
def IL(d:Option Nat)(op:Qp)(x:VX)(l:List aK):gD P O n f (.bool false) d op x true l k st Q=step P O n f (.d l k) ⟨aZ (st.lit x (.bool false)).s d (.PN []),(st.lit x (.bool false)).U⟩ Q:=by simp[gD,dY,both]
def AZ(p:Prop)[Decidable p](d:Option Nat)(op:Qp)(x:VX)(l:List aK):gD P O n f (.bool (decide p)) d op x true l k st Q=
 ((p->vR P O n f (bx op) d op (some (x,true)) l k (st.lit x (.bool true)) Q)/\(¬p->step P O n f (.d l k) ⟨aZ (st.lit x (.bool false)).s d (.PN []),(st.lit x (.bool false)).U⟩ Q)):=by simp[gD,dY,both]
def AK(p:Prop)[Decidable p](d:Option Nat)(op:Qp)(x:VX)(l:List aK):gD P O n f (.bool (decide p)) d op x false l k st Q=
 ((¬p->vR P O n f (bx op) d op (some (x,false)) l k (st.lit x (.bool false)) Q)/\(p->step P O n f (.d l k) ⟨aZ (st.lit x (.bool true)).s d (.PN []),(st.lit x (.bool true)).U⟩ Q)):=by simp[gD,dY,both]
end rules
def bb(P:Program)(f:FuncId)(args:List V)(v:V):Prop:=∀U,aB P f args U λr Z'=>r=v/\Z'=U
variable {P:Program} {n:Nat} {st:St} {Q:St->Prop} {k:List It}
def lB:ag:=λ_=>none
def pJ(U:ag):aa lB U:=λ_ _ h=>by simp[lB]at h
def V.lone:V->Bool
 |.int ..|.bool _|.str _=>true
 |_=>false
def E'.lone{I Y':Mu}{ow R9:Nat->Prop}{w w':World}{v:V}{x:Value}(hv:v.lone=true)(h:E' I ow w v x):E' Y' R9 w' v x:=by
 cases v<;>simp only[V.lone,jz]at hv<;>simpa[E']using h
def av(v:V)(U:ag)(Post:V->ag->Prop):Prop:=∃v' Z',aa Z' U/\Wk U Z' v v'/\Post v' Z'
def CQ{s:Nat->V}{U:ag}{d:Nat}{Post:V->ag->Prop}:TF [.tmp (.t d)] ⟨s,U⟩ Post=av (s d) U Post:=by
 apply propext;simp only[TF,av,qF,gM,iU,VX.ev];constructor
 .rintro⟨v,v',Z',h1,h2⟩;simp only[bf]at h1;subst h1;exact⟨v',Z',h2⟩
 .rintro⟨v',Z',h2⟩;exact⟨_,v',Z',rfl,h2⟩
def CG{s:Nat->V}{U:ag}{d e:Nat}{Post:V->ag->Prop}:TF [.tmp (.t d),.tmp (.t e)] ⟨s,U⟩ Post=av (.PN [s d,s e]) U Post:=by
 apply propext;simp only[TF,av,qF,gM,iU,VX.ev];constructor
 .rintro⟨v,v',Z',h1,h2⟩;simp only[bf]at h1;subst h1;exact⟨v',Z',h2⟩
 .rintro⟨v',Z',h2⟩;exact⟨_,v',Z',rfl,h2⟩
def xp{s:Nat->V}{U:ag}{d e g:Nat}{Post:V->ag->Prop}:TF [.tmp (.t d),.tmp (.t e),.tmp (.t g)] ⟨s,U⟩ Post=av (.PN [s d,s e,s g]) U Post:=by
 apply propext;simp only[TF,av,qF,gM,iU,VX.ev];constructor
 .rintro⟨v,v',Z',h1,h2⟩;simp only[bf]at h1;subst h1;exact⟨v',Z',h2⟩
 .rintro⟨v',Z',h2⟩;exact⟨_,v',Z',rfl,h2⟩
def zU{st:St}{Post:V->ag->Prop}:TF [] st Post=av (.PN []) st.U Post:=by
 apply propext;simp only[TF,av,qF,gM];constructor
 .rintro⟨v,v',Z',h1,h2⟩;simp only[bf]at h1;subst h1;exact⟨v',Z',h2⟩
 .rintro⟨v',Z',h2⟩;exact⟨_,v',Z',rfl,h2⟩
def av.pure{v v0:V}{U Z1:ag}(h:aa U Z1)(hv:v=v0):av v Z1 λr Z'=>r=v0/\Z'=U:=
 ⟨v,U,h,Wk.refl h v,hv,rfl⟩
def av.same{v v0:V}{U:ag}(hv:v=v0):av v U λr Z'=>r=v0/\Z'=U:=.pure (aa.refl U) hv
def gk{U:ag}{id i:Nat}{o:Ob}:C' U id o i=none↔i≠id/\U i=none:=by
 unfold C';split<;>simp_all
def af{U:ag}{id:Nat}{o:Ob}:C' U id o id=some o:=by simp[C']
def ab{U:ag}{id i:Nat}{o:Ob}(h:i≠id):C' U id o i=U i:=by simp[C',h]
def dN{U:ag}{id i:Nat}(h:i≠id):del U id i=U i:=by simp[del,h]
def tj{U:ag}{id:Nat}{a b:Ob}:C' (C' U id a) id b=C' U id b:=by
 funext i;simp only[C'];split<;>rfl
def CF{U:ag}{id:Nat}{a:Ob}(h:U id=none):del (C' U id a) id=U:=by
 funext i;simp only[del,C'];split
 .rename_i e;rw[e,h]
 .rfl
def aa.C'{Z' U:ag}{id:Nat}{o:Ob}(h:aa Z' U)(M':U id=none):aa Z' (Vc.C' U id o):=
 h.IJ (by
  cases hs:Z' id with
  |none=>rfl
  |some x=>have:=h id x hs;rw[M']at this;cases this)
def aa.Kv{U Z':ag}{id:Nat}{o:Ob}(h:aa U Z'):aa (Vc.C' U id o) (Vc.C' Z' id o):=λi x hx=>by
 simp only[Vc.C']at hx|-;split at hx
 .rename_i e;rw[aE e];exact hx
 .rename_i e;rw[aH e];exact h i x hx
variable {P:Program} {n:Nat} {st:St} {Q:St->Prop} {k:List It} {I:Mu} {w:World}
def wq{rows:List V}{sz:Nat}(h:∀r∈rows,r.cells.length=sz)(k:Nat):flat (rows.drop k)=(flat rows).drop (k*sz):=by
 induction rows generalizing k with
 |nil=>simp[flat]
 |cons r rs ih=>
  have e:∀l,flat (r::l)=r.cells++flat l:=λl=>by simp[flat]
  cases k with
  |zero=>simp[flat]
  |succ k=>
   rw[MO,e,ih (λx hx=>h x (by simp[hx])),Nat.add_mul,Nat.one_mul,BP,<-h r (by simp),<-List.drop_drop,List.drop_left]
def ax.replicate{ow:Nat->Prop}{vs:List V}{l:List Value}(h:ax I ow w vs l):∀n,ax I ow w (List.replicate n vs).flatten (List.replicate n l).flatten
 |0=>by simp[ax]
 |n+1=>by
  simp only[List.replicate_succ,List.flatten_cons];exact h.append (ax.replicate h n)
def AD{F:Fr}{a:Act}(hs:dh F I st a w){o:Oper}{x:Operand}{t e:TypeId}{args:Array Operand}{argTypes:Array TypeId}{i:TypeInfo}{z:Value}
 (UT:o.op=.call { callee:=.builtin .clear,args:=args,argTypes:=argTypes })(harg:args=#[x])(Vr:argTypes[0]?=some t)
 (ht:P.underlying t=some (.slice e))(hz:zeroOf P e=some (i,z)){id off len:Nat}(h1:(cx F.n x).ev st.s=.own id off len){ob:Ob}(h2:st.U id=some ob)
 (h3:ob.sz=i.size)(h4:off+len<=ob.rows.length):
 ∃y w',(execOp a.eval o).run P w=.ok (.value y) w'/\
  dh F I ⟨aZ st.s (o.dst.filter (·<F.n)) (.PN []),C' st.U id { ob with rows:=ob.rows.take off++List.replicate len (ofValue z)++ob.rows.drop (off+len) }⟩ (a.put o.dst y) w':=by
 obtain⟨hi,Ye,hk,XN,Rb,RS⟩:=eP hz;have R:=cz hs;have hx:=R x;rw[h1]at hx;simp only[E']at hx;have Qq:∀w',(Builtin.clear_ argTypes o.type #[a.eval x]).run P w=.ok (.tuple #[]) w'->(execOp a.eval o).run P w=.ok (.value (.tuple #[])) w':=by
  intro w' hw';unfold execOp;rw[UT];simp[resolve,invoke,Go.builtin,harg,hw']
 have Rc:E' I (aI I st.U) w (.PN []) (.tuple #[]):=by simp only[E'];exact⟨[],rfl,by simp[ax]⟩
 have hzero:len=0->∃y w',(execOp a.eval o).run P w=.ok (.value y) w'/\
  dh F I ⟨aZ st.s (o.dst.filter (·<F.n)) (.PN []),C' st.U id { ob with rows:=ob.rows.take off++List.replicate len (ofValue z)++ob.rows.drop (off+len) }⟩ (a.put o.dst y) w':=by
  intro h0;subst h0;have hX:∃b c,a.eval x=.slice b 0 c:=by
   split at hx
   .exact hx.elim
   .exact⟨_,_,hx.1⟩
   .obtain⟨o',c,h,_⟩:=hx;exact⟨_,_,h⟩
  obtain⟨b,c,hX⟩:=hX;have Qi:C' st.U id { ob with rows:=ob.rows.take off++List.replicate 0 (ofValue z)++ob.rows.drop (off+0) }=st.U:=by
   funext j;simp only[C',List.replicate_zero,kL,Nat.add_zero,ua];split
   .rename_i e';rw[e',h2]
   .rfl
  rw[Qi];refine⟨.tuple #[],w,Qq w ?_,hs.pure Rc⟩;rw[hX];cases b<;>simp[Builtin.clear_,Vr,run_underlying ht]
 split at hx
 .exact hx.elim
 .exact hzero hx.2.2
 .rename_i b Tr cap M';obtain⟨o',c,hX,c1,c2,c3,Ye⟩:=hx;by_cases h0:len=0
  .exact hzero h0
  have Q5:=hs.sat.obj id ob h2;rw[M']at Q5;obtain⟨cur,e1,e2,e3,e4,e5,e6,e7⟩:=Q5.plain Ye;obtain⟨g1,xs,g2,g3,g4,g5⟩:=e7.cur e1;have hoff:o'=off*Tr:=by
   rcases c3 with c3|c3
   .exact c3
   .omega
  subst hoff;have PZ:Tr=i.size:=by omega
  subst PZ;have hzl:z.cells.size=i.size:=XN;have YL:=kj z.cells len;have Si:(Builtin.zeroCells z.cells len).toList.length=len*i.size:=by rw[YL];simp[hzl]
  have hbound:off*i.size+len*i.size<=ob.rows.length*i.size:=by rw[<-Nat.add_mul];exact Nat.mul_le_mul_right _ h4
  have Xu:ob.rows.length*i.size<=cap*i.size:=Nat.mul_le_mul_right _ e5;have hone':∀u∈(Builtin.zeroCells z.cells len).toList,u.oneCell'=true:=by
   rw[YL];intro u hu;simp only[List.mem_flatten,List.mem_replicate]at hu;obtain⟨l,⟨_,rfl⟩,hu⟩:=hu;exact Rb u hu
  have Qi:=run_storeCells_at P b (off*i.size) ob.elem (Builtin.zeroCells z.cells len).toList 0 cur w e1 (by rw[Si];omega) hone';simp only[Nat.add_zero]at Qi;refine⟨.tuple #[],w.setRow b (cur.toList.take (off*i.size)++(Builtin.zeroCells z.cells len).toList++cur.toList.drop (off*i.size+(Builtin.zeroCells z.cells len).toList.length)).toArray,Qq _ ?_,?_⟩
  .rw[hX];obtain⟨m,rfl⟩:∃m,len=m+1:=⟨len-1,by omega⟩
   simp only[Builtin.clear_,Vr,Sem.run_bind,List.getElem?_toArray,Sem.run_pure,Result.andThen_ok,run_underlying ht,eg hz];simp[Qi,run_underlying ht,eg hz]
  .have V7:w.grownBy (w.setRow b (cur.toList.take (off*i.size)++(Builtin.zeroCells z.cells len).toList++cur.toList.drop (off*i.size+(Builtin.zeroCells z.cells len).toList.length)).toArray) (some b):=
    ⟨rfl,rfl,rfl,by simp,λkk _ T0=>setRow_other w b kk _ (λe=>T0 (by rw[e]))⟩
   have hzc:(ofValue z).cells.length=i.size:=by rw[gQ Rb];simp[hzl]
   have Uz:∀q∈ob.rows.take off++List.replicate len (ofValue z)++ob.rows.drop (off+len),q.cells.length=i.size:=by
    intro q hq;simp only[ei]at hq;rcases hq with(hq|hq)|hq
    .exact g1 q (qL hq)
    .rw[(List.mem_replicate.1 hq).2];exact hzc
    .exact g1 q (List.mem_of_mem_drop hq)
   have Uy:flat (ob.rows.take off++List.replicate len (ofValue z)++ob.rows.drop (off+len))=
    (flat ob.rows).take (off*i.size)++(List.replicate len (ofValue z).cells).flatten++(flat ob.rows).drop (off*i.size+len*i.size):=by
    rw[ij,ij,u5,qO g1];congr 1;rw[wq g1,Nat.add_mul]
   have hzr:ax I (aI I st.U) w (ofValue z).cells z.cells.toList:=by rw[gQ Rb];exact fc _
   have ZI:=hs.sat.change h2 M' (by omega) V7 _ (ob.rows.take off++List.replicate len (ofValue z)++ob.rows.drop (off+len)) (xs.take (off*i.size)++(Builtin.zeroCells z.cells len).toList++xs.drop (off*i.size+(Builtin.zeroCells z.cells len).toList.length))
    (setRow_heap w b cur _ ob.elem _ e1) (by simp only[List.size_toArray,gY,kK,wh,Si];rw[Array.length_toList];omega) (by simp;omega) Uz
    (by rw[Uy,Si,YL];exact((g2.take _).append (hzr.replicate len)).append (g2.drop _))
    (by intro u hu
        simp only[ei]at hu;rcases hu with(hu|hu)|hu
        .exact g3 u (qL hu)
        .exact hone' u hu
        .exact g3 u (List.mem_of_mem_drop hu))
    (by intro j u hu
        have:=lE cur.toList xs _ g5 (off*i.size) (by rw[Si,g4];omega) j u hu;simpa using this)
   exact hs.step ZI.1 (dd.refl _) ZI.2 (by simp) (by simp only[E'];exact⟨[],rfl,by simp[ax]⟩)
def ae.clear{i:aK}{l:List aK}{sz:Nat}{z:V}{xv:VX}(hw:bB st.s i.g=some true)(ho:i.op=.clear sz z xv)
 {id off len:Nat}(h1:xv.ev st.s=.own id off len){ob:Ob}(h2:st.U id=some ob)(h3:ob.sz=sz)(h4:off+len<=ob.rows.length)
 (h:ae P n (.ops l::k) ⟨aZ st.s i.dst (.PN []),C' st.U id { ob with rows:=ob.rows.take off++List.replicate len z++ob.rows.drop (off+len) }⟩ Q):ae P n (.ops (i::l)::k) st Q:=by
 refine ae.ins (by rw[ho];simp) hw λF hn I a w o all hi hs next Q' PL=>?_
 subst hn;obtain⟨PV,hd⟩:=dP hi;rw[ho]at PV;obtain⟨x,t,e,args,argTypes,ti,zv,g1,g2,g3,g4,g5,rfl,rfl,rfl⟩:=El PV;obtain⟨y,w',hx,PZ⟩:=AD hs g1 g2 g3 g4 g5 h1 h2 h3 h4;unfold Oper.wp;rw[hx];refine PL _ _ _ ⟨I,?_⟩ h;rw[<-hd];exact PZ
def EM{y:Operand}{t:TypeId}{v:V}:cx n y≠.c (.iface t v):=by
 cases y
 case tmp m=>simp only[cx];split<;>simp
 case const u=>
  simp only[cx,ne_eq,VX.c.injEq];unfold ofValue;split
  .split<;>simp
  .unfold cellOf
   repeat' split
   all_goals simp
 all_goals simp[cx]
def zr{o:Op}{xa:VX}(h:P3 P n o=.SE false xa (.c (.iface 0 .undef))):∃t x y m c yt e,o=.binOp .eql t x y yt/\y=.const (.slice none m c)/\P.underlying t=some (.slice e)/\cx n x=xa:=by
 cases o
 case binOp op t x y yt=>
  simp only[P3]at h;split at h
  .cases op<;>simp only[reduceCtorEq,Qp.SE.injEq,Bool.true_eq_false,false_and]at h;exact absurd h.2.2 EM
  .split at h
   .cases op<;>simp only[reduceCtorEq]at h
   .cases h
  .split at h
   .rename_i hs;unfold cu at h;split at h
    .rename_i hy;obtain⟨rfl,hy⟩:=hy;simp only[Qp.SE.injEq,and_true,true_and]at h;unfold yy at hs;split at hs
     .rename_i e ht;unfold DK MP at hy;split at hy
      .split at hy
       .exact⟨t,x,_,_,_,yt,e,rfl,rfl,ht,h⟩
       .cases hy
      .cases hy
     .cases hs
    .cases h
   .split at h
    .split at h
     .simp only[Qp.SE.injEq,VX.c.injEq,V.iface.injEq]at h;exact absurd h.2.2.1 (by decide)
     .cases h
    .split at h
     .split at h
      .simp only[Qp.SE.injEq,VX.c.injEq,V.iface.injEq]at h;exact absurd h.2.2.1 (by decide)
      .cases h
     ·(repeat' split at h)<;>cases h
 case call c=>
  obtain⟨callee,args,argTypes⟩:=c;cases callee
  case builtin b=>cases b<;>simp only[P3]at h<;>(repeat' split at h)<;>cases h
  all_goals (simp only[P3]at h;cases h)
 case unOp op t x=>cases op<;>simp only[P3]at h<;>cases h
 case makeFunc f a b=>cases f<;>simp only[P3]at h<;>(repeat' split at h)<;>cases h
 all_goals (simp only[P3]at h;(repeat' split at h)<;>cases h)
def ae.DK{i:aK}{l:List aK}{xa:VX}(hw:bB st.s i.g=some true)(ho:i.op=.SE false xa (.c (.iface 0 .undef))){sz:Nat}{rows:List V}
 (hx:xa.ev st.s=.sl sz rows)(h:∀b,(b=true->rows=[])->ae P n (.ops l::k) ⟨aZ st.s i.dst (.bool b),st.U⟩ Q):ae P n (.ops (i::l)::k) st Q:=by
 refine ae.ins (by rw[ho];simp) hw λF hn I a w o all hi hs next Q' PL=>?_
 subst hn;obtain⟨PV,hd⟩:=dP hi;rw[ho]at PV;obtain⟨t,x,y,m,c,yt,e,g1,rfl,g2,rfl⟩:=zr PV;have R:=cz hs x;rw[hx]at R;simp only[E']at R;obtain⟨ba,cap,hX,_,hr⟩:=R;have Qq:(execOp a.eval o).run P w=.ok (.value (.bool ba.isNone)) w:=by
  unfold execOp;rw[g1];have hY:a.eval (.const (.slice none m c))=.slice none m c:=rfl;simp[hX,hY,eqGuard,Lib.run_eql_slice_nil w t e ba rows.length cap m c g2]
 unfold Oper.wp;rw[Qq];refine PL _ _ _ ⟨I,?_⟩ (h ba.isNone ?_)
 .rw[<-hd];exact hs.pure (by simp[E'])
 .intro hb;rcases hr with hr|⟨b,off,rfl,_⟩
  .exact hr
  .cases hb
variable {P:Program} {n:Nat} {st:St} {Q:St->Prop} {k:List It}
def Cc(l:List Nat)(s:Nat->V):Nat->V:=λi=>if l.contains i then s i else .undef
def Ay(l:List Nat)(s:Nat->V)(i:Nat):Cc l s i=if l.contains i then s i else .undef:=rfl
def mix(m:Nat)(a b:Nat->V):Nat->V:=λi=>if i<m then a i else b i
def CZ(m:Nat)(a b:Nat->V)(i:Nat):mix m a b i=if i<m then a i else b i:=rfl
def FO(m:Nat)(s:Nat->V):mix m s s=s:=by funext i;simp[mix]
def py(s:Nat->V)(v:V):aZ s none v=s:=rfl
def Ch{m d:Nat}(h:d<m)(a b:Nat->V)(v:V):aZ (mix m a b) (some d) v=mix m (aZ a (some d) v) b:=by
 funext i;simp only[aZ,mix];split
 .rename_i e;subst e;simp[h]
 .split<;>rfl
def CD{m d:Nat}(h:m<=d)(a b:Nat->V)(v:V):aZ (mix m a b) (some d) v=mix m a (aZ b (some d) v):=by
 funext i;simp only[aZ,mix];split
 .rename_i e;subst e;simp[Nat.not_lt.2 h]
 .split<;>rfl
def ae.mix(m:Nat){todo:List It}{s:Nat->V}{U:ag}(h:ae P n todo ⟨Vc.mix m s s,U⟩ Q):ae P n todo ⟨s,U⟩ Q:=by
 rw[FO]at h;exact h
def pS{s:Nat->V}{U:ag}{agg:Bool}{sz d:Nat}{Post:V->ag->Prop}:
 TF [.cell agg sz (.t d)] ⟨s,U⟩ Post=dq (cj U agg sz (s d)) λv=>av v U Post:=by
 unfold TF av qF;simp only[gM,iU,VX.ev];cases cj U agg sz (s d)<;>simp[dq]
def pQ{s:Nat->V}{U:ag}{agg:Bool}{sz d e:Nat}{Post:V->ag->Prop}:
 TF [.cell agg sz (.t d),.tmp (.t e)] ⟨s,U⟩ Post=dq (cj U agg sz (s d)) λv=>av (.PN [v,s e]) U Post:=by
 unfold TF av qF;simp only[gM,iU,VX.ev];cases cj U agg sz (s d)<;>simp[dq]
def aa.aD{Z0 U:ag}{id:Nat}{o:Ob}(h:aa Z0 U)(M':Z0 id=none):aa Z0 (Vc.C' U id o):=λi x hx=>by
 have P':i≠id:=λe=>by rw[e,M']at hx;cases hx
 rw[ab P'];exact h i x hx
def aa.none{a b:ag}(h:aa a b){i:Nat}(hi:b i=none):a i=none:=by
 cases ha:a i with
 |none=>rfl
 |some o=>rw[h i o ha]at hi;cases hi
def al{U:ag}{i j:Nat}{o:Ob}(h:U i=some o)(hj:U j=none):i≠j:=by rintro rfl;rw[h]at hj;cases hj
def ad{O:Rd P}{f:Nat}{d:Option Nat}{l:List aK}{v:Nat->V}{ob:Ob}{s:Nat->V}{U:ag}
 (h:∀id Z',aa U Z'->Z' id=some ob->U id=none->step P O n f (.r (.ops l::k)) ⟨aZ s d (v id),Z'⟩ Q):
 Hj P O n f l k d ⟨s,U⟩ Q (some λid=>(v id,Vc.C' U id ob)):=by
 rw[aN];exact λid M'=>h id _ ((aa.refl U).C' M') af M'
def bc{O:Rd P}{f:Nat}{d:Option Nat}{l:List aK}{v:Nat->V}{ob:Ob}{s:Nat->V}{U:ag}
 (h:∀id Z',aa U Z'->Z' id=some ob->U id=none->step P O n f (.d l k) ⟨aZ s d (v id),Z'⟩ Q):
 FZ P O n f l k d ⟨s,U⟩ Q (some λid=>(v id,Vc.C' U id ob)):=by
 rw[aV];exact λid M'=>h id _ ((aa.refl U).C' M') af M'
def vT{O:Rd P}{f:Nat}(t:Bool)(a b:bM):cR P O n f (.bool t) a b k st Q=((t=true->step P O n f (.r (.code a::k)) st Q)/\(t=false->step P O n f (.r (.code b::k)) st Q)):=by
 cases t<;>simp[cR,dY,both]
def ae.aC{i:aK}{l:List aK}{fx:VX}{xs:List VX}{s:Nat->V}{U:ag}{f:FuncId}{caps:List V}{v:V}(hw:bB s i.g=some true)(ho:i.op=.call fx xs)
 (hf:fx.ev s=.fn f caps)(hc:aB P f (xs.map (·.ev s)++caps) U λr Z'=>r=v/\Z'=U)(h:ae P n (.ops l::k) ⟨aZ s i.dst v,U⟩ Q):
 ae P n (.ops (i::l)::k) ⟨s,U⟩ Q:=by
 refine ae.call hw ho hf hc ?_;rintro r Z' ⟨rfl,rfl⟩;exact h
def yX(op:BinOp)(k:IntKind)(a b:Int):DT op (.int k a) (.int k b)=dn op k a b:=by simp[DT]
def zP(op:BinOp)(a b:List UInt8):DT op (.str a) (.str b)=dp op a b:=rfl
def uq(op:BinOp)(k k':IntKind)(a b:Int):qI op (.int k a) (.int k' b)=dk op k a b:=rfl
def uh(op:BinOp)(a b:List UInt8):qI op (.str a) (.str b)=dv op a b:=rfl
def yQ(id off n:Nat):dR false (.own id off n)=some (.int .i64 n):=rfl
def CW(sz:Nat)(rows:List V):dR false (.sl sz rows)=some (.int .i64 rows.length):=rfl
def wo:dR false .aT=some (.int .i64 0):=rfl
def ze(s:List UInt8):dR true (.str s)=some (.int .i64 s.length):=rfl
def wy(U:ag)(Sr id off len:Nat)(k:IntKind)(j:Int):bS U Sr (.own id off len) (.int k j)=match U id with
 |some ob=>if ob.sz=Sr/\0<=j/\j<len then some (.ptr id (off+j.toNat) 0)else none
 |none=>none:=rfl
def wW(U:ag)(agg:Bool)(sz id i k:Nat):cj U agg sz (.ptr id i k)=match U id with
 |some ob=>match ob.rows[i]? with
  |some r=>if agg then(if k=0/\r.cells.length=sz then some (.agg r.cells)else if k+sz<=r.cells.length then some (.agg ((r.cells.drop k).take sz))else none)
     else r.cells[k]?
  |none=>none
 |none=>none:=rfl
def qi(U:ag)(sz:Nat)(vs:List V):cj U true sz (.rp (.agg vs))=if vs.length=sz then some (.agg vs)else none:=rfl
def qf(U:ag)(sz:Nat)(k:IntKind)(j:Int):cj U false sz (.rp (.int k j))=some (.int k j):=rfl
def Reads(U:ag)(sz:Nat)(agg:Bool)(sv:V)(rows:List V):Prop:=
 dR false sv=some (.int .i64 rows.length)/\∀(i:Nat) v,rows[i]?=some v->∃p,bS U sz sv (.int .i64 i)=some p/\cj U agg sz p=some v
def Reads.ints{U:ag}{l:List Int}:Reads U 1 false (.sl 1 (l.map (.int .i64 ·))) (l.map (.int .i64 ·)):=by
 refine⟨rfl,λi v hv=>?_⟩;obtain⟨n,hn,rfl⟩:∃n,l[i]?=some n/\v=.int .i64 n:=by
  rw[ph]at hv;cases h:l[i]? with
  |none=>simp[h]at hv
  |some n=>simp[h]at hv;exact⟨n,rfl,hv.symm⟩
 refine⟨.rp (.int .i64 n),?_,rfl⟩;simp[bS,hn]
def Reads.own{U:ag}{sz id off len:Nat}{ob:Ob}(ho:U id=some ob)(hs:ob.sz=sz)(hl:off+len<=ob.rows.length)(h1:∀r∈ob.rows,r.cells=[r]):
 Reads U sz false (.own id off len) ((ob.rows.drop off).take len):=by
 refine⟨by simp[dR];omega,λi v hv=>?_⟩;have hi:i<len:=by
  have:=(nY.1 hv).1;simp at this;omega
 have WT:ob.rows[off+i]?=some v:=by
  rw[List.getElem?_take,aE hi,Mi]at hv;exact hv
 refine⟨.ptr id (off+i) 0,?_,?_⟩
 .simp[bS,ho,hs,hi]
 .simp[cj,ho,WT,h1 v (vK WT)]
def ar{m:Int}(h1:-9223372036854775808<=m:=by omega)(h2:m<=9223372036854775807:=by omega):PY .i64 m:=by
 unfold PY;rw[IntKind.wrap_i64];omega
mutual
/-- no row's number in it -/
def V.vX:V->Bool
 |.own ..|.ptr ..|.yl _=>false
 |.sl _ rows=>jB rows
 |.rp v=>v.vX
 |.fn _ caps=>jB caps
 |.bm _ caps=>jB caps
 |.iface _ v=>v.vX
 |.agg c|.PN c=>jB c
 |_=>true
def jB:List V->Bool
 |[]=>true
 |v::vs=>v.vX&&jB vs
end
def aB.DW{P:Program}{f:FuncId}{args:List V}{U:ag}{Post TQ:V->ag->Prop}(h:aB P f args U Post)
 (hp:∀r Z',Post r Z'->av r Z' TQ):aB P f args U TQ:=⟨h.1,λI w PO hs hr=>(h.2 I w PO hs hr).mono λe w' ⟨r,Z',Y',val,h1,h2,h3,h4,h5⟩=>by
 obtain⟨v',Z'',g1,g2,g3⟩:=hp r Z' h2;exact⟨v',Z'',Y',val,h1,g3,h3,h4.drop g1,g2 Y' _ _ _ _ h4 h5⟩⟩
mutual
/-- the same,with each row of its own as one that is only read -/
inductive Fz(U:ag)(N:Nat->Prop):V->V->Prop
 |same (v:V) (h:v.vX=true):Fz U N v v
 |own (id off len:Nat) (ob:Ob) (rows:List V) (h1:U id=some ob) (h2:N id) (h3:off+len<=ob.rows.length) (h4:RM U N ((ob.rows.drop off).take len) rows):
    Fz U N (.own id off len) (.sl ob.sz rows)
 |nil (sz:Nat):Fz U N .aT (.sl sz [])
 |sl (sz:Nat) (rows rows':List V) (h:RM U N rows rows'):Fz U N (.sl sz rows) (.sl sz rows')
 |agg (cs ds:List V) (h:RM U N cs ds):Fz U N (.agg cs) (.agg ds)
 |PN (cs ds:List V) (h:RM U N cs ds):Fz U N (.PN cs) (.PN ds)
 |ptr (id i:Nat) (ob:Ob) (r u:V) (h1:U id=some ob) (h2:N id) (h3:ob.rows[i]?=some r) (h4:Fz U N r u):Fz U N (.ptr id i 0) (.rp u)
 |fn (f:FuncId) (cs ds:List V) (h:RM U N cs ds):Fz U N (.fn f cs) (.fn f ds)
 |bm (f:FuncId) (cs ds:List V) (h:RM U N cs ds):Fz U N (.bm f cs) (.bm f ds)
 |iface (t:TypeId) (v u:V) (h:Fz U N v u):Fz U N (.iface t v) (.iface t u)
inductive RM(U:ag)(N:Nat->Prop):List V->List V->Prop
 |nil:RM U N [] []
 |cons (v u:V) (vs us:List V) (h:Fz U N v u) (h':RM U N vs us):RM U N (v::vs) (u::us)
end
section
variable {U K:ag} {N:Nat->Prop} {I:Mu} {w0 w:World} {QC:Nat->Prop}
def bF.lift{ow R9:Nat->Prop}{v u:V}{b off:Nat}(hv:∀cs,v≠.agg cs)(hu:∀cs,u≠.agg cs)(h:∀x,E' I ow w v x->E' I R9 w u x)
 (hr:bF I ow w v b off):bF I R9 w u b off:=by
 have e1:∃x,w.cell? ⟨b,off,none⟩=some x/\E' I ow w v x/\x.oneCell'=true:=by
  cases v<;>first|exact absurd rfl (hv _)|simpa only[bF]using hr
 obtain⟨x,h1,h2,h3⟩:=e1;have e2:∃x,w.cell? ⟨b,off,none⟩=some x/\E' I R9 w u x/\x.oneCell'=true:=⟨x,h1,h x h2,h3⟩
 cases u<;>first|exact absurd rfl (hu _)|simpa only[bF]using e2
mutual
def Fz.down(hs:Sat w0 QC I U w)(hK:aa K U)(hN:∀id,N id->K id=none):∀{v u:V},Fz U N v u->(∀x,E' I (aI I U) w v x->E' I (aI I K) w u x)/\
 (∀b off,bF I (aI I U) w v b off->bF I (aI I K) w u b off)/\u.cells.length=v.cells.length
 |_,_,.same v h=>⟨λx hr=>E'.mono (dd.refl I) (dg.sub w hK) (Qt _) v x hr,λb off hr=>bF.mono (dd.refl I) (dg.sub w hK) (Qt _) v b off rfl hr,rfl⟩
 |_,_,.own id off len ob rows ho h2 hl h4=>by
  have hd:=RM.down hs hK hN h4;have key:∀x,E' I (aI I U) w (.own id off len) x->E' I (aI I K) w (.sl ob.sz rows) x:=by
   intro x hr;simp only[E']at hr|-;have hlen:rows.length=len:=by rw[hd.2.2.2];simp;omega
   have Q5:=hs.obj id ob ho;split at hr
   .exact hr.elim
   .obtain⟨rfl,rfl,rfl⟩:=hr;have:rows=[]:=qK hlen;subst this;exact⟨none,0,by simp,by simp,.inl rfl⟩
   .rename_i b sz cap hb;obtain⟨o,c,rfl,h1,h2',h3,hz⟩:=hr;refine⟨_,c,by rw[hlen],by omega,?_⟩;by_cases h0:len=0
    .left;exact qK (by omega)
    .right;rw[hb]at Q5;obtain⟨g1,g2,g3,g4,g5⟩:=Q5.rows hz;have ho':o=off*sz:=by
      rcases h3 with h3|h3
      .exact h3
      .omega
     subst ho' g1;refine⟨b,_,rfl,?_,g2,?_⟩
     .rintro⟨Sq,ZL,SC,Rl,e1,e2⟩;have:=hs.inj Sq id ZL ob _ _ _ _ _ (hK _ _ e1) ho e2 hb;rw[this,hN id h2]at e1;cases e1
     .have:=(g5.drop off).take len;rw[kI]at this;exact hd.2.2.1 _ _ _ this
  exact⟨key,λb Ux hr=>bF.lift (λ_=>by simp) (λ_=>by simp) key hr,rfl⟩
 |_,_,.nil sz=>by
  have key:∀x,E' I (aI I U) w .aT x->E' I (aI I K) w (.sl sz []) x:=λx hr=>by
   simp only[E']at hr|-;exact⟨none,0,by simpa using hr,by simp,.inl trivial⟩
  exact⟨key,λb Ux hr=>bF.lift (λ_=>by simp) (λ_=>by simp) key hr,rfl⟩
 |_,_,.sl sz rows rows' h=>by
  have hd:=RM.down hs hK hN h;have key:∀x,E' I (aI I U) w (.sl sz rows) x->E' I (aI I K) w (.sl sz rows') x:=λx hr=>by
   simp only[E']at hr|-;obtain⟨a,cap,rfl,h1,h2⟩:=hr;refine⟨a,cap,by rw[hd.2.2.2],by rw[hd.2.2.2];exact h1,?_⟩;rcases h2 with h2|⟨b,off,h3,h4,h5,h6⟩
   .left;have:=hd.2.2.2;rw[h2]at this;exact qK this
   .exact .inr ⟨b,off,h3,λho=>h4 (ho.sub hK),h5,hd.2.2.1 _ _ _ h6⟩
  exact⟨key,λb Ux hr=>bF.lift (λ_=>by simp) (λ_=>by simp) key hr,rfl⟩
 |_,_,.agg cs ds h=>by
  have hd:=RM.down hs hK hN h;refine⟨λx hr=>?_,λb off hr=>?_,by simp only[V.cells];exact hd.2.2.2⟩
  .simp only[E']at hr|-;obtain⟨PO,rfl,h1,h2⟩:=hr;exact⟨PO,rfl,hd.1 _ h1,h2⟩
  .simp only[bF]at hr|-;exact hd.2.1 _ _ hr
 |_,_,.PN cs ds h=>by
  have hd:=RM.down hs hK hN h;have key:∀x,E' I (aI I U) w (.PN cs) x->E' I (aI I K) w (.PN ds) x:=λx hr=>by
   simp only[E']at hr|-;obtain⟨PO,rfl,h1⟩:=hr;exact⟨PO,rfl,hd.1 _ h1⟩
  exact⟨key,λb Ux hr=>bF.lift (λ_=>by simp) (λ_=>by simp) key hr,rfl⟩
 |_,_,.ptr id i ob r u ho h2 hi h4=>by
  have hd:=Fz.down hs hK hN h4;have key:∀x,E' I (aI I U) w (.ptr id i 0) x->E' I (aI I K) w (.rp u) x:=by
   intro x hr;simp only[E']at hr|-;have Q5:=hs.obj id ob ho;split at hr
   .rename_i b sz cap hb;obtain⟨rfl,hz⟩:=hr;rw[hb]at Q5;obtain⟨g1,g2,g3,g4,g5⟩:=Q5.rows hz;obtain⟨e1,e2⟩:=g5.get hi;rw[kI]at e2;have Qr:¬aI I K b:=by
     rintro⟨Sq,ZL,SC,Rl,e1,e2⟩;have:=hs.inj Sq id ZL ob _ _ _ _ _ (hK _ _ e1) ho e2 hb;rw[this,hN id h2]at e1;cases e1
    refine⟨b,i*sz,by simp,?_,.inr Qr,hd.2.1 _ _ ((eh _ _ _ _ _ _).2 e2)⟩;cases hc:r.cells with
    |nil=>rw[hc]at e1;simp at e1;omega
    |cons c cs=>
     rw[hc]at e2;simp only[aW]at e2;obtain⟨⟨y,hy,_⟩,_⟩:=e2;exact World.block_lt_of_cell? w _ hy
   .exact hr.elim
  exact⟨key,λb Ux hr=>bF.lift (λ_=>by simp) (λ_=>by simp) key hr,rfl⟩
 |_,_,.fn f cs ds h=>by
  have hd:=RM.down hs hK hN h;have key:∀x,E' I (aI I U) w (.fn f cs) x->E' I (aI I K) w (.fn f ds) x:=λx hr=>by
   simp only[E']at hr|-;obtain⟨PO,rfl,h1⟩:=hr;exact⟨PO,rfl,hd.1 _ h1⟩
  exact⟨key,λb Ux hr=>bF.lift (λ_=>by simp) (λ_=>by simp) key hr,rfl⟩
 |_,_,.bm f cs ds h=>by
  have hd:=RM.down hs hK hN h;have key:∀x,E' I (aI I U) w (.bm f cs) x->E' I (aI I K) w (.bm f ds) x:=λx hr=>by
   simp only[E']at hr|-;obtain⟨PO,rfl,h1⟩:=hr;exact⟨PO,rfl,hd.1 _ h1⟩
  exact⟨key,λb Ux hr=>bF.lift (λ_=>by simp) (λ_=>by simp) key hr,rfl⟩
 |_,_,.iface t v u h=>by
  have hd:=Fz.down hs hK hN h;have key:∀x,E' I (aI I U) w (.iface t v) x->E' I (aI I K) w (.iface t u) x:=λx hr=>by
   simp only[E']at hr|-;obtain⟨y,rfl,h1⟩:=hr;exact⟨y,rfl,hd.1 _ h1⟩
  exact⟨key,λb Ux hr=>bF.lift (λ_=>by simp) (λ_=>by simp) key hr,rfl⟩
def RM.down(hs:Sat w0 QC I U w)(hK:aa K U)(hN:∀id,N id->K id=none):∀{vs us:List V},RM U N vs us->(∀l,ax I (aI I U) w vs l->ax I (aI I K) w us l)/\
 (∀b off,aW I (aI I U) w vs b off->aW I (aI I K) w us b off)/\(∀b off sz,bg I (aI I U) w vs b off sz->bg I (aI I K) w us b off sz)/\us.length=vs.length
 |_,_,.nil=>⟨λl h=>by simpa[ax]using h,λ_ _ _=>by simp[aW],λ_ _ _ _=>by simp[bg],rfl⟩
 |_,_,.cons v u vs us h h'=>by
  have hd:=Fz.down hs hK hN h;have hd':=RM.down hs hK hN h';refine⟨λl hr=>?_,λb off hr=>?_,λb off sz hr=>?_,by simp[hd'.2.2.2]⟩
  .simp only[ax]at hr|-;obtain⟨x,xs,rfl,h1,h2⟩:=hr;exact⟨x,xs,rfl,hd.1 _ h1,hd'.1 _ h2⟩
  .simp only[aW]at hr|-;obtain⟨⟨x,h1,h2,h3⟩,h4⟩:=hr;exact⟨⟨x,h1,hd.1 _ h2,h3⟩,hd'.2.1 _ _ h4⟩
  .simp only[bg]at hr|-;exact⟨by rw[hd.2.2];exact hr.1,hd.2.1 _ _ hr.2.1,hd'.2.2.1 _ _ _ hr.2.2⟩
end
def Fz.wk{v u:V}(h:Fz U N v u)(hK:aa K U)(hN:∀id,N id->K id=none):Wk U K v u:=λ_ _ _ _ x hs hr=>(Fz.down hs hK hN h).1 x hr
end
def BB:(((((((type_of%@CX)/\(type_of%@CQ))/\((type_of%@CG)/\(type_of%@xp)))/\(((type_of%@zU)/\(type_of%@pS))/\((type_of%@pQ)/\(type_of%@rP))))/\((((type_of%@uM)/\(type_of%@rU))/\((type_of%@sc)/\(type_of%@Ap)))/\(((type_of%@CS)/\(type_of%@wz))/\((type_of%@Am)/\(type_of%@zE)))))/\(((((type_of%@Cq)/\(type_of%@zH))/\((type_of%@ue)/\(type_of%@CM)))/\(((type_of%@Au)/\(type_of%@yT))/\((type_of%@C1)/\(type_of%@zz))))/\((((type_of%@Ng)/\(type_of%@Nr))/\((type_of%@Fa)/\(type_of%@Cb)))/\(((type_of%@F1)/\(type_of%@GK))/\((type_of%@FJ)/\((type_of%@Fq)/\(type_of%@EK)))))))/\((((((type_of%@uB)/\(type_of%@vD))/\((type_of%@yO)/\(type_of%@tE)))/\(((type_of%@u7)/\(type_of%@vv))/\((type_of%@sq)/\(type_of%@Cm))))/\((((type_of%@GY)/\(type_of%@EC))/\((type_of%@Gs)/\(type_of%@F3)))/\(((type_of%@uo)/\(type_of%@sx))/\((type_of%@yW)/\((type_of%@FI)/\(type_of%@I5))))))/\(((((type_of%@Jc)/\(type_of%@Je))/\((type_of%@IZ)/\(type_of%@zO)))/\(((type_of%@zQ)/\(type_of%@Aq))/\((type_of%@G2)/\(type_of%@I2))))/\((((type_of%@IQ)/\(type_of%@I1))/\((type_of%@IL)/\(type_of%@AZ)))/\(((type_of%@AK)/\(type_of%@py))/\((type_of%@Ch)/\((type_of%@CD)/\(type_of%@CZ))))))))/\(((((((type_of%@xe)/\(type_of%@xB))/\((type_of%@Jg)/\(type_of%@I8)))/\(((type_of%@Nk)/\(type_of%@MG))/\((type_of%@yX)/\(type_of%@zP))))/\((((type_of%@uq)/\(type_of%@uh))/\((type_of%@yQ)/\(type_of%@CW)))/\(((type_of%@wo)/\(type_of%@ze))/\((type_of%@wy)/\(type_of%@wW)))))/\(((((type_of%@qi)/\(type_of%@qf))/\((type_of%@af)/\(type_of%@tj)))/\(((type_of%@true_implies)/\(type_of%@false_implies))/\((type_of%@implies_true.{0})/\(type_of%@Ay))))/\((((type_of%@List.getD_cons_zero.{0})/\(type_of%@List.getD_cons_succ.{0}))/\((type_of%@List.getD_nil.{0})/\(type_of%@List.map_cons.{0,0})))/\(((type_of%@List.map_nil.{0,0})/\(type_of%@List.length_cons.{0}))/\((type_of%@List.length_nil.{0})/\((type_of%@List.drop_succ_cons.{0})/\(type_of%@List.drop_zero.{0})))))))/\((((((type_of%@List.take_succ_cons.{0})/\(type_of%@List.take_zero.{0}))/\((type_of%@List.set_cons_zero.{0})/\(type_of%@List.set_cons_succ.{0})))/\(((type_of%@List.append_nil.{0})/\(type_of%@List.nil_append.{0}))/\((type_of%@List.cons_append.{0})/\(type_of%@List.all_cons.{0}))))/\((((type_of%@List.all_nil.{0})/\(type_of%@List.getElem?_cons_zero.{0}))/\((type_of%@List.getElem?_cons_succ.{0})/\(type_of%@List.contains_cons.{0})))/\(((type_of%@List.contains_nil.{0})/\(type_of%@Option.isSome_some.{0}))/\((type_of%@Option.map_some.{0,0})/\((type_of%@Option.map_none.{0,0})/\(type_of%@true_and))))))/\(((((type_of%@and_true)/\(type_of%@and_self))/\((type_of%@Nat.zero_add)/\(type_of%@Nat.add_zero)))/\(((type_of%@Bool.not_true)/\(type_of%@Bool.not_false))/\((type_of%@Bool.false_eq_true)/\(type_of%@Bool.or_true))))/\((((type_of%@Bool.true_or)/\(type_of%@Bool.or_false))/\((type_of%@Bool.false_or)/\(type_of%@Bool.true_and)))/\(((type_of%@Bool.and_true)/\(type_of%@Bool.and_self))/\((type_of%@decide_true)/\((type_of%@decide_false)/\(type_of%@decide_eq_true_eq)))))))):=
 ⟨⟨⟨⟨⟨⟨⟨@CX,@CQ⟩,⟨@CG,@xp⟩⟩,⟨⟨@zU,@pS⟩,⟨@pQ,@rP⟩⟩⟩,⟨⟨⟨@uM,@rU⟩,⟨@sc,@Ap⟩⟩,⟨⟨@CS,@wz⟩,⟨@Am,@zE⟩⟩⟩⟩,⟨⟨⟨⟨@Cq,@zH⟩,⟨@ue,@CM⟩⟩,⟨⟨@Au,@yT⟩,⟨@C1,@zz⟩⟩⟩,⟨⟨⟨@Ng,@Nr⟩,⟨@Fa,@Cb⟩⟩,⟨⟨@F1,@GK⟩,⟨@FJ,⟨@Fq,@EK⟩⟩⟩⟩⟩⟩,⟨⟨⟨⟨⟨@uB,@vD⟩,⟨@yO,@tE⟩⟩,⟨⟨@u7,@vv⟩,⟨@sq,@Cm⟩⟩⟩,⟨⟨⟨@GY,@EC⟩,⟨@Gs,@F3⟩⟩,⟨⟨@uo,@sx⟩,⟨@yW,⟨@FI,@I5⟩⟩⟩⟩⟩,⟨⟨⟨⟨@Jc,@Je⟩,⟨@IZ,@zO⟩⟩,⟨⟨@zQ,@Aq⟩,⟨@G2,@I2⟩⟩⟩,⟨⟨⟨@IQ,@I1⟩,⟨@IL,@AZ⟩⟩,⟨⟨@AK,@py⟩,⟨@Ch,⟨@CD,@CZ⟩⟩⟩⟩⟩⟩⟩,⟨⟨⟨⟨⟨⟨@xe,@xB⟩,⟨@Jg,@I8⟩⟩,⟨⟨@Nk,@MG⟩,⟨@yX,@zP⟩⟩⟩,⟨⟨⟨@uq,@uh⟩,⟨@yQ,@CW⟩⟩,⟨⟨@wo,@ze⟩,⟨@wy,@wW⟩⟩⟩⟩,⟨⟨⟨⟨@qi,@qf⟩,⟨@af,@tj⟩⟩,⟨⟨@true_implies,@false_implies⟩,⟨@implies_true.{0},@Ay⟩⟩⟩,⟨⟨⟨@List.getD_cons_zero.{0},@List.getD_cons_succ.{0}⟩,⟨@List.getD_nil.{0},@List.map_cons.{0,0}⟩⟩,⟨⟨@List.map_nil.{0,0},@List.length_cons.{0}⟩,⟨@List.length_nil.{0},⟨@List.drop_succ_cons.{0},@List.drop_zero.{0}⟩⟩⟩⟩⟩⟩,⟨⟨⟨⟨⟨@List.take_succ_cons.{0},@List.take_zero.{0}⟩,⟨@List.set_cons_zero.{0},@List.set_cons_succ.{0}⟩⟩,⟨⟨@List.append_nil.{0},@List.nil_append.{0}⟩,⟨@List.cons_append.{0},@List.all_cons.{0}⟩⟩⟩,⟨⟨⟨@List.all_nil.{0},@List.getElem?_cons_zero.{0}⟩,⟨@List.getElem?_cons_succ.{0},@List.contains_cons.{0}⟩⟩,⟨⟨@List.contains_nil.{0},@Option.isSome_some.{0}⟩,⟨@Option.map_some.{0,0},⟨@Option.map_none.{0,0},@true_and⟩⟩⟩⟩⟩,⟨⟨⟨⟨@and_true,@and_self⟩,⟨@Nat.zero_add,@Nat.add_zero⟩⟩,⟨⟨@Bool.not_true,@Bool.not_false⟩,⟨@Bool.false_eq_true,@Bool.or_true⟩⟩⟩,⟨⟨⟨@Bool.true_or,@Bool.or_false⟩,⟨@Bool.false_or,@Bool.true_and⟩⟩,⟨⟨@Bool.and_true,@Bool.and_self⟩,⟨@decide_true,⟨@decide_false,@decide_eq_true_eq⟩⟩⟩⟩⟩⟩⟩⟩
def CC:(∀(l:List V),V.cells (.agg l)=l)/\(V.cells (.undef )=[.undef ])/\(∀(k:IntKind) (i:Int),V.cells (.int k i)=[.int k i])/\(∀(b:Bool),V.cells (.bool b)=[.bool b])/\(∀(s:List UInt8),V.cells (.str s)=[.str s])/\(V.cells (.aT )=[.aT ])/\(∀(a:Nat) (l:List V),V.cells (.sl a l)=[.sl a l])/\(∀(a b c:Nat),V.cells (.own a b c)=[.own a b c])/\(∀(a b c:Nat),V.cells (.ptr a b c)=[.ptr a b c])/\(∀(a:V),V.cells (.rp a)=[.rp a])/\(V.cells (.Uu )=[.Uu ])/\(∀(f:FuncId) (l:List V),V.cells (.fn f l)=[.fn f l])/\(∀(f:FuncId) (l:List V),V.cells (.bm f l)=[.bm f l])/\(V.cells (.Rj )=[.Rj ])/\(∀(t:TypeId) (a:V),V.cells (.iface t a)=[.iface t a])/\(V.cells (.Rk )=[.Rk ])/\(∀(l:List V),V.cells (.PN l)=[.PN l])/\(∀(x:Value),V.cells (.raw x)=[.raw x])/\(∀(a:Nat),V.cells (.gp a)=[.gp a])/\(∀(a:Nat),V.cells (.yl a)=[.yl a])/\(∀(a:Nat),V.cells (.mp a)=[.mp a])/\(∀(l:List V),V.stays (.agg l)=true)/\(V.stays (.undef )=false)/\(∀(k:IntKind) (i:Int),V.stays (.int k i)=true)/\(∀(b:Bool),V.stays (.bool b)=true)/\(∀(s:List UInt8),V.stays (.str s)=true)/\(V.stays (.aT )=true)/\(∀(a:Nat) (l:List V),V.stays (.sl a l)=true)/\(∀(a b c:Nat),V.stays (.own a b c)=true)/\(∀(a b c:Nat),V.stays (.ptr a b c)=true)/\(∀(a:V),V.stays (.rp a)=true)/\(V.stays (.Uu )=true)/\(∀(f:FuncId) (l:List V),V.stays (.fn f l)=true)/\(∀(f:FuncId) (l:List V),V.stays (.bm f l)=true)/\(V.stays (.Rj )=true)/\(∀(t:TypeId) (a:V),V.stays (.iface t a)=true)/\(V.stays (.Rk )=true)/\(∀(l:List V),V.stays (.PN l)=false)/\(∀(a:Nat),V.stays (.gp a)=true)/\(∀(a:Nat),V.stays (.yl a)=true)/\(∀(a:Nat),V.stays (.mp a)=true):=
 ⟨λ_=>rfl,rfl,λ_ _=>rfl,λ_=>rfl,λ_=>rfl,rfl,λ_ _=>rfl,λ_ _ _=>rfl,λ_ _ _=>rfl,λ_=>rfl,rfl,λ_ _=>rfl,λ_ _=>rfl,rfl,λ_ _=>rfl,rfl,λ_=>rfl,λ_=>rfl,λ_=>rfl,λ_=>rfl,λ_=>rfl,λ_=>rfl,rfl,λ_ _=>rfl,λ_=>rfl,λ_=>rfl,rfl,λ_ _=>rfl,λ_ _ _=>rfl,λ_ _ _=>rfl,λ_=>rfl,rfl,λ_ _=>rfl,λ_ _=>rfl,rfl,λ_ _=>rfl,rfl,λ_=>rfl,λ_=>rfl,λ_=>rfl,λ_=>rfl⟩
def Om{p:Prop}[Decidable p]:(!decide p)=decide (¬p):=decide_not.symm
def sR{P:Program}{n:Nat}{todo:List It}{st:St}{Q:St->Prop}(h:step P Rd.nothing n 300 (.r todo) st Q):ae P n todo st Q:=ae.bL Rd.nothing 300 h
def sG{P:Program}{n:Nat}{t:Td}{st:St}{Q:St->Prop}(h:step P Rd.nothing n 300 t st Q):Go P n t st Q:=Go.bL Rd.nothing 300 t st h
attribute [go_sem] BB CC Om Rd.nothing bx fb aM dn dk dp dv dG bO jj fG bz eR dr eQ cP cD bR gW cm cA cd QS jv cV bP jX cX bX cQ cC jf binBV bK cW
abbrev vI(n:Int):V:=.int .i64 n
structure Ru where
 (top P8 PS PG QE Qk Qw head before after inside clear:Int)
deriving DecidableEq
def Ru.cells(s:Ru):List V:=[vI s.top,vI s.P8,vI s.PS,vI s.PG,vI s.QE,vI s.Qk,vI s.Qw,vI s.head,vI s.before,vI s.after,vI s.inside,vI s.clear]
structure Nd where
 (kind size:Int)
 (st:Ru)
 (line space:Int)
 (words:List Int)
 (side w h:Int)
deriving DecidableEq
def bD(l:List Int):V:=.sl 1 (l.map vI)
def Nd.cells(x:Nd):List V:=[vI x.kind,vI x.size,vI x.st.top,vI x.st.P8,vI x.st.PS,vI x.st.PG,vI x.st.QE,vI x.st.Qk,vI x.st.Qw,vI x.st.head,vI x.st.before,vI x.st.after,vI x.st.inside,vI x.st.clear,
 vI x.line,vI x.space,bD x.words,vI x.side,vI x.w,vI x.h]
def ji(x:Nd):V:=.agg x.cells
def mx:Int:=1099511627776
def br(n a b:Int):Bool:=decide (n>=a/\n<=b)
def Ru.ok(s:Ru):Bool:=br s.top 0 mx&&br s.P8 0 mx&&br s.PS 0 mx&&br s.PG 0 mx&&br s.QE 0 mx&&br s.Qk 1 mx&&br s.Qw 1 mx&&br s.head 0 mx&&
 br s.before 0 4&&br s.after 0 4&&br s.inside 0 1&&br s.clear 0 3
def Ru.zero:Ru:=⟨0,0,0,0,0,0,0,0,0,0,0,0⟩
def aQ(l:List Nd):V:=.sl 20 (l.map ji)
def fe(l:List Nd):dR false (aQ l)=some (.int .i64 l.length):=by simp[aQ,dR]
def ai(l:List Nd):(aQ l).cells=[aQ l]:=rfl
def aJ(l:List Nd):(aQ l).stays=true:=rfl
variable {P:Program} {n:Nat} {st:St} {Q:St->Prop} {k:List It} {I:Mu} {w w':World}
abbrev gh(o:Obj)(env:List V:=[]):Ob:=⟨0,0,.obj o::env⟩
def Sat.Nh{w0:World}{QC:Nat->Prop}{U:ag}(h:Sat w0 QC I U w)(o:Obj)(env:List V)(he:ax I (aI I U) w env (tmpsOf o)):
 ∃id,U id=none/\∃Y':Mu,Y' id=.QA w.heap.size 0 0/\dd I Y'/\Sat w0 QC Y' (C' U id (gh o env)) (w.alloc o)/\dg (aI I U) (aI Y' (C' U id (gh o env))) w (w.alloc o):=by
 obtain⟨id,M',Qj,Qm⟩:=h.dQ;have hle:dd I (λk=>if k=id then .QA w.heap.size 0 0 else I k):=λk hk=>by
  have:k≠id:=λe'=>hk (e'▸M');simp[this]
 refine⟨id,Qj,λk=>if k=id then .QA w.heap.size 0 0 else I k,by simp,hle,?_⟩;refine h.put (row:=none) (World.grownBy_alloc w o none) (by simp) hle (Qm _) id (gh o env) (λo' ho=>?_) (λi o' hi ho=>?_) (λb' SC Rl SO=>?_) (λhk=>?_)
 .simp[C']at ho;exact ho.symm
 .simp only[C',aH hi]at ho;exact⟨ho,by simp⟩
 .simp only[if_true,Pl.QA.injEq]at SO;exact .inr (by omega)
 .simp only[if_true];exact .inr ⟨rfl,rfl,o,env,rfl,World.alloc_heap_new w o,ax.mono hle hk (by simp) _ _ he⟩
def Sat.No{w0:World}{QC:Nat->Prop}{U:ag}(h:Sat w0 QC I U w){id b cap:Nat}{o:Ob}(ho:U id=some o)(M':I id=.QA b 0 cap)(o':Obj)(env:List V)(he:ax I (aI I U) w env (tmpsOf o')):
 Sat w0 QC I (C' U id (gh o' env)) (w.putObj b o')/\dg (aI I U) (aI I (C' U id (gh o' env))) w (w.putObj b o'):=by
 have H':b<w.heap.size:=aI.lt h ⟨id,o,0,cap,ho,M'⟩;refine h.put (grownBy_putObj' w b o') (λb' SO=>by cases SO;exact⟨id,o,0,cap,ho,M'⟩) (dd.refl _) h.fin id (gh o' env) (λx Qh=>by simp[C']at Qh;exact Qh.symm)
  (λi x hi Qh=>?_) (λb' SC Rl SO=>?_) (λhk=>?_)
 .simp only[C',aH hi]at Qh;refine⟨Qh,λb' SC Rl h4 h5=>hi ?_⟩;cases h5;exact h.inj i id x o _ _ _ _ _ Qh ho h4 M'
 .rw[M']at SO;cases SO;exact .inl rfl
 .rw[M'];exact .inr ⟨rfl,rfl,o',env,rfl,World.putObj_heap_same H',ax.mono (dd.refl _) hk (by simp) _ _ he⟩
def Sat.Hg{w0:World}{QC:Nat->Prop}{U:ag}(h:Sat w0 QC I U w){id b cap:Nat}{o:Obj}{env:List V}(ho:U id=some (gh o env))(M':I id=.QA b 0 cap):w.heap[b]?=some o/\ax I (aI I U) w env (tmpsOf o):=by
 have:=h.obj id _ ho;rw[M']at this;rcases this with⟨_,_,_,h1,_⟩|⟨_,_,ob,V',h1,h2,h3⟩
 .omega
 .simp only[List.cons.injEq,V.obj.injEq]at h1;obtain⟨rfl,rfl⟩:=h1;exact⟨h2,h3⟩
variable {P:Program} {n:Nat} {st:St} {Q:St->Prop} {k:List It} {I:Mu} {w w':World}
def Sat.compose{w0:World}{QC:Nat->Prop}{I Y':Mu}{U Z':ag}(h0:Sat w0 QC I U w)(PZ:Sat w (aI I U) Y' Z' w'):
 Sat w0 QC Y' Z' w'/\dg (aI I U) (aI Y' Z') w w':=by
 have RU:dg (aI I U) (aI Y' Z') w w':=λb hb hn=>⟨λho=>hn (PZ.fresh b ho hb),PZ.same b hb hn⟩
 refine⟨⟨mq h0.size PZ.size,PZ.os.trans h0.os,PZ.tape.trans h0.tape,PZ.output.trans h0.output,?_,PZ.fin,PZ.inj,PZ.obj,?_,h0.SD⟩,RU⟩
 .intro b hb hn;have h1:¬aI I U b:=λho=>hn (h0.fresh b ho hb);exact(PZ.same b (Nat.lt_of_lt_of_le hb h0.size) h1).trans (h0.same b hb hn)
 .intro b hb H';exact h0.fresh b (PZ.fresh b hb (Nat.lt_of_lt_of_le H' h0.size)) H'
def Sat.here{w0:World}{QC:Nat->Prop}{U:ag}(h:Sat w0 QC I U w):Sat w (aI I U) I U w:=
 ⟨Qt _,rfl,rfl,rfl,λ_ _ _=>rfl,h.fin,h.inj,h.obj,λb hb _=>hb,h.pj⟩
def YC(P:Program)(Qe:Nat)(x:List V)(U:ag)(Post:Bool->ag->Prop):Prop:=
 ∀I w PO l c,I Qe=.QA l 0 c->Sat w (aI I U) I U w->ax I (aI I U) w x PO->
  YieldAt Fence.wide 0 P l PO.toArray w λe w'=>∃b Z' Y',e=.returned (.bool b)/\Post b Z'/\dd I Y'/\Sat w (aI I U) Y' Z' w'
def vO{F:Fr}{m m':Nat}{l:Nat}{f:FuncId}{tmps:Array Value}{assign body:Code}{R:Ending->World->Prop}
 (h:RoundIn Fence.wide m P l f tmps assign body w R):RoundIn F.eB m' P l f tmps assign body w R:=
 ⟨trivial,λc cs _=>h.2 c cs (room_wide _)⟩
def ae.mZ{i:aK}{l:List aK}{fx:VX}{xs:List VX}(hw:bB st.s i.g=some true)(ho:i.op=.call fx xs){Qe:Nat}(hf:fx.ev st.s=.yl Qe)
 {Post:Bool->ag->Prop}(hc:YC P Qe (xs.map (·.ev st.s)) st.U Post)
 (h:∀b Z',Post b Z'->ae P n (.ops l::k) ⟨aZ st.s i.dst (.bool b),Z'⟩ Q):ae P n (.ops (i::l)::k) st Q:=by
 refine ae.I0 hw λF hn I a w o all hi hs next Q' PL=>?_
 subst hn;obtain⟨PV,hd⟩:=dP hi;rw[ho]at PV;obtain⟨f0,args,argTypes,g1,rfl,rfl⟩:=nz PV;have SP:=cz hs f0;rw[hf]at SP;simp only[E']at SP;split at SP
 .rename_i lb c M';have QM:=nN hs args.toList;obtain⟨fn,tmps,assign,body,hy,hR⟩:=hc I w _ lb c M' hs.sat.here QM;have Qq:(execOp a.eval o).run P w=.ok (.round lb fn tmps assign body) w:=by
   unfold execOp;rw[g1];simp only[resolve,SP,Deferred.ofValue,Sem.run_bind,Sem.run_pure,Result.andThen_ok,invoke];rw[<-hy];congr 2;apply Array.ext';simp
  refine⟨λ_ _=>trivial,?_⟩;rw[Oper.semAt_eq _ _ _ (by rw[g1];intro c e;cases e),Qq];refine⟨kR F,vO (hR.mono ?_)⟩;rintro e w' ⟨b,Z',Y',rfl,hp,hle,PZ⟩;obtain⟨h1,h2⟩:=hs.sat.compose PZ;refine PL _ _ _ ⟨Y',?_⟩ (h b Z' hp);rw[<-hd];exact hs.step h1 hle h2 PZ.size (by simp[E'])
 .exact SP.elim
def bp(ZJ U Qd Z':ag):Prop:=aa Qd Z'/\∀id o,ZJ id=none->U id=some o->Z' id=some o/\Qd id=none
def bp.refl{ZJ U:ag}(h:aa ZJ U):bp ZJ U ZJ U:=⟨h,λ_ _ h1 h2=>⟨h2,h1⟩⟩
def bp.set{ZJ U Qd Z':ag}(h:bp ZJ U Qd Z'){id:Nat}{o o':Ob}(M':Qd id=some o):bp ZJ U (C' Qd id o') (C' Z' id o'):=
 ⟨h.1.Kv,λi x h1 h2=>by
  obtain⟨h3,h4⟩:=h.2 i x h1 h2;have:i≠id:=λe=>by rw[e,M']at h4;cases h4
  simp[Vc.C',this,h3,h4]⟩
def bp.new{ZJ U Qd Z':ag}(h:bp ZJ U Qd Z'){id:Nat}{o:Ob}(M':Z' id=none):bp ZJ U (C' Qd id o) (C' Z' id o):=
 ⟨h.1.Kv,λi x h1 h2=>by
  obtain⟨h3,h4⟩:=h.2 i x h1 h2;have:i≠id:=λe=>by rw[e,M']at h3;cases h3
  simp[Vc.C',this,h3,h4]⟩
def bp.qJ{ZJ U Qd Z':ag}(h:bp ZJ U Qd Z'){id:Nat}{o:Ob}(M':Z' id=none):bp ZJ U Qd (C' Z' id o):=
 ⟨h.1.trans (aa.C' (aa.refl _) M'),λi x h1 h2=>by
  obtain⟨h3,h4⟩:=h.2 i x h1 h2;have:i≠id:=λe=>by rw[e,M']at h3;cases h3
  simp[Vc.C',this,h3,h4]⟩
def Iter(P:Program)(g:FuncId)(caps:List V)(xs:List (List V)):Prop:=
 fW P g=true/\∀(Qe:Nat) (τ Jx:List (List V)->ag->Prop) (Z0:ag),
  (∀pre x post ZJ U,xs=pre++x::post->τ pre ZJ->aa ZJ U->
    YC P Qe x U λb Z'=>∃Qd,bp ZJ U Qd Z'/\((b=true/\τ (pre++[x]) Qd)\/(b=false/\Jx (pre++[x]) Qd)))->
  τ [] Z0->sM P g (.yl Qe::caps) Z0 λ_ Z'=>τ xs Z'\/∃pre,pre <+: xs/\Jx pre Z'
variable {P:Program} {n:Nat} {st:St} {Q:St->Prop} {k:List It} {I:Mu} {w w':World}
def mI(s:Nat->V):List Nat->List V->Nat->V
 |p::ps,x::xs=>mI (λi=>if i=p then x else s i) ps xs
 |_,_=>s
def exK:List (Nat×(St->Prop))->List It
 |[]=>[]
 |(id,μ)::l=>.inBlock id::.stop μ::exK l
def Cj{U Z':ag}{id:Nat}(h:aa U Z'):aa (del U id) (del Z' id):=λi o e=>by
 unfold del at e|-;split at e
 .cases e
 .rename_i hi;rw[aH hi];exact h i o e
def Sat.more{w0:World}{QC:Nat->Prop}{U:ag}(h:Sat w0 QC I U w)(o:Obj):Sat w0 QC I U (w.alloc o)/\dg (aI I U) (aI I U) w (w.alloc o):=by
 have RV:∀b,b<w.heap.size->(w.alloc o).heap[b]?=w.heap[b]?:=λb hb=>Go.RowKit.Below.heap_alloc w o b hb;have hk:dg (aI I U) (aI I U) w (w.alloc o):=λb hb hn=>⟨hn,RV b hb⟩
 refine⟨⟨by have:=h.size;simp;omega,h.os,h.tape,h.output,λb hb hn=>(RV b (Nat.lt_of_lt_of_le hb h.size)).trans (h.same b hb hn),h.fin,h.inj,λid ob ho=>?_,h.fresh,h.SD⟩,hk⟩;exact(h.obj id ob ho).mono (dd.refl I) hk (by simp) λb sz cap hp=>RV b (aI.lt h ⟨id,ob,sz,cap,ho,hp⟩)
def dh.enter{F:Fr}{a:Act}(hs:dh F I st a w)(fn:FuncId)(ps:Array Tmp)(assign body:Code):
 ∃mark W0 D,dh F I st { a with defers:=mark++a.defers } W0/\(Instr.enterLoop fn a.tmps ps assign body F.eB.round).run P w=
  .ok (W0.heap.size,mark) (W0.alloc (.loop { state:=.ready,pending:=none,fn,tmps:=a.tmps,params:=ps,assign,body,defers:=D })):=by
 cases hrd:F.rd with
 |some lr=>
  obtain⟨l0,r0⟩:=lr;obtain⟨h1,_⟩:=hs.book.rnd l0 r0 hrd;refine⟨[],w,r0.defers,hs,?_⟩;have:F.eB.round=some l0:=by simp[Fr.eB,hrd]
  rw[this];exact run_enterLoop_inner h1 fn a.tmps ps assign body
 |none=>
  have:F.eB.round=none:=by simp[Fr.eB,hrd]
  rw[this];refine⟨[{ target:=.collected w.heap.size,args:=#[] }],w.alloc (.deferred (some [])),w.heap.size,?_,?_⟩
  .obtain⟨h1,hk⟩:=hs.sat.more (.deferred (some []));have hb:=hs.book.vY hk;refine⟨h1,hs.le,hs.size,⟨hb.rnd,?_⟩,λi hi=>E'.mono (dd.refl I) hk (by simp) _ _ (hs.slot i hi)⟩;obtain⟨Ds,g1,g2,g3⟩:=hb.marks;obtain⟨Ds',g1',g2',g3'⟩:=hs.book.marks;refine⟨w.heap.size::Ds',by simp[g1'],?_,?_⟩
   .refine List.nodup_cons.2 ⟨λVx=>?_,g2'⟩;have:=(mT.1 (g3' _ Vx).2.1).1;omega
   .intro D hD;simp only[dc]at hD;rcases hD with rfl|hD
    .refine⟨hs.sat.size,World.alloc_heap_new w _,λho=>?_⟩;have:=aI.lt hs.sat ho;omega
    .obtain⟨q1,q2,q3⟩:=g3' D hD;have H':=(mT.1 q2).1;exact⟨q1,(hk D H' q3).2.trans q2,q3⟩
  .rw[run_enterLoop_outer];simp
def Ej(ps:List Nat):∀(xs:List Value) (t:Array Value) (vs:List V) (s:Nat->V) {ow:Nat->Prop} (m:Nat),t.size=m->ax I ow w vs xs->vs.length=ps.length->
 (∀i,i<m->E' I ow w (s i) (t.getD i undef))->
 ((ps.zip xs).foldl (λt (p,v)=>t.setIfInBounds p v) t).size=m/\∀i,i<m->E' I ow w (mI s ps vs i) (((ps.zip xs).foldl (λt (p,v)=>t.setIfInBounds p v) t).getD i undef):=by
 induction ps with
 |nil=>intro xs t vs s ow m ht _ _ hi;exact⟨by simpa using ht,by simpa[mI]using hi⟩
 |cons p ps ih=>
  intro xs t vs s ow m ht hv hl hi;cases vs with
  |nil=>simp at hl
  |cons v vs=>
   simp only[ax]at hv;obtain⟨x,xs',rfl,h1,h2⟩:=hv;simp only[List.zip_cons_cons,kf,mI];refine ih xs' (t.setIfInBounds p x) vs _ m (by simp[ht]) h2 (by simpa using hl) λi H'=>?_;by_cases hip:i=p
   .subst hip;rw[aE rfl,Tf,Array.getElem?_setIfInBounds_self_of_lt (by omega)];exact h1
   .rw[aH hip,Tf,Array.getElem?_setIfInBounds_ne (λe=>hip e.symm),<-Tf];exact hi i H'
variable {P:Program} {n:Nat} {st:St} {Q:St->Prop} {k:List It} {I:Mu} {w w':World}
def vx{b:Nat}{o o':Obj}(h:w.heap[b]?=some o)(hc:∀off x,w.cell? ⟨b,off,none⟩≠some x):
 (∀b',b'≠b->(w.putObj b o').heap[b']?=w.heap[b']?)/\∀(ow:Nat->Prop),qo ow ow w (w.putObj b o'):=by
 have P':∀b',b'≠b->(w.putObj b o').heap[b']?=w.heap[b']?:=λb' hb=>World.putObj_heap_other hb;refine⟨P',λow b' _ hn=>⟨hn,λoff x hx=>?_⟩⟩;by_cases hb:b'=b
 .subst hb;exact absurd hx (hc off x)
 .exact eN (P' b' hb) off x hx
def ln{b:Nat}{r:Loop}(h:w.heap[b]?=some (.loop r)):∀off x,w.cell? ⟨b,off,none⟩≠some x:=λoff x=>by simp[World.cell?,h]
def dh.Ov{F F':Fr}{a:Act}{l:Nat}{r r':Loop}(hs:dh F I st a w)(hF:F.rd=some (l,r))(hF':F'={ F with rd:=some (l,r') })(hl:l<F.w0.heap.size->F.QC l):
 dh F' I st a (w.putObj l (.loop r')):=by
 subst hF';obtain⟨h1,h2⟩:=hs.book.rnd l r hF;obtain⟨P',hk⟩:=vx (o':=.loop r') h1 (ln h1);have hk:=hk (aI I st.U);have hz:w.heap.size<=(w.putObj l (.loop r')).heap.size:=by simp
 have H':=(mT.1 h1).1;refine⟨⟨by simpa using hs.sat.size,hs.sat.os,hs.sat.tape,hs.sat.output,λb hb hn=>?_,hs.sat.fin,hs.sat.inj,λid o ho=>?_,hs.sat.fresh,hs.sat.SD⟩,hs.le,hs.size,⟨λl' r'' e=>?_,?_⟩,λi hi=>E'.cc (dd.refl I) hk hz _ _ (hs.slot i hi)⟩
 .by_cases SO:b=l
  .subst SO;exact absurd (hl hb) hn
  .exact(P' b SO).trans (hs.sat.same b hb hn)
 .refine(hs.sat.obj id o ho).cc (dd.refl I) hk hz λb sz cap hp=>P' b ?_;rintro rfl;exact h2 ⟨id,o,sz,cap,ho,hp⟩
 .simp only[bf,Prod.mk.injEq]at e;obtain⟨rfl,rfl⟩:=e;exact⟨World.putObj_heap_same H',h2⟩
 .obtain⟨Ds,g1,g2,g3⟩:=hs.book.marks;refine⟨Ds,g1,g2,λD hD=>?_⟩;obtain⟨q1,q2,q3⟩:=g3 D hD;refine⟨q1,(P' D ?_).trans q2,q3⟩;rintro rfl;rw[h1]at q2;cases q2
def Sat.Mo{w0:World}{QC:Nat->Prop}{U:ag}(h:Sat w0 QC I U w){Qe l c:Nat}(Qj:U Qe=none)(M':I Qe=.QA l 0 c)(Qr:¬aI I U l){r:Loop}(hr:w.heap[l]?=some (.loop r))
 (hl:l<w0.heap.size->QC l)(o:Obj)(env:List V)(he:ax I (aI I U) w env (tmpsOf o)):Sat w0 QC I (C' U Qe (gh o env)) (w.putObj l o):=by
 obtain⟨P',_⟩:=vx (o':=o) hr (ln hr);have H':=(mT.1 hr).1;have hz:w.heap.size<=(w.putObj l o).heap.size:=by simp
 have YM:∀b,aI I (C' U Qe (gh o env)) b->aI I U b\/b=l:=by
  rintro b ⟨id,ob,sz,cap,h1,h2⟩;by_cases e:id=Qe
  .subst e;rw[M']at h2;cases h2;exact .inr rfl
  .rw[ab e]at h1;exact .inl ⟨id,ob,sz,cap,h1,h2⟩
 have hk:qo (aI I U) (aI I (C' U Qe (gh o env))) w (w.putObj l o):=λb ⟨off,x,hx⟩ hn=>by
  have QX:b≠l:=by rintro rfl;exact ln hr off x hx
  exact⟨λho=>(YM b ho).elim hn QX,eN (P' b QX)⟩
 refine⟨by simpa using h.size,h.os,h.tape,h.output,λb hb hn=>?_,h.fin,?_,?_,?_,h.SD⟩
 .by_cases SO:b=l
  .subst SO;exact absurd (hl hb) hn
  .exact(P' b SO).trans (h.same b hb hn)
 .intro id Sq ob ZL b sz cap SC Rl h1 h2 h3 h4;by_cases e:id=Qe<;>by_cases e':Sq=Qe
  .rw[e,e']
  .exfalso;subst e;rw[M']at h3;cases h3;rw[ab e']at h2;exact Qr ⟨Sq,ZL,SC,Rl,h2,h4⟩
  .exfalso;subst e';rw[M']at h4;cases h4;rw[ab e]at h1;exact Qr ⟨id,ob,sz,cap,h1,h3⟩
  .rw[ab e]at h1;rw[ab e']at h2;exact h.inj id Sq ob ZL b sz cap SC Rl h1 h2 h3 h4
 .intro id ob ho;by_cases e:id=Qe
  .subst e;rw[af]at ho;cases ho;rw[M'];exact .inr ⟨rfl,rfl,o,env,rfl,World.putObj_heap_same H',ax.cc (dd.refl I) hk hz _ _ he⟩
  .rw[ab e]at ho;refine(h.obj id ob ho).cc (dd.refl I) hk hz λb sz cap hp=>P' b ?_;rintro rfl;exact Qr ⟨id,ob,sz,cap,ho,hp⟩
 .intro b hb Rw;rcases YM b hb with h1|h1
  .exact h.fresh b h1 Rw
  .subst h1;exact hl Rw
variable {P:Program} {n:Nat} {st:St} {Q:St->Prop} {k:List It} {I:Mu} {w w':World}
def zA:List (Nat×(St->Prop))->List KI
 |[]=>[]
 |(id,μ)::l=>.inBlock id::.stop μ::zA l
def Cs:∀(l:List (Nat×(St->Prop))),(zA l).map (KI.it P n)=exK l
 |[]=>rfl
 |(id,μ)::l=>by simp[zA,exK,KI.it,Cs l]
def jq{F:Fr}{e:Exit}{a:Act}(he:e≠.normal):∀(l:List (Nat×(St->Prop))),lI P F Q (zA l) e a w->
 (e=.ret/\∃st,Q st/\eG F st a w)\/∃id μ,(id,μ)∈l/\e=.exit id/\∃st,μ st/\eG F st a w
 |[],h=>.inl ⟨h.1.resolve_left he,h.2⟩
 |(id,μ)::l,h=>by
  have h:Exit.inBlock id (lI P F Q (.stop μ::zA l)) e a w:=h;have up:lI P F Q (zA l) e a w->_:=jq he l;have go:lI P F Q (zA l) e a w->(e=.ret/\∃st,Q st/\eG F st a w)\/∃Sq I',(Sq,I')∈(id,μ)::l/\e=.exit Sq/\∃st,I' st/\eG F st a w:=λh=>by
   rcases up h with h|⟨i,I',h1,h2⟩
   .exact .inl h
   .exact .inr ⟨i,I',by simp[h1],h2⟩
  cases e with
  |normal=>exact absurd rfl he
  |exit j=>
   simp only[Exit.inBlock]at h;by_cases hj:j=id
   .rw[aE hj]at h;exact .inr ⟨id,μ,by simp,by rw[hj],h⟩
   .rw[aH hj]at h;exact go h
  |_=>exact go h
def EW:Option Nat->Code
 |none=>.ret
 |some id=>.exit id
def Eu{rec:Loop}(YN:rec.state=.ready)(hpend:rec.pending=none)(htm:rec.tmps.size=n){s:Nat->V}{Qe:Nat}{x:List V}{ZJ U:ag}
 (hx:x.length=rec.params.toList.length)(Q0:ZJ Qe=some (gh (.loop rec) ((List.range n).map s)))(G':aa ZJ U)
 (Jn:ag->Prop)(Su:List Nat)(Jx:Option Nat->ag->Prop)
 (hb:ae P n [.code (dE P n rec.assign),.stop λst1=>ae P n (.code (dE P n rec.body)::.stop (λSY=>∃Z2,bp (del ZJ Qe) (del U Qe) Z2 SY.U/\Jn Z2)::
   exK (Su.map λid=>(id,λSY=>∃Z2,bp (del ZJ Qe) (del U Qe) Z2 SY.U/\Jx (some id) Z2))) st1 (λSY=>∃Z2,bp (del ZJ Qe) (del U Qe) Z2 SY.U/\Jx none Z2)]
   ⟨mI s rec.params.toList x,del U Qe⟩ (λ_=>False)):
 YC P Qe x U λb Z'=>∃Qd,bp ZJ U Qd Z'/\((b=true/\Qd Qe=some (gh (.loop rec) ((List.range n).map s))/\Jn (del Qd Qe))\/
  (b=false/\∃e:Option Nat,Qd Qe=some (gh (.loop { rec with state:=.done,pending:=some (EW e) }) ((List.range n).map s))/\Jx e (del Qd Qe)/\∀id,e=some id->id∈Su)):=by
 intro Y3 w3 PO l c M' RZ Rc;have Qj:=G' _ _ Q0;obtain⟨hl,UC⟩:=RZ.Hg Qj M';have YA:PO.length=rec.params.toList.length:=by rw[<-hx];exact Rc.length
 have hy:=run_yield (P:=P) (args:=PO.toArray) hl (by simpa using YA);have Qr:¬aI Y3 (del U Qe) l:=by
  rintro⟨id,o,sz,cap,h1,h2⟩;have:=RZ.inj id Qe o _ l sz cap 0 c (aa.vF U Qe id o h1) Qj h2 M';subst this;simp[del]at h1
 have hks:dg (aI Y3 U) (aI Y3 (del U Qe)) w3 w3:=dg.sub w3 (aa.vF U Qe);have hslots:∀i,i<n->E' Y3 (aI Y3 (del U Qe)) w3 (s i) (rec.tmps.getD i undef):=λi hi=>by
  have hv:((List.range n).map s)[i]?=some (s i):=by simp[hi]
  obtain⟨y,h1,h2⟩:=UC.get hv;have:rec.tmps.getD i undef=y:=by
   simp only[tmpsOf]at h1;rw[Tf,<-Array.getElem?_toList,h1];rfl
  rw[this];exact E'.mono (dd.refl _) hks (Qt _) _ _ h2
 obtain⟨hg1,hg2⟩:=Ej rec.params.toList PO rec.tmps x s n htm (ax.mono (dd.refl _) hks (Qt _) _ _ Rc) hx hslots;have hzip:(rec.params.zip PO.toArray).foldl (λtmps (t,a)=>tmps.setIfInBounds t a) rec.tmps=(rec.params.toList.zip PO).foldl (λt (p,v)=>t.setIfInBounds p v) rec.tmps:=by
  rw[<-Array.foldl_toList,Array.toList_zip]
 rw[hzip]at hy;refine⟨rec.fn,_,rec.assign,rec.body,hy,roundIn_of_wpIn (F:=Fence.wide) trivial ?_⟩;have Sn:dh ⟨w3,aI Y3 U,Y3,n,some (l,rec)⟩ Y3 ⟨mI s rec.params.toList x,del U Qe⟩ { tmps:=(rec.params.toList.zip PO).foldl (λt (p,v)=>t.setIfInBounds p v) rec.tmps,defers:=[] } w3:=by
  refine⟨RZ.drop (aa.vF U Qe),dd.refl _,hg1,⟨λl' r' e=>?_,[],rfl,.nil,by simp⟩,hg2⟩;simp only[bf,Prod.mk.injEq]at e;obtain⟨rfl,rfl⟩:=e;exact⟨hl,Qr⟩
 have h1:=hb ⟨w3,aI Y3 U,Y3,n,some (l,rec)⟩ rfl [.code rec.assign,.stop _] rfl _ w3 ⟨Y3,Sn⟩;refine wpIn_mono (F:=Fence.wide.inRound l) h1 ?_;intro e a1 w1 h;cases e with
 |normal=>
  obtain⟨st1,hI,X4,hs4⟩:=h;have Xv:=hs4.Ov (F':=⟨w3,aI Y3 U,Y3,n,some (l,{ rec with state:=.busy })⟩) (r':={ rec with state:=.busy }) rfl rfl (λ_=>⟨Qe,_,0,c,Qj,M'⟩);refine⟨_,run_beginRound (hs4.book.rnd l rec rfl).1 YN,?_⟩;have h2:=hI ⟨w3,aI Y3 U,Y3,n,some (l,{ rec with state:=.busy })⟩ rfl (.code rec.body::.stop _::zA _) (by simp only[eD,Cs];rfl) a1 _ ⟨X4,Xv⟩;refine wpIn_mono (F:=Fence.wide.inRound l) h2 ?_;have fin:∀(SY:St) (a2:Act) (w2:World) (jump:Option Code) (Z2:ag),eG ⟨w3,aI Y3 U,Y3,n,some (l,{ rec with state:=.busy })⟩ SY a2 w2->bp (del ZJ Qe) (del U Qe) Z2 SY.U->
   ∃v ZK,(Instr.endRound l jump).run P w2=.ok v ZK/\v=.bool jump.isNone/\∃Z' Y' Qd,dd Y3 Y'/\Sat w3 (aI Y3 U) Y' Z' ZK/\bp ZJ U Qd Z'/\
    Qd Qe=some (gh (.loop { rec with state:=if jump.isNone then .ready else .done,pending:=jump }) ((List.range n).map s))/\del Qd Qe=Z2:=by
   rintro SY a2 w2 jump Z2 ⟨X5,Uo⟩ QV;obtain⟨q1,q2⟩:=Uo.book.rnd l _ rfl;have Ub:X5 Qe=.QA l 0 c:=(Uo.le Qe (show Y3 Qe≠.dQ by rw[M'];simp)).trans M';have hn5:SY.U Qe=none:=by
    cases h:SY.U Qe with
    |none=>rfl
    |some o=>exact absurd ⟨Qe,o,0,c,h,Ub⟩ q2
   have hk5:dg (aI Y3 U) (aI X5 SY.U) w3 w2:=λb hb hn=>⟨λho=>hn (Uo.sat.fresh b ho hb),Uo.sat.same b hb hn⟩
   have henv5:=ax.mono Uo.le hk5 Uo.sat.size _ _ UC;have hn2:Z2 Qe=none:=by
    cases h:Z2 Qe with
    |none=>rfl
    |some o=>have:=QV.1 Qe o h;rw[hn5]at this;cases this
   refine⟨_,_,run_endRound (P:=P) jump q1,rfl,C' SY.U Qe (gh (.loop { rec with state:=if jump.isNone then .ready else .done,pending:=jump }) ((List.range n).map s)),X5,
    C' Z2 Qe (gh (.loop { rec with state:=if jump.isNone then .ready else .done,pending:=jump }) ((List.range n).map s)),Uo.le,?_,⟨QV.1.Kv,λi o h1 h2=>?_⟩,af,CF hn2⟩
   .exact Uo.sat.Mo hn5 Ub q2 q1 (λ_=>⟨Qe,_,0,c,Qj,M'⟩) _ _ henv5
   .have P':i≠Qe:=λe=>by rw[e,Q0]at h1;cases h1
    obtain⟨g1,g2⟩:=QV.2 i o (by rw[dN P'];exact h1) (by rw[dN P'];exact h2);rw[ab P',ab P'];exact⟨g1,g2⟩
  intro e a2 w2 h;cases e with
  |normal=>
   obtain⟨SY,⟨Z2,QV,hj⟩,SQ⟩:=h;obtain⟨v,ZK,g1,rfl,Z',Y',Qd,g2,g3,g4,g5,g6⟩:=fin SY a2 w2 none Z2 SQ QV;refine⟨_,ZK,g1,true,Z',Y',rfl,⟨Qd,g4,.inl ⟨rfl,?_,by rw[g6];exact hj⟩⟩,g2,g3⟩;rw[g5];have:({ rec with state:=.ready,pending:=none }:Loop)=rec:=by rw[<-YN,<-hpend]
   simp[this]
  |ret=>
   rcases jq (by simp) _ h with⟨_,SY,⟨Z2,QV,hj⟩,SQ⟩|⟨_,_,_,h,_⟩
   .obtain⟨v,ZK,g1,rfl,Z',Y',Qd,g2,g3,g4,g5,g6⟩:=fin SY a2 w2 (some .ret) Z2 SQ QV;exact⟨_,ZK,g1,false,Z',Y',rfl,⟨Qd,g4,.inr ⟨rfl,none,g5,by rw[g6];exact hj,by simp⟩⟩,g2,g3⟩
   .cases h
  |exit id=>
   rcases jq (by simp) _ h with⟨h,_⟩|⟨Sq,μ,Vx,h,SY,hI2,SQ⟩
   .cases h
   .cases h;simp only[fM,Prod.mk.injEq]at Vx;obtain⟨id'',hin',rfl,rfl⟩:=Vx;obtain⟨Z2,QV,hj⟩:=hI2;obtain⟨v,ZK,g1,rfl,Z',Y',Qd,g2,g3,g4,g5,g6⟩:=fin SY a2 w2 (some (.exit id'')) Z2 SQ QV;exact⟨_,ZK,g1,false,Z',Y',rfl,⟨Qd,g4,.inr ⟨rfl,some id'',g5,by rw[g6];exact hj,by simp[hin']⟩⟩,g2,g3⟩
  |goto t=>rcases jq (by simp) _ h with⟨h,_⟩|⟨_,_,_,h,_⟩<;>cases h
  |panic ch=>rcases jq (by simp) _ h with⟨h,_⟩|⟨_,_,_,h,_⟩<;>cases h
  |outgrown=>rcases jq (by simp) _ h with⟨h,_⟩|⟨_,_,_,h,_⟩<;>cases h
 |ret=>exact h.2.choose_spec.1.elim
 |exit id=>rcases h.1 with h|h<;>cases h
 |goto t=>rcases h.1 with h|h<;>cases h
 |panic ch=>rcases h.1 with h|h<;>cases h
 |outgrown=>rcases h.1 with h|h<;>cases h
variable {P:Program} {n:Nat} {st:St} {Q:St->Prop} {k:List It} {I:Mu} {w w':World}
def we{a:Act}{g:Operand}{l:Nat}{f:FuncId}{cv:List Value}(h:a.eval g=.func (.func f) #[] ⟨cv⟩):
 (resolve a.eval (rangeCall g l) 0).run P w=.ok { target:=.fn (.func f) ⟨cv⟩,args:=#[.func (.yield l) #[] #[]] } w:=by
 simp only[resolve,h,Deferred.ofValue];simp[go_sem]
def ae.G8{g:VX}{ps:List Nat}{A B:bM}{gf:FuncId}{caps:List V}(hg:g.ev st.s=.fn gf caps){xs:List (List V)}{Z0:ag}(hs00:aa Z0 st.U)
 (Va:fW P gf=true/\∀(Qe:Nat) (τ Jx:List (List V)->ag->Prop) (o:Ob),st.U Qe=none->
   (∀pre x post ZJ U,xs=pre++x::post->τ pre ZJ->aa ZJ U->
     YC P Qe x U λb Z'=>∃Qd,bp ZJ U Qd Z'/\((b=true/\τ (pre++[x]) Qd)\/(b=false/\Jx (pre++[x]) Qd)))->
   τ [] (C' Z0 Qe o)->sM P gf (.yl Qe::caps) (C' st.U Qe o) λ_ Z'=>τ xs Z'\/∃pre,pre <+: xs/\Jx pre Z')
 (hlen:∀x∈xs,x.length=ps.length)(Su:List Nat)(τ:List (List V)->ag->Prop)(Jx:Option Nat->List (List V)->ag->Prop)(h0:τ [] Z0)
 (UD:∀pre x post ZJ U,xs=pre++x::post->τ pre ZJ->aa ZJ U->
   ae P n [.code A,.stop λst1=>ae P n (.code B::.stop (λSY=>∃Z2,bp ZJ U Z2 SY.U/\τ (pre++[x]) Z2)::
    exK (Su.map λid=>(id,λSY=>∃Z2,bp ZJ U Z2 SY.U/\Jx (some id) (pre++[x]) Z2))) st1 (λSY=>∃Z2,bp ZJ U Z2 SY.U/\Jx none (pre++[x]) Z2)]
    ⟨mI st.s ps x,U⟩ (λ_=>False))
 (YO:∀Z',τ xs Z'->ae P n k ⟨st.s,Z'⟩ Q)
 (YP:∀id∈Su,∀pre Z',pre <+: xs->Jx (some id) pre Z'->ae P n (.code (.exit id)::k) ⟨st.s,Z'⟩ Q)
 (hret:∀pre Z',pre <+: xs->Jx none pre Z'->ae P n (.code .ret::k) ⟨st.s,Z'⟩ Q):ae P n (.code (.fk g ps A B)::k) st Q:=by
 intro F hn kt hk a w hs;subst hn;obtain⟨z,RT,rfl,hy,Q8⟩:=ez hk;obtain⟨c0,rfl,hc⟩:=gv hy;have Th:∃g0 ps0 a0 b0,c0=.rangeFunc g0 ps0 a0 b0/\cx F.n g0=g/\ps0.toList=ps/\dE P F.n a0=A/\dE P F.n b0=B:=by
  cases c0<;>simp only[dE,reduceCtorEq,bM.fk.injEq]at hc
  case region=>(split at hc;cases hc);split at hc<;>cases hc
  exact⟨_,_,_,_,rfl,hc.1,hc.2.1,hc.2.2.1,hc.2.2.2⟩
 obtain⟨g0,ps0,a0,b0,rfl,rfl,rfl,rfl,rfl⟩:=Th;obtain⟨I,hs⟩:=hs;have Vb:=cz hs g0;rw[hg]at Vb;simp only[E']at Vb;obtain⟨cv,hgv,hcv⟩:=Vb;refine wpIn_rangeFunc λfn _=>?_;obtain⟨mark,W0,D,QP,Qq⟩:=hs.enter (P:=P) fn ps0 a0 b0;generalize XR:({ state:=.ready,pending:=none,fn,tmps:=a.tmps,params:=ps0,assign:=a0,body:=b0,defers:=D }:Loop)=rec at Qq;have hr1:rec.state=.ready:=by rw[<-XR]
 have hr2:rec.pending=none:=by rw[<-XR]
 have hr3:rec.tmps=a.tmps:=by rw[<-XR]
 have hr4:rec.params=ps0:=by rw[<-XR]
 have hr5:rec.assign=a0:=by rw[<-XR]
 have hr6:rec.body=b0:=by rw[<-XR]
 have hszn:rec.tmps.size=F.n:=by rw[hr3];exact hs.size
 have UC:ax I (aI I st.U) W0 ((List.range F.n).map st.s) (tmpsOf (.loop rec)):=by
  have hl:tmpsOf (.loop rec)=(List.range F.n).map λi=>a.tmps.getD i undef:=by
   simp only[tmpsOf,hr3];apply List.ext_getElem
   .simp[hs.size]
   .intro i h1 h2;simp only[du,List.length_range]at h2;simp only[Array.getElem_toList,List.getElem_map,List.getElem_range];rw[Tf,Array.getElem?_eq_getElem (by rw[hs.size];exact h2)];rfl
  rw[hl];have Qz:∀l:List Nat,(∀i∈l,i<F.n)->ax I (aI I st.U) W0 (l.map st.s) (l.map λi=>a.tmps.getD i undef):=by
   intro l
   induction l with
   |nil=>intro _;simp[ax]
   |cons i l ih=>
    intro h;simp only[eD,ax];exact⟨_,_,rfl,QP.slot i (h i (by simp)),ih λj hj=>h j (by simp[hj])⟩
  exact Qz _ λi hi=>by simpa using hi
 obtain⟨Qe,hidn,X1,UE,hle1,hsat1,R0⟩:=QP.sat.Nh (.loop rec) _ UC;generalize hE:(List.range F.n).map st.s=env at*;have hcvt:ax X1 (aI X1 (C' st.U Qe (gh (.loop rec) env))) (W0.alloc (.loop rec)) caps cv:=by
  have h1:ax I (aI I st.U) W0 caps cv:=by
   have h2:=cz QP g0;rw[hg]at h2;simp only[E']at h2;obtain⟨cv',h3,h4⟩:=h2;have:a.eval g0=.func (.func gf) #[] ⟨cv'⟩:=h3;rw[hgv]at this;simp only[Value.func.injEq,Array.mk.injEq,true_and]at this;rw[this];exact h4
  exact ax.mono hle1 R0 (by simp) _ _ h1
 obtain⟨Rq,hiter⟩:=Va;have key:=hiter Qe (λpre ZJ=>ZJ Qe=some (gh (.loop rec) env)/\τ pre (del ZJ Qe))
  (λpre ZJ=>∃e:Option Nat,ZJ Qe=some (gh (.loop { rec with state:=.done,pending:=some (EW e) }) env)/\Jx e pre (del ZJ Qe)/\∀id,e=some id->id∈Su)
  (gh (.loop rec) env) hidn ?_ ⟨af,by rw[CF (hs00.none hidn)];exact h0⟩
 .refine⟨W0.heap.size,mark,_,_,_,gf,_,_,by rw[show F.eB.round=F.eB.round from rfl];exact Qq,we hgv,λ_ _=>trivial,
   by simp only[invoke];exact ml Rq _,kR F,ov ?_⟩
  have QM:ax X1 (aI X1 (C' st.U Qe (gh (.loop rec) env))) (W0.alloc (.loop rec)) (.yl Qe::caps) (.func (.yield W0.heap.size) #[] #[]::cv):=by
   simp only[ax];exact⟨_,_,rfl,by simp[E',UE],hcvt⟩
  have QG:=key X1 _ _ hsat1.here QM;have hvals:(Value.func (.yield W0.heap.size) #[] #[]::cv).toArray=#[.func (.yield W0.heap.size) #[] #[]]++⟨cv⟩:=by
   apply Array.ext';simp
  rw[hvals]at QG;refine QG.mono ?_;rintro e w2 ⟨r,Z',Y',val,rfl,hp,hle2,SQ,-⟩;obtain⟨hs3,U'⟩:=hsat1.compose SQ;have W2:Y' Qe=.QA W0.heap.size 0 0:=(hle2 Qe (by rw[UE];simp)).trans UE;have fin:∀(Vy:Loop),Z' Qe=some (gh (.loop Vy) env)->Vy.state≠.busy->∃w4,(Instr.endLoop W0.heap.size).run P w2=.ok Vy.pending w4/\
   eG F ⟨st.s,del Z' Qe⟩ { a with defers:=mark++a.defers } w4:=by
   intro Vy Q0 Qi;obtain⟨hl2,henv2⟩:=SQ.Hg Q0 W2;refine⟨_,run_endLoop hl2 Qi,Y',?_⟩;have UF:=hs3.No Q0 W2 (.loop { Vy with state:=.exhausted }) env henv2;have G':aa (del Z' Qe) (C' Z' Qe (gh (.loop { Vy with state:=.exhausted }) env)):=λi o h=>by
    unfold del at h;split at h
    .cases h
    .rename_i hi;rw[ab hi];exact h
   have hks:=dg.sub (I:=Y') (w2.putObj W0.heap.size (.loop { Vy with state:=.exhausted })) G';have hsz2:=SQ.size;have hkall:dg (aI I st.U) (aI Y' (del Z' Qe)) W0 (w2.putObj W0.heap.size (.loop { Vy with state:=.exhausted })):=λb hb hn=>by
    obtain⟨q1,q2⟩:=R0 b hb hn;have Tg:b<(W0.alloc (.loop rec)).heap.size:=by simp;omega
    obtain⟨q3,q4⟩:=U' b Tg q1;have QD:b<w2.heap.size:=Nat.lt_of_lt_of_le Tg hsz2;obtain⟨q5,q6⟩:=UF.2 b QD q3;exact⟨λho=>q5 (ho.sub G'),q6.trans (q4.trans q2)⟩
   have hle3:dd I Y':=hle1.trans hle2;have hz:W0.heap.size<=(w2.putObj W0.heap.size (.loop { Vy with state:=.exhausted })).heap.size:=by
    simp at hsz2|-;omega
   exact⟨UF.1.drop G',QP.le.trans hle3,QP.size,QP.book.vY hkall,λi hi=>E'.mono hle3 hkall hz _ _ (QP.slot i hi)⟩
  rcases hp with⟨Q0,hj⟩|⟨pre,US,e,Q0,hj,Vx⟩
  .obtain⟨w4,g1,g2⟩:=fin rec Q0 (by rw[hr1];simp);refine⟨_,w4,g1,?_⟩;rw[hr2];exact YO _ hj F rfl RT Q8 _ _ g2
  .obtain⟨w4,g1,g2⟩:=fin _ Q0 (by simp);refine⟨_,w4,g1,?_⟩;cases e with
   |none=>exact hret pre _ US hj F rfl (.code .ret::RT) (by simp[KI.it,Q8,dE]) _ _ g2
   |some id=>exact YP id (Vx id rfl) pre _ US hj F rfl (.code (.exit id)::RT) (by simp[KI.it,Q8,dE]) _ _ g2
 .intro pre x post ZJ U Sb hJ G';have hx:x.length=rec.params.toList.length:=by rw[hr4];exact hlen x (by rw[Sb];simp)
  have hb:=UD pre x post (del ZJ Qe) (del U Qe) Sb hJ.2 (Cj G');subst hE;refine Eu hr1 hr2 hszn hx hJ.1 G' (τ (pre++[x])) Su (λe=>Jx e (pre++[x])) ?_;rw[hr4,hr5,hr6];exact hb
def ae.fk{g:VX}{ps:List Nat}{A B:bM}{gf:FuncId}{caps:List V}(hg:g.ev st.s=.fn gf caps){xs:List (List V)}(Va:Iter P gf caps xs)
 (hlen:∀x∈xs,x.length=ps.length)(Su:List Nat)(τ:List (List V)->ag->Prop)(Jx:Option Nat->List (List V)->ag->Prop)(h0:τ [] st.U)
 (UD:∀pre x post ZJ U,xs=pre++x::post->τ pre ZJ->aa ZJ U->
   ae P n [.code A,.stop λst1=>ae P n (.code B::.stop (λSY=>∃Z2,bp ZJ U Z2 SY.U/\τ (pre++[x]) Z2)::
    exK (Su.map λid=>(id,λSY=>∃Z2,bp ZJ U Z2 SY.U/\Jx (some id) (pre++[x]) Z2))) st1 (λSY=>∃Z2,bp ZJ U Z2 SY.U/\Jx none (pre++[x]) Z2)]
    ⟨mI st.s ps x,U⟩ (λ_=>False))
 (YO:∀Z',τ xs Z'->ae P n k ⟨st.s,Z'⟩ Q)
 (YP:∀id∈Su,∀pre Z',pre <+: xs->Jx (some id) pre Z'->ae P n (.code (.exit id)::k) ⟨st.s,Z'⟩ Q)
 (hret:∀pre Z',pre <+: xs->Jx none pre Z'->ae P n (.code .ret::k) ⟨st.s,Z'⟩ Q):ae P n (.code (.fk g ps A B)::k) st Q:=
 ae.G8 hg (aa.refl _) ⟨Va.1,λQe J' Jx' _ _ hb h=>Va.2 Qe J' Jx' _ hb h⟩ hlen Su τ Jx h0 UD YO YP hret
variable {P:Program} {n:Nat} {st:St} {Q:St->Prop} {k:List It}
def ec(P7:List (List Nat))(g':List Nat):List Nat:=(List.range P7.length).filter λi=>!g'.contains i&&(P7.getD i []).all g'.contains
abbrev ku(ops:Array Oper):List (List Nat):=ops.toList.map λo=>(o.after.toList.filter (Region.binds .any)).map (·.on)
def w8{ops:Array Oper}{arr:Array Bool}{g':List Nat}(hs:arr.size=ops.size)(hl:∀i,i<ops.size->arr.getD i true=g'.contains i)
 (ho:∀i∈g',i<ops.size):Region.ready .any ops arr=ec (ku ops) g':=by
 unfold Region.ready ec;have hlen:(ku ops).length=ops.size:=by simp[ku]
 rw[hlen];refine List.filter_congr λi hi=>?_;have hi:i<ops.size:=by simpa using hi
 rw[hl i hi];congr 1;have h1:ops[i]?=some ops[i]:=Array.getElem?_eq_getElem hi;have h2:(ku ops).getD i []=(ops[i].after.toList.filter (Region.binds .any)).map (·.on):=by
  rw[uG];simp[ku,hi]
 rw[h1,h2];simp only[Option.map_some,Option.getD_some];rw[<-Array.all_toList,List.all_map,List.all_filter];congr 1;funext e;simp only[Function.comp];have h3:arr.getD e.on false=g'.contains e.on:=by
  by_cases he:e.on<ops.size
  .rw[<-hl _ he,Tf,Tf,Array.getElem?_eq_getElem (by omega)];rfl
  .rw[Tf,Array.getElem?_eq_none (by omega)];simp only[Option.getD_none];symm;rw[Bool.eq_false_iff];intro hc;exact he (ho _ (by simpa using hc))
 rw[h3]
def aa.Gb{Z0 U:ag}{e:Nat}(h:aa Z0 U)(he:Z0 e=Option.none):aa Z0 (del U e):=λi x hx=>by
 have P':i≠e:=λe'=>by rw[e',he]at hx;cases hx
 rw[dN P'];exact h i x hx
def pd:(∀{P:Program} {O:Rd P} {n:Nat} {k:List It} {st:St} {Q:St->Prop},step P O n 0 (.r k) st Q=YK P n k st Q)/\(∀{P:Program} {n:Nat} {c:bM} {k:List It} {st:St} {Q:St->Prop},YK P n (.code c::k) st Q=ae P n (.code c::k) st Q)/\
 (∀{P:Program} {n:Nat} {l:List aK} {k:List It} {st:St} {Q:St->Prop},YK P n (.ops l::k) st Q=ae P n (.ops l::k) st Q)/\(∀{P:Program} {n id:Nat} {k:List It} {st:St} {Q:St->Prop},YK P n (.inBlock id::k) st Q=ae P n (.inBlock id::k) st Q)/\
 ∀{P:Program} {n:Nat} {st:St} {Q:St->Prop},YK P n [] st Q=ae P n [] st Q:=⟨rfl,rfl,rfl,rfl,rfl⟩
def Wk.aT{U Z':ag}(sz:Nat):Wk U Z' .aT (.sl sz []):=by
 intro I w0 w QC x hs hr;simp only[E']at hr|-;exact⟨none,0,by simpa using hr,by simp,.inl trivial⟩
def aU(K U:ag)(e sz:Nat)(v:V)(rows:List V):Prop:=(v=.aT/\rows=[])\/∃id,v=.own id 0 rows.length/\U id=some ⟨e,sz,rows⟩/\K id=none
def aU.wk{K U:ag}{e sz:Nat}{v:V}{rows:List V}(h:aU K U e sz v rows){K':ag}(hK:aa K' K)(hs:aa K' U):Wk U K' v (.sl sz rows):=by
 rcases h with⟨rfl,rfl⟩|⟨id,rfl,ho,hk⟩
 .exact Wk.aT sz
 .have:=Wk.own hs ho (hK.none hk) (off:=0) (len:=rows.length) (by simp);rw[zM,jK]at this;exact this
def aU.Bl{K U:ag}{e sz:Nat}{v:V}{rows:List V}(h:aU K U e sz v rows)(hs:aa K U){v0:V}(hv:V.sl sz rows=v0):
 av v U λr Z'=>r=v0/\Z'=K:=⟨_,K,hs,h.wk (aa.refl K) hs,hv,rfl⟩
def ep{P:Program}{n:Nat}{Q:St->Prop}{k:List It}{O:Rd P}{f:Nat}{d:Option Nat}{l:List aK}{v:Nat->V}{ob:Ob}{s:Nat->V}{U:ag}{e:Option Nat}
 (h:∀id Z',aa (bI U e) Z'->Z' id=some ob->U id=none->step P O n f (.r (.ops l::k)) ⟨aZ s d (v id),Z'⟩ Q):
 Hj P O n f l k d ⟨s,U⟩ Q (some λid=>(v id,Vc.C' (bI U e) id ob)):=by
 rw[aN];refine λid M'=>h id _ ((aa.refl _).C' ?_) af M';cases e with
 |none=>exact M'
 |some e=>
  simp only[bI,del];split
  .rfl
  .exact M'
def kB{P:Program}{n:Nat}{Q:St->Prop}{k:List It}{O:Rd P}{f:Nat}{d:Option Nat}{l:List aK}{v:Nat->V}{ob:Ob}{s:Nat->V}{U:ag}{e:Option Nat}
 (h:∀id Z',aa (bI U e) Z'->Z' id=some ob->U id=none->step P O n f (.d l k) ⟨aZ s d (v id),Z'⟩ Q):
 FZ P O n f l k d ⟨s,U⟩ Q (some λid=>(v id,Vc.C' (bI U e) id ob)):=by
 rw[aV];refine λid M'=>h id _ ((aa.refl _).C' ?_) af M';cases e with
 |none=>exact M'
 |some e=>
  simp only[bI,del];split
  .rfl
  .exact M'
def aU.dst{K U:ag}{e sz:Nat}{v:V}{rows:List V}(h:aU K U e sz v rows){Z1:ag}(hs:aa U Z1):
 ∃PU,cZ Z1 e sz v=some (rows,PU)/\∀K':ag,aa K' K->∀Z2,aa K' Z2->aa K' (bI Z2 PU):=by
 rcases h with⟨rfl,rfl⟩|⟨id,rfl,ho,hk⟩
 .exact⟨none,rfl,λ_ _ _ h=>h⟩
 .refine⟨some id,?_,λK' hK Z2 h=>h.Gb (hK.none hk)⟩;simp only[cZ,hs _ _ ho];rw[aE ⟨trivial,trivial,trivial,Qt _⟩,jK]
def aU.start{K U:ag}{e sz:Nat}:aU K U e sz .aT []:=.inl ⟨rfl,rfl⟩
def aU.new{K U:ag}{e sz id:Nat}{rows:List V}{n:Nat}(hn:n=rows.length)(h:U id=some ⟨e,sz,rows⟩)(hk:K id=none):aU K U e sz (.own id 0 n) rows:=by
 subst hn;exact .inr ⟨id,rfl,h,hk⟩
def aU.len{K U:ag}{e sz:Nat}{v:V}{rows:List V}(h:aU K U e sz v rows):dR false v=some (.int .i64 rows.length):=by
 rcases h with⟨rfl,rfl⟩|⟨id,rfl,ho,hk⟩<;>rfl
def aU.mono{K U Z':ag}{e sz:Nat}{v:V}{rows:List V}(h:aU K U e sz v rows)(hs:aa U Z'):aU K Z' e sz v rows:=by
 rcases h with h|⟨id,h1,h2,h3⟩
 .exact .inl h
 .exact .inr ⟨id,h1,hs _ _ h2,h3⟩
def dj{U:ag}{id e sz:Nat}{r:V}(h:U id=some ⟨e,sz,[r]⟩):cK U sz (.own id 0 1)=some [r]:=by
 simp[cK,h]
def Wk.ptr{U Z':ag}(h:aa Z' U){id:Nat}{e sz:Nat}{r:V}(ho:U id=some ⟨e,sz,[r]⟩)(M':Z' id=none):Wk U Z' (.ptr id 0 0) (.rp r):=by
 intro I w0 w QC x hs hr;simp only[E']at hr|-;have Q5:=hs.obj id _ ho;split at hr
 .rename_i b SC cap hb;obtain⟨rfl,hz⟩:=hr;rw[hb]at Q5;have H':b<w.heap.size:=aI.lt hs ⟨id,_,_,_,ho,hb⟩;obtain⟨g1,g2,g3,g4,g5⟩:=Q5.rows hz;refine⟨b,_,rfl,H',.inr ?_,?_⟩
  .rintro⟨Sq,ZL,sz'',cap'',e1,e2⟩;have:=hs.inj Sq id ZL _ _ _ _ _ _ (h _ _ e1) ho e2 hb;rw[this,M']at e1;cases e1
  .simp only[bg]at g5;have:=bg.mono (dd.refl I) (dg.sub w h) (Qt _) [r] b 0 SC rfl (by simp only[bg];exact⟨g5.1,g5.2.1,trivial⟩);simp only[bg]at this;simpa using this.2.1
 .exact hr.elim
def Wk.fn{U Z':ag}{f:FuncId}{vs vs':List V}(h:Yg U Z' vs vs'):Wk U Z' (.fn f vs) (.fn f vs'):=by
 intro I w0 w QC x hs hr;simp only[E']at hr|-;obtain⟨PO,rfl,h1⟩:=hr;exact⟨PO,rfl,Yg.all hs h h1⟩
def V.gB(vs:List V):V.cells (.agg vs)=vs:=rfl
def V.gC(k:IntKind)(i:Int):V.cells (.int k i)=[.int k i]:=rfl
def V.fw:V.cells .aT=[.aT]:=rfl
def V.gy(a b c:Nat):V.cells (.own a b c)=[.own a b c]:=rfl
def V.iF(a:Nat)(b:List V):V.cells (.sl a b)=[.sl a b]:=rfl
def V.gz(a:List UInt8):V.cells (.str a)=[.str a]:=rfl
def V.fj(a:Bool):V.cells (.bool a)=[.bool a]:=rfl
def V.iR(a:FuncId)(b:List V):V.cells (.fn a b)=[.fn a b]:=rfl
def V.gA(a b c:Nat):V.cells (.ptr a b c)=[.ptr a b c]:=rfl
def V.iP(a:V):V.cells (.rp a)=[.rp a]:=rfl
def V.gx(vs:List V):V.stays (.agg vs)=true:=rfl
def V.gG(k:IntKind)(i:Int):V.stays (.int k i)=true:=rfl
def V.fq:V.stays .aT=true:=rfl
def V.gE(a b c:Nat):V.stays (.own a b c)=true:=rfl
def V.iM(a:Nat)(b:List V):V.stays (.sl a b)=true:=rfl
def V.gF(a:List UInt8):V.stays (.str a)=true:=rfl
def V.fA(a:Bool):V.stays (.bool a)=true:=rfl
def V.iC(a:FuncId)(b:List V):V.stays (.fn a b)=true:=rfl
def V.gH(a b c:Nat):V.stays (.ptr a b c)=true:=rfl
def V.iB(a:V):V.stays (.rp a)=true:=rfl
end Go.Vc
