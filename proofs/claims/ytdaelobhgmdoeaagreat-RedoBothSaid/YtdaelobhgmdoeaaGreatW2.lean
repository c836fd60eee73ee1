/- Part 2 of the library of this proof. -/
import Derived.Test.YtdaelobhgmdoeaaGreatW1
import Derived.TacticsIn
import Derived.RangeFuncNested
import Derived.RangeFuncLeaves
import Derived.Orders
import Derived.OrdersIn
import Derived.Lib.SliceRun
import Derived.WideLaws
import Derived.Laws.RangeString
import Derived.Laws.Runes
import Derived.Attr
set_option linter.all false
set_option maxHeartbeats 8000000
namespace Go.Vc
inductive It where
 |code (c:bJ)
 |inBlock (id:Nat)
 |ops (l:List aN)
 |stop (μ:St->Prop)
inductive KI where
 |code (c:Code)
 |inBlock (id:Nat)
 |ops (all:Array Oper) (l:List Oper)
 |stop (μ:St->Prop)
def KI.it(P:Program)(n:Nat):KI->It
 |.code c=>.code (dG P n c)
 |.inBlock id=>.inBlock id
 |.ops all l=>.ops (l.map (dn P n all))
 |.stop μ=>.stop μ
def Fr.eP(F:Fr):Fence:={ Fence.wide with round:=F.rd.map (·.1) }
def j5(F:Fr):F.eP.depth.isSome=true->1<=0:=λh=>by simp[Fr.eP,Fence.wide]at h
def nk{F:Fr}{n:Nat}{P:Program}{f:FuncId}{args:Array Value}{w:World}{R:Ending->World->Prop}(h:Calls P f args w R):CallsIn F.eP n P f args w R:=by
 have h1:CallsIn Fence.wide n P f args w R:=callsIn_wide.2 h;exact h1
def Iy{F:Fr}{P:Program}{o:Oper}{a:Act}{w:World}{next:Act->World->Prop}{Q:Exit->Act->World->Prop}(hd:∀c,o.op≠.defer c)(h:o.wp P a w next Q):
 o.wpIn F.eP 0 P a w next Q:=by
 refine⟨λ_ _=>trivial,?_⟩;rw[Oper.semAt_eq _ _ _ hd];unfold Oper.wp at h;generalize (execOp a.eval o).run P w=r at*;cases r with
 |ok x w'=>
  cases x<;>simp only[Oper.upon,Oper.uponIn]at h|-<;>first
   |exact h
   |exact⟨j5 F,nk h⟩
   |contradiction
   |skip
  exact⟨j5 F,λc cs _=>let ⟨v,w',r,s⟩:=h c cs;⟨v,w',r,stepsIn_wide.2 s⟩⟩
 |halt x w'=>cases x<;>simp only[Oper.upon,Oper.uponIn]at h|-<;>first|exact h|contradiction
def mG{P:Program}{n:Nat}{o:Op}(h:R0 P n o≠.bad)(c:Call):o≠.defer c:=λe=>by subst e;exact h rfl
def kM(P:Program)(F:Fr)(Q:St->Prop):List KI->Exit->Act->World->Prop
 |[],e,a,w=>(e=.normal\/e=.ret)/\∃st,Q st/\fK F st a w
 |.code c::k,e,a,w=>match e with
   |.normal=>c.wpIn F.eP 0 P (kM P F Q k) a w
   |e=>kM P F Q k e a w
 |.inBlock id::k,e,a,w=>Exit.inBlock id (kM P F Q k) e a w
 |.ops all l::k,e,a,w=>match e with
   |.normal=>wpListIn F.eP 0 P all (kM P F Q k) l a w
   |e=>kM P F Q k e a w
 |.stop μ::k,e,a,w=>match e with
   |.normal=>∃st,μ st/\fK F st a w
   |e=>kM P F Q k e a w
def ad(P:Program)(n:Nat)(todo:List It)(st:St)(Q:St->Prop):Prop:=
 ∀F:Fr,F.n=n->∀kt:List KI,kt.map (KI.it P n)=todo->∀a w,fK F st a w->kM P F Q kt .normal a w
variable {P:Program} {n:Nat} {st:St} {Q:St->Prop} {k:List It}
def ad.nil(h:Q st):ad P n [] st Q:=by
 intro F _ kt hk a w hs;cases kt with
 |nil=>exact⟨.inl rfl,st,h,hs⟩
 |cons x kt=>simp at hk
def eE{kt:List KI}{x:It}(h:kt.map (KI.it P n)=x::k):∃y Ua,kt=y::Ua/\y.it P n=x/\Ua.map (KI.it P n)=k:=by
 cases kt with
 |nil=>simp at h
 |cons y Ua=>simp only[List.map_cons,List.cons.injEq]at h;exact⟨y,Ua,rfl,h.1,h.2⟩
def gB{y:KI}{c:bJ}(h:y.it P n=.code c):∃c0,y=.code c0/\dG P n c0=c:=by
 cases y<;>simp only[KI.it,It.code.injEq,reduceCtorEq]at h;exact⟨_,rfl,h⟩
def ad.skip(h:ad P n k st Q):ad P n (.code .skip::k) st Q:=by
 intro F hn kt hk a w hs;obtain⟨y,Ua,rfl,hy,Tl⟩:=eE hk;obtain⟨c0,rfl,hc⟩:=gB hy;have Vh:c0=.skip:=by
  cases c0<;>simp only[dG,reduceCtorEq]at hc<;>(try (split at hc;cases hc))<;>(try (split at hc<;>cases hc))<;>try rfl
 subst Vh;exact wpIn_skip (h F hn Ua Tl a w hs)
def ad.seq{x y:bJ}(h:ad P n (.code x::.code y::k) st Q):ad P n (.code (.seq x y)::k) st Q:=by
 intro F hn kt hk a w hs;obtain⟨z,Ua,rfl,hy,Tl⟩:=eE hk;obtain⟨c0,rfl,hc⟩:=gB hy;have Vh:∃x0 y0,c0=.seq x0 y0/\dG P n x0=x/\dG P n y0=y:=by
  cases c0<;>simp only[dG,reduceCtorEq,bJ.seq.injEq]at hc
  case region=>(split at hc;cases hc);split at hc<;>cases hc
  exact⟨_,_,rfl,hc.1,hc.2⟩
 obtain⟨x0,y0,rfl,rfl,rfl⟩:=Vh;refine wpIn_seq (wpIn_mono (h F hn (.code x0::.code y0::Ua) (by simp[KI.it,Tl]) a w hs) ?_);intro e a' w' hq;cases e<;>exact hq
def ad.block{id:Nat}{x:bJ}(h:ad P n (.code x::.inBlock id::k) st Q):ad P n (.code (.block id x)::k) st Q:=by
 intro F hn kt hk a w hs;obtain⟨z,Ua,rfl,hy,Tl⟩:=eE hk;obtain⟨c0,rfl,hc⟩:=gB hy;have Vh:∃x0,c0=.block id x0/\dG P n x0=x:=by
  cases c0<;>simp only[dG,reduceCtorEq,bJ.block.injEq]at hc
  case region=>(split at hc;cases hc);split at hc<;>cases hc
  obtain⟨rfl,h2⟩:=hc;exact⟨_,rfl,h2⟩
 obtain⟨x0,rfl,rfl⟩:=Vh;exact wpIn_block (h F hn (.code x0::.inBlock id::Ua) (by simp[KI.it,Tl]) a w hs)
def ad.inBlock{id:Nat}(h:ad P n k st Q):ad P n (.inBlock id::k) st Q:=by
 intro F hn kt hk a w hs;obtain⟨z,Ua,rfl,hy,Tl⟩:=eE hk;cases z<;>simp only[KI.it,It.inBlock.injEq,reduceCtorEq]at hy;exact h F hn Ua Tl a w hs
def ad.stop{μ:St->Prop}(h:μ st):ad P n (.stop μ::k) st Q:=by
 intro F hn kt hk a w hs;obtain⟨z,Ua,rfl,hy,Tl⟩:=eE hk;cases z<;>simp only[KI.it,It.stop.injEq,reduceCtorEq]at hy;subst hy;exact⟨st,h,hs⟩
def dY(id:Nat):List It->Option (List It)
 |[]=>none
 |.inBlock j::k=>if id=j then some k else dY id k
 |_::k=>dY id k
def kV{F:Fr}{id:Nat}{a:Act}{w:World}:∀{kt:List KI} {k':List It},dY id (kt.map (KI.it P n))=some k'->
 (∀Ua,Ua.map (KI.it P n)=k'->kM P F Q Ua .normal a w)->kM P F Q kt (.exit id) a w
 |[],_,h,_=>by simp[dY]at h
 |.code c::kt,_,h,hq=>kV (kt:=kt) (by simpa[KI.it,dY]using h) hq
 |.ops all l::kt,_,h,hq=>kV (kt:=kt) (by simpa[KI.it,dY]using h) hq
 |.stop μ::kt,_,h,hq=>kV (kt:=kt) (by simpa[KI.it,dY]using h) hq
 |.inBlock j::kt,k',h,hq=>by
  simp only[List.map_cons,KI.it,dY]at h;simp only[kM,Exit.inBlock];by_cases hj:id=j
  .rw[if_pos hj]at h|-;simp only[Oi]at h;exact hq kt h
  .rw[if_neg hj]at h|-;exact kV h hq
def ad.exit{id:Nat}{k':List It}(hp:dY id k=some k')(h:ad P n k' st Q):ad P n (.code (.exit id)::k) st Q:=by
 intro F hn kt hk a w hs;obtain⟨z,Ua,rfl,hy,Tl⟩:=eE hk;obtain⟨c0,rfl,hc⟩:=gB hy;have Vh:c0=.exit id:=by
  cases c0<;>simp only[dG,reduceCtorEq,bJ.exit.injEq]at hc
  case region=>(split at hc;cases hc);split at hc<;>cases hc
  rw[hc]
 subst Vh;exact wpIn_exit (kV (n:=n) (by rw[Tl];exact hp) (λkt'' h''=>h F hn kt'' h'' a w hs))
def kR{F:Fr}{a:Act}{w:World}(h:∃st,Q st/\fK F st a w):∀(kt:List KI),kM P F Q kt .ret a w
 |[]=>⟨.inr rfl,h⟩
 |.code _::kt=>kR h kt
 |.inBlock _::kt=>kR h kt
 |.ops _ _::kt=>kR h kt
 |.stop _::kt=>kR h kt
def ad.ret(h:Q st):ad P n (.code .ret::k) st Q:=by
 intro F hn kt hk a w hs;obtain⟨z,Ua,rfl,hy,Tl⟩:=eE hk;obtain⟨c0,rfl,hc⟩:=gB hy;have Vh:c0=.ret:=by
  cases c0<;>simp only[dG,reduceCtorEq]at hc<;>(try (split at hc;cases hc))<;>(try (split at hc<;>cases hc))<;>try rfl
 subst Vh;exact wpIn_ret (kR ⟨st,h,hs⟩ Ua)
def ad.cond{c:VX}{x y:bJ}{b:Bool}(hc:c.ev st.s=.bool b)(h1:b=true->ad P n (.code x::k) st Q)(h2:b=false->ad P n (.code y::k) st Q):
 ad P n (.code (.cond c x y)::k) st Q:=by
 intro F hn kt hk a w hs;obtain⟨z,Ua,rfl,hy,Tl⟩:=eE hk;obtain⟨c0,rfl,Tf⟩:=gB hy;have Vh:∃o x0 y0,c0=.cond o x0 y0/\cx n o=c/\dG P n x0=x/\dG P n y0=y:=by
  cases c0<;>simp only[dG,reduceCtorEq,bJ.cond.injEq]at Tf
  case region=>(split at Tf;cases Tf);split at Tf<;>cases Tf
  exact⟨_,_,_,rfl,Tf.1,Tf.2.1,Tf.2.2⟩
 obtain⟨o,x0,y0,rfl,rfl,rfl,rfl⟩:=Vh;obtain⟨I,RP⟩:=hs;have he:=cM RP o;rw[hn,hc]at he;simp only[E']at he;exact wpIn_cond_split he (λhb=>h1 hb F hn (.code x0::Ua) (by simp[KI.it,Tl]) a w ⟨I,RP⟩) (λhb=>h2 hb F hn (.code y0::Ua) (by simp[KI.it,Tl]) a w ⟨I,RP⟩)
def ad.region{l:List aN}(h:ad P n (.ops l::k) st Q):ad P n (.code (.Sd false l)::k) st Q:=by
 intro F hn kt hk a w hs;obtain⟨z,Ua,rfl,hy,Tl⟩:=eE hk;obtain⟨c0,rfl,Tf⟩:=gB hy;have Vh:∃id ops,c0=.region id ops false/\ops.toList.map (dn P n ops)=l:=by
  cases c0<;>simp only[dG,reduceCtorEq]at Tf;rename_i id ops draw;cases draw
  .simp only[Bool.false_and,Bool.false_eq_true,if_false,bJ.Sd.injEq,true_and]at Tf;exact⟨id,ops,rfl,Tf⟩
  .simp only[Bool.true_and]at Tf;split at Tf
   .cases Tf
   .split at Tf
    .cases Tf
    .simp at Tf
 obtain⟨id,ops,rfl,rfl⟩:=Vh;exact wpIn_region_list (h F hn (.ops ops ops.toList::Ua) (by simp[KI.it,Tl]) a w hs)
def ad.Ct(h:ad P n k st Q):ad P n (.ops []::k) st Q:=by
 intro F hn kt hk a w hs;obtain⟨z,Ua,rfl,hy,Tl⟩:=eE hk;cases z<;>simp only[KI.it,It.ops.injEq,reduceCtorEq,List.map_eq_nil_iff]at hy;subst hy;exact h F hn Ua Tl a w hs
def bu(s:Nat->V):Option (VX×Bool)->Option Bool
 |none=>some true
 |some (x,b)=>match x.ev s with
    |.bool c=>some (c==b)
    |.RB []=>some false
    |.int _ _=>some false
    |_=>none
def rS{F:Fr}{I:Mu}{st:St}{a:Act}{w:World}(hs:dq F I st a w)(all:Array Oper)(o:Oper){b:Bool}(h:bu st.s (dn P F.n all o).g=some b):
 Region.wanted o (yielded all a.tmps)=b:=by
 unfold Region.wanted;cases hg:o.guard with
 |none=>simp[dn,hg,bu]at h;simp[h]
 |some g=>
  obtain⟨j,want⟩:=g;simp only[dn,hg,Option.map_some,bu]at h;cases hd:(all[j]?).bind (·.dst)with
  |none=>
   simp only[hd,VX.ev]at h;simp only[Oi]at h;subst h;simp[yielded,hd]
  |some d=>
   simp only[hd]at h;by_cases X8:d<F.n
   .simp only[if_pos X8,VX.ev]at h;have hr:=hs.slot d X8;have Ut:a.tmps[d]?=some (a.tmps.getD d undef):=by
     rw[Array.getD_eq_getD_getElem?,Array.getElem?_eq_getElem (by rw[hs.size];exact X8)];rfl
    simp only[yielded,hd,Option.bind_some,Ut];split at h
    .rename_i c hc;rw[hc]at hr;simp only[E']at hr;rw[hr];simp only[Oi]at h;rw[<-h];rfl
    .rename_i hc;rw[hc]at hr;simp only[E',aA]at hr;obtain⟨RF,hv,rfl⟩:=hr;rw[hv];simp only[Oi]at h;rw[<-h];rfl
    .rename_i hc;rw[hc]at hr;simp only[E']at hr;rw[hr];simp only[Oi]at h;rw[<-h];rfl
    .cases h
   .simp only[if_neg X8,VX.ev]at h;simp only[Oi]at h;have hle:a.tmps.size<=d:=by rw[hs.size];exact Nat.le_of_not_lt X8
    have:a.tmps[d]?=none:=Array.getElem?_eq_none hle;simp[yielded,hd,this,<-h]
def St.put(st:St)(d:Option Nat)(v:V):St:=⟨aX st.s d v,st.U⟩
def ad.IL{i:aN}{l:List aN}(hw:bu st.s i.g=some true)
 (h:∀(F:Fr),F.n=n->∀(I:Mu) (a:Act) (w:World) (o:Oper) (all:Array Oper),dn P n all o=i->dq F I st a w->
   ∀(next:Act->World->Prop) (Q':Exit->Act->World->Prop),(∀Ug a' w',fK F Ug a' w'->ad P n (.ops l::k) Ug Q->next a' w')->o.wpIn F.eP 0 P a w next Q'):
 ad P n (.ops (i::l)::k) st Q:=by
 intro F hn kt hk a w hs;obtain⟨z,Ua,rfl,hy,Tl⟩:=eE hk;cases z<;>simp only[KI.it,It.ops.injEq,reduceCtorEq]at hy;rename_i all os;cases os with
 |nil=>simp at hy
 |cons o os=>
  simp only[List.map_cons,List.cons.injEq]at hy;obtain⟨hi,hl⟩:=hy;obtain⟨I,RP⟩:=hs;have V3:=rS (P:=P) RP all o (b:=true) (by rw[hn,hi];exact hw);simp only[kM,wpListIn,V3,if_true];refine h F hn I a w o all hi RP _ _ ?_;intro Ug a' w' hs'' hsem;exact hsem F hn (.ops all os::Ua) (by simp[KI.it,hl,Tl]) a' w' hs''
def ad.ins{i:aN}{l:List aN}(hb:i.op≠.bad)(hw:bu st.s i.g=some true)
 (h:∀(F:Fr),F.n=n->∀(I:Mu) (a:Act) (w:World) (o:Oper) (all:Array Oper),dn P n all o=i->dq F I st a w->
   ∀(next:Act->World->Prop) (Q':Exit->Act->World->Prop),(∀Ug a' w',fK F Ug a' w'->ad P n (.ops l::k) Ug Q->next a' w')->o.wp P a w next Q'):
 ad P n (.ops (i::l)::k) st Q:=by
 refine ad.IL hw λF hn I a w o all hi hs next Q' RL=>Iy ?_ (h F hn I a w o all hi hs next Q' RL)
 refine mG (P:=P) (n:=n) ?_;have:i.op=R0 P n o.op:=by rw[<-hi];rfl
 rw[<-this];exact hb
def ad.rJ{i:aN}{l:List aN}(hw:bu st.s i.g=some false)(h:ad P n (.ops l::k) (st.put i.dst (.RB [])) Q):ad P n (.ops (i::l)::k) st Q:=by
 intro F hn kt hk a w hs;obtain⟨z,Ua,rfl,hy,Tl⟩:=eE hk;cases z<;>simp only[KI.it,It.ops.injEq,reduceCtorEq]at hy;rename_i all os;cases os with
 |nil=>simp at hy
 |cons o os=>
  simp only[List.map_cons,List.cons.injEq]at hy;obtain⟨hi,hl⟩:=hy;obtain⟨I,RP⟩:=hs;have V3:=rS (P:=P) RP all o (b:=false) (by rw[hn,hi];exact hw);simp only[kM,wpListIn,V3,Bool.false_eq_true,if_false];refine⟨λ_ _=>trivial,?_⟩;refine h F hn (.ops all os::Ua) (by simp[KI.it,hl,Tl]) _ w ⟨I,?_⟩;have hd:i.dst=o.dst.filter (·<F.n):=by rw[<-hi,hn];rfl
  rw[St.put,hd];exact RP.pure (by simp only[E'];exact⟨[],rfl,by simp[aA]⟩)
def ad.pure{i:aN}{l:List aN}{v:V}(hw:bu st.s i.g=some true)(hp:fg st.s i.op)(hv:aL st.U st.s i.op=some v)
 (h:ad P n (.ops l::k) (st.put i.dst v) Q):ad P n (.ops (i::l)::k) st Q:=by
 refine ad.ins (λe=>by rw[e]at hv;simp[aL]at hv) hw λF hn I a w o all hi hs next Q' RL=>?_
 subst hn;have RH:i.op=R0 P F.n o.op:=by rw[<-hi];rfl
 have hd:i.dst=o.dst.filter (·<F.n):=by rw[<-hi];rfl
 obtain⟨z,hz,hr⟩:=qY hs o (RH▸hp) (RH▸hv);unfold Oper.wp;rw[hz];refine RL (st.put i.dst v) _ _ ⟨I,?_⟩ h;rw[St.put,hd];exact hs.pure hr
variable {P:Program} {n:Nat} {st:St} {Q:St->Prop} {k:List It}
def DF{F:Fr}{o:Oper}{a:Act}{w:World}{next next':Act->World->Prop}{R R':Exit->Act->World->Prop}(h:o.wpIn F.eP 0 P a w next R)
 (hn:∀a w,next a w->next' a w)(hq:∀e a w,e≠.normal->R e a w->R' e a w):o.wpIn F.eP 0 P a w next' R':=by
 refine⟨h.1,?_⟩;have h:=h.2;generalize (o.semAt F.eP.round a.eval).run P w=r at*;cases r with
 |ok x w'=>
  cases x<;>simp only[Oper.uponIn]at h|-<;>first
   |exact hn _ _ h
   |exact⟨h.1,CallsIn.mono h.2 (λe w'' he=>by cases e<;>first|exact hn _ _ he|exact hq _ _ _ (by simp) he|(obtain⟨a0,w0,h2⟩:=he;exact⟨a0,w0,hq _ _ _ (by simp) h2⟩))⟩
   |exact⟨h.1,RowsIn.mono h.2 (λ_ _ he=>hn _ _ he)⟩
   |exact⟨h.1,RoundIn.mono h.2 (λe w'' he=>by cases e<;>first|exact hn _ _ he|exact hq _ _ _ (by simp) he|(obtain⟨a0,w0,h2⟩:=he;exact⟨a0,w0,hq _ _ _ (by simp) h2⟩))⟩
   |contradiction
 |halt x w'=>cases x<;>simp only[Oper.uponIn]at h|-<;>first|exact hq _ _ _ (by simp) h|contradiction
def lP{F:Fr}{all:Array Oper}{R R':Exit->Act->World->Prop}(hq:∀e a w,R e a w->R' e a w):∀(l:List Oper) (a:Act) (w:World),wpListIn F.eP 0 P all R l a w->wpListIn F.eP 0 P all R' l a w
 |[],a,w,h=>hq _ _ _ h
 |o::l,a,w,h=>by
  simp only[wpListIn]at h|-;split
  .rename_i hw;simp only[hw,if_true]at h;exact DF h (lP hq l) (λe a w _=>hq e a w)
  .rename_i hw;simp only[hw]at h;exact⟨h.1,lP hq l _ _ h.2⟩
def Wk(U Z':ai)(v v':V):Prop:=∀(I:Mu) (w0 w:World) (Su:Nat->Prop) (x:Value),Sat w0 Su I U w->E' I (aG I U) w v x->E' I (aG I Z') w v' x
def Wk.refl{U Z':ai}(h:aa Z' U)(v:V):Wk U Z' v v:=λI _ w _ x _ hr=>E'.mono (df.refl I) (db.sub w h) (Nat.le_refl _) v x hr
def Wk.undef{U Z':ai}(v:V):Wk U Z' v .undef:=λ_ _ _ _ _ _ _=>by simp[E']
def Wk.own{U Z':ai}(h:aa Z' U){id off len:Nat}{ob:Ob}(ho:U id=some ob)(M':Z' id=none)(hl:off+len<=ob.rows.length):
 Wk U Z' (.own id off len) (.sl ob.sz ((ob.rows.drop off).take len)):=by
 intro I w0 w Su x hs hr;simp only[E']at hr|-;have hlen:((ob.rows.drop off).take len).length=len:=by simp;omega
 have Sw:=hs.obj id ob ho;split at hr
 .exact hr.elim
 .obtain⟨rfl,rfl,rfl⟩:=hr;exact⟨none,0,by simp,by simp,.inl (by simp)⟩
 .rename_i b sz cap hb;obtain⟨o,c,rfl,h1,h2,h3,hz⟩:=hr;refine⟨_,c,by rw[hlen],by omega,?_⟩;by_cases h0:len=0
  .left;subst h0;simp
  .right;rw[hb]at Sw;obtain⟨g1,g2,g3,g4,g5⟩:=Sw.rows hz;have ho':o=off*sz:=by
    rcases h3 with h3|h3
    .exact h3
    .omega
   subst ho' g1;refine⟨b,_,rfl,?_,g2,?_⟩
   .rintro⟨Tx,ob',UC,Tc,e1,e2⟩;have:=hs.inj Tx id ob' ob _ _ _ _ _ (h _ _ e1) ho e2 hb;rw[this,M']at e1;cases e1
   .have:=(g5.drop off).take len;rw[Nat.zero_add]at this;exact aY.mono (df.refl I) (db.sub w h) (Nat.le_refl _) _ _ _ _ rfl this
def ZP(U Z':ai):List V->List V->Prop
 |[],[]=>True
 |v::vs,v'::vs'=>Wk U Z' v v'/\ZP U Z' vs vs'
 |_,_=>False
def ZP.all{U Z':ai}{I:Mu}{w0 w:World}{Su:Nat->Prop}(hs:Sat w0 Su I U w):∀{vs vs':List V} {l:List Value},ZP U Z' vs vs'->
 aA I (aG I U) w vs l->aA I (aG I Z') w vs' l
 |[],[],_,_,h=>by simpa[aA]using h
 |v::vs,v'::vs',l,hw,h=>by
  simp only[aA]at h|-;obtain⟨x,xs,rfl,h1,h2⟩:=h;exact⟨x,xs,rfl,hw.1 I w0 w Su x hs h1,ZP.all hs hw.2 h2⟩
 |[],_::_,_,hw,_=>hw.elim
 |_::_,[],_,hw,_=>hw.elim
def Wk.agg{U Z':ai}{vs vs':List V}(h:ZP U Z' vs vs'):Wk U Z' (.agg vs) (.agg vs'):=by
 intro I w0 w Su x hs hr;simp only[E']at hr|-;obtain⟨RF,rfl,h1,h2⟩:=hr;exact⟨RF,rfl,ZP.all hs h h1,h2⟩
def Wk.RB{U Z':ai}{vs vs':List V}(h:ZP U Z' vs vs'):Wk U Z' (.RB vs) (.RB vs'):=by
 intro I w0 w Su x hs hr;simp only[E']at hr|-;obtain⟨RF,rfl,h1⟩:=hr;exact⟨RF,rfl,ZP.all hs h h1⟩
def Lu(st Ug:St):Prop:=aa Ug.U st.U/\∀i,Wk st.U Ug.U (st.s i) (Ug.s i)
def Lu.sat{st Ug:St}(h:Lu st Ug){F:Fr}{a:Act}{w:World}(hs:fK F st a w):fK F Ug a w:=by
 obtain⟨I,hs⟩:=hs;exact⟨I,hs.sat.drop h.1,hs.le,hs.size,hs.book.mc (db.sub w h.1),λi hi=>h.2 i I _ _ _ _ hs.sat (hs.slot i hi)⟩
def ad.weaken{todo:List It}{Ug:St}(h:Lu st Ug)(hr:ad P n todo Ug Q):ad P n todo st Q:=
 λF hn kt hk a w hs=>hr F hn kt hk a w (h.sat hs)
def uE{F:Fence}{m0:Nat}{c:Code}{Q':Exit->Act->World->Prop}(μ:Nat->Act->World->Prop)
 (round:∀m a w,μ m a w->c.wpIn F m0 P (Exit.then (λa' w'=>∃m',m'<m/\μ m' a' w') Q') a w):∀m a w,μ m a w->(Code.loop c).wpIn F m0 P Q' a w:=by
 intro m a w h b k cs Wf hb hr;have key:∀m a w,μ m a w->∃e a' w',Q' e a' w'/\ArrivesIn (Machine.fenced P F) P (lone (b.atR a (.code c::.inLoop c::k)) cs w) b k cs e a' w':=by
  intro m
  induction m using Nat.strongRecOn with
  |_ m ih=>
   intro a w hI;obtain⟨e,a₁,w₁,hq,Xz⟩:=round m a w hI b (.inLoop c::k) cs Wf hb hr;cases e with
   |normal=>
    obtain⟨m',H',hI'⟩:=hq;obtain⟨e₂,a₂,w₂,hq₂,harr₂⟩:=ih m' H' a₁ w₁ hI';exact⟨e₂,a₂,w₂,hq₂,.of_steps (StepsIn.trans Xz (.one (fenced_calm hb hr rfl) stepR_inLoop)) harr₂⟩
   |exit id=>exact⟨_,a₁,w₁,hq,.pass (x:=.inLoop c) rfl (λ_ _=>.inl (by simp)) Xz⟩
   |goto l=>exact⟨_,a₁,w₁,hq,.pass (x:=.inLoop c) rfl (λ_ _=>.inl (by simp)) Xz⟩
   |ret=>exact⟨_,a₁,w₁,hq,.pass (x:=.inLoop c) rfl (λ_ _=>.inl (by simp)) Xz⟩
   |panic ch=>exact⟨_,a₁,w₁,hq,.pass (x:=.inLoop c) rfl (λ_ _=>.inl (by simp)) Xz⟩
   |outgrown=>exact⟨_,a₁,w₁,hq,.pass (x:=.inLoop c) rfl (λ_ _=>.inl (by simp)) Xz⟩
 obtain⟨e,a',w',hq,Xz⟩:=key m a w h;exact⟨e,a',w',hq,.of_steps (.one (fenced_calm hb hr rfl) stepR_loop) Xz⟩
def ad.loop{x:bJ}(μ:Nat->St->Prop)(m:Nat)(h0:μ m st)(hr:∀m st,μ m st->ad P n (.code x::.stop (λUg=>∃m',m'<m/\μ m' Ug)::k) st Q):
 ad P n (.code (.loop x)::k) st Q:=by
 intro F hn kt hk a w hs;obtain⟨z,Ua,rfl,hy,Tl⟩:=eE hk;obtain⟨c0,rfl,hc⟩:=gB hy;have Vh:∃x0,c0=.loop x0/\dG P n x0=x:=by
  cases c0<;>simp only[dG,reduceCtorEq,bJ.loop.injEq]at hc
  case region=>(split at hc;cases hc);split at hc<;>cases hc
  exact⟨_,rfl,hc⟩
 obtain⟨x0,rfl,rfl⟩:=Vh;refine uE (λm a w=>∃st,μ m st/\fK F st a w) ?_ m a w ⟨st,h0,hs⟩;rintro m a w ⟨st,hi,hs⟩;refine wpIn_mono (hr m st hi F hn (.code x0::.stop (λUg=>∃m',m'<m/\μ m' Ug)::Ua) (by simp[KI.it,Tl]) a w hs) ?_;intro e a' w' h;cases e
 case normal=>obtain⟨Ug,⟨m',H',W5⟩,RP⟩:=h;exact⟨m',H',Ug,W5,RP⟩
 all_goals exact h
variable {P:Program} {n:Nat} {st:St} {Q:St->Prop} {k:List It}
def wj{o:Op}{e sz:Nat}{z:V}(h:R0 P n o=.alloc e sz z):∃i zv,o=.alloc e/\zeroOf P e=some (i,zv)/\i.size=sz/\ofValue zv=z:=by
 cases o
 case alloc t=>
  simp only[R0,cN]at h;split at h
  .rename_i i zv hz;simp only[RO.alloc.injEq]at h;obtain⟨rfl,h2,h3⟩:=h;exact⟨i,zv,rfl,hz,h2,h3⟩
  ·(repeat' split at h)<;>cases h
 case call c=>
  obtain⟨callee,args,argTypes⟩:=c;cases callee
  case builtin b=>cases b<;>simp only[R0,cN]at h<;>(repeat' split at h)<;>cases h
  all_goals (simp only[R0,cN]at h;cases h)
 case unOp op t x=>cases op<;>simp only[R0,cN]at h<;>cases h
 case makeFunc f a b=>cases f<;>simp only[R0,cN]at h<;>(repeat' split at h)<;>cases h
 all_goals (simp only[R0,cN]at h;(repeat' split at h)<;>cases h)
def wi{o:Op}{sz:Nat}{xa xv:VX}(h:R0 P n o=.store sz xa xv):∃t x y,o=.store t x y/\bU P t=true/\P.cellsOf t=sz/\cx n x=xa/\cx n y=xv:=by
 cases o
 case store t x y=>
  simp only[R0,cN]at h;split at h
  .rename_i hk;simp only[RO.store.injEq]at h;exact⟨t,x,y,rfl,hk,h.1,h.2.1,h.2.2⟩
  ·(repeat' split at h)<;>cases h
 case call c=>
  obtain⟨callee,args,argTypes⟩:=c;cases callee
  case builtin b=>cases b<;>simp only[R0,cN]at h<;>(repeat' split at h)<;>cases h
  all_goals (simp only[R0,cN]at h;cases h)
 case unOp op t x=>cases op<;>simp only[R0,cN]at h<;>cases h
 case makeFunc f a b=>cases f<;>simp only[R0,cN]at h<;>(repeat' split at h)<;>cases h
 all_goals (simp only[R0,cN]at h;(repeat' split at h)<;>cases h)
def sW{o:Op}{e sz:Nat}{xs:List VX}(h:R0 P n o=.bp e sz xs):∃t len parts i z,o=.buildSlice t len parts/\P.underlying t=some (.slice e)/\zeroOf P e=some (i,z)/\
 i.size=sz/\parts.toList.map (·.1)=List.range len/\len*i.size<=16777216/\parts.toList.map (λp=>cx n p.2)=xs:=by
 cases o
 case buildSlice t len parts=>
  simp only[R0,cN]at h;split at h
  .rename_i e' he;split at h
   .rename_i i z hz;split at h
    .rename_i hc;simp only[RO.bp.injEq]at h;obtain⟨rfl,h2,h3⟩:=h;exact⟨t,len,parts,i,z,rfl,he,hz,h2,hc.1,hc.2,h3⟩
    .cases h
   .cases h
  .cases h
 case call c=>
  obtain⟨callee,args,argTypes⟩:=c;cases callee
  case builtin b=>cases b<;>simp only[R0,cN]at h<;>(repeat' split at h)<;>cases h
  all_goals (simp only[R0,cN]at h;cases h)
 case unOp op t x=>cases op<;>simp only[R0,cN]at h<;>cases h
 case makeFunc f a b=>cases f<;>simp only[R0,cN]at h<;>(repeat' split at h)<;>cases h
 all_goals (simp only[R0,cN]at h;(repeat' split at h)<;>cases h)
def EN{o:Op}{e sz bytes:Nat}{zv:V}{xn:VX}(h:R0 P n o=.mk e sz bytes zv xn):∃t l c i z,o=.makeSlice t l c/\P.underlying t=some (.slice e)/\zeroOf P e=some (i,z)/\
 i.size=sz/\i.bytes=bytes/\ofValue z=zv/\rV l c=true/\cx n l=xn:=by
 cases o
 case makeSlice t l c=>
  simp only[R0,cN]at h;split at h
  .rename_i e' he;split at h
   .rename_i i z hz;split at h
    .rename_i hc;simp only[RO.mk.injEq]at h;obtain⟨rfl,h2,h3,h4,h5⟩:=h;exact⟨t,l,c,i,z,rfl,he,hz,h2,h3,h4,hc,h5⟩
    .cases h
   .cases h
  .cases h
 case call c=>
  obtain⟨callee,args,argTypes⟩:=c;cases callee
  case builtin b=>cases b<;>simp only[R0,cN]at h<;>(repeat' split at h)<;>cases h
  all_goals (simp only[R0,cN]at h;cases h)
 case unOp op t x=>cases op<;>simp only[R0,cN]at h<;>cases h
 case makeFunc f a b=>cases f<;>simp only[R0,cN]at h<;>(repeat' split at h)<;>cases h
 all_goals (simp only[R0,cN]at h;(repeat' split at h)<;>cases h)
def zY{o:Op}{e sz bytes:Nat}{zv:V}{xa xb:VX}(h:R0 P n o=.Wr e sz bytes zv xa xb):∃t tn kn x y args argTypes i z,o=.call { callee:=.builtin .append,args:=args,argTypes:=argTypes }/\
 args=#[x,y]/\argTypes=#[t,tn]/\P.underlying t=some (.slice e)/\P.underlying tn=some (.int kn)/\zeroOf P e=some (i,z)/\i.size=sz/\i.bytes=bytes/\ofValue z=zv/\cx n x=xa/\cx n y=xb:=by
 cases o
 case call c=>
  obtain⟨callee,args,argTypes⟩:=c;cases callee
  case value=>simp[R0]at h
  case invoke=>simp[R0]at h
  case builtin b=>
   cases b
   case append=>
    simp only[R0,cN]at h;split at h
    .rename_i x y t t' h1 h2;split at h
     .split at h
      .split at h<;>cases h
      .cases h
     .split at h
      .rename_i e' kn he hn;split at h
       .rename_i i z hz;simp only[RO.Wr.injEq]at h;obtain⟨rfl,h4,h5,h6,h7,h8⟩:=h;exact⟨t,t',kn,x,y,args,argTypes,i,z,rfl,by apply Array.ext';simpa using h1,by apply Array.ext';simpa using h2,he,hn,hz,h4,h5,h6,h7,h8⟩
       .cases h
      .split at h<;>cases h
      .cases h
    .cases h
   all_goals (simp only[R0,cN]at h;(repeat' split at h)<;>cases h)
 case unOp op t x=>cases op<;>simp only[R0,cN]at h<;>cases h
 case makeFunc f a b=>cases f<;>simp only[R0,cN]at h<;>(repeat' split at h)<;>cases h
 all_goals (simp only[R0,cN]at h;(repeat' split at h)<;>cases h)
def tR{o:Op}{e sz bytes:Nat}{xa xb:VX}(h:R0 P n o=.append e sz bytes xa xb):∃t t' x y args argTypes i z,o=.call { callee:=.builtin .append,args:=args,argTypes:=argTypes }/\
 args=#[x,y]/\argTypes=#[t,t']/\(t'=t\/P.underlying t'=some .string)/\P.underlying t=some (.slice e)/\zeroOf P e=some (i,z)/\i.size=sz/\i.bytes=bytes/\cx n x=xa/\cx n y=xb:=by
 cases o
 case call c=>
  obtain⟨callee,args,argTypes⟩:=c;cases callee
  case value=>simp[R0]at h
  case invoke=>simp[R0]at h
  case builtin b=>
   cases b
   case append=>
    simp only[R0,cN]at h;split at h
    .rename_i x y t t' h1 h2;split at h
     .rename_i htt;subst htt;split at h
      .rename_i e' he;split at h
       .rename_i i z hz;simp only[RO.append.injEq]at h;obtain⟨rfl,h4,h5,h6,h7⟩:=h;exact⟨t,t,x,y,args,argTypes,i,z,rfl,by apply Array.ext';simpa using h1,by apply Array.ext';simpa using h2,.inl rfl,he,hz,h4,h5,h6,h7⟩
       .cases h
      .cases h
     .split at h
      .split at h<;>cases h
      .rename_i e' he hn;split at h
       .rename_i i z hz;simp only[RO.append.injEq]at h;obtain⟨rfl,h4,h5,h6,h7⟩:=h;exact⟨t,t',x,y,args,argTypes,i,z,rfl,by apply Array.ext';simpa using h1,by apply Array.ext';simpa using h2,.inr hn,he,hz,h4,h5,h6,h7⟩
       .cases h
      .cases h
    .cases h
   all_goals (simp only[R0,cN]at h;(repeat' split at h)<;>cases h)
 case unOp op t x=>cases op<;>simp only[R0,cN]at h<;>cases h
 case makeFunc f a b=>cases f<;>simp only[R0,cN]at h<;>(repeat' split at h)<;>cases h
 all_goals (simp only[R0,cN]at h;(repeat' split at h)<;>cases h)
def lJ{o:Op}{f:VX}{xs:List VX}(h:R0 P n o=.call f xs):∃f0 args argTypes,o=.call { callee:=.value f0,args:=args,argTypes:=argTypes }/\cx n f0=f/\args.toList.map (cx n)=xs:=by
 cases o
 case call c=>
  obtain⟨callee,args,argTypes⟩:=c;cases callee
  case value f0=>simp only[R0,RO.call.injEq]at h;exact⟨f0,args,argTypes,rfl,h.1,h.2⟩
  case invoke=>simp[R0]at h
  case builtin b=>cases b<;>simp only[R0,cN]at h<;>(repeat' split at h)<;>cases h
 case unOp op t x=>cases op<;>simp only[R0,cN]at h<;>cases h
 case makeFunc f a b=>cases f<;>simp only[R0,cN]at h<;>(repeat' split at h)<;>cases h
 all_goals (simp only[R0,cN]at h;(repeat' split at h)<;>cases h)
def B4{o:Op}{e sz:Nat}{xv:VX}(h:R0 P n o=.box e sz xv):∃x,o=.box e x/\bU P e=true/\P.cellsOf e=sz/\cx n x=xv:=by
 cases o
 case box t x=>
  simp only[R0,cN]at h;split at h
  .rename_i hk;simp only[RO.box.injEq]at h;obtain⟨rfl,h2,h3⟩:=h;exact⟨x,rfl,hk,h2,h3⟩
  .cases h
 case call c=>
  obtain⟨callee,args,argTypes⟩:=c;cases callee
  case builtin b=>cases b<;>simp only[R0,cN]at h<;>(repeat' split at h)<;>cases h
  all_goals (simp only[R0,cN]at h;cases h)
 case unOp op t x=>cases op<;>simp only[R0,cN]at h<;>cases h
 case makeFunc f a b=>cases f<;>simp only[R0,cN]at h<;>(repeat' split at h)<;>cases h
 all_goals (simp only[R0,cN]at h;(repeat' split at h)<;>cases h)
def Db{o:Op}{sz:Nat}{z:V}{xv:VX}(h:R0 P n o=.clear sz z xv):∃x t e args argTypes i zv,o=.call { callee:=.builtin .clear,args:=args,argTypes:=argTypes }/\
 args=#[x]/\argTypes[0]?=some t/\P.underlying t=some (.slice e)/\zeroOf P e=some (i,zv)/\i.size=sz/\ofValue zv=z/\cx n x=xv:=by
 cases o
 case call c=>
  obtain⟨callee,args,argTypes⟩:=c;cases callee
  case builtin b=>
   cases b
   case clear=>
    simp only[R0,cN]at h;split at h
    .rename_i x t h1 h2;split at h
     .rename_i e he;split at h
      .rename_i i zv hz;simp only[RO.clear.injEq]at h;exact⟨x,t,e,args,argTypes,i,zv,rfl,by apply Array.ext';simpa using h1,h2,he,hz,h.1,h.2.1,h.2.2⟩
      .cases h
     .cases h
    .cases h
   all_goals (simp only[R0,cN]at h;(repeat' split at h)<;>cases h)
  all_goals (simp only[R0,cN]at h;cases h)
 case unOp op t x=>cases op<;>simp only[R0,cN]at h<;>cases h
 case makeFunc f a b=>cases f<;>simp only[R0,cN]at h<;>(repeat' split at h)<;>cases h
 all_goals (simp only[R0,cN]at h;(repeat' split at h)<;>cases h)
def vj{F:Fr}{I:Mu}{a:Act}{w:World}(hs:dq F I st a w){o:Oper}{t:TypeId}{x:Operand}(Wv:o.op=.box t x)(hk:bU P t=true)
 (hx:((cx F.n x).ev st.s).cells.length=P.cellsOf t)(RV:((cx F.n x).ev st.s).stays=true):
 ∃id,st.U id=none/\∃y w' Y',(execOp a.eval o).run P w=.ok (.value y) w'/\
  dq F Y' ⟨aX st.s (o.dst.filter (·<F.n)) (.ptr id 0 0),C' st.U id ⟨t,P.cellsOf t,[(cx F.n x).ev st.s]⟩⟩ (a.put o.dst y) w':=by
 have SP:=(dO hk).2.2;obtain⟨g1,g2⟩:=(cM hs x).cells RV;have hl:=(cM hs x).jd RV;obtain⟨id,M',Y',h1,h2,h3,h4⟩:=hs.sat.renew (row:=none) (World.grownBy_alloc w (.cells (a.eval x).cells t) none) none (.inl rfl) w.heap.size (P.cellsOf t) 1 (a.eval x).cells t [(cx F.n x).ev st.s] (a.eval x).cells.toList (.inr (Nat.le_refl _))
  (heap_alloc_new w _) SP (by omega) (by simp) (by simp[maxLen]) (by intro r hr;simp at hr;subst hr;exact hx)
  (by simp only[flat,List.flatMap_cons,List.flatMap_nil,List.append_nil];exact g1) g2 (by intro j u hu;simpa using hu)
 refine⟨id,M',.pointer (some ⟨w.heap.size,0,none⟩),w.alloc (.cells (a.eval x).cells t),Y',?_,hs.step h3 h2 h4 (by simp) (by simp[E',h1];exact SP)⟩;unfold execOp;rw[Wv];simp[Instr.box,newVar,newRow]
def eF{all:Array Oper}{o:Oper}{i:aN}(h:dn P n all o=i):R0 P n o.op=i.op/\o.dst.filter (·<n)=i.dst:=by rw[<-h];exact⟨rfl,rfl⟩
def ad.alloc{i:aN}{l:List aN}{e sz:Nat}{z:V}(hw:bu st.s i.g=some true)(ho:i.op=.alloc e sz z)
 (h:∀id,st.U id=none->ad P n (.ops l::k) ⟨aX st.s i.dst (.ptr id 0 0),C' st.U id ⟨e,sz,[z]⟩⟩ Q):ad P n (.ops (i::l)::k) st Q:=by
 refine ad.ins (by rw[ho];simp) hw λF hn I a w o all hi hs next Q' RL=>?_
 subst hn;obtain⟨RH,hd⟩:=eF hi;rw[ho]at RH;obtain⟨ti,zv,h1,h2,rfl,rfl⟩:=wj RH;obtain⟨id,M',x,w',Y',hx,RP⟩:=qj hs h1 h2;unfold Oper.wp;rw[hx];refine RL _ _ _ ⟨Y',?_⟩ (h id M');rw[<-hd];exact RP
def ad.box{i:aN}{l:List aN}{e sz:Nat}{xv:VX}(hw:bu st.s i.g=some true)(ho:i.op=.box e sz xv)
 (hx:(xv.ev st.s).cells.length=sz)(RV:(xv.ev st.s).stays=true)
 (h:∀id,st.U id=none->ad P n (.ops l::k) ⟨aX st.s i.dst (.ptr id 0 0),C' st.U id ⟨e,sz,[xv.ev st.s]⟩⟩ Q):ad P n (.ops (i::l)::k) st Q:=by
 refine ad.ins (by rw[ho];simp) hw λF hn I a w o all hi hs next Q' RL=>?_
 subst hn;obtain⟨RH,hd⟩:=eF hi;rw[ho]at RH;obtain⟨x,h1,h2,rfl,rfl⟩:=B4 RH;obtain⟨id,M',y,w',Y',hy,RP⟩:=vj hs h1 h2 hx RV;unfold Oper.wp;rw[hy];refine RL _ _ _ ⟨Y',?_⟩ (h id M');rw[<-hd];exact RP
def ad.store{i:aN}{l:List aN}{sz:Nat}{xa xv:VX}(hw:bu st.s i.g=some true)(ho:i.op=.store sz xa xv)
 {id r0 c:Nat}(h1:xa.ev st.s=.ptr id r0 c){ob:Ob}(h2:st.U id=some ob){r r':V}(h3:ob.rows[r0]?=some r)(h4:cp r c sz (xv.ev st.s)=some r')
 (h:ad P n (.ops l::k) ⟨aX st.s i.dst (.RB []),C' st.U id { ob with rows:=ob.rows.set r0 r' }⟩ Q):ad P n (.ops (i::l)::k) st Q:=by
 refine ad.ins (by rw[ho];simp) hw λF hn I a w o all hi hs next Q' RL=>?_
 subst hn;obtain⟨RH,hd⟩:=eF hi;rw[ho]at RH;obtain⟨t,x,y,g1,g2,rfl,rfl,rfl⟩:=wi RH;obtain⟨w',hx,RP⟩:=rk hs g1 g2 h1 h2 h3 h4;unfold Oper.wp;rw[hx];refine RL _ _ _ ⟨I,?_⟩ h;rw[<-hd];exact RP
def ad.mkS{i:aN}{l:List aN}{e sz bytes:Nat}{zv:V}{xn:VX}(hw:bu st.s i.g=some true)(ho:i.op=.mk e sz bytes zv xn){m:Int}(hm:xn.ev st.s=.int .i64 m)
 (h0:0<=m)(hb:m.toNat*(bytes+1)<=140737488355328)
 (h:∀id,st.U id=none->ad P n (.ops l::k) ⟨aX st.s i.dst (.own id 0 m.toNat),C' st.U id ⟨e,sz,List.replicate m.toNat zv⟩⟩ Q):ad P n (.ops (i::l)::k) st Q:=by
 refine ad.ins (by rw[ho];simp) hw λF hn I a w o all hi hs next Q' RL=>?_
 subst hn;obtain⟨RH,hd⟩:=eF hi;rw[ho]at RH;obtain⟨t,l',c,ti,z,h1,h2,h3,rfl,rfl,rfl,h5,rfl⟩:=EN RH;obtain⟨id,M',x,w',Y',R9,RP⟩:=ze hs h1 h5 h2 h3 hm h0 hb;unfold Oper.wp;rw[R9];refine RL _ _ _ ⟨Y',?_⟩ (h id M');rw[<-hd];exact RP
def ad.Of{i:aN}{l:List aN}{e sz bytes:Nat}{zv:V}{xa xn:VX}(hw:bu st.s i.g=some true)(ho:i.op=.Wr e sz bytes zv xa xn)(hx:xa.ev st.s=.aC){kq:IntKind}{m:Int}(hm:xn.ev st.s=.int kq m)
 (h0:0<m)(hb:m.toNat*(bytes+1)<=140737488355328)
 (h:∀id,st.U id=none->ad P n (.ops l::k) ⟨aX st.s i.dst (.own id 0 m.toNat),C' st.U id ⟨e,sz,List.replicate m.toNat zv⟩⟩ Q):ad P n (.ops (i::l)::k) st Q:=by
 refine ad.ins (by rw[ho];simp) hw λF hn I a w o all hi hs next Q' RL=>?_
 subst hn;obtain⟨RH,hd⟩:=eF hi;rw[ho]at RH;obtain⟨t,tn,kn,x,y,args,argTypes,ti,z,h1,h2,h3,h4,h5,h6,rfl,rfl,rfl,rfl,rfl⟩:=zY RH;obtain⟨id,M',x,w',Y',R9,RP⟩:=tV hs h1 h2 h3 h4 h5 h6 hx hm h0 hb;unfold Oper.wp;rw[R9];refine RL _ _ _ ⟨Y',?_⟩ (h id M');rw[<-hd];exact RP
def ad.bp{i:aN}{l:List aN}{e sz:Nat}{xs:List VX}(hw:bu st.s i.g=some true)(ho:i.op=.bp e sz xs)
 (hx:∀x∈xs.map (·.ev st.s),x.cells.length=sz/\x.stays=true)
 (h:∀id,st.U id=none->ad P n (.ops l::k) ⟨aX st.s i.dst (.own id 0 xs.length),C' st.U id ⟨e,sz,xs.map (·.ev st.s)⟩⟩ Q):ad P n (.ops (i::l)::k) st Q:=by
 refine ad.ins (by rw[ho];simp) hw λF hn I a w o all hi hs next Q' RL=>?_
 subst hn;obtain⟨RH,hd⟩:=eF hi;rw[ho]at RH;obtain⟨t,len,parts,ti,z,h1,h2,h3,rfl,h5,h6,rfl⟩:=sW RH;rw[List.map_map]at hx;obtain⟨id,M',x,w',Y',R9,RP⟩:=oW hs h1 h2 h3 h5 h6 hx;unfold Oper.wp;rw[R9];refine RL _ _ _ ⟨Y',?_⟩ (h id M');have hl:parts.size=len:=by have:=congrArg List.length h5;simpa using this
 simp only[List.length_map,List.map_map,Array.length_toList,hl,<-hd];exact RP
def ad.append{i:aN}{l:List aN}{e sz bytes:Nat}{xa xb:VX}(hw:bu st.s i.g=some true)(ho:i.op=.append e sz bytes xa xb)
 {base src:List V}{RN:Option Nat}(h1:cg st.U e sz (xa.ev st.s)=some (base,RN))(h2:bR st.U sz (xb.ev st.s)=some src)
 (hb:(base.length+src.length)*(bytes+1)<=140737488355328)
 (h:∀id,st.U id=none->ad P n (.ops l::k) ⟨aX st.s i.dst (.own id 0 (base.length+src.length)),C' (bK st.U RN) id ⟨e,sz,base++src⟩⟩ Q):
 ad P n (.ops (i::l)::k) st Q:=by
 refine ad.ins (by rw[ho];simp) hw λF hn I a w o all hi hs next Q' RL=>?_
 subst hn;obtain⟨RH,hd⟩:=eF hi;rw[ho]at RH;obtain⟨t,t',x,y,args,argTypes,ti,z,g1,g2,g3,YS,g4,g5,rfl,rfl,rfl,rfl⟩:=tR RH;obtain⟨id,M',r,w',Y',hx,RP⟩:=oz hs g1 g2 g3 YS g4 g5 h1 h2 hb;unfold Oper.wp;rw[hx];refine RL _ _ _ ⟨Y',?_⟩ (h id M');rw[<-hd];exact RP
def eG(P:Program)(f:FuncId):Bool:=match P.funcs[f]? with
 |some fn=>fn.name != "runtime.NumGoroutine"&&fn.body.isSome
 |none=>false
def lv{w:World}{f:FuncId}(h:eG P f=true)(args:Array Value):(callFunc f args).run P w=.ok (.enter f args) w:=by
 unfold eG at h;split at h
 .rename_i fn hf;simp only[Ba,bne_iff_ne,ne_eq]at h;cases hb:fn.body with
  |none=>simp[hb]at h
  |some c=>simp[callFunc,hf,h.1,hb]
 .cases h
def aD(P:Program)(f:FuncId)(args:List V)(U:ai)(Post:V->ai->Prop):Prop:=eG P f=true/\qI P f args U Post
def aD.mono{f:FuncId}{args:List V}{U:ai}{Post UD:V->ai->Prop}(h:aD P f args U Post)(hp:∀r Z',Post r Z'->UD r Z'):
 aD P f args U UD:=⟨h.1,h.2.mono hp⟩
def aA.app{I:Mu}{ow:Nat->Prop}{w:World}{vs us:List V}{l m:List Value}(h:aA I ow w vs l)(h':aA I ow w us m):aA I ow w (vs++us) (l++m):=h.append h'
def nS{F:Fr}{I:Mu}{a:Act}{w:World}(hs:dq F I st a w){o:Oper}{f0:Operand}{args:Array Operand}{argTypes:Array TypeId}
 (Wv:o.op=.call { callee:=.value f0,args:=args,argTypes:=argTypes }){f:FuncId}{caps:List V}(hf:(cx F.n f0).ev st.s=.fn f caps)
 {Post:V->ai->Prop}(hc:aD P f ((args.toList.map (cx F.n)).map (·.ev st.s)++caps) st.U Post){next:Act->World->Prop}{Q':Exit->Act->World->Prop}
 (RL:∀r Z',Post r Z'->∀a' w',fK F ⟨aX st.s (o.dst.filter (·<F.n)) r,Z'⟩ a' w'->next a' w'):o.wp P a w next Q':=by
 have UM:=cM hs f0;rw[hf]at UM;simp only[E']at UM;obtain⟨cvals,hfv,Zm⟩:=UM;have Sp:=(mJ hs args.toList).app Zm;have Sf:(execOp a.eval o).run P w=.ok (.enter f ((args.toList.map a.eval++cvals).toArray)) w:=by
  unfold execOp;rw[Wv];simp only[resolve,hfv,Deferred.ofValue,Sem.run_bind,Sem.run_pure,Result.andThen_ok,invoke,lv hc.1];congr 2;apply Array.ext';simp
 unfold Oper.wp;rw[Sf];simp only[Oper.upon];have TT:Sat w (aG I st.U) I st.U w:=by
  have h:=hs.sat;exact⟨Nat.le_refl _,rfl,rfl,rfl,λ_ _ _=>rfl,h.fin,h.inj,h.obj,λb hb _=>hb,h.oQ⟩
 refine(hc.2 I w _ TT Sp).mono ?_;rintro e w' ⟨r,Z',Y',val,rfl,hp,hle,RP,hr⟩;refine RL r Z' hp _ _ ⟨Y',?_⟩;have TP:db (aG I st.U) (aG Y' Z') w w':=λb hb hn=>⟨λho=>hn (RP.fresh b ho hb),RP.same b hb hn⟩
 have h0:=hs.sat;have SA:Sat F.w0 F.Su Y' Z' w':=by
  refine⟨Nat.le_trans h0.size RP.size,RP.os.trans h0.os,RP.tape.trans h0.tape,RP.output.trans h0.output,?_,RP.fin,RP.inj,RP.obj,?_,h0.UW⟩
  .intro b hb hn;have h1:¬aG I st.U b:=λho=>hn (h0.fresh b ho hb);rw[RP.same b (Nat.lt_of_lt_of_le hb h0.size) h1,h0.same b hb hn]
  .intro b hb H';have h1:=RP.fresh b hb (Nat.lt_of_lt_of_le H' h0.size);exact h0.fresh b h1 H'
 exact hs.step SA hle TP RP.size hr
def ad.call{i:aN}{l:List aN}{fx:VX}{xs:List VX}(hw:bu st.s i.g=some true)(ho:i.op=.call fx xs){f:FuncId}{caps:List V}(hf:fx.ev st.s=.fn f caps)
 {Post:V->ai->Prop}(hc:aD P f (xs.map (·.ev st.s)++caps) st.U Post)
 (h:∀r Z',Post r Z'->ad P n (.ops l::k) ⟨aX st.s i.dst r,Z'⟩ Q):ad P n (.ops (i::l)::k) st Q:=by
 refine ad.ins (by rw[ho];simp) hw λF hn I a w o all hi hs next Q' RL=>?_
 subst hn;obtain⟨RH,hd⟩:=eF hi;rw[ho]at RH;obtain⟨f0,args,argTypes,g1,rfl,rfl⟩:=lJ RH;refine nS hs g1 hf hc λr Z' hp a' w' RP=>RL _ a' w' RP ?_;rw[hd];exact h r Z' hp
def zI{F:Fr}{I:Mu}{a:Act}{w:World}(hs:dq F I st a w){o:Oper}{f0:Operand}{args:Array Operand}{argTypes:Array TypeId}
 (Wv:o.op=.call { callee:=.value f0,args:=args,argTypes:=argTypes }){f:FuncId}{first:List V}(hf:(cx F.n f0).ev st.s=.bm f first)
 {Post:V->ai->Prop}(hc:aD P f (first++(args.toList.map (cx F.n)).map (·.ev st.s)) st.U Post){next:Act->World->Prop}{Q':Exit->Act->World->Prop}
 (RL:∀r Z',Post r Z'->∀a' w',fK F ⟨aX st.s (o.dst.filter (·<F.n)) r,Z'⟩ a' w'->next a' w'):o.wp P a w next Q':=by
 have UM:=cM hs f0;rw[hf]at UM;simp only[E']at UM;obtain⟨cvals,hfv,Zm⟩:=UM;have Sp:=Zm.app (mJ hs args.toList);have Sf:(execOp a.eval o).run P w=.ok (.enter f ((cvals++args.toList.map a.eval).toArray)) w:=by
  unfold execOp;rw[Wv];simp only[resolve,hfv,Deferred.ofValue,Sem.run_bind,Sem.run_pure,Result.andThen_ok,invoke,lv hc.1];congr 2;apply Array.ext';simp
 unfold Oper.wp;rw[Sf];simp only[Oper.upon];have TT:Sat w (aG I st.U) I st.U w:=by
  have h:=hs.sat;exact⟨Nat.le_refl _,rfl,rfl,rfl,λ_ _ _=>rfl,h.fin,h.inj,h.obj,λb hb _=>hb,h.oQ⟩
 refine(hc.2 I w _ TT Sp).mono ?_;rintro e w' ⟨r,Z',Y',val,rfl,hp,hle,RP,hr⟩;refine RL r Z' hp _ _ ⟨Y',?_⟩;have TP:db (aG I st.U) (aG Y' Z') w w':=λb hb hn=>⟨λho=>hn (RP.fresh b ho hb),RP.same b hb hn⟩
 have h0:=hs.sat;have SA:Sat F.w0 F.Su Y' Z' w':=by
  refine⟨Nat.le_trans h0.size RP.size,RP.os.trans h0.os,RP.tape.trans h0.tape,RP.output.trans h0.output,?_,RP.fin,RP.inj,RP.obj,?_,h0.UW⟩
  .intro b hb hn;have h1:¬aG I st.U b:=λho=>hn (h0.fresh b ho hb);rw[RP.same b (Nat.lt_of_lt_of_le hb h0.size) h1,h0.same b hb hn]
  .intro b hb H';have h1:=RP.fresh b hb (Nat.lt_of_lt_of_le H' h0.size);exact h0.fresh b h1 H'
 exact hs.step SA hle TP RP.size hr
def ad.kJ{i:aN}{l:List aN}{fx:VX}{xs:List VX}(hw:bu st.s i.g=some true)(ho:i.op=.call fx xs){f:FuncId}{first:List V}(hf:fx.ev st.s=.bm f first)
 {Post:V->ai->Prop}(hc:aD P f (first++xs.map (·.ev st.s)) st.U Post)
 (h:∀r Z',Post r Z'->ad P n (.ops l::k) ⟨aX st.s i.dst r,Z'⟩ Q):ad P n (.ops (i::l)::k) st Q:=by
 refine ad.ins (by rw[ho];simp) hw λF hn I a w o all hi hs next Q' RL=>?_
 subst hn;obtain⟨RH,hd⟩:=eF hi;rw[ho]at RH;obtain⟨f0,args,argTypes,g1,rfl,rfl⟩:=lJ RH;refine zI hs g1 hf hc λr Z' hp a' w' RP=>RL _ a' w' RP ?_;rw[hd];exact h r Z' hp
inductive VR where
 |tmp (x:VX)
 |cell (agg:Bool) (sz:Nat) (x:VX)
 |bad
def Bm(P:Program)(n:Nat):ResultVar->VR
 |.tmp t=>.tmp (cx n (.tmp t))
 |.cell t ty=>if bU P ty then .cell (fm P ty) (P.cellsOf ty) (cx n (.tmp t))else .bad
def gJ(st:St):VR->Option V
 |.tmp x=>some (x.ev st.s)
 |.cell agg sz x=>bT st.U agg sz (x.ev st.s)
 |.bad=>none
def eV(st:St):List VR->Option (List V)
 |[]=>some []
 |r::rs=>match gJ st r with
   |some v=>match eV st rs with
    |some vs=>some (v::vs)
    |none=>none
   |none=>none
def mW(st:St)(l:List VR):Option V:=match eV st l with
 |some [v]=>some v
 |some vs=>some (.RB vs)
 |none=>none
def VL(l:List VR)(st:St)(Post:V->ai->Prop):Prop:=
 ∃v v' Z',mW st l=some v/\aa Z' st.U/\Wk st.U Z' v v'/\Post v' Z'
structure Ry where
 n:Nat
 code:bJ
 res:List VR
def cfn(P:Program)(fn:Func):Option Ry:=match fn.body with
 |some c=>some ⟨fn.ntmps,dG P fn.ntmps c,fn.results.toList.map (Bm P fn.ntmps)⟩
 |none=>none
def wQ(tmps:Array Value):ResultVar->Go.Sem Value
 |.tmp t=>pure (tmps.getD t undef)
 |.cell b t=>do loadVar t (<-asAddr (tmps.getD b undef))
def AN(fn:Func)(tmps:Array Value):results fn tmps=(do
 let vs <-Functor.map List.toArray (fn.results.toList.mapM (wQ tmps))
 pure (if h:vs.size=1 then vs[0]else .tuple vs)):=by
 unfold results;rw[Array.mapM_eq_mapM_toList];congr 3
def wK{F:Fr}{I:Mu}{a:Act}{w:World}(hs:dq F I st a w)(r:ResultVar){v:V}(h:gJ st (Bm P F.n r)=some v):
 ∃x,(wQ a.tmps r).run P w=.ok x w/\E' I (aG I st.U) w v x:=by
 cases r with
 |tmp t=>
  simp only[Bm,gJ,Oi]at h;subst h;exact⟨_,rfl,cM hs (.tmp t)⟩
 |cell b t=>
  simp only[Bm]at h;split at h
  .rename_i hk;simp only[gJ]at h;have hx:=cM hs (.tmp b);obtain⟨z,h1,h2⟩:=u6 (P:=P) hs.sat hk hx h;refine⟨z,?_,h2⟩;have he:a.eval (.tmp b)=a.tmps.getD b undef:=rfl;rw[he]at h1;simp only[Instr.loadAt,Sem.run_bind]at h1;simp only[wQ,Sem.run_bind];generalize a.tmps.getD b undef=u at*;cases u<;>simp[Instr.sureAddr]at h1;rename_i p;cases p<;>simp[asAddr]at h1|-;exact h1
  .simp[gJ]at h
def uQ{F:Fr}{I:Mu}{a:Act}{w:World}(hs:dq F I st a w)(fn:Func){v:V}(h:mW st (fn.results.toList.map (Bm P F.n))=some v):
 ∃x,(results fn a.tmps).run P w=.ok x w/\E' I (aG I st.U) w v x:=by
 have key:∀(l:List ResultVar) (vs:List V),eV st (l.map (Bm P F.n))=some vs->
  ∃xs,(l.mapM (wQ a.tmps)).run P w=.ok xs w/\aA I (aG I st.U) w vs xs:=by
  intro l
  induction l with
  |nil=>intro vs h;simp only[List.map_nil,eV,Oi]at h;subst h;exact⟨[],rfl,by simp[aA]⟩
  |cons r l ih=>
   intro vs h;simp only[List.map_cons,eV]at h;split at h
   .rename_i v hv;split at h
    .rename_i vs' hvs;simp only[Oi]at h;subst h;obtain⟨x,h1,h2⟩:=wK (P:=P) hs r hv;obtain⟨xs,h3,h4⟩:=ih vs' hvs;refine⟨x::xs,?_,by simp only[aA];exact⟨x,xs,rfl,h2,h4⟩⟩;rw[List.mapM_cons];simp only[Sem.run_bind];rw[h1];simp only[Result.andThen_ok];rw[h3];simp
    .cases h
   .cases h
 unfold mW at h;cases SK:eV st (fn.results.toList.map (Bm P F.n))with
 |none=>simp[SK]at h
 |some vs=>
  obtain⟨xs,h1,h2⟩:=key _ _ SK;have Sf:(results fn a.tmps).run P w=.ok (if hl:xs.toArray.size=1 then xs.toArray[0]else .tuple xs.toArray) w:=by
   rw[AN];simp only[Sem.run_bind,Sem.run_map];rw[h1];simp
  rw[SK]at h
  match vs,h,h2 with
  |[],h,h2=>
   simp only[aA]at h2;subst h2;simp only[Oi]at h;subst h;exact⟨_,Sf,by simp[E',aA]⟩
  |[u],h,h2=>
   simp only[aA]at h2;obtain⟨x,xs',rfl,h3,rfl⟩:=h2;simp only[Oi]at h;subst h;exact⟨_,Sf,by simpa using h3⟩
  |u1::u2::us,h,h2=>
   simp only[Oi]at h;subst h;have hlen:=h2.length;refine⟨_,Sf,?_⟩;rw[dif_neg (by simp[hlen])];simp only[E'];exact⟨xs,rfl,h2⟩
def cz(args:List V):Nat->V:=λi=>args.getD i (.RB [])
def dq.Jj{F:Fr}{I:Mu}{a:Act}{w:World}(hs:dq F I st a w){d:Deferred}{ds:List Deferred}(hd:a.defers=d::ds):
 ∃D w',d.target=.collected D/\(Instr.takeDeferred D).run P w=.ok [] w'/\dq F I st { a with defers:=ds } w':=by
 obtain⟨Ds,h1,h2,h3⟩:=hs.book.marks;rw[hd]at h1;cases Ds with
 |nil=>simp at h1
 |cons D Ds=>
  simp only[List.map_cons,List.cons.injEq]at h1;obtain⟨rfl,rfl⟩:=h1;obtain⟨g1,g2,g3⟩:=h3 D (by simp);simp only[List.nodup_cons]at h2;refine⟨D,w.putObj D (.deferred none),rfl,run_takeDeferred g2,?_⟩;have R6:∀b,b≠D->(w.putObj D (.deferred none)).heap[b]?=w.heap[b]?:=λb hb=>World.putObj_heap_other hb;have hk:pr (aG I st.U) (aG I st.U) w (w.putObj D (.deferred none)):=λb _ hn=>⟨hn,λoff x hx=>by
   by_cases hb:b=D
   .subst hb;simp[World.cell?,g2]at hx
   .exact eH (R6 b hb) off x hx⟩
  have hz:w.heap.size<=(w.putObj D (.deferred none)).heap.size:=by simp
  refine⟨⟨by simpa using hs.sat.size,hs.sat.os,hs.sat.tape,hs.sat.output,λb hb hn=>(R6 b (by omega)).trans (hs.sat.same b hb hn),hs.sat.fin,hs.sat.inj,λid o ho=>?_,hs.sat.fresh,hs.sat.UW⟩,
   hs.le,hs.size,⟨λl r e=>?_,Ds,rfl,h2.2,λD' hD'=>?_⟩,λi hi=>E'.bV (df.refl I) hk hz _ _ (hs.slot i hi)⟩
  .refine(hs.sat.obj id o ho).bV (df.refl I) hk hz λb sz cap hp=>R6 b ?_;rintro rfl;exact g3 ⟨id,o,sz,cap,ho,hp⟩
  .obtain⟨q1,q2⟩:=hs.book.rnd l r e;refine⟨(R6 l ?_).trans q1,q2⟩;rintro rfl;rw[g2]at q1;cases q1
  .obtain⟨q1,q2,q3⟩:=h3 D' (by simp[hD']);refine⟨q1,(R6 D' ?_).trans q2,q3⟩;rintro rfl;exact h2.1 hD'
def u7{F:Fr}{I:Mu}{fn:Func}{R:Ending->World->Prop}:∀(ds:List Deferred) (a:Act) (w:World),a.defers=ds->dq F I st a w->
 (∀a' w',a'.tmps=a.tmps->dq F I st a' w'->∃v,(results fn a'.tmps).run P w'=.ok v w'/\R (.returned v) w')->LeavesInM F.eP 0 P fn a.tmps R ds .returning w
 |[],a,w,_,hs,h=>by
  obtain⟨v,h1,h2⟩:=h a w rfl hs;exact⟨v,h1,h2⟩
 |d::ds,a,w,hd,hs,h=>by
  obtain⟨D,w',h1,h2,h3⟩:=hs.Jj (P:=P) hd;exact⟨by simp,.inl ⟨D,w',h1,h2,u7 ds { a with defers:=ds } w' rfl h3 (λa' w' e RP=>h a' w' e RP)⟩⟩
def qI.kc{f:FuncId}{fn:Func}{vf:Ry}(hf:P.funcs[f]?=some fn)(hv:cfn P fn=some vf){args:List V}{U:ai}{Post:V->ai->Prop}(hlen:args.length<=vf.n)
 (h:ad P vf.n [.code vf.code] ⟨cz args,U⟩ λst=>VL vf.res st Post):qI P f args U Post:=by
 intro I w RF TT hr;unfold cfn at hv;cases hb:fn.body with
 |none=>simp[hb]at hv
 |some c=>
  simp only[hb,Oi]at hv;subst hv;simp only at h hlen;have hl:=hr.length;refine callsIn_wide.1 (callsIn_of_wp_marks (n:=0) hf hb trivial ?_ rfl);have hs:dq ⟨w,aG I U,I,fn.ntmps,none⟩ I ⟨cz args,U⟩ { tmps:=RF.toArray++Array.replicate (fn.ntmps-RF.toArray.size) undef,defers:=[] } w:=by
   refine⟨TT,df.refl I,by simp;omega,⟨λ_ _ e=>by simp at e,[],rfl,.nil,by simp⟩,λi hi=>?_⟩;simp only[cz];by_cases H':i<args.length
   .have hv:args[i]?=some (args.getD i (.RB [])):=by simp[List.getD,List.getElem?_eq_getElem H']
    obtain⟨x,hx,hrx⟩:=hr.get hv;rw[Array.getD_eq_getD_getElem?,Array.getElem?_append_left (by simp;omega)];simp only[List.getElem?_toArray,hx,Option.getD_some];exact hrx
   .have hv:args.getD i (.RB [])=.RB []:=by simp[List.getD,List.getElem?_eq_none (Nat.le_of_not_lt H')]
    rw[hv,Array.getD_eq_getD_getElem?,Array.getElem?_append_right (by simp;omega)];simp only[E'];refine⟨[],?_,by simp[aA]⟩;rw[Array.getElem?_replicate];split<;>rfl
  have TG:=h ⟨w,aG I U,I,fn.ntmps,none⟩ rfl [.code c] rfl _ w ⟨I,hs⟩;refine wpIn_mono (F:=Fence.wide) TG ?_;rintro e a' w' ⟨he,st,⟨v,v',Z',Wy,G',hwk,hpost⟩,Y',RP⟩;have SA:LeavesInM Fence.wide 0 P fn a'.tmps (λe w'=>∃r Z' Y' val,e=Ending.returned val/\Post r Z'/\df I Y'/\Sat w (aG I U) Y' Z' w'/\E' Y' (aG Y' Z') w' r val) a'.defers .returning w':=by
   refine u7 (F:=⟨w,aG I U,I,fn.ntmps,none⟩) a'.defers a' w' rfl RP λa1 w1 _ TI=>?_;obtain⟨x,hx,hrx⟩:=uQ (P:=P) TI fn Wy;exact⟨x,hx,v',Z',Y',x,rfl,hpost,TI.le,TI.sat.drop G',hwk Y' _ _ _ _ TI.sat hrx⟩
  rcases he with rfl|rfl<;>exact SA
def aD.kc{f:FuncId}{fn:Func}{vf:Ry}(hf:P.funcs[f]?=some fn)(hv:cfn P fn=some vf)(SJ:eG P f=true){args:List V}{U:ai}{Post:V->ai->Prop}(hlen:args.length<=vf.n)
 (h:ad P vf.n [.code vf.code] ⟨cz args,U⟩ λst=>VL vf.res st Post):aD P f args U Post:=⟨SJ,.kc hf hv hlen h⟩
structure Fo(P:Program)(f:FuncId)(fn:Func)(vf:Ry):Prop where
 a:P.funcs[f]?=some fn
 b:cfn P fn=some vf:=by kernel_rfl
 c:eG P f=true:=by kernel_rfl
def Fo.r{P:Program}{f:FuncId}{fn:Func}{vf:Ry}(h:Fo P f fn vf){args:List V}{U:ai}{Post:V->ai->Prop}(hlen:args.length<=vf.n)
 (k:ad P vf.n [.code vf.code] ⟨cz args,U⟩ λst=>VL vf.res st Post):aD P f args U Post:=aD.kc h.a h.b h.c hlen k
variable {P:Program} {n:Nat}
def cQ(U:ai)(sz:Nat)(xa xv:V):Option ai:=
 match xa with
 |.ptr id i c=>match U id with
  |some ob=>match ob.rows[i]? with
   |some r=>match cp r c sz xv with
    |some r'=>some (C' U id ⟨ob.elem,ob.sz,ob.rows.set i r'⟩)
    |none=>none
   |none=>none
  |none=>none
 |_=>none
def SG(s:Nat->V)(U:ai):RO->Option (Nat->V×ai)
 |.alloc e sz z=>some λid=>(.ptr id 0 0,C' U id ⟨e,sz,[z]⟩)
 |.box e sz x=>if(x.ev s).cells.length=sz/\(x.ev s).stays=true then some λid=>(.ptr id 0 0,C' U id ⟨e,sz,[x.ev s]⟩)else none
 |.bp e sz xs=>if(xs.map (·.ev s)).all (λx=>decide (x.cells.length=sz)&&x.stays)then some λid=>(.own id 0 xs.length,C' U id ⟨e,sz,xs.map (·.ev s)⟩)else none
 |.append e sz bytes xa xb=>match cg U e sz (xa.ev s),bR U sz (xb.ev s)with
  |some (base,RN),some src=>if(base.length+src.length)*(bytes+1)<=140737488355328 then
     some λid=>(.own id 0 (base.length+src.length),C' (bK U RN) id ⟨e,sz,base++src⟩)else none
  |_,_=>none
 |.mk e sz bytes z x=>match x.ev s with
  |.int .i64 m=>if 0<=m/\m.toNat*(bytes+1)<=140737488355328 then some λid=>(.own id 0 m.toNat,C' U id ⟨e,sz,List.replicate m.toNat z⟩)else none
  |_=>none
 |.Wr e sz bytes z y x=>match y.ev s,x.ev s with
  |.aC,.int _ m=>if 0<m/\m.toNat*(bytes+1)<=140737488355328 then some λid=>(.own id 0 m.toNat,C' U id ⟨e,sz,List.replicate m.toNat z⟩)else none
  |_,_=>none
 |_=>none
def TO(P:Program)(dst:Option Nat)(op:RO)(x:St)(K:St->Prop):Prop:=
 match bx op with
 |0=>fg x.s op/\∃v,aL x.U x.s op=some v/\K ⟨aX x.s dst v,x.U⟩
 |1=>match op with
  |.call fx xs=>∃f caps v,fx.ev x.s=.fn f caps/\(∀Z1,aa x.U Z1->aD P f (xs.map (·.ev x.s)++caps) Z1 (λr Z'=>r=v/\Z'=Z1))/\K ⟨aX x.s dst v,x.U⟩
  |_=>False
 |2=>match op with
  |.store sz xa xv=>∃Z',cQ x.U sz (xa.ev x.s) (xv.ev x.s)=some Z'/\K ⟨aX x.s dst (.RB []),Z'⟩
  |_=>False
 |3=>∃g,SG x.s x.U op=some g/\∀id,x.U id=none->K ⟨aX x.s dst (g id).1,(g id).2⟩
 |_=>False
def T(P:Program)(i:aN)(x:St)(K:St->Prop):Prop:=
 match bu x.s i.g with
 |some true=>TO P i.dst i.op x K
 |some false=>K ⟨aX x.s i.dst (.RB []),x.U⟩
 |none=>False
def TO.mono{dst:Option Nat}{op:RO}{x:St}{K K':St->Prop}(hk:∀x,K x->K' x)(h:TO P dst op x K):TO P dst op x K':=by
 unfold TO at*;split<;>rename_i ho<;>simp only[ho]at h
 .obtain⟨h1,v,h2,h3⟩:=h;exact⟨h1,v,h2,hk _ h3⟩
 .split at h
  .obtain⟨f,caps,v,h1,h2,h3⟩:=h;exact⟨f,caps,v,h1,h2,hk _ h3⟩
  .exact h.elim
 .split at h
  .obtain⟨Z',h1,h2⟩:=h;exact⟨Z',h1,hk _ h2⟩
  .exact h.elim
 .obtain⟨g,h1,h2⟩:=h;exact⟨g,h1,λid M'=>hk _ (h2 id M')⟩
def T.mono{i:aN}{x:St}{K K':St->Prop}(hk:∀x,K x->K' x)(h:T P i x K):T P i x K':=by
 unfold T at*;split<;>rename_i ho<;>simp only[ho]at h
 .exact h.mono hk
 .exact hk _ h
def Wz(U:ai):Prop:=∀N,∃id,N<=id/\U id=none
def Wz.C'{U:ai}(h:Wz U)(id:Nat)(o:Ob):Wz (C' U id o):=λN=>by
 obtain⟨i,h1,h2⟩:=h (max N (id+1));exact⟨i,by omega,by simp[Vc.C',show i≠id by omega,h2]⟩
def Wz.bK{U:ai}(h:Wz U)(o:Option Nat):Wz (bK U o):=λN=>by
 obtain⟨i,h1,h2⟩:=h N;refine⟨i,h1,?_⟩;cases o with
 |none=>exact h2
 |some j=>simp only[Vc.bK,del];split<;>simp_all
def fK.inf{F:Fr}{st:St}{a:Act}{w:World}(h:fK F st a w):Wz st.U:=by
 obtain⟨I,h⟩:=h;obtain⟨N,hN⟩:=h.sat.fin;intro M;refine⟨max N M,by omega,?_⟩;cases ho:st.U (max N M)with
 |none=>rfl
 |some o=>
  have:=h.sat.obj _ o ho;rw[hN _ (by omega)]at this;exact this.elim
def Hq{s:Nat->V}{U:ai}(h:Wz U){op:RO}{g:Nat->V×ai}(he:SG s U op=some g)(id:Nat):Wz (g id).2:=by
 unfold SG at he;split at he
 .simp only[Oi]at he;subst he;exact h.C' _ _
 .split at he
  .simp only[Oi]at he;subst he;exact h.C' _ _
  .cases he
 .split at he
  .simp only[Oi]at he;subst he;exact h.C' _ _
  .cases he
 .split at he
  .split at he
   .simp only[Oi]at he;subst he;exact(h.bK _).C' _ _
   .cases he
  .cases he
 .split at he
  .split at he
   .simp only[Oi]at he;subst he;exact h.C' _ _
   .cases he
  .cases he
 .split at he
  .split at he
   .simp only[Oi]at he;subst he;exact h.C' _ _
   .cases he
  .cases he
 .cases he
def AK{U Z':ai}(h:Wz U){sz:Nat}{a v:V}(he:cQ U sz a v=some Z'):Wz Z':=by
 unfold cQ at he;split at he
 .split at he
  .split at he
   .split at he
    .simp only[Oi]at he;subst he;exact h.C' _ _
    .cases he
   .cases he
  .cases he
 .cases he
def TO.inf{dst:Option Nat}{op:RO}{x:St}{K:St->Prop}(hi:Wz x.U)(h:TO P dst op x K):TO P dst op x λx'=>Wz x'.U/\K x':=by
 unfold TO at*;split<;>rename_i ho<;>simp only[ho]at h
 .obtain⟨h1,v,h2,h3⟩:=h;exact⟨h1,v,h2,hi,h3⟩
 .split at h
  .obtain⟨f,caps,v,h1,h2,h3⟩:=h;exact⟨f,caps,v,h1,h2,hi,h3⟩
  .exact h.elim
 .split at h
  .obtain⟨Z',h1,h2⟩:=h;exact⟨Z',h1,AK hi h1,h2⟩
  .exact h.elim
 .obtain⟨g,h1,h2⟩:=h;exact⟨g,h1,λid M'=>⟨Hq hi h1 id,h2 id M'⟩⟩
def T.inf{i:aN}{x:St}{K:St->Prop}(hi:Wz x.U)(h:T P i x K):T P i x λx'=>Wz x'.U/\K x':=by
 unfold T at*;split<;>rename_i ho<;>simp only[ho]at h
 .exact h.inf hi
 .exact⟨hi,h⟩
def FQ{s:Nat->V}{d:Option Nat}{v:V}{x:VX}(h:∀t,d=some t->x.HM≠some t):x.ev (aX s d v)=x.ev s:=by
 cases d with
 |none=>rfl
 |some t=>
  cases x with
  |c _=>rfl
  |t u=>
   simp only[VX.ev,aX];have:=h t rfl;simp only[VX.HM,ne_eq,Oi]at this;rw[if_neg this]
def pR{s s':Nat->V}{l:List VX}(h:∀x∈l,x.ev s=x.ev s'):l.map (·.ev s)=l.map (·.ev s'):=List.map_congr_left h
def oZ{s s':Nat->V}{l:Option VX}(h:∀x∈l.toList,x.ev s=x.ev s'):l.map (·.ev s)=l.map (·.ev s'):=by
 cases l with
 |none=>rfl
 |some x=>simp[h x (by simp)]
def rm{s s':Nat->V}{U:ai}{op:RO}(h:∀x∈op.xs,x.ev s=x.ev s'):aL U s op=aL U s' op/\(fg s op↔fg s' op):=by
 cases op<;>simp only[RO.xs,List.mem_cons,List.not_mem_nil,or_false,forall_eq_or_imp,forall_eq,List.mem_append]at h<;>
  simp only[aL,fg,h,and_true,and_self]
 case slice SU x lo hi mx=>
  rw[oZ (l:=lo) (λy hy=>h.2 y (.inl (.inl hy))),oZ (l:=hi) (λy hy=>h.2 y (.inl (.inr hy))),oZ (l:=mx) (λy hy=>h.2 y (.inr hy))]
 case VW x lo hi=>
  rw[oZ (l:=lo) (λy hy=>h.2 y (.inl hy)),oZ (l:=hi) (λy hy=>h.2 y (.inr hy))]
 case SE f xs=>rw[pR h]
 case more m xs=>
  by_cases hb:∃f,m=.X7 f
  .obtain⟨f,rfl⟩:=hb;have e:=pR h;cases xs with
   |nil=>rfl
   |cons x xs=>cases xs<;>exact congrArg (λl=>some (V.bm f l)) e
  cases xs with
  |nil=>cases m<;>rfl
  |cons x xs=>
   have hx:=h x (by simp);cases xs with
   |nil=>cases m<;>first|rfl|exact absurd ⟨_,rfl⟩ hb|simp only[hx]
   |cons y ys=>cases m<;>first|rfl|exact absurd ⟨_,rfl⟩ hb
 case build z ps=>
  have:(ps.map λp=>(p.1,p.2.1,p.2.2.ev s))=ps.map λp=>(p.1,p.2.1,p.2.2.ev s'):=List.map_congr_left λp hp=>by
   rw[h _ (List.mem_map.2 ⟨p,hp,rfl⟩)]
  rw[this]
def fw{s s':Nat->V}{U:ai}{op:RO}(h:∀x∈op.xs,x.ev s=x.ev s'):SG s U op=SG s' U op:=by
 cases op<;>simp only[RO.xs,List.mem_cons,List.not_mem_nil,or_false,forall_eq_or_imp,forall_eq,List.mem_append]at h<;>
  simp only[SG,h]
 case bp e sz xs=>rw[pR h]
def Ap{s:Nat->V}{U Z':ai}{op:RO}(h:kf op=true):aL U s op=aL Z' s op:=by
 cases op
 case more m xs=>
  cases xs with
  |nil=>cases m<;>rfl
  |cons x xs=>cases xs<;>cases m<;>rfl
 all_goals first|rfl|simp[kf]at h
variable {P:Program} {n:Nat}
def apart_spec{A B:aN}(h:Bp A B=true):(∀d,A.dst=some d->d∉B.kE)/\(∀d,B.dst=some d->d∉A.kE)/\(∀d,A.dst=some d->B.dst≠some d):=by
 simp only[Bp,Ba]at h;obtain⟨h1,h2⟩:=h;refine⟨λd hd=>?_,λd hd=>?_,λd hd=>?_⟩
 .rw[hd]at h1;simp at h1;exact h1.1
 .rw[hd]at h2;simpa using h2
 .rw[hd]at h1;simp at h1;exact h1.2
def CX{s:Nat->V}{a b:Option Nat}{u v:V}(h:∀d,a=some d->b≠some d):aX (aX s a u) b v=aX (aX s b v) a u:=by
 cases a with
 |none=>rfl
 |some x=>
  cases b with
  |none=>rfl
  |some y=>
   have R6:y≠x:=λe=>h x rfl (by rw[e]);funext i;simp only[aX];by_cases h1:i=y<;>by_cases h2:i=x<;>simp_all
def B8{i:aN}{x:VX}(hx:x∈i.op.xs){t:Nat}(ht:x.HM=some t):t∈i.kE:=
 List.mem_filterMap.2 ⟨x,List.mem_append_left _ hx,ht⟩
def gH{i:aN}{d:Option Nat}{v:V}(h:∀t,d=some t->t∉i.kE)(s:Nat->V):∀x∈i.op.xs,x.ev (aX s d v)=x.ev s:=
 λ_ hx=>FQ λt ht e=>h t ht (B8 hx e)
def ct{i:aN}{d:Option Nat}{v:V}(h:∀t,d=some t->t∉i.kE)(s:Nat->V):bu (aX s d v) i.g=bu s i.g:=by
 cases hg:i.g with
 |none=>rfl
 |some g=>
  obtain⟨x,b⟩:=g;have:x.ev (aX s d v)=x.ev s:=FQ λt ht e=>h t ht (List.mem_filterMap.2 ⟨x,List.mem_append_right _ (by simp[hg]),e⟩);simp only[bu,this]
def QO(P:Program)(op:RO)(s:Nat->V)(U:ai)(v:V):Prop:=
 match bx op with
 |0=>fg s op/\aL U s op=some v
 |1=>match op with
  |.call fx xs=>∃f caps,fx.ev s=.fn f caps/\∀Z1,aa U Z1->aD P f (xs.map (·.ev s)++caps) Z1 (λr Z'=>r=v/\Z'=Z1)
  |_=>False
 |_=>False
def QY(P:Program)(i:aN)(s:Nat->V)(U:ai)(v:V):Prop:=
 (bu s i.g=some true/\QO P i.op s U v)\/(bu s i.g=some false/\v=.RB [])
def cA{i:aN}(hq:fA i=true){x:St}{K:St->Prop}:T P i x K↔∃v,QY P i x.s x.U v/\K ⟨aX x.s i.dst v,x.U⟩:=by
 simp only[fA,decide_eq_true_eq]at hq;unfold T QY;cases hw:bu x.s i.g with
 |none=>simp
 |some b=>
  cases b
  .simp
  .simp only[true_and,Oi,Bool.true_eq_false,false_and,or_false];unfold TO QO;have:bx i.op=0\/bx i.op=1:=by omega
   rcases this with h0|h0<;>simp only[h0]
   .constructor
    .rintro⟨h1,v,h2,h3⟩;exact⟨v,⟨h1,h2⟩,h3⟩
    .rintro⟨v,⟨h1,h2⟩,h3⟩;exact⟨h1,v,h2,h3⟩
   .cases RH:i.op<;>simp[bx,RH]at h0|-;constructor
    .rintro⟨f,caps,h1,v,h2,h3⟩;exact⟨v,⟨f,caps,h1,h2⟩,h3⟩
    .rintro⟨v,⟨f,caps,h1,h2⟩,h3⟩;exact⟨f,caps,h1,v,h2,h3⟩
def uy{op:RO}{s s':Nat->V}{U:ai}{v:V}(h:∀x∈op.xs,x.ev s=x.ev s')(hq:QO P op s U v):QO P op s' U v:=by
 unfold QO at*;by_cases h0:bx op=0
 .obtain⟨h1,h2⟩:=rm (U:=U) h;simp only[h0]at hq|-;exact⟨h2.1 hq.1,h1▸hq.2⟩
 .by_cases h1:bx op=1
  .simp only[h1]at hq|-;cases op<;>simp only[]at hq<;>first|exact hq.elim|skip
   rename_i fx xs;obtain⟨f,caps,g1,g2⟩:=hq;refine⟨f,caps,?_,?_⟩
   .rw[<-h fx (by simp[RO.xs])];exact g1
   .rw[<-pR (s:=s) (s':=s') λx hx=>h x (by simp[RO.xs,hx])];exact g2
  .exfalso;revert hq;split<;>simp_all
def fS{i:aN}{s:Nat->V}{U:ai}{v u:V}{d:Option Nat}(h:∀t,d=some t->t∉i.kE):QY P i (aX s d u) U v↔QY P i s U v:=by
 unfold QY;rw[ct h];constructor
 .rintro(⟨h1,h2⟩|h1)
  .exact .inl ⟨h1,uy (gH h s) h2⟩
  .exact .inr h1
 .rintro(⟨h1,h2⟩|h1)
  .exact .inl ⟨h1,uy (λx hx=>(gH h s x hx).symm) h2⟩
  .exact .inr h1
def lj{op:RO}(h:kf op=true):bx op=0:=by
 cases op
 case more m xs=>cases m<;>simp[kf,bx]at h|-
 all_goals simp[kf,bx]at h|-
def jC{i:aN}(hf:kf i.op=true){s:Nat->V}{U Z':ai}{v:V}(h:QY P i s U v):QY P i s Z' v:=by
 rcases h with⟨h1,h2⟩|h1
 .refine .inl ⟨h1,?_⟩;unfold QO at*;simp only[lj hf]at*;exact⟨h2.1,by rw[<-Ap (U:=U) hf];exact h2.2⟩
 .exact .inr h1
def Kq{i:aN}(hf:kf i.op=true){s:Nat->V}{U:ai}{v v':V}(h:QY P i s U v)(h':QY P i s U v'):v=v':=by
 rcases h with⟨h1,h2⟩|⟨h1,h2⟩<;>rcases h' with⟨g1,g2⟩|⟨g1,g2⟩
 .unfold QO at*;simp only[lj hf]at*;have:=h2.2.symm.trans g2.2;simpa using this
 .rw[h1]at g1;cases g1
 .rw[h1]at g1;cases g1
 .rw[h2,g2]
def gu{i:aN}(he:rD i=true){x:St}{K:St->Prop}:T P i x K↔
 (bu x.s i.g=some false/\K ⟨aX x.s i.dst (.RB []),x.U⟩)\/
 (bu x.s i.g=some true/\((∃sz xa xv Z',i.op=.store sz xa xv/\cQ x.U sz (xa.ev x.s) (xv.ev x.s)=some Z'/\K ⟨aX x.s i.dst (.RB []),Z'⟩)\/
   (bx i.op=3/\∃g,SG x.s x.U i.op=some g/\∀id,x.U id=none->K ⟨aX x.s i.dst (g id).1,(g id).2⟩))):=by
 unfold T;cases hw:bu x.s i.g with
 |none=>simp
 |some b=>
  cases b
  .simp
  .simp only[Oi,Bool.true_eq_false,false_and,false_or,true_and];unfold TO;simp only[rD,Bool.or_eq_true,beq_iff_eq]at he;rcases he with h0|h0<;>simp only[h0]
   .cases RH:i.op<;>simp[bx,RH]at h0|-;constructor
    .rintro⟨Z',h1,h2⟩;exact⟨_,_,_,⟨rfl,rfl,rfl⟩,Z',h1,h2⟩
    .rintro⟨_,_,_,⟨rfl,rfl,rfl⟩,Z',h1,h2⟩;exact⟨Z',h1,h2⟩
   .have:∀sz xa xv,i.op≠.store sz xa xv:=λ_ _ _ e=>by rw[e]at h0;simp[bx]at h0
    simp[this]
def kC(s:Nat->V):RO->Option Nat
 |.load _ _ x=>match x.ev s with
   |.ptr id _ _=>some id
   |_=>none
 |.Us _ x _=>match x.ev s with
   |.own id _ _=>some id
   |_=>none
 |.slice _ x _ _ _=>match x.ev s with
   |.own id _ _=>some id
   |_=>none
 |.Xt x=>match x.ev s with
   |.own id _ _=>some id
   |_=>none
 |_=>none
def A0{s:Nat->V}{U Z':ai}{op:RO}(h:∀j,kC s op=some j->U j=Z' j):aL U s op=aL Z' s op:=by
 cases op<;>try rfl
 case more m xs=>
  cases xs with
  |nil=>cases m<;>rfl
  |cons x xs=>cases xs<;>cases m<;>rfl
 case load agg sz x=>
  simp only[kC]at h;simp only[aL,bT];split
  .rename_i id i k hx;simp only[hx,Oi,forall_eq']at h;rw[h]
  .rfl
  .rfl
 case Us SU x i=>
  simp only[kC]at h;simp only[aL];generalize x.ev s=xv at*;generalize i.ev s=iv at*;cases xv<;>try (cases iv<;>rfl)
  case own id off len=>
   simp only[Oi,forall_eq']at h;cases iv<;>try rfl
   simp only[bQ,h]
 case Xt x=>
  simp only[kC]at h;simp only[aL];generalize x.ev s=xv at*;cases xv<;>try rfl
  case own id off len=>
   simp only[Oi,forall_eq']at h;simp only[dp,h]
 case slice SU x lo hi mx=>
  simp only[kC]at h;simp only[aL,cL];split
  .rename_i id off len hx;simp only[hx,Oi,forall_eq']at h;have:iP U id SU=iP Z' id SU:=by simp only[iP,h]
   simp only[this]
  .rfl
  .rfl
  .rfl
def AW{s:Nat->V}{U:ai}{op:RO}{v:V}(hv:aL U s op=some v){j:Nat}(hj:kC s op=some j):U j≠none:=by
 intro hn;cases op<;>simp only[kC,reduceCtorEq]at hj
 case load agg sz x=>
  split at hj
  .rename_i id i k hx;simp only[Oi]at hj;subst hj;simp[aL,bT,hx,hn]at hv
  .cases hj
 case Us SU x i=>
  split at hj
  .rename_i id off len hx;simp only[Oi]at hj;subst hj;simp only[aL]at hv;rw[hx]at hv;generalize i.ev s=iv at hv;cases iv<;>simp[bQ,hn]at hv
  .cases hj
 case Xt x=>
  split at hj
  .rename_i id off len hx;simp only[Oi]at hj;subst hj;simp[aL,dp,hx,hn]at hv
  .cases hj
 case slice SU x lo hi mx=>
  split at hj
  .rename_i id off len hx;simp only[Oi]at hj;subst hj;simp only[aL,cL,hx,iP,hn]at hv;split at hv
   .simp at hv
   .cases hv
  .cases hj
def rN{i:aN}(h:Xr i=true):bx i.op=3/\∀s U g,SG s U i.op=some g->∀id j,j≠id->(g id).2 j=U j:=by
 unfold Xr at h;split at h
 .rename_i RH;refine⟨by rw[RH];rfl,λs U g hg id j hj=>?_⟩;rw[RH]at hg;simp only[SG,Oi]at hg;subst hg;simp[Vc.C',hj]
 .rename_i RH;refine⟨by rw[RH];rfl,λs U g hg id j hj=>?_⟩;rw[RH]at hg;simp only[SG]at hg;split at hg
  .simp only[Oi]at hg;subst hg;simp[Vc.C',hj]
  .cases hg
 .rename_i RH;refine⟨by rw[RH];rfl,λs U g hg id j hj=>?_⟩;rw[RH]at hg;simp only[SG]at hg;split at hg
  .simp only[Oi]at hg;subst hg;simp[Vc.C',hj]
  .cases hg
 .rename_i RH;refine⟨by rw[RH];rfl,λs U g hg id j hj=>?_⟩;rw[RH]at hg;simp only[SG]at hg;split at hg
  .split at hg
   .simp only[Oi]at hg;subst hg;simp[Vc.C',hj]
   .cases hg
  .cases hg
 .cases h
def y7{i:aN}(h:Ea i=true):bx i.op=3/\∀s U g,SG s U i.op=some g->∀id j,j≠id->(g id).2 j=U j\/(g id).2 j=none:=by
 by_cases hm:Xr i=true
 .exact⟨(rN hm).1,λs U g hg id j hj=>.inl ((rN hm).2 s U g hg id j hj)⟩
 .unfold Ea at h;unfold Xr at hm;cases RH:i.op<;>rw[RH]at h hm<;>simp at h hm;refine⟨rfl,λs U g hg id j hj=>?_⟩;simp only[SG]at hg;split at hg
  .split at hg
   .simp only[Oi]at hg;subst hg;rename_i RN _ _ _ _ _;simp only[Vc.C',if_neg hj];rename_i base RN src _ _ _;cases RN with
    |none=>exact .inl rfl
    |some a=>
     simp only[bK,del];split
     .exact .inr rfl
     .exact .inl rfl
   .cases hg
  .cases hg
def wL{i:aN}(hp:jn i=true){s:Nat->V}{U Z':ai}(h:∀j,kC s i.op=some j->U j=Z' j){v:V}(hq:QY P i s U v):QY P i s Z' v:=by
 simp only[jn,beq_iff_eq]at hp;rcases hq with⟨h1,h2⟩|h1
 .refine .inl ⟨h1,?_⟩;unfold QO at*;simp only[hp]at*;exact⟨h2.1,by rw[<-A0 h];exact h2.2⟩
 .exact .inr h1
def w8{i:aN}(hp:jn i=true){s:Nat->V}{U:ai}{v v':V}(h:QY P i s U v)(h':QY P i s U v'):v=v':=by
 simp only[jn,beq_iff_eq]at hp;rcases h with⟨h1,h2⟩|⟨h1,h2⟩<;>rcases h' with⟨g1,g2⟩|⟨g1,g2⟩
 .unfold QO at*;simp only[hp]at*;have:=h2.2.symm.trans g2.2;simpa using this
 .rw[h1]at g1;cases g1
 .rw[h1]at g1;cases g1
 .rw[h2,g2]
def rG{i:aN}(hp:jn i=true){s:Nat->V}{U:ai}{v:V}(h:QY P i s U v)(hw:bu s i.g=some true){j:Nat}(hj:kC s i.op=some j):U j≠none:=by
 simp only[jn,beq_iff_eq]at hp;rcases h with⟨_,h2⟩|⟨h1,_⟩
 .unfold QO at h2;simp only[hp]at h2;exact AW h2.2 hj
 .rw[hw]at h1;cases h1
def xK{i:aN}{s:Nat->V}{U Z':ai}{v:V}(h:QY P i s U v)(hw:bu s i.g≠some true):QY P i s Z' v:=by
 rcases h with⟨h1,_⟩|h1
 .exact absurd h1 hw
 .exact .inr h1
def GL{i:aN}(hp:jn i=true){s:Nat->V}{U Z':ai}{id:Nat}(M':U id=none)(R3:∀j,j≠id->Z' j=U j){v:V}(h:QY P i s U v):QY P i s Z' v:=by
 by_cases hw:bu s i.g=some true
 .refine wL hp (λj hj=>?_) h;have:=rG hp h hw hj;rw[R3 j (λe=>this (e▸M'))]
 .exact xK h hw
def Dn{i:aN}(hq:fA i=true){s:Nat->V}{U Z':ai}{id:Nat}(M':U id=none)(R3:∀j,j≠id->Z' j=U j){v:V}(h:QY P i s U v):QY P i s Z' v:=by
 by_cases hp:jn i=true
 .exact GL hp M' R3 h
 .have G':aa U Z':=λj o hj=>by rw[R3 j (λe=>by rw[e,M']at hj;cases hj)];exact hj
  rcases h with⟨h1,h2⟩|h1
  .refine .inl ⟨h1,?_⟩;have hk:bx i.op=1:=by
    simp only[fA,decide_eq_true_eq]at hq;simp only[jn,beq_iff_eq]at hp;omega
   unfold QO at*;simp only[hk]at*;split at h2
   .obtain⟨f,caps,g1,g2⟩:=h2;exact⟨f,caps,g1,λZ1 hs=>g2 Z1 (G'.trans hs)⟩
   .exact h2.elim
  .exact .inr h1
def yn{i:aN}(h:Xr i=true){s:Nat->V}{U:ai}{g:Nat->V×ai}(hg:SG s U i.op=some g):
 ∃(vf:Nat->V) (ob:Ob),(∀id,g id=(vf id,Vc.C' U id ob))/\∀Z',SG s Z' i.op=some λid=>(vf id,Vc.C' Z' id ob):=by
 unfold Xr at h;split at h
 .rename_i RH;rw[RH]at hg|-;simp only[SG,Oi]at hg;subst hg;exact⟨_,_,λ_=>rfl,λ_=>rfl⟩
 .rename_i RH;rw[RH]at hg|-;simp only[SG]at hg|-;split at hg
  .rename_i hc;simp only[Oi]at hg;subst hg;exact⟨_,_,λ_=>rfl,λZ'=>by rw[if_pos hc]⟩
  .cases hg
 .rename_i RH;rw[RH]at hg|-;simp only[SG]at hg|-;split at hg
  .rename_i hc;simp only[Oi]at hg;subst hg;exact⟨_,_,λ_=>rfl,λZ'=>by rw[if_pos hc]⟩
  .cases hg
 .rename_i RH;rw[RH]at hg|-;simp only[SG]at hg|-;split at hg
  .rename_i hx;split at hg
   .rename_i hc;simp only[Oi]at hg;subst hg;exact⟨_,_,λ_=>rfl,λZ'=>by rw[if_pos hc]⟩
   .cases hg
  .cases hg
 .cases h
def mD{op:RO}(hk:bx op=3){sz:Nat}{xa xv:VX}(RH:op=.store sz xa xv):False:=by rw[RH]at hk;simp[bx]at hk
def vG{U:ai}{a b:Nat}{oa ob:Ob}(h:a≠b):Vc.C' (Vc.C' U a oa) b ob=Vc.C' (Vc.C' U b ob) a oa:=by
 funext i;unfold Vc.C';by_cases h1:i=a<;>by_cases h2:i=b<;>simp_all
def Gf{i:aN}(h:Ea i=true){s:Nat->V}{U:ai}{g:Nat->V×ai}(hg:SG s U i.op=some g):
 ∃(vf:Nat->V) (ob:Ob) (d:Option Nat),(∀id,g id=(vf id,Vc.C' (bK U d) id ob))/\(∀a,d=some a->U a≠none)/\
  ∀j o,U j=none->SG s (Vc.C' U j o) i.op=some λid=>(vf id,Vc.C' (bK (Vc.C' U j o) d) id ob):=by
 by_cases hm:Xr i=true
 .obtain⟨vf,ob,h1,h2⟩:=yn hm hg;exact⟨vf,ob,none,h1,by simp,λj o _=>h2 _⟩
 .unfold Ea at h;unfold Xr at hm;cases RH:i.op<;>rw[RH]at h hm hg<;>simp at h hm;rename_i e sz bytes xa xb;simp only[SG]at hg|-;split at hg
  .rename_i base RN src e1 e2;split at hg
   .rename_i hc;simp only[Oi]at hg;subst hg;have UR:∀a,RN=some a->U a≠none:=λa ha=>by
     subst ha;unfold cg at e1;split at e1
     .split at e1
      .rename_i ob Sw;split at e1
       .simp only[Oi,Prod.mk.injEq]at e1;rw[<-e1.2,Sw];simp
       .cases e1
      .cases e1
     .simp at e1
     .cases e1
    refine⟨_,_,RN,λ_=>rfl,UR,λj o hj=>?_⟩;have R6:∀id ob,U id=some ob->Vc.C' U j o id=some ob:=λid ob h=>by
     have:id≠j:=λe=>by rw[e,hj]at h;cases h
     simp[Vc.C',this,h]
    have d1:cg (Vc.C' U j o) e sz (xa.ev s)=some (base,RN):=by
     rw[<-e1];unfold cg at e1|-;split at e1
     .rename_i id _ _ _;split at e1
      .rename_i ob Sw;simp only[Sw,R6 _ _ Sw]
      .cases e1
     .rfl
     .cases e1
    have d2:bR (Vc.C' U j o) sz (xb.ev s)=some src:=by
     rw[<-e2];unfold bR at e2|-;split at e2
     .split at e2
      .rename_i ob Sw;simp only[Sw,R6 _ _ Sw]
      .cases e2
     all_goals first|rfl|cases e2
    simp only[d1,d2];rw[if_pos hc]
   .cases hg
  .cases hg
def FM{A B:aN}(hp:mr A B=true){x:St}(hi:Wz x.U){K:St->Prop}(h:T P A x λx'=>T P B x' K):T P B x λx'=>T P A x' K:=by
 simp only[mr,Ba,Bool.or_eq_true]at hp;obtain⟨hap,hk⟩:=hp;obtain⟨h1,h2,h3⟩:=apart_spec hap;have TB:∀(s:Nat->V) u v,aX (aX s A.dst u) B.dst v=aX (aX s B.dst v) A.dst u:=λs u v=>CX h3;rcases hk with((((⟨qa,qb⟩|⟨ea,sb⟩)|⟨sa,eb⟩)|⟨pa,mb⟩)|⟨ma,pb⟩)|⟨ma,mb⟩
 .rw[cA qa]at h;obtain⟨u,hu,h⟩:=h;rw[cA qb]at h;obtain⟨v,hv,h⟩:=h;rw[cA qb];refine⟨v,(fS h1).1 hv,?_⟩;rw[cA qa];refine⟨u,(fS h2).2 hu,?_⟩;simp only at h|-;rw[<-TB];exact h
 .have qb:fA B=true:=by simp[fA,lj sb]
  rw[gu ea]at h;rcases h with⟨hw,h⟩|⟨hw,⟨sz,xa,xv,Z',RH,hs,h⟩|⟨WL,g,hg,h⟩⟩
  .rw[cA qb]at h;obtain⟨v,hv,h⟩:=h;rw[cA qb];refine⟨v,(fS h1).1 hv,?_⟩;rw[gu ea];refine .inl ⟨by rw[ct h2];exact hw,?_⟩;simp only at h|-;rw[<-TB];exact h
  .rw[cA qb]at h;obtain⟨v,hv,h⟩:=h;rw[cA qb];refine⟨v,jC sb ((fS h1).1 hv),?_⟩;rw[gu ea];refine .inr ⟨by rw[ct h2];exact hw,.inl ⟨sz,xa,xv,Z',RH,?_,?_⟩⟩
   .simp only;rw[gH h2 x.s xa (by simp[RH,RO.xs]),gH h2 x.s xv (by simp[RH,RO.xs])];exact hs
   .simp only at h|-;rw[<-TB];exact h
  .obtain⟨WK,_,hid0⟩:=hi 0;have h0:=h WK hid0;rw[cA qb]at h0;obtain⟨v,hv,_⟩:=h0;have hvx:QY P B x.s x.U v:=jC sb ((fS h1).1 hv);rw[cA qb];refine⟨v,hvx,?_⟩;rw[gu ea];refine .inr ⟨by rw[ct h2];exact hw,.inr ⟨WL,g,?_,λid M'=>?_⟩⟩
   .rw[<-hg];exact fw (gH h2 x.s)
   .have h4:=h id M';rw[cA qb]at h4;obtain⟨v',Vy,h4⟩:=h4;have hvx':QY P B x.s x.U v':=jC sb ((fS h1).1 Vy);have:=Kq sb hvx hvx';subst this;simp only at h4|-;rw[<-TB];exact h4
 .have qa:fA A=true:=by simp[fA,lj sa]
  rw[cA qa]at h;obtain⟨u,hu,h⟩:=h;rw[gu eb]at h;rw[gu eb];rcases h with⟨hw,h⟩|⟨hw,⟨sz,xa,xv,Z',RH,hs,h⟩|⟨WL,g,hg,h⟩⟩
  .refine .inl ⟨by rw[<-ct h1];exact hw,?_⟩;rw[cA qa];refine⟨u,(fS h2).2 hu,?_⟩;simp only at h|-;rw[<-TB];exact h
  .refine .inr ⟨by rw[<-ct h1];exact hw,.inl ⟨sz,xa,xv,Z',RH,?_,?_⟩⟩
   .simp only at hs;rw[gH h1 x.s xa (by simp[RH,RO.xs]),gH h1 x.s xv (by simp[RH,RO.xs])]at hs;exact hs
   .rw[cA qa];refine⟨u,(fS h2).2 (jC sa hu),?_⟩;simp only at h|-;rw[<-TB];exact h
  .refine .inr ⟨by rw[<-ct h1];exact hw,.inr ⟨WL,g,?_,λid M'=>?_⟩⟩
   .rw[<-hg];exact(fw (gH h1 x.s)).symm
   .rw[cA qa];refine⟨u,(fS h2).2 (jC sa hu),?_⟩;have h4:=h id M';simp only at h4|-;rw[<-TB];exact h4
 .have qa:fA A=true:=pa;obtain⟨WL,UM⟩:=rN mb;have eb:rD B=true:=by simp[rD,WL]
  rw[cA qa]at h;obtain⟨u,hu,h⟩:=h;rw[gu eb]at h;rw[gu eb];rcases h with⟨hw,h⟩|⟨hw,⟨sz,xa,xv,Z',RH,hs,h⟩|⟨_,g,hg,h⟩⟩
  .refine .inl ⟨by rw[<-ct h1];exact hw,?_⟩;rw[cA qa];refine⟨u,(fS h2).2 hu,?_⟩;simp only at h|-;rw[<-TB];exact h
  .rw[RH]at WL;simp[bx]at WL
  .refine .inr ⟨by rw[<-ct h1];exact hw,.inr ⟨WL,g,?_,λid M'=>?_⟩⟩
   .rw[<-hg];exact(fw (gH h1 x.s)).symm
   .rw[cA qa];refine⟨u,(fS h2).2 (Dn qa M' (λj hj=>UM _ _ g hg id j hj) hu),?_⟩;have h4:=h id M';simp only at h4|-;rw[<-TB];exact h4
 .have qb:fA B=true:=by simp only[jn,beq_iff_eq]at pb;simp[fA,pb]
  obtain⟨WL,UM⟩:=y7 ma;have ea:rD A=true:=by simp[rD,WL]
  rw[gu ea]at h;rcases h with⟨hw,h⟩|⟨hw,⟨sz,xa,xv,Z',RH,hs,h⟩|⟨_,g,hg,h⟩⟩
  .rw[cA qb]at h;obtain⟨v,hv,h⟩:=h;rw[cA qb];refine⟨v,(fS h1).1 hv,?_⟩;rw[gu ea];refine .inl ⟨by rw[ct h2];exact hw,?_⟩;simp only at h|-;rw[<-TB];exact h
  .rw[RH]at WL;simp[bx]at WL
  ·
   obtain⟨WK,We,hid0⟩:=hi ((kC x.s B.op).getD 0+1);have h0:=h WK hid0;rw[cA qb]at h0;obtain⟨v,hv,_⟩:=h0;have hv1:=(fS h1).1 hv;have hvx:QY P B x.s x.U v:=by
    by_cases hwB:bu x.s B.g=some true
    .refine wL pb (λj hj=>?_) hv1;have hn:=rG pb hv1 hwB hj;refine(UM _ _ g hg WK j (λe=>?_)).resolve_right hn;rw[hj]at We;simp at We;omega
    .exact xK hv1 hwB
   rw[cA qb];refine⟨v,hvx,?_⟩;rw[gu ea];refine .inr ⟨by rw[ct h2];exact hw,.inr ⟨WL,g,?_,λid M'=>?_⟩⟩
   .rw[<-hg];exact fw (gH h2 x.s)
   .have h4:=h id M';rw[cA qb]at h4;obtain⟨v',Vy,h4⟩:=h4;have hv2:=(fS h1).1 Vy;have hv3:QY P B x.s x.U v':=by
     by_cases hwB:bu x.s B.g=some true
     .refine wL pb (λj hj=>?_) hv2;have hn:=rG pb hv2 hwB hj;have hs:=rG pb hvx hwB hj;exact(UM _ _ g hg id j (λe=>hs (e▸M'))).resolve_right hn
     .exact xK hv2 hwB
    have:=w8 pb hv3 hvx;subst this;simp only at h4|-;rw[<-TB];exact h4
 .have ka:=(y7 ma).1;have kb:=(rN mb).1;have ea:rD A=true:=by simp[rD,ka]
  have eb:rD B=true:=by simp[rD,kb]
  rw[gu ea]at h;rw[gu eb];rcases h with⟨hw,h⟩|⟨hw,⟨sz,xa,xv,Z',RH,_⟩|⟨_,g,hg,h⟩⟩
  .rw[gu eb]at h;rcases h with⟨VC,h⟩|⟨VC,⟨sz,xa,xv,Z',RH,_⟩|⟨_,g2,hg2,h⟩⟩
   .refine .inl ⟨by rw[<-ct h1];exact VC,?_⟩;rw[gu ea];refine .inl ⟨by rw[ct h2];exact hw,?_⟩;simp only at h|-;rw[<-TB];exact h
   .exact(mD kb RH).elim
   .refine .inr ⟨by rw[<-ct h1];exact VC,.inr ⟨kb,g2,by rw[<-hg2];exact(fw (gH h1 x.s)).symm,λid M'=>?_⟩⟩;rw[gu ea];refine .inl ⟨by rw[ct h2];exact hw,?_⟩;have h4:=h id M';simp only at h4|-;rw[<-TB];exact h4
  .exact(mD ka RH).elim
  .obtain⟨vA,oA,dA,hA,VD,hA'⟩:=Gf ma hg;obtain⟨WK,_,hid0⟩:=hi 0;have h0:=h WK hid0;rw[gu eb]at h0;rcases h0 with⟨VC,_⟩|⟨VC,⟨sz,xa,xv,Z',RH,_⟩|⟨_,g2,hg2,_⟩⟩
   .refine .inl ⟨by rw[<-ct h1];exact VC,?_⟩;rw[gu ea];refine .inr ⟨by rw[ct h2];exact hw,.inr ⟨ka,g,by rw[<-hg];exact fw (gH h2 x.s),λid M'=>?_⟩⟩;have h4:=h id M';rw[gu eb]at h4;rcases h4 with⟨_,h4⟩|⟨hw3,_⟩
    .simp only at h4|-;rw[<-TB];exact h4
    .exfalso;have e1:=ct (v:=(g id).1) h1 (s:=x.s);have e2:=ct (v:=(g WK).1) h1 (s:=x.s);simp only at VC hw3;rw[e1]at hw3;rw[e2]at VC;rw[hw3]at VC;cases VC
   .exact(mD kb RH).elim
   .have hg2x:SG x.s (g WK).2 B.op=some g2:=by rw[<-hg2];exact(fw (gH h1 x.s)).symm
    obtain⟨vB,oB,hB,hB'⟩:=yn mb hg2x;refine .inr ⟨by rw[<-ct h1];exact VC,.inr ⟨kb,_,hB' x.U,λidB hidB=>?_⟩⟩;rw[gu ea];refine .inr ⟨by rw[ct h2];exact hw,.inr ⟨ka,λid=>(vA id,Vc.C' (bK (Vc.C' x.U idB oB) dA) id oA),?_,λRN hidA=>?_⟩⟩
    .rw[<-hA' idB oB hidB];exact fw (gH h2 x.s)
    .have R6:RN≠idB:=λe=>by subst e;simp[Vc.C']at hidA
     have hidA':x.U RN=none:=by simpa[Vc.C',R6]using hidA
     have h4:=h RN hidA';rw[gu eb]at h4;rw[hA RN]at h4;rcases h4 with⟨hw3,_⟩|⟨_,⟨sz,xa,xv,Z',RH,_⟩|⟨_,g3,hg3,h4⟩⟩
     .exfalso;have e1:=ct (v:=vA RN) h1 (s:=x.s);have e2:=ct (v:=(g WK).1) h1 (s:=x.s);simp only at VC hw3;rw[e1]at hw3;rw[e2]at VC;rw[hw3]at VC;cases VC
     .exact(mD kb RH).elim
     .have e3:SG x.s (Vc.C' (bK x.U dA) RN oA) B.op=some g3:=by rw[<-hg3];exact(fw (gH h1 x.s)).symm
      rw[hB' (Vc.C' (bK x.U dA) RN oA)]at e3;simp only[Oi]at e3;subst e3;have SQ:∀i,x.U i=none->bK x.U dA i=none:=λi hi=>by
       cases dA with
       |none=>exact hi
       |some a=>simp only[bK,del];split<;>first|rfl|exact hi
      have h5:=h4 idB (by simp[Vc.C',R6.symm,SQ _ hidB]);have hsw:bK (Vc.C' x.U idB oB) dA=Vc.C' (bK x.U dA) idB oB:=by
       cases dA with
       |none=>rfl
       |some a=>
        funext i;have WA:a≠idB:=λe=>VD a rfl (by rw[e];exact hidB);simp only[bK,del,Vc.C'];by_cases e1:i=a
        .have hib:i≠idB:=λe=>WA (e1▸e);simp[e1,WA]
        .by_cases e2:i=idB<;>simp[e1,e2,Ne.symm WA]
      simp only at h5|-;rw[<-TB,hsw,<-vG R6];exact h5
variable {P:Program} {n:Nat}
def T.exists{i:aN}{x:St}{K:St->Prop}(hi:Wz x.U)(h:T P i x K):∃x',K x':=by
 unfold T at h;split at h
 .unfold TO at h;split at h
  .obtain⟨_,v,_,h⟩:=h;exact⟨_,h⟩
  .split at h
   .obtain⟨_,_,v,_,_,h⟩:=h;exact⟨_,h⟩
   .exact h.elim
  .split at h
   .obtain⟨_,_,h⟩:=h;exact⟨_,h⟩
   .exact h.elim
  .obtain⟨g,_,h⟩:=h;obtain⟨id,_,M'⟩:=hi 0;exact⟨_,h id M'⟩
  .exact h.elim
 .exact⟨_,h⟩
 .exact h.elim
def wD{F:Fr}(hn:F.n=n){o:Oper}{all:Array Oper}{x:St}{K:St->Prop}{a:Act}{w:World}(h:T P (dn P n all o) x K)(hs:fK F x a w)
 {next:Act->World->Prop}{Q':Exit->Act->World->Prop}(RL:∀x' a' w',fK F x' a' w'->K x'->next a' w'):
 if Region.wanted o (yielded all a.tmps)then R0 P n o.op≠.bad/\o.wp P a w next Q' else next (a.put o.dst undef) w:=by
 subst hn;obtain⟨I,hs⟩:=hs;unfold T at h;cases hw:bu x.s (dn P F.n all o).g with
 |none=>simp only[hw]at h
 |some b=>
  have V3:=rS (P:=P) hs all o hw;rw[V3];simp only[hw]at h;cases b
  .simp only[Bool.false_eq_true,if_false]at h|-;exact RL _ _ _ ⟨I,hs.pure (d:=o.dst) (by simp only[E'];exact⟨[],rfl,by simp[aA]⟩)⟩ h
  .simp only[if_true]at h|-;refine⟨λe=>?_,?_⟩
   .have hopc:(dn P F.n all o).op=R0 P F.n o.op:=rfl;rw[hopc,e]at h;simp[TO,bx]at h
   have hdst:(dn P F.n all o).dst=o.dst.filter (·<F.n):=rfl;have hopc:(dn P F.n all o).op=R0 P F.n o.op:=rfl;rw[hdst,hopc]at h;unfold TO at h;split at h
   .obtain⟨h1,v,h2,h3⟩:=h;obtain⟨z,hz,hr⟩:=qY hs o h1 h2;unfold Oper.wp;rw[hz];exact RL _ _ _ ⟨I,hs.pure hr⟩ h3
   .split at h
    .rename_i fx xs RH;obtain⟨f,caps,v,h1,h2,h3⟩:=h;obtain⟨f0,args,argTypes,g1,rfl,rfl⟩:=lJ RH;refine nS hs g1 h1 (h2 _ (aa.refl _)) λr Z' hp a' w' RP=>?_;obtain⟨rfl,rfl⟩:=hp;exact RL _ a' w' RP h3
    .exact h.elim
   .split at h
    .rename_i sz xa xv RH;obtain⟨Z',h1,h2⟩:=h;obtain⟨t,y,z,g1,g2,rfl,rfl,rfl⟩:=wi RH;unfold cQ at h1;split at h1
     .rename_i id r0 c e1;split at h1
      .rename_i ob e2;split at h1
       .rename_i r e3;split at h1
        .rename_i r' e4;simp only[Oi]at h1;subst h1;obtain⟨w',hx,RP⟩:=rk hs g1 g2 e1 e2 e3 e4;unfold Oper.wp;rw[hx];exact RL _ _ _ ⟨I,RP⟩ h2
        .cases h1
       .cases h1
      .cases h1
     .cases h1
    .exact h.elim
   .obtain⟨g,hg,h⟩:=h;cases RH:R0 P F.n o.op<;>rw[RH]at hg
    case box e sz xv=>
     simp only[SG]at hg;split at hg
     .rename_i hc;simp only[Oi]at hg;subst hg;obtain⟨y,g1,g2,rfl,rfl⟩:=B4 RH;obtain⟨id,M',z,w',Y',hz,RP⟩:=vj hs g1 g2 hc.1 hc.2;unfold Oper.wp;rw[hz];exact RL _ _ _ ⟨Y',RP⟩ (h id M')
     .cases hg
    case alloc e sz z=>
     simp only[SG,Oi]at hg;subst hg;obtain⟨ti,zv,g1,g2,rfl,rfl⟩:=wj RH;obtain⟨id,M',y,w',Y',hy,RP⟩:=qj hs g1 g2;unfold Oper.wp;rw[hy];exact RL _ _ _ ⟨Y',RP⟩ (h id M')
    case bp e sz xs=>
     simp only[SG]at hg;split at hg
     .rename_i hc;simp only[Oi]at hg;subst hg;obtain⟨t,len,parts,ti,z,h1,h2,h3,rfl,h5,h6,rfl⟩:=sW RH;have hx:∀y∈parts.toList.map (λp=>(cx F.n p.2).ev x.s),y.cells.length=ti.size/\y.stays=true:=by
       intro y hy;have:=List.all_eq_true.1 hc y (by rw[List.map_map];exact hy);simpa using this
      obtain⟨id,M',y,w',Y',hy,RP⟩:=oW hs h1 h2 h3 h5 h6 hx;unfold Oper.wp;rw[hy];have hl:parts.size=len:=by have:=congrArg List.length h5;simpa using this
      refine RL _ _ _ ⟨Y',RP⟩ ?_;have:=h id M';simpa only[List.length_map,List.map_map,Array.length_toList,hl,Function.comp_def]using this
     .cases hg
    case mk e sz bytes zv y=>
     simp only[SG]at hg;split at hg
     .rename_i m hm;split at hg
      .rename_i hc;simp only[Oi]at hg;subst hg;obtain⟨t,l',c,ti,z,g1,g2,g3,rfl,rfl,rfl,g5,rfl⟩:=EN RH;obtain⟨id,M',x',w',Y',R9,RP⟩:=ze hs g1 g5 g2 g3 hm hc.1 hc.2;unfold Oper.wp;rw[R9];exact RL _ _ _ ⟨Y',RP⟩ (h id M')
      .cases hg
     .cases hg
    case Wr e sz bytes zv ya y=>
     simp only[SG]at hg;split at hg
     .rename_i kq m hy hm;split at hg
      .rename_i hc;simp only[Oi]at hg;subst hg;obtain⟨t,tn,kn,x1,y1,args,argTypes,ti,z,g1,g2,g3,g4,g5,g6,rfl,rfl,rfl,rfl,rfl⟩:=zY RH;obtain⟨id,M',x',w',Y',R9,RP⟩:=tV hs g1 g2 g3 g4 g5 g6 hy hm hc.1 hc.2;unfold Oper.wp;rw[R9];exact RL _ _ _ ⟨Y',RP⟩ (h id M')
      .cases hg
     .cases hg
    case append e sz bytes xa xb=>
     simp only[SG]at hg;split at hg
     .rename_i base RN src e1 e2;split at hg
      .rename_i hb;simp only[Oi]at hg;subst hg;obtain⟨t,t',y,z,args,argTypes,ti,zv,g1,g2,g3,YS,g4,g5,rfl,rfl,rfl,rfl⟩:=tR RH;obtain⟨id,M',r,w',Y',hx,RP⟩:=oz hs g1 g2 g3 YS g4 g5 e1 e2 hb;unfold Oper.wp;rw[hx];exact RL _ _ _ ⟨Y',RP⟩ (h id M')
      .cases hg
     .cases hg
    all_goals simp[SG]at hg
   .exact h.elim
def Tn(P:Program)(n:Nat)(ops:Array Oper)(i:Nat)(x:St)(K:St->Prop):Prop:=match ops[i]? with
 |some o=>T P (dn P n ops o) x K
 |none=>K x
def pT(P:Program)(n:Nat)(ops:Array Oper)(Q:St->Prop):Nat->Array Bool->St->Prop
 |0,A',x=>Region.ready .any ops A'=[]/\Q x
 |f+1,A',x=>(Region.ready .any ops A'=[]->Q x)/\∀i∈Region.ready .any ops A',Tn P n ops i x (pT P n ops Q f (A'.setIfInBounds i true))
def nQ{F:Fr}(hn:F.n=n){ops:Array Oper}{Q:St->Prop}{Q':Exit->Act->World->Prop}(hQ:∀x a w,fK F x a w->Q x->Q' .normal a w):
 ∀(f:Nat) (A':Array Bool) (x:St) (a:Act) (w:World),fK F x a w->pT P n ops Q f A' x->wpAnyIn F.eP 0 P .any ops Q' f A' a w
 |0,_,_,_,_,hs,h=>⟨h.1,hQ _ _ _ hs h.2⟩
 |f+1,A',x,a,w,hs,h=>by
  refine⟨λh0=>hQ _ _ _ hs (h.1 h0),λi hi=>?_⟩;have h1:=h.2 i hi;unfold Tn at h1;unfold wpOpIn;cases ho:ops[i]? with
  |none=>
   simp only[ho]at h1;exact nQ hn hQ f _ x a w hs h1
  |some o=>
   simp only[ho]at h1;have h2:=wD (Q':=Q') hn h1 hs λx' a' w' RP hk=>nQ hn hQ f _ x' a' w' RP hk;by_cases hw:Region.wanted o (yielded ops a.tmps)=true
   .rw[if_pos hw]at h2;simp only[hw,if_true];exact Iy (mG h2.1) h2.2
   .rw[if_neg hw]at h2;simp only[hw];exact⟨λ_ _=>trivial,h2⟩
def ki(ops:Array Oper)(A':Array Bool):Prop:=∀m om,ops[m]?=some om->A'.getD m true=true->∀e∈om.after,Region.binds .any e=true->A'.getD e.on false=true
def ki.list{ops:Array Oper}{A':Array Bool}(h:ki ops A'){i:Nat}(hi:i∈Region.ready .any ops A'):ki ops (A'.setIfInBounds i true):=by
 intro m om hm hl e he hb;by_cases hmi:m=i
 .subst hmi;obtain⟨_,o,ho,SK⟩:=mem_ready.1 hi;rw[hm]at ho;cases ho;exact getD_set_true (SK e he hb)
 .rw[getD_set_ne true (Ne.symm hmi)]at hl;exact getD_set_true (h m om hm hl e he hb)
def A6{f:Edge->Nat}(l:List Edge):∀(s:Nat) (i:Nat),(l.foldl (λs e=>if Region.binds .any e then s ||| 2^e.on ||| f e else s) s).testBit i=true->
 s.testBit i=true\/∃e∈l,Region.binds .any e=true/\(i=e.on\/(f e).testBit i=true):=by
 induction l with
 |nil=>intro s i h;exact .inl h
 |cons e l ih=>
  intro s i h;simp only[List.foldl_cons]at h;rcases ih _ i h with h1|⟨e',h2,h3,h4⟩
  .by_cases hb:Region.binds .any e=true
   .rw[if_pos hb]at h1;simp only[Nat.testBit_or,Bool.or_eq_true,Nat.testBit_two_pow]at h1;rcases h1 with(h1|h1)|h1
    .exact .inl h1
    .exact .inr ⟨e,by simp,hb,.inl (by simpa using(of_decide_eq_true h1).symm)⟩
    .exact .inr ⟨e,by simp,hb,.inr h1⟩
   .rw[if_neg hb]at h1;exact .inl h1
  .exact .inr ⟨e',by simp[h2],h3,h4⟩
def qk{ops:Array Oper}{A':Array Bool}(hc:ki ops A'):∀(j:Nat) (oj:Oper) (i:Nat),ops[j]?=some oj->((Region.before ops).getD j 0).testBit i=true->
 (∀e∈oj.after,Region.binds .any e=true->A'.getD e.on false=true)->A'.getD i false=true:=by
 have key:∀(l:List Oper) (acc:Array Nat) (k:Nat),acc.size=k->(∀j,l[j]?=ops[k+j]?)->
  (∀j oj i,j<k->ops[j]?=some oj->(acc.getD j 0).testBit i=true->(∀e∈oj.after,Region.binds .any e=true->A'.getD e.on false=true)->A'.getD i false=true)->
  ∀j oj i,ops[j]?=some oj->((l.foldl (λacc o=>acc.push (o.after.foldl (λs e=>if Region.binds .any e then s ||| 2^e.on ||| acc.getD e.on 0 else s) 0)) acc).getD j 0).testBit i=true->
   (∀e∈oj.after,Region.binds .any e=true->A'.getD e.on false=true)->A'.getD i false=true:=by
  intro l
  induction l with
  |nil=>
   intro acc k hk hl h j oj i hj hb hd;have H':j<k:=by
    rcases Nat.lt_or_ge j k with h1|h1
    .exact h1
    .have:=hl (j-k);rw[show k+(j-k)=j by omega,hj]at this;simp at this
   exact h j oj i H' hj hb hd
  |cons o l ih=>
   intro acc k hk hl h;have RC:ops[k]?=some o:=by simpa using(hl 0).symm
   refine ih _ (k+1) (by simp[hk]) (λj=>by have:=hl (j+1);simpa[Nat.add_assoc,Nat.add_comm 1 j]using this) ?_;intro j oj i hj YT hb hd;by_cases hjk:j=k
   .subst hjk;rw[YT]at RC;cases RC;rw[Array.getD_eq_getD_getElem?,<-hk,Array.getElem?_push_size]at hb;simp only[Option.getD_some]at hb;rw[<-Array.foldl_toList]at hb;rcases A6 (f:=λe=>acc.getD e.on 0) o.after.toList 0 i hb with h1|⟨e,he,hbd,h1|h1⟩
    .simp at h1
    .rw[h1];exact hd e (by simpa using he) hbd
    .have Vq:=hd e (by simpa using he) hbd;by_cases hek:e.on<acc.size
     .have hex:e.on<ops.size:=by
       have:=(Array.getElem?_eq_some_iff.1 YT).1;omega
      have hoe:ops[e.on]?=some ops[e.on]:=Array.getElem?_eq_getElem hex;refine h e.on _ i (by omega) hoe h1 (hc e.on _ hoe ?_);have TF:e.on<A'.size:=by
       rcases Nat.lt_or_ge e.on A'.size with h2|h2
       .exact h2
       .simp[Array.getElem?_eq_none h2]at Vq
      simp only[Array.getD_eq_getD_getElem?,Array.getElem?_eq_getElem TF,Option.getD_some]at Vq|-;exact Vq
     .rw[Array.getD_eq_getD_getElem?,Array.getElem?_eq_none (by omega)]at h1;simp at h1
   .have hjlt:j<k:=by omega
    rw[Array.getD_eq_getD_getElem?,Array.getElem?_push_lt (by omega)]at hb;refine h j oj i hjlt YT ?_ hd;rw[Array.getD_eq_getD_getElem?,Array.getElem?_eq_getElem (by omega)];exact hb
 intro j oj i hj hb hd;unfold Region.before at hb;rw[<-Array.foldl_toList]at hb;exact key ops.toList #[] 0 rfl (by simp) (λj oj i h=>by omega) j oj i hj hb hd
def wA{ops:Array Oper}{Q:St->Prop}{i:Nat}{oi:Oper}(hi:ops[i]?=some oi):∀(f:Nat) (A':Array Bool) (x:St),Wz x.U->ki ops A'->
 (∀j oj,ops[j]?=some oj->j≠i->A'.getD j true=false->((Region.before ops).getD j 0).testBit i=false->mr (dn P n ops oi) (dn P n ops oj)=true)->
 i∈Region.ready .any ops A'->T P (dn P n ops oi) x (pT P n ops Q f (A'.setIfInBounds i true))->pT P n ops Q (f+1) A' x:=by
 intro f
 induction f with
 |zero=>
  intro A' x UY _ _ hr H;refine⟨λh=>(by rw[h]at hr;cases hr),λj hj=>?_⟩;by_cases Uv:j=i
  .subst Uv;unfold Tn;simp only[hi];exact H
  .have:=ready_mono hj Uv;obtain⟨x',R9⟩:=H.exists UY;rw[R9.1]at this;cases this
 |succ f ih=>
  intro A' x UY SJ XA hr H;refine⟨λh=>(by rw[h]at hr;cases hr),λj hj=>?_⟩;by_cases Uv:j=i
  .subst Uv;unfold Tn;simp only[hi];exact H
  .obtain⟨Zn,oj,YT,SK⟩:=mem_ready.1 hj;have Yr:((Region.before ops).getD j 0).testBit i=false:=by
    cases hb:((Region.before ops).getD j 0).testBit i with
    |false=>rfl
    |true=>
     exfalso;have h1:=qk SJ j oj i YT hb SK;have h0:=(mem_ready.1 hr).1;rcases Nat.lt_or_ge i A'.size with h'|h'
     .simp[h']at h0 h1;rw[h0]at h1;cases h1
     .simp[Array.getElem?_eq_none h']at h1
   have H2:T P (dn P n ops oi) x λx'=>T P (dn P n ops oj) x' (pT P n ops Q f ((A'.setIfInBounds i true).setIfInBounds j true)):=by
    refine H.mono λx' R9=>?_;have:=R9.2 j (ready_mono hj Uv);unfold Tn at this;simpa only[YT]using this
   have h2:=FM (XA j oj YT Uv Zn Yr) UY H2;have Ys:∀k ok,ops[k]?=some ok->k≠i->(A'.setIfInBounds j true).getD k true=false->
    ((Region.before ops).getD k 0).testBit i=false->mr (dn P n ops oi) (dn P n ops ok)=true:=λk ok hk hki hun R7=>by
    refine XA k ok hk hki ?_ R7;by_cases hjk:j=k
    .subst hjk;exact Zn
    .rw[getD_set_ne true hjk]at hun;exact hun
   unfold Tn;simp only[YT];refine(h2.inf UY).mono λx' R9=>ih (A'.setIfInBounds j true) x' R9.1 (SJ.list hj) Ys (ready_mono hr (Ne.symm Uv)) ?_;rw[Array.setIfInBounds_comm _ _ Uv];exact R9.2
def ue{ops:Array Oper}{k:Nat}{ok:Oper}{A':Array Bool}(hk:ops[k]?=some ok)(h:Cg P n ops k A'=true)(j:Nat)(oj:Oper)(hj:ops[j]?=some oj)(R6:j≠k)
 (hun:A'.getD j true=false)(R7:((Region.before ops).getD j 0).testBit k=false):mr (dn P n ops ok) (dn P n ops oj)=true:=by
 unfold Cg at h;simp only[hk]at h;have hjlt:j<ops.size:=(Array.getElem?_eq_some_iff.1 hj).1;have:=List.all_eq_true.1 h j (List.mem_range.2 hjlt);simp only[hj,hun,R7,Bool.or_false,Bool.false_or,Bool.or_eq_true,beq_iff_eq,R6,false_or]at this;exact this
def gF(P:Program)(Q:St->Prop):List aN->St->Prop
 |[],x=>Q x
 |i::l,x=>T P i x (gF P Q l)
def sH{ops:Array Oper}{Q:St->Prop}:∀(l:List Oper) (k:Nat) (A':Array Bool) (x:St),Wz x.U->ki ops A'->(∀j,l[j]?=ops[k+j]?)->
 E5 P n ops l.length k A'=true->gF P Q (l.map (dn P n ops)) x->pT P n ops Q l.length A' x
 |[],_,_,_,_,_,_,hB,h=>⟨by simpa[E5]using hB,h⟩
 |o::l,k,A',x,UY,SJ,hl,hB,h=>by
  have h0:ops[k]?=some o:=by simpa using(hl 0).symm
  simp only[List.length_cons,E5,Ba]at hB;obtain⟨⟨hr,hf⟩,hB'⟩:=hB;refine wA h0 l.length A' x UY SJ (ue h0 hf) (by simpa using hr) ?_;refine(T.inf UY h).mono λx' R9=>?_;exact sH l (k+1) _ x' R9.1 (SJ.list (by simpa using hr)) (λj=>by have:=hl (j+1);simpa[Nat.add_assoc,Nat.add_comm 1 j]using this) hB' R9.2
def xj{F:Fr}(hn:F.n=n){ops:Array Oper}(RC:wE P n ops=true){id:Nat}{x:St}{a:Act}{w:World}(hs:fK F x a w){Q:St->Prop}{Q':Exit->Act->World->Prop}
 (hQ:∀x a w,fK F x a w->Q x->Q' .normal a w)(h:gF P Q (ops.toList.map (dn P n ops)) x):(Code.region id ops true).wpIn F.eP 0 P Q' a w:=by
 simp only[wE,Ba]at RC;have RP:fK F x a { w with drawn:=w.drawn+1 }:=by
  obtain⟨I,hs⟩:=hs;have hk:db (aG I x.U) (aG I x.U) w { w with drawn:=w.drawn+1 }:=λ_ _ h=>⟨h,rfl⟩
  refine⟨I,⟨⟨hs.sat.size,hs.sat.os,hs.sat.tape,hs.sat.output,hs.sat.same,hs.sat.fin,hs.sat.inj,λid o ho=>?_,hs.sat.fresh,hs.sat.UW⟩,hs.le,hs.size,hs.book.mc hk,λi hi=>?_⟩⟩
  .exact(hs.sat.obj id o ho).mono (df.refl I) hk (Nat.le_refl _) (λ_ _ _ _=>rfl)
  .exact E'.mono (df.refl I) hk (Nat.le_refl _) _ _ (hs.slot i hi)
 refine wpIn_region_any RC.1 (nQ hn hQ _ _ _ _ _ RP ?_);have:=sH (P:=P) (n:=n) (Q:=Q) ops.toList 0 (Array.replicate ops.size false) x hs.inf (λm om hm hl=>by
  have H':m<ops.size:=(Array.getElem?_eq_some_iff.1 hm).1;rw[Array.getD_eq_getD_getElem?,Array.getElem?_replicate,if_pos H']at hl;simp at hl) (by simp) (by simpa using RC.2.2) h
 simpa using this
def pK(P:Program)(n:Nat)(ops:Array Oper)(m:Nat)(Q:St->Prop):Nat->Array Bool->St->Prop
 |0,A',x=>(Region.ready .any ops A'=[m]/\Region.ready .any ops (A'.setIfInBounds m true)=[])/\Q x
 |f+1,A',x=>Region.ready .any ops A'≠[]/\∀i∈Region.ready .any ops A',i≠m/\Tn P n ops i x (pK P n ops m Q f (A'.setIfInBounds i true))
def nC{F:Fr}(hn:F.n=n){ops:Array Oper}{m:Nat}{Q:St->Prop}{Q':Exit->Act->World->Prop}(hQ:∀x a w,fK F x a w->Q x->wpOpIn F.eP 0 P ops Q' m (Q' .normal) a w):
 ∀(f:Nat) (A':Array Bool) (x:St) (a:Act) (w:World),fK F x a w->pK P n ops m Q f A' x->wpAnyIn F.eP 0 P .any ops Q' (f+1) A' a w
 |0,A',x,a,w,hs,h=>by
  obtain⟨⟨h1,h2⟩,h3⟩:=h;refine⟨λh0=>(by rw[h1]at h0;cases h0),λi hi=>?_⟩;rw[h1]at hi;have him:i=m:=by simpa using hi
  subst him;exact wpOpIn_mono (λa w h=>⟨h2,h⟩) (hQ x a w hs h3)
 |f+1,A',x,a,w,hs,h=>by
  refine⟨λh0=>absurd h0 h.1,λi hi=>?_⟩;have h1:=(h.2 i hi).2;unfold Tn at h1;unfold wpOpIn;cases ho:ops[i]? with
  |none=>
   simp only[ho]at h1;exact nC hn hQ f _ x a w hs h1
  |some o=>
   simp only[ho]at h1;have h2:=wD (Q':=Q') hn h1 hs λx' a' w' RP hk=>nC hn hQ f _ x' a' w' RP hk;by_cases hw:Region.wanted o (yielded ops a.tmps)=true
   .rw[if_pos hw]at h2;simp only[hw,if_true];exact Iy (mG h2.1) h2.2
   .rw[if_neg hw]at h2;simp only[hw];exact⟨λ_ _=>trivial,h2⟩
def xq{ops:Array Oper}{m:Nat}{Q:St->Prop}{i:Nat}{oi:Oper}(hi:ops[i]?=some oi)(him:i≠m)(hm:((Region.before ops).getD m 0).testBit i=true):
 ∀(f:Nat) (A':Array Bool) (x:St),Wz x.U->ki ops A'->
 (∀j oj,ops[j]?=some oj->j≠i->A'.getD j true=false->((Region.before ops).getD j 0).testBit i=false->mr (dn P n ops oi) (dn P n ops oj)=true)->
 i∈Region.ready .any ops A'->T P (dn P n ops oi) x (pK P n ops m Q f (A'.setIfInBounds i true))->pK P n ops m Q (f+1) A' x:=by
 have hnotj:∀(A':Array Bool),ki ops A'->i∈Region.ready .any ops A'->∀j,j∈Region.ready .any ops A'->((Region.before ops).getD j 0).testBit i=false:=λA' SJ hr j hj=>by
  obtain⟨Zn,oj,YT,SK⟩:=mem_ready.1 hj;cases hb:((Region.before ops).getD j 0).testBit i with
  |false=>rfl
  |true=>
   exfalso;have h1:=qk SJ j oj i YT hb SK;have h0:=(mem_ready.1 hr).1;rcases Nat.lt_or_ge i A'.size with h'|h'
   .simp[h']at h0 h1;rw[h0]at h1;cases h1
   .simp[Array.getElem?_eq_none h']at h1
 have hjm:∀(A':Array Bool),ki ops A'->i∈Region.ready .any ops A'->∀j,j∈Region.ready .any ops A'->j≠m:=λA' SJ hr j hj e=>by
  have:=hnotj A' SJ hr j hj;rw[e,hm]at this;cases this
 intro f
 induction f with
 |zero=>
  intro A' x UY SJ _ hr H;refine⟨λh=>(by rw[h]at hr;cases hr),λj hj=>⟨hjm A' SJ hr j hj,?_⟩⟩;by_cases Uv:j=i
  .subst Uv;unfold Tn;simp only[hi];exact H
  .have:=ready_mono hj Uv;obtain⟨x',R9⟩:=H.exists UY;rw[R9.1.1]at this;exact absurd (by simpa using this) (hjm A' SJ hr j hj)
 |succ f ih=>
  intro A' x UY SJ XA hr H;refine⟨λh=>(by rw[h]at hr;cases hr),λj hj=>⟨hjm A' SJ hr j hj,?_⟩⟩;by_cases Uv:j=i
  .subst Uv;unfold Tn;simp only[hi];exact H
  .obtain⟨Zn,oj,YT,SK⟩:=mem_ready.1 hj;have Yr:=hnotj A' SJ hr j hj;have H2:T P (dn P n ops oi) x λx'=>T P (dn P n ops oj) x' (pK P n ops m Q f ((A'.setIfInBounds i true).setIfInBounds j true)):=by
    refine H.mono λx' R9=>?_;have:=(R9.2 j (ready_mono hj Uv)).2;unfold Tn at this;simpa only[YT]using this
   have h2:=FM (XA j oj YT Uv Zn Yr) UY H2;have Ys:∀k ok,ops[k]?=some ok->k≠i->(A'.setIfInBounds j true).getD k true=false->
    ((Region.before ops).getD k 0).testBit i=false->mr (dn P n ops oi) (dn P n ops ok)=true:=λk ok hk hki hun R7=>by
    refine XA k ok hk hki ?_ R7;by_cases hjk:j=k
    .subst hjk;exact Zn
    .rw[getD_set_ne true hjk]at hun;exact hun
   unfold Tn;simp only[YT];refine(h2.inf UY).mono λx' R9=>ih (A'.setIfInBounds j true) x' R9.1 (SJ.list hj) Ys (ready_mono hr (Ne.symm Uv)) ?_;rw[Array.setIfInBounds_comm _ _ Uv];exact R9.2
def tE{ops:Array Oper}{m:Nat}{Q:St->Prop}:∀(l:List Oper) (k:Nat) (A':Array Bool) (x:St),Wz x.U->ki ops A'->(∀j,j<l.length->l[j]?=ops[k+j]?)->
 EO P n ops m l.length k A'=true->gF P Q (l.map (dn P n ops)) x->pK P n ops m Q l.length A' x
 |[],_,_,_,_,_,_,hB,h=>⟨by simpa[EO]using hB,h⟩
 |o::l,k,A',x,UY,SJ,hl,hB,h=>by
  have h0:ops[k]?=some o:=by simpa using(hl 0 (by simp)).symm
  simp only[List.length_cons,EO,Ba]at hB;obtain⟨⟨hr,hkm,hbit⟩,hf,hB'⟩:=hB;refine xq h0 (by simpa using hkm) hbit l.length A' x UY SJ (ue h0 hf) (by simpa using hr) ?_;refine(T.inf UY h).mono λx' R9=>?_;exact tE l (k+1) _ x' R9.1 (SJ.list (by simpa using hr)) (λj hj=>by have:=hl (j+1) (by simpa using hj);simpa[Nat.add_assoc,Nat.add_comm 1 j]using this) hB' R9.2
def uI{F:Fr}(hn:F.n=n){ops:Array Oper}(RC:xm P n ops=true){id:Nat}{x:St}{a:Act}{w:World}(hs:fK F x a w){Q:St->Prop}{Q':Exit->Act->World->Prop}
 (hQ:∀x a w,fK F x a w->Q x->wpListIn F.eP 0 P ops Q' (ops.toList.drop (ops.size-1)) a w)(h:gF P Q ((ops.toList.take (ops.size-1)).map (dn P n ops)) x):(Code.region id ops true).wpIn F.eP 0 P Q' a w:=by
 simp only[xm,Ba,decide_eq_true_eq]at RC;obtain⟨hmx,SP,_,_,hlex⟩:=RC;have RP:fK F x a { w with drawn:=w.drawn+1 }:=by
  obtain⟨I,hs⟩:=hs;have hk:db (aG I x.U) (aG I x.U) w { w with drawn:=w.drawn+1 }:=λ_ _ h=>⟨h,rfl⟩
  refine⟨I,⟨⟨hs.sat.size,hs.sat.os,hs.sat.tape,hs.sat.output,hs.sat.same,hs.sat.fin,hs.sat.inj,λid o ho=>?_,hs.sat.fresh,hs.sat.UW⟩,hs.le,hs.size,hs.book.mc hk,λi hi=>?_⟩⟩
  .exact(hs.sat.obj id o ho).mono (df.refl I) hk (Nat.le_refl _) (λ_ _ _ _=>rfl)
  .exact E'.mono (df.refl I) hk (Nat.le_refl _) _ _ (hs.slot i hi)
 refine wpIn_region_any hmx ?_;have hlen:(ops.toList.take (ops.size-1)).length=ops.size-1:=by simp
 have hdrop:ops.toList.drop (ops.size-1)=[ops[ops.size-1]'(by omega)]:=by
  rw[List.drop_eq_getElem_cons (by simpa using(by omega:ops.size-1<ops.size))];simp[List.drop_eq_nil_of_le,show ops.size<=ops.size-1+1 by omega]
 have Ut:ops[ops.size-1]?=some (ops[ops.size-1]'(by omega)):=Array.getElem?_eq_getElem (by omega);have hL:=tE (P:=P) (n:=n) (Q:=Q) (m:=ops.size-1) (ops.toList.take (ops.size-1)) 0 (Array.replicate ops.size false) x hs.inf (λm om hm hl=>by
  have H':m<ops.size:=(Array.getElem?_eq_some_iff.1 hm).1;rw[Array.getD_eq_getD_getElem?,Array.getElem?_replicate,if_pos H']at hl;simp at hl) (λj hj=>by rw[hlen]at hj;simp[List.getElem?_take,hj]) (by rw[hlen];exact hlex) h
 rw[hlen]at hL;have:=nC (Q':=Q') hn (λx a w hs hq=>by
  have:=hQ x a w hs hq;rw[hdrop]at this;unfold wpOpIn;simpa only[Ut,wpListIn]using this) _ _ _ _ _ RP hL
 rwa [show ops.size-1+1=ops.size by omega]at this
variable {P:Program} {n:Nat} {st:St} {Q:St->Prop} {k:List It}
def ad.B3{l:List aN}(h:gF P (λx=>ad P n k x Q) l st):ad P n (.code (.Sd true l)::k) st Q:=by
 intro F hn kt hk a w hs;obtain⟨z,Ua,rfl,hy,Tl⟩:=eE hk;obtain⟨c0,rfl,Tf⟩:=gB hy;have Vh:∃id ops,c0=.region id ops true/\wE P n ops=true/\ops.toList.map (dn P n ops)=l:=by
  cases c0<;>simp only[dG,reduceCtorEq]at Tf;rename_i id ops draw;cases draw
  .simp at Tf
  .simp only[Bool.true_and]at Tf;split at Tf
   .cases Tf
   split at Tf
   .cases Tf
   .rename_i hd;simp only[bJ.Sd.injEq,true_and]at Tf;exact⟨id,ops,rfl,by simpa using hd,Tf⟩
 obtain⟨id,ops,rfl,RC,rfl⟩:=Vh;exact xj hn RC hs (λx a w hs h=>h F hn Ua Tl a w hs) h
def ad.pH{l e:List aN}(h:gF P (λx=>ad P n (.ops e::k) x Q) l st):ad P n (.code (.pH l e)::k) st Q:=by
 intro F hn kt hk a w hs;obtain⟨z,Ua,rfl,hy,Tl⟩:=eE hk;obtain⟨c0,rfl,Tf⟩:=gB hy;have Vh:∃id ops,c0=.region id ops true/\xm P n ops=true/\(ops.toList.take (ops.size-1)).map (dn P n ops)=l/\(ops.toList.drop (ops.size-1)).map (dn P n ops)=e:=by
  cases c0<;>simp only[dG,reduceCtorEq]at Tf;rename_i id ops draw;cases draw
  .simp at Tf
  .simp only[Bool.true_and]at Tf;split at Tf
   .rename_i hd;simp only[bJ.pH.injEq]at Tf;exact⟨id,ops,rfl,hd,Tf.1,Tf.2⟩
   .split at Tf<;>cases Tf
 obtain⟨id,ops,rfl,RC,rfl,rfl⟩:=Vh;exact uI hn RC hs (λx a w hs h=>h F hn (.ops ops (ops.toList.drop (ops.size-1))::Ua) (by simp[KI.it,Tl]) a w hs) h
def St.lit(st:St):VX->V->St
 |.t d,v=>⟨aX st.s (some d) v,st.U⟩
 |.c _,_=>st
inductive Td where
 |r (todo:List It)
 |d (l:List aN) (todo:List It)
def Kof(P:Program)(n:Nat)(todo:List It)(st:St)(Q:St->Prop):Prop:=match todo with
 |.stop μ::_=>μ st
 |todo=>ad P n todo st Q
def Kof.runs{todo:List It}(h:Kof P n todo st Q):ad P n todo st Q:=by
 cases todo with
 |nil=>exact h
 |cons x k=>cases x<;>first|exact ad.stop h|exact h
def gF.mono{K K':St->Prop}(hk:∀x,K x->K' x):∀{l:List aN} {x:St},gF P K l x->gF P K' l x
 |[],_,h=>hk _ h
 |_::_,_,h=>T.mono (λ_ h=>gF.mono hk h) h
def Go(P:Program)(n:Nat)(t:Td)(st:St)(Q:St->Prop):Prop:=
 match t with
 |.r todo=>Kof P n todo st Q
 |.d l todo=>gF P (λx=>Kof P n todo x Q) l st
def Go.runs{todo:List It}(h:Go P n (.r todo) st Q):ad P n todo st Q:=Kof.runs h
def Go.chain{l:List aN}(h:Go P n (.d l k) st Q):gF P (λx=>ad P n k x Q) l st:=gF.mono (λ_ h=>Kof.runs h) h
def dS{α:Type}(o:Option α)(k:α->Prop):Prop:=match o with
 |some v=>k v
 |none=>False
def qH{α:Type}(v:α)(k:α->Prop):dS (some v) k=k v:=rfl
def gE{α:Type}{o:Option α}{k:α->Prop}:dS o k↔∃v,o=some v/\k v:=by cases o<;>simp[dS]
def dW(v:V)(k:Bool->Prop)(z:Prop):Prop:=match v with
 |.bool c=>k c
 |.RB []=>z
 |.int _ _=>z
 |_=>False
def lk{v:V}{k:Bool->Prop}{z:Prop}(h:dW v k z):(∃c,v=.bool c/\k c)\/(v=.RB []/\z)\/(∃q m,v=.int q m/\z):=by
 unfold dW at h;split at h
 .exact .inl ⟨_,rfl,h⟩
 .exact .inr (.inl ⟨rfl,h⟩)
 .exact .inr (.inr ⟨_,_,rfl,h⟩)
 .exact h.elim
def both(c b:Bool)(x y:Prop):Prop:=(c=b->x)/\(c=!b->y)
def dh(s:Nat->V)(U:ai):RO->Option ai
 |.store sz xa xv=>cQ U sz (xa.ev s) (xv.ev s)
 |_=>none
structure TJ(P:Program) where
 get:FuncId->List V->ai->Option V
 ok:∀f args U v,get f args U=some v->aD P f args U λr Z'=>r=v/\Z'=U
 up:∀f args U Z' v,aa U Z'->get f args U=some v->get f args Z'=some v:=by intros;assumption
def TJ.nothing:TJ P where
 get _ _ _:=none
 ok _ _ _ _ h:=by cases h
def vR(O:TJ P)(s:Nat->V)(U:ai):RO->Option V
 |.call fx xs=>match fx.ev s with
   |.fn f caps=>O.get f (xs.map (·.ev s)++caps) U
   |_=>none
 |_=>none
def wJ(o:Option V)(k:V->Prop)(z:Prop):Prop:=match o with
 |some v=>k v
 |none=>z
def oS{o:Option V}{k:V->Prop}{z:Prop}(h:wJ o k z):(∃v,o=some v/\k v)\/z:=by
 cases o with
 |none=>exact .inr h
 |some v=>exact .inl ⟨v,rfl,h⟩
def wI(q:Nat)(a b c d g:Prop):Prop:=match q with
 |0=>a
 |1=>b
 |2=>c
 |3=>d
 |_=>g
def nu{q:Nat}{a b c d g:Prop}(h:wI q a b c d g):(q=0/\a)\/(q=1/\b)\/(q=2/\c)\/(q=3/\d)\/g:=by
 unfold wI at h;split at h<;>simp_all
def uN(O:TJ P)(q:Nat)(d:Option Nat)(op:RO)(st:St)(k:St->Prop)(z:Prop):Prop:=
 wI q (fg st.s op/\dS (aL st.U st.s op) λv=>k ⟨aX st.s d v,st.U⟩)
  (wJ (vR O st.s st.U op) (λv=>k ⟨aX st.s d v,st.U⟩) z)
  (dS (dh st.s st.U op) λZ'=>k ⟨aX st.s d (.RB []),Z'⟩)
  (dS (SG st.s st.U op) λg=>∀id,st.U id=none->k ⟨aX st.s d (g id).1,(g id).2⟩) z
def step(P:Program)(O:TJ P)(n:Nat):Nat->Td->St->(St->Prop)->Prop
 |0,t,st,Q=>Go P n t st Q
 |f+1,t,st,Q=>match t with
  |.d l k=>match l with
   |[]=>step P O n f (.r k) st Q
   |i::l=>match i.g with
    |none=>uN O (bx i.op) i.dst i.op st (λst=>step P O n f (.d l k) st Q) (Go P n (.d (i::l) k) st Q)
    |some (x,b)=>dW (x.ev st.s) (λc=>both c b
       (uN O (bx i.op) i.dst i.op (st.lit x (.bool b)) (λst=>step P O n f (.d l k) st Q) (Go P n (.d (i::l) k) (st.lit x (.bool b)) Q))
       (step P O n f (.d l k) ⟨aX (st.lit x (.bool !b)).s i.dst (.RB []),(st.lit x (.bool !b)).U⟩ Q))
       (step P O n f (.d l k) ⟨aX st.s i.dst (.RB []),st.U⟩ Q)
  |.r todo=>match todo with
   |[]=>Q st
   |.stop μ::_=>μ st
   |.inBlock _::k=>step P O n f (.r k) st Q
   |.ops []::k=>step P O n f (.r k) st Q
   |.ops (i::l)::k=>match i.g with
    |none=>uN O (bx i.op) i.dst i.op st (λst=>step P O n f (.r (.ops l::k)) st Q) (ad P n (.ops (i::l)::k) st Q)
    |some (x,b)=>dW (x.ev st.s) (λc=>both c b
       (uN O (bx i.op) i.dst i.op (st.lit x (.bool b)) (λst=>step P O n f (.r (.ops l::k)) st Q) (ad P n (.ops (i::l)::k) (st.lit x (.bool b)) Q))
       (step P O n f (.r (.ops l::k)) ⟨aX (st.lit x (.bool !b)).s i.dst (.RB []),(st.lit x (.bool !b)).U⟩ Q))
       (step P O n f (.r (.ops l::k)) ⟨aX st.s i.dst (.RB []),st.U⟩ Q)
   |.code c::k=>match c with
    |.skip=>step P O n f (.r k) st Q
    |.seq a b=>step P O n f (.r (.code a::.code b::k)) st Q
    |.block id a=>step P O n f (.r (.code a::.inBlock id::k)) st Q
    |.exit id=>dS (dY id k) λk'=>step P O n f (.r k') st Q
    |.ret=>Q st
    |.cond c a b=>dW (c.ev st.s) (λt=>both t true (step P O n f (.r (.code a::k)) st Q) (step P O n f (.r (.code b::k)) st Q)) False
    |.Sd draw l=>match draw with
     |false=>step P O n f (.r (.ops l::k)) st Q
     |true=>step P O n f (.d l k) st Q
    |.loop a=>ad P n (.code (.loop a)::k) st Q
    |.cX g ps a b=>ad P n (.code (.cX g ps a b)::k) st Q
    |.SO l RS=>ad P n (.code (.SO l RS)::k) st Q
    |.pH l e=>step P O n f (.d l (.ops e::k)) st Q
    |.bad=>False
def xF{st:St}{x:VX}{v:V}(h:x.ev st.s=v):st.lit x v=st:=by
 cases x with
 |t d=>
  simp only[VX.ev]at h;have:aX st.s (some d) v=st.s:=by
   funext i;simp only[aX];split
   .rename_i e;rw[e,h]
   .rfl
  simp[St.lit,this]
 |c _=>rfl
def ad.cQ{i:aN}{l:List aN}{sz:Nat}{xa xv:VX}(hw:bu st.s i.g=some true)(ho:i.op=.store sz xa xv){Z':ai}
 (h1:Vc.cQ st.U sz (xa.ev st.s) (xv.ev st.s)=some Z')(h:ad P n (.ops l::k) ⟨aX st.s i.dst (.RB []),Z'⟩ Q):ad P n (.ops (i::l)::k) st Q:=by
 unfold Vc.cQ at h1;split at h1
 .rename_i id r0 c e1;split at h1
  .rename_i ob e2;split at h1
   .rename_i r e3;split at h1
    .rename_i r' e4;simp only[Oi]at h1;subst h1;exact ad.store hw ho e1 e2 e3 e4 h
    .cases h1
   .cases h1
  .cases h1
 .cases h1
def ad.SG{i:aN}{l:List aN}(hw:bu st.s i.g=some true){g:Nat->V×ai}(hg:Vc.SG st.s st.U i.op=some g)
 (h:∀id,st.U id=none->ad P n (.ops l::k) ⟨aX st.s i.dst (g id).1,(g id).2⟩ Q):ad P n (.ops (i::l)::k) st Q:=by
 cases RH:i.op<;>rw[RH]at hg<;>simp only[Vc.SG,reduceCtorEq]at hg
 case box e sz xv=>
  split at hg
  .rename_i hc;simp only[Oi]at hg;subst hg;exact ad.box hw RH hc.1 hc.2 h
  .cases hg
 case alloc e sz z=>
  simp only[Oi]at hg;subst hg;exact ad.alloc hw RH h
 case bp e sz xs=>
  split at hg
  .rename_i hc;simp only[Oi]at hg;subst hg;refine ad.bp hw RH (λx hx=>?_) h;have:=List.all_eq_true.1 hc x hx;simpa using this
  .cases hg
 case mk e sz bytes zv x=>
  split at hg
  .rename_i m hm;split at hg
   .rename_i hc;simp only[Oi]at hg;subst hg;exact ad.mkS hw RH hm hc.1 hc.2 h
   .cases hg
  .cases hg
 case Wr e sz bytes zv y x=>
  split at hg
  .rename_i kq m hy hm;split at hg
   .rename_i hc;simp only[Oi]at hg;subst hg;exact ad.Of hw RH hy hm hc.1 hc.2 h
   .cases hg
  .cases hg
 case append e sz bytes xa xb=>
  split at hg
  .rename_i base RN src e1 e2;split at hg
   .rename_i hb;simp only[Oi]at hg;subst hg;exact ad.append hw RH e1 e2 hb h
   .cases hg
  .cases hg
def nP{i:aN}{K:St->Prop}(hw:bu st.s i.g=some true)(h:TO P i.dst i.op st K):T P i st K:=by unfold T;simp only[hw];exact h
def rI{i:aN}{K:St->Prop}(hw:bu st.s i.g=some false)(h:K ⟨aX st.s i.dst (.RB []),st.U⟩):T P i st K:=by unfold T;simp only[hw];exact h
def tm{O:TJ P}{s:Nat->V}{U:ai}{op:RO}{v:V}(h:vR O s U op=some v):
 ∃fx xs f caps,op=.call fx xs/\fx.ev s=.fn f caps/\∀Z1,aa U Z1->aD P f (xs.map (·.ev s)++caps) Z1 λr Z'=>r=v/\Z'=Z1:=by
 unfold vR at h;split at h
 .rename_i fx xs;split at h
  .rename_i f caps hf;exact⟨fx,xs,f,caps,rfl,hf,λZ1 h1=>O.ok _ _ _ _ (O.up _ _ _ _ _ h1 h)⟩
  .cases h
 .cases h
def ad.sq{O:TJ P}{i:aN}{l:List aN}{st:St}(hw:bu st.s i.g=some true){K:St->Prop}(hK:∀st,K st->ad P n (.ops l::k) st Q)
 (h:uN O (bx i.op) i.dst i.op st K (ad P n (.ops (i::l)::k) st Q)):ad P n (.ops (i::l)::k) st Q:=by
 unfold uN at h;rcases nu h with⟨_,h1,h⟩|⟨_,h⟩|⟨_,h⟩|⟨_,h⟩|h
 .obtain⟨v,hv,h⟩:=gE.1 h;exact ad.pure hw h1 hv (hK _ h)
 .rcases oS h with⟨v,hv,h⟩|h
  .obtain⟨fx,xs,f,caps,ho,hf,hc⟩:=tm hv;refine ad.call hw ho hf (hc _ (aa.refl _)) ?_;rintro r Z' ⟨rfl,rfl⟩;exact hK _ h
  .exact h
 .obtain⟨Z',hs,h⟩:=gE.1 h;cases RH:i.op<;>rw[RH]at hs<;>simp only[dh,reduceCtorEq]at hs;exact ad.cQ hw RH hs (hK _ h)
 .obtain⟨g,hgg,h⟩:=gE.1 h;exact ad.SG hw hgg λid M'=>hK _ (h id M')
 .exact h
def Go.sq{O:TJ P}{i:aN}{l:List aN}{st:St}(hw:bu st.s i.g=some true){K:St->Prop}(hK:∀st,K st->Go P n (.d l k) st Q)
 (h:uN O (bx i.op) i.dst i.op st K (Go P n (.d (i::l) k) st Q)):Go P n (.d (i::l) k) st Q:=by
 unfold uN at h;rcases nu h with⟨hk,h1,h⟩|⟨hk,h⟩|⟨_,h⟩|⟨hk,h⟩|h
 .obtain⟨v,hv,h⟩:=gE.1 h;refine nP hw ?_;unfold TO;simp only[hk];exact⟨h1,v,hv,hK _ h⟩
 .rcases oS h with⟨v,hv,h⟩|h
  .obtain⟨fx,xs,f,caps,ho,hf,hc⟩:=tm hv;refine nP hw ?_;rw[ho];exact⟨f,caps,v,hf,hc,hK _ h⟩
  .exact h
 .obtain⟨Z',hs,h⟩:=gE.1 h;refine nP hw ?_;cases RH:i.op<;>rw[RH]at hs<;>simp only[dh,reduceCtorEq]at hs;exact⟨Z',hs,hK _ h⟩
 .obtain⟨g,hgg,h⟩:=gE.1 h;refine nP hw ?_;unfold TO;simp only[hk];exact⟨g,hgg,λid M'=>hK _ (h id M')⟩
 .exact h
def Go.bN(O:TJ P):∀(f:Nat) (t:Td) (st:St),step P O n f t st Q->Go P n t st Q
 |0,_,_,h=>h
 |f+1,.d [] k,st,h=>Go.bN O f (.r k) st h
 |f+1,.d (i::l) k,st,h=>by
  simp only[step]at h;split at h
  .rename_i hg;have hw:bu st.s i.g=some true:=by simp[hg,bu]
   exact Go.sq hw (λst h=>Go.bN O f (.d l k) st h) h
  .rename_i x b hg;rcases lk h with⟨c,hc,h⟩|⟨hc,h⟩|⟨q,m,hc,h⟩
   .by_cases hcb:c=b
    .subst hcb;have h1:=h.1 rfl;have hw:bu st.s i.g=some true:=by simp[hg,bu,hc]
     rw[xF hc]at h1;exact Go.sq hw (λst h=>Go.bN O f (.d l k) st h) h1
    .have Yt:c=!b:=by revert hcb;cases c<;>cases b<;>simp
     have h2:=h.2 Yt;rw[xF (by rw[hc,Yt])]at h2;exact rI (by simp only[hg,bu,hc];rw[Yt];cases b<;>rfl) (Go.bN O f (.d l k) _ h2)
   .exact rI (by simp[hg,bu,hc]) (Go.bN O f (.d l k) _ h)
   .exact rI (by simp[hg,bu,hc]) (Go.bN O f (.d l k) _ h)
 |f+1,.r [],_,h=>ad.nil h
 |f+1,.r (.stop _::_),_,h=>h
 |f+1,.r (.inBlock _::k),st,h=>ad.inBlock (Go.bN O f (.r k) st h).runs
 |f+1,.r (.ops []::k),st,h=>ad.Ct (Go.bN O f (.r k) st h).runs
 |f+1,.r (.ops (i::l)::k),st,h=>by
  simp only[step]at h;split at h
  .rename_i hg;have hw:bu st.s i.g=some true:=by simp[hg,bu]
   exact ad.sq hw (λst h=>(Go.bN O f (.r (.ops l::k)) st h).runs) h
  .rename_i x b hg;rcases lk h with⟨c,hc,h⟩|⟨hc,h⟩|⟨q,m,hc,h⟩
   .by_cases hcb:c=b
    .subst hcb;have h1:=h.1 rfl;have hw:bu st.s i.g=some true:=by simp[hg,bu,hc]
     rw[xF hc]at h1;exact ad.sq hw (λst h=>(Go.bN O f (.r (.ops l::k)) st h).runs) h1
    .have Yt:c=!b:=by revert hcb;cases c<;>cases b<;>simp
     have h2:=h.2 Yt;rw[xF (by rw[hc,Yt])]at h2;exact ad.rJ (by simp only[hg,bu,hc];rw[Yt];cases b<;>rfl) (Go.bN O f (.r (.ops l::k)) _ h2).runs
   .exact ad.rJ (by simp[hg,bu,hc]) (Go.bN O f (.r (.ops l::k)) _ h).runs
   .exact ad.rJ (by simp[hg,bu,hc]) (Go.bN O f (.r (.ops l::k)) _ h).runs
 |f+1,.r (.code c::k),st,h=>by
  cases c with
  |skip=>exact ad.skip (Go.bN O f (.r _) _ h).runs
  |seq a b=>exact ad.seq (Go.bN O f (.r _) _ h).runs
  |block id a=>exact ad.block (Go.bN O f (.r _) _ h).runs
  |exit id=>
   simp only[step]at h;obtain⟨k',Tl,h⟩:=gE.1 h;exact ad.exit Tl (Go.bN O f (.r _) _ h).runs
  |ret=>exact ad.ret h
  |cond c a b=>
   simp only[step]at h;rcases lk h with⟨t,ht,h⟩|⟨_,h⟩|⟨_,_,_,h⟩
   .exact ad.cond ht (λe=>(Go.bN O f (.r _) _ (h.1 e)).runs) (λe=>(Go.bN O f (.r _) _ (h.2 (by rw[e];rfl))).runs)
   .exact h.elim
   .exact h.elim
  |Sd draw l=>
   cases draw
   .exact ad.region (Go.bN O f (.r _) _ h).runs
   .exact ad.B3 (Go.bN O f (.d l k) _ h).chain
  |loop a=>exact h
  |cX g ps a b=>exact h
  |SO l RS=>exact h
  |pH l e=>exact ad.pH (Go.bN O f (.d l (.ops e::k)) _ h).chain
  |bad=>exact h.elim
def ad.bN(O:TJ P)(f:Nat){todo:List It}{st:St}(h:step P O n f (.r todo) st Q):ad P n todo st Q:=(Go.bN O f (.r todo) st h).runs
section rules
variable (P:Program) (O:TJ P) (n:Nat) (f:Nat)
def exR(o:Option (List It))(st:St)(Q:St->Prop):Prop:=dS o λk'=>step P O n f (.r k') st Q
def cR(v:V)(a b:bJ)(k:List It)(st:St)(Q:St->Prop):Prop:=dW v (λt=>both t true (step P O n f (.r (.code a::k)) st Q) (step P O n f (.r (.code b::k)) st Q)) False
def I3(l:List aN)(k:List It)(d:Option Nat)(st:St)(Q:St->Prop)(o:Option V):Prop:=dS o λv=>step P O n f (.r (.ops l::k)) ⟨aX st.s d v,st.U⟩ Q
def GK(l:List aN)(k:List It)(d:Option Nat)(st:St)(Q:St->Prop)(o:Option ai):Prop:=dS o λZ'=>step P O n f (.r (.ops l::k)) ⟨aX st.s d (.RB []),Z'⟩ Q
def HT(l:List aN)(k:List It)(d:Option Nat)(st:St)(Q:St->Prop)(o:Option (Nat->V×ai)):Prop:=
 dS o λg=>∀id,st.U id=none->step P O n f (.r (.ops l::k)) ⟨aX st.s d (g id).1,(g id).2⟩ Q
def FR(l:List aN)(k:List It)(d:Option Nat)(op:RO)(g:Option (VX×Bool))(st:St)(Q:St->Prop)(o:Option V):Prop:=
 wJ o (λv=>step P O n f (.r (.ops l::k)) ⟨aX st.s d v,st.U⟩ Q) (ad P n (.ops (⟨d,op,g⟩::l)::k) st Q)
def ua(q:Nat)(d:Option Nat)(op:RO)(g:Option (VX×Bool))(l:List aN)(k:List It)(st:St)(Q:St->Prop):Prop:=
 uN O q d op st (λst=>step P O n f (.r (.ops l::k)) st Q) (ad P n (.ops (⟨d,op,g⟩::l)::k) st Q)
def gR(v:V)(d:Option Nat)(op:RO)(x:VX)(b:Bool)(l:List aN)(k:List It)(st:St)(Q:St->Prop):Prop:=
 dW v (λc=>both c b (ua P O n f (bx op) d op (some (x,b)) l k (st.lit x (.bool b)) Q)
  (step P O n f (.r (.ops l::k)) ⟨aX (st.lit x (.bool !b)).s d (.RB []),(st.lit x (.bool !b)).U⟩ Q)) (step P O n f (.r (.ops l::k)) ⟨aX st.s d (.RB []),st.U⟩ Q)
def Jd(l:List aN)(k:List It)(d:Option Nat)(st:St)(Q:St->Prop)(o:Option V):Prop:=dS o λv=>step P O n f (.d l k) ⟨aX st.s d v,st.U⟩ Q
def Ft(l:List aN)(k:List It)(d:Option Nat)(st:St)(Q:St->Prop)(o:Option ai):Prop:=dS o λZ'=>step P O n f (.d l k) ⟨aX st.s d (.RB []),Z'⟩ Q
def Gu(l:List aN)(k:List It)(d:Option Nat)(st:St)(Q:St->Prop)(o:Option (Nat->V×ai)):Prop:=
 dS o λg=>∀id,st.U id=none->step P O n f (.d l k) ⟨aX st.s d (g id).1,(g id).2⟩ Q
def Ef(l:List aN)(k:List It)(d:Option Nat)(op:RO)(g:Option (VX×Bool))(st:St)(Q:St->Prop)(o:Option V):Prop:=
 wJ o (λv=>step P O n f (.d l k) ⟨aX st.s d v,st.U⟩ Q) (Go P n (.d (⟨d,op,g⟩::l) k) st Q)
def uG(q:Nat)(d:Option Nat)(op:RO)(g:Option (VX×Bool))(l:List aN)(k:List It)(st:St)(Q:St->Prop):Prop:=
 uN O q d op st (λst=>step P O n f (.d l k) st Q) (Go P n (.d (⟨d,op,g⟩::l) k) st Q)
def gD(v:V)(d:Option Nat)(op:RO)(x:VX)(b:Bool)(l:List aN)(k:List It)(st:St)(Q:St->Prop):Prop:=
 dW v (λc=>both c b (uG P O n f (bx op) d op (some (x,b)) l k (st.lit x (.bool b)) Q)
  (step P O n f (.d l k) ⟨aX (st.lit x (.bool !b)).s d (.RB []),(st.lit x (.bool !b)).U⟩ Q)) (step P O n f (.d l k) ⟨aX st.s d (.RB []),st.U⟩ Q)
variable {P O n} {f}
def vd(s:Nat->V)(d:Nat)(v:V)(i:Nat):aX s (some d) v i=if i=d then v else s i:=rfl
def vH(s:Nat->V)(v:V)(i:Nat):aX s none v i=s i:=rfl
def IV(st:St)(d:Nat)(v:V):st.lit (.t d) v=⟨aX st.s (some d) v,st.U⟩:=rfl
def IZ(st:St)(u v:V):st.lit (.c u) v=st:=rfl
def Oc(s:Nat->V)(d:Nat):VX.ev s (.t d)=s d:=rfl
def N9(s:Nat->V)(v:V):VX.ev s (.c v)=v:=rfl
def GB(d:Option Nat)(op:RO)(g:Option (VX×Bool))(l:List aN):ua P O n f 0 d op g l k st Q=(fg st.s op/\I3 P O n f l k d st Q (aL st.U st.s op)):=rfl
def Gv(d:Option Nat)(op:RO)(g:Option (VX×Bool))(l:List aN):ua P O n f 1 d op g l k st Q=FR P O n f l k d op g st Q (vR O st.s st.U op):=rfl
def Gg(d:Option Nat)(op:RO)(g:Option (VX×Bool))(l:List aN):ua P O n f 2 d op g l k st Q=GK P O n f l k d st Q (dh st.s st.U op):=rfl
def Gm(d:Option Nat)(op:RO)(g:Option (VX×Bool))(l:List aN):ua P O n f 3 d op g l k st Q=HT P O n f l k d st Q (SG st.s st.U op):=rfl
def FZ(d:Option Nat)(op:RO)(g:Option (VX×Bool))(l:List aN):ua P O n f 4 d op g l k st Q=ad P n (.ops (⟨d,op,g⟩::l)::k) st Q:=rfl
def ui(d:Option Nat)(op:RO)(g:Option (VX×Bool))(l:List aN)(v:V):FR P O n f l k d op g st Q (some v)=step P O n f (.r (.ops l::k)) ⟨aX st.s d v,st.U⟩ Q:=rfl
def tC(d:Option Nat)(op:RO)(g:Option (VX×Bool))(l:List aN):FR P O n f l k d op g st Q none=ad P n (.ops (⟨d,op,g⟩::l)::k) st Q:=rfl
def x8(s:Nat->V)(U:ai)(fx:VX)(xs:List VX):vR O s U (.call fx xs)=match fx.ev s with
 |.fn f caps=>O.get f (xs.map (·.ev s)++caps) U
 |_=>none:=rfl
def Gy(d:Option Nat)(op:RO)(g:Option (VX×Bool))(l:List aN):uG P O n f 0 d op g l k st Q=(fg st.s op/\Jd P O n f l k d st Q (aL st.U st.s op)):=rfl
def F4(d:Option Nat)(op:RO)(g:Option (VX×Bool))(l:List aN):uG P O n f 1 d op g l k st Q=Ef P O n f l k d op g st Q (vR O st.s st.U op):=rfl
def GH(d:Option Nat)(op:RO)(g:Option (VX×Bool))(l:List aN):uG P O n f 2 d op g l k st Q=Ft P O n f l k d st Q (dh st.s st.U op):=rfl
def FG(d:Option Nat)(op:RO)(g:Option (VX×Bool))(l:List aN):uG P O n f 3 d op g l k st Q=Gu P O n f l k d st Q (SG st.s st.U op):=rfl
def tD(d:Option Nat)(op:RO)(g:Option (VX×Bool))(l:List aN)(v:V):Ef P O n f l k d op g st Q (some v)=step P O n f (.d l k) ⟨aX st.s d v,st.U⟩ Q:=rfl
def th(d:Option Nat)(op:RO)(g:Option (VX×Bool))(l:List aN):Ef P O n f l k d op g st Q none=Go P n (.d (⟨d,op,g⟩::l) k) st Q:=rfl
def BQ:step P O n (f+1) (.r []) st Q=Q st:=rfl
def ux(μ:St->Prop):step P O n (f+1) (.r (.stop μ::k)) st Q=μ st:=rfl
def rh(id:Nat):step P O n (f+1) (.r (.inBlock id::k)) st Q=step P O n f (.r k) st Q:=rfl
def qK:step P O n (f+1) (.r (.ops []::k)) st Q=step P O n f (.r k) st Q:=rfl
def yQ:step P O n (f+1) (.r (.code .skip::k)) st Q=step P O n f (.r k) st Q:=rfl
def BM(a b:bJ):step P O n (f+1) (.r (.code (.seq a b)::k)) st Q=step P O n f (.r (.code a::.code b::k)) st Q:=rfl
def u9(id:Nat)(a:bJ):step P O n (f+1) (.r (.code (.block id a)::k)) st Q=step P O n f (.r (.code a::.inBlock id::k)) st Q:=rfl
def zf(id:Nat):step P O n (f+1) (.r (.code (.exit id)::k)) st Q=exR P O n f (dY id k) st Q:=rfl
def zE(k':List It):exR P O n f (some k') st Q=step P O n f (.r k') st Q:=rfl
def BV:step P O n (f+1) (.r (.code .ret::k)) st Q=Q st:=rfl
def zC(a:bJ):step P O n (f+1) (.r (.code (.loop a)::k)) st Q=ad P n (.code (.loop a)::k) st Q:=rfl
def yP(l e:List aN):step P O n (f+1) (.r (.code (.pH l e)::k)) st Q=step P O n f (.d l (.ops e::k)) st Q:=rfl
def di(l:List aN)(RS:List (List Nat)):step P O n (f+1) (.r (.code (.SO l RS)::k)) st Q=ad P n (.code (.SO l RS)::k) st Q:=rfl
def sT(g:VX)(ps:List Nat)(a b:bJ):step P O n (f+1) (.r (.code (.cX g ps a b)::k)) st Q=ad P n (.code (.cX g ps a b)::k) st Q:=rfl
def CD(l:List aN):step P O n (f+1) (.r (.code (.Sd false l)::k)) st Q=step P O n f (.r (.ops l::k)) st Q:=rfl
def Ax(l:List aN):step P O n (f+1) (.r (.code (.Sd true l)::k)) st Q=step P O n f (.d l k) st Q:=rfl
def CM:step P O n (f+1) (.d [] k) st Q=step P O n f (.r k) st Q:=rfl
def AA(c:VX)(a b:bJ):step P O n (f+1) (.r (.code (.cond c a b)::k)) st Q=cR P O n f (c.ev st.s) a b k st Q:=rfl
def NX(a b:bJ):cR P O n f (.bool true) a b k st Q=step P O n f (.r (.code a::k)) st Q:=by simp[cR,dW,both]
def Nt(a b:bJ):cR P O n f (.bool false) a b k st Q=step P O n f (.r (.code b::k)) st Q:=by simp[cR,dW,both]
def Fm(p:Prop)[Decidable p](a b:bJ):cR P O n f (.bool (decide p)) a b k st Q=((p->step P O n f (.r (.code a::k)) st Q)/\(¬p->step P O n f (.r (.code b::k)) st Q)):=by simp[cR,dW,both]
def CF(d:Option Nat)(op:RO)(l:List aN):step P O n (f+1) (.r (.ops (⟨d,op,none⟩::l)::k)) st Q=ua P O n f (bx op) d op none l k st Q:=rfl
def ur(d:Option Nat)(l:List aN)(v:V):I3 P O n f l k d st Q (some v)=step P O n f (.r (.ops l::k)) ⟨aX st.s d v,st.U⟩ Q:=rfl
def qs(d:Option Nat)(l:List aN)(Z':ai):GK P O n f l k d st Q (some Z')=step P O n f (.r (.ops l::k)) ⟨aX st.s d (.RB []),Z'⟩ Q:=rfl
def aO(d:Option Nat)(l:List aN)(g:Nat->V×ai):HT P O n f l k d st Q (some g)=∀id,st.U id=none->step P O n f (.r (.ops l::k)) ⟨aX st.s d (g id).1,(g id).2⟩ Q:=rfl
def Cr(d:Option Nat)(op:RO)(l:List aN):step P O n (f+1) (.d (⟨d,op,none⟩::l) k) st Q=uG P O n f (bx op) d op none l k st Q:=rfl
def sZ(d:Option Nat)(l:List aN)(v:V):Jd P O n f l k d st Q (some v)=step P O n f (.d l k) ⟨aX st.s d v,st.U⟩ Q:=rfl
def qh(d:Option Nat)(l:List aN)(Z':ai):Ft P O n f l k d st Q (some Z')=step P O n f (.d l k) ⟨aX st.s d (.RB []),Z'⟩ Q:=rfl
def aP(d:Option Nat)(l:List aN)(g:Nat->V×ai):Gu P O n f l k d st Q (some g)=∀id,st.U id=none->step P O n f (.d l k) ⟨aX st.s d (g id).1,(g id).2⟩ Q:=rfl
def Ad(d:Option Nat)(op:RO)(x:VX)(b:Bool)(l:List aN):step P O n (f+1) (.r (.ops (⟨d,op,some (x,b)⟩::l)::k)) st Q=gR P O n f (x.ev st.s) d op x b l k st Q:=rfl
def GJ(d:Option Nat)(op:RO)(x:VX)(b:Bool)(l:List aN):gR P O n f (.RB []) d op x b l k st Q=step P O n f (.r (.ops l::k)) ⟨aX st.s d (.RB []),st.U⟩ Q:=rfl
def I5(d:Option Nat)(op:RO)(x:VX)(l:List aN):gR P O n f (.bool true) d op x true l k st Q=ua P O n f (bx op) d op (some (x,true)) l k (st.lit x (.bool true)) Q:=by simp[gR,dW,both]
def IM(d:Option Nat)(op:RO)(x:VX)(l:List aN):gR P O n f (.bool false) d op x false l k st Q=ua P O n f (bx op) d op (some (x,false)) l k (st.lit x (.bool false)) Q:=by simp[gR,dW,both]
def IX(d:Option Nat)(op:RO)(x:VX)(l:List aN):gR P O n f (.bool true) d op x false l k st Q=step P O n f (.r (.ops l::k)) ⟨aX (st.lit x (.bool true)).s d (.RB []),(st.lit x (.bool true)).U⟩ Q:=by simp[gR,dW,both]
def I0(d:Option Nat)(op:RO)(x:VX)(l:List aN):gR P O n f (.bool false) d op x true l k st Q=step P O n f (.r (.ops l::k)) ⟨aX (st.lit x (.bool false)).s d (.RB []),(st.lit x (.bool false)).U⟩ Q:=by simp[gR,dW,both]
def x6(p:Prop)[Decidable p](d:Option Nat)(op:RO)(x:VX)(l:List aN):gR P O n f (.bool (decide p)) d op x true l k st Q=
 ((p->ua P O n f (bx op) d op (some (x,true)) l k (st.lit x (.bool true)) Q)/\(¬p->step P O n f (.r (.ops l::k)) ⟨aX (st.lit x (.bool false)).s d (.RB []),(st.lit x (.bool false)).U⟩ Q)):=by simp[gR,dW,both]
def zJ(p:Prop)[Decidable p](d:Option Nat)(op:RO)(x:VX)(l:List aN):gR P O n f (.bool (decide p)) d op x false l k st Q=
 ((¬p->ua P O n f (bx op) d op (some (x,false)) l k (st.lit x (.bool false)) Q)/\(p->step P O n f (.r (.ops l::k)) ⟨aX (st.lit x (.bool true)).s d (.RB []),(st.lit x (.bool true)).U⟩ Q)):=by simp[gR,dW,both]
def zZ(d:Option Nat)(op:RO)(x:VX)(b:Bool)(l:List aN):step P O n (f+1) (.d (⟨d,op,some (x,b)⟩::l) k) st Q=gD P O n f (x.ev st.s) d op x b l k st Q:=rfl
def Eu(d:Option Nat)(op:RO)(x:VX)(b:Bool)(l:List aN):gD P O n f (.RB []) d op x b l k st Q=step P O n f (.d l k) ⟨aX st.s d (.RB []),st.U⟩ Q:=rfl
def Ja(d:Option Nat)(op:RO)(x:VX)(l:List aN):gD P O n f (.bool true) d op x true l k st Q=uG P O n f (bx op) d op (some (x,true)) l k (st.lit x (.bool true)) Q:=by simp[gD,dW,both]
def I1(d:Option Nat)(op:RO)(x:VX)(l:List aN):gD P O n f (.bool false) d op x false l k st Q=uG P O n f (bx op) d op (some (x,false)) l k (st.lit x (.bool false)) Q:=by simp[gD,dW,both]
def IN(d:Option Nat)(op:RO)(x:VX)(l:List aN):gD P O n f (.bool true) d op x false l k st Q=step P O n f (.d l k) ⟨aX (st.lit x (.bool true)).s d (.RB []),(st.lit x (.bool true)).U⟩ Q:=by simp[gD,dW,both]
def IK(d:Option Nat)(op:RO)(x:VX)(l:List aN):gD P O n f (.bool false) d op x true l k st Q=step P O n f (.d l k) ⟨aX (st.lit x (.bool false)).s d (.RB []),(st.lit x (.bool false)).U⟩ Q:=by simp[gD,dW,both]
def zg(p:Prop)[Decidable p](d:Option Nat)(op:RO)(x:VX)(l:List aN):gD P O n f (.bool (decide p)) d op x true l k st Q=
 ((p->uG P O n f (bx op) d op (some (x,true)) l k (st.lit x (.bool true)) Q)/\(¬p->step P O n f (.d l k) ⟨aX (st.lit x (.bool false)).s d (.RB []),(st.lit x (.bool false)).U⟩ Q)):=by simp[gD,dW,both]
def yC(p:Prop)[Decidable p](d:Option Nat)(op:RO)(x:VX)(l:List aN):gD P O n f (.bool (decide p)) d op x false l k st Q=
 ((¬p->uG P O n f (bx op) d op (some (x,false)) l k (st.lit x (.bool false)) Q)/\(p->step P O n f (.d l k) ⟨aX (st.lit x (.bool true)).s d (.RB []),(st.lit x (.bool true)).U⟩ Q)):=by simp[gD,dW,both]
end rules
def aV(P:Program)(f:FuncId)(args:List V)(v:V):Prop:=∀U,aD P f args U λr Z'=>r=v/\Z'=U
variable {P:Program} {n:Nat} {st:St} {Q:St->Prop} {k:List It}
def jV:ai:=λ_=>none
def oV(U:ai):aa jV U:=λ_ _ h=>by simp[jV]at h
def V.lone:V->Bool
 |.int ..|.bool _|.str _=>true
 |_=>false
def E'.lone{I Y':Mu}{ow T9:Nat->Prop}{w w':World}{v:V}{x:Value}(hv:v.lone=true)(h:E' I ow w v x):E' Y' T9 w' v x:=by
 cases v<;>simp only[V.lone,Bool.false_eq_true]at hv<;>simpa[E']using h
def ay(v:V)(U:ai)(Post:V->ai->Prop):Prop:=∃v' Z',aa Z' U/\Wk U Z' v v'/\Post v' Z'
def Cc{s:Nat->V}{U:ai}{d:Nat}{Post:V->ai->Prop}:VL [.tmp (.t d)] ⟨s,U⟩ Post=ay (s d) U Post:=by
 apply propext;simp only[VL,ay,mW,eV,gJ,VX.ev];constructor
 .rintro⟨v,v',Z',h1,h2⟩;simp only[Oi]at h1;subst h1;exact⟨v',Z',h2⟩
 .rintro⟨v',Z',h2⟩;exact⟨_,v',Z',rfl,h2⟩
def B9{s:Nat->V}{U:ai}{d e:Nat}{Post:V->ai->Prop}:VL [.tmp (.t d),.tmp (.t e)] ⟨s,U⟩ Post=ay (.RB [s d,s e]) U Post:=by
 apply propext;simp only[VL,ay,mW,eV,gJ,VX.ev];constructor
 .rintro⟨v,v',Z',h1,h2⟩;simp only[Oi]at h1;subst h1;exact⟨v',Z',h2⟩
 .rintro⟨v',Z',h2⟩;exact⟨_,v',Z',rfl,h2⟩
def wo{s:Nat->V}{U:ai}{d e g:Nat}{Post:V->ai->Prop}:VL [.tmp (.t d),.tmp (.t e),.tmp (.t g)] ⟨s,U⟩ Post=ay (.RB [s d,s e,s g]) U Post:=by
 apply propext;simp only[VL,ay,mW,eV,gJ,VX.ev];constructor
 .rintro⟨v,v',Z',h1,h2⟩;simp only[Oi]at h1;subst h1;exact⟨v',Z',h2⟩
 .rintro⟨v',Z',h2⟩;exact⟨_,v',Z',rfl,h2⟩
def Aj{st:St}{Post:V->ai->Prop}:VL [] st Post=ay (.RB []) st.U Post:=by
 apply propext;simp only[VL,ay,mW,eV];constructor
 .rintro⟨v,v',Z',h1,h2⟩;simp only[Oi]at h1;subst h1;exact⟨v',Z',h2⟩
 .rintro⟨v',Z',h2⟩;exact⟨_,v',Z',rfl,h2⟩
def ay.pure{v v0:V}{U Z1:ai}(h:aa U Z1)(hv:v=v0):ay v Z1 λr Z'=>r=v0/\Z'=U:=
 ⟨v,U,h,Wk.refl h v,hv,rfl⟩
def ay.same{v v0:V}{U:ai}(hv:v=v0):ay v U λr Z'=>r=v0/\Z'=U:=.pure (aa.refl U) hv
def fT{U:ai}{id i:Nat}{o:Ob}:C' U id o i=none↔i≠id/\U i=none:=by
 unfold C';split<;>simp_all
def ag{U:ai}{id:Nat}{o:Ob}:C' U id o id=some o:=by simp[C']
def ab{U:ai}{id i:Nat}{o:Ob}(h:i≠id):C' U id o i=U i:=by simp[C',h]
def dK{U:ai}{id i:Nat}(h:i≠id):del U id i=U i:=by simp[del,h]
def Cj{U:ai}{id:Nat}{a b:Ob}:C' (C' U id a) id b=C' U id b:=by
 funext i;simp only[C'];split<;>rfl
def Cx{U:ai}{id:Nat}{a:Ob}(h:U id=none):del (C' U id a) id=U:=by
 funext i;simp only[del,C'];split
 .rename_i e;rw[e,h]
 .rfl
def aa.C'{Z' U:ai}{id:Nat}{o:Ob}(h:aa Z' U)(M':U id=none):aa Z' (Vc.C' U id o):=
 h.GV (by
  cases hs:Z' id with
  |none=>rfl
  |some x=>have:=h id x hs;rw[M']at this;cases this)
def aa.K8{U Z':ai}{id:Nat}{o:Ob}(h:aa U Z'):aa (Vc.C' U id o) (Vc.C' Z' id o):=λi x hx=>by
 simp only[Vc.C']at hx|-;split at hx
 .rename_i e;rw[if_pos e];exact hx
 .rename_i e;rw[if_neg e];exact h i x hx
variable {P:Program} {n:Nat} {st:St} {Q:St->Prop} {k:List It} {I:Mu} {w:World}
def vU{rows:List V}{sz:Nat}(h:∀r∈rows,r.cells.length=sz)(k:Nat):flat (rows.drop k)=(flat rows).drop (k*sz):=by
 induction rows generalizing k with
 |nil=>simp[flat]
 |cons r rs ih=>
  have e:∀l,flat (r::l)=r.cells++flat l:=λl=>by simp[flat]
  cases k with
  |zero=>simp[flat]
  |succ k=>
   rw[List.drop_succ_cons,e,ih (λx hx=>h x (by simp[hx])),Nat.add_mul,Nat.one_mul,Nat.add_comm,<-h r (by simp),<-List.drop_drop,List.drop_left]
def aA.replicate{ow:Nat->Prop}{vs:List V}{l:List Value}(h:aA I ow w vs l):∀n,aA I ow w (List.replicate n vs).flatten (List.replicate n l).flatten
 |0=>by simp[aA]
 |n+1=>by
  simp only[List.replicate_succ,List.flatten_cons];exact h.append (aA.replicate h n)
def yJ{F:Fr}{a:Act}(hs:dq F I st a w){o:Oper}{x:Operand}{t e:TypeId}{args:Array Operand}{argTypes:Array TypeId}{i:TypeInfo}{z:Value}
 (Wv:o.op=.call { callee:=.builtin .clear,args:=args,argTypes:=argTypes })(harg:args=#[x])(W1:argTypes[0]?=some t)
 (ht:P.underlying t=some (.slice e))(hz:zeroOf P e=some (i,z)){id off len:Nat}(h1:(cx F.n x).ev st.s=.own id off len){ob:Ob}(h2:st.U id=some ob)
 (h3:ob.sz=i.size)(h4:off+len<=ob.rows.length):
 ∃y w',(execOp a.eval o).run P w=.ok (.value y) w'/\
  dq F I ⟨aX st.s (o.dst.filter (·<F.n)) (.RB []),C' st.U id { ob with rows:=ob.rows.take off++List.replicate len (ofValue z)++ob.rows.drop (off+len) }⟩ (a.put o.dst y) w':=by
 obtain⟨hi,ZO,hk,Xf,SZ,TF⟩:=eL hz;have R:=cM hs;have hx:=R x;rw[h1]at hx;simp only[E']at hx;have Sf:∀w',(Builtin.clear_ argTypes o.type #[a.eval x]).run P w=.ok (.tuple #[]) w'->(execOp a.eval o).run P w=.ok (.value (.tuple #[])) w':=by
  intro w' Yo;unfold execOp;rw[Wv];simp[resolve,invoke,Go.builtin,harg,Yo]
 have UL:E' I (aG I st.U) w (.RB []) (.tuple #[]):=by simp only[E'];exact⟨[],rfl,by simp[aA]⟩
 have hzero:len=0->∃y w',(execOp a.eval o).run P w=.ok (.value y) w'/\
  dq F I ⟨aX st.s (o.dst.filter (·<F.n)) (.RB []),C' st.U id { ob with rows:=ob.rows.take off++List.replicate len (ofValue z)++ob.rows.drop (off+len) }⟩ (a.put o.dst y) w':=by
  intro h0;subst h0;have hX:∃b c,a.eval x=.slice b 0 c:=by
   split at hx
   .exact hx.elim
   .exact⟨_,_,hx.1⟩
   .obtain⟨o',c,h,_⟩:=hx;exact⟨_,_,h⟩
  obtain⟨b,c,hX⟩:=hX;have RV:C' st.U id { ob with rows:=ob.rows.take off++List.replicate 0 (ofValue z)++ob.rows.drop (off+0) }=st.U:=by
   funext j;simp only[C',List.replicate_zero,List.append_nil,Nat.add_zero,List.take_append_drop];split
   .rename_i e';rw[e',h2]
   .rfl
  rw[RV];refine⟨.tuple #[],w,Sf w ?_,hs.pure UL⟩;rw[hX];cases b<;>simp[Builtin.clear_,W1,run_underlying ht]
 split at hx
 .exact hx.elim
 .exact hzero hx.2.2
 .rename_i b Va cap M';obtain⟨o',c,hX,c1,c2,c3,ZO⟩:=hx;by_cases h0:len=0
  .exact hzero h0
  have Sw:=hs.sat.obj id ob h2;rw[M']at Sw;obtain⟨cur,e1,e2,e3,e4,e5,e6,e7⟩:=Sw.plain ZO;obtain⟨g1,xs,g2,g3,g4,g5⟩:=e7.cur e1;have hoff:o'=off*Va:=by
   rcases c3 with c3|c3
   .exact c3
   .omega
  subst hoff;have RP:Va=i.size:=by omega
  subst RP;have hzl:z.cells.size=i.size:=Xf;have hnews:=jI z.cells len;have Vb:(Builtin.zeroCells z.cells len).toList.length=len*i.size:=by rw[hnews];simp[hzl]
  have hbound:off*i.size+len*i.size<=ob.rows.length*i.size:=by rw[<-Nat.add_mul];exact Nat.mul_le_mul_right _ h4
  have YR:ob.rows.length*i.size<=cap*i.size:=Nat.mul_le_mul_right _ e5;have hone':∀u∈(Builtin.zeroCells z.cells len).toList,u.oneCell'=true:=by
   rw[hnews];intro u hu;simp only[List.mem_flatten,List.mem_replicate]at hu;obtain⟨l,⟨_,rfl⟩,hu⟩:=hu;exact SZ u hu
  have RV:=run_storeCells_at P b (off*i.size) ob.elem (Builtin.zeroCells z.cells len).toList 0 cur w e1 (by rw[Vb];omega) hone';simp only[Nat.add_zero]at RV;refine⟨.tuple #[],w.setRow b (cur.toList.take (off*i.size)++(Builtin.zeroCells z.cells len).toList++cur.toList.drop (off*i.size+(Builtin.zeroCells z.cells len).toList.length)).toArray,Sf _ ?_,?_⟩
  .rw[hX];obtain⟨m,rfl⟩:∃m,len=m+1:=⟨len-1,by omega⟩
   simp only[Builtin.clear_,W1,Sem.run_bind,List.getElem?_toArray,Sem.run_pure,Result.andThen_ok,run_underlying ht,eK hz];simp[RV,run_underlying ht,eK hz]
  .have Xx:w.grownBy (w.setRow b (cur.toList.take (off*i.size)++(Builtin.zeroCells z.cells len).toList++cur.toList.drop (off*i.size+(Builtin.zeroCells z.cells len).toList.length)).toArray) (some b):=
    ⟨rfl,rfl,rfl,by simp,λkk _ Vz=>setRow_other w b kk _ (λe=>Vz (by rw[e]))⟩
   have hzc:(ofValue z).cells.length=i.size:=by rw[gw SZ];simp[hzl]
   have V2:∀q∈ob.rows.take off++List.replicate len (ofValue z)++ob.rows.drop (off+len),q.cells.length=i.size:=by
    intro q hq;simp only[List.mem_append]at hq;rcases hq with(hq|hq)|hq
    .exact g1 q (List.mem_of_mem_take hq)
    .rw[(List.mem_replicate.1 hq).2];exact hzc
    .exact g1 q (List.mem_of_mem_drop hq)
   have V0:flat (ob.rows.take off++List.replicate len (ofValue z)++ob.rows.drop (off+len))=
    (flat ob.rows).take (off*i.size)++(List.replicate len (ofValue z).cells).flatten++(flat ob.rows).drop (off*i.size+len*i.size):=by
    rw[gO,gO,sV,pd g1];congr 1;rw[vU g1,Nat.add_mul]
   have hzr:aA I (aG I st.U) w (ofValue z).cells z.cells.toList:=by rw[gw SZ];exact eZ _
   have hch:=hs.sat.change h2 M' (by omega) Xx _ (ob.rows.take off++List.replicate len (ofValue z)++ob.rows.drop (off+len)) (xs.take (off*i.size)++(Builtin.zeroCells z.cells len).toList++xs.drop (off*i.size+(Builtin.zeroCells z.cells len).toList.length))
    (setRow_heap w b cur _ ob.elem _ e1) (by simp only[List.size_toArray,List.length_append,List.length_take,List.length_drop,Vb];rw[Array.length_toList];omega) (by simp;omega) V2
    (by rw[V0,Vb,hnews];exact((g2.take _).append (hzr.replicate len)).append (g2.drop _))
    (by intro u hu
        simp only[List.mem_append]at hu;rcases hu with(hu|hu)|hu
        .exact g3 u (List.mem_of_mem_take hu)
        .exact hone' u hu
        .exact g3 u (List.mem_of_mem_drop hu))
    (by intro j u hu
        have:=kr cur.toList xs _ g5 (off*i.size) (by rw[Vb,g4];omega) j u hu;simpa using this)
   exact hs.step hch.1 (df.refl _) hch.2 (by simp) (by simp only[E'];exact⟨[],rfl,by simp[aA]⟩)
def ad.clear{i:aN}{l:List aN}{sz:Nat}{z:V}{xv:VX}(hw:bu st.s i.g=some true)(ho:i.op=.clear sz z xv)
 {id off len:Nat}(h1:xv.ev st.s=.own id off len){ob:Ob}(h2:st.U id=some ob)(h3:ob.sz=sz)(h4:off+len<=ob.rows.length)
 (h:ad P n (.ops l::k) ⟨aX st.s i.dst (.RB []),C' st.U id { ob with rows:=ob.rows.take off++List.replicate len z++ob.rows.drop (off+len) }⟩ Q):ad P n (.ops (i::l)::k) st Q:=by
 refine ad.ins (by rw[ho];simp) hw λF hn I a w o all hi hs next Q' RL=>?_
 subst hn;obtain⟨RH,hd⟩:=eF hi;rw[ho]at RH;obtain⟨x,t,e,args,argTypes,ti,zv,g1,g2,g3,g4,g5,rfl,rfl,rfl⟩:=Db RH;obtain⟨y,w',hx,RP⟩:=yJ hs g1 g2 g3 g4 g5 h1 h2 h3 h4;unfold Oper.wp;rw[hx];refine RL _ _ _ ⟨I,?_⟩ h;rw[<-hd];exact RP
def FP{y:Operand}{t:TypeId}{v:V}:cx n y≠.c (.iface t v):=by
 cases y
 case tmp m=>simp only[cx];split<;>simp
 case const u=>
  simp only[cx,ne_eq,VX.c.injEq];unfold ofValue;split
  .split<;>simp
  .unfold cellOf
   repeat' split
   all_goals simp
 all_goals simp[cx]
def yL{o:Op}{xa:VX}(h:R0 P n o=.Ts false xa (.c (.iface 0 .undef))):∃t x y m c yt e,o=.binOp .eql t x y yt/\y=.const (.slice none m c)/\P.underlying t=some (.slice e)/\cx n x=xa:=by
 cases o
 case binOp op t x y yt=>
  simp only[R0]at h;split at h
  .cases op<;>simp only[reduceCtorEq,RO.Ts.injEq,Bool.true_eq_false,false_and]at h;exact absurd h.2.2 FP
  .split at h
   .cases op<;>simp only[reduceCtorEq]at h
   .cases h
  .split at h
   .rename_i hs;unfold cN at h;split at h
    .rename_i hy;obtain⟨rfl,hy⟩:=hy;simp only[RO.Ts.injEq,and_true,true_and]at h;unfold xJ at hs;split at hs
     .rename_i e ht;unfold C9 Ok at hy;split at hy
      .split at hy
       .exact⟨t,x,_,_,_,yt,e,rfl,rfl,ht,h⟩
       .cases hy
      .cases hy
     .cases hs
    .cases h
   .split at h
    .split at h
     .simp only[RO.Ts.injEq,VX.c.injEq,V.iface.injEq]at h;exact absurd h.2.2.1 (by decide)
     .cases h
    .split at h
     .split at h
      .simp only[RO.Ts.injEq,VX.c.injEq,V.iface.injEq]at h;exact absurd h.2.2.1 (by decide)
      .cases h
     ·(repeat' split at h)<;>cases h
 case call c=>
  obtain⟨callee,args,argTypes⟩:=c;cases callee
  case builtin b=>cases b<;>simp only[R0]at h<;>(repeat' split at h)<;>cases h
  all_goals (simp only[R0]at h;cases h)
 case unOp op t x=>cases op<;>simp only[R0]at h<;>cases h
 case makeFunc f a b=>cases f<;>simp only[R0]at h<;>(repeat' split at h)<;>cases h
 all_goals (simp only[R0]at h;(repeat' split at h)<;>cases h)
def ad.C9{i:aN}{l:List aN}{xa:VX}(hw:bu st.s i.g=some true)(ho:i.op=.Ts false xa (.c (.iface 0 .undef))){sz:Nat}{rows:List V}
 (hx:xa.ev st.s=.sl sz rows)(h:∀b,(b=true->rows=[])->ad P n (.ops l::k) ⟨aX st.s i.dst (.bool b),st.U⟩ Q):ad P n (.ops (i::l)::k) st Q:=by
 refine ad.ins (by rw[ho];simp) hw λF hn I a w o all hi hs next Q' RL=>?_
 subst hn;obtain⟨RH,hd⟩:=eF hi;rw[ho]at RH;obtain⟨t,x,y,m,c,yt,e,g1,rfl,g2,rfl⟩:=yL RH;have R:=cM hs x;rw[hx]at R;simp only[E']at R;obtain⟨ba,cap,hX,_,hr⟩:=R;have Sf:(execOp a.eval o).run P w=.ok (.value (.bool ba.isNone)) w:=by
  unfold execOp;rw[g1];have hY:a.eval (.const (.slice none m c))=.slice none m c:=rfl;simp[hX,hY,eqGuard,Lib.run_eql_slice_nil w t e ba rows.length cap m c g2]
 unfold Oper.wp;rw[Sf];refine RL _ _ _ ⟨I,?_⟩ (h ba.isNone ?_)
 .rw[<-hd];exact hs.pure (by simp[E'])
 .intro hb;rcases hr with hr|⟨b,off,rfl,_⟩
  .exact hr
  .cases hb
variable {P:Program} {n:Nat} {st:St} {Q:St->Prop} {k:List It}
def CB(l:List Nat)(s:Nat->V):Nat->V:=λi=>if l.contains i then s i else .undef
def AE(l:List Nat)(s:Nat->V)(i:Nat):CB l s i=if l.contains i then s i else .undef:=rfl
def mix(m:Nat)(a b:Nat->V):Nat->V:=λi=>if i<m then a i else b i
def Cu(m:Nat)(a b:Nat->V)(i:Nat):mix m a b i=if i<m then a i else b i:=rfl
def GI(m:Nat)(s:Nat->V):mix m s s=s:=by funext i;simp[mix]
def oK(s:Nat->V)(v:V):aX s none v=s:=rfl
def CQ{m d:Nat}(h:d<m)(a b:Nat->V)(v:V):aX (mix m a b) (some d) v=mix m (aX a (some d) v) b:=by
 funext i;simp only[aX,mix];split
 .rename_i e;subst e;simp[h]
 .split<;>rfl
def B2{m d:Nat}(h:m<=d)(a b:Nat->V)(v:V):aX (mix m a b) (some d) v=mix m a (aX b (some d) v):=by
 funext i;simp only[aX,mix];split
 .rename_i e;subst e;simp[Nat.not_lt.2 h]
 .split<;>rfl
def ad.mix(m:Nat){todo:List It}{s:Nat->V}{U:ai}(h:ad P n todo ⟨Vc.mix m s s,U⟩ Q):ad P n todo ⟨s,U⟩ Q:=by
 rw[GI]at h;exact h
def oY{s:Nat->V}{U:ai}{agg:Bool}{sz d:Nat}{Post:V->ai->Prop}:
 VL [.cell agg sz (.t d)] ⟨s,U⟩ Post=dS (bT U agg sz (s d)) λv=>ay v U Post:=by
 unfold VL ay mW;simp only[eV,gJ,VX.ev];cases bT U agg sz (s d)<;>simp[dS]
def o7{s:Nat->V}{U:ai}{agg:Bool}{sz d e:Nat}{Post:V->ai->Prop}:
 VL [.cell agg sz (.t d),.tmp (.t e)] ⟨s,U⟩ Post=dS (bT U agg sz (s d)) λv=>ay (.RB [v,s e]) U Post:=by
 unfold VL ay mW;simp only[eV,gJ,VX.ev];cases bT U agg sz (s d)<;>simp[dS]
def aa.aE{Z0 U:ai}{id:Nat}{o:Ob}(h:aa Z0 U)(M':Z0 id=none):aa Z0 (Vc.C' U id o):=λi x hx=>by
 have R6:i≠id:=λe=>by rw[e,M']at hx;cases hx
 rw[ab R6];exact h i x hx
def aa.none{a b:ai}(h:aa a b){i:Nat}(hi:b i=none):a i=none:=by
 cases ha:a i with
 |none=>rfl
 |some o=>rw[h i o ha]at hi;cases hi
def aq{U:ai}{i j:Nat}{o:Ob}(h:U i=some o)(hj:U j=none):i≠j:=by rintro rfl;rw[h]at hj;cases hj
def af{O:TJ P}{f:Nat}{d:Option Nat}{l:List aN}{v:Nat->V}{ob:Ob}{s:Nat->V}{U:ai}
 (h:∀id Z',aa U Z'->Z' id=some ob->U id=none->step P O n f (.r (.ops l::k)) ⟨aX s d (v id),Z'⟩ Q):
 HT P O n f l k d ⟨s,U⟩ Q (some λid=>(v id,Vc.C' U id ob)):=by
 rw[aO];exact λid M'=>h id _ ((aa.refl U).C' M') ag M'
def bw{O:TJ P}{f:Nat}{d:Option Nat}{l:List aN}{v:Nat->V}{ob:Ob}{s:Nat->V}{U:ai}
 (h:∀id Z',aa U Z'->Z' id=some ob->U id=none->step P O n f (.d l k) ⟨aX s d (v id),Z'⟩ Q):
 Gu P O n f l k d ⟨s,U⟩ Q (some λid=>(v id,Vc.C' U id ob)):=by
 rw[aP];exact λid M'=>h id _ ((aa.refl U).C' M') ag M'
def uR{O:TJ P}{f:Nat}(t:Bool)(a b:bJ):cR P O n f (.bool t) a b k st Q=((t=true->step P O n f (.r (.code a::k)) st Q)/\(t=false->step P O n f (.r (.code b::k)) st Q)):=by
 cases t<;>simp[cR,dW,both]
def ad.aB{i:aN}{l:List aN}{fx:VX}{xs:List VX}{s:Nat->V}{U:ai}{f:FuncId}{caps:List V}{v:V}(hw:bu s i.g=some true)(ho:i.op=.call fx xs)
 (hf:fx.ev s=.fn f caps)(hc:aD P f (xs.map (·.ev s)++caps) U λr Z'=>r=v/\Z'=U)(h:ad P n (.ops l::k) ⟨aX s i.dst v,U⟩ Q):
 ad P n (.ops (i::l)::k) ⟨s,U⟩ Q:=by
 refine ad.call hw ho hf hc ?_;rintro r Z' ⟨rfl,rfl⟩;exact h
def Au(op:BinOp)(k:IntKind)(a b:Int):uA op (.int k a) (.int k b)=cU op k a b:=by simp[uA]
def Ai(op:BinOp)(a b:List UInt8):uA op (.str a) (.str b)=eo op a b:=rfl
def tI(op:BinOp)(k k':IntKind)(a b:Int):nF op (.int k a) (.int k' b)=eJ op k a b:=rfl
def uk(op:BinOp)(a b:List UInt8):nF op (.str a) (.str b)=eN op a b:=rfl
def zu(id off n:Nat):dy false (.own id off n)=some (.int .i64 n):=rfl
def Cb(sz:Nat)(rows:List V):dy false (.sl sz rows)=some (.int .i64 rows.length):=rfl
def uV:dy false .aC=some (.int .i64 0):=rfl
def xZ(s:List UInt8):dy true (.str s)=some (.int .i64 s.length):=rfl
def vq(U:ai)(SU id off len:Nat)(k:IntKind)(j:Int):bQ U SU (.own id off len) (.int k j)=match U id with
 |some ob=>if ob.sz=SU/\0<=j/\j<len then some (.ptr id (off+j.toNat) 0)else none
 |none=>none:=rfl
def uW(U:ai)(agg:Bool)(sz id i k:Nat):bT U agg sz (.ptr id i k)=match U id with
 |some ob=>match ob.rows[i]? with
  |some r=>if agg then(if k=0/\r.cells.length=sz then some (.agg r.cells)else if k+sz<=r.cells.length then some (.agg ((r.cells.drop k).take sz))else none)
     else r.cells[k]?
  |none=>none
 |none=>none:=rfl
def oU(U:ai)(sz:Nat)(vs:List V):bT U true sz (.rp (.agg vs))=if vs.length=sz then some (.agg vs)else none:=rfl
def lq(U:ai)(sz:Nat)(k:IntKind)(j:Int):bT U false sz (.rp (.int k j))=some (.int k j):=rfl
def Reads(U:ai)(sz:Nat)(agg:Bool)(sv:V)(rows:List V):Prop:=
 dy false sv=some (.int .i64 rows.length)/\∀(i:Nat) v,rows[i]?=some v->∃p,bQ U sz sv (.int .i64 i)=some p/\bT U agg sz p=some v
def Reads.ints{U:ai}{l:List Int}:Reads U 1 false (.sl 1 (l.map (.int .i64 ·))) (l.map (.int .i64 ·)):=by
 refine⟨rfl,λi v hv=>?_⟩;obtain⟨n,hn,rfl⟩:∃n,l[i]?=some n/\v=.int .i64 n:=by
  rw[List.getElem?_map]at hv;cases h:l[i]? with
  |none=>simp[h]at hv
  |some n=>simp[h]at hv;exact⟨n,rfl,hv.symm⟩
 refine⟨.rp (.int .i64 n),?_,rfl⟩;simp[bQ,hn]
def Reads.own{U:ai}{sz id off len:Nat}{ob:Ob}(ho:U id=some ob)(hs:ob.sz=sz)(hl:off+len<=ob.rows.length)(h1:∀r∈ob.rows,r.cells=[r]):
 Reads U sz false (.own id off len) ((ob.rows.drop off).take len):=by
 refine⟨by simp[dy];omega,λi v hv=>?_⟩;have hi:i<len:=by
  have:=(List.getElem?_eq_some_iff.1 hv).1;simp at this;omega
 have Vy:ob.rows[off+i]?=some v:=by
  rw[List.getElem?_take,if_pos hi,List.getElem?_drop]at hv;exact hv
 refine⟨.ptr id (off+i) 0,?_,?_⟩
 .simp[bQ,ho,hs,hi]
 .simp[bT,ho,Vy,h1 v (List.mem_of_getElem? Vy)]
def ao{m:Int}(h1:-9223372036854775808<=m)(h2:m<=9223372036854775807):RM .i64 m:=by
 unfold RM;rw[IntKind.wrap_i64];omega
mutual
/-- no row's number in it -/
def V.eM:V->Bool
 |.own ..|.ptr ..|.yl _=>false
 |.sl _ rows=>gl rows
 |.rp v=>v.eM
 |.fn _ caps=>gl caps
 |.bm _ caps=>gl caps
 |.iface _ v=>v.eM
 |.agg c|.RB c=>gl c
 |_=>true
def gl:List V->Bool
 |[]=>true
 |v::vs=>v.eM&&gl vs
end
def aD.GX{P:Program}{f:FuncId}{args:List V}{U:ai}{Post UD:V->ai->Prop}(h:aD P f args U Post)
 (hp:∀r Z',Post r Z'->ay r Z' UD):aD P f args U UD:=⟨h.1,λI w RF hs hr=>(h.2 I w RF hs hr).mono λe w' ⟨r,Z',Y',val,h1,h2,h3,h4,h5⟩=>by
 obtain⟨v',Y'',g1,g2,g3⟩:=hp r Z' h2;exact⟨v',Y'',Y',val,h1,g3,h3,h4.drop g1,g2 Y' _ _ _ _ h4 h5⟩⟩
mutual
/-- the same,with each row of its own as one that is only read -/
inductive Fz(U:ai)(N:Nat->Prop):V->V->Prop
 |same (v:V) (h:v.eM=true):Fz U N v v
 |own (id off len:Nat) (ob:Ob) (rows:List V) (h1:U id=some ob) (h2:N id) (h3:off+len<=ob.rows.length) (h4:TK U N ((ob.rows.drop off).take len) rows):
    Fz U N (.own id off len) (.sl ob.sz rows)
 |nil (sz:Nat):Fz U N .aC (.sl sz [])
 |sl (sz:Nat) (rows Rz:List V) (h:TK U N rows Rz):Fz U N (.sl sz rows) (.sl sz Rz)
 |agg (cs ds:List V) (h:TK U N cs ds):Fz U N (.agg cs) (.agg ds)
 |RB (cs ds:List V) (h:TK U N cs ds):Fz U N (.RB cs) (.RB ds)
 |ptr (id i:Nat) (ob:Ob) (r u:V) (h1:U id=some ob) (h2:N id) (h3:ob.rows[i]?=some r) (h4:Fz U N r u):Fz U N (.ptr id i 0) (.rp u)
 |fn (f:FuncId) (cs ds:List V) (h:TK U N cs ds):Fz U N (.fn f cs) (.fn f ds)
 |bm (f:FuncId) (cs ds:List V) (h:TK U N cs ds):Fz U N (.bm f cs) (.bm f ds)
 |iface (t:TypeId) (v u:V) (h:Fz U N v u):Fz U N (.iface t v) (.iface t u)
inductive TK(U:ai)(N:Nat->Prop):List V->List V->Prop
 |nil:TK U N [] []
 |cons (v u:V) (vs us:List V) (h:Fz U N v u) (h':TK U N vs us):TK U N (v::vs) (u::us)
end
section
variable {U K:ai} {N:Nat->Prop} {I:Mu} {w0 w:World} {Su:Nat->Prop}
def bD.lift{ow T9:Nat->Prop}{v u:V}{b off:Nat}(hv:∀cs,v≠.agg cs)(hu:∀cs,u≠.agg cs)(h:∀x,E' I ow w v x->E' I T9 w u x)
 (hr:bD I ow w v b off):bD I T9 w u b off:=by
 have e1:∃x,w.cell? ⟨b,off,none⟩=some x/\E' I ow w v x/\x.oneCell'=true:=by
  cases v<;>first|exact absurd rfl (hv _)|simpa only[bD]using hr
 obtain⟨x,h1,h2,h3⟩:=e1;have e2:∃x,w.cell? ⟨b,off,none⟩=some x/\E' I T9 w u x/\x.oneCell'=true:=⟨x,h1,h x h2,h3⟩
 cases u<;>first|exact absurd rfl (hu _)|simpa only[bD]using e2
mutual
def Fz.down(hs:Sat w0 Su I U w)(hK:aa K U)(hN:∀id,N id->K id=none):∀{v u:V},Fz U N v u->(∀x,E' I (aG I U) w v x->E' I (aG I K) w u x)/\
 (∀b off,bD I (aG I U) w v b off->bD I (aG I K) w u b off)/\u.cells.length=v.cells.length
 |_,_,.same v h=>⟨λx hr=>E'.mono (df.refl I) (db.sub w hK) (Nat.le_refl _) v x hr,λb off hr=>bD.mono (df.refl I) (db.sub w hK) (Nat.le_refl _) v b off rfl hr,rfl⟩
 |_,_,.own id off len ob rows ho h2 hl h4=>by
  have hd:=TK.down hs hK hN h4;have key:∀x,E' I (aG I U) w (.own id off len) x->E' I (aG I K) w (.sl ob.sz rows) x:=by
   intro x hr;simp only[E']at hr|-;have hlen:rows.length=len:=by rw[hd.2.2.2];simp;omega
   have Sw:=hs.obj id ob ho;split at hr
   .exact hr.elim
   .obtain⟨rfl,rfl,rfl⟩:=hr;have:rows=[]:=List.eq_nil_of_length_eq_zero hlen;subst this;exact⟨none,0,by simp,by simp,.inl rfl⟩
   .rename_i b sz cap hb;obtain⟨o,c,rfl,h1,h2',h3,hz⟩:=hr;refine⟨_,c,by rw[hlen],by omega,?_⟩;by_cases h0:len=0
    .left;exact List.eq_nil_of_length_eq_zero (by omega)
    .right;rw[hb]at Sw;obtain⟨g1,g2,g3,g4,g5⟩:=Sw.rows hz;have ho':o=off*sz:=by
      rcases h3 with h3|h3
      .exact h3
      .omega
     subst ho' g1;refine⟨b,_,rfl,?_,g2,?_⟩
     .rintro⟨Tx,ob',UC,Tc,e1,e2⟩;have:=hs.inj Tx id ob' ob _ _ _ _ _ (hK _ _ e1) ho e2 hb;rw[this,hN id h2]at e1;cases e1
     .have:=(g5.drop off).take len;rw[Nat.zero_add]at this;exact hd.2.2.1 _ _ _ this
  exact⟨key,λb VZ hr=>bD.lift (λ_=>by simp) (λ_=>by simp) key hr,rfl⟩
 |_,_,.nil sz=>by
  have key:∀x,E' I (aG I U) w .aC x->E' I (aG I K) w (.sl sz []) x:=λx hr=>by
   simp only[E']at hr|-;exact⟨none,0,by simpa using hr,by simp,.inl trivial⟩
  exact⟨key,λb VZ hr=>bD.lift (λ_=>by simp) (λ_=>by simp) key hr,rfl⟩
 |_,_,.sl sz rows Rz h=>by
  have hd:=TK.down hs hK hN h;have key:∀x,E' I (aG I U) w (.sl sz rows) x->E' I (aG I K) w (.sl sz Rz) x:=λx hr=>by
   simp only[E']at hr|-;obtain⟨a,cap,rfl,h1,h2⟩:=hr;refine⟨a,cap,by rw[hd.2.2.2],by rw[hd.2.2.2];exact h1,?_⟩;rcases h2 with h2|⟨b,off,h3,h4,h5,h6⟩
   .left;have:=hd.2.2.2;rw[h2]at this;exact List.eq_nil_of_length_eq_zero this
   .exact .inr ⟨b,off,h3,λho=>h4 (ho.sub hK),h5,hd.2.2.1 _ _ _ h6⟩
  exact⟨key,λb VZ hr=>bD.lift (λ_=>by simp) (λ_=>by simp) key hr,rfl⟩
 |_,_,.agg cs ds h=>by
  have hd:=TK.down hs hK hN h;refine⟨λx hr=>?_,λb off hr=>?_,by simp only[V.cells];exact hd.2.2.2⟩
  .simp only[E']at hr|-;obtain⟨RF,rfl,h1,h2⟩:=hr;exact⟨RF,rfl,hd.1 _ h1,h2⟩
  .simp only[bD]at hr|-;exact hd.2.1 _ _ hr
 |_,_,.RB cs ds h=>by
  have hd:=TK.down hs hK hN h;have key:∀x,E' I (aG I U) w (.RB cs) x->E' I (aG I K) w (.RB ds) x:=λx hr=>by
   simp only[E']at hr|-;obtain⟨RF,rfl,h1⟩:=hr;exact⟨RF,rfl,hd.1 _ h1⟩
  exact⟨key,λb VZ hr=>bD.lift (λ_=>by simp) (λ_=>by simp) key hr,rfl⟩
 |_,_,.ptr id i ob r u ho h2 hi h4=>by
  have hd:=Fz.down hs hK hN h4;have key:∀x,E' I (aG I U) w (.ptr id i 0) x->E' I (aG I K) w (.rp u) x:=by
   intro x hr;simp only[E']at hr|-;have Sw:=hs.obj id ob ho;split at hr
   .rename_i b sz cap hb;obtain⟨rfl,hz⟩:=hr;rw[hb]at Sw;obtain⟨g1,g2,g3,g4,g5⟩:=Sw.rows hz;obtain⟨e1,e2⟩:=g5.get hi;rw[Nat.zero_add]at e2;have R7:¬aG I K b:=by
     rintro⟨Tx,ob',UC,Tc,e1,e2⟩;have:=hs.inj Tx id ob' ob _ _ _ _ _ (hK _ _ e1) ho e2 hb;rw[this,hN id h2]at e1;cases e1
    refine⟨b,i*sz,by simp,?_,.inr R7,hd.2.1 _ _ ((ed _ _ _ _ _ _).2 e2)⟩;cases hc:r.cells with
    |nil=>rw[hc]at e1;simp at e1;omega
    |cons c cs=>
     rw[hc]at e2;simp only[aU]at e2;obtain⟨⟨y,hy,_⟩,_⟩:=e2;exact World.block_lt_of_cell? w _ hy
   .exact hr.elim
  exact⟨key,λb VZ hr=>bD.lift (λ_=>by simp) (λ_=>by simp) key hr,rfl⟩
 |_,_,.fn f cs ds h=>by
  have hd:=TK.down hs hK hN h;have key:∀x,E' I (aG I U) w (.fn f cs) x->E' I (aG I K) w (.fn f ds) x:=λx hr=>by
   simp only[E']at hr|-;obtain⟨RF,rfl,h1⟩:=hr;exact⟨RF,rfl,hd.1 _ h1⟩
  exact⟨key,λb VZ hr=>bD.lift (λ_=>by simp) (λ_=>by simp) key hr,rfl⟩
 |_,_,.bm f cs ds h=>by
  have hd:=TK.down hs hK hN h;have key:∀x,E' I (aG I U) w (.bm f cs) x->E' I (aG I K) w (.bm f ds) x:=λx hr=>by
   simp only[E']at hr|-;obtain⟨RF,rfl,h1⟩:=hr;exact⟨RF,rfl,hd.1 _ h1⟩
  exact⟨key,λb VZ hr=>bD.lift (λ_=>by simp) (λ_=>by simp) key hr,rfl⟩
 |_,_,.iface t v u h=>by
  have hd:=Fz.down hs hK hN h;have key:∀x,E' I (aG I U) w (.iface t v) x->E' I (aG I K) w (.iface t u) x:=λx hr=>by
   simp only[E']at hr|-;obtain⟨y,rfl,h1⟩:=hr;exact⟨y,rfl,hd.1 _ h1⟩
  exact⟨key,λb VZ hr=>bD.lift (λ_=>by simp) (λ_=>by simp) key hr,rfl⟩
def TK.down(hs:Sat w0 Su I U w)(hK:aa K U)(hN:∀id,N id->K id=none):∀{vs us:List V},TK U N vs us->(∀l,aA I (aG I U) w vs l->aA I (aG I K) w us l)/\
 (∀b off,aU I (aG I U) w vs b off->aU I (aG I K) w us b off)/\(∀b off sz,aY I (aG I U) w vs b off sz->aY I (aG I K) w us b off sz)/\us.length=vs.length
 |_,_,.nil=>⟨λl h=>by simpa[aA]using h,λ_ _ _=>by simp[aU],λ_ _ _ _=>by simp[aY],rfl⟩
 |_,_,.cons v u vs us h h'=>by
  have hd:=Fz.down hs hK hN h;have hd':=TK.down hs hK hN h';refine⟨λl hr=>?_,λb off hr=>?_,λb off sz hr=>?_,by simp[hd'.2.2.2]⟩
  .simp only[aA]at hr|-;obtain⟨x,xs,rfl,h1,h2⟩:=hr;exact⟨x,xs,rfl,hd.1 _ h1,hd'.1 _ h2⟩
  .simp only[aU]at hr|-;obtain⟨⟨x,h1,h2,h3⟩,h4⟩:=hr;exact⟨⟨x,h1,hd.1 _ h2,h3⟩,hd'.2.1 _ _ h4⟩
  .simp only[aY]at hr|-;exact⟨by rw[hd.2.2];exact hr.1,hd.2.1 _ _ hr.2.1,hd'.2.2.1 _ _ _ hr.2.2⟩
end
def Fz.wk{v u:V}(h:Fz U N v u)(hK:aa K U)(hN:∀id,N id->K id=none):Wk U K v u:=λ_ _ _ _ x hs hr=>(Fz.down hs hK hN h).1 x hr
end
variable {P:Program} {n:Nat} {st:St} {Q:St->Prop} {k:List It} {I:Mu} {w w':World}
abbrev gh(o:Obj)(env:List V:=[]):Ob:=⟨0,0,.obj o::env⟩
def Sat.PK{w0:World}{Su:Nat->Prop}{U:ai}(h:Sat w0 Su I U w)(o:Obj)(env:List V)(he:aA I (aG I U) w env (tmpsOf o)):
 ∃id,U id=none/\∃Y':Mu,Y' id=.Ss w.heap.size 0 0/\df I Y'/\Sat w0 Su Y' (C' U id (gh o env)) (w.alloc o)/\db (aG I U) (aG Y' (C' U id (gh o env))) w (w.alloc o):=by
 obtain⟨id,M',R3,SA⟩:=h.dN;have hle:df I (λk=>if k=id then .Ss w.heap.size 0 0 else I k):=λk hk=>by
  have:k≠id:=λe'=>hk (e'▸M');simp[this]
 refine⟨id,R3,λk=>if k=id then .Ss w.heap.size 0 0 else I k,by simp,hle,?_⟩;refine h.put (row:=none) (World.grownBy_alloc w o none) (by simp) hle (SA _) id (gh o env) (λo' ho=>?_) (λi o' hi ho=>?_) (λb' UC Tc UQ=>?_) (λhk=>?_)
 .simp[C']at ho;exact ho.symm
 .simp only[C',if_neg hi]at ho;exact⟨ho,by simp⟩
 .simp only[if_true,Pl.Ss.injEq]at UQ;exact .inr (by omega)
 .simp only[if_true];exact .inr ⟨rfl,rfl,o,env,rfl,World.alloc_heap_new w o,aA.mono hle hk (by simp) _ _ he⟩
def Sat.Qx{w0:World}{Su:Nat->Prop}{U:ai}(h:Sat w0 Su I U w){id b cap:Nat}{o:Ob}(ho:U id=some o)(M':I id=.Ss b 0 cap)(o':Obj)(env:List V)(he:aA I (aG I U) w env (tmpsOf o')):
 Sat w0 Su I (C' U id (gh o' env)) (w.putObj b o')/\db (aG I U) (aG I (C' U id (gh o' env))) w (w.putObj b o'):=by
 have H':b<w.heap.size:=aG.lt h ⟨id,o,0,cap,ho,M'⟩;refine h.put (grownBy_putObj' w b o') (λb' UQ=>by cases UQ;exact⟨id,o,0,cap,ho,M'⟩) (df.refl _) h.fin id (gh o' env) (λx R9=>by simp[C']at R9;exact R9.symm)
  (λi x hi R9=>?_) (λb' UC Tc UQ=>?_) (λhk=>?_)
 .simp only[C',if_neg hi]at R9;refine⟨R9,λb' UC Tc h4 h5=>hi ?_⟩;cases h5;exact h.inj i id x o _ _ _ _ _ R9 ho h4 M'
 .rw[M']at UQ;cases UQ;exact .inl rfl
 .rw[M'];exact .inr ⟨rfl,rfl,o',env,rfl,World.putObj_heap_same H',aA.mono (df.refl _) hk (by simp) _ _ he⟩
def Sat.NF{w0:World}{Su:Nat->Prop}{U:ai}(h:Sat w0 Su I U w){id b cap:Nat}{o:Obj}{env:List V}(ho:U id=some (gh o env))(M':I id=.Ss b 0 cap):w.heap[b]?=some o/\aA I (aG I U) w env (tmpsOf o):=by
 have:=h.obj id _ ho;rw[M']at this;rcases this with⟨_,_,_,h1,_⟩|⟨_,_,ob,env',h1,h2,h3⟩
 .omega
 .simp only[List.cons.injEq,V.obj.injEq]at h1;obtain⟨rfl,rfl⟩:=h1;exact⟨h2,h3⟩
variable {P:Program} {n:Nat} {st:St} {Q:St->Prop} {k:List It} {I:Mu} {w w':World}
def Sat.compose{w0:World}{Su:Nat->Prop}{I Y':Mu}{U Z':ai}(h0:Sat w0 Su I U w)(RP:Sat w (aG I U) Y' Z' w'):
 Sat w0 Su Y' Z' w'/\db (aG I U) (aG Y' Z') w w':=by
 have TP:db (aG I U) (aG Y' Z') w w':=λb hb hn=>⟨λho=>hn (RP.fresh b ho hb),RP.same b hb hn⟩
 refine⟨⟨Nat.le_trans h0.size RP.size,RP.os.trans h0.os,RP.tape.trans h0.tape,RP.output.trans h0.output,?_,RP.fin,RP.inj,RP.obj,?_,h0.UW⟩,TP⟩
 .intro b hb hn;have h1:¬aG I U b:=λho=>hn (h0.fresh b ho hb);exact(RP.same b (Nat.lt_of_lt_of_le hb h0.size) h1).trans (h0.same b hb hn)
 .intro b hb H';exact h0.fresh b (RP.fresh b hb (Nat.lt_of_lt_of_le H' h0.size)) H'
def Sat.here{w0:World}{Su:Nat->Prop}{U:ai}(h:Sat w0 Su I U w):Sat w (aG I U) I U w:=
 ⟨Nat.le_refl _,rfl,rfl,rfl,λ_ _ _=>rfl,h.fin,h.inj,h.obj,λb hb _=>hb,h.oQ⟩
def YC(P:Program)(RZ:Nat)(x:List V)(U:ai)(Post:Bool->ai->Prop):Prop:=
 ∀I w RF l c,I RZ=.Ss l 0 c->Sat w (aG I U) I U w->aA I (aG I U) w x RF->
  YieldAt Fence.wide 0 P l RF.toArray w λe w'=>∃b Z' Y',e=.returned (.bool b)/\Post b Z'/\df I Y'/\Sat w (aG I U) Y' Z' w'
def uM{F:Fr}{m m':Nat}{l:Nat}{f:FuncId}{tmps:Array Value}{assign body:Code}{R:Ending->World->Prop}
 (h:RoundIn Fence.wide m P l f tmps assign body w R):RoundIn F.eP m' P l f tmps assign body w R:=
 ⟨trivial,λc cs _=>h.2 c cs (room_wide _)⟩
def ad.lN{i:aN}{l:List aN}{fx:VX}{xs:List VX}(hw:bu st.s i.g=some true)(ho:i.op=.call fx xs){RZ:Nat}(hf:fx.ev st.s=.yl RZ)
 {Post:Bool->ai->Prop}(hc:YC P RZ (xs.map (·.ev st.s)) st.U Post)
 (h:∀b Z',Post b Z'->ad P n (.ops l::k) ⟨aX st.s i.dst (.bool b),Z'⟩ Q):ad P n (.ops (i::l)::k) st Q:=by
 refine ad.IL hw λF hn I a w o all hi hs next Q' RL=>?_
 subst hn;obtain⟨RH,hd⟩:=eF hi;rw[ho]at RH;obtain⟨f0,args,argTypes,g1,rfl,rfl⟩:=lJ RH;have UM:=cM hs f0;rw[hf]at UM;simp only[E']at UM;split at UM
 .rename_i lb c M';have Sp:=mJ hs args.toList;obtain⟨fn,tmps,assign,body,hy,hR⟩:=hc I w _ lb c M' hs.sat.here Sp;have Sf:(execOp a.eval o).run P w=.ok (.round lb fn tmps assign body) w:=by
   unfold execOp;rw[g1];simp only[resolve,UM,Deferred.ofValue,Sem.run_bind,Sem.run_pure,Result.andThen_ok,invoke];rw[<-hy];congr 2;apply Array.ext';simp
  refine⟨λ_ _=>trivial,?_⟩;rw[Oper.semAt_eq _ _ _ (by rw[g1];intro c e;cases e),Sf];refine⟨j5 F,uM (hR.mono ?_)⟩;rintro e w' ⟨b,Z',Y',rfl,hp,hle,RP⟩;obtain⟨h1,h2⟩:=hs.sat.compose RP;refine RL _ _ _ ⟨Y',?_⟩ (h b Z' hp);rw[<-hd];exact hs.step h1 hle h2 RP.size (by simp[E'])
 .exact UM.elim
def bh(ZJ U RX Z':ai):Prop:=aa RX Z'/\∀id o,ZJ id=none->U id=some o->Z' id=some o/\RX id=none
def bh.refl{ZJ U:ai}(h:aa ZJ U):bh ZJ U ZJ U:=⟨h,λ_ _ h1 h2=>⟨h2,h1⟩⟩
def bh.set{ZJ U RX Z':ai}(h:bh ZJ U RX Z'){id:Nat}{o o':Ob}(M':RX id=some o):bh ZJ U (C' RX id o') (C' Z' id o'):=
 ⟨h.1.K8,λi x h1 h2=>by
  obtain⟨h3,h4⟩:=h.2 i x h1 h2;have:i≠id:=λe=>by rw[e,M']at h4;cases h4
  simp[Vc.C',this,h3,h4]⟩
def bh.new{ZJ U RX Z':ai}(h:bh ZJ U RX Z'){id:Nat}{o:Ob}(M':Z' id=none):bh ZJ U (C' RX id o) (C' Z' id o):=
 ⟨h.1.K8,λi x h1 h2=>by
  obtain⟨h3,h4⟩:=h.2 i x h1 h2;have:i≠id:=λe=>by rw[e,M']at h3;cases h3
  simp[Vc.C',this,h3,h4]⟩
def bh.pN{ZJ U RX Z':ai}(h:bh ZJ U RX Z'){id:Nat}{o:Ob}(M':Z' id=none):bh ZJ U RX (C' Z' id o):=
 ⟨h.1.trans (aa.C' (aa.refl _) M'),λi x h1 h2=>by
  obtain⟨h3,h4⟩:=h.2 i x h1 h2;have:i≠id:=λe=>by rw[e,M']at h3;cases h3
  simp[Vc.C',this,h3,h4]⟩
def Iter(P:Program)(g:FuncId)(caps:List V)(xs:List (List V)):Prop:=
 eG P g=true/\∀(RZ:Nat) (τ Jx:List (List V)->ai->Prop) (Z0:ai),
  (∀pre x post ZJ U,xs=pre++x::post->τ pre ZJ->aa ZJ U->
    YC P RZ x U λb Z'=>∃RX,bh ZJ U RX Z'/\((b=true/\τ (pre++[x]) RX)\/(b=false/\Jx (pre++[x]) RX)))->
  τ [] Z0->qI P g (.yl RZ::caps) Z0 λ_ Z'=>τ xs Z'\/∃pre,pre <+: xs/\Jx pre Z'
variable {P:Program} {n:Nat} {st:St} {Q:St->Prop} {k:List It} {I:Mu} {w w':World}
def mj(s:Nat->V):List Nat->List V->Nat->V
 |p::ps,x::xs=>mj (λi=>if i=p then x else s i) ps xs
 |_,_=>s
def exK:List (Nat×(St->Prop))->List It
 |[]=>[]
 |(id,μ)::l=>.inBlock id::.stop μ::exK l
def BZ{U Z':ai}{id:Nat}(h:aa U Z'):aa (del U id) (del Z' id):=λi o e=>by
 unfold del at e|-;split at e
 .cases e
 .rename_i hi;rw[if_neg hi];exact h i o e
def Sat.more{w0:World}{Su:Nat->Prop}{U:ai}(h:Sat w0 Su I U w)(o:Obj):Sat w0 Su I U (w.alloc o)/\db (aG I U) (aG I U) w (w.alloc o):=by
 have TQ:∀b,b<w.heap.size->(w.alloc o).heap[b]?=w.heap[b]?:=λb hb=>Go.RowKit.Below.heap_alloc w o b hb;have hk:db (aG I U) (aG I U) w (w.alloc o):=λb hb hn=>⟨hn,TQ b hb⟩
 refine⟨⟨by have:=h.size;simp;omega,h.os,h.tape,h.output,λb hb hn=>(TQ b (Nat.lt_of_lt_of_le hb h.size)).trans (h.same b hb hn),h.fin,h.inj,λid ob ho=>?_,h.fresh,h.UW⟩,hk⟩;exact(h.obj id ob ho).mono (df.refl I) hk (by simp) λb sz cap hp=>TQ b (aG.lt h ⟨id,ob,sz,cap,ho,hp⟩)
def dq.enter{F:Fr}{a:Act}(hs:dq F I st a w)(fn:FuncId)(ps:Array Tmp)(assign body:Code):
 ∃mark W0 D,dq F I st { a with defers:=mark++a.defers } W0/\(Instr.enterLoop fn a.tmps ps assign body F.eP.round).run P w=
  .ok (W0.heap.size,mark) (W0.alloc (.loop { state:=.ready,pending:=none,fn,tmps:=a.tmps,params:=ps,assign,body,defers:=D })):=by
 cases hrd:F.rd with
 |some lr=>
  obtain⟨l0,r0⟩:=lr;obtain⟨h1,_⟩:=hs.book.rnd l0 r0 hrd;refine⟨[],w,r0.defers,hs,?_⟩;have:F.eP.round=some l0:=by simp[Fr.eP,hrd]
  rw[this];exact run_enterLoop_inner h1 fn a.tmps ps assign body
 |none=>
  have:F.eP.round=none:=by simp[Fr.eP,hrd]
  rw[this];refine⟨[{ target:=.collected w.heap.size,args:=#[] }],w.alloc (.deferred (some [])),w.heap.size,?_,?_⟩
  .obtain⟨h1,hk⟩:=hs.sat.more (.deferred (some []));have hb:=hs.book.mc hk;refine⟨h1,hs.le,hs.size,⟨hb.rnd,?_⟩,λi hi=>E'.mono (df.refl I) hk (by simp) _ _ (hs.slot i hi)⟩;obtain⟨Ds,g1,g2,g3⟩:=hb.marks;obtain⟨Ds',g1',g2',YS⟩:=hs.book.marks;refine⟨w.heap.size::Ds',by simp[g1'],?_,?_⟩
   .refine List.nodup_cons.2 ⟨λX9=>?_,g2'⟩;have:=(Array.getElem?_eq_some_iff.1 (YS _ X9).2.1).1;omega
   .intro D hD;simp only[List.mem_cons]at hD;rcases hD with rfl|hD
    .refine⟨hs.sat.size,World.alloc_heap_new w _,λho=>?_⟩;have:=aG.lt hs.sat ho;omega
    .obtain⟨q1,q2,q3⟩:=YS D hD;have H':=(Array.getElem?_eq_some_iff.1 q2).1;exact⟨q1,(hk D H' q3).2.trans q2,q3⟩
  .rw[run_enterLoop_outer];simp
def Dz(ps:List Nat):∀(xs:List Value) (t:Array Value) (vs:List V) (s:Nat->V) {ow:Nat->Prop} (m:Nat),t.size=m->aA I ow w vs xs->vs.length=ps.length->
 (∀i,i<m->E' I ow w (s i) (t.getD i undef))->
 ((ps.zip xs).foldl (λt (p,v)=>t.setIfInBounds p v) t).size=m/\∀i,i<m->E' I ow w (mj s ps vs i) (((ps.zip xs).foldl (λt (p,v)=>t.setIfInBounds p v) t).getD i undef):=by
 induction ps with
 |nil=>intro xs t vs s ow m ht _ _ hi;exact⟨by simpa using ht,by simpa[mj]using hi⟩
 |cons p ps ih=>
  intro xs t vs s ow m ht hv hl hi;cases vs with
  |nil=>simp at hl
  |cons v vs=>
   simp only[aA]at hv;obtain⟨x,xs',rfl,h1,h2⟩:=hv;simp only[List.zip_cons_cons,List.foldl_cons,mj];refine ih xs' (t.setIfInBounds p x) vs _ m (by simp[ht]) h2 (by simpa using hl) λi H'=>?_;by_cases hip:i=p
   .subst hip;rw[if_pos rfl,Array.getD_eq_getD_getElem?,Array.getElem?_setIfInBounds_self_of_lt (by omega)];exact h1
   .rw[if_neg hip,Array.getD_eq_getD_getElem?,Array.getElem?_setIfInBounds_ne (λe=>hip e.symm),<-Array.getD_eq_getD_getElem?];exact hi i H'
variable {P:Program} {n:Nat} {st:St} {Q:St->Prop} {k:List It} {I:Mu} {w w':World}
def sS{b:Nat}{o o':Obj}(h:w.heap[b]?=some o)(hc:∀off x,w.cell? ⟨b,off,none⟩≠some x):
 (∀b',b'≠b->(w.putObj b o').heap[b']?=w.heap[b']?)/\∀(ow:Nat->Prop),pr ow ow w (w.putObj b o'):=by
 have R6:∀b',b'≠b->(w.putObj b o').heap[b']?=w.heap[b']?:=λb' hb=>World.putObj_heap_other hb;refine⟨R6,λow b' _ hn=>⟨hn,λoff x hx=>?_⟩⟩;by_cases hb:b'=b
 .subst hb;exact absurd hx (hc off x)
 .exact eH (R6 b' hb) off x hx
def kj{b:Nat}{r:Loop}(h:w.heap[b]?=some (.loop r)):∀off x,w.cell? ⟨b,off,none⟩≠some x:=λoff x=>by simp[World.cell?,h]
def dq.Rr{F F':Fr}{a:Act}{l:Nat}{r r':Loop}(hs:dq F I st a w)(hF:F.rd=some (l,r))(hF':F'={ F with rd:=some (l,r') })(hl:l<F.w0.heap.size->F.Su l):
 dq F' I st a (w.putObj l (.loop r')):=by
 subst hF';obtain⟨h1,h2⟩:=hs.book.rnd l r hF;obtain⟨R6,hk⟩:=sS (o':=.loop r') h1 (kj h1);have hk:=hk (aG I st.U);have hz:w.heap.size<=(w.putObj l (.loop r')).heap.size:=by simp
 have H':=(Array.getElem?_eq_some_iff.1 h1).1;refine⟨⟨by simpa using hs.sat.size,hs.sat.os,hs.sat.tape,hs.sat.output,λb hb hn=>?_,hs.sat.fin,hs.sat.inj,λid o ho=>?_,hs.sat.fresh,hs.sat.UW⟩,hs.le,hs.size,⟨λl' r'' e=>?_,?_⟩,λi hi=>E'.bV (df.refl I) hk hz _ _ (hs.slot i hi)⟩
 .by_cases UQ:b=l
  .subst UQ;exact absurd (hl hb) hn
  .exact(R6 b UQ).trans (hs.sat.same b hb hn)
 .refine(hs.sat.obj id o ho).bV (df.refl I) hk hz λb sz cap hp=>R6 b ?_;rintro rfl;exact h2 ⟨id,o,sz,cap,ho,hp⟩
 .simp only[Oi,Prod.mk.injEq]at e;obtain⟨rfl,rfl⟩:=e;exact⟨World.putObj_heap_same H',h2⟩
 .obtain⟨Ds,g1,g2,g3⟩:=hs.book.marks;refine⟨Ds,g1,g2,λD hD=>?_⟩;obtain⟨q1,q2,q3⟩:=g3 D hD;refine⟨q1,(R6 D ?_).trans q2,q3⟩;rintro rfl;rw[h1]at q2;cases q2
def Sat.J5{w0:World}{Su:Nat->Prop}{U:ai}(h:Sat w0 Su I U w){RZ l c:Nat}(R3:U RZ=none)(M':I RZ=.Ss l 0 c)(R7:¬aG I U l){r:Loop}(hr:w.heap[l]?=some (.loop r))
 (hl:l<w0.heap.size->Su l)(o:Obj)(env:List V)(he:aA I (aG I U) w env (tmpsOf o)):Sat w0 Su I (C' U RZ (gh o env)) (w.putObj l o):=by
 obtain⟨R6,_⟩:=sS (o':=o) hr (kj hr);have H':=(Array.getElem?_eq_some_iff.1 hr).1;have hz:w.heap.size<=(w.putObj l o).heap.size:=by simp
 have hown:∀b,aG I (C' U RZ (gh o env)) b->aG I U b\/b=l:=by
  rintro b ⟨id,ob,sz,cap,h1,h2⟩;by_cases e:id=RZ
  .subst e;rw[M']at h2;cases h2;exact .inr rfl
  .rw[ab e]at h1;exact .inl ⟨id,ob,sz,cap,h1,h2⟩
 have hk:pr (aG I U) (aG I (C' U RZ (gh o env))) w (w.putObj l o):=λb ⟨off,x,hx⟩ hn=>by
  have SD:b≠l:=by rintro rfl;exact kj hr off x hx
  exact⟨λho=>(hown b ho).elim hn SD,eH (R6 b SD)⟩
 refine⟨by simpa using h.size,h.os,h.tape,h.output,λb hb hn=>?_,h.fin,?_,?_,?_,h.UW⟩
 .by_cases UQ:b=l
  .subst UQ;exact absurd (hl hb) hn
  .exact(R6 b UQ).trans (h.same b hb hn)
 .intro id Tx ob ob' b sz cap UC Tc h1 h2 h3 h4;by_cases e:id=RZ<;>by_cases e':Tx=RZ
  .rw[e,e']
  .exfalso;subst e;rw[M']at h3;cases h3;rw[ab e']at h2;exact R7 ⟨Tx,ob',UC,Tc,h2,h4⟩
  .exfalso;subst e';rw[M']at h4;cases h4;rw[ab e]at h1;exact R7 ⟨id,ob,sz,cap,h1,h3⟩
  .rw[ab e]at h1;rw[ab e']at h2;exact h.inj id Tx ob ob' b sz cap UC Tc h1 h2 h3 h4
 .intro id ob ho;by_cases e:id=RZ
  .subst e;rw[ag]at ho;cases ho;rw[M'];exact .inr ⟨rfl,rfl,o,env,rfl,World.putObj_heap_same H',aA.bV (df.refl I) hk hz _ _ he⟩
  .rw[ab e]at ho;refine(h.obj id ob ho).bV (df.refl I) hk hz λb sz cap hp=>R6 b ?_;rintro rfl;exact R7 ⟨id,ob,sz,cap,ho,hp⟩
 .intro b hb To;rcases hown b hb with h1|h1
  .exact h.fresh b h1 To
  .subst h1;exact hl To
variable {P:Program} {n:Nat} {st:St} {Q:St->Prop} {k:List It} {I:Mu} {w w':World}
def xY:List (Nat×(St->Prop))->List KI
 |[]=>[]
 |(id,μ)::l=>.inBlock id::.stop μ::xY l
def Cs:∀(l:List (Nat×(St->Prop))),(xY l).map (KI.it P n)=exK l
 |[]=>rfl
 |(id,μ)::l=>by simp[xY,exK,KI.it,Cs l]
def iG{F:Fr}{e:Exit}{a:Act}(he:e≠.normal):∀(l:List (Nat×(St->Prop))),kM P F Q (xY l) e a w->
 (e=.ret/\∃st,Q st/\fK F st a w)\/∃id μ,(id,μ)∈l/\e=.exit id/\∃st,μ st/\fK F st a w
 |[],h=>.inl ⟨h.1.resolve_left he,h.2⟩
 |(id,μ)::l,h=>by
  have h:Exit.inBlock id (kM P F Q (.stop μ::xY l)) e a w:=h;have up:kM P F Q (xY l) e a w->_:=iG he l;have go:kM P F Q (xY l) e a w->(e=.ret/\∃st,Q st/\fK F st a w)\/∃Tx I',(Tx,I')∈(id,μ)::l/\e=.exit Tx/\∃st,I' st/\fK F st a w:=λh=>by
   rcases up h with h|⟨i,I',h1,h2⟩
   .exact .inl h
   .exact .inr ⟨i,I',by simp[h1],h2⟩
  cases e with
  |normal=>exact absurd rfl he
  |exit j=>
   simp only[Exit.inBlock]at h;by_cases hj:j=id
   .rw[if_pos hj]at h;exact .inr ⟨id,μ,by simp,by rw[hj],h⟩
   .rw[if_neg hj]at h;exact go h
  |_=>exact go h
def Eg:Option Nat->Code
 |none=>.ret
 |some id=>.exit id
def FT{rec:Loop}(hready:rec.state=.ready)(hpend:rec.pending=none)(htm:rec.tmps.size=n){s:Nat->V}{RZ:Nat}{x:List V}{ZJ U:ai}
 (hx:x.length=rec.params.toList.length)(SN:ZJ RZ=some (gh (.loop rec) ((List.range n).map s)))(G':aa ZJ U)
 (Jn:ai->Prop)(UF:List Nat)(Jx:Option Nat->ai->Prop)
 (hb:ad P n [.code (dG P n rec.assign),.stop λZQ=>ad P n (.code (dG P n rec.body)::.stop (λUA=>∃Z2,bh (del ZJ RZ) (del U RZ) Z2 UA.U/\Jn Z2)::
   exK (UF.map λid=>(id,λUA=>∃Z2,bh (del ZJ RZ) (del U RZ) Z2 UA.U/\Jx (some id) Z2))) ZQ (λUA=>∃Z2,bh (del ZJ RZ) (del U RZ) Z2 UA.U/\Jx none Z2)]
   ⟨mj s rec.params.toList x,del U RZ⟩ (λ_=>False)):
 YC P RZ x U λb Z'=>∃RX,bh ZJ U RX Z'/\((b=true/\RX RZ=some (gh (.loop rec) ((List.range n).map s))/\Jn (del RX RZ))\/
  (b=false/\∃e:Option Nat,RX RZ=some (gh (.loop { rec with state:=.done,pending:=some (Eg e) }) ((List.range n).map s))/\Jx e (del RX RZ)/\∀id,e=some id->id∈UF)):=by
 intro Y3 w3 RF l c M' TT UL;have R3:=G' _ _ SN;obtain⟨hl,henv⟩:=TT.NF R3 M';have hvl:RF.length=rec.params.toList.length:=by rw[<-hx];exact UL.length
 have hy:=run_yield (P:=P) (args:=RF.toArray) hl (by simpa using hvl);have R7:¬aG Y3 (del U RZ) l:=by
  rintro⟨id,o,sz,cap,h1,h2⟩;have:=TT.inj id RZ o _ l sz cap 0 c (aa.xB U RZ id o h1) R3 h2 M';subst this;simp[del]at h1
 have Ya:db (aG Y3 U) (aG Y3 (del U RZ)) w3 w3:=db.sub w3 (aa.xB U RZ);have hslots:∀i,i<n->E' Y3 (aG Y3 (del U RZ)) w3 (s i) (rec.tmps.getD i undef):=λi hi=>by
  have hv:((List.range n).map s)[i]?=some (s i):=by simp[hi]
  obtain⟨y,h1,h2⟩:=henv.get hv;have:rec.tmps.getD i undef=y:=by
   simp only[tmpsOf]at h1;rw[Array.getD_eq_getD_getElem?,<-Array.getElem?_toList,h1];rfl
  rw[this];exact E'.mono (df.refl _) Ya (Nat.le_refl _) _ _ h2
 obtain⟨hg1,hg2⟩:=Dz rec.params.toList RF rec.tmps x s n htm (aA.mono (df.refl _) Ya (Nat.le_refl _) _ _ UL) hx hslots;have hzip:(rec.params.zip RF.toArray).foldl (λtmps (t,a)=>tmps.setIfInBounds t a) rec.tmps=(rec.params.toList.zip RF).foldl (λt (p,v)=>t.setIfInBounds p v) rec.tmps:=by
  rw[<-Array.foldl_toList,Array.toList_zip]
 rw[hzip]at hy;refine⟨rec.fn,_,rec.assign,rec.body,hy,roundIn_of_wpIn (F:=Fence.wide) trivial ?_⟩;have TI:dq ⟨w3,aG Y3 U,Y3,n,some (l,rec)⟩ Y3 ⟨mj s rec.params.toList x,del U RZ⟩ { tmps:=(rec.params.toList.zip RF).foldl (λt (p,v)=>t.setIfInBounds p v) rec.tmps,defers:=[] } w3:=by
  refine⟨TT.drop (aa.xB U RZ),df.refl _,hg1,⟨λl' r' e=>?_,[],rfl,.nil,by simp⟩,hg2⟩;simp only[Oi,Prod.mk.injEq]at e;obtain⟨rfl,rfl⟩:=e;exact⟨hl,R7⟩
 have h1:=hb ⟨w3,aG Y3 U,Y3,n,some (l,rec)⟩ rfl [.code rec.assign,.stop _] rfl _ w3 ⟨Y3,TI⟩;refine wpIn_mono (F:=Fence.wide.inRound l) h1 ?_;intro e a1 w1 h;cases e with
 |normal=>
  obtain⟨ZQ,hI,X4,hs4⟩:=h;have hpk:=hs4.Rr (F':=⟨w3,aG Y3 U,Y3,n,some (l,{ rec with state:=.busy })⟩) (r':={ rec with state:=.busy }) rfl rfl (λ_=>⟨RZ,_,0,c,R3,M'⟩);refine⟨_,run_beginRound (hs4.book.rnd l rec rfl).1 hready,?_⟩;have h2:=hI ⟨w3,aG Y3 U,Y3,n,some (l,{ rec with state:=.busy })⟩ rfl (.code rec.body::.stop _::xY _) (by simp only[List.map_cons,Cs];rfl) a1 _ ⟨X4,hpk⟩;refine wpIn_mono (F:=Fence.wide.inRound l) h2 ?_;have fin:∀(UA:St) (a2:Act) (w2:World) (jump:Option Code) (Z2:ai),fK ⟨w3,aG Y3 U,Y3,n,some (l,{ rec with state:=.busy })⟩ UA a2 w2->bh (del ZJ RZ) (del U RZ) Z2 UA.U->
   ∃v w'',(Instr.endRound l jump).run P w2=.ok v w''/\v=.bool jump.isNone/\∃Z' Y' RX,df Y3 Y'/\Sat w3 (aG Y3 U) Y' Z' w''/\bh ZJ U RX Z'/\
    RX RZ=some (gh (.loop { rec with state:=if jump.isNone then .ready else .done,pending:=jump }) ((List.range n).map s))/\del RX RZ=Z2:=by
   rintro UA a2 w2 jump Z2 ⟨X5,VM⟩ SI;obtain⟨q1,q2⟩:=VM.book.rnd l _ rfl;have VE:X5 RZ=.Ss l 0 c:=(VM.le RZ (show Y3 RZ≠.dN by rw[M'];simp)).trans M';have hn5:UA.U RZ=none:=by
    cases h:UA.U RZ with
    |none=>rfl
    |some o=>exact absurd ⟨RZ,o,0,c,h,VE⟩ q2
   have hk5:db (aG Y3 U) (aG X5 UA.U) w3 w2:=λb hb hn=>⟨λho=>hn (VM.sat.fresh b ho hb),VM.sat.same b hb hn⟩
   have henv5:=aA.mono VM.le hk5 VM.sat.size _ _ henv;have hn2:Z2 RZ=none:=by
    cases h:Z2 RZ with
    |none=>rfl
    |some o=>have:=SI.1 RZ o h;rw[hn5]at this;cases this
   refine⟨_,_,run_endRound (P:=P) jump q1,rfl,C' UA.U RZ (gh (.loop { rec with state:=if jump.isNone then .ready else .done,pending:=jump }) ((List.range n).map s)),X5,
    C' Z2 RZ (gh (.loop { rec with state:=if jump.isNone then .ready else .done,pending:=jump }) ((List.range n).map s)),VM.le,?_,⟨SI.1.K8,λi o h1 h2=>?_⟩,ag,Cx hn2⟩
   .exact VM.sat.J5 hn5 VE q2 q1 (λ_=>⟨RZ,_,0,c,R3,M'⟩) _ _ henv5
   .have R6:i≠RZ:=λe=>by rw[e,SN]at h1;cases h1
    obtain⟨g1,g2⟩:=SI.2 i o (by rw[dK R6];exact h1) (by rw[dK R6];exact h2);rw[ab R6,ab R6];exact⟨g1,g2⟩
  intro e a2 w2 h;cases e with
  |normal=>
   obtain⟨UA,⟨Z2,SI,hj⟩,Uh⟩:=h;obtain⟨v,w'',g1,rfl,Z',Y',RX,g2,g3,g4,g5,g6⟩:=fin UA a2 w2 none Z2 Uh SI;refine⟨_,w'',g1,true,Z',Y',rfl,⟨RX,g4,.inl ⟨rfl,?_,by rw[g6];exact hj⟩⟩,g2,g3⟩;rw[g5];have:({ rec with state:=.ready,pending:=none }:Loop)=rec:=by rw[<-hready,<-hpend]
   simp[this]
  |ret=>
   rcases iG (by simp) _ h with⟨_,UA,⟨Z2,SI,hj⟩,Uh⟩|⟨_,_,_,h,_⟩
   .obtain⟨v,w'',g1,rfl,Z',Y',RX,g2,g3,g4,g5,g6⟩:=fin UA a2 w2 (some .ret) Z2 Uh SI;exact⟨_,w'',g1,false,Z',Y',rfl,⟨RX,g4,.inr ⟨rfl,none,g5,by rw[g6];exact hj,by simp⟩⟩,g2,g3⟩
   .cases h
  |exit id=>
   rcases iG (by simp) _ h with⟨h,_⟩|⟨Tx,μ,X9,h,UA,hI2,Uh⟩
   .cases h
   .cases h;simp only[List.mem_map,Prod.mk.injEq]at X9;obtain⟨id'',hin',rfl,rfl⟩:=X9;obtain⟨Z2,SI,hj⟩:=hI2;obtain⟨v,w'',g1,rfl,Z',Y',RX,g2,g3,g4,g5,g6⟩:=fin UA a2 w2 (some (.exit id'')) Z2 Uh SI;exact⟨_,w'',g1,false,Z',Y',rfl,⟨RX,g4,.inr ⟨rfl,some id'',g5,by rw[g6];exact hj,by simp[hin']⟩⟩,g2,g3⟩
  |goto t=>rcases iG (by simp) _ h with⟨h,_⟩|⟨_,_,_,h,_⟩<;>cases h
  |panic ch=>rcases iG (by simp) _ h with⟨h,_⟩|⟨_,_,_,h,_⟩<;>cases h
  |outgrown=>rcases iG (by simp) _ h with⟨h,_⟩|⟨_,_,_,h,_⟩<;>cases h
 |ret=>exact h.2.choose_spec.1.elim
 |exit id=>rcases h.1 with h|h<;>cases h
 |goto t=>rcases h.1 with h|h<;>cases h
 |panic ch=>rcases h.1 with h|h<;>cases h
 |outgrown=>rcases h.1 with h|h<;>cases h
variable {P:Program} {n:Nat} {st:St} {Q:St->Prop} {k:List It} {I:Mu} {w w':World}
def uB{a:Act}{g:Operand}{l:Nat}{f:FuncId}{cv:List Value}(h:a.eval g=.func (.func f) #[] ⟨cv⟩):
 (resolve a.eval (rangeCall g l) 0).run P w=.ok { target:=.fn (.func f) ⟨cv⟩,args:=#[.func (.yield l) #[] #[]] } w:=by
 simp only[resolve,h,Deferred.ofValue];simp[go_sem]
def ad.H7{g:VX}{ps:List Nat}{A B:bJ}{gf:FuncId}{caps:List V}(hg:g.ev st.s=.fn gf caps){xs:List (List V)}{Z0:ai}(hs00:aa Z0 st.U)
 (WM:eG P gf=true/\∀(RZ:Nat) (τ Jx:List (List V)->ai->Prop) (o:Ob),st.U RZ=none->
   (∀pre x post ZJ U,xs=pre++x::post->τ pre ZJ->aa ZJ U->
     YC P RZ x U λb Z'=>∃RX,bh ZJ U RX Z'/\((b=true/\τ (pre++[x]) RX)\/(b=false/\Jx (pre++[x]) RX)))->
   τ [] (C' Z0 RZ o)->qI P gf (.yl RZ::caps) (C' st.U RZ o) λ_ Z'=>τ xs Z'\/∃pre,pre <+: xs/\Jx pre Z')
 (hlen:∀x∈xs,x.length=ps.length)(UF:List Nat)(τ:List (List V)->ai->Prop)(Jx:Option Nat->List (List V)->ai->Prop)(h0:τ [] Z0)
 (V4:∀pre x post ZJ U,xs=pre++x::post->τ pre ZJ->aa ZJ U->
   ad P n [.code A,.stop λZQ=>ad P n (.code B::.stop (λUA=>∃Z2,bh ZJ U Z2 UA.U/\τ (pre++[x]) Z2)::
    exK (UF.map λid=>(id,λUA=>∃Z2,bh ZJ U Z2 UA.U/\Jx (some id) (pre++[x]) Z2))) ZQ (λUA=>∃Z2,bh ZJ U Z2 UA.U/\Jx none (pre++[x]) Z2)]
    ⟨mj st.s ps x,U⟩ (λ_=>False))
 (hdone:∀Z',τ xs Z'->ad P n k ⟨st.s,Z'⟩ Q)
 (hexit:∀id∈UF,∀pre Z',pre <+: xs->Jx (some id) pre Z'->ad P n (.code (.exit id)::k) ⟨st.s,Z'⟩ Q)
 (hret:∀pre Z',pre <+: xs->Jx none pre Z'->ad P n (.code .ret::k) ⟨st.s,Z'⟩ Q):ad P n (.code (.cX g ps A B)::k) st Q:=by
 intro F hn kt hk a w hs;subst hn;obtain⟨z,Ua,rfl,hy,Tl⟩:=eE hk;obtain⟨c0,rfl,hc⟩:=gB hy;have Vh:∃g0 ps0 a0 b0,c0=.rangeFunc g0 ps0 a0 b0/\cx F.n g0=g/\ps0.toList=ps/\dG P F.n a0=A/\dG P F.n b0=B:=by
  cases c0<;>simp only[dG,reduceCtorEq,bJ.cX.injEq]at hc
  case region=>(split at hc;cases hc);split at hc<;>cases hc
  exact⟨_,_,_,_,rfl,hc.1,hc.2.1,hc.2.2.1,hc.2.2.2⟩
 obtain⟨g0,ps0,a0,b0,rfl,rfl,rfl,rfl,rfl⟩:=Vh;obtain⟨I,hs⟩:=hs;have WN:=cM hs g0;rw[hg]at WN;simp only[E']at WN;obtain⟨cv,hgv,hcv⟩:=WN;refine wpIn_rangeFunc λfn _=>?_;obtain⟨mark,W0,D,Sj,Sf⟩:=hs.enter (P:=P) fn ps0 a0 b0;generalize Zo:({ state:=.ready,pending:=none,fn,tmps:=a.tmps,params:=ps0,assign:=a0,body:=b0,defers:=D }:Loop)=rec at Sf;have hr1:rec.state=.ready:=by rw[<-Zo]
 have hr2:rec.pending=none:=by rw[<-Zo]
 have hr3:rec.tmps=a.tmps:=by rw[<-Zo]
 have hr4:rec.params=ps0:=by rw[<-Zo]
 have hr5:rec.assign=a0:=by rw[<-Zo]
 have hr6:rec.body=b0:=by rw[<-Zo]
 have hszn:rec.tmps.size=F.n:=by rw[hr3];exact hs.size
 have henv:aA I (aG I st.U) W0 ((List.range F.n).map st.s) (tmpsOf (.loop rec)):=by
  have hl:tmpsOf (.loop rec)=(List.range F.n).map λi=>a.tmps.getD i undef:=by
   simp only[tmpsOf,hr3];apply List.ext_getElem
   .simp[hs.size]
   .intro i h1 h2;simp only[List.length_map,List.length_range]at h2;simp only[Array.getElem_toList,List.getElem_map,List.getElem_range];rw[Array.getD_eq_getD_getElem?,Array.getElem?_eq_getElem (by rw[hs.size];exact h2)];rfl
  rw[hl];have SK:∀l:List Nat,(∀i∈l,i<F.n)->aA I (aG I st.U) W0 (l.map st.s) (l.map λi=>a.tmps.getD i undef):=by
   intro l
   induction l with
   |nil=>intro _;simp[aA]
   |cons i l ih=>
    intro h;simp only[List.map_cons,aA];exact⟨_,_,rfl,Sj.slot i (h i (by simp)),ih λj hj=>h j (by simp[hj])⟩
  exact SK _ λi hi=>by simpa using hi
 obtain⟨RZ,hidn,X1,V5,WB,hsat1,T'⟩:=Sj.sat.PK (.loop rec) _ henv;generalize hE:(List.range F.n).map st.s=env at*;have hcvt:aA X1 (aG X1 (C' st.U RZ (gh (.loop rec) env))) (W0.alloc (.loop rec)) caps cv:=by
  have h1:aA I (aG I st.U) W0 caps cv:=by
   have h2:=cM Sj g0;rw[hg]at h2;simp only[E']at h2;obtain⟨cv',h3,h4⟩:=h2;have:a.eval g0=.func (.func gf) #[] ⟨cv'⟩:=h3;rw[hgv]at this;simp only[Value.func.injEq,Array.mk.injEq,true_and]at this;rw[this];exact h4
  exact aA.mono WB T' (by simp) _ _ h1
 obtain⟨Tg,hiter⟩:=WM;have key:=hiter RZ (λpre ZJ=>ZJ RZ=some (gh (.loop rec) env)/\τ pre (del ZJ RZ))
  (λpre ZJ=>∃e:Option Nat,ZJ RZ=some (gh (.loop { rec with state:=.done,pending:=some (Eg e) }) env)/\Jx e pre (del ZJ RZ)/\∀id,e=some id->id∈UF)
  (gh (.loop rec) env) hidn ?_ ⟨ag,by rw[Cx (hs00.none hidn)];exact h0⟩
 .refine⟨W0.heap.size,mark,_,_,_,gf,_,_,by rw[show F.eP.round=F.eP.round from rfl];exact Sf,uB hgv,λ_ _=>trivial,
   by simp only[invoke];exact lv Tg _,j5 F,nk ?_⟩
  have Sp:aA X1 (aG X1 (C' st.U RZ (gh (.loop rec) env))) (W0.alloc (.loop rec)) (.yl RZ::caps) (.func (.yield W0.heap.size) #[] #[]::cv):=by
   simp only[aA];exact⟨_,_,rfl,by simp[E',V5],hcvt⟩
  have SJ:=key X1 _ _ hsat1.here Sp;have hvals:(Value.func (.yield W0.heap.size) #[] #[]::cv).toArray=#[.func (.yield W0.heap.size) #[] #[]]++⟨cv⟩:=by
   apply Array.ext';simp
  rw[hvals]at SJ;refine SJ.mono ?_;rintro e w2 ⟨r,Z',Y',val,rfl,hp,XB,Uh,-⟩;obtain⟨hs3,WL⟩:=hsat1.compose Uh;have Yu:Y' RZ=.Ss W0.heap.size 0 0:=(XB RZ (by rw[V5];simp)).trans V5;have fin:∀(W6:Loop),Z' RZ=some (gh (.loop W6) env)->W6.state≠.busy->∃w4,(Instr.endLoop W0.heap.size).run P w2=.ok W6.pending w4/\
   fK F ⟨st.s,del Z' RZ⟩ { a with defers:=mark++a.defers } w4:=by
   intro W6 SN RV;obtain⟨hl2,henv2⟩:=Uh.NF SN Yu;refine⟨_,run_endLoop hl2 RV,Y',?_⟩;have XC:=hs3.Qx SN Yu (.loop { W6 with state:=.exhausted }) env henv2;have G':aa (del Z' RZ) (C' Z' RZ (gh (.loop { W6 with state:=.exhausted }) env)):=λi o h=>by
    unfold del at h;split at h
    .cases h
    .rename_i hi;rw[ab hi];exact h
   have Ya:=db.sub (I:=Y') (w2.putObj W0.heap.size (.loop { W6 with state:=.exhausted })) G';have hsz2:=Uh.size;have hkall:db (aG I st.U) (aG Y' (del Z' RZ)) W0 (w2.putObj W0.heap.size (.loop { W6 with state:=.exhausted })):=λb hb hn=>by
    obtain⟨q1,q2⟩:=T' b hb hn;have Ww:b<(W0.alloc (.loop rec)).heap.size:=by simp;omega
    obtain⟨q3,q4⟩:=WL b Ww q1;have Sx:b<w2.heap.size:=Nat.lt_of_lt_of_le Ww hsz2;obtain⟨q5,q6⟩:=XC.2 b Sx q3;exact⟨λho=>q5 (ho.sub G'),q6.trans (q4.trans q2)⟩
   have hle3:df I Y':=WB.trans XB;have hz:W0.heap.size<=(w2.putObj W0.heap.size (.loop { W6 with state:=.exhausted })).heap.size:=by
    simp at hsz2|-;omega
   exact⟨XC.1.drop G',Sj.le.trans hle3,Sj.size,Sj.book.mc hkall,λi hi=>E'.mono hle3 hkall hz _ _ (Sj.slot i hi)⟩
  rcases hp with⟨SN,hj⟩|⟨pre,Wu,e,SN,hj,X9⟩
  .obtain⟨w4,g1,g2⟩:=fin rec SN (by rw[hr1];simp);refine⟨_,w4,g1,?_⟩;rw[hr2];exact hdone _ hj F rfl Ua Tl _ _ g2
  .obtain⟨w4,g1,g2⟩:=fin _ SN (by simp);refine⟨_,w4,g1,?_⟩;cases e with
   |none=>exact hret pre _ Wu hj F rfl (.code .ret::Ua) (by simp[KI.it,Tl,dG]) _ _ g2
   |some id=>exact hexit id (X9 id rfl) pre _ Wu hj F rfl (.code (.exit id)::Ua) (by simp[KI.it,Tl,dG]) _ _ g2
 .intro pre x post ZJ U Ub hJ G';have hx:x.length=rec.params.toList.length:=by rw[hr4];exact hlen x (by rw[Ub];simp)
  have hb:=V4 pre x post (del ZJ RZ) (del U RZ) Ub hJ.2 (BZ G');subst hE;refine FT hr1 hr2 hszn hx hJ.1 G' (τ (pre++[x])) UF (λe=>Jx e (pre++[x])) ?_;rw[hr4,hr5,hr6];exact hb
def ad.cX{g:VX}{ps:List Nat}{A B:bJ}{gf:FuncId}{caps:List V}(hg:g.ev st.s=.fn gf caps){xs:List (List V)}(WM:Iter P gf caps xs)
 (hlen:∀x∈xs,x.length=ps.length)(UF:List Nat)(τ:List (List V)->ai->Prop)(Jx:Option Nat->List (List V)->ai->Prop)(h0:τ [] st.U)
 (V4:∀pre x post ZJ U,xs=pre++x::post->τ pre ZJ->aa ZJ U->
   ad P n [.code A,.stop λZQ=>ad P n (.code B::.stop (λUA=>∃Z2,bh ZJ U Z2 UA.U/\τ (pre++[x]) Z2)::
    exK (UF.map λid=>(id,λUA=>∃Z2,bh ZJ U Z2 UA.U/\Jx (some id) (pre++[x]) Z2))) ZQ (λUA=>∃Z2,bh ZJ U Z2 UA.U/\Jx none (pre++[x]) Z2)]
    ⟨mj st.s ps x,U⟩ (λ_=>False))
 (hdone:∀Z',τ xs Z'->ad P n k ⟨st.s,Z'⟩ Q)
 (hexit:∀id∈UF,∀pre Z',pre <+: xs->Jx (some id) pre Z'->ad P n (.code (.exit id)::k) ⟨st.s,Z'⟩ Q)
 (hret:∀pre Z',pre <+: xs->Jx none pre Z'->ad P n (.code .ret::k) ⟨st.s,Z'⟩ Q):ad P n (.code (.cX g ps A B)::k) st Q:=
 ad.H7 hg (aa.refl _) ⟨WM.1,λRZ J' Jx' _ _ hb h=>WM.2 RZ J' Jx' _ hb h⟩ hlen UF τ Jx h0 V4 hdone hexit hret
variable {P:Program} {n:Nat} {st:St} {Q:St->Prop} {k:List It}
def dU(RS:List (List Nat))(A':List Nat):List Nat:=(List.range RS.length).filter λi=>!A'.contains i&&(RS.getD i []).all A'.contains
abbrev jo(ops:Array Oper):List (List Nat):=ops.toList.map λo=>(o.after.toList.filter (Region.binds .any)).map (·.on)
def vO{ops:Array Oper}{arr:Array Bool}{A':List Nat}(hs:arr.size=ops.size)(hl:∀i,i<ops.size->arr.getD i true=A'.contains i)
 (ho:∀i∈A',i<ops.size):Region.ready .any ops arr=dU (jo ops) A':=by
 unfold Region.ready dU;have hlen:(jo ops).length=ops.size:=by simp[jo]
 rw[hlen];refine List.filter_congr λi hi=>?_;have hi:i<ops.size:=by simpa using hi
 rw[hl i hi];congr 1;have h1:ops[i]?=some ops[i]:=Array.getElem?_eq_getElem hi;have h2:(jo ops).getD i []=(ops[i].after.toList.filter (Region.binds .any)).map (·.on):=by
  rw[List.getD_eq_getElem?_getD];simp[jo,hi]
 rw[h1,h2];simp only[Option.map_some,Option.getD_some];rw[<-Array.all_toList,List.all_map,List.all_filter];congr 1;funext e;simp only[Function.comp];have h3:arr.getD e.on false=A'.contains e.on:=by
  by_cases he:e.on<ops.size
  .rw[<-hl _ he,Array.getD_eq_getD_getElem?,Array.getD_eq_getD_getElem?,Array.getElem?_eq_getElem (by omega)];rfl
  .rw[Array.getD_eq_getD_getElem?,Array.getElem?_eq_none (by omega)];simp only[Option.getD_none];symm;rw[Bool.eq_false_iff];intro hc;exact he (ho _ (by simpa using hc))
 rw[h3]
def BB:(((((((type_of%@BQ)/\(type_of%@Cc))/\((type_of%@B9)/\(type_of%@wo)))/\(((type_of%@Aj)/\(type_of%@oY))/\((type_of%@o7)/\(type_of%@qH))))/\((((type_of%@ux)/\(type_of%@rh))/\((type_of%@qK)/\(type_of%@yQ)))/\(((type_of%@BM)/\(type_of%@u9))/\((type_of%@zf)/\(type_of%@zE)))))/\(((((type_of%@BV)/\(type_of%@zC))/\((type_of%@sT)/\(type_of%@CD)))/\(((type_of%@Ax)/\(type_of%@yP))/\((type_of%@CM)/\(type_of%@AA))))/\((((type_of%@NX)/\(type_of%@Nt))/\((type_of%@Fm)/\(type_of%@CF)))/\(((type_of%@GB)/\(type_of%@Gv))/\((type_of%@Gg)/\((type_of%@Gm)/\(type_of%@FZ)))))))/\((((((type_of%@ui)/\(type_of%@tC))/\((type_of%@x8)/\(type_of%@tD)))/\(((type_of%@th)/\(type_of%@ur))/\((type_of%@qs)/\(type_of%@Cr))))/\((((type_of%@Gy)/\(type_of%@F4))/\((type_of%@GH)/\(type_of%@FG)))/\(((type_of%@sZ)/\(type_of%@qh))/\((type_of%@Ad)/\((type_of%@GJ)/\(type_of%@I5))))))/\(((((type_of%@IM)/\(type_of%@IX))/\((type_of%@I0)/\(type_of%@x6)))/\(((type_of%@zJ)/\(type_of%@zZ))/\((type_of%@Eu)/\(type_of%@Ja))))/\((((type_of%@I1)/\(type_of%@IN))/\((type_of%@IK)/\(type_of%@zg)))/\(((type_of%@yC)/\(type_of%@oK))/\((type_of%@CQ)/\((type_of%@B2)/\(type_of%@Cu))))))))/\(((((((type_of%@vd)/\(type_of%@vH))/\((type_of%@IV)/\(type_of%@IZ)))/\(((type_of%@Oc)/\(type_of%@N9))/\((type_of%@Au)/\(type_of%@Ai))))/\((((type_of%@tI)/\(type_of%@uk))/\((type_of%@zu)/\(type_of%@Cb)))/\(((type_of%@uV)/\(type_of%@xZ))/\((type_of%@vq)/\(type_of%@uW)))))/\(((((type_of%@oU)/\(type_of%@lq))/\((type_of%@ag)/\(type_of%@Cj)))/\(((type_of%@true_implies)/\(type_of%@false_implies))/\((type_of%@implies_true.{0})/\(type_of%@AE))))/\((((type_of%@List.getD_cons_zero.{0})/\(type_of%@List.getD_cons_succ.{0}))/\((type_of%@List.getD_nil.{0})/\(type_of%@List.map_cons.{0,0})))/\(((type_of%@List.map_nil.{0,0})/\(type_of%@List.length_cons.{0}))/\((type_of%@List.length_nil.{0})/\((type_of%@List.drop_succ_cons.{0})/\(type_of%@List.drop_zero.{0})))))))/\((((((type_of%@List.take_succ_cons.{0})/\(type_of%@List.take_zero.{0}))/\((type_of%@List.set_cons_zero.{0})/\(type_of%@List.set_cons_succ.{0})))/\(((type_of%@List.append_nil.{0})/\(type_of%@List.nil_append.{0}))/\((type_of%@List.cons_append.{0})/\(type_of%@List.all_cons.{0}))))/\((((type_of%@List.all_nil.{0})/\(type_of%@List.getElem?_cons_zero.{0}))/\((type_of%@List.getElem?_cons_succ.{0})/\(type_of%@List.contains_cons.{0})))/\(((type_of%@List.contains_nil.{0})/\(type_of%@Option.isSome_some.{0}))/\((type_of%@Option.map_some.{0,0})/\((type_of%@Option.map_none.{0,0})/\(type_of%@true_and))))))/\(((((type_of%@and_true)/\(type_of%@and_self))/\((type_of%@Nat.zero_add)/\(type_of%@Nat.add_zero)))/\(((type_of%@Bool.not_true)/\(type_of%@Bool.not_false))/\((type_of%@Bool.false_eq_true)/\(type_of%@Bool.or_true))))/\((((type_of%@Bool.true_or)/\(type_of%@Bool.or_false))/\((type_of%@Bool.false_or)/\(type_of%@Bool.true_and)))/\(((type_of%@Bool.and_true)/\(type_of%@Bool.and_self))/\((type_of%@decide_true)/\((type_of%@decide_false)/\(type_of%@decide_eq_true_eq)))))))):=
 ⟨⟨⟨⟨⟨⟨⟨@BQ,@Cc⟩,⟨@B9,@wo⟩⟩,⟨⟨@Aj,@oY⟩,⟨@o7,@qH⟩⟩⟩,⟨⟨⟨@ux,@rh⟩,⟨@qK,@yQ⟩⟩,⟨⟨@BM,@u9⟩,⟨@zf,@zE⟩⟩⟩⟩,⟨⟨⟨⟨@BV,@zC⟩,⟨@sT,@CD⟩⟩,⟨⟨@Ax,@yP⟩,⟨@CM,@AA⟩⟩⟩,⟨⟨⟨@NX,@Nt⟩,⟨@Fm,@CF⟩⟩,⟨⟨@GB,@Gv⟩,⟨@Gg,⟨@Gm,@FZ⟩⟩⟩⟩⟩⟩,⟨⟨⟨⟨⟨@ui,@tC⟩,⟨@x8,@tD⟩⟩,⟨⟨@th,@ur⟩,⟨@qs,@Cr⟩⟩⟩,⟨⟨⟨@Gy,@F4⟩,⟨@GH,@FG⟩⟩,⟨⟨@sZ,@qh⟩,⟨@Ad,⟨@GJ,@I5⟩⟩⟩⟩⟩,⟨⟨⟨⟨@IM,@IX⟩,⟨@I0,@x6⟩⟩,⟨⟨@zJ,@zZ⟩,⟨@Eu,@Ja⟩⟩⟩,⟨⟨⟨@I1,@IN⟩,⟨@IK,@zg⟩⟩,⟨⟨@yC,@oK⟩,⟨@CQ,⟨@B2,@Cu⟩⟩⟩⟩⟩⟩⟩,⟨⟨⟨⟨⟨⟨@vd,@vH⟩,⟨@IV,@IZ⟩⟩,⟨⟨@Oc,@N9⟩,⟨@Au,@Ai⟩⟩⟩,⟨⟨⟨@tI,@uk⟩,⟨@zu,@Cb⟩⟩,⟨⟨@uV,@xZ⟩,⟨@vq,@uW⟩⟩⟩⟩,⟨⟨⟨⟨@oU,@lq⟩,⟨@ag,@Cj⟩⟩,⟨⟨@true_implies,@false_implies⟩,⟨@implies_true.{0},@AE⟩⟩⟩,⟨⟨⟨@List.getD_cons_zero.{0},@List.getD_cons_succ.{0}⟩,⟨@List.getD_nil.{0},@List.map_cons.{0,0}⟩⟩,⟨⟨@List.map_nil.{0,0},@List.length_cons.{0}⟩,⟨@List.length_nil.{0},⟨@List.drop_succ_cons.{0},@List.drop_zero.{0}⟩⟩⟩⟩⟩⟩,⟨⟨⟨⟨⟨@List.take_succ_cons.{0},@List.take_zero.{0}⟩,⟨@List.set_cons_zero.{0},@List.set_cons_succ.{0}⟩⟩,⟨⟨@List.append_nil.{0},@List.nil_append.{0}⟩,⟨@List.cons_append.{0},@List.all_cons.{0}⟩⟩⟩,⟨⟨⟨@List.all_nil.{0},@List.getElem?_cons_zero.{0}⟩,⟨@List.getElem?_cons_succ.{0},@List.contains_cons.{0}⟩⟩,⟨⟨@List.contains_nil.{0},@Option.isSome_some.{0}⟩,⟨@Option.map_some.{0,0},⟨@Option.map_none.{0,0},@true_and⟩⟩⟩⟩⟩,⟨⟨⟨⟨@and_true,@and_self⟩,⟨@Nat.zero_add,@Nat.add_zero⟩⟩,⟨⟨@Bool.not_true,@Bool.not_false⟩,⟨@Bool.false_eq_true,@Bool.or_true⟩⟩⟩,⟨⟨⟨@Bool.true_or,@Bool.or_false⟩,⟨@Bool.false_or,@Bool.true_and⟩⟩,⟨⟨@Bool.and_true,@Bool.and_self⟩,⟨@decide_true,⟨@decide_false,@decide_eq_true_eq⟩⟩⟩⟩⟩⟩⟩⟩
def CC:(∀(l:List V),V.cells (.agg l)=l)/\(V.cells (.undef )=[.undef ])/\(∀(k:IntKind) (i:Int),V.cells (.int k i)=[.int k i])/\(∀(b:Bool),V.cells (.bool b)=[.bool b])/\(∀(s:List UInt8),V.cells (.str s)=[.str s])/\(V.cells (.aC )=[.aC ])/\(∀(a:Nat) (l:List V),V.cells (.sl a l)=[.sl a l])/\(∀(a b c:Nat),V.cells (.own a b c)=[.own a b c])/\(∀(a b c:Nat),V.cells (.ptr a b c)=[.ptr a b c])/\(∀(a:V),V.cells (.rp a)=[.rp a])/\(V.cells (.Sc )=[.Sc ])/\(∀(f:FuncId) (l:List V),V.cells (.fn f l)=[.fn f l])/\(∀(f:FuncId) (l:List V),V.cells (.bm f l)=[.bm f l])/\(V.cells (.RQ )=[.RQ ])/\(∀(t:TypeId) (a:V),V.cells (.iface t a)=[.iface t a])/\(V.cells (.Si )=[.Si ])/\(∀(l:List V),V.cells (.RB l)=[.RB l])/\(∀(x:Value),V.cells (.raw x)=[.raw x])/\(∀(a:Nat),V.cells (.gp a)=[.gp a])/\(∀(a:Nat),V.cells (.yl a)=[.yl a])/\(∀(a:Nat),V.cells (.mp a)=[.mp a])/\(∀(l:List V),V.stays (.agg l)=true)/\(V.stays (.undef )=false)/\(∀(k:IntKind) (i:Int),V.stays (.int k i)=true)/\(∀(b:Bool),V.stays (.bool b)=true)/\(∀(s:List UInt8),V.stays (.str s)=true)/\(V.stays (.aC )=true)/\(∀(a:Nat) (l:List V),V.stays (.sl a l)=true)/\(∀(a b c:Nat),V.stays (.own a b c)=true)/\(∀(a b c:Nat),V.stays (.ptr a b c)=true)/\(∀(a:V),V.stays (.rp a)=true)/\(V.stays (.Sc )=true)/\(∀(f:FuncId) (l:List V),V.stays (.fn f l)=true)/\(∀(f:FuncId) (l:List V),V.stays (.bm f l)=true)/\(V.stays (.RQ )=true)/\(∀(t:TypeId) (a:V),V.stays (.iface t a)=true)/\(V.stays (.Si )=true)/\(∀(l:List V),V.stays (.RB l)=false)/\(∀(a:Nat),V.stays (.gp a)=true)/\(∀(a:Nat),V.stays (.yl a)=true)/\(∀(a:Nat),V.stays (.mp a)=true):=
 ⟨λ_=>rfl,rfl,λ_ _=>rfl,λ_=>rfl,λ_=>rfl,rfl,λ_ _=>rfl,λ_ _ _=>rfl,λ_ _ _=>rfl,λ_=>rfl,rfl,λ_ _=>rfl,λ_ _=>rfl,rfl,λ_ _=>rfl,rfl,λ_=>rfl,λ_=>rfl,λ_=>rfl,λ_=>rfl,λ_=>rfl,λ_=>rfl,rfl,λ_ _=>rfl,λ_=>rfl,λ_=>rfl,rfl,λ_ _=>rfl,λ_ _ _=>rfl,λ_ _ _=>rfl,λ_=>rfl,rfl,λ_ _=>rfl,λ_ _=>rfl,rfl,λ_ _=>rfl,rfl,λ_=>rfl,λ_=>rfl,λ_=>rfl,λ_=>rfl⟩
def Ru{p:Prop}[Decidable p]:(!decide p)=decide (¬p):=decide_not.symm
def sR{P:Program}{n:Nat}{todo:List It}{st:St}{Q:St->Prop}(h:step P TJ.nothing n 300 (.r todo) st Q):ad P n todo st Q:=ad.bN TJ.nothing 300 h
def sG{P:Program}{n:Nat}{t:Td}{st:St}{Q:St->Prop}(h:step P TJ.nothing n 300 t st Q):Go P n t st Q:=Go.bN TJ.nothing 300 t st h
attribute [go_sem] BB CC Ru TJ.nothing bx fg aL cU eJ eo eN dY cz jQ gx bI fH dP fq cL cP bF iP dh cQ cp SG jT dd cc iO dI cd dc cZ kG binBV bW dp
def aa.Ik{Z0 U:ai}{e:Nat}(h:aa Z0 U)(he:Z0 e=Option.none):aa Z0 (del U e):=λi x hx=>by
 have R6:i≠e:=λe'=>by rw[e',he]at hx;cases hx
 rw[dK R6];exact h i x hx
def nI:(∀{P:Program} {O:TJ P} {n:Nat} {k:List It} {st:St} {Q:St->Prop},step P O n 0 (.r k) st Q=Kof P n k st Q)/\(∀{P:Program} {n:Nat} {c:bJ} {k:List It} {st:St} {Q:St->Prop},Kof P n (.code c::k) st Q=ad P n (.code c::k) st Q)/\
 (∀{P:Program} {n:Nat} {l:List aN} {k:List It} {st:St} {Q:St->Prop},Kof P n (.ops l::k) st Q=ad P n (.ops l::k) st Q)/\(∀{P:Program} {n id:Nat} {k:List It} {st:St} {Q:St->Prop},Kof P n (.inBlock id::k) st Q=ad P n (.inBlock id::k) st Q)/\
 ∀{P:Program} {n:Nat} {st:St} {Q:St->Prop},Kof P n [] st Q=ad P n [] st Q:=⟨rfl,rfl,rfl,rfl,rfl⟩
def Wk.aC{U Z':ai}(sz:Nat):Wk U Z' .aC (.sl sz []):=by
 intro I w0 w Su x hs hr;simp only[E']at hr|-;exact⟨none,0,by simpa using hr,by simp,.inl trivial⟩
def aT(K U:ai)(e sz:Nat)(v:V)(rows:List V):Prop:=(v=.aC/\rows=[])\/∃id,v=.own id 0 rows.length/\U id=some ⟨e,sz,rows⟩/\K id=none
def aT.wk{K U:ai}{e sz:Nat}{v:V}{rows:List V}(h:aT K U e sz v rows){K':ai}(hK:aa K' K)(hs:aa K' U):Wk U K' v (.sl sz rows):=by
 rcases h with⟨rfl,rfl⟩|⟨id,rfl,ho,hk⟩
 .exact Wk.aC sz
 .have:=Wk.own hs ho (hK.none hk) (off:=0) (len:=rows.length) (by simp);rw[List.drop_zero,List.take_length]at this;exact this
def aT.Et{K U:ai}{e sz:Nat}{v:V}{rows:List V}(h:aT K U e sz v rows)(hs:aa K U){v0:V}(hv:V.sl sz rows=v0):
 ay v U λr Z'=>r=v0/\Z'=K:=⟨_,K,hs,h.wk (aa.refl K) hs,hv,rfl⟩
def ga{P:Program}{n:Nat}{Q:St->Prop}{k:List It}{O:TJ P}{f:Nat}{d:Option Nat}{l:List aN}{v:Nat->V}{ob:Ob}{s:Nat->V}{U:ai}{e:Option Nat}
 (h:∀id Z',aa (bK U e) Z'->Z' id=some ob->U id=none->step P O n f (.r (.ops l::k)) ⟨aX s d (v id),Z'⟩ Q):
 HT P O n f l k d ⟨s,U⟩ Q (some λid=>(v id,Vc.C' (bK U e) id ob)):=by
 rw[aO];refine λid M'=>h id _ ((aa.refl _).C' ?_) ag M';cases e with
 |none=>exact M'
 |some e=>
  simp only[bK,del];split
  .rfl
  .exact M'
def ju{P:Program}{n:Nat}{Q:St->Prop}{k:List It}{O:TJ P}{f:Nat}{d:Option Nat}{l:List aN}{v:Nat->V}{ob:Ob}{s:Nat->V}{U:ai}{e:Option Nat}
 (h:∀id Z',aa (bK U e) Z'->Z' id=some ob->U id=none->step P O n f (.d l k) ⟨aX s d (v id),Z'⟩ Q):
 Gu P O n f l k d ⟨s,U⟩ Q (some λid=>(v id,Vc.C' (bK U e) id ob)):=by
 rw[aP];refine λid M'=>h id _ ((aa.refl _).C' ?_) ag M';cases e with
 |none=>exact M'
 |some e=>
  simp only[bK,del];split
  .rfl
  .exact M'
def aT.dst{K U:ai}{e sz:Nat}{v:V}{rows:List V}(h:aT K U e sz v rows){Z1:ai}(hs:aa U Z1):
 ∃RN,cg Z1 e sz v=some (rows,RN)/\∀K':ai,aa K' K->∀Z2,aa K' Z2->aa K' (bK Z2 RN):=by
 rcases h with⟨rfl,rfl⟩|⟨id,rfl,ho,hk⟩
 .exact⟨none,rfl,λ_ _ _ h=>h⟩
 .refine⟨some id,?_,λK' hK Z2 h=>h.Ik (hK.none hk)⟩;simp only[cg,hs _ _ ho];rw[if_pos ⟨trivial,trivial,trivial,Nat.le_refl _⟩,List.take_length]
def aT.start{K U:ai}{e sz:Nat}:aT K U e sz .aC []:=.inl ⟨rfl,rfl⟩
def aT.new{K U:ai}{e sz id:Nat}{rows:List V}{n:Nat}(hn:n=rows.length)(h:U id=some ⟨e,sz,rows⟩)(hk:K id=none):aT K U e sz (.own id 0 n) rows:=by
 subst hn;exact .inr ⟨id,rfl,h,hk⟩
def aT.len{K U:ai}{e sz:Nat}{v:V}{rows:List V}(h:aT K U e sz v rows):dy false v=some (.int .i64 rows.length):=by
 rcases h with⟨rfl,rfl⟩|⟨id,rfl,ho,hk⟩<;>rfl
def aT.mono{K U Z':ai}{e sz:Nat}{v:V}{rows:List V}(h:aT K U e sz v rows)(hs:aa U Z'):aT K Z' e sz v rows:=by
 rcases h with h|⟨id,h1,h2,h3⟩
 .exact .inl h
 .exact .inr ⟨id,h1,hs _ _ h2,h3⟩
def dT{U:ai}{id e sz:Nat}{r:V}(h:U id=some ⟨e,sz,[r]⟩):bR U sz (.own id 0 1)=some [r]:=by
 simp[bR,h]
def Wk.ptr{U Z':ai}(h:aa Z' U){id:Nat}{e sz:Nat}{r:V}(ho:U id=some ⟨e,sz,[r]⟩)(M':Z' id=none):Wk U Z' (.ptr id 0 0) (.rp r):=by
 intro I w0 w Su x hs hr;simp only[E']at hr|-;have Sw:=hs.obj id _ ho;split at hr
 .rename_i b UC cap hb;obtain⟨rfl,hz⟩:=hr;rw[hb]at Sw;have H':b<w.heap.size:=aG.lt hs ⟨id,_,_,_,ho,hb⟩;obtain⟨g1,g2,g3,g4,g5⟩:=Sw.rows hz;refine⟨b,_,rfl,H',.inr ?_,?_⟩
  .rintro⟨Tx,ob',sz'',cap'',e1,e2⟩;have:=hs.inj Tx id ob' _ _ _ _ _ _ (h _ _ e1) ho e2 hb;rw[this,M']at e1;cases e1
  .simp only[aY]at g5;have:=aY.mono (df.refl I) (db.sub w h) (Nat.le_refl _) [r] b 0 UC rfl (by simp only[aY];exact⟨g5.1,g5.2.1,trivial⟩);simp only[aY]at this;simpa using this.2.1
 .exact hr.elim
def Wk.fn{U Z':ai}{f:FuncId}{vs vs':List V}(h:ZP U Z' vs vs'):Wk U Z' (.fn f vs) (.fn f vs'):=by
 intro I w0 w Su x hs hr;simp only[E']at hr|-;obtain⟨RF,rfl,h1⟩:=hr;exact⟨RF,rfl,ZP.all hs h h1⟩
def V.vx(vs:List V):V.cells (.agg vs)=vs:=rfl
def V.vF(k:IntKind)(i:Int):V.cells (.int k i)=[.int k i]:=rfl
def V.td:V.cells .aC=[.aC]:=rfl
def V.vm(a b c:Nat):V.cells (.own a b c)=[.own a b c]:=rfl
def V.Ao(a:Nat)(b:List V):V.cells (.sl a b)=[.sl a b]:=rfl
def V.wa(a:List UInt8):V.cells (.str a)=[.str a]:=rfl
def V.um(a:Bool):V.cells (.bool a)=[.bool a]:=rfl
def V.zL(a:FuncId)(b:List V):V.cells (.fn a b)=[.fn a b]:=rfl
def V.vV(a b c:Nat):V.cells (.ptr a b c)=[.ptr a b c]:=rfl
def V.Ae(a:V):V.cells (.rp a)=[.rp a]:=rfl
def V.vX(vs:List V):V.stays (.agg vs)=true:=rfl
def V.wu(k:IntKind)(i:Int):V.stays (.int k i)=true:=rfl
def V.sN:V.stays .aC=true:=rfl
def V.vk(a b c:Nat):V.stays (.own a b c)=true:=rfl
def V.zD(a:Nat)(b:List V):V.stays (.sl a b)=true:=rfl
def V.vi(a:List UInt8):V.stays (.str a)=true:=rfl
def V.tr(a:Bool):V.stays (.bool a)=true:=rfl
def V.zK(a:FuncId)(b:List V):V.stays (.fn a b)=true:=rfl
def V.vL(a b c:Nat):V.stays (.ptr a b c)=true:=rfl
def V.yR(a:V):V.stays (.rp a)=true:=rfl
abbrev vI(n:Int):V:=.int .i64 n
structure SW where
 (top RT RI Rx Sv R8 Sh head before after inside clear:Int)
deriving DecidableEq
def SW.cells(s:SW):List V:=[vI s.top,vI s.RT,vI s.RI,vI s.Rx,vI s.Sv,vI s.R8,vI s.Sh,vI s.head,vI s.before,vI s.after,vI s.inside,vI s.clear]
structure Nd where
 (kind size:Int)
 (st:SW)
 (line space:Int)
 (words:List Int)
 (side w h:Int)
deriving DecidableEq
def bn(l:List Int):V:=.sl 1 (l.map vI)
def Nd.cells(x:Nd):List V:=[vI x.kind,vI x.size,vI x.st.top,vI x.st.RT,vI x.st.RI,vI x.st.Rx,vI x.st.Sv,vI x.st.R8,vI x.st.Sh,vI x.st.head,vI x.st.before,vI x.st.after,vI x.st.inside,vI x.st.clear,
 vI x.line,vI x.space,bn x.words,vI x.side,vI x.w,vI x.h]
def iz(x:Nd):V:=.agg x.cells
def mx:Int:=1099511627776
def br(n a b:Int):Bool:=decide (n>=a/\n<=b)
def SW.ok(s:SW):Bool:=br s.top 0 mx&&br s.RT 0 mx&&br s.RI 0 mx&&br s.Rx 0 mx&&br s.Sv 0 mx&&br s.R8 1 mx&&br s.Sh 1 mx&&br s.head 0 mx&&
 br s.before 0 4&&br s.after 0 4&&br s.inside 0 1&&br s.clear 0 3
def SW.zero:SW:=⟨0,0,0,0,0,0,0,0,0,0,0,0⟩
def aK(l:List Nd):V:=.sl 20 (l.map iz)
def fj(l:List Nd):dy false (aK l)=some (.int .i64 l.length):=by simp[aK,dy]
def ae(l:List Nd):(aK l).cells=[aK l]:=rfl
def ax(l:List Nd):(aK l).stays=true:=rfl
end Go.Vc
