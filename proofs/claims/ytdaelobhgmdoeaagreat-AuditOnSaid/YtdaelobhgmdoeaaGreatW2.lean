/- Part 2 of the library of this proof. -/
import Derived.Test.YtdaelobhgmdoeaaGreatW1
import Derived.TacticsIn
import Derived.RangeFuncNested
import Derived.RangeFuncLeaves
import Derived.Orders
import Derived.OrdersIn
import Derived.Lib.SliceRun
import Derived.WideLaws
import Derived.Attr
import Derived.Laws.RangeString
import Derived.Laws.Runes
set_option linter.all false
set_option maxHeartbeats 8000000
namespace Go.Vc
inductive It where
 |code (c:bf)
 |inBlock (id:Nat)
 |ops (l:List az)
 |stop (μ:St->Prop)
inductive KI where
 |code (c:Code)
 |inBlock (id:Nat)
 |ops (all:Array Oper) (l:List Oper)
 |stop (μ:St->Prop)
def KI.it(P:Program)(n:Nat):KI->It
 |.code c=>.code (cY P n c)
 |.inBlock id=>.inBlock id
 |.ops all l=>.ops (l.map (bI P n all))
 |.stop μ=>.stop μ
def Fr.dV(F:Fr):Fence:={ Fence.wide with round:=F.rd.map (·.1) }
def lq(F:Fr):F.dV.depth.isSome=true->1<=0:=λh=>by simp[Fr.dV,Fence.wide]at h
def pK{F:Fr}{n:Nat}{P:Program}{f:FuncId}{args:Array Value}{w:World}{R:Ending->World->Prop}(h:Calls P f args w R):CallsIn F.dV n P f args w R:=by
 have h1:CallsIn Fence.wide n P f args w R:=callsIn_wide.2 h;exact h1
def GS{F:Fr}{P:Program}{o:Oper}{a:Act}{w:World}{next:Act->World->Prop}{Q:Exit->Act->World->Prop}(hd:∀c,o.op≠.defer c)(h:o.wp P a w next Q):
 o.wpIn F.dV 0 P a w next Q:=by
 refine⟨λ_ _=>trivial,?_⟩;rw[Oper.semAt_eq _ _ _ hd];unfold Oper.wp at h;generalize (execOp a.eval o).run P w=r at*;cases r with
 |ok x w'=>
  cases x<;>simp only[Oper.upon,Oper.uponIn]at h|-<;>first
   |exact h
   |exact⟨lq F,pK h⟩
   |contradiction
   |skip
  exact⟨lq F,λc cs _=>let ⟨v,w',r,s⟩:=h c cs;⟨v,w',r,stepsIn_wide.2 s⟩⟩
 |halt x w'=>cases x<;>simp only[Oper.upon,Oper.uponIn]at h|-<;>first|exact h|contradiction
def j7{P:Program}{n:Nat}{o:Op}(h:Yh P n o≠.bad)(c:Call):o≠.defer c:=λe=>by subst e;exact h rfl
def ku(P:Program)(F:Fr)(Q:St->Prop):List KI->Exit->Act->World->Prop
 |[],e,a,w=>(e=.normal\/e=.ret)/\∃st,Q st/\ee F st a w
 |.code c::k,e,a,w=>match e with
   |.normal=>c.wpIn F.dV 0 P (ku P F Q k) a w
   |e=>ku P F Q k e a w
 |.inBlock id::k,e,a,w=>Exit.inBlock id (ku P F Q k) e a w
 |.ops all l::k,e,a,w=>match e with
   |.normal=>wpListIn F.dV 0 P all (ku P F Q k) l a w
   |e=>ku P F Q k e a w
 |.stop μ::k,e,a,w=>match e with
   |.normal=>∃st,μ st/\ee F st a w
   |e=>ku P F Q k e a w
def ab(P:Program)(n:Nat)(todo:List It)(st:St)(Q:St->Prop):Prop:=
 ∀F:Fr,F.n=n->∀kt:List KI,kt.map (KI.it P n)=todo->∀a w,ee F st a w->ku P F Q kt .normal a w
variable {P:Program} {n:Nat} {st:St} {Q:St->Prop} {k:List It}
def ab.nil(h:Q st):ab P n [] st Q:=by
 intro F _ kt hk a w hs;cases kt with
 |nil=>exact⟨.inl rfl,st,h,hs⟩
 |cons x kt=>simp at hk
def dn{kt:List KI}{x:It}(h:kt.map (KI.it P n)=x::k):∃y kt',kt=y::kt'/\y.it P n=x/\kt'.map (KI.it P n)=k:=by
 cases kt with
 |nil=>simp at h
 |cons y kt'=>simp only[dS,List.cons.injEq]at h;exact⟨y,kt',rfl,h.1,h.2⟩
def fV{y:KI}{c:bf}(h:y.it P n=.code c):∃c0,y=.code c0/\cY P n c0=c:=by
 cases y<;>simp only[KI.it,It.code.injEq,reduceCtorEq]at h;exact⟨_,rfl,h⟩
def ab.skip(h:ab P n k st Q):ab P n (.code .skip::k) st Q:=by
 intro F hn kt hk a w hs;obtain⟨y,kt',rfl,hy,ZL⟩:=dn hk;obtain⟨c0,rfl,hc⟩:=fV hy;have hc0:c0=.skip:=by
  cases c0<;>simp only[cY,reduceCtorEq]at hc<;>(try (split at hc;cases hc))<;>(try (split at hc<;>cases hc))<;>try rfl
 subst hc0;exact wpIn_skip (h F hn kt' ZL a w hs)
def ab.seq{x y:bf}(h:ab P n (.code x::.code y::k) st Q):ab P n (.code (.seq x y)::k) st Q:=by
 intro F hn kt hk a w hs;obtain⟨z,kt',rfl,hy,ZL⟩:=dn hk;obtain⟨c0,rfl,hc⟩:=fV hy;have hc0:∃x0 y0,c0=.seq x0 y0/\cY P n x0=x/\cY P n y0=y:=by
  cases c0<;>simp only[cY,reduceCtorEq,bf.seq.injEq]at hc
  case region=>(split at hc;cases hc);split at hc<;>cases hc
  exact⟨_,_,rfl,hc.1,hc.2⟩
 obtain⟨x0,y0,rfl,rfl,rfl⟩:=hc0;refine wpIn_seq (wpIn_mono (h F hn (.code x0::.code y0::kt') (by simp[KI.it,ZL]) a w hs) ?_);intro e a' w' hq;cases e<;>exact hq
def ab.block{id:Nat}{x:bf}(h:ab P n (.code x::.inBlock id::k) st Q):ab P n (.code (.block id x)::k) st Q:=by
 intro F hn kt hk a w hs;obtain⟨z,kt',rfl,hy,ZL⟩:=dn hk;obtain⟨c0,rfl,hc⟩:=fV hy;have hc0:∃x0,c0=.block id x0/\cY P n x0=x:=by
  cases c0<;>simp only[cY,reduceCtorEq,bf.block.injEq]at hc
  case region=>(split at hc;cases hc);split at hc<;>cases hc
  obtain⟨rfl,h2⟩:=hc;exact⟨_,rfl,h2⟩
 obtain⟨x0,rfl,rfl⟩:=hc0;exact wpIn_block (h F hn (.code x0::.inBlock id::kt') (by simp[KI.it,ZL]) a w hs)
def ab.inBlock{id:Nat}(h:ab P n k st Q):ab P n (.inBlock id::k) st Q:=by
 intro F hn kt hk a w hs;obtain⟨z,kt',rfl,hy,ZL⟩:=dn hk;cases z<;>simp only[KI.it,It.inBlock.injEq,reduceCtorEq]at hy;exact h F hn kt' ZL a w hs
def ab.stop{μ:St->Prop}(h:μ st):ab P n (.stop μ::k) st Q:=by
 intro F hn kt hk a w hs;obtain⟨z,kt',rfl,hy,ZL⟩:=dn hk;cases z<;>simp only[KI.it,It.stop.injEq,reduceCtorEq]at hy;subst hy;exact⟨st,h,hs⟩
def fZ(id:Nat):List It->Option (List It)
 |[]=>none
 |.inBlock j::k=>if id=j then some k else fZ id k
 |_::k=>fZ id k
def l9{F:Fr}{id:Nat}{a:Act}{w:World}:∀{kt:List KI} {k':List It},fZ id (kt.map (KI.it P n))=some k'->
 (∀kt',kt'.map (KI.it P n)=k'->ku P F Q kt' .normal a w)->ku P F Q kt (.exit id) a w
 |[],_,h,_=>by simp[fZ]at h
 |.code c::kt,_,h,hq=>l9 (kt:=kt) (by simpa[KI.it,fZ]using h) hq
 |.ops all l::kt,_,h,hq=>l9 (kt:=kt) (by simpa[KI.it,fZ]using h) hq
 |.stop μ::kt,_,h,hq=>l9 (kt:=kt) (by simpa[KI.it,fZ]using h) hq
 |.inBlock j::kt,k',h,hq=>by
  simp only[dS,KI.it,fZ]at h;simp only[ku,Exit.inBlock];by_cases hj:id=j
  .rw[ar hj]at h|-;simp only[aB]at h;exact hq kt h
  .rw[av hj]at h|-;exact l9 h hq
def ab.exit{id:Nat}{k':List It}(hp:fZ id k=some k')(h:ab P n k' st Q):ab P n (.code (.exit id)::k) st Q:=by
 intro F hn kt hk a w hs;obtain⟨z,kt',rfl,hy,ZL⟩:=dn hk;obtain⟨c0,rfl,hc⟩:=fV hy;have hc0:c0=.exit id:=by
  cases c0<;>simp only[cY,reduceCtorEq,bf.exit.injEq]at hc
  case region=>(split at hc;cases hc);split at hc<;>cases hc
  rw[hc]
 subst hc0;exact wpIn_exit (l9 (n:=n) (by rw[ZL];exact hp) (λkt'' h''=>h F hn kt'' h'' a w hs))
def lZ{F:Fr}{a:Act}{w:World}(h:∃st,Q st/\ee F st a w):∀(kt:List KI),ku P F Q kt .ret a w
 |[]=>⟨.inr rfl,h⟩
 |.code _::kt=>lZ h kt
 |.inBlock _::kt=>lZ h kt
 |.ops _ _::kt=>lZ h kt
 |.stop _::kt=>lZ h kt
def ab.ret(h:Q st):ab P n (.code .ret::k) st Q:=by
 intro F hn kt hk a w hs;obtain⟨z,kt',rfl,hy,ZL⟩:=dn hk;obtain⟨c0,rfl,hc⟩:=fV hy;have hc0:c0=.ret:=by
  cases c0<;>simp only[cY,reduceCtorEq]at hc<;>(try (split at hc;cases hc))<;>(try (split at hc<;>cases hc))<;>try rfl
 subst hc0;exact wpIn_ret (lZ ⟨st,h,hs⟩ kt')
def ab.cond{c:VX}{x y:bf}{b:Bool}(hc:c.ev st.s=.bool b)(h1:b=true->ab P n (.code x::k) st Q)(h2:b=false->ab P n (.code y::k) st Q):
 ab P n (.code (.cond c x y)::k) st Q:=by
 intro F hn kt hk a w hs;obtain⟨z,kt',rfl,hy,ZL⟩:=dn hk;obtain⟨c0,rfl,ZA⟩:=fV hy;have hc0:∃o x0 y0,c0=.cond o x0 y0/\cx n o=c/\cY P n x0=x/\cY P n y0=y:=by
  cases c0<;>simp only[cY,reduceCtorEq,bf.cond.injEq]at ZA
  case region=>(split at ZA;cases ZA);split at ZA<;>cases ZA
  exact⟨_,_,_,rfl,ZA.1,ZA.2.1,ZA.2.2⟩
 obtain⟨o,x0,y0,rfl,rfl,rfl,rfl⟩:=hc0;obtain⟨I,Ye⟩:=hs;have he:=bH Ye o;rw[hn,hc]at he;simp only[E']at he;exact wpIn_cond_split he (λhb=>h1 hb F hn (.code x0::kt') (by simp[KI.it,ZL]) a w ⟨I,Ye⟩) (λhb=>h2 hb F hn (.code y0::kt') (by simp[KI.it,ZL]) a w ⟨I,Ye⟩)
def ab.region{l:List az}(h:ab P n (.ops l::k) st Q):ab P n (.code (.reg false l)::k) st Q:=by
 intro F hn kt hk a w hs;obtain⟨z,kt',rfl,hy,ZL⟩:=dn hk;obtain⟨c0,rfl,ZA⟩:=fV hy;have hc0:∃id ops,c0=.region id ops false/\ops.toList.map (bI P n ops)=l:=by
  cases c0<;>simp only[cY,reduceCtorEq]at ZA;rename_i id ops draw;cases draw
  .simp only[Bool.false_and,eQ,if_false,bf.reg.injEq,true_and]at ZA;exact⟨id,ops,rfl,ZA⟩
  .simp only[Bool.true_and]at ZA;split at ZA
   .cases ZA
   .split at ZA
    .cases ZA
    .simp at ZA
 obtain⟨id,ops,rfl,rfl⟩:=hc0;exact wpIn_region_list (h F hn (.ops ops ops.toList::kt') (by simp[KI.it,ZL]) a w hs)
def ab.A2(h:ab P n k st Q):ab P n (.ops []::k) st Q:=by
 intro F hn kt hk a w hs;obtain⟨z,kt',rfl,hy,ZL⟩:=dn hk;cases z<;>simp only[KI.it,It.ops.injEq,reduceCtorEq,List.map_eq_nil_iff]at hy;subst hy;exact h F hn kt' ZL a w hs
def aQ(s:Nat->V):Option (VX×Bool)->Option Bool
 |none=>some true
 |some (x,b)=>match x.ev s with
    |.bool c=>some (c==b)
    |.P' []=>some false
    |.int _ _=>some false
    |_=>none
def o7{F:Fr}{I:Mu}{st:St}{a:Act}{w:World}(hs:cI F I st a w)(all:Array Oper)(o:Oper){b:Bool}(h:aQ st.s (bI P F.n all o).g=some b):
 Region.wanted o (yielded all a.tmps)=b:=by
 unfold Region.wanted;cases hg:o.guard with
 |none=>simp[bI,hg,aQ]at h;simp[h]
 |some g=>
  obtain⟨j,want⟩:=g;simp only[bI,hg,Option.map_some,aQ]at h;cases hd:(all[j]?).bind (·.dst)with
  |none=>
   simp only[hd,VX.ev]at h;simp only[aB]at h;subst h;simp[yielded,hd]
  |some d=>
   simp only[hd]at h;by_cases hdn:d<F.n
   .simp only[ar hdn,VX.ev]at h;have hr:=hs.slot d hdn;have hget:a.tmps[d]?=some (a.tmps.getD d undef):=by
     rw[Zq7,Array.getElem?_eq_getElem (by rw[hs.size];exact hdn)];rfl
    simp only[yielded,hd,Option.bind_some,hget];split at h
    .rename_i c hc;rw[hc]at hr;simp only[E']at hr;rw[hr];simp only[aB]at h;rw[<-h];rfl
    .rename_i hc;rw[hc]at hr;simp only[E',al]at hr;obtain⟨Yf,hv,rfl⟩:=hr;rw[hv];simp only[aB]at h;rw[<-h];rfl
    .rename_i hc;rw[hc]at hr;simp only[E']at hr;rw[hr];simp only[aB]at h;rw[<-h];rfl
    .cases h
   .simp only[av hdn,VX.ev]at h;simp only[aB]at h;have hle:a.tmps.size<=d:=by rw[hs.size];exact Nat.le_of_not_lt hdn
    have:a.tmps[d]?=none:=Array.getElem?_eq_none hle;simp[yielded,hd,this,<-h]
def St.put(st:St)(d:Option Nat)(v:V):St:=⟨aO st.s d v,st.U⟩
def ab.Ov{i:az}{l:List az}(hw:aQ st.s i.g=some true)
 (h:∀(F:Fr),F.n=n->∀(I:Mu) (a:Act) (w:World) (o:Oper) (all:Array Oper),bI P n all o=i->cI F I st a w->
   ∀(next:Act->World->Prop) (Q':Exit->Act->World->Prop),(∀YW a' w',ee F YW a' w'->ab P n (.ops l::k) YW Q->next a' w')->o.wpIn F.dV 0 P a w next Q'):
 ab P n (.ops (i::l)::k) st Q:=by
 intro F hn kt hk a w hs;obtain⟨z,kt',rfl,hy,ZL⟩:=dn hk;cases z<;>simp only[KI.it,It.ops.injEq,reduceCtorEq]at hy;rename_i all os;cases os with
 |nil=>simp at hy
 |cons o os=>
  simp only[dS,List.cons.injEq]at hy;obtain⟨hi,hl⟩:=hy;obtain⟨I,Ye⟩:=hs;have hwant:=o7 (P:=P) Ye all o (b:=true) (by rw[hn,hi];exact hw);simp only[ku,wpListIn,hwant,if_true];refine h F hn I a w o all hi Ye _ _ ?_;intro YW a' w' hs'' hsem;exact hsem F hn (.ops all os::kt') (by simp[KI.it,hl,ZL]) a' w' hs''
def ab.ins{i:az}{l:List az}(hb:i.op≠.bad)(hw:aQ st.s i.g=some true)
 (h:∀(F:Fr),F.n=n->∀(I:Mu) (a:Act) (w:World) (o:Oper) (all:Array Oper),bI P n all o=i->cI F I st a w->
   ∀(next:Act->World->Prop) (Q':Exit->Act->World->Prop),(∀YW a' w',ee F YW a' w'->ab P n (.ops l::k) YW Q->next a' w')->o.wp P a w next Q'):
 ab P n (.ops (i::l)::k) st Q:=by
 refine ab.Ov hw λF hn I a w o all hi hs next Q' X7=>GS ?_ (h F hn I a w o all hi hs next Q' X7)
 refine j7 (P:=P) (n:=n) ?_;have:i.op=Yh P n o.op:=by rw[<-hi];rfl
 rw[<-this];exact hb
def ab.o5{i:az}{l:List az}(hw:aQ st.s i.g=some false)(h:ab P n (.ops l::k) (st.put i.dst (.P' [])) Q):ab P n (.ops (i::l)::k) st Q:=by
 intro F hn kt hk a w hs;obtain⟨z,kt',rfl,hy,ZL⟩:=dn hk;cases z<;>simp only[KI.it,It.ops.injEq,reduceCtorEq]at hy;rename_i all os;cases os with
 |nil=>simp at hy
 |cons o os=>
  simp only[dS,List.cons.injEq]at hy;obtain⟨hi,hl⟩:=hy;obtain⟨I,Ye⟩:=hs;have hwant:=o7 (P:=P) Ye all o (b:=false) (by rw[hn,hi];exact hw);simp only[ku,wpListIn,hwant,eQ,if_false];refine⟨λ_ _=>trivial,?_⟩;refine h F hn (.ops all os::kt') (by simp[KI.it,hl,ZL]) _ w ⟨I,?_⟩;have hd:i.dst=o.dst.filter (·<F.n):=by rw[<-hi,hn];rfl
  rw[St.put,hd];exact Ye.pure (by simp only[E'];exact⟨[],rfl,by simp[al]⟩)
def ab.pure{i:az}{l:List az}{v:V}(hw:aQ st.s i.g=some true)(hp:ez st.s i.op)(hv:aE st.U st.s i.op=some v)
 (h:ab P n (.ops l::k) (st.put i.dst v) Q):ab P n (.ops (i::l)::k) st Q:=by
 refine ab.ins (λe=>by rw[e]at hv;simp[aE]at hv) hw λF hn I a w o all hi hs next Q' X7=>?_
 subst hn;have X9:i.op=Yh P F.n o.op:=by rw[<-hi];rfl
 have hd:i.dst=o.dst.filter (·<F.n):=by rw[<-hi];rfl
 obtain⟨z,hz,hr⟩:=tk hs o (X9▸hp) (X9▸hv);unfold Oper.wp;rw[hz];refine X7 (st.put i.dst v) _ _ ⟨I,?_⟩ h;rw[St.put,hd];exact hs.pure hr
variable {P:Program} {n:Nat} {st:St} {Q:St->Prop} {k:List It}
def HF{F:Fr}{o:Oper}{a:Act}{w:World}{next next':Act->World->Prop}{R R':Exit->Act->World->Prop}(h:o.wpIn F.dV 0 P a w next R)
 (hn:∀a w,next a w->next' a w)(hq:∀e a w,e≠.normal->R e a w->R' e a w):o.wpIn F.dV 0 P a w next' R':=by
 refine⟨h.1,?_⟩;have h:=h.2;generalize (o.semAt F.dV.round a.eval).run P w=r at*;cases r with
 |ok x w'=>
  cases x<;>simp only[Oper.uponIn]at h|-<;>first
   |exact hn _ _ h
   |exact⟨h.1,CallsIn.mono h.2 (λe w'' he=>by cases e<;>first|exact hn _ _ he|exact hq _ _ _ (by simp) he|(obtain⟨a0,w0,h2⟩:=he;exact⟨a0,w0,hq _ _ _ (by simp) h2⟩))⟩
   |exact⟨h.1,RowsIn.mono h.2 (λ_ _ he=>hn _ _ he)⟩
   |exact⟨h.1,RoundIn.mono h.2 (λe w'' he=>by cases e<;>first|exact hn _ _ he|exact hq _ _ _ (by simp) he|(obtain⟨a0,w0,h2⟩:=he;exact⟨a0,w0,hq _ _ _ (by simp) h2⟩))⟩
   |contradiction
 |halt x w'=>cases x<;>simp only[Oper.uponIn]at h|-<;>first|exact hq _ _ _ (by simp) h|contradiction
def k0{F:Fr}{all:Array Oper}{R R':Exit->Act->World->Prop}(hq:∀e a w,R e a w->R' e a w):∀(l:List Oper) (a:Act) (w:World),wpListIn F.dV 0 P all R l a w->wpListIn F.dV 0 P all R' l a w
 |[],a,w,h=>hq _ _ _ h
 |o::l,a,w,h=>by
  simp only[wpListIn]at h|-;split
  .rename_i hw;simp only[hw,if_true]at h;exact HF h (k0 hq l) (λe a w _=>hq e a w)
  .rename_i hw;simp only[hw]at h;exact⟨h.1,k0 hq l _ _ h.2⟩
def Wk(U Z':af)(v v':V):Prop:=∀(I:Mu) (w0 w:World) (Zo:Nat->Prop) (x:Value),Sat w0 Zo I U w->E' I (aA I U) w v x->E' I (aA I Z') w v' x
def Wk.refl{U Z':af}(h:aa Z' U)(v:V):Wk U Z' v v:=λI _ w _ x _ hr=>E'.mono (cC.refl I) (cD.sub w h) (YQ _) v x hr
def Wk.undef{U Z':af}(v:V):Wk U Z' v .undef:=λ_ _ _ _ _ _ _=>by simp[E']
def Wk.own{U Z':af}(h:aa Z' U){id off len:Nat}{ob:Ob}(ho:U id=some ob)(O':Z' id=none)(hl:off+len<=ob.rows.length):
 Wk U Z' (.own id off len) (.sl ob.sz ((ob.rows.drop off).take len)):=by
 intro I w0 w Zo x hs hr;simp only[E']at hr|-;have hlen:((ob.rows.drop off).take len).length=len:=by simp;omega
 have YV:=hs.obj id ob ho;split at hr
 .exact hr.elim
 .obtain⟨rfl,rfl,rfl⟩:=hr;exact⟨none,0,by simp,by simp,.inl (by simp)⟩
 .rename_i b sz cap hb;obtain⟨o,c,rfl,h1,h2,h3,hz⟩:=hr;refine⟨_,c,by rw[hlen],by omega,?_⟩;by_cases h0:len=0
  .left;subst h0;simp
  .right;rw[hb]at YV;obtain⟨g1,g2,g3,g4,g5⟩:=YV.rows hz;have ho':o=off*sz:=by
    rcases h3 with h3|h3
    .exact h3
    .omega
   subst ho' g1;refine⟨b,_,rfl,?_,g2,?_⟩
   .rintro⟨ZD,ob',sz',ZT,e1,e2⟩;have:=hs.inj ZD id ob' ob _ _ _ _ _ (h _ _ e1) ho e2 hb;rw[this,O']at e1;cases e1
   .have:=(g5.drop off).take len;rw[gY]at this;exact aS.mono (cC.refl I) (cD.sub w h) (YQ _) _ _ _ _ rfl this
def WkL(U Z':af):List V->List V->Prop
 |[],[]=>True
 |v::vs,v'::vs'=>Wk U Z' v v'/\WkL U Z' vs vs'
 |_,_=>False
def WkL.all{U Z':af}{I:Mu}{w0 w:World}{Zo:Nat->Prop}(hs:Sat w0 Zo I U w):∀{vs vs':List V} {l:List Value},WkL U Z' vs vs'->
 al I (aA I U) w vs l->al I (aA I Z') w vs' l
 |[],[],_,_,h=>by simpa[al]using h
 |v::vs,v'::vs',l,hw,h=>by
  simp only[al]at h|-;obtain⟨x,xs,rfl,h1,h2⟩:=h;exact⟨x,xs,rfl,hw.1 I w0 w Zo x hs h1,WkL.all hs hw.2 h2⟩
 |[],_::_,_,hw,_=>hw.elim
 |_::_,[],_,hw,_=>hw.elim
def Wk.agg{U Z':af}{vs vs':List V}(h:WkL U Z' vs vs'):Wk U Z' (.agg vs) (.agg vs'):=by
 intro I w0 w Zo x hs hr;simp only[E']at hr|-;obtain⟨Yf,rfl,h1,h2⟩:=hr;exact⟨Yf,rfl,WkL.all hs h h1,h2⟩
def Wk.P'{U Z':af}{vs vs':List V}(h:WkL U Z' vs vs'):Wk U Z' (.P' vs) (.P' vs'):=by
 intro I w0 w Zo x hs hr;simp only[E']at hr|-;obtain⟨Yf,rfl,h1⟩:=hr;exact⟨Yf,rfl,WkL.all hs h h1⟩
def NK(st YW:St):Prop:=aa YW.U st.U/\∀i,Wk st.U YW.U (st.s i) (YW.s i)
def NK.sat{st YW:St}(h:NK st YW){F:Fr}{a:Act}{w:World}(hs:ee F st a w):ee F YW a w:=by
 obtain⟨I,hs⟩:=hs;exact⟨I,hs.sat.drop h.1,hs.le,hs.size,hs.book.gJ (cD.sub w h.1),λi hi=>h.2 i I _ _ _ _ hs.sat (hs.slot i hi)⟩
def ab.weaken{todo:List It}{YW:St}(h:NK st YW)(hr:ab P n todo YW Q):ab P n todo st Q:=
 λF hn kt hk a w hs=>hr F hn kt hk a w (h.sat hs)
def ab.cut{x:It}(μ:St->Prop)(h1:ab P n (x::.stop μ::k) st Q)(h2:∀st,μ st->ab P n k st Q):ab P n (x::k) st Q:=by
 intro F hn kt hk a w hs;obtain⟨y,kt',rfl,hy,ZL⟩:=dn hk;have h3:=h1 F hn (y::.stop μ::kt') (by rw[dS,dS,hy,ZL];rfl) a w hs;have key:∀e a w,ku P F Q (.stop μ::kt') e a w->ku P F Q kt' e a w:=by
  intro e a w h;cases e
  case normal=>obtain⟨YW,hi,Ye⟩:=h;exact h2 YW hi F hn kt' ZL a w Ye
  all_goals exact h
 cases y with
 |code c=>exact wpIn_mono h3 key
 |inBlock id=>exact key _ _ _ h3
 |stop τ=>exact h3
 |ops all l=>exact k0 key l a w h3
def x6{F:Fence}{m0:Nat}{c:Code}{Q':Exit->Act->World->Prop}(μ:Nat->Act->World->Prop)
 (round:∀m a w,μ m a w->c.wpIn F m0 P (Exit.then (λa' w'=>∃m',m'<m/\μ m' a' w') Q') a w):∀m a w,μ m a w->(Code.loop c).wpIn F m0 P Q' a w:=by
 intro m a w h b k cs hro hb hr;have key:∀m a w,μ m a w->∃e a' w',Q' e a' w'/\ArrivesIn (Machine.fenced P F) P (lone (b.atR a (.code c::.inLoop c::k)) cs w) b k cs e a' w':=by
  intro m
  induction m using Nat.strongRecOn with
  |_ m ih=>
   intro a w hI;obtain⟨e,a₁,w₁,hq,harr⟩:=round m a w hI b (.inLoop c::k) cs hro hb hr;cases e with
   |normal=>
    obtain⟨m',H',hI'⟩:=hq;obtain⟨e₂,a₂,w₂,hq₂,harr₂⟩:=ih m' H' a₁ w₁ hI';exact⟨e₂,a₂,w₂,hq₂,.of_steps (StepsIn.trans harr (.one (fenced_calm hb hr rfl) stepR_inLoop)) harr₂⟩
   |exit id=>exact⟨_,a₁,w₁,hq,.pass (x:=.inLoop c) rfl (λ_ _=>.inl (by simp)) harr⟩
   |goto l=>exact⟨_,a₁,w₁,hq,.pass (x:=.inLoop c) rfl (λ_ _=>.inl (by simp)) harr⟩
   |ret=>exact⟨_,a₁,w₁,hq,.pass (x:=.inLoop c) rfl (λ_ _=>.inl (by simp)) harr⟩
   |panic ch=>exact⟨_,a₁,w₁,hq,.pass (x:=.inLoop c) rfl (λ_ _=>.inl (by simp)) harr⟩
   |outgrown=>exact⟨_,a₁,w₁,hq,.pass (x:=.inLoop c) rfl (λ_ _=>.inl (by simp)) harr⟩
 obtain⟨e,a',w',hq,harr⟩:=key m a w h;exact⟨e,a',w',hq,.of_steps (.one (fenced_calm hb hr rfl) stepR_loop) harr⟩
def ab.loop{x:bf}(μ:Nat->St->Prop)(m:Nat)(h0:μ m st)(hr:∀m st,μ m st->ab P n (.code x::.stop (λYW=>∃m',m'<m/\μ m' YW)::k) st Q):
 ab P n (.code (.loop x)::k) st Q:=by
 intro F hn kt hk a w hs;obtain⟨z,kt',rfl,hy,ZL⟩:=dn hk;obtain⟨c0,rfl,hc⟩:=fV hy;have hc0:∃x0,c0=.loop x0/\cY P n x0=x:=by
  cases c0<;>simp only[cY,reduceCtorEq,bf.loop.injEq]at hc
  case region=>(split at hc;cases hc);split at hc<;>cases hc
  exact⟨_,rfl,hc⟩
 obtain⟨x0,rfl,rfl⟩:=hc0;refine x6 (λm a w=>∃st,μ m st/\ee F st a w) ?_ m a w ⟨st,h0,hs⟩;rintro m a w ⟨st,hi,hs⟩;refine wpIn_mono (hr m st hi F hn (.code x0::.stop (λYW=>∃m',m'<m/\μ m' YW)::kt') (by simp[KI.it,ZL]) a w hs) ?_;intro e a' w' h;cases e
 case normal=>obtain⟨YW,⟨m',H',hi'⟩,Ye⟩:=h;exact⟨m',H',YW,hi',Ye⟩
 all_goals exact h
variable {P:Program} {n:Nat} {st:St} {Q:St->Prop} {k:List It}
def yY{o:Op}{e sz:Nat}{z:V}(h:Yh P n o=.alloc e sz z):∃i zv,o=.alloc e/\zeroOf P e=some (i,zv)/\i.size=sz/\ofValue zv=z:=by
 cases o
 case alloc t=>
  simp only[Yh]at h;split at h
  .rename_i i zv hz;simp only[Yq.alloc.injEq]at h;obtain⟨rfl,h2,h3⟩:=h;exact⟨i,zv,rfl,hz,h2,h3⟩
  ·(repeat' split at h)<;>cases h
 case call c=>
  obtain⟨callee,args,argTypes⟩:=c;cases callee
  case builtin b=>cases b<;>simp only[Yh]at h<;>(repeat' split at h)<;>cases h
  all_goals (simp only[Yh]at h;cases h)
 case unOp op t x=>cases op<;>simp only[Yh]at h<;>cases h
 case makeFunc f a b=>cases f<;>simp only[Yh]at h<;>(repeat' split at h)<;>cases h
 all_goals (simp only[Yh,jk]at h;(repeat' split at h)<;>cases h)
def y9{o:Op}{sz:Nat}{xa xv:VX}(h:Yh P n o=.store sz xa xv):∃t x y,o=.store t x y/\bL P t=true/\P.cellsOf t=sz/\cx n x=xa/\cx n y=xv:=by
 cases o
 case store t x y=>
  simp only[Yh]at h;split at h
  .rename_i hk;simp only[Yq.store.injEq]at h;exact⟨t,x,y,rfl,hk,h.1,h.2.1,h.2.2⟩
  ·(repeat' split at h)<;>cases h
 case call c=>
  obtain⟨callee,args,argTypes⟩:=c;cases callee
  case builtin b=>cases b<;>simp only[Yh]at h<;>(repeat' split at h)<;>cases h
  all_goals (simp only[Yh]at h;cases h)
 case unOp op t x=>cases op<;>simp only[Yh]at h<;>cases h
 case makeFunc f a b=>cases f<;>simp only[Yh]at h<;>(repeat' split at h)<;>cases h
 all_goals (simp only[Yh,jk]at h;(repeat' split at h)<;>cases h)
def xG{o:Op}{e sz:Nat}{xs:List VX}(h:Yh P n o=.eR e sz xs):∃t len parts i z,o=.buildSlice t len parts/\P.underlying t=some (.slice e)/\zeroOf P e=some (i,z)/\
 i.size=sz/\parts.toList.map (·.1)=List.range len/\len*i.size<=16777216/\parts.toList.map (λp=>cx n p.2)=xs:=by
 cases o
 case buildSlice t len parts=>
  simp only[Yh]at h;split at h
  .rename_i e' he;split at h
   .rename_i i z hz;split at h
    .rename_i hc;simp only[Yq.eR.injEq]at h;obtain⟨rfl,h2,h3⟩:=h;exact⟨t,len,parts,i,z,rfl,he,hz,h2,hc.1,hc.2,h3⟩
    .cases h
   .cases h
  .cases h
 case call c=>
  obtain⟨callee,args,argTypes⟩:=c;cases callee
  case builtin b=>cases b<;>simp only[Yh]at h<;>(repeat' split at h)<;>cases h
  all_goals (simp only[Yh]at h;cases h)
 case unOp op t x=>cases op<;>simp only[Yh]at h<;>cases h
 case makeFunc f a b=>cases f<;>simp only[Yh]at h<;>(repeat' split at h)<;>cases h
 all_goals (simp only[Yh,jk]at h;(repeat' split at h)<;>cases h)
def IM{o:Op}{e sz bytes:Nat}{zv:V}{xn:VX}(h:Yh P n o=.mk e sz bytes zv xn):∃t l c i z,o=.makeSlice t l c/\P.underlying t=some (.slice e)/\zeroOf P e=some (i,z)/\
 i.size=sz/\i.bytes=bytes/\ofValue z=zv/\uM l c=true/\cx n l=xn:=by
 cases o
 case makeSlice t l c=>
  simp only[Yh]at h;split at h
  .rename_i e' he;split at h
   .rename_i i z hz;split at h
    .rename_i hc;simp only[Yq.mk.injEq]at h;obtain⟨rfl,h2,h3,h4,h5⟩:=h;exact⟨t,l,c,i,z,rfl,he,hz,h2,h3,h4,hc,h5⟩
    .cases h
   .cases h
  .cases h
 case call c=>
  obtain⟨callee,args,argTypes⟩:=c;cases callee
  case builtin b=>cases b<;>simp only[Yh]at h<;>(repeat' split at h)<;>cases h
  all_goals (simp only[Yh]at h;cases h)
 case unOp op t x=>cases op<;>simp only[Yh]at h<;>cases h
 case makeFunc f a b=>cases f<;>simp only[Yh]at h<;>(repeat' split at h)<;>cases h
 all_goals (simp only[Yh,jk]at h;(repeat' split at h)<;>cases h)
def Bh{o:Op}{e sz bytes:Nat}{zv:V}{xa xb:VX}(h:Yh P n o=.appz e sz bytes zv xa xb):∃t tn kn x y args argTypes i z,o=.call { callee:=.builtin .append,args:=args,argTypes:=argTypes }/\
 args=#[x,y]/\argTypes=#[t,tn]/\P.underlying t=some (.slice e)/\P.underlying tn=some (.int kn)/\zeroOf P e=some (i,z)/\i.size=sz/\i.bytes=bytes/\ofValue z=zv/\cx n x=xa/\cx n y=xb:=by
 cases o
 case call c=>
  obtain⟨callee,args,argTypes⟩:=c;cases callee
  case value=>simp[Yh]at h
  case invoke=>simp[Yh]at h
  case builtin b=>
   cases b
   case append=>
    simp only[Yh]at h;split at h
    .rename_i x y t t' h1 h2;split at h
     .split at h
      .split at h<;>cases h
      .cases h
     .split at h
      .rename_i e' kn he hn;split at h
       .rename_i i z hz;simp only[Yq.appz.injEq]at h;obtain⟨rfl,h4,h5,h6,h7,h8⟩:=h;exact⟨t,t',kn,x,y,args,argTypes,i,z,rfl,by apply Array.ext';simpa using h1,by apply Array.ext';simpa using h2,he,hn,hz,h4,h5,h6,h7,h8⟩
       .cases h
      .split at h<;>cases h
      .cases h
    .cases h
   all_goals (simp only[Yh]at h;(repeat' split at h)<;>cases h)
 case unOp op t x=>cases op<;>simp only[Yh]at h<;>cases h
 case makeFunc f a b=>cases f<;>simp only[Yh]at h<;>(repeat' split at h)<;>cases h
 all_goals (simp only[Yh,jk]at h;(repeat' split at h)<;>cases h)
def wA{o:Op}{e sz bytes:Nat}{xa xb:VX}(h:Yh P n o=.append e sz bytes xa xb):∃t t' x y args argTypes i z,o=.call { callee:=.builtin .append,args:=args,argTypes:=argTypes }/\
 args=#[x,y]/\argTypes=#[t,t']/\(t'=t\/P.underlying t'=some .string)/\P.underlying t=some (.slice e)/\zeroOf P e=some (i,z)/\i.size=sz/\i.bytes=bytes/\cx n x=xa/\cx n y=xb:=by
 cases o
 case call c=>
  obtain⟨callee,args,argTypes⟩:=c;cases callee
  case value=>simp[Yh]at h
  case invoke=>simp[Yh]at h
  case builtin b=>
   cases b
   case append=>
    simp only[Yh]at h;split at h
    .rename_i x y t t' h1 h2;split at h
     .rename_i htt;subst htt;split at h
      .rename_i e' he;split at h
       .rename_i i z hz;simp only[Yq.append.injEq]at h;obtain⟨rfl,h4,h5,h6,h7⟩:=h;exact⟨t,t,x,y,args,argTypes,i,z,rfl,by apply Array.ext';simpa using h1,by apply Array.ext';simpa using h2,.inl rfl,he,hz,h4,h5,h6,h7⟩
       .cases h
      .cases h
     .split at h
      .split at h<;>cases h
      .rename_i e' he hn;split at h
       .rename_i i z hz;simp only[Yq.append.injEq]at h;obtain⟨rfl,h4,h5,h6,h7⟩:=h;exact⟨t,t',x,y,args,argTypes,i,z,rfl,by apply Array.ext';simpa using h1,by apply Array.ext';simpa using h2,.inr hn,he,hz,h4,h5,h6,h7⟩
       .cases h
      .cases h
    .cases h
   all_goals (simp only[Yh]at h;(repeat' split at h)<;>cases h)
 case unOp op t x=>cases op<;>simp only[Yh]at h<;>cases h
 case makeFunc f a b=>cases f<;>simp only[Yh]at h<;>(repeat' split at h)<;>cases h
 all_goals (simp only[Yh,jk]at h;(repeat' split at h)<;>cases h)
def lX{o:Op}{f:VX}{xs:List VX}(h:Yh P n o=.call f xs):∃f0 args argTypes,o=.call { callee:=.value f0,args:=args,argTypes:=argTypes }/\cx n f0=f/\args.toList.map (cx n)=xs:=by
 cases o
 case call c=>
  obtain⟨callee,args,argTypes⟩:=c;cases callee
  case value f0=>simp only[Yh,Yq.call.injEq]at h;exact⟨f0,args,argTypes,rfl,h.1,h.2⟩
  case invoke=>simp[Yh]at h
  case builtin b=>cases b<;>simp only[Yh]at h<;>(repeat' split at h)<;>cases h
 case unOp op t x=>cases op<;>simp only[Yh]at h<;>cases h
 case makeFunc f a b=>cases f<;>simp only[Yh]at h<;>(repeat' split at h)<;>cases h
 all_goals (simp only[Yh,jk]at h;(repeat' split at h)<;>cases h)
def FV{o:Op}{e sz:Nat}{xv:VX}(h:Yh P n o=.box e sz xv):∃x,o=.box e x/\bL P e=true/\P.cellsOf e=sz/\cx n x=xv:=by
 cases o
 case box t x=>
  simp only[Yh]at h;split at h
  .rename_i hk;simp only[Yq.box.injEq]at h;obtain⟨rfl,h2,h3⟩:=h;exact⟨x,rfl,hk,h2,h3⟩
  .cases h
 case call c=>
  obtain⟨callee,args,argTypes⟩:=c;cases callee
  case builtin b=>cases b<;>simp only[Yh]at h<;>(repeat' split at h)<;>cases h
  all_goals (simp only[Yh]at h;cases h)
 case unOp op t x=>cases op<;>simp only[Yh]at h<;>cases h
 case makeFunc f a b=>cases f<;>simp only[Yh]at h<;>(repeat' split at h)<;>cases h
 all_goals (simp only[Yh,jk]at h;(repeat' split at h)<;>cases h)
def G5{o:Op}{sz:Nat}{z:V}{xv:VX}(h:Yh P n o=.clear sz z xv):∃x t e args argTypes i zv,o=.call { callee:=.builtin .clear,args:=args,argTypes:=argTypes }/\
 args=#[x]/\argTypes[0]?=some t/\P.underlying t=some (.slice e)/\zeroOf P e=some (i,zv)/\i.size=sz/\ofValue zv=z/\cx n x=xv:=by
 cases o
 case call c=>
  obtain⟨callee,args,argTypes⟩:=c;cases callee
  case builtin b=>
   cases b
   case clear=>
    simp only[Yh]at h;split at h
    .rename_i x t h1 h2;split at h
     .rename_i e he;split at h
      .rename_i i zv hz;simp only[Yq.clear.injEq]at h;exact⟨x,t,e,args,argTypes,i,zv,rfl,by apply Array.ext';simpa using h1,h2,he,hz,h.1,h.2.1,h.2.2⟩
      .cases h
     .cases h
    .cases h
   all_goals (simp only[Yh]at h;(repeat' split at h)<;>cases h)
  all_goals (simp only[Yh]at h;cases h)
 case unOp op t x=>cases op<;>simp only[Yh]at h<;>cases h
 case makeFunc f a b=>cases f<;>simp only[Yh]at h<;>(repeat' split at h)<;>cases h
 all_goals (simp only[Yh,jk]at h;(repeat' split at h)<;>cases h)
def zb{F:Fr}{I:Mu}{a:Act}{w:World}(hs:cI F I st a w){o:Oper}{t:TypeId}{x:Operand}(hoo:o.op=.box t x)(hk:bL P t=true)
 (hx:((cx F.n x).ev st.s).cells.length=P.cellsOf t)(Ys:((cx F.n x).ev st.s).stays=true):
 ∃id,st.U id=none/\∃y w' Y',(execOp a.eval o).run P w=.ok (.value y) w'/\
  cI F Y' ⟨aO st.s (o.dst.filter (·<F.n)) (.ptr id 0 0),C' st.U id ⟨t,P.cellsOf t,[(cx F.n x).ev st.s]⟩⟩ (a.put o.dst y) w':=by
 have ZP:=(du hk).2.2;obtain⟨g1,g2⟩:=(bH hs x).cells Ys;have hl:=(bH hs x).jU Ys;obtain⟨id,O',Y',h1,h2,h3,h4⟩:=hs.sat.renew (row:=none) (World.grownBy_alloc w (.cells (a.eval x).cells t) none) none (.inl rfl) w.heap.size (P.cellsOf t) 1 (a.eval x).cells t [(cx F.n x).ev st.s] (a.eval x).cells.toList (.inr (YQ _))
  (heap_alloc_new w _) ZP (by omega) (by simp) (by simp[maxLen]) (by intro r hr;simp at hr;subst hr;exact hx)
  (by simp only[flat,At,List.flatMap_nil,lH];exact g1) g2 (by intro j u hu;simpa using hu)
 refine⟨id,O',.pointer (some ⟨w.heap.size,0,none⟩),w.alloc (.cells (a.eval x).cells t),Y',?_,hs.step h3 h2 h4 (by simp) (by simp[E',h1];exact ZP)⟩;unfold execOp;rw[hoo];simp[Instr.box,newVar,newRow]
def bZ{all:Array Oper}{o:Oper}{i:az}(h:bI P n all o=i):Yh P n o.op=i.op/\o.dst.filter (·<n)=i.dst:=by rw[<-h];exact⟨rfl,rfl⟩
def ab.alloc{i:az}{l:List az}{e sz:Nat}{z:V}(hw:aQ st.s i.g=some true)(ho:i.op=.alloc e sz z)
 (h:∀id,st.U id=none->ab P n (.ops l::k) ⟨aO st.s i.dst (.ptr id 0 0),C' st.U id ⟨e,sz,[z]⟩⟩ Q):ab P n (.ops (i::l)::k) st Q:=by
 refine ab.ins (by rw[ho];simp) hw λF hn I a w o all hi hs next Q' X7=>?_
 subst hn;obtain⟨X9,hd⟩:=bZ hi;rw[ho]at X9;obtain⟨ti,zv,h1,h2,rfl,rfl⟩:=yY X9;obtain⟨id,O',x,w',Y',hx,Ye⟩:=tP hs h1 h2;unfold Oper.wp;rw[hx];refine X7 _ _ _ ⟨Y',?_⟩ (h id O');rw[<-hd];exact Ye
def ab.box{i:az}{l:List az}{e sz:Nat}{xv:VX}(hw:aQ st.s i.g=some true)(ho:i.op=.box e sz xv)
 (hx:(xv.ev st.s).cells.length=sz)(Ys:(xv.ev st.s).stays=true)
 (h:∀id,st.U id=none->ab P n (.ops l::k) ⟨aO st.s i.dst (.ptr id 0 0),C' st.U id ⟨e,sz,[xv.ev st.s]⟩⟩ Q):ab P n (.ops (i::l)::k) st Q:=by
 refine ab.ins (by rw[ho];simp) hw λF hn I a w o all hi hs next Q' X7=>?_
 subst hn;obtain⟨X9,hd⟩:=bZ hi;rw[ho]at X9;obtain⟨x,h1,h2,rfl,rfl⟩:=FV X9;obtain⟨id,O',y,w',Y',hy,Ye⟩:=zb hs h1 h2 hx Ys;unfold Oper.wp;rw[hy];refine X7 _ _ _ ⟨Y',?_⟩ (h id O');rw[<-hd];exact Ye
def ab.store{i:az}{l:List az}{sz:Nat}{xa xv:VX}(hw:aQ st.s i.g=some true)(ho:i.op=.store sz xa xv)
 {id r0 c:Nat}(h1:xa.ev st.s=.ptr id r0 c){ob:Ob}(h2:st.U id=some ob){r r':V}(h3:ob.rows[r0]?=some r)(h4:fk r c sz (xv.ev st.s)=some r')
 (h:ab P n (.ops l::k) ⟨aO st.s i.dst (.P' []),C' st.U id { ob with rows:=ob.rows.set r0 r' }⟩ Q):ab P n (.ops (i::l)::k) st Q:=by
 refine ab.ins (by rw[ho];simp) hw λF hn I a w o all hi hs next Q' X7=>?_
 subst hn;obtain⟨X9,hd⟩:=bZ hi;rw[ho]at X9;obtain⟨t,x,y,g1,g2,rfl,rfl,rfl⟩:=y9 X9;obtain⟨w',hx,Ye⟩:=tD hs g1 g2 h1 h2 h3 h4;unfold Oper.wp;rw[hx];refine X7 _ _ _ ⟨I,?_⟩ h;rw[<-hd];exact Ye
def ab.mkS{i:az}{l:List az}{e sz bytes:Nat}{zv:V}{xn:VX}(hw:aQ st.s i.g=some true)(ho:i.op=.mk e sz bytes zv xn){m:Int}(hm:xn.ev st.s=.int .i64 m)
 (h0:0<=m)(hb:m.toNat*(bytes+1)<=140737488355328)
 (h:∀id,st.U id=none->ab P n (.ops l::k) ⟨aO st.s i.dst (.own id 0 m.toNat),C' st.U id ⟨e,sz,List.replicate m.toNat zv⟩⟩ Q):ab P n (.ops (i::l)::k) st Q:=by
 refine ab.ins (by rw[ho];simp) hw λF hn I a w o all hi hs next Q' X7=>?_
 subst hn;obtain⟨X9,hd⟩:=bZ hi;rw[ho]at X9;obtain⟨t,l',c,ti,z,h1,h2,h3,rfl,rfl,rfl,h5,rfl⟩:=IM X9;obtain⟨id,O',x,w',Y',YD,Ye⟩:=CV hs h1 h5 h2 h3 hm h0 hb;unfold Oper.wp;rw[YD];refine X7 _ _ _ ⟨Y',?_⟩ (h id O');rw[<-hd];exact Ye
def ab.T9{i:az}{l:List az}{e sz bytes:Nat}{zv:V}{xa xn:VX}(hw:aQ st.s i.g=some true)(ho:i.op=.appz e sz bytes zv xa xn)(hx:xa.ev st.s=.aC){kq:IntKind}{m:Int}(hm:xn.ev st.s=.int kq m)
 (h0:0<m)(hb:m.toNat*(bytes+1)<=140737488355328)
 (h:∀id,st.U id=none->ab P n (.ops l::k) ⟨aO st.s i.dst (.own id 0 m.toNat),C' st.U id ⟨e,sz,List.replicate m.toNat zv⟩⟩ Q):ab P n (.ops (i::l)::k) st Q:=by
 refine ab.ins (by rw[ho];simp) hw λF hn I a w o all hi hs next Q' X7=>?_
 subst hn;obtain⟨X9,hd⟩:=bZ hi;rw[ho]at X9;obtain⟨t,tn,kn,x,y,args,argTypes,ti,z,h1,h2,h3,h4,h5,h6,rfl,rfl,rfl,rfl,rfl⟩:=Bh X9;obtain⟨id,O',x,w',Y',YD,Ye⟩:=wa hs h1 h2 h3 h4 h5 h6 hx hm h0 hb;unfold Oper.wp;rw[YD];refine X7 _ _ _ ⟨Y',?_⟩ (h id O');rw[<-hd];exact Ye
def ab.eR{i:az}{l:List az}{e sz:Nat}{xs:List VX}(hw:aQ st.s i.g=some true)(ho:i.op=.eR e sz xs)
 (hx:∀x∈xs.map (·.ev st.s),x.cells.length=sz/\x.stays=true)
 (h:∀id,st.U id=none->ab P n (.ops l::k) ⟨aO st.s i.dst (.own id 0 xs.length),C' st.U id ⟨e,sz,xs.map (·.ev st.s)⟩⟩ Q):ab P n (.ops (i::l)::k) st Q:=by
 refine ab.ins (by rw[ho];simp) hw λF hn I a w o all hi hs next Q' X7=>?_
 subst hn;obtain⟨X9,hd⟩:=bZ hi;rw[ho]at X9;obtain⟨t,len,parts,ti,z,h1,h2,h3,rfl,h5,h6,rfl⟩:=xG X9;rw[List.map_map]at hx;obtain⟨id,O',x,w',Y',YD,Ye⟩:=qW hs h1 h2 h3 h5 h6 hx;unfold Oper.wp;rw[YD];refine X7 _ _ _ ⟨Y',?_⟩ (h id O');have hl:parts.size=len:=by have:=congrArg List.length h5;simpa using this
 simp only[cL,List.map_map,Array.length_toList,hl,<-hd];exact Ye
def ab.append{i:az}{l:List az}{e sz bytes:Nat}{xa xb:VX}(hw:aQ st.s i.g=some true)(ho:i.op=.append e sz bytes xa xb)
 {base src:List V}{Yn:Option Nat}(h1:bN st.U e sz (xa.ev st.s)=some (base,Yn))(h2:bz st.U sz (xb.ev st.s)=some src)
 (hb:(base.length+src.length)*(bytes+1)<=140737488355328)
 (h:∀id,st.U id=none->ab P n (.ops l::k) ⟨aO st.s i.dst (.own id 0 (base.length+src.length)),C' (bt st.U Yn) id ⟨e,sz,base++src⟩⟩ Q):
 ab P n (.ops (i::l)::k) st Q:=by
 refine ab.ins (by rw[ho];simp) hw λF hn I a w o all hi hs next Q' X7=>?_
 subst hn;obtain⟨X9,hd⟩:=bZ hi;rw[ho]at X9;obtain⟨t,t',x,y,args,argTypes,ti,z,g1,g2,g3,g3',g4,g5,rfl,rfl,rfl,rfl⟩:=wA X9;obtain⟨id,O',r,w',Y',hx,Ye⟩:=rI hs g1 g2 g3 g3' g4 g5 h1 h2 hb;unfold Oper.wp;rw[hx];refine X7 _ _ _ ⟨Y',?_⟩ (h id O');rw[<-hd];exact Ye
def bV(P:Program)(f:FuncId):Bool:=match P.funcs[f]? with
 |some fn=>fn.name != "runtime.NumGoroutine"&&fn.body.isSome
 |none=>false
def jZ{w:World}{f:FuncId}(h:bV P f=true)(args:Array Value):(callFunc f args).run P w=.ok (.enter f args) w:=by
 unfold bV at h;split at h
 .rename_i fn hf;simp only[Ba,bne_iff_ne,ne_eq]at h;cases hb:fn.body with
  |none=>simp[hb]at h
  |some c=>simp[callFunc,hf,h.1,hb]
 .cases h
def au(P:Program)(f:FuncId)(args:List V)(U:af)(Post:V->af->Prop):Prop:=bV P f=true/\uh P f args U Post
def au.mono{f:FuncId}{args:List V}{U:af}{Post Post':V->af->Prop}(h:au P f args U Post)(hp:∀r Z',Post r Z'->Post' r Z'):
 au P f args U Post':=⟨h.1,h.2.mono hp⟩
def al.app{I:Mu}{ow:Nat->Prop}{w:World}{vs us:List V}{l m:List Value}(h:al I ow w vs l)(h':al I ow w us m):al I ow w (vs++us) (l++m):=h.append h'
def mN{F:Fr}{I:Mu}{a:Act}{w:World}(hs:cI F I st a w){o:Oper}{f0:Operand}{args:Array Operand}{argTypes:Array TypeId}
 (hoo:o.op=.call { callee:=.value f0,args:=args,argTypes:=argTypes }){f:FuncId}{caps:List V}(hf:(cx F.n f0).ev st.s=.fn f caps)
 {Post:V->af->Prop}(hc:au P f ((args.toList.map (cx F.n)).map (·.ev st.s)++caps) st.U Post){next:Act->World->Prop}{Q':Exit->Act->World->Prop}
 (X7:∀r Z',Post r Z'->∀a' w',ee F ⟨aO st.s (o.dst.filter (·<F.n)) r,Z'⟩ a' w'->next a' w'):o.wp P a w next Q':=by
 have hfr:=bH hs f0;rw[hf]at hfr;simp only[E']at hfr;obtain⟨cvals,hfv,hcr⟩:=hfr;have YE:=(mC hs args.toList).app hcr;have Yw:(execOp a.eval o).run P w=.ok (.enter f ((args.toList.map a.eval++cvals).toArray)) w:=by
  unfold execOp;rw[hoo];simp only[resolve,hfv,Deferred.ofValue,Sem.run_bind,Sem.run_pure,Result.andThen_ok,invoke,jZ hc.1];congr 2;apply Array.ext';simp
 unfold Oper.wp;rw[Yw];simp only[Oper.upon];have hsat:Sat w (aA I st.U) I st.U w:=by
  have h:=hs.sat;exact⟨YQ _,rfl,rfl,rfl,λ_ _ _=>rfl,h.fin,h.inj,h.obj,λb hb _=>hb,h.nK⟩
 refine(hc.2 I w _ hsat YE).mono ?_;rintro e w' ⟨r,Z',Y',val,rfl,hp,hle,Ye,hr⟩;refine X7 r Z' hp _ _ ⟨Y',?_⟩;have ZI:cD (aA I st.U) (aA Y' Z') w w':=λb hb hn=>⟨λho=>hn (Ye.fresh b ho hb),Ye.same b hb hn⟩
 have h0:=hs.sat;have Zg:Sat F.w0 F.Zo Y' Z' w':=by
  refine⟨jI h0.size Ye.size,Ye.os.trans h0.os,Ye.tape.trans h0.tape,Ye.output.trans h0.output,?_,Ye.fin,Ye.inj,Ye.obj,?_,h0.glob⟩
  .intro b hb hn;have h1:¬aA I st.U b:=λho=>hn (h0.fresh b ho hb);rw[Ye.same b (Nat.lt_of_lt_of_le hb h0.size) h1,h0.same b hb hn]
  .intro b hb H';have h1:=Ye.fresh b hb (Nat.lt_of_lt_of_le H' h0.size);exact h0.fresh b h1 H'
 exact hs.step Zg hle ZI Ye.size hr
def ab.call{i:az}{l:List az}{fx:VX}{xs:List VX}(hw:aQ st.s i.g=some true)(ho:i.op=.call fx xs){f:FuncId}{caps:List V}(hf:fx.ev st.s=.fn f caps)
 {Post:V->af->Prop}(hc:au P f (xs.map (·.ev st.s)++caps) st.U Post)
 (h:∀r Z',Post r Z'->ab P n (.ops l::k) ⟨aO st.s i.dst r,Z'⟩ Q):ab P n (.ops (i::l)::k) st Q:=by
 refine ab.ins (by rw[ho];simp) hw λF hn I a w o all hi hs next Q' X7=>?_
 subst hn;obtain⟨X9,hd⟩:=bZ hi;rw[ho]at X9;obtain⟨f0,args,argTypes,g1,rfl,rfl⟩:=lX X9;refine mN hs g1 hf hc λr Z' hp a' w' Ye=>X7 _ a' w' Ye ?_;rw[hd];exact h r Z' hp
def Ch{F:Fr}{I:Mu}{a:Act}{w:World}(hs:cI F I st a w){o:Oper}{f0:Operand}{args:Array Operand}{argTypes:Array TypeId}
 (hoo:o.op=.call { callee:=.value f0,args:=args,argTypes:=argTypes }){f:FuncId}{first:List V}(hf:(cx F.n f0).ev st.s=.bm f first)
 {Post:V->af->Prop}(hc:au P f (first++(args.toList.map (cx F.n)).map (·.ev st.s)) st.U Post){next:Act->World->Prop}{Q':Exit->Act->World->Prop}
 (X7:∀r Z',Post r Z'->∀a' w',ee F ⟨aO st.s (o.dst.filter (·<F.n)) r,Z'⟩ a' w'->next a' w'):o.wp P a w next Q':=by
 have hfr:=bH hs f0;rw[hf]at hfr;simp only[E']at hfr;obtain⟨cvals,hfv,hcr⟩:=hfr;have YE:=hcr.app (mC hs args.toList);have Yw:(execOp a.eval o).run P w=.ok (.enter f ((cvals++args.toList.map a.eval).toArray)) w:=by
  unfold execOp;rw[hoo];simp only[resolve,hfv,Deferred.ofValue,Sem.run_bind,Sem.run_pure,Result.andThen_ok,invoke,jZ hc.1];congr 2;apply Array.ext';simp
 unfold Oper.wp;rw[Yw];simp only[Oper.upon];have hsat:Sat w (aA I st.U) I st.U w:=by
  have h:=hs.sat;exact⟨YQ _,rfl,rfl,rfl,λ_ _ _=>rfl,h.fin,h.inj,h.obj,λb hb _=>hb,h.nK⟩
 refine(hc.2 I w _ hsat YE).mono ?_;rintro e w' ⟨r,Z',Y',val,rfl,hp,hle,Ye,hr⟩;refine X7 r Z' hp _ _ ⟨Y',?_⟩;have ZI:cD (aA I st.U) (aA Y' Z') w w':=λb hb hn=>⟨λho=>hn (Ye.fresh b ho hb),Ye.same b hb hn⟩
 have h0:=hs.sat;have Zg:Sat F.w0 F.Zo Y' Z' w':=by
  refine⟨jI h0.size Ye.size,Ye.os.trans h0.os,Ye.tape.trans h0.tape,Ye.output.trans h0.output,?_,Ye.fin,Ye.inj,Ye.obj,?_,h0.glob⟩
  .intro b hb hn;have h1:¬aA I st.U b:=λho=>hn (h0.fresh b ho hb);rw[Ye.same b (Nat.lt_of_lt_of_le hb h0.size) h1,h0.same b hb hn]
  .intro b hb H';have h1:=Ye.fresh b hb (Nat.lt_of_lt_of_le H' h0.size);exact h0.fresh b h1 H'
 exact hs.step Zg hle ZI Ye.size hr
def ab.ld{i:az}{l:List az}{fx:VX}{xs:List VX}(hw:aQ st.s i.g=some true)(ho:i.op=.call fx xs){f:FuncId}{first:List V}(hf:fx.ev st.s=.bm f first)
 {Post:V->af->Prop}(hc:au P f (first++xs.map (·.ev st.s)) st.U Post)
 (h:∀r Z',Post r Z'->ab P n (.ops l::k) ⟨aO st.s i.dst r,Z'⟩ Q):ab P n (.ops (i::l)::k) st Q:=by
 refine ab.ins (by rw[ho];simp) hw λF hn I a w o all hi hs next Q' X7=>?_
 subst hn;obtain⟨X9,hd⟩:=bZ hi;rw[ho]at X9;obtain⟨f0,args,argTypes,g1,rfl,rfl⟩:=lX X9;refine Ch hs g1 hf hc λr Z' hp a' w' Ye=>X7 _ a' w' Ye ?_;rw[hd];exact h r Z' hp
inductive VR where
 |tmp (x:VX)
 |cell (agg:Bool) (sz:Nat) (x:VX)
 |bad
def A7(P:Program)(n:Nat):ResultVar->VR
 |.tmp t=>.tmp (cx n (.tmp t))
 |.cell t ty=>if bL P ty then .cell (fa P ty) (P.cellsOf ty) (cx n (.tmp t))else .bad
def gm(st:St):VR->Option V
 |.tmp x=>some (x.ev st.s)
 |.cell agg sz x=>bB st.U agg sz (x.ev st.s)
 |.bad=>none
def ej(st:St):List VR->Option (List V)
 |[]=>some []
 |r::rs=>match gm st r with
   |some v=>match ej st rs with
    |some vs=>some (v::vs)
    |none=>none
   |none=>none
def nY(st:St)(l:List VR):Option V:=match ej st l with
 |some [v]=>some v
 |some vs=>some (.P' vs)
 |none=>none
def Ret(l:List VR)(st:St)(Post:V->af->Prop):Prop:=
 ∃v v' Z',nY st l=some v/\aa Z' st.U/\Wk st.U Z' v v'/\Post v' Z'
structure Yb where
 n:Nat
 code:bf
 res:List VR
def cfn(P:Program)(fn:Func):Option Yb:=match fn.body with
 |some c=>some ⟨fn.ntmps,cY P fn.ntmps c,fn.results.toList.map (A7 P fn.ntmps)⟩
 |none=>none
def AA(tmps:Array Value):ResultVar->Go.Sem Value
 |.tmp t=>pure (tmps.getD t undef)
 |.cell b t=>do loadVar t (<-asAddr (tmps.getD b undef))
def D5(fn:Func)(tmps:Array Value):results fn tmps=(do
 let vs <-Functor.map List.toArray (fn.results.toList.mapM (AA tmps))
 pure (if h:vs.size=1 then vs[0]else .tuple vs)):=by
 unfold results;rw[Array.mapM_eq_mapM_toList];congr 3
def AI{F:Fr}{I:Mu}{a:Act}{w:World}(hs:cI F I st a w)(r:ResultVar){v:V}(h:gm st (A7 P F.n r)=some v):
 ∃x,(AA a.tmps r).run P w=.ok x w/\E' I (aA I st.U) w v x:=by
 cases r with
 |tmp t=>
  simp only[A7,gm,aB]at h;subst h;exact⟨_,rfl,bH hs (.tmp t)⟩
 |cell b t=>
  simp only[A7]at h;split at h
  .rename_i hk;simp only[gm]at h;have hx:=bH hs (.tmp b);obtain⟨z,h1,h2⟩:=zh (P:=P) hs.sat hk hx h;refine⟨z,?_,h2⟩;have he:a.eval (.tmp b)=a.tmps.getD b undef:=rfl;rw[he]at h1;simp only[Instr.loadAt,Sem.run_bind]at h1;simp only[AA,Sem.run_bind];generalize a.tmps.getD b undef=u at*;cases u<;>simp[Instr.sureAddr]at h1;rename_i p;cases p<;>simp[asAddr]at h1|-;exact h1
  .simp[gm]at h
def xO{F:Fr}{I:Mu}{a:Act}{w:World}(hs:cI F I st a w)(fn:Func){v:V}(h:nY st (fn.results.toList.map (A7 P F.n))=some v):
 ∃x,(results fn a.tmps).run P w=.ok x w/\E' I (aA I st.U) w v x:=by
 have key:∀(l:List ResultVar) (vs:List V),ej st (l.map (A7 P F.n))=some vs->
  ∃xs,(l.mapM (AA a.tmps)).run P w=.ok xs w/\al I (aA I st.U) w vs xs:=by
  intro l
  induction l with
  |nil=>intro vs h;simp only[List.map_nil,ej,aB]at h;subst h;exact⟨[],rfl,by simp[al]⟩
  |cons r l ih=>
   intro vs h;simp only[dS,ej]at h;split at h
   .rename_i v hv;split at h
    .rename_i vs' hvs;simp only[aB]at h;subst h;obtain⟨x,h1,h2⟩:=AI (P:=P) hs r hv;obtain⟨xs,h3,h4⟩:=ih vs' hvs;refine⟨x::xs,?_,by simp only[al];exact⟨x,xs,rfl,h2,h4⟩⟩;rw[List.mapM_cons];simp only[Sem.run_bind];rw[h1];simp only[Result.andThen_ok];rw[h3];simp
    .cases h
   .cases h
 unfold nY at h;cases YU:ej st (fn.results.toList.map (A7 P F.n))with
 |none=>simp[YU]at h
 |some vs=>
  obtain⟨xs,h1,h2⟩:=key _ _ YU;have Yw:(results fn a.tmps).run P w=.ok (if hl:xs.toArray.size=1 then xs.toArray[0]else .tuple xs.toArray) w:=by
   rw[D5];simp only[Sem.run_bind,Sem.run_map];rw[h1];simp
  rw[YU]at h
  match vs,h,h2 with
  |[],h,h2=>
   simp only[al]at h2;subst h2;simp only[aB]at h;subst h;exact⟨_,Yw,by simp[E',al]⟩
  |[u],h,h2=>
   simp only[al]at h2;obtain⟨x,xs',rfl,h3,rfl⟩:=h2;simp only[aB]at h;subst h;exact⟨_,Yw,by simpa using h3⟩
  |u1::u2::us,h,h2=>
   simp only[aB]at h;subst h;have hlen:=h2.length;refine⟨_,Yw,?_⟩;rw[dif_neg (by simp[hlen])];simp only[E'];exact⟨xs,rfl,h2⟩
def ef(args:List V):Nat->V:=λi=>args.getD i (.P' [])
def cI.Pg{F:Fr}{I:Mu}{a:Act}{w:World}(hs:cI F I st a w){d:Deferred}{ds:List Deferred}(hd:a.defers=d::ds):
 ∃D w',d.target=.collected D/\(Instr.takeDeferred D).run P w=.ok [] w'/\cI F I st { a with defers:=ds } w':=by
 obtain⟨Ds,h1,h2,h3⟩:=hs.book.marks;rw[hd]at h1;cases Ds with
 |nil=>simp at h1
 |cons D Ds=>
  simp only[dS,List.cons.injEq]at h1;obtain⟨rfl,rfl⟩:=h1;obtain⟨g1,g2,g3⟩:=h3 D (by simp);simp only[List.nodup_cons]at h2;refine⟨D,w.putObj D (.deferred none),rfl,run_takeDeferred g2,?_⟩;have YA:∀b,b≠D->(w.putObj D (.deferred none)).heap[b]?=w.heap[b]?:=λb hb=>World.putObj_heap_other hb;have hk:sd (aA I st.U) (aA I st.U) w (w.putObj D (.deferred none)):=λb _ hn=>⟨hn,λoff x hx=>by
   by_cases hb:b=D
   .subst hb;simp[World.cell?,g2]at hx
   .exact eh (YA b hb) off x hx⟩
  have hz:w.heap.size<=(w.putObj D (.deferred none)).heap.size:=by simp
  refine⟨⟨by simpa using hs.sat.size,hs.sat.os,hs.sat.tape,hs.sat.output,λb hb hn=>(YA b (by omega)).trans (hs.sat.same b hb hn),hs.sat.fin,hs.sat.inj,λid o ho=>?_,hs.sat.fresh,hs.sat.glob⟩,
   hs.le,hs.size,⟨λl r e=>?_,Ds,rfl,h2.2,λD' hD'=>?_⟩,λi hi=>E'.bM (cC.refl I) hk hz _ _ (hs.slot i hi)⟩
  .refine(hs.sat.obj id o ho).bM (cC.refl I) hk hz λb sz cap hp=>YA b ?_;rintro rfl;exact g3 ⟨id,o,sz,cap,ho,hp⟩
  .obtain⟨q1,q2⟩:=hs.book.rnd l r e;refine⟨(YA l ?_).trans q1,q2⟩;rintro rfl;rw[g2]at q1;cases q1
  .obtain⟨q1,q2,q3⟩:=h3 D' (by simp[hD']);refine⟨q1,(YA D' ?_).trans q2,q3⟩;rintro rfl;exact h2.1 hD'
def zw{F:Fr}{I:Mu}{fn:Func}{R:Ending->World->Prop}:∀(ds:List Deferred) (a:Act) (w:World),a.defers=ds->cI F I st a w->
 (∀a' w',a'.tmps=a.tmps->cI F I st a' w'->∃v,(results fn a'.tmps).run P w'=.ok v w'/\R (.returned v) w')->LeavesInM F.dV 0 P fn a.tmps R ds .returning w
 |[],a,w,_,hs,h=>by
  obtain⟨v,h1,h2⟩:=h a w rfl hs;exact⟨v,h1,h2⟩
 |d::ds,a,w,hd,hs,h=>by
  obtain⟨D,w',h1,h2,h3⟩:=hs.Pg (P:=P) hd;exact⟨by simp,.inl ⟨D,w',h1,h2,zw ds { a with defers:=ds } w' rfl h3 (λa' w' e Ye=>h a' w' e Ye)⟩⟩
def uh.jT{f:FuncId}{fn:Func}{vf:Yb}(hf:P.funcs[f]?=some fn)(hv:cfn P fn=some vf){args:List V}{U:af}{Post:V->af->Prop}(hlen:args.length<=vf.n)
 (h:ab P vf.n [.code vf.code] ⟨ef args,U⟩ λst=>Ret vf.res st Post):uh P f args U Post:=by
 intro I w Yf hsat hr;unfold cfn at hv;cases hb:fn.body with
 |none=>simp[hb]at hv
 |some c=>
  simp only[hb,aB]at hv;subst hv;simp only at h hlen;have hl:=hr.length;refine callsIn_wide.1 (callsIn_of_wp_marks (n:=0) hf hb trivial ?_ rfl);have hs:cI ⟨w,aA I U,I,fn.ntmps,none⟩ I ⟨ef args,U⟩ { tmps:=Yf.toArray++Array.replicate (fn.ntmps-Yf.toArray.size) undef,defers:=[] } w:=by
   refine⟨hsat,cC.refl I,by simp;omega,⟨λ_ _ e=>by simp at e,[],rfl,.nil,by simp⟩,λi hi=>?_⟩;simp only[ef];by_cases H':i<args.length
   .have hv:args[i]?=some (args.getD i (.P' [])):=by simp[List.getD,Zq6 H']
    obtain⟨x,hx,hrx⟩:=hr.get hv;rw[Zq7,Array.getElem?_append_left (by simp;omega)];simp only[List.getElem?_toArray,hx,Option.getD_some];exact hrx
   .have hv:args.getD i (.P' [])=.P' []:=by simp[List.getD,rO (Nat.le_of_not_lt H')]
    rw[hv,Zq7,Array.getElem?_append_right (by simp;omega)];simp only[E'];refine⟨[],?_,by simp[al]⟩;rw[Array.getElem?_replicate];split<;>rfl
  have hgo:=h ⟨w,aA I U,I,fn.ntmps,none⟩ rfl [.code c] rfl _ w ⟨I,hs⟩;refine wpIn_mono (F:=Fence.wide) hgo ?_;rintro e a' w' ⟨he,st,⟨v,v',Z',hres,G',hwk,hpost⟩,Y',Ye⟩;have Zg:LeavesInM Fence.wide 0 P fn a'.tmps (λe w'=>∃r Z' Y' val,e=Ending.returned val/\Post r Z'/\cC I Y'/\Sat w (aA I U) Y' Z' w'/\E' Y' (aA Y' Z') w' r val) a'.defers .returning w':=by
   refine zw (F:=⟨w,aA I U,I,fn.ntmps,none⟩) a'.defers a' w' rfl Ye λa1 w1 _ ZM=>?_;obtain⟨x,hx,hrx⟩:=xO (P:=P) ZM fn hres;exact⟨x,hx,v',Z',Y',x,rfl,hpost,ZM.le,ZM.sat.drop G',hwk Y' _ _ _ _ ZM.sat hrx⟩
  rcases he with rfl|rfl<;>exact Zg
def au.jT{f:FuncId}{fn:Func}{vf:Yb}(hf:P.funcs[f]?=some fn)(hv:cfn P fn=some vf)(YZ:bV P f=true){args:List V}{U:af}{Post:V->af->Prop}(hlen:args.length<=vf.n)
 (h:ab P vf.n [.code vf.code] ⟨ef args,U⟩ λst=>Ret vf.res st Post):au P f args U Post:=⟨YZ,.jT hf hv hlen h⟩
structure Fo(P:Program)(f:FuncId)(fn:Func)(vf:Yb):Prop where
 a:P.funcs[f]?=some fn
 b:cfn P fn=some vf:=by kernel_rfl
 c:bV P f=true:=by kernel_rfl
def Fo.r{P:Program}{f:FuncId}{fn:Func}{vf:Yb}(h:Fo P f fn vf){args:List V}{U:af}{Post:V->af->Prop}(hlen:args.length<=vf.n)
 (k:ab P vf.n [.code vf.code] ⟨ef args,U⟩ λst=>Ret vf.res st Post):au P f args U Post:=au.jT h.a h.b h.c hlen k
variable {P:Program} {n:Nat}
def gj(U:af)(sz:Nat)(xa xv:V):Option af:=
 match xa with
 |.ptr id i c=>match U id with
  |some ob=>match ob.rows[i]? with
   |some r=>match fk r c sz xv with
    |some r'=>some (C' U id ⟨ob.elem,ob.sz,ob.rows.set i r'⟩)
    |none=>none
   |none=>none
  |none=>none
 |_=>none
def eff(s:Nat->V)(U:af):Yq->Option (Nat->V×af)
 |.alloc e sz z=>some λid=>(.ptr id 0 0,C' U id ⟨e,sz,[z]⟩)
 |.box e sz x=>if(x.ev s).cells.length=sz/\(x.ev s).stays=true then some λid=>(.ptr id 0 0,C' U id ⟨e,sz,[x.ev s]⟩)else none
 |.eR e sz xs=>if(xs.map (·.ev s)).all (λx=>decide (x.cells.length=sz)&&x.stays)then some λid=>(.own id 0 xs.length,C' U id ⟨e,sz,xs.map (·.ev s)⟩)else none
 |.append e sz bytes xa xb=>match bN U e sz (xa.ev s),bz U sz (xb.ev s)with
  |some (base,Yn),some src=>if(base.length+src.length)*(bytes+1)<=140737488355328 then
     some λid=>(.own id 0 (base.length+src.length),C' (bt U Yn) id ⟨e,sz,base++src⟩)else none
  |_,_=>none
 |.mk e sz bytes z x=>match x.ev s with
  |.int .i64 m=>if 0<=m/\m.toNat*(bytes+1)<=140737488355328 then some λid=>(.own id 0 m.toNat,C' U id ⟨e,sz,List.replicate m.toNat z⟩)else none
  |_=>none
 |.appz e sz bytes z y x=>match y.ev s,x.ev s with
  |.aC,.int _ m=>if 0<m/\m.toNat*(bytes+1)<=140737488355328 then some λid=>(.own id 0 m.toNat,C' U id ⟨e,sz,List.replicate m.toNat z⟩)else none
  |_,_=>none
 |_=>none
def TO(P:Program)(dst:Option Nat)(op:Yq)(x:St)(K:St->Prop):Prop:=
 match aX op with
 |0=>ez x.s op/\∃v,aE x.U x.s op=some v/\K ⟨aO x.s dst v,x.U⟩
 |1=>match op with
  |.call fx xs=>∃f caps v,fx.ev x.s=.fn f caps/\(∀Z1,aa x.U Z1->au P f (xs.map (·.ev x.s)++caps) Z1 (λr Z'=>r=v/\Z'=Z1))/\K ⟨aO x.s dst v,x.U⟩
  |_=>False
 |2=>match op with
  |.store sz xa xv=>∃Z',gj x.U sz (xa.ev x.s) (xv.ev x.s)=some Z'/\K ⟨aO x.s dst (.P' []),Z'⟩
  |_=>False
 |3=>∃g,eff x.s x.U op=some g/\∀id,x.U id=none->K ⟨aO x.s dst (g id).1,(g id).2⟩
 |_=>False
def T(P:Program)(i:az)(x:St)(K:St->Prop):Prop:=
 match aQ x.s i.g with
 |some true=>TO P i.dst i.op x K
 |some false=>K ⟨aO x.s i.dst (.P' []),x.U⟩
 |none=>False
def TO.mono{dst:Option Nat}{op:Yq}{x:St}{K K':St->Prop}(hk:∀x,K x->K' x)(h:TO P dst op x K):TO P dst op x K':=by
 unfold TO at*;split<;>rename_i ho<;>simp only[ho]at h
 .obtain⟨h1,v,h2,h3⟩:=h;exact⟨h1,v,h2,hk _ h3⟩
 .split at h
  .obtain⟨f,caps,v,h1,h2,h3⟩:=h;exact⟨f,caps,v,h1,h2,hk _ h3⟩
  .exact h.elim
 .split at h
  .obtain⟨Z',h1,h2⟩:=h;exact⟨Z',h1,hk _ h2⟩
  .exact h.elim
 .obtain⟨g,h1,h2⟩:=h;exact⟨g,h1,λid O'=>hk _ (h2 id O')⟩
def T.mono{i:az}{x:St}{K K':St->Prop}(hk:∀x,K x->K' x)(h:T P i x K):T P i x K':=by
 unfold T at*;split<;>rename_i ho<;>simp only[ho]at h
 .exact h.mono hk
 .exact hk _ h
def Inf(U:af):Prop:=∀N,∃id,N<=id/\U id=none
def Inf.C'{U:af}(h:Inf U)(id:Nat)(o:Ob):Inf (C' U id o):=λN=>by
 obtain⟨i,h1,h2⟩:=h (max N (id+1));exact⟨i,by omega,by simp[Vc.C',show i≠id by omega,h2]⟩
def Inf.bt{U:af}(h:Inf U)(o:Option Nat):Inf (bt U o):=λN=>by
 obtain⟨i,h1,h2⟩:=h N;refine⟨i,h1,?_⟩;cases o with
 |none=>exact h2
 |some j=>simp only[Vc.bt,del];split<;>simp_all
def ee.inf{F:Fr}{st:St}{a:Act}{w:World}(h:ee F st a w):Inf st.U:=by
 obtain⟨I,h⟩:=h;obtain⟨N,hN⟩:=h.sat.fin;intro M;refine⟨max N M,by omega,?_⟩;cases ho:st.U (max N M)with
 |none=>rfl
 |some o=>
  have:=h.sat.obj _ o ho;rw[hN _ (by omega)]at this;exact this.elim
def Mc{s:Nat->V}{U:af}(h:Inf U){op:Yq}{g:Nat->V×af}(he:eff s U op=some g)(id:Nat):Inf (g id).2:=by
 unfold eff at he;split at he
 .simp only[aB]at he;subst he;exact h.C' _ _
 .split at he
  .simp only[aB]at he;subst he;exact h.C' _ _
  .cases he
 .split at he
  .simp only[aB]at he;subst he;exact h.C' _ _
  .cases he
 .split at he
  .split at he
   .simp only[aB]at he;subst he;exact(h.bt _).C' _ _
   .cases he
  .cases he
 .split at he
  .split at he
   .simp only[aB]at he;subst he;exact h.C' _ _
   .cases he
  .cases he
 .split at he
  .split at he
   .simp only[aB]at he;subst he;exact h.C' _ _
   .cases he
  .cases he
 .cases he
def EL{U Z':af}(h:Inf U){sz:Nat}{a v:V}(he:gj U sz a v=some Z'):Inf Z':=by
 unfold gj at he;split at he
 .split at he
  .split at he
   .split at he
    .simp only[aB]at he;subst he;exact h.C' _ _
    .cases he
   .cases he
  .cases he
 .cases he
def TO.inf{dst:Option Nat}{op:Yq}{x:St}{K:St->Prop}(hi:Inf x.U)(h:TO P dst op x K):TO P dst op x λx'=>Inf x'.U/\K x':=by
 unfold TO at*;split<;>rename_i ho<;>simp only[ho]at h
 .obtain⟨h1,v,h2,h3⟩:=h;exact⟨h1,v,h2,hi,h3⟩
 .split at h
  .obtain⟨f,caps,v,h1,h2,h3⟩:=h;exact⟨f,caps,v,h1,h2,hi,h3⟩
  .exact h.elim
 .split at h
  .obtain⟨Z',h1,h2⟩:=h;exact⟨Z',h1,EL hi h1,h2⟩
  .exact h.elim
 .obtain⟨g,h1,h2⟩:=h;exact⟨g,h1,λid O'=>⟨Mc hi h1 id,h2 id O'⟩⟩
def T.inf{i:az}{x:St}{K:St->Prop}(hi:Inf x.U)(h:T P i x K):T P i x λx'=>Inf x'.U/\K x':=by
 unfold T at*;split<;>rename_i ho<;>simp only[ho]at h
 .exact h.inf hi
 .exact⟨hi,h⟩
def Jf{s:Nat->V}{d:Option Nat}{v:V}{x:VX}(h:∀t,d=some t->x.Nh≠some t):x.ev (aO s d v)=x.ev s:=by
 cases d with
 |none=>rfl
 |some t=>
  cases x with
  |c _=>rfl
  |t u=>
   simp only[VX.ev,aO];have:=h t rfl;simp only[VX.Nh,ne_eq,aB]at this;rw[av this]
def sq{s s':Nat->V}{l:List VX}(h:∀x∈l,x.ev s=x.ev s'):l.map (·.ev s)=l.map (·.ev s'):=List.map_congr_left h
def rG{s s':Nat->V}{l:Option VX}(h:∀x∈l.toList,x.ev s=x.ev s'):l.map (·.ev s)=l.map (·.ev s'):=by
 cases l with
 |none=>rfl
 |some x=>simp[h x (by simp)]
def tq{s s':Nat->V}{U:af}{op:Yq}(h:∀x∈op.xs,x.ev s=x.ev s'):aE U s op=aE U s' op/\(ez s op↔ez s' op):=by
 cases op<;>simp only[Yq.xs,cg,List.not_mem_nil,or_false,forall_eq_or_imp,forall_eq,dc]at h<;>
  simp only[aE,ez,h,and_true,and_self]
 case slice ZS x lo hi mx=>
  rw[rG (l:=lo) (λy hy=>h.2 y (.inl (.inl hy))),rG (l:=hi) (λy hy=>h.2 y (.inl (.inr hy))),rG (l:=mx) (λy hy=>h.2 y (.inr hy))]
 case sliceS x lo hi=>
  rw[rG (l:=lo) (λy hy=>h.2 y (.inl hy)),rG (l:=hi) (λy hy=>h.2 y (.inr hy))]
 case mkfn f xs=>rw[sq h]
 case more m xs=>
  by_cases hb:∃f,m=.mkB f
  .obtain⟨f,rfl⟩:=hb;have e:=sq h;cases xs with
   |nil=>rfl
   |cons x xs=>cases xs<;>exact congrArg (λl=>some (V.bm f l)) e
  cases xs with
  |nil=>cases m<;>rfl
  |cons x xs=>
   have hx:=h x (by simp);cases xs with
   |nil=>cases m<;>first|rfl|exact absurd ⟨_,rfl⟩ hb|simp only[hx]
   |cons y ys=>cases m<;>first|rfl|exact absurd ⟨_,rfl⟩ hb
 case build z ps=>
  have:(ps.map λp=>(p.1,p.2.1,p.2.2.ev s))=ps.map λp=>(p.1,p.2.1,p.2.2.ev s'):=List.map_congr_left λp hp=>by
   rw[h _ (gg.2 ⟨p,hp,rfl⟩)]
  rw[this]
def fe{s s':Nat->V}{U:af}{op:Yq}(h:∀x∈op.xs,x.ev s=x.ev s'):eff s U op=eff s' U op:=by
 cases op<;>simp only[Yq.xs,cg,List.not_mem_nil,or_false,forall_eq_or_imp,forall_eq,dc]at h<;>
  simp only[eff,h]
 case eR e sz xs=>rw[sq h]
def CD{s:Nat->V}{U Z':af}{op:Yq}(h:lh op=true):aE U s op=aE Z' s op:=by
 cases op
 case more m xs=>
  cases xs with
  |nil=>cases m<;>rfl
  |cons x xs=>cases xs<;>cases m<;>rfl
 all_goals first|rfl|simp[lh]at h
variable {P:Program} {n:Nat}
def apart_spec{A B:az}(h:D6 A B=true):(∀d,A.dst=some d->d∉B.lR)/\(∀d,B.dst=some d->d∉A.lR)/\(∀d,A.dst=some d->B.dst≠some d):=by
 simp only[D6,Ba]at h;obtain⟨h1,h2⟩:=h;refine⟨λd hd=>?_,λd hd=>?_,λd hd=>?_⟩
 .rw[hd]at h1;simp at h1;exact h1.1
 .rw[hd]at h2;simpa using h2
 .rw[hd]at h1;simp at h1;exact h1.2
def HN{s:Nat->V}{a b:Option Nat}{u v:V}(h:∀d,a=some d->b≠some d):aO (aO s a u) b v=aO (aO s b v) a u:=by
 cases a with
 |none=>rfl
 |some x=>
  cases b with
  |none=>rfl
  |some y=>
   have YA:y≠x:=λe=>h x rfl (by rw[e]);funext i;simp only[aO];by_cases h1:i=y<;>by_cases h2:i=x<;>simp_all
def FW{i:az}{x:VX}(hx:x∈i.op.xs){t:Nat}(ht:x.Nh=some t):t∈i.lR:=
 List.mem_filterMap.2 ⟨x,List.mem_append_left _ hx,ht⟩
def gH{i:az}{d:Option Nat}{v:V}(h:∀t,d=some t->t∉i.lR)(s:Nat->V):∀x∈i.op.xs,x.ev (aO s d v)=x.ev s:=
 λ_ hx=>Jf λt ht e=>h t ht (FW hx e)
def bU{i:az}{d:Option Nat}{v:V}(h:∀t,d=some t->t∉i.lR)(s:Nat->V):aQ (aO s d v) i.g=aQ s i.g:=by
 cases hg:i.g with
 |none=>rfl
 |some g=>
  obtain⟨x,b⟩:=g;have:x.ev (aO s d v)=x.ev s:=Jf λt ht e=>h t ht (List.mem_filterMap.2 ⟨x,List.mem_append_right _ (by simp[hg]),e⟩);simp only[aQ,this]
def QO(P:Program)(op:Yq)(s:Nat->V)(U:af)(v:V):Prop:=
 match aX op with
 |0=>ez s op/\aE U s op=some v
 |1=>match op with
  |.call fx xs=>∃f caps,fx.ev s=.fn f caps/\∀Z1,aa U Z1->au P f (xs.map (·.ev s)++caps) Z1 (λr Z'=>r=v/\Z'=Z1)
  |_=>False
 |_=>False
def QY(P:Program)(i:az)(s:Nat->V)(U:af)(v:V):Prop:=
 (aQ s i.g=some true/\QO P i.op s U v)\/(aQ s i.g=some false/\v=.P' [])
def bY{i:az}(hq:fg i=true){x:St}{K:St->Prop}:T P i x K↔∃v,QY P i x.s x.U v/\K ⟨aO x.s i.dst v,x.U⟩:=by
 simp only[fg,Zq9]at hq;unfold T QY;cases hw:aQ x.s i.g with
 |none=>simp
 |some b=>
  cases b
  .simp
  .simp only[true_and,aB,Bool.true_eq_false,false_and,or_false];unfold TO QO;have:aX i.op=0\/aX i.op=1:=by omega
   rcases this with h0|h0<;>simp only[h0]
   .constructor
    .rintro⟨h1,v,h2,h3⟩;exact⟨v,⟨h1,h2⟩,h3⟩
    .rintro⟨v,⟨h1,h2⟩,h3⟩;exact⟨h1,v,h2,h3⟩
   .cases X9:i.op<;>simp[aX,X9]at h0|-;constructor
    .rintro⟨f,caps,h1,v,h2,h3⟩;exact⟨v,⟨f,caps,h1,h2⟩,h3⟩
    .rintro⟨v,⟨f,caps,h1,h2⟩,h3⟩;exact⟨f,caps,h1,v,h2,h3⟩
def xu{op:Yq}{s s':Nat->V}{U:af}{v:V}(h:∀x∈op.xs,x.ev s=x.ev s')(hq:QO P op s U v):QO P op s' U v:=by
 unfold QO at*;by_cases h0:aX op=0
 .obtain⟨h1,h2⟩:=tq (U:=U) h;simp only[h0]at hq|-;exact⟨h2.1 hq.1,h1▸hq.2⟩
 .by_cases h1:aX op=1
  .simp only[h1]at hq|-;cases op<;>simp only[]at hq<;>first|exact hq.elim|skip
   rename_i fx xs;obtain⟨f,caps,g1,g2⟩:=hq;refine⟨f,caps,?_,?_⟩
   .rw[<-h fx (by simp[Yq.xs])];exact g1
   .rw[<-sq (s:=s) (s':=s') λx hx=>h x (by simp[Yq.xs,hx])];exact g2
  .exfalso;revert hq;split<;>simp_all
def fO{i:az}{s:Nat->V}{U:af}{v u:V}{d:Option Nat}(h:∀t,d=some t->t∉i.lR):QY P i (aO s d u) U v↔QY P i s U v:=by
 unfold QY;rw[bU h];constructor
 .rintro(⟨h1,h2⟩|h1)
  .exact .inl ⟨h1,xu (gH h s) h2⟩
  .exact .inr h1
 .rintro(⟨h1,h2⟩|h1)
  .exact .inl ⟨h1,xu (λx hx=>(gH h s x hx).symm) h2⟩
  .exact .inr h1
def mS{op:Yq}(h:lh op=true):aX op=0:=by
 cases op
 case more m xs=>cases m<;>simp[lh,aX]at h|-
 all_goals simp[lh,aX]at h|-
def kH{i:az}(hf:lh i.op=true){s:Nat->V}{U Z':af}{v:V}(h:QY P i s U v):QY P i s Z' v:=by
 rcases h with⟨h1,h2⟩|h1
 .refine .inl ⟨h1,?_⟩;unfold QO at*;simp only[mS hf]at*;exact⟨h2.1,by rw[<-CD (U:=U) hf];exact h2.2⟩
 .exact .inr h1
def Qd{i:az}(hf:lh i.op=true){s:Nat->V}{U:af}{v v':V}(h:QY P i s U v)(h':QY P i s U v'):v=v':=by
 rcases h with⟨h1,h2⟩|⟨h1,h2⟩<;>rcases h' with⟨g1,g2⟩|⟨g1,g2⟩
 .unfold QO at*;simp only[mS hf]at*;have:=h2.2.symm.trans g2.2;simpa using this
 .rw[h1]at g1;cases g1
 .rw[h1]at g1;cases g1
 .rw[h2,g2]
def gA{i:az}(he:uF i=true){x:St}{K:St->Prop}:T P i x K↔
 (aQ x.s i.g=some false/\K ⟨aO x.s i.dst (.P' []),x.U⟩)\/
 (aQ x.s i.g=some true/\((∃sz xa xv Z',i.op=.store sz xa xv/\gj x.U sz (xa.ev x.s) (xv.ev x.s)=some Z'/\K ⟨aO x.s i.dst (.P' []),Z'⟩)\/
   (aX i.op=3/\∃g,eff x.s x.U i.op=some g/\∀id,x.U id=none->K ⟨aO x.s i.dst (g id).1,(g id).2⟩))):=by
 unfold T;cases hw:aQ x.s i.g with
 |none=>simp
 |some b=>
  cases b
  .simp
  .simp only[aB,Bool.true_eq_false,false_and,false_or,true_and];unfold TO;simp only[uF,kS,beq_iff_eq]at he;rcases he with h0|h0<;>simp only[h0]
   .cases X9:i.op<;>simp[aX,X9]at h0|-;constructor
    .rintro⟨Z',h1,h2⟩;exact⟨_,_,_,⟨rfl,rfl,rfl⟩,Z',h1,h2⟩
    .rintro⟨_,_,_,⟨rfl,rfl,rfl⟩,Z',h1,h2⟩;exact⟨Z',h1,h2⟩
   .have:∀sz xa xv,i.op≠.store sz xa xv:=λ_ _ _ e=>by rw[e]at h0;simp[aX]at h0
    simp[this]
def lC(s:Nat->V):Yq->Option Nat
 |.load _ _ x=>match x.ev s with
   |.ptr id _ _=>some id
   |_=>none
 |.idxA _ x _=>match x.ev s with
   |.own id _ _=>some id
   |_=>none
 |.slice _ x _ _ _=>match x.ev s with
   |.own id _ _=>some id
   |_=>none
 |.bstr x=>match x.ev s with
   |.own id _ _=>some id
   |_=>none
 |_=>none
def DV{s:Nat->V}{U Z':af}{op:Yq}(h:∀j,lC s op=some j->U j=Z' j):aE U s op=aE Z' s op:=by
 cases op<;>try rfl
 case more m xs=>
  cases xs with
  |nil=>cases m<;>rfl
  |cons x xs=>cases xs<;>cases m<;>rfl
 case load agg sz x=>
  simp only[lC]at h;simp only[aE,bB];split
  .rename_i id i k hx;simp only[hx,aB,forall_eq']at h;rw[h]
  .rfl
  .rfl
 case idxA ZS x i=>
  simp only[lC]at h;simp only[aE];generalize x.ev s=xv at*;generalize i.ev s=iv at*;cases xv<;>try (cases iv<;>rfl)
  case own id off len=>
   simp only[aB,forall_eq']at h;cases iv<;>try rfl
   simp only[bo,h]
 case bstr x=>
  simp only[lC]at h;simp only[aE];generalize x.ev s=xv at*;cases xv<;>try rfl
  case own id off len=>
   simp only[aB,forall_eq']at h;simp only[kB,h]
 case slice ZS x lo hi mx=>
  simp only[lC]at h;simp only[aE,ek];split
  .rename_i id off len hx;simp only[hx,aB,forall_eq']at h;have:x8 U id ZS=x8 Z' id ZS:=by simp only[x8,h]
   simp only[this]
  .rfl
  .rfl
  .rfl
def E9{s:Nat->V}{U:af}{op:Yq}{v:V}(hv:aE U s op=some v){j:Nat}(hj:lC s op=some j):U j≠none:=by
 intro hn;cases op<;>simp only[lC,reduceCtorEq]at hj
 case load agg sz x=>
  split at hj
  .rename_i id i k hx;simp only[aB]at hj;subst hj;simp[aE,bB,hx,hn]at hv
  .cases hj
 case idxA ZS x i=>
  split at hj
  .rename_i id off len hx;simp only[aB]at hj;subst hj;simp only[aE]at hv;rw[hx]at hv;generalize i.ev s=iv at hv;cases iv<;>simp[bo,hn]at hv
  .cases hj
 case bstr x=>
  split at hj
  .rename_i id off len hx;simp only[aB]at hj;subst hj;simp[aE,kB,hx,hn]at hv
  .cases hj
 case slice ZS x lo hi mx=>
  split at hj
  .rename_i id off len hx;simp only[aB]at hj;subst hj;simp only[aE,ek,hx,x8,hn]at hv;split at hv
   .simp at hv
   .cases hv
  .cases hj
def uO{i:az}(h:mkI i=true):aX i.op=3/\∀s U g,eff s U i.op=some g->∀id j,j≠id->(g id).2 j=U j:=by
 unfold mkI at h;split at h
 .rename_i X9;refine⟨by rw[X9];rfl,λs U g hg id j hj=>?_⟩;rw[X9]at hg;simp only[eff,aB]at hg;subst hg;simp[Vc.C',hj]
 .rename_i X9;refine⟨by rw[X9];rfl,λs U g hg id j hj=>?_⟩;rw[X9]at hg;simp only[eff]at hg;split at hg
  .simp only[aB]at hg;subst hg;simp[Vc.C',hj]
  .cases hg
 .rename_i X9;refine⟨by rw[X9];rfl,λs U g hg id j hj=>?_⟩;rw[X9]at hg;simp only[eff]at hg;split at hg
  .simp only[aB]at hg;subst hg;simp[Vc.C',hj]
  .cases hg
 .rename_i X9;refine⟨by rw[X9];rfl,λs U g hg id j hj=>?_⟩;rw[X9]at hg;simp only[eff]at hg;split at hg
  .split at hg
   .simp only[aB]at hg;subst hg;simp[Vc.C',hj]
   .cases hg
  .cases hg
 .cases h
def BE{i:az}(h:GU i=true):aX i.op=3/\∀s U g,eff s U i.op=some g->∀id j,j≠id->(g id).2 j=U j\/(g id).2 j=none:=by
 by_cases hm:mkI i=true
 .exact⟨(uO hm).1,λs U g hg id j hj=>.inl ((uO hm).2 s U g hg id j hj)⟩
 .unfold GU at h;unfold mkI at hm;cases X9:i.op<;>rw[X9]at h hm<;>simp at h hm;refine⟨rfl,λs U g hg id j hj=>?_⟩;simp only[eff]at hg;split at hg
  .split at hg
   .simp only[aB]at hg;subst hg;rename_i Yn _ _ _ _ _;simp only[Vc.C',av hj];rename_i base Yn src _ _ _;cases Yn with
    |none=>exact .inl rfl
    |some a=>
     simp only[bt,del];split
     .exact .inr rfl
     .exact .inl rfl
   .cases hg
  .cases hg
def Ar{i:az}(hp:kE i=true){s:Nat->V}{U Z':af}(h:∀j,lC s i.op=some j->U j=Z' j){v:V}(hq:QY P i s U v):QY P i s Z' v:=by
 simp only[kE,beq_iff_eq]at hp;rcases hq with⟨h1,h2⟩|h1
 .refine .inl ⟨h1,?_⟩;unfold QO at*;simp only[hp]at*;exact⟨h2.1,by rw[<-DV h];exact h2.2⟩
 .exact .inr h1
def zF{i:az}(hp:kE i=true){s:Nat->V}{U:af}{v v':V}(h:QY P i s U v)(h':QY P i s U v'):v=v':=by
 simp only[kE,beq_iff_eq]at hp;rcases h with⟨h1,h2⟩|⟨h1,h2⟩<;>rcases h' with⟨g1,g2⟩|⟨g1,g2⟩
 .unfold QO at*;simp only[hp]at*;have:=h2.2.symm.trans g2.2;simpa using this
 .rw[h1]at g1;cases g1
 .rw[h1]at g1;cases g1
 .rw[h2,g2]
def uL{i:az}(hp:kE i=true){s:Nat->V}{U:af}{v:V}(h:QY P i s U v)(hw:aQ s i.g=some true){j:Nat}(hj:lC s i.op=some j):U j≠none:=by
 simp only[kE,beq_iff_eq]at hp;rcases h with⟨_,h2⟩|⟨h1,_⟩
 .unfold QO at h2;simp only[hp]at h2;exact E9 h2.2 hj
 .rw[hw]at h1;cases h1
def AU{i:az}{s:Nat->V}{U Z':af}{v:V}(h:QY P i s U v)(hw:aQ s i.g≠some true):QY P i s Z' v:=by
 rcases h with⟨h1,_⟩|h1
 .exact absurd h1 hw
 .exact .inr h1
def KX{i:az}(hp:kE i=true){s:Nat->V}{U Z':af}{id:Nat}(O':U id=none)(YF:∀j,j≠id->Z' j=U j){v:V}(h:QY P i s U v):QY P i s Z' v:=by
 by_cases hw:aQ s i.g=some true
 .refine Ar hp (λj hj=>?_) h;have:=uL hp h hw hj;rw[YF j (λe=>this (e▸O'))]
 .exact AU h hw
def Hn{i:az}(hq:fg i=true){s:Nat->V}{U Z':af}{id:Nat}(O':U id=none)(YF:∀j,j≠id->Z' j=U j){v:V}(h:QY P i s U v):QY P i s Z' v:=by
 by_cases hp:kE i=true
 .exact KX hp O' YF h
 .have G':aa U Z':=λj o hj=>by rw[YF j (λe=>by rw[e,O']at hj;cases hj)];exact hj
  rcases h with⟨h1,h2⟩|h1
  .refine .inl ⟨h1,?_⟩;have hk:aX i.op=1:=by
    simp only[fg,Zq9]at hq;simp only[kE,beq_iff_eq]at hp;omega
   unfold QO at*;simp only[hk]at*;split at h2
   .obtain⟨f,caps,g1,g2⟩:=h2;exact⟨f,caps,g1,λZ1 hs=>g2 Z1 (G'.trans hs)⟩
   .exact h2.elim
  .exact .inr h1
def DF{i:az}(h:mkI i=true){s:Nat->V}{U:af}{g:Nat->V×af}(hg:eff s U i.op=some g):
 ∃(vf:Nat->V) (ob:Ob),(∀id,g id=(vf id,Vc.C' U id ob))/\∀Z',eff s Z' i.op=some λid=>(vf id,Vc.C' Z' id ob):=by
 unfold mkI at h;split at h
 .rename_i X9;rw[X9]at hg|-;simp only[eff,aB]at hg;subst hg;exact⟨_,_,λ_=>rfl,λ_=>rfl⟩
 .rename_i X9;rw[X9]at hg|-;simp only[eff]at hg|-;split at hg
  .rename_i hc;simp only[aB]at hg;subst hg;exact⟨_,_,λ_=>rfl,λZ'=>by rw[ar hc]⟩
  .cases hg
 .rename_i X9;rw[X9]at hg|-;simp only[eff]at hg|-;split at hg
  .rename_i hc;simp only[aB]at hg;subst hg;exact⟨_,_,λ_=>rfl,λZ'=>by rw[ar hc]⟩
  .cases hg
 .rename_i X9;rw[X9]at hg|-;simp only[eff]at hg|-;split at hg
  .rename_i hx;split at hg
   .rename_i hc;simp only[aB]at hg;subst hg;exact⟨_,_,λ_=>rfl,λZ'=>by rw[ar hc]⟩
   .cases hg
  .cases hg
 .cases h
def oS{op:Yq}(hk:aX op=3){sz:Nat}{xa xv:VX}(X9:op=.store sz xa xv):False:=by rw[X9]at hk;simp[aX]at hk
def yT{U:af}{a b:Nat}{oa ob:Ob}(h:a≠b):Vc.C' (Vc.C' U a oa) b ob=Vc.C' (Vc.C' U b ob) a oa:=by
 funext i;unfold Vc.C';by_cases h1:i=a<;>by_cases h2:i=b<;>simp_all
def Kh{i:az}(h:GU i=true){s:Nat->V}{U:af}{g:Nat->V×af}(hg:eff s U i.op=some g):
 ∃(vf:Nat->V) (ob:Ob) (d:Option Nat),(∀id,g id=(vf id,Vc.C' (bt U d) id ob))/\(∀a,d=some a->U a≠none)/\
  ∀j o,U j=none->eff s (Vc.C' U j o) i.op=some λid=>(vf id,Vc.C' (bt (Vc.C' U j o) d) id ob):=by
 by_cases hm:mkI i=true
 .obtain⟨vf,ob,h1,h2⟩:=DF hm hg;exact⟨vf,ob,none,h1,by simp,λj o _=>h2 _⟩
 .unfold GU at h;unfold mkI at hm;cases X9:i.op<;>rw[X9]at h hm hg<;>simp at h hm;rename_i e sz bytes xa xb;simp only[eff]at hg|-;split at hg
  .rename_i base Yn src e1 e2;split at hg
   .rename_i hc;simp only[aB]at hg;subst hg;have hlive:∀a,Yn=some a->U a≠none:=λa ha=>by
     subst ha;unfold bN at e1;split at e1
     .split at e1
      .rename_i ob YV;split at e1
       .simp only[aB,Prod.mk.injEq]at e1;rw[<-e1.2,YV];simp
       .cases e1
      .cases e1
     .simp at e1
     .cases e1
    refine⟨_,_,Yn,λ_=>rfl,hlive,λj o hj=>?_⟩;have YA:∀id ob,U id=some ob->Vc.C' U j o id=some ob:=λid ob h=>by
     have:id≠j:=λe=>by rw[e,hj]at h;cases h
     simp[Vc.C',this,h]
    have d1:bN (Vc.C' U j o) e sz (xa.ev s)=some (base,Yn):=by
     rw[<-e1];unfold bN at e1|-;split at e1
     .rename_i id _ _ _;split at e1
      .rename_i ob YV;simp only[YA _ _ YV]
      .cases e1
     .rfl
     .cases e1
    have d2:bz (Vc.C' U j o) sz (xb.ev s)=some src:=by
     rw[<-e2];unfold bz at e2|-;split at e2
     .split at e2
      .rename_i ob YV;simp only[YA _ _ YV]
      .cases e2
     all_goals first|rfl|cases e2
    simp only[d1,d2];rw[ar hc]
   .cases hg
  .cases hg
def Eo{A B:az}(hp:iD A B=true){x:St}(hi:Inf x.U){K:St->Prop}(h:T P A x λx'=>T P B x' K):T P B x λx'=>T P A x' K:=by
 simp only[iD,Ba,kS]at hp;obtain⟨hap,hk⟩:=hp;obtain⟨h1,h2,h3⟩:=apart_spec hap;have hcomm:∀(s:Nat->V) u v,aO (aO s A.dst u) B.dst v=aO (aO s B.dst v) A.dst u:=λs u v=>HN h3;rcases hk with((((⟨qa,qb⟩|⟨ea,sb⟩)|⟨sa,eb⟩)|⟨pa,mb⟩)|⟨ma,pb⟩)|⟨ma,mb⟩
 .rw[bY qa]at h;obtain⟨u,hu,h⟩:=h;rw[bY qb]at h;obtain⟨v,hv,h⟩:=h;rw[bY qb];refine⟨v,(fO h1).1 hv,?_⟩;rw[bY qa];refine⟨u,(fO h2).2 hu,?_⟩;simp only at h|-;rw[<-hcomm];exact h
 .have qb:fg B=true:=by simp[fg,mS sb]
  rw[gA ea]at h;rcases h with⟨hw,h⟩|⟨hw,⟨sz,xa,xv,Z',X9,hs,h⟩|⟨hk3,g,hg,h⟩⟩
  .rw[bY qb]at h;obtain⟨v,hv,h⟩:=h;rw[bY qb];refine⟨v,(fO h1).1 hv,?_⟩;rw[gA ea];refine .inl ⟨by rw[bU h2];exact hw,?_⟩;simp only at h|-;rw[<-hcomm];exact h
  .rw[bY qb]at h;obtain⟨v,hv,h⟩:=h;rw[bY qb];refine⟨v,kH sb ((fO h1).1 hv),?_⟩;rw[gA ea];refine .inr ⟨by rw[bU h2];exact hw,.inl ⟨sz,xa,xv,Z',X9,?_,?_⟩⟩
   .simp only;rw[gH h2 x.s xa (by simp[X9,Yq.xs]),gH h2 x.s xv (by simp[X9,Yq.xs])];exact hs
   .simp only at h|-;rw[<-hcomm];exact h
  .obtain⟨id0,_,hid0⟩:=hi 0;have h0:=h id0 hid0;rw[bY qb]at h0;obtain⟨v,hv,_⟩:=h0;have hvx:QY P B x.s x.U v:=kH sb ((fO h1).1 hv);rw[bY qb];refine⟨v,hvx,?_⟩;rw[gA ea];refine .inr ⟨by rw[bU h2];exact hw,.inr ⟨hk3,g,?_,λid O'=>?_⟩⟩
   .rw[<-hg];exact fe (gH h2 x.s)
   .have h4:=h id O';rw[bY qb]at h4;obtain⟨v',hv',h4⟩:=h4;have hvx':QY P B x.s x.U v':=kH sb ((fO h1).1 hv');have:=Qd sb hvx hvx';subst this;simp only at h4|-;rw[<-hcomm];exact h4
 .have qa:fg A=true:=by simp[fg,mS sa]
  rw[bY qa]at h;obtain⟨u,hu,h⟩:=h;rw[gA eb]at h;rw[gA eb];rcases h with⟨hw,h⟩|⟨hw,⟨sz,xa,xv,Z',X9,hs,h⟩|⟨hk3,g,hg,h⟩⟩
  .refine .inl ⟨by rw[<-bU h1];exact hw,?_⟩;rw[bY qa];refine⟨u,(fO h2).2 hu,?_⟩;simp only at h|-;rw[<-hcomm];exact h
  .refine .inr ⟨by rw[<-bU h1];exact hw,.inl ⟨sz,xa,xv,Z',X9,?_,?_⟩⟩
   .simp only at hs;rw[gH h1 x.s xa (by simp[X9,Yq.xs]),gH h1 x.s xv (by simp[X9,Yq.xs])]at hs;exact hs
   .rw[bY qa];refine⟨u,(fO h2).2 (kH sa hu),?_⟩;simp only at h|-;rw[<-hcomm];exact h
  .refine .inr ⟨by rw[<-bU h1];exact hw,.inr ⟨hk3,g,?_,λid O'=>?_⟩⟩
   .rw[<-hg];exact(fe (gH h1 x.s)).symm
   .rw[bY qa];refine⟨u,(fO h2).2 (kH sa hu),?_⟩;have h4:=h id O';simp only at h4|-;rw[<-hcomm];exact h4
 .have qa:fg A=true:=pa;obtain⟨hk3,hfr⟩:=uO mb;have eb:uF B=true:=by simp[uF,hk3]
  rw[bY qa]at h;obtain⟨u,hu,h⟩:=h;rw[gA eb]at h;rw[gA eb];rcases h with⟨hw,h⟩|⟨hw,⟨sz,xa,xv,Z',X9,hs,h⟩|⟨_,g,hg,h⟩⟩
  .refine .inl ⟨by rw[<-bU h1];exact hw,?_⟩;rw[bY qa];refine⟨u,(fO h2).2 hu,?_⟩;simp only at h|-;rw[<-hcomm];exact h
  .rw[X9]at hk3;simp[aX]at hk3
  .refine .inr ⟨by rw[<-bU h1];exact hw,.inr ⟨hk3,g,?_,λid O'=>?_⟩⟩
   .rw[<-hg];exact(fe (gH h1 x.s)).symm
   .rw[bY qa];refine⟨u,(fO h2).2 (Hn qa O' (λj hj=>hfr _ _ g hg id j hj) hu),?_⟩;have h4:=h id O';simp only at h4|-;rw[<-hcomm];exact h4
 .have qb:fg B=true:=by simp only[kE,beq_iff_eq]at pb;simp[fg,pb]
  obtain⟨hk3,hfr⟩:=BE ma;have ea:uF A=true:=by simp[uF,hk3]
  rw[gA ea]at h;rcases h with⟨hw,h⟩|⟨hw,⟨sz,xa,xv,Z',X9,hs,h⟩|⟨_,g,hg,h⟩⟩
  .rw[bY qb]at h;obtain⟨v,hv,h⟩:=h;rw[bY qb];refine⟨v,(fO h1).1 hv,?_⟩;rw[gA ea];refine .inl ⟨by rw[bU h2];exact hw,?_⟩;simp only at h|-;rw[<-hcomm];exact h
  .rw[X9]at hk3;simp[aX]at hk3
  ·
   obtain⟨id0,hge,hid0⟩:=hi ((lC x.s B.op).getD 0+1);have h0:=h id0 hid0;rw[bY qb]at h0;obtain⟨v,hv,_⟩:=h0;have hv1:=(fO h1).1 hv;have hvx:QY P B x.s x.U v:=by
    by_cases hwB:aQ x.s B.g=some true
    .refine Ar pb (λj hj=>?_) hv1;have hn:=uL pb hv1 hwB hj;refine(hfr _ _ g hg id0 j (λe=>?_)).resolve_right hn;rw[hj]at hge;simp at hge;omega
    .exact AU hv1 hwB
   rw[bY qb];refine⟨v,hvx,?_⟩;rw[gA ea];refine .inr ⟨by rw[bU h2];exact hw,.inr ⟨hk3,g,?_,λid O'=>?_⟩⟩
   .rw[<-hg];exact fe (gH h2 x.s)
   .have h4:=h id O';rw[bY qb]at h4;obtain⟨v',hv',h4⟩:=h4;have hv2:=(fO h1).1 hv';have hv3:QY P B x.s x.U v':=by
     by_cases hwB:aQ x.s B.g=some true
     .refine Ar pb (λj hj=>?_) hv2;have hn:=uL pb hv2 hwB hj;have hs:=uL pb hvx hwB hj;exact(hfr _ _ g hg id j (λe=>hs (e▸O'))).resolve_right hn
     .exact AU hv2 hwB
    have:=zF pb hv3 hvx;subst this;simp only at h4|-;rw[<-hcomm];exact h4
 .have ka:=(BE ma).1;have kb:=(uO mb).1;have ea:uF A=true:=by simp[uF,ka]
  have eb:uF B=true:=by simp[uF,kb]
  rw[gA ea]at h;rw[gA eb];rcases h with⟨hw,h⟩|⟨hw,⟨sz,xa,xv,Z',X9,_⟩|⟨_,g,hg,h⟩⟩
  .rw[gA eb]at h;rcases h with⟨hw2,h⟩|⟨hw2,⟨sz,xa,xv,Z',X9,_⟩|⟨_,g2,hg2,h⟩⟩
   .refine .inl ⟨by rw[<-bU h1];exact hw2,?_⟩;rw[gA ea];refine .inl ⟨by rw[bU h2];exact hw,?_⟩;simp only at h|-;rw[<-hcomm];exact h
   .exact(oS kb X9).elim
   .refine .inr ⟨by rw[<-bU h1];exact hw2,.inr ⟨kb,g2,by rw[<-hg2];exact(fe (gH h1 x.s)).symm,λid O'=>?_⟩⟩;rw[gA ea];refine .inl ⟨by rw[bU h2];exact hw,?_⟩;have h4:=h id O';simp only at h4|-;rw[<-hcomm];exact h4
  .exact(oS ka X9).elim
  .obtain⟨vA,oA,dA,hA,hdA,hA'⟩:=Kh ma hg;obtain⟨id0,_,hid0⟩:=hi 0;have h0:=h id0 hid0;rw[gA eb]at h0;rcases h0 with⟨hw2,_⟩|⟨hw2,⟨sz,xa,xv,Z',X9,_⟩|⟨_,g2,hg2,_⟩⟩
   .refine .inl ⟨by rw[<-bU h1];exact hw2,?_⟩;rw[gA ea];refine .inr ⟨by rw[bU h2];exact hw,.inr ⟨ka,g,by rw[<-hg];exact fe (gH h2 x.s),λid O'=>?_⟩⟩;have h4:=h id O';rw[gA eb]at h4;rcases h4 with⟨_,h4⟩|⟨hw3,_⟩
    .simp only at h4|-;rw[<-hcomm];exact h4
    .exfalso;have e1:=bU (v:=(g id).1) h1 (s:=x.s);have e2:=bU (v:=(g id0).1) h1 (s:=x.s);simp only at hw2 hw3;rw[e1]at hw3;rw[e2]at hw2;rw[hw3]at hw2;cases hw2
   .exact(oS kb X9).elim
   .have hg2x:eff x.s (g id0).2 B.op=some g2:=by rw[<-hg2];exact(fe (gH h1 x.s)).symm
    obtain⟨vB,oB,hB,hB'⟩:=DF mb hg2x;refine .inr ⟨by rw[<-bU h1];exact hw2,.inr ⟨kb,_,hB' x.U,λidB hidB=>?_⟩⟩;rw[gA ea];refine .inr ⟨by rw[bU h2];exact hw,.inr ⟨ka,λid=>(vA id,Vc.C' (bt (Vc.C' x.U idB oB) dA) id oA),?_,λYn hidA=>?_⟩⟩
    .rw[<-hA' idB oB hidB];exact fe (gH h2 x.s)
    .have YA:Yn≠idB:=λe=>by subst e;simp[Vc.C']at hidA
     have hidA':x.U Yn=none:=by simpa[Vc.C',YA]using hidA
     have h4:=h Yn hidA';rw[gA eb]at h4;rw[hA Yn]at h4;rcases h4 with⟨hw3,_⟩|⟨_,⟨sz,xa,xv,Z',X9,_⟩|⟨_,g3,hg3,h4⟩⟩
     .exfalso;have e1:=bU (v:=vA Yn) h1 (s:=x.s);have e2:=bU (v:=(g id0).1) h1 (s:=x.s);simp only at hw2 hw3;rw[e1]at hw3;rw[e2]at hw2;rw[hw3]at hw2;cases hw2
     .exact(oS kb X9).elim
     .have e3:eff x.s (Vc.C' (bt x.U dA) Yn oA) B.op=some g3:=by rw[<-hg3];exact(fe (gH h1 x.s)).symm
      rw[hB' (Vc.C' (bt x.U dA) Yn oA)]at e3;simp only[aB]at e3;subst e3;have Zk:∀i,x.U i=none->bt x.U dA i=none:=λi hi=>by
       cases dA with
       |none=>exact hi
       |some a=>simp only[bt,del];split<;>first|rfl|exact hi
      have h5:=h4 idB (by simp[Vc.C',YA.symm,Zk _ hidB]);have hsw:bt (Vc.C' x.U idB oB) dA=Vc.C' (bt x.U dA) idB oB:=by
       cases dA with
       |none=>rfl
       |some a=>
        funext i;have hab:a≠idB:=λe=>hdA a rfl (by rw[e];exact hidB);simp only[bt,del,Vc.C'];by_cases e1:i=a
        .have hib:i≠idB:=λe=>hab (e1▸e);simp[e1,hab]
        .by_cases e2:i=idB<;>simp[e1,e2,Ne.symm hab]
      simp only at h5|-;rw[<-hcomm,hsw,<-yT YA];exact h5
variable {P:Program} {n:Nat}
def T.exists{i:az}{x:St}{K:St->Prop}(hi:Inf x.U)(h:T P i x K):∃x',K x':=by
 unfold T at h;split at h
 .unfold TO at h;split at h
  .obtain⟨_,v,_,h⟩:=h;exact⟨_,h⟩
  .split at h
   .obtain⟨_,_,v,_,_,h⟩:=h;exact⟨_,h⟩
   .exact h.elim
  .split at h
   .obtain⟨_,_,h⟩:=h;exact⟨_,h⟩
   .exact h.elim
  .obtain⟨g,_,h⟩:=h;obtain⟨id,_,O'⟩:=hi 0;exact⟨_,h id O'⟩
  .exact h.elim
 .exact⟨_,h⟩
 .exact h.elim
def uS{F:Fr}(hn:F.n=n){o:Oper}{all:Array Oper}{x:St}{K:St->Prop}{a:Act}{w:World}(h:T P (bI P n all o) x K)(hs:ee F x a w)
 {next:Act->World->Prop}{Q':Exit->Act->World->Prop}(X7:∀x' a' w',ee F x' a' w'->K x'->next a' w'):
 if Region.wanted o (yielded all a.tmps)then Yh P n o.op≠.bad/\o.wp P a w next Q' else next (a.put o.dst undef) w:=by
 subst hn;obtain⟨I,hs⟩:=hs;unfold T at h;cases hw:aQ x.s (bI P F.n all o).g with
 |none=>simp only[hw]at h
 |some b=>
  have hwant:=o7 (P:=P) hs all o hw;rw[hwant];simp only[hw]at h;cases b
  .simp only[eQ,if_false]at h|-;exact X7 _ _ _ ⟨I,hs.pure (d:=o.dst) (by simp only[E'];exact⟨[],rfl,by simp[al]⟩)⟩ h
  .simp only[if_true]at h|-;refine⟨λe=>?_,?_⟩
   .have hopc:(bI P F.n all o).op=Yh P F.n o.op:=rfl;rw[hopc,e]at h;simp[TO,aX]at h
   have hdst:(bI P F.n all o).dst=o.dst.filter (·<F.n):=rfl;have hopc:(bI P F.n all o).op=Yh P F.n o.op:=rfl;rw[hdst,hopc]at h;unfold TO at h;split at h
   .obtain⟨h1,v,h2,h3⟩:=h;obtain⟨z,hz,hr⟩:=tk hs o h1 h2;unfold Oper.wp;rw[hz];exact X7 _ _ _ ⟨I,hs.pure hr⟩ h3
   .split at h
    .rename_i fx xs X9;obtain⟨f,caps,v,h1,h2,h3⟩:=h;obtain⟨f0,args,argTypes,g1,rfl,rfl⟩:=lX X9;refine mN hs g1 h1 (h2 _ (aa.refl _)) λr Z' hp a' w' Ye=>?_;obtain⟨rfl,rfl⟩:=hp;exact X7 _ a' w' Ye h3
    .exact h.elim
   .split at h
    .rename_i sz xa xv X9;obtain⟨Z',h1,h2⟩:=h;obtain⟨t,y,z,g1,g2,rfl,rfl,rfl⟩:=y9 X9;unfold gj at h1;split at h1
     .rename_i id r0 c e1;split at h1
      .rename_i ob e2;split at h1
       .rename_i r e3;split at h1
        .rename_i r' e4;simp only[aB]at h1;subst h1;obtain⟨w',hx,Ye⟩:=tD hs g1 g2 e1 e2 e3 e4;unfold Oper.wp;rw[hx];exact X7 _ _ _ ⟨I,Ye⟩ h2
        .cases h1
       .cases h1
      .cases h1
     .cases h1
    .exact h.elim
   .obtain⟨g,hg,h⟩:=h;cases X9:Yh P F.n o.op<;>rw[X9]at hg
    case box e sz xv=>
     simp only[eff]at hg;split at hg
     .rename_i hc;simp only[aB]at hg;subst hg;obtain⟨y,g1,g2,rfl,rfl⟩:=FV X9;obtain⟨id,O',z,w',Y',hz,Ye⟩:=zb hs g1 g2 hc.1 hc.2;unfold Oper.wp;rw[hz];exact X7 _ _ _ ⟨Y',Ye⟩ (h id O')
     .cases hg
    case alloc e sz z=>
     simp only[eff,aB]at hg;subst hg;obtain⟨ti,zv,g1,g2,rfl,rfl⟩:=yY X9;obtain⟨id,O',y,w',Y',hy,Ye⟩:=tP hs g1 g2;unfold Oper.wp;rw[hy];exact X7 _ _ _ ⟨Y',Ye⟩ (h id O')
    case eR e sz xs=>
     simp only[eff]at hg;split at hg
     .rename_i hc;simp only[aB]at hg;subst hg;obtain⟨t,len,parts,ti,z,h1,h2,h3,rfl,h5,h6,rfl⟩:=xG X9;have hx:∀y∈parts.toList.map (λp=>(cx F.n p.2).ev x.s),y.cells.length=ti.size/\y.stays=true:=by
       intro y hy;have:=dX.1 hc y (by rw[List.map_map];exact hy);simpa using this
      obtain⟨id,O',y,w',Y',hy,Ye⟩:=qW hs h1 h2 h3 h5 h6 hx;unfold Oper.wp;rw[hy];have hl:parts.size=len:=by have:=congrArg List.length h5;simpa using this
      refine X7 _ _ _ ⟨Y',Ye⟩ ?_;have:=h id O';simpa only[cL,List.map_map,Array.length_toList,hl,Function.comp_def]using this
     .cases hg
    case mk e sz bytes zv y=>
     simp only[eff]at hg;split at hg
     .rename_i m hm;split at hg
      .rename_i hc;simp only[aB]at hg;subst hg;obtain⟨t,l',c,ti,z,g1,g2,g3,rfl,rfl,rfl,g5,rfl⟩:=IM X9;obtain⟨id,O',x',w',Y',YD,Ye⟩:=CV hs g1 g5 g2 g3 hm hc.1 hc.2;unfold Oper.wp;rw[YD];exact X7 _ _ _ ⟨Y',Ye⟩ (h id O')
      .cases hg
     .cases hg
    case appz e sz bytes zv ya y=>
     simp only[eff]at hg;split at hg
     .rename_i kq m hy hm;split at hg
      .rename_i hc;simp only[aB]at hg;subst hg;obtain⟨t,tn,kn,x1,y1,args,argTypes,ti,z,g1,g2,g3,g4,g5,g6,rfl,rfl,rfl,rfl,rfl⟩:=Bh X9;obtain⟨id,O',x',w',Y',YD,Ye⟩:=wa hs g1 g2 g3 g4 g5 g6 hy hm hc.1 hc.2;unfold Oper.wp;rw[YD];exact X7 _ _ _ ⟨Y',Ye⟩ (h id O')
      .cases hg
     .cases hg
    case append e sz bytes xa xb=>
     simp only[eff]at hg;split at hg
     .rename_i base Yn src e1 e2;split at hg
      .rename_i hb;simp only[aB]at hg;subst hg;obtain⟨t,t',y,z,args,argTypes,ti,zv,g1,g2,g3,g3',g4,g5,rfl,rfl,rfl,rfl⟩:=wA X9;obtain⟨id,O',r,w',Y',hx,Ye⟩:=rI hs g1 g2 g3 g3' g4 g5 e1 e2 hb;unfold Oper.wp;rw[hx];exact X7 _ _ _ ⟨Y',Ye⟩ (h id O')
      .cases hg
     .cases hg
    all_goals simp[eff]at hg
   .exact h.elim
def Tn(P:Program)(n:Nat)(ops:Array Oper)(i:Nat)(x:St)(K:St->Prop):Prop:=match ops[i]? with
 |some o=>T P (bI P n ops o) x K
 |none=>K x
def sD(P:Program)(n:Nat)(ops:Array Oper)(Q:St->Prop):Nat->Array Bool->St->Prop
 |0,A',x=>Region.ready .any ops A'=[]/\Q x
 |f+1,A',x=>(Region.ready .any ops A'=[]->Q x)/\∀i∈Region.ready .any ops A',Tn P n ops i x (sD P n ops Q f (A'.setIfInBounds i true))
def qc{F:Fr}(hn:F.n=n){ops:Array Oper}{Q:St->Prop}{Q':Exit->Act->World->Prop}(hQ:∀x a w,ee F x a w->Q x->Q' .normal a w):
 ∀(f:Nat) (A':Array Bool) (x:St) (a:Act) (w:World),ee F x a w->sD P n ops Q f A' x->wpAnyIn F.dV 0 P .any ops Q' f A' a w
 |0,_,_,_,_,hs,h=>⟨h.1,hQ _ _ _ hs h.2⟩
 |f+1,A',x,a,w,hs,h=>by
  refine⟨λh0=>hQ _ _ _ hs (h.1 h0),λi hi=>?_⟩;have h1:=h.2 i hi;unfold Tn at h1;unfold wpOpIn;cases ho:ops[i]? with
  |none=>
   simp only[ho]at h1;exact qc hn hQ f _ x a w hs h1
  |some o=>
   simp only[ho]at h1;have h2:=uS (Q':=Q') hn h1 hs λx' a' w' Ye hk=>qc hn hQ f _ x' a' w' Ye hk;by_cases hw:Region.wanted o (yielded ops a.tmps)=true
   .rw[ar hw]at h2;simp only[hw,if_true];exact GS (j7 h2.1) h2.2
   .rw[av hw]at h2;simp only[hw];exact⟨λ_ _=>trivial,h2⟩
def iM(ops:Array Oper)(A':Array Bool):Prop:=∀m om,ops[m]?=some om->A'.getD m true=true->∀e∈om.after,Region.binds .any e=true->A'.getD e.on false=true
def iM.list{ops:Array Oper}{A':Array Bool}(h:iM ops A'){i:Nat}(hi:i∈Region.ready .any ops A'):iM ops (A'.setIfInBounds i true):=by
 intro m om hm hl e he hb;by_cases hmi:m=i
 .subst hmi;obtain⟨_,o,ho,YU⟩:=mem_ready.1 hi;rw[hm]at ho;cases ho;exact getD_set_true (YU e he hb)
 .rw[getD_set_ne true (Ne.symm hmi)]at hl;exact getD_set_true (h m om hm hl e he hb)
def DU{f:Edge->Nat}(l:List Edge):∀(s:Nat) (i:Nat),(l.foldl (λs e=>if Region.binds .any e then s ||| 2^e.on ||| f e else s) s).testBit i=true->
 s.testBit i=true\/∃e∈l,Region.binds .any e=true/\(i=e.on\/(f e).testBit i=true):=by
 induction l with
 |nil=>intro s i h;exact .inl h
 |cons e l ih=>
  intro s i h;simp only[j5]at h;rcases ih _ i h with h1|⟨e',h2,h3,h4⟩
  .by_cases hb:Region.binds .any e=true
   .rw[ar hb]at h1;simp only[Nat.testBit_or,kS,Nat.testBit_two_pow]at h1;rcases h1 with(h1|h1)|h1
    .exact .inl h1
    .exact .inr ⟨e,by simp,hb,.inl (by simpa using(of_decide_eq_true h1).symm)⟩
    .exact .inr ⟨e,by simp,hb,.inr h1⟩
   .rw[av hb]at h1;exact .inl h1
  .exact .inr ⟨e',by simp[h2],h3,h4⟩
def lf{ops:Array Oper}{A':Array Bool}(hc:iM ops A'):∀(j:Nat) (oj:Oper) (i:Nat),ops[j]?=some oj->((Region.before ops).getD j 0).testBit i=true->
 (∀e∈oj.after,Region.binds .any e=true->A'.getD e.on false=true)->A'.getD i false=true:=by
 have key:∀(l:List Oper) (acc:Array Nat) (k:Nat),acc.size=k->(∀j,l[j]?=ops[k+j]?)->
  (∀j oj i,j<k->ops[j]?=some oj->(acc.getD j 0).testBit i=true->(∀e∈oj.after,Region.binds .any e=true->A'.getD e.on false=true)->A'.getD i false=true)->
  ∀j oj i,ops[j]?=some oj->((l.foldl (λacc o=>acc.push (o.after.foldl (λs e=>if Region.binds .any e then s ||| 2^e.on ||| acc.getD e.on 0 else s) 0)) acc).getD j 0).testBit i=true->
   (∀e∈oj.after,Region.binds .any e=true->A'.getD e.on false=true)->A'.getD i false=true:=by
  intro l
  induction l with
  |nil=>
   intro acc k hk hl h j oj i hj hb hd;have H':j<k:=by
    rcases Nat.lt_or_ge j k with h1|h1
    .exact h1
    .have:=hl (j-k);rw[show k+(j-k)=j by omega,hj]at this;simp at this
   exact h j oj i H' hj hb hd
  |cons o l ih=>
   intro acc k hk hl h;have M':ops[k]?=some o:=by simpa using(hl 0).symm
   refine ih _ (k+1) (by simp[hk]) (λj=>by have:=hl (j+1);simpa[Nat.add_assoc,Ej 1 j]using this) ?_;intro j oj i hj hoj hb hd;by_cases hjk:j=k
   .subst hjk;rw[hoj]at M';cases M';rw[Zq7,<-hk,Array.getElem?_push_size]at hb;simp only[Option.getD_some]at hb;rw[<-Array.foldl_toList]at hb;rcases DU (f:=λe=>acc.getD e.on 0) o.after.toList 0 i hb with h1|⟨e,he,hbd,h1|h1⟩
    .simp at h1
    .rw[h1];exact hd e (by simpa using he) hbd
    .have hel:=hd e (by simpa using he) hbd;by_cases hek:e.on<acc.size
     .have hex:e.on<ops.size:=by
       have:=(nN.1 hoj).1;omega
      have hoe:ops[e.on]?=some ops[e.on]:=Array.getElem?_eq_getElem hex;refine h e.on _ i (by omega) hoe h1 (hc e.on _ hoe ?_);have hsz:e.on<A'.size:=by
       rcases Nat.lt_or_ge e.on A'.size with h2|h2
       .exact h2
       .simp[Array.getElem?_eq_none h2]at hel
      simp only[Zq7,Array.getElem?_eq_getElem hsz,Option.getD_some]at hel|-;exact hel
     .rw[Zq7,Array.getElem?_eq_none (by omega)]at h1;simp at h1
   .have hjlt:j<k:=by omega
    rw[Zq7,Array.getElem?_push_lt (by omega)]at hb;refine h j oj i hjlt hoj ?_ hd;rw[Zq7,Array.getElem?_eq_getElem (by omega)];exact hb
 intro j oj i hj hb hd;unfold Region.before at hb;rw[<-Array.foldl_toList]at hb;exact key ops.toList #[] 0 rfl (by simp) (λj oj i h=>by omega) j oj i hj hb hd
def zM{ops:Array Oper}{Q:St->Prop}{i:Nat}{oi:Oper}(hi:ops[i]?=some oi):∀(f:Nat) (A':Array Bool) (x:St),Inf x.U->iM ops A'->
 (∀j oj,ops[j]?=some oj->j≠i->A'.getD j true=false->((Region.before ops).getD j 0).testBit i=false->iD (bI P n ops oi) (bI P n ops oj)=true)->
 i∈Region.ready .any ops A'->T P (bI P n ops oi) x (sD P n ops Q f (A'.setIfInBounds i true))->sD P n ops Q (f+1) A' x:=by
 intro f
 induction f with
 |zero=>
  intro A' x hinf _ _ hr H;refine⟨λh=>(by rw[h]at hr;cases hr),λj hj=>?_⟩;by_cases hji:j=i
  .subst hji;unfold Tn;simp only[hi];exact H
  .have:=ready_mono hj hji;obtain⟨x',YD⟩:=H.exists hinf;rw[YD.1]at this;cases this
 |succ f ih=>
  intro A' x hinf YZ hfree hr H;refine⟨λh=>(by rw[h]at hr;cases hr),λj hj=>?_⟩;by_cases hji:j=i
  .subst hji;unfold Tn;simp only[hi];exact H
  .obtain⟨hjun,oj,hoj,YU⟩:=mem_ready.1 hj;have hnot:((Region.before ops).getD j 0).testBit i=false:=by
    cases hb:((Region.before ops).getD j 0).testBit i with
    |false=>rfl
    |true=>
     exfalso;have h1:=lf YZ j oj i hoj hb YU;have h0:=(mem_ready.1 hr).1;rcases Nat.lt_or_ge i A'.size with h'|h'
     .simp[h']at h0 h1;rw[h0]at h1;cases h1
     .simp[Array.getElem?_eq_none h']at h1
   have H2:T P (bI P n ops oi) x λx'=>T P (bI P n ops oj) x' (sD P n ops Q f ((A'.setIfInBounds i true).setIfInBounds j true)):=by
    refine H.mono λx' YD=>?_;have:=YD.2 j (ready_mono hj hji);unfold Tn at this;simpa only[hoj]using this
   have h2:=Eo (hfree j oj hoj hji hjun hnot) hinf H2;have hfree':∀k ok,ops[k]?=some ok->k≠i->(A'.setIfInBounds j true).getD k true=false->
    ((Region.before ops).getD k 0).testBit i=false->iD (bI P n ops oi) (bI P n ops ok)=true:=λk ok hk hki hun Yx=>by
    refine hfree k ok hk hki ?_ Yx;by_cases hjk:j=k
    .subst hjk;exact hjun
    .rw[getD_set_ne true hjk]at hun;exact hun
   unfold Tn;simp only[hoj];refine(h2.inf hinf).mono λx' YD=>ih (A'.setIfInBounds j true) x' YD.1 (YZ.list hj) hfree' (ready_mono hr (Ne.symm hji)) ?_;rw[Array.setIfInBounds_comm _ _ hji];exact YD.2
def mH{ops:Array Oper}{k:Nat}{ok:Oper}{A':Array Bool}(hk:ops[k]?=some ok)(h:Gx P n ops k A'=true)(j:Nat)(oj:Oper)(hj:ops[j]?=some oj)(YA:j≠k)
 (hun:A'.getD j true=false)(Yx:((Region.before ops).getD j 0).testBit k=false):iD (bI P n ops ok) (bI P n ops oj)=true:=by
 unfold Gx at h;simp only[hk]at h;have hjlt:j<ops.size:=(nN.1 hj).1;have:=dX.1 h j (List.mem_range.2 hjlt);simp only[hj,hun,Yx,Bool.or_false,Bool.false_or,kS,beq_iff_eq,YA,false_or]at this;exact this
def gK(P:Program)(Q:St->Prop):List az->St->Prop
 |[],x=>Q x
 |i::l,x=>T P i x (gK P Q l)
def xr{ops:Array Oper}{Q:St->Prop}:∀(l:List Oper) (k:Nat) (A':Array Bool) (x:St),Inf x.U->iM ops A'->(∀j,l[j]?=ops[k+j]?)->
 ym P n ops l.length k A'=true->gK P Q (l.map (bI P n ops)) x->sD P n ops Q l.length A' x
 |[],_,_,_,_,_,_,hB,h=>⟨by simpa[ym]using hB,h⟩
 |o::l,k,A',x,hinf,YZ,hl,hB,h=>by
  have h0:ops[k]?=some o:=by simpa using(hl 0).symm
  simp only[ZK,ym,Ba]at hB;obtain⟨⟨hr,hf⟩,hB'⟩:=hB;refine zM h0 l.length A' x hinf YZ (mH h0 hf) (by simpa using hr) ?_;refine(T.inf hinf h).mono λx' YD=>?_;exact xr l (k+1) _ x' YD.1 (YZ.list (by simpa using hr)) (λj=>by have:=hl (j+1);simpa[Nat.add_assoc,Ej 1 j]using this) hB' YD.2
def AV{F:Fr}(hn:F.n=n){ops:Array Oper}(M':qn P n ops=true){id:Nat}{x:St}{a:Act}{w:World}(hs:ee F x a w){Q:St->Prop}{Q':Exit->Act->World->Prop}
 (hQ:∀x a w,ee F x a w->Q x->Q' .normal a w)(h:gK P Q (ops.toList.map (bI P n ops)) x):(Code.region id ops true).wpIn F.dV 0 P Q' a w:=by
 simp only[qn,Ba]at M';have Ye:ee F x a { w with drawn:=w.drawn+1 }:=by
  obtain⟨I,hs⟩:=hs;have hk:cD (aA I x.U) (aA I x.U) w { w with drawn:=w.drawn+1 }:=λ_ _ h=>⟨h,rfl⟩
  refine⟨I,⟨⟨hs.sat.size,hs.sat.os,hs.sat.tape,hs.sat.output,hs.sat.same,hs.sat.fin,hs.sat.inj,λid o ho=>?_,hs.sat.fresh,hs.sat.glob⟩,hs.le,hs.size,hs.book.gJ hk,λi hi=>?_⟩⟩
  .exact(hs.sat.obj id o ho).mono (cC.refl I) hk (YQ _) (λ_ _ _ _=>rfl)
  .exact E'.mono (cC.refl I) hk (YQ _) _ _ (hs.slot i hi)
 refine wpIn_region_any M'.1 (qc hn hQ _ _ _ _ _ Ye ?_);have:=xr (P:=P) (n:=n) (Q:=Q) ops.toList 0 (Array.replicate ops.size false) x hs.inf (λm om hm hl=>by
  have H':m<ops.size:=(nN.1 hm).1;rw[Zq7,Array.getElem?_replicate,ar H']at hl;simp at hl) (by simp) (by simpa using M'.2.2) h
 simpa using this
def sN(P:Program)(n:Nat)(ops:Array Oper)(m:Nat)(Q:St->Prop):Nat->Array Bool->St->Prop
 |0,A',x=>(Region.ready .any ops A'=[m]/\Region.ready .any ops (A'.setIfInBounds m true)=[])/\Q x
 |f+1,A',x=>Region.ready .any ops A'≠[]/\∀i∈Region.ready .any ops A',i≠m/\Tn P n ops i x (sN P n ops m Q f (A'.setIfInBounds i true))
def qi{F:Fr}(hn:F.n=n){ops:Array Oper}{m:Nat}{Q:St->Prop}{Q':Exit->Act->World->Prop}(hQ:∀x a w,ee F x a w->Q x->wpOpIn F.dV 0 P ops Q' m (Q' .normal) a w):
 ∀(f:Nat) (A':Array Bool) (x:St) (a:Act) (w:World),ee F x a w->sN P n ops m Q f A' x->wpAnyIn F.dV 0 P .any ops Q' (f+1) A' a w
 |0,A',x,a,w,hs,h=>by
  obtain⟨⟨h1,h2⟩,h3⟩:=h;refine⟨λh0=>(by rw[h1]at h0;cases h0),λi hi=>?_⟩;rw[h1]at hi;have him:i=m:=by simpa using hi
  subst him;exact wpOpIn_mono (λa w h=>⟨h2,h⟩) (hQ x a w hs h3)
 |f+1,A',x,a,w,hs,h=>by
  refine⟨λh0=>absurd h0 h.1,λi hi=>?_⟩;have h1:=(h.2 i hi).2;unfold Tn at h1;unfold wpOpIn;cases ho:ops[i]? with
  |none=>
   simp only[ho]at h1;exact qi hn hQ f _ x a w hs h1
  |some o=>
   simp only[ho]at h1;have h2:=uS (Q':=Q') hn h1 hs λx' a' w' Ye hk=>qi hn hQ f _ x' a' w' Ye hk;by_cases hw:Region.wanted o (yielded ops a.tmps)=true
   .rw[ar hw]at h2;simp only[hw,if_true];exact GS (j7 h2.1) h2.2
   .rw[av hw]at h2;simp only[hw];exact⟨λ_ _=>trivial,h2⟩
def AY{ops:Array Oper}{m:Nat}{Q:St->Prop}{i:Nat}{oi:Oper}(hi:ops[i]?=some oi)(him:i≠m)(hm:((Region.before ops).getD m 0).testBit i=true):
 ∀(f:Nat) (A':Array Bool) (x:St),Inf x.U->iM ops A'->
 (∀j oj,ops[j]?=some oj->j≠i->A'.getD j true=false->((Region.before ops).getD j 0).testBit i=false->iD (bI P n ops oi) (bI P n ops oj)=true)->
 i∈Region.ready .any ops A'->T P (bI P n ops oi) x (sN P n ops m Q f (A'.setIfInBounds i true))->sN P n ops m Q (f+1) A' x:=by
 have hnotj:∀(A':Array Bool),iM ops A'->i∈Region.ready .any ops A'->∀j,j∈Region.ready .any ops A'->((Region.before ops).getD j 0).testBit i=false:=λA' YZ hr j hj=>by
  obtain⟨hjun,oj,hoj,YU⟩:=mem_ready.1 hj;cases hb:((Region.before ops).getD j 0).testBit i with
  |false=>rfl
  |true=>
   exfalso;have h1:=lf YZ j oj i hoj hb YU;have h0:=(mem_ready.1 hr).1;rcases Nat.lt_or_ge i A'.size with h'|h'
   .simp[h']at h0 h1;rw[h0]at h1;cases h1
   .simp[Array.getElem?_eq_none h']at h1
 have hjm:∀(A':Array Bool),iM ops A'->i∈Region.ready .any ops A'->∀j,j∈Region.ready .any ops A'->j≠m:=λA' YZ hr j hj e=>by
  have:=hnotj A' YZ hr j hj;rw[e,hm]at this;cases this
 intro f
 induction f with
 |zero=>
  intro A' x hinf YZ _ hr H;refine⟨λh=>(by rw[h]at hr;cases hr),λj hj=>⟨hjm A' YZ hr j hj,?_⟩⟩;by_cases hji:j=i
  .subst hji;unfold Tn;simp only[hi];exact H
  .have:=ready_mono hj hji;obtain⟨x',YD⟩:=H.exists hinf;rw[YD.1.1]at this;exact absurd (by simpa using this) (hjm A' YZ hr j hj)
 |succ f ih=>
  intro A' x hinf YZ hfree hr H;refine⟨λh=>(by rw[h]at hr;cases hr),λj hj=>⟨hjm A' YZ hr j hj,?_⟩⟩;by_cases hji:j=i
  .subst hji;unfold Tn;simp only[hi];exact H
  .obtain⟨hjun,oj,hoj,YU⟩:=mem_ready.1 hj;have hnot:=hnotj A' YZ hr j hj;have H2:T P (bI P n ops oi) x λx'=>T P (bI P n ops oj) x' (sN P n ops m Q f ((A'.setIfInBounds i true).setIfInBounds j true)):=by
    refine H.mono λx' YD=>?_;have:=(YD.2 j (ready_mono hj hji)).2;unfold Tn at this;simpa only[hoj]using this
   have h2:=Eo (hfree j oj hoj hji hjun hnot) hinf H2;have hfree':∀k ok,ops[k]?=some ok->k≠i->(A'.setIfInBounds j true).getD k true=false->
    ((Region.before ops).getD k 0).testBit i=false->iD (bI P n ops oi) (bI P n ops ok)=true:=λk ok hk hki hun Yx=>by
    refine hfree k ok hk hki ?_ Yx;by_cases hjk:j=k
    .subst hjk;exact hjun
    .rw[getD_set_ne true hjk]at hun;exact hun
   unfold Tn;simp only[hoj];refine(h2.inf hinf).mono λx' YD=>ih (A'.setIfInBounds j true) x' YD.1 (YZ.list hj) hfree' (ready_mono hr (Ne.symm hji)) ?_;rw[Array.setIfInBounds_comm _ _ hji];exact YD.2
def vV{ops:Array Oper}{m:Nat}{Q:St->Prop}:∀(l:List Oper) (k:Nat) (A':Array Bool) (x:St),Inf x.U->iM ops A'->(∀j,j<l.length->l[j]?=ops[k+j]?)->
 Je P n ops m l.length k A'=true->gK P Q (l.map (bI P n ops)) x->sN P n ops m Q l.length A' x
 |[],_,_,_,_,_,_,hB,h=>⟨by simpa[Je]using hB,h⟩
 |o::l,k,A',x,hinf,YZ,hl,hB,h=>by
  have h0:ops[k]?=some o:=by simpa using(hl 0 (by simp)).symm
  simp only[ZK,Je,Ba]at hB;obtain⟨⟨hr,hkm,hbit⟩,hf,hB'⟩:=hB;refine AY h0 (by simpa using hkm) hbit l.length A' x hinf YZ (mH h0 hf) (by simpa using hr) ?_;refine(T.inf hinf h).mono λx' YD=>?_;exact vV l (k+1) _ x' YD.1 (YZ.list (by simpa using hr)) (λj hj=>by have:=hl (j+1) (by simpa using hj);simpa[Nat.add_assoc,Ej 1 j]using this) hB' YD.2
def xX{F:Fr}(hn:F.n=n){ops:Array Oper}(M':zK P n ops=true){id:Nat}{x:St}{a:Act}{w:World}(hs:ee F x a w){Q:St->Prop}{Q':Exit->Act->World->Prop}
 (hQ:∀x a w,ee F x a w->Q x->wpListIn F.dV 0 P ops Q' (ops.toList.drop (ops.size-1)) a w)(h:gK P Q ((ops.toList.take (ops.size-1)).map (bI P n ops)) x):(Code.region id ops true).wpIn F.dV 0 P Q' a w:=by
 simp only[zK,Ba,Zq9]at M';obtain⟨hmx,ZP,_,_,hlex⟩:=M';have Ye:ee F x a { w with drawn:=w.drawn+1 }:=by
  obtain⟨I,hs⟩:=hs;have hk:cD (aA I x.U) (aA I x.U) w { w with drawn:=w.drawn+1 }:=λ_ _ h=>⟨h,rfl⟩
  refine⟨I,⟨⟨hs.sat.size,hs.sat.os,hs.sat.tape,hs.sat.output,hs.sat.same,hs.sat.fin,hs.sat.inj,λid o ho=>?_,hs.sat.fresh,hs.sat.glob⟩,hs.le,hs.size,hs.book.gJ hk,λi hi=>?_⟩⟩
  .exact(hs.sat.obj id o ho).mono (cC.refl I) hk (YQ _) (λ_ _ _ _=>rfl)
  .exact E'.mono (cC.refl I) hk (YQ _) _ _ (hs.slot i hi)
 refine wpIn_region_any hmx ?_;have hlen:(ops.toList.take (ops.size-1)).length=ops.size-1:=by simp
 have hdrop:ops.toList.drop (ops.size-1)=[ops[ops.size-1]'(by omega)]:=by
  rw[ia (by simpa using(by omega:ops.size-1<ops.size))];simp[Ah,show ops.size<=ops.size-1+1 by omega]
 have hget:ops[ops.size-1]?=some (ops[ops.size-1]'(by omega)):=Array.getElem?_eq_getElem (by omega);have hL:=vV (P:=P) (n:=n) (Q:=Q) (m:=ops.size-1) (ops.toList.take (ops.size-1)) 0 (Array.replicate ops.size false) x hs.inf (λm om hm hl=>by
  have H':m<ops.size:=(nN.1 hm).1;rw[Zq7,Array.getElem?_replicate,ar H']at hl;simp at hl) (λj hj=>by rw[hlen]at hj;simp[hj]) (by rw[hlen];exact hlex) h
 rw[hlen]at hL;have:=qi (Q':=Q') hn (λx a w hs hq=>by
  have:=hQ x a w hs hq;rw[hdrop]at this;unfold wpOpIn;simpa only[hget,wpListIn]using this) _ _ _ _ _ Ye hL
 rwa [show ops.size-1+1=ops.size by omega]at this
variable {P:Program} {n:Nat} {st:St} {Q:St->Prop} {k:List It}
def ab.Fu{l:List az}(h:gK P (λx=>ab P n k x Q) l st):ab P n (.code (.reg true l)::k) st Q:=by
 intro F hn kt hk a w hs;obtain⟨z,kt',rfl,hy,ZL⟩:=dn hk;obtain⟨c0,rfl,ZA⟩:=fV hy;have hc0:∃id ops,c0=.region id ops true/\qn P n ops=true/\ops.toList.map (bI P n ops)=l:=by
  cases c0<;>simp only[cY,reduceCtorEq]at ZA;rename_i id ops draw;cases draw
  .simp at ZA
  .simp only[Bool.true_and]at ZA;split at ZA
   .cases ZA
   split at ZA
   .cases ZA
   .rename_i hd;simp only[bf.reg.injEq,true_and]at ZA;exact⟨id,ops,rfl,by simpa using hd,ZA⟩
 obtain⟨id,ops,rfl,M',rfl⟩:=hc0;exact AV hn M' hs (λx a w hs h=>h F hn kt' ZL a w hs) h
def ab.nq{l e:List az}(h:gK P (λx=>ab P n (.ops e::k) x Q) l st):ab P n (.code (.nq l e)::k) st Q:=by
 intro F hn kt hk a w hs;obtain⟨z,kt',rfl,hy,ZL⟩:=dn hk;obtain⟨c0,rfl,ZA⟩:=fV hy;have hc0:∃id ops,c0=.region id ops true/\zK P n ops=true/\(ops.toList.take (ops.size-1)).map (bI P n ops)=l/\(ops.toList.drop (ops.size-1)).map (bI P n ops)=e:=by
  cases c0<;>simp only[cY,reduceCtorEq]at ZA;rename_i id ops draw;cases draw
  .simp at ZA
  .simp only[Bool.true_and]at ZA;split at ZA
   .rename_i hd;simp only[bf.nq.injEq]at ZA;exact⟨id,ops,rfl,hd,ZA.1,ZA.2⟩
   .split at ZA<;>cases ZA
 obtain⟨id,ops,rfl,M',rfl,rfl⟩:=hc0;exact xX hn M' hs (λx a w hs h=>h F hn (.ops ops (ops.toList.drop (ops.size-1))::kt') (by simp[KI.it,ZL]) a w hs) h
def St.lit(st:St):VX->V->St
 |.t d,v=>⟨aO st.s (some d) v,st.U⟩
 |.c _,_=>st
inductive Td where
 |r (todo:List It)
 |d (l:List az) (todo:List It)
def Kof(P:Program)(n:Nat)(todo:List It)(st:St)(Q:St->Prop):Prop:=match todo with
 |.stop μ::_=>μ st
 |todo=>ab P n todo st Q
def Kof.runs{todo:List It}(h:Kof P n todo st Q):ab P n todo st Q:=by
 cases todo with
 |nil=>exact h
 |cons x k=>cases x<;>first|exact ab.stop h|exact h
def gK.mono{K K':St->Prop}(hk:∀x,K x->K' x):∀{l:List az} {x:St},gK P K l x->gK P K' l x
 |[],_,h=>hk _ h
 |_::_,_,h=>T.mono (λ_ h=>gK.mono hk h) h
def Go(P:Program)(n:Nat)(t:Td)(st:St)(Q:St->Prop):Prop:=
 match t with
 |.r todo=>Kof P n todo st Q
 |.d l todo=>gK P (λx=>Kof P n todo x Q) l st
def Go.runs{todo:List It}(h:Go P n (.r todo) st Q):ab P n todo st Q:=Kof.runs h
def Go.chain{l:List az}(h:Go P n (.d l k) st Q):gK P (λx=>ab P n k x Q) l st:=gK.mono (λ_ h=>Kof.runs h) h
def di{α:Type}(o:Option α)(k:α->Prop):Prop:=match o with
 |some v=>k v
 |none=>False
def tK{α:Type}(v:α)(k:α->Prop):di (some v) k=k v:=rfl
def gN{α:Type}{o:Option α}{k:α->Prop}:di o k↔∃v,o=some v/\k v:=by cases o<;>simp[di]
def dE(v:V)(k:Bool->Prop)(z:Prop):Prop:=match v with
 |.bool c=>k c
 |.P' []=>z
 |.int _ _=>z
 |_=>False
def mO{v:V}{k:Bool->Prop}{z:Prop}(h:dE v k z):(∃c,v=.bool c/\k c)\/(v=.P' []/\z)\/(∃q m,v=.int q m/\z):=by
 unfold dE at h;split at h
 .exact .inl ⟨_,rfl,h⟩
 .exact .inr (.inl ⟨rfl,h⟩)
 .exact .inr (.inr ⟨_,_,rfl,h⟩)
 .exact h.elim
def both(c b:Bool)(x y:Prop):Prop:=(c=b->x)/\(c=!b->y)
def la(s:Nat->V)(U:af):Yq->Option af
 |.store sz xa xv=>gj U sz (xa.ev s) (xv.ev s)
 |_=>none
structure ZQ(P:Program) where
 get:FuncId->List V->af->Option V
 ok:∀f args U v,get f args U=some v->au P f args U λr Z'=>r=v/\Z'=U
 up:∀f args U Z' v,aa U Z'->get f args U=some v->get f args Z'=some v:=by intros;assumption
def ZQ.nothing:ZQ P where
 get _ _ _:=none
 ok _ _ _ _ h:=by cases h
def yF(O:ZQ P)(s:Nat->V)(U:af):Yq->Option V
 |.call fx xs=>match fx.ev s with
   |.fn f caps=>O.get f (xs.map (·.ev s)++caps) U
   |_=>none
 |_=>none
def zT(o:Option V)(k:V->Prop)(z:Prop):Prop:=match o with
 |some v=>k v
 |none=>z
def rL{o:Option V}{k:V->Prop}{z:Prop}(h:zT o k z):(∃v,o=some v/\k v)\/z:=by
 cases o with
 |none=>exact .inr h
 |some v=>exact .inl ⟨v,rfl,h⟩
def As(q:Nat)(a b c d g:Prop):Prop:=match q with
 |0=>a
 |1=>b
 |2=>c
 |3=>d
 |_=>g
def pM{q:Nat}{a b c d g:Prop}(h:As q a b c d g):(q=0/\a)\/(q=1/\b)\/(q=2/\c)\/(q=3/\d)\/g:=by
 unfold As at h;split at h<;>simp_all
def yg(O:ZQ P)(q:Nat)(d:Option Nat)(op:Yq)(st:St)(k:St->Prop)(z:Prop):Prop:=
 As q (ez st.s op/\di (aE st.U st.s op) λv=>k ⟨aO st.s d v,st.U⟩)
  (zT (yF O st.s st.U op) (λv=>k ⟨aO st.s d v,st.U⟩) z)
  (di (la st.s st.U op) λZ'=>k ⟨aO st.s d (.P' []),Z'⟩)
  (di (eff st.s st.U op) λg=>∀id,st.U id=none->k ⟨aO st.s d (g id).1,(g id).2⟩) z
def step(P:Program)(O:ZQ P)(n:Nat):Nat->Td->St->(St->Prop)->Prop
 |0,t,st,Q=>Go P n t st Q
 |f+1,t,st,Q=>match t with
  |.d l k=>match l with
   |[]=>step P O n f (.r k) st Q
   |i::l=>match i.g with
    |none=>yg O (aX i.op) i.dst i.op st (λst=>step P O n f (.d l k) st Q) (Go P n (.d (i::l) k) st Q)
    |some (x,b)=>dE (x.ev st.s) (λc=>both c b
       (yg O (aX i.op) i.dst i.op (st.lit x (.bool b)) (λst=>step P O n f (.d l k) st Q) (Go P n (.d (i::l) k) (st.lit x (.bool b)) Q))
       (step P O n f (.d l k) ⟨aO (st.lit x (.bool !b)).s i.dst (.P' []),(st.lit x (.bool !b)).U⟩ Q))
       (step P O n f (.d l k) ⟨aO st.s i.dst (.P' []),st.U⟩ Q)
  |.r todo=>match todo with
   |[]=>Q st
   |.stop μ::_=>μ st
   |.inBlock _::k=>step P O n f (.r k) st Q
   |.ops []::k=>step P O n f (.r k) st Q
   |.ops (i::l)::k=>match i.g with
    |none=>yg O (aX i.op) i.dst i.op st (λst=>step P O n f (.r (.ops l::k)) st Q) (ab P n (.ops (i::l)::k) st Q)
    |some (x,b)=>dE (x.ev st.s) (λc=>both c b
       (yg O (aX i.op) i.dst i.op (st.lit x (.bool b)) (λst=>step P O n f (.r (.ops l::k)) st Q) (ab P n (.ops (i::l)::k) (st.lit x (.bool b)) Q))
       (step P O n f (.r (.ops l::k)) ⟨aO (st.lit x (.bool !b)).s i.dst (.P' []),(st.lit x (.bool !b)).U⟩ Q))
       (step P O n f (.r (.ops l::k)) ⟨aO st.s i.dst (.P' []),st.U⟩ Q)
   |.code c::k=>match c with
    |.skip=>step P O n f (.r k) st Q
    |.seq a b=>step P O n f (.r (.code a::.code b::k)) st Q
    |.block id a=>step P O n f (.r (.code a::.inBlock id::k)) st Q
    |.exit id=>di (fZ id k) λk'=>step P O n f (.r k') st Q
    |.ret=>Q st
    |.cond c a b=>dE (c.ev st.s) (λt=>both t true (step P O n f (.r (.code a::k)) st Q) (step P O n f (.r (.code b::k)) st Q)) False
    |.reg draw l=>match draw with
     |false=>step P O n f (.r (.ops l::k)) st Q
     |true=>step P O n f (.d l k) st Q
    |.loop a=>ab P n (.code (.loop a)::k) st Q
    |.cA g ps a b=>ab P n (.code (.cA g ps a b)::k) st Q
    |.regA l Yi=>ab P n (.code (.regA l Yi)::k) st Q
    |.nq l e=>step P O n f (.d l (.ops e::k)) st Q
    |.bad=>False
def zX{st:St}{x:VX}{v:V}(h:x.ev st.s=v):st.lit x v=st:=by
 cases x with
 |t d=>
  simp only[VX.ev]at h;have:aO st.s (some d) v=st.s:=by
   funext i;simp only[aO];split
   .rename_i e;rw[e,h]
   .rfl
  simp[St.lit,this]
 |c _=>rfl
def ab.gj{i:az}{l:List az}{sz:Nat}{xa xv:VX}(hw:aQ st.s i.g=some true)(ho:i.op=.store sz xa xv){Z':af}
 (h1:Vc.gj st.U sz (xa.ev st.s) (xv.ev st.s)=some Z')(h:ab P n (.ops l::k) ⟨aO st.s i.dst (.P' []),Z'⟩ Q):ab P n (.ops (i::l)::k) st Q:=by
 unfold Vc.gj at h1;split at h1
 .rename_i id r0 c e1;split at h1
  .rename_i ob e2;split at h1
   .rename_i r e3;split at h1
    .rename_i r' e4;simp only[aB]at h1;subst h1;exact ab.store hw ho e1 e2 e3 e4 h
    .cases h1
   .cases h1
  .cases h1
 .cases h1
def ab.eff{i:az}{l:List az}(hw:aQ st.s i.g=some true){g:Nat->V×af}(hg:Vc.eff st.s st.U i.op=some g)
 (h:∀id,st.U id=none->ab P n (.ops l::k) ⟨aO st.s i.dst (g id).1,(g id).2⟩ Q):ab P n (.ops (i::l)::k) st Q:=by
 cases X9:i.op<;>rw[X9]at hg<;>simp only[Vc.eff,reduceCtorEq]at hg
 case box e sz xv=>
  split at hg
  .rename_i hc;simp only[aB]at hg;subst hg;exact ab.box hw X9 hc.1 hc.2 h
  .cases hg
 case alloc e sz z=>
  simp only[aB]at hg;subst hg;exact ab.alloc hw X9 h
 case eR e sz xs=>
  split at hg
  .rename_i hc;simp only[aB]at hg;subst hg;refine ab.eR hw X9 (λx hx=>?_) h;have:=dX.1 hc x hx;simpa using this
  .cases hg
 case mk e sz bytes zv x=>
  split at hg
  .rename_i m hm;split at hg
   .rename_i hc;simp only[aB]at hg;subst hg;exact ab.mkS hw X9 hm hc.1 hc.2 h
   .cases hg
  .cases hg
 case appz e sz bytes zv y x=>
  split at hg
  .rename_i kq m hy hm;split at hg
   .rename_i hc;simp only[aB]at hg;subst hg;exact ab.T9 hw X9 hy hm hc.1 hc.2 h
   .cases hg
  .cases hg
 case append e sz bytes xa xb=>
  split at hg
  .rename_i base Yn src e1 e2;split at hg
   .rename_i hb;simp only[aB]at hg;subst hg;exact ab.append hw X9 e1 e2 hb h
   .cases hg
  .cases hg
def lI{i:az}{K:St->Prop}(hw:aQ st.s i.g=some true)(h:TO P i.dst i.op st K):T P i st K:=by unfold T;simp only[hw];exact h
def rm{i:az}{K:St->Prop}(hw:aQ st.s i.g=some false)(h:K ⟨aO st.s i.dst (.P' []),st.U⟩):T P i st K:=by unfold T;simp only[hw];exact h
def vL{O:ZQ P}{s:Nat->V}{U:af}{op:Yq}{v:V}(h:yF O s U op=some v):
 ∃fx xs f caps,op=.call fx xs/\fx.ev s=.fn f caps/\∀Z1,aa U Z1->au P f (xs.map (·.ev s)++caps) Z1 λr Z'=>r=v/\Z'=Z1:=by
 unfold yF at h;split at h
 .rename_i fx xs;split at h
  .rename_i f caps hf;exact⟨fx,xs,f,caps,rfl,hf,λZ1 h1=>O.ok _ _ _ _ (O.up _ _ _ _ _ h1 h)⟩
  .cases h
 .cases h
def ab.vX{O:ZQ P}{i:az}{l:List az}{st:St}(hw:aQ st.s i.g=some true){K:St->Prop}(hK:∀st,K st->ab P n (.ops l::k) st Q)
 (h:yg O (aX i.op) i.dst i.op st K (ab P n (.ops (i::l)::k) st Q)):ab P n (.ops (i::l)::k) st Q:=by
 unfold yg at h;rcases pM h with⟨_,h1,h⟩|⟨_,h⟩|⟨_,h⟩|⟨_,h⟩|h
 .obtain⟨v,hv,h⟩:=gN.1 h;exact ab.pure hw h1 hv (hK _ h)
 .rcases rL h with⟨v,hv,h⟩|h
  .obtain⟨fx,xs,f,caps,ho,hf,hc⟩:=vL hv;refine ab.call hw ho hf (hc _ (aa.refl _)) ?_;rintro r Z' ⟨rfl,rfl⟩;exact hK _ h
  .exact h
 .obtain⟨Z',hs,h⟩:=gN.1 h;cases X9:i.op<;>rw[X9]at hs<;>simp only[la,reduceCtorEq]at hs;exact ab.gj hw X9 hs (hK _ h)
 .obtain⟨g,hgg,h⟩:=gN.1 h;exact ab.eff hw hgg λid O'=>hK _ (h id O')
 .exact h
def Go.vX{O:ZQ P}{i:az}{l:List az}{st:St}(hw:aQ st.s i.g=some true){K:St->Prop}(hK:∀st,K st->Go P n (.d l k) st Q)
 (h:yg O (aX i.op) i.dst i.op st K (Go P n (.d (i::l) k) st Q)):Go P n (.d (i::l) k) st Q:=by
 unfold yg at h;rcases pM h with⟨hk,h1,h⟩|⟨hk,h⟩|⟨_,h⟩|⟨hk,h⟩|h
 .obtain⟨v,hv,h⟩:=gN.1 h;refine lI hw ?_;unfold TO;simp only[hk];exact⟨h1,v,hv,hK _ h⟩
 .rcases rL h with⟨v,hv,h⟩|h
  .obtain⟨fx,xs,f,caps,ho,hf,hc⟩:=vL hv;refine lI hw ?_;rw[ho];exact⟨f,caps,v,hf,hc,hK _ h⟩
  .exact h
 .obtain⟨Z',hs,h⟩:=gN.1 h;refine lI hw ?_;cases X9:i.op<;>rw[X9]at hs<;>simp only[la,reduceCtorEq]at hs;exact⟨Z',hs,hK _ h⟩
 .obtain⟨g,hgg,h⟩:=gN.1 h;refine lI hw ?_;unfold TO;simp only[hk];exact⟨g,hgg,λid O'=>hK _ (h id O')⟩
 .exact h
def Go.bg(O:ZQ P):∀(f:Nat) (t:Td) (st:St),step P O n f t st Q->Go P n t st Q
 |0,_,_,h=>h
 |f+1,.d [] k,st,h=>Go.bg O f (.r k) st h
 |f+1,.d (i::l) k,st,h=>by
  simp only[step]at h;split at h
  .rename_i hg;have hw:aQ st.s i.g=some true:=by simp[hg,aQ]
   exact Go.vX hw (λst h=>Go.bg O f (.d l k) st h) h
  .rename_i x b hg;rcases mO h with⟨c,hc,h⟩|⟨hc,h⟩|⟨q,m,hc,h⟩
   .by_cases hcb:c=b
    .subst hcb;have h1:=h.1 rfl;have hw:aQ st.s i.g=some true:=by simp[hg,aQ,hc]
     rw[zX hc]at h1;exact Go.vX hw (λst h=>Go.bg O f (.d l k) st h) h1
    .have hcb':c=!b:=by revert hcb;cases c<;>cases b<;>simp
     have h2:=h.2 hcb';rw[zX (by rw[hc,hcb'])]at h2;exact rm (by simp only[hg,aQ,hc];rw[hcb'];cases b<;>rfl) (Go.bg O f (.d l k) _ h2)
   .exact rm (by simp[hg,aQ,hc]) (Go.bg O f (.d l k) _ h)
   .exact rm (by simp[hg,aQ,hc]) (Go.bg O f (.d l k) _ h)
 |f+1,.r [],_,h=>ab.nil h
 |f+1,.r (.stop _::_),_,h=>h
 |f+1,.r (.inBlock _::k),st,h=>ab.inBlock (Go.bg O f (.r k) st h).runs
 |f+1,.r (.ops []::k),st,h=>ab.A2 (Go.bg O f (.r k) st h).runs
 |f+1,.r (.ops (i::l)::k),st,h=>by
  simp only[step]at h;split at h
  .rename_i hg;have hw:aQ st.s i.g=some true:=by simp[hg,aQ]
   exact ab.vX hw (λst h=>(Go.bg O f (.r (.ops l::k)) st h).runs) h
  .rename_i x b hg;rcases mO h with⟨c,hc,h⟩|⟨hc,h⟩|⟨q,m,hc,h⟩
   .by_cases hcb:c=b
    .subst hcb;have h1:=h.1 rfl;have hw:aQ st.s i.g=some true:=by simp[hg,aQ,hc]
     rw[zX hc]at h1;exact ab.vX hw (λst h=>(Go.bg O f (.r (.ops l::k)) st h).runs) h1
    .have hcb':c=!b:=by revert hcb;cases c<;>cases b<;>simp
     have h2:=h.2 hcb';rw[zX (by rw[hc,hcb'])]at h2;exact ab.o5 (by simp only[hg,aQ,hc];rw[hcb'];cases b<;>rfl) (Go.bg O f (.r (.ops l::k)) _ h2).runs
   .exact ab.o5 (by simp[hg,aQ,hc]) (Go.bg O f (.r (.ops l::k)) _ h).runs
   .exact ab.o5 (by simp[hg,aQ,hc]) (Go.bg O f (.r (.ops l::k)) _ h).runs
 |f+1,.r (.code c::k),st,h=>by
  cases c with
  |skip=>exact ab.skip (Go.bg O f (.r _) _ h).runs
  |seq a b=>exact ab.seq (Go.bg O f (.r _) _ h).runs
  |block id a=>exact ab.block (Go.bg O f (.r _) _ h).runs
  |exit id=>
   simp only[step]at h;obtain⟨k',ZL,h⟩:=gN.1 h;exact ab.exit ZL (Go.bg O f (.r _) _ h).runs
  |ret=>exact ab.ret h
  |cond c a b=>
   simp only[step]at h;rcases mO h with⟨t,ht,h⟩|⟨_,h⟩|⟨_,_,_,h⟩
   .exact ab.cond ht (λe=>(Go.bg O f (.r _) _ (h.1 e)).runs) (λe=>(Go.bg O f (.r _) _ (h.2 (by rw[e];rfl))).runs)
   .exact h.elim
   .exact h.elim
  |reg draw l=>
   cases draw
   .exact ab.region (Go.bg O f (.r _) _ h).runs
   .exact ab.Fu (Go.bg O f (.d l k) _ h).chain
  |loop a=>exact h
  |cA g ps a b=>exact h
  |regA l Yi=>exact h
  |nq l e=>exact ab.nq (Go.bg O f (.d l (.ops e::k)) _ h).chain
  |bad=>exact h.elim
def ab.bg(O:ZQ P)(f:Nat){todo:List It}{st:St}(h:step P O n f (.r todo) st Q):ab P n todo st Q:=(Go.bg O f (.r todo) st h).runs
section rules
variable (P:Program) (O:ZQ P) (n:Nat) (f:Nat)
def exR(o:Option (List It))(st:St)(Q:St->Prop):Prop:=di o λk'=>step P O n f (.r k') st Q
def cR(v:V)(a b:bf)(k:List It)(st:St)(Q:St->Prop):Prop:=dE v (λt=>both t true (step P O n f (.r (.code a::k)) st Q) (step P O n f (.r (.code b::k)) st Q)) False
def OF(l:List az)(k:List It)(d:Option Nat)(st:St)(Q:St->Prop)(o:Option V):Prop:=di o λv=>step P O n f (.r (.ops l::k)) ⟨aO st.s d v,st.U⟩ Q
def I6(l:List az)(k:List It)(d:Option Nat)(st:St)(Q:St->Prop)(o:Option af):Prop:=di o λZ'=>step P O n f (.r (.ops l::k)) ⟨aO st.s d (.P' []),Z'⟩ Q
def M3(l:List az)(k:List It)(d:Option Nat)(st:St)(Q:St->Prop)(o:Option (Nat->V×af)):Prop:=
 di o λg=>∀id,st.U id=none->step P O n f (.r (.ops l::k)) ⟨aO st.s d (g id).1,(g id).2⟩ Q
def Iv(l:List az)(k:List It)(d:Option Nat)(op:Yq)(g:Option (VX×Bool))(st:St)(Q:St->Prop)(o:Option V):Prop:=
 zT o (λv=>step P O n f (.r (.ops l::k)) ⟨aO st.s d v,st.U⟩ Q) (ab P n (.ops (⟨d,op,g⟩::l)::k) st Q)
def vS(q:Nat)(d:Option Nat)(op:Yq)(g:Option (VX×Bool))(l:List az)(k:List It)(st:St)(Q:St->Prop):Prop:=
 yg O q d op st (λst=>step P O n f (.r (.ops l::k)) st Q) (ab P n (.ops (⟨d,op,g⟩::l)::k) st Q)
def gR(v:V)(d:Option Nat)(op:Yq)(x:VX)(b:Bool)(l:List az)(k:List It)(st:St)(Q:St->Prop):Prop:=
 dE v (λc=>both c b (vS P O n f (aX op) d op (some (x,b)) l k (st.lit x (.bool b)) Q)
  (step P O n f (.r (.ops l::k)) ⟨aO (st.lit x (.bool !b)).s d (.P' []),(st.lit x (.bool !b)).U⟩ Q)) (step P O n f (.r (.ops l::k)) ⟨aO st.s d (.P' []),st.U⟩ Q)
def Ol(l:List az)(k:List It)(d:Option Nat)(st:St)(Q:St->Prop)(o:Option V):Prop:=di o λv=>step P O n f (.d l k) ⟨aO st.s d v,st.U⟩ Q
def IV(l:List az)(k:List It)(d:Option Nat)(st:St)(Q:St->Prop)(o:Option af):Prop:=di o λZ'=>step P O n f (.d l k) ⟨aO st.s d (.P' []),Z'⟩ Q
def I9(l:List az)(k:List It)(d:Option Nat)(st:St)(Q:St->Prop)(o:Option (Nat->V×af)):Prop:=
 di o λg=>∀id,st.U id=none->step P O n f (.d l k) ⟨aO st.s d (g id).1,(g id).2⟩ Q
def JA(l:List az)(k:List It)(d:Option Nat)(op:Yq)(g:Option (VX×Bool))(st:St)(Q:St->Prop)(o:Option V):Prop:=
 zT o (λv=>step P O n f (.d l k) ⟨aO st.s d v,st.U⟩ Q) (Go P n (.d (⟨d,op,g⟩::l) k) st Q)
def yd(q:Nat)(d:Option Nat)(op:Yq)(g:Option (VX×Bool))(l:List az)(k:List It)(st:St)(Q:St->Prop):Prop:=
 yg O q d op st (λst=>step P O n f (.d l k) st Q) (Go P n (.d (⟨d,op,g⟩::l) k) st Q)
def gD(v:V)(d:Option Nat)(op:Yq)(x:VX)(b:Bool)(l:List az)(k:List It)(st:St)(Q:St->Prop):Prop:=
 dE v (λc=>both c b (yd P O n f (aX op) d op (some (x,b)) l k (st.lit x (.bool b)) Q)
  (step P O n f (.d l k) ⟨aO (st.lit x (.bool !b)).s d (.P' []),(st.lit x (.bool !b)).U⟩ Q)) (step P O n f (.d l k) ⟨aO st.s d (.P' []),st.U⟩ Q)
variable {P O n} {f}
def yV(s:Nat->V)(d:Nat)(v:V)(i:Nat):aO s (some d) v i=if i=d then v else s i:=rfl
def yA(s:Nat->V)(v:V)(i:Nat):aO s none v i=s i:=rfl
def Ok(st:St)(d:Nat)(v:V):st.lit (.t d) v=⟨aO st.s (some d) v,st.U⟩:=rfl
def N9(st:St)(u v:V):st.lit (.c u) v=st:=rfl
def Tl(s:Nat->V)(d:Nat):VX.ev s (.t d)=s d:=rfl
def TU(s:Nat->V)(v:V):VX.ev s (.c v)=v:=rfl
def Kd(d:Option Nat)(op:Yq)(g:Option (VX×Bool))(l:List az):vS P O n f 0 d op g l k st Q=(ez st.s op/\OF P O n f l k d st Q (aE st.U st.s op)):=rfl
def JE(d:Option Nat)(op:Yq)(g:Option (VX×Bool))(l:List az):vS P O n f 1 d op g l k st Q=Iv P O n f l k d op g st Q (yF O st.s st.U op):=rfl
def Li(d:Option Nat)(op:Yq)(g:Option (VX×Bool))(l:List az):vS P O n f 2 d op g l k st Q=I6 P O n f l k d st Q (la st.s st.U op):=rfl
def Kl(d:Option Nat)(op:Yq)(g:Option (VX×Bool))(l:List az):vS P O n f 3 d op g l k st Q=M3 P O n f l k d st Q (eff st.s st.U op):=rfl
def Ix(d:Option Nat)(op:Yq)(g:Option (VX×Bool))(l:List az):vS P O n f 4 d op g l k st Q=ab P n (.ops (⟨d,op,g⟩::l)::k) st Q:=rfl
def wR(d:Option Nat)(op:Yq)(g:Option (VX×Bool))(l:List az)(v:V):Iv P O n f l k d op g st Q (some v)=step P O n f (.r (.ops l::k)) ⟨aO st.s d v,st.U⟩ Q:=rfl
def vT(d:Option Nat)(op:Yq)(g:Option (VX×Bool))(l:List az):Iv P O n f l k d op g st Q none=ab P n (.ops (⟨d,op,g⟩::l)::k) st Q:=rfl
def Ck(s:Nat->V)(U:af)(fx:VX)(xs:List VX):yF O s U (.call fx xs)=match fx.ev s with
 |.fn f caps=>O.get f (xs.map (·.ev s)++caps) U
 |_=>none:=rfl
def Jh(d:Option Nat)(op:Yq)(g:Option (VX×Bool))(l:List az):yd P O n f 0 d op g l k st Q=(ez st.s op/\Ol P O n f l k d st Q (aE st.U st.s op)):=rfl
def JG(d:Option Nat)(op:Yq)(g:Option (VX×Bool))(l:List az):yd P O n f 1 d op g l k st Q=JA P O n f l k d op g st Q (yF O st.s st.U op):=rfl
def JU(d:Option Nat)(op:Yq)(g:Option (VX×Bool))(l:List az):yd P O n f 2 d op g l k st Q=IV P O n f l k d st Q (la st.s st.U op):=rfl
def Lf(d:Option Nat)(op:Yq)(g:Option (VX×Bool))(l:List az):yd P O n f 3 d op g l k st Q=I9 P O n f l k d st Q (eff st.s st.U op):=rfl
def vy(d:Option Nat)(op:Yq)(g:Option (VX×Bool))(l:List az)(v:V):JA P O n f l k d op g st Q (some v)=step P O n f (.d l k) ⟨aO st.s d v,st.U⟩ Q:=rfl
def wO(d:Option Nat)(op:Yq)(g:Option (VX×Bool))(l:List az):JA P O n f l k d op g st Q none=Go P n (.d (⟨d,op,g⟩::l) k) st Q:=rfl
def Fj:step P O n (f+1) (.r []) st Q=Q st:=rfl
def B5(μ:St->Prop):step P O n (f+1) (.r (.stop μ::k)) st Q=μ st:=rfl
def tO(id:Nat):step P O n (f+1) (.r (.inBlock id::k)) st Q=step P O n f (.r k) st Q:=rfl
def tY:step P O n (f+1) (.r (.ops []::k)) st Q=step P O n f (.r k) st Q:=rfl
def Dg:step P O n (f+1) (.r (.code .skip::k)) st Q=step P O n f (.r k) st Q:=rfl
def Fq(a b:bf):step P O n (f+1) (.r (.code (.seq a b)::k)) st Q=step P O n f (.r (.code a::.code b::k)) st Q:=rfl
def zj(id:Nat)(a:bf):step P O n (f+1) (.r (.code (.block id a)::k)) st Q=step P O n f (.r (.code a::.inBlock id::k)) st Q:=rfl
def CQ(id:Nat):step P O n (f+1) (.r (.code (.exit id)::k)) st Q=exR P O n f (fZ id k) st Q:=rfl
def BU(k':List It):exR P O n f (some k') st Q=step P O n f (.r k') st Q:=rfl
def Fm:step P O n (f+1) (.r (.code .ret::k)) st Q=Q st:=rfl
def Bl(a:bf):step P O n (f+1) (.r (.code (.loop a)::k)) st Q=ab P n (.code (.loop a)::k) st Q:=rfl
def CF(l e:List az):step P O n (f+1) (.r (.code (.nq l e)::k)) st Q=step P O n f (.d l (.ops e::k)) st Q:=rfl
def cP(l:List az)(Yi:List (List Nat)):step P O n (f+1) (.r (.code (.regA l Yi)::k)) st Q=ab P n (.code (.regA l Yi)::k) st Q:=rfl
def xd(g:VX)(ps:List Nat)(a b:bf):step P O n (f+1) (.r (.code (.cA g ps a b)::k)) st Q=ab P n (.code (.cA g ps a b)::k) st Q:=rfl
def Gw(l:List az):step P O n (f+1) (.r (.code (.reg false l)::k)) st Q=step P O n f (.r (.ops l::k)) st Q:=rfl
def BJ(l:List az):step P O n (f+1) (.r (.code (.reg true l)::k)) st Q=step P O n f (.d l k) st Q:=rfl
def FK:step P O n (f+1) (.d [] k) st Q=step P O n f (.r k) st Q:=rfl
def BM(c:VX)(a b:bf):step P O n (f+1) (.r (.code (.cond c a b)::k)) st Q=cR P O n f (c.ev st.s) a b k st Q:=rfl
def Uu(a b:bf):cR P O n f (.bool true) a b k st Q=step P O n f (.r (.code a::k)) st Q:=by simp[cR,dE,both]
def Us(a b:bf):cR P O n f (.bool false) a b k st Q=step P O n f (.r (.code b::k)) st Q:=by simp[cR,dE,both]
def Jj(p:Prop)[Decidable p](a b:bf):cR P O n f (.bool (decide p)) a b k st Q=((p->step P O n f (.r (.code a::k)) st Q)/\(¬p->step P O n f (.r (.code b::k)) st Q)):=by simp[cR,dE,both]
def F1(d:Option Nat)(op:Yq)(l:List az):step P O n (f+1) (.r (.ops (⟨d,op,none⟩::l)::k)) st Q=vS P O n f (aX op) d op none l k st Q:=rfl
def vz(d:Option Nat)(l:List az)(v:V):OF P O n f l k d st Q (some v)=step P O n f (.r (.ops l::k)) ⟨aO st.s d v,st.U⟩ Q:=rfl
def tZ(d:Option Nat)(l:List az)(Z':af):I6 P O n f l k d st Q (some Z')=step P O n f (.r (.ops l::k)) ⟨aO st.s d (.P' []),Z'⟩ Q:=rfl
def bG(d:Option Nat)(l:List az)(g:Nat->V×af):M3 P O n f l k d st Q (some g)=∀id,st.U id=none->step P O n f (.r (.ops l::k)) ⟨aO st.s d (g id).1,(g id).2⟩ Q:=rfl
def FG(d:Option Nat)(op:Yq)(l:List az):step P O n (f+1) (.d (⟨d,op,none⟩::l) k) st Q=yd P O n f (aX op) d op none l k st Q:=rfl
def xq(d:Option Nat)(l:List az)(v:V):Ol P O n f l k d st Q (some v)=step P O n f (.d l k) ⟨aO st.s d v,st.U⟩ Q:=rfl
def tF(d:Option Nat)(l:List az)(Z':af):IV P O n f l k d st Q (some Z')=step P O n f (.d l k) ⟨aO st.s d (.P' []),Z'⟩ Q:=rfl
def fc(d:Option Nat)(l:List az)(g:Nat->V×af):I9 P O n f l k d st Q (some g)=∀id,st.U id=none->step P O n f (.d l k) ⟨aO st.s d (g id).1,(g id).2⟩ Q:=rfl
def Dt(d:Option Nat)(op:Yq)(x:VX)(b:Bool)(l:List az):step P O n (f+1) (.r (.ops (⟨d,op,some (x,b)⟩::l)::k)) st Q=gR P O n f (x.ev st.s) d op x b l k st Q:=rfl
def KB(d:Option Nat)(op:Yq)(x:VX)(b:Bool)(l:List az):gR P O n f (.P' []) d op x b l k st Q=step P O n f (.r (.ops l::k)) ⟨aO st.s d (.P' []),st.U⟩ Q:=rfl
def Oy(d:Option Nat)(op:Yq)(x:VX)(l:List az):gR P O n f (.bool true) d op x true l k st Q=vS P O n f (aX op) d op (some (x,true)) l k (st.lit x (.bool true)) Q:=by simp[gR,dE,both]
def Oj(d:Option Nat)(op:Yq)(x:VX)(l:List az):gR P O n f (.bool false) d op x false l k st Q=vS P O n f (aX op) d op (some (x,false)) l k (st.lit x (.bool false)) Q:=by simp[gR,dE,both]
def Oa(d:Option Nat)(op:Yq)(x:VX)(l:List az):gR P O n f (.bool true) d op x false l k st Q=step P O n f (.r (.ops l::k)) ⟨aO (st.lit x (.bool true)).s d (.P' []),(st.lit x (.bool true)).U⟩ Q:=by simp[gR,dE,both]
def OH(d:Option Nat)(op:Yq)(x:VX)(l:List az):gR P O n f (.bool false) d op x true l k st Q=step P O n f (.r (.ops l::k)) ⟨aO (st.lit x (.bool false)).s d (.P' []),(st.lit x (.bool false)).U⟩ Q:=by simp[gR,dE,both]
def DG(p:Prop)[Decidable p](d:Option Nat)(op:Yq)(x:VX)(l:List az):gR P O n f (.bool (decide p)) d op x true l k st Q=
 ((p->vS P O n f (aX op) d op (some (x,true)) l k (st.lit x (.bool true)) Q)/\(¬p->step P O n f (.r (.ops l::k)) ⟨aO (st.lit x (.bool false)).s d (.P' []),(st.lit x (.bool false)).U⟩ Q)):=by simp[gR,dE,both]
def BW(p:Prop)[Decidable p](d:Option Nat)(op:Yq)(x:VX)(l:List az):gR P O n f (.bool (decide p)) d op x false l k st Q=
 ((¬p->vS P O n f (aX op) d op (some (x,false)) l k (st.lit x (.bool false)) Q)/\(p->step P O n f (.r (.ops l::k)) ⟨aO (st.lit x (.bool true)).s d (.P' []),(st.lit x (.bool true)).U⟩ Q)):=by simp[gR,dE,both]
def Bf(d:Option Nat)(op:Yq)(x:VX)(b:Bool)(l:List az):step P O n (f+1) (.d (⟨d,op,some (x,b)⟩::l) k) st Q=gD P O n f (x.ev st.s) d op x b l k st Q:=rfl
def Ld(d:Option Nat)(op:Yq)(x:VX)(b:Bool)(l:List az):gD P O n f (.P' []) d op x b l k st Q=step P O n f (.d l k) ⟨aO st.s d (.P' []),st.U⟩ Q:=rfl
def Od(d:Option Nat)(op:Yq)(x:VX)(l:List az):gD P O n f (.bool true) d op x true l k st Q=yd P O n f (aX op) d op (some (x,true)) l k (st.lit x (.bool true)) Q:=by simp[gD,dE,both]
def Oc(d:Option Nat)(op:Yq)(x:VX)(l:List az):gD P O n f (.bool false) d op x false l k st Q=yd P O n f (aX op) d op (some (x,false)) l k (st.lit x (.bool false)) Q:=by simp[gD,dE,both]
def Oo(d:Option Nat)(op:Yq)(x:VX)(l:List az):gD P O n f (.bool true) d op x false l k st Q=step P O n f (.d l k) ⟨aO (st.lit x (.bool true)).s d (.P' []),(st.lit x (.bool true)).U⟩ Q:=by simp[gD,dE,both]
def Og(d:Option Nat)(op:Yq)(x:VX)(l:List az):gD P O n f (.bool false) d op x true l k st Q=step P O n f (.d l k) ⟨aO (st.lit x (.bool false)).s d (.P' []),(st.lit x (.bool false)).U⟩ Q:=by simp[gD,dE,both]
def Dd(p:Prop)[Decidable p](d:Option Nat)(op:Yq)(x:VX)(l:List az):gD P O n f (.bool (decide p)) d op x true l k st Q=
 ((p->yd P O n f (aX op) d op (some (x,true)) l k (st.lit x (.bool true)) Q)/\(¬p->step P O n f (.d l k) ⟨aO (st.lit x (.bool false)).s d (.P' []),(st.lit x (.bool false)).U⟩ Q)):=by simp[gD,dE,both]
def Cp(p:Prop)[Decidable p](d:Option Nat)(op:Yq)(x:VX)(l:List az):gD P O n f (.bool (decide p)) d op x false l k st Q=
 ((¬p->yd P O n f (aX op) d op (some (x,false)) l k (st.lit x (.bool false)) Q)/\(p->step P O n f (.d l k) ⟨aO (st.lit x (.bool true)).s d (.P' []),(st.lit x (.bool true)).U⟩ Q)):=by simp[gD,dE,both]
end rules
def aJ(P:Program)(f:FuncId)(args:List V)(v:V):Prop:=∀U,au P f args U λr Z'=>r=v/\Z'=U
variable {P:Program} {n:Nat} {st:St} {Q:St->Prop} {k:List It}
def iJ:af:=λ_=>none
def lO(U:af):aa iJ U:=λ_ _ h=>by simp[iJ]at h
def V.lone:V->Bool
 |.int ..|.bool _|.str _=>true
 |_=>false
def V.scalar:V->Bool
 |.P' vs=>vs.all V.lone
 |.agg vs=>vs.all V.lone
 |v=>v.lone
def E'.lone{I Y':Mu}{ow ow':Nat->Prop}{w w':World}{v:V}{x:Value}(hv:v.lone=true)(h:E' I ow w v x):E' Y' ow' w' v x:=by
 cases v<;>simp only[V.lone,eQ]at hv<;>simpa[E']using h
def al.KA{I Y':Mu}{ow ow':Nat->Prop}{w w':World}:∀{vs:List V} {l:List Value},vs.all V.lone=true->al I ow w vs l->al Y' ow' w' vs l
 |[],l,_,h=>by simpa[al]using h
 |u::us,l,hv,h=>by
  simp only[iV,Ba]at hv;simp only[al]at h|-;obtain⟨y,ys,rfl,h1,h2⟩:=h;exact⟨y,ys,rfl,E'.lone hv.1 h1,al.KA hv.2 h2⟩
def E'.scalar{I Y':Mu}{ow ow':Nat->Prop}{w w':World}{v:V}{x:Value}(hv:v.scalar=true)(h:E' I ow w v x):E' Y' ow' w' v x:=by
 by_cases ht:∃vs,v=.P' vs
 .obtain⟨vs,rfl⟩:=ht;simp only[E']at h|-;obtain⟨Yf,rfl,h⟩:=h;exact⟨Yf,rfl,al.KA hv h⟩
 .by_cases ha:∃vs,v=.agg vs
  .obtain⟨vs,rfl⟩:=ha;simp only[E']at h|-;obtain⟨Yf,rfl,h,h2⟩:=h;exact⟨Yf,rfl,al.KA hv h,h2⟩
  .refine E'.lone ?_ h;cases v<;>simp_all [V.scalar]
def aJ.borrow{f:FuncId}{args args':List V}{v:V}{U:af}(hw:WkL U iJ args args')(h:aJ P f args' v)(hv:v.scalar=true):
 au P f args U λr Z'=>r=v/\Z'=U:=by
 refine⟨(h iJ).1,?_⟩;intro I w Yf hs hr;have YL:Sat w (aA I iJ) I iJ w:=by
  have:=hs.drop (lO U);exact⟨YQ _,rfl,rfl,rfl,λ_ _ _=>rfl,this.fin,this.inj,this.obj,λb hb _=>hb,this.nK⟩
 refine((h iJ).2 I w Yf YL (WkL.all hs hw hr)).mono ?_;rintro e w' ⟨r,Z',Y',val,rfl,⟨rfl,rfl⟩,hle,Ye,hrep⟩;have Yx:∀b,¬aA I iJ b:=λb ⟨_,_,_,_,h,_⟩=>by simp[iJ]at h
 have ZZ:∀b,b<w.heap.size->w'.heap[b]?=w.heap[b]?:=λb hb=>Ye.same b hb (Yx b);have hborn:∀id o,U id=some o->Y' id=I id:=λid o ho=>hle id (λe=>by
  have:=hs.obj id o ho;rw[e]at this;exact this)
 have hown:∀b,aA Y' U b->aA I U b:=λb ⟨id,o,sz,cap,h1,h2⟩=>⟨id,o,sz,cap,h1,hborn id o h1▸h2⟩
 have hk:cD (aA I U) (aA Y' U) w w':=λb hb hn=>⟨λho=>hn (hown b ho),ZZ b hb⟩
 refine⟨_,U,Y',val,rfl,⟨rfl,rfl⟩,hle,?_,E'.scalar hv hrep⟩;refine⟨Ye.size,Ye.os,Ye.tape,Ye.output,λb hb _=>ZZ b hb,Ye.fin,?_,?_,λb hb _=>hown b hb,hs.glob⟩
 .intro id ZD o o' b sz cap sz' ZT h1 h2 h3 h4;exact hs.inj id ZD o o' b sz cap sz' ZT h1 h2 (hborn id o h1▸h3) (hborn ZD o' h2▸h4)
 .intro id o ho;rw[hborn id o ho];refine(hs.obj id o ho).mono hle hk Ye.size λb sz cap hp=>ZZ b ?_;exact aA.lt hs ⟨id,o,sz,cap,ho,hp⟩
def ak(v:V)(U:af)(Post:V->af->Prop):Prop:=∃v' Z',aa Z' U/\Wk U Z' v v'/\Post v' Z'
def Gs{s:Nat->V}{U:af}{d:Nat}{Post:V->af->Prop}:Ret [.tmp (.t d)] ⟨s,U⟩ Post=ak (s d) U Post:=by
 apply propext;simp only[Ret,ak,nY,ej,gm,VX.ev];constructor
 .rintro⟨v,v',Z',h1,h2⟩;simp only[aB]at h1;subst h1;exact⟨v',Z',h2⟩
 .rintro⟨v',Z',h2⟩;exact⟨_,v',Z',rfl,h2⟩
def Fl{s:Nat->V}{U:af}{d e:Nat}{Post:V->af->Prop}:Ret [.tmp (.t d),.tmp (.t e)] ⟨s,U⟩ Post=ak (.P' [s d,s e]) U Post:=by
 apply propext;simp only[Ret,ak,nY,ej,gm,VX.ev];constructor
 .rintro⟨v,v',Z',h1,h2⟩;simp only[aB]at h1;subst h1;exact⟨v',Z',h2⟩
 .rintro⟨v',Z',h2⟩;exact⟨_,v',Z',rfl,h2⟩
def y6{s:Nat->V}{U:af}{d e g:Nat}{Post:V->af->Prop}:Ret [.tmp (.t d),.tmp (.t e),.tmp (.t g)] ⟨s,U⟩ Post=ak (.P' [s d,s e,s g]) U Post:=by
 apply propext;simp only[Ret,ak,nY,ej,gm,VX.ev];constructor
 .rintro⟨v,v',Z',h1,h2⟩;simp only[aB]at h1;subst h1;exact⟨v',Z',h2⟩
 .rintro⟨v',Z',h2⟩;exact⟨_,v',Z',rfl,h2⟩
def u9{st:St}{Post:V->af->Prop}:Ret [] st Post=ak (.P' []) st.U Post:=by
 apply propext;simp only[Ret,ak,nY,ej];constructor
 .rintro⟨v,v',Z',h1,h2⟩;simp only[aB]at h1;subst h1;exact⟨v',Z',h2⟩
 .rintro⟨v',Z',h2⟩;exact⟨_,v',Z',rfl,h2⟩
def ak.pure{v v0:V}{U Z1:af}(h:aa U Z1)(hv:v=v0):ak v Z1 λr Z'=>r=v0/\Z'=U:=
 ⟨v,U,h,Wk.refl h v,hv,rfl⟩
def ak.same{v v0:V}{U:af}(hv:v=v0):ak v U λr Z'=>r=v0/\Z'=U:=.pure (aa.refl U) hv
def fA{U:af}{id i:Nat}{o:Ob}:C' U id o i=none↔i≠id/\U i=none:=by
 unfold C';split<;>simp_all
def ag{U:af}{id:Nat}{o:Ob}:C' U id o id=some o:=by simp[C']
def ae{U:af}{id i:Nat}{o:Ob}(h:i≠id):C' U id o i=U i:=by simp[C',h]
def bR{U:af}{id i:Nat}(h:i≠id):del U id i=U i:=by simp[del,h]
def GB{U:af}{id:Nat}{a b:Ob}:C' (C' U id a) id b=C' U id b:=by
 funext i;simp only[C'];split<;>rfl
def FF{U:af}{id:Nat}{a:Ob}(h:U id=none):del (C' U id a) id=U:=by
 funext i;simp only[del,C'];split
 .rename_i e;rw[e,h]
 .rfl
def aa.C'{Z' U:af}{id:Nat}{o:Ob}(h:aa Z' U)(O':U id=none):aa Z' (Vc.C' U id o):=
 h.MA (by
  cases hs:Z' id with
  |none=>rfl
  |some x=>have:=h id x hs;rw[O']at this;cases this)
def aa.Qb{U Z':af}{id:Nat}{o:Ob}(h:aa U Z'):aa (Vc.C' U id o) (Vc.C' Z' id o):=λi x hx=>by
 simp only[Vc.C']at hx|-;split at hx
 .rename_i e;rw[ar e];exact hx
 .rename_i e;rw[av e];exact h i x hx
variable {P:Program} {n:Nat} {st:St} {Q:St->Prop} {k:List It} {I:Mu} {w:World}
def zq{rows:List V}{sz:Nat}(h:∀r∈rows,r.cells.length=sz)(k:Nat):flat (rows.drop k)=(flat rows).drop (k*sz):=by
 induction rows generalizing k with
 |nil=>simp[flat]
 |cons r rs ih=>
  have e:∀l,flat (r::l)=r.cells++flat l:=λl=>by simp[flat]
  cases k with
  |zero=>simp[flat]
  |succ k=>
   rw[Kx,e,ih (λx hx=>h x (by simp[hx])),Nat.add_mul,Nat.one_mul,Ej,<-h r (by simp),<-List.drop_drop,List.drop_left]
def al.replicate{ow:Nat->Prop}{vs:List V}{l:List Value}(h:al I ow w vs l):∀n,al I ow w (List.replicate n vs).flatten (List.replicate n l).flatten
 |0=>by simp[al]
 |n+1=>by
  simp only[List.replicate_succ,List.flatten_cons];exact h.append (al.replicate h n)
def BZ{F:Fr}{a:Act}(hs:cI F I st a w){o:Oper}{x:Operand}{t e:TypeId}{args:Array Operand}{argTypes:Array TypeId}{i:TypeInfo}{z:Value}
 (hoo:o.op=.call { callee:=.builtin .clear,args:=args,argTypes:=argTypes })(harg:args=#[x])(hty:argTypes[0]?=some t)
 (ht:P.underlying t=some (.slice e))(hz:zeroOf P e=some (i,z)){id off len:Nat}(h1:(cx F.n x).ev st.s=.own id off len){ob:Ob}(h2:st.U id=some ob)
 (h3:ob.sz=i.size)(h4:off+len<=ob.rows.length):
 ∃y w',(execOp a.eval o).run P w=.ok (.value y) w'/\
  cI F I ⟨aO st.s (o.dst.filter (·<F.n)) (.P' []),C' st.U id { ob with rows:=ob.rows.take off++List.replicate len (ofValue z)++ob.rows.drop (off+len) }⟩ (a.put o.dst y) w':=by
 obtain⟨hi,hz0,hk,hzs,hone,hsz⟩:=ei hz;have R:=bH hs;have hx:=R x;rw[h1]at hx;simp only[E']at hx;have Yw:∀w',(Builtin.clear_ argTypes o.type #[a.eval x]).run P w=.ok (.tuple #[]) w'->(execOp a.eval o).run P w=.ok (.value (.tuple #[])) w':=by
  intro w' hw';unfold execOp;rw[hoo];simp[resolve,invoke,Go.builtin,harg,hw']
 have hrep:E' I (aA I st.U) w (.P' []) (.tuple #[]):=by simp only[E'];exact⟨[],rfl,by simp[al]⟩
 have hzero:len=0->∃y w',(execOp a.eval o).run P w=.ok (.value y) w'/\
  cI F I ⟨aO st.s (o.dst.filter (·<F.n)) (.P' []),C' st.U id { ob with rows:=ob.rows.take off++List.replicate len (ofValue z)++ob.rows.drop (off+len) }⟩ (a.put o.dst y) w':=by
  intro h0;subst h0;have hX:∃b c,a.eval x=.slice b 0 c:=by
   split at hx
   .exact hx.elim
   .exact⟨_,_,hx.1⟩
   .obtain⟨o',c,h,_⟩:=hx;exact⟨_,_,h⟩
  obtain⟨b,c,hX⟩:=hX;have Ys:C' st.U id { ob with rows:=ob.rows.take off++List.replicate 0 (ofValue z)++ob.rows.drop (off+0) }=st.U:=by
   funext j;simp only[C',List.replicate_zero,lH,Nat.add_zero,sZ];split
   .rename_i e';rw[e',h2]
   .rfl
  rw[Ys];refine⟨.tuple #[],w,Yw w ?_,hs.pure hrep⟩;rw[hX];cases b<;>simp[Builtin.clear_,hty,run_underlying ht]
 split at hx
 .exact hx.elim
 .exact hzero hx.2.2
 .rename_i b szb cap O';obtain⟨o',c,hX,c1,c2,c3,hz0⟩:=hx;by_cases h0:len=0
  .exact hzero h0
  have YV:=hs.sat.obj id ob h2;rw[O']at YV;obtain⟨cur,e1,e2,e3,e4,e5,e6,e7⟩:=YV.plain hz0;obtain⟨g1,xs,g2,g3,g4,g5⟩:=e7.cur e1;have hoff:o'=off*szb:=by
   rcases c3 with c3|c3
   .exact c3
   .omega
  subst hoff;have Ye:szb=i.size:=by omega
  subst Ye;have hzl:z.cells.size=i.size:=hzs;have hnews:=kC z.cells len;have hnl:(Builtin.zeroCells z.cells len).toList.length=len*i.size:=by rw[hnews];simp[hzl]
  have hbound:off*i.size+len*i.size<=ob.rows.length*i.size:=by rw[<-Nat.add_mul];exact Nat.mul_le_mul_right _ h4
  have hbound2:ob.rows.length*i.size<=cap*i.size:=Nat.mul_le_mul_right _ e5;have hone':∀u∈(Builtin.zeroCells z.cells len).toList,u.oneCell'=true:=by
   rw[hnews];intro u hu;simp only[List.mem_flatten,List.mem_replicate]at hu;obtain⟨l,⟨_,rfl⟩,hu⟩:=hu;exact hone u hu
  have Ys:=run_storeCells_at P b (off*i.size) ob.elem (Builtin.zeroCells z.cells len).toList 0 cur w e1 (by rw[hnl];omega) hone';simp only[Nat.add_zero]at Ys;refine⟨.tuple #[],w.setRow b (cur.toList.take (off*i.size)++(Builtin.zeroCells z.cells len).toList++cur.toList.drop (off*i.size+(Builtin.zeroCells z.cells len).toList.length)).toArray,Yw _ ?_,?_⟩
  .rw[hX];obtain⟨m,rfl⟩:∃m,len=m+1:=⟨len-1,by omega⟩
   simp only[Builtin.clear_,hty,List.getElem?_toArray];simp[Ys,run_underlying ht,eo hz]
  .have hgrow:w.grownBy (w.setRow b (cur.toList.take (off*i.size)++(Builtin.zeroCells z.cells len).toList++cur.toList.drop (off*i.size+(Builtin.zeroCells z.cells len).toList.length)).toArray) (some b):=
    ⟨rfl,rfl,rfl,by simp,λkk _ hkk=>setRow_other w b kk _ (λe=>hkk (by rw[e]))⟩
   have hzc:(ofValue z).cells.length=i.size:=by rw[gu hone];simp[hzl]
   have hrows':∀q∈ob.rows.take off++List.replicate len (ofValue z)++ob.rows.drop (off+len),q.cells.length=i.size:=by
    intro q hq;simp only[dc]at hq;rcases hq with(hq|hq)|hq
    .exact g1 q (pz hq)
    .rw[(List.mem_replicate.1 hq).2];exact hzc
    .exact g1 q (List.mem_of_mem_drop hq)
   have hflat:flat (ob.rows.take off++List.replicate len (ofValue z)++ob.rows.drop (off+len))=
    (flat ob.rows).take (off*i.size)++(List.replicate len (ofValue z).cells).flatten++(flat ob.rows).drop (off*i.size+len*i.size):=by
    rw[gS,gS,wx,tc g1];congr 1;rw[zq g1,Nat.add_mul]
   have hzr:al I (aA I st.U) w (ofValue z).cells z.cells.toList:=by rw[gu hone];exact eK _
   have hch:=hs.sat.change h2 O' (by omega) hgrow _ (ob.rows.take off++List.replicate len (ofValue z)++ob.rows.drop (off+len)) (xs.take (off*i.size)++(Builtin.zeroCells z.cells len).toList++xs.drop (off*i.size+(Builtin.zeroCells z.cells len).toList.length))
    (setRow_heap w b cur _ ob.elem _ e1) (by simp only[List.size_toArray,gZ,fY,qF,hnl];rw[Array.length_toList];omega) (by simp;omega) hrows'
    (by rw[hflat,hnl,hnews];exact((g2.take _).append (hzr.replicate len)).append (g2.drop _))
    (by intro u hu
        simp only[dc]at hu;rcases hu with(hu|hu)|hu
        .exact g3 u (pz hu)
        .exact hone' u hu
        .exact g3 u (List.mem_of_mem_drop hu))
    (by intro j u hu
        have:=lE cur.toList xs _ g5 (off*i.size) (by rw[hnl,g4];omega) j u hu;simpa using this)
   exact hs.step hch.1 (cC.refl _) hch.2 (by simp) (by simp only[E'];exact⟨[],rfl,by simp[al]⟩)
def ab.clear{i:az}{l:List az}{sz:Nat}{z:V}{xv:VX}(hw:aQ st.s i.g=some true)(ho:i.op=.clear sz z xv)
 {id off len:Nat}(h1:xv.ev st.s=.own id off len){ob:Ob}(h2:st.U id=some ob)(h3:ob.sz=sz)(h4:off+len<=ob.rows.length)
 (h:ab P n (.ops l::k) ⟨aO st.s i.dst (.P' []),C' st.U id { ob with rows:=ob.rows.take off++List.replicate len z++ob.rows.drop (off+len) }⟩ Q):ab P n (.ops (i::l)::k) st Q:=by
 refine ab.ins (by rw[ho];simp) hw λF hn I a w o all hi hs next Q' X7=>?_
 subst hn;obtain⟨X9,hd⟩:=bZ hi;rw[ho]at X9;obtain⟨x,t,e,args,argTypes,ti,zv,g1,g2,g3,g4,g5,rfl,rfl,rfl⟩:=G5 X9;obtain⟨y,w',hx,Ye⟩:=BZ hs g1 g2 g3 g4 g5 h1 h2 h3 h4;unfold Oper.wp;rw[hx];refine X7 _ _ _ ⟨I,?_⟩ h;rw[<-hd];exact Ye
def ot{y:Operand}{t:TypeId}{v:V}:cx n y≠.c (.iface t v):=by
 cases y
 case tmp m=>simp only[cx];split<;>simp
 case const u=>
  simp only[cx,ne_eq,VX.c.injEq];unfold ofValue;split
  .split<;>simp
  .unfold cellOf
   repeat' split
   all_goals simp
 all_goals simp[cx]
def wb{o:Op}{xa:VX}(h:Yh P n o=.Zz false xa (.c (.iface 0 .undef))):∃t x y m c yt e,o=.binOp .eql t x y yt/\y=.const (.slice none m c)/\P.underlying t=some (.slice e)/\cx n x=xa:=by
 cases o
 case binOp op t x y yt=>
  simp only[Yh]at h;split at h
  .cases op<;>simp only[reduceCtorEq,Yq.Zz.injEq,Bool.true_eq_false,false_and]at h;exact absurd h.2.2 ot
  .split at h
   .cases op<;>simp only[reduceCtorEq]at h
   .cases h
  .split at h
   .rename_i hs;unfold jk at h;split at h
    .rename_i hy;obtain⟨rfl,hy⟩:=hy;simp only[Yq.Zz.injEq,and_true,true_and]at h;unfold zZ at hs;split at hs
     .rename_i e ht;unfold HD UH at hy;split at hy
      .split at hy
       .exact⟨t,x,_,_,_,yt,e,rfl,rfl,ht,h⟩
       .cases hy
      .cases hy
     .cases hs
    .cases h
   .split at h
    .split at h
     .simp only[Yq.Zz.injEq,VX.c.injEq,V.iface.injEq]at h;exact absurd h.2.2.1 (by decide)
     .cases h
    .split at h
     .split at h
      .simp only[Yq.Zz.injEq,VX.c.injEq,V.iface.injEq]at h;exact absurd h.2.2.1 (by decide)
      .cases h
     ·(repeat' split at h)<;>cases h
 case call c=>
  obtain⟨callee,args,argTypes⟩:=c;cases callee
  case builtin b=>cases b<;>simp only[Yh]at h<;>(repeat' split at h)<;>cases h
  all_goals (simp only[Yh]at h;cases h)
 case unOp op t x=>cases op<;>simp only[Yh]at h<;>cases h
 case makeFunc f a b=>cases f<;>simp only[Yh]at h<;>(repeat' split at h)<;>cases h
 all_goals (simp only[Yh]at h;(repeat' split at h)<;>cases h)
def ab.HD{i:az}{l:List az}{xa:VX}(hw:aQ st.s i.g=some true)(ho:i.op=.Zz false xa (.c (.iface 0 .undef))){sz:Nat}{rows:List V}
 (hx:xa.ev st.s=.sl sz rows)(h:∀b,(b=true->rows=[])->ab P n (.ops l::k) ⟨aO st.s i.dst (.bool b),st.U⟩ Q):ab P n (.ops (i::l)::k) st Q:=by
 refine ab.ins (by rw[ho];simp) hw λF hn I a w o all hi hs next Q' X7=>?_
 subst hn;obtain⟨X9,hd⟩:=bZ hi;rw[ho]at X9;obtain⟨t,x,y,m,c,yt,e,g1,rfl,g2,rfl⟩:=wb X9;have R:=bH hs x;rw[hx]at R;simp only[E']at R;obtain⟨ba,cap,hX,_,hr⟩:=R;have Yw:(execOp a.eval o).run P w=.ok (.value (.bool ba.isNone)) w:=by
  unfold execOp;rw[g1];have hY:a.eval (.const (.slice none m c))=.slice none m c:=rfl;simp[hX,hY,eqGuard,Lib.run_eql_slice_nil w t e ba rows.length cap m c g2]
 unfold Oper.wp;rw[Yw];refine X7 _ _ _ ⟨I,?_⟩ (h ba.isNone ?_)
 .rw[<-hd];exact hs.pure (by simp[E'])
 .intro hb;rcases hr with hr|⟨b,off,rfl,_⟩
  .exact hr
  .cases hb
def IU{o:Op}{xa:VX}{neg:Bool}(h:Yh P n o=.Zz neg xa (.c (.iface 1 .undef))):∃op t x yt ms,o=.binOp op t x (.const .nilIface) yt/\((op=.eql/\neg=false)\/(op=.neq/\neg=true))/\P.underlying t=some (.interface ms)/\cx n x=xa:=by
 cases o
 case binOp op t x y yt=>
  simp only[Yh]at h;split at h
  .cases op<;>simp only[reduceCtorEq,Yq.Zz.injEq]at h
   .exact absurd h.2.2 ot
   .exact absurd h.2.2 ot
  .split at h
   .cases op<;>simp only[reduceCtorEq]at h
   .cases h
  .split at h
   .unfold jk at h;split at h
    .simp only[Yq.Zz.injEq,VX.c.injEq,V.iface.injEq]at h;exact absurd h.2.2.1 (by decide)
    .cases h
   .split at h
    .rename_i hs;split at h
     .rename_i hy;obtain⟨ho,hy⟩:=hy;simp only[Yq.Zz.injEq,and_true]at h;unfold td at hs;split at hs
      .rename_i ms ht;unfold Ow at hy;split at hy
       .rcases ho with rfl|rfl
        .exact⟨.eql,t,x,yt,ms,rfl,.inl ⟨rfl,h.1.symm⟩,ht,h.2⟩
        .exact⟨.neq,t,x,yt,ms,rfl,.inr ⟨rfl,h.1.symm⟩,ht,h.2⟩
       .cases hy
      .cases hs
     .cases h
    .split at h
     .split at h
      .simp only[Yq.Zz.injEq,VX.c.injEq,V.iface.injEq]at h;exact absurd h.2.2.1 (by decide)
      .cases h
     ·(repeat' split at h)<;>cases h
 case call c=>
  obtain⟨callee,args,argTypes⟩:=c;cases callee
  case builtin b=>cases b<;>simp only[Yh]at h<;>(repeat' split at h)<;>cases h
  all_goals (simp only[Yh]at h;cases h)
 case unOp op t x=>cases op<;>simp only[Yh]at h<;>cases h
 case makeFunc f a b=>cases f<;>simp only[Yh]at h<;>(repeat' split at h)<;>cases h
 all_goals (simp only[Yh]at h;(repeat' split at h)<;>cases h)
def ab.TV{i:az}{l:List az}{xa:VX}{neg:Bool}(hw:aQ st.s i.g=some true)(ho:i.op=.Zz neg xa (.c (.iface 1 .undef))){b:Bool}
 (hx:(xa.ev st.s=.Yt/\b=true)\/∃t v,xa.ev st.s=.iface t v/\b=false)(h:ab P n (.ops l::k) ⟨aO st.s i.dst (.bool (b != neg)),st.U⟩ Q):ab P n (.ops (i::l)::k) st Q:=by
 refine ab.ins (by rw[ho];simp) hw λF hn I a w o all hi hs next Q' X7=>?_
 subst hn;obtain⟨X9,hd⟩:=bZ hi;rw[ho]at X9;obtain⟨op,t,x,yt,ms,g1,g2,g3,rfl⟩:=IU X9;have R:=bH hs x;have hY:a.eval (.const .nilIface)=.nilIface:=rfl;have hm:P.underlying t=some (.interface (P.methodsAt t)):=by simp[Program.methodsAt,g3]
 have Yw:(execOp a.eval o).run P w=.ok (.value (.bool (b != neg))) w:=by
  unfold execOp;rw[g1];rcases hx with⟨hx,rfl⟩|⟨t',v,hx,rfl⟩
  .rw[hx]at R;simp only[E']at R;rcases g2 with⟨rfl,rfl⟩|⟨rfl,rfl⟩
   .simp[R,hY,eqGuard,run_eql_nil_nil w t hm]
   .simp[R,hY,eqGuard,run_neq_nil_nil w t hm]
  .rw[hx]at R;simp only[E']at R;obtain⟨y,hy,_⟩:=R;rcases g2 with⟨rfl,rfl⟩|⟨rfl,rfl⟩
   .simp[hy,hY,eqGuard,run_eql_held_nil w t t' y hm]
   .simp[hy,hY,eqGuard,run_neq_held_nil w t t' y hm]
 unfold Oper.wp;rw[Yw];refine X7 _ _ _ ⟨I,?_⟩ h;rw[<-hd];exact hs.pure (by simp[E'])
def Lc{o:Op}{xa:VX}{neg:Bool}(h:Yh P n o=.Zz neg xa (.c (.iface 2 .undef))):∃op t x yt p r vr,o=.binOp op t x (.const .nilFunc) yt/\((op=.eql/\neg=false)\/(op=.neq/\neg=true))/\P.underlying t=some (.func p r vr)/\cx n x=xa:=by
 cases o
 case binOp op t x y yt=>
  simp only[Yh]at h;split at h
  .cases op<;>simp only[reduceCtorEq,Yq.Zz.injEq]at h
   .exact absurd h.2.2 ot
   .exact absurd h.2.2 ot
  .split at h
   .cases op<;>simp only[reduceCtorEq]at h
   .cases h
  .split at h
   .unfold jk at h;split at h
    .simp only[Yq.Zz.injEq,VX.c.injEq,V.iface.injEq]at h;exact absurd h.2.2.1 (by decide)
    .cases h
   .split at h
    .split at h
     .simp only[Yq.Zz.injEq,VX.c.injEq,V.iface.injEq]at h;exact absurd h.2.2.1 (by decide)
     .cases h
    .split at h
     .rename_i hs;split at h
      .rename_i hy;obtain⟨ho,hy⟩:=hy;simp only[Yq.Zz.injEq,and_true]at h;unfold N8 at hs;split at hs
       .rename_i p r vr ht;unfold N1 at hy;split at hy
        .rcases ho with rfl|rfl
         .exact⟨.eql,t,x,yt,p,r,vr,rfl,.inl ⟨rfl,h.1.symm⟩,ht,h.2⟩
         .exact⟨.neq,t,x,yt,p,r,vr,rfl,.inr ⟨rfl,h.1.symm⟩,ht,h.2⟩
        .cases hy
       .cases hs
      .cases h
     ·(repeat' split at h)<;>cases h
 case call c=>
  obtain⟨callee,args,argTypes⟩:=c;cases callee
  case builtin b=>cases b<;>simp only[Yh]at h<;>(repeat' split at h)<;>cases h
  all_goals (simp only[Yh]at h;cases h)
 case unOp op t x=>cases op<;>simp only[Yh]at h<;>cases h
 case makeFunc f a b=>cases f<;>simp only[Yh]at h<;>(repeat' split at h)<;>cases h
 all_goals (simp only[Yh]at h;(repeat' split at h)<;>cases h)
def D3{t:TypeId}{p r:Array TypeId}{vr:Bool}(w:World)(ht:P.underlying t=some (.func p r vr))(x:Value)(b:Bool)(hx:(x=.nilFunc/\b=true)\/(∃f q c,x=.func f q c)/\b=false):
 (binOp .eql t x .nilFunc).run P w=.ok (.bool b) w/\(binOp .neq t x .nilFunc).run P w=.ok (.bool (!b)) w:=by
 have he:(Op.equal t x .nilFunc).run P w=.ok b w:=by
  unfold Op.equal;rw[show Op.maxDepth=9999+1 from rfl];generalize 9999=d;rcases hx with⟨rfl,rfl⟩|⟨⟨f,q,c,rfl⟩,rfl⟩
  .simp[Op.equalIn,run_underlying ht]
  .simp[Op.equalIn,run_underlying ht]
 rcases hx with⟨rfl,rfl⟩|⟨⟨f,q,c,rfl⟩,rfl⟩
 .exact⟨by simp[binOp,he],by simp[binOp,he]⟩
 .exact⟨by simp[binOp,he],by simp[binOp,he]⟩
def ab.LU{i:az}{l:List az}{xa:VX}{neg:Bool}(hw:aQ st.s i.g=some true)(ho:i.op=.Zz neg xa (.c (.iface 2 .undef))){b:Bool}
 (hx:(xa.ev st.s=.YS/\b=true)\/∃f caps,xa.ev st.s=.fn f caps/\b=false)(h:ab P n (.ops l::k) ⟨aO st.s i.dst (.bool (b != neg)),st.U⟩ Q):ab P n (.ops (i::l)::k) st Q:=by
 refine ab.ins (by rw[ho];simp) hw λF hn I a w o all hi hs next Q' X7=>?_
 subst hn;obtain⟨X9,hd⟩:=bZ hi;rw[ho]at X9;obtain⟨op,t,x,yt,p,r,vr,g1,g2,g3,rfl⟩:=Lc X9;have R:=bH hs x;have hY:a.eval (.const .nilFunc)=.nilFunc:=rfl;have Yw:(execOp a.eval o).run P w=.ok (.value (.bool (b != neg))) w:=by
  unfold execOp;rw[g1];have hX:(a.eval x=.nilFunc/\b=true)\/(∃f q c,a.eval x=.func f q c)/\b=false:=by
   rcases hx with⟨hx,rfl⟩|⟨f,caps,hx,rfl⟩
   .rw[hx]at R;simp only[E']at R;exact .inl ⟨R,rfl⟩
   .rw[hx]at R;simp only[E']at R;obtain⟨y,hy,_⟩:=R;exact .inr ⟨⟨_,_,_,hy⟩,rfl⟩
  obtain⟨q1,q2⟩:=D3 w g3 (a.eval x) b hX;have hg:∀op,(eqGuard op t x (.const .nilFunc) (a.eval x) .nilFunc).run P w=.ok () w:=by
   intro op;rcases hX with⟨h1,_⟩|⟨⟨f,q,c,h1⟩,_⟩<;>rw[h1]<;>simp[eqGuard]
  rcases g2 with⟨rfl,rfl⟩|⟨rfl,rfl⟩
  .simp[hY,hg,q1]
  .simp[hY,hg,q2]
 unfold Oper.wp;rw[Yw];refine X7 _ _ _ ⟨I,?_⟩ h;rw[<-hd];exact hs.pure (by simp[E'])
variable {P:Program} {n:Nat} {st:St} {Q:St->Prop} {k:List It}
def yX(l:List Nat)(s:Nat->V):Nat->V:=λi=>if l.contains i then s i else .undef
def ab.freeze{s:Nat->V}{U:af}{todo:List It}(l:List Nat)(d id off len:Nat){ob:Ob}{Z':af}(h:aa Z' U)(ho:U id=some ob)(O':Z' id=none)
 (hs:s d=.own id off len)(hl:off+len<=ob.rows.length)
 (hr:ab P n todo ⟨λi=>if i=d then .sl ob.sz ((ob.rows.drop off).take len)else yX l s i,Z'⟩ Q):ab P n todo ⟨s,U⟩ Q:=by
 refine ab.weaken ⟨h,λi=>?_⟩ hr;show Wk U Z' (s i) _;by_cases hi:i=d
 .simp only[hi,if_true];rw[hs];exact Wk.own h ho O' hl
 .simp only[hi,if_false];unfold yX;split
  .exact Wk.refl h _
  .exact Wk.undef _
def DS(l:List Nat)(s:Nat->V)(i:Nat):yX l s i=if l.contains i then s i else .undef:=rfl
def mix(m:Nat)(a b:Nat->V):Nat->V:=λi=>if i<m then a i else b i
def F0(m:Nat)(a b:Nat->V)(i:Nat):mix m a b i=if i<m then a i else b i:=rfl
def Lb(m:Nat)(s:Nat->V):mix m s s=s:=by funext i;simp[mix]
def rv(s:Nat->V)(v:V):aO s none v=s:=rfl
def Gf{m d:Nat}(h:d<m)(a b:Nat->V)(v:V):aO (mix m a b) (some d) v=mix m (aO a (some d) v) b:=by
 funext i;simp only[aO,mix];split
 .rename_i e;subst e;simp[h]
 .split<;>rfl
def Fx{m d:Nat}(h:m<=d)(a b:Nat->V)(v:V):aO (mix m a b) (some d) v=mix m a (aO b (some d) v):=by
 funext i;simp only[aO,mix];split
 .rename_i e;subst e;simp[Nat.not_lt.2 h]
 .split<;>rfl
def ab.mix(m:Nat){todo:List It}{s:Nat->V}{U:af}(h:ab P n todo ⟨Vc.mix m s s,U⟩ Q):ab P n todo ⟨s,U⟩ Q:=by
 rw[Lb]at h;exact h
def rb{s:Nat->V}{U:af}{agg:Bool}{sz d:Nat}{Post:V->af->Prop}:
 Ret [.cell agg sz (.t d)] ⟨s,U⟩ Post=di (bB U agg sz (s d)) λv=>ak v U Post:=by
 unfold Ret ak nY;simp only[ej,gm,VX.ev];cases bB U agg sz (s d)<;>simp[di]
def ri{s:Nat->V}{U:af}{agg:Bool}{sz d e:Nat}{Post:V->af->Prop}:
 Ret [.cell agg sz (.t d),.tmp (.t e)] ⟨s,U⟩ Post=di (bB U agg sz (s d)) λv=>ak (.P' [v,s e]) U Post:=by
 unfold Ret ak nY;simp only[ej,gm,VX.ev];cases bB U agg sz (s d)<;>simp[di]
def aa.ax{Z0 U:af}{id:Nat}{o:Ob}(h:aa Z0 U)(O':Z0 id=none):aa Z0 (Vc.C' U id o):=λi x hx=>by
 have YA:i≠id:=λe=>by rw[e,O']at hx;cases hx
 rw[ae YA];exact h i x hx
def aa.none{a b:af}(h:aa a b){i:Nat}(hi:b i=none):a i=none:=by
 cases ha:a i with
 |none=>rfl
 |some o=>rw[h i o ha]at hi;cases hi
def ao{U:af}{i j:Nat}{o:Ob}(h:U i=some o)(hj:U j=none):i≠j:=by rintro rfl;rw[h]at hj;cases hj
def ad{O:ZQ P}{f:Nat}{d:Option Nat}{l:List az}{v:Nat->V}{ob:Ob}{s:Nat->V}{U:af}
 (h:∀id Z',aa U Z'->Z' id=some ob->U id=none->step P O n f (.r (.ops l::k)) ⟨aO s d (v id),Z'⟩ Q):
 M3 P O n f l k d ⟨s,U⟩ Q (some λid=>(v id,Vc.C' U id ob)):=by
 rw[bG];exact λid O'=>h id _ ((aa.refl U).C' O') ag O'
def aW{O:ZQ P}{f:Nat}{d:Option Nat}{l:List az}{v:Nat->V}{ob:Ob}{s:Nat->V}{U:af}
 (h:∀id Z',aa U Z'->Z' id=some ob->U id=none->step P O n f (.d l k) ⟨aO s d (v id),Z'⟩ Q):
 I9 P O n f l k d ⟨s,U⟩ Q (some λid=>(v id,Vc.C' U id ob)):=by
 rw[fc];exact λid O'=>h id _ ((aa.refl U).C' O') ag O'
def Bz{O:ZQ P}{f:Nat}(t:Bool)(a b:bf):cR P O n f (.bool t) a b k st Q=((t=true->step P O n f (.r (.code a::k)) st Q)/\(t=false->step P O n f (.r (.code b::k)) st Q)):=by
 cases t<;>simp[cR,dE,both]
def ab.ay{i:az}{l:List az}{fx:VX}{xs:List VX}{s:Nat->V}{U:af}{f:FuncId}{caps:List V}{v:V}(hw:aQ s i.g=some true)(ho:i.op=.call fx xs)
 (hf:fx.ev s=.fn f caps)(hc:au P f (xs.map (·.ev s)++caps) U λr Z'=>r=v/\Z'=U)(h:ab P n (.ops l::k) ⟨aO s i.dst v,U⟩ Q):
 ab P n (.ops (i::l)::k) ⟨s,U⟩ Q:=by
 refine ab.call hw ho hf hc ?_;rintro r Z' ⟨rfl,rfl⟩;exact h
def Bp(op:BinOp)(k:IntKind)(a b:Int):xR op (.int k a) (.int k b)=dW op k a b:=by simp[xR]
def Co(op:BinOp)(a b:List UInt8):xR op (.str a) (.str b)=pW op a b:=rfl
def vk(op:BinOp)(k k':IntKind)(a b:Int):qj op (.int k a) (.int k' b)=iS op k a b:=rfl
def vH(op:BinOp)(a b:List UInt8):qj op (.str a) (.str b)=v8 op a b:=rfl
def Br(id off n:Nat):cW false (.own id off n)=some (.int .i64 n):=rfl
def Gp(sz:Nat)(rows:List V):cW false (.sl sz rows)=some (.int .i64 rows.length):=rfl
def zd:cW false .aC=some (.int .i64 0):=rfl
def Bu(s:List UInt8):cW true (.str s)=some (.int .i64 s.length):=rfl
def yJ(U:af)(ZS id off len:Nat)(k:IntKind)(j:Int):bo U ZS (.own id off len) (.int k j)=match U id with
 |some ob=>if ob.sz=ZS/\0<=j/\j<len then some (.ptr id (off+j.toNat) 0)else none
 |none=>none:=rfl
def zp(U:af)(agg:Bool)(sz id i k:Nat):bB U agg sz (.ptr id i k)=match U id with
 |some ob=>match ob.rows[i]? with
  |some r=>if agg then(if k=0/\r.cells.length=sz then some (.agg r.cells)else if k+sz<=r.cells.length then some (.agg ((r.cells.drop k).take sz))else none)
     else r.cells[k]?
  |none=>none
 |none=>none:=rfl
def rM(U:af)(sz:Nat)(vs:List V):bB U true sz (.rp (.agg vs))=if vs.length=sz then some (.agg vs)else none:=rfl
def qR(U:af)(sz:Nat)(k:IntKind)(j:Int):bB U false sz (.rp (.int k j))=some (.int k j):=rfl
def Reads(U:af)(sz:Nat)(agg:Bool)(sv:V)(rows:List V):Prop:=
 cW false sv=some (.int .i64 rows.length)/\∀(i:Nat) v,rows[i]?=some v->∃p,bo U sz sv (.int .i64 i)=some p/\bB U agg sz p=some v
def Reads.ints{U:af}{l:List Int}:Reads U 1 false (.sl 1 (l.map (.int .i64 ·))) (l.map (.int .i64 ·)):=by
 refine⟨rfl,λi v hv=>?_⟩;obtain⟨n,hn,rfl⟩:∃n,l[i]?=some n/\v=.int .i64 n:=by
  rw[qJ]at hv;cases h:l[i]? with
  |none=>simp[h]at hv
  |some n=>simp[h]at hv;exact⟨n,rfl,hv.symm⟩
 refine⟨.rp (.int .i64 n),?_,rfl⟩;simp[bo,hn]
def Reads.own{U:af}{sz id off len:Nat}{ob:Ob}(ho:U id=some ob)(hs:ob.sz=sz)(hl:off+len<=ob.rows.length)(h1:∀r∈ob.rows,r.cells=[r]):
 Reads U sz false (.own id off len) ((ob.rows.drop off).take len):=by
 refine⟨by simp[cW];omega,λi v hv=>?_⟩;have hi:i<len:=by
  have:=(iT.1 hv).1;simp at this;omega
 have hv':ob.rows[off+i]?=some v:=by
  rw[List.getElem?_take,ar hi,L5]at hv;exact hv
 refine⟨.ptr id (off+i) 0,?_,?_⟩
 .simp[bo,ho,hs,hi]
 .simp[bB,ho,hv',h1 v (vM hv')]
def ai{m:Int}(h1:-9223372036854775808<=m:=by omega)(h2:m<=9223372036854775807:=by omega):Yl .i64 m:=by
 unfold Yl;rw[IntKind.wrap_i64];omega
mutual
/-- no row's number in it -/
def V.ct:V->Bool
 |.own ..|.ptr ..|.yl _=>false
 |.sl _ rows=>cd rows
 |.rp v=>v.ct
 |.fn _ caps=>cd caps
 |.bm _ caps=>cd caps
 |.iface _ v=>v.ct
 |.agg c|.P' c=>cd c
 |_=>true
def cd:List V->Bool
 |[]=>true
 |v::vs=>v.ct&&cd vs
end
def au.Aj{P:Program}{f:FuncId}{args:List V}{U:af}{Post Post':V->af->Prop}(h:au P f args U Post)
 (hp:∀r Z',Post r Z'->ak r Z' Post'):au P f args U Post':=⟨h.1,λI w Yf hs hr=>(h.2 I w Yf hs hr).mono λe w' ⟨r,Z',Y',val,h1,h2,h3,h4,h5⟩=>by
 obtain⟨v',Z'',g1,g2,g3⟩:=hp r Z' h2;exact⟨v',Z'',Y',val,h1,g3,h3,h4.drop g1,g2 Y' _ _ _ _ h4 h5⟩⟩
mutual
/-- the same,with each row of its own as one that is only read -/
inductive Fz(U:af)(N:Nat->Prop):V->V->Prop
 |same (v:V) (h:v.ct=true):Fz U N v v
 |own (id off len:Nat) (ob:Ob) (rows:List V) (h1:U id=some ob) (h2:N id) (h3:off+len<=ob.rows.length) (h4:FzL U N ((ob.rows.drop off).take len) rows):
    Fz U N (.own id off len) (.sl ob.sz rows)
 |nil (sz:Nat):Fz U N .aC (.sl sz [])
 |sl (sz:Nat) (rows X6:List V) (h:FzL U N rows X6):Fz U N (.sl sz rows) (.sl sz X6)
 |agg (cs ds:List V) (h:FzL U N cs ds):Fz U N (.agg cs) (.agg ds)
 |P' (cs ds:List V) (h:FzL U N cs ds):Fz U N (.P' cs) (.P' ds)
 |ptr (id i:Nat) (ob:Ob) (r u:V) (h1:U id=some ob) (h2:N id) (h3:ob.rows[i]?=some r) (h4:Fz U N r u):Fz U N (.ptr id i 0) (.rp u)
 |fn (f:FuncId) (cs ds:List V) (h:FzL U N cs ds):Fz U N (.fn f cs) (.fn f ds)
 |bm (f:FuncId) (cs ds:List V) (h:FzL U N cs ds):Fz U N (.bm f cs) (.bm f ds)
 |iface (t:TypeId) (v u:V) (h:Fz U N v u):Fz U N (.iface t v) (.iface t u)
inductive FzL(U:af)(N:Nat->Prop):List V->List V->Prop
 |nil:FzL U N [] []
 |cons (v u:V) (vs us:List V) (h:Fz U N v u) (h':FzL U N vs us):FzL U N (v::vs) (u::us)
end
section
variable {U K:af} {N:Nat->Prop} {I:Mu} {w0 w:World} {Zo:Nat->Prop}
def bn.lift{ow ow':Nat->Prop}{v u:V}{b off:Nat}(hv:∀cs,v≠.agg cs)(hu:∀cs,u≠.agg cs)(h:∀x,E' I ow w v x->E' I ow' w u x)
 (hr:bn I ow w v b off):bn I ow' w u b off:=by
 have e1:∃x,w.cell? ⟨b,off,none⟩=some x/\E' I ow w v x/\x.oneCell'=true:=by
  cases v<;>first|exact absurd rfl (hv _)|simpa only[bn]using hr
 obtain⟨x,h1,h2,h3⟩:=e1;have e2:∃x,w.cell? ⟨b,off,none⟩=some x/\E' I ow' w u x/\x.oneCell'=true:=⟨x,h1,h x h2,h3⟩
 cases u<;>first|exact absurd rfl (hu _)|simpa only[bn]using e2
mutual
def Fz.down(hs:Sat w0 Zo I U w)(hK:aa K U)(hN:∀id,N id->K id=none):∀{v u:V},Fz U N v u->(∀x,E' I (aA I U) w v x->E' I (aA I K) w u x)/\
 (∀b off,bn I (aA I U) w v b off->bn I (aA I K) w u b off)/\u.cells.length=v.cells.length
 |_,_,.same v h=>⟨λx hr=>E'.mono (cC.refl I) (cD.sub w hK) (YQ _) v x hr,λb off hr=>bn.mono (cC.refl I) (cD.sub w hK) (YQ _) v b off rfl hr,rfl⟩
 |_,_,.own id off len ob rows ho h2 hl h4=>by
  have hd:=FzL.down hs hK hN h4;have key:∀x,E' I (aA I U) w (.own id off len) x->E' I (aA I K) w (.sl ob.sz rows) x:=by
   intro x hr;simp only[E']at hr|-;have hlen:rows.length=len:=by rw[hd.2.2.2];simp;omega
   have YV:=hs.obj id ob ho;split at hr
   .exact hr.elim
   .obtain⟨rfl,rfl,rfl⟩:=hr;have:rows=[]:=xz hlen;subst this;exact⟨none,0,by simp,by simp,.inl rfl⟩
   .rename_i b sz cap hb;obtain⟨o,c,rfl,h1,h2',h3,hz⟩:=hr;refine⟨_,c,by rw[hlen],by omega,?_⟩;by_cases h0:len=0
    .left;exact xz (by omega)
    .right;rw[hb]at YV;obtain⟨g1,g2,g3,g4,g5⟩:=YV.rows hz;have ho':o=off*sz:=by
      rcases h3 with h3|h3
      .exact h3
      .omega
     subst ho' g1;refine⟨b,_,rfl,?_,g2,?_⟩
     .rintro⟨ZD,ob',sz',ZT,e1,e2⟩;have:=hs.inj ZD id ob' ob _ _ _ _ _ (hK _ _ e1) ho e2 hb;rw[this,hN id h2]at e1;cases e1
     .have:=(g5.drop off).take len;rw[gY]at this;exact hd.2.2.1 _ _ _ this
  exact⟨key,λb off' hr=>bn.lift (λ_=>by simp) (λ_=>by simp) key hr,rfl⟩
 |_,_,.nil sz=>by
  have key:∀x,E' I (aA I U) w .aC x->E' I (aA I K) w (.sl sz []) x:=λx hr=>by
   simp only[E']at hr|-;exact⟨none,0,by simpa using hr,by simp,.inl trivial⟩
  exact⟨key,λb off' hr=>bn.lift (λ_=>by simp) (λ_=>by simp) key hr,rfl⟩
 |_,_,.sl sz rows X6 h=>by
  have hd:=FzL.down hs hK hN h;have key:∀x,E' I (aA I U) w (.sl sz rows) x->E' I (aA I K) w (.sl sz X6) x:=λx hr=>by
   simp only[E']at hr|-;obtain⟨a,cap,rfl,h1,h2⟩:=hr;refine⟨a,cap,by rw[hd.2.2.2],by rw[hd.2.2.2];exact h1,?_⟩;rcases h2 with h2|⟨b,off,h3,h4,h5,h6⟩
   .left;have:=hd.2.2.2;rw[h2]at this;exact xz this
   .exact .inr ⟨b,off,h3,λho=>h4 (ho.sub hK),h5,hd.2.2.1 _ _ _ h6⟩
  exact⟨key,λb off' hr=>bn.lift (λ_=>by simp) (λ_=>by simp) key hr,rfl⟩
 |_,_,.agg cs ds h=>by
  have hd:=FzL.down hs hK hN h;refine⟨λx hr=>?_,λb off hr=>?_,by simp only[V.cells];exact hd.2.2.2⟩
  .simp only[E']at hr|-;obtain⟨Yf,rfl,h1,h2⟩:=hr;exact⟨Yf,rfl,hd.1 _ h1,h2⟩
  .simp only[bn]at hr|-;exact hd.2.1 _ _ hr
 |_,_,.P' cs ds h=>by
  have hd:=FzL.down hs hK hN h;have key:∀x,E' I (aA I U) w (.P' cs) x->E' I (aA I K) w (.P' ds) x:=λx hr=>by
   simp only[E']at hr|-;obtain⟨Yf,rfl,h1⟩:=hr;exact⟨Yf,rfl,hd.1 _ h1⟩
  exact⟨key,λb off' hr=>bn.lift (λ_=>by simp) (λ_=>by simp) key hr,rfl⟩
 |_,_,.ptr id i ob r u ho h2 hi h4=>by
  have hd:=Fz.down hs hK hN h4;have key:∀x,E' I (aA I U) w (.ptr id i 0) x->E' I (aA I K) w (.rp u) x:=by
   intro x hr;simp only[E']at hr|-;have YV:=hs.obj id ob ho;split at hr
   .rename_i b sz cap hb;obtain⟨rfl,hz⟩:=hr;rw[hb]at YV;obtain⟨g1,g2,g3,g4,g5⟩:=YV.rows hz;obtain⟨e1,e2⟩:=g5.get hi;rw[gY]at e2;have Yx:¬aA I K b:=by
     rintro⟨ZD,ob',sz',ZT,e1,e2⟩;have:=hs.inj ZD id ob' ob _ _ _ _ _ (hK _ _ e1) ho e2 hb;rw[this,hN id h2]at e1;cases e1
    refine⟨b,i*sz,by simp,?_,.inr Yx,hd.2.1 _ _ ((dK _ _ _ _ _ _).2 e2)⟩;cases hc:r.cells with
    |nil=>rw[hc]at e1;simp at e1;omega
    |cons c cs=>
     rw[hc]at e2;simp only[aN]at e2;obtain⟨⟨y,hy,_⟩,_⟩:=e2;exact World.block_lt_of_cell? w _ hy
   .exact hr.elim
  exact⟨key,λb off' hr=>bn.lift (λ_=>by simp) (λ_=>by simp) key hr,rfl⟩
 |_,_,.fn f cs ds h=>by
  have hd:=FzL.down hs hK hN h;have key:∀x,E' I (aA I U) w (.fn f cs) x->E' I (aA I K) w (.fn f ds) x:=λx hr=>by
   simp only[E']at hr|-;obtain⟨Yf,rfl,h1⟩:=hr;exact⟨Yf,rfl,hd.1 _ h1⟩
  exact⟨key,λb off' hr=>bn.lift (λ_=>by simp) (λ_=>by simp) key hr,rfl⟩
 |_,_,.bm f cs ds h=>by
  have hd:=FzL.down hs hK hN h;have key:∀x,E' I (aA I U) w (.bm f cs) x->E' I (aA I K) w (.bm f ds) x:=λx hr=>by
   simp only[E']at hr|-;obtain⟨Yf,rfl,h1⟩:=hr;exact⟨Yf,rfl,hd.1 _ h1⟩
  exact⟨key,λb off' hr=>bn.lift (λ_=>by simp) (λ_=>by simp) key hr,rfl⟩
 |_,_,.iface t v u h=>by
  have hd:=Fz.down hs hK hN h;have key:∀x,E' I (aA I U) w (.iface t v) x->E' I (aA I K) w (.iface t u) x:=λx hr=>by
   simp only[E']at hr|-;obtain⟨y,rfl,h1⟩:=hr;exact⟨y,rfl,hd.1 _ h1⟩
  exact⟨key,λb off' hr=>bn.lift (λ_=>by simp) (λ_=>by simp) key hr,rfl⟩
def FzL.down(hs:Sat w0 Zo I U w)(hK:aa K U)(hN:∀id,N id->K id=none):∀{vs us:List V},FzL U N vs us->(∀l,al I (aA I U) w vs l->al I (aA I K) w us l)/\
 (∀b off,aN I (aA I U) w vs b off->aN I (aA I K) w us b off)/\(∀b off sz,aS I (aA I U) w vs b off sz->aS I (aA I K) w us b off sz)/\us.length=vs.length
 |_,_,.nil=>⟨λl h=>by simpa[al]using h,λ_ _ _=>by simp[aN],λ_ _ _ _=>by simp[aS],rfl⟩
 |_,_,.cons v u vs us h h'=>by
  have hd:=Fz.down hs hK hN h;have hd':=FzL.down hs hK hN h';refine⟨λl hr=>?_,λb off hr=>?_,λb off sz hr=>?_,by simp[hd'.2.2.2]⟩
  .simp only[al]at hr|-;obtain⟨x,xs,rfl,h1,h2⟩:=hr;exact⟨x,xs,rfl,hd.1 _ h1,hd'.1 _ h2⟩
  .simp only[aN]at hr|-;obtain⟨⟨x,h1,h2,h3⟩,h4⟩:=hr;exact⟨⟨x,h1,hd.1 _ h2,h3⟩,hd'.2.1 _ _ h4⟩
  .simp only[aS]at hr|-;exact⟨by rw[hd.2.2];exact hr.1,hd.2.1 _ _ hr.2.1,hd'.2.2.1 _ _ _ hr.2.2⟩
end
def Fz.wk{v u:V}(h:Fz U N v u)(hK:aa K U)(hN:∀id,N id->K id=none):Wk U K v u:=λ_ _ _ _ x hs hr=>(Fz.down hs hK hN h).1 x hr
end
def BB:(((((((type_of%@Fj)/\(type_of%@Gs))/\((type_of%@Fl)/\(type_of%@y6)))/\(((type_of%@u9)/\(type_of%@rb))/\((type_of%@ri)/\(type_of%@tK))))/\((((type_of%@B5)/\(type_of%@tO))/\((type_of%@tY)/\(type_of%@Dg)))/\(((type_of%@Fq)/\(type_of%@zj))/\((type_of%@CQ)/\(type_of%@BU)))))/\(((((type_of%@Fm)/\(type_of%@Bl))/\((type_of%@xd)/\(type_of%@Gw)))/\(((type_of%@BJ)/\(type_of%@CF))/\((type_of%@FK)/\(type_of%@BM))))/\((((type_of%@Uu)/\(type_of%@Us))/\((type_of%@Jj)/\(type_of%@F1)))/\(((type_of%@Kd)/\(type_of%@JE))/\((type_of%@Li)/\((type_of%@Kl)/\(type_of%@Ix)))))))/\((((((type_of%@wR)/\(type_of%@vT))/\((type_of%@Ck)/\(type_of%@vy)))/\(((type_of%@wO)/\(type_of%@vz))/\((type_of%@tZ)/\(type_of%@FG))))/\((((type_of%@Jh)/\(type_of%@JG))/\((type_of%@JU)/\(type_of%@Lf)))/\(((type_of%@xq)/\(type_of%@tF))/\((type_of%@Dt)/\((type_of%@KB)/\(type_of%@Oy))))))/\(((((type_of%@Oj)/\(type_of%@Oa))/\((type_of%@OH)/\(type_of%@DG)))/\(((type_of%@BW)/\(type_of%@Bf))/\((type_of%@Ld)/\(type_of%@Od))))/\((((type_of%@Oc)/\(type_of%@Oo))/\((type_of%@Og)/\(type_of%@Dd)))/\(((type_of%@Cp)/\(type_of%@rv))/\((type_of%@Gf)/\((type_of%@Fx)/\(type_of%@F0))))))))/\(((((((type_of%@yV)/\(type_of%@yA))/\((type_of%@Ok)/\(type_of%@N9)))/\(((type_of%@Tl)/\(type_of%@TU))/\((type_of%@Bp)/\(type_of%@Co))))/\((((type_of%@vk)/\(type_of%@vH))/\((type_of%@Br)/\(type_of%@Gp)))/\(((type_of%@zd)/\(type_of%@Bu))/\((type_of%@yJ)/\(type_of%@zp)))))/\(((((type_of%@rM)/\(type_of%@qR))/\((type_of%@ag)/\(type_of%@GB)))/\(((type_of%@true_implies)/\(type_of%@false_implies))/\((type_of%@implies_true.{0})/\(type_of%@DS))))/\((((type_of%@List.getD_cons_zero.{0})/\(type_of%@List.getD_cons_succ.{0}))/\((type_of%@List.getD_nil.{0})/\(type_of%@List.map_cons.{0,0})))/\(((type_of%@List.map_nil.{0,0})/\(type_of%@List.length_cons.{0}))/\((type_of%@List.length_nil.{0})/\((type_of%@List.drop_succ_cons.{0})/\(type_of%@List.drop_zero.{0})))))))/\((((((type_of%@List.take_succ_cons.{0})/\(type_of%@List.take_zero.{0}))/\((type_of%@List.set_cons_zero.{0})/\(type_of%@List.set_cons_succ.{0})))/\(((type_of%@List.append_nil.{0})/\(type_of%@List.nil_append.{0}))/\((type_of%@List.cons_append.{0})/\(type_of%@List.all_cons.{0}))))/\((((type_of%@List.all_nil.{0})/\(type_of%@List.getElem?_cons_zero.{0}))/\((type_of%@List.getElem?_cons_succ.{0})/\(type_of%@List.contains_cons.{0})))/\(((type_of%@List.contains_nil.{0})/\(type_of%@Option.isSome_some.{0}))/\((type_of%@Option.map_some.{0,0})/\((type_of%@Option.map_none.{0,0})/\(type_of%@true_and))))))/\(((((type_of%@and_true)/\(type_of%@and_self))/\((type_of%@Nat.zero_add)/\(type_of%@Nat.add_zero)))/\(((type_of%@Bool.not_true)/\(type_of%@Bool.not_false))/\((type_of%@Bool.false_eq_true)/\(type_of%@Bool.or_true))))/\((((type_of%@Bool.true_or)/\(type_of%@Bool.or_false))/\((type_of%@Bool.false_or)/\(type_of%@Bool.true_and)))/\(((type_of%@Bool.and_true)/\(type_of%@Bool.and_self))/\((type_of%@decide_true)/\((type_of%@decide_false)/\(type_of%@decide_eq_true_eq)))))))):=
 ⟨⟨⟨⟨⟨⟨⟨@Fj,@Gs⟩,⟨@Fl,@y6⟩⟩,⟨⟨@u9,@rb⟩,⟨@ri,@tK⟩⟩⟩,⟨⟨⟨@B5,@tO⟩,⟨@tY,@Dg⟩⟩,⟨⟨@Fq,@zj⟩,⟨@CQ,@BU⟩⟩⟩⟩,⟨⟨⟨⟨@Fm,@Bl⟩,⟨@xd,@Gw⟩⟩,⟨⟨@BJ,@CF⟩,⟨@FK,@BM⟩⟩⟩,⟨⟨⟨@Uu,@Us⟩,⟨@Jj,@F1⟩⟩,⟨⟨@Kd,@JE⟩,⟨@Li,⟨@Kl,@Ix⟩⟩⟩⟩⟩⟩,⟨⟨⟨⟨⟨@wR,@vT⟩,⟨@Ck,@vy⟩⟩,⟨⟨@wO,@vz⟩,⟨@tZ,@FG⟩⟩⟩,⟨⟨⟨@Jh,@JG⟩,⟨@JU,@Lf⟩⟩,⟨⟨@xq,@tF⟩,⟨@Dt,⟨@KB,@Oy⟩⟩⟩⟩⟩,⟨⟨⟨⟨@Oj,@Oa⟩,⟨@OH,@DG⟩⟩,⟨⟨@BW,@Bf⟩,⟨@Ld,@Od⟩⟩⟩,⟨⟨⟨@Oc,@Oo⟩,⟨@Og,@Dd⟩⟩,⟨⟨@Cp,@rv⟩,⟨@Gf,⟨@Fx,@F0⟩⟩⟩⟩⟩⟩⟩,⟨⟨⟨⟨⟨⟨@yV,@yA⟩,⟨@Ok,@N9⟩⟩,⟨⟨@Tl,@TU⟩,⟨@Bp,@Co⟩⟩⟩,⟨⟨⟨@vk,@vH⟩,⟨@Br,@Gp⟩⟩,⟨⟨@zd,@Bu⟩,⟨@yJ,@zp⟩⟩⟩⟩,⟨⟨⟨⟨@rM,@qR⟩,⟨@ag,@GB⟩⟩,⟨⟨@true_implies,@false_implies⟩,⟨@implies_true.{0},@DS⟩⟩⟩,⟨⟨⟨@List.getD_cons_zero.{0},@List.getD_cons_succ.{0}⟩,⟨@List.getD_nil.{0},@List.map_cons.{0,0}⟩⟩,⟨⟨@List.map_nil.{0,0},@List.length_cons.{0}⟩,⟨@List.length_nil.{0},⟨@List.drop_succ_cons.{0},@List.drop_zero.{0}⟩⟩⟩⟩⟩⟩,⟨⟨⟨⟨⟨@List.take_succ_cons.{0},@List.take_zero.{0}⟩,⟨@List.set_cons_zero.{0},@List.set_cons_succ.{0}⟩⟩,⟨⟨@List.append_nil.{0},@List.nil_append.{0}⟩,⟨@List.cons_append.{0},@List.all_cons.{0}⟩⟩⟩,⟨⟨⟨@List.all_nil.{0},@List.getElem?_cons_zero.{0}⟩,⟨@List.getElem?_cons_succ.{0},@List.contains_cons.{0}⟩⟩,⟨⟨@List.contains_nil.{0},@Option.isSome_some.{0}⟩,⟨@Option.map_some.{0,0},⟨@Option.map_none.{0,0},@true_and⟩⟩⟩⟩⟩,⟨⟨⟨⟨@and_true,@and_self⟩,⟨@Nat.zero_add,@Nat.add_zero⟩⟩,⟨⟨@Bool.not_true,@Bool.not_false⟩,⟨@Bool.false_eq_true,@Bool.or_true⟩⟩⟩,⟨⟨⟨@Bool.true_or,@Bool.or_false⟩,⟨@Bool.false_or,@Bool.true_and⟩⟩,⟨⟨@Bool.and_true,@Bool.and_self⟩,⟨@decide_true,⟨@decide_false,@decide_eq_true_eq⟩⟩⟩⟩⟩⟩⟩⟩
def CC:(∀(l:List V),V.cells (.agg l)=l)/\(V.cells (.undef )=[.undef ])/\(∀(k:IntKind) (i:Int),V.cells (.int k i)=[.int k i])/\(∀(b:Bool),V.cells (.bool b)=[.bool b])/\(∀(s:List UInt8),V.cells (.str s)=[.str s])/\(V.cells (.aC )=[.aC ])/\(∀(a:Nat) (l:List V),V.cells (.sl a l)=[.sl a l])/\(∀(a b c:Nat),V.cells (.own a b c)=[.own a b c])/\(∀(a b c:Nat),V.cells (.ptr a b c)=[.ptr a b c])/\(∀(a:V),V.cells (.rp a)=[.rp a])/\(V.cells (.nilp )=[.nilp ])/\(∀(f:FuncId) (l:List V),V.cells (.fn f l)=[.fn f l])/\(∀(f:FuncId) (l:List V),V.cells (.bm f l)=[.bm f l])/\(V.cells (.YS )=[.YS ])/\(∀(t:TypeId) (a:V),V.cells (.iface t a)=[.iface t a])/\(V.cells (.Yt )=[.Yt ])/\(∀(l:List V),V.cells (.P' l)=[.P' l])/\(∀(x:Value),V.cells (.raw x)=[.raw x])/\(∀(a:Nat),V.cells (.gp a)=[.gp a])/\(∀(a:Nat),V.cells (.yl a)=[.yl a])/\(∀(a:Nat),V.cells (.mp a)=[.mp a])/\(∀(l:List V),V.stays (.agg l)=true)/\(V.stays (.undef )=false)/\(∀(k:IntKind) (i:Int),V.stays (.int k i)=true)/\(∀(b:Bool),V.stays (.bool b)=true)/\(∀(s:List UInt8),V.stays (.str s)=true)/\(V.stays (.aC )=true)/\(∀(a:Nat) (l:List V),V.stays (.sl a l)=true)/\(∀(a b c:Nat),V.stays (.own a b c)=true)/\(∀(a b c:Nat),V.stays (.ptr a b c)=true)/\(∀(a:V),V.stays (.rp a)=true)/\(V.stays (.nilp )=true)/\(∀(f:FuncId) (l:List V),V.stays (.fn f l)=true)/\(∀(f:FuncId) (l:List V),V.stays (.bm f l)=true)/\(V.stays (.YS )=true)/\(∀(t:TypeId) (a:V),V.stays (.iface t a)=true)/\(V.stays (.Yt )=true)/\(∀(l:List V),V.stays (.P' l)=false)/\(∀(a:Nat),V.stays (.gp a)=true)/\(∀(a:Nat),V.stays (.yl a)=true)/\(∀(a:Nat),V.stays (.mp a)=true):=
 ⟨λ_=>rfl,rfl,λ_ _=>rfl,λ_=>rfl,λ_=>rfl,rfl,λ_ _=>rfl,λ_ _ _=>rfl,λ_ _ _=>rfl,λ_=>rfl,rfl,λ_ _=>rfl,λ_ _=>rfl,rfl,λ_ _=>rfl,rfl,λ_=>rfl,λ_=>rfl,λ_=>rfl,λ_=>rfl,λ_=>rfl,λ_=>rfl,rfl,λ_ _=>rfl,λ_=>rfl,λ_=>rfl,rfl,λ_ _=>rfl,λ_ _ _=>rfl,λ_ _ _=>rfl,λ_=>rfl,rfl,λ_ _=>rfl,λ_ _=>rfl,rfl,λ_ _=>rfl,rfl,λ_=>rfl,λ_=>rfl,λ_=>rfl,λ_=>rfl⟩
def XW{p:Prop}[Decidable p]:(!decide p)=decide (¬p):=decide_not.symm
def sR{P:Program}{n:Nat}{todo:List It}{st:St}{Q:St->Prop}(h:step P ZQ.nothing n 300 (.r todo) st Q):ab P n todo st Q:=ab.bg ZQ.nothing 300 h
def sG{P:Program}{n:Nat}{t:Td}{st:St}{Q:St->Prop}(h:step P ZQ.nothing n 300 t st Q):Go P n t st Q:=Go.bg ZQ.nothing 300 t st h
attribute [go_sem] BB CC XW ZQ.nothing aX ez aE dW iS pW v8 fZ ef HH l4 cQ tf mW qT ek lv bS x8 la gj fk eff D8 jH ec sK jP gE lA my MO binBV gX kB
abbrev vI(n:Int):V:=.int .i64 n
structure Sty where
 (top Yv Yj Yc Zp YN YY head before after inside clear:Int)
deriving DecidableEq
def Sty.cells(s:Sty):List V:=[vI s.top,vI s.Yv,vI s.Yj,vI s.Yc,vI s.Zp,vI s.YN,vI s.YY,vI s.head,vI s.before,vI s.after,vI s.inside,vI s.clear]
structure Nd where
 (kind size:Int)
 (st:Sty)
 (line space:Int)
 (words:List Int)
 (side w h:Int)
deriving DecidableEq
def bl(l:List Int):V:=.sl 1 (l.map vI)
def Nd.cells(x:Nd):List V:=[vI x.kind,vI x.size,vI x.st.top,vI x.st.Yv,vI x.st.Yj,vI x.st.Yc,vI x.st.Zp,vI x.st.YN,vI x.st.YY,vI x.st.head,vI x.st.before,vI x.st.after,vI x.st.inside,vI x.st.clear,
 vI x.line,vI x.space,bl x.words,vI x.side,vI x.w,vI x.h]
def jE(x:Nd):V:=.agg x.cells
def mx:Int:=1099511627776
def bc(n a b:Int):Bool:=decide (n>=a/\n<=b)
def Sty.ok(s:Sty):Bool:=bc s.top 0 mx&&bc s.Yv 0 mx&&bc s.Yj 0 mx&&bc s.Yc 0 mx&&bc s.Zp 0 mx&&bc s.YN 1 mx&&bc s.YY 1 mx&&bc s.head 0 mx&&
 bc s.before 0 4&&bc s.after 0 4&&bc s.inside 0 1&&bc s.clear 0 3
def Sty.zero:Sty:=⟨0,0,0,0,0,0,0,0,0,0,0,0⟩
def aH(l:List Nd):V:=.sl 20 (l.map jE)
def eO(l:List Nd):cW false (aH l)=some (.int .i64 l.length):=by simp[aH,cW]
def cu(l:List Nd):(aH l).cells=[aH l]:=rfl
def eL(l:List Nd):(aH l).stays=true:=rfl
variable {P:Program} {n:Nat} {st:St} {Q:St->Prop} {k:List It} {I:Mu} {w w':World}
abbrev gh(o:Obj)(env:List V:=[]):Ob:=⟨0,0,.obj o::env⟩
def Sat.Uc{w0:World}{Zo:Nat->Prop}{U:af}(h:Sat w0 Zo I U w)(o:Obj)(env:List V)(he:al I (aA I U) w env (tmpsOf o)):
 ∃id,U id=none/\∃Y':Mu,Y' id=.Zm w.heap.size 0 0/\cC I Y'/\Sat w0 Zo Y' (C' U id (gh o env)) (w.alloc o)/\cD (aA I U) (aA Y' (C' U id (gh o env))) w (w.alloc o):=by
 obtain⟨id,O',YF,Zg⟩:=h.dr;have hle:cC I (λk=>if k=id then .Zm w.heap.size 0 0 else I k):=λk hk=>by
  have:k≠id:=λe'=>hk (e'▸O');simp[this]
 refine⟨id,YF,λk=>if k=id then .Zm w.heap.size 0 0 else I k,by simp,hle,?_⟩;refine h.put (row:=none) (World.grownBy_alloc w o none) (by simp) hle (Zg _) id (gh o env) (λo' ho=>?_) (λi o' hi ho=>?_) (λb' sz' ZT hb'=>?_) (λhk=>?_)
 .simp[C']at ho;exact ho.symm
 .simp only[C',av hi]at ho;exact⟨ho,by simp⟩
 .simp only[if_true,Pl.Zm.injEq]at hb';exact .inr (by omega)
 .simp only[if_true];exact .inr ⟨rfl,rfl,o,env,rfl,World.alloc_heap_new w o,al.mono hle hk (by simp) _ _ he⟩
def Sat.Uj{w0:World}{Zo:Nat->Prop}{U:af}(h:Sat w0 Zo I U w){id b cap:Nat}{o:Ob}(ho:U id=some o)(O':I id=.Zm b 0 cap)(o':Obj)(env:List V)(he:al I (aA I U) w env (tmpsOf o')):
 Sat w0 Zo I (C' U id (gh o' env)) (w.putObj b o')/\cD (aA I U) (aA I (C' U id (gh o' env))) w (w.putObj b o'):=by
 have H':b<w.heap.size:=aA.lt h ⟨id,o,0,cap,ho,O'⟩;refine h.put (grownBy_putObj' w b o') (λb' hb'=>by cases hb';exact⟨id,o,0,cap,ho,O'⟩) (cC.refl _) h.fin id (gh o' env) (λx YD=>by simp[C']at YD;exact YD.symm)
  (λi x hi YD=>?_) (λb' sz' ZT hb'=>?_) (λhk=>?_)
 .simp only[C',av hi]at YD;refine⟨YD,λb' sz' ZT h4 h5=>hi ?_⟩;cases h5;exact h.inj i id x o _ _ _ _ _ YD ho h4 O'
 .rw[O']at hb';cases hb';exact .inl rfl
 .rw[O'];exact .inr ⟨rfl,rfl,o',env,rfl,World.putObj_heap_same H',al.mono (cC.refl _) hk (by simp) _ _ he⟩
def Sat.No{w0:World}{Zo:Nat->Prop}{U:af}(h:Sat w0 Zo I U w){id b cap:Nat}{o:Obj}{env:List V}(ho:U id=some (gh o env))(O':I id=.Zm b 0 cap):w.heap[b]?=some o/\al I (aA I U) w env (tmpsOf o):=by
 have:=h.obj id _ ho;rw[O']at this;rcases this with⟨_,_,_,h1,_⟩|⟨_,_,ob,env',h1,h2,h3⟩
 .omega
 .simp only[List.cons.injEq,V.obj.injEq]at h1;obtain⟨rfl,rfl⟩:=h1;exact⟨h2,h3⟩
variable {P:Program} {n:Nat} {st:St} {Q:St->Prop} {k:List It} {I:Mu} {w w':World}
def Sat.compose{w0:World}{Zo:Nat->Prop}{I Y':Mu}{U Z':af}(h0:Sat w0 Zo I U w)(Ye:Sat w (aA I U) Y' Z' w'):
 Sat w0 Zo Y' Z' w'/\cD (aA I U) (aA Y' Z') w w':=by
 have ZI:cD (aA I U) (aA Y' Z') w w':=λb hb hn=>⟨λho=>hn (Ye.fresh b ho hb),Ye.same b hb hn⟩
 refine⟨⟨jI h0.size Ye.size,Ye.os.trans h0.os,Ye.tape.trans h0.tape,Ye.output.trans h0.output,?_,Ye.fin,Ye.inj,Ye.obj,?_,h0.glob⟩,ZI⟩
 .intro b hb hn;have h1:¬aA I U b:=λho=>hn (h0.fresh b ho hb);exact(Ye.same b (Nat.lt_of_lt_of_le hb h0.size) h1).trans (h0.same b hb hn)
 .intro b hb H';exact h0.fresh b (Ye.fresh b hb (Nat.lt_of_lt_of_le H' h0.size)) H'
def Sat.here{w0:World}{Zo:Nat->Prop}{U:af}(h:Sat w0 Zo I U w):Sat w (aA I U) I U w:=
 ⟨YQ _,rfl,rfl,rfl,λ_ _ _=>rfl,h.fin,h.inj,h.obj,λb hb _=>hb,h.nK⟩
def YC(P:Program)(Yp:Nat)(x:List V)(U:af)(Post:Bool->af->Prop):Prop:=
 ∀I w Yf l c,I Yp=.Zm l 0 c->Sat w (aA I U) I U w->al I (aA I U) w x Yf->
  YieldAt Fence.wide 0 P l Yf.toArray w λe w'=>∃b Z' Y',e=.returned (.bool b)/\Post b Z'/\cC I Y'/\Sat w (aA I U) Y' Z' w'
def yj{F:Fr}{m m':Nat}{l:Nat}{f:FuncId}{tmps:Array Value}{assign body:Code}{R:Ending->World->Prop}
 (h:RoundIn Fence.wide m P l f tmps assign body w R):RoundIn F.dV m' P l f tmps assign body w R:=
 ⟨trivial,λc cs _=>h.2 c cs (room_wide _)⟩
def ab.nb{i:az}{l:List az}{fx:VX}{xs:List VX}(hw:aQ st.s i.g=some true)(ho:i.op=.call fx xs){Yp:Nat}(hf:fx.ev st.s=.yl Yp)
 {Post:Bool->af->Prop}(hc:YC P Yp (xs.map (·.ev st.s)) st.U Post)
 (h:∀b Z',Post b Z'->ab P n (.ops l::k) ⟨aO st.s i.dst (.bool b),Z'⟩ Q):ab P n (.ops (i::l)::k) st Q:=by
 refine ab.Ov hw λF hn I a w o all hi hs next Q' X7=>?_
 subst hn;obtain⟨X9,hd⟩:=bZ hi;rw[ho]at X9;obtain⟨f0,args,argTypes,g1,rfl,rfl⟩:=lX X9;have hfr:=bH hs f0;rw[hf]at hfr;simp only[E']at hfr;split at hfr
 .rename_i lb c O';have YE:=mC hs args.toList;obtain⟨fn,tmps,assign,body,hy,hR⟩:=hc I w _ lb c O' hs.sat.here YE;have Yw:(execOp a.eval o).run P w=.ok (.round lb fn tmps assign body) w:=by
   unfold execOp;rw[g1];simp only[resolve,hfr,Deferred.ofValue,Sem.run_bind,Sem.run_pure,Result.andThen_ok,invoke];rw[<-hy];congr 2;apply Array.ext';simp
  refine⟨λ_ _=>trivial,?_⟩;rw[Oper.semAt_eq _ _ _ (by rw[g1];intro c e;cases e),Yw];refine⟨lq F,yj (hR.mono ?_)⟩;rintro e w' ⟨b,Z',Y',rfl,hp,hle,Ye⟩;obtain⟨h1,h2⟩:=hs.sat.compose Ye;refine X7 _ _ _ ⟨Y',?_⟩ (h b Z' hp);rw[<-hd];exact hs.step h1 hle h2 Ye.size (by simp[E'])
 .exact hfr.elim
def aT(ZJ U Yr Z':af):Prop:=aa Yr Z'/\∀id o,ZJ id=none->U id=some o->Z' id=some o/\Yr id=none
def aT.refl{ZJ U:af}(h:aa ZJ U):aT ZJ U ZJ U:=⟨h,λ_ _ h1 h2=>⟨h2,h1⟩⟩
def aT.set{ZJ U Yr Z':af}(h:aT ZJ U Yr Z'){id:Nat}{o o':Ob}(O':Yr id=some o):aT ZJ U (C' Yr id o') (C' Z' id o'):=
 ⟨h.1.Qb,λi x h1 h2=>by
  obtain⟨h3,h4⟩:=h.2 i x h1 h2;have:i≠id:=λe=>by rw[e,O']at h4;cases h4
  simp[Vc.C',this,h3,h4]⟩
def aT.new{ZJ U Yr Z':af}(h:aT ZJ U Yr Z'){id:Nat}{o:Ob}(O':Z' id=none):aT ZJ U (C' Yr id o) (C' Z' id o):=
 ⟨h.1.Qb,λi x h1 h2=>by
  obtain⟨h3,h4⟩:=h.2 i x h1 h2;have:i≠id:=λe=>by rw[e,O']at h3;cases h3
  simp[Vc.C',this,h3,h4]⟩
def aT.rU{ZJ U Yr Z':af}(h:aT ZJ U Yr Z'){id:Nat}{o:Ob}(O':Z' id=none):aT ZJ U Yr (C' Z' id o):=
 ⟨h.1.trans (aa.C' (aa.refl _) O'),λi x h1 h2=>by
  obtain⟨h3,h4⟩:=h.2 i x h1 h2;have:i≠id:=λe=>by rw[e,O']at h3;cases h3
  simp[Vc.C',this,h3,h4]⟩
def Iter(P:Program)(g:FuncId)(caps:List V)(xs:List (List V)):Prop:=
 bV P g=true/\∀(Yp:Nat) (τ Jx:List (List V)->af->Prop) (Z0:af),
  (∀pre x post ZJ U,xs=pre++x::post->τ pre ZJ->aa ZJ U->
    YC P Yp x U λb Z'=>∃Yr,aT ZJ U Yr Z'/\((b=true/\τ (pre++[x]) Yr)\/(b=false/\Jx (pre++[x]) Yr)))->
  τ [] Z0->uh P g (.yl Yp::caps) Z0 λ_ Z'=>τ xs Z'\/∃pre,pre <+: xs/\Jx pre Z'
variable {P:Program} {n:Nat} {st:St} {Q:St->Prop} {k:List It} {I:Mu} {w w':World}
def kW(s:Nat->V):List Nat->List V->Nat->V
 |p::ps,x::xs=>kW (λi=>if i=p then x else s i) ps xs
 |_,_=>s
def exK:List (Nat×(St->Prop))->List It
 |[]=>[]
 |(id,μ)::l=>.inBlock id::.stop μ::exK l
def F4{U Z':af}{id:Nat}(h:aa U Z'):aa (del U id) (del Z' id):=λi o e=>by
 unfold del at e|-;split at e
 .cases e
 .rename_i hi;rw[av hi];exact h i o e
def Sat.more{w0:World}{Zo:Nat->Prop}{U:af}(h:Sat w0 Zo I U w)(o:Obj):Sat w0 Zo I U (w.alloc o)/\cD (aA I U) (aA I U) w (w.alloc o):=by
 have ZZ:∀b,b<w.heap.size->(w.alloc o).heap[b]?=w.heap[b]?:=λb hb=>Go.RowKit.Below.heap_alloc w o b hb;have hk:cD (aA I U) (aA I U) w (w.alloc o):=λb hb hn=>⟨hn,ZZ b hb⟩
 refine⟨⟨by have:=h.size;simp;omega,h.os,h.tape,h.output,λb hb hn=>(ZZ b (Nat.lt_of_lt_of_le hb h.size)).trans (h.same b hb hn),h.fin,h.inj,λid ob ho=>?_,h.fresh,h.glob⟩,hk⟩;exact(h.obj id ob ho).mono (cC.refl I) hk (by simp) λb sz cap hp=>ZZ b (aA.lt h ⟨id,ob,sz,cap,ho,hp⟩)
def cI.enter{F:Fr}{a:Act}(hs:cI F I st a w)(fn:FuncId)(ps:Array Tmp)(assign body:Code):
 ∃mark W0 D,cI F I st { a with defers:=mark++a.defers } W0/\(Instr.enterLoop fn a.tmps ps assign body F.dV.round).run P w=
  .ok (W0.heap.size,mark) (W0.alloc (.loop { state:=.ready,pending:=none,fn,tmps:=a.tmps,params:=ps,assign,body,defers:=D })):=by
 cases hrd:F.rd with
 |some lr=>
  obtain⟨l0,r0⟩:=lr;obtain⟨h1,_⟩:=hs.book.rnd l0 r0 hrd;refine⟨[],w,r0.defers,hs,?_⟩;have:F.dV.round=some l0:=by simp[Fr.dV,hrd]
  rw[this];exact run_enterLoop_inner h1 fn a.tmps ps assign body
 |none=>
  have:F.dV.round=none:=by simp[Fr.dV,hrd]
  rw[this];refine⟨[{ target:=.collected w.heap.size,args:=#[] }],w.alloc (.deferred (some [])),w.heap.size,?_,?_⟩
  .obtain⟨h1,hk⟩:=hs.sat.more (.deferred (some []));have hb:=hs.book.gJ hk;refine⟨h1,hs.le,hs.size,⟨hb.rnd,?_⟩,λi hi=>E'.mono (cC.refl I) hk (by simp) _ _ (hs.slot i hi)⟩;obtain⟨Ds,g1,g2,g3⟩:=hb.marks;obtain⟨Ds',g1',g2',g3'⟩:=hs.book.marks;refine⟨w.heap.size::Ds',by simp[g1'],?_,?_⟩
   .refine List.nodup_cons.2 ⟨λhin=>?_,g2'⟩;have:=(nN.1 (g3' _ hin).2.1).1;omega
   .intro D hD;simp only[cg]at hD;rcases hD with rfl|hD
    .refine⟨hs.sat.size,World.alloc_heap_new w _,λho=>?_⟩;have:=aA.lt hs.sat ho;omega
    .obtain⟨q1,q2,q3⟩:=g3' D hD;have H':=(nN.1 q2).1;exact⟨q1,(hk D H' q3).2.trans q2,q3⟩
  .rw[run_enterLoop_outer];simp
def HX(ps:List Nat):∀(xs:List Value) (t:Array Value) (vs:List V) (s:Nat->V) {ow:Nat->Prop} (m:Nat),t.size=m->al I ow w vs xs->vs.length=ps.length->
 (∀i,i<m->E' I ow w (s i) (t.getD i undef))->
 ((ps.zip xs).foldl (λt (p,v)=>t.setIfInBounds p v) t).size=m/\∀i,i<m->E' I ow w (kW s ps vs i) (((ps.zip xs).foldl (λt (p,v)=>t.setIfInBounds p v) t).getD i undef):=by
 induction ps with
 |nil=>intro xs t vs s ow m ht _ _ hi;exact⟨by simpa using ht,by simpa[kW]using hi⟩
 |cons p ps ih=>
  intro xs t vs s ow m ht hv hl hi;cases vs with
  |nil=>simp at hl
  |cons v vs=>
   simp only[al]at hv;obtain⟨x,xs',rfl,h1,h2⟩:=hv;simp only[List.zip_cons_cons,j5,kW];refine ih xs' (t.setIfInBounds p x) vs _ m (by simp[ht]) h2 (by simpa using hl) λi H'=>?_;by_cases hip:i=p
   .subst hip;rw[ar rfl,Zq7,Array.getElem?_setIfInBounds_self_of_lt (by omega)];exact h1
   .rw[av hip,Zq7,Array.getElem?_setIfInBounds_ne (λe=>hip e.symm),<-Zq7];exact hi i H'
variable {P:Program} {n:Nat} {st:St} {Q:St->Prop} {k:List It} {I:Mu} {w w':World}
def w9{b:Nat}{o o':Obj}(h:w.heap[b]?=some o)(hc:∀off x,w.cell? ⟨b,off,none⟩≠some x):
 (∀b',b'≠b->(w.putObj b o').heap[b']?=w.heap[b']?)/\∀(ow:Nat->Prop),sd ow ow w (w.putObj b o'):=by
 have YA:∀b',b'≠b->(w.putObj b o').heap[b']?=w.heap[b']?:=λb' hb=>World.putObj_heap_other hb;refine⟨YA,λow b' _ hn=>⟨hn,λoff x hx=>?_⟩⟩;by_cases hb:b'=b
 .subst hb;exact absurd hx (hc off x)
 .exact eh (YA b' hb) off x hx
def lD{b:Nat}{r:Loop}(h:w.heap[b]?=some (.loop r)):∀off x,w.cell? ⟨b,off,none⟩≠some x:=λoff x=>by simp[World.cell?,h]
def cI.Wi{F F':Fr}{a:Act}{l:Nat}{r r':Loop}(hs:cI F I st a w)(hF:F.rd=some (l,r))(hF':F'={ F with rd:=some (l,r') })(hl:l<F.w0.heap.size->F.Zo l):
 cI F' I st a (w.putObj l (.loop r')):=by
 subst hF';obtain⟨h1,h2⟩:=hs.book.rnd l r hF;obtain⟨YA,hk⟩:=w9 (o':=.loop r') h1 (lD h1);have hk:=hk (aA I st.U);have hz:w.heap.size<=(w.putObj l (.loop r')).heap.size:=by simp
 have H':=(nN.1 h1).1;refine⟨⟨by simpa using hs.sat.size,hs.sat.os,hs.sat.tape,hs.sat.output,λb hb hn=>?_,hs.sat.fin,hs.sat.inj,λid o ho=>?_,hs.sat.fresh,hs.sat.glob⟩,hs.le,hs.size,⟨λl' r'' e=>?_,?_⟩,λi hi=>E'.bM (cC.refl I) hk hz _ _ (hs.slot i hi)⟩
 .by_cases hb':b=l
  .subst hb';exact absurd (hl hb) hn
  .exact(YA b hb').trans (hs.sat.same b hb hn)
 .refine(hs.sat.obj id o ho).bM (cC.refl I) hk hz λb sz cap hp=>YA b ?_;rintro rfl;exact h2 ⟨id,o,sz,cap,ho,hp⟩
 .simp only[aB,Prod.mk.injEq]at e;obtain⟨rfl,rfl⟩:=e;exact⟨World.putObj_heap_same H',h2⟩
 .obtain⟨Ds,g1,g2,g3⟩:=hs.book.marks;refine⟨Ds,g1,g2,λD hD=>?_⟩;obtain⟨q1,q2,q3⟩:=g3 D hD;refine⟨q1,(YA D ?_).trans q2,q3⟩;rintro rfl;rw[h1]at q2;cases q2
def Sat.PG{w0:World}{Zo:Nat->Prop}{U:af}(h:Sat w0 Zo I U w){Yp l c:Nat}(YF:U Yp=none)(O':I Yp=.Zm l 0 c)(Yx:¬aA I U l){r:Loop}(hr:w.heap[l]?=some (.loop r))
 (hl:l<w0.heap.size->Zo l)(o:Obj)(env:List V)(he:al I (aA I U) w env (tmpsOf o)):Sat w0 Zo I (C' U Yp (gh o env)) (w.putObj l o):=by
 obtain⟨YA,_⟩:=w9 (o':=o) hr (lD hr);have H':=(nN.1 hr).1;have hz:w.heap.size<=(w.putObj l o).heap.size:=by simp
 have hown:∀b,aA I (C' U Yp (gh o env)) b->aA I U b\/b=l:=by
  rintro b ⟨id,ob,sz,cap,h1,h2⟩;by_cases e:id=Yp
  .subst e;rw[O']at h2;cases h2;exact .inr rfl
  .rw[ae e]at h1;exact .inl ⟨id,ob,sz,cap,h1,h2⟩
 have hk:sd (aA I U) (aA I (C' U Yp (gh o env))) w (w.putObj l o):=λb ⟨off,x,hx⟩ hn=>by
  have ZE:b≠l:=by rintro rfl;exact lD hr off x hx
  exact⟨λho=>(hown b ho).elim hn ZE,eh (YA b ZE)⟩
 refine⟨by simpa using h.size,h.os,h.tape,h.output,λb hb hn=>?_,h.fin,?_,?_,?_,h.glob⟩
 .by_cases hb':b=l
  .subst hb';exact absurd (hl hb) hn
  .exact(YA b hb').trans (h.same b hb hn)
 .intro id ZD ob ob' b sz cap sz' ZT h1 h2 h3 h4;by_cases e:id=Yp<;>by_cases e':ZD=Yp
  .rw[e,e']
  .exfalso;subst e;rw[O']at h3;cases h3;rw[ae e']at h2;exact Yx ⟨ZD,ob',sz',ZT,h2,h4⟩
  .exfalso;subst e';rw[O']at h4;cases h4;rw[ae e]at h1;exact Yx ⟨id,ob,sz,cap,h1,h3⟩
  .rw[ae e]at h1;rw[ae e']at h2;exact h.inj id ZD ob ob' b sz cap sz' ZT h1 h2 h3 h4
 .intro id ob ho;by_cases e:id=Yp
  .subst e;rw[ag]at ho;cases ho;rw[O'];exact .inr ⟨rfl,rfl,o,env,rfl,World.putObj_heap_same H',al.bM (cC.refl I) hk hz _ _ he⟩
  .rw[ae e]at ho;refine(h.obj id ob ho).bM (cC.refl I) hk hz λb sz cap hp=>YA b ?_;rintro rfl;exact Yx ⟨id,ob,sz,cap,ho,hp⟩
 .intro b hb hlt';rcases hown b hb with h1|h1
  .exact h.fresh b h1 hlt'
  .subst h1;exact hl hlt'
variable {P:Program} {n:Nat} {st:St} {Q:St->Prop} {k:List It} {I:Mu} {w w':World}
def BP:List (Nat×(St->Prop))->List KI
 |[]=>[]
 |(id,μ)::l=>.inBlock id::.stop μ::BP l
def Gi:∀(l:List (Nat×(St->Prop))),(BP l).map (KI.it P n)=exK l
 |[]=>rfl
 |(id,μ)::l=>by simp[BP,exK,KI.it,Gi l]
def iY{F:Fr}{e:Exit}{a:Act}(he:e≠.normal):∀(l:List (Nat×(St->Prop))),ku P F Q (BP l) e a w->
 (e=.ret/\∃st,Q st/\ee F st a w)\/∃id μ,(id,μ)∈l/\e=.exit id/\∃st,μ st/\ee F st a w
 |[],h=>.inl ⟨h.1.resolve_left he,h.2⟩
 |(id,μ)::l,h=>by
  have h:Exit.inBlock id (ku P F Q (.stop μ::BP l)) e a w:=h;have up:ku P F Q (BP l) e a w->_:=iY he l;have go:ku P F Q (BP l) e a w->(e=.ret/\∃st,Q st/\ee F st a w)\/∃ZD I',(ZD,I')∈(id,μ)::l/\e=.exit ZD/\∃st,I' st/\ee F st a w:=λh=>by
   rcases up h with h|⟨i,I',h1,h2⟩
   .exact .inl h
   .exact .inr ⟨i,I',by simp[h1],h2⟩
  cases e with
  |normal=>exact absurd rfl he
  |exit j=>
   simp only[Exit.inBlock]at h;by_cases hj:j=id
   .rw[ar hj]at h;exact .inr ⟨id,μ,by simp,by rw[hj],h⟩
   .rw[av hj]at h;exact go h
  |_=>exact go h
def KP:Option Nat->Code
 |none=>.ret
 |some id=>.exit id
def JK{rec:Loop}(hready:rec.state=.ready)(hpend:rec.pending=none)(htm:rec.tmps.size=n){s:Nat->V}{Yp:Nat}{x:List V}{ZJ U:af}
 (hx:x.length=rec.params.toList.length)(ZO:ZJ Yp=some (gh (.loop rec) ((List.range n).map s)))(G':aa ZJ U)
 (Jn:af->Prop)(exits:List Nat)(Jx:Option Nat->af->Prop)
 (hb:ab P n [.code (cY P n rec.assign),.stop λst1=>ab P n (.code (cY P n rec.body)::.stop (λst2=>∃Z2,aT (del ZJ Yp) (del U Yp) Z2 st2.U/\Jn Z2)::
   exK (exits.map λid=>(id,λst2=>∃Z2,aT (del ZJ Yp) (del U Yp) Z2 st2.U/\Jx (some id) Z2))) st1 (λst2=>∃Z2,aT (del ZJ Yp) (del U Yp) Z2 st2.U/\Jx none Z2)]
   ⟨kW s rec.params.toList x,del U Yp⟩ (λ_=>False)):
 YC P Yp x U λb Z'=>∃Yr,aT ZJ U Yr Z'/\((b=true/\Yr Yp=some (gh (.loop rec) ((List.range n).map s))/\Jn (del Yr Yp))\/
  (b=false/\∃e:Option Nat,Yr Yp=some (gh (.loop { rec with state:=.done,pending:=some (KP e) }) ((List.range n).map s))/\Jx e (del Yr Yp)/\∀id,e=some id->id∈exits)):=by
 intro Y3 w3 Yf l c O' hsat hrep;have YF:=G' _ _ ZO;obtain⟨hl,henv⟩:=hsat.No YF O';have hvl:Yf.length=rec.params.toList.length:=by rw[<-hx];exact hrep.length
 have hy:=run_yield (P:=P) (args:=Yf.toArray) hl (by simpa using hvl);have Yx:¬aA Y3 (del U Yp) l:=by
  rintro⟨id,o,sz,cap,h1,h2⟩;have:=hsat.inj id Yp o _ l sz cap 0 c (aa.qk U Yp id o h1) YF h2 O';subst this;simp[del]at h1
 have hks:cD (aA Y3 U) (aA Y3 (del U Yp)) w3 w3:=cD.sub w3 (aa.qk U Yp);have hslots:∀i,i<n->E' Y3 (aA Y3 (del U Yp)) w3 (s i) (rec.tmps.getD i undef):=λi hi=>by
  have hv:((List.range n).map s)[i]?=some (s i):=by simp[hi]
  obtain⟨y,h1,h2⟩:=henv.get hv;have:rec.tmps.getD i undef=y:=by
   simp only[tmpsOf]at h1;rw[Zq7,<-Array.getElem?_toList,h1];rfl
  rw[this];exact E'.mono (cC.refl _) hks (YQ _) _ _ h2
 obtain⟨hg1,hg2⟩:=HX rec.params.toList Yf rec.tmps x s n htm (al.mono (cC.refl _) hks (YQ _) _ _ hrep) hx hslots;have hzip:(rec.params.zip Yf.toArray).foldl (λtmps (t,a)=>tmps.setIfInBounds t a) rec.tmps=(rec.params.toList.zip Yf).foldl (λt (p,v)=>t.setIfInBounds p v) rec.tmps:=by
  rw[<-Array.foldl_toList,Array.toList_zip]
 rw[hzip]at hy;refine⟨rec.fn,_,rec.assign,rec.body,hy,roundIn_of_wpIn (F:=Fence.wide) trivial ?_⟩;have ZM:cI ⟨w3,aA Y3 U,Y3,n,some (l,rec)⟩ Y3 ⟨kW s rec.params.toList x,del U Yp⟩ { tmps:=(rec.params.toList.zip Yf).foldl (λt (p,v)=>t.setIfInBounds p v) rec.tmps,defers:=[] } w3:=by
  refine⟨hsat.drop (aa.qk U Yp),cC.refl _,hg1,⟨λl' r' e=>?_,[],rfl,.nil,by simp⟩,hg2⟩;simp only[aB,Prod.mk.injEq]at e;obtain⟨rfl,rfl⟩:=e;exact⟨hl,Yx⟩
 have h1:=hb ⟨w3,aA Y3 U,Y3,n,some (l,rec)⟩ rfl [.code rec.assign,.stop _] rfl _ w3 ⟨Y3,ZM⟩;refine wpIn_mono (F:=Fence.wide.inRound l) h1 ?_;intro e a1 w1 h;cases e with
 |normal=>
  obtain⟨st1,hI,X4,hs4⟩:=h;have hpk:=hs4.Wi (F':=⟨w3,aA Y3 U,Y3,n,some (l,{ rec with state:=.busy })⟩) (r':={ rec with state:=.busy }) rfl rfl (λ_=>⟨Yp,_,0,c,YF,O'⟩);refine⟨_,run_beginRound (hs4.book.rnd l rec rfl).1 hready,?_⟩;have h2:=hI ⟨w3,aA Y3 U,Y3,n,some (l,{ rec with state:=.busy })⟩ rfl (.code rec.body::.stop _::BP _) (by simp only[dS,Gi];rfl) a1 _ ⟨X4,hpk⟩;refine wpIn_mono (F:=Fence.wide.inRound l) h2 ?_;have fin:∀(st2:St) (a2:Act) (w2:World) (jump:Option Code) (Z2:af),ee ⟨w3,aA Y3 U,Y3,n,some (l,{ rec with state:=.busy })⟩ st2 a2 w2->aT (del ZJ Yp) (del U Yp) Z2 st2.U->
   ∃v w'',(Instr.endRound l jump).run P w2=.ok v w''/\v=.bool jump.isNone/\∃Z' Y' Yr,cC Y3 Y'/\Sat w3 (aA Y3 U) Y' Z' w''/\aT ZJ U Yr Z'/\
    Yr Yp=some (gh (.loop { rec with state:=if jump.isNone then .ready else .done,pending:=jump }) ((List.range n).map s))/\del Yr Yp=Z2:=by
   rintro st2 a2 w2 jump Z2 ⟨X5,hs5⟩ ZU;obtain⟨q1,q2⟩:=hs5.book.rnd l _ rfl;have hid5:X5 Yp=.Zm l 0 c:=(hs5.le Yp (show Y3 Yp≠.dr by rw[O'];simp)).trans O';have hn5:st2.U Yp=none:=by
    cases h:st2.U Yp with
    |none=>rfl
    |some o=>exact absurd ⟨Yp,o,0,c,h,hid5⟩ q2
   have hk5:cD (aA Y3 U) (aA X5 st2.U) w3 w2:=λb hb hn=>⟨λho=>hn (hs5.sat.fresh b ho hb),hs5.sat.same b hb hn⟩
   have henv5:=al.mono hs5.le hk5 hs5.sat.size _ _ henv;have hn2:Z2 Yp=none:=by
    cases h:Z2 Yp with
    |none=>rfl
    |some o=>have:=ZU.1 Yp o h;rw[hn5]at this;cases this
   refine⟨_,_,run_endRound (P:=P) jump q1,rfl,C' st2.U Yp (gh (.loop { rec with state:=if jump.isNone then .ready else .done,pending:=jump }) ((List.range n).map s)),X5,
    C' Z2 Yp (gh (.loop { rec with state:=if jump.isNone then .ready else .done,pending:=jump }) ((List.range n).map s)),hs5.le,?_,⟨ZU.1.Qb,λi o h1 h2=>?_⟩,ag,FF hn2⟩
   .exact hs5.sat.PG hn5 hid5 q2 q1 (λ_=>⟨Yp,_,0,c,YF,O'⟩) _ _ henv5
   .have YA:i≠Yp:=λe=>by rw[e,ZO]at h1;cases h1
    obtain⟨g1,g2⟩:=ZU.2 i o (by rw[bR YA];exact h1) (by rw[bR YA];exact h2);rw[ae YA,ae YA];exact⟨g1,g2⟩
  intro e a2 w2 h;cases e with
  |normal=>
   obtain⟨st2,⟨Z2,ZU,hj⟩,hs2⟩:=h;obtain⟨v,w'',g1,rfl,Z',Y',Yr,g2,g3,g4,g5,g6⟩:=fin st2 a2 w2 none Z2 hs2 ZU;refine⟨_,w'',g1,true,Z',Y',rfl,⟨Yr,g4,.inl ⟨rfl,?_,by rw[g6];exact hj⟩⟩,g2,g3⟩;rw[g5];have:({ rec with state:=.ready,pending:=none }:Loop)=rec:=by rw[<-hready,<-hpend]
   simp[this]
  |ret=>
   rcases iY (by simp) _ h with⟨_,st2,⟨Z2,ZU,hj⟩,hs2⟩|⟨_,_,_,h,_⟩
   .obtain⟨v,w'',g1,rfl,Z',Y',Yr,g2,g3,g4,g5,g6⟩:=fin st2 a2 w2 (some .ret) Z2 hs2 ZU;exact⟨_,w'',g1,false,Z',Y',rfl,⟨Yr,g4,.inr ⟨rfl,none,g5,by rw[g6];exact hj,by simp⟩⟩,g2,g3⟩
   .cases h
  |exit id=>
   rcases iY (by simp) _ h with⟨h,_⟩|⟨ZD,μ,hin,h,st2,hI2,hs2⟩
   .cases h
   .cases h;simp only[gg,Prod.mk.injEq]at hin;obtain⟨id'',hin',rfl,rfl⟩:=hin;obtain⟨Z2,ZU,hj⟩:=hI2;obtain⟨v,w'',g1,rfl,Z',Y',Yr,g2,g3,g4,g5,g6⟩:=fin st2 a2 w2 (some (.exit id'')) Z2 hs2 ZU;exact⟨_,w'',g1,false,Z',Y',rfl,⟨Yr,g4,.inr ⟨rfl,some id'',g5,by rw[g6];exact hj,by simp[hin']⟩⟩,g2,g3⟩
  |goto t=>rcases iY (by simp) _ h with⟨h,_⟩|⟨_,_,_,h,_⟩<;>cases h
  |panic ch=>rcases iY (by simp) _ h with⟨h,_⟩|⟨_,_,_,h,_⟩<;>cases h
  |outgrown=>rcases iY (by simp) _ h with⟨h,_⟩|⟨_,_,_,h,_⟩<;>cases h
 |ret=>exact h.2.choose_spec.1.elim
 |exit id=>rcases h.1 with h|h<;>cases h
 |goto t=>rcases h.1 with h|h<;>cases h
 |panic ch=>rcases h.1 with h|h<;>cases h
 |outgrown=>rcases h.1 with h|h<;>cases h
variable {P:Program} {n:Nat} {st:St} {Q:St->Prop} {k:List It} {I:Mu} {w w':World}
def yr{a:Act}{g:Operand}{l:Nat}{f:FuncId}{cv:List Value}(h:a.eval g=.func (.func f) #[] ⟨cv⟩):
 (resolve a.eval (rangeCall g l) 0).run P w=.ok { target:=.fn (.func f) ⟨cv⟩,args:=#[.func (.yield l) #[] #[]] } w:=by
 simp only[resolve,h,Deferred.ofValue];simp[go_sem]
def ab.Nw{g:VX}{ps:List Nat}{A B:bf}{gf:FuncId}{caps:List V}(hg:g.ev st.s=.fn gf caps){xs:List (List V)}{Z0:af}(hs00:aa Z0 st.U)
 (hit:bV P gf=true/\∀(Yp:Nat) (τ Jx:List (List V)->af->Prop) (o:Ob),st.U Yp=none->
   (∀pre x post ZJ U,xs=pre++x::post->τ pre ZJ->aa ZJ U->
     YC P Yp x U λb Z'=>∃Yr,aT ZJ U Yr Z'/\((b=true/\τ (pre++[x]) Yr)\/(b=false/\Jx (pre++[x]) Yr)))->
   τ [] (C' Z0 Yp o)->uh P gf (.yl Yp::caps) (C' st.U Yp o) λ_ Z'=>τ xs Z'\/∃pre,pre <+: xs/\Jx pre Z')
 (hlen:∀x∈xs,x.length=ps.length)(exits:List Nat)(τ:List (List V)->af->Prop)(Jx:Option Nat->List (List V)->af->Prop)(h0:τ [] Z0)
 (hbody:∀pre x post ZJ U,xs=pre++x::post->τ pre ZJ->aa ZJ U->
   ab P n [.code A,.stop λst1=>ab P n (.code B::.stop (λst2=>∃Z2,aT ZJ U Z2 st2.U/\τ (pre++[x]) Z2)::
    exK (exits.map λid=>(id,λst2=>∃Z2,aT ZJ U Z2 st2.U/\Jx (some id) (pre++[x]) Z2))) st1 (λst2=>∃Z2,aT ZJ U Z2 st2.U/\Jx none (pre++[x]) Z2)]
    ⟨kW st.s ps x,U⟩ (λ_=>False))
 (hdone:∀Z',τ xs Z'->ab P n k ⟨st.s,Z'⟩ Q)
 (hexit:∀id∈exits,∀pre Z',pre <+: xs->Jx (some id) pre Z'->ab P n (.code (.exit id)::k) ⟨st.s,Z'⟩ Q)
 (hret:∀pre Z',pre <+: xs->Jx none pre Z'->ab P n (.code .ret::k) ⟨st.s,Z'⟩ Q):ab P n (.code (.cA g ps A B)::k) st Q:=by
 intro F hn kt hk a w hs;subst hn;obtain⟨z,kt',rfl,hy,ZL⟩:=dn hk;obtain⟨c0,rfl,hc⟩:=fV hy;have hc0:∃g0 ps0 a0 b0,c0=.rangeFunc g0 ps0 a0 b0/\cx F.n g0=g/\ps0.toList=ps/\cY P F.n a0=A/\cY P F.n b0=B:=by
  cases c0<;>simp only[cY,reduceCtorEq,bf.cA.injEq]at hc
  case region=>(split at hc;cases hc);split at hc<;>cases hc
  exact⟨_,_,_,_,rfl,hc.1,hc.2.1,hc.2.2.1,hc.2.2.2⟩
 obtain⟨g0,ps0,a0,b0,rfl,rfl,rfl,rfl,rfl⟩:=hc0;obtain⟨I,hs⟩:=hs;have hrg:=bH hs g0;rw[hg]at hrg;simp only[E']at hrg;obtain⟨cv,hgv,hcv⟩:=hrg;refine wpIn_rangeFunc λfn _=>?_;obtain⟨mark,W0,D,YL,Yw⟩:=hs.enter (P:=P) fn ps0 a0 b0;generalize hrec:({ state:=.ready,pending:=none,fn,tmps:=a.tmps,params:=ps0,assign:=a0,body:=b0,defers:=D }:Loop)=rec at Yw;have hr1:rec.state=.ready:=by rw[<-hrec]
 have hr2:rec.pending=none:=by rw[<-hrec]
 have hr3:rec.tmps=a.tmps:=by rw[<-hrec]
 have hr4:rec.params=ps0:=by rw[<-hrec]
 have hr5:rec.assign=a0:=by rw[<-hrec]
 have hr6:rec.body=b0:=by rw[<-hrec]
 have hszn:rec.tmps.size=F.n:=by rw[hr3];exact hs.size
 have henv:al I (aA I st.U) W0 ((List.range F.n).map st.s) (tmpsOf (.loop rec)):=by
  have hl:tmpsOf (.loop rec)=(List.range F.n).map λi=>a.tmps.getD i undef:=by
   simp only[tmpsOf,hr3];apply List.ext_getElem
   .simp[hs.size]
   .intro i h1 h2;simp only[cL,List.length_range]at h2;simp only[Array.getElem_toList,List.getElem_map,List.getElem_range];rw[Zq7,Array.getElem?_eq_getElem (by rw[hs.size];exact h2)];rfl
  rw[hl];have YU:∀l:List Nat,(∀i∈l,i<F.n)->al I (aA I st.U) W0 (l.map st.s) (l.map λi=>a.tmps.getD i undef):=by
   intro l
   induction l with
   |nil=>intro _;simp[al]
   |cons i l ih=>
    intro h;simp only[dS,al];exact⟨_,_,rfl,YL.slot i (h i (by simp)),ih λj hj=>h j (by simp[hj])⟩
  exact YU _ λi hi=>by simpa using hi
 obtain⟨Yp,hidn,X1,hid1,hle1,hsat1,hk1⟩:=YL.sat.Uc (.loop rec) _ henv;generalize hE:(List.range F.n).map st.s=env at*;have hcvt:al X1 (aA X1 (C' st.U Yp (gh (.loop rec) env))) (W0.alloc (.loop rec)) caps cv:=by
  have h1:al I (aA I st.U) W0 caps cv:=by
   have h2:=bH YL g0;rw[hg]at h2;simp only[E']at h2;obtain⟨cv',h3,h4⟩:=h2;have:a.eval g0=.func (.func gf) #[] ⟨cv'⟩:=h3;rw[hgv]at this;simp only[Value.func.injEq,Array.mk.injEq,true_and]at this;rw[this];exact h4
  exact al.mono hle1 hk1 (by simp) _ _ h1
 obtain⟨Zi,hiter⟩:=hit;have key:=hiter Yp (λpre ZJ=>ZJ Yp=some (gh (.loop rec) env)/\τ pre (del ZJ Yp))
  (λpre ZJ=>∃e:Option Nat,ZJ Yp=some (gh (.loop { rec with state:=.done,pending:=some (KP e) }) env)/\Jx e pre (del ZJ Yp)/\∀id,e=some id->id∈exits)
  (gh (.loop rec) env) hidn ?_ ⟨ag,by rw[FF (hs00.none hidn)];exact h0⟩
 .refine⟨W0.heap.size,mark,_,_,_,gf,_,_,by rw[show F.dV.round=F.dV.round from rfl];exact Yw,yr hgv,λ_ _=>trivial,
   by simp only[invoke];exact jZ Zi _,lq F,pK ?_⟩
  have YE:al X1 (aA X1 (C' st.U Yp (gh (.loop rec) env))) (W0.alloc (.loop rec)) (.yl Yp::caps) (.func (.yield W0.heap.size) #[] #[]::cv):=by
   simp only[al];exact⟨_,_,rfl,by simp[E',hid1],hcvt⟩
  have YZ:=key X1 _ _ hsat1.here YE;have hvals:(Value.func (.yield W0.heap.size) #[] #[]::cv).toArray=#[.func (.yield W0.heap.size) #[] #[]]++⟨cv⟩:=by
   apply Array.ext';simp
  rw[hvals]at YZ;refine YZ.mono ?_;rintro e w2 ⟨r,Z',Y',val,rfl,hp,hle2,hs2,-⟩;obtain⟨hs3,hk3⟩:=hsat1.compose hs2;have hid2:Y' Yp=.Zm W0.heap.size 0 0:=(hle2 Yp (by rw[hid1];simp)).trans hid1;have fin:∀(rec2:Loop),Z' Yp=some (gh (.loop rec2) env)->rec2.state≠.busy->∃w4,(Instr.endLoop W0.heap.size).run P w2=.ok rec2.pending w4/\
   ee F ⟨st.s,del Z' Yp⟩ { a with defers:=mark++a.defers } w4:=by
   intro rec2 ZO Ys;obtain⟨hl2,henv2⟩:=hs2.No ZO hid2;refine⟨_,run_endLoop hl2 Ys,Y',?_⟩;have hset:=hs3.Uj ZO hid2 (.loop { rec2 with state:=.exhausted }) env henv2;have G':aa (del Z' Yp) (C' Z' Yp (gh (.loop { rec2 with state:=.exhausted }) env)):=λi o h=>by
    unfold del at h;split at h
    .cases h
    .rename_i hi;rw[ae hi];exact h
   have hks:=cD.sub (I:=Y') (w2.putObj W0.heap.size (.loop { rec2 with state:=.exhausted })) G';have hsz2:=hs2.size;have hkall:cD (aA I st.U) (aA Y' (del Z' Yp)) W0 (w2.putObj W0.heap.size (.loop { rec2 with state:=.exhausted })):=λb hb hn=>by
    obtain⟨q1,q2⟩:=hk1 b hb hn;have hb1:b<(W0.alloc (.loop rec)).heap.size:=by simp;omega
    obtain⟨q3,q4⟩:=hk3 b hb1 q1;have Zl:b<w2.heap.size:=Nat.lt_of_lt_of_le hb1 hsz2;obtain⟨q5,q6⟩:=hset.2 b Zl q3;exact⟨λho=>q5 (ho.sub G'),q6.trans (q4.trans q2)⟩
   have hle3:cC I Y':=hle1.trans hle2;have hz:W0.heap.size<=(w2.putObj W0.heap.size (.loop { rec2 with state:=.exhausted })).heap.size:=by
    simp at hsz2|-;omega
   exact⟨hset.1.drop G',YL.le.trans hle3,YL.size,YL.book.gJ hkall,λi hi=>E'.mono hle3 hkall hz _ _ (YL.slot i hi)⟩
  rcases hp with⟨ZO,hj⟩|⟨pre,hpre,e,ZO,hj,hin⟩
  .obtain⟨w4,g1,g2⟩:=fin rec ZO (by rw[hr1];simp);refine⟨_,w4,g1,?_⟩;rw[hr2];exact hdone _ hj F rfl kt' ZL _ _ g2
  .obtain⟨w4,g1,g2⟩:=fin _ ZO (by simp);refine⟨_,w4,g1,?_⟩;cases e with
   |none=>exact hret pre _ hpre hj F rfl (.code .ret::kt') (by simp[KI.it,ZL,cY]) _ _ g2
   |some id=>exact hexit id (hin id rfl) pre _ hpre hj F rfl (.code (.exit id)::kt') (by simp[KI.it,ZL,cY]) _ _ g2
 .intro pre x post ZJ U hxs hJ G';have hx:x.length=rec.params.toList.length:=by rw[hr4];exact hlen x (by rw[hxs];simp)
  have hb:=hbody pre x post (del ZJ Yp) (del U Yp) hxs hJ.2 (F4 G');subst hE;refine JK hr1 hr2 hszn hx hJ.1 G' (τ (pre++[x])) exits (λe=>Jx e (pre++[x])) ?_;rw[hr4,hr5,hr6];exact hb
def ab.cA{g:VX}{ps:List Nat}{A B:bf}{gf:FuncId}{caps:List V}(hg:g.ev st.s=.fn gf caps){xs:List (List V)}(hit:Iter P gf caps xs)
 (hlen:∀x∈xs,x.length=ps.length)(exits:List Nat)(τ:List (List V)->af->Prop)(Jx:Option Nat->List (List V)->af->Prop)(h0:τ [] st.U)
 (hbody:∀pre x post ZJ U,xs=pre++x::post->τ pre ZJ->aa ZJ U->
   ab P n [.code A,.stop λst1=>ab P n (.code B::.stop (λst2=>∃Z2,aT ZJ U Z2 st2.U/\τ (pre++[x]) Z2)::
    exK (exits.map λid=>(id,λst2=>∃Z2,aT ZJ U Z2 st2.U/\Jx (some id) (pre++[x]) Z2))) st1 (λst2=>∃Z2,aT ZJ U Z2 st2.U/\Jx none (pre++[x]) Z2)]
    ⟨kW st.s ps x,U⟩ (λ_=>False))
 (hdone:∀Z',τ xs Z'->ab P n k ⟨st.s,Z'⟩ Q)
 (hexit:∀id∈exits,∀pre Z',pre <+: xs->Jx (some id) pre Z'->ab P n (.code (.exit id)::k) ⟨st.s,Z'⟩ Q)
 (hret:∀pre Z',pre <+: xs->Jx none pre Z'->ab P n (.code .ret::k) ⟨st.s,Z'⟩ Q):ab P n (.code (.cA g ps A B)::k) st Q:=
 ab.Nw hg (aa.refl _) ⟨hit.1,λYp J' Jx' _ _ hb h=>hit.2 Yp J' Jx' _ hb h⟩ hlen exits τ Jx h0 hbody hdone hexit hret
variable {P:Program} {n:Nat} {st:St} {Q:St->Prop} {k:List It}
def dz(Yi:List (List Nat))(A':List Nat):List Nat:=(List.range Yi.length).filter λi=>!A'.contains i&&(Yi.getD i []).all A'.contains
abbrev kR(ops:Array Oper):List (List Nat):=ops.toList.map λo=>(o.after.toList.filter (Region.binds .any)).map (·.on)
def yx{ops:Array Oper}{arr:Array Bool}{A':List Nat}(hs:arr.size=ops.size)(hl:∀i,i<ops.size->arr.getD i true=A'.contains i)
 (ho:∀i∈A',i<ops.size):Region.ready .any ops arr=dz (kR ops) A':=by
 unfold Region.ready dz;have hlen:(kR ops).length=ops.size:=by simp[kR]
 rw[hlen];refine List.filter_congr λi hi=>?_;have hi:i<ops.size:=by simpa using hi
 rw[hl i hi];congr 1;have h1:ops[i]?=some ops[i]:=Array.getElem?_eq_getElem hi;have h2:(kR ops).getD i []=(ops[i].after.toList.filter (Region.binds .any)).map (·.on):=by
  rw[sC];simp[kR,hi]
 rw[h1,h2];simp only[Option.map_some,Option.getD_some];rw[<-Array.all_toList,List.all_map,List.all_filter];congr 1;funext e;simp only[Function.comp];have h3:arr.getD e.on false=A'.contains e.on:=by
  by_cases he:e.on<ops.size
  .rw[<-hl _ he,Zq7,Zq7,Array.getElem?_eq_getElem (by omega)];rfl
  .rw[Zq7,Array.getElem?_eq_none (by omega)];simp only[Option.getD_none];symm;rw[Bool.eq_false_iff];intro hc;exact he (ho _ (by simpa using hc))
 rw[h3]
def aa.xP{Z0 U:af}{e:Nat}(h:aa Z0 U)(he:Z0 e=Option.none):aa Z0 (del U e):=λi x hx=>by
 have YA:i≠e:=λe'=>by rw[e',he]at hx;cases hx
 rw[bR YA];exact h i x hx
def fw:(∀{P:Program} {O:ZQ P} {n:Nat} {k:List It} {st:St} {Q:St->Prop},step P O n 0 (.r k) st Q=Kof P n k st Q)/\(∀{P:Program} {n:Nat} {c:bf} {k:List It} {st:St} {Q:St->Prop},Kof P n (.code c::k) st Q=ab P n (.code c::k) st Q)/\
 (∀{P:Program} {n:Nat} {l:List az} {k:List It} {st:St} {Q:St->Prop},Kof P n (.ops l::k) st Q=ab P n (.ops l::k) st Q)/\(∀{P:Program} {n id:Nat} {k:List It} {st:St} {Q:St->Prop},Kof P n (.inBlock id::k) st Q=ab P n (.inBlock id::k) st Q)/\
 ∀{P:Program} {n:Nat} {st:St} {Q:St->Prop},Kof P n [] st Q=ab P n [] st Q:=⟨rfl,rfl,rfl,rfl,rfl⟩
def Wk.aC{U Z':af}(sz:Nat):Wk U Z' .aC (.sl sz []):=by
 intro I w0 w Zo x hs hr;simp only[E']at hr|-;exact⟨none,0,by simpa using hr,by simp,.inl trivial⟩
def aL(K U:af)(e sz:Nat)(v:V)(rows:List V):Prop:=(v=.aC/\rows=[])\/∃id,v=.own id 0 rows.length/\U id=some ⟨e,sz,rows⟩/\K id=none
def aL.wk{K U:af}{e sz:Nat}{v:V}{rows:List V}(h:aL K U e sz v rows){K':af}(hK:aa K' K)(hs:aa K' U):Wk U K' v (.sl sz rows):=by
 rcases h with⟨rfl,rfl⟩|⟨id,rfl,ho,hk⟩
 .exact Wk.aC sz
 .have:=Wk.own hs ho (hK.none hk) (off:=0) (len:=rows.length) (by simp);rw[yq,hU]at this;exact this
def aL.Ke{K U:af}{e sz:Nat}{v:V}{rows:List V}(h:aL K U e sz v rows)(hs:aa K U){v0:V}(hv:V.sl sz rows=v0):
 ak v U λr Z'=>r=v0/\Z'=K:=⟨_,K,hs,h.wk (aa.refl K) hs,hv,rfl⟩
def cO{P:Program}{n:Nat}{Q:St->Prop}{k:List It}{O:ZQ P}{f:Nat}{d:Option Nat}{l:List az}{v:Nat->V}{ob:Ob}{s:Nat->V}{U:af}{e:Option Nat}
 (h:∀id Z',aa (bt U e) Z'->Z' id=some ob->U id=none->step P O n f (.r (.ops l::k)) ⟨aO s d (v id),Z'⟩ Q):
 M3 P O n f l k d ⟨s,U⟩ Q (some λid=>(v id,Vc.C' (bt U e) id ob)):=by
 rw[bG];refine λid O'=>h id _ ((aa.refl _).C' ?_) ag O';cases e with
 |none=>exact O'
 |some e=>
  simp only[bt,del];split
  .rfl
  .exact O'
def kQ{P:Program}{n:Nat}{Q:St->Prop}{k:List It}{O:ZQ P}{f:Nat}{d:Option Nat}{l:List az}{v:Nat->V}{ob:Ob}{s:Nat->V}{U:af}{e:Option Nat}
 (h:∀id Z',aa (bt U e) Z'->Z' id=some ob->U id=none->step P O n f (.d l k) ⟨aO s d (v id),Z'⟩ Q):
 I9 P O n f l k d ⟨s,U⟩ Q (some λid=>(v id,Vc.C' (bt U e) id ob)):=by
 rw[fc];refine λid O'=>h id _ ((aa.refl _).C' ?_) ag O';cases e with
 |none=>exact O'
 |some e=>
  simp only[bt,del];split
  .rfl
  .exact O'
def aL.dst{K U:af}{e sz:Nat}{v:V}{rows:List V}(h:aL K U e sz v rows){Z1:af}(hs:aa U Z1):
 ∃Yn,bN Z1 e sz v=some (rows,Yn)/\∀K':af,aa K' K->∀Z2,aa K' Z2->aa K' (bt Z2 Yn):=by
 rcases h with⟨rfl,rfl⟩|⟨id,rfl,ho,hk⟩
 .exact⟨none,rfl,λ_ _ _ h=>h⟩
 .refine⟨some id,?_,λK' hK Z2 h=>h.xP (hK.none hk)⟩;simp only[bN,hs _ _ ho];rw[ar ⟨trivial,trivial,trivial,YQ _⟩,hU]
def aL.start{K U:af}{e sz:Nat}:aL K U e sz .aC []:=.inl ⟨rfl,rfl⟩
def aL.new{K U:af}{e sz id:Nat}{rows:List V}{n:Nat}(hn:n=rows.length)(h:U id=some ⟨e,sz,rows⟩)(hk:K id=none):aL K U e sz (.own id 0 n) rows:=by
 subst hn;exact .inr ⟨id,rfl,h,hk⟩
def aL.len{K U:af}{e sz:Nat}{v:V}{rows:List V}(h:aL K U e sz v rows):cW false v=some (.int .i64 rows.length):=by
 rcases h with⟨rfl,rfl⟩|⟨id,rfl,ho,hk⟩<;>rfl
def aL.mono{K U Z':af}{e sz:Nat}{v:V}{rows:List V}(h:aL K U e sz v rows)(hs:aa U Z'):aL K Z' e sz v rows:=by
 rcases h with h|⟨id,h1,h2,h3⟩
 .exact .inl h
 .exact .inr ⟨id,h1,hs _ _ h2,h3⟩
def cT{U:af}{id e sz:Nat}{r:V}(h:U id=some ⟨e,sz,[r]⟩):bz U sz (.own id 0 1)=some [r]:=by
 simp[bz,h]
def Wk.ptr{U Z':af}(h:aa Z' U){id:Nat}{e sz:Nat}{r:V}(ho:U id=some ⟨e,sz,[r]⟩)(O':Z' id=none):Wk U Z' (.ptr id 0 0) (.rp r):=by
 intro I w0 w Zo x hs hr;simp only[E']at hr|-;have YV:=hs.obj id _ ho;split at hr
 .rename_i b sz' cap hb;obtain⟨rfl,hz⟩:=hr;rw[hb]at YV;have H':b<w.heap.size:=aA.lt hs ⟨id,_,_,_,ho,hb⟩;obtain⟨g1,g2,g3,g4,g5⟩:=YV.rows hz;refine⟨b,_,rfl,H',.inr ?_,?_⟩
  .rintro⟨ZD,ob',sz'',cap'',e1,e2⟩;have:=hs.inj ZD id ob' _ _ _ _ _ _ (h _ _ e1) ho e2 hb;rw[this,O']at e1;cases e1
  .simp only[aS]at g5;have:=aS.mono (cC.refl I) (cD.sub w h) (YQ _) [r] b 0 sz' rfl (by simp only[aS];exact⟨g5.1,g5.2.1,trivial⟩);simp only[aS]at this;simpa using this.2.1
 .exact hr.elim
def Wk.fn{U Z':af}{f:FuncId}{vs vs':List V}(h:WkL U Z' vs vs'):Wk U Z' (.fn f vs) (.fn f vs'):=by
 intro I w0 w Zo x hs hr;simp only[E']at hr|-;obtain⟨Yf,rfl,h1⟩:=hr;exact⟨Yf,rfl,WkL.all hs h h1⟩
end Go.Vc
