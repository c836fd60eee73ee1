import Derived.Test.YtinojdikhfbfbaaGreatW1
import Derived.TacticsIn
import Derived.RangeFuncNested
import Derived.RangeFuncLeaves
import Derived.Orders
import Derived.OrdersIn
import Derived.Lib.SliceRun
import Derived.WideLaws
import Derived.Attr
import Derived.Laws.RangeString
import Derived.Laws.Runes
set_option linter.all false
set_option maxHeartbeats 8000000
namespace Go.Vc
inductive It where
 |code (c:bP)
 |inBlock (id:Nat)
 |ops (l:List aS)
 |stop (μ:St->Prop)
inductive KI where
 |code (c:Code)
 |inBlock (id:Nat)
 |ops (all:Array Oper) (l:List Oper)
 |stop (μ:St->Prop)
def KI.it(P:Program)(n:Nat):KI->It
 |.code c=>.code (dG P n c)
 |.inBlock id=>.inBlock id
 |.ops all l=>.ops (l.map (bL P n all))
 |.stop μ=>.stop μ
def Fr.eG(F:Fr):Fence:={ Fence.wide with round:=F.rd.map (·.1) }
def ll(F:Fr):F.eG.depth.isSome=true->1<=0:=λh=>by simp[Fr.eG,Fence.wide]at h
def oG{F:Fr}{n:Nat}{P:Program}{f:FuncId}{args:Array Value}{w:World}{R:Ending->World->Prop}(h:Calls P f args w R):CallsIn F.eG n P f args w R:=by
 have h1:CallsIn Fence.wide n P f args w R:=callsIn_wide.2 h;exact h1
def El{F:Fr}{P:Program}{o:Oper}{a:Act}{w:World}{next:Act->World->Prop}{Q:Exit->Act->World->Prop}(hd:∀c,o.op≠.defer c)(h:o.wp P a w next Q):
 o.wpIn F.eG 0 P a w next Q:=by
 refine⟨λ_ _=>trivial,?_⟩;rw[Oper.semAt_eq _ _ _ hd];unfold Oper.wp at h;generalize (execOp a.eval o).run P w=r at*;cases r with
 |ok x w'=>
  cases x<;>simp only[Oper.upon,Oper.uponIn]at h|-<;>first
   |exact h
   |exact⟨ll F,oG h⟩
   |contradiction
   |skip
  exact⟨ll F,λc cs _=>let ⟨v,w',r,s⟩:=h c cs;⟨v,w',r,stepsIn_wide.2 s⟩⟩
 |halt x w'=>cases x<;>simp only[Oper.upon,Oper.uponIn]at h|-<;>first|exact h|contradiction
def kc{P:Program}{n:Nat}{o:Op}(h:Se P n o≠.bad)(c:Call):o≠.defer c:=λe=>by subst e;exact h rfl
def lH(P:Program)(F:Fr)(Q:St->Prop):List KI->Exit->Act->World->Prop
 |[],e,a,w=>(e=.normal\/e=.ret)/\∃st,Q st/\eU F st a w
 |.code c::k,e,a,w=>match e with
   |.normal=>c.wpIn F.eG 0 P (lH P F Q k) a w
   |e=>lH P F Q k e a w
 |.inBlock id::k,e,a,w=>Exit.inBlock id (lH P F Q k) e a w
 |.ops all l::k,e,a,w=>match e with
   |.normal=>wpListIn F.eG 0 P all (lH P F Q k) l a w
   |e=>lH P F Q k e a w
 |.stop μ::k,e,a,w=>match e with
   |.normal=>∃st,μ st/\eU F st a w
   |e=>lH P F Q k e a w
def aq(P:Program)(n:Nat)(todo:List It)(st:St)(Q:St->Prop):Prop:=
 ∀F:Fr,F.n=n->∀kt:List KI,kt.map (KI.it P n)=todo->∀a w,eU F st a w->lH P F Q kt .normal a w
variable {P:Program} {n:Nat} {st:St} {Q:St->Prop} {k:List It}
def aq.nil(h:Q st):aq P n [] st Q:=by
 intro F _ kt hk a w hs;cases kt with
 |nil=>exact⟨.inl rfl,st,h,hs⟩
 |cons x kt=>simp at hk
def eD{kt:List KI}{x:It}(h:kt.map (KI.it P n)=x::k):∃y Ub,kt=y::Ub/\y.it P n=x/\Ub.map (KI.it P n)=k:=by
 cases kt with
 |nil=>simp at h
 |cons y Ub=>simp only[fC,List.cons.injEq]at h;exact⟨y,Ub,rfl,h.1,h.2⟩
def gN{y:KI}{c:bP}(h:y.it P n=.code c):∃c0,y=.code c0/\dG P n c0=c:=by
 cases y<;>simp only[KI.it,It.code.injEq,reduceCtorEq]at h;exact⟨_,rfl,h⟩
def aq.skip(h:aq P n k st Q):aq P n (.code .skip::k) st Q:=by
 intro F hn kt hk a w hs;obtain⟨y,Ub,rfl,hy,Tp⟩:=eD hk;obtain⟨c0,rfl,hc⟩:=gN hy;have Vp:c0=.skip:=by
  cases c0<;>simp only[dG,reduceCtorEq]at hc<;>(try (split at hc;cases hc))<;>(try (split at hc<;>cases hc))<;>try rfl
 subst Vp;exact wpIn_skip (h F hn Ub Tp a w hs)
def aq.seq{x y:bP}(h:aq P n (.code x::.code y::k) st Q):aq P n (.code (.seq x y)::k) st Q:=by
 intro F hn kt hk a w hs;obtain⟨z,Ub,rfl,hy,Tp⟩:=eD hk;obtain⟨c0,rfl,hc⟩:=gN hy;have Vp:∃x0 y0,c0=.seq x0 y0/\dG P n x0=x/\dG P n y0=y:=by
  cases c0<;>simp only[dG,reduceCtorEq,bP.seq.injEq]at hc
  case region=>(split at hc;cases hc);split at hc<;>cases hc
  exact⟨_,_,rfl,hc.1,hc.2⟩
 obtain⟨x0,y0,rfl,rfl,rfl⟩:=Vp;refine wpIn_seq (wpIn_mono (h F hn (.code x0::.code y0::Ub) (by simp[KI.it,Tp]) a w hs) ?_);intro e a' w' hq;cases e<;>exact hq
def aq.block{id:Nat}{x:bP}(h:aq P n (.code x::.inBlock id::k) st Q):aq P n (.code (.block id x)::k) st Q:=by
 intro F hn kt hk a w hs;obtain⟨z,Ub,rfl,hy,Tp⟩:=eD hk;obtain⟨c0,rfl,hc⟩:=gN hy;have Vp:∃x0,c0=.block id x0/\dG P n x0=x:=by
  cases c0<;>simp only[dG,reduceCtorEq,bP.block.injEq]at hc
  case region=>(split at hc;cases hc);split at hc<;>cases hc
  obtain⟨rfl,h2⟩:=hc;exact⟨_,rfl,h2⟩
 obtain⟨x0,rfl,rfl⟩:=Vp;exact wpIn_block (h F hn (.code x0::.inBlock id::Ub) (by simp[KI.it,Tp]) a w hs)
def aq.inBlock{id:Nat}(h:aq P n k st Q):aq P n (.inBlock id::k) st Q:=by
 intro F hn kt hk a w hs;obtain⟨z,Ub,rfl,hy,Tp⟩:=eD hk;cases z<;>simp only[KI.it,It.inBlock.injEq,reduceCtorEq]at hy;exact h F hn Ub Tp a w hs
def aq.stop{μ:St->Prop}(h:μ st):aq P n (.stop μ::k) st Q:=by
 intro F hn kt hk a w hs;obtain⟨z,Ub,rfl,hy,Tp⟩:=eD hk;cases z<;>simp only[KI.it,It.stop.injEq,reduceCtorEq]at hy;subst hy;exact⟨st,h,hs⟩
def eH(id:Nat):List It->Option (List It)
 |[]=>none
 |.inBlock j::k=>if id=j then some k else eH id k
 |_::k=>eH id k
def lY{F:Fr}{id:Nat}{a:Act}{w:World}:∀{kt:List KI} {k':List It},eH id (kt.map (KI.it P n))=some k'->
 (∀Ub,Ub.map (KI.it P n)=k'->lH P F Q Ub .normal a w)->lH P F Q kt (.exit id) a w
 |[],_,h,_=>by simp[eH]at h
 |.code c::kt,_,h,hq=>lY (kt:=kt) (by simpa[KI.it,eH]using h) hq
 |.ops all l::kt,_,h,hq=>lY (kt:=kt) (by simpa[KI.it,eH]using h) hq
 |.stop μ::kt,_,h,hq=>lY (kt:=kt) (by simpa[KI.it,eH]using h) hq
 |.inBlock j::kt,k',h,hq=>by
  simp only[fC,KI.it,eH]at h;simp only[lH,Exit.inBlock];by_cases hj:id=j
  .rw[aK hj]at h|-;simp only[bf]at h;exact hq kt h
  .rw[aM hj]at h|-;exact lY h hq
def aq.exit{id:Nat}{k':List It}(hp:eH id k=some k')(h:aq P n k' st Q):aq P n (.code (.exit id)::k) st Q:=by
 intro F hn kt hk a w hs;obtain⟨z,Ub,rfl,hy,Tp⟩:=eD hk;obtain⟨c0,rfl,hc⟩:=gN hy;have Vp:c0=.exit id:=by
  cases c0<;>simp only[dG,reduceCtorEq,bP.exit.injEq]at hc
  case region=>(split at hc;cases hc);split at hc<;>cases hc
  rw[hc]
 subst Vp;exact wpIn_exit (lY (n:=n) (by rw[Tp];exact hp) (λkt'' h''=>h F hn kt'' h'' a w hs))
def lI{F:Fr}{a:Act}{w:World}(h:∃st,Q st/\eU F st a w):∀(kt:List KI),lH P F Q kt .ret a w
 |[]=>⟨.inr rfl,h⟩
 |.code _::kt=>lI h kt
 |.inBlock _::kt=>lI h kt
 |.ops _ _::kt=>lI h kt
 |.stop _::kt=>lI h kt
def aq.ret(h:Q st):aq P n (.code .ret::k) st Q:=by
 intro F hn kt hk a w hs;obtain⟨z,Ub,rfl,hy,Tp⟩:=eD hk;obtain⟨c0,rfl,hc⟩:=gN hy;have Vp:c0=.ret:=by
  cases c0<;>simp only[dG,reduceCtorEq]at hc<;>(try (split at hc;cases hc))<;>(try (split at hc<;>cases hc))<;>try rfl
 subst Vp;exact wpIn_ret (lI ⟨st,h,hs⟩ Ub)
def aq.cond{c:VX}{x y:bP}{b:Bool}(hc:c.ev st.s=.bool b)(h1:b=true->aq P n (.code x::k) st Q)(h2:b=false->aq P n (.code y::k) st Q):
 aq P n (.code (.cond c x y)::k) st Q:=by
 intro F hn kt hk a w hs;obtain⟨z,Ub,rfl,hy,Tp⟩:=eD hk;obtain⟨c0,rfl,SW⟩:=gN hy;have Vp:∃o x0 y0,c0=.cond o x0 y0/\cx n o=c/\dG P n x0=x/\dG P n y0=y:=by
  cases c0<;>simp only[dG,reduceCtorEq,bP.cond.injEq]at SW
  case region=>(split at SW;cases SW);split at SW<;>cases SW
  exact⟨_,_,_,rfl,SW.1,SW.2.1,SW.2.2⟩
 obtain⟨o,x0,y0,rfl,rfl,rfl,rfl⟩:=Vp;obtain⟨I,RV⟩:=hs;have he:=cF RV o;rw[hn,hc]at he;simp only[E']at he;exact wpIn_cond_split he (λhb=>h1 hb F hn (.code x0::Ub) (by simp[KI.it,Tp]) a w ⟨I,RV⟩) (λhb=>h2 hb F hn (.code y0::Ub) (by simp[KI.it,Tp]) a w ⟨I,RV⟩)
def aq.region{l:List aS}(h:aq P n (.ops l::k) st Q):aq P n (.code (.VL false l)::k) st Q:=by
 intro F hn kt hk a w hs;obtain⟨z,Ub,rfl,hy,Tp⟩:=eD hk;obtain⟨c0,rfl,SW⟩:=gN hy;have Vp:∃id ops,c0=.region id ops false/\ops.toList.map (bL P n ops)=l:=by
  cases c0<;>simp only[dG,reduceCtorEq]at SW;rename_i id ops draw;cases draw
  .simp only[Bool.false_and,iP,if_false,bP.VL.injEq,true_and]at SW;exact⟨id,ops,rfl,SW⟩
  .simp only[Bool.true_and]at SW;split at SW
   .cases SW
   .split at SW
    .cases SW
    .simp at SW
 obtain⟨id,ops,rfl,rfl⟩:=Vp;exact wpIn_region_list (h F hn (.ops ops ops.toList::Ub) (by simp[KI.it,Tp]) a w hs)
def aq.Io(h:aq P n k st Q):aq P n (.ops []::k) st Q:=by
 intro F hn kt hk a w hs;obtain⟨z,Ub,rfl,hy,Tp⟩:=eD hk;cases z<;>simp only[KI.it,It.ops.injEq,reduceCtorEq,List.map_eq_nil_iff]at hy;subst hy;exact h F hn Ub Tp a w hs
def bn(s:Nat->V):Option (VX×Bool)->Option Bool
 |none=>some true
 |some (x,b)=>match x.ev s with
    |.bool c=>some (c==b)
    |.RM []=>some false
    |.int _ _=>some false
    |_=>none
def qv{F:Fr}{I:Mu}{st:St}{a:Act}{w:World}(hs:dz F I st a w)(all:Array Oper)(o:Oper){b:Bool}(h:bn st.s (bL P F.n all o).g=some b):
 Region.wanted o (yielded all a.tmps)=b:=by
 unfold Region.wanted;cases hg:o.guard with
 |none=>simp[bL,hg,bn]at h;simp[h]
 |some g=>
  obtain⟨j,want⟩:=g;simp only[bL,hg,Option.map_some,bn]at h;cases hd:(all[j]?).bind (·.dst)with
  |none=>
   simp only[hd,VX.ev]at h;simp only[bf]at h;subst h;simp[yielded,hd]
  |some d=>
   simp only[hd]at h;by_cases Zs:d<F.n
   .simp only[aK Zs,VX.ev]at h;have hr:=hs.slot d Zs;have TD:a.tmps[d]?=some (a.tmps.getD d undef):=by
     rw[Vn,Array.getElem?_eq_getElem (by rw[hs.size];exact Zs)];rfl
    simp only[yielded,hd,Option.bind_some,TD];split at h
    .rename_i c hc;rw[hc]at hr;simp only[E']at hr;rw[hr];simp only[bf]at h;rw[<-h];rfl
    .rename_i hc;rw[hc]at hr;simp only[E',ax]at hr;obtain⟨RI,hv,rfl⟩:=hr;rw[hv];simp only[bf]at h;rw[<-h];rfl
    .rename_i hc;rw[hc]at hr;simp only[E']at hr;rw[hr];simp only[bf]at h;rw[<-h];rfl
    .cases h
   .simp only[aM Zs,VX.ev]at h;simp only[bf]at h;have hle:a.tmps.size<=d:=by rw[hs.size];exact Nat.le_of_not_lt Zs
    have:a.tmps[d]?=none:=Array.getElem?_eq_none hle;simp[yielded,hd,this,<-h]
def St.put(st:St)(d:Option Nat)(v:V):St:=⟨aY st.s d v,st.U⟩
def aq.Jj{i:aS}{l:List aS}(hw:bn st.s i.g=some true)
 (h:∀(F:Fr),F.n=n->∀(I:Mu) (a:Act) (w:World) (o:Oper) (all:Array Oper),bL P n all o=i->dz F I st a w->
   ∀(next:Act->World->Prop) (Q':Exit->Act->World->Prop),(∀UC a' w',eU F UC a' w'->aq P n (.ops l::k) UC Q->next a' w')->o.wpIn F.eG 0 P a w next Q'):
 aq P n (.ops (i::l)::k) st Q:=by
 intro F hn kt hk a w hs;obtain⟨z,Ub,rfl,hy,Tp⟩:=eD hk;cases z<;>simp only[KI.it,It.ops.injEq,reduceCtorEq]at hy;rename_i all os;cases os with
 |nil=>simp at hy
 |cons o os=>
  simp only[fC,List.cons.injEq]at hy;obtain⟨hi,hl⟩:=hy;obtain⟨I,RV⟩:=hs;have Wy:=qv (P:=P) RV all o (b:=true) (by rw[hn,hi];exact hw);simp only[lH,wpListIn,Wy,if_true];refine h F hn I a w o all hi RV _ _ ?_;intro UC a' w' hs'' hsem;exact hsem F hn (.ops all os::Ub) (by simp[KI.it,hl,Tp]) a' w' hs''
def aq.ins{i:aS}{l:List aS}(hb:i.op≠.bad)(hw:bn st.s i.g=some true)
 (h:∀(F:Fr),F.n=n->∀(I:Mu) (a:Act) (w:World) (o:Oper) (all:Array Oper),bL P n all o=i->dz F I st a w->
   ∀(next:Act->World->Prop) (Q':Exit->Act->World->Prop),(∀UC a' w',eU F UC a' w'->aq P n (.ops l::k) UC Q->next a' w')->o.wp P a w next Q'):
 aq P n (.ops (i::l)::k) st Q:=by
 refine aq.Jj hw λF hn I a w o all hi hs next Q' RK=>El ?_ (h F hn I a w o all hi hs next Q' RK)
 refine kc (P:=P) (n:=n) ?_;have:i.op=Se P n o.op:=by rw[<-hi];rfl
 rw[<-this];exact hb
def aq.xK{i:aS}{l:List aS}(hw:bn st.s i.g=some false)(h:aq P n (.ops l::k) (st.put i.dst (.RM [])) Q):aq P n (.ops (i::l)::k) st Q:=by
 intro F hn kt hk a w hs;obtain⟨z,Ub,rfl,hy,Tp⟩:=eD hk;cases z<;>simp only[KI.it,It.ops.injEq,reduceCtorEq]at hy;rename_i all os;cases os with
 |nil=>simp at hy
 |cons o os=>
  simp only[fC,List.cons.injEq]at hy;obtain⟨hi,hl⟩:=hy;obtain⟨I,RV⟩:=hs;have Wy:=qv (P:=P) RV all o (b:=false) (by rw[hn,hi];exact hw);simp only[lH,wpListIn,Wy,iP,if_false];refine⟨λ_ _=>trivial,?_⟩;refine h F hn (.ops all os::Ub) (by simp[KI.it,hl,Tp]) _ w ⟨I,?_⟩;have hd:i.dst=o.dst.filter (·<F.n):=by rw[<-hi,hn];rfl
  rw[St.put,hd];exact RV.pure (by simp only[E'];exact⟨[],rfl,by simp[ax]⟩)
def aq.pure{i:aS}{l:List aS}{v:V}(hw:bn st.s i.g=some true)(hp:ga st.s i.op)(hv:aT st.U st.s i.op=some v)
 (h:aq P n (.ops l::k) (st.put i.dst v) Q):aq P n (.ops (i::l)::k) st Q:=by
 refine aq.ins (λe=>by rw[e]at hv;simp[aT]at hv) hw λF hn I a w o all hi hs next Q' RK=>?_
 subst hn;have RN:i.op=Se P F.n o.op:=by rw[<-hi];rfl
 have hd:i.dst=o.dst.filter (·<F.n):=by rw[<-hi];rfl
 obtain⟨z,hz,hr⟩:=rL hs o (RN▸hp) (RN▸hv);unfold Oper.wp;rw[hz];refine RK (st.put i.dst v) _ _ ⟨I,?_⟩ h;rw[St.put,hd];exact hs.pure hr
variable {P:Program} {n:Nat} {st:St} {Q:St->Prop} {k:List It}
def DR{F:Fr}{o:Oper}{a:Act}{w:World}{next next':Act->World->Prop}{R R':Exit->Act->World->Prop}(h:o.wpIn F.eG 0 P a w next R)
 (hn:∀a w,next a w->next' a w)(hq:∀e a w,e≠.normal->R e a w->R' e a w):o.wpIn F.eG 0 P a w next' R':=by
 refine⟨h.1,?_⟩;have h:=h.2;generalize (o.semAt F.eG.round a.eval).run P w=r at*;cases r with
 |ok x w'=>
  cases x<;>simp only[Oper.uponIn]at h|-<;>first
   |exact hn _ _ h
   |exact⟨h.1,CallsIn.mono h.2 (λe w'' he=>by cases e<;>first|exact hn _ _ he|exact hq _ _ _ (by simp) he|(obtain⟨a0,w0,h2⟩:=he;exact⟨a0,w0,hq _ _ _ (by simp) h2⟩))⟩
   |exact⟨h.1,RowsIn.mono h.2 (λ_ _ he=>hn _ _ he)⟩
   |exact⟨h.1,RoundIn.mono h.2 (λe w'' he=>by cases e<;>first|exact hn _ _ he|exact hq _ _ _ (by simp) he|(obtain⟨a0,w0,h2⟩:=he;exact⟨a0,w0,hq _ _ _ (by simp) h2⟩))⟩
   |contradiction
 |halt x w'=>cases x<;>simp only[Oper.uponIn]at h|-<;>first|exact hq _ _ _ (by simp) h|contradiction
def nF{F:Fr}{all:Array Oper}{R R':Exit->Act->World->Prop}(hq:∀e a w,R e a w->R' e a w):∀(l:List Oper) (a:Act) (w:World),wpListIn F.eG 0 P all R l a w->wpListIn F.eG 0 P all R' l a w
 |[],a,w,h=>hq _ _ _ h
 |o::l,a,w,h=>by
  simp only[wpListIn]at h|-;split
  .rename_i hw;simp only[hw,if_true]at h;exact DR h (nF hq l) (λe a w _=>hq e a w)
  .rename_i hw;simp only[hw]at h;exact⟨h.1,nF hq l _ _ h.2⟩
def Wk(U Z':ak)(v v':V):Prop:=∀(I:Mu) (w0 w:World) (SH:Nat->Prop) (x:Value),Sat w0 SH I U w->E' I (aN I U) w v x->E' I (aN I Z') w v' x
def Wk.refl{U Z':ak}(h:aa Z' U)(v:V):Wk U Z' v v:=λI _ w _ x _ hr=>E'.mono (dn.refl I) (dc.sub w h) (Sf _) v x hr
def Wk.undef{U Z':ak}(v:V):Wk U Z' v .undef:=λ_ _ _ _ _ _ _=>by simp[E']
def Wk.own{U Z':ak}(h:aa Z' U){id off len:Nat}{ob:Ob}(ho:U id=some ob)(L':Z' id=none)(hl:off+len<=ob.rows.length):
 Wk U Z' (.own id off len) (.sl ob.sz ((ob.rows.drop off).take len)):=by
 intro I w0 w SH x hs hr;simp only[E']at hr|-;have hlen:((ob.rows.drop off).take len).length=len:=by simp;omega
 have Ts:=hs.obj id ob ho;split at hr
 .exact hr.elim
 .obtain⟨rfl,rfl,rfl⟩:=hr;exact⟨none,0,by simp,by simp,.inl (by simp)⟩
 .rename_i b sz cap hb;obtain⟨o,c,rfl,h1,h2,h3,hz⟩:=hr;refine⟨_,c,by rw[hlen],by omega,?_⟩;by_cases h0:len=0
  .left;subst h0;simp
  .right;rw[hb]at Ts;obtain⟨g1,g2,g3,g4,g5⟩:=Ts.rows hz;have ho':o=off*sz:=by
    rcases h3 with h3|h3
    .exact h3
    .omega
   subst ho' g1;refine⟨b,_,rfl,?_,g2,?_⟩
   .rintro⟨Ua,ob',Uu,SZ,e1,e2⟩;have:=hs.inj Ua id ob' ob _ _ _ _ _ (h _ _ e1) ho e2 hb;rw[this,L']at e1;cases e1
   .have:=(g5.drop off).take len;rw[lF]at this;exact aZ.mono (dn.refl I) (dc.sub w h) (Sf _) _ _ _ _ rfl this
def Yt(U Z':ak):List V->List V->Prop
 |[],[]=>True
 |v::vs,v'::vs'=>Wk U Z' v v'/\Yt U Z' vs vs'
 |_,_=>False
def Yt.all{U Z':ak}{I:Mu}{w0 w:World}{SH:Nat->Prop}(hs:Sat w0 SH I U w):∀{vs vs':List V} {l:List Value},Yt U Z' vs vs'->
 ax I (aN I U) w vs l->ax I (aN I Z') w vs' l
 |[],[],_,_,h=>by simpa[ax]using h
 |v::vs,v'::vs',l,hw,h=>by
  simp only[ax]at h|-;obtain⟨x,xs,rfl,h1,h2⟩:=h;exact⟨x,xs,rfl,hw.1 I w0 w SH x hs h1,Yt.all hs hw.2 h2⟩
 |[],_::_,_,hw,_=>hw.elim
 |_::_,[],_,hw,_=>hw.elim
def Wk.agg{U Z':ak}{vs vs':List V}(h:Yt U Z' vs vs'):Wk U Z' (.agg vs) (.agg vs'):=by
 intro I w0 w SH x hs hr;simp only[E']at hr|-;obtain⟨RI,rfl,h1,h2⟩:=hr;exact⟨RI,rfl,Yt.all hs h h1,h2⟩
def Wk.RM{U Z':ak}{vs vs':List V}(h:Yt U Z' vs vs'):Wk U Z' (.RM vs) (.RM vs'):=by
 intro I w0 w SH x hs hr;simp only[E']at hr|-;obtain⟨RI,rfl,h1⟩:=hr;exact⟨RI,rfl,Yt.all hs h h1⟩
def K9(st UC:St):Prop:=aa UC.U st.U/\∀i,Wk st.U UC.U (st.s i) (UC.s i)
def K9.sat{st UC:St}(h:K9 st UC){F:Fr}{a:Act}{w:World}(hs:eU F st a w):eU F UC a w:=by
 obtain⟨I,hs⟩:=hs;exact⟨I,hs.sat.drop h.1,hs.le,hs.size,hs.book.wb (dc.sub w h.1),λi hi=>h.2 i I _ _ _ _ hs.sat (hs.slot i hi)⟩
def aq.weaken{todo:List It}{UC:St}(h:K9 st UC)(hr:aq P n todo UC Q):aq P n todo st Q:=
 λF hn kt hk a w hs=>hr F hn kt hk a w (h.sat hs)
def v8{F:Fence}{m0:Nat}{c:Code}{Q':Exit->Act->World->Prop}(μ:Nat->Act->World->Prop)
 (round:∀m a w,μ m a w->c.wpIn F m0 P (Exit.then (λa' w'=>∃m',m'<m/\μ m' a' w') Q') a w):∀m a w,μ m a w->(Code.loop c).wpIn F m0 P Q' a w:=by
 intro m a w h b k cs U2 hb hr;have key:∀m a w,μ m a w->∃e a' w',Q' e a' w'/\ArrivesIn (Machine.fenced P F) P (lone (b.atR a (.code c::.inLoop c::k)) cs w) b k cs e a' w':=by
  intro m
  induction m using Nat.strongRecOn with
  |_ m ih=>
   intro a w hI;obtain⟨e,a₁,w₁,hq,Yu⟩:=round m a w hI b (.inLoop c::k) cs U2 hb hr;cases e with
   |normal=>
    obtain⟨m',u',hI'⟩:=hq;obtain⟨e₂,a₂,w₂,hq₂,harr₂⟩:=ih m' u' a₁ w₁ hI';exact⟨e₂,a₂,w₂,hq₂,.of_steps (StepsIn.trans Yu (.one (fenced_calm hb hr rfl) stepR_inLoop)) harr₂⟩
   |exit id=>exact⟨_,a₁,w₁,hq,.pass (x:=.inLoop c) rfl (λ_ _=>.inl (by simp)) Yu⟩
   |goto l=>exact⟨_,a₁,w₁,hq,.pass (x:=.inLoop c) rfl (λ_ _=>.inl (by simp)) Yu⟩
   |ret=>exact⟨_,a₁,w₁,hq,.pass (x:=.inLoop c) rfl (λ_ _=>.inl (by simp)) Yu⟩
   |panic ch=>exact⟨_,a₁,w₁,hq,.pass (x:=.inLoop c) rfl (λ_ _=>.inl (by simp)) Yu⟩
   |outgrown=>exact⟨_,a₁,w₁,hq,.pass (x:=.inLoop c) rfl (λ_ _=>.inl (by simp)) Yu⟩
 obtain⟨e,a',w',hq,Yu⟩:=key m a w h;exact⟨e,a',w',hq,.of_steps (.one (fenced_calm hb hr rfl) stepR_loop) Yu⟩
def aq.loop{x:bP}(μ:Nat->St->Prop)(m:Nat)(h0:μ m st)(hr:∀m st,μ m st->aq P n (.code x::.stop (λUC=>∃m',m'<m/\μ m' UC)::k) st Q):
 aq P n (.code (.loop x)::k) st Q:=by
 intro F hn kt hk a w hs;obtain⟨z,Ub,rfl,hy,Tp⟩:=eD hk;obtain⟨c0,rfl,hc⟩:=gN hy;have Vp:∃x0,c0=.loop x0/\dG P n x0=x:=by
  cases c0<;>simp only[dG,reduceCtorEq,bP.loop.injEq]at hc
  case region=>(split at hc;cases hc);split at hc<;>cases hc
  exact⟨_,rfl,hc⟩
 obtain⟨x0,rfl,rfl⟩:=Vp;refine v8 (λm a w=>∃st,μ m st/\eU F st a w) ?_ m a w ⟨st,h0,hs⟩;rintro m a w ⟨st,hi,hs⟩;refine wpIn_mono (hr m st hi F hn (.code x0::.stop (λUC=>∃m',m'<m/\μ m' UC)::Ub) (by simp[KI.it,Tp]) a w hs) ?_;intro e a' w' h;cases e
 case normal=>obtain⟨UC,⟨m',u',YT⟩,RV⟩:=h;exact⟨m',u',UC,YT,RV⟩
 all_goals exact h
variable {P:Program} {n:Nat} {st:St} {Q:St->Prop} {k:List It}
def wH{o:Op}{e sz:Nat}{z:V}(h:Se P n o=.alloc e sz z):∃i zv,o=.alloc e/\zeroOf P e=some (i,zv)/\i.size=sz/\ofValue zv=z:=by
 cases o
 case alloc t=>
  simp only[Se,cH]at h;split at h
  .rename_i i zv hz;simp only[Sj.alloc.injEq]at h;obtain⟨rfl,h2,h3⟩:=h;exact⟨i,zv,rfl,hz,h2,h3⟩
  ·(repeat' split at h)<;>cases h
 case call c=>
  obtain⟨callee,args,argTypes⟩:=c;cases callee
  case builtin b=>cases b<;>simp only[Se,cH]at h<;>(repeat' split at h)<;>cases h
  all_goals (simp only[Se,cH]at h;cases h)
 case unOp op t x=>cases op<;>simp only[Se,cH]at h<;>cases h
 case makeFunc f a b=>cases f<;>simp only[Se,cH]at h<;>(repeat' split at h)<;>cases h
 all_goals (simp only[Se,cH]at h;(repeat' split at h)<;>cases h)
def wA{o:Op}{sz:Nat}{xa xv:VX}(h:Se P n o=.store sz xa xv):∃t x y,o=.store t x y/\bV P t=true/\P.cellsOf t=sz/\cx n x=xa/\cx n y=xv:=by
 cases o
 case store t x y=>
  simp only[Se,cH]at h;split at h
  .rename_i hk;simp only[Sj.store.injEq]at h;exact⟨t,x,y,rfl,hk,h.1,h.2.1,h.2.2⟩
  ·(repeat' split at h)<;>cases h
 case call c=>
  obtain⟨callee,args,argTypes⟩:=c;cases callee
  case builtin b=>cases b<;>simp only[Se,cH]at h<;>(repeat' split at h)<;>cases h
  all_goals (simp only[Se,cH]at h;cases h)
 case unOp op t x=>cases op<;>simp only[Se,cH]at h<;>cases h
 case makeFunc f a b=>cases f<;>simp only[Se,cH]at h<;>(repeat' split at h)<;>cases h
 all_goals (simp only[Se,cH]at h;(repeat' split at h)<;>cases h)
def uJ{o:Op}{e sz:Nat}{xs:List VX}(h:Se P n o=.iC e sz xs):∃t len parts i z,o=.buildSlice t len parts/\P.underlying t=some (.slice e)/\zeroOf P e=some (i,z)/\
 i.size=sz/\parts.toList.map (·.1)=List.range len/\len*i.size<=16777216/\parts.toList.map (λp=>cx n p.2)=xs:=by
 cases o
 case buildSlice t len parts=>
  simp only[Se,cH]at h;split at h
  .rename_i e' he;split at h
   .rename_i i z hz;split at h
    .rename_i hc;simp only[Sj.iC.injEq]at h;obtain⟨rfl,h2,h3⟩:=h;exact⟨t,len,parts,i,z,rfl,he,hz,h2,hc.1,hc.2,h3⟩
    .cases h
   .cases h
  .cases h
 case call c=>
  obtain⟨callee,args,argTypes⟩:=c;cases callee
  case builtin b=>cases b<;>simp only[Se,cH]at h<;>(repeat' split at h)<;>cases h
  all_goals (simp only[Se,cH]at h;cases h)
 case unOp op t x=>cases op<;>simp only[Se,cH]at h<;>cases h
 case makeFunc f a b=>cases f<;>simp only[Se,cH]at h<;>(repeat' split at h)<;>cases h
 all_goals (simp only[Se,cH]at h;(repeat' split at h)<;>cases h)
def F9{o:Op}{e sz bytes:Nat}{zv:V}{xn:VX}(h:Se P n o=.mk e sz bytes zv xn):∃t l c i z,o=.makeSlice t l c/\P.underlying t=some (.slice e)/\zeroOf P e=some (i,z)/\
 i.size=sz/\i.bytes=bytes/\ofValue z=zv/\tm l c=true/\cx n l=xn:=by
 cases o
 case makeSlice t l c=>
  simp only[Se,cH]at h;split at h
  .rename_i e' he;split at h
   .rename_i i z hz;split at h
    .rename_i hc;simp only[Sj.mk.injEq]at h;obtain⟨rfl,h2,h3,h4,h5⟩:=h;exact⟨t,l,c,i,z,rfl,he,hz,h2,h3,h4,hc,h5⟩
    .cases h
   .cases h
  .cases h
 case call c=>
  obtain⟨callee,args,argTypes⟩:=c;cases callee
  case builtin b=>cases b<;>simp only[Se,cH]at h<;>(repeat' split at h)<;>cases h
  all_goals (simp only[Se,cH]at h;cases h)
 case unOp op t x=>cases op<;>simp only[Se,cH]at h<;>cases h
 case makeFunc f a b=>cases f<;>simp only[Se,cH]at h<;>(repeat' split at h)<;>cases h
 all_goals (simp only[Se,cH]at h;(repeat' split at h)<;>cases h)
def zT{o:Op}{e sz bytes:Nat}{zv:V}{xa xb:VX}(h:Se P n o=.XG e sz bytes zv xa xb):∃t tn kn x y args argTypes i z,o=.call { callee:=.builtin .append,args:=args,argTypes:=argTypes }/\
 args=#[x,y]/\argTypes=#[t,tn]/\P.underlying t=some (.slice e)/\P.underlying tn=some (.int kn)/\zeroOf P e=some (i,z)/\i.size=sz/\i.bytes=bytes/\ofValue z=zv/\cx n x=xa/\cx n y=xb:=by
 cases o
 case call c=>
  obtain⟨callee,args,argTypes⟩:=c;cases callee
  case value=>simp[Se]at h
  case invoke=>simp[Se]at h
  case builtin b=>
   cases b
   case append=>
    simp only[Se,cH]at h;split at h
    .rename_i x y t t' h1 h2;split at h
     .split at h
      .split at h<;>cases h
      .cases h
     .split at h
      .rename_i e' kn he hn;split at h
       .rename_i i z hz;simp only[Sj.XG.injEq]at h;obtain⟨rfl,h4,h5,h6,h7,h8⟩:=h;exact⟨t,t',kn,x,y,args,argTypes,i,z,rfl,by apply Array.ext';simpa using h1,by apply Array.ext';simpa using h2,he,hn,hz,h4,h5,h6,h7,h8⟩
       .cases h
      .split at h<;>cases h
      .cases h
    .cases h
   all_goals (simp only[Se,cH]at h;(repeat' split at h)<;>cases h)
 case unOp op t x=>cases op<;>simp only[Se,cH]at h<;>cases h
 case makeFunc f a b=>cases f<;>simp only[Se,cH]at h<;>(repeat' split at h)<;>cases h
 all_goals (simp only[Se,cH]at h;(repeat' split at h)<;>cases h)
def uW{o:Op}{e sz bytes:Nat}{xa xb:VX}(h:Se P n o=.append e sz bytes xa xb):∃t t' x y args argTypes i z,o=.call { callee:=.builtin .append,args:=args,argTypes:=argTypes }/\
 args=#[x,y]/\argTypes=#[t,t']/\(t'=t\/P.underlying t'=some .string)/\P.underlying t=some (.slice e)/\zeroOf P e=some (i,z)/\i.size=sz/\i.bytes=bytes/\cx n x=xa/\cx n y=xb:=by
 cases o
 case call c=>
  obtain⟨callee,args,argTypes⟩:=c;cases callee
  case value=>simp[Se]at h
  case invoke=>simp[Se]at h
  case builtin b=>
   cases b
   case append=>
    simp only[Se,cH]at h;split at h
    .rename_i x y t t' h1 h2;split at h
     .rename_i htt;subst htt;split at h
      .rename_i e' he;split at h
       .rename_i i z hz;simp only[Sj.append.injEq]at h;obtain⟨rfl,h4,h5,h6,h7⟩:=h;exact⟨t,t,x,y,args,argTypes,i,z,rfl,by apply Array.ext';simpa using h1,by apply Array.ext';simpa using h2,.inl rfl,he,hz,h4,h5,h6,h7⟩
       .cases h
      .cases h
     .split at h
      .split at h<;>cases h
      .rename_i e' he hn;split at h
       .rename_i i z hz;simp only[Sj.append.injEq]at h;obtain⟨rfl,h4,h5,h6,h7⟩:=h;exact⟨t,t',x,y,args,argTypes,i,z,rfl,by apply Array.ext';simpa using h1,by apply Array.ext';simpa using h2,.inr hn,he,hz,h4,h5,h6,h7⟩
       .cases h
      .cases h
    .cases h
   all_goals (simp only[Se,cH]at h;(repeat' split at h)<;>cases h)
 case unOp op t x=>cases op<;>simp only[Se,cH]at h<;>cases h
 case makeFunc f a b=>cases f<;>simp only[Se,cH]at h<;>(repeat' split at h)<;>cases h
 all_goals (simp only[Se,cH]at h;(repeat' split at h)<;>cases h)
def nN{o:Op}{f:VX}{xs:List VX}(h:Se P n o=.call f xs):∃f0 args argTypes,o=.call { callee:=.value f0,args:=args,argTypes:=argTypes }/\cx n f0=f/\args.toList.map (cx n)=xs:=by
 cases o
 case call c=>
  obtain⟨callee,args,argTypes⟩:=c;cases callee
  case value f0=>simp only[Se,Sj.call.injEq]at h;exact⟨f0,args,argTypes,rfl,h.1,h.2⟩
  case invoke=>simp[Se]at h
  case builtin b=>cases b<;>simp only[Se,cH]at h<;>(repeat' split at h)<;>cases h
 case unOp op t x=>cases op<;>simp only[Se,cH]at h<;>cases h
 case makeFunc f a b=>cases f<;>simp only[Se,cH]at h<;>(repeat' split at h)<;>cases h
 all_goals (simp only[Se,cH]at h;(repeat' split at h)<;>cases h)
def CT{o:Op}{e sz:Nat}{xv:VX}(h:Se P n o=.box e sz xv):∃x,o=.box e x/\bV P e=true/\P.cellsOf e=sz/\cx n x=xv:=by
 cases o
 case box t x=>
  simp only[Se,cH]at h;split at h
  .rename_i hk;simp only[Sj.box.injEq]at h;obtain⟨rfl,h2,h3⟩:=h;exact⟨x,rfl,hk,h2,h3⟩
  .cases h
 case call c=>
  obtain⟨callee,args,argTypes⟩:=c;cases callee
  case builtin b=>cases b<;>simp only[Se,cH]at h<;>(repeat' split at h)<;>cases h
  all_goals (simp only[Se,cH]at h;cases h)
 case unOp op t x=>cases op<;>simp only[Se,cH]at h<;>cases h
 case makeFunc f a b=>cases f<;>simp only[Se,cH]at h<;>(repeat' split at h)<;>cases h
 all_goals (simp only[Se,cH]at h;(repeat' split at h)<;>cases h)
def DU{o:Op}{sz:Nat}{z:V}{xv:VX}(h:Se P n o=.clear sz z xv):∃x t e args argTypes i zv,o=.call { callee:=.builtin .clear,args:=args,argTypes:=argTypes }/\
 args=#[x]/\argTypes[0]?=some t/\P.underlying t=some (.slice e)/\zeroOf P e=some (i,zv)/\i.size=sz/\ofValue zv=z/\cx n x=xv:=by
 cases o
 case call c=>
  obtain⟨callee,args,argTypes⟩:=c;cases callee
  case builtin b=>
   cases b
   case clear=>
    simp only[Se,cH]at h;split at h
    .rename_i x t h1 h2;split at h
     .rename_i e he;split at h
      .rename_i i zv hz;simp only[Sj.clear.injEq]at h;exact⟨x,t,e,args,argTypes,i,zv,rfl,by apply Array.ext';simpa using h1,h2,he,hz,h.1,h.2.1,h.2.2⟩
      .cases h
     .cases h
    .cases h
   all_goals (simp only[Se,cH]at h;(repeat' split at h)<;>cases h)
  all_goals (simp only[Se,cH]at h;cases h)
 case unOp op t x=>cases op<;>simp only[Se,cH]at h<;>cases h
 case makeFunc f a b=>cases f<;>simp only[Se,cH]at h<;>(repeat' split at h)<;>cases h
 all_goals (simp only[Se,cH]at h;(repeat' split at h)<;>cases h)
def xp{F:Fr}{I:Mu}{a:Act}{w:World}(hs:dz F I st a w){o:Oper}{t:TypeId}{x:Operand}(XH:o.op=.box t x)(hk:bV P t=true)
 (hx:((cx F.n x).ev st.s).cells.length=P.cellsOf t)(RR:((cx F.n x).ev st.s).stays=true):
 ∃id,st.U id=none/\∃y w' Y',(execOp a.eval o).run P w=.ok (.value y) w'/\
  dz F Y' ⟨aY st.s (o.dst.filter (·<F.n)) (.ptr id 0 0),C' st.U id ⟨t,P.cellsOf t,[(cx F.n x).ev st.s]⟩⟩ (a.put o.dst y) w':=by
 have TN:=(eA hk).2.2;obtain⟨g1,g2⟩:=(cF hs x).cells RR;have hl:=(cF hs x).j8 RR;obtain⟨id,L',Y',h1,h2,h3,h4⟩:=hs.sat.renew (row:=none) (World.grownBy_alloc w (.cells (a.eval x).cells t) none) none (.inl rfl) w.heap.size (P.cellsOf t) 1 (a.eval x).cells t [(cx F.n x).ev st.s] (a.eval x).cells.toList (.inr (Sf _))
  (heap_alloc_new w _) TN (by omega) (by simp) (by simp[maxLen]) (by intro r hr;simp at hr;subst hr;exact hx)
  (by simp only[flat,xZ,List.flatMap_nil,j6];exact g1) g2 (by intro j u hu;simpa using hu)
 refine⟨id,L',.pointer (some ⟨w.heap.size,0,none⟩),w.alloc (.cells (a.eval x).cells t),Y',?_,hs.step h3 h2 h4 (by simp) (by simp[E',h1];exact TN)⟩;unfold execOp;rw[XH];simp[Instr.box,newVar,newRow]
def eZ{all:Array Oper}{o:Oper}{i:aS}(h:bL P n all o=i):Se P n o.op=i.op/\o.dst.filter (·<n)=i.dst:=by rw[<-h];exact⟨rfl,rfl⟩
def aq.alloc{i:aS}{l:List aS}{e sz:Nat}{z:V}(hw:bn st.s i.g=some true)(ho:i.op=.alloc e sz z)
 (h:∀id,st.U id=none->aq P n (.ops l::k) ⟨aY st.s i.dst (.ptr id 0 0),C' st.U id ⟨e,sz,[z]⟩⟩ Q):aq P n (.ops (i::l)::k) st Q:=by
 refine aq.ins (by rw[ho];simp) hw λF hn I a w o all hi hs next Q' RK=>?_
 subst hn;obtain⟨RN,hd⟩:=eZ hi;rw[ho]at RN;obtain⟨ti,zv,h1,h2,rfl,rfl⟩:=wH RN;obtain⟨id,L',x,w',Y',hx,RV⟩:=sC hs h1 h2;unfold Oper.wp;rw[hx];refine RK _ _ _ ⟨Y',?_⟩ (h id L');rw[<-hd];exact RV
def aq.box{i:aS}{l:List aS}{e sz:Nat}{xv:VX}(hw:bn st.s i.g=some true)(ho:i.op=.box e sz xv)
 (hx:(xv.ev st.s).cells.length=sz)(RR:(xv.ev st.s).stays=true)
 (h:∀id,st.U id=none->aq P n (.ops l::k) ⟨aY st.s i.dst (.ptr id 0 0),C' st.U id ⟨e,sz,[xv.ev st.s]⟩⟩ Q):aq P n (.ops (i::l)::k) st Q:=by
 refine aq.ins (by rw[ho];simp) hw λF hn I a w o all hi hs next Q' RK=>?_
 subst hn;obtain⟨RN,hd⟩:=eZ hi;rw[ho]at RN;obtain⟨x,h1,h2,rfl,rfl⟩:=CT RN;obtain⟨id,L',y,w',Y',hy,RV⟩:=xp hs h1 h2 hx RR;unfold Oper.wp;rw[hy];refine RK _ _ _ ⟨Y',?_⟩ (h id L');rw[<-hd];exact RV
def aq.store{i:aS}{l:List aS}{sz:Nat}{xa xv:VX}(hw:bn st.s i.g=some true)(ho:i.op=.store sz xa xv)
 {id r0 c:Nat}(h1:xa.ev st.s=.ptr id r0 c){ob:Ob}(h2:st.U id=some ob){r r':V}(h3:ob.rows[r0]?=some r)(h4:cN r c sz (xv.ev st.s)=some r')
 (h:aq P n (.ops l::k) ⟨aY st.s i.dst (.RM []),C' st.U id { ob with rows:=ob.rows.set r0 r' }⟩ Q):aq P n (.ops (i::l)::k) st Q:=by
 refine aq.ins (by rw[ho];simp) hw λF hn I a w o all hi hs next Q' RK=>?_
 subst hn;obtain⟨RN,hd⟩:=eZ hi;rw[ho]at RN;obtain⟨t,x,y,g1,g2,rfl,rfl,rfl⟩:=wA RN;obtain⟨w',hx,RV⟩:=rU hs g1 g2 h1 h2 h3 h4;unfold Oper.wp;rw[hx];refine RK _ _ _ ⟨I,?_⟩ h;rw[<-hd];exact RV
def aq.mkS{i:aS}{l:List aS}{e sz bytes:Nat}{zv:V}{xn:VX}(hw:bn st.s i.g=some true)(ho:i.op=.mk e sz bytes zv xn){m:Int}(hm:xn.ev st.s=.int .i64 m)
 (h0:0<=m)(hb:m.toNat*(bytes+1)<=140737488355328)
 (h:∀id,st.U id=none->aq P n (.ops l::k) ⟨aY st.s i.dst (.own id 0 m.toNat),C' st.U id ⟨e,sz,List.replicate m.toNat zv⟩⟩ Q):aq P n (.ops (i::l)::k) st Q:=by
 refine aq.ins (by rw[ho];simp) hw λF hn I a w o all hi hs next Q' RK=>?_
 subst hn;obtain⟨RN,hd⟩:=eZ hi;rw[ho]at RN;obtain⟨t,l',c,ti,z,h1,h2,h3,rfl,rfl,rfl,h5,rfl⟩:=F9 RN;obtain⟨id,L',x,w',Y',Sg,RV⟩:=AB hs h1 h5 h2 h3 hm h0 hb;unfold Oper.wp;rw[Sg];refine RK _ _ _ ⟨Y',?_⟩ (h id L');rw[<-hd];exact RV
def aq.NG{i:aS}{l:List aS}{e sz bytes:Nat}{zv:V}{xa xn:VX}(hw:bn st.s i.g=some true)(ho:i.op=.XG e sz bytes zv xa xn)(hx:xa.ev st.s=.bj){kq:IntKind}{m:Int}(hm:xn.ev st.s=.int kq m)
 (h0:0<m)(hb:m.toNat*(bytes+1)<=140737488355328)
 (h:∀id,st.U id=none->aq P n (.ops l::k) ⟨aY st.s i.dst (.own id 0 m.toNat),C' st.U id ⟨e,sz,List.replicate m.toNat zv⟩⟩ Q):aq P n (.ops (i::l)::k) st Q:=by
 refine aq.ins (by rw[ho];simp) hw λF hn I a w o all hi hs next Q' RK=>?_
 subst hn;obtain⟨RN,hd⟩:=eZ hi;rw[ho]at RN;obtain⟨t,tn,kn,x,y,args,argTypes,ti,z,h1,h2,h3,h4,h5,h6,rfl,rfl,rfl,rfl,rfl⟩:=zT RN;obtain⟨id,L',x,w',Y',Sg,RV⟩:=vH hs h1 h2 h3 h4 h5 h6 hx hm h0 hb;unfold Oper.wp;rw[Sg];refine RK _ _ _ ⟨Y',?_⟩ (h id L');rw[<-hd];exact RV
def aq.iC{i:aS}{l:List aS}{e sz:Nat}{xs:List VX}(hw:bn st.s i.g=some true)(ho:i.op=.iC e sz xs)
 (hx:∀x∈xs.map (·.ev st.s),x.cells.length=sz/\x.stays=true)
 (h:∀id,st.U id=none->aq P n (.ops l::k) ⟨aY st.s i.dst (.own id 0 xs.length),C' st.U id ⟨e,sz,xs.map (·.ev st.s)⟩⟩ Q):aq P n (.ops (i::l)::k) st Q:=by
 refine aq.ins (by rw[ho];simp) hw λF hn I a w o all hi hs next Q' RK=>?_
 subst hn;obtain⟨RN,hd⟩:=eZ hi;rw[ho]at RN;obtain⟨t,len,parts,ti,z,h1,h2,h3,rfl,h5,h6,rfl⟩:=uJ RN;rw[List.map_map]at hx;obtain⟨id,L',x,w',Y',Sg,RV⟩:=pZ hs h1 h2 h3 h5 h6 hx;unfold Oper.wp;rw[Sg];refine RK _ _ _ ⟨Y',?_⟩ (h id L');have hl:parts.size=len:=by have:=congrArg List.length h5;simpa using this
 simp only[dC,List.map_map,Array.length_toList,hl,<-hd];exact RV
def aq.append{i:aS}{l:List aS}{e sz bytes:Nat}{xa xb:VX}(hw:bn st.s i.g=some true)(ho:i.op=.append e sz bytes xa xb)
 {base src:List V}{idA:Option Nat}(h1:cm st.U e sz (xa.ev st.s)=some (base,idA))(h2:cB st.U sz (xb.ev st.s)=some src)
 (hb:(base.length+src.length)*(bytes+1)<=140737488355328)
 (h:∀id,st.U id=none->aq P n (.ops l::k) ⟨aY st.s i.dst (.own id 0 (base.length+src.length)),C' (bR st.U idA) id ⟨e,sz,base++src⟩⟩ Q):
 aq P n (.ops (i::l)::k) st Q:=by
 refine aq.ins (by rw[ho];simp) hw λF hn I a w o all hi hs next Q' RK=>?_
 subst hn;obtain⟨RN,hd⟩:=eZ hi;rw[ho]at RN;obtain⟨t,t',x,y,args,argTypes,ti,z,g1,g2,g3,g3',g4,g5,rfl,rfl,rfl,rfl⟩:=uW RN;obtain⟨id,L',r,w',Y',hx,RV⟩:=pK hs g1 g2 g3 g3' g4 g5 h1 h2 hb;unfold Oper.wp;rw[hx];refine RK _ _ _ ⟨Y',?_⟩ (h id L');rw[<-hd];exact RV
def gg(P:Program)(f:FuncId):Bool:=match P.funcs[f]? with
 |some fn=>fn.name != "runtime.NumGoroutine"&&fn.body.isSome
 |none=>false
def mA{w:World}{f:FuncId}(h:gg P f=true)(args:Array Value):(callFunc f args).run P w=.ok (.enter f args) w:=by
 unfold gg at h;split at h
 .rename_i fn hf;simp only[Ba,bne_iff_ne,ne_eq]at h;cases hb:fn.body with
  |none=>simp[hb]at h
  |some c=>simp[callFunc,hf,h.1,hb]
 .cases h
def aB(P:Program)(f:FuncId)(args:List V)(U:ak)(Post:V->ak->Prop):Prop:=gg P f=true/\rR P f args U Post
def aB.mono{f:FuncId}{args:List V}{U:ak}{Post V3:V->ak->Prop}(h:aB P f args U Post)(hp:∀r Z',Post r Z'->V3 r Z'):
 aB P f args U V3:=⟨h.1,h.2.mono hp⟩
def ax.app{I:Mu}{ow:Nat->Prop}{w:World}{vs us:List V}{l m:List Value}(h:ax I ow w vs l)(h':ax I ow w us m):ax I ow w (vs++us) (l++m):=h.append h'
def pc{F:Fr}{I:Mu}{a:Act}{w:World}(hs:dz F I st a w){o:Oper}{f0:Operand}{args:Array Operand}{argTypes:Array TypeId}
 (XH:o.op=.call { callee:=.value f0,args:=args,argTypes:=argTypes }){f:FuncId}{caps:List V}(hf:(cx F.n f0).ev st.s=.fn f caps)
 {Post:V->ak->Prop}(hc:aB P f ((args.toList.map (cx F.n)).map (·.ev st.s)++caps) st.U Post){next:Act->World->Prop}{Q':Exit->Act->World->Prop}
 (RK:∀r Z',Post r Z'->∀a' w',eU F ⟨aY st.s (o.dst.filter (·<F.n)) r,Z'⟩ a' w'->next a' w'):o.wp P a w next Q':=by
 have Wz:=cF hs f0;rw[hf]at Wz;simp only[E']at Wz;obtain⟨cvals,hfv,hcr⟩:=Wz;have SS:=(od hs args.toList).app hcr;have Su:(execOp a.eval o).run P w=.ok (.enter f ((args.toList.map a.eval++cvals).toArray)) w:=by
  unfold execOp;rw[XH];simp only[resolve,hfv,Deferred.ofValue,Sem.run_bind,Sem.run_pure,Result.andThen_ok,invoke,mA hc.1];congr 2;apply Array.ext';simp
 unfold Oper.wp;rw[Su];simp only[Oper.upon];have Ud:Sat w (aN I st.U) I st.U w:=by
  have h:=hs.sat;exact⟨Sf _,rfl,rfl,rfl,λ_ _ _=>rfl,h.fin,h.inj,h.obj,λb hb _=>hb,h.mV⟩
 refine(hc.2 I w _ Ud SS).mono ?_;rintro e w' ⟨r,Z',Y',val,rfl,hp,hle,RV,hr⟩;refine RK r Z' hp _ _ ⟨Y',?_⟩;have Uc:dc (aN I st.U) (aN Y' Z') w w':=λb hb hn=>⟨λho=>hn (RV.fresh b ho hb),RV.same b hb hn⟩
 have h0:=hs.sat;have Sq:Sat F.w0 F.SH Y' Z' w':=by
  refine⟨l9 h0.size RV.size,RV.os.trans h0.os,RV.tape.trans h0.tape,RV.output.trans h0.output,?_,RV.fin,RV.inj,RV.obj,?_,h0.UO⟩
  .intro b hb hn;have h1:¬aN I st.U b:=λho=>hn (h0.fresh b ho hb);rw[RV.same b (Nat.lt_of_lt_of_le hb h0.size) h1,h0.same b hb hn]
  .intro b hb u';have h1:=RV.fresh b hb (Nat.lt_of_lt_of_le u' h0.size);exact h0.fresh b h1 u'
 exact hs.step Sq hle Uc RV.size hr
def aq.call{i:aS}{l:List aS}{fx:VX}{xs:List VX}(hw:bn st.s i.g=some true)(ho:i.op=.call fx xs){f:FuncId}{caps:List V}(hf:fx.ev st.s=.fn f caps)
 {Post:V->ak->Prop}(hc:aB P f (xs.map (·.ev st.s)++caps) st.U Post)
 (h:∀r Z',Post r Z'->aq P n (.ops l::k) ⟨aY st.s i.dst r,Z'⟩ Q):aq P n (.ops (i::l)::k) st Q:=by
 refine aq.ins (by rw[ho];simp) hw λF hn I a w o all hi hs next Q' RK=>?_
 subst hn;obtain⟨RN,hd⟩:=eZ hi;rw[ho]at RN;obtain⟨f0,args,argTypes,g1,rfl,rfl⟩:=nN RN;refine pc hs g1 hf hc λr Z' hp a' w' RV=>RK _ a' w' RV ?_;rw[hd];exact h r Z' hp
def Ab{F:Fr}{I:Mu}{a:Act}{w:World}(hs:dz F I st a w){o:Oper}{f0:Operand}{args:Array Operand}{argTypes:Array TypeId}
 (XH:o.op=.call { callee:=.value f0,args:=args,argTypes:=argTypes }){f:FuncId}{first:List V}(hf:(cx F.n f0).ev st.s=.bm f first)
 {Post:V->ak->Prop}(hc:aB P f (first++(args.toList.map (cx F.n)).map (·.ev st.s)) st.U Post){next:Act->World->Prop}{Q':Exit->Act->World->Prop}
 (RK:∀r Z',Post r Z'->∀a' w',eU F ⟨aY st.s (o.dst.filter (·<F.n)) r,Z'⟩ a' w'->next a' w'):o.wp P a w next Q':=by
 have Wz:=cF hs f0;rw[hf]at Wz;simp only[E']at Wz;obtain⟨cvals,hfv,hcr⟩:=Wz;have SS:=hcr.app (od hs args.toList);have Su:(execOp a.eval o).run P w=.ok (.enter f ((cvals++args.toList.map a.eval).toArray)) w:=by
  unfold execOp;rw[XH];simp only[resolve,hfv,Deferred.ofValue,Sem.run_bind,Sem.run_pure,Result.andThen_ok,invoke,mA hc.1];congr 2;apply Array.ext';simp
 unfold Oper.wp;rw[Su];simp only[Oper.upon];have Ud:Sat w (aN I st.U) I st.U w:=by
  have h:=hs.sat;exact⟨Sf _,rfl,rfl,rfl,λ_ _ _=>rfl,h.fin,h.inj,h.obj,λb hb _=>hb,h.mV⟩
 refine(hc.2 I w _ Ud SS).mono ?_;rintro e w' ⟨r,Z',Y',val,rfl,hp,hle,RV,hr⟩;refine RK r Z' hp _ _ ⟨Y',?_⟩;have Uc:dc (aN I st.U) (aN Y' Z') w w':=λb hb hn=>⟨λho=>hn (RV.fresh b ho hb),RV.same b hb hn⟩
 have h0:=hs.sat;have Sq:Sat F.w0 F.SH Y' Z' w':=by
  refine⟨l9 h0.size RV.size,RV.os.trans h0.os,RV.tape.trans h0.tape,RV.output.trans h0.output,?_,RV.fin,RV.inj,RV.obj,?_,h0.UO⟩
  .intro b hb hn;have h1:¬aN I st.U b:=λho=>hn (h0.fresh b ho hb);rw[RV.same b (Nat.lt_of_lt_of_le hb h0.size) h1,h0.same b hb hn]
  .intro b hb u';have h1:=RV.fresh b hb (Nat.lt_of_lt_of_le u' h0.size);exact h0.fresh b h1 u'
 exact hs.step Sq hle Uc RV.size hr
def aq.mC{i:aS}{l:List aS}{fx:VX}{xs:List VX}(hw:bn st.s i.g=some true)(ho:i.op=.call fx xs){f:FuncId}{first:List V}(hf:fx.ev st.s=.bm f first)
 {Post:V->ak->Prop}(hc:aB P f (first++xs.map (·.ev st.s)) st.U Post)
 (h:∀r Z',Post r Z'->aq P n (.ops l::k) ⟨aY st.s i.dst r,Z'⟩ Q):aq P n (.ops (i::l)::k) st Q:=by
 refine aq.ins (by rw[ho];simp) hw λF hn I a w o all hi hs next Q' RK=>?_
 subst hn;obtain⟨RN,hd⟩:=eZ hi;rw[ho]at RN;obtain⟨f0,args,argTypes,g1,rfl,rfl⟩:=nN RN;refine Ab hs g1 hf hc λr Z' hp a' w' RV=>RK _ a' w' RV ?_;rw[hd];exact h r Z' hp
inductive VR where
 |tmp (x:VX)
 |cell (agg:Bool) (sz:Nat) (x:VX)
 |bad
def zF(P:Program)(n:Nat):ResultVar->VR
 |.tmp t=>.tmp (cx n (.tmp t))
 |.cell t ty=>if bV P ty then .cell (fF P ty) (P.cellsOf ty) (cx n (.tmp t))else .bad
def jA(st:St):VR->Option V
 |.tmp x=>some (x.ev st.s)
 |.cell agg sz x=>cQ st.U agg sz (x.ev st.s)
 |.bad=>none
def iy(st:St):List VR->Option (List V)
 |[]=>some []
 |r::rs=>match jA st r with
   |some v=>match iy st rs with
    |some vs=>some (v::vs)
    |none=>none
   |none=>none
def tf(st:St)(l:List VR):Option V:=match iy st l with
 |some [v]=>some v
 |some vs=>some (.RM vs)
 |none=>none
def Wq(l:List VR)(st:St)(Post:V->ak->Prop):Prop:=
 ∃v v' Z',tf st l=some v/\aa Z' st.U/\Wk st.U Z' v v'/\Post v' Z'
structure RB where
 n:Nat
 code:bP
 res:List VR
def cfn(P:Program)(fn:Func):Option RB:=match fn.body with
 |some c=>some ⟨fn.ntmps,dG P fn.ntmps c,fn.results.toList.map (zF P fn.ntmps)⟩
 |none=>none
def yf(tmps:Array Value):ResultVar->Go.Sem Value
 |.tmp t=>pure (tmps.getD t undef)
 |.cell b t=>do loadVar t (<-asAddr (tmps.getD b undef))
def Bu(fn:Func)(tmps:Array Value):results fn tmps=(do
 let vs <-Functor.map List.toArray (fn.results.toList.mapM (yf tmps))
 pure (if h:vs.size=1 then vs[0]else .tuple vs)):=by
 unfold results;rw[Array.mapM_eq_mapM_toList];congr 3
def xr{F:Fr}{I:Mu}{a:Act}{w:World}(hs:dz F I st a w)(r:ResultVar){v:V}(h:jA st (zF P F.n r)=some v):
 ∃x,(yf a.tmps r).run P w=.ok x w/\E' I (aN I st.U) w v x:=by
 cases r with
 |tmp t=>
  simp only[zF,jA,bf]at h;subst h;exact⟨_,rfl,cF hs (.tmp t)⟩
 |cell b t=>
  simp only[zF]at h;split at h
  .rename_i hk;simp only[jA]at h;have hx:=cF hs (.tmp b);obtain⟨z,h1,h2⟩:=xe (P:=P) hs.sat hk hx h;refine⟨z,?_,h2⟩;have he:a.eval (.tmp b)=a.tmps.getD b undef:=rfl;rw[he]at h1;simp only[Instr.loadAt,Sem.run_bind]at h1;simp only[yf,Sem.run_bind];generalize a.tmps.getD b undef=u at*;cases u<;>simp[Instr.sureAddr]at h1;rename_i p;cases p<;>simp[asAddr]at h1|-;exact h1
  .simp[jA]at h
def vV{F:Fr}{I:Mu}{a:Act}{w:World}(hs:dz F I st a w)(fn:Func){v:V}(h:tf st (fn.results.toList.map (zF P F.n))=some v):
 ∃x,(results fn a.tmps).run P w=.ok x w/\E' I (aN I st.U) w v x:=by
 have key:∀(l:List ResultVar) (vs:List V),iy st (l.map (zF P F.n))=some vs->
  ∃xs,(l.mapM (yf a.tmps)).run P w=.ok xs w/\ax I (aN I st.U) w vs xs:=by
  intro l
  induction l with
  |nil=>intro vs h;simp only[List.map_nil,iy,bf]at h;subst h;exact⟨[],rfl,by simp[ax]⟩
  |cons r l ih=>
   intro vs h;simp only[fC,iy]at h;split at h
   .rename_i v hv;split at h
    .rename_i vs' hvs;simp only[bf]at h;subst h;obtain⟨x,h1,h2⟩:=xr (P:=P) hs r hv;obtain⟨xs,h3,h4⟩:=ih vs' hvs;refine⟨x::xs,?_,by simp only[ax];exact⟨x,xs,rfl,h2,h4⟩⟩;rw[List.mapM_cons];simp only[Sem.run_bind];rw[h1];simp only[Result.andThen_ok];rw[h3];simp
    .cases h
   .cases h
 unfold tf at h;cases Tf:iy st (fn.results.toList.map (zF P F.n))with
 |none=>simp[Tf]at h
 |some vs=>
  obtain⟨xs,h1,h2⟩:=key _ _ Tf;have Su:(results fn a.tmps).run P w=.ok (if hl:xs.toArray.size=1 then xs.toArray[0]else .tuple xs.toArray) w:=by
   rw[Bu];simp only[Sem.run_bind,Sem.run_map];rw[h1];simp
  rw[Tf]at h
  match vs,h,h2 with
  |[],h,h2=>
   simp only[ax]at h2;subst h2;simp only[bf]at h;subst h;exact⟨_,Su,by simp[E',ax]⟩
  |[u],h,h2=>
   simp only[ax]at h2;obtain⟨x,xs',rfl,h3,rfl⟩:=h2;simp only[bf]at h;subst h;exact⟨_,Su,by simpa using h3⟩
  |u1::u2::us,h,h2=>
   simp only[bf]at h;subst h;have hlen:=h2.length;refine⟨_,Su,?_⟩;rw[dif_neg (by simp[hlen])];simp only[E'];exact⟨xs,rfl,h2⟩
def bU(args:List V):Nat->V:=λi=>args.getD i (.RM [])
def dz.Km{F:Fr}{I:Mu}{a:Act}{w:World}(hs:dz F I st a w){d:Deferred}{ds:List Deferred}(hd:a.defers=d::ds):
 ∃D w',d.target=.collected D/\(Instr.takeDeferred D).run P w=.ok [] w'/\dz F I st { a with defers:=ds } w':=by
 obtain⟨Ds,h1,h2,h3⟩:=hs.book.marks;rw[hd]at h1;cases Ds with
 |nil=>simp at h1
 |cons D Ds=>
  simp only[fC,List.cons.injEq]at h1;obtain⟨rfl,rfl⟩:=h1;obtain⟨g1,g2,g3⟩:=h3 D (by simp);simp only[List.nodup_cons]at h2;refine⟨D,w.putObj D (.deferred none),rfl,run_takeDeferred g2,?_⟩;have RU:∀b,b≠D->(w.putObj D (.deferred none)).heap[b]?=w.heap[b]?:=λb hb=>World.putObj_heap_other hb;have hk:qE (aN I st.U) (aN I st.U) w (w.putObj D (.deferred none)):=λb _ hn=>⟨hn,λoff x hx=>by
   by_cases hb:b=D
   .subst hb;simp[World.cell?,g2]at hx
   .exact fc (RU b hb) off x hx⟩
  have hz:w.heap.size<=(w.putObj D (.deferred none)).heap.size:=by simp
  refine⟨⟨by simpa using hs.sat.size,hs.sat.os,hs.sat.tape,hs.sat.output,λb hb hn=>(RU b (by omega)).trans (hs.sat.same b hb hn),hs.sat.fin,hs.sat.inj,λid o ho=>?_,hs.sat.fresh,hs.sat.UO⟩,
   hs.le,hs.size,⟨λl r e=>?_,Ds,rfl,h2.2,λD' hD'=>?_⟩,λi hi=>E'.bQ (dn.refl I) hk hz _ _ (hs.slot i hi)⟩
  .refine(hs.sat.obj id o ho).bQ (dn.refl I) hk hz λb sz cap hp=>RU b ?_;rintro rfl;exact g3 ⟨id,o,sz,cap,ho,hp⟩
  .obtain⟨q1,q2⟩:=hs.book.rnd l r e;refine⟨(RU l ?_).trans q1,q2⟩;rintro rfl;rw[g2]at q1;cases q1
  .obtain⟨q1,q2,q3⟩:=h3 D' (by simp[hD']);refine⟨q1,(RU D' ?_).trans q2,q3⟩;rintro rfl;exact h2.1 hD'
def wS{F:Fr}{I:Mu}{fn:Func}{R:Ending->World->Prop}:∀(ds:List Deferred) (a:Act) (w:World),a.defers=ds->dz F I st a w->
 (∀a' w',a'.tmps=a.tmps->dz F I st a' w'->∃v,(results fn a'.tmps).run P w'=.ok v w'/\R (.returned v) w')->LeavesInM F.eG 0 P fn a.tmps R ds .returning w
 |[],a,w,_,hs,h=>by
  obtain⟨v,h1,h2⟩:=h a w rfl hs;exact⟨v,h1,h2⟩
 |d::ds,a,w,hd,hs,h=>by
  obtain⟨D,w',h1,h2,h3⟩:=hs.Km (P:=P) hd;exact⟨by simp,.inl ⟨D,w',h1,h2,wS ds { a with defers:=ds } w' rfl h3 (λa' w' e RV=>h a' w' e RV)⟩⟩
def rR.nY{f:FuncId}{fn:Func}{vf:RB}(hf:P.funcs[f]?=some fn)(hv:cfn P fn=some vf){args:List V}{U:ak}{Post:V->ak->Prop}(hlen:args.length<=vf.n)
 (h:aq P vf.n [.code vf.code] ⟨bU args,U⟩ λst=>Wq vf.res st Post):rR P f args U Post:=by
 intro I w RI Ud hr;unfold cfn at hv;cases hb:fn.body with
 |none=>simp[hb]at hv
 |some c=>
  simp only[hb,bf]at hv;subst hv;simp only at h hlen;have hl:=hr.length;refine callsIn_wide.1 (callsIn_of_wp_marks (n:=0) hf hb trivial ?_ rfl);have hs:dz ⟨w,aN I U,I,fn.ntmps,none⟩ I ⟨bU args,U⟩ { tmps:=RI.toArray++Array.replicate (fn.ntmps-RI.toArray.size) undef,defers:=[] } w:=by
   refine⟨Ud,dn.refl I,by simp;omega,⟨λ_ _ e=>by simp at e,[],rfl,.nil,by simp⟩,λi hi=>?_⟩;simp only[bU];by_cases u':i<args.length
   .have hv:args[i]?=some (args.getD i (.RM [])):=by simp[List.getD,VH u']
    obtain⟨x,hx,hrx⟩:=hr.get hv;rw[Vn,Array.getElem?_append_left (by simp;omega)];simp only[List.getElem?_toArray,hx,Option.getD_some];exact hrx
   .have hv:args.getD i (.RM [])=.RM []:=by simp[List.getD,sW (Nat.le_of_not_lt u')]
    rw[hv,Vn,Array.getElem?_append_right (by simp;omega)];simp only[E'];refine⟨[],?_,by simp[ax]⟩;rw[Array.getElem?_replicate];split<;>rfl
  have TY:=h ⟨w,aN I U,I,fn.ntmps,none⟩ rfl [.code c] rfl _ w ⟨I,hs⟩;refine wpIn_mono (F:=Fence.wide) TY ?_;rintro e a' w' ⟨he,st,⟨v,v',Z',Wd,G',hwk,hpost⟩,Y',RV⟩;have Sq:LeavesInM Fence.wide 0 P fn a'.tmps (λe w'=>∃r Z' Y' val,e=Ending.returned val/\Post r Z'/\dn I Y'/\Sat w (aN I U) Y' Z' w'/\E' Y' (aN Y' Z') w' r val) a'.defers .returning w':=by
   refine wS (F:=⟨w,aN I U,I,fn.ntmps,none⟩) a'.defers a' w' rfl RV λa1 w1 _ Tg=>?_;obtain⟨x,hx,hrx⟩:=vV (P:=P) Tg fn Wd;exact⟨x,hx,v',Z',Y',x,rfl,hpost,Tg.le,Tg.sat.drop G',hwk Y' _ _ _ _ Tg.sat hrx⟩
  rcases he with rfl|rfl<;>exact Sq
def aB.nY{f:FuncId}{fn:Func}{vf:RB}(hf:P.funcs[f]?=some fn)(hv:cfn P fn=some vf)(SU:gg P f=true){args:List V}{U:ak}{Post:V->ak->Prop}(hlen:args.length<=vf.n)
 (h:aq P vf.n [.code vf.code] ⟨bU args,U⟩ λst=>Wq vf.res st Post):aB P f args U Post:=⟨SU,.nY hf hv hlen h⟩
structure Fo(P:Program)(f:FuncId)(fn:Func)(vf:RB):Prop where
 a:P.funcs[f]?=some fn
 b:cfn P fn=some vf:=by kernel_rfl
 c:gg P f=true:=by kernel_rfl
def Fo.r{P:Program}{f:FuncId}{fn:Func}{vf:RB}(h:Fo P f fn vf){args:List V}{U:ak}{Post:V->ak->Prop}(hlen:args.length<=vf.n)
 (k:aq P vf.n [.code vf.code] ⟨bU args,U⟩ λst=>Wq vf.res st Post):aB P f args U Post:=aB.nY h.a h.b h.c hlen k
def Fo.q{P:Program}{f:FuncId}{fn:Func}{vf:RB}(h:Fo P f fn vf){args:List V}{U:ak}{Post:V->ak->Prop}(k:aq P vf.n [.code vf.code] ⟨bU args,U⟩ λst=>Wq vf.res st Post)
 (hlen:Nat.ble args.length vf.n=true:=by exact rfl):aB P f args U Post:=h.r (Nat.le_of_ble_eq_true hlen) k
variable {P:Program} {n:Nat}
def cW(U:ak)(sz:Nat)(xa xv:V):Option ak:=
 match xa with
 |.ptr id i c=>match U id with
  |some ob=>match ob.rows[i]? with
   |some r=>match cN r c sz xv with
    |some r'=>some (C' U id ⟨ob.elem,ob.sz,ob.rows.set i r'⟩)
    |none=>none
   |none=>none
  |none=>none
 |_=>none
def Tm(s:Nat->V)(U:ak):Sj->Option (Nat->V×ak)
 |.alloc e sz z=>some λid=>(.ptr id 0 0,C' U id ⟨e,sz,[z]⟩)
 |.box e sz x=>if(x.ev s).cells.length=sz/\(x.ev s).stays=true then some λid=>(.ptr id 0 0,C' U id ⟨e,sz,[x.ev s]⟩)else none
 |.iC e sz xs=>if(xs.map (·.ev s)).all (λx=>decide (x.cells.length=sz)&&x.stays)then some λid=>(.own id 0 xs.length,C' U id ⟨e,sz,xs.map (·.ev s)⟩)else none
 |.append e sz bytes xa xb=>match cm U e sz (xa.ev s),cB U sz (xb.ev s)with
  |some (base,idA),some src=>if(base.length+src.length)*(bytes+1)<=140737488355328 then
     some λid=>(.own id 0 (base.length+src.length),C' (bR U idA) id ⟨e,sz,base++src⟩)else none
  |_,_=>none
 |.mk e sz bytes z x=>match x.ev s with
  |.int .i64 m=>if 0<=m/\m.toNat*(bytes+1)<=140737488355328 then some λid=>(.own id 0 m.toNat,C' U id ⟨e,sz,List.replicate m.toNat z⟩)else none
  |_=>none
 |.XG e sz bytes z y x=>match y.ev s,x.ev s with
  |.bj,.int _ m=>if 0<m/\m.toNat*(bytes+1)<=140737488355328 then some λid=>(.own id 0 m.toNat,C' U id ⟨e,sz,List.replicate m.toNat z⟩)else none
  |_,_=>none
 |_=>none
def TO(P:Program)(dst:Option Nat)(op:Sj)(x:St)(K:St->Prop):Prop:=
 match bt op with
 |0=>ga x.s op/\∃v,aT x.U x.s op=some v/\K ⟨aY x.s dst v,x.U⟩
 |1=>match op with
  |.call fx xs=>∃f caps v,fx.ev x.s=.fn f caps/\(∀Z1,aa x.U Z1->aB P f (xs.map (·.ev x.s)++caps) Z1 (λr Z'=>r=v/\Z'=Z1))/\K ⟨aY x.s dst v,x.U⟩
  |_=>False
 |2=>match op with
  |.store sz xa xv=>∃Z',cW x.U sz (xa.ev x.s) (xv.ev x.s)=some Z'/\K ⟨aY x.s dst (.RM []),Z'⟩
  |_=>False
 |3=>∃g,Tm x.s x.U op=some g/\∀id,x.U id=none->K ⟨aY x.s dst (g id).1,(g id).2⟩
 |_=>False
def T(P:Program)(i:aS)(x:St)(K:St->Prop):Prop:=
 match bn x.s i.g with
 |some true=>TO P i.dst i.op x K
 |some false=>K ⟨aY x.s i.dst (.RM []),x.U⟩
 |none=>False
def TO.mono{dst:Option Nat}{op:Sj}{x:St}{K K':St->Prop}(hk:∀x,K x->K' x)(h:TO P dst op x K):TO P dst op x K':=by
 unfold TO at*;split<;>rename_i ho<;>simp only[ho]at h
 .obtain⟨h1,v,h2,h3⟩:=h;exact⟨h1,v,h2,hk _ h3⟩
 .split at h
  .obtain⟨f,caps,v,h1,h2,h3⟩:=h;exact⟨f,caps,v,h1,h2,hk _ h3⟩
  .exact h.elim
 .split at h
  .obtain⟨Z',h1,h2⟩:=h;exact⟨Z',h1,hk _ h2⟩
  .exact h.elim
 .obtain⟨g,h1,h2⟩:=h;exact⟨g,h1,λid L'=>hk _ (h2 id L')⟩
def T.mono{i:aS}{x:St}{K K':St->Prop}(hk:∀x,K x->K' x)(h:T P i x K):T P i x K':=by
 unfold T at*;split<;>rename_i ho<;>simp only[ho]at h
 .exact h.mono hk
 .exact hk _ h
def We(U:ak):Prop:=∀N,∃id,N<=id/\U id=none
def We.C'{U:ak}(h:We U)(id:Nat)(o:Ob):We (C' U id o):=λN=>by
 obtain⟨i,h1,h2⟩:=h (max N (id+1));exact⟨i,by omega,by simp[Vc.C',show i≠id by omega,h2]⟩
def We.bR{U:ak}(h:We U)(o:Option Nat):We (bR U o):=λN=>by
 obtain⟨i,h1,h2⟩:=h N;refine⟨i,h1,?_⟩;cases o with
 |none=>exact h2
 |some j=>simp only[Vc.bR,del];split<;>simp_all
def eU.inf{F:Fr}{st:St}{a:Act}{w:World}(h:eU F st a w):We st.U:=by
 obtain⟨I,h⟩:=h;obtain⟨N,hN⟩:=h.sat.fin;intro M;refine⟨max N M,by omega,?_⟩;cases ho:st.U (max N M)with
 |none=>rfl
 |some o=>
  have:=h.sat.obj _ o ho;rw[hN _ (by omega)]at this;exact this.elim
def Ic{s:Nat->V}{U:ak}(h:We U){op:Sj}{g:Nat->V×ak}(he:Tm s U op=some g)(id:Nat):We (g id).2:=by
 unfold Tm at he;split at he
 .simp only[bf]at he;subst he;exact h.C' _ _
 .split at he
  .simp only[bf]at he;subst he;exact h.C' _ _
  .cases he
 .split at he
  .simp only[bf]at he;subst he;exact h.C' _ _
  .cases he
 .split at he
  .split at he
   .simp only[bf]at he;subst he;exact(h.bR _).C' _ _
   .cases he
  .cases he
 .split at he
  .split at he
   .simp only[bf]at he;subst he;exact h.C' _ _
   .cases he
  .cases he
 .split at he
  .split at he
   .simp only[bf]at he;subst he;exact h.C' _ _
   .cases he
  .cases he
 .cases he
def Bs{U Z':ak}(h:We U){sz:Nat}{a v:V}(he:cW U sz a v=some Z'):We Z':=by
 unfold cW at he;split at he
 .split at he
  .split at he
   .split at he
    .simp only[bf]at he;subst he;exact h.C' _ _
    .cases he
   .cases he
  .cases he
 .cases he
def TO.inf{dst:Option Nat}{op:Sj}{x:St}{K:St->Prop}(hi:We x.U)(h:TO P dst op x K):TO P dst op x λx'=>We x'.U/\K x':=by
 unfold TO at*;split<;>rename_i ho<;>simp only[ho]at h
 .obtain⟨h1,v,h2,h3⟩:=h;exact⟨h1,v,h2,hi,h3⟩
 .split at h
  .obtain⟨f,caps,v,h1,h2,h3⟩:=h;exact⟨f,caps,v,h1,h2,hi,h3⟩
  .exact h.elim
 .split at h
  .obtain⟨Z',h1,h2⟩:=h;exact⟨Z',h1,Bs hi h1,h2⟩
  .exact h.elim
 .obtain⟨g,h1,h2⟩:=h;exact⟨g,h1,λid L'=>⟨Ic hi h1 id,h2 id L'⟩⟩
def T.inf{i:aS}{x:St}{K:St->Prop}(hi:We x.U)(h:T P i x K):T P i x λx'=>We x'.U/\K x':=by
 unfold T at*;split<;>rename_i ho<;>simp only[ho]at h
 .exact h.inf hi
 .exact⟨hi,h⟩
def GW{s:Nat->V}{d:Option Nat}{v:V}{x:VX}(h:∀t,d=some t->x.Ig≠some t):x.ev (aY s d v)=x.ev s:=by
 cases d with
 |none=>rfl
 |some t=>
  cases x with
  |c _=>rfl
  |t u=>
   simp only[VX.ev,aY];have:=h t rfl;simp only[VX.Ig,ne_eq,bf]at this;rw[aM this]
def rm{s s':Nat->V}{l:List VX}(h:∀x∈l,x.ev s=x.ev s'):l.map (·.ev s)=l.map (·.ev s'):=List.map_congr_left h
def p9{s s':Nat->V}{l:Option VX}(h:∀x∈l.toList,x.ev s=x.ev s'):l.map (·.ev s)=l.map (·.ev s'):=by
 cases l with
 |none=>rfl
 |some x=>simp[h x (by simp)]
def rG{s s':Nat->V}{U:ak}{op:Sj}(h:∀x∈op.xs,x.ev s=x.ev s'):aT U s op=aT U s' op/\(ga s op↔ga s' op):=by
 cases op<;>simp only[Sj.xs,dZ,List.not_mem_nil,or_false,forall_eq_or_imp,forall_eq,fH]at h<;>
  simp only[aT,ga,h,and_true,and_self]
 case slice UI x lo hi mx=>
  rw[p9 (l:=lo) (λy hy=>h.2 y (.inl (.inl hy))),p9 (l:=hi) (λy hy=>h.2 y (.inl (.inr hy))),p9 (l:=mx) (λy hy=>h.2 y (.inr hy))]
 case XE x lo hi=>
  rw[p9 (l:=lo) (λy hy=>h.2 y (.inl hy)),p9 (l:=hi) (λy hy=>h.2 y (.inr hy))]
 case mkfn f xs=>rw[rm h]
 case more m xs=>
  by_cases hb:∃f,m=.mkB f
  .obtain⟨f,rfl⟩:=hb;have e:=rm h;cases xs with
   |nil=>rfl
   |cons x xs=>cases xs<;>exact congrArg (λl=>some (V.bm f l)) e
  cases xs with
  |nil=>cases m<;>rfl
  |cons x xs=>
   have hx:=h x (by simp);cases xs with
   |nil=>cases m<;>first|rfl|exact absurd ⟨_,rfl⟩ hb|simp only[hx]
   |cons y ys=>cases m<;>first|rfl|exact absurd ⟨_,rfl⟩ hb
 case build z ps=>
  have:(ps.map λp=>(p.1,p.2.1,p.2.2.ev s))=ps.map λp=>(p.1,p.2.1,p.2.2.ev s'):=List.map_congr_left λp hp=>by
   rw[h _ (iD.2 ⟨p,hp,rfl⟩)]
  rw[this]
def fQ{s s':Nat->V}{U:ak}{op:Sj}(h:∀x∈op.xs,x.ev s=x.ev s'):Tm s U op=Tm s' U op:=by
 cases op<;>simp only[Sj.xs,dZ,List.not_mem_nil,or_false,forall_eq_or_imp,forall_eq,fH]at h<;>
  simp only[Tm,h]
 case iC e sz xs=>rw[rm h]
def AO{s:Nat->V}{U Z':ak}{op:Sj}(h:kY op=true):aT U s op=aT Z' s op:=by
 cases op
 case more m xs=>
  cases xs with
  |nil=>cases m<;>rfl
  |cons x xs=>cases xs<;>cases m<;>rfl
 all_goals first|rfl|simp[kY]at h
variable {P:Program} {n:Nat}
def apart_spec{A B:aS}(h:Bv A B=true):(∀d,A.dst=some d->d∉B.l4)/\(∀d,B.dst=some d->d∉A.l4)/\(∀d,A.dst=some d->B.dst≠some d):=by
 simp only[Bv,Ba]at h;obtain⟨h1,h2⟩:=h;refine⟨λd hd=>?_,λd hd=>?_,λd hd=>?_⟩
 .rw[hd]at h1;simp at h1;exact h1.1
 .rw[hd]at h2;simpa using h2
 .rw[hd]at h1;simp at h1;exact h1.2
def D0{s:Nat->V}{a b:Option Nat}{u v:V}(h:∀d,a=some d->b≠some d):aY (aY s a u) b v=aY (aY s b v) a u:=by
 cases a with
 |none=>rfl
 |some x=>
  cases b with
  |none=>rfl
  |some y=>
   have RU:y≠x:=λe=>h x rfl (by rw[e]);funext i;simp only[aY];by_cases h1:i=y<;>by_cases h2:i=x<;>simp_all
def CH{i:aS}{x:VX}(hx:x∈i.op.xs){t:Nat}(ht:x.Ig=some t):t∈i.l4:=
 List.mem_filterMap.2 ⟨x,List.mem_append_left _ hx,ht⟩
def iE{i:aS}{d:Option Nat}{v:V}(h:∀t,d=some t->t∉i.l4)(s:Nat->V):∀x∈i.op.xs,x.ev (aY s d v)=x.ev s:=
 λ_ hx=>GW λt ht e=>h t ht (CH hx e)
def cy{i:aS}{d:Option Nat}{v:V}(h:∀t,d=some t->t∉i.l4)(s:Nat->V):bn (aY s d v) i.g=bn s i.g:=by
 cases hg:i.g with
 |none=>rfl
 |some g=>
  obtain⟨x,b⟩:=g;have:x.ev (aY s d v)=x.ev s:=GW λt ht e=>h t ht (List.mem_filterMap.2 ⟨x,List.mem_append_right _ (by simp[hg]),e⟩);simp only[bn,this]
def QO(P:Program)(op:Sj)(s:Nat->V)(U:ak)(v:V):Prop:=
 match bt op with
 |0=>ga s op/\aT U s op=some v
 |1=>match op with
  |.call fx xs=>∃f caps,fx.ev s=.fn f caps/\∀Z1,aa U Z1->aB P f (xs.map (·.ev s)++caps) Z1 (λr Z'=>r=v/\Z'=Z1)
  |_=>False
 |_=>False
def QY(P:Program)(i:aS)(s:Nat->V)(U:ak)(v:V):Prop:=
 (bn s i.g=some true/\QO P i.op s U v)\/(bn s i.g=some false/\v=.RM [])
def cD{i:aS}(hq:fT i=true){x:St}{K:St->Prop}:T P i x K↔∃v,QY P i x.s x.U v/\K ⟨aY x.s i.dst v,x.U⟩:=by
 simp only[fT,Uy]at hq;unfold T QY;cases hw:bn x.s i.g with
 |none=>simp
 |some b=>
  cases b
  .simp
  .simp only[true_and,bf,Bool.true_eq_false,false_and,or_false];unfold TO QO;have:bt i.op=0\/bt i.op=1:=by omega
   rcases this with h0|h0<;>simp only[h0]
   .constructor
    .rintro⟨h1,v,h2,h3⟩;exact⟨v,⟨h1,h2⟩,h3⟩
    .rintro⟨v,⟨h1,h2⟩,h3⟩;exact⟨h1,v,h2,h3⟩
   .cases RN:i.op<;>simp[bt,RN]at h0|-;constructor
    .rintro⟨f,caps,h1,v,h2,h3⟩;exact⟨v,⟨f,caps,h1,h2⟩,h3⟩
    .rintro⟨v,⟨f,caps,h1,h2⟩,h3⟩;exact⟨f,caps,h1,v,h2,h3⟩
def vg{op:Sj}{s s':Nat->V}{U:ak}{v:V}(h:∀x∈op.xs,x.ev s=x.ev s')(hq:QO P op s U v):QO P op s' U v:=by
 unfold QO at*;by_cases h0:bt op=0
 .obtain⟨h1,h2⟩:=rG (U:=U) h;simp only[h0]at hq|-;exact⟨h2.1 hq.1,h1▸hq.2⟩
 .by_cases h1:bt op=1
  .simp only[h1]at hq|-;cases op<;>simp only[]at hq<;>first|exact hq.elim|skip
   rename_i fx xs;obtain⟨f,caps,g1,g2⟩:=hq;refine⟨f,caps,?_,?_⟩
   .rw[<-h fx (by simp[Sj.xs])];exact g1
   .rw[<-rm (s:=s) (s':=s') λx hx=>h x (by simp[Sj.xs,hx])];exact g2
  .exfalso;revert hq;split<;>simp_all
def gj{i:aS}{s:Nat->V}{U:ak}{v u:V}{d:Option Nat}(h:∀t,d=some t->t∉i.l4):QY P i (aY s d u) U v↔QY P i s U v:=by
 unfold QY;rw[cy h];constructor
 .rintro(⟨h1,h2⟩|h1)
  .exact .inl ⟨h1,vg (iE h s) h2⟩
  .exact .inr h1
 .rintro(⟨h1,h2⟩|h1)
  .exact .inl ⟨h1,vg (λx hx=>(iE h s x hx).symm) h2⟩
  .exact .inr h1
def mn{op:Sj}(h:kY op=true):bt op=0:=by
 cases op
 case more m xs=>cases m<;>simp[kY,bt]at h|-
 all_goals simp[kY,bt]at h|-
def kP{i:aS}(hf:kY i.op=true){s:Nat->V}{U Z':ak}{v:V}(h:QY P i s U v):QY P i s Z' v:=by
 rcases h with⟨h1,h2⟩|h1
 .refine .inl ⟨h1,?_⟩;unfold QO at*;simp only[mn hf]at*;exact⟨h2.1,by rw[<-AO (U:=U) hf];exact h2.2⟩
 .exact .inr h1
def KX{i:aS}(hf:kY i.op=true){s:Nat->V}{U:ak}{v v':V}(h:QY P i s U v)(h':QY P i s U v'):v=v':=by
 rcases h with⟨h1,h2⟩|⟨h1,h2⟩<;>rcases h' with⟨g1,g2⟩|⟨g1,g2⟩
 .unfold QO at*;simp only[mn hf]at*;have:=h2.2.symm.trans g2.2;simpa using this
 .rw[h1]at g1;cases g1
 .rw[h1]at g1;cases g1
 .rw[h2,g2]
def ir{i:aS}(he:te i=true){x:St}{K:St->Prop}:T P i x K↔
 (bn x.s i.g=some false/\K ⟨aY x.s i.dst (.RM []),x.U⟩)\/
 (bn x.s i.g=some true/\((∃sz xa xv Z',i.op=.store sz xa xv/\cW x.U sz (xa.ev x.s) (xv.ev x.s)=some Z'/\K ⟨aY x.s i.dst (.RM []),Z'⟩)\/
   (bt i.op=3/\∃g,Tm x.s x.U i.op=some g/\∀id,x.U id=none->K ⟨aY x.s i.dst (g id).1,(g id).2⟩))):=by
 unfold T;cases hw:bn x.s i.g with
 |none=>simp
 |some b=>
  cases b
  .simp
  .simp only[bf,Bool.true_eq_false,false_and,false_or,true_and];unfold TO;simp only[te,kO,beq_iff_eq]at he;rcases he with h0|h0<;>simp only[h0]
   .cases RN:i.op<;>simp[bt,RN]at h0|-;constructor
    .rintro⟨Z',h1,h2⟩;exact⟨_,_,_,⟨rfl,rfl,rfl⟩,Z',h1,h2⟩
    .rintro⟨_,_,_,⟨rfl,rfl,rfl⟩,Z',h1,h2⟩;exact⟨Z',h1,h2⟩
   .have:∀sz xa xv,i.op≠.store sz xa xv:=λ_ _ _ e=>by rw[e]at h0;simp[bt]at h0
    simp[this]
def lD(s:Nat->V):Sj->Option Nat
 |.load _ _ x=>match x.ev s with
   |.ptr id _ _=>some id
   |_=>none
 |.XD _ x _=>match x.ev s with
   |.own id _ _=>some id
   |_=>none
 |.slice _ x _ _ _=>match x.ev s with
   |.own id _ _=>some id
   |_=>none
 |.Zi x=>match x.ev s with
   |.own id _ _=>some id
   |_=>none
 |_=>none
def BC{s:Nat->V}{U Z':ak}{op:Sj}(h:∀j,lD s op=some j->U j=Z' j):aT U s op=aT Z' s op:=by
 cases op<;>try rfl
 case more m xs=>
  cases xs with
  |nil=>cases m<;>rfl
  |cons x xs=>cases xs<;>cases m<;>rfl
 case load agg sz x=>
  simp only[lD]at h;simp only[aT,cQ];split
  .rename_i id i k hx;simp only[hx,bf,forall_eq']at h;rw[h]
  .rfl
  .rfl
 case XD UI x i=>
  simp only[lD]at h;simp only[aT];generalize x.ev s=xv at*;generalize i.ev s=iv at*;cases xv<;>try (cases iv<;>rfl)
  case own id off len=>
   simp only[bf,forall_eq']at h;cases iv<;>try rfl
   simp only[bG,h]
 case Zi x=>
  simp only[lD]at h;simp only[aT];generalize x.ev s=xv at*;cases xv<;>try rfl
  case own id off len=>
   simp only[bf,forall_eq']at h;simp only[dS,h]
 case slice UI x lo hi mx=>
  simp only[lD]at h;simp only[aT,dE];split
  .rename_i id off len hx;simp only[hx,bf,forall_eq']at h;have:jS U id UI=jS Z' id UI:=by simp only[jS,h]
   simp only[this]
  .rfl
  .rfl
  .rfl
def By{s:Nat->V}{U:ak}{op:Sj}{v:V}(hv:aT U s op=some v){j:Nat}(hj:lD s op=some j):U j≠none:=by
 intro hn;cases op<;>simp only[lD,reduceCtorEq]at hj
 case load agg sz x=>
  split at hj
  .rename_i id i k hx;simp only[bf]at hj;subst hj;simp[aT,cQ,hx,hn]at hv
  .cases hj
 case XD UI x i=>
  split at hj
  .rename_i id off len hx;simp only[bf]at hj;subst hj;simp only[aT]at hv;rw[hx]at hv;generalize i.ev s=iv at hv;cases iv<;>simp[bG,hn]at hv
  .cases hj
 case Zi x=>
  split at hj
  .rename_i id off len hx;simp only[bf]at hj;subst hj;simp[aT,dS,hx,hn]at hv
  .cases hj
 case slice UI x lo hi mx=>
  split at hj
  .rename_i id off len hx;simp only[bf]at hj;subst hj;simp only[aT,dE,hx,jS,hn]at hv;split at hv
   .simp at hv
   .cases hv
  .cases hj
def tj{i:aS}(h:ZT i=true):bt i.op=3/\∀s U g,Tm s U i.op=some g->∀id j,j≠id->(g id).2 j=U j:=by
 unfold ZT at h;split at h
 .rename_i RN;refine⟨by rw[RN];rfl,λs U g hg id j hj=>?_⟩;rw[RN]at hg;simp only[Tm,bf]at hg;subst hg;simp[Vc.C',hj]
 .rename_i RN;refine⟨by rw[RN];rfl,λs U g hg id j hj=>?_⟩;rw[RN]at hg;simp only[Tm]at hg;split at hg
  .simp only[bf]at hg;subst hg;simp[Vc.C',hj]
  .cases hg
 .rename_i RN;refine⟨by rw[RN];rfl,λs U g hg id j hj=>?_⟩;rw[RN]at hg;simp only[Tm]at hg;split at hg
  .simp only[bf]at hg;subst hg;simp[Vc.C',hj]
  .cases hg
 .rename_i RN;refine⟨by rw[RN];rfl,λs U g hg id j hj=>?_⟩;rw[RN]at hg;simp only[Tm]at hg;split at hg
  .split at hg
   .simp only[bf]at hg;subst hg;simp[Vc.C',hj]
   .cases hg
  .cases hg
 .cases h
def An{i:aS}(h:D9 i=true):bt i.op=3/\∀s U g,Tm s U i.op=some g->∀id j,j≠id->(g id).2 j=U j\/(g id).2 j=none:=by
 by_cases hm:ZT i=true
 .exact⟨(tj hm).1,λs U g hg id j hj=>.inl ((tj hm).2 s U g hg id j hj)⟩
 .unfold D9 at h;unfold ZT at hm;cases RN:i.op<;>rw[RN]at h hm<;>simp at h hm;refine⟨rfl,λs U g hg id j hj=>?_⟩;simp only[Tm]at hg;split at hg
  .split at hg
   .simp only[bf]at hg;subst hg;rename_i idA _ _ _ _ _;simp only[Vc.C',aM hj];rename_i base idA src _ _ _;cases idA with
    |none=>exact .inl rfl
    |some a=>
     simp only[bR,del];split
     .exact .inr rfl
     .exact .inl rfl
   .cases hg
  .cases hg
def yM{i:aS}(hp:kJ i=true){s:Nat->V}{U Z':ak}(h:∀j,lD s i.op=some j->U j=Z' j){v:V}(hq:QY P i s U v):QY P i s Z' v:=by
 simp only[kJ,beq_iff_eq]at hp;rcases hq with⟨h1,h2⟩|h1
 .refine .inl ⟨h1,?_⟩;unfold QO at*;simp only[hp]at*;exact⟨h2.1,by rw[<-BC h];exact h2.2⟩
 .exact .inr h1
def yG{i:aS}(hp:kJ i=true){s:Nat->V}{U:ak}{v v':V}(h:QY P i s U v)(h':QY P i s U v'):v=v':=by
 simp only[kJ,beq_iff_eq]at hp;rcases h with⟨h1,h2⟩|⟨h1,h2⟩<;>rcases h' with⟨g1,g2⟩|⟨g1,g2⟩
 .unfold QO at*;simp only[hp]at*;have:=h2.2.symm.trans g2.2;simpa using this
 .rw[h1]at g1;cases g1
 .rw[h1]at g1;cases g1
 .rw[h2,g2]
def tz{i:aS}(hp:kJ i=true){s:Nat->V}{U:ak}{v:V}(h:QY P i s U v)(hw:bn s i.g=some true){j:Nat}(hj:lD s i.op=some j):U j≠none:=by
 simp only[kJ,beq_iff_eq]at hp;rcases h with⟨_,h2⟩|⟨h1,_⟩
 .unfold QO at h2;simp only[hp]at h2;exact By h2.2 hj
 .rw[hw]at h1;cases h1
def x8{i:aS}{s:Nat->V}{U Z':ak}{v:V}(h:QY P i s U v)(hw:bn s i.g≠some true):QY P i s Z' v:=by
 rcases h with⟨h1,_⟩|h1
 .exact absurd h1 hw
 .exact .inr h1
def EE{i:aS}(hp:kJ i=true){s:Nat->V}{U Z':ak}{id:Nat}(L':U id=none)(R8:∀j,j≠id->Z' j=U j){v:V}(h:QY P i s U v):QY P i s Z' v:=by
 by_cases hw:bn s i.g=some true
 .refine yM hp (λj hj=>?_) h;have:=tz hp h hw hj;rw[R8 j (λe=>this (e▸L'))]
 .exact x8 h hw
def Ek{i:aS}(hq:fT i=true){s:Nat->V}{U Z':ak}{id:Nat}(L':U id=none)(R8:∀j,j≠id->Z' j=U j){v:V}(h:QY P i s U v):QY P i s Z' v:=by
 by_cases hp:kJ i=true
 .exact EE hp L' R8 h
 .have G':aa U Z':=λj o hj=>by rw[R8 j (λe=>by rw[e,L']at hj;cases hj)];exact hj
  rcases h with⟨h1,h2⟩|h1
  .refine .inl ⟨h1,?_⟩;have hk:bt i.op=1:=by
    simp only[fT,Uy]at hq;simp only[kJ,beq_iff_eq]at hp;omega
   unfold QO at*;simp only[hk]at*;split at h2
   .obtain⟨f,caps,g1,g2⟩:=h2;exact⟨f,caps,g1,λZ1 hs=>g2 Z1 (G'.trans hs)⟩
   .exact h2.elim
  .exact .inr h1
def A9{i:aS}(h:ZT i=true){s:Nat->V}{U:ak}{g:Nat->V×ak}(hg:Tm s U i.op=some g):
 ∃(vf:Nat->V) (ob:Ob),(∀id,g id=(vf id,Vc.C' U id ob))/\∀Z',Tm s Z' i.op=some λid=>(vf id,Vc.C' Z' id ob):=by
 unfold ZT at h;split at h
 .rename_i RN;rw[RN]at hg|-;simp only[Tm,bf]at hg;subst hg;exact⟨_,_,λ_=>rfl,λ_=>rfl⟩
 .rename_i RN;rw[RN]at hg|-;simp only[Tm]at hg|-;split at hg
  .rename_i hc;simp only[bf]at hg;subst hg;exact⟨_,_,λ_=>rfl,λZ'=>by rw[aK hc]⟩
  .cases hg
 .rename_i RN;rw[RN]at hg|-;simp only[Tm]at hg|-;split at hg
  .rename_i hc;simp only[bf]at hg;subst hg;exact⟨_,_,λ_=>rfl,λZ'=>by rw[aK hc]⟩
  .cases hg
 .rename_i RN;rw[RN]at hg|-;simp only[Tm]at hg|-;split at hg
  .rename_i hx;split at hg
   .rename_i hc;simp only[bf]at hg;subst hg;exact⟨_,_,λ_=>rfl,λZ'=>by rw[aK hc]⟩
   .cases hg
  .cases hg
 .cases h
def ov{op:Sj}(hk:bt op=3){sz:Nat}{xa xv:VX}(RN:op=.store sz xa xv):False:=by rw[RN]at hk;simp[bt]at hk
def wT{U:ak}{a b:Nat}{oa ob:Ob}(h:a≠b):Vc.C' (Vc.C' U a oa) b ob=Vc.C' (Vc.C' U b ob) a oa:=by
 funext i;unfold Vc.C';by_cases h1:i=a<;>by_cases h2:i=b<;>simp_all
def GN{i:aS}(h:D9 i=true){s:Nat->V}{U:ak}{g:Nat->V×ak}(hg:Tm s U i.op=some g):
 ∃(vf:Nat->V) (ob:Ob) (d:Option Nat),(∀id,g id=(vf id,Vc.C' (bR U d) id ob))/\(∀a,d=some a->U a≠none)/\
  ∀j o,U j=none->Tm s (Vc.C' U j o) i.op=some λid=>(vf id,Vc.C' (bR (Vc.C' U j o) d) id ob):=by
 by_cases hm:ZT i=true
 .obtain⟨vf,ob,h1,h2⟩:=A9 hm hg;exact⟨vf,ob,none,h1,by simp,λj o _=>h2 _⟩
 .unfold D9 at h;unfold ZT at hm;cases RN:i.op<;>rw[RN]at h hm hg<;>simp at h hm;rename_i e sz bytes xa xb;simp only[Tm]at hg|-;split at hg
  .rename_i base idA src e1 e2;split at hg
   .rename_i hc;simp only[bf]at hg;subst hg;have hlive:∀a,idA=some a->U a≠none:=λa ha=>by
     subst ha;unfold cm at e1;split at e1
     .split at e1
      .rename_i ob Ts;split at e1
       .simp only[bf,Prod.mk.injEq]at e1;rw[<-e1.2,Ts];simp
       .cases e1
      .cases e1
     .simp at e1
     .cases e1
    refine⟨_,_,idA,λ_=>rfl,hlive,λj o hj=>?_⟩;have RU:∀id ob,U id=some ob->Vc.C' U j o id=some ob:=λid ob h=>by
     have:id≠j:=λe=>by rw[e,hj]at h;cases h
     simp[Vc.C',this,h]
    have d1:cm (Vc.C' U j o) e sz (xa.ev s)=some (base,idA):=by
     rw[<-e1];unfold cm at e1|-;split at e1
     .rename_i id _ _ _;split at e1
      .rename_i ob Ts;simp only[Ts,RU _ _ Ts]
      .cases e1
     .rfl
     .cases e1
    have d2:cB (Vc.C' U j o) sz (xb.ev s)=some src:=by
     rw[<-e2];unfold cB at e2|-;split at e2
     .split at e2
      .rename_i ob Ts;simp only[Ts,RU _ _ Ts]
      .cases e2
     all_goals first|rfl|cases e2
    simp only[d1,d2];rw[aK hc]
   .cases hg
  .cases hg
def Be{A B:aS}(hp:jc A B=true){x:St}(hi:We x.U){K:St->Prop}(h:T P A x λx'=>T P B x' K):T P B x λx'=>T P A x' K:=by
 simp only[jc,Ba,kO]at hp;obtain⟨hap,hk⟩:=hp;obtain⟨h1,h2,h3⟩:=apart_spec hap;have TP:∀(s:Nat->V) u v,aY (aY s A.dst u) B.dst v=aY (aY s B.dst v) A.dst u:=λs u v=>D0 h3;rcases hk with((((⟨qa,qb⟩|⟨ea,sb⟩)|⟨sa,eb⟩)|⟨pa,mb⟩)|⟨ma,pb⟩)|⟨ma,mb⟩
 .rw[cD qa]at h;obtain⟨u,hu,h⟩:=h;rw[cD qb]at h;obtain⟨v,hv,h⟩:=h;rw[cD qb];refine⟨v,(gj h1).1 hv,?_⟩;rw[cD qa];refine⟨u,(gj h2).2 hu,?_⟩;simp only at h|-;rw[<-TP];exact h
 .have qb:fT B=true:=by simp[fT,mn sb]
  rw[ir ea]at h;rcases h with⟨hw,h⟩|⟨hw,⟨sz,xa,xv,Z',RN,hs,h⟩|⟨W6,g,hg,h⟩⟩
  .rw[cD qb]at h;obtain⟨v,hv,h⟩:=h;rw[cD qb];refine⟨v,(gj h1).1 hv,?_⟩;rw[ir ea];refine .inl ⟨by rw[cy h2];exact hw,?_⟩;simp only at h|-;rw[<-TP];exact h
  .rw[cD qb]at h;obtain⟨v,hv,h⟩:=h;rw[cD qb];refine⟨v,kP sb ((gj h1).1 hv),?_⟩;rw[ir ea];refine .inr ⟨by rw[cy h2];exact hw,.inl ⟨sz,xa,xv,Z',RN,?_,?_⟩⟩
   .simp only;rw[iE h2 x.s xa (by simp[RN,Sj.xs]),iE h2 x.s xv (by simp[RN,Sj.xs])];exact hs
   .simp only at h|-;rw[<-TP];exact h
  .obtain⟨Xl,_,hid0⟩:=hi 0;have h0:=h Xl hid0;rw[cD qb]at h0;obtain⟨v,hv,_⟩:=h0;have hvx:QY P B x.s x.U v:=kP sb ((gj h1).1 hv);rw[cD qb];refine⟨v,hvx,?_⟩;rw[ir ea];refine .inr ⟨by rw[cy h2];exact hw,.inr ⟨W6,g,?_,λid L'=>?_⟩⟩
   .rw[<-hg];exact fQ (iE h2 x.s)
   .have h4:=h id L';rw[cD qb]at h4;obtain⟨v',Zl,h4⟩:=h4;have hvx':QY P B x.s x.U v':=kP sb ((gj h1).1 Zl);have:=KX sb hvx hvx';subst this;simp only at h4|-;rw[<-TP];exact h4
 .have qa:fT A=true:=by simp[fT,mn sa]
  rw[cD qa]at h;obtain⟨u,hu,h⟩:=h;rw[ir eb]at h;rw[ir eb];rcases h with⟨hw,h⟩|⟨hw,⟨sz,xa,xv,Z',RN,hs,h⟩|⟨W6,g,hg,h⟩⟩
  .refine .inl ⟨by rw[<-cy h1];exact hw,?_⟩;rw[cD qa];refine⟨u,(gj h2).2 hu,?_⟩;simp only at h|-;rw[<-TP];exact h
  .refine .inr ⟨by rw[<-cy h1];exact hw,.inl ⟨sz,xa,xv,Z',RN,?_,?_⟩⟩
   .simp only at hs;rw[iE h1 x.s xa (by simp[RN,Sj.xs]),iE h1 x.s xv (by simp[RN,Sj.xs])]at hs;exact hs
   .rw[cD qa];refine⟨u,(gj h2).2 (kP sa hu),?_⟩;simp only at h|-;rw[<-TP];exact h
  .refine .inr ⟨by rw[<-cy h1];exact hw,.inr ⟨W6,g,?_,λid L'=>?_⟩⟩
   .rw[<-hg];exact(fQ (iE h1 x.s)).symm
   .rw[cD qa];refine⟨u,(gj h2).2 (kP sa hu),?_⟩;have h4:=h id L';simp only at h4|-;rw[<-TP];exact h4
 .have qa:fT A=true:=pa;obtain⟨W6,Wz⟩:=tj mb;have eb:te B=true:=by simp[te,W6]
  rw[cD qa]at h;obtain⟨u,hu,h⟩:=h;rw[ir eb]at h;rw[ir eb];rcases h with⟨hw,h⟩|⟨hw,⟨sz,xa,xv,Z',RN,hs,h⟩|⟨_,g,hg,h⟩⟩
  .refine .inl ⟨by rw[<-cy h1];exact hw,?_⟩;rw[cD qa];refine⟨u,(gj h2).2 hu,?_⟩;simp only at h|-;rw[<-TP];exact h
  .rw[RN]at W6;simp[bt]at W6
  .refine .inr ⟨by rw[<-cy h1];exact hw,.inr ⟨W6,g,?_,λid L'=>?_⟩⟩
   .rw[<-hg];exact(fQ (iE h1 x.s)).symm
   .rw[cD qa];refine⟨u,(gj h2).2 (Ek qa L' (λj hj=>Wz _ _ g hg id j hj) hu),?_⟩;have h4:=h id L';simp only at h4|-;rw[<-TP];exact h4
 .have qb:fT B=true:=by simp only[kJ,beq_iff_eq]at pb;simp[fT,pb]
  obtain⟨W6,Wz⟩:=An ma;have ea:te A=true:=by simp[te,W6]
  rw[ir ea]at h;rcases h with⟨hw,h⟩|⟨hw,⟨sz,xa,xv,Z',RN,hs,h⟩|⟨_,g,hg,h⟩⟩
  .rw[cD qb]at h;obtain⟨v,hv,h⟩:=h;rw[cD qb];refine⟨v,(gj h1).1 hv,?_⟩;rw[ir ea];refine .inl ⟨by rw[cy h2];exact hw,?_⟩;simp only at h|-;rw[<-TP];exact h
  .rw[RN]at W6;simp[bt]at W6
  ·
   obtain⟨Xl,U1,hid0⟩:=hi ((lD x.s B.op).getD 0+1);have h0:=h Xl hid0;rw[cD qb]at h0;obtain⟨v,hv,_⟩:=h0;have hv1:=(gj h1).1 hv;have hvx:QY P B x.s x.U v:=by
    by_cases hwB:bn x.s B.g=some true
    .refine yM pb (λj hj=>?_) hv1;have hn:=tz pb hv1 hwB hj;refine(Wz _ _ g hg Xl j (λe=>?_)).resolve_right hn;rw[hj]at U1;simp at U1;omega
    .exact x8 hv1 hwB
   rw[cD qb];refine⟨v,hvx,?_⟩;rw[ir ea];refine .inr ⟨by rw[cy h2];exact hw,.inr ⟨W6,g,?_,λid L'=>?_⟩⟩
   .rw[<-hg];exact fQ (iE h2 x.s)
   .have h4:=h id L';rw[cD qb]at h4;obtain⟨v',Zl,h4⟩:=h4;have hv2:=(gj h1).1 Zl;have hv3:QY P B x.s x.U v':=by
     by_cases hwB:bn x.s B.g=some true
     .refine yM pb (λj hj=>?_) hv2;have hn:=tz pb hv2 hwB hj;have hs:=tz pb hvx hwB hj;exact(Wz _ _ g hg id j (λe=>hs (e▸L'))).resolve_right hn
     .exact x8 hv2 hwB
    have:=yG pb hv3 hvx;subst this;simp only at h4|-;rw[<-TP];exact h4
 .have ka:=(An ma).1;have kb:=(tj mb).1;have ea:te A=true:=by simp[te,ka]
  have eb:te B=true:=by simp[te,kb]
  rw[ir ea]at h;rw[ir eb];rcases h with⟨hw,h⟩|⟨hw,⟨sz,xa,xv,Z',RN,_⟩|⟨_,g,hg,h⟩⟩
  .rw[ir eb]at h;rcases h with⟨U3,h⟩|⟨U3,⟨sz,xa,xv,Z',RN,_⟩|⟨_,g2,hg2,h⟩⟩
   .refine .inl ⟨by rw[<-cy h1];exact U3,?_⟩;rw[ir ea];refine .inl ⟨by rw[cy h2];exact hw,?_⟩;simp only at h|-;rw[<-TP];exact h
   .exact(ov kb RN).elim
   .refine .inr ⟨by rw[<-cy h1];exact U3,.inr ⟨kb,g2,by rw[<-hg2];exact(fQ (iE h1 x.s)).symm,λid L'=>?_⟩⟩;rw[ir ea];refine .inl ⟨by rw[cy h2];exact hw,?_⟩;have h4:=h id L';simp only at h4|-;rw[<-TP];exact h4
  .exact(ov ka RN).elim
  .obtain⟨vA,oA,dA,hA,YU,hA'⟩:=GN ma hg;obtain⟨Xl,_,hid0⟩:=hi 0;have h0:=h Xl hid0;rw[ir eb]at h0;rcases h0 with⟨U3,_⟩|⟨U3,⟨sz,xa,xv,Z',RN,_⟩|⟨_,g2,hg2,_⟩⟩
   .refine .inl ⟨by rw[<-cy h1];exact U3,?_⟩;rw[ir ea];refine .inr ⟨by rw[cy h2];exact hw,.inr ⟨ka,g,by rw[<-hg];exact fQ (iE h2 x.s),λid L'=>?_⟩⟩;have h4:=h id L';rw[ir eb]at h4;rcases h4 with⟨_,h4⟩|⟨hw3,_⟩
    .simp only at h4|-;rw[<-TP];exact h4
    .exfalso;have e1:=cy (v:=(g id).1) h1 (s:=x.s);have e2:=cy (v:=(g Xl).1) h1 (s:=x.s);simp only at U3 hw3;rw[e1]at hw3;rw[e2]at U3;rw[hw3]at U3;cases U3
   .exact(ov kb RN).elim
   .have hg2x:Tm x.s (g Xl).2 B.op=some g2:=by rw[<-hg2];exact(fQ (iE h1 x.s)).symm
    obtain⟨vB,oB,hB,hB'⟩:=A9 mb hg2x;refine .inr ⟨by rw[<-cy h1];exact U3,.inr ⟨kb,_,hB' x.U,λidB hidB=>?_⟩⟩;rw[ir ea];refine .inr ⟨by rw[cy h2];exact hw,.inr ⟨ka,λid=>(vA id,Vc.C' (bR (Vc.C' x.U idB oB) dA) id oA),?_,λidA hidA=>?_⟩⟩
    .rw[<-hA' idB oB hidB];exact fQ (iE h2 x.s)
    .have RU:idA≠idB:=λe=>by subst e;simp[Vc.C']at hidA
     have hidA':x.U idA=none:=by simpa[Vc.C',RU]using hidA
     have h4:=h idA hidA';rw[ir eb]at h4;rw[hA idA]at h4;rcases h4 with⟨hw3,_⟩|⟨_,⟨sz,xa,xv,Z',RN,_⟩|⟨_,g3,hg3,h4⟩⟩
     .exfalso;have e1:=cy (v:=vA idA) h1 (s:=x.s);have e2:=cy (v:=(g Xl).1) h1 (s:=x.s);simp only at U3 hw3;rw[e1]at hw3;rw[e2]at U3;rw[hw3]at U3;cases U3
     .exact(ov kb RN).elim
     .have e3:Tm x.s (Vc.C' (bR x.U dA) idA oA) B.op=some g3:=by rw[<-hg3];exact(fQ (iE h1 x.s)).symm
      rw[hB' (Vc.C' (bR x.U dA) idA oA)]at e3;simp only[bf]at e3;subst e3;have RO:∀i,x.U i=none->bR x.U dA i=none:=λi hi=>by
       cases dA with
       |none=>exact hi
       |some a=>simp only[bR,del];split<;>first|rfl|exact hi
      have h5:=h4 idB (by simp[Vc.C',RU.symm,RO _ hidB]);have hsw:bR (Vc.C' x.U idB oB) dA=Vc.C' (bR x.U dA) idB oB:=by
       cases dA with
       |none=>rfl
       |some a=>
        funext i;have Vw:a≠idB:=λe=>YU a rfl (by rw[e];exact hidB);simp only[bR,del,Vc.C'];by_cases e1:i=a
        .have hib:i≠idB:=λe=>Vw (e1▸e);simp[e1,Vw]
        .by_cases e2:i=idB<;>simp[e1,e2,Ne.symm Vw]
      simp only at h5|-;rw[<-TP,hsw,<-wT RU];exact h5
variable {P:Program} {n:Nat}
def T.exists{i:aS}{x:St}{K:St->Prop}(hi:We x.U)(h:T P i x K):∃x',K x':=by
 unfold T at h;split at h
 .unfold TO at h;split at h
  .obtain⟨_,v,_,h⟩:=h;exact⟨_,h⟩
  .split at h
   .obtain⟨_,_,v,_,_,h⟩:=h;exact⟨_,h⟩
   .exact h.elim
  .split at h
   .obtain⟨_,_,h⟩:=h;exact⟨_,h⟩
   .exact h.elim
  .obtain⟨g,_,h⟩:=h;obtain⟨id,_,L'⟩:=hi 0;exact⟨_,h id L'⟩
  .exact h.elim
 .exact⟨_,h⟩
 .exact h.elim
def tB{F:Fr}(hn:F.n=n){o:Oper}{all:Array Oper}{x:St}{K:St->Prop}{a:Act}{w:World}(h:T P (bL P n all o) x K)(hs:eU F x a w)
 {next:Act->World->Prop}{Q':Exit->Act->World->Prop}(RK:∀x' a' w',eU F x' a' w'->K x'->next a' w'):
 if Region.wanted o (yielded all a.tmps)then Se P n o.op≠.bad/\o.wp P a w next Q' else next (a.put o.dst undef) w:=by
 subst hn;obtain⟨I,hs⟩:=hs;unfold T at h;cases hw:bn x.s (bL P F.n all o).g with
 |none=>simp only[hw]at h
 |some b=>
  have Wy:=qv (P:=P) hs all o hw;rw[Wy];simp only[hw]at h;cases b
  .simp only[iP,if_false]at h|-;exact RK _ _ _ ⟨I,hs.pure (d:=o.dst) (by simp only[E'];exact⟨[],rfl,by simp[ax]⟩)⟩ h
  .simp only[if_true]at h|-;refine⟨λe=>?_,?_⟩
   .have Zt:(bL P F.n all o).op=Se P F.n o.op:=rfl;rw[Zt,e]at h;simp[TO,bt]at h
   have hdst:(bL P F.n all o).dst=o.dst.filter (·<F.n):=rfl;have Zt:(bL P F.n all o).op=Se P F.n o.op:=rfl;rw[hdst,Zt]at h;unfold TO at h;split at h
   .obtain⟨h1,v,h2,h3⟩:=h;obtain⟨z,hz,hr⟩:=rL hs o h1 h2;unfold Oper.wp;rw[hz];exact RK _ _ _ ⟨I,hs.pure hr⟩ h3
   .split at h
    .rename_i fx xs RN;obtain⟨f,caps,v,h1,h2,h3⟩:=h;obtain⟨f0,args,argTypes,g1,rfl,rfl⟩:=nN RN;refine pc hs g1 h1 (h2 _ (aa.refl _)) λr Z' hp a' w' RV=>?_;obtain⟨rfl,rfl⟩:=hp;exact RK _ a' w' RV h3
    .exact h.elim
   .split at h
    .rename_i sz xa xv RN;obtain⟨Z',h1,h2⟩:=h;obtain⟨t,y,z,g1,g2,rfl,rfl,rfl⟩:=wA RN;unfold cW at h1;split at h1
     .rename_i id r0 c e1;split at h1
      .rename_i ob e2;split at h1
       .rename_i r e3;split at h1
        .rename_i r' e4;simp only[bf]at h1;subst h1;obtain⟨w',hx,RV⟩:=rU hs g1 g2 e1 e2 e3 e4;unfold Oper.wp;rw[hx];exact RK _ _ _ ⟨I,RV⟩ h2
        .cases h1
       .cases h1
      .cases h1
     .cases h1
    .exact h.elim
   .obtain⟨g,hg,h⟩:=h;cases RN:Se P F.n o.op<;>rw[RN]at hg
    case box e sz xv=>
     simp only[Tm]at hg;split at hg
     .rename_i hc;simp only[bf]at hg;subst hg;obtain⟨y,g1,g2,rfl,rfl⟩:=CT RN;obtain⟨id,L',z,w',Y',hz,RV⟩:=xp hs g1 g2 hc.1 hc.2;unfold Oper.wp;rw[hz];exact RK _ _ _ ⟨Y',RV⟩ (h id L')
     .cases hg
    case alloc e sz z=>
     simp only[Tm,bf]at hg;subst hg;obtain⟨ti,zv,g1,g2,rfl,rfl⟩:=wH RN;obtain⟨id,L',y,w',Y',hy,RV⟩:=sC hs g1 g2;unfold Oper.wp;rw[hy];exact RK _ _ _ ⟨Y',RV⟩ (h id L')
    case iC e sz xs=>
     simp only[Tm]at hg;split at hg
     .rename_i hc;simp only[bf]at hg;subst hg;obtain⟨t,len,parts,ti,z,h1,h2,h3,rfl,h5,h6,rfl⟩:=uJ RN;have hx:∀y∈parts.toList.map (λp=>(cx F.n p.2).ev x.s),y.cells.length=ti.size/\y.stays=true:=by
       intro y hy;have:=fL.1 hc y (by rw[List.map_map];exact hy);simpa using this
      obtain⟨id,L',y,w',Y',hy,RV⟩:=pZ hs h1 h2 h3 h5 h6 hx;unfold Oper.wp;rw[hy];have hl:parts.size=len:=by have:=congrArg List.length h5;simpa using this
      refine RK _ _ _ ⟨Y',RV⟩ ?_;have:=h id L';simpa only[dC,List.map_map,Array.length_toList,hl,Function.comp_def]using this
     .cases hg
    case mk e sz bytes zv y=>
     simp only[Tm]at hg;split at hg
     .rename_i m hm;split at hg
      .rename_i hc;simp only[bf]at hg;subst hg;obtain⟨t,l',c,ti,z,g1,g2,g3,rfl,rfl,rfl,g5,rfl⟩:=F9 RN;obtain⟨id,L',x',w',Y',Sg,RV⟩:=AB hs g1 g5 g2 g3 hm hc.1 hc.2;unfold Oper.wp;rw[Sg];exact RK _ _ _ ⟨Y',RV⟩ (h id L')
      .cases hg
     .cases hg
    case XG e sz bytes zv ya y=>
     simp only[Tm]at hg;split at hg
     .rename_i kq m hy hm;split at hg
      .rename_i hc;simp only[bf]at hg;subst hg;obtain⟨t,tn,kn,x1,y1,args,argTypes,ti,z,g1,g2,g3,g4,g5,g6,rfl,rfl,rfl,rfl,rfl⟩:=zT RN;obtain⟨id,L',x',w',Y',Sg,RV⟩:=vH hs g1 g2 g3 g4 g5 g6 hy hm hc.1 hc.2;unfold Oper.wp;rw[Sg];exact RK _ _ _ ⟨Y',RV⟩ (h id L')
      .cases hg
     .cases hg
    case append e sz bytes xa xb=>
     simp only[Tm]at hg;split at hg
     .rename_i base idA src e1 e2;split at hg
      .rename_i hb;simp only[bf]at hg;subst hg;obtain⟨t,t',y,z,args,argTypes,ti,zv,g1,g2,g3,g3',g4,g5,rfl,rfl,rfl,rfl⟩:=uW RN;obtain⟨id,L',r,w',Y',hx,RV⟩:=pK hs g1 g2 g3 g3' g4 g5 e1 e2 hb;unfold Oper.wp;rw[hx];exact RK _ _ _ ⟨Y',RV⟩ (h id L')
      .cases hg
     .cases hg
    all_goals simp[Tm]at hg
   .exact h.elim
def Tn(P:Program)(n:Nat)(ops:Array Oper)(i:Nat)(x:St)(K:St->Prop):Prop:=match ops[i]? with
 |some o=>T P (bL P n ops o) x K
 |none=>K x
def qQ(P:Program)(n:Nat)(ops:Array Oper)(Q:St->Prop):Nat->Array Bool->St->Prop
 |0,n',x=>Region.ready .any ops n'=[]/\Q x
 |f+1,n',x=>(Region.ready .any ops n'=[]->Q x)/\∀i∈Region.ready .any ops n',Tn P n ops i x (qQ P n ops Q f (n'.setIfInBounds i true))
def o3{F:Fr}(hn:F.n=n){ops:Array Oper}{Q:St->Prop}{Q':Exit->Act->World->Prop}(hQ:∀x a w,eU F x a w->Q x->Q' .normal a w):
 ∀(f:Nat) (n':Array Bool) (x:St) (a:Act) (w:World),eU F x a w->qQ P n ops Q f n' x->wpAnyIn F.eG 0 P .any ops Q' f n' a w
 |0,_,_,_,_,hs,h=>⟨h.1,hQ _ _ _ hs h.2⟩
 |f+1,n',x,a,w,hs,h=>by
  refine⟨λh0=>hQ _ _ _ hs (h.1 h0),λi hi=>?_⟩;have h1:=h.2 i hi;unfold Tn at h1;unfold wpOpIn;cases ho:ops[i]? with
  |none=>
   simp only[ho]at h1;exact o3 hn hQ f _ x a w hs h1
  |some o=>
   simp only[ho]at h1;have h2:=tB (Q':=Q') hn h1 hs λx' a' w' RV hk=>o3 hn hQ f _ x' a' w' RV hk;by_cases hw:Region.wanted o (yielded ops a.tmps)=true
   .rw[aK hw]at h2;simp only[hw,if_true];exact El (kc h2.1) h2.2
   .rw[aM hw]at h2;simp only[hw];exact⟨λ_ _=>trivial,h2⟩
def je(ops:Array Oper)(n':Array Bool):Prop:=∀m om,ops[m]?=some om->n'.getD m true=true->∀e∈om.after,Region.binds .any e=true->n'.getD e.on false=true
def je.list{ops:Array Oper}{n':Array Bool}(h:je ops n'){i:Nat}(hi:i∈Region.ready .any ops n'):je ops (n'.setIfInBounds i true):=by
 intro m om hm hl e he hb;by_cases hmi:m=i
 .subst hmi;obtain⟨_,o,ho,Tf⟩:=mem_ready.1 hi;rw[hm]at ho;cases ho;exact getD_set_true (Tf e he hb)
 .rw[getD_set_ne true (Ne.symm hmi)]at hl;exact getD_set_true (h m om hm hl e he hb)
def Br{f:Edge->Nat}(l:List Edge):∀(s:Nat) (i:Nat),(l.foldl (λs e=>if Region.binds .any e then s ||| 2^e.on ||| f e else s) s).testBit i=true->
 s.testBit i=true\/∃e∈l,Region.binds .any e=true/\(i=e.on\/(f e).testBit i=true):=by
 induction l with
 |nil=>intro s i h;exact .inl h
 |cons e l ih=>
  intro s i h;simp only[jK]at h;rcases ih _ i h with h1|⟨e',h2,h3,h4⟩
  .by_cases hb:Region.binds .any e=true
   .rw[aK hb]at h1;simp only[Nat.testBit_or,kO,Nat.testBit_two_pow]at h1;rcases h1 with(h1|h1)|h1
    .exact .inl h1
    .exact .inr ⟨e,by simp,hb,.inl (by simpa using(of_decide_eq_true h1).symm)⟩
    .exact .inr ⟨e,by simp,hb,.inr h1⟩
   .rw[aM hb]at h1;exact .inl h1
  .exact .inr ⟨e',by simp[h2],h3,h4⟩
def lg{ops:Array Oper}{n':Array Bool}(hc:je ops n'):∀(j:Nat) (oj:Oper) (i:Nat),ops[j]?=some oj->((Region.before ops).getD j 0).testBit i=true->
 (∀e∈oj.after,Region.binds .any e=true->n'.getD e.on false=true)->n'.getD i false=true:=by
 have key:∀(l:List Oper) (acc:Array Nat) (k:Nat),acc.size=k->(∀j,l[j]?=ops[k+j]?)->
  (∀j oj i,j<k->ops[j]?=some oj->(acc.getD j 0).testBit i=true->(∀e∈oj.after,Region.binds .any e=true->n'.getD e.on false=true)->n'.getD i false=true)->
  ∀j oj i,ops[j]?=some oj->((l.foldl (λacc o=>acc.push (o.after.foldl (λs e=>if Region.binds .any e then s ||| 2^e.on ||| acc.getD e.on 0 else s) 0)) acc).getD j 0).testBit i=true->
   (∀e∈oj.after,Region.binds .any e=true->n'.getD e.on false=true)->n'.getD i false=true:=by
  intro l
  induction l with
  |nil=>
   intro acc k hk hl h j oj i hj hb hd;have u':j<k:=by
    rcases Nat.lt_or_ge j k with h1|h1
    .exact h1
    .have:=hl (j-k);rw[show k+(j-k)=j by omega,hj]at this;simp at this
   exact h j oj i u' hj hb hd
  |cons o l ih=>
   intro acc k hk hl h;have RP:ops[k]?=some o:=by simpa using(hl 0).symm
   refine ih _ (k+1) (by simp[hk]) (λj=>by have:=hl (j+1);simpa[Nat.add_assoc,BG 1 j]using this) ?_;intro j oj i hj VN hb hd;by_cases hjk:j=k
   .subst hjk;rw[VN]at RP;cases RP;rw[Vn,<-hk,Array.getElem?_push_size]at hb;simp only[Option.getD_some]at hb;rw[<-Array.foldl_toList]at hb;rcases Br (f:=λe=>acc.getD e.on 0) o.after.toList 0 i hb with h1|⟨e,he,hbd,h1|h1⟩
    .simp at h1
    .rw[h1];exact hd e (by simpa using he) hbd
    .have V5:=hd e (by simpa using he) hbd;by_cases hek:e.on<acc.size
     .have hex:e.on<ops.size:=by
       have:=(nz.1 VN).1;omega
      have hoe:ops[e.on]?=some ops[e.on]:=Array.getElem?_eq_getElem hex;refine h e.on _ i (by omega) hoe h1 (hc e.on _ hoe ?_);have Tt:e.on<n'.size:=by
       rcases Nat.lt_or_ge e.on n'.size with h2|h2
       .exact h2
       .simp[Array.getElem?_eq_none h2]at V5
      simp only[Vn,Array.getElem?_eq_getElem Tt,Option.getD_some]at V5|-;exact V5
     .rw[Vn,Array.getElem?_eq_none (by omega)]at h1;simp at h1
   .have hjlt:j<k:=by omega
    rw[Vn,Array.getElem?_push_lt (by omega)]at hb;refine h j oj i hjlt VN ?_ hd;rw[Vn,Array.getElem?_eq_getElem (by omega)];exact hb
 intro j oj i hj hb hd;unfold Region.before at hb;rw[<-Array.foldl_toList]at hb;exact key ops.toList #[] 0 rfl (by simp) (λj oj i h=>by omega) j oj i hj hb hd
def yN{ops:Array Oper}{Q:St->Prop}{i:Nat}{oi:Oper}(hi:ops[i]?=some oi):∀(f:Nat) (n':Array Bool) (x:St),We x.U->je ops n'->
 (∀j oj,ops[j]?=some oj->j≠i->n'.getD j true=false->((Region.before ops).getD j 0).testBit i=false->jc (bL P n ops oi) (bL P n ops oj)=true)->
 i∈Region.ready .any ops n'->T P (bL P n ops oi) x (qQ P n ops Q f (n'.setIfInBounds i true))->qQ P n ops Q (f+1) n' x:=by
 intro f
 induction f with
 |zero=>
  intro n' x TQ _ _ hr H;refine⟨λh=>(by rw[h]at hr;cases hr),λj hj=>?_⟩;by_cases TJ:j=i
  .subst TJ;unfold Tn;simp only[hi];exact H
  .have:=ready_mono hj TJ;obtain⟨x',Sg⟩:=H.exists TQ;rw[Sg.1]at this;cases this
 |succ f ih=>
  intro n' x TQ SU Vx hr H;refine⟨λh=>(by rw[h]at hr;cases hr),λj hj=>?_⟩;by_cases TJ:j=i
  .subst TJ;unfold Tn;simp only[hi];exact H
  .obtain⟨XK,oj,VN,Tf⟩:=mem_ready.1 hj;have hnot:((Region.before ops).getD j 0).testBit i=false:=by
    cases hb:((Region.before ops).getD j 0).testBit i with
    |false=>rfl
    |true=>
     exfalso;have h1:=lg SU j oj i VN hb Tf;have h0:=(mem_ready.1 hr).1;rcases Nat.lt_or_ge i n'.size with h'|h'
     .simp[h']at h0 h1;rw[h0]at h1;cases h1
     .simp[Array.getElem?_eq_none h']at h1
   have H2:T P (bL P n ops oi) x λx'=>T P (bL P n ops oj) x' (qQ P n ops Q f ((n'.setIfInBounds i true).setIfInBounds j true)):=by
    refine H.mono λx' Sg=>?_;have:=Sg.2 j (ready_mono hj TJ);unfold Tn at this;simpa only[VN]using this
   have h2:=Be (Vx j oj VN TJ XK hnot) TQ H2;have WA:∀k ok,ops[k]?=some ok->k≠i->(n'.setIfInBounds j true).getD k true=false->
    ((Region.before ops).getD k 0).testBit i=false->jc (bL P n ops oi) (bL P n ops ok)=true:=λk ok hk hki hun R9=>by
    refine Vx k ok hk hki ?_ R9;by_cases hjk:j=k
    .subst hjk;exact XK
    .rw[getD_set_ne true hjk]at hun;exact hun
   unfold Tn;simp only[VN];refine(h2.inf TQ).mono λx' Sg=>ih (n'.setIfInBounds j true) x' Sg.1 (SU.list hj) WA (ready_mono hr (Ne.symm TJ)) ?_;rw[Array.setIfInBounds_comm _ _ TJ];exact Sg.2
def mc{ops:Array Oper}{k:Nat}{ok:Oper}{n':Array Bool}(hk:ops[k]?=some ok)(h:CS P n ops k n'=true)(j:Nat)(oj:Oper)(hj:ops[j]?=some oj)(RU:j≠k)
 (hun:n'.getD j true=false)(R9:((Region.before ops).getD j 0).testBit k=false):jc (bL P n ops ok) (bL P n ops oj)=true:=by
 unfold CS at h;simp only[hk]at h;have hjlt:j<ops.size:=(nz.1 hj).1;have:=fL.1 h j (List.mem_range.2 hjlt);simp only[hj,hun,R9,Bool.or_false,Bool.false_or,kO,beq_iff_eq,RU,false_or]at this;exact this
def iQ(P:Program)(Q:St->Prop):List aS->St->Prop
 |[],x=>Q x
 |i::l,x=>T P i x (iQ P Q l)
def vp{ops:Array Oper}{Q:St->Prop}:∀(l:List Oper) (k:Nat) (n':Array Bool) (x:St),We x.U->je ops n'->(∀j,l[j]?=ops[k+j]?)->
 wj P n ops l.length k n'=true->iQ P Q (l.map (bL P n ops)) x->qQ P n ops Q l.length n' x
 |[],_,_,_,_,_,_,hB,h=>⟨by simpa[wj]using hB,h⟩
 |o::l,k,n',x,TQ,SU,hl,hB,h=>by
  have h0:ops[k]?=some o:=by simpa using(hl 0).symm
  simp only[TI,wj,Ba]at hB;obtain⟨⟨hr,hf⟩,hB'⟩:=hB;refine yN h0 l.length n' x TQ SU (mc h0 hf) (by simpa using hr) ?_;refine(T.inf TQ h).mono λx' Sg=>?_;exact vp l (k+1) _ x' Sg.1 (SU.list (by simpa using hr)) (λj=>by have:=hl (j+1);simpa[Nat.add_assoc,BG 1 j]using this) hB' Sg.2
def xW{F:Fr}(hn:F.n=n){ops:Array Oper}(RP:pn P n ops=true){id:Nat}{x:St}{a:Act}{w:World}(hs:eU F x a w){Q:St->Prop}{Q':Exit->Act->World->Prop}
 (hQ:∀x a w,eU F x a w->Q x->Q' .normal a w)(h:iQ P Q (ops.toList.map (bL P n ops)) x):(Code.region id ops true).wpIn F.eG 0 P Q' a w:=by
 simp only[pn,Ba]at RP;have RV:eU F x a { w with drawn:=w.drawn+1 }:=by
  obtain⟨I,hs⟩:=hs;have hk:dc (aN I x.U) (aN I x.U) w { w with drawn:=w.drawn+1 }:=λ_ _ h=>⟨h,rfl⟩
  refine⟨I,⟨⟨hs.sat.size,hs.sat.os,hs.sat.tape,hs.sat.output,hs.sat.same,hs.sat.fin,hs.sat.inj,λid o ho=>?_,hs.sat.fresh,hs.sat.UO⟩,hs.le,hs.size,hs.book.wb hk,λi hi=>?_⟩⟩
  .exact(hs.sat.obj id o ho).mono (dn.refl I) hk (Sf _) (λ_ _ _ _=>rfl)
  .exact E'.mono (dn.refl I) hk (Sf _) _ _ (hs.slot i hi)
 refine wpIn_region_any RP.1 (o3 hn hQ _ _ _ _ _ RV ?_);have:=vp (P:=P) (n:=n) (Q:=Q) ops.toList 0 (Array.replicate ops.size false) x hs.inf (λm om hm hl=>by
  have u':m<ops.size:=(nz.1 hm).1;rw[Vn,Array.getElem?_replicate,aK u']at hl;simp at hl) (by simp) (by simpa using RP.2.2) h
 simpa using this
def rj(P:Program)(n:Nat)(ops:Array Oper)(m:Nat)(Q:St->Prop):Nat->Array Bool->St->Prop
 |0,n',x=>(Region.ready .any ops n'=[m]/\Region.ready .any ops (n'.setIfInBounds m true)=[])/\Q x
 |f+1,n',x=>Region.ready .any ops n'≠[]/\∀i∈Region.ready .any ops n',i≠m/\Tn P n ops i x (rj P n ops m Q f (n'.setIfInBounds i true))
def px{F:Fr}(hn:F.n=n){ops:Array Oper}{m:Nat}{Q:St->Prop}{Q':Exit->Act->World->Prop}(hQ:∀x a w,eU F x a w->Q x->wpOpIn F.eG 0 P ops Q' m (Q' .normal) a w):
 ∀(f:Nat) (n':Array Bool) (x:St) (a:Act) (w:World),eU F x a w->rj P n ops m Q f n' x->wpAnyIn F.eG 0 P .any ops Q' (f+1) n' a w
 |0,n',x,a,w,hs,h=>by
  obtain⟨⟨h1,h2⟩,h3⟩:=h;refine⟨λh0=>(by rw[h1]at h0;cases h0),λi hi=>?_⟩;rw[h1]at hi;have him:i=m:=by simpa using hi
  subst him;exact wpOpIn_mono (λa w h=>⟨h2,h⟩) (hQ x a w hs h3)
 |f+1,n',x,a,w,hs,h=>by
  refine⟨λh0=>absurd h0 h.1,λi hi=>?_⟩;have h1:=(h.2 i hi).2;unfold Tn at h1;unfold wpOpIn;cases ho:ops[i]? with
  |none=>
   simp only[ho]at h1;exact px hn hQ f _ x a w hs h1
  |some o=>
   simp only[ho]at h1;have h2:=tB (Q':=Q') hn h1 hs λx' a' w' RV hk=>px hn hQ f _ x' a' w' RV hk;by_cases hw:Region.wanted o (yielded ops a.tmps)=true
   .rw[aK hw]at h2;simp only[hw,if_true];exact El (kc h2.1) h2.2
   .rw[aM hw]at h2;simp only[hw];exact⟨λ_ _=>trivial,h2⟩
def xF{ops:Array Oper}{m:Nat}{Q:St->Prop}{i:Nat}{oi:Oper}(hi:ops[i]?=some oi)(him:i≠m)(hm:((Region.before ops).getD m 0).testBit i=true):
 ∀(f:Nat) (n':Array Bool) (x:St),We x.U->je ops n'->
 (∀j oj,ops[j]?=some oj->j≠i->n'.getD j true=false->((Region.before ops).getD j 0).testBit i=false->jc (bL P n ops oi) (bL P n ops oj)=true)->
 i∈Region.ready .any ops n'->T P (bL P n ops oi) x (rj P n ops m Q f (n'.setIfInBounds i true))->rj P n ops m Q (f+1) n' x:=by
 have hnotj:∀(n':Array Bool),je ops n'->i∈Region.ready .any ops n'->∀j,j∈Region.ready .any ops n'->((Region.before ops).getD j 0).testBit i=false:=λn' SU hr j hj=>by
  obtain⟨XK,oj,VN,Tf⟩:=mem_ready.1 hj;cases hb:((Region.before ops).getD j 0).testBit i with
  |false=>rfl
  |true=>
   exfalso;have h1:=lg SU j oj i VN hb Tf;have h0:=(mem_ready.1 hr).1;rcases Nat.lt_or_ge i n'.size with h'|h'
   .simp[h']at h0 h1;rw[h0]at h1;cases h1
   .simp[Array.getElem?_eq_none h']at h1
 have hjm:∀(n':Array Bool),je ops n'->i∈Region.ready .any ops n'->∀j,j∈Region.ready .any ops n'->j≠m:=λn' SU hr j hj e=>by
  have:=hnotj n' SU hr j hj;rw[e,hm]at this;cases this
 intro f
 induction f with
 |zero=>
  intro n' x TQ SU _ hr H;refine⟨λh=>(by rw[h]at hr;cases hr),λj hj=>⟨hjm n' SU hr j hj,?_⟩⟩;by_cases TJ:j=i
  .subst TJ;unfold Tn;simp only[hi];exact H
  .have:=ready_mono hj TJ;obtain⟨x',Sg⟩:=H.exists TQ;rw[Sg.1.1]at this;exact absurd (by simpa using this) (hjm n' SU hr j hj)
 |succ f ih=>
  intro n' x TQ SU Vx hr H;refine⟨λh=>(by rw[h]at hr;cases hr),λj hj=>⟨hjm n' SU hr j hj,?_⟩⟩;by_cases TJ:j=i
  .subst TJ;unfold Tn;simp only[hi];exact H
  .obtain⟨XK,oj,VN,Tf⟩:=mem_ready.1 hj;have hnot:=hnotj n' SU hr j hj;have H2:T P (bL P n ops oi) x λx'=>T P (bL P n ops oj) x' (rj P n ops m Q f ((n'.setIfInBounds i true).setIfInBounds j true)):=by
    refine H.mono λx' Sg=>?_;have:=(Sg.2 j (ready_mono hj TJ)).2;unfold Tn at this;simpa only[VN]using this
   have h2:=Be (Vx j oj VN TJ XK hnot) TQ H2;have WA:∀k ok,ops[k]?=some ok->k≠i->(n'.setIfInBounds j true).getD k true=false->
    ((Region.before ops).getD k 0).testBit i=false->jc (bL P n ops oi) (bL P n ops ok)=true:=λk ok hk hki hun R9=>by
    refine Vx k ok hk hki ?_ R9;by_cases hjk:j=k
    .subst hjk;exact XK
    .rw[getD_set_ne true hjk]at hun;exact hun
   unfold Tn;simp only[VN];refine(h2.inf TQ).mono λx' Sg=>ih (n'.setIfInBounds j true) x' Sg.1 (SU.list hj) WA (ready_mono hr (Ne.symm TJ)) ?_;rw[Array.setIfInBounds_comm _ _ TJ];exact Sg.2
def u5{ops:Array Oper}{m:Nat}{Q:St->Prop}:∀(l:List Oper) (k:Nat) (n':Array Bool) (x:St),We x.U->je ops n'->(∀j,j<l.length->l[j]?=ops[k+j]?)->
 Fb P n ops m l.length k n'=true->iQ P Q (l.map (bL P n ops)) x->rj P n ops m Q l.length n' x
 |[],_,_,_,_,_,_,hB,h=>⟨by simpa[Fb]using hB,h⟩
 |o::l,k,n',x,TQ,SU,hl,hB,h=>by
  have h0:ops[k]?=some o:=by simpa using(hl 0 (by simp)).symm
  simp only[TI,Fb,Ba]at hB;obtain⟨⟨hr,hkm,hbit⟩,hf,hB'⟩:=hB;refine xF h0 (by simpa using hkm) hbit l.length n' x TQ SU (mc h0 hf) (by simpa using hr) ?_;refine(T.inf TQ h).mono λx' Sg=>?_;exact u5 l (k+1) _ x' Sg.1 (SU.list (by simpa using hr)) (λj hj=>by have:=hl (j+1) (by simpa using hj);simpa[Nat.add_assoc,BG 1 j]using this) hB' Sg.2
def vT{F:Fr}(hn:F.n=n){ops:Array Oper}(RP:xE P n ops=true){id:Nat}{x:St}{a:Act}{w:World}(hs:eU F x a w){Q:St->Prop}{Q':Exit->Act->World->Prop}
 (hQ:∀x a w,eU F x a w->Q x->wpListIn F.eG 0 P ops Q' (ops.toList.drop (ops.size-1)) a w)(h:iQ P Q ((ops.toList.take (ops.size-1)).map (bL P n ops)) x):(Code.region id ops true).wpIn F.eG 0 P Q' a w:=by
 simp only[xE,Ba,Uy]at RP;obtain⟨hmx,TN,_,_,hlex⟩:=RP;have RV:eU F x a { w with drawn:=w.drawn+1 }:=by
  obtain⟨I,hs⟩:=hs;have hk:dc (aN I x.U) (aN I x.U) w { w with drawn:=w.drawn+1 }:=λ_ _ h=>⟨h,rfl⟩
  refine⟨I,⟨⟨hs.sat.size,hs.sat.os,hs.sat.tape,hs.sat.output,hs.sat.same,hs.sat.fin,hs.sat.inj,λid o ho=>?_,hs.sat.fresh,hs.sat.UO⟩,hs.le,hs.size,hs.book.wb hk,λi hi=>?_⟩⟩
  .exact(hs.sat.obj id o ho).mono (dn.refl I) hk (Sf _) (λ_ _ _ _=>rfl)
  .exact E'.mono (dn.refl I) hk (Sf _) _ _ (hs.slot i hi)
 refine wpIn_region_any hmx ?_;have hlen:(ops.toList.take (ops.size-1)).length=ops.size-1:=by simp
 have hdrop:ops.toList.drop (ops.size-1)=[ops[ops.size-1]'(by omega)]:=by
  rw[jM (by simpa using(by omega:ops.size-1<ops.size))];simp[ER,show ops.size<=ops.size-1+1 by omega]
 have TD:ops[ops.size-1]?=some (ops[ops.size-1]'(by omega)):=Array.getElem?_eq_getElem (by omega);have hL:=u5 (P:=P) (n:=n) (Q:=Q) (m:=ops.size-1) (ops.toList.take (ops.size-1)) 0 (Array.replicate ops.size false) x hs.inf (λm om hm hl=>by
  have u':m<ops.size:=(nz.1 hm).1;rw[Vn,Array.getElem?_replicate,aK u']at hl;simp at hl) (λj hj=>by rw[hlen]at hj;simp[List.getElem?_take,hj]) (by rw[hlen];exact hlex) h
 rw[hlen]at hL;have:=px (Q':=Q') hn (λx a w hs hq=>by
  have:=hQ x a w hs hq;rw[hdrop]at this;unfold wpOpIn;simpa only[TD,wpListIn]using this) _ _ _ _ _ RV hL
 rwa [show ops.size-1+1=ops.size by omega]at this
variable {P:Program} {n:Nat} {st:St} {Q:St->Prop} {k:List It}
def aq.IX{l:List aS}(h:iQ P (λx=>aq P n k x Q) l st):aq P n (.code (.VL true l)::k) st Q:=by
 intro F hn kt hk a w hs;obtain⟨z,Ub,rfl,hy,Tp⟩:=eD hk;obtain⟨c0,rfl,SW⟩:=gN hy;have Vp:∃id ops,c0=.region id ops true/\pn P n ops=true/\ops.toList.map (bL P n ops)=l:=by
  cases c0<;>simp only[dG,reduceCtorEq]at SW;rename_i id ops draw;cases draw
  .simp at SW
  .simp only[Bool.true_and]at SW;split at SW
   .cases SW
   split at SW
   .cases SW
   .rename_i hd;simp only[bP.VL.injEq,true_and]at SW;exact⟨id,ops,rfl,by simpa using hd,SW⟩
 obtain⟨id,ops,rfl,RP,rfl⟩:=Vp;exact xW hn RP hs (λx a w hs h=>h F hn Ub Tp a w hs) h
def aq.xU{l e:List aS}(h:iQ P (λx=>aq P n (.ops e::k) x Q) l st):aq P n (.code (.xU l e)::k) st Q:=by
 intro F hn kt hk a w hs;obtain⟨z,Ub,rfl,hy,Tp⟩:=eD hk;obtain⟨c0,rfl,SW⟩:=gN hy;have Vp:∃id ops,c0=.region id ops true/\xE P n ops=true/\(ops.toList.take (ops.size-1)).map (bL P n ops)=l/\(ops.toList.drop (ops.size-1)).map (bL P n ops)=e:=by
  cases c0<;>simp only[dG,reduceCtorEq]at SW;rename_i id ops draw;cases draw
  .simp at SW
  .simp only[Bool.true_and]at SW;split at SW
   .rename_i hd;simp only[bP.xU.injEq]at SW;exact⟨id,ops,rfl,hd,SW.1,SW.2⟩
   .split at SW<;>cases SW
 obtain⟨id,ops,rfl,RP,rfl,rfl⟩:=Vp;exact vT hn RP hs (λx a w hs h=>h F hn (.ops ops (ops.toList.drop (ops.size-1))::Ub) (by simp[KI.it,Tp]) a w hs) h
def St.lit(st:St):VX->V->St
 |.t d,v=>⟨aY st.s (some d) v,st.U⟩
 |.c _,_=>st
inductive Td where
 |r (todo:List It)
 |d (l:List aS) (todo:List It)
def Kof(P:Program)(n:Nat)(todo:List It)(st:St)(Q:St->Prop):Prop:=match todo with
 |.stop μ::_=>μ st
 |todo=>aq P n todo st Q
def Kof.runs{todo:List It}(h:Kof P n todo st Q):aq P n todo st Q:=by
 cases todo with
 |nil=>exact h
 |cons x k=>cases x<;>first|exact aq.stop h|exact h
def iQ.mono{K K':St->Prop}(hk:∀x,K x->K' x):∀{l:List aS} {x:St},iQ P K l x->iQ P K' l x
 |[],_,h=>hk _ h
 |_::_,_,h=>T.mono (λ_ h=>iQ.mono hk h) h
def Go(P:Program)(n:Nat)(t:Td)(st:St)(Q:St->Prop):Prop:=
 match t with
 |.r todo=>Kof P n todo st Q
 |.d l todo=>iQ P (λx=>Kof P n todo x Q) l st
def Go.runs{todo:List It}(h:Go P n (.r todo) st Q):aq P n todo st Q:=Kof.runs h
def Go.chain{l:List aS}(h:Go P n (.d l k) st Q):iQ P (λx=>aq P n k x Q) l st:=iQ.mono (λ_ h=>Kof.runs h) h
def dQ{α:Type}(o:Option α)(k:α->Prop):Prop:=match o with
 |some v=>k v
 |none=>False
def rJ{α:Type}(v:α)(k:α->Prop):dQ (some v) k=k v:=rfl
def iI{α:Type}{o:Option α}{k:α->Prop}:dQ o k↔∃v,o=some v/\k v:=by cases o<;>simp[dQ]
def ee(v:V)(k:Bool->Prop)(z:Prop):Prop:=match v with
 |.bool c=>k c
 |.RM []=>z
 |.int _ _=>z
 |_=>False
def mB{v:V}{k:Bool->Prop}{z:Prop}(h:ee v k z):(∃c,v=.bool c/\k c)\/(v=.RM []/\z)\/(∃q m,v=.int q m/\z):=by
 unfold ee at h;split at h
 .exact .inl ⟨_,rfl,h⟩
 .exact .inr (.inl ⟨rfl,h⟩)
 .exact .inr (.inr ⟨_,_,rfl,h⟩)
 .exact h.elim
def both(c b:Bool)(x y:Prop):Prop:=(c=b->x)/\(c=!b->y)
def cV(s:Nat->V)(U:ak):Sj->Option ak
 |.store sz xa xv=>cW U sz (xa.ev s) (xv.ev s)
 |_=>none
structure Th(P:Program) where
 get:FuncId->List V->ak->Option V
 ok:∀f args U v,get f args U=some v->aB P f args U λr Z'=>r=v/\Z'=U
 up:∀f args U Z' v,aa U Z'->get f args U=some v->get f args Z'=some v:=by intros;assumption
def Th.nothing:Th P where
 get _ _ _:=none
 ok _ _ _ _ h:=by cases h
def wq(O:Th P)(s:Nat->V)(U:ak):Sj->Option V
 |.call fx xs=>match fx.ev s with
   |.fn f caps=>O.get f (xs.map (·.ev s)++caps) U
   |_=>none
 |_=>none
def yx(o:Option V)(k:V->Prop)(z:Prop):Prop:=match o with
 |some v=>k v
 |none=>z
def qh{o:Option V}{k:V->Prop}{z:Prop}(h:yx o k z):(∃v,o=some v/\k v)\/z:=by
 cases o with
 |none=>exact .inr h
 |some v=>exact .inl ⟨v,rfl,h⟩
def xT(q:Nat)(a b c d g:Prop):Prop:=match q with
 |0=>a
 |1=>b
 |2=>c
 |3=>d
 |_=>g
def oE{q:Nat}{a b c d g:Prop}(h:xT q a b c d g):(q=0/\a)\/(q=1/\b)\/(q=2/\c)\/(q=3/\d)\/g:=by
 unfold xT at h;split at h<;>simp_all
def sS(O:Th P)(q:Nat)(d:Option Nat)(op:Sj)(st:St)(k:St->Prop)(z:Prop):Prop:=
 xT q (ga st.s op/\dQ (aT st.U st.s op) λv=>k ⟨aY st.s d v,st.U⟩)
  (yx (wq O st.s st.U op) (λv=>k ⟨aY st.s d v,st.U⟩) z)
  (dQ (cV st.s st.U op) λZ'=>k ⟨aY st.s d (.RM []),Z'⟩)
  (dQ (Tm st.s st.U op) λg=>∀id,st.U id=none->k ⟨aY st.s d (g id).1,(g id).2⟩) z
def step(P:Program)(O:Th P)(n:Nat):Nat->Td->St->(St->Prop)->Prop
 |0,t,st,Q=>Go P n t st Q
 |f+1,t,st,Q=>match t with
  |.d l k=>match l with
   |[]=>step P O n f (.r k) st Q
   |i::l=>match i.g with
    |none=>sS O (bt i.op) i.dst i.op st (λst=>step P O n f (.d l k) st Q) (Go P n (.d (i::l) k) st Q)
    |some (x,b)=>ee (x.ev st.s) (λc=>both c b
       (sS O (bt i.op) i.dst i.op (st.lit x (.bool b)) (λst=>step P O n f (.d l k) st Q) (Go P n (.d (i::l) k) (st.lit x (.bool b)) Q))
       (step P O n f (.d l k) ⟨aY (st.lit x (.bool !b)).s i.dst (.RM []),(st.lit x (.bool !b)).U⟩ Q))
       (step P O n f (.d l k) ⟨aY st.s i.dst (.RM []),st.U⟩ Q)
  |.r todo=>match todo with
   |[]=>Q st
   |.stop μ::_=>μ st
   |.inBlock _::k=>step P O n f (.r k) st Q
   |.ops []::k=>step P O n f (.r k) st Q
   |.ops (i::l)::k=>match i.g with
    |none=>sS O (bt i.op) i.dst i.op st (λst=>step P O n f (.r (.ops l::k)) st Q) (aq P n (.ops (i::l)::k) st Q)
    |some (x,b)=>ee (x.ev st.s) (λc=>both c b
       (sS O (bt i.op) i.dst i.op (st.lit x (.bool b)) (λst=>step P O n f (.r (.ops l::k)) st Q) (aq P n (.ops (i::l)::k) (st.lit x (.bool b)) Q))
       (step P O n f (.r (.ops l::k)) ⟨aY (st.lit x (.bool !b)).s i.dst (.RM []),(st.lit x (.bool !b)).U⟩ Q))
       (step P O n f (.r (.ops l::k)) ⟨aY st.s i.dst (.RM []),st.U⟩ Q)
   |.code c::k=>match c with
    |.skip=>step P O n f (.r k) st Q
    |.seq a b=>step P O n f (.r (.code a::.code b::k)) st Q
    |.block id a=>step P O n f (.r (.code a::.inBlock id::k)) st Q
    |.exit id=>dQ (eH id k) λk'=>step P O n f (.r k') st Q
    |.ret=>Q st
    |.cond c a b=>ee (c.ev st.s) (λt=>both t true (step P O n f (.r (.code a::k)) st Q) (step P O n f (.r (.code b::k)) st Q)) False
    |.VL draw l=>match draw with
     |false=>step P O n f (.r (.ops l::k)) st Q
     |true=>step P O n f (.d l k) st Q
    |.loop a=>aq P n (.code (.loop a)::k) st Q
    |.gi g ps a b=>aq P n (.code (.gi g ps a b)::k) st Q
    |.Wv l R7=>aq P n (.code (.Wv l R7)::k) st Q
    |.xU l e=>step P O n f (.d l (.ops e::k)) st Q
    |.bad=>False
def yF{st:St}{x:VX}{v:V}(h:x.ev st.s=v):st.lit x v=st:=by
 cases x with
 |t d=>
  simp only[VX.ev]at h;have:aY st.s (some d) v=st.s:=by
   funext i;simp only[aY];split
   .rename_i e;rw[e,h]
   .rfl
  simp[St.lit,this]
 |c _=>rfl
def aq.cW{i:aS}{l:List aS}{sz:Nat}{xa xv:VX}(hw:bn st.s i.g=some true)(ho:i.op=.store sz xa xv){Z':ak}
 (h1:Vc.cW st.U sz (xa.ev st.s) (xv.ev st.s)=some Z')(h:aq P n (.ops l::k) ⟨aY st.s i.dst (.RM []),Z'⟩ Q):aq P n (.ops (i::l)::k) st Q:=by
 unfold Vc.cW at h1;split at h1
 .rename_i id r0 c e1;split at h1
  .rename_i ob e2;split at h1
   .rename_i r e3;split at h1
    .rename_i r' e4;simp only[bf]at h1;subst h1;exact aq.store hw ho e1 e2 e3 e4 h
    .cases h1
   .cases h1
  .cases h1
 .cases h1
def aq.Tm{i:aS}{l:List aS}(hw:bn st.s i.g=some true){g:Nat->V×ak}(hg:Vc.Tm st.s st.U i.op=some g)
 (h:∀id,st.U id=none->aq P n (.ops l::k) ⟨aY st.s i.dst (g id).1,(g id).2⟩ Q):aq P n (.ops (i::l)::k) st Q:=by
 cases RN:i.op<;>rw[RN]at hg<;>simp only[Vc.Tm,reduceCtorEq]at hg
 case box e sz xv=>
  split at hg
  .rename_i hc;simp only[bf]at hg;subst hg;exact aq.box hw RN hc.1 hc.2 h
  .cases hg
 case alloc e sz z=>
  simp only[bf]at hg;subst hg;exact aq.alloc hw RN h
 case iC e sz xs=>
  split at hg
  .rename_i hc;simp only[bf]at hg;subst hg;refine aq.iC hw RN (λx hx=>?_) h;have:=fL.1 hc x hx;simpa using this
  .cases hg
 case mk e sz bytes zv x=>
  split at hg
  .rename_i m hm;split at hg
   .rename_i hc;simp only[bf]at hg;subst hg;exact aq.mkS hw RN hm hc.1 hc.2 h
   .cases hg
  .cases hg
 case XG e sz bytes zv y x=>
  split at hg
  .rename_i kq m hy hm;split at hg
   .rename_i hc;simp only[bf]at hg;subst hg;exact aq.NG hw RN hy hm hc.1 hc.2 h
   .cases hg
  .cases hg
 case append e sz bytes xa xb=>
  split at hg
  .rename_i base idA src e1 e2;split at hg
   .rename_i hb;simp only[bf]at hg;subst hg;exact aq.append hw RN e1 e2 hb h
   .cases hg
  .cases hg
def o5{i:aS}{K:St->Prop}(hw:bn st.s i.g=some true)(h:TO P i.dst i.op st K):T P i st K:=by unfold T;simp only[hw];exact h
def yE{i:aS}{K:St->Prop}(hw:bn st.s i.g=some false)(h:K ⟨aY st.s i.dst (.RM []),st.U⟩):T P i st K:=by unfold T;simp only[hw];exact h
def uM{O:Th P}{s:Nat->V}{U:ak}{op:Sj}{v:V}(h:wq O s U op=some v):
 ∃fx xs f caps,op=.call fx xs/\fx.ev s=.fn f caps/\∀Z1,aa U Z1->aB P f (xs.map (·.ev s)++caps) Z1 λr Z'=>r=v/\Z'=Z1:=by
 unfold wq at h;split at h
 .rename_i fx xs;split at h
  .rename_i f caps hf;exact⟨fx,xs,f,caps,rfl,hf,λZ1 h1=>O.ok _ _ _ _ (O.up _ _ _ _ _ h1 h)⟩
  .cases h
 .cases h
def aq.vu{O:Th P}{i:aS}{l:List aS}{st:St}(hw:bn st.s i.g=some true){K:St->Prop}(hK:∀st,K st->aq P n (.ops l::k) st Q)
 (h:sS O (bt i.op) i.dst i.op st K (aq P n (.ops (i::l)::k) st Q)):aq P n (.ops (i::l)::k) st Q:=by
 unfold sS at h;rcases oE h with⟨_,h1,h⟩|⟨_,h⟩|⟨_,h⟩|⟨_,h⟩|h
 .obtain⟨v,hv,h⟩:=iI.1 h;exact aq.pure hw h1 hv (hK _ h)
 .rcases qh h with⟨v,hv,h⟩|h
  .obtain⟨fx,xs,f,caps,ho,hf,hc⟩:=uM hv;refine aq.call hw ho hf (hc _ (aa.refl _)) ?_;rintro r Z' ⟨rfl,rfl⟩;exact hK _ h
  .exact h
 .obtain⟨Z',hs,h⟩:=iI.1 h;cases RN:i.op<;>rw[RN]at hs<;>simp only[cV,reduceCtorEq]at hs;exact aq.cW hw RN hs (hK _ h)
 .obtain⟨g,hgg,h⟩:=iI.1 h;exact aq.Tm hw hgg λid L'=>hK _ (h id L')
 .exact h
def Go.vu{O:Th P}{i:aS}{l:List aS}{st:St}(hw:bn st.s i.g=some true){K:St->Prop}(hK:∀st,K st->Go P n (.d l k) st Q)
 (h:sS O (bt i.op) i.dst i.op st K (Go P n (.d (i::l) k) st Q)):Go P n (.d (i::l) k) st Q:=by
 unfold sS at h;rcases oE h with⟨hk,h1,h⟩|⟨hk,h⟩|⟨_,h⟩|⟨hk,h⟩|h
 .obtain⟨v,hv,h⟩:=iI.1 h;refine o5 hw ?_;unfold TO;simp only[hk];exact⟨h1,v,hv,hK _ h⟩
 .rcases qh h with⟨v,hv,h⟩|h
  .obtain⟨fx,xs,f,caps,ho,hf,hc⟩:=uM hv;refine o5 hw ?_;rw[ho];exact⟨f,caps,v,hf,hc,hK _ h⟩
  .exact h
 .obtain⟨Z',hs,h⟩:=iI.1 h;refine o5 hw ?_;cases RN:i.op<;>rw[RN]at hs<;>simp only[cV,reduceCtorEq]at hs;exact⟨Z',hs,hK _ h⟩
 .obtain⟨g,hgg,h⟩:=iI.1 h;refine o5 hw ?_;unfold TO;simp only[hk];exact⟨g,hgg,λid L'=>hK _ (h id L')⟩
 .exact h
def Go.bx(O:Th P):∀(f:Nat) (t:Td) (st:St),step P O n f t st Q->Go P n t st Q
 |0,_,_,h=>h
 |f+1,.d [] k,st,h=>Go.bx O f (.r k) st h
 |f+1,.d (i::l) k,st,h=>by
  simp only[step]at h;split at h
  .rename_i hg;have hw:bn st.s i.g=some true:=by simp[hg,bn]
   exact Go.vu hw (λst h=>Go.bx O f (.d l k) st h) h
  .rename_i x b hg;rcases mB h with⟨c,hc,h⟩|⟨hc,h⟩|⟨q,m,hc,h⟩
   .by_cases hcb:c=b
    .subst hcb;have h1:=h.1 rfl;have hw:bn st.s i.g=some true:=by simp[hg,bn,hc]
     rw[yF hc]at h1;exact Go.vu hw (λst h=>Go.bx O f (.d l k) st h) h1
    .have Zu:c=!b:=by revert hcb;cases c<;>cases b<;>simp
     have h2:=h.2 Zu;rw[yF (by rw[hc,Zu])]at h2;exact yE (by simp only[hg,bn,hc];rw[Zu];cases b<;>rfl) (Go.bx O f (.d l k) _ h2)
   .exact yE (by simp[hg,bn,hc]) (Go.bx O f (.d l k) _ h)
   .exact yE (by simp[hg,bn,hc]) (Go.bx O f (.d l k) _ h)
 |f+1,.r [],_,h=>aq.nil h
 |f+1,.r (.stop _::_),_,h=>h
 |f+1,.r (.inBlock _::k),st,h=>aq.inBlock (Go.bx O f (.r k) st h).runs
 |f+1,.r (.ops []::k),st,h=>aq.Io (Go.bx O f (.r k) st h).runs
 |f+1,.r (.ops (i::l)::k),st,h=>by
  simp only[step]at h;split at h
  .rename_i hg;have hw:bn st.s i.g=some true:=by simp[hg,bn]
   exact aq.vu hw (λst h=>(Go.bx O f (.r (.ops l::k)) st h).runs) h
  .rename_i x b hg;rcases mB h with⟨c,hc,h⟩|⟨hc,h⟩|⟨q,m,hc,h⟩
   .by_cases hcb:c=b
    .subst hcb;have h1:=h.1 rfl;have hw:bn st.s i.g=some true:=by simp[hg,bn,hc]
     rw[yF hc]at h1;exact aq.vu hw (λst h=>(Go.bx O f (.r (.ops l::k)) st h).runs) h1
    .have Zu:c=!b:=by revert hcb;cases c<;>cases b<;>simp
     have h2:=h.2 Zu;rw[yF (by rw[hc,Zu])]at h2;exact aq.xK (by simp only[hg,bn,hc];rw[Zu];cases b<;>rfl) (Go.bx O f (.r (.ops l::k)) _ h2).runs
   .exact aq.xK (by simp[hg,bn,hc]) (Go.bx O f (.r (.ops l::k)) _ h).runs
   .exact aq.xK (by simp[hg,bn,hc]) (Go.bx O f (.r (.ops l::k)) _ h).runs
 |f+1,.r (.code c::k),st,h=>by
  cases c with
  |skip=>exact aq.skip (Go.bx O f (.r _) _ h).runs
  |seq a b=>exact aq.seq (Go.bx O f (.r _) _ h).runs
  |block id a=>exact aq.block (Go.bx O f (.r _) _ h).runs
  |exit id=>
   simp only[step]at h;obtain⟨k',Tp,h⟩:=iI.1 h;exact aq.exit Tp (Go.bx O f (.r _) _ h).runs
  |ret=>exact aq.ret h
  |cond c a b=>
   simp only[step]at h;rcases mB h with⟨t,ht,h⟩|⟨_,h⟩|⟨_,_,_,h⟩
   .exact aq.cond ht (λe=>(Go.bx O f (.r _) _ (h.1 e)).runs) (λe=>(Go.bx O f (.r _) _ (h.2 (by rw[e];rfl))).runs)
   .exact h.elim
   .exact h.elim
  |VL draw l=>
   cases draw
   .exact aq.region (Go.bx O f (.r _) _ h).runs
   .exact aq.IX (Go.bx O f (.d l k) _ h).chain
  |loop a=>exact h
  |gi g ps a b=>exact h
  |Wv l R7=>exact h
  |xU l e=>exact aq.xU (Go.bx O f (.d l (.ops e::k)) _ h).chain
  |bad=>exact h.elim
def aq.bx(O:Th P)(f:Nat){todo:List It}{st:St}(h:step P O n f (.r todo) st Q):aq P n todo st Q:=(Go.bx O f (.r todo) st h).runs
section rules
variable (P:Program) (O:Th P) (n:Nat) (f:Nat)
def exR(o:Option (List It))(st:St)(Q:St->Prop):Prop:=dQ o λk'=>step P O n f (.r k') st Q
def cR(v:V)(a b:bP)(k:List It)(st:St)(Q:St->Prop):Prop:=ee v (λt=>both t true (step P O n f (.r (.code a::k)) st Q) (step P O n f (.r (.code b::k)) st Q)) False
def Ju(l:List aS)(k:List It)(d:Option Nat)(st:St)(Q:St->Prop)(o:Option V):Prop:=dQ o λv=>step P O n f (.r (.ops l::k)) ⟨aY st.s d v,st.U⟩ Q
def GV(l:List aS)(k:List It)(d:Option Nat)(st:St)(Q:St->Prop)(o:Option ak):Prop:=dQ o λZ'=>step P O n f (.r (.ops l::k)) ⟨aY st.s d (.RM []),Z'⟩ Q
def GC(l:List aS)(k:List It)(d:Option Nat)(st:St)(Q:St->Prop)(o:Option (Nat->V×ak)):Prop:=
 dQ o λg=>∀id,st.U id=none->step P O n f (.r (.ops l::k)) ⟨aY st.s d (g id).1,(g id).2⟩ Q
def Ew(l:List aS)(k:List It)(d:Option Nat)(op:Sj)(g:Option (VX×Bool))(st:St)(Q:St->Prop)(o:Option V):Prop:=
 yx o (λv=>step P O n f (.r (.ops l::k)) ⟨aY st.s d v,st.U⟩ Q) (aq P n (.ops (⟨d,op,g⟩::l)::k) st Q)
def tT(q:Nat)(d:Option Nat)(op:Sj)(g:Option (VX×Bool))(l:List aS)(k:List It)(st:St)(Q:St->Prop):Prop:=
 sS O q d op st (λst=>step P O n f (.r (.ops l::k)) st Q) (aq P n (.ops (⟨d,op,g⟩::l)::k) st Q)
def gR(v:V)(d:Option Nat)(op:Sj)(x:VX)(b:Bool)(l:List aS)(k:List It)(st:St)(Q:St->Prop):Prop:=
 ee v (λc=>both c b (tT P O n f (bt op) d op (some (x,b)) l k (st.lit x (.bool b)) Q)
  (step P O n f (.r (.ops l::k)) ⟨aY (st.lit x (.bool !b)).s d (.RM []),(st.lit x (.bool !b)).U⟩ Q)) (step P O n f (.r (.ops l::k)) ⟨aY st.s d (.RM []),st.U⟩ Q)
def JJ(l:List aS)(k:List It)(d:Option Nat)(st:St)(Q:St->Prop)(o:Option V):Prop:=dQ o λv=>step P O n f (.d l k) ⟨aY st.s d v,st.U⟩ Q
def FL(l:List aS)(k:List It)(d:Option Nat)(st:St)(Q:St->Prop)(o:Option ak):Prop:=dQ o λZ'=>step P O n f (.d l k) ⟨aY st.s d (.RM []),Z'⟩ Q
def D8(l:List aS)(k:List It)(d:Option Nat)(st:St)(Q:St->Prop)(o:Option (Nat->V×ak)):Prop:=
 dQ o λg=>∀id,st.U id=none->step P O n f (.d l k) ⟨aY st.s d (g id).1,(g id).2⟩ Q
def GO(l:List aS)(k:List It)(d:Option Nat)(op:Sj)(g:Option (VX×Bool))(st:St)(Q:St->Prop)(o:Option V):Prop:=
 yx o (λv=>step P O n f (.d l k) ⟨aY st.s d v,st.U⟩ Q) (Go P n (.d (⟨d,op,g⟩::l) k) st Q)
def vQ(q:Nat)(d:Option Nat)(op:Sj)(g:Option (VX×Bool))(l:List aS)(k:List It)(st:St)(Q:St->Prop):Prop:=
 sS O q d op st (λst=>step P O n f (.d l k) st Q) (Go P n (.d (⟨d,op,g⟩::l) k) st Q)
def gD(v:V)(d:Option Nat)(op:Sj)(x:VX)(b:Bool)(l:List aS)(k:List It)(st:St)(Q:St->Prop):Prop:=
 ee v (λc=>both c b (vQ P O n f (bt op) d op (some (x,b)) l k (st.lit x (.bool b)) Q)
  (step P O n f (.d l k) ⟨aY (st.lit x (.bool !b)).s d (.RM []),(st.lit x (.bool !b)).U⟩ Q)) (step P O n f (.d l k) ⟨aY st.s d (.RM []),st.U⟩ Q)
variable {P O n} {f}
def wI(s:Nat->V)(d:Nat)(v:V)(i:Nat):aY s (some d) v i=if i=d then v else s i:=rfl
def wB(s:Nat->V)(v:V)(i:Nat):aY s none v i=s i:=rfl
def JF(st:St)(d:Nat)(v:V):st.lit (.t d) v=⟨aY st.s (some d) v,st.U⟩:=rfl
def JG(st:St)(u v:V):st.lit (.c u) v=st:=rfl
def N9(s:Nat->V)(d:Nat):VX.ev s (.t d)=s d:=rfl
def LQ(s:Nat->V)(v:V):VX.ev s (.c v)=v:=rfl
def FG(d:Option Nat)(op:Sj)(g:Option (VX×Bool))(l:List aS):tT P O n f 0 d op g l k st Q=(ga st.s op/\Ju P O n f l k d st Q (aT st.U st.s op)):=rfl
def G9(d:Option Nat)(op:Sj)(g:Option (VX×Bool))(l:List aS):tT P O n f 1 d op g l k st Q=Ew P O n f l k d op g st Q (wq O st.s st.U op):=rfl
def Gi(d:Option Nat)(op:Sj)(g:Option (VX×Bool))(l:List aS):tT P O n f 2 d op g l k st Q=GV P O n f l k d st Q (cV st.s st.U op):=rfl
def EG(d:Option Nat)(op:Sj)(g:Option (VX×Bool))(l:List aS):tT P O n f 3 d op g l k st Q=GC P O n f l k d st Q (Tm st.s st.U op):=rfl
def Ez(d:Option Nat)(op:Sj)(g:Option (VX×Bool))(l:List aS):tT P O n f 4 d op g l k st Q=aq P n (.ops (⟨d,op,g⟩::l)::k) st Q:=rfl
def tR(d:Option Nat)(op:Sj)(g:Option (VX×Bool))(l:List aS)(v:V):Ew P O n f l k d op g st Q (some v)=step P O n f (.r (.ops l::k)) ⟨aY st.s d v,st.U⟩ Q:=rfl
def vE(d:Option Nat)(op:Sj)(g:Option (VX×Bool))(l:List aS):Ew P O n f l k d op g st Q none=aq P n (.ops (⟨d,op,g⟩::l)::k) st Q:=rfl
def y7(s:Nat->V)(U:ak)(fx:VX)(xs:List VX):wq O s U (.call fx xs)=match fx.ev s with
 |.fn f caps=>O.get f (xs.map (·.ev s)++caps) U
 |_=>none:=rfl
def E5(d:Option Nat)(op:Sj)(g:Option (VX×Bool))(l:List aS):vQ P O n f 0 d op g l k st Q=(ga st.s op/\JJ P O n f l k d st Q (aT st.U st.s op)):=rfl
def Fv(d:Option Nat)(op:Sj)(g:Option (VX×Bool))(l:List aS):vQ P O n f 1 d op g l k st Q=GO P O n f l k d op g st Q (wq O st.s st.U op):=rfl
def Fi(d:Option Nat)(op:Sj)(g:Option (VX×Bool))(l:List aS):vQ P O n f 2 d op g l k st Q=FL P O n f l k d st Q (cV st.s st.U op):=rfl
def Fl(d:Option Nat)(op:Sj)(g:Option (VX×Bool))(l:List aS):vQ P O n f 3 d op g l k st Q=D8 P O n f l k d st Q (Tm st.s st.U op):=rfl
def vm(d:Option Nat)(op:Sj)(g:Option (VX×Bool))(l:List aS)(v:V):GO P O n f l k d op g st Q (some v)=step P O n f (.d l k) ⟨aY st.s d v,st.U⟩ Q:=rfl
def uH(d:Option Nat)(op:Sj)(g:Option (VX×Bool))(l:List aS):GO P O n f l k d op g st Q none=Go P n (.d (⟨d,op,g⟩::l) k) st Q:=rfl
def Dg:step P O n (f+1) (.r []) st Q=Q st:=rfl
def uw(μ:St->Prop):step P O n (f+1) (.r (.stop μ::k)) st Q=μ st:=rfl
def rH(id:Nat):step P O n (f+1) (.r (.inBlock id::k)) st Q=step P O n f (.r k) st Q:=rfl
def rz:step P O n (f+1) (.r (.ops []::k)) st Q=step P O n f (.r k) st Q:=rfl
def Ai:step P O n (f+1) (.r (.code .skip::k)) st Q=step P O n f (.r k) st Q:=rfl
def Co(a b:bP):step P O n (f+1) (.r (.code (.seq a b)::k)) st Q=step P O n f (.r (.code a::.code b::k)) st Q:=rfl
def wX(id:Nat)(a:bP):step P O n (f+1) (.r (.code (.block id a)::k)) st Q=step P O n f (.r (.code a::.inBlock id::k)) st Q:=rfl
def ze(id:Nat):step P O n (f+1) (.r (.code (.exit id)::k)) st Q=exR P O n f (eH id k) st Q:=rfl
def zg(k':List It):exR P O n f (some k') st Q=step P O n f (.r k') st Q:=rfl
def Db:step P O n (f+1) (.r (.code .ret::k)) st Q=Q st:=rfl
def zC(a:bP):step P O n (f+1) (.r (.code (.loop a)::k)) st Q=aq P n (.code (.loop a)::k) st Q:=rfl
def zZ(l e:List aS):step P O n (f+1) (.r (.code (.xU l e)::k)) st Q=step P O n f (.d l (.ops e::k)) st Q:=rfl
def gq(l:List aS)(R7:List (List Nat)):step P O n (f+1) (.r (.code (.Wv l R7)::k)) st Q=aq P n (.code (.Wv l R7)::k) st Q:=rfl
def tF(g:VX)(ps:List Nat)(a b:bP):step P O n (f+1) (.r (.code (.gi g ps a b)::k)) st Q=aq P n (.code (.gi g ps a b)::k) st Q:=rfl
def C5(l:List aS):step P O n (f+1) (.r (.code (.VL false l)::k)) st Q=step P O n f (.r (.ops l::k)) st Q:=rfl
def zH(l:List aS):step P O n (f+1) (.r (.code (.VL true l)::k)) st Q=step P O n f (.d l k) st Q:=rfl
def CU:step P O n (f+1) (.d [] k) st Q=step P O n f (.r k) st Q:=rfl
def y9(c:VX)(a b:bP):step P O n (f+1) (.r (.code (.cond c a b)::k)) st Q=cR P O n f (c.ev st.s) a b k st Q:=rfl
def MR(a b:bP):cR P O n f (.bool true) a b k st Q=step P O n f (.r (.code a::k)) st Q:=by simp[cR,ee,both]
def LH(a b:bP):cR P O n f (.bool false) a b k st Q=step P O n f (.r (.code b::k)) st Q:=by simp[cR,ee,both]
def GX(p:Prop)[Decidable p](a b:bP):cR P O n f (.bool (decide p)) a b k st Q=((p->step P O n f (.r (.code a::k)) st Q)/\(¬p->step P O n f (.r (.code b::k)) st Q)):=by simp[cR,ee,both]
def Cs(d:Option Nat)(op:Sj)(l:List aS):step P O n (f+1) (.r (.ops (⟨d,op,none⟩::l)::k)) st Q=tT P O n f (bt op) d op none l k st Q:=rfl
def uL(d:Option Nat)(l:List aS)(v:V):Ju P O n f l k d st Q (some v)=step P O n f (.r (.ops l::k)) ⟨aY st.s d v,st.U⟩ Q:=rfl
def sM(d:Option Nat)(l:List aS)(Z':ak):GV P O n f l k d st Q (some Z')=step P O n f (.r (.ops l::k)) ⟨aY st.s d (.RM []),Z'⟩ Q:=rfl
def aH(d:Option Nat)(l:List aS)(g:Nat->V×ak):GC P O n f l k d st Q (some g)=∀id,st.U id=none->step P O n f (.r (.ops l::k)) ⟨aY st.s d (g id).1,(g id).2⟩ Q:=rfl
def Df(d:Option Nat)(op:Sj)(l:List aS):step P O n (f+1) (.d (⟨d,op,none⟩::l) k) st Q=vQ P O n f (bt op) d op none l k st Q:=rfl
def tY(d:Option Nat)(l:List aS)(v:V):JJ P O n f l k d st Q (some v)=step P O n f (.d l k) ⟨aY st.s d v,st.U⟩ Q:=rfl
def rX(d:Option Nat)(l:List aS)(Z':ak):FL P O n f l k d st Q (some Z')=step P O n f (.d l k) ⟨aY st.s d (.RM []),Z'⟩ Q:=rfl
def aJ(d:Option Nat)(l:List aS)(g:Nat->V×ak):D8 P O n f l k d st Q (some g)=∀id,st.U id=none->step P O n f (.d l k) ⟨aY st.s d (g id).1,(g id).2⟩ Q:=rfl
def AT(d:Option Nat)(op:Sj)(x:VX)(b:Bool)(l:List aS):step P O n (f+1) (.r (.ops (⟨d,op,some (x,b)⟩::l)::k)) st Q=gR P O n f (x.ev st.s) d op x b l k st Q:=rfl
def Hc(d:Option Nat)(op:Sj)(x:VX)(b:Bool)(l:List aS):gR P O n f (.RM []) d op x b l k st Q=step P O n f (.r (.ops l::k)) ⟨aY st.s d (.RM []),st.U⟩ Q:=rfl
def Jv(d:Option Nat)(op:Sj)(x:VX)(l:List aS):gR P O n f (.bool true) d op x true l k st Q=tT P O n f (bt op) d op (some (x,true)) l k (st.lit x (.bool true)) Q:=by simp[gR,ee,both]
def JC(d:Option Nat)(op:Sj)(x:VX)(l:List aS):gR P O n f (.bool false) d op x false l k st Q=tT P O n f (bt op) d op (some (x,false)) l k (st.lit x (.bool false)) Q:=by simp[gR,ee,both]
def Jp(d:Option Nat)(op:Sj)(x:VX)(l:List aS):gR P O n f (.bool true) d op x false l k st Q=step P O n f (.r (.ops l::k)) ⟨aY (st.lit x (.bool true)).s d (.RM []),(st.lit x (.bool true)).U⟩ Q:=by simp[gR,ee,both]
def JI(d:Option Nat)(op:Sj)(x:VX)(l:List aS):gR P O n f (.bool false) d op x true l k st Q=step P O n f (.r (.ops l::k)) ⟨aY (st.lit x (.bool false)).s d (.RM []),(st.lit x (.bool false)).U⟩ Q:=by simp[gR,ee,both]
def At(p:Prop)[Decidable p](d:Option Nat)(op:Sj)(x:VX)(l:List aS):gR P O n f (.bool (decide p)) d op x true l k st Q=
 ((p->tT P O n f (bt op) d op (some (x,true)) l k (st.lit x (.bool true)) Q)/\(¬p->step P O n f (.r (.ops l::k)) ⟨aY (st.lit x (.bool false)).s d (.RM []),(st.lit x (.bool false)).U⟩ Q)):=by simp[gR,ee,both]
def AM(p:Prop)[Decidable p](d:Option Nat)(op:Sj)(x:VX)(l:List aS):gR P O n f (.bool (decide p)) d op x false l k st Q=
 ((¬p->tT P O n f (bt op) d op (some (x,false)) l k (st.lit x (.bool false)) Q)/\(p->step P O n f (.r (.ops l::k)) ⟨aY (st.lit x (.bool true)).s d (.RM []),(st.lit x (.bool true)).U⟩ Q)):=by simp[gR,ee,both]
def AG(d:Option Nat)(op:Sj)(x:VX)(b:Bool)(l:List aS):step P O n (f+1) (.d (⟨d,op,some (x,b)⟩::l) k) st Q=gD P O n f (x.ev st.s) d op x b l k st Q:=rfl
def FT(d:Option Nat)(op:Sj)(x:VX)(b:Bool)(l:List aS):gD P O n f (.RM []) d op x b l k st Q=step P O n f (.d l k) ⟨aY st.s d (.RM []),st.U⟩ Q:=rfl
def Jk(d:Option Nat)(op:Sj)(x:VX)(l:List aS):gD P O n f (.bool true) d op x true l k st Q=vQ P O n f (bt op) d op (some (x,true)) l k (st.lit x (.bool true)) Q:=by simp[gD,ee,both]
def Jh(d:Option Nat)(op:Sj)(x:VX)(l:List aS):gD P O n f (.bool false) d op x false l k st Q=vQ P O n f (bt op) d op (some (x,false)) l k (st.lit x (.bool false)) Q:=by simp[gD,ee,both]
def JD(d:Option Nat)(op:Sj)(x:VX)(l:List aS):gD P O n f (.bool true) d op x false l k st Q=step P O n f (.d l k) ⟨aY (st.lit x (.bool true)).s d (.RM []),(st.lit x (.bool true)).U⟩ Q:=by simp[gD,ee,both]
def JE(d:Option Nat)(op:Sj)(x:VX)(l:List aS):gD P O n f (.bool false) d op x true l k st Q=step P O n f (.d l k) ⟨aY (st.lit x (.bool false)).s d (.RM []),(st.lit x (.bool false)).U⟩ Q:=by simp[gD,ee,both]
def AY(p:Prop)[Decidable p](d:Option Nat)(op:Sj)(x:VX)(l:List aS):gD P O n f (.bool (decide p)) d op x true l k st Q=
 ((p->vQ P O n f (bt op) d op (some (x,true)) l k (st.lit x (.bool true)) Q)/\(¬p->step P O n f (.d l k) ⟨aY (st.lit x (.bool false)).s d (.RM []),(st.lit x (.bool false)).U⟩ Q)):=by simp[gD,ee,both]
def yR(p:Prop)[Decidable p](d:Option Nat)(op:Sj)(x:VX)(l:List aS):gD P O n f (.bool (decide p)) d op x false l k st Q=
 ((¬p->vQ P O n f (bt op) d op (some (x,false)) l k (st.lit x (.bool false)) Q)/\(p->step P O n f (.d l k) ⟨aY (st.lit x (.bool true)).s d (.RM []),(st.lit x (.bool true)).U⟩ Q)):=by simp[gD,ee,both]
end rules
def aV(P:Program)(f:FuncId)(args:List V)(v:V):Prop:=∀U,aB P f args U λr Z'=>r=v/\Z'=U
variable {P:Program} {n:Nat} {st:St} {Q:St->Prop} {k:List It}
def ic:ak:=λ_=>none
def jR(U:ak):aa ic U:=λ_ _ h=>by simp[ic]at h
def V.lone:V->Bool
 |.int ..|.bool _|.str _=>true
 |_=>false
def E'.lone{I Y':Mu}{ow TA:Nat->Prop}{w w':World}{v:V}{x:Value}(hv:v.lone=true)(h:E' I ow w v x):E' Y' TA w' v x:=by
 cases v<;>simp only[V.lone,iP]at hv<;>simpa[E']using h
def az(v:V)(U:ak)(Post:V->ak->Prop):Prop:=∃v' Z',aa Z' U/\Wk U Z' v v'/\Post v' Z'
def CA{s:Nat->V}{U:ak}{d:Nat}{Post:V->ak->Prop}:Wq [.tmp (.t d)] ⟨s,U⟩ Post=az (s d) U Post:=by
 apply propext;simp only[Wq,az,tf,iy,jA,VX.ev];constructor
 .rintro⟨v,v',Z',h1,h2⟩;simp only[bf]at h1;subst h1;exact⟨v',Z',h2⟩
 .rintro⟨v',Z',h2⟩;exact⟨_,v',Z',rfl,h2⟩
def Cg{s:Nat->V}{U:ak}{d e:Nat}{Post:V->ak->Prop}:Wq [.tmp (.t d),.tmp (.t e)] ⟨s,U⟩ Post=az (.RM [s d,s e]) U Post:=by
 apply propext;simp only[Wq,az,tf,iy,jA,VX.ev];constructor
 .rintro⟨v,v',Z',h1,h2⟩;simp only[bf]at h1;subst h1;exact⟨v',Z',h2⟩
 .rintro⟨v',Z',h2⟩;exact⟨_,v',Z',rfl,h2⟩
def wz{s:Nat->V}{U:ak}{d e g:Nat}{Post:V->ak->Prop}:Wq [.tmp (.t d),.tmp (.t e),.tmp (.t g)] ⟨s,U⟩ Post=az (.RM [s d,s e,s g]) U Post:=by
 apply propext;simp only[Wq,az,tf,iy,jA,VX.ev];constructor
 .rintro⟨v,v',Z',h1,h2⟩;simp only[bf]at h1;subst h1;exact⟨v',Z',h2⟩
 .rintro⟨v',Z',h2⟩;exact⟨_,v',Z',rfl,h2⟩
def Ak{st:St}{Post:V->ak->Prop}:Wq [] st Post=az (.RM []) st.U Post:=by
 apply propext;simp only[Wq,az,tf,iy];constructor
 .rintro⟨v,v',Z',h1,h2⟩;simp only[bf]at h1;subst h1;exact⟨v',Z',h2⟩
 .rintro⟨v',Z',h2⟩;exact⟨_,v',Z',rfl,h2⟩
def az.pure{v v0:V}{U Z1:ak}(h:aa U Z1)(hv:v=v0):az v Z1 λr Z'=>r=v0/\Z'=U:=
 ⟨v,U,h,Wk.refl h v,hv,rfl⟩
def az.same{v v0:V}{U:ak}(hv:v=v0):az v U λr Z'=>r=v0/\Z'=U:=.pure (aa.refl U) hv
def gl{U:ak}{id i:Nat}{o:Ob}:C' U id o i=none↔i≠id/\U i=none:=by
 unfold C';split<;>simp_all
def av{U:ak}{id:Nat}{o:Ob}:C' U id o id=some o:=by simp[C']
def ab{U:ak}{id i:Nat}{o:Ob}(h:i≠id):C' U id o i=U i:=by simp[C',h]
def R6{U J:ak}{i j:Nat}{o:Ob}{x:Option Ob}(h:C' U j o=J)(n:i≠j)(a:U i=x):J i=x:=by subst h;rw[ab n];exact a
def SR{U J:ak}{j:Nat}{o:Ob}(h:C' U j o=J):J j=some o:=by subst h;exact av
def eT{U:ak}{id i:Nat}(h:i≠id):del U id i=U i:=by simp[del,h]
def tk{U:ak}{id:Nat}{a b:Ob}:C' (C' U id a) id b=C' U id b:=by
 funext i;simp only[C'];split<;>rfl
def CJ{U:ak}{id:Nat}{a:Ob}(h:U id=none):del (C' U id a) id=U:=by
 funext i;simp only[del,C'];split
 .rename_i e;rw[e,h]
 .rfl
def aa.C'{Z' U:ak}{id:Nat}{o:Ob}(h:aa Z' U)(L':U id=none):aa Z' (Vc.C' U id o):=
 h.Im (by
  cases hs:Z' id with
  |none=>rfl
  |some x=>have:=h id x hs;rw[L']at this;cases this)
def aa.KE{U Z':ak}{id:Nat}{o:Ob}(h:aa U Z'):aa (Vc.C' U id o) (Vc.C' Z' id o):=λi x hx=>by
 simp only[Vc.C']at hx|-;split at hx
 .rename_i e;rw[aK e];exact hx
 .rename_i e;rw[aM e];exact h i x hx
variable {P:Program} {n:Nat} {st:St} {Q:St->Prop} {k:List It} {I:Mu} {w:World}
def DD{rows:List V}{sz:Nat}(h:∀r∈rows,r.cells.length=sz)(k:Nat):flat (rows.drop k)=(flat rows).drop (k*sz):=by
 induction rows generalizing k with
 |nil=>simp[flat]
 |cons r rs ih=>
  have e:∀l,flat (r::l)=r.cells++flat l:=λl=>by simp[flat]
  cases k with
  |zero=>simp[flat]
  |succ k=>
   rw[List.drop_succ_cons,e,ih (λx hx=>h x (by simp[hx])),Nat.add_mul,Nat.one_mul,BG,<-h r (by simp),<-List.drop_drop,List.drop_left]
def ax.replicate{ow:Nat->Prop}{vs:List V}{l:List Value}(h:ax I ow w vs l):∀n,ax I ow w (List.replicate n vs).flatten (List.replicate n l).flatten
 |0=>by simp[ax]
 |n+1=>by
  simp only[List.replicate_succ,List.flatten_cons];exact h.append (ax.replicate h n)
def y8{F:Fr}{a:Act}(hs:dz F I st a w){o:Oper}{x:Operand}{t e:TypeId}{args:Array Operand}{argTypes:Array TypeId}{i:TypeInfo}{z:Value}
 (XH:o.op=.call { callee:=.builtin .clear,args:=args,argTypes:=argTypes })(harg:args=#[x])(Vu:argTypes[0]?=some t)
 (ht:P.underlying t=some (.slice e))(hz:zeroOf P e=some (i,z)){id off len:Nat}(h1:(cx F.n x).ev st.s=.own id off len){ob:Ob}(h2:st.U id=some ob)
 (h3:ob.sz=i.size)(h4:off+len<=ob.rows.length):
 ∃y w',(execOp a.eval o).run P w=.ok (.value y) w'/\
  dz F I ⟨aY st.s (o.dst.filter (·<F.n)) (.RM []),C' st.U id { ob with rows:=ob.rows.take off++List.replicate len (ofValue z)++ob.rows.drop (off+len) }⟩ (a.put o.dst y) w':=by
 obtain⟨hi,hz0,hk,hzs,Sb,Tt⟩:=ff hz;have R:=cF hs;have hx:=R x;rw[h1]at hx;simp only[E']at hx;have Su:∀w',(Builtin.clear_ argTypes o.type #[a.eval x]).run P w=.ok (.tuple #[]) w'->(execOp a.eval o).run P w=.ok (.value (.tuple #[])) w':=by
  intro w' hw';unfold execOp;rw[XH];simp[resolve,invoke,Go.builtin,harg,hw']
 have Tu:E' I (aN I st.U) w (.RM []) (.tuple #[]):=by simp only[E'];exact⟨[],rfl,by simp[ax]⟩
 have hzero:len=0->∃y w',(execOp a.eval o).run P w=.ok (.value y) w'/\
  dz F I ⟨aY st.s (o.dst.filter (·<F.n)) (.RM []),C' st.U id { ob with rows:=ob.rows.take off++List.replicate len (ofValue z)++ob.rows.drop (off+len) }⟩ (a.put o.dst y) w':=by
  intro h0;subst h0;have hX:∃b c,a.eval x=.slice b 0 c:=by
   split at hx
   .exact hx.elim
   .exact⟨_,_,hx.1⟩
   .obtain⟨o',c,h,_⟩:=hx;exact⟨_,_,h⟩
  obtain⟨b,c,hX⟩:=hX;have RR:C' st.U id { ob with rows:=ob.rows.take off++List.replicate 0 (ofValue z)++ob.rows.drop (off+0) }=st.U:=by
   funext j;simp only[C',List.replicate_zero,j6,Nat.add_zero,A8];split
   .rename_i e';rw[e',h2]
   .rfl
  rw[RR];refine⟨.tuple #[],w,Su w ?_,hs.pure Tu⟩;rw[hX];cases b<;>simp[Builtin.clear_,Vu,run_underlying ht]
 split at hx
 .exact hx.elim
 .exact hzero hx.2.2
 .rename_i b V4 cap L';obtain⟨o',c,hX,c1,c2,c3,hz0⟩:=hx;by_cases h0:len=0
  .exact hzero h0
  have Ts:=hs.sat.obj id ob h2;rw[L']at Ts;obtain⟨cur,e1,e2,e3,e4,e5,e6,e7⟩:=Ts.plain hz0;obtain⟨g1,xs,g2,g3,g4,g5⟩:=e7.cur e1;have hoff:o'=off*V4:=by
   rcases c3 with c3|c3
   .exact c3
   .omega
  subst hoff;have RV:V4=i.size:=by omega
  subst RV;have hzl:z.cells.size=i.size:=hzs;have hnews:=ki z.cells len;have TK:(Builtin.zeroCells z.cells len).toList.length=len*i.size:=by rw[hnews];simp[hzl]
  have hbound:off*i.size+len*i.size<=ob.rows.length*i.size:=by rw[<-Nat.add_mul];exact Nat.mul_le_mul_right _ h4
  have hbound2:ob.rows.length*i.size<=cap*i.size:=Nat.mul_le_mul_right _ e5;have hone':∀u∈(Builtin.zeroCells z.cells len).toList,u.oneCell'=true:=by
   rw[hnews];intro u hu;simp only[List.mem_flatten,List.mem_replicate]at hu;obtain⟨l,⟨_,rfl⟩,hu⟩:=hu;exact Sb u hu
  have RR:=run_storeCells_at P b (off*i.size) ob.elem (Builtin.zeroCells z.cells len).toList 0 cur w e1 (by rw[TK];omega) hone';simp only[Nat.add_zero]at RR;refine⟨.tuple #[],w.setRow b (cur.toList.take (off*i.size)++(Builtin.zeroCells z.cells len).toList++cur.toList.drop (off*i.size+(Builtin.zeroCells z.cells len).toList.length)).toArray,Su _ ?_,?_⟩
  .rw[hX];obtain⟨m,rfl⟩:∃m,len=m+1:=⟨len-1,by omega⟩
   simp only[Builtin.clear_,Vu,Sem.run_bind,List.getElem?_toArray,Sem.run_pure,Result.andThen_ok,run_underlying ht,ei hz];simp[RR,run_underlying ht,ei hz]
  .have hgrow:w.grownBy (w.setRow b (cur.toList.take (off*i.size)++(Builtin.zeroCells z.cells len).toList++cur.toList.drop (off*i.size+(Builtin.zeroCells z.cells len).toList.length)).toArray) (some b):=
    ⟨rfl,rfl,rfl,by simp,λkk _ YR=>setRow_other w b kk _ (λe=>YR (by rw[e]))⟩
   have hzc:(ofValue z).cells.length=i.size:=by rw[iq Sb];simp[hzl]
   have Zn:∀q∈ob.rows.take off++List.replicate len (ofValue z)++ob.rows.drop (off+len),q.cells.length=i.size:=by
    intro q hq;simp only[fH]at hq;rcases hq with(hq|hq)|hq
    .exact g1 q (yu hq)
    .rw[(List.mem_replicate.1 hq).2];exact hzc
    .exact g1 q (List.mem_of_mem_drop hq)
   have Yq:flat (ob.rows.take off++List.replicate len (ofValue z)++ob.rows.drop (off+len))=
    (flat ob.rows).take (off*i.size)++(List.replicate len (ofValue z).cells).flatten++(flat ob.rows).drop (off*i.size+len*i.size):=by
    rw[lf,lf,uy,wP g1];congr 1;rw[DD g1,Nat.add_mul]
   have hzr:ax I (aN I st.U) w (ofValue z).cells z.cells.toList:=by rw[iq Sb];exact fB _
   have hch:=hs.sat.change h2 L' (by omega) hgrow _ (ob.rows.take off++List.replicate len (ofValue z)++ob.rows.drop (off+len)) (xs.take (off*i.size)++(Builtin.zeroCells z.cells len).toList++xs.drop (off*i.size+(Builtin.zeroCells z.cells len).toList.length))
    (setRow_heap w b cur _ ob.elem _ e1) (by simp only[List.size_toArray,kI,lQ,DC,TK];rw[Array.length_toList];omega) (by simp;omega) Zn
    (by rw[Yq,TK,hnews];exact((g2.take _).append (hzr.replicate len)).append (g2.drop _))
    (by intro u hu
        simp only[fH]at hu;rcases hu with(hu|hu)|hu
        .exact g3 u (yu hu)
        .exact hone' u hu
        .exact g3 u (List.mem_of_mem_drop hu))
    (by intro j u hu
        have:=oL cur.toList xs _ g5 (off*i.size) (by rw[TK,g4];omega) j u hu;simpa using this)
   exact hs.step hch.1 (dn.refl _) hch.2 (by simp) (by simp only[E'];exact⟨[],rfl,by simp[ax]⟩)
def aq.clear{i:aS}{l:List aS}{sz:Nat}{z:V}{xv:VX}(hw:bn st.s i.g=some true)(ho:i.op=.clear sz z xv)
 {id off len:Nat}(h1:xv.ev st.s=.own id off len){ob:Ob}(h2:st.U id=some ob)(h3:ob.sz=sz)(h4:off+len<=ob.rows.length)
 (h:aq P n (.ops l::k) ⟨aY st.s i.dst (.RM []),C' st.U id { ob with rows:=ob.rows.take off++List.replicate len z++ob.rows.drop (off+len) }⟩ Q):aq P n (.ops (i::l)::k) st Q:=by
 refine aq.ins (by rw[ho];simp) hw λF hn I a w o all hi hs next Q' RK=>?_
 subst hn;obtain⟨RN,hd⟩:=eZ hi;rw[ho]at RN;obtain⟨x,t,e,args,argTypes,ti,zv,g1,g2,g3,g4,g5,rfl,rfl,rfl⟩:=DU RN;obtain⟨y,w',hx,RV⟩:=y8 hs g1 g2 g3 g4 g5 h1 h2 h3 h4;unfold Oper.wp;rw[hx];refine RK _ _ _ ⟨I,?_⟩ h;rw[<-hd];exact RV
def GK{y:Operand}{t:TypeId}{v:V}:cx n y≠.c (.iface t v):=by
 cases y
 case tmp m=>simp only[cx];split<;>simp
 case const u=>
  simp only[cx,ne_eq,VX.c.injEq];unfold ofValue;split
  .split<;>simp
  .unfold cellOf
   repeat' split
   all_goals simp
 all_goals simp[cx]
def Bb{o:Op}{xa:VX}(h:Se P n o=.U4 false xa (.c (.iface 0 .undef))):∃t x y m c yt e,o=.binOp .eql t x y yt/\y=.const (.slice none m c)/\P.underlying t=some (.slice e)/\cx n x=xa:=by
 cases o
 case binOp op t x y yt=>
  simp only[Se]at h;split at h
  .cases op<;>simp only[reduceCtorEq,Sj.U4.injEq,Bool.true_eq_false,false_and]at h;exact absurd h.2.2 GK
  .split at h
   .cases op<;>simp only[reduceCtorEq]at h
   .cases h
  .split at h
   .rename_i hs;unfold cH at h;split at h
    .rename_i hy;obtain⟨rfl,hy⟩:=hy;simp only[Sj.U4.injEq,and_true,true_and]at h;unfold ye at hs;split at hs
     .rename_i e ht;unfold Em Na at hy;split at hy
      .split at hy
       .exact⟨t,x,_,_,_,yt,e,rfl,rfl,ht,h⟩
       .cases hy
      .cases hy
     .cases hs
    .cases h
   .split at h
    .split at h
     .simp only[Sj.U4.injEq,VX.c.injEq,V.iface.injEq]at h;exact absurd h.2.2.1 (by decide)
     .cases h
    .split at h
     .split at h
      .simp only[Sj.U4.injEq,VX.c.injEq,V.iface.injEq]at h;exact absurd h.2.2.1 (by decide)
      .cases h
     ·(repeat' split at h)<;>cases h
 case call c=>
  obtain⟨callee,args,argTypes⟩:=c;cases callee
  case builtin b=>cases b<;>simp only[Se]at h<;>(repeat' split at h)<;>cases h
  all_goals (simp only[Se]at h;cases h)
 case unOp op t x=>cases op<;>simp only[Se]at h<;>cases h
 case makeFunc f a b=>cases f<;>simp only[Se]at h<;>(repeat' split at h)<;>cases h
 all_goals (simp only[Se]at h;(repeat' split at h)<;>cases h)
def aq.Em{i:aS}{l:List aS}{xa:VX}(hw:bn st.s i.g=some true)(ho:i.op=.U4 false xa (.c (.iface 0 .undef))){sz:Nat}{rows:List V}
 (hx:xa.ev st.s=.sl sz rows)(h:∀b,(b=true->rows=[])->aq P n (.ops l::k) ⟨aY st.s i.dst (.bool b),st.U⟩ Q):aq P n (.ops (i::l)::k) st Q:=by
 refine aq.ins (by rw[ho];simp) hw λF hn I a w o all hi hs next Q' RK=>?_
 subst hn;obtain⟨RN,hd⟩:=eZ hi;rw[ho]at RN;obtain⟨t,x,y,m,c,yt,e,g1,rfl,g2,rfl⟩:=Bb RN;have R:=cF hs x;rw[hx]at R;simp only[E']at R;obtain⟨ba,cap,hX,_,hr⟩:=R;have Su:(execOp a.eval o).run P w=.ok (.value (.bool ba.isNone)) w:=by
  unfold execOp;rw[g1];have hY:a.eval (.const (.slice none m c))=.slice none m c:=rfl;simp[hX,hY,eqGuard,Lib.run_eql_slice_nil w t e ba rows.length cap m c g2]
 unfold Oper.wp;rw[Su];refine RK _ _ _ ⟨I,?_⟩ (h ba.isNone ?_)
 .rw[<-hd];exact hs.pure (by simp[E'])
 .intro hb;rcases hr with hr|⟨b,off,rfl,_⟩
  .exact hr
  .cases hb
variable {P:Program} {n:Nat} {st:St} {Q:St->Prop} {k:List It}
def AZ(l:List Nat)(s:Nat->V):Nat->V:=λi=>if l.contains i then s i else .undef
def zj(l:List Nat)(s:Nat->V)(i:Nat):AZ l s i=if l.contains i then s i else .undef:=rfl
def mix(m:Nat)(a b:Nat->V):Nat->V:=λi=>if i<m then a i else b i
def Ch(m:Nat)(a b:Nat->V)(i:Nat):mix m a b i=if i<m then a i else b i:=rfl
def FI(m:Nat)(s:Nat->V):mix m s s=s:=by funext i;simp[mix]
def qc(s:Nat->V)(v:V):aY s none v=s:=rfl
def CR{m d:Nat}(h:d<m)(a b:Nat->V)(v:V):aY (mix m a b) (some d) v=mix m (aY a (some d) v) b:=by
 funext i;simp only[aY,mix];split
 .rename_i e;subst e;simp[h]
 .split<;>rfl
def Di{m d:Nat}(h:m<=d)(a b:Nat->V)(v:V):aY (mix m a b) (some d) v=mix m a (aY b (some d) v):=by
 funext i;simp only[aY,mix];split
 .rename_i e;subst e;simp[Nat.not_lt.2 h]
 .split<;>rfl
def aq.mix(m:Nat){todo:List It}{s:Nat->V}{U:ak}(h:aq P n todo ⟨Vc.mix m s s,U⟩ Q):aq P n todo ⟨s,U⟩ Q:=by
 rw[FI]at h;exact h
def pD{s:Nat->V}{U:ak}{agg:Bool}{sz d:Nat}{Post:V->ak->Prop}:
 Wq [.cell agg sz (.t d)] ⟨s,U⟩ Post=dQ (cQ U agg sz (s d)) λv=>az v U Post:=by
 unfold Wq az tf;simp only[iy,jA,VX.ev];cases cQ U agg sz (s d)<;>simp[dQ]
def pI{s:Nat->V}{U:ak}{agg:Bool}{sz d e:Nat}{Post:V->ak->Prop}:
 Wq [.cell agg sz (.t d),.tmp (.t e)] ⟨s,U⟩ Post=dQ (cQ U agg sz (s d)) λv=>az (.RM [v,s e]) U Post:=by
 unfold Wq az tf;simp only[iy,jA,VX.ev];cases cQ U agg sz (s d)<;>simp[dQ]
def aa.aL{Z0 U:ak}{id:Nat}{o:Ob}(h:aa Z0 U)(L':Z0 id=none):aa Z0 (Vc.C' U id o):=λi x hx=>by
 have RU:i≠id:=λe=>by rw[e,L']at hx;cases hx
 rw[ab RU];exact h i x hx
def aa.none{a b:ak}(h:aa a b){i:Nat}(hi:b i=none):a i=none:=by
 cases ha:a i with
 |none=>rfl
 |some o=>rw[h i o ha]at hi;cases hi
def bb{U:ak}{i j:Nat}{o:Ob}(h:U i=some o)(hj:U j=none):i≠j:=by rintro rfl;rw[h]at hj;cases hj
def aD{O:Th P}{f:Nat}{d:Option Nat}{l:List aS}{v:Nat->V}{ob:Ob}{s:Nat->V}{U:ak}
 (h:∀id Z',aa U Z'->Z' id=some ob->U id=none->step P O n f (.r (.ops l::k)) ⟨aY s d (v id),Z'⟩ Q):
 GC P O n f l k d ⟨s,U⟩ Q (some λid=>(v id,Vc.C' U id ob)):=by
 rw[aH];exact λid L'=>h id _ ((aa.refl U).C' L') av L'
def aG{P:Program}{n:Nat}{Q:St->Prop}{k}{O:Th P}{f:Nat}{d:Option Nat}{l:List aS}{v:Nat->V}{ob:Ob}{s:Nat->V}{U K:ak}(hs:aa K U)(h:∀id Z1,aa U Z1->Z1 id=some ob->U id=none->K id=none->aa K Z1->step P O n f (.r (.ops l::k)) ⟨aY s d (v id),Z1⟩ Q):GC P O n f l k d ⟨s,U⟩ Q (some λid=>(v id,Vc.C' U id ob)):=aD λid Z1 s1 a1 f1=>h id Z1 s1 a1 f1 (hs.none f1) (hs.trans s1)
def bJ{O:Th P}{f:Nat}{d:Option Nat}{l:List aS}{v:Nat->V}{ob:Ob}{s:Nat->V}{U:ak}
 (h:∀id Z',aa U Z'->Z' id=some ob->U id=none->step P O n f (.d l k) ⟨aY s d (v id),Z'⟩ Q):
 D8 P O n f l k d ⟨s,U⟩ Q (some λid=>(v id,Vc.C' U id ob)):=by
 rw[aJ];exact λid L'=>h id _ ((aa.refl U).C' L') av L'
def wx{P:Program}{n:Nat}{Q:St->Prop}{k}{O:Th P}{f:Nat}{d:Option Nat}{l:List aS}{v:Nat->V}{ob:Ob}{s:Nat->V}{U K:ak}(hs:aa K U)(h:∀id Z1,aa U Z1->Z1 id=some ob->U id=none->K id=none->aa K Z1->step P O n f (.d l k) ⟨aY s d (v id),Z1⟩ Q):D8 P O n f l k d ⟨s,U⟩ Q (some λid=>(v id,Vc.C' U id ob)):=bJ λid Z1 s1 a1 f1=>h id Z1 s1 a1 f1 (hs.none f1) (hs.trans s1)
def iz{O:Th P}{f:Nat}(t:Bool)(a b:bP):cR P O n f (.bool t) a b k st Q=((t=true->step P O n f (.r (.code a::k)) st Q)/\(t=false->step P O n f (.r (.code b::k)) st Q)):=by
 cases t<;>simp[cR,ee,both]
def aq.FQ{i:aS}{l:List aS}{fx:VX}{xs:List VX}{s:Nat->V}{U:ak}{f:FuncId}{caps:List V}{v:V}(hw:bn s i.g=some true)(ho:i.op=.call fx xs)
 (hf:fx.ev s=.fn f caps)(hc:aB P f (xs.map (·.ev s)++caps) U λr Z'=>r=v/\Z'=U)(h:aq P n (.ops l::k) ⟨aY s i.dst v,U⟩ Q):
 aq P n (.ops (i::l)::k) ⟨s,U⟩ Q:=by
 refine aq.call hw ho hf hc ?_;rintro r Z' ⟨rfl,rfl⟩;exact h
def AU(op:BinOp)(k:IntKind)(a b:Int):D1 op (.int k a) (.int k b)=eN op k a b:=by simp[D1]
def A7(op:BinOp)(a b:List UInt8):D1 op (.str a) (.str b)=eS op a b:=rfl
def uA(op:BinOp)(k k':IntKind)(a b:Int):ra op (.int k a) (.int k' b)=eR op k a b:=rfl
def tV(op:BinOp)(a b:List UInt8):ra op (.str a) (.str b)=eP op a b:=rfl
def zD(id off n:Nat):ej false (.own id off n)=some (.int .i64 n):=rfl
def C8(sz:Nat)(rows:List V):ej false (.sl sz rows)=some (.int .i64 rows.length):=rfl
def wW:ej false .bj=some (.int .i64 0):=rfl
def AP(s:List UInt8):ej true (.str s)=some (.int .i64 s.length):=rfl
def wu(U:ak)(UI id off len:Nat)(k:IntKind)(j:Int):bG U UI (.own id off len) (.int k j)=match U id with
 |some ob=>if ob.sz=UI/\0<=j/\j<len then some (.ptr id (off+j.toNat) 0)else none
 |none=>none:=rfl
def wU(U:ak)(agg:Bool)(sz id i k:Nat):cQ U agg sz (.ptr id i k)=match U id with
 |some ob=>match ob.rows[i]? with
  |some r=>if agg then(if k=0/\r.cells.length=sz then some (.agg r.cells)else if k+sz<=r.cells.length then some (.agg ((r.cells.drop k).take sz))else none)
     else r.cells[k]?
  |none=>none
 |none=>none:=rfl
def ql(U:ak)(sz:Nat)(vs:List V):cQ U true sz (.rp (.agg vs))=if vs.length=sz then some (.agg vs)else none:=rfl
def qi(U:ak)(sz:Nat)(k:IntKind)(j:Int):cQ U false sz (.rp (.int k j))=some (.int k j):=rfl
def Reads(U:ak)(sz:Nat)(agg:Bool)(sv:V)(rows:List V):Prop:=
 ej false sv=some (.int .i64 rows.length)/\∀(i:Nat) v,rows[i]?=some v->∃p,bG U sz sv (.int .i64 i)=some p/\cQ U agg sz p=some v
def Reads.ints{U:ak}{l:List Int}:Reads U 1 false (.sl 1 (l.map (.int .i64 ·))) (l.map (.int .i64 ·)):=by
 refine⟨rfl,λi v hv=>?_⟩;obtain⟨n,hn,rfl⟩:∃n,l[i]?=some n/\v=.int .i64 n:=by
  rw[sP]at hv;cases h:l[i]? with
  |none=>simp[h]at hv
  |some n=>simp[h]at hv;exact⟨n,rfl,hv.symm⟩
 refine⟨.rp (.int .i64 n),?_,rfl⟩;simp[bG,hn]
def Reads.own{U:ak}{sz id off len:Nat}{ob:Ob}(ho:U id=some ob)(hs:ob.sz=sz)(hl:off+len<=ob.rows.length)(h1:∀r∈ob.rows,r.cells=[r]):
 Reads U sz false (.own id off len) ((ob.rows.drop off).take len):=by
 refine⟨by simp[ej];omega,λi v hv=>?_⟩;have hi:i<len:=by
  have:=(ri.1 hv).1;simp at this;omega
 have Zl:ob.rows[off+i]?=some v:=by
  rw[List.getElem?_take,aK hi,JX]at hv;exact hv
 refine⟨.ptr id (off+i) 0,?_,?_⟩
 .simp[bG,ho,hs,hi]
 .simp[cQ,ho,Zl,h1 v (FY Zl)]
def ao{m:Int}(h1:-9223372036854775808<=m:=by omega)(h2:m<=9223372036854775807:=by omega):R0 .i64 m:=by
 unfold R0;rw[IntKind.wrap_i64];omega
def rI(i:Int)(h:-9223372036854775809<=i:=by omega)(h2:i<9223372036854775807:=by omega):R0 .i64 (i+1):=ao
mutual
/-- no row's number in it -/
def V.Dq:V->Bool
 |.own ..|.ptr ..|.yl _=>false
 |.sl _ rows=>mH rows
 |.rp v=>v.Dq
 |.fn _ caps=>mH caps
 |.bm _ caps=>mH caps
 |.iface _ v=>v.Dq
 |.agg c|.RM c=>mH c
 |_=>true
def mH:List V->Bool
 |[]=>true
 |v::vs=>v.Dq&&mH vs
end
def aB.yq{P:Program}{f:FuncId}{args:List V}{U:ak}{Post V3:V->ak->Prop}(h:aB P f args U Post)
 (hp:∀r Z',Post r Z'->az r Z' V3):aB P f args U V3:=⟨h.1,λI w RI hs hr=>(h.2 I w RI hs hr).mono λe w' ⟨r,Z',Y',val,h1,h2,h3,h4,h5⟩=>by
 obtain⟨v',Z'',g1,g2,g3⟩:=hp r Z' h2;exact⟨v',Z'',Y',val,h1,g3,h3,h4.drop g1,g2 Y' _ _ _ _ h4 h5⟩⟩
mutual
/-- the same,with each row of its own as one that is only read -/
inductive Fz(U:ak)(N:Nat->Prop):V->V->Prop
 |same (v:V) (h:v.Dq=true):Fz U N v v
 |own (id off len:Nat) (ob:Ob) (rows:List V) (h1:U id=some ob) (h2:N id) (h3:off+len<=ob.rows.length) (h4:TE U N ((ob.rows.drop off).take len) rows):
    Fz U N (.own id off len) (.sl ob.sz rows)
 |nil (sz:Nat):Fz U N .bj (.sl sz [])
 |own0 (id off sz:Nat):Fz U N (.own id off 0) (.sl sz [])
 |sl (sz:Nat) (rows rows':List V) (h:TE U N rows rows'):Fz U N (.sl sz rows) (.sl sz rows')
 |agg (cs ds:List V) (h:TE U N cs ds):Fz U N (.agg cs) (.agg ds)
 |RM (cs ds:List V) (h:TE U N cs ds):Fz U N (.RM cs) (.RM ds)
 |ptr (id i:Nat) (ob:Ob) (r u:V) (h1:U id=some ob) (h2:N id) (h3:ob.rows[i]?=some r) (h4:Fz U N r u):Fz U N (.ptr id i 0) (.rp u)
 |fn (f:FuncId) (cs ds:List V) (h:TE U N cs ds):Fz U N (.fn f cs) (.fn f ds)
 |bm (f:FuncId) (cs ds:List V) (h:TE U N cs ds):Fz U N (.bm f cs) (.bm f ds)
 |iface (t:TypeId) (v u:V) (h:Fz U N v u):Fz U N (.iface t v) (.iface t u)
inductive TE(U:ak)(N:Nat->Prop):List V->List V->Prop
 |nil:TE U N [] []
 |cons (v u:V) (vs us:List V) (h:Fz U N v u) (h':TE U N vs us):TE U N (v::vs) (u::us)
end
section
variable {U K:ak} {N:Nat->Prop} {I:Mu} {w0 w:World} {SH:Nat->Prop}
def bw.lift{ow TA:Nat->Prop}{v u:V}{b off:Nat}(hv:∀cs,v≠.agg cs)(hu:∀cs,u≠.agg cs)(h:∀x,E' I ow w v x->E' I TA w u x)
 (hr:bw I ow w v b off):bw I TA w u b off:=by
 have e1:∃x,w.cell? ⟨b,off,none⟩=some x/\E' I ow w v x/\x.oneCell'=true:=by
  cases v<;>first|exact absurd rfl (hv _)|simpa only[bw]using hr
 obtain⟨x,h1,h2,h3⟩:=e1;have e2:∃x,w.cell? ⟨b,off,none⟩=some x/\E' I TA w u x/\x.oneCell'=true:=⟨x,h1,h x h2,h3⟩
 cases u<;>first|exact absurd rfl (hu _)|simpa only[bw]using e2
mutual
def Fz.down(hs:Sat w0 SH I U w)(hK:aa K U)(hN:∀id,N id->K id=none):∀{v u:V},Fz U N v u->(∀x,E' I (aN I U) w v x->E' I (aN I K) w u x)/\
 (∀b off,bw I (aN I U) w v b off->bw I (aN I K) w u b off)/\u.cells.length=v.cells.length
 |_,_,.same v h=>⟨λx hr=>E'.mono (dn.refl I) (dc.sub w hK) (Sf _) v x hr,λb off hr=>bw.mono (dn.refl I) (dc.sub w hK) (Sf _) v b off rfl hr,rfl⟩
 |_,_,.own id off len ob rows ho h2 hl h4=>by
  have hd:=TE.down hs hK hN h4;have key:∀x,E' I (aN I U) w (.own id off len) x->E' I (aN I K) w (.sl ob.sz rows) x:=by
   intro x hr;simp only[E']at hr|-;have hlen:rows.length=len:=by rw[hd.2.2.2];simp;omega
   have Ts:=hs.obj id ob ho;split at hr
   .exact hr.elim
   .obtain⟨rfl,rfl,rfl⟩:=hr;have:rows=[]:=tc hlen;subst this;exact⟨none,0,by simp,by simp,.inl rfl⟩
   .rename_i b sz cap hb;obtain⟨o,c,rfl,h1,h2',h3,hz⟩:=hr;refine⟨_,c,by rw[hlen],by omega,?_⟩;by_cases h0:len=0
    .left;exact tc (by omega)
    .right;rw[hb]at Ts;obtain⟨g1,g2,g3,g4,g5⟩:=Ts.rows hz;have ho':o=off*sz:=by
      rcases h3 with h3|h3
      .exact h3
      .omega
     subst ho' g1;refine⟨b,_,rfl,?_,g2,?_⟩
     .rintro⟨Ua,ob',Uu,SZ,e1,e2⟩;have:=hs.inj Ua id ob' ob _ _ _ _ _ (hK _ _ e1) ho e2 hb;rw[this,hN id h2]at e1;cases e1
     .have:=(g5.drop off).take len;rw[lF]at this;exact hd.2.2.1 _ _ _ this
  exact⟨key,λb Wa hr=>bw.lift (λ_=>by simp) (λ_=>by simp) key hr,rfl⟩
 |_,_,.nil sz=>by
  have key:∀x,E' I (aN I U) w .bj x->E' I (aN I K) w (.sl sz []) x:=λx hr=>by
   simp only[E']at hr|-;exact⟨none,0,by simpa using hr,by simp,.inl trivial⟩
  exact⟨key,λb Wa hr=>bw.lift (λ_=>by simp) (λ_=>by simp) key hr,rfl⟩
 |_,_,.own0 id off sz=>by
  have key:∀x,E' I (aN I U) w (.own id off 0) x->E' I (aN I K) w (.sl sz []) x:=λx hr=>by
   simp only[E']at hr|-;split at hr
   .exact hr.elim
   .obtain⟨rfl,_⟩:=hr;exact⟨none,0,by simp,by simp,.inl trivial⟩
   .obtain⟨o,c,rfl,h1,_⟩:=hr;exact⟨_,c,rfl,by simp,.inl trivial⟩
  exact⟨key,λb Wa hr=>bw.lift (λ_=>by simp) (λ_=>by simp) key hr,rfl⟩
 |_,_,.sl sz rows rows' h=>by
  have hd:=TE.down hs hK hN h;have key:∀x,E' I (aN I U) w (.sl sz rows) x->E' I (aN I K) w (.sl sz rows') x:=λx hr=>by
   simp only[E']at hr|-;obtain⟨a,cap,rfl,h1,h2⟩:=hr;refine⟨a,cap,by rw[hd.2.2.2],by rw[hd.2.2.2];exact h1,?_⟩;rcases h2 with h2|⟨b,off,h3,h4,h5,h6⟩
   .left;have:=hd.2.2.2;rw[h2]at this;exact tc this
   .exact .inr ⟨b,off,h3,λho=>h4 (ho.sub hK),h5,hd.2.2.1 _ _ _ h6⟩
  exact⟨key,λb Wa hr=>bw.lift (λ_=>by simp) (λ_=>by simp) key hr,rfl⟩
 |_,_,.agg cs ds h=>by
  have hd:=TE.down hs hK hN h;refine⟨λx hr=>?_,λb off hr=>?_,by simp only[V.cells];exact hd.2.2.2⟩
  .simp only[E']at hr|-;obtain⟨RI,rfl,h1,h2⟩:=hr;exact⟨RI,rfl,hd.1 _ h1,h2⟩
  .simp only[bw]at hr|-;exact hd.2.1 _ _ hr
 |_,_,.RM cs ds h=>by
  have hd:=TE.down hs hK hN h;have key:∀x,E' I (aN I U) w (.RM cs) x->E' I (aN I K) w (.RM ds) x:=λx hr=>by
   simp only[E']at hr|-;obtain⟨RI,rfl,h1⟩:=hr;exact⟨RI,rfl,hd.1 _ h1⟩
  exact⟨key,λb Wa hr=>bw.lift (λ_=>by simp) (λ_=>by simp) key hr,rfl⟩
 |_,_,.ptr id i ob r u ho h2 hi h4=>by
  have hd:=Fz.down hs hK hN h4;have key:∀x,E' I (aN I U) w (.ptr id i 0) x->E' I (aN I K) w (.rp u) x:=by
   intro x hr;simp only[E']at hr|-;have Ts:=hs.obj id ob ho;split at hr
   .rename_i b sz cap hb;obtain⟨rfl,hz⟩:=hr;rw[hb]at Ts;obtain⟨g1,g2,g3,g4,g5⟩:=Ts.rows hz;obtain⟨e1,e2⟩:=g5.get hi;rw[lF]at e2;have R9:¬aN I K b:=by
     rintro⟨Ua,ob',Uu,SZ,e1,e2⟩;have:=hs.inj Ua id ob' ob _ _ _ _ _ (hK _ _ e1) ho e2 hb;rw[this,hN id h2]at e1;cases e1
    refine⟨b,i*sz,by simp,?_,.inr R9,hd.2.1 _ _ ((dB _ _ _ _ _ _).2 e2)⟩;cases hc:r.cells with
    |nil=>rw[hc]at e1;simp at e1;omega
    |cons c cs=>
     rw[hc]at e2;simp only[aU]at e2;obtain⟨⟨y,hy,_⟩,_⟩:=e2;exact World.block_lt_of_cell? w _ hy
   .exact hr.elim
  exact⟨key,λb Wa hr=>bw.lift (λ_=>by simp) (λ_=>by simp) key hr,rfl⟩
 |_,_,.fn f cs ds h=>by
  have hd:=TE.down hs hK hN h;have key:∀x,E' I (aN I U) w (.fn f cs) x->E' I (aN I K) w (.fn f ds) x:=λx hr=>by
   simp only[E']at hr|-;obtain⟨RI,rfl,h1⟩:=hr;exact⟨RI,rfl,hd.1 _ h1⟩
  exact⟨key,λb Wa hr=>bw.lift (λ_=>by simp) (λ_=>by simp) key hr,rfl⟩
 |_,_,.bm f cs ds h=>by
  have hd:=TE.down hs hK hN h;have key:∀x,E' I (aN I U) w (.bm f cs) x->E' I (aN I K) w (.bm f ds) x:=λx hr=>by
   simp only[E']at hr|-;obtain⟨RI,rfl,h1⟩:=hr;exact⟨RI,rfl,hd.1 _ h1⟩
  exact⟨key,λb Wa hr=>bw.lift (λ_=>by simp) (λ_=>by simp) key hr,rfl⟩
 |_,_,.iface t v u h=>by
  have hd:=Fz.down hs hK hN h;have key:∀x,E' I (aN I U) w (.iface t v) x->E' I (aN I K) w (.iface t u) x:=λx hr=>by
   simp only[E']at hr|-;obtain⟨y,rfl,h1⟩:=hr;exact⟨y,rfl,hd.1 _ h1⟩
  exact⟨key,λb Wa hr=>bw.lift (λ_=>by simp) (λ_=>by simp) key hr,rfl⟩
def TE.down(hs:Sat w0 SH I U w)(hK:aa K U)(hN:∀id,N id->K id=none):∀{vs us:List V},TE U N vs us->(∀l,ax I (aN I U) w vs l->ax I (aN I K) w us l)/\
 (∀b off,aU I (aN I U) w vs b off->aU I (aN I K) w us b off)/\(∀b off sz,aZ I (aN I U) w vs b off sz->aZ I (aN I K) w us b off sz)/\us.length=vs.length
 |_,_,.nil=>⟨λl h=>by simpa[ax]using h,λ_ _ _=>by simp[aU],λ_ _ _ _=>by simp[aZ],rfl⟩
 |_,_,.cons v u vs us h h'=>by
  have hd:=Fz.down hs hK hN h;have hd':=TE.down hs hK hN h';refine⟨λl hr=>?_,λb off hr=>?_,λb off sz hr=>?_,by simp[hd'.2.2.2]⟩
  .simp only[ax]at hr|-;obtain⟨x,xs,rfl,h1,h2⟩:=hr;exact⟨x,xs,rfl,hd.1 _ h1,hd'.1 _ h2⟩
  .simp only[aU]at hr|-;obtain⟨⟨x,h1,h2,h3⟩,h4⟩:=hr;exact⟨⟨x,h1,hd.1 _ h2,h3⟩,hd'.2.1 _ _ h4⟩
  .simp only[aZ]at hr|-;exact⟨by rw[hd.2.2];exact hr.1,hd.2.1 _ _ hr.2.1,hd'.2.2.1 _ _ _ hr.2.2⟩
end
def Fz.wk{v u:V}(h:Fz U N v u)(hK:aa K U)(hN:∀id,N id->K id=none):Wk U K v u:=λ_ _ _ _ x hs hr=>(Fz.down hs hK hN h).1 x hr
end
def BB:(((((((type_of%@Dg)/\(type_of%@CA))/\((type_of%@Cg)/\(type_of%@wz)))/\(((type_of%@Ak)/\(type_of%@pD))/\((type_of%@pI)/\(type_of%@rJ))))/\((((type_of%@uw)/\(type_of%@rH))/\((type_of%@rz)/\(type_of%@Ai)))/\(((type_of%@Co)/\(type_of%@wX))/\((type_of%@ze)/\(type_of%@zg)))))/\(((((type_of%@Db)/\(type_of%@zC))/\((type_of%@tF)/\(type_of%@C5)))/\(((type_of%@zH)/\(type_of%@zZ))/\((type_of%@CU)/\(type_of%@y9))))/\((((type_of%@MR)/\(type_of%@LH))/\((type_of%@GX)/\(type_of%@Cs)))/\(((type_of%@FG)/\(type_of%@G9))/\((type_of%@Gi)/\((type_of%@EG)/\(type_of%@Ez)))))))/\((((((type_of%@tR)/\(type_of%@vE))/\((type_of%@y7)/\(type_of%@vm)))/\(((type_of%@uH)/\(type_of%@uL))/\((type_of%@sM)/\(type_of%@Df))))/\((((type_of%@E5)/\(type_of%@Fv))/\((type_of%@Fi)/\(type_of%@Fl)))/\(((type_of%@tY)/\(type_of%@rX))/\((type_of%@AT)/\((type_of%@Hc)/\(type_of%@Jv))))))/\(((((type_of%@JC)/\(type_of%@Jp))/\((type_of%@JI)/\(type_of%@At)))/\(((type_of%@AM)/\(type_of%@AG))/\((type_of%@FT)/\(type_of%@Jk))))/\((((type_of%@Jh)/\(type_of%@JD))/\((type_of%@JE)/\(type_of%@AY)))/\(((type_of%@yR)/\(type_of%@qc))/\((type_of%@CR)/\((type_of%@Di)/\(type_of%@Ch))))))))/\(((((((type_of%@wI)/\(type_of%@wB))/\((type_of%@JF)/\(type_of%@JG)))/\(((type_of%@N9)/\(type_of%@LQ))/\((type_of%@AU)/\(type_of%@A7))))/\((((type_of%@uA)/\(type_of%@tV))/\((type_of%@zD)/\(type_of%@C8)))/\(((type_of%@wW)/\(type_of%@AP))/\((type_of%@wu)/\(type_of%@wU)))))/\(((((type_of%@ql)/\(type_of%@qi))/\((type_of%@av)/\(type_of%@tk)))/\(((type_of%@true_implies)/\(type_of%@false_implies))/\((type_of%@implies_true.{0})/\(type_of%@zj))))/\((((type_of%@List.getD_cons_zero.{0})/\(type_of%@List.getD_cons_succ.{0}))/\((type_of%@List.getD_nil.{0})/\(type_of%@List.map_cons.{0,0})))/\(((type_of%@List.map_nil.{0,0})/\(type_of%@List.length_cons.{0}))/\((type_of%@List.length_nil.{0})/\((type_of%@List.drop_succ_cons.{0})/\(type_of%@List.drop_zero.{0})))))))/\((((((type_of%@List.take_succ_cons.{0})/\(type_of%@List.take_zero.{0}))/\((type_of%@List.set_cons_zero.{0})/\(type_of%@List.set_cons_succ.{0})))/\(((type_of%@List.append_nil.{0})/\(type_of%@List.nil_append.{0}))/\((type_of%@List.cons_append.{0})/\(type_of%@List.all_cons.{0}))))/\((((type_of%@List.all_nil.{0})/\(type_of%@List.getElem?_cons_zero.{0}))/\((type_of%@List.getElem?_cons_succ.{0})/\(type_of%@List.contains_cons.{0})))/\(((type_of%@List.contains_nil.{0})/\(type_of%@Option.isSome_some.{0}))/\((type_of%@Option.map_some.{0,0})/\((type_of%@Option.map_none.{0,0})/\(type_of%@true_and))))))/\(((((type_of%@and_true)/\(type_of%@and_self))/\((type_of%@Nat.zero_add)/\(type_of%@Nat.add_zero)))/\(((type_of%@Bool.not_true)/\(type_of%@Bool.not_false))/\((type_of%@Bool.false_eq_true)/\(type_of%@Bool.or_true))))/\((((type_of%@Bool.true_or)/\(type_of%@Bool.or_false))/\((type_of%@Bool.false_or)/\(type_of%@Bool.true_and)))/\(((type_of%@Bool.and_true)/\(type_of%@Bool.and_self))/\((type_of%@decide_true)/\((type_of%@decide_false)/\(type_of%@decide_eq_true_eq)))))))):=
 ⟨⟨⟨⟨⟨⟨⟨@Dg,@CA⟩,⟨@Cg,@wz⟩⟩,⟨⟨@Ak,@pD⟩,⟨@pI,@rJ⟩⟩⟩,⟨⟨⟨@uw,@rH⟩,⟨@rz,@Ai⟩⟩,⟨⟨@Co,@wX⟩,⟨@ze,@zg⟩⟩⟩⟩,⟨⟨⟨⟨@Db,@zC⟩,⟨@tF,@C5⟩⟩,⟨⟨@zH,@zZ⟩,⟨@CU,@y9⟩⟩⟩,⟨⟨⟨@MR,@LH⟩,⟨@GX,@Cs⟩⟩,⟨⟨@FG,@G9⟩,⟨@Gi,⟨@EG,@Ez⟩⟩⟩⟩⟩⟩,⟨⟨⟨⟨⟨@tR,@vE⟩,⟨@y7,@vm⟩⟩,⟨⟨@uH,@uL⟩,⟨@sM,@Df⟩⟩⟩,⟨⟨⟨@E5,@Fv⟩,⟨@Fi,@Fl⟩⟩,⟨⟨@tY,@rX⟩,⟨@AT,⟨@Hc,@Jv⟩⟩⟩⟩⟩,⟨⟨⟨⟨@JC,@Jp⟩,⟨@JI,@At⟩⟩,⟨⟨@AM,@AG⟩,⟨@FT,@Jk⟩⟩⟩,⟨⟨⟨@Jh,@JD⟩,⟨@JE,@AY⟩⟩,⟨⟨@yR,@qc⟩,⟨@CR,⟨@Di,@Ch⟩⟩⟩⟩⟩⟩⟩,⟨⟨⟨⟨⟨⟨@wI,@wB⟩,⟨@JF,@JG⟩⟩,⟨⟨@N9,@LQ⟩,⟨@AU,@A7⟩⟩⟩,⟨⟨⟨@uA,@tV⟩,⟨@zD,@C8⟩⟩,⟨⟨@wW,@AP⟩,⟨@wu,@wU⟩⟩⟩⟩,⟨⟨⟨⟨@ql,@qi⟩,⟨@av,@tk⟩⟩,⟨⟨@true_implies,@false_implies⟩,⟨@implies_true.{0},@zj⟩⟩⟩,⟨⟨⟨@List.getD_cons_zero.{0},@List.getD_cons_succ.{0}⟩,⟨@List.getD_nil.{0},@List.map_cons.{0,0}⟩⟩,⟨⟨@List.map_nil.{0,0},@List.length_cons.{0}⟩,⟨@List.length_nil.{0},⟨@List.drop_succ_cons.{0},@List.drop_zero.{0}⟩⟩⟩⟩⟩⟩,⟨⟨⟨⟨⟨@List.take_succ_cons.{0},@List.take_zero.{0}⟩,⟨@List.set_cons_zero.{0},@List.set_cons_succ.{0}⟩⟩,⟨⟨@List.append_nil.{0},@List.nil_append.{0}⟩,⟨@List.cons_append.{0},@List.all_cons.{0}⟩⟩⟩,⟨⟨⟨@List.all_nil.{0},@List.getElem?_cons_zero.{0}⟩,⟨@List.getElem?_cons_succ.{0},@List.contains_cons.{0}⟩⟩,⟨⟨@List.contains_nil.{0},@Option.isSome_some.{0}⟩,⟨@Option.map_some.{0,0},⟨@Option.map_none.{0,0},@true_and⟩⟩⟩⟩⟩,⟨⟨⟨⟨@and_true,@and_self⟩,⟨@Nat.zero_add,@Nat.add_zero⟩⟩,⟨⟨@Bool.not_true,@Bool.not_false⟩,⟨@Bool.false_eq_true,@Bool.or_true⟩⟩⟩,⟨⟨⟨@Bool.true_or,@Bool.or_false⟩,⟨@Bool.false_or,@Bool.true_and⟩⟩,⟨⟨@Bool.and_true,@Bool.and_self⟩,⟨@decide_true,⟨@decide_false,@decide_eq_true_eq⟩⟩⟩⟩⟩⟩⟩⟩
def CC:(∀(l:List V),V.cells (.agg l)=l)/\(V.cells (.undef )=[.undef ])/\(∀(k:IntKind) (i:Int),V.cells (.int k i)=[.int k i])/\(∀(b:Bool),V.cells (.bool b)=[.bool b])/\(∀(s:List UInt8),V.cells (.str s)=[.str s])/\(V.cells (.bj )=[.bj ])/\(∀(a:Nat) (l:List V),V.cells (.sl a l)=[.sl a l])/\(∀(a b c:Nat),V.cells (.own a b c)=[.own a b c])/\(∀(a b c:Nat),V.cells (.ptr a b c)=[.ptr a b c])/\(∀(a:V),V.cells (.rp a)=[.rp a])/\(V.cells (.VJ )=[.VJ ])/\(∀(f:FuncId) (l:List V),V.cells (.fn f l)=[.fn f l])/\(∀(f:FuncId) (l:List V),V.cells (.bm f l)=[.bm f l])/\(V.cells (.Tc )=[.Tc ])/\(∀(t:TypeId) (a:V),V.cells (.iface t a)=[.iface t a])/\(V.cells (.SY )=[.SY ])/\(∀(l:List V),V.cells (.RM l)=[.RM l])/\(∀(x:Value),V.cells (.raw x)=[.raw x])/\(∀(a:Nat),V.cells (.gp a)=[.gp a])/\(∀(a:Nat),V.cells (.yl a)=[.yl a])/\(∀(a:Nat),V.cells (.mp a)=[.mp a])/\(∀(l:List V),V.stays (.agg l)=true)/\(V.stays (.undef )=false)/\(∀(k:IntKind) (i:Int),V.stays (.int k i)=true)/\(∀(b:Bool),V.stays (.bool b)=true)/\(∀(s:List UInt8),V.stays (.str s)=true)/\(V.stays (.bj )=true)/\(∀(a:Nat) (l:List V),V.stays (.sl a l)=true)/\(∀(a b c:Nat),V.stays (.own a b c)=true)/\(∀(a b c:Nat),V.stays (.ptr a b c)=true)/\(∀(a:V),V.stays (.rp a)=true)/\(V.stays (.VJ )=true)/\(∀(f:FuncId) (l:List V),V.stays (.fn f l)=true)/\(∀(f:FuncId) (l:List V),V.stays (.bm f l)=true)/\(V.stays (.Tc )=true)/\(∀(t:TypeId) (a:V),V.stays (.iface t a)=true)/\(V.stays (.SY )=true)/\(∀(l:List V),V.stays (.RM l)=false)/\(∀(a:Nat),V.stays (.gp a)=true)/\(∀(a:Nat),V.stays (.yl a)=true)/\(∀(a:Nat),V.stays (.mp a)=true):=
 ⟨λ_=>rfl,rfl,λ_ _=>rfl,λ_=>rfl,λ_=>rfl,rfl,λ_ _=>rfl,λ_ _ _=>rfl,λ_ _ _=>rfl,λ_=>rfl,rfl,λ_ _=>rfl,λ_ _=>rfl,rfl,λ_ _=>rfl,rfl,λ_=>rfl,λ_=>rfl,λ_=>rfl,λ_=>rfl,λ_=>rfl,λ_=>rfl,rfl,λ_ _=>rfl,λ_=>rfl,λ_=>rfl,rfl,λ_ _=>rfl,λ_ _ _=>rfl,λ_ _ _=>rfl,λ_=>rfl,rfl,λ_ _=>rfl,λ_ _=>rfl,rfl,λ_ _=>rfl,rfl,λ_=>rfl,λ_=>rfl,λ_=>rfl,λ_=>rfl⟩
def Qv{p:Prop}[Decidable p]:(!decide p)=decide (¬p):=decide_not.symm
def sR{P:Program}{n:Nat}{todo:List It}{st:St}{Q:St->Prop}(h:step P Th.nothing n 300 (.r todo) st Q):aq P n todo st Q:=aq.bx Th.nothing 300 h
def SL{K U J:ak}{j:Nat}{o:Ob}(h:C' U j o=J)(s:aa K U)(z:K j=none):aa K J:=by subst h;exact s.aL z
def RC{U Z':ak}{i j:Nat}{o:Ob}(a:U i=some o)(f:U j=none)(s:aa U Z'):i≠j/\Z' i=some o:=⟨bb a f,s _ _ a⟩
def Zv{K U Z':ak}{j:Nat}(h:aa K U)(f:U j=none)(s:aa U Z'):K j=none/\aa K Z':=⟨h.none f,h.trans s⟩
def SG{v:V}{U:ak}{P:V->ak->Prop}(h:P v U):az v U P:=⟨_,_,aa.refl _,Wk.refl (aa.refl _) _,h⟩
def mS{P:Program}{n:Nat}(m:Nat){todo:List It}{s:Nat->V}{U:ak}{Q:St->Prop}(h:step P Th.nothing n 300 (.r todo) ⟨Vc.mix m s s,U⟩ Q):aq P n todo ⟨s,U⟩ Q:=aq.mix m (sR h)
def Tx{P:Program}{n:Nat}{k:List It}{Q:St->Prop}{i:aS}{l:List aS}{fx:VX}{xs:List VX}{s:Nat->V}{U:ak}{f:FuncId}{caps:List V}{Post:V->ak->Prop}(hw:(bn s i.g,i.op,fx.ev s)=(some true,.call fx xs,.fn f caps))(hc:aB P f (xs.map (·.ev s)++caps) U Post)(h:∀r Z',Post r Z'->aq P n (.ops l::k) ⟨aY s i.dst r,Z'⟩ Q):aq P n (.ops (i::l)::k) ⟨s,U⟩ Q:=aq.call (congrArg (·.1) hw) (congrArg (·.2.1) hw) (congrArg (·.2.2) hw) hc h
def pR{P:Program}{n:Nat}{k:List It}{Q:St->Prop}{i:aS}{l:List aS}{fx:VX}{xs:List VX}{s:Nat->V}{U:ak}{f:FuncId}{caps:List V}{v:V}(hw:(bn s i.g,i.op,fx.ev s)=(some true,.call fx xs,.fn f caps))(hc:aB P f (xs.map (·.ev s)++caps) U λr Z'=>r=v/\Z'=U)(h:aq P n (.ops l::k) ⟨aY s i.dst v,U⟩ Q):aq P n (.ops (i::l)::k) ⟨s,U⟩ Q:=aq.FQ (congrArg (·.1) hw) (congrArg (·.2.1) hw) (congrArg (·.2.2) hw) hc h
def pS{P:Program}{n:Nat}{k:List It}{Q:St->Prop}{i:aS}{l:List aS}{fx:VX}{xs:List VX}{s:Nat->V}{U:ak}{f:FuncId}{caps:List V}{v:V}(hw:(bn s i.g,i.op,fx.ev s)=(some true,.call fx xs,.fn f caps))(hc:aB P f (xs.map (·.ev s)++caps) U λr Z'=>r=v/\Z'=U)(h:step P Th.nothing n 300 (.r (.ops l::k)) ⟨aY s i.dst v,U⟩ Q):aq P n (.ops (i::l)::k) ⟨s,U⟩ Q:=pR hw hc (sR h)
def sG{P:Program}{n:Nat}{t:Td}{st:St}{Q:St->Prop}(h:step P Th.nothing n 300 t st Q):Go P n t st Q:=Go.bx Th.nothing 300 t st h
attribute [go_sem] BB CC Qv Th.nothing bt ga aT eN eR eS eP eH bU lx ji bF gW eV gX dE dy cj jS cV cW cN Tm ln dN bT mN dP cG dL dx lA binBV bY dS
abbrev vI(n:Int):V:=.int .i64 n
structure S1 where
 (top RX RH O' Si RL RY head before after inside clear:Int)
deriving DecidableEq
def S1.cells(s:S1):List V:=[vI s.top,vI s.RX,vI s.RH,vI s.O',vI s.Si,vI s.RL,vI s.RY,vI s.head,vI s.before,vI s.after,vI s.inside,vI s.clear]
structure Nd where
 (kind size:Int)
 (st:S1)
 (line space:Int)
 (words:List Int)
 (side w h:Int)
deriving DecidableEq
def aX(l:List Int):V:=.sl 1 (l.map vI)
def Nd.cells(x:Nd):List V:=[vI x.kind,vI x.size,vI x.st.top,vI x.st.RX,vI x.st.RH,vI x.st.O',vI x.st.Si,vI x.st.RL,vI x.st.RY,vI x.st.head,vI x.st.before,vI x.st.after,vI x.st.inside,vI x.st.clear,
 vI x.line,vI x.space,aX x.words,vI x.side,vI x.w,vI x.h]
def gz(x:Nd):V:=.agg x.cells
def mx:Int:=1099511627776
def bc(n a b:Int):Bool:=decide (n>=a/\n<=b)
def S1.ok(s:S1):Bool:=bc s.top 0 mx&&bc s.RX 0 mx&&bc s.RH 0 mx&&bc s.O' 0 mx&&bc s.Si 0 mx&&bc s.RL 1 mx&&bc s.RY 1 mx&&bc s.head 0 mx&&
 bc s.before 0 4&&bc s.after 0 4&&bc s.inside 0 1&&bc s.clear 0 3
def S1.zero:S1:=⟨0,0,0,0,0,0,0,0,0,0,0,0⟩
def aQ(l:List Nd):V:=.sl 20 (l.map gz)
def bO(l:List Nd):ej false (aQ l)=some (.int .i64 l.length):=by simp[aQ,ej]
def ad(l:List Nd):(aQ l).cells=[aQ l]:=rfl
def al(l:List Nd):(aQ l).stays=true:=rfl
variable {P:Program} {n:Nat} {st:St} {Q:St->Prop} {k:List It} {I:Mu} {w w':World}
abbrev gh(o:Obj)(env:List V:=[]):Ob:=⟨0,0,.obj o::env⟩
def Sat.LI{w0:World}{SH:Nat->Prop}{U:ak}(h:Sat w0 SH I U w)(o:Obj)(env:List V)(he:ax I (aN I U) w env (tmpsOf o)):
 ∃id,U id=none/\∃Y':Mu,Y' id=.SC w.heap.size 0 0/\dn I Y'/\Sat w0 SH Y' (C' U id (gh o env)) (w.alloc o)/\dc (aN I U) (aN Y' (C' U id (gh o env))) w (w.alloc o):=by
 obtain⟨id,L',R8,Sq⟩:=h.dF;have hle:dn I (λk=>if k=id then .SC w.heap.size 0 0 else I k):=λk hk=>by
  have:k≠id:=λe'=>hk (e'▸L');simp[this]
 refine⟨id,R8,λk=>if k=id then .SC w.heap.size 0 0 else I k,by simp,hle,?_⟩;refine h.put (row:=none) (World.grownBy_alloc w o none) (by simp) hle (Sq _) id (gh o env) (λo' ho=>?_) (λi o' hi ho=>?_) (λb' Uu SZ UB=>?_) (λhk=>?_)
 .simp[C']at ho;exact ho.symm
 .simp only[C',aM hi]at ho;exact⟨ho,by simp⟩
 .simp only[if_true,Pl.SC.injEq]at UB;exact .inr (by omega)
 .simp only[if_true];exact .inr ⟨rfl,rfl,o,env,rfl,World.alloc_heap_new w o,ax.mono hle hk (by simp) _ _ he⟩
def Sat.NR{w0:World}{SH:Nat->Prop}{U:ak}(h:Sat w0 SH I U w){id b cap:Nat}{o:Ob}(ho:U id=some o)(L':I id=.SC b 0 cap)(o':Obj)(env:List V)(he:ax I (aN I U) w env (tmpsOf o')):
 Sat w0 SH I (C' U id (gh o' env)) (w.putObj b o')/\dc (aN I U) (aN I (C' U id (gh o' env))) w (w.putObj b o'):=by
 have u':b<w.heap.size:=aN.lt h ⟨id,o,0,cap,ho,L'⟩;refine h.put (grownBy_putObj' w b o') (λb' UB=>by cases UB;exact⟨id,o,0,cap,ho,L'⟩) (dn.refl _) h.fin id (gh o' env) (λx Sg=>by simp[C']at Sg;exact Sg.symm)
  (λi x hi Sg=>?_) (λb' Uu SZ UB=>?_) (λhk=>?_)
 .simp only[C',aM hi]at Sg;refine⟨Sg,λb' Uu SZ h4 h5=>hi ?_⟩;cases h5;exact h.inj i id x o _ _ _ _ _ Sg ho h4 L'
 .rw[L']at UB;cases UB;exact .inl rfl
 .rw[L'];exact .inr ⟨rfl,rfl,o',env,rfl,World.putObj_heap_same u',ax.mono (dn.refl _) hk (by simp) _ _ he⟩
def Sat.HU{w0:World}{SH:Nat->Prop}{U:ak}(h:Sat w0 SH I U w){id b cap:Nat}{o:Obj}{env:List V}(ho:U id=some (gh o env))(L':I id=.SC b 0 cap):w.heap[b]?=some o/\ax I (aN I U) w env (tmpsOf o):=by
 have:=h.obj id _ ho;rw[L']at this;rcases this with⟨_,_,_,h1,_⟩|⟨_,_,ob,Yv,h1,h2,h3⟩
 .omega
 .simp only[List.cons.injEq,V.obj.injEq]at h1;obtain⟨rfl,rfl⟩:=h1;exact⟨h2,h3⟩
variable {P:Program} {n:Nat} {st:St} {Q:St->Prop} {k:List It} {I:Mu} {w w':World}
def Sat.compose{w0:World}{SH:Nat->Prop}{I Y':Mu}{U Z':ak}(h0:Sat w0 SH I U w)(RV:Sat w (aN I U) Y' Z' w'):
 Sat w0 SH Y' Z' w'/\dc (aN I U) (aN Y' Z') w w':=by
 have Uc:dc (aN I U) (aN Y' Z') w w':=λb hb hn=>⟨λho=>hn (RV.fresh b ho hb),RV.same b hb hn⟩
 refine⟨⟨l9 h0.size RV.size,RV.os.trans h0.os,RV.tape.trans h0.tape,RV.output.trans h0.output,?_,RV.fin,RV.inj,RV.obj,?_,h0.UO⟩,Uc⟩
 .intro b hb hn;have h1:¬aN I U b:=λho=>hn (h0.fresh b ho hb);exact(RV.same b (Nat.lt_of_lt_of_le hb h0.size) h1).trans (h0.same b hb hn)
 .intro b hb u';exact h0.fresh b (RV.fresh b hb (Nat.lt_of_lt_of_le u' h0.size)) u'
def Sat.here{w0:World}{SH:Nat->Prop}{U:ak}(h:Sat w0 SH I U w):Sat w (aN I U) I U w:=
 ⟨Sf _,rfl,rfl,rfl,λ_ _ _=>rfl,h.fin,h.inj,h.obj,λb hb _=>hb,h.mV⟩
def YC(P:Program)(So:Nat)(x:List V)(U:ak)(Post:Bool->ak->Prop):Prop:=
 ∀I w RI l c,I So=.SC l 0 c->Sat w (aN I U) I U w->ax I (aN I U) w x RI->
  YieldAt Fence.wide 0 P l RI.toArray w λe w'=>∃b Z' Y',e=.returned (.bool b)/\Post b Z'/\dn I Y'/\Sat w (aN I U) Y' Z' w'
def wa{F:Fr}{m m':Nat}{l:Nat}{f:FuncId}{tmps:Array Value}{assign body:Code}{R:Ending->World->Prop}
 (h:RoundIn Fence.wide m P l f tmps assign body w R):RoundIn F.eG m' P l f tmps assign body w R:=
 ⟨trivial,λc cs _=>h.2 c cs (room_wide _)⟩
def aq.qq{i:aS}{l:List aS}{fx:VX}{xs:List VX}(hw:bn st.s i.g=some true)(ho:i.op=.call fx xs){So:Nat}(hf:fx.ev st.s=.yl So)
 {Post:Bool->ak->Prop}(hc:YC P So (xs.map (·.ev st.s)) st.U Post)
 (h:∀b Z',Post b Z'->aq P n (.ops l::k) ⟨aY st.s i.dst (.bool b),Z'⟩ Q):aq P n (.ops (i::l)::k) st Q:=by
 refine aq.Jj hw λF hn I a w o all hi hs next Q' RK=>?_
 subst hn;obtain⟨RN,hd⟩:=eZ hi;rw[ho]at RN;obtain⟨f0,args,argTypes,g1,rfl,rfl⟩:=nN RN;have Wz:=cF hs f0;rw[hf]at Wz;simp only[E']at Wz;split at Wz
 .rename_i lb c L';have SS:=od hs args.toList;obtain⟨fn,tmps,assign,body,hy,hR⟩:=hc I w _ lb c L' hs.sat.here SS;have Su:(execOp a.eval o).run P w=.ok (.round lb fn tmps assign body) w:=by
   unfold execOp;rw[g1];simp only[resolve,Wz,Deferred.ofValue,Sem.run_bind,Sem.run_pure,Result.andThen_ok,invoke];rw[<-hy];congr 2;apply Array.ext';simp
  refine⟨λ_ _=>trivial,?_⟩;rw[Oper.semAt_eq _ _ _ (by rw[g1];intro c e;cases e),Su];refine⟨ll F,wa (hR.mono ?_)⟩;rintro e w' ⟨b,Z',Y',rfl,hp,hle,RV⟩;obtain⟨h1,h2⟩:=hs.sat.compose RV;refine RK _ _ _ ⟨Y',?_⟩ (h b Z' hp);rw[<-hd];exact hs.step h1 hle h2 RV.size (by simp[E'])
 .exact Wz.elim
def bE(ZJ U Sp Z':ak):Prop:=aa Sp Z'/\∀id o,ZJ id=none->U id=some o->Z' id=some o/\Sp id=none
def bE.refl{ZJ U:ak}(h:aa ZJ U):bE ZJ U ZJ U:=⟨h,λ_ _ h1 h2=>⟨h2,h1⟩⟩
def bE.set{ZJ U Sp Z':ak}(h:bE ZJ U Sp Z'){id:Nat}{o o':Ob}(L':Sp id=some o):bE ZJ U (C' Sp id o') (C' Z' id o'):=
 ⟨h.1.KE,λi x h1 h2=>by
  obtain⟨h3,h4⟩:=h.2 i x h1 h2;have:i≠id:=λe=>by rw[e,L']at h4;cases h4
  simp[Vc.C',this,h3,h4]⟩
def bE.new{ZJ U Sp Z':ak}(h:bE ZJ U Sp Z'){id:Nat}{o:Ob}(L':Z' id=none):bE ZJ U (C' Sp id o) (C' Z' id o):=
 ⟨h.1.KE,λi x h1 h2=>by
  obtain⟨h3,h4⟩:=h.2 i x h1 h2;have:i≠id:=λe=>by rw[e,L']at h3;cases h3
  simp[Vc.C',this,h3,h4]⟩
def bE.Hn{ZJ U Sp Z':ak}(h:bE ZJ U Sp Z'){id:Nat}{o:Ob}(L':Z' id=none):bE ZJ U Sp (C' Z' id o):=
 ⟨h.1.trans (aa.C' (aa.refl _) L'),λi x h1 h2=>by
  obtain⟨h3,h4⟩:=h.2 i x h1 h2;have:i≠id:=λe=>by rw[e,L']at h3;cases h3
  simp[Vc.C',this,h3,h4]⟩
def Iter(P:Program)(g:FuncId)(caps:List V)(xs:List (List V)):Prop:=
 gg P g=true/\∀(So:Nat) (τ Jx:List (List V)->ak->Prop) (Z0:ak),
  (∀pre x post ZJ U,xs=pre++x::post->τ pre ZJ->aa ZJ U->
    YC P So x U λb Z'=>∃Sp,bE ZJ U Sp Z'/\((b=true/\τ (pre++[x]) Sp)\/(b=false/\Jx (pre++[x]) Sp)))->
  τ [] Z0->rR P g (.yl So::caps) Z0 λ_ Z'=>τ xs Z'\/∃pre,pre <+: xs/\Jx pre Z'
variable {P:Program} {n:Nat} {st:St} {Q:St->Prop} {k:List It} {I:Mu} {w w':World}
def pz(s:Nat->V):List Nat->List V->Nat->V
 |p::ps,x::xs=>pz (λi=>if i=p then x else s i) ps xs
 |_,_=>s
def exK:List (Nat×(St->Prop))->List It
 |[]=>[]
 |(id,μ)::l=>.inBlock id::.stop μ::exK l
def Cm{U Z':ak}{id:Nat}(h:aa U Z'):aa (del U id) (del Z' id):=λi o e=>by
 unfold del at e|-;split at e
 .cases e
 .rename_i hi;rw[aM hi];exact h i o e
def Sat.more{w0:World}{SH:Nat->Prop}{U:ak}(h:Sat w0 SH I U w)(o:Obj):Sat w0 SH I U (w.alloc o)/\dc (aN I U) (aN I U) w (w.alloc o):=by
 have Tr:∀b,b<w.heap.size->(w.alloc o).heap[b]?=w.heap[b]?:=λb hb=>Go.RowKit.Below.heap_alloc w o b hb;have hk:dc (aN I U) (aN I U) w (w.alloc o):=λb hb hn=>⟨hn,Tr b hb⟩
 refine⟨⟨by have:=h.size;simp;omega,h.os,h.tape,h.output,λb hb hn=>(Tr b (Nat.lt_of_lt_of_le hb h.size)).trans (h.same b hb hn),h.fin,h.inj,λid ob ho=>?_,h.fresh,h.UO⟩,hk⟩;exact(h.obj id ob ho).mono (dn.refl I) hk (by simp) λb sz cap hp=>Tr b (aN.lt h ⟨id,ob,sz,cap,ho,hp⟩)
def dz.enter{F:Fr}{a:Act}(hs:dz F I st a w)(fn:FuncId)(ps:Array Tmp)(assign body:Code):
 ∃mark W0 D,dz F I st { a with defers:=mark++a.defers } W0/\(Instr.enterLoop fn a.tmps ps assign body F.eG.round).run P w=
  .ok (W0.heap.size,mark) (W0.alloc (.loop { state:=.ready,pending:=none,fn,tmps:=a.tmps,params:=ps,assign,body,defers:=D })):=by
 cases hrd:F.rd with
 |some lr=>
  obtain⟨l0,r0⟩:=lr;obtain⟨h1,_⟩:=hs.book.rnd l0 r0 hrd;refine⟨[],w,r0.defers,hs,?_⟩;have:F.eG.round=some l0:=by simp[Fr.eG,hrd]
  rw[this];exact run_enterLoop_inner h1 fn a.tmps ps assign body
 |none=>
  have:F.eG.round=none:=by simp[Fr.eG,hrd]
  rw[this];refine⟨[{ target:=.collected w.heap.size,args:=#[] }],w.alloc (.deferred (some [])),w.heap.size,?_,?_⟩
  .obtain⟨h1,hk⟩:=hs.sat.more (.deferred (some []));have hb:=hs.book.wb hk;refine⟨h1,hs.le,hs.size,⟨hb.rnd,?_⟩,λi hi=>E'.mono (dn.refl I) hk (by simp) _ _ (hs.slot i hi)⟩;obtain⟨Ds,g1,g2,g3⟩:=hb.marks;obtain⟨Ds',g1',g2',g3'⟩:=hs.book.marks;refine⟨w.heap.size::Ds',by simp[g1'],?_,?_⟩
   .refine List.nodup_cons.2 ⟨λXp=>?_,g2'⟩;have:=(nz.1 (g3' _ Xp).2.1).1;omega
   .intro D hD;simp only[dZ]at hD;rcases hD with rfl|hD
    .refine⟨hs.sat.size,World.alloc_heap_new w _,λho=>?_⟩;have:=aN.lt hs.sat ho;omega
    .obtain⟨q1,q2,q3⟩:=g3' D hD;have u':=(nz.1 q2).1;exact⟨q1,(hk D u' q3).2.trans q2,q3⟩
  .rw[run_enterLoop_outer];simp
def DI(ps:List Nat):∀(xs:List Value) (t:Array Value) (vs:List V) (s:Nat->V) {ow:Nat->Prop} (m:Nat),t.size=m->ax I ow w vs xs->vs.length=ps.length->
 (∀i,i<m->E' I ow w (s i) (t.getD i undef))->
 ((ps.zip xs).foldl (λt (p,v)=>t.setIfInBounds p v) t).size=m/\∀i,i<m->E' I ow w (pz s ps vs i) (((ps.zip xs).foldl (λt (p,v)=>t.setIfInBounds p v) t).getD i undef):=by
 induction ps with
 |nil=>intro xs t vs s ow m ht _ _ hi;exact⟨by simpa using ht,by simpa[pz]using hi⟩
 |cons p ps ih=>
  intro xs t vs s ow m ht hv hl hi;cases vs with
  |nil=>simp at hl
  |cons v vs=>
   simp only[ax]at hv;obtain⟨x,xs',rfl,h1,h2⟩:=hv;simp only[List.zip_cons_cons,jK,pz];refine ih xs' (t.setIfInBounds p x) vs _ m (by simp[ht]) h2 (by simpa using hl) λi u'=>?_;by_cases hip:i=p
   .subst hip;rw[aK rfl,Vn,Array.getElem?_setIfInBounds_self_of_lt (by omega)];exact h1
   .rw[aM hip,Vn,Array.getElem?_setIfInBounds_ne (λe=>hip e.symm),<-Vn];exact hi i u'
variable {P:Program} {n:Nat} {st:St} {Q:St->Prop} {k:List It} {I:Mu} {w w':World}
def uX{b:Nat}{o o':Obj}(h:w.heap[b]?=some o)(hc:∀off x,w.cell? ⟨b,off,none⟩≠some x):
 (∀b',b'≠b->(w.putObj b o').heap[b']?=w.heap[b']?)/\∀(ow:Nat->Prop),qE ow ow w (w.putObj b o'):=by
 have RU:∀b',b'≠b->(w.putObj b o').heap[b']?=w.heap[b']?:=λb' hb=>World.putObj_heap_other hb;refine⟨RU,λow b' _ hn=>⟨hn,λoff x hx=>?_⟩⟩;by_cases hb:b'=b
 .subst hb;exact absurd hx (hc off x)
 .exact fc (RU b' hb) off x hx
def ly{b:Nat}{r:Loop}(h:w.heap[b]?=some (.loop r)):∀off x,w.cell? ⟨b,off,none⟩≠some x:=λoff x=>by simp[World.cell?,h]
def dz.PY{F F':Fr}{a:Act}{l:Nat}{r r':Loop}(hs:dz F I st a w)(hF:F.rd=some (l,r))(hF':F'={ F with rd:=some (l,r') })(hl:l<F.w0.heap.size->F.SH l):
 dz F' I st a (w.putObj l (.loop r')):=by
 subst hF';obtain⟨h1,h2⟩:=hs.book.rnd l r hF;obtain⟨RU,hk⟩:=uX (o':=.loop r') h1 (ly h1);have hk:=hk (aN I st.U);have hz:w.heap.size<=(w.putObj l (.loop r')).heap.size:=by simp
 have u':=(nz.1 h1).1;refine⟨⟨by simpa using hs.sat.size,hs.sat.os,hs.sat.tape,hs.sat.output,λb hb hn=>?_,hs.sat.fin,hs.sat.inj,λid o ho=>?_,hs.sat.fresh,hs.sat.UO⟩,hs.le,hs.size,⟨λl' r'' e=>?_,?_⟩,λi hi=>E'.bQ (dn.refl I) hk hz _ _ (hs.slot i hi)⟩
 .by_cases UB:b=l
  .subst UB;exact absurd (hl hb) hn
  .exact(RU b UB).trans (hs.sat.same b hb hn)
 .refine(hs.sat.obj id o ho).bQ (dn.refl I) hk hz λb sz cap hp=>RU b ?_;rintro rfl;exact h2 ⟨id,o,sz,cap,ho,hp⟩
 .simp only[bf,Prod.mk.injEq]at e;obtain⟨rfl,rfl⟩:=e;exact⟨World.putObj_heap_same u',h2⟩
 .obtain⟨Ds,g1,g2,g3⟩:=hs.book.marks;refine⟨Ds,g1,g2,λD hD=>?_⟩;obtain⟨q1,q2,q3⟩:=g3 D hD;refine⟨q1,(RU D ?_).trans q2,q3⟩;rintro rfl;rw[h1]at q2;cases q2
def Sat.Le{w0:World}{SH:Nat->Prop}{U:ak}(h:Sat w0 SH I U w){So l c:Nat}(R8:U So=none)(L':I So=.SC l 0 c)(R9:¬aN I U l){r:Loop}(hr:w.heap[l]?=some (.loop r))
 (hl:l<w0.heap.size->SH l)(o:Obj)(env:List V)(he:ax I (aN I U) w env (tmpsOf o)):Sat w0 SH I (C' U So (gh o env)) (w.putObj l o):=by
 obtain⟨RU,_⟩:=uX (o':=o) hr (ly hr);have u':=(nz.1 hr).1;have hz:w.heap.size<=(w.putObj l o).heap.size:=by simp
 have Yw:∀b,aN I (C' U So (gh o env)) b->aN I U b\/b=l:=by
  rintro b ⟨id,ob,sz,cap,h1,h2⟩;by_cases e:id=So
  .subst e;rw[L']at h2;cases h2;exact .inr rfl
  .rw[ab e]at h1;exact .inl ⟨id,ob,sz,cap,h1,h2⟩
 have hk:qE (aN I U) (aN I (C' U So (gh o env))) w (w.putObj l o):=λb ⟨off,x,hx⟩ hn=>by
  have SX:b≠l:=by rintro rfl;exact ly hr off x hx
  exact⟨λho=>(Yw b ho).elim hn SX,fc (RU b SX)⟩
 refine⟨by simpa using h.size,h.os,h.tape,h.output,λb hb hn=>?_,h.fin,?_,?_,?_,h.UO⟩
 .by_cases UB:b=l
  .subst UB;exact absurd (hl hb) hn
  .exact(RU b UB).trans (h.same b hb hn)
 .intro id Ua ob ob' b sz cap Uu SZ h1 h2 h3 h4;by_cases e:id=So<;>by_cases e':Ua=So
  .rw[e,e']
  .exfalso;subst e;rw[L']at h3;cases h3;rw[ab e']at h2;exact R9 ⟨Ua,ob',Uu,SZ,h2,h4⟩
  .exfalso;subst e';rw[L']at h4;cases h4;rw[ab e]at h1;exact R9 ⟨id,ob,sz,cap,h1,h3⟩
  .rw[ab e]at h1;rw[ab e']at h2;exact h.inj id Ua ob ob' b sz cap Uu SZ h1 h2 h3 h4
 .intro id ob ho;by_cases e:id=So
  .subst e;rw[av]at ho;cases ho;rw[L'];exact .inr ⟨rfl,rfl,o,env,rfl,World.putObj_heap_same u',ax.bQ (dn.refl I) hk hz _ _ he⟩
  .rw[ab e]at ho;refine(h.obj id ob ho).bQ (dn.refl I) hk hz λb sz cap hp=>RU b ?_;rintro rfl;exact R9 ⟨id,ob,sz,cap,ho,hp⟩
 .intro b hb Sz;rcases Yw b hb with h1|h1
  .exact h.fresh b h1 Sz
  .subst h1;exact hl Sz
variable {P:Program} {n:Nat} {st:St} {Q:St->Prop} {k:List It} {I:Mu} {w w':World}
def zR:List (Nat×(St->Prop))->List KI
 |[]=>[]
 |(id,μ)::l=>.inBlock id::.stop μ::zR l
def Da:∀(l:List (Nat×(St->Prop))),(zR l).map (KI.it P n)=exK l
 |[]=>rfl
 |(id,μ)::l=>by simp[zR,exK,KI.it,Da l]
def jr{F:Fr}{e:Exit}{a:Act}(he:e≠.normal):∀(l:List (Nat×(St->Prop))),lH P F Q (zR l) e a w->
 (e=.ret/\∃st,Q st/\eU F st a w)\/∃id μ,(id,μ)∈l/\e=.exit id/\∃st,μ st/\eU F st a w
 |[],h=>.inl ⟨h.1.resolve_left he,h.2⟩
 |(id,μ)::l,h=>by
  have h:Exit.inBlock id (lH P F Q (.stop μ::zR l)) e a w:=h;have up:lH P F Q (zR l) e a w->_:=jr he l;have go:lH P F Q (zR l) e a w->(e=.ret/\∃st,Q st/\eU F st a w)\/∃Ua I',(Ua,I')∈(id,μ)::l/\e=.exit Ua/\∃st,I' st/\eU F st a w:=λh=>by
   rcases up h with h|⟨i,I',h1,h2⟩
   .exact .inl h
   .exact .inr ⟨i,I',by simp[h1],h2⟩
  cases e with
  |normal=>exact absurd rfl he
  |exit j=>
   simp only[Exit.inBlock]at h;by_cases hj:j=id
   .rw[aK hj]at h;exact .inr ⟨id,μ,by simp,by rw[hj],h⟩
   .rw[aM hj]at h;exact go h
  |_=>exact go h
def F7:Option Nat->Code
 |none=>.ret
 |some id=>.exit id
def Ey{rec:Loop}(hready:rec.state=.ready)(hpend:rec.pending=none)(htm:rec.tmps.size=n){s:Nat->V}{So:Nat}{x:List V}{ZJ U:ak}
 (hx:x.length=rec.params.toList.length)(Te:ZJ So=some (gh (.loop rec) ((List.range n).map s)))(G':aa ZJ U)
 (Jn:ak->Prop)(UR:List Nat)(Jx:Option Nat->ak->Prop)
 (hb:aq P n [.code (dG P n rec.assign),.stop λst1=>aq P n (.code (dG P n rec.body)::.stop (λVk=>∃Z2,bE (del ZJ So) (del U So) Z2 Vk.U/\Jn Z2)::
   exK (UR.map λid=>(id,λVk=>∃Z2,bE (del ZJ So) (del U So) Z2 Vk.U/\Jx (some id) Z2))) st1 (λVk=>∃Z2,bE (del ZJ So) (del U So) Z2 Vk.U/\Jx none Z2)]
   ⟨pz s rec.params.toList x,del U So⟩ (λ_=>False)):
 YC P So x U λb Z'=>∃Sp,bE ZJ U Sp Z'/\((b=true/\Sp So=some (gh (.loop rec) ((List.range n).map s))/\Jn (del Sp So))\/
  (b=false/\∃e:Option Nat,Sp So=some (gh (.loop { rec with state:=.done,pending:=some (F7 e) }) ((List.range n).map s))/\Jx e (del Sp So)/\∀id,e=some id->id∈UR)):=by
 intro Y3 w3 RI l c L' Ud Tu;have R8:=G' _ _ Te;obtain⟨hl,WB⟩:=Ud.HU R8 L';have hvl:RI.length=rec.params.toList.length:=by rw[<-hx];exact Tu.length
 have hy:=run_yield (P:=P) (args:=RI.toArray) hl (by simpa using hvl);have R9:¬aN Y3 (del U So) l:=by
  rintro⟨id,o,sz,cap,h1,h2⟩;have:=Ud.inj id So o _ l sz cap 0 c (aa.yI U So id o h1) R8 h2 L';subst this;simp[del]at h1
 have hks:dc (aN Y3 U) (aN Y3 (del U So)) w3 w3:=dc.sub w3 (aa.yI U So);have hslots:∀i,i<n->E' Y3 (aN Y3 (del U So)) w3 (s i) (rec.tmps.getD i undef):=λi hi=>by
  have hv:((List.range n).map s)[i]?=some (s i):=by simp[hi]
  obtain⟨y,h1,h2⟩:=WB.get hv;have:rec.tmps.getD i undef=y:=by
   simp only[tmpsOf]at h1;rw[Vn,<-Array.getElem?_toList,h1];rfl
  rw[this];exact E'.mono (dn.refl _) hks (Sf _) _ _ h2
 obtain⟨hg1,hg2⟩:=DI rec.params.toList RI rec.tmps x s n htm (ax.mono (dn.refl _) hks (Sf _) _ _ Tu) hx hslots;have hzip:(rec.params.zip RI.toArray).foldl (λtmps (t,a)=>tmps.setIfInBounds t a) rec.tmps=(rec.params.toList.zip RI).foldl (λt (p,v)=>t.setIfInBounds p v) rec.tmps:=by
  rw[<-Array.foldl_toList,Array.toList_zip]
 rw[hzip]at hy;refine⟨rec.fn,_,rec.assign,rec.body,hy,roundIn_of_wpIn (F:=Fence.wide) trivial ?_⟩;have Tg:dz ⟨w3,aN Y3 U,Y3,n,some (l,rec)⟩ Y3 ⟨pz s rec.params.toList x,del U So⟩ { tmps:=(rec.params.toList.zip RI).foldl (λt (p,v)=>t.setIfInBounds p v) rec.tmps,defers:=[] } w3:=by
  refine⟨Ud.drop (aa.yI U So),dn.refl _,hg1,⟨λl' r' e=>?_,[],rfl,.nil,by simp⟩,hg2⟩;simp only[bf,Prod.mk.injEq]at e;obtain⟨rfl,rfl⟩:=e;exact⟨hl,R9⟩
 have h1:=hb ⟨w3,aN Y3 U,Y3,n,some (l,rec)⟩ rfl [.code rec.assign,.stop _] rfl _ w3 ⟨Y3,Tg⟩;refine wpIn_mono (F:=Fence.wide.inRound l) h1 ?_;intro e a1 w1 h;cases e with
 |normal=>
  obtain⟨st1,hI,X4,hs4⟩:=h;have ZV:=hs4.PY (F':=⟨w3,aN Y3 U,Y3,n,some (l,{ rec with state:=.busy })⟩) (r':={ rec with state:=.busy }) rfl rfl (λ_=>⟨So,_,0,c,R8,L'⟩);refine⟨_,run_beginRound (hs4.book.rnd l rec rfl).1 hready,?_⟩;have h2:=hI ⟨w3,aN Y3 U,Y3,n,some (l,{ rec with state:=.busy })⟩ rfl (.code rec.body::.stop _::zR _) (by simp only[fC,Da];rfl) a1 _ ⟨X4,ZV⟩;refine wpIn_mono (F:=Fence.wide.inRound l) h2 ?_;have fin:∀(Vk:St) (a2:Act) (w2:World) (jump:Option Code) (Z2:ak),eU ⟨w3,aN Y3 U,Y3,n,some (l,{ rec with state:=.busy })⟩ Vk a2 w2->bE (del ZJ So) (del U So) Z2 Vk.U->
   ∃v w'',(Instr.endRound l jump).run P w2=.ok v w''/\v=.bool jump.isNone/\∃Z' Y' Sp,dn Y3 Y'/\Sat w3 (aN Y3 U) Y' Z' w''/\bE ZJ U Sp Z'/\
    Sp So=some (gh (.loop { rec with state:=if jump.isNone then .ready else .done,pending:=jump }) ((List.range n).map s))/\del Sp So=Z2:=by
   rintro Vk a2 w2 jump Z2 ⟨X5,Wf⟩ Uv;obtain⟨q1,q2⟩:=Wf.book.rnd l _ rfl;have Wg:X5 So=.SC l 0 c:=(Wf.le So (show Y3 So≠.dF by rw[L'];simp)).trans L';have hn5:Vk.U So=none:=by
    cases h:Vk.U So with
    |none=>rfl
    |some o=>exact absurd ⟨So,o,0,c,h,Wg⟩ q2
   have hk5:dc (aN Y3 U) (aN X5 Vk.U) w3 w2:=λb hb hn=>⟨λho=>hn (Wf.sat.fresh b ho hb),Wf.sat.same b hb hn⟩
   have henv5:=ax.mono Wf.le hk5 Wf.sat.size _ _ WB;have WT:Z2 So=none:=by
    cases h:Z2 So with
    |none=>rfl
    |some o=>have:=Uv.1 So o h;rw[hn5]at this;cases this
   refine⟨_,_,run_endRound (P:=P) jump q1,rfl,C' Vk.U So (gh (.loop { rec with state:=if jump.isNone then .ready else .done,pending:=jump }) ((List.range n).map s)),X5,
    C' Z2 So (gh (.loop { rec with state:=if jump.isNone then .ready else .done,pending:=jump }) ((List.range n).map s)),Wf.le,?_,⟨Uv.1.KE,λi o h1 h2=>?_⟩,av,CJ WT⟩
   .exact Wf.sat.Le hn5 Wg q2 q1 (λ_=>⟨So,_,0,c,R8,L'⟩) _ _ henv5
   .have RU:i≠So:=λe=>by rw[e,Te]at h1;cases h1
    obtain⟨g1,g2⟩:=Uv.2 i o (by rw[eT RU];exact h1) (by rw[eT RU];exact h2);rw[ab RU,ab RU];exact⟨g1,g2⟩
  intro e a2 w2 h;cases e with
  |normal=>
   obtain⟨Vk,⟨Z2,Uv,hj⟩,UF⟩:=h;obtain⟨v,w'',g1,rfl,Z',Y',Sp,g2,g3,g4,g5,g6⟩:=fin Vk a2 w2 none Z2 UF Uv;refine⟨_,w'',g1,true,Z',Y',rfl,⟨Sp,g4,.inl ⟨rfl,?_,by rw[g6];exact hj⟩⟩,g2,g3⟩;rw[g5];have:({ rec with state:=.ready,pending:=none }:Loop)=rec:=by rw[<-hready,<-hpend]
   simp[this]
  |ret=>
   rcases jr (by simp) _ h with⟨_,Vk,⟨Z2,Uv,hj⟩,UF⟩|⟨_,_,_,h,_⟩
   .obtain⟨v,w'',g1,rfl,Z',Y',Sp,g2,g3,g4,g5,g6⟩:=fin Vk a2 w2 (some .ret) Z2 UF Uv;exact⟨_,w'',g1,false,Z',Y',rfl,⟨Sp,g4,.inr ⟨rfl,none,g5,by rw[g6];exact hj,by simp⟩⟩,g2,g3⟩
   .cases h
  |exit id=>
   rcases jr (by simp) _ h with⟨h,_⟩|⟨Ua,μ,Xp,h,Vk,ZW,UF⟩
   .cases h
   .cases h;simp only[iD,Prod.mk.injEq]at Xp;obtain⟨id'',hin',rfl,rfl⟩:=Xp;obtain⟨Z2,Uv,hj⟩:=ZW;obtain⟨v,w'',g1,rfl,Z',Y',Sp,g2,g3,g4,g5,g6⟩:=fin Vk a2 w2 (some (.exit id'')) Z2 UF Uv;exact⟨_,w'',g1,false,Z',Y',rfl,⟨Sp,g4,.inr ⟨rfl,some id'',g5,by rw[g6];exact hj,by simp[hin']⟩⟩,g2,g3⟩
  |goto t=>rcases jr (by simp) _ h with⟨h,_⟩|⟨_,_,_,h,_⟩<;>cases h
  |panic ch=>rcases jr (by simp) _ h with⟨h,_⟩|⟨_,_,_,h,_⟩<;>cases h
  |outgrown=>rcases jr (by simp) _ h with⟨h,_⟩|⟨_,_,_,h,_⟩<;>cases h
 |ret=>exact h.2.choose_spec.1.elim
 |exit id=>rcases h.1 with h|h<;>cases h
 |goto t=>rcases h.1 with h|h<;>cases h
 |panic ch=>rcases h.1 with h|h<;>cases h
 |outgrown=>rcases h.1 with h|h<;>cases h
variable {P:Program} {n:Nat} {st:St} {Q:St->Prop} {k:List It} {I:Mu} {w w':World}
def wc{a:Act}{g:Operand}{l:Nat}{f:FuncId}{cv:List Value}(h:a.eval g=.func (.func f) #[] ⟨cv⟩):
 (resolve a.eval (rangeCall g l) 0).run P w=.ok { target:=.fn (.func f) ⟨cv⟩,args:=#[.func (.yield l) #[] #[]] } w:=by
 simp only[resolve,h,Deferred.ofValue];simp[go_sem]
def aq.Hr{g:VX}{ps:List Nat}{A B:bP}{gf:FuncId}{caps:List V}(hg:g.ev st.s=.fn gf caps){xs:List (List V)}{Z0:ak}(hs00:aa Z0 st.U)
 (Yc:gg P gf=true/\∀(So:Nat) (τ Jx:List (List V)->ak->Prop) (o:Ob),st.U So=none->
   (∀pre x post ZJ U,xs=pre++x::post->τ pre ZJ->aa ZJ U->
     YC P So x U λb Z'=>∃Sp,bE ZJ U Sp Z'/\((b=true/\τ (pre++[x]) Sp)\/(b=false/\Jx (pre++[x]) Sp)))->
   τ [] (C' Z0 So o)->rR P gf (.yl So::caps) (C' st.U So o) λ_ Z'=>τ xs Z'\/∃pre,pre <+: xs/\Jx pre Z')
 (hlen:∀x∈xs,x.length=ps.length)(UR:List Nat)(τ:List (List V)->ak->Prop)(Jx:Option Nat->List (List V)->ak->Prop)(h0:τ [] Z0)
 (hbody:∀pre x post ZJ U,xs=pre++x::post->τ pre ZJ->aa ZJ U->
   aq P n [.code A,.stop λst1=>aq P n (.code B::.stop (λVk=>∃Z2,bE ZJ U Z2 Vk.U/\τ (pre++[x]) Z2)::
    exK (UR.map λid=>(id,λVk=>∃Z2,bE ZJ U Z2 Vk.U/\Jx (some id) (pre++[x]) Z2))) st1 (λVk=>∃Z2,bE ZJ U Z2 Vk.U/\Jx none (pre++[x]) Z2)]
    ⟨pz st.s ps x,U⟩ (λ_=>False))
 (hdone:∀Z',τ xs Z'->aq P n k ⟨st.s,Z'⟩ Q)
 (hexit:∀id∈UR,∀pre Z',pre <+: xs->Jx (some id) pre Z'->aq P n (.code (.exit id)::k) ⟨st.s,Z'⟩ Q)
 (hret:∀pre Z',pre <+: xs->Jx none pre Z'->aq P n (.code .ret::k) ⟨st.s,Z'⟩ Q):aq P n (.code (.gi g ps A B)::k) st Q:=by
 intro F hn kt hk a w hs;subst hn;obtain⟨z,Ub,rfl,hy,Tp⟩:=eD hk;obtain⟨c0,rfl,hc⟩:=gN hy;have Vp:∃g0 ps0 a0 b0,c0=.rangeFunc g0 ps0 a0 b0/\cx F.n g0=g/\ps0.toList=ps/\dG P F.n a0=A/\dG P F.n b0=B:=by
  cases c0<;>simp only[dG,reduceCtorEq,bP.gi.injEq]at hc
  case region=>(split at hc;cases hc);split at hc<;>cases hc
  exact⟨_,_,_,_,rfl,hc.1,hc.2.1,hc.2.2.1,hc.2.2.2⟩
 obtain⟨g0,ps0,a0,b0,rfl,rfl,rfl,rfl,rfl⟩:=Vp;obtain⟨I,hs⟩:=hs;have hrg:=cF hs g0;rw[hg]at hrg;simp only[E']at hrg;obtain⟨cv,hgv,hcv⟩:=hrg;refine wpIn_rangeFunc λfn _=>?_;obtain⟨mark,W0,D,Ty,Su⟩:=hs.enter (P:=P) fn ps0 a0 b0;generalize hrec:({ state:=.ready,pending:=none,fn,tmps:=a.tmps,params:=ps0,assign:=a0,body:=b0,defers:=D }:Loop)=rec at Su;have hr1:rec.state=.ready:=by rw[<-hrec]
 have hr2:rec.pending=none:=by rw[<-hrec]
 have hr3:rec.tmps=a.tmps:=by rw[<-hrec]
 have hr4:rec.params=ps0:=by rw[<-hrec]
 have hr5:rec.assign=a0:=by rw[<-hrec]
 have hr6:rec.body=b0:=by rw[<-hrec]
 have hszn:rec.tmps.size=F.n:=by rw[hr3];exact hs.size
 have WB:ax I (aN I st.U) W0 ((List.range F.n).map st.s) (tmpsOf (.loop rec)):=by
  have hl:tmpsOf (.loop rec)=(List.range F.n).map λi=>a.tmps.getD i undef:=by
   simp only[tmpsOf,hr3];apply List.ext_getElem
   .simp[hs.size]
   .intro i h1 h2;simp only[dC,List.length_range]at h2;simp only[Array.getElem_toList,List.getElem_map,List.getElem_range];rw[Vn,Array.getElem?_eq_getElem (by rw[hs.size];exact h2)];rfl
  rw[hl];have Tf:∀l:List Nat,(∀i∈l,i<F.n)->ax I (aN I st.U) W0 (l.map st.s) (l.map λi=>a.tmps.getD i undef):=by
   intro l
   induction l with
   |nil=>intro _;simp[ax]
   |cons i l ih=>
    intro h;simp only[fC,ax];exact⟨_,_,rfl,Ty.slot i (h i (by simp)),ih λj hj=>h j (by simp[hj])⟩
  exact Tf _ λi hi=>by simpa using hi
 obtain⟨So,hidn,Y1,WC,hle1,hsat1,SV⟩:=Ty.sat.LI (.loop rec) _ WB;generalize hE:(List.range F.n).map st.s=env at*;have hcvt:ax Y1 (aN Y1 (C' st.U So (gh (.loop rec) env))) (W0.alloc (.loop rec)) caps cv:=by
  have h1:ax I (aN I st.U) W0 caps cv:=by
   have h2:=cF Ty g0;rw[hg]at h2;simp only[E']at h2;obtain⟨cv',h3,h4⟩:=h2;have:a.eval g0=.func (.func gf) #[] ⟨cv'⟩:=h3;rw[hgv]at this;simp only[Value.func.injEq,Array.mk.injEq,true_and]at this;rw[this];exact h4
  exact ax.mono hle1 SV (by simp) _ _ h1
 obtain⟨Uo,hiter⟩:=Yc;have key:=hiter So (λpre ZJ=>ZJ So=some (gh (.loop rec) env)/\τ pre (del ZJ So))
  (λpre ZJ=>∃e:Option Nat,ZJ So=some (gh (.loop { rec with state:=.done,pending:=some (F7 e) }) env)/\Jx e pre (del ZJ So)/\∀id,e=some id->id∈UR)
  (gh (.loop rec) env) hidn ?_ ⟨av,by rw[CJ (hs00.none hidn)];exact h0⟩
 .refine⟨W0.heap.size,mark,_,_,_,gf,_,_,by rw[show F.eG.round=F.eG.round from rfl];exact Su,wc hgv,λ_ _=>trivial,
   by simp only[invoke];exact mA Uo _,ll F,oG ?_⟩
  have SS:ax Y1 (aN Y1 (C' st.U So (gh (.loop rec) env))) (W0.alloc (.loop rec)) (.yl So::caps) (.func (.yield W0.heap.size) #[] #[]::cv):=by
   simp only[ax];exact⟨_,_,rfl,by simp[E',WC],hcvt⟩
  have SU:=key Y1 _ _ hsat1.here SS;have hvals:(Value.func (.yield W0.heap.size) #[] #[]::cv).toArray=#[.func (.yield W0.heap.size) #[] #[]]++⟨cv⟩:=by
   apply Array.ext';simp
  rw[hvals]at SU;refine SU.mono ?_;rintro e w2 ⟨r,Z',Y',val,rfl,hp,hle2,UF,-⟩;obtain⟨hs3,W6⟩:=hsat1.compose UF;have Zw:Y' So=.SC W0.heap.size 0 0:=(hle2 So (by rw[WC];simp)).trans WC;have fin:∀(XL:Loop),Z' So=some (gh (.loop XL) env)->XL.state≠.busy->∃w4,(Instr.endLoop W0.heap.size).run P w2=.ok XL.pending w4/\
   eU F ⟨st.s,del Z' So⟩ { a with defers:=mark++a.defers } w4:=by
   intro XL Te RR;obtain⟨hl2,henv2⟩:=UF.HU Te Zw;refine⟨_,run_endLoop hl2 RR,Y',?_⟩;have VO:=hs3.NR Te Zw (.loop { XL with state:=.exhausted }) env henv2;have G':aa (del Z' So) (C' Z' So (gh (.loop { XL with state:=.exhausted }) env)):=λi o h=>by
    unfold del at h;split at h
    .cases h
    .rename_i hi;rw[ab hi];exact h
   have hks:=dc.sub (I:=Y') (w2.putObj W0.heap.size (.loop { XL with state:=.exhausted })) G';have hsz2:=UF.size;have hkall:dc (aN I st.U) (aN Y' (del Z' So)) W0 (w2.putObj W0.heap.size (.loop { XL with state:=.exhausted })):=λb hb hn=>by
    obtain⟨q1,q2⟩:=SV b hb hn;have U5:b<(W0.alloc (.loop rec)).heap.size:=by simp;omega
    obtain⟨q3,q4⟩:=W6 b U5 q1;have Sh:b<w2.heap.size:=Nat.lt_of_lt_of_le U5 hsz2;obtain⟨q5,q6⟩:=VO.2 b Sh q3;exact⟨λho=>q5 (ho.sub G'),q6.trans (q4.trans q2)⟩
   have hle3:dn I Y':=hle1.trans hle2;have hz:W0.heap.size<=(w2.putObj W0.heap.size (.loop { XL with state:=.exhausted })).heap.size:=by
    simp at hsz2|-;omega
   exact⟨VO.1.drop G',Ty.le.trans hle3,Ty.size,Ty.book.wb hkall,λi hi=>E'.mono hle3 hkall hz _ _ (Ty.slot i hi)⟩
  rcases hp with⟨Te,hj⟩|⟨pre,Vv,e,Te,hj,Xp⟩
  .obtain⟨w4,g1,g2⟩:=fin rec Te (by rw[hr1];simp);refine⟨_,w4,g1,?_⟩;rw[hr2];exact hdone _ hj F rfl Ub Tp _ _ g2
  .obtain⟨w4,g1,g2⟩:=fin _ Te (by simp);refine⟨_,w4,g1,?_⟩;cases e with
   |none=>exact hret pre _ Vv hj F rfl (.code .ret::Ub) (by simp[KI.it,Tp,dG]) _ _ g2
   |some id=>exact hexit id (Xp id rfl) pre _ Vv hj F rfl (.code (.exit id)::Ub) (by simp[KI.it,Tp,dG]) _ _ g2
 .intro pre x post ZJ U U6 hJ G';have hx:x.length=rec.params.toList.length:=by rw[hr4];exact hlen x (by rw[U6];simp)
  have hb:=hbody pre x post (del ZJ So) (del U So) U6 hJ.2 (Cm G');subst hE;refine Ey hr1 hr2 hszn hx hJ.1 G' (τ (pre++[x])) UR (λe=>Jx e (pre++[x])) ?_;rw[hr4,hr5,hr6];exact hb
def aq.gi{g:VX}{ps:List Nat}{A B:bP}{gf:FuncId}{caps:List V}(hg:g.ev st.s=.fn gf caps){xs:List (List V)}(Yc:Iter P gf caps xs)
 (hlen:∀x∈xs,x.length=ps.length)(UR:List Nat)(τ:List (List V)->ak->Prop)(Jx:Option Nat->List (List V)->ak->Prop)(h0:τ [] st.U)
 (hbody:∀pre x post ZJ U,xs=pre++x::post->τ pre ZJ->aa ZJ U->
   aq P n [.code A,.stop λst1=>aq P n (.code B::.stop (λVk=>∃Z2,bE ZJ U Z2 Vk.U/\τ (pre++[x]) Z2)::
    exK (UR.map λid=>(id,λVk=>∃Z2,bE ZJ U Z2 Vk.U/\Jx (some id) (pre++[x]) Z2))) st1 (λVk=>∃Z2,bE ZJ U Z2 Vk.U/\Jx none (pre++[x]) Z2)]
    ⟨pz st.s ps x,U⟩ (λ_=>False))
 (hdone:∀Z',τ xs Z'->aq P n k ⟨st.s,Z'⟩ Q)
 (hexit:∀id∈UR,∀pre Z',pre <+: xs->Jx (some id) pre Z'->aq P n (.code (.exit id)::k) ⟨st.s,Z'⟩ Q)
 (hret:∀pre Z',pre <+: xs->Jx none pre Z'->aq P n (.code .ret::k) ⟨st.s,Z'⟩ Q):aq P n (.code (.gi g ps A B)::k) st Q:=
 aq.Hr hg (aa.refl _) ⟨Yc.1,λSo J' Jx' _ _ hb h=>Yc.2 So J' Jx' _ hb h⟩ hlen UR τ Jx h0 hbody hdone hexit hret
variable {P:Program} {n:Nat} {st:St} {Q:St->Prop} {k:List It}
def ef(R7:List (List Nat))(n':List Nat):List Nat:=(List.range R7.length).filter λi=>!n'.contains i&&(R7.getD i []).all n'.contains
abbrev kG(ops:Array Oper):List (List Nat):=ops.toList.map λo=>(o.after.toList.filter (Region.binds .any)).map (·.on)
def wC{ops:Array Oper}{arr:Array Bool}{n':List Nat}(hs:arr.size=ops.size)(hl:∀i,i<ops.size->arr.getD i true=n'.contains i)
 (ho:∀i∈n',i<ops.size):Region.ready .any ops arr=ef (kG ops) n':=by
 unfold Region.ready ef;have hlen:(kG ops).length=ops.size:=by simp[kG]
 rw[hlen];refine List.filter_congr λi hi=>?_;have hi:i<ops.size:=by simpa using hi
 rw[hl i hi];congr 1;have h1:ops[i]?=some ops[i]:=Array.getElem?_eq_getElem hi;have h2:(kG ops).getD i []=(ops[i].after.toList.filter (Region.binds .any)).map (·.on):=by
  rw[yb];simp[kG,hi]
 rw[h1,h2];simp only[Option.map_some,Option.getD_some];rw[<-Array.all_toList,List.all_map,List.all_filter];congr 1;funext e;simp only[Function.comp];have h3:arr.getD e.on false=n'.contains e.on:=by
  by_cases he:e.on<ops.size
  .rw[<-hl _ he,Vn,Vn,Array.getElem?_eq_getElem (by omega)];rfl
  .rw[Vn,Array.getElem?_eq_none (by omega)];simp only[Option.getD_none];symm;rw[Bool.eq_false_iff];intro hc;exact he (ho _ (by simpa using hc))
 rw[h3]
def aa.x7{Z0 U:ak}{e:Nat}(h:aa Z0 U)(he:Z0 e=Option.none):aa Z0 (del U e):=λi x hx=>by
 have RU:i≠e:=λe'=>by rw[e',he]at hx;cases hx
 rw[eT RU];exact h i x hx
def pA:(∀{P:Program} {O:Th P} {n:Nat} {k:List It} {st:St} {Q:St->Prop},step P O n 0 (.r k) st Q=Kof P n k st Q)/\(∀{P:Program} {n:Nat} {c:bP} {k:List It} {st:St} {Q:St->Prop},Kof P n (.code c::k) st Q=aq P n (.code c::k) st Q)/\
 (∀{P:Program} {n:Nat} {l:List aS} {k:List It} {st:St} {Q:St->Prop},Kof P n (.ops l::k) st Q=aq P n (.ops l::k) st Q)/\(∀{P:Program} {n id:Nat} {k:List It} {st:St} {Q:St->Prop},Kof P n (.inBlock id::k) st Q=aq P n (.inBlock id::k) st Q)/\
 ∀{P:Program} {n:Nat} {st:St} {Q:St->Prop},Kof P n [] st Q=aq P n [] st Q:=⟨rfl,rfl,rfl,rfl,rfl⟩
def Wk.bj{U Z':ak}(sz:Nat):Wk U Z' .bj (.sl sz []):=by
 intro I w0 w SH x hs hr;simp only[E']at hr|-;exact⟨none,0,by simpa using hr,by simp,.inl trivial⟩
def aP(K U:ak)(e sz:Nat)(v:V)(rows:List V):Prop:=(v=.bj/\rows=[])\/∃id,v=.own id 0 rows.length/\U id=some ⟨e,sz,rows⟩/\K id=none
def aP.wk{K U:ak}{e sz:Nat}{v:V}{rows:List V}(h:aP K U e sz v rows){K':ak}(hK:aa K' K)(hs:aa K' U):Wk U K' v (.sl sz rows):=by
 rcases h with⟨rfl,rfl⟩|⟨id,rfl,ho,hk⟩
 .exact Wk.bj sz
 .have:=Wk.own hs ho (hK.none hk) (off:=0) (len:=rows.length) (by simp);rw[Ip,ik]at this;exact this
def aP.ns{K U:ak}{e sz:Nat}{v:V}{rows:List V}(h:aP K U e sz v rows)(hs:aa K U){v0:V}(hv:V.sl sz rows=v0):
 az v U λr Z'=>r=v0/\Z'=K:=⟨_,K,hs,h.wk (aa.refl K) hs,hv,rfl⟩
def bk{P:Program}{n:Nat}{Q:St->Prop}{k:List It}{O:Th P}{f:Nat}{d:Option Nat}{l:List aS}{v:Nat->V}{ob:Ob}{s:Nat->V}{U:ak}{e:Option Nat}
 (h:∀id Z',aa (bR U e) Z'->Z' id=some ob->U id=none->step P O n f (.r (.ops l::k)) ⟨aY s d (v id),Z'⟩ Q):
 GC P O n f l k d ⟨s,U⟩ Q (some λid=>(v id,Vc.C' (bR U e) id ob)):=by
 rw[aH];refine λid L'=>h id _ ((aa.refl _).C' ?_) av L';cases e with
 |none=>exact L'
 |some e=>
  simp only[bR,del];split
  .rfl
  .exact L'
def qt{P:Program}{n:Nat}{Q:St->Prop}{k:List It}{O:Th P}{f:Nat}{d:Option Nat}{l:List aS}{v:Nat->V}{ob:Ob}{s:Nat->V}{U:ak}{e:Option Nat}
 (h:∀id Z',aa (bR U e) Z'->Z' id=some ob->U id=none->step P O n f (.d l k) ⟨aY s d (v id),Z'⟩ Q):
 D8 P O n f l k d ⟨s,U⟩ Q (some λid=>(v id,Vc.C' (bR U e) id ob)):=by
 rw[aJ];refine λid L'=>h id _ ((aa.refl _).C' ?_) av L';cases e with
 |none=>exact L'
 |some e=>
  simp only[bR,del];split
  .rfl
  .exact L'
def aP.dst{K U:ak}{e sz:Nat}{v:V}{rows:List V}(h:aP K U e sz v rows){Z1:ak}(hs:aa U Z1):
 ∃idA,cm Z1 e sz v=some (rows,idA)/\∀K':ak,aa K' K->∀Z2,aa K' Z2->aa K' (bR Z2 idA):=by
 rcases h with⟨rfl,rfl⟩|⟨id,rfl,ho,hk⟩
 .exact⟨none,rfl,λ_ _ _ h=>h⟩
 .refine⟨some id,?_,λK' hK Z2 h=>h.x7 (hK.none hk)⟩;simp only[cm,hs _ _ ho];rw[aK ⟨trivial,trivial,trivial,Sf _⟩,ik]
def aP.start{K U:ak}{e sz:Nat}:aP K U e sz .bj []:=.inl ⟨rfl,rfl⟩
def aP.new{K U:ak}{e sz id:Nat}{rows:List V}{n:Nat}(hn:n=rows.length)(h:U id=some ⟨e,sz,rows⟩)(hk:K id=none):aP K U e sz (.own id 0 n) rows:=by
 subst hn;exact .inr ⟨id,rfl,h,hk⟩
def aP.len{K U:ak}{e sz:Nat}{v:V}{rows:List V}(h:aP K U e sz v rows):ej false v=some (.int .i64 rows.length):=by
 rcases h with⟨rfl,rfl⟩|⟨id,rfl,ho,hk⟩<;>rfl
def aP.mono{K U Z':ak}{e sz:Nat}{v:V}{rows:List V}(h:aP K U e sz v rows)(hs:aa U Z'):aP K Z' e sz v rows:=by
 rcases h with h|⟨id,h1,h2,h3⟩
 .exact .inl h
 .exact .inr ⟨id,h1,hs _ _ h2,h3⟩
def bN{U:ak}{id e sz:Nat}{r:V}(h:U id=some ⟨e,sz,[r]⟩):cB U sz (.own id 0 1)=some [r]:=by
 simp[cB,h]
def Wk.ptr{U Z':ak}(h:aa Z' U){id:Nat}{e sz:Nat}{r:V}(ho:U id=some ⟨e,sz,[r]⟩)(L':Z' id=none):Wk U Z' (.ptr id 0 0) (.rp r):=by
 intro I w0 w SH x hs hr;simp only[E']at hr|-;have Ts:=hs.obj id _ ho;split at hr
 .rename_i b Uu cap hb;obtain⟨rfl,hz⟩:=hr;rw[hb]at Ts;have u':b<w.heap.size:=aN.lt hs ⟨id,_,_,_,ho,hb⟩;obtain⟨g1,g2,g3,g4,g5⟩:=Ts.rows hz;refine⟨b,_,rfl,u',.inr ?_,?_⟩
  .rintro⟨Ua,ob',sz'',cap'',e1,e2⟩;have:=hs.inj Ua id ob' _ _ _ _ _ _ (h _ _ e1) ho e2 hb;rw[this,L']at e1;cases e1
  .simp only[aZ]at g5;have:=aZ.mono (dn.refl I) (dc.sub w h) (Sf _) [r] b 0 Uu rfl (by simp only[aZ];exact⟨g5.1,g5.2.1,trivial⟩);simp only[aZ]at this;simpa using this.2.1
 .exact hr.elim
def Wk.fn{U Z':ak}{f:FuncId}{vs vs':List V}(h:Yt U Z' vs vs'):Wk U Z' (.fn f vs) (.fn f vs'):=by
 intro I w0 w SH x hs hr;simp only[E']at hr|-;obtain⟨RI,rfl,h1⟩:=hr;exact⟨RI,rfl,Yt.all hs h h1⟩
def V.gA(vs:List V):V.cells (.agg vs)=vs:=rfl
def V.gy(k:IntKind)(i:Int):V.cells (.int k i)=[.int k i]:=rfl
def V.fK:V.cells .bj=[.bj]:=rfl
def V.gH(a b c:Nat):V.cells (.own a b c)=[.own a b c]:=rfl
def V.iS(a:Nat)(b:List V):V.cells (.sl a b)=[.sl a b]:=rfl
def V.gG(a:List UInt8):V.cells (.str a)=[.str a]:=rfl
def V.fJ(a:Bool):V.cells (.bool a)=[.bool a]:=rfl
def V.jh(a:FuncId)(b:List V):V.cells (.fn a b)=[.fn a b]:=rfl
def V.gJ(a b c:Nat):V.cells (.ptr a b c)=[.ptr a b c]:=rfl
def V.jg(a:V):V.cells (.rp a)=[.rp a]:=rfl
def V.gQ(vs:List V):V.stays (.agg vs)=true:=rfl
def V.gK(k:IntKind)(i:Int):V.stays (.int k i)=true:=rfl
def V.fG:V.stays .bj=true:=rfl
def V.gL(a b c:Nat):V.stays (.own a b c)=true:=rfl
def V.iT(a:Nat)(b:List V):V.stays (.sl a b)=true:=rfl
def V.gM(a:List UInt8):V.stays (.str a)=true:=rfl
def V.fE(a:Bool):V.stays (.bool a)=true:=rfl
def V.jd(a:FuncId)(b:List V):V.stays (.fn a b)=true:=rfl
def V.gP(a b c:Nat):V.stays (.ptr a b c)=true:=rfl
def V.ja(a:V):V.stays (.rp a)=true:=rfl
end Go.Vc
