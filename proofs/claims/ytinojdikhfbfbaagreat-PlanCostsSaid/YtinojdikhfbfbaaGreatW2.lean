import Derived.Test.YtinojdikhfbfbaaGreatW1
import Derived.TacticsIn
import Derived.RangeFuncNested
import Derived.RangeFuncLeaves
import Derived.Orders
import Derived.OrdersIn
import Derived.Lib.SliceRun
import Derived.WideLaws
import Derived.Attr
import Derived.Laws.RangeString
import Derived.Laws.Runes
set_option linter.all false
set_option maxHeartbeats 8000000
namespace Go.Vc
inductive It where
 |code (c:bV)
 |inBlock (id:Nat)
 |ops (l:List aU)
 |stop (μ:St->Prop)
inductive KI where
 |code (c:Code)
 |inBlock (id:Nat)
 |ops (all:Array Oper) (l:List Oper)
 |stop (μ:St->Prop)
def KI.it(P:Program)(n:Nat):KI->It
 |.code c=>.code (ep P n c)
 |.inBlock id=>.inBlock id
 |.ops all l=>.ops (l.map (bO P n all))
 |.stop μ=>.stop μ
def Fr.fo(F:Fr):Fence:={ Fence.wide with round:=F.rd.map (·.1) }
def lC(F:Fr):F.fo.depth.isSome=true->1<=0:=λh=>by simp[Fr.fo,Fence.wide]at h
def oN{F:Fr}{n:Nat}{P:Program}{f:FuncId}{args:Array Value}{w:World}{R:Ending->World->Prop}(h:Calls P f args w R):CallsIn F.fo n P f args w R:=by
 have h1:CallsIn Fence.wide n P f args w R:=callsIn_wide.2 h;exact h1
def Dz{F:Fr}{P:Program}{o:Oper}{a:Act}{w:World}{next:Act->World->Prop}{Q:Exit->Act->World->Prop}(hd:∀c,o.op≠.defer c)(h:o.wp P a w next Q):
 o.wpIn F.fo 0 P a w next Q:=by
 refine⟨λ_ _=>trivial,?_⟩;rw[Oper.semAt_eq _ _ _ hd];unfold Oper.wp at h;generalize (execOp a.eval o).run P w=r at*;cases r with
 |ok x w'=>
  cases x<;>simp only[Oper.upon,Oper.uponIn]at h|-<;>first
   |exact h
   |exact⟨lC F,oN h⟩
   |contradiction
   |skip
  exact⟨lC F,λc cs _=>let ⟨v,w',r,s⟩:=h c cs;⟨v,w',r,stepsIn_wide.2 s⟩⟩
 |halt x w'=>cases x<;>simp only[Oper.upon,Oper.uponIn]at h|-<;>first|exact h|contradiction
def kz{P:Program}{n:Nat}{o:Op}(h:SC P n o≠.bad)(c:Call):o≠.defer c:=λe=>by subst e;exact h rfl
def ml(P:Program)(F:Fr)(Q:St->Prop):List KI->Exit->Act->World->Prop
 |[],e,a,w=>(e=.normal\/e=.ret)/\∃st,Q st/\fB F st a w
 |.code c::k,e,a,w=>match e with
   |.normal=>c.wpIn F.fo 0 P (ml P F Q k) a w
   |e=>ml P F Q k e a w
 |.inBlock id::k,e,a,w=>Exit.inBlock id (ml P F Q k) e a w
 |.ops all l::k,e,a,w=>match e with
   |.normal=>wpListIn F.fo 0 P all (ml P F Q k) l a w
   |e=>ml P F Q k e a w
 |.stop μ::k,e,a,w=>match e with
   |.normal=>∃st,μ st/\fB F st a w
   |e=>ml P F Q k e a w
def ay(P:Program)(n:Nat)(todo:List It)(st:St)(Q:St->Prop):Prop:=
 ∀F:Fr,F.n=n->∀kt:List KI,kt.map (KI.it P n)=todo->∀a w,fB F st a w->ml P F Q kt .normal a w
variable {P:Program} {n:Nat} {st:St} {Q:St->Prop} {k:List It}
def ay.nil(h:Q st):ay P n [] st Q:=by
 intro F _ kt hk a w hs;cases kt with
 |nil=>exact⟨.inl rfl,st,h,hs⟩
 |cons x kt=>simp at hk
def fj{kt:List KI}{x:It}(h:kt.map (KI.it P n)=x::k):∃y UB,kt=y::UB/\y.it P n=x/\UB.map (KI.it P n)=k:=by
 cases kt with
 |nil=>simp at h
 |cons y UB=>simp only[ga,List.cons.injEq]at h;exact⟨y,UB,rfl,h.1,h.2⟩
def ik{y:KI}{c:bV}(h:y.it P n=.code c):∃c0,y=.code c0/\ep P n c0=c:=by
 cases y<;>simp only[KI.it,It.code.injEq,reduceCtorEq]at h;exact⟨_,rfl,h⟩
def ay.skip(h:ay P n k st Q):ay P n (.code .skip::k) st Q:=by
 intro F hn kt hk a w hs;obtain⟨y,UB,rfl,hy,TP⟩:=fj hk;obtain⟨c0,rfl,hc⟩:=ik hy;have VL:c0=.skip:=by
  cases c0<;>simp only[ep,reduceCtorEq]at hc<;>(try (split at hc;cases hc))<;>(try (split at hc<;>cases hc))<;>try rfl
 subst VL;exact wpIn_skip (h F hn UB TP a w hs)
def ay.seq{x y:bV}(h:ay P n (.code x::.code y::k) st Q):ay P n (.code (.seq x y)::k) st Q:=by
 intro F hn kt hk a w hs;obtain⟨z,UB,rfl,hy,TP⟩:=fj hk;obtain⟨c0,rfl,hc⟩:=ik hy;have VL:∃x0 y0,c0=.seq x0 y0/\ep P n x0=x/\ep P n y0=y:=by
  cases c0<;>simp only[ep,reduceCtorEq,bV.seq.injEq]at hc
  case region=>(split at hc;cases hc);split at hc<;>cases hc
  exact⟨_,_,rfl,hc.1,hc.2⟩
 obtain⟨x0,y0,rfl,rfl,rfl⟩:=VL;refine wpIn_seq (wpIn_mono (h F hn (.code x0::.code y0::UB) (by simp[KI.it,TP]) a w hs) ?_);intro e a' w' hq;cases e<;>exact hq
def ay.block{id:Nat}{x:bV}(h:ay P n (.code x::.inBlock id::k) st Q):ay P n (.code (.block id x)::k) st Q:=by
 intro F hn kt hk a w hs;obtain⟨z,UB,rfl,hy,TP⟩:=fj hk;obtain⟨c0,rfl,hc⟩:=ik hy;have VL:∃x0,c0=.block id x0/\ep P n x0=x:=by
  cases c0<;>simp only[ep,reduceCtorEq,bV.block.injEq]at hc
  case region=>(split at hc;cases hc);split at hc<;>cases hc
  obtain⟨rfl,h2⟩:=hc;exact⟨_,rfl,h2⟩
 obtain⟨x0,rfl,rfl⟩:=VL;exact wpIn_block (h F hn (.code x0::.inBlock id::UB) (by simp[KI.it,TP]) a w hs)
def ay.inBlock{id:Nat}(h:ay P n k st Q):ay P n (.inBlock id::k) st Q:=by
 intro F hn kt hk a w hs;obtain⟨z,UB,rfl,hy,TP⟩:=fj hk;cases z<;>simp only[KI.it,It.inBlock.injEq,reduceCtorEq]at hy;exact h F hn UB TP a w hs
def ay.stop{μ:St->Prop}(h:μ st):ay P n (.stop μ::k) st Q:=by
 intro F hn kt hk a w hs;obtain⟨z,UB,rfl,hy,TP⟩:=fj hk;cases z<;>simp only[KI.it,It.stop.injEq,reduceCtorEq]at hy;subst hy;exact⟨st,h,hs⟩
def eo(id:Nat):List It->Option (List It)
 |[]=>none
 |.inBlock j::k=>if id=j then some k else eo id k
 |_::k=>eo id k
def lZ{F:Fr}{id:Nat}{a:Act}{w:World}:∀{kt:List KI} {k':List It},eo id (kt.map (KI.it P n))=some k'->
 (∀UB,UB.map (KI.it P n)=k'->ml P F Q UB .normal a w)->ml P F Q kt (.exit id) a w
 |[],_,h,_=>by simp[eo]at h
 |.code c::kt,_,h,hq=>lZ (kt:=kt) (by simpa[KI.it,eo]using h) hq
 |.ops all l::kt,_,h,hq=>lZ (kt:=kt) (by simpa[KI.it,eo]using h) hq
 |.stop μ::kt,_,h,hq=>lZ (kt:=kt) (by simpa[KI.it,eo]using h) hq
 |.inBlock j::kt,k',h,hq=>by
  simp only[ga,KI.it,eo]at h;simp only[ml,Exit.inBlock];by_cases hj:id=j
  .rw[aI hj]at h|-;simp only[bh]at h;exact hq kt h
  .rw[aK hj]at h|-;exact lZ h hq
def ay.exit{id:Nat}{k':List It}(hp:eo id k=some k')(h:ay P n k' st Q):ay P n (.code (.exit id)::k) st Q:=by
 intro F hn kt hk a w hs;obtain⟨z,UB,rfl,hy,TP⟩:=fj hk;obtain⟨c0,rfl,hc⟩:=ik hy;have VL:c0=.exit id:=by
  cases c0<;>simp only[ep,reduceCtorEq,bV.exit.injEq]at hc
  case region=>(split at hc;cases hc);split at hc<;>cases hc
  rw[hc]
 subst VL;exact wpIn_exit (lZ (n:=n) (by rw[TP];exact hp) (λkt'' h''=>h F hn kt'' h'' a w hs))
def mj{F:Fr}{a:Act}{w:World}(h:∃st,Q st/\fB F st a w):∀(kt:List KI),ml P F Q kt .ret a w
 |[]=>⟨.inr rfl,h⟩
 |.code _::kt=>mj h kt
 |.inBlock _::kt=>mj h kt
 |.ops _ _::kt=>mj h kt
 |.stop _::kt=>mj h kt
def ay.ret(h:Q st):ay P n (.code .ret::k) st Q:=by
 intro F hn kt hk a w hs;obtain⟨z,UB,rfl,hy,TP⟩:=fj hk;obtain⟨c0,rfl,hc⟩:=ik hy;have VL:c0=.ret:=by
  cases c0<;>simp only[ep,reduceCtorEq]at hc<;>(try (split at hc;cases hc))<;>(try (split at hc<;>cases hc))<;>try rfl
 subst VL;exact wpIn_ret (mj ⟨st,h,hs⟩ UB)
def ay.cond{c:VX}{x y:bV}{b:Bool}(hc:c.ev st.s=.bool b)(h1:b=true->ay P n (.code x::k) st Q)(h2:b=false->ay P n (.code y::k) st Q):
 ay P n (.code (.cond c x y)::k) st Q:=by
 intro F hn kt hk a w hs;obtain⟨z,UB,rfl,hy,TP⟩:=fj hk;obtain⟨c0,rfl,SV⟩:=ik hy;have VL:∃o x0 y0,c0=.cond o x0 y0/\cx n o=c/\ep P n x0=x/\ep P n y0=y:=by
  cases c0<;>simp only[ep,reduceCtorEq,bV.cond.injEq]at SV
  case region=>(split at SV;cases SV);split at SV<;>cases SV
  exact⟨_,_,_,rfl,SV.1,SV.2.1,SV.2.2⟩
 obtain⟨o,x0,y0,rfl,rfl,rfl,rfl⟩:=VL;obtain⟨I,Sj⟩:=hs;have he:=cO Sj o;rw[hn,hc]at he;simp only[E']at he;exact wpIn_cond_split he (λhb=>h1 hb F hn (.code x0::UB) (by simp[KI.it,TP]) a w ⟨I,Sj⟩) (λhb=>h2 hb F hn (.code y0::UB) (by simp[KI.it,TP]) a w ⟨I,Sj⟩)
def ay.region{l:List aU}(h:ay P n (.ops l::k) st Q):ay P n (.code (.Wb false l)::k) st Q:=by
 intro F hn kt hk a w hs;obtain⟨z,UB,rfl,hy,TP⟩:=fj hk;obtain⟨c0,rfl,SV⟩:=ik hy;have VL:∃id ops,c0=.region id ops false/\ops.toList.map (bO P n ops)=l:=by
  cases c0<;>simp only[ep,reduceCtorEq]at SV;rename_i id ops draw;cases draw
  .simp only[Bool.false_and,jb,if_false,bV.Wb.injEq,true_and]at SV;exact⟨id,ops,rfl,SV⟩
  .simp only[Bool.true_and]at SV;split at SV
   .cases SV
   .split at SV
    .cases SV
    .simp at SV
 obtain⟨id,ops,rfl,rfl⟩:=VL;exact wpIn_region_list (h F hn (.ops ops ops.toList::UB) (by simp[KI.it,TP]) a w hs)
def ay.IS(h:ay P n k st Q):ay P n (.ops []::k) st Q:=by
 intro F hn kt hk a w hs;obtain⟨z,UB,rfl,hy,TP⟩:=fj hk;cases z<;>simp only[KI.it,It.ops.injEq,reduceCtorEq,List.map_eq_nil_iff]at hy;subst hy;exact h F hn UB TP a w hs
def bt(s:Nat->V):Option (VX×Bool)->Option Bool
 |none=>some true
 |some (x,b)=>match x.ev s with
    |.bool c=>some (c==b)
    |.Sa []=>some false
    |.int _ _=>some false
    |_=>none
def pY{F:Fr}{I:Mu}{st:St}{a:Act}{w:World}(hs:dS F I st a w)(all:Array Oper)(o:Oper){b:Bool}(h:bt st.s (bO P F.n all o).g=some b):
 Region.wanted o (yielded all a.tmps)=b:=by
 unfold Region.wanted;cases hg:o.guard with
 |none=>simp[bO,hg,bt]at h;simp[h]
 |some g=>
  obtain⟨j,want⟩:=g;simp only[bO,hg,Option.map_some,bt]at h;cases hd:(all[j]?).bind (·.dst)with
  |none=>
   simp only[hd,VX.ev]at h;simp only[bh]at h;subst h;simp[yielded,hd]
  |some d=>
   simp only[hd]at h;by_cases hdn:d<F.n
   .simp only[aI hdn,VX.ev]at h;have hr:=hs.slot d hdn;have Ua:a.tmps[d]?=some (a.tmps.getD d undef):=by
     rw[VJ,Array.getElem?_eq_getElem (by rw[hs.size];exact hdn)];rfl
    simp only[yielded,hd,Option.bind_some,Ua];split at h
    .rename_i c hc;rw[hc]at hr;simp only[E']at hr;rw[hr];simp only[bh]at h;rw[<-h];rfl
    .rename_i hc;rw[hc]at hr;simp only[E',aB]at hr;obtain⟨R6,hv,rfl⟩:=hr;rw[hv];simp only[bh]at h;rw[<-h];rfl
    .rename_i hc;rw[hc]at hr;simp only[E']at hr;rw[hr];simp only[bh]at h;rw[<-h];rfl
    .cases h
   .simp only[aK hdn,VX.ev]at h;simp only[bh]at h;have hle:a.tmps.size<=d:=by rw[hs.size];exact Nat.le_of_not_lt hdn
    have:a.tmps[d]?=none:=Array.getElem?_eq_none hle;simp[yielded,hd,this,<-h]
def St.put(st:St)(d:Option Nat)(v:V):St:=⟨bb st.s d v,st.U⟩
def ay.J3{i:aU}{l:List aU}(hw:bt st.s i.g=some true)
 (h:∀(F:Fr),F.n=n->∀(I:Mu) (a:Act) (w:World) (o:Oper) (all:Array Oper),bO P n all o=i->dS F I st a w->
   ∀(next:Act->World->Prop) (Q':Exit->Act->World->Prop),(∀UZ a' w',fB F UZ a' w'->ay P n (.ops l::k) UZ Q->next a' w')->o.wpIn F.fo 0 P a w next Q'):
 ay P n (.ops (i::l)::k) st Q:=by
 intro F hn kt hk a w hs;obtain⟨z,UB,rfl,hy,TP⟩:=fj hk;cases z<;>simp only[KI.it,It.ops.injEq,reduceCtorEq]at hy;rename_i all os;cases os with
 |nil=>simp at hy
 |cons o os=>
  simp only[ga,List.cons.injEq]at hy;obtain⟨hi,hl⟩:=hy;obtain⟨I,Sj⟩:=hs;have W3:=pY (P:=P) Sj all o (b:=true) (by rw[hn,hi];exact hw);simp only[ml,wpListIn,W3,if_true];refine h F hn I a w o all hi Sj _ _ ?_;intro UZ a' w' hs'' hsem;exact hsem F hn (.ops all os::UB) (by simp[KI.it,hl,TP]) a' w' hs''
def ay.ins{i:aU}{l:List aU}(hb:i.op≠.bad)(hw:bt st.s i.g=some true)
 (h:∀(F:Fr),F.n=n->∀(I:Mu) (a:Act) (w:World) (o:Oper) (all:Array Oper),bO P n all o=i->dS F I st a w->
   ∀(next:Act->World->Prop) (Q':Exit->Act->World->Prop),(∀UZ a' w',fB F UZ a' w'->ay P n (.ops l::k) UZ Q->next a' w')->o.wp P a w next Q'):
 ay P n (.ops (i::l)::k) st Q:=by
 refine ay.J3 hw λF hn I a w o all hi hs next Q' R8=>Dz ?_ (h F hn I a w o all hi hs next Q' R8)
 refine kz (P:=P) (n:=n) ?_;have:i.op=SC P n o.op:=by rw[<-hi];rfl
 rw[<-this];exact hb
def ay.yx{i:aU}{l:List aU}(hw:bt st.s i.g=some false)(h:ay P n (.ops l::k) (st.put i.dst (.Sa [])) Q):ay P n (.ops (i::l)::k) st Q:=by
 intro F hn kt hk a w hs;obtain⟨z,UB,rfl,hy,TP⟩:=fj hk;cases z<;>simp only[KI.it,It.ops.injEq,reduceCtorEq]at hy;rename_i all os;cases os with
 |nil=>simp at hy
 |cons o os=>
  simp only[ga,List.cons.injEq]at hy;obtain⟨hi,hl⟩:=hy;obtain⟨I,Sj⟩:=hs;have W3:=pY (P:=P) Sj all o (b:=false) (by rw[hn,hi];exact hw);simp only[ml,wpListIn,W3,jb,if_false];refine⟨λ_ _=>trivial,?_⟩;refine h F hn (.ops all os::UB) (by simp[KI.it,hl,TP]) _ w ⟨I,?_⟩;have hd:i.dst=o.dst.filter (·<F.n):=by rw[<-hi,hn];rfl
  rw[St.put,hd];exact Sj.pure (by simp only[E'];exact⟨[],rfl,by simp[aB]⟩)
def ay.pure{i:aU}{l:List aU}{v:V}(hw:bt st.s i.g=some true)(hp:fW st.s i.op)(hv:aV st.U st.s i.op=some v)
 (h:ay P n (.ops l::k) (st.put i.dst v) Q):ay P n (.ops (i::l)::k) st Q:=by
 refine ay.ins (λe=>by rw[e]at hv;simp[aV]at hv) hw λF hn I a w o all hi hs next Q' R8=>?_
 subst hn;have Sc:i.op=SC P F.n o.op:=by rw[<-hi];rfl
 have hd:i.dst=o.dst.filter (·<F.n):=by rw[<-hi];rfl
 obtain⟨z,hz,hr⟩:=si hs o (Sc▸hp) (Sc▸hv);unfold Oper.wp;rw[hz];refine R8 (st.put i.dst v) _ _ ⟨I,?_⟩ h;rw[St.put,hd];exact hs.pure hr
variable {P:Program} {n:Nat} {st:St} {Q:St->Prop} {k:List It}
def DL{F:Fr}{o:Oper}{a:Act}{w:World}{next next':Act->World->Prop}{R R':Exit->Act->World->Prop}(h:o.wpIn F.fo 0 P a w next R)
 (hn:∀a w,next a w->next' a w)(hq:∀e a w,e≠.normal->R e a w->R' e a w):o.wpIn F.fo 0 P a w next' R':=by
 refine⟨h.1,?_⟩;have h:=h.2;generalize (o.semAt F.fo.round a.eval).run P w=r at*;cases r with
 |ok x w'=>
  cases x<;>simp only[Oper.uponIn]at h|-<;>first
   |exact hn _ _ h
   |exact⟨h.1,CallsIn.mono h.2 (λe w'' he=>by cases e<;>first|exact hn _ _ he|exact hq _ _ _ (by simp) he|(obtain⟨a0,w0,h2⟩:=he;exact⟨a0,w0,hq _ _ _ (by simp) h2⟩))⟩
   |exact⟨h.1,RowsIn.mono h.2 (λ_ _ he=>hn _ _ he)⟩
   |exact⟨h.1,RoundIn.mono h.2 (λe w'' he=>by cases e<;>first|exact hn _ _ he|exact hq _ _ _ (by simp) he|(obtain⟨a0,w0,h2⟩:=he;exact⟨a0,w0,hq _ _ _ (by simp) h2⟩))⟩
   |contradiction
 |halt x w'=>cases x<;>simp only[Oper.uponIn]at h|-<;>first|exact hq _ _ _ (by simp) h|contradiction
def nv{F:Fr}{all:Array Oper}{R R':Exit->Act->World->Prop}(hq:∀e a w,R e a w->R' e a w):∀(l:List Oper) (a:Act) (w:World),wpListIn F.fo 0 P all R l a w->wpListIn F.fo 0 P all R' l a w
 |[],a,w,h=>hq _ _ _ h
 |o::l,a,w,h=>by
  simp only[wpListIn]at h|-;split
  .rename_i hw;simp only[hw,if_true]at h;exact DL h (nv hq l) (λe a w _=>hq e a w)
  .rename_i hw;simp only[hw]at h;exact⟨h.1,nv hq l _ _ h.2⟩
def Wk(U Z':al)(v v':V):Prop:=∀(I:Mu) (w0 w:World) (Tg:Nat->Prop) (x:Value),Sat w0 Tg I U w->E' I (aO I U) w v x->E' I (aO I Z') w v' x
def Wk.refl{U Z':al}(h:aa Z' U)(v:V):Wk U Z' v v:=λI _ w _ x _ hr=>E'.mono (dG.refl I) (dB.sub w h) (SD _) v x hr
def Wk.undef{U Z':al}(v:V):Wk U Z' v .undef:=λ_ _ _ _ _ _ _=>by simp[E']
def Wk.own{U Z':al}(h:aa Z' U){id off len:Nat}{ob:Ob}(ho:U id=some ob)(L':Z' id=none)(hl:off+len<=ob.rows.length):
 Wk U Z' (.own id off len) (.sl ob.sz ((ob.rows.drop off).take len)):=by
 intro I w0 w Tg x hs hr;simp only[E']at hr|-;have hlen:((ob.rows.drop off).take len).length=len:=by simp;omega
 have TT:=hs.obj id ob ho;split at hr
 .exact hr.elim
 .obtain⟨rfl,rfl,rfl⟩:=hr;exact⟨none,0,by simp,by simp,.inl (by simp)⟩
 .rename_i b sz cap hb;obtain⟨o,c,rfl,h1,h2,h3,hz⟩:=hr;refine⟨_,c,by rw[hlen],by omega,?_⟩;by_cases h0:len=0
  .left;subst h0;simp
  .right;rw[hb]at TT;obtain⟨g1,g2,g3,g4,g5⟩:=TT.rows hz;have ho':o=off*sz:=by
    rcases h3 with h3|h3
    .exact h3
    .omega
   subst ho' g1;refine⟨b,_,rfl,?_,g2,?_⟩
   .rintro⟨UA,ob',UP,Tz,e1,e2⟩;have:=hs.inj UA id ob' ob _ _ _ _ _ (h _ _ e1) ho e2 hb;rw[this,L']at e1;cases e1
   .have:=(g5.drop off).take len;rw[kQ]at this;exact bc.mono (dG.refl I) (dB.sub w h) (SD _) _ _ _ _ rfl this
def Zb(U Z':al):List V->List V->Prop
 |[],[]=>True
 |v::vs,v'::vs'=>Wk U Z' v v'/\Zb U Z' vs vs'
 |_,_=>False
def Zb.all{U Z':al}{I:Mu}{w0 w:World}{Tg:Nat->Prop}(hs:Sat w0 Tg I U w):∀{vs vs':List V} {l:List Value},Zb U Z' vs vs'->
 aB I (aO I U) w vs l->aB I (aO I Z') w vs' l
 |[],[],_,_,h=>by simpa[aB]using h
 |v::vs,v'::vs',l,hw,h=>by
  simp only[aB]at h|-;obtain⟨x,xs,rfl,h1,h2⟩:=h;exact⟨x,xs,rfl,hw.1 I w0 w Tg x hs h1,Zb.all hs hw.2 h2⟩
 |[],_::_,_,hw,_=>hw.elim
 |_::_,[],_,hw,_=>hw.elim
def Wk.agg{U Z':al}{vs vs':List V}(h:Zb U Z' vs vs'):Wk U Z' (.agg vs) (.agg vs'):=by
 intro I w0 w Tg x hs hr;simp only[E']at hr|-;obtain⟨R6,rfl,h1,h2⟩:=hr;exact⟨R6,rfl,Zb.all hs h h1,h2⟩
def Wk.Sa{U Z':al}{vs vs':List V}(h:Zb U Z' vs vs'):Wk U Z' (.Sa vs) (.Sa vs'):=by
 intro I w0 w Tg x hs hr;simp only[E']at hr|-;obtain⟨R6,rfl,h1⟩:=hr;exact⟨R6,rfl,Zb.all hs h h1⟩
def Lp(st UZ:St):Prop:=aa UZ.U st.U/\∀i,Wk st.U UZ.U (st.s i) (UZ.s i)
def Lp.sat{st UZ:St}(h:Lp st UZ){F:Fr}{a:Act}{w:World}(hs:fB F st a w):fB F UZ a w:=by
 obtain⟨I,hs⟩:=hs;exact⟨I,hs.sat.drop h.1,hs.le,hs.size,hs.book.wj (dB.sub w h.1),λi hi=>h.2 i I _ _ _ _ hs.sat (hs.slot i hi)⟩
def ay.weaken{todo:List It}{UZ:St}(h:Lp st UZ)(hr:ay P n todo UZ Q):ay P n todo st Q:=
 λF hn kt hk a w hs=>hr F hn kt hk a w (h.sat hs)
def wz{F:Fence}{m0:Nat}{c:Code}{Q':Exit->Act->World->Prop}(μ:Nat->Act->World->Prop)
 (round:∀m a w,μ m a w->c.wpIn F m0 P (Exit.then (λa' w'=>∃m',m'<m/\μ m' a' w') Q') a w):∀m a w,μ m a w->(Code.loop c).wpIn F m0 P Q' a w:=by
 intro m a w h b k cs Vo hb hr;have key:∀m a w,μ m a w->∃e a' w',Q' e a' w'/\ArrivesIn (Machine.fenced P F) P (lone (b.atR a (.code c::.inLoop c::k)) cs w) b k cs e a' w':=by
  intro m
  induction m using Nat.strongRecOn with
  |_ m ih=>
   intro a w hI;obtain⟨e,a₁,w₁,hq,Zc⟩:=round m a w hI b (.inLoop c::k) cs Vo hb hr;cases e with
   |normal=>
    obtain⟨m',u',hI'⟩:=hq;obtain⟨e₂,a₂,w₂,hq₂,harr₂⟩:=ih m' u' a₁ w₁ hI';exact⟨e₂,a₂,w₂,hq₂,.of_steps (StepsIn.trans Zc (.one (fenced_calm hb hr rfl) stepR_inLoop)) harr₂⟩
   |exit id=>exact⟨_,a₁,w₁,hq,.pass (x:=.inLoop c) rfl (λ_ _=>.inl (by simp)) Zc⟩
   |goto l=>exact⟨_,a₁,w₁,hq,.pass (x:=.inLoop c) rfl (λ_ _=>.inl (by simp)) Zc⟩
   |ret=>exact⟨_,a₁,w₁,hq,.pass (x:=.inLoop c) rfl (λ_ _=>.inl (by simp)) Zc⟩
   |panic ch=>exact⟨_,a₁,w₁,hq,.pass (x:=.inLoop c) rfl (λ_ _=>.inl (by simp)) Zc⟩
   |outgrown=>exact⟨_,a₁,w₁,hq,.pass (x:=.inLoop c) rfl (λ_ _=>.inl (by simp)) Zc⟩
 obtain⟨e,a',w',hq,Zc⟩:=key m a w h;exact⟨e,a',w',hq,.of_steps (.one (fenced_calm hb hr rfl) stepR_loop) Zc⟩
def ay.loop{x:bV}(μ:Nat->St->Prop)(m:Nat)(h0:μ m st)(hr:∀m st,μ m st->ay P n (.code x::.stop (λUZ=>∃m',m'<m/\μ m' UZ)::k) st Q):
 ay P n (.code (.loop x)::k) st Q:=by
 intro F hn kt hk a w hs;obtain⟨z,UB,rfl,hy,TP⟩:=fj hk;obtain⟨c0,rfl,hc⟩:=ik hy;have VL:∃x0,c0=.loop x0/\ep P n x0=x:=by
  cases c0<;>simp only[ep,reduceCtorEq,bV.loop.injEq]at hc
  case region=>(split at hc;cases hc);split at hc<;>cases hc
  exact⟨_,rfl,hc⟩
 obtain⟨x0,rfl,rfl⟩:=VL;refine wz (λm a w=>∃st,μ m st/\fB F st a w) ?_ m a w ⟨st,h0,hs⟩;rintro m a w ⟨st,hi,hs⟩;refine wpIn_mono (hr m st hi F hn (.code x0::.stop (λUZ=>∃m',m'<m/\μ m' UZ)::UB) (by simp[KI.it,TP]) a w hs) ?_;intro e a' w' h;cases e
 case normal=>obtain⟨UZ,⟨m',u',ZE⟩,Sj⟩:=h;exact⟨m',u',UZ,ZE,Sj⟩
 all_goals exact h
variable {P:Program} {n:Nat} {st:St} {Q:St->Prop} {k:List It}
def wN{o:Op}{e sz:Nat}{z:V}(h:SC P n o=.alloc e sz z):∃i zv,o=.alloc e/\zeroOf P e=some (i,zv)/\i.size=sz/\ofValue zv=z:=by
 cases o
 case alloc t=>
  simp only[SC,cU]at h;split at h
  .rename_i i zv hz;simp only[SH.alloc.injEq]at h;obtain⟨rfl,h2,h3⟩:=h;exact⟨i,zv,rfl,hz,h2,h3⟩
  ·(repeat' split at h)<;>cases h
 case call c=>
  obtain⟨callee,args,argTypes⟩:=c;cases callee
  case builtin b=>cases b<;>simp only[SC,cU]at h<;>(repeat' split at h)<;>cases h
  all_goals (simp only[SC,cU]at h;cases h)
 case unOp op t x=>cases op<;>simp only[SC,cU]at h<;>cases h
 case makeFunc f a b=>cases f<;>simp only[SC,cU]at h<;>(repeat' split at h)<;>cases h
 all_goals (simp only[SC,cU]at h;(repeat' split at h)<;>cases h)
def w8{o:Op}{sz:Nat}{xa xv:VX}(h:SC P n o=.store sz xa xv):∃t x y,o=.store t x y/\cg P t=true/\P.cellsOf t=sz/\cx n x=xa/\cx n y=xv:=by
 cases o
 case store t x y=>
  simp only[SC,cU]at h;split at h
  .rename_i hk;simp only[SH.store.injEq]at h;exact⟨t,x,y,rfl,hk,h.1,h.2.1,h.2.2⟩
  ·(repeat' split at h)<;>cases h
 case call c=>
  obtain⟨callee,args,argTypes⟩:=c;cases callee
  case builtin b=>cases b<;>simp only[SC,cU]at h<;>(repeat' split at h)<;>cases h
  all_goals (simp only[SC,cU]at h;cases h)
 case unOp op t x=>cases op<;>simp only[SC,cU]at h<;>cases h
 case makeFunc f a b=>cases f<;>simp only[SC,cU]at h<;>(repeat' split at h)<;>cases h
 all_goals (simp only[SC,cU]at h;(repeat' split at h)<;>cases h)
def uZ{o:Op}{e sz:Nat}{xs:List VX}(h:SC P n o=.iW e sz xs):∃t len parts i z,o=.buildSlice t len parts/\P.underlying t=some (.slice e)/\zeroOf P e=some (i,z)/\
 i.size=sz/\parts.toList.map (·.1)=List.range len/\len*i.size<=16777216/\parts.toList.map (λp=>cx n p.2)=xs:=by
 cases o
 case buildSlice t len parts=>
  simp only[SC,cU]at h;split at h
  .rename_i e' he;split at h
   .rename_i i z hz;split at h
    .rename_i hc;simp only[SH.iW.injEq]at h;obtain⟨rfl,h2,h3⟩:=h;exact⟨t,len,parts,i,z,rfl,he,hz,h2,hc.1,hc.2,h3⟩
    .cases h
   .cases h
  .cases h
 case call c=>
  obtain⟨callee,args,argTypes⟩:=c;cases callee
  case builtin b=>cases b<;>simp only[SC,cU]at h<;>(repeat' split at h)<;>cases h
  all_goals (simp only[SC,cU]at h;cases h)
 case unOp op t x=>cases op<;>simp only[SC,cU]at h<;>cases h
 case makeFunc f a b=>cases f<;>simp only[SC,cU]at h<;>(repeat' split at h)<;>cases h
 all_goals (simp only[SC,cU]at h;(repeat' split at h)<;>cases h)
def Fk{o:Op}{e sz bytes:Nat}{zv:V}{xn:VX}(h:SC P n o=.mk e sz bytes zv xn):∃t l c i z,o=.makeSlice t l c/\P.underlying t=some (.slice e)/\zeroOf P e=some (i,z)/\
 i.size=sz/\i.bytes=bytes/\ofValue z=zv/\tI l c=true/\cx n l=xn:=by
 cases o
 case makeSlice t l c=>
  simp only[SC,cU]at h;split at h
  .rename_i e' he;split at h
   .rename_i i z hz;split at h
    .rename_i hc;simp only[SH.mk.injEq]at h;obtain⟨rfl,h2,h3,h4,h5⟩:=h;exact⟨t,l,c,i,z,rfl,he,hz,h2,h3,h4,hc,h5⟩
    .cases h
   .cases h
  .cases h
 case call c=>
  obtain⟨callee,args,argTypes⟩:=c;cases callee
  case builtin b=>cases b<;>simp only[SC,cU]at h<;>(repeat' split at h)<;>cases h
  all_goals (simp only[SC,cU]at h;cases h)
 case unOp op t x=>cases op<;>simp only[SC,cU]at h<;>cases h
 case makeFunc f a b=>cases f<;>simp only[SC,cU]at h<;>(repeat' split at h)<;>cases h
 all_goals (simp only[SC,cU]at h;(repeat' split at h)<;>cases h)
def Bp{o:Op}{e sz bytes:Nat}{zv:V}{xa xb:VX}(h:SC P n o=.Yh e sz bytes zv xa xb):∃t tn kn x y args argTypes i z,o=.call { callee:=.builtin .append,args:=args,argTypes:=argTypes }/\
 args=#[x,y]/\argTypes=#[t,tn]/\P.underlying t=some (.slice e)/\P.underlying tn=some (.int kn)/\zeroOf P e=some (i,z)/\i.size=sz/\i.bytes=bytes/\ofValue z=zv/\cx n x=xa/\cx n y=xb:=by
 cases o
 case call c=>
  obtain⟨callee,args,argTypes⟩:=c;cases callee
  case value=>simp[SC]at h
  case invoke=>simp[SC]at h
  case builtin b=>
   cases b
   case append=>
    simp only[SC,cU]at h;split at h
    .rename_i x y t t' h1 h2;split at h
     .split at h
      .split at h<;>cases h
      .cases h
     .split at h
      .rename_i e' kn he hn;split at h
       .rename_i i z hz;simp only[SH.Yh.injEq]at h;obtain⟨rfl,h4,h5,h6,h7,h8⟩:=h;exact⟨t,t',kn,x,y,args,argTypes,i,z,rfl,by apply Array.ext';simpa using h1,by apply Array.ext';simpa using h2,he,hn,hz,h4,h5,h6,h7,h8⟩
       .cases h
      .split at h<;>cases h
      .cases h
    .cases h
   all_goals (simp only[SC,cU]at h;(repeat' split at h)<;>cases h)
 case unOp op t x=>cases op<;>simp only[SC,cU]at h<;>cases h
 case makeFunc f a b=>cases f<;>simp only[SC,cU]at h<;>(repeat' split at h)<;>cases h
 all_goals (simp only[SC,cU]at h;(repeat' split at h)<;>cases h)
def ur{o:Op}{e sz bytes:Nat}{xa xb:VX}(h:SC P n o=.append e sz bytes xa xb):∃t t' x y args argTypes i z,o=.call { callee:=.builtin .append,args:=args,argTypes:=argTypes }/\
 args=#[x,y]/\argTypes=#[t,t']/\(t'=t\/P.underlying t'=some .string)/\P.underlying t=some (.slice e)/\zeroOf P e=some (i,z)/\i.size=sz/\i.bytes=bytes/\cx n x=xa/\cx n y=xb:=by
 cases o
 case call c=>
  obtain⟨callee,args,argTypes⟩:=c;cases callee
  case value=>simp[SC]at h
  case invoke=>simp[SC]at h
  case builtin b=>
   cases b
   case append=>
    simp only[SC,cU]at h;split at h
    .rename_i x y t t' h1 h2;split at h
     .rename_i htt;subst htt;split at h
      .rename_i e' he;split at h
       .rename_i i z hz;simp only[SH.append.injEq]at h;obtain⟨rfl,h4,h5,h6,h7⟩:=h;exact⟨t,t,x,y,args,argTypes,i,z,rfl,by apply Array.ext';simpa using h1,by apply Array.ext';simpa using h2,.inl rfl,he,hz,h4,h5,h6,h7⟩
       .cases h
      .cases h
     .split at h
      .split at h<;>cases h
      .rename_i e' he hn;split at h
       .rename_i i z hz;simp only[SH.append.injEq]at h;obtain⟨rfl,h4,h5,h6,h7⟩:=h;exact⟨t,t',x,y,args,argTypes,i,z,rfl,by apply Array.ext';simpa using h1,by apply Array.ext';simpa using h2,.inr hn,he,hz,h4,h5,h6,h7⟩
       .cases h
      .cases h
    .cases h
   all_goals (simp only[SC,cU]at h;(repeat' split at h)<;>cases h)
 case unOp op t x=>cases op<;>simp only[SC,cU]at h<;>cases h
 case makeFunc f a b=>cases f<;>simp only[SC,cU]at h<;>(repeat' split at h)<;>cases h
 all_goals (simp only[SC,cU]at h;(repeat' split at h)<;>cases h)
def nO{o:Op}{f:VX}{xs:List VX}(h:SC P n o=.call f xs):∃f0 args argTypes,o=.call { callee:=.value f0,args:=args,argTypes:=argTypes }/\cx n f0=f/\args.toList.map (cx n)=xs:=by
 cases o
 case call c=>
  obtain⟨callee,args,argTypes⟩:=c;cases callee
  case value f0=>simp only[SC,SH.call.injEq]at h;exact⟨f0,args,argTypes,rfl,h.1,h.2⟩
  case invoke=>simp[SC]at h
  case builtin b=>cases b<;>simp only[SC,cU]at h<;>(repeat' split at h)<;>cases h
 case unOp op t x=>cases op<;>simp only[SC,cU]at h<;>cases h
 case makeFunc f a b=>cases f<;>simp only[SC,cU]at h<;>(repeat' split at h)<;>cases h
 all_goals (simp only[SC,cU]at h;(repeat' split at h)<;>cases h)
def Dq{o:Op}{e sz:Nat}{xv:VX}(h:SC P n o=.box e sz xv):∃x,o=.box e x/\cg P e=true/\P.cellsOf e=sz/\cx n x=xv:=by
 cases o
 case box t x=>
  simp only[SC,cU]at h;split at h
  .rename_i hk;simp only[SH.box.injEq]at h;obtain⟨rfl,h2,h3⟩:=h;exact⟨x,rfl,hk,h2,h3⟩
  .cases h
 case call c=>
  obtain⟨callee,args,argTypes⟩:=c;cases callee
  case builtin b=>cases b<;>simp only[SC,cU]at h<;>(repeat' split at h)<;>cases h
  all_goals (simp only[SC,cU]at h;cases h)
 case unOp op t x=>cases op<;>simp only[SC,cU]at h<;>cases h
 case makeFunc f a b=>cases f<;>simp only[SC,cU]at h<;>(repeat' split at h)<;>cases h
 all_goals (simp only[SC,cU]at h;(repeat' split at h)<;>cases h)
def Eb{o:Op}{sz:Nat}{z:V}{xv:VX}(h:SC P n o=.clear sz z xv):∃x t e args argTypes i zv,o=.call { callee:=.builtin .clear,args:=args,argTypes:=argTypes }/\
 args=#[x]/\argTypes[0]?=some t/\P.underlying t=some (.slice e)/\zeroOf P e=some (i,zv)/\i.size=sz/\ofValue zv=z/\cx n x=xv:=by
 cases o
 case call c=>
  obtain⟨callee,args,argTypes⟩:=c;cases callee
  case builtin b=>
   cases b
   case clear=>
    simp only[SC,cU]at h;split at h
    .rename_i x t h1 h2;split at h
     .rename_i e he;split at h
      .rename_i i zv hz;simp only[SH.clear.injEq]at h;exact⟨x,t,e,args,argTypes,i,zv,rfl,by apply Array.ext';simpa using h1,h2,he,hz,h.1,h.2.1,h.2.2⟩
      .cases h
     .cases h
    .cases h
   all_goals (simp only[SC,cU]at h;(repeat' split at h)<;>cases h)
  all_goals (simp only[SC,cU]at h;cases h)
 case unOp op t x=>cases op<;>simp only[SC,cU]at h<;>cases h
 case makeFunc f a b=>cases f<;>simp only[SC,cU]at h<;>(repeat' split at h)<;>cases h
 all_goals (simp only[SC,cU]at h;(repeat' split at h)<;>cases h)
def xe{F:Fr}{I:Mu}{a:Act}{w:World}(hs:dS F I st a w){o:Oper}{t:TypeId}{x:Operand}(Yi:o.op=.box t x)(hk:cg P t=true)
 (hx:((cx F.n x).ev st.s).cells.length=P.cellsOf t)(Sg:((cx F.n x).ev st.s).stays=true):
 ∃id,st.U id=none/\∃y w' Y',(execOp a.eval o).run P w=.ok (.value y) w'/\
  dS F Y' ⟨bb st.s (o.dst.filter (·<F.n)) (.ptr id 0 0),C' st.U id ⟨t,P.cellsOf t,[(cx F.n x).ev st.s]⟩⟩ (a.put o.dst y) w':=by
 have Ul:=(eS hk).2.2;obtain⟨g1,g2⟩:=(cO hs x).cells Sg;have hl:=(cO hs x).kx Sg;obtain⟨id,L',Y',h1,h2,h3,h4⟩:=hs.sat.renew (row:=none) (World.grownBy_alloc w (.cells (a.eval x).cells t) none) none (.inl rfl) w.heap.size (P.cellsOf t) 1 (a.eval x).cells t [(cx F.n x).ev st.s] (a.eval x).cells.toList (.inr (SD _))
  (heap_alloc_new w _) Ul (by omega) (by simp) (by simp[maxLen]) (by intro r hr;simp at hr;subst hr;exact hx)
  (by simp only[flat,yb,List.flatMap_nil,kr];exact g1) g2 (by intro j u hu;simpa using hu)
 refine⟨id,L',.pointer (some ⟨w.heap.size,0,none⟩),w.alloc (.cells (a.eval x).cells t),Y',?_,hs.step h3 h2 h4 (by simp) (by simp[E',h1];exact Ul)⟩;unfold execOp;rw[Yi];simp[Instr.box,newVar,newRow]
def fD{all:Array Oper}{o:Oper}{i:aU}(h:bO P n all o=i):SC P n o.op=i.op/\o.dst.filter (·<n)=i.dst:=by rw[<-h];exact⟨rfl,rfl⟩
def ay.alloc{i:aU}{l:List aU}{e sz:Nat}{z:V}(hw:bt st.s i.g=some true)(ho:i.op=.alloc e sz z)
 (h:∀id,st.U id=none->ay P n (.ops l::k) ⟨bb st.s i.dst (.ptr id 0 0),C' st.U id ⟨e,sz,[z]⟩⟩ Q):ay P n (.ops (i::l)::k) st Q:=by
 refine ay.ins (by rw[ho];simp) hw λF hn I a w o all hi hs next Q' R8=>?_
 subst hn;obtain⟨Sc,hd⟩:=fD hi;rw[ho]at Sc;obtain⟨ti,zv,h1,h2,rfl,rfl⟩:=wN Sc;obtain⟨id,L',x,w',Y',hx,Sj⟩:=sM hs h1 h2;unfold Oper.wp;rw[hx];refine R8 _ _ _ ⟨Y',?_⟩ (h id L');rw[<-hd];exact Sj
def ay.box{i:aU}{l:List aU}{e sz:Nat}{xv:VX}(hw:bt st.s i.g=some true)(ho:i.op=.box e sz xv)
 (hx:(xv.ev st.s).cells.length=sz)(Sg:(xv.ev st.s).stays=true)
 (h:∀id,st.U id=none->ay P n (.ops l::k) ⟨bb st.s i.dst (.ptr id 0 0),C' st.U id ⟨e,sz,[xv.ev st.s]⟩⟩ Q):ay P n (.ops (i::l)::k) st Q:=by
 refine ay.ins (by rw[ho];simp) hw λF hn I a w o all hi hs next Q' R8=>?_
 subst hn;obtain⟨Sc,hd⟩:=fD hi;rw[ho]at Sc;obtain⟨x,h1,h2,rfl,rfl⟩:=Dq Sc;obtain⟨id,L',y,w',Y',hy,Sj⟩:=xe hs h1 h2 hx Sg;unfold Oper.wp;rw[hy];refine R8 _ _ _ ⟨Y',?_⟩ (h id L');rw[<-hd];exact Sj
def ay.store{i:aU}{l:List aU}{sz:Nat}{xa xv:VX}(hw:bt st.s i.g=some true)(ho:i.op=.store sz xa xv)
 {id r0 c:Nat}(h1:xa.ev st.s=.ptr id r0 c){ob:Ob}(h2:st.U id=some ob){r r':V}(h3:ob.rows[r0]?=some r)(h4:cd r c sz (xv.ev st.s)=some r')
 (h:ay P n (.ops l::k) ⟨bb st.s i.dst (.Sa []),C' st.U id { ob with rows:=ob.rows.set r0 r' }⟩ Q):ay P n (.ops (i::l)::k) st Q:=by
 refine ay.ins (by rw[ho];simp) hw λF hn I a w o all hi hs next Q' R8=>?_
 subst hn;obtain⟨Sc,hd⟩:=fD hi;rw[ho]at Sc;obtain⟨t,x,y,g1,g2,rfl,rfl,rfl⟩:=w8 Sc;obtain⟨w',hx,Sj⟩:=sW hs g1 g2 h1 h2 h3 h4;unfold Oper.wp;rw[hx];refine R8 _ _ _ ⟨I,?_⟩ h;rw[<-hd];exact Sj
def ay.mkS{i:aU}{l:List aU}{e sz bytes:Nat}{zv:V}{xn:VX}(hw:bt st.s i.g=some true)(ho:i.op=.mk e sz bytes zv xn){m:Int}(hm:xn.ev st.s=.int .i64 m)
 (h0:0<=m)(hb:m.toNat*(bytes+1)<=140737488355328)
 (h:∀id,st.U id=none->ay P n (.ops l::k) ⟨bb st.s i.dst (.own id 0 m.toNat),C' st.U id ⟨e,sz,List.replicate m.toNat zv⟩⟩ Q):ay P n (.ops (i::l)::k) st Q:=by
 refine ay.ins (by rw[ho];simp) hw λF hn I a w o all hi hs next Q' R8=>?_
 subst hn;obtain⟨Sc,hd⟩:=fD hi;rw[ho]at Sc;obtain⟨t,l',c,ti,z,h1,h2,h3,rfl,rfl,rfl,h5,rfl⟩:=Fk Sc;obtain⟨id,L',x,w',Y',SE,Sj⟩:=At hs h1 h5 h2 h3 hm h0 hb;unfold Oper.wp;rw[SE];refine R8 _ _ _ ⟨Y',?_⟩ (h id L');rw[<-hd];exact Sj
def ay.MP{i:aU}{l:List aU}{e sz bytes:Nat}{zv:V}{xa xn:VX}(hw:bt st.s i.g=some true)(ho:i.op=.Yh e sz bytes zv xa xn)(hx:xa.ev st.s=.bl){kq:IntKind}{m:Int}(hm:xn.ev st.s=.int kq m)
 (h0:0<m)(hb:m.toNat*(bytes+1)<=140737488355328)
 (h:∀id,st.U id=none->ay P n (.ops l::k) ⟨bb st.s i.dst (.own id 0 m.toNat),C' st.U id ⟨e,sz,List.replicate m.toNat zv⟩⟩ Q):ay P n (.ops (i::l)::k) st Q:=by
 refine ay.ins (by rw[ho];simp) hw λF hn I a w o all hi hs next Q' R8=>?_
 subst hn;obtain⟨Sc,hd⟩:=fD hi;rw[ho]at Sc;obtain⟨t,tn,kn,x,y,args,argTypes,ti,z,h1,h2,h3,h4,h5,h6,rfl,rfl,rfl,rfl,rfl⟩:=Bp Sc;obtain⟨id,L',x,w',Y',SE,Sj⟩:=uH hs h1 h2 h3 h4 h5 h6 hx hm h0 hb;unfold Oper.wp;rw[SE];refine R8 _ _ _ ⟨Y',?_⟩ (h id L');rw[<-hd];exact Sj
def ay.iW{i:aU}{l:List aU}{e sz:Nat}{xs:List VX}(hw:bt st.s i.g=some true)(ho:i.op=.iW e sz xs)
 (hx:∀x∈xs.map (·.ev st.s),x.cells.length=sz/\x.stays=true)
 (h:∀id,st.U id=none->ay P n (.ops l::k) ⟨bb st.s i.dst (.own id 0 xs.length),C' st.U id ⟨e,sz,xs.map (·.ev st.s)⟩⟩ Q):ay P n (.ops (i::l)::k) st Q:=by
 refine ay.ins (by rw[ho];simp) hw λF hn I a w o all hi hs next Q' R8=>?_
 subst hn;obtain⟨Sc,hd⟩:=fD hi;rw[ho]at Sc;obtain⟨t,len,parts,ti,z,h1,h2,h3,rfl,h5,h6,rfl⟩:=uZ Sc;rw[List.map_map]at hx;obtain⟨id,L',x,w',Y',SE,Sj⟩:=qI hs h1 h2 h3 h5 h6 hx;unfold Oper.wp;rw[SE];refine R8 _ _ _ ⟨Y',?_⟩ (h id L');have hl:parts.size=len:=by have:=congrArg List.length h5;simpa using this
 simp only[dO,List.map_map,Array.length_toList,hl,<-hd];exact Sj
def ay.append{i:aU}{l:List aU}{e sz bytes:Nat}{xa xb:VX}(hw:bt st.s i.g=some true)(ho:i.op=.append e sz bytes xa xb)
 {base src:List V}{idA:Option Nat}(h1:bX st.U e sz (xa.ev st.s)=some (base,idA))(h2:cy st.U sz (xb.ev st.s)=some src)
 (hb:(base.length+src.length)*(bytes+1)<=140737488355328)
 (h:∀id,st.U id=none->ay P n (.ops l::k) ⟨bb st.s i.dst (.own id 0 (base.length+src.length)),C' (bW st.U idA) id ⟨e,sz,base++src⟩⟩ Q):
 ay P n (.ops (i::l)::k) st Q:=by
 refine ay.ins (by rw[ho];simp) hw λF hn I a w o all hi hs next Q' R8=>?_
 subst hn;obtain⟨Sc,hd⟩:=fD hi;rw[ho]at Sc;obtain⟨t,t',x,y,args,argTypes,ti,z,g1,g2,g3,g3',g4,g5,rfl,rfl,rfl,rfl⟩:=ur Sc;obtain⟨id,L',r,w',Y',hx,Sj⟩:=pU hs g1 g2 g3 g3' g4 g5 h1 h2 hb;unfold Oper.wp;rw[hx];refine R8 _ _ _ ⟨Y',?_⟩ (h id L');rw[<-hd];exact Sj
def gQ(P:Program)(f:FuncId):Bool:=match P.funcs[f]? with
 |some fn=>fn.name != "runtime.NumGoroutine"&&fn.body.isSome
 |none=>false
def mA{w:World}{f:FuncId}(h:gQ P f=true)(args:Array Value):(callFunc f args).run P w=.ok (.enter f args) w:=by
 unfold gQ at h;split at h
 .rename_i fn hf;simp only[Ba,bne_iff_ne,ne_eq]at h;cases hb:fn.body with
  |none=>simp[hb]at h
  |some c=>simp[callFunc,hf,h.1,hb]
 .cases h
def aG(P:Program)(f:FuncId)(args:List V)(U:al)(Post:V->al->Prop):Prop:=gQ P f=true/\sC P f args U Post
def aG.mono{f:FuncId}{args:List V}{U:al}{Post Ws:V->al->Prop}(h:aG P f args U Post)(hp:∀r Z',Post r Z'->Ws r Z'):
 aG P f args U Ws:=⟨h.1,h.2.mono hp⟩
def aB.app{I:Mu}{ow:Nat->Prop}{w:World}{vs us:List V}{l m:List Value}(h:aB I ow w vs l)(h':aB I ow w us m):aB I ow w (vs++us) (l++m):=h.append h'
def pK{F:Fr}{I:Mu}{a:Act}{w:World}(hs:dS F I st a w){o:Oper}{f0:Operand}{args:Array Operand}{argTypes:Array TypeId}
 (Yi:o.op=.call { callee:=.value f0,args:=args,argTypes:=argTypes }){f:FuncId}{caps:List V}(hf:(cx F.n f0).ev st.s=.fn f caps)
 {Post:V->al->Prop}(hc:aG P f ((args.toList.map (cx F.n)).map (·.ev st.s)++caps) st.U Post){next:Act->World->Prop}{Q':Exit->Act->World->Prop}
 (R8:∀r Z',Post r Z'->∀a' w',fB F ⟨bb st.s (o.dst.filter (·<F.n)) r,Z'⟩ a' w'->next a' w'):o.wp P a w next Q':=by
 have W4:=cO hs f0;rw[hf]at W4;simp only[E']at W4;obtain⟨cvals,hfv,hcr⟩:=W4;have Tq:=(ou hs args.toList).app hcr;have SQ:(execOp a.eval o).run P w=.ok (.enter f ((args.toList.map a.eval++cvals).toArray)) w:=by
  unfold execOp;rw[Yi];simp only[resolve,hfv,Deferred.ofValue,Sem.run_bind,Sem.run_pure,Result.andThen_ok,invoke,mA hc.1];congr 2;apply Array.ext';simp
 unfold Oper.wp;rw[SQ];simp only[Oper.upon];have UD:Sat w (aO I st.U) I st.U w:=by
  have h:=hs.sat;exact⟨SD _,rfl,rfl,rfl,λ_ _ _=>rfl,h.fin,h.inj,h.obj,λb hb _=>hb,h.ns⟩
 refine(hc.2 I w _ UD Tq).mono ?_;rintro e w' ⟨r,Z',Y',val,rfl,hp,hle,Sj,hr⟩;refine R8 r Z' hp _ _ ⟨Y',?_⟩;have UC:dB (aO I st.U) (aO Y' Z') w w':=λb hb hn=>⟨λho=>hn (Sj.fresh b ho hb),Sj.same b hb hn⟩
 have h0:=hs.sat;have SO:Sat F.w0 F.Tg Y' Z' w':=by
  refine⟨mN h0.size Sj.size,Sj.os.trans h0.os,Sj.tape.trans h0.tape,Sj.output.trans h0.output,?_,Sj.fin,Sj.inj,Sj.obj,?_,h0.Va⟩
  .intro b hb hn;have h1:¬aO I st.U b:=λho=>hn (h0.fresh b ho hb);rw[Sj.same b (Nat.lt_of_lt_of_le hb h0.size) h1,h0.same b hb hn]
  .intro b hb u';have h1:=Sj.fresh b hb (Nat.lt_of_lt_of_le u' h0.size);exact h0.fresh b h1 u'
 exact hs.step SO hle UC Sj.size hr
def ay.call{i:aU}{l:List aU}{fx:VX}{xs:List VX}(hw:bt st.s i.g=some true)(ho:i.op=.call fx xs){f:FuncId}{caps:List V}(hf:fx.ev st.s=.fn f caps)
 {Post:V->al->Prop}(hc:aG P f (xs.map (·.ev st.s)++caps) st.U Post)
 (h:∀r Z',Post r Z'->ay P n (.ops l::k) ⟨bb st.s i.dst r,Z'⟩ Q):ay P n (.ops (i::l)::k) st Q:=by
 refine ay.ins (by rw[ho];simp) hw λF hn I a w o all hi hs next Q' R8=>?_
 subst hn;obtain⟨Sc,hd⟩:=fD hi;rw[ho]at Sc;obtain⟨f0,args,argTypes,g1,rfl,rfl⟩:=nO Sc;refine pK hs g1 hf hc λr Z' hp a' w' Sj=>R8 _ a' w' Sj ?_;rw[hd];exact h r Z' hp
def AO{F:Fr}{I:Mu}{a:Act}{w:World}(hs:dS F I st a w){o:Oper}{f0:Operand}{args:Array Operand}{argTypes:Array TypeId}
 (Yi:o.op=.call { callee:=.value f0,args:=args,argTypes:=argTypes }){f:FuncId}{first:List V}(hf:(cx F.n f0).ev st.s=.bm f first)
 {Post:V->al->Prop}(hc:aG P f (first++(args.toList.map (cx F.n)).map (·.ev st.s)) st.U Post){next:Act->World->Prop}{Q':Exit->Act->World->Prop}
 (R8:∀r Z',Post r Z'->∀a' w',fB F ⟨bb st.s (o.dst.filter (·<F.n)) r,Z'⟩ a' w'->next a' w'):o.wp P a w next Q':=by
 have W4:=cO hs f0;rw[hf]at W4;simp only[E']at W4;obtain⟨cvals,hfv,hcr⟩:=W4;have Tq:=hcr.app (ou hs args.toList);have SQ:(execOp a.eval o).run P w=.ok (.enter f ((cvals++args.toList.map a.eval).toArray)) w:=by
  unfold execOp;rw[Yi];simp only[resolve,hfv,Deferred.ofValue,Sem.run_bind,Sem.run_pure,Result.andThen_ok,invoke,mA hc.1];congr 2;apply Array.ext';simp
 unfold Oper.wp;rw[SQ];simp only[Oper.upon];have UD:Sat w (aO I st.U) I st.U w:=by
  have h:=hs.sat;exact⟨SD _,rfl,rfl,rfl,λ_ _ _=>rfl,h.fin,h.inj,h.obj,λb hb _=>hb,h.ns⟩
 refine(hc.2 I w _ UD Tq).mono ?_;rintro e w' ⟨r,Z',Y',val,rfl,hp,hle,Sj,hr⟩;refine R8 r Z' hp _ _ ⟨Y',?_⟩;have UC:dB (aO I st.U) (aO Y' Z') w w':=λb hb hn=>⟨λho=>hn (Sj.fresh b ho hb),Sj.same b hb hn⟩
 have h0:=hs.sat;have SO:Sat F.w0 F.Tg Y' Z' w':=by
  refine⟨mN h0.size Sj.size,Sj.os.trans h0.os,Sj.tape.trans h0.tape,Sj.output.trans h0.output,?_,Sj.fin,Sj.inj,Sj.obj,?_,h0.Va⟩
  .intro b hb hn;have h1:¬aO I st.U b:=λho=>hn (h0.fresh b ho hb);rw[Sj.same b (Nat.lt_of_lt_of_le hb h0.size) h1,h0.same b hb hn]
  .intro b hb u';have h1:=Sj.fresh b hb (Nat.lt_of_lt_of_le u' h0.size);exact h0.fresh b h1 u'
 exact hs.step SO hle UC Sj.size hr
def ay.mR{i:aU}{l:List aU}{fx:VX}{xs:List VX}(hw:bt st.s i.g=some true)(ho:i.op=.call fx xs){f:FuncId}{first:List V}(hf:fx.ev st.s=.bm f first)
 {Post:V->al->Prop}(hc:aG P f (first++xs.map (·.ev st.s)) st.U Post)
 (h:∀r Z',Post r Z'->ay P n (.ops l::k) ⟨bb st.s i.dst r,Z'⟩ Q):ay P n (.ops (i::l)::k) st Q:=by
 refine ay.ins (by rw[ho];simp) hw λF hn I a w o all hi hs next Q' R8=>?_
 subst hn;obtain⟨Sc,hd⟩:=fD hi;rw[ho]at Sc;obtain⟨f0,args,argTypes,g1,rfl,rfl⟩:=nO Sc;refine AO hs g1 hf hc λr Z' hp a' w' Sj=>R8 _ a' w' Sj ?_;rw[hd];exact h r Z' hp
inductive VR where
 |tmp (x:VX)
 |cell (agg:Bool) (sz:Nat) (x:VX)
 |bad
def y6(P:Program)(n:Nat):ResultVar->VR
 |.tmp t=>.tmp (cx n (.tmp t))
 |.cell t ty=>if cg P ty then .cell (fX P ty) (P.cellsOf ty) (cx n (.tmp t))else .bad
def jA(st:St):VR->Option V
 |.tmp x=>some (x.ev st.s)
 |.cell agg sz x=>dr st.U agg sz (x.ev st.s)
 |.bad=>none
def iT(st:St):List VR->Option (List V)
 |[]=>some []
 |r::rs=>match jA st r with
   |some v=>match iT st rs with
    |some vs=>some (v::vs)
    |none=>none
   |none=>none
def tk(st:St)(l:List VR):Option V:=match iT st l with
 |some [v]=>some v
 |some vs=>some (.Sa vs)
 |none=>none
def WT(l:List VR)(st:St)(Post:V->al->Prop):Prop:=
 ∃v v' Z',tk st l=some v/\aa Z' st.U/\Wk st.U Z' v v'/\Post v' Z'
structure RY where
 n:Nat
 code:bV
 res:List VR
def cfn(P:Program)(fn:Func):Option RY:=match fn.body with
 |some c=>some ⟨fn.ntmps,ep P fn.ntmps c,fn.results.toList.map (y6 P fn.ntmps)⟩
 |none=>none
def yI(tmps:Array Value):ResultVar->Go.Sem Value
 |.tmp t=>pure (tmps.getD t undef)
 |.cell b t=>do loadVar t (<-asAddr (tmps.getD b undef))
def Cc(fn:Func)(tmps:Array Value):results fn tmps=(do
 let vs <-Functor.map List.toArray (fn.results.toList.mapM (yI tmps))
 pure (if h:vs.size=1 then vs[0]else .tuple vs)):=by
 unfold results;rw[Array.mapM_eq_mapM_toList];congr 3
def yM{F:Fr}{I:Mu}{a:Act}{w:World}(hs:dS F I st a w)(r:ResultVar){v:V}(h:jA st (y6 P F.n r)=some v):
 ∃x,(yI a.tmps r).run P w=.ok x w/\E' I (aO I st.U) w v x:=by
 cases r with
 |tmp t=>
  simp only[y6,jA,bh]at h;subst h;exact⟨_,rfl,cO hs (.tmp t)⟩
 |cell b t=>
  simp only[y6]at h;split at h
  .rename_i hk;simp only[jA]at h;have hx:=cO hs (.tmp b);obtain⟨z,h1,h2⟩:=xr (P:=P) hs.sat hk hx h;refine⟨z,?_,h2⟩;have he:a.eval (.tmp b)=a.tmps.getD b undef:=rfl;rw[he]at h1;simp only[Instr.loadAt,Sem.run_bind]at h1;simp only[yI,Sem.run_bind];generalize a.tmps.getD b undef=u at*;cases u<;>simp[Instr.sureAddr]at h1;rename_i p;cases p<;>simp[asAddr]at h1|-;exact h1
  .simp[jA]at h
def wi{F:Fr}{I:Mu}{a:Act}{w:World}(hs:dS F I st a w)(fn:Func){v:V}(h:tk st (fn.results.toList.map (y6 P F.n))=some v):
 ∃x,(results fn a.tmps).run P w=.ok x w/\E' I (aO I st.U) w v x:=by
 have key:∀(l:List ResultVar) (vs:List V),iT st (l.map (y6 P F.n))=some vs->
  ∃xs,(l.mapM (yI a.tmps)).run P w=.ok xs w/\aB I (aO I st.U) w vs xs:=by
  intro l
  induction l with
  |nil=>intro vs h;simp only[List.map_nil,iT,bh]at h;subst h;exact⟨[],rfl,by simp[aB]⟩
  |cons r l ih=>
   intro vs h;simp only[ga,iT]at h;split at h
   .rename_i v hv;split at h
    .rename_i vs' hvs;simp only[bh]at h;subst h;obtain⟨x,h1,h2⟩:=yM (P:=P) hs r hv;obtain⟨xs,h3,h4⟩:=ih vs' hvs;refine⟨x::xs,?_,by simp only[aB];exact⟨x,xs,rfl,h2,h4⟩⟩;rw[List.mapM_cons];simp only[Sem.run_bind];rw[h1];simp only[Result.andThen_ok];rw[h3];simp
    .cases h
   .cases h
 unfold tk at h;cases TI:iT st (fn.results.toList.map (y6 P F.n))with
 |none=>simp[TI]at h
 |some vs=>
  obtain⟨xs,h1,h2⟩:=key _ _ TI;have SQ:(results fn a.tmps).run P w=.ok (if hl:xs.toArray.size=1 then xs.toArray[0]else .tuple xs.toArray) w:=by
   rw[Cc];simp only[Sem.run_bind,Sem.run_map];rw[h1];simp
  rw[TI]at h
  match vs,h,h2 with
  |[],h,h2=>
   simp only[aB]at h2;subst h2;simp only[bh]at h;subst h;exact⟨_,SQ,by simp[E',aB]⟩
  |[u],h,h2=>
   simp only[aB]at h2;obtain⟨x,xs',rfl,h3,rfl⟩:=h2;simp only[bh]at h;subst h;exact⟨_,SQ,by simpa using h3⟩
  |u1::u2::us,h,h2=>
   simp only[bh]at h;subst h;have hlen:=h2.length;refine⟨_,SQ,?_⟩;rw[dif_neg (by simp[hlen])];simp only[E'];exact⟨xs,rfl,h2⟩
def bH(args:List V):Nat->V:=λi=>args.getD i (.Sa [])
def dS.Lj{F:Fr}{I:Mu}{a:Act}{w:World}(hs:dS F I st a w){d:Deferred}{ds:List Deferred}(hd:a.defers=d::ds):
 ∃D w',d.target=.collected D/\(Instr.takeDeferred D).run P w=.ok [] w'/\dS F I st { a with defers:=ds } w':=by
 obtain⟨Ds,h1,h2,h3⟩:=hs.book.marks;rw[hd]at h1;cases Ds with
 |nil=>simp at h1
 |cons D Ds=>
  simp only[ga,List.cons.injEq]at h1;obtain⟨rfl,rfl⟩:=h1;obtain⟨g1,g2,g3⟩:=h3 D (by simp);simp only[List.nodup_cons]at h2;refine⟨D,w.putObj D (.deferred none),rfl,run_takeDeferred g2,?_⟩;have Sh:∀b,b≠D->(w.putObj D (.deferred none)).heap[b]?=w.heap[b]?:=λb hb=>World.putObj_heap_other hb;have hk:rA (aO I st.U) (aO I st.U) w (w.putObj D (.deferred none)):=λb _ hn=>⟨hn,λoff x hx=>by
   by_cases hb:b=D
   .subst hb;simp[World.cell?,g2]at hx
   .exact fJ (Sh b hb) off x hx⟩
  have hz:w.heap.size<=(w.putObj D (.deferred none)).heap.size:=by simp
  refine⟨⟨by simpa using hs.sat.size,hs.sat.os,hs.sat.tape,hs.sat.output,λb hb hn=>(Sh b (by omega)).trans (hs.sat.same b hb hn),hs.sat.fin,hs.sat.inj,λid o ho=>?_,hs.sat.fresh,hs.sat.Va⟩,
   hs.le,hs.size,⟨λl r e=>?_,Ds,rfl,h2.2,λD' hD'=>?_⟩,λi hi=>E'.bY (dG.refl I) hk hz _ _ (hs.slot i hi)⟩
  .refine(hs.sat.obj id o ho).bY (dG.refl I) hk hz λb sz cap hp=>Sh b ?_;rintro rfl;exact g3 ⟨id,o,sz,cap,ho,hp⟩
  .obtain⟨q1,q2⟩:=hs.book.rnd l r e;refine⟨(Sh l ?_).trans q1,q2⟩;rintro rfl;rw[g2]at q1;cases q1
  .obtain⟨q1,q2,q3⟩:=h3 D' (by simp[hD']);refine⟨q1,(Sh D' ?_).trans q2,q3⟩;rintro rfl;exact h2.1 hD'
def wF{F:Fr}{I:Mu}{fn:Func}{R:Ending->World->Prop}:∀(ds:List Deferred) (a:Act) (w:World),a.defers=ds->dS F I st a w->
 (∀a' w',a'.tmps=a.tmps->dS F I st a' w'->∃v,(results fn a'.tmps).run P w'=.ok v w'/\R (.returned v) w')->LeavesInM F.fo 0 P fn a.tmps R ds .returning w
 |[],a,w,_,hs,h=>by
  obtain⟨v,h1,h2⟩:=h a w rfl hs;exact⟨v,h1,h2⟩
 |d::ds,a,w,hd,hs,h=>by
  obtain⟨D,w',h1,h2,h3⟩:=hs.Lj (P:=P) hd;exact⟨by simp,.inl ⟨D,w',h1,h2,wF ds { a with defers:=ds } w' rfl h3 (λa' w' e Sj=>h a' w' e Sj)⟩⟩
def sC.oq{f:FuncId}{fn:Func}{vf:RY}(hf:P.funcs[f]?=some fn)(hv:cfn P fn=some vf){args:List V}{U:al}{Post:V->al->Prop}(hlen:args.length<=vf.n)
 (h:ay P vf.n [.code vf.code] ⟨bH args,U⟩ λst=>WT vf.res st Post):sC P f args U Post:=by
 intro I w R6 UD hr;unfold cfn at hv;cases hb:fn.body with
 |none=>simp[hb]at hv
 |some c=>
  simp only[hb,bh]at hv;subst hv;simp only at h hlen;have hl:=hr.length;refine callsIn_wide.1 (callsIn_of_wp_marks (n:=0) hf hb trivial ?_ rfl);have hs:dS ⟨w,aO I U,I,fn.ntmps,none⟩ I ⟨bH args,U⟩ { tmps:=R6.toArray++Array.replicate (fn.ntmps-R6.toArray.size) undef,defers:=[] } w:=by
   refine⟨UD,dG.refl I,by simp;omega,⟨λ_ _ e=>by simp at e,[],rfl,.nil,by simp⟩,λi hi=>?_⟩;simp only[bH];by_cases u':i<args.length
   .have hv:args[i]?=some (args.getD i (.Sa [])):=by simp[List.getD,V7 u']
    obtain⟨x,hx,hrx⟩:=hr.get hv;rw[VJ,Array.getElem?_append_left (by simp;omega)];simp only[List.getElem?_toArray,hx,Option.getD_some];exact hrx
   .have hv:args.getD i (.Sa [])=.Sa []:=by simp[List.getD,tm (Nat.le_of_not_lt u')]
    rw[hv,VJ,Array.getElem?_append_right (by simp;omega)];simp only[E'];refine⟨[],?_,by simp[aB]⟩;rw[Array.getElem?_replicate];split<;>rfl
  have Uu:=h ⟨w,aO I U,I,fn.ntmps,none⟩ rfl [.code c] rfl _ w ⟨I,hs⟩;refine wpIn_mono (F:=Fence.wide) Uu ?_;rintro e a' w' ⟨he,st,⟨v,v',Z',WE,G',hwk,hpost⟩,Y',Sj⟩;have SO:LeavesInM Fence.wide 0 P fn a'.tmps (λe w'=>∃r Z' Y' val,e=Ending.returned val/\Post r Z'/\dG I Y'/\Sat w (aO I U) Y' Z' w'/\E' Y' (aO Y' Z') w' r val) a'.defers .returning w':=by
   refine wF (F:=⟨w,aO I U,I,fn.ntmps,none⟩) a'.defers a' w' rfl Sj λa1 w1 _ TJ=>?_;obtain⟨x,hx,hrx⟩:=wi (P:=P) TJ fn WE;exact⟨x,hx,v',Z',Y',x,rfl,hpost,TJ.le,TJ.sat.drop G',hwk Y' _ _ _ _ TJ.sat hrx⟩
  rcases he with rfl|rfl<;>exact SO
def aG.oq{f:FuncId}{fn:Func}{vf:RY}(hf:P.funcs[f]?=some fn)(hv:cfn P fn=some vf)(Tr:gQ P f=true){args:List V}{U:al}{Post:V->al->Prop}(hlen:args.length<=vf.n)
 (h:ay P vf.n [.code vf.code] ⟨bH args,U⟩ λst=>WT vf.res st Post):aG P f args U Post:=⟨Tr,.oq hf hv hlen h⟩
structure Fo(P:Program)(f:FuncId)(fn:Func)(vf:RY):Prop where
 a:P.funcs[f]?=some fn
 b:cfn P fn=some vf:=by kernel_rfl
 c:gQ P f=true:=by kernel_rfl
def Fo.r{P:Program}{f:FuncId}{fn:Func}{vf:RY}(h:Fo P f fn vf){args:List V}{U:al}{Post:V->al->Prop}(hlen:args.length<=vf.n)
 (k:ay P vf.n [.code vf.code] ⟨bH args,U⟩ λst=>WT vf.res st Post):aG P f args U Post:=aG.oq h.a h.b h.c hlen k
def Fo.q{P:Program}{f:FuncId}{fn:Func}{vf:RY}(h:Fo P f fn vf){args:List V}{U:al}{Post:V->al->Prop}(k:ay P vf.n [.code vf.code] ⟨bH args,U⟩ λst=>WT vf.res st Post)
 (hlen:Nat.ble args.length vf.n=true:=by exact rfl):aG P f args U Post:=h.r (Nat.le_of_ble_eq_true hlen) k
variable {P:Program} {n:Nat}
def cB(U:al)(sz:Nat)(xa xv:V):Option al:=
 match xa with
 |.ptr id i c=>match U id with
  |some ob=>match ob.rows[i]? with
   |some r=>match cd r c sz xv with
    |some r'=>some (C' U id ⟨ob.elem,ob.sz,ob.rows.set i r'⟩)
    |none=>none
   |none=>none
  |none=>none
 |_=>none
def Ty(s:Nat->V)(U:al):SH->Option (Nat->V×al)
 |.alloc e sz z=>some λid=>(.ptr id 0 0,C' U id ⟨e,sz,[z]⟩)
 |.box e sz x=>if(x.ev s).cells.length=sz/\(x.ev s).stays=true then some λid=>(.ptr id 0 0,C' U id ⟨e,sz,[x.ev s]⟩)else none
 |.iW e sz xs=>if(xs.map (·.ev s)).all (λx=>decide (x.cells.length=sz)&&x.stays)then some λid=>(.own id 0 xs.length,C' U id ⟨e,sz,xs.map (·.ev s)⟩)else none
 |.append e sz bytes xa xb=>match bX U e sz (xa.ev s),cy U sz (xb.ev s)with
  |some (base,idA),some src=>if(base.length+src.length)*(bytes+1)<=140737488355328 then
     some λid=>(.own id 0 (base.length+src.length),C' (bW U idA) id ⟨e,sz,base++src⟩)else none
  |_,_=>none
 |.mk e sz bytes z x=>match x.ev s with
  |.int .i64 m=>if 0<=m/\m.toNat*(bytes+1)<=140737488355328 then some λid=>(.own id 0 m.toNat,C' U id ⟨e,sz,List.replicate m.toNat z⟩)else none
  |_=>none
 |.Yh e sz bytes z y x=>match y.ev s,x.ev s with
  |.bl,.int _ m=>if 0<m/\m.toNat*(bytes+1)<=140737488355328 then some λid=>(.own id 0 m.toNat,C' U id ⟨e,sz,List.replicate m.toNat z⟩)else none
  |_,_=>none
 |_=>none
def TO(P:Program)(dst:Option Nat)(op:SH)(x:St)(K:St->Prop):Prop:=
 match bp op with
 |0=>fW x.s op/\∃v,aV x.U x.s op=some v/\K ⟨bb x.s dst v,x.U⟩
 |1=>match op with
  |.call fx xs=>∃f caps v,fx.ev x.s=.fn f caps/\(∀Z1,aa x.U Z1->aG P f (xs.map (·.ev x.s)++caps) Z1 (λr Z'=>r=v/\Z'=Z1))/\K ⟨bb x.s dst v,x.U⟩
  |_=>False
 |2=>match op with
  |.store sz xa xv=>∃Z',cB x.U sz (xa.ev x.s) (xv.ev x.s)=some Z'/\K ⟨bb x.s dst (.Sa []),Z'⟩
  |_=>False
 |3=>∃g,Ty x.s x.U op=some g/\∀id,x.U id=none->K ⟨bb x.s dst (g id).1,(g id).2⟩
 |_=>False
def T(P:Program)(i:aU)(x:St)(K:St->Prop):Prop:=
 match bt x.s i.g with
 |some true=>TO P i.dst i.op x K
 |some false=>K ⟨bb x.s i.dst (.Sa []),x.U⟩
 |none=>False
def TO.mono{dst:Option Nat}{op:SH}{x:St}{K K':St->Prop}(hk:∀x,K x->K' x)(h:TO P dst op x K):TO P dst op x K':=by
 unfold TO at*;split<;>rename_i ho<;>simp only[ho]at h
 .obtain⟨h1,v,h2,h3⟩:=h;exact⟨h1,v,h2,hk _ h3⟩
 .split at h
  .obtain⟨f,caps,v,h1,h2,h3⟩:=h;exact⟨f,caps,v,h1,h2,hk _ h3⟩
  .exact h.elim
 .split at h
  .obtain⟨Z',h1,h2⟩:=h;exact⟨Z',h1,hk _ h2⟩
  .exact h.elim
 .obtain⟨g,h1,h2⟩:=h;exact⟨g,h1,λid L'=>hk _ (h2 id L')⟩
def T.mono{i:aU}{x:St}{K K':St->Prop}(hk:∀x,K x->K' x)(h:T P i x K):T P i x K':=by
 unfold T at*;split<;>rename_i ho<;>simp only[ho]at h
 .exact h.mono hk
 .exact hk _ h
def WG(U:al):Prop:=∀N,∃id,N<=id/\U id=none
def WG.C'{U:al}(h:WG U)(id:Nat)(o:Ob):WG (C' U id o):=λN=>by
 obtain⟨i,h1,h2⟩:=h (max N (id+1));exact⟨i,by omega,by simp[Vc.C',show i≠id by omega,h2]⟩
def WG.bW{U:al}(h:WG U)(o:Option Nat):WG (bW U o):=λN=>by
 obtain⟨i,h1,h2⟩:=h N;refine⟨i,h1,?_⟩;cases o with
 |none=>exact h2
 |some j=>simp only[Vc.bW,del];split<;>simp_all
def fB.inf{F:Fr}{st:St}{a:Act}{w:World}(h:fB F st a w):WG st.U:=by
 obtain⟨I,h⟩:=h;obtain⟨N,hN⟩:=h.sat.fin;intro M;refine⟨max N M,by omega,?_⟩;cases ho:st.U (max N M)with
 |none=>rfl
 |some o=>
  have:=h.sat.obj _ o ho;rw[hN _ (by omega)]at this;exact this.elim
def Ji{s:Nat->V}{U:al}(h:WG U){op:SH}{g:Nat->V×al}(he:Ty s U op=some g)(id:Nat):WG (g id).2:=by
 unfold Ty at he;split at he
 .simp only[bh]at he;subst he;exact h.C' _ _
 .split at he
  .simp only[bh]at he;subst he;exact h.C' _ _
  .cases he
 .split at he
  .simp only[bh]at he;subst he;exact h.C' _ _
  .cases he
 .split at he
  .split at he
   .simp only[bh]at he;subst he;exact(h.bW _).C' _ _
   .cases he
  .cases he
 .split at he
  .split at he
   .simp only[bh]at he;subst he;exact h.C' _ _
   .cases he
  .cases he
 .split at he
  .split at he
   .simp only[bh]at he;subst he;exact h.C' _ _
   .cases he
  .cases he
 .cases he
def B1{U Z':al}(h:WG U){sz:Nat}{a v:V}(he:cB U sz a v=some Z'):WG Z':=by
 unfold cB at he;split at he
 .split at he
  .split at he
   .split at he
    .simp only[bh]at he;subst he;exact h.C' _ _
    .cases he
   .cases he
  .cases he
 .cases he
def TO.inf{dst:Option Nat}{op:SH}{x:St}{K:St->Prop}(hi:WG x.U)(h:TO P dst op x K):TO P dst op x λx'=>WG x'.U/\K x':=by
 unfold TO at*;split<;>rename_i ho<;>simp only[ho]at h
 .obtain⟨h1,v,h2,h3⟩:=h;exact⟨h1,v,h2,hi,h3⟩
 .split at h
  .obtain⟨f,caps,v,h1,h2,h3⟩:=h;exact⟨f,caps,v,h1,h2,hi,h3⟩
  .exact h.elim
 .split at h
  .obtain⟨Z',h1,h2⟩:=h;exact⟨Z',h1,B1 hi h1,h2⟩
  .exact h.elim
 .obtain⟨g,h1,h2⟩:=h;exact⟨g,h1,λid L'=>⟨Ji hi h1 id,h2 id L'⟩⟩
def T.inf{i:aU}{x:St}{K:St->Prop}(hi:WG x.U)(h:T P i x K):T P i x λx'=>WG x'.U/\K x':=by
 unfold T at*;split<;>rename_i ho<;>simp only[ho]at h
 .exact h.inf hi
 .exact⟨hi,h⟩
def Fs{s:Nat->V}{d:Option Nat}{v:V}{x:VX}(h:∀t,d=some t->x.IP≠some t):x.ev (bb s d v)=x.ev s:=by
 cases d with
 |none=>rfl
 |some t=>
  cases x with
  |c _=>rfl
  |t u=>
   simp only[VX.ev,bb];have:=h t rfl;simp only[VX.IP,ne_eq,bh]at this;rw[aK this]
def qV{s s':Nat->V}{l:List VX}(h:∀x∈l,x.ev s=x.ev s'):l.map (·.ev s)=l.map (·.ev s'):=List.map_congr_left h
def qG{s s':Nat->V}{l:Option VX}(h:∀x∈l.toList,x.ev s=x.ev s'):l.map (·.ev s)=l.map (·.ev s'):=by
 cases l with
 |none=>rfl
 |some x=>simp[h x (by simp)]
def rY{s s':Nat->V}{U:al}{op:SH}(h:∀x∈op.xs,x.ev s=x.ev s'):aV U s op=aV U s' op/\(fW s op↔fW s' op):=by
 cases op<;>simp only[SH.xs,ew,List.not_mem_nil,or_false,forall_eq_or_imp,forall_eq,gl]at h<;>
  simp only[aV,fW,h,and_true,and_self]
 case slice U5 x lo hi mx=>
  rw[qG (l:=lo) (λy hy=>h.2 y (.inl (.inl hy))),qG (l:=hi) (λy hy=>h.2 y (.inl (.inr hy))),qG (l:=mx) (λy hy=>h.2 y (.inr hy))]
 case Yf x lo hi=>
  rw[qG (l:=lo) (λy hy=>h.2 y (.inl hy)),qG (l:=hi) (λy hy=>h.2 y (.inr hy))]
 case mkfn f xs=>rw[qV h]
 case more m xs=>
  by_cases hb:∃f,m=.mkB f
  .obtain⟨f,rfl⟩:=hb;have e:=qV h;cases xs with
   |nil=>rfl
   |cons x xs=>cases xs<;>exact congrArg (λl=>some (V.bm f l)) e
  cases xs with
  |nil=>cases m<;>rfl
  |cons x xs=>
   have hx:=h x (by simp);cases xs with
   |nil=>cases m<;>first|rfl|exact absurd ⟨_,rfl⟩ hb|simp only[hx]
   |cons y ys=>cases m<;>first|rfl|exact absurd ⟨_,rfl⟩ hb
 case build z ps=>
  have:(ps.map λp=>(p.1,p.2.1,p.2.2.ev s))=ps.map λp=>(p.1,p.2.1,p.2.2.ev s'):=List.map_congr_left λp hp=>by
   rw[h _ (iE.2 ⟨p,hp,rfl⟩)]
  rw[this]
def gx{s s':Nat->V}{U:al}{op:SH}(h:∀x∈op.xs,x.ev s=x.ev s'):Ty s U op=Ty s' U op:=by
 cases op<;>simp only[SH.xs,ew,List.not_mem_nil,or_false,forall_eq_or_imp,forall_eq,gl]at h<;>
  simp only[Ty,h]
 case iW e sz xs=>rw[qV h]
def Ai{s:Nat->V}{U Z':al}{op:SH}(h:lp op=true):aV U s op=aV Z' s op:=by
 cases op
 case more m xs=>
  cases xs with
  |nil=>cases m<;>rfl
  |cons x xs=>cases xs<;>cases m<;>rfl
 all_goals first|rfl|simp[lp]at h
variable {P:Program} {n:Nat}
def apart_spec{A B:aU}(h:Cj A B=true):(∀d,A.dst=some d->d∉B.l3)/\(∀d,B.dst=some d->d∉A.l3)/\(∀d,A.dst=some d->B.dst≠some d):=by
 simp only[Cj,Ba]at h;obtain⟨h1,h2⟩:=h;refine⟨λd hd=>?_,λd hd=>?_,λd hd=>?_⟩
 .rw[hd]at h1;simp at h1;exact h1.1
 .rw[hd]at h2;simpa using h2
 .rw[hd]at h1;simp at h1;exact h1.2
def Ea{s:Nat->V}{a b:Option Nat}{u v:V}(h:∀d,a=some d->b≠some d):bb (bb s a u) b v=bb (bb s b v) a u:=by
 cases a with
 |none=>rfl
 |some x=>
  cases b with
  |none=>rfl
  |some y=>
   have Sh:y≠x:=λe=>h x rfl (by rw[e]);funext i;simp only[bb];by_cases h1:i=y<;>by_cases h2:i=x<;>simp_all
def Da{i:aU}{x:VX}(hx:x∈i.op.xs){t:Nat}(ht:x.IP=some t):t∈i.l3:=
 List.mem_filterMap.2 ⟨x,List.mem_append_left _ hx,ht⟩
def iP{i:aU}{d:Option Nat}{v:V}(h:∀t,d=some t->t∉i.l3)(s:Nat->V):∀x∈i.op.xs,x.ev (bb s d v)=x.ev s:=
 λ_ hx=>Fs λt ht e=>h t ht (Da hx e)
def cI{i:aU}{d:Option Nat}{v:V}(h:∀t,d=some t->t∉i.l3)(s:Nat->V):bt (bb s d v) i.g=bt s i.g:=by
 cases hg:i.g with
 |none=>rfl
 |some g=>
  obtain⟨x,b⟩:=g;have:x.ev (bb s d v)=x.ev s:=Fs λt ht e=>h t ht (List.mem_filterMap.2 ⟨x,List.mem_append_right _ (by simp[hg]),e⟩);simp only[bt,this]
def QO(P:Program)(op:SH)(s:Nat->V)(U:al)(v:V):Prop:=
 match bp op with
 |0=>fW s op/\aV U s op=some v
 |1=>match op with
  |.call fx xs=>∃f caps,fx.ev s=.fn f caps/\∀Z1,aa U Z1->aG P f (xs.map (·.ev s)++caps) Z1 (λr Z'=>r=v/\Z'=Z1)
  |_=>False
 |_=>False
def QY(P:Program)(i:aU)(s:Nat->V)(U:al)(v:V):Prop:=
 (bt s i.g=some true/\QO P i.op s U v)\/(bt s i.g=some false/\v=.Sa [])
def cL{i:aU}(hq:gC i=true){x:St}{K:St->Prop}:T P i x K↔∃v,QY P i x.s x.U v/\K ⟨bb x.s i.dst v,x.U⟩:=by
 simp only[gC,US]at hq;unfold T QY;cases hw:bt x.s i.g with
 |none=>simp
 |some b=>
  cases b
  .simp
  .simp only[true_and,bh,Bool.true_eq_false,false_and,or_false];unfold TO QO;have:bp i.op=0\/bp i.op=1:=by omega
   rcases this with h0|h0<;>simp only[h0]
   .constructor
    .rintro⟨h1,v,h2,h3⟩;exact⟨v,⟨h1,h2⟩,h3⟩
    .rintro⟨v,⟨h1,h2⟩,h3⟩;exact⟨h1,v,h2,h3⟩
   .cases Sc:i.op<;>simp[bp,Sc]at h0|-;constructor
    .rintro⟨f,caps,h1,v,h2,h3⟩;exact⟨v,⟨f,caps,h1,h2⟩,h3⟩
    .rintro⟨v,⟨f,caps,h1,h2⟩,h3⟩;exact⟨f,caps,h1,v,h2,h3⟩
def vZ{op:SH}{s s':Nat->V}{U:al}{v:V}(h:∀x∈op.xs,x.ev s=x.ev s')(hq:QO P op s U v):QO P op s' U v:=by
 unfold QO at*;by_cases h0:bp op=0
 .obtain⟨h1,h2⟩:=rY (U:=U) h;simp only[h0]at hq|-;exact⟨h2.1 hq.1,h1▸hq.2⟩
 .by_cases h1:bp op=1
  .simp only[h1]at hq|-;cases op<;>simp only[]at hq<;>first|exact hq.elim|skip
   rename_i fx xs;obtain⟨f,caps,g1,g2⟩:=hq;refine⟨f,caps,?_,?_⟩
   .rw[<-h fx (by simp[SH.xs])];exact g1
   .rw[<-qV (s:=s) (s':=s') λx hx=>h x (by simp[SH.xs,hx])];exact g2
  .exfalso;revert hq;split<;>simp_all
def gY{i:aU}{s:Nat->V}{U:al}{v u:V}{d:Option Nat}(h:∀t,d=some t->t∉i.l3):QY P i (bb s d u) U v↔QY P i s U v:=by
 unfold QY;rw[cI h];constructor
 .rintro(⟨h1,h2⟩|h1)
  .exact .inl ⟨h1,vZ (iP h s) h2⟩
  .exact .inr h1
 .rintro(⟨h1,h2⟩|h1)
  .exact .inl ⟨h1,vZ (λx hx=>(iP h s x hx).symm) h2⟩
  .exact .inr h1
def mF{op:SH}(h:lp op=true):bp op=0:=by
 cases op
 case more m xs=>cases m<;>simp[lp,bp]at h|-
 all_goals simp[lp,bp]at h|-
def kP{i:aU}(hf:lp i.op=true){s:Nat->V}{U Z':al}{v:V}(h:QY P i s U v):QY P i s Z' v:=by
 rcases h with⟨h1,h2⟩|h1
 .refine .inl ⟨h1,?_⟩;unfold QO at*;simp only[mF hf]at*;exact⟨h2.1,by rw[<-Ai (U:=U) hf];exact h2.2⟩
 .exact .inr h1
def Kv{i:aU}(hf:lp i.op=true){s:Nat->V}{U:al}{v v':V}(h:QY P i s U v)(h':QY P i s U v'):v=v':=by
 rcases h with⟨h1,h2⟩|⟨h1,h2⟩<;>rcases h' with⟨g1,g2⟩|⟨g1,g2⟩
 .unfold QO at*;simp only[mF hf]at*;have:=h2.2.symm.trans g2.2;simpa using this
 .rw[h1]at g1;cases g1
 .rw[h1]at g1;cases g1
 .rw[h2,g2]
def iF{i:aU}(he:tr i=true){x:St}{K:St->Prop}:T P i x K↔
 (bt x.s i.g=some false/\K ⟨bb x.s i.dst (.Sa []),x.U⟩)\/
 (bt x.s i.g=some true/\((∃sz xa xv Z',i.op=.store sz xa xv/\cB x.U sz (xa.ev x.s) (xv.ev x.s)=some Z'/\K ⟨bb x.s i.dst (.Sa []),Z'⟩)\/
   (bp i.op=3/\∃g,Ty x.s x.U i.op=some g/\∀id,x.U id=none->K ⟨bb x.s i.dst (g id).1,(g id).2⟩))):=by
 unfold T;cases hw:bt x.s i.g with
 |none=>simp
 |some b=>
  cases b
  .simp
  .simp only[bh,Bool.true_eq_false,false_and,false_or,true_and];unfold TO;simp only[tr,kI,beq_iff_eq]at he;rcases he with h0|h0<;>simp only[h0]
   .cases Sc:i.op<;>simp[bp,Sc]at h0|-;constructor
    .rintro⟨Z',h1,h2⟩;exact⟨_,_,_,⟨rfl,rfl,rfl⟩,Z',h1,h2⟩
    .rintro⟨_,_,_,⟨rfl,rfl,rfl⟩,Z',h1,h2⟩;exact⟨Z',h1,h2⟩
   .have:∀sz xa xv,i.op≠.store sz xa xv:=λ_ _ _ e=>by rw[e]at h0;simp[bp]at h0
    simp[this]
def lI(s:Nat->V):SH->Option Nat
 |.load _ _ x=>match x.ev s with
   |.ptr id _ _=>some id
   |_=>none
 |.Ye _ x _=>match x.ev s with
   |.own id _ _=>some id
   |_=>none
 |.slice _ x _ _ _=>match x.ev s with
   |.own id _ _=>some id
   |_=>none
 |.ZV x=>match x.ev s with
   |.own id _ _=>some id
   |_=>none
 |_=>none
def Cr{s:Nat->V}{U Z':al}{op:SH}(h:∀j,lI s op=some j->U j=Z' j):aV U s op=aV Z' s op:=by
 cases op<;>try rfl
 case more m xs=>
  cases xs with
  |nil=>cases m<;>rfl
  |cons x xs=>cases xs<;>cases m<;>rfl
 case load agg sz x=>
  simp only[lI]at h;simp only[aV,dr];split
  .rename_i id i k hx;simp only[hx,bh,forall_eq']at h;rw[h]
  .rfl
  .rfl
 case Ye U5 x i=>
  simp only[lI]at h;simp only[aV];generalize x.ev s=xv at*;generalize i.ev s=iv at*;cases xv<;>try (cases iv<;>rfl)
  case own id off len=>
   simp only[bh,forall_eq']at h;cases iv<;>try rfl
   simp only[bI,h]
 case ZV x=>
  simp only[lI]at h;simp only[aV];generalize x.ev s=xv at*;cases xv<;>try rfl
  case own id off len=>
   simp only[bh,forall_eq']at h;simp only[dj,h]
 case slice U5 x lo hi mx=>
  simp only[lI]at h;simp only[aV,cP];split
  .rename_i id off len hx;simp only[hx,bh,forall_eq']at h;have:iB U id U5=iB Z' id U5:=by simp only[iB,h]
   simp only[this]
  .rfl
  .rfl
  .rfl
def Cs{s:Nat->V}{U:al}{op:SH}{v:V}(hv:aV U s op=some v){j:Nat}(hj:lI s op=some j):U j≠none:=by
 intro hn;cases op<;>simp only[lI,reduceCtorEq]at hj
 case load agg sz x=>
  split at hj
  .rename_i id i k hx;simp only[bh]at hj;subst hj;simp[aV,dr,hx,hn]at hv
  .cases hj
 case Ye U5 x i=>
  split at hj
  .rename_i id off len hx;simp only[bh]at hj;subst hj;simp only[aV]at hv;rw[hx]at hv;generalize i.ev s=iv at hv;cases iv<;>simp[bI,hn]at hv
  .cases hj
 case ZV x=>
  split at hj
  .rename_i id off len hx;simp only[bh]at hj;subst hj;simp[aV,dj,hx,hn]at hv
  .cases hj
 case slice U5 x lo hi mx=>
  split at hj
  .rename_i id off len hx;simp only[bh]at hj;subst hj;simp only[aV,cP,hx,iB,hn]at hv;split at hv
   .simp at hv
   .cases hv
  .cases hj
def tw{i:aU}(h:mkI i=true):bp i.op=3/\∀s U g,Ty s U i.op=some g->∀id j,j≠id->(g id).2 j=U j:=by
 unfold mkI at h;split at h
 .rename_i Sc;refine⟨by rw[Sc];rfl,λs U g hg id j hj=>?_⟩;rw[Sc]at hg;simp only[Ty,bh]at hg;subst hg;simp[Vc.C',hj]
 .rename_i Sc;refine⟨by rw[Sc];rfl,λs U g hg id j hj=>?_⟩;rw[Sc]at hg;simp only[Ty]at hg;split at hg
  .simp only[bh]at hg;subst hg;simp[Vc.C',hj]
  .cases hg
 .rename_i Sc;refine⟨by rw[Sc];rfl,λs U g hg id j hj=>?_⟩;rw[Sc]at hg;simp only[Ty]at hg;split at hg
  .simp only[bh]at hg;subst hg;simp[Vc.C',hj]
  .cases hg
 .rename_i Sc;refine⟨by rw[Sc];rfl,λs U g hg id j hj=>?_⟩;rw[Sc]at hg;simp only[Ty]at hg;split at hg
  .split at hg
   .simp only[bh]at hg;subst hg;simp[Vc.C',hj]
   .cases hg
  .cases hg
 .cases h
def Aj{i:aU}(h:Dy i=true):bp i.op=3/\∀s U g,Ty s U i.op=some g->∀id j,j≠id->(g id).2 j=U j\/(g id).2 j=none:=by
 by_cases hm:mkI i=true
 .exact⟨(tw hm).1,λs U g hg id j hj=>.inl ((tw hm).2 s U g hg id j hj)⟩
 .unfold Dy at h;unfold mkI at hm;cases Sc:i.op<;>rw[Sc]at h hm<;>simp at h hm;refine⟨rfl,λs U g hg id j hj=>?_⟩;simp only[Ty]at hg;split at hg
  .split at hg
   .simp only[bh]at hg;subst hg;rename_i idA _ _ _ _ _;simp only[Vc.C',aK hj];rename_i base idA src _ _ _;cases idA with
    |none=>exact .inl rfl
    |some a=>
     simp only[bW,del];split
     .exact .inr rfl
     .exact .inl rfl
   .cases hg
  .cases hg
def yG{i:aU}(hp:kZ i=true){s:Nat->V}{U Z':al}(h:∀j,lI s i.op=some j->U j=Z' j){v:V}(hq:QY P i s U v):QY P i s Z' v:=by
 simp only[kZ,beq_iff_eq]at hp;rcases hq with⟨h1,h2⟩|h1
 .refine .inl ⟨h1,?_⟩;unfold QO at*;simp only[hp]at*;exact⟨h2.1,by rw[<-Cr h];exact h2.2⟩
 .exact .inr h1
def yE{i:aU}(hp:kZ i=true){s:Nat->V}{U:al}{v v':V}(h:QY P i s U v)(h':QY P i s U v'):v=v':=by
 simp only[kZ,beq_iff_eq]at hp;rcases h with⟨h1,h2⟩|⟨h1,h2⟩<;>rcases h' with⟨g1,g2⟩|⟨g1,g2⟩
 .unfold QO at*;simp only[hp]at*;have:=h2.2.symm.trans g2.2;simpa using this
 .rw[h1]at g1;cases g1
 .rw[h1]at g1;cases g1
 .rw[h2,g2]
def tD{i:aU}(hp:kZ i=true){s:Nat->V}{U:al}{v:V}(h:QY P i s U v)(hw:bt s i.g=some true){j:Nat}(hj:lI s i.op=some j):U j≠none:=by
 simp only[kZ,beq_iff_eq]at hp;rcases h with⟨_,h2⟩|⟨h1,_⟩
 .unfold QO at h2;simp only[hp]at h2;exact Cs h2.2 hj
 .rw[hw]at h1;cases h1
def yy{i:aU}{s:Nat->V}{U Z':al}{v:V}(h:QY P i s U v)(hw:bt s i.g≠some true):QY P i s Z' v:=by
 rcases h with⟨h1,_⟩|h1
 .exact absurd h1 hw
 .exact .inr h1
def GR{i:aU}(hp:kZ i=true){s:Nat->V}{U Z':al}{id:Nat}(L':U id=none)(Su:∀j,j≠id->Z' j=U j){v:V}(h:QY P i s U v):QY P i s Z' v:=by
 by_cases hw:bt s i.g=some true
 .refine yG hp (λj hj=>?_) h;have:=tD hp h hw hj;rw[Su j (λe=>this (e▸L'))]
 .exact yy h hw
def Em{i:aU}(hq:gC i=true){s:Nat->V}{U Z':al}{id:Nat}(L':U id=none)(Su:∀j,j≠id->Z' j=U j){v:V}(h:QY P i s U v):QY P i s Z' v:=by
 by_cases hp:kZ i=true
 .exact GR hp L' Su h
 .have G':aa U Z':=λj o hj=>by rw[Su j (λe=>by rw[e,L']at hj;cases hj)];exact hj
  rcases h with⟨h1,h2⟩|h1
  .refine .inl ⟨h1,?_⟩;have hk:bp i.op=1:=by
    simp only[gC,US]at hq;simp only[kZ,beq_iff_eq]at hp;omega
   unfold QO at*;simp only[hk]at*;split at h2
   .obtain⟨f,caps,g1,g2⟩:=h2;exact⟨f,caps,g1,λZ1 hs=>g2 Z1 (G'.trans hs)⟩
   .exact h2.elim
  .exact .inr h1
def AQ{i:aU}(h:mkI i=true){s:Nat->V}{U:al}{g:Nat->V×al}(hg:Ty s U i.op=some g):
 ∃(vf:Nat->V) (ob:Ob),(∀id,g id=(vf id,Vc.C' U id ob))/\∀Z',Ty s Z' i.op=some λid=>(vf id,Vc.C' Z' id ob):=by
 unfold mkI at h;split at h
 .rename_i Sc;rw[Sc]at hg|-;simp only[Ty,bh]at hg;subst hg;exact⟨_,_,λ_=>rfl,λ_=>rfl⟩
 .rename_i Sc;rw[Sc]at hg|-;simp only[Ty]at hg|-;split at hg
  .rename_i hc;simp only[bh]at hg;subst hg;exact⟨_,_,λ_=>rfl,λZ'=>by rw[aI hc]⟩
  .cases hg
 .rename_i Sc;rw[Sc]at hg|-;simp only[Ty]at hg|-;split at hg
  .rename_i hc;simp only[bh]at hg;subst hg;exact⟨_,_,λ_=>rfl,λZ'=>by rw[aI hc]⟩
  .cases hg
 .rename_i Sc;rw[Sc]at hg|-;simp only[Ty]at hg|-;split at hg
  .rename_i hx;split at hg
   .rename_i hc;simp only[bh]at hg;subst hg;exact⟨_,_,λ_=>rfl,λZ'=>by rw[aI hc]⟩
   .cases hg
  .cases hg
 .cases h
def oE{op:SH}(hk:bp op=3){sz:Nat}{xa xv:VX}(Sc:op=.store sz xa xv):False:=by rw[Sc]at hk;simp[bp]at hk
def wV{U:al}{a b:Nat}{oa ob:Ob}(h:a≠b):Vc.C' (Vc.C' U a oa) b ob=Vc.C' (Vc.C' U b ob) a oa:=by
 funext i;unfold Vc.C';by_cases h1:i=a<;>by_cases h2:i=b<;>simp_all
def FW{i:aU}(h:Dy i=true){s:Nat->V}{U:al}{g:Nat->V×al}(hg:Ty s U i.op=some g):
 ∃(vf:Nat->V) (ob:Ob) (d:Option Nat),(∀id,g id=(vf id,Vc.C' (bW U d) id ob))/\(∀a,d=some a->U a≠none)/\
  ∀j o,U j=none->Ty s (Vc.C' U j o) i.op=some λid=>(vf id,Vc.C' (bW (Vc.C' U j o) d) id ob):=by
 by_cases hm:mkI i=true
 .obtain⟨vf,ob,h1,h2⟩:=AQ hm hg;exact⟨vf,ob,none,h1,by simp,λj o _=>h2 _⟩
 .unfold Dy at h;unfold mkI at hm;cases Sc:i.op<;>rw[Sc]at h hm hg<;>simp at h hm;rename_i e sz bytes xa xb;simp only[Ty]at hg|-;split at hg
  .rename_i base idA src e1 e2;split at hg
   .rename_i hc;simp only[bh]at hg;subst hg;have hlive:∀a,idA=some a->U a≠none:=λa ha=>by
     subst ha;unfold bX at e1;split at e1
     .split at e1
      .rename_i ob TT;split at e1
       .simp only[bh,Prod.mk.injEq]at e1;rw[<-e1.2,TT];simp
       .cases e1
      .cases e1
     .simp at e1
     .cases e1
    refine⟨_,_,idA,λ_=>rfl,hlive,λj o hj=>?_⟩;have Sh:∀id ob,U id=some ob->Vc.C' U j o id=some ob:=λid ob h=>by
     have:id≠j:=λe=>by rw[e,hj]at h;cases h
     simp[Vc.C',this,h]
    have d1:bX (Vc.C' U j o) e sz (xa.ev s)=some (base,idA):=by
     rw[<-e1];unfold bX at e1|-;split at e1
     .rename_i id _ _ _;split at e1
      .rename_i ob TT;simp only[TT,Sh _ _ TT]
      .cases e1
     .rfl
     .cases e1
    have d2:cy (Vc.C' U j o) sz (xb.ev s)=some src:=by
     rw[<-e2];unfold cy at e2|-;split at e2
     .split at e2
      .rename_i ob TT;simp only[TT,Sh _ _ TT]
      .cases e2
     all_goals first|rfl|cases e2
    simp only[d1,d2];rw[aI hc]
   .cases hg
  .cases hg
def BA{A B:aU}(hp:jg A B=true){x:St}(hi:WG x.U){K:St->Prop}(h:T P A x λx'=>T P B x' K):T P B x λx'=>T P A x' K:=by
 simp only[jg,Ba,kI]at hp;obtain⟨hap,hk⟩:=hp;obtain⟨h1,h2,h3⟩:=apart_spec hap;have Um:∀(s:Nat->V) u v,bb (bb s A.dst u) B.dst v=bb (bb s B.dst v) A.dst u:=λs u v=>Ea h3;rcases hk with((((⟨qa,qb⟩|⟨ea,sb⟩)|⟨sa,eb⟩)|⟨pa,mb⟩)|⟨ma,pb⟩)|⟨ma,mb⟩
 .rw[cL qa]at h;obtain⟨u,hu,h⟩:=h;rw[cL qb]at h;obtain⟨v,hv,h⟩:=h;rw[cL qb];refine⟨v,(gY h1).1 hv,?_⟩;rw[cL qa];refine⟨u,(gY h2).2 hu,?_⟩;simp only at h|-;rw[<-Um];exact h
 .have qb:gC B=true:=by simp[gC,mF sb]
  rw[iF ea]at h;rcases h with⟨hw,h⟩|⟨hw,⟨sz,xa,xv,Z',Sc,hs,h⟩|⟨Xz,g,hg,h⟩⟩
  .rw[cL qb]at h;obtain⟨v,hv,h⟩:=h;rw[cL qb];refine⟨v,(gY h1).1 hv,?_⟩;rw[iF ea];refine .inl ⟨by rw[cI h2];exact hw,?_⟩;simp only at h|-;rw[<-Um];exact h
  .rw[cL qb]at h;obtain⟨v,hv,h⟩:=h;rw[cL qb];refine⟨v,kP sb ((gY h1).1 hv),?_⟩;rw[iF ea];refine .inr ⟨by rw[cI h2];exact hw,.inl ⟨sz,xa,xv,Z',Sc,?_,?_⟩⟩
   .simp only;rw[iP h2 x.s xa (by simp[Sc,SH.xs]),iP h2 x.s xv (by simp[Sc,SH.xs])];exact hs
   .simp only at h|-;rw[<-Um];exact h
  .obtain⟨XO,_,hid0⟩:=hi 0;have h0:=h XO hid0;rw[cL qb]at h0;obtain⟨v,hv,_⟩:=h0;have hvx:QY P B x.s x.U v:=kP sb ((gY h1).1 hv);rw[cL qb];refine⟨v,hvx,?_⟩;rw[iF ea];refine .inr ⟨by rw[cI h2];exact hw,.inr ⟨Xz,g,?_,λid L'=>?_⟩⟩
   .rw[<-hg];exact gx (iP h2 x.s)
   .have h4:=h id L';rw[cL qb]at h4;obtain⟨v',ZZ,h4⟩:=h4;have hvx':QY P B x.s x.U v':=kP sb ((gY h1).1 ZZ);have:=Kv sb hvx hvx';subst this;simp only at h4|-;rw[<-Um];exact h4
 .have qa:gC A=true:=by simp[gC,mF sa]
  rw[cL qa]at h;obtain⟨u,hu,h⟩:=h;rw[iF eb]at h;rw[iF eb];rcases h with⟨hw,h⟩|⟨hw,⟨sz,xa,xv,Z',Sc,hs,h⟩|⟨Xz,g,hg,h⟩⟩
  .refine .inl ⟨by rw[<-cI h1];exact hw,?_⟩;rw[cL qa];refine⟨u,(gY h2).2 hu,?_⟩;simp only at h|-;rw[<-Um];exact h
  .refine .inr ⟨by rw[<-cI h1];exact hw,.inl ⟨sz,xa,xv,Z',Sc,?_,?_⟩⟩
   .simp only at hs;rw[iP h1 x.s xa (by simp[Sc,SH.xs]),iP h1 x.s xv (by simp[Sc,SH.xs])]at hs;exact hs
   .rw[cL qa];refine⟨u,(gY h2).2 (kP sa hu),?_⟩;simp only at h|-;rw[<-Um];exact h
  .refine .inr ⟨by rw[<-cI h1];exact hw,.inr ⟨Xz,g,?_,λid L'=>?_⟩⟩
   .rw[<-hg];exact(gx (iP h1 x.s)).symm
   .rw[cL qa];refine⟨u,(gY h2).2 (kP sa hu),?_⟩;have h4:=h id L';simp only at h4|-;rw[<-Um];exact h4
 .have qa:gC A=true:=pa;obtain⟨Xz,W4⟩:=tw mb;have eb:tr B=true:=by simp[tr,Xz]
  rw[cL qa]at h;obtain⟨u,hu,h⟩:=h;rw[iF eb]at h;rw[iF eb];rcases h with⟨hw,h⟩|⟨hw,⟨sz,xa,xv,Z',Sc,hs,h⟩|⟨_,g,hg,h⟩⟩
  .refine .inl ⟨by rw[<-cI h1];exact hw,?_⟩;rw[cL qa];refine⟨u,(gY h2).2 hu,?_⟩;simp only at h|-;rw[<-Um];exact h
  .rw[Sc]at Xz;simp[bp]at Xz
  .refine .inr ⟨by rw[<-cI h1];exact hw,.inr ⟨Xz,g,?_,λid L'=>?_⟩⟩
   .rw[<-hg];exact(gx (iP h1 x.s)).symm
   .rw[cL qa];refine⟨u,(gY h2).2 (Em qa L' (λj hj=>W4 _ _ g hg id j hj) hu),?_⟩;have h4:=h id L';simp only at h4|-;rw[<-Um];exact h4
 .have qb:gC B=true:=by simp only[kZ,beq_iff_eq]at pb;simp[gC,pb]
  obtain⟨Xz,W4⟩:=Aj ma;have ea:tr A=true:=by simp[tr,Xz]
  rw[iF ea]at h;rcases h with⟨hw,h⟩|⟨hw,⟨sz,xa,xv,Z',Sc,hs,h⟩|⟨_,g,hg,h⟩⟩
  .rw[cL qb]at h;obtain⟨v,hv,h⟩:=h;rw[cL qb];refine⟨v,(gY h1).1 hv,?_⟩;rw[iF ea];refine .inl ⟨by rw[cI h2];exact hw,?_⟩;simp only at h|-;rw[<-Um];exact h
  .rw[Sc]at Xz;simp[bp]at Xz
  ·
   obtain⟨XO,Ve,hid0⟩:=hi ((lI x.s B.op).getD 0+1);have h0:=h XO hid0;rw[cL qb]at h0;obtain⟨v,hv,_⟩:=h0;have hv1:=(gY h1).1 hv;have hvx:QY P B x.s x.U v:=by
    by_cases hwB:bt x.s B.g=some true
    .refine yG pb (λj hj=>?_) hv1;have hn:=tD pb hv1 hwB hj;refine(W4 _ _ g hg XO j (λe=>?_)).resolve_right hn;rw[hj]at Ve;simp at Ve;omega
    .exact yy hv1 hwB
   rw[cL qb];refine⟨v,hvx,?_⟩;rw[iF ea];refine .inr ⟨by rw[cI h2];exact hw,.inr ⟨Xz,g,?_,λid L'=>?_⟩⟩
   .rw[<-hg];exact gx (iP h2 x.s)
   .have h4:=h id L';rw[cL qb]at h4;obtain⟨v',ZZ,h4⟩:=h4;have hv2:=(gY h1).1 ZZ;have hv3:QY P B x.s x.U v':=by
     by_cases hwB:bt x.s B.g=some true
     .refine yG pb (λj hj=>?_) hv2;have hn:=tD pb hv2 hwB hj;have hs:=tD pb hvx hwB hj;exact(W4 _ _ g hg id j (λe=>hs (e▸L'))).resolve_right hn
     .exact yy hv2 hwB
    have:=yE pb hv3 hvx;subst this;simp only at h4|-;rw[<-Um];exact h4
 .have ka:=(Aj ma).1;have kb:=(tw mb).1;have ea:tr A=true:=by simp[tr,ka]
  have eb:tr B=true:=by simp[tr,kb]
  rw[iF ea]at h;rw[iF eb];rcases h with⟨hw,h⟩|⟨hw,⟨sz,xa,xv,Z',Sc,_⟩|⟨_,g,hg,h⟩⟩
  .rw[iF eb]at h;rcases h with⟨Vp,h⟩|⟨Vp,⟨sz,xa,xv,Z',Sc,_⟩|⟨_,g2,hg2,h⟩⟩
   .refine .inl ⟨by rw[<-cI h1];exact Vp,?_⟩;rw[iF ea];refine .inl ⟨by rw[cI h2];exact hw,?_⟩;simp only at h|-;rw[<-Um];exact h
   .exact(oE kb Sc).elim
   .refine .inr ⟨by rw[<-cI h1];exact Vp,.inr ⟨kb,g2,by rw[<-hg2];exact(gx (iP h1 x.s)).symm,λid L'=>?_⟩⟩;rw[iF ea];refine .inl ⟨by rw[cI h2];exact hw,?_⟩;have h4:=h id L';simp only at h4|-;rw[<-Um];exact h4
  .exact(oE ka Sc).elim
  .obtain⟨vA,oA,dA,hA,ZF,hA'⟩:=FW ma hg;obtain⟨XO,_,hid0⟩:=hi 0;have h0:=h XO hid0;rw[iF eb]at h0;rcases h0 with⟨Vp,_⟩|⟨Vp,⟨sz,xa,xv,Z',Sc,_⟩|⟨_,g2,hg2,_⟩⟩
   .refine .inl ⟨by rw[<-cI h1];exact Vp,?_⟩;rw[iF ea];refine .inr ⟨by rw[cI h2];exact hw,.inr ⟨ka,g,by rw[<-hg];exact gx (iP h2 x.s),λid L'=>?_⟩⟩;have h4:=h id L';rw[iF eb]at h4;rcases h4 with⟨_,h4⟩|⟨hw3,_⟩
    .simp only at h4|-;rw[<-Um];exact h4
    .exfalso;have e1:=cI (v:=(g id).1) h1 (s:=x.s);have e2:=cI (v:=(g XO).1) h1 (s:=x.s);simp only at Vp hw3;rw[e1]at hw3;rw[e2]at Vp;rw[hw3]at Vp;cases Vp
   .exact(oE kb Sc).elim
   .have hg2x:Ty x.s (g XO).2 B.op=some g2:=by rw[<-hg2];exact(gx (iP h1 x.s)).symm
    obtain⟨vB,oB,hB,hB'⟩:=AQ mb hg2x;refine .inr ⟨by rw[<-cI h1];exact Vp,.inr ⟨kb,_,hB' x.U,λidB hidB=>?_⟩⟩;rw[iF ea];refine .inr ⟨by rw[cI h2];exact hw,.inr ⟨ka,λid=>(vA id,Vc.C' (bW (Vc.C' x.U idB oB) dA) id oA),?_,λidA hidA=>?_⟩⟩
    .rw[<-hA' idB oB hidB];exact gx (iP h2 x.s)
    .have Sh:idA≠idB:=λe=>by subst e;simp[Vc.C']at hidA
     have hidA':x.U idA=none:=by simpa[Vc.C',Sh]using hidA
     have h4:=h idA hidA';rw[iF eb]at h4;rw[hA idA]at h4;rcases h4 with⟨hw3,_⟩|⟨_,⟨sz,xa,xv,Z',Sc,_⟩|⟨_,g3,hg3,h4⟩⟩
     .exfalso;have e1:=cI (v:=vA idA) h1 (s:=x.s);have e2:=cI (v:=(g XO).1) h1 (s:=x.s);simp only at Vp hw3;rw[e1]at hw3;rw[e2]at Vp;rw[hw3]at Vp;cases Vp
     .exact(oE kb Sc).elim
     .have e3:Ty x.s (Vc.C' (bW x.U dA) idA oA) B.op=some g3:=by rw[<-hg3];exact(gx (iP h1 x.s)).symm
      rw[hB' (Vc.C' (bW x.U dA) idA oA)]at e3;simp only[bh]at e3;subst e3;have Sd:∀i,x.U i=none->bW x.U dA i=none:=λi hi=>by
       cases dA with
       |none=>exact hi
       |some a=>simp only[bW,del];split<;>first|rfl|exact hi
      have h5:=h4 idB (by simp[Vc.C',Sh.symm,Sd _ hidB]);have hsw:bW (Vc.C' x.U idB oB) dA=Vc.C' (bW x.U dA) idB oB:=by
       cases dA with
       |none=>rfl
       |some a=>
        funext i;have VT:a≠idB:=λe=>ZF a rfl (by rw[e];exact hidB);simp only[bW,del,Vc.C'];by_cases e1:i=a
        .have hib:i≠idB:=λe=>VT (e1▸e);simp[e1,VT]
        .by_cases e2:i=idB<;>simp[e1,e2,Ne.symm VT]
      simp only at h5|-;rw[<-Um,hsw,<-wV Sh];exact h5
variable {P:Program} {n:Nat}
def T.exists{i:aU}{x:St}{K:St->Prop}(hi:WG x.U)(h:T P i x K):∃x',K x':=by
 unfold T at h;split at h
 .unfold TO at h;split at h
  .obtain⟨_,v,_,h⟩:=h;exact⟨_,h⟩
  .split at h
   .obtain⟨_,_,v,_,_,h⟩:=h;exact⟨_,h⟩
   .exact h.elim
  .split at h
   .obtain⟨_,_,h⟩:=h;exact⟨_,h⟩
   .exact h.elim
  .obtain⟨g,_,h⟩:=h;obtain⟨id,_,L'⟩:=hi 0;exact⟨_,h id L'⟩
  .exact h.elim
 .exact⟨_,h⟩
 .exact h.elim
def tK{F:Fr}(hn:F.n=n){o:Oper}{all:Array Oper}{x:St}{K:St->Prop}{a:Act}{w:World}(h:T P (bO P n all o) x K)(hs:fB F x a w)
 {next:Act->World->Prop}{Q':Exit->Act->World->Prop}(R8:∀x' a' w',fB F x' a' w'->K x'->next a' w'):
 if Region.wanted o (yielded all a.tmps)then SC P n o.op≠.bad/\o.wp P a w next Q' else next (a.put o.dst undef) w:=by
 subst hn;obtain⟨I,hs⟩:=hs;unfold T at h;cases hw:bt x.s (bO P F.n all o).g with
 |none=>simp only[hw]at h
 |some b=>
  have W3:=pY (P:=P) hs all o hw;rw[W3];simp only[hw]at h;cases b
  .simp only[jb,if_false]at h|-;exact R8 _ _ _ ⟨I,hs.pure (d:=o.dst) (by simp only[E'];exact⟨[],rfl,by simp[aB]⟩)⟩ h
  .simp only[if_true]at h|-;refine⟨λe=>?_,?_⟩
   .have hopc:(bO P F.n all o).op=SC P F.n o.op:=rfl;rw[hopc,e]at h;simp[TO,bp]at h
   have hdst:(bO P F.n all o).dst=o.dst.filter (·<F.n):=rfl;have hopc:(bO P F.n all o).op=SC P F.n o.op:=rfl;rw[hdst,hopc]at h;unfold TO at h;split at h
   .obtain⟨h1,v,h2,h3⟩:=h;obtain⟨z,hz,hr⟩:=si hs o h1 h2;unfold Oper.wp;rw[hz];exact R8 _ _ _ ⟨I,hs.pure hr⟩ h3
   .split at h
    .rename_i fx xs Sc;obtain⟨f,caps,v,h1,h2,h3⟩:=h;obtain⟨f0,args,argTypes,g1,rfl,rfl⟩:=nO Sc;refine pK hs g1 h1 (h2 _ (aa.refl _)) λr Z' hp a' w' Sj=>?_;obtain⟨rfl,rfl⟩:=hp;exact R8 _ a' w' Sj h3
    .exact h.elim
   .split at h
    .rename_i sz xa xv Sc;obtain⟨Z',h1,h2⟩:=h;obtain⟨t,y,z,g1,g2,rfl,rfl,rfl⟩:=w8 Sc;unfold cB at h1;split at h1
     .rename_i id r0 c e1;split at h1
      .rename_i ob e2;split at h1
       .rename_i r e3;split at h1
        .rename_i r' e4;simp only[bh]at h1;subst h1;obtain⟨w',hx,Sj⟩:=sW hs g1 g2 e1 e2 e3 e4;unfold Oper.wp;rw[hx];exact R8 _ _ _ ⟨I,Sj⟩ h2
        .cases h1
       .cases h1
      .cases h1
     .cases h1
    .exact h.elim
   .obtain⟨g,hg,h⟩:=h;cases Sc:SC P F.n o.op<;>rw[Sc]at hg
    case box e sz xv=>
     simp only[Ty]at hg;split at hg
     .rename_i hc;simp only[bh]at hg;subst hg;obtain⟨y,g1,g2,rfl,rfl⟩:=Dq Sc;obtain⟨id,L',z,w',Y',hz,Sj⟩:=xe hs g1 g2 hc.1 hc.2;unfold Oper.wp;rw[hz];exact R8 _ _ _ ⟨Y',Sj⟩ (h id L')
     .cases hg
    case alloc e sz z=>
     simp only[Ty,bh]at hg;subst hg;obtain⟨ti,zv,g1,g2,rfl,rfl⟩:=wN Sc;obtain⟨id,L',y,w',Y',hy,Sj⟩:=sM hs g1 g2;unfold Oper.wp;rw[hy];exact R8 _ _ _ ⟨Y',Sj⟩ (h id L')
    case iW e sz xs=>
     simp only[Ty]at hg;split at hg
     .rename_i hc;simp only[bh]at hg;subst hg;obtain⟨t,len,parts,ti,z,h1,h2,h3,rfl,h5,h6,rfl⟩:=uZ Sc;have hx:∀y∈parts.toList.map (λp=>(cx F.n p.2).ev x.s),y.cells.length=ti.size/\y.stays=true:=by
       intro y hy;have:=gj.1 hc y (by rw[List.map_map];exact hy);simpa using this
      obtain⟨id,L',y,w',Y',hy,Sj⟩:=qI hs h1 h2 h3 h5 h6 hx;unfold Oper.wp;rw[hy];have hl:parts.size=len:=by have:=congrArg List.length h5;simpa using this
      refine R8 _ _ _ ⟨Y',Sj⟩ ?_;have:=h id L';simpa only[dO,List.map_map,Array.length_toList,hl,Function.comp_def]using this
     .cases hg
    case mk e sz bytes zv y=>
     simp only[Ty]at hg;split at hg
     .rename_i m hm;split at hg
      .rename_i hc;simp only[bh]at hg;subst hg;obtain⟨t,l',c,ti,z,g1,g2,g3,rfl,rfl,rfl,g5,rfl⟩:=Fk Sc;obtain⟨id,L',x',w',Y',SE,Sj⟩:=At hs g1 g5 g2 g3 hm hc.1 hc.2;unfold Oper.wp;rw[SE];exact R8 _ _ _ ⟨Y',Sj⟩ (h id L')
      .cases hg
     .cases hg
    case Yh e sz bytes zv ya y=>
     simp only[Ty]at hg;split at hg
     .rename_i kq m hy hm;split at hg
      .rename_i hc;simp only[bh]at hg;subst hg;obtain⟨t,tn,kn,x1,y1,args,argTypes,ti,z,g1,g2,g3,g4,g5,g6,rfl,rfl,rfl,rfl,rfl⟩:=Bp Sc;obtain⟨id,L',x',w',Y',SE,Sj⟩:=uH hs g1 g2 g3 g4 g5 g6 hy hm hc.1 hc.2;unfold Oper.wp;rw[SE];exact R8 _ _ _ ⟨Y',Sj⟩ (h id L')
      .cases hg
     .cases hg
    case append e sz bytes xa xb=>
     simp only[Ty]at hg;split at hg
     .rename_i base idA src e1 e2;split at hg
      .rename_i hb;simp only[bh]at hg;subst hg;obtain⟨t,t',y,z,args,argTypes,ti,zv,g1,g2,g3,g3',g4,g5,rfl,rfl,rfl,rfl⟩:=ur Sc;obtain⟨id,L',r,w',Y',hx,Sj⟩:=pU hs g1 g2 g3 g3' g4 g5 e1 e2 hb;unfold Oper.wp;rw[hx];exact R8 _ _ _ ⟨Y',Sj⟩ (h id L')
      .cases hg
     .cases hg
    all_goals simp[Ty]at hg
   .exact h.elim
def Tn(P:Program)(n:Nat)(ops:Array Oper)(i:Nat)(x:St)(K:St->Prop):Prop:=match ops[i]? with
 |some o=>T P (bO P n ops o) x K
 |none=>K x
def rh(P:Program)(n:Nat)(ops:Array Oper)(Q:St->Prop):Nat->Array Bool->St->Prop
 |0,n',x=>Region.ready .any ops n'=[]/\Q x
 |f+1,n',x=>(Region.ready .any ops n'=[]->Q x)/\∀i∈Region.ready .any ops n',Tn P n ops i x (rh P n ops Q f (n'.setIfInBounds i true))
def o6{F:Fr}(hn:F.n=n){ops:Array Oper}{Q:St->Prop}{Q':Exit->Act->World->Prop}(hQ:∀x a w,fB F x a w->Q x->Q' .normal a w):
 ∀(f:Nat) (n':Array Bool) (x:St) (a:Act) (w:World),fB F x a w->rh P n ops Q f n' x->wpAnyIn F.fo 0 P .any ops Q' f n' a w
 |0,_,_,_,_,hs,h=>⟨h.1,hQ _ _ _ hs h.2⟩
 |f+1,n',x,a,w,hs,h=>by
  refine⟨λh0=>hQ _ _ _ hs (h.1 h0),λi hi=>?_⟩;have h1:=h.2 i hi;unfold Tn at h1;unfold wpOpIn;cases ho:ops[i]? with
  |none=>
   simp only[ho]at h1;exact o6 hn hQ f _ x a w hs h1
  |some o=>
   simp only[ho]at h1;have h2:=tK (Q':=Q') hn h1 hs λx' a' w' Sj hk=>o6 hn hQ f _ x' a' w' Sj hk;by_cases hw:Region.wanted o (yielded ops a.tmps)=true
   .rw[aI hw]at h2;simp only[hw,if_true];exact Dz (kz h2.1) h2.2
   .rw[aK hw]at h2;simp only[hw];exact⟨λ_ _=>trivial,h2⟩
def jk(ops:Array Oper)(n':Array Bool):Prop:=∀m om,ops[m]?=some om->n'.getD m true=true->∀e∈om.after,Region.binds .any e=true->n'.getD e.on false=true
def jk.list{ops:Array Oper}{n':Array Bool}(h:jk ops n'){i:Nat}(hi:i∈Region.ready .any ops n'):jk ops (n'.setIfInBounds i true):=by
 intro m om hm hl e he hb;by_cases hmi:m=i
 .subst hmi;obtain⟨_,o,ho,TI⟩:=mem_ready.1 hi;rw[hm]at ho;cases ho;exact getD_set_true (TI e he hb)
 .rw[getD_set_ne true (Ne.symm hmi)]at hl;exact getD_set_true (h m om hm hl e he hb)
def BW{f:Edge->Nat}(l:List Edge):∀(s:Nat) (i:Nat),(l.foldl (λs e=>if Region.binds .any e then s ||| 2^e.on ||| f e else s) s).testBit i=true->
 s.testBit i=true\/∃e∈l,Region.binds .any e=true/\(i=e.on\/(f e).testBit i=true):=by
 induction l with
 |nil=>intro s i h;exact .inl h
 |cons e l ih=>
  intro s i h;simp only[jW]at h;rcases ih _ i h with h1|⟨e',h2,h3,h4⟩
  .by_cases hb:Region.binds .any e=true
   .rw[aI hb]at h1;simp only[Nat.testBit_or,kI,Nat.testBit_two_pow]at h1;rcases h1 with(h1|h1)|h1
    .exact .inl h1
    .exact .inr ⟨e,by simp,hb,.inl (by simpa using(of_decide_eq_true h1).symm)⟩
    .exact .inr ⟨e,by simp,hb,.inr h1⟩
   .rw[aK hb]at h1;exact .inl h1
  .exact .inr ⟨e',by simp[h2],h3,h4⟩
def lx{ops:Array Oper}{n':Array Bool}(hc:jk ops n'):∀(j:Nat) (oj:Oper) (i:Nat),ops[j]?=some oj->((Region.before ops).getD j 0).testBit i=true->
 (∀e∈oj.after,Region.binds .any e=true->n'.getD e.on false=true)->n'.getD i false=true:=by
 have key:∀(l:List Oper) (acc:Array Nat) (k:Nat),acc.size=k->(∀j,l[j]?=ops[k+j]?)->
  (∀j oj i,j<k->ops[j]?=some oj->(acc.getD j 0).testBit i=true->(∀e∈oj.after,Region.binds .any e=true->n'.getD e.on false=true)->n'.getD i false=true)->
  ∀j oj i,ops[j]?=some oj->((l.foldl (λacc o=>acc.push (o.after.foldl (λs e=>if Region.binds .any e then s ||| 2^e.on ||| acc.getD e.on 0 else s) 0)) acc).getD j 0).testBit i=true->
   (∀e∈oj.after,Region.binds .any e=true->n'.getD e.on false=true)->n'.getD i false=true:=by
  intro l
  induction l with
  |nil=>
   intro acc k hk hl h j oj i hj hb hd;have u':j<k:=by
    rcases Nat.lt_or_ge j k with h1|h1
    .exact h1
    .have:=hl (j-k);rw[show k+(j-k)=j by omega,hj]at this;simp at this
   exact h j oj i u' hj hb hd
  |cons o l ih=>
   intro acc k hk hl h;have Se:ops[k]?=some o:=by simpa using(hl 0).symm
   refine ih _ (k+1) (by simp[hk]) (λj=>by have:=hl (j+1);simpa[Nat.add_assoc,B9 1 j]using this) ?_;intro j oj i hj Wd hb hd;by_cases hjk:j=k
   .subst hjk;rw[Wd]at Se;cases Se;rw[VJ,<-hk,Array.getElem?_push_size]at hb;simp only[Option.getD_some]at hb;rw[<-Array.foldl_toList]at hb;rcases BW (f:=λe=>acc.getD e.on 0) o.after.toList 0 i hb with h1|⟨e,he,hbd,h1|h1⟩
    .simp at h1
    .rw[h1];exact hd e (by simpa using he) hbd
    .have Wv:=hd e (by simpa using he) hbd;by_cases hek:e.on<acc.size
     .have hex:e.on<ops.size:=by
       have:=(ny.1 Wd).1;omega
      have hoe:ops[e.on]?=some ops[e.on]:=Array.getElem?_eq_getElem hex;refine h e.on _ i (by omega) hoe h1 (hc e.on _ hoe ?_);have TU:e.on<n'.size:=by
       rcases Nat.lt_or_ge e.on n'.size with h2|h2
       .exact h2
       .simp[Array.getElem?_eq_none h2]at Wv
      simp only[VJ,Array.getElem?_eq_getElem TU,Option.getD_some]at Wv|-;exact Wv
     .rw[VJ,Array.getElem?_eq_none (by omega)]at h1;simp at h1
   .have hjlt:j<k:=by omega
    rw[VJ,Array.getElem?_push_lt (by omega)]at hb;refine h j oj i hjlt Wd ?_ hd;rw[VJ,Array.getElem?_eq_getElem (by omega)];exact hb
 intro j oj i hj hb hd;unfold Region.before at hb;rw[<-Array.foldl_toList]at hb;exact key ops.toList #[] 0 rfl (by simp) (λj oj i h=>by omega) j oj i hj hb hd
def yF{ops:Array Oper}{Q:St->Prop}{i:Nat}{oi:Oper}(hi:ops[i]?=some oi):∀(f:Nat) (n':Array Bool) (x:St),WG x.U->jk ops n'->
 (∀j oj,ops[j]?=some oj->j≠i->n'.getD j true=false->((Region.before ops).getD j 0).testBit i=false->jg (bO P n ops oi) (bO P n ops oj)=true)->
 i∈Region.ready .any ops n'->T P (bO P n ops oi) x (rh P n ops Q f (n'.setIfInBounds i true))->rh P n ops Q (f+1) n' x:=by
 intro f
 induction f with
 |zero=>
  intro n' x Un _ _ hr H;refine⟨λh=>(by rw[h]at hr;cases hr),λj hj=>?_⟩;by_cases Ui:j=i
  .subst Ui;unfold Tn;simp only[hi];exact H
  .have:=ready_mono hj Ui;obtain⟨x',SE⟩:=H.exists Un;rw[SE.1]at this;cases this
 |succ f ih=>
  intro n' x Un Tr VU hr H;refine⟨λh=>(by rw[h]at hr;cases hr),λj hj=>?_⟩;by_cases Ui:j=i
  .subst Ui;unfold Tn;simp only[hi];exact H
  .obtain⟨Yl,oj,Wd,TI⟩:=mem_ready.1 hj;have hnot:((Region.before ops).getD j 0).testBit i=false:=by
    cases hb:((Region.before ops).getD j 0).testBit i with
    |false=>rfl
    |true=>
     exfalso;have h1:=lx Tr j oj i Wd hb TI;have h0:=(mem_ready.1 hr).1;rcases Nat.lt_or_ge i n'.size with h'|h'
     .simp[h']at h0 h1;rw[h0]at h1;cases h1
     .simp[Array.getElem?_eq_none h']at h1
   have H2:T P (bO P n ops oi) x λx'=>T P (bO P n ops oj) x' (rh P n ops Q f ((n'.setIfInBounds i true).setIfInBounds j true)):=by
    refine H.mono λx' SE=>?_;have:=SE.2 j (ready_mono hj Ui);unfold Tn at this;simpa only[Wd]using this
   have h2:=BA (VU j oj Wd Ui Yl hnot) Un H2;have W5:∀k ok,ops[k]?=some ok->k≠i->(n'.setIfInBounds j true).getD k true=false->
    ((Region.before ops).getD k 0).testBit i=false->jg (bO P n ops oi) (bO P n ops ok)=true:=λk ok hk hki hun Sw=>by
    refine VU k ok hk hki ?_ Sw;by_cases hjk:j=k
    .subst hjk;exact Yl
    .rw[getD_set_ne true hjk]at hun;exact hun
   unfold Tn;simp only[Wd];refine(h2.inf Un).mono λx' SE=>ih (n'.setIfInBounds j true) x' SE.1 (Tr.list hj) W5 (ready_mono hr (Ne.symm Ui)) ?_;rw[Array.setIfInBounds_comm _ _ Ui];exact SE.2
def mL{ops:Array Oper}{k:Nat}{ok:Oper}{n':Array Bool}(hk:ops[k]?=some ok)(h:CF P n ops k n'=true)(j:Nat)(oj:Oper)(hj:ops[j]?=some oj)(Sh:j≠k)
 (hun:n'.getD j true=false)(Sw:((Region.before ops).getD j 0).testBit k=false):jg (bO P n ops ok) (bO P n ops oj)=true:=by
 unfold CF at h;simp only[hk]at h;have hjlt:j<ops.size:=(ny.1 hj).1;have:=gj.1 h j (List.mem_range.2 hjlt);simp only[hj,hun,Sw,Bool.or_false,Bool.false_or,kI,beq_iff_eq,Sh,false_or]at this;exact this
def jq(P:Program)(Q:St->Prop):List aU->St->Prop
 |[],x=>Q x
 |i::l,x=>T P i x (jq P Q l)
def uR{ops:Array Oper}{Q:St->Prop}:∀(l:List Oper) (k:Nat) (n':Array Bool) (x:St),WG x.U->jk ops n'->(∀j,l[j]?=ops[k+j]?)->
 wy P n ops l.length k n'=true->jq P Q (l.map (bO P n ops)) x->rh P n ops Q l.length n' x
 |[],_,_,_,_,_,_,hB,h=>⟨by simpa[wy]using hB,h⟩
 |o::l,k,n',x,Un,Tr,hl,hB,h=>by
  have h0:ops[k]?=some o:=by simpa using(hl 0).symm
  simp only[Uf,wy,Ba]at hB;obtain⟨⟨hr,hf⟩,hB'⟩:=hB;refine yF h0 l.length n' x Un Tr (mL h0 hf) (by simpa using hr) ?_;refine(T.inf Un h).mono λx' SE=>?_;exact uR l (k+1) _ x' SE.1 (Tr.list (by simpa using hr)) (λj=>by have:=hl (j+1);simpa[Nat.add_assoc,B9 1 j]using this) hB' SE.2
def yW{F:Fr}(hn:F.n=n){ops:Array Oper}(Se:pH P n ops=true){id:Nat}{x:St}{a:Act}{w:World}(hs:fB F x a w){Q:St->Prop}{Q':Exit->Act->World->Prop}
 (hQ:∀x a w,fB F x a w->Q x->Q' .normal a w)(h:jq P Q (ops.toList.map (bO P n ops)) x):(Code.region id ops true).wpIn F.fo 0 P Q' a w:=by
 simp only[pH,Ba]at Se;have Sj:fB F x a { w with drawn:=w.drawn+1 }:=by
  obtain⟨I,hs⟩:=hs;have hk:dB (aO I x.U) (aO I x.U) w { w with drawn:=w.drawn+1 }:=λ_ _ h=>⟨h,rfl⟩
  refine⟨I,⟨⟨hs.sat.size,hs.sat.os,hs.sat.tape,hs.sat.output,hs.sat.same,hs.sat.fin,hs.sat.inj,λid o ho=>?_,hs.sat.fresh,hs.sat.Va⟩,hs.le,hs.size,hs.book.wj hk,λi hi=>?_⟩⟩
  .exact(hs.sat.obj id o ho).mono (dG.refl I) hk (SD _) (λ_ _ _ _=>rfl)
  .exact E'.mono (dG.refl I) hk (SD _) _ _ (hs.slot i hi)
 refine wpIn_region_any Se.1 (o6 hn hQ _ _ _ _ _ Sj ?_);have:=uR (P:=P) (n:=n) (Q:=Q) ops.toList 0 (Array.replicate ops.size false) x hs.inf (λm om hm hl=>by
  have u':m<ops.size:=(ny.1 hm).1;rw[VJ,Array.getElem?_replicate,aI u']at hl;simp at hl) (by simp) (by simpa using Se.2.2) h
 simpa using this
def rB(P:Program)(n:Nat)(ops:Array Oper)(m:Nat)(Q:St->Prop):Nat->Array Bool->St->Prop
 |0,n',x=>(Region.ready .any ops n'=[m]/\Region.ready .any ops (n'.setIfInBounds m true)=[])/\Q x
 |f+1,n',x=>Region.ready .any ops n'≠[]/\∀i∈Region.ready .any ops n',i≠m/\Tn P n ops i x (rB P n ops m Q f (n'.setIfInBounds i true))
def pd{F:Fr}(hn:F.n=n){ops:Array Oper}{m:Nat}{Q:St->Prop}{Q':Exit->Act->World->Prop}(hQ:∀x a w,fB F x a w->Q x->wpOpIn F.fo 0 P ops Q' m (Q' .normal) a w):
 ∀(f:Nat) (n':Array Bool) (x:St) (a:Act) (w:World),fB F x a w->rB P n ops m Q f n' x->wpAnyIn F.fo 0 P .any ops Q' (f+1) n' a w
 |0,n',x,a,w,hs,h=>by
  obtain⟨⟨h1,h2⟩,h3⟩:=h;refine⟨λh0=>(by rw[h1]at h0;cases h0),λi hi=>?_⟩;rw[h1]at hi;have him:i=m:=by simpa using hi
  subst him;exact wpOpIn_mono (λa w h=>⟨h2,h⟩) (hQ x a w hs h3)
 |f+1,n',x,a,w,hs,h=>by
  refine⟨λh0=>absurd h0 h.1,λi hi=>?_⟩;have h1:=(h.2 i hi).2;unfold Tn at h1;unfold wpOpIn;cases ho:ops[i]? with
  |none=>
   simp only[ho]at h1;exact pd hn hQ f _ x a w hs h1
  |some o=>
   simp only[ho]at h1;have h2:=tK (Q':=Q') hn h1 hs λx' a' w' Sj hk=>pd hn hQ f _ x' a' w' Sj hk;by_cases hw:Region.wanted o (yielded ops a.tmps)=true
   .rw[aI hw]at h2;simp only[hw,if_true];exact Dz (kz h2.1) h2.2
   .rw[aK hw]at h2;simp only[hw];exact⟨λ_ _=>trivial,h2⟩
def yJ{ops:Array Oper}{m:Nat}{Q:St->Prop}{i:Nat}{oi:Oper}(hi:ops[i]?=some oi)(him:i≠m)(hm:((Region.before ops).getD m 0).testBit i=true):
 ∀(f:Nat) (n':Array Bool) (x:St),WG x.U->jk ops n'->
 (∀j oj,ops[j]?=some oj->j≠i->n'.getD j true=false->((Region.before ops).getD j 0).testBit i=false->jg (bO P n ops oi) (bO P n ops oj)=true)->
 i∈Region.ready .any ops n'->T P (bO P n ops oi) x (rB P n ops m Q f (n'.setIfInBounds i true))->rB P n ops m Q (f+1) n' x:=by
 have hnotj:∀(n':Array Bool),jk ops n'->i∈Region.ready .any ops n'->∀j,j∈Region.ready .any ops n'->((Region.before ops).getD j 0).testBit i=false:=λn' Tr hr j hj=>by
  obtain⟨Yl,oj,Wd,TI⟩:=mem_ready.1 hj;cases hb:((Region.before ops).getD j 0).testBit i with
  |false=>rfl
  |true=>
   exfalso;have h1:=lx Tr j oj i Wd hb TI;have h0:=(mem_ready.1 hr).1;rcases Nat.lt_or_ge i n'.size with h'|h'
   .simp[h']at h0 h1;rw[h0]at h1;cases h1
   .simp[Array.getElem?_eq_none h']at h1
 have hjm:∀(n':Array Bool),jk ops n'->i∈Region.ready .any ops n'->∀j,j∈Region.ready .any ops n'->j≠m:=λn' Tr hr j hj e=>by
  have:=hnotj n' Tr hr j hj;rw[e,hm]at this;cases this
 intro f
 induction f with
 |zero=>
  intro n' x Un Tr _ hr H;refine⟨λh=>(by rw[h]at hr;cases hr),λj hj=>⟨hjm n' Tr hr j hj,?_⟩⟩;by_cases Ui:j=i
  .subst Ui;unfold Tn;simp only[hi];exact H
  .have:=ready_mono hj Ui;obtain⟨x',SE⟩:=H.exists Un;rw[SE.1.1]at this;exact absurd (by simpa using this) (hjm n' Tr hr j hj)
 |succ f ih=>
  intro n' x Un Tr VU hr H;refine⟨λh=>(by rw[h]at hr;cases hr),λj hj=>⟨hjm n' Tr hr j hj,?_⟩⟩;by_cases Ui:j=i
  .subst Ui;unfold Tn;simp only[hi];exact H
  .obtain⟨Yl,oj,Wd,TI⟩:=mem_ready.1 hj;have hnot:=hnotj n' Tr hr j hj;have H2:T P (bO P n ops oi) x λx'=>T P (bO P n ops oj) x' (rB P n ops m Q f ((n'.setIfInBounds i true).setIfInBounds j true)):=by
    refine H.mono λx' SE=>?_;have:=(SE.2 j (ready_mono hj Ui)).2;unfold Tn at this;simpa only[Wd]using this
   have h2:=BA (VU j oj Wd Ui Yl hnot) Un H2;have W5:∀k ok,ops[k]?=some ok->k≠i->(n'.setIfInBounds j true).getD k true=false->
    ((Region.before ops).getD k 0).testBit i=false->jg (bO P n ops oi) (bO P n ops ok)=true:=λk ok hk hki hun Sw=>by
    refine VU k ok hk hki ?_ Sw;by_cases hjk:j=k
    .subst hjk;exact Yl
    .rw[getD_set_ne true hjk]at hun;exact hun
   unfold Tn;simp only[Wd];refine(h2.inf Un).mono λx' SE=>ih (n'.setIfInBounds j true) x' SE.1 (Tr.list hj) W5 (ready_mono hr (Ne.symm Ui)) ?_;rw[Array.setIfInBounds_comm _ _ Ui];exact SE.2
def uN{ops:Array Oper}{m:Nat}{Q:St->Prop}:∀(l:List Oper) (k:Nat) (n':Array Bool) (x:St),WG x.U->jk ops n'->(∀j,j<l.length->l[j]?=ops[k+j]?)->
 Gd P n ops m l.length k n'=true->jq P Q (l.map (bO P n ops)) x->rB P n ops m Q l.length n' x
 |[],_,_,_,_,_,_,hB,h=>⟨by simpa[Gd]using hB,h⟩
 |o::l,k,n',x,Un,Tr,hl,hB,h=>by
  have h0:ops[k]?=some o:=by simpa using(hl 0 (by simp)).symm
  simp only[Uf,Gd,Ba]at hB;obtain⟨⟨hr,hkm,hbit⟩,hf,hB'⟩:=hB;refine yJ h0 (by simpa using hkm) hbit l.length n' x Un Tr (mL h0 hf) (by simpa using hr) ?_;refine(T.inf Un h).mono λx' SE=>?_;exact uN l (k+1) _ x' SE.1 (Tr.list (by simpa using hr)) (λj hj=>by have:=hl (j+1) (by simpa using hj);simpa[Nat.add_assoc,B9 1 j]using this) hB' SE.2
def wq{F:Fr}(hn:F.n=n){ops:Array Oper}(Se:xK P n ops=true){id:Nat}{x:St}{a:Act}{w:World}(hs:fB F x a w){Q:St->Prop}{Q':Exit->Act->World->Prop}
 (hQ:∀x a w,fB F x a w->Q x->wpListIn F.fo 0 P ops Q' (ops.toList.drop (ops.size-1)) a w)(h:jq P Q ((ops.toList.take (ops.size-1)).map (bO P n ops)) x):(Code.region id ops true).wpIn F.fo 0 P Q' a w:=by
 simp only[xK,Ba,US]at Se;obtain⟨hmx,Ul,_,_,hlex⟩:=Se;have Sj:fB F x a { w with drawn:=w.drawn+1 }:=by
  obtain⟨I,hs⟩:=hs;have hk:dB (aO I x.U) (aO I x.U) w { w with drawn:=w.drawn+1 }:=λ_ _ h=>⟨h,rfl⟩
  refine⟨I,⟨⟨hs.sat.size,hs.sat.os,hs.sat.tape,hs.sat.output,hs.sat.same,hs.sat.fin,hs.sat.inj,λid o ho=>?_,hs.sat.fresh,hs.sat.Va⟩,hs.le,hs.size,hs.book.wj hk,λi hi=>?_⟩⟩
  .exact(hs.sat.obj id o ho).mono (dG.refl I) hk (SD _) (λ_ _ _ _=>rfl)
  .exact E'.mono (dG.refl I) hk (SD _) _ _ (hs.slot i hi)
 refine wpIn_region_any hmx ?_;have hlen:(ops.toList.take (ops.size-1)).length=ops.size-1:=by simp
 have hdrop:ops.toList.drop (ops.size-1)=[ops[ops.size-1]'(by omega)]:=by
  rw[jt (by simpa using(by omega:ops.size-1<ops.size))];simp[HA,show ops.size<=ops.size-1+1 by omega]
 have Ua:ops[ops.size-1]?=some (ops[ops.size-1]'(by omega)):=Array.getElem?_eq_getElem (by omega);have hL:=uN (P:=P) (n:=n) (Q:=Q) (m:=ops.size-1) (ops.toList.take (ops.size-1)) 0 (Array.replicate ops.size false) x hs.inf (λm om hm hl=>by
  have u':m<ops.size:=(ny.1 hm).1;rw[VJ,Array.getElem?_replicate,aI u']at hl;simp at hl) (λj hj=>by rw[hlen]at hj;simp[List.getElem?_take,hj]) (by rw[hlen];exact hlex) h
 rw[hlen]at hL;have:=pd (Q':=Q') hn (λx a w hs hq=>by
  have:=hQ x a w hs hq;rw[hdrop]at this;unfold wpOpIn;simpa only[Ua,wpListIn]using this) _ _ _ _ _ Sj hL
 rwa [show ops.size-1+1=ops.size by omega]at this
variable {P:Program} {n:Nat} {st:St} {Q:St->Prop} {k:List It}
def ay.IK{l:List aU}(h:jq P (λx=>ay P n k x Q) l st):ay P n (.code (.Wb true l)::k) st Q:=by
 intro F hn kt hk a w hs;obtain⟨z,UB,rfl,hy,TP⟩:=fj hk;obtain⟨c0,rfl,SV⟩:=ik hy;have VL:∃id ops,c0=.region id ops true/\pH P n ops=true/\ops.toList.map (bO P n ops)=l:=by
  cases c0<;>simp only[ep,reduceCtorEq]at SV;rename_i id ops draw;cases draw
  .simp at SV
  .simp only[Bool.true_and]at SV;split at SV
   .cases SV
   split at SV
   .cases SV
   .rename_i hd;simp only[bV.Wb.injEq,true_and]at SV;exact⟨id,ops,rfl,by simpa using hd,SV⟩
 obtain⟨id,ops,rfl,Se,rfl⟩:=VL;exact yW hn Se hs (λx a w hs h=>h F hn UB TP a w hs) h
def ay.xQ{l e:List aU}(h:jq P (λx=>ay P n (.ops e::k) x Q) l st):ay P n (.code (.xQ l e)::k) st Q:=by
 intro F hn kt hk a w hs;obtain⟨z,UB,rfl,hy,TP⟩:=fj hk;obtain⟨c0,rfl,SV⟩:=ik hy;have VL:∃id ops,c0=.region id ops true/\xK P n ops=true/\(ops.toList.take (ops.size-1)).map (bO P n ops)=l/\(ops.toList.drop (ops.size-1)).map (bO P n ops)=e:=by
  cases c0<;>simp only[ep,reduceCtorEq]at SV;rename_i id ops draw;cases draw
  .simp at SV
  .simp only[Bool.true_and]at SV;split at SV
   .rename_i hd;simp only[bV.xQ.injEq]at SV;exact⟨id,ops,rfl,hd,SV.1,SV.2⟩
   .split at SV<;>cases SV
 obtain⟨id,ops,rfl,Se,rfl,rfl⟩:=VL;exact wq hn Se hs (λx a w hs h=>h F hn (.ops ops (ops.toList.drop (ops.size-1))::UB) (by simp[KI.it,TP]) a w hs) h
def St.lit(st:St):VX->V->St
 |.t d,v=>⟨bb st.s (some d) v,st.U⟩
 |.c _,_=>st
inductive Td where
 |r (todo:List It)
 |d (l:List aU) (todo:List It)
def Kof(P:Program)(n:Nat)(todo:List It)(st:St)(Q:St->Prop):Prop:=match todo with
 |.stop μ::_=>μ st
 |todo=>ay P n todo st Q
def Kof.runs{todo:List It}(h:Kof P n todo st Q):ay P n todo st Q:=by
 cases todo with
 |nil=>exact h
 |cons x k=>cases x<;>first|exact ay.stop h|exact h
def jq.mono{K K':St->Prop}(hk:∀x,K x->K' x):∀{l:List aU} {x:St},jq P K l x->jq P K' l x
 |[],_,h=>hk _ h
 |_::_,_,h=>T.mono (λ_ h=>jq.mono hk h) h
def Go(P:Program)(n:Nat)(t:Td)(st:St)(Q:St->Prop):Prop:=
 match t with
 |.r todo=>Kof P n todo st Q
 |.d l todo=>jq P (λx=>Kof P n todo x Q) l st
def Go.runs{todo:List It}(h:Go P n (.r todo) st Q):ay P n todo st Q:=Kof.runs h
def Go.chain{l:List aU}(h:Go P n (.d l k) st Q):jq P (λx=>ay P n k x Q) l st:=jq.mono (λ_ h=>Kof.runs h) h
def eA{α:Type}(o:Option α)(k:α->Prop):Prop:=match o with
 |some v=>k v
 |none=>False
def sH{α:Type}(v:α)(k:α->Prop):eA (some v) k=k v:=rfl
def iO{α:Type}{o:Option α}{k:α->Prop}:eA o k↔∃v,o=some v/\k v:=by cases o<;>simp[eA]
def eN(v:V)(k:Bool->Prop)(z:Prop):Prop:=match v with
 |.bool c=>k c
 |.Sa []=>z
 |.int _ _=>z
 |_=>False
def mD{v:V}{k:Bool->Prop}{z:Prop}(h:eN v k z):(∃c,v=.bool c/\k c)\/(v=.Sa []/\z)\/(∃q m,v=.int q m/\z):=by
 unfold eN at h;split at h
 .exact .inl ⟨_,rfl,h⟩
 .exact .inr (.inl ⟨rfl,h⟩)
 .exact .inr (.inr ⟨_,_,rfl,h⟩)
 .exact h.elim
def both(c b:Bool)(x y:Prop):Prop:=(c=b->x)/\(c=!b->y)
def cm(s:Nat->V)(U:al):SH->Option al
 |.store sz xa xv=>cB U sz (xa.ev s) (xv.ev s)
 |_=>none
structure Tx(P:Program) where
 get:FuncId->List V->al->Option V
 ok:∀f args U v,get f args U=some v->aG P f args U λr Z'=>r=v/\Z'=U
 up:∀f args U Z' v,aa U Z'->get f args U=some v->get f args Z'=some v:=by intros;assumption
def Tx.nothing:Tx P where
 get _ _ _:=none
 ok _ _ _ _ h:=by cases h
def xi(O:Tx P)(s:Nat->V)(U:al):SH->Option V
 |.call fx xs=>match fx.ev s with
   |.fn f caps=>O.get f (xs.map (·.ev s)++caps) U
   |_=>none
 |_=>none
def xP(o:Option V)(k:V->Prop)(z:Prop):Prop:=match o with
 |some v=>k v
 |none=>z
def pP{o:Option V}{k:V->Prop}{z:Prop}(h:xP o k z):(∃v,o=some v/\k v)\/z:=by
 cases o with
 |none=>exact .inr h
 |some v=>exact .inl ⟨v,rfl,h⟩
def yN(q:Nat)(a b c d g:Prop):Prop:=match q with
 |0=>a
 |1=>b
 |2=>c
 |3=>d
 |_=>g
def oO{q:Nat}{a b c d g:Prop}(h:yN q a b c d g):(q=0/\a)\/(q=1/\b)\/(q=2/\c)\/(q=3/\d)\/g:=by
 unfold yN at h;split at h<;>simp_all
def tc(O:Tx P)(q:Nat)(d:Option Nat)(op:SH)(st:St)(k:St->Prop)(z:Prop):Prop:=
 yN q (fW st.s op/\eA (aV st.U st.s op) λv=>k ⟨bb st.s d v,st.U⟩)
  (xP (xi O st.s st.U op) (λv=>k ⟨bb st.s d v,st.U⟩) z)
  (eA (cm st.s st.U op) λZ'=>k ⟨bb st.s d (.Sa []),Z'⟩)
  (eA (Ty st.s st.U op) λg=>∀id,st.U id=none->k ⟨bb st.s d (g id).1,(g id).2⟩) z
def step(P:Program)(O:Tx P)(n:Nat):Nat->Td->St->(St->Prop)->Prop
 |0,t,st,Q=>Go P n t st Q
 |f+1,t,st,Q=>match t with
  |.d l k=>match l with
   |[]=>step P O n f (.r k) st Q
   |i::l=>match i.g with
    |none=>tc O (bp i.op) i.dst i.op st (λst=>step P O n f (.d l k) st Q) (Go P n (.d (i::l) k) st Q)
    |some (x,b)=>eN (x.ev st.s) (λc=>both c b
       (tc O (bp i.op) i.dst i.op (st.lit x (.bool b)) (λst=>step P O n f (.d l k) st Q) (Go P n (.d (i::l) k) (st.lit x (.bool b)) Q))
       (step P O n f (.d l k) ⟨bb (st.lit x (.bool !b)).s i.dst (.Sa []),(st.lit x (.bool !b)).U⟩ Q))
       (step P O n f (.d l k) ⟨bb st.s i.dst (.Sa []),st.U⟩ Q)
  |.r todo=>match todo with
   |[]=>Q st
   |.stop μ::_=>μ st
   |.inBlock _::k=>step P O n f (.r k) st Q
   |.ops []::k=>step P O n f (.r k) st Q
   |.ops (i::l)::k=>match i.g with
    |none=>tc O (bp i.op) i.dst i.op st (λst=>step P O n f (.r (.ops l::k)) st Q) (ay P n (.ops (i::l)::k) st Q)
    |some (x,b)=>eN (x.ev st.s) (λc=>both c b
       (tc O (bp i.op) i.dst i.op (st.lit x (.bool b)) (λst=>step P O n f (.r (.ops l::k)) st Q) (ay P n (.ops (i::l)::k) (st.lit x (.bool b)) Q))
       (step P O n f (.r (.ops l::k)) ⟨bb (st.lit x (.bool !b)).s i.dst (.Sa []),(st.lit x (.bool !b)).U⟩ Q))
       (step P O n f (.r (.ops l::k)) ⟨bb st.s i.dst (.Sa []),st.U⟩ Q)
   |.code c::k=>match c with
    |.skip=>step P O n f (.r k) st Q
    |.seq a b=>step P O n f (.r (.code a::.code b::k)) st Q
    |.block id a=>step P O n f (.r (.code a::.inBlock id::k)) st Q
    |.exit id=>eA (eo id k) λk'=>step P O n f (.r k') st Q
    |.ret=>Q st
    |.cond c a b=>eN (c.ev st.s) (λt=>both t true (step P O n f (.r (.code a::k)) st Q) (step P O n f (.r (.code b::k)) st Q)) False
    |.Wb draw l=>match draw with
     |false=>step P O n f (.r (.ops l::k)) st Q
     |true=>step P O n f (.d l k) st Q
    |.loop a=>ay P n (.code (.loop a)::k) st Q
    |.gX g ps a b=>ay P n (.code (.gX g ps a b)::k) st Q
    |.WY l Sv=>ay P n (.code (.WY l Sv)::k) st Q
    |.xQ l e=>step P O n f (.d l (.ops e::k)) st Q
    |.bad=>False
def yc{st:St}{x:VX}{v:V}(h:x.ev st.s=v):st.lit x v=st:=by
 cases x with
 |t d=>
  simp only[VX.ev]at h;have:bb st.s (some d) v=st.s:=by
   funext i;simp only[bb];split
   .rename_i e;rw[e,h]
   .rfl
  simp[St.lit,this]
 |c _=>rfl
def ay.cB{i:aU}{l:List aU}{sz:Nat}{xa xv:VX}(hw:bt st.s i.g=some true)(ho:i.op=.store sz xa xv){Z':al}
 (h1:Vc.cB st.U sz (xa.ev st.s) (xv.ev st.s)=some Z')(h:ay P n (.ops l::k) ⟨bb st.s i.dst (.Sa []),Z'⟩ Q):ay P n (.ops (i::l)::k) st Q:=by
 unfold Vc.cB at h1;split at h1
 .rename_i id r0 c e1;split at h1
  .rename_i ob e2;split at h1
   .rename_i r e3;split at h1
    .rename_i r' e4;simp only[bh]at h1;subst h1;exact ay.store hw ho e1 e2 e3 e4 h
    .cases h1
   .cases h1
  .cases h1
 .cases h1
def ay.Ty{i:aU}{l:List aU}(hw:bt st.s i.g=some true){g:Nat->V×al}(hg:Vc.Ty st.s st.U i.op=some g)
 (h:∀id,st.U id=none->ay P n (.ops l::k) ⟨bb st.s i.dst (g id).1,(g id).2⟩ Q):ay P n (.ops (i::l)::k) st Q:=by
 cases Sc:i.op<;>rw[Sc]at hg<;>simp only[Vc.Ty,reduceCtorEq]at hg
 case box e sz xv=>
  split at hg
  .rename_i hc;simp only[bh]at hg;subst hg;exact ay.box hw Sc hc.1 hc.2 h
  .cases hg
 case alloc e sz z=>
  simp only[bh]at hg;subst hg;exact ay.alloc hw Sc h
 case iW e sz xs=>
  split at hg
  .rename_i hc;simp only[bh]at hg;subst hg;refine ay.iW hw Sc (λx hx=>?_) h;have:=gj.1 hc x hx;simpa using this
  .cases hg
 case mk e sz bytes zv x=>
  split at hg
  .rename_i m hm;split at hg
   .rename_i hc;simp only[bh]at hg;subst hg;exact ay.mkS hw Sc hm hc.1 hc.2 h
   .cases hg
  .cases hg
 case Yh e sz bytes zv y x=>
  split at hg
  .rename_i kq m hy hm;split at hg
   .rename_i hc;simp only[bh]at hg;subst hg;exact ay.MP hw Sc hy hm hc.1 hc.2 h
   .cases hg
  .cases hg
 case append e sz bytes xa xb=>
  split at hg
  .rename_i base idA src e1 e2;split at hg
   .rename_i hb;simp only[bh]at hg;subst hg;exact ay.append hw Sc e1 e2 hb h
   .cases hg
  .cases hg
def o3{i:aU}{K:St->Prop}(hw:bt st.s i.g=some true)(h:TO P i.dst i.op st K):T P i st K:=by unfold T;simp only[hw];exact h
def x6{i:aU}{K:St->Prop}(hw:bt st.s i.g=some false)(h:K ⟨bb st.s i.dst (.Sa []),st.U⟩):T P i st K:=by unfold T;simp only[hw];exact h
def vk{O:Tx P}{s:Nat->V}{U:al}{op:SH}{v:V}(h:xi O s U op=some v):
 ∃fx xs f caps,op=.call fx xs/\fx.ev s=.fn f caps/\∀Z1,aa U Z1->aG P f (xs.map (·.ev s)++caps) Z1 λr Z'=>r=v/\Z'=Z1:=by
 unfold xi at h;split at h
 .rename_i fx xs;split at h
  .rename_i f caps hf;exact⟨fx,xs,f,caps,rfl,hf,λZ1 h1=>O.ok _ _ _ _ (O.up _ _ _ _ _ h1 h)⟩
  .cases h
 .cases h
def ay.vx{O:Tx P}{i:aU}{l:List aU}{st:St}(hw:bt st.s i.g=some true){K:St->Prop}(hK:∀st,K st->ay P n (.ops l::k) st Q)
 (h:tc O (bp i.op) i.dst i.op st K (ay P n (.ops (i::l)::k) st Q)):ay P n (.ops (i::l)::k) st Q:=by
 unfold tc at h;rcases oO h with⟨_,h1,h⟩|⟨_,h⟩|⟨_,h⟩|⟨_,h⟩|h
 .obtain⟨v,hv,h⟩:=iO.1 h;exact ay.pure hw h1 hv (hK _ h)
 .rcases pP h with⟨v,hv,h⟩|h
  .obtain⟨fx,xs,f,caps,ho,hf,hc⟩:=vk hv;refine ay.call hw ho hf (hc _ (aa.refl _)) ?_;rintro r Z' ⟨rfl,rfl⟩;exact hK _ h
  .exact h
 .obtain⟨Z',hs,h⟩:=iO.1 h;cases Sc:i.op<;>rw[Sc]at hs<;>simp only[cm,reduceCtorEq]at hs;exact ay.cB hw Sc hs (hK _ h)
 .obtain⟨g,hgg,h⟩:=iO.1 h;exact ay.Ty hw hgg λid L'=>hK _ (h id L')
 .exact h
def Go.vx{O:Tx P}{i:aU}{l:List aU}{st:St}(hw:bt st.s i.g=some true){K:St->Prop}(hK:∀st,K st->Go P n (.d l k) st Q)
 (h:tc O (bp i.op) i.dst i.op st K (Go P n (.d (i::l) k) st Q)):Go P n (.d (i::l) k) st Q:=by
 unfold tc at h;rcases oO h with⟨hk,h1,h⟩|⟨hk,h⟩|⟨_,h⟩|⟨hk,h⟩|h
 .obtain⟨v,hv,h⟩:=iO.1 h;refine o3 hw ?_;unfold TO;simp only[hk];exact⟨h1,v,hv,hK _ h⟩
 .rcases pP h with⟨v,hv,h⟩|h
  .obtain⟨fx,xs,f,caps,ho,hf,hc⟩:=vk hv;refine o3 hw ?_;rw[ho];exact⟨f,caps,v,hf,hc,hK _ h⟩
  .exact h
 .obtain⟨Z',hs,h⟩:=iO.1 h;refine o3 hw ?_;cases Sc:i.op<;>rw[Sc]at hs<;>simp only[cm,reduceCtorEq]at hs;exact⟨Z',hs,hK _ h⟩
 .obtain⟨g,hgg,h⟩:=iO.1 h;refine o3 hw ?_;unfold TO;simp only[hk];exact⟨g,hgg,λid L'=>hK _ (h id L')⟩
 .exact h
def Go.bB(O:Tx P):∀(f:Nat) (t:Td) (st:St),step P O n f t st Q->Go P n t st Q
 |0,_,_,h=>h
 |f+1,.d [] k,st,h=>Go.bB O f (.r k) st h
 |f+1,.d (i::l) k,st,h=>by
  simp only[step]at h;split at h
  .rename_i hg;have hw:bt st.s i.g=some true:=by simp[hg,bt]
   exact Go.vx hw (λst h=>Go.bB O f (.d l k) st h) h
  .rename_i x b hg;rcases mD h with⟨c,hc,h⟩|⟨hc,h⟩|⟨q,m,hc,h⟩
   .by_cases hcb:c=b
    .subst hcb;have h1:=h.1 rfl;have hw:bt st.s i.g=some true:=by simp[hg,bt,hc]
     rw[yc hc]at h1;exact Go.vx hw (λst h=>Go.bB O f (.d l k) st h) h1
    .have hcb':c=!b:=by revert hcb;cases c<;>cases b<;>simp
     have h2:=h.2 hcb';rw[yc (by rw[hc,hcb'])]at h2;exact x6 (by simp only[hg,bt,hc];rw[hcb'];cases b<;>rfl) (Go.bB O f (.d l k) _ h2)
   .exact x6 (by simp[hg,bt,hc]) (Go.bB O f (.d l k) _ h)
   .exact x6 (by simp[hg,bt,hc]) (Go.bB O f (.d l k) _ h)
 |f+1,.r [],_,h=>ay.nil h
 |f+1,.r (.stop _::_),_,h=>h
 |f+1,.r (.inBlock _::k),st,h=>ay.inBlock (Go.bB O f (.r k) st h).runs
 |f+1,.r (.ops []::k),st,h=>ay.IS (Go.bB O f (.r k) st h).runs
 |f+1,.r (.ops (i::l)::k),st,h=>by
  simp only[step]at h;split at h
  .rename_i hg;have hw:bt st.s i.g=some true:=by simp[hg,bt]
   exact ay.vx hw (λst h=>(Go.bB O f (.r (.ops l::k)) st h).runs) h
  .rename_i x b hg;rcases mD h with⟨c,hc,h⟩|⟨hc,h⟩|⟨q,m,hc,h⟩
   .by_cases hcb:c=b
    .subst hcb;have h1:=h.1 rfl;have hw:bt st.s i.g=some true:=by simp[hg,bt,hc]
     rw[yc hc]at h1;exact ay.vx hw (λst h=>(Go.bB O f (.r (.ops l::k)) st h).runs) h1
    .have hcb':c=!b:=by revert hcb;cases c<;>cases b<;>simp
     have h2:=h.2 hcb';rw[yc (by rw[hc,hcb'])]at h2;exact ay.yx (by simp only[hg,bt,hc];rw[hcb'];cases b<;>rfl) (Go.bB O f (.r (.ops l::k)) _ h2).runs
   .exact ay.yx (by simp[hg,bt,hc]) (Go.bB O f (.r (.ops l::k)) _ h).runs
   .exact ay.yx (by simp[hg,bt,hc]) (Go.bB O f (.r (.ops l::k)) _ h).runs
 |f+1,.r (.code c::k),st,h=>by
  cases c with
  |skip=>exact ay.skip (Go.bB O f (.r _) _ h).runs
  |seq a b=>exact ay.seq (Go.bB O f (.r _) _ h).runs
  |block id a=>exact ay.block (Go.bB O f (.r _) _ h).runs
  |exit id=>
   simp only[step]at h;obtain⟨k',TP,h⟩:=iO.1 h;exact ay.exit TP (Go.bB O f (.r _) _ h).runs
  |ret=>exact ay.ret h
  |cond c a b=>
   simp only[step]at h;rcases mD h with⟨t,ht,h⟩|⟨_,h⟩|⟨_,_,_,h⟩
   .exact ay.cond ht (λe=>(Go.bB O f (.r _) _ (h.1 e)).runs) (λe=>(Go.bB O f (.r _) _ (h.2 (by rw[e];rfl))).runs)
   .exact h.elim
   .exact h.elim
  |Wb draw l=>
   cases draw
   .exact ay.region (Go.bB O f (.r _) _ h).runs
   .exact ay.IK (Go.bB O f (.d l k) _ h).chain
  |loop a=>exact h
  |gX g ps a b=>exact h
  |WY l Sv=>exact h
  |xQ l e=>exact ay.xQ (Go.bB O f (.d l (.ops e::k)) _ h).chain
  |bad=>exact h.elim
def ay.bB(O:Tx P)(f:Nat){todo:List It}{st:St}(h:step P O n f (.r todo) st Q):ay P n todo st Q:=(Go.bB O f (.r todo) st h).runs
section rules
variable (P:Program) (O:Tx P) (n:Nat) (f:Nat)
def exR(o:Option (List It))(st:St)(Q:St->Prop):Prop:=eA o λk'=>step P O n f (.r k') st Q
def cR(v:V)(a b:bV)(k:List It)(st:St)(Q:St->Prop):Prop:=eN v (λt=>both t true (step P O n f (.r (.code a::k)) st Q) (step P O n f (.r (.code b::k)) st Q)) False
def JR(l:List aU)(k:List It)(d:Option Nat)(st:St)(Q:St->Prop)(o:Option V):Prop:=eA o λv=>step P O n f (.r (.ops l::k)) ⟨bb st.s d v,st.U⟩ Q
def Ft(l:List aU)(k:List It)(d:Option Nat)(st:St)(Q:St->Prop)(o:Option al):Prop:=eA o λZ'=>step P O n f (.r (.ops l::k)) ⟨bb st.s d (.Sa []),Z'⟩ Q
def EJ(l:List aU)(k:List It)(d:Option Nat)(st:St)(Q:St->Prop)(o:Option (Nat->V×al)):Prop:=
 eA o λg=>∀id,st.U id=none->step P O n f (.r (.ops l::k)) ⟨bb st.s d (g id).1,(g id).2⟩ Q
def Fl(l:List aU)(k:List It)(d:Option Nat)(op:SH)(g:Option (VX×Bool))(st:St)(Q:St->Prop)(o:Option V):Prop:=
 xP o (λv=>step P O n f (.r (.ops l::k)) ⟨bb st.s d v,st.U⟩ Q) (ay P n (.ops (⟨d,op,g⟩::l)::k) st Q)
def uS(q:Nat)(d:Option Nat)(op:SH)(g:Option (VX×Bool))(l:List aU)(k:List It)(st:St)(Q:St->Prop):Prop:=
 tc O q d op st (λst=>step P O n f (.r (.ops l::k)) st Q) (ay P n (.ops (⟨d,op,g⟩::l)::k) st Q)
def gR(v:V)(d:Option Nat)(op:SH)(x:VX)(b:Bool)(l:List aU)(k:List It)(st:St)(Q:St->Prop):Prop:=
 eN v (λc=>both c b (uS P O n f (bp op) d op (some (x,b)) l k (st.lit x (.bool b)) Q)
  (step P O n f (.r (.ops l::k)) ⟨bb (st.lit x (.bool !b)).s d (.Sa []),(st.lit x (.bool !b)).U⟩ Q)) (step P O n f (.r (.ops l::k)) ⟨bb st.s d (.Sa []),st.U⟩ Q)
def JO(l:List aU)(k:List It)(d:Option Nat)(st:St)(Q:St->Prop)(o:Option V):Prop:=eA o λv=>step P O n f (.d l k) ⟨bb st.s d v,st.U⟩ Q
def GH(l:List aU)(k:List It)(d:Option Nat)(st:St)(Q:St->Prop)(o:Option al):Prop:=eA o λZ'=>step P O n f (.d l k) ⟨bb st.s d (.Sa []),Z'⟩ Q
def DJ(l:List aU)(k:List It)(d:Option Nat)(st:St)(Q:St->Prop)(o:Option (Nat->V×al)):Prop:=
 eA o λg=>∀id,st.U id=none->step P O n f (.d l k) ⟨bb st.s d (g id).1,(g id).2⟩ Q
def G6(l:List aU)(k:List It)(d:Option Nat)(op:SH)(g:Option (VX×Bool))(st:St)(Q:St->Prop)(o:Option V):Prop:=
 xP o (λv=>step P O n f (.d l k) ⟨bb st.s d v,st.U⟩ Q) (Go P n (.d (⟨d,op,g⟩::l) k) st Q)
def wC(q:Nat)(d:Option Nat)(op:SH)(g:Option (VX×Bool))(l:List aU)(k:List It)(st:St)(Q:St->Prop):Prop:=
 tc O q d op st (λst=>step P O n f (.d l k) st Q) (Go P n (.d (⟨d,op,g⟩::l) k) st Q)
def gD(v:V)(d:Option Nat)(op:SH)(x:VX)(b:Bool)(l:List aU)(k:List It)(st:St)(Q:St->Prop):Prop:=
 eN v (λc=>both c b (wC P O n f (bp op) d op (some (x,b)) l k (st.lit x (.bool b)) Q)
  (step P O n f (.d l k) ⟨bb (st.lit x (.bool !b)).s d (.Sa []),(st.lit x (.bool !b)).U⟩ Q)) (step P O n f (.d l k) ⟨bb st.s d (.Sa []),st.U⟩ Q)
variable {P O n} {f}
def wX(s:Nat->V)(d:Nat)(v:V)(i:Nat):bb s (some d) v i=if i=d then v else s i:=rfl
def wZ(s:Nat->V)(v:V)(i:Nat):bb s none v i=s i:=rfl
def JD(st:St)(d:Nat)(v:V):st.lit (.t d) v=⟨bb st.s (some d) v,st.U⟩:=rfl
def JU(st:St)(u v:V):st.lit (.c u) v=st:=rfl
def OR(s:Nat->V)(d:Nat):VX.ev s (.t d)=s d:=rfl
def LW(s:Nat->V)(v:V):VX.ev s (.c v)=v:=rfl
def EY(d:Option Nat)(op:SH)(g:Option (VX×Bool))(l:List aU):uS P O n f 0 d op g l k st Q=(fW st.s op/\JR P O n f l k d st Q (aV st.U st.s op)):=rfl
def EL(d:Option Nat)(op:SH)(g:Option (VX×Bool))(l:List aU):uS P O n f 1 d op g l k st Q=Fl P O n f l k d op g st Q (xi O st.s st.U op):=rfl
def G3(d:Option Nat)(op:SH)(g:Option (VX×Bool))(l:List aU):uS P O n f 2 d op g l k st Q=Ft P O n f l k d st Q (cm st.s st.U op):=rfl
def Gl(d:Option Nat)(op:SH)(g:Option (VX×Bool))(l:List aU):uS P O n f 3 d op g l k st Q=EJ P O n f l k d st Q (Ty st.s st.U op):=rfl
def EV(d:Option Nat)(op:SH)(g:Option (VX×Bool))(l:List aU):uS P O n f 4 d op g l k st Q=ay P n (.ops (⟨d,op,g⟩::l)::k) st Q:=rfl
def uD(d:Option Nat)(op:SH)(g:Option (VX×Bool))(l:List aU)(v:V):Fl P O n f l k d op g st Q (some v)=step P O n f (.r (.ops l::k)) ⟨bb st.s d v,st.U⟩ Q:=rfl
def ug(d:Option Nat)(op:SH)(g:Option (VX×Bool))(l:List aU):Fl P O n f l k d op g st Q none=ay P n (.ops (⟨d,op,g⟩::l)::k) st Q:=rfl
def yZ(s:Nat->V)(U:al)(fx:VX)(xs:List VX):xi O s U (.call fx xs)=match fx.ev s with
 |.fn f caps=>O.get f (xs.map (·.ev s)++caps) U
 |_=>none:=rfl
def FZ(d:Option Nat)(op:SH)(g:Option (VX×Bool))(l:List aU):wC P O n f 0 d op g l k st Q=(fW st.s op/\JO P O n f l k d st Q (aV st.U st.s op)):=rfl
def GL(d:Option Nat)(op:SH)(g:Option (VX×Bool))(l:List aU):wC P O n f 1 d op g l k st Q=G6 P O n f l k d op g st Q (xi O st.s st.U op):=rfl
def FD(d:Option Nat)(op:SH)(g:Option (VX×Bool))(l:List aU):wC P O n f 2 d op g l k st Q=GH P O n f l k d st Q (cm st.s st.U op):=rfl
def Fa(d:Option Nat)(op:SH)(g:Option (VX×Bool))(l:List aU):wC P O n f 3 d op g l k st Q=DJ P O n f l k d st Q (Ty st.s st.U op):=rfl
def vE(d:Option Nat)(op:SH)(g:Option (VX×Bool))(l:List aU)(v:V):G6 P O n f l k d op g st Q (some v)=step P O n f (.d l k) ⟨bb st.s d v,st.U⟩ Q:=rfl
def vw(d:Option Nat)(op:SH)(g:Option (VX×Bool))(l:List aU):G6 P O n f l k d op g st Q none=Go P n (.d (⟨d,op,g⟩::l) k) st Q:=rfl
def CG:step P O n (f+1) (.r []) st Q=Q st:=rfl
def vV(μ:St->Prop):step P O n (f+1) (.r (.stop μ::k)) st Q=μ st:=rfl
def sk(id:Nat):step P O n (f+1) (.r (.inBlock id::k)) st Q=step P O n f (.r k) st Q:=rfl
def sI:step P O n (f+1) (.r (.ops []::k)) st Q=step P O n f (.r k) st Q:=rfl
def Bl:step P O n (f+1) (.r (.code .skip::k)) st Q=step P O n f (.r k) st Q:=rfl
def CZ(a b:bV):step P O n (f+1) (.r (.code (.seq a b)::k)) st Q=step P O n f (.r (.code a::.code b::k)) st Q:=rfl
def wG(id:Nat)(a:bV):step P O n (f+1) (.r (.code (.block id a)::k)) st Q=step P O n f (.r (.code a::.inBlock id::k)) st Q:=rfl
def y4(id:Nat):step P O n (f+1) (.r (.code (.exit id)::k)) st Q=exR P O n f (eo id k) st Q:=rfl
def A7(k':List It):exR P O n f (some k') st Q=step P O n f (.r k') st Q:=rfl
def CP:step P O n (f+1) (.r (.code .ret::k)) st Q=Q st:=rfl
def Ao(a:bV):step P O n (f+1) (.r (.code (.loop a)::k)) st Q=ay P n (.code (.loop a)::k) st Q:=rfl
def zq(l e:List aU):step P O n (f+1) (.r (.code (.xQ l e)::k)) st Q=step P O n f (.d l (.ops e::k)) st Q:=rfl
def gn(l:List aU)(Sv:List (List Nat)):step P O n (f+1) (.r (.code (.WY l Sv)::k)) st Q=ay P n (.code (.WY l Sv)::k) st Q:=rfl
def ub(g:VX)(ps:List Nat)(a b:bV):step P O n (f+1) (.r (.code (.gX g ps a b)::k)) st Q=ay P n (.code (.gX g ps a b)::k) st Q:=rfl
def Cx(l:List aU):step P O n (f+1) (.r (.code (.Wb false l)::k)) st Q=step P O n f (.r (.ops l::k)) st Q:=rfl
def Ad(l:List aU):step P O n (f+1) (.r (.code (.Wb true l)::k)) st Q=step P O n f (.d l k) st Q:=rfl
def Dm:step P O n (f+1) (.d [] k) st Q=step P O n f (.r k) st Q:=rfl
def An(c:VX)(a b:bV):step P O n (f+1) (.r (.code (.cond c a b)::k)) st Q=cR P O n f (c.ev st.s) a b k st Q:=rfl
def M0(a b:bV):cR P O n f (.bool true) a b k st Q=step P O n f (.r (.code a::k)) st Q:=by simp[cR,eN,both]
def LJ(a b:bV):cR P O n f (.bool false) a b k st Q=step P O n f (.r (.code b::k)) st Q:=by simp[cR,eN,both]
def He(p:Prop)[Decidable p](a b:bV):cR P O n f (.bool (decide p)) a b k st Q=((p->step P O n f (.r (.code a::k)) st Q)/\(¬p->step P O n f (.r (.code b::k)) st Q)):=by simp[cR,eN,both]
def Dw(d:Option Nat)(op:SH)(l:List aU):step P O n (f+1) (.r (.ops (⟨d,op,none⟩::l)::k)) st Q=uS P O n f (bp op) d op none l k st Q:=rfl
def tY(d:Option Nat)(l:List aU)(v:V):JR P O n f l k d st Q (some v)=step P O n f (.r (.ops l::k)) ⟨bb st.s d v,st.U⟩ Q:=rfl
def sc(d:Option Nat)(l:List aU)(Z':al):Ft P O n f l k d st Q (some Z')=step P O n f (.r (.ops l::k)) ⟨bb st.s d (.Sa []),Z'⟩ Q:=rfl
def aH(d:Option Nat)(l:List aU)(g:Nat->V×al):EJ P O n f l k d st Q (some g)=∀id,st.U id=none->step P O n f (.r (.ops l::k)) ⟨bb st.s d (g id).1,(g id).2⟩ Q:=rfl
def Dh(d:Option Nat)(op:SH)(l:List aU):step P O n (f+1) (.d (⟨d,op,none⟩::l) k) st Q=wC P O n f (bp op) d op none l k st Q:=rfl
def uK(d:Option Nat)(l:List aU)(v:V):JO P O n f l k d st Q (some v)=step P O n f (.d l k) ⟨bb st.s d v,st.U⟩ Q:=rfl
def rK(d:Option Nat)(l:List aU)(Z':al):GH P O n f l k d st Q (some Z')=step P O n f (.d l k) ⟨bb st.s d (.Sa []),Z'⟩ Q:=rfl
def aJ(d:Option Nat)(l:List aU)(g:Nat->V×al):DJ P O n f l k d st Q (some g)=∀id,st.U id=none->step P O n f (.d l k) ⟨bb st.s d (g id).1,(g id).2⟩ Q:=rfl
def Bc(d:Option Nat)(op:SH)(x:VX)(b:Bool)(l:List aU):step P O n (f+1) (.r (.ops (⟨d,op,some (x,b)⟩::l)::k)) st Q=gR P O n f (x.ev st.s) d op x b l k st Q:=rfl
def Gb(d:Option Nat)(op:SH)(x:VX)(b:Bool)(l:List aU):gR P O n f (.Sa []) d op x b l k st Q=step P O n f (.r (.ops l::k)) ⟨bb st.s d (.Sa []),st.U⟩ Q:=rfl
def JF(d:Option Nat)(op:SH)(x:VX)(l:List aU):gR P O n f (.bool true) d op x true l k st Q=uS P O n f (bp op) d op (some (x,true)) l k (st.lit x (.bool true)) Q:=by simp[gR,eN,both]
def JL(d:Option Nat)(op:SH)(x:VX)(l:List aU):gR P O n f (.bool false) d op x false l k st Q=uS P O n f (bp op) d op (some (x,false)) l k (st.lit x (.bool false)) Q:=by simp[gR,eN,both]
def JV(d:Option Nat)(op:SH)(x:VX)(l:List aU):gR P O n f (.bool true) d op x false l k st Q=step P O n f (.r (.ops l::k)) ⟨bb (st.lit x (.bool true)).s d (.Sa []),(st.lit x (.bool true)).U⟩ Q:=by simp[gR,eN,both]
def JW(d:Option Nat)(op:SH)(x:VX)(l:List aU):gR P O n f (.bool false) d op x true l k st Q=step P O n f (.r (.ops l::k)) ⟨bb (st.lit x (.bool false)).s d (.Sa []),(st.lit x (.bool false)).U⟩ Q:=by simp[gR,eN,both]
def zE(p:Prop)[Decidable p](d:Option Nat)(op:SH)(x:VX)(l:List aU):gR P O n f (.bool (decide p)) d op x true l k st Q=
 ((p->uS P O n f (bp op) d op (some (x,true)) l k (st.lit x (.bool true)) Q)/\(¬p->step P O n f (.r (.ops l::k)) ⟨bb (st.lit x (.bool false)).s d (.Sa []),(st.lit x (.bool false)).U⟩ Q)):=by simp[gR,eN,both]
def AW(p:Prop)[Decidable p](d:Option Nat)(op:SH)(x:VX)(l:List aU):gR P O n f (.bool (decide p)) d op x false l k st Q=
 ((¬p->uS P O n f (bp op) d op (some (x,false)) l k (st.lit x (.bool false)) Q)/\(p->step P O n f (.r (.ops l::k)) ⟨bb (st.lit x (.bool true)).s d (.Sa []),(st.lit x (.bool true)).U⟩ Q)):=by simp[gR,eN,both]
def zb(d:Option Nat)(op:SH)(x:VX)(b:Bool)(l:List aU):step P O n (f+1) (.d (⟨d,op,some (x,b)⟩::l) k) st Q=gD P O n f (x.ev st.s) d op x b l k st Q:=rfl
def Gy(d:Option Nat)(op:SH)(x:VX)(b:Bool)(l:List aU):gD P O n f (.Sa []) d op x b l k st Q=step P O n f (.d l k) ⟨bb st.s d (.Sa []),st.U⟩ Q:=rfl
def JX(d:Option Nat)(op:SH)(x:VX)(l:List aU):gD P O n f (.bool true) d op x true l k st Q=wC P O n f (bp op) d op (some (x,true)) l k (st.lit x (.bool true)) Q:=by simp[gD,eN,both]
def JY(d:Option Nat)(op:SH)(x:VX)(l:List aU):gD P O n f (.bool false) d op x false l k st Q=wC P O n f (bp op) d op (some (x,false)) l k (st.lit x (.bool false)) Q:=by simp[gD,eN,both]
def JZ(d:Option Nat)(op:SH)(x:VX)(l:List aU):gD P O n f (.bool true) d op x false l k st Q=step P O n f (.d l k) ⟨bb (st.lit x (.bool true)).s d (.Sa []),(st.lit x (.bool true)).U⟩ Q:=by simp[gD,eN,both]
def J4(d:Option Nat)(op:SH)(x:VX)(l:List aU):gD P O n f (.bool false) d op x true l k st Q=step P O n f (.d l k) ⟨bb (st.lit x (.bool false)).s d (.Sa []),(st.lit x (.bool false)).U⟩ Q:=by simp[gD,eN,both]
def Aw(p:Prop)[Decidable p](d:Option Nat)(op:SH)(x:VX)(l:List aU):gD P O n f (.bool (decide p)) d op x true l k st Q=
 ((p->wC P O n f (bp op) d op (some (x,true)) l k (st.lit x (.bool true)) Q)/\(¬p->step P O n f (.d l k) ⟨bb (st.lit x (.bool false)).s d (.Sa []),(st.lit x (.bool false)).U⟩ Q)):=by simp[gD,eN,both]
def zj(p:Prop)[Decidable p](d:Option Nat)(op:SH)(x:VX)(l:List aU):gD P O n f (.bool (decide p)) d op x false l k st Q=
 ((¬p->wC P O n f (bp op) d op (some (x,false)) l k (st.lit x (.bool false)) Q)/\(p->step P O n f (.d l k) ⟨bb (st.lit x (.bool true)).s d (.Sa []),(st.lit x (.bool true)).U⟩ Q)):=by simp[gD,eN,both]
end rules
def aX(P:Program)(f:FuncId)(args:List V)(v:V):Prop:=∀U,aG P f args U λr Z'=>r=v/\Z'=U
variable {P:Program} {n:Nat} {st:St} {Q:St->Prop} {k:List It}
def iK:al:=λ_=>none
def jU(U:al):aa iK U:=λ_ _ h=>by simp[iK]at h
def V.lone:V->Bool
 |.int ..|.bool _|.str _=>true
 |_=>false
def E'.lone{I Y':Mu}{ow T1:Nat->Prop}{w w':World}{v:V}{x:Value}(hv:v.lone=true)(h:E' I ow w v x):E' Y' T1 w' v x:=by
 cases v<;>simp only[V.lone,jb]at hv<;>simpa[E']using h
def aD(v:V)(U:al)(Post:V->al->Prop):Prop:=∃v' Z',aa Z' U/\Wk U Z' v v'/\Post v' Z'
def Ct{s:Nat->V}{U:al}{d:Nat}{Post:V->al->Prop}:WT [.tmp (.t d)] ⟨s,U⟩ Post=aD (s d) U Post:=by
 apply propext;simp only[WT,aD,tk,iT,jA,VX.ev];constructor
 .rintro⟨v,v',Z',h1,h2⟩;simp only[bh]at h1;subst h1;exact⟨v',Z',h2⟩
 .rintro⟨v',Z',h2⟩;exact⟨_,v',Z',rfl,h2⟩
def CX{s:Nat->V}{U:al}{d e:Nat}{Post:V->al->Prop}:WT [.tmp (.t d),.tmp (.t e)] ⟨s,U⟩ Post=aD (.Sa [s d,s e]) U Post:=by
 apply propext;simp only[WT,aD,tk,iT,jA,VX.ev];constructor
 .rintro⟨v,v',Z',h1,h2⟩;simp only[bh]at h1;subst h1;exact⟨v',Z',h2⟩
 .rintro⟨v',Z',h2⟩;exact⟨_,v',Z',rfl,h2⟩
def wE{s:Nat->V}{U:al}{d e g:Nat}{Post:V->al->Prop}:WT [.tmp (.t d),.tmp (.t e),.tmp (.t g)] ⟨s,U⟩ Post=aD (.Sa [s d,s e,s g]) U Post:=by
 apply propext;simp only[WT,aD,tk,iT,jA,VX.ev];constructor
 .rintro⟨v,v',Z',h1,h2⟩;simp only[bh]at h1;subst h1;exact⟨v',Z',h2⟩
 .rintro⟨v',Z',h2⟩;exact⟨_,v',Z',rfl,h2⟩
def A5{st:St}{Post:V->al->Prop}:WT [] st Post=aD (.Sa []) st.U Post:=by
 apply propext;simp only[WT,aD,tk,iT];constructor
 .rintro⟨v,v',Z',h1,h2⟩;simp only[bh]at h1;subst h1;exact⟨v',Z',h2⟩
 .rintro⟨v',Z',h2⟩;exact⟨_,v',Z',rfl,h2⟩
def aD.pure{v v0:V}{U Z1:al}(h:aa U Z1)(hv:v=v0):aD v Z1 λr Z'=>r=v0/\Z'=U:=
 ⟨v,U,h,Wk.refl h v,hv,rfl⟩
def aD.same{v v0:V}{U:al}(hv:v=v0):aD v U λr Z'=>r=v0/\Z'=U:=.pure (aa.refl U) hv
def gP{U:al}{id i:Nat}{o:Ob}:C' U id o i=none↔i≠id/\U i=none:=by
 unfold C';split<;>simp_all
def aA{U:al}{id:Nat}{o:Ob}:C' U id o id=some o:=by simp[C']
def ad{U:al}{id i:Nat}{o:Ob}(h:i≠id):C' U id o i=U i:=by simp[C',h]
def So{U J:al}{i j:Nat}{o:Ob}{x:Option Ob}(h:C' U j o=J)(n:i≠j)(a:U i=x):J i=x:=by subst h;rw[ad n];exact a
def Ti{U J:al}{j:Nat}{o:Ob}(h:C' U j o=J):J j=some o:=by subst h;exact aA
def eV{U:al}{id i:Nat}(h:i≠id):del U id i=U i:=by simp[del,h]
def tv{U:al}{id:Nat}{a b:Ob}:C' (C' U id a) id b=C' U id b:=by
 funext i;simp only[C'];split<;>rfl
def CM{U:al}{id:Nat}{a:Ob}(h:U id=none):del (C' U id a) id=U:=by
 funext i;simp only[del,C'];split
 .rename_i e;rw[e,h]
 .rfl
def aa.C'{Z' U:al}{id:Nat}{o:Ob}(h:aa Z' U)(L':U id=none):aa Z' (Vc.C' U id o):=
 h.HT (by
  cases hs:Z' id with
  |none=>rfl
  |some x=>have:=h id x hs;rw[L']at this;cases this)
def aa.LB{U Z':al}{id:Nat}{o:Ob}(h:aa U Z'):aa (Vc.C' U id o) (Vc.C' Z' id o):=λi x hx=>by
 simp only[Vc.C']at hx|-;split at hx
 .rename_i e;rw[aI e];exact hx
 .rename_i e;rw[aK e];exact h i x hx
variable {P:Program} {n:Nat} {st:St} {Q:St->Prop} {k:List It} {I:Mu} {w:World}
def DO{rows:List V}{sz:Nat}(h:∀r∈rows,r.cells.length=sz)(k:Nat):flat (rows.drop k)=(flat rows).drop (k*sz):=by
 induction rows generalizing k with
 |nil=>simp[flat]
 |cons r rs ih=>
  have e:∀l,flat (r::l)=r.cells++flat l:=λl=>by simp[flat]
  cases k with
  |zero=>simp[flat]
  |succ k=>
   rw[List.drop_succ_cons,e,ih (λx hx=>h x (by simp[hx])),Nat.add_mul,Nat.one_mul,B9,<-h r (by simp),<-List.drop_drop,List.drop_left]
def aB.replicate{ow:Nat->Prop}{vs:List V}{l:List Value}(h:aB I ow w vs l):∀n,aB I ow w (List.replicate n vs).flatten (List.replicate n l).flatten
 |0=>by simp[aB]
 |n+1=>by
  simp only[List.replicate_succ,List.flatten_cons];exact h.append (aB.replicate h n)
def AA{F:Fr}{a:Act}(hs:dS F I st a w){o:Oper}{x:Operand}{t e:TypeId}{args:Array Operand}{argTypes:Array TypeId}{i:TypeInfo}{z:Value}
 (Yi:o.op=.call { callee:=.builtin .clear,args:=args,argTypes:=argTypes })(harg:args=#[x])(VQ:argTypes[0]?=some t)
 (ht:P.underlying t=some (.slice e))(hz:zeroOf P e=some (i,z)){id off len:Nat}(h1:(cx F.n x).ev st.s=.own id off len){ob:Ob}(h2:st.U id=some ob)
 (h3:ob.sz=i.size)(h4:off+len<=ob.rows.length):
 ∃y w',(execOp a.eval o).run P w=.ok (.value y) w'/\
  dS F I ⟨bb st.s (o.dst.filter (·<F.n)) (.Sa []),C' st.U id { ob with rows:=ob.rows.take off++List.replicate len (ofValue z)++ob.rows.drop (off+len) }⟩ (a.put o.dst y) w':=by
 obtain⟨hi,hz0,hk,hzs,Sz,TU⟩:=fG hz;have R:=cO hs;have hx:=R x;rw[h1]at hx;simp only[E']at hx;have SQ:∀w',(Builtin.clear_ argTypes o.type #[a.eval x]).run P w=.ok (.tuple #[]) w'->(execOp a.eval o).run P w=.ok (.value (.tuple #[])) w':=by
  intro w' hw';unfold execOp;rw[Yi];simp[resolve,invoke,Go.builtin,harg,hw']
 have TV:E' I (aO I st.U) w (.Sa []) (.tuple #[]):=by simp only[E'];exact⟨[],rfl,by simp[aB]⟩
 have hzero:len=0->∃y w',(execOp a.eval o).run P w=.ok (.value y) w'/\
  dS F I ⟨bb st.s (o.dst.filter (·<F.n)) (.Sa []),C' st.U id { ob with rows:=ob.rows.take off++List.replicate len (ofValue z)++ob.rows.drop (off+len) }⟩ (a.put o.dst y) w':=by
  intro h0;subst h0;have hX:∃b c,a.eval x=.slice b 0 c:=by
   split at hx
   .exact hx.elim
   .exact⟨_,_,hx.1⟩
   .obtain⟨o',c,h,_⟩:=hx;exact⟨_,_,h⟩
  obtain⟨b,c,hX⟩:=hX;have Sg:C' st.U id { ob with rows:=ob.rows.take off++List.replicate 0 (ofValue z)++ob.rows.drop (off+0) }=st.U:=by
   funext j;simp only[C',List.replicate_zero,kr,Nat.add_zero,Bb];split
   .rename_i e';rw[e',h2]
   .rfl
  rw[Sg];refine⟨.tuple #[],w,SQ w ?_,hs.pure TV⟩;rw[hX];cases b<;>simp[Builtin.clear_,VQ,run_underlying ht]
 split at hx
 .exact hx.elim
 .exact hzero hx.2.2
 .rename_i b Wt cap L';obtain⟨o',c,hX,c1,c2,c3,hz0⟩:=hx;by_cases h0:len=0
  .exact hzero h0
  have TT:=hs.sat.obj id ob h2;rw[L']at TT;obtain⟨cur,e1,e2,e3,e4,e5,e6,e7⟩:=TT.plain hz0;obtain⟨g1,xs,g2,g3,g4,g5⟩:=e7.cur e1;have hoff:o'=off*Wt:=by
   rcases c3 with c3|c3
   .exact c3
   .omega
  subst hoff;have Sj:Wt=i.size:=by omega
  subst Sj;have hzl:z.cells.size=i.size:=hzs;have hnews:=kR z.cells len;have T9:(Builtin.zeroCells z.cells len).toList.length=len*i.size:=by rw[hnews];simp[hzl]
  have hbound:off*i.size+len*i.size<=ob.rows.length*i.size:=by rw[<-Nat.add_mul];exact Nat.mul_le_mul_right _ h4
  have hbound2:ob.rows.length*i.size<=cap*i.size:=Nat.mul_le_mul_right _ e5;have hone':∀u∈(Builtin.zeroCells z.cells len).toList,u.oneCell'=true:=by
   rw[hnews];intro u hu;simp only[List.mem_flatten,List.mem_replicate]at hu;obtain⟨l,⟨_,rfl⟩,hu⟩:=hu;exact Sz u hu
  have Sg:=run_storeCells_at P b (off*i.size) ob.elem (Builtin.zeroCells z.cells len).toList 0 cur w e1 (by rw[T9];omega) hone';simp only[Nat.add_zero]at Sg;refine⟨.tuple #[],w.setRow b (cur.toList.take (off*i.size)++(Builtin.zeroCells z.cells len).toList++cur.toList.drop (off*i.size+(Builtin.zeroCells z.cells len).toList.length)).toArray,SQ _ ?_,?_⟩
  .rw[hX];obtain⟨m,rfl⟩:∃m,len=m+1:=⟨len-1,by omega⟩
   simp only[Builtin.clear_,VQ,Sem.run_bind,List.getElem?_toArray,Sem.run_pure,Result.andThen_ok,run_underlying ht,eQ hz];simp[Sg,run_underlying ht,eQ hz]
  .have hgrow:w.grownBy (w.setRow b (cur.toList.take (off*i.size)++(Builtin.zeroCells z.cells len).toList++cur.toList.drop (off*i.size+(Builtin.zeroCells z.cells len).toList.length)).toArray) (some b):=
    ⟨rfl,rfl,rfl,by simp,λkk _ ZD=>setRow_other w b kk _ (λe=>ZD (by rw[e]))⟩
   have hzc:(ofValue z).cells.length=i.size:=by rw[iD Sz];simp[hzl]
   have hrows':∀q∈ob.rows.take off++List.replicate len (ofValue z)++ob.rows.drop (off+len),q.cells.length=i.size:=by
    intro q hq;simp only[gl]at hq;rcases hq with(hq|hq)|hq
    .exact g1 q (ym hq)
    .rw[(List.mem_replicate.1 hq).2];exact hzc
    .exact g1 q (List.mem_of_mem_drop hq)
   have YY:flat (ob.rows.take off++List.replicate len (ofValue z)++ob.rows.drop (off+len))=
    (flat ob.rows).take (off*i.size)++(List.replicate len (ofValue z).cells).flatten++(flat ob.rows).drop (off*i.size+len*i.size):=by
    rw[lD,lD,uE,xy g1];congr 1;rw[DO g1,Nat.add_mul]
   have hzr:aB I (aO I st.U) w (ofValue z).cells z.cells.toList:=by rw[iD Sz];exact gg _
   have hch:=hs.sat.change h2 L' (by omega) hgrow _ (ob.rows.take off++List.replicate len (ofValue z)++ob.rows.drop (off+len)) (xs.take (off*i.size)++(Builtin.zeroCells z.cells len).toList++xs.drop (off*i.size+(Builtin.zeroCells z.cells len).toList.length))
    (setRow_heap w b cur _ ob.elem _ e1) (by simp only[List.size_toArray,kL,mf,D5,T9];rw[Array.length_toList];omega) (by simp;omega) hrows'
    (by rw[YY,T9,hnews];exact((g2.take _).append (hzr.replicate len)).append (g2.drop _))
    (by intro u hu
        simp only[gl]at hu;rcases hu with(hu|hu)|hu
        .exact g3 u (ym hu)
        .exact hone' u hu
        .exact g3 u (List.mem_of_mem_drop hu))
    (by intro j u hu
        have:=oM cur.toList xs _ g5 (off*i.size) (by rw[T9,g4];omega) j u hu;simpa using this)
   exact hs.step hch.1 (dG.refl _) hch.2 (by simp) (by simp only[E'];exact⟨[],rfl,by simp[aB]⟩)
def ay.clear{i:aU}{l:List aU}{sz:Nat}{z:V}{xv:VX}(hw:bt st.s i.g=some true)(ho:i.op=.clear sz z xv)
 {id off len:Nat}(h1:xv.ev st.s=.own id off len){ob:Ob}(h2:st.U id=some ob)(h3:ob.sz=sz)(h4:off+len<=ob.rows.length)
 (h:ay P n (.ops l::k) ⟨bb st.s i.dst (.Sa []),C' st.U id { ob with rows:=ob.rows.take off++List.replicate len z++ob.rows.drop (off+len) }⟩ Q):ay P n (.ops (i::l)::k) st Q:=by
 refine ay.ins (by rw[ho];simp) hw λF hn I a w o all hi hs next Q' R8=>?_
 subst hn;obtain⟨Sc,hd⟩:=fD hi;rw[ho]at Sc;obtain⟨x,t,e,args,argTypes,ti,zv,g1,g2,g3,g4,g5,rfl,rfl,rfl⟩:=Eb Sc;obtain⟨y,w',hx,Sj⟩:=AA hs g1 g2 g3 g4 g5 h1 h2 h3 h4;unfold Oper.wp;rw[hx];refine R8 _ _ _ ⟨I,?_⟩ h;rw[<-hd];exact Sj
def Gh{y:Operand}{t:TypeId}{v:V}:cx n y≠.c (.iface t v):=by
 cases y
 case tmp m=>simp only[cx];split<;>simp
 case const u=>
  simp only[cx,ne_eq,VX.c.injEq];unfold ofValue;split
  .split<;>simp
  .unfold cellOf
   repeat' split
   all_goals simp
 all_goals simp[cx]
def Be{o:Op}{xa:VX}(h:SC P n o=.Vr false xa (.c (.iface 0 .undef))):∃t x y m c yt e,o=.binOp .eql t x y yt/\y=.const (.slice none m c)/\P.underlying t=some (.slice e)/\cx n x=xa:=by
 cases o
 case binOp op t x y yt=>
  simp only[SC]at h;split at h
  .cases op<;>simp only[reduceCtorEq,SH.Vr.injEq,Bool.true_eq_false,false_and]at h;exact absurd h.2.2 Gh
  .split at h
   .cases op<;>simp only[reduceCtorEq]at h
   .cases h
  .split at h
   .rename_i hs;unfold cU at h;split at h
    .rename_i hy;obtain⟨rfl,hy⟩:=hy;simp only[SH.Vr.injEq,and_true,true_and]at h;unfold xO at hs;split at hs
     .rename_i e ht;unfold DB Np at hy;split at hy
      .split at hy
       .exact⟨t,x,_,_,_,yt,e,rfl,rfl,ht,h⟩
       .cases hy
      .cases hy
     .cases hs
    .cases h
   .split at h
    .split at h
     .simp only[SH.Vr.injEq,VX.c.injEq,V.iface.injEq]at h;exact absurd h.2.2.1 (by decide)
     .cases h
    .split at h
     .split at h
      .simp only[SH.Vr.injEq,VX.c.injEq,V.iface.injEq]at h;exact absurd h.2.2.1 (by decide)
      .cases h
     ·(repeat' split at h)<;>cases h
 case call c=>
  obtain⟨callee,args,argTypes⟩:=c;cases callee
  case builtin b=>cases b<;>simp only[SC]at h<;>(repeat' split at h)<;>cases h
  all_goals (simp only[SC]at h;cases h)
 case unOp op t x=>cases op<;>simp only[SC]at h<;>cases h
 case makeFunc f a b=>cases f<;>simp only[SC]at h<;>(repeat' split at h)<;>cases h
 all_goals (simp only[SC]at h;(repeat' split at h)<;>cases h)
def ay.DB{i:aU}{l:List aU}{xa:VX}(hw:bt st.s i.g=some true)(ho:i.op=.Vr false xa (.c (.iface 0 .undef))){sz:Nat}{rows:List V}
 (hx:xa.ev st.s=.sl sz rows)(h:∀b,(b=true->rows=[])->ay P n (.ops l::k) ⟨bb st.s i.dst (.bool b),st.U⟩ Q):ay P n (.ops (i::l)::k) st Q:=by
 refine ay.ins (by rw[ho];simp) hw λF hn I a w o all hi hs next Q' R8=>?_
 subst hn;obtain⟨Sc,hd⟩:=fD hi;rw[ho]at Sc;obtain⟨t,x,y,m,c,yt,e,g1,rfl,g2,rfl⟩:=Be Sc;have R:=cO hs x;rw[hx]at R;simp only[E']at R;obtain⟨ba,cap,hX,_,hr⟩:=R;have SQ:(execOp a.eval o).run P w=.ok (.value (.bool ba.isNone)) w:=by
  unfold execOp;rw[g1];have hY:a.eval (.const (.slice none m c))=.slice none m c:=rfl;simp[hX,hY,eqGuard,Lib.run_eql_slice_nil w t e ba rows.length cap m c g2]
 unfold Oper.wp;rw[SQ];refine R8 _ _ _ ⟨I,?_⟩ (h ba.isNone ?_)
 .rw[<-hd];exact hs.pure (by simp[E'])
 .intro hb;rcases hr with hr|⟨b,off,rfl,_⟩
  .exact hr
  .cases hb
variable {P:Program} {n:Nat} {st:St} {Q:St->Prop} {k:List It}
def Af(l:List Nat)(s:Nat->V):Nat->V:=λi=>if l.contains i then s i else .undef
def zy(l:List Nat)(s:Nat->V)(i:Nat):Af l s i=if l.contains i then s i else .undef:=rfl
def mix(m:Nat)(a b:Nat->V):Nat->V:=λi=>if i<m then a i else b i
def CL(m:Nat)(a b:Nat->V)(i:Nat):mix m a b i=if i<m then a i else b i:=rfl
def FG(m:Nat)(s:Nat->V):mix m s s=s:=by funext i;simp[mix]
def ql(s:Nat->V)(v:V):bb s none v=s:=rfl
def Dv{m d:Nat}(h:d<m)(a b:Nat->V)(v:V):bb (mix m a b) (some d) v=mix m (bb a (some d) v) b:=by
 funext i;simp only[bb,mix];split
 .rename_i e;subst e;simp[h]
 .split<;>rfl
def C3{m d:Nat}(h:m<=d)(a b:Nat->V)(v:V):bb (mix m a b) (some d) v=mix m a (bb b (some d) v):=by
 funext i;simp only[bb,mix];split
 .rename_i e;subst e;simp[Nat.not_lt.2 h]
 .split<;>rfl
def ay.mix(m:Nat){todo:List It}{s:Nat->V}{U:al}(h:ay P n todo ⟨Vc.mix m s s,U⟩ Q):ay P n todo ⟨s,U⟩ Q:=by
 rw[FG]at h;exact h
def pV{s:Nat->V}{U:al}{agg:Bool}{sz d:Nat}{Post:V->al->Prop}:
 WT [.cell agg sz (.t d)] ⟨s,U⟩ Post=eA (dr U agg sz (s d)) λv=>aD v U Post:=by
 unfold WT aD tk;simp only[iT,jA,VX.ev];cases dr U agg sz (s d)<;>simp[eA]
def pL{s:Nat->V}{U:al}{agg:Bool}{sz d e:Nat}{Post:V->al->Prop}:
 WT [.cell agg sz (.t d),.tmp (.t e)] ⟨s,U⟩ Post=eA (dr U agg sz (s d)) λv=>aD (.Sa [v,s e]) U Post:=by
 unfold WT aD tk;simp only[iT,jA,VX.ev];cases dr U agg sz (s d)<;>simp[eA]
def aa.aL{Z0 U:al}{id:Nat}{o:Ob}(h:aa Z0 U)(L':Z0 id=none):aa Z0 (Vc.C' U id o):=λi x hx=>by
 have Sh:i≠id:=λe=>by rw[e,L']at hx;cases hx
 rw[ad Sh];exact h i x hx
def aa.none{a b:al}(h:aa a b){i:Nat}(hi:b i=none):a i=none:=by
 cases ha:a i with
 |none=>rfl
 |some o=>rw[h i o ha]at hi;cases hi
def bf{U:al}{i j:Nat}{o:Ob}(h:U i=some o)(hj:U j=none):i≠j:=by rintro rfl;rw[h]at hj;cases hj
def aF{O:Tx P}{f:Nat}{d:Option Nat}{l:List aU}{v:Nat->V}{ob:Ob}{s:Nat->V}{U:al}
 (h:∀id Z',aa U Z'->Z' id=some ob->U id=none->step P O n f (.r (.ops l::k)) ⟨bb s d (v id),Z'⟩ Q):
 EJ P O n f l k d ⟨s,U⟩ Q (some λid=>(v id,Vc.C' U id ob)):=by
 rw[aH];exact λid L'=>h id _ ((aa.refl U).C' L') aA L'
def aE{P:Program}{n:Nat}{Q:St->Prop}{k}{O:Tx P}{f:Nat}{d:Option Nat}{l:List aU}{v:Nat->V}{ob:Ob}{s:Nat->V}{U K:al}(hs:aa K U)(h:∀id Z1,aa U Z1->Z1 id=some ob->U id=none->K id=none->aa K Z1->step P O n f (.r (.ops l::k)) ⟨bb s d (v id),Z1⟩ Q):EJ P O n f l k d ⟨s,U⟩ Q (some λid=>(v id,Vc.C' U id ob)):=aF λid Z1 s1 a1 f1=>h id Z1 s1 a1 f1 (hs.none f1) (hs.trans s1)
def bM{O:Tx P}{f:Nat}{d:Option Nat}{l:List aU}{v:Nat->V}{ob:Ob}{s:Nat->V}{U:al}
 (h:∀id Z',aa U Z'->Z' id=some ob->U id=none->step P O n f (.d l k) ⟨bb s d (v id),Z'⟩ Q):
 DJ P O n f l k d ⟨s,U⟩ Q (some λid=>(v id,Vc.C' U id ob)):=by
 rw[aJ];exact λid L'=>h id _ ((aa.refl U).C' L') aA L'
def xd{P:Program}{n:Nat}{Q:St->Prop}{k}{O:Tx P}{f:Nat}{d:Option Nat}{l:List aU}{v:Nat->V}{ob:Ob}{s:Nat->V}{U K:al}(hs:aa K U)(h:∀id Z1,aa U Z1->Z1 id=some ob->U id=none->K id=none->aa K Z1->step P O n f (.d l k) ⟨bb s d (v id),Z1⟩ Q):DJ P O n f l k d ⟨s,U⟩ Q (some λid=>(v id,Vc.C' U id ob)):=bM λid Z1 s1 a1 f1=>h id Z1 s1 a1 f1 (hs.none f1) (hs.trans s1)
def iU{O:Tx P}{f:Nat}(t:Bool)(a b:bV):cR P O n f (.bool t) a b k st Q=((t=true->step P O n f (.r (.code a::k)) st Q)/\(t=false->step P O n f (.r (.code b::k)) st Q)):=by
 cases t<;>simp[cR,eN,both]
def ay.Ff{i:aU}{l:List aU}{fx:VX}{xs:List VX}{s:Nat->V}{U:al}{f:FuncId}{caps:List V}{v:V}(hw:bt s i.g=some true)(ho:i.op=.call fx xs)
 (hf:fx.ev s=.fn f caps)(hc:aG P f (xs.map (·.ev s)++caps) U λr Z'=>r=v/\Z'=U)(h:ay P n (.ops l::k) ⟨bb s i.dst v,U⟩ Q):
 ay P n (.ops (i::l)::k) ⟨s,U⟩ Q:=by
 refine ay.call hw ho hf hc ?_;rintro r Z' ⟨rfl,rfl⟩;exact h
def Ar(op:BinOp)(k:IntKind)(a b:Int):D0 op (.int k a) (.int k b)=dP op k a b:=by simp[D0]
def AM(op:BinOp)(a b:List UInt8):D0 op (.str a) (.str b)=dI op a b:=rfl
def tO(op:BinOp)(k k':IntKind)(a b:Int):re op (.int k a) (.int k' b)=dR op k a b:=rfl
def uP(op:BinOp)(a b:List UInt8):re op (.str a) (.str b)=dQ op a b:=rfl
def zI(id off n:Nat):eM false (.own id off n)=some (.int .i64 n):=rfl
def Cv(sz:Nat)(rows:List V):eM false (.sl sz rows)=some (.int .i64 rows.length):=rfl
def xH:eM false .bl=some (.int .i64 0):=rfl
def zn(s:List UInt8):eM true (.str s)=some (.int .i64 s.length):=rfl
def wH(U:al)(U5 id off len:Nat)(k:IntKind)(j:Int):bI U U5 (.own id off len) (.int k j)=match U id with
 |some ob=>if ob.sz=U5/\0<=j/\j<len then some (.ptr id (off+j.toNat) 0)else none
 |none=>none:=rfl
def xh(U:al)(agg:Bool)(sz id i k:Nat):dr U agg sz (.ptr id i k)=match U id with
 |some ob=>match ob.rows[i]? with
  |some r=>if agg then(if k=0/\r.cells.length=sz then some (.agg r.cells)else if k+sz<=r.cells.length then some (.agg ((r.cells.drop k).take sz))else none)
     else r.cells[k]?
  |none=>none
 |none=>none:=rfl
def qm(U:al)(sz:Nat)(vs:List V):dr U true sz (.rp (.agg vs))=if vs.length=sz then some (.agg vs)else none:=rfl
def qH(U:al)(sz:Nat)(k:IntKind)(j:Int):dr U false sz (.rp (.int k j))=some (.int k j):=rfl
def Reads(U:al)(sz:Nat)(agg:Bool)(sv:V)(rows:List V):Prop:=
 eM false sv=some (.int .i64 rows.length)/\∀(i:Nat) v,rows[i]?=some v->∃p,bI U sz sv (.int .i64 i)=some p/\dr U agg sz p=some v
def Reads.ints{U:al}{l:List Int}:Reads U 1 false (.sl 1 (l.map (.int .i64 ·))) (l.map (.int .i64 ·)):=by
 refine⟨rfl,λi v hv=>?_⟩;obtain⟨n,hn,rfl⟩:∃n,l[i]?=some n/\v=.int .i64 n:=by
  rw[tg]at hv;cases h:l[i]? with
  |none=>simp[h]at hv
  |some n=>simp[h]at hv;exact⟨n,rfl,hv.symm⟩
 refine⟨.rp (.int .i64 n),?_,rfl⟩;simp[bI,hn]
def Reads.own{U:al}{sz id off len:Nat}{ob:Ob}(ho:U id=some ob)(hs:ob.sz=sz)(hl:off+len<=ob.rows.length)(h1:∀r∈ob.rows,r.cells=[r]):
 Reads U sz false (.own id off len) ((ob.rows.drop off).take len):=by
 refine⟨by simp[eM];omega,λi v hv=>?_⟩;have hi:i<len:=by
  have:=(rz.1 hv).1;simp at this;omega
 have ZZ:ob.rows[off+i]?=some v:=by
  rw[List.getElem?_take,aI hi,K9]at hv;exact hv
 refine⟨.ptr id (off+i) 0,?_,?_⟩
 .simp[bI,ho,hs,hi]
 .simp[dr,ho,ZZ,h1 v (F0 ZZ)]
def ar{m:Int}(h1:-9223372036854775808<=m:=by omega)(h2:m<=9223372036854775807:=by omega):Sn .i64 m:=by
 unfold Sn;rw[IntKind.wrap_i64];omega
def rI(i:Int)(h:-9223372036854775809<=i:=by omega)(h2:i<9223372036854775807:=by omega):Sn .i64 (i+1):=ar
mutual
/-- no row's number in it -/
def V.En:V->Bool
 |.own ..|.ptr ..|.yl _=>false
 |.sl _ rows=>mO rows
 |.rp v=>v.En
 |.fn _ caps=>mO caps
 |.bm _ caps=>mO caps
 |.iface _ v=>v.En
 |.agg c|.Sa c=>mO c
 |_=>true
def mO:List V->Bool
 |[]=>true
 |v::vs=>v.En&&mO vs
end
def aG.x9{P:Program}{f:FuncId}{args:List V}{U:al}{Post Ws:V->al->Prop}(h:aG P f args U Post)
 (hp:∀r Z',Post r Z'->aD r Z' Ws):aG P f args U Ws:=⟨h.1,λI w R6 hs hr=>(h.2 I w R6 hs hr).mono λe w' ⟨r,Z',Y',val,h1,h2,h3,h4,h5⟩=>by
 obtain⟨v',Z'',g1,g2,g3⟩:=hp r Z' h2;exact⟨v',Z'',Y',val,h1,g3,h3,h4.drop g1,g2 Y' _ _ _ _ h4 h5⟩⟩
mutual
/-- the same,with each row of its own as one that is only read -/
inductive Fz(U:al)(N:Nat->Prop):V->V->Prop
 |same (v:V) (h:v.En=true):Fz U N v v
 |own (id off len:Nat) (ob:Ob) (rows:List V) (h1:U id=some ob) (h2:N id) (h3:off+len<=ob.rows.length) (h4:Ub U N ((ob.rows.drop off).take len) rows):
    Fz U N (.own id off len) (.sl ob.sz rows)
 |nil (sz:Nat):Fz U N .bl (.sl sz [])
 |own0 (id off sz:Nat):Fz U N (.own id off 0) (.sl sz [])
 |sl (sz:Nat) (rows rows':List V) (h:Ub U N rows rows'):Fz U N (.sl sz rows) (.sl sz rows')
 |agg (cs ds:List V) (h:Ub U N cs ds):Fz U N (.agg cs) (.agg ds)
 |Sa (cs ds:List V) (h:Ub U N cs ds):Fz U N (.Sa cs) (.Sa ds)
 |ptr (id i:Nat) (ob:Ob) (r u:V) (h1:U id=some ob) (h2:N id) (h3:ob.rows[i]?=some r) (h4:Fz U N r u):Fz U N (.ptr id i 0) (.rp u)
 |fn (f:FuncId) (cs ds:List V) (h:Ub U N cs ds):Fz U N (.fn f cs) (.fn f ds)
 |bm (f:FuncId) (cs ds:List V) (h:Ub U N cs ds):Fz U N (.bm f cs) (.bm f ds)
 |iface (t:TypeId) (v u:V) (h:Fz U N v u):Fz U N (.iface t v) (.iface t u)
inductive Ub(U:al)(N:Nat->Prop):List V->List V->Prop
 |nil:Ub U N [] []
 |cons (v u:V) (vs us:List V) (h:Fz U N v u) (h':Ub U N vs us):Ub U N (v::vs) (u::us)
end
section
variable {U K:al} {N:Nat->Prop} {I:Mu} {w0 w:World} {Tg:Nat->Prop}
def bz.lift{ow T1:Nat->Prop}{v u:V}{b off:Nat}(hv:∀cs,v≠.agg cs)(hu:∀cs,u≠.agg cs)(h:∀x,E' I ow w v x->E' I T1 w u x)
 (hr:bz I ow w v b off):bz I T1 w u b off:=by
 have e1:∃x,w.cell? ⟨b,off,none⟩=some x/\E' I ow w v x/\x.oneCell'=true:=by
  cases v<;>first|exact absurd rfl (hv _)|simpa only[bz]using hr
 obtain⟨x,h1,h2,h3⟩:=e1;have e2:∃x,w.cell? ⟨b,off,none⟩=some x/\E' I T1 w u x/\x.oneCell'=true:=⟨x,h1,h x h2,h3⟩
 cases u<;>first|exact absurd rfl (hu _)|simpa only[bz]using e2
mutual
def Fz.down(hs:Sat w0 Tg I U w)(hK:aa K U)(hN:∀id,N id->K id=none):∀{v u:V},Fz U N v u->(∀x,E' I (aO I U) w v x->E' I (aO I K) w u x)/\
 (∀b off,bz I (aO I U) w v b off->bz I (aO I K) w u b off)/\u.cells.length=v.cells.length
 |_,_,.same v h=>⟨λx hr=>E'.mono (dG.refl I) (dB.sub w hK) (SD _) v x hr,λb off hr=>bz.mono (dG.refl I) (dB.sub w hK) (SD _) v b off rfl hr,rfl⟩
 |_,_,.own id off len ob rows ho h2 hl h4=>by
  have hd:=Ub.down hs hK hN h4;have key:∀x,E' I (aO I U) w (.own id off len) x->E' I (aO I K) w (.sl ob.sz rows) x:=by
   intro x hr;simp only[E']at hr|-;have hlen:rows.length=len:=by rw[hd.2.2.2];simp;omega
   have TT:=hs.obj id ob ho;split at hr
   .exact hr.elim
   .obtain⟨rfl,rfl,rfl⟩:=hr;have:rows=[]:=td hlen;subst this;exact⟨none,0,by simp,by simp,.inl rfl⟩
   .rename_i b sz cap hb;obtain⟨o,c,rfl,h1,h2',h3,hz⟩:=hr;refine⟨_,c,by rw[hlen],by omega,?_⟩;by_cases h0:len=0
    .left;exact td (by omega)
    .right;rw[hb]at TT;obtain⟨g1,g2,g3,g4,g5⟩:=TT.rows hz;have ho':o=off*sz:=by
      rcases h3 with h3|h3
      .exact h3
      .omega
     subst ho' g1;refine⟨b,_,rfl,?_,g2,?_⟩
     .rintro⟨UA,ob',UP,Tz,e1,e2⟩;have:=hs.inj UA id ob' ob _ _ _ _ _ (hK _ _ e1) ho e2 hb;rw[this,hN id h2]at e1;cases e1
     .have:=(g5.drop off).take len;rw[kQ]at this;exact hd.2.2.1 _ _ _ this
  exact⟨key,λb WB hr=>bz.lift (λ_=>by simp) (λ_=>by simp) key hr,rfl⟩
 |_,_,.nil sz=>by
  have key:∀x,E' I (aO I U) w .bl x->E' I (aO I K) w (.sl sz []) x:=λx hr=>by
   simp only[E']at hr|-;exact⟨none,0,by simpa using hr,by simp,.inl trivial⟩
  exact⟨key,λb WB hr=>bz.lift (λ_=>by simp) (λ_=>by simp) key hr,rfl⟩
 |_,_,.own0 id off sz=>by
  have key:∀x,E' I (aO I U) w (.own id off 0) x->E' I (aO I K) w (.sl sz []) x:=λx hr=>by
   simp only[E']at hr|-;split at hr
   .exact hr.elim
   .obtain⟨rfl,_⟩:=hr;exact⟨none,0,by simp,by simp,.inl trivial⟩
   .obtain⟨o,c,rfl,h1,_⟩:=hr;exact⟨_,c,rfl,by simp,.inl trivial⟩
  exact⟨key,λb WB hr=>bz.lift (λ_=>by simp) (λ_=>by simp) key hr,rfl⟩
 |_,_,.sl sz rows rows' h=>by
  have hd:=Ub.down hs hK hN h;have key:∀x,E' I (aO I U) w (.sl sz rows) x->E' I (aO I K) w (.sl sz rows') x:=λx hr=>by
   simp only[E']at hr|-;obtain⟨a,cap,rfl,h1,h2⟩:=hr;refine⟨a,cap,by rw[hd.2.2.2],by rw[hd.2.2.2];exact h1,?_⟩;rcases h2 with h2|⟨b,off,h3,h4,h5,h6⟩
   .left;have:=hd.2.2.2;rw[h2]at this;exact td this
   .exact .inr ⟨b,off,h3,λho=>h4 (ho.sub hK),h5,hd.2.2.1 _ _ _ h6⟩
  exact⟨key,λb WB hr=>bz.lift (λ_=>by simp) (λ_=>by simp) key hr,rfl⟩
 |_,_,.agg cs ds h=>by
  have hd:=Ub.down hs hK hN h;refine⟨λx hr=>?_,λb off hr=>?_,by simp only[V.cells];exact hd.2.2.2⟩
  .simp only[E']at hr|-;obtain⟨R6,rfl,h1,h2⟩:=hr;exact⟨R6,rfl,hd.1 _ h1,h2⟩
  .simp only[bz]at hr|-;exact hd.2.1 _ _ hr
 |_,_,.Sa cs ds h=>by
  have hd:=Ub.down hs hK hN h;have key:∀x,E' I (aO I U) w (.Sa cs) x->E' I (aO I K) w (.Sa ds) x:=λx hr=>by
   simp only[E']at hr|-;obtain⟨R6,rfl,h1⟩:=hr;exact⟨R6,rfl,hd.1 _ h1⟩
  exact⟨key,λb WB hr=>bz.lift (λ_=>by simp) (λ_=>by simp) key hr,rfl⟩
 |_,_,.ptr id i ob r u ho h2 hi h4=>by
  have hd:=Fz.down hs hK hN h4;have key:∀x,E' I (aO I U) w (.ptr id i 0) x->E' I (aO I K) w (.rp u) x:=by
   intro x hr;simp only[E']at hr|-;have TT:=hs.obj id ob ho;split at hr
   .rename_i b sz cap hb;obtain⟨rfl,hz⟩:=hr;rw[hb]at TT;obtain⟨g1,g2,g3,g4,g5⟩:=TT.rows hz;obtain⟨e1,e2⟩:=g5.get hi;rw[kQ]at e2;have Sw:¬aO I K b:=by
     rintro⟨UA,ob',UP,Tz,e1,e2⟩;have:=hs.inj UA id ob' ob _ _ _ _ _ (hK _ _ e1) ho e2 hb;rw[this,hN id h2]at e1;cases e1
    refine⟨b,i*sz,by simp,?_,.inr Sw,hd.2.1 _ _ ((ei _ _ _ _ _ _).2 e2)⟩;cases hc:r.cells with
    |nil=>rw[hc]at e1;simp at e1;omega
    |cons c cs=>
     rw[hc]at e2;simp only[aW]at e2;obtain⟨⟨y,hy,_⟩,_⟩:=e2;exact World.block_lt_of_cell? w _ hy
   .exact hr.elim
  exact⟨key,λb WB hr=>bz.lift (λ_=>by simp) (λ_=>by simp) key hr,rfl⟩
 |_,_,.fn f cs ds h=>by
  have hd:=Ub.down hs hK hN h;have key:∀x,E' I (aO I U) w (.fn f cs) x->E' I (aO I K) w (.fn f ds) x:=λx hr=>by
   simp only[E']at hr|-;obtain⟨R6,rfl,h1⟩:=hr;exact⟨R6,rfl,hd.1 _ h1⟩
  exact⟨key,λb WB hr=>bz.lift (λ_=>by simp) (λ_=>by simp) key hr,rfl⟩
 |_,_,.bm f cs ds h=>by
  have hd:=Ub.down hs hK hN h;have key:∀x,E' I (aO I U) w (.bm f cs) x->E' I (aO I K) w (.bm f ds) x:=λx hr=>by
   simp only[E']at hr|-;obtain⟨R6,rfl,h1⟩:=hr;exact⟨R6,rfl,hd.1 _ h1⟩
  exact⟨key,λb WB hr=>bz.lift (λ_=>by simp) (λ_=>by simp) key hr,rfl⟩
 |_,_,.iface t v u h=>by
  have hd:=Fz.down hs hK hN h;have key:∀x,E' I (aO I U) w (.iface t v) x->E' I (aO I K) w (.iface t u) x:=λx hr=>by
   simp only[E']at hr|-;obtain⟨y,rfl,h1⟩:=hr;exact⟨y,rfl,hd.1 _ h1⟩
  exact⟨key,λb WB hr=>bz.lift (λ_=>by simp) (λ_=>by simp) key hr,rfl⟩
def Ub.down(hs:Sat w0 Tg I U w)(hK:aa K U)(hN:∀id,N id->K id=none):∀{vs us:List V},Ub U N vs us->(∀l,aB I (aO I U) w vs l->aB I (aO I K) w us l)/\
 (∀b off,aW I (aO I U) w vs b off->aW I (aO I K) w us b off)/\(∀b off sz,bc I (aO I U) w vs b off sz->bc I (aO I K) w us b off sz)/\us.length=vs.length
 |_,_,.nil=>⟨λl h=>by simpa[aB]using h,λ_ _ _=>by simp[aW],λ_ _ _ _=>by simp[bc],rfl⟩
 |_,_,.cons v u vs us h h'=>by
  have hd:=Fz.down hs hK hN h;have hd':=Ub.down hs hK hN h';refine⟨λl hr=>?_,λb off hr=>?_,λb off sz hr=>?_,by simp[hd'.2.2.2]⟩
  .simp only[aB]at hr|-;obtain⟨x,xs,rfl,h1,h2⟩:=hr;exact⟨x,xs,rfl,hd.1 _ h1,hd'.1 _ h2⟩
  .simp only[aW]at hr|-;obtain⟨⟨x,h1,h2,h3⟩,h4⟩:=hr;exact⟨⟨x,h1,hd.1 _ h2,h3⟩,hd'.2.1 _ _ h4⟩
  .simp only[bc]at hr|-;exact⟨by rw[hd.2.2];exact hr.1,hd.2.1 _ _ hr.2.1,hd'.2.2.1 _ _ _ hr.2.2⟩
end
def Fz.wk{v u:V}(h:Fz U N v u)(hK:aa K U)(hN:∀id,N id->K id=none):Wk U K v u:=λ_ _ _ _ x hs hr=>(Fz.down hs hK hN h).1 x hr
end
def BB:(((((((type_of%@CG)/\(type_of%@Ct))/\((type_of%@CX)/\(type_of%@wE)))/\(((type_of%@A5)/\(type_of%@pV))/\((type_of%@pL)/\(type_of%@sH))))/\((((type_of%@vV)/\(type_of%@sk))/\((type_of%@sI)/\(type_of%@Bl)))/\(((type_of%@CZ)/\(type_of%@wG))/\((type_of%@y4)/\(type_of%@A7)))))/\(((((type_of%@CP)/\(type_of%@Ao))/\((type_of%@ub)/\(type_of%@Cx)))/\(((type_of%@Ad)/\(type_of%@zq))/\((type_of%@Dm)/\(type_of%@An))))/\((((type_of%@M0)/\(type_of%@LJ))/\((type_of%@He)/\(type_of%@Dw)))/\(((type_of%@EY)/\(type_of%@EL))/\((type_of%@G3)/\((type_of%@Gl)/\(type_of%@EV)))))))/\((((((type_of%@uD)/\(type_of%@ug))/\((type_of%@yZ)/\(type_of%@vE)))/\(((type_of%@vw)/\(type_of%@tY))/\((type_of%@sc)/\(type_of%@Dh))))/\((((type_of%@FZ)/\(type_of%@GL))/\((type_of%@FD)/\(type_of%@Fa)))/\(((type_of%@uK)/\(type_of%@rK))/\((type_of%@Bc)/\((type_of%@Gb)/\(type_of%@JF))))))/\(((((type_of%@JL)/\(type_of%@JV))/\((type_of%@JW)/\(type_of%@zE)))/\(((type_of%@AW)/\(type_of%@zb))/\((type_of%@Gy)/\(type_of%@JX))))/\((((type_of%@JY)/\(type_of%@JZ))/\((type_of%@J4)/\(type_of%@Aw)))/\(((type_of%@zj)/\(type_of%@ql))/\((type_of%@Dv)/\((type_of%@C3)/\(type_of%@CL))))))))/\(((((((type_of%@wX)/\(type_of%@wZ))/\((type_of%@JD)/\(type_of%@JU)))/\(((type_of%@OR)/\(type_of%@LW))/\((type_of%@Ar)/\(type_of%@AM))))/\((((type_of%@tO)/\(type_of%@uP))/\((type_of%@zI)/\(type_of%@Cv)))/\(((type_of%@xH)/\(type_of%@zn))/\((type_of%@wH)/\(type_of%@xh)))))/\(((((type_of%@qm)/\(type_of%@qH))/\((type_of%@aA)/\(type_of%@tv)))/\(((type_of%@true_implies)/\(type_of%@false_implies))/\((type_of%@implies_true.{0})/\(type_of%@zy))))/\((((type_of%@List.getD_cons_zero.{0})/\(type_of%@List.getD_cons_succ.{0}))/\((type_of%@List.getD_nil.{0})/\(type_of%@List.map_cons.{0,0})))/\(((type_of%@List.map_nil.{0,0})/\(type_of%@List.length_cons.{0}))/\((type_of%@List.length_nil.{0})/\((type_of%@List.drop_succ_cons.{0})/\(type_of%@List.drop_zero.{0})))))))/\((((((type_of%@List.take_succ_cons.{0})/\(type_of%@List.take_zero.{0}))/\((type_of%@List.set_cons_zero.{0})/\(type_of%@List.set_cons_succ.{0})))/\(((type_of%@List.append_nil.{0})/\(type_of%@List.nil_append.{0}))/\((type_of%@List.cons_append.{0})/\(type_of%@List.all_cons.{0}))))/\((((type_of%@List.all_nil.{0})/\(type_of%@List.getElem?_cons_zero.{0}))/\((type_of%@List.getElem?_cons_succ.{0})/\(type_of%@List.contains_cons.{0})))/\(((type_of%@List.contains_nil.{0})/\(type_of%@Option.isSome_some.{0}))/\((type_of%@Option.map_some.{0,0})/\((type_of%@Option.map_none.{0,0})/\(type_of%@true_and))))))/\(((((type_of%@and_true)/\(type_of%@and_self))/\((type_of%@Nat.zero_add)/\(type_of%@Nat.add_zero)))/\(((type_of%@Bool.not_true)/\(type_of%@Bool.not_false))/\((type_of%@Bool.false_eq_true)/\(type_of%@Bool.or_true))))/\((((type_of%@Bool.true_or)/\(type_of%@Bool.or_false))/\((type_of%@Bool.false_or)/\(type_of%@Bool.true_and)))/\(((type_of%@Bool.and_true)/\(type_of%@Bool.and_self))/\((type_of%@decide_true)/\((type_of%@decide_false)/\(type_of%@decide_eq_true_eq)))))))):=
 ⟨⟨⟨⟨⟨⟨⟨@CG,@Ct⟩,⟨@CX,@wE⟩⟩,⟨⟨@A5,@pV⟩,⟨@pL,@sH⟩⟩⟩,⟨⟨⟨@vV,@sk⟩,⟨@sI,@Bl⟩⟩,⟨⟨@CZ,@wG⟩,⟨@y4,@A7⟩⟩⟩⟩,⟨⟨⟨⟨@CP,@Ao⟩,⟨@ub,@Cx⟩⟩,⟨⟨@Ad,@zq⟩,⟨@Dm,@An⟩⟩⟩,⟨⟨⟨@M0,@LJ⟩,⟨@He,@Dw⟩⟩,⟨⟨@EY,@EL⟩,⟨@G3,⟨@Gl,@EV⟩⟩⟩⟩⟩⟩,⟨⟨⟨⟨⟨@uD,@ug⟩,⟨@yZ,@vE⟩⟩,⟨⟨@vw,@tY⟩,⟨@sc,@Dh⟩⟩⟩,⟨⟨⟨@FZ,@GL⟩,⟨@FD,@Fa⟩⟩,⟨⟨@uK,@rK⟩,⟨@Bc,⟨@Gb,@JF⟩⟩⟩⟩⟩,⟨⟨⟨⟨@JL,@JV⟩,⟨@JW,@zE⟩⟩,⟨⟨@AW,@zb⟩,⟨@Gy,@JX⟩⟩⟩,⟨⟨⟨@JY,@JZ⟩,⟨@J4,@Aw⟩⟩,⟨⟨@zj,@ql⟩,⟨@Dv,⟨@C3,@CL⟩⟩⟩⟩⟩⟩⟩,⟨⟨⟨⟨⟨⟨@wX,@wZ⟩,⟨@JD,@JU⟩⟩,⟨⟨@OR,@LW⟩,⟨@Ar,@AM⟩⟩⟩,⟨⟨⟨@tO,@uP⟩,⟨@zI,@Cv⟩⟩,⟨⟨@xH,@zn⟩,⟨@wH,@xh⟩⟩⟩⟩,⟨⟨⟨⟨@qm,@qH⟩,⟨@aA,@tv⟩⟩,⟨⟨@true_implies,@false_implies⟩,⟨@implies_true.{0},@zy⟩⟩⟩,⟨⟨⟨@List.getD_cons_zero.{0},@List.getD_cons_succ.{0}⟩,⟨@List.getD_nil.{0},@List.map_cons.{0,0}⟩⟩,⟨⟨@List.map_nil.{0,0},@List.length_cons.{0}⟩,⟨@List.length_nil.{0},⟨@List.drop_succ_cons.{0},@List.drop_zero.{0}⟩⟩⟩⟩⟩⟩,⟨⟨⟨⟨⟨@List.take_succ_cons.{0},@List.take_zero.{0}⟩,⟨@List.set_cons_zero.{0},@List.set_cons_succ.{0}⟩⟩,⟨⟨@List.append_nil.{0},@List.nil_append.{0}⟩,⟨@List.cons_append.{0},@List.all_cons.{0}⟩⟩⟩,⟨⟨⟨@List.all_nil.{0},@List.getElem?_cons_zero.{0}⟩,⟨@List.getElem?_cons_succ.{0},@List.contains_cons.{0}⟩⟩,⟨⟨@List.contains_nil.{0},@Option.isSome_some.{0}⟩,⟨@Option.map_some.{0,0},⟨@Option.map_none.{0,0},@true_and⟩⟩⟩⟩⟩,⟨⟨⟨⟨@and_true,@and_self⟩,⟨@Nat.zero_add,@Nat.add_zero⟩⟩,⟨⟨@Bool.not_true,@Bool.not_false⟩,⟨@Bool.false_eq_true,@Bool.or_true⟩⟩⟩,⟨⟨⟨@Bool.true_or,@Bool.or_false⟩,⟨@Bool.false_or,@Bool.true_and⟩⟩,⟨⟨@Bool.and_true,@Bool.and_self⟩,⟨@decide_true,⟨@decide_false,@decide_eq_true_eq⟩⟩⟩⟩⟩⟩⟩⟩
def CC:(∀(l:List V),V.cells (.agg l)=l)/\(V.cells (.undef )=[.undef ])/\(∀(k:IntKind) (i:Int),V.cells (.int k i)=[.int k i])/\(∀(b:Bool),V.cells (.bool b)=[.bool b])/\(∀(s:List UInt8),V.cells (.str s)=[.str s])/\(V.cells (.bl )=[.bl ])/\(∀(a:Nat) (l:List V),V.cells (.sl a l)=[.sl a l])/\(∀(a b c:Nat),V.cells (.own a b c)=[.own a b c])/\(∀(a b c:Nat),V.cells (.ptr a b c)=[.ptr a b c])/\(∀(a:V),V.cells (.rp a)=[.rp a])/\(V.cells (.V' )=[.V' ])/\(∀(f:FuncId) (l:List V),V.cells (.fn f l)=[.fn f l])/\(∀(f:FuncId) (l:List V),V.cells (.bm f l)=[.bm f l])/\(V.cells (.TG )=[.TG ])/\(∀(t:TypeId) (a:V),V.cells (.iface t a)=[.iface t a])/\(V.cells (.Tw )=[.Tw ])/\(∀(l:List V),V.cells (.Sa l)=[.Sa l])/\(∀(x:Value),V.cells (.raw x)=[.raw x])/\(∀(a:Nat),V.cells (.gp a)=[.gp a])/\(∀(a:Nat),V.cells (.yl a)=[.yl a])/\(∀(a:Nat),V.cells (.mp a)=[.mp a])/\(∀(l:List V),V.stays (.agg l)=true)/\(V.stays (.undef )=false)/\(∀(k:IntKind) (i:Int),V.stays (.int k i)=true)/\(∀(b:Bool),V.stays (.bool b)=true)/\(∀(s:List UInt8),V.stays (.str s)=true)/\(V.stays (.bl )=true)/\(∀(a:Nat) (l:List V),V.stays (.sl a l)=true)/\(∀(a b c:Nat),V.stays (.own a b c)=true)/\(∀(a b c:Nat),V.stays (.ptr a b c)=true)/\(∀(a:V),V.stays (.rp a)=true)/\(V.stays (.V' )=true)/\(∀(f:FuncId) (l:List V),V.stays (.fn f l)=true)/\(∀(f:FuncId) (l:List V),V.stays (.bm f l)=true)/\(V.stays (.TG )=true)/\(∀(t:TypeId) (a:V),V.stays (.iface t a)=true)/\(V.stays (.Tw )=true)/\(∀(l:List V),V.stays (.Sa l)=false)/\(∀(a:Nat),V.stays (.gp a)=true)/\(∀(a:Nat),V.stays (.yl a)=true)/\(∀(a:Nat),V.stays (.mp a)=true):=
 ⟨λ_=>rfl,rfl,λ_ _=>rfl,λ_=>rfl,λ_=>rfl,rfl,λ_ _=>rfl,λ_ _ _=>rfl,λ_ _ _=>rfl,λ_=>rfl,rfl,λ_ _=>rfl,λ_ _=>rfl,rfl,λ_ _=>rfl,rfl,λ_=>rfl,λ_=>rfl,λ_=>rfl,λ_=>rfl,λ_=>rfl,λ_=>rfl,rfl,λ_ _=>rfl,λ_=>rfl,λ_=>rfl,rfl,λ_ _=>rfl,λ_ _ _=>rfl,λ_ _ _=>rfl,λ_=>rfl,rfl,λ_ _=>rfl,λ_ _=>rfl,rfl,λ_ _=>rfl,rfl,λ_=>rfl,λ_=>rfl,λ_=>rfl,λ_=>rfl⟩
def Qp{p:Prop}[Decidable p]:(!decide p)=decide (¬p):=decide_not.symm
def sR{P:Program}{n:Nat}{todo:List It}{st:St}{Q:St->Prop}(h:step P Tx.nothing n 300 (.r todo) st Q):ay P n todo st Q:=ay.bB Tx.nothing 300 h
def Te{K U J:al}{j:Nat}{o:Ob}(h:C' U j o=J)(s:aa K U)(z:K j=none):aa K J:=by subst h;exact s.aL z
def RZ{U Z':al}{i j:Nat}{o:Ob}(a:U i=some o)(f:U j=none)(s:aa U Z'):i≠j/\Z' i=some o:=⟨bf a f,s _ _ a⟩
def nwZ{K U Z':al}{j:Nat}(h:aa K U)(f:U j=none)(s:aa U Z'):K j=none/\aa K Z':=⟨h.none f,h.trans s⟩
def Tf{v:V}{U:al}{P:V->al->Prop}(h:P v U):aD v U P:=⟨_,_,aa.refl _,Wk.refl (aa.refl _) _,h⟩
def mS{P:Program}{n:Nat}(m:Nat){todo:List It}{s:Nat->V}{U:al}{Q:St->Prop}(h:step P Tx.nothing n 300 (.r todo) ⟨Vc.mix m s s,U⟩ Q):ay P n todo ⟨s,U⟩ Q:=ay.mix m (sR h)
def TX{P:Program}{n:Nat}{k:List It}{Q:St->Prop}{i:aU}{l:List aU}{fx:VX}{xs:List VX}{s:Nat->V}{U:al}{f:FuncId}{caps:List V}{Post:V->al->Prop}(hw:(bt s i.g,i.op,fx.ev s)=(some true,.call fx xs,.fn f caps))(hc:aG P f (xs.map (·.ev s)++caps) U Post)(h:∀r Z',Post r Z'->ay P n (.ops l::k) ⟨bb s i.dst r,Z'⟩ Q):ay P n (.ops (i::l)::k) ⟨s,U⟩ Q:=ay.call (congrArg (·.1) hw) (congrArg (·.2.1) hw) (congrArg (·.2.2) hw) hc h
def pR{P:Program}{n:Nat}{k:List It}{Q:St->Prop}{i:aU}{l:List aU}{fx:VX}{xs:List VX}{s:Nat->V}{U:al}{f:FuncId}{caps:List V}{v:V}(hw:(bt s i.g,i.op,fx.ev s)=(some true,.call fx xs,.fn f caps))(hc:aG P f (xs.map (·.ev s)++caps) U λr Z'=>r=v/\Z'=U)(h:ay P n (.ops l::k) ⟨bb s i.dst v,U⟩ Q):ay P n (.ops (i::l)::k) ⟨s,U⟩ Q:=ay.Ff (congrArg (·.1) hw) (congrArg (·.2.1) hw) (congrArg (·.2.2) hw) hc h
def pS{P:Program}{n:Nat}{k:List It}{Q:St->Prop}{i:aU}{l:List aU}{fx:VX}{xs:List VX}{s:Nat->V}{U:al}{f:FuncId}{caps:List V}{v:V}(hw:(bt s i.g,i.op,fx.ev s)=(some true,.call fx xs,.fn f caps))(hc:aG P f (xs.map (·.ev s)++caps) U λr Z'=>r=v/\Z'=U)(h:step P Tx.nothing n 300 (.r (.ops l::k)) ⟨bb s i.dst v,U⟩ Q):ay P n (.ops (i::l)::k) ⟨s,U⟩ Q:=pR hw hc (sR h)
def sG{P:Program}{n:Nat}{t:Td}{st:St}{Q:St->Prop}(h:step P Tx.nothing n 300 t st Q):Go P n t st Q:=Go.bB Tx.nothing 300 t st h
attribute [go_sem] BB CC Qp Tx.nothing bp fW aV dP dR dI dQ eo bH jE gm bu fO dM fL cP cC bQ iB cm cB cd Ty jD cW bJ ll dp bS cN cD jH binBV bG dj
abbrev vI(n:Int):V:=.int .i64 n
structure TA where
 (top Sk R5 O' SG R9 Sl head before after inside clear:Int)
deriving DecidableEq
def TA.cells(s:TA):List V:=[vI s.top,vI s.Sk,vI s.R5,vI s.O',vI s.SG,vI s.R9,vI s.Sl,vI s.head,vI s.before,vI s.after,vI s.inside,vI s.clear]
structure Nd where
 (kind size:Int)
 (st:TA)
 (line space:Int)
 (words:List Int)
 (side w h:Int)
deriving DecidableEq
def aZ(l:List Int):V:=.sl 1 (l.map vI)
def Nd.cells(x:Nd):List V:=[vI x.kind,vI x.size,vI x.st.top,vI x.st.Sk,vI x.st.R5,vI x.st.O',vI x.st.SG,vI x.st.R9,vI x.st.Sl,vI x.st.head,vI x.st.before,vI x.st.after,vI x.st.inside,vI x.st.clear,
 vI x.line,vI x.space,aZ x.words,vI x.side,vI x.w,vI x.h]
def ie(x:Nd):V:=.agg x.cells
def mx:Int:=1099511627776
def bg(n a b:Int):Bool:=decide (n>=a/\n<=b)
def TA.ok(s:TA):Bool:=bg s.top 0 mx&&bg s.Sk 0 mx&&bg s.R5 0 mx&&bg s.O' 0 mx&&bg s.SG 0 mx&&bg s.R9 1 mx&&bg s.Sl 1 mx&&bg s.head 0 mx&&
 bg s.before 0 4&&bg s.after 0 4&&bg s.inside 0 1&&bg s.clear 0 3
def TA.zero:TA:=⟨0,0,0,0,0,0,0,0,0,0,0,0⟩
def aQ(l:List Nd):V:=.sl 20 (l.map ie)
def bT(l:List Nd):eM false (aQ l)=some (.int .i64 l.length):=by simp[aQ,eM]
def ab(l:List Nd):(aQ l).cells=[aQ l]:=rfl
def ai(l:List Nd):(aQ l).stays=true:=rfl
variable {P:Program} {n:Nat} {st:St} {Q:St->Prop} {k:List It} {I:Mu} {w w':World}
abbrev gh(o:Obj)(env:List V:=[]):Ob:=⟨0,0,.obj o::env⟩
def Sat.Nv{w0:World}{Tg:Nat->Prop}{U:al}(h:Sat w0 Tg I U w)(o:Obj)(env:List V)(he:aB I (aO I U) w env (tmpsOf o)):
 ∃id,U id=none/\∃Y':Mu,Y' id=.SZ w.heap.size 0 0/\dG I Y'/\Sat w0 Tg Y' (C' U id (gh o env)) (w.alloc o)/\dB (aO I U) (aO Y' (C' U id (gh o env))) w (w.alloc o):=by
 obtain⟨id,L',Su,SO⟩:=h.dY;have hle:dG I (λk=>if k=id then .SZ w.heap.size 0 0 else I k):=λk hk=>by
  have:k≠id:=λe'=>hk (e'▸L');simp[this]
 refine⟨id,Su,λk=>if k=id then .SZ w.heap.size 0 0 else I k,by simp,hle,?_⟩;refine h.put (row:=none) (World.grownBy_alloc w o none) (by simp) hle (SO _) id (gh o env) (λo' ho=>?_) (λi o' hi ho=>?_) (λb' UP Tz UY=>?_) (λhk=>?_)
 .simp[C']at ho;exact ho.symm
 .simp only[C',aK hi]at ho;exact⟨ho,by simp⟩
 .simp only[if_true,Pl.SZ.injEq]at UY;exact .inr (by omega)
 .simp only[if_true];exact .inr ⟨rfl,rfl,o,env,rfl,World.alloc_heap_new w o,aB.mono hle hk (by simp) _ _ he⟩
def Sat.Oy{w0:World}{Tg:Nat->Prop}{U:al}(h:Sat w0 Tg I U w){id b cap:Nat}{o:Ob}(ho:U id=some o)(L':I id=.SZ b 0 cap)(o':Obj)(env:List V)(he:aB I (aO I U) w env (tmpsOf o')):
 Sat w0 Tg I (C' U id (gh o' env)) (w.putObj b o')/\dB (aO I U) (aO I (C' U id (gh o' env))) w (w.putObj b o'):=by
 have u':b<w.heap.size:=aO.lt h ⟨id,o,0,cap,ho,L'⟩;refine h.put (grownBy_putObj' w b o') (λb' UY=>by cases UY;exact⟨id,o,0,cap,ho,L'⟩) (dG.refl _) h.fin id (gh o' env) (λx SE=>by simp[C']at SE;exact SE.symm)
  (λi x hi SE=>?_) (λb' UP Tz UY=>?_) (λhk=>?_)
 .simp only[C',aK hi]at SE;refine⟨SE,λb' UP Tz h4 h5=>hi ?_⟩;cases h5;exact h.inj i id x o _ _ _ _ _ SE ho h4 L'
 .rw[L']at UY;cases UY;exact .inl rfl
 .rw[L'];exact .inr ⟨rfl,rfl,o',env,rfl,World.putObj_heap_same u',aB.mono (dG.refl _) hk (by simp) _ _ he⟩
def Sat.I6{w0:World}{Tg:Nat->Prop}{U:al}(h:Sat w0 Tg I U w){id b cap:Nat}{o:Obj}{env:List V}(ho:U id=some (gh o env))(L':I id=.SZ b 0 cap):w.heap[b]?=some o/\aB I (aO I U) w env (tmpsOf o):=by
 have:=h.obj id _ ho;rw[L']at this;rcases this with⟨_,_,_,h1,_⟩|⟨_,_,ob,Zd,h1,h2,h3⟩
 .omega
 .simp only[List.cons.injEq,V.obj.injEq]at h1;obtain⟨rfl,rfl⟩:=h1;exact⟨h2,h3⟩
variable {P:Program} {n:Nat} {st:St} {Q:St->Prop} {k:List It} {I:Mu} {w w':World}
def Sat.compose{w0:World}{Tg:Nat->Prop}{I Y':Mu}{U Z':al}(h0:Sat w0 Tg I U w)(Sj:Sat w (aO I U) Y' Z' w'):
 Sat w0 Tg Y' Z' w'/\dB (aO I U) (aO Y' Z') w w':=by
 have UC:dB (aO I U) (aO Y' Z') w w':=λb hb hn=>⟨λho=>hn (Sj.fresh b ho hb),Sj.same b hb hn⟩
 refine⟨⟨mN h0.size Sj.size,Sj.os.trans h0.os,Sj.tape.trans h0.tape,Sj.output.trans h0.output,?_,Sj.fin,Sj.inj,Sj.obj,?_,h0.Va⟩,UC⟩
 .intro b hb hn;have h1:¬aO I U b:=λho=>hn (h0.fresh b ho hb);exact(Sj.same b (Nat.lt_of_lt_of_le hb h0.size) h1).trans (h0.same b hb hn)
 .intro b hb u';exact h0.fresh b (Sj.fresh b hb (Nat.lt_of_lt_of_le u' h0.size)) u'
def Sat.here{w0:World}{Tg:Nat->Prop}{U:al}(h:Sat w0 Tg I U w):Sat w (aO I U) I U w:=
 ⟨SD _,rfl,rfl,rfl,λ_ _ _=>rfl,h.fin,h.inj,h.obj,λb hb _=>hb,h.ns⟩
def YC(P:Program)(SL:Nat)(x:List V)(U:al)(Post:Bool->al->Prop):Prop:=
 ∀I w R6 l c,I SL=.SZ l 0 c->Sat w (aO I U) I U w->aB I (aO I U) w x R6->
  YieldAt Fence.wide 0 P l R6.toArray w λe w'=>∃b Z' Y',e=.returned (.bool b)/\Post b Z'/\dG I Y'/\Sat w (aO I U) Y' Z' w'
def wD{F:Fr}{m m':Nat}{l:Nat}{f:FuncId}{tmps:Array Value}{assign body:Code}{R:Ending->World->Prop}
 (h:RoundIn Fence.wide m P l f tmps assign body w R):RoundIn F.fo m' P l f tmps assign body w R:=
 ⟨trivial,λc cs _=>h.2 c cs (room_wide _)⟩
def ay.qc{i:aU}{l:List aU}{fx:VX}{xs:List VX}(hw:bt st.s i.g=some true)(ho:i.op=.call fx xs){SL:Nat}(hf:fx.ev st.s=.yl SL)
 {Post:Bool->al->Prop}(hc:YC P SL (xs.map (·.ev st.s)) st.U Post)
 (h:∀b Z',Post b Z'->ay P n (.ops l::k) ⟨bb st.s i.dst (.bool b),Z'⟩ Q):ay P n (.ops (i::l)::k) st Q:=by
 refine ay.J3 hw λF hn I a w o all hi hs next Q' R8=>?_
 subst hn;obtain⟨Sc,hd⟩:=fD hi;rw[ho]at Sc;obtain⟨f0,args,argTypes,g1,rfl,rfl⟩:=nO Sc;have W4:=cO hs f0;rw[hf]at W4;simp only[E']at W4;split at W4
 .rename_i lb c L';have Tq:=ou hs args.toList;obtain⟨fn,tmps,assign,body,hy,hR⟩:=hc I w _ lb c L' hs.sat.here Tq;have SQ:(execOp a.eval o).run P w=.ok (.round lb fn tmps assign body) w:=by
   unfold execOp;rw[g1];simp only[resolve,W4,Deferred.ofValue,Sem.run_bind,Sem.run_pure,Result.andThen_ok,invoke];rw[<-hy];congr 2;apply Array.ext';simp
  refine⟨λ_ _=>trivial,?_⟩;rw[Oper.semAt_eq _ _ _ (by rw[g1];intro c e;cases e),SQ];refine⟨lC F,wD (hR.mono ?_)⟩;rintro e w' ⟨b,Z',Y',rfl,hp,hle,Sj⟩;obtain⟨h1,h2⟩:=hs.sat.compose Sj;refine R8 _ _ _ ⟨Y',?_⟩ (h b Z' hp);rw[<-hd];exact hs.step h1 hle h2 Sj.size (by simp[E'])
 .exact W4.elim
def bF(ZJ U SN Z':al):Prop:=aa SN Z'/\∀id o,ZJ id=none->U id=some o->Z' id=some o/\SN id=none
def bF.refl{ZJ U:al}(h:aa ZJ U):bF ZJ U ZJ U:=⟨h,λ_ _ h1 h2=>⟨h2,h1⟩⟩
def bF.set{ZJ U SN Z':al}(h:bF ZJ U SN Z'){id:Nat}{o o':Ob}(L':SN id=some o):bF ZJ U (C' SN id o') (C' Z' id o'):=
 ⟨h.1.LB,λi x h1 h2=>by
  obtain⟨h3,h4⟩:=h.2 i x h1 h2;have:i≠id:=λe=>by rw[e,L']at h4;cases h4
  simp[Vc.C',this,h3,h4]⟩
def bF.new{ZJ U SN Z':al}(h:bF ZJ U SN Z'){id:Nat}{o:Ob}(L':Z' id=none):bF ZJ U (C' SN id o) (C' Z' id o):=
 ⟨h.1.LB,λi x h1 h2=>by
  obtain⟨h3,h4⟩:=h.2 i x h1 h2;have:i≠id:=λe=>by rw[e,L']at h3;cases h3
  simp[Vc.C',this,h3,h4]⟩
def bF.Jm{ZJ U SN Z':al}(h:bF ZJ U SN Z'){id:Nat}{o:Ob}(L':Z' id=none):bF ZJ U SN (C' Z' id o):=
 ⟨h.1.trans (aa.C' (aa.refl _) L'),λi x h1 h2=>by
  obtain⟨h3,h4⟩:=h.2 i x h1 h2;have:i≠id:=λe=>by rw[e,L']at h3;cases h3
  simp[Vc.C',this,h3,h4]⟩
def Iter(P:Program)(g:FuncId)(caps:List V)(xs:List (List V)):Prop:=
 gQ P g=true/\∀(SL:Nat) (τ Jx:List (List V)->al->Prop) (Z0:al),
  (∀pre x post ZJ U,xs=pre++x::post->τ pre ZJ->aa ZJ U->
    YC P SL x U λb Z'=>∃SN,bF ZJ U SN Z'/\((b=true/\τ (pre++[x]) SN)\/(b=false/\Jx (pre++[x]) SN)))->
  τ [] Z0->sC P g (.yl SL::caps) Z0 λ_ Z'=>τ xs Z'\/∃pre,pre <+: xs/\Jx pre Z'
variable {P:Program} {n:Nat} {st:St} {Q:St->Prop} {k:List It} {I:Mu} {w w':World}
def pI(s:Nat->V):List Nat->List V->Nat->V
 |p::ps,x::xs=>pI (λi=>if i=p then x else s i) ps xs
 |_,_=>s
def exK:List (Nat×(St->Prop))->List It
 |[]=>[]
 |(id,μ)::l=>.inBlock id::.stop μ::exK l
def CA{U Z':al}{id:Nat}(h:aa U Z'):aa (del U id) (del Z' id):=λi o e=>by
 unfold del at e|-;split at e
 .cases e
 .rename_i hi;rw[aK hi];exact h i o e
def Sat.more{w0:World}{Tg:Nat->Prop}{U:al}(h:Sat w0 Tg I U w)(o:Obj):Sat w0 Tg I U (w.alloc o)/\dB (aO I U) (aO I U) w (w.alloc o):=by
 have TR:∀b,b<w.heap.size->(w.alloc o).heap[b]?=w.heap[b]?:=λb hb=>Go.RowKit.Below.heap_alloc w o b hb;have hk:dB (aO I U) (aO I U) w (w.alloc o):=λb hb hn=>⟨hn,TR b hb⟩
 refine⟨⟨by have:=h.size;simp;omega,h.os,h.tape,h.output,λb hb hn=>(TR b (Nat.lt_of_lt_of_le hb h.size)).trans (h.same b hb hn),h.fin,h.inj,λid ob ho=>?_,h.fresh,h.Va⟩,hk⟩;exact(h.obj id ob ho).mono (dG.refl I) hk (by simp) λb sz cap hp=>TR b (aO.lt h ⟨id,ob,sz,cap,ho,hp⟩)
def dS.enter{F:Fr}{a:Act}(hs:dS F I st a w)(fn:FuncId)(ps:Array Tmp)(assign body:Code):
 ∃mark W0 D,dS F I st { a with defers:=mark++a.defers } W0/\(Instr.enterLoop fn a.tmps ps assign body F.fo.round).run P w=
  .ok (W0.heap.size,mark) (W0.alloc (.loop { state:=.ready,pending:=none,fn,tmps:=a.tmps,params:=ps,assign,body,defers:=D })):=by
 cases hrd:F.rd with
 |some lr=>
  obtain⟨l0,r0⟩:=lr;obtain⟨h1,_⟩:=hs.book.rnd l0 r0 hrd;refine⟨[],w,r0.defers,hs,?_⟩;have:F.fo.round=some l0:=by simp[Fr.fo,hrd]
  rw[this];exact run_enterLoop_inner h1 fn a.tmps ps assign body
 |none=>
  have:F.fo.round=none:=by simp[Fr.fo,hrd]
  rw[this];refine⟨[{ target:=.collected w.heap.size,args:=#[] }],w.alloc (.deferred (some [])),w.heap.size,?_,?_⟩
  .obtain⟨h1,hk⟩:=hs.sat.more (.deferred (some []));have hb:=hs.book.wj hk;refine⟨h1,hs.le,hs.size,⟨hb.rnd,?_⟩,λi hi=>E'.mono (dG.refl I) hk (by simp) _ _ (hs.slot i hi)⟩;obtain⟨Ds,g1,g2,g3⟩:=hb.marks;obtain⟨Ds',g1',g2',g3'⟩:=hs.book.marks;refine⟨w.heap.size::Ds',by simp[g1'],?_,?_⟩
   .refine List.nodup_cons.2 ⟨λW6=>?_,g2'⟩;have:=(ny.1 (g3' _ W6).2.1).1;omega
   .intro D hD;simp only[ew]at hD;rcases hD with rfl|hD
    .refine⟨hs.sat.size,World.alloc_heap_new w _,λho=>?_⟩;have:=aO.lt hs.sat ho;omega
    .obtain⟨q1,q2,q3⟩:=g3' D hD;have u':=(ny.1 q2).1;exact⟨q1,(hk D u' q3).2.trans q2,q3⟩
  .rw[run_enterLoop_outer];simp
def Ex(ps:List Nat):∀(xs:List Value) (t:Array Value) (vs:List V) (s:Nat->V) {ow:Nat->Prop} (m:Nat),t.size=m->aB I ow w vs xs->vs.length=ps.length->
 (∀i,i<m->E' I ow w (s i) (t.getD i undef))->
 ((ps.zip xs).foldl (λt (p,v)=>t.setIfInBounds p v) t).size=m/\∀i,i<m->E' I ow w (pI s ps vs i) (((ps.zip xs).foldl (λt (p,v)=>t.setIfInBounds p v) t).getD i undef):=by
 induction ps with
 |nil=>intro xs t vs s ow m ht _ _ hi;exact⟨by simpa using ht,by simpa[pI]using hi⟩
 |cons p ps ih=>
  intro xs t vs s ow m ht hv hl hi;cases vs with
  |nil=>simp at hl
  |cons v vs=>
   simp only[aB]at hv;obtain⟨x,xs',rfl,h1,h2⟩:=hv;simp only[List.zip_cons_cons,jW,pI];refine ih xs' (t.setIfInBounds p x) vs _ m (by simp[ht]) h2 (by simpa using hl) λi u'=>?_;by_cases hip:i=p
   .subst hip;rw[aI rfl,VJ,Array.getElem?_setIfInBounds_self_of_lt (by omega)];exact h1
   .rw[aK hip,VJ,Array.getElem?_setIfInBounds_ne (λe=>hip e.symm),<-VJ];exact hi i u'
variable {P:Program} {n:Nat} {st:St} {Q:St->Prop} {k:List It} {I:Mu} {w w':World}
def vd{b:Nat}{o o':Obj}(h:w.heap[b]?=some o)(hc:∀off x,w.cell? ⟨b,off,none⟩≠some x):
 (∀b',b'≠b->(w.putObj b o').heap[b']?=w.heap[b']?)/\∀(ow:Nat->Prop),rA ow ow w (w.putObj b o'):=by
 have Sh:∀b',b'≠b->(w.putObj b o').heap[b']?=w.heap[b']?:=λb' hb=>World.putObj_heap_other hb;refine⟨Sh,λow b' _ hn=>⟨hn,λoff x hx=>?_⟩⟩;by_cases hb:b'=b
 .subst hb;exact absurd hx (hc off x)
 .exact fJ (Sh b' hb) off x hx
def lJ{b:Nat}{r:Loop}(h:w.heap[b]?=some (.loop r)):∀off x,w.cell? ⟨b,off,none⟩≠some x:=λoff x=>by simp[World.cell?,h]
def dS.Pt{F F':Fr}{a:Act}{l:Nat}{r r':Loop}(hs:dS F I st a w)(hF:F.rd=some (l,r))(hF':F'={ F with rd:=some (l,r') })(hl:l<F.w0.heap.size->F.Tg l):
 dS F' I st a (w.putObj l (.loop r')):=by
 subst hF';obtain⟨h1,h2⟩:=hs.book.rnd l r hF;obtain⟨Sh,hk⟩:=vd (o':=.loop r') h1 (lJ h1);have hk:=hk (aO I st.U);have hz:w.heap.size<=(w.putObj l (.loop r')).heap.size:=by simp
 have u':=(ny.1 h1).1;refine⟨⟨by simpa using hs.sat.size,hs.sat.os,hs.sat.tape,hs.sat.output,λb hb hn=>?_,hs.sat.fin,hs.sat.inj,λid o ho=>?_,hs.sat.fresh,hs.sat.Va⟩,hs.le,hs.size,⟨λl' r'' e=>?_,?_⟩,λi hi=>E'.bY (dG.refl I) hk hz _ _ (hs.slot i hi)⟩
 .by_cases UY:b=l
  .subst UY;exact absurd (hl hb) hn
  .exact(Sh b UY).trans (hs.sat.same b hb hn)
 .refine(hs.sat.obj id o ho).bY (dG.refl I) hk hz λb sz cap hp=>Sh b ?_;rintro rfl;exact h2 ⟨id,o,sz,cap,ho,hp⟩
 .simp only[bh,Prod.mk.injEq]at e;obtain⟨rfl,rfl⟩:=e;exact⟨World.putObj_heap_same u',h2⟩
 .obtain⟨Ds,g1,g2,g3⟩:=hs.book.marks;refine⟨Ds,g1,g2,λD hD=>?_⟩;obtain⟨q1,q2,q3⟩:=g3 D hD;refine⟨q1,(Sh D ?_).trans q2,q3⟩;rintro rfl;rw[h1]at q2;cases q2
def Sat.KH{w0:World}{Tg:Nat->Prop}{U:al}(h:Sat w0 Tg I U w){SL l c:Nat}(Su:U SL=none)(L':I SL=.SZ l 0 c)(Sw:¬aO I U l){r:Loop}(hr:w.heap[l]?=some (.loop r))
 (hl:l<w0.heap.size->Tg l)(o:Obj)(env:List V)(he:aB I (aO I U) w env (tmpsOf o)):Sat w0 Tg I (C' U SL (gh o env)) (w.putObj l o):=by
 obtain⟨Sh,_⟩:=vd (o':=o) hr (lJ hr);have u':=(ny.1 hr).1;have hz:w.heap.size<=(w.putObj l o).heap.size:=by simp
 have Ze:∀b,aO I (C' U SL (gh o env)) b->aO I U b\/b=l:=by
  rintro b ⟨id,ob,sz,cap,h1,h2⟩;by_cases e:id=SL
  .subst e;rw[L']at h2;cases h2;exact .inr rfl
  .rw[ad e]at h1;exact .inl ⟨id,ob,sz,cap,h1,h2⟩
 have hk:rA (aO I U) (aO I (C' U SL (gh o env))) w (w.putObj l o):=λb ⟨off,x,hx⟩ hn=>by
  have Tu:b≠l:=by rintro rfl;exact lJ hr off x hx
  exact⟨λho=>(Ze b ho).elim hn Tu,fJ (Sh b Tu)⟩
 refine⟨by simpa using h.size,h.os,h.tape,h.output,λb hb hn=>?_,h.fin,?_,?_,?_,h.Va⟩
 .by_cases UY:b=l
  .subst UY;exact absurd (hl hb) hn
  .exact(Sh b UY).trans (h.same b hb hn)
 .intro id UA ob ob' b sz cap UP Tz h1 h2 h3 h4;by_cases e:id=SL<;>by_cases e':UA=SL
  .rw[e,e']
  .exfalso;subst e;rw[L']at h3;cases h3;rw[ad e']at h2;exact Sw ⟨UA,ob',UP,Tz,h2,h4⟩
  .exfalso;subst e';rw[L']at h4;cases h4;rw[ad e]at h1;exact Sw ⟨id,ob,sz,cap,h1,h3⟩
  .rw[ad e]at h1;rw[ad e']at h2;exact h.inj id UA ob ob' b sz cap UP Tz h1 h2 h3 h4
 .intro id ob ho;by_cases e:id=SL
  .subst e;rw[aA]at ho;cases ho;rw[L'];exact .inr ⟨rfl,rfl,o,env,rfl,World.putObj_heap_same u',aB.bY (dG.refl I) hk hz _ _ he⟩
  .rw[ad e]at ho;refine(h.obj id ob ho).bY (dG.refl I) hk hz λb sz cap hp=>Sh b ?_;rintro rfl;exact Sw ⟨id,ob,sz,cap,ho,hp⟩
 .intro b hb SX;rcases Ze b hb with h1|h1
  .exact h.fresh b h1 SX
  .subst h1;exact hl SX
variable {P:Program} {n:Nat} {st:St} {Q:St->Prop} {k:List It} {I:Mu} {w w':World}
def zi:List (Nat×(St->Prop))->List KI
 |[]=>[]
 |(id,μ)::l=>.inBlock id::.stop μ::zi l
def C6:∀(l:List (Nat×(St->Prop))),(zi l).map (KI.it P n)=exK l
 |[]=>rfl
 |(id,μ)::l=>by simp[zi,exK,KI.it,C6 l]
def jP{F:Fr}{e:Exit}{a:Act}(he:e≠.normal):∀(l:List (Nat×(St->Prop))),ml P F Q (zi l) e a w->
 (e=.ret/\∃st,Q st/\fB F st a w)\/∃id μ,(id,μ)∈l/\e=.exit id/\∃st,μ st/\fB F st a w
 |[],h=>.inl ⟨h.1.resolve_left he,h.2⟩
 |(id,μ)::l,h=>by
  have h:Exit.inBlock id (ml P F Q (.stop μ::zi l)) e a w:=h;have up:ml P F Q (zi l) e a w->_:=jP he l;have go:ml P F Q (zi l) e a w->(e=.ret/\∃st,Q st/\fB F st a w)\/∃UA I',(UA,I')∈(id,μ)::l/\e=.exit UA/\∃st,I' st/\fB F st a w:=λh=>by
   rcases up h with h|⟨i,I',h1,h2⟩
   .exact .inl h
   .exact .inr ⟨i,I',by simp[h1],h2⟩
  cases e with
  |normal=>exact absurd rfl he
  |exit j=>
   simp only[Exit.inBlock]at h;by_cases hj:j=id
   .rw[aI hj]at h;exact .inr ⟨id,μ,by simp,by rw[hj],h⟩
   .rw[aK hj]at h;exact go h
  |_=>exact go h
def FA:Option Nat->Code
 |none=>.ret
 |some id=>.exit id
def Gn{rec:Loop}(hready:rec.state=.ready)(hpend:rec.pending=none)(htm:rec.tmps.size=n){s:Nat->V}{SL:Nat}{x:List V}{ZJ U:al}
 (hx:x.length=rec.params.toList.length)(TH:ZJ SL=some (gh (.loop rec) ((List.range n).map s)))(G':aa ZJ U)
 (Jn:al->Prop)(Vf:List Nat)(Jx:Option Nat->al->Prop)
 (hb:ay P n [.code (ep P n rec.assign),.stop λst1=>ay P n (.code (ep P n rec.body)::.stop (λVG=>∃Z2,bF (del ZJ SL) (del U SL) Z2 VG.U/\Jn Z2)::
   exK (Vf.map λid=>(id,λVG=>∃Z2,bF (del ZJ SL) (del U SL) Z2 VG.U/\Jx (some id) Z2))) st1 (λVG=>∃Z2,bF (del ZJ SL) (del U SL) Z2 VG.U/\Jx none Z2)]
   ⟨pI s rec.params.toList x,del U SL⟩ (λ_=>False)):
 YC P SL x U λb Z'=>∃SN,bF ZJ U SN Z'/\((b=true/\SN SL=some (gh (.loop rec) ((List.range n).map s))/\Jn (del SN SL))\/
  (b=false/\∃e:Option Nat,SN SL=some (gh (.loop { rec with state:=.done,pending:=some (FA e) }) ((List.range n).map s))/\Jx e (del SN SL)/\∀id,e=some id->id∈Vf)):=by
 intro Y3 w3 R6 l c L' UD TV;have Su:=G' _ _ TH;obtain⟨hl,W7⟩:=UD.I6 Su L';have hvl:R6.length=rec.params.toList.length:=by rw[<-hx];exact TV.length
 have hy:=run_yield (P:=P) (args:=R6.toArray) hl (by simpa using hvl);have Sw:¬aO Y3 (del U SL) l:=by
  rintro⟨id,o,sz,cap,h1,h2⟩;have:=UD.inj id SL o _ l sz cap 0 c (aa.x7 U SL id o h1) Su h2 L';subst this;simp[del]at h1
 have hks:dB (aO Y3 U) (aO Y3 (del U SL)) w3 w3:=dB.sub w3 (aa.x7 U SL);have hslots:∀i,i<n->E' Y3 (aO Y3 (del U SL)) w3 (s i) (rec.tmps.getD i undef):=λi hi=>by
  have hv:((List.range n).map s)[i]?=some (s i):=by simp[hi]
  obtain⟨y,h1,h2⟩:=W7.get hv;have:rec.tmps.getD i undef=y:=by
   simp only[tmpsOf]at h1;rw[VJ,<-Array.getElem?_toList,h1];rfl
  rw[this];exact E'.mono (dG.refl _) hks (SD _) _ _ h2
 obtain⟨hg1,hg2⟩:=Ex rec.params.toList R6 rec.tmps x s n htm (aB.mono (dG.refl _) hks (SD _) _ _ TV) hx hslots;have hzip:(rec.params.zip R6.toArray).foldl (λtmps (t,a)=>tmps.setIfInBounds t a) rec.tmps=(rec.params.toList.zip R6).foldl (λt (p,v)=>t.setIfInBounds p v) rec.tmps:=by
  rw[<-Array.foldl_toList,Array.toList_zip]
 rw[hzip]at hy;refine⟨rec.fn,_,rec.assign,rec.body,hy,roundIn_of_wpIn (F:=Fence.wide) trivial ?_⟩;have TJ:dS ⟨w3,aO Y3 U,Y3,n,some (l,rec)⟩ Y3 ⟨pI s rec.params.toList x,del U SL⟩ { tmps:=(rec.params.toList.zip R6).foldl (λt (p,v)=>t.setIfInBounds p v) rec.tmps,defers:=[] } w3:=by
  refine⟨UD.drop (aa.x7 U SL),dG.refl _,hg1,⟨λl' r' e=>?_,[],rfl,.nil,by simp⟩,hg2⟩;simp only[bh,Prod.mk.injEq]at e;obtain⟨rfl,rfl⟩:=e;exact⟨hl,Sw⟩
 have h1:=hb ⟨w3,aO Y3 U,Y3,n,some (l,rec)⟩ rfl [.code rec.assign,.stop _] rfl _ w3 ⟨Y3,TJ⟩;refine wpIn_mono (F:=Fence.wide.inRound l) h1 ?_;intro e a1 w1 h;cases e with
 |normal=>
  obtain⟨st1,hI,X4,hs4⟩:=h;have hpk:=hs4.Pt (F':=⟨w3,aO Y3 U,Y3,n,some (l,{ rec with state:=.busy })⟩) (r':={ rec with state:=.busy }) rfl rfl (λ_=>⟨SL,_,0,c,Su,L'⟩);refine⟨_,run_beginRound (hs4.book.rnd l rec rfl).1 hready,?_⟩;have h2:=hI ⟨w3,aO Y3 U,Y3,n,some (l,{ rec with state:=.busy })⟩ rfl (.code rec.body::.stop _::zi _) (by simp only[ga,C6];rfl) a1 _ ⟨X4,hpk⟩;refine wpIn_mono (F:=Fence.wide.inRound l) h2 ?_;have fin:∀(VG:St) (a2:Act) (w2:World) (jump:Option Code) (Z2:al),fB ⟨w3,aO Y3 U,Y3,n,some (l,{ rec with state:=.busy })⟩ VG a2 w2->bF (del ZJ SL) (del U SL) Z2 VG.U->
   ∃v w'',(Instr.endRound l jump).run P w2=.ok v w''/\v=.bool jump.isNone/\∃Z' Y' SN,dG Y3 Y'/\Sat w3 (aO Y3 U) Y' Z' w''/\bF ZJ U SN Z'/\
    SN SL=some (gh (.loop { rec with state:=if jump.isNone then .ready else .done,pending:=jump }) ((List.range n).map s))/\del SN SL=Z2:=by
   rintro VG a2 w2 jump Z2 ⟨X5,WH⟩ UQ;obtain⟨q1,q2⟩:=WH.book.rnd l _ rfl;have WI:X5 SL=.SZ l 0 c:=(WH.le SL (show Y3 SL≠.dY by rw[L'];simp)).trans L';have hn5:VG.U SL=none:=by
    cases h:VG.U SL with
    |none=>rfl
    |some o=>exact absurd ⟨SL,o,0,c,h,WI⟩ q2
   have hk5:dB (aO Y3 U) (aO X5 VG.U) w3 w2:=λb hb hn=>⟨λho=>hn (WH.sat.fresh b ho hb),WH.sat.same b hb hn⟩
   have henv5:=aB.mono WH.le hk5 WH.sat.size _ _ W7;have Xo:Z2 SL=none:=by
    cases h:Z2 SL with
    |none=>rfl
    |some o=>have:=UQ.1 SL o h;rw[hn5]at this;cases this
   refine⟨_,_,run_endRound (P:=P) jump q1,rfl,C' VG.U SL (gh (.loop { rec with state:=if jump.isNone then .ready else .done,pending:=jump }) ((List.range n).map s)),X5,
    C' Z2 SL (gh (.loop { rec with state:=if jump.isNone then .ready else .done,pending:=jump }) ((List.range n).map s)),WH.le,?_,⟨UQ.1.LB,λi o h1 h2=>?_⟩,aA,CM Xo⟩
   .exact WH.sat.KH hn5 WI q2 q1 (λ_=>⟨SL,_,0,c,Su,L'⟩) _ _ henv5
   .have Sh:i≠SL:=λe=>by rw[e,TH]at h1;cases h1
    obtain⟨g1,g2⟩:=UQ.2 i o (by rw[eV Sh];exact h1) (by rw[eV Sh];exact h2);rw[ad Sh,ad Sh];exact⟨g1,g2⟩
  intro e a2 w2 h;cases e with
  |normal=>
   obtain⟨VG,⟨Z2,UQ,hj⟩,U2⟩:=h;obtain⟨v,w'',g1,rfl,Z',Y',SN,g2,g3,g4,g5,g6⟩:=fin VG a2 w2 none Z2 U2 UQ;refine⟨_,w'',g1,true,Z',Y',rfl,⟨SN,g4,.inl ⟨rfl,?_,by rw[g6];exact hj⟩⟩,g2,g3⟩;rw[g5];have:({ rec with state:=.ready,pending:=none }:Loop)=rec:=by rw[<-hready,<-hpend]
   simp[this]
  |ret=>
   rcases jP (by simp) _ h with⟨_,VG,⟨Z2,UQ,hj⟩,U2⟩|⟨_,_,_,h,_⟩
   .obtain⟨v,w'',g1,rfl,Z',Y',SN,g2,g3,g4,g5,g6⟩:=fin VG a2 w2 (some .ret) Z2 U2 UQ;exact⟨_,w'',g1,false,Z',Y',rfl,⟨SN,g4,.inr ⟨rfl,none,g5,by rw[g6];exact hj,by simp⟩⟩,g2,g3⟩
   .cases h
  |exit id=>
   rcases jP (by simp) _ h with⟨h,_⟩|⟨UA,μ,W6,h,VG,hI2,U2⟩
   .cases h
   .cases h;simp only[iE,Prod.mk.injEq]at W6;obtain⟨id'',hin',rfl,rfl⟩:=W6;obtain⟨Z2,UQ,hj⟩:=hI2;obtain⟨v,w'',g1,rfl,Z',Y',SN,g2,g3,g4,g5,g6⟩:=fin VG a2 w2 (some (.exit id'')) Z2 U2 UQ;exact⟨_,w'',g1,false,Z',Y',rfl,⟨SN,g4,.inr ⟨rfl,some id'',g5,by rw[g6];exact hj,by simp[hin']⟩⟩,g2,g3⟩
  |goto t=>rcases jP (by simp) _ h with⟨h,_⟩|⟨_,_,_,h,_⟩<;>cases h
  |panic ch=>rcases jP (by simp) _ h with⟨h,_⟩|⟨_,_,_,h,_⟩<;>cases h
  |outgrown=>rcases jP (by simp) _ h with⟨h,_⟩|⟨_,_,_,h,_⟩<;>cases h
 |ret=>exact h.2.choose_spec.1.elim
 |exit id=>rcases h.1 with h|h<;>cases h
 |goto t=>rcases h.1 with h|h<;>cases h
 |panic ch=>rcases h.1 with h|h<;>cases h
 |outgrown=>rcases h.1 with h|h<;>cases h
variable {P:Program} {n:Nat} {st:St} {Q:St->Prop} {k:List It} {I:Mu} {w w':World}
def wx{a:Act}{g:Operand}{l:Nat}{f:FuncId}{cv:List Value}(h:a.eval g=.func (.func f) #[] ⟨cv⟩):
 (resolve a.eval (rangeCall g l) 0).run P w=.ok { target:=.fn (.func f) ⟨cv⟩,args:=#[.func (.yield l) #[] #[]] } w:=by
 simp only[resolve,h,Deferred.ofValue];simp[go_sem]
def ay.I1{g:VX}{ps:List Nat}{A B:bV}{gf:FuncId}{caps:List V}(hg:g.ev st.s=.fn gf caps){xs:List (List V)}{Z0:al}(hs00:aa Z0 st.U)
 (YH:gQ P gf=true/\∀(SL:Nat) (τ Jx:List (List V)->al->Prop) (o:Ob),st.U SL=none->
   (∀pre x post ZJ U,xs=pre++x::post->τ pre ZJ->aa ZJ U->
     YC P SL x U λb Z'=>∃SN,bF ZJ U SN Z'/\((b=true/\τ (pre++[x]) SN)\/(b=false/\Jx (pre++[x]) SN)))->
   τ [] (C' Z0 SL o)->sC P gf (.yl SL::caps) (C' st.U SL o) λ_ Z'=>τ xs Z'\/∃pre,pre <+: xs/\Jx pre Z')
 (hlen:∀x∈xs,x.length=ps.length)(Vf:List Nat)(τ:List (List V)->al->Prop)(Jx:Option Nat->List (List V)->al->Prop)(h0:τ [] Z0)
 (hbody:∀pre x post ZJ U,xs=pre++x::post->τ pre ZJ->aa ZJ U->
   ay P n [.code A,.stop λst1=>ay P n (.code B::.stop (λVG=>∃Z2,bF ZJ U Z2 VG.U/\τ (pre++[x]) Z2)::
    exK (Vf.map λid=>(id,λVG=>∃Z2,bF ZJ U Z2 VG.U/\Jx (some id) (pre++[x]) Z2))) st1 (λVG=>∃Z2,bF ZJ U Z2 VG.U/\Jx none (pre++[x]) Z2)]
    ⟨pI st.s ps x,U⟩ (λ_=>False))
 (hdone:∀Z',τ xs Z'->ay P n k ⟨st.s,Z'⟩ Q)
 (hexit:∀id∈Vf,∀pre Z',pre <+: xs->Jx (some id) pre Z'->ay P n (.code (.exit id)::k) ⟨st.s,Z'⟩ Q)
 (hret:∀pre Z',pre <+: xs->Jx none pre Z'->ay P n (.code .ret::k) ⟨st.s,Z'⟩ Q):ay P n (.code (.gX g ps A B)::k) st Q:=by
 intro F hn kt hk a w hs;subst hn;obtain⟨z,UB,rfl,hy,TP⟩:=fj hk;obtain⟨c0,rfl,hc⟩:=ik hy;have VL:∃g0 ps0 a0 b0,c0=.rangeFunc g0 ps0 a0 b0/\cx F.n g0=g/\ps0.toList=ps/\ep P F.n a0=A/\ep P F.n b0=B:=by
  cases c0<;>simp only[ep,reduceCtorEq,bV.gX.injEq]at hc
  case region=>(split at hc;cases hc);split at hc<;>cases hc
  exact⟨_,_,_,_,rfl,hc.1,hc.2.1,hc.2.2.1,hc.2.2.2⟩
 obtain⟨g0,ps0,a0,b0,rfl,rfl,rfl,rfl,rfl⟩:=VL;obtain⟨I,hs⟩:=hs;have hrg:=cO hs g0;rw[hg]at hrg;simp only[E']at hrg;obtain⟨cv,hgv,hcv⟩:=hrg;refine wpIn_rangeFunc λfn _=>?_;obtain⟨mark,W0,D,TY,SQ⟩:=hs.enter (P:=P) fn ps0 a0 b0;generalize hrec:({ state:=.ready,pending:=none,fn,tmps:=a.tmps,params:=ps0,assign:=a0,body:=b0,defers:=D }:Loop)=rec at SQ;have hr1:rec.state=.ready:=by rw[<-hrec]
 have hr2:rec.pending=none:=by rw[<-hrec]
 have hr3:rec.tmps=a.tmps:=by rw[<-hrec]
 have hr4:rec.params=ps0:=by rw[<-hrec]
 have hr5:rec.assign=a0:=by rw[<-hrec]
 have hr6:rec.body=b0:=by rw[<-hrec]
 have hszn:rec.tmps.size=F.n:=by rw[hr3];exact hs.size
 have W7:aB I (aO I st.U) W0 ((List.range F.n).map st.s) (tmpsOf (.loop rec)):=by
  have hl:tmpsOf (.loop rec)=(List.range F.n).map λi=>a.tmps.getD i undef:=by
   simp only[tmpsOf,hr3];apply List.ext_getElem
   .simp[hs.size]
   .intro i h1 h2;simp only[dO,List.length_range]at h2;simp only[Array.getElem_toList,List.getElem_map,List.getElem_range];rw[VJ,Array.getElem?_eq_getElem (by rw[hs.size];exact h2)];rfl
  rw[hl];have TI:∀l:List Nat,(∀i∈l,i<F.n)->aB I (aO I st.U) W0 (l.map st.s) (l.map λi=>a.tmps.getD i undef):=by
   intro l
   induction l with
   |nil=>intro _;simp[aB]
   |cons i l ih=>
    intro h;simp only[ga,aB];exact⟨_,_,rfl,TY.slot i (h i (by simp)),ih λj hj=>h j (by simp[hj])⟩
  exact TI _ λi hi=>by simpa using hi
 obtain⟨SL,hidn,Y1,W8,hle1,hsat1,Tt⟩:=TY.sat.Nv (.loop rec) _ W7;generalize hE:(List.range F.n).map st.s=env at*;have hcvt:aB Y1 (aO Y1 (C' st.U SL (gh (.loop rec) env))) (W0.alloc (.loop rec)) caps cv:=by
  have h1:aB I (aO I st.U) W0 caps cv:=by
   have h2:=cO TY g0;rw[hg]at h2;simp only[E']at h2;obtain⟨cv',h3,h4⟩:=h2;have:a.eval g0=.func (.func gf) #[] ⟨cv'⟩:=h3;rw[hgv]at this;simp only[Value.func.injEq,Array.mk.injEq,true_and]at this;rw[this];exact h4
  exact aB.mono hle1 Tt (by simp) _ _ h1
 obtain⟨UK,hiter⟩:=YH;have key:=hiter SL (λpre ZJ=>ZJ SL=some (gh (.loop rec) env)/\τ pre (del ZJ SL))
  (λpre ZJ=>∃e:Option Nat,ZJ SL=some (gh (.loop { rec with state:=.done,pending:=some (FA e) }) env)/\Jx e pre (del ZJ SL)/\∀id,e=some id->id∈Vf)
  (gh (.loop rec) env) hidn ?_ ⟨aA,by rw[CM (hs00.none hidn)];exact h0⟩
 .refine⟨W0.heap.size,mark,_,_,_,gf,_,_,by rw[show F.fo.round=F.fo.round from rfl];exact SQ,wx hgv,λ_ _=>trivial,
   by simp only[invoke];exact mA UK _,lC F,oN ?_⟩
  have Tq:aB Y1 (aO Y1 (C' st.U SL (gh (.loop rec) env))) (W0.alloc (.loop rec)) (.yl SL::caps) (.func (.yield W0.heap.size) #[] #[]::cv):=by
   simp only[aB];exact⟨_,_,rfl,by simp[E',W8],hcvt⟩
  have Tr:=key Y1 _ _ hsat1.here Tq;have hvals:(Value.func (.yield W0.heap.size) #[] #[]::cv).toArray=#[.func (.yield W0.heap.size) #[] #[]]++⟨cv⟩:=by
   apply Array.ext';simp
  rw[hvals]at Tr;refine Tr.mono ?_;rintro e w2 ⟨r,Z',Y',val,rfl,hp,hle2,U2,-⟩;obtain⟨hs3,Xz⟩:=hsat1.compose U2;have hid2:Y' SL=.SZ W0.heap.size 0 0:=(hle2 SL (by rw[W8];simp)).trans W8;have fin:∀(Ym:Loop),Z' SL=some (gh (.loop Ym) env)->Ym.state≠.busy->∃w4,(Instr.endLoop W0.heap.size).run P w2=.ok Ym.pending w4/\
   fB F ⟨st.s,del Z' SL⟩ { a with defers:=mark++a.defers } w4:=by
   intro Ym TH Sg;obtain⟨ZG,henv2⟩:=U2.I6 TH hid2;refine⟨_,run_endLoop ZG Sg,Y',?_⟩;have We:=hs3.Oy TH hid2 (.loop { Ym with state:=.exhausted }) env henv2;have G':aa (del Z' SL) (C' Z' SL (gh (.loop { Ym with state:=.exhausted }) env)):=λi o h=>by
    unfold del at h;split at h
    .cases h
    .rename_i hi;rw[ad hi];exact h
   have hks:=dB.sub (I:=Y') (w2.putObj W0.heap.size (.loop { Ym with state:=.exhausted })) G';have hsz2:=U2.size;have hkall:dB (aO I st.U) (aO Y' (del Z' SL)) W0 (w2.putObj W0.heap.size (.loop { Ym with state:=.exhausted })):=λb hb hn=>by
    obtain⟨q1,q2⟩:=Tt b hb hn;have Vs:b<(W0.alloc (.loop rec)).heap.size:=by simp;omega
    obtain⟨q3,q4⟩:=Xz b Vs q1;have SF:b<w2.heap.size:=Nat.lt_of_lt_of_le Vs hsz2;obtain⟨q5,q6⟩:=We.2 b SF q3;exact⟨λho=>q5 (ho.sub G'),q6.trans (q4.trans q2)⟩
   have hle3:dG I Y':=hle1.trans hle2;have hz:W0.heap.size<=(w2.putObj W0.heap.size (.loop { Ym with state:=.exhausted })).heap.size:=by
    simp at hsz2|-;omega
   exact⟨We.1.drop G',TY.le.trans hle3,TY.size,TY.book.wj hkall,λi hi=>E'.mono hle3 hkall hz _ _ (TY.slot i hi)⟩
  rcases hp with⟨TH,hj⟩|⟨pre,VS,e,TH,hj,W6⟩
  .obtain⟨w4,g1,g2⟩:=fin rec TH (by rw[hr1];simp);refine⟨_,w4,g1,?_⟩;rw[hr2];exact hdone _ hj F rfl UB TP _ _ g2
  .obtain⟨w4,g1,g2⟩:=fin _ TH (by simp);refine⟨_,w4,g1,?_⟩;cases e with
   |none=>exact hret pre _ VS hj F rfl (.code .ret::UB) (by simp[KI.it,TP,ep]) _ _ g2
   |some id=>exact hexit id (W6 id rfl) pre _ VS hj F rfl (.code (.exit id)::UB) (by simp[KI.it,TP,ep]) _ _ g2
 .intro pre x post ZJ U Vt hJ G';have hx:x.length=rec.params.toList.length:=by rw[hr4];exact hlen x (by rw[Vt];simp)
  have hb:=hbody pre x post (del ZJ SL) (del U SL) Vt hJ.2 (CA G');subst hE;refine Gn hr1 hr2 hszn hx hJ.1 G' (τ (pre++[x])) Vf (λe=>Jx e (pre++[x])) ?_;rw[hr4,hr5,hr6];exact hb
def ay.gX{g:VX}{ps:List Nat}{A B:bV}{gf:FuncId}{caps:List V}(hg:g.ev st.s=.fn gf caps){xs:List (List V)}(YH:Iter P gf caps xs)
 (hlen:∀x∈xs,x.length=ps.length)(Vf:List Nat)(τ:List (List V)->al->Prop)(Jx:Option Nat->List (List V)->al->Prop)(h0:τ [] st.U)
 (hbody:∀pre x post ZJ U,xs=pre++x::post->τ pre ZJ->aa ZJ U->
   ay P n [.code A,.stop λst1=>ay P n (.code B::.stop (λVG=>∃Z2,bF ZJ U Z2 VG.U/\τ (pre++[x]) Z2)::
    exK (Vf.map λid=>(id,λVG=>∃Z2,bF ZJ U Z2 VG.U/\Jx (some id) (pre++[x]) Z2))) st1 (λVG=>∃Z2,bF ZJ U Z2 VG.U/\Jx none (pre++[x]) Z2)]
    ⟨pI st.s ps x,U⟩ (λ_=>False))
 (hdone:∀Z',τ xs Z'->ay P n k ⟨st.s,Z'⟩ Q)
 (hexit:∀id∈Vf,∀pre Z',pre <+: xs->Jx (some id) pre Z'->ay P n (.code (.exit id)::k) ⟨st.s,Z'⟩ Q)
 (hret:∀pre Z',pre <+: xs->Jx none pre Z'->ay P n (.code .ret::k) ⟨st.s,Z'⟩ Q):ay P n (.code (.gX g ps A B)::k) st Q:=
 ay.I1 hg (aa.refl _) ⟨YH.1,λSL J' Jx' _ _ hb h=>YH.2 SL J' Jx' _ hb h⟩ hlen Vf τ Jx h0 hbody hdone hexit hret
variable {P:Program} {n:Nat} {st:St} {Q:St->Prop} {k:List It}
def eL(Sv:List (List Nat))(n':List Nat):List Nat:=(List.range Sv.length).filter λi=>!n'.contains i&&(Sv.getD i []).all n'.contains
abbrev kX(ops:Array Oper):List (List Nat):=ops.toList.map λo=>(o.after.toList.filter (Region.binds .any)).map (·.on)
def xE{ops:Array Oper}{arr:Array Bool}{n':List Nat}(hs:arr.size=ops.size)(hl:∀i,i<ops.size->arr.getD i true=n'.contains i)
 (ho:∀i∈n',i<ops.size):Region.ready .any ops arr=eL (kX ops) n':=by
 unfold Region.ready eL;have hlen:(kX ops).length=ops.size:=by simp[kX]
 rw[hlen];refine List.filter_congr λi hi=>?_;have hi:i<ops.size:=by simpa using hi
 rw[hl i hi];congr 1;have h1:ops[i]?=some ops[i]:=Array.getElem?_eq_getElem hi;have h2:(kX ops).getD i []=(ops[i].after.toList.filter (Region.binds .any)).map (·.on):=by
  rw[yd];simp[kX,hi]
 rw[h1,h2];simp only[Option.map_some,Option.getD_some];rw[<-Array.all_toList,List.all_map,List.all_filter];congr 1;funext e;simp only[Function.comp];have h3:arr.getD e.on false=n'.contains e.on:=by
  by_cases he:e.on<ops.size
  .rw[<-hl _ he,VJ,VJ,Array.getElem?_eq_getElem (by omega)];rfl
  .rw[VJ,Array.getElem?_eq_none (by omega)];simp only[Option.getD_none];symm;rw[Bool.eq_false_iff];intro hc;exact he (ho _ (by simpa using hc))
 rw[h3]
def aa.uL{Z0 U:al}{e:Nat}(h:aa Z0 U)(he:Z0 e=Option.none):aa Z0 (del U e):=λi x hx=>by
 have Sh:i≠e:=λe'=>by rw[e',he]at hx;cases hx
 rw[eV Sh];exact h i x hx
def px:(∀{P:Program} {O:Tx P} {n:Nat} {k:List It} {st:St} {Q:St->Prop},step P O n 0 (.r k) st Q=Kof P n k st Q)/\(∀{P:Program} {n:Nat} {c:bV} {k:List It} {st:St} {Q:St->Prop},Kof P n (.code c::k) st Q=ay P n (.code c::k) st Q)/\
 (∀{P:Program} {n:Nat} {l:List aU} {k:List It} {st:St} {Q:St->Prop},Kof P n (.ops l::k) st Q=ay P n (.ops l::k) st Q)/\(∀{P:Program} {n id:Nat} {k:List It} {st:St} {Q:St->Prop},Kof P n (.inBlock id::k) st Q=ay P n (.inBlock id::k) st Q)/\
 ∀{P:Program} {n:Nat} {st:St} {Q:St->Prop},Kof P n [] st Q=ay P n [] st Q:=⟨rfl,rfl,rfl,rfl,rfl⟩
def Wk.bl{U Z':al}(sz:Nat):Wk U Z' .bl (.sl sz []):=by
 intro I w0 w Tg x hs hr;simp only[E']at hr|-;exact⟨none,0,by simpa using hr,by simp,.inl trivial⟩
def aP(K U:al)(e sz:Nat)(v:V)(rows:List V):Prop:=(v=.bl/\rows=[])\/∃id,v=.own id 0 rows.length/\U id=some ⟨e,sz,rows⟩/\K id=none
def aP.wk{K U:al}{e sz:Nat}{v:V}{rows:List V}(h:aP K U e sz v rows){K':al}(hK:aa K' K)(hs:aa K' U):Wk U K' v (.sl sz rows):=by
 rcases h with⟨rfl,rfl⟩|⟨id,rfl,ho,hk⟩
 .exact Wk.bl sz
 .have:=Wk.own hs ho (hK.none hk) (off:=0) (len:=rows.length) (by simp);rw[Gg,iC]at this;exact this
def aP.nG{K U:al}{e sz:Nat}{v:V}{rows:List V}(h:aP K U e sz v rows)(hs:aa K U){v0:V}(hv:V.sl sz rows=v0):
 aD v U λr Z'=>r=v0/\Z'=K:=⟨_,K,hs,h.wk (aa.refl K) hs,hv,rfl⟩
def bn{P:Program}{n:Nat}{Q:St->Prop}{k:List It}{O:Tx P}{f:Nat}{d:Option Nat}{l:List aU}{v:Nat->V}{ob:Ob}{s:Nat->V}{U:al}{e:Option Nat}
 (h:∀id Z',aa (bW U e) Z'->Z' id=some ob->U id=none->step P O n f (.r (.ops l::k)) ⟨bb s d (v id),Z'⟩ Q):
 EJ P O n f l k d ⟨s,U⟩ Q (some λid=>(v id,Vc.C' (bW U e) id ob)):=by
 rw[aH];refine λid L'=>h id _ ((aa.refl _).C' ?_) aA L';cases e with
 |none=>exact L'
 |some e=>
  simp only[bW,del];split
  .rfl
  .exact L'
def qs{P:Program}{n:Nat}{Q:St->Prop}{k:List It}{O:Tx P}{f:Nat}{d:Option Nat}{l:List aU}{v:Nat->V}{ob:Ob}{s:Nat->V}{U:al}{e:Option Nat}
 (h:∀id Z',aa (bW U e) Z'->Z' id=some ob->U id=none->step P O n f (.d l k) ⟨bb s d (v id),Z'⟩ Q):
 DJ P O n f l k d ⟨s,U⟩ Q (some λid=>(v id,Vc.C' (bW U e) id ob)):=by
 rw[aJ];refine λid L'=>h id _ ((aa.refl _).C' ?_) aA L';cases e with
 |none=>exact L'
 |some e=>
  simp only[bW,del];split
  .rfl
  .exact L'
def aP.dst{K U:al}{e sz:Nat}{v:V}{rows:List V}(h:aP K U e sz v rows){Z1:al}(hs:aa U Z1):
 ∃idA,bX Z1 e sz v=some (rows,idA)/\∀K':al,aa K' K->∀Z2,aa K' Z2->aa K' (bW Z2 idA):=by
 rcases h with⟨rfl,rfl⟩|⟨id,rfl,ho,hk⟩
 .exact⟨none,rfl,λ_ _ _ h=>h⟩
 .refine⟨some id,?_,λK' hK Z2 h=>h.uL (hK.none hk)⟩;simp only[bX,hs _ _ ho];rw[aI ⟨trivial,trivial,trivial,SD _⟩,iC]
def aP.start{K U:al}{e sz:Nat}:aP K U e sz .bl []:=.inl ⟨rfl,rfl⟩
def aP.new{K U:al}{e sz id:Nat}{rows:List V}{n:Nat}(hn:n=rows.length)(h:U id=some ⟨e,sz,rows⟩)(hk:K id=none):aP K U e sz (.own id 0 n) rows:=by
 subst hn;exact .inr ⟨id,rfl,h,hk⟩
def aP.len{K U:al}{e sz:Nat}{v:V}{rows:List V}(h:aP K U e sz v rows):eM false v=some (.int .i64 rows.length):=by
 rcases h with⟨rfl,rfl⟩|⟨id,rfl,ho,hk⟩<;>rfl
def aP.mono{K U Z':al}{e sz:Nat}{v:V}{rows:List V}(h:aP K U e sz v rows)(hs:aa U Z'):aP K Z' e sz v rows:=by
 rcases h with h|⟨id,h1,h2,h3⟩
 .exact .inl h
 .exact .inr ⟨id,h1,hs _ _ h2,h3⟩
def bR{U:al}{id e sz:Nat}{r:V}(h:U id=some ⟨e,sz,[r]⟩):cy U sz (.own id 0 1)=some [r]:=by
 simp[cy,h]
def Wk.ptr{U Z':al}(h:aa Z' U){id:Nat}{e sz:Nat}{r:V}(ho:U id=some ⟨e,sz,[r]⟩)(L':Z' id=none):Wk U Z' (.ptr id 0 0) (.rp r):=by
 intro I w0 w Tg x hs hr;simp only[E']at hr|-;have TT:=hs.obj id _ ho;split at hr
 .rename_i b UP cap hb;obtain⟨rfl,hz⟩:=hr;rw[hb]at TT;have u':b<w.heap.size:=aO.lt hs ⟨id,_,_,_,ho,hb⟩;obtain⟨g1,g2,g3,g4,g5⟩:=TT.rows hz;refine⟨b,_,rfl,u',.inr ?_,?_⟩
  .rintro⟨UA,ob',sz'',cap'',e1,e2⟩;have:=hs.inj UA id ob' _ _ _ _ _ _ (h _ _ e1) ho e2 hb;rw[this,L']at e1;cases e1
  .simp only[bc]at g5;have:=bc.mono (dG.refl I) (dB.sub w h) (SD _) [r] b 0 UP rfl (by simp only[bc];exact⟨g5.1,g5.2.1,trivial⟩);simp only[bc]at this;simpa using this.2.1
 .exact hr.elim
def Wk.fn{U Z':al}{f:FuncId}{vs vs':List V}(h:Zb U Z' vs vs'):Wk U Z' (.fn f vs) (.fn f vs'):=by
 intro I w0 w Tg x hs hr;simp only[E']at hr|-;obtain⟨R6,rfl,h1⟩:=hr;exact⟨R6,rfl,Zb.all hs h h1⟩
def V.dV(vs:List V):V.cells (.agg vs)=vs:=rfl
def V.dW(k:IntKind)(i:Int):V.cells (.int k i)=[.int k i]:=rfl
def V.df:V.cells .bl=[.bl]:=rfl
def V.dT(a b c:Nat):V.cells (.own a b c)=[.own a b c]:=rfl
def V.fa(a:Nat)(b:List V):V.cells (.sl a b)=[.sl a b]:=rfl
def V.ef(a:List UInt8):V.cells (.str a)=[.str a]:=rfl
def V.di(a:Bool):V.cells (.bool a)=[.bool a]:=rfl
def V.eW(a:FuncId)(b:List V):V.cells (.fn a b)=[.fn a b]:=rfl
def V.dZ(a b c:Nat):V.cells (.ptr a b c)=[.ptr a b c]:=rfl
def V.eZ(a:V):V.cells (.rp a)=[.rp a]:=rfl
def V.ed(vs:List V):V.stays (.agg vs)=true:=rfl
def V.dX(k:IntKind)(i:Int):V.stays (.int k i)=true:=rfl
def V.dk:V.stays .bl=true:=rfl
def V.ee(a b c:Nat):V.stays (.own a b c)=true:=rfl
def V.fi(a:Nat)(b:List V):V.stays (.sl a b)=true:=rfl
def V.ec(a:List UInt8):V.stays (.str a)=true:=rfl
def V.dg(a:Bool):V.stays (.bool a)=true:=rfl
def V.fc(a:FuncId)(b:List V):V.stays (.fn a b)=true:=rfl
def V.dU(a b c:Nat):V.stays (.ptr a b c)=true:=rfl
def V.fg(a:V):V.stays (.rp a)=true:=rfl
end Go.Vc
