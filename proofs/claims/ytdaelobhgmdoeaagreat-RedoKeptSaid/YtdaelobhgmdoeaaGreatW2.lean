/- Part 2 of the library of this proof. -/
import Derived.Test.YtdaelobhgmdoeaaGreatW1
import Derived.TacticsIn
import Derived.RangeFuncNested
import Derived.RangeFuncLeaves
import Derived.Orders
import Derived.OrdersIn
import Derived.Lib.SliceRun
import Derived.WideLaws
import Derived.Laws.RangeString
import Derived.Laws.Runes
import Derived.Attr
set_option linter.all false
set_option maxHeartbeats 8000000
set_option maxRecDepth 100000
namespace Go.Vc
inductive It where
 |code (c:bG)
 |inBlock (id:Nat)
 |ops (l:List aD)
 |stop (μ:St->Prop)
inductive KI where
 |code (c:Code)
 |inBlock (id:Nat)
 |ops (all:Array Oper) (l:List Oper)
 |stop (μ:St->Prop)
def KI.it(P:Program)(n:Nat):KI->It
 |.code c=>.code (dk P n c)
 |.inBlock id=>.inBlock id
 |.ops all l=>.ops (l.map (bM P n all))
 |.stop μ=>.stop μ
def Fr.ed(F:Fr):Fence:={ Fence.wide with round:=F.rd.map (·.1) }
def lG(F:Fr):F.ed.depth.isSome=true->1<=0:=λh=>by simp[Fr.ed,Fence.wide]at h
def pI{F:Fr}{n:Nat}{P:Program}{f:FuncId}{args:Array Value}{w:World}{R:Ending->World->Prop}(h:Calls P f args w R):CallsIn F.ed n P f args w R:=by
 have h1:CallsIn Fence.wide n P f args w R:=callsIn_wide.2 h;exact h1
def Gb{F:Fr}{P:Program}{o:Oper}{a:Act}{w:World}{next:Act->World->Prop}{Q:Exit->Act->World->Prop}(hd:∀c,o.op≠.defer c)(h:o.wp P a w next Q):
 o.wpIn F.ed 0 P a w next Q:=by
 refine⟨λ_ _=>trivial,?_⟩;rw[Oper.semAt_eq _ _ _ hd];unfold Oper.wp at h;generalize (execOp a.eval o).run P w=r at*;cases r with
 |ok x w'=>
  cases x<;>simp only[Oper.upon,Oper.uponIn]at h|-<;>first
   |exact h
   |exact⟨lG F,pI h⟩
   |contradiction
   |skip
  exact⟨lG F,λc cs _=>let ⟨v,w',r,s⟩:=h c cs;⟨v,w',r,stepsIn_wide.2 s⟩⟩
 |halt x w'=>cases x<;>simp only[Oper.upon,Oper.uponIn]at h|-<;>first|exact h|contradiction
def ke{P:Program}{n:Nat}{o:Op}(h:WX P n o≠.bad)(c:Call):o≠.defer c:=λe=>by subst e;exact h rfl
def ld(P:Program)(F:Fr)(Q:St->Prop):List KI->Exit->Act->World->Prop
 |[],e,a,w=>(e=.normal\/e=.ret)/\∃st,Q st/\eE F st a w
 |.code c::k,e,a,w=>match e with
   |.normal=>c.wpIn F.ed 0 P (ld P F Q k) a w
   |e=>ld P F Q k e a w
 |.inBlock id::k,e,a,w=>Exit.inBlock id (ld P F Q k) e a w
 |.ops all l::k,e,a,w=>match e with
   |.normal=>wpListIn F.ed 0 P all (ld P F Q k) l a w
   |e=>ld P F Q k e a w
 |.stop μ::k,e,a,w=>match e with
   |.normal=>∃st,μ st/\eE F st a w
   |e=>ld P F Q k e a w
def ab(P:Program)(n:Nat)(todo:List It)(st:St)(Q:St->Prop):Prop:=
 ∀F:Fr,F.n=n->∀kt:List KI,kt.map (KI.it P n)=todo->∀a w,eE F st a w->ld P F Q kt .normal a w
variable {P:Program} {n:Nat} {st:St} {Q:St->Prop} {k:List It}
def ab.nil(h:Q st):ab P n [] st Q:=by
 intro F _ kt hk a w hs;cases kt with
 |nil=>exact⟨.inl rfl,st,h,hs⟩
 |cons x kt=>simp at hk
def dN{kt:List KI}{x:It}(h:kt.map (KI.it P n)=x::k):∃y YN,kt=y::YN/\y.it P n=x/\YN.map (KI.it P n)=k:=by
 cases kt with
 |nil=>simp at h
 |cons y YN=>simp only[eo,List.cons.injEq]at h;exact⟨y,YN,rfl,h.1,h.2⟩
def gw{y:KI}{c:bG}(h:y.it P n=.code c):∃c0,y=.code c0/\dk P n c0=c:=by
 cases y<;>simp only[KI.it,It.code.injEq,reduceCtorEq]at h;exact⟨_,rfl,h⟩
def ab.skip(h:ab P n k st Q):ab P n (.code .skip::k) st Q:=by
 intro F hn kt hk a w hs;obtain⟨y,YN,rfl,hy,Yc⟩:=dN hk;obtain⟨c0,rfl,hc⟩:=gw hy;have hc0:c0=.skip:=by
  cases c0<;>simp only[dk,reduceCtorEq]at hc<;>(try (split at hc;cases hc))<;>(try (split at hc<;>cases hc))<;>try rfl
 subst hc0;exact wpIn_skip (h F hn YN Yc a w hs)
def ab.seq{x y:bG}(h:ab P n (.code x::.code y::k) st Q):ab P n (.code (.seq x y)::k) st Q:=by
 intro F hn kt hk a w hs;obtain⟨z,YN,rfl,hy,Yc⟩:=dN hk;obtain⟨c0,rfl,hc⟩:=gw hy;have hc0:∃x0 y0,c0=.seq x0 y0/\dk P n x0=x/\dk P n y0=y:=by
  cases c0<;>simp only[dk,reduceCtorEq,bG.seq.injEq]at hc
  case region=>(split at hc;cases hc);split at hc<;>cases hc
  exact⟨_,_,rfl,hc.1,hc.2⟩
 obtain⟨x0,y0,rfl,rfl,rfl⟩:=hc0;refine wpIn_seq (wpIn_mono (h F hn (.code x0::.code y0::YN) (by simp[KI.it,Yc]) a w hs) ?_);intro e a' w' hq;cases e<;>exact hq
def ab.block{id:Nat}{x:bG}(h:ab P n (.code x::.inBlock id::k) st Q):ab P n (.code (.block id x)::k) st Q:=by
 intro F hn kt hk a w hs;obtain⟨z,YN,rfl,hy,Yc⟩:=dN hk;obtain⟨c0,rfl,hc⟩:=gw hy;have hc0:∃x0,c0=.block id x0/\dk P n x0=x:=by
  cases c0<;>simp only[dk,reduceCtorEq,bG.block.injEq]at hc
  case region=>(split at hc;cases hc);split at hc<;>cases hc
  obtain⟨rfl,h2⟩:=hc;exact⟨_,rfl,h2⟩
 obtain⟨x0,rfl,rfl⟩:=hc0;exact wpIn_block (h F hn (.code x0::.inBlock id::YN) (by simp[KI.it,Yc]) a w hs)
def ab.inBlock{id:Nat}(h:ab P n k st Q):ab P n (.inBlock id::k) st Q:=by
 intro F hn kt hk a w hs;obtain⟨z,YN,rfl,hy,Yc⟩:=dN hk;cases z<;>simp only[KI.it,It.inBlock.injEq,reduceCtorEq]at hy;exact h F hn YN Yc a w hs
def ab.stop{μ:St->Prop}(h:μ st):ab P n (.stop μ::k) st Q:=by
 intro F hn kt hk a w hs;obtain⟨z,YN,rfl,hy,Yc⟩:=dN hk;cases z<;>simp only[KI.it,It.stop.injEq,reduceCtorEq]at hy;subst hy;exact⟨st,h,hs⟩
def jB(id:Nat):List It->Option (List It)
 |[]=>none
 |.inBlock j::k=>if id=j then some k else jB id k
 |_::k=>jB id k
def mA{F:Fr}{id:Nat}{a:Act}{w:World}:∀{kt:List KI} {k':List It},jB id (kt.map (KI.it P n))=some k'->
 (∀YN,YN.map (KI.it P n)=k'->ld P F Q YN .normal a w)->ld P F Q kt (.exit id) a w
 |[],_,h,_=>by simp[jB]at h
 |.code c::kt,_,h,hq=>mA (kt:=kt) (by simpa[KI.it,jB]using h) hq
 |.ops all l::kt,_,h,hq=>mA (kt:=kt) (by simpa[KI.it,jB]using h) hq
 |.stop μ::kt,_,h,hq=>mA (kt:=kt) (by simpa[KI.it,jB]using h) hq
 |.inBlock j::kt,k',h,hq=>by
  simp only[eo,KI.it,jB]at h;simp only[ld,Exit.inBlock];by_cases hj:id=j
  .rw[aq hj]at h|-;simp only[aI]at h;exact hq kt h
  .rw[ao hj]at h|-;exact mA h hq
def ab.exit{id:Nat}{k':List It}(hp:jB id k=some k')(h:ab P n k' st Q):ab P n (.code (.exit id)::k) st Q:=by
 intro F hn kt hk a w hs;obtain⟨z,YN,rfl,hy,Yc⟩:=dN hk;obtain⟨c0,rfl,hc⟩:=gw hy;have hc0:c0=.exit id:=by
  cases c0<;>simp only[dk,reduceCtorEq,bG.exit.injEq]at hc
  case region=>(split at hc;cases hc);split at hc<;>cases hc
  rw[hc]
 subst hc0;exact wpIn_exit (mA (n:=n) (by rw[Yc];exact hp) (λkt'' h''=>h F hn kt'' h'' a w hs))
def lW{F:Fr}{a:Act}{w:World}(h:∃st,Q st/\eE F st a w):∀(kt:List KI),ld P F Q kt .ret a w
 |[]=>⟨.inr rfl,h⟩
 |.code _::kt=>lW h kt
 |.inBlock _::kt=>lW h kt
 |.ops _ _::kt=>lW h kt
 |.stop _::kt=>lW h kt
def ab.ret(h:Q st):ab P n (.code .ret::k) st Q:=by
 intro F hn kt hk a w hs;obtain⟨z,YN,rfl,hy,Yc⟩:=dN hk;obtain⟨c0,rfl,hc⟩:=gw hy;have hc0:c0=.ret:=by
  cases c0<;>simp only[dk,reduceCtorEq]at hc<;>(try (split at hc;cases hc))<;>(try (split at hc<;>cases hc))<;>try rfl
 subst hc0;exact wpIn_ret (lW ⟨st,h,hs⟩ YN)
def ab.cond{c:VX}{x y:bG}{b:Bool}(hc:c.ev st.s=.bool b)(h1:b=true->ab P n (.code x::k) st Q)(h2:b=false->ab P n (.code y::k) st Q):
 ab P n (.code (.cond c x y)::k) st Q:=by
 intro F hn kt hk a w hs;obtain⟨z,YN,rfl,hy,Yc⟩:=dN hk;obtain⟨c0,rfl,XZ⟩:=gw hy;have hc0:∃o x0 y0,c0=.cond o x0 y0/\cx n o=c/\dk P n x0=x/\dk P n y0=y:=by
  cases c0<;>simp only[dk,reduceCtorEq,bG.cond.injEq]at XZ
  case region=>(split at XZ;cases XZ);split at XZ<;>cases XZ
  exact⟨_,_,_,rfl,XZ.1,XZ.2.1,XZ.2.2⟩
 obtain⟨o,x0,y0,rfl,rfl,rfl,rfl⟩:=hc0;obtain⟨I,WT⟩:=hs;have he:=bU WT o;rw[hn,hc]at he;simp only[E']at he;exact wpIn_cond_split he (λhb=>h1 hb F hn (.code x0::YN) (by simp[KI.it,Yc]) a w ⟨I,WT⟩) (λhb=>h2 hb F hn (.code y0::YN) (by simp[KI.it,Yc]) a w ⟨I,WT⟩)
def ab.region{l:List aD}(h:ab P n (.ops l::k) st Q):ab P n (.code (.Za false l)::k) st Q:=by
 intro F hn kt hk a w hs;obtain⟨z,YN,rfl,hy,Yc⟩:=dN hk;obtain⟨c0,rfl,XZ⟩:=gw hy;have hc0:∃id ops,c0=.region id ops false/\ops.toList.map (bM P n ops)=l:=by
  cases c0<;>simp only[dk,reduceCtorEq]at XZ;rename_i id ops draw;cases draw
  .simp only[Bool.false_and,fG,if_false,bG.Za.injEq,true_and]at XZ;exact⟨id,ops,rfl,XZ⟩
  .simp only[Bool.true_and]at XZ;split at XZ
   .cases XZ
   .split at XZ
    .cases XZ
    .simp at XZ
 obtain⟨id,ops,rfl,rfl⟩:=hc0;exact wpIn_region_list (h F hn (.ops ops ops.toList::YN) (by simp[KI.it,Yc]) a w hs)
def ab.ES(h:ab P n k st Q):ab P n (.ops []::k) st Q:=by
 intro F hn kt hk a w hs;obtain⟨z,YN,rfl,hy,Yc⟩:=dN hk;cases z<;>simp only[KI.it,It.ops.injEq,reduceCtorEq,List.map_eq_nil_iff]at hy;subst hy;exact h F hn YN Yc a w hs
def aZ(s:Nat->V):Option (VX×Bool)->Option Bool
 |none=>some true
 |some (x,b)=>match x.ev s with
    |.bool c=>some (c==b)
    |.WJ []=>some false
    |.int _ _=>some false
    |_=>none
def rG{F:Fr}{I:Mu}{st:St}{a:Act}{w:World}(hs:cQ F I st a w)(all:Array Oper)(o:Oper){b:Bool}(h:aZ st.s (bM P F.n all o).g=some b):
 Region.wanted o (yielded all a.tmps)=b:=by
 unfold Region.wanted;cases hg:o.guard with
 |none=>simp[bM,hg,aZ]at h;simp[h]
 |some g=>
  obtain⟨j,want⟩:=g;simp only[bM,hg,Option.map_some,aZ]at h;cases hd:(all[j]?).bind (·.dst)with
  |none=>
   simp only[hd,VX.ev]at h;simp only[aI]at h;subst h;simp[yielded,hd]
  |some d=>
   simp only[hd]at h;by_cases hdn:d<F.n
   .simp only[aq hdn,VX.ev]at h;have hr:=hs.slot d hdn;have ZU:a.tmps[d]?=some (a.tmps.getD d undef):=by
     rw[Zq7,Array.getElem?_eq_getElem (by rw[hs.size];exact hdn)];rfl
    simp only[yielded,hd,Option.bind_some,ZU];split at h
    .rename_i c hc;rw[hc]at hr;simp only[E']at hr;rw[hr];simp only[aI]at h;rw[<-h];rfl
    .rename_i hc;rw[hc]at hr;simp only[E',ar]at hr;obtain⟨WO,hv,rfl⟩:=hr;rw[hv];simp only[aI]at h;rw[<-h];rfl
    .rename_i hc;rw[hc]at hr;simp only[E']at hr;rw[hr];simp only[aI]at h;rw[<-h];rfl
    .cases h
   .simp only[ao hdn,VX.ev]at h;simp only[aI]at h;have hle:a.tmps.size<=d:=by rw[hs.size];exact Nat.le_of_not_lt hdn
    have:a.tmps[d]?=none:=Array.getElem?_eq_none hle;simp[yielded,hd,this,<-h]
def St.put(st:St)(d:Option Nat)(v:V):St:=⟨aQ st.s d v,st.U⟩
def ab.M7{i:aD}{l:List aD}(hw:aZ st.s i.g=some true)
 (h:∀(F:Fr),F.n=n->∀(I:Mu) (a:Act) (w:World) (o:Oper) (all:Array Oper),bM P n all o=i->cQ F I st a w->
   ∀(next:Act->World->Prop) (Q':Exit->Act->World->Prop),(∀Yy a' w',eE F Yy a' w'->ab P n (.ops l::k) Yy Q->next a' w')->o.wpIn F.ed 0 P a w next Q'):
 ab P n (.ops (i::l)::k) st Q:=by
 intro F hn kt hk a w hs;obtain⟨z,YN,rfl,hy,Yc⟩:=dN hk;cases z<;>simp only[KI.it,It.ops.injEq,reduceCtorEq]at hy;rename_i all os;cases os with
 |nil=>simp at hy
 |cons o os=>
  simp only[eo,List.cons.injEq]at hy;obtain⟨hi,hl⟩:=hy;obtain⟨I,WT⟩:=hs;have hwant:=rG (P:=P) WT all o (b:=true) (by rw[hn,hi];exact hw);simp only[ld,wpListIn,hwant,if_true];refine h F hn I a w o all hi WT _ _ ?_;intro Yy a' w' hs'' hsem;exact hsem F hn (.ops all os::YN) (by simp[KI.it,hl,Yc]) a' w' hs''
def ab.ins{i:aD}{l:List aD}(hb:i.op≠.bad)(hw:aZ st.s i.g=some true)
 (h:∀(F:Fr),F.n=n->∀(I:Mu) (a:Act) (w:World) (o:Oper) (all:Array Oper),bM P n all o=i->cQ F I st a w->
   ∀(next:Act->World->Prop) (Q':Exit->Act->World->Prop),(∀Yy a' w',eE F Yy a' w'->ab P n (.ops l::k) Yy Q->next a' w')->o.wp P a w next Q'):
 ab P n (.ops (i::l)::k) st Q:=by
 refine ab.M7 hw λF hn I a w o all hi hs next Q' WK=>Gb ?_ (h F hn I a w o all hi hs next Q' WK)
 refine ke (P:=P) (n:=n) ?_;have:i.op=WX P n o.op:=by rw[<-hi];rfl
 rw[<-this];exact hb
def ab.u9{i:aD}{l:List aD}(hw:aZ st.s i.g=some false)(h:ab P n (.ops l::k) (st.put i.dst (.WJ [])) Q):ab P n (.ops (i::l)::k) st Q:=by
 intro F hn kt hk a w hs;obtain⟨z,YN,rfl,hy,Yc⟩:=dN hk;cases z<;>simp only[KI.it,It.ops.injEq,reduceCtorEq]at hy;rename_i all os;cases os with
 |nil=>simp at hy
 |cons o os=>
  simp only[eo,List.cons.injEq]at hy;obtain⟨hi,hl⟩:=hy;obtain⟨I,WT⟩:=hs;have hwant:=rG (P:=P) WT all o (b:=false) (by rw[hn,hi];exact hw);simp only[ld,wpListIn,hwant,fG,if_false];refine⟨λ_ _=>trivial,?_⟩;refine h F hn (.ops all os::YN) (by simp[KI.it,hl,Yc]) _ w ⟨I,?_⟩;have hd:i.dst=o.dst.filter (·<F.n):=by rw[<-hi,hn];rfl
  rw[St.put,hd];exact WT.pure (by simp only[E'];exact⟨[],rfl,by simp[ar]⟩)
def ab.pure{i:aD}{l:List aD}{v:V}(hw:aZ st.s i.g=some true)(hp:ez st.s i.op)(hv:aF st.U st.s i.op=some v)
 (h:ab P n (.ops l::k) (st.put i.dst v) Q):ab P n (.ops (i::l)::k) st Q:=by
 refine ab.ins (λe=>by rw[e]at hv;simp[aF]at hv) hw λF hn I a w o all hi hs next Q' WK=>?_
 subst hn;have WN:i.op=WX P F.n o.op:=by rw[<-hi];rfl
 have hd:i.dst=o.dst.filter (·<F.n):=by rw[<-hi];rfl
 obtain⟨z,hz,hr⟩:=tY hs o (WN▸hp) (WN▸hv);unfold Oper.wp;rw[hz];refine WK (st.put i.dst v) _ _ ⟨I,?_⟩ h;rw[St.put,hd];exact hs.pure hr
variable {P:Program} {n:Nat} {st:St} {Q:St->Prop} {k:List It}
def Hi{F:Fr}{o:Oper}{a:Act}{w:World}{next next':Act->World->Prop}{R R':Exit->Act->World->Prop}(h:o.wpIn F.ed 0 P a w next R)
 (hn:∀a w,next a w->next' a w)(hq:∀e a w,e≠.normal->R e a w->R' e a w):o.wpIn F.ed 0 P a w next' R':=by
 refine⟨h.1,?_⟩;have h:=h.2;generalize (o.semAt F.ed.round a.eval).run P w=r at*;cases r with
 |ok x w'=>
  cases x<;>simp only[Oper.uponIn]at h|-<;>first
   |exact hn _ _ h
   |exact⟨h.1,CallsIn.mono h.2 (λe w'' he=>by cases e<;>first|exact hn _ _ he|exact hq _ _ _ (by simp) he|(obtain⟨a0,w0,h2⟩:=he;exact⟨a0,w0,hq _ _ _ (by simp) h2⟩))⟩
   |exact⟨h.1,RowsIn.mono h.2 (λ_ _ he=>hn _ _ he)⟩
   |exact⟨h.1,RoundIn.mono h.2 (λe w'' he=>by cases e<;>first|exact hn _ _ he|exact hq _ _ _ (by simp) he|(obtain⟨a0,w0,h2⟩:=he;exact⟨a0,w0,hq _ _ _ (by simp) h2⟩))⟩
   |contradiction
 |halt x w'=>cases x<;>simp only[Oper.uponIn]at h|-<;>first|exact hq _ _ _ (by simp) h|contradiction
def lH{F:Fr}{all:Array Oper}{R R':Exit->Act->World->Prop}(hq:∀e a w,R e a w->R' e a w):∀(l:List Oper) (a:Act) (w:World),wpListIn F.ed 0 P all R l a w->wpListIn F.ed 0 P all R' l a w
 |[],a,w,h=>hq _ _ _ h
 |o::l,a,w,h=>by
  simp only[wpListIn]at h|-;split
  .rename_i hw;simp only[hw,if_true]at h;exact Hi h (lH hq l) (λe a w _=>hq e a w)
  .rename_i hw;simp only[hw]at h;exact⟨h.1,lH hq l _ _ h.2⟩
def Wk(U Z':ag)(v v':V):Prop:=∀(I:Mu) (w0 w:World) (XN:Nat->Prop) (x:Value),Sat w0 XN I U w->E' I (az I U) w v x->E' I (az I Z') w v' x
def Wk.refl{U Z':ag}(h:aa Z' U)(v:V):Wk U Z' v v:=λI _ w _ x _ hr=>E'.mono (cI.refl I) (cM.sub w h) (Xm _) v x hr
def Wk.undef{U Z':ag}(v:V):Wk U Z' v .undef:=λ_ _ _ _ _ _ _=>by simp[E']
def Wk.own{U Z':ag}(h:aa Z' U){id off len:Nat}{ob:Ob}(ho:U id=some ob)(P':Z' id=none)(hl:off+len<=ob.rows.length):
 Wk U Z' (.own id off len) (.sl ob.sz ((ob.rows.drop off).take len)):=by
 intro I w0 w XN x hs hr;simp only[E']at hr|-;have hlen:((ob.rows.drop off).take len).length=len:=by simp;omega
 have Xz:=hs.obj id ob ho;split at hr
 .exact hr.elim
 .obtain⟨rfl,rfl,rfl⟩:=hr;exact⟨none,0,by simp,by simp,.inl (by simp)⟩
 .rename_i b sz cap hb;obtain⟨o,c,rfl,h1,h2,h3,hz⟩:=hr;refine⟨_,c,by rw[hlen],by omega,?_⟩;by_cases h0:len=0
  .left;subst h0;simp
  .right;rw[hb]at Xz;obtain⟨g1,g2,g3,g4,g5⟩:=Xz.rows hz;have ho':o=off*sz:=by
    rcases h3 with h3|h3
    .exact h3
    .omega
   subst ho' g1;refine⟨b,_,rfl,?_,g2,?_⟩
   .rintro⟨YQ,ob',sz',Yw,e1,e2⟩;have:=hs.inj YQ id ob' ob _ _ _ _ _ (h _ _ e1) ho e2 hb;rw[this,P']at e1;cases e1
   .have:=(g5.drop off).take len;rw[iV]at this;exact aT.mono (cI.refl I) (cM.sub w h) (Xm _) _ _ _ _ rfl this
def WkL(U Z':ag):List V->List V->Prop
 |[],[]=>True
 |v::vs,v'::vs'=>Wk U Z' v v'/\WkL U Z' vs vs'
 |_,_=>False
def WkL.all{U Z':ag}{I:Mu}{w0 w:World}{XN:Nat->Prop}(hs:Sat w0 XN I U w):∀{vs vs':List V} {l:List Value},WkL U Z' vs vs'->
 ar I (az I U) w vs l->ar I (az I Z') w vs' l
 |[],[],_,_,h=>by simpa[ar]using h
 |v::vs,v'::vs',l,hw,h=>by
  simp only[ar]at h|-;obtain⟨x,xs,rfl,h1,h2⟩:=h;exact⟨x,xs,rfl,hw.1 I w0 w XN x hs h1,WkL.all hs hw.2 h2⟩
 |[],_::_,_,hw,_=>hw.elim
 |_::_,[],_,hw,_=>hw.elim
def Wk.agg{U Z':ag}{vs vs':List V}(h:WkL U Z' vs vs'):Wk U Z' (.agg vs) (.agg vs'):=by
 intro I w0 w XN x hs hr;simp only[E']at hr|-;obtain⟨WO,rfl,h1,h2⟩:=hr;exact⟨WO,rfl,WkL.all hs h h1,h2⟩
def Wk.WJ{U Z':ag}{vs vs':List V}(h:WkL U Z' vs vs'):Wk U Z' (.WJ vs) (.WJ vs'):=by
 intro I w0 w XN x hs hr;simp only[E']at hr|-;obtain⟨WO,rfl,h1⟩:=hr;exact⟨WO,rfl,WkL.all hs h h1⟩
def OY(st Yy:St):Prop:=aa Yy.U st.U/\∀i,Wk st.U Yy.U (st.s i) (Yy.s i)
def OY.sat{st Yy:St}(h:OY st Yy){F:Fr}{a:Act}{w:World}(hs:eE F st a w):eE F Yy a w:=by
 obtain⟨I,hs⟩:=hs;exact⟨I,hs.sat.drop h.1,hs.le,hs.size,hs.book.lV (cM.sub w h.1),λi hi=>h.2 i I _ _ _ _ hs.sat (hs.slot i hi)⟩
def ab.weaken{todo:List It}{Yy:St}(h:OY st Yy)(hr:ab P n todo Yy Q):ab P n todo st Q:=
 λF hn kt hk a w hs=>hr F hn kt hk a w (h.sat hs)
def ab.cut{x:It}(μ:St->Prop)(h1:ab P n (x::.stop μ::k) st Q)(h2:∀st,μ st->ab P n k st Q):ab P n (x::k) st Q:=by
 intro F hn kt hk a w hs;obtain⟨y,YN,rfl,hy,Yc⟩:=dN hk;have h3:=h1 F hn (y::.stop μ::YN) (by rw[eo,eo,hy,Yc];rfl) a w hs;have key:∀e a w,ld P F Q (.stop μ::YN) e a w->ld P F Q YN e a w:=by
  intro e a w h;cases e
  case normal=>obtain⟨Yy,hi,WT⟩:=h;exact h2 Yy hi F hn YN Yc a w WT
  all_goals exact h
 cases y with
 |code c=>exact wpIn_mono h3 key
 |inBlock id=>exact key _ _ _ h3
 |stop τ=>exact h3
 |ops all l=>exact lH key l a w h3
def yu{F:Fence}{m0:Nat}{c:Code}{Q':Exit->Act->World->Prop}(μ:Nat->Act->World->Prop)
 (round:∀m a w,μ m a w->c.wpIn F m0 P (Exit.then (λa' w'=>∃m',m'<m/\μ m' a' w') Q') a w):∀m a w,μ m a w->(Code.loop c).wpIn F m0 P Q' a w:=by
 intro m a w h b k cs hro hb hr;have key:∀m a w,μ m a w->∃e a' w',Q' e a' w'/\ArrivesIn (Machine.fenced P F) P (lone (b.atR a (.code c::.inLoop c::k)) cs w) b k cs e a' w':=by
  intro m
  induction m using Nat.strongRecOn with
  |_ m ih=>
   intro a w hI;obtain⟨e,a₁,w₁,hq,harr⟩:=round m a w hI b (.inLoop c::k) cs hro hb hr;cases e with
   |normal=>
    obtain⟨m',H',hI'⟩:=hq;obtain⟨e₂,a₂,w₂,hq₂,harr₂⟩:=ih m' H' a₁ w₁ hI';exact⟨e₂,a₂,w₂,hq₂,.of_steps (StepsIn.trans harr (.one (fenced_calm hb hr rfl) stepR_inLoop)) harr₂⟩
   |exit id=>exact⟨_,a₁,w₁,hq,.pass (x:=.inLoop c) rfl (λ_ _=>.inl (by simp)) harr⟩
   |goto l=>exact⟨_,a₁,w₁,hq,.pass (x:=.inLoop c) rfl (λ_ _=>.inl (by simp)) harr⟩
   |ret=>exact⟨_,a₁,w₁,hq,.pass (x:=.inLoop c) rfl (λ_ _=>.inl (by simp)) harr⟩
   |panic ch=>exact⟨_,a₁,w₁,hq,.pass (x:=.inLoop c) rfl (λ_ _=>.inl (by simp)) harr⟩
   |outgrown=>exact⟨_,a₁,w₁,hq,.pass (x:=.inLoop c) rfl (λ_ _=>.inl (by simp)) harr⟩
 obtain⟨e,a',w',hq,harr⟩:=key m a w h;exact⟨e,a',w',hq,.of_steps (.one (fenced_calm hb hr rfl) stepR_loop) harr⟩
def ab.loop{x:bG}(μ:Nat->St->Prop)(m:Nat)(h0:μ m st)(hr:∀m st,μ m st->ab P n (.code x::.stop (λYy=>∃m',m'<m/\μ m' Yy)::k) st Q):
 ab P n (.code (.loop x)::k) st Q:=by
 intro F hn kt hk a w hs;obtain⟨z,YN,rfl,hy,Yc⟩:=dN hk;obtain⟨c0,rfl,hc⟩:=gw hy;have hc0:∃x0,c0=.loop x0/\dk P n x0=x:=by
  cases c0<;>simp only[dk,reduceCtorEq,bG.loop.injEq]at hc
  case region=>(split at hc;cases hc);split at hc<;>cases hc
  exact⟨_,rfl,hc⟩
 obtain⟨x0,rfl,rfl⟩:=hc0;refine yu (λm a w=>∃st,μ m st/\eE F st a w) ?_ m a w ⟨st,h0,hs⟩;rintro m a w ⟨st,hi,hs⟩;refine wpIn_mono (hr m st hi F hn (.code x0::.stop (λYy=>∃m',m'<m/\μ m' Yy)::YN) (by simp[KI.it,Yc]) a w hs) ?_;intro e a' w' h;cases e
 case normal=>obtain⟨Yy,⟨m',H',hi'⟩,WT⟩:=h;exact⟨m',H',Yy,hi',WT⟩
 all_goals exact h
variable {P:Program} {n:Nat} {st:St} {Q:St->Prop} {k:List It}
def zJ{o:Op}{e sz:Nat}{z:V}(h:WX P n o=.alloc e sz z):∃i zv,o=.alloc e/\zeroOf P e=some (i,zv)/\i.size=sz/\ofValue zv=z:=by
 cases o
 case alloc t=>
  simp only[WX,cy]at h;split at h
  .rename_i i zv hz;simp only[W5.alloc.injEq]at h;obtain⟨rfl,h2,h3⟩:=h;exact⟨i,zv,rfl,hz,h2,h3⟩
  ·(repeat' split at h)<;>cases h
 case call c=>
  obtain⟨callee,args,argTypes⟩:=c;cases callee
  case builtin b=>cases b<;>simp only[WX,cy]at h<;>(repeat' split at h)<;>cases h
  all_goals (simp only[WX,cy]at h;cases h)
 case unOp op t x=>cases op<;>simp only[WX,cy]at h<;>cases h
 case makeFunc f a b=>cases f<;>simp only[WX,cy]at h<;>(repeat' split at h)<;>cases h
 all_goals (simp only[WX,cy]at h;(repeat' split at h)<;>cases h)
def zu{o:Op}{sz:Nat}{xa xv:VX}(h:WX P n o=.store sz xa xv):∃t x y,o=.store t x y/\bO P t=true/\P.cellsOf t=sz/\cx n x=xa/\cx n y=xv:=by
 cases o
 case store t x y=>
  simp only[WX,cy]at h;split at h
  .rename_i hk;simp only[W5.store.injEq]at h;exact⟨t,x,y,rfl,hk,h.1,h.2.1,h.2.2⟩
  ·(repeat' split at h)<;>cases h
 case call c=>
  obtain⟨callee,args,argTypes⟩:=c;cases callee
  case builtin b=>cases b<;>simp only[WX,cy]at h<;>(repeat' split at h)<;>cases h
  all_goals (simp only[WX,cy]at h;cases h)
 case unOp op t x=>cases op<;>simp only[WX,cy]at h<;>cases h
 case makeFunc f a b=>cases f<;>simp only[WX,cy]at h<;>(repeat' split at h)<;>cases h
 all_goals (simp only[WX,cy]at h;(repeat' split at h)<;>cases h)
def vN{o:Op}{e sz:Nat}{xs:List VX}(h:WX P n o=.fk e sz xs):∃t len parts i z,o=.buildSlice t len parts/\P.underlying t=some (.slice e)/\zeroOf P e=some (i,z)/\
 i.size=sz/\parts.toList.map (·.1)=List.range len/\len*i.size<=16777216/\parts.toList.map (λp=>cx n p.2)=xs:=by
 cases o
 case buildSlice t len parts=>
  simp only[WX,cy]at h;split at h
  .rename_i e' he;split at h
   .rename_i i z hz;split at h
    .rename_i hc;simp only[W5.fk.injEq]at h;obtain⟨rfl,h2,h3⟩:=h;exact⟨t,len,parts,i,z,rfl,he,hz,h2,hc.1,hc.2,h3⟩
    .cases h
   .cases h
  .cases h
 case call c=>
  obtain⟨callee,args,argTypes⟩:=c;cases callee
  case builtin b=>cases b<;>simp only[WX,cy]at h<;>(repeat' split at h)<;>cases h
  all_goals (simp only[WX,cy]at h;cases h)
 case unOp op t x=>cases op<;>simp only[WX,cy]at h<;>cases h
 case makeFunc f a b=>cases f<;>simp only[WX,cy]at h<;>(repeat' split at h)<;>cases h
 all_goals (simp only[WX,cy]at h;(repeat' split at h)<;>cases h)
def HR{o:Op}{e sz bytes:Nat}{zv:V}{xn:VX}(h:WX P n o=.mk e sz bytes zv xn):∃t l c i z,o=.makeSlice t l c/\P.underlying t=some (.slice e)/\zeroOf P e=some (i,z)/\
 i.size=sz/\i.bytes=bytes/\ofValue z=zv/\u6 l c=true/\cx n l=xn:=by
 cases o
 case makeSlice t l c=>
  simp only[WX,cy]at h;split at h
  .rename_i e' he;split at h
   .rename_i i z hz;split at h
    .rename_i hc;simp only[W5.mk.injEq]at h;obtain⟨rfl,h2,h3,h4,h5⟩:=h;exact⟨t,l,c,i,z,rfl,he,hz,h2,h3,h4,hc,h5⟩
    .cases h
   .cases h
  .cases h
 case call c=>
  obtain⟨callee,args,argTypes⟩:=c;cases callee
  case builtin b=>cases b<;>simp only[WX,cy]at h<;>(repeat' split at h)<;>cases h
  all_goals (simp only[WX,cy]at h;cases h)
 case unOp op t x=>cases op<;>simp only[WX,cy]at h<;>cases h
 case makeFunc f a b=>cases f<;>simp only[WX,cy]at h<;>(repeat' split at h)<;>cases h
 all_goals (simp only[WX,cy]at h;(repeat' split at h)<;>cases h)
def CJ{o:Op}{e sz bytes:Nat}{zv:V}{xa xb:VX}(h:WX P n o=.appz e sz bytes zv xa xb):∃t tn kn x y args argTypes i z,o=.call { callee:=.builtin .append,args:=args,argTypes:=argTypes }/\
 args=#[x,y]/\argTypes=#[t,tn]/\P.underlying t=some (.slice e)/\P.underlying tn=some (.int kn)/\zeroOf P e=some (i,z)/\i.size=sz/\i.bytes=bytes/\ofValue z=zv/\cx n x=xa/\cx n y=xb:=by
 cases o
 case call c=>
  obtain⟨callee,args,argTypes⟩:=c;cases callee
  case value=>simp[WX]at h
  case invoke=>simp[WX]at h
  case builtin b=>
   cases b
   case append=>
    simp only[WX,cy]at h;split at h
    .rename_i x y t t' h1 h2;split at h
     .split at h
      .split at h<;>cases h
      .cases h
     .split at h
      .rename_i e' kn he hn;split at h
       .rename_i i z hz;simp only[W5.appz.injEq]at h;obtain⟨rfl,h4,h5,h6,h7,h8⟩:=h;exact⟨t,t',kn,x,y,args,argTypes,i,z,rfl,by apply Array.ext';simpa using h1,by apply Array.ext';simpa using h2,he,hn,hz,h4,h5,h6,h7,h8⟩
       .cases h
      .split at h<;>cases h
      .cases h
    .cases h
   all_goals (simp only[WX,cy]at h;(repeat' split at h)<;>cases h)
 case unOp op t x=>cases op<;>simp only[WX,cy]at h<;>cases h
 case makeFunc f a b=>cases f<;>simp only[WX,cy]at h<;>(repeat' split at h)<;>cases h
 all_goals (simp only[WX,cy]at h;(repeat' split at h)<;>cases h)
def wS{o:Op}{e sz bytes:Nat}{xa xb:VX}(h:WX P n o=.append e sz bytes xa xb):∃t t' x y args argTypes i z,o=.call { callee:=.builtin .append,args:=args,argTypes:=argTypes }/\
 args=#[x,y]/\argTypes=#[t,t']/\(t'=t\/P.underlying t'=some .string)/\P.underlying t=some (.slice e)/\zeroOf P e=some (i,z)/\i.size=sz/\i.bytes=bytes/\cx n x=xa/\cx n y=xb:=by
 cases o
 case call c=>
  obtain⟨callee,args,argTypes⟩:=c;cases callee
  case value=>simp[WX]at h
  case invoke=>simp[WX]at h
  case builtin b=>
   cases b
   case append=>
    simp only[WX,cy]at h;split at h
    .rename_i x y t t' h1 h2;split at h
     .rename_i htt;subst htt;split at h
      .rename_i e' he;split at h
       .rename_i i z hz;simp only[W5.append.injEq]at h;obtain⟨rfl,h4,h5,h6,h7⟩:=h;exact⟨t,t,x,y,args,argTypes,i,z,rfl,by apply Array.ext';simpa using h1,by apply Array.ext';simpa using h2,.inl rfl,he,hz,h4,h5,h6,h7⟩
       .cases h
      .cases h
     .split at h
      .split at h<;>cases h
      .rename_i e' he hn;split at h
       .rename_i i z hz;simp only[W5.append.injEq]at h;obtain⟨rfl,h4,h5,h6,h7⟩:=h;exact⟨t,t',x,y,args,argTypes,i,z,rfl,by apply Array.ext';simpa using h1,by apply Array.ext';simpa using h2,.inr hn,he,hz,h4,h5,h6,h7⟩
       .cases h
      .cases h
    .cases h
   all_goals (simp only[WX,cy]at h;(repeat' split at h)<;>cases h)
 case unOp op t x=>cases op<;>simp only[WX,cy]at h<;>cases h
 case makeFunc f a b=>cases f<;>simp only[WX,cy]at h<;>(repeat' split at h)<;>cases h
 all_goals (simp only[WX,cy]at h;(repeat' split at h)<;>cases h)
def mo{o:Op}{f:VX}{xs:List VX}(h:WX P n o=.call f xs):∃f0 args argTypes,o=.call { callee:=.value f0,args:=args,argTypes:=argTypes }/\cx n f0=f/\args.toList.map (cx n)=xs:=by
 cases o
 case call c=>
  obtain⟨callee,args,argTypes⟩:=c;cases callee
  case value f0=>simp only[WX,W5.call.injEq]at h;exact⟨f0,args,argTypes,rfl,h.1,h.2⟩
  case invoke=>simp[WX]at h
  case builtin b=>cases b<;>simp only[WX,cy]at h<;>(repeat' split at h)<;>cases h
 case unOp op t x=>cases op<;>simp only[WX,cy]at h<;>cases h
 case makeFunc f a b=>cases f<;>simp only[WX,cy]at h<;>(repeat' split at h)<;>cases h
 all_goals (simp only[WX,cy]at h;(repeat' split at h)<;>cases h)
def FW{o:Op}{e sz:Nat}{xv:VX}(h:WX P n o=.box e sz xv):∃x,o=.box e x/\bO P e=true/\P.cellsOf e=sz/\cx n x=xv:=by
 cases o
 case box t x=>
  simp only[WX,cy]at h;split at h
  .rename_i hk;simp only[W5.box.injEq]at h;obtain⟨rfl,h2,h3⟩:=h;exact⟨x,rfl,hk,h2,h3⟩
  .cases h
 case call c=>
  obtain⟨callee,args,argTypes⟩:=c;cases callee
  case builtin b=>cases b<;>simp only[WX,cy]at h<;>(repeat' split at h)<;>cases h
  all_goals (simp only[WX,cy]at h;cases h)
 case unOp op t x=>cases op<;>simp only[WX,cy]at h<;>cases h
 case makeFunc f a b=>cases f<;>simp only[WX,cy]at h<;>(repeat' split at h)<;>cases h
 all_goals (simp only[WX,cy]at h;(repeat' split at h)<;>cases h)
def Hs{o:Op}{sz:Nat}{z:V}{xv:VX}(h:WX P n o=.clear sz z xv):∃x t e args argTypes i zv,o=.call { callee:=.builtin .clear,args:=args,argTypes:=argTypes }/\
 args=#[x]/\argTypes[0]?=some t/\P.underlying t=some (.slice e)/\zeroOf P e=some (i,zv)/\i.size=sz/\ofValue zv=z/\cx n x=xv:=by
 cases o
 case call c=>
  obtain⟨callee,args,argTypes⟩:=c;cases callee
  case builtin b=>
   cases b
   case clear=>
    simp only[WX,cy]at h;split at h
    .rename_i x t h1 h2;split at h
     .rename_i e he;split at h
      .rename_i i zv hz;simp only[W5.clear.injEq]at h;exact⟨x,t,e,args,argTypes,i,zv,rfl,by apply Array.ext';simpa using h1,h2,he,hz,h.1,h.2.1,h.2.2⟩
      .cases h
     .cases h
    .cases h
   all_goals (simp only[WX,cy]at h;(repeat' split at h)<;>cases h)
  all_goals (simp only[WX,cy]at h;cases h)
 case unOp op t x=>cases op<;>simp only[WX,cy]at h<;>cases h
 case makeFunc f a b=>cases f<;>simp only[WX,cy]at h<;>(repeat' split at h)<;>cases h
 all_goals (simp only[WX,cy]at h;(repeat' split at h)<;>cases h)
def zn{F:Fr}{I:Mu}{a:Act}{w:World}(hs:cQ F I st a w){o:Oper}{t:TypeId}{x:Operand}(hoo:o.op=.box t x)(hk:bO P t=true)
 (hx:((cx F.n x).ev st.s).cells.length=P.cellsOf t)(WY:((cx F.n x).ev st.s).stays=true):
 ∃id,st.U id=none/\∃y w' Y',(execOp a.eval o).run P w=.ok (.value y) w'/\
  cQ F Y' ⟨aQ st.s (o.dst.filter (·<F.n)) (.ptr id 0 0),C' st.U id ⟨t,P.cellsOf t,[(cx F.n x).ev st.s]⟩⟩ (a.put o.dst y) w':=by
 have Ye:=(dz hk).2.2;obtain⟨g1,g2⟩:=(bU hs x).cells WY;have hl:=(bU hs x).j4 WY;obtain⟨id,P',Y',h1,h2,h3,h4⟩:=hs.sat.renew (row:=none) (World.grownBy_alloc w (.cells (a.eval x).cells t) none) none (.inl rfl) w.heap.size (P.cellsOf t) 1 (a.eval x).cells t [(cx F.n x).ev st.s] (a.eval x).cells.toList (.inr (Xm _))
  (heap_alloc_new w _) Ye (by omega) (by simp) (by simp[maxLen]) (by intro r hr;simp at hr;subst hr;exact hx)
  (by simp only[flat,AA,List.flatMap_nil,lO];exact g1) g2 (by intro j u hu;simpa using hu)
 refine⟨id,P',.pointer (some ⟨w.heap.size,0,none⟩),w.alloc (.cells (a.eval x).cells t),Y',?_,hs.step h3 h2 h4 (by simp) (by simp[E',h1];exact Ye)⟩;unfold execOp;rw[hoo];simp[Instr.box,newVar,newRow]
def cW{all:Array Oper}{o:Oper}{i:aD}(h:bM P n all o=i):WX P n o.op=i.op/\o.dst.filter (·<n)=i.dst:=by rw[<-h];exact⟨rfl,rfl⟩
def ab.alloc{i:aD}{l:List aD}{e sz:Nat}{z:V}(hw:aZ st.s i.g=some true)(ho:i.op=.alloc e sz z)
 (h:∀id,st.U id=none->ab P n (.ops l::k) ⟨aQ st.s i.dst (.ptr id 0 0),C' st.U id ⟨e,sz,[z]⟩⟩ Q):ab P n (.ops (i::l)::k) st Q:=by
 refine ab.ins (by rw[ho];simp) hw λF hn I a w o all hi hs next Q' WK=>?_
 subst hn;obtain⟨WN,hd⟩:=cW hi;rw[ho]at WN;obtain⟨ti,zv,h1,h2,rfl,rfl⟩:=zJ WN;obtain⟨id,P',x,w',Y',hx,WT⟩:=tI hs h1 h2;unfold Oper.wp;rw[hx];refine WK _ _ _ ⟨Y',?_⟩ (h id P');rw[<-hd];exact WT
def ab.box{i:aD}{l:List aD}{e sz:Nat}{xv:VX}(hw:aZ st.s i.g=some true)(ho:i.op=.box e sz xv)
 (hx:(xv.ev st.s).cells.length=sz)(WY:(xv.ev st.s).stays=true)
 (h:∀id,st.U id=none->ab P n (.ops l::k) ⟨aQ st.s i.dst (.ptr id 0 0),C' st.U id ⟨e,sz,[xv.ev st.s]⟩⟩ Q):ab P n (.ops (i::l)::k) st Q:=by
 refine ab.ins (by rw[ho];simp) hw λF hn I a w o all hi hs next Q' WK=>?_
 subst hn;obtain⟨WN,hd⟩:=cW hi;rw[ho]at WN;obtain⟨x,h1,h2,rfl,rfl⟩:=FW WN;obtain⟨id,P',y,w',Y',hy,WT⟩:=zn hs h1 h2 hx WY;unfold Oper.wp;rw[hy];refine WK _ _ _ ⟨Y',?_⟩ (h id P');rw[<-hd];exact WT
def ab.store{i:aD}{l:List aD}{sz:Nat}{xa xv:VX}(hw:aZ st.s i.g=some true)(ho:i.op=.store sz xa xv)
 {id r0 c:Nat}(h1:xa.ev st.s=.ptr id r0 c){ob:Ob}(h2:st.U id=some ob){r r':V}(h3:ob.rows[r0]?=some r)(h4:ec r c sz (xv.ev st.s)=some r')
 (h:ab P n (.ops l::k) ⟨aQ st.s i.dst (.WJ []),C' st.U id { ob with rows:=ob.rows.set r0 r' }⟩ Q):ab P n (.ops (i::l)::k) st Q:=by
 refine ab.ins (by rw[ho];simp) hw λF hn I a w o all hi hs next Q' WK=>?_
 subst hn;obtain⟨WN,hd⟩:=cW hi;rw[ho]at WN;obtain⟨t,x,y,g1,g2,rfl,rfl,rfl⟩:=zu WN;obtain⟨w',hx,WT⟩:=tF hs g1 g2 h1 h2 h3 h4;unfold Oper.wp;rw[hx];refine WK _ _ _ ⟨I,?_⟩ h;rw[<-hd];exact WT
def ab.mkS{i:aD}{l:List aD}{e sz bytes:Nat}{zv:V}{xn:VX}(hw:aZ st.s i.g=some true)(ho:i.op=.mk e sz bytes zv xn){m:Int}(hm:xn.ev st.s=.int .i64 m)
 (h0:0<=m)(hb:m.toNat*(bytes+1)<=140737488355328)
 (h:∀id,st.U id=none->ab P n (.ops l::k) ⟨aQ st.s i.dst (.own id 0 m.toNat),C' st.U id ⟨e,sz,List.replicate m.toNat zv⟩⟩ Q):ab P n (.ops (i::l)::k) st Q:=by
 refine ab.ins (by rw[ho];simp) hw λF hn I a w o all hi hs next Q' WK=>?_
 subst hn;obtain⟨WN,hd⟩:=cW hi;rw[ho]at WN;obtain⟨t,l',c,ti,z,h1,h2,h3,rfl,rfl,rfl,h5,rfl⟩:=HR WN;obtain⟨id,P',x,w',Y',W8,WT⟩:=Bv hs h1 h5 h2 h3 hm h0 hb;unfold Oper.wp;rw[W8];refine WK _ _ _ ⟨Y',?_⟩ (h id P');rw[<-hd];exact WT
def ab.RT{i:aD}{l:List aD}{e sz bytes:Nat}{zv:V}{xa xn:VX}(hw:aZ st.s i.g=some true)(ho:i.op=.appz e sz bytes zv xa xn)(hx:xa.ev st.s=.ay){kq:IntKind}{m:Int}(hm:xn.ev st.s=.int kq m)
 (h0:0<m)(hb:m.toNat*(bytes+1)<=140737488355328)
 (h:∀id,st.U id=none->ab P n (.ops l::k) ⟨aQ st.s i.dst (.own id 0 m.toNat),C' st.U id ⟨e,sz,List.replicate m.toNat zv⟩⟩ Q):ab P n (.ops (i::l)::k) st Q:=by
 refine ab.ins (by rw[ho];simp) hw λF hn I a w o all hi hs next Q' WK=>?_
 subst hn;obtain⟨WN,hd⟩:=cW hi;rw[ho]at WN;obtain⟨t,tn,kn,x,y,args,argTypes,ti,z,h1,h2,h3,h4,h5,h6,rfl,rfl,rfl,rfl,rfl⟩:=CJ WN;obtain⟨id,P',x,w',Y',W8,WT⟩:=xE hs h1 h2 h3 h4 h5 h6 hx hm h0 hb;unfold Oper.wp;rw[W8];refine WK _ _ _ ⟨Y',?_⟩ (h id P');rw[<-hd];exact WT
def ab.fk{i:aD}{l:List aD}{e sz:Nat}{xs:List VX}(hw:aZ st.s i.g=some true)(ho:i.op=.fk e sz xs)
 (hx:∀x∈xs.map (·.ev st.s),x.cells.length=sz/\x.stays=true)
 (h:∀id,st.U id=none->ab P n (.ops l::k) ⟨aQ st.s i.dst (.own id 0 xs.length),C' st.U id ⟨e,sz,xs.map (·.ev st.s)⟩⟩ Q):ab P n (.ops (i::l)::k) st Q:=by
 refine ab.ins (by rw[ho];simp) hw λF hn I a w o all hi hs next Q' WK=>?_
 subst hn;obtain⟨WN,hd⟩:=cW hi;rw[ho]at WN;obtain⟨t,len,parts,ti,z,h1,h2,h3,rfl,h5,h6,rfl⟩:=vN WN;rw[List.map_map]at hx;obtain⟨id,P',x,w',Y',W8,WT⟩:=qN hs h1 h2 h3 h5 h6 hx;unfold Oper.wp;rw[W8];refine WK _ _ _ ⟨Y',?_⟩ (h id P');have hl:parts.size=len:=by have:=congrArg List.length h5;simpa using this
 simp only[dd,List.map_map,Array.length_toList,hl,<-hd];exact WT
def ab.append{i:aD}{l:List aD}{e sz bytes:Nat}{xa xb:VX}(hw:aZ st.s i.g=some true)(ho:i.op=.append e sz bytes xa xb)
 {base src:List V}{WW:Option Nat}(h1:bV st.U e sz (xa.ev st.s)=some (base,WW))(h2:bI st.U sz (xb.ev st.s)=some src)
 (hb:(base.length+src.length)*(bytes+1)<=140737488355328)
 (h:∀id,st.U id=none->ab P n (.ops l::k) ⟨aQ st.s i.dst (.own id 0 (base.length+src.length)),C' (bz st.U WW) id ⟨e,sz,base++src⟩⟩ Q):
 ab P n (.ops (i::l)::k) st Q:=by
 refine ab.ins (by rw[ho];simp) hw λF hn I a w o all hi hs next Q' WK=>?_
 subst hn;obtain⟨WN,hd⟩:=cW hi;rw[ho]at WN;obtain⟨t,t',x,y,args,argTypes,ti,z,g1,g2,g3,g3',g4,g5,rfl,rfl,rfl,rfl⟩:=wS WN;obtain⟨id,P',r,w',Y',hx,WT⟩:=qZ hs g1 g2 g3 g3' g4 g5 h1 h2 hb;unfold Oper.wp;rw[hx];refine WK _ _ _ ⟨Y',?_⟩ (h id P');rw[<-hd];exact WT
def dZ(P:Program)(f:FuncId):Bool:=match P.funcs[f]? with
 |some fn=>fn.name != "runtime.NumGoroutine"&&fn.body.isSome
 |none=>false
def mY{w:World}{f:FuncId}(h:dZ P f=true)(args:Array Value):(callFunc f args).run P w=.ok (.enter f args) w:=by
 unfold dZ at h;split at h
 .rename_i fn hf;simp only[Ba,bne_iff_ne,ne_eq]at h;cases hb:fn.body with
  |none=>simp[hb]at h
  |some c=>simp[callFunc,hf,h.1,hb]
 .cases h
def ax(P:Program)(f:FuncId)(args:List V)(U:ag)(Post:V->ag->Prop):Prop:=dZ P f=true/\uw P f args U Post
def ax.mono{f:FuncId}{args:List V}{U:ag}{Post Post':V->ag->Prop}(h:ax P f args U Post)(hp:∀r Z',Post r Z'->Post' r Z'):
 ax P f args U Post':=⟨h.1,h.2.mono hp⟩
def ar.app{I:Mu}{ow:Nat->Prop}{w:World}{vs us:List V}{l m:List Value}(h:ar I ow w vs l)(h':ar I ow w us m):ar I ow w (vs++us) (l++m):=h.append h'
def mQ{F:Fr}{I:Mu}{a:Act}{w:World}(hs:cQ F I st a w){o:Oper}{f0:Operand}{args:Array Operand}{argTypes:Array TypeId}
 (hoo:o.op=.call { callee:=.value f0,args:=args,argTypes:=argTypes }){f:FuncId}{caps:List V}(hf:(cx F.n f0).ev st.s=.fn f caps)
 {Post:V->ag->Prop}(hc:ax P f ((args.toList.map (cx F.n)).map (·.ev st.s)++caps) st.U Post){next:Act->World->Prop}{Q':Exit->Act->World->Prop}
 (WK:∀r Z',Post r Z'->∀a' w',eE F ⟨aQ st.s (o.dst.filter (·<F.n)) r,Z'⟩ a' w'->next a' w'):o.wp P a w next Q':=by
 have hfr:=bU hs f0;rw[hf]at hfr;simp only[E']at hfr;obtain⟨cvals,hfv,hcr⟩:=hfr;have XA:=(oY hs args.toList).app hcr;have Xi:(execOp a.eval o).run P w=.ok (.enter f ((args.toList.map a.eval++cvals).toArray)) w:=by
  unfold execOp;rw[hoo];simp only[resolve,hfv,Deferred.ofValue,Sem.run_bind,Sem.run_pure,Result.andThen_ok,invoke,mY hc.1];congr 2;apply Array.ext';simp
 unfold Oper.wp;rw[Xi];simp only[Oper.upon];have Zm:Sat w (az I st.U) I st.U w:=by
  have h:=hs.sat;exact⟨Xm _,rfl,rfl,rfl,λ_ _ _=>rfl,h.fin,h.inj,h.obj,λb hb _=>hb,h.rU⟩
 refine(hc.2 I w _ Zm XA).mono ?_;rintro e w' ⟨r,Z',Y',val,rfl,hp,hle,WT,hr⟩;refine WK r Z' hp _ _ ⟨Y',?_⟩;have Yl:cM (az I st.U) (az Y' Z') w w':=λb hb hn=>⟨λho=>hn (WT.fresh b ho hb),WT.same b hb hn⟩
 have h0:=hs.sat;have XL:Sat F.w0 F.XN Y' Z' w':=by
  refine⟨jx h0.size WT.size,WT.os.trans h0.os,WT.tape.trans h0.tape,WT.output.trans h0.output,?_,WT.fin,WT.inj,WT.obj,?_,h0.glob⟩
  .intro b hb hn;have h1:¬az I st.U b:=λho=>hn (h0.fresh b ho hb);rw[WT.same b (Nat.lt_of_lt_of_le hb h0.size) h1,h0.same b hb hn]
  .intro b hb H';have h1:=WT.fresh b hb (Nat.lt_of_lt_of_le H' h0.size);exact h0.fresh b h1 H'
 exact hs.step XL hle Yl WT.size hr
def ab.call{i:aD}{l:List aD}{fx:VX}{xs:List VX}(hw:aZ st.s i.g=some true)(ho:i.op=.call fx xs){f:FuncId}{caps:List V}(hf:fx.ev st.s=.fn f caps)
 {Post:V->ag->Prop}(hc:ax P f (xs.map (·.ev st.s)++caps) st.U Post)
 (h:∀r Z',Post r Z'->ab P n (.ops l::k) ⟨aQ st.s i.dst r,Z'⟩ Q):ab P n (.ops (i::l)::k) st Q:=by
 refine ab.ins (by rw[ho];simp) hw λF hn I a w o all hi hs next Q' WK=>?_
 subst hn;obtain⟨WN,hd⟩:=cW hi;rw[ho]at WN;obtain⟨f0,args,argTypes,g1,rfl,rfl⟩:=mo WN;refine mQ hs g1 hf hc λr Z' hp a' w' WT=>WK _ a' w' WT ?_;rw[hd];exact h r Z' hp
def Df{F:Fr}{I:Mu}{a:Act}{w:World}(hs:cQ F I st a w){o:Oper}{f0:Operand}{args:Array Operand}{argTypes:Array TypeId}
 (hoo:o.op=.call { callee:=.value f0,args:=args,argTypes:=argTypes }){f:FuncId}{first:List V}(hf:(cx F.n f0).ev st.s=.bm f first)
 {Post:V->ag->Prop}(hc:ax P f (first++(args.toList.map (cx F.n)).map (·.ev st.s)) st.U Post){next:Act->World->Prop}{Q':Exit->Act->World->Prop}
 (WK:∀r Z',Post r Z'->∀a' w',eE F ⟨aQ st.s (o.dst.filter (·<F.n)) r,Z'⟩ a' w'->next a' w'):o.wp P a w next Q':=by
 have hfr:=bU hs f0;rw[hf]at hfr;simp only[E']at hfr;obtain⟨cvals,hfv,hcr⟩:=hfr;have XA:=hcr.app (oY hs args.toList);have Xi:(execOp a.eval o).run P w=.ok (.enter f ((cvals++args.toList.map a.eval).toArray)) w:=by
  unfold execOp;rw[hoo];simp only[resolve,hfv,Deferred.ofValue,Sem.run_bind,Sem.run_pure,Result.andThen_ok,invoke,mY hc.1];congr 2;apply Array.ext';simp
 unfold Oper.wp;rw[Xi];simp only[Oper.upon];have Zm:Sat w (az I st.U) I st.U w:=by
  have h:=hs.sat;exact⟨Xm _,rfl,rfl,rfl,λ_ _ _=>rfl,h.fin,h.inj,h.obj,λb hb _=>hb,h.rU⟩
 refine(hc.2 I w _ Zm XA).mono ?_;rintro e w' ⟨r,Z',Y',val,rfl,hp,hle,WT,hr⟩;refine WK r Z' hp _ _ ⟨Y',?_⟩;have Yl:cM (az I st.U) (az Y' Z') w w':=λb hb hn=>⟨λho=>hn (WT.fresh b ho hb),WT.same b hb hn⟩
 have h0:=hs.sat;have XL:Sat F.w0 F.XN Y' Z' w':=by
  refine⟨jx h0.size WT.size,WT.os.trans h0.os,WT.tape.trans h0.tape,WT.output.trans h0.output,?_,WT.fin,WT.inj,WT.obj,?_,h0.glob⟩
  .intro b hb hn;have h1:¬az I st.U b:=λho=>hn (h0.fresh b ho hb);rw[WT.same b (Nat.lt_of_lt_of_le hb h0.size) h1,h0.same b hb hn]
  .intro b hb H';have h1:=WT.fresh b hb (Nat.lt_of_lt_of_le H' h0.size);exact h0.fresh b h1 H'
 exact hs.step XL hle Yl WT.size hr
def ab.mj{i:aD}{l:List aD}{fx:VX}{xs:List VX}(hw:aZ st.s i.g=some true)(ho:i.op=.call fx xs){f:FuncId}{first:List V}(hf:fx.ev st.s=.bm f first)
 {Post:V->ag->Prop}(hc:ax P f (first++xs.map (·.ev st.s)) st.U Post)
 (h:∀r Z',Post r Z'->ab P n (.ops l::k) ⟨aQ st.s i.dst r,Z'⟩ Q):ab P n (.ops (i::l)::k) st Q:=by
 refine ab.ins (by rw[ho];simp) hw λF hn I a w o all hi hs next Q' WK=>?_
 subst hn;obtain⟨WN,hd⟩:=cW hi;rw[ho]at WN;obtain⟨f0,args,argTypes,g1,rfl,rfl⟩:=mo WN;refine Df hs g1 hf hc λr Z' hp a' w' WT=>WK _ a' w' WT ?_;rw[hd];exact h r Z' hp
inductive VR where
 |tmp (x:VX)
 |cell (agg:Bool) (sz:Nat) (x:VX)
 |bad
def Bi(P:Program)(n:Nat):ResultVar->VR
 |.tmp t=>.tmp (cx n (.tmp t))
 |.cell t ty=>if bO P ty then .cell (fw P ty) (P.cellsOf ty) (cx n (.tmp t))else .bad
def gE(st:St):VR->Option V
 |.tmp x=>some (x.ev st.s)
 |.cell agg sz x=>bF st.U agg sz (x.ev st.s)
 |.bad=>none
def eJ(st:St):List VR->Option (List V)
 |[]=>some []
 |r::rs=>match gE st r with
   |some v=>match eJ st rs with
    |some vs=>some (v::vs)
    |none=>none
   |none=>none
def oN(st:St)(l:List VR):Option V:=match eJ st l with
 |some [v]=>some v
 |some vs=>some (.WJ vs)
 |none=>none
def Ret(l:List VR)(st:St)(Post:V->ag->Prop):Prop:=
 ∃v v' Z',oN st l=some v/\aa Z' st.U/\Wk st.U Z' v v'/\Post v' Z'
structure WD where
 n:Nat
 code:bG
 res:List VR
def cfn(P:Program)(fn:Func):Option WD:=match fn.body with
 |some c=>some ⟨fn.ntmps,dk P fn.ntmps c,fn.results.toList.map (Bi P fn.ntmps)⟩
 |none=>none
def AO(tmps:Array Value):ResultVar->Go.Sem Value
 |.tmp t=>pure (tmps.getD t undef)
 |.cell b t=>do loadVar t (<-asAddr (tmps.getD b undef))
def Dx(fn:Func)(tmps:Array Value):results fn tmps=(do
 let vs <-Functor.map List.toArray (fn.results.toList.mapM (AO tmps))
 pure (if h:vs.size=1 then vs[0]else .tuple vs)):=by
 unfold results;rw[Array.mapM_eq_mapM_toList];congr 3
def Ab{F:Fr}{I:Mu}{a:Act}{w:World}(hs:cQ F I st a w)(r:ResultVar){v:V}(h:gE st (Bi P F.n r)=some v):
 ∃x,(AO a.tmps r).run P w=.ok x w/\E' I (az I st.U) w v x:=by
 cases r with
 |tmp t=>
  simp only[Bi,gE,aI]at h;subst h;exact⟨_,rfl,bU hs (.tmp t)⟩
 |cell b t=>
  simp only[Bi]at h;split at h
  .rename_i hk;simp only[gE]at h;have hx:=bU hs (.tmp b);obtain⟨z,h1,h2⟩:=y9 (P:=P) hs.sat hk hx h;refine⟨z,?_,h2⟩;have he:a.eval (.tmp b)=a.tmps.getD b undef:=rfl;rw[he]at h1;simp only[Instr.loadAt,Sem.run_bind]at h1;simp only[AO,Sem.run_bind];generalize a.tmps.getD b undef=u at*;cases u<;>simp[Instr.sureAddr]at h1;rename_i p;cases p<;>simp[asAddr]at h1|-;exact h1
  .simp[gE]at h
def yx{F:Fr}{I:Mu}{a:Act}{w:World}(hs:cQ F I st a w)(fn:Func){v:V}(h:oN st (fn.results.toList.map (Bi P F.n))=some v):
 ∃x,(results fn a.tmps).run P w=.ok x w/\E' I (az I st.U) w v x:=by
 have key:∀(l:List ResultVar) (vs:List V),eJ st (l.map (Bi P F.n))=some vs->
  ∃xs,(l.mapM (AO a.tmps)).run P w=.ok xs w/\ar I (az I st.U) w vs xs:=by
  intro l
  induction l with
  |nil=>intro vs h;simp only[List.map_nil,eJ,aI]at h;subst h;exact⟨[],rfl,by simp[ar]⟩
  |cons r l ih=>
   intro vs h;simp only[eo,eJ]at h;split at h
   .rename_i v hv;split at h
    .rename_i vs' hvs;simp only[aI]at h;subst h;obtain⟨x,h1,h2⟩:=Ab (P:=P) hs r hv;obtain⟨xs,h3,h4⟩:=ih vs' hvs;refine⟨x::xs,?_,by simp only[ar];exact⟨x,xs,rfl,h2,h4⟩⟩;rw[List.mapM_cons];simp only[Sem.run_bind];rw[h1];simp only[Result.andThen_ok];rw[h3];simp
    .cases h
   .cases h
 unfold oN at h;cases XF:eJ st (fn.results.toList.map (Bi P F.n))with
 |none=>simp[XF]at h
 |some vs=>
  obtain⟨xs,h1,h2⟩:=key _ _ XF;have Xi:(results fn a.tmps).run P w=.ok (if hl:xs.toArray.size=1 then xs.toArray[0]else .tuple xs.toArray) w:=by
   rw[Dx];simp only[Sem.run_bind,Sem.run_map];rw[h1];simp
  rw[XF]at h
  match vs,h,h2 with
  |[],h,h2=>
   simp only[ar]at h2;subst h2;simp only[aI]at h;subst h;exact⟨_,Xi,by simp[E',ar]⟩
  |[u],h,h2=>
   simp only[ar]at h2;obtain⟨x,xs',rfl,h3,rfl⟩:=h2;simp only[aI]at h;subst h;exact⟨_,Xi,by simpa using h3⟩
  |u1::u2::us,h,h2=>
   simp only[aI]at h;subst h;have hlen:=h2.length;refine⟨_,Xi,?_⟩;rw[dif_neg (by simp[hlen])];simp only[E'];exact⟨xs,rfl,h2⟩
def ft(args:List V):Nat->V:=λi=>args.getD i (.WJ [])
def cQ.Ow{F:Fr}{I:Mu}{a:Act}{w:World}(hs:cQ F I st a w){d:Deferred}{ds:List Deferred}(hd:a.defers=d::ds):
 ∃D w',d.target=.collected D/\(Instr.takeDeferred D).run P w=.ok [] w'/\cQ F I st { a with defers:=ds } w':=by
 obtain⟨Ds,h1,h2,h3⟩:=hs.book.marks;rw[hd]at h1;cases Ds with
 |nil=>simp at h1
 |cons D Ds=>
  simp only[eo,List.cons.injEq]at h1;obtain⟨rfl,rfl⟩:=h1;obtain⟨g1,g2,g3⟩:=h3 D (by simp);simp only[List.nodup_cons]at h2;refine⟨D,w.putObj D (.deferred none),rfl,run_takeDeferred g2,?_⟩;have W6:∀b,b≠D->(w.putObj D (.deferred none)).heap[b]?=w.heap[b]?:=λb hb=>World.putObj_heap_other hb;have hk:rW (az I st.U) (az I st.U) w (w.putObj D (.deferred none)):=λb _ hn=>⟨hn,λoff x hx=>by
   by_cases hb:b=D
   .subst hb;simp[World.cell?,g2]at hx
   .exact eI (W6 b hb) off x hx⟩
  have hz:w.heap.size<=(w.putObj D (.deferred none)).heap.size:=by simp
  refine⟨⟨by simpa using hs.sat.size,hs.sat.os,hs.sat.tape,hs.sat.output,λb hb hn=>(W6 b (by omega)).trans (hs.sat.same b hb hn),hs.sat.fin,hs.sat.inj,λid o ho=>?_,hs.sat.fresh,hs.sat.glob⟩,
   hs.le,hs.size,⟨λl r e=>?_,Ds,rfl,h2.2,λD' hD'=>?_⟩,λi hi=>E'.bQ (cI.refl I) hk hz _ _ (hs.slot i hi)⟩
  .refine(hs.sat.obj id o ho).bQ (cI.refl I) hk hz λb sz cap hp=>W6 b ?_;rintro rfl;exact g3 ⟨id,o,sz,cap,ho,hp⟩
  .obtain⟨q1,q2⟩:=hs.book.rnd l r e;refine⟨(W6 l ?_).trans q1,q2⟩;rintro rfl;rw[g2]at q1;cases q1
  .obtain⟨q1,q2,q3⟩:=h3 D' (by simp[hD']);refine⟨q1,(W6 D' ?_).trans q2,q3⟩;rintro rfl;exact h2.1 hD'
def zl{F:Fr}{I:Mu}{fn:Func}{R:Ending->World->Prop}:∀(ds:List Deferred) (a:Act) (w:World),a.defers=ds->cQ F I st a w->
 (∀a' w',a'.tmps=a.tmps->cQ F I st a' w'->∃v,(results fn a'.tmps).run P w'=.ok v w'/\R (.returned v) w')->LeavesInM F.ed 0 P fn a.tmps R ds .returning w
 |[],a,w,_,hs,h=>by
  obtain⟨v,h1,h2⟩:=h a w rfl hs;exact⟨v,h1,h2⟩
 |d::ds,a,w,hd,hs,h=>by
  obtain⟨D,w',h1,h2,h3⟩:=hs.Ow (P:=P) hd;exact⟨by simp,.inl ⟨D,w',h1,h2,zl ds { a with defers:=ds } w' rfl h3 (λa' w' e WT=>h a' w' e WT)⟩⟩
def uw.jX{f:FuncId}{fn:Func}{vf:WD}(hf:P.funcs[f]?=some fn)(hv:cfn P fn=some vf){args:List V}{U:ag}{Post:V->ag->Prop}(hlen:args.length<=vf.n)
 (h:ab P vf.n [.code vf.code] ⟨ft args,U⟩ λst=>Ret vf.res st Post):uw P f args U Post:=by
 intro I w WO Zm hr;unfold cfn at hv;cases hb:fn.body with
 |none=>simp[hb]at hv
 |some c=>
  simp only[hb,aI]at hv;subst hv;simp only at h hlen;have hl:=hr.length;refine callsIn_wide.1 (callsIn_of_wp_marks (n:=0) hf hb trivial ?_ rfl);have hs:cQ ⟨w,az I U,I,fn.ntmps,none⟩ I ⟨ft args,U⟩ { tmps:=WO.toArray++Array.replicate (fn.ntmps-WO.toArray.size) undef,defers:=[] } w:=by
   refine⟨Zm,cI.refl I,by simp;omega,⟨λ_ _ e=>by simp at e,[],rfl,.nil,by simp⟩,λi hi=>?_⟩;simp only[ft];by_cases H':i<args.length
   .have hv:args[i]?=some (args.getD i (.WJ [])):=by simp[List.getD,ZF H']
    obtain⟨x,hx,hrx⟩:=hr.get hv;rw[Zq7,Array.getElem?_append_left (by simp;omega)];simp only[List.getElem?_toArray,hx,Option.getD_some];exact hrx
   .have hv:args.getD i (.WJ [])=.WJ []:=by simp[List.getD,oE (Nat.le_of_not_lt H')]
    rw[hv,Zq7,Array.getElem?_append_right (by simp;omega)];simp only[E'];refine⟨[],?_,by simp[ar]⟩;rw[Array.getElem?_replicate];split<;>rfl
  have Zd:=h ⟨w,az I U,I,fn.ntmps,none⟩ rfl [.code c] rfl _ w ⟨I,hs⟩;refine wpIn_mono (F:=Fence.wide) Zd ?_;rintro e a' w' ⟨he,st,⟨v,v',Z',hres,G',hwk,hpost⟩,Y',WT⟩;have XL:LeavesInM Fence.wide 0 P fn a'.tmps (λe w'=>∃r Z' Y' val,e=Ending.returned val/\Post r Z'/\cI I Y'/\Sat w (az I U) Y' Z' w'/\E' Y' (az Y' Z') w' r val) a'.defers .returning w':=by
   refine zl (F:=⟨w,az I U,I,fn.ntmps,none⟩) a'.defers a' w' rfl WT λa1 w1 _ YR=>?_;obtain⟨x,hx,hrx⟩:=yx (P:=P) YR fn hres;exact⟨x,hx,v',Z',Y',x,rfl,hpost,YR.le,YR.sat.drop G',hwk Y' _ _ _ _ YR.sat hrx⟩
  rcases he with rfl|rfl<;>exact XL
def ax.jX{f:FuncId}{fn:Func}{vf:WD}(hf:P.funcs[f]?=some fn)(hv:cfn P fn=some vf)(XH:dZ P f=true){args:List V}{U:ag}{Post:V->ag->Prop}(hlen:args.length<=vf.n)
 (h:ab P vf.n [.code vf.code] ⟨ft args,U⟩ λst=>Ret vf.res st Post):ax P f args U Post:=⟨XH,.jX hf hv hlen h⟩
structure Fo(P:Program)(f:FuncId)(fn:Func)(vf:WD):Prop where
 a:P.funcs[f]?=some fn
 b:cfn P fn=some vf:=by kernel_rfl
 c:dZ P f=true:=by kernel_rfl
def Fo.r{P:Program}{f:FuncId}{fn:Func}{vf:WD}(h:Fo P f fn vf){args:List V}{U:ag}{Post:V->ag->Prop}(hlen:args.length<=vf.n)
 (k:ab P vf.n [.code vf.code] ⟨ft args,U⟩ λst=>Ret vf.res st Post):ax P f args U Post:=ax.jX h.a h.b h.c hlen k
variable {P:Program} {n:Nat}
def fI(U:ag)(sz:Nat)(xa xv:V):Option ag:=
 match xa with
 |.ptr id i c=>match U id with
  |some ob=>match ob.rows[i]? with
   |some r=>match ec r c sz xv with
    |some r'=>some (C' U id ⟨ob.elem,ob.sz,ob.rows.set i r'⟩)
    |none=>none
   |none=>none
  |none=>none
 |_=>none
def Ze(s:Nat->V)(U:ag):W5->Option (Nat->V×ag)
 |.alloc e sz z=>some λid=>(.ptr id 0 0,C' U id ⟨e,sz,[z]⟩)
 |.box e sz x=>if(x.ev s).cells.length=sz/\(x.ev s).stays=true then some λid=>(.ptr id 0 0,C' U id ⟨e,sz,[x.ev s]⟩)else none
 |.fk e sz xs=>if(xs.map (·.ev s)).all (λx=>decide (x.cells.length=sz)&&x.stays)then some λid=>(.own id 0 xs.length,C' U id ⟨e,sz,xs.map (·.ev s)⟩)else none
 |.append e sz bytes xa xb=>match bV U e sz (xa.ev s),bI U sz (xb.ev s)with
  |some (base,WW),some src=>if(base.length+src.length)*(bytes+1)<=140737488355328 then
     some λid=>(.own id 0 (base.length+src.length),C' (bz U WW) id ⟨e,sz,base++src⟩)else none
  |_,_=>none
 |.mk e sz bytes z x=>match x.ev s with
  |.int .i64 m=>if 0<=m/\m.toNat*(bytes+1)<=140737488355328 then some λid=>(.own id 0 m.toNat,C' U id ⟨e,sz,List.replicate m.toNat z⟩)else none
  |_=>none
 |.appz e sz bytes z y x=>match y.ev s,x.ev s with
  |.ay,.int _ m=>if 0<m/\m.toNat*(bytes+1)<=140737488355328 then some λid=>(.own id 0 m.toNat,C' U id ⟨e,sz,List.replicate m.toNat z⟩)else none
  |_,_=>none
 |_=>none
def TO(P:Program)(dst:Option Nat)(op:W5)(x:St)(K:St->Prop):Prop:=
 match bf op with
 |0=>ez x.s op/\∃v,aF x.U x.s op=some v/\K ⟨aQ x.s dst v,x.U⟩
 |1=>match op with
  |.call fx xs=>∃f caps v,fx.ev x.s=.fn f caps/\(∀Z1,aa x.U Z1->ax P f (xs.map (·.ev x.s)++caps) Z1 (λr Z'=>r=v/\Z'=Z1))/\K ⟨aQ x.s dst v,x.U⟩
  |_=>False
 |2=>match op with
  |.store sz xa xv=>∃Z',fI x.U sz (xa.ev x.s) (xv.ev x.s)=some Z'/\K ⟨aQ x.s dst (.WJ []),Z'⟩
  |_=>False
 |3=>∃g,Ze x.s x.U op=some g/\∀id,x.U id=none->K ⟨aQ x.s dst (g id).1,(g id).2⟩
 |_=>False
def T(P:Program)(i:aD)(x:St)(K:St->Prop):Prop:=
 match aZ x.s i.g with
 |some true=>TO P i.dst i.op x K
 |some false=>K ⟨aQ x.s i.dst (.WJ []),x.U⟩
 |none=>False
def TO.mono{dst:Option Nat}{op:W5}{x:St}{K K':St->Prop}(hk:∀x,K x->K' x)(h:TO P dst op x K):TO P dst op x K':=by
 unfold TO at*;split<;>rename_i ho<;>simp only[ho]at h
 .obtain⟨h1,v,h2,h3⟩:=h;exact⟨h1,v,h2,hk _ h3⟩
 .split at h
  .obtain⟨f,caps,v,h1,h2,h3⟩:=h;exact⟨f,caps,v,h1,h2,hk _ h3⟩
  .exact h.elim
 .split at h
  .obtain⟨Z',h1,h2⟩:=h;exact⟨Z',h1,hk _ h2⟩
  .exact h.elim
 .obtain⟨g,h1,h2⟩:=h;exact⟨g,h1,λid P'=>hk _ (h2 id P')⟩
def T.mono{i:aD}{x:St}{K K':St->Prop}(hk:∀x,K x->K' x)(h:T P i x K):T P i x K':=by
 unfold T at*;split<;>rename_i ho<;>simp only[ho]at h
 .exact h.mono hk
 .exact hk _ h
def Inf(U:ag):Prop:=∀N,∃id,N<=id/\U id=none
def Inf.C'{U:ag}(h:Inf U)(id:Nat)(o:Ob):Inf (C' U id o):=λN=>by
 obtain⟨i,h1,h2⟩:=h (max N (id+1));exact⟨i,by omega,by simp[Vc.C',show i≠id by omega,h2]⟩
def Inf.bz{U:ag}(h:Inf U)(o:Option Nat):Inf (bz U o):=λN=>by
 obtain⟨i,h1,h2⟩:=h N;refine⟨i,h1,?_⟩;cases o with
 |none=>exact h2
 |some j=>simp only[Vc.bz,del];split<;>simp_all
def eE.inf{F:Fr}{st:St}{a:Act}{w:World}(h:eE F st a w):Inf st.U:=by
 obtain⟨I,h⟩:=h;obtain⟨N,hN⟩:=h.sat.fin;intro M;refine⟨max N M,by omega,?_⟩;cases ho:st.U (max N M)with
 |none=>rfl
 |some o=>
  have:=h.sat.obj _ o ho;rw[hN _ (by omega)]at this;exact this.elim
def KP{s:Nat->V}{U:ag}(h:Inf U){op:W5}{g:Nat->V×ag}(he:Ze s U op=some g)(id:Nat):Inf (g id).2:=by
 unfold Ze at he;split at he
 .simp only[aI]at he;subst he;exact h.C' _ _
 .split at he
  .simp only[aI]at he;subst he;exact h.C' _ _
  .cases he
 .split at he
  .simp only[aI]at he;subst he;exact h.C' _ _
  .cases he
 .split at he
  .split at he
   .simp only[aI]at he;subst he;exact(h.bz _).C' _ _
   .cases he
  .cases he
 .split at he
  .split at he
   .simp only[aI]at he;subst he;exact h.C' _ _
   .cases he
  .cases he
 .split at he
  .split at he
   .simp only[aI]at he;subst he;exact h.C' _ _
   .cases he
  .cases he
 .cases he
def Ek{U Z':ag}(h:Inf U){sz:Nat}{a v:V}(he:fI U sz a v=some Z'):Inf Z':=by
 unfold fI at he;split at he
 .split at he
  .split at he
   .split at he
    .simp only[aI]at he;subst he;exact h.C' _ _
    .cases he
   .cases he
  .cases he
 .cases he
def TO.inf{dst:Option Nat}{op:W5}{x:St}{K:St->Prop}(hi:Inf x.U)(h:TO P dst op x K):TO P dst op x λx'=>Inf x'.U/\K x':=by
 unfold TO at*;split<;>rename_i ho<;>simp only[ho]at h
 .obtain⟨h1,v,h2,h3⟩:=h;exact⟨h1,v,h2,hi,h3⟩
 .split at h
  .obtain⟨f,caps,v,h1,h2,h3⟩:=h;exact⟨f,caps,v,h1,h2,hi,h3⟩
  .exact h.elim
 .split at h
  .obtain⟨Z',h1,h2⟩:=h;exact⟨Z',h1,Ek hi h1,h2⟩
  .exact h.elim
 .obtain⟨g,h1,h2⟩:=h;exact⟨g,h1,λid P'=>⟨KP hi h1 id,h2 id P'⟩⟩
def T.inf{i:aD}{x:St}{K:St->Prop}(hi:Inf x.U)(h:T P i x K):T P i x λx'=>Inf x'.U/\K x':=by
 unfold T at*;split<;>rename_i ho<;>simp only[ho]at h
 .exact h.inf hi
 .exact⟨hi,h⟩
def JH{s:Nat->V}{d:Option Nat}{v:V}{x:VX}(h:∀t,d=some t->x.MI≠some t):x.ev (aQ s d v)=x.ev s:=by
 cases d with
 |none=>rfl
 |some t=>
  cases x with
  |c _=>rfl
  |t u=>
   simp only[VX.ev,aQ];have:=h t rfl;simp only[VX.MI,ne_eq,aI]at this;rw[ao this]
def sS{s s':Nat->V}{l:List VX}(h:∀x∈l,x.ev s=x.ev s'):l.map (·.ev s)=l.map (·.ev s'):=List.map_congr_left h
def qR{s s':Nat->V}{l:Option VX}(h:∀x∈l.toList,x.ev s=x.ev s'):l.map (·.ev s)=l.map (·.ev s'):=by
 cases l with
 |none=>rfl
 |some x=>simp[h x (by simp)]
def ux{s s':Nat->V}{U:ag}{op:W5}(h:∀x∈op.xs,x.ev s=x.ev s'):aF U s op=aF U s' op/\(ez s op↔ez s' op):=by
 cases op<;>simp only[W5.xs,db,List.not_mem_nil,or_false,forall_eq_or_imp,forall_eq,dD]at h<;>
  simp only[aF,ez,h,and_true,and_self]
 case slice Yg x lo hi mx=>
  rw[qR (l:=lo) (λy hy=>h.2 y (.inl (.inl hy))),qR (l:=hi) (λy hy=>h.2 y (.inl (.inr hy))),qR (l:=mx) (λy hy=>h.2 y (.inr hy))]
 case sliceS x lo hi=>
  rw[qR (l:=lo) (λy hy=>h.2 y (.inl hy)),qR (l:=hi) (λy hy=>h.2 y (.inr hy))]
 case mkfn f xs=>rw[sS h]
 case more m xs=>
  by_cases hb:∃f,m=.mkB f
  .obtain⟨f,rfl⟩:=hb;have e:=sS h;cases xs with
   |nil=>rfl
   |cons x xs=>cases xs<;>exact congrArg (λl=>some (V.bm f l)) e
  cases xs with
  |nil=>cases m<;>rfl
  |cons x xs=>
   have hx:=h x (by simp);cases xs with
   |nil=>cases m<;>first|rfl|exact absurd ⟨_,rfl⟩ hb|simp only[hx]
   |cons y ys=>cases m<;>first|rfl|exact absurd ⟨_,rfl⟩ hb
 case build z ps=>
  have:(ps.map λp=>(p.1,p.2.1,p.2.2.ev s))=ps.map λp=>(p.1,p.2.1,p.2.2.ev s'):=List.map_congr_left λp hp=>by
   rw[h _ (gM.2 ⟨p,hp,rfl⟩)]
  rw[this]
def fE{s s':Nat->V}{U:ag}{op:W5}(h:∀x∈op.xs,x.ev s=x.ev s'):Ze s U op=Ze s' U op:=by
 cases op<;>simp only[W5.xs,db,List.not_mem_nil,or_false,forall_eq_or_imp,forall_eq,dD]at h<;>
  simp only[Ze,h]
 case fk e sz xs=>rw[sS h]
def Du{s:Nat->V}{U Z':ag}{op:W5}(h:lD op=true):aF U s op=aF Z' s op:=by
 cases op
 case more m xs=>
  cases xs with
  |nil=>cases m<;>rfl
  |cons x xs=>cases xs<;>cases m<;>rfl
 all_goals first|rfl|simp[lD]at h
variable {P:Program} {n:Nat}
def apart_spec{A B:aD}(h:Er A B=true):(∀d,A.dst=some d->d∉B.mz)/\(∀d,B.dst=some d->d∉A.mz)/\(∀d,A.dst=some d->B.dst≠some d):=by
 simp only[Er,Ba]at h;obtain⟨h1,h2⟩:=h;refine⟨λd hd=>?_,λd hd=>?_,λd hd=>?_⟩
 .rw[hd]at h1;simp at h1;exact h1.1
 .rw[hd]at h2;simpa using h2
 .rw[hd]at h1;simp at h1;exact h1.2
def GV{s:Nat->V}{a b:Option Nat}{u v:V}(h:∀d,a=some d->b≠some d):aQ (aQ s a u) b v=aQ (aQ s b v) a u:=by
 cases a with
 |none=>rfl
 |some x=>
  cases b with
  |none=>rfl
  |some y=>
   have W6:y≠x:=λe=>h x rfl (by rw[e]);funext i;simp only[aQ];by_cases h1:i=y<;>by_cases h2:i=x<;>simp_all
def FX{i:aD}{x:VX}(hx:x∈i.op.xs){t:Nat}(ht:x.MI=some t):t∈i.mz:=
 List.mem_filterMap.2 ⟨x,List.mem_append_left _ hx,ht⟩
def gY{i:aD}{d:Option Nat}{v:V}(h:∀t,d=some t->t∉i.mz)(s:Nat->V):∀x∈i.op.xs,x.ev (aQ s d v)=x.ev s:=
 λ_ hx=>JH λt ht e=>h t ht (FX hx e)
def bZ{i:aD}{d:Option Nat}{v:V}(h:∀t,d=some t->t∉i.mz)(s:Nat->V):aZ (aQ s d v) i.g=aZ s i.g:=by
 cases hg:i.g with
 |none=>rfl
 |some g=>
  obtain⟨x,b⟩:=g;have:x.ev (aQ s d v)=x.ev s:=JH λt ht e=>h t ht (List.mem_filterMap.2 ⟨x,List.mem_append_right _ (by simp[hg]),e⟩);simp only[aZ,this]
def QO(P:Program)(op:W5)(s:Nat->V)(U:ag)(v:V):Prop:=
 match bf op with
 |0=>ez s op/\aF U s op=some v
 |1=>match op with
  |.call fx xs=>∃f caps,fx.ev s=.fn f caps/\∀Z1,aa U Z1->ax P f (xs.map (·.ev s)++caps) Z1 (λr Z'=>r=v/\Z'=Z1)
  |_=>False
 |_=>False
def QY(P:Program)(i:aD)(s:Nat->V)(U:ag)(v:V):Prop:=
 (aZ s i.g=some true/\QO P i.op s U v)\/(aZ s i.g=some false/\v=.WJ [])
def cm{i:aD}(hq:fF i=true){x:St}{K:St->Prop}:T P i x K↔∃v,QY P i x.s x.U v/\K ⟨aQ x.s i.dst v,x.U⟩:=by
 simp only[fF,Zs]at hq;unfold T QY;cases hw:aZ x.s i.g with
 |none=>simp
 |some b=>
  cases b
  .simp
  .simp only[true_and,aI,Bool.true_eq_false,false_and,or_false];unfold TO QO;have:bf i.op=0\/bf i.op=1:=by omega
   rcases this with h0|h0<;>simp only[h0]
   .constructor
    .rintro⟨h1,v,h2,h3⟩;exact⟨v,⟨h1,h2⟩,h3⟩
    .rintro⟨v,⟨h1,h2⟩,h3⟩;exact⟨h1,v,h2,h3⟩
   .cases WN:i.op<;>simp[bf,WN]at h0|-;constructor
    .rintro⟨f,caps,h1,v,h2,h3⟩;exact⟨v,⟨f,caps,h1,h2⟩,h3⟩
    .rintro⟨v,⟨f,caps,h1,h2⟩,h3⟩;exact⟨f,caps,h1,v,h2,h3⟩
def vO{op:W5}{s s':Nat->V}{U:ag}{v:V}(h:∀x∈op.xs,x.ev s=x.ev s')(hq:QO P op s U v):QO P op s' U v:=by
 unfold QO at*;by_cases h0:bf op=0
 .obtain⟨h1,h2⟩:=ux (U:=U) h;simp only[h0]at hq|-;exact⟨h2.1 hq.1,h1▸hq.2⟩
 .by_cases h1:bf op=1
  .simp only[h1]at hq|-;cases op<;>simp only[]at hq<;>first|exact hq.elim|skip
   rename_i fx xs;obtain⟨f,caps,g1,g2⟩:=hq;refine⟨f,caps,?_,?_⟩
   .rw[<-h fx (by simp[W5.xs])];exact g1
   .rw[<-sS (s:=s) (s':=s') λx hx=>h x (by simp[W5.xs,hx])];exact g2
  .exfalso;revert hq;split<;>simp_all
def gk{i:aD}{s:Nat->V}{U:ag}{v u:V}{d:Option Nat}(h:∀t,d=some t->t∉i.mz):QY P i (aQ s d u) U v↔QY P i s U v:=by
 unfold QY;rw[bZ h];constructor
 .rintro(⟨h1,h2⟩|h1)
  .exact .inl ⟨h1,vO (gY h s) h2⟩
  .exact .inr h1
 .rintro(⟨h1,h2⟩|h1)
  .exact .inl ⟨h1,vO (λx hx=>(gY h s x hx).symm) h2⟩
  .exact .inr h1
def ng{op:W5}(h:lD op=true):bf op=0:=by
 cases op
 case more m xs=>cases m<;>simp[lD,bf]at h|-
 all_goals simp[lD,bf]at h|-
def kG{i:aD}(hf:lD i.op=true){s:Nat->V}{U Z':ag}{v:V}(h:QY P i s U v):QY P i s Z' v:=by
 rcases h with⟨h1,h2⟩|h1
 .refine .inl ⟨h1,?_⟩;unfold QO at*;simp only[ng hf]at*;exact⟨h2.1,by rw[<-Du (U:=U) hf];exact h2.2⟩
 .exact .inr h1
def O7{i:aD}(hf:lD i.op=true){s:Nat->V}{U:ag}{v v':V}(h:QY P i s U v)(h':QY P i s U v'):v=v':=by
 rcases h with⟨h1,h2⟩|⟨h1,h2⟩<;>rcases h' with⟨g1,g2⟩|⟨g1,g2⟩
 .unfold QO at*;simp only[ng hf]at*;have:=h2.2.symm.trans g2.2;simpa using this
 .rw[h1]at g1;cases g1
 .rw[h1]at g1;cases g1
 .rw[h2,g2]
def gG{i:aD}(he:uI i=true){x:St}{K:St->Prop}:T P i x K↔
 (aZ x.s i.g=some false/\K ⟨aQ x.s i.dst (.WJ []),x.U⟩)\/
 (aZ x.s i.g=some true/\((∃sz xa xv Z',i.op=.store sz xa xv/\fI x.U sz (xa.ev x.s) (xv.ev x.s)=some Z'/\K ⟨aQ x.s i.dst (.WJ []),Z'⟩)\/
   (bf i.op=3/\∃g,Ze x.s x.U i.op=some g/\∀id,x.U id=none->K ⟨aQ x.s i.dst (g id).1,(g id).2⟩))):=by
 unfold T;cases hw:aZ x.s i.g with
 |none=>simp
 |some b=>
  cases b
  .simp
  .simp only[aI,Bool.true_eq_false,false_and,false_or,true_and];unfold TO;simp only[uI,kX,beq_iff_eq]at he;rcases he with h0|h0<;>simp only[h0]
   .cases WN:i.op<;>simp[bf,WN]at h0|-;constructor
    .rintro⟨Z',h1,h2⟩;exact⟨_,_,_,⟨rfl,rfl,rfl⟩,Z',h1,h2⟩
    .rintro⟨_,_,_,⟨rfl,rfl,rfl⟩,Z',h1,h2⟩;exact⟨Z',h1,h2⟩
   .have:∀sz xa xv,i.op≠.store sz xa xv:=λ_ _ _ e=>by rw[e]at h0;simp[bf]at h0
    simp[this]
def lP(s:Nat->V):W5->Option Nat
 |.load _ _ x=>match x.ev s with
   |.ptr id _ _=>some id
   |_=>none
 |.ZG _ x _=>match x.ev s with
   |.own id _ _=>some id
   |_=>none
 |.slice _ x _ _ _=>match x.ev s with
   |.own id _ _=>some id
   |_=>none
 |.bstr x=>match x.ev s with
   |.own id _ _=>some id
   |_=>none
 |_=>none
def D6{s:Nat->V}{U Z':ag}{op:W5}(h:∀j,lP s op=some j->U j=Z' j):aF U s op=aF Z' s op:=by
 cases op<;>try rfl
 case more m xs=>
  cases xs with
  |nil=>cases m<;>rfl
  |cons x xs=>cases xs<;>cases m<;>rfl
 case load agg sz x=>
  simp only[lP]at h;simp only[aF,bF];split
  .rename_i id i k hx;simp only[hx,aI,forall_eq']at h;rw[h]
  .rfl
  .rfl
 case ZG Yg x i=>
  simp only[lP]at h;simp only[aF];generalize x.ev s=xv at*;generalize i.ev s=iv at*;cases xv<;>try (cases iv<;>rfl)
  case own id off len=>
   simp only[aI,forall_eq']at h;cases iv<;>try rfl
   simp only[bp,h]
 case bstr x=>
  simp only[lP]at h;simp only[aF];generalize x.ev s=xv at*;cases xv<;>try rfl
  case own id off len=>
   simp only[aI,forall_eq']at h;simp only[ky,h]
 case slice Yg x lo hi mx=>
  simp only[lP]at h;simp only[aF,eK];split
  .rename_i id off len hx;simp only[hx,aI,forall_eq']at h;have:yd U id Yg=yd Z' id Yg:=by simp only[yd,h]
   simp only[this]
  .rfl
  .rfl
  .rfl
def D7{s:Nat->V}{U:ag}{op:W5}{v:V}(hv:aF U s op=some v){j:Nat}(hj:lP s op=some j):U j≠none:=by
 intro hn;cases op<;>simp only[lP,reduceCtorEq]at hj
 case load agg sz x=>
  split at hj
  .rename_i id i k hx;simp only[aI]at hj;subst hj;simp[aF,bF,hx,hn]at hv
  .cases hj
 case ZG Yg x i=>
  split at hj
  .rename_i id off len hx;simp only[aI]at hj;subst hj;simp only[aF]at hv;rw[hx]at hv;generalize i.ev s=iv at hv;cases iv<;>simp[bp,hn]at hv
  .cases hj
 case bstr x=>
  split at hj
  .rename_i id off len hx;simp only[aI]at hj;subst hj;simp[aF,ky,hx,hn]at hv
  .cases hj
 case slice Yg x lo hi mx=>
  split at hj
  .rename_i id off len hx;simp only[aI]at hj;subst hj;simp only[aF,eK,hx,yd,hn]at hv;split at hv
   .simp at hv
   .cases hv
  .cases hj
def uV{i:aD}(h:mkI i=true):bf i.op=3/\∀s U g,Ze s U i.op=some g->∀id j,j≠id->(g id).2 j=U j:=by
 unfold mkI at h;split at h
 .rename_i WN;refine⟨by rw[WN];rfl,λs U g hg id j hj=>?_⟩;rw[WN]at hg;simp only[Ze,aI]at hg;subst hg;simp[Vc.C',hj]
 .rename_i WN;refine⟨by rw[WN];rfl,λs U g hg id j hj=>?_⟩;rw[WN]at hg;simp only[Ze]at hg;split at hg
  .simp only[aI]at hg;subst hg;simp[Vc.C',hj]
  .cases hg
 .rename_i WN;refine⟨by rw[WN];rfl,λs U g hg id j hj=>?_⟩;rw[WN]at hg;simp only[Ze]at hg;split at hg
  .simp only[aI]at hg;subst hg;simp[Vc.C',hj]
  .cases hg
 .rename_i WN;refine⟨by rw[WN];rfl,λs U g hg id j hj=>?_⟩;rw[WN]at hg;simp only[Ze]at hg;split at hg
  .split at hg
   .simp only[aI]at hg;subst hg;simp[Vc.C',hj]
   .cases hg
  .cases hg
 .cases h
def C3{i:aD}(h:Ht i=true):bf i.op=3/\∀s U g,Ze s U i.op=some g->∀id j,j≠id->(g id).2 j=U j\/(g id).2 j=none:=by
 by_cases hm:mkI i=true
 .exact⟨(uV hm).1,λs U g hg id j hj=>.inl ((uV hm).2 s U g hg id j hj)⟩
 .unfold Ht at h;unfold mkI at hm;cases WN:i.op<;>rw[WN]at h hm<;>simp at h hm;refine⟨rfl,λs U g hg id j hj=>?_⟩;simp only[Ze]at hg;split at hg
  .split at hg
   .simp only[aI]at hg;subst hg;rename_i WW _ _ _ _ _;simp only[Vc.C',ao hj];rename_i base WW src _ _ _;cases WW with
    |none=>exact .inl rfl
    |some a=>
     simp only[bz,del];split
     .exact .inr rfl
     .exact .inl rfl
   .cases hg
  .cases hg
def zU{i:aD}(hp:kD i=true){s:Nat->V}{U Z':ag}(h:∀j,lP s i.op=some j->U j=Z' j){v:V}(hq:QY P i s U v):QY P i s Z' v:=by
 simp only[kD,beq_iff_eq]at hp;rcases hq with⟨h1,h2⟩|h1
 .refine .inl ⟨h1,?_⟩;unfold QO at*;simp only[hp]at*;exact⟨h2.1,by rw[<-D6 h];exact h2.2⟩
 .exact .inr h1
def AG{i:aD}(hp:kD i=true){s:Nat->V}{U:ag}{v v':V}(h:QY P i s U v)(h':QY P i s U v'):v=v':=by
 simp only[kD,beq_iff_eq]at hp;rcases h with⟨h1,h2⟩|⟨h1,h2⟩<;>rcases h' with⟨g1,g2⟩|⟨g1,g2⟩
 .unfold QO at*;simp only[hp]at*;have:=h2.2.symm.trans g2.2;simpa using this
 .rw[h1]at g1;cases g1
 .rw[h1]at g1;cases g1
 .rw[h2,g2]
def vk{i:aD}(hp:kD i=true){s:Nat->V}{U:ag}{v:V}(h:QY P i s U v)(hw:aZ s i.g=some true){j:Nat}(hj:lP s i.op=some j):U j≠none:=by
 simp only[kD,beq_iff_eq]at hp;rcases h with⟨_,h2⟩|⟨h1,_⟩
 .unfold QO at h2;simp only[hp]at h2;exact D7 h2.2 hj
 .rw[hw]at h1;cases h1
def AK{i:aD}{s:Nat->V}{U Z':ag}{v:V}(h:QY P i s U v)(hw:aZ s i.g≠some true):QY P i s Z' v:=by
 rcases h with⟨h1,_⟩|h1
 .exact absurd h1 hw
 .exact .inr h1
def Kl{i:aD}(hp:kD i=true){s:Nat->V}{U Z':ag}{id:Nat}(P':U id=none)(W4:∀j,j≠id->Z' j=U j){v:V}(h:QY P i s U v):QY P i s Z' v:=by
 by_cases hw:aZ s i.g=some true
 .refine zU hp (λj hj=>?_) h;have:=vk hp h hw hj;rw[W4 j (λe=>this (e▸P'))]
 .exact AK h hw
def Hw{i:aD}(hq:fF i=true){s:Nat->V}{U Z':ag}{id:Nat}(P':U id=none)(W4:∀j,j≠id->Z' j=U j){v:V}(h:QY P i s U v):QY P i s Z' v:=by
 by_cases hp:kD i=true
 .exact Kl hp P' W4 h
 .have G':aa U Z':=λj o hj=>by rw[W4 j (λe=>by rw[e,P']at hj;cases hj)];exact hj
  rcases h with⟨h1,h2⟩|h1
  .refine .inl ⟨h1,?_⟩;have hk:bf i.op=1:=by
    simp only[fF,Zs]at hq;simp only[kD,beq_iff_eq]at hp;omega
   unfold QO at*;simp only[hk]at*;split at h2
   .obtain⟨f,caps,g1,g2⟩:=h2;exact⟨f,caps,g1,λZ1 hs=>g2 Z1 (G'.trans hs)⟩
   .exact h2.elim
  .exact .inr h1
def Bz{i:aD}(h:mkI i=true){s:Nat->V}{U:ag}{g:Nat->V×ag}(hg:Ze s U i.op=some g):
 ∃(vf:Nat->V) (ob:Ob),(∀id,g id=(vf id,Vc.C' U id ob))/\∀Z',Ze s Z' i.op=some λid=>(vf id,Vc.C' Z' id ob):=by
 unfold mkI at h;split at h
 .rename_i WN;rw[WN]at hg|-;simp only[Ze,aI]at hg;subst hg;exact⟨_,_,λ_=>rfl,λ_=>rfl⟩
 .rename_i WN;rw[WN]at hg|-;simp only[Ze]at hg|-;split at hg
  .rename_i hc;simp only[aI]at hg;subst hg;exact⟨_,_,λ_=>rfl,λZ'=>by rw[aq hc]⟩
  .cases hg
 .rename_i WN;rw[WN]at hg|-;simp only[Ze]at hg|-;split at hg
  .rename_i hc;simp only[aI]at hg;subst hg;exact⟨_,_,λ_=>rfl,λZ'=>by rw[aq hc]⟩
  .cases hg
 .rename_i WN;rw[WN]at hg|-;simp only[Ze]at hg|-;split at hg
  .rename_i hx;split at hg
   .rename_i hc;simp only[aI]at hg;subst hg;exact⟨_,_,λ_=>rfl,λZ'=>by rw[aq hc]⟩
   .cases hg
  .cases hg
 .cases h
def pf{op:W5}(hk:bf op=3){sz:Nat}{xa xv:VX}(WN:op=.store sz xa xv):False:=by rw[WN]at hk;simp[bf]at hk
def zy{U:ag}{a b:Nat}{oa ob:Ob}(h:a≠b):Vc.C' (Vc.C' U a oa) b ob=Vc.C' (Vc.C' U b ob) a oa:=by
 funext i;unfold Vc.C';by_cases h1:i=a<;>by_cases h2:i=b<;>simp_all
def Ic{i:aD}(h:Ht i=true){s:Nat->V}{U:ag}{g:Nat->V×ag}(hg:Ze s U i.op=some g):
 ∃(vf:Nat->V) (ob:Ob) (d:Option Nat),(∀id,g id=(vf id,Vc.C' (bz U d) id ob))/\(∀a,d=some a->U a≠none)/\
  ∀j o,U j=none->Ze s (Vc.C' U j o) i.op=some λid=>(vf id,Vc.C' (bz (Vc.C' U j o) d) id ob):=by
 by_cases hm:mkI i=true
 .obtain⟨vf,ob,h1,h2⟩:=Bz hm hg;exact⟨vf,ob,none,h1,by simp,λj o _=>h2 _⟩
 .unfold Ht at h;unfold mkI at hm;cases WN:i.op<;>rw[WN]at h hm hg<;>simp at h hm;rename_i e sz bytes xa xb;simp only[Ze]at hg|-;split at hg
  .rename_i base WW src e1 e2;split at hg
   .rename_i hc;simp only[aI]at hg;subst hg;have hlive:∀a,WW=some a->U a≠none:=λa ha=>by
     subst ha;unfold bV at e1;split at e1
     .split at e1
      .rename_i ob Xz;split at e1
       .simp only[aI,Prod.mk.injEq]at e1;rw[<-e1.2,Xz];simp
       .cases e1
      .cases e1
     .simp at e1
     .cases e1
    refine⟨_,_,WW,λ_=>rfl,hlive,λj o hj=>?_⟩;have W6:∀id ob,U id=some ob->Vc.C' U j o id=some ob:=λid ob h=>by
     have:id≠j:=λe=>by rw[e,hj]at h;cases h
     simp[Vc.C',this,h]
    have d1:bV (Vc.C' U j o) e sz (xa.ev s)=some (base,WW):=by
     rw[<-e1];unfold bV at e1|-;split at e1
     .rename_i id _ _ _;split at e1
      .rename_i ob Xz;simp only[Xz,W6 _ _ Xz]
      .cases e1
     .rfl
     .cases e1
    have d2:bI (Vc.C' U j o) sz (xb.ev s)=some src:=by
     rw[<-e2];unfold bI at e2|-;split at e2
     .split at e2
      .rename_i ob Xz;simp only[Xz,W6 _ _ Xz]
      .cases e2
     all_goals first|rfl|cases e2
    simp only[d1,d2];rw[aq hc]
   .cases hg
  .cases hg
def DW{A B:aD}(hp:iH A B=true){x:St}(hi:Inf x.U){K:St->Prop}(h:T P A x λx'=>T P B x' K):T P B x λx'=>T P A x' K:=by
 simp only[iH,Ba,kX]at hp;obtain⟨hap,hk⟩:=hp;obtain⟨h1,h2,h3⟩:=apart_spec hap;have YV:∀(s:Nat->V) u v,aQ (aQ s A.dst u) B.dst v=aQ (aQ s B.dst v) A.dst u:=λs u v=>GV h3;rcases hk with((((⟨qa,qb⟩|⟨ea,sb⟩)|⟨sa,eb⟩)|⟨pa,mb⟩)|⟨ma,pb⟩)|⟨ma,mb⟩
 .rw[cm qa]at h;obtain⟨u,hu,h⟩:=h;rw[cm qb]at h;obtain⟨v,hv,h⟩:=h;rw[cm qb];refine⟨v,(gk h1).1 hv,?_⟩;rw[cm qa];refine⟨u,(gk h2).2 hu,?_⟩;simp only at h|-;rw[<-YV];exact h
 .have qb:fF B=true:=by simp[fF,ng sb]
  rw[gG ea]at h;rcases h with⟨hw,h⟩|⟨hw,⟨sz,xa,xv,Z',WN,hs,h⟩|⟨hk3,g,hg,h⟩⟩
  .rw[cm qb]at h;obtain⟨v,hv,h⟩:=h;rw[cm qb];refine⟨v,(gk h1).1 hv,?_⟩;rw[gG ea];refine .inl ⟨by rw[bZ h2];exact hw,?_⟩;simp only at h|-;rw[<-YV];exact h
  .rw[cm qb]at h;obtain⟨v,hv,h⟩:=h;rw[cm qb];refine⟨v,kG sb ((gk h1).1 hv),?_⟩;rw[gG ea];refine .inr ⟨by rw[bZ h2];exact hw,.inl ⟨sz,xa,xv,Z',WN,?_,?_⟩⟩
   .simp only;rw[gY h2 x.s xa (by simp[WN,W5.xs]),gY h2 x.s xv (by simp[WN,W5.xs])];exact hs
   .simp only at h|-;rw[<-YV];exact h
  .obtain⟨id0,_,hid0⟩:=hi 0;have h0:=h id0 hid0;rw[cm qb]at h0;obtain⟨v,hv,_⟩:=h0;have hvx:QY P B x.s x.U v:=kG sb ((gk h1).1 hv);rw[cm qb];refine⟨v,hvx,?_⟩;rw[gG ea];refine .inr ⟨by rw[bZ h2];exact hw,.inr ⟨hk3,g,?_,λid P'=>?_⟩⟩
   .rw[<-hg];exact fE (gY h2 x.s)
   .have h4:=h id P';rw[cm qb]at h4;obtain⟨v',hv',h4⟩:=h4;have hvx':QY P B x.s x.U v':=kG sb ((gk h1).1 hv');have:=O7 sb hvx hvx';subst this;simp only at h4|-;rw[<-YV];exact h4
 .have qa:fF A=true:=by simp[fF,ng sa]
  rw[cm qa]at h;obtain⟨u,hu,h⟩:=h;rw[gG eb]at h;rw[gG eb];rcases h with⟨hw,h⟩|⟨hw,⟨sz,xa,xv,Z',WN,hs,h⟩|⟨hk3,g,hg,h⟩⟩
  .refine .inl ⟨by rw[<-bZ h1];exact hw,?_⟩;rw[cm qa];refine⟨u,(gk h2).2 hu,?_⟩;simp only at h|-;rw[<-YV];exact h
  .refine .inr ⟨by rw[<-bZ h1];exact hw,.inl ⟨sz,xa,xv,Z',WN,?_,?_⟩⟩
   .simp only at hs;rw[gY h1 x.s xa (by simp[WN,W5.xs]),gY h1 x.s xv (by simp[WN,W5.xs])]at hs;exact hs
   .rw[cm qa];refine⟨u,(gk h2).2 (kG sa hu),?_⟩;simp only at h|-;rw[<-YV];exact h
  .refine .inr ⟨by rw[<-bZ h1];exact hw,.inr ⟨hk3,g,?_,λid P'=>?_⟩⟩
   .rw[<-hg];exact(fE (gY h1 x.s)).symm
   .rw[cm qa];refine⟨u,(gk h2).2 (kG sa hu),?_⟩;have h4:=h id P';simp only at h4|-;rw[<-YV];exact h4
 .have qa:fF A=true:=pa;obtain⟨hk3,hfr⟩:=uV mb;have eb:uI B=true:=by simp[uI,hk3]
  rw[cm qa]at h;obtain⟨u,hu,h⟩:=h;rw[gG eb]at h;rw[gG eb];rcases h with⟨hw,h⟩|⟨hw,⟨sz,xa,xv,Z',WN,hs,h⟩|⟨_,g,hg,h⟩⟩
  .refine .inl ⟨by rw[<-bZ h1];exact hw,?_⟩;rw[cm qa];refine⟨u,(gk h2).2 hu,?_⟩;simp only at h|-;rw[<-YV];exact h
  .rw[WN]at hk3;simp[bf]at hk3
  .refine .inr ⟨by rw[<-bZ h1];exact hw,.inr ⟨hk3,g,?_,λid P'=>?_⟩⟩
   .rw[<-hg];exact(fE (gY h1 x.s)).symm
   .rw[cm qa];refine⟨u,(gk h2).2 (Hw qa P' (λj hj=>hfr _ _ g hg id j hj) hu),?_⟩;have h4:=h id P';simp only at h4|-;rw[<-YV];exact h4
 .have qb:fF B=true:=by simp only[kD,beq_iff_eq]at pb;simp[fF,pb]
  obtain⟨hk3,hfr⟩:=C3 ma;have ea:uI A=true:=by simp[uI,hk3]
  rw[gG ea]at h;rcases h with⟨hw,h⟩|⟨hw,⟨sz,xa,xv,Z',WN,hs,h⟩|⟨_,g,hg,h⟩⟩
  .rw[cm qb]at h;obtain⟨v,hv,h⟩:=h;rw[cm qb];refine⟨v,(gk h1).1 hv,?_⟩;rw[gG ea];refine .inl ⟨by rw[bZ h2];exact hw,?_⟩;simp only at h|-;rw[<-YV];exact h
  .rw[WN]at hk3;simp[bf]at hk3
  ·
   obtain⟨id0,hge,hid0⟩:=hi ((lP x.s B.op).getD 0+1);have h0:=h id0 hid0;rw[cm qb]at h0;obtain⟨v,hv,_⟩:=h0;have hv1:=(gk h1).1 hv;have hvx:QY P B x.s x.U v:=by
    by_cases hwB:aZ x.s B.g=some true
    .refine zU pb (λj hj=>?_) hv1;have hn:=vk pb hv1 hwB hj;refine(hfr _ _ g hg id0 j (λe=>?_)).resolve_right hn;rw[hj]at hge;simp at hge;omega
    .exact AK hv1 hwB
   rw[cm qb];refine⟨v,hvx,?_⟩;rw[gG ea];refine .inr ⟨by rw[bZ h2];exact hw,.inr ⟨hk3,g,?_,λid P'=>?_⟩⟩
   .rw[<-hg];exact fE (gY h2 x.s)
   .have h4:=h id P';rw[cm qb]at h4;obtain⟨v',hv',h4⟩:=h4;have hv2:=(gk h1).1 hv';have hv3:QY P B x.s x.U v':=by
     by_cases hwB:aZ x.s B.g=some true
     .refine zU pb (λj hj=>?_) hv2;have hn:=vk pb hv2 hwB hj;have hs:=vk pb hvx hwB hj;exact(hfr _ _ g hg id j (λe=>hs (e▸P'))).resolve_right hn
     .exact AK hv2 hwB
    have:=AG pb hv3 hvx;subst this;simp only at h4|-;rw[<-YV];exact h4
 .have ka:=(C3 ma).1;have kb:=(uV mb).1;have ea:uI A=true:=by simp[uI,ka]
  have eb:uI B=true:=by simp[uI,kb]
  rw[gG ea]at h;rw[gG eb];rcases h with⟨hw,h⟩|⟨hw,⟨sz,xa,xv,Z',WN,_⟩|⟨_,g,hg,h⟩⟩
  .rw[gG eb]at h;rcases h with⟨hw2,h⟩|⟨hw2,⟨sz,xa,xv,Z',WN,_⟩|⟨_,g2,hg2,h⟩⟩
   .refine .inl ⟨by rw[<-bZ h1];exact hw2,?_⟩;rw[gG ea];refine .inl ⟨by rw[bZ h2];exact hw,?_⟩;simp only at h|-;rw[<-YV];exact h
   .exact(pf kb WN).elim
   .refine .inr ⟨by rw[<-bZ h1];exact hw2,.inr ⟨kb,g2,by rw[<-hg2];exact(fE (gY h1 x.s)).symm,λid P'=>?_⟩⟩;rw[gG ea];refine .inl ⟨by rw[bZ h2];exact hw,?_⟩;have h4:=h id P';simp only at h4|-;rw[<-YV];exact h4
  .exact(pf ka WN).elim
  .obtain⟨vA,oA,dA,hA,hdA,hA'⟩:=Ic ma hg;obtain⟨id0,_,hid0⟩:=hi 0;have h0:=h id0 hid0;rw[gG eb]at h0;rcases h0 with⟨hw2,_⟩|⟨hw2,⟨sz,xa,xv,Z',WN,_⟩|⟨_,g2,hg2,_⟩⟩
   .refine .inl ⟨by rw[<-bZ h1];exact hw2,?_⟩;rw[gG ea];refine .inr ⟨by rw[bZ h2];exact hw,.inr ⟨ka,g,by rw[<-hg];exact fE (gY h2 x.s),λid P'=>?_⟩⟩;have h4:=h id P';rw[gG eb]at h4;rcases h4 with⟨_,h4⟩|⟨hw3,_⟩
    .simp only at h4|-;rw[<-YV];exact h4
    .exfalso;have e1:=bZ (v:=(g id).1) h1 (s:=x.s);have e2:=bZ (v:=(g id0).1) h1 (s:=x.s);simp only at hw2 hw3;rw[e1]at hw3;rw[e2]at hw2;rw[hw3]at hw2;cases hw2
   .exact(pf kb WN).elim
   .have hg2x:Ze x.s (g id0).2 B.op=some g2:=by rw[<-hg2];exact(fE (gY h1 x.s)).symm
    obtain⟨vB,oB,hB,hB'⟩:=Bz mb hg2x;refine .inr ⟨by rw[<-bZ h1];exact hw2,.inr ⟨kb,_,hB' x.U,λidB hidB=>?_⟩⟩;rw[gG ea];refine .inr ⟨by rw[bZ h2];exact hw,.inr ⟨ka,λid=>(vA id,Vc.C' (bz (Vc.C' x.U idB oB) dA) id oA),?_,λWW hidA=>?_⟩⟩
    .rw[<-hA' idB oB hidB];exact fE (gY h2 x.s)
    .have W6:WW≠idB:=λe=>by subst e;simp[Vc.C']at hidA
     have hidA':x.U WW=none:=by simpa[Vc.C',W6]using hidA
     have h4:=h WW hidA';rw[gG eb]at h4;rw[hA WW]at h4;rcases h4 with⟨hw3,_⟩|⟨_,⟨sz,xa,xv,Z',WN,_⟩|⟨_,g3,hg3,h4⟩⟩
     .exfalso;have e1:=bZ (v:=vA WW) h1 (s:=x.s);have e2:=bZ (v:=(g id0).1) h1 (s:=x.s);simp only at hw2 hw3;rw[e1]at hw3;rw[e2]at hw2;rw[hw3]at hw2;cases hw2
     .exact(pf kb WN).elim
     .have e3:Ze x.s (Vc.C' (bz x.U dA) WW oA) B.op=some g3:=by rw[<-hg3];exact(fE (gY h1 x.s)).symm
      rw[hB' (Vc.C' (bz x.U dA) WW oA)]at e3;simp only[aI]at e3;subst e3;have X7:∀i,x.U i=none->bz x.U dA i=none:=λi hi=>by
       cases dA with
       |none=>exact hi
       |some a=>simp only[bz,del];split<;>first|rfl|exact hi
      have h5:=h4 idB (by simp[Vc.C',W6.symm,X7 _ hidB]);have hsw:bz (Vc.C' x.U idB oB) dA=Vc.C' (bz x.U dA) idB oB:=by
       cases dA with
       |none=>rfl
       |some a=>
        funext i;have hab:a≠idB:=λe=>hdA a rfl (by rw[e];exact hidB);simp only[bz,del,Vc.C'];by_cases e1:i=a
        .have hib:i≠idB:=λe=>hab (e1▸e);simp[e1,hab]
        .by_cases e2:i=idB<;>simp[e1,e2,Ne.symm hab]
      simp only at h5|-;rw[<-YV,hsw,<-zy W6];exact h5
variable {P:Program} {n:Nat}
def T.exists{i:aD}{x:St}{K:St->Prop}(hi:Inf x.U)(h:T P i x K):∃x',K x':=by
 unfold T at h;split at h
 .unfold TO at h;split at h
  .obtain⟨_,v,_,h⟩:=h;exact⟨_,h⟩
  .split at h
   .obtain⟨_,_,v,_,_,h⟩:=h;exact⟨_,h⟩
   .exact h.elim
  .split at h
   .obtain⟨_,_,h⟩:=h;exact⟨_,h⟩
   .exact h.elim
  .obtain⟨g,_,h⟩:=h;obtain⟨id,_,P'⟩:=hi 0;exact⟨_,h id P'⟩
  .exact h.elim
 .exact⟨_,h⟩
 .exact h.elim
def uY{F:Fr}(hn:F.n=n){o:Oper}{all:Array Oper}{x:St}{K:St->Prop}{a:Act}{w:World}(h:T P (bM P n all o) x K)(hs:eE F x a w)
 {next:Act->World->Prop}{Q':Exit->Act->World->Prop}(WK:∀x' a' w',eE F x' a' w'->K x'->next a' w'):
 if Region.wanted o (yielded all a.tmps)then WX P n o.op≠.bad/\o.wp P a w next Q' else next (a.put o.dst undef) w:=by
 subst hn;obtain⟨I,hs⟩:=hs;unfold T at h;cases hw:aZ x.s (bM P F.n all o).g with
 |none=>simp only[hw]at h
 |some b=>
  have hwant:=rG (P:=P) hs all o hw;rw[hwant];simp only[hw]at h;cases b
  .simp only[fG,if_false]at h|-;exact WK _ _ _ ⟨I,hs.pure (d:=o.dst) (by simp only[E'];exact⟨[],rfl,by simp[ar]⟩)⟩ h
  .simp only[if_true]at h|-;refine⟨λe=>?_,?_⟩
   .have hopc:(bM P F.n all o).op=WX P F.n o.op:=rfl;rw[hopc,e]at h;simp[TO,bf]at h
   have hdst:(bM P F.n all o).dst=o.dst.filter (·<F.n):=rfl;have hopc:(bM P F.n all o).op=WX P F.n o.op:=rfl;rw[hdst,hopc]at h;unfold TO at h;split at h
   .obtain⟨h1,v,h2,h3⟩:=h;obtain⟨z,hz,hr⟩:=tY hs o h1 h2;unfold Oper.wp;rw[hz];exact WK _ _ _ ⟨I,hs.pure hr⟩ h3
   .split at h
    .rename_i fx xs WN;obtain⟨f,caps,v,h1,h2,h3⟩:=h;obtain⟨f0,args,argTypes,g1,rfl,rfl⟩:=mo WN;refine mQ hs g1 h1 (h2 _ (aa.refl _)) λr Z' hp a' w' WT=>?_;obtain⟨rfl,rfl⟩:=hp;exact WK _ a' w' WT h3
    .exact h.elim
   .split at h
    .rename_i sz xa xv WN;obtain⟨Z',h1,h2⟩:=h;obtain⟨t,y,z,g1,g2,rfl,rfl,rfl⟩:=zu WN;unfold fI at h1;split at h1
     .rename_i id r0 c e1;split at h1
      .rename_i ob e2;split at h1
       .rename_i r e3;split at h1
        .rename_i r' e4;simp only[aI]at h1;subst h1;obtain⟨w',hx,WT⟩:=tF hs g1 g2 e1 e2 e3 e4;unfold Oper.wp;rw[hx];exact WK _ _ _ ⟨I,WT⟩ h2
        .cases h1
       .cases h1
      .cases h1
     .cases h1
    .exact h.elim
   .obtain⟨g,hg,h⟩:=h;cases WN:WX P F.n o.op<;>rw[WN]at hg
    case box e sz xv=>
     simp only[Ze]at hg;split at hg
     .rename_i hc;simp only[aI]at hg;subst hg;obtain⟨y,g1,g2,rfl,rfl⟩:=FW WN;obtain⟨id,P',z,w',Y',hz,WT⟩:=zn hs g1 g2 hc.1 hc.2;unfold Oper.wp;rw[hz];exact WK _ _ _ ⟨Y',WT⟩ (h id P')
     .cases hg
    case alloc e sz z=>
     simp only[Ze,aI]at hg;subst hg;obtain⟨ti,zv,g1,g2,rfl,rfl⟩:=zJ WN;obtain⟨id,P',y,w',Y',hy,WT⟩:=tI hs g1 g2;unfold Oper.wp;rw[hy];exact WK _ _ _ ⟨Y',WT⟩ (h id P')
    case fk e sz xs=>
     simp only[Ze]at hg;split at hg
     .rename_i hc;simp only[aI]at hg;subst hg;obtain⟨t,len,parts,ti,z,h1,h2,h3,rfl,h5,h6,rfl⟩:=vN WN;have hx:∀y∈parts.toList.map (λp=>(cx F.n p.2).ev x.s),y.cells.length=ti.size/\y.stays=true:=by
       intro y hy;have:=eT.1 hc y (by rw[List.map_map];exact hy);simpa using this
      obtain⟨id,P',y,w',Y',hy,WT⟩:=qN hs h1 h2 h3 h5 h6 hx;unfold Oper.wp;rw[hy];have hl:parts.size=len:=by have:=congrArg List.length h5;simpa using this
      refine WK _ _ _ ⟨Y',WT⟩ ?_;have:=h id P';simpa only[dd,List.map_map,Array.length_toList,hl,Function.comp_def]using this
     .cases hg
    case mk e sz bytes zv y=>
     simp only[Ze]at hg;split at hg
     .rename_i m hm;split at hg
      .rename_i hc;simp only[aI]at hg;subst hg;obtain⟨t,l',c,ti,z,g1,g2,g3,rfl,rfl,rfl,g5,rfl⟩:=HR WN;obtain⟨id,P',x',w',Y',W8,WT⟩:=Bv hs g1 g5 g2 g3 hm hc.1 hc.2;unfold Oper.wp;rw[W8];exact WK _ _ _ ⟨Y',WT⟩ (h id P')
      .cases hg
     .cases hg
    case appz e sz bytes zv ya y=>
     simp only[Ze]at hg;split at hg
     .rename_i kq m hy hm;split at hg
      .rename_i hc;simp only[aI]at hg;subst hg;obtain⟨t,tn,kn,x1,y1,args,argTypes,ti,z,g1,g2,g3,g4,g5,g6,rfl,rfl,rfl,rfl,rfl⟩:=CJ WN;obtain⟨id,P',x',w',Y',W8,WT⟩:=xE hs g1 g2 g3 g4 g5 g6 hy hm hc.1 hc.2;unfold Oper.wp;rw[W8];exact WK _ _ _ ⟨Y',WT⟩ (h id P')
      .cases hg
     .cases hg
    case append e sz bytes xa xb=>
     simp only[Ze]at hg;split at hg
     .rename_i base WW src e1 e2;split at hg
      .rename_i hb;simp only[aI]at hg;subst hg;obtain⟨t,t',y,z,args,argTypes,ti,zv,g1,g2,g3,g3',g4,g5,rfl,rfl,rfl,rfl⟩:=wS WN;obtain⟨id,P',r,w',Y',hx,WT⟩:=qZ hs g1 g2 g3 g3' g4 g5 e1 e2 hb;unfold Oper.wp;rw[hx];exact WK _ _ _ ⟨Y',WT⟩ (h id P')
      .cases hg
     .cases hg
    all_goals simp[Ze]at hg
   .exact h.elim
def Tn(P:Program)(n:Nat)(ops:Array Oper)(i:Nat)(x:St)(K:St->Prop):Prop:=match ops[i]? with
 |some o=>T P (bM P n ops o) x K
 |none=>K x
def sP(P:Program)(n:Nat)(ops:Array Oper)(Q:St->Prop):Nat->Array Bool->St->Prop
 |0,A',x=>Region.ready .any ops A'=[]/\Q x
 |f+1,A',x=>(Region.ready .any ops A'=[]->Q x)/\∀i∈Region.ready .any ops A',Tn P n ops i x (sP P n ops Q f (A'.setIfInBounds i true))
def qt{F:Fr}(hn:F.n=n){ops:Array Oper}{Q:St->Prop}{Q':Exit->Act->World->Prop}(hQ:∀x a w,eE F x a w->Q x->Q' .normal a w):
 ∀(f:Nat) (A':Array Bool) (x:St) (a:Act) (w:World),eE F x a w->sP P n ops Q f A' x->wpAnyIn F.ed 0 P .any ops Q' f A' a w
 |0,_,_,_,_,hs,h=>⟨h.1,hQ _ _ _ hs h.2⟩
 |f+1,A',x,a,w,hs,h=>by
  refine⟨λh0=>hQ _ _ _ hs (h.1 h0),λi hi=>?_⟩;have h1:=h.2 i hi;unfold Tn at h1;unfold wpOpIn;cases ho:ops[i]? with
  |none=>
   simp only[ho]at h1;exact qt hn hQ f _ x a w hs h1
  |some o=>
   simp only[ho]at h1;have h2:=uY (Q':=Q') hn h1 hs λx' a' w' WT hk=>qt hn hQ f _ x' a' w' WT hk;by_cases hw:Region.wanted o (yielded ops a.tmps)=true
   .rw[aq hw]at h2;simp only[hw,if_true];exact Gb (ke h2.1) h2.2
   .rw[ao hw]at h2;simp only[hw];exact⟨λ_ _=>trivial,h2⟩
def iS(ops:Array Oper)(A':Array Bool):Prop:=∀m om,ops[m]?=some om->A'.getD m true=true->∀e∈om.after,Region.binds .any e=true->A'.getD e.on false=true
def iS.list{ops:Array Oper}{A':Array Bool}(h:iS ops A'){i:Nat}(hi:i∈Region.ready .any ops A'):iS ops (A'.setIfInBounds i true):=by
 intro m om hm hl e he hb;by_cases hmi:m=i
 .subst hmi;obtain⟨_,o,ho,XF⟩:=mem_ready.1 hi;rw[hm]at ho;cases ho;exact getD_set_true (XF e he hb)
 .rw[getD_set_ne true (Ne.symm hmi)]at hl;exact getD_set_true (h m om hm hl e he hb)
def Eu{f:Edge->Nat}(l:List Edge):∀(s:Nat) (i:Nat),(l.foldl (λs e=>if Region.binds .any e then s ||| 2^e.on ||| f e else s) s).testBit i=true->
 s.testBit i=true\/∃e∈l,Region.binds .any e=true/\(i=e.on\/(f e).testBit i=true):=by
 induction l with
 |nil=>intro s i h;exact .inl h
 |cons e l ih=>
  intro s i h;simp only[jm]at h;rcases ih _ i h with h1|⟨e',h2,h3,h4⟩
  .by_cases hb:Region.binds .any e=true
   .rw[aq hb]at h1;simp only[Nat.testBit_or,kX,Nat.testBit_two_pow]at h1;rcases h1 with(h1|h1)|h1
    .exact .inl h1
    .exact .inr ⟨e,by simp,hb,.inl (by simpa using(of_decide_eq_true h1).symm)⟩
    .exact .inr ⟨e,by simp,hb,.inr h1⟩
   .rw[ao hb]at h1;exact .inl h1
  .exact .inr ⟨e',by simp[h2],h3,h4⟩
def lF{ops:Array Oper}{A':Array Bool}(hc:iS ops A'):∀(j:Nat) (oj:Oper) (i:Nat),ops[j]?=some oj->((Region.before ops).getD j 0).testBit i=true->
 (∀e∈oj.after,Region.binds .any e=true->A'.getD e.on false=true)->A'.getD i false=true:=by
 have key:∀(l:List Oper) (acc:Array Nat) (k:Nat),acc.size=k->(∀j,l[j]?=ops[k+j]?)->
  (∀j oj i,j<k->ops[j]?=some oj->(acc.getD j 0).testBit i=true->(∀e∈oj.after,Region.binds .any e=true->A'.getD e.on false=true)->A'.getD i false=true)->
  ∀j oj i,ops[j]?=some oj->((l.foldl (λacc o=>acc.push (o.after.foldl (λs e=>if Region.binds .any e then s ||| 2^e.on ||| acc.getD e.on 0 else s) 0)) acc).getD j 0).testBit i=true->
   (∀e∈oj.after,Region.binds .any e=true->A'.getD e.on false=true)->A'.getD i false=true:=by
  intro l
  induction l with
  |nil=>
   intro acc k hk hl h j oj i hj hb hd;have H':j<k:=by
    rcases Nat.lt_or_ge j k with h1|h1
    .exact h1
    .have:=hl (j-k);rw[show k+(j-k)=j by omega,hj]at this;simp at this
   exact h j oj i H' hj hb hd
  |cons o l ih=>
   intro acc k hk hl h;have WL:ops[k]?=some o:=by simpa using(hl 0).symm
   refine ih _ (k+1) (by simp[hk]) (λj=>by have:=hl (j+1);simpa[Nat.add_assoc,DK 1 j]using this) ?_;intro j oj i hj hoj hb hd;by_cases hjk:j=k
   .subst hjk;rw[hoj]at WL;cases WL;rw[Zq7,<-hk,Array.getElem?_push_size]at hb;simp only[Option.getD_some]at hb;rw[<-Array.foldl_toList]at hb;rcases Eu (f:=λe=>acc.getD e.on 0) o.after.toList 0 i hb with h1|⟨e,he,hbd,h1|h1⟩
    .simp at h1
    .rw[h1];exact hd e (by simpa using he) hbd
    .have hel:=hd e (by simpa using he) hbd;by_cases hek:e.on<acc.size
     .have hex:e.on<ops.size:=by
       have:=(oz.1 hoj).1;omega
      have hoe:ops[e.on]?=some ops[e.on]:=Array.getElem?_eq_getElem hex;refine h e.on _ i (by omega) hoe h1 (hc e.on _ hoe ?_);have Zb:e.on<A'.size:=by
       rcases Nat.lt_or_ge e.on A'.size with h2|h2
       .exact h2
       .simp[Array.getElem?_eq_none h2]at hel
      simp only[Zq7,Array.getElem?_eq_getElem Zb,Option.getD_some]at hel|-;exact hel
     .rw[Zq7,Array.getElem?_eq_none (by omega)]at h1;simp at h1
   .have hjlt:j<k:=by omega
    rw[Zq7,Array.getElem?_push_lt (by omega)]at hb;refine h j oj i hjlt hoj ?_ hd;rw[Zq7,Array.getElem?_eq_getElem (by omega)];exact hb
 intro j oj i hj hb hd;unfold Region.before at hb;rw[<-Array.foldl_toList]at hb;exact key ops.toList #[] 0 rfl (by simp) (λj oj i h=>by omega) j oj i hj hb hd
def An{ops:Array Oper}{Q:St->Prop}{i:Nat}{oi:Oper}(hi:ops[i]?=some oi):∀(f:Nat) (A':Array Bool) (x:St),Inf x.U->iS ops A'->
 (∀j oj,ops[j]?=some oj->j≠i->A'.getD j true=false->((Region.before ops).getD j 0).testBit i=false->iH (bM P n ops oi) (bM P n ops oj)=true)->
 i∈Region.ready .any ops A'->T P (bM P n ops oi) x (sP P n ops Q f (A'.setIfInBounds i true))->sP P n ops Q (f+1) A' x:=by
 intro f
 induction f with
 |zero=>
  intro A' x YW _ _ hr H;refine⟨λh=>(by rw[h]at hr;cases hr),λj hj=>?_⟩;by_cases YO:j=i
  .subst YO;unfold Tn;simp only[hi];exact H
  .have:=ready_mono hj YO;obtain⟨x',W8⟩:=H.exists YW;rw[W8.1]at this;cases this
 |succ f ih=>
  intro A' x YW XH hfree hr H;refine⟨λh=>(by rw[h]at hr;cases hr),λj hj=>?_⟩;by_cases YO:j=i
  .subst YO;unfold Tn;simp only[hi];exact H
  .obtain⟨hjun,oj,hoj,XF⟩:=mem_ready.1 hj;have hnot:((Region.before ops).getD j 0).testBit i=false:=by
    cases hb:((Region.before ops).getD j 0).testBit i with
    |false=>rfl
    |true=>
     exfalso;have h1:=lF XH j oj i hoj hb XF;have h0:=(mem_ready.1 hr).1;rcases Nat.lt_or_ge i A'.size with h'|h'
     .simp[h']at h0 h1;rw[h0]at h1;cases h1
     .simp[Array.getElem?_eq_none h']at h1
   have H2:T P (bM P n ops oi) x λx'=>T P (bM P n ops oj) x' (sP P n ops Q f ((A'.setIfInBounds i true).setIfInBounds j true)):=by
    refine H.mono λx' W8=>?_;have:=W8.2 j (ready_mono hj YO);unfold Tn at this;simpa only[hoj]using this
   have h2:=DW (hfree j oj hoj YO hjun hnot) YW H2;have hfree':∀k ok,ops[k]?=some ok->k≠i->(A'.setIfInBounds j true).getD k true=false->
    ((Region.before ops).getD k 0).testBit i=false->iH (bM P n ops oi) (bM P n ops ok)=true:=λk ok hk hki hun Xa=>by
    refine hfree k ok hk hki ?_ Xa;by_cases hjk:j=k
    .subst hjk;exact hjun
    .rw[getD_set_ne true hjk]at hun;exact hun
   unfold Tn;simp only[hoj];refine(h2.inf YW).mono λx' W8=>ih (A'.setIfInBounds j true) x' W8.1 (XH.list hj) hfree' (ready_mono hr (Ne.symm YO)) ?_;rw[Array.setIfInBounds_comm _ _ YO];exact W8.2
def mH{ops:Array Oper}{k:Nat}{ok:Oper}{A':Array Bool}(hk:ops[k]?=some ok)(h:E5 P n ops k A'=true)(j:Nat)(oj:Oper)(hj:ops[j]?=some oj)(W6:j≠k)
 (hun:A'.getD j true=false)(Xa:((Region.before ops).getD j 0).testBit k=false):iH (bM P n ops ok) (bM P n ops oj)=true:=by
 unfold E5 at h;simp only[hk]at h;have hjlt:j<ops.size:=(oz.1 hj).1;have:=eT.1 h j (List.mem_range.2 hjlt);simp only[hj,hun,Xa,Bool.or_false,Bool.false_or,kX,beq_iff_eq,W6,false_or]at this;exact this
def gX(P:Program)(Q:St->Prop):List aD->St->Prop
 |[],x=>Q x
 |i::l,x=>T P i x (gX P Q l)
def wq{ops:Array Oper}{Q:St->Prop}:∀(l:List Oper) (k:Nat) (A':Array Bool) (x:St),Inf x.U->iS ops A'->(∀j,l[j]?=ops[k+j]?)->
 xW P n ops l.length k A'=true->gX P Q (l.map (bM P n ops)) x->sP P n ops Q l.length A' x
 |[],_,_,_,_,_,_,hB,h=>⟨by simpa[xW]using hB,h⟩
 |o::l,k,A',x,YW,XH,hl,hB,h=>by
  have h0:ops[k]?=some o:=by simpa using(hl 0).symm
  simp only[XX,xW,Ba]at hB;obtain⟨⟨hr,hf⟩,hB'⟩:=hB;refine An h0 l.length A' x YW XH (mH h0 hf) (by simpa using hr) ?_;refine(T.inf YW h).mono λx' W8=>?_;exact wq l (k+1) _ x' W8.1 (XH.list (by simpa using hr)) (λj=>by have:=hl (j+1);simpa[Nat.add_assoc,DK 1 j]using this) hB' W8.2
def zL{F:Fr}(hn:F.n=n){ops:Array Oper}(WL:qd P n ops=true){id:Nat}{x:St}{a:Act}{w:World}(hs:eE F x a w){Q:St->Prop}{Q':Exit->Act->World->Prop}
 (hQ:∀x a w,eE F x a w->Q x->Q' .normal a w)(h:gX P Q (ops.toList.map (bM P n ops)) x):(Code.region id ops true).wpIn F.ed 0 P Q' a w:=by
 simp only[qd,Ba]at WL;have WT:eE F x a { w with drawn:=w.drawn+1 }:=by
  obtain⟨I,hs⟩:=hs;have hk:cM (az I x.U) (az I x.U) w { w with drawn:=w.drawn+1 }:=λ_ _ h=>⟨h,rfl⟩
  refine⟨I,⟨⟨hs.sat.size,hs.sat.os,hs.sat.tape,hs.sat.output,hs.sat.same,hs.sat.fin,hs.sat.inj,λid o ho=>?_,hs.sat.fresh,hs.sat.glob⟩,hs.le,hs.size,hs.book.lV hk,λi hi=>?_⟩⟩
  .exact(hs.sat.obj id o ho).mono (cI.refl I) hk (Xm _) (λ_ _ _ _=>rfl)
  .exact E'.mono (cI.refl I) hk (Xm _) _ _ (hs.slot i hi)
 refine wpIn_region_any WL.1 (qt hn hQ _ _ _ _ _ WT ?_);have:=wq (P:=P) (n:=n) (Q:=Q) ops.toList 0 (Array.replicate ops.size false) x hs.inf (λm om hm hl=>by
  have H':m<ops.size:=(oz.1 hm).1;rw[Zq7,Array.getElem?_replicate,aq H']at hl;simp at hl) (by simp) (by simpa using WL.2.2) h
 simpa using this
def tc(P:Program)(n:Nat)(ops:Array Oper)(m:Nat)(Q:St->Prop):Nat->Array Bool->St->Prop
 |0,A',x=>(Region.ready .any ops A'=[m]/\Region.ready .any ops (A'.setIfInBounds m true)=[])/\Q x
 |f+1,A',x=>Region.ready .any ops A'≠[]/\∀i∈Region.ready .any ops A',i≠m/\Tn P n ops i x (tc P n ops m Q f (A'.setIfInBounds i true))
def pV{F:Fr}(hn:F.n=n){ops:Array Oper}{m:Nat}{Q:St->Prop}{Q':Exit->Act->World->Prop}(hQ:∀x a w,eE F x a w->Q x->wpOpIn F.ed 0 P ops Q' m (Q' .normal) a w):
 ∀(f:Nat) (A':Array Bool) (x:St) (a:Act) (w:World),eE F x a w->tc P n ops m Q f A' x->wpAnyIn F.ed 0 P .any ops Q' (f+1) A' a w
 |0,A',x,a,w,hs,h=>by
  obtain⟨⟨h1,h2⟩,h3⟩:=h;refine⟨λh0=>(by rw[h1]at h0;cases h0),λi hi=>?_⟩;rw[h1]at hi;have him:i=m:=by simpa using hi
  subst him;exact wpOpIn_mono (λa w h=>⟨h2,h⟩) (hQ x a w hs h3)
 |f+1,A',x,a,w,hs,h=>by
  refine⟨λh0=>absurd h0 h.1,λi hi=>?_⟩;have h1:=(h.2 i hi).2;unfold Tn at h1;unfold wpOpIn;cases ho:ops[i]? with
  |none=>
   simp only[ho]at h1;exact pV hn hQ f _ x a w hs h1
  |some o=>
   simp only[ho]at h1;have h2:=uY (Q':=Q') hn h1 hs λx' a' w' WT hk=>pV hn hQ f _ x' a' w' WT hk;by_cases hw:Region.wanted o (yielded ops a.tmps)=true
   .rw[aq hw]at h2;simp only[hw,if_true];exact Gb (ke h2.1) h2.2
   .rw[ao hw]at h2;simp only[hw];exact⟨λ_ _=>trivial,h2⟩
def Ay{ops:Array Oper}{m:Nat}{Q:St->Prop}{i:Nat}{oi:Oper}(hi:ops[i]?=some oi)(him:i≠m)(hm:((Region.before ops).getD m 0).testBit i=true):
 ∀(f:Nat) (A':Array Bool) (x:St),Inf x.U->iS ops A'->
 (∀j oj,ops[j]?=some oj->j≠i->A'.getD j true=false->((Region.before ops).getD j 0).testBit i=false->iH (bM P n ops oi) (bM P n ops oj)=true)->
 i∈Region.ready .any ops A'->T P (bM P n ops oi) x (tc P n ops m Q f (A'.setIfInBounds i true))->tc P n ops m Q (f+1) A' x:=by
 have hnotj:∀(A':Array Bool),iS ops A'->i∈Region.ready .any ops A'->∀j,j∈Region.ready .any ops A'->((Region.before ops).getD j 0).testBit i=false:=λA' XH hr j hj=>by
  obtain⟨hjun,oj,hoj,XF⟩:=mem_ready.1 hj;cases hb:((Region.before ops).getD j 0).testBit i with
  |false=>rfl
  |true=>
   exfalso;have h1:=lF XH j oj i hoj hb XF;have h0:=(mem_ready.1 hr).1;rcases Nat.lt_or_ge i A'.size with h'|h'
   .simp[h']at h0 h1;rw[h0]at h1;cases h1
   .simp[Array.getElem?_eq_none h']at h1
 have hjm:∀(A':Array Bool),iS ops A'->i∈Region.ready .any ops A'->∀j,j∈Region.ready .any ops A'->j≠m:=λA' XH hr j hj e=>by
  have:=hnotj A' XH hr j hj;rw[e,hm]at this;cases this
 intro f
 induction f with
 |zero=>
  intro A' x YW XH _ hr H;refine⟨λh=>(by rw[h]at hr;cases hr),λj hj=>⟨hjm A' XH hr j hj,?_⟩⟩;by_cases YO:j=i
  .subst YO;unfold Tn;simp only[hi];exact H
  .have:=ready_mono hj YO;obtain⟨x',W8⟩:=H.exists YW;rw[W8.1.1]at this;exact absurd (by simpa using this) (hjm A' XH hr j hj)
 |succ f ih=>
  intro A' x YW XH hfree hr H;refine⟨λh=>(by rw[h]at hr;cases hr),λj hj=>⟨hjm A' XH hr j hj,?_⟩⟩;by_cases YO:j=i
  .subst YO;unfold Tn;simp only[hi];exact H
  .obtain⟨hjun,oj,hoj,XF⟩:=mem_ready.1 hj;have hnot:=hnotj A' XH hr j hj;have H2:T P (bM P n ops oi) x λx'=>T P (bM P n ops oj) x' (tc P n ops m Q f ((A'.setIfInBounds i true).setIfInBounds j true)):=by
    refine H.mono λx' W8=>?_;have:=(W8.2 j (ready_mono hj YO)).2;unfold Tn at this;simpa only[hoj]using this
   have h2:=DW (hfree j oj hoj YO hjun hnot) YW H2;have hfree':∀k ok,ops[k]?=some ok->k≠i->(A'.setIfInBounds j true).getD k true=false->
    ((Region.before ops).getD k 0).testBit i=false->iH (bM P n ops oi) (bM P n ops ok)=true:=λk ok hk hki hun Xa=>by
    refine hfree k ok hk hki ?_ Xa;by_cases hjk:j=k
    .subst hjk;exact hjun
    .rw[getD_set_ne true hjk]at hun;exact hun
   unfold Tn;simp only[hoj];refine(h2.inf YW).mono λx' W8=>ih (A'.setIfInBounds j true) x' W8.1 (XH.list hj) hfree' (ready_mono hr (Ne.symm YO)) ?_;rw[Array.setIfInBounds_comm _ _ YO];exact W8.2
def wY{ops:Array Oper}{m:Nat}{Q:St->Prop}:∀(l:List Oper) (k:Nat) (A':Array Bool) (x:St),Inf x.U->iS ops A'->(∀j,j<l.length->l[j]?=ops[k+j]?)->
 Ix P n ops m l.length k A'=true->gX P Q (l.map (bM P n ops)) x->tc P n ops m Q l.length A' x
 |[],_,_,_,_,_,_,hB,h=>⟨by simpa[Ix]using hB,h⟩
 |o::l,k,A',x,YW,XH,hl,hB,h=>by
  have h0:ops[k]?=some o:=by simpa using(hl 0 (by simp)).symm
  simp only[XX,Ix,Ba]at hB;obtain⟨⟨hr,hkm,hbit⟩,hf,hB'⟩:=hB;refine Ay h0 (by simpa using hkm) hbit l.length A' x YW XH (mH h0 hf) (by simpa using hr) ?_;refine(T.inf YW h).mono λx' W8=>?_;exact wY l (k+1) _ x' W8.1 (XH.list (by simpa using hr)) (λj hj=>by have:=hl (j+1) (by simpa using hj);simpa[Nat.add_assoc,DK 1 j]using this) hB' W8.2
def yq{F:Fr}(hn:F.n=n){ops:Array Oper}(WL:AM P n ops=true){id:Nat}{x:St}{a:Act}{w:World}(hs:eE F x a w){Q:St->Prop}{Q':Exit->Act->World->Prop}
 (hQ:∀x a w,eE F x a w->Q x->wpListIn F.ed 0 P ops Q' (ops.toList.drop (ops.size-1)) a w)(h:gX P Q ((ops.toList.take (ops.size-1)).map (bM P n ops)) x):(Code.region id ops true).wpIn F.ed 0 P Q' a w:=by
 simp only[AM,Ba,Zs]at WL;obtain⟨hmx,Ye,_,_,hlex⟩:=WL;have WT:eE F x a { w with drawn:=w.drawn+1 }:=by
  obtain⟨I,hs⟩:=hs;have hk:cM (az I x.U) (az I x.U) w { w with drawn:=w.drawn+1 }:=λ_ _ h=>⟨h,rfl⟩
  refine⟨I,⟨⟨hs.sat.size,hs.sat.os,hs.sat.tape,hs.sat.output,hs.sat.same,hs.sat.fin,hs.sat.inj,λid o ho=>?_,hs.sat.fresh,hs.sat.glob⟩,hs.le,hs.size,hs.book.lV hk,λi hi=>?_⟩⟩
  .exact(hs.sat.obj id o ho).mono (cI.refl I) hk (Xm _) (λ_ _ _ _=>rfl)
  .exact E'.mono (cI.refl I) hk (Xm _) _ _ (hs.slot i hi)
 refine wpIn_region_any hmx ?_;have hlen:(ops.toList.take (ops.size-1)).length=ops.size-1:=by simp
 have hdrop:ops.toList.drop (ops.size-1)=[ops[ops.size-1]'(by omega)]:=by
  rw[gF (by simpa using(by omega:ops.size-1<ops.size))];simp[xF,show ops.size<=ops.size-1+1 by omega]
 have ZU:ops[ops.size-1]?=some (ops[ops.size-1]'(by omega)):=Array.getElem?_eq_getElem (by omega);have hL:=wY (P:=P) (n:=n) (Q:=Q) (m:=ops.size-1) (ops.toList.take (ops.size-1)) 0 (Array.replicate ops.size false) x hs.inf (λm om hm hl=>by
  have H':m<ops.size:=(oz.1 hm).1;rw[Zq7,Array.getElem?_replicate,aq H']at hl;simp at hl) (λj hj=>by rw[hlen]at hj;simp[List.getElem?_take,hj]) (by rw[hlen];exact hlex) h
 rw[hlen]at hL;have:=pV (Q':=Q') hn (λx a w hs hq=>by
  have:=hQ x a w hs hq;rw[hdrop]at this;unfold wpOpIn;simpa only[ZU,wpListIn]using this) _ _ _ _ _ WT hL
 rwa [show ops.size-1+1=ops.size by omega]at this
variable {P:Program} {n:Nat} {st:St} {Q:St->Prop} {k:List It}
def ab.E0{l:List aD}(h:gX P (λx=>ab P n k x Q) l st):ab P n (.code (.Za true l)::k) st Q:=by
 intro F hn kt hk a w hs;obtain⟨z,YN,rfl,hy,Yc⟩:=dN hk;obtain⟨c0,rfl,XZ⟩:=gw hy;have hc0:∃id ops,c0=.region id ops true/\qd P n ops=true/\ops.toList.map (bM P n ops)=l:=by
  cases c0<;>simp only[dk,reduceCtorEq]at XZ;rename_i id ops draw;cases draw
  .simp at XZ
  .simp only[Bool.true_and]at XZ;split at XZ
   .cases XZ
   split at XZ
   .cases XZ
   .rename_i hd;simp only[bG.Za.injEq,true_and]at XZ;exact⟨id,ops,rfl,by simpa using hd,XZ⟩
 obtain⟨id,ops,rfl,WL,rfl⟩:=hc0;exact zL hn WL hs (λx a w hs h=>h F hn YN Yc a w hs) h
def ab.uM{l e:List aD}(h:gX P (λx=>ab P n (.ops e::k) x Q) l st):ab P n (.code (.uM l e)::k) st Q:=by
 intro F hn kt hk a w hs;obtain⟨z,YN,rfl,hy,Yc⟩:=dN hk;obtain⟨c0,rfl,XZ⟩:=gw hy;have hc0:∃id ops,c0=.region id ops true/\AM P n ops=true/\(ops.toList.take (ops.size-1)).map (bM P n ops)=l/\(ops.toList.drop (ops.size-1)).map (bM P n ops)=e:=by
  cases c0<;>simp only[dk,reduceCtorEq]at XZ;rename_i id ops draw;cases draw
  .simp at XZ
  .simp only[Bool.true_and]at XZ;split at XZ
   .rename_i hd;simp only[bG.uM.injEq]at XZ;exact⟨id,ops,rfl,hd,XZ.1,XZ.2⟩
   .split at XZ<;>cases XZ
 obtain⟨id,ops,rfl,WL,rfl,rfl⟩:=hc0;exact yq hn WL hs (λx a w hs h=>h F hn (.ops ops (ops.toList.drop (ops.size-1))::YN) (by simp[KI.it,Yc]) a w hs) h
def St.lit(st:St):VX->V->St
 |.t d,v=>⟨aQ st.s (some d) v,st.U⟩
 |.c _,_=>st
inductive Td where
 |r (todo:List It)
 |d (l:List aD) (todo:List It)
def Kof(P:Program)(n:Nat)(todo:List It)(st:St)(Q:St->Prop):Prop:=match todo with
 |.stop μ::_=>μ st
 |todo=>ab P n todo st Q
def Kof.runs{todo:List It}(h:Kof P n todo st Q):ab P n todo st Q:=by
 cases todo with
 |nil=>exact h
 |cons x k=>cases x<;>first|exact ab.stop h|exact h
def gX.mono{K K':St->Prop}(hk:∀x,K x->K' x):∀{l:List aD} {x:St},gX P K l x->gX P K' l x
 |[],_,h=>hk _ h
 |_::_,_,h=>T.mono (λ_ h=>gX.mono hk h) h
def Go(P:Program)(n:Nat)(t:Td)(st:St)(Q:St->Prop):Prop:=
 match t with
 |.r todo=>Kof P n todo st Q
 |.d l todo=>gX P (λx=>Kof P n todo x Q) l st
def Go.runs{todo:List It}(h:Go P n (.r todo) st Q):ab P n todo st Q:=Kof.runs h
def Go.chain{l:List aD}(h:Go P n (.d l k) st Q):gX P (λx=>ab P n k x Q) l st:=gX.mono (λ_ h=>Kof.runs h) h
def dy{α:Type}(o:Option α)(k:α->Prop):Prop:=match o with
 |some v=>k v
 |none=>False
def ug{α:Type}(v:α)(k:α->Prop):dy (some v) k=k v:=rfl
def gU{α:Type}{o:Option α}{k:α->Prop}:dy o k↔∃v,o=some v/\k v:=by cases o<;>simp[dy]
def dM(v:V)(k:Bool->Prop)(z:Prop):Prop:=match v with
 |.bool c=>k c
 |.WJ []=>z
 |.int _ _=>z
 |_=>False
def nj{v:V}{k:Bool->Prop}{z:Prop}(h:dM v k z):(∃c,v=.bool c/\k c)\/(v=.WJ []/\z)\/(∃q m,v=.int q m/\z):=by
 unfold dM at h;split at h
 .exact .inl ⟨_,rfl,h⟩
 .exact .inr (.inl ⟨rfl,h⟩)
 .exact .inr (.inr ⟨_,_,rfl,h⟩)
 .exact h.elim
def both(c b:Bool)(x y:Prop):Prop:=(c=b->x)/\(c=!b->y)
def jW(s:Nat->V)(U:ag):W5->Option ag
 |.store sz xa xv=>fI U sz (xa.ev s) (xv.ev s)
 |_=>none
structure Yp(P:Program) where
 get:FuncId->List V->ag->Option V
 ok:∀f args U v,get f args U=some v->ax P f args U λr Z'=>r=v/\Z'=U
 up:∀f args U Z' v,aa U Z'->get f args U=some v->get f args Z'=some v:=by intros;assumption
def Yp.nothing:Yp P where
 get _ _ _:=none
 ok _ _ _ _ h:=by cases h
def zo(O:Yp P)(s:Nat->V)(U:ag):W5->Option V
 |.call fx xs=>match fx.ev s with
   |.fn f caps=>O.get f (xs.map (·.ev s)++caps) U
   |_=>none
 |_=>none
def AI(o:Option V)(k:V->Prop)(z:Prop):Prop:=match o with
 |some v=>k v
 |none=>z
def rm{o:Option V}{k:V->Prop}{z:Prop}(h:AI o k z):(∃v,o=some v/\k v)\/z:=by
 cases o with
 |none=>exact .inr h
 |some v=>exact .inl ⟨v,rfl,h⟩
def zY(q:Nat)(a b c d g:Prop):Prop:=match q with
 |0=>a
 |1=>b
 |2=>c
 |3=>d
 |_=>g
def pN{q:Nat}{a b c d g:Prop}(h:zY q a b c d g):(q=0/\a)\/(q=1/\b)\/(q=2/\c)\/(q=3/\d)\/g:=by
 unfold zY at h;split at h<;>simp_all
def yr(O:Yp P)(q:Nat)(d:Option Nat)(op:W5)(st:St)(k:St->Prop)(z:Prop):Prop:=
 zY q (ez st.s op/\dy (aF st.U st.s op) λv=>k ⟨aQ st.s d v,st.U⟩)
  (AI (zo O st.s st.U op) (λv=>k ⟨aQ st.s d v,st.U⟩) z)
  (dy (jW st.s st.U op) λZ'=>k ⟨aQ st.s d (.WJ []),Z'⟩)
  (dy (Ze st.s st.U op) λg=>∀id,st.U id=none->k ⟨aQ st.s d (g id).1,(g id).2⟩) z
def step(P:Program)(O:Yp P)(n:Nat):Nat->Td->St->(St->Prop)->Prop
 |0,t,st,Q=>Go P n t st Q
 |f+1,t,st,Q=>match t with
  |.d l k=>match l with
   |[]=>step P O n f (.r k) st Q
   |i::l=>match i.g with
    |none=>yr O (bf i.op) i.dst i.op st (λst=>step P O n f (.d l k) st Q) (Go P n (.d (i::l) k) st Q)
    |some (x,b)=>dM (x.ev st.s) (λc=>both c b
       (yr O (bf i.op) i.dst i.op (st.lit x (.bool b)) (λst=>step P O n f (.d l k) st Q) (Go P n (.d (i::l) k) (st.lit x (.bool b)) Q))
       (step P O n f (.d l k) ⟨aQ (st.lit x (.bool !b)).s i.dst (.WJ []),(st.lit x (.bool !b)).U⟩ Q))
       (step P O n f (.d l k) ⟨aQ st.s i.dst (.WJ []),st.U⟩ Q)
  |.r todo=>match todo with
   |[]=>Q st
   |.stop μ::_=>μ st
   |.inBlock _::k=>step P O n f (.r k) st Q
   |.ops []::k=>step P O n f (.r k) st Q
   |.ops (i::l)::k=>match i.g with
    |none=>yr O (bf i.op) i.dst i.op st (λst=>step P O n f (.r (.ops l::k)) st Q) (ab P n (.ops (i::l)::k) st Q)
    |some (x,b)=>dM (x.ev st.s) (λc=>both c b
       (yr O (bf i.op) i.dst i.op (st.lit x (.bool b)) (λst=>step P O n f (.r (.ops l::k)) st Q) (ab P n (.ops (i::l)::k) (st.lit x (.bool b)) Q))
       (step P O n f (.r (.ops l::k)) ⟨aQ (st.lit x (.bool !b)).s i.dst (.WJ []),(st.lit x (.bool !b)).U⟩ Q))
       (step P O n f (.r (.ops l::k)) ⟨aQ st.s i.dst (.WJ []),st.U⟩ Q)
   |.code c::k=>match c with
    |.skip=>step P O n f (.r k) st Q
    |.seq a b=>step P O n f (.r (.code a::.code b::k)) st Q
    |.block id a=>step P O n f (.r (.code a::.inBlock id::k)) st Q
    |.exit id=>dy (jB id k) λk'=>step P O n f (.r k') st Q
    |.ret=>Q st
    |.cond c a b=>dM (c.ev st.s) (λt=>both t true (step P O n f (.r (.code a::k)) st Q) (step P O n f (.r (.code b::k)) st Q)) False
    |.Za draw l=>match draw with
     |false=>step P O n f (.r (.ops l::k)) st Q
     |true=>step P O n f (.d l k) st Q
    |.loop a=>ab P n (.code (.loop a)::k) st Q
    |.ej g ps a b=>ab P n (.code (.ej g ps a b)::k) st Q
    |.regA l W2=>ab P n (.code (.regA l W2)::k) st Q
    |.uM l e=>step P O n f (.d l (.ops e::k)) st Q
    |.bad=>False
def AD{st:St}{x:VX}{v:V}(h:x.ev st.s=v):st.lit x v=st:=by
 cases x with
 |t d=>
  simp only[VX.ev]at h;have:aQ st.s (some d) v=st.s:=by
   funext i;simp only[aQ];split
   .rename_i e;rw[e,h]
   .rfl
  simp[St.lit,this]
 |c _=>rfl
def ab.fI{i:aD}{l:List aD}{sz:Nat}{xa xv:VX}(hw:aZ st.s i.g=some true)(ho:i.op=.store sz xa xv){Z':ag}
 (h1:Vc.fI st.U sz (xa.ev st.s) (xv.ev st.s)=some Z')(h:ab P n (.ops l::k) ⟨aQ st.s i.dst (.WJ []),Z'⟩ Q):ab P n (.ops (i::l)::k) st Q:=by
 unfold Vc.fI at h1;split at h1
 .rename_i id r0 c e1;split at h1
  .rename_i ob e2;split at h1
   .rename_i r e3;split at h1
    .rename_i r' e4;simp only[aI]at h1;subst h1;exact ab.store hw ho e1 e2 e3 e4 h
    .cases h1
   .cases h1
  .cases h1
 .cases h1
def ab.Ze{i:aD}{l:List aD}(hw:aZ st.s i.g=some true){g:Nat->V×ag}(hg:Vc.Ze st.s st.U i.op=some g)
 (h:∀id,st.U id=none->ab P n (.ops l::k) ⟨aQ st.s i.dst (g id).1,(g id).2⟩ Q):ab P n (.ops (i::l)::k) st Q:=by
 cases WN:i.op<;>rw[WN]at hg<;>simp only[Vc.Ze,reduceCtorEq]at hg
 case box e sz xv=>
  split at hg
  .rename_i hc;simp only[aI]at hg;subst hg;exact ab.box hw WN hc.1 hc.2 h
  .cases hg
 case alloc e sz z=>
  simp only[aI]at hg;subst hg;exact ab.alloc hw WN h
 case fk e sz xs=>
  split at hg
  .rename_i hc;simp only[aI]at hg;subst hg;refine ab.fk hw WN (λx hx=>?_) h;have:=eT.1 hc x hx;simpa using this
  .cases hg
 case mk e sz bytes zv x=>
  split at hg
  .rename_i m hm;split at hg
   .rename_i hc;simp only[aI]at hg;subst hg;exact ab.mkS hw WN hm hc.1 hc.2 h
   .cases hg
  .cases hg
 case appz e sz bytes zv y x=>
  split at hg
  .rename_i kq m hy hm;split at hg
   .rename_i hc;simp only[aI]at hg;subst hg;exact ab.RT hw WN hy hm hc.1 hc.2 h
   .cases hg
  .cases hg
 case append e sz bytes xa xb=>
  split at hg
  .rename_i base WW src e1 e2;split at hg
   .rename_i hb;simp only[aI]at hg;subst hg;exact ab.append hw WN e1 e2 hb h
   .cases hg
  .cases hg
def pZ{i:aD}{K:St->Prop}(hw:aZ st.s i.g=some true)(h:TO P i.dst i.op st K):T P i st K:=by unfold T;simp only[hw];exact h
def vi{i:aD}{K:St->Prop}(hw:aZ st.s i.g=some false)(h:K ⟨aQ st.s i.dst (.WJ []),st.U⟩):T P i st K:=by unfold T;simp only[hw];exact h
def xi{O:Yp P}{s:Nat->V}{U:ag}{op:W5}{v:V}(h:zo O s U op=some v):
 ∃fx xs f caps,op=.call fx xs/\fx.ev s=.fn f caps/\∀Z1,aa U Z1->ax P f (xs.map (·.ev s)++caps) Z1 λr Z'=>r=v/\Z'=Z1:=by
 unfold zo at h;split at h
 .rename_i fx xs;split at h
  .rename_i f caps hf;exact⟨fx,xs,f,caps,rfl,hf,λZ1 h1=>O.ok _ _ _ _ (O.up _ _ _ _ _ h1 h)⟩
  .cases h
 .cases h
def ab.xI{O:Yp P}{i:aD}{l:List aD}{st:St}(hw:aZ st.s i.g=some true){K:St->Prop}(hK:∀st,K st->ab P n (.ops l::k) st Q)
 (h:yr O (bf i.op) i.dst i.op st K (ab P n (.ops (i::l)::k) st Q)):ab P n (.ops (i::l)::k) st Q:=by
 unfold yr at h;rcases pN h with⟨_,h1,h⟩|⟨_,h⟩|⟨_,h⟩|⟨_,h⟩|h
 .obtain⟨v,hv,h⟩:=gU.1 h;exact ab.pure hw h1 hv (hK _ h)
 .rcases rm h with⟨v,hv,h⟩|h
  .obtain⟨fx,xs,f,caps,ho,hf,hc⟩:=xi hv;refine ab.call hw ho hf (hc _ (aa.refl _)) ?_;rintro r Z' ⟨rfl,rfl⟩;exact hK _ h
  .exact h
 .obtain⟨Z',hs,h⟩:=gU.1 h;cases WN:i.op<;>rw[WN]at hs<;>simp only[jW,reduceCtorEq]at hs;exact ab.fI hw WN hs (hK _ h)
 .obtain⟨g,hgg,h⟩:=gU.1 h;exact ab.Ze hw hgg λid P'=>hK _ (h id P')
 .exact h
def Go.xI{O:Yp P}{i:aD}{l:List aD}{st:St}(hw:aZ st.s i.g=some true){K:St->Prop}(hK:∀st,K st->Go P n (.d l k) st Q)
 (h:yr O (bf i.op) i.dst i.op st K (Go P n (.d (i::l) k) st Q)):Go P n (.d (i::l) k) st Q:=by
 unfold yr at h;rcases pN h with⟨hk,h1,h⟩|⟨hk,h⟩|⟨_,h⟩|⟨hk,h⟩|h
 .obtain⟨v,hv,h⟩:=gU.1 h;refine pZ hw ?_;unfold TO;simp only[hk];exact⟨h1,v,hv,hK _ h⟩
 .rcases rm h with⟨v,hv,h⟩|h
  .obtain⟨fx,xs,f,caps,ho,hf,hc⟩:=xi hv;refine pZ hw ?_;rw[ho];exact⟨f,caps,v,hf,hc,hK _ h⟩
  .exact h
 .obtain⟨Z',hs,h⟩:=gU.1 h;refine pZ hw ?_;cases WN:i.op<;>rw[WN]at hs<;>simp only[jW,reduceCtorEq]at hs;exact⟨Z',hs,hK _ h⟩
 .obtain⟨g,hgg,h⟩:=gU.1 h;refine pZ hw ?_;unfold TO;simp only[hk];exact⟨g,hgg,λid P'=>hK _ (h id P')⟩
 .exact h
def Go.bt(O:Yp P):∀(f:Nat) (t:Td) (st:St),step P O n f t st Q->Go P n t st Q
 |0,_,_,h=>h
 |f+1,.d [] k,st,h=>Go.bt O f (.r k) st h
 |f+1,.d (i::l) k,st,h=>by
  simp only[step]at h;split at h
  .rename_i hg;have hw:aZ st.s i.g=some true:=by simp[hg,aZ]
   exact Go.xI hw (λst h=>Go.bt O f (.d l k) st h) h
  .rename_i x b hg;rcases nj h with⟨c,hc,h⟩|⟨hc,h⟩|⟨q,m,hc,h⟩
   .by_cases hcb:c=b
    .subst hcb;have h1:=h.1 rfl;have hw:aZ st.s i.g=some true:=by simp[hg,aZ,hc]
     rw[AD hc]at h1;exact Go.xI hw (λst h=>Go.bt O f (.d l k) st h) h1
    .have hcb':c=!b:=by revert hcb;cases c<;>cases b<;>simp
     have h2:=h.2 hcb';rw[AD (by rw[hc,hcb'])]at h2;exact vi (by simp only[hg,aZ,hc];rw[hcb'];cases b<;>rfl) (Go.bt O f (.d l k) _ h2)
   .exact vi (by simp[hg,aZ,hc]) (Go.bt O f (.d l k) _ h)
   .exact vi (by simp[hg,aZ,hc]) (Go.bt O f (.d l k) _ h)
 |f+1,.r [],_,h=>ab.nil h
 |f+1,.r (.stop _::_),_,h=>h
 |f+1,.r (.inBlock _::k),st,h=>ab.inBlock (Go.bt O f (.r k) st h).runs
 |f+1,.r (.ops []::k),st,h=>ab.ES (Go.bt O f (.r k) st h).runs
 |f+1,.r (.ops (i::l)::k),st,h=>by
  simp only[step]at h;split at h
  .rename_i hg;have hw:aZ st.s i.g=some true:=by simp[hg,aZ]
   exact ab.xI hw (λst h=>(Go.bt O f (.r (.ops l::k)) st h).runs) h
  .rename_i x b hg;rcases nj h with⟨c,hc,h⟩|⟨hc,h⟩|⟨q,m,hc,h⟩
   .by_cases hcb:c=b
    .subst hcb;have h1:=h.1 rfl;have hw:aZ st.s i.g=some true:=by simp[hg,aZ,hc]
     rw[AD hc]at h1;exact ab.xI hw (λst h=>(Go.bt O f (.r (.ops l::k)) st h).runs) h1
    .have hcb':c=!b:=by revert hcb;cases c<;>cases b<;>simp
     have h2:=h.2 hcb';rw[AD (by rw[hc,hcb'])]at h2;exact ab.u9 (by simp only[hg,aZ,hc];rw[hcb'];cases b<;>rfl) (Go.bt O f (.r (.ops l::k)) _ h2).runs
   .exact ab.u9 (by simp[hg,aZ,hc]) (Go.bt O f (.r (.ops l::k)) _ h).runs
   .exact ab.u9 (by simp[hg,aZ,hc]) (Go.bt O f (.r (.ops l::k)) _ h).runs
 |f+1,.r (.code c::k),st,h=>by
  cases c with
  |skip=>exact ab.skip (Go.bt O f (.r _) _ h).runs
  |seq a b=>exact ab.seq (Go.bt O f (.r _) _ h).runs
  |block id a=>exact ab.block (Go.bt O f (.r _) _ h).runs
  |exit id=>
   simp only[step]at h;obtain⟨k',Yc,h⟩:=gU.1 h;exact ab.exit Yc (Go.bt O f (.r _) _ h).runs
  |ret=>exact ab.ret h
  |cond c a b=>
   simp only[step]at h;rcases nj h with⟨t,ht,h⟩|⟨_,h⟩|⟨_,_,_,h⟩
   .exact ab.cond ht (λe=>(Go.bt O f (.r _) _ (h.1 e)).runs) (λe=>(Go.bt O f (.r _) _ (h.2 (by rw[e];rfl))).runs)
   .exact h.elim
   .exact h.elim
  |Za draw l=>
   cases draw
   .exact ab.region (Go.bt O f (.r _) _ h).runs
   .exact ab.E0 (Go.bt O f (.d l k) _ h).chain
  |loop a=>exact h
  |ej g ps a b=>exact h
  |regA l W2=>exact h
  |uM l e=>exact ab.uM (Go.bt O f (.d l (.ops e::k)) _ h).chain
  |bad=>exact h.elim
def ab.bt(O:Yp P)(f:Nat){todo:List It}{st:St}(h:step P O n f (.r todo) st Q):ab P n todo st Q:=(Go.bt O f (.r todo) st h).runs
section rules
variable (P:Program) (O:Yp P) (n:Nat) (f:Nat)
def exR(o:Option (List It))(st:St)(Q:St->Prop):Prop:=dy o λk'=>step P O n f (.r k') st Q
def cR(v:V)(a b:bG)(k:List It)(st:St)(Q:St->Prop):Prop:=dM v (λt=>both t true (step P O n f (.r (.code a::k)) st Q) (step P O n f (.r (.code b::k)) st Q)) False
def Nw(l:List aD)(k:List It)(d:Option Nat)(st:St)(Q:St->Prop)(o:Option V):Prop:=dy o λv=>step P O n f (.r (.ops l::k)) ⟨aQ st.s d v,st.U⟩ Q
def Ip(l:List aD)(k:List It)(d:Option Nat)(st:St)(Q:St->Prop)(o:Option ag):Prop:=dy o λZ'=>step P O n f (.r (.ops l::k)) ⟨aQ st.s d (.WJ []),Z'⟩ Q
def L5(l:List aD)(k:List It)(d:Option Nat)(st:St)(Q:St->Prop)(o:Option (Nat->V×ag)):Prop:=
 dy o λg=>∀id,st.U id=none->step P O n f (.r (.ops l::k)) ⟨aQ st.s d (g id).1,(g id).2⟩ Q
def ID(l:List aD)(k:List It)(d:Option Nat)(op:W5)(g:Option (VX×Bool))(st:St)(Q:St->Prop)(o:Option V):Prop:=
 AI o (λv=>step P O n f (.r (.ops l::k)) ⟨aQ st.s d v,st.U⟩ Q) (ab P n (.ops (⟨d,op,g⟩::l)::k) st Q)
def wF(q:Nat)(d:Option Nat)(op:W5)(g:Option (VX×Bool))(l:List aD)(k:List It)(st:St)(Q:St->Prop):Prop:=
 yr O q d op st (λst=>step P O n f (.r (.ops l::k)) st Q) (ab P n (.ops (⟨d,op,g⟩::l)::k) st Q)
def gR(v:V)(d:Option Nat)(op:W5)(x:VX)(b:Bool)(l:List aD)(k:List It)(st:St)(Q:St->Prop):Prop:=
 dM v (λc=>both c b (wF P O n f (bf op) d op (some (x,b)) l k (st.lit x (.bool b)) Q)
  (step P O n f (.r (.ops l::k)) ⟨aQ (st.lit x (.bool !b)).s d (.WJ []),(st.lit x (.bool !b)).U⟩ Q)) (step P O n f (.r (.ops l::k)) ⟨aQ st.s d (.WJ []),st.U⟩ Q)
def Nh(l:List aD)(k:List It)(d:Option Nat)(st:St)(Q:St->Prop)(o:Option V):Prop:=dy o λv=>step P O n f (.d l k) ⟨aQ st.s d v,st.U⟩ Q
def HE(l:List aD)(k:List It)(d:Option Nat)(st:St)(Q:St->Prop)(o:Option ag):Prop:=dy o λZ'=>step P O n f (.d l k) ⟨aQ st.s d (.WJ []),Z'⟩ Q
def HU(l:List aD)(k:List It)(d:Option Nat)(st:St)(Q:St->Prop)(o:Option (Nat->V×ag)):Prop:=
 dy o λg=>∀id,st.U id=none->step P O n f (.d l k) ⟨aQ st.s d (g id).1,(g id).2⟩ Q
def HX(l:List aD)(k:List It)(d:Option Nat)(op:W5)(g:Option (VX×Bool))(st:St)(Q:St->Prop)(o:Option V):Prop:=
 AI o (λv=>step P O n f (.d l k) ⟨aQ st.s d v,st.U⟩ Q) (Go P n (.d (⟨d,op,g⟩::l) k) st Q)
def x7(q:Nat)(d:Option Nat)(op:W5)(g:Option (VX×Bool))(l:List aD)(k:List It)(st:St)(Q:St->Prop):Prop:=
 yr O q d op st (λst=>step P O n f (.d l k) st Q) (Go P n (.d (⟨d,op,g⟩::l) k) st Q)
def gD(v:V)(d:Option Nat)(op:W5)(x:VX)(b:Bool)(l:List aD)(k:List It)(st:St)(Q:St->Prop):Prop:=
 dM v (λc=>both c b (x7 P O n f (bf op) d op (some (x,b)) l k (st.lit x (.bool b)) Q)
  (step P O n f (.d l k) ⟨aQ (st.lit x (.bool !b)).s d (.WJ []),(st.lit x (.bool !b)).U⟩ Q)) (step P O n f (.d l k) ⟨aQ st.s d (.WJ []),st.U⟩ Q)
variable {P O n} {f}
def yR(s:Nat->V)(d:Nat)(v:V)(i:Nat):aQ s (some d) v i=if i=d then v else s i:=rfl
def zg(s:Nat->V)(v:V)(i:Nat):aQ s none v i=s i:=rfl
def Nn(st:St)(d:Nat)(v:V):st.lit (.t d) v=⟨aQ st.s (some d) v,st.U⟩:=rfl
def Nu(st:St)(u v:V):st.lit (.c u) v=st:=rfl
def Sx(s:Nat->V)(d:Nat):VX.ev s (.t d)=s d:=rfl
def RR(s:Nat->V)(v:V):VX.ev s (.c v)=v:=rfl
def Kz(d:Option Nat)(op:W5)(g:Option (VX×Bool))(l:List aD):wF P O n f 0 d op g l k st Q=(ez st.s op/\Nw P O n f l k d st Q (aF st.U st.s op)):=rfl
def JC(d:Option Nat)(op:W5)(g:Option (VX×Bool))(l:List aD):wF P O n f 1 d op g l k st Q=ID P O n f l k d op g st Q (zo O st.s st.U op):=rfl
def JY(d:Option Nat)(op:W5)(g:Option (VX×Bool))(l:List aD):wF P O n f 2 d op g l k st Q=Ip P O n f l k d st Q (jW st.s st.U op):=rfl
def HC(d:Option Nat)(op:W5)(g:Option (VX×Bool))(l:List aD):wF P O n f 3 d op g l k st Q=L5 P O n f l k d st Q (Ze st.s st.U op):=rfl
def JS(d:Option Nat)(op:W5)(g:Option (VX×Bool))(l:List aD):wF P O n f 4 d op g l k st Q=ab P n (.ops (⟨d,op,g⟩::l)::k) st Q:=rfl
def wO(d:Option Nat)(op:W5)(g:Option (VX×Bool))(l:List aD)(v:V):ID P O n f l k d op g st Q (some v)=step P O n f (.r (.ops l::k)) ⟨aQ st.s d v,st.U⟩ Q:=rfl
def xu(d:Option Nat)(op:W5)(g:Option (VX×Bool))(l:List aD):ID P O n f l k d op g st Q none=ab P n (.ops (⟨d,op,g⟩::l)::k) st Q:=rfl
def BH(s:Nat->V)(U:ag)(fx:VX)(xs:List VX):zo O s U (.call fx xs)=match fx.ev s with
 |.fn f caps=>O.get f (xs.map (·.ev s)++caps) U
 |_=>none:=rfl
def Iq(d:Option Nat)(op:W5)(g:Option (VX×Bool))(l:List aD):x7 P O n f 0 d op g l k st Q=(ez st.s op/\Nh P O n f l k d st Q (aF st.U st.s op)):=rfl
def I9(d:Option Nat)(op:W5)(g:Option (VX×Bool))(l:List aD):x7 P O n f 1 d op g l k st Q=HX P O n f l k d op g st Q (zo O st.s st.U op):=rfl
def KG(d:Option Nat)(op:W5)(g:Option (VX×Bool))(l:List aD):x7 P O n f 2 d op g l k st Q=HE P O n f l k d st Q (jW st.s st.U op):=rfl
def Je(d:Option Nat)(op:W5)(g:Option (VX×Bool))(l:List aD):x7 P O n f 3 d op g l k st Q=HU P O n f l k d st Q (Ze st.s st.U op):=rfl
def vT(d:Option Nat)(op:W5)(g:Option (VX×Bool))(l:List aD)(v:V):HX P O n f l k d op g st Q (some v)=step P O n f (.d l k) ⟨aQ st.s d v,st.U⟩ Q:=rfl
def xU(d:Option Nat)(op:W5)(g:Option (VX×Bool))(l:List aD):HX P O n f l k d op g st Q none=Go P n (.d (⟨d,op,g⟩::l) k) st Q:=rfl
def FP:step P O n (f+1) (.r []) st Q=Q st:=rfl
def CO(μ:St->Prop):step P O n (f+1) (.r (.stop μ::k)) st Q=μ st:=rfl
def tT(id:Nat):step P O n (f+1) (.r (.inBlock id::k)) st Q=step P O n f (.r k) st Q:=rfl
def tD:step P O n (f+1) (.r (.ops []::k)) st Q=step P O n f (.r k) st Q:=rfl
def C2:step P O n (f+1) (.r (.code .skip::k)) st Q=step P O n f (.r k) st Q:=rfl
def E8(a b:bG):step P O n (f+1) (.r (.code (.seq a b)::k)) st Q=step P O n f (.r (.code a::.code b::k)) st Q:=rfl
def yF(id:Nat)(a:bG):step P O n (f+1) (.r (.code (.block id a)::k)) st Q=step P O n f (.r (.code a::.inBlock id::k)) st Q:=rfl
def CX(id:Nat):step P O n (f+1) (.r (.code (.exit id)::k)) st Q=exR P O n f (jB id k) st Q:=rfl
def CT(k':List It):exR P O n f (some k') st Q=step P O n f (.r k') st Q:=rfl
def Fg:step P O n (f+1) (.r (.code .ret::k)) st Q=Q st:=rfl
def Dg(a:bG):step P O n (f+1) (.r (.code (.loop a)::k)) st Q=ab P n (.code (.loop a)::k) st Q:=rfl
def Cg(l e:List aD):step P O n (f+1) (.r (.code (.uM l e)::k)) st Q=step P O n f (.d l (.ops e::k)) st Q:=rfl
def cK(l:List aD)(W2:List (List Nat)):step P O n (f+1) (.r (.code (.regA l W2)::k)) st Q=ab P n (.code (.regA l W2)::k) st Q:=rfl
def wm(g:VX)(ps:List Nat)(a b:bG):step P O n (f+1) (.r (.code (.ej g ps a b)::k)) st Q=ab P n (.code (.ej g ps a b)::k) st Q:=rfl
def FZ(l:List aD):step P O n (f+1) (.r (.code (.Za false l)::k)) st Q=step P O n f (.r (.ops l::k)) st Q:=rfl
def BE(l:List aD):step P O n (f+1) (.r (.code (.Za true l)::k)) st Q=step P O n f (.d l k) st Q:=rfl
def Fk:step P O n (f+1) (.d [] k) st Q=step P O n f (.r k) st Q:=rfl
def Db(c:VX)(a b:bG):step P O n (f+1) (.r (.code (.cond c a b)::k)) st Q=cR P O n f (c.ev st.s) a b k st Q:=rfl
def SX(a b:bG):cR P O n f (.bool true) a b k st Q=step P O n f (.r (.code a::k)) st Q:=by simp[cR,dM,both]
def SC(a b:bG):cR P O n f (.bool false) a b k st Q=step P O n f (.r (.code b::k)) st Q:=by simp[cR,dM,both]
def HH(p:Prop)[Decidable p](a b:bG):cR P O n f (.bool (decide p)) a b k st Q=((p->step P O n f (.r (.code a::k)) st Q)/\(¬p->step P O n f (.r (.code b::k)) st Q)):=by simp[cR,dM,both]
def FF(d:Option Nat)(op:W5)(l:List aD):step P O n (f+1) (.r (.ops (⟨d,op,none⟩::l)::k)) st Q=wF P O n f (bf op) d op none l k st Q:=rfl
def wJ(d:Option Nat)(l:List aD)(v:V):Nw P O n f l k d st Q (some v)=step P O n f (.r (.ops l::k)) ⟨aQ st.s d v,st.U⟩ Q:=rfl
def tu(d:Option Nat)(l:List aD)(Z':ag):Ip P O n f l k d st Q (some Z')=step P O n f (.r (.ops l::k)) ⟨aQ st.s d (.WJ []),Z'⟩ Q:=rfl
def bK(d:Option Nat)(l:List aD)(g:Nat->V×ag):L5 P O n f l k d st Q (some g)=∀id,st.U id=none->step P O n f (.r (.ops l::k)) ⟨aQ st.s d (g id).1,(g id).2⟩ Q:=rfl
def EU(d:Option Nat)(op:W5)(l:List aD):step P O n (f+1) (.d (⟨d,op,none⟩::l) k) st Q=x7 P O n f (bf op) d op none l k st Q:=rfl
def xr(d:Option Nat)(l:List aD)(v:V):Nh P O n f l k d st Q (some v)=step P O n f (.d l k) ⟨aQ st.s d v,st.U⟩ Q:=rfl
def tH(d:Option Nat)(l:List aD)(Z':ag):HE P O n f l k d st Q (some Z')=step P O n f (.d l k) ⟨aQ st.s d (.WJ []),Z'⟩ Q:=rfl
def fC(d:Option Nat)(l:List aD)(g:Nat->V×ag):HU P O n f l k d st Q (some g)=∀id,st.U id=none->step P O n f (.d l k) ⟨aQ st.s d (g id).1,(g id).2⟩ Q:=rfl
def BY(d:Option Nat)(op:W5)(x:VX)(b:Bool)(l:List aD):step P O n (f+1) (.r (.ops (⟨d,op,some (x,b)⟩::l)::k)) st Q=gR P O n f (x.ev st.s) d op x b l k st Q:=rfl
def HB(d:Option Nat)(op:W5)(x:VX)(b:Bool)(l:List aD):gR P O n f (.WJ []) d op x b l k st Q=step P O n f (.r (.ops l::k)) ⟨aQ st.s d (.WJ []),st.U⟩ Q:=rfl
def Nc(d:Option Nat)(op:W5)(x:VX)(l:List aD):gR P O n f (.bool true) d op x true l k st Q=wF P O n f (bf op) d op (some (x,true)) l k (st.lit x (.bool true)) Q:=by simp[gR,dM,both]
def Ns(d:Option Nat)(op:W5)(x:VX)(l:List aD):gR P O n f (.bool false) d op x false l k st Q=wF P O n f (bf op) d op (some (x,false)) l k (st.lit x (.bool false)) Q:=by simp[gR,dM,both]
def NC(d:Option Nat)(op:W5)(x:VX)(l:List aD):gR P O n f (.bool true) d op x false l k st Q=step P O n f (.r (.ops l::k)) ⟨aQ (st.lit x (.bool true)).s d (.WJ []),(st.lit x (.bool true)).U⟩ Q:=by simp[gR,dM,both]
def Nj(d:Option Nat)(op:W5)(x:VX)(l:List aD):gR P O n f (.bool false) d op x true l k st Q=step P O n f (.r (.ops l::k)) ⟨aQ (st.lit x (.bool false)).s d (.WJ []),(st.lit x (.bool false)).U⟩ Q:=by simp[gR,dM,both]
def Dh(p:Prop)[Decidable p](d:Option Nat)(op:W5)(x:VX)(l:List aD):gR P O n f (.bool (decide p)) d op x true l k st Q=
 ((p->wF P O n f (bf op) d op (some (x,true)) l k (st.lit x (.bool true)) Q)/\(¬p->step P O n f (.r (.ops l::k)) ⟨aQ (st.lit x (.bool false)).s d (.WJ []),(st.lit x (.bool false)).U⟩ Q)):=by simp[gR,dM,both]
def CY(p:Prop)[Decidable p](d:Option Nat)(op:W5)(x:VX)(l:List aD):gR P O n f (.bool (decide p)) d op x false l k st Q=
 ((¬p->wF P O n f (bf op) d op (some (x,false)) l k (st.lit x (.bool false)) Q)/\(p->step P O n f (.r (.ops l::k)) ⟨aQ (st.lit x (.bool true)).s d (.WJ []),(st.lit x (.bool true)).U⟩ Q)):=by simp[gR,dM,both]
def B5(d:Option Nat)(op:W5)(x:VX)(b:Bool)(l:List aD):step P O n (f+1) (.d (⟨d,op,some (x,b)⟩::l) k) st Q=gD P O n f (x.ev st.s) d op x b l k st Q:=rfl
def IN(d:Option Nat)(op:W5)(x:VX)(b:Bool)(l:List aD):gD P O n f (.WJ []) d op x b l k st Q=step P O n f (.d l k) ⟨aQ st.s d (.WJ []),st.U⟩ Q:=rfl
def NA(d:Option Nat)(op:W5)(x:VX)(l:List aD):gD P O n f (.bool true) d op x true l k st Q=x7 P O n f (bf op) d op (some (x,true)) l k (st.lit x (.bool true)) Q:=by simp[gD,dM,both]
def Nv(d:Option Nat)(op:W5)(x:VX)(l:List aD):gD P O n f (.bool false) d op x false l k st Q=x7 P O n f (bf op) d op (some (x,false)) l k (st.lit x (.bool false)) Q:=by simp[gD,dM,both]
def Ng(d:Option Nat)(op:W5)(x:VX)(l:List aD):gD P O n f (.bool true) d op x false l k st Q=step P O n f (.d l k) ⟨aQ (st.lit x (.bool true)).s d (.WJ []),(st.lit x (.bool true)).U⟩ Q:=by simp[gD,dM,both]
def Na(d:Option Nat)(op:W5)(x:VX)(l:List aD):gD P O n f (.bool false) d op x true l k st Q=step P O n f (.d l k) ⟨aQ (st.lit x (.bool false)).s d (.WJ []),(st.lit x (.bool false)).U⟩ Q:=by simp[gD,dM,both]
def CA(p:Prop)[Decidable p](d:Option Nat)(op:W5)(x:VX)(l:List aD):gD P O n f (.bool (decide p)) d op x true l k st Q=
 ((p->x7 P O n f (bf op) d op (some (x,true)) l k (st.lit x (.bool true)) Q)/\(¬p->step P O n f (.d l k) ⟨aQ (st.lit x (.bool false)).s d (.WJ []),(st.lit x (.bool false)).U⟩ Q)):=by simp[gD,dM,both]
def CU(p:Prop)[Decidable p](d:Option Nat)(op:W5)(x:VX)(l:List aD):gD P O n f (.bool (decide p)) d op x false l k st Q=
 ((¬p->x7 P O n f (bf op) d op (some (x,false)) l k (st.lit x (.bool false)) Q)/\(p->step P O n f (.d l k) ⟨aQ (st.lit x (.bool true)).s d (.WJ []),(st.lit x (.bool true)).U⟩ Q)):=by simp[gD,dM,both]
end rules
def aK(P:Program)(f:FuncId)(args:List V)(v:V):Prop:=∀U,ax P f args U λr Z'=>r=v/\Z'=U
variable {P:Program} {n:Nat} {st:St} {Q:St->Prop} {k:List It}
def kY:ag:=λ_=>none
def re(U:ag):aa kY U:=λ_ _ h=>by simp[kY]at h
def V.lone:V->Bool
 |.int ..|.bool _|.str _=>true
 |_=>false
def E'.lone{I Y':Mu}{ow Zu:Nat->Prop}{w w':World}{v:V}{x:Value}(hv:v.lone=true)(h:E' I ow w v x):E' Y' Zu w' v x:=by
 cases v<;>simp only[V.lone,fG]at hv<;>simpa[E']using h
def ak(v:V)(U:ag)(Post:V->ag->Prop):Prop:=∃v' Z',aa Z' U/\Wk U Z' v v'/\Post v' Z'
def Fs{s:Nat->V}{U:ag}{d:Nat}{Post:V->ag->Prop}:Ret [.tmp (.t d)] ⟨s,U⟩ Post=ak (s d) U Post:=by
 apply propext;simp only[Ret,ak,oN,eJ,gE,VX.ev];constructor
 .rintro⟨v,v',Z',h1,h2⟩;simp only[aI]at h1;subst h1;exact⟨v',Z',h2⟩
 .rintro⟨v',Z',h2⟩;exact⟨_,v',Z',rfl,h2⟩
def FQ{s:Nat->V}{U:ag}{d e:Nat}{Post:V->ag->Prop}:Ret [.tmp (.t d),.tmp (.t e)] ⟨s,U⟩ Post=ak (.WJ [s d,s e]) U Post:=by
 apply propext;simp only[Ret,ak,oN,eJ,gE,VX.ev];constructor
 .rintro⟨v,v',Z',h1,h2⟩;simp only[aI]at h1;subst h1;exact⟨v',Z',h2⟩
 .rintro⟨v',Z',h2⟩;exact⟨_,v',Z',rfl,h2⟩
def yD{s:Nat->V}{U:ag}{d e g:Nat}{Post:V->ag->Prop}:Ret [.tmp (.t d),.tmp (.t e),.tmp (.t g)] ⟨s,U⟩ Post=ak (.WJ [s d,s e,s g]) U Post:=by
 apply propext;simp only[Ret,ak,oN,eJ,gE,VX.ev];constructor
 .rintro⟨v,v',Z',h1,h2⟩;simp only[aI]at h1;subst h1;exact⟨v',Z',h2⟩
 .rintro⟨v',Z',h2⟩;exact⟨_,v',Z',rfl,h2⟩
def xg{st:St}{Post:V->ag->Prop}:Ret [] st Post=ak (.WJ []) st.U Post:=by
 apply propext;simp only[Ret,ak,oN,eJ];constructor
 .rintro⟨v,v',Z',h1,h2⟩;simp only[aI]at h1;subst h1;exact⟨v',Z',h2⟩
 .rintro⟨v',Z',h2⟩;exact⟨_,v',Z',rfl,h2⟩
def ak.pure{v v0:V}{U Z1:ag}(h:aa U Z1)(hv:v=v0):ak v Z1 λr Z'=>r=v0/\Z'=U:=
 ⟨v,U,h,Wk.refl h v,hv,rfl⟩
def ak.same{v v0:V}{U:ag}(hv:v=v0):ak v U λr Z'=>r=v0/\Z'=U:=.pure (aa.refl U) hv
def fT{U:ag}{id i:Nat}{o:Ob}:C' U id o i=none↔i≠id/\U i=none:=by
 unfold C';split<;>simp_all
def af{U:ag}{id:Nat}{o:Ob}:C' U id o id=some o:=by simp[C']
def ae{U:ag}{id i:Nat}{o:Ob}(h:i≠id):C' U id o i=U i:=by simp[C',h]
def dg{U:ag}{id i:Nat}(h:i≠id):del U id i=U i:=by simp[del,h]
def FK{U:ag}{id:Nat}{a b:Ob}:C' (C' U id a) id b=C' U id b:=by
 funext i;simp only[C'];split<;>rfl
def Fe{U:ag}{id:Nat}{a:Ob}(h:U id=none):del (C' U id a) id=U:=by
 funext i;simp only[del,C'];split
 .rename_i e;rw[e,h]
 .rfl
def aa.C'{Z' U:ag}{id:Nat}{o:Ob}(h:aa Z' U)(P':U id=none):aa Z' (Vc.C' U id o):=
 h.Ma (by
  cases hs:Z' id with
  |none=>rfl
  |some x=>have:=h id x hs;rw[P']at this;cases this)
def aa.Oc{U Z':ag}{id:Nat}{o:Ob}(h:aa U Z'):aa (Vc.C' U id o) (Vc.C' Z' id o):=λi x hx=>by
 simp only[Vc.C']at hx|-;split at hx
 .rename_i e;rw[aq e];exact hx
 .rename_i e;rw[ao e];exact h i x hx
variable {P:Program} {n:Nat} {st:St} {Q:St->Prop} {k:List It} {I:Mu} {w:World}
def yT{rows:List V}{sz:Nat}(h:∀r∈rows,r.cells.length=sz)(k:Nat):flat (rows.drop k)=(flat rows).drop (k*sz):=by
 induction rows generalizing k with
 |nil=>simp[flat]
 |cons r rs ih=>
  have e:∀l,flat (r::l)=r.cells++flat l:=λl=>by simp[flat]
  cases k with
  |zero=>simp[flat]
  |succ k=>
   rw[Em,e,ih (λx hx=>h x (by simp[hx])),Nat.add_mul,Nat.one_mul,DK,<-h r (by simp),<-List.drop_drop,List.drop_left]
def ar.replicate{ow:Nat->Prop}{vs:List V}{l:List Value}(h:ar I ow w vs l):∀n,ar I ow w (List.replicate n vs).flatten (List.replicate n l).flatten
 |0=>by simp[ar]
 |n+1=>by
  simp only[List.replicate_succ,List.flatten_cons];exact h.append (ar.replicate h n)
def C8{F:Fr}{a:Act}(hs:cQ F I st a w){o:Oper}{x:Operand}{t e:TypeId}{args:Array Operand}{argTypes:Array TypeId}{i:TypeInfo}{z:Value}
 (hoo:o.op=.call { callee:=.builtin .clear,args:=args,argTypes:=argTypes })(harg:args=#[x])(hty:argTypes[0]?=some t)
 (ht:P.underlying t=some (.slice e))(hz:zeroOf P e=some (i,z)){id off len:Nat}(h1:(cx F.n x).ev st.s=.own id off len){ob:Ob}(h2:st.U id=some ob)
 (h3:ob.sz=i.size)(h4:off+len<=ob.rows.length):
 ∃y w',(execOp a.eval o).run P w=.ok (.value y) w'/\
  cQ F I ⟨aQ st.s (o.dst.filter (·<F.n)) (.WJ []),C' st.U id { ob with rows:=ob.rows.take off++List.replicate len (ofValue z)++ob.rows.drop (off+len) }⟩ (a.put o.dst y) w':=by
 obtain⟨hi,hz0,hk,hzs,Yo,Zb⟩:=eH hz;have R:=bU hs;have hx:=R x;rw[h1]at hx;simp only[E']at hx;have Xi:∀w',(Builtin.clear_ argTypes o.type #[a.eval x]).run P w=.ok (.tuple #[]) w'->(execOp a.eval o).run P w=.ok (.value (.tuple #[])) w':=by
  intro w' hw';unfold execOp;rw[hoo];simp[resolve,invoke,Go.builtin,harg,hw']
 have Zn:E' I (az I st.U) w (.WJ []) (.tuple #[]):=by simp only[E'];exact⟨[],rfl,by simp[ar]⟩
 have hzero:len=0->∃y w',(execOp a.eval o).run P w=.ok (.value y) w'/\
  cQ F I ⟨aQ st.s (o.dst.filter (·<F.n)) (.WJ []),C' st.U id { ob with rows:=ob.rows.take off++List.replicate len (ofValue z)++ob.rows.drop (off+len) }⟩ (a.put o.dst y) w':=by
  intro h0;subst h0;have hX:∃b c,a.eval x=.slice b 0 c:=by
   split at hx
   .exact hx.elim
   .exact⟨_,_,hx.1⟩
   .obtain⟨o',c,h,_⟩:=hx;exact⟨_,_,h⟩
  obtain⟨b,c,hX⟩:=hX;have WY:C' st.U id { ob with rows:=ob.rows.take off++List.replicate 0 (ofValue z)++ob.rows.drop (off+0) }=st.U:=by
   funext j;simp only[C',List.replicate_zero,lO,Nat.add_zero,uR];split
   .rename_i e';rw[e',h2]
   .rfl
  rw[WY];refine⟨.tuple #[],w,Xi w ?_,hs.pure Zn⟩;rw[hX];cases b<;>simp[Builtin.clear_,hty,run_underlying ht]
 split at hx
 .exact hx.elim
 .exact hzero hx.2.2
 .rename_i b szb cap P';obtain⟨o',c,hX,c1,c2,c3,hz0⟩:=hx;by_cases h0:len=0
  .exact hzero h0
  have Xz:=hs.sat.obj id ob h2;rw[P']at Xz;obtain⟨cur,e1,e2,e3,e4,e5,e6,e7⟩:=Xz.plain hz0;obtain⟨g1,xs,g2,g3,g4,g5⟩:=e7.cur e1;have hoff:o'=off*szb:=by
   rcases c3 with c3|c3
   .exact c3
   .omega
  subst hoff;have WT:szb=i.size:=by omega
  subst WT;have hzl:z.cells.size=i.size:=hzs;have hnews:=kz z.cells len;have hnl:(Builtin.zeroCells z.cells len).toList.length=len*i.size:=by rw[hnews];simp[hzl]
  have hbound:off*i.size+len*i.size<=ob.rows.length*i.size:=by rw[<-Nat.add_mul];exact Nat.mul_le_mul_right _ h4
  have hbound2:ob.rows.length*i.size<=cap*i.size:=Nat.mul_le_mul_right _ e5;have hone':∀u∈(Builtin.zeroCells z.cells len).toList,u.oneCell'=true:=by
   rw[hnews];intro u hu;simp only[List.mem_flatten,List.mem_replicate]at hu;obtain⟨l,⟨_,rfl⟩,hu⟩:=hu;exact Yo u hu
  have WY:=run_storeCells_at P b (off*i.size) ob.elem (Builtin.zeroCells z.cells len).toList 0 cur w e1 (by rw[hnl];omega) hone';simp only[Nat.add_zero]at WY;refine⟨.tuple #[],w.setRow b (cur.toList.take (off*i.size)++(Builtin.zeroCells z.cells len).toList++cur.toList.drop (off*i.size+(Builtin.zeroCells z.cells len).toList.length)).toArray,Xi _ ?_,?_⟩
  .rw[hX];obtain⟨m,rfl⟩:∃m,len=m+1:=⟨len-1,by omega⟩
   simp only[Builtin.clear_,hty,Sem.run_bind,List.getElem?_toArray,Sem.run_pure,Result.andThen_ok,run_underlying ht,dP hz];simp[WY,run_underlying ht,dP hz]
  .have hgrow:w.grownBy (w.setRow b (cur.toList.take (off*i.size)++(Builtin.zeroCells z.cells len).toList++cur.toList.drop (off*i.size+(Builtin.zeroCells z.cells len).toList.length)).toArray) (some b):=
    ⟨rfl,rfl,rfl,by simp,λkk _ hkk=>setRow_other w b kk _ (λe=>hkk (by rw[e]))⟩
   have hzc:(ofValue z).cells.length=i.size:=by rw[gS Yo];simp[hzl]
   have hrows':∀q∈ob.rows.take off++List.replicate len (ofValue z)++ob.rows.drop (off+len),q.cells.length=i.size:=by
    intro q hq;simp only[dD]at hq;rcases hq with(hq|hq)|hq
    .exact g1 q (qp hq)
    .rw[(List.mem_replicate.1 hq).2];exact hzc
    .exact g1 q (List.mem_of_mem_drop hq)
   have hflat:flat (ob.rows.take off++List.replicate len (ofValue z)++ob.rows.drop (off+len))=
    (flat ob.rows).take (off*i.size)++(List.replicate len (ofValue z).cells).flatten++(flat ob.rows).drop (off*i.size+len*i.size):=by
    rw[ic,ic,wR,sD g1];congr 1;rw[yT g1,Nat.add_mul]
   have hzr:ar I (az I st.U) w (ofValue z).cells z.cells.toList:=by rw[gS Yo];exact fg _
   have hch:=hs.sat.change h2 P' (by omega) hgrow _ (ob.rows.take off++List.replicate len (ofValue z)++ob.rows.drop (off+len)) (xs.take (off*i.size)++(Builtin.zeroCells z.cells len).toList++xs.drop (off*i.size+(Builtin.zeroCells z.cells len).toList.length))
    (setRow_heap w b cur _ ob.elem _ e1) (by simp only[List.size_toArray,iz,gO,oG,hnl];rw[Array.length_toList];omega) (by simp;omega) hrows'
    (by rw[hflat,hnl,hnews];exact((g2.take _).append (hzr.replicate len)).append (g2.drop _))
    (by intro u hu
        simp only[dD]at hu;rcases hu with(hu|hu)|hu
        .exact g3 u (qp hu)
        .exact hone' u hu
        .exact g3 u (List.mem_of_mem_drop hu))
    (by intro j u hu
        have:=lJ cur.toList xs _ g5 (off*i.size) (by rw[hnl,g4];omega) j u hu;simpa using this)
   exact hs.step hch.1 (cI.refl _) hch.2 (by simp) (by simp only[E'];exact⟨[],rfl,by simp[ar]⟩)
def ab.clear{i:aD}{l:List aD}{sz:Nat}{z:V}{xv:VX}(hw:aZ st.s i.g=some true)(ho:i.op=.clear sz z xv)
 {id off len:Nat}(h1:xv.ev st.s=.own id off len){ob:Ob}(h2:st.U id=some ob)(h3:ob.sz=sz)(h4:off+len<=ob.rows.length)
 (h:ab P n (.ops l::k) ⟨aQ st.s i.dst (.WJ []),C' st.U id { ob with rows:=ob.rows.take off++List.replicate len z++ob.rows.drop (off+len) }⟩ Q):ab P n (.ops (i::l)::k) st Q:=by
 refine ab.ins (by rw[ho];simp) hw λF hn I a w o all hi hs next Q' WK=>?_
 subst hn;obtain⟨WN,hd⟩:=cW hi;rw[ho]at WN;obtain⟨x,t,e,args,argTypes,ti,zv,g1,g2,g3,g4,g5,rfl,rfl,rfl⟩:=Hs WN;obtain⟨y,w',hx,WT⟩:=C8 hs g1 g2 g3 g4 g5 h1 h2 h3 h4;unfold Oper.wp;rw[hx];refine WK _ _ _ ⟨I,?_⟩ h;rw[<-hd];exact WT
def wL{y:Operand}{t:TypeId}{v:V}:cx n y≠.c (.iface t v):=by
 cases y
 case tmp m=>simp only[cx];split<;>simp
 case const u=>
  simp only[cx,ne_eq,VX.c.injEq];unfold ofValue;split
  .split<;>simp
  .unfold cellOf
   repeat' split
   all_goals simp
 all_goals simp[cx]
def Cd{o:Op}{xa:VX}(h:WX P n o=.YU false xa (.c (.iface 0 .undef))):∃t x y m c yt e,o=.binOp .eql t x y yt/\y=.const (.slice none m c)/\P.underlying t=some (.slice e)/\cx n x=xa:=by
 cases o
 case binOp op t x y yt=>
  simp only[WX]at h;split at h
  .cases op<;>simp only[reduceCtorEq,W5.YU.injEq,Bool.true_eq_false,false_and]at h;exact absurd h.2.2 wL
  .split at h
   .cases op<;>simp only[reduceCtorEq]at h
   .cases h
  .split at h
   .rename_i hs;unfold cy at h;split at h
    .rename_i hy;obtain⟨rfl,hy⟩:=hy;simp only[W5.YU.injEq,and_true,true_and]at h;unfold AL at hs;split at hs
     .rename_i e ht;unfold Gx Sd at hy;split at hy
      .split at hy
       .exact⟨t,x,_,_,_,yt,e,rfl,rfl,ht,h⟩
       .cases hy
      .cases hy
     .cases hs
    .cases h
   .split at h
    .split at h
     .simp only[W5.YU.injEq,VX.c.injEq,V.iface.injEq]at h;exact absurd h.2.2.1 (by decide)
     .cases h
    .split at h
     .split at h
      .simp only[W5.YU.injEq,VX.c.injEq,V.iface.injEq]at h;exact absurd h.2.2.1 (by decide)
      .cases h
     ·(repeat' split at h)<;>cases h
 case call c=>
  obtain⟨callee,args,argTypes⟩:=c;cases callee
  case builtin b=>cases b<;>simp only[WX]at h<;>(repeat' split at h)<;>cases h
  all_goals (simp only[WX]at h;cases h)
 case unOp op t x=>cases op<;>simp only[WX]at h<;>cases h
 case makeFunc f a b=>cases f<;>simp only[WX]at h<;>(repeat' split at h)<;>cases h
 all_goals (simp only[WX]at h;(repeat' split at h)<;>cases h)
def ab.Gx{i:aD}{l:List aD}{xa:VX}(hw:aZ st.s i.g=some true)(ho:i.op=.YU false xa (.c (.iface 0 .undef))){sz:Nat}{rows:List V}
 (hx:xa.ev st.s=.sl sz rows)(h:∀b,(b=true->rows=[])->ab P n (.ops l::k) ⟨aQ st.s i.dst (.bool b),st.U⟩ Q):ab P n (.ops (i::l)::k) st Q:=by
 refine ab.ins (by rw[ho];simp) hw λF hn I a w o all hi hs next Q' WK=>?_
 subst hn;obtain⟨WN,hd⟩:=cW hi;rw[ho]at WN;obtain⟨t,x,y,m,c,yt,e,g1,rfl,g2,rfl⟩:=Cd WN;have R:=bU hs x;rw[hx]at R;simp only[E']at R;obtain⟨ba,cap,hX,_,hr⟩:=R;have Xi:(execOp a.eval o).run P w=.ok (.value (.bool ba.isNone)) w:=by
  unfold execOp;rw[g1];have hY:a.eval (.const (.slice none m c))=.slice none m c:=rfl;simp[hX,hY,eqGuard,Lib.run_eql_slice_nil w t e ba rows.length cap m c g2]
 unfold Oper.wp;rw[Xi];refine WK _ _ _ ⟨I,?_⟩ (h ba.isNone ?_)
 .rw[<-hd];exact hs.pure (by simp[E'])
 .intro hb;rcases hr with hr|⟨b,off,rfl,_⟩
  .exact hr
  .cases hb
def JP{o:Op}{xa:VX}{neg:Bool}(h:WX P n o=.YU neg xa (.c (.iface 2 .undef))):∃op t x yt p r vr,o=.binOp op t x (.const .nilFunc) yt/\((op=.eql/\neg=false)\/(op=.neq/\neg=true))/\P.underlying t=some (.func p r vr)/\cx n x=xa:=by
 cases o
 case binOp op t x y yt=>
  simp only[WX]at h;split at h
  .cases op<;>simp only[reduceCtorEq,W5.YU.injEq]at h
   .exact absurd h.2.2 wL
   .exact absurd h.2.2 wL
  .split at h
   .cases op<;>simp only[reduceCtorEq]at h
   .cases h
  .split at h
   .unfold cy at h;split at h
    .simp only[W5.YU.injEq,VX.c.injEq,V.iface.injEq]at h;exact absurd h.2.2.1 (by decide)
    .cases h
   .split at h
    .split at h
     .simp only[W5.YU.injEq,VX.c.injEq,V.iface.injEq]at h;exact absurd h.2.2.1 (by decide)
     .cases h
    .split at h
     .rename_i hs;split at h
      .rename_i hy;obtain⟨ho,hy⟩:=hy;simp only[W5.YU.injEq,and_true]at h;unfold Nx at hs;split at hs
       .rename_i p r vr ht;unfold Nb at hy;split at hy
        .rcases ho with rfl|rfl
         .exact⟨.eql,t,x,yt,p,r,vr,rfl,.inl ⟨rfl,h.1.symm⟩,ht,h.2⟩
         .exact⟨.neq,t,x,yt,p,r,vr,rfl,.inr ⟨rfl,h.1.symm⟩,ht,h.2⟩
        .cases hy
       .cases hs
      .cases h
     ·(repeat' split at h)<;>cases h
 case call c=>
  obtain⟨callee,args,argTypes⟩:=c;cases callee
  case builtin b=>cases b<;>simp only[WX]at h<;>(repeat' split at h)<;>cases h
  all_goals (simp only[WX]at h;cases h)
 case unOp op t x=>cases op<;>simp only[WX]at h<;>cases h
 case makeFunc f a b=>cases f<;>simp only[WX]at h<;>(repeat' split at h)<;>cases h
 all_goals (simp only[WX]at h;(repeat' split at h)<;>cases h)
def Dw{t:TypeId}{p r:Array TypeId}{vr:Bool}(w:World)(ht:P.underlying t=some (.func p r vr))(x:Value)(b:Bool)(hx:(x=.nilFunc/\b=true)\/(∃f q c,x=.func f q c)/\b=false):
 (binOp .eql t x .nilFunc).run P w=.ok (.bool b) w/\(binOp .neq t x .nilFunc).run P w=.ok (.bool (!b)) w:=by
 have he:(Op.equal t x .nilFunc).run P w=.ok b w:=by
  unfold Op.equal;rw[show Op.maxDepth=9999+1 from rfl];generalize 9999=d;rcases hx with⟨rfl,rfl⟩|⟨⟨f,q,c,rfl⟩,rfl⟩
  .simp[Op.equalIn,run_underlying ht]
  .simp[Op.equalIn,run_underlying ht]
 rcases hx with⟨rfl,rfl⟩|⟨⟨f,q,c,rfl⟩,rfl⟩
 .exact⟨by simp[binOp,he],by simp[binOp,he]⟩
 .exact⟨by simp[binOp,he],by simp[binOp,he]⟩
def ab.Sk{i:aD}{l:List aD}{xa:VX}{neg:Bool}(hw:aZ st.s i.g=some true)(ho:i.op=.YU neg xa (.c (.iface 2 .undef))){b:Bool}
 (hx:(xa.ev st.s=.Xu/\b=true)\/∃f caps,xa.ev st.s=.fn f caps/\b=false)(h:ab P n (.ops l::k) ⟨aQ st.s i.dst (.bool (b != neg)),st.U⟩ Q):ab P n (.ops (i::l)::k) st Q:=by
 refine ab.ins (by rw[ho];simp) hw λF hn I a w o all hi hs next Q' WK=>?_
 subst hn;obtain⟨WN,hd⟩:=cW hi;rw[ho]at WN;obtain⟨op,t,x,yt,p,r,vr,g1,g2,g3,rfl⟩:=JP WN;have R:=bU hs x;have hY:a.eval (.const .nilFunc)=.nilFunc:=rfl;have Xi:(execOp a.eval o).run P w=.ok (.value (.bool (b != neg))) w:=by
  unfold execOp;rw[g1];have hX:(a.eval x=.nilFunc/\b=true)\/(∃f q c,a.eval x=.func f q c)/\b=false:=by
   rcases hx with⟨hx,rfl⟩|⟨f,caps,hx,rfl⟩
   .rw[hx]at R;simp only[E']at R;exact .inl ⟨R,rfl⟩
   .rw[hx]at R;simp only[E']at R;obtain⟨y,hy,_⟩:=R;exact .inr ⟨⟨_,_,_,hy⟩,rfl⟩
  obtain⟨q1,q2⟩:=Dw w g3 (a.eval x) b hX;have hg:∀op,(eqGuard op t x (.const .nilFunc) (a.eval x) .nilFunc).run P w=.ok () w:=by
   intro op;rcases hX with⟨h1,_⟩|⟨⟨f,q,c,h1⟩,_⟩<;>rw[h1]<;>simp[eqGuard]
  rcases g2 with⟨rfl,rfl⟩|⟨rfl,rfl⟩
  .simp[hY,hg,q1]
  .simp[hY,hg,q2]
 unfold Oper.wp;rw[Xi];refine WK _ _ _ ⟨I,?_⟩ h;rw[<-hd];exact hs.pure (by simp[E'])
variable {P:Program} {n:Nat} {st:St} {Q:St->Prop} {k:List It}
def Fy(l:List Nat)(s:Nat->V):Nat->V:=λi=>if l.contains i then s i else .undef
def Dj(l:List Nat)(s:Nat->V)(i:Nat):Fy l s i=if l.contains i then s i else .undef:=rfl
def mix(m:Nat)(a b:Nat->V):Nat->V:=λi=>if i<m then a i else b i
def Fb(m:Nat)(a b:Nat->V)(i:Nat):mix m a b i=if i<m then a i else b i:=rfl
def JB(m:Nat)(s:Nat->V):mix m s s=s:=by funext i;simp[mix]
def rP(s:Nat->V)(v:V):aQ s none v=s:=rfl
def EE{m d:Nat}(h:d<m)(a b:Nat->V)(v:V):aQ (mix m a b) (some d) v=mix m (aQ a (some d) v) b:=by
 funext i;simp only[aQ,mix];split
 .rename_i e;subst e;simp[h]
 .split<;>rfl
def FO{m d:Nat}(h:m<=d)(a b:Nat->V)(v:V):aQ (mix m a b) (some d) v=mix m a (aQ b (some d) v):=by
 funext i;simp only[aQ,mix];split
 .rename_i e;subst e;simp[Nat.not_lt.2 h]
 .split<;>rfl
def ab.mix(m:Nat){todo:List It}{s:Nat->V}{U:ag}(h:ab P n todo ⟨Vc.mix m s s,U⟩ Q):ab P n todo ⟨s,U⟩ Q:=by
 rw[JB]at h;exact h
def ra{s:Nat->V}{U:ag}{agg:Bool}{sz d:Nat}{Post:V->ag->Prop}:
 Ret [.cell agg sz (.t d)] ⟨s,U⟩ Post=dy (bF U agg sz (s d)) λv=>ak v U Post:=by
 unfold Ret ak oN;simp only[eJ,gE,VX.ev];cases bF U agg sz (s d)<;>simp[dy]
def qP{s:Nat->V}{U:ag}{agg:Bool}{sz d e:Nat}{Post:V->ag->Prop}:
 Ret [.cell agg sz (.t d),.tmp (.t e)] ⟨s,U⟩ Post=dy (bF U agg sz (s d)) λv=>ak (.WJ [v,s e]) U Post:=by
 unfold Ret ak oN;simp only[eJ,gE,VX.ev];cases bF U agg sz (s d)<;>simp[dy]
def aa.av{Z0 U:ag}{id:Nat}{o:Ob}(h:aa Z0 U)(P':Z0 id=none):aa Z0 (Vc.C' U id o):=λi x hx=>by
 have W6:i≠id:=λe=>by rw[e,P']at hx;cases hx
 rw[ae W6];exact h i x hx
def aa.none{a b:ag}(h:aa a b){i:Nat}(hi:b i=none):a i=none:=by
 cases ha:a i with
 |none=>rfl
 |some o=>rw[h i o ha]at hi;cases hi
def al{U:ag}{i j:Nat}{o:Ob}(h:U i=some o)(hj:U j=none):i≠j:=by rintro rfl;rw[h]at hj;cases hj
def ad{O:Yp P}{f:Nat}{d:Option Nat}{l:List aD}{v:Nat->V}{ob:Ob}{s:Nat->V}{U:ag}
 (h:∀id Z',aa U Z'->Z' id=some ob->U id=none->step P O n f (.r (.ops l::k)) ⟨aQ s d (v id),Z'⟩ Q):
 L5 P O n f l k d ⟨s,U⟩ Q (some λid=>(v id,Vc.C' U id ob)):=by
 rw[bK];exact λid P'=>h id _ ((aa.refl U).C' P') af P'
def aS{O:Yp P}{f:Nat}{d:Option Nat}{l:List aD}{v:Nat->V}{ob:Ob}{s:Nat->V}{U:ag}
 (h:∀id Z',aa U Z'->Z' id=some ob->U id=none->step P O n f (.d l k) ⟨aQ s d (v id),Z'⟩ Q):
 HU P O n f l k d ⟨s,U⟩ Q (some λid=>(v id,Vc.C' U id ob)):=by
 rw[fC];exact λid P'=>h id _ ((aa.refl U).C' P') af P'
def BP{O:Yp P}{f:Nat}(t:Bool)(a b:bG):cR P O n f (.bool t) a b k st Q=((t=true->step P O n f (.r (.code a::k)) st Q)/\(t=false->step P O n f (.r (.code b::k)) st Q)):=by
 cases t<;>simp[cR,dM,both]
def ab.au{i:aD}{l:List aD}{fx:VX}{xs:List VX}{s:Nat->V}{U:ag}{f:FuncId}{caps:List V}{v:V}(hw:aZ s i.g=some true)(ho:i.op=.call fx xs)
 (hf:fx.ev s=.fn f caps)(hc:ax P f (xs.map (·.ev s)++caps) U λr Z'=>r=v/\Z'=U)(h:ab P n (.ops l::k) ⟨aQ s i.dst v,U⟩ Q):
 ab P n (.ops (i::l)::k) ⟨s,U⟩ Q:=by
 refine ab.call hw ho hf hc ?_;rintro r Z' ⟨rfl,rfl⟩;exact h
def BT(op:BinOp)(k:IntKind)(a b:Int):x8 op (.int k a) (.int k b)=dV op k a b:=by simp[x8]
def Bl(op:BinOp)(a b:List UInt8):x8 op (.str a) (.str b)=qv op a b:=rfl
def xy(op:BinOp)(k k':IntKind)(a b:Int):qe op (.int k a) (.int k' b)=iJ op k a b:=rfl
def wZ(op:BinOp)(a b:List UInt8):qe op (.str a) (.str b)=wh op a b:=rfl
def Bx(id off n:Nat):cP false (.own id off n)=some (.int .i64 n):=rfl
def Fv(sz:Nat)(rows:List V):cP false (.sl sz rows)=some (.int .i64 rows.length):=rfl
def zF:cP false .ay=some (.int .i64 0):=rfl
def Cm(s:List UInt8):cP true (.str s)=some (.int .i64 s.length):=rfl
def y8(U:ag)(Yg id off len:Nat)(k:IntKind)(j:Int):bp U Yg (.own id off len) (.int k j)=match U id with
 |some ob=>if ob.sz=Yg/\0<=j/\j<len then some (.ptr id (off+j.toNat) 0)else none
 |none=>none:=rfl
def yV(U:ag)(agg:Bool)(sz id i k:Nat):bF U agg sz (.ptr id i k)=match U id with
 |some ob=>match ob.rows[i]? with
  |some r=>if agg then(if k=0/\r.cells.length=sz then some (.agg r.cells)else if k+sz<=r.cells.length then some (.agg ((r.cells.drop k).take sz))else none)
     else r.cells[k]?
  |none=>none
 |none=>none:=rfl
def qO(U:ag)(sz:Nat)(vs:List V):bF U true sz (.rp (.agg vs))=if vs.length=sz then some (.agg vs)else none:=rfl
def mT(U:ag)(sz:Nat)(k:IntKind)(j:Int):bF U false sz (.rp (.int k j))=some (.int k j):=rfl
def Reads(U:ag)(sz:Nat)(agg:Bool)(sv:V)(rows:List V):Prop:=
 cP false sv=some (.int .i64 rows.length)/\∀(i:Nat) v,rows[i]?=some v->∃p,bp U sz sv (.int .i64 i)=some p/\bF U agg sz p=some v
def Reads.ints{U:ag}{l:List Int}:Reads U 1 false (.sl 1 (l.map (.int .i64 ·))) (l.map (.int .i64 ·)):=by
 refine⟨rfl,λi v hv=>?_⟩;obtain⟨n,hn,rfl⟩:∃n,l[i]?=some n/\v=.int .i64 n:=by
  rw[qX]at hv;cases h:l[i]? with
  |none=>simp[h]at hv
  |some n=>simp[h]at hv;exact⟨n,rfl,hv.symm⟩
 refine⟨.rp (.int .i64 n),?_,rfl⟩;simp[bp,hn]
def Reads.own{U:ag}{sz id off len:Nat}{ob:Ob}(ho:U id=some ob)(hs:ob.sz=sz)(hl:off+len<=ob.rows.length)(h1:∀r∈ob.rows,r.cells=[r]):
 Reads U sz false (.own id off len) ((ob.rows.drop off).take len):=by
 refine⟨by simp[cP];omega,λi v hv=>?_⟩;have hi:i<len:=by
  have:=(jn.1 hv).1;simp at this;omega
 have hv':ob.rows[off+i]?=some v:=by
  rw[List.getElem?_take,aq hi,Mg]at hv;exact hv
 refine⟨.ptr id (off+i) 0,?_,?_⟩
 .simp[bp,ho,hs,hi]
 .simp[bF,ho,hv',h1 v (yk hv')]
def ai{m:Int}(h1:-9223372036854775808<=m:=by omega)(h2:m<=9223372036854775807:=by omega):WR .i64 m:=by
 unfold WR;rw[IntKind.wrap_i64];omega
mutual
/-- no row's number in it -/
def V.eL:V->Bool
 |.own ..|.ptr ..|.yl _=>false
 |.sl _ rows=>gA rows
 |.rp v=>v.eL
 |.fn _ caps=>gA caps
 |.bm _ caps=>gA caps
 |.iface _ v=>v.eL
 |.agg c|.WJ c=>gA c
 |_=>true
def gA:List V->Bool
 |[]=>true
 |v::vs=>v.eL&&gA vs
end
def ax.Gh{P:Program}{f:FuncId}{args:List V}{U:ag}{Post Post':V->ag->Prop}(h:ax P f args U Post)
 (hp:∀r Z',Post r Z'->ak r Z' Post'):ax P f args U Post':=⟨h.1,λI w WO hs hr=>(h.2 I w WO hs hr).mono λe w' ⟨r,Z',Y',val,h1,h2,h3,h4,h5⟩=>by
 obtain⟨v',Z'',g1,g2,g3⟩:=hp r Z' h2;exact⟨v',Z'',Y',val,h1,g3,h3,h4.drop g1,g2 Y' _ _ _ _ h4 h5⟩⟩
mutual
/-- the same,with each row of its own as one that is only read -/
inductive Fz(U:ag)(N:Nat->Prop):V->V->Prop
 |same (v:V) (h:v.eL=true):Fz U N v v
 |own (id off len:Nat) (ob:Ob) (rows:List V) (h1:U id=some ob) (h2:N id) (h3:off+len<=ob.rows.length) (h4:YX U N ((ob.rows.drop off).take len) rows):
    Fz U N (.own id off len) (.sl ob.sz rows)
 |nil (sz:Nat):Fz U N .ay (.sl sz [])
 |sl (sz:Nat) (rows WM:List V) (h:YX U N rows WM):Fz U N (.sl sz rows) (.sl sz WM)
 |agg (cs ds:List V) (h:YX U N cs ds):Fz U N (.agg cs) (.agg ds)
 |WJ (cs ds:List V) (h:YX U N cs ds):Fz U N (.WJ cs) (.WJ ds)
 |ptr (id i:Nat) (ob:Ob) (r u:V) (h1:U id=some ob) (h2:N id) (h3:ob.rows[i]?=some r) (h4:Fz U N r u):Fz U N (.ptr id i 0) (.rp u)
 |fn (f:FuncId) (cs ds:List V) (h:YX U N cs ds):Fz U N (.fn f cs) (.fn f ds)
 |bm (f:FuncId) (cs ds:List V) (h:YX U N cs ds):Fz U N (.bm f cs) (.bm f ds)
 |iface (t:TypeId) (v u:V) (h:Fz U N v u):Fz U N (.iface t v) (.iface t u)
inductive YX(U:ag)(N:Nat->Prop):List V->List V->Prop
 |nil:YX U N [] []
 |cons (v u:V) (vs us:List V) (h:Fz U N v u) (h':YX U N vs us):YX U N (v::vs) (u::us)
end
section
variable {U K:ag} {N:Nat->Prop} {I:Mu} {w0 w:World} {XN:Nat->Prop}
def br.lift{ow Zu:Nat->Prop}{v u:V}{b off:Nat}(hv:∀cs,v≠.agg cs)(hu:∀cs,u≠.agg cs)(h:∀x,E' I ow w v x->E' I Zu w u x)
 (hr:br I ow w v b off):br I Zu w u b off:=by
 have e1:∃x,w.cell? ⟨b,off,none⟩=some x/\E' I ow w v x/\x.oneCell'=true:=by
  cases v<;>first|exact absurd rfl (hv _)|simpa only[br]using hr
 obtain⟨x,h1,h2,h3⟩:=e1;have e2:∃x,w.cell? ⟨b,off,none⟩=some x/\E' I Zu w u x/\x.oneCell'=true:=⟨x,h1,h x h2,h3⟩
 cases u<;>first|exact absurd rfl (hu _)|simpa only[br]using e2
mutual
def Fz.down(hs:Sat w0 XN I U w)(hK:aa K U)(hN:∀id,N id->K id=none):∀{v u:V},Fz U N v u->(∀x,E' I (az I U) w v x->E' I (az I K) w u x)/\
 (∀b off,br I (az I U) w v b off->br I (az I K) w u b off)/\u.cells.length=v.cells.length
 |_,_,.same v h=>⟨λx hr=>E'.mono (cI.refl I) (cM.sub w hK) (Xm _) v x hr,λb off hr=>br.mono (cI.refl I) (cM.sub w hK) (Xm _) v b off rfl hr,rfl⟩
 |_,_,.own id off len ob rows ho h2 hl h4=>by
  have hd:=YX.down hs hK hN h4;have key:∀x,E' I (az I U) w (.own id off len) x->E' I (az I K) w (.sl ob.sz rows) x:=by
   intro x hr;simp only[E']at hr|-;have hlen:rows.length=len:=by rw[hd.2.2.2];simp;omega
   have Xz:=hs.obj id ob ho;split at hr
   .exact hr.elim
   .obtain⟨rfl,rfl,rfl⟩:=hr;have:rows=[]:=rF hlen;subst this;exact⟨none,0,by simp,by simp,.inl rfl⟩
   .rename_i b sz cap hb;obtain⟨o,c,rfl,h1,h2',h3,hz⟩:=hr;refine⟨_,c,by rw[hlen],by omega,?_⟩;by_cases h0:len=0
    .left;exact rF (by omega)
    .right;rw[hb]at Xz;obtain⟨g1,g2,g3,g4,g5⟩:=Xz.rows hz;have ho':o=off*sz:=by
      rcases h3 with h3|h3
      .exact h3
      .omega
     subst ho' g1;refine⟨b,_,rfl,?_,g2,?_⟩
     .rintro⟨YQ,ob',sz',Yw,e1,e2⟩;have:=hs.inj YQ id ob' ob _ _ _ _ _ (hK _ _ e1) ho e2 hb;rw[this,hN id h2]at e1;cases e1
     .have:=(g5.drop off).take len;rw[iV]at this;exact hd.2.2.1 _ _ _ this
  exact⟨key,λb off' hr=>br.lift (λ_=>by simp) (λ_=>by simp) key hr,rfl⟩
 |_,_,.nil sz=>by
  have key:∀x,E' I (az I U) w .ay x->E' I (az I K) w (.sl sz []) x:=λx hr=>by
   simp only[E']at hr|-;exact⟨none,0,by simpa using hr,by simp,.inl trivial⟩
  exact⟨key,λb off' hr=>br.lift (λ_=>by simp) (λ_=>by simp) key hr,rfl⟩
 |_,_,.sl sz rows WM h=>by
  have hd:=YX.down hs hK hN h;have key:∀x,E' I (az I U) w (.sl sz rows) x->E' I (az I K) w (.sl sz WM) x:=λx hr=>by
   simp only[E']at hr|-;obtain⟨a,cap,rfl,h1,h2⟩:=hr;refine⟨a,cap,by rw[hd.2.2.2],by rw[hd.2.2.2];exact h1,?_⟩;rcases h2 with h2|⟨b,off,h3,h4,h5,h6⟩
   .left;have:=hd.2.2.2;rw[h2]at this;exact rF this
   .exact .inr ⟨b,off,h3,λho=>h4 (ho.sub hK),h5,hd.2.2.1 _ _ _ h6⟩
  exact⟨key,λb off' hr=>br.lift (λ_=>by simp) (λ_=>by simp) key hr,rfl⟩
 |_,_,.agg cs ds h=>by
  have hd:=YX.down hs hK hN h;refine⟨λx hr=>?_,λb off hr=>?_,by simp only[V.cells];exact hd.2.2.2⟩
  .simp only[E']at hr|-;obtain⟨WO,rfl,h1,h2⟩:=hr;exact⟨WO,rfl,hd.1 _ h1,h2⟩
  .simp only[br]at hr|-;exact hd.2.1 _ _ hr
 |_,_,.WJ cs ds h=>by
  have hd:=YX.down hs hK hN h;have key:∀x,E' I (az I U) w (.WJ cs) x->E' I (az I K) w (.WJ ds) x:=λx hr=>by
   simp only[E']at hr|-;obtain⟨WO,rfl,h1⟩:=hr;exact⟨WO,rfl,hd.1 _ h1⟩
  exact⟨key,λb off' hr=>br.lift (λ_=>by simp) (λ_=>by simp) key hr,rfl⟩
 |_,_,.ptr id i ob r u ho h2 hi h4=>by
  have hd:=Fz.down hs hK hN h4;have key:∀x,E' I (az I U) w (.ptr id i 0) x->E' I (az I K) w (.rp u) x:=by
   intro x hr;simp only[E']at hr|-;have Xz:=hs.obj id ob ho;split at hr
   .rename_i b sz cap hb;obtain⟨rfl,hz⟩:=hr;rw[hb]at Xz;obtain⟨g1,g2,g3,g4,g5⟩:=Xz.rows hz;obtain⟨e1,e2⟩:=g5.get hi;rw[iV]at e2;have Xa:¬az I K b:=by
     rintro⟨YQ,ob',sz',Yw,e1,e2⟩;have:=hs.inj YQ id ob' ob _ _ _ _ _ (hK _ _ e1) ho e2 hb;rw[this,hN id h2]at e1;cases e1
    refine⟨b,i*sz,by simp,?_,.inr Xa,hd.2.1 _ _ ((dT _ _ _ _ _ _).2 e2)⟩;cases hc:r.cells with
    |nil=>rw[hc]at e1;simp at e1;omega
    |cons c cs=>
     rw[hc]at e2;simp only[aO]at e2;obtain⟨⟨y,hy,_⟩,_⟩:=e2;exact World.block_lt_of_cell? w _ hy
   .exact hr.elim
  exact⟨key,λb off' hr=>br.lift (λ_=>by simp) (λ_=>by simp) key hr,rfl⟩
 |_,_,.fn f cs ds h=>by
  have hd:=YX.down hs hK hN h;have key:∀x,E' I (az I U) w (.fn f cs) x->E' I (az I K) w (.fn f ds) x:=λx hr=>by
   simp only[E']at hr|-;obtain⟨WO,rfl,h1⟩:=hr;exact⟨WO,rfl,hd.1 _ h1⟩
  exact⟨key,λb off' hr=>br.lift (λ_=>by simp) (λ_=>by simp) key hr,rfl⟩
 |_,_,.bm f cs ds h=>by
  have hd:=YX.down hs hK hN h;have key:∀x,E' I (az I U) w (.bm f cs) x->E' I (az I K) w (.bm f ds) x:=λx hr=>by
   simp only[E']at hr|-;obtain⟨WO,rfl,h1⟩:=hr;exact⟨WO,rfl,hd.1 _ h1⟩
  exact⟨key,λb off' hr=>br.lift (λ_=>by simp) (λ_=>by simp) key hr,rfl⟩
 |_,_,.iface t v u h=>by
  have hd:=Fz.down hs hK hN h;have key:∀x,E' I (az I U) w (.iface t v) x->E' I (az I K) w (.iface t u) x:=λx hr=>by
   simp only[E']at hr|-;obtain⟨y,rfl,h1⟩:=hr;exact⟨y,rfl,hd.1 _ h1⟩
  exact⟨key,λb off' hr=>br.lift (λ_=>by simp) (λ_=>by simp) key hr,rfl⟩
def YX.down(hs:Sat w0 XN I U w)(hK:aa K U)(hN:∀id,N id->K id=none):∀{vs us:List V},YX U N vs us->(∀l,ar I (az I U) w vs l->ar I (az I K) w us l)/\
 (∀b off,aO I (az I U) w vs b off->aO I (az I K) w us b off)/\(∀b off sz,aT I (az I U) w vs b off sz->aT I (az I K) w us b off sz)/\us.length=vs.length
 |_,_,.nil=>⟨λl h=>by simpa[ar]using h,λ_ _ _=>by simp[aO],λ_ _ _ _=>by simp[aT],rfl⟩
 |_,_,.cons v u vs us h h'=>by
  have hd:=Fz.down hs hK hN h;have hd':=YX.down hs hK hN h';refine⟨λl hr=>?_,λb off hr=>?_,λb off sz hr=>?_,by simp[hd'.2.2.2]⟩
  .simp only[ar]at hr|-;obtain⟨x,xs,rfl,h1,h2⟩:=hr;exact⟨x,xs,rfl,hd.1 _ h1,hd'.1 _ h2⟩
  .simp only[aO]at hr|-;obtain⟨⟨x,h1,h2,h3⟩,h4⟩:=hr;exact⟨⟨x,h1,hd.1 _ h2,h3⟩,hd'.2.1 _ _ h4⟩
  .simp only[aT]at hr|-;exact⟨by rw[hd.2.2];exact hr.1,hd.2.1 _ _ hr.2.1,hd'.2.2.1 _ _ _ hr.2.2⟩
end
def Fz.wk{v u:V}(h:Fz U N v u)(hK:aa K U)(hN:∀id,N id->K id=none):Wk U K v u:=λ_ _ _ _ x hs hr=>(Fz.down hs hK hN h).1 x hr
end
variable {P:Program} {n:Nat} {st:St} {Q:St->Prop} {k:List It} {I:Mu} {w w':World}
abbrev gh(o:Obj)(env:List V:=[]):Ob:=⟨0,0,.obj o::env⟩
def Sat.RS{w0:World}{XN:Nat->Prop}{U:ag}(h:Sat w0 XN I U w)(o:Obj)(env:List V)(he:ar I (az I U) w env (tmpsOf o)):
 ∃id,U id=none/\∃Y':Mu,Y' id=.XK w.heap.size 0 0/\cI I Y'/\Sat w0 XN Y' (C' U id (gh o env)) (w.alloc o)/\cM (az I U) (az Y' (C' U id (gh o env))) w (w.alloc o):=by
 obtain⟨id,P',W4,XL⟩:=h.dC;have hle:cI I (λk=>if k=id then .XK w.heap.size 0 0 else I k):=λk hk=>by
  have:k≠id:=λe'=>hk (e'▸P');simp[this]
 refine⟨id,W4,λk=>if k=id then .XK w.heap.size 0 0 else I k,by simp,hle,?_⟩;refine h.put (row:=none) (World.grownBy_alloc w o none) (by simp) hle (XL _) id (gh o env) (λo' ho=>?_) (λi o' hi ho=>?_) (λb' sz' Yw hb'=>?_) (λhk=>?_)
 .simp[C']at ho;exact ho.symm
 .simp only[C',ao hi]at ho;exact⟨ho,by simp⟩
 .simp only[if_true,Pl.XK.injEq]at hb';exact .inr (by omega)
 .simp only[if_true];exact .inr ⟨rfl,rfl,o,env,rfl,World.alloc_heap_new w o,ar.mono hle hk (by simp) _ _ he⟩
def Sat.RV{w0:World}{XN:Nat->Prop}{U:ag}(h:Sat w0 XN I U w){id b cap:Nat}{o:Ob}(ho:U id=some o)(P':I id=.XK b 0 cap)(o':Obj)(env:List V)(he:ar I (az I U) w env (tmpsOf o')):
 Sat w0 XN I (C' U id (gh o' env)) (w.putObj b o')/\cM (az I U) (az I (C' U id (gh o' env))) w (w.putObj b o'):=by
 have H':b<w.heap.size:=az.lt h ⟨id,o,0,cap,ho,P'⟩;refine h.put (grownBy_putObj' w b o') (λb' hb'=>by cases hb';exact⟨id,o,0,cap,ho,P'⟩) (cI.refl _) h.fin id (gh o' env) (λx W8=>by simp[C']at W8;exact W8.symm)
  (λi x hi W8=>?_) (λb' sz' Yw hb'=>?_) (λhk=>?_)
 .simp only[C',ao hi]at W8;refine⟨W8,λb' sz' Yw h4 h5=>hi ?_⟩;cases h5;exact h.inj i id x o _ _ _ _ _ W8 ho h4 P'
 .rw[P']at hb';cases hb';exact .inl rfl
 .rw[P'];exact .inr ⟨rfl,rfl,o',env,rfl,World.putObj_heap_same H',ar.mono (cI.refl _) hk (by simp) _ _ he⟩
def Sat.MG{w0:World}{XN:Nat->Prop}{U:ag}(h:Sat w0 XN I U w){id b cap:Nat}{o:Obj}{env:List V}(ho:U id=some (gh o env))(P':I id=.XK b 0 cap):w.heap[b]?=some o/\ar I (az I U) w env (tmpsOf o):=by
 have:=h.obj id _ ho;rw[P']at this;rcases this with⟨_,_,_,h1,_⟩|⟨_,_,ob,env',h1,h2,h3⟩
 .omega
 .simp only[List.cons.injEq,V.obj.injEq]at h1;obtain⟨rfl,rfl⟩:=h1;exact⟨h2,h3⟩
variable {P:Program} {n:Nat} {st:St} {Q:St->Prop} {k:List It} {I:Mu} {w w':World}
def Sat.compose{w0:World}{XN:Nat->Prop}{I Y':Mu}{U Z':ag}(h0:Sat w0 XN I U w)(WT:Sat w (az I U) Y' Z' w'):
 Sat w0 XN Y' Z' w'/\cM (az I U) (az Y' Z') w w':=by
 have Yl:cM (az I U) (az Y' Z') w w':=λb hb hn=>⟨λho=>hn (WT.fresh b ho hb),WT.same b hb hn⟩
 refine⟨⟨jx h0.size WT.size,WT.os.trans h0.os,WT.tape.trans h0.tape,WT.output.trans h0.output,?_,WT.fin,WT.inj,WT.obj,?_,h0.glob⟩,Yl⟩
 .intro b hb hn;have h1:¬az I U b:=λho=>hn (h0.fresh b ho hb);exact(WT.same b (Nat.lt_of_lt_of_le hb h0.size) h1).trans (h0.same b hb hn)
 .intro b hb H';exact h0.fresh b (WT.fresh b hb (Nat.lt_of_lt_of_le H' h0.size)) H'
def Sat.here{w0:World}{XN:Nat->Prop}{U:ag}(h:Sat w0 XN I U w):Sat w (az I U) I U w:=
 ⟨Xm _,rfl,rfl,rfl,λ_ _ _=>rfl,h.fin,h.inj,h.obj,λb hb _=>hb,h.rU⟩
def YC(P:Program)(Xe:Nat)(x:List V)(U:ag)(Post:Bool->ag->Prop):Prop:=
 ∀I w WO l c,I Xe=.XK l 0 c->Sat w (az I U) I U w->ar I (az I U) w x WO->
  YieldAt Fence.wide 0 P l WO.toArray w λe w'=>∃b Z' Y',e=.returned (.bool b)/\Post b Z'/\cI I Y'/\Sat w (az I U) Y' Z' w'
def ym{F:Fr}{m m':Nat}{l:Nat}{f:FuncId}{tmps:Array Value}{assign body:Code}{R:Ending->World->Prop}
 (h:RoundIn Fence.wide m P l f tmps assign body w R):RoundIn F.ed m' P l f tmps assign body w R:=
 ⟨trivial,λc cs _=>h.2 c cs (room_wide _)⟩
def ab.oS{i:aD}{l:List aD}{fx:VX}{xs:List VX}(hw:aZ st.s i.g=some true)(ho:i.op=.call fx xs){Xe:Nat}(hf:fx.ev st.s=.yl Xe)
 {Post:Bool->ag->Prop}(hc:YC P Xe (xs.map (·.ev st.s)) st.U Post)
 (h:∀b Z',Post b Z'->ab P n (.ops l::k) ⟨aQ st.s i.dst (.bool b),Z'⟩ Q):ab P n (.ops (i::l)::k) st Q:=by
 refine ab.M7 hw λF hn I a w o all hi hs next Q' WK=>?_
 subst hn;obtain⟨WN,hd⟩:=cW hi;rw[ho]at WN;obtain⟨f0,args,argTypes,g1,rfl,rfl⟩:=mo WN;have hfr:=bU hs f0;rw[hf]at hfr;simp only[E']at hfr;split at hfr
 .rename_i lb c P';have XA:=oY hs args.toList;obtain⟨fn,tmps,assign,body,hy,hR⟩:=hc I w _ lb c P' hs.sat.here XA;have Xi:(execOp a.eval o).run P w=.ok (.round lb fn tmps assign body) w:=by
   unfold execOp;rw[g1];simp only[resolve,hfr,Deferred.ofValue,Sem.run_bind,Sem.run_pure,Result.andThen_ok,invoke];rw[<-hy];congr 2;apply Array.ext';simp
  refine⟨λ_ _=>trivial,?_⟩;rw[Oper.semAt_eq _ _ _ (by rw[g1];intro c e;cases e),Xi];refine⟨lG F,ym (hR.mono ?_)⟩;rintro e w' ⟨b,Z',Y',rfl,hp,hle,WT⟩;obtain⟨h1,h2⟩:=hs.sat.compose WT;refine WK _ _ _ ⟨Y',?_⟩ (h b Z' hp);rw[<-hd];exact hs.step h1 hle h2 WT.size (by simp[E'])
 .exact hfr.elim
def aY(ZJ U Xc Z':ag):Prop:=aa Xc Z'/\∀id o,ZJ id=none->U id=some o->Z' id=some o/\Xc id=none
def aY.refl{ZJ U:ag}(h:aa ZJ U):aY ZJ U ZJ U:=⟨h,λ_ _ h1 h2=>⟨h2,h1⟩⟩
def aY.set{ZJ U Xc Z':ag}(h:aY ZJ U Xc Z'){id:Nat}{o o':Ob}(P':Xc id=some o):aY ZJ U (C' Xc id o') (C' Z' id o'):=
 ⟨h.1.Oc,λi x h1 h2=>by
  obtain⟨h3,h4⟩:=h.2 i x h1 h2;have:i≠id:=λe=>by rw[e,P']at h4;cases h4
  simp[Vc.C',this,h3,h4]⟩
def aY.new{ZJ U Xc Z':ag}(h:aY ZJ U Xc Z'){id:Nat}{o:Ob}(P':Z' id=none):aY ZJ U (C' Xc id o) (C' Z' id o):=
 ⟨h.1.Oc,λi x h1 h2=>by
  obtain⟨h3,h4⟩:=h.2 i x h1 h2;have:i≠id:=λe=>by rw[e,P']at h3;cases h3
  simp[Vc.C',this,h3,h4]⟩
def aY.se{ZJ U Xc Z':ag}(h:aY ZJ U Xc Z'){id:Nat}{o:Ob}(P':Z' id=none):aY ZJ U Xc (C' Z' id o):=
 ⟨h.1.trans (aa.C' (aa.refl _) P'),λi x h1 h2=>by
  obtain⟨h3,h4⟩:=h.2 i x h1 h2;have:i≠id:=λe=>by rw[e,P']at h3;cases h3
  simp[Vc.C',this,h3,h4]⟩
def Iter(P:Program)(g:FuncId)(caps:List V)(xs:List (List V)):Prop:=
 dZ P g=true/\∀(Xe:Nat) (τ Jx:List (List V)->ag->Prop) (Z0:ag),
  (∀pre x post ZJ U,xs=pre++x::post->τ pre ZJ->aa ZJ U->
    YC P Xe x U λb Z'=>∃Xc,aY ZJ U Xc Z'/\((b=true/\τ (pre++[x]) Xc)\/(b=false/\Jx (pre++[x]) Xc)))->
  τ [] Z0->uw P g (.yl Xe::caps) Z0 λ_ Z'=>τ xs Z'\/∃pre,pre <+: xs/\Jx pre Z'
variable {P:Program} {n:Nat} {st:St} {Q:St->Prop} {k:List It} {I:Mu} {w w':World}
def n9(s:Nat->V):List Nat->List V->Nat->V
 |p::ps,x::xs=>n9 (λi=>if i=p then x else s i) ps xs
 |_,_=>s
def exK:List (Nat×(St->Prop))->List It
 |[]=>[]
 |(id,μ)::l=>.inBlock id::.stop μ::exK l
def Fm{U Z':ag}{id:Nat}(h:aa U Z'):aa (del U id) (del Z' id):=λi o e=>by
 unfold del at e|-;split at e
 .cases e
 .rename_i hi;rw[ao hi];exact h i o e
def Sat.more{w0:World}{XN:Nat->Prop}{U:ag}(h:Sat w0 XN I U w)(o:Obj):Sat w0 XN I U (w.alloc o)/\cM (az I U) (az I U) w (w.alloc o):=by
 have Zj:∀b,b<w.heap.size->(w.alloc o).heap[b]?=w.heap[b]?:=λb hb=>Go.RowKit.Below.heap_alloc w o b hb;have hk:cM (az I U) (az I U) w (w.alloc o):=λb hb hn=>⟨hn,Zj b hb⟩
 refine⟨⟨by have:=h.size;simp;omega,h.os,h.tape,h.output,λb hb hn=>(Zj b (Nat.lt_of_lt_of_le hb h.size)).trans (h.same b hb hn),h.fin,h.inj,λid ob ho=>?_,h.fresh,h.glob⟩,hk⟩;exact(h.obj id ob ho).mono (cI.refl I) hk (by simp) λb sz cap hp=>Zj b (az.lt h ⟨id,ob,sz,cap,ho,hp⟩)
def cQ.enter{F:Fr}{a:Act}(hs:cQ F I st a w)(fn:FuncId)(ps:Array Tmp)(assign body:Code):
 ∃mark W0 D,cQ F I st { a with defers:=mark++a.defers } W0/\(Instr.enterLoop fn a.tmps ps assign body F.ed.round).run P w=
  .ok (W0.heap.size,mark) (W0.alloc (.loop { state:=.ready,pending:=none,fn,tmps:=a.tmps,params:=ps,assign,body,defers:=D })):=by
 cases hrd:F.rd with
 |some lr=>
  obtain⟨l0,r0⟩:=lr;obtain⟨h1,_⟩:=hs.book.rnd l0 r0 hrd;refine⟨[],w,r0.defers,hs,?_⟩;have:F.ed.round=some l0:=by simp[Fr.ed,hrd]
  rw[this];exact run_enterLoop_inner h1 fn a.tmps ps assign body
 |none=>
  have:F.ed.round=none:=by simp[Fr.ed,hrd]
  rw[this];refine⟨[{ target:=.collected w.heap.size,args:=#[] }],w.alloc (.deferred (some [])),w.heap.size,?_,?_⟩
  .obtain⟨h1,hk⟩:=hs.sat.more (.deferred (some []));have hb:=hs.book.lV hk;refine⟨h1,hs.le,hs.size,⟨hb.rnd,?_⟩,λi hi=>E'.mono (cI.refl I) hk (by simp) _ _ (hs.slot i hi)⟩;obtain⟨Ds,g1,g2,g3⟩:=hb.marks;obtain⟨Ds',g1',g2',g3'⟩:=hs.book.marks;refine⟨w.heap.size::Ds',by simp[g1'],?_,?_⟩
   .refine List.nodup_cons.2 ⟨λhin=>?_,g2'⟩;have:=(oz.1 (g3' _ hin).2.1).1;omega
   .intro D hD;simp only[db]at hD;rcases hD with rfl|hD
    .refine⟨hs.sat.size,World.alloc_heap_new w _,λho=>?_⟩;have:=az.lt hs.sat ho;omega
    .obtain⟨q1,q2,q3⟩:=g3' D hD;have H':=(oz.1 q2).1;exact⟨q1,(hk D H' q3).2.trans q2,q3⟩
  .rw[run_enterLoop_outer];simp
def Hz(ps:List Nat):∀(xs:List Value) (t:Array Value) (vs:List V) (s:Nat->V) {ow:Nat->Prop} (m:Nat),t.size=m->ar I ow w vs xs->vs.length=ps.length->
 (∀i,i<m->E' I ow w (s i) (t.getD i undef))->
 ((ps.zip xs).foldl (λt (p,v)=>t.setIfInBounds p v) t).size=m/\∀i,i<m->E' I ow w (n9 s ps vs i) (((ps.zip xs).foldl (λt (p,v)=>t.setIfInBounds p v) t).getD i undef):=by
 induction ps with
 |nil=>intro xs t vs s ow m ht _ _ hi;exact⟨by simpa using ht,by simpa[n9]using hi⟩
 |cons p ps ih=>
  intro xs t vs s ow m ht hv hl hi;cases vs with
  |nil=>simp at hl
  |cons v vs=>
   simp only[ar]at hv;obtain⟨x,xs',rfl,h1,h2⟩:=hv;simp only[List.zip_cons_cons,jm,n9];refine ih xs' (t.setIfInBounds p x) vs _ m (by simp[ht]) h2 (by simpa using hl) λi H'=>?_;by_cases hip:i=p
   .subst hip;rw[aq rfl,Zq7,Array.getElem?_setIfInBounds_self_of_lt (by omega)];exact h1
   .rw[ao hip,Zq7,Array.getElem?_setIfInBounds_ne (λe=>hip e.symm),<-Zq7];exact hi i H'
variable {P:Program} {n:Nat} {st:St} {Q:St->Prop} {k:List It} {I:Mu} {w w':World}
def v8{b:Nat}{o o':Obj}(h:w.heap[b]?=some o)(hc:∀off x,w.cell? ⟨b,off,none⟩≠some x):
 (∀b',b'≠b->(w.putObj b o').heap[b']?=w.heap[b']?)/\∀(ow:Nat->Prop),rW ow ow w (w.putObj b o'):=by
 have W6:∀b',b'≠b->(w.putObj b o').heap[b']?=w.heap[b']?:=λb' hb=>World.putObj_heap_other hb;refine⟨W6,λow b' _ hn=>⟨hn,λoff x hx=>?_⟩⟩;by_cases hb:b'=b
 .subst hb;exact absurd hx (hc off x)
 .exact eI (W6 b' hb) off x hx
def lN{b:Nat}{r:Loop}(h:w.heap[b]?=some (.loop r)):∀off x,w.cell? ⟨b,off,none⟩≠some x:=λoff x=>by simp[World.cell?,h]
def cQ.Vf{F F':Fr}{a:Act}{l:Nat}{r r':Loop}(hs:cQ F I st a w)(hF:F.rd=some (l,r))(hF':F'={ F with rd:=some (l,r') })(hl:l<F.w0.heap.size->F.XN l):
 cQ F' I st a (w.putObj l (.loop r')):=by
 subst hF';obtain⟨h1,h2⟩:=hs.book.rnd l r hF;obtain⟨W6,hk⟩:=v8 (o':=.loop r') h1 (lN h1);have hk:=hk (az I st.U);have hz:w.heap.size<=(w.putObj l (.loop r')).heap.size:=by simp
 have H':=(oz.1 h1).1;refine⟨⟨by simpa using hs.sat.size,hs.sat.os,hs.sat.tape,hs.sat.output,λb hb hn=>?_,hs.sat.fin,hs.sat.inj,λid o ho=>?_,hs.sat.fresh,hs.sat.glob⟩,hs.le,hs.size,⟨λl' r'' e=>?_,?_⟩,λi hi=>E'.bQ (cI.refl I) hk hz _ _ (hs.slot i hi)⟩
 .by_cases hb':b=l
  .subst hb';exact absurd (hl hb) hn
  .exact(W6 b hb').trans (hs.sat.same b hb hn)
 .refine(hs.sat.obj id o ho).bQ (cI.refl I) hk hz λb sz cap hp=>W6 b ?_;rintro rfl;exact h2 ⟨id,o,sz,cap,ho,hp⟩
 .simp only[aI,Prod.mk.injEq]at e;obtain⟨rfl,rfl⟩:=e;exact⟨World.putObj_heap_same H',h2⟩
 .obtain⟨Ds,g1,g2,g3⟩:=hs.book.marks;refine⟨Ds,g1,g2,λD hD=>?_⟩;obtain⟨q1,q2,q3⟩:=g3 D hD;refine⟨q1,(W6 D ?_).trans q2,q3⟩;rintro rfl;rw[h1]at q2;cases q2
def Sat.PI{w0:World}{XN:Nat->Prop}{U:ag}(h:Sat w0 XN I U w){Xe l c:Nat}(W4:U Xe=none)(P':I Xe=.XK l 0 c)(Xa:¬az I U l){r:Loop}(hr:w.heap[l]?=some (.loop r))
 (hl:l<w0.heap.size->XN l)(o:Obj)(env:List V)(he:ar I (az I U) w env (tmpsOf o)):Sat w0 XN I (C' U Xe (gh o env)) (w.putObj l o):=by
 obtain⟨W6,_⟩:=v8 (o':=o) hr (lN hr);have H':=(oz.1 hr).1;have hz:w.heap.size<=(w.putObj l o).heap.size:=by simp
 have hown:∀b,az I (C' U Xe (gh o env)) b->az I U b\/b=l:=by
  rintro b ⟨id,ob,sz,cap,h1,h2⟩;by_cases e:id=Xe
  .subst e;rw[P']at h2;cases h2;exact .inr rfl
  .rw[ae e]at h1;exact .inl ⟨id,ob,sz,cap,h1,h2⟩
 have hk:rW (az I U) (az I (C' U Xe (gh o env))) w (w.putObj l o):=λb ⟨off,x,hx⟩ hn=>by
  have XU:b≠l:=by rintro rfl;exact lN hr off x hx
  exact⟨λho=>(hown b ho).elim hn XU,eI (W6 b XU)⟩
 refine⟨by simpa using h.size,h.os,h.tape,h.output,λb hb hn=>?_,h.fin,?_,?_,?_,h.glob⟩
 .by_cases hb':b=l
  .subst hb';exact absurd (hl hb) hn
  .exact(W6 b hb').trans (h.same b hb hn)
 .intro id YQ ob ob' b sz cap sz' Yw h1 h2 h3 h4;by_cases e:id=Xe<;>by_cases e':YQ=Xe
  .rw[e,e']
  .exfalso;subst e;rw[P']at h3;cases h3;rw[ae e']at h2;exact Xa ⟨YQ,ob',sz',Yw,h2,h4⟩
  .exfalso;subst e';rw[P']at h4;cases h4;rw[ae e]at h1;exact Xa ⟨id,ob,sz,cap,h1,h3⟩
  .rw[ae e]at h1;rw[ae e']at h2;exact h.inj id YQ ob ob' b sz cap sz' Yw h1 h2 h3 h4
 .intro id ob ho;by_cases e:id=Xe
  .subst e;rw[af]at ho;cases ho;rw[P'];exact .inr ⟨rfl,rfl,o,env,rfl,World.putObj_heap_same H',ar.bQ (cI.refl I) hk hz _ _ he⟩
  .rw[ae e]at ho;refine(h.obj id ob ho).bQ (cI.refl I) hk hz λb sz cap hp=>W6 b ?_;rintro rfl;exact Xa ⟨id,ob,sz,cap,ho,hp⟩
 .intro b hb YI;rcases hown b hb with h1|h1
  .exact h.fresh b h1 YI
  .subst h1;exact hl YI
variable {P:Program} {n:Nat} {st:St} {Q:St->Prop} {k:List It} {I:Mu} {w w':World}
def Bs:List (Nat×(St->Prop))->List KI
 |[]=>[]
 |(id,μ)::l=>.inBlock id::.stop μ::Bs l
def Fi:∀(l:List (Nat×(St->Prop))),(Bs l).map (KI.it P n)=exK l
 |[]=>rfl
 |(id,μ)::l=>by simp[Bs,exK,KI.it,Fi l]
def jo{F:Fr}{e:Exit}{a:Act}(he:e≠.normal):∀(l:List (Nat×(St->Prop))),ld P F Q (Bs l) e a w->
 (e=.ret/\∃st,Q st/\eE F st a w)\/∃id μ,(id,μ)∈l/\e=.exit id/\∃st,μ st/\eE F st a w
 |[],h=>.inl ⟨h.1.resolve_left he,h.2⟩
 |(id,μ)::l,h=>by
  have h:Exit.inBlock id (ld P F Q (.stop μ::Bs l)) e a w:=h;have up:ld P F Q (Bs l) e a w->_:=jo he l;have go:ld P F Q (Bs l) e a w->(e=.ret/\∃st,Q st/\eE F st a w)\/∃YQ I',(YQ,I')∈(id,μ)::l/\e=.exit YQ/\∃st,I' st/\eE F st a w:=λh=>by
   rcases up h with h|⟨i,I',h1,h2⟩
   .exact .inl h
   .exact .inr ⟨i,I',by simp[h1],h2⟩
  cases e with
  |normal=>exact absurd rfl he
  |exit j=>
   simp only[Exit.inBlock]at h;by_cases hj:j=id
   .rw[aq hj]at h;exact .inr ⟨id,μ,by simp,by rw[hj],h⟩
   .rw[ao hj]at h;exact go h
  |_=>exact go h
def Kk:Option Nat->Code
 |none=>.ret
 |some id=>.exit id
def Kx{rec:Loop}(hready:rec.state=.ready)(hpend:rec.pending=none)(htm:rec.tmps.size=n){s:Nat->V}{Xe:Nat}{x:List V}{ZJ U:ag}
 (hx:x.length=rec.params.toList.length)(Yd:ZJ Xe=some (gh (.loop rec) ((List.range n).map s)))(G':aa ZJ U)
 (Jn:ag->Prop)(exits:List Nat)(Jx:Option Nat->ag->Prop)
 (hb:ab P n [.code (dk P n rec.assign),.stop λst1=>ab P n (.code (dk P n rec.body)::.stop (λZZ=>∃Z2,aY (del ZJ Xe) (del U Xe) Z2 ZZ.U/\Jn Z2)::
   exK (exits.map λid=>(id,λZZ=>∃Z2,aY (del ZJ Xe) (del U Xe) Z2 ZZ.U/\Jx (some id) Z2))) st1 (λZZ=>∃Z2,aY (del ZJ Xe) (del U Xe) Z2 ZZ.U/\Jx none Z2)]
   ⟨n9 s rec.params.toList x,del U Xe⟩ (λ_=>False)):
 YC P Xe x U λb Z'=>∃Xc,aY ZJ U Xc Z'/\((b=true/\Xc Xe=some (gh (.loop rec) ((List.range n).map s))/\Jn (del Xc Xe))\/
  (b=false/\∃e:Option Nat,Xc Xe=some (gh (.loop { rec with state:=.done,pending:=some (Kk e) }) ((List.range n).map s))/\Jx e (del Xc Xe)/\∀id,e=some id->id∈exits)):=by
 intro Y3 w3 WO l c P' Zm Zn;have W4:=G' _ _ Yd;obtain⟨hl,henv⟩:=Zm.MG W4 P';have hvl:WO.length=rec.params.toList.length:=by rw[<-hx];exact Zn.length
 have hy:=run_yield (P:=P) (args:=WO.toArray) hl (by simpa using hvl);have Xa:¬az Y3 (del U Xe) l:=by
  rintro⟨id,o,sz,cap,h1,h2⟩;have:=Zm.inj id Xe o _ l sz cap 0 c (aa.AE U Xe id o h1) W4 h2 P';subst this;simp[del]at h1
 have hks:cM (az Y3 U) (az Y3 (del U Xe)) w3 w3:=cM.sub w3 (aa.AE U Xe);have hslots:∀i,i<n->E' Y3 (az Y3 (del U Xe)) w3 (s i) (rec.tmps.getD i undef):=λi hi=>by
  have hv:((List.range n).map s)[i]?=some (s i):=by simp[hi]
  obtain⟨y,h1,h2⟩:=henv.get hv;have:rec.tmps.getD i undef=y:=by
   simp only[tmpsOf]at h1;rw[Zq7,<-Array.getElem?_toList,h1];rfl
  rw[this];exact E'.mono (cI.refl _) hks (Xm _) _ _ h2
 obtain⟨hg1,hg2⟩:=Hz rec.params.toList WO rec.tmps x s n htm (ar.mono (cI.refl _) hks (Xm _) _ _ Zn) hx hslots;have hzip:(rec.params.zip WO.toArray).foldl (λtmps (t,a)=>tmps.setIfInBounds t a) rec.tmps=(rec.params.toList.zip WO).foldl (λt (p,v)=>t.setIfInBounds p v) rec.tmps:=by
  rw[<-Array.foldl_toList,Array.toList_zip]
 rw[hzip]at hy;refine⟨rec.fn,_,rec.assign,rec.body,hy,roundIn_of_wpIn (F:=Fence.wide) trivial ?_⟩;have YR:cQ ⟨w3,az Y3 U,Y3,n,some (l,rec)⟩ Y3 ⟨n9 s rec.params.toList x,del U Xe⟩ { tmps:=(rec.params.toList.zip WO).foldl (λt (p,v)=>t.setIfInBounds p v) rec.tmps,defers:=[] } w3:=by
  refine⟨Zm.drop (aa.AE U Xe),cI.refl _,hg1,⟨λl' r' e=>?_,[],rfl,.nil,by simp⟩,hg2⟩;simp only[aI,Prod.mk.injEq]at e;obtain⟨rfl,rfl⟩:=e;exact⟨hl,Xa⟩
 have h1:=hb ⟨w3,az Y3 U,Y3,n,some (l,rec)⟩ rfl [.code rec.assign,.stop _] rfl _ w3 ⟨Y3,YR⟩;refine wpIn_mono (F:=Fence.wide.inRound l) h1 ?_;intro e a1 w1 h;cases e with
 |normal=>
  obtain⟨st1,hI,X4,hs4⟩:=h;have hpk:=hs4.Vf (F':=⟨w3,az Y3 U,Y3,n,some (l,{ rec with state:=.busy })⟩) (r':={ rec with state:=.busy }) rfl rfl (λ_=>⟨Xe,_,0,c,W4,P'⟩);refine⟨_,run_beginRound (hs4.book.rnd l rec rfl).1 hready,?_⟩;have h2:=hI ⟨w3,az Y3 U,Y3,n,some (l,{ rec with state:=.busy })⟩ rfl (.code rec.body::.stop _::Bs _) (by simp only[eo,Fi];rfl) a1 _ ⟨X4,hpk⟩;refine wpIn_mono (F:=Fence.wide.inRound l) h2 ?_;have fin:∀(ZZ:St) (a2:Act) (w2:World) (jump:Option Code) (Z2:ag),eE ⟨w3,az Y3 U,Y3,n,some (l,{ rec with state:=.busy })⟩ ZZ a2 w2->aY (del ZJ Xe) (del U Xe) Z2 ZZ.U->
   ∃v w'',(Instr.endRound l jump).run P w2=.ok v w''/\v=.bool jump.isNone/\∃Z' Y' Xc,cI Y3 Y'/\Sat w3 (az Y3 U) Y' Z' w''/\aY ZJ U Xc Z'/\
    Xc Xe=some (gh (.loop { rec with state:=if jump.isNone then .ready else .done,pending:=jump }) ((List.range n).map s))/\del Xc Xe=Z2:=by
   rintro ZZ a2 w2 jump Z2 ⟨X5,hs5⟩ Yh;obtain⟨q1,q2⟩:=hs5.book.rnd l _ rfl;have hid5:X5 Xe=.XK l 0 c:=(hs5.le Xe (show Y3 Xe≠.dC by rw[P'];simp)).trans P';have hn5:ZZ.U Xe=none:=by
    cases h:ZZ.U Xe with
    |none=>rfl
    |some o=>exact absurd ⟨Xe,o,0,c,h,hid5⟩ q2
   have hk5:cM (az Y3 U) (az X5 ZZ.U) w3 w2:=λb hb hn=>⟨λho=>hn (hs5.sat.fresh b ho hb),hs5.sat.same b hb hn⟩
   have henv5:=ar.mono hs5.le hk5 hs5.sat.size _ _ henv;have hn2:Z2 Xe=none:=by
    cases h:Z2 Xe with
    |none=>rfl
    |some o=>have:=Yh.1 Xe o h;rw[hn5]at this;cases this
   refine⟨_,_,run_endRound (P:=P) jump q1,rfl,C' ZZ.U Xe (gh (.loop { rec with state:=if jump.isNone then .ready else .done,pending:=jump }) ((List.range n).map s)),X5,
    C' Z2 Xe (gh (.loop { rec with state:=if jump.isNone then .ready else .done,pending:=jump }) ((List.range n).map s)),hs5.le,?_,⟨Yh.1.Oc,λi o h1 h2=>?_⟩,af,Fe hn2⟩
   .exact hs5.sat.PI hn5 hid5 q2 q1 (λ_=>⟨Xe,_,0,c,W4,P'⟩) _ _ henv5
   .have W6:i≠Xe:=λe=>by rw[e,Yd]at h1;cases h1
    obtain⟨g1,g2⟩:=Yh.2 i o (by rw[dg W6];exact h1) (by rw[dg W6];exact h2);rw[ae W6,ae W6];exact⟨g1,g2⟩
  intro e a2 w2 h;cases e with
  |normal=>
   obtain⟨ZZ,⟨Z2,Yh,hj⟩,ZM⟩:=h;obtain⟨v,w'',g1,rfl,Z',Y',Xc,g2,g3,g4,g5,g6⟩:=fin ZZ a2 w2 none Z2 ZM Yh;refine⟨_,w'',g1,true,Z',Y',rfl,⟨Xc,g4,.inl ⟨rfl,?_,by rw[g6];exact hj⟩⟩,g2,g3⟩;rw[g5];have:({ rec with state:=.ready,pending:=none }:Loop)=rec:=by rw[<-hready,<-hpend]
   simp[this]
  |ret=>
   rcases jo (by simp) _ h with⟨_,ZZ,⟨Z2,Yh,hj⟩,ZM⟩|⟨_,_,_,h,_⟩
   .obtain⟨v,w'',g1,rfl,Z',Y',Xc,g2,g3,g4,g5,g6⟩:=fin ZZ a2 w2 (some .ret) Z2 ZM Yh;exact⟨_,w'',g1,false,Z',Y',rfl,⟨Xc,g4,.inr ⟨rfl,none,g5,by rw[g6];exact hj,by simp⟩⟩,g2,g3⟩
   .cases h
  |exit id=>
   rcases jo (by simp) _ h with⟨h,_⟩|⟨YQ,μ,hin,h,ZZ,hI2,ZM⟩
   .cases h
   .cases h;simp only[gM,Prod.mk.injEq]at hin;obtain⟨id'',hin',rfl,rfl⟩:=hin;obtain⟨Z2,Yh,hj⟩:=hI2;obtain⟨v,w'',g1,rfl,Z',Y',Xc,g2,g3,g4,g5,g6⟩:=fin ZZ a2 w2 (some (.exit id'')) Z2 ZM Yh;exact⟨_,w'',g1,false,Z',Y',rfl,⟨Xc,g4,.inr ⟨rfl,some id'',g5,by rw[g6];exact hj,by simp[hin']⟩⟩,g2,g3⟩
  |goto t=>rcases jo (by simp) _ h with⟨h,_⟩|⟨_,_,_,h,_⟩<;>cases h
  |panic ch=>rcases jo (by simp) _ h with⟨h,_⟩|⟨_,_,_,h,_⟩<;>cases h
  |outgrown=>rcases jo (by simp) _ h with⟨h,_⟩|⟨_,_,_,h,_⟩<;>cases h
 |ret=>exact h.2.choose_spec.1.elim
 |exit id=>rcases h.1 with h|h<;>cases h
 |goto t=>rcases h.1 with h|h<;>cases h
 |panic ch=>rcases h.1 with h|h<;>cases h
 |outgrown=>rcases h.1 with h|h<;>cases h
variable {P:Program} {n:Nat} {st:St} {Q:St->Prop} {k:List It} {I:Mu} {w w':World}
def yg{a:Act}{g:Operand}{l:Nat}{f:FuncId}{cv:List Value}(h:a.eval g=.func (.func f) #[] ⟨cv⟩):
 (resolve a.eval (rangeCall g l) 0).run P w=.ok { target:=.fn (.func f) ⟨cv⟩,args:=#[.func (.yield l) #[] #[]] } w:=by
 simp only[resolve,h,Deferred.ofValue];simp[go_sem]
def ab.Lf{g:VX}{ps:List Nat}{A B:bG}{gf:FuncId}{caps:List V}(hg:g.ev st.s=.fn gf caps){xs:List (List V)}{Z0:ag}(hs00:aa Z0 st.U)
 (hit:dZ P gf=true/\∀(Xe:Nat) (τ Jx:List (List V)->ag->Prop) (o:Ob),st.U Xe=none->
   (∀pre x post ZJ U,xs=pre++x::post->τ pre ZJ->aa ZJ U->
     YC P Xe x U λb Z'=>∃Xc,aY ZJ U Xc Z'/\((b=true/\τ (pre++[x]) Xc)\/(b=false/\Jx (pre++[x]) Xc)))->
   τ [] (C' Z0 Xe o)->uw P gf (.yl Xe::caps) (C' st.U Xe o) λ_ Z'=>τ xs Z'\/∃pre,pre <+: xs/\Jx pre Z')
 (hlen:∀x∈xs,x.length=ps.length)(exits:List Nat)(τ:List (List V)->ag->Prop)(Jx:Option Nat->List (List V)->ag->Prop)(h0:τ [] Z0)
 (hbody:∀pre x post ZJ U,xs=pre++x::post->τ pre ZJ->aa ZJ U->
   ab P n [.code A,.stop λst1=>ab P n (.code B::.stop (λZZ=>∃Z2,aY ZJ U Z2 ZZ.U/\τ (pre++[x]) Z2)::
    exK (exits.map λid=>(id,λZZ=>∃Z2,aY ZJ U Z2 ZZ.U/\Jx (some id) (pre++[x]) Z2))) st1 (λZZ=>∃Z2,aY ZJ U Z2 ZZ.U/\Jx none (pre++[x]) Z2)]
    ⟨n9 st.s ps x,U⟩ (λ_=>False))
 (hdone:∀Z',τ xs Z'->ab P n k ⟨st.s,Z'⟩ Q)
 (hexit:∀id∈exits,∀pre Z',pre <+: xs->Jx (some id) pre Z'->ab P n (.code (.exit id)::k) ⟨st.s,Z'⟩ Q)
 (hret:∀pre Z',pre <+: xs->Jx none pre Z'->ab P n (.code .ret::k) ⟨st.s,Z'⟩ Q):ab P n (.code (.ej g ps A B)::k) st Q:=by
 intro F hn kt hk a w hs;subst hn;obtain⟨z,YN,rfl,hy,Yc⟩:=dN hk;obtain⟨c0,rfl,hc⟩:=gw hy;have hc0:∃g0 ps0 a0 b0,c0=.rangeFunc g0 ps0 a0 b0/\cx F.n g0=g/\ps0.toList=ps/\dk P F.n a0=A/\dk P F.n b0=B:=by
  cases c0<;>simp only[dk,reduceCtorEq,bG.ej.injEq]at hc
  case region=>(split at hc;cases hc);split at hc<;>cases hc
  exact⟨_,_,_,_,rfl,hc.1,hc.2.1,hc.2.2.1,hc.2.2.2⟩
 obtain⟨g0,ps0,a0,b0,rfl,rfl,rfl,rfl,rfl⟩:=hc0;obtain⟨I,hs⟩:=hs;have hrg:=bU hs g0;rw[hg]at hrg;simp only[E']at hrg;obtain⟨cv,hgv,hcv⟩:=hrg;refine wpIn_rangeFunc λfn _=>?_;obtain⟨mark,W0,D,W9,Xi⟩:=hs.enter (P:=P) fn ps0 a0 b0;generalize hrec:({ state:=.ready,pending:=none,fn,tmps:=a.tmps,params:=ps0,assign:=a0,body:=b0,defers:=D }:Loop)=rec at Xi;have hr1:rec.state=.ready:=by rw[<-hrec]
 have hr2:rec.pending=none:=by rw[<-hrec]
 have hr3:rec.tmps=a.tmps:=by rw[<-hrec]
 have hr4:rec.params=ps0:=by rw[<-hrec]
 have hr5:rec.assign=a0:=by rw[<-hrec]
 have hr6:rec.body=b0:=by rw[<-hrec]
 have hszn:rec.tmps.size=F.n:=by rw[hr3];exact hs.size
 have henv:ar I (az I st.U) W0 ((List.range F.n).map st.s) (tmpsOf (.loop rec)):=by
  have hl:tmpsOf (.loop rec)=(List.range F.n).map λi=>a.tmps.getD i undef:=by
   simp only[tmpsOf,hr3];apply List.ext_getElem
   .simp[hs.size]
   .intro i h1 h2;simp only[dd,List.length_range]at h2;simp only[Array.getElem_toList,List.getElem_map,List.getElem_range];rw[Zq7,Array.getElem?_eq_getElem (by rw[hs.size];exact h2)];rfl
  rw[hl];have XF:∀l:List Nat,(∀i∈l,i<F.n)->ar I (az I st.U) W0 (l.map st.s) (l.map λi=>a.tmps.getD i undef):=by
   intro l
   induction l with
   |nil=>intro _;simp[ar]
   |cons i l ih=>
    intro h;simp only[eo,ar];exact⟨_,_,rfl,W9.slot i (h i (by simp)),ih λj hj=>h j (by simp[hj])⟩
  exact XF _ λi hi=>by simpa using hi
 obtain⟨Xe,hidn,X1,hid1,hle1,hsat1,Zv⟩:=W9.sat.RS (.loop rec) _ henv;generalize hE:(List.range F.n).map st.s=env at*;have hcvt:ar X1 (az X1 (C' st.U Xe (gh (.loop rec) env))) (W0.alloc (.loop rec)) caps cv:=by
  have h1:ar I (az I st.U) W0 caps cv:=by
   have h2:=bU W9 g0;rw[hg]at h2;simp only[E']at h2;obtain⟨cv',h3,h4⟩:=h2;have:a.eval g0=.func (.func gf) #[] ⟨cv'⟩:=h3;rw[hgv]at this;simp only[Value.func.injEq,Array.mk.injEq,true_and]at this;rw[this];exact h4
  exact ar.mono hle1 Zv (by simp) _ _ h1
 obtain⟨Yz,hiter⟩:=hit;have key:=hiter Xe (λpre ZJ=>ZJ Xe=some (gh (.loop rec) env)/\τ pre (del ZJ Xe))
  (λpre ZJ=>∃e:Option Nat,ZJ Xe=some (gh (.loop { rec with state:=.done,pending:=some (Kk e) }) env)/\Jx e pre (del ZJ Xe)/\∀id,e=some id->id∈exits)
  (gh (.loop rec) env) hidn ?_ ⟨af,by rw[Fe (hs00.none hidn)];exact h0⟩
 .refine⟨W0.heap.size,mark,_,_,_,gf,_,_,by rw[show F.ed.round=F.ed.round from rfl];exact Xi,yg hgv,λ_ _=>trivial,
   by simp only[invoke];exact mY Yz _,lG F,pI ?_⟩
  have XA:ar X1 (az X1 (C' st.U Xe (gh (.loop rec) env))) (W0.alloc (.loop rec)) (.yl Xe::caps) (.func (.yield W0.heap.size) #[] #[]::cv):=by
   simp only[ar];exact⟨_,_,rfl,by simp[E',hid1],hcvt⟩
  have XH:=key X1 _ _ hsat1.here XA;have hvals:(Value.func (.yield W0.heap.size) #[] #[]::cv).toArray=#[.func (.yield W0.heap.size) #[] #[]]++⟨cv⟩:=by
   apply Array.ext';simp
  rw[hvals]at XH;refine XH.mono ?_;rintro e w2 ⟨r,Z',Y',val,rfl,hp,hle2,ZM,-⟩;obtain⟨hs3,hk3⟩:=hsat1.compose ZM;have hid2:Y' Xe=.XK W0.heap.size 0 0:=(hle2 Xe (by rw[hid1];simp)).trans hid1;have fin:∀(rec2:Loop),Z' Xe=some (gh (.loop rec2) env)->rec2.state≠.busy->∃w4,(Instr.endLoop W0.heap.size).run P w2=.ok rec2.pending w4/\
   eE F ⟨st.s,del Z' Xe⟩ { a with defers:=mark++a.defers } w4:=by
   intro rec2 Yd WY;obtain⟨hl2,henv2⟩:=ZM.MG Yd hid2;refine⟨_,run_endLoop hl2 WY,Y',?_⟩;have hset:=hs3.RV Yd hid2 (.loop { rec2 with state:=.exhausted }) env henv2;have G':aa (del Z' Xe) (C' Z' Xe (gh (.loop { rec2 with state:=.exhausted }) env)):=λi o h=>by
    unfold del at h;split at h
    .cases h
    .rename_i hi;rw[ae hi];exact h
   have hks:=cM.sub (I:=Y') (w2.putObj W0.heap.size (.loop { rec2 with state:=.exhausted })) G';have hsz2:=ZM.size;have hkall:cM (az I st.U) (az Y' (del Z' Xe)) W0 (w2.putObj W0.heap.size (.loop { rec2 with state:=.exhausted })):=λb hb hn=>by
    obtain⟨q1,q2⟩:=Zv b hb hn;have hb1:b<(W0.alloc (.loop rec)).heap.size:=by simp;omega
    obtain⟨q3,q4⟩:=hk3 b hb1 q1;have XW:b<w2.heap.size:=Nat.lt_of_lt_of_le hb1 hsz2;obtain⟨q5,q6⟩:=hset.2 b XW q3;exact⟨λho=>q5 (ho.sub G'),q6.trans (q4.trans q2)⟩
   have hle3:cI I Y':=hle1.trans hle2;have hz:W0.heap.size<=(w2.putObj W0.heap.size (.loop { rec2 with state:=.exhausted })).heap.size:=by
    simp at hsz2|-;omega
   exact⟨hset.1.drop G',W9.le.trans hle3,W9.size,W9.book.lV hkall,λi hi=>E'.mono hle3 hkall hz _ _ (W9.slot i hi)⟩
  rcases hp with⟨Yd,hj⟩|⟨pre,hpre,e,Yd,hj,hin⟩
  .obtain⟨w4,g1,g2⟩:=fin rec Yd (by rw[hr1];simp);refine⟨_,w4,g1,?_⟩;rw[hr2];exact hdone _ hj F rfl YN Yc _ _ g2
  .obtain⟨w4,g1,g2⟩:=fin _ Yd (by simp);refine⟨_,w4,g1,?_⟩;cases e with
   |none=>exact hret pre _ hpre hj F rfl (.code .ret::YN) (by simp[KI.it,Yc,dk]) _ _ g2
   |some id=>exact hexit id (hin id rfl) pre _ hpre hj F rfl (.code (.exit id)::YN) (by simp[KI.it,Yc,dk]) _ _ g2
 .intro pre x post ZJ U Zw hJ G';have hx:x.length=rec.params.toList.length:=by rw[hr4];exact hlen x (by rw[Zw];simp)
  have hb:=hbody pre x post (del ZJ Xe) (del U Xe) Zw hJ.2 (Fm G');subst hE;refine Kx hr1 hr2 hszn hx hJ.1 G' (τ (pre++[x])) exits (λe=>Jx e (pre++[x])) ?_;rw[hr4,hr5,hr6];exact hb
def ab.ej{g:VX}{ps:List Nat}{A B:bG}{gf:FuncId}{caps:List V}(hg:g.ev st.s=.fn gf caps){xs:List (List V)}(hit:Iter P gf caps xs)
 (hlen:∀x∈xs,x.length=ps.length)(exits:List Nat)(τ:List (List V)->ag->Prop)(Jx:Option Nat->List (List V)->ag->Prop)(h0:τ [] st.U)
 (hbody:∀pre x post ZJ U,xs=pre++x::post->τ pre ZJ->aa ZJ U->
   ab P n [.code A,.stop λst1=>ab P n (.code B::.stop (λZZ=>∃Z2,aY ZJ U Z2 ZZ.U/\τ (pre++[x]) Z2)::
    exK (exits.map λid=>(id,λZZ=>∃Z2,aY ZJ U Z2 ZZ.U/\Jx (some id) (pre++[x]) Z2))) st1 (λZZ=>∃Z2,aY ZJ U Z2 ZZ.U/\Jx none (pre++[x]) Z2)]
    ⟨n9 st.s ps x,U⟩ (λ_=>False))
 (hdone:∀Z',τ xs Z'->ab P n k ⟨st.s,Z'⟩ Q)
 (hexit:∀id∈exits,∀pre Z',pre <+: xs->Jx (some id) pre Z'->ab P n (.code (.exit id)::k) ⟨st.s,Z'⟩ Q)
 (hret:∀pre Z',pre <+: xs->Jx none pre Z'->ab P n (.code .ret::k) ⟨st.s,Z'⟩ Q):ab P n (.code (.ej g ps A B)::k) st Q:=
 ab.Lf hg (aa.refl _) ⟨hit.1,λXe J' Jx' _ _ hb h=>hit.2 Xe J' Jx' _ hb h⟩ hlen exits τ Jx h0 hbody hdone hexit hret
variable {P:Program} {n:Nat} {st:St} {Q:St->Prop} {k:List It}
def dL(W2:List (List Nat))(A':List Nat):List Nat:=(List.range W2.length).filter λi=>!A'.contains i&&(W2.getD i []).all A'.contains
abbrev kj(ops:Array Oper):List (List Nat):=ops.toList.map λo=>(o.after.toList.filter (Region.binds .any)).map (·.on)
def yZ{ops:Array Oper}{arr:Array Bool}{A':List Nat}(hs:arr.size=ops.size)(hl:∀i,i<ops.size->arr.getD i true=A'.contains i)
 (ho:∀i∈A',i<ops.size):Region.ready .any ops arr=dL (kj ops) A':=by
 unfold Region.ready dL;have hlen:(kj ops).length=ops.size:=by simp[kj]
 rw[hlen];refine List.filter_congr λi hi=>?_;have hi:i<ops.size:=by simpa using hi
 rw[hl i hi];congr 1;have h1:ops[i]?=some ops[i]:=Array.getElem?_eq_getElem hi;have h2:(kj ops).getD i []=(ops[i].after.toList.filter (Region.binds .any)).map (·.on):=by
  rw[pW];simp[kj,hi]
 rw[h1,h2];simp only[Option.map_some,Option.getD_some];rw[<-Array.all_toList,List.all_map,List.all_filter];congr 1;funext e;simp only[Function.comp];have h3:arr.getD e.on false=A'.contains e.on:=by
  by_cases he:e.on<ops.size
  .rw[<-hl _ he,Zq7,Zq7,Array.getElem?_eq_getElem (by omega)];rfl
  .rw[Zq7,Array.getElem?_eq_none (by omega)];simp only[Option.getD_none];symm;rw[Bool.eq_false_iff];intro hc;exact he (ho _ (by simpa using hc))
 rw[h3]
def BB:(((((((type_of%@FP)/\(type_of%@Fs))/\((type_of%@FQ)/\(type_of%@yD)))/\(((type_of%@xg)/\(type_of%@ra))/\((type_of%@qP)/\(type_of%@ug))))/\((((type_of%@CO)/\(type_of%@tT))/\((type_of%@tD)/\(type_of%@C2)))/\(((type_of%@E8)/\(type_of%@yF))/\((type_of%@CX)/\(type_of%@CT)))))/\(((((type_of%@Fg)/\(type_of%@Dg))/\((type_of%@wm)/\(type_of%@FZ)))/\(((type_of%@BE)/\(type_of%@Cg))/\((type_of%@Fk)/\(type_of%@Db))))/\((((type_of%@SX)/\(type_of%@SC))/\((type_of%@HH)/\(type_of%@FF)))/\(((type_of%@Kz)/\(type_of%@JC))/\((type_of%@JY)/\((type_of%@HC)/\(type_of%@JS)))))))/\((((((type_of%@wO)/\(type_of%@xu))/\((type_of%@BH)/\(type_of%@vT)))/\(((type_of%@xU)/\(type_of%@wJ))/\((type_of%@tu)/\(type_of%@EU))))/\((((type_of%@Iq)/\(type_of%@I9))/\((type_of%@KG)/\(type_of%@Je)))/\(((type_of%@xr)/\(type_of%@tH))/\((type_of%@BY)/\((type_of%@HB)/\(type_of%@Nc))))))/\(((((type_of%@Ns)/\(type_of%@NC))/\((type_of%@Nj)/\(type_of%@Dh)))/\(((type_of%@CY)/\(type_of%@B5))/\((type_of%@IN)/\(type_of%@NA))))/\((((type_of%@Nv)/\(type_of%@Ng))/\((type_of%@Na)/\(type_of%@CA)))/\(((type_of%@CU)/\(type_of%@rP))/\((type_of%@EE)/\((type_of%@FO)/\(type_of%@Fb))))))))/\(((((((type_of%@yR)/\(type_of%@zg))/\((type_of%@Nn)/\(type_of%@Nu)))/\(((type_of%@Sx)/\(type_of%@RR))/\((type_of%@BT)/\(type_of%@Bl))))/\((((type_of%@xy)/\(type_of%@wZ))/\((type_of%@Bx)/\(type_of%@Fv)))/\(((type_of%@zF)/\(type_of%@Cm))/\((type_of%@y8)/\(type_of%@yV)))))/\(((((type_of%@qO)/\(type_of%@mT))/\((type_of%@af)/\(type_of%@FK)))/\(((type_of%@true_implies)/\(type_of%@false_implies))/\((type_of%@implies_true.{0})/\(type_of%@Dj))))/\((((type_of%@List.getD_cons_zero.{0})/\(type_of%@List.getD_cons_succ.{0}))/\((type_of%@List.getD_nil.{0})/\(type_of%@List.map_cons.{0,0})))/\(((type_of%@List.map_nil.{0,0})/\(type_of%@List.length_cons.{0}))/\((type_of%@List.length_nil.{0})/\((type_of%@List.drop_succ_cons.{0})/\(type_of%@List.drop_zero.{0})))))))/\((((((type_of%@List.take_succ_cons.{0})/\(type_of%@List.take_zero.{0}))/\((type_of%@List.set_cons_zero.{0})/\(type_of%@List.set_cons_succ.{0})))/\(((type_of%@List.append_nil.{0})/\(type_of%@List.nil_append.{0}))/\((type_of%@List.cons_append.{0})/\(type_of%@List.all_cons.{0}))))/\((((type_of%@List.all_nil.{0})/\(type_of%@List.getElem?_cons_zero.{0}))/\((type_of%@List.getElem?_cons_succ.{0})/\(type_of%@List.contains_cons.{0})))/\(((type_of%@List.contains_nil.{0})/\(type_of%@Option.isSome_some.{0}))/\((type_of%@Option.map_some.{0,0})/\((type_of%@Option.map_none.{0,0})/\(type_of%@true_and))))))/\(((((type_of%@and_true)/\(type_of%@and_self))/\((type_of%@Nat.zero_add)/\(type_of%@Nat.add_zero)))/\(((type_of%@Bool.not_true)/\(type_of%@Bool.not_false))/\((type_of%@Bool.false_eq_true)/\(type_of%@Bool.or_true))))/\((((type_of%@Bool.true_or)/\(type_of%@Bool.or_false))/\((type_of%@Bool.false_or)/\(type_of%@Bool.true_and)))/\(((type_of%@Bool.and_true)/\(type_of%@Bool.and_self))/\((type_of%@decide_true)/\((type_of%@decide_false)/\(type_of%@decide_eq_true_eq)))))))):=
 ⟨⟨⟨⟨⟨⟨⟨@FP,@Fs⟩,⟨@FQ,@yD⟩⟩,⟨⟨@xg,@ra⟩,⟨@qP,@ug⟩⟩⟩,⟨⟨⟨@CO,@tT⟩,⟨@tD,@C2⟩⟩,⟨⟨@E8,@yF⟩,⟨@CX,@CT⟩⟩⟩⟩,⟨⟨⟨⟨@Fg,@Dg⟩,⟨@wm,@FZ⟩⟩,⟨⟨@BE,@Cg⟩,⟨@Fk,@Db⟩⟩⟩,⟨⟨⟨@SX,@SC⟩,⟨@HH,@FF⟩⟩,⟨⟨@Kz,@JC⟩,⟨@JY,⟨@HC,@JS⟩⟩⟩⟩⟩⟩,⟨⟨⟨⟨⟨@wO,@xu⟩,⟨@BH,@vT⟩⟩,⟨⟨@xU,@wJ⟩,⟨@tu,@EU⟩⟩⟩,⟨⟨⟨@Iq,@I9⟩,⟨@KG,@Je⟩⟩,⟨⟨@xr,@tH⟩,⟨@BY,⟨@HB,@Nc⟩⟩⟩⟩⟩,⟨⟨⟨⟨@Ns,@NC⟩,⟨@Nj,@Dh⟩⟩,⟨⟨@CY,@B5⟩,⟨@IN,@NA⟩⟩⟩,⟨⟨⟨@Nv,@Ng⟩,⟨@Na,@CA⟩⟩,⟨⟨@CU,@rP⟩,⟨@EE,⟨@FO,@Fb⟩⟩⟩⟩⟩⟩⟩,⟨⟨⟨⟨⟨⟨@yR,@zg⟩,⟨@Nn,@Nu⟩⟩,⟨⟨@Sx,@RR⟩,⟨@BT,@Bl⟩⟩⟩,⟨⟨⟨@xy,@wZ⟩,⟨@Bx,@Fv⟩⟩,⟨⟨@zF,@Cm⟩,⟨@y8,@yV⟩⟩⟩⟩,⟨⟨⟨⟨@qO,@mT⟩,⟨@af,@FK⟩⟩,⟨⟨@true_implies,@false_implies⟩,⟨@implies_true.{0},@Dj⟩⟩⟩,⟨⟨⟨@List.getD_cons_zero.{0},@List.getD_cons_succ.{0}⟩,⟨@List.getD_nil.{0},@List.map_cons.{0,0}⟩⟩,⟨⟨@List.map_nil.{0,0},@List.length_cons.{0}⟩,⟨@List.length_nil.{0},⟨@List.drop_succ_cons.{0},@List.drop_zero.{0}⟩⟩⟩⟩⟩⟩,⟨⟨⟨⟨⟨@List.take_succ_cons.{0},@List.take_zero.{0}⟩,⟨@List.set_cons_zero.{0},@List.set_cons_succ.{0}⟩⟩,⟨⟨@List.append_nil.{0},@List.nil_append.{0}⟩,⟨@List.cons_append.{0},@List.all_cons.{0}⟩⟩⟩,⟨⟨⟨@List.all_nil.{0},@List.getElem?_cons_zero.{0}⟩,⟨@List.getElem?_cons_succ.{0},@List.contains_cons.{0}⟩⟩,⟨⟨@List.contains_nil.{0},@Option.isSome_some.{0}⟩,⟨@Option.map_some.{0,0},⟨@Option.map_none.{0,0},@true_and⟩⟩⟩⟩⟩,⟨⟨⟨⟨@and_true,@and_self⟩,⟨@Nat.zero_add,@Nat.add_zero⟩⟩,⟨⟨@Bool.not_true,@Bool.not_false⟩,⟨@Bool.false_eq_true,@Bool.or_true⟩⟩⟩,⟨⟨⟨@Bool.true_or,@Bool.or_false⟩,⟨@Bool.false_or,@Bool.true_and⟩⟩,⟨⟨@Bool.and_true,@Bool.and_self⟩,⟨@decide_true,⟨@decide_false,@decide_eq_true_eq⟩⟩⟩⟩⟩⟩⟩⟩
def CC:(∀(l:List V),V.cells (.agg l)=l)/\(V.cells (.undef )=[.undef ])/\(∀(k:IntKind) (i:Int),V.cells (.int k i)=[.int k i])/\(∀(b:Bool),V.cells (.bool b)=[.bool b])/\(∀(s:List UInt8),V.cells (.str s)=[.str s])/\(V.cells (.ay )=[.ay ])/\(∀(a:Nat) (l:List V),V.cells (.sl a l)=[.sl a l])/\(∀(a b c:Nat),V.cells (.own a b c)=[.own a b c])/\(∀(a b c:Nat),V.cells (.ptr a b c)=[.ptr a b c])/\(∀(a:V),V.cells (.rp a)=[.rp a])/\(V.cells (.XY )=[.XY ])/\(∀(f:FuncId) (l:List V),V.cells (.fn f l)=[.fn f l])/\(∀(f:FuncId) (l:List V),V.cells (.bm f l)=[.bm f l])/\(V.cells (.Xu )=[.Xu ])/\(∀(t:TypeId) (a:V),V.cells (.iface t a)=[.iface t a])/\(V.cells (.Xx )=[.Xx ])/\(∀(l:List V),V.cells (.WJ l)=[.WJ l])/\(∀(x:Value),V.cells (.raw x)=[.raw x])/\(∀(a:Nat),V.cells (.gp a)=[.gp a])/\(∀(a:Nat),V.cells (.yl a)=[.yl a])/\(∀(a:Nat),V.cells (.mp a)=[.mp a])/\(∀(l:List V),V.stays (.agg l)=true)/\(V.stays (.undef )=false)/\(∀(k:IntKind) (i:Int),V.stays (.int k i)=true)/\(∀(b:Bool),V.stays (.bool b)=true)/\(∀(s:List UInt8),V.stays (.str s)=true)/\(V.stays (.ay )=true)/\(∀(a:Nat) (l:List V),V.stays (.sl a l)=true)/\(∀(a b c:Nat),V.stays (.own a b c)=true)/\(∀(a b c:Nat),V.stays (.ptr a b c)=true)/\(∀(a:V),V.stays (.rp a)=true)/\(V.stays (.XY )=true)/\(∀(f:FuncId) (l:List V),V.stays (.fn f l)=true)/\(∀(f:FuncId) (l:List V),V.stays (.bm f l)=true)/\(V.stays (.Xu )=true)/\(∀(t:TypeId) (a:V),V.stays (.iface t a)=true)/\(V.stays (.Xx )=true)/\(∀(l:List V),V.stays (.WJ l)=false)/\(∀(a:Nat),V.stays (.gp a)=true)/\(∀(a:Nat),V.stays (.yl a)=true)/\(∀(a:Nat),V.stays (.mp a)=true):=
 ⟨λ_=>rfl,rfl,λ_ _=>rfl,λ_=>rfl,λ_=>rfl,rfl,λ_ _=>rfl,λ_ _ _=>rfl,λ_ _ _=>rfl,λ_=>rfl,rfl,λ_ _=>rfl,λ_ _=>rfl,rfl,λ_ _=>rfl,rfl,λ_=>rfl,λ_=>rfl,λ_=>rfl,λ_=>rfl,λ_=>rfl,λ_=>rfl,rfl,λ_ _=>rfl,λ_=>rfl,λ_=>rfl,rfl,λ_ _=>rfl,λ_ _ _=>rfl,λ_ _ _=>rfl,λ_=>rfl,rfl,λ_ _=>rfl,λ_ _=>rfl,rfl,λ_ _=>rfl,rfl,λ_=>rfl,λ_=>rfl,λ_=>rfl,λ_=>rfl⟩
def VD{p:Prop}[Decidable p]:(!decide p)=decide (¬p):=decide_not.symm
def sR{P:Program}{n:Nat}{todo:List It}{st:St}{Q:St->Prop}(h:step P Yp.nothing n 300 (.r todo) st Q):ab P n todo st Q:=ab.bt Yp.nothing 300 h
def sG{P:Program}{n:Nat}{t:Td}{st:St}{Q:St->Prop}(h:step P Yp.nothing n 300 t st Q):Go P n t st Q:=Go.bt Yp.nothing 300 t st h
attribute [go_sem] BB CC VD Yp.nothing bf ez aF dV iJ qv wh jB ft Hc lx da ue nr rk eK lE bX yd jW fI ec Ze DV jH ei mW iM fo jh mN Mr binBV ia ky
def aa.Mm{Z0 U:ag}{e:Nat}(h:aa Z0 U)(he:Z0 e=Option.none):aa Z0 (del U e):=λi x hx=>by
 have W6:i≠e:=λe'=>by rw[e',he]at hx;cases hx
 rw[dg W6];exact h i x hx
def jF:(∀{P:Program} {O:Yp P} {n:Nat} {k:List It} {st:St} {Q:St->Prop},step P O n 0 (.r k) st Q=Kof P n k st Q)/\(∀{P:Program} {n:Nat} {c:bG} {k:List It} {st:St} {Q:St->Prop},Kof P n (.code c::k) st Q=ab P n (.code c::k) st Q)/\
 (∀{P:Program} {n:Nat} {l:List aD} {k:List It} {st:St} {Q:St->Prop},Kof P n (.ops l::k) st Q=ab P n (.ops l::k) st Q)/\(∀{P:Program} {n id:Nat} {k:List It} {st:St} {Q:St->Prop},Kof P n (.inBlock id::k) st Q=ab P n (.inBlock id::k) st Q)/\
 ∀{P:Program} {n:Nat} {st:St} {Q:St->Prop},Kof P n [] st Q=ab P n [] st Q:=⟨rfl,rfl,rfl,rfl,rfl⟩
def Wk.ay{U Z':ag}(sz:Nat):Wk U Z' .ay (.sl sz []):=by
 intro I w0 w XN x hs hr;simp only[E']at hr|-;exact⟨none,0,by simpa using hr,by simp,.inl trivial⟩
def aM(K U:ag)(e sz:Nat)(v:V)(rows:List V):Prop:=(v=.ay/\rows=[])\/∃id,v=.own id 0 rows.length/\U id=some ⟨e,sz,rows⟩/\K id=none
def aM.wk{K U:ag}{e sz:Nat}{v:V}{rows:List V}(h:aM K U e sz v rows){K':ag}(hK:aa K' K)(hs:aa K' U):Wk U K' v (.sl sz rows):=by
 rcases h with⟨rfl,rfl⟩|⟨id,rfl,ho,hk⟩
 .exact Wk.ay sz
 .have:=Wk.own hs ho (hK.none hk) (off:=0) (len:=rows.length) (by simp);rw[wV,iR]at this;exact this
def aM.Ie{K U:ag}{e sz:Nat}{v:V}{rows:List V}(h:aM K U e sz v rows)(hs:aa K U){v0:V}(hv:V.sl sz rows=v0):
 ak v U λr Z'=>r=v0/\Z'=K:=⟨_,K,hs,h.wk (aa.refl K) hs,hv,rfl⟩
def eF{P:Program}{n:Nat}{Q:St->Prop}{k:List It}{O:Yp P}{f:Nat}{d:Option Nat}{l:List aD}{v:Nat->V}{ob:Ob}{s:Nat->V}{U:ag}{e:Option Nat}
 (h:∀id Z',aa (bz U e) Z'->Z' id=some ob->U id=none->step P O n f (.r (.ops l::k)) ⟨aQ s d (v id),Z'⟩ Q):
 L5 P O n f l k d ⟨s,U⟩ Q (some λid=>(v id,Vc.C' (bz U e) id ob)):=by
 rw[bK];refine λid P'=>h id _ ((aa.refl _).C' ?_) af P';cases e with
 |none=>exact P'
 |some e=>
  simp only[bz,del];split
  .rfl
  .exact P'
def ku{P:Program}{n:Nat}{Q:St->Prop}{k:List It}{O:Yp P}{f:Nat}{d:Option Nat}{l:List aD}{v:Nat->V}{ob:Ob}{s:Nat->V}{U:ag}{e:Option Nat}
 (h:∀id Z',aa (bz U e) Z'->Z' id=some ob->U id=none->step P O n f (.d l k) ⟨aQ s d (v id),Z'⟩ Q):
 HU P O n f l k d ⟨s,U⟩ Q (some λid=>(v id,Vc.C' (bz U e) id ob)):=by
 rw[fC];refine λid P'=>h id _ ((aa.refl _).C' ?_) af P';cases e with
 |none=>exact P'
 |some e=>
  simp only[bz,del];split
  .rfl
  .exact P'
def aM.dst{K U:ag}{e sz:Nat}{v:V}{rows:List V}(h:aM K U e sz v rows){Z1:ag}(hs:aa U Z1):
 ∃WW,bV Z1 e sz v=some (rows,WW)/\∀K':ag,aa K' K->∀Z2,aa K' Z2->aa K' (bz Z2 WW):=by
 rcases h with⟨rfl,rfl⟩|⟨id,rfl,ho,hk⟩
 .exact⟨none,rfl,λ_ _ _ h=>h⟩
 .refine⟨some id,?_,λK' hK Z2 h=>h.Mm (hK.none hk)⟩;simp only[bV,hs _ _ ho];rw[aq ⟨trivial,trivial,trivial,Xm _⟩,iR]
def aM.start{K U:ag}{e sz:Nat}:aM K U e sz .ay []:=.inl ⟨rfl,rfl⟩
def aM.new{K U:ag}{e sz id:Nat}{rows:List V}{n:Nat}(hn:n=rows.length)(h:U id=some ⟨e,sz,rows⟩)(hk:K id=none):aM K U e sz (.own id 0 n) rows:=by
 subst hn;exact .inr ⟨id,rfl,h,hk⟩
def aM.len{K U:ag}{e sz:Nat}{v:V}{rows:List V}(h:aM K U e sz v rows):cP false v=some (.int .i64 rows.length):=by
 rcases h with⟨rfl,rfl⟩|⟨id,rfl,ho,hk⟩<;>rfl
def aM.mono{K U Z':ag}{e sz:Nat}{v:V}{rows:List V}(h:aM K U e sz v rows)(hs:aa U Z'):aM K Z' e sz v rows:=by
 rcases h with h|⟨id,h1,h2,h3⟩
 .exact .inl h
 .exact .inr ⟨id,h1,hs _ _ h2,h3⟩
def du{U:ag}{id e sz:Nat}{r:V}(h:U id=some ⟨e,sz,[r]⟩):bI U sz (.own id 0 1)=some [r]:=by
 simp[bI,h]
def Wk.ptr{U Z':ag}(h:aa Z' U){id:Nat}{e sz:Nat}{r:V}(ho:U id=some ⟨e,sz,[r]⟩)(P':Z' id=none):Wk U Z' (.ptr id 0 0) (.rp r):=by
 intro I w0 w XN x hs hr;simp only[E']at hr|-;have Xz:=hs.obj id _ ho;split at hr
 .rename_i b sz' cap hb;obtain⟨rfl,hz⟩:=hr;rw[hb]at Xz;have H':b<w.heap.size:=az.lt hs ⟨id,_,_,_,ho,hb⟩;obtain⟨g1,g2,g3,g4,g5⟩:=Xz.rows hz;refine⟨b,_,rfl,H',.inr ?_,?_⟩
  .rintro⟨YQ,ob',sz'',cap'',e1,e2⟩;have:=hs.inj YQ id ob' _ _ _ _ _ _ (h _ _ e1) ho e2 hb;rw[this,P']at e1;cases e1
  .simp only[aT]at g5;have:=aT.mono (cI.refl I) (cM.sub w h) (Xm _) [r] b 0 sz' rfl (by simp only[aT];exact⟨g5.1,g5.2.1,trivial⟩);simp only[aT]at this;simpa using this.2.1
 .exact hr.elim
def Wk.fn{U Z':ag}{f:FuncId}{vs vs':List V}(h:WkL U Z' vs vs'):Wk U Z' (.fn f vs) (.fn f vs'):=by
 intro I w0 w XN x hs hr;simp only[E']at hr|-;obtain⟨WO,rfl,h1⟩:=hr;exact⟨WO,rfl,WkL.all hs h h1⟩
def FL(sz:Nat)(ks:List Nat):WD:=⟨26,.seq (.Za false [⟨some 4,.W1 (.c (.bool false)),none⟩]) (.seq (.seq (.Za false [⟨some 6,.W1 (.t 0),none⟩,⟨some 7,.len false (.t 6),none⟩,⟨some 8,.W1 (.t 1),none⟩,⟨some 9,.len false (.t 8),none⟩,⟨some 10,.bin .neq (.t 7) (.t 9),none⟩]) (.cond (.t 10) (.seq (.Za false [⟨some 4,.W1 (.c (.bool false)),none⟩]) .ret) .skip)) (.seq (.seq (.Za false [⟨some 5,.W1 (.c (.int .i64 0)),none⟩]) (.block 0 (.loop (.seq (.seq (.Za false [⟨some 11,.W1 (.t 5),none⟩,⟨some 12,.W1 (.t 0),none⟩,⟨some 13,.len false (.t 12),none⟩,⟨some 14,.bin .lss (.t 11) (.t 13),none⟩]) (.cond (.t 14) .skip (.exit 0))) (.seq (.block 1 (.seq (.Za true [⟨some 17,.W1 (.t 0),none⟩,⟨some 18,.W1 (.t 5),none⟩,⟨some 19,.ZG sz (.t 17) (.t 18),none⟩,⟨some 20,.load true sz (.t 19),none⟩,⟨some 21,.W1 (.t 1),none⟩,⟨some 22,.W1 (.t 5),none⟩,⟨some 23,.ZG sz (.t 21) (.t 22),none⟩,⟨some 24,.load true sz (.t 23),none⟩,⟨some 25,.eqS true ks (.t 20) (.t 24),none⟩]) (.cond (.t 25) (.seq (.Za false [⟨some 4,.W1 (.c (.bool false)),none⟩]) .ret) .skip))) (.Za false [⟨some 15,.W1 (.t 5),none⟩,⟨some 16,.bin .add (.t 15) (.c (.int .i64 1)),none⟩,⟨some 5,.W1 (.t 16),none⟩])))))) (.seq (.Za false [⟨some 4,.W1 (.c (.bool true)),none⟩]) .ret))),[.tmp (.t 4)]⟩
def Mc{P:Program}{f:FuncId}{fn:Func}(hf:P.funcs[f]?=some fn){sz:Nat}{ks:List Nat}(hc:cfn P fn=some (FL sz ks))(hk:dZ P f=true){α:Type}[DecidableEq α](enc:α->V)
 (he:∀a b,mW true ks (enc a) (enc b)=some (.bool (decide (a≠b))))(hl:∀U a,bF U true sz (.rp (enc a))=some (enc a))(xs ys:List α)(hx:xs.length<=1000000000000):
 aK P f [.sl sz (xs.map enc),.sl sz (ys.map enc)] (.bool (decide (xs=ys))):=λU=>by
 refine ax.jX hf hc hk (by simp[FL]) ?_;refine ab.mix 6 ?_;have n1:cP false (.sl sz (xs.map enc))=some (.int .i64 xs.length):=by simp[cP]
 have n2:cP false (.sl sz (ys.map enc))=some (.int .i64 ys.length):=by simp[cP]
 by_cases hlen:xs.length=ys.length
 .have q:((xs.length:Int)≠ys.length)=False:=O';apply sR;simp only[go_sem,seval,FL,n1,n2,q];refine ab.loop (λm st=>∃j,j<=xs.length/\m=xs.length-j/\xs.take j=ys.take j/\st.s 0=.sl sz (xs.map enc)/\st.s 1=.sl sz (ys.map enc)/\st.s 5=.int .i64 j/\st.U=U) xs.length ⟨0,by omega,rfl,rfl,rfl,rfl,rfl,rfl⟩ ?_;rintro m ⟨S,Z'⟩ ⟨j,hj,rfl,ht,t0,t1,t5,W4⟩;simp only at t0 t1 t5 W4;subst W4;refine ab.mix 6 ?_;by_cases H':j<xs.length
  .have q1:((j:Int)<xs.length)=True:=WE;have hlt2:j<ys.length:=by omega
   have i1:∀U,bp U sz (.sl sz (xs.map enc)) (.int .i64 j)=some (.rp (enc xs[j])):=λU=>by simp[bp,H']
   have i2:∀U,bp U sz (.sl sz (ys.map enc)) (.int .i64 j)=some (.rp (enc ys[j])):=λU=>by simp[bp,hlt2]
   have hee:=he xs[j] ys[j];have tx:=ZS H';have ty:=ZS hlt2;by_cases hq:xs[j]=ys[j]
   .rw[show decide (xs[j]≠ys[j])=false by simpa using hq]at hee;apply sR;simp only[BB,seval,bf,ez,aF,dV,iJ,Yp.nothing,t0,t1,t5,n1,q1,i1,i2,hl,hee];exact⟨ai,_,by omega,j+1,by omega,rfl,by rw[tx,ty,ht,hq],by simp⟩
   .rw[show decide (xs[j]≠ys[j])=true by simpa using hq]at hee;apply sR;simp only[BB,seval,bf,ez,aF,dV,iJ,Yp.nothing,t0,t1,t5,n1,q1,i1,i2,hl,hee];refine ak.same ?_;have:¬xs=ys:=λh=>hq (by simp only[h]);rw[Xr this]
  .have q1:((j:Int)<xs.length)=False:=O';apply sR;simp only[go_sem,seval,t0,t5,n1,q1];refine ak.same ?_;rw[lg (by omega),lg (by omega)]at ht;rw[XJ ht]
 .have q:((xs.length:Int)≠ys.length)=True:=WE;apply sR;simp only[go_sem,seval,FL,n1,n2,q];refine ak.same ?_;rw[Xr λh=>hlen (by rw[h])]
abbrev vI(n:Int):V:=.int .i64 n
structure YA where
 (top W3 WU WI XO Xj Xt head before after inside clear:Int)
deriving DecidableEq
def YA.cells(s:YA):List V:=[vI s.top,vI s.W3,vI s.WU,vI s.WI,vI s.XO,vI s.Xj,vI s.Xt,vI s.head,vI s.before,vI s.after,vI s.inside,vI s.clear]
structure Nd where
 (kind size:Int)
 (st:YA)
 (line space:Int)
 (words:List Int)
 (side w h:Int)
deriving DecidableEq
def bb(l:List Int):V:=.sl 1 (l.map vI)
def Nd.cells(x:Nd):List V:=[vI x.kind,vI x.size,vI x.st.top,vI x.st.W3,vI x.st.WU,vI x.st.WI,vI x.st.XO,vI x.st.Xj,vI x.st.Xt,vI x.st.head,vI x.st.before,vI x.st.after,vI x.st.inside,vI x.st.clear,
 vI x.line,vI x.space,bb x.words,vI x.side,vI x.w,vI x.h]
def jE(x:Nd):V:=.agg x.cells
def mx:Int:=1099511627776
def bj(n a b:Int):Bool:=decide (n>=a/\n<=b)
def YA.ok(s:YA):Bool:=bj s.top 0 mx&&bj s.W3 0 mx&&bj s.WU 0 mx&&bj s.WI 0 mx&&bj s.XO 0 mx&&bj s.Xj 1 mx&&bj s.Xt 1 mx&&bj s.head 0 mx&&
 bj s.before 0 4&&bj s.after 0 4&&bj s.inside 0 1&&bj s.clear 0 3
def YA.zero:YA:=⟨0,0,0,0,0,0,0,0,0,0,0,0⟩
def aC(l:List Nd):V:=.sl 20 (l.map jE)
def fj(l:List Nd):cP false (aC l)=some (.int .i64 l.length):=by simp[aC,cP]
def cg(l:List Nd):(aC l).cells=[aC l]:=rfl
def dR(l:List Nd):(aC l).stays=true:=rfl
end Go.Vc
