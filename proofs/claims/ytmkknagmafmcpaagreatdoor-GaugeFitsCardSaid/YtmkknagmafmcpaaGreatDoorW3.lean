/- Part 3 of the library of this proof. -/
import Derived.Test.YtmkknagmafmcpaaGreatDoorW2
import Derived.TacticsIn
import Derived.RangeFuncNested
import Derived.RangeFuncLeaves
import Derived.Orders
import Derived.OrdersIn
import Derived.Lib.SliceRun
import Derived.WideLaws
import Derived.Attr
import Derived.Laws.RangeString
import Derived.Laws.Runes
set_option linter.all false
set_option maxHeartbeats 8000000
namespace Go.Vc
inductive It where
 |code (c:bh)
 |inBlock (id:Nat)
 |ops (l:List aG)
 |stop (μ:St->Prop)
inductive KI where
 |code (c:Code)
 |inBlock (id:Nat)
 |ops (all:Array Oper) (l:List Oper)
 |stop (μ:St->Prop)
def KI.it(P:Program)(n:Nat):KI->It
 |.code c=>.code (dh P n c)
 |.inBlock id=>.inBlock id
 |.ops all l=>.ops (l.map (cq P n all))
 |.stop μ=>.stop μ
def Fr.eC(F:Fr):Fence:={ Fence.wide with round:=F.rd.map (·.1) }
def ke(F:Fr):F.eC.depth.isSome=true->1<=0:=λh=>by simp[Fr.eC,Fence.wide]at h
def nP{F:Fr}{n:Nat}{P:Program}{f:FuncId}{args:Array Value}{w:World}{R:Ending->World->Prop}(h:Calls P f args w R):CallsIn F.eC n P f args w R:=by
 have h1:CallsIn Fence.wide n P f args w R:=callsIn_wide.2 h;exact h1
def I0{F:Fr}{P:Program}{o:Oper}{a:Act}{w:World}{next:Act->World->Prop}{Q:Exit->Act->World->Prop}(hd:∀c,o.op≠.defer c)(h:o.wp P a w next Q):
 o.wpIn F.eC 0 P a w next Q:=by
 refine⟨λ_ _=>trivial,?_⟩;rw[Oper.semAt_eq _ _ _ hd];unfold Oper.wp at h;generalize (execOp a.eval o).run P w=r at*;cases r with
 |ok x w'=>
  cases x<;>simp only[Oper.upon,Oper.uponIn]at h|-<;>first
   |exact h
   |exact⟨ke F,nP h⟩
   |contradiction
   |skip
  exact⟨ke F,λc cs _=>let ⟨v,w',r,s⟩:=h c cs;⟨v,w',r,stepsIn_wide.2 s⟩⟩
 |halt x w'=>cases x<;>simp only[Oper.upon,Oper.uponIn]at h|-<;>first|exact h|contradiction
def nj{P:Program}{n:Nat}{o:Op}(h:PO P n o≠.bad)(c:Call):o≠.defer c:=λe=>by subst e;exact h rfl
def kN(P:Program)(F:Fr)(Q:St->Prop):List KI->Exit->Act->World->Prop
 |[],e,a,w=>(e=.normal\/e=.ret)/\∃st,Q st/\eH F st a w
 |.code c::k,e,a,w=>match e with
   |.normal=>c.wpIn F.eC 0 P (kN P F Q k) a w
   |e=>kN P F Q k e a w
 |.inBlock id::k,e,a,w=>Exit.inBlock id (kN P F Q k) e a w
 |.ops all l::k,e,a,w=>match e with
   |.normal=>wpListIn F.eC 0 P all (kN P F Q k) l a w
   |e=>kN P F Q k e a w
 |.stop μ::k,e,a,w=>match e with
   |.normal=>∃st,μ st/\eH F st a w
   |e=>kN P F Q k e a w
def ad(P:Program)(n:Nat)(todo:List It)(st:St)(Q:St->Prop):Prop:=
 ∀F:Fr,F.n=n->∀kt:List KI,kt.map (KI.it P n)=todo->∀a w,eH F st a w->kN P F Q kt .normal a w
variable {P:Program} {n:Nat} {st:St} {Q:St->Prop} {k:List It}
def ad.nil(h:Q st):ad P n [] st Q:=by
 intro F _ kt hk a w hs;cases kt with
 |nil=>exact⟨.inl rfl,st,h,hs⟩
 |cons x kt=>simp at hk
def dX{kt:List KI}{x:It}(h:kt.map (KI.it P n)=x::k):∃y RO,kt=y::RO/\y.it P n=x/\RO.map (KI.it P n)=k:=by
 cases kt with
 |nil=>simp at h
 |cons y RO=>simp only[dO,List.cons.injEq]at h;exact⟨y,RO,rfl,h.1,h.2⟩
def fY{y:KI}{c:bh}(h:y.it P n=.code c):∃c0,y=.code c0/\dh P n c0=c:=by
 cases y<;>simp only[KI.it,It.code.injEq,reduceCtorEq]at h;exact⟨_,rfl,h⟩
def ad.skip(h:ad P n k st Q):ad P n (.code .skip::k) st Q:=by
 intro F hn kt hk a w hs;obtain⟨y,RO,rfl,hy,QU⟩:=dX hk;obtain⟨c0,rfl,hc⟩:=fY hy;have TJ:c0=.skip:=by
  cases c0<;>simp only[dh,reduceCtorEq]at hc<;>(try (split at hc;cases hc))<;>(try (split at hc<;>cases hc))<;>try rfl
 subst TJ;exact wpIn_skip (h F hn RO QU a w hs)
def ad.seq{x y:bh}(h:ad P n (.code x::.code y::k) st Q):ad P n (.code (.seq x y)::k) st Q:=by
 intro F hn kt hk a w hs;obtain⟨z,RO,rfl,hy,QU⟩:=dX hk;obtain⟨c0,rfl,hc⟩:=fY hy;have TJ:∃x0 y0,c0=.seq x0 y0/\dh P n x0=x/\dh P n y0=y:=by
  cases c0<;>simp only[dh,reduceCtorEq,bh.seq.injEq]at hc
  case region=>(split at hc;cases hc);split at hc<;>cases hc
  exact⟨_,_,rfl,hc.1,hc.2⟩
 obtain⟨x0,y0,rfl,rfl,rfl⟩:=TJ;refine wpIn_seq (wpIn_mono (h F hn (.code x0::.code y0::RO) (by simp[KI.it,QU]) a w hs) ?_);intro e a' w' hq;cases e<;>exact hq
def ad.block{id:Nat}{x:bh}(h:ad P n (.code x::.inBlock id::k) st Q):ad P n (.code (.block id x)::k) st Q:=by
 intro F hn kt hk a w hs;obtain⟨z,RO,rfl,hy,QU⟩:=dX hk;obtain⟨c0,rfl,hc⟩:=fY hy;have TJ:∃x0,c0=.block id x0/\dh P n x0=x:=by
  cases c0<;>simp only[dh,reduceCtorEq,bh.block.injEq]at hc
  case region=>(split at hc;cases hc);split at hc<;>cases hc
  obtain⟨rfl,h2⟩:=hc;exact⟨_,rfl,h2⟩
 obtain⟨x0,rfl,rfl⟩:=TJ;exact wpIn_block (h F hn (.code x0::.inBlock id::RO) (by simp[KI.it,QU]) a w hs)
def ad.inBlock{id:Nat}(h:ad P n k st Q):ad P n (.inBlock id::k) st Q:=by
 intro F hn kt hk a w hs;obtain⟨z,RO,rfl,hy,QU⟩:=dX hk;cases z<;>simp only[KI.it,It.inBlock.injEq,reduceCtorEq]at hy;exact h F hn RO QU a w hs
def ad.stop{μ:St->Prop}(h:μ st):ad P n (.stop μ::k) st Q:=by
 intro F hn kt hk a w hs;obtain⟨z,RO,rfl,hy,QU⟩:=dX hk;cases z<;>simp only[KI.it,It.stop.injEq,reduceCtorEq]at hy;subst hy;exact⟨st,h,hs⟩
def dH(id:Nat):List It->Option (List It)
 |[]=>none
 |.inBlock j::k=>if id=j then some k else dH id k
 |_::k=>dH id k
def kM{F:Fr}{id:Nat}{a:Act}{w:World}:∀{kt:List KI} {k':List It},dH id (kt.map (KI.it P n))=some k'->
 (∀RO,RO.map (KI.it P n)=k'->kN P F Q RO .normal a w)->kN P F Q kt (.exit id) a w
 |[],_,h,_=>by simp[dH]at h
 |.code c::kt,_,h,hq=>kM (kt:=kt) (by simpa[KI.it,dH]using h) hq
 |.ops all l::kt,_,h,hq=>kM (kt:=kt) (by simpa[KI.it,dH]using h) hq
 |.stop μ::kt,_,h,hq=>kM (kt:=kt) (by simpa[KI.it,dH]using h) hq
 |.inBlock j::kt,k',h,hq=>by
  simp only[dO,KI.it,dH]at h;simp only[kN,Exit.inBlock];by_cases hj:id=j
  .rw[aE hj]at h|-;simp only[bb]at h;exact hq kt h
  .rw[aF hj]at h|-;exact kM h hq
def ad.exit{id:Nat}{k':List It}(hp:dH id k=some k')(h:ad P n k' st Q):ad P n (.code (.exit id)::k) st Q:=by
 intro F hn kt hk a w hs;obtain⟨z,RO,rfl,hy,QU⟩:=dX hk;obtain⟨c0,rfl,hc⟩:=fY hy;have TJ:c0=.exit id:=by
  cases c0<;>simp only[dh,reduceCtorEq,bh.exit.injEq]at hc
  case region=>(split at hc;cases hc);split at hc<;>cases hc
  rw[hc]
 subst TJ;exact wpIn_exit (kM (n:=n) (by rw[QU];exact hp) (λkt'' h''=>h F hn kt'' h'' a w hs))
def ld{F:Fr}{a:Act}{w:World}(h:∃st,Q st/\eH F st a w):∀(kt:List KI),kN P F Q kt .ret a w
 |[]=>⟨.inr rfl,h⟩
 |.code _::kt=>ld h kt
 |.inBlock _::kt=>ld h kt
 |.ops _ _::kt=>ld h kt
 |.stop _::kt=>ld h kt
def ad.ret(h:Q st):ad P n (.code .ret::k) st Q:=by
 intro F hn kt hk a w hs;obtain⟨z,RO,rfl,hy,QU⟩:=dX hk;obtain⟨c0,rfl,hc⟩:=fY hy;have TJ:c0=.ret:=by
  cases c0<;>simp only[dh,reduceCtorEq]at hc<;>(try (split at hc;cases hc))<;>(try (split at hc<;>cases hc))<;>try rfl
 subst TJ;exact wpIn_ret (ld ⟨st,h,hs⟩ RO)
def ad.cond{c:VX}{x y:bh}{b:Bool}(hc:c.ev st.s=.bool b)(h1:b=true->ad P n (.code x::k) st Q)(h2:b=false->ad P n (.code y::k) st Q):
 ad P n (.code (.cond c x y)::k) st Q:=by
 intro F hn kt hk a w hs;obtain⟨z,RO,rfl,hy,QU⟩:=dX hk;obtain⟨c0,rfl,Q1⟩:=fY hy;have TJ:∃o x0 y0,c0=.cond o x0 y0/\cx n o=c/\dh P n x0=x/\dh P n y0=y:=by
  cases c0<;>simp only[dh,reduceCtorEq,bh.cond.injEq]at Q1
  case region=>(split at Q1;cases Q1);split at Q1<;>cases Q1
  exact⟨_,_,_,rfl,Q1.1,Q1.2.1,Q1.2.2⟩
 obtain⟨o,x0,y0,rfl,rfl,rfl,rfl⟩:=TJ;obtain⟨I,PW⟩:=hs;have he:=bK PW o;rw[hn,hc]at he;simp only[A']at he;exact wpIn_cond_split he (λhb=>h1 hb F hn (.code x0::RO) (by simp[KI.it,QU]) a w ⟨I,PW⟩) (λhb=>h2 hb F hn (.code y0::RO) (by simp[KI.it,QU]) a w ⟨I,PW⟩)
def ad.region{l:List aG}(h:ad P n (.ops l::k) st Q):ad P n (.code (.VP false l)::k) st Q:=by
 intro F hn kt hk a w hs;obtain⟨z,RO,rfl,hy,QU⟩:=dX hk;obtain⟨c0,rfl,Q1⟩:=fY hy;have TJ:∃id ops,c0=.region id ops false/\ops.toList.map (cq P n ops)=l:=by
  cases c0<;>simp only[dh,reduceCtorEq]at Q1;rename_i id ops draw;cases draw
  .simp only[Bool.false_and,gj,if_false,bh.VP.injEq,true_and]at Q1;exact⟨id,ops,rfl,Q1⟩
  .simp only[Bool.true_and]at Q1;split at Q1
   .cases Q1
   .split at Q1
    .cases Q1
    .simp at Q1
 obtain⟨id,ops,rfl,rfl⟩:=TJ;exact wpIn_region_list (h F hn (.ops ops ops.toList::RO) (by simp[KI.it,QU]) a w hs)
def ad.IA(h:ad P n k st Q):ad P n (.ops []::k) st Q:=by
 intro F hn kt hk a w hs;obtain⟨z,RO,rfl,hy,QU⟩:=dX hk;cases z<;>simp only[KI.it,It.ops.injEq,reduceCtorEq,List.map_eq_nil_iff]at hy;subst hy;exact h F hn RO QU a w hs
def bl(s:Nat->V):Option (VX×Bool)->Option Bool
 |none=>some true
 |some (x,b)=>match x.ev s with
    |.bool c=>some (c==b)
    |.PI []=>some false
    |.int _ _=>some false
    |_=>none
def sC{F:Fr}{I:Mu}{st:St}{a:Act}{w:World}(hs:cI F I st a w)(all:Array Oper)(o:Oper){b:Bool}(h:bl st.s (cq P F.n all o).g=some b):
 Region.wanted o (yielded all a.tmps)=b:=by
 unfold Region.wanted;cases hg:o.guard with
 |none=>simp[cq,hg,bl]at h;simp[h]
 |some g=>
  obtain⟨j,want⟩:=g;simp only[cq,hg,Option.map_some,bl]at h;cases hd:(all[j]?).bind (·.dst)with
  |none=>
   simp only[hd,VX.ev]at h;simp only[bb]at h;subst h;simp[yielded,hd]
  |some d=>
   simp only[hd]at h;by_cases WJ:d<F.n
   .simp only[aE WJ,VX.ev]at h;have hr:=hs.slot d WJ;have QG:a.tmps[d]?=some (a.tmps.getD d undef):=by
     rw[SW,Array.getElem?_eq_getElem (by rw[hs.size];exact WJ)];rfl
    simp only[yielded,hd,Option.bind_some,QG];split at h
    .rename_i c hc;rw[hc]at hr;simp only[A']at hr;rw[hr];simp only[bb]at h;rw[<-h];rfl
    .rename_i hc;rw[hc]at hr;simp only[A',aq]at hr;obtain⟨vals,hv,rfl⟩:=hr;rw[hv];simp only[bb]at h;rw[<-h];rfl
    .rename_i hc;rw[hc]at hr;simp only[A']at hr;rw[hr];simp only[bb]at h;rw[<-h];rfl
    .cases h
   .simp only[aF WJ,VX.ev]at h;simp only[bb]at h;have hle:a.tmps.size<=d:=by rw[hs.size];exact Nat.le_of_not_lt WJ
    have:a.tmps[d]?=none:=Array.getElem?_eq_none hle;simp[yielded,hd,this,<-h]
def St.put(st:St)(d:Option Nat)(v:V):St:=⟨aW st.s d v,st.U⟩
def ad.Jj{i:aG}{l:List aG}(hw:bl st.s i.g=some true)
 (h:∀(F:Fr),F.n=n->∀(I:Mu) (a:Act) (w:World) (o:Oper) (all:Array Oper),cq P n all o=i->cI F I st a w->
   ∀(next:Act->World->Prop) (Q':Exit->Act->World->Prop),(∀SB a' w',eH F SB a' w'->ad P n (.ops l::k) SB Q->next a' w')->o.wpIn F.eC 0 P a w next Q'):
 ad P n (.ops (i::l)::k) st Q:=by
 intro F hn kt hk a w hs;obtain⟨z,RO,rfl,hy,QU⟩:=dX hk;cases z<;>simp only[KI.it,It.ops.injEq,reduceCtorEq]at hy;rename_i all os;cases os with
 |nil=>simp at hy
 |cons o os=>
  simp only[dO,List.cons.injEq]at hy;obtain⟨hi,hl⟩:=hy;obtain⟨I,PW⟩:=hs;have Uz:=sC (P:=P) PW all o (b:=true) (by rw[hn,hi];exact hw);simp only[kN,wpListIn,Uz,if_true];refine h F hn I a w o all hi PW _ _ ?_;intro SB a' w' hs'' hsem;exact hsem F hn (.ops all os::RO) (by simp[KI.it,hl,QU]) a' w' hs''
def ad.ins{i:aG}{l:List aG}(hb:i.op≠.bad)(hw:bl st.s i.g=some true)
 (h:∀(F:Fr),F.n=n->∀(I:Mu) (a:Act) (w:World) (o:Oper) (all:Array Oper),cq P n all o=i->cI F I st a w->
   ∀(next:Act->World->Prop) (Q':Exit->Act->World->Prop),(∀SB a' w',eH F SB a' w'->ad P n (.ops l::k) SB Q->next a' w')->o.wp P a w next Q'):
 ad P n (.ops (i::l)::k) st Q:=by
 refine ad.Jj hw λF hn I a w o all hi hs next Q' M'=>I0 ?_ (h F hn I a w o all hi hs next Q' M')
 refine nj (P:=P) (n:=n) ?_;have:i.op=PO P n o.op:=by rw[<-hi];rfl
 rw[<-this];exact hb
def ad.yu{i:aG}{l:List aG}(hw:bl st.s i.g=some false)(h:ad P n (.ops l::k) (st.put i.dst (.PI [])) Q):ad P n (.ops (i::l)::k) st Q:=by
 intro F hn kt hk a w hs;obtain⟨z,RO,rfl,hy,QU⟩:=dX hk;cases z<;>simp only[KI.it,It.ops.injEq,reduceCtorEq]at hy;rename_i all os;cases os with
 |nil=>simp at hy
 |cons o os=>
  simp only[dO,List.cons.injEq]at hy;obtain⟨hi,hl⟩:=hy;obtain⟨I,PW⟩:=hs;have Uz:=sC (P:=P) PW all o (b:=false) (by rw[hn,hi];exact hw);simp only[kN,wpListIn,Uz,gj,if_false];refine⟨λ_ _=>trivial,?_⟩;refine h F hn (.ops all os::RO) (by simp[KI.it,hl,QU]) _ w ⟨I,?_⟩;have hd:i.dst=o.dst.filter (·<F.n):=by rw[<-hi,hn];rfl
  rw[St.put,hd];exact PW.pure (by simp only[A'];exact⟨[],rfl,by simp[aq]⟩)
def ad.pure{i:aG}{l:List aG}{v:V}(hw:bl st.s i.g=some true)(hp:eT st.s i.op)(hv:aH st.U st.s i.op=some v)
 (h:ad P n (.ops l::k) (st.put i.dst v) Q):ad P n (.ops (i::l)::k) st Q:=by
 refine ad.ins (λe=>by rw[e]at hv;simp[aH]at hv) hw λF hn I a w o all hi hs next Q' M'=>?_
 subst hn;have PL:i.op=PO P F.n o.op:=by rw[<-hi];rfl
 have hd:i.dst=o.dst.filter (·<F.n):=by rw[<-hi];rfl
 obtain⟨z,hz,hr⟩:=rA hs o (PL▸hp) (PL▸hv);unfold Oper.wp;rw[hz];refine M' (st.put i.dst v) _ _ ⟨I,?_⟩ h;rw[St.put,hd];exact hs.pure hr
variable {P:Program} {n:Nat} {st:St} {Q:St->Prop} {k:List It}
def El{F:Fr}{o:Oper}{a:Act}{w:World}{next next':Act->World->Prop}{R R':Exit->Act->World->Prop}(h:o.wpIn F.eC 0 P a w next R)
 (hn:∀a w,next a w->next' a w)(hq:∀e a w,e≠.normal->R e a w->R' e a w):o.wpIn F.eC 0 P a w next' R':=by
 refine⟨h.1,?_⟩;have h:=h.2;generalize (o.semAt F.eC.round a.eval).run P w=r at*;cases r with
 |ok x w'=>
  cases x<;>simp only[Oper.uponIn]at h|-<;>first
   |exact hn _ _ h
   |exact⟨h.1,CallsIn.mono h.2 (λe ZL he=>by cases e<;>first|exact hn _ _ he|exact hq _ _ _ (by simp) he|(obtain⟨a0,w0,h2⟩:=he;exact⟨a0,w0,hq _ _ _ (by simp) h2⟩))⟩
   |exact⟨h.1,RowsIn.mono h.2 (λ_ _ he=>hn _ _ he)⟩
   |exact⟨h.1,RoundIn.mono h.2 (λe ZL he=>by cases e<;>first|exact hn _ _ he|exact hq _ _ _ (by simp) he|(obtain⟨a0,w0,h2⟩:=he;exact⟨a0,w0,hq _ _ _ (by simp) h2⟩))⟩
   |contradiction
 |halt x w'=>cases x<;>simp only[Oper.uponIn]at h|-<;>first|exact hq _ _ _ (by simp) h|contradiction
def mD{F:Fr}{all:Array Oper}{R R':Exit->Act->World->Prop}(hq:∀e a w,R e a w->R' e a w):∀(l:List Oper) (a:Act) (w:World),wpListIn F.eC 0 P all R l a w->wpListIn F.eC 0 P all R' l a w
 |[],a,w,h=>hq _ _ _ h
 |o::l,a,w,h=>by
  simp only[wpListIn]at h|-;split
  .rename_i hw;simp only[hw,if_true]at h;exact El h (mD hq l) (λe a w _=>hq e a w)
  .rename_i hw;simp only[hw]at h;exact⟨h.1,mD hq l _ _ h.2⟩
def Wk(U Z':ag)(v v':V):Prop:=∀(I:Mu) (w0 w:World) (QA:Nat->Prop) (x:Value),Sat w0 QA I U w->A' I (aB I U) w v x->A' I (aB I Z') w v' x
def Wk.refl{U Z':ag}(h:aa Z' U)(v:V):Wk U Z' v v:=λI _ w _ x _ hr=>A'.mono (cm.refl I) (cG.sub w h) (Qh _) v x hr
def Wk.undef{U Z':ag}(v:V):Wk U Z' v .undef:=λ_ _ _ _ _ _ _=>by simp[A']
def Wk.own{U Z':ag}(h:aa Z' U){id off len:Nat}{ob:Ob}(ho:U id=some ob)(hid:Z' id=none)(hl:off+len<=ob.rows.length):
 Wk U Z' (.own id off len) (.sl ob.sz ((ob.rows.drop off).take len)):=by
 intro I w0 w QA x hs hr;simp only[A']at hr|-;have hlen:((ob.rows.drop off).take len).length=len:=by simp;omega
 have QK:=hs.obj id ob ho;split at hr
 .exact hr.elim
 .obtain⟨rfl,rfl,rfl⟩:=hr;exact⟨none,0,by simp,by simp,.inl (by simp)⟩
 .rename_i b sz cap hb;obtain⟨o,c,rfl,h1,h2,h3,hz⟩:=hr;refine⟨_,c,by rw[hlen],by omega,?_⟩;by_cases h0:len=0
  .left;subst h0;simp
  .right;rw[hb]at QK;obtain⟨g1,g2,g3,g4,g5⟩:=QK.rows hz;have WK:o=off*sz:=by
    rcases h3 with h3|h3
    .exact h3
    .omega
   subst WK g1;refine⟨b,_,rfl,?_,g2,?_⟩
   .rintro⟨Sd,ZM,Sr,QP,e1,e2⟩;have:=hs.inj Sd id ZM ob _ _ _ _ _ (h _ _ e1) ho e2 hb;rw[this,hid]at e1;cases e1
   .have:=(g5.drop off).take len;rw[gY]at this;exact aX.mono (cm.refl I) (cG.sub w h) (Qh _) _ _ _ _ rfl this
def Xi(U Z':ag):List V->List V->Prop
 |[],[]=>True
 |v::vs,v'::vs'=>Wk U Z' v v'/\Xi U Z' vs vs'
 |_,_=>False
def Xi.all{U Z':ag}{I:Mu}{w0 w:World}{QA:Nat->Prop}(hs:Sat w0 QA I U w):∀{vs vs':List V} {l:List Value},Xi U Z' vs vs'->
 aq I (aB I U) w vs l->aq I (aB I Z') w vs' l
 |[],[],_,_,h=>by simpa[aq]using h
 |v::vs,v'::vs',l,hw,h=>by
  simp only[aq]at h|-;obtain⟨x,xs,rfl,h1,h2⟩:=h;exact⟨x,xs,rfl,hw.1 I w0 w QA x hs h1,Xi.all hs hw.2 h2⟩
 |[],_::_,_,hw,_=>hw.elim
 |_::_,[],_,hw,_=>hw.elim
def Wk.agg{U Z':ag}{vs vs':List V}(h:Xi U Z' vs vs'):Wk U Z' (.agg vs) (.agg vs'):=by
 intro I w0 w QA x hs hr;simp only[A']at hr|-;obtain⟨vals,rfl,h1,h2⟩:=hr;exact⟨vals,rfl,Xi.all hs h h1,h2⟩
def Wk.PI{U Z':ag}{vs vs':List V}(h:Xi U Z' vs vs'):Wk U Z' (.PI vs) (.PI vs'):=by
 intro I w0 w QA x hs hr;simp only[A']at hr|-;obtain⟨vals,rfl,h1⟩:=hr;exact⟨vals,rfl,Xi.all hs h h1⟩
def J3(st SB:St):Prop:=aa SB.U st.U/\∀i,Wk st.U SB.U (st.s i) (SB.s i)
def J3.sat{st SB:St}(h:J3 st SB){F:Fr}{a:Act}{w:World}(hs:eH F st a w):eH F SB a w:=by
 obtain⟨I,hs⟩:=hs;exact⟨I,hs.sat.drop h.1,hs.le,hs.size,hs.book.pV (cG.sub w h.1),λi hi=>h.2 i I _ _ _ _ hs.sat (hs.slot i hi)⟩
def ad.weaken{todo:List It}{SB:St}(h:J3 st SB)(hr:ad P n todo SB Q):ad P n todo st Q:=
 λF hn kt hk a w hs=>hr F hn kt hk a w (h.sat hs)
def u4{F:Fence}{m0:Nat}{c:Code}{Q':Exit->Act->World->Prop}(μ:Nat->Act->World->Prop)
 (round:∀m a w,μ m a w->c.wpIn F m0 P (Exit.then (λa' w'=>∃m',m'<m/\μ m' a' w') Q') a w):∀m a w,μ m a w->(Code.loop c).wpIn F m0 P Q' a w:=by
 intro m a w h b k cs UA hb hr;have key:∀m a w,μ m a w->∃e a' w',Q' e a' w'/\ArrivesIn (Machine.fenced P F) P (lone (b.atR a (.code c::.inLoop c::k)) cs w) b k cs e a' w':=by
  intro m
  induction m using Nat.strongRecOn with
  |_ m ih=>
   intro a w hI;obtain⟨e,a₁,w₁,hq,VW⟩:=round m a w hI b (.inLoop c::k) cs UA hb hr;cases e with
   |normal=>
    obtain⟨m',C',hI'⟩:=hq;obtain⟨e₂,a₂,w₂,hq₂,harr₂⟩:=ih m' C' a₁ w₁ hI';exact⟨e₂,a₂,w₂,hq₂,.of_steps (StepsIn.trans VW (.one (fenced_calm hb hr rfl) stepR_inLoop)) harr₂⟩
   |exit id=>exact⟨_,a₁,w₁,hq,.pass (x:=.inLoop c) rfl (λ_ _=>.inl (by simp)) VW⟩
   |goto l=>exact⟨_,a₁,w₁,hq,.pass (x:=.inLoop c) rfl (λ_ _=>.inl (by simp)) VW⟩
   |ret=>exact⟨_,a₁,w₁,hq,.pass (x:=.inLoop c) rfl (λ_ _=>.inl (by simp)) VW⟩
   |panic ch=>exact⟨_,a₁,w₁,hq,.pass (x:=.inLoop c) rfl (λ_ _=>.inl (by simp)) VW⟩
   |outgrown=>exact⟨_,a₁,w₁,hq,.pass (x:=.inLoop c) rfl (λ_ _=>.inl (by simp)) VW⟩
 obtain⟨e,a',w',hq,VW⟩:=key m a w h;exact⟨e,a',w',hq,.of_steps (.one (fenced_calm hb hr rfl) stepR_loop) VW⟩
def ad.loop{x:bh}(μ:Nat->St->Prop)(m:Nat)(h0:μ m st)(hr:∀m st,μ m st->ad P n (.code x::.stop (λSB=>∃m',m'<m/\μ m' SB)::k) st Q):
 ad P n (.code (.loop x)::k) st Q:=by
 intro F hn kt hk a w hs;obtain⟨z,RO,rfl,hy,QU⟩:=dX hk;obtain⟨c0,rfl,hc⟩:=fY hy;have TJ:∃x0,c0=.loop x0/\dh P n x0=x:=by
  cases c0<;>simp only[dh,reduceCtorEq,bh.loop.injEq]at hc
  case region=>(split at hc;cases hc);split at hc<;>cases hc
  exact⟨_,rfl,hc⟩
 obtain⟨x0,rfl,rfl⟩:=TJ;refine u4 (λm a w=>∃st,μ m st/\eH F st a w) ?_ m a w ⟨st,h0,hs⟩;rintro m a w ⟨st,hi,hs⟩;refine wpIn_mono (hr m st hi F hn (.code x0::.stop (λSB=>∃m',m'<m/\μ m' SB)::RO) (by simp[KI.it,QU]) a w hs) ?_;intro e a' w' h;cases e
 case normal=>obtain⟨SB,⟨m',C',Yg⟩,PW⟩:=h;exact⟨m',C',SB,Yg,PW⟩
 all_goals exact h
variable {P:Program} {n:Nat} {st:St} {Q:St->Prop} {k:List It}
def vE{o:Op}{e sz:Nat}{z:V}(h:PO P n o=.alloc e sz z):∃i zv,o=.alloc e/\zeroOf P e=some (i,zv)/\i.size=sz/\ofValue zv=z:=by
 cases o
 case alloc t=>
  simp only[PO,bE]at h;split at h
  .rename_i i zv hz;simp only[Qc.alloc.injEq]at h;obtain⟨rfl,h2,h3⟩:=h;exact⟨i,zv,rfl,hz,h2,h3⟩
  ·(repeat' split at h)<;>cases h
 case call c=>
  obtain⟨callee,args,argTypes⟩:=c;cases callee
  case builtin b=>cases b<;>simp only[PO,bE]at h<;>(repeat' split at h)<;>cases h
  all_goals (simp only[PO,bE]at h;cases h)
 case unOp op t x=>cases op<;>simp only[PO,bE]at h<;>cases h
 case makeFunc f a b=>cases f<;>simp only[PO,bE]at h<;>(repeat' split at h)<;>cases h
 all_goals (simp only[PO,bE]at h;(repeat' split at h)<;>cases h)
def vN{o:Op}{sz:Nat}{xa xv:VX}(h:PO P n o=.store sz xa xv):∃t x y,o=.store t x y/\bS P t=true/\P.cellsOf t=sz/\cx n x=xa/\cx n y=xv:=by
 cases o
 case store t x y=>
  simp only[PO,bE]at h;split at h
  .rename_i hk;simp only[Qc.store.injEq]at h;exact⟨t,x,y,rfl,hk,h.1,h.2.1,h.2.2⟩
  ·(repeat' split at h)<;>cases h
 case call c=>
  obtain⟨callee,args,argTypes⟩:=c;cases callee
  case builtin b=>cases b<;>simp only[PO,bE]at h<;>(repeat' split at h)<;>cases h
  all_goals (simp only[PO,bE]at h;cases h)
 case unOp op t x=>cases op<;>simp only[PO,bE]at h<;>cases h
 case makeFunc f a b=>cases f<;>simp only[PO,bE]at h<;>(repeat' split at h)<;>cases h
 all_goals (simp only[PO,bE]at h;(repeat' split at h)<;>cases h)
def tw{o:Op}{e sz:Nat}{xs:List VX}(h:PO P n o=.ed e sz xs):∃t len parts i z,o=.buildSlice t len parts/\P.underlying t=some (.slice e)/\zeroOf P e=some (i,z)/\
 i.size=sz/\parts.toList.map (·.1)=List.range len/\len*i.size<=16777216/\parts.toList.map (λp=>cx n p.2)=xs:=by
 cases o
 case buildSlice t len parts=>
  simp only[PO,bE]at h;split at h
  .rename_i e' he;split at h
   .rename_i i z hz;split at h
    .rename_i hc;simp only[Qc.ed.injEq]at h;obtain⟨rfl,h2,h3⟩:=h;exact⟨t,len,parts,i,z,rfl,he,hz,h2,hc.1,hc.2,h3⟩
    .cases h
   .cases h
  .cases h
 case call c=>
  obtain⟨callee,args,argTypes⟩:=c;cases callee
  case builtin b=>cases b<;>simp only[PO,bE]at h<;>(repeat' split at h)<;>cases h
  all_goals (simp only[PO,bE]at h;cases h)
 case unOp op t x=>cases op<;>simp only[PO,bE]at h<;>cases h
 case makeFunc f a b=>cases f<;>simp only[PO,bE]at h<;>(repeat' split at h)<;>cases h
 all_goals (simp only[PO,bE]at h;(repeat' split at h)<;>cases h)
def GK{o:Op}{e sz bytes:Nat}{zv:V}{xn:VX}(h:PO P n o=.mk e sz bytes zv xn):∃t l c i z,o=.makeSlice t l c/\P.underlying t=some (.slice e)/\zeroOf P e=some (i,z)/\
 i.size=sz/\i.bytes=bytes/\ofValue z=zv/\sq l c=true/\cx n l=xn:=by
 cases o
 case makeSlice t l c=>
  simp only[PO,bE]at h;split at h
  .rename_i e' he;split at h
   .rename_i i z hz;split at h
    .rename_i hc;simp only[Qc.mk.injEq]at h;obtain⟨rfl,h2,h3,h4,h5⟩:=h;exact⟨t,l,c,i,z,rfl,he,hz,h2,h3,h4,hc,h5⟩
    .cases h
   .cases h
  .cases h
 case call c=>
  obtain⟨callee,args,argTypes⟩:=c;cases callee
  case builtin b=>cases b<;>simp only[PO,bE]at h<;>(repeat' split at h)<;>cases h
  all_goals (simp only[PO,bE]at h;cases h)
 case unOp op t x=>cases op<;>simp only[PO,bE]at h<;>cases h
 case makeFunc f a b=>cases f<;>simp only[PO,bE]at h<;>(repeat' split at h)<;>cases h
 all_goals (simp only[PO,bE]at h;(repeat' split at h)<;>cases h)
def As{o:Op}{e sz bytes:Nat}{zv:V}{xa xb:VX}(h:PO P n o=.Vi e sz bytes zv xa xb):∃t tn kn x y args argTypes i z,o=.call { callee:=.builtin .append,args:=args,argTypes:=argTypes }/\
 args=#[x,y]/\argTypes=#[t,tn]/\P.underlying t=some (.slice e)/\P.underlying tn=some (.int kn)/\zeroOf P e=some (i,z)/\i.size=sz/\i.bytes=bytes/\ofValue z=zv/\cx n x=xa/\cx n y=xb:=by
 cases o
 case call c=>
  obtain⟨callee,args,argTypes⟩:=c;cases callee
  case value=>simp[PO]at h
  case invoke=>simp[PO]at h
  case builtin b=>
   cases b
   case append=>
    simp only[PO,bE]at h;split at h
    .rename_i x y t t' h1 h2;split at h
     .split at h
      .split at h<;>cases h
      .cases h
     .split at h
      .rename_i e' kn he hn;split at h
       .rename_i i z hz;simp only[Qc.Vi.injEq]at h;obtain⟨rfl,h4,h5,h6,h7,h8⟩:=h;exact⟨t,t',kn,x,y,args,argTypes,i,z,rfl,by apply Array.ext';simpa using h1,by apply Array.ext';simpa using h2,he,hn,hz,h4,h5,h6,h7,h8⟩
       .cases h
      .split at h<;>cases h
      .cases h
    .cases h
   all_goals (simp only[PO,bE]at h;(repeat' split at h)<;>cases h)
 case unOp op t x=>cases op<;>simp only[PO,bE]at h<;>cases h
 case makeFunc f a b=>cases f<;>simp only[PO,bE]at h<;>(repeat' split at h)<;>cases h
 all_goals (simp only[PO,bE]at h;(repeat' split at h)<;>cases h)
def ua{o:Op}{e sz bytes:Nat}{xa xb:VX}(h:PO P n o=.append e sz bytes xa xb):∃t t' x y args argTypes i z,o=.call { callee:=.builtin .append,args:=args,argTypes:=argTypes }/\
 args=#[x,y]/\argTypes=#[t,t']/\(t'=t\/P.underlying t'=some .string)/\P.underlying t=some (.slice e)/\zeroOf P e=some (i,z)/\i.size=sz/\i.bytes=bytes/\cx n x=xa/\cx n y=xb:=by
 cases o
 case call c=>
  obtain⟨callee,args,argTypes⟩:=c;cases callee
  case value=>simp[PO]at h
  case invoke=>simp[PO]at h
  case builtin b=>
   cases b
   case append=>
    simp only[PO,bE]at h;split at h
    .rename_i x y t t' h1 h2;split at h
     .rename_i htt;subst htt;split at h
      .rename_i e' he;split at h
       .rename_i i z hz;simp only[Qc.append.injEq]at h;obtain⟨rfl,h4,h5,h6,h7⟩:=h;exact⟨t,t,x,y,args,argTypes,i,z,rfl,by apply Array.ext';simpa using h1,by apply Array.ext';simpa using h2,.inl rfl,he,hz,h4,h5,h6,h7⟩
       .cases h
      .cases h
     .split at h
      .split at h<;>cases h
      .rename_i e' he hn;split at h
       .rename_i i z hz;simp only[Qc.append.injEq]at h;obtain⟨rfl,h4,h5,h6,h7⟩:=h;exact⟨t,t',x,y,args,argTypes,i,z,rfl,by apply Array.ext';simpa using h1,by apply Array.ext';simpa using h2,.inr hn,he,hz,h4,h5,h6,h7⟩
       .cases h
      .cases h
    .cases h
   all_goals (simp only[PO,bE]at h;(repeat' split at h)<;>cases h)
 case unOp op t x=>cases op<;>simp only[PO,bE]at h<;>cases h
 case makeFunc f a b=>cases f<;>simp only[PO,bE]at h<;>(repeat' split at h)<;>cases h
 all_goals (simp only[PO,bE]at h;(repeat' split at h)<;>cases h)
def mu{o:Op}{f:VX}{xs:List VX}(h:PO P n o=.call f xs):∃f0 args argTypes,o=.call { callee:=.value f0,args:=args,argTypes:=argTypes }/\cx n f0=f/\args.toList.map (cx n)=xs:=by
 cases o
 case call c=>
  obtain⟨callee,args,argTypes⟩:=c;cases callee
  case value f0=>simp only[PO,Qc.call.injEq]at h;exact⟨f0,args,argTypes,rfl,h.1,h.2⟩
  case invoke=>simp[PO]at h
  case builtin b=>cases b<;>simp only[PO,bE]at h<;>(repeat' split at h)<;>cases h
 case unOp op t x=>cases op<;>simp only[PO,bE]at h<;>cases h
 case makeFunc f a b=>cases f<;>simp only[PO,bE]at h<;>(repeat' split at h)<;>cases h
 all_goals (simp only[PO,bE]at h;(repeat' split at h)<;>cases h)
def Ch{o:Op}{e sz:Nat}{xv:VX}(h:PO P n o=.box e sz xv):∃x,o=.box e x/\bS P e=true/\P.cellsOf e=sz/\cx n x=xv:=by
 cases o
 case box t x=>
  simp only[PO,bE]at h;split at h
  .rename_i hk;simp only[Qc.box.injEq]at h;obtain⟨rfl,h2,h3⟩:=h;exact⟨x,rfl,hk,h2,h3⟩
  .cases h
 case call c=>
  obtain⟨callee,args,argTypes⟩:=c;cases callee
  case builtin b=>cases b<;>simp only[PO,bE]at h<;>(repeat' split at h)<;>cases h
  all_goals (simp only[PO,bE]at h;cases h)
 case unOp op t x=>cases op<;>simp only[PO,bE]at h<;>cases h
 case makeFunc f a b=>cases f<;>simp only[PO,bE]at h<;>(repeat' split at h)<;>cases h
 all_goals (simp only[PO,bE]at h;(repeat' split at h)<;>cases h)
def Dd{o:Op}{sz:Nat}{z:V}{xv:VX}(h:PO P n o=.clear sz z xv):∃x t e args argTypes i zv,o=.call { callee:=.builtin .clear,args:=args,argTypes:=argTypes }/\
 args=#[x]/\argTypes[0]?=some t/\P.underlying t=some (.slice e)/\zeroOf P e=some (i,zv)/\i.size=sz/\ofValue zv=z/\cx n x=xv:=by
 cases o
 case call c=>
  obtain⟨callee,args,argTypes⟩:=c;cases callee
  case builtin b=>
   cases b
   case clear=>
    simp only[PO,bE]at h;split at h
    .rename_i x t h1 h2;split at h
     .rename_i e he;split at h
      .rename_i i zv hz;simp only[Qc.clear.injEq]at h;exact⟨x,t,e,args,argTypes,i,zv,rfl,by apply Array.ext';simpa using h1,h2,he,hz,h.1,h.2.1,h.2.2⟩
      .cases h
     .cases h
    .cases h
   all_goals (simp only[PO,bE]at h;(repeat' split at h)<;>cases h)
  all_goals (simp only[PO,bE]at h;cases h)
 case unOp op t x=>cases op<;>simp only[PO,bE]at h<;>cases h
 case makeFunc f a b=>cases f<;>simp only[PO,bE]at h<;>(repeat' split at h)<;>cases h
 all_goals (simp only[PO,bE]at h;(repeat' split at h)<;>cases h)
def wP{F:Fr}{I:Mu}{a:Act}{w:World}(hs:cI F I st a w){o:Oper}{t:TypeId}{x:Operand}(UU:o.op=.box t x)(hk:bS P t=true)
 (hx:((cx F.n x).ev st.s).cells.length=P.cellsOf t)(P8:((cx F.n x).ev st.s).stays=true):
 ∃id,st.U id=none/\∃y w' Y',(execOp a.eval o).run P w=.ok (.value y) w'/\
  cI F Y' ⟨aW st.s (o.dst.filter (·<F.n)) (.ptr id 0 0),u' st.U id ⟨t,P.cellsOf t,[(cx F.n x).ev st.s]⟩⟩ (a.put o.dst y) w':=by
 have QQ:=(dD hk).2.2;obtain⟨g1,g2⟩:=(bK hs x).cells P8;have hl:=(bK hs x).jk P8;obtain⟨id,hid,Y',h1,h2,h3,h4⟩:=hs.sat.renew (row:=none) (World.grownBy_alloc w (.cells (a.eval x).cells t) none) none (.inl rfl) w.heap.size (P.cellsOf t) 1 (a.eval x).cells t [(cx F.n x).ev st.s] (a.eval x).cells.toList (.inr (Qh _))
  (heap_alloc_new w _) QQ (by omega) (by simp) (by simp[maxLen]) (by intro r hr;simp at hr;subst hr;exact hx)
  (by simp only[flat,xA,List.flatMap_nil,kj];exact g1) g2 (by intro j u hu;simpa using hu)
 refine⟨id,hid,.pointer (some ⟨w.heap.size,0,none⟩),w.alloc (.cells (a.eval x).cells t),Y',?_,hs.step h3 h2 h4 (by simp) (by simp[A',h1];exact QQ)⟩;unfold execOp;rw[UU];simp[Instr.box,newVar,newRow]
def cC{all:Array Oper}{o:Oper}{i:aG}(h:cq P n all o=i):PO P n o.op=i.op/\o.dst.filter (·<n)=i.dst:=by rw[<-h];exact⟨rfl,rfl⟩
def ad.alloc{i:aG}{l:List aG}{e sz:Nat}{z:V}(hw:bl st.s i.g=some true)(ho:i.op=.alloc e sz z)
 (h:∀id,st.U id=none->ad P n (.ops l::k) ⟨aW st.s i.dst (.ptr id 0 0),u' st.U id ⟨e,sz,[z]⟩⟩ Q):ad P n (.ops (i::l)::k) st Q:=by
 refine ad.ins (by rw[ho];simp) hw λF hn I a w o all hi hs next Q' M'=>?_
 subst hn;obtain⟨PL,hd⟩:=cC hi;rw[ho]at PL;obtain⟨ti,zv,h1,h2,rfl,rfl⟩:=vE PL;obtain⟨id,hid,x,w',Y',hx,PW⟩:=qN hs h1 h2;unfold Oper.wp;rw[hx];refine M' _ _ _ ⟨Y',?_⟩ (h id hid);rw[<-hd];exact PW
def ad.box{i:aG}{l:List aG}{e sz:Nat}{xv:VX}(hw:bl st.s i.g=some true)(ho:i.op=.box e sz xv)
 (hx:(xv.ev st.s).cells.length=sz)(P8:(xv.ev st.s).stays=true)
 (h:∀id,st.U id=none->ad P n (.ops l::k) ⟨aW st.s i.dst (.ptr id 0 0),u' st.U id ⟨e,sz,[xv.ev st.s]⟩⟩ Q):ad P n (.ops (i::l)::k) st Q:=by
 refine ad.ins (by rw[ho];simp) hw λF hn I a w o all hi hs next Q' M'=>?_
 subst hn;obtain⟨PL,hd⟩:=cC hi;rw[ho]at PL;obtain⟨x,h1,h2,rfl,rfl⟩:=Ch PL;obtain⟨id,hid,y,w',Y',hy,PW⟩:=wP hs h1 h2 hx P8;unfold Oper.wp;rw[hy];refine M' _ _ _ ⟨Y',?_⟩ (h id hid);rw[<-hd];exact PW
def ad.store{i:aG}{l:List aG}{sz:Nat}{xa xv:VX}(hw:bl st.s i.g=some true)(ho:i.op=.store sz xa xv)
 {id r0 c:Nat}(h1:xa.ev st.s=.ptr id r0 c){ob:Ob}(h2:st.U id=some ob){r r':V}(h3:ob.rows[r0]?=some r)(h4:bM r c sz (xv.ev st.s)=some r')
 (h:ad P n (.ops l::k) ⟨aW st.s i.dst (.PI []),u' st.U id { ob with rows:=ob.rows.set r0 r' }⟩ Q):ad P n (.ops (i::l)::k) st Q:=by
 refine ad.ins (by rw[ho];simp) hw λF hn I a w o all hi hs next Q' M'=>?_
 subst hn;obtain⟨PL,hd⟩:=cC hi;rw[ho]at PL;obtain⟨t,x,y,g1,g2,rfl,rfl,rfl⟩:=vN PL;obtain⟨w',hx,PW⟩:=ra hs g1 g2 h1 h2 h3 h4;unfold Oper.wp;rw[hx];refine M' _ _ _ ⟨I,?_⟩ h;rw[<-hd];exact PW
def ad.mkS{i:aG}{l:List aG}{e sz bytes:Nat}{zv:V}{xn:VX}(hw:bl st.s i.g=some true)(ho:i.op=.mk e sz bytes zv xn){m:Int}(hm:xn.ev st.s=.int .i64 m)
 (h0:0<=m)(hb:m.toNat*(bytes+1)<=140737488355328)
 (h:∀id,st.U id=none->ad P n (.ops l::k) ⟨aW st.s i.dst (.own id 0 m.toNat),u' st.U id ⟨e,sz,List.replicate m.toNat zv⟩⟩ Q):ad P n (.ops (i::l)::k) st Q:=by
 refine ad.ins (by rw[ho];simp) hw λF hn I a w o all hi hs next Q' M'=>?_
 subst hn;obtain⟨PL,hd⟩:=cC hi;rw[ho]at PL;obtain⟨t,l',c,ti,z,h1,h2,h3,rfl,rfl,rfl,h5,rfl⟩:=GK PL;obtain⟨id,hid,x,w',Y',P7,PW⟩:=Ao hs h1 h5 h2 h3 hm h0 hb;unfold Oper.wp;rw[P7];refine M' _ _ _ ⟨Y',?_⟩ (h id hid);rw[<-hd];exact PW
def ad.Ni{i:aG}{l:List aG}{e sz bytes:Nat}{zv:V}{xa xn:VX}(hw:bl st.s i.g=some true)(ho:i.op=.Vi e sz bytes zv xa xn)(hx:xa.ev st.s=.aL){kq:IntKind}{m:Int}(hm:xn.ev st.s=.int kq m)
 (h0:0<m)(hb:m.toNat*(bytes+1)<=140737488355328)
 (h:∀id,st.U id=none->ad P n (.ops l::k) ⟨aW st.s i.dst (.own id 0 m.toNat),u' st.U id ⟨e,sz,List.replicate m.toNat zv⟩⟩ Q):ad P n (.ops (i::l)::k) st Q:=by
 refine ad.ins (by rw[ho];simp) hw λF hn I a w o all hi hs next Q' M'=>?_
 subst hn;obtain⟨PL,hd⟩:=cC hi;rw[ho]at PL;obtain⟨t,tn,kn,x,y,args,argTypes,ti,z,h1,h2,h3,h4,h5,h6,rfl,rfl,rfl,rfl,rfl⟩:=As PL;obtain⟨id,hid,x,w',Y',P7,PW⟩:=tA hs h1 h2 h3 h4 h5 h6 hx hm h0 hb;unfold Oper.wp;rw[P7];refine M' _ _ _ ⟨Y',?_⟩ (h id hid);rw[<-hd];exact PW
def ad.ed{i:aG}{l:List aG}{e sz:Nat}{xs:List VX}(hw:bl st.s i.g=some true)(ho:i.op=.ed e sz xs)
 (hx:∀x∈xs.map (·.ev st.s),x.cells.length=sz/\x.stays=true)
 (h:∀id,st.U id=none->ad P n (.ops l::k) ⟨aW st.s i.dst (.own id 0 xs.length),u' st.U id ⟨e,sz,xs.map (·.ev st.s)⟩⟩ Q):ad P n (.ops (i::l)::k) st Q:=by
 refine ad.ins (by rw[ho];simp) hw λF hn I a w o all hi hs next Q' M'=>?_
 subst hn;obtain⟨PL,hd⟩:=cC hi;rw[ho]at PL;obtain⟨t,len,parts,ti,z,h1,h2,h3,rfl,h5,h6,rfl⟩:=tw PL;rw[List.map_map]at hx;obtain⟨id,hid,x,w',Y',P7,PW⟩:=oS hs h1 h2 h3 h5 h6 hx;unfold Oper.wp;rw[P7];refine M' _ _ _ ⟨Y',?_⟩ (h id hid);have hl:parts.size=len:=by have:=congrArg List.length h5;simpa using this
 simp only[cL,List.map_map,Array.length_toList,hl,<-hd];exact PW
def ad.append{i:aG}{l:List aG}{e sz bytes:Nat}{xa xb:VX}(hw:bl st.s i.g=some true)(ho:i.op=.append e sz bytes xa xb)
 {base src:List V}{PU:Option Nat}(h1:cK st.U e sz (xa.ev st.s)=some (base,PU))(h2:cA st.U sz (xb.ev st.s)=some src)
 (hb:(base.length+src.length)*(bytes+1)<=140737488355328)
 (h:∀id,st.U id=none->ad P n (.ops l::k) ⟨aW st.s i.dst (.own id 0 (base.length+src.length)),u' (bF st.U PU) id ⟨e,sz,base++src⟩⟩ Q):
 ad P n (.ops (i::l)::k) st Q:=by
 refine ad.ins (by rw[ho];simp) hw λF hn I a w o all hi hs next Q' M'=>?_
 subst hn;obtain⟨PL,hd⟩:=cC hi;rw[ho]at PL;obtain⟨t,t',x,y,args,argTypes,ti,z,g1,g2,g3,g3',g4,g5,rfl,rfl,rfl,rfl⟩:=ua PL;obtain⟨id,hid,r,w',Y',hx,PW⟩:=pf hs g1 g2 g3 g3' g4 g5 h1 h2 hb;unfold Oper.wp;rw[hx];refine M' _ _ _ ⟨Y',?_⟩ (h id hid);rw[<-hd];exact PW
def eJ(P:Program)(f:FuncId):Bool:=match P.funcs[f]? with
 |some fn=>fn.name != "runtime.NumGoroutine"&&fn.body.isSome
 |none=>false
def lB{w:World}{f:FuncId}(h:eJ P f=true)(args:Array Value):(callFunc f args).run P w=.ok (.enter f args) w:=by
 unfold eJ at h;split at h
 .rename_i fn hf;simp only[Ba,bne_iff_ne,ne_eq]at h;cases hb:fn.body with
  |none=>simp[hb]at h
  |some c=>simp[callFunc,hf,h.1,hb]
 .cases h
def aC(P:Program)(f:FuncId)(args:List V)(U:ag)(Post:V->ag->Prop):Prop:=eJ P f=true/\ry P f args U Post
def aC.mono{f:FuncId}{args:List V}{U:ag}{Post TV:V->ag->Prop}(h:aC P f args U Post)(hp:∀r Z',Post r Z'->TV r Z'):
 aC P f args U TV:=⟨h.1,h.2.mono hp⟩
def aq.app{I:Mu}{ow:Nat->Prop}{w:World}{vs us:List V}{l m:List Value}(h:aq I ow w vs l)(h':aq I ow w us m):aq I ow w (vs++us) (l++m):=h.append h'
def oI{F:Fr}{I:Mu}{a:Act}{w:World}(hs:cI F I st a w){o:Oper}{f0:Operand}{args:Array Operand}{argTypes:Array TypeId}
 (UU:o.op=.call { callee:=.value f0,args:=args,argTypes:=argTypes }){f:FuncId}{caps:List V}(hf:(cx F.n f0).ev st.s=.fn f caps)
 {Post:V->ag->Prop}(hc:aC P f ((args.toList.map (cx F.n)).map (·.ev st.s)++caps) st.U Post){next:Act->World->Prop}{Q':Exit->Act->World->Prop}
 (M':∀r Z',Post r Z'->∀a' w',eH F ⟨aW st.s (o.dst.filter (·<F.n)) r,Z'⟩ a' w'->next a' w'):o.wp P a w next Q':=by
 have SC:=bK hs f0;rw[hf]at SC;simp only[A']at SC;obtain⟨YB,hfv,XM⟩:=SC;have QB:=(mZ hs args.toList).app XM;have PY:(execOp a.eval o).run P w=.ok (.enter f ((args.toList.map a.eval++YB).toArray)) w:=by
  unfold execOp;rw[UU];simp only[resolve,hfv,Deferred.ofValue,Sem.run_bind,Sem.run_pure,Result.andThen_ok,invoke,lB hc.1];congr 2;apply Array.ext';simp
 unfold Oper.wp;rw[PY];simp only[Oper.upon];have RT:Sat w (aB I st.U) I st.U w:=by
  have h:=hs.sat;exact⟨Qh _,rfl,rfl,rfl,λ_ _ _=>rfl,h.fin,h.inj,h.obj,λb hb _=>hb,h.kQ⟩
 refine(hc.2 I w _ RT QB).mono ?_;rintro e w' ⟨r,Z',Y',val,rfl,hp,hle,PW,hr⟩;refine M' r Z' hp _ _ ⟨Y',?_⟩;have RP:cG (aB I st.U) (aB Y' Z') w w':=λb hb hn=>⟨λho=>hn (PW.fresh b ho hb),PW.same b hb hn⟩
 have h0:=hs.sat;have Q3:Sat F.w0 F.QA Y' Z' w':=by
  refine⟨iq h0.size PW.size,PW.os.trans h0.os,PW.tape.trans h0.tape,PW.output.trans h0.output,?_,PW.fin,PW.inj,PW.obj,?_,h0.Se⟩
  .intro b hb hn;have h1:¬aB I st.U b:=λho=>hn (h0.fresh b ho hb);rw[PW.same b (Nat.lt_of_lt_of_le hb h0.size) h1,h0.same b hb hn]
  .intro b hb C';have h1:=PW.fresh b hb (Nat.lt_of_lt_of_le C' h0.size);exact h0.fresh b h1 C'
 exact hs.step Q3 hle RP PW.size hr
def ad.call{i:aG}{l:List aG}{fx:VX}{xs:List VX}(hw:bl st.s i.g=some true)(ho:i.op=.call fx xs){f:FuncId}{caps:List V}(hf:fx.ev st.s=.fn f caps)
 {Post:V->ag->Prop}(hc:aC P f (xs.map (·.ev st.s)++caps) st.U Post)
 (h:∀r Z',Post r Z'->ad P n (.ops l::k) ⟨aW st.s i.dst r,Z'⟩ Q):ad P n (.ops (i::l)::k) st Q:=by
 refine ad.ins (by rw[ho];simp) hw λF hn I a w o all hi hs next Q' M'=>?_
 subst hn;obtain⟨PL,hd⟩:=cC hi;rw[ho]at PL;obtain⟨f0,args,argTypes,g1,rfl,rfl⟩:=mu PL;refine oI hs g1 hf hc λr Z' hp a' w' PW=>M' _ a' w' PW ?_;rw[hd];exact h r Z' hp
def zM{F:Fr}{I:Mu}{a:Act}{w:World}(hs:cI F I st a w){o:Oper}{f0:Operand}{args:Array Operand}{argTypes:Array TypeId}
 (UU:o.op=.call { callee:=.value f0,args:=args,argTypes:=argTypes }){f:FuncId}{first:List V}(hf:(cx F.n f0).ev st.s=.bm f first)
 {Post:V->ag->Prop}(hc:aC P f (first++(args.toList.map (cx F.n)).map (·.ev st.s)) st.U Post){next:Act->World->Prop}{Q':Exit->Act->World->Prop}
 (M':∀r Z',Post r Z'->∀a' w',eH F ⟨aW st.s (o.dst.filter (·<F.n)) r,Z'⟩ a' w'->next a' w'):o.wp P a w next Q':=by
 have SC:=bK hs f0;rw[hf]at SC;simp only[A']at SC;obtain⟨YB,hfv,XM⟩:=SC;have QB:=XM.app (mZ hs args.toList);have PY:(execOp a.eval o).run P w=.ok (.enter f ((YB++args.toList.map a.eval).toArray)) w:=by
  unfold execOp;rw[UU];simp only[resolve,hfv,Deferred.ofValue,Sem.run_bind,Sem.run_pure,Result.andThen_ok,invoke,lB hc.1];congr 2;apply Array.ext';simp
 unfold Oper.wp;rw[PY];simp only[Oper.upon];have RT:Sat w (aB I st.U) I st.U w:=by
  have h:=hs.sat;exact⟨Qh _,rfl,rfl,rfl,λ_ _ _=>rfl,h.fin,h.inj,h.obj,λb hb _=>hb,h.kQ⟩
 refine(hc.2 I w _ RT QB).mono ?_;rintro e w' ⟨r,Z',Y',val,rfl,hp,hle,PW,hr⟩;refine M' r Z' hp _ _ ⟨Y',?_⟩;have RP:cG (aB I st.U) (aB Y' Z') w w':=λb hb hn=>⟨λho=>hn (PW.fresh b ho hb),PW.same b hb hn⟩
 have h0:=hs.sat;have Q3:Sat F.w0 F.QA Y' Z' w':=by
  refine⟨iq h0.size PW.size,PW.os.trans h0.os,PW.tape.trans h0.tape,PW.output.trans h0.output,?_,PW.fin,PW.inj,PW.obj,?_,h0.Se⟩
  .intro b hb hn;have h1:¬aB I st.U b:=λho=>hn (h0.fresh b ho hb);rw[PW.same b (Nat.lt_of_lt_of_le hb h0.size) h1,h0.same b hb hn]
  .intro b hb C';have h1:=PW.fresh b hb (Nat.lt_of_lt_of_le C' h0.size);exact h0.fresh b h1 C'
 exact hs.step Q3 hle RP PW.size hr
def ad.kS{i:aG}{l:List aG}{fx:VX}{xs:List VX}(hw:bl st.s i.g=some true)(ho:i.op=.call fx xs){f:FuncId}{first:List V}(hf:fx.ev st.s=.bm f first)
 {Post:V->ag->Prop}(hc:aC P f (first++xs.map (·.ev st.s)) st.U Post)
 (h:∀r Z',Post r Z'->ad P n (.ops l::k) ⟨aW st.s i.dst r,Z'⟩ Q):ad P n (.ops (i::l)::k) st Q:=by
 refine ad.ins (by rw[ho];simp) hw λF hn I a w o all hi hs next Q' M'=>?_
 subst hn;obtain⟨PL,hd⟩:=cC hi;rw[ho]at PL;obtain⟨f0,args,argTypes,g1,rfl,rfl⟩:=mu PL;refine zM hs g1 hf hc λr Z' hp a' w' PW=>M' _ a' w' PW ?_;rw[hd];exact h r Z' hp
inductive VR where
 |tmp (x:VX)
 |cell (agg:Bool) (sz:Nat) (x:VX)
 |bad
def zH(P:Program)(n:Nat):ResultVar->VR
 |.tmp t=>.tmp (cx n (.tmp t))
 |.cell t ty=>if bS P ty then .cell (fg P ty) (P.cellsOf ty) (cx n (.tmp t))else .bad
def iW(st:St):VR->Option V
 |.tmp x=>some (x.ev st.s)
 |.cell agg sz x=>bT st.U agg sz (x.ev st.s)
 |.bad=>none
def gQ(st:St):List VR->Option (List V)
 |[]=>some []
 |r::rs=>match iW st r with
   |some v=>match gQ st rs with
    |some vs=>some (v::vs)
    |none=>none
   |none=>none
def tu(st:St)(l:List VR):Option V:=match gQ st l with
 |some [v]=>some v
 |some vs=>some (.PI vs)
 |none=>none
def UK(l:List VR)(st:St)(Post:V->ag->Prop):Prop:=
 ∃v v' Z',tu st l=some v/\aa Z' st.U/\Wk st.U Z' v v'/\Post v' Z'
structure PH where
 n:Nat
 code:bh
 res:List VR
def cfn(P:Program)(fn:Func):Option PH:=match fn.body with
 |some c=>some ⟨fn.ntmps,dh P fn.ntmps c,fn.results.toList.map (zH P fn.ntmps)⟩
 |none=>none
def wY(tmps:Array Value):ResultVar->Go.Sem Value
 |.tmp t=>pure (tmps.getD t undef)
 |.cell b t=>do loadVar t (<-asAddr (tmps.getD b undef))
def BS(fn:Func)(tmps:Array Value):results fn tmps=(do
 let vs <-Functor.map List.toArray (fn.results.toList.mapM (wY tmps))
 pure (if h:vs.size=1 then vs[0]else .tuple vs)):=by
 unfold results;rw[Array.mapM_eq_mapM_toList];congr 3
def wZ{F:Fr}{I:Mu}{a:Act}{w:World}(hs:cI F I st a w)(r:ResultVar){v:V}(h:iW st (zH P F.n r)=some v):
 ∃x,(wY a.tmps r).run P w=.ok x w/\A' I (aB I st.U) w v x:=by
 cases r with
 |tmp t=>
  simp only[zH,iW,bb]at h;subst h;exact⟨_,rfl,bK hs (.tmp t)⟩
 |cell b t=>
  simp only[zH]at h;split at h
  .rename_i hk;simp only[iW]at h;have hx:=bK hs (.tmp b);obtain⟨z,h1,h2⟩:=wb (P:=P) hs.sat hk hx h;refine⟨z,?_,h2⟩;have he:a.eval (.tmp b)=a.tmps.getD b undef:=rfl;rw[he]at h1;simp only[Instr.loadAt,Sem.run_bind]at h1;simp only[wY,Sem.run_bind];generalize a.tmps.getD b undef=u at*;cases u<;>simp[Instr.sureAddr]at h1;rename_i p;cases p<;>simp[asAddr]at h1|-;exact h1
  .simp[iW]at h
def uX{F:Fr}{I:Mu}{a:Act}{w:World}(hs:cI F I st a w)(fn:Func){v:V}(h:tu st (fn.results.toList.map (zH P F.n))=some v):
 ∃x,(results fn a.tmps).run P w=.ok x w/\A' I (aB I st.U) w v x:=by
 have key:∀(l:List ResultVar) (vs:List V),gQ st (l.map (zH P F.n))=some vs->
  ∃xs,(l.mapM (wY a.tmps)).run P w=.ok xs w/\aq I (aB I st.U) w vs xs:=by
  intro l
  induction l with
  |nil=>intro vs h;simp only[List.map_nil,gQ,bb]at h;subst h;exact⟨[],rfl,by simp[aq]⟩
  |cons r l ih=>
   intro vs h;simp only[dO,gQ]at h;split at h
   .rename_i v hv;split at h
    .rename_i vs' Yv;simp only[bb]at h;subst h;obtain⟨x,h1,h2⟩:=wZ (P:=P) hs r hv;obtain⟨xs,h3,h4⟩:=ih vs' Yv;refine⟨x::xs,?_,by simp only[aq];exact⟨x,xs,rfl,h2,h4⟩⟩;rw[List.mapM_cons];simp only[Sem.run_bind];rw[h1];simp only[Result.andThen_ok];rw[h3];simp
    .cases h
   .cases h
 unfold tu at h;cases Qa:gQ st (fn.results.toList.map (zH P F.n))with
 |none=>simp[Qa]at h
 |some vs=>
  obtain⟨xs,h1,h2⟩:=key _ _ Qa;have PY:(results fn a.tmps).run P w=.ok (if hl:xs.toArray.size=1 then xs.toArray[0]else .tuple xs.toArray) w:=by
   rw[BS];simp only[Sem.run_bind,Sem.run_map];rw[h1];simp
  rw[Qa]at h
  match vs,h,h2 with
  |[],h,h2=>
   simp only[aq]at h2;subst h2;simp only[bb]at h;subst h;exact⟨_,PY,by simp[A',aq]⟩
  |[u],h,h2=>
   simp only[aq]at h2;obtain⟨x,xs',rfl,h3,rfl⟩:=h2;simp only[bb]at h;subst h;exact⟨_,PY,by simpa using h3⟩
  |u1::u2::us,h,h2=>
   simp only[bb]at h;subst h;have hlen:=h2.length;refine⟨_,PY,?_⟩;rw[dif_neg (by simp[hlen])];simp only[A'];exact⟨xs,rfl,h2⟩
def bO(args:List V):Nat->V:=λi=>args.getD i (.PI [])
def cI.Ls{F:Fr}{I:Mu}{a:Act}{w:World}(hs:cI F I st a w){d:Deferred}{ds:List Deferred}(hd:a.defers=d::ds):
 ∃D w',d.target=.collected D/\(Instr.takeDeferred D).run P w=.ok [] w'/\cI F I st { a with defers:=ds } w':=by
 obtain⟨Ds,h1,h2,h3⟩:=hs.book.marks;rw[hd]at h1;cases Ds with
 |nil=>simp at h1
 |cons D Ds=>
  simp only[dO,List.cons.injEq]at h1;obtain⟨rfl,rfl⟩:=h1;obtain⟨g1,g2,g3⟩:=h3 D (by simp);simp only[List.nodup_cons]at h2;refine⟨D,w.putObj D (.deferred none),rfl,run_takeDeferred g2,?_⟩;have PZ:∀b,b≠D->(w.putObj D (.deferred none)).heap[b]?=w.heap[b]?:=λb hb=>World.putObj_heap_other hb;have hk:qp (aB I st.U) (aB I st.U) w (w.putObj D (.deferred none)):=λb _ hn=>⟨hn,λoff x hx=>by
   by_cases hb:b=D
   .subst hb;simp[World.cell?,g2]at hx
   .exact eA (PZ b hb) off x hx⟩
  have hz:w.heap.size<=(w.putObj D (.deferred none)).heap.size:=by simp
  refine⟨⟨by simpa using hs.sat.size,hs.sat.os,hs.sat.tape,hs.sat.output,λb hb hn=>(PZ b (by omega)).trans (hs.sat.same b hb hn),hs.sat.fin,hs.sat.inj,λid o ho=>?_,hs.sat.fresh,hs.sat.Se⟩,
   hs.le,hs.size,⟨λl r e=>?_,Ds,rfl,h2.2,λD' hD'=>?_⟩,λi hi=>A'.bU (cm.refl I) hk hz _ _ (hs.slot i hi)⟩
  .refine(hs.sat.obj id o ho).bU (cm.refl I) hk hz λb sz cap hp=>PZ b ?_;rintro rfl;exact g3 ⟨id,o,sz,cap,ho,hp⟩
  .obtain⟨q1,q2⟩:=hs.book.rnd l r e;refine⟨(PZ l ?_).trans q1,q2⟩;rintro rfl;rw[g2]at q1;cases q1
  .obtain⟨q1,q2,q3⟩:=h3 D' (by simp[hD']);refine⟨q1,(PZ D' ?_).trans q2,q3⟩;rintro rfl;exact h2.1 hD'
def vW{F:Fr}{I:Mu}{fn:Func}{R:Ending->World->Prop}:∀(ds:List Deferred) (a:Act) (w:World),a.defers=ds->cI F I st a w->
 (∀a' w',a'.tmps=a.tmps->cI F I st a' w'->∃v,(results fn a'.tmps).run P w'=.ok v w'/\R (.returned v) w')->LeavesInM F.eC 0 P fn a.tmps R ds .returning w
 |[],a,w,_,hs,h=>by
  obtain⟨v,h1,h2⟩:=h a w rfl hs;exact⟨v,h1,h2⟩
 |d::ds,a,w,hd,hs,h=>by
  obtain⟨D,w',h1,h2,h3⟩:=hs.Ls (P:=P) hd;exact⟨by simp,.inl ⟨D,w',h1,h2,vW ds { a with defers:=ds } w' rfl h3 (λa' w' e PW=>h a' w' e PW)⟩⟩
def ry.pA{f:FuncId}{fn:Func}{vf:PH}(hf:P.funcs[f]?=some fn)(hv:cfn P fn=some vf){args:List V}{U:ag}{Post:V->ag->Prop}(hlen:args.length<=vf.n)
 (h:ad P vf.n [.code vf.code] ⟨bO args,U⟩ λst=>UK vf.res st Post):ry P f args U Post:=by
 intro I w vals RT hr;unfold cfn at hv;cases hb:fn.body with
 |none=>simp[hb]at hv
 |some c=>
  simp only[hb,bb]at hv;subst hv;simp only at h hlen;have hl:=hr.length;refine callsIn_wide.1 (callsIn_of_wp_marks (n:=0) hf hb trivial ?_ rfl);have hs:cI ⟨w,aB I U,I,fn.ntmps,none⟩ I ⟨bO args,U⟩ { tmps:=vals.toArray++Array.replicate (fn.ntmps-vals.toArray.size) undef,defers:=[] } w:=by
   refine⟨RT,cm.refl I,by simp;omega,⟨λ_ _ e=>by simp at e,[],rfl,.nil,by simp⟩,λi hi=>?_⟩;simp only[bO];by_cases C':i<args.length
   .have hv:args[i]?=some (args.getD i (.PI [])):=by simp[List.getD,SQ C']
    obtain⟨x,hx,XH⟩:=hr.get hv;rw[SW,Array.getElem?_append_left (by simp;omega)];simp only[List.getElem?_toArray,hx,Option.getD_some];exact XH
   .have hv:args.getD i (.PI [])=.PI []:=by simp[List.getD,nF (Nat.le_of_not_lt C')]
    rw[hv,SW,Array.getElem?_append_right (by simp;omega)];simp only[A'];refine⟨[],?_,by simp[aq]⟩;rw[Array.getElem?_replicate];split<;>rfl
  have RJ:=h ⟨w,aB I U,I,fn.ntmps,none⟩ rfl [.code c] rfl _ w ⟨I,hs⟩;refine wpIn_mono (F:=Fence.wide) RJ ?_;rintro e a' w' ⟨he,st,⟨v,v',Z',UW,B',hwk,Xj⟩,Y',PW⟩;have Q3:LeavesInM Fence.wide 0 P fn a'.tmps (λe w'=>∃r Z' Y' val,e=Ending.returned val/\Post r Z'/\cm I Y'/\Sat w (aB I U) Y' Z' w'/\A' Y' (aB Y' Z') w' r val) a'.defers .returning w':=by
   refine vW (F:=⟨w,aB I U,I,fn.ntmps,none⟩) a'.defers a' w' rfl PW λa1 w1 _ R6=>?_;obtain⟨x,hx,XH⟩:=uX (P:=P) R6 fn UW;exact⟨x,hx,v',Z',Y',x,rfl,Xj,R6.le,R6.sat.drop B',hwk Y' _ _ _ _ R6.sat XH⟩
  rcases he with rfl|rfl<;>exact Q3
def aC.pA{f:FuncId}{fn:Func}{vf:PH}(hf:P.funcs[f]?=some fn)(hv:cfn P fn=some vf)(QT:eJ P f=true){args:List V}{U:ag}{Post:V->ag->Prop}(hlen:args.length<=vf.n)
 (h:ad P vf.n [.code vf.code] ⟨bO args,U⟩ λst=>UK vf.res st Post):aC P f args U Post:=⟨QT,.pA hf hv hlen h⟩
structure Fo(P:Program)(f:FuncId)(fn:Func)(vf:PH):Prop where
 a:P.funcs[f]?=some fn
 b:cfn P fn=some vf:=by kernel_rfl
 c:eJ P f=true:=by kernel_rfl
def Fo.r{P:Program}{f:FuncId}{fn:Func}{vf:PH}(h:Fo P f fn vf){args:List V}{U:ag}{Post:V->ag->Prop}(hlen:args.length<=vf.n)
 (k:ad P vf.n [.code vf.code] ⟨bO args,U⟩ λst=>UK vf.res st Post):aC P f args U Post:=aC.pA h.a h.b h.c hlen k
variable {P:Program} {n:Nat}
def bH(U:ag)(sz:Nat)(xa xv:V):Option ag:=
 match xa with
 |.ptr id i c=>match U id with
  |some ob=>match ob.rows[i]? with
   |some r=>match bM r c sz xv with
    |some r'=>some (u' U id ⟨ob.elem,ob.sz,ob.rows.set i r'⟩)
    |none=>none
   |none=>none
  |none=>none
 |_=>none
def QW(s:Nat->V)(U:ag):Qc->Option (Nat->V×ag)
 |.alloc e sz z=>some λid=>(.ptr id 0 0,u' U id ⟨e,sz,[z]⟩)
 |.box e sz x=>if(x.ev s).cells.length=sz/\(x.ev s).stays=true then some λid=>(.ptr id 0 0,u' U id ⟨e,sz,[x.ev s]⟩)else none
 |.ed e sz xs=>if(xs.map (·.ev s)).all (λx=>decide (x.cells.length=sz)&&x.stays)then some λid=>(.own id 0 xs.length,u' U id ⟨e,sz,xs.map (·.ev s)⟩)else none
 |.append e sz bytes xa xb=>match cK U e sz (xa.ev s),cA U sz (xb.ev s)with
  |some (base,PU),some src=>if(base.length+src.length)*(bytes+1)<=140737488355328 then
     some λid=>(.own id 0 (base.length+src.length),u' (bF U PU) id ⟨e,sz,base++src⟩)else none
  |_,_=>none
 |.mk e sz bytes z x=>match x.ev s with
  |.int .i64 m=>if 0<=m/\m.toNat*(bytes+1)<=140737488355328 then some λid=>(.own id 0 m.toNat,u' U id ⟨e,sz,List.replicate m.toNat z⟩)else none
  |_=>none
 |.Vi e sz bytes z y x=>match y.ev s,x.ev s with
  |.aL,.int _ m=>if 0<m/\m.toNat*(bytes+1)<=140737488355328 then some λid=>(.own id 0 m.toNat,u' U id ⟨e,sz,List.replicate m.toNat z⟩)else none
  |_,_=>none
 |_=>none
def TO(P:Program)(dst:Option Nat)(op:Qc)(x:St)(K:St->Prop):Prop:=
 match bp op with
 |0=>eT x.s op/\∃v,aH x.U x.s op=some v/\K ⟨aW x.s dst v,x.U⟩
 |1=>match op with
  |.call fx xs=>∃f caps v,fx.ev x.s=.fn f caps/\(∀Z1,aa x.U Z1->aC P f (xs.map (·.ev x.s)++caps) Z1 (λr Z'=>r=v/\Z'=Z1))/\K ⟨aW x.s dst v,x.U⟩
  |_=>False
 |2=>match op with
  |.store sz xa xv=>∃Z',bH x.U sz (xa.ev x.s) (xv.ev x.s)=some Z'/\K ⟨aW x.s dst (.PI []),Z'⟩
  |_=>False
 |3=>∃g,QW x.s x.U op=some g/\∀id,x.U id=none->K ⟨aW x.s dst (g id).1,(g id).2⟩
 |_=>False
def T(P:Program)(i:aG)(x:St)(K:St->Prop):Prop:=
 match bl x.s i.g with
 |some true=>TO P i.dst i.op x K
 |some false=>K ⟨aW x.s i.dst (.PI []),x.U⟩
 |none=>False
def TO.mono{dst:Option Nat}{op:Qc}{x:St}{K K':St->Prop}(hk:∀x,K x->K' x)(h:TO P dst op x K):TO P dst op x K':=by
 unfold TO at*;split<;>rename_i ho<;>simp only[ho]at h
 .obtain⟨h1,v,h2,h3⟩:=h;exact⟨h1,v,h2,hk _ h3⟩
 .split at h
  .obtain⟨f,caps,v,h1,h2,h3⟩:=h;exact⟨f,caps,v,h1,h2,hk _ h3⟩
  .exact h.elim
 .split at h
  .obtain⟨Z',h1,h2⟩:=h;exact⟨Z',h1,hk _ h2⟩
  .exact h.elim
 .obtain⟨g,h1,h2⟩:=h;exact⟨g,h1,λid hid=>hk _ (h2 id hid)⟩
def T.mono{i:aG}{x:St}{K K':St->Prop}(hk:∀x,K x->K' x)(h:T P i x K):T P i x K':=by
 unfold T at*;split<;>rename_i ho<;>simp only[ho]at h
 .exact h.mono hk
 .exact hk _ h
def UX(U:ag):Prop:=∀N,∃id,N<=id/\U id=none
def UX.u'{U:ag}(h:UX U)(id:Nat)(o:Ob):UX (u' U id o):=λN=>by
 obtain⟨i,h1,h2⟩:=h (max N (id+1));exact⟨i,by omega,by simp[Vc.u',show i≠id by omega,h2]⟩
def UX.bF{U:ag}(h:UX U)(o:Option Nat):UX (bF U o):=λN=>by
 obtain⟨i,h1,h2⟩:=h N;refine⟨i,h1,?_⟩;cases o with
 |none=>exact h2
 |some j=>simp only[Vc.bF,del];split<;>simp_all
def eH.inf{F:Fr}{st:St}{a:Act}{w:World}(h:eH F st a w):UX st.U:=by
 obtain⟨I,h⟩:=h;obtain⟨N,hN⟩:=h.sat.fin;intro M;refine⟨max N M,by omega,?_⟩;cases ho:st.U (max N M)with
 |none=>rfl
 |some o=>
  have:=h.sat.obj _ o ho;rw[hN _ (by omega)]at this;exact this.elim
def IV{s:Nat->V}{U:ag}(h:UX U){op:Qc}{g:Nat->V×ag}(he:QW s U op=some g)(id:Nat):UX (g id).2:=by
 unfold QW at he;split at he
 .simp only[bb]at he;subst he;exact h.u' _ _
 .split at he
  .simp only[bb]at he;subst he;exact h.u' _ _
  .cases he
 .split at he
  .simp only[bb]at he;subst he;exact h.u' _ _
  .cases he
 .split at he
  .split at he
   .simp only[bb]at he;subst he;exact(h.bF _).u' _ _
   .cases he
  .cases he
 .split at he
  .split at he
   .simp only[bb]at he;subst he;exact h.u' _ _
   .cases he
  .cases he
 .split at he
  .split at he
   .simp only[bb]at he;subst he;exact h.u' _ _
   .cases he
  .cases he
 .cases he
def Bz{U Z':ag}(h:UX U){sz:Nat}{a v:V}(he:bH U sz a v=some Z'):UX Z':=by
 unfold bH at he;split at he
 .split at he
  .split at he
   .split at he
    .simp only[bb]at he;subst he;exact h.u' _ _
    .cases he
   .cases he
  .cases he
 .cases he
def TO.inf{dst:Option Nat}{op:Qc}{x:St}{K:St->Prop}(hi:UX x.U)(h:TO P dst op x K):TO P dst op x λx'=>UX x'.U/\K x':=by
 unfold TO at*;split<;>rename_i ho<;>simp only[ho]at h
 .obtain⟨h1,v,h2,h3⟩:=h;exact⟨h1,v,h2,hi,h3⟩
 .split at h
  .obtain⟨f,caps,v,h1,h2,h3⟩:=h;exact⟨f,caps,v,h1,h2,hi,h3⟩
  .exact h.elim
 .split at h
  .obtain⟨Z',h1,h2⟩:=h;exact⟨Z',h1,Bz hi h1,h2⟩
  .exact h.elim
 .obtain⟨g,h1,h2⟩:=h;exact⟨g,h1,λid hid=>⟨IV hi h1 id,h2 id hid⟩⟩
def T.inf{i:aG}{x:St}{K:St->Prop}(hi:UX x.U)(h:T P i x K):T P i x λx'=>UX x'.U/\K x':=by
 unfold T at*;split<;>rename_i ho<;>simp only[ho]at h
 .exact h.inf hi
 .exact⟨hi,h⟩
def Fx{s:Nat->V}{d:Option Nat}{v:V}{x:VX}(h:∀t,d=some t->x.Ix≠some t):x.ev (aW s d v)=x.ev s:=by
 cases d with
 |none=>rfl
 |some t=>
  cases x with
  |c _=>rfl
  |t u=>
   simp only[VX.ev,aW];have:=h t rfl;simp only[VX.Ix,ne_eq,bb]at this;rw[aF this]
def qu{s s':Nat->V}{l:List VX}(h:∀x∈l,x.ev s=x.ev s'):l.map (·.ev s)=l.map (·.ev s'):=List.map_congr_left h
def o5{s s':Nat->V}{l:Option VX}(h:∀x∈l.toList,x.ev s=x.ev s'):l.map (·.ev s)=l.map (·.ev s'):=by
 cases l with
 |none=>rfl
 |some x=>simp[h x (by simp)]
def rz{s s':Nat->V}{U:ag}{op:Qc}(h:∀x∈op.xs,x.ev s=x.ev s'):aH U s op=aH U s' op/\(eT s op↔eT s' op):=by
 cases op<;>simp only[Qc.xs,cD,List.not_mem_nil,or_false,forall_eq_or_imp,forall_eq,dM]at h<;>
  simp only[aH,eT,h,and_true,and_self]
 case slice SA x lo hi mx=>
  rw[o5 (l:=lo) (λy hy=>h.2 y (.inl (.inl hy))),o5 (l:=hi) (λy hy=>h.2 y (.inl (.inr hy))),o5 (l:=mx) (λy hy=>h.2 y (.inr hy))]
 case Vh x lo hi=>
  rw[o5 (l:=lo) (λy hy=>h.2 y (.inl hy)),o5 (l:=hi) (λy hy=>h.2 y (.inr hy))]
 case XG f xs=>rw[qu h]
 case more m xs=>
  by_cases hb:∃f,m=.mkB f
  .obtain⟨f,rfl⟩:=hb;have e:=qu h;cases xs with
   |nil=>rfl
   |cons x xs=>cases xs<;>exact congrArg (λl=>some (V.bm f l)) e
  cases xs with
  |nil=>cases m<;>rfl
  |cons x xs=>
   have hx:=h x (by simp);cases xs with
   |nil=>cases m<;>first|rfl|exact absurd ⟨_,rfl⟩ hb|simp only[hx]
   |cons y ys=>cases m<;>first|rfl|exact absurd ⟨_,rfl⟩ hb
 case build z ps=>
  have:(ps.map λp=>(p.1,p.2.1,p.2.2.ev s))=ps.map λp=>(p.1,p.2.1,p.2.2.ev s'):=List.map_congr_left λp hp=>by
   rw[h _ (eI.2 ⟨p,hp,rfl⟩)]
  rw[this]
def fi{s s':Nat->V}{U:ag}{op:Qc}(h:∀x∈op.xs,x.ev s=x.ev s'):QW s U op=QW s' U op:=by
 cases op<;>simp only[Qc.xs,cD,List.not_mem_nil,or_false,forall_eq_or_imp,forall_eq,dM]at h<;>
  simp only[QW,h]
 case ed e sz xs=>rw[qu h]
def A6{s:Nat->V}{U Z':ag}{op:Qc}(h:j5 op=true):aH U s op=aH Z' s op:=by
 cases op
 case more m xs=>
  cases xs with
  |nil=>cases m<;>rfl
  |cons x xs=>cases xs<;>cases m<;>rfl
 all_goals first|rfl|simp[j5]at h
variable {P:Program} {n:Nat}
def apart_spec{A B:aG}(h:B1 A B=true):(∀d,A.dst=some d->d∉B.kX)/\(∀d,B.dst=some d->d∉A.kX)/\(∀d,A.dst=some d->B.dst≠some d):=by
 simp only[B1,Ba]at h;obtain⟨h1,h2⟩:=h;refine⟨λd hd=>?_,λd hd=>?_,λd hd=>?_⟩
 .rw[hd]at h1;simp at h1;exact h1.1
 .rw[hd]at h2;simpa using h2
 .rw[hd]at h1;simp at h1;exact h1.2
def Et{s:Nat->V}{a b:Option Nat}{u v:V}(h:∀d,a=some d->b≠some d):aW (aW s a u) b v=aW (aW s b v) a u:=by
 cases a with
 |none=>rfl
 |some x=>
  cases b with
  |none=>rfl
  |some y=>
   have PZ:y≠x:=λe=>h x rfl (by rw[e]);funext i;simp only[aW];by_cases h1:i=y<;>by_cases h2:i=x<;>simp_all
def Ca{i:aG}{x:VX}(hx:x∈i.op.xs){t:Nat}(ht:x.Ix=some t):t∈i.kX:=
 List.mem_filterMap.2 ⟨x,List.mem_append_left _ hx,ht⟩
def gz{i:aG}{d:Option Nat}{v:V}(h:∀t,d=some t->t∉i.kX)(s:Nat->V):∀x∈i.op.xs,x.ev (aW s d v)=x.ev s:=
 λ_ hx=>Fx λt ht e=>h t ht (Ca hx e)
def cp{i:aG}{d:Option Nat}{v:V}(h:∀t,d=some t->t∉i.kX)(s:Nat->V):bl (aW s d v) i.g=bl s i.g:=by
 cases hg:i.g with
 |none=>rfl
 |some g=>
  obtain⟨x,b⟩:=g;have:x.ev (aW s d v)=x.ev s:=Fx λt ht e=>h t ht (List.mem_filterMap.2 ⟨x,List.mem_append_right _ (by simp[hg]),e⟩);simp only[bl,this]
def QO(P:Program)(op:Qc)(s:Nat->V)(U:ag)(v:V):Prop:=
 match bp op with
 |0=>eT s op/\aH U s op=some v
 |1=>match op with
  |.call fx xs=>∃f caps,fx.ev s=.fn f caps/\∀Z1,aa U Z1->aC P f (xs.map (·.ev s)++caps) Z1 (λr Z'=>r=v/\Z'=Z1)
  |_=>False
 |_=>False
def QY(P:Program)(i:aG)(s:Nat->V)(U:ag)(v:V):Prop:=
 (bl s i.g=some true/\QO P i.op s U v)\/(bl s i.g=some false/\v=.PI [])
def cz{i:aG}(hq:fk i=true){x:St}{K:St->Prop}:T P i x K↔∃v,QY P i x.s x.U v/\K ⟨aW x.s i.dst v,x.U⟩:=by
 simp only[fk,SX]at hq;unfold T QY;cases hw:bl x.s i.g with
 |none=>simp
 |some b=>
  cases b
  .simp
  .simp only[true_and,bb,Bool.true_eq_false,false_and,or_false];unfold TO QO;have:bp i.op=0\/bp i.op=1:=by omega
   rcases this with h0|h0<;>simp only[h0]
   .constructor
    .rintro⟨h1,v,h2,h3⟩;exact⟨v,⟨h1,h2⟩,h3⟩
    .rintro⟨v,⟨h1,h2⟩,h3⟩;exact⟨h1,v,h2,h3⟩
   .cases PL:i.op<;>simp[bp,PL]at h0|-;constructor
    .rintro⟨f,caps,h1,v,h2,h3⟩;exact⟨v,⟨f,caps,h1,h2⟩,h3⟩
    .rintro⟨v,⟨f,caps,h1,h2⟩,h3⟩;exact⟨f,caps,h1,v,h2,h3⟩
def uP{op:Qc}{s s':Nat->V}{U:ag}{v:V}(h:∀x∈op.xs,x.ev s=x.ev s')(hq:QO P op s U v):QO P op s' U v:=by
 unfold QO at*;by_cases h0:bp op=0
 .obtain⟨h1,h2⟩:=rz (U:=U) h;simp only[h0]at hq|-;exact⟨h2.1 hq.1,h1▸hq.2⟩
 .by_cases h1:bp op=1
  .simp only[h1]at hq|-;cases op<;>simp only[]at hq<;>first|exact hq.elim|skip
   rename_i fx xs;obtain⟨f,caps,g1,g2⟩:=hq;refine⟨f,caps,?_,?_⟩
   .rw[<-h fx (by simp[Qc.xs])];exact g1
   .rw[<-qu (s:=s) (s':=s') λx hx=>h x (by simp[Qc.xs,hx])];exact g2
  .exfalso;revert hq;split<;>simp_all
def fL{i:aG}{s:Nat->V}{U:ag}{v u:V}{d:Option Nat}(h:∀t,d=some t->t∉i.kX):QY P i (aW s d u) U v↔QY P i s U v:=by
 unfold QY;rw[cp h];constructor
 .rintro(⟨h1,h2⟩|h1)
  .exact .inl ⟨h1,uP (gz h s) h2⟩
  .exact .inr h1
 .rintro(⟨h1,h2⟩|h1)
  .exact .inl ⟨h1,uP (λx hx=>(gz h s x hx).symm) h2⟩
  .exact .inr h1
def lD{op:Qc}(h:j5 op=true):bp op=0:=by
 cases op
 case more m xs=>cases m<;>simp[j5,bp]at h|-
 all_goals simp[j5,bp]at h|-
def jz{i:aG}(hf:j5 i.op=true){s:Nat->V}{U Z':ag}{v:V}(h:QY P i s U v):QY P i s Z' v:=by
 rcases h with⟨h1,h2⟩|h1
 .refine .inl ⟨h1,?_⟩;unfold QO at*;simp only[lD hf]at*;exact⟨h2.1,by rw[<-A6 (U:=U) hf];exact h2.2⟩
 .exact .inr h1
def J5{i:aG}(hf:j5 i.op=true){s:Nat->V}{U:ag}{v v':V}(h:QY P i s U v)(h':QY P i s U v'):v=v':=by
 rcases h with⟨h1,h2⟩|⟨h1,h2⟩<;>rcases h' with⟨g1,g2⟩|⟨g1,g2⟩
 .unfold QO at*;simp only[lD hf]at*;have:=h2.2.symm.trans g2.2;simpa using this
 .rw[h1]at g1;cases g1
 .rw[h1]at g1;cases g1
 .rw[h2,g2]
def gk{i:aG}(he:rL i=true){x:St}{K:St->Prop}:T P i x K↔
 (bl x.s i.g=some false/\K ⟨aW x.s i.dst (.PI []),x.U⟩)\/
 (bl x.s i.g=some true/\((∃sz xa xv Z',i.op=.store sz xa xv/\bH x.U sz (xa.ev x.s) (xv.ev x.s)=some Z'/\K ⟨aW x.s i.dst (.PI []),Z'⟩)\/
   (bp i.op=3/\∃g,QW x.s x.U i.op=some g/\∀id,x.U id=none->K ⟨aW x.s i.dst (g id).1,(g id).2⟩))):=by
 unfold T;cases hw:bl x.s i.g with
 |none=>simp
 |some b=>
  cases b
  .simp
  .simp only[bb,Bool.true_eq_false,false_and,false_or,true_and];unfold TO;simp only[rL,ki,beq_iff_eq]at he;rcases he with h0|h0<;>simp only[h0]
   .cases PL:i.op<;>simp[bp,PL]at h0|-;constructor
    .rintro⟨Z',h1,h2⟩;exact⟨_,_,_,⟨rfl,rfl,rfl⟩,Z',h1,h2⟩
    .rintro⟨_,_,_,⟨rfl,rfl,rfl⟩,Z',h1,h2⟩;exact⟨Z',h1,h2⟩
   .have:∀sz xa xv,i.op≠.store sz xa xv:=λ_ _ _ e=>by rw[e]at h0;simp[bp]at h0
    simp[this]
def kF(s:Nat->V):Qc->Option Nat
 |.load _ _ x=>match x.ev s with
   |.ptr id _ _=>some id
   |_=>none
 |.UT _ x _=>match x.ev s with
   |.own id _ _=>some id
   |_=>none
 |.slice _ x _ _ _=>match x.ev s with
   |.own id _ _=>some id
   |_=>none
 |.WC x=>match x.ev s with
   |.own id _ _=>some id
   |_=>none
 |_=>none
def Be{s:Nat->V}{U Z':ag}{op:Qc}(h:∀j,kF s op=some j->U j=Z' j):aH U s op=aH Z' s op:=by
 cases op<;>try rfl
 case more m xs=>
  cases xs with
  |nil=>cases m<;>rfl
  |cons x xs=>cases xs<;>cases m<;>rfl
 case load agg sz x=>
  simp only[kF]at h;simp only[aH,bT];split
  .rename_i id i k hx;simp only[hx,bb,forall_eq']at h;rw[h]
  .rfl
  .rfl
 case UT SA x i=>
  simp only[kF]at h;simp only[aH];generalize x.ev s=xv at*;generalize i.ev s=iv at*;cases xv<;>try (cases iv<;>rfl)
  case own id off len=>
   simp only[bb,forall_eq']at h;cases iv<;>try rfl
   simp only[bL,h]
 case WC x=>
  simp only[kF]at h;simp only[aH];generalize x.ev s=xv at*;cases xv<;>try rfl
  case own id off len=>
   simp only[bb,forall_eq']at h;simp only[cX,h]
 case slice SA x lo hi mx=>
  simp only[kF]at h;simp only[aH,cJ];split
  .rename_i id off len hx;simp only[hx,bb,forall_eq']at h;have:gI U id SA=gI Z' id SA:=by simp only[gI,h]
   simp only[this]
  .rfl
  .rfl
  .rfl
def Bx{s:Nat->V}{U:ag}{op:Qc}{v:V}(hv:aH U s op=some v){j:Nat}(hj:kF s op=some j):U j≠none:=by
 intro hn;cases op<;>simp only[kF,reduceCtorEq]at hj
 case load agg sz x=>
  split at hj
  .rename_i id i k hx;simp only[bb]at hj;subst hj;simp[aH,bT,hx,hn]at hv
  .cases hj
 case UT SA x i=>
  split at hj
  .rename_i id off len hx;simp only[bb]at hj;subst hj;simp only[aH]at hv;rw[hx]at hv;generalize i.ev s=iv at hv;cases iv<;>simp[bL,hn]at hv
  .cases hj
 case WC x=>
  split at hj
  .rename_i id off len hx;simp only[bb]at hj;subst hj;simp[aH,cX,hx,hn]at hv
  .cases hj
 case slice SA x lo hi mx=>
  split at hj
  .rename_i id off len hx;simp only[bb]at hj;subst hj;simp only[aH,cJ,hx,gI,hn]at hv;split at hv
   .simp at hv
   .cases hv
  .cases hj
def sd{i:aG}(h:Xe i=true):bp i.op=3/\∀s U g,QW s U i.op=some g->∀id j,j≠id->(g id).2 j=U j:=by
 unfold Xe at h;split at h
 .rename_i PL;refine⟨by rw[PL];rfl,λs U g hg id j hj=>?_⟩;rw[PL]at hg;simp only[QW,bb]at hg;subst hg;simp[Vc.u',hj]
 .rename_i PL;refine⟨by rw[PL];rfl,λs U g hg id j hj=>?_⟩;rw[PL]at hg;simp only[QW]at hg;split at hg
  .simp only[bb]at hg;subst hg;simp[Vc.u',hj]
  .cases hg
 .rename_i PL;refine⟨by rw[PL];rfl,λs U g hg id j hj=>?_⟩;rw[PL]at hg;simp only[QW]at hg;split at hg
  .simp only[bb]at hg;subst hg;simp[Vc.u',hj]
  .cases hg
 .rename_i PL;refine⟨by rw[PL];rfl,λs U g hg id j hj=>?_⟩;rw[PL]at hg;simp only[QW]at hg;split at hg
  .split at hg
   .simp only[bb]at hg;subst hg;simp[Vc.u',hj]
   .cases hg
  .cases hg
 .cases h
def yA{i:aG}(h:DG i=true):bp i.op=3/\∀s U g,QW s U i.op=some g->∀id j,j≠id->(g id).2 j=U j\/(g id).2 j=none:=by
 by_cases hm:Xe i=true
 .exact⟨(sd hm).1,λs U g hg id j hj=>.inl ((sd hm).2 s U g hg id j hj)⟩
 .unfold DG at h;unfold Xe at hm;cases PL:i.op<;>rw[PL]at h hm<;>simp at h hm;refine⟨rfl,λs U g hg id j hj=>?_⟩;simp only[QW]at hg;split at hg
  .split at hg
   .simp only[bb]at hg;subst hg;rename_i PU _ _ _ _ _;simp only[Vc.u',aF hj];rename_i base PU src _ _ _;cases PU with
    |none=>exact .inl rfl
    |some a=>
     simp only[bF,del];split
     .exact .inr rfl
     .exact .inl rfl
   .cases hg
  .cases hg
def xZ{i:aG}(hp:jR i=true){s:Nat->V}{U Z':ag}(h:∀j,kF s i.op=some j->U j=Z' j){v:V}(hq:QY P i s U v):QY P i s Z' v:=by
 simp only[jR,beq_iff_eq]at hp;rcases hq with⟨h1,h2⟩|h1
 .refine .inl ⟨h1,?_⟩;unfold QO at*;simp only[hp]at*;exact⟨h2.1,by rw[<-Be h];exact h2.2⟩
 .exact .inr h1
def xE{i:aG}(hp:jR i=true){s:Nat->V}{U:ag}{v v':V}(h:QY P i s U v)(h':QY P i s U v'):v=v':=by
 simp only[jR,beq_iff_eq]at hp;rcases h with⟨h1,h2⟩|⟨h1,h2⟩<;>rcases h' with⟨g1,g2⟩|⟨g1,g2⟩
 .unfold QO at*;simp only[hp]at*;have:=h2.2.symm.trans g2.2;simpa using this
 .rw[h1]at g1;cases g1
 .rw[h1]at g1;cases g1
 .rw[h2,g2]
def rU{i:aG}(hp:jR i=true){s:Nat->V}{U:ag}{v:V}(h:QY P i s U v)(hw:bl s i.g=some true){j:Nat}(hj:kF s i.op=some j):U j≠none:=by
 simp only[jR,beq_iff_eq]at hp;rcases h with⟨_,h2⟩|⟨h1,_⟩
 .unfold QO at h2;simp only[hp]at h2;exact Bx h2.2 hj
 .rw[hw]at h1;cases h1
def wX{i:aG}{s:Nat->V}{U Z':ag}{v:V}(h:QY P i s U v)(hw:bl s i.g≠some true):QY P i s Z' v:=by
 rcases h with⟨h1,_⟩|h1
 .exact absurd h1 hw
 .exact .inr h1
def Gd{i:aG}(hp:jR i=true){s:Nat->V}{U Z':ag}{id:Nat}(hid:U id=none)(P3:∀j,j≠id->Z' j=U j){v:V}(h:QY P i s U v):QY P i s Z' v:=by
 by_cases hw:bl s i.g=some true
 .refine xZ hp (λj hj=>?_) h;have:=rU hp h hw hj;rw[P3 j (λe=>this (e▸hid))]
 .exact wX h hw
def Dj{i:aG}(hq:fk i=true){s:Nat->V}{U Z':ag}{id:Nat}(hid:U id=none)(P3:∀j,j≠id->Z' j=U j){v:V}(h:QY P i s U v):QY P i s Z' v:=by
 by_cases hp:jR i=true
 .exact Gd hp hid P3 h
 .have B':aa U Z':=λj o hj=>by rw[P3 j (λe=>by rw[e,hid]at hj;cases hj)];exact hj
  rcases h with⟨h1,h2⟩|h1
  .refine .inl ⟨h1,?_⟩;have hk:bp i.op=1:=by
    simp only[fk,SX]at hq;simp only[jR,beq_iff_eq]at hp;omega
   unfold QO at*;simp only[hk]at*;split at h2
   .obtain⟨f,caps,g1,g2⟩:=h2;exact⟨f,caps,g1,λZ1 hs=>g2 Z1 (B'.trans hs)⟩
   .exact h2.elim
  .exact .inr h1
def Ar{i:aG}(h:Xe i=true){s:Nat->V}{U:ag}{g:Nat->V×ag}(hg:QW s U i.op=some g):
 ∃(vf:Nat->V) (ob:Ob),(∀id,g id=(vf id,Vc.u' U id ob))/\∀Z',QW s Z' i.op=some λid=>(vf id,Vc.u' Z' id ob):=by
 unfold Xe at h;split at h
 .rename_i PL;rw[PL]at hg|-;simp only[QW,bb]at hg;subst hg;exact⟨_,_,λ_=>rfl,λ_=>rfl⟩
 .rename_i PL;rw[PL]at hg|-;simp only[QW]at hg|-;split at hg
  .rename_i hc;simp only[bb]at hg;subst hg;exact⟨_,_,λ_=>rfl,λZ'=>by rw[aE hc]⟩
  .cases hg
 .rename_i PL;rw[PL]at hg|-;simp only[QW]at hg|-;split at hg
  .rename_i hc;simp only[bb]at hg;subst hg;exact⟨_,_,λ_=>rfl,λZ'=>by rw[aE hc]⟩
  .cases hg
 .rename_i PL;rw[PL]at hg|-;simp only[QW]at hg|-;split at hg
  .rename_i hx;split at hg
   .rename_i hc;simp only[bb]at hg;subst hg;exact⟨_,_,λ_=>rfl,λZ'=>by rw[aE hc]⟩
   .cases hg
  .cases hg
 .cases h
def nr{op:Qc}(hk:bp op=3){sz:Nat}{xa xv:VX}(PL:op=.store sz xa xv):False:=by rw[PL]at hk;simp[bp]at hk
def wJ{U:ag}{a b:Nat}{oa ob:Ob}(h:a≠b):Vc.u' (Vc.u' U a oa) b ob=Vc.u' (Vc.u' U b ob) a oa:=by
 funext i;unfold Vc.u';by_cases h1:i=a<;>by_cases h2:i=b<;>simp_all
def FD{i:aG}(h:DG i=true){s:Nat->V}{U:ag}{g:Nat->V×ag}(hg:QW s U i.op=some g):
 ∃(vf:Nat->V) (ob:Ob) (d:Option Nat),(∀id,g id=(vf id,Vc.u' (bF U d) id ob))/\(∀a,d=some a->U a≠none)/\
  ∀j o,U j=none->QW s (Vc.u' U j o) i.op=some λid=>(vf id,Vc.u' (bF (Vc.u' U j o) d) id ob):=by
 by_cases hm:Xe i=true
 .obtain⟨vf,ob,h1,h2⟩:=Ar hm hg;exact⟨vf,ob,none,h1,by simp,λj o _=>h2 _⟩
 .unfold DG at h;unfold Xe at hm;cases PL:i.op<;>rw[PL]at h hm hg<;>simp at h hm;rename_i e sz bytes xa xb;simp only[QW]at hg|-;split at hg
  .rename_i base PU src e1 e2;split at hg
   .rename_i hc;simp only[bb]at hg;subst hg;have hlive:∀a,PU=some a->U a≠none:=λa ha=>by
     subst ha;unfold cK at e1;split at e1
     .split at e1
      .rename_i ob QK;split at e1
       .simp only[bb,Prod.mk.injEq]at e1;rw[<-e1.2,QK];simp
       .cases e1
      .cases e1
     .simp at e1
     .cases e1
    refine⟨_,_,PU,λ_=>rfl,hlive,λj o hj=>?_⟩;have PZ:∀id ob,U id=some ob->Vc.u' U j o id=some ob:=λid ob h=>by
     have:id≠j:=λe=>by rw[e,hj]at h;cases h
     simp[Vc.u',this,h]
    have d1:cK (Vc.u' U j o) e sz (xa.ev s)=some (base,PU):=by
     rw[<-e1];unfold cK at e1|-;split at e1
     .rename_i id _ _ _;split at e1
      .rename_i ob QK;simp only[QK,PZ _ _ QK]
      .cases e1
     .rfl
     .cases e1
    have d2:cA (Vc.u' U j o) sz (xb.ev s)=some src:=by
     rw[<-e2];unfold cA at e2|-;split at e2
     .split at e2
      .rename_i ob QK;simp only[QK,PZ _ _ QK]
      .cases e2
     all_goals first|rfl|cases e2
    simp only[d1,d2];rw[aE hc]
   .cases hg
  .cases hg
def EH{A B:aG}(hp:mR A B=true){x:St}(hi:UX x.U){K:St->Prop}(h:T P A x λx'=>T P B x' K):T P B x λx'=>T P A x' K:=by
 simp only[mR,Ba,ki]at hp;obtain⟨hap,hk⟩:=hp;obtain⟨h1,h2,h3⟩:=apart_spec hap;have RD:∀(s:Nat->V) u v,aW (aW s A.dst u) B.dst v=aW (aW s B.dst v) A.dst u:=λs u v=>Et h3;rcases hk with((((⟨qa,qb⟩|⟨ea,sb⟩)|⟨sa,eb⟩)|⟨pa,mb⟩)|⟨ma,pb⟩)|⟨ma,mb⟩
 .rw[cz qa]at h;obtain⟨u,hu,h⟩:=h;rw[cz qb]at h;obtain⟨v,hv,h⟩:=h;rw[cz qb];refine⟨v,(fL h1).1 hv,?_⟩;rw[cz qa];refine⟨u,(fL h2).2 hu,?_⟩;simp only at h|-;rw[<-RD];exact h
 .have qb:fk B=true:=by simp[fk,lD sb]
  rw[gk ea]at h;rcases h with⟨hw,h⟩|⟨hw,⟨sz,xa,xv,Z',PL,hs,h⟩|⟨TN,g,hg,h⟩⟩
  .rw[cz qb]at h;obtain⟨v,hv,h⟩:=h;rw[cz qb];refine⟨v,(fL h1).1 hv,?_⟩;rw[gk ea];refine .inl ⟨by rw[cp h2];exact hw,?_⟩;simp only at h|-;rw[<-RD];exact h
  .rw[cz qb]at h;obtain⟨v,hv,h⟩:=h;rw[cz qb];refine⟨v,jz sb ((fL h1).1 hv),?_⟩;rw[gk ea];refine .inr ⟨by rw[cp h2];exact hw,.inl ⟨sz,xa,xv,Z',PL,?_,?_⟩⟩
   .simp only;rw[gz h2 x.s xa (by simp[PL,Qc.xs]),gz h2 x.s xv (by simp[PL,Qc.xs])];exact hs
   .simp only at h|-;rw[<-RD];exact h
  .obtain⟨U5,_,YD⟩:=hi 0;have h0:=h U5 YD;rw[cz qb]at h0;obtain⟨v,hv,_⟩:=h0;have hvx:QY P B x.s x.U v:=jz sb ((fL h1).1 hv);rw[cz qb];refine⟨v,hvx,?_⟩;rw[gk ea];refine .inr ⟨by rw[cp h2];exact hw,.inr ⟨TN,g,?_,λid hid=>?_⟩⟩
   .rw[<-hg];exact fi (gz h2 x.s)
   .have h4:=h id hid;rw[cz qb]at h4;obtain⟨v',WG,h4⟩:=h4;have hvx':QY P B x.s x.U v':=jz sb ((fL h1).1 WG);have:=J5 sb hvx hvx';subst this;simp only at h4|-;rw[<-RD];exact h4
 .have qa:fk A=true:=by simp[fk,lD sa]
  rw[cz qa]at h;obtain⟨u,hu,h⟩:=h;rw[gk eb]at h;rw[gk eb];rcases h with⟨hw,h⟩|⟨hw,⟨sz,xa,xv,Z',PL,hs,h⟩|⟨TN,g,hg,h⟩⟩
  .refine .inl ⟨by rw[<-cp h1];exact hw,?_⟩;rw[cz qa];refine⟨u,(fL h2).2 hu,?_⟩;simp only at h|-;rw[<-RD];exact h
  .refine .inr ⟨by rw[<-cp h1];exact hw,.inl ⟨sz,xa,xv,Z',PL,?_,?_⟩⟩
   .simp only at hs;rw[gz h1 x.s xa (by simp[PL,Qc.xs]),gz h1 x.s xv (by simp[PL,Qc.xs])]at hs;exact hs
   .rw[cz qa];refine⟨u,(fL h2).2 (jz sa hu),?_⟩;simp only at h|-;rw[<-RD];exact h
  .refine .inr ⟨by rw[<-cp h1];exact hw,.inr ⟨TN,g,?_,λid hid=>?_⟩⟩
   .rw[<-hg];exact(fi (gz h1 x.s)).symm
   .rw[cz qa];refine⟨u,(fL h2).2 (jz sa hu),?_⟩;have h4:=h id hid;simp only at h4|-;rw[<-RD];exact h4
 .have qa:fk A=true:=pa;obtain⟨TN,SC⟩:=sd mb;have eb:rL B=true:=by simp[rL,TN]
  rw[cz qa]at h;obtain⟨u,hu,h⟩:=h;rw[gk eb]at h;rw[gk eb];rcases h with⟨hw,h⟩|⟨hw,⟨sz,xa,xv,Z',PL,hs,h⟩|⟨_,g,hg,h⟩⟩
  .refine .inl ⟨by rw[<-cp h1];exact hw,?_⟩;rw[cz qa];refine⟨u,(fL h2).2 hu,?_⟩;simp only at h|-;rw[<-RD];exact h
  .rw[PL]at TN;simp[bp]at TN
  .refine .inr ⟨by rw[<-cp h1];exact hw,.inr ⟨TN,g,?_,λid hid=>?_⟩⟩
   .rw[<-hg];exact(fi (gz h1 x.s)).symm
   .rw[cz qa];refine⟨u,(fL h2).2 (Dj qa hid (λj hj=>SC _ _ g hg id j hj) hu),?_⟩;have h4:=h id hid;simp only at h4|-;rw[<-RD];exact h4
 .have qb:fk B=true:=by simp only[jR,beq_iff_eq]at pb;simp[fk,pb]
  obtain⟨TN,SC⟩:=yA ma;have ea:rL A=true:=by simp[rL,TN]
  rw[gk ea]at h;rcases h with⟨hw,h⟩|⟨hw,⟨sz,xa,xv,Z',PL,hs,h⟩|⟨_,g,hg,h⟩⟩
  .rw[cz qb]at h;obtain⟨v,hv,h⟩:=h;rw[cz qb];refine⟨v,(fL h1).1 hv,?_⟩;rw[gk ea];refine .inl ⟨by rw[cp h2];exact hw,?_⟩;simp only at h|-;rw[<-RD];exact h
  .rw[PL]at TN;simp[bp]at TN
  ·
   obtain⟨U5,UJ,YD⟩:=hi ((kF x.s B.op).getD 0+1);have h0:=h U5 YD;rw[cz qb]at h0;obtain⟨v,hv,_⟩:=h0;have hv1:=(fL h1).1 hv;have hvx:QY P B x.s x.U v:=by
    by_cases hwB:bl x.s B.g=some true
    .refine xZ pb (λj hj=>?_) hv1;have hn:=rU pb hv1 hwB hj;refine(SC _ _ g hg U5 j (λe=>?_)).resolve_right hn;rw[hj]at UJ;simp at UJ;omega
    .exact wX hv1 hwB
   rw[cz qb];refine⟨v,hvx,?_⟩;rw[gk ea];refine .inr ⟨by rw[cp h2];exact hw,.inr ⟨TN,g,?_,λid hid=>?_⟩⟩
   .rw[<-hg];exact fi (gz h2 x.s)
   .have h4:=h id hid;rw[cz qb]at h4;obtain⟨v',WG,h4⟩:=h4;have Xk:=(fL h1).1 WG;have hv3:QY P B x.s x.U v':=by
     by_cases hwB:bl x.s B.g=some true
     .refine xZ pb (λj hj=>?_) Xk;have hn:=rU pb Xk hwB hj;have hs:=rU pb hvx hwB hj;exact(SC _ _ g hg id j (λe=>hs (e▸hid))).resolve_right hn
     .exact wX Xk hwB
    have:=xE pb hv3 hvx;subst this;simp only at h4|-;rw[<-RD];exact h4
 .have ka:=(yA ma).1;have kb:=(sd mb).1;have ea:rL A=true:=by simp[rL,ka]
  have eb:rL B=true:=by simp[rL,kb]
  rw[gk ea]at h;rw[gk eb];rcases h with⟨hw,h⟩|⟨hw,⟨sz,xa,xv,Z',PL,_⟩|⟨_,g,hg,h⟩⟩
  .rw[gk eb]at h;rcases h with⟨Ug,h⟩|⟨Ug,⟨sz,xa,xv,Z',PL,_⟩|⟨_,g2,hg2,h⟩⟩
   .refine .inl ⟨by rw[<-cp h1];exact Ug,?_⟩;rw[gk ea];refine .inl ⟨by rw[cp h2];exact hw,?_⟩;simp only at h|-;rw[<-RD];exact h
   .exact(nr kb PL).elim
   .refine .inr ⟨by rw[<-cp h1];exact Ug,.inr ⟨kb,g2,by rw[<-hg2];exact(fi (gz h1 x.s)).symm,λid hid=>?_⟩⟩;rw[gk ea];refine .inl ⟨by rw[cp h2];exact hw,?_⟩;have h4:=h id hid;simp only at h4|-;rw[<-RD];exact h4
  .exact(nr ka PL).elim
  .obtain⟨vA,oA,dA,hA,Uh,hA'⟩:=FD ma hg;obtain⟨U5,_,YD⟩:=hi 0;have h0:=h U5 YD;rw[gk eb]at h0;rcases h0 with⟨Ug,_⟩|⟨Ug,⟨sz,xa,xv,Z',PL,_⟩|⟨_,g2,hg2,_⟩⟩
   .refine .inl ⟨by rw[<-cp h1];exact Ug,?_⟩;rw[gk ea];refine .inr ⟨by rw[cp h2];exact hw,.inr ⟨ka,g,by rw[<-hg];exact fi (gz h2 x.s),λid hid=>?_⟩⟩;have h4:=h id hid;rw[gk eb]at h4;rcases h4 with⟨_,h4⟩|⟨hw3,_⟩
    .simp only at h4|-;rw[<-RD];exact h4
    .exfalso;have e1:=cp (v:=(g id).1) h1 (s:=x.s);have e2:=cp (v:=(g U5).1) h1 (s:=x.s);simp only at Ug hw3;rw[e1]at hw3;rw[e2]at Ug;rw[hw3]at Ug;cases Ug
   .exact(nr kb PL).elim
   .have hg2x:QW x.s (g U5).2 B.op=some g2:=by rw[<-hg2];exact(fi (gz h1 x.s)).symm
    obtain⟨vB,oB,hB,hB'⟩:=Ar mb hg2x;refine .inr ⟨by rw[<-cp h1];exact Ug,.inr ⟨kb,_,hB' x.U,λidB hidB=>?_⟩⟩;rw[gk ea];refine .inr ⟨by rw[cp h2];exact hw,.inr ⟨ka,λid=>(vA id,Vc.u' (bF (Vc.u' x.U idB oB) dA) id oA),?_,λPU hidA=>?_⟩⟩
    .rw[<-hA' idB oB hidB];exact fi (gz h2 x.s)
    .have PZ:PU≠idB:=λe=>by subst e;simp[Vc.u']at hidA
     have hidA':x.U PU=none:=by simpa[Vc.u',PZ]using hidA
     have h4:=h PU hidA';rw[gk eb]at h4;rw[hA PU]at h4;rcases h4 with⟨hw3,_⟩|⟨_,⟨sz,xa,xv,Z',PL,_⟩|⟨_,g3,hg3,h4⟩⟩
     .exfalso;have e1:=cp (v:=vA PU) h1 (s:=x.s);have e2:=cp (v:=(g U5).1) h1 (s:=x.s);simp only at Ug hw3;rw[e1]at hw3;rw[e2]at Ug;rw[hw3]at Ug;cases Ug
     .exact(nr kb PL).elim
     .have e3:QW x.s (Vc.u' (bF x.U dA) PU oA) B.op=some g3:=by rw[<-hg3];exact(fi (gz h1 x.s)).symm
      rw[hB' (Vc.u' (bF x.U dA) PU oA)]at e3;simp only[bb]at e3;subst e3;have Qx:∀i,x.U i=none->bF x.U dA i=none:=λi hi=>by
       cases dA with
       |none=>exact hi
       |some a=>simp only[bF,del];split<;>first|rfl|exact hi
      have h5:=h4 idB (by simp[Vc.u',PZ.symm,Qx _ hidB]);have hsw:bF (Vc.u' x.U idB oB) dA=Vc.u' (bF x.U dA) idB oB:=by
       cases dA with
       |none=>rfl
       |some a=>
        funext i;have UY:a≠idB:=λe=>Uh a rfl (by rw[e];exact hidB);simp only[bF,del,Vc.u'];by_cases e1:i=a
        .have hib:i≠idB:=λe=>UY (e1▸e);simp[e1,UY]
        .by_cases e2:i=idB<;>simp[e1,e2,Ne.symm UY]
      simp only at h5|-;rw[<-RD,hsw,<-wJ PZ];exact h5
variable {P:Program} {n:Nat}
def T.exists{i:aG}{x:St}{K:St->Prop}(hi:UX x.U)(h:T P i x K):∃x',K x':=by
 unfold T at h;split at h
 .unfold TO at h;split at h
  .obtain⟨_,v,_,h⟩:=h;exact⟨_,h⟩
  .split at h
   .obtain⟨_,_,v,_,_,h⟩:=h;exact⟨_,h⟩
   .exact h.elim
  .split at h
   .obtain⟨_,_,h⟩:=h;exact⟨_,h⟩
   .exact h.elim
  .obtain⟨g,_,h⟩:=h;obtain⟨id,_,hid⟩:=hi 0;exact⟨_,h id hid⟩
  .exact h.elim
 .exact⟨_,h⟩
 .exact h.elim
def xD{F:Fr}(hn:F.n=n){o:Oper}{all:Array Oper}{x:St}{K:St->Prop}{a:Act}{w:World}(h:T P (cq P n all o) x K)(hs:eH F x a w)
 {next:Act->World->Prop}{Q':Exit->Act->World->Prop}(M':∀x' a' w',eH F x' a' w'->K x'->next a' w'):
 if Region.wanted o (yielded all a.tmps)then PO P n o.op≠.bad/\o.wp P a w next Q' else next (a.put o.dst undef) w:=by
 subst hn;obtain⟨I,hs⟩:=hs;unfold T at h;cases hw:bl x.s (cq P F.n all o).g with
 |none=>simp only[hw]at h
 |some b=>
  have Uz:=sC (P:=P) hs all o hw;rw[Uz];simp only[hw]at h;cases b
  .simp only[gj,if_false]at h|-;exact M' _ _ _ ⟨I,hs.pure (d:=o.dst) (by simp only[A'];exact⟨[],rfl,by simp[aq]⟩)⟩ h
  .simp only[if_true]at h|-;refine⟨λe=>?_,?_⟩
   .have WL:(cq P F.n all o).op=PO P F.n o.op:=rfl;rw[WL,e]at h;simp[TO,bp]at h
   have VY:(cq P F.n all o).dst=o.dst.filter (·<F.n):=rfl;have WL:(cq P F.n all o).op=PO P F.n o.op:=rfl;rw[VY,WL]at h;unfold TO at h;split at h
   .obtain⟨h1,v,h2,h3⟩:=h;obtain⟨z,hz,hr⟩:=rA hs o h1 h2;unfold Oper.wp;rw[hz];exact M' _ _ _ ⟨I,hs.pure hr⟩ h3
   .split at h
    .rename_i fx xs PL;obtain⟨f,caps,v,h1,h2,h3⟩:=h;obtain⟨f0,args,argTypes,g1,rfl,rfl⟩:=mu PL;refine oI hs g1 h1 (h2 _ (aa.refl _)) λr Z' hp a' w' PW=>?_;obtain⟨rfl,rfl⟩:=hp;exact M' _ a' w' PW h3
    .exact h.elim
   .split at h
    .rename_i sz xa xv PL;obtain⟨Z',h1,h2⟩:=h;obtain⟨t,y,z,g1,g2,rfl,rfl,rfl⟩:=vN PL;unfold bH at h1;split at h1
     .rename_i id r0 c e1;split at h1
      .rename_i ob e2;split at h1
       .rename_i r e3;split at h1
        .rename_i r' e4;simp only[bb]at h1;subst h1;obtain⟨w',hx,PW⟩:=ra hs g1 g2 e1 e2 e3 e4;unfold Oper.wp;rw[hx];exact M' _ _ _ ⟨I,PW⟩ h2
        .cases h1
       .cases h1
      .cases h1
     .cases h1
    .exact h.elim
   .obtain⟨g,hg,h⟩:=h;cases PL:PO P F.n o.op<;>rw[PL]at hg
    case box e sz xv=>
     simp only[QW]at hg;split at hg
     .rename_i hc;simp only[bb]at hg;subst hg;obtain⟨y,g1,g2,rfl,rfl⟩:=Ch PL;obtain⟨id,hid,z,w',Y',hz,PW⟩:=wP hs g1 g2 hc.1 hc.2;unfold Oper.wp;rw[hz];exact M' _ _ _ ⟨Y',PW⟩ (h id hid)
     .cases hg
    case alloc e sz z=>
     simp only[QW,bb]at hg;subst hg;obtain⟨ti,zv,g1,g2,rfl,rfl⟩:=vE PL;obtain⟨id,hid,y,w',Y',hy,PW⟩:=qN hs g1 g2;unfold Oper.wp;rw[hy];exact M' _ _ _ ⟨Y',PW⟩ (h id hid)
    case ed e sz xs=>
     simp only[QW]at hg;split at hg
     .rename_i hc;simp only[bb]at hg;subst hg;obtain⟨t,len,parts,ti,z,h1,h2,h3,rfl,h5,h6,rfl⟩:=tw PL;have hx:∀y∈parts.toList.map (λp=>(cx F.n p.2).ev x.s),y.cells.length=ti.size/\y.stays=true:=by
       intro y hy;have:=eQ.1 hc y (by rw[List.map_map];exact hy);simpa using this
      obtain⟨id,hid,y,w',Y',hy,PW⟩:=oS hs h1 h2 h3 h5 h6 hx;unfold Oper.wp;rw[hy];have hl:parts.size=len:=by have:=congrArg List.length h5;simpa using this
      refine M' _ _ _ ⟨Y',PW⟩ ?_;have:=h id hid;simpa only[cL,List.map_map,Array.length_toList,hl,Function.comp_def]using this
     .cases hg
    case mk e sz bytes zv y=>
     simp only[QW]at hg;split at hg
     .rename_i m hm;split at hg
      .rename_i hc;simp only[bb]at hg;subst hg;obtain⟨t,l',c,ti,z,g1,g2,g3,rfl,rfl,rfl,g5,rfl⟩:=GK PL;obtain⟨id,hid,x',w',Y',P7,PW⟩:=Ao hs g1 g5 g2 g3 hm hc.1 hc.2;unfold Oper.wp;rw[P7];exact M' _ _ _ ⟨Y',PW⟩ (h id hid)
      .cases hg
     .cases hg
    case Vi e sz bytes zv ya y=>
     simp only[QW]at hg;split at hg
     .rename_i kq m hy hm;split at hg
      .rename_i hc;simp only[bb]at hg;subst hg;obtain⟨t,tn,kn,x1,y1,args,argTypes,ti,z,g1,g2,g3,g4,g5,g6,rfl,rfl,rfl,rfl,rfl⟩:=As PL;obtain⟨id,hid,x',w',Y',P7,PW⟩:=tA hs g1 g2 g3 g4 g5 g6 hy hm hc.1 hc.2;unfold Oper.wp;rw[P7];exact M' _ _ _ ⟨Y',PW⟩ (h id hid)
      .cases hg
     .cases hg
    case append e sz bytes xa xb=>
     simp only[QW]at hg;split at hg
     .rename_i base PU src e1 e2;split at hg
      .rename_i hb;simp only[bb]at hg;subst hg;obtain⟨t,t',y,z,args,argTypes,ti,zv,g1,g2,g3,g3',g4,g5,rfl,rfl,rfl,rfl⟩:=ua PL;obtain⟨id,hid,r,w',Y',hx,PW⟩:=pf hs g1 g2 g3 g3' g4 g5 e1 e2 hb;unfold Oper.wp;rw[hx];exact M' _ _ _ ⟨Y',PW⟩ (h id hid)
      .cases hg
     .cases hg
    all_goals simp[QW]at hg
   .exact h.elim
def Tn(P:Program)(n:Nat)(ops:Array Oper)(i:Nat)(x:St)(K:St->Prop):Prop:=match ops[i]? with
 |some o=>T P (cq P n ops o) x K
 |none=>K x
def ot(P:Program)(n:Nat)(ops:Array Oper)(Q:St->Prop):Nat->Array Bool->St->Prop
 |0,listed,x=>Region.ready .any ops listed=[]/\Q x
 |f+1,listed,x=>(Region.ready .any ops listed=[]->Q x)/\∀i∈Region.ready .any ops listed,Tn P n ops i x (ot P n ops Q f (listed.setIfInBounds i true))
def ly{F:Fr}(hn:F.n=n){ops:Array Oper}{Q:St->Prop}{Q':Exit->Act->World->Prop}(hQ:∀x a w,eH F x a w->Q x->Q' .normal a w):
 ∀(f:Nat) (listed:Array Bool) (x:St) (a:Act) (w:World),eH F x a w->ot P n ops Q f listed x->wpAnyIn F.eC 0 P .any ops Q' f listed a w
 |0,_,_,_,_,hs,h=>⟨h.1,hQ _ _ _ hs h.2⟩
 |f+1,listed,x,a,w,hs,h=>by
  refine⟨λh0=>hQ _ _ _ hs (h.1 h0),λi hi=>?_⟩;have h1:=h.2 i hi;unfold Tn at h1;unfold wpOpIn;cases ho:ops[i]? with
  |none=>
   simp only[ho]at h1;exact ly hn hQ f _ x a w hs h1
  |some o=>
   simp only[ho]at h1;have h2:=xD (Q':=Q') hn h1 hs λx' a' w' PW hk=>ly hn hQ f _ x' a' w' PW hk;by_cases hw:Region.wanted o (yielded ops a.tmps)=true
   .rw[aE hw]at h2;simp only[hw,if_true];exact I0 (nj h2.1) h2.2
   .rw[aF hw]at h2;simp only[hw];exact⟨λ_ _=>trivial,h2⟩
def kG(ops:Array Oper)(listed:Array Bool):Prop:=∀m om,ops[m]?=some om->listed.getD m true=true->∀e∈om.after,Region.binds .any e=true->listed.getD e.on false=true
def kG.list{ops:Array Oper}{listed:Array Bool}(h:kG ops listed){i:Nat}(hi:i∈Region.ready .any ops listed):kG ops (listed.setIfInBounds i true):=by
 intro m om hm hl e he hb;by_cases YE:m=i
 .subst YE;obtain⟨_,o,ho,Qa⟩:=mem_ready.1 hi;rw[hm]at ho;cases ho;exact getD_set_true (Qa e he hb)
 .rw[getD_set_ne true (Ne.symm YE)]at hl;exact getD_set_true (h m om hm hl e he hb)
def A8{f:Edge->Nat}(l:List Edge):∀(s:Nat) (i:Nat),(l.foldl (λs e=>if Region.binds .any e then s ||| 2^e.on ||| f e else s) s).testBit i=true->
 s.testBit i=true\/∃e∈l,Region.binds .any e=true/\(i=e.on\/(f e).testBit i=true):=by
 induction l with
 |nil=>intro s i h;exact .inl h
 |cons e l ih=>
  intro s i h;simp only[iY]at h;rcases ih _ i h with h1|⟨e',h2,h3,h4⟩
  .by_cases hb:Region.binds .any e=true
   .rw[aE hb]at h1;simp only[Nat.testBit_or,ki,Nat.testBit_two_pow]at h1;rcases h1 with(h1|h1)|h1
    .exact .inl h1
    .exact .inr ⟨e,by simp,hb,.inl (by simpa using(of_decide_eq_true h1).symm)⟩
    .exact .inr ⟨e,by simp,hb,.inr h1⟩
   .rw[aF hb]at h1;exact .inl h1
  .exact .inr ⟨e',by simp[h2],h3,h4⟩
def rI{ops:Array Oper}{listed:Array Bool}(hc:kG ops listed):∀(j:Nat) (oj:Oper) (i:Nat),ops[j]?=some oj->((Region.before ops).getD j 0).testBit i=true->
 (∀e∈oj.after,Region.binds .any e=true->listed.getD e.on false=true)->listed.getD i false=true:=by
 have key:∀(l:List Oper) (acc:Array Nat) (k:Nat),acc.size=k->(∀j,l[j]?=ops[k+j]?)->
  (∀j oj i,j<k->ops[j]?=some oj->(acc.getD j 0).testBit i=true->(∀e∈oj.after,Region.binds .any e=true->listed.getD e.on false=true)->listed.getD i false=true)->
  ∀j oj i,ops[j]?=some oj->((l.foldl (λacc o=>acc.push (o.after.foldl (λs e=>if Region.binds .any e then s ||| 2^e.on ||| acc.getD e.on 0 else s) 0)) acc).getD j 0).testBit i=true->
   (∀e∈oj.after,Region.binds .any e=true->listed.getD e.on false=true)->listed.getD i false=true:=by
  intro l
  induction l with
  |nil=>
   intro acc k hk hl h j oj i hj hb hd;have C':j<k:=by
    rcases Nat.lt_or_ge j k with h1|h1
    .exact h1
    .have:=hl (j-k);rw[show k+(j-k)=j by omega,hj]at this;simp at this
   exact h j oj i C' hj hb hd
  |cons o l ih=>
   intro acc k hk hl h;have P4:ops[k]?=some o:=by simpa using(hl 0).symm
   refine ih _ (k+1) (by simp[hk]) (λj=>by have:=hl (j+1);simpa[Nat.add_assoc,Eu 1 j]using this) ?_;intro j oj i hj Xl hb hd;by_cases hjk:j=k
   .subst hjk;rw[Xl]at P4;cases P4;rw[SW,<-hk,Array.getElem?_push_size]at hb;simp only[Option.getD_some]at hb;rw[<-Array.foldl_toList]at hb;rcases A8 (f:=λe=>acc.getD e.on 0) o.after.toList 0 i hb with h1|⟨e,he,hbd,h1|h1⟩
    .simp at h1
    .rw[h1];exact hd e (by simpa using he) hbd
    .have TY:=hd e (by simpa using he) hbd;by_cases hek:e.on<acc.size
     .have hex:e.on<ops.size:=by
       have:=(qk.1 Xl).1;omega
      have hoe:ops[e.on]?=some ops[e.on]:=Array.getElem?_eq_getElem hex;refine h e.on _ i (by omega) hoe h1 (hc e.on _ hoe ?_);have RM:e.on<listed.size:=by
       rcases Nat.lt_or_ge e.on listed.size with h2|h2
       .exact h2
       .simp[Array.getElem?_eq_none h2]at TY
      simp only[SW,Array.getElem?_eq_getElem RM,Option.getD_some]at TY|-;exact TY
     .rw[SW,Array.getElem?_eq_none (by omega)]at h1;simp at h1
   .have hjlt:j<k:=by omega
    rw[SW,Array.getElem?_push_lt (by omega)]at hb;refine h j oj i hjlt Xl ?_ hd;rw[SW,Array.getElem?_eq_getElem (by omega)];exact hb
 intro j oj i hj hb hd;unfold Region.before at hb;rw[<-Array.foldl_toList]at hb;exact key ops.toList #[] 0 rfl (by simp) (λj oj i h=>by omega) j oj i hj hb hd
def xg{ops:Array Oper}{Q:St->Prop}{i:Nat}{oi:Oper}(hi:ops[i]?=some oi):∀(f:Nat) (listed:Array Bool) (x:St),UX x.U->kG ops listed->
 (∀j oj,ops[j]?=some oj->j≠i->listed.getD j true=false->((Region.before ops).getD j 0).testBit i=false->mR (cq P n ops oi) (cq P n ops oj)=true)->
 i∈Region.ready .any ops listed->T P (cq P n ops oi) x (ot P n ops Q f (listed.setIfInBounds i true))->ot P n ops Q (f+1) listed x:=by
 intro f
 induction f with
 |zero=>
  intro listed x Tf _ _ hr H;refine⟨λh=>(by rw[h]at hr;cases hr),λj hj=>?_⟩;by_cases Sl:j=i
  .subst Sl;unfold Tn;simp only[hi];exact H
  .have:=ready_mono hj Sl;obtain⟨x',P7⟩:=H.exists Tf;rw[P7.1]at this;cases this
 |succ f ih=>
  intro listed x Tf QT VZ hr H;refine⟨λh=>(by rw[h]at hr;cases hr),λj hj=>?_⟩;by_cases Sl:j=i
  .subst Sl;unfold Tn;simp only[hi];exact H
  .obtain⟨XN,oj,Xl,Qa⟩:=mem_ready.1 hj;have WM:((Region.before ops).getD j 0).testBit i=false:=by
    cases hb:((Region.before ops).getD j 0).testBit i with
    |false=>rfl
    |true=>
     exfalso;have h1:=rI QT j oj i Xl hb Qa;have h0:=(mem_ready.1 hr).1;rcases Nat.lt_or_ge i listed.size with h'|h'
     .simp[h']at h0 h1;rw[h0]at h1;cases h1
     .simp[Array.getElem?_eq_none h']at h1
   have H2:T P (cq P n ops oi) x λx'=>T P (cq P n ops oj) x' (ot P n ops Q f ((listed.setIfInBounds i true).setIfInBounds j true)):=by
    refine H.mono λx' P7=>?_;have:=P7.2 j (ready_mono hj Sl);unfold Tn at this;simpa only[Xl]using this
   have h2:=EH (VZ j oj Xl Sl XN WM) Tf H2;have WN:∀k ok,ops[k]?=some ok->k≠i->(listed.setIfInBounds j true).getD k true=false->
    ((Region.before ops).getD k 0).testBit i=false->mR (cq P n ops oi) (cq P n ops ok)=true:=λk ok hk hki hun Qf=>by
    refine VZ k ok hk hki ?_ Qf;by_cases hjk:j=k
    .subst hjk;exact XN
    .rw[getD_set_ne true hjk]at hun;exact hun
   unfold Tn;simp only[Xl];refine(h2.inf Tf).mono λx' P7=>ih (listed.setIfInBounds j true) x' P7.1 (QT.list hj) WN (ready_mono hr (Ne.symm Sl)) ?_;rw[Array.setIfInBounds_comm _ _ Sl];exact P7.2
def uo{ops:Array Oper}{k:Nat}{ok:Oper}{listed:Array Bool}(hk:ops[k]?=some ok)(h:CU P n ops k listed=true)(j:Nat)(oj:Oper)(hj:ops[j]?=some oj)(PZ:j≠k)
 (hun:listed.getD j true=false)(Qf:((Region.before ops).getD j 0).testBit k=false):mR (cq P n ops ok) (cq P n ops oj)=true:=by
 unfold CU at h;simp only[hk]at h;have hjlt:j<ops.size:=(qk.1 hj).1;have:=eQ.1 h j (List.mem_range.2 hjlt);simp only[hj,hun,Qf,Bool.or_false,Bool.false_or,ki,beq_iff_eq,PZ,false_or]at this;exact this
def gU(P:Program)(Q:St->Prop):List aG->St->Prop
 |[],x=>Q x
 |i::l,x=>T P i x (gU P Q l)
def tT{ops:Array Oper}{Q:St->Prop}:∀(l:List Oper) (k:Nat) (listed:Array Bool) (x:St),UX x.U->kG ops listed->(∀j,l[j]?=ops[k+j]?)->
 Ev P n ops l.length k listed=true->gU P Q (l.map (cq P n ops)) x->ot P n ops Q l.length listed x
 |[],_,_,_,_,_,_,hB,h=>⟨by simpa[Ev]using hB,h⟩
 |o::l,k,listed,x,Tf,QT,hl,hB,h=>by
  have h0:ops[k]?=some o:=by simpa using(hl 0).symm
  simp only[Rc,Ev,Ba]at hB;obtain⟨⟨hr,hf⟩,hB'⟩:=hB;refine xg h0 l.length listed x Tf QT (uo h0 hf) (by simpa using hr) ?_;refine(T.inf Tf h).mono λx' P7=>?_;exact tT l (k+1) _ x' P7.1 (QT.list (by simpa using hr)) (λj=>by have:=hl (j+1);simpa[Nat.add_assoc,Eu 1 j]using this) hB' P7.2
def xK{F:Fr}(hn:F.n=n){ops:Array Oper}(P4:xW P n ops=true){id:Nat}{x:St}{a:Act}{w:World}(hs:eH F x a w){Q:St->Prop}{Q':Exit->Act->World->Prop}
 (hQ:∀x a w,eH F x a w->Q x->Q' .normal a w)(h:gU P Q (ops.toList.map (cq P n ops)) x):(Code.region id ops true).wpIn F.eC 0 P Q' a w:=by
 simp only[xW,Ba]at P4;have PW:eH F x a { w with drawn:=w.drawn+1 }:=by
  obtain⟨I,hs⟩:=hs;have hk:cG (aB I x.U) (aB I x.U) w { w with drawn:=w.drawn+1 }:=λ_ _ h=>⟨h,rfl⟩
  refine⟨I,⟨⟨hs.sat.size,hs.sat.os,hs.sat.tape,hs.sat.output,hs.sat.same,hs.sat.fin,hs.sat.inj,λid o ho=>?_,hs.sat.fresh,hs.sat.Se⟩,hs.le,hs.size,hs.book.pV hk,λi hi=>?_⟩⟩
  .exact(hs.sat.obj id o ho).mono (cm.refl I) hk (Qh _) (λ_ _ _ _=>rfl)
  .exact A'.mono (cm.refl I) hk (Qh _) _ _ (hs.slot i hi)
 refine wpIn_region_any P4.1 (ly hn hQ _ _ _ _ _ PW ?_);have:=tT (P:=P) (n:=n) (Q:=Q) ops.toList 0 (Array.replicate ops.size false) x hs.inf (λm om hm hl=>by
  have C':m<ops.size:=(qk.1 hm).1;rw[SW,Array.getElem?_replicate,aE C']at hl;simp at hl) (by simp) (by simpa using P4.2.2) h
 simpa using this
def qv(P:Program)(n:Nat)(ops:Array Oper)(m:Nat)(Q:St->Prop):Nat->Array Bool->St->Prop
 |0,listed,x=>(Region.ready .any ops listed=[m]/\Region.ready .any ops (listed.setIfInBounds m true)=[])/\Q x
 |f+1,listed,x=>Region.ready .any ops listed≠[]/\∀i∈Region.ready .any ops listed,i≠m/\Tn P n ops i x (qv P n ops m Q f (listed.setIfInBounds i true))
def oD{F:Fr}(hn:F.n=n){ops:Array Oper}{m:Nat}{Q:St->Prop}{Q':Exit->Act->World->Prop}(hQ:∀x a w,eH F x a w->Q x->wpOpIn F.eC 0 P ops Q' m (Q' .normal) a w):
 ∀(f:Nat) (listed:Array Bool) (x:St) (a:Act) (w:World),eH F x a w->qv P n ops m Q f listed x->wpAnyIn F.eC 0 P .any ops Q' (f+1) listed a w
 |0,listed,x,a,w,hs,h=>by
  obtain⟨⟨h1,h2⟩,h3⟩:=h;refine⟨λh0=>(by rw[h1]at h0;cases h0),λi hi=>?_⟩;rw[h1]at hi;have him:i=m:=by simpa using hi
  subst him;exact wpOpIn_mono (λa w h=>⟨h2,h⟩) (hQ x a w hs h3)
 |f+1,listed,x,a,w,hs,h=>by
  refine⟨λh0=>absurd h0 h.1,λi hi=>?_⟩;have h1:=(h.2 i hi).2;unfold Tn at h1;unfold wpOpIn;cases ho:ops[i]? with
  |none=>
   simp only[ho]at h1;exact oD hn hQ f _ x a w hs h1
  |some o=>
   simp only[ho]at h1;have h2:=xD (Q':=Q') hn h1 hs λx' a' w' PW hk=>oD hn hQ f _ x' a' w' PW hk;by_cases hw:Region.wanted o (yielded ops a.tmps)=true
   .rw[aE hw]at h2;simp only[hw,if_true];exact I0 (nj h2.1) h2.2
   .rw[aF hw]at h2;simp only[hw];exact⟨λ_ _=>trivial,h2⟩
def ym{ops:Array Oper}{m:Nat}{Q:St->Prop}{i:Nat}{oi:Oper}(hi:ops[i]?=some oi)(him:i≠m)(hm:((Region.before ops).getD m 0).testBit i=true):
 ∀(f:Nat) (listed:Array Bool) (x:St),UX x.U->kG ops listed->
 (∀j oj,ops[j]?=some oj->j≠i->listed.getD j true=false->((Region.before ops).getD j 0).testBit i=false->mR (cq P n ops oi) (cq P n ops oj)=true)->
 i∈Region.ready .any ops listed->T P (cq P n ops oi) x (qv P n ops m Q f (listed.setIfInBounds i true))->qv P n ops m Q (f+1) listed x:=by
 have hnotj:∀(listed:Array Bool),kG ops listed->i∈Region.ready .any ops listed->∀j,j∈Region.ready .any ops listed->((Region.before ops).getD j 0).testBit i=false:=λlisted QT hr j hj=>by
  obtain⟨XN,oj,Xl,Qa⟩:=mem_ready.1 hj;cases hb:((Region.before ops).getD j 0).testBit i with
  |false=>rfl
  |true=>
   exfalso;have h1:=rI QT j oj i Xl hb Qa;have h0:=(mem_ready.1 hr).1;rcases Nat.lt_or_ge i listed.size with h'|h'
   .simp[h']at h0 h1;rw[h0]at h1;cases h1
   .simp[Array.getElem?_eq_none h']at h1
 have hjm:∀(listed:Array Bool),kG ops listed->i∈Region.ready .any ops listed->∀j,j∈Region.ready .any ops listed->j≠m:=λlisted QT hr j hj e=>by
  have:=hnotj listed QT hr j hj;rw[e,hm]at this;cases this
 intro f
 induction f with
 |zero=>
  intro listed x Tf QT _ hr H;refine⟨λh=>(by rw[h]at hr;cases hr),λj hj=>⟨hjm listed QT hr j hj,?_⟩⟩;by_cases Sl:j=i
  .subst Sl;unfold Tn;simp only[hi];exact H
  .have:=ready_mono hj Sl;obtain⟨x',P7⟩:=H.exists Tf;rw[P7.1.1]at this;exact absurd (by simpa using this) (hjm listed QT hr j hj)
 |succ f ih=>
  intro listed x Tf QT VZ hr H;refine⟨λh=>(by rw[h]at hr;cases hr),λj hj=>⟨hjm listed QT hr j hj,?_⟩⟩;by_cases Sl:j=i
  .subst Sl;unfold Tn;simp only[hi];exact H
  .obtain⟨XN,oj,Xl,Qa⟩:=mem_ready.1 hj;have WM:=hnotj listed QT hr j hj;have H2:T P (cq P n ops oi) x λx'=>T P (cq P n ops oj) x' (qv P n ops m Q f ((listed.setIfInBounds i true).setIfInBounds j true)):=by
    refine H.mono λx' P7=>?_;have:=(P7.2 j (ready_mono hj Sl)).2;unfold Tn at this;simpa only[Xl]using this
   have h2:=EH (VZ j oj Xl Sl XN WM) Tf H2;have WN:∀k ok,ops[k]?=some ok->k≠i->(listed.setIfInBounds j true).getD k true=false->
    ((Region.before ops).getD k 0).testBit i=false->mR (cq P n ops oi) (cq P n ops ok)=true:=λk ok hk hki hun Qf=>by
    refine VZ k ok hk hki ?_ Qf;by_cases hjk:j=k
    .subst hjk;exact XN
    .rw[getD_set_ne true hjk]at hun;exact hun
   unfold Tn;simp only[Xl];refine(h2.inf Tf).mono λx' P7=>ih (listed.setIfInBounds j true) x' P7.1 (QT.list hj) WN (ready_mono hr (Ne.symm Sl)) ?_;rw[Array.setIfInBounds_comm _ _ Sl];exact P7.2
def uU{ops:Array Oper}{m:Nat}{Q:St->Prop}:∀(l:List Oper) (k:Nat) (listed:Array Bool) (x:St),UX x.U->kG ops listed->(∀j,j<l.length->l[j]?=ops[k+j]?)->
 FR P n ops m l.length k listed=true->gU P Q (l.map (cq P n ops)) x->qv P n ops m Q l.length listed x
 |[],_,_,_,_,_,_,hB,h=>⟨by simpa[FR]using hB,h⟩
 |o::l,k,listed,x,Tf,QT,hl,hB,h=>by
  have h0:ops[k]?=some o:=by simpa using(hl 0 (by simp)).symm
  simp only[Rc,FR,Ba]at hB;obtain⟨⟨hr,YF,hbit⟩,hf,hB'⟩:=hB;refine ym h0 (by simpa using YF) hbit l.length listed x Tf QT (uo h0 hf) (by simpa using hr) ?_;refine(T.inf Tf h).mono λx' P7=>?_;exact uU l (k+1) _ x' P7.1 (QT.list (by simpa using hr)) (λj hj=>by have:=hl (j+1) (by simpa using hj);simpa[Nat.add_assoc,Eu 1 j]using this) hB' P7.2
def vC{F:Fr}(hn:F.n=n){ops:Array Oper}(P4:xy P n ops=true){id:Nat}{x:St}{a:Act}{w:World}(hs:eH F x a w){Q:St->Prop}{Q':Exit->Act->World->Prop}
 (hQ:∀x a w,eH F x a w->Q x->wpListIn F.eC 0 P ops Q' (ops.toList.drop (ops.size-1)) a w)(h:gU P Q ((ops.toList.take (ops.size-1)).map (cq P n ops)) x):(Code.region id ops true).wpIn F.eC 0 P Q' a w:=by
 simp only[xy,Ba,SX]at P4;obtain⟨hmx,QQ,_,_,hlex⟩:=P4;have PW:eH F x a { w with drawn:=w.drawn+1 }:=by
  obtain⟨I,hs⟩:=hs;have hk:cG (aB I x.U) (aB I x.U) w { w with drawn:=w.drawn+1 }:=λ_ _ h=>⟨h,rfl⟩
  refine⟨I,⟨⟨hs.sat.size,hs.sat.os,hs.sat.tape,hs.sat.output,hs.sat.same,hs.sat.fin,hs.sat.inj,λid o ho=>?_,hs.sat.fresh,hs.sat.Se⟩,hs.le,hs.size,hs.book.pV hk,λi hi=>?_⟩⟩
  .exact(hs.sat.obj id o ho).mono (cm.refl I) hk (Qh _) (λ_ _ _ _=>rfl)
  .exact A'.mono (cm.refl I) hk (Qh _) _ _ (hs.slot i hi)
 refine wpIn_region_any hmx ?_;have hlen:(ops.toList.take (ops.size-1)).length=ops.size-1:=by simp
 have hdrop:ops.toList.drop (ops.size-1)=[ops[ops.size-1]'(by omega)]:=by
  rw[gT (by simpa using(by omega:ops.size-1<ops.size))];simp[Dv,show ops.size<=ops.size-1+1 by omega]
 have QG:ops[ops.size-1]?=some (ops[ops.size-1]'(by omega)):=Array.getElem?_eq_getElem (by omega);have hL:=uU (P:=P) (n:=n) (Q:=Q) (m:=ops.size-1) (ops.toList.take (ops.size-1)) 0 (Array.replicate ops.size false) x hs.inf (λm om hm hl=>by
  have C':m<ops.size:=(qk.1 hm).1;rw[SW,Array.getElem?_replicate,aE C']at hl;simp at hl) (λj hj=>by rw[hlen]at hj;simp[List.getElem?_take,hj]) (by rw[hlen];exact hlex) h
 rw[hlen]at hL;have:=oD (Q':=Q') hn (λx a w hs hq=>by
  have:=hQ x a w hs hq;rw[hdrop]at this;unfold wpOpIn;simpa only[QG,wpListIn]using this) _ _ _ _ _ PW hL
 rwa [show ops.size-1+1=ops.size by omega]at this
variable {P:Program} {n:Nat} {st:St} {Q:St->Prop} {k:List It}
def ad.Hq{l:List aG}(h:gU P (λx=>ad P n k x Q) l st):ad P n (.code (.VP true l)::k) st Q:=by
 intro F hn kt hk a w hs;obtain⟨z,RO,rfl,hy,QU⟩:=dX hk;obtain⟨c0,rfl,Q1⟩:=fY hy;have TJ:∃id ops,c0=.region id ops true/\xW P n ops=true/\ops.toList.map (cq P n ops)=l:=by
  cases c0<;>simp only[dh,reduceCtorEq]at Q1;rename_i id ops draw;cases draw
  .simp at Q1
  .simp only[Bool.true_and]at Q1;split at Q1
   .cases Q1
   split at Q1
   .cases Q1
   .rename_i hd;simp only[bh.VP.injEq,true_and]at Q1;exact⟨id,ops,rfl,by simpa using hd,Q1⟩
 obtain⟨id,ops,rfl,P4,rfl⟩:=TJ;exact xK hn P4 hs (λx a w hs h=>h F hn RO QU a w hs) h
def ad.yk{l e:List aG}(h:gU P (λx=>ad P n (.ops e::k) x Q) l st):ad P n (.code (.yk l e)::k) st Q:=by
 intro F hn kt hk a w hs;obtain⟨z,RO,rfl,hy,QU⟩:=dX hk;obtain⟨c0,rfl,Q1⟩:=fY hy;have TJ:∃id ops,c0=.region id ops true/\xy P n ops=true/\(ops.toList.take (ops.size-1)).map (cq P n ops)=l/\(ops.toList.drop (ops.size-1)).map (cq P n ops)=e:=by
  cases c0<;>simp only[dh,reduceCtorEq]at Q1;rename_i id ops draw;cases draw
  .simp at Q1
  .simp only[Bool.true_and]at Q1;split at Q1
   .rename_i hd;simp only[bh.yk.injEq]at Q1;exact⟨id,ops,rfl,hd,Q1.1,Q1.2⟩
   .split at Q1<;>cases Q1
 obtain⟨id,ops,rfl,P4,rfl,rfl⟩:=TJ;exact vC hn P4 hs (λx a w hs h=>h F hn (.ops ops (ops.toList.drop (ops.size-1))::RO) (by simp[KI.it,QU]) a w hs) h
def St.lit(st:St):VX->V->St
 |.t d,v=>⟨aW st.s (some d) v,st.U⟩
 |.c _,_=>st
inductive Td where
 |r (todo:List It)
 |d (l:List aG) (todo:List It)
def YG(P:Program)(n:Nat)(todo:List It)(st:St)(Q:St->Prop):Prop:=match todo with
 |.stop μ::_=>μ st
 |todo=>ad P n todo st Q
def YG.runs{todo:List It}(h:YG P n todo st Q):ad P n todo st Q:=by
 cases todo with
 |nil=>exact h
 |cons x k=>cases x<;>first|exact ad.stop h|exact h
def gU.mono{K K':St->Prop}(hk:∀x,K x->K' x):∀{l:List aG} {x:St},gU P K l x->gU P K' l x
 |[],_,h=>hk _ h
 |_::_,_,h=>T.mono (λ_ h=>gU.mono hk h) h
def Go(P:Program)(n:Nat)(t:Td)(st:St)(Q:St->Prop):Prop:=
 match t with
 |.r todo=>YG P n todo st Q
 |.d l todo=>gU P (λx=>YG P n todo x Q) l st
def Go.runs{todo:List It}(h:Go P n (.r todo) st Q):ad P n todo st Q:=YG.runs h
def Go.chain{l:List aG}(h:Go P n (.d l k) st Q):gU P (λx=>ad P n k x Q) l st:=gU.mono (λ_ h=>YG.runs h) h
def dP{α:Type}(o:Option α)(k:α->Prop):Prop:=match o with
 |some v=>k v
 |none=>False
def qX{α:Type}(v:α)(k:α->Prop):dP (some v) k=k v:=rfl
def gA{α:Type}{o:Option α}{k:α->Prop}:dP o k↔∃v,o=some v/\k v:=by cases o<;>simp[dP]
def dL(v:V)(k:Bool->Prop)(z:Prop):Prop:=match v with
 |.bool c=>k c
 |.PI []=>z
 |.int _ _=>z
 |_=>False
def lp{v:V}{k:Bool->Prop}{z:Prop}(h:dL v k z):(∃c,v=.bool c/\k c)\/(v=.PI []/\z)\/(∃q m,v=.int q m/\z):=by
 unfold dL at h;split at h
 .exact .inl ⟨_,rfl,h⟩
 .exact .inr (.inl ⟨rfl,h⟩)
 .exact .inr (.inr ⟨_,_,rfl,h⟩)
 .exact h.elim
def both(c b:Bool)(x y:Prop):Prop:=(c=b->x)/\(c=!b->y)
def ct(s:Nat->V)(U:ag):Qc->Option ag
 |.store sz xa xv=>bH U sz (xa.ev s) (xv.ev s)
 |_=>none
structure Qw(P:Program) where
 get:FuncId->List V->ag->Option V
 ok:∀f args U v,get f args U=some v->aC P f args U λr Z'=>r=v/\Z'=U
 up:∀f args U Z' v,aa U Z'->get f args U=some v->get f args Z'=some v:=by intros;assumption
def Qw.nothing:Qw P where
 get _ _ _:=none
 ok _ _ _ _ h:=by cases h
def vF(O:Qw P)(s:Nat->V)(U:ag):Qc->Option V
 |.call fx xs=>match fx.ev s with
   |.fn f caps=>O.get f (xs.map (·.ev s)++caps) U
   |_=>none
 |_=>none
def xB(o:Option V)(k:V->Prop)(z:Prop):Prop:=match o with
 |some v=>k v
 |none=>z
def pK{o:Option V}{k:V->Prop}{z:Prop}(h:xB o k z):(∃v,o=some v/\k v)\/z:=by
 cases o with
 |none=>exact .inr h
 |some v=>exact .inl ⟨v,rfl,h⟩
def xj(q:Nat)(a b c d g:Prop):Prop:=match q with
 |0=>a
 |1=>b
 |2=>c
 |3=>d
 |_=>g
def nZ{q:Nat}{a b c d g:Prop}(h:xj q a b c d g):(q=0/\a)\/(q=1/\b)\/(q=2/\c)\/(q=3/\d)\/g:=by
 unfold xj at h;split at h<;>simp_all
def vt(O:Qw P)(q:Nat)(d:Option Nat)(op:Qc)(st:St)(k:St->Prop)(z:Prop):Prop:=
 xj q (eT st.s op/\dP (aH st.U st.s op) λv=>k ⟨aW st.s d v,st.U⟩)
  (xB (vF O st.s st.U op) (λv=>k ⟨aW st.s d v,st.U⟩) z)
  (dP (ct st.s st.U op) λZ'=>k ⟨aW st.s d (.PI []),Z'⟩)
  (dP (QW st.s st.U op) λg=>∀id,st.U id=none->k ⟨aW st.s d (g id).1,(g id).2⟩) z
def step(P:Program)(O:Qw P)(n:Nat):Nat->Td->St->(St->Prop)->Prop
 |0,t,st,Q=>Go P n t st Q
 |f+1,t,st,Q=>match t with
  |.d l k=>match l with
   |[]=>step P O n f (.r k) st Q
   |i::l=>match i.g with
    |none=>vt O (bp i.op) i.dst i.op st (λst=>step P O n f (.d l k) st Q) (Go P n (.d (i::l) k) st Q)
    |some (x,b)=>dL (x.ev st.s) (λc=>both c b
       (vt O (bp i.op) i.dst i.op (st.lit x (.bool b)) (λst=>step P O n f (.d l k) st Q) (Go P n (.d (i::l) k) (st.lit x (.bool b)) Q))
       (step P O n f (.d l k) ⟨aW (st.lit x (.bool !b)).s i.dst (.PI []),(st.lit x (.bool !b)).U⟩ Q))
       (step P O n f (.d l k) ⟨aW st.s i.dst (.PI []),st.U⟩ Q)
  |.r todo=>match todo with
   |[]=>Q st
   |.stop μ::_=>μ st
   |.inBlock _::k=>step P O n f (.r k) st Q
   |.ops []::k=>step P O n f (.r k) st Q
   |.ops (i::l)::k=>match i.g with
    |none=>vt O (bp i.op) i.dst i.op st (λst=>step P O n f (.r (.ops l::k)) st Q) (ad P n (.ops (i::l)::k) st Q)
    |some (x,b)=>dL (x.ev st.s) (λc=>both c b
       (vt O (bp i.op) i.dst i.op (st.lit x (.bool b)) (λst=>step P O n f (.r (.ops l::k)) st Q) (ad P n (.ops (i::l)::k) (st.lit x (.bool b)) Q))
       (step P O n f (.r (.ops l::k)) ⟨aW (st.lit x (.bool !b)).s i.dst (.PI []),(st.lit x (.bool !b)).U⟩ Q))
       (step P O n f (.r (.ops l::k)) ⟨aW st.s i.dst (.PI []),st.U⟩ Q)
   |.code c::k=>match c with
    |.skip=>step P O n f (.r k) st Q
    |.seq a b=>step P O n f (.r (.code a::.code b::k)) st Q
    |.block id a=>step P O n f (.r (.code a::.inBlock id::k)) st Q
    |.exit id=>dP (dH id k) λk'=>step P O n f (.r k') st Q
    |.ret=>Q st
    |.cond c a b=>dL (c.ev st.s) (λt=>both t true (step P O n f (.r (.code a::k)) st Q) (step P O n f (.r (.code b::k)) st Q)) False
    |.VP draw l=>match draw with
     |false=>step P O n f (.r (.ops l::k)) st Q
     |true=>step P O n f (.d l k) st Q
    |.loop a=>ad P n (.code (.loop a)::k) st Q
    |.eK g ps a b=>ad P n (.code (.eK g ps a b)::k) st Q
    |.kI l deps=>ad P n (.code (.kI l deps)::k) st Q
    |.yk l e=>step P O n f (.d l (.ops e::k)) st Q
    |.bad=>False
def xS{st:St}{x:VX}{v:V}(h:x.ev st.s=v):st.lit x v=st:=by
 cases x with
 |t d=>
  simp only[VX.ev]at h;have:aW st.s (some d) v=st.s:=by
   funext i;simp only[aW];split
   .rename_i e;rw[e,h]
   .rfl
  simp[St.lit,this]
 |c _=>rfl
def ad.bH{i:aG}{l:List aG}{sz:Nat}{xa xv:VX}(hw:bl st.s i.g=some true)(ho:i.op=.store sz xa xv){Z':ag}
 (h1:Vc.bH st.U sz (xa.ev st.s) (xv.ev st.s)=some Z')(h:ad P n (.ops l::k) ⟨aW st.s i.dst (.PI []),Z'⟩ Q):ad P n (.ops (i::l)::k) st Q:=by
 unfold Vc.bH at h1;split at h1
 .rename_i id r0 c e1;split at h1
  .rename_i ob e2;split at h1
   .rename_i r e3;split at h1
    .rename_i r' e4;simp only[bb]at h1;subst h1;exact ad.store hw ho e1 e2 e3 e4 h
    .cases h1
   .cases h1
  .cases h1
 .cases h1
def ad.QW{i:aG}{l:List aG}(hw:bl st.s i.g=some true){g:Nat->V×ag}(hg:Vc.QW st.s st.U i.op=some g)
 (h:∀id,st.U id=none->ad P n (.ops l::k) ⟨aW st.s i.dst (g id).1,(g id).2⟩ Q):ad P n (.ops (i::l)::k) st Q:=by
 cases PL:i.op<;>rw[PL]at hg<;>simp only[Vc.QW,reduceCtorEq]at hg
 case box e sz xv=>
  split at hg
  .rename_i hc;simp only[bb]at hg;subst hg;exact ad.box hw PL hc.1 hc.2 h
  .cases hg
 case alloc e sz z=>
  simp only[bb]at hg;subst hg;exact ad.alloc hw PL h
 case ed e sz xs=>
  split at hg
  .rename_i hc;simp only[bb]at hg;subst hg;refine ad.ed hw PL (λx hx=>?_) h;have:=eQ.1 hc x hx;simpa using this
  .cases hg
 case mk e sz bytes zv x=>
  split at hg
  .rename_i m hm;split at hg
   .rename_i hc;simp only[bb]at hg;subst hg;exact ad.mkS hw PL hm hc.1 hc.2 h
   .cases hg
  .cases hg
 case Vi e sz bytes zv y x=>
  split at hg
  .rename_i kq m hy hm;split at hg
   .rename_i hc;simp only[bb]at hg;subst hg;exact ad.Ni hw PL hy hm hc.1 hc.2 h
   .cases hg
  .cases hg
 case append e sz bytes xa xb=>
  split at hg
  .rename_i base PU src e1 e2;split at hg
   .rename_i hb;simp only[bb]at hg;subst hg;exact ad.append hw PL e1 e2 hb h
   .cases hg
  .cases hg
def mc{i:aG}{K:St->Prop}(hw:bl st.s i.g=some true)(h:TO P i.dst i.op st K):T P i st K:=by unfold T;simp only[hw];exact h
def xT{i:aG}{K:St->Prop}(hw:bl st.s i.g=some false)(h:K ⟨aW st.s i.dst (.PI []),st.U⟩):T P i st K:=by unfold T;simp only[hw];exact h
def tE{O:Qw P}{s:Nat->V}{U:ag}{op:Qc}{v:V}(h:vF O s U op=some v):
 ∃fx xs f caps,op=.call fx xs/\fx.ev s=.fn f caps/\∀Z1,aa U Z1->aC P f (xs.map (·.ev s)++caps) Z1 λr Z'=>r=v/\Z'=Z1:=by
 unfold vF at h;split at h
 .rename_i fx xs;split at h
  .rename_i f caps hf;exact⟨fx,xs,f,caps,rfl,hf,λZ1 h1=>O.ok _ _ _ _ (O.up _ _ _ _ _ h1 h)⟩
  .cases h
 .cases h
def ad.uV{O:Qw P}{i:aG}{l:List aG}{st:St}(hw:bl st.s i.g=some true){K:St->Prop}(hK:∀st,K st->ad P n (.ops l::k) st Q)
 (h:vt O (bp i.op) i.dst i.op st K (ad P n (.ops (i::l)::k) st Q)):ad P n (.ops (i::l)::k) st Q:=by
 unfold vt at h;rcases nZ h with⟨_,h1,h⟩|⟨_,h⟩|⟨_,h⟩|⟨_,h⟩|h
 .obtain⟨v,hv,h⟩:=gA.1 h;exact ad.pure hw h1 hv (hK _ h)
 .rcases pK h with⟨v,hv,h⟩|h
  .obtain⟨fx,xs,f,caps,ho,hf,hc⟩:=tE hv;refine ad.call hw ho hf (hc _ (aa.refl _)) ?_;rintro r Z' ⟨rfl,rfl⟩;exact hK _ h
  .exact h
 .obtain⟨Z',hs,h⟩:=gA.1 h;cases PL:i.op<;>rw[PL]at hs<;>simp only[ct,reduceCtorEq]at hs;exact ad.bH hw PL hs (hK _ h)
 .obtain⟨g,hgg,h⟩:=gA.1 h;exact ad.QW hw hgg λid hid=>hK _ (h id hid)
 .exact h
def Go.uV{O:Qw P}{i:aG}{l:List aG}{st:St}(hw:bl st.s i.g=some true){K:St->Prop}(hK:∀st,K st->Go P n (.d l k) st Q)
 (h:vt O (bp i.op) i.dst i.op st K (Go P n (.d (i::l) k) st Q)):Go P n (.d (i::l) k) st Q:=by
 unfold vt at h;rcases nZ h with⟨hk,h1,h⟩|⟨hk,h⟩|⟨_,h⟩|⟨hk,h⟩|h
 .obtain⟨v,hv,h⟩:=gA.1 h;refine mc hw ?_;unfold TO;simp only[hk];exact⟨h1,v,hv,hK _ h⟩
 .rcases pK h with⟨v,hv,h⟩|h
  .obtain⟨fx,xs,f,caps,ho,hf,hc⟩:=tE hv;refine mc hw ?_;rw[ho];exact⟨f,caps,v,hf,hc,hK _ h⟩
  .exact h
 .obtain⟨Z',hs,h⟩:=gA.1 h;refine mc hw ?_;cases PL:i.op<;>rw[PL]at hs<;>simp only[ct,reduceCtorEq]at hs;exact⟨Z',hs,hK _ h⟩
 .obtain⟨g,hgg,h⟩:=gA.1 h;refine mc hw ?_;unfold TO;simp only[hk];exact⟨g,hgg,λid hid=>hK _ (h id hid)⟩
 .exact h
def Go.aY(O:Qw P):∀(f:Nat) (t:Td) (st:St),step P O n f t st Q->Go P n t st Q
 |0,_,_,h=>h
 |f+1,.d [] k,st,h=>Go.aY O f (.r k) st h
 |f+1,.d (i::l) k,st,h=>by
  simp only[step]at h;split at h
  .rename_i hg;have hw:bl st.s i.g=some true:=by simp[hg,bl]
   exact Go.uV hw (λst h=>Go.aY O f (.d l k) st h) h
  .rename_i x b hg;rcases lp h with⟨c,hc,h⟩|⟨hc,h⟩|⟨q,m,hc,h⟩
   .by_cases ZN:c=b
    .subst ZN;have h1:=h.1 rfl;have hw:bl st.s i.g=some true:=by simp[hg,bl,hc]
     rw[xS hc]at h1;exact Go.uV hw (λst h=>Go.aY O f (.d l k) st h) h1
    .have WO:c=!b:=by revert ZN;cases c<;>cases b<;>simp
     have h2:=h.2 WO;rw[xS (by rw[hc,WO])]at h2;exact xT (by simp only[hg,bl,hc];rw[WO];cases b<;>rfl) (Go.aY O f (.d l k) _ h2)
   .exact xT (by simp[hg,bl,hc]) (Go.aY O f (.d l k) _ h)
   .exact xT (by simp[hg,bl,hc]) (Go.aY O f (.d l k) _ h)
 |f+1,.r [],_,h=>ad.nil h
 |f+1,.r (.stop _::_),_,h=>h
 |f+1,.r (.inBlock _::k),st,h=>ad.inBlock (Go.aY O f (.r k) st h).runs
 |f+1,.r (.ops []::k),st,h=>ad.IA (Go.aY O f (.r k) st h).runs
 |f+1,.r (.ops (i::l)::k),st,h=>by
  simp only[step]at h;split at h
  .rename_i hg;have hw:bl st.s i.g=some true:=by simp[hg,bl]
   exact ad.uV hw (λst h=>(Go.aY O f (.r (.ops l::k)) st h).runs) h
  .rename_i x b hg;rcases lp h with⟨c,hc,h⟩|⟨hc,h⟩|⟨q,m,hc,h⟩
   .by_cases ZN:c=b
    .subst ZN;have h1:=h.1 rfl;have hw:bl st.s i.g=some true:=by simp[hg,bl,hc]
     rw[xS hc]at h1;exact ad.uV hw (λst h=>(Go.aY O f (.r (.ops l::k)) st h).runs) h1
    .have WO:c=!b:=by revert ZN;cases c<;>cases b<;>simp
     have h2:=h.2 WO;rw[xS (by rw[hc,WO])]at h2;exact ad.yu (by simp only[hg,bl,hc];rw[WO];cases b<;>rfl) (Go.aY O f (.r (.ops l::k)) _ h2).runs
   .exact ad.yu (by simp[hg,bl,hc]) (Go.aY O f (.r (.ops l::k)) _ h).runs
   .exact ad.yu (by simp[hg,bl,hc]) (Go.aY O f (.r (.ops l::k)) _ h).runs
 |f+1,.r (.code c::k),st,h=>by
  cases c with
  |skip=>exact ad.skip (Go.aY O f (.r _) _ h).runs
  |seq a b=>exact ad.seq (Go.aY O f (.r _) _ h).runs
  |block id a=>exact ad.block (Go.aY O f (.r _) _ h).runs
  |exit id=>
   simp only[step]at h;obtain⟨k',QU,h⟩:=gA.1 h;exact ad.exit QU (Go.aY O f (.r _) _ h).runs
  |ret=>exact ad.ret h
  |cond c a b=>
   simp only[step]at h;rcases lp h with⟨t,ht,h⟩|⟨_,h⟩|⟨_,_,_,h⟩
   .exact ad.cond ht (λe=>(Go.aY O f (.r _) _ (h.1 e)).runs) (λe=>(Go.aY O f (.r _) _ (h.2 (by rw[e];rfl))).runs)
   .exact h.elim
   .exact h.elim
  |VP draw l=>
   cases draw
   .exact ad.region (Go.aY O f (.r _) _ h).runs
   .exact ad.Hq (Go.aY O f (.d l k) _ h).chain
  |loop a=>exact h
  |eK g ps a b=>exact h
  |kI l deps=>exact h
  |yk l e=>exact ad.yk (Go.aY O f (.d l (.ops e::k)) _ h).chain
  |bad=>exact h.elim
def ad.aY(O:Qw P)(f:Nat){todo:List It}{st:St}(h:step P O n f (.r todo) st Q):ad P n todo st Q:=(Go.aY O f (.r todo) st h).runs
section rules
variable (P:Program) (O:Qw P) (n:Nat) (f:Nat)
def exR(o:Option (List It))(st:St)(Q:St->Prop):Prop:=dP o λk'=>step P O n f (.r k') st Q
def cR(v:V)(a b:bh)(k:List It)(st:St)(Q:St->Prop):Prop:=dL v (λt=>both t true (step P O n f (.r (.code a::k)) st Q) (step P O n f (.r (.code b::k)) st Q)) False
def Jg(l:List aG)(k:List It)(d:Option Nat)(st:St)(Q:St->Prop)(o:Option V):Prop:=dP o λv=>step P O n f (.r (.ops l::k)) ⟨aW st.s d v,st.U⟩ Q
def G5(l:List aG)(k:List It)(d:Option Nat)(st:St)(Q:St->Prop)(o:Option ag):Prop:=dP o λZ'=>step P O n f (.r (.ops l::k)) ⟨aW st.s d (.PI []),Z'⟩ Q
def I1(l:List aG)(k:List It)(d:Option Nat)(st:St)(Q:St->Prop)(o:Option (Nat->V×ag)):Prop:=
 dP o λg=>∀id,st.U id=none->step P O n f (.r (.ops l::k)) ⟨aW st.s d (g id).1,(g id).2⟩ Q
def GJ(l:List aG)(k:List It)(d:Option Nat)(op:Qc)(g:Option (VX×Bool))(st:St)(Q:St->Prop)(o:Option V):Prop:=
 xB o (λv=>step P O n f (.r (.ops l::k)) ⟨aW st.s d v,st.U⟩ Q) (ad P n (.ops (⟨d,op,g⟩::l)::k) st Q)
def ur(q:Nat)(d:Option Nat)(op:Qc)(g:Option (VX×Bool))(l:List aG)(k:List It)(st:St)(Q:St->Prop):Prop:=
 vt O q d op st (λst=>step P O n f (.r (.ops l::k)) st Q) (ad P n (.ops (⟨d,op,g⟩::l)::k) st Q)
def gR(v:V)(d:Option Nat)(op:Qc)(x:VX)(b:Bool)(l:List aG)(k:List It)(st:St)(Q:St->Prop):Prop:=
 dL v (λc=>both c b (ur P O n f (bp op) d op (some (x,b)) l k (st.lit x (.bool b)) Q)
  (step P O n f (.r (.ops l::k)) ⟨aW (st.lit x (.bool !b)).s d (.PI []),(st.lit x (.bool !b)).U⟩ Q)) (step P O n f (.r (.ops l::k)) ⟨aW st.s d (.PI []),st.U⟩ Q)
def Jq(l:List aG)(k:List It)(d:Option Nat)(st:St)(Q:St->Prop)(o:Option V):Prop:=dP o λv=>step P O n f (.d l k) ⟨aW st.s d v,st.U⟩ Q
def GP(l:List aG)(k:List It)(d:Option Nat)(st:St)(Q:St->Prop)(o:Option ag):Prop:=dP o λZ'=>step P O n f (.d l k) ⟨aW st.s d (.PI []),Z'⟩ Q
def G6(l:List aG)(k:List It)(d:Option Nat)(st:St)(Q:St->Prop)(o:Option (Nat->V×ag)):Prop:=
 dP o λg=>∀id,st.U id=none->step P O n f (.d l k) ⟨aW st.s d (g id).1,(g id).2⟩ Q
def Fy(l:List aG)(k:List It)(d:Option Nat)(op:Qc)(g:Option (VX×Bool))(st:St)(Q:St->Prop)(o:Option V):Prop:=
 xB o (λv=>step P O n f (.d l k) ⟨aW st.s d v,st.U⟩ Q) (Go P n (.d (⟨d,op,g⟩::l) k) st Q)
def uY(q:Nat)(d:Option Nat)(op:Qc)(g:Option (VX×Bool))(l:List aG)(k:List It)(st:St)(Q:St->Prop):Prop:=
 vt O q d op st (λst=>step P O n f (.d l k) st Q) (Go P n (.d (⟨d,op,g⟩::l) k) st Q)
def gD(v:V)(d:Option Nat)(op:Qc)(x:VX)(b:Bool)(l:List aG)(k:List It)(st:St)(Q:St->Prop):Prop:=
 dL v (λc=>both c b (uY P O n f (bp op) d op (some (x,b)) l k (st.lit x (.bool b)) Q)
  (step P O n f (.d l k) ⟨aW (st.lit x (.bool !b)).s d (.PI []),(st.lit x (.bool !b)).U⟩ Q)) (step P O n f (.d l k) ⟨aW st.s d (.PI []),st.U⟩ Q)
variable {P O n} {f}
def vJ(s:Nat->V)(d:Nat)(v:V)(i:Nat):aW s (some d) v i=if i=d then v else s i:=rfl
def wq(s:Nat->V)(v:V)(i:Nat):aW s none v i=s i:=rfl
def JH(st:St)(d:Nat)(v:V):st.lit (.t d) v=⟨aW st.s (some d) v,st.U⟩:=rfl
def JC(st:St)(u v:V):st.lit (.c u) v=st:=rfl
def M7(s:Nat->V)(d:Nat):VX.ev s (.t d)=s d:=rfl
def Mz(s:Nat->V)(v:V):VX.ev s (.c v)=v:=rfl
def FA(d:Option Nat)(op:Qc)(g:Option (VX×Bool))(l:List aG):ur P O n f 0 d op g l k st Q=(eT st.s op/\Jg P O n f l k d st Q (aH st.U st.s op)):=rfl
def G3(d:Option Nat)(op:Qc)(g:Option (VX×Bool))(l:List aG):ur P O n f 1 d op g l k st Q=GJ P O n f l k d op g st Q (vF O st.s st.U op):=rfl
def GY(d:Option Nat)(op:Qc)(g:Option (VX×Bool))(l:List aG):ur P O n f 2 d op g l k st Q=G5 P O n f l k d st Q (ct st.s st.U op):=rfl
def FF(d:Option Nat)(op:Qc)(g:Option (VX×Bool))(l:List aG):ur P O n f 3 d op g l k st Q=I1 P O n f l k d st Q (QW st.s st.U op):=rfl
def GV(d:Option Nat)(op:Qc)(g:Option (VX×Bool))(l:List aG):ur P O n f 4 d op g l k st Q=ad P n (.ops (⟨d,op,g⟩::l)::k) st Q:=rfl
def ub(d:Option Nat)(op:Qc)(g:Option (VX×Bool))(l:List aG)(v:V):GJ P O n f l k d op g st Q (some v)=step P O n f (.r (.ops l::k)) ⟨aW st.s d v,st.U⟩ Q:=rfl
def uL(d:Option Nat)(op:Qc)(g:Option (VX×Bool))(l:List aG):GJ P O n f l k d op g st Q none=ad P n (.ops (⟨d,op,g⟩::l)::k) st Q:=rfl
def zQ(s:Nat->V)(U:ag)(fx:VX)(xs:List VX):vF O s U (.call fx xs)=match fx.ev s with
 |.fn f caps=>O.get f (xs.map (·.ev s)++caps) U
 |_=>none:=rfl
def Gs(d:Option Nat)(op:Qc)(g:Option (VX×Bool))(l:List aG):uY P O n f 0 d op g l k st Q=(eT st.s op/\Jq P O n f l k d st Q (aH st.U st.s op)):=rfl
def EJ(d:Option Nat)(op:Qc)(g:Option (VX×Bool))(l:List aG):uY P O n f 1 d op g l k st Q=Fy P O n f l k d op g st Q (vF O st.s st.U op):=rfl
def Gw(d:Option Nat)(op:Qc)(g:Option (VX×Bool))(l:List aG):uY P O n f 2 d op g l k st Q=GP P O n f l k d st Q (ct st.s st.U op):=rfl
def EU(d:Option Nat)(op:Qc)(g:Option (VX×Bool))(l:List aG):uY P O n f 3 d op g l k st Q=G6 P O n f l k d st Q (QW st.s st.U op):=rfl
def sH(d:Option Nat)(op:Qc)(g:Option (VX×Bool))(l:List aG)(v:V):Fy P O n f l k d op g st Q (some v)=step P O n f (.d l k) ⟨aW st.s d v,st.U⟩ Q:=rfl
def uI(d:Option Nat)(op:Qc)(g:Option (VX×Bool))(l:List aG):Fy P O n f l k d op g st Q none=Go P n (.d (⟨d,op,g⟩::l) k) st Q:=rfl
def B5:step P O n (f+1) (.r []) st Q=Q st:=rfl
def tN(μ:St->Prop):step P O n (f+1) (.r (.stop μ::k)) st Q=μ st:=rfl
def re(id:Nat):step P O n (f+1) (.r (.inBlock id::k)) st Q=step P O n f (.r k) st Q:=rfl
def qY:step P O n (f+1) (.r (.ops []::k)) st Q=step P O n f (.r k) st Q:=rfl
def zB:step P O n (f+1) (.r (.code .skip::k)) st Q=step P O n f (.r k) st Q:=rfl
def CQ(a b:bh):step P O n (f+1) (.r (.code (.seq a b)::k)) st Q=step P O n f (.r (.code a::.code b::k)) st Q:=rfl
def wz(id:Nat)(a:bh):step P O n (f+1) (.r (.code (.block id a)::k)) st Q=step P O n f (.r (.code a::.inBlock id::k)) st Q:=rfl
def zP(id:Nat):step P O n (f+1) (.r (.code (.exit id)::k)) st Q=exR P O n f (dH id k) st Q:=rfl
def Ay(k':List It):exR P O n f (some k') st Q=step P O n f (.r k') st Q:=rfl
def CO:step P O n (f+1) (.r (.code .ret::k)) st Q=Q st:=rfl
def yP(a:bh):step P O n (f+1) (.r (.code (.loop a)::k)) st Q=ad P n (.code (.loop a)::k) st Q:=rfl
def zy(l e:List aG):step P O n (f+1) (.r (.code (.yk l e)::k)) st Q=step P O n f (.d l (.ops e::k)) st Q:=rfl
def cd(l:List aG)(deps:List (List Nat)):step P O n (f+1) (.r (.code (.kI l deps)::k)) st Q=ad P n (.code (.kI l deps)::k) st Q:=rfl
def uj(g:VX)(ps:List Nat)(a b:bh):step P O n (f+1) (.r (.code (.eK g ps a b)::k)) st Q=ad P n (.code (.eK g ps a b)::k) st Q:=rfl
def Ce(l:List aG):step P O n (f+1) (.r (.code (.VP false l)::k)) st Q=step P O n f (.r (.ops l::k)) st Q:=rfl
def A1(l:List aG):step P O n (f+1) (.r (.code (.VP true l)::k)) st Q=step P O n f (.d l k) st Q:=rfl
def Cq:step P O n (f+1) (.d [] k) st Q=step P O n f (.r k) st Q:=rfl
def zD(c:VX)(a b:bh):step P O n (f+1) (.r (.code (.cond c a b)::k)) st Q=cR P O n f (c.ev st.s) a b k st Q:=rfl
def MH(a b:bh):cR P O n f (.bool true) a b k st Q=step P O n f (.r (.code a::k)) st Q:=by simp[cR,dL,both]
def Mh(a b:bh):cR P O n f (.bool false) a b k st Q=step P O n f (.r (.code b::k)) st Q:=by simp[cR,dL,both]
def GF(p:Prop)[Decidable p](a b:bh):cR P O n f (.bool (decide p)) a b k st Q=((p->step P O n f (.r (.code a::k)) st Q)/\(¬p->step P O n f (.r (.code b::k)) st Q)):=by simp[cR,dL,both]
def CX(d:Option Nat)(op:Qc)(l:List aG):step P O n (f+1) (.r (.ops (⟨d,op,none⟩::l)::k)) st Q=ur P O n f (bp op) d op none l k st Q:=rfl
def tK(d:Option Nat)(l:List aG)(v:V):Jg P O n f l k d st Q (some v)=step P O n f (.r (.ops l::k)) ⟨aW st.s d v,st.U⟩ Q:=rfl
def rq(d:Option Nat)(l:List aG)(Z':ag):G5 P O n f l k d st Q (some Z')=step P O n f (.r (.ops l::k)) ⟨aW st.s d (.PI []),Z'⟩ Q:=rfl
def av(d:Option Nat)(l:List aG)(g:Nat->V×ag):I1 P O n f l k d st Q (some g)=∀id,st.U id=none->step P O n f (.r (.ops l::k)) ⟨aW st.s d (g id).1,(g id).2⟩ Q:=rfl
def CE(d:Option Nat)(op:Qc)(l:List aG):step P O n (f+1) (.d (⟨d,op,none⟩::l) k) st Q=uY P O n f (bp op) d op none l k st Q:=rfl
def uD(d:Option Nat)(l:List aG)(v:V):Jq P O n f l k d st Q (some v)=step P O n f (.d l k) ⟨aW st.s d v,st.U⟩ Q:=rfl
def rk(d:Option Nat)(l:List aG)(Z':ag):GP P O n f l k d st Q (some Z')=step P O n f (.d l k) ⟨aW st.s d (.PI []),Z'⟩ Q:=rfl
def ax(d:Option Nat)(l:List aG)(g:Nat->V×ag):G6 P O n f l k d st Q (some g)=∀id,st.U id=none->step P O n f (.d l k) ⟨aW st.s d (g id).1,(g id).2⟩ Q:=rfl
def zf(d:Option Nat)(op:Qc)(x:VX)(b:Bool)(l:List aG):step P O n (f+1) (.r (.ops (⟨d,op,some (x,b)⟩::l)::k)) st Q=gR P O n f (x.ev st.s) d op x b l k st Q:=rfl
def Fg(d:Option Nat)(op:Qc)(x:VX)(b:Bool)(l:List aG):gR P O n f (.PI []) d op x b l k st Q=step P O n f (.r (.ops l::k)) ⟨aW st.s d (.PI []),st.U⟩ Q:=rfl
def Jz(d:Option Nat)(op:Qc)(x:VX)(l:List aG):gR P O n f (.bool true) d op x true l k st Q=ur P O n f (bp op) d op (some (x,true)) l k (st.lit x (.bool true)) Q:=by simp[gR,dL,both]
def Jt(d:Option Nat)(op:Qc)(x:VX)(l:List aG):gR P O n f (.bool false) d op x false l k st Q=ur P O n f (bp op) d op (some (x,false)) l k (st.lit x (.bool false)) Q:=by simp[gR,dL,both]
def JK(d:Option Nat)(op:Qc)(x:VX)(l:List aG):gR P O n f (.bool true) d op x false l k st Q=step P O n f (.r (.ops l::k)) ⟨aW (st.lit x (.bool true)).s d (.PI []),(st.lit x (.bool true)).U⟩ Q:=by simp[gR,dL,both]
def Jy(d:Option Nat)(op:Qc)(x:VX)(l:List aG):gR P O n f (.bool false) d op x true l k st Q=step P O n f (.r (.ops l::k)) ⟨aW (st.lit x (.bool false)).s d (.PI []),(st.lit x (.bool false)).U⟩ Q:=by simp[gR,dL,both]
def AA(p:Prop)[Decidable p](d:Option Nat)(op:Qc)(x:VX)(l:List aG):gR P O n f (.bool (decide p)) d op x true l k st Q=
 ((p->ur P O n f (bp op) d op (some (x,true)) l k (st.lit x (.bool true)) Q)/\(¬p->step P O n f (.r (.ops l::k)) ⟨aW (st.lit x (.bool false)).s d (.PI []),(st.lit x (.bool false)).U⟩ Q)):=by simp[gR,dL,both]
def zb(p:Prop)[Decidable p](d:Option Nat)(op:Qc)(x:VX)(l:List aG):gR P O n f (.bool (decide p)) d op x false l k st Q=
 ((¬p->ur P O n f (bp op) d op (some (x,false)) l k (st.lit x (.bool false)) Q)/\(p->step P O n f (.r (.ops l::k)) ⟨aW (st.lit x (.bool true)).s d (.PI []),(st.lit x (.bool true)).U⟩ Q)):=by simp[gR,dL,both]
def AG(d:Option Nat)(op:Qc)(x:VX)(b:Bool)(l:List aG):step P O n (f+1) (.d (⟨d,op,some (x,b)⟩::l) k) st Q=gD P O n f (x.ev st.s) d op x b l k st Q:=rfl
def FL(d:Option Nat)(op:Qc)(x:VX)(b:Bool)(l:List aG):gD P O n f (.PI []) d op x b l k st Q=step P O n f (.d l k) ⟨aW st.s d (.PI []),st.U⟩ Q:=rfl
def Jh(d:Option Nat)(op:Qc)(x:VX)(l:List aG):gD P O n f (.bool true) d op x true l k st Q=uY P O n f (bp op) d op (some (x,true)) l k (st.lit x (.bool true)) Q:=by simp[gD,dL,both]
def JG(d:Option Nat)(op:Qc)(x:VX)(l:List aG):gD P O n f (.bool false) d op x false l k st Q=uY P O n f (bp op) d op (some (x,false)) l k (st.lit x (.bool false)) Q:=by simp[gD,dL,both]
def Jr(d:Option Nat)(op:Qc)(x:VX)(l:List aG):gD P O n f (.bool true) d op x false l k st Q=step P O n f (.d l k) ⟨aW (st.lit x (.bool true)).s d (.PI []),(st.lit x (.bool true)).U⟩ Q:=by simp[gD,dL,both]
def Jd(d:Option Nat)(op:Qc)(x:VX)(l:List aG):gD P O n f (.bool false) d op x true l k st Q=step P O n f (.d l k) ⟨aW (st.lit x (.bool false)).s d (.PI []),(st.lit x (.bool false)).U⟩ Q:=by simp[gD,dL,both]
def zu(p:Prop)[Decidable p](d:Option Nat)(op:Qc)(x:VX)(l:List aG):gD P O n f (.bool (decide p)) d op x true l k st Q=
 ((p->uY P O n f (bp op) d op (some (x,true)) l k (st.lit x (.bool true)) Q)/\(¬p->step P O n f (.d l k) ⟨aW (st.lit x (.bool false)).s d (.PI []),(st.lit x (.bool false)).U⟩ Q)):=by simp[gD,dL,both]
def AT(p:Prop)[Decidable p](d:Option Nat)(op:Qc)(x:VX)(l:List aG):gD P O n f (.bool (decide p)) d op x false l k st Q=
 ((¬p->uY P O n f (bp op) d op (some (x,false)) l k (st.lit x (.bool false)) Q)/\(p->step P O n f (.d l k) ⟨aW (st.lit x (.bool true)).s d (.PI []),(st.lit x (.bool true)).U⟩ Q)):=by simp[gD,dL,both]
end rules
def aP(P:Program)(f:FuncId)(args:List V)(v:V):Prop:=∀U,aC P f args U λr Z'=>r=v/\Z'=U
variable {P:Program} {n:Nat} {st:St} {Q:St->Prop} {k:List It}
def fe:ag:=λ_=>none
def cV(U:ag):aa fe U:=λ_ _ h=>by simp[fe]at h
def V.lone:V->Bool
 |.int ..|.bool _|.str _=>true
 |_=>false
def V.scalar:V->Bool
 |.PI vs=>vs.all V.lone
 |.agg vs=>vs.all V.lone
 |v=>v.lone
def A'.lone{I Y':Mu}{ow RI:Nat->Prop}{w w':World}{v:V}{x:Value}(hv:v.lone=true)(h:A' I ow w v x):A' Y' RI w' v x:=by
 cases v<;>simp only[V.lone,gj]at hv<;>simpa[A']using h
def aq.FC{I Y':Mu}{ow RI:Nat->Prop}{w w':World}:∀{vs:List V} {l:List Value},vs.all V.lone=true->aq I ow w vs l->aq Y' RI w' vs l
 |[],l,_,h=>by simpa[aq]using h
 |u::us,l,hv,h=>by
  simp only[vr,Ba]at hv;simp only[aq]at h|-;obtain⟨y,ys,rfl,h1,h2⟩:=h;exact⟨y,ys,rfl,A'.lone hv.1 h1,aq.FC hv.2 h2⟩
def A'.scalar{I Y':Mu}{ow RI:Nat->Prop}{w w':World}{v:V}{x:Value}(hv:v.scalar=true)(h:A' I ow w v x):A' Y' RI w' v x:=by
 by_cases ht:∃vs,v=.PI vs
 .obtain⟨vs,rfl⟩:=ht;simp only[A']at h|-;obtain⟨vals,rfl,h⟩:=h;exact⟨vals,rfl,aq.FC hv h⟩
 .by_cases ha:∃vs,v=.agg vs
  .obtain⟨vs,rfl⟩:=ha;simp only[A']at h|-;obtain⟨vals,rfl,h,h2⟩:=h;exact⟨vals,rfl,aq.FC hv h,h2⟩
  .refine A'.lone ?_ h;cases v<;>simp_all [V.scalar]
def aP.borrow{f:FuncId}{args args':List V}{v:V}{U:ag}(hw:Xi U fe args args')(h:aP P f args' v)(hv:v.scalar=true):
 aC P f args U λr Z'=>r=v/\Z'=U:=by
 refine⟨(h fe).1,?_⟩;intro I w vals hs hr;have QJ:Sat w (aB I fe) I fe w:=by
  have:=hs.drop (cV U);exact⟨Qh _,rfl,rfl,rfl,λ_ _ _=>rfl,this.fin,this.inj,this.obj,λb hb _=>hb,this.kQ⟩
 refine((h fe).2 I w vals QJ (Xi.all hs hw hr)).mono ?_;rintro e w' ⟨r,Z',Y',val,rfl,⟨rfl,rfl⟩,hle,PW,QR⟩;have Qf:∀b,¬aB I fe b:=λb ⟨_,_,_,_,h,_⟩=>by simp[fe]at h
 have Rb:∀b,b<w.heap.size->w'.heap[b]?=w.heap[b]?:=λb hb=>PW.same b hb (Qf b);have RB:∀id o,U id=some o->Y' id=I id:=λid o ho=>hle id (λe=>by
  have:=hs.obj id o ho;rw[e]at this;exact this)
 have V0:∀b,aB Y' U b->aB I U b:=λb ⟨id,o,sz,cap,h1,h2⟩=>⟨id,o,sz,cap,h1,RB id o h1▸h2⟩
 have hk:cG (aB I U) (aB Y' U) w w':=λb hb hn=>⟨λho=>hn (V0 b ho),Rb b hb⟩
 refine⟨_,U,Y',val,rfl,⟨rfl,rfl⟩,hle,?_,A'.scalar hv QR⟩;refine⟨PW.size,PW.os,PW.tape,PW.output,λb hb _=>Rb b hb,PW.fin,?_,?_,λb hb _=>V0 b hb,hs.Se⟩
 .intro id Sd o o' b sz cap Sr QP h1 h2 h3 h4;exact hs.inj id Sd o o' b sz cap Sr QP h1 h2 (RB id o h1▸h3) (RB Sd o' h2▸h4)
 .intro id o ho;rw[RB id o ho];refine(hs.obj id o ho).mono hle hk PW.size λb sz cap hp=>Rb b ?_;exact aB.lt hs ⟨id,o,sz,cap,ho,hp⟩
def au(v:V)(U:ag)(Post:V->ag->Prop):Prop:=∃v' Z',aa Z' U/\Wk U Z' v v'/\Post v' Z'
def CT{s:Nat->V}{U:ag}{d:Nat}{Post:V->ag->Prop}:UK [.tmp (.t d)] ⟨s,U⟩ Post=au (s d) U Post:=by
 apply propext;simp only[UK,au,tu,gQ,iW,VX.ev];constructor
 .rintro⟨v,v',Z',h1,h2⟩;simp only[bb]at h1;subst h1;exact⟨v',Z',h2⟩
 .rintro⟨v',Z',h2⟩;exact⟨_,v',Z',rfl,h2⟩
def CY{s:Nat->V}{U:ag}{d e:Nat}{Post:V->ag->Prop}:UK [.tmp (.t d),.tmp (.t e)] ⟨s,U⟩ Post=au (.PI [s d,s e]) U Post:=by
 apply propext;simp only[UK,au,tu,gQ,iW,VX.ev];constructor
 .rintro⟨v,v',Z',h1,h2⟩;simp only[bb]at h1;subst h1;exact⟨v',Z',h2⟩
 .rintro⟨v',Z',h2⟩;exact⟨_,v',Z',rfl,h2⟩
def wR{s:Nat->V}{U:ag}{d e g:Nat}{Post:V->ag->Prop}:UK [.tmp (.t d),.tmp (.t e),.tmp (.t g)] ⟨s,U⟩ Post=au (.PI [s d,s e,s g]) U Post:=by
 apply propext;simp only[UK,au,tu,gQ,iW,VX.ev];constructor
 .rintro⟨v,v',Z',h1,h2⟩;simp only[bb]at h1;subst h1;exact⟨v',Z',h2⟩
 .rintro⟨v',Z',h2⟩;exact⟨_,v',Z',rfl,h2⟩
def Ad{st:St}{Post:V->ag->Prop}:UK [] st Post=au (.PI []) st.U Post:=by
 apply propext;simp only[UK,au,tu,gQ];constructor
 .rintro⟨v,v',Z',h1,h2⟩;simp only[bb]at h1;subst h1;exact⟨v',Z',h2⟩
 .rintro⟨v',Z',h2⟩;exact⟨_,v',Z',rfl,h2⟩
def au.pure{v v0:V}{U Z1:ag}(h:aa U Z1)(hv:v=v0):au v Z1 λr Z'=>r=v0/\Z'=U:=
 ⟨v,U,h,Wk.refl h v,hv,rfl⟩
def au.same{v v0:V}{U:ag}(hv:v=v0):au v U λr Z'=>r=v0/\Z'=U:=.pure (aa.refl U) hv
def fK{U:ag}{id i:Nat}{o:Ob}:u' U id o i=none↔i≠id/\U i=none:=by
 unfold u';split<;>simp_all
def af{U:ag}{id:Nat}{o:Ob}:u' U id o id=some o:=by simp[u']
def ab{U:ag}{id i:Nat}{o:Ob}(h:i≠id):u' U id o i=U i:=by simp[u',h]
def er{U:ag}{id i:Nat}(h:i≠id):del U id i=U i:=by simp[del,h]
def bZ{U:ag}{id:Nat}{a b:Ob}:u' (u' U id a) id b=u' U id b:=by
 funext i;simp only[u'];split<;>rfl
def Cz{U:ag}{id:Nat}{a:Ob}(h:U id=none):del (u' U id a) id=U:=by
 funext i;simp only[del,u'];split
 .rename_i e;rw[e,h]
 .rfl
def aa.u'{Z' U:ag}{id:Nat}{o:Ob}(h:aa Z' U)(hid:U id=none):aa Z' (Vc.u' U id o):=
 h.HW (by
  cases hs:Z' id with
  |none=>rfl
  |some x=>have:=h id x hs;rw[hid]at this;cases this)
def aa.Le{U Z':ag}{id:Nat}{o:Ob}(h:aa U Z'):aa (Vc.u' U id o) (Vc.u' Z' id o):=λi x hx=>by
 simp only[Vc.u']at hx|-;split at hx
 .rename_i e;rw[aE e];exact hx
 .rename_i e;rw[aF e];exact h i x hx
variable {P:Program} {n:Nat} {st:St} {Q:St->Prop} {k:List It} {I:Mu} {w:World}
def vR{rows:List V}{sz:Nat}(h:∀r∈rows,r.cells.length=sz)(k:Nat):flat (rows.drop k)=(flat rows).drop (k*sz):=by
 induction rows generalizing k with
 |nil=>simp[flat]
 |cons r rs ih=>
  have e:∀l,flat (r::l)=r.cells++flat l:=λl=>by simp[flat]
  cases k with
  |zero=>simp[flat]
  |succ k=>
   rw[MJ,e,ih (λx hx=>h x (by simp[hx])),Nat.add_mul,Nat.one_mul,Eu,<-h r (by simp),<-List.drop_drop,List.drop_left]
def aq.replicate{ow:Nat->Prop}{vs:List V}{l:List Value}(h:aq I ow w vs l):∀n,aq I ow w (List.replicate n vs).flatten (List.replicate n l).flatten
 |0=>by simp[aq]
 |n+1=>by
  simp only[List.replicate_succ,List.flatten_cons];exact h.append (aq.replicate h n)
def Ah{F:Fr}{a:Act}(hs:cI F I st a w){o:Oper}{x:Operand}{t e:TypeId}{args:Array Operand}{argTypes:Array TypeId}{i:TypeInfo}{z:Value}
 (UU:o.op=.call { callee:=.builtin .clear,args:=args,argTypes:=argTypes })(harg:args=#[x])(Vj:argTypes[0]?=some t)
 (ht:P.underlying t=some (.slice e))(hz:zeroOf P e=some (i,z)){id off len:Nat}(h1:(cx F.n x).ev st.s=.own id off len){ob:Ob}(h2:st.U id=some ob)
 (h3:ob.sz=i.size)(h4:off+len<=ob.rows.length):
 ∃y w',(execOp a.eval o).run P w=.ok (.value y) w'/\
  cI F I ⟨aW st.s (o.dst.filter (·<F.n)) (.PI []),u' st.U id { ob with rows:=ob.rows.take off++List.replicate len (ofValue z)++ob.rows.drop (off+len) }⟩ (a.put o.dst y) w':=by
 obtain⟨hi,Yf,hk,XJ,Re,RM⟩:=eu hz;have R:=bK hs;have hx:=R x;rw[h1]at hx;simp only[A']at hx;have PY:∀w',(Builtin.clear_ argTypes o.type #[a.eval x]).run P w=.ok (.tuple #[]) w'->(execOp a.eval o).run P w=.ok (.value (.tuple #[])) w':=by
  intro w' hw';unfold execOp;rw[UU];simp[resolve,invoke,Go.builtin,harg,hw']
 have QR:A' I (aB I st.U) w (.PI []) (.tuple #[]):=by simp only[A'];exact⟨[],rfl,by simp[aq]⟩
 have hzero:len=0->∃y w',(execOp a.eval o).run P w=.ok (.value y) w'/\
  cI F I ⟨aW st.s (o.dst.filter (·<F.n)) (.PI []),u' st.U id { ob with rows:=ob.rows.take off++List.replicate len (ofValue z)++ob.rows.drop (off+len) }⟩ (a.put o.dst y) w':=by
  intro h0;subst h0;have hX:∃b c,a.eval x=.slice b 0 c:=by
   split at hx
   .exact hx.elim
   .exact⟨_,_,hx.1⟩
   .obtain⟨o',c,h,_⟩:=hx;exact⟨_,_,h⟩
  obtain⟨b,c,hX⟩:=hX;have P8:u' st.U id { ob with rows:=ob.rows.take off++List.replicate 0 (ofValue z)++ob.rows.drop (off+0) }=st.U:=by
   funext j;simp only[u',List.replicate_zero,kj,Nat.add_zero,nG];split
   .rename_i e';rw[e',h2]
   .rfl
  rw[P8];refine⟨.tuple #[],w,PY w ?_,hs.pure QR⟩;rw[hX];cases b<;>simp[Builtin.clear_,Vj,run_underlying ht]
 split at hx
 .exact hx.elim
 .exact hzero hx.2.2
 .rename_i b Tx cap hid;obtain⟨o',c,hX,c1,c2,c3,Yf⟩:=hx;by_cases h0:len=0
  .exact hzero h0
  have QK:=hs.sat.obj id ob h2;rw[hid]at QK;obtain⟨cur,e1,e2,e3,e4,e5,e6,e7⟩:=QK.plain Yf;obtain⟨g1,xs,g2,g3,g4,g5⟩:=e7.cur e1;have hoff:o'=off*Tx:=by
   rcases c3 with c3|c3
   .exact c3
   .omega
  subst hoff;have PW:Tx=i.size:=by omega
  subst PW;have hzl:z.cells.size=i.size:=XJ;have YH:=jG z.cells len;have TA:(Builtin.zeroCells z.cells len).toList.length=len*i.size:=by rw[YH];simp[hzl]
  have hbound:off*i.size+len*i.size<=ob.rows.length*i.size:=by rw[<-Nat.add_mul];exact Nat.mul_le_mul_right _ h4
  have Xh:ob.rows.length*i.size<=cap*i.size:=Nat.mul_le_mul_right _ e5;have hone':∀u∈(Builtin.zeroCells z.cells len).toList,u.oneCell'=true:=by
   rw[YH];intro u hu;simp only[List.mem_flatten,List.mem_replicate]at hu;obtain⟨l,⟨_,rfl⟩,hu⟩:=hu;exact Re u hu
  have P8:=run_storeCells_at P b (off*i.size) ob.elem (Builtin.zeroCells z.cells len).toList 0 cur w e1 (by rw[TA];omega) hone';simp only[Nat.add_zero]at P8;refine⟨.tuple #[],w.setRow b (cur.toList.take (off*i.size)++(Builtin.zeroCells z.cells len).toList++cur.toList.drop (off*i.size+(Builtin.zeroCells z.cells len).toList.length)).toArray,PY _ ?_,?_⟩
  .rw[hX];obtain⟨m,rfl⟩:∃m,len=m+1:=⟨len-1,by omega⟩
   simp only[Builtin.clear_,Vj,Sem.run_bind,List.getElem?_toArray,Sem.run_pure,Result.andThen_ok,run_underlying ht,dn hz];simp[P8,run_underlying ht,dn hz]
  .have VT:w.grownBy (w.setRow b (cur.toList.take (off*i.size)++(Builtin.zeroCells z.cells len).toList++cur.toList.drop (off*i.size+(Builtin.zeroCells z.cells len).toList.length)).toArray) (some b):=
    ⟨rfl,rfl,rfl,by simp,λkk _ Ud=>setRow_other w b kk _ (λe=>Ud (by rw[e]))⟩
   have hzc:(ofValue z).cells.length=i.size:=by rw[gq Re];simp[hzl]
   have Uy:∀q∈ob.rows.take off++List.replicate len (ofValue z)++ob.rows.drop (off+len),q.cells.length=i.size:=by
    intro q hq;simp only[dM]at hq;rcases hq with(hq|hq)|hq
    .exact g1 q (qw hq)
    .rw[(List.mem_replicate.1 hq).2];exact hzc
    .exact g1 q (List.mem_of_mem_drop hq)
   have Uw:flat (ob.rows.take off++List.replicate len (ofValue z)++ob.rows.drop (off+len))=
    (flat ob.rows).take (off*i.size)++(List.replicate len (ofValue z).cells).flatten++(flat ob.rows).drop (off*i.size+len*i.size):=by
    rw[gF,gF,tt,p7 g1];congr 1;rw[vR g1,Nat.add_mul]
   have hzr:aq I (aB I st.U) w (ofValue z).cells z.cells.toList:=by rw[gq Re];exact eR _
   have Ye:=hs.sat.change h2 hid (by omega) VT _ (ob.rows.take off++List.replicate len (ofValue z)++ob.rows.drop (off+len)) (xs.take (off*i.size)++(Builtin.zeroCells z.cells len).toList++xs.drop (off*i.size+(Builtin.zeroCells z.cells len).toList.length))
    (setRow_heap w b cur _ ob.elem _ e1) (by simp only[List.size_toArray,fB,jt,vD,TA];rw[Array.length_toList];omega) (by simp;omega) Uy
    (by rw[Uw,TA,YH];exact((g2.take _).append (hzr.replicate len)).append (g2.drop _))
    (by intro u hu
        simp only[dM]at hu;rcases hu with(hu|hu)|hu
        .exact g3 u (qw hu)
        .exact hone' u hu
        .exact g3 u (List.mem_of_mem_drop hu))
    (by intro j u hu
        have:=kx cur.toList xs _ g5 (off*i.size) (by rw[TA,g4];omega) j u hu;simpa using this)
   exact hs.step Ye.1 (cm.refl _) Ye.2 (by simp) (by simp only[A'];exact⟨[],rfl,by simp[aq]⟩)
def ad.clear{i:aG}{l:List aG}{sz:Nat}{z:V}{xv:VX}(hw:bl st.s i.g=some true)(ho:i.op=.clear sz z xv)
 {id off len:Nat}(h1:xv.ev st.s=.own id off len){ob:Ob}(h2:st.U id=some ob)(h3:ob.sz=sz)(h4:off+len<=ob.rows.length)
 (h:ad P n (.ops l::k) ⟨aW st.s i.dst (.PI []),u' st.U id { ob with rows:=ob.rows.take off++List.replicate len z++ob.rows.drop (off+len) }⟩ Q):ad P n (.ops (i::l)::k) st Q:=by
 refine ad.ins (by rw[ho];simp) hw λF hn I a w o all hi hs next Q' M'=>?_
 subst hn;obtain⟨PL,hd⟩:=cC hi;rw[ho]at PL;obtain⟨x,t,e,args,argTypes,ti,zv,g1,g2,g3,g4,g5,rfl,rfl,rfl⟩:=Dd PL;obtain⟨y,w',hx,PW⟩:=Ah hs g1 g2 g3 g4 g5 h1 h2 h3 h4;unfold Oper.wp;rw[hx];refine M' _ _ _ ⟨I,?_⟩ h;rw[<-hd];exact PW
def tm{y:Operand}{t:TypeId}{v:V}:cx n y≠.c (.iface t v):=by
 cases y
 case tmp m=>simp only[cx];split<;>simp
 case const u=>
  simp only[cx,ne_eq,VX.c.injEq];unfold ofValue;split
  .split<;>simp
  .unfold cellOf
   repeat' split
   all_goals simp
 all_goals simp[cx]
def Ae{o:Op}{xa:VX}(h:PO P n o=.RL false xa (.c (.iface 0 .undef))):∃t x y m c yt e,o=.binOp .eql t x y yt/\y=.const (.slice none m c)/\P.underlying t=some (.slice e)/\cx n x=xa:=by
 cases o
 case binOp op t x y yt=>
  simp only[PO]at h;split at h
  .cases op<;>simp only[reduceCtorEq,Qc.RL.injEq,Bool.true_eq_false,false_and]at h;exact absurd h.2.2 tm
  .split at h
   .cases op<;>simp only[reduceCtorEq]at h
   .cases h
  .split at h
   .rename_i hs;unfold bE at h;split at h
    .rename_i hy;obtain⟨rfl,hy⟩:=hy;simp only[Qc.RL.injEq,and_true,true_and]at h;unfold x4 at hs;split at hs
     .rename_i e ht;unfold Ep MO at hy;split at hy
      .split at hy
       .exact⟨t,x,_,_,_,yt,e,rfl,rfl,ht,h⟩
       .cases hy
      .cases hy
     .cases hs
    .cases h
   .split at h
    .split at h
     .simp only[Qc.RL.injEq,VX.c.injEq,V.iface.injEq]at h;exact absurd h.2.2.1 (by decide)
     .cases h
    .split at h
     .split at h
      .simp only[Qc.RL.injEq,VX.c.injEq,V.iface.injEq]at h;exact absurd h.2.2.1 (by decide)
      .cases h
     ·(repeat' split at h)<;>cases h
 case call c=>
  obtain⟨callee,args,argTypes⟩:=c;cases callee
  case builtin b=>cases b<;>simp only[PO]at h<;>(repeat' split at h)<;>cases h
  all_goals (simp only[PO]at h;cases h)
 case unOp op t x=>cases op<;>simp only[PO]at h<;>cases h
 case makeFunc f a b=>cases f<;>simp only[PO]at h<;>(repeat' split at h)<;>cases h
 all_goals (simp only[PO]at h;(repeat' split at h)<;>cases h)
def ad.Ep{i:aG}{l:List aG}{xa:VX}(hw:bl st.s i.g=some true)(ho:i.op=.RL false xa (.c (.iface 0 .undef))){sz:Nat}{rows:List V}
 (hx:xa.ev st.s=.sl sz rows)(h:∀b,(b=true->rows=[])->ad P n (.ops l::k) ⟨aW st.s i.dst (.bool b),st.U⟩ Q):ad P n (.ops (i::l)::k) st Q:=by
 refine ad.ins (by rw[ho];simp) hw λF hn I a w o all hi hs next Q' M'=>?_
 subst hn;obtain⟨PL,hd⟩:=cC hi;rw[ho]at PL;obtain⟨t,x,y,m,c,yt,e,g1,rfl,g2,rfl⟩:=Ae PL;have R:=bK hs x;rw[hx]at R;simp only[A']at R;obtain⟨ba,cap,hX,_,hr⟩:=R;have PY:(execOp a.eval o).run P w=.ok (.value (.bool ba.isNone)) w:=by
  unfold execOp;rw[g1];have hY:a.eval (.const (.slice none m c))=.slice none m c:=rfl;simp[hX,hY,eqGuard,Lib.run_eql_slice_nil w t e ba rows.length cap m c g2]
 unfold Oper.wp;rw[PY];refine M' _ _ _ ⟨I,?_⟩ (h ba.isNone ?_)
 .rw[<-hd];exact hs.pure (by simp[A'])
 .intro hb;rcases hr with hr|⟨b,off,rfl,_⟩
  .exact hr
  .cases hb
def FX{o:Op}{xa:VX}{neg:Bool}(h:PO P n o=.RL neg xa (.c (.iface 1 .undef))):∃op t x yt ms,o=.binOp op t x (.const .nilIface) yt/\((op=.eql/\neg=false)\/(op=.neq/\neg=true))/\P.underlying t=some (.interface ms)/\cx n x=xa:=by
 cases o
 case binOp op t x y yt=>
  simp only[PO]at h;split at h
  .cases op<;>simp only[reduceCtorEq,Qc.RL.injEq]at h
   .exact absurd h.2.2 tm
   .exact absurd h.2.2 tm
  .split at h
   .cases op<;>simp only[reduceCtorEq]at h
   .cases h
  .split at h
   .unfold bE at h;split at h
    .simp only[Qc.RL.injEq,VX.c.injEq,V.iface.injEq]at h;exact absurd h.2.2.1 (by decide)
    .cases h
   .split at h
    .rename_i hs;split at h
     .rename_i hy;obtain⟨ho,hy⟩:=hy;simp only[Qc.RL.injEq,and_true]at h;unfold pL at hs;split at hs
      .rename_i ms ht;unfold JE at hy;split at hy
       .rcases ho with rfl|rfl
        .exact⟨.eql,t,x,yt,ms,rfl,.inl ⟨rfl,h.1.symm⟩,ht,h.2⟩
        .exact⟨.neq,t,x,yt,ms,rfl,.inr ⟨rfl,h.1.symm⟩,ht,h.2⟩
       .cases hy
      .cases hs
     .cases h
    .split at h
     .split at h
      .simp only[Qc.RL.injEq,VX.c.injEq,V.iface.injEq]at h;exact absurd h.2.2.1 (by decide)
      .cases h
     ·(repeat' split at h)<;>cases h
 case call c=>
  obtain⟨callee,args,argTypes⟩:=c;cases callee
  case builtin b=>cases b<;>simp only[PO]at h<;>(repeat' split at h)<;>cases h
  all_goals (simp only[PO]at h;cases h)
 case unOp op t x=>cases op<;>simp only[PO]at h<;>cases h
 case makeFunc f a b=>cases f<;>simp only[PO]at h<;>(repeat' split at h)<;>cases h
 all_goals (simp only[PO]at h;(repeat' split at h)<;>cases h)
def ad.Ov{i:aG}{l:List aG}{xa:VX}{neg:Bool}(hw:bl st.s i.g=some true)(ho:i.op=.RL neg xa (.c (.iface 1 .undef))){b:Bool}
 (hx:(xa.ev st.s=.QN/\b=true)\/∃t v,xa.ev st.s=.iface t v/\b=false)(h:ad P n (.ops l::k) ⟨aW st.s i.dst (.bool (b != neg)),st.U⟩ Q):ad P n (.ops (i::l)::k) st Q:=by
 refine ad.ins (by rw[ho];simp) hw λF hn I a w o all hi hs next Q' M'=>?_
 subst hn;obtain⟨PL,hd⟩:=cC hi;rw[ho]at PL;obtain⟨op,t,x,yt,ms,g1,g2,g3,rfl⟩:=FX PL;have R:=bK hs x;have hY:a.eval (.const .nilIface)=.nilIface:=rfl;have hm:P.underlying t=some (.interface (P.methodsAt t)):=by simp[Program.methodsAt,g3]
 have PY:(execOp a.eval o).run P w=.ok (.value (.bool (b != neg))) w:=by
  unfold execOp;rw[g1];rcases hx with⟨hx,rfl⟩|⟨t',v,hx,rfl⟩
  .rw[hx]at R;simp only[A']at R;rcases g2 with⟨rfl,rfl⟩|⟨rfl,rfl⟩
   .simp[R,hY,eqGuard,run_eql_nil_nil w t hm]
   .simp[R,hY,eqGuard,run_neq_nil_nil w t hm]
  .rw[hx]at R;simp only[A']at R;obtain⟨y,hy,_⟩:=R;rcases g2 with⟨rfl,rfl⟩|⟨rfl,rfl⟩
   .simp[hy,hY,eqGuard,run_eql_held_nil w t t' y hm]
   .simp[hy,hY,eqGuard,run_neq_held_nil w t t' y hm]
 unfold Oper.wp;rw[PY];refine M' _ _ _ ⟨I,?_⟩ h;rw[<-hd];exact hs.pure (by simp[A'])
variable {P:Program} {n:Nat} {st:St} {Q:St->Prop} {k:List It}
def CV(l:List Nat)(s:Nat->V):Nat->V:=λi=>if l.contains i then s i else .undef
def Af(l:List Nat)(s:Nat->V)(i:Nat):CV l s i=if l.contains i then s i else .undef:=rfl
def mix(m:Nat)(a b:Nat->V):Nat->V:=λi=>if i<m then a i else b i
def Cb(m:Nat)(a b:Nat->V)(i:Nat):mix m a b i=if i<m then a i else b i:=rfl
def GX(m:Nat)(s:Nat->V):mix m s s=s:=by funext i;simp[mix]
def pc(s:Nat->V)(v:V):aW s none v=s:=rfl
def Cu{m d:Nat}(h:d<m)(a b:Nat->V)(v:V):aW (mix m a b) (some d) v=mix m (aW a (some d) v) b:=by
 funext i;simp only[aW,mix];split
 .rename_i e;subst e;simp[h]
 .split<;>rfl
def B4{m d:Nat}(h:m<=d)(a b:Nat->V)(v:V):aW (mix m a b) (some d) v=mix m a (aW b (some d) v):=by
 funext i;simp only[aW,mix];split
 .rename_i e;subst e;simp[Nat.not_lt.2 h]
 .split<;>rfl
def ad.mix(m:Nat){todo:List It}{s:Nat->V}{U:ag}(h:ad P n todo ⟨Vc.mix m s s,U⟩ Q):ad P n todo ⟨s,U⟩ Q:=by
 rw[GX]at h;exact h
def py{s:Nat->V}{U:ag}{agg:Bool}{sz d:Nat}{Post:V->ag->Prop}:
 UK [.cell agg sz (.t d)] ⟨s,U⟩ Post=dP (bT U agg sz (s d)) λv=>au v U Post:=by
 unfold UK au tu;simp only[gQ,iW,VX.ev];cases bT U agg sz (s d)<;>simp[dP]
def pd{s:Nat->V}{U:ag}{agg:Bool}{sz d e:Nat}{Post:V->ag->Prop}:
 UK [.cell agg sz (.t d),.tmp (.t e)] ⟨s,U⟩ Post=dP (bT U agg sz (s d)) λv=>au (.PI [v,s e]) U Post:=by
 unfold UK au tu;simp only[gQ,iW,VX.ev];cases bT U agg sz (s d)<;>simp[dP]
def aa.az{Z0 U:ag}{id:Nat}{o:Ob}(h:aa Z0 U)(hid:Z0 id=none):aa Z0 (Vc.u' U id o):=λi x hx=>by
 have PZ:i≠id:=λe=>by rw[e,hid]at hx;cases hx
 rw[ab PZ];exact h i x hx
def aa.none{a b:ag}(h:aa a b){i:Nat}(hi:b i=none):a i=none:=by
 cases ha:a i with
 |none=>rfl
 |some o=>rw[h i o ha]at hi;cases hi
def ao{U:ag}{i j:Nat}{o:Ob}(h:U i=some o)(hj:U j=none):i≠j:=by rintro rfl;rw[h]at hj;cases hj
def ae{O:Qw P}{f:Nat}{d:Option Nat}{l:List aG}{v:Nat->V}{ob:Ob}{s:Nat->V}{U:ag}
 (h:∀id Z',aa U Z'->Z' id=some ob->U id=none->step P O n f (.r (.ops l::k)) ⟨aW s d (v id),Z'⟩ Q):
 I1 P O n f l k d ⟨s,U⟩ Q (some λid=>(v id,Vc.u' U id ob)):=by
 rw[av];exact λid hid=>h id _ ((aa.refl U).u' hid) af hid
def bj{O:Qw P}{f:Nat}{d:Option Nat}{l:List aG}{v:Nat->V}{ob:Ob}{s:Nat->V}{U:ag}
 (h:∀id Z',aa U Z'->Z' id=some ob->U id=none->step P O n f (.d l k) ⟨aW s d (v id),Z'⟩ Q):
 G6 P O n f l k d ⟨s,U⟩ Q (some λid=>(v id,Vc.u' U id ob)):=by
 rw[ax];exact λid hid=>h id _ ((aa.refl U).u' hid) af hid
def vi{O:Qw P}{f:Nat}(t:Bool)(a b:bh):cR P O n f (.bool t) a b k st Q=((t=true->step P O n f (.r (.code a::k)) st Q)/\(t=false->step P O n f (.r (.code b::k)) st Q)):=by
 cases t<;>simp[cR,dL,both]
def ad.ay{i:aG}{l:List aG}{fx:VX}{xs:List VX}{s:Nat->V}{U:ag}{f:FuncId}{caps:List V}{v:V}(hw:bl s i.g=some true)(ho:i.op=.call fx xs)
 (hf:fx.ev s=.fn f caps)(hc:aC P f (xs.map (·.ev s)++caps) U λr Z'=>r=v/\Z'=U)(h:ad P n (.ops l::k) ⟨aW s i.dst v,U⟩ Q):
 ad P n (.ops (i::l)::k) ⟨s,U⟩ Q:=by
 refine ad.call hw ho hf hc ?_;rintro r Z' ⟨rfl,rfl⟩;exact h
def zE(op:BinOp)(k:IntKind)(a b:Int):DH op (.int k a) (.int k b)=dF op k a b:=by simp[DH]
def Am(op:BinOp)(a b:List UInt8):DH op (.str a) (.str b)=dB op a b:=rfl
def sT(op:BinOp)(k k':IntKind)(a b:Int):qn op (.int k a) (.int k' b)=dG op k a b:=rfl
def tg(op:BinOp)(a b:List UInt8):qn op (.str a) (.str b)=dE op a b:=rfl
def AX(id off n:Nat):dY false (.own id off n)=some (.int .i64 n):=rfl
def Cy(sz:Nat)(rows:List V):dY false (.sl sz rows)=some (.int .i64 rows.length):=rfl
def wc:dY false .aL=some (.int .i64 0):=rfl
def A2(s:List UInt8):dY true (.str s)=some (.int .i64 s.length):=rfl
def wV(U:ag)(SA id off len:Nat)(k:IntKind)(j:Int):bL U SA (.own id off len) (.int k j)=match U id with
 |some ob=>if ob.sz=SA/\0<=j/\j<len then some (.ptr id (off+j.toNat) 0)else none
 |none=>none:=rfl
def vO(U:ag)(agg:Bool)(sz id i k:Nat):bT U agg sz (.ptr id i k)=match U id with
 |some ob=>match ob.rows[i]? with
  |some r=>if agg then(if k=0/\r.cells.length=sz then some (.agg r.cells)else if k+sz<=r.cells.length then some (.agg ((r.cells.drop k).take sz))else none)
     else r.cells[k]?
  |none=>none
 |none=>none:=rfl
def oU(U:ag)(sz:Nat)(vs:List V):bT U true sz (.rp (.agg vs))=if vs.length=sz then some (.agg vs)else none:=rfl
def oT(U:ag)(sz:Nat)(k:IntKind)(j:Int):bT U false sz (.rp (.int k j))=some (.int k j):=rfl
def Reads(U:ag)(sz:Nat)(agg:Bool)(sv:V)(rows:List V):Prop:=
 dY false sv=some (.int .i64 rows.length)/\∀(i:Nat) v,rows[i]?=some v->∃p,bL U sz sv (.int .i64 i)=some p/\bT U agg sz p=some v
def Reads.ints{U:ag}{l:List Int}:Reads U 1 false (.sl 1 (l.map (.int .i64 ·))) (l.map (.int .i64 ·)):=by
 refine⟨rfl,λi v hv=>?_⟩;obtain⟨n,hn,rfl⟩:∃n,l[i]?=some n/\v=.int .i64 n:=by
  rw[l3]at hv;cases h:l[i]? with
  |none=>simp[h]at hv
  |some n=>simp[h]at hv;exact⟨n,rfl,hv.symm⟩
 refine⟨.rp (.int .i64 n),?_,rfl⟩;simp[bL,hn]
def Reads.own{U:ag}{sz id off len:Nat}{ob:Ob}(ho:U id=some ob)(hs:ob.sz=sz)(hl:off+len<=ob.rows.length)(h1:∀r∈ob.rows,r.cells=[r]):
 Reads U sz false (.own id off len) ((ob.rows.drop off).take len):=by
 refine⟨by simp[dY];omega,λi v hv=>?_⟩;have hi:i<len:=by
  have:=(mL.1 hv).1;simp at this;omega
 have WG:ob.rows[off+i]?=some v:=by
  rw[List.getElem?_take,aE hi,Mb]at hv;exact hv
 refine⟨.ptr id (off+i) 0,?_,?_⟩
 .simp[bL,ho,hs,hi]
 .simp[bT,ho,WG,h1 v (oe WG)]
def ak{m:Int}(h1:-9223372036854775808<=m:=by omega)(h2:m<=9223372036854775807:=by omega):PM .i64 m:=by
 unfold PM;rw[IntKind.wrap_i64];omega
mutual
/-- no row's number in it -/
def V.vm:V->Bool
 |.own ..|.ptr ..|.yl _=>false
 |.sl _ rows=>jc rows
 |.rp v=>v.vm
 |.fn _ caps=>jc caps
 |.bm _ caps=>jc caps
 |.iface _ v=>v.vm
 |.agg c|.PI c=>jc c
 |_=>true
def jc:List V->Bool
 |[]=>true
 |v::vs=>v.vm&&jc vs
end
def aC.LL{P:Program}{f:FuncId}{args:List V}{U:ag}{Post TV:V->ag->Prop}(h:aC P f args U Post)
 (hp:∀r Z',Post r Z'->au r Z' TV):aC P f args U TV:=⟨h.1,λI w vals hs hr=>(h.2 I w vals hs hr).mono λe w' ⟨r,Z',Y',val,h1,h2,h3,h4,h5⟩=>by
 obtain⟨v',Yh,g1,g2,g3⟩:=hp r Z' h2;exact⟨v',Yh,Y',val,h1,g3,h3,h4.drop g1,g2 Y' _ _ _ _ h4 h5⟩⟩
mutual
/-- the same,with each row of its own as one that is only read -/
inductive Fz(U:ag)(N:Nat->Prop):V->V->Prop
 |same (v:V) (h:v.vm=true):Fz U N v v
 |own (id off len:Nat) (ob:Ob) (rows:List V) (h1:U id=some ob) (h2:N id) (h3:off+len<=ob.rows.length) (h4:RQ U N ((ob.rows.drop off).take len) rows):
    Fz U N (.own id off len) (.sl ob.sz rows)
 |nil (sz:Nat):Fz U N .aL (.sl sz [])
 |sl (sz:Nat) (rows Qv:List V) (h:RQ U N rows Qv):Fz U N (.sl sz rows) (.sl sz Qv)
 |agg (cs ds:List V) (h:RQ U N cs ds):Fz U N (.agg cs) (.agg ds)
 |PI (cs ds:List V) (h:RQ U N cs ds):Fz U N (.PI cs) (.PI ds)
 |ptr (id i:Nat) (ob:Ob) (r u:V) (h1:U id=some ob) (h2:N id) (h3:ob.rows[i]?=some r) (h4:Fz U N r u):Fz U N (.ptr id i 0) (.rp u)
 |fn (f:FuncId) (cs ds:List V) (h:RQ U N cs ds):Fz U N (.fn f cs) (.fn f ds)
 |bm (f:FuncId) (cs ds:List V) (h:RQ U N cs ds):Fz U N (.bm f cs) (.bm f ds)
 |iface (t:TypeId) (v u:V) (h:Fz U N v u):Fz U N (.iface t v) (.iface t u)
inductive RQ(U:ag)(N:Nat->Prop):List V->List V->Prop
 |nil:RQ U N [] []
 |cons (v u:V) (vs us:List V) (h:Fz U N v u) (h':RQ U N vs us):RQ U N (v::vs) (u::us)
end
section
variable {U K:ag} {N:Nat->Prop} {I:Mu} {w0 w:World} {QA:Nat->Prop}
def bt.lift{ow RI:Nat->Prop}{v u:V}{b off:Nat}(hv:∀cs,v≠.agg cs)(hu:∀cs,u≠.agg cs)(h:∀x,A' I ow w v x->A' I RI w u x)
 (hr:bt I ow w v b off):bt I RI w u b off:=by
 have e1:∃x,w.cell? ⟨b,off,none⟩=some x/\A' I ow w v x/\x.oneCell'=true:=by
  cases v<;>first|exact absurd rfl (hv _)|simpa only[bt]using hr
 obtain⟨x,h1,h2,h3⟩:=e1;have e2:∃x,w.cell? ⟨b,off,none⟩=some x/\A' I RI w u x/\x.oneCell'=true:=⟨x,h1,h x h2,h3⟩
 cases u<;>first|exact absurd rfl (hu _)|simpa only[bt]using e2
mutual
def Fz.down(hs:Sat w0 QA I U w)(hK:aa K U)(hN:∀id,N id->K id=none):∀{v u:V},Fz U N v u->(∀x,A' I (aB I U) w v x->A' I (aB I K) w u x)/\
 (∀b off,bt I (aB I U) w v b off->bt I (aB I K) w u b off)/\u.cells.length=v.cells.length
 |_,_,.same v h=>⟨λx hr=>A'.mono (cm.refl I) (cG.sub w hK) (Qh _) v x hr,λb off hr=>bt.mono (cm.refl I) (cG.sub w hK) (Qh _) v b off rfl hr,rfl⟩
 |_,_,.own id off len ob rows ho h2 hl h4=>by
  have hd:=RQ.down hs hK hN h4;have key:∀x,A' I (aB I U) w (.own id off len) x->A' I (aB I K) w (.sl ob.sz rows) x:=by
   intro x hr;simp only[A']at hr|-;have hlen:rows.length=len:=by rw[hd.2.2.2];simp;omega
   have QK:=hs.obj id ob ho;split at hr
   .exact hr.elim
   .obtain⟨rfl,rfl,rfl⟩:=hr;have:rows=[]:=rO hlen;subst this;exact⟨none,0,by simp,by simp,.inl rfl⟩
   .rename_i b sz cap hb;obtain⟨o,c,rfl,h1,h2',h3,hz⟩:=hr;refine⟨_,c,by rw[hlen],by omega,?_⟩;by_cases h0:len=0
    .left;exact rO (by omega)
    .right;rw[hb]at QK;obtain⟨g1,g2,g3,g4,g5⟩:=QK.rows hz;have WK:o=off*sz:=by
      rcases h3 with h3|h3
      .exact h3
      .omega
     subst WK g1;refine⟨b,_,rfl,?_,g2,?_⟩
     .rintro⟨Sd,ZM,Sr,QP,e1,e2⟩;have:=hs.inj Sd id ZM ob _ _ _ _ _ (hK _ _ e1) ho e2 hb;rw[this,hN id h2]at e1;cases e1
     .have:=(g5.drop off).take len;rw[gY]at this;exact hd.2.2.1 _ _ _ this
  exact⟨key,λb Uu hr=>bt.lift (λ_=>by simp) (λ_=>by simp) key hr,rfl⟩
 |_,_,.nil sz=>by
  have key:∀x,A' I (aB I U) w .aL x->A' I (aB I K) w (.sl sz []) x:=λx hr=>by
   simp only[A']at hr|-;exact⟨none,0,by simpa using hr,by simp,.inl trivial⟩
  exact⟨key,λb Uu hr=>bt.lift (λ_=>by simp) (λ_=>by simp) key hr,rfl⟩
 |_,_,.sl sz rows Qv h=>by
  have hd:=RQ.down hs hK hN h;have key:∀x,A' I (aB I U) w (.sl sz rows) x->A' I (aB I K) w (.sl sz Qv) x:=λx hr=>by
   simp only[A']at hr|-;obtain⟨a,cap,rfl,h1,h2⟩:=hr;refine⟨a,cap,by rw[hd.2.2.2],by rw[hd.2.2.2];exact h1,?_⟩;rcases h2 with h2|⟨b,off,h3,h4,h5,h6⟩
   .left;have:=hd.2.2.2;rw[h2]at this;exact rO this
   .exact .inr ⟨b,off,h3,λho=>h4 (ho.sub hK),h5,hd.2.2.1 _ _ _ h6⟩
  exact⟨key,λb Uu hr=>bt.lift (λ_=>by simp) (λ_=>by simp) key hr,rfl⟩
 |_,_,.agg cs ds h=>by
  have hd:=RQ.down hs hK hN h;refine⟨λx hr=>?_,λb off hr=>?_,by simp only[V.cells];exact hd.2.2.2⟩
  .simp only[A']at hr|-;obtain⟨vals,rfl,h1,h2⟩:=hr;exact⟨vals,rfl,hd.1 _ h1,h2⟩
  .simp only[bt]at hr|-;exact hd.2.1 _ _ hr
 |_,_,.PI cs ds h=>by
  have hd:=RQ.down hs hK hN h;have key:∀x,A' I (aB I U) w (.PI cs) x->A' I (aB I K) w (.PI ds) x:=λx hr=>by
   simp only[A']at hr|-;obtain⟨vals,rfl,h1⟩:=hr;exact⟨vals,rfl,hd.1 _ h1⟩
  exact⟨key,λb Uu hr=>bt.lift (λ_=>by simp) (λ_=>by simp) key hr,rfl⟩
 |_,_,.ptr id i ob r u ho h2 hi h4=>by
  have hd:=Fz.down hs hK hN h4;have key:∀x,A' I (aB I U) w (.ptr id i 0) x->A' I (aB I K) w (.rp u) x:=by
   intro x hr;simp only[A']at hr|-;have QK:=hs.obj id ob ho;split at hr
   .rename_i b sz cap hb;obtain⟨rfl,hz⟩:=hr;rw[hb]at QK;obtain⟨g1,g2,g3,g4,g5⟩:=QK.rows hz;obtain⟨e1,e2⟩:=g5.get hi;rw[gY]at e2;have Qf:¬aB I K b:=by
     rintro⟨Sd,ZM,Sr,QP,e1,e2⟩;have:=hs.inj Sd id ZM ob _ _ _ _ _ (hK _ _ e1) ho e2 hb;rw[this,hN id h2]at e1;cases e1
    refine⟨b,i*sz,by simp,?_,.inr Qf,hd.2.1 _ _ ((dR _ _ _ _ _ _).2 e2)⟩;cases hc:r.cells with
    |nil=>rw[hc]at e1;simp at e1;omega
    |cons c cs=>
     rw[hc]at e2;simp only[aQ]at e2;obtain⟨⟨y,hy,_⟩,_⟩:=e2;exact World.block_lt_of_cell? w _ hy
   .exact hr.elim
  exact⟨key,λb Uu hr=>bt.lift (λ_=>by simp) (λ_=>by simp) key hr,rfl⟩
 |_,_,.fn f cs ds h=>by
  have hd:=RQ.down hs hK hN h;have key:∀x,A' I (aB I U) w (.fn f cs) x->A' I (aB I K) w (.fn f ds) x:=λx hr=>by
   simp only[A']at hr|-;obtain⟨vals,rfl,h1⟩:=hr;exact⟨vals,rfl,hd.1 _ h1⟩
  exact⟨key,λb Uu hr=>bt.lift (λ_=>by simp) (λ_=>by simp) key hr,rfl⟩
 |_,_,.bm f cs ds h=>by
  have hd:=RQ.down hs hK hN h;have key:∀x,A' I (aB I U) w (.bm f cs) x->A' I (aB I K) w (.bm f ds) x:=λx hr=>by
   simp only[A']at hr|-;obtain⟨vals,rfl,h1⟩:=hr;exact⟨vals,rfl,hd.1 _ h1⟩
  exact⟨key,λb Uu hr=>bt.lift (λ_=>by simp) (λ_=>by simp) key hr,rfl⟩
 |_,_,.iface t v u h=>by
  have hd:=Fz.down hs hK hN h;have key:∀x,A' I (aB I U) w (.iface t v) x->A' I (aB I K) w (.iface t u) x:=λx hr=>by
   simp only[A']at hr|-;obtain⟨y,rfl,h1⟩:=hr;exact⟨y,rfl,hd.1 _ h1⟩
  exact⟨key,λb Uu hr=>bt.lift (λ_=>by simp) (λ_=>by simp) key hr,rfl⟩
def RQ.down(hs:Sat w0 QA I U w)(hK:aa K U)(hN:∀id,N id->K id=none):∀{vs us:List V},RQ U N vs us->(∀l,aq I (aB I U) w vs l->aq I (aB I K) w us l)/\
 (∀b off,aQ I (aB I U) w vs b off->aQ I (aB I K) w us b off)/\(∀b off sz,aX I (aB I U) w vs b off sz->aX I (aB I K) w us b off sz)/\us.length=vs.length
 |_,_,.nil=>⟨λl h=>by simpa[aq]using h,λ_ _ _=>by simp[aQ],λ_ _ _ _=>by simp[aX],rfl⟩
 |_,_,.cons v u vs us h h'=>by
  have hd:=Fz.down hs hK hN h;have hd':=RQ.down hs hK hN h';refine⟨λl hr=>?_,λb off hr=>?_,λb off sz hr=>?_,by simp[hd'.2.2.2]⟩
  .simp only[aq]at hr|-;obtain⟨x,xs,rfl,h1,h2⟩:=hr;exact⟨x,xs,rfl,hd.1 _ h1,hd'.1 _ h2⟩
  .simp only[aQ]at hr|-;obtain⟨⟨x,h1,h2,h3⟩,h4⟩:=hr;exact⟨⟨x,h1,hd.1 _ h2,h3⟩,hd'.2.1 _ _ h4⟩
  .simp only[aX]at hr|-;exact⟨by rw[hd.2.2];exact hr.1,hd.2.1 _ _ hr.2.1,hd'.2.2.1 _ _ _ hr.2.2⟩
end
def Fz.wk{v u:V}(h:Fz U N v u)(hK:aa K U)(hN:∀id,N id->K id=none):Wk U K v u:=λ_ _ _ _ x hs hr=>(Fz.down hs hK hN h).1 x hr
end
def BB:(((((((type_of%@B5)/\(type_of%@CT))/\((type_of%@CY)/\(type_of%@wR)))/\(((type_of%@Ad)/\(type_of%@py))/\((type_of%@pd)/\(type_of%@qX))))/\((((type_of%@tN)/\(type_of%@re))/\((type_of%@qY)/\(type_of%@zB)))/\(((type_of%@CQ)/\(type_of%@wz))/\((type_of%@zP)/\(type_of%@Ay)))))/\(((((type_of%@CO)/\(type_of%@yP))/\((type_of%@uj)/\(type_of%@Ce)))/\(((type_of%@A1)/\(type_of%@zy))/\((type_of%@Cq)/\(type_of%@zD))))/\((((type_of%@MH)/\(type_of%@Mh))/\((type_of%@GF)/\(type_of%@CX)))/\(((type_of%@FA)/\(type_of%@G3))/\((type_of%@GY)/\((type_of%@FF)/\(type_of%@GV)))))))/\((((((type_of%@ub)/\(type_of%@uL))/\((type_of%@zQ)/\(type_of%@sH)))/\(((type_of%@uI)/\(type_of%@tK))/\((type_of%@rq)/\(type_of%@CE))))/\((((type_of%@Gs)/\(type_of%@EJ))/\((type_of%@Gw)/\(type_of%@EU)))/\(((type_of%@uD)/\(type_of%@rk))/\((type_of%@zf)/\((type_of%@Fg)/\(type_of%@Jz))))))/\(((((type_of%@Jt)/\(type_of%@JK))/\((type_of%@Jy)/\(type_of%@AA)))/\(((type_of%@zb)/\(type_of%@AG))/\((type_of%@FL)/\(type_of%@Jh))))/\((((type_of%@JG)/\(type_of%@Jr))/\((type_of%@Jd)/\(type_of%@zu)))/\(((type_of%@AT)/\(type_of%@pc))/\((type_of%@Cu)/\((type_of%@B4)/\(type_of%@Cb))))))))/\(((((((type_of%@vJ)/\(type_of%@wq))/\((type_of%@JH)/\(type_of%@JC)))/\(((type_of%@M7)/\(type_of%@Mz))/\((type_of%@zE)/\(type_of%@Am))))/\((((type_of%@sT)/\(type_of%@tg))/\((type_of%@AX)/\(type_of%@Cy)))/\(((type_of%@wc)/\(type_of%@A2))/\((type_of%@wV)/\(type_of%@vO)))))/\(((((type_of%@oU)/\(type_of%@oT))/\((type_of%@af)/\(type_of%@bZ)))/\(((type_of%@true_implies)/\(type_of%@false_implies))/\((type_of%@implies_true.{0})/\(type_of%@Af))))/\((((type_of%@List.getD_cons_zero.{0})/\(type_of%@List.getD_cons_succ.{0}))/\((type_of%@List.getD_nil.{0})/\(type_of%@List.map_cons.{0,0})))/\(((type_of%@List.map_nil.{0,0})/\(type_of%@List.length_cons.{0}))/\((type_of%@List.length_nil.{0})/\((type_of%@List.drop_succ_cons.{0})/\(type_of%@List.drop_zero.{0})))))))/\((((((type_of%@List.take_succ_cons.{0})/\(type_of%@List.take_zero.{0}))/\((type_of%@List.set_cons_zero.{0})/\(type_of%@List.set_cons_succ.{0})))/\(((type_of%@List.append_nil.{0})/\(type_of%@List.nil_append.{0}))/\((type_of%@List.cons_append.{0})/\(type_of%@List.all_cons.{0}))))/\((((type_of%@List.all_nil.{0})/\(type_of%@List.getElem?_cons_zero.{0}))/\((type_of%@List.getElem?_cons_succ.{0})/\(type_of%@List.contains_cons.{0})))/\(((type_of%@List.contains_nil.{0})/\(type_of%@Option.isSome_some.{0}))/\((type_of%@Option.map_some.{0,0})/\((type_of%@Option.map_none.{0,0})/\(type_of%@true_and))))))/\(((((type_of%@and_true)/\(type_of%@and_self))/\((type_of%@Nat.zero_add)/\(type_of%@Nat.add_zero)))/\(((type_of%@Bool.not_true)/\(type_of%@Bool.not_false))/\((type_of%@Bool.false_eq_true)/\(type_of%@Bool.or_true))))/\((((type_of%@Bool.true_or)/\(type_of%@Bool.or_false))/\((type_of%@Bool.false_or)/\(type_of%@Bool.true_and)))/\(((type_of%@Bool.and_true)/\(type_of%@Bool.and_self))/\((type_of%@decide_true)/\((type_of%@decide_false)/\(type_of%@decide_eq_true_eq)))))))):=
 ⟨⟨⟨⟨⟨⟨⟨@B5,@CT⟩,⟨@CY,@wR⟩⟩,⟨⟨@Ad,@py⟩,⟨@pd,@qX⟩⟩⟩,⟨⟨⟨@tN,@re⟩,⟨@qY,@zB⟩⟩,⟨⟨@CQ,@wz⟩,⟨@zP,@Ay⟩⟩⟩⟩,⟨⟨⟨⟨@CO,@yP⟩,⟨@uj,@Ce⟩⟩,⟨⟨@A1,@zy⟩,⟨@Cq,@zD⟩⟩⟩,⟨⟨⟨@MH,@Mh⟩,⟨@GF,@CX⟩⟩,⟨⟨@FA,@G3⟩,⟨@GY,⟨@FF,@GV⟩⟩⟩⟩⟩⟩,⟨⟨⟨⟨⟨@ub,@uL⟩,⟨@zQ,@sH⟩⟩,⟨⟨@uI,@tK⟩,⟨@rq,@CE⟩⟩⟩,⟨⟨⟨@Gs,@EJ⟩,⟨@Gw,@EU⟩⟩,⟨⟨@uD,@rk⟩,⟨@zf,⟨@Fg,@Jz⟩⟩⟩⟩⟩,⟨⟨⟨⟨@Jt,@JK⟩,⟨@Jy,@AA⟩⟩,⟨⟨@zb,@AG⟩,⟨@FL,@Jh⟩⟩⟩,⟨⟨⟨@JG,@Jr⟩,⟨@Jd,@zu⟩⟩,⟨⟨@AT,@pc⟩,⟨@Cu,⟨@B4,@Cb⟩⟩⟩⟩⟩⟩⟩,⟨⟨⟨⟨⟨⟨@vJ,@wq⟩,⟨@JH,@JC⟩⟩,⟨⟨@M7,@Mz⟩,⟨@zE,@Am⟩⟩⟩,⟨⟨⟨@sT,@tg⟩,⟨@AX,@Cy⟩⟩,⟨⟨@wc,@A2⟩,⟨@wV,@vO⟩⟩⟩⟩,⟨⟨⟨⟨@oU,@oT⟩,⟨@af,@bZ⟩⟩,⟨⟨@true_implies,@false_implies⟩,⟨@implies_true.{0},@Af⟩⟩⟩,⟨⟨⟨@List.getD_cons_zero.{0},@List.getD_cons_succ.{0}⟩,⟨@List.getD_nil.{0},@List.map_cons.{0,0}⟩⟩,⟨⟨@List.map_nil.{0,0},@List.length_cons.{0}⟩,⟨@List.length_nil.{0},⟨@List.drop_succ_cons.{0},@List.drop_zero.{0}⟩⟩⟩⟩⟩⟩,⟨⟨⟨⟨⟨@List.take_succ_cons.{0},@List.take_zero.{0}⟩,⟨@List.set_cons_zero.{0},@List.set_cons_succ.{0}⟩⟩,⟨⟨@List.append_nil.{0},@List.nil_append.{0}⟩,⟨@List.cons_append.{0},@List.all_cons.{0}⟩⟩⟩,⟨⟨⟨@List.all_nil.{0},@List.getElem?_cons_zero.{0}⟩,⟨@List.getElem?_cons_succ.{0},@List.contains_cons.{0}⟩⟩,⟨⟨@List.contains_nil.{0},@Option.isSome_some.{0}⟩,⟨@Option.map_some.{0,0},⟨@Option.map_none.{0,0},@true_and⟩⟩⟩⟩⟩,⟨⟨⟨⟨@and_true,@and_self⟩,⟨@Nat.zero_add,@Nat.add_zero⟩⟩,⟨⟨@Bool.not_true,@Bool.not_false⟩,⟨@Bool.false_eq_true,@Bool.or_true⟩⟩⟩,⟨⟨⟨@Bool.true_or,@Bool.or_false⟩,⟨@Bool.false_or,@Bool.true_and⟩⟩,⟨⟨@Bool.and_true,@Bool.and_self⟩,⟨@decide_true,⟨@decide_false,@decide_eq_true_eq⟩⟩⟩⟩⟩⟩⟩⟩
def CC:(∀(l:List V),V.cells (.agg l)=l)/\(V.cells (.undef )=[.undef ])/\(∀(k:IntKind) (i:Int),V.cells (.int k i)=[.int k i])/\(∀(b:Bool),V.cells (.bool b)=[.bool b])/\(∀(s:List UInt8),V.cells (.str s)=[.str s])/\(V.cells (.aL )=[.aL ])/\(∀(a:Nat) (l:List V),V.cells (.sl a l)=[.sl a l])/\(∀(a b c:Nat),V.cells (.own a b c)=[.own a b c])/\(∀(a b c:Nat),V.cells (.ptr a b c)=[.ptr a b c])/\(∀(a:V),V.cells (.rp a)=[.rp a])/\(V.cells (.US )=[.US ])/\(∀(f:FuncId) (l:List V),V.cells (.fn f l)=[.fn f l])/\(∀(f:FuncId) (l:List V),V.cells (.bm f l)=[.bm f l])/\(V.cells (.Rh )=[.Rh ])/\(∀(t:TypeId) (a:V),V.cells (.iface t a)=[.iface t a])/\(V.cells (.QN )=[.QN ])/\(∀(l:List V),V.cells (.PI l)=[.PI l])/\(∀(x:Value),V.cells (.raw x)=[.raw x])/\(∀(a:Nat),V.cells (.gp a)=[.gp a])/\(∀(a:Nat),V.cells (.yl a)=[.yl a])/\(∀(a:Nat),V.cells (.mp a)=[.mp a])/\(∀(l:List V),V.stays (.agg l)=true)/\(V.stays (.undef )=false)/\(∀(k:IntKind) (i:Int),V.stays (.int k i)=true)/\(∀(b:Bool),V.stays (.bool b)=true)/\(∀(s:List UInt8),V.stays (.str s)=true)/\(V.stays (.aL )=true)/\(∀(a:Nat) (l:List V),V.stays (.sl a l)=true)/\(∀(a b c:Nat),V.stays (.own a b c)=true)/\(∀(a b c:Nat),V.stays (.ptr a b c)=true)/\(∀(a:V),V.stays (.rp a)=true)/\(V.stays (.US )=true)/\(∀(f:FuncId) (l:List V),V.stays (.fn f l)=true)/\(∀(f:FuncId) (l:List V),V.stays (.bm f l)=true)/\(V.stays (.Rh )=true)/\(∀(t:TypeId) (a:V),V.stays (.iface t a)=true)/\(V.stays (.QN )=true)/\(∀(l:List V),V.stays (.PI l)=false)/\(∀(a:Nat),V.stays (.gp a)=true)/\(∀(a:Nat),V.stays (.yl a)=true)/\(∀(a:Nat),V.stays (.mp a)=true):=
 ⟨λ_=>rfl,rfl,λ_ _=>rfl,λ_=>rfl,λ_=>rfl,rfl,λ_ _=>rfl,λ_ _ _=>rfl,λ_ _ _=>rfl,λ_=>rfl,rfl,λ_ _=>rfl,λ_ _=>rfl,rfl,λ_ _=>rfl,rfl,λ_=>rfl,λ_=>rfl,λ_=>rfl,λ_=>rfl,λ_=>rfl,λ_=>rfl,rfl,λ_ _=>rfl,λ_=>rfl,λ_=>rfl,rfl,λ_ _=>rfl,λ_ _ _=>rfl,λ_ _ _=>rfl,λ_=>rfl,rfl,λ_ _=>rfl,λ_ _=>rfl,rfl,λ_ _=>rfl,rfl,λ_=>rfl,λ_=>rfl,λ_=>rfl,λ_=>rfl⟩
def NG{p:Prop}[Decidable p]:(!decide p)=decide (¬p):=decide_not.symm
def sR{P:Program}{n:Nat}{todo:List It}{st:St}{Q:St->Prop}(h:step P Qw.nothing n 300 (.r todo) st Q):ad P n todo st Q:=ad.aY Qw.nothing 300 h
def sG{P:Program}{n:Nat}{t:Td}{st:St}{Q:St->Prop}(h:step P Qw.nothing n 300 t st Q):Go P n t st Q:=Go.aY Qw.nothing 300 t st h
attribute [go_sem] BB CC NG Qw.nothing bp eT aH dF dG dB dE dH bO jm dZ bx fa cQ fb cJ cy bI gI ct bH bM QW jg cP bJ iy di bY cO cF ji binBV bD cX
abbrev vI(n:Int):V:=.int .i64 n
structure Rn where
 (top P0 PQ H' QC Qd Qm head before after inside clear:Int)
deriving DecidableEq
def Rn.cells(s:Rn):List V:=[vI s.top,vI s.P0,vI s.PQ,vI s.H',vI s.QC,vI s.Qd,vI s.Qm,vI s.head,vI s.before,vI s.after,vI s.inside,vI s.clear]
structure Nd where
 (kind size:Int)
 (st:Rn)
 (line space:Int)
 (words:List Int)
 (side w h:Int)
deriving DecidableEq
def encI(l:List Int):V:=.sl 1 (l.map vI)
def Nd.cells(x:Nd):List V:=[vI x.kind,vI x.size,vI x.st.top,vI x.st.P0,vI x.st.PQ,vI x.st.H',vI x.st.QC,vI x.st.Qd,vI x.st.Qm,vI x.st.head,vI x.st.before,vI x.st.after,vI x.st.inside,vI x.st.clear,
 vI x.line,vI x.space,encI x.words,vI x.side,vI x.w,vI x.h]
def iE(x:Nd):V:=.agg x.cells
def mx:Int:=1099511627776
def bo(n a b:Int):Bool:=decide (n>=a/\n<=b)
def Rn.ok(s:Rn):Bool:=bo s.top 0 mx&&bo s.P0 0 mx&&bo s.PQ 0 mx&&bo s.H' 0 mx&&bo s.QC 0 mx&&bo s.Qd 1 mx&&bo s.Qm 1 mx&&bo s.head 0 mx&&
 bo s.before 0 4&&bo s.after 0 4&&bo s.inside 0 1&&bo s.clear 0 3
def Rn.zero:Rn:=⟨0,0,0,0,0,0,0,0,0,0,0,0⟩
def aM(l:List Nd):V:=.sl 20 (l.map iE)
def eU(l:List Nd):dY false (aM l)=some (.int .i64 l.length):=by simp[aM,dY]
def ai(l:List Nd):(aM l).cells=[aM l]:=rfl
def aK(l:List Nd):(aM l).stays=true:=rfl
variable {P:Program} {n:Nat} {st:St} {Q:St->Prop} {k:List It} {I:Mu} {w w':World}
abbrev gh(o:Obj)(env:List V:=[]):Ob:=⟨0,0,.obj o::env⟩
def Sat.HO{w0:World}{QA:Nat->Prop}{U:ag}(h:Sat w0 QA I U w)(o:Obj)(env:List V)(he:aq I (aB I U) w env (tmpsOf o)):
 ∃id,U id=none/\∃Y':Mu,Y' id=.Qz w.heap.size 0 0/\cm I Y'/\Sat w0 QA Y' (u' U id (gh o env)) (w.alloc o)/\cG (aB I U) (aB Y' (u' U id (gh o env))) w (w.alloc o):=by
 obtain⟨id,hid,P3,Q3⟩:=h.dv;have hle:cm I (λk=>if k=id then .Qz w.heap.size 0 0 else I k):=λk hk=>by
  have:k≠id:=λe'=>hk (e'▸hid);simp[this]
 refine⟨id,P3,λk=>if k=id then .Qz w.heap.size 0 0 else I k,by simp,hle,?_⟩;refine h.put (row:=none) (World.grownBy_alloc w o none) (by simp) hle (Q3 _) id (gh o env) (λo' ho=>?_) (λi o' hi ho=>?_) (λb' Sr QP Sf=>?_) (λhk=>?_)
 .simp[u']at ho;exact ho.symm
 .simp only[u',aF hi]at ho;exact⟨ho,by simp⟩
 .simp only[if_true,Pl.Qz.injEq]at Sf;exact .inr (by omega)
 .simp only[if_true];exact .inr ⟨rfl,rfl,o,env,rfl,World.alloc_heap_new w o,aq.mono hle hk (by simp) _ _ he⟩
def Sat.KK{w0:World}{QA:Nat->Prop}{U:ag}(h:Sat w0 QA I U w){id b cap:Nat}{o:Ob}(ho:U id=some o)(hid:I id=.Qz b 0 cap)(o':Obj)(env:List V)(he:aq I (aB I U) w env (tmpsOf o')):
 Sat w0 QA I (u' U id (gh o' env)) (w.putObj b o')/\cG (aB I U) (aB I (u' U id (gh o' env))) w (w.putObj b o'):=by
 have C':b<w.heap.size:=aB.lt h ⟨id,o,0,cap,ho,hid⟩;refine h.put (grownBy_putObj' w b o') (λb' Sf=>by cases Sf;exact⟨id,o,0,cap,ho,hid⟩) (cm.refl _) h.fin id (gh o' env) (λx P7=>by simp[u']at P7;exact P7.symm)
  (λi x hi P7=>?_) (λb' Sr QP Sf=>?_) (λhk=>?_)
 .simp only[u',aF hi]at P7;refine⟨P7,λb' Sr QP h4 h5=>hi ?_⟩;cases h5;exact h.inj i id x o _ _ _ _ _ P7 ho h4 hid
 .rw[hid]at Sf;cases Sf;exact .inl rfl
 .rw[hid];exact .inr ⟨rfl,rfl,o',env,rfl,World.putObj_heap_same C',aq.mono (cm.refl _) hk (by simp) _ _ he⟩
def Sat.tO{w0:World}{QA:Nat->Prop}{U:ag}(h:Sat w0 QA I U w){id b cap:Nat}{o:Obj}{env:List V}(ho:U id=some (gh o env))(hid:I id=.Qz b 0 cap):w.heap[b]?=some o/\aq I (aB I U) w env (tmpsOf o):=by
 have:=h.obj id _ ho;rw[hid]at this;rcases this with⟨_,_,_,h1,_⟩|⟨_,_,ob,WQ,h1,h2,h3⟩
 .omega
 .simp only[List.cons.injEq,V.obj.injEq]at h1;obtain⟨rfl,rfl⟩:=h1;exact⟨h2,h3⟩
variable {P:Program} {n:Nat} {st:St} {Q:St->Prop} {k:List It} {I:Mu} {w w':World}
def Sat.compose{w0:World}{QA:Nat->Prop}{I Y':Mu}{U Z':ag}(h0:Sat w0 QA I U w)(PW:Sat w (aB I U) Y' Z' w'):
 Sat w0 QA Y' Z' w'/\cG (aB I U) (aB Y' Z') w w':=by
 have RP:cG (aB I U) (aB Y' Z') w w':=λb hb hn=>⟨λho=>hn (PW.fresh b ho hb),PW.same b hb hn⟩
 refine⟨⟨iq h0.size PW.size,PW.os.trans h0.os,PW.tape.trans h0.tape,PW.output.trans h0.output,?_,PW.fin,PW.inj,PW.obj,?_,h0.Se⟩,RP⟩
 .intro b hb hn;have h1:¬aB I U b:=λho=>hn (h0.fresh b ho hb);exact(PW.same b (Nat.lt_of_lt_of_le hb h0.size) h1).trans (h0.same b hb hn)
 .intro b hb C';exact h0.fresh b (PW.fresh b hb (Nat.lt_of_lt_of_le C' h0.size)) C'
def Sat.here{w0:World}{QA:Nat->Prop}{U:ag}(h:Sat w0 QA I U w):Sat w (aB I U) I U w:=
 ⟨Qh _,rfl,rfl,rfl,λ_ _ _=>rfl,h.fin,h.inj,h.obj,λb hb _=>hb,h.kQ⟩
def YC(P:Program)(P9:Nat)(x:List V)(U:ag)(Post:Bool->ag->Prop):Prop:=
 ∀I w vals l c,I P9=.Qz l 0 c->Sat w (aB I U) I U w->aq I (aB I U) w x vals->
  YieldAt Fence.wide 0 P l vals.toArray w λe w'=>∃b Z' Y',e=.returned (.bool b)/\Post b Z'/\cm I Y'/\Sat w (aB I U) Y' Z' w'
def vy{F:Fr}{m m':Nat}{l:Nat}{f:FuncId}{tmps:Array Value}{assign body:Code}{R:Ending->World->Prop}
 (h:RoundIn Fence.wide m P l f tmps assign body w R):RoundIn F.eC m' P l f tmps assign body w R:=
 ⟨trivial,λc cs _=>h.2 c cs (room_wide _)⟩
def ad.lK{i:aG}{l:List aG}{fx:VX}{xs:List VX}(hw:bl st.s i.g=some true)(ho:i.op=.call fx xs){P9:Nat}(hf:fx.ev st.s=.yl P9)
 {Post:Bool->ag->Prop}(hc:YC P P9 (xs.map (·.ev st.s)) st.U Post)
 (h:∀b Z',Post b Z'->ad P n (.ops l::k) ⟨aW st.s i.dst (.bool b),Z'⟩ Q):ad P n (.ops (i::l)::k) st Q:=by
 refine ad.Jj hw λF hn I a w o all hi hs next Q' M'=>?_
 subst hn;obtain⟨PL,hd⟩:=cC hi;rw[ho]at PL;obtain⟨f0,args,argTypes,g1,rfl,rfl⟩:=mu PL;have SC:=bK hs f0;rw[hf]at SC;simp only[A']at SC;split at SC
 .rename_i lb c hid;have QB:=mZ hs args.toList;obtain⟨fn,tmps,assign,body,hy,hR⟩:=hc I w _ lb c hid hs.sat.here QB;have PY:(execOp a.eval o).run P w=.ok (.round lb fn tmps assign body) w:=by
   unfold execOp;rw[g1];simp only[resolve,SC,Deferred.ofValue,Sem.run_bind,Sem.run_pure,Result.andThen_ok,invoke];rw[<-hy];congr 2;apply Array.ext';simp
  refine⟨λ_ _=>trivial,?_⟩;rw[Oper.semAt_eq _ _ _ (by rw[g1];intro c e;cases e),PY];refine⟨ke F,vy (hR.mono ?_)⟩;rintro e w' ⟨b,Z',Y',rfl,hp,hle,PW⟩;obtain⟨h1,h2⟩:=hs.sat.compose PW;refine M' _ _ _ ⟨Y',?_⟩ (h b Z' hp);rw[<-hd];exact hs.step h1 hle h2 PW.size (by simp[A'])
 .exact SC.elim
def bf(ZJ U P5 Z':ag):Prop:=aa P5 Z'/\∀id o,ZJ id=none->U id=some o->Z' id=some o/\P5 id=none
def bf.refl{ZJ U:ag}(h:aa ZJ U):bf ZJ U ZJ U:=⟨h,λ_ _ h1 h2=>⟨h2,h1⟩⟩
def bf.set{ZJ U P5 Z':ag}(h:bf ZJ U P5 Z'){id:Nat}{o o':Ob}(hid:P5 id=some o):bf ZJ U (u' P5 id o') (u' Z' id o'):=
 ⟨h.1.Le,λi x h1 h2=>by
  obtain⟨h3,h4⟩:=h.2 i x h1 h2;have:i≠id:=λe=>by rw[e,hid]at h4;cases h4
  simp[Vc.u',this,h3,h4]⟩
def bf.new{ZJ U P5 Z':ag}(h:bf ZJ U P5 Z'){id:Nat}{o:Ob}(hid:Z' id=none):bf ZJ U (u' P5 id o) (u' Z' id o):=
 ⟨h.1.Le,λi x h1 h2=>by
  obtain⟨h3,h4⟩:=h.2 i x h1 h2;have:i≠id:=λe=>by rw[e,hid]at h3;cases h3
  simp[Vc.u',this,h3,h4]⟩
def bf.qH{ZJ U P5 Z':ag}(h:bf ZJ U P5 Z'){id:Nat}{o:Ob}(hid:Z' id=none):bf ZJ U P5 (u' Z' id o):=
 ⟨h.1.trans (aa.u' (aa.refl _) hid),λi x h1 h2=>by
  obtain⟨h3,h4⟩:=h.2 i x h1 h2;have:i≠id:=λe=>by rw[e,hid]at h3;cases h3
  simp[Vc.u',this,h3,h4]⟩
def Iter(P:Program)(g:FuncId)(caps:List V)(xs:List (List V)):Prop:=
 eJ P g=true/\∀(P9:Nat) (τ Jx:List (List V)->ag->Prop) (Z0:ag),
  (∀pre x post ZJ U,xs=pre++x::post->τ pre ZJ->aa ZJ U->
    YC P P9 x U λb Z'=>∃P5,bf ZJ U P5 Z'/\((b=true/\τ (pre++[x]) P5)\/(b=false/\Jx (pre++[x]) P5)))->
  τ [] Z0->ry P g (.yl P9::caps) Z0 λ_ Z'=>τ xs Z'\/∃pre,pre <+: xs/\Jx pre Z'
variable {P:Program} {n:Nat} {st:St} {Q:St->Prop} {k:List It} {I:Mu} {w w':World}
def lT(s:Nat->V):List Nat->List V->Nat->V
 |p::ps,x::xs=>lT (λi=>if i=p then x else s i) ps xs
 |_,_=>s
def exK:List (Nat×(St->Prop))->List It
 |[]=>[]
 |(id,μ)::l=>.inBlock id::.stop μ::exK l
def Cn{U Z':ag}{id:Nat}(h:aa U Z'):aa (del U id) (del Z' id):=λi o e=>by
 unfold del at e|-;split at e
 .cases e
 .rename_i hi;rw[aF hi];exact h i o e
def Sat.more{w0:World}{QA:Nat->Prop}{U:ag}(h:Sat w0 QA I U w)(o:Obj):Sat w0 QA I U (w.alloc o)/\cG (aB I U) (aB I U) w (w.alloc o):=by
 have Rb:∀b,b<w.heap.size->(w.alloc o).heap[b]?=w.heap[b]?:=λb hb=>Go.RowKit.Below.heap_alloc w o b hb;have hk:cG (aB I U) (aB I U) w (w.alloc o):=λb hb hn=>⟨hn,Rb b hb⟩
 refine⟨⟨by have:=h.size;simp;omega,h.os,h.tape,h.output,λb hb hn=>(Rb b (Nat.lt_of_lt_of_le hb h.size)).trans (h.same b hb hn),h.fin,h.inj,λid ob ho=>?_,h.fresh,h.Se⟩,hk⟩;exact(h.obj id ob ho).mono (cm.refl I) hk (by simp) λb sz cap hp=>Rb b (aB.lt h ⟨id,ob,sz,cap,ho,hp⟩)
def cI.enter{F:Fr}{a:Act}(hs:cI F I st a w)(fn:FuncId)(ps:Array Tmp)(assign body:Code):
 ∃mark W0 D,cI F I st { a with defers:=mark++a.defers } W0/\(Instr.enterLoop fn a.tmps ps assign body F.eC.round).run P w=
  .ok (W0.heap.size,mark) (W0.alloc (.loop { state:=.ready,pending:=none,fn,tmps:=a.tmps,params:=ps,assign,body,defers:=D })):=by
 cases hrd:F.rd with
 |some lr=>
  obtain⟨l0,r0⟩:=lr;obtain⟨h1,_⟩:=hs.book.rnd l0 r0 hrd;refine⟨[],w,r0.defers,hs,?_⟩;have:F.eC.round=some l0:=by simp[Fr.eC,hrd]
  rw[this];exact run_enterLoop_inner h1 fn a.tmps ps assign body
 |none=>
  have:F.eC.round=none:=by simp[Fr.eC,hrd]
  rw[this];refine⟨[{ target:=.collected w.heap.size,args:=#[] }],w.alloc (.deferred (some [])),w.heap.size,?_,?_⟩
  .obtain⟨h1,hk⟩:=hs.sat.more (.deferred (some []));have hb:=hs.book.pV hk;refine⟨h1,hs.le,hs.size,⟨hb.rnd,?_⟩,λi hi=>A'.mono (cm.refl I) hk (by simp) _ _ (hs.slot i hi)⟩;obtain⟨Ds,g1,g2,g3⟩:=hb.marks;obtain⟨Ds',g1',g2',g3'⟩:=hs.book.marks;refine⟨w.heap.size::Ds',by simp[g1'],?_,?_⟩
   .refine List.nodup_cons.2 ⟨λU6=>?_,g2'⟩;have:=(qk.1 (g3' _ U6).2.1).1;omega
   .intro D hD;simp only[cD]at hD;rcases hD with rfl|hD
    .refine⟨hs.sat.size,World.alloc_heap_new w _,λho=>?_⟩;have:=aB.lt hs.sat ho;omega
    .obtain⟨q1,q2,q3⟩:=g3' D hD;have C':=(qk.1 q2).1;exact⟨q1,(hk D C' q3).2.trans q2,q3⟩
  .rw[run_enterLoop_outer];simp
def Dq(ps:List Nat):∀(xs:List Value) (t:Array Value) (vs:List V) (s:Nat->V) {ow:Nat->Prop} (m:Nat),t.size=m->aq I ow w vs xs->vs.length=ps.length->
 (∀i,i<m->A' I ow w (s i) (t.getD i undef))->
 ((ps.zip xs).foldl (λt (p,v)=>t.setIfInBounds p v) t).size=m/\∀i,i<m->A' I ow w (lT s ps vs i) (((ps.zip xs).foldl (λt (p,v)=>t.setIfInBounds p v) t).getD i undef):=by
 induction ps with
 |nil=>intro xs t vs s ow m ht _ _ hi;exact⟨by simpa using ht,by simpa[lT]using hi⟩
 |cons p ps ih=>
  intro xs t vs s ow m ht hv hl hi;cases vs with
  |nil=>simp at hl
  |cons v vs=>
   simp only[aq]at hv;obtain⟨x,xs',rfl,h1,h2⟩:=hv;simp only[List.zip_cons_cons,iY,lT];refine ih xs' (t.setIfInBounds p x) vs _ m (by simp[ht]) h2 (by simpa using hl) λi C'=>?_;by_cases hip:i=p
   .subst hip;rw[aE rfl,SW,Array.getElem?_setIfInBounds_self_of_lt (by omega)];exact h1
   .rw[aF hip,SW,Array.getElem?_setIfInBounds_ne (λe=>hip e.symm),<-SW];exact hi i C'
variable {P:Program} {n:Nat} {st:St} {Q:St->Prop} {k:List It} {I:Mu} {w w':World}
def uB{b:Nat}{o o':Obj}(h:w.heap[b]?=some o)(hc:∀off x,w.cell? ⟨b,off,none⟩≠some x):
 (∀b',b'≠b->(w.putObj b o').heap[b']?=w.heap[b']?)/\∀(ow:Nat->Prop),qp ow ow w (w.putObj b o'):=by
 have PZ:∀b',b'≠b->(w.putObj b o').heap[b']?=w.heap[b']?:=λb' hb=>World.putObj_heap_other hb;refine⟨PZ,λow b' _ hn=>⟨hn,λoff x hx=>?_⟩⟩;by_cases hb:b'=b
 .subst hb;exact absurd hx (hc off x)
 .exact eA (PZ b' hb) off x hx
def kr{b:Nat}{r:Loop}(h:w.heap[b]?=some (.loop r)):∀off x,w.cell? ⟨b,off,none⟩≠some x:=λoff x=>by simp[World.cell?,h]
def cI.N8{F F':Fr}{a:Act}{l:Nat}{r r':Loop}(hs:cI F I st a w)(hF:F.rd=some (l,r))(hF':F'={ F with rd:=some (l,r') })(hl:l<F.w0.heap.size->F.QA l):
 cI F' I st a (w.putObj l (.loop r')):=by
 subst hF';obtain⟨h1,h2⟩:=hs.book.rnd l r hF;obtain⟨PZ,hk⟩:=uB (o':=.loop r') h1 (kr h1);have hk:=hk (aB I st.U);have hz:w.heap.size<=(w.putObj l (.loop r')).heap.size:=by simp
 have C':=(qk.1 h1).1;refine⟨⟨by simpa using hs.sat.size,hs.sat.os,hs.sat.tape,hs.sat.output,λb hb hn=>?_,hs.sat.fin,hs.sat.inj,λid o ho=>?_,hs.sat.fresh,hs.sat.Se⟩,hs.le,hs.size,⟨λl' r'' e=>?_,?_⟩,λi hi=>A'.bU (cm.refl I) hk hz _ _ (hs.slot i hi)⟩
 .by_cases Sf:b=l
  .subst Sf;exact absurd (hl hb) hn
  .exact(PZ b Sf).trans (hs.sat.same b hb hn)
 .refine(hs.sat.obj id o ho).bU (cm.refl I) hk hz λb sz cap hp=>PZ b ?_;rintro rfl;exact h2 ⟨id,o,sz,cap,ho,hp⟩
 .simp only[bb,Prod.mk.injEq]at e;obtain⟨rfl,rfl⟩:=e;exact⟨World.putObj_heap_same C',h2⟩
 .obtain⟨Ds,g1,g2,g3⟩:=hs.book.marks;refine⟨Ds,g1,g2,λD hD=>?_⟩;obtain⟨q1,q2,q3⟩:=g3 D hD;refine⟨q1,(PZ D ?_).trans q2,q3⟩;rintro rfl;rw[h1]at q2;cases q2
def Sat.Kz{w0:World}{QA:Nat->Prop}{U:ag}(h:Sat w0 QA I U w){P9 l c:Nat}(P3:U P9=none)(hid:I P9=.Qz l 0 c)(Qf:¬aB I U l){r:Loop}(hr:w.heap[l]?=some (.loop r))
 (hl:l<w0.heap.size->QA l)(o:Obj)(env:List V)(he:aq I (aB I U) w env (tmpsOf o)):Sat w0 QA I (u' U P9 (gh o env)) (w.putObj l o):=by
 obtain⟨PZ,_⟩:=uB (o':=o) hr (kr hr);have C':=(qk.1 hr).1;have hz:w.heap.size<=(w.putObj l o).heap.size:=by simp
 have V0:∀b,aB I (u' U P9 (gh o env)) b->aB I U b\/b=l:=by
  rintro b ⟨id,ob,sz,cap,h1,h2⟩;by_cases e:id=P9
  .subst e;rw[hid]at h2;cases h2;exact .inr rfl
  .rw[ab e]at h1;exact .inl ⟨id,ob,sz,cap,h1,h2⟩
 have hk:qp (aB I U) (aB I (u' U P9 (gh o env))) w (w.putObj l o):=λb ⟨off,x,hx⟩ hn=>by
  have Q0:b≠l:=by rintro rfl;exact kr hr off x hx
  exact⟨λho=>(V0 b ho).elim hn Q0,eA (PZ b Q0)⟩
 refine⟨by simpa using h.size,h.os,h.tape,h.output,λb hb hn=>?_,h.fin,?_,?_,?_,h.Se⟩
 .by_cases Sf:b=l
  .subst Sf;exact absurd (hl hb) hn
  .exact(PZ b Sf).trans (h.same b hb hn)
 .intro id Sd ob ZM b sz cap Sr QP h1 h2 h3 h4;by_cases e:id=P9<;>by_cases e':Sd=P9
  .rw[e,e']
  .exfalso;subst e;rw[hid]at h3;cases h3;rw[ab e']at h2;exact Qf ⟨Sd,ZM,Sr,QP,h2,h4⟩
  .exfalso;subst e';rw[hid]at h4;cases h4;rw[ab e]at h1;exact Qf ⟨id,ob,sz,cap,h1,h3⟩
  .rw[ab e]at h1;rw[ab e']at h2;exact h.inj id Sd ob ZM b sz cap Sr QP h1 h2 h3 h4
 .intro id ob ho;by_cases e:id=P9
  .subst e;rw[af]at ho;cases ho;rw[hid];exact .inr ⟨rfl,rfl,o,env,rfl,World.putObj_heap_same C',aq.bU (cm.refl I) hk hz _ _ he⟩
  .rw[ab e]at ho;refine(h.obj id ob ho).bU (cm.refl I) hk hz λb sz cap hp=>PZ b ?_;rintro rfl;exact Qf ⟨id,ob,sz,cap,ho,hp⟩
 .intro b hb P';rcases V0 b hb with h1|h1
  .exact h.fresh b h1 P'
  .subst h1;exact hl P'
variable {P:Program} {n:Nat} {st:St} {Q:St->Prop} {k:List It} {I:Mu} {w w':World}
def AE:List (Nat×(St->Prop))->List KI
 |[]=>[]
 |(id,μ)::l=>.inBlock id::.stop μ::AE l
def Ci:∀(l:List (Nat×(St->Prop))),(AE l).map (KI.it P n)=exK l
 |[]=>rfl
 |(id,μ)::l=>by simp[AE,exK,KI.it,Ci l]
def ir{F:Fr}{e:Exit}{a:Act}(he:e≠.normal):∀(l:List (Nat×(St->Prop))),kN P F Q (AE l) e a w->
 (e=.ret/\∃st,Q st/\eH F st a w)\/∃id μ,(id,μ)∈l/\e=.exit id/\∃st,μ st/\eH F st a w
 |[],h=>.inl ⟨h.1.resolve_left he,h.2⟩
 |(id,μ)::l,h=>by
  have h:Exit.inBlock id (kN P F Q (.stop μ::AE l)) e a w:=h;have up:kN P F Q (AE l) e a w->_:=ir he l;have go:kN P F Q (AE l) e a w->(e=.ret/\∃st,Q st/\eH F st a w)\/∃Sd I',(Sd,I')∈(id,μ)::l/\e=.exit Sd/\∃st,I' st/\eH F st a w:=λh=>by
   rcases up h with h|⟨i,I',h1,h2⟩
   .exact .inl h
   .exact .inr ⟨i,I',by simp[h1],h2⟩
  cases e with
  |normal=>exact absurd rfl he
  |exit j=>
   simp only[Exit.inBlock]at h;by_cases hj:j=id
   .rw[aE hj]at h;exact .inr ⟨id,μ,by simp,by rw[hj],h⟩
   .rw[aF hj]at h;exact go h
  |_=>exact go h
def Fj:Option Nat->Code
 |none=>.ret
 |some id=>.exit id
def He{rec:Loop}(UB:rec.state=.ready)(hpend:rec.pending=none)(htm:rec.tmps.size=n){s:Nat->V}{P9:Nat}{x:List V}{ZJ U:ag}
 (hx:x.length=rec.params.toList.length)(QD:ZJ P9=some (gh (.loop rec) ((List.range n).map s)))(B':aa ZJ U)
 (Jn:ag->Prop)(SE:List Nat)(Jx:Option Nat->ag->Prop)
 (hb:ad P n [.code (dh P n rec.assign),.stop λst1=>ad P n (.code (dh P n rec.body)::.stop (λTg=>∃Z2,bf (del ZJ P9) (del U P9) Z2 Tg.U/\Jn Z2)::
   exK (SE.map λid=>(id,λTg=>∃Z2,bf (del ZJ P9) (del U P9) Z2 Tg.U/\Jx (some id) Z2))) st1 (λTg=>∃Z2,bf (del ZJ P9) (del U P9) Z2 Tg.U/\Jx none Z2)]
   ⟨lT s rec.params.toList x,del U P9⟩ (λ_=>False)):
 YC P P9 x U λb Z'=>∃P5,bf ZJ U P5 Z'/\((b=true/\P5 P9=some (gh (.loop rec) ((List.range n).map s))/\Jn (del P5 P9))\/
  (b=false/\∃e:Option Nat,P5 P9=some (gh (.loop { rec with state:=.done,pending:=some (Fj e) }) ((List.range n).map s))/\Jx e (del P5 P9)/\∀id,e=some id->id∈SE)):=by
 intro Y3 w3 vals l c hid RT QR;have P3:=B' _ _ QD;obtain⟨hl,RV⟩:=RT.tO P3 hid;have Yw:vals.length=rec.params.toList.length:=by rw[<-hx];exact QR.length
 have hy:=run_yield (P:=P) (args:=vals.toArray) hl (by simpa using Yw);have Qf:¬aB Y3 (del U P9) l:=by
  rintro⟨id,o,sz,cap,h1,h2⟩;have:=RT.inj id P9 o _ l sz cap 0 c (aa.x7 U P9 id o h1) P3 h2 hid;subst this;simp[del]at h1
 have YI:cG (aB Y3 U) (aB Y3 (del U P9)) w3 w3:=cG.sub w3 (aa.x7 U P9);have hslots:∀i,i<n->A' Y3 (aB Y3 (del U P9)) w3 (s i) (rec.tmps.getD i undef):=λi hi=>by
  have hv:((List.range n).map s)[i]?=some (s i):=by simp[hi]
  obtain⟨y,h1,h2⟩:=RV.get hv;have:rec.tmps.getD i undef=y:=by
   simp only[tmpsOf]at h1;rw[SW,<-Array.getElem?_toList,h1];rfl
  rw[this];exact A'.mono (cm.refl _) YI (Qh _) _ _ h2
 obtain⟨hg1,hg2⟩:=Dq rec.params.toList vals rec.tmps x s n htm (aq.mono (cm.refl _) YI (Qh _) _ _ QR) hx hslots;have hzip:(rec.params.zip vals.toArray).foldl (λtmps (t,a)=>tmps.setIfInBounds t a) rec.tmps=(rec.params.toList.zip vals).foldl (λt (p,v)=>t.setIfInBounds p v) rec.tmps:=by
  rw[<-Array.foldl_toList,Array.toList_zip]
 rw[hzip]at hy;refine⟨rec.fn,_,rec.assign,rec.body,hy,roundIn_of_wpIn (F:=Fence.wide) trivial ?_⟩;have R6:cI ⟨w3,aB Y3 U,Y3,n,some (l,rec)⟩ Y3 ⟨lT s rec.params.toList x,del U P9⟩ { tmps:=(rec.params.toList.zip vals).foldl (λt (p,v)=>t.setIfInBounds p v) rec.tmps,defers:=[] } w3:=by
  refine⟨RT.drop (aa.x7 U P9),cm.refl _,hg1,⟨λl' r' e=>?_,[],rfl,.nil,by simp⟩,hg2⟩;simp only[bb,Prod.mk.injEq]at e;obtain⟨rfl,rfl⟩:=e;exact⟨hl,Qf⟩
 have h1:=hb ⟨w3,aB Y3 U,Y3,n,some (l,rec)⟩ rfl [.code rec.assign,.stop _] rfl _ w3 ⟨Y3,R6⟩;refine wpIn_mono (F:=Fence.wide.inRound l) h1 ?_;intro e a1 w1 h;cases e with
 |normal=>
  obtain⟨st1,hI,X4,hs4⟩:=h;have hpk:=hs4.N8 (F':=⟨w3,aB Y3 U,Y3,n,some (l,{ rec with state:=.busy })⟩) (r':={ rec with state:=.busy }) rfl rfl (λ_=>⟨P9,_,0,c,P3,hid⟩);refine⟨_,run_beginRound (hs4.book.rnd l rec rfl).1 UB,?_⟩;have h2:=hI ⟨w3,aB Y3 U,Y3,n,some (l,{ rec with state:=.busy })⟩ rfl (.code rec.body::.stop _::AE _) (by simp only[dO,Ci];rfl) a1 _ ⟨X4,hpk⟩;refine wpIn_mono (F:=Fence.wide.inRound l) h2 ?_;have fin:∀(Tg:St) (a2:Act) (w2:World) (jump:Option Code) (Z2:ag),eH ⟨w3,aB Y3 U,Y3,n,some (l,{ rec with state:=.busy })⟩ Tg a2 w2->bf (del ZJ P9) (del U P9) Z2 Tg.U->
   ∃v ZL,(Instr.endRound l jump).run P w2=.ok v ZL/\v=.bool jump.isNone/\∃Z' Y' P5,cm Y3 Y'/\Sat w3 (aB Y3 U) Y' Z' ZL/\bf ZJ U P5 Z'/\
    P5 P9=some (gh (.loop { rec with state:=if jump.isNone then .ready else .done,pending:=jump }) ((List.range n).map s))/\del P5 P9=Z2:=by
   rintro Tg a2 w2 jump Z2 ⟨X5,Un⟩ QM;obtain⟨q1,q2⟩:=Un.book.rnd l _ rfl;have R7:X5 P9=.Qz l 0 c:=(Un.le P9 (show Y3 P9≠.dv by rw[hid];simp)).trans hid;have hn5:Tg.U P9=none:=by
    cases h:Tg.U P9 with
    |none=>rfl
    |some o=>exact absurd ⟨P9,o,0,c,h,R7⟩ q2
   have hk5:cG (aB Y3 U) (aB X5 Tg.U) w3 w2:=λb hb hn=>⟨λho=>hn (Un.sat.fresh b ho hb),Un.sat.same b hb hn⟩
   have henv5:=aq.mono Un.le hk5 Un.sat.size _ _ RV;have WR:Z2 P9=none:=by
    cases h:Z2 P9 with
    |none=>rfl
    |some o=>have:=QM.1 P9 o h;rw[hn5]at this;cases this
   refine⟨_,_,run_endRound (P:=P) jump q1,rfl,u' Tg.U P9 (gh (.loop { rec with state:=if jump.isNone then .ready else .done,pending:=jump }) ((List.range n).map s)),X5,
    u' Z2 P9 (gh (.loop { rec with state:=if jump.isNone then .ready else .done,pending:=jump }) ((List.range n).map s)),Un.le,?_,⟨QM.1.Le,λi o h1 h2=>?_⟩,af,Cz WR⟩
   .exact Un.sat.Kz hn5 R7 q2 q1 (λ_=>⟨P9,_,0,c,P3,hid⟩) _ _ henv5
   .have PZ:i≠P9:=λe=>by rw[e,QD]at h1;cases h1
    obtain⟨g1,g2⟩:=QM.2 i o (by rw[er PZ];exact h1) (by rw[er PZ];exact h2);rw[ab PZ,ab PZ];exact⟨g1,g2⟩
  intro e a2 w2 h;cases e with
  |normal=>
   obtain⟨Tg,⟨Z2,QM,hj⟩,Tl⟩:=h;obtain⟨v,ZL,g1,rfl,Z',Y',P5,g2,g3,g4,g5,g6⟩:=fin Tg a2 w2 none Z2 Tl QM;refine⟨_,ZL,g1,true,Z',Y',rfl,⟨P5,g4,.inl ⟨rfl,?_,by rw[g6];exact hj⟩⟩,g2,g3⟩;rw[g5];have:({ rec with state:=.ready,pending:=none }:Loop)=rec:=by rw[<-UB,<-hpend]
   simp[this]
  |ret=>
   rcases ir (by simp) _ h with⟨_,Tg,⟨Z2,QM,hj⟩,Tl⟩|⟨_,_,_,h,_⟩
   .obtain⟨v,ZL,g1,rfl,Z',Y',P5,g2,g3,g4,g5,g6⟩:=fin Tg a2 w2 (some .ret) Z2 Tl QM;exact⟨_,ZL,g1,false,Z',Y',rfl,⟨P5,g4,.inr ⟨rfl,none,g5,by rw[g6];exact hj,by simp⟩⟩,g2,g3⟩
   .cases h
  |exit id=>
   rcases ir (by simp) _ h with⟨h,_⟩|⟨Sd,μ,U6,h,Tg,hI2,Tl⟩
   .cases h
   .cases h;simp only[eI,Prod.mk.injEq]at U6;obtain⟨id'',hin',rfl,rfl⟩:=U6;obtain⟨Z2,QM,hj⟩:=hI2;obtain⟨v,ZL,g1,rfl,Z',Y',P5,g2,g3,g4,g5,g6⟩:=fin Tg a2 w2 (some (.exit id'')) Z2 Tl QM;exact⟨_,ZL,g1,false,Z',Y',rfl,⟨P5,g4,.inr ⟨rfl,some id'',g5,by rw[g6];exact hj,by simp[hin']⟩⟩,g2,g3⟩
  |goto t=>rcases ir (by simp) _ h with⟨h,_⟩|⟨_,_,_,h,_⟩<;>cases h
  |panic ch=>rcases ir (by simp) _ h with⟨h,_⟩|⟨_,_,_,h,_⟩<;>cases h
  |outgrown=>rcases ir (by simp) _ h with⟨h,_⟩|⟨_,_,_,h,_⟩<;>cases h
 |ret=>exact h.2.choose_spec.1.elim
 |exit id=>rcases h.1 with h|h<;>cases h
 |goto t=>rcases h.1 with h|h<;>cases h
 |panic ch=>rcases h.1 with h|h<;>cases h
 |outgrown=>rcases h.1 with h|h<;>cases h
variable {P:Program} {n:Nat} {st:St} {Q:St->Prop} {k:List It} {I:Mu} {w w':World}
def vz{a:Act}{g:Operand}{l:Nat}{f:FuncId}{cv:List Value}(h:a.eval g=.func (.func f) #[] ⟨cv⟩):
 (resolve a.eval (rangeCall g l) 0).run P w=.ok { target:=.fn (.func f) ⟨cv⟩,args:=#[.func (.yield l) #[] #[]] } w:=by
 simp only[resolve,h,Deferred.ofValue];simp[go_sem]
def ad.IH{g:VX}{ps:List Nat}{A B:bh}{gf:FuncId}{caps:List V}(hg:g.ev st.s=.fn gf caps){xs:List (List V)}{Z0:ag}(hs00:aa Z0 st.U)
 (hit:eJ P gf=true/\∀(P9:Nat) (τ Jx:List (List V)->ag->Prop) (o:Ob),st.U P9=none->
   (∀pre x post ZJ U,xs=pre++x::post->τ pre ZJ->aa ZJ U->
     YC P P9 x U λb Z'=>∃P5,bf ZJ U P5 Z'/\((b=true/\τ (pre++[x]) P5)\/(b=false/\Jx (pre++[x]) P5)))->
   τ [] (u' Z0 P9 o)->ry P gf (.yl P9::caps) (u' st.U P9 o) λ_ Z'=>τ xs Z'\/∃pre,pre <+: xs/\Jx pre Z')
 (hlen:∀x∈xs,x.length=ps.length)(SE:List Nat)(τ:List (List V)->ag->Prop)(Jx:Option Nat->List (List V)->ag->Prop)(h0:τ [] Z0)
 (UC:∀pre x post ZJ U,xs=pre++x::post->τ pre ZJ->aa ZJ U->
   ad P n [.code A,.stop λst1=>ad P n (.code B::.stop (λTg=>∃Z2,bf ZJ U Z2 Tg.U/\τ (pre++[x]) Z2)::
    exK (SE.map λid=>(id,λTg=>∃Z2,bf ZJ U Z2 Tg.U/\Jx (some id) (pre++[x]) Z2))) st1 (λTg=>∃Z2,bf ZJ U Z2 Tg.U/\Jx none (pre++[x]) Z2)]
    ⟨lT st.s ps x,U⟩ (λ_=>False))
 (YJ:∀Z',τ xs Z'->ad P n k ⟨st.s,Z'⟩ Q)
 (YK:∀id∈SE,∀pre Z',pre <+: xs->Jx (some id) pre Z'->ad P n (.code (.exit id)::k) ⟨st.s,Z'⟩ Q)
 (hret:∀pre Z',pre <+: xs->Jx none pre Z'->ad P n (.code .ret::k) ⟨st.s,Z'⟩ Q):ad P n (.code (.eK g ps A B)::k) st Q:=by
 intro F hn kt hk a w hs;subst hn;obtain⟨z,RO,rfl,hy,QU⟩:=dX hk;obtain⟨c0,rfl,hc⟩:=fY hy;have TJ:∃g0 ps0 a0 b0,c0=.rangeFunc g0 ps0 a0 b0/\cx F.n g0=g/\ps0.toList=ps/\dh P F.n a0=A/\dh P F.n b0=B:=by
  cases c0<;>simp only[dh,reduceCtorEq,bh.eK.injEq]at hc
  case region=>(split at hc;cases hc);split at hc<;>cases hc
  exact⟨_,_,_,_,rfl,hc.1,hc.2.1,hc.2.2.1,hc.2.2.2⟩
 obtain⟨g0,ps0,a0,b0,rfl,rfl,rfl,rfl,rfl⟩:=TJ;obtain⟨I,hs⟩:=hs;have U7:=bK hs g0;rw[hg]at U7;simp only[A']at U7;obtain⟨cv,hgv,hcv⟩:=U7;refine wpIn_rangeFunc λfn _=>?_;obtain⟨mark,W0,D,QJ,PY⟩:=hs.enter (P:=P) fn ps0 a0 b0;generalize XO:({ state:=.ready,pending:=none,fn,tmps:=a.tmps,params:=ps0,assign:=a0,body:=b0,defers:=D }:Loop)=rec at PY;have YL:rec.state=.ready:=by rw[<-XO]
 have VA:rec.pending=none:=by rw[<-XO]
 have Yi:rec.tmps=a.tmps:=by rw[<-XO]
 have hr4:rec.params=ps0:=by rw[<-XO]
 have hr5:rec.assign=a0:=by rw[<-XO]
 have hr6:rec.body=b0:=by rw[<-XO]
 have hszn:rec.tmps.size=F.n:=by rw[Yi];exact hs.size
 have RV:aq I (aB I st.U) W0 ((List.range F.n).map st.s) (tmpsOf (.loop rec)):=by
  have hl:tmpsOf (.loop rec)=(List.range F.n).map λi=>a.tmps.getD i undef:=by
   simp only[tmpsOf,Yi];apply List.ext_getElem
   .simp[hs.size]
   .intro i h1 h2;simp only[cL,List.length_range]at h2;simp only[Array.getElem_toList,List.getElem_map,List.getElem_range];rw[SW,Array.getElem?_eq_getElem (by rw[hs.size];exact h2)];rfl
  rw[hl];have Qa:∀l:List Nat,(∀i∈l,i<F.n)->aq I (aB I st.U) W0 (l.map st.s) (l.map λi=>a.tmps.getD i undef):=by
   intro l
   induction l with
   |nil=>intro _;simp[aq]
   |cons i l ih=>
    intro h;simp only[dO,aq];exact⟨_,_,rfl,QJ.slot i (h i (by simp)),ih λj hj=>h j (by simp[hj])⟩
  exact Qa _ λi hi=>by simpa using hi
 obtain⟨P9,hidn,X1,UD,hle1,hsat1,Sc⟩:=QJ.sat.HO (.loop rec) _ RV;generalize hE:(List.range F.n).map st.s=env at*;have hcvt:aq X1 (aB X1 (u' st.U P9 (gh (.loop rec) env))) (W0.alloc (.loop rec)) caps cv:=by
  have h1:aq I (aB I st.U) W0 caps cv:=by
   have h2:=bK QJ g0;rw[hg]at h2;simp only[A']at h2;obtain⟨cv',h3,h4⟩:=h2;have:a.eval g0=.func (.func gf) #[] ⟨cv'⟩:=h3;rw[hgv]at this;simp only[Value.func.injEq,Array.mk.injEq,true_and]at this;rw[this];exact h4
  exact aq.mono hle1 Sc (by simp) _ _ h1
 obtain⟨Rk,hiter⟩:=hit;have key:=hiter P9 (λpre ZJ=>ZJ P9=some (gh (.loop rec) env)/\τ pre (del ZJ P9))
  (λpre ZJ=>∃e:Option Nat,ZJ P9=some (gh (.loop { rec with state:=.done,pending:=some (Fj e) }) env)/\Jx e pre (del ZJ P9)/\∀id,e=some id->id∈SE)
  (gh (.loop rec) env) hidn ?_ ⟨af,by rw[Cz (hs00.none hidn)];exact h0⟩
 .refine⟨W0.heap.size,mark,_,_,_,gf,_,_,by rw[show F.eC.round=F.eC.round from rfl];exact PY,vz hgv,λ_ _=>trivial,
   by simp only[invoke];exact lB Rk _,ke F,nP ?_⟩
  have QB:aq X1 (aB X1 (u' st.U P9 (gh (.loop rec) env))) (W0.alloc (.loop rec)) (.yl P9::caps) (.func (.yield W0.heap.size) #[] #[]::cv):=by
   simp only[aq];exact⟨_,_,rfl,by simp[A',UD],hcvt⟩
  have QT:=key X1 _ _ hsat1.here QB;have hvals:(Value.func (.yield W0.heap.size) #[] #[]::cv).toArray=#[.func (.yield W0.heap.size) #[] #[]]++⟨cv⟩:=by
   apply Array.ext';simp
  rw[hvals]at QT;refine QT.mono ?_;rintro e w2 ⟨r,Z',Y',val,rfl,hp,hle2,Tl,-⟩;obtain⟨hs3,TN⟩:=hsat1.compose Tl;have WT:Y' P9=.Qz W0.heap.size 0 0:=(hle2 P9 (by rw[UD];simp)).trans UD;have fin:∀(Vl:Loop),Z' P9=some (gh (.loop Vl) env)->Vl.state≠.busy->∃w4,(Instr.endLoop W0.heap.size).run P w2=.ok Vl.pending w4/\
   eH F ⟨st.s,del Z' P9⟩ { a with defers:=mark++a.defers } w4:=by
   intro Vl QD P8;obtain⟨hl2,henv2⟩:=Tl.tO QD WT;refine⟨_,run_endLoop hl2 P8,Y',?_⟩;have Q9:=hs3.KK QD WT (.loop { Vl with state:=.exhausted }) env henv2;have B':aa (del Z' P9) (u' Z' P9 (gh (.loop { Vl with state:=.exhausted }) env)):=λi o h=>by
    unfold del at h;split at h
    .cases h
    .rename_i hi;rw[ab hi];exact h
   have YI:=cG.sub (I:=Y') (w2.putObj W0.heap.size (.loop { Vl with state:=.exhausted })) B';have hsz2:=Tl.size;have hkall:cG (aB I st.U) (aB Y' (del Z' P9)) W0 (w2.putObj W0.heap.size (.loop { Vl with state:=.exhausted })):=λb hb hn=>by
    obtain⟨q1,q2⟩:=Sc b hb hn;have UI:b<(W0.alloc (.loop rec)).heap.size:=by simp;omega
    obtain⟨q3,q4⟩:=TN b UI q1;have Qp:b<w2.heap.size:=Nat.lt_of_lt_of_le UI hsz2;obtain⟨q5,q6⟩:=Q9.2 b Qp q3;exact⟨λho=>q5 (ho.sub B'),q6.trans (q4.trans q2)⟩
   have hle3:cm I Y':=hle1.trans hle2;have hz:W0.heap.size<=(w2.putObj W0.heap.size (.loop { Vl with state:=.exhausted })).heap.size:=by
    simp at hsz2|-;omega
   exact⟨Q9.1.drop B',QJ.le.trans hle3,QJ.size,QJ.book.pV hkall,λi hi=>A'.mono hle3 hkall hz _ _ (QJ.slot i hi)⟩
  rcases hp with⟨QD,hj⟩|⟨pre,SD,e,QD,hj,U6⟩
  .obtain⟨w4,g1,g2⟩:=fin rec QD (by rw[YL];simp);refine⟨_,w4,g1,?_⟩;rw[VA];exact YJ _ hj F rfl RO QU _ _ g2
  .obtain⟨w4,g1,g2⟩:=fin _ QD (by simp);refine⟨_,w4,g1,?_⟩;cases e with
   |none=>exact hret pre _ SD hj F rfl (.code .ret::RO) (by simp[KI.it,QU,dh]) _ _ g2
   |some id=>exact YK id (U6 id rfl) pre _ SD hj F rfl (.code (.exit id)::RO) (by simp[KI.it,QU,dh]) _ _ g2
 .intro pre x post ZJ U Rv hJ B';have hx:x.length=rec.params.toList.length:=by rw[hr4];exact hlen x (by rw[Rv];simp)
  have hb:=UC pre x post (del ZJ P9) (del U P9) Rv hJ.2 (Cn B');subst hE;refine He YL VA hszn hx hJ.1 B' (τ (pre++[x])) SE (λe=>Jx e (pre++[x])) ?_;rw[hr4,hr5,hr6];exact hb
def ad.eK{g:VX}{ps:List Nat}{A B:bh}{gf:FuncId}{caps:List V}(hg:g.ev st.s=.fn gf caps){xs:List (List V)}(hit:Iter P gf caps xs)
 (hlen:∀x∈xs,x.length=ps.length)(SE:List Nat)(τ:List (List V)->ag->Prop)(Jx:Option Nat->List (List V)->ag->Prop)(h0:τ [] st.U)
 (UC:∀pre x post ZJ U,xs=pre++x::post->τ pre ZJ->aa ZJ U->
   ad P n [.code A,.stop λst1=>ad P n (.code B::.stop (λTg=>∃Z2,bf ZJ U Z2 Tg.U/\τ (pre++[x]) Z2)::
    exK (SE.map λid=>(id,λTg=>∃Z2,bf ZJ U Z2 Tg.U/\Jx (some id) (pre++[x]) Z2))) st1 (λTg=>∃Z2,bf ZJ U Z2 Tg.U/\Jx none (pre++[x]) Z2)]
    ⟨lT st.s ps x,U⟩ (λ_=>False))
 (YJ:∀Z',τ xs Z'->ad P n k ⟨st.s,Z'⟩ Q)
 (YK:∀id∈SE,∀pre Z',pre <+: xs->Jx (some id) pre Z'->ad P n (.code (.exit id)::k) ⟨st.s,Z'⟩ Q)
 (hret:∀pre Z',pre <+: xs->Jx none pre Z'->ad P n (.code .ret::k) ⟨st.s,Z'⟩ Q):ad P n (.code (.eK g ps A B)::k) st Q:=
 ad.IH hg (aa.refl _) ⟨hit.1,λP9 J' Jx' _ _ hb h=>hit.2 P9 J' Jx' _ hb h⟩ hlen SE τ Jx h0 UC YJ YK hret
variable {P:Program} {n:Nat} {st:St} {Q:St->Prop} {k:List It}
def cB(deps:List (List Nat))(listed:List Nat):List Nat:=(List.range deps.length).filter λi=>!listed.contains i&&(deps.getD i []).all listed.contains
def EF(P:Program)(l:List aG)(rec:List Nat->St->Prop)(listed:List Nat)(x:St):List Nat->Prop
 |[]=>True
 |i::is=>(match l[i]? with
   |some ins=>T P ins x (rec (i::listed))
   |none=>False)/\EF P l rec listed x is
def xL(P:Program)(l:List aG)(deps:List (List Nat))(Q:St->Prop):Nat->List Nat->St->Prop
 |0,listed,x=>cB deps listed=[]/\Q x
 |f+1,listed,x=>match cB deps listed with
   |[]=>Q x
   |i::is=>EF P l (xL P l deps Q f) listed x (i::is)
def Au{l:List aG}{rec:List Nat->St->Prop}{listed:List Nat}{x:St}:∀{is:List Nat},EF P l rec listed x is->∀i∈is,∃ins,l[i]?=some ins/\T P ins x (rec (i::listed))
 |[],_,_,hi=>by cases hi
 |j::is,h,i,hi=>by
  obtain⟨h1,h2⟩:=h;rcases cD.1 hi with rfl|hi
  .cases hl:l[i]? with
   |none=>rw[hl]at h1;exact h1.elim
   |some ins=>rw[hl]at h1;exact⟨ins,rfl,h1⟩
  .exact Au h2 i hi
abbrev fH(ops:Array Oper):List (List Nat):=ops.toList.map λo=>(o.after.toList.filter (Region.binds .any)).map (·.on)
def ny{ops:Array Oper}{arr:Array Bool}{listed:List Nat}(hs:arr.size=ops.size)(hl:∀i,i<ops.size->arr.getD i true=listed.contains i)
 (ho:∀i∈listed,i<ops.size):Region.ready .any ops arr=cB (fH ops) listed:=by
 unfold Region.ready cB;have hlen:(fH ops).length=ops.size:=by simp[fH]
 rw[hlen];refine List.filter_congr λi hi=>?_;have hi:i<ops.size:=by simpa using hi
 rw[hl i hi];congr 1;have h1:ops[i]?=some ops[i]:=Array.getElem?_eq_getElem hi;have h2:(fH ops).getD i []=(ops[i].after.toList.filter (Region.binds .any)).map (·.on):=by
  rw[tQ];simp[fH,hi]
 rw[h1,h2];simp only[Option.map_some,Option.getD_some];rw[<-Array.all_toList,List.all_map,List.all_filter];congr 1;funext e;simp only[Function.comp];have h3:arr.getD e.on false=listed.contains e.on:=by
  by_cases he:e.on<ops.size
  .rw[<-hl _ he,SW,SW,Array.getElem?_eq_getElem (by omega)];rfl
  .rw[SW,Array.getElem?_eq_none (by omega)];simp only[Option.getD_none];symm;rw[Bool.eq_false_iff];intro hc;exact he (ho _ (by simpa using hc))
 rw[h3]
def mC{ops:Array Oper}{Q:St->Prop}:∀(f:Nat) (arr:Array Bool) (listed:List Nat) (x:St),arr.size=ops.size->(∀i,i<ops.size->arr.getD i true=listed.contains i)->
 (∀i∈listed,i<ops.size)->xL P (ops.toList.map (cq P n ops)) (fH ops) Q f listed x->ot P n ops Q f arr x
 |0,arr,listed,x,hs,hl,ho,h=>⟨by rw[ny hs hl ho];exact h.1,h.2⟩
 |f+1,arr,listed,x,hs,hl,ho,h=>by
  have hr:=ny hs hl ho;unfold xL at h;refine⟨λh0=>?_,λi hi=>?_⟩
  .rw[hr]at h0;rw[h0]at h;exact h
  .rw[hr]at hi;have C':i<ops.size:=by
    have:=(nI.1 hi).1;simpa[fH]using this
   have Qa:EF P (ops.toList.map (cq P n ops)) (xL P (ops.toList.map (cq P n ops)) (fH ops) Q f) listed x (cB (fH ops) listed):=by
    cases hrr:cB (fH ops) listed with
    |nil=>exact trivial
    |cons j js=>rw[hrr]at h;exact h
   obtain⟨ins,h1,h2⟩:=Au Qa i hi;have h3:ops[i]?=some ops[i]:=Array.getElem?_eq_getElem C';have h4:ins=cq P n ops ops[i]:=by simpa[C']using h1.symm
   unfold Tn;simp only[h3];rw[<-h4];refine h2.mono λx' P7=>mC f _ (i::listed) x' (by simpa using hs) (λj hj=>?_) (λj hj=>?_) P7
   .by_cases e:j=i
    .subst e;rw[SW,Array.getElem?_setIfInBounds_self_of_lt (by omega)];simp
    .rw[SW,Array.getElem?_setIfInBounds_ne (λe'=>e e'.symm),<-SW,hl j hj];simp[e]
   .rcases cD.1 hj with rfl|hj
    .exact C'
    .exact ho j hj
def ad.kI(hm:P.follows .mixedOrders=true){l:List aG}{deps:List (List Nat)}(h:xL P l deps (λx=>ad P n k x Q) l.length [] st):ad P n (.code (.kI l deps)::k) st Q:=by
 intro F hn kt hk a w hs;obtain⟨z,RO,rfl,hy,QU⟩:=dX hk;obtain⟨c0,rfl,Q1⟩:=fY hy;have TJ:∃id ops,c0=.region id ops true/\ops.toList.map (cq P n ops)=l/\fH ops=deps:=by
  cases c0<;>simp only[dh,reduceCtorEq]at Q1;rename_i id ops draw;cases draw
  .simp at Q1
  .simp only[Bool.true_and]at Q1;split at Q1
   .cases Q1
   split at Q1
   .simp only[bh.kI.injEq]at Q1;exact⟨id,ops,rfl,Q1.1,Q1.2⟩
   .simp at Q1
 obtain⟨id,ops,rfl,rfl,rfl⟩:=TJ;have PW:eH F st a { w with drawn:=w.drawn+1 }:=by
  obtain⟨I,hs⟩:=hs;have hk:cG (aB I st.U) (aB I st.U) w { w with drawn:=w.drawn+1 }:=λ_ _ h=>⟨h,rfl⟩
  refine⟨I,⟨⟨hs.sat.size,hs.sat.os,hs.sat.tape,hs.sat.output,hs.sat.same,hs.sat.fin,hs.sat.inj,λid o ho=>?_,hs.sat.fresh,hs.sat.Se⟩,hs.le,hs.size,hs.book.pV hk,λi hi=>?_⟩⟩
  .exact(hs.sat.obj id o ho).mono (cm.refl I) hk (Qh _) (λ_ _ _ _=>rfl)
  .exact A'.mono (cm.refl I) hk (Qh _) _ _ (hs.slot i hi)
 refine wpIn_region_any hm (ly (Q:=λx=>ad P n k x Q) hn (λx a w hs h=>h F hn RO QU a w hs) _ _ _ _ _ PW ?_);have:=mC (P:=P) (n:=n) (Q:=λx=>ad P n k x Q) (ops:=ops) ops.size (Array.replicate ops.size false) [] st (by simp) (λi hi=>by
  rw[SW,Array.getElem?_replicate,aE hi];simp) (by simp) (by simpa using h)
 exact this
def aa.IW{Z0 U:ag}{e:Nat}(h:aa Z0 U)(he:Z0 e=Option.none):aa Z0 (del U e):=λi x hx=>by
 have PZ:i≠e:=λe'=>by rw[e',he]at hx;cases hx
 rw[er PZ];exact h i x hx
def cg:(∀{P:Program} {O:Qw P} {n:Nat} {k:List It} {st:St} {Q:St->Prop},step P O n 0 (.r k) st Q=YG P n k st Q)/\(∀{P:Program} {n:Nat} {c:bh} {k:List It} {st:St} {Q:St->Prop},YG P n (.code c::k) st Q=ad P n (.code c::k) st Q)/\
 (∀{P:Program} {n:Nat} {l:List aG} {k:List It} {st:St} {Q:St->Prop},YG P n (.ops l::k) st Q=ad P n (.ops l::k) st Q)/\(∀{P:Program} {n id:Nat} {k:List It} {st:St} {Q:St->Prop},YG P n (.inBlock id::k) st Q=ad P n (.inBlock id::k) st Q)/\
 ∀{P:Program} {n:Nat} {st:St} {Q:St->Prop},YG P n [] st Q=ad P n [] st Q:=⟨rfl,rfl,rfl,rfl,rfl⟩
def Wk.aL{U Z':ag}(sz:Nat):Wk U Z' .aL (.sl sz []):=by
 intro I w0 w QA x hs hr;simp only[A']at hr|-;exact⟨none,0,by simpa using hr,by simp,.inl trivial⟩
def aN(K U:ag)(e sz:Nat)(v:V)(rows:List V):Prop:=(v=.aL/\rows=[])\/∃id,v=.own id 0 rows.length/\U id=some ⟨e,sz,rows⟩/\K id=none
def aN.wk{K U:ag}{e sz:Nat}{v:V}{rows:List V}(h:aN K U e sz v rows){K':ag}(hK:aa K' K)(hs:aa K' U):Wk U K' v (.sl sz rows):=by
 rcases h with⟨rfl,rfl⟩|⟨id,rfl,ho,hk⟩
 .exact Wk.aL sz
 .have:=Wk.own hs ho (hK.none hk) (off:=0) (len:=rows.length) (by simp);rw[Aj,hU]at this;exact this
def aN.zn{K U:ag}{e sz:Nat}{v:V}{rows:List V}(h:aN K U e sz v rows)(hs:aa K U){v0:V}(hv:V.sl sz rows=v0):
 au v U λr Z'=>r=v0/\Z'=K:=⟨_,K,hs,h.wk (aa.refl K) hs,hv,rfl⟩
def dI{P:Program}{n:Nat}{Q:St->Prop}{k:List It}{O:Qw P}{f:Nat}{d:Option Nat}{l:List aG}{v:Nat->V}{ob:Ob}{s:Nat->V}{U:ag}{e:Option Nat}
 (h:∀id Z',aa (bF U e) Z'->Z' id=some ob->U id=none->step P O n f (.r (.ops l::k)) ⟨aW s d (v id),Z'⟩ Q):
 I1 P O n f l k d ⟨s,U⟩ Q (some λid=>(v id,Vc.u' (bF U e) id ob)):=by
 rw[av];refine λid hid=>h id _ ((aa.refl _).u' ?_) af hid;cases e with
 |none=>exact hid
 |some e=>
  simp only[bF,del];split
  .rfl
  .exact hid
def jx{P:Program}{n:Nat}{Q:St->Prop}{k:List It}{O:Qw P}{f:Nat}{d:Option Nat}{l:List aG}{v:Nat->V}{ob:Ob}{s:Nat->V}{U:ag}{e:Option Nat}
 (h:∀id Z',aa (bF U e) Z'->Z' id=some ob->U id=none->step P O n f (.d l k) ⟨aW s d (v id),Z'⟩ Q):
 G6 P O n f l k d ⟨s,U⟩ Q (some λid=>(v id,Vc.u' (bF U e) id ob)):=by
 rw[ax];refine λid hid=>h id _ ((aa.refl _).u' ?_) af hid;cases e with
 |none=>exact hid
 |some e=>
  simp only[bF,del];split
  .rfl
  .exact hid
def aN.dst{K U:ag}{e sz:Nat}{v:V}{rows:List V}(h:aN K U e sz v rows){Z1:ag}(hs:aa U Z1):
 ∃PU,cK Z1 e sz v=some (rows,PU)/\∀K':ag,aa K' K->∀Z2,aa K' Z2->aa K' (bF Z2 PU):=by
 rcases h with⟨rfl,rfl⟩|⟨id,rfl,ho,hk⟩
 .exact⟨none,rfl,λ_ _ _ h=>h⟩
 .refine⟨some id,?_,λK' hK Z2 h=>h.IW (hK.none hk)⟩;simp only[cK,hs _ _ ho];rw[aE ⟨trivial,trivial,trivial,Qh _⟩,hU]
def aN.start{K U:ag}{e sz:Nat}:aN K U e sz .aL []:=.inl ⟨rfl,rfl⟩
def aN.new{K U:ag}{e sz id:Nat}{rows:List V}{n:Nat}(hn:n=rows.length)(h:U id=some ⟨e,sz,rows⟩)(hk:K id=none):aN K U e sz (.own id 0 n) rows:=by
 subst hn;exact .inr ⟨id,rfl,h,hk⟩
def aN.len{K U:ag}{e sz:Nat}{v:V}{rows:List V}(h:aN K U e sz v rows):dY false v=some (.int .i64 rows.length):=by
 rcases h with⟨rfl,rfl⟩|⟨id,rfl,ho,hk⟩<;>rfl
def aN.mono{K U Z':ag}{e sz:Nat}{v:V}{rows:List V}(h:aN K U e sz v rows)(hs:aa U Z'):aN K Z' e sz v rows:=by
 rcases h with h|⟨id,h1,h2,h3⟩
 .exact .inl h
 .exact .inr ⟨id,h1,hs _ _ h2,h3⟩
def cW{U:ag}{id e sz:Nat}{r:V}(h:U id=some ⟨e,sz,[r]⟩):cA U sz (.own id 0 1)=some [r]:=by
 simp[cA,h]
def Wk.ptr{U Z':ag}(h:aa Z' U){id:Nat}{e sz:Nat}{r:V}(ho:U id=some ⟨e,sz,[r]⟩)(hid:Z' id=none):Wk U Z' (.ptr id 0 0) (.rp r):=by
 intro I w0 w QA x hs hr;simp only[A']at hr|-;have QK:=hs.obj id _ ho;split at hr
 .rename_i b Sr cap hb;obtain⟨rfl,hz⟩:=hr;rw[hb]at QK;have C':b<w.heap.size:=aB.lt hs ⟨id,_,_,_,ho,hb⟩;obtain⟨g1,g2,g3,g4,g5⟩:=QK.rows hz;refine⟨b,_,rfl,C',.inr ?_,?_⟩
  .rintro⟨Sd,ZM,sz'',cap'',e1,e2⟩;have:=hs.inj Sd id ZM _ _ _ _ _ _ (h _ _ e1) ho e2 hb;rw[this,hid]at e1;cases e1
  .simp only[aX]at g5;have:=aX.mono (cm.refl I) (cG.sub w h) (Qh _) [r] b 0 Sr rfl (by simp only[aX];exact⟨g5.1,g5.2.1,trivial⟩);simp only[aX]at this;simpa using this.2.1
 .exact hr.elim
def Wk.fn{U Z':ag}{f:FuncId}{vs vs':List V}(h:Xi U Z' vs vs'):Wk U Z' (.fn f vs) (.fn f vs'):=by
 intro I w0 w QA x hs hr;simp only[A']at hr|-;obtain⟨vals,rfl,h1⟩:=hr;exact⟨vals,rfl,Xi.all hs h h1⟩
end Go.Vc
