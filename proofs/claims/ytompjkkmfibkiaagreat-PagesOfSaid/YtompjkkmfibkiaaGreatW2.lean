import Derived.Test.YtompjkkmfibkiaaGreatW1
import Derived.TacticsIn
import Derived.RangeFuncNested
import Derived.RangeFuncLeaves
import Derived.Orders
import Derived.OrdersIn
import Derived.Lib.SliceRun
import Derived.WideLaws
set_option linter.all false
set_option maxHeartbeats 8000000
namespace Go.Vc
inductive It where
 |code (c:bN)
 |inBlock (id:Nat)
 |ops (l:List aC)
 |stop (μ:St->Prop)
inductive KI where
 |code (c:Code)
 |inBlock (id:Nat)
 |ops (all:Array Oper) (l:List Oper)
 |stop (μ:St->Prop)
def KI.it(P:Program)(n:Nat):KI->It
 |.code c=>.code (dI P n c)
 |.inBlock id=>.inBlock id
 |.ops all l=>.ops (l.map (cW P n all))
 |.stop μ=>.stop μ
def Fr.fg(F:Fr):Fence:={ Fence.wide with round:=F.rd.map (·.1) }
def lv(F:Fr):F.fg.depth.isSome=true->1<=0:=λh=>by simp[Fr.fg,Fence.wide]at h
def pg{F:Fr}{n:Nat}{P:Program}{f:FuncId}{args:Array Value}{w:World}{R:Ending->World->Prop}(h:Calls P f args w R):CallsIn F.fg n P f args w R:=by
 have h1:CallsIn Fence.wide n P f args w R:=callsIn_wide.2 h;exact h1
def Ko{F:Fr}{P:Program}{o:Oper}{a:Act}{w:World}{next:Act->World->Prop}{Q:Exit->Act->World->Prop}(hd:∀c,o.op≠.defer c)(h:o.wp P a w next Q):
 o.wpIn F.fg 0 P a w next Q:=by
 refine⟨λ_ _=>trivial,?_⟩;rw[Oper.semAt_eq _ _ _ hd];unfold Oper.wp at h;generalize (execOp a.eval o).run P w=r at*;cases r with
 |ok x w'=>
  cases x<;>simp only[Oper.upon,Oper.uponIn]at h|-<;>first
   |exact h
   |exact⟨lv F,pg h⟩
   |contradiction
   |skip
  exact⟨lv F,λc cs _=>let ⟨v,w',r,s⟩:=h c cs;⟨v,w',r,stepsIn_wide.2 s⟩⟩
 |halt x w'=>cases x<;>simp only[Oper.upon,Oper.uponIn]at h|-<;>first|exact h|contradiction
def oy{P:Program}{n:Nat}{o:Op}(h:Xb P n o≠.bad)(c:Call):o≠.defer c:=λe=>by subst e;exact h rfl
def lU(P:Program)(F:Fr)(Q:St->Prop):List KI->Exit->Act->World->Prop
 |[],e,a,w=>(e=.normal\/e=.ret)/\∃st,Q st/\fU F st a w
 |.code c::k,e,a,w=>match e with
   |.normal=>c.wpIn F.fg 0 P (lU P F Q k) a w
   |e=>lU P F Q k e a w
 |.inBlock id::k,e,a,w=>Exit.inBlock id (lU P F Q k) e a w
 |.ops all l::k,e,a,w=>match e with
   |.normal=>wpListIn F.fg 0 P all (lU P F Q k) l a w
   |e=>lU P F Q k e a w
 |.stop μ::k,e,a,w=>match e with
   |.normal=>∃st,μ st/\fU F st a w
   |e=>lU P F Q k e a w
def ag(P:Program)(n:Nat)(todo:List It)(st:St)(Q:St->Prop):Prop:=
 ∀F:Fr,F.n=n->∀kt:List KI,kt.map (KI.it P n)=todo->∀a w,fU F st a w->lU P F Q kt .normal a w
variable {P:Program} {n:Nat} {st:St} {Q:St->Prop} {k:List It}
def ag.nil(h:Q st):ag P n [] st Q:=by
 intro F _ kt hk a w hs;cases kt with
 |nil=>exact⟨.inl rfl,st,h,hs⟩
 |cons x kt=>simp at hk
def eX{kt:List KI}{x:It}(h:kt.map (KI.it P n)=x::k):∃y Zz,kt=y::Zz/\y.it P n=x/\Zz.map (KI.it P n)=k:=by
 cases kt with
 |nil=>simp at h
 |cons y Zz=>simp only[eV,List.cons.injEq]at h;exact⟨y,Zz,rfl,h.1,h.2⟩
def iq{y:KI}{c:bN}(h:y.it P n=.code c):∃c0,y=.code c0/\dI P n c0=c:=by
 cases y<;>simp only[KI.it,It.code.injEq,reduceCtorEq]at h;exact⟨_,rfl,h⟩
def ag.skip(h:ag P n k st Q):ag P n (.code .skip::k) st Q:=by
 intro F hn kt hk a w hs;obtain⟨y,Zz,rfl,hy,YH⟩:=eX hk;obtain⟨c0,rfl,hc⟩:=iq hy;have hc0:c0=.skip:=by
  cases c0<;>simp only[dI,reduceCtorEq]at hc<;>(try (split at hc;cases hc))<;>(try (split at hc<;>cases hc))<;>try rfl
 subst hc0;exact wpIn_skip (h F hn Zz YH a w hs)
def ag.seq{x y:bN}(h:ag P n (.code x::.code y::k) st Q):ag P n (.code (.seq x y)::k) st Q:=by
 intro F hn kt hk a w hs;obtain⟨z,Zz,rfl,hy,YH⟩:=eX hk;obtain⟨c0,rfl,hc⟩:=iq hy;have hc0:∃x0 y0,c0=.seq x0 y0/\dI P n x0=x/\dI P n y0=y:=by
  cases c0<;>simp only[dI,reduceCtorEq,bN.seq.injEq]at hc
  case region=>(split at hc;cases hc);split at hc<;>cases hc
  exact⟨_,_,rfl,hc.1,hc.2⟩
 obtain⟨x0,y0,rfl,rfl,rfl⟩:=hc0;refine wpIn_seq (wpIn_mono (h F hn (.code x0::.code y0::Zz) (by simp[KI.it,YH]) a w hs) ?_);intro e a' w' hq;cases e<;>exact hq
def ag.block{id:Nat}{x:bN}(h:ag P n (.code x::.inBlock id::k) st Q):ag P n (.code (.block id x)::k) st Q:=by
 intro F hn kt hk a w hs;obtain⟨z,Zz,rfl,hy,YH⟩:=eX hk;obtain⟨c0,rfl,hc⟩:=iq hy;have hc0:∃x0,c0=.block id x0/\dI P n x0=x:=by
  cases c0<;>simp only[dI,reduceCtorEq,bN.block.injEq]at hc
  case region=>(split at hc;cases hc);split at hc<;>cases hc
  obtain⟨rfl,h2⟩:=hc;exact⟨_,rfl,h2⟩
 obtain⟨x0,rfl,rfl⟩:=hc0;exact wpIn_block (h F hn (.code x0::.inBlock id::Zz) (by simp[KI.it,YH]) a w hs)
def ag.inBlock{id:Nat}(h:ag P n k st Q):ag P n (.inBlock id::k) st Q:=by
 intro F hn kt hk a w hs;obtain⟨z,Zz,rfl,hy,YH⟩:=eX hk;cases z<;>simp only[KI.it,It.inBlock.injEq,reduceCtorEq]at hy;exact h F hn Zz YH a w hs
def ag.stop{μ:St->Prop}(h:μ st):ag P n (.stop μ::k) st Q:=by
 intro F hn kt hk a w hs;obtain⟨z,Zz,rfl,hy,YH⟩:=eX hk;cases z<;>simp only[KI.it,It.stop.injEq,reduceCtorEq]at hy;subst hy;exact⟨st,h,hs⟩
def jj(id:Nat):List It->Option (List It)
 |[]=>none
 |.inBlock j::k=>if id=j then some k else jj id k
 |_::k=>jj id k
def lW{F:Fr}{id:Nat}{a:Act}{w:World}:∀{kt:List KI} {k':List It},jj id (kt.map (KI.it P n))=some k'->
 (∀Zz,Zz.map (KI.it P n)=k'->lU P F Q Zz .normal a w)->lU P F Q kt (.exit id) a w
 |[],_,h,_=>by simp[jj]at h
 |.code c::kt,_,h,hq=>lW (kt:=kt) (by simpa[KI.it,jj]using h) hq
 |.ops all l::kt,_,h,hq=>lW (kt:=kt) (by simpa[KI.it,jj]using h) hq
 |.stop μ::kt,_,h,hq=>lW (kt:=kt) (by simpa[KI.it,jj]using h) hq
 |.inBlock j::kt,k',h,hq=>by
  simp only[eV,KI.it,jj]at h;simp only[lU,Exit.inBlock];by_cases hj:id=j
  .rw[ak hj]at h|-;simp only[aI]at h;exact hq kt h
  .rw[au hj]at h|-;exact lW h hq
def ag.exit{id:Nat}{k':List It}(hp:jj id k=some k')(h:ag P n k' st Q):ag P n (.code (.exit id)::k) st Q:=by
 intro F hn kt hk a w hs;obtain⟨z,Zz,rfl,hy,YH⟩:=eX hk;obtain⟨c0,rfl,hc⟩:=iq hy;have hc0:c0=.exit id:=by
  cases c0<;>simp only[dI,reduceCtorEq,bN.exit.injEq]at hc
  case region=>(split at hc;cases hc);split at hc<;>cases hc
  rw[hc]
 subst hc0;exact wpIn_exit (lW (n:=n) (by rw[YH];exact hp) (λkt'' h''=>h F hn kt'' h'' a w hs))
def l4{F:Fr}{a:Act}{w:World}(h:∃st,Q st/\fU F st a w):∀(kt:List KI),lU P F Q kt .ret a w
 |[]=>⟨.inr rfl,h⟩
 |.code _::kt=>l4 h kt
 |.inBlock _::kt=>l4 h kt
 |.ops _ _::kt=>l4 h kt
 |.stop _::kt=>l4 h kt
def ag.ret(h:Q st):ag P n (.code .ret::k) st Q:=by
 intro F hn kt hk a w hs;obtain⟨z,Zz,rfl,hy,YH⟩:=eX hk;obtain⟨c0,rfl,hc⟩:=iq hy;have hc0:c0=.ret:=by
  cases c0<;>simp only[dI,reduceCtorEq]at hc<;>(try (split at hc;cases hc))<;>(try (split at hc<;>cases hc))<;>try rfl
 subst hc0;exact wpIn_ret (l4 ⟨st,h,hs⟩ Zz)
def ag.cond{c:VX}{x y:bN}{b:Bool}(hc:c.ev st.s=.bool b)(h1:b=true->ag P n (.code x::k) st Q)(h2:b=false->ag P n (.code y::k) st Q):
 ag P n (.code (.cond c x y)::k) st Q:=by
 intro F hn kt hk a w hs;obtain⟨z,Zz,rfl,hy,YH⟩:=eX hk;obtain⟨c0,rfl,Yk⟩:=iq hy;have hc0:∃o x0 y0,c0=.cond o x0 y0/\cx n o=c/\dI P n x0=x/\dI P n y0=y:=by
  cases c0<;>simp only[dI,reduceCtorEq,bN.cond.injEq]at Yk
  case region=>(split at Yk;cases Yk);split at Yk<;>cases Yk
  exact⟨_,_,_,rfl,Yk.1,Yk.2.1,Yk.2.2⟩
 obtain⟨o,x0,y0,rfl,rfl,rfl,rfl⟩:=hc0;obtain⟨I,W2⟩:=hs;have he:=cL W2 o;rw[hn,hc]at he;simp only[G']at he;exact wpIn_cond_split he (λhb=>h1 hb F hn (.code x0::Zz) (by simp[KI.it,YH]) a w ⟨I,W2⟩) (λhb=>h2 hb F hn (.code y0::Zz) (by simp[KI.it,YH]) a w ⟨I,W2⟩)
def ag.region{l:List aC}(h:ag P n (.ops l::k) st Q):ag P n (.code (.reg false l)::k) st Q:=by
 intro F hn kt hk a w hs;obtain⟨z,Zz,rfl,hy,YH⟩:=eX hk;obtain⟨c0,rfl,Yk⟩:=iq hy;have hc0:∃id ops,c0=.region id ops false/\ops.toList.map (cW P n ops)=l:=by
  cases c0<;>simp only[dI,reduceCtorEq]at Yk;rename_i id ops draw;cases draw
  .simp only[Bool.false_and,fO,if_false,bN.reg.injEq,true_and]at Yk;exact⟨id,ops,rfl,Yk⟩
  .simp only[Bool.true_and]at Yk;split at Yk
   .cases Yk
   .split at Yk
    .cases Yk
    .simp at Yk
 obtain⟨id,ops,rfl,rfl⟩:=hc0;exact wpIn_region_list (h F hn (.ops ops ops.toList::Zz) (by simp[KI.it,YH]) a w hs)
def ag.EL(h:ag P n k st Q):ag P n (.ops []::k) st Q:=by
 intro F hn kt hk a w hs;obtain⟨z,Zz,rfl,hy,YH⟩:=eX hk;cases z<;>simp only[KI.it,It.ops.injEq,reduceCtorEq,List.map_eq_nil_iff]at hy;subst hy;exact h F hn Zz YH a w hs
def bg(s:Nat->V):Option (VX×Bool)->Option Bool
 |none=>some true
 |some (x,b)=>match x.ev s with
    |.bool c=>some (c==b)
    |.WC []=>some false
    |.int _ _=>some false
    |_=>none
def uo{F:Fr}{I:Mu}{st:St}{a:Act}{w:World}(hs:dr F I st a w)(all:Array Oper)(o:Oper){b:Bool}(h:bg st.s (cW P F.n all o).g=some b):
 Region.wanted o (yielded all a.tmps)=b:=by
 unfold Region.wanted;cases hg:o.guard with
 |none=>simp[cW,hg,bg]at h;simp[h]
 |some g=>
  obtain⟨j,want⟩:=g;simp only[cW,hg,Option.map_some,bg]at h;cases hd:(all[j]?).bind (·.dst)with
  |none=>
   simp only[hd,VX.ev]at h;simp only[aI]at h;subst h;simp[yielded,hd]
  |some d=>
   simp only[hd]at h;by_cases hdn:d<F.n
   .simp only[ak hdn,VX.ev]at h;have hr:=hs.slot d hdn;have YJ:a.tmps[d]?=some (a.tmps.getD d undef):=by
     rw[Zq7,Array.getElem?_eq_getElem (by rw[hs.size];exact hdn)];rfl
    simp only[yielded,hd,Option.bind_some,YJ];split at h
    .rename_i c hc;rw[hc]at hr;simp only[G']at hr;rw[hr];simp only[aI]at h;rw[<-h];rfl
    .rename_i hc;rw[hc]at hr;simp only[G',ar]at hr;obtain⟨WL,hv,rfl⟩:=hr;rw[hv];simp only[aI]at h;rw[<-h];rfl
    .rename_i hc;rw[hc]at hr;simp only[G']at hr;rw[hr];simp only[aI]at h;rw[<-h];rfl
    .cases h
   .simp only[au hdn,VX.ev]at h;simp only[aI]at h;have hle:a.tmps.size<=d:=by rw[hs.size];exact Nat.le_of_not_lt hdn
    have:a.tmps[d]?=none:=Array.getElem?_eq_none hle;simp[yielded,hd,this,<-h]
def St.put(st:St)(d:Option Nat)(v:V):St:=⟨aO st.s d v,st.U⟩
def ag.MW{i:aC}{l:List aC}(hw:bg st.s i.g=some true)
 (h:∀(F:Fr),F.n=n->∀(I:Mu) (a:Act) (w:World) (o:Oper) (all:Array Oper),cW P n all o=i->dr F I st a w->
   ∀(next:Act->World->Prop) (Q':Exit->Act->World->Prop),(∀Zf a' w',fU F Zf a' w'->ag P n (.ops l::k) Zf Q->next a' w')->o.wpIn F.fg 0 P a w next Q'):
 ag P n (.ops (i::l)::k) st Q:=by
 intro F hn kt hk a w hs;obtain⟨z,Zz,rfl,hy,YH⟩:=eX hk;cases z<;>simp only[KI.it,It.ops.injEq,reduceCtorEq]at hy;rename_i all os;cases os with
 |nil=>simp at hy
 |cons o os=>
  simp only[eV,List.cons.injEq]at hy;obtain⟨hi,hl⟩:=hy;obtain⟨I,W2⟩:=hs;have hwant:=uo (P:=P) W2 all o (b:=true) (by rw[hn,hi];exact hw);simp only[lU,wpListIn,hwant,if_true];refine h F hn I a w o all hi W2 _ _ ?_;intro Zf a' w' hs'' hsem;exact hsem F hn (.ops all os::Zz) (by simp[KI.it,hl,YH]) a' w' hs''
def ag.ins{i:aC}{l:List aC}(hb:i.op≠.bad)(hw:bg st.s i.g=some true)
 (h:∀(F:Fr),F.n=n->∀(I:Mu) (a:Act) (w:World) (o:Oper) (all:Array Oper),cW P n all o=i->dr F I st a w->
   ∀(next:Act->World->Prop) (Q':Exit->Act->World->Prop),(∀Zf a' w',fU F Zf a' w'->ag P n (.ops l::k) Zf Q->next a' w')->o.wp P a w next Q'):
 ag P n (.ops (i::l)::k) st Q:=by
 refine ag.MW hw λF hn I a w o all hi hs next Q' WN=>Ko ?_ (h F hn I a w o all hi hs next Q' WN)
 refine oy (P:=P) (n:=n) ?_;have:i.op=Xb P n o.op:=by rw[<-hi];rfl
 rw[<-this];exact hb
def ag.uz{i:aC}{l:List aC}(hw:bg st.s i.g=some false)(h:ag P n (.ops l::k) (st.put i.dst (.WC [])) Q):ag P n (.ops (i::l)::k) st Q:=by
 intro F hn kt hk a w hs;obtain⟨z,Zz,rfl,hy,YH⟩:=eX hk;cases z<;>simp only[KI.it,It.ops.injEq,reduceCtorEq]at hy;rename_i all os;cases os with
 |nil=>simp at hy
 |cons o os=>
  simp only[eV,List.cons.injEq]at hy;obtain⟨hi,hl⟩:=hy;obtain⟨I,W2⟩:=hs;have hwant:=uo (P:=P) W2 all o (b:=false) (by rw[hn,hi];exact hw);simp only[lU,wpListIn,hwant,fO,if_false];refine⟨λ_ _=>trivial,?_⟩;refine h F hn (.ops all os::Zz) (by simp[KI.it,hl,YH]) _ w ⟨I,?_⟩;have hd:i.dst=o.dst.filter (·<F.n):=by rw[<-hi,hn];rfl
  rw[St.put,hd];exact W2.pure (by simp only[G'];exact⟨[],rfl,by simp[ar]⟩)
def ag.pure{i:aC}{l:List aC}{v:V}(hw:bg st.s i.g=some true)(hp:eD st.s i.op)(hv:aD st.U st.s i.op=some v)
 (h:ag P n (.ops l::k) (st.put i.dst v) Q):ag P n (.ops (i::l)::k) st Q:=by
 refine ag.ins (λe=>by rw[e]at hv;simp[aD]at hv) hw λF hn I a w o all hi hs next Q' WN=>?_
 subst hn;have WO:i.op=Xb P F.n o.op:=by rw[<-hi];rfl
 have hd:i.dst=o.dst.filter (·<F.n):=by rw[<-hi];rfl
 obtain⟨z,hz,hr⟩:=tr hs o (WO▸hp) (WO▸hv);unfold Oper.wp;rw[hz];refine WN (st.put i.dst v) _ _ ⟨I,?_⟩ h;rw[St.put,hd];exact hs.pure hr
variable {P:Program} {n:Nat} {st:St} {Q:St->Prop} {k:List It}
def GN{F:Fr}{o:Oper}{a:Act}{w:World}{next next':Act->World->Prop}{R R':Exit->Act->World->Prop}(h:o.wpIn F.fg 0 P a w next R)
 (hn:∀a w,next a w->next' a w)(hq:∀e a w,e≠.normal->R e a w->R' e a w):o.wpIn F.fg 0 P a w next' R':=by
 refine⟨h.1,?_⟩;have h:=h.2;generalize (o.semAt F.fg.round a.eval).run P w=r at*;cases r with
 |ok x w'=>
  cases x<;>simp only[Oper.uponIn]at h|-<;>first
   |exact hn _ _ h
   |exact⟨h.1,CallsIn.mono h.2 (λe w'' he=>by cases e<;>first|exact hn _ _ he|exact hq _ _ _ (by simp) he|(obtain⟨a0,w0,h2⟩:=he;exact⟨a0,w0,hq _ _ _ (by simp) h2⟩))⟩
   |exact⟨h.1,RowsIn.mono h.2 (λ_ _ he=>hn _ _ he)⟩
   |exact⟨h.1,RoundIn.mono h.2 (λe w'' he=>by cases e<;>first|exact hn _ _ he|exact hq _ _ _ (by simp) he|(obtain⟨a0,w0,h2⟩:=he;exact⟨a0,w0,hq _ _ _ (by simp) h2⟩))⟩
   |contradiction
 |halt x w'=>cases x<;>simp only[Oper.uponIn]at h|-<;>first|exact hq _ _ _ (by simp) h|contradiction
def nQ{F:Fr}{all:Array Oper}{R R':Exit->Act->World->Prop}(hq:∀e a w,R e a w->R' e a w):∀(l:List Oper) (a:Act) (w:World),wpListIn F.fg 0 P all R l a w->wpListIn F.fg 0 P all R' l a w
 |[],a,w,h=>hq _ _ _ h
 |o::l,a,w,h=>by
  simp only[wpListIn]at h|-;split
  .rename_i hw;simp only[hw,if_true]at h;exact GN h (nQ hq l) (λe a w _=>hq e a w)
  .rename_i hw;simp only[hw]at h;exact⟨h.1,nQ hq l _ _ h.2⟩
def Wk(U Z':ad)(v v':V):Prop:=∀(I:Mu) (w0 w:World) (XQ:Nat->Prop) (x:Value),Sat w0 XQ I U w->G' I (aA I U) w v x->G' I (aA I Z') w v' x
def Wk.refl{U Z':ad}(h:aa Z' U)(v:V):Wk U Z' v v:=λI _ w _ x _ hr=>G'.mono (dx.refl I) (dp.sub w h) (Xc _) v x hr
def Wk.undef{U Z':ad}(v:V):Wk U Z' v .undef:=λ_ _ _ _ _ _ _=>by simp[G']
def Wk.own{U Z':ad}(h:aa Z' U){id off len:Nat}{ob:Ob}(ho:U id=some ob)(M':Z' id=none)(hl:off+len<=ob.rows.length):
 Wk U Z' (.own id off len) (.sl ob.sz ((ob.rows.drop off).take len)):=by
 intro I w0 w XQ x hs hr;simp only[G']at hr|-;have hlen:((ob.rows.drop off).take len).length=len:=by simp;omega
 have XL:=hs.obj id ob ho;split at hr
 .exact hr.elim
 .obtain⟨rfl,rfl,rfl⟩:=hr;exact⟨none,0,by simp,by simp,.inl (by simp)⟩
 .rename_i b sz cap hb;obtain⟨o,c,rfl,h1,h2,h3,hz⟩:=hr;refine⟨_,c,by rw[hlen],by omega,?_⟩;by_cases h0:len=0
  .left;subst h0;simp
  .right;rw[hb]at XL;obtain⟨g1,g2,g3,g4,g5⟩:=XL.rows hz;have ho':o=off*sz:=by
    rcases h3 with h3|h3
    .exact h3
    .omega
   subst ho' g1;refine⟨b,_,rfl,?_,g2,?_⟩
   .rintro⟨YT,ob',sz',YD,e1,e2⟩;have:=hs.inj YT id ob' ob _ _ _ _ _ (h _ _ e1) ho e2 hb;rw[this,M']at e1;cases e1
   .have:=(g5.drop off).take len;rw[kf]at this;exact aW.mono (dx.refl I) (dp.sub w h) (Xc _) _ _ _ _ rfl this
def WkL(U Z':ad):List V->List V->Prop
 |[],[]=>True
 |v::vs,v'::vs'=>Wk U Z' v v'/\WkL U Z' vs vs'
 |_,_=>False
def WkL.all{U Z':ad}{I:Mu}{w0 w:World}{XQ:Nat->Prop}(hs:Sat w0 XQ I U w):∀{vs vs':List V} {l:List Value},WkL U Z' vs vs'->
 ar I (aA I U) w vs l->ar I (aA I Z') w vs' l
 |[],[],_,_,h=>by simpa[ar]using h
 |v::vs,v'::vs',l,hw,h=>by
  simp only[ar]at h|-;obtain⟨x,xs,rfl,h1,h2⟩:=h;exact⟨x,xs,rfl,hw.1 I w0 w XQ x hs h1,WkL.all hs hw.2 h2⟩
 |[],_::_,_,hw,_=>hw.elim
 |_::_,[],_,hw,_=>hw.elim
def Wk.agg{U Z':ad}{vs vs':List V}(h:WkL U Z' vs vs'):Wk U Z' (.agg vs) (.agg vs'):=by
 intro I w0 w XQ x hs hr;simp only[G']at hr|-;obtain⟨WL,rfl,h1,h2⟩:=hr;exact⟨WL,rfl,WkL.all hs h h1,h2⟩
def Wk.WC{U Z':ad}{vs vs':List V}(h:WkL U Z' vs vs'):Wk U Z' (.WC vs) (.WC vs'):=by
 intro I w0 w XQ x hs hr;simp only[G']at hr|-;obtain⟨WL,rfl,h1⟩:=hr;exact⟨WL,rfl,WkL.all hs h h1⟩
def Ns(st Zf:St):Prop:=aa Zf.U st.U/\∀i,Wk st.U Zf.U (st.s i) (Zf.s i)
def Ns.sat{st Zf:St}(h:Ns st Zf){F:Fr}{a:Act}{w:World}(hs:fU F st a w):fU F Zf a w:=by
 obtain⟨I,hs⟩:=hs;exact⟨I,hs.sat.drop h.1,hs.le,hs.size,hs.book.nv (dp.sub w h.1),λi hi=>h.2 i I _ _ _ _ hs.sat (hs.slot i hi)⟩
def ag.weaken{todo:List It}{Zf:St}(h:Ns st Zf)(hr:ag P n todo Zf Q):ag P n todo st Q:=
 λF hn kt hk a w hs=>hr F hn kt hk a w (h.sat hs)
def xJ{F:Fence}{m0:Nat}{c:Code}{Q':Exit->Act->World->Prop}(μ:Nat->Act->World->Prop)
 (round:∀m a w,μ m a w->c.wpIn F m0 P (Exit.then (λa' w'=>∃m',m'<m/\μ m' a' w') Q') a w):∀m a w,μ m a w->(Code.loop c).wpIn F m0 P Q' a w:=by
 intro m a w h b k cs YU hb hr;have key:∀m a w,μ m a w->∃e a' w',Q' e a' w'/\ArrivesIn (Machine.fenced P F) P (lone (b.atR a (.code c::.inLoop c::k)) cs w) b k cs e a' w':=by
  intro m
  induction m using Nat.strongRecOn with
  |_ m ih=>
   intro a w hI;obtain⟨e,a₁,w₁,hq,harr⟩:=round m a w hI b (.inLoop c::k) cs YU hb hr;cases e with
   |normal=>
    obtain⟨m',B',hI'⟩:=hq;obtain⟨e₂,a₂,w₂,hq₂,harr₂⟩:=ih m' B' a₁ w₁ hI';exact⟨e₂,a₂,w₂,hq₂,.of_steps (StepsIn.trans harr (.one (fenced_calm hb hr rfl) stepR_inLoop)) harr₂⟩
   |exit id=>exact⟨_,a₁,w₁,hq,.pass (x:=.inLoop c) rfl (λ_ _=>.inl (by simp)) harr⟩
   |goto l=>exact⟨_,a₁,w₁,hq,.pass (x:=.inLoop c) rfl (λ_ _=>.inl (by simp)) harr⟩
   |ret=>exact⟨_,a₁,w₁,hq,.pass (x:=.inLoop c) rfl (λ_ _=>.inl (by simp)) harr⟩
   |panic ch=>exact⟨_,a₁,w₁,hq,.pass (x:=.inLoop c) rfl (λ_ _=>.inl (by simp)) harr⟩
   |outgrown=>exact⟨_,a₁,w₁,hq,.pass (x:=.inLoop c) rfl (λ_ _=>.inl (by simp)) harr⟩
 obtain⟨e,a',w',hq,harr⟩:=key m a w h;exact⟨e,a',w',hq,.of_steps (.one (fenced_calm hb hr rfl) stepR_loop) harr⟩
def ag.loop{x:bN}(μ:Nat->St->Prop)(m:Nat)(h0:μ m st)(hr:∀m st,μ m st->ag P n (.code x::.stop (λZf=>∃m',m'<m/\μ m' Zf)::k) st Q):
 ag P n (.code (.loop x)::k) st Q:=by
 intro F hn kt hk a w hs;obtain⟨z,Zz,rfl,hy,YH⟩:=eX hk;obtain⟨c0,rfl,hc⟩:=iq hy;have hc0:∃x0,c0=.loop x0/\dI P n x0=x:=by
  cases c0<;>simp only[dI,reduceCtorEq,bN.loop.injEq]at hc
  case region=>(split at hc;cases hc);split at hc<;>cases hc
  exact⟨_,rfl,hc⟩
 obtain⟨x0,rfl,rfl⟩:=hc0;refine xJ (λm a w=>∃st,μ m st/\fU F st a w) ?_ m a w ⟨st,h0,hs⟩;rintro m a w ⟨st,hi,hs⟩;refine wpIn_mono (hr m st hi F hn (.code x0::.stop (λZf=>∃m',m'<m/\μ m' Zf)::Zz) (by simp[KI.it,YH]) a w hs) ?_;intro e a' w' h;cases e
 case normal=>obtain⟨Zf,⟨m',B',hi'⟩,W2⟩:=h;exact⟨m',B',Zf,hi',W2⟩
 all_goals exact h
variable {P:Program} {n:Nat} {st:St} {Q:St->Prop} {k:List It}
def yi{o:Op}{e sz:Nat}{z:V}(h:Xb P n o=.alloc e sz z):∃i zv,o=.alloc e/\zeroOf P e=some (i,zv)/\i.size=sz/\ofValue zv=z:=by
 cases o
 case alloc t=>
  simp only[Xb,cG]at h;split at h
  .rename_i i zv hz;simp only[Xd.alloc.injEq]at h;obtain⟨rfl,h2,h3⟩:=h;exact⟨i,zv,rfl,hz,h2,h3⟩
  ·(repeat' split at h)<;>cases h
 case call c=>
  obtain⟨callee,args,argTypes⟩:=c;cases callee
  case builtin b=>cases b<;>simp only[Xb,cG]at h<;>(repeat' split at h)<;>cases h
  all_goals (simp only[Xb,cG]at h;cases h)
 case unOp op t x=>cases op<;>simp only[Xb,cG]at h<;>cases h
 case makeFunc f a b=>cases f<;>simp only[Xb,cG]at h<;>(repeat' split at h)<;>cases h
 all_goals (simp only[Xb,cG]at h;(repeat' split at h)<;>cases h)
def xY{o:Op}{sz:Nat}{xa xv:VX}(h:Xb P n o=.store sz xa xv):∃t x y,o=.store t x y/\bQ P t=true/\P.cellsOf t=sz/\cx n x=xa/\cx n y=xv:=by
 cases o
 case store t x y=>
  simp only[Xb,cG]at h;split at h
  .rename_i hk;simp only[Xd.store.injEq]at h;exact⟨t,x,y,rfl,hk,h.1,h.2.1,h.2.2⟩
  ·(repeat' split at h)<;>cases h
 case call c=>
  obtain⟨callee,args,argTypes⟩:=c;cases callee
  case builtin b=>cases b<;>simp only[Xb,cG]at h<;>(repeat' split at h)<;>cases h
  all_goals (simp only[Xb,cG]at h;cases h)
 case unOp op t x=>cases op<;>simp only[Xb,cG]at h<;>cases h
 case makeFunc f a b=>cases f<;>simp only[Xb,cG]at h<;>(repeat' split at h)<;>cases h
 all_goals (simp only[Xb,cG]at h;(repeat' split at h)<;>cases h)
def wz{o:Op}{e sz:Nat}{xs:List VX}(h:Xb P n o=.gq e sz xs):∃t len parts i z,o=.buildSlice t len parts/\P.underlying t=some (.slice e)/\zeroOf P e=some (i,z)/\
 i.size=sz/\parts.toList.map (·.1)=List.range len/\len*i.size<=16777216/\parts.toList.map (λp=>cx n p.2)=xs:=by
 cases o
 case buildSlice t len parts=>
  simp only[Xb,cG]at h;split at h
  .rename_i e' he;split at h
   .rename_i i z hz;split at h
    .rename_i hc;simp only[Xd.gq.injEq]at h;obtain⟨rfl,h2,h3⟩:=h;exact⟨t,len,parts,i,z,rfl,he,hz,h2,hc.1,hc.2,h3⟩
    .cases h
   .cases h
  .cases h
 case call c=>
  obtain⟨callee,args,argTypes⟩:=c;cases callee
  case builtin b=>cases b<;>simp only[Xb,cG]at h<;>(repeat' split at h)<;>cases h
  all_goals (simp only[Xb,cG]at h;cases h)
 case unOp op t x=>cases op<;>simp only[Xb,cG]at h<;>cases h
 case makeFunc f a b=>cases f<;>simp only[Xb,cG]at h<;>(repeat' split at h)<;>cases h
 all_goals (simp only[Xb,cG]at h;(repeat' split at h)<;>cases h)
def I9{o:Op}{e sz bytes:Nat}{zv:V}{xn:VX}(h:Xb P n o=.mk e sz bytes zv xn):∃t l c i z,o=.makeSlice t l c/\P.underlying t=some (.slice e)/\zeroOf P e=some (i,z)/\
 i.size=sz/\i.bytes=bytes/\ofValue z=zv/\uy l c=true/\cx n l=xn:=by
 cases o
 case makeSlice t l c=>
  simp only[Xb,cG]at h;split at h
  .rename_i e' he;split at h
   .rename_i i z hz;split at h
    .rename_i hc;simp only[Xd.mk.injEq]at h;obtain⟨rfl,h2,h3,h4,h5⟩:=h;exact⟨t,l,c,i,z,rfl,he,hz,h2,h3,h4,hc,h5⟩
    .cases h
   .cases h
  .cases h
 case call c=>
  obtain⟨callee,args,argTypes⟩:=c;cases callee
  case builtin b=>cases b<;>simp only[Xb,cG]at h<;>(repeat' split at h)<;>cases h
  all_goals (simp only[Xb,cG]at h;cases h)
 case unOp op t x=>cases op<;>simp only[Xb,cG]at h<;>cases h
 case makeFunc f a b=>cases f<;>simp only[Xb,cG]at h<;>(repeat' split at h)<;>cases h
 all_goals (simp only[Xb,cG]at h;(repeat' split at h)<;>cases h)
def Bl{o:Op}{e sz bytes:Nat}{zv:V}{xa xb:VX}(h:Xb P n o=.appz e sz bytes zv xa xb):∃t tn kn x y args argTypes i z,o=.call { callee:=.builtin .append,args:=args,argTypes:=argTypes }/\
 args=#[x,y]/\argTypes=#[t,tn]/\P.underlying t=some (.slice e)/\P.underlying tn=some (.int kn)/\zeroOf P e=some (i,z)/\i.size=sz/\i.bytes=bytes/\ofValue z=zv/\cx n x=xa/\cx n y=xb:=by
 cases o
 case call c=>
  obtain⟨callee,args,argTypes⟩:=c;cases callee
  case value=>simp[Xb]at h
  case invoke=>simp[Xb]at h
  case builtin b=>
   cases b
   case append=>
    simp only[Xb,cG]at h;split at h
    .rename_i x y t t' h1 h2;split at h
     .split at h
      .split at h<;>cases h
      .cases h
     .split at h
      .rename_i e' kn he hn;split at h
       .rename_i i z hz;simp only[Xd.appz.injEq]at h;obtain⟨rfl,h4,h5,h6,h7,h8⟩:=h;exact⟨t,t',kn,x,y,args,argTypes,i,z,rfl,by apply Array.ext';simpa using h1,by apply Array.ext';simpa using h2,he,hn,hz,h4,h5,h6,h7,h8⟩
       .cases h
      .split at h<;>cases h
      .cases h
    .cases h
   all_goals (simp only[Xb,cG]at h;(repeat' split at h)<;>cases h)
 case unOp op t x=>cases op<;>simp only[Xb,cG]at h<;>cases h
 case makeFunc f a b=>cases f<;>simp only[Xb,cG]at h<;>(repeat' split at h)<;>cases h
 all_goals (simp only[Xb,cG]at h;(repeat' split at h)<;>cases h)
def vC{o:Op}{e sz bytes:Nat}{xa xb:VX}(h:Xb P n o=.append e sz bytes xa xb):∃t t' x y args argTypes i z,o=.call { callee:=.builtin .append,args:=args,argTypes:=argTypes }/\
 args=#[x,y]/\argTypes=#[t,t']/\(t'=t\/P.underlying t'=some .string)/\P.underlying t=some (.slice e)/\zeroOf P e=some (i,z)/\i.size=sz/\i.bytes=bytes/\cx n x=xa/\cx n y=xb:=by
 cases o
 case call c=>
  obtain⟨callee,args,argTypes⟩:=c;cases callee
  case value=>simp[Xb]at h
  case invoke=>simp[Xb]at h
  case builtin b=>
   cases b
   case append=>
    simp only[Xb,cG]at h;split at h
    .rename_i x y t t' h1 h2;split at h
     .rename_i htt;subst htt;split at h
      .rename_i e' he;split at h
       .rename_i i z hz;simp only[Xd.append.injEq]at h;obtain⟨rfl,h4,h5,h6,h7⟩:=h;exact⟨t,t,x,y,args,argTypes,i,z,rfl,by apply Array.ext';simpa using h1,by apply Array.ext';simpa using h2,.inl rfl,he,hz,h4,h5,h6,h7⟩
       .cases h
      .cases h
     .split at h
      .split at h<;>cases h
      .rename_i e' he hn;split at h
       .rename_i i z hz;simp only[Xd.append.injEq]at h;obtain⟨rfl,h4,h5,h6,h7⟩:=h;exact⟨t,t',x,y,args,argTypes,i,z,rfl,by apply Array.ext';simpa using h1,by apply Array.ext';simpa using h2,.inr hn,he,hz,h4,h5,h6,h7⟩
       .cases h
      .cases h
    .cases h
   all_goals (simp only[Xb,cG]at h;(repeat' split at h)<;>cases h)
 case unOp op t x=>cases op<;>simp only[Xb,cG]at h<;>cases h
 case makeFunc f a b=>cases f<;>simp only[Xb,cG]at h<;>(repeat' split at h)<;>cases h
 all_goals (simp only[Xb,cG]at h;(repeat' split at h)<;>cases h)
def nI{o:Op}{f:VX}{xs:List VX}(h:Xb P n o=.call f xs):∃f0 args argTypes,o=.call { callee:=.value f0,args:=args,argTypes:=argTypes }/\cx n f0=f/\args.toList.map (cx n)=xs:=by
 cases o
 case call c=>
  obtain⟨callee,args,argTypes⟩:=c;cases callee
  case value f0=>simp only[Xb,Xd.call.injEq]at h;exact⟨f0,args,argTypes,rfl,h.1,h.2⟩
  case invoke=>simp[Xb]at h
  case builtin b=>cases b<;>simp only[Xb,cG]at h<;>(repeat' split at h)<;>cases h
 case unOp op t x=>cases op<;>simp only[Xb,cG]at h<;>cases h
 case makeFunc f a b=>cases f<;>simp only[Xb,cG]at h<;>(repeat' split at h)<;>cases h
 all_goals (simp only[Xb,cG]at h;(repeat' split at h)<;>cases h)
def Ff{o:Op}{e sz:Nat}{xv:VX}(h:Xb P n o=.box e sz xv):∃x,o=.box e x/\bQ P e=true/\P.cellsOf e=sz/\cx n x=xv:=by
 cases o
 case box t x=>
  simp only[Xb,cG]at h;split at h
  .rename_i hk;simp only[Xd.box.injEq]at h;obtain⟨rfl,h2,h3⟩:=h;exact⟨x,rfl,hk,h2,h3⟩
  .cases h
 case call c=>
  obtain⟨callee,args,argTypes⟩:=c;cases callee
  case builtin b=>cases b<;>simp only[Xb,cG]at h<;>(repeat' split at h)<;>cases h
  all_goals (simp only[Xb,cG]at h;cases h)
 case unOp op t x=>cases op<;>simp only[Xb,cG]at h<;>cases h
 case makeFunc f a b=>cases f<;>simp only[Xb,cG]at h<;>(repeat' split at h)<;>cases h
 all_goals (simp only[Xb,cG]at h;(repeat' split at h)<;>cases h)
def FT{o:Op}{sz:Nat}{z:V}{xv:VX}(h:Xb P n o=.clear sz z xv):∃x t e args argTypes i zv,o=.call { callee:=.builtin .clear,args:=args,argTypes:=argTypes }/\
 args=#[x]/\argTypes[0]?=some t/\P.underlying t=some (.slice e)/\zeroOf P e=some (i,zv)/\i.size=sz/\ofValue zv=z/\cx n x=xv:=by
 cases o
 case call c=>
  obtain⟨callee,args,argTypes⟩:=c;cases callee
  case builtin b=>
   cases b
   case clear=>
    simp only[Xb,cG]at h;split at h
    .rename_i x t h1 h2;split at h
     .rename_i e he;split at h
      .rename_i i zv hz;simp only[Xd.clear.injEq]at h;exact⟨x,t,e,args,argTypes,i,zv,rfl,by apply Array.ext';simpa using h1,h2,he,hz,h.1,h.2.1,h.2.2⟩
      .cases h
     .cases h
    .cases h
   all_goals (simp only[Xb,cG]at h;(repeat' split at h)<;>cases h)
  all_goals (simp only[Xb,cG]at h;cases h)
 case unOp op t x=>cases op<;>simp only[Xb,cG]at h<;>cases h
 case makeFunc f a b=>cases f<;>simp only[Xb,cG]at h<;>(repeat' split at h)<;>cases h
 all_goals (simp only[Xb,cG]at h;(repeat' split at h)<;>cases h)
def x9{F:Fr}{I:Mu}{a:Act}{w:World}(hs:dr F I st a w){o:Oper}{t:TypeId}{x:Operand}(hoo:o.op=.box t x)(hk:bQ P t=true)
 (hx:((cx F.n x).ev st.s).cells.length=P.cellsOf t)(WM:((cx F.n x).ev st.s).stays=true):
 ∃id,st.U id=none/\∃y w' Y',(execOp a.eval o).run P w=.ok (.value y) w'/\
  dr F Y' ⟨aO st.s (o.dst.filter (·<F.n)) (.ptr id 0 0),C' st.U id ⟨t,P.cellsOf t,[(cx F.n x).ev st.s]⟩⟩ (a.put o.dst y) w':=by
 have XH:=(dV hk).2.2;obtain⟨g1,g2⟩:=(cL hs x).cells WM;have hl:=(cL hs x).ke WM;obtain⟨id,M',Y',h1,h2,h3,h4⟩:=hs.sat.renew (row:=none) (World.grownBy_alloc w (.cells (a.eval x).cells t) none) none (.inl rfl) w.heap.size (P.cellsOf t) 1 (a.eval x).cells t [(cx F.n x).ev st.s] (a.eval x).cells.toList (.inr (Xc _))
  (heap_alloc_new w _) XH (by omega) (by simp) (by simp[maxLen]) (by intro r hr;simp at hr;subst hr;exact hx)
  (by simp only[flat,zj,List.flatMap_nil,iN];exact g1) g2 (by intro j u hu;simpa using hu)
 refine⟨id,M',.pointer (some ⟨w.heap.size,0,none⟩),w.alloc (.cells (a.eval x).cells t),Y',?_,hs.step h3 h2 h4 (by simp) (by simp[G',h1];exact XH)⟩;unfold execOp;rw[hoo];simp[Instr.box,newVar,newRow]
def ee{all:Array Oper}{o:Oper}{i:aC}(h:cW P n all o=i):Xb P n o.op=i.op/\o.dst.filter (·<n)=i.dst:=by rw[<-h];exact⟨rfl,rfl⟩
def ag.alloc{i:aC}{l:List aC}{e sz:Nat}{z:V}(hw:bg st.s i.g=some true)(ho:i.op=.alloc e sz z)
 (h:∀id,st.U id=none->ag P n (.ops l::k) ⟨aO st.s i.dst (.ptr id 0 0),C' st.U id ⟨e,sz,[z]⟩⟩ Q):ag P n (.ops (i::l)::k) st Q:=by
 refine ag.ins (by rw[ho];simp) hw λF hn I a w o all hi hs next Q' WN=>?_
 subst hn;obtain⟨WO,hd⟩:=ee hi;rw[ho]at WO;obtain⟨ti,zv,h1,h2,rfl,rfl⟩:=yi WO;obtain⟨id,M',x,w',Y',hx,W2⟩:=tP hs h1 h2;unfold Oper.wp;rw[hx];refine WN _ _ _ ⟨Y',?_⟩ (h id M');rw[<-hd];exact W2
def ag.box{i:aC}{l:List aC}{e sz:Nat}{xv:VX}(hw:bg st.s i.g=some true)(ho:i.op=.box e sz xv)
 (hx:(xv.ev st.s).cells.length=sz)(WM:(xv.ev st.s).stays=true)
 (h:∀id,st.U id=none->ag P n (.ops l::k) ⟨aO st.s i.dst (.ptr id 0 0),C' st.U id ⟨e,sz,[xv.ev st.s]⟩⟩ Q):ag P n (.ops (i::l)::k) st Q:=by
 refine ag.ins (by rw[ho];simp) hw λF hn I a w o all hi hs next Q' WN=>?_
 subst hn;obtain⟨WO,hd⟩:=ee hi;rw[ho]at WO;obtain⟨x,h1,h2,rfl,rfl⟩:=Ff WO;obtain⟨id,M',y,w',Y',hy,W2⟩:=x9 hs h1 h2 hx WM;unfold Oper.wp;rw[hy];refine WN _ _ _ ⟨Y',?_⟩ (h id M');rw[<-hd];exact W2
def ag.store{i:aC}{l:List aC}{sz:Nat}{xa xv:VX}(hw:bg st.s i.g=some true)(ho:i.op=.store sz xa xv)
 {id r0 c:Nat}(h1:xa.ev st.s=.ptr id r0 c){ob:Ob}(h2:st.U id=some ob){r r':V}(h3:ob.rows[r0]?=some r)(h4:fo r c sz (xv.ev st.s)=some r')
 (h:ag P n (.ops l::k) ⟨aO st.s i.dst (.WC []),C' st.U id { ob with rows:=ob.rows.set r0 r' }⟩ Q):ag P n (.ops (i::l)::k) st Q:=by
 refine ag.ins (by rw[ho];simp) hw λF hn I a w o all hi hs next Q' WN=>?_
 subst hn;obtain⟨WO,hd⟩:=ee hi;rw[ho]at WO;obtain⟨t,x,y,g1,g2,rfl,rfl,rfl⟩:=xY WO;obtain⟨w',hx,W2⟩:=tH hs g1 g2 h1 h2 h3 h4;unfold Oper.wp;rw[hx];refine WN _ _ _ ⟨I,?_⟩ h;rw[<-hd];exact W2
def ag.mkS{i:aC}{l:List aC}{e sz bytes:Nat}{zv:V}{xn:VX}(hw:bg st.s i.g=some true)(ho:i.op=.mk e sz bytes zv xn){m:Int}(hm:xn.ev st.s=.int .i64 m)
 (h0:0<=m)(hb:m.toNat*(bytes+1)<=140737488355328)
 (h:∀id,st.U id=none->ag P n (.ops l::k) ⟨aO st.s i.dst (.own id 0 m.toNat),C' st.U id ⟨e,sz,List.replicate m.toNat zv⟩⟩ Q):ag P n (.ops (i::l)::k) st Q:=by
 refine ag.ins (by rw[ho];simp) hw λF hn I a w o all hi hs next Q' WN=>?_
 subst hn;obtain⟨WO,hd⟩:=ee hi;rw[ho]at WO;obtain⟨t,l',c,ti,z,h1,h2,h3,rfl,rfl,rfl,h5,rfl⟩:=I9 WO;obtain⟨id,M',x,w',Y',Xp,W2⟩:=CB hs h1 h5 h2 h3 hm h0 hb;unfold Oper.wp;rw[Xp];refine WN _ _ _ ⟨Y',?_⟩ (h id M');rw[<-hd];exact W2
def ag.PI{i:aC}{l:List aC}{e sz bytes:Nat}{zv:V}{xa xn:VX}(hw:bg st.s i.g=some true)(ho:i.op=.appz e sz bytes zv xa xn)(hx:xa.ev st.s=.aB){kq:IntKind}{m:Int}(hm:xn.ev st.s=.int kq m)
 (h0:0<m)(hb:m.toNat*(bytes+1)<=140737488355328)
 (h:∀id,st.U id=none->ag P n (.ops l::k) ⟨aO st.s i.dst (.own id 0 m.toNat),C' st.U id ⟨e,sz,List.replicate m.toNat zv⟩⟩ Q):ag P n (.ops (i::l)::k) st Q:=by
 refine ag.ins (by rw[ho];simp) hw λF hn I a w o all hi hs next Q' WN=>?_
 subst hn;obtain⟨WO,hd⟩:=ee hi;rw[ho]at WO;obtain⟨t,tn,kn,x,y,args,argTypes,ti,z,h1,h2,h3,h4,h5,h6,rfl,rfl,rfl,rfl,rfl⟩:=Bl WO;obtain⟨id,M',x,w',Y',Xp,W2⟩:=wS hs h1 h2 h3 h4 h5 h6 hx hm h0 hb;unfold Oper.wp;rw[Xp];refine WN _ _ _ ⟨Y',?_⟩ (h id M');rw[<-hd];exact W2
def ag.gq{i:aC}{l:List aC}{e sz:Nat}{xs:List VX}(hw:bg st.s i.g=some true)(ho:i.op=.gq e sz xs)
 (hx:∀x∈xs.map (·.ev st.s),x.cells.length=sz/\x.stays=true)
 (h:∀id,st.U id=none->ag P n (.ops l::k) ⟨aO st.s i.dst (.own id 0 xs.length),C' st.U id ⟨e,sz,xs.map (·.ev st.s)⟩⟩ Q):ag P n (.ops (i::l)::k) st Q:=by
 refine ag.ins (by rw[ho];simp) hw λF hn I a w o all hi hs next Q' WN=>?_
 subst hn;obtain⟨WO,hd⟩:=ee hi;rw[ho]at WO;obtain⟨t,len,parts,ti,z,h1,h2,h3,rfl,h5,h6,rfl⟩:=wz WO;rw[List.map_map]at hx;obtain⟨id,M',x,w',Y',Xp,W2⟩:=qG hs h1 h2 h3 h5 h6 hx;unfold Oper.wp;rw[Xp];refine WN _ _ _ ⟨Y',?_⟩ (h id M');have hl:parts.size=len:=by have:=congrArg List.length h5;simpa using this
 simp only[cJ,List.map_map,Array.length_toList,hl,<-hd];exact W2
def ag.append{i:aC}{l:List aC}{e sz bytes:Nat}{xa xb:VX}(hw:bg st.s i.g=some true)(ho:i.op=.append e sz bytes xa xb)
 {base src:List V}{idA:Option Nat}(h1:bC st.U e sz (xa.ev st.s)=some (base,idA))(h2:bc st.U sz (xb.ev st.s)=some src)
 (hb:(base.length+src.length)*(bytes+1)<=140737488355328)
 (h:∀id,st.U id=none->ag P n (.ops l::k) ⟨aO st.s i.dst (.own id 0 (base.length+src.length)),C' (bz st.U idA) id ⟨e,sz,base++src⟩⟩ Q):
 ag P n (.ops (i::l)::k) st Q:=by
 refine ag.ins (by rw[ho];simp) hw λF hn I a w o all hi hs next Q' WN=>?_
 subst hn;obtain⟨WO,hd⟩:=ee hi;rw[ho]at WO;obtain⟨t,t',x,y,args,argTypes,ti,z,g1,g2,g3,g3',g4,g5,rfl,rfl,rfl,rfl⟩:=vC WO;obtain⟨id,M',r,w',Y',hx,W2⟩:=qN hs g1 g2 g3 g3' g4 g5 h1 h2 hb;unfold Oper.wp;rw[hx];refine WN _ _ _ ⟨Y',?_⟩ (h id M');rw[<-hd];exact W2
def fE(P:Program)(f:FuncId):Bool:=match P.funcs[f]? with
 |some fn=>fn.name != "runtime.NumGoroutine"&&fn.body.isSome
 |none=>false
def mq{w:World}{f:FuncId}(h:fE P f=true)(args:Array Value):(callFunc f args).run P w=.ok (.enter f args) w:=by
 unfold fE at h;split at h
 .rename_i fn hf;simp only[Ba,bne_iff_ne,ne_eq]at h;cases hb:fn.body with
  |none=>simp[hb]at h
  |some c=>simp[callFunc,hf,h.1,hb]
 .cases h
def av(P:Program)(f:FuncId)(args:List V)(U:ad)(Post:V->ad->Prop):Prop:=fE P f=true/\tB P f args U Post
def av.mono{f:FuncId}{args:List V}{U:ad}{Post Post':V->ad->Prop}(h:av P f args U Post)(hp:∀r Z',Post r Z'->Post' r Z'):
 av P f args U Post':=⟨h.1,h.2.mono hp⟩
def ar.app{I:Mu}{ow:Nat->Prop}{w:World}{vs us:List V}{l m:List Value}(h:ar I ow w vs l)(h':ar I ow w us m):ar I ow w (vs++us) (l++m):=h.append h'
def pM{F:Fr}{I:Mu}{a:Act}{w:World}(hs:dr F I st a w){o:Oper}{f0:Operand}{args:Array Operand}{argTypes:Array TypeId}
 (hoo:o.op=.call { callee:=.value f0,args:=args,argTypes:=argTypes }){f:FuncId}{caps:List V}(hf:(cx F.n f0).ev st.s=.fn f caps)
 {Post:V->ad->Prop}(hc:av P f ((args.toList.map (cx F.n)).map (·.ev st.s)++caps) st.U Post){next:Act->World->Prop}{Q':Exit->Act->World->Prop}
 (WN:∀r Z',Post r Z'->∀a' w',fU F ⟨aO st.s (o.dst.filter (·<F.n)) r,Z'⟩ a' w'->next a' w'):o.wp P a w next Q':=by
 have hfr:=cL hs f0;rw[hf]at hfr;simp only[G']at hfr;obtain⟨cvals,hfv,hcr⟩:=hfr;have XE:=(oq hs args.toList).app hcr;have Xq:(execOp a.eval o).run P w=.ok (.enter f ((args.toList.map a.eval++cvals).toArray)) w:=by
  unfold execOp;rw[hoo];simp only[resolve,hfv,Deferred.ofValue,Sem.run_bind,Sem.run_pure,Result.andThen_ok,invoke,mq hc.1];congr 2;apply Array.ext';simp
 unfold Oper.wp;rw[Xq];simp only[Oper.upon];have Zp:Sat w (aA I st.U) I st.U w:=by
  have h:=hs.sat;exact⟨Xc _,rfl,rfl,rfl,λ_ _ _=>rfl,h.fin,h.inj,h.obj,λb hb _=>hb,h.qI⟩
 refine(hc.2 I w _ Zp XE).mono ?_;rintro e w' ⟨r,Z',Y',val,rfl,hp,hle,W2,hr⟩;refine WN r Z' hp _ _ ⟨Y',?_⟩;have Zk:dp (aA I st.U) (aA Y' Z') w w':=λb hb hn=>⟨λho=>hn (W2.fresh b ho hb),W2.same b hb hn⟩
 have h0:=hs.sat;have XV:Sat F.w0 F.XQ Y' Z' w':=by
  refine⟨jP h0.size W2.size,W2.os.trans h0.os,W2.tape.trans h0.tape,W2.output.trans h0.output,?_,W2.fin,W2.inj,W2.obj,?_,h0.glob⟩
  .intro b hb hn;have h1:¬aA I st.U b:=λho=>hn (h0.fresh b ho hb);rw[W2.same b (Nat.lt_of_lt_of_le hb h0.size) h1,h0.same b hb hn]
  .intro b hb B';have h1:=W2.fresh b hb (Nat.lt_of_lt_of_le B' h0.size);exact h0.fresh b h1 B'
 exact hs.step XV hle Zk W2.size hr
def ag.call{i:aC}{l:List aC}{fx:VX}{xs:List VX}(hw:bg st.s i.g=some true)(ho:i.op=.call fx xs){f:FuncId}{caps:List V}(hf:fx.ev st.s=.fn f caps)
 {Post:V->ad->Prop}(hc:av P f (xs.map (·.ev st.s)++caps) st.U Post)
 (h:∀r Z',Post r Z'->ag P n (.ops l::k) ⟨aO st.s i.dst r,Z'⟩ Q):ag P n (.ops (i::l)::k) st Q:=by
 refine ag.ins (by rw[ho];simp) hw λF hn I a w o all hi hs next Q' WN=>?_
 subst hn;obtain⟨WO,hd⟩:=ee hi;rw[ho]at WO;obtain⟨f0,args,argTypes,g1,rfl,rfl⟩:=nI WO;refine pM hs g1 hf hc λr Z' hp a' w' W2=>WN _ a' w' W2 ?_;rw[hd];exact h r Z' hp
def CH{F:Fr}{I:Mu}{a:Act}{w:World}(hs:dr F I st a w){o:Oper}{f0:Operand}{args:Array Operand}{argTypes:Array TypeId}
 (hoo:o.op=.call { callee:=.value f0,args:=args,argTypes:=argTypes }){f:FuncId}{first:List V}(hf:(cx F.n f0).ev st.s=.bm f first)
 {Post:V->ad->Prop}(hc:av P f (first++(args.toList.map (cx F.n)).map (·.ev st.s)) st.U Post){next:Act->World->Prop}{Q':Exit->Act->World->Prop}
 (WN:∀r Z',Post r Z'->∀a' w',fU F ⟨aO st.s (o.dst.filter (·<F.n)) r,Z'⟩ a' w'->next a' w'):o.wp P a w next Q':=by
 have hfr:=cL hs f0;rw[hf]at hfr;simp only[G']at hfr;obtain⟨cvals,hfv,hcr⟩:=hfr;have XE:=hcr.app (oq hs args.toList);have Xq:(execOp a.eval o).run P w=.ok (.enter f ((cvals++args.toList.map a.eval).toArray)) w:=by
  unfold execOp;rw[hoo];simp only[resolve,hfv,Deferred.ofValue,Sem.run_bind,Sem.run_pure,Result.andThen_ok,invoke,mq hc.1];congr 2;apply Array.ext';simp
 unfold Oper.wp;rw[Xq];simp only[Oper.upon];have Zp:Sat w (aA I st.U) I st.U w:=by
  have h:=hs.sat;exact⟨Xc _,rfl,rfl,rfl,λ_ _ _=>rfl,h.fin,h.inj,h.obj,λb hb _=>hb,h.qI⟩
 refine(hc.2 I w _ Zp XE).mono ?_;rintro e w' ⟨r,Z',Y',val,rfl,hp,hle,W2,hr⟩;refine WN r Z' hp _ _ ⟨Y',?_⟩;have Zk:dp (aA I st.U) (aA Y' Z') w w':=λb hb hn=>⟨λho=>hn (W2.fresh b ho hb),W2.same b hb hn⟩
 have h0:=hs.sat;have XV:Sat F.w0 F.XQ Y' Z' w':=by
  refine⟨jP h0.size W2.size,W2.os.trans h0.os,W2.tape.trans h0.tape,W2.output.trans h0.output,?_,W2.fin,W2.inj,W2.obj,?_,h0.glob⟩
  .intro b hb hn;have h1:¬aA I st.U b:=λho=>hn (h0.fresh b ho hb);rw[W2.same b (Nat.lt_of_lt_of_le hb h0.size) h1,h0.same b hb hn]
  .intro b hb B';have h1:=W2.fresh b hb (Nat.lt_of_lt_of_le B' h0.size);exact h0.fresh b h1 B'
 exact hs.step XV hle Zk W2.size hr
def ag.lX{i:aC}{l:List aC}{fx:VX}{xs:List VX}(hw:bg st.s i.g=some true)(ho:i.op=.call fx xs){f:FuncId}{first:List V}(hf:fx.ev st.s=.bm f first)
 {Post:V->ad->Prop}(hc:av P f (first++xs.map (·.ev st.s)) st.U Post)
 (h:∀r Z',Post r Z'->ag P n (.ops l::k) ⟨aO st.s i.dst r,Z'⟩ Q):ag P n (.ops (i::l)::k) st Q:=by
 refine ag.ins (by rw[ho];simp) hw λF hn I a w o all hi hs next Q' WN=>?_
 subst hn;obtain⟨WO,hd⟩:=ee hi;rw[ho]at WO;obtain⟨f0,args,argTypes,g1,rfl,rfl⟩:=nI WO;refine CH hs g1 hf hc λr Z' hp a' w' W2=>WN _ a' w' W2 ?_;rw[hd];exact h r Z' hp
inductive VR where
 |tmp (x:VX)
 |cell (agg:Bool) (sz:Nat) (x:VX)
 |bad
def Ak(P:Program)(n:Nat):ResultVar->VR
 |.tmp t=>.tmp (cx n (.tmp t))
 |.cell t ty=>if bQ P ty then .cell (fZ P ty) (P.cellsOf ty) (cx n (.tmp t))else .bad
def iy(st:St):VR->Option V
 |.tmp x=>some (x.ev st.s)
 |.cell agg sz x=>bO st.U agg sz (x.ev st.s)
 |.bad=>none
def fq(st:St):List VR->Option (List V)
 |[]=>some []
 |r::rs=>match iy st r with
   |some v=>match fq st rs with
    |some vs=>some (v::vs)
    |none=>none
   |none=>none
def oT(st:St)(l:List VR):Option V:=match fq st l with
 |some [v]=>some v
 |some vs=>some (.WC vs)
 |none=>none
def Ret(l:List VR)(st:St)(Post:V->ad->Prop):Prop:=
 ∃v v' Z',oT st l=some v/\aa Z' st.U/\Wk st.U Z' v v'/\Post v' Z'
structure P' where
 n:Nat
 code:bN
 res:List VR
def cfn(P:Program)(fn:Func):Option P':=match fn.body with
 |some c=>some ⟨fn.ntmps,dI P fn.ntmps c,fn.results.toList.map (Ak P fn.ntmps)⟩
 |none=>none
def Ag(tmps:Array Value):ResultVar->Go.Sem Value
 |.tmp t=>pure (tmps.getD t undef)
 |.cell b t=>do loadVar t (<-asAddr (tmps.getD b undef))
def Df(fn:Func)(tmps:Array Value):results fn tmps=(do
 let vs <-Functor.map List.toArray (fn.results.toList.mapM (Ag tmps))
 pure (if h:vs.size=1 then vs[0]else .tuple vs)):=by
 unfold results;rw[Array.mapM_eq_mapM_toList];congr 3
def zS{F:Fr}{I:Mu}{a:Act}{w:World}(hs:dr F I st a w)(r:ResultVar){v:V}(h:iy st (Ak P F.n r)=some v):
 ∃x,(Ag a.tmps r).run P w=.ok x w/\G' I (aA I st.U) w v x:=by
 cases r with
 |tmp t=>
  simp only[Ak,iy,aI]at h;subst h;exact⟨_,rfl,cL hs (.tmp t)⟩
 |cell b t=>
  simp only[Ak]at h;split at h
  .rename_i hk;simp only[iy]at h;have hx:=cL hs (.tmp b);obtain⟨z,h1,h2⟩:=xR (P:=P) hs.sat hk hx h;refine⟨z,?_,h2⟩;have he:a.eval (.tmp b)=a.tmps.getD b undef:=rfl;rw[he]at h1;simp only[Instr.loadAt,Sem.run_bind]at h1;simp only[Ag,Sem.run_bind];generalize a.tmps.getD b undef=u at*;cases u<;>simp[Instr.sureAddr]at h1;rename_i p;cases p<;>simp[asAddr]at h1|-;exact h1
  .simp[iy]at h
def xI{F:Fr}{I:Mu}{a:Act}{w:World}(hs:dr F I st a w)(fn:Func){v:V}(h:oT st (fn.results.toList.map (Ak P F.n))=some v):
 ∃x,(results fn a.tmps).run P w=.ok x w/\G' I (aA I st.U) w v x:=by
 have key:∀(l:List ResultVar) (vs:List V),fq st (l.map (Ak P F.n))=some vs->
  ∃xs,(l.mapM (Ag a.tmps)).run P w=.ok xs w/\ar I (aA I st.U) w vs xs:=by
  intro l
  induction l with
  |nil=>intro vs h;simp only[List.map_nil,fq,aI]at h;subst h;exact⟨[],rfl,by simp[ar]⟩
  |cons r l ih=>
   intro vs h;simp only[eV,fq]at h;split at h
   .rename_i v hv;split at h
    .rename_i vs' hvs;simp only[aI]at h;subst h;obtain⟨x,h1,h2⟩:=zS (P:=P) hs r hv;obtain⟨xs,h3,h4⟩:=ih vs' hvs;refine⟨x::xs,?_,by simp only[ar];exact⟨x,xs,rfl,h2,h4⟩⟩;rw[List.mapM_cons];simp only[Sem.run_bind];rw[h1];simp only[Result.andThen_ok];rw[h3];simp
    .cases h
   .cases h
 unfold oT at h;cases XR:fq st (fn.results.toList.map (Ak P F.n))with
 |none=>simp[XR]at h
 |some vs=>
  obtain⟨xs,h1,h2⟩:=key _ _ XR;have Xq:(results fn a.tmps).run P w=.ok (if hl:xs.toArray.size=1 then xs.toArray[0]else .tuple xs.toArray) w:=by
   rw[Df];simp only[Sem.run_bind,Sem.run_map];rw[h1];simp
  rw[XR]at h
  match vs,h,h2 with
  |[],h,h2=>
   simp only[ar]at h2;subst h2;simp only[aI]at h;subst h;exact⟨_,Xq,by simp[G',ar]⟩
  |[u],h,h2=>
   simp only[ar]at h2;obtain⟨x,xs',rfl,h3,rfl⟩:=h2;simp only[aI]at h;subst h;exact⟨_,Xq,by simpa using h3⟩
  |u1::u2::us,h,h2=>
   simp only[aI]at h;subst h;have hlen:=h2.length;refine⟨_,Xq,?_⟩;rw[dif_neg (by simp[hlen])];simp only[G'];exact⟨xs,rfl,h2⟩
def fW(args:List V):Nat->V:=λi=>args.getD i (.WC [])
def dr.Oo{F:Fr}{I:Mu}{a:Act}{w:World}(hs:dr F I st a w){d:Deferred}{ds:List Deferred}(hd:a.defers=d::ds):
 ∃D w',d.target=.collected D/\(Instr.takeDeferred D).run P w=.ok [] w'/\dr F I st { a with defers:=ds } w':=by
 obtain⟨Ds,h1,h2,h3⟩:=hs.book.marks;rw[hd]at h1;cases Ds with
 |nil=>simp at h1
 |cons D Ds=>
  simp only[eV,List.cons.injEq]at h1;obtain⟨rfl,rfl⟩:=h1;obtain⟨g1,g2,g3⟩:=h3 D (by simp);simp only[List.nodup_cons]at h2;refine⟨D,w.putObj D (.deferred none),rfl,run_takeDeferred g2,?_⟩;have WZ:∀b,b≠D->(w.putObj D (.deferred none)).heap[b]?=w.heap[b]?:=λb hb=>World.putObj_heap_other hb;have hk:rH (aA I st.U) (aA I st.U) w (w.putObj D (.deferred none)):=λb _ hn=>⟨hn,λoff x hx=>by
   by_cases hb:b=D
   .subst hb;simp[World.cell?,g2]at hx
   .exact fb (WZ b hb) off x hx⟩
  have hz:w.heap.size<=(w.putObj D (.deferred none)).heap.size:=by simp
  refine⟨⟨by simpa using hs.sat.size,hs.sat.os,hs.sat.tape,hs.sat.output,λb hb hn=>(WZ b (by omega)).trans (hs.sat.same b hb hn),hs.sat.fin,hs.sat.inj,λid o ho=>?_,hs.sat.fresh,hs.sat.glob⟩,
   hs.le,hs.size,⟨λl r e=>?_,Ds,rfl,h2.2,λD' hD'=>?_⟩,λi hi=>G'.bR (dx.refl I) hk hz _ _ (hs.slot i hi)⟩
  .refine(hs.sat.obj id o ho).bR (dx.refl I) hk hz λb sz cap hp=>WZ b ?_;rintro rfl;exact g3 ⟨id,o,sz,cap,ho,hp⟩
  .obtain⟨q1,q2⟩:=hs.book.rnd l r e;refine⟨(WZ l ?_).trans q1,q2⟩;rintro rfl;rw[g2]at q1;cases q1
  .obtain⟨q1,q2,q3⟩:=h3 D' (by simp[hD']);refine⟨q1,(WZ D' ?_).trans q2,q3⟩;rintro rfl;exact h2.1 hD'
def yM{F:Fr}{I:Mu}{fn:Func}{R:Ending->World->Prop}:∀(ds:List Deferred) (a:Act) (w:World),a.defers=ds->dr F I st a w->
 (∀a' w',a'.tmps=a.tmps->dr F I st a' w'->∃v,(results fn a'.tmps).run P w'=.ok v w'/\R (.returned v) w')->LeavesInM F.fg 0 P fn a.tmps R ds .returning w
 |[],a,w,_,hs,h=>by
  obtain⟨v,h1,h2⟩:=h a w rfl hs;exact⟨v,h1,h2⟩
 |d::ds,a,w,hd,hs,h=>by
  obtain⟨D,w',h1,h2,h3⟩:=hs.Oo (P:=P) hd;exact⟨by simp,.inl ⟨D,w',h1,h2,yM ds { a with defers:=ds } w' rfl h3 (λa' w' e W2=>h a' w' e W2)⟩⟩
def tB.mf{f:FuncId}{fn:Func}{vf:P'}(hf:P.funcs[f]?=some fn)(hv:cfn P fn=some vf){args:List V}{U:ad}{Post:V->ad->Prop}(hlen:args.length<=vf.n)
 (h:ag P vf.n [.code vf.code] ⟨fW args,U⟩ λst=>Ret vf.res st Post):tB P f args U Post:=by
 intro I w WL Zp hr;unfold cfn at hv;cases hb:fn.body with
 |none=>simp[hb]at hv
 |some c=>
  simp only[hb,aI]at hv;subst hv;simp only at h hlen;have hl:=hr.length;refine callsIn_wide.1 (callsIn_of_wp_marks (n:=0) hf hb trivial ?_ rfl);have hs:dr ⟨w,aA I U,I,fn.ntmps,none⟩ I ⟨fW args,U⟩ { tmps:=WL.toArray++Array.replicate (fn.ntmps-WL.toArray.size) undef,defers:=[] } w:=by
   refine⟨Zp,dx.refl I,by simp;omega,⟨λ_ _ e=>by simp at e,[],rfl,.nil,by simp⟩,λi hi=>?_⟩;simp only[fW];by_cases B':i<args.length
   .have hv:args[i]?=some (args.getD i (.WC [])):=by simp[List.getD,Zq6 B']
    obtain⟨x,hx,hrx⟩:=hr.get hv;rw[Zq7,Array.getElem?_append_left (by simp;omega)];simp only[List.getElem?_toArray,hx,Option.getD_some];exact hrx
   .have hv:args.getD i (.WC [])=.WC []:=by simp[List.getD,xi (Nat.le_of_not_lt B')]
    rw[hv,Zq7,Array.getElem?_append_right (by simp;omega)];simp only[G'];refine⟨[],?_,by simp[ar]⟩;rw[Array.getElem?_replicate];split<;>rfl
  have Zq:=h ⟨w,aA I U,I,fn.ntmps,none⟩ rfl [.code c] rfl _ w ⟨I,hs⟩;refine wpIn_mono (F:=Fence.wide) Zq ?_;rintro e a' w' ⟨he,st,⟨v,v',Z',hres,E',hwk,hpost⟩,Y',W2⟩;have XV:LeavesInM Fence.wide 0 P fn a'.tmps (λe w'=>∃r Z' Y' val,e=Ending.returned val/\Post r Z'/\dx I Y'/\Sat w (aA I U) Y' Z' w'/\G' Y' (aA Y' Z') w' r val) a'.defers .returning w':=by
   refine yM (F:=⟨w,aA I U,I,fn.ntmps,none⟩) a'.defers a' w' rfl W2 λa1 w1 _ X7=>?_;obtain⟨x,hx,hrx⟩:=xI (P:=P) X7 fn hres;exact⟨x,hx,v',Z',Y',x,rfl,hpost,X7.le,X7.sat.drop E',hwk Y' _ _ _ _ X7.sat hrx⟩
  rcases he with rfl|rfl<;>exact XV
def av.mf{f:FuncId}{fn:Func}{vf:P'}(hf:P.funcs[f]?=some fn)(hv:cfn P fn=some vf)(Yj:fE P f=true){args:List V}{U:ad}{Post:V->ad->Prop}(hlen:args.length<=vf.n)
 (h:ag P vf.n [.code vf.code] ⟨fW args,U⟩ λst=>Ret vf.res st Post):av P f args U Post:=⟨Yj,.mf hf hv hlen h⟩
structure Fo(P:Program)(f:FuncId)(fn:Func)(vf:P'):Prop where
 a:P.funcs[f]?=some fn
 b:cfn P fn=some vf:=by kernel_rfl
 c:fE P f=true:=by kernel_rfl
def Fo.r{P:Program}{f:FuncId}{fn:Func}{vf:P'}(h:Fo P f fn vf){args:List V}{U:ad}{Post:V->ad->Prop}(hlen:args.length<=vf.n)
 (k:ag P vf.n [.code vf.code] ⟨fW args,U⟩ λst=>Ret vf.res st Post):av P f args U Post:=av.mf h.a h.b h.c hlen k
def Fo.q{P:Program}{f:FuncId}{fn:Func}{vf:P'}(h:Fo P f fn vf){args:List V}{U:ad}{Post:V->ad->Prop}(k:ag P vf.n [.code vf.code] ⟨fW args,U⟩ λst=>Ret vf.res st Post)
 (hlen:Nat.ble args.length vf.n=true:=by exact rfl):av P f args U Post:=h.r (Nat.le_of_ble_eq_true hlen) k
variable {P:Program} {n:Nat}
def gd(U:ad)(sz:Nat)(xa xv:V):Option ad:=
 match xa with
 |.ptr id i c=>match U id with
  |some ob=>match ob.rows[i]? with
   |some r=>match fo r c sz xv with
    |some r'=>some (C' U id ⟨ob.elem,ob.sz,ob.rows.set i r'⟩)
    |none=>none
   |none=>none
  |none=>none
 |_=>none
def YV(s:Nat->V)(U:ad):Xd->Option (Nat->V×ad)
 |.alloc e sz z=>some λid=>(.ptr id 0 0,C' U id ⟨e,sz,[z]⟩)
 |.box e sz x=>if(x.ev s).cells.length=sz/\(x.ev s).stays=true then some λid=>(.ptr id 0 0,C' U id ⟨e,sz,[x.ev s]⟩)else none
 |.gq e sz xs=>if(xs.map (·.ev s)).all (λx=>decide (x.cells.length=sz)&&x.stays)then some λid=>(.own id 0 xs.length,C' U id ⟨e,sz,xs.map (·.ev s)⟩)else none
 |.append e sz bytes xa xb=>match bC U e sz (xa.ev s),bc U sz (xb.ev s)with
  |some (base,idA),some src=>if(base.length+src.length)*(bytes+1)<=140737488355328 then
     some λid=>(.own id 0 (base.length+src.length),C' (bz U idA) id ⟨e,sz,base++src⟩)else none
  |_,_=>none
 |.mk e sz bytes z x=>match x.ev s with
  |.int .i64 m=>if 0<=m/\m.toNat*(bytes+1)<=140737488355328 then some λid=>(.own id 0 m.toNat,C' U id ⟨e,sz,List.replicate m.toNat z⟩)else none
  |_=>none
 |.appz e sz bytes z y x=>match y.ev s,x.ev s with
  |.aB,.int _ m=>if 0<m/\m.toNat*(bytes+1)<=140737488355328 then some λid=>(.own id 0 m.toNat,C' U id ⟨e,sz,List.replicate m.toNat z⟩)else none
  |_,_=>none
 |_=>none
def TO(P:Program)(dst:Option Nat)(op:Xd)(x:St)(K:St->Prop):Prop:=
 match aZ op with
 |0=>eD x.s op/\∃v,aD x.U x.s op=some v/\K ⟨aO x.s dst v,x.U⟩
 |1=>match op with
  |.call fx xs=>∃f caps v,fx.ev x.s=.fn f caps/\(∀Z1,aa x.U Z1->av P f (xs.map (·.ev x.s)++caps) Z1 (λr Z'=>r=v/\Z'=Z1))/\K ⟨aO x.s dst v,x.U⟩
  |_=>False
 |2=>match op with
  |.store sz xa xv=>∃Z',gd x.U sz (xa.ev x.s) (xv.ev x.s)=some Z'/\K ⟨aO x.s dst (.WC []),Z'⟩
  |_=>False
 |3=>∃g,YV x.s x.U op=some g/\∀id,x.U id=none->K ⟨aO x.s dst (g id).1,(g id).2⟩
 |_=>False
def T(P:Program)(i:aC)(x:St)(K:St->Prop):Prop:=
 match bg x.s i.g with
 |some true=>TO P i.dst i.op x K
 |some false=>K ⟨aO x.s i.dst (.WC []),x.U⟩
 |none=>False
def TO.mono{dst:Option Nat}{op:Xd}{x:St}{K K':St->Prop}(hk:∀x,K x->K' x)(h:TO P dst op x K):TO P dst op x K':=by
 unfold TO at*;split<;>rename_i ho<;>simp only[ho]at h
 .obtain⟨h1,v,h2,h3⟩:=h;exact⟨h1,v,h2,hk _ h3⟩
 .split at h
  .obtain⟨f,caps,v,h1,h2,h3⟩:=h;exact⟨f,caps,v,h1,h2,hk _ h3⟩
  .exact h.elim
 .split at h
  .obtain⟨Z',h1,h2⟩:=h;exact⟨Z',h1,hk _ h2⟩
  .exact h.elim
 .obtain⟨g,h1,h2⟩:=h;exact⟨g,h1,λid M'=>hk _ (h2 id M')⟩
def T.mono{i:aC}{x:St}{K K':St->Prop}(hk:∀x,K x->K' x)(h:T P i x K):T P i x K':=by
 unfold T at*;split<;>rename_i ho<;>simp only[ho]at h
 .exact h.mono hk
 .exact hk _ h
def Inf(U:ad):Prop:=∀N,∃id,N<=id/\U id=none
def Inf.C'{U:ad}(h:Inf U)(id:Nat)(o:Ob):Inf (C' U id o):=λN=>by
 obtain⟨i,h1,h2⟩:=h (max N (id+1));exact⟨i,by omega,by simp[Vc.C',show i≠id by omega,h2]⟩
def Inf.bz{U:ad}(h:Inf U)(o:Option Nat):Inf (bz U o):=λN=>by
 obtain⟨i,h1,h2⟩:=h N;refine⟨i,h1,?_⟩;cases o with
 |none=>exact h2
 |some j=>simp only[Vc.bz,del];split<;>simp_all
def fU.inf{F:Fr}{st:St}{a:Act}{w:World}(h:fU F st a w):Inf st.U:=by
 obtain⟨I,h⟩:=h;obtain⟨N,hN⟩:=h.sat.fin;intro M;refine⟨max N M,by omega,?_⟩;cases ho:st.U (max N M)with
 |none=>rfl
 |some o=>
  have:=h.sat.obj _ o ho;rw[hN _ (by omega)]at this;exact this.elim
def KD{s:Nat->V}{U:ad}(h:Inf U){op:Xd}{g:Nat->V×ad}(he:YV s U op=some g)(id:Nat):Inf (g id).2:=by
 unfold YV at he;split at he
 .simp only[aI]at he;subst he;exact h.C' _ _
 .split at he
  .simp only[aI]at he;subst he;exact h.C' _ _
  .cases he
 .split at he
  .simp only[aI]at he;subst he;exact h.C' _ _
  .cases he
 .split at he
  .split at he
   .simp only[aI]at he;subst he;exact(h.bz _).C' _ _
   .cases he
  .cases he
 .split at he
  .split at he
   .simp only[aI]at he;subst he;exact h.C' _ _
   .cases he
  .cases he
 .split at he
  .split at he
   .simp only[aI]at he;subst he;exact h.C' _ _
   .cases he
  .cases he
 .cases he
def Dl{U Z':ad}(h:Inf U){sz:Nat}{a v:V}(he:gd U sz a v=some Z'):Inf Z':=by
 unfold gd at he;split at he
 .split at he
  .split at he
   .split at he
    .simp only[aI]at he;subst he;exact h.C' _ _
    .cases he
   .cases he
  .cases he
 .cases he
def TO.inf{dst:Option Nat}{op:Xd}{x:St}{K:St->Prop}(hi:Inf x.U)(h:TO P dst op x K):TO P dst op x λx'=>Inf x'.U/\K x':=by
 unfold TO at*;split<;>rename_i ho<;>simp only[ho]at h
 .obtain⟨h1,v,h2,h3⟩:=h;exact⟨h1,v,h2,hi,h3⟩
 .split at h
  .obtain⟨f,caps,v,h1,h2,h3⟩:=h;exact⟨f,caps,v,h1,h2,hi,h3⟩
  .exact h.elim
 .split at h
  .obtain⟨Z',h1,h2⟩:=h;exact⟨Z',h1,Dl hi h1,h2⟩
  .exact h.elim
 .obtain⟨g,h1,h2⟩:=h;exact⟨g,h1,λid M'=>⟨KD hi h1 id,h2 id M'⟩⟩
def T.inf{i:aC}{x:St}{K:St->Prop}(hi:Inf x.U)(h:T P i x K):T P i x λx'=>Inf x'.U/\K x':=by
 unfold T at*;split<;>rename_i ho<;>simp only[ho]at h
 .exact h.inf hi
 .exact⟨hi,h⟩
def I2{s:Nat->V}{d:Option Nat}{v:V}{x:VX}(h:∀t,d=some t->x.Mj≠some t):x.ev (aO s d v)=x.ev s:=by
 cases d with
 |none=>rfl
 |some t=>
  cases x with
  |c _=>rfl
  |t u=>
   simp only[VX.ev,aO];have:=h t rfl;simp only[VX.Mj,ne_eq,aI]at this;rw[au this]
def rF{s s':Nat->V}{l:List VX}(h:∀x∈l,x.ev s=x.ev s'):l.map (·.ev s)=l.map (·.ev s'):=List.map_congr_left h
def qK{s s':Nat->V}{l:Option VX}(h:∀x∈l.toList,x.ev s=x.ev s'):l.map (·.ev s)=l.map (·.ev s'):=by
 cases l with
 |none=>rfl
 |some x=>simp[h x (by simp)]
def tq{s s':Nat->V}{U:ad}{op:Xd}(h:∀x∈op.xs,x.ev s=x.ev s'):aD U s op=aD U s' op/\(eD s op↔eD s' op):=by
 cases op<;>simp only[Xd.xs,dJ,List.not_mem_nil,or_false,forall_eq_or_imp,forall_eq,dH]at h<;>
  simp only[aD,eD,h,and_true,and_self]
 case slice YY x lo hi mx=>
  rw[qK (l:=lo) (λy hy=>h.2 y (.inl (.inl hy))),qK (l:=hi) (λy hy=>h.2 y (.inl (.inr hy))),qK (l:=mx) (λy hy=>h.2 y (.inr hy))]
 case sliceS x lo hi=>
  rw[qK (l:=lo) (λy hy=>h.2 y (.inl hy)),qK (l:=hi) (λy hy=>h.2 y (.inr hy))]
 case mkfn f xs=>rw[rF h]
 case more m xs=>
  by_cases hb:∃f,m=.mkB f
  .obtain⟨f,rfl⟩:=hb;have e:=rF h;cases xs with
   |nil=>rfl
   |cons x xs=>cases xs<;>exact congrArg (λl=>some (V.bm f l)) e
  cases xs with
  |nil=>cases m<;>rfl
  |cons x xs=>
   have hx:=h x (by simp);cases xs with
   |nil=>cases m<;>first|rfl|exact absurd ⟨_,rfl⟩ hb|simp only[hx]
   |cons y ys=>cases m<;>first|rfl|exact absurd ⟨_,rfl⟩ hb
 case build z ps=>
  have:(ps.map λp=>(p.1,p.2.1,p.2.2.ev s))=ps.map λp=>(p.1,p.2.1,p.2.2.ev s'):=List.map_congr_left λp hp=>by
   rw[h _ (gb.2 ⟨p,hp,rfl⟩)]
  rw[this]
def ga{s s':Nat->V}{U:ad}{op:Xd}(h:∀x∈op.xs,x.ev s=x.ev s'):YV s U op=YV s' U op:=by
 cases op<;>simp only[Xd.xs,dJ,List.not_mem_nil,or_false,forall_eq_or_imp,forall_eq,dH]at h<;>
  simp only[YV,h]
 case gq e sz xs=>rw[rF h]
def Cj{s:Nat->V}{U Z':ad}{op:Xd}(h:lk op=true):aD U s op=aD Z' s op:=by
 cases op
 case more m xs=>
  cases xs with
  |nil=>cases m<;>rfl
  |cons x xs=>cases xs<;>cases m<;>rfl
 all_goals first|rfl|simp[lk]at h
variable {P:Program} {n:Nat}
def apart_spec{A B:aC}(h:DW A B=true):(∀d,A.dst=some d->d∉B.l5)/\(∀d,B.dst=some d->d∉A.l5)/\(∀d,A.dst=some d->B.dst≠some d):=by
 simp only[DW,Ba]at h;obtain⟨h1,h2⟩:=h;refine⟨λd hd=>?_,λd hd=>?_,λd hd=>?_⟩
 .rw[hd]at h1;simp at h1;exact h1.1
 .rw[hd]at h2;simpa using h2
 .rw[hd]at h1;simp at h1;exact h1.2
def F4{s:Nat->V}{a b:Option Nat}{u v:V}(h:∀d,a=some d->b≠some d):aO (aO s a u) b v=aO (aO s b v) a u:=by
 cases a with
 |none=>rfl
 |some x=>
  cases b with
  |none=>rfl
  |some y=>
   have WZ:y≠x:=λe=>h x rfl (by rw[e]);funext i;simp only[aO];by_cases h1:i=y<;>by_cases h2:i=x<;>simp_all
def D8{i:aC}{x:VX}(hx:x∈i.op.xs){t:Nat}(ht:x.Mj=some t):t∈i.l5:=
 List.mem_filterMap.2 ⟨x,List.mem_append_left _ hx,ht⟩
def iF{i:aC}{d:Option Nat}{v:V}(h:∀t,d=some t->t∉i.l5)(s:Nat->V):∀x∈i.op.xs,x.ev (aO s d v)=x.ev s:=
 λ_ hx=>I2 λt ht e=>h t ht (D8 hx e)
def cu{i:aC}{d:Option Nat}{v:V}(h:∀t,d=some t->t∉i.l5)(s:Nat->V):bg (aO s d v) i.g=bg s i.g:=by
 cases hg:i.g with
 |none=>rfl
 |some g=>
  obtain⟨x,b⟩:=g;have:x.ev (aO s d v)=x.ev s:=I2 λt ht e=>h t ht (List.mem_filterMap.2 ⟨x,List.mem_append_right _ (by simp[hg]),e⟩);simp only[bg,this]
def QO(P:Program)(op:Xd)(s:Nat->V)(U:ad)(v:V):Prop:=
 match aZ op with
 |0=>eD s op/\aD U s op=some v
 |1=>match op with
  |.call fx xs=>∃f caps,fx.ev s=.fn f caps/\∀Z1,aa U Z1->av P f (xs.map (·.ev s)++caps) Z1 (λr Z'=>r=v/\Z'=Z1)
  |_=>False
 |_=>False
def QY(P:Program)(i:aC)(s:Nat->V)(U:ad)(v:V):Prop:=
 (bg s i.g=some true/\QO P i.op s U v)\/(bg s i.g=some false/\v=.WC [])
def cD{i:aC}(hq:gi i=true){x:St}{K:St->Prop}:T P i x K↔∃v,QY P i x.s x.U v/\K ⟨aO x.s i.dst v,x.U⟩:=by
 simp only[gi,YX]at hq;unfold T QY;cases hw:bg x.s i.g with
 |none=>simp
 |some b=>
  cases b
  .simp
  .simp only[true_and,aI,Bool.true_eq_false,false_and,or_false];unfold TO QO;have:aZ i.op=0\/aZ i.op=1:=by omega
   rcases this with h0|h0<;>simp only[h0]
   .constructor
    .rintro⟨h1,v,h2,h3⟩;exact⟨v,⟨h1,h2⟩,h3⟩
    .rintro⟨v,⟨h1,h2⟩,h3⟩;exact⟨h1,v,h2,h3⟩
   .cases WO:i.op<;>simp[aZ,WO]at h0|-;constructor
    .rintro⟨f,caps,h1,v,h2,h3⟩;exact⟨v,⟨f,caps,h1,h2⟩,h3⟩
    .rintro⟨v,⟨f,caps,h1,h2⟩,h3⟩;exact⟨f,caps,h1,v,h2,h3⟩
def wQ{op:Xd}{s s':Nat->V}{U:ad}{v:V}(h:∀x∈op.xs,x.ev s=x.ev s')(hq:QO P op s U v):QO P op s' U v:=by
 unfold QO at*;by_cases h0:aZ op=0
 .obtain⟨h1,h2⟩:=tq (U:=U) h;simp only[h0]at hq|-;exact⟨h2.1 hq.1,h1▸hq.2⟩
 .by_cases h1:aZ op=1
  .simp only[h1]at hq|-;cases op<;>simp only[]at hq<;>first|exact hq.elim|skip
   rename_i fx xs;obtain⟨f,caps,g1,g2⟩:=hq;refine⟨f,caps,?_,?_⟩
   .rw[<-h fx (by simp[Xd.xs])];exact g1
   .rw[<-rF (s:=s) (s':=s') λx hx=>h x (by simp[Xd.xs,hx])];exact g2
  .exfalso;revert hq;split<;>simp_all
def gr{i:aC}{s:Nat->V}{U:ad}{v u:V}{d:Option Nat}(h:∀t,d=some t->t∉i.l5):QY P i (aO s d u) U v↔QY P i s U v:=by
 unfold QY;rw[cu h];constructor
 .rintro(⟨h1,h2⟩|h1)
  .exact .inl ⟨h1,wQ (iF h s) h2⟩
  .exact .inr h1
 .rintro(⟨h1,h2⟩|h1)
  .exact .inl ⟨h1,wQ (λx hx=>(iF h s x hx).symm) h2⟩
  .exact .inr h1
def mu{op:Xd}(h:lk op=true):aZ op=0:=by
 cases op
 case more m xs=>cases m<;>simp[lk,aZ]at h|-
 all_goals simp[lk,aZ]at h|-
def kE{i:aC}(hf:lk i.op=true){s:Nat->V}{U Z':ad}{v:V}(h:QY P i s U v):QY P i s Z' v:=by
 rcases h with⟨h1,h2⟩|h1
 .refine .inl ⟨h1,?_⟩;unfold QO at*;simp only[mu hf]at*;exact⟨h2.1,by rw[<-Cj (U:=U) hf];exact h2.2⟩
 .exact .inr h1
def M0{i:aC}(hf:lk i.op=true){s:Nat->V}{U:ad}{v v':V}(h:QY P i s U v)(h':QY P i s U v'):v=v':=by
 rcases h with⟨h1,h2⟩|⟨h1,h2⟩<;>rcases h' with⟨g1,g2⟩|⟨g1,g2⟩
 .unfold QO at*;simp only[mu hf]at*;have:=h2.2.symm.trans g2.2;simpa using this
 .rw[h1]at g1;cases g1
 .rw[h1]at g1;cases g1
 .rw[h2,g2]
def ig{i:aC}(he:ue i=true){x:St}{K:St->Prop}:T P i x K↔
 (bg x.s i.g=some false/\K ⟨aO x.s i.dst (.WC []),x.U⟩)\/
 (bg x.s i.g=some true/\((∃sz xa xv Z',i.op=.store sz xa xv/\gd x.U sz (xa.ev x.s) (xv.ev x.s)=some Z'/\K ⟨aO x.s i.dst (.WC []),Z'⟩)\/
   (aZ i.op=3/\∃g,YV x.s x.U i.op=some g/\∀id,x.U id=none->K ⟨aO x.s i.dst (g id).1,(g id).2⟩))):=by
 unfold T;cases hw:bg x.s i.g with
 |none=>simp
 |some b=>
  cases b
  .simp
  .simp only[aI,Bool.true_eq_false,false_and,false_or,true_and];unfold TO;simp only[ue,lG,beq_iff_eq]at he;rcases he with h0|h0<;>simp only[h0]
   .cases WO:i.op<;>simp[aZ,WO]at h0|-;constructor
    .rintro⟨Z',h1,h2⟩;exact⟨_,_,_,⟨rfl,rfl,rfl⟩,Z',h1,h2⟩
    .rintro⟨_,_,_,⟨rfl,rfl,rfl⟩,Z',h1,h2⟩;exact⟨Z',h1,h2⟩
   .have:∀sz xa xv,i.op≠.store sz xa xv:=λ_ _ _ e=>by rw[e]at h0;simp[aZ]at h0
    simp[this]
def lF(s:Nat->V):Xd->Option Nat
 |.load _ _ x=>match x.ev s with
   |.ptr id _ _=>some id
   |_=>none
 |.idxA _ x _=>match x.ev s with
   |.own id _ _=>some id
   |_=>none
 |.slice _ x _ _ _=>match x.ev s with
   |.own id _ _=>some id
   |_=>none
 |.bstr x=>match x.ev s with
   |.own id _ _=>some id
   |_=>none
 |_=>none
def DH{s:Nat->V}{U Z':ad}{op:Xd}(h:∀j,lF s op=some j->U j=Z' j):aD U s op=aD Z' s op:=by
 cases op<;>try rfl
 case more m xs=>
  cases xs with
  |nil=>cases m<;>rfl
  |cons x xs=>cases xs<;>cases m<;>rfl
 case load agg sz x=>
  simp only[lF]at h;simp only[aD,bO];split
  .rename_i id i k hx;simp only[hx,aI,forall_eq']at h;rw[h]
  .rfl
  .rfl
 case idxA YY x i=>
  simp only[lF]at h;simp only[aD];generalize x.ev s=xv at*;generalize i.ev s=iv at*;cases xv<;>try (cases iv<;>rfl)
  case own id off len=>
   simp only[aI,forall_eq']at h;cases iv<;>try rfl
   simp only[bp,h]
 case bstr x=>
  simp only[lF]at h;simp only[aD];generalize x.ev s=xv at*;cases xv<;>try rfl
  case own id off len=>
   simp only[aI,forall_eq']at h;simp only[kJ,h]
 case slice YY x lo hi mx=>
  simp only[lF]at h;simp only[aD,iE];split
  .rename_i id off len hx;simp only[hx,aI,forall_eq']at h;have:zV U id YY=zV Z' id YY:=by simp only[zV,h]
   simp only[this]
  .rfl
  .rfl
  .rfl
def DE{s:Nat->V}{U:ad}{op:Xd}{v:V}(hv:aD U s op=some v){j:Nat}(hj:lF s op=some j):U j≠none:=by
 intro hn;cases op<;>simp only[lF,reduceCtorEq]at hj
 case load agg sz x=>
  split at hj
  .rename_i id i k hx;simp only[aI]at hj;subst hj;simp[aD,bO,hx,hn]at hv
  .cases hj
 case idxA YY x i=>
  split at hj
  .rename_i id off len hx;simp only[aI]at hj;subst hj;simp only[aD]at hv;rw[hx]at hv;generalize i.ev s=iv at hv;cases iv<;>simp[bp,hn]at hv
  .cases hj
 case bstr x=>
  split at hj
  .rename_i id off len hx;simp only[aI]at hj;subst hj;simp[aD,kJ,hx,hn]at hv
  .cases hj
 case slice YY x lo hi mx=>
  split at hj
  .rename_i id off len hx;simp only[aI]at hj;subst hj;simp only[aD,iE,hx,zV,hn]at hv;split at hv
   .simp at hv
   .cases hv
  .cases hj
def ux{i:aC}(h:mkI i=true):aZ i.op=3/\∀s U g,YV s U i.op=some g->∀id j,j≠id->(g id).2 j=U j:=by
 unfold mkI at h;split at h
 .rename_i WO;refine⟨by rw[WO];rfl,λs U g hg id j hj=>?_⟩;rw[WO]at hg;simp only[YV,aI]at hg;subst hg;simp[Vc.C',hj]
 .rename_i WO;refine⟨by rw[WO];rfl,λs U g hg id j hj=>?_⟩;rw[WO]at hg;simp only[YV]at hg;split at hg
  .simp only[aI]at hg;subst hg;simp[Vc.C',hj]
  .cases hg
 .rename_i WO;refine⟨by rw[WO];rfl,λs U g hg id j hj=>?_⟩;rw[WO]at hg;simp only[YV]at hg;split at hg
  .simp only[aI]at hg;subst hg;simp[Vc.C',hj]
  .cases hg
 .rename_i WO;refine⟨by rw[WO];rfl,λs U g hg id j hj=>?_⟩;rw[WO]at hg;simp only[YV]at hg;split at hg
  .split at hg
   .simp only[aI]at hg;subst hg;simp[Vc.C',hj]
   .cases hg
  .cases hg
 .cases h
def B1{i:aC}(h:GB i=true):aZ i.op=3/\∀s U g,YV s U i.op=some g->∀id j,j≠id->(g id).2 j=U j\/(g id).2 j=none:=by
 by_cases hm:mkI i=true
 .exact⟨(ux hm).1,λs U g hg id j hj=>.inl ((ux hm).2 s U g hg id j hj)⟩
 .unfold GB at h;unfold mkI at hm;cases WO:i.op<;>rw[WO]at h hm<;>simp at h hm;refine⟨rfl,λs U g hg id j hj=>?_⟩;simp only[YV]at hg;split at hg
  .split at hg
   .simp only[aI]at hg;subst hg;rename_i idA _ _ _ _ _;simp only[Vc.C',au hj];rename_i base idA src _ _ _;cases idA with
    |none=>exact .inl rfl
    |some a=>
     simp only[bz,del];split
     .exact .inr rfl
     .exact .inl rfl
   .cases hg
  .cases hg
def zh{i:aC}(hp:kO i=true){s:Nat->V}{U Z':ad}(h:∀j,lF s i.op=some j->U j=Z' j){v:V}(hq:QY P i s U v):QY P i s Z' v:=by
 simp only[kO,beq_iff_eq]at hp;rcases hq with⟨h1,h2⟩|h1
 .refine .inl ⟨h1,?_⟩;unfold QO at*;simp only[hp]at*;exact⟨h2.1,by rw[<-DH h];exact h2.2⟩
 .exact .inr h1
def zm{i:aC}(hp:kO i=true){s:Nat->V}{U:ad}{v v':V}(h:QY P i s U v)(h':QY P i s U v'):v=v':=by
 simp only[kO,beq_iff_eq]at hp;rcases h with⟨h1,h2⟩|⟨h1,h2⟩<;>rcases h' with⟨g1,g2⟩|⟨g1,g2⟩
 .unfold QO at*;simp only[hp]at*;have:=h2.2.symm.trans g2.2;simpa using this
 .rw[h1]at g1;cases g1
 .rw[h1]at g1;cases g1
 .rw[h2,g2]
def uD{i:aC}(hp:kO i=true){s:Nat->V}{U:ad}{v:V}(h:QY P i s U v)(hw:bg s i.g=some true){j:Nat}(hj:lF s i.op=some j):U j≠none:=by
 simp only[kO,beq_iff_eq]at hp;rcases h with⟨_,h2⟩|⟨h1,_⟩
 .unfold QO at h2;simp only[hp]at h2;exact DE h2.2 hj
 .rw[hw]at h1;cases h1
def zG{i:aC}{s:Nat->V}{U Z':ad}{v:V}(h:QY P i s U v)(hw:bg s i.g≠some true):QY P i s Z' v:=by
 rcases h with⟨h1,_⟩|h1
 .exact absurd h1 hw
 .exact .inr h1
def IU{i:aC}(hp:kO i=true){s:Nat->V}{U Z':ad}{id:Nat}(M':U id=none)(WY:∀j,j≠id->Z' j=U j){v:V}(h:QY P i s U v):QY P i s Z' v:=by
 by_cases hw:bg s i.g=some true
 .refine zh hp (λj hj=>?_) h;have:=uD hp h hw hj;rw[WY j (λe=>this (e▸M'))]
 .exact zG h hw
def GQ{i:aC}(hq:gi i=true){s:Nat->V}{U Z':ad}{id:Nat}(M':U id=none)(WY:∀j,j≠id->Z' j=U j){v:V}(h:QY P i s U v):QY P i s Z' v:=by
 by_cases hp:kO i=true
 .exact IU hp M' WY h
 .have E':aa U Z':=λj o hj=>by rw[WY j (λe=>by rw[e,M']at hj;cases hj)];exact hj
  rcases h with⟨h1,h2⟩|h1
  .refine .inl ⟨h1,?_⟩;have hk:aZ i.op=1:=by
    simp only[gi,YX]at hq;simp only[kO,beq_iff_eq]at hp;omega
   unfold QO at*;simp only[hk]at*;split at h2
   .obtain⟨f,caps,g1,g2⟩:=h2;exact⟨f,caps,g1,λZ1 hs=>g2 Z1 (E'.trans hs)⟩
   .exact h2.elim
  .exact .inr h1
def Cn{i:aC}(h:mkI i=true){s:Nat->V}{U:ad}{g:Nat->V×ad}(hg:YV s U i.op=some g):
 ∃(vf:Nat->V) (ob:Ob),(∀id,g id=(vf id,Vc.C' U id ob))/\∀Z',YV s Z' i.op=some λid=>(vf id,Vc.C' Z' id ob):=by
 unfold mkI at h;split at h
 .rename_i WO;rw[WO]at hg|-;simp only[YV,aI]at hg;subst hg;exact⟨_,_,λ_=>rfl,λ_=>rfl⟩
 .rename_i WO;rw[WO]at hg|-;simp only[YV]at hg|-;split at hg
  .rename_i hc;simp only[aI]at hg;subst hg;exact⟨_,_,λ_=>rfl,λZ'=>by rw[ak hc]⟩
  .cases hg
 .rename_i WO;rw[WO]at hg|-;simp only[YV]at hg|-;split at hg
  .rename_i hc;simp only[aI]at hg;subst hg;exact⟨_,_,λ_=>rfl,λZ'=>by rw[ak hc]⟩
  .cases hg
 .rename_i WO;rw[WO]at hg|-;simp only[YV]at hg|-;split at hg
  .rename_i hx;split at hg
   .rename_i hc;simp only[aI]at hg;subst hg;exact⟨_,_,λ_=>rfl,λZ'=>by rw[ak hc]⟩
   .cases hg
  .cases hg
 .cases h
def oN{op:Xd}(hk:aZ op=3){sz:Nat}{xa xv:VX}(WO:op=.store sz xa xv):False:=by rw[WO]at hk;simp[aZ]at hk
def ym{U:ad}{a b:Nat}{oa ob:Ob}(h:a≠b):Vc.C' (Vc.C' U a oa) b ob=Vc.C' (Vc.C' U b ob) a oa:=by
 funext i;unfold Vc.C';by_cases h1:i=a<;>by_cases h2:i=b<;>simp_all
def Ia{i:aC}(h:GB i=true){s:Nat->V}{U:ad}{g:Nat->V×ad}(hg:YV s U i.op=some g):
 ∃(vf:Nat->V) (ob:Ob) (d:Option Nat),(∀id,g id=(vf id,Vc.C' (bz U d) id ob))/\(∀a,d=some a->U a≠none)/\
  ∀j o,U j=none->YV s (Vc.C' U j o) i.op=some λid=>(vf id,Vc.C' (bz (Vc.C' U j o) d) id ob):=by
 by_cases hm:mkI i=true
 .obtain⟨vf,ob,h1,h2⟩:=Cn hm hg;exact⟨vf,ob,none,h1,by simp,λj o _=>h2 _⟩
 .unfold GB at h;unfold mkI at hm;cases WO:i.op<;>rw[WO]at h hm hg<;>simp at h hm;rename_i e sz bytes xa xb;simp only[YV]at hg|-;split at hg
  .rename_i base idA src e1 e2;split at hg
   .rename_i hc;simp only[aI]at hg;subst hg;have hlive:∀a,idA=some a->U a≠none:=λa ha=>by
     subst ha;unfold bC at e1;split at e1
     .split at e1
      .rename_i ob XL;split at e1
       .simp only[aI,Prod.mk.injEq]at e1;rw[<-e1.2,XL];simp
       .cases e1
      .cases e1
     .simp at e1
     .cases e1
    refine⟨_,_,idA,λ_=>rfl,hlive,λj o hj=>?_⟩;have WZ:∀id ob,U id=some ob->Vc.C' U j o id=some ob:=λid ob h=>by
     have:id≠j:=λe=>by rw[e,hj]at h;cases h
     simp[Vc.C',this,h]
    have d1:bC (Vc.C' U j o) e sz (xa.ev s)=some (base,idA):=by
     rw[<-e1];unfold bC at e1|-;split at e1
     .rename_i id _ _ _;split at e1
      .rename_i ob XL;simp only[XL,WZ _ _ XL]
      .cases e1
     .rfl
     .cases e1
    have d2:bc (Vc.C' U j o) sz (xb.ev s)=some src:=by
     rw[<-e2];unfold bc at e2|-;split at e2
     .split at e2
      .rename_i ob XL;simp only[XL,WZ _ _ XL]
      .cases e2
     all_goals first|rfl|cases e2
    simp only[d1,d2];rw[ak hc]
   .cases hg
  .cases hg
def I3{A B:aC}(hp:nP A B=true){x:St}(hi:Inf x.U){K:St->Prop}(h:T P A x λx'=>T P B x' K):T P B x λx'=>T P A x' K:=by
 simp only[nP,Ba,lG]at hp;obtain⟨hap,hk⟩:=hp;obtain⟨h1,h2,h3⟩:=apart_spec hap;have YZ:∀(s:Nat->V) u v,aO (aO s A.dst u) B.dst v=aO (aO s B.dst v) A.dst u:=λs u v=>F4 h3;rcases hk with((((⟨qa,qb⟩|⟨ea,sb⟩)|⟨sa,eb⟩)|⟨pa,mb⟩)|⟨ma,pb⟩)|⟨ma,mb⟩
 .rw[cD qa]at h;obtain⟨u,hu,h⟩:=h;rw[cD qb]at h;obtain⟨v,hv,h⟩:=h;rw[cD qb];refine⟨v,(gr h1).1 hv,?_⟩;rw[cD qa];refine⟨u,(gr h2).2 hu,?_⟩;simp only at h|-;rw[<-YZ];exact h
 .have qb:gi B=true:=by simp[gi,mu sb]
  rw[ig ea]at h;rcases h with⟨hw,h⟩|⟨hw,⟨sz,xa,xv,Z',WO,hs,h⟩|⟨hk3,g,hg,h⟩⟩
  .rw[cD qb]at h;obtain⟨v,hv,h⟩:=h;rw[cD qb];refine⟨v,(gr h1).1 hv,?_⟩;rw[ig ea];refine .inl ⟨by rw[cu h2];exact hw,?_⟩;simp only at h|-;rw[<-YZ];exact h
  .rw[cD qb]at h;obtain⟨v,hv,h⟩:=h;rw[cD qb];refine⟨v,kE sb ((gr h1).1 hv),?_⟩;rw[ig ea];refine .inr ⟨by rw[cu h2];exact hw,.inl ⟨sz,xa,xv,Z',WO,?_,?_⟩⟩
   .simp only;rw[iF h2 x.s xa (by simp[WO,Xd.xs]),iF h2 x.s xv (by simp[WO,Xd.xs])];exact hs
   .simp only at h|-;rw[<-YZ];exact h
  .obtain⟨id0,_,hid0⟩:=hi 0;have h0:=h id0 hid0;rw[cD qb]at h0;obtain⟨v,hv,_⟩:=h0;have hvx:QY P B x.s x.U v:=kE sb ((gr h1).1 hv);rw[cD qb];refine⟨v,hvx,?_⟩;rw[ig ea];refine .inr ⟨by rw[cu h2];exact hw,.inr ⟨hk3,g,?_,λid M'=>?_⟩⟩
   .rw[<-hg];exact ga (iF h2 x.s)
   .have h4:=h id M';rw[cD qb]at h4;obtain⟨v',hv',h4⟩:=h4;have hvx':QY P B x.s x.U v':=kE sb ((gr h1).1 hv');have:=M0 sb hvx hvx';subst this;simp only at h4|-;rw[<-YZ];exact h4
 .have qa:gi A=true:=by simp[gi,mu sa]
  rw[cD qa]at h;obtain⟨u,hu,h⟩:=h;rw[ig eb]at h;rw[ig eb];rcases h with⟨hw,h⟩|⟨hw,⟨sz,xa,xv,Z',WO,hs,h⟩|⟨hk3,g,hg,h⟩⟩
  .refine .inl ⟨by rw[<-cu h1];exact hw,?_⟩;rw[cD qa];refine⟨u,(gr h2).2 hu,?_⟩;simp only at h|-;rw[<-YZ];exact h
  .refine .inr ⟨by rw[<-cu h1];exact hw,.inl ⟨sz,xa,xv,Z',WO,?_,?_⟩⟩
   .simp only at hs;rw[iF h1 x.s xa (by simp[WO,Xd.xs]),iF h1 x.s xv (by simp[WO,Xd.xs])]at hs;exact hs
   .rw[cD qa];refine⟨u,(gr h2).2 (kE sa hu),?_⟩;simp only at h|-;rw[<-YZ];exact h
  .refine .inr ⟨by rw[<-cu h1];exact hw,.inr ⟨hk3,g,?_,λid M'=>?_⟩⟩
   .rw[<-hg];exact(ga (iF h1 x.s)).symm
   .rw[cD qa];refine⟨u,(gr h2).2 (kE sa hu),?_⟩;have h4:=h id M';simp only at h4|-;rw[<-YZ];exact h4
 .have qa:gi A=true:=pa;obtain⟨hk3,hfr⟩:=ux mb;have eb:ue B=true:=by simp[ue,hk3]
  rw[cD qa]at h;obtain⟨u,hu,h⟩:=h;rw[ig eb]at h;rw[ig eb];rcases h with⟨hw,h⟩|⟨hw,⟨sz,xa,xv,Z',WO,hs,h⟩|⟨_,g,hg,h⟩⟩
  .refine .inl ⟨by rw[<-cu h1];exact hw,?_⟩;rw[cD qa];refine⟨u,(gr h2).2 hu,?_⟩;simp only at h|-;rw[<-YZ];exact h
  .rw[WO]at hk3;simp[aZ]at hk3
  .refine .inr ⟨by rw[<-cu h1];exact hw,.inr ⟨hk3,g,?_,λid M'=>?_⟩⟩
   .rw[<-hg];exact(ga (iF h1 x.s)).symm
   .rw[cD qa];refine⟨u,(gr h2).2 (GQ qa M' (λj hj=>hfr _ _ g hg id j hj) hu),?_⟩;have h4:=h id M';simp only at h4|-;rw[<-YZ];exact h4
 .have qb:gi B=true:=by simp only[kO,beq_iff_eq]at pb;simp[gi,pb]
  obtain⟨hk3,hfr⟩:=B1 ma;have ea:ue A=true:=by simp[ue,hk3]
  rw[ig ea]at h;rcases h with⟨hw,h⟩|⟨hw,⟨sz,xa,xv,Z',WO,hs,h⟩|⟨_,g,hg,h⟩⟩
  .rw[cD qb]at h;obtain⟨v,hv,h⟩:=h;rw[cD qb];refine⟨v,(gr h1).1 hv,?_⟩;rw[ig ea];refine .inl ⟨by rw[cu h2];exact hw,?_⟩;simp only at h|-;rw[<-YZ];exact h
  .rw[WO]at hk3;simp[aZ]at hk3
  ·
   obtain⟨id0,ZO,hid0⟩:=hi ((lF x.s B.op).getD 0+1);have h0:=h id0 hid0;rw[cD qb]at h0;obtain⟨v,hv,_⟩:=h0;have hv1:=(gr h1).1 hv;have hvx:QY P B x.s x.U v:=by
    by_cases hwB:bg x.s B.g=some true
    .refine zh pb (λj hj=>?_) hv1;have hn:=uD pb hv1 hwB hj;refine(hfr _ _ g hg id0 j (λe=>?_)).resolve_right hn;rw[hj]at ZO;simp at ZO;omega
    .exact zG hv1 hwB
   rw[cD qb];refine⟨v,hvx,?_⟩;rw[ig ea];refine .inr ⟨by rw[cu h2];exact hw,.inr ⟨hk3,g,?_,λid M'=>?_⟩⟩
   .rw[<-hg];exact ga (iF h2 x.s)
   .have h4:=h id M';rw[cD qb]at h4;obtain⟨v',hv',h4⟩:=h4;have hv2:=(gr h1).1 hv';have hv3:QY P B x.s x.U v':=by
     by_cases hwB:bg x.s B.g=some true
     .refine zh pb (λj hj=>?_) hv2;have hn:=uD pb hv2 hwB hj;have hs:=uD pb hvx hwB hj;exact(hfr _ _ g hg id j (λe=>hs (e▸M'))).resolve_right hn
     .exact zG hv2 hwB
    have:=zm pb hv3 hvx;subst this;simp only at h4|-;rw[<-YZ];exact h4
 .have ka:=(B1 ma).1;have kb:=(ux mb).1;have ea:ue A=true:=by simp[ue,ka]
  have eb:ue B=true:=by simp[ue,kb]
  rw[ig ea]at h;rw[ig eb];rcases h with⟨hw,h⟩|⟨hw,⟨sz,xa,xv,Z',WO,_⟩|⟨_,g,hg,h⟩⟩
  .rw[ig eb]at h;rcases h with⟨hw2,h⟩|⟨hw2,⟨sz,xa,xv,Z',WO,_⟩|⟨_,g2,hg2,h⟩⟩
   .refine .inl ⟨by rw[<-cu h1];exact hw2,?_⟩;rw[ig ea];refine .inl ⟨by rw[cu h2];exact hw,?_⟩;simp only at h|-;rw[<-YZ];exact h
   .exact(oN kb WO).elim
   .refine .inr ⟨by rw[<-cu h1];exact hw2,.inr ⟨kb,g2,by rw[<-hg2];exact(ga (iF h1 x.s)).symm,λid M'=>?_⟩⟩;rw[ig ea];refine .inl ⟨by rw[cu h2];exact hw,?_⟩;have h4:=h id M';simp only at h4|-;rw[<-YZ];exact h4
  .exact(oN ka WO).elim
  .obtain⟨vA,oA,dA,hA,hdA,hA'⟩:=Ia ma hg;obtain⟨id0,_,hid0⟩:=hi 0;have h0:=h id0 hid0;rw[ig eb]at h0;rcases h0 with⟨hw2,_⟩|⟨hw2,⟨sz,xa,xv,Z',WO,_⟩|⟨_,g2,hg2,_⟩⟩
   .refine .inl ⟨by rw[<-cu h1];exact hw2,?_⟩;rw[ig ea];refine .inr ⟨by rw[cu h2];exact hw,.inr ⟨ka,g,by rw[<-hg];exact ga (iF h2 x.s),λid M'=>?_⟩⟩;have h4:=h id M';rw[ig eb]at h4;rcases h4 with⟨_,h4⟩|⟨hw3,_⟩
    .simp only at h4|-;rw[<-YZ];exact h4
    .exfalso;have e1:=cu (v:=(g id).1) h1 (s:=x.s);have e2:=cu (v:=(g id0).1) h1 (s:=x.s);simp only at hw2 hw3;rw[e1]at hw3;rw[e2]at hw2;rw[hw3]at hw2;cases hw2
   .exact(oN kb WO).elim
   .have hg2x:YV x.s (g id0).2 B.op=some g2:=by rw[<-hg2];exact(ga (iF h1 x.s)).symm
    obtain⟨vB,oB,hB,hB'⟩:=Cn mb hg2x;refine .inr ⟨by rw[<-cu h1];exact hw2,.inr ⟨kb,_,hB' x.U,λidB hidB=>?_⟩⟩;rw[ig ea];refine .inr ⟨by rw[cu h2];exact hw,.inr ⟨ka,λid=>(vA id,Vc.C' (bz (Vc.C' x.U idB oB) dA) id oA),?_,λidA hidA=>?_⟩⟩
    .rw[<-hA' idB oB hidB];exact ga (iF h2 x.s)
    .have WZ:idA≠idB:=λe=>by subst e;simp[Vc.C']at hidA
     have hidA':x.U idA=none:=by simpa[Vc.C',WZ]using hidA
     have h4:=h idA hidA';rw[ig eb]at h4;rw[hA idA]at h4;rcases h4 with⟨hw3,_⟩|⟨_,⟨sz,xa,xv,Z',WO,_⟩|⟨_,g3,hg3,h4⟩⟩
     .exfalso;have e1:=cu (v:=vA idA) h1 (s:=x.s);have e2:=cu (v:=(g id0).1) h1 (s:=x.s);simp only at hw2 hw3;rw[e1]at hw3;rw[e2]at hw2;rw[hw3]at hw2;cases hw2
     .exact(oN kb WO).elim
     .have e3:YV x.s (Vc.C' (bz x.U dA) idA oA) B.op=some g3:=by rw[<-hg3];exact(ga (iF h1 x.s)).symm
      rw[hB' (Vc.C' (bz x.U dA) idA oA)]at e3;simp only[aI]at e3;subst e3;have WK:∀i,x.U i=none->bz x.U dA i=none:=λi hi=>by
       cases dA with
       |none=>exact hi
       |some a=>simp only[bz,del];split<;>first|rfl|exact hi
      have h5:=h4 idB (by simp[Vc.C',WZ.symm,WK _ hidB]);have hsw:bz (Vc.C' x.U idB oB) dA=Vc.C' (bz x.U dA) idB oB:=by
       cases dA with
       |none=>rfl
       |some a=>
        funext i;have hab:a≠idB:=λe=>hdA a rfl (by rw[e];exact hidB);simp only[bz,del,Vc.C'];by_cases e1:i=a
        .have hib:i≠idB:=λe=>hab (e1▸e);simp[e1,hab]
        .by_cases e2:i=idB<;>simp[e1,e2,Ne.symm hab]
      simp only at h5|-;rw[<-YZ,hsw,<-ym WZ];exact h5
variable {P:Program} {n:Nat}
def T.exists{i:aC}{x:St}{K:St->Prop}(hi:Inf x.U)(h:T P i x K):∃x',K x':=by
 unfold T at h;split at h
 .unfold TO at h;split at h
  .obtain⟨_,v,_,h⟩:=h;exact⟨_,h⟩
  .split at h
   .obtain⟨_,_,v,_,_,h⟩:=h;exact⟨_,h⟩
   .exact h.elim
  .split at h
   .obtain⟨_,_,h⟩:=h;exact⟨_,h⟩
   .exact h.elim
  .obtain⟨g,_,h⟩:=h;obtain⟨id,_,M'⟩:=hi 0;exact⟨_,h id M'⟩
  .exact h.elim
 .exact⟨_,h⟩
 .exact h.elim
def zZ{F:Fr}(hn:F.n=n){o:Oper}{all:Array Oper}{x:St}{K:St->Prop}{a:Act}{w:World}(h:T P (cW P n all o) x K)(hs:fU F x a w)
 {next:Act->World->Prop}{Q':Exit->Act->World->Prop}(WN:∀x' a' w',fU F x' a' w'->K x'->next a' w'):
 if Region.wanted o (yielded all a.tmps)then Xb P n o.op≠.bad/\o.wp P a w next Q' else next (a.put o.dst undef) w:=by
 subst hn;obtain⟨I,hs⟩:=hs;unfold T at h;cases hw:bg x.s (cW P F.n all o).g with
 |none=>simp only[hw]at h
 |some b=>
  have hwant:=uo (P:=P) hs all o hw;rw[hwant];simp only[hw]at h;cases b
  .simp only[fO,if_false]at h|-;exact WN _ _ _ ⟨I,hs.pure (d:=o.dst) (by simp only[G'];exact⟨[],rfl,by simp[ar]⟩)⟩ h
  .simp only[if_true]at h|-;refine⟨λe=>?_,?_⟩
   .have hopc:(cW P F.n all o).op=Xb P F.n o.op:=rfl;rw[hopc,e]at h;simp[TO,aZ]at h
   have hdst:(cW P F.n all o).dst=o.dst.filter (·<F.n):=rfl;have hopc:(cW P F.n all o).op=Xb P F.n o.op:=rfl;rw[hdst,hopc]at h;unfold TO at h;split at h
   .obtain⟨h1,v,h2,h3⟩:=h;obtain⟨z,hz,hr⟩:=tr hs o h1 h2;unfold Oper.wp;rw[hz];exact WN _ _ _ ⟨I,hs.pure hr⟩ h3
   .split at h
    .rename_i fx xs WO;obtain⟨f,caps,v,h1,h2,h3⟩:=h;obtain⟨f0,args,argTypes,g1,rfl,rfl⟩:=nI WO;refine pM hs g1 h1 (h2 _ (aa.refl _)) λr Z' hp a' w' W2=>?_;obtain⟨rfl,rfl⟩:=hp;exact WN _ a' w' W2 h3
    .exact h.elim
   .split at h
    .rename_i sz xa xv WO;obtain⟨Z',h1,h2⟩:=h;obtain⟨t,y,z,g1,g2,rfl,rfl,rfl⟩:=xY WO;unfold gd at h1;split at h1
     .rename_i id r0 c e1;split at h1
      .rename_i ob e2;split at h1
       .rename_i r e3;split at h1
        .rename_i r' e4;simp only[aI]at h1;subst h1;obtain⟨w',hx,W2⟩:=tH hs g1 g2 e1 e2 e3 e4;unfold Oper.wp;rw[hx];exact WN _ _ _ ⟨I,W2⟩ h2
        .cases h1
       .cases h1
      .cases h1
     .cases h1
    .exact h.elim
   .obtain⟨g,hg,h⟩:=h;cases WO:Xb P F.n o.op<;>rw[WO]at hg
    case box e sz xv=>
     simp only[YV]at hg;split at hg
     .rename_i hc;simp only[aI]at hg;subst hg;obtain⟨y,g1,g2,rfl,rfl⟩:=Ff WO;obtain⟨id,M',z,w',Y',hz,W2⟩:=x9 hs g1 g2 hc.1 hc.2;unfold Oper.wp;rw[hz];exact WN _ _ _ ⟨Y',W2⟩ (h id M')
     .cases hg
    case alloc e sz z=>
     simp only[YV,aI]at hg;subst hg;obtain⟨ti,zv,g1,g2,rfl,rfl⟩:=yi WO;obtain⟨id,M',y,w',Y',hy,W2⟩:=tP hs g1 g2;unfold Oper.wp;rw[hy];exact WN _ _ _ ⟨Y',W2⟩ (h id M')
    case gq e sz xs=>
     simp only[YV]at hg;split at hg
     .rename_i hc;simp only[aI]at hg;subst hg;obtain⟨t,len,parts,ti,z,h1,h2,h3,rfl,h5,h6,rfl⟩:=wz WO;have hx:∀y∈parts.toList.map (λp=>(cx F.n p.2).ev x.s),y.cells.length=ti.size/\y.stays=true:=by
       intro y hy;have:=fC.1 hc y (by rw[List.map_map];exact hy);simpa using this
      obtain⟨id,M',y,w',Y',hy,W2⟩:=qG hs h1 h2 h3 h5 h6 hx;unfold Oper.wp;rw[hy];have hl:parts.size=len:=by have:=congrArg List.length h5;simpa using this
      refine WN _ _ _ ⟨Y',W2⟩ ?_;have:=h id M';simpa only[cJ,List.map_map,Array.length_toList,hl,Function.comp_def]using this
     .cases hg
    case mk e sz bytes zv y=>
     simp only[YV]at hg;split at hg
     .rename_i m hm;split at hg
      .rename_i hc;simp only[aI]at hg;subst hg;obtain⟨t,l',c,ti,z,g1,g2,g3,rfl,rfl,rfl,g5,rfl⟩:=I9 WO;obtain⟨id,M',x',w',Y',Xp,W2⟩:=CB hs g1 g5 g2 g3 hm hc.1 hc.2;unfold Oper.wp;rw[Xp];exact WN _ _ _ ⟨Y',W2⟩ (h id M')
      .cases hg
     .cases hg
    case appz e sz bytes zv ya y=>
     simp only[YV]at hg;split at hg
     .rename_i kq m hy hm;split at hg
      .rename_i hc;simp only[aI]at hg;subst hg;obtain⟨t,tn,kn,x1,y1,args,argTypes,ti,z,g1,g2,g3,g4,g5,g6,rfl,rfl,rfl,rfl,rfl⟩:=Bl WO;obtain⟨id,M',x',w',Y',Xp,W2⟩:=wS hs g1 g2 g3 g4 g5 g6 hy hm hc.1 hc.2;unfold Oper.wp;rw[Xp];exact WN _ _ _ ⟨Y',W2⟩ (h id M')
      .cases hg
     .cases hg
    case append e sz bytes xa xb=>
     simp only[YV]at hg;split at hg
     .rename_i base idA src e1 e2;split at hg
      .rename_i hb;simp only[aI]at hg;subst hg;obtain⟨t,t',y,z,args,argTypes,ti,zv,g1,g2,g3,g3',g4,g5,rfl,rfl,rfl,rfl⟩:=vC WO;obtain⟨id,M',r,w',Y',hx,W2⟩:=qN hs g1 g2 g3 g3' g4 g5 e1 e2 hb;unfold Oper.wp;rw[hx];exact WN _ _ _ ⟨Y',W2⟩ (h id M')
      .cases hg
     .cases hg
    all_goals simp[YV]at hg
   .exact h.elim
def Tn(P:Program)(n:Nat)(ops:Array Oper)(i:Nat)(x:St)(K:St->Prop):Prop:=match ops[i]? with
 |some o=>T P (cW P n ops o) x K
 |none=>K x
def rR(P:Program)(n:Nat)(ops:Array Oper)(Q:St->Prop):Nat->Array Bool->St->Prop
 |0,A',x=>Region.ready .any ops A'=[]/\Q x
 |f+1,A',x=>(Region.ready .any ops A'=[]->Q x)/\∀i∈Region.ready .any ops A',Tn P n ops i x (rR P n ops Q f (A'.setIfInBounds i true))
def pZ{F:Fr}(hn:F.n=n){ops:Array Oper}{Q:St->Prop}{Q':Exit->Act->World->Prop}(hQ:∀x a w,fU F x a w->Q x->Q' .normal a w):
 ∀(f:Nat) (A':Array Bool) (x:St) (a:Act) (w:World),fU F x a w->rR P n ops Q f A' x->wpAnyIn F.fg 0 P .any ops Q' f A' a w
 |0,_,_,_,_,hs,h=>⟨h.1,hQ _ _ _ hs h.2⟩
 |f+1,A',x,a,w,hs,h=>by
  refine⟨λh0=>hQ _ _ _ hs (h.1 h0),λi hi=>?_⟩;have h1:=h.2 i hi;unfold Tn at h1;unfold wpOpIn;cases ho:ops[i]? with
  |none=>
   simp only[ho]at h1;exact pZ hn hQ f _ x a w hs h1
  |some o=>
   simp only[ho]at h1;have h2:=zZ (Q':=Q') hn h1 hs λx' a' w' W2 hk=>pZ hn hQ f _ x' a' w' W2 hk;by_cases hw:Region.wanted o (yielded ops a.tmps)=true
   .rw[ak hw]at h2;simp only[hw,if_true];exact Ko (oy h2.1) h2.2
   .rw[au hw]at h2;simp only[hw];exact⟨λ_ _=>trivial,h2⟩
def lM(ops:Array Oper)(A':Array Bool):Prop:=∀m om,ops[m]?=some om->A'.getD m true=true->∀e∈om.after,Region.binds .any e=true->A'.getD e.on false=true
def lM.list{ops:Array Oper}{A':Array Bool}(h:lM ops A'){i:Nat}(hi:i∈Region.ready .any ops A'):lM ops (A'.setIfInBounds i true):=by
 intro m om hm hl e he hb;by_cases hmi:m=i
 .subst hmi;obtain⟨_,o,ho,XR⟩:=mem_ready.1 hi;rw[hm]at ho;cases ho;exact getD_set_true (XR e he hb)
 .rw[getD_set_ne true (Ne.symm hmi)]at hl;exact getD_set_true (h m om hm hl e he hb)
def DG{f:Edge->Nat}(l:List Edge):∀(s:Nat) (i:Nat),(l.foldl (λs e=>if Region.binds .any e then s ||| 2^e.on ||| f e else s) s).testBit i=true->
 s.testBit i=true\/∃e∈l,Region.binds .any e=true/\(i=e.on\/(f e).testBit i=true):=by
 induction l with
 |nil=>intro s i h;exact .inl h
 |cons e l ih=>
  intro s i h;simp only[gg]at h;rcases ih _ i h with h1|⟨e',h2,h3,h4⟩
  .by_cases hb:Region.binds .any e=true
   .rw[ak hb]at h1;simp only[Nat.testBit_or,lG,Nat.testBit_two_pow]at h1;rcases h1 with(h1|h1)|h1
    .exact .inl h1
    .exact .inr ⟨e,by simp,hb,.inl (by simpa using(of_decide_eq_true h1).symm)⟩
    .exact .inr ⟨e,by simp,hb,.inr h1⟩
   .rw[au hb]at h1;exact .inl h1
  .exact .inr ⟨e',by simp[h2],h3,h4⟩
def tg{ops:Array Oper}{A':Array Bool}(hc:lM ops A'):∀(j:Nat) (oj:Oper) (i:Nat),ops[j]?=some oj->((Region.before ops).getD j 0).testBit i=true->
 (∀e∈oj.after,Region.binds .any e=true->A'.getD e.on false=true)->A'.getD i false=true:=by
 have key:∀(l:List Oper) (acc:Array Nat) (k:Nat),acc.size=k->(∀j,l[j]?=ops[k+j]?)->
  (∀j oj i,j<k->ops[j]?=some oj->(acc.getD j 0).testBit i=true->(∀e∈oj.after,Region.binds .any e=true->A'.getD e.on false=true)->A'.getD i false=true)->
  ∀j oj i,ops[j]?=some oj->((l.foldl (λacc o=>acc.push (o.after.foldl (λs e=>if Region.binds .any e then s ||| 2^e.on ||| acc.getD e.on 0 else s) 0)) acc).getD j 0).testBit i=true->
   (∀e∈oj.after,Region.binds .any e=true->A'.getD e.on false=true)->A'.getD i false=true:=by
  intro l
  induction l with
  |nil=>
   intro acc k hk hl h j oj i hj hb hd;have B':j<k:=by
    rcases Nat.lt_or_ge j k with h1|h1
    .exact h1
    .have:=hl (j-k);rw[show k+(j-k)=j by omega,hj]at this;simp at this
   exact h j oj i B' hj hb hd
  |cons o l ih=>
   intro acc k hk hl h;have WB:ops[k]?=some o:=by simpa using(hl 0).symm
   refine ih _ (k+1) (by simp[hk]) (λj=>by have:=hl (j+1);simpa[Nat.add_assoc,GM 1 j]using this) ?_;intro j oj i hj hoj hb hd;by_cases hjk:j=k
   .subst hjk;rw[hoj]at WB;cases WB;rw[Zq7,<-hk,Array.getElem?_push_size]at hb;simp only[Option.getD_some]at hb;rw[<-Array.foldl_toList]at hb;rcases DG (f:=λe=>acc.getD e.on 0) o.after.toList 0 i hb with h1|⟨e,he,hbd,h1|h1⟩
    .simp at h1
    .rw[h1];exact hd e (by simpa using he) hbd
    .have hel:=hd e (by simpa using he) hbd;by_cases hek:e.on<acc.size
     .have hex:e.on<ops.size:=by
       have:=(tZ.1 hoj).1;omega
      have hoe:ops[e.on]?=some ops[e.on]:=Array.getElem?_eq_getElem hex;refine h e.on _ i (by omega) hoe h1 (hc e.on _ hoe ?_);have Yh:e.on<A'.size:=by
       rcases Nat.lt_or_ge e.on A'.size with h2|h2
       .exact h2
       .simp[Array.getElem?_eq_none h2]at hel
      simp only[Zq7,Array.getElem?_eq_getElem Yh,Option.getD_some]at hel|-;exact hel
     .rw[Zq7,Array.getElem?_eq_none (by omega)]at h1;simp at h1
   .have hjlt:j<k:=by omega
    rw[Zq7,Array.getElem?_push_lt (by omega)]at hb;refine h j oj i hjlt hoj ?_ hd;rw[Zq7,Array.getElem?_eq_getElem (by omega)];exact hb
 intro j oj i hj hb hd;unfold Region.before at hb;rw[<-Array.foldl_toList]at hb;exact key ops.toList #[] 0 rfl (by simp) (λj oj i h=>by omega) j oj i hj hb hd
def yZ{ops:Array Oper}{Q:St->Prop}{i:Nat}{oi:Oper}(hi:ops[i]?=some oi):∀(f:Nat) (A':Array Bool) (x:St),Inf x.U->lM ops A'->
 (∀j oj,ops[j]?=some oj->j≠i->A'.getD j true=false->((Region.before ops).getD j 0).testBit i=false->nP (cW P n ops oi) (cW P n ops oj)=true)->
 i∈Region.ready .any ops A'->T P (cW P n ops oi) x (rR P n ops Q f (A'.setIfInBounds i true))->rR P n ops Q (f+1) A' x:=by
 intro f
 induction f with
 |zero=>
  intro A' x hinf _ _ hr H;refine⟨λh=>(by rw[h]at hr;cases hr),λj hj=>?_⟩;by_cases hji:j=i
  .subst hji;unfold Tn;simp only[hi];exact H
  .have:=ready_mono hj hji;obtain⟨x',Xp⟩:=H.exists hinf;rw[Xp.1]at this;cases this
 |succ f ih=>
  intro A' x hinf Yj hfree hr H;refine⟨λh=>(by rw[h]at hr;cases hr),λj hj=>?_⟩;by_cases hji:j=i
  .subst hji;unfold Tn;simp only[hi];exact H
  .obtain⟨hjun,oj,hoj,XR⟩:=mem_ready.1 hj;have hnot:((Region.before ops).getD j 0).testBit i=false:=by
    cases hb:((Region.before ops).getD j 0).testBit i with
    |false=>rfl
    |true=>
     exfalso;have h1:=tg Yj j oj i hoj hb XR;have h0:=(mem_ready.1 hr).1;rcases Nat.lt_or_ge i A'.size with h'|h'
     .simp[h']at h0 h1;rw[h0]at h1;cases h1
     .simp[Array.getElem?_eq_none h']at h1
   have H2:T P (cW P n ops oi) x λx'=>T P (cW P n ops oj) x' (rR P n ops Q f ((A'.setIfInBounds i true).setIfInBounds j true)):=by
    refine H.mono λx' Xp=>?_;have:=Xp.2 j (ready_mono hj hji);unfold Tn at this;simpa only[hoj]using this
   have h2:=I3 (hfree j oj hoj hji hjun hnot) hinf H2;have hfree':∀k ok,ops[k]?=some ok->k≠i->(A'.setIfInBounds j true).getD k true=false->
    ((Region.before ops).getD k 0).testBit i=false->nP (cW P n ops oi) (cW P n ops ok)=true:=λk ok hk hki hun Xa=>by
    refine hfree k ok hk hki ?_ Xa;by_cases hjk:j=k
    .subst hjk;exact hjun
    .rw[getD_set_ne true hjk]at hun;exact hun
   unfold Tn;simp only[hoj];refine(h2.inf hinf).mono λx' Xp=>ih (A'.setIfInBounds j true) x' Xp.1 (Yj.list hj) hfree' (ready_mono hr (Ne.symm hji)) ?_;rw[Array.setIfInBounds_comm _ _ hji];exact Xp.2
def w9{ops:Array Oper}{k:Nat}{ok:Oper}{A':Array Bool}(hk:ops[k]?=some ok)(h:E4 P n ops k A'=true)(j:Nat)(oj:Oper)(hj:ops[j]?=some oj)(WZ:j≠k)
 (hun:A'.getD j true=false)(Xa:((Region.before ops).getD j 0).testBit k=false):nP (cW P n ops ok) (cW P n ops oj)=true:=by
 unfold E4 at h;simp only[hk]at h;have hjlt:j<ops.size:=(tZ.1 hj).1;have:=fC.1 h j (List.mem_range.2 hjlt);simp only[hj,hun,Xa,Bool.or_false,Bool.false_or,lG,beq_iff_eq,WZ,false_or]at this;exact this
def iD(P:Program)(Q:St->Prop):List aC->St->Prop
 |[],x=>Q x
 |i::l,x=>T P i x (iD P Q l)
def wc{ops:Array Oper}{Q:St->Prop}:∀(l:List Oper) (k:Nat) (A':Array Bool) (x:St),Inf x.U->lM ops A'->(∀j,l[j]?=ops[k+j]?)->
 HE P n ops l.length k A'=true->iD P Q (l.map (cW P n ops)) x->rR P n ops Q l.length A' x
 |[],_,_,_,_,_,_,hB,h=>⟨by simpa[HE]using hB,h⟩
 |o::l,k,A',x,hinf,Yj,hl,hB,h=>by
  have h0:ops[k]?=some o:=by simpa using(hl 0).symm
  simp only[YI,HE,Ba]at hB;obtain⟨⟨hr,hf⟩,hB'⟩:=hB;refine yZ h0 l.length A' x hinf Yj (w9 h0 hf) (by simpa using hr) ?_;refine(T.inf hinf h).mono λx' Xp=>?_;exact wc l (k+1) _ x' Xp.1 (Yj.list (by simpa using hr)) (λj=>by have:=hl (j+1);simpa[Nat.add_assoc,GM 1 j]using this) hB' Xp.2
def zA{F:Fr}(hn:F.n=n){ops:Array Oper}(WB:zO P n ops=true){id:Nat}{x:St}{a:Act}{w:World}(hs:fU F x a w){Q:St->Prop}{Q':Exit->Act->World->Prop}
 (hQ:∀x a w,fU F x a w->Q x->Q' .normal a w)(h:iD P Q (ops.toList.map (cW P n ops)) x):(Code.region id ops true).wpIn F.fg 0 P Q' a w:=by
 simp only[zO,Ba]at WB;have W2:fU F x a { w with drawn:=w.drawn+1 }:=by
  obtain⟨I,hs⟩:=hs;have hk:dp (aA I x.U) (aA I x.U) w { w with drawn:=w.drawn+1 }:=λ_ _ h=>⟨h,rfl⟩
  refine⟨I,⟨⟨hs.sat.size,hs.sat.os,hs.sat.tape,hs.sat.output,hs.sat.same,hs.sat.fin,hs.sat.inj,λid o ho=>?_,hs.sat.fresh,hs.sat.glob⟩,hs.le,hs.size,hs.book.nv hk,λi hi=>?_⟩⟩
  .exact(hs.sat.obj id o ho).mono (dx.refl I) hk (Xc _) (λ_ _ _ _=>rfl)
  .exact G'.mono (dx.refl I) hk (Xc _) _ _ (hs.slot i hi)
 refine wpIn_region_any WB.1 (pZ hn hQ _ _ _ _ _ W2 ?_);have:=wc (P:=P) (n:=n) (Q:=Q) ops.toList 0 (Array.replicate ops.size false) x hs.inf (λm om hm hl=>by
  have B':m<ops.size:=(tZ.1 hm).1;rw[Zq7,Array.getElem?_replicate,ak B']at hl;simp at hl) (by simp) (by simpa using WB.2.2) h
 simpa using this
def rE(P:Program)(n:Nat)(ops:Array Oper)(m:Nat)(Q:St->Prop):Nat->Array Bool->St->Prop
 |0,A',x=>(Region.ready .any ops A'=[m]/\Region.ready .any ops (A'.setIfInBounds m true)=[])/\Q x
 |f+1,A',x=>Region.ready .any ops A'≠[]/\∀i∈Region.ready .any ops A',i≠m/\Tn P n ops i x (rE P n ops m Q f (A'.setIfInBounds i true))
def pW{F:Fr}(hn:F.n=n){ops:Array Oper}{m:Nat}{Q:St->Prop}{Q':Exit->Act->World->Prop}(hQ:∀x a w,fU F x a w->Q x->wpOpIn F.fg 0 P ops Q' m (Q' .normal) a w):
 ∀(f:Nat) (A':Array Bool) (x:St) (a:Act) (w:World),fU F x a w->rE P n ops m Q f A' x->wpAnyIn F.fg 0 P .any ops Q' (f+1) A' a w
 |0,A',x,a,w,hs,h=>by
  obtain⟨⟨h1,h2⟩,h3⟩:=h;refine⟨λh0=>(by rw[h1]at h0;cases h0),λi hi=>?_⟩;rw[h1]at hi;have him:i=m:=by simpa using hi
  subst him;exact wpOpIn_mono (λa w h=>⟨h2,h⟩) (hQ x a w hs h3)
 |f+1,A',x,a,w,hs,h=>by
  refine⟨λh0=>absurd h0 h.1,λi hi=>?_⟩;have h1:=(h.2 i hi).2;unfold Tn at h1;unfold wpOpIn;cases ho:ops[i]? with
  |none=>
   simp only[ho]at h1;exact pW hn hQ f _ x a w hs h1
  |some o=>
   simp only[ho]at h1;have h2:=zZ (Q':=Q') hn h1 hs λx' a' w' W2 hk=>pW hn hQ f _ x' a' w' W2 hk;by_cases hw:Region.wanted o (yielded ops a.tmps)=true
   .rw[ak hw]at h2;simp only[hw,if_true];exact Ko (oy h2.1) h2.2
   .rw[au hw]at h2;simp only[hw];exact⟨λ_ _=>trivial,h2⟩
def zk{ops:Array Oper}{m:Nat}{Q:St->Prop}{i:Nat}{oi:Oper}(hi:ops[i]?=some oi)(him:i≠m)(hm:((Region.before ops).getD m 0).testBit i=true):
 ∀(f:Nat) (A':Array Bool) (x:St),Inf x.U->lM ops A'->
 (∀j oj,ops[j]?=some oj->j≠i->A'.getD j true=false->((Region.before ops).getD j 0).testBit i=false->nP (cW P n ops oi) (cW P n ops oj)=true)->
 i∈Region.ready .any ops A'->T P (cW P n ops oi) x (rE P n ops m Q f (A'.setIfInBounds i true))->rE P n ops m Q (f+1) A' x:=by
 have hnotj:∀(A':Array Bool),lM ops A'->i∈Region.ready .any ops A'->∀j,j∈Region.ready .any ops A'->((Region.before ops).getD j 0).testBit i=false:=λA' Yj hr j hj=>by
  obtain⟨hjun,oj,hoj,XR⟩:=mem_ready.1 hj;cases hb:((Region.before ops).getD j 0).testBit i with
  |false=>rfl
  |true=>
   exfalso;have h1:=tg Yj j oj i hoj hb XR;have h0:=(mem_ready.1 hr).1;rcases Nat.lt_or_ge i A'.size with h'|h'
   .simp[h']at h0 h1;rw[h0]at h1;cases h1
   .simp[Array.getElem?_eq_none h']at h1
 have hjm:∀(A':Array Bool),lM ops A'->i∈Region.ready .any ops A'->∀j,j∈Region.ready .any ops A'->j≠m:=λA' Yj hr j hj e=>by
  have:=hnotj A' Yj hr j hj;rw[e,hm]at this;cases this
 intro f
 induction f with
 |zero=>
  intro A' x hinf Yj _ hr H;refine⟨λh=>(by rw[h]at hr;cases hr),λj hj=>⟨hjm A' Yj hr j hj,?_⟩⟩;by_cases hji:j=i
  .subst hji;unfold Tn;simp only[hi];exact H
  .have:=ready_mono hj hji;obtain⟨x',Xp⟩:=H.exists hinf;rw[Xp.1.1]at this;exact absurd (by simpa using this) (hjm A' Yj hr j hj)
 |succ f ih=>
  intro A' x hinf Yj hfree hr H;refine⟨λh=>(by rw[h]at hr;cases hr),λj hj=>⟨hjm A' Yj hr j hj,?_⟩⟩;by_cases hji:j=i
  .subst hji;unfold Tn;simp only[hi];exact H
  .obtain⟨hjun,oj,hoj,XR⟩:=mem_ready.1 hj;have hnot:=hnotj A' Yj hr j hj;have H2:T P (cW P n ops oi) x λx'=>T P (cW P n ops oj) x' (rE P n ops m Q f ((A'.setIfInBounds i true).setIfInBounds j true)):=by
    refine H.mono λx' Xp=>?_;have:=(Xp.2 j (ready_mono hj hji)).2;unfold Tn at this;simpa only[hoj]using this
   have h2:=I3 (hfree j oj hoj hji hjun hnot) hinf H2;have hfree':∀k ok,ops[k]?=some ok->k≠i->(A'.setIfInBounds j true).getD k true=false->
    ((Region.before ops).getD k 0).testBit i=false->nP (cW P n ops oi) (cW P n ops ok)=true:=λk ok hk hki hun Xa=>by
    refine hfree k ok hk hki ?_ Xa;by_cases hjk:j=k
    .subst hjk;exact hjun
    .rw[getD_set_ne true hjk]at hun;exact hun
   unfold Tn;simp only[hoj];refine(h2.inf hinf).mono λx' Xp=>ih (A'.setIfInBounds j true) x' Xp.1 (Yj.list hj) hfree' (ready_mono hr (Ne.symm hji)) ?_;rw[Array.setIfInBounds_comm _ _ hji];exact Xp.2
def wJ{ops:Array Oper}{m:Nat}{Q:St->Prop}:∀(l:List Oper) (k:Nat) (A':Array Bool) (x:St),Inf x.U->lM ops A'->(∀j,j<l.length->l[j]?=ops[k+j]?)->
 Jy P n ops m l.length k A'=true->iD P Q (l.map (cW P n ops)) x->rE P n ops m Q l.length A' x
 |[],_,_,_,_,_,_,hB,h=>⟨by simpa[Jy]using hB,h⟩
 |o::l,k,A',x,hinf,Yj,hl,hB,h=>by
  have h0:ops[k]?=some o:=by simpa using(hl 0 (by simp)).symm
  simp only[YI,Jy,Ba]at hB;obtain⟨⟨hr,hkm,hbit⟩,hf,hB'⟩:=hB;refine zk h0 (by simpa using hkm) hbit l.length A' x hinf Yj (w9 h0 hf) (by simpa using hr) ?_;refine(T.inf hinf h).mono λx' Xp=>?_;exact wJ l (k+1) _ x' Xp.1 (Yj.list (by simpa using hr)) (λj hj=>by have:=hl (j+1) (by simpa using hj);simpa[Nat.add_assoc,GM 1 j]using this) hB' Xp.2
def xM{F:Fr}(hn:F.n=n){ops:Array Oper}(WB:zf P n ops=true){id:Nat}{x:St}{a:Act}{w:World}(hs:fU F x a w){Q:St->Prop}{Q':Exit->Act->World->Prop}
 (hQ:∀x a w,fU F x a w->Q x->wpListIn F.fg 0 P ops Q' (ops.toList.drop (ops.size-1)) a w)(h:iD P Q ((ops.toList.take (ops.size-1)).map (cW P n ops)) x):(Code.region id ops true).wpIn F.fg 0 P Q' a w:=by
 simp only[zf,Ba,YX]at WB;obtain⟨hmx,XH,_,_,hlex⟩:=WB;have W2:fU F x a { w with drawn:=w.drawn+1 }:=by
  obtain⟨I,hs⟩:=hs;have hk:dp (aA I x.U) (aA I x.U) w { w with drawn:=w.drawn+1 }:=λ_ _ h=>⟨h,rfl⟩
  refine⟨I,⟨⟨hs.sat.size,hs.sat.os,hs.sat.tape,hs.sat.output,hs.sat.same,hs.sat.fin,hs.sat.inj,λid o ho=>?_,hs.sat.fresh,hs.sat.glob⟩,hs.le,hs.size,hs.book.nv hk,λi hi=>?_⟩⟩
  .exact(hs.sat.obj id o ho).mono (dx.refl I) hk (Xc _) (λ_ _ _ _=>rfl)
  .exact G'.mono (dx.refl I) hk (Xc _) _ _ (hs.slot i hi)
 refine wpIn_region_any hmx ?_;have hlen:(ops.toList.take (ops.size-1)).length=ops.size-1:=by simp
 have hdrop:ops.toList.drop (ops.size-1)=[ops[ops.size-1]'(by omega)]:=by
  rw[iT (by simpa using(by omega:ops.size-1<ops.size))];simp[Mq,show ops.size<=ops.size-1+1 by omega]
 have YJ:ops[ops.size-1]?=some (ops[ops.size-1]'(by omega)):=Array.getElem?_eq_getElem (by omega);have hL:=wJ (P:=P) (n:=n) (Q:=Q) (m:=ops.size-1) (ops.toList.take (ops.size-1)) 0 (Array.replicate ops.size false) x hs.inf (λm om hm hl=>by
  have B':m<ops.size:=(tZ.1 hm).1;rw[Zq7,Array.getElem?_replicate,ak B']at hl;simp at hl) (λj hj=>by rw[hlen]at hj;simp[List.getElem?_take,hj]) (by rw[hlen];exact hlex) h
 rw[hlen]at hL;have:=pW (Q':=Q') hn (λx a w hs hq=>by
  have:=hQ x a w hs hq;rw[hdrop]at this;unfold wpOpIn;simpa only[YJ,wpListIn]using this) _ _ _ _ _ W2 hL
 rwa [show ops.size-1+1=ops.size by omega]at this
variable {P:Program} {n:Nat} {st:St} {Q:St->Prop} {k:List It}
def ag.D0{l:List aC}(h:iD P (λx=>ag P n k x Q) l st):ag P n (.code (.reg true l)::k) st Q:=by
 intro F hn kt hk a w hs;obtain⟨z,Zz,rfl,hy,YH⟩:=eX hk;obtain⟨c0,rfl,Yk⟩:=iq hy;have hc0:∃id ops,c0=.region id ops true/\zO P n ops=true/\ops.toList.map (cW P n ops)=l:=by
  cases c0<;>simp only[dI,reduceCtorEq]at Yk;rename_i id ops draw;cases draw
  .simp at Yk
  .simp only[Bool.true_and]at Yk;split at Yk
   .cases Yk
   split at Yk
   .cases Yk
   .rename_i hd;simp only[bN.reg.injEq,true_and]at Yk;exact⟨id,ops,rfl,by simpa using hd,Yk⟩
 obtain⟨id,ops,rfl,WB,rfl⟩:=hc0;exact zA hn WB hs (λx a w hs h=>h F hn Zz YH a w hs) h
def ag.ua{l e:List aC}(h:iD P (λx=>ag P n (.ops e::k) x Q) l st):ag P n (.code (.ua l e)::k) st Q:=by
 intro F hn kt hk a w hs;obtain⟨z,Zz,rfl,hy,YH⟩:=eX hk;obtain⟨c0,rfl,Yk⟩:=iq hy;have hc0:∃id ops,c0=.region id ops true/\zf P n ops=true/\(ops.toList.take (ops.size-1)).map (cW P n ops)=l/\(ops.toList.drop (ops.size-1)).map (cW P n ops)=e:=by
  cases c0<;>simp only[dI,reduceCtorEq]at Yk;rename_i id ops draw;cases draw
  .simp at Yk
  .simp only[Bool.true_and]at Yk;split at Yk
   .rename_i hd;simp only[bN.ua.injEq]at Yk;exact⟨id,ops,rfl,hd,Yk.1,Yk.2⟩
   .split at Yk<;>cases Yk
 obtain⟨id,ops,rfl,WB,rfl,rfl⟩:=hc0;exact xM hn WB hs (λx a w hs h=>h F hn (.ops ops (ops.toList.drop (ops.size-1))::Zz) (by simp[KI.it,YH]) a w hs) h
def St.lit(st:St):VX->V->St
 |.t d,v=>⟨aO st.s (some d) v,st.U⟩
 |.c _,_=>st
inductive Td where
 |r (todo:List It)
 |d (l:List aC) (todo:List It)
def Kof(P:Program)(n:Nat)(todo:List It)(st:St)(Q:St->Prop):Prop:=match todo with
 |.stop μ::_=>μ st
 |todo=>ag P n todo st Q
def Kof.runs{todo:List It}(h:Kof P n todo st Q):ag P n todo st Q:=by
 cases todo with
 |nil=>exact h
 |cons x k=>cases x<;>first|exact ag.stop h|exact h
def iD.mono{K K':St->Prop}(hk:∀x,K x->K' x):∀{l:List aC} {x:St},iD P K l x->iD P K' l x
 |[],_,h=>hk _ h
 |_::_,_,h=>T.mono (λ_ h=>iD.mono hk h) h
def Go(P:Program)(n:Nat)(t:Td)(st:St)(Q:St->Prop):Prop:=
 match t with
 |.r todo=>Kof P n todo st Q
 |.d l todo=>iD P (λx=>Kof P n todo x Q) l st
def Go.runs{todo:List It}(h:Go P n (.r todo) st Q):ag P n todo st Q:=Kof.runs h
def Go.chain{l:List aC}(h:Go P n (.d l k) st Q):iD P (λx=>ag P n k x Q) l st:=iD.mono (λ_ h=>Kof.runs h) h
def ed{α:Type}(o:Option α)(k:α->Prop):Prop:=match o with
 |some v=>k v
 |none=>False
def sW{α:Type}(v:α)(k:α->Prop):ed (some v) k=k v:=rfl
def iB{α:Type}{o:Option α}{k:α->Prop}:ed o k↔∃v,o=some v/\k v:=by cases o<;>simp[ed]
def dY(v:V)(k:Bool->Prop)(z:Prop):Prop:=match v with
 |.bool c=>k c
 |.WC []=>z
 |.int _ _=>z
 |_=>False
def my{v:V}{k:Bool->Prop}{z:Prop}(h:dY v k z):(∃c,v=.bool c/\k c)\/(v=.WC []/\z)\/(∃q m,v=.int q m/\z):=by
 unfold dY at h;split at h
 .exact .inl ⟨_,rfl,h⟩
 .exact .inr (.inl ⟨rfl,h⟩)
 .exact .inr (.inr ⟨_,_,rfl,h⟩)
 .exact h.elim
def both(c b:Bool)(x y:Prop):Prop:=(c=b->x)/\(c=!b->y)
def jJ(s:Nat->V)(U:ad):Xd->Option ad
 |.store sz xa xv=>gd U sz (xa.ev s) (xv.ev s)
 |_=>none
structure Yi(P:Program) where
 get:FuncId->List V->ad->Option V
 ok:∀f args U v,get f args U=some v->av P f args U λr Z'=>r=v/\Z'=U
 up:∀f args U Z' v,aa U Z'->get f args U=some v->get f args Z'=some v:=by intros;assumption
def Yi.nothing:Yi P where
 get _ _ _:=none
 ok _ _ _ _ h:=by cases h
def yT(O:Yi P)(s:Nat->V)(U:ad):Xd->Option V
 |.call fx xs=>match fx.ev s with
   |.fn f caps=>O.get f (xs.map (·.ev s)++caps) U
   |_=>none
 |_=>none
def Aa(o:Option V)(k:V->Prop)(z:Prop):Prop:=match o with
 |some v=>k v
 |none=>z
def qS{o:Option V}{k:V->Prop}{z:Prop}(h:Aa o k z):(∃v,o=some v/\k v)\/z:=by
 cases o with
 |none=>exact .inr h
 |some v=>exact .inl ⟨v,rfl,h⟩
def zc(q:Nat)(a b c d g:Prop):Prop:=match q with
 |0=>a
 |1=>b
 |2=>c
 |3=>d
 |_=>g
def pd{q:Nat}{a b c d g:Prop}(h:zc q a b c d g):(q=0/\a)\/(q=1/\b)\/(q=2/\c)\/(q=3/\d)\/g:=by
 unfold zc at h;split at h<;>simp_all
def xG(O:Yi P)(q:Nat)(d:Option Nat)(op:Xd)(st:St)(k:St->Prop)(z:Prop):Prop:=
 zc q (eD st.s op/\ed (aD st.U st.s op) λv=>k ⟨aO st.s d v,st.U⟩)
  (Aa (yT O st.s st.U op) (λv=>k ⟨aO st.s d v,st.U⟩) z)
  (ed (jJ st.s st.U op) λZ'=>k ⟨aO st.s d (.WC []),Z'⟩)
  (ed (YV st.s st.U op) λg=>∀id,st.U id=none->k ⟨aO st.s d (g id).1,(g id).2⟩) z
def step(P:Program)(O:Yi P)(n:Nat):Nat->Td->St->(St->Prop)->Prop
 |0,t,st,Q=>Go P n t st Q
 |f+1,t,st,Q=>match t with
  |.d l k=>match l with
   |[]=>step P O n f (.r k) st Q
   |i::l=>match i.g with
    |none=>xG O (aZ i.op) i.dst i.op st (λst=>step P O n f (.d l k) st Q) (Go P n (.d (i::l) k) st Q)
    |some (x,b)=>dY (x.ev st.s) (λc=>both c b
       (xG O (aZ i.op) i.dst i.op (st.lit x (.bool b)) (λst=>step P O n f (.d l k) st Q) (Go P n (.d (i::l) k) (st.lit x (.bool b)) Q))
       (step P O n f (.d l k) ⟨aO (st.lit x (.bool !b)).s i.dst (.WC []),(st.lit x (.bool !b)).U⟩ Q))
       (step P O n f (.d l k) ⟨aO st.s i.dst (.WC []),st.U⟩ Q)
  |.r todo=>match todo with
   |[]=>Q st
   |.stop μ::_=>μ st
   |.inBlock _::k=>step P O n f (.r k) st Q
   |.ops []::k=>step P O n f (.r k) st Q
   |.ops (i::l)::k=>match i.g with
    |none=>xG O (aZ i.op) i.dst i.op st (λst=>step P O n f (.r (.ops l::k)) st Q) (ag P n (.ops (i::l)::k) st Q)
    |some (x,b)=>dY (x.ev st.s) (λc=>both c b
       (xG O (aZ i.op) i.dst i.op (st.lit x (.bool b)) (λst=>step P O n f (.r (.ops l::k)) st Q) (ag P n (.ops (i::l)::k) (st.lit x (.bool b)) Q))
       (step P O n f (.r (.ops l::k)) ⟨aO (st.lit x (.bool !b)).s i.dst (.WC []),(st.lit x (.bool !b)).U⟩ Q))
       (step P O n f (.r (.ops l::k)) ⟨aO st.s i.dst (.WC []),st.U⟩ Q)
   |.code c::k=>match c with
    |.skip=>step P O n f (.r k) st Q
    |.seq a b=>step P O n f (.r (.code a::.code b::k)) st Q
    |.block id a=>step P O n f (.r (.code a::.inBlock id::k)) st Q
    |.exit id=>ed (jj id k) λk'=>step P O n f (.r k') st Q
    |.ret=>Q st
    |.cond c a b=>dY (c.ev st.s) (λt=>both t true (step P O n f (.r (.code a::k)) st Q) (step P O n f (.r (.code b::k)) st Q)) False
    |.reg draw l=>match draw with
     |false=>step P O n f (.r (.ops l::k)) st Q
     |true=>step P O n f (.d l k) st Q
    |.loop a=>ag P n (.code (.loop a)::k) st Q
    |.eN g ps a b=>ag P n (.code (.eN g ps a b)::k) st Q
    |.regA l W9=>ag P n (.code (.regA l W9)::k) st Q
    |.ua l e=>step P O n f (.d l (.ops e::k)) st Q
    |.bad=>False
def zy{st:St}{x:VX}{v:V}(h:x.ev st.s=v):st.lit x v=st:=by
 cases x with
 |t d=>
  simp only[VX.ev]at h;have:aO st.s (some d) v=st.s:=by
   funext i;simp only[aO];split
   .rename_i e;rw[e,h]
   .rfl
  simp[St.lit,this]
 |c _=>rfl
def ag.gd{i:aC}{l:List aC}{sz:Nat}{xa xv:VX}(hw:bg st.s i.g=some true)(ho:i.op=.store sz xa xv){Z':ad}
 (h1:Vc.gd st.U sz (xa.ev st.s) (xv.ev st.s)=some Z')(h:ag P n (.ops l::k) ⟨aO st.s i.dst (.WC []),Z'⟩ Q):ag P n (.ops (i::l)::k) st Q:=by
 unfold Vc.gd at h1;split at h1
 .rename_i id r0 c e1;split at h1
  .rename_i ob e2;split at h1
   .rename_i r e3;split at h1
    .rename_i r' e4;simp only[aI]at h1;subst h1;exact ag.store hw ho e1 e2 e3 e4 h
    .cases h1
   .cases h1
  .cases h1
 .cases h1
def ag.YV{i:aC}{l:List aC}(hw:bg st.s i.g=some true){g:Nat->V×ad}(hg:Vc.YV st.s st.U i.op=some g)
 (h:∀id,st.U id=none->ag P n (.ops l::k) ⟨aO st.s i.dst (g id).1,(g id).2⟩ Q):ag P n (.ops (i::l)::k) st Q:=by
 cases WO:i.op<;>rw[WO]at hg<;>simp only[Vc.YV,reduceCtorEq]at hg
 case box e sz xv=>
  split at hg
  .rename_i hc;simp only[aI]at hg;subst hg;exact ag.box hw WO hc.1 hc.2 h
  .cases hg
 case alloc e sz z=>
  simp only[aI]at hg;subst hg;exact ag.alloc hw WO h
 case gq e sz xs=>
  split at hg
  .rename_i hc;simp only[aI]at hg;subst hg;refine ag.gq hw WO (λx hx=>?_) h;have:=fC.1 hc x hx;simpa using this
  .cases hg
 case mk e sz bytes zv x=>
  split at hg
  .rename_i m hm;split at hg
   .rename_i hc;simp only[aI]at hg;subst hg;exact ag.mkS hw WO hm hc.1 hc.2 h
   .cases hg
  .cases hg
 case appz e sz bytes zv y x=>
  split at hg
  .rename_i kq m hy hm;split at hg
   .rename_i hc;simp only[aI]at hg;subst hg;exact ag.PI hw WO hy hm hc.1 hc.2 h
   .cases hg
  .cases hg
 case append e sz bytes xa xb=>
  split at hg
  .rename_i base idA src e1 e2;split at hg
   .rename_i hb;simp only[aI]at hg;subst hg;exact ag.append hw WO e1 e2 hb h
   .cases hg
  .cases hg
def pU{i:aC}{K:St->Prop}(hw:bg st.s i.g=some true)(h:TO P i.dst i.op st K):T P i st K:=by unfold T;simp only[hw];exact h
def uv{i:aC}{K:St->Prop}(hw:bg st.s i.g=some false)(h:K ⟨aO st.s i.dst (.WC []),st.U⟩):T P i st K:=by unfold T;simp only[hw];exact h
def uZ{O:Yi P}{s:Nat->V}{U:ad}{op:Xd}{v:V}(h:yT O s U op=some v):
 ∃fx xs f caps,op=.call fx xs/\fx.ev s=.fn f caps/\∀Z1,aa U Z1->av P f (xs.map (·.ev s)++caps) Z1 λr Z'=>r=v/\Z'=Z1:=by
 unfold yT at h;split at h
 .rename_i fx xs;split at h
  .rename_i f caps hf;exact⟨fx,xs,f,caps,rfl,hf,λZ1 h1=>O.ok _ _ _ _ (O.up _ _ _ _ _ h1 h)⟩
  .cases h
 .cases h
def ag.vU{O:Yi P}{i:aC}{l:List aC}{st:St}(hw:bg st.s i.g=some true){K:St->Prop}(hK:∀st,K st->ag P n (.ops l::k) st Q)
 (h:xG O (aZ i.op) i.dst i.op st K (ag P n (.ops (i::l)::k) st Q)):ag P n (.ops (i::l)::k) st Q:=by
 unfold xG at h;rcases pd h with⟨_,h1,h⟩|⟨_,h⟩|⟨_,h⟩|⟨_,h⟩|h
 .obtain⟨v,hv,h⟩:=iB.1 h;exact ag.pure hw h1 hv (hK _ h)
 .rcases qS h with⟨v,hv,h⟩|h
  .obtain⟨fx,xs,f,caps,ho,hf,hc⟩:=uZ hv;refine ag.call hw ho hf (hc _ (aa.refl _)) ?_;rintro r Z' ⟨rfl,rfl⟩;exact hK _ h
  .exact h
 .obtain⟨Z',hs,h⟩:=iB.1 h;cases WO:i.op<;>rw[WO]at hs<;>simp only[jJ,reduceCtorEq]at hs;exact ag.gd hw WO hs (hK _ h)
 .obtain⟨g,hgg,h⟩:=iB.1 h;exact ag.YV hw hgg λid M'=>hK _ (h id M')
 .exact h
def Go.vU{O:Yi P}{i:aC}{l:List aC}{st:St}(hw:bg st.s i.g=some true){K:St->Prop}(hK:∀st,K st->Go P n (.d l k) st Q)
 (h:xG O (aZ i.op) i.dst i.op st K (Go P n (.d (i::l) k) st Q)):Go P n (.d (i::l) k) st Q:=by
 unfold xG at h;rcases pd h with⟨hk,h1,h⟩|⟨hk,h⟩|⟨_,h⟩|⟨hk,h⟩|h
 .obtain⟨v,hv,h⟩:=iB.1 h;refine pU hw ?_;unfold TO;simp only[hk];exact⟨h1,v,hv,hK _ h⟩
 .rcases qS h with⟨v,hv,h⟩|h
  .obtain⟨fx,xs,f,caps,ho,hf,hc⟩:=uZ hv;refine pU hw ?_;rw[ho];exact⟨f,caps,v,hf,hc,hK _ h⟩
  .exact h
 .obtain⟨Z',hs,h⟩:=iB.1 h;refine pU hw ?_;cases WO:i.op<;>rw[WO]at hs<;>simp only[jJ,reduceCtorEq]at hs;exact⟨Z',hs,hK _ h⟩
 .obtain⟨g,hgg,h⟩:=iB.1 h;refine pU hw ?_;unfold TO;simp only[hk];exact⟨g,hgg,λid M'=>hK _ (h id M')⟩
 .exact h
def Go.bn(O:Yi P):∀(f:Nat) (t:Td) (st:St),step P O n f t st Q->Go P n t st Q
 |0,_,_,h=>h
 |f+1,.d [] k,st,h=>Go.bn O f (.r k) st h
 |f+1,.d (i::l) k,st,h=>by
  simp only[step]at h;split at h
  .rename_i hg;have hw:bg st.s i.g=some true:=by simp[hg,bg]
   exact Go.vU hw (λst h=>Go.bn O f (.d l k) st h) h
  .rename_i x b hg;rcases my h with⟨c,hc,h⟩|⟨hc,h⟩|⟨q,m,hc,h⟩
   .by_cases hcb:c=b
    .subst hcb;have h1:=h.1 rfl;have hw:bg st.s i.g=some true:=by simp[hg,bg,hc]
     rw[zy hc]at h1;exact Go.vU hw (λst h=>Go.bn O f (.d l k) st h) h1
    .have hcb':c=!b:=by revert hcb;cases c<;>cases b<;>simp
     have h2:=h.2 hcb';rw[zy (by rw[hc,hcb'])]at h2;exact uv (by simp only[hg,bg,hc];rw[hcb'];cases b<;>rfl) (Go.bn O f (.d l k) _ h2)
   .exact uv (by simp[hg,bg,hc]) (Go.bn O f (.d l k) _ h)
   .exact uv (by simp[hg,bg,hc]) (Go.bn O f (.d l k) _ h)
 |f+1,.r [],_,h=>ag.nil h
 |f+1,.r (.stop _::_),_,h=>h
 |f+1,.r (.inBlock _::k),st,h=>ag.inBlock (Go.bn O f (.r k) st h).runs
 |f+1,.r (.ops []::k),st,h=>ag.EL (Go.bn O f (.r k) st h).runs
 |f+1,.r (.ops (i::l)::k),st,h=>by
  simp only[step]at h;split at h
  .rename_i hg;have hw:bg st.s i.g=some true:=by simp[hg,bg]
   exact ag.vU hw (λst h=>(Go.bn O f (.r (.ops l::k)) st h).runs) h
  .rename_i x b hg;rcases my h with⟨c,hc,h⟩|⟨hc,h⟩|⟨q,m,hc,h⟩
   .by_cases hcb:c=b
    .subst hcb;have h1:=h.1 rfl;have hw:bg st.s i.g=some true:=by simp[hg,bg,hc]
     rw[zy hc]at h1;exact ag.vU hw (λst h=>(Go.bn O f (.r (.ops l::k)) st h).runs) h1
    .have hcb':c=!b:=by revert hcb;cases c<;>cases b<;>simp
     have h2:=h.2 hcb';rw[zy (by rw[hc,hcb'])]at h2;exact ag.uz (by simp only[hg,bg,hc];rw[hcb'];cases b<;>rfl) (Go.bn O f (.r (.ops l::k)) _ h2).runs
   .exact ag.uz (by simp[hg,bg,hc]) (Go.bn O f (.r (.ops l::k)) _ h).runs
   .exact ag.uz (by simp[hg,bg,hc]) (Go.bn O f (.r (.ops l::k)) _ h).runs
 |f+1,.r (.code c::k),st,h=>by
  cases c with
  |skip=>exact ag.skip (Go.bn O f (.r _) _ h).runs
  |seq a b=>exact ag.seq (Go.bn O f (.r _) _ h).runs
  |block id a=>exact ag.block (Go.bn O f (.r _) _ h).runs
  |exit id=>
   simp only[step]at h;obtain⟨k',YH,h⟩:=iB.1 h;exact ag.exit YH (Go.bn O f (.r _) _ h).runs
  |ret=>exact ag.ret h
  |cond c a b=>
   simp only[step]at h;rcases my h with⟨t,ht,h⟩|⟨_,h⟩|⟨_,_,_,h⟩
   .exact ag.cond ht (λe=>(Go.bn O f (.r _) _ (h.1 e)).runs) (λe=>(Go.bn O f (.r _) _ (h.2 (by rw[e];rfl))).runs)
   .exact h.elim
   .exact h.elim
  |reg draw l=>
   cases draw
   .exact ag.region (Go.bn O f (.r _) _ h).runs
   .exact ag.D0 (Go.bn O f (.d l k) _ h).chain
  |loop a=>exact h
  |eN g ps a b=>exact h
  |regA l W9=>exact h
  |ua l e=>exact ag.ua (Go.bn O f (.d l (.ops e::k)) _ h).chain
  |bad=>exact h.elim
def ag.bn(O:Yi P)(f:Nat){todo:List It}{st:St}(h:step P O n f (.r todo) st Q):ag P n todo st Q:=(Go.bn O f (.r todo) st h).runs
section rules
variable (P:Program) (O:Yi P) (n:Nat) (f:Nat)
def exR(o:Option (List It))(st:St)(Q:St->Prop):Prop:=ed o λk'=>step P O n f (.r k') st Q
def cR(v:V)(a b:bN)(k:List It)(st:St)(Q:St->Prop):Prop:=dY v (λt=>both t true (step P O n f (.r (.code a::k)) st Q) (step P O n f (.r (.code b::k)) st Q)) False
def MI(l:List aC)(k:List It)(d:Option Nat)(st:St)(Q:St->Prop)(o:Option V):Prop:=ed o λv=>step P O n f (.r (.ops l::k)) ⟨aO st.s d v,st.U⟩ Q
def Jr(l:List aC)(k:List It)(d:Option Nat)(st:St)(Q:St->Prop)(o:Option ad):Prop:=ed o λZ'=>step P O n f (.r (.ops l::k)) ⟨aO st.s d (.WC []),Z'⟩ Q
def Gq(l:List aC)(k:List It)(d:Option Nat)(st:St)(Q:St->Prop)(o:Option (Nat->V×ad)):Prop:=
 ed o λg=>∀id,st.U id=none->step P O n f (.r (.ops l::k)) ⟨aO st.s d (g id).1,(g id).2⟩ Q
def JF(l:List aC)(k:List It)(d:Option Nat)(op:Xd)(g:Option (VX×Bool))(st:St)(Q:St->Prop)(o:Option V):Prop:=
 Aa o (λv=>step P O n f (.r (.ops l::k)) ⟨aO st.s d v,st.U⟩ Q) (ag P n (.ops (⟨d,op,g⟩::l)::k) st Q)
def vW(q:Nat)(d:Option Nat)(op:Xd)(g:Option (VX×Bool))(l:List aC)(k:List It)(st:St)(Q:St->Prop):Prop:=
 xG O q d op st (λst=>step P O n f (.r (.ops l::k)) st Q) (ag P n (.ops (⟨d,op,g⟩::l)::k) st Q)
def gR(v:V)(d:Option Nat)(op:Xd)(x:VX)(b:Bool)(l:List aC)(k:List It)(st:St)(Q:St->Prop):Prop:=
 dY v (λc=>both c b (vW P O n f (aZ op) d op (some (x,b)) l k (st.lit x (.bool b)) Q)
  (step P O n f (.r (.ops l::k)) ⟨aO (st.lit x (.bool !b)).s d (.WC []),(st.lit x (.bool !b)).U⟩ Q)) (step P O n f (.r (.ops l::k)) ⟨aO st.s d (.WC []),st.U⟩ Q)
def ME(l:List aC)(k:List It)(d:Option Nat)(st:St)(Q:St->Prop)(o:Option V):Prop:=ed o λv=>step P O n f (.d l k) ⟨aO st.s d v,st.U⟩ Q
def HZ(l:List aC)(k:List It)(d:Option Nat)(st:St)(Q:St->Prop)(o:Option ad):Prop:=ed o λZ'=>step P O n f (.d l k) ⟨aO st.s d (.WC []),Z'⟩ Q
def Gt(l:List aC)(k:List It)(d:Option Nat)(st:St)(Q:St->Prop)(o:Option (Nat->V×ad)):Prop:=
 ed o λg=>∀id,st.U id=none->step P O n f (.d l k) ⟨aO st.s d (g id).1,(g id).2⟩ Q
def Jd(l:List aC)(k:List It)(d:Option Nat)(op:Xd)(g:Option (VX×Bool))(st:St)(Q:St->Prop)(o:Option V):Prop:=
 Aa o (λv=>step P O n f (.d l k) ⟨aO st.s d v,st.U⟩ Q) (Go P n (.d (⟨d,op,g⟩::l) k) st Q)
def xF(q:Nat)(d:Option Nat)(op:Xd)(g:Option (VX×Bool))(l:List aC)(k:List It)(st:St)(Q:St->Prop):Prop:=
 xG O q d op st (λst=>step P O n f (.d l k) st Q) (Go P n (.d (⟨d,op,g⟩::l) k) st Q)
def gD(v:V)(d:Option Nat)(op:Xd)(x:VX)(b:Bool)(l:List aC)(k:List It)(st:St)(Q:St->Prop):Prop:=
 dY v (λc=>both c b (xF P O n f (aZ op) d op (some (x,b)) l k (st.lit x (.bool b)) Q)
  (step P O n f (.d l k) ⟨aO (st.lit x (.bool !b)).s d (.WC []),(st.lit x (.bool !b)).U⟩ Q)) (step P O n f (.d l k) ⟨aO st.s d (.WC []),st.U⟩ Q)
variable {P O n} {f}
def yS(s:Nat->V)(d:Nat)(v:V)(i:Nat):aO s (some d) v i=if i=d then v else s i:=rfl
def yL(s:Nat->V)(v:V)(i:Nat):aO s none v i=s i:=rfl
def MP(st:St)(d:Nat)(v:V):st.lit (.t d) v=⟨aO st.s (some d) v,st.U⟩:=rfl
def MQ(st:St)(u v:V):st.lit (.c u) v=st:=rfl
def Rx(s:Nat->V)(d:Nat):VX.ev s (.t d)=s d:=rfl
def Tf(s:Nat->V)(v:V):VX.ev s (.c v)=v:=rfl
def Jm(d:Option Nat)(op:Xd)(g:Option (VX×Bool))(l:List aC):vW P O n f 0 d op g l k st Q=(eD st.s op/\MI P O n f l k d st Q (aD st.U st.s op)):=rfl
def Ix(d:Option Nat)(op:Xd)(g:Option (VX×Bool))(l:List aC):vW P O n f 1 d op g l k st Q=JF P O n f l k d op g st Q (yT O st.s st.U op):=rfl
def Ja(d:Option Nat)(op:Xd)(g:Option (VX×Bool))(l:List aC):vW P O n f 2 d op g l k st Q=Jr P O n f l k d st Q (jJ st.s st.U op):=rfl
def IY(d:Option Nat)(op:Xd)(g:Option (VX×Bool))(l:List aC):vW P O n f 3 d op g l k st Q=Gq P O n f l k d st Q (YV st.s st.U op):=rfl
def IP(d:Option Nat)(op:Xd)(g:Option (VX×Bool))(l:List aC):vW P O n f 4 d op g l k st Q=ag P n (.ops (⟨d,op,g⟩::l)::k) st Q:=rfl
def v8(d:Option Nat)(op:Xd)(g:Option (VX×Bool))(l:List aC)(v:V):JF P O n f l k d op g st Q (some v)=step P O n f (.r (.ops l::k)) ⟨aO st.s d v,st.U⟩ Q:=rfl
def vg(d:Option Nat)(op:Xd)(g:Option (VX×Bool))(l:List aC):JF P O n f l k d op g st Q none=ag P n (.ops (⟨d,op,g⟩::l)::k) st Q:=rfl
def BS(s:Nat->V)(U:ad)(fx:VX)(xs:List VX):yT O s U (.call fx xs)=match fx.ev s with
 |.fn f caps=>O.get f (xs.map (·.ev s)++caps) U
 |_=>none:=rfl
def HF(d:Option Nat)(op:Xd)(g:Option (VX×Bool))(l:List aC):xF P O n f 0 d op g l k st Q=(eD st.s op/\ME P O n f l k d st Q (aD st.U st.s op)):=rfl
def IS(d:Option Nat)(op:Xd)(g:Option (VX×Bool))(l:List aC):xF P O n f 1 d op g l k st Q=Jd P O n f l k d op g st Q (yT O st.s st.U op):=rfl
def I0(d:Option Nat)(op:Xd)(g:Option (VX×Bool))(l:List aC):xF P O n f 2 d op g l k st Q=HZ P O n f l k d st Q (jJ st.s st.U op):=rfl
def H4(d:Option Nat)(op:Xd)(g:Option (VX×Bool))(l:List aC):xF P O n f 3 d op g l k st Q=Gt P O n f l k d st Q (YV st.s st.U op):=rfl
def vT(d:Option Nat)(op:Xd)(g:Option (VX×Bool))(l:List aC)(v:V):Jd P O n f l k d op g st Q (some v)=step P O n f (.d l k) ⟨aO st.s d v,st.U⟩ Q:=rfl
def wY(d:Option Nat)(op:Xd)(g:Option (VX×Bool))(l:List aC):Jd P O n f l k d op g st Q none=Go P n (.d (⟨d,op,g⟩::l) k) st Q:=rfl
def D3:step P O n (f+1) (.r []) st Q=Q st:=rfl
def BC(μ:St->Prop):step P O n (f+1) (.r (.stop μ::k)) st Q=μ st:=rfl
def tz(id:Nat):step P O n (f+1) (.r (.inBlock id::k)) st Q=step P O n f (.r k) st Q:=rfl
def tK:step P O n (f+1) (.r (.ops []::k)) st Q=step P O n f (.r k) st Q:=rfl
def CD:step P O n (f+1) (.r (.code .skip::k)) st Q=step P O n f (.r k) st Q:=rfl
def D6(a b:bN):step P O n (f+1) (.r (.code (.seq a b)::k)) st Q=step P O n f (.r (.code a::.code b::k)) st Q:=rfl
def yR(id:Nat)(a:bN):step P O n (f+1) (.r (.code (.block id a)::k)) st Q=step P O n f (.r (.code a::.inBlock id::k)) st Q:=rfl
def AT(id:Nat):step P O n (f+1) (.r (.code (.exit id)::k)) st Q=exR P O n f (jj id k) st Q:=rfl
def AW(k':List It):exR P O n f (some k') st Q=step P O n f (.r k') st Q:=rfl
def D7:step P O n (f+1) (.r (.code .ret::k)) st Q=Q st:=rfl
def BR(a:bN):step P O n (f+1) (.r (.code (.loop a)::k)) st Q=ag P n (.code (.loop a)::k) st Q:=rfl
def Am(l e:List aC):step P O n (f+1) (.r (.code (.ua l e)::k)) st Q=step P O n f (.d l (.ops e::k)) st Q:=rfl
def cm(l:List aC)(W9:List (List Nat)):step P O n (f+1) (.r (.code (.regA l W9)::k)) st Q=ag P n (.code (.regA l W9)::k) st Q:=rfl
def xA(g:VX)(ps:List Nat)(a b:bN):step P O n (f+1) (.r (.code (.eN g ps a b)::k)) st Q=ag P n (.code (.eN g ps a b)::k) st Q:=rfl
def Fh(l:List aC):step P O n (f+1) (.r (.code (.reg false l)::k)) st Q=step P O n f (.r (.ops l::k)) st Q:=rfl
def AN(l:List aC):step P O n (f+1) (.r (.code (.reg true l)::k)) st Q=step P O n f (.d l k) st Q:=rfl
def EN:step P O n (f+1) (.d [] k) st Q=step P O n f (.r k) st Q:=rfl
def Au(c:VX)(a b:bN):step P O n (f+1) (.r (.code (.cond c a b)::k)) st Q=cR P O n f (c.ev st.s) a b k st Q:=rfl
def RO(a b:bN):cR P O n f (.bool true) a b k st Q=step P O n f (.r (.code a::k)) st Q:=by simp[cR,dY,both]
def RZ(a b:bN):cR P O n f (.bool false) a b k st Q=step P O n f (.r (.code b::k)) st Q:=by simp[cR,dY,both]
def IE(p:Prop)[Decidable p](a b:bN):cR P O n f (.bool (decide p)) a b k st Q=((p->step P O n f (.r (.code a::k)) st Q)/\(¬p->step P O n f (.r (.code b::k)) st Q)):=by simp[cR,dY,both]
def Eh(d:Option Nat)(op:Xd)(l:List aC):step P O n (f+1) (.r (.ops (⟨d,op,none⟩::l)::k)) st Q=vW P O n f (aZ op) d op none l k st Q:=rfl
def we(d:Option Nat)(l:List aC)(v:V):MI P O n f l k d st Q (some v)=step P O n f (.r (.ops l::k)) ⟨aO st.s d v,st.U⟩ Q:=rfl
def tI(d:Option Nat)(l:List aC)(Z':ad):Jr P O n f l k d st Q (some Z')=step P O n f (.r (.ops l::k)) ⟨aO st.s d (.WC []),Z'⟩ Q:=rfl
def bh(d:Option Nat)(l:List aC)(g:Nat->V×ad):Gq P O n f l k d st Q (some g)=∀id,st.U id=none->step P O n f (.r (.ops l::k)) ⟨aO st.s d (g id).1,(g id).2⟩ Q:=rfl
def Fi(d:Option Nat)(op:Xd)(l:List aC):step P O n (f+1) (.d (⟨d,op,none⟩::l) k) st Q=xF P O n f (aZ op) d op none l k st Q:=rfl
def wN(d:Option Nat)(l:List aC)(v:V):ME P O n f l k d st Q (some v)=step P O n f (.d l k) ⟨aO st.s d v,st.U⟩ Q:=rfl
def tF(d:Option Nat)(l:List aC)(Z':ad):HZ P O n f l k d st Q (some Z')=step P O n f (.d l k) ⟨aO st.s d (.WC []),Z'⟩ Q:=rfl
def dM(d:Option Nat)(l:List aC)(g:Nat->V×ad):Gt P O n f l k d st Q (some g)=∀id,st.U id=none->step P O n f (.d l k) ⟨aO st.s d (g id).1,(g id).2⟩ Q:=rfl
def Cs(d:Option Nat)(op:Xd)(x:VX)(b:Bool)(l:List aC):step P O n (f+1) (.r (.ops (⟨d,op,some (x,b)⟩::l)::k)) st Q=gR P O n f (x.ev st.s) d op x b l k st Q:=rfl
def Is(d:Option Nat)(op:Xd)(x:VX)(b:Bool)(l:List aC):gR P O n f (.WC []) d op x b l k st Q=step P O n f (.r (.ops l::k)) ⟨aO st.s d (.WC []),st.U⟩ Q:=rfl
def MN(d:Option Nat)(op:Xd)(x:VX)(l:List aC):gR P O n f (.bool true) d op x true l k st Q=vW P O n f (aZ op) d op (some (x,true)) l k (st.lit x (.bool true)) Q:=by simp[gR,dY,both]
def MC(d:Option Nat)(op:Xd)(x:VX)(l:List aC):gR P O n f (.bool false) d op x false l k st Q=vW P O n f (aZ op) d op (some (x,false)) l k (st.lit x (.bool false)) Q:=by simp[gR,dY,both]
def My(d:Option Nat)(op:Xd)(x:VX)(l:List aC):gR P O n f (.bool true) d op x false l k st Q=step P O n f (.r (.ops l::k)) ⟨aO (st.lit x (.bool true)).s d (.WC []),(st.lit x (.bool true)).U⟩ Q:=by simp[gR,dY,both]
def MU(d:Option Nat)(op:Xd)(x:VX)(l:List aC):gR P O n f (.bool false) d op x true l k st Q=step P O n f (.r (.ops l::k)) ⟨aO (st.lit x (.bool false)).s d (.WC []),(st.lit x (.bool false)).U⟩ Q:=by simp[gR,dY,both]
def As(p:Prop)[Decidable p](d:Option Nat)(op:Xd)(x:VX)(l:List aC):gR P O n f (.bool (decide p)) d op x true l k st Q=
 ((p->vW P O n f (aZ op) d op (some (x,true)) l k (st.lit x (.bool true)) Q)/\(¬p->step P O n f (.r (.ops l::k)) ⟨aO (st.lit x (.bool false)).s d (.WC []),(st.lit x (.bool false)).U⟩ Q)):=by simp[gR,dY,both]
def Bu(p:Prop)[Decidable p](d:Option Nat)(op:Xd)(x:VX)(l:List aC):gR P O n f (.bool (decide p)) d op x false l k st Q=
 ((¬p->vW P O n f (aZ op) d op (some (x,false)) l k (st.lit x (.bool false)) Q)/\(p->step P O n f (.r (.ops l::k)) ⟨aO (st.lit x (.bool true)).s d (.WC []),(st.lit x (.bool true)).U⟩ Q)):=by simp[gR,dY,both]
def AF(d:Option Nat)(op:Xd)(x:VX)(b:Bool)(l:List aC):step P O n (f+1) (.d (⟨d,op,some (x,b)⟩::l) k) st Q=gD P O n f (x.ev st.s) d op x b l k st Q:=rfl
def Ir(d:Option Nat)(op:Xd)(x:VX)(b:Bool)(l:List aC):gD P O n f (.WC []) d op x b l k st Q=step P O n f (.d l k) ⟨aO st.s d (.WC []),st.U⟩ Q:=rfl
def MR(d:Option Nat)(op:Xd)(x:VX)(l:List aC):gD P O n f (.bool true) d op x true l k st Q=xF P O n f (aZ op) d op (some (x,true)) l k (st.lit x (.bool true)) Q:=by simp[gD,dY,both]
def MA(d:Option Nat)(op:Xd)(x:VX)(l:List aC):gD P O n f (.bool false) d op x false l k st Q=xF P O n f (aZ op) d op (some (x,false)) l k (st.lit x (.bool false)) Q:=by simp[gD,dY,both]
def MY(d:Option Nat)(op:Xd)(x:VX)(l:List aC):gD P O n f (.bool true) d op x false l k st Q=step P O n f (.d l k) ⟨aO (st.lit x (.bool true)).s d (.WC []),(st.lit x (.bool true)).U⟩ Q:=by simp[gD,dY,both]
def MS(d:Option Nat)(op:Xd)(x:VX)(l:List aC):gD P O n f (.bool false) d op x true l k st Q=step P O n f (.d l k) ⟨aO (st.lit x (.bool false)).s d (.WC []),(st.lit x (.bool false)).U⟩ Q:=by simp[gD,dY,both]
def A8(p:Prop)[Decidable p](d:Option Nat)(op:Xd)(x:VX)(l:List aC):gD P O n f (.bool (decide p)) d op x true l k st Q=
 ((p->xF P O n f (aZ op) d op (some (x,true)) l k (st.lit x (.bool true)) Q)/\(¬p->step P O n f (.d l k) ⟨aO (st.lit x (.bool false)).s d (.WC []),(st.lit x (.bool false)).U⟩ Q)):=by simp[gD,dY,both]
def Bm(p:Prop)[Decidable p](d:Option Nat)(op:Xd)(x:VX)(l:List aC):gD P O n f (.bool (decide p)) d op x false l k st Q=
 ((¬p->xF P O n f (aZ op) d op (some (x,false)) l k (st.lit x (.bool false)) Q)/\(p->step P O n f (.d l k) ⟨aO (st.lit x (.bool true)).s d (.WC []),(st.lit x (.bool true)).U⟩ Q)):=by simp[gD,dY,both]
end rules
def aE(P:Program)(f:FuncId)(args:List V)(v:V):Prop:=∀U,av P f args U λr Z'=>r=v/\Z'=U
variable {P:Program} {n:Nat} {st:St} {Q:St->Prop} {k:List It}
def lK:ad:=λ_=>none
def qV(U:ad):aa lK U:=λ_ _ h=>by simp[lK]at h
def V.lone:V->Bool
 |.int ..|.bool _|.str _=>true
 |_=>false
def G'.lone{I Y':Mu}{ow Zw:Nat->Prop}{w w':World}{v:V}{x:Value}(hv:v.lone=true)(h:G' I ow w v x):G' Y' Zw w' v x:=by
 cases v<;>simp only[V.lone,fO]at hv<;>simpa[G']using h
def ai(v:V)(U:ad)(Post:V->ad->Prop):Prop:=∃v' Z',aa Z' U/\Wk U Z' v v'/\Post v' Z'
def E6{s:Nat->V}{U:ad}{d:Nat}{Post:V->ad->Prop}:Ret [.tmp (.t d)] ⟨s,U⟩ Post=ai (s d) U Post:=by
 apply propext;simp only[Ret,ai,oT,fq,iy,VX.ev];constructor
 .rintro⟨v,v',Z',h1,h2⟩;simp only[aI]at h1;subst h1;exact⟨v',Z',h2⟩
 .rintro⟨v',Z',h2⟩;exact⟨_,v',Z',rfl,h2⟩
def EW{s:Nat->V}{U:ad}{d e:Nat}{Post:V->ad->Prop}:Ret [.tmp (.t d),.tmp (.t e)] ⟨s,U⟩ Post=ai (.WC [s d,s e]) U Post:=by
 apply propext;simp only[Ret,ai,oT,fq,iy,VX.ev];constructor
 .rintro⟨v,v',Z',h1,h2⟩;simp only[aI]at h1;subst h1;exact⟨v',Z',h2⟩
 .rintro⟨v',Z',h2⟩;exact⟨_,v',Z',rfl,h2⟩
def xU{s:Nat->V}{U:ad}{d e g:Nat}{Post:V->ad->Prop}:Ret [.tmp (.t d),.tmp (.t e),.tmp (.t g)] ⟨s,U⟩ Post=ai (.WC [s d,s e,s g]) U Post:=by
 apply propext;simp only[Ret,ai,oT,fq,iy,VX.ev];constructor
 .rintro⟨v,v',Z',h1,h2⟩;simp only[aI]at h1;subst h1;exact⟨v',Z',h2⟩
 .rintro⟨v',Z',h2⟩;exact⟨_,v',Z',rfl,h2⟩
def Cw{st:St}{Post:V->ad->Prop}:Ret [] st Post=ai (.WC []) st.U Post:=by
 apply propext;simp only[Ret,ai,oT,fq];constructor
 .rintro⟨v,v',Z',h1,h2⟩;simp only[aI]at h1;subst h1;exact⟨v',Z',h2⟩
 .rintro⟨v',Z',h2⟩;exact⟨_,v',Z',rfl,h2⟩
def ai.pure{v v0:V}{U Z1:ad}(h:aa U Z1)(hv:v=v0):ai v Z1 λr Z'=>r=v0/\Z'=U:=
 ⟨v,U,h,Wk.refl h v,hv,rfl⟩
def ai.same{v v0:V}{U:ad}(hv:v=v0):ai v U λr Z'=>r=v0/\Z'=U:=.pure (aa.refl U) hv
def gm{U:ad}{id i:Nat}{o:Ob}:C' U id o i=none↔i≠id/\U i=none:=by
 unfold C';split<;>simp_all
def af{U:ad}{id:Nat}{o:Ob}:C' U id o id=some o:=by simp[C']
def ab{U:ad}{id i:Nat}{o:Ob}(h:i≠id):C' U id o i=U i:=by simp[C',h]
def WQ{U J:ad}{i j:Nat}{o:Ob}{x:Option Ob}(h:C' U j o=J)(n:i≠j)(a:U i=x):J i=x:=by subst h;rw[ab n];exact a
def XD{U J:ad}{j:Nat}{o:Ob}(h:C' U j o=J):J j=some o:=by subst h;exact af
def cA{U:ad}{id i:Nat}(h:i≠id):del U id i=U i:=by simp[del,h]
def E5{U:ad}{id:Nat}{a b:Ob}:C' (C' U id a) id b=C' U id b:=by
 funext i;simp only[C'];split<;>rfl
def Ec{U:ad}{id:Nat}{a:Ob}(h:U id=none):del (C' U id a) id=U:=by
 funext i;simp only[del,C'];split
 .rename_i e;rw[e,h]
 .rfl
def aa.C'{Z' U:ad}{id:Nat}{o:Ob}(h:aa Z' U)(M':U id=none):aa Z' (Vc.C' U id o):=
 h.Lq (by
  cases hs:Z' id with
  |none=>rfl
  |some x=>have:=h id x hs;rw[M']at this;cases this)
def aa.Np{U Z':ad}{id:Nat}{o:Ob}(h:aa U Z'):aa (Vc.C' U id o) (Vc.C' Z' id o):=λi x hx=>by
 simp only[Vc.C']at hx|-;split at hx
 .rename_i e;rw[ak e];exact hx
 .rename_i e;rw[au e];exact h i x hx
variable {P:Program} {n:Nat} {st:St} {Q:St->Prop} {k:List It} {I:Mu} {w:World}
def yF{rows:List V}{sz:Nat}(h:∀r∈rows,r.cells.length=sz)(k:Nat):flat (rows.drop k)=(flat rows).drop (k*sz):=by
 induction rows generalizing k with
 |nil=>simp[flat]
 |cons r rs ih=>
  have e:∀l,flat (r::l)=r.cells++flat l:=λl=>by simp[flat]
  cases k with
  |zero=>simp[flat]
  |succ k=>
   rw[List.drop_succ_cons,e,ih (λx hx=>h x (by simp[hx])),Nat.add_mul,Nat.one_mul,GM,<-h r (by simp),<-List.drop_drop,List.drop_left]
def ar.replicate{ow:Nat->Prop}{vs:List V}{l:List Value}(h:ar I ow w vs l):∀n,ar I ow w (List.replicate n vs).flatten (List.replicate n l).flatten
 |0=>by simp[ar]
 |n+1=>by
  simp only[List.replicate_succ,List.flatten_cons];exact h.append (ar.replicate h n)
def Ct{F:Fr}{a:Act}(hs:dr F I st a w){o:Oper}{x:Operand}{t e:TypeId}{args:Array Operand}{argTypes:Array TypeId}{i:TypeInfo}{z:Value}
 (hoo:o.op=.call { callee:=.builtin .clear,args:=args,argTypes:=argTypes })(harg:args=#[x])(hty:argTypes[0]?=some t)
 (ht:P.underlying t=some (.slice e))(hz:zeroOf P e=some (i,z)){id off len:Nat}(h1:(cx F.n x).ev st.s=.own id off len){ob:Ob}(h2:st.U id=some ob)
 (h3:ob.sz=i.size)(h4:off+len<=ob.rows.length):
 ∃y w',(execOp a.eval o).run P w=.ok (.value y) w'/\
  dr F I ⟨aO st.s (o.dst.filter (·<F.n)) (.WC []),C' st.U id { ob with rows:=ob.rows.take off++List.replicate len (ofValue z)++ob.rows.drop (off+len) }⟩ (a.put o.dst y) w':=by
 obtain⟨hi,hz0,hk,hzs,Xe,Yh⟩:=fe hz;have R:=cL hs;have hx:=R x;rw[h1]at hx;simp only[G']at hx;have Xq:∀w',(Builtin.clear_ argTypes o.type #[a.eval x]).run P w=.ok (.tuple #[]) w'->(execOp a.eval o).run P w=.ok (.value (.tuple #[])) w':=by
  intro w' hw';unfold execOp;rw[hoo];simp[resolve,invoke,Go.builtin,harg,hw']
 have ZF:G' I (aA I st.U) w (.WC []) (.tuple #[]):=by simp only[G'];exact⟨[],rfl,by simp[ar]⟩
 have hzero:len=0->∃y w',(execOp a.eval o).run P w=.ok (.value y) w'/\
  dr F I ⟨aO st.s (o.dst.filter (·<F.n)) (.WC []),C' st.U id { ob with rows:=ob.rows.take off++List.replicate len (ofValue z)++ob.rows.drop (off+len) }⟩ (a.put o.dst y) w':=by
  intro h0;subst h0;have hX:∃b c,a.eval x=.slice b 0 c:=by
   split at hx
   .exact hx.elim
   .exact⟨_,_,hx.1⟩
   .obtain⟨o',c,h,_⟩:=hx;exact⟨_,_,h⟩
  obtain⟨b,c,hX⟩:=hX;have WM:C' st.U id { ob with rows:=ob.rows.take off++List.replicate 0 (ofValue z)++ob.rows.drop (off+0) }=st.U:=by
   funext j;simp only[C',List.replicate_zero,iN,Nat.add_zero,rZ];split
   .rename_i e';rw[e',h2]
   .rfl
  rw[WM];refine⟨.tuple #[],w,Xq w ?_,hs.pure ZF⟩;rw[hX];cases b<;>simp[Builtin.clear_,hty,run_underlying ht]
 split at hx
 .exact hx.elim
 .exact hzero hx.2.2
 .rename_i b szb cap M';obtain⟨o',c,hX,c1,c2,c3,hz0⟩:=hx;by_cases h0:len=0
  .exact hzero h0
  have XL:=hs.sat.obj id ob h2;rw[M']at XL;obtain⟨cur,e1,e2,e3,e4,e5,e6,e7⟩:=XL.plain hz0;obtain⟨g1,xs,g2,g3,g4,g5⟩:=e7.cur e1;have hoff:o'=off*szb:=by
   rcases c3 with c3|c3
   .exact c3
   .omega
  subst hoff;have W2:szb=i.size:=by omega
  subst W2;have hzl:z.cells.size=i.size:=hzs;have hnews:=kM z.cells len;have Yb:(Builtin.zeroCells z.cells len).toList.length=len*i.size:=by rw[hnews];simp[hzl]
  have hbound:off*i.size+len*i.size<=ob.rows.length*i.size:=by rw[<-Nat.add_mul];exact Nat.mul_le_mul_right _ h4
  have hbound2:ob.rows.length*i.size<=cap*i.size:=Nat.mul_le_mul_right _ e5;have hone':∀u∈(Builtin.zeroCells z.cells len).toList,u.oneCell'=true:=by
   rw[hnews];intro u hu;simp only[List.mem_flatten,List.mem_replicate]at hu;obtain⟨l,⟨_,rfl⟩,hu⟩:=hu;exact Xe u hu
  have WM:=run_storeCells_at P b (off*i.size) ob.elem (Builtin.zeroCells z.cells len).toList 0 cur w e1 (by rw[Yb];omega) hone';simp only[Nat.add_zero]at WM;refine⟨.tuple #[],w.setRow b (cur.toList.take (off*i.size)++(Builtin.zeroCells z.cells len).toList++cur.toList.drop (off*i.size+(Builtin.zeroCells z.cells len).toList.length)).toArray,Xq _ ?_,?_⟩
  .rw[hX];obtain⟨m,rfl⟩:∃m,len=m+1:=⟨len-1,by omega⟩
   simp only[Builtin.clear_,hty,Sem.run_bind,List.getElem?_toArray,Sem.run_pure,Result.andThen_ok,run_underlying ht,ej hz];simp[WM,run_underlying ht,ej hz]
  .have hgrow:w.grownBy (w.setRow b (cur.toList.take (off*i.size)++(Builtin.zeroCells z.cells len).toList++cur.toList.drop (off*i.size+(Builtin.zeroCells z.cells len).toList.length)).toArray) (some b):=
    ⟨rfl,rfl,rfl,by simp,λkk _ hkk=>setRow_other w b kk _ (λe=>hkk (by rw[e]))⟩
   have hzc:(ofValue z).cells.length=i.size:=by rw[hU Xe];simp[hzl]
   have hrows':∀q∈ob.rows.take off++List.replicate len (ofValue z)++ob.rows.drop (off+len),q.cells.length=i.size:=by
    intro q hq;simp only[dH]at hq;rcases hq with(hq|hq)|hq
    .exact g1 q (rB hq)
    .rw[(List.mem_replicate.1 hq).2];exact hzc
    .exact g1 q (List.mem_of_mem_drop hq)
   have hflat:flat (ob.rows.take off++List.replicate len (ofValue z)++ob.rows.drop (off+len))=
    (flat ob.rows).take (off*i.size)++(List.replicate len (ofValue z).cells).flatten++(flat ob.rows).drop (off*i.size+len*i.size):=by
    rw[iL,iL,uO,sk g1];congr 1;rw[yF g1,Nat.add_mul]
   have hzr:ar I (aA I st.U) w (ofValue z).cells z.cells.toList:=by rw[hU Xe];exact fN _
   have hch:=hs.sat.change h2 M' (by omega) hgrow _ (ob.rows.take off++List.replicate len (ofValue z)++ob.rows.drop (off+len)) (xs.take (off*i.size)++(Builtin.zeroCells z.cells len).toList++xs.drop (off*i.size+(Builtin.zeroCells z.cells len).toList.length))
    (setRow_heap w b cur _ ob.elem _ e1) (by simp only[List.size_toArray,gn,jb,re,Yb];rw[Array.length_toList];omega) (by simp;omega) hrows'
    (by rw[hflat,Yb,hnews];exact((g2.take _).append (hzr.replicate len)).append (g2.drop _))
    (by intro u hu
        simp only[dH]at hu;rcases hu with(hu|hu)|hu
        .exact g3 u (rB hu)
        .exact hone' u hu
        .exact g3 u (List.mem_of_mem_drop hu))
    (by intro j u hu
        have:=lJ cur.toList xs _ g5 (off*i.size) (by rw[Yb,g4];omega) j u hu;simpa using this)
   exact hs.step hch.1 (dx.refl _) hch.2 (by simp) (by simp only[G'];exact⟨[],rfl,by simp[ar]⟩)
def ag.clear{i:aC}{l:List aC}{sz:Nat}{z:V}{xv:VX}(hw:bg st.s i.g=some true)(ho:i.op=.clear sz z xv)
 {id off len:Nat}(h1:xv.ev st.s=.own id off len){ob:Ob}(h2:st.U id=some ob)(h3:ob.sz=sz)(h4:off+len<=ob.rows.length)
 (h:ag P n (.ops l::k) ⟨aO st.s i.dst (.WC []),C' st.U id { ob with rows:=ob.rows.take off++List.replicate len z++ob.rows.drop (off+len) }⟩ Q):ag P n (.ops (i::l)::k) st Q:=by
 refine ag.ins (by rw[ho];simp) hw λF hn I a w o all hi hs next Q' WN=>?_
 subst hn;obtain⟨WO,hd⟩:=ee hi;rw[ho]at WO;obtain⟨x,t,e,args,argTypes,ti,zv,g1,g2,g3,g4,g5,rfl,rfl,rfl⟩:=FT WO;obtain⟨y,w',hx,W2⟩:=Ct hs g1 g2 g3 g4 g5 h1 h2 h3 h4;unfold Oper.wp;rw[hx];refine WN _ _ _ ⟨I,?_⟩ h;rw[<-hd];exact W2
def Ij{y:Operand}{t:TypeId}{v:V}:cx n y≠.c (.iface t v):=by
 cases y
 case tmp m=>simp only[cx];split<;>simp
 case const u=>
  simp only[cx,ne_eq,VX.c.injEq];unfold ofValue;split
  .split<;>simp
  .unfold cellOf
   repeat' split
   all_goals simp
 all_goals simp[cx]
def BD{o:Op}{xa:VX}(h:Xb P n o=.binB false xa (.c (.iface 0 .undef))):∃t x y m c yt e,o=.binOp .eql t x y yt/\y=.const (.slice none m c)/\P.underlying t=some (.slice e)/\cx n x=xa:=by
 cases o
 case binOp op t x y yt=>
  simp only[Xb]at h;split at h
  .cases op<;>simp only[reduceCtorEq,Xd.binB.injEq,Bool.true_eq_false,false_and]at h;exact absurd h.2.2 Ij
  .split at h
   .cases op<;>simp only[reduceCtorEq]at h
   .cases h
  .split at h
   .rename_i hs;unfold cG at h;split at h
    .rename_i hy;obtain⟨rfl,hy⟩:=hy;simp only[Xd.binB.injEq,and_true,true_and]at h;unfold yV at hs;split at hs
     .rename_i e ht;unfold GP SV at hy;split at hy
      .split at hy
       .exact⟨t,x,_,_,_,yt,e,rfl,rfl,ht,h⟩
       .cases hy
      .cases hy
     .cases hs
    .cases h
   .split at h
    .split at h
     .simp only[Xd.binB.injEq,VX.c.injEq,V.iface.injEq]at h;exact absurd h.2.2.1 (by decide)
     .cases h
    .split at h
     .split at h
      .simp only[Xd.binB.injEq,VX.c.injEq,V.iface.injEq]at h;exact absurd h.2.2.1 (by decide)
      .cases h
     ·(repeat' split at h)<;>cases h
 case call c=>
  obtain⟨callee,args,argTypes⟩:=c;cases callee
  case builtin b=>cases b<;>simp only[Xb]at h<;>(repeat' split at h)<;>cases h
  all_goals (simp only[Xb]at h;cases h)
 case unOp op t x=>cases op<;>simp only[Xb]at h<;>cases h
 case makeFunc f a b=>cases f<;>simp only[Xb]at h<;>(repeat' split at h)<;>cases h
 all_goals (simp only[Xb]at h;(repeat' split at h)<;>cases h)
def ag.GP{i:aC}{l:List aC}{xa:VX}(hw:bg st.s i.g=some true)(ho:i.op=.binB false xa (.c (.iface 0 .undef))){sz:Nat}{rows:List V}
 (hx:xa.ev st.s=.sl sz rows)(h:∀b,(b=true->rows=[])->ag P n (.ops l::k) ⟨aO st.s i.dst (.bool b),st.U⟩ Q):ag P n (.ops (i::l)::k) st Q:=by
 refine ag.ins (by rw[ho];simp) hw λF hn I a w o all hi hs next Q' WN=>?_
 subst hn;obtain⟨WO,hd⟩:=ee hi;rw[ho]at WO;obtain⟨t,x,y,m,c,yt,e,g1,rfl,g2,rfl⟩:=BD WO;have R:=cL hs x;rw[hx]at R;simp only[G']at R;obtain⟨ba,cap,hX,_,hr⟩:=R;have Xq:(execOp a.eval o).run P w=.ok (.value (.bool ba.isNone)) w:=by
  unfold execOp;rw[g1];have hY:a.eval (.const (.slice none m c))=.slice none m c:=rfl;simp[hX,hY,eqGuard,Lib.run_eql_slice_nil w t e ba rows.length cap m c g2]
 unfold Oper.wp;rw[Xq];refine WN _ _ _ ⟨I,?_⟩ (h ba.isNone ?_)
 .rw[<-hd];exact hs.pure (by simp[G'])
 .intro hb;rcases hr with hr|⟨b,off,rfl,_⟩
  .exact hr
  .cases hb
end Go.Vc
