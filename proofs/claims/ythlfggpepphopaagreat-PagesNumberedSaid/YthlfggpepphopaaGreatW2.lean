/- Part 2 of the library of this proof. -/
import Derived.Test.YthlfggpepphopaaGreatW1
import Derived.TacticsIn
import Derived.RangeFuncNested
import Derived.RangeFuncLeaves
import Derived.Orders
import Derived.OrdersIn
import Derived.Lib.SliceRun
import Derived.WideLaws
import Derived.Attr
import Derived.Laws.RangeString
import Derived.Laws.Runes
set_option linter.all false
set_option maxHeartbeats 1000000
namespace Go.Vc
inductive It where
 | code (c:bB)
 | inBlock (id:Nat)
 | ops (l:List aG)
 | stop (I:St→Prop)
inductive KI where
 | code (c:Code)
 | inBlock (id:Nat)
 | ops (all:Array Oper) (l:List Oper)
 | stop (I:St→Prop)
def KI.it (P:Program) (n:Nat):KI→It
 | .code c=>.code (cZ P n c)
 | .inBlock id=>.inBlock id
 | .ops all l=>.ops (l.map (cP P n all))
 | .stop I=>.stop I
def Fr.ei (F:Fr):Fence:={ Fence.wide with round:=F.rd.map (·.1) }
theorem jx (F:Fr):F.ei.depth.isSome=true→1≤0:=fun h=>by simp [Fr.ei,Fence.wide] at h
theorem mS {F:Fr} {n:Nat} {P:Program} {f:FuncId} {args:Array Value} {w:World} {R:Ending→World→Prop} (h:Calls P f args w R):CallsIn F.ei n P f args w R:=by
 have h1:CallsIn Fence.wide n P f args w R:=callsIn_wide.2 h;exact h1
theorem Hf {F:Fr} {P:Program} {o:Oper} {a:Act} {w:World} {next:Act→World→Prop} {Q:Exit→Act→World→Prop} (hd:∀c,o.op≠.defer c) (h:o.wp P a w next Q) :
 o.wpIn F.ei 0 P a w next Q:=by
 refine ⟨fun _ _=>trivial,?_⟩;rw [Oper.semAt_eq _ _ _ hd];unfold Oper.wp at h;generalize (execOp a.eval o).run P w=r at *;cases r with
 | ok x w' =>
   cases x <;> simp only [Oper.upon,Oper.uponIn] at h ⊢ <;> first
    | exact h
    | exact ⟨jx F,mS h⟩
    | contradiction
    | skip
   exact ⟨jx F,fun c cs _=>let ⟨v,w',r,s⟩:=h c cs; ⟨v,w',r,stepsIn_wide.2 s⟩⟩
 | halt x w'=>cases x <;> simp only [Oper.upon,Oper.uponIn] at h ⊢ <;> first | exact h | contradiction
theorem lY {P:Program} {n:Nat} {o:Op} (h:cop P n o≠.bad) (c:Call):o≠.defer c:=fun e=>by subst e; exact h rfl
def jX (P:Program) (F:Fr) (Q:St→Prop):List KI→Exit→Act→World→Prop
 | [],e,a,w=>(e=.normal∨e=.ret)∧∃st,Q st∧eZ F st a w
 | .code c::k,e,a,w=>match e with
    | .normal=>c.wpIn F.ei 0 P (jX P F Q k) a w
    | e=>jX P F Q k e a w
 | .inBlock id::k,e,a,w=>Exit.inBlock id (jX P F Q k) e a w
 | .ops all l::k,e,a,w=>match e with
    | .normal=>wpListIn F.ei 0 P all (jX P F Q k) l a w
    | e=>jX P F Q k e a w
 | .stop I::k,e,a,w=>match e with
    | .normal=>∃st,I st∧eZ F st a w
    | e=>jX P F Q k e a w
def ad (P:Program) (n:Nat) (todo:List It) (st:St) (Q:St→Prop):Prop :=
 ∀F:Fr,F.n=n→∀kt:List KI,kt.map (KI.it P n)=todo→∀a w,eZ F st a w→jX P F Q kt .normal a w
variable {P:Program} {n:Nat} {st:St} {Q:St→Prop} {k:List It}
theorem ad.nil (h:Q st):ad P n [] st Q:=by
 intro F _ kt hk a w hs;cases kt with
 | nil=>exact ⟨.inl rfl,st,h,hs⟩
 | cons x kt=>simp at hk
theorem dW {kt:List KI} {x:It} (h:kt.map (KI.it P n)=x::k):∃y kt',kt=y::kt'∧y.it P n=x∧kt'.map (KI.it P n)=k:=by
 cases kt with
 | nil=>simp at h
 | cons y kt'=>simp only [List.map_cons,List.cons.injEq] at h; exact ⟨y,kt',rfl,h.1,h.2⟩
theorem fU {y:KI} {c:bB} (h:y.it P n=.code c):∃c0,y=.code c0∧cZ P n c0=c:=by
 cases y <;> simp only [KI.it,It.code.injEq,reduceCtorEq] at h;exact ⟨_,rfl,h⟩
theorem ad.skip (h:ad P n k st Q):ad P n (.code .skip::k) st Q:=by
 intro F hn kt hk a w hs;obtain ⟨y,kt',rfl,hy,hk'⟩:=dW hk;obtain ⟨c0,rfl,hc⟩:=fU hy;have hc0:c0=.skip:=by
  cases c0 <;> simp only [cZ,reduceCtorEq] at hc <;> (try (split at hc; cases hc)) <;> (try (split at hc <;> cases hc)) <;> try rfl
 subst hc0;exact wpIn_skip (h F hn kt' hk' a w hs)
theorem ad.seq {x y:bB} (h:ad P n (.code x::.code y::k) st Q):ad P n (.code (.seq x y)::k) st Q:=by
 intro F hn kt hk a w hs;obtain ⟨z,kt',rfl,hy,hk'⟩:=dW hk;obtain ⟨c0,rfl,hc⟩:=fU hy;have hc0:∃x0 y0,c0=.seq x0 y0∧cZ P n x0=x∧cZ P n y0=y:=by
  cases c0 <;> simp only [cZ,reduceCtorEq,bB.seq.injEq] at hc
  case region=>(split at hc; cases hc); split at hc <;> cases hc
  exact ⟨_,_,rfl,hc.1,hc.2⟩
 obtain ⟨x0,y0,rfl,rfl,rfl⟩:=hc0;refine wpIn_seq (wpIn_mono (h F hn (.code x0::.code y0::kt') (by simp [KI.it,hk']) a w hs) ?_);intro e a' w' hq;cases e <;> exact hq
theorem ad.block {id:Nat} {x:bB} (h:ad P n (.code x::.inBlock id::k) st Q):ad P n (.code (.block id x)::k) st Q:=by
 intro F hn kt hk a w hs;obtain ⟨z,kt',rfl,hy,hk'⟩:=dW hk;obtain ⟨c0,rfl,hc⟩:=fU hy;have hc0:∃x0,c0=.block id x0∧cZ P n x0=x:=by
  cases c0 <;> simp only [cZ,reduceCtorEq,bB.block.injEq] at hc
  case region=>(split at hc; cases hc); split at hc <;> cases hc
  obtain ⟨rfl,h2⟩:=hc;exact ⟨_,rfl,h2⟩
 obtain ⟨x0,rfl,rfl⟩:=hc0;exact wpIn_block (h F hn (.code x0::.inBlock id::kt') (by simp [KI.it,hk']) a w hs)
theorem ad.inBlock {id:Nat} (h:ad P n k st Q):ad P n (.inBlock id::k) st Q:=by
 intro F hn kt hk a w hs;obtain ⟨z,kt',rfl,hy,hk'⟩:=dW hk;cases z <;> simp only [KI.it,It.inBlock.injEq,reduceCtorEq] at hy;exact h F hn kt' hk' a w hs
theorem ad.stop {I:St→Prop} (h:I st):ad P n (.stop I::k) st Q:=by
 intro F hn kt hk a w hs;obtain ⟨z,kt',rfl,hy,hk'⟩:=dW hk;cases z <;> simp only [KI.it,It.stop.injEq,reduceCtorEq] at hy;subst hy;exact ⟨st,h,hs⟩
def dQ (id:Nat):List It→Option (List It)
 | []=>none
 | .inBlock j::k=>if id=j then some k else dQ id k
 | _::k=>dQ id k
theorem kj {F:Fr} {id:Nat} {a:Act} {w:World}:∀ {kt:List KI} {k':List It},dQ id (kt.map (KI.it P n))=some k' →
 (∀kt',kt'.map (KI.it P n)=k'→jX P F Q kt' .normal a w)→jX P F Q kt (.exit id) a w
 | [],_,h,_=>by simp [dQ] at h
 | .code c::kt,_,h,hq=>kj (kt:=kt) (by simpa [KI.it,dQ] using h) hq
 | .ops all l::kt,_,h,hq=>kj (kt:=kt) (by simpa [KI.it,dQ] using h) hq
 | .stop I::kt,_,h,hq=>kj (kt:=kt) (by simpa [KI.it,dQ] using h) hq
 | .inBlock j::kt,k',h,hq=>by
   simp only [List.map_cons,KI.it,dQ] at h;simp only [jX,Exit.inBlock];by_cases hj:id=j
   ·rw [if_pos hj] at h ⊢;simp only [Oi] at h;exact hq kt h
   ·rw [if_neg hj] at h ⊢;exact kj h hq
theorem ad.exit {id:Nat} {k':List It} (hp:dQ id k=some k') (h:ad P n k' st Q):ad P n (.code (.exit id)::k) st Q:=by
 intro F hn kt hk a w hs;obtain ⟨z,kt',rfl,hy,hk'⟩:=dW hk;obtain ⟨c0,rfl,hc⟩:=fU hy;have hc0:c0=.exit id:=by
  cases c0 <;> simp only [cZ,reduceCtorEq,bB.exit.injEq] at hc
  case region=>(split at hc; cases hc); split at hc <;> cases hc
  rw [hc]
 subst hc0;exact wpIn_exit (kj (n:=n) (by rw [hk']; exact hp) (fun kt'' h''=>h F hn kt'' h'' a w hs))
theorem j3 {F:Fr} {a:Act} {w:World} (h:∃st,Q st∧eZ F st a w):∀(kt:List KI),jX P F Q kt .ret a w
 | []=>⟨.inr rfl,h⟩
 | .code _::kt=>j3 h kt
 | .inBlock _::kt=>j3 h kt
 | .ops _ _::kt=>j3 h kt
 | .stop _::kt=>j3 h kt
theorem ad.ret (h:Q st):ad P n (.code .ret::k) st Q:=by
 intro F hn kt hk a w hs;obtain ⟨z,kt',rfl,hy,hk'⟩:=dW hk;obtain ⟨c0,rfl,hc⟩:=fU hy;have hc0:c0=.ret:=by
  cases c0 <;> simp only [cZ,reduceCtorEq] at hc <;> (try (split at hc; cases hc)) <;> (try (split at hc <;> cases hc)) <;> try rfl
 subst hc0;exact wpIn_ret (j3 ⟨st,h,hs⟩ kt')
theorem ad.cond {c:VX} {x y:bB} {b:Bool} (hc:c.ev st.s=.bool b) (h1:b=true→ad P n (.code x::k) st Q) (h2:b=false→ad P n (.code y::k) st Q) :
 ad P n (.code (.cond c x y)::k) st Q:=by
 intro F hn kt hk a w hs;obtain ⟨z,kt',rfl,hy,hk'⟩:=dW hk;obtain ⟨c0,rfl,hcc⟩:=fU hy;have hc0:∃o x0 y0,c0=.cond o x0 y0∧cx n o=c∧cZ P n x0=x∧cZ P n y0=y:=by
  cases c0 <;> simp only [cZ,reduceCtorEq,bB.cond.injEq] at hcc
  case region=>(split at hcc; cases hcc); split at hcc <;> cases hcc
  exact ⟨_,_,_,rfl,hcc.1,hcc.2.1,hcc.2.2⟩
 obtain ⟨o,x0,y0,rfl,rfl,rfl,rfl⟩:=hc0;obtain ⟨μ,hs'⟩:=hs;have he:=ck hs' o;rw [hn,hc] at he;simp only [Rep] at he;exact wpIn_cond_split he (fun hb=>h1 hb F hn (.code x0::kt') (by simp [KI.it,hk']) a w ⟨μ,hs'⟩) (fun hb=>h2 hb F hn (.code y0::kt') (by simp [KI.it,hk']) a w ⟨μ,hs'⟩)
theorem ad.region {l:List aG} (h:ad P n (.ops l::k) st Q):ad P n (.code (.reg false l)::k) st Q:=by
 intro F hn kt hk a w hs;obtain ⟨z,kt',rfl,hy,hk'⟩:=dW hk;obtain ⟨c0,rfl,hcc⟩:=fU hy;have hc0:∃id ops,c0=.region id ops false∧ops.toList.map (cP P n ops)=l:=by
  cases c0 <;> simp only [cZ,reduceCtorEq] at hcc;rename_i id ops draw;cases draw
  ·simp only [Bool.false_and,Bool.false_eq_true,if_false,bB.reg.injEq,true_and] at hcc;exact ⟨id,ops,rfl,hcc⟩
  ·simp only [Bool.true_and] at hcc;split at hcc
   ·cases hcc
   ·split at hcc
    ·cases hcc
    ·simp at hcc
 obtain ⟨id,ops,rfl,rfl⟩:=hc0;exact wpIn_region_list (h F hn (.ops ops ops.toList::kt') (by simp [KI.it,hk']) a w hs)
theorem ad.A6 (h:ad P n k st Q):ad P n (.ops []::k) st Q:=by
 intro F hn kt hk a w hs;obtain ⟨z,kt',rfl,hy,hk'⟩:=dW hk;cases z <;> simp only [KI.it,It.ops.injEq,reduceCtorEq,List.map_eq_nil_iff] at hy;subst hy;exact h F hn kt' hk' a w hs
def bh (s:Nat→V):Option (VX×Bool)→Option Bool
 | none=>some true
 | some (x,b)=>match x.ev s with
    | .bool c=>some (c == b)
    | .tup []=>some false
    | .int _ _=>some false
    | _=>none
theorem ra {F:Fr} {μ:Mu} {st:St} {a:Act} {w:World} (hs:cN F μ st a w) (all:Array Oper) (o:Oper) {b:Bool} (h:bh st.s (cP P F.n all o).g=some b) :
 Region.wanted o (yielded all a.tmps)=b:=by
 unfold Region.wanted;cases hg:o.guard with
 | none=>simp [cP,hg,bh] at h; simp [h]
 | some g =>
   obtain ⟨j,want⟩:=g;simp only [cP,hg,Option.map_some,bh] at h;cases hd:(all[j]?).bind (·.dst) with
   | none =>
     simp only [hd,VX.ev] at h;simp only [Oi] at h;subst h;simp [yielded,hd]
   | some d =>
     simp only [hd] at h;by_cases hdn:d < F.n
     ·simp only [if_pos hdn,VX.ev] at h;have hr:=hs.slot d hdn;have hget:a.tmps[d]?=some (a.tmps.getD d undef):=by
       rw [Array.getD_eq_getD_getElem?,Array.getElem?_eq_getElem (by rw [hs.size]; exact hdn)]; rfl
      simp only [yielded,hd,Option.bind_some,hget];split at h
      ·rename_i c hc;rw [hc] at hr;simp only [Rep] at hr;rw [hr];simp only [Oi] at h;rw [←h];rfl
      ·rename_i hc;rw [hc] at hr;simp only [Rep,au] at hr;obtain ⟨vals,hv,rfl⟩:=hr;rw [hv];simp only [Oi] at h;rw [←h];rfl
      ·rename_i hc;rw [hc] at hr;simp only [Rep] at hr;rw [hr];simp only [Oi] at h;rw [←h];rfl
      ·cases h
     ·simp only [if_neg hdn,VX.ev] at h;simp only [Oi] at h;have hle:a.tmps.size≤d:=by rw [hs.size]; exact Nat.le_of_not_lt hdn
      have:a.tmps[d]?=none:=Array.getElem?_eq_none hle;simp [yielded,hd,this,←h]
def St.put (st:St) (d:Option Nat) (v:V):St:=⟨aV st.s d v,st.σ⟩
theorem ad.Ij {i:aG} {l:List aG} (hw:bh st.s i.g=some true)
 (h:∀(F:Fr),F.n=n→∀(μ:Mu) (a:Act) (w:World) (o:Oper) (all:Array Oper),cP P n all o=i→cN F μ st a w →
   ∀(next:Act→World→Prop) (Q':Exit→Act→World→Prop),(∀st' a' w',eZ F st' a' w'→ad P n (.ops l::k) st' Q→next a' w')→o.wpIn F.ei 0 P a w next Q') :
 ad P n (.ops (i::l)::k) st Q:=by
 intro F hn kt hk a w hs;obtain ⟨z,kt',rfl,hy,hk'⟩:=dW hk;cases z <;> simp only [KI.it,It.ops.injEq,reduceCtorEq] at hy;rename_i all os;cases os with
 | nil=>simp at hy
 | cons o os =>
   simp only [List.map_cons,List.cons.injEq] at hy;obtain ⟨hi,hl⟩:=hy;obtain ⟨μ,hs'⟩:=hs;have hwant:=ra (P:=P) hs' all o (b:=true) (by rw [hn,hi]; exact hw);simp only [jX,wpListIn,hwant,if_true];refine h F hn μ a w o all hi hs' _ _ ?_;intro st' a' w' hs'' hsem;exact hsem F hn (.ops all os::kt') (by simp [KI.it,hl,hk']) a' w' hs''
theorem ad.ins {i:aG} {l:List aG} (hb:i.op≠.bad) (hw:bh st.s i.g=some true)
 (h:∀(F:Fr),F.n=n→∀(μ:Mu) (a:Act) (w:World) (o:Oper) (all:Array Oper),cP P n all o=i→cN F μ st a w →
   ∀(next:Act→World→Prop) (Q':Exit→Act→World→Prop),(∀st' a' w',eZ F st' a' w'→ad P n (.ops l::k) st' Q→next a' w')→o.wp P a w next Q') :
 ad P n (.ops (i::l)::k) st Q:=by
 refine ad.Ij hw fun F hn μ a w o all hi hs next Q' hnext=>Hf ?_ (h F hn μ a w o all hi hs next Q' hnext)
 refine lY (P:=P) (n:=n) ?_;have:i.op=cop P n o.op:=by rw [←hi]; rfl
 rw [←this]; exact hb
theorem ad.qX {i:aG} {l:List aG} (hw:bh st.s i.g=some false) (h:ad P n (.ops l::k) (st.put i.dst (.tup [])) Q):ad P n (.ops (i::l)::k) st Q:=by
 intro F hn kt hk a w hs;obtain ⟨z,kt',rfl,hy,hk'⟩:=dW hk;cases z <;> simp only [KI.it,It.ops.injEq,reduceCtorEq] at hy;rename_i all os;cases os with
 | nil=>simp at hy
 | cons o os =>
   simp only [List.map_cons,List.cons.injEq] at hy;obtain ⟨hi,hl⟩:=hy;obtain ⟨μ,hs'⟩:=hs;have hwant:=ra (P:=P) hs' all o (b:=false) (by rw [hn,hi]; exact hw);simp only [jX,wpListIn,hwant,Bool.false_eq_true,if_false];refine ⟨fun _ _=>trivial,?_⟩;refine h F hn (.ops all os::kt') (by simp [KI.it,hl,hk']) _ w ⟨μ,?_⟩;have hd:i.dst=o.dst.filter (· < F.n):=by rw [←hi,hn]; rfl
   rw [St.put,hd];exact hs'.pure (by simp only [Rep]; exact ⟨[],rfl,by simp [au]⟩)
theorem ad.pure {i:aG} {l:List aG} {v:V} (hw:bh st.s i.g=some true) (hp:eQ st.s i.op) (hv:aE st.σ st.s i.op=some v)
 (h:ad P n (.ops l::k) (st.put i.dst v) Q):ad P n (.ops (i::l)::k) st Q:=by
 refine ad.ins (fun e=>by rw [e] at hv; simp [aE] at hv) hw fun F hn μ a w o all hi hs next Q' hnext=>?_
 subst hn;have hop:i.op=cop P F.n o.op:=by rw [←hi]; rfl
 have hd:i.dst=o.dst.filter (· < F.n):=by rw [←hi]; rfl
 obtain ⟨z,hz,hr⟩:=p7 hs o (hop ▸ hp) (hop ▸ hv);unfold Oper.wp;rw [hz];refine hnext (st.put i.dst v) _ _ ⟨μ,?_⟩ h;rw [St.put,hd];exact hs.pure hr
variable {P:Program} {n:Nat} {st:St} {Q:St→Prop} {k:List It}
theorem C2 {F:Fr} {o:Oper} {a:Act} {w:World} {next next':Act→World→Prop} {R R':Exit→Act→World→Prop} (h:o.wpIn F.ei 0 P a w next R)
 (hn:∀a w,next a w→next' a w) (hq:∀e a w,e≠.normal→R e a w→R' e a w):o.wpIn F.ei 0 P a w next' R':=by
 refine ⟨h.1,?_⟩;have h:=h.2;generalize (o.semAt F.ei.round a.eval).run P w=r at *;cases r with
 | ok x w' =>
   cases x <;> simp only [Oper.uponIn] at h ⊢ <;> first
    | exact hn _ _ h
    | exact ⟨h.1,CallsIn.mono h.2 (fun e w'' he=>by cases e <;> first | exact hn _ _ he | exact hq _ _ _ (by simp) he | (obtain ⟨a0,w0,h2⟩:=he; exact ⟨a0,w0,hq _ _ _ (by simp) h2⟩))⟩
    | exact ⟨h.1,RowsIn.mono h.2 (fun _ _ he=>hn _ _ he)⟩
    | exact ⟨h.1,RoundIn.mono h.2 (fun e w'' he=>by cases e <;> first | exact hn _ _ he | exact hq _ _ _ (by simp) he | (obtain ⟨a0,w0,h2⟩:=he; exact ⟨a0,w0,hq _ _ _ (by simp) h2⟩))⟩
    | contradiction
 | halt x w'=>cases x <;> simp only [Oper.uponIn] at h ⊢ <;> first | exact hq _ _ _ (by simp) h | contradiction
theorem lT {F:Fr} {all:Array Oper} {R R':Exit→Act→World→Prop} (hq:∀e a w,R e a w→R' e a w):∀(l:List Oper) (a:Act) (w:World),wpListIn F.ei 0 P all R l a w→wpListIn F.ei 0 P all R' l a w
 | [],a,w,h=>hq _ _ _ h
 | o::l,a,w,h=>by
   simp only [wpListIn] at h ⊢;split
   ·rename_i hw;simp only [hw,if_true] at h;exact C2 h (lT hq l) (fun e a w _=>hq e a w)
   ·rename_i hw;simp only [hw] at h;exact ⟨h.1,lT hq l _ _ h.2⟩
def Wk (σ σ':af) (v v':V):Prop:=∀(μ:Mu) (w0 w:World) (ow0:Nat→Prop) (x:Value),Sat w0 ow0 μ σ w→Rep μ (aC μ σ) w v x→Rep μ (aC μ σ') w v' x
theorem Wk.refl {σ σ':af} (h:aa σ' σ) (v:V):Wk σ σ' v v:=fun μ _ w _ x _ hr=>Rep.mono (cH.refl μ) (cE.sub w h) (Nat.le_refl _) v x hr
theorem Wk.undef {σ σ':af} (v:V):Wk σ σ' v .undef:=fun _ _ _ _ _ _ _=>by simp [Rep]
theorem Wk.own {σ σ':af} (h:aa σ' σ) {id off len:Nat} {ob:Ob} (ho:σ id=some ob) (hid:σ' id=none) (hl:off+len≤ob.rows.length) :
 Wk σ σ' (.own id off len) (.sl ob.sz ((ob.rows.drop off).take len)):=by
 intro μ w0 w ow0 x hs hr;simp only [Rep] at hr ⊢;have hlen:((ob.rows.drop off).take len).length=len:=by simp; omega
 have hob:=hs.obj id ob ho;split at hr
 ·exact hr.elim
 ·obtain ⟨rfl,rfl,rfl⟩:=hr;exact ⟨none,0,by simp,by simp, .inl (by simp)⟩
 ·rename_i b sz cap hb;obtain ⟨o,c,rfl,h1,h2,h3,hz⟩:=hr;refine ⟨_,c,by rw [hlen],by omega,?_⟩;by_cases h0:len=0
  ·left; subst h0; simp
  ·right;rw [hb] at hob;obtain ⟨g1,g2,g3,g4,g5⟩:=hob.rows hz;have ho':o=off*sz:=by
    rcases h3 with h3 | h3
    ·exact h3
    ·omega
   subst ho' g1;refine ⟨b,_,rfl,?_,g2,?_⟩
   ·rintro ⟨id',ob',sz',cap',e1,e2⟩;have:=hs.inj id' id ob' ob _ _ _ _ _ (h _ _ e1) ho e2 hb;rw [this,hid] at e1;cases e1
   ·have:=(g5.drop off).take len;rw [Nat.zero_add] at this;exact aX.mono (cH.refl μ) (cE.sub w h) (Nat.le_refl _) _ _ _ _ rfl this
def WkL (σ σ':af):List V→List V→Prop
 | [],[]=>True
 | v::vs,v'::vs'=>Wk σ σ' v v'∧WkL σ σ' vs vs'
 | _,_=>False
theorem WkL.all {σ σ':af} {μ:Mu} {w0 w:World} {ow0:Nat→Prop} (hs:Sat w0 ow0 μ σ w):∀ {vs vs':List V} {l:List Value},WkL σ σ' vs vs' →
 au μ (aC μ σ) w vs l→au μ (aC μ σ') w vs' l
 | [],[],_,_,h=>by simpa [au] using h
 | v::vs,v'::vs',l,hw,h=>by
   simp only [au] at h ⊢;obtain ⟨x,xs,rfl,h1,h2⟩:=h;exact ⟨x,xs,rfl,hw.1 μ w0 w ow0 x hs h1,WkL.all hs hw.2 h2⟩
 | [],_::_,_,hw,_=>hw.elim
 | _::_,[],_,hw,_=>hw.elim
theorem Wk.agg {σ σ':af} {vs vs':List V} (h:WkL σ σ' vs vs'):Wk σ σ' (.agg vs) (.agg vs'):=by
 intro μ w0 w ow0 x hs hr;simp only [Rep] at hr ⊢;obtain ⟨vals,rfl,h1,h2⟩:=hr;exact ⟨vals,rfl,WkL.all hs h h1,h2⟩
theorem Wk.tup {σ σ':af} {vs vs':List V} (h:WkL σ σ' vs vs'):Wk σ σ' (.tup vs) (.tup vs'):=by
 intro μ w0 w ow0 x hs hr;simp only [Rep] at hr ⊢;obtain ⟨vals,rfl,h1⟩:=hr;exact ⟨vals,rfl,WkL.all hs h h1⟩
def Kx (st st':St):Prop:=aa st'.σ st.σ∧∀i,Wk st.σ st'.σ (st.s i) (st'.s i)
theorem Kx.sat {st st':St} (h:Kx st st') {F:Fr} {a:Act} {w:World} (hs:eZ F st a w):eZ F st' a w:=by
 obtain ⟨μ,hs⟩:=hs;exact ⟨μ,hs.sat.drop h.1,hs.le,hs.size,hs.book.lS (cE.sub w h.1),fun i hi=>h.2 i μ _ _ _ _ hs.sat (hs.slot i hi)⟩
theorem ad.weaken {todo:List It} {st':St} (h:Kx st st') (hr:ad P n todo st' Q):ad P n todo st Q :=
 fun F hn kt hk a w hs=>hr F hn kt hk a w (h.sat hs)
theorem ua {F:Fence} {m0:Nat} {c:Code} {Q':Exit→Act→World→Prop} (I:Nat→Act→World→Prop)
 (round:∀m a w,I m a w→c.wpIn F m0 P (Exit.then (fun a' w'=>∃m',m' < m∧I m' a' w') Q') a w):∀m a w,I m a w→(Code.loop c).wpIn F m0 P Q' a w:=by
 intro m a w h b k cs hro hb hr;have key:∀m a w,I m a w→∃e a' w',Q' e a' w'∧ArrivesIn (Machine.fenced P F) P (lone (b.atR a (.code c::.inLoop c::k)) cs w) b k cs e a' w':=by
  intro m
  induction m using Nat.strongRecOn with
  | _ m ih =>
    intro a w hI;obtain ⟨e,a₁,w₁,hq,harr⟩:=round m a w hI b (.inLoop c::k) cs hro hb hr;cases e with
    | normal =>
      obtain ⟨m',hlt,hI'⟩:=hq;obtain ⟨e₂,a₂,w₂,hq₂,harr₂⟩:=ih m' hlt a₁ w₁ hI';exact ⟨e₂,a₂,w₂,hq₂, .of_steps (StepsIn.trans harr (.one (fenced_calm hb hr rfl) stepR_inLoop)) harr₂⟩
    | exit id=>exact ⟨_,a₁,w₁,hq, .pass (x:=.inLoop c) rfl (fun _ _=>.inl (by simp)) harr⟩
    | goto l=>exact ⟨_,a₁,w₁,hq, .pass (x:=.inLoop c) rfl (fun _ _=>.inl (by simp)) harr⟩
    | ret=>exact ⟨_,a₁,w₁,hq, .pass (x:=.inLoop c) rfl (fun _ _=>.inl (by simp)) harr⟩
    | panic ch=>exact ⟨_,a₁,w₁,hq, .pass (x:=.inLoop c) rfl (fun _ _=>.inl (by simp)) harr⟩
    | outgrown=>exact ⟨_,a₁,w₁,hq, .pass (x:=.inLoop c) rfl (fun _ _=>.inl (by simp)) harr⟩
 obtain ⟨e,a',w',hq,harr⟩:=key m a w h;exact ⟨e,a',w',hq, .of_steps (.one (fenced_calm hb hr rfl) stepR_loop) harr⟩
theorem ad.loop {x:bB} (I:Nat→St→Prop) (m:Nat) (h0:I m st) (hr:∀m st,I m st→ad P n (.code x::.stop (fun st'=>∃m',m' < m∧I m' st')::k) st Q) :
 ad P n (.code (.loop x)::k) st Q:=by
 intro F hn kt hk a w hs;obtain ⟨z,kt',rfl,hy,hk'⟩:=dW hk;obtain ⟨c0,rfl,hc⟩:=fU hy;have hc0:∃x0,c0=.loop x0∧cZ P n x0=x:=by
  cases c0 <;> simp only [cZ,reduceCtorEq,bB.loop.injEq] at hc
  case region=>(split at hc; cases hc); split at hc <;> cases hc
  exact ⟨_,rfl,hc⟩
 obtain ⟨x0,rfl,rfl⟩:=hc0;refine ua (fun m a w=>∃st,I m st∧eZ F st a w) ?_ m a w ⟨st,h0,hs⟩;rintro m a w ⟨st,hi,hs⟩;refine wpIn_mono (hr m st hi F hn (.code x0::.stop (fun st'=>∃m',m' < m∧I m' st')::kt') (by simp [KI.it,hk']) a w hs) ?_;intro e a' w' h;cases e
 case normal=>obtain ⟨st',⟨m',hlt,hi'⟩,hs'⟩:=h; exact ⟨m',hlt,st',hi',hs'⟩
 all_goals exact h
variable {P:Program} {n:Nat} {st:St} {Q:St→Prop} {k:List It}
theorem uz {o:Op} {e sz:Nat} {z:V} (h:cop P n o=.alloc e sz z):∃i zv,o=.alloc e∧zeroOf P e=some (i,zv)∧i.size=sz∧ofValue zv=z:=by
 cases o
 case alloc t =>
  simp only [cop,ct] at h;split at h
  ·rename_i i zv hz;simp only [VOp.alloc.injEq] at h;obtain ⟨rfl,h2,h3⟩:=h;exact ⟨i,zv,rfl,hz,h2,h3⟩
  ·(repeat' split at h) <;> cases h
 case call c =>
  obtain ⟨callee,args,argTypes⟩:=c;cases callee
  case builtin b=>cases b <;> simp only [cop,ct] at h <;> (repeat' split at h) <;> cases h
  all_goals (simp only [cop,ct] at h; cases h)
 case unOp op t x=>cases op <;> simp only [cop,ct] at h <;> cases h
 case makeFunc f a b=>cases f <;> simp only [cop,ct] at h <;> (repeat' split at h) <;> cases h
 all_goals (simp only [cop,ct] at h; (repeat' split at h) <;> cases h)
theorem uU {o:Op} {sz:Nat} {xa xv:VX} (h:cop P n o=.store sz xa xv):∃t x y,o=.store t x y∧bO P t=true∧P.cellsOf t=sz∧cx n x=xa∧cx n y=xv:=by
 cases o
 case store t x y =>
  simp only [cop,ct] at h;split at h
  ·rename_i hk;simp only [VOp.store.injEq] at h;exact ⟨t,x,y,rfl,hk,h.1,h.2.1,h.2.2⟩
  ·(repeat' split at h) <;> cases h
 case call c =>
  obtain ⟨callee,args,argTypes⟩:=c;cases callee
  case builtin b=>cases b <;> simp only [cop,ct] at h <;> (repeat' split at h) <;> cases h
  all_goals (simp only [cop,ct] at h; cases h)
 case unOp op t x=>cases op <;> simp only [cop,ct] at h <;> cases h
 case makeFunc f a b=>cases f <;> simp only [cop,ct] at h <;> (repeat' split at h) <;> cases h
 all_goals (simp only [cop,ct] at h; (repeat' split at h) <;> cases h)
theorem rS {o:Op} {e sz:Nat} {xs:List VX} (h:cop P n o=.bf e sz xs):∃t len parts i z,o=.buildSlice t len parts∧P.underlying t=some (.slice e)∧zeroOf P e=some (i,z) ∧
 i.size=sz∧parts.toList.map (·.1)=List.range len∧len*i.size≤16777216∧parts.toList.map (fun p=>cx n p.2)=xs:=by
 cases o
 case buildSlice t len parts =>
  simp only [cop,ct] at h;split at h
  ·rename_i e' he;split at h
   ·rename_i i z hz;split at h
    ·rename_i hc;simp only [VOp.bf.injEq] at h;obtain ⟨rfl,h2,h3⟩:=h;exact ⟨t,len,parts,i,z,rfl,he,hz,h2,hc.1,hc.2,h3⟩
    ·cases h
   ·cases h
  ·cases h
 case call c =>
  obtain ⟨callee,args,argTypes⟩:=c;cases callee
  case builtin b=>cases b <;> simp only [cop,ct] at h <;> (repeat' split at h) <;> cases h
  all_goals (simp only [cop,ct] at h; cases h)
 case unOp op t x=>cases op <;> simp only [cop,ct] at h <;> cases h
 case makeFunc f a b=>cases f <;> simp only [cop,ct] at h <;> (repeat' split at h) <;> cases h
 all_goals (simp only [cop,ct] at h; (repeat' split at h) <;> cases h)
theorem F5 {o:Op} {e sz bytes:Nat} {zv:V} {xn:VX} (h:cop P n o=.mk e sz bytes zv xn):∃t l c i z,o=.makeSlice t l c∧P.underlying t=some (.slice e)∧zeroOf P e=some (i,z) ∧
 i.size=sz∧i.bytes=bytes∧ofValue z=zv∧rb l c=true∧cx n l=xn:=by
 cases o
 case makeSlice t l c =>
  simp only [cop,ct] at h;split at h
  ·rename_i e' he;split at h
   ·rename_i i z hz;split at h
    ·rename_i hc;simp only [VOp.mk.injEq] at h;obtain ⟨rfl,h2,h3,h4,h5⟩:=h;exact ⟨t,l,c,i,z,rfl,he,hz,h2,h3,h4,hc,h5⟩
    ·cases h
   ·cases h
  ·cases h
 case call c =>
  obtain ⟨callee,args,argTypes⟩:=c;cases callee
  case builtin b=>cases b <;> simp only [cop,ct] at h <;> (repeat' split at h) <;> cases h
  all_goals (simp only [cop,ct] at h; cases h)
 case unOp op t x=>cases op <;> simp only [cop,ct] at h <;> cases h
 case makeFunc f a b=>cases f <;> simp only [cop,ct] at h <;> (repeat' split at h) <;> cases h
 all_goals (simp only [cop,ct] at h; (repeat' split at h) <;> cases h)
theorem zE {o:Op} {e sz bytes:Nat} {zv:V} {xa xb:VX} (h:cop P n o=.appz e sz bytes zv xa xb):∃t tn kn x y args argTypes i z,o=.call { callee:=.builtin .append,args:=args,argTypes:=argTypes } ∧
 args=#[x,y]∧argTypes=#[t,tn]∧P.underlying t=some (.slice e)∧P.underlying tn=some (.int kn)∧zeroOf P e=some (i,z)∧i.size=sz∧i.bytes=bytes∧ofValue z=zv∧cx n x=xa∧cx n y=xb:=by
 cases o
 case call c =>
  obtain ⟨callee,args,argTypes⟩:=c;cases callee
  case value=>simp [cop] at h
  case invoke=>simp [cop] at h
  case builtin b =>
   cases b
   case append =>
    simp only [cop,ct] at h;split at h
    ·rename_i x y t t' h1 h2;split at h
     ·split at h
      ·split at h <;> cases h
      ·cases h
     ·split at h
      ·rename_i e' kn he hn;split at h
       ·rename_i i z hz;simp only [VOp.appz.injEq] at h;obtain ⟨rfl,h4,h5,h6,h7,h8⟩:=h;exact ⟨t,t',kn,x,y,args,argTypes,i,z,rfl,by apply Array.ext'; simpa using h1,by apply Array.ext'; simpa using h2,he,hn,hz,h4,h5,h6,h7,h8⟩
       ·cases h
      ·split at h <;> cases h
      ·cases h
    ·cases h
   all_goals (simp only [cop,ct] at h; (repeat' split at h) <;> cases h)
 case unOp op t x=>cases op <;> simp only [cop,ct] at h <;> cases h
 case makeFunc f a b=>cases f <;> simp only [cop,ct] at h <;> (repeat' split at h) <;> cases h
 all_goals (simp only [cop,ct] at h; (repeat' split at h) <;> cases h)
theorem rJ {o:Op} {e sz bytes:Nat} {xa xb:VX} (h:cop P n o=.append e sz bytes xa xb):∃t t' x y args argTypes i z,o=.call { callee:=.builtin .append,args:=args,argTypes:=argTypes } ∧
 args=#[x,y]∧argTypes=#[t,t']∧(t'=t∨P.underlying t'=some .string)∧P.underlying t=some (.slice e)∧zeroOf P e=some (i,z)∧i.size=sz∧i.bytes=bytes∧cx n x=xa∧cx n y=xb:=by
 cases o
 case call c =>
  obtain ⟨callee,args,argTypes⟩:=c;cases callee
  case value=>simp [cop] at h
  case invoke=>simp [cop] at h
  case builtin b =>
   cases b
   case append =>
    simp only [cop,ct] at h;split at h
    ·rename_i x y t t' h1 h2;split at h
     ·rename_i htt;subst htt;split at h
      ·rename_i e' he;split at h
       ·rename_i i z hz;simp only [VOp.append.injEq] at h;obtain ⟨rfl,h4,h5,h6,h7⟩:=h;exact ⟨t,t,x,y,args,argTypes,i,z,rfl,by apply Array.ext'; simpa using h1,by apply Array.ext'; simpa using h2, .inl rfl,he,hz,h4,h5,h6,h7⟩
       ·cases h
      ·cases h
     ·split at h
      ·split at h <;> cases h
      ·rename_i e' he hn;split at h
       ·rename_i i z hz;simp only [VOp.append.injEq] at h;obtain ⟨rfl,h4,h5,h6,h7⟩:=h;exact ⟨t,t',x,y,args,argTypes,i,z,rfl,by apply Array.ext'; simpa using h1,by apply Array.ext'; simpa using h2, .inr hn,he,hz,h4,h5,h6,h7⟩
       ·cases h
      ·cases h
    ·cases h
   all_goals (simp only [cop,ct] at h; (repeat' split at h) <;> cases h)
 case unOp op t x=>cases op <;> simp only [cop,ct] at h <;> cases h
 case makeFunc f a b=>cases f <;> simp only [cop,ct] at h <;> (repeat' split at h) <;> cases h
 all_goals (simp only [cop,ct] at h; (repeat' split at h) <;> cases h)
theorem lC {o:Op} {f:VX} {xs:List VX} (h:cop P n o=.call f xs):∃f0 args argTypes,o=.call { callee:=.value f0,args:=args,argTypes:=argTypes }∧cx n f0=f∧args.toList.map (cx n)=xs:=by
 cases o
 case call c =>
  obtain ⟨callee,args,argTypes⟩:=c;cases callee
  case value f0=>simp only [cop,VOp.call.injEq] at h; exact ⟨f0,args,argTypes,rfl,h.1,h.2⟩
  case invoke=>simp [cop] at h
  case builtin b=>cases b <;> simp only [cop,ct] at h <;> (repeat' split at h) <;> cases h
 case unOp op t x=>cases op <;> simp only [cop,ct] at h <;> cases h
 case makeFunc f a b=>cases f <;> simp only [cop,ct] at h <;> (repeat' split at h) <;> cases h
 all_goals (simp only [cop,ct] at h; (repeat' split at h) <;> cases h)
theorem A9 {o:Op} {e sz:Nat} {xv:VX} (h:cop P n o=.box e sz xv):∃x,o=.box e x∧bO P e=true∧P.cellsOf e=sz∧cx n x=xv:=by
 cases o
 case box t x =>
  simp only [cop,ct] at h;split at h
  ·rename_i hk;simp only [VOp.box.injEq] at h;obtain ⟨rfl,h2,h3⟩:=h;exact ⟨x,rfl,hk,h2,h3⟩
  ·cases h
 case call c =>
  obtain ⟨callee,args,argTypes⟩:=c;cases callee
  case builtin b=>cases b <;> simp only [cop,ct] at h <;> (repeat' split at h) <;> cases h
  all_goals (simp only [cop,ct] at h; cases h)
 case unOp op t x=>cases op <;> simp only [cop,ct] at h <;> cases h
 case makeFunc f a b=>cases f <;> simp only [cop,ct] at h <;> (repeat' split at h) <;> cases h
 all_goals (simp only [cop,ct] at h; (repeat' split at h) <;> cases h)
theorem CW {o:Op} {sz:Nat} {z:V} {xv:VX} (h:cop P n o=.clear sz z xv):∃x t e args argTypes i zv,o=.call { callee:=.builtin .clear,args:=args,argTypes:=argTypes } ∧
 args=#[x]∧argTypes[0]?=some t∧P.underlying t=some (.slice e)∧zeroOf P e=some (i,zv)∧i.size=sz∧ofValue zv=z∧cx n x=xv:=by
 cases o
 case call c =>
  obtain ⟨callee,args,argTypes⟩:=c;cases callee
  case builtin b =>
   cases b
   case clear =>
    simp only [cop,ct] at h;split at h
    ·rename_i x t h1 h2;split at h
     ·rename_i e he;split at h
      ·rename_i i zv hz;simp only [VOp.clear.injEq] at h;exact ⟨x,t,e,args,argTypes,i,zv,rfl,by apply Array.ext'; simpa using h1,h2,he,hz,h.1,h.2.1,h.2.2⟩
      ·cases h
     ·cases h
    ·cases h
   all_goals (simp only [cop,ct] at h; (repeat' split at h) <;> cases h)
  all_goals (simp only [cop,ct] at h; cases h)
 case unOp op t x=>cases op <;> simp only [cop,ct] at h <;> cases h
 case makeFunc f a b=>cases f <;> simp only [cop,ct] at h <;> (repeat' split at h) <;> cases h
 all_goals (simp only [cop,ct] at h; (repeat' split at h) <;> cases h)
theorem u6 {F:Fr} {μ:Mu} {a:Act} {w:World} (hs:cN F μ st a w) {o:Oper} {t:TypeId} {x:Operand} (hoo:o.op=.box t x) (hk:bO P t=true)
 (hx:((cx F.n x).ev st.s).cells.length=P.cellsOf t) (hst:((cx F.n x).ev st.s).stays=true) :
 ∃id,st.σ id=none∧∃y w' μ',(execOp a.eval o).run P w=.ok (.value y) w' ∧
  cN F μ' ⟨aV st.s (o.dst.filter (· < F.n)) (.ptr id 0 0),upd st.σ id ⟨t,P.cellsOf t,[(cx F.n x).ev st.s]⟩⟩ (a.put o.dst y) w':=by
 have hpos:=(dp hk).2.2;obtain ⟨g1,g2⟩:=(ck hs x).cells hst;have hl:=(ck hs x).iK hst;obtain ⟨id,hid,μ',h1,h2,h3,h4⟩:=hs.sat.renew (row:=none) (World.grownBy_alloc w (.cells (a.eval x).cells t) none) none (.inl rfl) w.heap.size (P.cellsOf t) 1 (a.eval x).cells t [(cx F.n x).ev st.s] (a.eval x).cells.toList (.inr (Nat.le_refl _))
  (heap_alloc_new w _) hpos (by omega) (by simp) (by simp [maxLen]) (by intro r hr; simp at hr; subst hr; exact hx)
  (by simp only [flat,List.flatMap_cons,List.flatMap_nil,List.append_nil]; exact g1) g2 (by intro j u hu; simpa using hu)
 refine ⟨id,hid, .pointer (some ⟨w.heap.size,0,none⟩),w.alloc (.cells (a.eval x).cells t),μ',?_,hs.step h3 h2 h4 (by simp) (by simp [Rep,h1]; exact hpos)⟩;unfold execOp;rw [hoo];simp [Instr.box,newVar,newRow]
theorem dV {all:Array Oper} {o:Oper} {i:aG} (h:cP P n all o=i):cop P n o.op=i.op∧o.dst.filter (· < n)=i.dst:=by rw [←h]; exact ⟨rfl,rfl⟩
theorem ad.alloc {i:aG} {l:List aG} {e sz:Nat} {z:V} (hw:bh st.s i.g=some true) (ho:i.op=.alloc e sz z)
 (h:∀id,st.σ id=none→ad P n (.ops l::k) ⟨aV st.s i.dst (.ptr id 0 0),upd st.σ id ⟨e,sz,[z]⟩⟩ Q):ad P n (.ops (i::l)::k) st Q:=by
 refine ad.ins (by rw [ho]; simp) hw fun F hn μ a w o all hi hs next Q' hnext=>?_
 subst hn;obtain ⟨hop,hd⟩:=dV hi;rw [ho] at hop;obtain ⟨ti,zv,h1,h2,rfl,rfl⟩:=uz hop;obtain ⟨id,hid,x,w',μ',hx,hs'⟩:=pN hs h1 h2;unfold Oper.wp;rw [hx];refine hnext _ _ _ ⟨μ',?_⟩ (h id hid);rw [←hd];exact hs'
theorem ad.box {i:aG} {l:List aG} {e sz:Nat} {xv:VX} (hw:bh st.s i.g=some true) (ho:i.op=.box e sz xv)
 (hx:(xv.ev st.s).cells.length=sz) (hst:(xv.ev st.s).stays=true)
 (h:∀id,st.σ id=none→ad P n (.ops l::k) ⟨aV st.s i.dst (.ptr id 0 0),upd st.σ id ⟨e,sz,[xv.ev st.s]⟩⟩ Q):ad P n (.ops (i::l)::k) st Q:=by
 refine ad.ins (by rw [ho]; simp) hw fun F hn μ a w o all hi hs next Q' hnext=>?_
 subst hn;obtain ⟨hop,hd⟩:=dV hi;rw [ho] at hop;obtain ⟨x,h1,h2,rfl,rfl⟩:=A9 hop;obtain ⟨id,hid,y,w',μ',hy,hs'⟩:=u6 hs h1 h2 hx hst;unfold Oper.wp;rw [hy];refine hnext _ _ _ ⟨μ',?_⟩ (h id hid);rw [←hd];exact hs'
theorem ad.store {i:aG} {l:List aG} {sz:Nat} {xa xv:VX} (hw:bh st.s i.g=some true) (ho:i.op=.store sz xa xv)
 {id r0 c:Nat} (h1:xa.ev st.s=.ptr id r0 c) {ob:Ob} (h2:st.σ id=some ob) {r r':V} (h3:ob.rows[r0]?=some r) (h4:cc r c sz (xv.ev st.s)=some r')
 (h:ad P n (.ops l::k) ⟨aV st.s i.dst (.tup []),upd st.σ id { ob with rows:=ob.rows.set r0 r' }⟩ Q):ad P n (.ops (i::l)::k) st Q:=by
 refine ad.ins (by rw [ho]; simp) hw fun F hn μ a w o all hi hs next Q' hnext=>?_
 subst hn;obtain ⟨hop,hd⟩:=dV hi;rw [ho] at hop;obtain ⟨t,x,y,g1,g2,rfl,rfl,rfl⟩:=uU hop;obtain ⟨w',hx,hs'⟩:=pX hs g1 g2 h1 h2 h3 h4;unfold Oper.wp;rw [hx];refine hnext _ _ _ ⟨μ,?_⟩ h;rw [←hd];exact hs'
theorem ad.mkS {i:aG} {l:List aG} {e sz bytes:Nat} {zv:V} {xn:VX} (hw:bh st.s i.g=some true) (ho:i.op=.mk e sz bytes zv xn) {m:Int} (hm:xn.ev st.s=.int .i64 m)
 (h0:0≤m) (hb:m.toNat*(bytes+1)≤140737488355328)
 (h:∀id,st.σ id=none→ad P n (.ops l::k) ⟨aV st.s i.dst (.own id 0 m.toNat),upd st.σ id ⟨e,sz,List.replicate m.toNat zv⟩⟩ Q):ad P n (.ops (i::l)::k) st Q:=by
 refine ad.ins (by rw [ho]; simp) hw fun F hn μ a w o all hi hs next Q' hnext=>?_
 subst hn;obtain ⟨hop,hd⟩:=dV hi;rw [ho] at hop;obtain ⟨t,l',c,ti,z,h1,h2,h3,rfl,rfl,rfl,h5,rfl⟩:=F5 hop;obtain ⟨id,hid,x,w',μ',hx',hs'⟩:=zA hs h1 h5 h2 h3 hm h0 hb;unfold Oper.wp;rw [hx'];refine hnext _ _ _ ⟨μ',?_⟩ (h id hid);rw [←hd];exact hs'
theorem ad.LI {i:aG} {l:List aG} {e sz bytes:Nat} {zv:V} {xa xn:VX} (hw:bh st.s i.g=some true) (ho:i.op=.appz e sz bytes zv xa xn) (hx:xa.ev st.s=.aD) {kq:IntKind} {m:Int} (hm:xn.ev st.s=.int kq m)
 (h0:0 < m) (hb:m.toNat*(bytes+1)≤140737488355328)
 (h:∀id,st.σ id=none→ad P n (.ops l::k) ⟨aV st.s i.dst (.own id 0 m.toNat),upd st.σ id ⟨e,sz,List.replicate m.toNat zv⟩⟩ Q):ad P n (.ops (i::l)::k) st Q:=by
 refine ad.ins (by rw [ho]; simp) hw fun F hn μ a w o all hi hs next Q' hnext=>?_
 subst hn;obtain ⟨hop,hd⟩:=dV hi;rw [ho] at hop;obtain ⟨t,tn,kn,x,y,args,argTypes,ti,z,h1,h2,h3,h4,h5,h6,rfl,rfl,rfl,rfl,rfl⟩:=zE hop;obtain ⟨id,hid,x,w',μ',hx',hs'⟩:=sI hs h1 h2 h3 h4 h5 h6 hx hm h0 hb;unfold Oper.wp;rw [hx'];refine hnext _ _ _ ⟨μ',?_⟩ (h id hid);rw [←hd];exact hs'
theorem ad.bf {i:aG} {l:List aG} {e sz:Nat} {xs:List VX} (hw:bh st.s i.g=some true) (ho:i.op=.bf e sz xs)
 (hx:∀x∈xs.map (·.ev st.s),x.cells.length=sz∧x.stays=true)
 (h:∀id,st.σ id=none→ad P n (.ops l::k) ⟨aV st.s i.dst (.own id 0 xs.length),upd st.σ id ⟨e,sz,xs.map (·.ev st.s)⟩⟩ Q):ad P n (.ops (i::l)::k) st Q:=by
 refine ad.ins (by rw [ho]; simp) hw fun F hn μ a w o all hi hs next Q' hnext=>?_
 subst hn;obtain ⟨hop,hd⟩:=dV hi;rw [ho] at hop;obtain ⟨t,len,parts,ti,z,h1,h2,h3,rfl,h5,h6,rfl⟩:=rS hop;rw [List.map_map] at hx;obtain ⟨id,hid,x,w',μ',hx',hs'⟩:=oe hs h1 h2 h3 h5 h6 hx;unfold Oper.wp;rw [hx'];refine hnext _ _ _ ⟨μ',?_⟩ (h id hid);have hl:parts.size=len:=by have:=congrArg List.length h5; simpa using this
 simp only [List.length_map,List.map_map,Array.length_toList,hl,←hd];exact hs'
theorem ad.append {i:aG} {l:List aG} {e sz bytes:Nat} {xa xb:VX} (hw:bh st.s i.g=some true) (ho:i.op=.append e sz bytes xa xb)
 {base src:List V} {idA:Option Nat} (h1:bR st.σ e sz (xa.ev st.s)=some (base,idA)) (h2:bK st.σ sz (xb.ev st.s)=some src)
 (hb:(base.length+src.length)*(bytes+1)≤140737488355328)
 (h:∀id,st.σ id=none→ad P n (.ops l::k) ⟨aV st.s i.dst (.own id 0 (base.length+src.length)),upd (bz st.σ idA) id ⟨e,sz,base++src⟩⟩ Q) :
 ad P n (.ops (i::l)::k) st Q:=by
 refine ad.ins (by rw [ho]; simp) hw fun F hn μ a w o all hi hs next Q' hnext=>?_
 subst hn;obtain ⟨hop,hd⟩:=dV hi;rw [ho] at hop;obtain ⟨t,t',x,y,args,argTypes,ti,z,g1,g2,g3,g3',g4,g5,rfl,rfl,rfl,rfl⟩:=rJ hop;obtain ⟨id,hid,r,w',μ',hx,hs'⟩:=nP hs g1 g2 g3 g3' g4 g5 h1 h2 hb;unfold Oper.wp;rw [hx];refine hnext _ _ _ ⟨μ',?_⟩ (h id hid);rw [←hd];exact hs'
def eK (P:Program) (f:FuncId):Bool:=match P.funcs[f]? with
 | some fn=>fn.name != "runtime.NumGoroutine" && fn.body.isSome
 | none=>false
theorem kD {w:World} {f:FuncId} (h:eK P f=true) (args:Array Value):(callFunc f args).run P w=.ok (.enter f args) w:=by
 unfold eK at h;split at h
 ·rename_i fn hf;simp only [Ba,bne_iff_ne,ne_eq] at h;cases hb:fn.body with
  | none=>simp [hb] at h
  | some c=>simp [callFunc,hf,h.1,hb]
 ·cases h
def az (P:Program) (f:FuncId) (args:List V) (σ:af) (Post:V→af→Prop):Prop:=eK P f=true∧qm P f args σ Post
theorem az.mono {f:FuncId} {args:List V} {σ:af} {Post Post':V→af→Prop} (h:az P f args σ Post) (hp:∀r σ',Post r σ'→Post' r σ') :
 az P f args σ Post':=⟨h.1,h.2.mono hp⟩
theorem au.app {μ:Mu} {ow:Nat→Prop} {w:World} {vs us:List V} {l m:List Value} (h:au μ ow w vs l) (h':au μ ow w us m):au μ ow w (vs++us) (l++m):=h.append h'
theorem nF {F:Fr} {μ:Mu} {a:Act} {w:World} (hs:cN F μ st a w) {o:Oper} {f0:Operand} {args:Array Operand} {argTypes:Array TypeId}
 (hoo:o.op=.call { callee:=.value f0,args:=args,argTypes:=argTypes }) {f:FuncId} {caps:List V} (hf:(cx F.n f0).ev st.s=.fn f caps)
 {Post:V→af→Prop} (hc:az P f ((args.toList.map (cx F.n)).map (·.ev st.s)++caps) st.σ Post) {next:Act→World→Prop} {Q':Exit→Act→World→Prop}
 (hnext:∀r σ',Post r σ'→∀a' w',eZ F ⟨aV st.s (o.dst.filter (· < F.n)) r,σ'⟩ a' w'→next a' w'):o.wp P a w next Q':=by
 have hfr:=ck hs f0;rw [hf] at hfr;simp only [Rep] at hfr;obtain ⟨cvals,hfv,hcr⟩:=hfr;have hargs:=(mj hs args.toList).app hcr;have hrun:(execOp a.eval o).run P w=.ok (.enter f ((args.toList.map a.eval++cvals).toArray)) w:=by
  unfold execOp;rw [hoo];simp only [resolve,hfv,Deferred.ofValue,Sem.run_bind,Sem.run_pure,Result.andThen_ok,invoke,kD hc.1];congr 2;apply Array.ext';simp
 unfold Oper.wp;rw [hrun];simp only [Oper.upon];have hsat:Sat w (aC μ st.σ) μ st.σ w:=by
  have h:=hs.sat;exact ⟨Nat.le_refl _,rfl,rfl,rfl,fun _ _ _=>rfl,h.fin,h.inj,h.obj,fun b hb _=>hb,h.nT⟩
 refine (hc.2 μ w _ hsat hargs).mono ?_;rintro e w' ⟨r,σ',μ',val,rfl,hp,hle,hs',hr⟩;refine hnext r σ' hp _ _ ⟨μ',?_⟩;have hkeep:cE (aC μ st.σ) (aC μ' σ') w w':=fun b hb hn=>⟨fun ho=>hn (hs'.fresh b ho hb),hs'.same b hb hn⟩
 have h0:=hs.sat;have hfin:Sat F.w0 F.ow0 μ' σ' w':=by
  refine ⟨Nat.le_trans h0.size hs'.size,hs'.os.trans h0.os,hs'.tape.trans h0.tape,hs'.output.trans h0.output,?_,hs'.fin,hs'.inj,hs'.obj,?_,h0.glob⟩
  ·intro b hb hn;have h1:¬aC μ st.σ b:=fun ho=>hn (h0.fresh b ho hb);rw [hs'.same b (Nat.lt_of_lt_of_le hb h0.size) h1,h0.same b hb hn]
  ·intro b hb hlt;have h1:=hs'.fresh b hb (Nat.lt_of_lt_of_le hlt h0.size);exact h0.fresh b h1 hlt
 exact hs.step hfin hle hkeep hs'.size hr
theorem ad.call {i:aG} {l:List aG} {fx:VX} {xs:List VX} (hw:bh st.s i.g=some true) (ho:i.op=.call fx xs) {f:FuncId} {caps:List V} (hf:fx.ev st.s=.fn f caps)
 {Post:V→af→Prop} (hc:az P f (xs.map (·.ev st.s)++caps) st.σ Post)
 (h:∀r σ',Post r σ'→ad P n (.ops l::k) ⟨aV st.s i.dst r,σ'⟩ Q):ad P n (.ops (i::l)::k) st Q:=by
 refine ad.ins (by rw [ho]; simp) hw fun F hn μ a w o all hi hs next Q' hnext=>?_
 subst hn;obtain ⟨hop,hd⟩:=dV hi;rw [ho] at hop;obtain ⟨f0,args,argTypes,g1,rfl,rfl⟩:=lC hop;refine nF hs g1 hf hc fun r σ' hp a' w' hs'=>hnext _ a' w' hs' ?_;rw [hd];exact h r σ' hp
theorem yN {F:Fr} {μ:Mu} {a:Act} {w:World} (hs:cN F μ st a w) {o:Oper} {f0:Operand} {args:Array Operand} {argTypes:Array TypeId}
 (hoo:o.op=.call { callee:=.value f0,args:=args,argTypes:=argTypes }) {f:FuncId} {first:List V} (hf:(cx F.n f0).ev st.s=.bm f first)
 {Post:V→af→Prop} (hc:az P f (first++(args.toList.map (cx F.n)).map (·.ev st.s)) st.σ Post) {next:Act→World→Prop} {Q':Exit→Act→World→Prop}
 (hnext:∀r σ',Post r σ'→∀a' w',eZ F ⟨aV st.s (o.dst.filter (· < F.n)) r,σ'⟩ a' w'→next a' w'):o.wp P a w next Q':=by
 have hfr:=ck hs f0;rw [hf] at hfr;simp only [Rep] at hfr;obtain ⟨cvals,hfv,hcr⟩:=hfr;have hargs:=hcr.app (mj hs args.toList);have hrun:(execOp a.eval o).run P w=.ok (.enter f ((cvals++args.toList.map a.eval).toArray)) w:=by
  unfold execOp;rw [hoo];simp only [resolve,hfv,Deferred.ofValue,Sem.run_bind,Sem.run_pure,Result.andThen_ok,invoke,kD hc.1];congr 2;apply Array.ext';simp
 unfold Oper.wp;rw [hrun];simp only [Oper.upon];have hsat:Sat w (aC μ st.σ) μ st.σ w:=by
  have h:=hs.sat;exact ⟨Nat.le_refl _,rfl,rfl,rfl,fun _ _ _=>rfl,h.fin,h.inj,h.obj,fun b hb _=>hb,h.nT⟩
 refine (hc.2 μ w _ hsat hargs).mono ?_;rintro e w' ⟨r,σ',μ',val,rfl,hp,hle,hs',hr⟩;refine hnext r σ' hp _ _ ⟨μ',?_⟩;have hkeep:cE (aC μ st.σ) (aC μ' σ') w w':=fun b hb hn=>⟨fun ho=>hn (hs'.fresh b ho hb),hs'.same b hb hn⟩
 have h0:=hs.sat;have hfin:Sat F.w0 F.ow0 μ' σ' w':=by
  refine ⟨Nat.le_trans h0.size hs'.size,hs'.os.trans h0.os,hs'.tape.trans h0.tape,hs'.output.trans h0.output,?_,hs'.fin,hs'.inj,hs'.obj,?_,h0.glob⟩
  ·intro b hb hn;have h1:¬aC μ st.σ b:=fun ho=>hn (h0.fresh b ho hb);rw [hs'.same b (Nat.lt_of_lt_of_le hb h0.size) h1,h0.same b hb hn]
  ·intro b hb hlt;have h1:=hs'.fresh b hb (Nat.lt_of_lt_of_le hlt h0.size);exact h0.fresh b h1 hlt
 exact hs.step hfin hle hkeep hs'.size hr
theorem ad.j9 {i:aG} {l:List aG} {fx:VX} {xs:List VX} (hw:bh st.s i.g=some true) (ho:i.op=.call fx xs) {f:FuncId} {first:List V} (hf:fx.ev st.s=.bm f first)
 {Post:V→af→Prop} (hc:az P f (first++xs.map (·.ev st.s)) st.σ Post)
 (h:∀r σ',Post r σ'→ad P n (.ops l::k) ⟨aV st.s i.dst r,σ'⟩ Q):ad P n (.ops (i::l)::k) st Q:=by
 refine ad.ins (by rw [ho]; simp) hw fun F hn μ a w o all hi hs next Q' hnext=>?_
 subst hn;obtain ⟨hop,hd⟩:=dV hi;rw [ho] at hop;obtain ⟨f0,args,argTypes,g1,rfl,rfl⟩:=lC hop;refine yN hs g1 hf hc fun r σ' hp a' w' hs'=>hnext _ a' w' hs' ?_;rw [hd];exact h r σ' hp
inductive VR where
 | tmp (x:VX)
 | cell (agg:Bool) (sz:Nat) (x:VX)
 | bad
def Ab (P:Program) (n:Nat):ResultVar→VR
 | .tmp t=>.tmp (cx n (.tmp t))
 | .cell t ty=>if bO P ty then .cell (eN P ty) (P.cellsOf ty) (cx n (.tmp t)) else .bad
def fY (st:St):VR→Option V
 | .tmp x=>some (x.ev st.s)
 | .cell agg sz x=>bN st.σ agg sz (x.ev st.s)
 | .bad=>none
def et (st:St):List VR→Option (List V)
 | []=>some []
 | r::rs=>match fY st r with
    | some v=>match et st rs with
      | some vs=>some (v::vs)
      | none=>none
    | none=>none
def mD (st:St) (l:List VR):Option V:=match et st l with
 | some [v]=>some v
 | some vs=>some (.tup vs)
 | none=>none
def Ret (l:List VR) (st:St) (Post:V→af→Prop):Prop :=
 ∃v v' σ',mD st l=some v∧aa σ' st.σ∧Wk st.σ σ' v v'∧Post v' σ'
structure VFn where
 n:Nat
 code:bB
 res:List VR
def cfn (P:Program) (fn:Func):Option VFn:=match fn.body with
 | some c=>some ⟨fn.ntmps,cZ P fn.ntmps c,fn.results.toList.map (Ab P fn.ntmps)⟩
 | none=>none
def wJ (tmps:Array Value):ResultVar→Go.Sem Value
 | .tmp t=>pure (tmps.getD t undef)
 | .cell b t=>do loadVar t (←asAddr (tmps.getD b undef))
theorem zX (fn:Func) (tmps:Array Value):results fn tmps=(do
 let vs ←Functor.map List.toArray (fn.results.toList.mapM (wJ tmps))
 pure (if h:vs.size=1 then vs[0] else .tuple vs)):=by
 unfold results;rw [Array.mapM_eq_mapM_toList];congr 3
theorem wF {F:Fr} {μ:Mu} {a:Act} {w:World} (hs:cN F μ st a w) (r:ResultVar) {v:V} (h:fY st (Ab P F.n r)=some v) :
 ∃x,(wJ a.tmps r).run P w=.ok x w∧Rep μ (aC μ st.σ) w v x:=by
 cases r with
 | tmp t =>
   simp only [Ab,fY,Oi] at h;subst h;exact ⟨_,rfl,ck hs (.tmp t)⟩
 | cell b t =>
   simp only [Ab] at h;split at h
   ·rename_i hk;simp only [fY] at h;have hx:=ck hs (.tmp b);obtain ⟨z,h1,h2⟩:=uK (P:=P) hs.sat hk hx h;refine ⟨z,?_,h2⟩;have he:a.eval (.tmp b)=a.tmps.getD b undef:=rfl;rw [he] at h1;simp only [Instr.loadAt,Sem.run_bind] at h1;simp only [wJ,Sem.run_bind];generalize a.tmps.getD b undef=u at *;cases u <;> simp [Instr.sureAddr] at h1;rename_i p;cases p <;> simp [asAddr] at h1 ⊢;exact h1
   ·simp [fY] at h
theorem ud {F:Fr} {μ:Mu} {a:Act} {w:World} (hs:cN F μ st a w) (fn:Func) {v:V} (h:mD st (fn.results.toList.map (Ab P F.n))=some v) :
 ∃x,(results fn a.tmps).run P w=.ok x w∧Rep μ (aC μ st.σ) w v x:=by
 have key:∀(l:List ResultVar) (vs:List V),et st (l.map (Ab P F.n))=some vs →
  ∃xs,(l.mapM (wJ a.tmps)).run P w=.ok xs w∧au μ (aC μ st.σ) w vs xs:=by
  intro l
  induction l with
  | nil=>intro vs h; simp only [List.map_nil,et,Oi] at h; subst h; exact ⟨[],rfl,by simp [au]⟩
  | cons r l ih =>
    intro vs h;simp only [List.map_cons,et] at h;split at h
    ·rename_i v hv;split at h
     ·rename_i vs' hvs;simp only [Oi] at h;subst h;obtain ⟨x,h1,h2⟩:=wF (P:=P) hs r hv;obtain ⟨xs,h3,h4⟩:=ih vs' hvs;refine ⟨x::xs,?_,by simp only [au]; exact ⟨x,xs,rfl,h2,h4⟩⟩;rw [List.mapM_cons];simp only [Sem.run_bind];rw [h1];simp only [Result.andThen_ok];rw [h3];simp
     ·cases h
    ·cases h
 unfold mD at h;cases hall:et st (fn.results.toList.map (Ab P F.n)) with
 | none=>simp [hall] at h
 | some vs =>
   obtain ⟨xs,h1,h2⟩:=key _ _ hall;have hrun:(results fn a.tmps).run P w=.ok (if hl:xs.toArray.size=1 then xs.toArray[0] else .tuple xs.toArray) w:=by
    rw [zX];simp only [Sem.run_bind,Sem.run_map];rw [h1];simp
   rw [hall] at h
   match vs,h,h2 with
   | [],h,h2 =>
     simp only [au] at h2;subst h2;simp only [Oi] at h;subst h;exact ⟨_,hrun,by simp [Rep,au]⟩
   | [u],h,h2 =>
     simp only [au] at h2;obtain ⟨x,xs',rfl,h3,rfl⟩:=h2;simp only [Oi] at h;subst h;exact ⟨_,hrun,by simpa using h3⟩
   | u1::u2::us,h,h2 =>
     simp only [Oi] at h;subst h;have hlen:=h2.length;refine ⟨_,hrun,?_⟩;rw [dif_neg (by simp [hlen])];simp only [Rep];exact ⟨xs,rfl,h2⟩
def cd (args:List V):Nat→V:=fun i=>args.getD i (.tup [])
theorem cN.JC {F:Fr} {μ:Mu} {a:Act} {w:World} (hs:cN F μ st a w) {d:Deferred} {ds:List Deferred} (hd:a.defers=d::ds) :
 ∃D w',d.target=.collected D∧(Instr.takeDeferred D).run P w=.ok [] w'∧cN F μ st { a with defers:=ds } w':=by
 obtain ⟨Ds,h1,h2,h3⟩:=hs.book.marks;rw [hd] at h1;cases Ds with
 | nil=>simp at h1
 | cons D Ds =>
   simp only [List.map_cons,List.cons.injEq] at h1;obtain ⟨rfl,rfl⟩:=h1;obtain ⟨g1,g2,g3⟩:=h3 D (by simp);simp only [List.nodup_cons] at h2;refine ⟨D,w.putObj D (.deferred none),rfl,run_takeDeferred g2,?_⟩;have hne:∀b,b≠D→(w.putObj D (.deferred none)).heap[b]?=w.heap[b]?:=fun b hb=>World.putObj_heap_other hb;have hk:oS (aC μ st.σ) (aC μ st.σ) w (w.putObj D (.deferred none)):=fun b _ hn=>⟨hn,fun off x hx=>by
    by_cases hb:b=D
    ·subst hb;simp [World.cell?,g2] at hx
    ·exact ef (hne b hb) off x hx⟩
   have hz:w.heap.size≤(w.putObj D (.deferred none)).heap.size:=by simp
   refine ⟨⟨by simpa using hs.sat.size,hs.sat.os,hs.sat.tape,hs.sat.output,fun b hb hn=>(hne b (by omega)).trans (hs.sat.same b hb hn),hs.sat.fin,hs.sat.inj,fun id o ho=>?_,hs.sat.fresh,hs.sat.glob⟩,
    hs.le,hs.size,⟨fun l r e=>?_,Ds,rfl,h2.2,fun D' hD'=>?_⟩,fun i hi=>Rep.bP (cH.refl μ) hk hz _ _ (hs.slot i hi)⟩
   ·refine (hs.sat.obj id o ho).bP (cH.refl μ) hk hz fun b sz cap hp=>hne b ?_;rintro rfl;exact g3 ⟨id,o,sz,cap,ho,hp⟩
   ·obtain ⟨q1,q2⟩:=hs.book.rnd l r e;refine ⟨(hne l ?_).trans q1,q2⟩;rintro rfl;rw [g2] at q1; cases q1
   ·obtain ⟨q1,q2,q3⟩:=h3 D' (by simp [hD']);refine ⟨q1,(hne D' ?_).trans q2,q3⟩;rintro rfl;exact h2.1 hD'
theorem ve {F:Fr} {μ:Mu} {fn:Func} {R:Ending→World→Prop}:∀(ds:List Deferred) (a:Act) (w:World),a.defers=ds→cN F μ st a w →
 (∀a' w',a'.tmps=a.tmps→cN F μ st a' w'→∃v,(results fn a'.tmps).run P w'=.ok v w'∧R (.returned v) w')→LeavesInM F.ei 0 P fn a.tmps R ds .returning w
 | [],a,w,_,hs,h=>by
   obtain ⟨v,h1,h2⟩:=h a w rfl hs;exact ⟨v,h1,h2⟩
 | d::ds,a,w,hd,hs,h=>by
   obtain ⟨D,w',h1,h2,h3⟩:=hs.JC (P:=P) hd;exact ⟨by simp, .inl ⟨D,w',h1,h2,ve ds { a with defers:=ds } w' rfl h3 (fun a' w' e hs'=>h a' w' e hs')⟩⟩
theorem qm.l5 {f:FuncId} {fn:Func} {vf:VFn} (hf:P.funcs[f]?=some fn) (hv:cfn P fn=some vf) {args:List V} {σ:af} {Post:V→af→Prop} (hlen:args.length≤vf.n)
 (h:ad P vf.n [.code vf.code] ⟨cd args,σ⟩ fun st=>Ret vf.res st Post):qm P f args σ Post:=by
 intro μ w vals hsat hr;unfold cfn at hv;cases hb:fn.body with
 | none=>simp [hb] at hv
 | some c =>
   simp only [hb,Oi] at hv;subst hv;simp only at h hlen;have hl:=hr.length;refine callsIn_wide.1 (callsIn_of_wp_marks (n:=0) hf hb trivial ?_ rfl);have hs:cN ⟨w,aC μ σ,μ,fn.ntmps,none⟩ μ ⟨cd args,σ⟩ { tmps:=vals.toArray++Array.replicate (fn.ntmps - vals.toArray.size) undef,defers:=[] } w:=by
    refine ⟨hsat,cH.refl μ,by simp; omega,⟨fun _ _ e=>by simp at e,[],rfl, .nil,by simp⟩,fun i hi=>?_⟩;simp only [cd];by_cases hlt:i < args.length
    ·have hv:args[i]?=some (args.getD i (.tup [])):=by simp [List.getD,List.getElem?_eq_getElem hlt]
     obtain ⟨x,hx,hrx⟩:=hr.get hv;rw [Array.getD_eq_getD_getElem?,Array.getElem?_append_left (by simp; omega)];simp only [List.getElem?_toArray,hx,Option.getD_some];exact hrx
    ·have hv:args.getD i (.tup [])=.tup []:=by simp [List.getD,List.getElem?_eq_none (Nat.le_of_not_lt hlt)]
     rw [hv,Array.getD_eq_getD_getElem?,Array.getElem?_append_right (by simp; omega)];simp only [Rep];refine ⟨[],?_,by simp [au]⟩;rw [Array.getElem?_replicate];split <;> rfl
   have hgo:=h ⟨w,aC μ σ,μ,fn.ntmps,none⟩ rfl [.code c] rfl _ w ⟨μ,hs⟩;refine wpIn_mono (F:=Fence.wide) hgo ?_;rintro e a' w' ⟨he,st,⟨v,v',σ',hres,hsub,hwk,hpost⟩,μ',hs'⟩;have hfin:LeavesInM Fence.wide 0 P fn a'.tmps (fun e w'=>∃r σ' μ' val,e=Ending.returned val∧Post r σ'∧cH μ μ'∧Sat w (aC μ σ) μ' σ' w'∧Rep μ' (aC μ' σ') w' r val) a'.defers .returning w':=by
    refine ve (F:=⟨w,aC μ σ,μ,fn.ntmps,none⟩) a'.defers a' w' rfl hs' fun a1 w1 _ hs1=>?_;obtain ⟨x,hx,hrx⟩:=ud (P:=P) hs1 fn hres;exact ⟨x,hx,v',σ',μ',x,rfl,hpost,hs1.le,hs1.sat.drop hsub,hwk μ' _ _ _ _ hs1.sat hrx⟩
   rcases he with rfl | rfl <;> exact hfin
theorem az.l5 {f:FuncId} {fn:Func} {vf:VFn} (hf:P.funcs[f]?=some fn) (hv:cfn P fn=some vf) (hcl:eK P f=true) {args:List V} {σ:af} {Post:V→af→Prop} (hlen:args.length≤vf.n)
 (h:ad P vf.n [.code vf.code] ⟨cd args,σ⟩ fun st=>Ret vf.res st Post):az P f args σ Post:=⟨hcl, .l5 hf hv hlen h⟩
structure Fo (P:Program) (f:FuncId) (fn:Func) (vf:VFn):Prop where
 a:P.funcs[f]?=some fn
 b:cfn P fn=some vf:=by kernel_rfl
 c:eK P f=true:=by kernel_rfl
theorem Fo.r {P:Program} {f:FuncId} {fn:Func} {vf:VFn} (h:Fo P f fn vf) {args:List V} {σ:af} {Post:V→af→Prop} (hlen:args.length≤vf.n)
 (k:ad P vf.n [.code vf.code] ⟨cd args,σ⟩ fun st=>Ret vf.res st Post):az P f args σ Post:=az.l5 h.a h.b h.c hlen k
variable {P:Program} {n:Nat}
def cI (σ:af) (sz:Nat) (xa xv:V):Option af :=
 match xa with
 | .ptr id i c=>match σ id with
   | some ob=>match ob.rows[i]? with
     | some r=>match cc r c sz xv with
       | some r'=>some (upd σ id ⟨ob.elem,ob.sz,ob.rows.set i r'⟩)
       | none=>none
     | none=>none
   | none=>none
 | _=>none
def eff (s:Nat→V) (σ:af):VOp→Option (Nat→V×af)
 | .alloc e sz z=>some fun id=>(.ptr id 0 0,upd σ id ⟨e,sz,[z]⟩)
 | .box e sz x=>if (x.ev s).cells.length=sz∧(x.ev s).stays=true then some fun id=>(.ptr id 0 0,upd σ id ⟨e,sz,[x.ev s]⟩) else none
 | .bf e sz xs=>if (xs.map (·.ev s)).all (fun x=>decide (x.cells.length=sz) && x.stays) then some fun id=>(.own id 0 xs.length,upd σ id ⟨e,sz,xs.map (·.ev s)⟩) else none
 | .append e sz bytes xa xb=>match bR σ e sz (xa.ev s),bK σ sz (xb.ev s) with
   | some (base,idA),some src=>if (base.length+src.length)*(bytes+1)≤140737488355328 then
      some fun id=>(.own id 0 (base.length+src.length),upd (bz σ idA) id ⟨e,sz,base++src⟩) else none
   | _,_=>none
 | .mk e sz bytes z x=>match x.ev s with
   | .int .i64 m=>if 0≤m∧m.toNat*(bytes+1)≤140737488355328 then some fun id=>(.own id 0 m.toNat,upd σ id ⟨e,sz,List.replicate m.toNat z⟩) else none
   | _=>none
 | .appz e sz bytes z y x=>match y.ev s,x.ev s with
   | .aD, .int _ m=>if 0 < m∧m.toNat*(bytes+1)≤140737488355328 then some fun id=>(.own id 0 m.toNat,upd σ id ⟨e,sz,List.replicate m.toNat z⟩) else none
   | _,_=>none
 | _=>none
def TO (P:Program) (dst:Option Nat) (op:VOp) (x:St) (K:St→Prop):Prop :=
 match bp op with
 | 0=>eQ x.s op∧∃v,aE x.σ x.s op=some v∧K ⟨aV x.s dst v,x.σ⟩
 | 1=>match op with
   | .call fx xs=>∃f caps v,fx.ev x.s=.fn f caps∧(∀σ1,aa x.σ σ1→az P f (xs.map (·.ev x.s)++caps) σ1 (fun r σ'=>r=v∧σ'=σ1))∧K ⟨aV x.s dst v,x.σ⟩
   | _=>False
 | 2=>match op with
   | .store sz xa xv=>∃σ',cI x.σ sz (xa.ev x.s) (xv.ev x.s)=some σ'∧K ⟨aV x.s dst (.tup []),σ'⟩
   | _=>False
 | 3=>∃g,eff x.s x.σ op=some g∧∀id,x.σ id=none→K ⟨aV x.s dst (g id).1,(g id).2⟩
 | _=>False
def T (P:Program) (i:aG) (x:St) (K:St→Prop):Prop :=
 match bh x.s i.g with
 | some true=>TO P i.dst i.op x K
 | some false=>K ⟨aV x.s i.dst (.tup []),x.σ⟩
 | none=>False
theorem TO.mono {dst:Option Nat} {op:VOp} {x:St} {K K':St→Prop} (hk:∀x,K x→K' x) (h:TO P dst op x K):TO P dst op x K':=by
 unfold TO at *;split <;> rename_i ho <;> simp only [ho] at h
 ·obtain ⟨h1,v,h2,h3⟩:=h; exact ⟨h1,v,h2,hk _ h3⟩
 ·split at h
  ·obtain ⟨f,caps,v,h1,h2,h3⟩:=h; exact ⟨f,caps,v,h1,h2,hk _ h3⟩
  ·exact h.elim
 ·split at h
  ·obtain ⟨σ',h1,h2⟩:=h; exact ⟨σ',h1,hk _ h2⟩
  ·exact h.elim
 ·obtain ⟨g,h1,h2⟩:=h; exact ⟨g,h1,fun id hid=>hk _ (h2 id hid)⟩
theorem T.mono {i:aG} {x:St} {K K':St→Prop} (hk:∀x,K x→K' x) (h:T P i x K):T P i x K':=by
 unfold T at *;split <;> rename_i ho <;> simp only [ho] at h
 ·exact h.mono hk
 ·exact hk _ h
def Inf (σ:af):Prop:=∀N,∃id,N≤id∧σ id=none
theorem Inf.upd {σ:af} (h:Inf σ) (id:Nat) (o:Ob):Inf (upd σ id o):=fun N=>by
 obtain ⟨i,h1,h2⟩:=h (max N (id+1));exact ⟨i,by omega,by simp [Vc.upd,show i≠id by omega,h2]⟩
theorem Inf.bz {σ:af} (h:Inf σ) (o:Option Nat):Inf (bz σ o):=fun N=>by
 obtain ⟨i,h1,h2⟩:=h N;refine ⟨i,h1,?_⟩;cases o with
 | none=>exact h2
 | some j=>simp only [Vc.bz,del]; split <;> simp_all
theorem eZ.inf {F:Fr} {st:St} {a:Act} {w:World} (h:eZ F st a w):Inf st.σ:=by
 obtain ⟨μ,h⟩:=h;obtain ⟨N,hN⟩:=h.sat.fin;intro M;refine ⟨max N M,by omega,?_⟩;cases ho:st.σ (max N M) with
 | none=>rfl
 | some o =>
   have:=h.sat.obj _ o ho;rw [hN _ (by omega)] at this;exact this.elim
theorem HO {s:Nat→V} {σ:af} (h:Inf σ) {op:VOp} {g:Nat→V×af} (he:eff s σ op=some g) (id:Nat):Inf (g id).2:=by
 unfold eff at he;split at he
 ·simp only [Oi] at he; subst he; exact h.upd _ _
 ·split at he
  ·simp only [Oi] at he; subst he; exact h.upd _ _
  ·cases he
 ·split at he
  ·simp only [Oi] at he; subst he; exact h.upd _ _
  ·cases he
 ·split at he
  ·split at he
   ·simp only [Oi] at he; subst he; exact (h.bz _).upd _ _
   ·cases he
  ·cases he
 ·split at he
  ·split at he
   ·simp only [Oi] at he; subst he; exact h.upd _ _
   ·cases he
  ·cases he
 ·split at he
  ·split at he
   ·simp only [Oi] at he; subst he; exact h.upd _ _
   ·cases he
  ·cases he
 ·cases he
theorem Ak {σ σ':af} (h:Inf σ) {sz:Nat} {a v:V} (he:cI σ sz a v=some σ'):Inf σ':=by
 unfold cI at he;split at he
 ·split at he
  ·split at he
   ·split at he
    ·simp only [Oi] at he; subst he; exact h.upd _ _
    ·cases he
   ·cases he
  ·cases he
 ·cases he
theorem TO.inf {dst:Option Nat} {op:VOp} {x:St} {K:St→Prop} (hi:Inf x.σ) (h:TO P dst op x K):TO P dst op x fun x'=>Inf x'.σ∧K x':=by
 unfold TO at *;split <;> rename_i ho <;> simp only [ho] at h
 ·obtain ⟨h1,v,h2,h3⟩:=h; exact ⟨h1,v,h2,hi,h3⟩
 ·split at h
  ·obtain ⟨f,caps,v,h1,h2,h3⟩:=h; exact ⟨f,caps,v,h1,h2,hi,h3⟩
  ·exact h.elim
 ·split at h
  ·obtain ⟨σ',h1,h2⟩:=h; exact ⟨σ',h1,Ak hi h1,h2⟩
  ·exact h.elim
 ·obtain ⟨g,h1,h2⟩:=h; exact ⟨g,h1,fun id hid=>⟨HO hi h1 id,h2 id hid⟩⟩
theorem T.inf {i:aG} {x:St} {K:St→Prop} (hi:Inf x.σ) (h:T P i x K):T P i x fun x'=>Inf x'.σ∧K x':=by
 unfold T at *;split <;> rename_i ho <;> simp only [ho] at h
 ·exact h.inf hi
 ·exact ⟨hi,h⟩
theorem Ec {s:Nat→V} {d:Option Nat} {v:V} {x:VX} (h:∀t,d=some t→x.GM≠some t):x.ev (aV s d v)=x.ev s:=by
 cases d with
 | none=>rfl
 | some t =>
   cases x with
   | c _=>rfl
   | t u =>
     simp only [VX.ev,aV];have:=h t rfl;simp only [VX.GM,ne_eq,Oi] at this;rw [if_neg this]
theorem pn {s s':Nat→V} {l:List VX} (h:∀x∈l,x.ev s=x.ev s'):l.map (·.ev s)=l.map (·.ev s'):=List.map_congr_left h
theorem nH {s s':Nat→V} {l:Option VX} (h:∀x∈l.toList,x.ev s=x.ev s'):l.map (·.ev s)=l.map (·.ev s'):=by
 cases l with
 | none=>rfl
 | some x=>simp [h x (by simp)]
theorem qw {s s':Nat→V} {σ:af} {op:VOp} (h:∀x∈op.xs,x.ev s=x.ev s'):aE σ s op=aE σ s' op∧(eQ s op↔eQ s' op):=by
 cases op <;> simp only [VOp.xs,List.mem_cons,List.not_mem_nil,or_false,forall_eq_or_imp,forall_eq,List.mem_append] at h <;>
  simp only [aE,eQ,h,and_true,and_self]
 case slice esz x lo hi mx =>
  rw [nH (l:=lo) (fun y hy=>h.2 y (.inl (.inl hy))),nH (l:=hi) (fun y hy=>h.2 y (.inl (.inr hy))),nH (l:=mx) (fun y hy=>h.2 y (.inr hy))]
 case sliceS x lo hi =>
  rw [nH (l:=lo) (fun y hy=>h.2 y (.inl hy)),nH (l:=hi) (fun y hy=>h.2 y (.inr hy))]
 case mkfn f xs=>rw [pn h]
 case more m xs =>
  by_cases hb:∃f,m=.mkB f
  ·obtain ⟨f,rfl⟩:=hb;have e:=pn h;cases xs with
   | nil=>rfl
   | cons x xs=>cases xs <;> exact congrArg (fun l=>some (V.bm f l)) e
  cases xs with
  | nil=>cases m <;> rfl
  | cons x xs =>
    have hx:=h x (by simp);cases xs with
    | nil=>cases m <;> first | rfl | exact absurd ⟨_,rfl⟩ hb | simp only [hx]
    | cons y ys=>cases m <;> first | rfl | exact absurd ⟨_,rfl⟩ hb
 case build z ps =>
  have:(ps.map fun p=>(p.1,p.2.1,p.2.2.ev s))=ps.map fun p=>(p.1,p.2.1,p.2.2.ev s'):=List.map_congr_left fun p hp=>by
   rw [h _ (List.mem_map.2 ⟨p,hp,rfl⟩)]
  rw [this]
theorem eO {s s':Nat→V} {σ:af} {op:VOp} (h:∀x∈op.xs,x.ev s=x.ev s'):eff s σ op=eff s' σ op:=by
 cases op <;> simp only [VOp.xs,List.mem_cons,List.not_mem_nil,or_false,forall_eq_or_imp,forall_eq,List.mem_append] at h <;>
  simp only [eff,h]
 case bf e sz xs=>rw [pn h]
theorem yC {s:Nat→V} {σ σ':af} {op:VOp} (h:jw op=true):aE σ s op=aE σ' s op:=by
 cases op
 case more m xs =>
  cases xs with
  | nil=>cases m <;> rfl
  | cons x xs=>cases xs <;> cases m <;> rfl
 all_goals first | rfl | simp [jw] at h
variable {P:Program} {n:Nat}
theorem apart_spec {A B:aG} (h:Ae A B=true):(∀d,A.dst=some d→d∉B.j2)∧(∀d,B.dst=some d→d∉A.j2)∧(∀d,A.dst=some d→B.dst≠some d):=by
 simp only [Ae,Ba] at h;obtain ⟨h1,h2⟩:=h;refine ⟨fun d hd=>?_,fun d hd=>?_,fun d hd=>?_⟩
 ·rw [hd] at h1; simp at h1; exact h1.1
 ·rw [hd] at h2; simpa using h2
 ·rw [hd] at h1; simp at h1; exact h1.2
theorem DB {s:Nat→V} {a b:Option Nat} {u v:V} (h:∀d,a=some d→b≠some d):aV (aV s a u) b v=aV (aV s b v) a u:=by
 cases a with
 | none=>rfl
 | some x =>
   cases b with
   | none=>rfl
   | some y =>
     have hne:y≠x:=fun e=>h x rfl (by rw [e]);funext i;simp only [aV];by_cases h1:i=y <;> by_cases h2:i=x <;> simp_all
theorem BE {i:aG} {x:VX} (hx:x∈i.op.xs) {t:Nat} (ht:x.GM=some t):t∈i.j2 :=
 List.mem_filterMap.2 ⟨x,List.mem_append_left _ hx,ht⟩
theorem fX {i:aG} {d:Option Nat} {v:V} (h:∀t,d=some t→t∉i.j2) (s:Nat→V):∀x∈i.op.xs,x.ev (aV s d v)=x.ev s :=
 fun _ hx=>Ec fun t ht e=>h t ht (BE hx e)
theorem bU {i:aG} {d:Option Nat} {v:V} (h:∀t,d=some t→t∉i.j2) (s:Nat→V):bh (aV s d v) i.g=bh s i.g:=by
 cases hg:i.g with
 | none=>rfl
 | some g =>
   obtain ⟨x,b⟩:=g;have:x.ev (aV s d v)=x.ev s:=Ec fun t ht e=>h t ht (List.mem_filterMap.2 ⟨x,List.mem_append_right _ (by simp [hg]),e⟩);simp only [bh,this]
def QO (P:Program) (op:VOp) (s:Nat→V) (σ:af) (v:V):Prop :=
 match bp op with
 | 0=>eQ s op∧aE σ s op=some v
 | 1=>match op with
   | .call fx xs=>∃f caps,fx.ev s=.fn f caps∧∀σ1,aa σ σ1→az P f (xs.map (·.ev s)++caps) σ1 (fun r σ'=>r=v∧σ'=σ1)
   | _=>False
 | _=>False
def QY (P:Program) (i:aG) (s:Nat→V) (σ:af) (v:V):Prop :=
 (bh s i.g=some true∧QO P i.op s σ v)∨(bh s i.g=some false∧v=.tup [])
theorem bY {i:aG} (hq:eT i=true) {x:St} {K:St→Prop}:T P i x K↔∃v,QY P i x.s x.σ v∧K ⟨aV x.s i.dst v,x.σ⟩:=by
 simp only [eT,decide_eq_true_eq] at hq;unfold T QY;cases hw:bh x.s i.g with
 | none=>simp
 | some b =>
   cases b
   ·simp
   ·simp only [true_and,Oi,Bool.true_eq_false,false_and,or_false];unfold TO QO;have:bp i.op=0∨bp i.op=1:=by omega
    rcases this with h0 | h0 <;> simp only [h0]
    ·constructor
     ·rintro ⟨h1,v,h2,h3⟩; exact ⟨v,⟨h1,h2⟩,h3⟩
     ·rintro ⟨v,⟨h1,h2⟩,h3⟩; exact ⟨h1,v,h2,h3⟩
    ·cases hop:i.op <;> simp [bp,hop] at h0 ⊢;constructor
     ·rintro ⟨f,caps,h1,v,h2,h3⟩; exact ⟨v,⟨f,caps,h1,h2⟩,h3⟩
     ·rintro ⟨v,⟨f,caps,h1,h2⟩,h3⟩; exact ⟨f,caps,h1,v,h2,h3⟩
theorem rE {op:VOp} {s s':Nat→V} {σ:af} {v:V} (h:∀x∈op.xs,x.ev s=x.ev s') (hq:QO P op s σ v):QO P op s' σ v:=by
 unfold QO at *;by_cases h0:bp op=0
 ·obtain ⟨h1,h2⟩:=qw (σ:=σ) h;simp only [h0] at hq ⊢;exact ⟨h2.1 hq.1,h1 ▸ hq.2⟩
 ·by_cases h1:bp op=1
  ·simp only [h1] at hq ⊢;cases op <;> simp only [] at hq <;> first | exact hq.elim | skip
   rename_i fx xs;obtain ⟨f,caps,g1,g2⟩:=hq;refine ⟨f,caps,?_,?_⟩
   ·rw [←h fx (by simp [VOp.xs])]; exact g1
   ·rw [←pn (s:=s) (s':=s') fun x hx=>h x (by simp [VOp.xs,hx])]; exact g2
  ·exfalso;revert hq;split <;> simp_all
theorem fA {i:aG} {s:Nat→V} {σ:af} {v u:V} {d:Option Nat} (h:∀t,d=some t→t∉i.j2):QY P i (aV s d u) σ v↔QY P i s σ v:=by
 unfold QY;rw [bU h];constructor
 ·rintro (⟨h1,h2⟩ | h1)
  ·exact .inl ⟨h1,rE (fX h s) h2⟩
  ·exact .inr h1
 ·rintro (⟨h1,h2⟩ | h1)
  ·exact .inl ⟨h1,rE (fun x hx=>(fX h s x hx).symm) h2⟩
  ·exact .inr h1
theorem kE {op:VOp} (h:jw op=true):bp op=0:=by
 cases op
 case more m xs=>cases m <;> simp [jw,bp] at h ⊢
 all_goals simp [jw,bp] at h ⊢
theorem jl {i:aG} (hf:jw i.op=true) {s:Nat→V} {σ σ':af} {v:V} (h:QY P i s σ v):QY P i s σ' v:=by
 rcases h with ⟨h1,h2⟩ | h1
 ·refine .inl ⟨h1,?_⟩;unfold QO at *;simp only [kE hf] at *;exact ⟨h2.1,by rw [←yC (σ:=σ) hf]; exact h2.2⟩
 ·exact .inr h1
theorem IY {i:aG} (hf:jw i.op=true) {s:Nat→V} {σ:af} {v v':V} (h:QY P i s σ v) (h':QY P i s σ v'):v=v':=by
 rcases h with ⟨h1,h2⟩ | ⟨h1,h2⟩ <;> rcases h' with ⟨g1,g2⟩ | ⟨g1,g2⟩
 ·unfold QO at *;simp only [kE hf] at *;have:=h2.2.symm.trans g2.2;simpa using this
 ·rw [h1] at g1; cases g1
 ·rw [h1] at g1; cases g1
 ·rw [h2,g2]
theorem fN {i:aG} (he:qI i=true) {x:St} {K:St→Prop}:T P i x K ↔
 (bh x.s i.g=some false∧K ⟨aV x.s i.dst (.tup []),x.σ⟩) ∨
 (bh x.s i.g=some true∧((∃sz xa xv σ',i.op=.store sz xa xv∧cI x.σ sz (xa.ev x.s) (xv.ev x.s)=some σ'∧K ⟨aV x.s i.dst (.tup []),σ'⟩) ∨
   (bp i.op=3∧∃g,eff x.s x.σ i.op=some g∧∀id,x.σ id=none→K ⟨aV x.s i.dst (g id).1,(g id).2⟩))):=by
 unfold T;cases hw:bh x.s i.g with
 | none=>simp
 | some b =>
   cases b
   ·simp
   ·simp only [Oi,Bool.true_eq_false,false_and,false_or,true_and];unfold TO;simp only [qI,Bool.or_eq_true,beq_iff_eq] at he;rcases he with h0 | h0 <;> simp only [h0]
    ·cases hop:i.op <;> simp [bp,hop] at h0 ⊢;constructor
     ·rintro ⟨σ',h1,h2⟩; exact ⟨_,_,_,⟨rfl,rfl,rfl⟩,σ',h1,h2⟩
     ·rintro ⟨_,_,_,⟨rfl,rfl,rfl⟩,σ',h1,h2⟩; exact ⟨σ',h1,h2⟩
    ·have:∀sz xa xv,i.op≠.store sz xa xv:=fun _ _ _ e=>by rw [e] at h0; simp [bp] at h0
     simp [this]
def jQ (s:Nat→V):VOp→Option Nat
 | .load _ _ x=>match x.ev s with
    | .ptr id _ _=>some id
    | _=>none
 | .idxA _ x _=>match x.ev s with
    | .own id _ _=>some id
    | _=>none
 | .slice _ x _ _ _=>match x.ev s with
    | .own id _ _=>some id
    | _=>none
 | .bstr x=>match x.ev s with
    | .own id _ _=>some id
    | _=>none
 | _=>none
theorem zO {s:Nat→V} {σ σ':af} {op:VOp} (h:∀j,jQ s op=some j→σ j=σ' j):aE σ s op=aE σ' s op:=by
 cases op <;> try rfl
 case more m xs =>
  cases xs with
  | nil=>cases m <;> rfl
  | cons x xs=>cases xs <;> cases m <;> rfl
 case load agg sz x =>
  simp only [jQ] at h;simp only [aE,bN];split
  ·rename_i id i k hx;simp only [hx,Oi,forall_eq'] at h;rw [h]
  ·rfl
  ·rfl
 case idxA esz x i =>
  simp only [jQ] at h;simp only [aE];generalize x.ev s=xv at *;generalize i.ev s=iv at *;cases xv <;> try (cases iv <;> rfl)
  case own id off len =>
   simp only [Oi,forall_eq'] at h;cases iv <;> try rfl
   simp only [bD,h]
 case bstr x =>
  simp only [jQ] at h;simp only [aE];generalize x.ev s=xv at *;cases xv <;> try rfl
  case own id off len =>
   simp only [Oi,forall_eq'] at h;simp only [dq,h]
 case slice esz x lo hi mx =>
  simp only [jQ] at h;simp only [aE,cy];split
  ·rename_i id off len hx;simp only [hx,Oi,forall_eq'] at h;have:ir σ id esz=ir σ' id esz:=by simp only [ir,h]
   simp only [this]
  ·rfl
  ·rfl
  ·rfl
theorem zR {s:Nat→V} {σ:af} {op:VOp} {v:V} (hv:aE σ s op=some v) {j:Nat} (hj:jQ s op=some j):σ j≠none:=by
 intro hn;cases op <;> simp only [jQ,reduceCtorEq] at hj
 case load agg sz x =>
  split at hj
  ·rename_i id i k hx;simp only [Oi] at hj;subst hj;simp [aE,bN,hx,hn] at hv
  ·cases hj
 case idxA esz x i =>
  split at hj
  ·rename_i id off len hx;simp only [Oi] at hj;subst hj;simp only [aE] at hv;rw [hx] at hv;generalize i.ev s=iv at hv;cases iv <;> simp [bD,hn] at hv
  ·cases hj
 case bstr x =>
  split at hj
  ·rename_i id off len hx;simp only [Oi] at hj;subst hj;simp [aE,dq,hx,hn] at hv
  ·cases hj
 case slice esz x lo hi mx =>
  split at hj
  ·rename_i id off len hx;simp only [Oi] at hj;subst hj;simp only [aE,cy,hx,ir,hn] at hv;split at hv
   ·simp at hv
   ·cases hv
  ·cases hj
theorem qW {i:aG} (h:mkI i=true):bp i.op=3∧∀s σ g,eff s σ i.op=some g→∀id j,j≠id→(g id).2 j=σ j:=by
 unfold mkI at h;split at h
 ·rename_i hop;refine ⟨by rw [hop]; rfl,fun s σ g hg id j hj=>?_⟩;rw [hop] at hg;simp only [eff,Oi] at hg;subst hg;simp [Vc.upd,hj]
 ·rename_i hop;refine ⟨by rw [hop]; rfl,fun s σ g hg id j hj=>?_⟩;rw [hop] at hg;simp only [eff] at hg;split at hg
  ·simp only [Oi] at hg;subst hg;simp [Vc.upd,hj]
  ·cases hg
 ·rename_i hop;refine ⟨by rw [hop]; rfl,fun s σ g hg id j hj=>?_⟩;rw [hop] at hg;simp only [eff] at hg;split at hg
  ·simp only [Oi] at hg;subst hg;simp [Vc.upd,hj]
  ·cases hg
 ·rename_i hop;refine ⟨by rw [hop]; rfl,fun s σ g hg id j hj=>?_⟩;rw [hop] at hg;simp only [eff] at hg;split at hg
  ·split at hg
   ·simp only [Oi] at hg;subst hg;simp [Vc.upd,hj]
   ·cases hg
  ·cases hg
 ·cases h
theorem y6 {i:aG} (h:Dy i=true):bp i.op=3∧∀s σ g,eff s σ i.op=some g→∀id j,j≠id→(g id).2 j=σ j∨(g id).2 j=none:=by
 by_cases hm:mkI i=true
 ·exact ⟨(qW hm).1,fun s σ g hg id j hj=>.inl ((qW hm).2 s σ g hg id j hj)⟩
 ·unfold Dy at h;unfold mkI at hm;cases hop:i.op <;> rw [hop] at h hm <;> simp at h hm;refine ⟨rfl,fun s σ g hg id j hj=>?_⟩;simp only [eff] at hg;split at hg
  ·split at hg
   ·simp only [Oi] at hg;subst hg;rename_i idA _ _ _ _ _;simp only [Vc.upd,if_neg hj];rename_i base idA src _ _ _;cases idA with
    | none=>exact .inl rfl
    | some a =>
      simp only [bz,del];split
      ·exact .inr rfl
      ·exact .inl rfl
   ·cases hg
  ·cases hg
theorem wy {i:aG} (hp:iV i=true) {s:Nat→V} {σ σ':af} (h:∀j,jQ s i.op=some j→σ j=σ' j) {v:V} (hq:QY P i s σ v):QY P i s σ' v:=by
 simp only [iV,beq_iff_eq] at hp;rcases hq with ⟨h1,h2⟩ | h1
 ·refine .inl ⟨h1,?_⟩;unfold QO at *;simp only [hp] at *;exact ⟨h2.1,by rw [←zO h]; exact h2.2⟩
 ·exact .inr h1
theorem we {i:aG} (hp:iV i=true) {s:Nat→V} {σ:af} {v v':V} (h:QY P i s σ v) (h':QY P i s σ v'):v=v':=by
 simp only [iV,beq_iff_eq] at hp;rcases h with ⟨h1,h2⟩ | ⟨h1,h2⟩ <;> rcases h' with ⟨g1,g2⟩ | ⟨g1,g2⟩
 ·unfold QO at *;simp only [hp] at *;have:=h2.2.symm.trans g2.2;simpa using this
 ·rw [h1] at g1; cases g1
 ·rw [h1] at g1; cases g1
 ·rw [h2,g2]
theorem rv {i:aG} (hp:iV i=true) {s:Nat→V} {σ:af} {v:V} (h:QY P i s σ v) (hw:bh s i.g=some true) {j:Nat} (hj:jQ s i.op=some j):σ j≠none:=by
 simp only [iV,beq_iff_eq] at hp;rcases h with ⟨_,h2⟩ | ⟨h1,_⟩
 ·unfold QO at h2;simp only [hp] at h2;exact zR h2.2 hj
 ·rw [hw] at h1; cases h1
theorem wj {i:aG} {s:Nat→V} {σ σ':af} {v:V} (h:QY P i s σ v) (hw:bh s i.g≠some true):QY P i s σ' v:=by
 rcases h with ⟨h1,_⟩ | h1
 ·exact absurd h1 hw
 ·exact .inr h1
theorem Gl {i:aG} (hp:iV i=true) {s:Nat→V} {σ σ':af} {id:Nat} (hid:σ id=none) (hσ:∀j,j≠id→σ' j=σ j) {v:V} (h:QY P i s σ v):QY P i s σ' v:=by
 by_cases hw:bh s i.g=some true
 ·refine wy hp (fun j hj=>?_) h;have:=rv hp h hw hj;rw [hσ j (fun e=>this (e ▸ hid))]
 ·exact wj h hw
theorem CM {i:aG} (hq:eT i=true) {s:Nat→V} {σ σ':af} {id:Nat} (hid:σ id=none) (hσ:∀j,j≠id→σ' j=σ j) {v:V} (h:QY P i s σ v):QY P i s σ' v:=by
 by_cases hp:iV i=true
 ·exact Gl hp hid hσ h
 ·have hsub:aa σ σ':=fun j o hj=>by rw [hσ j (fun e=>by rw [e,hid] at hj; cases hj)]; exact hj
  rcases h with ⟨h1,h2⟩ | h1
  ·refine .inl ⟨h1,?_⟩;have hk:bp i.op=1:=by
    simp only [eT,decide_eq_true_eq] at hq;simp only [iV,beq_iff_eq] at hp;omega
   unfold QO at *;simp only [hk] at *;split at h2
   ·obtain ⟨f,caps,g1,g2⟩:=h2;exact ⟨f,caps,g1,fun σ1 hs=>g2 σ1 (hsub.trans hs)⟩
   ·exact h2.elim
  ·exact .inr h1
theorem xD {i:aG} (h:mkI i=true) {s:Nat→V} {σ:af} {g:Nat→V×af} (hg:eff s σ i.op=some g) :
 ∃(vf:Nat→V) (ob:Ob),(∀id,g id=(vf id,Vc.upd σ id ob))∧∀σ',eff s σ' i.op=some fun id=>(vf id,Vc.upd σ' id ob):=by
 unfold mkI at h;split at h
 ·rename_i hop; rw [hop] at hg ⊢;simp only [eff,Oi] at hg;subst hg;exact ⟨_,_,fun _=>rfl,fun _=>rfl⟩
 ·rename_i hop; rw [hop] at hg ⊢;simp only [eff] at hg ⊢;split at hg
  ·rename_i hc;simp only [Oi] at hg;subst hg;exact ⟨_,_,fun _=>rfl,fun σ'=>by rw [if_pos hc]⟩
  ·cases hg
 ·rename_i hop; rw [hop] at hg ⊢;simp only [eff] at hg ⊢;split at hg
  ·rename_i hc;simp only [Oi] at hg;subst hg;exact ⟨_,_,fun _=>rfl,fun σ'=>by rw [if_pos hc]⟩
  ·cases hg
 ·rename_i hop; rw [hop] at hg ⊢;simp only [eff] at hg ⊢;split at hg
  ·rename_i hx;split at hg
   ·rename_i hc;simp only [Oi] at hg;subst hg;exact ⟨_,_,fun _=>rfl,fun σ'=>by rw [if_pos hc]⟩
   ·cases hg
  ·cases hg
 ·cases h
theorem mz {op:VOp} (hk:bp op=3) {sz:Nat} {xa xv:VX} (hop:op=.store sz xa xv):False:=by rw [hop] at hk; simp [bp] at hk
theorem uC {σ:af} {a b:Nat} {oa ob:Ob} (h:a≠b):Vc.upd (Vc.upd σ a oa) b ob=Vc.upd (Vc.upd σ b ob) a oa:=by
 funext i;unfold Vc.upd;by_cases h1:i=a <;> by_cases h2:i=b <;> simp_all
theorem EP {i:aG} (h:Dy i=true) {s:Nat→V} {σ:af} {g:Nat→V×af} (hg:eff s σ i.op=some g) :
 ∃(vf:Nat→V) (ob:Ob) (d:Option Nat),(∀id,g id=(vf id,Vc.upd (bz σ d) id ob))∧(∀a,d=some a→σ a≠none) ∧
  ∀j o,σ j=none→eff s (Vc.upd σ j o) i.op=some fun id=>(vf id,Vc.upd (bz (Vc.upd σ j o) d) id ob):=by
 by_cases hm:mkI i=true
 ·obtain ⟨vf,ob,h1,h2⟩:=xD hm hg;exact ⟨vf,ob,none,h1,by simp,fun j o _=>h2 _⟩
 ·unfold Dy at h;unfold mkI at hm;cases hop:i.op <;> rw [hop] at h hm hg <;> simp at h hm;rename_i e sz bytes xa xb;simp only [eff] at hg ⊢;split at hg
  ·rename_i base idA src e1 e2;split at hg
   ·rename_i hc;simp only [Oi] at hg;subst hg;have hlive:∀a,idA=some a→σ a≠none:=fun a ha=>by
     subst ha;unfold bR at e1;split at e1
     ·split at e1
      ·rename_i ob hob;split at e1
       ·simp only [Oi,Prod.mk.injEq] at e1;rw [←e1.2,hob]; simp
       ·cases e1
      ·cases e1
     ·simp at e1
     ·cases e1
    refine ⟨_,_,idA,fun _=>rfl,hlive,fun j o hj=>?_⟩;have hne:∀id ob,σ id=some ob→Vc.upd σ j o id=some ob:=fun id ob h=>by
     have:id≠j:=fun e=>by rw [e,hj] at h; cases h
     simp [Vc.upd,this,h]
    have d1:bR (Vc.upd σ j o) e sz (xa.ev s)=some (base,idA):=by
     rw [←e1];unfold bR at e1 ⊢;split at e1
     ·rename_i id _ _ _;split at e1
      ·rename_i ob hob;simp only [hob,hne _ _ hob]
      ·cases e1
     ·rfl
     ·cases e1
    have d2:bK (Vc.upd σ j o) sz (xb.ev s)=some src:=by
     rw [←e2];unfold bK at e2 ⊢;split at e2
     ·split at e2
      ·rename_i ob hob;simp only [hob,hne _ _ hob]
      ·cases e2
     all_goals first | rfl | cases e2
    simp only [d1,d2];rw [if_pos hc]
   ·cases hg
  ·cases hg
theorem E7 {A B:aG} (hp:kY A B=true) {x:St} (hi:Inf x.σ) {K:St→Prop} (h:T P A x fun x'=>T P B x' K):T P B x fun x'=>T P A x' K:=by
 simp only [kY,Ba,Bool.or_eq_true] at hp;obtain ⟨hap,hk⟩:=hp;obtain ⟨h1,h2,h3⟩:=apart_spec hap;have hcomm:∀(s:Nat→V) u v,aV (aV s A.dst u) B.dst v=aV (aV s B.dst v) A.dst u:=fun s u v=>DB h3;rcases hk with ((((⟨qa,qb⟩ | ⟨ea,sb⟩) | ⟨sa,eb⟩) | ⟨pa,mb⟩) | ⟨ma,pb⟩) | ⟨ma,mb⟩
 ·rw [bY qa] at h;obtain ⟨u,hu,h⟩:=h;rw [bY qb] at h;obtain ⟨v,hv,h⟩:=h;rw [bY qb];refine ⟨v,(fA h1).1 hv,?_⟩;rw [bY qa];refine ⟨u,(fA h2).2 hu,?_⟩;simp only at h ⊢;rw [←hcomm]; exact h
 ·have qb:eT B=true:=by simp [eT,kE sb]
  rw [fN ea] at h;rcases h with ⟨hw,h⟩ | ⟨hw,⟨sz,xa,xv,σ',hop,hs,h⟩ | ⟨hk3,g,hg,h⟩⟩
  ·rw [bY qb] at h;obtain ⟨v,hv,h⟩:=h;rw [bY qb];refine ⟨v,(fA h1).1 hv,?_⟩;rw [fN ea];refine .inl ⟨by rw [bU h2]; exact hw,?_⟩;simp only at h ⊢;rw [←hcomm]; exact h
  ·rw [bY qb] at h;obtain ⟨v,hv,h⟩:=h;rw [bY qb];refine ⟨v,jl sb ((fA h1).1 hv),?_⟩;rw [fN ea];refine .inr ⟨by rw [bU h2]; exact hw, .inl ⟨sz,xa,xv,σ',hop,?_,?_⟩⟩
   ·simp only;rw [fX h2 x.s xa (by simp [hop,VOp.xs]),fX h2 x.s xv (by simp [hop,VOp.xs])];exact hs
   ·simp only at h ⊢;rw [←hcomm]; exact h
  ·obtain ⟨id0,_,hid0⟩:=hi 0;have h0:=h id0 hid0;rw [bY qb] at h0;obtain ⟨v,hv,_⟩:=h0;have hvx:QY P B x.s x.σ v:=jl sb ((fA h1).1 hv);rw [bY qb];refine ⟨v,hvx,?_⟩;rw [fN ea];refine .inr ⟨by rw [bU h2]; exact hw, .inr ⟨hk3,g,?_,fun id hid=>?_⟩⟩
   ·rw [←hg]; exact eO (fX h2 x.s)
   ·have h4:=h id hid;rw [bY qb] at h4;obtain ⟨v',hv',h4⟩:=h4;have hvx':QY P B x.s x.σ v':=jl sb ((fA h1).1 hv');have:=IY sb hvx hvx';subst this;simp only at h4 ⊢;rw [←hcomm]; exact h4
 ·have qa:eT A=true:=by simp [eT,kE sa]
  rw [bY qa] at h;obtain ⟨u,hu,h⟩:=h;rw [fN eb] at h;rw [fN eb];rcases h with ⟨hw,h⟩ | ⟨hw,⟨sz,xa,xv,σ',hop,hs,h⟩ | ⟨hk3,g,hg,h⟩⟩
  ·refine .inl ⟨by rw [←bU h1]; exact hw,?_⟩;rw [bY qa];refine ⟨u,(fA h2).2 hu,?_⟩;simp only at h ⊢;rw [←hcomm]; exact h
  ·refine .inr ⟨by rw [←bU h1]; exact hw, .inl ⟨sz,xa,xv,σ',hop,?_,?_⟩⟩
   ·simp only at hs;rw [fX h1 x.s xa (by simp [hop,VOp.xs]),fX h1 x.s xv (by simp [hop,VOp.xs])] at hs;exact hs
   ·rw [bY qa];refine ⟨u,(fA h2).2 (jl sa hu),?_⟩;simp only at h ⊢;rw [←hcomm]; exact h
  ·refine .inr ⟨by rw [←bU h1]; exact hw, .inr ⟨hk3,g,?_,fun id hid=>?_⟩⟩
   ·rw [←hg]; exact (eO (fX h1 x.s)).symm
   ·rw [bY qa];refine ⟨u,(fA h2).2 (jl sa hu),?_⟩;have h4:=h id hid;simp only at h4 ⊢;rw [←hcomm]; exact h4
 ·have qa:eT A=true:=pa;obtain ⟨hk3,hfr⟩:=qW mb;have eb:qI B=true:=by simp [qI,hk3]
  rw [bY qa] at h;obtain ⟨u,hu,h⟩:=h;rw [fN eb] at h;rw [fN eb];rcases h with ⟨hw,h⟩ | ⟨hw,⟨sz,xa,xv,σ',hop,hs,h⟩ | ⟨_,g,hg,h⟩⟩
  ·refine .inl ⟨by rw [←bU h1]; exact hw,?_⟩;rw [bY qa];refine ⟨u,(fA h2).2 hu,?_⟩;simp only at h ⊢;rw [←hcomm]; exact h
  ·rw [hop] at hk3; simp [bp] at hk3
  ·refine .inr ⟨by rw [←bU h1]; exact hw, .inr ⟨hk3,g,?_,fun id hid=>?_⟩⟩
   ·rw [←hg]; exact (eO (fX h1 x.s)).symm
   ·rw [bY qa];refine ⟨u,(fA h2).2 (CM qa hid (fun j hj=>hfr _ _ g hg id j hj) hu),?_⟩;have h4:=h id hid;simp only at h4 ⊢;rw [←hcomm]; exact h4
 ·have qb:eT B=true:=by simp only [iV,beq_iff_eq] at pb; simp [eT,pb]
  obtain ⟨hk3,hfr⟩:=y6 ma;have ea:qI A=true:=by simp [qI,hk3]
  rw [fN ea] at h;rcases h with ⟨hw,h⟩ | ⟨hw,⟨sz,xa,xv,σ',hop,hs,h⟩ | ⟨_,g,hg,h⟩⟩
  ·rw [bY qb] at h;obtain ⟨v,hv,h⟩:=h;rw [bY qb];refine ⟨v,(fA h1).1 hv,?_⟩;rw [fN ea];refine .inl ⟨by rw [bU h2]; exact hw,?_⟩;simp only at h ⊢;rw [←hcomm]; exact h
  ·rw [hop] at hk3; simp [bp] at hk3
  ·
   obtain ⟨id0,hge,hid0⟩:=hi ((jQ x.s B.op).getD 0+1);have h0:=h id0 hid0;rw [bY qb] at h0;obtain ⟨v,hv,_⟩:=h0;have hv1:=(fA h1).1 hv;have hvx:QY P B x.s x.σ v:=by
    by_cases hwB:bh x.s B.g=some true
    ·refine wy pb (fun j hj=>?_) hv1;have hn:=rv pb hv1 hwB hj;refine (hfr _ _ g hg id0 j (fun e=>?_)).resolve_right hn;rw [hj] at hge;simp at hge;omega
    ·exact wj hv1 hwB
   rw [bY qb];refine ⟨v,hvx,?_⟩;rw [fN ea];refine .inr ⟨by rw [bU h2]; exact hw, .inr ⟨hk3,g,?_,fun id hid=>?_⟩⟩
   ·rw [←hg]; exact eO (fX h2 x.s)
   ·have h4:=h id hid;rw [bY qb] at h4;obtain ⟨v',hv',h4⟩:=h4;have hv2:=(fA h1).1 hv';have hv3:QY P B x.s x.σ v':=by
     by_cases hwB:bh x.s B.g=some true
     ·refine wy pb (fun j hj=>?_) hv2;have hn:=rv pb hv2 hwB hj;have hs:=rv pb hvx hwB hj;exact (hfr _ _ g hg id j (fun e=>hs (e ▸ hid))).resolve_right hn
     ·exact wj hv2 hwB
    have:=we pb hv3 hvx;subst this;simp only at h4 ⊢;rw [←hcomm]; exact h4
 ·have ka:=(y6 ma).1;have kb:=(qW mb).1;have ea:qI A=true:=by simp [qI,ka]
  have eb:qI B=true:=by simp [qI,kb]
  rw [fN ea] at h;rw [fN eb];rcases h with ⟨hw,h⟩ | ⟨hw,⟨sz,xa,xv,σ',hop,_⟩ | ⟨_,g,hg,h⟩⟩
  ·rw [fN eb] at h;rcases h with ⟨hw2,h⟩ | ⟨hw2,⟨sz,xa,xv,σ',hop,_⟩ | ⟨_,g2,hg2,h⟩⟩
   ·refine .inl ⟨by rw [←bU h1]; exact hw2,?_⟩;rw [fN ea];refine .inl ⟨by rw [bU h2]; exact hw,?_⟩;simp only at h ⊢;rw [←hcomm]; exact h
   ·exact (mz kb hop).elim
   ·refine .inr ⟨by rw [←bU h1]; exact hw2, .inr ⟨kb,g2,by rw [←hg2]; exact (eO (fX h1 x.s)).symm,fun id hid=>?_⟩⟩;rw [fN ea];refine .inl ⟨by rw [bU h2]; exact hw,?_⟩;have h4:=h id hid;simp only at h4 ⊢;rw [←hcomm]; exact h4
  ·exact (mz ka hop).elim
  ·obtain ⟨vA,oA,dA,hA,hdA,hA'⟩:=EP ma hg;obtain ⟨id0,_,hid0⟩:=hi 0;have h0:=h id0 hid0;rw [fN eb] at h0;rcases h0 with ⟨hw2,_⟩ | ⟨hw2,⟨sz,xa,xv,σ',hop,_⟩ | ⟨_,g2,hg2,_⟩⟩
   ·refine .inl ⟨by rw [←bU h1]; exact hw2,?_⟩;rw [fN ea];refine .inr ⟨by rw [bU h2]; exact hw, .inr ⟨ka,g,by rw [←hg]; exact eO (fX h2 x.s),fun id hid=>?_⟩⟩;have h4:=h id hid;rw [fN eb] at h4;rcases h4 with ⟨_,h4⟩ | ⟨hw3,_⟩
    ·simp only at h4 ⊢;rw [←hcomm]; exact h4
    ·exfalso;have e1:=bU (v:=(g id).1) h1 (s:=x.s);have e2:=bU (v:=(g id0).1) h1 (s:=x.s);simp only at hw2 hw3;rw [e1] at hw3; rw [e2] at hw2;rw [hw3] at hw2; cases hw2
   ·exact (mz kb hop).elim
   ·have hg2x:eff x.s (g id0).2 B.op=some g2:=by rw [←hg2]; exact (eO (fX h1 x.s)).symm
    obtain ⟨vB,oB,hB,hB'⟩:=xD mb hg2x;refine .inr ⟨by rw [←bU h1]; exact hw2, .inr ⟨kb,_,hB' x.σ,fun idB hidB=>?_⟩⟩;rw [fN ea];refine .inr ⟨by rw [bU h2]; exact hw, .inr ⟨ka,fun id=>(vA id,Vc.upd (bz (Vc.upd x.σ idB oB) dA) id oA),?_,fun idA hidA=>?_⟩⟩
    ·rw [←hA' idB oB hidB]; exact eO (fX h2 x.s)
    ·have hne:idA≠idB:=fun e=>by subst e; simp [Vc.upd] at hidA
     have hidA':x.σ idA=none:=by simpa [Vc.upd,hne] using hidA
     have h4:=h idA hidA';rw [fN eb] at h4;rw [hA idA] at h4;rcases h4 with ⟨hw3,_⟩ | ⟨_,⟨sz,xa,xv,σ',hop,_⟩ | ⟨_,g3,hg3,h4⟩⟩
     ·exfalso;have e1:=bU (v:=vA idA) h1 (s:=x.s);have e2:=bU (v:=(g id0).1) h1 (s:=x.s);simp only at hw2 hw3;rw [e1] at hw3; rw [e2] at hw2;rw [hw3] at hw2; cases hw2
     ·exact (mz kb hop).elim
     ·have e3:eff x.s (Vc.upd (bz x.σ dA) idA oA) B.op=some g3:=by rw [←hg3]; exact (eO (fX h1 x.s)).symm
      rw [hB' (Vc.upd (bz x.σ dA) idA oA)] at e3;simp only [Oi] at e3;subst e3;have hdel:∀i,x.σ i=none→bz x.σ dA i=none:=fun i hi=>by
       cases dA with
       | none=>exact hi
       | some a=>simp only [bz,del]; split <;> first | rfl | exact hi
      have h5:=h4 idB (by simp [Vc.upd,hne.symm,hdel _ hidB]);have hsw:bz (Vc.upd x.σ idB oB) dA=Vc.upd (bz x.σ dA) idB oB:=by
       cases dA with
       | none=>rfl
       | some a =>
         funext i;have hab:a≠idB:=fun e=>hdA a rfl (by rw [e]; exact hidB);simp only [bz,del,Vc.upd];by_cases e1:i=a
         ·have hib:i≠idB:=fun e=>hab (e1 ▸ e);simp [e1,hab]
         ·by_cases e2:i=idB <;> simp [e1,e2,Ne.symm hab]
      simp only at h5 ⊢;rw [←hcomm,hsw,←uC hne]; exact h5
variable {P:Program} {n:Nat}
theorem T.exists {i:aG} {x:St} {K:St→Prop} (hi:Inf x.σ) (h:T P i x K):∃x',K x':=by
 unfold T at h;split at h
 ·unfold TO at h;split at h
  ·obtain ⟨_,v,_,h⟩:=h; exact ⟨_,h⟩
  ·split at h
   ·obtain ⟨_,_,v,_,_,h⟩:=h; exact ⟨_,h⟩
   ·exact h.elim
  ·split at h
   ·obtain ⟨_,_,h⟩:=h; exact ⟨_,h⟩
   ·exact h.elim
  ·obtain ⟨g,_,h⟩:=h;obtain ⟨id,_,hid⟩:=hi 0;exact ⟨_,h id hid⟩
  ·exact h.elim
 ·exact ⟨_,h⟩
 ·exact h.elim
theorem vF {F:Fr} (hn:F.n=n) {o:Oper} {all:Array Oper} {x:St} {K:St→Prop} {a:Act} {w:World} (h:T P (cP P n all o) x K) (hs:eZ F x a w)
 {next:Act→World→Prop} {Q':Exit→Act→World→Prop} (hnext:∀x' a' w',eZ F x' a' w'→K x'→next a' w') :
 if Region.wanted o (yielded all a.tmps) then cop P n o.op≠.bad∧o.wp P a w next Q' else next (a.put o.dst undef) w:=by
 subst hn;obtain ⟨μ,hs⟩:=hs;unfold T at h;cases hw:bh x.s (cP P F.n all o).g with
 | none=>simp only [hw] at h
 | some b =>
   have hwant:=ra (P:=P) hs all o hw;rw [hwant];simp only [hw] at h;cases b
   ·simp only [Bool.false_eq_true,if_false] at h ⊢;exact hnext _ _ _ ⟨μ,hs.pure (d:=o.dst) (by simp only [Rep]; exact ⟨[],rfl,by simp [au]⟩)⟩ h
   ·simp only [if_true] at h ⊢;refine ⟨fun e=>?_,?_⟩
    ·have hopc:(cP P F.n all o).op=cop P F.n o.op:=rfl;rw [hopc,e] at h;simp [TO,bp] at h
    have hdst:(cP P F.n all o).dst=o.dst.filter (· < F.n):=rfl;have hopc:(cP P F.n all o).op=cop P F.n o.op:=rfl;rw [hdst,hopc] at h;unfold TO at h;split at h
    ·obtain ⟨h1,v,h2,h3⟩:=h;obtain ⟨z,hz,hr⟩:=p7 hs o h1 h2;unfold Oper.wp;rw [hz];exact hnext _ _ _ ⟨μ,hs.pure hr⟩ h3
    ·split at h
     ·rename_i fx xs hop;obtain ⟨f,caps,v,h1,h2,h3⟩:=h;obtain ⟨f0,args,argTypes,g1,rfl,rfl⟩:=lC hop;refine nF hs g1 h1 (h2 _ (aa.refl _)) fun r σ' hp a' w' hs'=>?_;obtain ⟨rfl,rfl⟩:=hp;exact hnext _ a' w' hs' h3
     ·exact h.elim
    ·split at h
     ·rename_i sz xa xv hop;obtain ⟨σ',h1,h2⟩:=h;obtain ⟨t,y,z,g1,g2,rfl,rfl,rfl⟩:=uU hop;unfold cI at h1;split at h1
      ·rename_i id r0 c e1;split at h1
       ·rename_i ob e2;split at h1
        ·rename_i r e3;split at h1
         ·rename_i r' e4;simp only [Oi] at h1;subst h1;obtain ⟨w',hx,hs'⟩:=pX hs g1 g2 e1 e2 e3 e4;unfold Oper.wp;rw [hx];exact hnext _ _ _ ⟨μ,hs'⟩ h2
         ·cases h1
        ·cases h1
       ·cases h1
      ·cases h1
     ·exact h.elim
    ·obtain ⟨g,hg,h⟩:=h;cases hop:cop P F.n o.op <;> rw [hop] at hg
     case box e sz xv =>
      simp only [eff] at hg;split at hg
      ·rename_i hc;simp only [Oi] at hg;subst hg;obtain ⟨y,g1,g2,rfl,rfl⟩:=A9 hop;obtain ⟨id,hid,z,w',μ',hz,hs'⟩:=u6 hs g1 g2 hc.1 hc.2;unfold Oper.wp;rw [hz];exact hnext _ _ _ ⟨μ',hs'⟩ (h id hid)
      ·cases hg
     case alloc e sz z =>
      simp only [eff,Oi] at hg;subst hg;obtain ⟨ti,zv,g1,g2,rfl,rfl⟩:=uz hop;obtain ⟨id,hid,y,w',μ',hy,hs'⟩:=pN hs g1 g2;unfold Oper.wp;rw [hy];exact hnext _ _ _ ⟨μ',hs'⟩ (h id hid)
     case bf e sz xs =>
      simp only [eff] at hg;split at hg
      ·rename_i hc;simp only [Oi] at hg;subst hg;obtain ⟨t,len,parts,ti,z,h1,h2,h3,rfl,h5,h6,rfl⟩:=rS hop;have hx:∀y∈parts.toList.map (fun p=>(cx F.n p.2).ev x.s),y.cells.length=ti.size∧y.stays=true:=by
        intro y hy;have:=List.all_eq_true.1 hc y (by rw [List.map_map]; exact hy);simpa using this
       obtain ⟨id,hid,y,w',μ',hy,hs'⟩:=oe hs h1 h2 h3 h5 h6 hx;unfold Oper.wp;rw [hy];have hl:parts.size=len:=by have:=congrArg List.length h5; simpa using this
       refine hnext _ _ _ ⟨μ',hs'⟩ ?_;have:=h id hid;simpa only [List.length_map,List.map_map,Array.length_toList,hl,Function.comp_def] using this
      ·cases hg
     case mk e sz bytes zv y =>
      simp only [eff] at hg;split at hg
      ·rename_i m hm;split at hg
       ·rename_i hc;simp only [Oi] at hg;subst hg;obtain ⟨t,l',c,ti,z,g1,g2,g3,rfl,rfl,rfl,g5,rfl⟩:=F5 hop;obtain ⟨id,hid,x',w',μ',hx',hs'⟩:=zA hs g1 g5 g2 g3 hm hc.1 hc.2;unfold Oper.wp;rw [hx'];exact hnext _ _ _ ⟨μ',hs'⟩ (h id hid)
       ·cases hg
      ·cases hg
     case appz e sz bytes zv ya y =>
      simp only [eff] at hg;split at hg
      ·rename_i kq m hy hm;split at hg
       ·rename_i hc;simp only [Oi] at hg;subst hg;obtain ⟨t,tn,kn,x1,y1,args,argTypes,ti,z,g1,g2,g3,g4,g5,g6,rfl,rfl,rfl,rfl,rfl⟩:=zE hop;obtain ⟨id,hid,x',w',μ',hx',hs'⟩:=sI hs g1 g2 g3 g4 g5 g6 hy hm hc.1 hc.2;unfold Oper.wp;rw [hx'];exact hnext _ _ _ ⟨μ',hs'⟩ (h id hid)
       ·cases hg
      ·cases hg
     case append e sz bytes xa xb =>
      simp only [eff] at hg;split at hg
      ·rename_i base idA src e1 e2;split at hg
       ·rename_i hb;simp only [Oi] at hg;subst hg;obtain ⟨t,t',y,z,args,argTypes,ti,zv,g1,g2,g3,g3',g4,g5,rfl,rfl,rfl,rfl⟩:=rJ hop;obtain ⟨id,hid,r,w',μ',hx,hs'⟩:=nP hs g1 g2 g3 g3' g4 g5 e1 e2 hb;unfold Oper.wp;rw [hx];exact hnext _ _ _ ⟨μ',hs'⟩ (h id hid)
       ·cases hg
      ·cases hg
     all_goals simp [eff] at hg
    ·exact h.elim
def Tn (P:Program) (n:Nat) (ops:Array Oper) (i:Nat) (x:St) (K:St→Prop):Prop:=match ops[i]? with
 | some o=>T P (cP P n ops o) x K
 | none=>K x
def pA (P:Program) (n:Nat) (ops:Array Oper) (Q:St→Prop):Nat→Array Bool→St→Prop
 | 0,listed,x=>Region.ready .any ops listed=[]∧Q x
 | f+1,listed,x=>(Region.ready .any ops listed=[]→Q x)∧∀i∈Region.ready .any ops listed,Tn P n ops i x (pA P n ops Q f (listed.setIfInBounds i true))
theorem nk {F:Fr} (hn:F.n=n) {ops:Array Oper} {Q:St→Prop} {Q':Exit→Act→World→Prop} (hQ:∀x a w,eZ F x a w→Q x→Q' .normal a w) :
 ∀(f:Nat) (listed:Array Bool) (x:St) (a:Act) (w:World),eZ F x a w→pA P n ops Q f listed x→wpAnyIn F.ei 0 P .any ops Q' f listed a w
 | 0,_,_,_,_,hs,h=>⟨h.1,hQ _ _ _ hs h.2⟩
 | f+1,listed,x,a,w,hs,h=>by
   refine ⟨fun h0=>hQ _ _ _ hs (h.1 h0),fun i hi=>?_⟩;have h1:=h.2 i hi;unfold Tn at h1;unfold wpOpIn;cases ho:ops[i]? with
   | none =>
     simp only [ho] at h1;exact nk hn hQ f _ x a w hs h1
   | some o =>
     simp only [ho] at h1;have h2:=vF (Q':=Q') hn h1 hs fun x' a' w' hs' hk=>nk hn hQ f _ x' a' w' hs' hk;by_cases hw:Region.wanted o (yielded ops a.tmps)=true
     ·rw [if_pos hw] at h2;simp only [hw,if_true];exact Hf (lY h2.1) h2.2
     ·rw [if_neg hw] at h2;simp only [hw];exact ⟨fun _ _=>trivial,h2⟩
def jO (ops:Array Oper) (listed:Array Bool):Prop:=∀m om,ops[m]?=some om→listed.getD m true=true→∀e∈om.after,Region.binds .any e=true→listed.getD e.on false=true
theorem jO.list {ops:Array Oper} {listed:Array Bool} (h:jO ops listed) {i:Nat} (hi:i∈Region.ready .any ops listed):jO ops (listed.setIfInBounds i true):=by
 intro m om hm hl e he hb;by_cases hmi:m=i
 ·subst hmi;obtain ⟨_,o,ho,hall⟩:=mem_ready.1 hi;rw [hm] at ho;cases ho;exact getD_set_true (hall e he hb)
 ·rw [getD_set_ne true (Ne.symm hmi)] at hl;exact getD_set_true (h m om hm hl e he hb)
theorem Ay {f:Edge→Nat} (l:List Edge):∀(s:Nat) (i:Nat),(l.foldl (fun s e=>if Region.binds .any e then s ||| 2 ^ e.on ||| f e else s) s).testBit i=true →
 s.testBit i=true∨∃e∈l,Region.binds .any e=true∧(i=e.on∨(f e).testBit i=true):=by
 induction l with
 | nil=>intro s i h; exact .inl h
 | cons e l ih =>
   intro s i h;simp only [List.foldl_cons] at h;rcases ih _ i h with h1 | ⟨e',h2,h3,h4⟩
   ·by_cases hb:Region.binds .any e=true
    ·rw [if_pos hb] at h1;simp only [Nat.testBit_or,Bool.or_eq_true,Nat.testBit_two_pow] at h1;rcases h1 with (h1 | h1) | h1
     ·exact .inl h1
     ·exact .inr ⟨e,by simp,hb, .inl (by simpa using (of_decide_eq_true h1).symm)⟩
     ·exact .inr ⟨e,by simp,hb, .inr h1⟩
    ·rw [if_neg hb] at h1; exact .inl h1
   ·exact .inr ⟨e',by simp [h2],h3,h4⟩
theorem qG {ops:Array Oper} {listed:Array Bool} (hc:jO ops listed):∀(j:Nat) (oj:Oper) (i:Nat),ops[j]?=some oj→((Region.before ops).getD j 0).testBit i=true →
 (∀e∈oj.after,Region.binds .any e=true→listed.getD e.on false=true)→listed.getD i false=true:=by
 have key:∀(l:List Oper) (acc:Array Nat) (k:Nat),acc.size=k→(∀j,l[j]?=ops[k+j]?) →
  (∀j oj i,j < k→ops[j]?=some oj→(acc.getD j 0).testBit i=true→(∀e∈oj.after,Region.binds .any e=true→listed.getD e.on false=true)→listed.getD i false=true) →
  ∀j oj i,ops[j]?=some oj→((l.foldl (fun acc o=>acc.push (o.after.foldl (fun s e=>if Region.binds .any e then s ||| 2 ^ e.on ||| acc.getD e.on 0 else s) 0)) acc).getD j 0).testBit i=true →
   (∀e∈oj.after,Region.binds .any e=true→listed.getD e.on false=true)→listed.getD i false=true:=by
  intro l
  induction l with
  | nil =>
    intro acc k hk hl h j oj i hj hb hd;have hlt:j < k:=by
     rcases Nat.lt_or_ge j k with h1 | h1
     ·exact h1
     ·have:=hl (j - k);rw [show k+(j - k)=j by omega,hj] at this;simp at this
    exact h j oj i hlt hj hb hd
  | cons o l ih =>
    intro acc k hk hl h;have hok:ops[k]?=some o:=by simpa using (hl 0).symm
    refine ih _ (k+1) (by simp [hk]) (fun j=>by have:=hl (j+1); simpa [Nat.add_assoc,Nat.add_comm 1 j] using this) ?_;intro j oj i hj hoj hb hd;by_cases hjk:j=k
    ·subst hjk;rw [hoj] at hok;cases hok;rw [Array.getD_eq_getD_getElem?,←hk,Array.getElem?_push_size] at hb;simp only [Option.getD_some] at hb;rw [←Array.foldl_toList] at hb;rcases Ay (f:=fun e=>acc.getD e.on 0) o.after.toList 0 i hb with h1 | ⟨e,he,hbd,h1 | h1⟩
     ·simp at h1
     ·rw [h1]; exact hd e (by simpa using he) hbd
     ·have hel:=hd e (by simpa using he) hbd;by_cases hek:e.on < acc.size
      ·have hex:e.on < ops.size:=by
        have:=(Array.getElem?_eq_some_iff.1 hoj).1;omega
       have hoe:ops[e.on]?=some ops[e.on]:=Array.getElem?_eq_getElem hex;refine h e.on _ i (by omega) hoe h1 (hc e.on _ hoe ?_);have hsz:e.on < listed.size:=by
        rcases Nat.lt_or_ge e.on listed.size with h2 | h2
        ·exact h2
        ·simp [Array.getElem?_eq_none h2] at hel
       simp only [Array.getD_eq_getD_getElem?,Array.getElem?_eq_getElem hsz,Option.getD_some] at hel ⊢;exact hel
      ·rw [Array.getD_eq_getD_getElem?,Array.getElem?_eq_none (by omega)] at h1;simp at h1
    ·have hjlt:j < k:=by omega
     rw [Array.getD_eq_getD_getElem?,Array.getElem?_push_lt (by omega)] at hb;refine h j oj i hjlt hoj ?_ hd;rw [Array.getD_eq_getD_getElem?,Array.getElem?_eq_getElem (by omega)];exact hb
 intro j oj i hj hb hd;unfold Region.before at hb;rw [←Array.foldl_toList] at hb;exact key ops.toList #[] 0 rfl (by simp) (fun j oj i h=>by omega) j oj i hj hb hd
theorem wM {ops:Array Oper} {Q:St→Prop} {i:Nat} {oi:Oper} (hi:ops[i]?=some oi):∀(f:Nat) (listed:Array Bool) (x:St),Inf x.σ→jO ops listed →
 (∀j oj,ops[j]?=some oj→j≠i→listed.getD j true=false→((Region.before ops).getD j 0).testBit i=false→kY (cP P n ops oi) (cP P n ops oj)=true) →
 i∈Region.ready .any ops listed→T P (cP P n ops oi) x (pA P n ops Q f (listed.setIfInBounds i true))→pA P n ops Q (f+1) listed x:=by
 intro f
 induction f with
 | zero =>
   intro listed x hinf _ _ hr H;refine ⟨fun h=>(by rw [h] at hr; cases hr),fun j hj=>?_⟩;by_cases hji:j=i
   ·subst hji; unfold Tn; simp only [hi]; exact H
   ·have:=ready_mono hj hji;obtain ⟨x',hx'⟩:=H.exists hinf;rw [hx'.1] at this;cases this
 | succ f ih =>
   intro listed x hinf hcl hfree hr H;refine ⟨fun h=>(by rw [h] at hr; cases hr),fun j hj=>?_⟩;by_cases hji:j=i
   ·subst hji; unfold Tn; simp only [hi]; exact H
   ·obtain ⟨hjun,oj,hoj,hall⟩:=mem_ready.1 hj;have hnot:((Region.before ops).getD j 0).testBit i=false:=by
     cases hb:((Region.before ops).getD j 0).testBit i with
     | false=>rfl
     | true =>
       exfalso;have h1:=qG hcl j oj i hoj hb hall;have h0:=(mem_ready.1 hr).1;rcases Nat.lt_or_ge i listed.size with h' | h'
       ·simp [h'] at h0 h1; rw [h0] at h1; cases h1
       ·simp [Array.getElem?_eq_none h'] at h1
    have H2:T P (cP P n ops oi) x fun x'=>T P (cP P n ops oj) x' (pA P n ops Q f ((listed.setIfInBounds i true).setIfInBounds j true)):=by
     refine H.mono fun x' hx'=>?_;have:=hx'.2 j (ready_mono hj hji);unfold Tn at this;simpa only [hoj] using this
    have h2:=E7 (hfree j oj hoj hji hjun hnot) hinf H2;have hfree':∀k ok,ops[k]?=some ok→k≠i→(listed.setIfInBounds j true).getD k true=false →
     ((Region.before ops).getD k 0).testBit i=false→kY (cP P n ops oi) (cP P n ops ok)=true:=fun k ok hk hki hun hno=>by
     refine hfree k ok hk hki ?_ hno;by_cases hjk:j=k
     ·subst hjk; exact hjun
     ·rw [getD_set_ne true hjk] at hun; exact hun
    unfold Tn;simp only [hoj];refine (h2.inf hinf).mono fun x' hx'=>ih (listed.setIfInBounds j true) x' hx'.1 (hcl.list hj) hfree' (ready_mono hr (Ne.symm hji)) ?_;rw [Array.setIfInBounds_comm _ _ hji];exact hx'.2
theorem tj {ops:Array Oper} {k:Nat} {ok:Oper} {listed:Array Bool} (hk:ops[k]?=some ok) (h:By P n ops k listed=true) (j:Nat) (oj:Oper) (hj:ops[j]?=some oj) (hne:j≠k)
 (hun:listed.getD j true=false) (hno:((Region.before ops).getD j 0).testBit k=false):kY (cP P n ops ok) (cP P n ops oj)=true:=by
 unfold By at h;simp only [hk] at h;have hjlt:j < ops.size:=(Array.getElem?_eq_some_iff.1 hj).1;have:=List.all_eq_true.1 h j (List.mem_range.2 hjlt);simp only [hj,hun,hno,Bool.or_false,Bool.false_or,Bool.or_eq_true,beq_iff_eq,hne,false_or] at this;exact this
def fZ (P:Program) (Q:St→Prop):List aG→St→Prop
 | [],x=>Q x
 | i::l,x=>T P i x (fZ P Q l)
theorem rZ {ops:Array Oper} {Q:St→Prop}:∀(l:List Oper) (k:Nat) (listed:Array Bool) (x:St),Inf x.σ→jO ops listed→(∀j,l[j]?=ops[k+j]?) →
 F4 P n ops l.length k listed=true→fZ P Q (l.map (cP P n ops)) x→pA P n ops Q l.length listed x
 | [],_,_,_,_,_,_,hB,h=>⟨by simpa [F4] using hB,h⟩
 | o::l,k,listed,x,hinf,hcl,hl,hB,h=>by
   have h0:ops[k]?=some o:=by simpa using (hl 0).symm
   simp only [List.length_cons,F4,Ba] at hB;obtain ⟨⟨hr,hf⟩,hB'⟩:=hB;refine wM h0 l.length listed x hinf hcl (tj h0 hf) (by simpa using hr) ?_;refine (T.inf hinf h).mono fun x' hx'=>?_;exact rZ l (k+1) _ x' hx'.1 (hcl.list (by simpa using hr)) (fun j=>by have:=hl (j+1); simpa [Nat.add_assoc,Nat.add_comm 1 j] using this) hB' hx'.2
theorem vE {F:Fr} (hn:F.n=n) {ops:Array Oper} (hok:vz P n ops=true) {id:Nat} {x:St} {a:Act} {w:World} (hs:eZ F x a w) {Q:St→Prop} {Q':Exit→Act→World→Prop}
 (hQ:∀x a w,eZ F x a w→Q x→Q' .normal a w) (h:fZ P Q (ops.toList.map (cP P n ops)) x):(Code.region id ops true).wpIn F.ei 0 P Q' a w:=by
 simp only [vz,Ba] at hok;have hs':eZ F x a { w with drawn:=w.drawn+1 }:=by
  obtain ⟨μ,hs⟩:=hs;have hk:cE (aC μ x.σ) (aC μ x.σ) w { w with drawn:=w.drawn+1 }:=fun _ _ h=>⟨h,rfl⟩
  refine ⟨μ,⟨⟨hs.sat.size,hs.sat.os,hs.sat.tape,hs.sat.output,hs.sat.same,hs.sat.fin,hs.sat.inj,fun id o ho=>?_,hs.sat.fresh,hs.sat.glob⟩,hs.le,hs.size,hs.book.lS hk,fun i hi=>?_⟩⟩
  ·exact (hs.sat.obj id o ho).mono (cH.refl μ) hk (Nat.le_refl _) (fun _ _ _ _=>rfl)
  ·exact Rep.mono (cH.refl μ) hk (Nat.le_refl _) _ _ (hs.slot i hi)
 refine wpIn_region_any hok.1 (nk hn hQ _ _ _ _ _ hs' ?_);have:=rZ (P:=P) (n:=n) (Q:=Q) ops.toList 0 (Array.replicate ops.size false) x hs.inf (fun m om hm hl=>by
  have hlt:m < ops.size:=(Array.getElem?_eq_some_iff.1 hm).1;rw [Array.getD_eq_getD_getElem?,Array.getElem?_replicate,if_pos hlt] at hl;simp at hl) (by simp) (by simpa using hok.2.2) h
 simpa using this
def pF (P:Program) (n:Nat) (ops:Array Oper) (m:Nat) (Q:St→Prop):Nat→Array Bool→St→Prop
 | 0,listed,x=>(Region.ready .any ops listed=[m]∧Region.ready .any ops (listed.setIfInBounds m true)=[])∧Q x
 | f+1,listed,x=>Region.ready .any ops listed≠[]∧∀i∈Region.ready .any ops listed,i≠m∧Tn P n ops i x (pF P n ops m Q f (listed.setIfInBounds i true))
theorem nv {F:Fr} (hn:F.n=n) {ops:Array Oper} {m:Nat} {Q:St→Prop} {Q':Exit→Act→World→Prop} (hQ:∀x a w,eZ F x a w→Q x→wpOpIn F.ei 0 P ops Q' m (Q' .normal) a w) :
 ∀(f:Nat) (listed:Array Bool) (x:St) (a:Act) (w:World),eZ F x a w→pF P n ops m Q f listed x→wpAnyIn F.ei 0 P .any ops Q' (f+1) listed a w
 | 0,listed,x,a,w,hs,h=>by
   obtain ⟨⟨h1,h2⟩,h3⟩:=h;refine ⟨fun h0=>(by rw [h1] at h0; cases h0),fun i hi=>?_⟩;rw [h1] at hi;have him:i=m:=by simpa using hi
   subst him;exact wpOpIn_mono (fun a w h=>⟨h2,h⟩) (hQ x a w hs h3)
 | f+1,listed,x,a,w,hs,h=>by
   refine ⟨fun h0=>absurd h0 h.1,fun i hi=>?_⟩;have h1:=(h.2 i hi).2;unfold Tn at h1;unfold wpOpIn;cases ho:ops[i]? with
   | none =>
     simp only [ho] at h1;exact nv hn hQ f _ x a w hs h1
   | some o =>
     simp only [ho] at h1;have h2:=vF (Q':=Q') hn h1 hs fun x' a' w' hs' hk=>nv hn hQ f _ x' a' w' hs' hk;by_cases hw:Region.wanted o (yielded ops a.tmps)=true
     ·rw [if_pos hw] at h2;simp only [hw,if_true];exact Hf (lY h2.1) h2.2
     ·rw [if_neg hw] at h2;simp only [hw];exact ⟨fun _ _=>trivial,h2⟩
theorem wB {ops:Array Oper} {m:Nat} {Q:St→Prop} {i:Nat} {oi:Oper} (hi:ops[i]?=some oi) (him:i≠m) (hm:((Region.before ops).getD m 0).testBit i=true) :
 ∀(f:Nat) (listed:Array Bool) (x:St),Inf x.σ→jO ops listed →
 (∀j oj,ops[j]?=some oj→j≠i→listed.getD j true=false→((Region.before ops).getD j 0).testBit i=false→kY (cP P n ops oi) (cP P n ops oj)=true) →
 i∈Region.ready .any ops listed→T P (cP P n ops oi) x (pF P n ops m Q f (listed.setIfInBounds i true))→pF P n ops m Q (f+1) listed x:=by
 have hnotj:∀(listed:Array Bool),jO ops listed→i∈Region.ready .any ops listed→∀j,j∈Region.ready .any ops listed→((Region.before ops).getD j 0).testBit i=false:=fun listed hcl hr j hj=>by
  obtain ⟨hjun,oj,hoj,hall⟩:=mem_ready.1 hj;cases hb:((Region.before ops).getD j 0).testBit i with
  | false=>rfl
  | true =>
    exfalso;have h1:=qG hcl j oj i hoj hb hall;have h0:=(mem_ready.1 hr).1;rcases Nat.lt_or_ge i listed.size with h' | h'
    ·simp [h'] at h0 h1; rw [h0] at h1; cases h1
    ·simp [Array.getElem?_eq_none h'] at h1
 have hjm:∀(listed:Array Bool),jO ops listed→i∈Region.ready .any ops listed→∀j,j∈Region.ready .any ops listed→j≠m:=fun listed hcl hr j hj e=>by
  have:=hnotj listed hcl hr j hj;rw [e,hm] at this;cases this
 intro f
 induction f with
 | zero =>
   intro listed x hinf hcl _ hr H;refine ⟨fun h=>(by rw [h] at hr; cases hr),fun j hj=>⟨hjm listed hcl hr j hj,?_⟩⟩;by_cases hji:j=i
   ·subst hji; unfold Tn; simp only [hi]; exact H
   ·have:=ready_mono hj hji;obtain ⟨x',hx'⟩:=H.exists hinf;rw [hx'.1.1] at this;exact absurd (by simpa using this) (hjm listed hcl hr j hj)
 | succ f ih =>
   intro listed x hinf hcl hfree hr H;refine ⟨fun h=>(by rw [h] at hr; cases hr),fun j hj=>⟨hjm listed hcl hr j hj,?_⟩⟩;by_cases hji:j=i
   ·subst hji; unfold Tn; simp only [hi]; exact H
   ·obtain ⟨hjun,oj,hoj,hall⟩:=mem_ready.1 hj;have hnot:=hnotj listed hcl hr j hj;have H2:T P (cP P n ops oi) x fun x'=>T P (cP P n ops oj) x' (pF P n ops m Q f ((listed.setIfInBounds i true).setIfInBounds j true)):=by
     refine H.mono fun x' hx'=>?_;have:=(hx'.2 j (ready_mono hj hji)).2;unfold Tn at this;simpa only [hoj] using this
    have h2:=E7 (hfree j oj hoj hji hjun hnot) hinf H2;have hfree':∀k ok,ops[k]?=some ok→k≠i→(listed.setIfInBounds j true).getD k true=false →
     ((Region.before ops).getD k 0).testBit i=false→kY (cP P n ops oi) (cP P n ops ok)=true:=fun k ok hk hki hun hno=>by
     refine hfree k ok hk hki ?_ hno;by_cases hjk:j=k
     ·subst hjk; exact hjun
     ·rw [getD_set_ne true hjk] at hun; exact hun
    unfold Tn;simp only [hoj];refine (h2.inf hinf).mono fun x' hx'=>ih (listed.setIfInBounds j true) x' hx'.1 (hcl.list hj) hfree' (ready_mono hr (Ne.symm hji)) ?_;rw [Array.setIfInBounds_comm _ _ hji];exact hx'.2
theorem sZ {ops:Array Oper} {m:Nat} {Q:St→Prop}:∀(l:List Oper) (k:Nat) (listed:Array Bool) (x:St),Inf x.σ→jO ops listed→(∀j,j < l.length→l[j]?=ops[k+j]?) →
 E0 P n ops m l.length k listed=true→fZ P Q (l.map (cP P n ops)) x→pF P n ops m Q l.length listed x
 | [],_,_,_,_,_,_,hB,h=>⟨by simpa [E0] using hB,h⟩
 | o::l,k,listed,x,hinf,hcl,hl,hB,h=>by
   have h0:ops[k]?=some o:=by simpa using (hl 0 (by simp)).symm
   simp only [List.length_cons,E0,Ba] at hB;obtain ⟨⟨hr,hkm,hbit⟩,hf,hB'⟩:=hB;refine wB h0 (by simpa using hkm) hbit l.length listed x hinf hcl (tj h0 hf) (by simpa using hr) ?_;refine (T.inf hinf h).mono fun x' hx'=>?_;exact sZ l (k+1) _ x' hx'.1 (hcl.list (by simpa using hr)) (fun j hj=>by have:=hl (j+1) (by simpa using hj); simpa [Nat.add_assoc,Nat.add_comm 1 j] using this) hB' hx'.2
theorem tZ {F:Fr} (hn:F.n=n) {ops:Array Oper} (hok:vH P n ops=true) {id:Nat} {x:St} {a:Act} {w:World} (hs:eZ F x a w) {Q:St→Prop} {Q':Exit→Act→World→Prop}
 (hQ:∀x a w,eZ F x a w→Q x→wpListIn F.ei 0 P ops Q' (ops.toList.drop (ops.size - 1)) a w) (h:fZ P Q ((ops.toList.take (ops.size - 1)).map (cP P n ops)) x):(Code.region id ops true).wpIn F.ei 0 P Q' a w:=by
 simp only [vH,Ba,decide_eq_true_eq] at hok;obtain ⟨hmx,hpos,_,_,hlex⟩:=hok;have hs':eZ F x a { w with drawn:=w.drawn+1 }:=by
  obtain ⟨μ,hs⟩:=hs;have hk:cE (aC μ x.σ) (aC μ x.σ) w { w with drawn:=w.drawn+1 }:=fun _ _ h=>⟨h,rfl⟩
  refine ⟨μ,⟨⟨hs.sat.size,hs.sat.os,hs.sat.tape,hs.sat.output,hs.sat.same,hs.sat.fin,hs.sat.inj,fun id o ho=>?_,hs.sat.fresh,hs.sat.glob⟩,hs.le,hs.size,hs.book.lS hk,fun i hi=>?_⟩⟩
  ·exact (hs.sat.obj id o ho).mono (cH.refl μ) hk (Nat.le_refl _) (fun _ _ _ _=>rfl)
  ·exact Rep.mono (cH.refl μ) hk (Nat.le_refl _) _ _ (hs.slot i hi)
 refine wpIn_region_any hmx ?_;have hlen:(ops.toList.take (ops.size - 1)).length=ops.size - 1:=by simp
 have hdrop:ops.toList.drop (ops.size - 1)=[ops[ops.size - 1]'(by omega)]:=by
  rw [List.drop_eq_getElem_cons (by simpa using (by omega:ops.size - 1 < ops.size))];simp [List.drop_eq_nil_of_le,show ops.size≤ops.size - 1+1 by omega]
 have hget:ops[ops.size - 1]?=some (ops[ops.size - 1]'(by omega)):=Array.getElem?_eq_getElem (by omega);have hL:=sZ (P:=P) (n:=n) (Q:=Q) (m:=ops.size - 1) (ops.toList.take (ops.size - 1)) 0 (Array.replicate ops.size false) x hs.inf (fun m om hm hl=>by
  have hlt:m < ops.size:=(Array.getElem?_eq_some_iff.1 hm).1;rw [Array.getD_eq_getD_getElem?,Array.getElem?_replicate,if_pos hlt] at hl;simp at hl) (fun j hj=>by rw [hlen] at hj; simp [List.getElem?_take,hj]) (by rw [hlen]; exact hlex) h
 rw [hlen] at hL;have:=nv (Q':=Q') hn (fun x a w hs hq=>by
  have:=hQ x a w hs hq;rw [hdrop] at this;unfold wpOpIn;simpa only [hget,wpListIn] using this) _ _ _ _ _ hs' hL
 rwa [show ops.size - 1+1=ops.size by omega] at this
variable {P:Program} {n:Nat} {st:St} {Q:St→Prop} {k:List It}
theorem ad.A2 {l:List aG} (h:fZ P (fun x=>ad P n k x Q) l st):ad P n (.code (.reg true l)::k) st Q:=by
 intro F hn kt hk a w hs;obtain ⟨z,kt',rfl,hy,hk'⟩:=dW hk;obtain ⟨c0,rfl,hcc⟩:=fU hy;have hc0:∃id ops,c0=.region id ops true∧vz P n ops=true∧ops.toList.map (cP P n ops)=l:=by
  cases c0 <;> simp only [cZ,reduceCtorEq] at hcc;rename_i id ops draw;cases draw
  ·simp at hcc
  ·simp only [Bool.true_and] at hcc;split at hcc
   ·cases hcc
   split at hcc
   ·cases hcc
   ·rename_i hd;simp only [bB.reg.injEq,true_and] at hcc;exact ⟨id,ops,rfl,by simpa using hd,hcc⟩
 obtain ⟨id,ops,rfl,hok,rfl⟩:=hc0;exact vE hn hok hs (fun x a w hs h=>h F hn kt' hk' a w hs) h
theorem ad.o6 {l e:List aG} (h:fZ P (fun x=>ad P n (.ops e::k) x Q) l st):ad P n (.code (.o6 l e)::k) st Q:=by
 intro F hn kt hk a w hs;obtain ⟨z,kt',rfl,hy,hk'⟩:=dW hk;obtain ⟨c0,rfl,hcc⟩:=fU hy;have hc0:∃id ops,c0=.region id ops true∧vH P n ops=true∧(ops.toList.take (ops.size - 1)).map (cP P n ops)=l∧(ops.toList.drop (ops.size - 1)).map (cP P n ops)=e:=by
  cases c0 <;> simp only [cZ,reduceCtorEq] at hcc;rename_i id ops draw;cases draw
  ·simp at hcc
  ·simp only [Bool.true_and] at hcc;split at hcc
   ·rename_i hd;simp only [bB.o6.injEq] at hcc;exact ⟨id,ops,rfl,hd,hcc.1,hcc.2⟩
   ·split at hcc <;> cases hcc
 obtain ⟨id,ops,rfl,hok,rfl,rfl⟩:=hc0;exact tZ hn hok hs (fun x a w hs h=>h F hn (.ops ops (ops.toList.drop (ops.size - 1))::kt') (by simp [KI.it,hk']) a w hs) h
def St.lit (st:St):VX→V→St
 | .t d,v=>⟨aV st.s (some d) v,st.σ⟩
 | .c _,_=>st
inductive Td where
 | r (todo:List It)
 | d (l:List aG) (todo:List It)
def Kof (P:Program) (n:Nat) (todo:List It) (st:St) (Q:St→Prop):Prop:=match todo with
 | .stop I::_=>I st
 | todo=>ad P n todo st Q
theorem Kof.runs {todo:List It} (h:Kof P n todo st Q):ad P n todo st Q:=by
 cases todo with
 | nil=>exact h
 | cons x k=>cases x <;> first | exact ad.stop h | exact h
theorem fZ.mono {K K':St→Prop} (hk:∀x,K x→K' x):∀ {l:List aG} {x:St},fZ P K l x→fZ P K' l x
 | [],_,h=>hk _ h
 | _::_,_,h=>T.mono (fun _ h=>fZ.mono hk h) h
def Go (P:Program) (n:Nat) (t:Td) (st:St) (Q:St→Prop):Prop :=
 match t with
 | .r todo=>Kof P n todo st Q
 | .d l todo=>fZ P (fun x=>Kof P n todo x Q) l st
theorem Go.runs {todo:List It} (h:Go P n (.r todo) st Q):ad P n todo st Q:=Kof.runs h
theorem Go.chain {l:List aG} (h:Go P n (.d l k) st Q):fZ P (fun x=>ad P n k x Q) l st:=fZ.mono (fun _ h=>Kof.runs h) h
def dz {α:Type} (o:Option α) (k:α→Prop):Prop:=match o with
 | some v=>k v
 | none=>False
theorem pR {α:Type} (v:α) (k:α→Prop):dz (some v) k=k v:=rfl
theorem fW {α:Type} {o:Option α} {k:α→Prop}:dz o k↔∃v,o=some v∧k v:=by cases o <;> simp [dz]
def dx (v:V) (k:Bool→Prop) (z:Prop):Prop:=match v with
 | .bool c=>k c
 | .tup []=>z
 | .int _ _=>z
 | _=>False
theorem kG {v:V} {k:Bool→Prop} {z:Prop} (h:dx v k z):(∃c,v=.bool c∧k c)∨(v=.tup []∧z)∨(∃q m,v=.int q m∧z):=by
 unfold dx at h;split at h
 ·exact .inl ⟨_,rfl,h⟩
 ·exact .inr (.inl ⟨rfl,h⟩)
 ·exact .inr (.inr ⟨_,_,rfl,h⟩)
 ·exact h.elim
def both (c b:Bool) (x y:Prop):Prop:=(c=b→x)∧(c=!b→y)
def de (s:Nat→V) (σ:af):VOp→Option af
 | .store sz xa xv=>cI σ sz (xa.ev s) (xv.ev s)
 | _=>none
structure Orc (P:Program) where
 get:FuncId→List V→af→Option V
 ok:∀f args σ v,get f args σ=some v→az P f args σ fun r σ'=>r=v∧σ'=σ
 up:∀f args σ σ' v,aa σ σ'→get f args σ=some v→get f args σ'=some v:=by intros; assumption
def Orc.nothing:Orc P where
 get _ _ _:=none
 ok _ _ _ _ h:=by cases h
def uE (O:Orc P) (s:Nat→V) (σ:af):VOp→Option V
 | .call fx xs=>match fx.ev s with
    | .fn f caps=>O.get f (xs.map (·.ev s)++caps) σ
    | _=>none
 | _=>none
def vR (o:Option V) (k:V→Prop) (z:Prop):Prop:=match o with
 | some v=>k v
 | none=>z
theorem ot {o:Option V} {k:V→Prop} {z:Prop} (h:vR o k z):(∃v,o=some v∧k v)∨z:=by
 cases o with
 | none=>exact .inr h
 | some v=>exact .inl ⟨v,rfl,h⟩
def vG (q:Nat) (a b c d g:Prop):Prop:=match q with
 | 0=>a
 | 1=>b
 | 2=>c
 | 3=>d
 | _=>g
theorem mI {q:Nat} {a b c d g:Prop} (h:vG q a b c d g):(q=0∧a)∨(q=1∧b)∨(q=2∧c)∨(q=3∧d)∨g:=by
 unfold vG at h;split at h <;> simp_all
def uv (O:Orc P) (q:Nat) (d:Option Nat) (op:VOp) (st:St) (k:St→Prop) (z:Prop):Prop :=
 vG q (eQ st.s op∧dz (aE st.σ st.s op) fun v=>k ⟨aV st.s d v,st.σ⟩)
  (vR (uE O st.s st.σ op) (fun v=>k ⟨aV st.s d v,st.σ⟩) z)
  (dz (de st.s st.σ op) fun σ'=>k ⟨aV st.s d (.tup []),σ'⟩)
  (dz (eff st.s st.σ op) fun g=>∀id,st.σ id=none→k ⟨aV st.s d (g id).1,(g id).2⟩) z
def step (P:Program) (O:Orc P) (n:Nat):Nat→Td→St→(St→Prop)→Prop
 | 0,t,st,Q=>Go P n t st Q
 | f+1,t,st,Q=>match t with
   | .d l k=>match l with
     | []=>step P O n f (.r k) st Q
     | i::l=>match i.g with
       | none=>uv O (bp i.op) i.dst i.op st (fun st=>step P O n f (.d l k) st Q) (Go P n (.d (i::l) k) st Q)
       | some (x,b)=>dx (x.ev st.s) (fun c=>both c b
          (uv O (bp i.op) i.dst i.op (st.lit x (.bool b)) (fun st=>step P O n f (.d l k) st Q) (Go P n (.d (i::l) k) (st.lit x (.bool b)) Q))
          (step P O n f (.d l k) ⟨aV (st.lit x (.bool !b)).s i.dst (.tup []),(st.lit x (.bool !b)).σ⟩ Q))
          (step P O n f (.d l k) ⟨aV st.s i.dst (.tup []),st.σ⟩ Q)
   | .r todo=>match todo with
     | []=>Q st
     | .stop I::_=>I st
     | .inBlock _::k=>step P O n f (.r k) st Q
     | .ops []::k=>step P O n f (.r k) st Q
     | .ops (i::l)::k=>match i.g with
       | none=>uv O (bp i.op) i.dst i.op st (fun st=>step P O n f (.r (.ops l::k)) st Q) (ad P n (.ops (i::l)::k) st Q)
       | some (x,b)=>dx (x.ev st.s) (fun c=>both c b
          (uv O (bp i.op) i.dst i.op (st.lit x (.bool b)) (fun st=>step P O n f (.r (.ops l::k)) st Q) (ad P n (.ops (i::l)::k) (st.lit x (.bool b)) Q))
          (step P O n f (.r (.ops l::k)) ⟨aV (st.lit x (.bool !b)).s i.dst (.tup []),(st.lit x (.bool !b)).σ⟩ Q))
          (step P O n f (.r (.ops l::k)) ⟨aV st.s i.dst (.tup []),st.σ⟩ Q)
     | .code c::k=>match c with
       | .skip=>step P O n f (.r k) st Q
       | .seq a b=>step P O n f (.r (.code a::.code b::k)) st Q
       | .block id a=>step P O n f (.r (.code a::.inBlock id::k)) st Q
       | .exit id=>dz (dQ id k) fun k'=>step P O n f (.r k') st Q
       | .ret=>Q st
       | .cond c a b=>dx (c.ev st.s) (fun t=>both t true (step P O n f (.r (.code a::k)) st Q) (step P O n f (.r (.code b::k)) st Q)) False
       | .reg draw l=>match draw with
         | false=>step P O n f (.r (.ops l::k)) st Q
         | true=>step P O n f (.d l k) st Q
       | .loop a=>ad P n (.code (.loop a)::k) st Q
       | .cC g ps a b=>ad P n (.code (.cC g ps a b)::k) st Q
       | .regA l deps=>ad P n (.code (.regA l deps)::k) st Q
       | .o6 l e=>step P O n f (.d l (.ops e::k)) st Q
       | .bad=>False
theorem vS {st:St} {x:VX} {v:V} (h:x.ev st.s=v):st.lit x v=st:=by
 cases x with
 | t d =>
   simp only [VX.ev] at h;have:aV st.s (some d) v=st.s:=by
    funext i;simp only [aV];split
    ·rename_i e; rw [e,h]
    ·rfl
   simp [St.lit,this]
 | c _=>rfl
theorem ad.cI {i:aG} {l:List aG} {sz:Nat} {xa xv:VX} (hw:bh st.s i.g=some true) (ho:i.op=.store sz xa xv) {σ':af}
 (h1:Vc.cI st.σ sz (xa.ev st.s) (xv.ev st.s)=some σ') (h:ad P n (.ops l::k) ⟨aV st.s i.dst (.tup []),σ'⟩ Q):ad P n (.ops (i::l)::k) st Q:=by
 unfold Vc.cI at h1;split at h1
 ·rename_i id r0 c e1;split at h1
  ·rename_i ob e2;split at h1
   ·rename_i r e3;split at h1
    ·rename_i r' e4;simp only [Oi] at h1;subst h1;exact ad.store hw ho e1 e2 e3 e4 h
    ·cases h1
   ·cases h1
  ·cases h1
 ·cases h1
theorem ad.eff {i:aG} {l:List aG} (hw:bh st.s i.g=some true) {g:Nat→V×af} (hg:Vc.eff st.s st.σ i.op=some g)
 (h:∀id,st.σ id=none→ad P n (.ops l::k) ⟨aV st.s i.dst (g id).1,(g id).2⟩ Q):ad P n (.ops (i::l)::k) st Q:=by
 cases hop:i.op <;> rw [hop] at hg <;> simp only [Vc.eff,reduceCtorEq] at hg
 case box e sz xv =>
  split at hg
  ·rename_i hc;simp only [Oi] at hg;subst hg;exact ad.box hw hop hc.1 hc.2 h
  ·cases hg
 case alloc e sz z =>
  simp only [Oi] at hg;subst hg;exact ad.alloc hw hop h
 case bf e sz xs =>
  split at hg
  ·rename_i hc;simp only [Oi] at hg;subst hg;refine ad.bf hw hop (fun x hx=>?_) h;have:=List.all_eq_true.1 hc x hx;simpa using this
  ·cases hg
 case mk e sz bytes zv x =>
  split at hg
  ·rename_i m hm;split at hg
   ·rename_i hc;simp only [Oi] at hg;subst hg;exact ad.mkS hw hop hm hc.1 hc.2 h
   ·cases hg
  ·cases hg
 case appz e sz bytes zv y x =>
  split at hg
  ·rename_i kq m hy hm;split at hg
   ·rename_i hc;simp only [Oi] at hg;subst hg;exact ad.LI hw hop hy hm hc.1 hc.2 h
   ·cases hg
  ·cases hg
 case append e sz bytes xa xb =>
  split at hg
  ·rename_i base idA src e1 e2;split at hg
   ·rename_i hb;simp only [Oi] at hg;subst hg;exact ad.append hw hop e1 e2 hb h
   ·cases hg
  ·cases hg
theorem nu {i:aG} {K:St→Prop} (hw:bh st.s i.g=some true) (h:TO P i.dst i.op st K):T P i st K:=by unfold T; simp only [hw]; exact h
theorem re {i:aG} {K:St→Prop} (hw:bh st.s i.g=some false) (h:K ⟨aV st.s i.dst (.tup []),st.σ⟩):T P i st K:=by unfold T; simp only [hw]; exact h
theorem tA {O:Orc P} {s:Nat→V} {σ:af} {op:VOp} {v:V} (h:uE O s σ op=some v) :
 ∃fx xs f caps,op=.call fx xs∧fx.ev s=.fn f caps∧∀σ1,aa σ σ1→az P f (xs.map (·.ev s)++caps) σ1 fun r σ'=>r=v∧σ'=σ1:=by
 unfold uE at h;split at h
 ·rename_i fx xs;split at h
  ·rename_i f caps hf;exact ⟨fx,xs,f,caps,rfl,hf,fun σ1 h1=>O.ok _ _ _ _ (O.up _ _ _ _ _ h1 h)⟩
  ·cases h
 ·cases h
theorem ad.tQ {O:Orc P} {i:aG} {l:List aG} {st:St} (hw:bh st.s i.g=some true) {K:St→Prop} (hK:∀st,K st→ad P n (.ops l::k) st Q)
 (h:uv O (bp i.op) i.dst i.op st K (ad P n (.ops (i::l)::k) st Q)):ad P n (.ops (i::l)::k) st Q:=by
 unfold uv at h;rcases mI h with ⟨_,h1,h⟩ | ⟨_,h⟩ | ⟨_,h⟩ | ⟨_,h⟩ | h
 ·obtain ⟨v,hv,h⟩:=fW.1 h;exact ad.pure hw h1 hv (hK _ h)
 ·rcases ot h with ⟨v,hv,h⟩ | h
  ·obtain ⟨fx,xs,f,caps,ho,hf,hc⟩:=tA hv;refine ad.call hw ho hf (hc _ (aa.refl _)) ?_;rintro r σ' ⟨rfl,rfl⟩;exact hK _ h
  ·exact h
 ·obtain ⟨σ',hs,h⟩:=fW.1 h;cases hop:i.op <;> rw [hop] at hs <;> simp only [de,reduceCtorEq] at hs;exact ad.cI hw hop hs (hK _ h)
 ·obtain ⟨g,hgg,h⟩:=fW.1 h;exact ad.eff hw hgg fun id hid=>hK _ (h id hid)
 ·exact h
theorem Go.tQ {O:Orc P} {i:aG} {l:List aG} {st:St} (hw:bh st.s i.g=some true) {K:St→Prop} (hK:∀st,K st→Go P n (.d l k) st Q)
 (h:uv O (bp i.op) i.dst i.op st K (Go P n (.d (i::l) k) st Q)):Go P n (.d (i::l) k) st Q:=by
 unfold uv at h;rcases mI h with ⟨hk,h1,h⟩ | ⟨hk,h⟩ | ⟨_,h⟩ | ⟨hk,h⟩ | h
 ·obtain ⟨v,hv,h⟩:=fW.1 h;refine nu hw ?_;unfold TO;simp only [hk];exact ⟨h1,v,hv,hK _ h⟩
 ·rcases ot h with ⟨v,hv,h⟩ | h
  ·obtain ⟨fx,xs,f,caps,ho,hf,hc⟩:=tA hv;refine nu hw ?_;rw [ho];exact ⟨f,caps,v,hf,hc,hK _ h⟩
  ·exact h
 ·obtain ⟨σ',hs,h⟩:=fW.1 h;refine nu hw ?_;cases hop:i.op <;> rw [hop] at hs <;> simp only [de,reduceCtorEq] at hs;exact ⟨σ',hs,hK _ h⟩
 ·obtain ⟨g,hgg,h⟩:=fW.1 h;refine nu hw ?_;unfold TO;simp only [hk];exact ⟨g,hgg,fun id hid=>hK _ (h id hid)⟩
 ·exact h
theorem Go.bG (O:Orc P):∀(f:Nat) (t:Td) (st:St),step P O n f t st Q→Go P n t st Q
 | 0,_,_,h=>h
 | f+1, .d [] k,st,h=>Go.bG O f (.r k) st h
 | f+1, .d (i::l) k,st,h=>by
   simp only [step] at h;split at h
   ·rename_i hg;have hw:bh st.s i.g=some true:=by simp [hg,bh]
    exact Go.tQ hw (fun st h=>Go.bG O f (.d l k) st h) h
   ·rename_i x b hg;rcases kG h with ⟨c,hc,h⟩ | ⟨hc,h⟩ | ⟨q,m,hc,h⟩
    ·by_cases hcb:c=b
     ·subst hcb;have h1:=h.1 rfl;have hw:bh st.s i.g=some true:=by simp [hg,bh,hc]
      rw [vS hc] at h1;exact Go.tQ hw (fun st h=>Go.bG O f (.d l k) st h) h1
     ·have hcb':c=!b:=by revert hcb; cases c <;> cases b <;> simp
      have h2:=h.2 hcb';rw [vS (by rw [hc,hcb'])] at h2;exact re (by simp only [hg,bh,hc]; rw [hcb']; cases b <;> rfl) (Go.bG O f (.d l k) _ h2)
    ·exact re (by simp [hg,bh,hc]) (Go.bG O f (.d l k) _ h)
    ·exact re (by simp [hg,bh,hc]) (Go.bG O f (.d l k) _ h)
 | f+1, .r [],_,h=>ad.nil h
 | f+1, .r (.stop _::_),_,h=>h
 | f+1, .r (.inBlock _::k),st,h=>ad.inBlock (Go.bG O f (.r k) st h).runs
 | f+1, .r (.ops []::k),st,h=>ad.A6 (Go.bG O f (.r k) st h).runs
 | f+1, .r (.ops (i::l)::k),st,h=>by
   simp only [step] at h;split at h
   ·rename_i hg;have hw:bh st.s i.g=some true:=by simp [hg,bh]
    exact ad.tQ hw (fun st h=>(Go.bG O f (.r (.ops l::k)) st h).runs) h
   ·rename_i x b hg;rcases kG h with ⟨c,hc,h⟩ | ⟨hc,h⟩ | ⟨q,m,hc,h⟩
    ·by_cases hcb:c=b
     ·subst hcb;have h1:=h.1 rfl;have hw:bh st.s i.g=some true:=by simp [hg,bh,hc]
      rw [vS hc] at h1;exact ad.tQ hw (fun st h=>(Go.bG O f (.r (.ops l::k)) st h).runs) h1
     ·have hcb':c=!b:=by revert hcb; cases c <;> cases b <;> simp
      have h2:=h.2 hcb';rw [vS (by rw [hc,hcb'])] at h2;exact ad.qX (by simp only [hg,bh,hc]; rw [hcb']; cases b <;> rfl) (Go.bG O f (.r (.ops l::k)) _ h2).runs
    ·exact ad.qX (by simp [hg,bh,hc]) (Go.bG O f (.r (.ops l::k)) _ h).runs
    ·exact ad.qX (by simp [hg,bh,hc]) (Go.bG O f (.r (.ops l::k)) _ h).runs
 | f+1, .r (.code c::k),st,h=>by
   cases c with
   | skip=>exact ad.skip (Go.bG O f (.r _) _ h).runs
   | seq a b=>exact ad.seq (Go.bG O f (.r _) _ h).runs
   | block id a=>exact ad.block (Go.bG O f (.r _) _ h).runs
   | exit id =>
     simp only [step] at h;obtain ⟨k',hk',h⟩:=fW.1 h;exact ad.exit hk' (Go.bG O f (.r _) _ h).runs
   | ret=>exact ad.ret h
   | cond c a b =>
     simp only [step] at h;rcases kG h with ⟨t,ht,h⟩ | ⟨_,h⟩ | ⟨_,_,_,h⟩
     ·exact ad.cond ht (fun e=>(Go.bG O f (.r _) _ (h.1 e)).runs) (fun e=>(Go.bG O f (.r _) _ (h.2 (by rw [e]; rfl))).runs)
     ·exact h.elim
     ·exact h.elim
   | reg draw l =>
     cases draw
     ·exact ad.region (Go.bG O f (.r _) _ h).runs
     ·exact ad.A2 (Go.bG O f (.d l k) _ h).chain
   | loop a=>exact h
   | cC g ps a b=>exact h
   | regA l deps=>exact h
   | o6 l e=>exact ad.o6 (Go.bG O f (.d l (.ops e::k)) _ h).chain
   | bad=>exact h.elim
theorem ad.bG (O:Orc P) (f:Nat) {todo:List It} {st:St} (h:step P O n f (.r todo) st Q):ad P n todo st Q:=(Go.bG O f (.r todo) st h).runs
section rules
variable (P:Program) (O:Orc P) (n:Nat) (f:Nat)
def exR (o:Option (List It)) (st:St) (Q:St→Prop):Prop:=dz o fun k'=>step P O n f (.r k') st Q
def cR (v:V) (a b:bB) (k:List It) (st:St) (Q:St→Prop):Prop:=dx v (fun t=>both t true (step P O n f (.r (.code a::k)) st Q) (step P O n f (.r (.code b::k)) st Q)) False
def Iq (l:List aG) (k:List It) (d:Option Nat) (st:St) (Q:St→Prop) (o:Option V):Prop:=dz o fun v=>step P O n f (.r (.ops l::k)) ⟨aV st.s d v,st.σ⟩ Q
def Gm (l:List aG) (k:List It) (d:Option Nat) (st:St) (Q:St→Prop) (o:Option af):Prop:=dz o fun σ'=>step P O n f (.r (.ops l::k)) ⟨aV st.s d (.tup []),σ'⟩ Q
def H8 (l:List aG) (k:List It) (d:Option Nat) (st:St) (Q:St→Prop) (o:Option (Nat→V×af)):Prop :=
 dz o fun g=>∀id,st.σ id=none→step P O n f (.r (.ops l::k)) ⟨aV st.s d (g id).1,(g id).2⟩ Q
def EW (l:List aG) (k:List It) (d:Option Nat) (op:VOp) (g:Option (VX×Bool)) (st:St) (Q:St→Prop) (o:Option V):Prop :=
 vR o (fun v=>step P O n f (.r (.ops l::k)) ⟨aV st.s d v,st.σ⟩ Q) (ad P n (.ops (⟨d,op,g⟩::l)::k) st Q)
def td (q:Nat) (d:Option Nat) (op:VOp) (g:Option (VX×Bool)) (l:List aG) (k:List It) (st:St) (Q:St→Prop):Prop :=
 uv O q d op st (fun st=>step P O n f (.r (.ops l::k)) st Q) (ad P n (.ops (⟨d,op,g⟩::l)::k) st Q)
def gR (v:V) (d:Option Nat) (op:VOp) (x:VX) (b:Bool) (l:List aG) (k:List It) (st:St) (Q:St→Prop):Prop :=
 dx v (fun c=>both c b (td P O n f (bp op) d op (some (x,b)) l k (st.lit x (.bool b)) Q)
  (step P O n f (.r (.ops l::k)) ⟨aV (st.lit x (.bool !b)).s d (.tup []),(st.lit x (.bool !b)).σ⟩ Q)) (step P O n f (.r (.ops l::k)) ⟨aV st.s d (.tup []),st.σ⟩ Q)
def Iy (l:List aG) (k:List It) (d:Option Nat) (st:St) (Q:St→Prop) (o:Option V):Prop:=dz o fun v=>step P O n f (.d l k) ⟨aV st.s d v,st.σ⟩ Q
def Ee (l:List aG) (k:List It) (d:Option Nat) (st:St) (Q:St→Prop) (o:Option af):Prop:=dz o fun σ'=>step P O n f (.d l k) ⟨aV st.s d (.tup []),σ'⟩ Q
def Gq (l:List aG) (k:List It) (d:Option Nat) (st:St) (Q:St→Prop) (o:Option (Nat→V×af)):Prop :=
 dz o fun g=>∀id,st.σ id=none→step P O n f (.d l k) ⟨aV st.s d (g id).1,(g id).2⟩ Q
def EH (l:List aG) (k:List It) (d:Option Nat) (op:VOp) (g:Option (VX×Bool)) (st:St) (Q:St→Prop) (o:Option V):Prop :=
 vR o (fun v=>step P O n f (.d l k) ⟨aV st.s d v,st.σ⟩ Q) (Go P n (.d (⟨d,op,g⟩::l) k) st Q)
def uf (q:Nat) (d:Option Nat) (op:VOp) (g:Option (VX×Bool)) (l:List aG) (k:List It) (st:St) (Q:St→Prop):Prop :=
 uv O q d op st (fun st=>step P O n f (.d l k) st Q) (Go P n (.d (⟨d,op,g⟩::l) k) st Q)
def gD (v:V) (d:Option Nat) (op:VOp) (x:VX) (b:Bool) (l:List aG) (k:List It) (st:St) (Q:St→Prop):Prop :=
 dx v (fun c=>both c b (uf P O n f (bp op) d op (some (x,b)) l k (st.lit x (.bool b)) Q)
  (step P O n f (.d l k) ⟨aV (st.lit x (.bool !b)).s d (.tup []),(st.lit x (.bool !b)).σ⟩ Q)) (step P O n f (.d l k) ⟨aV st.s d (.tup []),st.σ⟩ Q)
variable {P O n} {f}
theorem vr (s:Nat→V) (d:Nat) (v:V) (i:Nat):aV s (some d) v i=if i=d then v else s i:=rfl
theorem vx (s:Nat→V) (v:V) (i:Nat):aV s none v i=s i:=rfl
theorem IF (st:St) (d:Nat) (v:V):st.lit (.t d) v=⟨aV st.s (some d) v,st.σ⟩:=rfl
theorem Ir (st:St) (u v:V):st.lit (.c u) v=st:=rfl
theorem L4 (s:Nat→V) (d:Nat):VX.ev s (.t d)=s d:=rfl
theorem Mz (s:Nat→V) (v:V):VX.ev s (.c v)=v:=rfl
theorem DL (d:Option Nat) (op:VOp) (g:Option (VX×Bool)) (l:List aG):td P O n f 0 d op g l k st Q=(eQ st.s op∧Iq P O n f l k d st Q (aE st.σ st.s op)):=rfl
theorem E5 (d:Option Nat) (op:VOp) (g:Option (VX×Bool)) (l:List aG):td P O n f 1 d op g l k st Q=EW P O n f l k d op g st Q (uE O st.s st.σ op):=rfl
theorem DI (d:Option Nat) (op:VOp) (g:Option (VX×Bool)) (l:List aG):td P O n f 2 d op g l k st Q=Gm P O n f l k d st Q (de st.s st.σ op):=rfl
theorem FW (d:Option Nat) (op:VOp) (g:Option (VX×Bool)) (l:List aG):td P O n f 3 d op g l k st Q=H8 P O n f l k d st Q (eff st.s st.σ op):=rfl
theorem DH (d:Option Nat) (op:VOp) (g:Option (VX×Bool)) (l:List aG):td P O n f 4 d op g l k st Q=ad P n (.ops (⟨d,op,g⟩::l)::k) st Q:=rfl
theorem rW (d:Option Nat) (op:VOp) (g:Option (VX×Bool)) (l:List aG) (v:V):EW P O n f l k d op g st Q (some v)=step P O n f (.r (.ops l::k)) ⟨aV st.s d v,st.σ⟩ Q:=rfl
theorem sO (d:Option Nat) (op:VOp) (g:Option (VX×Bool)) (l:List aG):EW P O n f l k d op g st Q none=ad P n (.ops (⟨d,op,g⟩::l)::k) st Q:=rfl
theorem yn (s:Nat→V) (σ:af) (fx:VX) (xs:List VX):uE O s σ (.call fx xs)=match fx.ev s with
 | .fn f caps=>O.get f (xs.map (·.ev s)++caps) σ
 | _=>none:=rfl
theorem Es (d:Option Nat) (op:VOp) (g:Option (VX×Bool)) (l:List aG):uf P O n f 0 d op g l k st Q=(eQ st.s op∧Iy P O n f l k d st Q (aE st.σ st.s op)):=rfl
theorem Fm (d:Option Nat) (op:VOp) (g:Option (VX×Bool)) (l:List aG):uf P O n f 1 d op g l k st Q=EH P O n f l k d op g st Q (uE O st.s st.σ op):=rfl
theorem DY (d:Option Nat) (op:VOp) (g:Option (VX×Bool)) (l:List aG):uf P O n f 2 d op g l k st Q=Ee P O n f l k d st Q (de st.s st.σ op):=rfl
theorem F3 (d:Option Nat) (op:VOp) (g:Option (VX×Bool)) (l:List aG):uf P O n f 3 d op g l k st Q=Gq P O n f l k d st Q (eff st.s st.σ op):=rfl
theorem sE (d:Option Nat) (op:VOp) (g:Option (VX×Bool)) (l:List aG) (v:V):EH P O n f l k d op g st Q (some v)=step P O n f (.d l k) ⟨aV st.s d v,st.σ⟩ Q:=rfl
theorem sy (d:Option Nat) (op:VOp) (g:Option (VX×Bool)) (l:List aG):EH P O n f l k d op g st Q none=Go P n (.d (⟨d,op,g⟩::l) k) st Q:=rfl
theorem AZ:step P O n (f+1) (.r []) st Q=Q st:=rfl
theorem su (I:St→Prop):step P O n (f+1) (.r (.stop I::k)) st Q=I st:=rfl
theorem qu (id:Nat):step P O n (f+1) (.r (.inBlock id::k)) st Q=step P O n f (.r k) st Q:=rfl
theorem ql:step P O n (f+1) (.r (.ops []::k)) st Q=step P O n f (.r k) st Q:=rfl
theorem wZ:step P O n (f+1) (.r (.code .skip::k)) st Q=step P O n f (.r k) st Q:=rfl
theorem Bx (a b:bB):step P O n (f+1) (.r (.code (.seq a b)::k)) st Q=step P O n f (.r (.code a::.code b::k)) st Q:=rfl
theorem uA (id:Nat) (a:bB):step P O n (f+1) (.r (.code (.block id a)::k)) st Q=step P O n f (.r (.code a::.inBlock id::k)) st Q:=rfl
theorem y8 (id:Nat):step P O n (f+1) (.r (.code (.exit id)::k)) st Q=exR P O n f (dQ id k) st Q:=rfl
theorem w9 (k':List It):exR P O n f (some k') st Q=step P O n f (.r k') st Q:=rfl
theorem Bo:step P O n (f+1) (.r (.code .ret::k)) st Q=Q st:=rfl
theorem zn (a:bB):step P O n (f+1) (.r (.code (.loop a)::k)) st Q=ad P n (.code (.loop a)::k) st Q:=rfl
theorem xq (l e:List aG):step P O n (f+1) (.r (.code (.o6 l e)::k)) st Q=step P O n f (.d l (.ops e::k)) st Q:=rfl
theorem dc (l:List aG) (deps:List (List Nat)):step P O n (f+1) (.r (.code (.regA l deps)::k)) st Q=ad P n (.code (.regA l deps)::k) st Q:=rfl
theorem tk (g:VX) (ps:List Nat) (a b:bB):step P O n (f+1) (.r (.code (.cC g ps a b)::k)) st Q=ad P n (.code (.cC g ps a b)::k) st Q:=rfl
theorem BK (l:List aG):step P O n (f+1) (.r (.code (.reg false l)::k)) st Q=step P O n f (.r (.ops l::k)) st Q:=rfl
theorem yK (l:List aG):step P O n (f+1) (.r (.code (.reg true l)::k)) st Q=step P O n f (.d l k) st Q:=rfl
theorem BO:step P O n (f+1) (.d [] k) st Q=step P O n f (.r k) st Q:=rfl
theorem wY (c:VX) (a b:bB):step P O n (f+1) (.r (.code (.cond c a b)::k)) st Q=cR P O n f (c.ev st.s) a b k st Q:=rfl
theorem LX (a b:bB):cR P O n f (.bool true) a b k st Q=step P O n f (.r (.code a::k)) st Q:=by simp [cR,dx,both]
theorem MD (a b:bB):cR P O n f (.bool false) a b k st Q=step P O n f (.r (.code b::k)) st Q:=by simp [cR,dx,both]
theorem Ev (p:Prop) [Decidable p] (a b:bB):cR P O n f (.bool (decide p)) a b k st Q=((p→step P O n f (.r (.code a::k)) st Q)∧(¬p→step P O n f (.r (.code b::k)) st Q)):=by simp [cR,dx,both]
theorem B7 (d:Option Nat) (op:VOp) (l:List aG):step P O n (f+1) (.r (.ops (⟨d,op,none⟩::l)::k)) st Q=td P O n f (bp op) d op none l k st Q:=rfl
theorem so (d:Option Nat) (l:List aG) (v:V):Iq P O n f l k d st Q (some v)=step P O n f (.r (.ops l::k)) ⟨aV st.s d v,st.σ⟩ Q:=rfl
theorem qf (d:Option Nat) (l:List aG) (σ':af):Gm P O n f l k d st Q (some σ')=step P O n f (.r (.ops l::k)) ⟨aV st.s d (.tup []),σ'⟩ Q:=rfl
theorem aH (d:Option Nat) (l:List aG) (g:Nat→V×af):H8 P O n f l k d st Q (some g)=∀id,st.σ id=none→step P O n f (.r (.ops l::k)) ⟨aV st.s d (g id).1,(g id).2⟩ Q:=rfl
theorem Ca (d:Option Nat) (op:VOp) (l:List aG):step P O n (f+1) (.d (⟨d,op,none⟩::l) k) st Q=uf P O n f (bp op) d op none l k st Q:=rfl
theorem sH (d:Option Nat) (l:List aG) (v:V):Iy P O n f l k d st Q (some v)=step P O n f (.d l k) ⟨aV st.s d v,st.σ⟩ Q:=rfl
theorem pP (d:Option Nat) (l:List aG) (σ':af):Ee P O n f l k d st Q (some σ')=step P O n f (.d l k) ⟨aV st.s d (.tup []),σ'⟩ Q:=rfl
theorem aL (d:Option Nat) (l:List aG) (g:Nat→V×af):Gq P O n f l k d st Q (some g)=∀id,st.σ id=none→step P O n f (.d l k) ⟨aV st.s d (g id).1,(g id).2⟩ Q:=rfl
theorem xe (d:Option Nat) (op:VOp) (x:VX) (b:Bool) (l:List aG):step P O n (f+1) (.r (.ops (⟨d,op,some (x,b)⟩::l)::k)) st Q=gR P O n f (x.ev st.s) d op x b l k st Q:=rfl
theorem DS (d:Option Nat) (op:VOp) (x:VX) (b:Bool) (l:List aG):gR P O n f (.tup []) d op x b l k st Q=step P O n f (.r (.ops l::k)) ⟨aV st.s d (.tup []),st.σ⟩ Q:=rfl
theorem Ix (d:Option Nat) (op:VOp) (x:VX) (l:List aG):gR P O n f (.bool true) d op x true l k st Q=td P O n f (bp op) d op (some (x,true)) l k (st.lit x (.bool true)) Q:=by simp [gR,dx,both]
theorem Il (d:Option Nat) (op:VOp) (x:VX) (l:List aG):gR P O n f (.bool false) d op x false l k st Q=td P O n f (bp op) d op (some (x,false)) l k (st.lit x (.bool false)) Q:=by simp [gR,dx,both]
theorem IC (d:Option Nat) (op:VOp) (x:VX) (l:List aG):gR P O n f (.bool true) d op x false l k st Q=step P O n f (.r (.ops l::k)) ⟨aV (st.lit x (.bool true)).s d (.tup []),(st.lit x (.bool true)).σ⟩ Q:=by simp [gR,dx,both]
theorem Ie (d:Option Nat) (op:VOp) (x:VX) (l:List aG):gR P O n f (.bool false) d op x true l k st Q=step P O n f (.r (.ops l::k)) ⟨aV (st.lit x (.bool false)).s d (.tup []),(st.lit x (.bool false)).σ⟩ Q:=by simp [gR,dx,both]
theorem yS (p:Prop) [Decidable p] (d:Option Nat) (op:VOp) (x:VX) (l:List aG):gR P O n f (.bool (decide p)) d op x true l k st Q =
 ((p→td P O n f (bp op) d op (some (x,true)) l k (st.lit x (.bool true)) Q)∧(¬p→step P O n f (.r (.ops l::k)) ⟨aV (st.lit x (.bool false)).s d (.tup []),(st.lit x (.bool false)).σ⟩ Q)):=by simp [gR,dx,both]
theorem xW (p:Prop) [Decidable p] (d:Option Nat) (op:VOp) (x:VX) (l:List aG):gR P O n f (.bool (decide p)) d op x false l k st Q =
 ((¬p→td P O n f (bp op) d op (some (x,false)) l k (st.lit x (.bool false)) Q)∧(p→step P O n f (.r (.ops l::k)) ⟨aV (st.lit x (.bool true)).s d (.tup []),(st.lit x (.bool true)).σ⟩ Q)):=by simp [gR,dx,both]
theorem xi (d:Option Nat) (op:VOp) (x:VX) (b:Bool) (l:List aG):step P O n (f+1) (.d (⟨d,op,some (x,b)⟩::l) k) st Q=gD P O n f (x.ev st.s) d op x b l k st Q:=rfl
theorem Ey (d:Option Nat) (op:VOp) (x:VX) (b:Bool) (l:List aG):gD P O n f (.tup []) d op x b l k st Q=step P O n f (.d l k) ⟨aV st.s d (.tup []),st.σ⟩ Q:=rfl
theorem IB (d:Option Nat) (op:VOp) (x:VX) (l:List aG):gD P O n f (.bool true) d op x true l k st Q=uf P O n f (bp op) d op (some (x,true)) l k (st.lit x (.bool true)) Q:=by simp [gD,dx,both]
theorem ID (d:Option Nat) (op:VOp) (x:VX) (l:List aG):gD P O n f (.bool false) d op x false l k st Q=uf P O n f (bp op) d op (some (x,false)) l k (st.lit x (.bool false)) Q:=by simp [gD,dx,both]
theorem Ig (d:Option Nat) (op:VOp) (x:VX) (l:List aG):gD P O n f (.bool true) d op x false l k st Q=step P O n f (.d l k) ⟨aV (st.lit x (.bool true)).s d (.tup []),(st.lit x (.bool true)).σ⟩ Q:=by simp [gD,dx,both]
theorem Im (d:Option Nat) (op:VOp) (x:VX) (l:List aG):gD P O n f (.bool false) d op x true l k st Q=step P O n f (.d l k) ⟨aV (st.lit x (.bool false)).s d (.tup []),(st.lit x (.bool false)).σ⟩ Q:=by simp [gD,dx,both]
theorem yk (p:Prop) [Decidable p] (d:Option Nat) (op:VOp) (x:VX) (l:List aG):gD P O n f (.bool (decide p)) d op x true l k st Q =
 ((p→uf P O n f (bp op) d op (some (x,true)) l k (st.lit x (.bool true)) Q)∧(¬p→step P O n f (.d l k) ⟨aV (st.lit x (.bool false)).s d (.tup []),(st.lit x (.bool false)).σ⟩ Q)):=by simp [gD,dx,both]
theorem wQ (p:Prop) [Decidable p] (d:Option Nat) (op:VOp) (x:VX) (l:List aG):gD P O n f (.bool (decide p)) d op x false l k st Q =
 ((¬p→uf P O n f (bp op) d op (some (x,false)) l k (st.lit x (.bool false)) Q)∧(p→step P O n f (.d l k) ⟨aV (st.lit x (.bool true)).s d (.tup []),(st.lit x (.bool true)).σ⟩ Q)):=by simp [gD,dx,both]
end rules
def aU (P:Program) (f:FuncId) (args:List V) (v:V):Prop:=∀σ,az P f args σ fun r σ'=>r=v∧σ'=σ
variable {P:Program} {n:Nat} {st:St} {Q:St→Prop} {k:List It}
def jL:af:=fun _=>none
theorem oE (σ:af):aa jL σ:=fun _ _ h=>by simp [jL] at h
def V.lone:V→Bool
 | .int .. | .bool _ | .str _=>true
 | _=>false
theorem Rep.lone {μ μ':Mu} {ow ow':Nat→Prop} {w w':World} {v:V} {x:Value} (hv:v.lone=true) (h:Rep μ ow w v x):Rep μ' ow' w' v x:=by
 cases v <;> simp only [V.lone,Bool.false_eq_true] at hv <;> simpa [Rep] using h
def ar (v:V) (σ:af) (Post:V→af→Prop):Prop:=∃v' σ',aa σ' σ∧Wk σ σ' v v'∧Post v' σ'
theorem A3 {s:Nat→V} {σ:af} {d:Nat} {Post:V→af→Prop}:Ret [.tmp (.t d)] ⟨s,σ⟩ Post=ar (s d) σ Post:=by
 apply propext;simp only [Ret,ar,mD,et,fY,VX.ev];constructor
 ·rintro ⟨v,v',σ',h1,h2⟩; simp only [Oi] at h1; subst h1; exact ⟨v',σ',h2⟩
 ·rintro ⟨v',σ',h2⟩; exact ⟨_,v',σ',rfl,h2⟩
theorem B4 {s:Nat→V} {σ:af} {d e:Nat} {Post:V→af→Prop}:Ret [.tmp (.t d), .tmp (.t e)] ⟨s,σ⟩ Post=ar (.tup [s d,s e]) σ Post:=by
 apply propext;simp only [Ret,ar,mD,et,fY,VX.ev];constructor
 ·rintro ⟨v,v',σ',h1,h2⟩; simp only [Oi] at h1; subst h1; exact ⟨v',σ',h2⟩
 ·rintro ⟨v',σ',h2⟩; exact ⟨_,v',σ',rfl,h2⟩
theorem vy {s:Nat→V} {σ:af} {d e g:Nat} {Post:V→af→Prop}:Ret [.tmp (.t d), .tmp (.t e), .tmp (.t g)] ⟨s,σ⟩ Post=ar (.tup [s d,s e,s g]) σ Post:=by
 apply propext;simp only [Ret,ar,mD,et,fY,VX.ev];constructor
 ·rintro ⟨v,v',σ',h1,h2⟩; simp only [Oi] at h1; subst h1; exact ⟨v',σ',h2⟩
 ·rintro ⟨v',σ',h2⟩; exact ⟨_,v',σ',rfl,h2⟩
theorem xj {st:St} {Post:V→af→Prop}:Ret [] st Post=ar (.tup []) st.σ Post:=by
 apply propext;simp only [Ret,ar,mD,et];constructor
 ·rintro ⟨v,v',σ',h1,h2⟩; simp only [Oi] at h1; subst h1; exact ⟨v',σ',h2⟩
 ·rintro ⟨v',σ',h2⟩; exact ⟨_,v',σ',rfl,h2⟩
theorem ar.pure {v v0:V} {σ σ1:af} (h:aa σ σ1) (hv:v=v0):ar v σ1 fun r σ'=>r=v0∧σ'=σ :=
 ⟨v,σ,h,Wk.refl h v,hv,rfl⟩
theorem ar.same {v v0:V} {σ:af} (hv:v=v0):ar v σ fun r σ'=>r=v0∧σ'=σ:=.pure (aa.refl σ) hv
theorem fb {σ:af} {id i:Nat} {o:Ob}:upd σ id o i=none↔i≠id∧σ i=none:=by
 unfold upd; split <;> simp_all
theorem ag {σ:af} {id:Nat} {o:Ob}:upd σ id o id=some o:=by simp [upd]
theorem ab {σ:af} {id i:Nat} {o:Ob} (h:i≠id):upd σ id o i=σ i:=by simp [upd,h]
theorem dh {σ:af} {id i:Nat} (h:i≠id):del σ id i=σ i:=by simp [del,h]
theorem Bp {σ:af} {id:Nat} {a b:Ob}:upd (upd σ id a) id b=upd σ id b:=by
 funext i; simp only [upd]; split <;> rfl
theorem BC {σ:af} {id:Nat} {a:Ob} (h:σ id=none):del (upd σ id a) id=σ:=by
 funext i; simp only [del,upd]; split
 ·rename_i e; rw [e,h]
 ·rfl
theorem aa.upd {σ' σ:af} {id:Nat} {o:Ob} (h:aa σ' σ) (hid:σ id=none):aa σ' (Vc.upd σ id o) :=
 h.HM (by
  cases hs:σ' id with
  | none=>rfl
  | some x=>have:=h id x hs; rw [hid] at this; cases this)
theorem aa.IH {σ σ':af} {id:Nat} {o:Ob} (h:aa σ σ'):aa (Vc.upd σ id o) (Vc.upd σ' id o):=fun i x hx=>by
 simp only [Vc.upd] at hx ⊢;split at hx
 ·rename_i e; rw [if_pos e]; exact hx
 ·rename_i e; rw [if_neg e]; exact h i x hx
variable {P:Program} {n:Nat} {st:St} {Q:St→Prop} {k:List It} {μ:Mu} {w:World}
theorem vw {rows:List V} {sz:Nat} (h:∀r∈rows,r.cells.length=sz) (k:Nat):flat (rows.drop k)=(flat rows).drop (k*sz):=by
 induction rows generalizing k with
 | nil=>simp [flat]
 | cons r rs ih =>
   have e:∀l,flat (r::l)=r.cells++flat l:=fun l=>by simp [flat]
   cases k with
   | zero=>simp [flat]
   | succ k =>
     rw [List.drop_succ_cons,e,ih (fun x hx=>h x (by simp [hx])),Nat.add_mul,Nat.one_mul,Nat.add_comm,←h r (by simp),←List.drop_drop,List.drop_left]
theorem au.replicate {ow:Nat→Prop} {vs:List V} {l:List Value} (h:au μ ow w vs l):∀n,au μ ow w (List.replicate n vs).flatten (List.replicate n l).flatten
 | 0=>by simp [au]
 | n+1=>by
   simp only [List.replicate_succ,List.flatten_cons];exact h.append (au.replicate h n)
theorem zl {F:Fr} {a:Act} (hs:cN F μ st a w) {o:Oper} {x:Operand} {t e:TypeId} {args:Array Operand} {argTypes:Array TypeId} {i:TypeInfo} {z:Value}
 (hoo:o.op=.call { callee:=.builtin .clear,args:=args,argTypes:=argTypes }) (harg:args=#[x]) (hty:argTypes[0]?=some t)
 (ht:P.underlying t=some (.slice e)) (hz:zeroOf P e=some (i,z)) {id off len:Nat} (h1:(cx F.n x).ev st.s=.own id off len) {ob:Ob} (h2:st.σ id=some ob)
 (h3:ob.sz=i.size) (h4:off+len≤ob.rows.length) :
 ∃y w',(execOp a.eval o).run P w=.ok (.value y) w' ∧
  cN F μ ⟨aV st.s (o.dst.filter (· < F.n)) (.tup []),upd st.σ id { ob with rows:=ob.rows.take off++List.replicate len (ofValue z)++ob.rows.drop (off+len) }⟩ (a.put o.dst y) w':=by
 obtain ⟨hi,hz0,hk,hzs,hone,hsz⟩:=eg hz;have R:=ck hs;have hx:=R x;rw [h1] at hx;simp only [Rep] at hx;have hrun:∀w',(Builtin.clear_ argTypes o.type #[a.eval x]).run P w=.ok (.tuple #[]) w'→(execOp a.eval o).run P w=.ok (.value (.tuple #[])) w':=by
  intro w' hw';unfold execOp;rw [hoo];simp [resolve,invoke,Go.builtin,harg,hw']
 have hrep:Rep μ (aC μ st.σ) w (.tup []) (.tuple #[]):=by simp only [Rep]; exact ⟨[],rfl,by simp [au]⟩
 have hzero:len=0→∃y w',(execOp a.eval o).run P w=.ok (.value y) w' ∧
  cN F μ ⟨aV st.s (o.dst.filter (· < F.n)) (.tup []),upd st.σ id { ob with rows:=ob.rows.take off++List.replicate len (ofValue z)++ob.rows.drop (off+len) }⟩ (a.put o.dst y) w':=by
  intro h0;subst h0;have hX:∃b c,a.eval x=.slice b 0 c:=by
   split at hx
   ·exact hx.elim
   ·exact ⟨_,_,hx.1⟩
   ·obtain ⟨o',c,h,_⟩:=hx; exact ⟨_,_,h⟩
  obtain ⟨b,c,hX⟩:=hX;have hst:upd st.σ id { ob with rows:=ob.rows.take off++List.replicate 0 (ofValue z)++ob.rows.drop (off+0) }=st.σ:=by
   funext j;simp only [upd,List.replicate_zero,List.append_nil,Nat.add_zero,List.take_append_drop];split
   ·rename_i e'; rw [e',h2]
   ·rfl
  rw [hst];refine ⟨.tuple #[],w,hrun w ?_,hs.pure hrep⟩;rw [hX];cases b <;> simp [Builtin.clear_,hty,run_underlying ht]
 split at hx
 ·exact hx.elim
 ·exact hzero hx.2.2
 ·rename_i b szb cap hid;obtain ⟨o',c,hX,c1,c2,c3,hz0⟩:=hx;by_cases h0:len=0
  ·exact hzero h0
  have hob:=hs.sat.obj id ob h2;rw [hid] at hob;obtain ⟨cur,e1,e2,e3,e4,e5,e6,e7⟩:=hob.plain hz0;obtain ⟨g1,xs,g2,g3,g4,g5⟩:=e7.cur e1;have hoff:o'=off*szb:=by
   rcases c3 with c3 | c3
   ·exact c3
   ·omega
  subst hoff;have hs':szb=i.size:=by omega
  subst hs';have hzl:z.cells.size=i.size:=hzs;have hnews:=iY z.cells len;have hnl:(Builtin.zeroCells z.cells len).toList.length=len*i.size:=by rw [hnews]; simp [hzl]
  have hbound:off*i.size+len*i.size≤ob.rows.length*i.size:=by rw [←Nat.add_mul]; exact Nat.mul_le_mul_right _ h4
  have hbound2:ob.rows.length*i.size≤cap*i.size:=Nat.mul_le_mul_right _ e5;have hone':∀u∈(Builtin.zeroCells z.cells len).toList,u.oneCell'=true:=by
   rw [hnews];intro u hu;simp only [List.mem_flatten,List.mem_replicate] at hu;obtain ⟨l,⟨_,rfl⟩,hu⟩:=hu;exact hone u hu
  have hst:=run_storeCells_at P b (off*i.size) ob.elem (Builtin.zeroCells z.cells len).toList 0 cur w e1 (by rw [hnl]; omega) hone';simp only [Nat.add_zero] at hst;refine ⟨.tuple #[],w.setRow b (cur.toList.take (off*i.size)++(Builtin.zeroCells z.cells len).toList++cur.toList.drop (off*i.size+(Builtin.zeroCells z.cells len).toList.length)).toArray,hrun _ ?_,?_⟩
  ·rw [hX];obtain ⟨m,rfl⟩:∃m,len=m+1:=⟨len - 1,by omega⟩
   simp only [Builtin.clear_,hty,Sem.run_bind,List.getElem?_toArray,Sem.run_pure,Result.andThen_ok,run_underlying ht,eh hz];simp [hst,run_underlying ht,eh hz]
  ·have hgrow:w.grownBy (w.setRow b (cur.toList.take (off*i.size)++(Builtin.zeroCells z.cells len).toList++cur.toList.drop (off*i.size+(Builtin.zeroCells z.cells len).toList.length)).toArray) (some b) :=
    ⟨rfl,rfl,rfl,by simp,fun kk _ hkk=>setRow_other w b kk _ (fun e=>hkk (by rw [e]))⟩
   have hzc:(ofValue z).cells.length=i.size:=by rw [fO hone]; simp [hzl]
   have hrows':∀q∈ob.rows.take off++List.replicate len (ofValue z)++ob.rows.drop (off+len),q.cells.length=i.size:=by
    intro q hq;simp only [List.mem_append] at hq;rcases hq with (hq | hq) | hq
    ·exact g1 q (List.mem_of_mem_take hq)
    ·rw [(List.mem_replicate.1 hq).2]; exact hzc
    ·exact g1 q (List.mem_of_mem_drop hq)
   have hflat:flat (ob.rows.take off++List.replicate len (ofValue z)++ob.rows.drop (off+len)) =
    (flat ob.rows).take (off*i.size)++(List.replicate len (ofValue z).cells).flatten++(flat ob.rows).drop (off*i.size+len*i.size):=by
    rw [gi,gi,rT,o9 g1];congr 1;rw [vw g1,Nat.add_mul]
   have hzr:au μ (aC μ st.σ) w (ofValue z).cells z.cells.toList:=by rw [fO hone]; exact eC _
   have hch:=hs.sat.change h2 hid (by omega) hgrow _ (ob.rows.take off++List.replicate len (ofValue z)++ob.rows.drop (off+len)) (xs.take (off*i.size)++(Builtin.zeroCells z.cells len).toList++xs.drop (off*i.size+(Builtin.zeroCells z.cells len).toList.length))
    (setRow_heap w b cur _ ob.elem _ e1) (by simp only [List.size_toArray,List.length_append,List.length_take,List.length_drop,hnl]; rw [Array.length_toList]; omega) (by simp; omega) hrows'
    (by rw [hflat,hnl,hnews]; exact ((g2.take _).append (hzr.replicate len)).append (g2.drop _))
    (by intro u hu
        simp only [List.mem_append] at hu;rcases hu with (hu | hu) | hu
        ·exact g3 u (List.mem_of_mem_take hu)
        ·exact hone' u hu
        ·exact g3 u (List.mem_of_mem_drop hu))
    (by intro j u hu
        have:=jT cur.toList xs _ g5 (off*i.size) (by rw [hnl,g4]; omega) j u hu;simpa using this)
   exact hs.step hch.1 (cH.refl _) hch.2 (by simp) (by simp only [Rep]; exact ⟨[],rfl,by simp [au]⟩)
theorem ad.clear {i:aG} {l:List aG} {sz:Nat} {z:V} {xv:VX} (hw:bh st.s i.g=some true) (ho:i.op=.clear sz z xv)
 {id off len:Nat} (h1:xv.ev st.s=.own id off len) {ob:Ob} (h2:st.σ id=some ob) (h3:ob.sz=sz) (h4:off+len≤ob.rows.length)
 (h:ad P n (.ops l::k) ⟨aV st.s i.dst (.tup []),upd st.σ id { ob with rows:=ob.rows.take off++List.replicate len z++ob.rows.drop (off+len) }⟩ Q):ad P n (.ops (i::l)::k) st Q:=by
 refine ad.ins (by rw [ho]; simp) hw fun F hn μ a w o all hi hs next Q' hnext=>?_
 subst hn;obtain ⟨hop,hd⟩:=dV hi;rw [ho] at hop;obtain ⟨x,t,e,args,argTypes,ti,zv,g1,g2,g3,g4,g5,rfl,rfl,rfl⟩:=CW hop;obtain ⟨y,w',hx,hs'⟩:=zl hs g1 g2 g3 g4 g5 h1 h2 h3 h4;unfold Oper.wp;rw [hx];refine hnext _ _ _ ⟨μ,?_⟩ h;rw [←hd];exact hs'
theorem EV {y:Operand} {t:TypeId} {v:V}:cx n y≠.c (.iface t v):=by
 cases y
 case tmp m=>simp only [cx]; split <;> simp
 case const u =>
  simp only [cx,ne_eq,VX.c.injEq];unfold ofValue;split
  ·split <;> simp
  ·unfold cellOf
   repeat' split
   all_goals simp
 all_goals simp [cx]
theorem xB {o:Op} {xa:VX} (h:cop P n o=.binB false xa (.c (.iface 0 .undef))):∃t x y m c yt e,o=.binOp .eql t x y yt∧y=.const (.slice none m c)∧P.underlying t=some (.slice e)∧cx n x=xa:=by
 cases o
 case binOp op t x y yt =>
  simp only [cop] at h;split at h
  ·cases op <;> simp only [reduceCtorEq,VOp.binB.injEq,Bool.true_eq_false,false_and] at h;exact absurd h.2.2 EV
  ·split at h
   ·cases op <;> simp only [reduceCtorEq] at h
   ·cases h
  ·split at h
   ·rename_i hs;unfold ct at h;split at h
    ·rename_i hy;obtain ⟨rfl,hy⟩:=hy;simp only [VOp.binB.injEq,and_true,true_and] at h;unfold vK at hs;split at hs
     ·rename_i e ht;unfold Ce LK at hy;split at hy
      ·split at hy
       ·exact ⟨t,x,_,_,_,yt,e,rfl,rfl,ht,h⟩
       ·cases hy
      ·cases hy
     ·cases hs
    ·cases h
   ·split at h
    ·split at h
     ·simp only [VOp.binB.injEq,VX.c.injEq,V.iface.injEq] at h;exact absurd h.2.2.1 (by decide)
     ·cases h
    ·split at h
     ·split at h
      ·simp only [VOp.binB.injEq,VX.c.injEq,V.iface.injEq] at h;exact absurd h.2.2.1 (by decide)
      ·cases h
     ·(repeat' split at h) <;> cases h
 case call c =>
  obtain ⟨callee,args,argTypes⟩:=c;cases callee
  case builtin b=>cases b <;> simp only [cop] at h <;> (repeat' split at h) <;> cases h
  all_goals (simp only [cop] at h; cases h)
 case unOp op t x=>cases op <;> simp only [cop] at h <;> cases h
 case makeFunc f a b=>cases f <;> simp only [cop] at h <;> (repeat' split at h) <;> cases h
 all_goals (simp only [cop] at h; (repeat' split at h) <;> cases h)
theorem ad.Ce {i:aG} {l:List aG} {xa:VX} (hw:bh st.s i.g=some true) (ho:i.op=.binB false xa (.c (.iface 0 .undef))) {sz:Nat} {rows:List V}
 (hx:xa.ev st.s=.sl sz rows) (h:∀b,(b=true→rows=[])→ad P n (.ops l::k) ⟨aV st.s i.dst (.bool b),st.σ⟩ Q):ad P n (.ops (i::l)::k) st Q:=by
 refine ad.ins (by rw [ho]; simp) hw fun F hn μ a w o all hi hs next Q' hnext=>?_
 subst hn;obtain ⟨hop,hd⟩:=dV hi;rw [ho] at hop;obtain ⟨t,x,y,m,c,yt,e,g1,rfl,g2,rfl⟩:=xB hop;have R:=ck hs x;rw [hx] at R;simp only [Rep] at R;obtain ⟨ba,cap,hX,_,hr⟩:=R;have hrun:(execOp a.eval o).run P w=.ok (.value (.bool ba.isNone)) w:=by
  unfold execOp;rw [g1];have hY:a.eval (.const (.slice none m c))=.slice none m c:=rfl;simp [hX,hY,eqGuard,Lib.run_eql_slice_nil w t e ba rows.length cap m c g2]
 unfold Oper.wp;rw [hrun];refine hnext _ _ _ ⟨μ,?_⟩ (h ba.isNone ?_)
 ·rw [←hd];exact hs.pure (by simp [Rep])
 ·intro hb;rcases hr with hr | ⟨b,off,rfl,_⟩
  ·exact hr
  ·cases hb
variable {P:Program} {n:Nat} {st:St} {Q:St→Prop} {k:List It}
def zd (l:List Nat) (s:Nat→V):Nat→V:=fun i=>if l.contains i then s i else .undef
theorem ze (l:List Nat) (s:Nat→V) (i:Nat):zd l s i=if l.contains i then s i else .undef:=rfl
def mix (m:Nat) (a b:Nat→V):Nat→V:=fun i=>if i < m then a i else b i
theorem BJ (m:Nat) (a b:Nat→V) (i:Nat):mix m a b i=if i < m then a i else b i:=rfl
theorem Ed (m:Nat) (s:Nat→V):mix m s s=s:=by funext i; simp [mix]
theorem nN (s:Nat→V) (v:V):aV s none v=s:=rfl
theorem BW {m d:Nat} (h:d < m) (a b:Nat→V) (v:V):aV (mix m a b) (some d) v=mix m (aV a (some d) v) b:=by
 funext i;simp only [aV,mix];split
 ·rename_i e; subst e; simp [h]
 ·split <;> rfl
theorem BQ {m d:Nat} (h:m≤d) (a b:Nat→V) (v:V):aV (mix m a b) (some d) v=mix m a (aV b (some d) v):=by
 funext i;simp only [aV,mix];split
 ·rename_i e; subst e; simp [Nat.not_lt.2 h]
 ·split <;> rfl
theorem ad.mix (m:Nat) {todo:List It} {s:Nat→V} {σ:af} (h:ad P n todo ⟨Vc.mix m s s,σ⟩ Q):ad P n todo ⟨s,σ⟩ Q:=by
 rw [Ed] at h; exact h
theorem nM {s:Nat→V} {σ:af} {agg:Bool} {sz d:Nat} {Post:V→af→Prop} :
 Ret [.cell agg sz (.t d)] ⟨s,σ⟩ Post=dz (bN σ agg sz (s d)) fun v=>ar v σ Post:=by
 unfold Ret ar mD;simp only [et,fY,VX.ev];cases bN σ agg sz (s d) <;> simp [dz]
theorem nQ {s:Nat→V} {σ:af} {agg:Bool} {sz d e:Nat} {Post:V→af→Prop} :
 Ret [.cell agg sz (.t d), .tmp (.t e)] ⟨s,σ⟩ Post=dz (bN σ agg sz (s d)) fun v=>ar (.tup [v,s e]) σ Post:=by
 unfold Ret ar mD;simp only [et,fY,VX.ev];cases bN σ agg sz (s d) <;> simp [dz]
theorem aa.aB {σ0 σ:af} {id:Nat} {o:Ob} (h:aa σ0 σ) (hid:σ0 id=none):aa σ0 (Vc.upd σ id o):=fun i x hx=>by
 have hne:i≠id:=fun e=>by rw [e,hid] at hx; cases hx
 rw [ab hne];exact h i x hx
theorem aa.none {a b:af} (h:aa a b) {i:Nat} (hi:b i=none):a i=none:=by
 cases ha:a i with
 | none=>rfl
 | some o=>rw [h i o ha] at hi; cases hi
theorem ao {σ:af} {i j:Nat} {o:Ob} (h:σ i=some o) (hj:σ j=none):i≠j:=by rintro rfl; rw [h] at hj; cases hj
theorem ae {O:Orc P} {f:Nat} {d:Option Nat} {l:List aG} {v:Nat→V} {ob:Ob} {s:Nat→V} {σ:af}
 (h:∀id σ',aa σ σ'→σ' id=some ob→σ id=none→step P O n f (.r (.ops l::k)) ⟨aV s d (v id),σ'⟩ Q) :
 H8 P O n f l k d ⟨s,σ⟩ Q (some fun id=>(v id,Vc.upd σ id ob)):=by
 rw [aH];exact fun id hid=>h id _ ((aa.refl σ).upd hid) ag hid
theorem bC {O:Orc P} {f:Nat} {d:Option Nat} {l:List aG} {v:Nat→V} {ob:Ob} {s:Nat→V} {σ:af}
 (h:∀id σ',aa σ σ'→σ' id=some ob→σ id=none→step P O n f (.d l k) ⟨aV s d (v id),σ'⟩ Q) :
 Gq P O n f l k d ⟨s,σ⟩ Q (some fun id=>(v id,Vc.upd σ id ob)):=by
 rw [aL];exact fun id hid=>h id _ ((aa.refl σ).upd hid) ag hid
theorem uq {O:Orc P} {f:Nat} (t:Bool) (a b:bB):cR P O n f (.bool t) a b k st Q=((t=true→step P O n f (.r (.code a::k)) st Q)∧(t=false→step P O n f (.r (.code b::k)) st Q)):=by
 cases t <;> simp [cR,dx,both]
theorem ad.ay {i:aG} {l:List aG} {fx:VX} {xs:List VX} {s:Nat→V} {σ:af} {f:FuncId} {caps:List V} {v:V} (hw:bh s i.g=some true) (ho:i.op=.call fx xs)
 (hf:fx.ev s=.fn f caps) (hc:az P f (xs.map (·.ev s)++caps) σ fun r σ'=>r=v∧σ'=σ) (h:ad P n (.ops l::k) ⟨aV s i.dst v,σ⟩ Q) :
 ad P n (.ops (i::l)::k) ⟨s,σ⟩ Q:=by
 refine ad.call hw ho hf hc ?_;rintro r σ' ⟨rfl,rfl⟩;exact h
theorem y7 (op:BinOp) (k:IntKind) (a b:Int):tX op (.int k a) (.int k b)=cG op k a b:=by simp [tX]
theorem wR (op:BinOp) (a b:List UInt8):tX op (.str a) (.str b)=ed op a b:=rfl
theorem te (op:BinOp) (k k':IntKind) (a b:Int):nG op (.int k a) (.int k' b)=eG op k a b:=rfl
theorem tJ (op:BinOp) (a b:List UInt8):nG op (.str a) (.str b)=eF op a b:=rfl
theorem yj (id off n:Nat):dD false (.own id off n)=some (.int .i64 n):=rfl
theorem B9 (sz:Nat) (rows:List V):dD false (.sl sz rows)=some (.int .i64 rows.length):=rfl
theorem uW:dD false .aD=some (.int .i64 0):=rfl
theorem xV (s:List UInt8):dD true (.str s)=some (.int .i64 s.length):=rfl
theorem uB (σ:af) (esz id off len:Nat) (k:IntKind) (j:Int):bD σ esz (.own id off len) (.int k j)=match σ id with
 | some ob=>if ob.sz=esz∧0≤j∧j < len then some (.ptr id (off+j.toNat) 0) else none
 | none=>none:=rfl
theorem uG (σ:af) (agg:Bool) (sz id i k:Nat):bN σ agg sz (.ptr id i k)=match σ id with
 | some ob=>match ob.rows[i]? with
   | some r=>if agg then (if k=0∧r.cells.length=sz then some (.agg r.cells) else if k+sz≤r.cells.length then some (.agg ((r.cells.drop k).take sz)) else none)
      else r.cells[k]?
   | none=>none
 | none=>none:=rfl
theorem oF (σ:af) (sz:Nat) (vs:List V):bN σ true sz (.rp (.agg vs))=if vs.length=sz then some (.agg vs) else none:=rfl
theorem oD (σ:af) (sz:Nat) (k:IntKind) (j:Int):bN σ false sz (.rp (.int k j))=some (.int k j):=rfl
def Reads (σ:af) (sz:Nat) (agg:Bool) (sv:V) (rows:List V):Prop :=
 dD false sv=some (.int .i64 rows.length)∧∀(i:Nat) v,rows[i]?=some v→∃p,bD σ sz sv (.int .i64 i)=some p∧bN σ agg sz p=some v
theorem Reads.ints {σ:af} {l:List Int}:Reads σ 1 false (.sl 1 (l.map (.int .i64 ·))) (l.map (.int .i64 ·)):=by
 refine ⟨rfl,fun i v hv=>?_⟩;obtain ⟨n,hn,rfl⟩:∃n,l[i]?=some n∧v=.int .i64 n:=by
  rw [List.getElem?_map] at hv;cases h:l[i]? with
  | none=>simp [h] at hv
  | some n=>simp [h] at hv; exact ⟨n,rfl,hv.symm⟩
 refine ⟨.rp (.int .i64 n),?_,rfl⟩;simp [bD,hn]
theorem Reads.own {σ:af} {sz id off len:Nat} {ob:Ob} (ho:σ id=some ob) (hs:ob.sz=sz) (hl:off+len≤ob.rows.length) (h1:∀r∈ob.rows,r.cells=[r]) :
 Reads σ sz false (.own id off len) ((ob.rows.drop off).take len):=by
 refine ⟨by simp [dD]; omega,fun i v hv=>?_⟩;have hi:i < len:=by
  have:=(List.getElem?_eq_some_iff.1 hv).1;simp at this;omega
 have hv':ob.rows[off+i]?=some v:=by
  rw [List.getElem?_take,if_pos hi,List.getElem?_drop] at hv;exact hv
 refine ⟨.ptr id (off+i) 0,?_,?_⟩
 ·simp [bD,ho,hs,hi]
 ·simp [bN,ho,hv',h1 v (List.mem_of_getElem? hv')]
theorem ak {m:Int} (h1:-9223372036854775808≤m) (h2:m≤9223372036854775807):inR .i64 m:=by
 unfold inR;rw [IntKind.wrap_i64];omega
mutual
/-- no row's number in it -/
def V.ee:V→Bool
 | .own .. | .ptr .. | .yl _=>false
 | .sl _ rows=>fG rows
 | .rp v=>v.ee
 | .fn _ caps=>fG caps
 | .bm _ caps=>fG caps
 | .iface _ v=>v.ee
 | .agg c | .tup c=>fG c
 | _=>true
def fG:List V→Bool
 | []=>true
 | v::vs=>v.ee && fG vs
end
theorem az.H7 {P:Program} {f:FuncId} {args:List V} {σ:af} {Post Post':V→af→Prop} (h:az P f args σ Post)
 (hp:∀r σ',Post r σ'→ar r σ' Post'):az P f args σ Post':=⟨h.1,fun μ w vals hs hr=>(h.2 μ w vals hs hr).mono fun e w' ⟨r,σ',μ',val,h1,h2,h3,h4,h5⟩=>by
 obtain ⟨v',σ'',g1,g2,g3⟩:=hp r σ' h2;exact ⟨v',σ'',μ',val,h1,g3,h3,h4.drop g1,g2 μ' _ _ _ _ h4 h5⟩⟩
mutual
/-- the same,with each row of its own as one that is only read -/
inductive Fz (σ:af) (N:Nat→Prop):V→V→Prop
 | same (v:V) (h:v.ee=true):Fz σ N v v
 | own (id off len:Nat) (ob:Ob) (rows:List V) (h1:σ id=some ob) (h2:N id) (h3:off+len≤ob.rows.length) (h4:FzL σ N ((ob.rows.drop off).take len) rows) :
    Fz σ N (.own id off len) (.sl ob.sz rows)
 | nil (sz:Nat):Fz σ N .aD (.sl sz [])
 | sl (sz:Nat) (rows rows':List V) (h:FzL σ N rows rows'):Fz σ N (.sl sz rows) (.sl sz rows')
 | agg (cs ds:List V) (h:FzL σ N cs ds):Fz σ N (.agg cs) (.agg ds)
 | tup (cs ds:List V) (h:FzL σ N cs ds):Fz σ N (.tup cs) (.tup ds)
 | ptr (id i:Nat) (ob:Ob) (r u:V) (h1:σ id=some ob) (h2:N id) (h3:ob.rows[i]?=some r) (h4:Fz σ N r u):Fz σ N (.ptr id i 0) (.rp u)
 | fn (f:FuncId) (cs ds:List V) (h:FzL σ N cs ds):Fz σ N (.fn f cs) (.fn f ds)
 | bm (f:FuncId) (cs ds:List V) (h:FzL σ N cs ds):Fz σ N (.bm f cs) (.bm f ds)
 | iface (t:TypeId) (v u:V) (h:Fz σ N v u):Fz σ N (.iface t v) (.iface t u)
inductive FzL (σ:af) (N:Nat→Prop):List V→List V→Prop
 | nil:FzL σ N [] []
 | cons (v u:V) (vs us:List V) (h:Fz σ N v u) (h':FzL σ N vs us):FzL σ N (v::vs) (u::us)
end
section
variable {σ K:af} {N:Nat→Prop} {μ:Mu} {w0 w:World} {ow0:Nat→Prop}
theorem bt.lift {ow ow':Nat→Prop} {v u:V} {b off:Nat} (hv:∀cs,v≠.agg cs) (hu:∀cs,u≠.agg cs) (h:∀x,Rep μ ow w v x→Rep μ ow' w u x)
 (hr:bt μ ow w v b off):bt μ ow' w u b off:=by
 have e1:∃x,w.cell? ⟨b,off,none⟩=some x∧Rep μ ow w v x∧x.oneCell'=true:=by
  cases v <;> first | exact absurd rfl (hv _) | simpa only [bt] using hr
 obtain ⟨x,h1,h2,h3⟩:=e1;have e2:∃x,w.cell? ⟨b,off,none⟩=some x∧Rep μ ow' w u x∧x.oneCell'=true:=⟨x,h1,h x h2,h3⟩
 cases u <;> first | exact absurd rfl (hu _) | simpa only [bt] using e2
mutual
theorem Fz.down (hs:Sat w0 ow0 μ σ w) (hK:aa K σ) (hN:∀id,N id→K id=none):∀ {v u:V},Fz σ N v u→(∀x,Rep μ (aC μ σ) w v x→Rep μ (aC μ K) w u x) ∧
 (∀b off,bt μ (aC μ σ) w v b off→bt μ (aC μ K) w u b off)∧u.cells.length=v.cells.length
 | _,_, .same v h=>⟨fun x hr=>Rep.mono (cH.refl μ) (cE.sub w hK) (Nat.le_refl _) v x hr,fun b off hr=>bt.mono (cH.refl μ) (cE.sub w hK) (Nat.le_refl _) v b off rfl hr,rfl⟩
 | _,_, .own id off len ob rows ho h2 hl h4=>by
   have hd:=FzL.down hs hK hN h4;have key:∀x,Rep μ (aC μ σ) w (.own id off len) x→Rep μ (aC μ K) w (.sl ob.sz rows) x:=by
    intro x hr;simp only [Rep] at hr ⊢;have hlen:rows.length=len:=by rw [hd.2.2.2]; simp; omega
    have hob:=hs.obj id ob ho;split at hr
    ·exact hr.elim
    ·obtain ⟨rfl,rfl,rfl⟩:=hr;have:rows=[]:=List.eq_nil_of_length_eq_zero hlen;subst this;exact ⟨none,0,by simp,by simp, .inl rfl⟩
    ·rename_i b sz cap hb;obtain ⟨o,c,rfl,h1,h2',h3,hz⟩:=hr;refine ⟨_,c,by rw [hlen],by omega,?_⟩;by_cases h0:len=0
     ·left; exact List.eq_nil_of_length_eq_zero (by omega)
     ·right;rw [hb] at hob;obtain ⟨g1,g2,g3,g4,g5⟩:=hob.rows hz;have ho':o=off*sz:=by
       rcases h3 with h3 | h3
       ·exact h3
       ·omega
      subst ho' g1;refine ⟨b,_,rfl,?_,g2,?_⟩
      ·rintro ⟨id',ob',sz',cap',e1,e2⟩;have:=hs.inj id' id ob' ob _ _ _ _ _ (hK _ _ e1) ho e2 hb;rw [this,hN id h2] at e1;cases e1
      ·have:=(g5.drop off).take len;rw [Nat.zero_add] at this;exact hd.2.2.1 _ _ _ this
   exact ⟨key,fun b off' hr=>bt.lift (fun _=>by simp) (fun _=>by simp) key hr,rfl⟩
 | _,_, .nil sz=>by
   have key:∀x,Rep μ (aC μ σ) w .aD x→Rep μ (aC μ K) w (.sl sz []) x:=fun x hr=>by
    simp only [Rep] at hr ⊢;exact ⟨none,0,by simpa using hr,by simp, .inl trivial⟩
   exact ⟨key,fun b off' hr=>bt.lift (fun _=>by simp) (fun _=>by simp) key hr,rfl⟩
 | _,_, .sl sz rows rows' h=>by
   have hd:=FzL.down hs hK hN h;have key:∀x,Rep μ (aC μ σ) w (.sl sz rows) x→Rep μ (aC μ K) w (.sl sz rows') x:=fun x hr=>by
    simp only [Rep] at hr ⊢;obtain ⟨a,cap,rfl,h1,h2⟩:=hr;refine ⟨a,cap,by rw [hd.2.2.2],by rw [hd.2.2.2]; exact h1,?_⟩;rcases h2 with h2 | ⟨b,off,h3,h4,h5,h6⟩
    ·left;have:=hd.2.2.2;rw [h2] at this;exact List.eq_nil_of_length_eq_zero this
    ·exact .inr ⟨b,off,h3,fun ho=>h4 (ho.sub hK),h5,hd.2.2.1 _ _ _ h6⟩
   exact ⟨key,fun b off' hr=>bt.lift (fun _=>by simp) (fun _=>by simp) key hr,rfl⟩
 | _,_, .agg cs ds h=>by
   have hd:=FzL.down hs hK hN h;refine ⟨fun x hr=>?_,fun b off hr=>?_,by simp only [V.cells]; exact hd.2.2.2⟩
   ·simp only [Rep] at hr ⊢;obtain ⟨vals,rfl,h1,h2⟩:=hr;exact ⟨vals,rfl,hd.1 _ h1,h2⟩
   ·simp only [bt] at hr ⊢;exact hd.2.1 _ _ hr
 | _,_, .tup cs ds h=>by
   have hd:=FzL.down hs hK hN h;have key:∀x,Rep μ (aC μ σ) w (.tup cs) x→Rep μ (aC μ K) w (.tup ds) x:=fun x hr=>by
    simp only [Rep] at hr ⊢;obtain ⟨vals,rfl,h1⟩:=hr;exact ⟨vals,rfl,hd.1 _ h1⟩
   exact ⟨key,fun b off' hr=>bt.lift (fun _=>by simp) (fun _=>by simp) key hr,rfl⟩
 | _,_, .ptr id i ob r u ho h2 hi h4=>by
   have hd:=Fz.down hs hK hN h4;have key:∀x,Rep μ (aC μ σ) w (.ptr id i 0) x→Rep μ (aC μ K) w (.rp u) x:=by
    intro x hr;simp only [Rep] at hr ⊢;have hob:=hs.obj id ob ho;split at hr
    ·rename_i b sz cap hb;obtain ⟨rfl,hz⟩:=hr;rw [hb] at hob;obtain ⟨g1,g2,g3,g4,g5⟩:=hob.rows hz;obtain ⟨e1,e2⟩:=g5.get hi;rw [Nat.zero_add] at e2;have hno:¬aC μ K b:=by
      rintro ⟨id',ob',sz',cap',e1,e2⟩;have:=hs.inj id' id ob' ob _ _ _ _ _ (hK _ _ e1) ho e2 hb;rw [this,hN id h2] at e1;cases e1
     refine ⟨b,i*sz,by simp,?_, .inr hno,hd.2.1 _ _ ((dF _ _ _ _ _ _).2 e2)⟩;cases hc:r.cells with
     | nil=>rw [hc] at e1; simp at e1; omega
     | cons c cs =>
       rw [hc] at e2;simp only [aP] at e2;obtain ⟨⟨y,hy,_⟩,_⟩:=e2;exact World.block_lt_of_cell? w _ hy
    ·exact hr.elim
   exact ⟨key,fun b off' hr=>bt.lift (fun _=>by simp) (fun _=>by simp) key hr,rfl⟩
 | _,_, .fn f cs ds h=>by
   have hd:=FzL.down hs hK hN h;have key:∀x,Rep μ (aC μ σ) w (.fn f cs) x→Rep μ (aC μ K) w (.fn f ds) x:=fun x hr=>by
    simp only [Rep] at hr ⊢;obtain ⟨vals,rfl,h1⟩:=hr;exact ⟨vals,rfl,hd.1 _ h1⟩
   exact ⟨key,fun b off' hr=>bt.lift (fun _=>by simp) (fun _=>by simp) key hr,rfl⟩
 | _,_, .bm f cs ds h=>by
   have hd:=FzL.down hs hK hN h;have key:∀x,Rep μ (aC μ σ) w (.bm f cs) x→Rep μ (aC μ K) w (.bm f ds) x:=fun x hr=>by
    simp only [Rep] at hr ⊢;obtain ⟨vals,rfl,h1⟩:=hr;exact ⟨vals,rfl,hd.1 _ h1⟩
   exact ⟨key,fun b off' hr=>bt.lift (fun _=>by simp) (fun _=>by simp) key hr,rfl⟩
 | _,_, .iface t v u h=>by
   have hd:=Fz.down hs hK hN h;have key:∀x,Rep μ (aC μ σ) w (.iface t v) x→Rep μ (aC μ K) w (.iface t u) x:=fun x hr=>by
    simp only [Rep] at hr ⊢;obtain ⟨y,rfl,h1⟩:=hr;exact ⟨y,rfl,hd.1 _ h1⟩
   exact ⟨key,fun b off' hr=>bt.lift (fun _=>by simp) (fun _=>by simp) key hr,rfl⟩
theorem FzL.down (hs:Sat w0 ow0 μ σ w) (hK:aa K σ) (hN:∀id,N id→K id=none):∀ {vs us:List V},FzL σ N vs us→(∀l,au μ (aC μ σ) w vs l→au μ (aC μ K) w us l) ∧
 (∀b off,aP μ (aC μ σ) w vs b off→aP μ (aC μ K) w us b off)∧(∀b off sz,aX μ (aC μ σ) w vs b off sz→aX μ (aC μ K) w us b off sz)∧us.length=vs.length
 | _,_, .nil=>⟨fun l h=>by simpa [au] using h,fun _ _ _=>by simp [aP],fun _ _ _ _=>by simp [aX],rfl⟩
 | _,_, .cons v u vs us h h'=>by
   have hd:=Fz.down hs hK hN h;have hd':=FzL.down hs hK hN h';refine ⟨fun l hr=>?_,fun b off hr=>?_,fun b off sz hr=>?_,by simp [hd'.2.2.2]⟩
   ·simp only [au] at hr ⊢;obtain ⟨x,xs,rfl,h1,h2⟩:=hr;exact ⟨x,xs,rfl,hd.1 _ h1,hd'.1 _ h2⟩
   ·simp only [aP] at hr ⊢;obtain ⟨⟨x,h1,h2,h3⟩,h4⟩:=hr;exact ⟨⟨x,h1,hd.1 _ h2,h3⟩,hd'.2.1 _ _ h4⟩
   ·simp only [aX] at hr ⊢;exact ⟨by rw [hd.2.2]; exact hr.1,hd.2.1 _ _ hr.2.1,hd'.2.2.1 _ _ _ hr.2.2⟩
end
theorem Fz.wk {v u:V} (h:Fz σ N v u) (hK:aa K σ) (hN:∀id,N id→K id=none):Wk σ K v u:=fun _ _ _ _ x hs hr=>(Fz.down hs hK hN h).1 x hr
end
theorem BB:(((((((type_of% @AZ)∧(type_of% @A3))∧((type_of% @B4)∧(type_of% @vy)))∧(((type_of% @xj)∧(type_of% @nM))∧((type_of% @nQ)∧(type_of% @pR))))∧((((type_of% @su)∧(type_of% @qu))∧((type_of% @ql)∧(type_of% @wZ)))∧(((type_of% @Bx)∧(type_of% @uA))∧((type_of% @y8)∧(type_of% @w9)))))∧(((((type_of% @Bo)∧(type_of% @zn))∧((type_of% @tk)∧(type_of% @BK)))∧(((type_of% @yK)∧(type_of% @xq))∧((type_of% @BO)∧(type_of% @wY))))∧((((type_of% @LX)∧(type_of% @MD))∧((type_of% @Ev)∧(type_of% @B7)))∧(((type_of% @DL)∧(type_of% @E5))∧((type_of% @DI)∧((type_of% @FW)∧(type_of% @DH)))))))∧((((((type_of% @rW)∧(type_of% @sO))∧((type_of% @yn)∧(type_of% @sE)))∧(((type_of% @sy)∧(type_of% @so))∧((type_of% @qf)∧(type_of% @Ca))))∧((((type_of% @Es)∧(type_of% @Fm))∧((type_of% @DY)∧(type_of% @F3)))∧(((type_of% @sH)∧(type_of% @pP))∧((type_of% @xe)∧((type_of% @DS)∧(type_of% @Ix))))))∧(((((type_of% @Il)∧(type_of% @IC))∧((type_of% @Ie)∧(type_of% @yS)))∧(((type_of% @xW)∧(type_of% @xi))∧((type_of% @Ey)∧(type_of% @IB))))∧((((type_of% @ID)∧(type_of% @Ig))∧((type_of% @Im)∧(type_of% @yk)))∧(((type_of% @wQ)∧(type_of% @nN))∧((type_of% @BW)∧((type_of% @BQ)∧(type_of% @BJ))))))))∧(((((((type_of% @vr)∧(type_of% @vx))∧((type_of% @IF)∧(type_of% @Ir)))∧(((type_of% @L4)∧(type_of% @Mz))∧((type_of% @y7)∧(type_of% @wR))))∧((((type_of% @te)∧(type_of% @tJ))∧((type_of% @yj)∧(type_of% @B9)))∧(((type_of% @uW)∧(type_of% @xV))∧((type_of% @uB)∧(type_of% @uG)))))∧(((((type_of% @oF)∧(type_of% @oD))∧((type_of% @ag)∧(type_of% @Bp)))∧(((type_of% @true_implies)∧(type_of% @false_implies))∧((type_of% @implies_true.{0})∧(type_of% @ze))))∧((((type_of% @List.getD_cons_zero.{0})∧(type_of% @List.getD_cons_succ.{0}))∧((type_of% @List.getD_nil.{0})∧(type_of% @List.map_cons.{0,0})))∧(((type_of% @List.map_nil.{0,0})∧(type_of% @List.length_cons.{0}))∧((type_of% @List.length_nil.{0})∧((type_of% @List.drop_succ_cons.{0})∧(type_of% @List.drop_zero.{0})))))))∧((((((type_of% @List.take_succ_cons.{0})∧(type_of% @List.take_zero.{0}))∧((type_of% @List.set_cons_zero.{0})∧(type_of% @List.set_cons_succ.{0})))∧(((type_of% @List.append_nil.{0})∧(type_of% @List.nil_append.{0}))∧((type_of% @List.cons_append.{0})∧(type_of% @List.all_cons.{0}))))∧((((type_of% @List.all_nil.{0})∧(type_of% @List.getElem?_cons_zero.{0}))∧((type_of% @List.getElem?_cons_succ.{0})∧(type_of% @List.contains_cons.{0})))∧(((type_of% @List.contains_nil.{0})∧(type_of% @Option.isSome_some.{0}))∧((type_of% @Option.map_some.{0,0})∧((type_of% @Option.map_none.{0,0})∧(type_of% @true_and))))))∧(((((type_of% @and_true)∧(type_of% @and_self))∧((type_of% @Nat.zero_add)∧(type_of% @Nat.add_zero)))∧(((type_of% @Bool.not_true)∧(type_of% @Bool.not_false))∧((type_of% @Bool.false_eq_true)∧(type_of% @Bool.or_true))))∧((((type_of% @Bool.true_or)∧(type_of% @Bool.or_false))∧((type_of% @Bool.false_or)∧(type_of% @Bool.true_and)))∧(((type_of% @Bool.and_true)∧(type_of% @Bool.and_self))∧((type_of% @decide_true)∧((type_of% @decide_false)∧(type_of% @decide_eq_true_eq)))))))) :=
 ⟨⟨⟨⟨⟨⟨⟨@AZ,@A3⟩,⟨@B4,@vy⟩⟩,⟨⟨@xj,@nM⟩,⟨@nQ,@pR⟩⟩⟩,⟨⟨⟨@su,@qu⟩,⟨@ql,@wZ⟩⟩,⟨⟨@Bx,@uA⟩,⟨@y8,@w9⟩⟩⟩⟩,⟨⟨⟨⟨@Bo,@zn⟩,⟨@tk,@BK⟩⟩,⟨⟨@yK,@xq⟩,⟨@BO,@wY⟩⟩⟩,⟨⟨⟨@LX,@MD⟩,⟨@Ev,@B7⟩⟩,⟨⟨@DL,@E5⟩,⟨@DI,⟨@FW,@DH⟩⟩⟩⟩⟩⟩,⟨⟨⟨⟨⟨@rW,@sO⟩,⟨@yn,@sE⟩⟩,⟨⟨@sy,@so⟩,⟨@qf,@Ca⟩⟩⟩,⟨⟨⟨@Es,@Fm⟩,⟨@DY,@F3⟩⟩,⟨⟨@sH,@pP⟩,⟨@xe,⟨@DS,@Ix⟩⟩⟩⟩⟩,⟨⟨⟨⟨@Il,@IC⟩,⟨@Ie,@yS⟩⟩,⟨⟨@xW,@xi⟩,⟨@Ey,@IB⟩⟩⟩,⟨⟨⟨@ID,@Ig⟩,⟨@Im,@yk⟩⟩,⟨⟨@wQ,@nN⟩,⟨@BW,⟨@BQ,@BJ⟩⟩⟩⟩⟩⟩⟩,⟨⟨⟨⟨⟨⟨@vr,@vx⟩,⟨@IF,@Ir⟩⟩,⟨⟨@L4,@Mz⟩,⟨@y7,@wR⟩⟩⟩,⟨⟨⟨@te,@tJ⟩,⟨@yj,@B9⟩⟩,⟨⟨@uW,@xV⟩,⟨@uB,@uG⟩⟩⟩⟩,⟨⟨⟨⟨@oF,@oD⟩,⟨@ag,@Bp⟩⟩,⟨⟨@true_implies,@false_implies⟩,⟨@implies_true.{0},@ze⟩⟩⟩,⟨⟨⟨@List.getD_cons_zero.{0},@List.getD_cons_succ.{0}⟩,⟨@List.getD_nil.{0},@List.map_cons.{0,0}⟩⟩,⟨⟨@List.map_nil.{0,0},@List.length_cons.{0}⟩,⟨@List.length_nil.{0},⟨@List.drop_succ_cons.{0},@List.drop_zero.{0}⟩⟩⟩⟩⟩⟩,⟨⟨⟨⟨⟨@List.take_succ_cons.{0},@List.take_zero.{0}⟩,⟨@List.set_cons_zero.{0},@List.set_cons_succ.{0}⟩⟩,⟨⟨@List.append_nil.{0},@List.nil_append.{0}⟩,⟨@List.cons_append.{0},@List.all_cons.{0}⟩⟩⟩,⟨⟨⟨@List.all_nil.{0},@List.getElem?_cons_zero.{0}⟩,⟨@List.getElem?_cons_succ.{0},@List.contains_cons.{0}⟩⟩,⟨⟨@List.contains_nil.{0},@Option.isSome_some.{0}⟩,⟨@Option.map_some.{0,0},⟨@Option.map_none.{0,0},@true_and⟩⟩⟩⟩⟩,⟨⟨⟨⟨@and_true,@and_self⟩,⟨@Nat.zero_add,@Nat.add_zero⟩⟩,⟨⟨@Bool.not_true,@Bool.not_false⟩,⟨@Bool.false_eq_true,@Bool.or_true⟩⟩⟩,⟨⟨⟨@Bool.true_or,@Bool.or_false⟩,⟨@Bool.false_or,@Bool.true_and⟩⟩,⟨⟨@Bool.and_true,@Bool.and_self⟩,⟨@decide_true,⟨@decide_false,@decide_eq_true_eq⟩⟩⟩⟩⟩⟩⟩⟩
theorem CC:(∀(l:List V),V.cells (.agg l)=l)∧(V.cells (.undef )=[.undef ])∧(∀(k:IntKind) (i:Int),V.cells (.int k i)=[.int k i])∧(∀(b:Bool),V.cells (.bool b)=[.bool b])∧(∀(s:List UInt8),V.cells (.str s)=[.str s])∧(V.cells (.aD )=[.aD ])∧(∀(a:Nat) (l:List V),V.cells (.sl a l)=[.sl a l])∧(∀(a b c:Nat),V.cells (.own a b c)=[.own a b c])∧(∀(a b c:Nat),V.cells (.ptr a b c)=[.ptr a b c])∧(∀(a:V),V.cells (.rp a)=[.rp a])∧(V.cells (.nilp )=[.nilp ])∧(∀(f:FuncId) (l:List V),V.cells (.fn f l)=[.fn f l])∧(∀(f:FuncId) (l:List V),V.cells (.bm f l)=[.bm f l])∧(V.cells (.nilfn )=[.nilfn ])∧(∀(t:TypeId) (a:V),V.cells (.iface t a)=[.iface t a])∧(V.cells (.niliface )=[.niliface ])∧(∀(l:List V),V.cells (.tup l)=[.tup l])∧(∀(x:Value),V.cells (.raw x)=[.raw x])∧(∀(a:Nat),V.cells (.gp a)=[.gp a])∧(∀(a:Nat),V.cells (.yl a)=[.yl a])∧(∀(a:Nat),V.cells (.mp a)=[.mp a])∧(∀(l:List V),V.stays (.agg l)=true)∧(V.stays (.undef )=false)∧(∀(k:IntKind) (i:Int),V.stays (.int k i)=true)∧(∀(b:Bool),V.stays (.bool b)=true)∧(∀(s:List UInt8),V.stays (.str s)=true)∧(V.stays (.aD )=true)∧(∀(a:Nat) (l:List V),V.stays (.sl a l)=true)∧(∀(a b c:Nat),V.stays (.own a b c)=true)∧(∀(a b c:Nat),V.stays (.ptr a b c)=true)∧(∀(a:V),V.stays (.rp a)=true)∧(V.stays (.nilp )=true)∧(∀(f:FuncId) (l:List V),V.stays (.fn f l)=true)∧(∀(f:FuncId) (l:List V),V.stays (.bm f l)=true)∧(V.stays (.nilfn )=true)∧(∀(t:TypeId) (a:V),V.stays (.iface t a)=true)∧(V.stays (.niliface )=true)∧(∀(l:List V),V.stays (.tup l)=false)∧(∀(a:Nat),V.stays (.gp a)=true)∧(∀(a:Nat),V.stays (.yl a)=true)∧(∀(a:Nat),V.stays (.mp a)=true) :=
 ⟨fun _=>rfl,rfl,fun _ _=>rfl,fun _=>rfl,fun _=>rfl,rfl,fun _ _=>rfl,fun _ _ _=>rfl,fun _ _ _=>rfl,fun _=>rfl,rfl,fun _ _=>rfl,fun _ _=>rfl,rfl,fun _ _=>rfl,rfl,fun _=>rfl,fun _=>rfl,fun _=>rfl,fun _=>rfl,fun _=>rfl,fun _=>rfl,rfl,fun _ _=>rfl,fun _=>rfl,fun _=>rfl,rfl,fun _ _=>rfl,fun _ _ _=>rfl,fun _ _ _=>rfl,fun _=>rfl,rfl,fun _ _=>rfl,fun _ _=>rfl,rfl,fun _ _=>rfl,rfl,fun _=>rfl,fun _=>rfl,fun _=>rfl,fun _=>rfl⟩
theorem Nf {p:Prop} [Decidable p]:(!decide p)=decide (¬p):=decide_not.symm
theorem sR {P:Program} {n:Nat} {todo:List It} {st:St} {Q:St→Prop} (h:step P Orc.nothing n 300 (.r todo) st Q):ad P n todo st Q:=ad.bG Orc.nothing 300 h
theorem sG {P:Program} {n:Nat} {t:Td} {st:St} {Q:St→Prop} (h:step P Orc.nothing n 300 t st Q):Go P n t st Q:=Go.bG Orc.nothing 300 t st h
attribute [go_sem] BB CC Nf Orc.nothing bp eQ aE cG eG ed eF dQ cd kv gr bE fL dM eB cy cK bx ir de cI cc eff kc da bS jS dT cj dO cU kP binBV bT dq
abbrev vI (n:Int):V:=.int .i64 n
structure Sty where
 (top bottom padTop padBottom inset orphans widows head before after inside clear:Int)
deriving DecidableEq
def Sty.cells (s:Sty):List V:=[vI s.top,vI s.bottom,vI s.padTop,vI s.padBottom,vI s.inset,vI s.orphans,vI s.widows,vI s.head,vI s.before,vI s.after,vI s.inside,vI s.clear]
structure Nd where
 (kind size:Int)
 (st:Sty)
 (line space:Int)
 (words:List Int)
 (side w h:Int)
deriving DecidableEq
def bj (l:List Int):V:=.sl 1 (l.map vI)
def Nd.cells (x:Nd):List V:=[vI x.kind,vI x.size,vI x.st.top,vI x.st.bottom,vI x.st.padTop,vI x.st.padBottom,vI x.st.inset,vI x.st.orphans,vI x.st.widows,vI x.st.head,vI x.st.before,vI x.st.after,vI x.st.inside,vI x.st.clear,
 vI x.line,vI x.space,bj x.words,vI x.side,vI x.w,vI x.h]
def gN (x:Nd):V:=.agg x.cells
def mx:Int:=1099511627776
def bg (n a b:Int):Bool:=decide (n≥a∧n≤b)
def Sty.ok (s:Sty):Bool:=bg s.top 0 mx && bg s.bottom 0 mx && bg s.padTop 0 mx && bg s.padBottom 0 mx && bg s.inset 0 mx && bg s.orphans 1 mx && bg s.widows 1 mx && bg s.head 0 mx &&
 bg s.before 0 4 && bg s.after 0 4 && bg s.inside 0 1 && bg s.clear 0 3
def Sty.zero:Sty:=⟨0,0,0,0,0,0,0,0,0,0,0,0⟩
def aI (l:List Nd):V:=.sl 20 (l.map gN)
theorem eD (l:List Nd):dD false (aI l)=some (.int .i64 l.length):=by simp [aI,dD]
theorem ai (l:List Nd):(aI l).cells=[aI l]:=rfl
theorem aK (l:List Nd):(aI l).stays=true:=rfl
variable {P:Program} {n:Nat} {st:St} {Q:St→Prop} {k:List It} {μ:Mu} {w w':World}
abbrev gh (o:Obj) (env:List V:=[]):Ob:=⟨0,0, .obj o::env⟩
theorem Sat.N7 {w0:World} {ow0:Nat→Prop} {σ:af} (h:Sat w0 ow0 μ σ w) (o:Obj) (env:List V) (he:au μ (aC μ σ) w env (tmpsOf o)) :
 ∃id,σ id=none∧∃μ':Mu,μ' id=.lies w.heap.size 0 0∧cH μ μ'∧Sat w0 ow0 μ' (upd σ id (gh o env)) (w.alloc o)∧cE (aC μ σ) (aC μ' (upd σ id (gh o env))) w (w.alloc o):=by
 obtain ⟨id,hid,hσ,hfin⟩:=h.dj;have hle:cH μ (fun k=>if k=id then .lies w.heap.size 0 0 else μ k):=fun k hk=>by
  have:k≠id:=fun e'=>hk (e' ▸ hid);simp [this]
 refine ⟨id,hσ,fun k=>if k=id then .lies w.heap.size 0 0 else μ k,by simp,hle,?_⟩;refine h.put (row:=none) (World.grownBy_alloc w o none) (by simp) hle (hfin _) id (gh o env) (fun o' ho=>?_) (fun i o' hi ho=>?_) (fun b' sz' cap' hb'=>?_) (fun hk=>?_)
 ·simp [upd] at ho; exact ho.symm
 ·simp only [upd,if_neg hi] at ho;exact ⟨ho,by simp⟩
 ·simp only [if_true,Pl.lies.injEq] at hb';exact .inr (by omega)
 ·simp only [if_true];exact .inr ⟨rfl,rfl,o,env,rfl,World.alloc_heap_new w o,au.mono hle hk (by simp) _ _ he⟩
theorem Sat.Ol {w0:World} {ow0:Nat→Prop} {σ:af} (h:Sat w0 ow0 μ σ w) {id b cap:Nat} {o:Ob} (ho:σ id=some o) (hid:μ id=.lies b 0 cap) (o':Obj) (env:List V) (he:au μ (aC μ σ) w env (tmpsOf o')) :
 Sat w0 ow0 μ (upd σ id (gh o' env)) (w.putObj b o')∧cE (aC μ σ) (aC μ (upd σ id (gh o' env))) w (w.putObj b o'):=by
 have hlt:b < w.heap.size:=aC.lt h ⟨id,o,0,cap,ho,hid⟩;refine h.put (grownBy_putObj' w b o') (fun b' hb'=>by cases hb'; exact ⟨id,o,0,cap,ho,hid⟩) (cH.refl _) h.fin id (gh o' env) (fun x hx'=>by simp [upd] at hx'; exact hx'.symm)
  (fun i x hi hx'=>?_) (fun b' sz' cap' hb'=>?_) (fun hk=>?_)
 ·simp only [upd,if_neg hi] at hx';refine ⟨hx',fun b' sz' cap' h4 h5=>hi ?_⟩;cases h5;exact h.inj i id x o _ _ _ _ _ hx' ho h4 hid
 ·rw [hid] at hb'; cases hb'; exact .inl rfl
 ·rw [hid];exact .inr ⟨rfl,rfl,o',env,rfl,World.putObj_heap_same hlt,au.mono (cH.refl _) hk (by simp) _ _ he⟩
theorem Sat.Mb {w0:World} {ow0:Nat→Prop} {σ:af} (h:Sat w0 ow0 μ σ w) {id b cap:Nat} {o:Obj} {env:List V} (ho:σ id=some (gh o env)) (hid:μ id=.lies b 0 cap):w.heap[b]?=some o∧au μ (aC μ σ) w env (tmpsOf o):=by
 have:=h.obj id _ ho;rw [hid] at this;rcases this with ⟨_,_,_,h1,_⟩ | ⟨_,_,ob,env',h1,h2,h3⟩
 ·omega
 ·simp only [List.cons.injEq,V.obj.injEq] at h1;obtain ⟨rfl,rfl⟩:=h1; exact ⟨h2,h3⟩
variable {P:Program} {n:Nat} {st:St} {Q:St→Prop} {k:List It} {μ:Mu} {w w':World}
theorem Sat.compose {w0:World} {ow0:Nat→Prop} {μ μ':Mu} {σ σ':af} (h0:Sat w0 ow0 μ σ w) (hs':Sat w (aC μ σ) μ' σ' w') :
 Sat w0 ow0 μ' σ' w'∧cE (aC μ σ) (aC μ' σ') w w':=by
 have hkeep:cE (aC μ σ) (aC μ' σ') w w':=fun b hb hn=>⟨fun ho=>hn (hs'.fresh b ho hb),hs'.same b hb hn⟩
 refine ⟨⟨Nat.le_trans h0.size hs'.size,hs'.os.trans h0.os,hs'.tape.trans h0.tape,hs'.output.trans h0.output,?_,hs'.fin,hs'.inj,hs'.obj,?_,h0.glob⟩,hkeep⟩
 ·intro b hb hn;have h1:¬aC μ σ b:=fun ho=>hn (h0.fresh b ho hb);exact (hs'.same b (Nat.lt_of_lt_of_le hb h0.size) h1).trans (h0.same b hb hn)
 ·intro b hb hlt;exact h0.fresh b (hs'.fresh b hb (Nat.lt_of_lt_of_le hlt h0.size)) hlt
theorem Sat.here {w0:World} {ow0:Nat→Prop} {σ:af} (h:Sat w0 ow0 μ σ w):Sat w (aC μ σ) μ σ w :=
 ⟨Nat.le_refl _,rfl,rfl,rfl,fun _ _ _=>rfl,h.fin,h.inj,h.obj,fun b hb _=>hb,h.nT⟩
def YC (P:Program) (idl:Nat) (x:List V) (σ:af) (Post:Bool→af→Prop):Prop :=
 ∀μ w vals l c,μ idl=.lies l 0 c→Sat w (aC μ σ) μ σ w→au μ (aC μ σ) w x vals →
  YieldAt Fence.wide 0 P l vals.toArray w fun e w'=>∃b σ' μ',e=.returned (.bool b)∧Post b σ'∧cH μ μ'∧Sat w (aC μ σ) μ' σ' w'
theorem uj {F:Fr} {m m':Nat} {l:Nat} {f:FuncId} {tmps:Array Value} {assign body:Code} {R:Ending→World→Prop}
 (h:RoundIn Fence.wide m P l f tmps assign body w R):RoundIn F.ei m' P l f tmps assign body w R :=
 ⟨trivial,fun c cs _=>h.2 c cs (room_wide _)⟩
theorem ad.kV {i:aG} {l:List aG} {fx:VX} {xs:List VX} (hw:bh st.s i.g=some true) (ho:i.op=.call fx xs) {idl:Nat} (hf:fx.ev st.s=.yl idl)
 {Post:Bool→af→Prop} (hc:YC P idl (xs.map (·.ev st.s)) st.σ Post)
 (h:∀b σ',Post b σ'→ad P n (.ops l::k) ⟨aV st.s i.dst (.bool b),σ'⟩ Q):ad P n (.ops (i::l)::k) st Q:=by
 refine ad.Ij hw fun F hn μ a w o all hi hs next Q' hnext=>?_
 subst hn;obtain ⟨hop,hd⟩:=dV hi;rw [ho] at hop;obtain ⟨f0,args,argTypes,g1,rfl,rfl⟩:=lC hop;have hfr:=ck hs f0;rw [hf] at hfr;simp only [Rep] at hfr;split at hfr
 ·rename_i lb c hid;have hargs:=mj hs args.toList;obtain ⟨fn,tmps,assign,body,hy,hR⟩:=hc μ w _ lb c hid hs.sat.here hargs;have hrun:(execOp a.eval o).run P w=.ok (.round lb fn tmps assign body) w:=by
   unfold execOp;rw [g1];simp only [resolve,hfr,Deferred.ofValue,Sem.run_bind,Sem.run_pure,Result.andThen_ok,invoke];rw [←hy];congr 2;apply Array.ext';simp
  refine ⟨fun _ _=>trivial,?_⟩;rw [Oper.semAt_eq _ _ _ (by rw [g1]; intro c e; cases e),hrun];refine ⟨jx F,uj (hR.mono ?_)⟩;rintro e w' ⟨b,σ',μ',rfl,hp,hle,hs'⟩;obtain ⟨h1,h2⟩:=hs.sat.compose hs';refine hnext _ _ _ ⟨μ',?_⟩ (h b σ' hp);rw [←hd];exact hs.step h1 hle h2 hs'.size (by simp [Rep])
 ·exact hfr.elim
def bb (σJ σ σJ' σ':af):Prop:=aa σJ' σ'∧∀id o,σJ id=none→σ id=some o→σ' id=some o∧σJ' id=none
theorem bb.refl {σJ σ:af} (h:aa σJ σ):bb σJ σ σJ σ:=⟨h,fun _ _ h1 h2=>⟨h2,h1⟩⟩
theorem bb.set {σJ σ σJ' σ':af} (h:bb σJ σ σJ' σ') {id:Nat} {o o':Ob} (hid:σJ' id=some o):bb σJ σ (upd σJ' id o') (upd σ' id o') :=
 ⟨h.1.IH,fun i x h1 h2=>by
  obtain ⟨h3,h4⟩:=h.2 i x h1 h2;have:i≠id:=fun e=>by rw [e,hid] at h4; cases h4
  simp [Vc.upd,this,h3,h4]⟩
theorem bb.new {σJ σ σJ' σ':af} (h:bb σJ σ σJ' σ') {id:Nat} {o:Ob} (hid:σ' id=none):bb σJ σ (upd σJ' id o) (upd σ' id o) :=
 ⟨h.1.IH,fun i x h1 h2=>by
  obtain ⟨h3,h4⟩:=h.2 i x h1 h2;have:i≠id:=fun e=>by rw [e,hid] at h3; cases h3
  simp [Vc.upd,this,h3,h4]⟩
theorem bb.pf {σJ σ σJ' σ':af} (h:bb σJ σ σJ' σ') {id:Nat} {o:Ob} (hid:σ' id=none):bb σJ σ σJ' (upd σ' id o) :=
 ⟨h.1.trans (aa.upd (aa.refl _) hid),fun i x h1 h2=>by
  obtain ⟨h3,h4⟩:=h.2 i x h1 h2;have:i≠id:=fun e=>by rw [e,hid] at h3; cases h3
  simp [Vc.upd,this,h3,h4]⟩
def Iter (P:Program) (g:FuncId) (caps:List V) (xs:List (List V)):Prop :=
 eK P g=true∧∀(idl:Nat) (J Jx:List (List V)→af→Prop) (σ0:af),
  (∀pre x post σJ σ,xs=pre++x::post→J pre σJ→aa σJ σ →
    YC P idl x σ fun b σ'=>∃σJ',bb σJ σ σJ' σ'∧((b=true∧J (pre++[x]) σJ')∨(b=false∧Jx (pre++[x]) σJ'))) →
  J [] σ0→qm P g (.yl idl::caps) σ0 fun _ σ'=>J xs σ'∨∃pre,pre <+: xs∧Jx pre σ'
variable {P:Program} {n:Nat} {st:St} {Q:St→Prop} {k:List It} {μ:Mu} {w w':World}
def lk (s:Nat→V):List Nat→List V→Nat→V
 | p::ps,x::xs=>lk (fun i=>if i=p then x else s i) ps xs
 | _,_=>s
def exK:List (Nat×(St→Prop))→List It
 | []=>[]
 | (id,I)::l=>.inBlock id::.stop I::exK l
theorem BV {σ σ':af} {id:Nat} (h:aa σ σ'):aa (del σ id) (del σ' id):=fun i o e=>by
 unfold del at e ⊢;split at e
 ·cases e
 ·rename_i hi; rw [if_neg hi]; exact h i o e
theorem Sat.more {w0:World} {ow0:Nat→Prop} {σ:af} (h:Sat w0 ow0 μ σ w) (o:Obj):Sat w0 ow0 μ σ (w.alloc o)∧cE (aC μ σ) (aC μ σ) w (w.alloc o):=by
 have hsame:∀b,b < w.heap.size→(w.alloc o).heap[b]?=w.heap[b]?:=fun b hb=>Go.RowKit.Below.heap_alloc w o b hb;have hk:cE (aC μ σ) (aC μ σ) w (w.alloc o):=fun b hb hn=>⟨hn,hsame b hb⟩
 refine ⟨⟨by have:=h.size; simp; omega,h.os,h.tape,h.output,fun b hb hn=>(hsame b (Nat.lt_of_lt_of_le hb h.size)).trans (h.same b hb hn),h.fin,h.inj,fun id ob ho=>?_,h.fresh,h.glob⟩,hk⟩;exact (h.obj id ob ho).mono (cH.refl μ) hk (by simp) fun b sz cap hp=>hsame b (aC.lt h ⟨id,ob,sz,cap,ho,hp⟩)
theorem cN.enter {F:Fr} {a:Act} (hs:cN F μ st a w) (fn:FuncId) (ps:Array Tmp) (assign body:Code) :
 ∃mark W0 D,cN F μ st { a with defers:=mark++a.defers } W0∧(Instr.enterLoop fn a.tmps ps assign body F.ei.round).run P w =
  .ok (W0.heap.size,mark) (W0.alloc (.loop { state:=.ready,pending:=none,fn,tmps:=a.tmps,params:=ps,assign,body,defers:=D })):=by
 cases hrd:F.rd with
 | some lr =>
   obtain ⟨l0,r0⟩:=lr;obtain ⟨h1,_⟩:=hs.book.rnd l0 r0 hrd;refine ⟨[],w,r0.defers,hs,?_⟩;have:F.ei.round=some l0:=by simp [Fr.ei,hrd]
   rw [this];exact run_enterLoop_inner h1 fn a.tmps ps assign body
 | none =>
   have:F.ei.round=none:=by simp [Fr.ei,hrd]
   rw [this];refine ⟨[{ target:=.collected w.heap.size,args:=#[] }],w.alloc (.deferred (some [])),w.heap.size,?_,?_⟩
   ·obtain ⟨h1,hk⟩:=hs.sat.more (.deferred (some []));have hb:=hs.book.lS hk;refine ⟨h1,hs.le,hs.size,⟨hb.rnd,?_⟩,fun i hi=>Rep.mono (cH.refl μ) hk (by simp) _ _ (hs.slot i hi)⟩;obtain ⟨Ds,g1,g2,g3⟩:=hb.marks;obtain ⟨Ds',g1',g2',g3'⟩:=hs.book.marks;refine ⟨w.heap.size::Ds',by simp [g1'],?_,?_⟩
    ·refine List.nodup_cons.2 ⟨fun hin=>?_,g2'⟩;have:=(Array.getElem?_eq_some_iff.1 (g3' _ hin).2.1).1;omega
    ·intro D hD;simp only [List.mem_cons] at hD;rcases hD with rfl | hD
     ·refine ⟨hs.sat.size,World.alloc_heap_new w _,fun ho=>?_⟩;have:=aC.lt hs.sat ho;omega
     ·obtain ⟨q1,q2,q3⟩:=g3' D hD;have hlt:=(Array.getElem?_eq_some_iff.1 q2).1;exact ⟨q1,(hk D hlt q3).2.trans q2,q3⟩
   ·rw [run_enterLoop_outer];simp
theorem C1 (ps:List Nat):∀(xs:List Value) (t:Array Value) (vs:List V) (s:Nat→V) {ow:Nat→Prop} (m:Nat),t.size=m→au μ ow w vs xs→vs.length=ps.length →
 (∀i,i < m→Rep μ ow w (s i) (t.getD i undef)) →
 ((ps.zip xs).foldl (fun t (p,v)=>t.setIfInBounds p v) t).size=m∧∀i,i < m→Rep μ ow w (lk s ps vs i) (((ps.zip xs).foldl (fun t (p,v)=>t.setIfInBounds p v) t).getD i undef):=by
 induction ps with
 | nil=>intro xs t vs s ow m ht _ _ hi; exact ⟨by simpa using ht,by simpa [lk] using hi⟩
 | cons p ps ih =>
   intro xs t vs s ow m ht hv hl hi;cases vs with
   | nil=>simp at hl
   | cons v vs =>
     simp only [au] at hv;obtain ⟨x,xs',rfl,h1,h2⟩:=hv;simp only [List.zip_cons_cons,List.foldl_cons,lk];refine ih xs' (t.setIfInBounds p x) vs _ m (by simp [ht]) h2 (by simpa using hl) fun i hlt=>?_;by_cases hip:i=p
     ·subst hip;rw [if_pos rfl,Array.getD_eq_getD_getElem?,Array.getElem?_setIfInBounds_self_of_lt (by omega)];exact h1
     ·rw [if_neg hip,Array.getD_eq_getD_getElem?,Array.getElem?_setIfInBounds_ne (fun e=>hip e.symm),←Array.getD_eq_getD_getElem?];exact hi i hlt
variable {P:Program} {n:Nat} {st:St} {Q:St→Prop} {k:List It} {μ:Mu} {w w':World}
theorem sX {b:Nat} {o o':Obj} (h:w.heap[b]?=some o) (hc:∀off x,w.cell? ⟨b,off,none⟩≠some x) :
 (∀b',b'≠b→(w.putObj b o').heap[b']?=w.heap[b']?)∧∀(ow:Nat→Prop),oS ow ow w (w.putObj b o'):=by
 have hne:∀b',b'≠b→(w.putObj b o').heap[b']?=w.heap[b']?:=fun b' hb=>World.putObj_heap_other hb;refine ⟨hne,fun ow b' _ hn=>⟨hn,fun off x hx=>?_⟩⟩;by_cases hb:b'=b
 ·subst hb; exact absurd hx (hc off x)
 ·exact ef (hne b' hb) off x hx
theorem jW {b:Nat} {r:Loop} (h:w.heap[b]?=some (.loop r)):∀off x,w.cell? ⟨b,off,none⟩≠some x:=fun off x=>by simp [World.cell?,h]
theorem cN.Oz {F F':Fr} {a:Act} {l:Nat} {r r':Loop} (hs:cN F μ st a w) (hF:F.rd=some (l,r)) (hF':F'={ F with rd:=some (l,r') }) (hl:l < F.w0.heap.size→F.ow0 l) :
 cN F' μ st a (w.putObj l (.loop r')):=by
 subst hF';obtain ⟨h1,h2⟩:=hs.book.rnd l r hF;obtain ⟨hne,hk⟩:=sX (o':=.loop r') h1 (jW h1);have hk:=hk (aC μ st.σ);have hz:w.heap.size≤(w.putObj l (.loop r')).heap.size:=by simp
 have hlt:=(Array.getElem?_eq_some_iff.1 h1).1;refine ⟨⟨by simpa using hs.sat.size,hs.sat.os,hs.sat.tape,hs.sat.output,fun b hb hn=>?_,hs.sat.fin,hs.sat.inj,fun id o ho=>?_,hs.sat.fresh,hs.sat.glob⟩,hs.le,hs.size,⟨fun l' r'' e=>?_,?_⟩,fun i hi=>Rep.bP (cH.refl μ) hk hz _ _ (hs.slot i hi)⟩
 ·by_cases hb':b=l
  ·subst hb'; exact absurd (hl hb) hn
  ·exact (hne b hb').trans (hs.sat.same b hb hn)
 ·refine (hs.sat.obj id o ho).bP (cH.refl μ) hk hz fun b sz cap hp=>hne b ?_;rintro rfl;exact h2 ⟨id,o,sz,cap,ho,hp⟩
 ·simp only [Oi,Prod.mk.injEq] at e;obtain ⟨rfl,rfl⟩:=e;exact ⟨World.putObj_heap_same hlt,h2⟩
 ·obtain ⟨Ds,g1,g2,g3⟩:=hs.book.marks;refine ⟨Ds,g1,g2,fun D hD=>?_⟩;obtain ⟨q1,q2,q3⟩:=g3 D hD;refine ⟨q1,(hne D ?_).trans q2,q3⟩;rintro rfl;rw [h1] at q2; cases q2
theorem Sat.LA {w0:World} {ow0:Nat→Prop} {σ:af} (h:Sat w0 ow0 μ σ w) {idl l c:Nat} (hσ:σ idl=none) (hid:μ idl=.lies l 0 c) (hno:¬aC μ σ l) {r:Loop} (hr:w.heap[l]?=some (.loop r))
 (hl:l < w0.heap.size→ow0 l) (o:Obj) (env:List V) (he:au μ (aC μ σ) w env (tmpsOf o)):Sat w0 ow0 μ (upd σ idl (gh o env)) (w.putObj l o):=by
 obtain ⟨hne,_⟩:=sX (o':=o) hr (jW hr);have hlt:=(Array.getElem?_eq_some_iff.1 hr).1;have hz:w.heap.size≤(w.putObj l o).heap.size:=by simp
 have hown:∀b,aC μ (upd σ idl (gh o env)) b→aC μ σ b∨b=l:=by
  rintro b ⟨id,ob,sz,cap,h1,h2⟩;by_cases e:id=idl
  ·subst e; rw [hid] at h2; cases h2; exact .inr rfl
  ·rw [ab e] at h1; exact .inl ⟨id,ob,sz,cap,h1,h2⟩
 have hk:oS (aC μ σ) (aC μ (upd σ idl (gh o env))) w (w.putObj l o):=fun b ⟨off,x,hx⟩ hn=>by
  have hbl:b≠l:=by rintro rfl; exact jW hr off x hx
  exact ⟨fun ho=>(hown b ho).elim hn hbl,ef (hne b hbl)⟩
 refine ⟨by simpa using h.size,h.os,h.tape,h.output,fun b hb hn=>?_,h.fin,?_,?_,?_,h.glob⟩
 ·by_cases hb':b=l
  ·subst hb'; exact absurd (hl hb) hn
  ·exact (hne b hb').trans (h.same b hb hn)
 ·intro id id' ob ob' b sz cap sz' cap' h1 h2 h3 h4;by_cases e:id=idl <;> by_cases e':id'=idl
  ·rw [e,e']
  ·exfalso;subst e; rw [hid] at h3; cases h3;rw [ab e'] at h2;exact hno ⟨id',ob',sz',cap',h2,h4⟩
  ·exfalso;subst e'; rw [hid] at h4; cases h4;rw [ab e] at h1;exact hno ⟨id,ob,sz,cap,h1,h3⟩
  ·rw [ab e] at h1; rw [ab e'] at h2;exact h.inj id id' ob ob' b sz cap sz' cap' h1 h2 h3 h4
 ·intro id ob ho;by_cases e:id=idl
  ·subst e;rw [ag] at ho; cases ho;rw [hid];exact .inr ⟨rfl,rfl,o,env,rfl,World.putObj_heap_same hlt,au.bP (cH.refl μ) hk hz _ _ he⟩
  ·rw [ab e] at ho;refine (h.obj id ob ho).bP (cH.refl μ) hk hz fun b sz cap hp=>hne b ?_;rintro rfl;exact hno ⟨id,ob,sz,cap,ho,hp⟩
 ·intro b hb hlt';rcases hown b hb with h1 | h1
  ·exact h.fresh b h1 hlt'
  ·subst h1; exact hl hlt'
variable {P:Program} {n:Nat} {st:St} {Q:St→Prop} {k:List It} {μ:Mu} {w w':World}
def zz:List (Nat×(St→Prop))→List KI
 | []=>[]
 | (id,I)::l=>.inBlock id::.stop I::zz l
theorem Be:∀(l:List (Nat×(St→Prop))),(zz l).map (KI.it P n)=exK l
 | []=>rfl
 | (id,I)::l=>by simp [zz,exK,KI.it,Be l]
theorem gT {F:Fr} {e:Exit} {a:Act} (he:e≠.normal):∀(l:List (Nat×(St→Prop))),jX P F Q (zz l) e a w →
 (e=.ret∧∃st,Q st∧eZ F st a w)∨∃id I,(id,I)∈l∧e=.exit id∧∃st,I st∧eZ F st a w
 | [],h=>.inl ⟨h.1.resolve_left he,h.2⟩
 | (id,I)::l,h=>by
   have h:Exit.inBlock id (jX P F Q (.stop I::zz l)) e a w:=h;have up:jX P F Q (zz l) e a w→_:=gT he l;have go:jX P F Q (zz l) e a w→(e=.ret∧∃st,Q st∧eZ F st a w)∨∃id' I',(id',I')∈(id,I)::l∧e=.exit id'∧∃st,I' st∧eZ F st a w:=fun h=>by
    rcases up h with h | ⟨i,I',h1,h2⟩
    ·exact .inl h
    ·exact .inr ⟨i,I',by simp [h1],h2⟩
   cases e with
   | normal=>exact absurd rfl he
   | exit j =>
     simp only [Exit.inBlock] at h;by_cases hj:j=id
     ·rw [if_pos hj] at h;exact .inr ⟨id,I,by simp,by rw [hj],h⟩
     ·rw [if_neg hj] at h;exact go h
   | _=>exact go h
def DZ:Option Nat→Code
 | none=>.ret
 | some id=>.exit id
theorem DK {rec:Loop} (hready:rec.state=.ready) (hpend:rec.pending=none) (htm:rec.tmps.size=n) {s:Nat→V} {idl:Nat} {x:List V} {σJ σ:af}
 (hx:x.length=rec.params.toList.length) (hrow:σJ idl=some (gh (.loop rec) ((List.range n).map s))) (hsub:aa σJ σ)
 (Jn:af→Prop) (exits:List Nat) (Jx:Option Nat→af→Prop)
 (hb:ad P n [.code (cZ P n rec.assign), .stop fun st1=>ad P n (.code (cZ P n rec.body)::.stop (fun st2=>∃σ2,bb (del σJ idl) (del σ idl) σ2 st2.σ∧Jn σ2) ::
   exK (exits.map fun id=>(id,fun st2=>∃σ2,bb (del σJ idl) (del σ idl) σ2 st2.σ∧Jx (some id) σ2))) st1 (fun st2=>∃σ2,bb (del σJ idl) (del σ idl) σ2 st2.σ∧Jx none σ2)]
   ⟨lk s rec.params.toList x,del σ idl⟩ (fun _=>False)) :
 YC P idl x σ fun b σ'=>∃σJ',bb σJ σ σJ' σ'∧((b=true∧σJ' idl=some (gh (.loop rec) ((List.range n).map s))∧Jn (del σJ' idl)) ∨
  (b=false∧∃e:Option Nat,σJ' idl=some (gh (.loop { rec with state:=.done,pending:=some (DZ e) }) ((List.range n).map s))∧Jx e (del σJ' idl)∧∀id,e=some id→id∈exits)):=by
 intro μ3 w3 vals l c hid hsat hrep;have hσ:=hsub _ _ hrow;obtain ⟨hl,henv⟩:=hsat.Mb hσ hid;have hvl:vals.length=rec.params.toList.length:=by rw [←hx]; exact hrep.length
 have hy:=run_yield (P:=P) (args:=vals.toArray) hl (by simpa using hvl);have hno:¬aC μ3 (del σ idl) l:=by
  rintro ⟨id,o,sz,cap,h1,h2⟩;have:=hsat.inj id idl o _ l sz cap 0 c (aa.wC σ idl id o h1) hσ h2 hid;subst this;simp [del] at h1
 have hks:cE (aC μ3 σ) (aC μ3 (del σ idl)) w3 w3:=cE.sub w3 (aa.wC σ idl);have hslots:∀i,i < n→Rep μ3 (aC μ3 (del σ idl)) w3 (s i) (rec.tmps.getD i undef):=fun i hi=>by
  have hv:((List.range n).map s)[i]?=some (s i):=by simp [hi]
  obtain ⟨y,h1,h2⟩:=henv.get hv;have:rec.tmps.getD i undef=y:=by
   simp only [tmpsOf] at h1;rw [Array.getD_eq_getD_getElem?,←Array.getElem?_toList,h1]; rfl
  rw [this];exact Rep.mono (cH.refl _) hks (Nat.le_refl _) _ _ h2
 obtain ⟨hg1,hg2⟩:=C1 rec.params.toList vals rec.tmps x s n htm (au.mono (cH.refl _) hks (Nat.le_refl _) _ _ hrep) hx hslots;have hzip:(rec.params.zip vals.toArray).foldl (fun tmps (t,a)=>tmps.setIfInBounds t a) rec.tmps=(rec.params.toList.zip vals).foldl (fun t (p,v)=>t.setIfInBounds p v) rec.tmps:=by
  rw [←Array.foldl_toList,Array.toList_zip]
 rw [hzip] at hy;refine ⟨rec.fn,_,rec.assign,rec.body,hy,roundIn_of_wpIn (F:=Fence.wide) trivial ?_⟩;have hs1:cN ⟨w3,aC μ3 σ,μ3,n,some (l,rec)⟩ μ3 ⟨lk s rec.params.toList x,del σ idl⟩ { tmps:=(rec.params.toList.zip vals).foldl (fun t (p,v)=>t.setIfInBounds p v) rec.tmps,defers:=[] } w3:=by
  refine ⟨hsat.drop (aa.wC σ idl),cH.refl _,hg1,⟨fun l' r' e=>?_,[],rfl, .nil,by simp⟩,hg2⟩;simp only [Oi,Prod.mk.injEq] at e;obtain ⟨rfl,rfl⟩:=e;exact ⟨hl,hno⟩
 have h1:=hb ⟨w3,aC μ3 σ,μ3,n,some (l,rec)⟩ rfl [.code rec.assign, .stop _] rfl _ w3 ⟨μ3,hs1⟩;refine wpIn_mono (F:=Fence.wide.inRound l) h1 ?_;intro e a1 w1 h;cases e with
 | normal =>
   obtain ⟨st1,hI,μ4,hs4⟩:=h;have hpk:=hs4.Oz (F':=⟨w3,aC μ3 σ,μ3,n,some (l,{ rec with state:=.busy })⟩) (r':={ rec with state:=.busy }) rfl rfl (fun _=>⟨idl,_,0,c,hσ,hid⟩);refine ⟨_,run_beginRound (hs4.book.rnd l rec rfl).1 hready,?_⟩;have h2:=hI ⟨w3,aC μ3 σ,μ3,n,some (l,{ rec with state:=.busy })⟩ rfl (.code rec.body::.stop _::zz _) (by simp only [List.map_cons,Be]; rfl) a1 _ ⟨μ4,hpk⟩;refine wpIn_mono (F:=Fence.wide.inRound l) h2 ?_;have fin:∀(st2:St) (a2:Act) (w2:World) (jump:Option Code) (σ2:af),eZ ⟨w3,aC μ3 σ,μ3,n,some (l,{ rec with state:=.busy })⟩ st2 a2 w2→bb (del σJ idl) (del σ idl) σ2 st2.σ →
    ∃v w'',(Instr.endRound l jump).run P w2=.ok v w''∧v=.bool jump.isNone∧∃σ' μ' σJ',cH μ3 μ'∧Sat w3 (aC μ3 σ) μ' σ' w''∧bb σJ σ σJ' σ' ∧
     σJ' idl=some (gh (.loop { rec with state:=if jump.isNone then .ready else .done,pending:=jump }) ((List.range n).map s))∧del σJ' idl=σ2:=by
    rintro st2 a2 w2 jump σ2 ⟨μ5,hs5⟩ hbs;obtain ⟨q1,q2⟩:=hs5.book.rnd l _ rfl;have hid5:μ5 idl=.lies l 0 c:=(hs5.le idl (show μ3 idl≠.dj by rw [hid]; simp)).trans hid;have hn5:st2.σ idl=none:=by
     cases h:st2.σ idl with
     | none=>rfl
     | some o=>exact absurd ⟨idl,o,0,c,h,hid5⟩ q2
    have hk5:cE (aC μ3 σ) (aC μ5 st2.σ) w3 w2:=fun b hb hn=>⟨fun ho=>hn (hs5.sat.fresh b ho hb),hs5.sat.same b hb hn⟩
    have henv5:=au.mono hs5.le hk5 hs5.sat.size _ _ henv;have hn2:σ2 idl=none:=by
     cases h:σ2 idl with
     | none=>rfl
     | some o=>have:=hbs.1 idl o h; rw [hn5] at this; cases this
    refine ⟨_,_,run_endRound (P:=P) jump q1,rfl,upd st2.σ idl (gh (.loop { rec with state:=if jump.isNone then .ready else .done,pending:=jump }) ((List.range n).map s)),μ5,
     upd σ2 idl (gh (.loop { rec with state:=if jump.isNone then .ready else .done,pending:=jump }) ((List.range n).map s)),hs5.le,?_,⟨hbs.1.IH,fun i o h1 h2=>?_⟩,ag,BC hn2⟩
    ·exact hs5.sat.LA hn5 hid5 q2 q1 (fun _=>⟨idl,_,0,c,hσ,hid⟩) _ _ henv5
    ·have hne:i≠idl:=fun e=>by rw [e,hrow] at h1; cases h1
     obtain ⟨g1,g2⟩:=hbs.2 i o (by rw [dh hne]; exact h1) (by rw [dh hne]; exact h2);rw [ab hne,ab hne];exact ⟨g1,g2⟩
   intro e a2 w2 h;cases e with
   | normal =>
     obtain ⟨st2,⟨σ2,hbs,hj⟩,hs2⟩:=h;obtain ⟨v,w'',g1,rfl,σ',μ',σJ',g2,g3,g4,g5,g6⟩:=fin st2 a2 w2 none σ2 hs2 hbs;refine ⟨_,w'',g1,true,σ',μ',rfl,⟨σJ',g4, .inl ⟨rfl,?_,by rw [g6]; exact hj⟩⟩,g2,g3⟩;rw [g5];have:({ rec with state:=.ready,pending:=none }:Loop)=rec:=by rw [←hready,←hpend]
     simp [this]
   | ret =>
     rcases gT (by simp) _ h with ⟨_,st2,⟨σ2,hbs,hj⟩,hs2⟩ | ⟨_,_,_,h,_⟩
     ·obtain ⟨v,w'',g1,rfl,σ',μ',σJ',g2,g3,g4,g5,g6⟩:=fin st2 a2 w2 (some .ret) σ2 hs2 hbs;exact ⟨_,w'',g1,false,σ',μ',rfl,⟨σJ',g4, .inr ⟨rfl,none,g5,by rw [g6]; exact hj,by simp⟩⟩,g2,g3⟩
     ·cases h
   | exit id =>
     rcases gT (by simp) _ h with ⟨h,_⟩ | ⟨id',I,hin,h,st2,hI2,hs2⟩
     ·cases h
     ·cases h;simp only [List.mem_map,Prod.mk.injEq] at hin;obtain ⟨id'',hin',rfl,rfl⟩:=hin;obtain ⟨σ2,hbs,hj⟩:=hI2;obtain ⟨v,w'',g1,rfl,σ',μ',σJ',g2,g3,g4,g5,g6⟩:=fin st2 a2 w2 (some (.exit id'')) σ2 hs2 hbs;exact ⟨_,w'',g1,false,σ',μ',rfl,⟨σJ',g4, .inr ⟨rfl,some id'',g5,by rw [g6]; exact hj,by simp [hin']⟩⟩,g2,g3⟩
   | goto t=>rcases gT (by simp) _ h with ⟨h,_⟩ | ⟨_,_,_,h,_⟩ <;> cases h
   | panic ch=>rcases gT (by simp) _ h with ⟨h,_⟩ | ⟨_,_,_,h,_⟩ <;> cases h
   | outgrown=>rcases gT (by simp) _ h with ⟨h,_⟩ | ⟨_,_,_,h,_⟩ <;> cases h
 | ret=>exact h.2.choose_spec.1.elim
 | exit id=>rcases h.1 with h | h <;> cases h
 | goto t=>rcases h.1 with h | h <;> cases h
 | panic ch=>rcases h.1 with h | h <;> cases h
 | outgrown=>rcases h.1 with h | h <;> cases h
variable {P:Program} {n:Nat} {st:St} {Q:St→Prop} {k:List It} {μ:Mu} {w w':World}
theorem um {a:Act} {g:Operand} {l:Nat} {f:FuncId} {cv:List Value} (h:a.eval g=.func (.func f) #[] ⟨cv⟩) :
 (resolve a.eval (rangeCall g l) 0).run P w=.ok { target:=.fn (.func f) ⟨cv⟩,args:=#[.func (.yield l) #[] #[]] } w:=by
 simp only [resolve,h,Deferred.ofValue];simp [go_sem]
theorem ad.GS {g:VX} {ps:List Nat} {A B:bB} {gf:FuncId} {caps:List V} (hg:g.ev st.s=.fn gf caps) {xs:List (List V)} {σ0:af} (hs00:aa σ0 st.σ)
 (hit:eK P gf=true∧∀(idl:Nat) (J Jx:List (List V)→af→Prop) (o:Ob),st.σ idl=none →
   (∀pre x post σJ σ,xs=pre++x::post→J pre σJ→aa σJ σ →
     YC P idl x σ fun b σ'=>∃σJ',bb σJ σ σJ' σ'∧((b=true∧J (pre++[x]) σJ')∨(b=false∧Jx (pre++[x]) σJ'))) →
   J [] (upd σ0 idl o)→qm P gf (.yl idl::caps) (upd st.σ idl o) fun _ σ'=>J xs σ'∨∃pre,pre <+: xs∧Jx pre σ')
 (hlen:∀x∈xs,x.length=ps.length) (exits:List Nat) (J:List (List V)→af→Prop) (Jx:Option Nat→List (List V)→af→Prop) (h0:J [] σ0)
 (hbody:∀pre x post σJ σ,xs=pre++x::post→J pre σJ→aa σJ σ →
   ad P n [.code A, .stop fun st1=>ad P n (.code B::.stop (fun st2=>∃σ2,bb σJ σ σ2 st2.σ∧J (pre++[x]) σ2) ::
    exK (exits.map fun id=>(id,fun st2=>∃σ2,bb σJ σ σ2 st2.σ∧Jx (some id) (pre++[x]) σ2))) st1 (fun st2=>∃σ2,bb σJ σ σ2 st2.σ∧Jx none (pre++[x]) σ2)]
    ⟨lk st.s ps x,σ⟩ (fun _=>False))
 (hdone:∀σ',J xs σ'→ad P n k ⟨st.s,σ'⟩ Q)
 (hexit:∀id∈exits,∀pre σ',pre <+: xs→Jx (some id) pre σ'→ad P n (.code (.exit id)::k) ⟨st.s,σ'⟩ Q)
 (hret:∀pre σ',pre <+: xs→Jx none pre σ'→ad P n (.code .ret::k) ⟨st.s,σ'⟩ Q):ad P n (.code (.cC g ps A B)::k) st Q:=by
 intro F hn kt hk a w hs;subst hn;obtain ⟨z,kt',rfl,hy,hk'⟩:=dW hk;obtain ⟨c0,rfl,hc⟩:=fU hy;have hc0:∃g0 ps0 a0 b0,c0=.rangeFunc g0 ps0 a0 b0∧cx F.n g0=g∧ps0.toList=ps∧cZ P F.n a0=A∧cZ P F.n b0=B:=by
  cases c0 <;> simp only [cZ,reduceCtorEq,bB.cC.injEq] at hc
  case region=>(split at hc; cases hc); split at hc <;> cases hc
  exact ⟨_,_,_,_,rfl,hc.1,hc.2.1,hc.2.2.1,hc.2.2.2⟩
 obtain ⟨g0,ps0,a0,b0,rfl,rfl,rfl,rfl,rfl⟩:=hc0;obtain ⟨μ,hs⟩:=hs;have hrg:=ck hs g0;rw [hg] at hrg;simp only [Rep] at hrg;obtain ⟨cv,hgv,hcv⟩:=hrg;refine wpIn_rangeFunc fun fn _=>?_;obtain ⟨mark,W0,D,hs0,hrun⟩:=hs.enter (P:=P) fn ps0 a0 b0;generalize hrec:({ state:=.ready,pending:=none,fn,tmps:=a.tmps,params:=ps0,assign:=a0,body:=b0,defers:=D }:Loop)=rec at hrun;have hr1:rec.state=.ready:=by rw [←hrec]
 have hr2:rec.pending=none:=by rw [←hrec]
 have hr3:rec.tmps=a.tmps:=by rw [←hrec]
 have hr4:rec.params=ps0:=by rw [←hrec]
 have hr5:rec.assign=a0:=by rw [←hrec]
 have hr6:rec.body=b0:=by rw [←hrec]
 have hszn:rec.tmps.size=F.n:=by rw [hr3]; exact hs.size
 have henv:au μ (aC μ st.σ) W0 ((List.range F.n).map st.s) (tmpsOf (.loop rec)):=by
  have hl:tmpsOf (.loop rec)=(List.range F.n).map fun i=>a.tmps.getD i undef:=by
   simp only [tmpsOf,hr3];apply List.ext_getElem
   ·simp [hs.size]
   ·intro i h1 h2;simp only [List.length_map,List.length_range] at h2;simp only [Array.getElem_toList,List.getElem_map,List.getElem_range];rw [Array.getD_eq_getD_getElem?,Array.getElem?_eq_getElem (by rw [hs.size]; exact h2)];rfl
  rw [hl];have hall:∀l:List Nat,(∀i∈l,i < F.n)→au μ (aC μ st.σ) W0 (l.map st.s) (l.map fun i=>a.tmps.getD i undef):=by
   intro l
   induction l with
   | nil=>intro _; simp [au]
   | cons i l ih =>
     intro h;simp only [List.map_cons,au];exact ⟨_,_,rfl,hs0.slot i (h i (by simp)),ih fun j hj=>h j (by simp [hj])⟩
  exact hall _ fun i hi=>by simpa using hi
 obtain ⟨idl,hidn,μ1,hid1,hle1,hsat1,hk1⟩:=hs0.sat.N7 (.loop rec) _ henv;generalize hE:(List.range F.n).map st.s=env at *;have hcvt:au μ1 (aC μ1 (upd st.σ idl (gh (.loop rec) env))) (W0.alloc (.loop rec)) caps cv:=by
  have h1:au μ (aC μ st.σ) W0 caps cv:=by
   have h2:=ck hs0 g0;rw [hg] at h2;simp only [Rep] at h2;obtain ⟨cv',h3,h4⟩:=h2;have:a.eval g0=.func (.func gf) #[] ⟨cv'⟩:=h3;rw [hgv] at this;simp only [Value.func.injEq,Array.mk.injEq,true_and] at this;rw [this]; exact h4
  exact au.mono hle1 hk1 (by simp) _ _ h1
 obtain ⟨hcall,hiter⟩:=hit;have key:=hiter idl (fun pre σJ=>σJ idl=some (gh (.loop rec) env)∧J pre (del σJ idl))
  (fun pre σJ=>∃e:Option Nat,σJ idl=some (gh (.loop { rec with state:=.done,pending:=some (DZ e) }) env)∧Jx e pre (del σJ idl)∧∀id,e=some id→id∈exits)
  (gh (.loop rec) env) hidn ?_ ⟨ag,by rw [BC (hs00.none hidn)]; exact h0⟩
 ·refine ⟨W0.heap.size,mark,_,_,_,gf,_,_,by rw [show F.ei.round=F.ei.round from rfl]; exact hrun,um hgv,fun _ _=>trivial,
   by simp only [invoke]; exact kD hcall _,jx F,mS ?_⟩
  have hargs:au μ1 (aC μ1 (upd st.σ idl (gh (.loop rec) env))) (W0.alloc (.loop rec)) (.yl idl::caps) (.func (.yield W0.heap.size) #[] #[]::cv):=by
   simp only [au];exact ⟨_,_,rfl,by simp [Rep,hid1],hcvt⟩
  have hcl:=key μ1 _ _ hsat1.here hargs;have hvals:(Value.func (.yield W0.heap.size) #[] #[]::cv).toArray=#[.func (.yield W0.heap.size) #[] #[]]++⟨cv⟩:=by
   apply Array.ext'; simp
  rw [hvals] at hcl;refine hcl.mono ?_;rintro e w2 ⟨r,σ',μ',val,rfl,hp,hle2,hs2, -⟩;obtain ⟨hs3,hk3⟩:=hsat1.compose hs2;have hid2:μ' idl=.lies W0.heap.size 0 0:=(hle2 idl (by rw [hid1]; simp)).trans hid1;have fin:∀(rec2:Loop),σ' idl=some (gh (.loop rec2) env)→rec2.state≠.busy→∃w4,(Instr.endLoop W0.heap.size).run P w2=.ok rec2.pending w4 ∧
   eZ F ⟨st.s,del σ' idl⟩ { a with defers:=mark++a.defers } w4:=by
   intro rec2 hrow hst;obtain ⟨hl2,henv2⟩:=hs2.Mb hrow hid2;refine ⟨_,run_endLoop hl2 hst,μ',?_⟩;have hset:=hs3.Ol hrow hid2 (.loop { rec2 with state:=.exhausted }) env henv2;have hsub:aa (del σ' idl) (upd σ' idl (gh (.loop { rec2 with state:=.exhausted }) env)):=fun i o h=>by
    unfold del at h;split at h
    ·cases h
    ·rename_i hi; rw [ab hi]; exact h
   have hks:=cE.sub (μ:=μ') (w2.putObj W0.heap.size (.loop { rec2 with state:=.exhausted })) hsub;have hsz2:=hs2.size;have hkall:cE (aC μ st.σ) (aC μ' (del σ' idl)) W0 (w2.putObj W0.heap.size (.loop { rec2 with state:=.exhausted })):=fun b hb hn=>by
    obtain ⟨q1,q2⟩:=hk1 b hb hn;have hb1:b < (W0.alloc (.loop rec)).heap.size:=by simp; omega
    obtain ⟨q3,q4⟩:=hk3 b hb1 q1;have hb2:b < w2.heap.size:=Nat.lt_of_lt_of_le hb1 hsz2;obtain ⟨q5,q6⟩:=hset.2 b hb2 q3;exact ⟨fun ho=>q5 (ho.sub hsub),q6.trans (q4.trans q2)⟩
   have hle3:cH μ μ':=hle1.trans hle2;have hz:W0.heap.size≤(w2.putObj W0.heap.size (.loop { rec2 with state:=.exhausted })).heap.size:=by
    simp at hsz2 ⊢; omega
   exact ⟨hset.1.drop hsub,hs0.le.trans hle3,hs0.size,hs0.book.lS hkall,fun i hi=>Rep.mono hle3 hkall hz _ _ (hs0.slot i hi)⟩
  rcases hp with ⟨hrow,hj⟩ | ⟨pre,hpre,e,hrow,hj,hin⟩
  ·obtain ⟨w4,g1,g2⟩:=fin rec hrow (by rw [hr1]; simp);refine ⟨_,w4,g1,?_⟩;rw [hr2];exact hdone _ hj F rfl kt' hk' _ _ g2
  ·obtain ⟨w4,g1,g2⟩:=fin _ hrow (by simp);refine ⟨_,w4,g1,?_⟩;cases e with
   | none=>exact hret pre _ hpre hj F rfl (.code .ret::kt') (by simp [KI.it,hk',cZ]) _ _ g2
   | some id=>exact hexit id (hin id rfl) pre _ hpre hj F rfl (.code (.exit id)::kt') (by simp [KI.it,hk',cZ]) _ _ g2
 ·intro pre x post σJ σ hxs hJ hsub;have hx:x.length=rec.params.toList.length:=by rw [hr4]; exact hlen x (by rw [hxs]; simp)
  have hb:=hbody pre x post (del σJ idl) (del σ idl) hxs hJ.2 (BV hsub);subst hE;refine DK hr1 hr2 hszn hx hJ.1 hsub (J (pre++[x])) exits (fun e=>Jx e (pre++[x])) ?_;rw [hr4,hr5,hr6];exact hb
theorem ad.cC {g:VX} {ps:List Nat} {A B:bB} {gf:FuncId} {caps:List V} (hg:g.ev st.s=.fn gf caps) {xs:List (List V)} (hit:Iter P gf caps xs)
 (hlen:∀x∈xs,x.length=ps.length) (exits:List Nat) (J:List (List V)→af→Prop) (Jx:Option Nat→List (List V)→af→Prop) (h0:J [] st.σ)
 (hbody:∀pre x post σJ σ,xs=pre++x::post→J pre σJ→aa σJ σ →
   ad P n [.code A, .stop fun st1=>ad P n (.code B::.stop (fun st2=>∃σ2,bb σJ σ σ2 st2.σ∧J (pre++[x]) σ2) ::
    exK (exits.map fun id=>(id,fun st2=>∃σ2,bb σJ σ σ2 st2.σ∧Jx (some id) (pre++[x]) σ2))) st1 (fun st2=>∃σ2,bb σJ σ σ2 st2.σ∧Jx none (pre++[x]) σ2)]
    ⟨lk st.s ps x,σ⟩ (fun _=>False))
 (hdone:∀σ',J xs σ'→ad P n k ⟨st.s,σ'⟩ Q)
 (hexit:∀id∈exits,∀pre σ',pre <+: xs→Jx (some id) pre σ'→ad P n (.code (.exit id)::k) ⟨st.s,σ'⟩ Q)
 (hret:∀pre σ',pre <+: xs→Jx none pre σ'→ad P n (.code .ret::k) ⟨st.s,σ'⟩ Q):ad P n (.code (.cC g ps A B)::k) st Q :=
 ad.GS hg (aa.refl _) ⟨hit.1,fun idl J' Jx' _ _ hb h=>hit.2 idl J' Jx' _ hb h⟩ hlen exits J Jx h0 hbody hdone hexit hret
variable {P:Program} {n:Nat} {st:St} {Q:St→Prop} {k:List It}
def dv (deps:List (List Nat)) (listed:List Nat):List Nat:=(List.range deps.length).filter fun i=>!listed.contains i && (deps.getD i []).all listed.contains
abbrev iU (ops:Array Oper):List (List Nat):=ops.toList.map fun o=>(o.after.toList.filter (Region.binds .any)).map (·.on)
theorem vd {ops:Array Oper} {arr:Array Bool} {listed:List Nat} (hs:arr.size=ops.size) (hl:∀i,i < ops.size→arr.getD i true=listed.contains i)
 (ho:∀i∈listed,i < ops.size):Region.ready .any ops arr=dv (iU ops) listed:=by
 unfold Region.ready dv;have hlen:(iU ops).length=ops.size:=by simp [iU]
 rw [hlen];refine List.filter_congr fun i hi=>?_;have hi:i < ops.size:=by simpa using hi
 rw [hl i hi];congr 1;have h1:ops[i]?=some ops[i]:=Array.getElem?_eq_getElem hi;have h2:(iU ops).getD i []=(ops[i].after.toList.filter (Region.binds .any)).map (·.on):=by
  rw [List.getD_eq_getElem?_getD];simp [iU,hi]
 rw [h1,h2];simp only [Option.map_some,Option.getD_some];rw [←Array.all_toList,List.all_map,List.all_filter];congr 1;funext e;simp only [Function.comp];have h3:arr.getD e.on false=listed.contains e.on:=by
  by_cases he:e.on < ops.size
  ·rw [←hl _ he,Array.getD_eq_getD_getElem?,Array.getD_eq_getD_getElem?,Array.getElem?_eq_getElem (by omega)];rfl
  ·rw [Array.getD_eq_getD_getElem?,Array.getElem?_eq_none (by omega)];simp only [Option.getD_none];symm;rw [Bool.eq_false_iff];intro hc;exact he (ho _ (by simpa using hc))
 rw [h3]
theorem aa.Hd {σ0 σ:af} {e:Nat} (h:aa σ0 σ) (he:σ0 e=Option.none):aa σ0 (del σ e):=fun i x hx=>by
 have hne:i≠e:=fun e'=>by rw [e',he] at hx; cases hx
 rw [dh hne];exact h i x hx
theorem nz:(∀ {P:Program} {O:Orc P} {n:Nat} {k:List It} {st:St} {Q:St→Prop},step P O n 0 (.r k) st Q=Kof P n k st Q)∧(∀ {P:Program} {n:Nat} {c:bB} {k:List It} {st:St} {Q:St→Prop},Kof P n (.code c::k) st Q=ad P n (.code c::k) st Q) ∧
 (∀ {P:Program} {n:Nat} {l:List aG} {k:List It} {st:St} {Q:St→Prop},Kof P n (.ops l::k) st Q=ad P n (.ops l::k) st Q)∧(∀ {P:Program} {n id:Nat} {k:List It} {st:St} {Q:St→Prop},Kof P n (.inBlock id::k) st Q=ad P n (.inBlock id::k) st Q) ∧
 ∀ {P:Program} {n:Nat} {st:St} {Q:St→Prop},Kof P n [] st Q=ad P n [] st Q:=⟨rfl,rfl,rfl,rfl,rfl⟩
theorem Wk.aD {σ σ':af} (sz:Nat):Wk σ σ' .aD (.sl sz []):=by
 intro μ w0 w ow0 x hs hr;simp only [Rep] at hr ⊢;exact ⟨none,0,by simpa using hr,by simp, .inl trivial⟩
def aM (K σ:af) (e sz:Nat) (v:V) (rows:List V):Prop:=(v=.aD∧rows=[])∨∃id,v=.own id 0 rows.length∧σ id=some ⟨e,sz,rows⟩∧K id=none
theorem aM.wk {K σ:af} {e sz:Nat} {v:V} {rows:List V} (h:aM K σ e sz v rows) {K':af} (hK:aa K' K) (hs:aa K' σ):Wk σ K' v (.sl sz rows):=by
 rcases h with ⟨rfl,rfl⟩ | ⟨id,rfl,ho,hk⟩
 ·exact Wk.aD sz
 ·have:=Wk.own hs ho (hK.none hk) (off:=0) (len:=rows.length) (by simp);rw [List.drop_zero,List.take_length] at this;exact this
theorem aM.Cj {K σ:af} {e sz:Nat} {v:V} {rows:List V} (h:aM K σ e sz v rows) (hs:aa K σ) {v0:V} (hv:V.sl sz rows=v0) :
 ar v σ fun r σ'=>r=v0∧σ'=K:=⟨_,K,hs,h.wk (aa.refl K) hs,hv,rfl⟩
theorem ew {P:Program} {n:Nat} {Q:St→Prop} {k:List It} {O:Orc P} {f:Nat} {d:Option Nat} {l:List aG} {v:Nat→V} {ob:Ob} {s:Nat→V} {σ:af} {e:Option Nat}
 (h:∀id σ',aa (bz σ e) σ'→σ' id=some ob→σ id=none→step P O n f (.r (.ops l::k)) ⟨aV s d (v id),σ'⟩ Q) :
 H8 P O n f l k d ⟨s,σ⟩ Q (some fun id=>(v id,Vc.upd (bz σ e) id ob)):=by
 rw [aH];refine fun id hid=>h id _ ((aa.refl _).upd ?_) ag hid;cases e with
 | none=>exact hid
 | some e =>
   simp only [bz,del];split
   ·rfl
   ·exact hid
theorem jr {P:Program} {n:Nat} {Q:St→Prop} {k:List It} {O:Orc P} {f:Nat} {d:Option Nat} {l:List aG} {v:Nat→V} {ob:Ob} {s:Nat→V} {σ:af} {e:Option Nat}
 (h:∀id σ',aa (bz σ e) σ'→σ' id=some ob→σ id=none→step P O n f (.d l k) ⟨aV s d (v id),σ'⟩ Q) :
 Gq P O n f l k d ⟨s,σ⟩ Q (some fun id=>(v id,Vc.upd (bz σ e) id ob)):=by
 rw [aL];refine fun id hid=>h id _ ((aa.refl _).upd ?_) ag hid;cases e with
 | none=>exact hid
 | some e =>
   simp only [bz,del];split
   ·rfl
   ·exact hid
theorem aM.dst {K σ:af} {e sz:Nat} {v:V} {rows:List V} (h:aM K σ e sz v rows) {σ1:af} (hs:aa σ σ1) :
 ∃idA,bR σ1 e sz v=some (rows,idA)∧∀K':af,aa K' K→∀σ2,aa K' σ2→aa K' (bz σ2 idA):=by
 rcases h with ⟨rfl,rfl⟩ | ⟨id,rfl,ho,hk⟩
 ·exact ⟨none,rfl,fun _ _ _ h=>h⟩
 ·refine ⟨some id,?_,fun K' hK σ2 h=>h.Hd (hK.none hk)⟩;simp only [bR,hs _ _ ho];rw [if_pos ⟨trivial,trivial,trivial,Nat.le_refl _⟩,List.take_length]
theorem aM.start {K σ:af} {e sz:Nat}:aM K σ e sz .aD []:=.inl ⟨rfl,rfl⟩
theorem aM.new {K σ:af} {e sz id:Nat} {rows:List V} {n:Nat} (hn:n=rows.length) (h:σ id=some ⟨e,sz,rows⟩) (hk:K id=none):aM K σ e sz (.own id 0 n) rows:=by
 subst hn; exact .inr ⟨id,rfl,h,hk⟩
theorem aM.len {K σ:af} {e sz:Nat} {v:V} {rows:List V} (h:aM K σ e sz v rows):dD false v=some (.int .i64 rows.length):=by
 rcases h with ⟨rfl,rfl⟩ | ⟨id,rfl,ho,hk⟩ <;> rfl
theorem aM.mono {K σ σ':af} {e sz:Nat} {v:V} {rows:List V} (h:aM K σ e sz v rows) (hs:aa σ σ'):aM K σ' e sz v rows:=by
 rcases h with h | ⟨id,h1,h2,h3⟩
 ·exact .inl h
 ·exact .inr ⟨id,h1,hs _ _ h2,h3⟩
theorem dk {σ:af} {id e sz:Nat} {r:V} (h:σ id=some ⟨e,sz,[r]⟩):bK σ sz (.own id 0 1)=some [r]:=by
 simp [bK,h]
theorem Wk.ptr {σ σ':af} (h:aa σ' σ) {id:Nat} {e sz:Nat} {r:V} (ho:σ id=some ⟨e,sz,[r]⟩) (hid:σ' id=none):Wk σ σ' (.ptr id 0 0) (.rp r):=by
 intro μ w0 w ow0 x hs hr;simp only [Rep] at hr ⊢;have hob:=hs.obj id _ ho;split at hr
 ·rename_i b sz' cap hb;obtain ⟨rfl,hz⟩:=hr;rw [hb] at hob;have hlt:b < w.heap.size:=aC.lt hs ⟨id,_,_,_,ho,hb⟩;obtain ⟨g1,g2,g3,g4,g5⟩:=hob.rows hz;refine ⟨b,_,rfl,hlt, .inr ?_,?_⟩
  ·rintro ⟨id',ob',sz'',cap'',e1,e2⟩;have:=hs.inj id' id ob' _ _ _ _ _ _ (h _ _ e1) ho e2 hb;rw [this,hid] at e1;cases e1
  ·simp only [aX] at g5;have:=aX.mono (cH.refl μ) (cE.sub w h) (Nat.le_refl _) [r] b 0 sz' rfl (by simp only [aX]; exact ⟨g5.1,g5.2.1,trivial⟩);simp only [aX] at this;simpa using this.2.1
 ·exact hr.elim
theorem Wk.fn {σ σ':af} {f:FuncId} {vs vs':List V} (h:WkL σ σ' vs vs'):Wk σ σ' (.fn f vs) (.fn f vs'):=by
 intro μ w0 w ow0 x hs hr;simp only [Rep] at hr ⊢;obtain ⟨vals,rfl,h1⟩:=hr;exact ⟨vals,rfl,WkL.all hs h h1⟩
theorem V.CU (vs:List V):V.cells (.agg vs)=vs:=rfl
theorem V.CI (k:IntKind) (i:Int):V.cells (.int k i)=[.int k i]:=rfl
theorem V.Az:V.cells .aD=[.aD]:=rfl
theorem V.Df (a b c:Nat):V.cells (.own a b c)=[.own a b c]:=rfl
theorem V.Gp (a:Nat) (b:List V):V.cells (.sl a b)=[.sl a b]:=rfl
theorem V.CE (a:List UInt8):V.cells (.str a)=[.str a]:=rfl
theorem V.AU (a:Bool):V.cells (.bool a)=[.bool a]:=rfl
theorem V.EO (a:FuncId) (b:List V):V.cells (.fn a b)=[.fn a b]:=rfl
theorem V.Dl (a b c:Nat):V.cells (.ptr a b c)=[.ptr a b c]:=rfl
theorem V.F9 (a:V):V.cells (.rp a)=[.rp a]:=rfl
theorem V.Dr (vs:List V):V.stays (.agg vs)=true:=rfl
theorem V.CV (k:IntKind) (i:Int):V.stays (.int k i)=true:=rfl
theorem V.Ad:V.stays .aD=true:=rfl
theorem V.Db (a b c:Nat):V.stays (.own a b c)=true:=rfl
theorem V.Fs (a:Nat) (b:List V):V.stays (.sl a b)=true:=rfl
theorem V.De (a:List UInt8):V.stays (.str a)=true:=rfl
theorem V.At (a:Bool):V.stays (.bool a)=true:=rfl
theorem V.Gf (a:FuncId) (b:List V):V.stays (.fn a b)=true:=rfl
theorem V.Dk (a b c:Nat):V.stays (.ptr a b c)=true:=rfl
theorem V.FP (a:V):V.stays (.rp a)=true:=rfl
end Go.Vc
