/- Part 5 of the library of this proof. -/
import Derived.Test.YthlfggpepphopaaGreatW4
set_option linter.all false
set_option maxRecDepth 100000
namespace Go.Vc
variable {P:Program} {n:Nat} {st:St} {Q:St→Prop} {k:List It}
theorem sZ {deps:List (List Nat)} {listed:List Nat} {i:Nat} (h:i∈dq deps listed):i < deps.length∧i∉listed∧∀k∈deps.getD i [],k∈listed:=by
 unfold dq at h;obtain ⟨h1,h2⟩:=List.mem_filter.1 h;simp only [Ba,Bool.not_eq_true',List.all_eq_true] at h2;exact ⟨by simpa using h1,by simpa using h2.1,fun k hk=>by simpa using h2.2 k hk⟩
theorem rA:∀(n:Nat) (L:List Nat),L.Nodup→(∀k∈L,k < n)→L.length≤n∧(L.length=n→∀k,k < n→k∈L)
 | 0,L,_,h=>by
   cases L with
   | nil=>simp
   | cons a L=>have:=h a (by simp); omega
 | n+1,L,hd,h=>by
   by_cases hn:n∈L
   ·have h1:=rA n (L.erase n) (hd.erase n) fun k hk=>by
     have h2:=h k (List.mem_of_mem_erase hk);have h3:k≠n:=fun e=>by subst e; exact (List.Nodup.not_mem_erase hd) hk
     omega
    have h4:=List.length_erase_of_mem hn;have h5:0 < L.length:=List.length_pos_of_mem hn;refine ⟨by omega,fun he k hk=>?_⟩;by_cases hkn:k=n
    ·rw [hkn]; exact hn
    ·exact List.mem_of_mem_erase (h1.2 (by omega) k (by omega))
   ·have h1:=rA n L hd fun k hk=>by
     have h2:=h k hk;have h3:k≠n:=fun e=>hn (e ▸ hk);omega
    exact ⟨by omega,fun he=>by omega⟩
variable {P:Program} {n:Nat} {st:St} {Q:St→Prop} {k:List It}
def TC (P:Program) (i:aG) (x:St) (K:St→Prop):Prop:=T P i x K∨(bl x.s i.g=some true∧match i.op with
 | .call fx xs=>∃f caps Post,fx.ev x.s=.fn f caps∧av P f (xs.map (·.ev x.s)++caps) x.σ Post∧∀r σ',Post r σ'→K ⟨aW x.s i.dst r,σ'⟩
 | _=>False)
theorem TC.mono {i:aG} {x:St} {K K':St→Prop} (hk:∀x,K x→K' x) (h:TC P i x K):TC P i x K':=by
 rcases h with h | ⟨h1,h2⟩
 ·exact .inl (h.mono hk)
 ·refine .inr ⟨h1,?_⟩;split at h2
  ·obtain ⟨f,caps,Post,g1,g2,g3⟩:=h2;exact ⟨f,caps,Post,g1,g2,fun r σ' hp=>hk _ (g3 r σ' hp)⟩
  ·exact h2.elim
theorem Dw {F:Fr} (hn:F.n=n) {o:Oper} {all:Array Oper} {x:St} {K:St→Prop} {a:Act} {w:World} (h:TC P (cK P n all o) x K) (hs:eV F x a w)
 {next:Act→World→Prop} {Q':Exit→Act→World→Prop} (hnext:∀x' a' w',eV F x' a' w'→K x'→next a' w') :
 if Region.wanted o (yielded all a.tmps) then cop P n o.op≠.bad∧o.wp P a w next Q' else next (a.put o.dst undef) w:=by
 rcases h with h | ⟨hw,h⟩
 ·exact vU hn h hs hnext
 subst hn;obtain ⟨μ,hs⟩:=hs;have hwant:=rm (P:=P) hs all o hw;rw [hwant];simp only [if_true];have hdst:(cK P F.n all o).dst=o.dst.filter (· < F.n):=rfl;have hopc:(cK P F.n all o).op=cop P F.n o.op:=rfl;rw [hdst,hopc] at h;split at h
 ·rename_i fx xs hop;refine ⟨fun e=>?_,?_⟩
  ·rw [hop] at e; cases e
  obtain ⟨f,caps,Post,h1,h2,h3⟩:=h;obtain ⟨f0,args,argTypes,g1,rfl,rfl⟩:=k0 hop;refine mS hs g1 h1 h2 fun r σ' hp a' w' hs'=>?_;exact hnext _ a' w' hs' (h3 r σ' hp)
 ·exact h.elim
def TnC (P:Program) (n:Nat) (ops:Array Oper) (i:Nat) (x:St) (K:St→Prop):Prop:=match ops[i]? with
 | some o=>TC P (cK P n ops o) x K
 | none=>K x
def vF (P:Program) (n:Nat) (ops:Array Oper) (Q:St→Prop):Nat→Array Bool→St→Prop
 | 0,listed,x=>Region.ready .any ops listed=[]∧Q x
 | f+1,listed,x=>(Region.ready .any ops listed=[]→Q x)∧∀i∈Region.ready .any ops listed,TnC P n ops i x (vF P n ops Q f (listed.setIfInBounds i true))
theorem lB {F:Fr} (hn:F.n=n) {ops:Array Oper} {Q:St→Prop} {Q':Exit→Act→World→Prop} (hQ:∀x a w,eV F x a w→Q x→Q' .normal a w) :
 ∀(f:Nat) (listed:Array Bool) (x:St) (a:Act) (w:World),eV F x a w→vF P n ops Q f listed x→wpAnyIn F.ef 0 P .any ops Q' f listed a w
 | 0,_,_,_,_,hs,h=>⟨h.1,hQ _ _ _ hs h.2⟩
 | f+1,listed,x,a,w,hs,h=>by
   refine ⟨fun h0=>hQ _ _ _ hs (h.1 h0),fun i hi=>?_⟩;have h1:=h.2 i hi;unfold TnC at h1;unfold wpOpIn;cases ho:ops[i]? with
   | none =>
     simp only [ho] at h1;exact lB hn hQ f _ x a w hs h1
   | some o =>
     simp only [ho] at h1;have h2:=Dw (Q':=Q') hn h1 hs fun x' a' w' hs' hk=>lB hn hQ f _ x' a' w' hs' hk;by_cases hw:Region.wanted o (yielded ops a.tmps)=true
     ·rw [if_pos hw] at h2;simp only [hw,if_true];exact G7 (lS h2.1) h2.2
     ·rw [if_neg hw] at h2;simp only [hw];exact ⟨fun _ _=>trivial,h2⟩
def tz (P:Program) (l:List aG) (rec:List Nat→St→Prop) (listed:List Nat) (x:St):List Nat→Prop
 | []=>True
 | i::is=>(match l[i]? with
    | some ins=>TC P ins x (rec (i::listed))
    | none=>False)∧tz P l rec listed x is
def gC (P:Program) (l:List aG) (deps:List (List Nat)) (Q:St→Prop):Nat→List Nat→St→Prop
 | 0,listed,x=>dq deps listed=[]∧Q x
 | f+1,listed,x=>match dq deps listed with
    | []=>Q x
    | i::is=>tz P l (gC P l deps Q f) listed x (i::is)
theorem l6 {l:List aG} {rec:List Nat→St→Prop} {listed:List Nat} {x:St}:∀ {is:List Nat},tz P l rec listed x is→∀i∈is,∃ins,l[i]?=some ins∧TC P ins x (rec (i::listed))
 | [],_,_,hi=>by cases hi
 | j::is,h,i,hi=>by
   obtain ⟨h1,h2⟩:=h;rcases List.mem_cons.1 hi with rfl | hi
   ·cases hl:l[i]? with
    | none=>rw [hl] at h1; exact h1.elim
    | some ins=>rw [hl] at h1; exact ⟨ins,rfl,h1⟩
   ·exact l6 h2 i hi
theorem kI {ops:Array Oper} {Q:St→Prop}:∀(f:Nat) (arr:Array Bool) (listed:List Nat) (x:St),arr.size=ops.size→(∀i,i < ops.size→arr.getD i true=listed.contains i) →
 (∀i∈listed,i < ops.size)→gC P (ops.toList.map (cK P n ops)) (jd ops) Q f listed x→vF P n ops Q f arr x
 | 0,arr,listed,x,hs,hl,ho,h=>⟨by rw [uQ hs hl ho]; exact h.1,h.2⟩
 | f+1,arr,listed,x,hs,hl,ho,h=>by
   have hr:=uQ hs hl ho;unfold gC at h;refine ⟨fun h0=>?_,fun i hi=>?_⟩
   ·rw [hr] at h0;rw [h0] at h;exact h
   ·rw [hr] at hi;have hlt:i < ops.size:=by
     have:=(List.mem_filter.1 hi).1;simpa [jd] using this
    have hall:tz P (ops.toList.map (cK P n ops)) (gC P (ops.toList.map (cK P n ops)) (jd ops) Q f) listed x (dq (jd ops) listed):=by
     cases hrr:dq (jd ops) listed with
     | nil=>exact trivial
     | cons j js=>rw [hrr] at h; exact h
    obtain ⟨ins,h1,h2⟩:=l6 hall i hi;have h3:ops[i]?=some ops[i]:=Array.getElem?_eq_getElem hlt;have h4:ins=cK P n ops ops[i]:=by simpa [hlt] using h1.symm
    unfold TnC;simp only [h3];rw [←h4];refine h2.mono fun x' hx'=>kI f _ (i::listed) x' (by simpa using hs) (fun j hj=>?_) (fun j hj=>?_) hx'
    ·by_cases e:j=i
     ·subst e;rw [Array.getD_eq_getD_getElem?,Array.getElem?_setIfInBounds_self_of_lt (by omega)];simp
     ·rw [Array.getD_eq_getD_getElem?,Array.getElem?_setIfInBounds_ne (fun e'=>e e'.symm),←Array.getD_eq_getD_getElem?,hl j hj];simp [e]
    ·rcases List.mem_cons.1 hj with rfl | hj
     ·exact hlt
     ·exact ho j hj
theorem ad.Ij (hm:P.follows .mixedOrders=true) {l:List aG} {deps:List (List Nat)} (h:gC P l deps (fun x=>ad P n k x Q) l.length [] st):ad P n (.code (.regA l deps)::k) st Q:=by
 intro F hn kt hk a w hs;obtain ⟨z,kt',rfl,hy,hk'⟩:=dU hk;obtain ⟨c0,rfl,hcc⟩:=fU hy;have hc0:∃id ops,c0=.region id ops true∧ops.toList.map (cK P n ops)=l∧jd ops=deps:=by
  cases c0 <;> simp only [cZ,reduceCtorEq] at hcc;rename_i id ops draw;cases draw
  ·simp at hcc
  ·simp only [Bool.true_and] at hcc;split at hcc
   ·cases hcc
   split at hcc
   ·simp only [bx.regA.injEq] at hcc;exact ⟨id,ops,rfl,hcc.1,hcc.2⟩
   ·simp at hcc
 obtain ⟨id,ops,rfl,rfl,rfl⟩:=hc0;have hs':eV F st a { w with drawn:=w.drawn+1 }:=by
  obtain ⟨μ,hs⟩:=hs;have hk:cB (aB μ st.σ) (aB μ st.σ) w { w with drawn:=w.drawn+1 }:=fun _ _ h=>⟨h,rfl⟩
  refine ⟨μ,⟨⟨hs.sat.size,hs.sat.os,hs.sat.tape,hs.sat.output,hs.sat.same,hs.sat.fin,hs.sat.inj,fun id o ho=>?_,hs.sat.fresh,hs.sat.glob⟩,hs.le,hs.size,hs.book.lp hk,fun i hi=>?_⟩⟩
  ·exact (hs.sat.obj id o ho).mono (cD.refl μ) hk (Nat.le_refl _) (fun _ _ _ _=>rfl)
  ·exact Rep.mono (cD.refl μ) hk (Nat.le_refl _) _ _ (hs.slot i hi)
 refine wpIn_region_any hm (lB (Q:=fun x=>ad P n k x Q) hn (fun x a w hs h=>h F hn kt' hk' a w hs) _ _ _ _ _ hs' ?_);have:=kI (P:=P) (n:=n) (Q:=fun x=>ad P n k x Q) (ops:=ops) ops.size (Array.replicate ops.size false) [] st (by simp) (fun i hi=>by
  rw [Array.getD_eq_getD_getElem?,Array.getElem?_replicate,if_pos hi]; simp) (by simp) (by simpa using h)
 exact this
theorem ov {l:List aG} {rec:List Nat→St→Prop} {listed:List Nat} {x:St}:∀ {is:List Nat},(∀i∈is,∃ins,l[i]?=some ins∧TC P ins x (rec (i::listed)))→tz P l rec listed x is
 | [],_=>trivial
 | j::is,h=>by
   obtain ⟨ins,h1,h2⟩:=h j (by simp);refine ⟨by rw [h1]; exact h2,ov fun i hi=>h i (by simp [hi])⟩
variable {P:Program} {n:Nat} {st:St} {Q:St→Prop} {k:List It}
def QYd (P:Program) (i:aG) (x:St):Prop:=match i.dst with
 | some d=>QY P i x.s x.σ (x.s d)
 | none=>∃v,QY P i x.s x.σ v
def RE (P:Program) (l:List aG) (K:St→Prop):List Nat→St→Prop
 | [],x=>K x
 | m::its,x=>match l[m / 2]? with
   | none=>False
   | some ins=>if m % 2=0 then TC P ins x (RE P l K its) else QYd P ins x∧RE P l K its x
def bn (l:List aG) (i:Nat):aG:=(l[i]?).getD ⟨none, .bad,none⟩
def eo (bef:List (List Nat)) (i:Nat):List Nat:=bef.getD i []
def cX (l:List aG) (bef:List (List Nat)) (j:Nat):Bool:=bp (bn l j).op != 0 || (match (bn l j).dst with
 | some d=>(List.range l.length).any fun i=>(bn l i).jV.contains d && !(eo bef i).contains j
 | none=>false)
def CD (l:List aG) (bef:List (List Nat)) (done:List Nat) (e:Nat):List Nat :=
 if cX l bef e then done.filterMap fun k=>if !(cX l bef k) && (!(jt (bn l k).op) && !((eo bef e).contains k)) then some (2*k+1) else none else []
def dN (l:List aG) (bef:List (List Nat)):List Nat→List Nat→List Nat
 | _,[]=>[]
 | done,e::r=>2*e::(CD l bef done e++dN l bef (done++[e]) r)
def lK (p:Nat→Nat→Bool):List Nat→Bool
 | []=>true
 | a::r=>r.all (p a) && lK p r
theorem kV {p:Nat→Nat→Bool}:∀ {a:List Nat} {b:List Nat} {x y:Nat},lK p (a++b)=true→x∈a→y∈b→p x y=true
 | [],_,_,_,_,h,_=>by cases h
 | c::a,b,x,y,hp,hx,hy=>by
   simp only [List.cons_append,lK,Ba] at hp;rcases List.mem_cons.1 hx with rfl | hx
   ·exact List.all_eq_true.1 hp.1 y (List.mem_append_right _ hy)
   ·exact kV hp.2 hx hy
def ru (f:Nat→List Nat):List Nat→List Nat→Bool
 | _,[]=>true
 | done,e::r=>(f e).all done.contains && ru f (done++[e]) r
theorem pZ {f:Nat→List Nat}:∀ {r done:List Nat} {a:List Nat} {e:Nat} {b:List Nat},ru f done r=true→r=a++e::b→∀x∈f e,x∈done++a
 | [],_,a,e,b,_,h,_,_=>by simp at h
 | c::r,done,[],e,b,hB,h,x,hx=>by
   simp only [List.nil_append,List.cons.injEq] at h;obtain ⟨rfl,rfl⟩:=h;simp only [ru,Ba] at hB;simpa using List.all_eq_true.1 hB.1 x hx
 | c::r,done,d::a,e,b,hB,h,x,hx=>by
   simp only [List.cons_append,List.cons.injEq] at h;obtain ⟨rfl,rfl⟩:=h;simp only [ru,Ba] at hB;have:=pZ hB.2 rfl x hx;simpa using this
def Ha (l:List aG) (deps bef:List (List Nat)) (ord:List Nat):Bool :=
 (decide (ord.length=l.length) && (decide (deps.length=l.length) && ord.all fun i=>decide (i < l.length))) &&
 (lK (fun a b=>decide (a≠b)) ord &&
 (ru (fun i=>deps.getD i []) [] ord &&
 ((List.range l.length).all (fun j=>(eo bef j).all fun i=>(deps.getD j []).any fun d=>d == i || (eo bef d).contains i) &&
 ((List.range l.length).all (fun i=>(List.range l.length).all fun j=>i == j || ((bn l i).dst.isNone || (bn l i).dst != (bn l j).dst)) &&
 (List.range l.length).all (fun i=>(List.range l.length).all fun j=>i == j || (match (bn l j).dst with
   | some d=>!((bn l i).jV.contains d) || ((eo bef i).contains j || (cX l bef j && (eo bef j).contains i))
   | none=>true))))))
def eOk (l:List aG) (deps bef:List (List Nat)) (ord:List Nat):Bool:=Ha l deps bef ord && lK (fun a b=>!(cX l bef a) || (eo bef b).contains a) ord
theorem pT:∀ {l:List Nat},lK (fun a b=>decide (a≠b)) l=true→l.Nodup
 | [],_=>List.nodup_nil
 | a::r,h=>by
   simp only [lK,Ba] at h;refine List.nodup_cons.2 ⟨fun hm=>?_,pT h.2⟩;have:=List.all_eq_true.1 h.1 a hm;simp at this
structure EOkW (l:List aG) (deps bef:List (List Nat)) (ord:List Nat):Prop where
 len:ord.length=l.length
 dlen:deps.length=l.length
 lt:∀i∈ord,i < l.length
 nodup:ord.Nodup
 ahead:∀a e b,ord=a++e::b→∀x∈deps.getD e [],x∈a
 anc:∀j,j < l.length→∀i∈eo bef j,∃d∈deps.getD j [],d=i∨i∈eo bef d
 dsts:∀i j,i < l.length→j < l.length→i≠j→∀d,(bn l i).dst=some d→(bn l j).dst≠some d
 anti:∀i j,i < l.length→j < l.length→i≠j→∀d,(bn l j).dst=some d→d∈(bn l i).jV→j∈eo bef i∨(cX l bef j=true∧i∈eo bef j)
theorem vi {l:List aG} {deps bef:List (List Nat)} {ord:List Nat} (h:Ha l deps bef ord=true):EOkW l deps bef ord:=by
 simp only [Ha,Ba,decide_eq_true_eq] at h;obtain ⟨⟨h1,h2,h3⟩,h4,h5,h6,h7,h8⟩:=h;refine ⟨h1,h2,fun i hi=>by simpa using List.all_eq_true.1 h3 i hi,pT h4,fun a e b he x hx=>by simpa using pZ h5 he x hx,?_,?_,?_⟩
 ·intro j hj i hi;have:=List.all_eq_true.1 (List.all_eq_true.1 h6 j (by simpa using hj)) i hi;simp only [List.any_eq_true,Bool.or_eq_true,beq_iff_eq,List.contains_iff_mem] at this;exact this
 ·intro i j hi hj hne d hd he;have:=List.all_eq_true.1 (List.all_eq_true.1 h7 i (by simpa using hi)) j (by simpa using hj);simp only [Bool.or_eq_true,beq_iff_eq,hd,he,Option.isNone_some,bne_self_eq_false,Bool.false_eq_true,or_false] at this;exact hne this
 ·intro i j hi hj hne d hd hu;have:=List.all_eq_true.1 (List.all_eq_true.1 h8 i (by simpa using hi)) j (by simpa using hj);simp only [Bool.or_eq_true,beq_iff_eq,hd,Ba,Bool.not_eq_true',List.contains_iff_mem] at this;rcases this with h | h | h
  ·exact absurd h hne
  ·have hc:(bn l i).jV.contains d=true:=List.contains_iff_mem.2 hu;rw [hc] at h; cases h
  ·exact h
structure EOk (l:List aG) (deps bef:List (List Nat)) (ord:List Nat):Prop extends EOkW l deps bef ord where
 effs:∀a b x y,ord=a++b→x∈a→y∈b→cX l bef x=true→x∈eo bef y
theorem xr {l:List aG} {deps bef:List (List Nat)} {ord:List Nat} (h:eOk l deps bef ord=true):EOk l deps bef ord:=by
 simp only [eOk,Ba] at h;refine ⟨vi h.1,fun a b x y he hx hy hxe=>?_⟩;have h9:=h.2;rw [he] at h9;have:=kV h9 hx hy;simp only [hxe,Bool.not_true,Bool.false_or,List.contains_iff_mem] at this;exact this
theorem EOkW.closed {l:List aG} {deps bef:List (List Nat)} {ord:List Nat} (h:EOkW l deps bef ord) {L:List Nat} (hc:∀m∈L,∀d∈deps.getD m [],d∈L) (hmem:∀i,i < l.length→i∈ord) :
 ∀(m:Nat) (a:List Nat) (j:Nat) (b:List Nat),a.length < m→ord=a++j::b→(∀d∈deps.getD j [],d∈L)→∀i∈eo bef j,i∈L:=by
 intro m
 induction m with
 | zero=>intro a j b ha; omega
 | succ m ih =>
   intro a j b ha he hd i hi;have hj:j < l.length:=h.lt j (by rw [he]; simp);obtain ⟨d,h1,h2⟩:=h.anc j hj i hi;rcases h2 with rfl | h2
   ·exact hd d h1
   ·have hda:=h.ahead a j b he d h1;obtain ⟨a1,a2,rfl⟩:=List.append_of_mem hda;exact ih a1 d (a2++j::b) (by simp at ha; omega) (by rw [he]; simp) (fun d' h'=>hc d (hd d h1) d' h') i h2
theorem lf {i:aG} {s s':Nat→V} (h:∀u∈i.jV,s u=s' u):bl s i.g=bl s' i.g:=by
 cases hg:i.g with
 | none=>rfl
 | some g =>
   obtain ⟨x,b⟩:=g;have:x.ev s=x.ev s':=by
    cases x with
    | t t=>exact h t (List.mem_filterMap.2 ⟨.t t,List.mem_append_right _ (by simp [hg]),rfl⟩)
    | c v=>rfl
   simp only [bl,this]
theorem yX {i:aG} {s s':Nat→V} (h:∀u∈i.jV,s u=s' u):∀x∈i.op.xs,x.ev s=x.ev s':=fun x hx=>by
 cases x with
 | t t=>exact h t (Bg hx rfl)
 | c v=>rfl
theorem zu {i:aG} {s s':Nat→V} {σ:af} {v:V} (h:∀u∈i.jV,s u=s' u) (hq:QY P i s σ v):QY P i s' σ v:=by
 unfold QY at *;rw [←lf h];exact hq.imp (fun ⟨h1,h2⟩=>⟨h1,sK (yX h) h2⟩) id
theorem xQ {i:aG} {x y:St} {K K':St→Prop} (h:∀u∈i.jV,x.s u=y.s u) (hσ:x.σ=y.σ) (hk:∀r σ',K ⟨aW x.s i.dst r,σ'⟩→K' ⟨aW y.s i.dst r,σ'⟩) (ht:TC P i x K):TC P i y K':=by
 have hx:=yX h;rcases ht with ht | ⟨hw,ht⟩
 ·refine .inl ?_;unfold T at *;rw [←lf h];split <;> rename_i ho <;> simp only [ho] at ht
  ·unfold TO at *;split <;> rename_i hk0 <;> simp only [hk0] at ht
   ·obtain ⟨g1,v,g2,g3⟩:=ht;obtain ⟨e1,e2⟩:=qd (σ:=y.σ) hx;exact ⟨e2.1 g1,v,by rw [←e1,←hσ]; exact g2,by rw [←hσ]; exact hk _ _ g3⟩
   ·split at ht
    ·rename_i fx xs hop;obtain ⟨f,caps,v,g1,g2,g3⟩:=ht;refine ⟨f,caps,v,?_,?_,by rw [←hσ]; exact hk _ _ g3⟩
     ·rw [←hx fx (by rw [hop]; simp [VOp.xs])]; exact g1
     ·rw [←oX (s:=x.s) (s':=y.s) fun z hz=>hx z (by rw [hop]; simp [VOp.xs,hz]),←hσ]; exact g2
    ·exact ht.elim
   ·split at ht
    ·rename_i sz xa xv hop;obtain ⟨σ',g1,g2⟩:=ht;refine ⟨σ',?_,hk _ _ g2⟩;rw [←hx xa (by rw [hop]; simp [VOp.xs]),←hx xv (by rw [hop]; simp [VOp.xs]),←hσ]; exact g1
    ·exact ht.elim
   ·obtain ⟨g,g1,g2⟩:=ht;refine ⟨g,by rw [←eK hx,←hσ]; exact g1,fun id hid=>hk _ _ (g2 id (by rw [hσ]; exact hid))⟩
  ·rw [←hσ]; exact hk _ _ ht
 ·refine .inr ⟨by rw [←lf h]; exact hw,?_⟩;split at ht
  ·rename_i fx xs hop;obtain ⟨f,caps,Post,g1,g2,g3⟩:=ht;refine ⟨f,caps,Post,?_,?_,fun r σ' hp=>hk _ _ (g3 r σ' hp)⟩
   ·rw [←hx fx (by rw [hop]; simp [VOp.xs])]; exact g1
   ·rw [←oX (s:=x.s) (s':=y.s) fun z hz=>hx z (by rw [hop]; simp [VOp.xs,hz]),←hσ]; exact g2
  ·exact ht.elim
structure iU (P:Program) (l:List aG) (deps bef:List (List Nat)) (ord:List Nat) (K:St→Prop) (L:List Nat) (y:St) (done rest:List Nat) (x:St):Prop where
 split:ord=done++rest
 sub:∀i∈L,i∈done
 nodup:L.Nodup
 closed:∀m∈L,∀d∈deps.getD m [],d∈L
 effs:∀i∈done,cX l bef i=true→i∈L
 store:y.σ=x.σ
 slot:∀d,(∀i∈done,i∉L→(bn l i).dst≠some d)→y.s d=x.s d
 lag:∀i∈done,i∉L→QYd P (bn l i) x
 go:RE P l K (dN l bef done rest) x
theorem gb {l:List aG} {bef:List (List Nat)} {e:Nat} (h:cX l bef e=false) (he:e < l.length) (hne:e∉eo bef e):bp (bn l e).op=0∧∀d,(bn l e).dst=some d→d∉(bn l e).jV:=by
 simp only [cX,Bool.or_eq_false_iff,bne_eq_false_iff_eq] at h;refine ⟨h.1,fun d hd hu=>?_⟩;have h2:=h.2;rw [hd] at h2;simp only [List.any_eq_false,List.mem_range,Ba,Bool.not_eq_true',not_and,Bool.not_eq_false] at h2;have:=h2 e he (List.contains_iff_mem.2 hu);exact hne (List.contains_iff_mem.1 this)
theorem BL {l:List aG} {K:St→Prop} {e:Nat} {its:List Nat} {x:St} (he:e < l.length):RE P l K (2*e::its) x↔TC P (bn l e) x (RE P l K its):=by
 have h1:2*e / 2=e:=by omega
 have h2:2*e % 2=0:=by omega
 rw [RE,h1,List.getElem?_eq_getElem he];simp only [if_pos h2,bn,List.getElem?_eq_getElem he,Option.getD_some]
theorem II {l:List aG} {K:St→Prop} {e:Nat} {its:List Nat} {x:St} (he:e < l.length):RE P l K ((2*e+1)::its) x↔QYd P (bn l e) x∧RE P l K its x:=by
 have h1:(2*e+1) / 2=e:=by omega
 have h2:¬(2*e+1) % 2=0:=by omega
 rw [RE,h1,List.getElem?_eq_getElem he];simp only [if_neg h2,bn,List.getElem?_eq_getElem he,Option.getD_some]
theorem qR {l:List aG} {K:St→Prop} {its:List Nat} {x:St} (p:Nat→Bool):∀ {done:List Nat},(∀i∈done,i < l.length)→RE P l K ((done.filterMap fun k=>if p k then some (2*k+1) else none)++its) x →
 (∀k∈done,p k=true→QYd P (bn l k) x)∧RE P l K its x
 | [],_,h=>⟨by simp,h⟩
 | a::r,hl,h=>by
   rw [List.filterMap_cons] at h;cases hp:p a with
   | false =>
     simp only [hp,Bool.false_eq_true,if_false] at h;obtain ⟨h1,h2⟩:=qR p (fun i hi=>hl i (by simp [hi])) h;refine ⟨fun k hk hpk=>?_,h2⟩;rcases List.mem_cons.1 hk with rfl | hk
     ·rw [hp] at hpk; cases hpk
     ·exact h1 k hk hpk
   | true =>
     simp only [hp,if_true,List.cons_append] at h;rw [II (hl a (by simp))] at h;obtain ⟨h1,h2⟩:=qR p (fun i hi=>hl i (by simp [hi])) h.2;refine ⟨fun k hk hpk=>?_,h2⟩;rcases List.mem_cons.1 hk with rfl | hk
     ·exact h.1
     ·exact h1 k hk hpk
section
variable {l:List aG} {deps bef:List (List Nat)} {ord:List Nat} {K:St→Prop} (hE:EOkW l deps bef ord)
include hE
theorem EOkW.mem (i:Nat) (hi:i < l.length):i∈ord:=(rA l.length ord hE.nodup hE.lt).2 hE.len i hi
theorem EOkW.kP {a:List Nat} {j:Nat} {b:List Nat} (he:ord=a++j::b):∀i∈eo bef j,i∈a:=by
 have hc:∀m∈a,∀d∈deps.getD m [],d∈a:=fun m hm d hd=>by
  obtain ⟨a1,a2,rfl⟩:=List.append_of_mem hm;have:=hE.ahead a1 m (a2++j::b) (by rw [he]; simp) d hd;simp [this]
 exact hE.closed hc hE.mem (a.length+1) a j b (by omega) he (fun d hd=>hE.ahead a j b he d hd)
theorem EOkW.mi {j:Nat} (hj:j < l.length):j∉eo bef j:=fun h=>by
 obtain ⟨a,b,he⟩:=List.append_of_mem (hE.mem j hj);have h1:=hE.kP he j h;have:=hE.nodup;rw [he] at this;have:=(List.nodup_append.1 this).2.2 j h1 j (by simp);exact this rfl
theorem qZ {i:Nat} {x:St} {e:Nat} {v:V} {σ':af} (hi:i < l.length) (he:e < l.length) (hne:i≠e) (hu:∀d,(bn l e).dst=some d→d∉(bn l i).jV)
 (hq:∀v,QY P (bn l i) x.s x.σ v→QY P (bn l i) x.s σ' v) (h:QYd P (bn l i) x):QYd P (bn l i) ⟨aW x.s (bn l e).dst v,σ'⟩:=by
 unfold QYd at *;have hq':∀v',QY P (bn l i) x.s x.σ v'→QY P (bn l i) (aW x.s (bn l e).dst v) σ' v':=fun v' hv=>(eY hu).2 (hq v' hv);cases hd:(bn l i).dst with
 | none=>rw [hd] at h; obtain ⟨v',h⟩:=h; exact ⟨v',hq' v' h⟩
 | some d =>
   rw [hd] at h;simp only at h ⊢;have:aW x.s (bn l e).dst v d=x.s d:=by
    have:=hE.dsts i e hi he hne d hd;cases hde:(bn l e).dst with
    | none=>rfl
    | some d' =>
      rw [hde] at this;simp only [aW];rw [if_neg (fun e'=>this (by rw [e']))]
   rw [this];exact hq' _ h
theorem iU.adv {L:List Nat} {y:St}:∀ {rest done:List Nat} {x:St},iU P l deps bef ord K L y done rest x →
 ∃done' rest' x',iU P l deps bef ord K L y done' rest' x'∧∀h r,rest'=h::r→cX l bef h=true
 | [],done,x,h=>⟨done,[],x,h,by simp⟩
 | e::rest,done,x,h=>by
   cases heff:cX l bef e with
   | true=>exact ⟨done,e::rest,x,h,fun a r he=>by cases he; exact heff⟩
   | false =>
     have hel:e < l.length:=hE.lt e (by rw [h.split]; simp);obtain ⟨hk,hself⟩:=gb heff hel (hE.mi hel);have hnd:=hE.nodup;rw [h.split] at hnd;have hed:e∉done:=fun hm=>(List.nodup_append.1 hnd).2.2 e hm e (by simp) rfl;have heL:e∉L:=fun hm=>hed (h.sub e hm);have hgo:=h.go;rw [dN,BL hel,CD,if_neg (by simp [heff]),List.nil_append] at hgo;have hT:T P (bn l e) x (RE P l K (dN l bef (done++[e]) rest)):=by
      rcases hgo with hgo | ⟨_,hgo⟩
      ·exact hgo
      ·exfalso;revert hgo hk;generalize (bn l e).op=op;intro hk hgo;split at hgo
       ·simp [bp] at hk
       ·exact hgo
     obtain ⟨v,hv,hgo'⟩:=(bW (by simp [eM,hk])).1 hT;refine iU.adv (rest:=rest) (done:=done++[e]) (x:=⟨aW x.s (bn l e).dst v,x.σ⟩) ⟨by rw [h.split]; simp,fun i hi=>by simp [h.sub i hi],h.nodup,h.closed,fun i hi hie=>?_,h.store,fun d hd=>?_,fun i hi hiL=>?_,hgo'⟩
     ·rcases List.mem_append.1 hi with hi | hi
      ·exact h.effs i hi hie
      ·simp only [List.mem_singleton] at hi; rw [hi,heff] at hie; cases hie
     ·have h1:=h.slot d fun i hi hiL=>hd i (by simp [hi]) hiL;have h2:=hd e (by simp) heL;rw [h1];simp only;cases hde:(bn l e).dst with
      | none=>rfl
      | some d' =>
        rw [hde] at h2;simp only [aW];rw [if_neg (fun e'=>h2 (by rw [e']))]
     ·by_cases hie:i=e
      ·subst hie;unfold QYd;cases hd:(bn l i).dst with
       | none=>exact ⟨v,hv⟩
       | some d =>
         simp only;have e1:aW x.s (some d) v d=v:=by simp [aW]
         rw [e1];exact (eY (fun t ht=>by cases ht; exact hself d hd)).2 hv
      ·have hid:i∈done:=by
        rcases List.mem_append.1 hi with hi | hi
        ·exact hi
        ·simp only [List.mem_singleton] at hi; exact absurd hi hie
       have hil:i < l.length:=hE.lt i (by rw [h.split]; simp [hid]);refine qZ hE hil hel hie (fun d hd hu=>?_) (fun v hv=>hv) (h.lag i hid hiL);rcases hE.anti i e hil hel hie d hd hu with h1 | ⟨h1,_⟩
       ·obtain ⟨a,b,hab⟩:=List.append_of_mem hid;have h2:=hE.kP (a:=a) (j:=i) (b:=b++e::rest) (by rw [h.split,hab]; simp) e h1;exact hed (by rw [hab]; simp [h2])
       ·rw [heff] at h1; cases h1
end
section
variable {l:List aG} {deps bef:List (List Nat)} {ord:List Nat} {K:St→Prop} (hE:EOk l deps bef ord)
include hE
theorem nR:∀(f:Nat) (L:List Nat) (y:St) (done rest:List Nat) (x:St),f+L.length=l.length→iU P l deps bef ord K L y done rest x→gC P l deps K f L y:=by
 intro f
 induction f with
 | zero =>
   intro L y done rest x hf h;have hall:∀i,i < l.length→i∈L:=(rA l.length L h.nodup fun i hi=>hE.lt i (by rw [h.split]; simp [h.sub i hi])).2 (by omega);have hnd:=hE.nodup;rw [h.split] at hnd;have hrest:rest=[]:=by
    cases rest with
    | nil=>rfl
    | cons e r =>
      exfalso;have hel:e < l.length:=hE.lt e (by rw [h.split]; simp);exact (List.nodup_append.1 hnd).2.2 e (h.sub e (hall e hel)) e (by simp) rfl
   subst hrest;have hyx:y=x:=by
    obtain ⟨s,σ⟩:=y;obtain ⟨s',σ'⟩:=x;have h1:σ=σ':=h.store;have h2:s=s':=funext fun d=>h.slot d fun i hi hiL=>absurd (hall i (hE.lt i (by rw [h.split]; simp [hi]))) hiL;rw [h1,h2]
   refine ⟨?_,by rw [hyx]; exact h.go⟩;unfold dq;rw [List.filter_eq_nil_iff];intro i hi;simp only [List.mem_range,hE.dlen] at hi;simp [hall i hi]
 | succ f ih =>
   intro L y done rest x hf h;obtain ⟨done,rest,x,h,hhead⟩:=iU.adv hE.toEOkW h;have hnd:=hE.nodup;rw [h.split] at hnd;have hmemL:∀i∈L,i < l.length:=fun i hi=>hE.lt i (by rw [h.split]; simp [h.sub i hi]);have key:tz P l (gC P l deps K f) L y (dq deps L):=by
    refine ov fun i hi=>?_;obtain ⟨hil,hiL,hdep⟩:=sZ hi;rw [hE.dlen] at hil;refine ⟨bn l i,by simp [bn,List.getElem?_eq_getElem hil],?_⟩;obtain ⟨pa,pb,hpe⟩:=List.append_of_mem (hE.mem i hil);have hbefL:∀j∈eo bef i,j∈L:=hE.closed h.closed hE.mem (pa.length+1) pa i pb (by omega) hpe hdep;have huses:∀u∈(bn l i).jV,x.s u=y.s u:=fun u hu=>(h.slot u fun j hj hjL hd=>by
     have hjl:j < l.length:=hE.lt j (by rw [h.split]; simp [hj]);by_cases hji:j=i
     ·subst hji;cases hje:cX l bef j with
      | true=>exact hjL (h.effs j hj hje)
      | false=>exact (gb hje hjl (hE.mi hjl)).2 u hd hu
     ·rcases hE.anti i j hil hjl (fun e=>hji e.symm) u hd hu with h1 | ⟨h1,_⟩
      ·exact hjL (hbefL j h1)
      ·exact hjL (h.effs j hj h1)).symm
    by_cases hid:i∈done
    ·have hie:cX l bef i=false:=by
      cases hie:cX l bef i with
      | false=>rfl
      | true=>exact absurd (h.effs i hid hie) hiL
     obtain ⟨hk,_⟩:=gb hie hil (hE.mi hil);have hq:=h.lag i hid hiL;obtain ⟨v,hv,hvd⟩:∃v,QY P (bn l i) x.s x.σ v∧∀d,(bn l i).dst=some d→x.s d=v:=by
      unfold QYd at hq;cases hd:(bn l i).dst with
      | none=>rw [hd] at hq; obtain ⟨v,hq⟩:=hq; exact ⟨v,hq,by simp⟩
      | some d=>rw [hd] at hq; exact ⟨_,hq,fun d' e=>by cases e; rfl⟩
     refine .inl ((bW (by simp [eM,hk])).2 ⟨v,?_,?_⟩)
     ·rw [h.store]; exact zu huses hv
     ·refine ih (i::L) _ done rest x (by simp only [List.length_cons]; omega) ⟨h.split,fun j hj=>?_,List.nodup_cons.2 ⟨hiL,h.nodup⟩,fun m hm d hd=>?_,fun j hj hje=>by simp [h.effs j hj hje],h.store,fun d hd=>?_,fun j hj hjL=>h.lag j hj (fun hm=>hjL (by simp [hm])),h.go⟩
      ·rcases List.mem_cons.1 hj with rfl | hj
       ·exact hid
       ·exact h.sub j hj
      ·rcases List.mem_cons.1 hm with rfl | hm
       ·simp [hdep d hd]
       ·simp [h.closed m hm d hd]
      ·simp only;by_cases hdi:(bn l i).dst=some d
       ·rw [hdi];simp only [aW];rw [if_pos trivial];exact (hvd d hdi).symm
       ·have h1:=h.slot d fun j hj hjL=>by
         by_cases hji:j=i
         ·rw [hji]; exact hdi
         ·exact hd j hj (by simp [hji,hjL])
        rw [←h1];cases hde:(bn l i).dst with
        | none=>rfl
        | some d' =>
          rw [hde] at hdi;simp only [aW];rw [if_neg (fun e'=>hdi (by rw [e']))]
    ·have hir:i∈rest:=by
      have:=hE.mem i hil;rw [h.split] at this;exact (List.mem_append.1 this).resolve_left hid
     obtain ⟨hd0,rr,rfl⟩:∃a r,rest=a::r:=by
      cases rest with
      | nil=>cases hir
      | cons a r=>exact ⟨a,r,rfl⟩
     have heff:=hhead hd0 rr rfl;have hh0:hd0∉done:=fun hm=>(List.nodup_append.1 hnd).2.2 hd0 hm hd0 (by simp) rfl;have hih:i=hd0:=by
      rcases List.mem_cons.1 hir with e | hir
      ·exact e
      ·exfalso;have:=hE.effs (done++[hd0]) rr hd0 i (by rw [h.split]; simp) (by simp) hir heff;exact hh0 (h.sub _ (hbefL _ this))
     subst hih;have hgo:=h.go;rw [dN,BL hil] at hgo;refine xQ huses h.store.symm (fun r σ' hK=>?_) hgo;rw [CD,if_pos heff] at hK;obtain ⟨hck,hgo'⟩:=qR (fun k=>!(cX l bef k) && (!(jt (bn l k).op) && !((eo bef i).contains k))) (fun j hj=>hE.lt j (by rw [h.split]; simp [hj])) hK;refine ih (i::L) _ (done++[i]) rr ⟨aW x.s (bn l i).dst r,σ'⟩ (by simp only [List.length_cons]; omega) ⟨by rw [h.split]; simp,fun j hj=>?_,List.nodup_cons.2 ⟨hiL,h.nodup⟩,fun m hm d hd=>?_,fun j hj hje=>?_,rfl,fun d hd=>?_,fun j hj hjL=>?_,hgo'⟩
     ·rcases List.mem_cons.1 hj with rfl | hj
      ·simp
      ·simp [h.sub j hj]
     ·rcases List.mem_cons.1 hm with rfl | hm
      ·simp [hdep d hd]
      ·simp [h.closed m hm d hd]
     ·rcases List.mem_append.1 hj with hj | hj
      ·simp [h.effs j hj hje]
      ·simp only [List.mem_singleton] at hj; simp [hj]
     ·have h1:(bn l i).dst=some d∨y.s d=x.s d:=by
       by_cases hdi:(bn l i).dst=some d
       ·exact .inl hdi
       ·exact .inr (h.slot d fun j hj hjL=>hd j (by simp [hj]) (by
         simp only [List.mem_cons,not_or];exact ⟨fun e=>hid (e ▸ hj),hjL⟩))
      simp only;cases hde:(bn l i).dst with
      | none=>rw [hde] at h1; exact h1.resolve_left (by simp)
      | some d' =>
        simp only [aW];split
        ·rfl
        ·rename_i hne;rw [hde] at h1;exact h1.resolve_left (fun e=>hne (by cases e; rfl))
     ·have hjd:j∈done:=by
       rcases List.mem_append.1 hj with hj | hj
       ·exact hj
       ·simp only [List.mem_singleton] at hj; exact absurd (by simp [hj]) hjL
      have hjL':j∉L:=fun hm=>hjL (by simp [hm]);have hjl:j < l.length:=hE.lt j (by rw [h.split]; simp [hjd]);have hji:j≠i:=fun e=>hid (e ▸ hjd);have hje:cX l bef j=false:=by
       cases hje:cX l bef j with
       | false=>rfl
       | true=>exact absurd (h.effs j hjd hje) hjL'
      cases hsf:jt (bn l j).op with
      | true =>
        refine qZ hE.toEOkW hjl hil hji (fun d hd hu=>?_) (fun v hv=>jj hsf hv) (h.lag j hjd hjL');rcases hE.anti j i hjl hil hji d hd hu with h1 | ⟨_,h1⟩
        ·obtain ⟨a,b,hab⟩:=List.append_of_mem hjd;have h2:=hE.kP (a:=a) (j:=j) (b:=b++i::rr) (by rw [h.split,hab]; simp) i h1;exact hid (by rw [hab]; simp [h2])
        ·exact hjL' (hbefL j h1)
      | false =>
        refine hck j hjd ?_;simp only [hje,hsf,Bool.not_false,Bool.true_and,Bool.not_eq_true'];cases hc:(eo bef i).contains j with
        | false=>rfl
        | true=>exact absurd (hbefL j (List.contains_iff_mem.1 hc)) hjL'
   cases hr:dq deps L with
   | cons a r=>unfold gC; rw [hr] at key ⊢; exact key
   | nil =>
     exfalso;have:∃i,i∈ord∧i∉L:=by
      by_cases hx:∃i,i∈ord∧i∉L
      ·exact hx
      ·exfalso;have hsub:∀i∈ord,i∈L:=fun i hi=>Classical.byContradiction fun hn=>hx ⟨i,hi,hn⟩;have h1:=hE.nodup.length_le_of_subset hsub;have:=hE.len;omega
     obtain ⟨i,hi,hiL⟩:=this;have first:∀(a b:List Nat),ord=a++b→(∀j∈a,j∈L)→(∃i∈b,i∉L)→∃a' e b',ord=a'++e::b'∧(∀j∈a',j∈L)∧e∉L:=by
      intro a b
      induction b generalizing a with
      | nil=>rintro _ _ ⟨i,h,_⟩; cases h
      | cons e b ihb =>
        intro he ha hx;by_cases heL:e∈L
        ·refine ihb (a++[e]) (by rw [he]; simp) (fun j hj=>?_) ?_
         ·rcases List.mem_append.1 hj with hj | hj
          ·exact ha j hj
          ·simp only [List.mem_singleton] at hj; rw [hj]; exact heL
         ·obtain ⟨i,hi,hiL⟩:=hx;rcases List.mem_cons.1 hi with rfl | hi
          ·exact absurd heL hiL
          ·exact ⟨i,hi,hiL⟩
        ·exact ⟨a,e,b,he,ha,heL⟩
     obtain ⟨a,e,b,he,ha,heL⟩:=first [] ord rfl (by simp) ⟨i,hi,hiL⟩
     have hel:e < l.length:=hE.lt e (by rw [he]; simp);have:e∈dq deps L:=by
      unfold dq;refine List.mem_filter.2 ⟨by simp [hE.dlen,hel],?_⟩;simp only [Ba,Bool.not_eq_true',List.all_eq_true];refine ⟨by simpa using heL,fun d hd=>?_⟩;simpa using ha d (hE.ahead a e b he d hd)
     rw [hr] at this;cases this
end
theorem ad.qK (hm:P.follows .mixedOrders=true) {l:List aG} {deps:List (List Nat)} (ord:List Nat) (bef:List (List Nat)) (its:List Nat) (hB:eOk l deps bef ord=true) (hi:dN l bef [] ord=its)
 (h:RE P l (fun x=>ad P n k x Q) its st):ad P n (.code (.regA l deps)::k) st Q:=by
 have hE:=xr hB;refine ad.Ij hm (nR hE l.length [] st [] ord st (by simp) ⟨rfl,by simp,List.nodup_nil,by simp,by simp,rfl,fun _ _=>rfl,by simp,by rw [hi]; exact h⟩)
theorem RE.seg {l:List aG} {K:St→Prop} (rest:List Nat):∀(idx:List Nat) (sg:List aG) {x:St},(idx.map fun m=>l[m / 2]?)=sg.map some→(idx.all fun m=>m % 2 == 0)=true →
 Go P n (.d sg [.stop (RE P l K rest)]) x (fun _=>False)→RE P l K (idx++rest) x
 | [],[],_,_,_,h=>h
 | [],_::_,_,h,_,_=>by simp at h
 | _::_,[],_,h,_,_=>by simp at h
 | m::idx,i::sg,x,h,hev,hg=>by
   simp only [List.map_cons,List.cons.injEq] at h;simp only [List.all_cons,Ba,beq_iff_eq] at hev;show RE P l K (m::(idx++rest)) x;rw [RE,h.1];simp only [if_pos hev.1];exact .inl (T.mono (fun x' hx'=>RE.seg rest idx sg h.2 (by simpa using hev.2) hx') hg)
theorem RE.call {l:List aG} {K:St→Prop} {m:Nat} {rest:List Nat} {x:St} {i:aG} (hi:l[m / 2]?=some i) (hm:m % 2=0) {fx:VX} {xs:List VX} (hw:bl x.s i.g=some true) (ho:i.op=.call fx xs) {f:FuncId} {caps:List V} (hf:fx.ev x.s=.fn f caps)
 {Post:V→af→Prop} (hc:av P f (xs.map (·.ev x.s)++caps) x.σ Post) (h:∀r σ',Post r σ'→RE P l K rest ⟨aW x.s i.dst r,σ'⟩):RE P l K (m::rest) x:=by
 rw [RE,hi];simp only [if_pos hm];exact .inr ⟨hw,by rw [ho]; exact ⟨f,caps,Post,hf,hc,h⟩⟩
theorem RE.az {l:List aG} {K:St→Prop} {m:Nat} {rest:List Nat} {x:St} {i:aG} (hi:l[m / 2]?=some i) (hm:m % 2=0) {fx:VX} {xs:List VX} (hw:bl x.s i.g=some true) (ho:i.op=.call fx xs) {f:FuncId} {caps:List V} (hf:fx.ev x.s=.fn f caps)
 {v:V} (hc:av P f (xs.map (·.ev x.s)++caps) x.σ fun r σ'=>r=v∧σ'=x.σ) (h:RE P l K rest ⟨aW x.s i.dst v,x.σ⟩):RE P l K (m::rest) x :=
 RE.call hi hm hw ho hf hc fun r σ' ⟨h1,h2⟩=>by subst h1; subst h2; exact h
theorem RE.chk {l:List aG} {K:St→Prop} {m:Nat} {rest:List Nat} {x:St} {i:aG} (hi:l[m / 2]?=some i) (hm:m % 2=1) {d:Nat} (hd:i.dst=some d) (hw:bl x.s i.g=some true) (hk:bp i.op=0) (hp:eP x.s i.op)
 (hv:aE x.σ x.s i.op=some (x.s d)) (h:RE P l K rest x):RE P l K (m::rest) x:=by
 rw [RE,hi];simp only [hm,Nat.one_ne_zero,if_false];refine ⟨?_,h⟩;unfold QYd;rw [hd];refine .inl ⟨hw,?_⟩;unfold QO;simp only [hk];exact ⟨hp,hv⟩
variable {P:Program} {n:Nat} {st:St} {Q:St→Prop} {k:List It}
theorem ad.Nl {k1 k2:List It} (J:St→Prop) (h1:ad P n (k1++[.stop J]) st Q) (h2:∀st,J st→ad P n k2 st Q):ad P n (k1++k2) st Q:=by
 intro F hn kt hk a w hs;obtain ⟨kt1,kt2,rfl,hk1,hk2⟩:=List.map_eq_append_iff.1 hk;have key:∀(kt:List KI) e a w,j5 P F Q (kt++[.stop J]) e a w→j5 P F Q (kt++kt2) e a w:=by
  intro kt
  induction kt with
  | nil =>
    intro e a w h;simp only [List.nil_append] at h ⊢;cases e with
    | normal=>obtain ⟨st,h3,h4⟩:=h; exact h2 st h3 F hn kt2 hk2 a w h4
    | ret=>obtain ⟨_,h3⟩:=h; exact kc h3 kt2
    | _=>obtain ⟨h3,_⟩:=h; rcases h3 with h3 | h3 <;> cases h3
  | cons y kt ih =>
    intro e a w h;cases y with
    | code c=>cases e <;> first | exact wpIn_mono h ih | exact ih _ _ _ h
    | inBlock id =>
      cases e <;> simp only [List.cons_append,j5,Exit.inBlock] at h ⊢ <;> (try split at h) <;> (try split) <;> first | exact ih _ _ _ h | contradiction
    | stop I=>cases e <;> first | exact h | exact ih _ _ _ h
    | ops all l=>cases e <;> first | exact kW ih l a w h | exact ih _ _ _ h
 exact key kt1 _ a w (h1 F hn (kt1++[.stop J]) (by simp [KI.it,hk1]) a w hs)
theorem ad.eD {x:bx} {id:Nat} (J:St→Prop) (I:Nat→St→Prop) (m:Nat) (h0:I m st)
 (hr:∀m st,I m st→ad P n (.code x::.stop (fun st'=>∃m',m' < m∧I m' st')::[.inBlock id, .stop J]) st Q) (h2:∀st,J st→ad P n k st Q) :
 ad P n (.code (.loop x)::.inBlock id::k) st Q :=
 ad.Nl (P:=P) (n:=n) (Q:=Q) (st:=st) (k1:=[.code (.loop x), .inBlock id]) (k2:=k) J (ad.loop I m h0 hr) h2
open Go.Proofs Go.Proofs.Tryz
theorem Hb {f:Flo} {s:Spn} (hf:f.ok) (h:Bq2 s.a∧Bq2 s.b):Bq2 (jo f s).a∧Bq2 (jo f s).b:=by
 obtain ⟨⟨x1,x2⟩,_,⟨w1,w2⟩,_⟩:=hf;obtain ⟨⟨a1,a2⟩,b1,b2⟩:=h;unfold jo;split
 ·exact ⟨⟨by simp only; omega,by simp only; omega⟩,b1,b2⟩
 ·exact ⟨⟨a1,a2⟩,by simp only; omega,by simp only; omega⟩
theorem xi:∀ {l:List Flo} {s:Spn},(∀f∈l,f.ok)→Bq2 s.a∧Bq2 s.b→Bq2 (l.foldl (fun s f=>jo f s) s).a∧Bq2 (l.foldl (fun s f=>jo f s) s).b
 | [],_,_,h=>h
 | f::l,s,hl,h=>xi (l:=l) (fun g hg=>hl g (by simp [hg])) (Hb (hl f (by simp)) h)
theorem lC {l:List Flo} {y high:Int} {s:Spn} (hl:∀f∈l,f.ok) (h:Bq2 s.a∧Bq2 s.b):Bq2 (dx l y high s).a∧Bq2 (dx l y high s).b :=
 xi (fun f hf=>hl f (List.mem_filter.1 hf).1) h
theorem se {s:Spn}:∀ {l:List Flo},(∀f∈l,jo f s=s)→l.foldl (fun s f=>jo f s) s=s
 | [],_=>rfl
 | f::l,h=>by rw [List.foldl_cons,h f (by simp)]; exact se fun g hg=>h g (by simp [hg])
theorem mZ (s:Spn):∀(l:List Flo) (a:Int×Bool),(l.foldl (ji s) a=a∨∃f∈l,l.foldl (ji s) a=(f.y+f.h,true))∧(a.2=true→(l.foldl (ji s) a).2=true)∧((∃f∈l,jo f s≠s)→(l.foldl (ji s) a).2=true)
 | [],a=>⟨.inl rfl,id,by simp⟩
 | f::l,a=>by
   obtain ⟨h1,h2,h3⟩:=mZ s l (ji s a f);have hf:ji s a f=a∨ji s a f=(f.y+f.h,true):=by unfold ji; split <;> simp
   refine ⟨?_,fun ha=>h2 ?_,?_⟩
   ·rw [List.foldl_cons];rcases h1 with h1 | ⟨g,hg,h1⟩
    ·rw [h1];rcases hf with hf | hf
     ·exact .inl hf
     ·exact .inr ⟨f,by simp,hf⟩
    ·exact .inr ⟨g,by simp [hg],h1⟩
   ·rcases hf with hf | hf <;> rw [hf]
    exact ha
   ·rintro ⟨g,hg,hne⟩;rcases List.mem_cons.1 hg with rfl | hg
    ·refine h2 ?_;unfold ji;split
     ·rename_i h; exact (h.resolve_left hne).1
     ·rfl
    ·exact h3 ⟨g,hg,hne⟩
theorem C9 {y high:Int} {f:Flo} (h:gU y high f=true):y < f.y+f.h:=by
 refine Classical.byContradiction fun hn=>?_;have:mT ⟨f.y,f.y+f.h⟩ ⟨y,y+max high 1⟩=⟨0,0⟩:=by
  unfold mT;rw [if_pos];simp only;omega
 simp [gU,this] at h
theorem gS {l:List Flo} {y high:Int} {s:Spn} (h:(fO l y high s).2=true):∃f∈l,y < f.y+f.h∧(fO l y high s).1=f.y+f.h:=by
 rcases (mZ s (l.filter (gU y high)) (0,false)).1 with h1 | ⟨f,hf,h1⟩
 ·unfold fO at h; rw [h1] at h; cases h
 ·obtain ⟨hl,hm⟩:=List.mem_filter.1 hf;exact ⟨f,hl,C9 hm,by unfold fO; rw [h1]⟩
theorem ny {l:List Flo} {y high:Int} {s:Spn} (h:dx l y high s≠s):(fO l y high s).2=true:=by
 refine (mZ s (l.filter (gU y high)) (0,false)).2.2 (Classical.byContradiction fun hn=>h (se fun f hf=>Classical.byContradiction fun he=>hn ⟨f,hf,he⟩))
def gtJ (l:List Flo) (y:Int):Nat:=(l.filter fun f=>decide (y < f.y+f.h)).length
theorem filter_lt {α:Type} {p q:α→Bool} (hpq:∀x,q x=true→p x=true):∀ {l:List α},(l.filter q).length≤(l.filter p).length∧((∃x∈l,p x=true∧q x=false)→(l.filter q).length < (l.filter p).length)
 | []=>by simp
 | a::l=>by
   obtain ⟨h1,h2⟩:=filter_lt hpq (l:=l);cases hp:p a <;> cases hq:q a
   ·simp only [List.filter_cons,hp,hq,Bool.false_eq_true,if_false];refine ⟨h1,?_⟩;rintro ⟨x,hx,h3,h4⟩;rcases List.mem_cons.1 hx with rfl | hx
    ·rw [hp] at h3; cases h3
    ·exact h2 ⟨x,hx,h3,h4⟩
   ·rw [hpq a hq] at hp; cases hp
   ·simp only [List.filter_cons,hp,hq,Bool.false_eq_true,if_false,if_true,List.length_cons];exact ⟨by omega,fun _=>by omega⟩
   ·simp only [List.filter_cons,hp,hq,if_true,List.length_cons];refine ⟨by omega,?_⟩;rintro ⟨x,hx,h3,h4⟩;rcases List.mem_cons.1 hx with rfl | hx
    ·rw [hq] at h4; cases h4
    ·have:=h2 ⟨x,hx,h3,h4⟩; omega
theorem vv {l:List Flo} {y z:Int} (h:∃f∈l,y < f.y+f.h∧z=f.y+f.h):gtJ l z < gtJ l y:=by
 obtain ⟨f,hf,h1,rfl⟩:=h;exact (filter_lt (p:=fun g:Flo=>decide (y < g.y+g.h)) (q:=fun g:Flo=>decide (f.y+f.h < g.y+g.h)) (fun g hg=>by simp at hg ⊢; omega) (l:=l)).2 ⟨f,hf,by simpa using h1,by simp⟩
def uh (l:List Flo) (w high:Int) (s:Spn) (y:Int):Bool:=decide (w≤jk (dx l y high s)) || decide (dx l y high s=s)
def nz (l:List Flo) (w high:Int) (s:Spn):Nat→Int→Int
 | 0,y=>y
 | k+1,y=>if uh l w high s y then y else nz l w high s k (fO l y high s).1
def jS (l:List Flo) (w high:Int) (s:Spn) (y:Int):Int:=nz l w high s l.length y
theorem F1 {l:List Flo} {y high:Int} {s:Spn} (hl:∀f∈l,f.ok) (h:(fO l y high s).2=true):Bq2 (fO l y high s).1:=by
 obtain ⟨f,hf,_,e⟩:=gS h;obtain ⟨_,⟨a1,a2⟩,_,b1,b2⟩:=hl f hf;rw [e]; exact ⟨by omega,by omega⟩
def qx (l:List Flo) (high y:Int) (s:Spn):V:=.agg [vI s.a,vI s.b,aK l,vI high,vI y]
theorem BA (l:List Flo) (high y:Int) (s:Spn) (hl:l.length≤1000000) (hok:∀f∈l,f.ok) (hy:Bq2 y) (hh:Bq high):aV prog 162 [qx l high y s] (aZ (dx l y high s)):=fun σ=>by
 refine MY.r (by simp [JS]) ?_;have hs:=aa.refl σ;refine ad.mix 3 ?_;have e1:(aK l).cells=[aK l]:=rfl;have e2:(aK l).stays=true:=rfl;apply sR;simp only [go_sem,seval,JS,qx,e1,e2];refine ae fun i1 σ1 s1 a1 f1=>?_;have z1:=hs.none f1;replace hs:=hs.trans s1;simp only [go_sem,seval,a1,e1,e2];refine ae fun i2 σ2 s2 a2 f2=>?_;have n12:=ao a1 f2;replace a1:=s2 _ _ a1;have z2:=hs.none f2;replace hs:=hs.trans s2;simp only [go_sem,seval,a2,a1];refine ad.az rfl rfl rfl (BU l y high s hl hok hy hh _) ?_;apply sR;simp only [go_sem,seval,a2,aZ];exact au.pure (hs.aD z2) rfl
theorem GF (l:List Flo) (w high y:Int) (s:Spn) (hl:l.length≤1000000) (hok:∀f∈l,f.ok) (hy:Bq2 y) (hh:Bq high) (hs1:Bq2 s.a∧Bq2 s.b):aV prog 160 [qx l high y s,vI w] (.bool (uh l w high s y)):=fun σ=>by
 refine Of.r (by simp [Iv]) ?_;have hs:=aa.refl σ;refine ad.mix 5 ?_;have hb:=BA l high y s hl hok hy hh;have hlen:=Dv (dx l y high s) (lC hok hs1).1 (lC hok hs1).2;unfold uh;generalize dx l y high s=b at *;have e1:(aK l).cells=[aK l]:=rfl;have e2:(aK l).stays=true:=rfl;apply sR;simp only [go_sem,seval,Iv,qx,e1,e2];refine ae fun i2 σ2 s2 a2 f2=>?_;have z2:=hs.none f2;replace hs:=hs.trans s2;simp only [go_sem,seval,a2,e1,e2];refine Go.ct rfl rfl rfl hb ?_;apply sG;simp only [go_sem,seval];refine Go.ct rfl rfl rfl hlen ?_;by_cases h1:w≤jk b
 ·have q:(w≤jk b)=True:=eq_true h1;apply sG;simp only [go_sem,seval,q,a2];exact au.pure hs (by simp [h1])
 ·have q:(w≤jk b)=False:=eq_false h1;apply sG;simp only [go_sem,seval,q,a2];refine Go.ct rfl rfl rfl hb ?_;obtain ⟨b1,b2⟩:=b;obtain ⟨s1,s2⟩:=s;apply sG;simp only [go_sem,seval,a2,aZ];refine au.pure hs ?_;by_cases h2:b1=s1 <;> by_cases h3:b2=s2 <;> simp [h1,h2,h3]
theorem Ed (l:List Flo) (w high y:Int) (s:Spn) (hl:l.length≤1000000) (hok:∀f∈l,f.ok) (hy:Bq2 y) (hh:Bq high) (hs1:Bq2 s.a∧Bq2 s.b) :
 aV prog 119 [aK l,vI w,vI high,vI y,aZ s] (.tup [aZ (dx l (jS l w high s y) high s),vI (jS l w high s y)]):=fun σ=>by
 refine NW.r (by simp [KJ]) ?_;have hs:=aa.refl σ;refine ad.mix 13 ?_;have e1:(aK l).cells=[aK l]:=rfl;have e2:(aK l).stays=true:=rfl;apply sR;simp only [go_sem,seval,KJ,aZ];refine ae fun i9 σ9 s9 a9 f9=>?_;have z9:=hs.none f9;replace hs:=hs.trans s9;simp only [go_sem,seval,a9];refine ae fun i10 σ10 s10 a10 f10=>?_;have n910:=ao a9 f10;replace a9:=s10 _ _ a9;have z10:=hs.none f10;replace hs:=hs.trans s10;simp only [go_sem,seval,a10,a9,e1,e2];refine ae fun i12 σ12 s12 a12 f12=>?_;have n912:=ao a9 f12;replace a9:=s12 _ _ a9;have n1012:=ao a10 f12;replace a10:=s12 _ _ a10;have z12:=hs.none f12;replace hs:=hs.trans s12;simp only [go_sem,seval,a12,a10,a9,e1,e2];generalize hq12:upd _ i12 _=τ12;replace a12:=(congrFun hq12 i12).symm.trans ag;replace a9:=((congrFun hq12 i9).symm.trans (ab n912)).trans a9;replace a10:=((congrFun hq12 i10).symm.trans (ab n1012)).trans a10;replace hs:=Eq.subst (motive:=aa _) hq12 (hs.aD z12);clear hq12;obtain ⟨z,hz⟩:∃z,z=jS l w high s y:=⟨_,rfl⟩
 rw [←hz];refine ad.eD (fun st=>∃τ,st.σ=τ∧aa σ τ∧τ i12=some ⟨268,5,[qx l high z s]⟩∧τ i10=some ⟨206,2,[.agg [vI 0,vI 0]]⟩∧st.s 10=.ptr i10 0 0∧st.s 12=.ptr i12 0 0∧Bq2 z)
  (fun m st=>∃(y':Int) (k:Nat),m=gtJ l y'∧gtJ l y'≤k∧z=nz l w high s k y'∧Bq2 y'∧aa σ st.σ∧st.σ i12=some ⟨268,5,[qx l high y' s]⟩∧st.σ i10=some ⟨206,2,[.agg [vI 0,vI 0]]⟩∧st.s 1=vI w∧st.s 10=.ptr i10 0 0∧st.s 12=.ptr i12 0 0) (gtJ l y) ?_ ?_ ?_
 ·exact ⟨y,l.length,rfl,List.length_filter_le _ _,hz,hy,hs,a12,a10,rfl,rfl,rfl⟩
 ·rintro m ⟨S,τ⟩ ⟨y',k,rfl,hk,hzk,hy',hs,b12,b10,k1,k10,k12⟩;simp only at hs b12 b10 k1 k10 k12;refine ad.mix 13 ?_;rw [qx] at b12;apply sR;simp only [go_sem,seval,k1,k10,k12,b12,e1,e2];refine ad.az rfl rfl rfl (GF l w high y' s hl hok hy' hh hs1 _) ?_;cases hf:uh l w high s y'
  ·have hne:dx l y' high s≠s:=fun e=>by simp [uh,e] at hf
   have hfd:=ny hne;have hdec:=vv (gS hfd);apply sR;simp only [go_sem,seval,k1,k10,k12,b12,e1,e2];refine ad.az rfl rfl rfl (Fi l y' high s hl hok hy' hh _) ?_;apply sR;simp only [go_sem,seval,k1,k10,k12,b12,e1,e2];obtain ⟨k',rfl⟩:∃k',k=k'+1:=⟨k - 1,by omega⟩
   rw [nz,hf] at hzk;have n:i12≠i10:=n1012.symm;refine ⟨_,hdec,_,k',rfl,by omega,by simpa using hzk,F1 hok hfd,hs.aD z12,rfl,?_⟩;rw [ab n1012]; exact b10
  ·have hzy:z=y':=by cases k <;> simp [nz,hf] at hzk <;> exact hzk
   subst hzy;apply sR;simp only [go_sem,seval,k1,k10,k12,b12,e1,e2];exact ⟨τ,rfl,hs,b12,b10,hy'⟩
 ·rintro ⟨S,τ⟩ ⟨τ',rfl,hs,b12,b10,k10,k12,hz2⟩;simp only at hs b12 b10 k10 k12;rw [qx] at b12;refine ad.mix 13 ?_;apply sR;simp only [go_sem,seval,k10,k12];refine ad.qK (by kernel_rfl) [0,2,3,1,4,5] [[],[0],[],[2],[0,1],[0,1,2,3,4]] [0,4,6,2,7,8,7,10] (by kernel_rfl) (by kernel_rfl) ?_;refine RE.seg (n:=0) [2,7,8,7,10] [0,4,6] [⟨(.some 35),(.load .true 5 (.t 12)),.none⟩,⟨(.some 37),(.fldA .false 4 1 (.t 12)),.none⟩,⟨(.some 38),(.load .false 1 (.t 37)),.none⟩] rfl rfl ?_;apply sG;simp only [go_sem,seval,k10,k12,b12,e1,e2];refine RE.az rfl rfl rfl rfl rfl (BA l high z s hl hok hz2 hh _) ?_;refine RE.chk rfl rfl rfl rfl rfl trivial (by simp only [go_sem,seval,k10,k12,b12,b10,e1,e2]) ?_;refine RE.seg (n:=0) [7,10] [8] [⟨.none,(.store 2 (.t 10) (.t 36)),.none⟩] rfl rfl ?_;apply sG;simp only [go_sem,seval,k10,k12,b12,b10,aZ,e1,e2];refine RE.chk rfl rfl rfl rfl rfl trivial (by simp only [go_sem,seval,k10,k12,b12,b10,ab n1012.symm,e1,e2]) ?_;refine RE.seg (n:=0) [] [10] [⟨(.some 11),(.mov (.t 38)),.none⟩] rfl rfl ?_;apply sG;simp only [go_sem,seval,k10,k12,b12,b10,aZ,e1,e2];apply sR;simp only [go_sem,seval,k10,k12,ag,aZ];exact au.pure (hs.aD z10) rfl
open Go.Proofs Go.Proofs.Tryz
def kZ (e sz b:Nat):VFn:=⟨8,.seq (.reg false [⟨some 2,.mov (.c .aC),none⟩]) (.seq (.seq (.reg false [⟨some 3,.mov (.t 0),none⟩,⟨some 4,.binB false (.t 3) (.c (.iface 0 .undef)),none⟩]) (.cond (.t 4) (.seq (.reg false [⟨some 2,.mov (.c .aC),none⟩]) .ret) .skip)) (.seq (.reg false [⟨some 5,.bf e sz [],none⟩,⟨some 6,.mov (.t 0),none⟩,⟨some 7,.append e sz b (.t 5) (.t 6),none⟩,⟨some 2,.mov (.t 7),none⟩]) .ret)),[.tmp (.t 2)]⟩
theorem si {P:Program} {f:FuncId} {fn:Func} (hf:P.funcs[f]?=some fn) {e sz b:Nat} (hc:cfn P fn=some (kZ e sz b)) (hk:eH P f=true) (rows:List V) (hb:rows.length*(b+1)≤140737488355328) (σ:af) :
 av P f [.sl sz rows] σ fun r σ'=>aa σ σ'∧aM σ σ' e sz r rows:=by
 refine av.l7 hf hc hk (by simp [kZ]) ?_;refine ad.mix 3 ?_
 (refine ad.bD Orc.nothing 8 ?_; simp only [go_sem,seval,nr,kZ])
 refine ad.Cd rfl rfl rfl fun t ht=>?_;cases t
 ·apply sR;simp only [go_sem,seval];refine ae fun id1 σ1 s1 a1 f1=>?_;obtain ⟨idA,hd,hdel⟩:=(aM.new (K:=σ) (e:=e) (sz:=sz) (n:=0) (rows:=[]) rfl a1 f1).dst (aa.refl _);have hsrc:∀σ,bG σ sz (.sl sz rows)=some rows:=fun σ=>by simp [bG]
  simp only [go_sem,seval,hd,hsrc,hb];refine er fun id2 σ2 s2 a2 f2=>?_;have hs2:=(hdel σ (aa.refl _) σ1 s1).trans s2;simp only [go_sem,seval];exact ⟨_,_,aa.refl _,Wk.refl (aa.refl _) _,hs2,aM.new (by simp) a2 (s1.none f2)⟩
 ·apply sR;simp only [go_sem,seval];obtain rfl:rows=[]:=ht rfl;exact ⟨_,_,aa.refl _,Wk.refl (aa.refl _) _,aa.refl _,aM.start⟩
theorem xp {P:Program} {f:FuncId} {fn:Func} (hf:P.funcs[f]?=some fn) {e sz b:Nat} (hc:cfn P fn=some (kZ e sz b)) (hk:eH P f=true) (rows:List V) (hb:rows.length*(b+1)≤140737488355328) :
 aV P f [.sl sz rows] (.sl sz rows):=fun σ=>(si hf hc hk rows hb σ).GG fun _ _ h=>h.2.CZ h.1 rfl
theorem aS (l:List Flo):(aK l).cells=[aK l]:=rfl
theorem aU (l:List Flo):(aK l).stays=true:=rfl
theorem kz {tell:Flo→Int×Bool} {l:List Flo} (h:(dH tell l).2=true):∃f∈l,(dH tell l).1=(tell f).1∧(tell f).2=true:=by
 have key:∀(l:List Flo) (a:Int×Bool),l.foldl (rL tell) a=a∨∃f∈l,l.foldl (rL tell) a=((tell f).1,true)∧(tell f).2=true:=by
  intro l
  induction l with
  | nil=>intro a; exact .inl rfl
  | cons g l ih =>
    intro a;rw [List.foldl_cons];rcases ih (rL tell a g) with h | ⟨f,hf,h,h'⟩
    ·rw [h];unfold rL;split
     ·rename_i hc; exact .inr ⟨g,by simp,rfl,hc.1⟩
     ·exact .inl rfl
    ·exact .inr ⟨f,by simp [hf],h,h'⟩
 rcases key l (0,false) with h1 | ⟨f,hf,h1,h2⟩
 ·unfold dH at h; rw [h1] at h; cases h
 ·exact ⟨f,hf,by unfold dH; rw [h1],h2⟩
def mD (l:List Flo) (w high:Int) (s:Spn) (y:Int):Bool:=!(fO l y high s).2 || decide (jk (dx l y high s)≥w)
def ki (l:List Flo) (w high:Int) (s:Spn):Nat→Int→Int
 | 0,y=>y
 | k+1,y=>if mD l w high s y then y else ki l w high s k (fO l y high s).1
def nQ (l:List Flo) (w high:Int) (s:Spn) (y:Int):Int:=ki l w high s l.length y
def yi (f:Flo) (l:List Flo) (s:Spn):V:=.agg [vI f.node,vI f.side,vI f.anchor,vI f.x,vI f.y,vI f.w,vI f.h,aK l,vI s.a,vI s.b]
theorem Hi (l:List Flo) (f:Flo) (y:Int) (s:Spn) (hl:l.length≤1000000) (hok:∀f∈l,f.ok) (hy:Bq2 y) (hh:Bq f.h) (hs1:Bq2 s.a∧Bq2 s.b) :
 aV prog 196 [yi f l s,vI y] (.tup [aZ (dx l (nQ l f.w f.h s y) f.h s),vI (nQ l f.w f.h s y)]):=fun σ=>by
 refine N0.r (by simp [La]) ?_;have hs:=aa.refl σ;refine ad.mix 9 ?_;apply sR;simp only [go_sem,seval,La,yi,aS,aU];refine ae fun i2 σ2 s2 a2 f2=>?_;have z2:=hs.none f2;replace hs:=hs.trans s2;simp only [go_sem,seval,a2,aS,aU];refine ae fun i4 σ4 s4 a4 f4=>?_;have n24:=ao a2 f4;replace a2:=s4 _ _ a2;have z4:=hs.none f4;replace hs:=hs.trans s4;simp only [go_sem,seval,a4,a2];obtain ⟨z,hz⟩:∃z,z=nQ l f.w f.h s y:=⟨_,rfl⟩
 rw [←hz];refine ad.loop (fun m st=>∃(y':Int) (k:Nat),m=gtJ l y'∧gtJ l y'≤k∧z=ki l f.w f.h s k y'∧Bq2 y'∧aa σ st.σ∧st.σ i2=some ⟨306,10,[yi f l s]⟩∧st.σ i4=some ⟨206,2,[.agg [vI 0,vI 0]]⟩∧st.s 1=vI y'∧st.s 2=.ptr i2 0 0∧st.s 4=.ptr i4 0 0) (gtJ l y) ?_ ?_
 ·exact ⟨y,l.length,rfl,List.length_filter_le _ _,hz,hy,hs,a2,a4,rfl,rfl,rfl⟩
 ·rintro m ⟨S,τ⟩ ⟨y',k,rfl,hk,hzk,hy',hs,b2,b4,k1,k2,k4⟩;simp only at hs b2 b4 k1 k2 k4;refine ad.mix 9 ?_;rw [yi] at b2;have hb:=lC (y:=y') (high:=f.h) hok hs1;apply sR;simp only [go_sem,seval,k1,k2,k4,b2,aS,aU];refine ad.az rfl rfl rfl (BU l y' f.h s hl hok hy' hh _) ?_;apply sR;simp only [go_sem,seval,aZ];refine ae fun i6 σ6 s6 a6 f6=>?_;have n26:=ao b2 f6;have n46:=ao b4 f6;replace b2:=s6 _ _ b2;replace b4:=s6 _ _ b4;have z6:=hs.none f6;replace hs:=hs.trans s6;simp only [go_sem,seval,a6,b2,k1,k2,k4,ab n26,aS,aU];generalize hq:upd _ i6 _=τ6;have a6':=(congrFun hq i6).symm.trans ag;have b2':=((congrFun hq i2).symm.trans (ab n26)).trans b2;have b4':=((congrFun hq i4).symm.trans (ab n46)).trans b4;replace hs:=Eq.subst (motive:=aa _) hq (hs.aD z6);refine ad.az rfl rfl rfl (Fi l y' f.h s hl hok hy' hh _) ?_;have hex:mD l f.w f.h s y'=true→z=y':=fun h=>by cases k <;> simp [ki,h] at hzk <;> exact hzk
  have hlen:=Dv (dx l y' f.h s) hb.1 hb.2;have hgo:mD l f.w f.h s y'=false→∃k',k=k'+1∧gtJ l (fO l y' f.h s).1 < gtJ l y'∧z=ki l f.w f.h s k' (fO l y' f.h s).1∧Bq2 (fO l y' f.h s).1:=fun h=>by
   have h2:(fO l y' f.h s).2=true:=by
    simp only [mD,Bool.or_eq_false_iff,Bool.not_eq_false'] at h; exact h.1
   have hdec:=vv (gS h2);obtain ⟨k',rfl⟩:∃k',k=k'+1:=⟨k - 1,by omega⟩
   rw [ki,h] at hzk;exact ⟨k',rfl,hdec,by simpa using hzk,F1 hok h2⟩
  unfold mD at hex hgo;cases hn:(fO l y' f.h s).2
  ·rw [hn] at hex;obtain rfl:=hex (by simp);apply sR;simp only [go_sem,seval,k1,k2,k4,a6',b4',b2'];exact au.pure (hs.aD z4) rfl
  ·rw [hn] at hex hgo;apply sR;simp only [go_sem,seval,k1,k2,k4,a6',b2'];refine Go.ct rfl rfl rfl hlen ?_;by_cases hw:jk (dx l y' f.h s)≥f.w
   ·have q:(jk (dx l y' f.h s)≥f.w)=True:=eq_true hw;obtain rfl:=hex (by simp [hw]);apply sG;simp only [go_sem,seval,k1,k2,k4,a6',b4',b2',q,aS,aU];exact au.pure (hs.aD z4) rfl
   ·have q:(jk (dx l y' f.h s)≥f.w)=False:=eq_false hw;obtain ⟨k',rfl,h1,h2,h3⟩:=hgo (by simp [hw]);apply sG;simp only [go_sem,seval,k1,k2,k4,a6',b4',b2',q,aS,aU];refine ⟨_,h1,_,k',rfl,by omega,h2,h3,hs,?_⟩;exact ⟨by rw [yi],rfl⟩
structure WOk (ws:List Int) (space:Int):Prop where
 len:ws.length≤100000
 rng:∀x∈ws,0≤x∧x≤1099511627776
 s0:0≤space
 s1:space≤1099511627776
def fG (space:Int):List Int→Nat→Int→List (Nat×Int)
 | [],_,_=>[]
 | x::r,k,n=>(k+1,n+space+x)::fG space r (k+1) (n+space+x)
def nY (space width:Int):List Int→Nat→Int→Nat×Int
 | [],k,n=>(k,n)
 | x::r,k,n=>if n+space+x > width then (k,n) else nY space width r (k+1) (n+space+x)
def jr (ws:List Int) (space width:Int) (i:Nat):Nat×Int:=nY space width (ws.drop (i+1)) (i+1) (ws.getD i 0)
theorem qu (space width:Int):∀(r:List Int) (k:Nat) (n:Int),k≤(nY space width r k n).1∧(nY space width r k n).1≤k+r.length
 | [],k,n=>by simp [nY]
 | x::r,k,n=>by
   rw [nY];split
   ·simp
   ·have:=qu space width r (k+1) (n+space+x);simp only [List.length_cons]; omega
theorem wM {ws:List Int} {space width:Int} {i:Nat} (h:i < ws.length):i < (jr ws space width i).1∧(jr ws space width i).1≤ws.length:=by
 have:=qu space width (ws.drop (i+1)) (i+1) (ws.getD i 0);rw [List.length_drop] at this;unfold jr;omega
theorem WOk.get {ws:List Int} {space:Int} (h:WOk ws space) {i:Nat} (hi:i < ws.length):0≤ws[i]∧ws[i]≤1099511627776:=h.rng _ (List.getElem_mem hi)
open Go.Proofs Go.Proofs.Tryz
theorem ldI (σ:af) (l:List Int):bO σ false 1 (.rp (bh l))=some (bh l):=rfl
theorem aj (l:List Int):(bh l).cells=[bh l]:=rfl
theorem al (l:List Int):(bh l).stays=true:=rfl
theorem gk {σ:af} {l:List Int} {i:Nat} (h:i < l.length):bF σ 1 (bh l) (.int .i64 i)=some (.rp (vI l[i])):=by simp [bh,bF,h]
theorem eS (l:List Int):dK false (bh l)=some (.int .i64 l.length):=by simp [bh,dK]
def jq (ws:List Int) (space:Int):V:=.agg [bh ws,vI space]
theorem Ku (ws:List Int) (space:Int):gl false 0 1 (.rp (jq ws space))=some (.rp (bh ws)):=rfl
theorem Jm (ws:List Int) (space:Int):gl false 1 1 (.rp (jq ws space))=some (.rp (vI space)):=rfl
theorem xq (ws:List Int) (space:Int):(jq ws space).cells=[bh ws,vI space]:=rfl
theorem yn (ws:List Int) (space:Int):(jq ws space).stays=true:=rfl
theorem LK (ws:List Int) (space i:Int):aV prog 209 [jq ws space,vI i] (.bool (decide (i < 0∨i≥ws.length))):=fun σ=>by
 refine NV.r (by simp [KL]) ?_;have hs:=aa.refl σ;have hn:=eS ws;apply sR;simp only [go_sem,seval,KL,jq,aj,al];refine ae fun i2 σ2 s2 a2 f2=>?_;have z2:=hs.none f2;replace hs:=hs.trans s2;by_cases h:i < 0
 ·have q:(i < 0)=True:=eq_true h;simp only [go_sem,seval,a2,q,aj,al];exact au.pure hs (by simp [h])
 ·have q:(i < 0)=False:=eq_false h;simp only [go_sem,seval,a2,q,hn,aj,al];exact au.pure hs (by simp [h])
def fe (l:List (Nat×Int)):List (List V):=l.map fun p=>[vI p.1,vI p.2]
theorem CM (ws:List Int) (space:Int) (hw:WOk ws space) (i:Nat) (hi:i < ws.length):Iter prog 218 [.rp (jq ws space), .rp (vI i)] (fe (fG space (ws.drop i) i (0 - space))):=by
 refine ⟨Lo.c,fun idl J Jx σ0 hy hJ=>?_⟩;refine (Lo.r (by simp [Lb]) ?_).2;have hs0:=hw.s0;have hs1:=hw.s1;have hln:=hw.len;have hn:=eS ws;have r0:inR .i64 (0 - space):=ak (by omega) (by omega);refine ad.mix 6 ?_;apply sR;simp only [BB,seval,←decide_not,bp,eP,aE,cF,eA,ed,ez,dL,cb,j9,bC,fF,dI,et,cp,cH,bu,iq,dd,cE,bZ,eff,jU,cV,bR,jK,dV,cd,dD,cU,kO,binBV,bS,dg,V.cells,V.stays,Orc.nothing,Lb,ldI,Ku,Jm,r0];refine ad.loop (fun m st=>∃(pre:List (Nat×Int)) (j:Nat) (n:Int) (σJ:af),m=ws.length - j∧i≤j∧j≤ws.length∧-1099511627776≤n∧n≤2199023255552*j∧fG space (ws.drop i) i (0 - space)=pre++fG space (ws.drop j) j n ∧
  J (fe pre) σJ∧aa σJ st.σ∧st.s 0=.yl idl∧st.s 1=.rp (jq ws space)∧st.s 4=vI n∧st.s 5=vI j) (ws.length - i) ?_ ?_
 ·exact ⟨[],i,0 - space,σ0,rfl,by omega,by omega,by omega,by omega,rfl,hJ,aa.refl _,rfl,rfl,rfl,rfl⟩
 ·rintro m ⟨s,σ'⟩ ⟨pre,j,n,σJ,rfl,hij,hj,hn1,hn2,hxs,hJp,hsub,t0,t1,t4,t5⟩;simp only at hsub t0 t1 t4 t5;refine ad.mix 6 ?_;by_cases hlt:j < ws.length
  ·have q:((j:Int) < ws.length)=True:=eq_true (by omega);have hx:=hw.get hlt;have hidx:=fun σ=>gk (σ:=σ) hlt;rw [List.drop_eq_getElem_cons hlt,fG] at hxs;generalize ws[j]=w at *;have r1:inR .i64 (space+w):=ak (by omega) (by omega);have r2:inR .i64 (n+(space+w)):=ak (by omega) (by omega);have r3:inR .i64 ((j:Int)+1):=ak (by omega) (by omega);have en:n+space+w=n+(space+w):=by omega
   rw [en] at hxs;have e:fe (fG space (ws.drop i) i (0 - space))=fe pre++[vI ((j:Int)+1),vI (n+(space+w))]::fe (fG space (ws.drop (j+1)) (j+1) (n+(space+w))):=by rw [hxs]; simp [fe]
   apply sR;simp only [BB,seval,←decide_not,bp,eP,aE,cF,eA,ed,ez,dL,cb,j9,bC,fF,dI,et,cp,cH,bu,iq,dd,cE,bZ,eff,jU,cV,bR,jK,dV,cd,dD,cU,kO,binBV,bS,dg,V.cells,V.stays,Orc.nothing,t0,t1,t4,t5,hn,q,ldI,Ku,Jm,hidx,r1,r2,r3];refine ad.lA (Post:=fun b σ2=>∃σJ',bc σJ σ' σJ' σ2∧((b=true∧J (fe pre++[[vI ((j:Int)+1),vI (n+(space+w))]]) σJ')∨(b=false∧Jx (fe pre++[[vI ((j:Int)+1),vI (n+(space+w))]]) σJ'))) rfl rfl rfl (hy _ _ _ σJ σ' e hJp hsub) ?_;rintro b σ2 ⟨σJ',hbs,hbb⟩;rcases hbb with ⟨rfl,hbb⟩ | ⟨rfl,hbb⟩
   ·apply sR;simp only [go_sem,seval,t0,t1,t4,t5,r3];refine ⟨_,?_,pre++[(j+1,n+(space+w))],j+1,n+(space+w),σJ',rfl,by omega,by omega,by omega,by omega,by rw [hxs]; simp,?_,hbs.1,by simp [t0,t1]⟩
    ·omega
    ·simpa [fe] using hbb
   ·apply sR;simp only [go_sem,seval,t0,t1,t4,t5];refine ⟨_,σJ',hbs.1,Wk.refl hbs.1 _, .inr ⟨_,?_,hbb⟩⟩;rw [e];exact ⟨fe (fG space (ws.drop (j+1)) (j+1) (n+(space+w))),by simp⟩
  ·have q:((j:Int) < ws.length)=False:=eq_false (by omega);apply sR;simp only [BB,seval,←decide_not,bp,eP,aE,cF,eA,ed,ez,dL,cb,j9,bC,fF,dI,et,cp,cH,bu,iq,dd,cE,bZ,eff,jU,cV,bR,jK,dV,cd,dD,cU,kO,binBV,bS,dg,V.cells,V.stays,Orc.nothing,t0,t1,t4,t5,hn,q,ldI,Ku,Jm];rw [show ws.drop j=[] from List.drop_of_length_le (by omega),fG,List.append_nil] at hxs;exact ⟨_,σJ,hsub,Wk.refl hsub _, .inl (by rw [hxs]; exact hJp)⟩
theorem J6 (ws:List Int) (space:Int) (i:Int):aV prog 210 [jq ws space,vI i] (.fn 218 [.rp (jq ws space), .rp (vI i)]):=fun σ=>by
 refine MU.r (by simp [K5]) ?_;refine ad.mix 4 ?_;have q1:=xq ws space;have q2:=yn ws space;have q3:(jq ws space).cells.length=2:=rfl;generalize hx:jq ws space=x at *;apply sR;simp only [go_sem,seval,K5,q1,q2,q3];refine ae fun id1 σ1 s1 a1 f1=>?_;simp only [go_sem,seval];refine ae fun id2 σ2 s2 a2 f2=>?_;simp only [go_sem,seval];exact ⟨_,σ,s1.trans s2,Wk.fn (vs':=[.rp x, .rp (vI i)]) ⟨Wk.ptr (s1.trans s2) (s2 _ _ a1) f1,Wk.ptr (s1.trans s2) a2 (s1.none f2),trivial⟩,rfl,rfl⟩
open Go.Proofs Go.Proofs.Tryz
def uG (i j n:Int):V:=.agg [vI i,vI j,vI n]
structure TkJ (ws:List Int) (space width:Int) (i:Nat) (σ:af) (id6 id7 id8 id10:Nat) (pre:List (List V)) (v:V) (σJ:af):Prop where
 sub:aa σ σJ
 r8:σJ id8=some ⟨297,3,[.agg [vI 0,vI 0,vI 0]]⟩
 r6:σJ id6=some ⟨3,1,[vI width]⟩
 r7:σJ id7=some ⟨3,1,[vI i]⟩
 r10:σJ id10=some ⟨297,3,[v]⟩
 st:(pre=[]∧v=.agg [vI 0,vI 0,vI 0])∨∃n:Int,0 < pre.length∧i+pre.length≤ws.length∧fe (fG space (ws.drop i) i (0 - space))=pre++fe (fG space (ws.drop (i+pre.length)) (i+pre.length) n) ∧
  jr ws space width i=nY space width (ws.drop (i+pre.length)) (i+pre.length) n∧v=.agg [vI i,vI (i+pre.length:Nat),vI n]
theorem Gj (ws:List Int) (space width:Int) (hw:WOk ws space) (i:Nat) (hi:i < ws.length):aV prog 189 [bh ws,vI space,vI width,vI i] (uG i (jr ws space width i).1 (jr ws space width i).2):=fun σ=>by
 refine NL.r (by simp [Kc]) ?_;have hs:=aa.refl σ;have hln:=hw.len;refine ad.mix 13 ?_;apply sR;simp only [go_sem,seval,Kc];refine ae fun i6 σ6 s6 a6 f6=>?_;have z6:=hs.none f6;replace hs:=hs.trans s6;simp only [go_sem,seval,a6,aj,al];refine ae fun i7 σ7 s7 a7 f7=>?_;have n67:=ao a6 f7;replace a6:=s7 _ _ a6;have z7:=hs.none f7;replace hs:=hs.trans s7;simp only [go_sem,seval,a7,a6,aj,al];refine ae fun i8 σ8 s8 a8 f8=>?_;have n68:=ao a6 f8;replace a6:=s8 _ _ a6;have n78:=ao a7 f8;replace a7:=s8 _ _ a7;have z8:=hs.none f8;replace hs:=hs.trans s8;simp only [go_sem,seval,a8,a7,a6,aj,al];refine ae fun i9 σ9 s9 a9 f9=>?_;have n69:=ao a6 f9;replace a6:=s9 _ _ a6;have n79:=ao a7 f9;replace a7:=s9 _ _ a7;have n89:=ao a8 f9;replace a8:=s9 _ _ a8;have z9:=hs.none f9;replace hs:=hs.trans s9;simp only [go_sem,seval,a9,a8,a7,a6,aj,al,ab n69,ab n79,ab n89];generalize hq9:upd _ i9 _=τ9;replace a9:=(congrFun hq9 i9).symm.trans ag;replace a6:=((congrFun hq9 i6).symm.trans (ab n69)).trans a6;replace a7:=((congrFun hq9 i7).symm.trans (ab n79)).trans a7;replace a8:=((congrFun hq9 i8).symm.trans (ab n89)).trans a8;replace hs:=Eq.subst (motive:=aa _) hq9 (hs.aD z9);clear hq9;have hf:=LK ws space i;rw [show decide ((i:Int) < 0∨(i:Int)≥ws.length)=false by simp; omega] at hf;refine ad.az rfl rfl rfl (hf _) ?_;apply sR;simp only [go_sem,seval,a9,a8,a7,a6];refine ae fun i10 σ10 s10 a10 f10=>?_;have n610:=ao a6 f10;replace a6:=s10 _ _ a6;have n710:=ao a7 f10;replace a7:=s10 _ _ a7;have n810:=ao a8 f10;replace a8:=s10 _ _ a8;have n910:=ao a9 f10;replace a9:=s10 _ _ a9;have z10:=hs.none f10;replace hs:=hs.trans s10;simp only [go_sem,seval,a10,a9,a8,a7,a6];refine ad.az rfl rfl rfl (J6 ws space i _) ?_;apply sR;simp only [go_sem,seval,a10,a9,a8,a7,a6];generalize hS:mix 13 _ _=S;have S6:S 6=.ptr i6 0 0:=by rw [←hS]; rfl
 have S7:S 7=.ptr i7 0 0:=by rw [←hS]; rfl
 have S8:S 8=.ptr i8 0 0:=by rw [←hS]; rfl
 have S10:S 10=.ptr i10 0 0:=by rw [←hS]; rfl
 have S22:S 22=.fn 218 [.rp (jq ws space), .rp (vI i)]:=by rw [←hS]; rfl
 clear hS;have hit:=CM ws space hw i hi;have hdr:ws.drop i=ws[i]::ws.drop (i+1):=List.drop_eq_getElem_cons hi;have hgd:ws.getD i 0=ws[i]:=by simp [hi]
 have hxi:=hw.get hi;have fin:∀(τ:af) (w:V),aa σ τ→τ i8=some ⟨297,3,[.agg [vI 0,vI 0,vI 0]]⟩→τ i10=some ⟨297,3,[uG i (jr ws space width i).1 (jr ws space width i).2]⟩ →
  ad prog 39 [It.code (.seq (.reg false [⟨some 38, .load true 3 (.t 10),none⟩,⟨none, .store 3 (.t 8) (.t 38),none⟩]) .ret)] ⟨S,τ⟩ (fun st=>Ret [VR.cell true 3 (VX.t 8)] st fun r σ'=>r=uG i (jr ws space width i).1 (jr ws space width i).2∧σ'=σ):=by
  intro τ w h1 h2 h3;refine ad.mix 13 ?_;rw [uG] at h3;apply sR;simp only [go_sem,seval,S8,S10,h2,h3];exact au.pure (h1.aD z8) rfl
 refine ad.cu (g:=.t 22) (caps:=[.rp (jq ws space), .rp (vI i)]) S22 hit (fun x hx=>?_) [0] (fun pre σJ=>∃v,TkJ ws space width i σ i6 i7 i8 i10 pre v σJ)
  (fun e pre σJ=>e=some 0∧aa σ σJ∧σJ i8=some ⟨297,3,[.agg [vI 0,vI 0,vI 0]]⟩∧σJ i10=some ⟨297,3,[uG i (jr ws space width i).1 (jr ws space width i).2]⟩) ?_ ?_ ?_ ?_ ?_
 ·obtain ⟨t,_,rfl⟩:=List.mem_map.1 hx; rfl
 ·exact ⟨_,hs,a8,a6,a7,a10, .inl ⟨rfl,rfl⟩⟩
 ·rintro pre x post σJ σB hxs ⟨v,J⟩ hsub;have b6:=hsub _ _ J.r6;have b7:=hsub _ _ J.r7;have b8:=hsub _ _ J.r8;have b10:=hsub _ _ J.r10;rcases J.st with ⟨rfl,rfl⟩ | ⟨n,hp,hpl,hr,htk,rfl⟩
  ·obtain rfl:x=[vI ((i:Int)+1),vI ws[i]]:=by
    rw [hdr] at hxs;simp only [fG,fe,List.map_cons,List.nil_append,List.cons.injEq] at hxs;rw [←hxs.1];simp only [Int.sub_add_cancel,Int.zero_add];rw [show ((i+1:Nat):Int)=(i:Int)+1 by omega]
   refine ad.mix 13 ?_;generalize hSS:kR S [23,24] _=S0;have T6:S0 6=.ptr i6 0 0:=by rw [←hSS]; exact S6
   have T7:S0 7=.ptr i7 0 0:=by rw [←hSS]; exact S7
   have T10:S0 10=.ptr i10 0 0:=by rw [←hSS]; exact S10
   have T23:S0 23=vI ((i:Int)+1):=by rw [←hSS]; rfl
   have T24:S0 24=vI ws[i]:=by rw [←hSS]; rfl
   clear hSS;have r1:inR .i64 ((i:Int)+1):=ak (by omega) (by omega);have q:((i:Int)+1 > (i:Int)+1)=False:=eq_false (by omega);apply sR;simp only [go_sem,seval,T6,T7,T10,T23,T24];apply sR;simp only [go_sem,seval,T6,T7,T10,T23,T24,b6,b7,b10,r1,q];refine ⟨_,(bc.refl hsub).set J.r10,_,J.sub.aD z10,by rw [ab n810]; exact J.r8,by rw [ab n610]; exact J.r6,by rw [ab n710]; exact J.r7,ag, .inr ⟨ws[i],by simp,by simp; omega,?_,?_,?_⟩⟩
   ·rw [hdr,fG];simp only [Int.sub_add_cancel,Int.zero_add,fe,List.map_cons,List.nil_append,List.length_cons,List.length_nil,List.cons_append];rw [show ((i+1:Nat):Int)=(i:Int)+1 by omega]
   ·unfold jr; rw [hgd]; rfl
   ·simp
  ·have hlt:i+pre.length < ws.length:=by
    rcases Nat.lt_or_ge (i+pre.length) ws.length with h | h
    ·exact h
    ·exfalso;rw [List.drop_of_length_le h] at hr;rw [hr] at hxs;have:=congrArg List.length hxs;simp [fG,fe] at this
   have hd2:ws.drop (i+pre.length)=ws[i+pre.length]::ws.drop (i+pre.length+1):=List.drop_eq_getElem_cons hlt;obtain rfl:x=[vI ((i:Int)+pre.length+1),vI (n+space+ws[i+pre.length])]:=by
    rw [hr,hd2] at hxs;have h2:=List.append_cancel_left hxs;simp only [fG,fe,List.map_cons,List.cons.injEq] at h2;rw [←h2.1];rw [show ((i+pre.length+1:Nat):Int)=(i:Int)+pre.length+1 by omega]
   rw [hd2,nY] at htk;refine ad.mix 13 ?_;generalize hSS:kR S [23,24] _=S0;have T6:S0 6=.ptr i6 0 0:=by rw [←hSS]; exact S6
   have T7:S0 7=.ptr i7 0 0:=by rw [←hSS]; exact S7
   have T10:S0 10=.ptr i10 0 0:=by rw [←hSS]; exact S10
   have T23:S0 23=vI ((i:Int)+pre.length+1):=by rw [←hSS]; rfl
   have T24:S0 24=vI (n+space+ws[i+pre.length]):=by rw [←hSS]; rfl
   clear hSS;have r1:inR .i64 ((i:Int)+1):=ak (by omega) (by omega);have q:((i:Int)+pre.length+1 > (i:Int)+1)=True:=eq_true (by omega);apply sR;simp only [go_sem,seval,T6,T7,T10,T23,T24];by_cases hw2:n+space+ws[i+pre.length] > width
   ·have q2:(n+space+ws[i+pre.length] > width)=True:=eq_true hw2;rw [if_pos hw2] at htk;apply sR;simp only [go_sem,seval,T6,T7,T10,T23,T24,b6,b7,b10,r1,q,q2];refine ⟨_,bc.refl hsub,J.sub,J.r8,?_⟩;rw [J.r10,htk]; rfl
   ·have q2:(n+space+ws[i+pre.length] > width)=False:=eq_false hw2;rw [if_neg hw2] at htk;apply sR;simp only [go_sem,seval,T6,T7,T10,T23,T24,b6,b7,b10,r1,q,q2];have hpl2:(pre++[[vI ((i:Int)+pre.length+1),vI (n+space+ws[i+pre.length])]]).length=pre.length+1:=by simp
    refine ⟨_,(bc.refl hsub).set J.r10,_,J.sub.aD z10,by rw [ab n810]; exact J.r8,by rw [ab n610]; exact J.r6,by rw [ab n710]; exact J.r7,ag, .inr ⟨n+space+ws[i+pre.length],by omega,by omega,?_,?_,?_⟩⟩
    ·rw [hr,hd2,hpl2,fG];simp only [fe,List.map_cons,List.append_assoc,List.cons_append,List.nil_append];rw [show ((i+pre.length+1:Nat):Int)=(i:Int)+pre.length+1 by omega]; rfl
    ·rw [hpl2]; exact htk
    ·rw [hpl2,show ((i+(pre.length+1):Nat):Int)=(i:Int)+pre.length+1 by omega]
 ·rintro σ' ⟨v,J⟩;rcases J.st with ⟨h0,rfl⟩ | ⟨n,hp,hpl,hr,htk,rfl⟩
  ·exfalso; rw [hdr] at h0; simp [fG,fe] at h0
  ·have he:fe (fG space (ws.drop (i+(fe (fG space (ws.drop i) i (0 - space))).length)) (i+(fe (fG space (ws.drop i) i (0 - space))).length) n)=[]:=by
    have:=congrArg List.length hr;rw [List.length_append] at this;exact List.eq_nil_of_length_eq_zero (by omega)
   generalize (fe (fG space (ws.drop i) i (0 - space))).length=p at *;have hd:ws.drop (i+p)=[]:=by
    cases h:ws.drop (i+p) with
    | nil=>rfl
    | cons a b=>rw [h] at he; simp [fG,fe] at he
   rw [hd,nY] at htk;refine ad.inBlock (fin σ' .aC J.sub J.r8 ?_);rw [J.r10,htk]; rfl
 ·intro id hid pre σ' _ ⟨h0,h1,h2,h3⟩;obtain rfl:id=0:=by simpa using hid
  refine ad.exit rfl ?_;exact fin σ' .aC h1 h2 h3
 ·rintro pre σ' _ ⟨h0,_⟩; cases h0
open Go.Proofs Go.Proofs.Tryz
def tJ (p:Pn) (n:Int):Pn:=⟨if n > 0 then p.y+p.m+n else p.y,if n > 0 then 0 else p.m⟩
def dQ (p:Pn) (mg n:Int):Pn:=tJ ⟨p.y,max p.m mg⟩ n
def kj (p:Pn) (mg n:Int):Pn:=⟨(tJ p n).y,max (tJ p n).m mg⟩
theorem A1 (p:Pn) (mg n:Int) (h1:Bq p.y) (h2:Bq p.m) (h3:Bq mg) (h4:Bq n):aV prog 114 [gg p,vI mg,vI n] (gg (dQ p mg n)):=fun σ=>by
 refine Ot.r (by simp [Jw]) ?_;have hs:=aa.refl σ;refine ad.mix 10 ?_;apply sR;simp only [go_sem,seval,Jw,gg];refine ae fun i3 σ3 s3 a3 f3=>?_;have z3:=hs.none f3;replace hs:=hs.trans s3;simp only [go_sem,seval,a3];refine ae fun i6 σ6 s6 a6 f6=>?_;have n36:=ao a3 f6;replace a3:=s6 _ _ a3;have z6:=hs.none f6;replace hs:=hs.trans s6;simp only [go_sem,seval,a6,a3];refine ae fun i7 σ7 s7 a7 f7=>?_;have n37:=ao a3 f7;replace a3:=s7 _ _ a3;have n67:=ao a6 f7;replace a6:=s7 _ _ a6;have z7:=hs.none f7;replace hs:=hs.trans s7;simp only [go_sem,seval,a7,a6,a3,ab n37,ab n67];generalize hq7:upd _ i7 _=τ7;replace a7:=(congrFun hq7 i7).symm.trans ag;replace a3:=((congrFun hq7 i3).symm.trans (ab n37)).trans a3;replace a6:=((congrFun hq7 i6).symm.trans (ab n67)).trans a6;replace hs:=Eq.subst (motive:=aa _) hq7 (hs.aD z7);clear hq7;refine ad.call rfl rfl rfl (Bo p.y p.m mg a7) ?_;rintro r σ1 ⟨rfl,rfl⟩;apply sR;simp only [go_sem,seval];have hm:Bq (max p.m mg):=by obtain ⟨g1,g2⟩:=h2; obtain ⟨g3,g4⟩:=h3; exact ⟨by omega,by omega⟩
 refine ad.call rfl rfl rfl (H3 p.y (max p.m mg) n h1 hm h4 ag) ?_;rintro r σ2 ⟨rfl,rfl⟩;apply sR;simp only [go_sem,seval,a6,ab n67,ab n67.symm];exact au.pure ((hs.aD z7).aD z6) rfl
theorem BT (p:Pn) (mg n:Int) (h1:Bq p.y) (h2:Bq p.m) (h3:Bq mg) (h4:Bq n):aV prog 115 [gg p,vI mg,vI n] (gg (kj p mg n)):=fun σ=>by
 refine NO.r (by simp [KP]) ?_;have hs:=aa.refl σ;refine ad.mix 10 ?_;apply sR;simp only [go_sem,seval,KP,gg];refine ae fun i3 σ3 s3 a3 f3=>?_;have z3:=hs.none f3;replace hs:=hs.trans s3;simp only [go_sem,seval,a3];refine ae fun i6 σ6 s6 a6 f6=>?_;have n36:=ao a3 f6;replace a3:=s6 _ _ a3;have z6:=hs.none f6;replace hs:=hs.trans s6;simp only [go_sem,seval,a6,a3];refine ae fun i7 σ7 s7 a7 f7=>?_;have n37:=ao a3 f7;replace a3:=s7 _ _ a3;have n67:=ao a6 f7;replace a6:=s7 _ _ a6;have z7:=hs.none f7;replace hs:=hs.trans s7;simp only [go_sem,seval,a7,a6,a3,ab n37,ab n67];generalize hq7:upd _ i7 _=τ7;replace a7:=(congrFun hq7 i7).symm.trans ag;replace a3:=((congrFun hq7 i3).symm.trans (ab n37)).trans a3;replace a6:=((congrFun hq7 i6).symm.trans (ab n67)).trans a6;replace hs:=Eq.subst (motive:=aa _) hq7 (hs.aD z7);clear hq7;refine ad.call rfl rfl rfl (H3 p.y p.m n h1 h2 h4 a7) ?_;rintro r σ1 ⟨rfl,rfl⟩;apply sR;simp only [go_sem,seval];refine ad.call rfl rfl rfl (Bo _ _ mg ag) ?_;rintro r σ2 ⟨rfl,rfl⟩;apply sR;simp only [go_sem,seval,a6,ab n67,ab n67.symm];exact au.pure ((hs.aD z7).aD z6) rfl
structure Ln where
 (fr to x y w:Int)
deriving DecidableEq
def lu (l:Ln):V:=.agg [vI l.fr,vI l.to,vI l.x,vI l.y,vI l.w]
def mO (fs:List Flo) (ws:List Int) (space high:Int) (i:Nat) (y:Int) (s:Spn):Ln :=
 let at':=jS fs (ws.getD i 0) high s y
 let b:=dx fs at' high s
 let t:=jr ws space (jk b) i
 ⟨i,t.1,b.a,at',t.2⟩
theorem Ge (fs:List Flo) (ws:List Int) (space high:Int) (i:Nat) (y:Int) (s:Spn) (hl:fs.length≤1000000) (hok:∀f∈fs,f.ok) (hy:Bq2 y) (hh:Bq high) (hs1:Bq2 s.a∧Bq2 s.b) (hw:WOk ws space) (hi:i < ws.length) :
 aV prog 158 [aK fs,bh ws,vI space,vI high,vI i,vI y,aZ s] (lu (mO fs ws space high i y s)):=fun σ=>by
 refine Nk.r (by simp [JZ]) ?_;have hs:=aa.refl σ;have hn:=eS ws;have hidx:=fun σ=>gk (σ:=σ) hi;have q0:((i:Int) < 0)=False:=eq_false (by omega);have q1:((i:Int)≥ws.length)=False:=eq_false (by omega);refine ad.mix 18 ?_;apply sR;simp only [go_sem,seval,JZ,aZ];refine ae fun i13 σ13 s13 a13 f13=>?_;have z13:=hs.none f13;replace hs:=hs.trans s13;simp only [go_sem,seval,a13];refine ae fun i14 σ14 s14 a14 f14=>?_;have n1314:=ao a13 f14;replace a13:=s14 _ _ a13;have z14:=hs.none f14;replace hs:=hs.trans s14;simp only [go_sem,seval,a14,a13,hn,hidx,q0,q1];have hgd:ws.getD i 0=ws[i]:=by simp [hi]
 obtain ⟨at',hat⟩:∃a,a=jS fs ws[i] high s y:=⟨_,rfl⟩
 have hro:=Ed fs ws[i] high y s hl hok hy hh hs1;rw [←hat] at hro;have hbo:=lC (y:=at') (high:=high) hok hs1;unfold mO;rw [hgd];simp only;rw [←hat];obtain ⟨b,hb⟩:∃b,b=dx fs at' high s:=⟨_,rfl⟩
 rw [←hb] at hro hbo ⊢;refine Go.ct rfl rfl rfl hro ?_;apply sG;simp only [go_sem,seval,aZ];refine bz fun i15 σ15 s15 a15 f15=>?_;have n1315:=ao a13 f15;replace a13:=s15 _ _ a13;have n1415:=ao a14 f15;replace a14:=s15 _ _ a14;have z15:=hs.none f15;replace hs:=hs.trans s15;simp only [go_sem,seval,a15,a14,a13,aZ];generalize hq15:upd _ i15 _=τ15;replace a15:=(congrFun hq15 i15).symm.trans ag;replace a13:=((congrFun hq15 i13).symm.trans (ab n1315)).trans a13;replace a14:=((congrFun hq15 i14).symm.trans (ab n1415)).trans a14;replace hs:=Eq.subst (motive:=aa _) hq15 (hs.aD z15);clear hq15;refine ad.az rfl rfl rfl (Dv b hbo.1 hbo.2 _) ?_;apply sR;simp only [go_sem,seval];refine ad.az rfl rfl rfl (Gj ws space (jk b) hw i hi _) ?_;apply sR;simp only [go_sem,seval,uG];refine ae fun i17 σ17 s17 a17 f17=>?_;have n1317:=ao a13 f17;replace a13:=s17 _ _ a13;have n1417:=ao a14 f17;replace a14:=s17 _ _ a14;have n1517:=ao a15 f17;replace a15:=s17 _ _ a15;have z17:=hs.none f17;replace hs:=hs.trans s17;simp only [go_sem,seval,a17,a15,a14,ab n1317,ab n1417,ab n1517];exact au.pure ((hs.aD z17).aD z14) rfl
open Go.Proofs Go.Proofs.Tryz
theorem aM.yP {K σJ σ1:af} {e sz:Nat} {v:V} {rows:List V} (h:aM K σJ e sz v rows) (hs:aa σJ σ1) :
 ∃idA,bQ σ1 e sz v=some (rows,idA)∧(∀K':af,aa K' K→∀σ2,aa K' σ2→aa K' (Vc.bw σ2 idA))∧(∀i o,σJ i=some o→(o.elem≠e∨o.sz≠sz)→∀σ2:af,Vc.bw σ2 idA i=σ2 i)∧(∀i,σJ i=none→∀σ2:af,Vc.bw σ2 idA i=σ2 i):=by
 rcases h with ⟨rfl,rfl⟩ | ⟨id,rfl,ho,hk⟩
 ·exact ⟨none,rfl,fun _ _ _ h=>h,fun _ _ _ _ _=>rfl,fun _ _ _=>rfl⟩
 ·refine ⟨some id,?_,fun K' hK σ2 h=>h.Gf (hK.none hk),fun i o hi hne σ2=>?_,fun i hi σ2=>?_⟩
  ·simp only [bQ,hs _ _ ho];rw [if_pos ⟨trivial,trivial,trivial,Nat.le_refl _⟩,List.take_length]
  ·refine dh fun e'=>?_;subst e'; rw [ho] at hi; injection hi with hi; subst hi; rcases hne with h | h <;> exact h rfl
  ·refine dh fun e'=>?_;subst e'; rw [ho] at hi; cases hi
theorem pV {l:List Flo} {w high B:Int} {s:Spn} (hB:∀f∈l,f.y+f.h≤B):∀(k:Nat) (y:Int),y≤nz l w high s k y∧nz l w high s k y≤max y B
 | 0,y=>by simp only [nz]; omega
 | k+1,y=>by
   rw [nz];split
   ·omega
   ·rename_i hf;have hne:dx l y high s≠s:=fun e=>hf (by simp [uh,e]);obtain ⟨f,hm,h1,h2⟩:=gS (ny hne);have:=pV hB k (fO l y high s).1 (w:=w) (high:=high) (s:=s);have:=hB f hm;omega
theorem fm {l:List Flo} {w high B y:Int} {s:Spn} (hB:∀f∈l,f.y+f.h≤B):y≤jS l w high s y∧jS l w high s y≤max y B:=pV hB _ _
def da (fs:List Flo) (ws:List Int) (space high:Int) (s:Spn):Nat→Nat→Int→List Ln
 | 0,_,_=>[]
 | k+1,i,y=>if i < ws.length then mO fs ws space high i y s::da fs ws space high s k (mO fs ws space high i y s).to.toNat ((mO fs ws space high i y s).y+high) else []
theorem iS (fs:List Flo) (ws:List Int) (space high:Int) (s:Spn):∀(k i:Nat) (y:Int),(da fs ws space high s k i y).length≤k
 | 0,_,_=>by simp [da]
 | k+1,i,y=>by
   rw [da];split
   ·have:=iS fs ws space high s k (mO fs ws space high i y s).to.toNat ((mO fs ws space high i y s).y+high);simp only [List.length_cons]; omega
   ·simp
theorem yA (l:Ln):(lu l).cells=[vI l.fr,vI l.to,vI l.x,vI l.y,vI l.w]:=rfl
theorem xy (l:Ln):(lu l).stays=true:=rfl
def oW (l:List Ln):V:=.sl 5 (l.map lu)
variable {P:Program} {n:Nat} {st:St} {Q:St→Prop} {k:List It}
def mY (D:List (List Nat)) (S:List Nat) (s:Nat):List (List Nat):=(List.range D.length).map fun i=>if S.contains i && !(i == s) then s::D.getD i [] else D.getD i []
theorem zi {D:List (List Nat)} {S:List Nat} {s:Nat}:(mY D S s).length=D.length:=by simp [mY]
theorem yT {D:List (List Nat)} {S:List Nat} {s i:Nat}:(mY D S s).getD i []=if i < D.length∧i∈S∧i≠s then s::D.getD i [] else D.getD i []:=by
 unfold mY;rw [List.getD_eq_getElem?_getD,List.getElem?_map];by_cases hi:i < D.length
 ·rw [List.getElem?_range hi];by_cases hs:i∈S
  ·by_cases he:i=s
   ·simp [he]
   ·simp [hi,hs,he]
  ·simp [hs]
 ·have h1:(List.range D.length)[i]?=none:=List.getElem?_eq_none (by simpa using hi);rw [h1,if_neg (fun h=>hi h.1)];simp [List.getElem?_eq_none (show D.length≤i by omega)]
theorem wY {D:List (List Nat)} {S:List Nat} {s i:Nat} (h:i∉S∨i=s):(mY D S s).getD i []=D.getD i []:=by
 rw [yT,if_neg];rintro ⟨_,h1,h2⟩;exact h.elim (fun h=>h h1) h2
theorem ql {D:List (List Nat)} {S:List Nat} {s:Nat} {L:List Nat} (hp:s∈L):dq (mY D S s) L=dq D L:=by
 unfold dq;rw [zi];refine List.filter_congr fun i hi=>?_;rw [yT];split
 ·simp [hp]
 ·rfl
theorem ry {l:List aG} {D:List (List Nat)} {S:List Nat} {s:Nat} {K:St→Prop}:∀(f:Nat) (L:List Nat) (y:St),s∈L→gC P l (mY D S s) K f L y→gC P l D K f L y
 | 0,L,y,hp,h=>⟨by rw [←ql hp]; exact h.1,h.2⟩
 | f+1,L,y,hp,h=>by
   unfold gC at h ⊢;rw [ql hp] at h;cases hr:dq D L with
   | nil=>rw [hr] at h; exact h
   | cons a r =>
     rw [hr] at h;refine ov fun i hi=>?_;obtain ⟨ins,h1,h2⟩:=l6 h i hi;exact ⟨ins,h1,TC.mono (fun x hx=>ry f _ x (by simp [hp]) hx) h2⟩
theorem uN {l:List aG} {K:St→Prop} {b:List Nat}:∀ {a:List Nat},RE P l K (a++b)=RE P l (RE P l K b) a
 | []=>rfl
 | m::a=>by
   funext x;rw [List.cons_append,RE,RE,uN]
theorem mG {l:List aG} {bef:List (List Nat)} {b:List Nat}:∀ {a done:List Nat},dN l bef done (a++b)=dN l bef done a++dN l bef (done++a) b
 | [],done=>by simp [dN]
 | e::a,done=>by
   rw [List.cons_append,dN,dN,mG];simp
theorem RE.mono {l:List aG} {K K':St→Prop} (hk:∀x,K x→K' x):∀ {a:List Nat} {x:St},RE P l K a x→RE P l K' a x
 | [],x,h=>hk x h
 | m::a,x,h=>by
   rw [RE] at h ⊢;cases hm:l[m / 2]? with
   | none=>rw [hm] at h; exact h.elim
   | some i =>
     rw [hm] at h;simp only at h ⊢;split at h <;> rename_i he
     ·rw [if_pos he];exact TC.mono (fun x hx=>RE.mono hk hx) h
     ·rw [if_neg he];exact ⟨h.1,RE.mono hk h.2⟩
structure FN (l:List aG) (D bef:List (List Nat)) (pre tail S:List Nat) (befs:Nat→List (List Nat)):Prop where
 e:EOkW l D bef (pre++tail)
 effs:∀a b x y,pre++tail=a++b→x∈a→y∈b→x∈pre→cX l bef x=true→x∈eo bef y
 sub:∀s∈S,s∈tail
 some:∃s,s∈S
 later:∀i∈tail,i∉S→∃s∈S,s∈eo bef i
 agree:∀s∈S,∀i∈pre,cX l (befs s) i=cX l bef i
section
variable {l:List aG} {D bef:List (List Nat)} {pre tail S:List Nat} {befs:Nat→List (List Nat)} {K:St→Prop} {Ks:Nat→St→Prop} (hF:FN l D bef pre tail S befs)
include hF
theorem iU.LH {L:List Nat} {y:St}:∀ {rest done:List Nat} {x:St},iU P l D bef pre K L y done rest x →
 ∃done' rest' x',iU P l D bef pre K L y done' rest' x'∧∀h r,rest'=h::r→cX l bef h=true
 | [],done,x,h=>⟨done,[],x,h,by simp⟩
 | e::rest,done,x,h=>by
   have hE:=hF.e;cases heff:cX l bef e with
   | true=>exact ⟨done,e::rest,x,h,fun a r he=>by cases he; exact heff⟩
   | false =>
     have hel:e < l.length:=hE.lt e (by rw [h.split]; simp);obtain ⟨hk,hself⟩:=gb heff hel (hE.mi hel);have hnd:=(List.nodup_append.1 hE.nodup).1;rw [h.split] at hnd;have hed:e∉done:=fun hm=>(List.nodup_append.1 hnd).2.2 e hm e (by simp) rfl;have heL:e∉L:=fun hm=>hed (h.sub e hm);have hgo:=h.go;rw [dN,BL hel,CD,if_neg (by simp [heff]),List.nil_append] at hgo;have hT:T P (bn l e) x (RE P l K (dN l bef (done++[e]) rest)):=by
      rcases hgo with hgo | ⟨_,hgo⟩
      ·exact hgo
      ·exfalso;revert hgo hk;generalize (bn l e).op=op;intro hk hgo;split at hgo
       ·simp [bp] at hk
       ·exact hgo
     obtain ⟨v,hv,hgo'⟩:=(bW (by simp [eM,hk])).1 hT;refine iU.LH (rest:=rest) (done:=done++[e]) (x:=⟨aW x.s (bn l e).dst v,x.σ⟩) ⟨by rw [h.split]; simp,fun i hi=>by simp [h.sub i hi],h.nodup,h.closed,fun i hi hie=>?_,h.store,fun d hd=>?_,fun i hi hiL=>?_,hgo'⟩
     ·rcases List.mem_append.1 hi with hi | hi
      ·exact h.effs i hi hie
      ·simp only [List.mem_singleton] at hi; rw [hi,heff] at hie; cases hie
     ·have h1:=h.slot d fun i hi hiL=>hd i (by simp [hi]) hiL;have h2:=hd e (by simp) heL;rw [h1];simp only;cases hde:(bn l e).dst with
      | none=>rfl
      | some d' =>
        rw [hde] at h2;simp only [aW];rw [if_neg (fun e'=>h2 (by rw [e']))]
     ·by_cases hie:i=e
      ·subst hie;unfold QYd;cases hd:(bn l i).dst with
       | none=>exact ⟨v,hv⟩
       | some d =>
         simp only;have e1:aW x.s (some d) v d=v:=by simp [aW]
         rw [e1];exact (eY (fun t ht=>by cases ht; exact hself d hd)).2 hv
      ·have hid:i∈done:=by
        rcases List.mem_append.1 hi with hi | hi
        ·exact hi
        ·simp only [List.mem_singleton] at hi; exact absurd hi hie
       have hil:i < l.length:=hE.lt i (by rw [h.split]; simp [hid]);refine qZ hE hil hel hie (fun d hd hu=>?_) (fun v hv=>hv) (h.lag i hid hiL);rcases hE.anti i e hil hel hie d hd hu with h1 | ⟨h1,_⟩
       ·obtain ⟨a,b,hab⟩:=List.append_of_mem hid;have h2:=hE.kP (a:=a) (j:=i) (b:=b++e::rest++tail) (by rw [h.split,hab]; simp) e h1;exact hed (by rw [hab]; simp [h2])
       ·rw [heff] at h1; cases h1
theorem zL (hH:∀s∈S,∀(f:Nat) (L:List Nat) (y:St) (done rest:List Nat) (x:St),f+L.length=l.length→iU P l (mY D S s) (befs s) pre (Ks s) L y done rest x→gC P l (mY D S s) K f L y) :
 ∀(f:Nat) (L:List Nat) (y:St) (done rest:List Nat) (x:St),f+L.length=l.length→(∀s∈S,s∉L)→iU P l D bef pre (fun x=>∀s∈S,Ks s x) L y done rest x→gC P l D K f L y:=by
 have hE:=hF.e;obtain ⟨s0,hs0⟩:=hF.some;have hlt:∀s∈S,s < l.length:=fun s hs=>hE.lt s (by simp [hF.sub s hs]);have hpre:∀s∈S,s∉pre:=fun s hs hm=>(List.nodup_append.1 hE.nodup).2.2 s hm s (hF.sub s hs) rfl;intro f
 induction f with
 | zero =>
   intro L y done rest x hf hSL h;exact absurd ((rA l.length L h.nodup fun i hi=>hE.lt i (by rw [h.split]; simp [h.sub i hi])).2 (by omega) s0 (hlt s0 hs0)) (hSL s0 hs0)
 | succ f ih =>
   intro L y done rest x hf hSL h;obtain ⟨done,rest,x,h,hhead⟩:=iU.LH hF h;have hnd:=(List.nodup_append.1 hE.nodup).1;rw [h.split] at hnd;have hdp:∀i∈done,i∈pre:=fun i hi=>by rw [h.split]; simp [hi]
   have hcl:∀m∈L,∀d∈D.getD m [],d∈L:=h.closed;have hclS:∀s,∀m∈L,∀d∈(mY D S s).getD m [],d∈L:=fun s m hm d hd=>by
    rw [wY (.inl fun hs=>hSL m hs hm)] at hd;exact h.closed m hm d hd
   have take:rest=[]→∀s∈S,gC P l (mY D S s) K (f+1) L y:=fun hr s hs=>by
    subst hr;have hdp':pre=done:=by rw [h.split]; simp
    refine hH s hs (f+1) L y done [] x hf ⟨by rw [hdp']; simp,h.sub,h.nodup,hclS s,fun i hi hie=>h.effs i hi (by rw [←hF.agree s hs i (hdp i hi)]; exact hie),h.store,h.slot,h.lag,?_⟩;exact h.go s hs
   have key:tz P l (gC P l D K f) L y (dq D L):=by
    refine ov fun i hi=>?_;have hi0:=hi;obtain ⟨hil,hiL,hdep⟩:=sZ hi;rw [hE.dlen] at hil;by_cases hiS:i∈S
    ·have hm:i∈dq (mY D S i) L:=by
      unfold dq;refine List.mem_filter.2 ⟨by rw [zi,hE.dlen]; simpa using hil,?_⟩;rw [wY (.inr rfl)];exact (List.mem_filter.1 hi).2
     have hrest:rest=[]:=by
      cases hrr:rest with
      | nil=>rfl
      | cons a rr =>
        exfalso;have ha:=hhead a rr hrr;have hapre:a∈pre:=by rw [h.split,hrr]; simp
        have hb:a∈eo bef i:=hF.effs pre tail a i rfl hapre (hF.sub i hiS) hapre ha;obtain ⟨pa,pb,hpe⟩:=List.append_of_mem (hE.mem i hil);have haL:a∈L:=hE.closed hcl hE.mem (pa.length+1) pa i pb (by omega) hpe (fun d hd=>hdep d hd) a hb;rw [hrr] at hnd;exact (List.nodup_append.1 hnd).2.2 a (h.sub a haL) a (by simp) rfl
     have h1:=take hrest i hiS;unfold gC at h1;cases hr:dq (mY D S i) L with
     | nil=>rw [hr] at hm; cases hm
     | cons a r =>
       rw [hr] at h1 hm;obtain ⟨ins,g1,g2⟩:=l6 h1 i hm;exact ⟨ins,g1,TC.mono (fun x hx=>ry f _ x (by simp) hx) g2⟩
    refine ⟨bn l i,by simp [bn,List.getElem?_eq_getElem hil],?_⟩;obtain ⟨pa,pb,hpe⟩:=List.append_of_mem (hE.mem i hil);have hbefL:∀j∈eo bef i,j∈L:=hE.closed hcl hE.mem (pa.length+1) pa i pb (by omega) hpe hdep;have huses:∀u∈(bn l i).jV,x.s u=y.s u:=fun u hu=>(h.slot u fun j hj hjL hd=>by
     have hjl:j < l.length:=hE.lt j (by simp [hdp j hj]);by_cases hji:j=i
     ·subst hji;cases hje:cX l bef j with
      | true=>exact hjL (h.effs j hj hje)
      | false=>exact (gb hje hjl (hE.mi hjl)).2 u hd hu
     ·rcases hE.anti i j hil hjl (fun e=>hji e.symm) u hd hu with h1 | ⟨h1,_⟩
      ·exact hjL (hbefL j h1)
      ·exact hjL (h.effs j hj h1)).symm
    by_cases hid:i∈done
    ·have hie:cX l bef i=false:=by
      cases hie:cX l bef i with
      | false=>rfl
      | true=>exact absurd (h.effs i hid hie) hiL
     obtain ⟨hk,_⟩:=gb hie hil (hE.mi hil);have hq:=h.lag i hid hiL;obtain ⟨v,hv,hvd⟩:∃v,QY P (bn l i) x.s x.σ v∧∀d,(bn l i).dst=some d→x.s d=v:=by
      unfold QYd at hq;cases hd:(bn l i).dst with
      | none=>rw [hd] at hq; obtain ⟨v,hq⟩:=hq; exact ⟨v,hq,by simp⟩
      | some d=>rw [hd] at hq; exact ⟨_,hq,fun d' e=>by cases e; rfl⟩
     refine .inl ((bW (by simp [eM,hk])).2 ⟨v,?_,?_⟩)
     ·rw [h.store]; exact zu huses hv
     ·refine ih (i::L) _ done rest x (by simp only [List.length_cons]; omega) (fun s hs hm=>(List.mem_cons.1 hm).elim (fun e=>hiS (e ▸ hs)) (hSL s hs)) ⟨h.split,fun j hj=>?_,List.nodup_cons.2 ⟨hiL,h.nodup⟩,fun m hm d hd=>?_,fun j hj hje=>by simp [h.effs j hj hje],h.store,fun d hd=>?_,fun j hj hjL=>h.lag j hj (fun hm=>hjL (by simp [hm])),h.go⟩
      ·rcases List.mem_cons.1 hj with rfl | hj
       ·exact hid
       ·exact h.sub j hj
      ·rcases List.mem_cons.1 hm with rfl | hm
       ·simp [hdep d hd]
       ·simp [h.closed m hm d hd]
      ·simp only;by_cases hdi:(bn l i).dst=some d
       ·rw [hdi];simp only [aW];rw [if_pos trivial];exact (hvd d hdi).symm
       ·have h1:=h.slot d fun j hj hjL=>by
         by_cases hji:j=i
         ·rw [hji]; exact hdi
         ·exact hd j hj (by simp [hji,hjL])
        rw [←h1];cases hde:(bn l i).dst with
        | none=>rfl
        | some d' =>
          rw [hde] at hdi;simp only [aW];rw [if_neg (fun e'=>hdi (by rw [e']))]
    ·have hir:i∈rest++tail:=by
      have:=hE.mem i hil;rw [h.split,List.append_assoc] at this;exact (List.mem_append.1 this).resolve_left hid
     obtain ⟨hd0,rr,rfl⟩:∃a r,rest=a::r:=by
      cases rest with
      | nil =>
        exfalso;rw [List.nil_append] at hir;obtain ⟨s,hs,hsb⟩:=hF.later i hir hiS;exact hSL s hs (hbefL _ hsb)
      | cons a r=>exact ⟨a,r,rfl⟩
     have heff:=hhead hd0 rr rfl;have hh0:hd0∉done:=fun hm=>(List.nodup_append.1 hnd).2.2 hd0 hm hd0 (by simp) rfl;have hih:i=hd0:=by
      rcases List.mem_cons.1 (show i∈hd0::(rr++tail) from hir) with e | hir
      ·exact e
      ·exfalso;have:=hF.effs (done++[hd0]) (rr++tail) hd0 i (by rw [h.split]; simp) (by simp) hir (by rw [h.split]; simp) heff;exact hh0 (h.sub _ (hbefL _ this))
     subst hih;have hgo:=h.go;rw [show dN l bef done (i::rr)=2*i::(CD l bef done i++dN l bef (done++[i]) rr) from rfl,BL hil] at hgo;refine xQ huses h.store.symm (fun r σ' hK=>?_) hgo;rw [CD,if_pos heff] at hK;obtain ⟨hck,hgo'⟩:=qR (fun k=>!(cX l bef k) && (!(jt (bn l k).op) && !((eo bef i).contains k))) (fun j hj=>hE.lt j (by simp [hdp j hj])) hK;refine ih (i::L) _ (done++[i]) rr ⟨aW x.s (bn l i).dst r,σ'⟩ (by simp only [List.length_cons]; omega) (fun s hs hm=>(List.mem_cons.1 hm).elim (fun e=>hiS (e ▸ hs)) (hSL s hs)) ⟨by rw [h.split]; simp,fun j hj=>?_,List.nodup_cons.2 ⟨hiL,h.nodup⟩,fun m hm d hd=>?_,fun j hj hje=>?_,rfl,fun d hd=>?_,fun j hj hjL=>?_,hgo'⟩
     ·rcases List.mem_cons.1 hj with rfl | hj
      ·simp
      ·simp [h.sub j hj]
     ·rcases List.mem_cons.1 hm with rfl | hm
      ·simp [hdep d hd]
      ·simp [h.closed m hm d hd]
     ·rcases List.mem_append.1 hj with hj | hj
      ·simp [h.effs j hj hje]
      ·simp only [List.mem_singleton] at hj; simp [hj]
     ·have h1:(bn l i).dst=some d∨y.s d=x.s d:=by
       by_cases hdi:(bn l i).dst=some d
       ·exact .inl hdi
       ·exact .inr (h.slot d fun j hj hjL=>hd j (by simp [hj]) (by
         simp only [List.mem_cons,not_or];exact ⟨fun e=>hid (e ▸ hj),hjL⟩))
      simp only;cases hde:(bn l i).dst with
      | none=>rw [hde] at h1; exact h1.resolve_left (by simp)
      | some d' =>
        simp only [aW];split
        ·rfl
        ·rename_i hne;rw [hde] at h1;exact h1.resolve_left (fun e=>hne (by cases e; rfl))
     ·have hjd:j∈done:=by
       rcases List.mem_append.1 hj with hj | hj
       ·exact hj
       ·simp only [List.mem_singleton] at hj; exact absurd (by simp [hj]) hjL
      have hjL':j∉L:=fun hm=>hjL (by simp [hm]);have hjl:j < l.length:=hE.lt j (by simp [hdp j hjd]);have hji:j≠i:=fun e=>hid (e ▸ hjd);have hje:cX l bef j=false:=by
       cases hje:cX l bef j with
       | false=>rfl
       | true=>exact absurd (h.effs j hjd hje) hjL'
      cases hsf:jt (bn l j).op with
      | true =>
        refine qZ hE hjl hil hji (fun d hd hu=>?_) (fun v hv=>jj hsf hv) (h.lag j hjd hjL');rcases hE.anti j i hjl hil hji d hd hu with h1 | ⟨_,h1⟩
        ·obtain ⟨a,b,hab⟩:=List.append_of_mem hjd;have h2:=hE.kP (a:=a) (j:=j) (b:=b++i::rr++tail) (by rw [h.split,hab]; simp) i h1;exact hid (by rw [hab]; simp [h2])
        ·exact hjL' (hbefL j h1)
      | false =>
        refine hck j hjd ?_;simp only [hje,hsf,Bool.not_false,Bool.true_and,Bool.not_eq_true'];cases hc:(eo bef i).contains j with
        | false=>rfl
        | true=>exact absurd (hbefL j (List.contains_iff_mem.1 hc)) hjL'
   cases hr:dq D L with
   | cons a r=>unfold gC; rw [hr] at key ⊢; exact key
   | nil =>
     exfalso;have first:∀(a b:List Nat),pre++tail=a++b→(∀j∈a,j∈L)→(∃i∈b,i∉L)→∃a' e b',pre++tail=a'++e::b'∧(∀j∈a',j∈L)∧e∉L:=by
      intro a b
      induction b generalizing a with
      | nil=>rintro _ _ ⟨i,h,_⟩; cases h
      | cons e b ihb =>
        intro he ha hx;by_cases heL:e∈L
        ·refine ihb (a++[e]) (by rw [he]; simp) (fun j hj=>?_) ?_
         ·rcases List.mem_append.1 hj with hj | hj
          ·exact ha j hj
          ·simp only [List.mem_singleton] at hj; rw [hj]; exact heL
         ·obtain ⟨i,hi,hiL⟩:=hx;rcases List.mem_cons.1 hi with rfl | hi
          ·exact absurd heL hiL
          ·exact ⟨i,hi,hiL⟩
        ·exact ⟨a,e,b,he,ha,heL⟩
     obtain ⟨a,e,b,he,ha,heL⟩:=first [] (pre++tail) rfl (by simp) ⟨s0,by simp [hF.sub s0 hs0],hSL s0 hs0⟩
     have hel:e < l.length:=hE.lt e (by rw [he]; simp);have:e∈dq D L:=by
      unfold dq;refine List.mem_filter.2 ⟨by simp [hE.dlen,hel],?_⟩;simp only [Ba,Bool.not_eq_true',List.all_eq_true];exact ⟨by simpa using heL,fun d hd=>List.contains_iff_mem.2 (ha d (hE.ahead a e b he d hd))⟩
     rw [hr] at this;cases this
end
inductive PT where
 | leaf (bef:List (List Nat)) (r:List Nat)
 | fork (bef:List (List Nat)) (m:List Nat) (S:List Nat) (kids:List PT)
def PT.bef:PT→List (List Nat)
 | .leaf b _=>b
 | .fork b _ _ _=>b
def PT.ord:Nat→PT→List Nat
 | 0,_=>[]
 | f+1,t=>match t with
   | .leaf _ r=>r
   | .fork _ m _ kids=>m++(match kids with
     | k::_=>PT.ord f k
     | []=>[])
def Bf (g:Nat→PT→Bool):List Nat→List PT→Bool
 | [],[]=>true
 | s::ss,t::ts=>g s t && Bf g ss ts
 | _,_=>false
theorem rI {g:Nat→PT→Bool}:∀ {S:List Nat} {ts:List PT},Bf g S ts=true→∀s∈S,∃t∈ts,g s t=true
 | [],[],_,s,hs=>by cases hs
 | a::S,t::ts,h,s,hs=>by
   simp only [Bf,Ba] at h;rcases List.mem_cons.1 hs with rfl | hs
   ·exact ⟨t,by simp,h.1⟩
   ·obtain ⟨t',h1,h2⟩:=rI h.2 s hs;exact ⟨t',by simp [h1],h2⟩
def Ie (l:List aG) (D bef:List (List Nat)) (pre tail S:List Nat):Bool :=
 Ha l D bef (pre++tail) && (lK (fun a b=>!(pre.contains a) || (!(cX l bef a) || (eo bef b).contains a)) (pre++tail) &&
 (S.all tail.contains && (!S.isEmpty && tail.all fun i=>S.contains i || S.any fun s=>(eo bef i).contains s)))
def Eo (l:List aG):Nat→List (List Nat)→List Nat→PT→Bool
 | 0,_,_,_=>false
 | f+1,D,pre,t=>match t with
   | .leaf bef r=>eOk l D bef (pre++r)
   | .fork bef m S kids=>Ie l D bef (pre++m) (match kids with
      | k::_=>PT.ord f k
      | []=>[]) S && Bf (fun s k=>((pre++m).all fun i=>cX l k.bef i == cX l bef i) && Eo l f (mY D S s) (pre++m) k) S kids
def GT (P:Program) (l:List aG) (K:St→Prop):Nat→List Nat→PT→St→Prop
 | 0,_,_,_=>False
 | f+1,pre,t,x=>match t with
   | .leaf bef r=>RE P l K (dN l bef pre r) x
   | .fork bef m _ kids=>RE P l (fun x=>∀k∈kids,GT P l K f (pre++m) k x) (dN l bef pre m) x
theorem iU.more {l:List aG} {D bef:List (List Nat)} {pre m:List Nat} {K:St→Prop} {L:List Nat} {y:St} {done rest:List Nat} {x:St} (h:iU P l D bef pre (RE P l K (dN l bef pre m)) L y done rest x) :
 iU P l D bef (pre++m) K L y done (rest++m) x:=by
 refine ⟨by rw [h.split]; simp,h.sub,h.nodup,h.closed,h.effs,h.store,h.slot,h.lag,?_⟩;rw [mG,uN,←h.split];exact h.go
theorem iU.mono {l:List aG} {D bef:List (List Nat)} {pre:List Nat} {K K':St→Prop} (hk:∀x,K x→K' x) {L:List Nat} {y:St} {done rest:List Nat} {x:St} (h:iU P l D bef pre K L y done rest x) :
 iU P l D bef pre K' L y done rest x:=⟨h.split,h.sub,h.nodup,h.closed,h.effs,h.store,h.slot,h.lag,RE.mono hk h.go⟩
theorem AT {l:List aG} {K:St→Prop}:∀(fu:Nat) (D:List (List Nat)) (pre:List Nat) (t:PT),Eo l fu D pre t=true→∀(f:Nat) (L:List Nat) (y:St) (done rest:List Nat) (x:St),f+L.length=l.length →
 (∀i∈L,i∈pre)→iU P l D t.bef pre (GT P l K fu pre t) L y done rest x→gC P l D K f L y
 | 0,_,_,_,h,_,_,_,_,_,_,_,_,_=>by cases h
 | fu+1,D,pre,t,h,f,L,y,done,rest,x,hf,hLp,hl=>by
   cases t with
   | leaf bef r=>exact nR (xr h) f L y done (rest++r) x hf (iU.more hl)
   | fork bef m S kids =>
     simp only [Eo,Ba] at h;obtain ⟨h1,h2⟩:=h;generalize (match kids with
      | k::_=>PT.ord fu k
      | []=>[])=tail at h1
     simp only [Ie,Ba] at h1;obtain ⟨g1,g2,g3,g4,g5⟩:=h1;have hk:=rI h2;have hW:=vi g1;have hF:∀kid:Nat→PT,(∀s∈S,((pre++m).all fun i=>cX l (kid s).bef i == cX l bef i)=true)→FN l D bef (pre++m) tail S (fun s=>(kid s).bef):=fun kid hkid=>by
      refine ⟨hW,fun a b u v he hu hv hup hue=>?_,fun s hs=>by simpa using List.all_eq_true.1 g3 s hs,?_,fun i hi hiS=>?_,fun s hs i hi=>by simpa using List.all_eq_true.1 (hkid s hs) i hi⟩
      ·rw [he] at g2;have:=kV g2 hu hv;simp only [Bool.or_eq_true,Bool.not_eq_true',List.contains_iff_mem,hue,Bool.true_eq_false,false_or] at this;rcases this with h | h
       ·have hc:(pre++m).contains u=true:=List.contains_iff_mem.2 hup;rw [hc] at h; cases h
       ·exact h
      ·cases S with
       | nil=>simp at g4
       | cons s S=>exact ⟨s,by simp⟩
      ·have:=List.all_eq_true.1 g5 i hi;simp only [Bool.or_eq_true,List.contains_iff_mem,List.any_eq_true] at this;exact this.resolve_left hiS
     have hch:∀s,∃k:PT,s∈S→(k∈kids∧(((pre++m).all fun i=>cX l k.bef i == cX l bef i)=true∧Eo l fu (mY D S s) (pre++m) k=true)):=fun s=>by
      by_cases hs:s∈S
      ·obtain ⟨k,h3,h4⟩:=hk s hs;simp only [Ba] at h4;exact ⟨k,fun _=>⟨h3,h4⟩⟩
      ·exact ⟨.leaf [] [],fun h=>absurd h hs⟩
     obtain ⟨kid,hkid⟩:=Classical.axiomOfChoice hch;have hFN:=hF kid fun s hs=>(hkid s hs).2.1;have hSpre:∀s∈S,s∉pre++m:=fun s hs hm=>(List.nodup_append.1 hW.nodup).2.2 s hm s (hFN.sub s hs) rfl;refine zL (Ks:=fun s=>GT P l K fu (pre++m) (kid s)) hFN (fun s hs f L y done rest x hf hl=>?_) f L y done (rest++m) x hf (fun s hs hm=>hSpre s hs (List.mem_append_left _ (hLp s hm))) ?_
     ·refine AT fu _ _ _ (hkid s hs).2.2 f L y done rest x hf (fun i hi=>?_) hl;have:=hl.sub i hi;rw [hl.split]; simp [this]
     ·exact iU.mono (fun x hx s hs=>hx (kid s) (hkid s hs).1) (iU.more hl)
theorem ad.EZ (hm:P.follows .mixedOrders=true) {l:List aG} {deps:List (List Nat)} (fu:Nat) (t:PT) (hB:Eo l fu deps [] t=true) (h:GT P l (fun x=>ad P n k x Q) fu [] t st):ad P n (.code (.regA l deps)::k) st Q:=by
 refine ad.Ij hm (AT fu deps [] t hB l.length [] st [] [] st (by simp) (by simp) ⟨rfl,by simp,List.nodup_nil,by simp,by simp,rfl,fun _ _=>rfl,by simp,?_⟩);exact h
variable {P:Program} {l:List aG} {K:St→Prop} {f:Nat} {pre m S r its:List Nat} {bef:List (List Nat)} {a b c:PT} {x:St}
theorem GT.je (h:dN l bef pre r=its) (hg:RE P l K its x):GT P l K (f+1) pre (.leaf bef r) x:=by subst h; exact hg
theorem GT.pJ (h:dN l bef pre m=its) (hg:RE P l (fun x=>GT P l K f (pre++m) a x∧GT P l K f (pre++m) b x) its x):GT P l K (f+1) pre (.fork bef m S [a,b]) x:=by
 subst h;refine RE.mono (fun x hx k hk=>?_) hg;simp only [List.mem_cons,List.not_mem_nil,or_false] at hk;rcases hk with rfl | rfl
 ·exact hx.1
 ·exact hx.2
theorem GT.LC (h:dN l bef pre m=its) (hg:RE P l (fun x=>GT P l K f (pre++m) a x∧GT P l K f (pre++m) b x∧GT P l K f (pre++m) c x) its x):GT P l K (f+1) pre (.fork bef m S [a,b,c]) x:=by
 subst h;refine RE.mono (fun x hx k hk=>?_) hg;simp only [List.mem_cons,List.not_mem_nil,or_false] at hk;rcases hk with rfl | rfl | rfl
 ·exact hx.1
 ·exact hx.2.1
 ·exact hx.2.2
open Go.Proofs Go.Proofs.Tryz
def nu (fs:List Flo) (y:Int):Int:=if (dH rJ fs).2 then max y (dH rJ fs).1 else y
def jY (fs:List Flo) (f:Flo) (y:Int) (s:Spn):Int:=nQ fs f.w f.h s (nu fs y)
def n7 (fs:List Flo) (f:Flo) (y:Int) (s:Spn):Int :=
 let b:=dx fs (jY fs f y s) f.h s
 if f.side=1 then b.a else max b.a (b.b - f.w)
def ik (fs:List Flo) (f:Flo) (y:Int) (s:Spn):Flo:={ f with x:=n7 fs f y s,y:=jY fs f y s }
def qH (fs:List Flo) (f:Flo) (y:Int) (s:Spn):List Flo:=fs++[ik fs f y s]
theorem Gu {fs:List Flo} {y:Int} (hok:∀f∈fs,f.ok) (hy:Bq2 y):Bq2 (nu fs y):=by
 unfold nu;split
 ·rename_i h;obtain ⟨f,hf,h1,_⟩:=kz h;obtain ⟨_,⟨h3,h4⟩,_⟩:=hok f hf;obtain ⟨g1,g2⟩:=hy;rw [h1];simp only [rJ];exact ⟨by omega,by omega⟩
 ·exact hy
theorem JP (fs:List Flo) (f:Flo) (y:Int) (s:Spn) (hl:fs.length≤1000000) (hok:∀f∈fs,f.ok) (hy:Bq2 y) (hh:Bq f.h) (hw:Bq f.w) (hs1:Bq2 s.a∧Bq2 s.b) :
 aV prog 163 [aK fs,aO f,vI y,aZ s] (.tup [vI (n7 fs f y s),vI (jY fs f y s)]):=fun σ=>by
 refine MN.r (by simp [I9]) ?_;have hs:=aa.refl σ;refine ad.mix 14 ?_;apply sR;simp only [go_sem,seval,I9,aO,aZ];refine ae fun i5 σ5 s5 a5 f5=>?_;have z5:=hs.none f5;replace hs:=hs.trans s5;simp only [go_sem,seval,a5];refine ae fun i7 σ7 s7 a7 f7=>?_;have n57:=ao a5 f7;replace a5:=s7 _ _ a5;have z7:=hs.none f7;replace hs:=hs.trans s7;simp only [go_sem,seval,a7,a5];refine ad.az rfl rfl rfl (Mn fs hl hok _) ?_;have hty:=Gu (y:=y) hok hy;have hdn:=Hi fs f (nu fs y) s hl hok hty hh hs1;have hbo:=lC (y:=jY fs f y s) (high:=f.h) hok hs1;obtain ⟨z,hz⟩:∃z,z=jY fs f y s:=⟨_,rfl⟩
 have hz2:nQ fs f.w f.h s (nu fs y)=z:=hz.symm;rw [hz2] at hdn;rw [←hz] at hbo;obtain ⟨b,hb⟩:∃b,b=dx fs z f.h s:=⟨_,rfl⟩
 have hx:n7 fs f y s=if f.side=1 then b.a else max b.a (b.b - f.w):=by unfold n7; rw [←hz,←hb]
 rw [←hz,hx];rw [←hb] at hdn hbo;obtain ⟨hb1,hb2,hb3,hb4⟩:-2305843009213693952≤b.a∧b.a≤2305843009213693952∧-2305843009213693952≤b.b∧b.b≤2305843009213693952:=⟨hbo.1.1,hbo.1.2,hbo.2.1,hbo.2.2⟩
 obtain ⟨hw1,hw2⟩:=hw;cases ht:(dH rJ fs).2
 ·have hty2:nu fs y=y:=by unfold nu; rw [ht]; rfl
  rw [hty2] at hdn;apply sR;simp only [go_sem,seval,a7,a5,aS,aU];refine ad.az rfl rfl rfl (hdn _) ?_;apply sR;simp only [go_sem,seval,a7,a5,aZ];refine ae fun i12 σ12 s12 a12 f12=>?_;have n512:=ao a5 f12;replace a5:=s12 _ _ a5;have n712:=ao a7 f12;replace a7:=s12 _ _ a7;have z12:=hs.none f12;replace hs:=hs.trans s12;by_cases hsd:f.side=1
  ·have q:(f.side=1)=True:=eq_true hsd;rw [if_pos hsd];simp only [go_sem,seval,a12,a7,a5,q,ab n512,ab n712];exact au.pure (hs.aD z12) rfl
  ·have q:(f.side=1)=False:=eq_false hsd;rw [if_neg hsd];have r1:inR .i64 (b.b - f.w):=ak (by omega) (by omega);simp only [go_sem,seval,a12,a7,a5,q,r1,cG,ab n512,ab n712];exact au.pure (hs.aD z12) rfl
 ·have hty2:nu fs y=max y (dH rJ fs).1:=by unfold nu; rw [ht]; rfl
  rw [hty2] at hdn;apply sR;simp only [go_sem,seval,a7,a5,aS,aU,cG];refine ad.az rfl rfl rfl (hdn _) ?_;apply sR;simp only [go_sem,seval,a7,a5,aZ];refine ae fun i12 σ12 s12 a12 f12=>?_;have n512:=ao a5 f12;replace a5:=s12 _ _ a5;have n712:=ao a7 f12;replace a7:=s12 _ _ a7;have z12:=hs.none f12;replace hs:=hs.trans s12;by_cases hsd:f.side=1
  ·have q:(f.side=1)=True:=eq_true hsd;rw [if_pos hsd];simp only [go_sem,seval,a12,a7,a5,q,ab n512,ab n712];exact au.pure (hs.aD z12) rfl
  ·have q:(f.side=1)=False:=eq_false hsd;rw [if_neg hsd];have r1:inR .i64 (b.b - f.w):=ak (by omega) (by omega);simp only [go_sem,seval,a12,a7,a5,q,r1,cG,ab n512,ab n712];exact au.pure (hs.aD z12) rfl
open Go.Proofs Go.Proofs.Tryz
def cq (p:Int→Bool):List Int→Int
 | []=>-1
 | x::l=>if p x then 0 else if cq p l < 0 then -1 else cq p l+1
def od (p:Int→Bool) (i:Nat) (l:List Int):Int:=if cq p l < 0 then -1 else cq p l+i
theorem gG (p:Int→Bool):∀l, -1≤cq p l
 | []=>by simp [cq]
 | x::l=>by
   have:=gG p l;simp only [cq];split
   ·omega
   ·split <;> omega
theorem CJ (p:Int→Bool) (l:List Int):cq p l=od p 0 l:=by
 have:=gG p l;unfold od;split <;> omega
theorem kQ {σ:af} {sv:V} {l:List Int} {f:FuncId} {caps:List V} {p:Int→Bool} (hr:Reads σ 1 false sv (l.map vI)) (hl:l.length≤200000000000000)
 (hf:∀n∈l,av prog f (vI n::caps) σ fun r σ'=>r=.bool (p n)∧σ'=σ) :
 av prog 133 [sv, .fn f caps] σ fun r σ'=>r=vI (cq p l)∧σ'=σ:=by
 have hlen:dK false sv=some (vI (l.length:Int)):=by simpa using hr.1
 refine Oa.r (by simp [Kg]) ?_;apply sR;simp only [go_sem,seval,aH,aL,Kg,hlen];refine ad.loop (fun m st=>∃i:Nat,i≤l.length∧m=l.length - i∧cq p l=od p i (l.drop i)∧st.σ=σ∧st.s 0=sv∧st.s 1=.fn f caps∧st.s 7=vI l.length∧st.s 8=vI i) l.length ?_ ?_
 ·exact ⟨0,by omega,by omega,CJ p l,rfl,rfl,rfl,rfl,rfl⟩
 ·rintro m ⟨s,σ'⟩ ⟨i,hi,rfl,hp,hσ,h0,h1,h7,h8⟩;simp only at h0 h1 h7 h8 hσ;subst hσ;apply sR;simp only [go_sem,seval,aH,aL,h0,h1,h7,h8];constructor
  ·intro hlt;have hlt':i < l.length:=by omega
   have hd:l.drop i=l[i]::l.drop (i+1):=List.drop_eq_getElem_cons hlt';obtain ⟨pp,e1,e2⟩:=hr.2 i (vI l[i]) (by simp [hlt']);simp only [go_sem,seval,aH,aL,e1,e2,rU];refine ad.az rfl rfl rfl (hf l[i] (List.getElem_mem hlt')) ?_;apply sR;simp only [go_sem,seval,aH,aL,h0,h1,h7,h8];cases hpx:p l[i]
   ·simp only [go_sem,seval,aH,aL,h8];refine ⟨ak (by omega) (by omega),_,?_,i+1,by omega,rfl,?_,h0,h1,h7,?_⟩
    ·omega
    ·rw [hp,hd];simp only [od,cq,hpx,Bool.false_eq_true,if_false];have:=gG p (l.drop (i+1))
     repeat' split
     all_goals omega
    ·simp
   ·simp only [go_sem,seval,aH,aL];refine au.same ?_;rw [hp,hd];simp [od,cq,hpx]
  ·intro hge;have:i=l.length:=by omega
   refine au.same ?_;rw [hp,this,List.drop_length];rfl
open Go.Proofs Go.Proofs.Tryz
def Nd.ok (x:Nd):Bool :=
 if x.kind=1 then x.st.ok && decide (x.line=0) && decide (x.space=0) && decide (x.words.length=0) && decide (x.side=0) && decide (x.w=0) && decide (x.h=0)
 else if x.st≠Sty.zero then false
 else if x.kind=2 then x.words.all (bg · 1 mx) && decide (0 < x.words.length) && bg x.line 1 mx && bg x.space 0 mx && decide (x.side=0) && decide (x.w=0) && decide (x.h=0)
 else decide (x.line=0) && decide (x.space=0) && decide (x.words.length=0) && bg x.w 1 mx && bg x.h 1 mx &&
  (decide (x.kind=3) && decide (x.side=0) || decide (x.kind=4) && bg x.side 1 2)
theorem dz (l:List Int):dK false (bh l)=some (.int .i64 l.length):=by simp [bh,dK]
theorem sJ (b:Bool):V.bool b=V.bool (decide (b=true)):=by cases b <;> rfl
open Go.Proofs Go.Proofs.Tryz
theorem lL {σ:af} {l:List Nd} {i:Nat} (h:i < l.length):bF σ 20 (aJ l) (.int .i64 i)=some (.rp (.agg (Nd.cells l[i]))):=by
 simp [aJ,bF,h,gP]
def bT (l:List Nd) (a e:Nat):Bool :=
 if _h:a < e then
  match l[a]? with
  | none=>false
  | some x=>if _hx:1≤x.size∧x.size≤(e:Int) - a then
     (decide (x.kind=1) || decide (x.size≤1)) && bT l (a+1) (a+x.size.toNat) && bT l (a+x.size.toNat) e else false
 else true
termination_by e - a
decreasing_by all_goals omega
open Go.Proofs Go.Proofs.Tryz
def dJ (l:List Nd):Prop:=l.length≤10000∧∀x∈l,x.words.length≤200000000000000
def isB (l:List Nd):Bool:=l.all Nd.ok && bT l 0 l.length
theorem tL (σ:af) (x:Nd):bO σ true 20 (.rp (.agg x.cells))=some (gP x):=rfl
open Go.Proofs Go.Proofs.Tryz
theorem gO (l:List Nd):∀(m a e:Nat),e - a < m→e≤l.length→bT l a e=true→∀k,a≤k→(h:k < e)→(h2:k < l.length)→1≤l[k].size∧l[k].size≤(e:Int) - k∧(l[k].kind=1∨l[k].size≤1)
 | 0,_,_,h,_,_=>by omega
 | m+1,a,e,hm,he,hr=>by
   intro k hk hke h2;have hae:a < e:=by omega
   have ha:a < l.length:=by omega
   rw [bT,dif_pos hae] at hr;have hga:l[a]?=some l[a]:=by simp [ha]
   rw [hga] at hr;simp only at hr;split at hr
   ·rename_i hx;simp only [Ba,Bool.or_eq_true,decide_eq_true_eq] at hr;obtain ⟨⟨h3,h4⟩,h5⟩:=hr;by_cases hka:k=a
    ·subst hka; exact ⟨hx.1,hx.2,h3⟩
    ·by_cases hin:k < a+l[a].size.toNat
     ·obtain ⟨g1,g2,g3⟩:=gO l m (a+1) (a+l[a].size.toNat) (by omega) (by omega) h4 k (by omega) hin h2;exact ⟨g1,by omega,g3⟩
     ·exact gO l m (a+l[a].size.toNat) e (by omega) he h5 k (by omega) hke h2
   ·cases hr
structure Sm where
 (depth pieces nodes heights:Int)
deriving DecidableEq
def Sm.cells (s:Sm):List V:=[vI s.depth,vI s.pieces,vI s.nodes,vI s.heights]
def jg (a b:Int):Int:=min (a+b) 1099511627777
def gW (l:List Nd) (i:Nat):Nat→Int
 | 0=>0
 | k+1=>gW l i k+(match l[k]? with
   | some y=>if y.kind=1∧(i:Int) < k+y.size then 1 else 0
   | none=>0)
def AA (a b:Int):Nat→Int
 | 0=>a
 | n+1=>jg (AA a b n) b
def mR (l:List Nd) (i:Nat) (x:Nd) (s:Sm):Sm :=
 if x.kind=1 then { s with depth:=max s.depth (gW l i (i+1)),heights:=jg (jg (jg (jg (jg s.heights x.st.top) x.st.bottom) x.st.padTop) x.st.padBottom) x.st.head }
 else if x.kind=2 then { s with pieces:=s.pieces+x.words.length,heights:=AA s.heights x.line x.words.length }
 else { s with pieces:=s.pieces+1,heights:=jg s.heights x.h }
def ga (l:List Nd) (s:Sm):Nat→Sm
 | 0=>s
 | i+1=>match l[i]? with
   | some x=>mR l i x (ga l s i)
   | none=>ga l s i
def gX (l:List Nd):Sm×Int:=if isB l then (ga l ⟨0,0,l.length,0⟩ l.length,0) else (⟨0,0,0,0⟩,4)
theorem eX {a b:Int} (h1:0≤a∧a≤1099511627777) (h2:0≤b):0≤jg a b∧jg a b≤1099511627777:=by
 unfold jg; omega
theorem BF {a b:Int} (h1:0≤a∧a≤1099511627777) (h2:0≤b):∀n,0≤AA a b n∧AA a b n≤1099511627777
 | 0=>h1
 | n+1=>eX (BF h1 h2 n) h2
theorem so (l:List Nd) (i:Nat):∀k,0≤gW l i k∧gW l i k≤k
 | 0=>by simp [gW]
 | k+1=>by
   have:=so l i k;simp only [gW];split
   ·split <;> omega
   ·omega
theorem jh {x:Nd} (h:x.ok=true):(x.kind=1∨x.kind=2∨x.kind=3∨x.kind=4)∧0≤x.line∧x.line≤mx∧0≤x.h∧x.h≤mx ∧
 (x.kind=1→(0≤x.st.top∧x.st.top≤mx)∧(0≤x.st.bottom∧x.st.bottom≤mx)∧(0≤x.st.padTop∧x.st.padTop≤mx)∧(0≤x.st.padBottom∧x.st.padBottom≤mx)∧(0≤x.st.head∧x.st.head≤mx)):=by
 unfold Nd.ok at h;split at h
 ·rename_i hk;simp only [Sty.ok,bg,Ba,decide_eq_true_eq] at h ⊢; simp only [mx] at h ⊢;refine ⟨.inl hk,by omega,by omega,by omega,by omega,fun _=>?_⟩;omega
 ·split at h
  ·cases h
  ·split at h
   ·rename_i h1 _ hk;simp only [bg,Ba,decide_eq_true_eq] at h ⊢; simp only [mx] at h ⊢;exact ⟨.inr (.inl hk),by omega,by omega,by omega,by omega,fun e=>absurd e h1⟩
   ·rename_i h1 _ _;simp only [bg,Ba,Bool.or_eq_true,decide_eq_true_eq] at h ⊢; simp only [mx] at h ⊢;exact ⟨by omega,by omega,by omega,by omega,by omega,fun e=>absurd e h1⟩
def Sm.tB (s:Sm) (k:Int):Prop:=(0≤s.depth∧s.depth≤k)∧(0≤s.pieces∧s.pieces≤k*200000000000000)∧(0≤s.heights∧s.heights≤1099511627777)
theorem C8 {l:List Nd} {i:Nat} {x:Nd} {s:Sm} (hx:x.ok=true) (hw:x.words.length≤200000000000000) (h:s.tB i):(mR l i x s).tB (i+1):=by
 obtain ⟨h1,h2,h3⟩:=h;obtain ⟨g1,g2,g3,g4,g5,g6⟩:=jh hx;unfold mR;split
 ·rename_i hk;obtain ⟨a1,a2,a3,a4,a5⟩:=g6 hk;have hd:=so l i (i+1);refine ⟨?_,?_,eX (eX (eX (eX (eX h3 a1.1) a2.1) a3.1) a4.1) a5.1⟩
  ·simp only; omega
  ·simp only; omega
 ·split
  ·refine ⟨?_,?_,BF h3 g2 _⟩
   ·simp only; omega
   ·simp only; omega
  ·refine ⟨?_,?_,eX h3 g4⟩
   ·simp only; omega
   ·simp only; omega
open Go.Proofs Go.Proofs.Tryz
def Sm.zero:Sm:=⟨0,0,0,0⟩
open Go.Proofs Go.Proofs.Tryz
theorem tC (p:Int→Bool):∀l,decide (cq p l≥0)=l.any p
 | []=>by simp [cq]
 | x::l=>by
   have ih:=tC p l;simp only [cq,List.any_cons];have hg:=gG p l;rw [←ih,Bool.eq_iff_iff];simp only [decide_eq_true_eq,Bool.or_eq_true];split
   ·rename_i h; simp [h]
   ·rename_i h;simp only [h,Bool.false_eq_true,false_or];by_cases hx:cq p l < 0
    ·rw [if_pos hx]; constructor <;> intro hh <;> simp at hh ⊢ <;> omega
    ·rw [if_neg hx]; constructor <;> intro hh <;> simp at hh ⊢ <;> omega
theorem ln {σ:af} {sv:V} {l:List Int} {f:FuncId} {caps:List V} {p:Int→Bool} (hr:Reads σ 1 false sv (l.map vI)) (hl:l.length≤200000000000000)
 (hf:∀n∈l,av prog f (vI n::caps) σ fun r σ'=>r=.bool (p n)∧σ'=σ) :
 av prog 172 [sv, .fn f caps] σ fun r σ'=>r=.bool (l.any p)∧σ'=σ:=by
 refine MA.r (by simp [JI]) ?_;apply sR;simp only [go_sem,seval,aH,aL,JI];refine ad.az rfl rfl rfl (kQ hr hl hf) ?_;apply sR;simp only [go_sem,seval,aH,aL];refine au.same ?_;rw [←tC]
theorem KE {σ:af} {id:Nat} {a b:Int} (h:σ id=some ⟨230,2,[.agg [vI a,vI b]]⟩) (n:Int) :
 av prog 175 [vI n, .ptr id 0 0] σ fun r σ'=>r=.bool (!bg n a b)∧σ'=σ:=by
 refine NS.r (by simp [I6]) ?_;apply sR;simp only [go_sem,seval,aH,aL,I6,h];refine And.intro (fun h=>?_) (fun h=>?_)
 ·refine au.same ?_;congr 1;simp only [bg];rw [←decide_not,decide_eq_decide];omega
 ·refine au.same ?_;have:¬(n≥a∧n≤b):=by omega
  simp only [bg,this,decide_false,Bool.not_false]
theorem Reads.mono {σ σ':af} {sz:Nat} {agg:Bool} {sv:V} {rows:List V} (h:aa σ σ') (hr:Reads σ sz agg sv rows):Reads σ' sz agg sv rows:=by
 refine ⟨hr.1,fun i v hv=>?_⟩;obtain ⟨p,h1,h2⟩:=hr.2 i v hv;refine ⟨p,?_,?_⟩
 ·cases sv <;> simp only [bF,reduceCtorEq] at h1 ⊢
  ·exact h1
  ·rename_i id off len;cases ho:σ id with
   | none=>rw [ho] at h1; cases h1
   | some ob=>rw [ho] at h1; rw [h id ob ho]; exact h1
 ·cases p <;> simp only [bO,reduceCtorEq] at h2 ⊢
  ·rename_i id i k;cases ho:σ id with
   | none=>rw [ho] at h2; cases h2
   | some ob=>rw [ho] at h2; rw [h id ob ho]; exact h2
  ·exact h2
theorem HZ {σ:af} {sv:V} {l:List Int} {a b:Int} (hr:Reads σ 1 false sv (l.map vI)) (hl:l.length≤200000000000000) :
 av prog 132 [.agg [vI a,vI b],sv] σ fun r σ'=>r=.bool (l.all fun n=>bg n a b)∧σ'=σ:=by
 refine Ol.r (by simp [JA]) ?_;apply sR;simp only [go_sem,seval,aH,aL,JA];intro id hid;refine ad.az rfl rfl rfl (ln (p:=fun n=>!bg n a b) (hr.mono ((aa.refl σ).upd hid)) hl (fun n _=>KE ag n)) ?_;apply sR;simp only [go_sem,seval,aH,aL];refine au.pure ((aa.refl σ).upd hid) ?_;rw [List.all_eq_not_any_not]
open Go.Proofs Go.Proofs.Tryz
def fb:List V→Option (List Int)
 | []=>some []
 | .int .i64 n::l=>(fb l).map (n::·)
 | _=>none
theorem ke:∀ {l:List V} {m:List Int},fb l=some m→l=m.map vI
 | [],m,h=>by simp [fb] at h; subst h; rfl
 | v::l,m,h=>by
   cases v <;> try (simp [fb] at h)
   rename_i k n;cases k <;> try (simp [fb] at h)
   obtain ⟨m',h1,rfl⟩:=h;rw [ke h1]; rfl
theorem rT (m:List Int):fb (m.map vI)=some m:=by
 induction m with
 | nil=>rfl
 | cons n m ih=>simp [fb,ih]
def eJ (σ:af):V→Option (List Int)
 | .own id off len=>match σ id with
    | some ob=>if ob.sz=1∧off+len≤ob.rows.length∧len≤200000000000000 then (if (fb ob.rows).isSome then fb ((ob.rows.drop off).take len) else none) else none
    | none=>none
 | .sl 1 rows=>if rows.length≤200000000000000 then fb rows else none
 | _=>none
theorem lM {σ:af} {sv:V} {l:List Int} (h:eJ σ sv=some l):Reads σ 1 false sv (l.map vI)∧l.length≤200000000000000:=by
 unfold eJ at h;split at h
 ·rename_i id off len;split at h
  ·rename_i ob hob;split at h
   ·rename_i hc;split at h
    ·rename_i hi;have he:=ke h;obtain ⟨m,hm⟩:=Option.isSome_iff_exists.1 hi;have hm:=ke hm;have hr:=Reads.own (σ:=σ) hob hc.1 hc.2.1 (fun r hr=>by rw [hm] at hr; simp only [List.mem_map] at hr; obtain ⟨n,_,rfl⟩:=hr; rfl);rw [he] at hr;have hl:l.length=len:=by
      have:=congrArg List.length he;simp at this;omega
     exact ⟨hr,by omega⟩
    ·cases h
   ·cases h
  ·cases h
 ·rename_i rows;split at h
  ·rename_i hc;have he:=ke h;subst he;exact ⟨Reads.ints,by simpa using hc⟩
  ·cases h
 ·cases h
theorem mC {σ σ':af} (hs:aa σ σ') {sv:V} {l:List Int} (h:eJ σ sv=some l):eJ σ' sv=some l:=by
 unfold eJ at h ⊢;split at h
 ·split at h
  ·rename_i ob hob;simp only [hs _ _ hob];exact h
  ·cases h
 ·exact h
 ·cases h
theorem mF (σ:af) {l:List Int} (h:l.length≤200000000000000):eJ σ (bh l)=some l:=by
 simp only [bh,eJ,List.length_map,if_pos h];exact rT l
def o10 (f:FuncId) (args:List V) (σ:af):Option V:=if f=132 then (match args with
 | [.agg [.int .i64 a, .int .i64 b],sv]=>(eJ σ sv).map fun l=>.bool (l.all fun n=>bg n a b)
 | _=>none) else none
def O10:Orc prog where
 get:=o10
 up f args σ σ' v hs h:=by
  unfold o10 at h ⊢;split at h
  ·rename_i hf;rw [if_pos hf];split at h
   ·simp only [Option.map_eq_some_iff] at h ⊢;obtain ⟨l,h1,h2⟩:=h;exact ⟨l,mC hs h1,h2⟩
   ·cases h
  ·cases h
 ok f args σ v h:=by
  unfold o10 at h;split at h
  ·rename_i hf;subst hf;split at h
   ·simp only [Option.map_eq_some_iff] at h;obtain ⟨l,h1,rfl⟩:=h;obtain ⟨g1,g2⟩:=lM h1;exact HZ g1 g2
   ·cases h
  ·cases h
theorem rX (a b:Int) (sv:V) (σ:af):O10.get 132 [.agg [.int .i64 a, .int .i64 b],sv] σ=(eJ σ sv).map fun l=>.bool (l.all fun n=>bg n a b):=rfl
theorem cA (σ:af) (id off len:Nat):eJ σ (.own id off len)=match σ id with
 | some ob=>if ob.sz=1∧off+len≤ob.rows.length∧len≤200000000000000 then (if (fb ob.rows).isSome then fb ((ob.rows.drop off).take len) else none) else none
 | none=>none:=rfl
theorem dB (n:Int) (l:List V):fb (.int .i64 n::l)=(fb l).map (n::·):=rfl
theorem dE:fb []=some []:=rfl
theorem EN (s:Sty):aV prog 131 [.agg s.cells] (.bool s.ok):=fun σ=>by
 refine M9.r (by simp [KF]) ?_;refine ad.mix 6 ?_
 (refine ad.bD O10 300 ?_; simp only [go_sem,seval,KF,Sty.cells])
 refine ae fun id1 σ1 s1 a1 f1=>?_;simp only [go_sem,seval];refine ae fun id3 σ2 s2 a3 f3=>?_;have n13:=ao a1 f3;have a1:=s2 _ _ a1;simp only [go_sem,seval,a1];refine ae fun id4 σ3 s3 a4 f4=>?_;have n14:=ao a1 f4;have n34:=ao a3 f4;have a1:=s3 _ _ a1;have a3:=s3 _ _ a3;have hs:aa σ σ3:=(s1.trans s2).trans s3;have g3:σ id3=none:=s1.none f3;have g4:σ id4=none:=(s1.trans s2).none f4;simp only [go_sem,seval,a1,a3,a4,ab n34,ab n34.symm,ab n13,ab n14];have hs':=fun o o'=>(hs.aD (o:=o) g3).aD (o:=o') g4;refine ae fun id5 σ4 s4 a5 f5=>?_;have a1:=s4 id1 _ (by rw [ab n14,ab n13]; exact a1);have a4:=s4 id4 _ ag;have hs:=(hs' _ _).trans s4;simp only [go_sem,seval,a1,a4,a5,rX,cA,dB,dE,bg,←Bool.decide_and];refine And.intro (fun p0=>?_) (fun p0=>au.pure hs (by rw [V.bool.injEq]; symm; rw [Bool.eq_false_iff]; intro h; simp [Sty.ok,bg,mx] at h; omega));refine ae fun id6 σ5 s5 a6 f6=>?_;have a1:=s5 _ _ a1;have hs:=hs.trans s5;simp only [go_sem,seval,a1,a6,rX,cA,dB,dE,bg,←Bool.decide_and];refine And.intro (fun p1=>?_) (fun p1=>au.pure hs (by rw [V.bool.injEq]; symm; rw [Bool.eq_false_iff]; intro h; simp [Sty.ok,bg,mx] at h; omega));refine ae fun id7 σ6 s6 a7 f7=>?_;have a1:=s6 _ _ a1;have hs:=hs.trans s6;simp only [go_sem,seval,a1,a7,rX,cA,dB,dE,bg,←Bool.decide_and];refine And.intro (fun p2=>?_) (fun p2=>au.pure hs (by rw [V.bool.injEq]; symm; rw [Bool.eq_false_iff]; intro h; simp [Sty.ok,bg,mx] at h; omega));refine ae fun id8 σ7 s7 a8 f8=>?_;have a1:=s7 _ _ a1;have hs:=hs.trans s7;simp only [go_sem,seval,a1,a8,rX,cA,dB,dE,bg,←Bool.decide_and];refine And.intro (fun p3=>?_) (fun p3=>au.pure hs (by rw [V.bool.injEq]; symm; rw [Bool.eq_false_iff]; intro h; simp [Sty.ok,bg,mx] at h; omega));refine ae fun id9 σ8 s8 a9 f9=>?_;have a1:=s8 _ _ a1;have hs:=hs.trans s8;simp only [go_sem,seval,a1,a9,rX,cA,dB,dE,bg,←Bool.decide_and];refine au.pure hs ?_;rw [V.bool.injEq,Bool.eq_iff_iff];simp [Sty.ok,bg,mx];omega
open Go.Proofs Go.Proofs.Tryz
def gy (l:List Nd):Int:=if isB l then (if (gX l).1.depth > 16∨(gX l).1.pieces > 2000∨(gX l).1.nodes > 2000∨(gX l).1.heights > 1099511627776 then 2 else 0) else 4
open Go.Proofs Go.Proofs.Tryz
def o12 (f:FuncId) (args:List V) (σ:af):Option V:=if f=132 then (match args with
 | [.agg [.int .i64 a, .int .i64 b],sv]=>(eJ σ sv).map fun l=>.bool (l.all fun n=>bg n a b)
 | _=>none) else if f=131 then (match args with
 | [.agg [.int .i64 a, .int .i64 b, .int .i64 c, .int .i64 d, .int .i64 e, .int .i64 f, .int .i64 g, .int .i64 h, .int .i64 i, .int .i64 j, .int .i64 k, .int .i64 l]]=>some (.bool (Sty.ok ⟨a,b,c,d,e,f,g,h,i,j,k,l⟩))
 | _=>none) else none
def O12:Orc prog where
 get:=o12
 up f args σ σ' v hs h:=by
  unfold o12 at h ⊢;split at h
  ·rename_i hf;rw [if_pos hf];split at h
   ·simp only [Option.map_eq_some_iff] at h ⊢;obtain ⟨l,h1,h2⟩:=h;exact ⟨l,mC hs h1,h2⟩
   ·cases h
  ·rename_i hf;rw [if_neg hf];exact h
 ok f args σ v h:=by
  unfold o12 at h;split at h
  ·rename_i hf;subst hf;split at h
   ·simp only [Option.map_eq_some_iff] at h;obtain ⟨l,h1,rfl⟩:=h;obtain ⟨g1,g2⟩:=lM h1;exact HZ g1 g2
   ·cases h
  ·split at h
   ·rename_i hf;subst hf;split at h
    ·simp only [Oi] at h;subst h;exact EN ⟨_,_,_,_,_,_,_,_,_,_,_,_⟩ σ
    ·cases h
   ·cases h
theorem pr (a b:Int) (sv:V) (σ:af):O12.get 132 [.agg [.int .i64 a, .int .i64 b],sv] σ=(eJ σ sv).map fun l=>.bool (l.all fun n=>bg n a b):=rfl
theorem oN (a b c d e f g h i j k l:Int) (σ:af):O12.get 131 [.agg [.int .i64 a, .int .i64 b, .int .i64 c, .int .i64 d, .int .i64 e, .int .i64 f, .int .i64 g, .int .i64 h, .int .i64 i, .int .i64 j, .int .i64 k, .int .i64 l]] σ =
 some (.bool (Sty.ok ⟨a,b,c,d,e,f,g,h,i,j,k,l⟩)):=rfl
theorem iN (s:Sty):(decide (s.top=0) && (decide (s.bottom=0) && (decide (s.padTop=0) && (decide (s.padBottom=0) && (decide (s.inset=0) && (decide (s.orphans=0) && (decide (s.widows=0) && (decide (s.head=0) &&
 (decide (s.before=0) && (decide (s.after=0) && (decide (s.inside=0) && decide (s.clear=0))))))))))))=decide (s=Sty.zero):=by
 rw [Bool.eq_iff_iff];cases s;simp [Sty.zero]
theorem HM (x:Nd) (hl:x.words.length≤200000000000000) (k4:x.kind=4):aV prog 90 [gP x] (.bool x.ok):=fun σ=>by
 refine e90.r (by simp [c90]) ?_;refine ad.mix 6 ?_
 (refine ad.bD O12 300 ?_; simp only [go_sem,seval,c90,gP,Nd.cells])
 refine ae fun id1 σ1 s1 a1 f1=>?_;simp only [go_sem,seval,a1];refine ae fun id3 σ2 s2 a3 f3=>?_;have n13:=ao a1 f3;have a1:=s2 _ _ a1;have hs:=(s1.trans s2).aD (s1.none f3) (o:=⟨230,2,[.agg [vI 1,vI 1099511627776]]⟩);have hok3:x.ok=(decide (x.st=Sty.zero) && (decide (x.line=0) && decide (x.space=0) && decide (x.words.length=0) && bg x.w 1 mx && bg x.h 1 mx && bg x.side 1 2)):=by
  by_cases hst:x.st=Sty.zero <;> simp [Nd.ok,k4,hst]
 simp only [go_sem,seval,a1,a3,ab n13,iN,dz,k4,oN,uf,ag];refine And.intro (fun e1=>And.intro (fun e2=>And.intro (fun z=>And.intro (fun w=>?_) (fun w=>?_)) (fun z=>?_)) (fun e2=>?_)) (fun e1=>?_)
 ·refine ae fun id4 σ3 s3 a4 f4=>?_;have a1:=s3 id1 _ (by rw [ab n13]; exact a1);have a3:=s3 id3 _ ag;have hs:=hs.trans s3;simp only [go_sem,seval,a1,a3,a4,pr,cA,dB,dE,bg,List.all_cons,List.all_nil,←Bool.decide_and];refine And.intro (fun q1=>?_) (fun q1=>au.pure hs ?_)
  ·refine ae fun id5 σ4 s4 a5 f5=>?_;have a1:=s4 _ _ a1;have hs:=hs.trans s4;simp only [go_sem,seval,a1,a5,pr,cA,dB,dE,bg,List.all_cons,List.all_nil,←Bool.decide_and];refine au.pure hs ?_;rw [V.bool.injEq,hok3,Bool.eq_iff_iff];simp only [bg,mx];simp at w;simp [e1,e2,z,w];omega
  ·rw [V.bool.injEq,hok3,Bool.eq_iff_iff];simp only [bg,mx];simp [e1,e2,z];omega
 all_goals (repeat' (first
  | with_reducible refine And.intro (fun h=>?_) (fun h=>?_)
  | with_reducible refine au.pure hs ?_))
 all_goals (rw [V.bool.injEq,hok3,Bool.eq_iff_iff]; simp_all)
theorem JD (x:Nd) (hl:x.words.length≤200000000000000):aV prog 90 [gP x] (.bool x.ok):=fun σ=>by
 by_cases k4:x.kind=4
 ·exact HM x hl k4 σ
 refine e90.r (by simp [c90]) ?_;refine ad.mix 6 ?_
 (refine ad.bD O12 300 ?_; simp only [go_sem,seval,c90,gP,Nd.cells])
 refine ae fun id1 σ1 s1 a1 f1=>?_;simp only [go_sem,seval,a1];refine ae fun id3 σ2 s2 a3 f3=>?_;have n13:=ao a1 f3;have a1:=s2 _ _ a1;have hs:=(s1.trans s2).aD (s1.none f3) (o:=⟨230,2,[.agg [vI 1,vI 1099511627776]]⟩);have hz:(x.kind=1→x.ok=(x.st.ok && decide (x.line=0) && decide (x.space=0) && decide (x.words.length=0) && decide (x.side=0) && decide (x.w=0) && decide (x.h=0))):=fun h=>by simp [Nd.ok,h]
 have hwl:x.words.length≤200000000000000:=by omega
 by_cases k1:x.kind=1
 ·simp only [go_sem,seval,a1,a3,ab n13,iN,dz,k1,oN,uf];rw [hz k1]
  repeat' (first
   | with_reducible refine And.intro (fun h=>?_) (fun h=>?_)
   | with_reducible refine au.pure hs ?_)
  all_goals (rw [V.bool.injEq,Bool.eq_iff_iff]; simp_all)
 ·by_cases k2:x.kind=2
  ·by_cases e1:x.line=0
   ·have hok0:x.ok=false:=by
     by_cases hst:x.st=Sty.zero <;> simp [Nd.ok,k2,hst,e1,bg]
    rw [hok0];simp only [go_sem,seval,a1,a3,ab n13,iN,dz,k1,k2,e1,oN,uf,ag]
    repeat' (first
     | with_reducible refine And.intro (fun h=>?_) (fun h=>?_)
     | with_reducible refine au.pure hs rfl
     | (refine ae fun id4 σ3 s3 a4 f4=>?_
        have a1:=s3 id1 _ (by rw [ab n13]; exact a1);have a3:=s3 id3 _ ag;simp only [go_sem,seval,a1,a3,a4,pr,cA,dB,dE,bg,List.all_cons,List.all_nil,false_and];exact au.pure (hs.trans s3) rfl))
   ·simp only [go_sem,seval,a1,a3,ab n13,iN,dz,k1,k2,e1,oN,uf,ag];have hok2:x.ok=(decide (x.st=Sty.zero) && (x.words.all (bg · 1 mx) && decide (0 < x.words.length) && bg x.line 1 mx && bg x.space 0 mx && decide (x.side=0) && decide (x.w=0) && decide (x.h=0))):=by
     by_cases hst:x.st=Sty.zero <;> simp [Nd.ok,k2,hst]
    refine And.intro (fun z=>?_) (fun z=>au.pure hs (by rw [hok2]; simp_all));refine And.intro (fun w1=>?_) (fun w1=>au.pure hs (by rw [hok2]; simp [w1]));refine And.intro (fun w2=>?_) (fun w2=>au.pure hs (by rw [hok2]; simp [w2]));refine And.intro (fun w3=>?_) (fun w3=>au.pure hs (by rw [hok2]; simp [w3]));refine ae fun id4 σ3 s3 a4 f4=>?_;have a1:=s3 id1 _ (by rw [ab n13]; exact a1);have a3:=s3 id3 _ ag;have hs:=hs.trans s3;simp only [go_sem,seval,a1,a3,a4,pr,cA,dB,dE,mF _ hwl,uf,sJ (List.all _ _)];refine And.intro (fun q1=>?_) (fun q1=>au.pure hs (by rw [hok2]; simp [mx] at q1 ⊢; simp [q1]));refine And.intro (fun q2=>?_) (fun q2=>au.pure hs (by rw [hok2]; simp only [mx,q2]; simp));refine ae fun id5 σ4 s4 a5 f5=>?_;have a1:=s4 _ _ a1;have hs:=hs.trans s4;simp only [go_sem,seval,a1,a5,pr,cA,dB,dE,mF _ hwl,uf,dz,sJ (List.all _ _)];refine And.intro (fun q3=>?_) (fun q3=>au.pure hs (by rw [hok2]; simp [mx] at q3 ⊢; simp [q3]));refine au.pure hs ?_;rw [hok2];simp only [mx,q1,q2,q3,z,w1,w2,w3];simp
  ·have hok3:x.ok=(decide (x.st=Sty.zero) && (decide (x.line=0) && decide (x.space=0) && decide (x.words.length=0) && bg x.w 1 mx && bg x.h 1 mx &&
    (decide (x.kind=3) && decide (x.side=0) || decide (x.kind=4) && bg x.side 1 2))):=by
    by_cases hst:x.st=Sty.zero <;> simp [Nd.ok,k1,k2,hst]
   by_cases k3:x.kind=3
   ·simp only [go_sem,seval,a1,a3,ab n13,iN,dz,k1,k2,k3,oN,uf,ag]
    repeat' (first
     | with_reducible refine And.intro (fun h=>?_) (fun h=>?_)
     | with_reducible refine au.pure hs ?_
     | (refine ae fun id4 σ3 s3 a4 f4=>?_
        have a1:=s3 id1 _ (by rw [ab n13]; exact a1);have a3:=s3 id3 _ ag;simp only [go_sem,seval,a1,a3,a4,pr,cA,dB,dE,bg,List.all_cons,List.all_nil,←Bool.decide_and];refine au.pure (hs.trans s3) ?_))
    all_goals (rw [V.bool.injEq,hok3,Bool.eq_iff_iff]; simp_all [bg,mx] <;> omega)
   ·simp only [go_sem,seval,a1,a3,ab n13,iN,dz,k1,k2,k3,k4,oN,uf,ag]
    repeat' (first
     | with_reducible refine And.intro (fun h=>?_) (fun h=>?_)
     | with_reducible refine au.pure hs ?_)
    all_goals (rw [V.bool.injEq,hok3]; simp [k3,k4])
open Go.Proofs Go.Proofs.Tryz
def qN (i:Nat):List Int→List Int
 | a::b::s=>if a=i then qN i (b::s) else a::b::s
 | s=>s
def isS:List Nd→Nat→List Int→Bool
 | [],_,_=>true
 | x::r,i,stk=>match qN i stk with
   | []=>false
   | a::s=>if x.ok=true∧1≤x.size∧x.size≤a - i∧(x.kind=1∨x.size≤1) then isS r (i+1) ((i+x.size)::a::s) else false
def Asc (n:Nat):Nat→List Int→Prop
 | lo,[]=>lo=n
 | lo,a::s=>(lo:Int)≤a∧Asc n a.toNat s
def jE (l:List Nd):Nat→List Int→Bool
 | _,[]=>true
 | lo,a::s=>bT l lo a.toNat && jE l a.toNat s
theorem B9 (l:List Nd) (a:Nat):bT l a a=true:=by rw [bT,dif_neg (Nat.lt_irrefl a)]
theorem sM (l:List Nd) (n i:Nat) (hi:i < n):∀stk,Asc n i stk→∃a s,qN i stk=a::s∧(i:Int) < a∧Asc n i (a::s)∧jE l i (a::s)=jE l i stk
 | [],h=>by simp only [Asc] at h; omega
 | [a],h=>by
   have h':=h;simp only [Asc] at h';exact ⟨a,[],rfl,by omega,h,rfl⟩
 | a::b::s,h=>by
   by_cases ha:a=i
   ·have h':=h.2;rw [ha,Int.toNat_natCast] at h';obtain ⟨c,t,g1,g2,g3,g4⟩:=sM l n i hi (b::s) h';refine ⟨c,t,by simp [qN,ha,g1],g2,g3,?_⟩;rw [g4];show _=(bT l i a.toNat && jE l a.toNat (b::s));rw [ha,Int.toNat_natCast,B9,Bool.true_and]
   ·have h':=h.1;exact ⟨a,b::s,by simp [qN,ha],by omega,h,rfl⟩
theorem AR (l:List Nd):∀(r:List Nd) (i:Nat) (stk:List Int),l.drop i=r→Asc l.length i stk→isS r i stk=(r.all Nd.ok && jE l i stk)
 | [],i,stk,hr,hs=>by
   have hi:l.length≤i:=by simpa using hr
   have key:∀(stk:List Int) (lo:Nat),l.length≤lo→Asc l.length lo stk→jE l lo stk=true:=by
    intro stk
    induction stk with
    | nil=>intro _ _ _; rfl
    | cons a s ih =>
      intro lo hlo h;have h1:=h.1;simp only [jE];rw [ih a.toNat (by omega) h.2,bT,Bool.and_true];split
      ·have:l[lo]?=none:=by simp [hlo]
       rw [this];have hend:∀(stk:List Int) (lo:Nat),Asc l.length lo stk→lo≤l.length:=by
        intro stk
        induction stk with
        | nil=>intro lo h; simp only [Asc] at h; omega
        | cons b t ih=>intro lo h; have:=h.1; have:=ih _ h.2; omega
       have:=hend _ _ h.2;omega
      ·rfl
   simp [isS,key stk i hi hs]
 | x::r,i,stk,hr,hs=>by
   have hi:i < l.length:=by
    rcases Nat.lt_or_ge i l.length with h | h
    ·exact h
    ·rw [List.drop_eq_nil_of_le h] at hr; cases hr
   have hx:l[i]?=some x:=by
    have:(l.drop i)[0]?=some x:=by rw [hr]; rfl
    simpa using this
   have hr':l.drop (i+1)=r:=by
    have:(l.drop i).drop 1=r:=by rw [hr]; rfl
    simpa using this
   obtain ⟨a,s,h1,h2,h3,h4⟩:=sM l l.length i hi stk hs;rw [isS,h1];simp only;rw [←h4];simp only [jE,List.all_cons];have hrow:bT l i a.toNat=if _hx:1≤x.size∧x.size≤(a.toNat:Int) - i then
    (decide (x.kind=1) || decide (x.size≤1)) && bT l (i+1) (i+x.size.toNat) && bT l (i+x.size.toNat) a.toNat else false:=by
    rw [bT,dif_pos (by omega),hx]
   rw [hrow];have hat:(a.toNat:Int)=a:=by omega
   rw [hat];by_cases hc:1≤x.size∧x.size≤a - i
   ·rw [dif_pos hc];have e:(i+x.size).toNat=i+x.size.toNat:=by omega
    have ih:=AR l r (i+1) ((i+x.size)::a::s) hr' ⟨by omega,by rw [e]; omega,h3.2⟩;by_cases hk:x.ok=true∧(x.kind=1∨x.size≤1)
    ·rw [if_pos ⟨hk.1,hc.1,hc.2,hk.2⟩,ih];simp only [jE,e,hk.1,Bool.true_and];have:(decide (x.kind=1) || decide (x.size≤1))=true:=by simpa using hk.2
     rw [this,Bool.true_and,Bool.and_assoc]
    ·rw [if_neg (fun h=>hk ⟨h.1,h.2.2.2⟩)];symm;rw [Bool.eq_false_iff];intro h;simp only [Ba,Bool.or_eq_true,decide_eq_true_eq] at h;exact hk ⟨h.1.1,h.2.1.1.1⟩
   ·rw [dif_neg hc,if_neg (fun h=>hc ⟨h.2.1,h.2.2.1⟩)];simp
theorem Hc (l:List Nd):isS l 0 [(l.length:Int)]=isB l:=by
 rw [AR l l 0 [(l.length:Int)] rfl ⟨by omega,by simp [Asc]⟩];simp [jE,isB]
open Go.Proofs Go.Proofs.Tryz
def o14 (f:FuncId) (args:List V):Option V:=if f=90 then (match args with
 | [.agg [.int .i64 a0, .int .i64 a1, .int .i64 a2, .int .i64 a3, .int .i64 a4, .int .i64 a5, .int .i64 a6, .int .i64 a7, .int .i64 a8, .int .i64 a9, .int .i64 a10, .int .i64 a11, .int .i64 a12, .int .i64 a13, .int .i64 a14, .int .i64 a15, .sl 1 rows, .int .i64 a17, .int .i64 a18, .int .i64 a19]] =>
   (fb rows).bind fun ws=>if ws.length≤200000000000000 then some (.bool (Nd.ok ⟨a0,a1,⟨a2,a3,a4,a5,a6,a7,a8,a9,a10,a11,a12,a13⟩,a14,a15,ws,a17,a18,a19⟩)) else none
 | _=>none) else none
def O14:Orc prog where
 get f args _:=o14 f args
 ok f args σ v h:=by
  unfold o14 at h;split at h
  ·rename_i hf;subst hf;split at h
   ·rw [Option.bind_eq_some_iff] at h;obtain ⟨ws,h1,h2⟩:=h;split at h2
    ·rename_i hw;simp only [Oi] at h2;subst h2;rw [ke h1];exact JD ⟨_,_,⟨_,_,_,_,_,_,_,_,_,_,_,_⟩,_,_,ws,_,_,_⟩ hw σ
    ·cases h2
   ·cases h
  ·cases h
theorem IE {x:Nd} (hw:x.words.length≤200000000000000) (σ:af):O14.get 90 [.agg [.int .i64 x.kind, .int .i64 x.size, .int .i64 x.st.top, .int .i64 x.st.bottom, .int .i64 x.st.padTop, .int .i64 x.st.padBottom, .int .i64 x.st.inset, .int .i64 x.st.orphans, .int .i64 x.st.widows, .int .i64 x.st.head, .int .i64 x.st.before, .int .i64 x.st.after, .int .i64 x.st.inside, .int .i64 x.st.clear, .int .i64 x.line, .int .i64 x.space,bh x.words, .int .i64 x.side, .int .i64 x.w, .int .i64 x.h]] σ =
 some (.bool x.ok):=by
 show ((fb (x.words.map vI)).bind fun ws=>if ws.length≤200000000000000 then some (V.bool (Nd.ok ⟨x.kind,x.size,⟨x.st.top,x.st.bottom,x.st.padTop,x.st.padBottom,x.st.inset,x.st.orphans,x.st.widows,x.st.head,x.st.before,x.st.after,x.st.inside,x.st.clear⟩,x.line,x.space,ws,x.side,x.w,x.h⟩)) else none)=_;rw [rT,Option.bind_some,if_pos hw]
theorem Fq {rows:List V} {k:Nat} {a:Int} {s:List Int} (hk:k=(a::s).length) (ht:rows.take k=(a::s).reverse.map vI):rows[k - 1]?=some (.int .i64 a)∧rows.take (k - 1)=s.reverse.map vI:=by
 simp only [List.length_cons] at hk;have h1:(rows.take k)[k - 1]?=rows[k - 1]?:=by rw [List.getElem?_take,if_pos (by omega)]
 constructor
 ·rw [←h1,ht,hk];simp
 ·have h2:rows.take (k - 1)=(rows.take k).take (k - 1):=by rw [List.take_take]; congr 1; omega
  rw [h2,ht,hk];simp
theorem Asc.le {n:Nat}:∀ {stk:List Int} {lo:Nat},Asc n lo stk→lo≤n
 | [],lo,h=>by simp only [Asc] at h; omega
 | a::s,lo,h=>by have h1:=h.1; have h2:=Asc.le h.2; omega
theorem BR (l:List Nd) (hl:dJ l):aV prog 58 [aJ l] (.bool (isB l)):=fun σ=>by
 have hl0:=hl;obtain ⟨hl1,hl2⟩:=hl;refine e58.r (by simp [c58]) ?_;refine ad.mix 6 ?_;apply sR;simp only [go_sem,seval,aH,aL,c58,eE];intro e0 he0;refine ad.loop (fun m st=>∃i stk e k rows,i≤l.length∧m=l.length - i∧isB l=isS (l.drop i) i stk∧Asc l.length i stk∧stk≠[]∧stk.length≤i+1∧aa σ st.σ∧st.σ e=some ⟨3,1,rows⟩∧σ e=none∧k=stk.length∧k≤rows.length∧rows.take k=stk.reverse.map vI ∧
  st.s 3=.own e 0 k∧st.s 9=aJ l∧st.s 10=vI l.length∧st.s 11=vI i) l.length ?_ ?_
 ·refine ⟨0,[(l.length:Int)],e0,1,[vI l.length],by omega,by omega,by rw [←Hc]; rfl,⟨by omega,by simp [Asc]⟩,by simp,by simp,(aa.refl σ).upd he0,ag,he0,rfl,by simp,rfl,rfl,rfl,rfl,rfl⟩
 ·rintro m ⟨s,σ'⟩ ⟨i,stk,e,k,rows,hi,rfl,hB,hasc,hne,hsl,hsub,hrow,hnew,hk,hkr,htk,h3,h9,h10,h11⟩;simp only at hsub hrow h3 h9 h10 h11;refine ad.mix 6 ?_;apply sR;simp only [go_sem,seval,aH,aL,h3,h9,h10,h11];refine And.intro (fun hlt=>?_) (fun hge=>?_)
  ·have hlt':i < l.length:=by simp at hlt; omega
   have hd:l.drop i=l[i]::l.drop (i+1):=List.drop_eq_getElem_cons hlt';have hxw:l[i].words.length≤200000000000000:=hl2 _ (List.getElem_mem hlt');rw [hd] at hB;generalize hxe:l[i]=x at *;simp only [go_sem,seval,aH,aL,lL hlt',hxe,tL,h3,h9,h10,h11,Nd.cells];intro id5 hid5;replace hid5:σ' id5=none:=hid5;have n5e:e≠id5:=by rintro rfl; rw [hrow] at hid5; cases hid5
   have n5n:σ id5=none:=hsub.none hid5;refine ad.loop (fun m st=>∃stk' k',m=stk'.length∧qN i stk=qN i stk'∧Asc l.length i stk'∧stk'≠[]∧stk'.length≤stk.length∧st.σ=upd σ' id5 ⟨73,20,[.agg x.cells]⟩∧k'=stk'.length∧k'≤rows.length∧rows.take k'=stk'.reverse.map vI ∧
    st.s 3=.own e 0 k'∧st.s 4=vI i∧st.s 5=.ptr id5 0 0∧st.s 9=aJ l∧st.s 10=vI l.length∧st.s 11=vI i) stk.length ?_ ?_
   ·exact ⟨stk,k,rfl,rfl,hasc,hne,Nat.le_refl _,rfl,hk,hkr,htk,h3,rfl,rfl,h9,h10,h11⟩
   ·rintro m ⟨s,σ''⟩ ⟨stk',k',rfl,hpop,hasc',hne',hsl',hσ,hk',hkr',htk',h3,h4,h5,h9,h10,h11⟩;simp only at hσ h3 h4 h5 h9 h10 h11;subst hσ;obtain ⟨a,tl,rfl⟩:=List.exists_cons_of_ne_nil hne';obtain ⟨htop,htk2⟩:=Fq hk' htk';have hkpos:1≤k':=by rw [hk']; simp
    have g0:(k':Int) - 1 < k':=by omega
    have g1:(0:Int)≤(k':Int) - 1:=by omega
    have g2:(k':Int) - 1≤k':=by omega
    have g3:((k':Int) - 1).toNat=k' - 1:=by omega
    have hrng:inR .i64 ((k':Int) - 1):=ak (by omega) (by omega);refine ad.mix 6 ?_
    (refine ad.bD O14 300 ?_; simp only [go_sem,seval,aH,aL,h3,h4,h5,h9,h10,h11,ab n5e,hrow,g0,g1,g2,g3,Int.le_refl,Int.toNat_zero,Nat.sub_zero,htop,uf,Nd.cells,IE hxw,sJ (Nd.ok x)])
    refine And.intro (fun h1=>⟨hrng,And.intro (fun h2=>?_) (fun h2=>?_)⟩) (fun h1=>?_)
    ·obtain ⟨b,tl',rfl⟩:∃b tl',tl=b::tl':=by
      cases tl with
      | nil=>simp at hk'; omega
      | cons b tl'=>exact ⟨b,tl',rfl⟩
     have hp2:qN i (a::b::tl')=qN i (b::tl'):=by simp [qN,h2]
     have ha2:=hasc'.2;rw [h2,Int.toNat_natCast] at ha2;refine ⟨hrng,_,?_,b::tl',k' - 1,rfl,by rw [hpop,hp2],ha2,by simp,?_,?_,by omega,htk2,rfl⟩
     ·simp
     ·simp only [List.length_cons] at hsl' ⊢; omega
     ·simp only [List.length_cons] at hk' ⊢; omega
    all_goals
     have hps:qN i (a::tl)=a::tl:=by
      cases tl with
      | nil=>rfl
      | cons b tl' =>
        have:a≠i:=by first
         | simpa using h2
         | (exfalso; simp at hk' h1; omega)
        simp [qN,this]
     obtain ⟨c,t,p1,p2,p3,p4⟩:=sM l l.length i hlt' (a::tl) hasc';rw [hps,List.cons.injEq] at p1;obtain ⟨rfl,rfl⟩:=p1;have hIs:isB l=if x.ok=true∧1≤x.size∧x.size≤a - i∧(x.kind=1∨x.size≤1) then isS (l.drop (i+1)) (i+1) ((i+x.size)::a::tl) else false:=by
      rw [hB,isS,hpop,hps]
     have hale:=Asc.le p3.2;have hlenk:(rows.take k').length=k':=by simp; omega
     have hstk:k'≤i+1:=by rw [hk']; omega
     have happ:x.ok=true∧1≤x.size∧x.size≤a - i∧(x.kind=1∨x.size≤1)→∀(X Y:Ob) (id id1:Nat),upd σ' id5 X id=none→upd (upd σ' id5 X) id Y id1=none →
      isB l=isS (l.drop (i+1)) (i+1) ((i+x.size)::a::tl)∧Asc l.length (i+1) ((i+x.size)::a::tl)∧aa σ (upd (del (upd (upd σ' id5 X) id Y) e) id1 ⟨3,1,rows.take k'++[.int .i64 (i+x.size)]⟩)∧σ id1=none ∧
      (rows.take k'++[V.int .i64 (i+x.size)]).take (k'+1)=((i+x.size)::a::tl).reverse.map vI:=by
      intro hc X Y id id1 hid hid1;rw [fA] at hid;rw [fA,fA] at hid1;rw [if_pos hc] at hIs;refine ⟨hIs,⟨by omega,?_,p3.2⟩,?_,hsub.none hid1.2.2,?_⟩
      ·have:(i+x.size).toNat=i+x.size.toNat:=by omega
       omega
      ·exact aa.aD (aa.Gf ((hsub.aD n5n).aD (hsub.none hid.2)) hnew) (hsub.none hid1.2.2)
      ·rw [List.take_of_length_le (by simp; omega),htk'];simp
     refine And.intro (fun q1=>And.intro (fun q2=>⟨hrng,ak (by omega) (by omega),And.intro (fun q3=>And.intro (fun q4=>And.intro (fun q5=>?_) (fun q5=>?_)) (fun q4=>?_)) (fun q3=>?_)⟩) (fun q2=>?_)) (fun q1=>?_)
     ·refine au.pure (hsub.upd hid5) ?_;rw [hIs,if_neg];rintro ⟨c1,c2,c3,c4⟩;omega
     ·refine ⟨ak (by omega) (by omega),?_⟩;intro id hid;have hid':=(fA.1 hid).2;have nie:e≠id:=by rintro rfl; rw [hrow] at hid'; cases hid'
      have hd1:∀σ,σ e=some ⟨3,1,rows⟩→bQ σ 3 1 (.own e 0 k')=some (rows.take k',some e):=by
       intro σ hσ;simp only [bQ,hσ];rw [if_pos ⟨trivial,trivial,trivial,hkr'⟩]
      have hs1:∀σ,σ id=some ⟨3,1,[.int .i64 (i+x.size)]⟩→bG σ 1 (.own id 0 1)=some [.int .i64 (i+x.size)]:=by
       intro σ hσ;simp only [bG,hσ];rw [if_pos (by simp)];simp
      have hb:(k'+1)*9≤140737488355328:=by omega
      simp only [go_sem,seval,aH,aL,hd1,hs1,ab n5e,ab nie,hrow,hlenk,hb,bw,h3,h4,h5,h9,h10,h11];intro id1 hid1;obtain ⟨z1,z2,z3,z4,z5⟩:=happ ⟨by simpa using q1,by omega,by omega,by first | (left; simpa using q4) | (right; simp at q5; omega)⟩ _ _ id id1 hid hid1
      refine ⟨ak (by omega) (by omega),_,?_,i+1,_,id1,k'+1,_,by omega,rfl,z1,z2,by simp,?_,z3,ag,z4,?_,?_,z5,rfl,?_⟩
      ·omega
      ·simp only [List.length_cons] at hk' hsl' ⊢; omega
      ·simp only [List.length_cons] at hk' ⊢; omega
      ·simp; omega
      ·simp
     ·refine ⟨ak (by omega) (by omega),?_⟩;intro id hid;have hid':=(fA.1 hid).2;have nie:e≠id:=by rintro rfl; rw [hrow] at hid'; cases hid'
      have hd1:∀σ,σ e=some ⟨3,1,rows⟩→bQ σ 3 1 (.own e 0 k')=some (rows.take k',some e):=by
       intro σ hσ;simp only [bQ,hσ];rw [if_pos ⟨trivial,trivial,trivial,hkr'⟩]
      have hs1:∀σ,σ id=some ⟨3,1,[.int .i64 (i+x.size)]⟩→bG σ 1 (.own id 0 1)=some [.int .i64 (i+x.size)]:=by
       intro σ hσ;simp only [bG,hσ];rw [if_pos (by simp)];simp
      have hb:(k'+1)*9≤140737488355328:=by omega
      simp only [go_sem,seval,aH,aL,hd1,hs1,ab n5e,ab nie,hrow,hlenk,hb,bw,h3,h4,h5,h9,h10,h11];intro id1 hid1;obtain ⟨z1,z2,z3,z4,z5⟩:=happ ⟨by simpa using q1,by omega,by omega,by first | (left; simpa using q4) | (right; simp at q5; omega)⟩ _ _ id id1 hid hid1
      refine ⟨ak (by omega) (by omega),_,?_,i+1,_,id1,k'+1,_,by omega,rfl,z1,z2,by simp,?_,z3,ag,z4,?_,?_,z5,rfl,?_⟩
      ·omega
      ·simp only [List.length_cons] at hk' hsl' ⊢; omega
      ·simp only [List.length_cons] at hk' ⊢; omega
      ·simp; omega
      ·simp
     ·refine au.pure (hsub.upd hid5) ?_;rw [hIs,if_neg];rintro ⟨c1,c2,c3,c4⟩;omega
     ·refine au.pure (hsub.upd hid5) ?_;rw [hIs,if_neg];rintro ⟨c1,c2,c3,c4⟩;omega
     ·refine au.pure (hsub.upd hid5) ?_;rw [hIs,if_neg];rintro ⟨c1,c2,c3,c4⟩;exact q1 (by simp [c1])
  ·have hi':i=l.length:=by simp at hge; omega
   refine au.pure hsub ?_;rw [hB,hi',List.drop_length]; rfl
open Go.Proofs Go.Proofs.Tryz
def jT (times n:Int):Int:=if n=0∨times≤1099511627776 / n then n*times else 1099511627777
def lj (times h:Int):List Int→Int
 | []=>h
 | n::l=>lj times (min (h+jT times n) 1099511627777) l
def ep (i:Nat) (x:Nd) (s:Sm) (ends:List Int):Sm×List Int :=
 let ends:=ends.filter fun n=>!decide (n≤(i:Int))
 if x.kind=1 then
  let ends:=ends++[i+x.size]
  (⟨max s.depth ends.length,s.pieces,s.nodes+1,lj 1 s.heights [x.st.top,x.st.bottom,x.st.padTop,x.st.padBottom,x.st.head]⟩,ends)
 else if x.kind=2 then (⟨s.depth,s.pieces+x.words.length,s.nodes+1,lj x.words.length s.heights [x.line]⟩,ends)
 else (⟨s.depth,s.pieces+1,s.nodes+1,lj 1 s.heights [x.h]⟩,ends)
def gE (l:List Nd):Nat→Sm×List Int
 | 0=>(⟨0,0,0,0⟩,[])
 | i+1=>match l[i]? with
   | some x=>ep i x (gE l i).1 (gE l i).2
   | none=>gE l i
theorem xM {times n:Int} (h0:0≤n) (h1:n≤mx) (t0:0≤times) (a:Int) (ha:0≤a):min (a+jT times n) 1099511627777=min (a+n*times) 1099511627777:=by
 unfold jT;split
 ·rfl
 ·rename_i h;have hn:0 < n:=by omega
  have hq:1099511627776 / n < times:=by omega
  have h2:1099511627776 < n*times:=by
   have:=Int.ediv_lt_iff_lt_mul (a:=1099511627776) (b:=times) hn;have h3:=this.1 hq;rw [Int.mul_comm]; exact h3
  omega
theorem qS {a b:Int} (h1:0≤a∧a≤1099511627777) (h2:0≤b):∀n:Nat,AA a b n=min (a+b*n) 1099511627777
 | 0=>by simp [AA]; omega
 | n+1=>by
   rw [AA,qS h1 h2 n,jg];have e:b*((n+1:Nat):Int)=b*n+b:=by rw [Int.natCast_add,Int.mul_add]; simp
   rw [e];have:0≤b*(n:Int):=Int.mul_nonneg h2 (by omega);generalize b*(n:Int)=q at *;omega
theorem jR {h n:Int} (h1:0≤h) (n0:0≤n) (n1:n≤mx):min (h+jT 1 n) 1099511627777=jg h n:=by
 rw [xM n0 n1 (by omega) h h1,Int.mul_one]; rfl
def iP (l:List Nd) (i:Nat):Nat→List Int
 | 0=>[]
 | k+1=>iP l i k++(match l[k]? with
   | some y=>if y.kind=1∧(i:Int) < k+y.size then [(k:Int)+y.size] else []
   | none=>[])
theorem mM (l:List Nd) (i:Nat):∀k,((iP l i k).length:Int)=gW l i k
 | 0=>rfl
 | k+1=>by
   simp only [iP,gW,List.length_append,Int.natCast_add,mM l i k];cases l[k]? with
   | none=>simp
   | some y=>simp only []; split <;> simp
theorem mP (l:List Nd) (i:Nat):∀k,(iP l i k).filter (fun n=>!decide (n≤((i+1:Nat):Int)))=iP l (i+1) k
 | 0=>rfl
 | k+1=>by
   simp only [iP,List.filter_append,mP l i k];congr 1;split
   ·rename_i y _;by_cases hk:y.kind=1
    ·by_cases h1:((i+1:Nat):Int) < k+y.size
     ·rw [if_pos ⟨hk,by omega⟩,if_pos ⟨hk,h1⟩];have:¬((k:Int)+y.size≤((i+1:Nat):Int)):=by omega
      simp only [List.filter_cons,this,decide_false,Bool.not_false,if_true,List.filter_nil]
     ·rw [if_neg (show¬(y.kind=1∧((i+1:Nat):Int) < k+y.size) from fun h=>h1 h.2)];split
      ·have:(k:Int)+y.size≤((i+1:Nat):Int):=by omega
       simp only [List.filter_cons,this,decide_true,Bool.not_true,Bool.false_eq_true,if_false,List.filter_nil]
      ·rfl
    ·rw [if_neg (fun h=>hk h.1),if_neg (fun h=>hk h.1)]; rfl
   ·rfl
theorem lI (l:List Nd) (hl:dJ l) (hb:isB l=true):∀i,i≤l.length→(gE l i).1={ ga l ⟨0,0,l.length,0⟩ i with nodes:=i }∧(gE l i).2=(match i with
 | 0=>[]
 | j+1=>iP l j (j+1))∧(ga l ⟨0,0,l.length,0⟩ i).tB i∧(ga l ⟨0,0,l.length,0⟩ i).nodes=l.length
 | 0,_=>⟨rfl,rfl,by simp [ga,Sm.tB],rfl⟩
 | i+1,hi=>by
   obtain ⟨h1,h2,h3,h4⟩:=lI l hl hb i (by omega);have hok:l.all Nd.ok=true∧bT l 0 l.length=true:=by simpa [isB] using hb
   have hx:=(List.all_eq_true.1 hok.1) _ (List.getElem_mem (show i < l.length by omega));have hg:l[i]?=some l[i]:=by simp [show i < l.length by omega]
   obtain ⟨z1,z2,z3⟩:=gO l (l.length+1) 0 l.length (by omega) (by omega) hok.2 i (by omega) (by omega) (by omega);have hw:=hl.2 _ (List.getElem_mem (show i < l.length by omega));have hfine:=C8 (l:=l) hx hw h3;generalize hxe:l[i]=x at *;obtain ⟨p1,p2,p3,p4,p5,p6⟩:=jh hx;have hS:gE l (i+1)=ep i x (gE l i).1 (gE l i).2:=by simp only [gE,hg]
   have hR:ga l ⟨0,0,l.length,0⟩ (i+1)=mR l i x (ga l ⟨0,0,l.length,0⟩ i):=by simp only [ga,hg]
   have hf:(gE l i).2.filter (fun n=>!decide (n≤(i:Int)))=iP l i i:=by
    rw [h2];cases i with
    | zero=>rfl
    | succ j=>exact mP l j (j+1)
   rw [hS,hR,h1];generalize hsm:ga l ⟨0,0,l.length,0⟩ i=sm at *;obtain ⟨f1,f2,f3⟩:=h3;have hends:iP l i (i+1)=iP l i i++(if x.kind=1 then [(i:Int)+x.size] else []):=by
    simp only [iP,hg];by_cases hk:x.kind=1
    ·rw [if_pos ⟨hk,by omega⟩,if_pos hk]
    ·rw [if_neg (fun h=>hk h.1),if_neg hk]
   refine ⟨?_,?_,by rw [Int.natCast_add]; exact hfine,?_⟩
   ·by_cases hk:x.kind=1
    ·obtain ⟨q1,q2,q3,q4,q5⟩:=p6 hk;have r1:=eX f3 q1.1;have r2:=eX r1 q2.1;have r3:=eX r2 q3.1;have r4:=eX r3 q4.1;have hlen:=mM l i (i+1);rw [hends,if_pos hk] at hlen;simp only [ep,mR,if_pos hk,hf,lj,Sm.mk.injEq];refine ⟨?_,trivial,by simp,?_⟩
     ·rw [hlen]
     ·rw [jR f3.1 q1.1 q1.2,jR r1.1 q2.1 q2.2,jR r2.1 q3.1 q3.2,jR r3.1 q4.1 q4.2,jR r4.1 q5.1 q5.2]
    ·by_cases hk2:x.kind=2
     ·simp only [ep,mR,if_neg hk,if_pos hk2,lj,Sm.mk.injEq];refine ⟨trivial,trivial,by simp,?_⟩;rw [xM p2 p3 (by omega) _ f3.1,qS f3 p2]
     ·simp only [ep,mR,if_neg hk,if_neg hk2,lj,Sm.mk.injEq];exact ⟨trivial,trivial,by simp,jR f3.1 p4 p5⟩
   ·by_cases hk:x.kind=1
    ·simp only [ep,if_pos hk,hf,hends]
    ·by_cases hk2:x.kind=2
     ·simp only [ep,if_neg hk,if_pos hk2,hf,hends,List.append_nil]
     ·simp only [ep,if_neg hk,if_neg hk2,hf,hends,List.append_nil]
   ·rw [←h4];unfold mR;split
    ·rfl
    ·split <;> rfl
def vm (l:List Nd):Sm×Int:=if isB l then ((gE l l.length).1,0) else (⟨0,0,0,0⟩,4)
theorem Co (l:List Nd) (hl:dJ l):vm l=gX l:=by
 unfold vm gX;by_cases hb:isB l=true
 ·obtain ⟨h1,_,_,h4⟩:=lI l hl hb l.length (Nat.le_refl _);rw [if_pos hb,if_pos hb,h1];generalize ga l ⟨0,0,l.length,0⟩ l.length=sm at *;cases sm;simp_all
 ·rw [if_neg hb,if_neg hb]
open Go.Proofs Go.Proofs.Tryz
theorem AL {σ:af} {c:Nat} {i:Int} (h:σ c=some ⟨3,1,[vI i]⟩) (n:Int):av prog 92 [vI n, .ptr c 0 0] σ fun r σ'=>r=.bool (decide (n≤i))∧σ'=σ:=by
 refine e92.r (by simp [c92]) ?_;apply sR;simp only [go_sem,seval,aH,aL,c92,h];exact au.same rfl
abbrev kept (i:Int) (l:List Int):List Int:=l.filter fun n=>!decide (n≤i)
theorem pM {p:Int→Bool}:∀ {l:List Int},cq p l < 0→l.filter (fun n=>!p n)=l
 | [],_=>rfl
 | x::l,h=>by
   simp only [cq] at h;split at h
   ·omega
   ·rename_i hp;have hp':p x=false:=by simpa using hp
    split at h
    ·rename_i h2;simp only [List.filter_cons,hp',Bool.not_false,if_true,pM h2]
    ·have:=gG p l; omega
theorem qc {p:Int→Bool}:∀ {l:List Int},¬cq p l < 0→(cq p l).toNat < l.length∧(l.take (cq p l).toNat).filter (fun n=>!p n)=l.take (cq p l).toNat ∧
 ∀x,l[(cq p l).toNat]?=some x→p x=true
 | [],h=>by simp [cq] at h
 | x::l,h=>by
   simp only [cq] at h ⊢;split
   ·rename_i hp;refine ⟨by simp,by simp,?_⟩;intro y hy;simp at hy; subst hy; exact hp
   ·rename_i hp;rw [if_neg hp] at h;have hp':p x=false:=by simpa using hp
    split
    ·rename_i h2; rw [if_pos h2] at h; omega
    ·rename_i h2;obtain ⟨g1,g2,g3⟩:=qc h2;have:=gG p l;have e:(cq p l+1).toNat=(cq p l).toNat+1:=by omega
     rw [e];refine ⟨by simp; omega,?_,?_⟩
     ·simp only [List.take_succ_cons,List.filter_cons,hp',Bool.not_false,if_true,g2]
     ·simpa using g3
theorem Fh {σ:af} {e c k:Nat} {i:Int} {full:List Int} (he:σ e=some ⟨3,1,full.map vI⟩) (hc:σ c=some ⟨3,1,[vI i]⟩) (hne:c≠e) (hk:k≤full.length) (hfl:full.length≤1000000000000) :
 av prog 91 [.own e 0 k, .fn 92 [.ptr c 0 0]] σ fun r σ'=>∃(k':Nat) (full':List Int),r=.own e 0 k'∧σ'=upd σ e ⟨3,1,full'.map vI⟩∧k'≤full'.length∧full'.length≤full.length∧full'.take k'=kept i (full.take k):=by
 have hlk:(full.take k).length=k:=by simp; omega
 have hr:Reads σ 1 false (.own e 0 k) ((full.take k).map vI):=by
  have:=Reads.own (σ:=σ) (off:=0) (len:=k) he rfl (by simpa using hk) (fun r hr=>by simp only [List.mem_map] at hr; obtain ⟨n,_,rfl⟩:=hr; rfl);simpa using this
 refine e91.r (by simp [c91]) ?_;refine ad.mix 8 ?_;apply sR;simp only [go_sem,seval,aH,aL,c91];refine ad.az rfl rfl rfl (kQ (p:=fun n=>decide (n≤i)) hr (by omega) (fun n _=>AL hc n)) ?_;generalize hw:cq (fun n=>decide (n≤i)) (full.take k)=w;have hwg:-1≤w:=by rw [←hw]; exact gG _ _
 apply sR;simp only [go_sem,seval,aH,aL];have hsame:upd σ e ⟨3,1,full.map vI⟩=σ:=by
  funext j;simp only [upd];split
  ·rename_i e'; rw [e',he]
  ·rfl
 refine And.intro (fun hm=>?_) (fun hm=>?_)
 ·refine ⟨_,σ,aa.refl σ,Wk.refl (aa.refl σ) _,k,full,rfl,hsame.symm,hk,Nat.le_refl _,?_⟩;exact (pM (by rw [hw]; omega)).symm
 ·have hw0:¬cq (fun n=>decide (n≤i)) (full.take k) < 0:=by rw [hw]; omega
  obtain ⟨g1,g2,g3⟩:=qc hw0;rw [hw] at g1 g2 g3;rw [hlk] at g1;refine ⟨ak (by omega) (by omega),?_⟩;refine ad.loop (fun m st=>∃(u j:Nat) (cur:List Int),u < j∧j≤k∧m=k - j∧cur.length=full.length∧cur.take u=kept i (full.take j)∧(∀q,j≤q→cur[q]?=full[q]?)∧st.σ=upd σ e ⟨3,1,cur.map vI⟩ ∧
   st.s 0=.own e 0 k∧st.s 1=.fn 92 [.ptr c 0 0]∧st.s 5=vI u∧st.s 6=vI j) (k - (w.toNat+1)) ?_ ?_
  ·have hw1:w=((w.toNat:Nat):Int):=by omega
   refine ⟨w.toNat,w.toNat+1,full,by omega,by omega,rfl,rfl,?_,fun _ _=>rfl,hsame.symm,rfl,rfl,?_,?_⟩
   ·have hx:(full.take k)[w.toNat]?=some (full[w.toNat]'(by omega)):=by rw [List.getElem?_take,if_pos g1,List.getElem?_eq_getElem]
    have hp:=g3 _ hx;have e1:(full.take k).take w.toNat=full.take w.toNat:=by rw [List.take_take]; congr 1; omega
    rw [e1] at g2;rw [List.take_succ_eq_append_getElem (by omega)];have g2':kept i (full.take w.toNat)=full.take w.toNat:=g2;simp only [kept,List.filter_append] at g2' ⊢;rw [g2'];simp [hp]
   ·show vI w=_; rw [←hw1]
   ·show vI (w+1)=_; rw [Int.natCast_add,←hw1]; rfl
  ·rintro m ⟨s,σ'⟩ ⟨u,j,cur,huj,hjk,rfl,hcl,hct,hcr,hσ,h0,h1,h5,h6⟩;simp only at hσ h0 h1 h5 h6;subst hσ;refine ad.mix 8 ?_;apply sR;simp only [go_sem,seval,aH,aL,h0,h1,h5,h6];refine And.intro (fun hlt=>?_) (fun hge=>?_)
   ·have hlt':j < k:=by omega
    have hjc:j < cur.length:=by omega
    have hget:cur[j]?=some cur[j]:=by simp [hjc]
    have hge:(cur.map vI)[j]?=some (vI cur[j]):=by simp [hjc]
    have b1:(0:Int)≤j:=by omega
    have b2:(j:Int) < k:=by omega
    have b3:(0:Int)≤u:=by omega
    have b4:(u:Int) < k:=by omega
    simp only [go_sem,seval,aH,aL,h0,h1,h5,h6,b1,b2,hge,Int.toNat_natCast];refine ad.az rfl rfl rfl (AL (i:=i) (by rw [ab hne]; exact hc) cur[j]) ?_;have hgu:(cur.map vI)[u]?=some (vI (cur[u]'(by omega))):=by simp [show u < cur.length by omega]
    apply sR;simp only [go_sem,seval,aH,aL,h0,h1,h5,h6,b1,b2,b3,b4,hge,hgu,Int.toNat_natCast];have hfj:full[j]?=some cur[j]:=by rw [←hcr j (Nat.le_refl _)]; exact hget
    have htj:full.take (j+1)=full.take j++[cur[j]]:=by
     have hjf:j < full.length:=by omega
     rw [List.take_succ_eq_append_getElem hjf];congr 2;rw [List.getElem?_eq_getElem hjf] at hfj;simpa using hfj
    refine And.intro (fun hd=>?_) (fun hd=>?_)
    ·refine ⟨ak (by omega) (by omega),ak (by omega) (by omega),_,?_,u+1,j+1,cur.set u cur[j],by omega,by omega,rfl,by simpa using hcl,?_,?_,?_,?_,?_⟩
     ·omega
     ·rw [htj];have hul:u < cur.length:=by omega
      have:(cur.set u cur[j]).take (u+1)=cur.take u++[cur[j]]:=by
       rw [List.take_succ_eq_append_getElem (by simpa using hul),List.take_set,List.set_eq_of_length_le (by simp; omega)];simp
      rw [this,hct];simp only [kept,List.filter_append];congr 1;have hd':¬cur[j]≤i:=by simpa using hd
      simp [hd']
     ·intro q hq;rw [List.getElem?_set_ne (by omega)];exact hcr q (by omega)
     ·simp
     ·simp
     ·simp
    ·refine ⟨ak (by omega) (by omega),_,?_,u,j+1,cur,by omega,by omega,rfl,hcl,?_,fun q hq=>hcr q (by omega),rfl,?_⟩
     ·omega
     ·rw [htj,hct];simp only [kept,List.filter_append];have hd':cur[j]≤i:=by simpa using hd
      simp [hd']
     ·simp
   ·have hjk':j=k:=by omega
    subst hjk';have b3:(0:Int)≤u:=by omega
    have b4:(u:Int)≤j:=by omega
    simp only [go_sem,seval,aH,aL,h0,h1,h5,h6,b3,b4,Int.le_refl,Int.toNat_natCast,Nat.zero_add];refine ad.clear (id:=e) (off:=u) (len:=j - u) (ob:=⟨3,1,cur.map vI⟩) rfl rfl rfl ag rfl (by simp; omega) ?_;apply sR;simp only [go_sem,seval,aH,aL,h0,h1,h5,h6,b3,b4,Int.le_refl,Int.toNat_natCast,Nat.zero_add,Nat.sub_zero];refine ⟨_,_,aa.refl _,Wk.refl (aa.refl _) _,u,cur.take u++List.replicate (j - u) 0++cur.drop (u+(j - u)),by simp,?_,?_,?_,?_⟩
    ·simp [List.map_take,List.map_drop]
    ·simp; omega
    ·simp; omega
    ·rw [List.append_assoc,List.take_append_of_le_length (by simp; omega),List.take_take,Nat.min_self,hct]
open Go.Proofs Go.Proofs.Tryz
theorem Reads.aC (σ:af):Reads σ 1 false .aC []:=⟨rfl,fun i v h=>by simp at h⟩
theorem Aw {σ:af} {c:Nat} {i:Int} (hc:σ c=some ⟨3,1,[vI i]⟩):av prog 91 [.aC, .fn 92 [.ptr c 0 0]] σ fun r σ'=>r=.aC∧σ'=σ:=by
 refine e91.r (by simp [c91]) ?_;refine ad.mix 8 ?_;apply sR;simp only [go_sem,seval,aH,aL,c91];refine ad.az rfl rfl rfl (kQ (l:=[]) (p:=fun n=>decide (n≤i)) (Reads.aC σ) (by simp) (fun n _=>AL hc n)) ?_;apply sR;simp only [go_sem,seval,aH,aL,cq];exact au.same rfl
theorem F6 {times n:Int} (h0:0≤n) (t0:0≤times):0≤jT times n∧jT times n≤1099511627777:=by
 unfold jT;split
 ·rename_i h;refine ⟨Int.mul_nonneg h0 t0,?_⟩;rcases h with h | h
  ·subst h; simp
  ·by_cases hn:n=0
   ·subst hn; simp
   ·have:=Int.mul_le_of_le_ediv (by omega:0 < n) h;rw [Int.mul_comm]; omega
 ·omega
def cy (s:Sm) (ends:V):Ob:=⟨135,5,[.agg [vI s.depth,vI s.pieces,vI s.nodes,vI s.heights,ends]]⟩
theorem pe {σ:af} {c:Nat} {s:Sm} {ends sv:V} {times:Int} {l:List Int} (hc:σ c=some (cy s ends)) (hr:∀ob,Reads (upd σ c ob) 1 false sv (l.map vI)) (hl:l.length≤200000000000000)
 (hn:∀n∈l,0≤n∧n≤mx) (ht:0≤times∧times≤200000000000000) (hh:0≤s.heights∧s.heights≤1099511627777) (hends:ends.cells=[ends]) :
 av prog 93 [.ptr c 0 0,vI times,sv] σ fun r σ'=>r=.tup []∧σ'=upd σ c (cy { s with heights:=lj times s.heights l } ends):=by
 have hlen:dK false sv=some (vI (l.length:Int)):=by simpa using (hr ⟨0,0,[]⟩).1
 have hsame:upd σ c (cy s ends)=σ:=by
  funext j;simp only [upd];split
  ·rename_i e'; rw [e',hc]
  ·rfl
 refine e93.r (by simp [c93]) ?_;refine ad.mix 9 ?_;apply sR;simp only [go_sem,seval,aH,aL,c93,hlen];refine ad.loop (fun m st=>∃(i:Nat) (h:Int),i≤l.length∧m=l.length - i∧lj times s.heights l=lj times h (l.drop i)∧(0≤h∧h≤1099511627777)∧st.σ=upd σ c (cy { s with heights:=h } ends) ∧
  st.s 0=.ptr c 0 0∧st.s 1=vI times∧st.s 9=sv∧st.s 10=vI l.length∧st.s 11=vI i) l.length ?_ ?_
 ·exact ⟨0,s.heights,by omega,by omega,rfl,hh,hsame.symm,rfl,rfl,rfl,rfl,rfl⟩
 ·rintro m ⟨s',σ'⟩ ⟨i,h,hi,rfl,hp,hhh,hσ,h0,h1,h9,h10,h11⟩;simp only at h0 h1 h9 h10 h11 hσ;subst hσ;refine ad.mix 9 ?_;apply sR;simp only [go_sem,seval,aH,aL,h0,h1,h9,h10,h11];refine And.intro (fun hlt=>?_) (fun hge=>?_)
  ·have hlt':i < l.length:=by omega
   have hd:l.drop i=l[i]::l.drop (i+1):=List.drop_eq_getElem_cons hlt';obtain ⟨pp,e1,e2⟩:=(hr (cy { s with heights:=h } ends)).2 i (vI l[i]) (by simp [hlt']);have hni:=hn _ (List.getElem_mem hlt');rw [hd,lj] at hp;generalize hne:l[i]=n at *;have iG:=F6 (n:=n) hni.1 ht.1;simp only [cy] at e1 e2;simp only [mx] at hni;have hq:(1099511627776:Int).tdiv n=1099511627776 / n:=Int.tdiv_eq_ediv_of_nonneg (by omega);by_cases hz:n=0
   ·have hs0:jT times n=n*times:=by unfold jT; rw [if_pos (.inl hz)]
    rw [hs0] at hp iG;simp only [go_sem,seval,aH,aL,e1,e2,cy,hz,h0,h1,h9,h10,h11];rw [hz] at hp iG;simp only [Int.zero_mul,Int.add_zero] at hp ⊢;refine ⟨ak (by omega) (by omega),ak (by omega) (by omega),ak (by omega) (by omega),_,?_,i+1,h,by omega,rfl,?_,hhh,?_,by simp⟩
    ·omega
    ·rw [hp,Int.min_eq_left hhh.2]
    ·rw [if_neg (by omega)]
   ·simp only [go_sem,seval,aH,aL,e1,e2,cy,hz,h0,h1,h9,h10,h11,hq];have hdiv:0≤1099511627776 / n∧1099511627776 / n≤1099511627776:=⟨Int.ediv_nonneg (by omega) hni.1,Int.ediv_le_self _ (by omega)⟩
    refine ⟨ak (by omega) (by omega),fun hle=>?_,fun hgt=>?_⟩
    ·have hs0:jT times n=n*times:=by unfold jT; rw [if_pos (.inr hle)]
     rw [hs0] at hp iG;refine ⟨ak (by omega) (by omega),ak (by omega) (by omega),ak (by omega) (by omega),_,?_,i+1,min (h+n*times) 1099511627777,by omega,rfl,hp,by omega,?_,by simp⟩
     ·omega
     ·rw [show (if 1099511627777 < h+n*times then 1099511627777 else h+n*times)=min (h+n*times) 1099511627777 by split <;> omega]
    ·have hs0:jT times n=1099511627777:=by unfold jT; rw [if_neg (by omega)]
     rw [hs0] at hp iG;refine ⟨ak (by omega) (by omega),ak (by omega) (by omega),_,?_,i+1,min (h+1099511627777) 1099511627777,by omega,rfl,hp,by omega,?_,by simp⟩
     ·omega
     ·rw [show (if 1099511627777 < h+1099511627777 then 1099511627777 else h+1099511627777)=min (h+1099511627777) 1099511627777 by split <;> omega]
  ·have:i=l.length:=by omega
   refine ⟨_,_,aa.refl _,Wk.refl (aa.refl _) _,rfl,?_⟩;rw [hp,this,List.drop_length]; rfl
open Go.Proofs Go.Proofs.Tryz
theorem FO {P:Program} {n:Nat} {Q:St→Prop} {k:List It} {O:Orc P} {f:Nat} {d:Option Nat} {l:List aG} {v:Nat→V} {ob:Ob} {s:Nat→V} {σ:af} {e:Nat}
 (h:∀id σ',aa (del σ e) σ'→σ' id=some ob→σ id=none→step P O n f (.d l k) ⟨aW s d (v id),σ'⟩ Q) :
 EW P O n f l k d ⟨s,σ⟩ Q (some fun id=>(v id,Vc.upd (del σ e) id ob)):=by
 rw [aL];refine fun id hid=>h id _ ((aa.refl _).upd ?_) ag hid;by_cases e':id=e
 ·simp [del,e']
 ·rw [dh e']; exact hid
def kH (K σ:af) (v:V) (ends:List Int) (B:Nat):Prop :=
 (v=.aC∧ends=[])∨∃(e k:Nat) (full:List Int),v=.own e 0 k∧σ e=some ⟨3,1,full.map vI⟩∧K e=none∧k≤full.length∧full.length≤B∧full.take k=ends
theorem Mg {K σ:af} {v:V} {ends:List Int} {B c:Nat} {i:Int} (hB:B≤1000000000000) (h:kH K σ v ends B) (hK:aa K σ) (hc:K c=some ⟨3,1,[vI i]⟩) :
 av prog 91 [v, .fn 92 [.ptr c 0 0]] σ fun r σ'=>aa K σ'∧kH K σ' r (kept i ends) B:=by
 rcases h with ⟨rfl,rfl⟩ | ⟨e,k,full,rfl,h1,h2,h3,h4,rfl⟩
 ·refine (Aw (hK _ _ hc)).mono ?_;rintro r σ' ⟨rfl,rfl⟩;exact ⟨hK, .inl ⟨rfl,rfl⟩⟩
 ·have hne:c≠e:=by rintro rfl; rw [h2] at hc; cases hc
  refine (Fh h1 (hK _ _ hc) hne h3 (by omega)).mono ?_;rintro r σ' ⟨k',full',rfl,rfl,g1,g2,g3⟩;exact ⟨hK.aD h2, .inr ⟨e,k',full',rfl,ag,h2,g1,by omega,g3⟩⟩
theorem aa.GR {K σ:af} {i:Nat} {o:Ob} (h:aa K σ) (hi:σ i=some o):aa (Vc.upd K i o) σ:=fun j x hx=>by
 by_cases e:j=i
 ·subst e; rw [ag] at hx; rw [hi]; exact hx
 ·rw [ab e] at hx; exact h j x hx
theorem kH.new {K σ σ':af} {v:V} {ends:List Int} {B id:Nat} {o:Ob} (h:kH K σ v ends B) (hs:aa σ σ') (hid:σ id=none):kH (upd K id o) σ' v ends B:=by
 rcases h with h | ⟨e,k,full,h0,h1,h2,h3⟩
 ·exact .inl h
 ·exact .inr ⟨e,k,full,h0,hs _ _ h1,by rw [ab (ao h1 hid)]; exact h2,h3⟩
theorem kH.less {K K' σ:af} {v:V} {ends:List Int} {B:Nat} (h:kH K' σ v ends B) (hs:aa K K'):kH K σ v ends B:=by
 rcases h with h | ⟨e,k,full,h0,h1,h2,h3⟩
 ·exact .inl h
 ·exact .inr ⟨e,k,full,h0,h1,hs.none h2,h3⟩
theorem JY {K σ:af} {v:V} {ends:List Int} {B c i:Nat} {x:Nd} {s:Sm} (hK:aa K σ) (hKc:K c=none) (hc:σ c=some (cy s v)) (hE:∀o,kH (upd K c o) σ v ends B) (hB:B≤1000000000)
 (hi:i≤10000) (hs:s.tB i) (hsn:s.nodes=i) (hx:x.ok=true) (hw:x.words.length≤200000000000000) (hsz:1≤x.size∧x.size≤1000000000) :
 av prog 59 [.ptr c 0 0,vI i,gP x] σ fun r σ'=>r=.tup []∧aa K σ'∧∃v',σ' c=some (cy (ep i x s ends).1 v')∧∀o,kH (upd K c o) σ' v' (ep i x s ends).2 (B+1):=by
 refine e59.r (by simp [c59]) ?_;refine ad.mix 7 ?_;apply sR;simp only [go_sem,seval,c59,gP,Nd.cells];refine ae fun id4 σ1 s1 a4 f4=>?_;have hc1:=s1 _ _ hc;have n4c:=ao hc f4;simp only [go_sem,seval,a4];refine ae fun id5 σ2 s2 a5 f5=>?_;have hc2:=s2 _ _ hc1;have n5c:=ao hc1 f5;have n54:=ao a4 f5;have a4:=s2 _ _ a4;have hK2:=(hK.trans s1).trans s2;have k4:K id4=none:=hK.none f4;have k5:K id5=none:=(hK.trans s1).none f5;simp only [go_sem,seval,hc2,cy,a4,a5];have hK':aa (upd (upd (upd K c (cy s v)) id4 ⟨3,1,[vI i]⟩) id5 ⟨73,20,[gP x]⟩) σ2:=((hK2.GR hc2).GR a4).GR a5;have hE':kH (upd (upd (upd K c (cy s v)) id4 ⟨3,1,[vI i]⟩) id5 ⟨73,20,[gP x]⟩) σ2 v ends B:=((hE _).new s1 f4).new s2 f5;refine ad.call rfl rfl rfl (Mg (by omega) hE' hK' (by rw [ab n54,ag])) ?_;rintro r σ3 ⟨hK3,hE3⟩;have hc3:=hK3 c _ (by rw [ab n5c,ab n4c,ag]);have a4:=hK3 id4 _ (by rw [ab n54,ag]);have a5:=hK3 id5 _ ag;simp only [gP,Nd.cells] at a5;simp only [cy] at hc3;have hKK:=(((aa.refl K).aD hKc (o:=cy s v)).aD k4 (o:=⟨3,1,[vI i]⟩)).aD k5 (o:=⟨73,20,[gP x]⟩);have h3:=hKK.trans hK3;have hsr:inR .i64 (s.nodes+1):=ak (by omega) (by omega);obtain ⟨p1,p2,p3,p4,p5,p6⟩:=jh hx;obtain ⟨f1,f2,f3⟩:=hs;rcases hE3 with ⟨rfl,hk0⟩ | ⟨e,k,full,rfl,he,hKe,hk,hfl,hk0⟩
 ·by_cases hk1:x.kind=1
  ·apply sR;simp only [go_sem,seval,a4,a5,hc3,ab n4c.symm,ab n5c.symm,hk1];refine ⟨hsr,ak (by omega) (by omega),?_⟩;refine bz fun id8 σ4 s4 a8 f8=>?_;have hc4:=s4 c _ ag;have a4:=s4 id4 _ (by rw [ab n4c.symm]; exact a4);have a5:=s4 id5 _ (by rw [ab n5c.symm]; exact a5);have hs8:∀σ,σ id8=some ⟨3,1,[.int .i64 (i+x.size)]⟩→bG σ 1 (.own id8 0 1)=some [.int .i64 (i+x.size)]:=by
    intro σ hσ;simp only [bG,hσ];rw [if_pos (by simp)];simp
   have hd:∀σ,bQ σ 3 1 .aC=some ([],none):=fun _=>rfl;simp only [go_sem,seval,hs8,a8,hd,bw,Nat.reduceLeDiff];refine bz fun id9 σ5 s5 a9 f9=>?_;have hc5:=s5 c _ hc4;have a4:=s5 id4 _ a4;have a5:=s5 id5 _ a5;have n9c:id9≠c:=by rintro rfl; rw [hc4] at f9; cases f9
   have n95:id9≠id5:=by rintro rfl; rw [s4 id9 _ (by rw [ab n5c.symm]; exact hK3 id9 _ ag)] at f9; cases f9
   simp only [go_sem,seval,hc5,a4,a5,a9,ab n5c.symm,ab n9c];refine ae fun id6 σ6 s6 a6 f6=>?_;have hc6:=s6 c _ ag;have a9:=s6 id9 _ (by rw [ab n9c]; exact a9);have n6c:id6≠c:=by rintro rfl; rw [hc6] at a6; simp at a6
   have n69:id6≠id9:=by rintro rfl; rw [a9] at a6; simp at a6
   simp only [go_sem,seval,a6];refine ae fun id84 σ7 s7 a84 f84=>?_;have hc7:=s7 c _ (by rw [ab n6c.symm]; exact hc6);have a9:=s7 id9 _ (by rw [ab n69.symm]; exact a9);have n84c:id84≠c:=by rintro rfl; rw [hc7] at a84; simp at a84
   simp only [go_sem,seval];have h4:=(h3.aD hKc).trans s4;have h5:=h4.trans s5;have k9:K id9=none:=h4.none f9;have h6':=fun o=>h5.aD hKc (o:=o);have k6:K id6=none:=(h6' _).none f6;have h7:=(((h6' _).trans s6).aD k6).trans s7;obtain ⟨q1,q2,q3,q4,q5⟩:=p6 hk1;have hl5:∀n∈[x.st.top,x.st.bottom,x.st.padTop,x.st.padBottom,x.st.head],0≤n∧n≤mx:=by
    intro n hn;simp only [List.mem_cons,List.not_mem_nil,or_false] at hn;rcases hn with rfl | rfl | rfl | rfl | rfl <;> assumption
   refine ad.call rfl rfl rfl (pe (s:=⟨if (1:Int) > s.depth then 1 else s.depth,s.pieces,s.nodes+1,s.heights⟩) (l:=[x.st.top,x.st.bottom,x.st.padTop,x.st.padBottom,x.st.head]) (times:=1) hc7
    (fun ob=>Reads.own (off:=0) (len:=5) ((ab n84c).trans a84) rfl (by simp) (fun r hr=>by simp at hr; rcases hr with rfl | rfl | rfl | rfl | rfl <;> rfl)) (by simp) hl5 (by omega) f3 rfl) ?_
   rintro r σ8 ⟨rfl,rfl⟩;apply sR;simp only [go_sem,seval,aH,aL];refine ⟨_,_,aa.refl _,Wk.refl (aa.refl _) _,rfl,h7.aD hKc, .own id9 0 1,?_,fun o=>.inr ⟨id9,1,[i+x.size],rfl,(ab n9c).trans a9,fA.2 ⟨n9c,k9⟩,by simp,by simp,?_⟩⟩
   ·have e:(if (1:Int) > s.depth then 1 else s.depth)=max s.depth 1:=by split <;> omega
    rw [ag,e];simp [ep,hk1,hk0,cy]
   ·simp [ep,hk1,hk0]
  ·by_cases hk2:x.kind=2
   ·apply sR;simp only [go_sem,seval,a4,a5,hc3,ab n4c.symm,ab n5c.symm,hk2,dz];refine ⟨hsr,ak (by omega) (by omega),?_⟩;refine ae fun id7 σ7 s7 a7 f7=>?_;have hc7:=s7 c _ ag;have n7c:id7≠c:=by rintro rfl; rw [hc7] at a7; simp at a7
    simp only [go_sem,seval];have h7:=(h3.aD hKc).trans s7;refine ad.call rfl rfl rfl (pe (s:=⟨s.depth,s.pieces+x.words.length,s.nodes+1,s.heights⟩) (l:=[x.line]) (times:=x.words.length) hc7
     (fun ob=>Reads.own (off:=0) (len:=1) ((ab n7c).trans a7) rfl (by simp) (fun r hr=>by simp at hr; rcases hr with rfl; rfl)) (by simp) (by intro n hn; simp at hn; subst hn; exact ⟨p2,p3⟩) (by omega) f3 rfl) ?_
    rintro r σ8 ⟨rfl,rfl⟩;apply sR;simp only [go_sem,seval,aH,aL];refine ⟨_,_,aa.refl _,Wk.refl (aa.refl _) _,rfl,h7.aD hKc,_,ag.trans (by simp [ep,hk2,cy]; rfl),fun o=>?_⟩;have:(ep i x s ends).2=kept i ends:=by simp [ep,hk2]
    rw [this];exact .inl ⟨rfl,hk0⟩
   ·have h4or:=p1;apply sR;simp only [go_sem,seval,a4,a5,hc3,ab n4c.symm,ab n5c.symm,hk1,hk2,dz];refine ⟨hsr,ak (by omega) (by omega),?_⟩;refine ae fun id7 σ7 s7 a7 f7=>?_;have hc7:=s7 c _ ag;have n7c:id7≠c:=by rintro rfl; rw [hc7] at a7; simp at a7
    simp only [go_sem,seval];have h7:=(h3.aD hKc).trans s7;refine ad.call rfl rfl rfl (pe (s:=⟨s.depth,s.pieces+1,s.nodes+1,s.heights⟩) (l:=[x.h]) (times:=1) hc7
     (fun ob=>Reads.own (off:=0) (len:=1) ((ab n7c).trans a7) rfl (by simp) (fun r hr=>by simp at hr; rcases hr with rfl; rfl)) (by simp) (by intro n hn; simp at hn; subst hn; exact ⟨p4,p5⟩) (by omega) f3 rfl) ?_
    rintro r σ8 ⟨rfl,rfl⟩;apply sR;simp only [go_sem,seval,aH,aL];refine ⟨_,_,aa.refl _,Wk.refl (aa.refl _) _,rfl,h7.aD hKc,_,ag.trans (by simp [ep,hk1,hk2,cy]; rfl),fun o=>?_⟩;have:(ep i x s ends).2=kept i ends:=by simp [ep,hk1,hk2]
    rw [this];exact .inl ⟨rfl,hk0⟩
 ·have hec:e≠c:=fun e'=>by rw [e',ab n5c,ab n4c,ag] at hKe; cases hKe
  have he4:e≠id4:=fun e'=>by rw [e',ab n54,ag] at hKe; cases hKe
  have he5:e≠id5:=fun e'=>by rw [e',ag] at hKe; cases hKe
  have hKe0:K e=none:=hKK.none hKe;have hlk:(full.take k).length=k:=by simp; omega
  by_cases hk1:x.kind=1
  ·apply sR;simp only [go_sem,seval,a4,a5,hc3,ab n4c.symm,ab n5c.symm,hk1];refine ⟨hsr,ak (by omega) (by omega),?_⟩;refine bz fun id8 σ4 s4 a8 f8=>?_;have hc4:=s4 c _ ag;have a4:=s4 id4 _ (by rw [ab n4c.symm]; exact a4);have a5:=s4 id5 _ (by rw [ab n5c.symm]; exact a5);have hs8:∀σ,σ id8=some ⟨3,1,[.int .i64 (i+x.size)]⟩→bG σ 1 (.own id8 0 1)=some [.int .i64 (i+x.size)]:=by
    intro σ hσ;simp only [bG,hσ];rw [if_pos (by simp)];simp
   have he4':=s4 e _ (by rw [ab hec]; exact he);have hd:∀σ,σ e=some ⟨3,1,full.map vI⟩→bQ σ 3 1 (.own e 0 k)=some ((full.take k).map vI,some e):=by
    intro σ hσ;simp only [bQ,hσ];rw [if_pos ⟨trivial,trivial,trivial,by simpa using hk⟩,List.map_take]
   have hlm:((full.take k).map vI).length=k:=by simpa using hlk
   have hbb:(k+1)*9≤140737488355328:=by omega
   simp only [go_sem,seval,hs8,a8,hd,he4',bw,hlm,hbb];refine FO fun id9 σ5 s5 a9 f9=>?_;have hc5:=s5 c _ (by rw [dh hec.symm]; exact hc4);have a4:=s5 id4 _ (by rw [dh he4.symm]; exact a4);have a5:=s5 id5 _ (by rw [dh he5.symm]; exact a5);have n9c:id9≠c:=by rintro rfl; rw [hc4] at f9; cases f9
   have n95:id9≠id5:=by rintro rfl; rw [s4 id9 _ (by rw [ab n5c.symm]; exact hK3 id9 _ ag)] at f9; cases f9
   simp only [go_sem,seval,hc5,a4,a5,a9,ab n5c.symm,ab n9c];refine ae fun id6 σ6 s6 a6 f6=>?_;have hc6:=s6 c _ ag;have a9:=s6 id9 _ (by rw [ab n9c]; exact a9);have n6c:id6≠c:=by rintro rfl; rw [hc6] at a6; simp at a6
   have n69:id6≠id9:=by rintro rfl; rw [a9] at a6; simp at a6
   simp only [go_sem,seval,a6];refine ae fun id84 σ7 s7 a84 f84=>?_;have hc7:=s7 c _ (by rw [ab n6c.symm]; exact hc6);have a9:=s7 id9 _ (by rw [ab n69.symm]; exact a9);have n84c:id84≠c:=by rintro rfl; rw [hc7] at a84; simp at a84
   simp only [go_sem,seval];have h4:=(h3.aD hKc).trans s4;have h4':=h4.Gf hKe0;have h5:=h4'.trans s5;have k9:K id9=none:=h4.none f9;have h6':=fun o=>h5.aD hKc (o:=o);have k6:K id6=none:=(h6' _).none f6;have h7:=(((h6' _).trans s6).aD k6).trans s7;obtain ⟨q1,q2,q3,q4,q5⟩:=p6 hk1;have hl5:∀n∈[x.st.top,x.st.bottom,x.st.padTop,x.st.padBottom,x.st.head],0≤n∧n≤mx:=by
    intro n hn;simp only [List.mem_cons,List.not_mem_nil,or_false] at hn;rcases hn with rfl | rfl | rfl | rfl | rfl <;> assumption
   refine ad.call rfl rfl rfl (pe (s:=⟨if ((k+1:Nat):Int) > s.depth then ((k+1:Nat):Int) else s.depth,s.pieces,s.nodes+1,s.heights⟩) (l:=[x.st.top,x.st.bottom,x.st.padTop,x.st.padBottom,x.st.head]) (times:=1) hc7
    (fun ob=>Reads.own (off:=0) (len:=5) ((ab n84c).trans a84) rfl (by simp) (fun r hr=>by simp at hr; rcases hr with rfl | rfl | rfl | rfl | rfl <;> rfl)) (by simp) hl5 (by omega) f3 rfl) ?_
   rintro r σ8 ⟨rfl,rfl⟩;apply sR;simp only [go_sem,seval,aH,aL];refine ⟨_,_,aa.refl _,Wk.refl (aa.refl _) _,rfl,h7.aD hKc, .own id9 0 (k+1),?_,fun o=>.inr ⟨id9,k+1,full.take k++[i+x.size],rfl,((ab n9c).trans a9).trans (by simp),fA.2 ⟨n9c,k9⟩,by simp; omega,by simp; omega,?_⟩⟩
   ·have e:(if ((k+1:Nat):Int) > s.depth then ((k+1:Nat):Int) else s.depth)=max s.depth ((k+1:Nat):Int):=by split <;> omega
    rw [ag,e];have hk0':kept i ends=full.take k:=hk0.symm;simp [ep,hk1,hk0',hlk,cy,Nat.min_eq_left hk]
   ·have hk0':kept i ends=full.take k:=hk0.symm;rw [List.take_of_length_le (by simp; omega)];simp [ep,hk1,hk0']
  ·by_cases hk2:x.kind=2
   ·apply sR;simp only [go_sem,seval,a4,a5,hc3,ab n4c.symm,ab n5c.symm,hk2,dz];refine ⟨hsr,ak (by omega) (by omega),?_⟩;refine ae fun id7 σ7 s7 a7 f7=>?_;have hc7:=s7 c _ ag;have n7c:id7≠c:=by rintro rfl; rw [hc7] at a7; simp at a7
    simp only [go_sem,seval];have h7:=(h3.aD hKc).trans s7;refine ad.call rfl rfl rfl (pe (s:=⟨s.depth,s.pieces+x.words.length,s.nodes+1,s.heights⟩) (l:=[x.line]) (times:=x.words.length) hc7
     (fun ob=>Reads.own (off:=0) (len:=1) ((ab n7c).trans a7) rfl (by simp) (fun r hr=>by simp at hr; rcases hr with rfl; rfl)) (by simp) (by intro n hn; simp at hn; subst hn; exact ⟨p2,p3⟩) (by omega) f3 rfl) ?_
    rintro r σ8 ⟨rfl,rfl⟩;apply sR;simp only [go_sem,seval,aH,aL];refine ⟨_,_,aa.refl _,Wk.refl (aa.refl _) _,rfl,h7.aD hKc,_,ag.trans (by simp [ep,hk2,cy]; rfl),fun o=>?_⟩;have:(ep i x s ends).2=kept i ends:=by simp [ep,hk2]
    rw [this];exact .inr ⟨e,k,full,rfl,(ab hec).trans (s7 e _ (by rw [ab hec]; exact he)),fA.2 ⟨hec,hKe0⟩,hk,by omega,hk0⟩
   ·have h4or:=p1;apply sR;simp only [go_sem,seval,a4,a5,hc3,ab n4c.symm,ab n5c.symm,hk1,hk2,dz];refine ⟨hsr,ak (by omega) (by omega),?_⟩;refine ae fun id7 σ7 s7 a7 f7=>?_;have hc7:=s7 c _ ag;have n7c:id7≠c:=by rintro rfl; rw [hc7] at a7; simp at a7
    simp only [go_sem,seval];have h7:=(h3.aD hKc).trans s7;refine ad.call rfl rfl rfl (pe (s:=⟨s.depth,s.pieces+1,s.nodes+1,s.heights⟩) (l:=[x.h]) (times:=1) hc7
     (fun ob=>Reads.own (off:=0) (len:=1) ((ab n7c).trans a7) rfl (by simp) (fun r hr=>by simp at hr; rcases hr with rfl; rfl)) (by simp) (by intro n hn; simp at hn; subst hn; exact ⟨p4,p5⟩) (by omega) f3 rfl) ?_
    rintro r σ8 ⟨rfl,rfl⟩;apply sR;simp only [go_sem,seval,aH,aL];refine ⟨_,_,aa.refl _,Wk.refl (aa.refl _) _,rfl,h7.aD hKc,_,ag.trans (by simp [ep,hk1,hk2,cy]; rfl),fun o=>?_⟩;have:(ep i x s ends).2=kept i ends:=by simp [ep,hk1,hk2]
    rw [this];exact .inr ⟨e,k,full,rfl,(ab hec).trans (s7 e _ (by rw [ab hec]; exact he)),fA.2 ⟨hec,hKe0⟩,hk,by omega,hk0⟩
open Go.Proofs Go.Proofs.Tryz
theorem yR (l:List Nd) (hl:dJ l):aV prog 26 [aJ l] (.tup [.agg (gX l).1.cells,vI (gX l).2]):=fun σ=>by
 have hl0:=hl;obtain ⟨hl1,hl2⟩:=hl;rw [←Co l hl0];refine e26.r (by simp [c26]) ?_;refine ad.mix 7 ?_;apply sR;simp only [go_sem,seval,c26];refine ae fun idR σ1 s1 aR fR=>?_;simp only [go_sem,seval,aR];refine ad.az rfl rfl rfl (BR l hl0 _) ?_;apply sR;simp only [go_sem,seval,uf,aR];refine And.intro (fun hf=>?_) (fun hf=>?_)
 ·simp only [Bool.not_eq_eq_eq_not,Bool.not_true] at hf;refine au.pure (s1.aD fR) ?_;simp [vm,hf,Sm.cells]
 ·simp only [Bool.not_eq_eq_eq_not,Bool.not_false] at hf;refine ae fun id4 σ2 s2 a4 f4=>?_;have nR4:=ao aR f4;have aR:=s2 _ _ aR;have g4:σ id4=none:=s1.none f4;have hKR:aa (upd σ idR ⟨81,4,[.agg Sm.zero.cells]⟩) σ2:=(s1.trans s2).GR aR;have k4:upd σ idR ⟨81,4,[.agg Sm.zero.cells]⟩ id4=none:=fA.2 ⟨nR4.symm,g4⟩;simp only [go_sem,seval,eE];refine ad.loop (fun m st=>∃(i:Nat) (v:V),i≤l.length∧m=l.length - i∧aa (upd σ idR ⟨81,4,[.agg Sm.zero.cells]⟩) st.σ∧st.σ id4=some (cy (gE l i).1 v) ∧
   (∀o,kH (upd (upd σ idR ⟨81,4,[.agg Sm.zero.cells]⟩) id4 o) st.σ v (gE l i).2 i)∧st.s 2=.ptr idR 0 0∧st.s 4=.ptr id4 0 0∧st.s 11=aJ l∧st.s 12=vI l.length∧st.s 13=vI i) l.length ?_ ?_
  ·exact ⟨0, .aC,by omega,by omega,hKR,a4,fun o=>.inl ⟨rfl,rfl⟩,rfl,rfl,rfl,rfl,rfl⟩
  ·rintro m ⟨s,σ'⟩ ⟨i,v,hi,rfl,hsub,h4s,hE,h2,h4,h11,h12,h13⟩;simp only at hsub h4s hE h2 h4 h11 h12 h13;obtain ⟨e1,e2,e3,e4⟩:=lI l hl0 hf i hi;have hok:l.all Nd.ok=true∧bT l 0 l.length=true:=by simpa [isB] using hf
   have hRs:σ' idR=some ⟨81,4,[.agg Sm.zero.cells]⟩:=hsub idR _ ag;refine ad.mix 7 ?_;apply sR;simp only [go_sem,seval,h2,h4,h11,h12,h13,h4s,cy,hRs,Sm.zero,Sm.cells];refine And.intro (fun hlt=>?_) (fun hge=>?_)
   ·have hlt':i < l.length:=by omega
    have hx:=(List.all_eq_true.1 hok.1) _ (List.getElem_mem hlt');have hxw:=hl2 _ (List.getElem_mem hlt');obtain ⟨z1,z2,z3⟩:=gO l (l.length+1) 0 l.length (by omega) (by omega) hok.2 i (by omega) hlt' hlt';have hstep:gE l (i+1)=ep i l[i] (gE l i).1 (gE l i).2:=by simp [gE,hlt']
    generalize hxe:l[i]=x at *;simp only [go_sem,seval,lL hlt',hxe,h2,h4,h11,h12,h13,Nd.cells];refine ae fun id6 σ6 s6 a6 f6=>?_;have n64:id6≠id4:=by rintro rfl; rw [h4s] at f6; cases f6
    have n6R:id6≠idR:=by rintro rfl; rw [hRs] at f6; cases f6
    have g6:upd σ idR ⟨81,4,[.agg Sm.zero.cells]⟩ id6=none:=hsub.none f6;simp only [go_sem,seval,a6,h2,h4,h11,h12,h13];have hsub6:=hsub.trans s6;have hcall:=(JY (K:=upd σ idR ⟨81,4,[.agg Sm.zero.cells]⟩) (σ:=upd σ6 id6 ⟨73,20,[gP x]⟩) (i:=i) (x:=x) (s:=(gE l i).1) (B:=i) (hsub6.aD g6) k4 ((ab n64.symm).trans (s6 _ _ h4s))
     (fun o=>((hE o).new (s6.aD f6) f6 (o:=⟨0,0,[]⟩)).less ((aa.refl _).aD (fA.2 ⟨n64,g6⟩))) (by omega) (by omega) (by rw [e1]; exact e3) (by rw [e1]) hx hxw (by omega))
    simp only [gP,Nd.cells] at hcall;refine ad.call rfl rfl rfl (by simp only [go_sem,seval,aH,aL,h4]; exact hcall) ?_
    ·rintro r σ7 ⟨rfl,hK7,v',h4',hE'⟩;apply sR;simp only [go_sem,seval,aH,aL,h2,h4,h11,h12,h13];refine ⟨ak (by omega) (by omega),_,?_,i+1,v',by omega,rfl,hK7,?_,?_,?_⟩
     ·omega
     ·rw [hstep,h4']; rfl
     ·intro o; rw [hstep]; exact hE' o
     ·simp
   ·have hie:i=l.length:=by omega
    subst hie;refine au.pure ((((aa.refl σ).aD fR).trans hsub).aD fR) ?_;simp [vm,hf,Sm.cells]
open Go.Proofs Go.Proofs.Tryz
theorem xL:((2:Nat):Int)=2:=rfl
theorem wS:((3:Nat):Int)=3:=rfl
theorem yg:((4:Nat):Int)=4:=rfl
theorem tk (l:List Nd) (hl:dJ l):aV prog 25 [aJ l] (vI (gy l)):=fun σ=>by
 refine e25.r (by simp [c25]) ?_;refine ad.mix 8 ?_;apply sR;simp only [go_sem,seval,c25];refine ad.az rfl rfl rfl (yR l hl _) ?_;apply sR;simp only [go_sem,seval,Sm.cells];refine ae fun id3 σ1 s1 a3 f3=>?_;have hsub:=fun o=>s1.aD f3 (o:=o);simp only [go_sem,seval,a3];have hc:(gX l).2=if isB l then 0 else 4:=by unfold gX; split <;> rfl
 refine And.intro (fun h=>?_) (fun h=>?_)
 ·refine au.pure (hsub _) ?_;have:isB l=false:=by
   rw [hc] at h;cases hb:isB l <;> simp_all
  simp [gy,this,hc]
 ·have hb:isB l=true:=by
   rw [hc] at h;cases hb:isB l <;> simp_all
  have hR:gy l=if (gX l).1.depth > 16∨(gX l).1.pieces > 2000∨(gX l).1.nodes > 2000∨(gX l).1.heights > 1099511627776 then 2 else 0:=by
   simp only [gy,hb,if_true]
  generalize (gX l).1=sm at *;refine ae fun id5 σ2 s2 a5 f5=>?_;have hs2:=(hsub _).trans s2;have g5:σ id5=none:=(hsub _).none f5;simp only [go_sem,seval,a5];refine ad.loop (fun m st=>∃(i:Nat),i≤4∧m=4 - i∧st.σ=upd σ2 id5 ⟨133,4,[.agg sm.cells]⟩∧(0 < i→sm.depth≤16)∧(1 < i→sm.pieces≤2000)∧(2 < i→sm.nodes≤2000)∧(3 < i→sm.heights≤1099511627776) ∧
   st.s 5=.ptr id5 0 0∧st.s 25=.agg [vI 16,vI 2000,vI 2000,vI 1099511627776]∧st.s 26=vI i) 4 ?_ ?_
  ·exact ⟨0,by omega,by omega,rfl,by omega,by omega,by omega,by omega,rfl,rfl,rfl⟩
  ·rintro m ⟨s,σ'⟩ ⟨i,hi,rfl,hσ,p1,p2,p3,p4,h5,h25,h26⟩;simp only at hσ h5 h25 h26;subst hσ;have hi':i=0∨i=1∨i=2∨i=3∨i=4:=by omega
   have hend:∀(p:Prop),p→p:=fun _ h=>h;rcases hi' with rfl | rfl | rfl | rfl | rfl
   ·refine ad.mix 8 ?_;apply sR;simp only [go_sem,seval,aH,aL,h5,h25,h26,Sm.cells,Int.ofNat_zero,Int.natCast_zero,xL,wS,yg,Int.toNat_zero,Int.reduceToNat,Nat.zero_mul];refine And.intro (fun g=>?_) (fun g=>?_)
    ·refine au.pure (hs2.aD g5) ?_;rw [hR,if_pos];omega
    ·refine ⟨ak (by omega) (by omega),_,?_,1,by omega,rfl,?_,?_,?_,?_,rfl⟩ <;> omega
   ·refine ad.mix 8 ?_;apply sR;simp only [go_sem,seval,aH,aL,h5,h25,h26,Sm.cells,Int.ofNat_zero,Int.natCast_zero,Int.natCast_one,Int.toNat_one,xL,wS,yg,Int.toNat_zero,Int.reduceToNat,Nat.zero_mul,Nat.reduceMul];refine And.intro (fun g=>?_) (fun g=>?_)
    ·refine au.pure (hs2.aD g5) ?_;rw [hR,if_pos];omega
    ·refine ⟨ak (by omega) (by omega),_,?_,2,by omega,rfl,?_,?_,?_,?_,rfl⟩ <;> omega
   ·refine ad.mix 8 ?_;apply sR;simp only [go_sem,seval,aH,aL,h5,h25,h26,Sm.cells,Int.ofNat_zero,Int.natCast_zero,Int.natCast_one,Int.toNat_one,xL,wS,yg,Int.toNat_zero,Int.reduceToNat,Nat.zero_mul,Nat.reduceMul];refine And.intro (fun g=>?_) (fun g=>?_)
    ·refine au.pure (hs2.aD g5) ?_;rw [hR,if_pos];omega
    ·refine ⟨ak (by omega) (by omega),_,?_,3,by omega,rfl,?_,?_,?_,?_,rfl⟩ <;> omega
   ·refine ad.mix 8 ?_;apply sR;simp only [go_sem,seval,aH,aL,h5,h25,h26,Sm.cells,Int.ofNat_zero,Int.natCast_zero,Int.natCast_one,Int.toNat_one,xL,wS,yg,Int.toNat_zero,Int.reduceToNat,Nat.zero_mul,Nat.reduceMul];refine And.intro (fun g=>?_) (fun g=>?_)
    ·refine au.pure (hs2.aD g5) ?_;rw [hR,if_pos];omega
    ·refine ⟨ak (by omega) (by omega),_,?_,4,by omega,rfl,?_,?_,?_,?_,rfl⟩ <;> omega
   ·refine ad.mix 8 ?_;apply sR;simp only [go_sem,seval,aH,aL,h5,h25,h26,Sm.cells,Int.ofNat_zero,Int.natCast_zero,Int.natCast_one,xL,wS,yg,Int.toNat_zero,Int.reduceToNat,Nat.zero_mul];refine au.pure (hs2.aD g5) ?_;rw [hR,if_neg];omega
open Go.Proofs Go.Proofs.Tryz
theorem ua (σ:af) (l:List Int):bO σ false 1 (.rp (bh l))=some (bh l):=rfl
open Go.Proofs Go.Proofs.Tryz
def szI (l:List Nd) (i:Nat):Int:=((l[i]?).map Nd.size).getD 0
def ud (l:List Nd) (a:Int):Bool:=decide (0≤a) && decide (a < l.length)
def gq (l:List Nd) (a b:Int):Bool:=ud l a && (ud l b && (decide (b≥a) && decide (b - a < szI l a.toNat)))
def fX (l:List Nd) (a:Nat):Nat→List Int
 | 0=>[]
 | k+1=>if gq l k a then (k:Int)::fX l a k else fX l a k
def qJ (l:List Nd) (a:Nat):Nat→Int
 | 0=>-1
 | k+1=>if gq l k a then (k:Int) else qJ l a k
def eg (l:List Nd) (a:Nat):Int:=qJ l a a
theorem xu {l:List Nd} {a:Int}:ud l a=true↔0≤a∧a < l.length:=by simp [ud]
theorem kB {l:List Nd} {i:Nat} (h:i < l.length):szI l i=l[i].size:=by simp [szI,h]
theorem DV {l:List Nd} (h:isB l=true) {i:Nat} (hi:i < l.length):1≤l[i].size∧l[i].size≤(l.length:Int) - i∧(l[i].kind=1∨l[i].size≤1):=by
 simp only [isB,Ba] at h;exact gO l (l.length+1) 0 l.length (by omega) (Nat.le_refl _) h.2 i (by omega) hi hi
theorem rF (l:List Nd) (a:Nat):∀k, -1≤qJ l a k∧qJ l a k < k
 | 0=>by simp [qJ]
 | k+1=>by
   rw [qJ];split
   ·omega
   ·have:=rF l a k; omega
open Go.Proofs Go.Proofs.Tryz
theorem vy (σ:af) (l:List Int):bG σ 1 (bh l)=some (l.map vI):=by simp [bh,bG]
theorem oY {l:List Nd} (hb:isB l=true) {i:Nat} (h:i < l.length):1≤szI l i∧szI l i≤l.length:=by
 rw [kB h];have:=DV hb h;omega
end Go.Vc
