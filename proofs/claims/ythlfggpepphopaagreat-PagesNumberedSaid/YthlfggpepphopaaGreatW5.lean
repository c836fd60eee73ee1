/- Part 5 of the library of this proof. -/
import Derived.Test.YthlfggpepphopaaGreatW4
set_option linter.all false
set_option maxRecDepth 100000
namespace Go.Vc
variable {P:Program} {n:Nat} {st:St} {Q:St→Prop} {k:List It}
theorem tw {deps:List (List Nat)} {listed:List Nat} {i:Nat} (h:i∈dv deps listed):i < deps.length∧i∉listed∧∀k∈deps.getD i [],k∈listed:=by
 unfold dv at h;obtain ⟨h1,h2⟩:=List.mem_filter.1 h;simp only [Ba,Bool.not_eq_true',List.all_eq_true] at h2;exact ⟨by simpa using h1,by simpa using h2.1,fun k hk=>by simpa using h2.2 k hk⟩
theorem rP:∀(n:Nat) (L:List Nat),L.Nodup→(∀k∈L,k < n)→L.length≤n∧(L.length=n→∀k,k < n→k∈L)
 | 0,L,_,h=>by
   cases L with
   | nil=>simp
   | cons a L=>have:=h a (by simp); omega
 | n+1,L,hd,h=>by
   by_cases hn:n∈L
   ·have h1:=rP n (L.erase n) (hd.erase n) fun k hk=>by
     have h2:=h k (List.mem_of_mem_erase hk);have h3:k≠n:=fun e=>by subst e; exact (List.Nodup.not_mem_erase hd) hk
     omega
    have h4:=List.length_erase_of_mem hn;have h5:0 < L.length:=List.length_pos_of_mem hn;refine ⟨by omega,fun he k hk=>?_⟩;by_cases hkn:k=n
    ·rw [hkn]; exact hn
    ·exact List.mem_of_mem_erase (h1.2 (by omega) k (by omega))
   ·have h1:=rP n L hd fun k hk=>by
     have h2:=h k hk;have h3:k≠n:=fun e=>hn (e ▸ hk);omega
    exact ⟨by omega,fun he=>by omega⟩
variable {P:Program} {n:Nat} {st:St} {Q:St→Prop} {k:List It}
def TC (P:Program) (i:aG) (x:St) (K:St→Prop):Prop:=T P i x K∨(bh x.s i.g=some true∧match i.op with
 | .call fx xs=>∃f caps Post,fx.ev x.s=.fn f caps∧az P f (xs.map (·.ev x.s)++caps) x.σ Post∧∀r σ',Post r σ'→K ⟨aV x.s i.dst r,σ'⟩
 | _=>False)
theorem TC.mono {i:aG} {x:St} {K K':St→Prop} (hk:∀x,K x→K' x) (h:TC P i x K):TC P i x K':=by
 rcases h with h | ⟨h1,h2⟩
 ·exact .inl (h.mono hk)
 ·refine .inr ⟨h1,?_⟩;split at h2
  ·obtain ⟨f,caps,Post,g1,g2,g3⟩:=h2;exact ⟨f,caps,Post,g1,g2,fun r σ' hp=>hk _ (g3 r σ' hp)⟩
  ·exact h2.elim
theorem FH {F:Fr} (hn:F.n=n) {o:Oper} {all:Array Oper} {x:St} {K:St→Prop} {a:Act} {w:World} (h:TC P (cP P n all o) x K) (hs:eZ F x a w)
 {next:Act→World→Prop} {Q':Exit→Act→World→Prop} (hnext:∀x' a' w',eZ F x' a' w'→K x'→next a' w') :
 if Region.wanted o (yielded all a.tmps) then cop P n o.op≠.bad∧o.wp P a w next Q' else next (a.put o.dst undef) w:=by
 rcases h with h | ⟨hw,h⟩
 ·exact vF hn h hs hnext
 subst hn;obtain ⟨μ,hs⟩:=hs;have hwant:=ra (P:=P) hs all o hw;rw [hwant];simp only [if_true];have hdst:(cP P F.n all o).dst=o.dst.filter (· < F.n):=rfl;have hopc:(cP P F.n all o).op=cop P F.n o.op:=rfl;rw [hdst,hopc] at h;split at h
 ·rename_i fx xs hop;refine ⟨fun e=>?_,?_⟩
  ·rw [hop] at e; cases e
  obtain ⟨f,caps,Post,h1,h2,h3⟩:=h;obtain ⟨f0,args,argTypes,g1,rfl,rfl⟩:=lC hop;refine nF hs g1 h1 h2 fun r σ' hp a' w' hs'=>?_;exact hnext _ a' w' hs' (h3 r σ' hp)
 ·exact h.elim
def TnC (P:Program) (n:Nat) (ops:Array Oper) (i:Nat) (x:St) (K:St→Prop):Prop:=match ops[i]? with
 | some o=>TC P (cP P n ops o) x K
 | none=>K x
def vL (P:Program) (n:Nat) (ops:Array Oper) (Q:St→Prop):Nat→Array Bool→St→Prop
 | 0,listed,x=>Region.ready .any ops listed=[]∧Q x
 | f+1,listed,x=>(Region.ready .any ops listed=[]→Q x)∧∀i∈Region.ready .any ops listed,TnC P n ops i x (vL P n ops Q f (listed.setIfInBounds i true))
theorem lV {F:Fr} (hn:F.n=n) {ops:Array Oper} {Q:St→Prop} {Q':Exit→Act→World→Prop} (hQ:∀x a w,eZ F x a w→Q x→Q' .normal a w) :
 ∀(f:Nat) (listed:Array Bool) (x:St) (a:Act) (w:World),eZ F x a w→vL P n ops Q f listed x→wpAnyIn F.ei 0 P .any ops Q' f listed a w
 | 0,_,_,_,_,hs,h=>⟨h.1,hQ _ _ _ hs h.2⟩
 | f+1,listed,x,a,w,hs,h=>by
   refine ⟨fun h0=>hQ _ _ _ hs (h.1 h0),fun i hi=>?_⟩;have h1:=h.2 i hi;unfold TnC at h1;unfold wpOpIn;cases ho:ops[i]? with
   | none =>
     simp only [ho] at h1;exact lV hn hQ f _ x a w hs h1
   | some o =>
     simp only [ho] at h1;have h2:=FH (Q':=Q') hn h1 hs fun x' a' w' hs' hk=>lV hn hQ f _ x' a' w' hs' hk;by_cases hw:Region.wanted o (yielded ops a.tmps)=true
     ·rw [if_pos hw] at h2;simp only [hw,if_true];exact Hf (lY h2.1) h2.2
     ·rw [if_neg hw] at h2;simp only [hw];exact ⟨fun _ _=>trivial,h2⟩
def sD (P:Program) (l:List aG) (rec:List Nat→St→Prop) (listed:List Nat) (x:St):List Nat→Prop
 | []=>True
 | i::is=>(match l[i]? with
    | some ins=>TC P ins x (rec (i::listed))
    | none=>False)∧sD P l rec listed x is
def gB (P:Program) (l:List aG) (deps:List (List Nat)) (Q:St→Prop):Nat→List Nat→St→Prop
 | 0,listed,x=>dv deps listed=[]∧Q x
 | f+1,listed,x=>match dv deps listed with
    | []=>Q x
    | i::is=>sD P l (gB P l deps Q f) listed x (i::is)
theorem mo {l:List aG} {rec:List Nat→St→Prop} {listed:List Nat} {x:St}:∀ {is:List Nat},sD P l rec listed x is→∀i∈is,∃ins,l[i]?=some ins∧TC P ins x (rec (i::listed))
 | [],_,_,hi=>by cases hi
 | j::is,h,i,hi=>by
   obtain ⟨h1,h2⟩:=h;rcases List.mem_cons.1 hi with rfl | hi
   ·cases hl:l[i]? with
    | none=>rw [hl] at h1; exact h1.elim
    | some ins=>rw [hl] at h1; exact ⟨ins,rfl,h1⟩
   ·exact mo h2 i hi
theorem kN {ops:Array Oper} {Q:St→Prop}:∀(f:Nat) (arr:Array Bool) (listed:List Nat) (x:St),arr.size=ops.size→(∀i,i < ops.size→arr.getD i true=listed.contains i) →
 (∀i∈listed,i < ops.size)→gB P (ops.toList.map (cP P n ops)) (iU ops) Q f listed x→vL P n ops Q f arr x
 | 0,arr,listed,x,hs,hl,ho,h=>⟨by rw [vd hs hl ho]; exact h.1,h.2⟩
 | f+1,arr,listed,x,hs,hl,ho,h=>by
   have hr:=vd hs hl ho;unfold gB at h;refine ⟨fun h0=>?_,fun i hi=>?_⟩
   ·rw [hr] at h0;rw [h0] at h;exact h
   ·rw [hr] at hi;have hlt:i < ops.size:=by
     have:=(List.mem_filter.1 hi).1;simpa [iU] using this
    have hall:sD P (ops.toList.map (cP P n ops)) (gB P (ops.toList.map (cP P n ops)) (iU ops) Q f) listed x (dv (iU ops) listed):=by
     cases hrr:dv (iU ops) listed with
     | nil=>exact trivial
     | cons j js=>rw [hrr] at h; exact h
    obtain ⟨ins,h1,h2⟩:=mo hall i hi;have h3:ops[i]?=some ops[i]:=Array.getElem?_eq_getElem hlt;have h4:ins=cP P n ops ops[i]:=by simpa [hlt] using h1.symm
    unfold TnC;simp only [h3];rw [←h4];refine h2.mono fun x' hx'=>kN f _ (i::listed) x' (by simpa using hs) (fun j hj=>?_) (fun j hj=>?_) hx'
    ·by_cases e:j=i
     ·subst e;rw [Array.getD_eq_getD_getElem?,Array.getElem?_setIfInBounds_self_of_lt (by omega)];simp
     ·rw [Array.getD_eq_getD_getElem?,Array.getElem?_setIfInBounds_ne (fun e'=>e e'.symm),←Array.getD_eq_getD_getElem?,hl j hj];simp [e]
    ·rcases List.mem_cons.1 hj with rfl | hj
     ·exact hlt
     ·exact ho j hj
theorem ad.Ii (hm:P.follows .mixedOrders=true) {l:List aG} {deps:List (List Nat)} (h:gB P l deps (fun x=>ad P n k x Q) l.length [] st):ad P n (.code (.regA l deps)::k) st Q:=by
 intro F hn kt hk a w hs;obtain ⟨z,kt',rfl,hy,hk'⟩:=dW hk;obtain ⟨c0,rfl,hcc⟩:=fU hy;have hc0:∃id ops,c0=.region id ops true∧ops.toList.map (cP P n ops)=l∧iU ops=deps:=by
  cases c0 <;> simp only [cZ,reduceCtorEq] at hcc;rename_i id ops draw;cases draw
  ·simp at hcc
  ·simp only [Bool.true_and] at hcc;split at hcc
   ·cases hcc
   split at hcc
   ·simp only [bB.regA.injEq] at hcc;exact ⟨id,ops,rfl,hcc.1,hcc.2⟩
   ·simp at hcc
 obtain ⟨id,ops,rfl,rfl,rfl⟩:=hc0;have hs':eZ F st a { w with drawn:=w.drawn+1 }:=by
  obtain ⟨μ,hs⟩:=hs;have hk:cE (aC μ st.σ) (aC μ st.σ) w { w with drawn:=w.drawn+1 }:=fun _ _ h=>⟨h,rfl⟩
  refine ⟨μ,⟨⟨hs.sat.size,hs.sat.os,hs.sat.tape,hs.sat.output,hs.sat.same,hs.sat.fin,hs.sat.inj,fun id o ho=>?_,hs.sat.fresh,hs.sat.glob⟩,hs.le,hs.size,hs.book.lS hk,fun i hi=>?_⟩⟩
  ·exact (hs.sat.obj id o ho).mono (cH.refl μ) hk (Nat.le_refl _) (fun _ _ _ _=>rfl)
  ·exact Rep.mono (cH.refl μ) hk (Nat.le_refl _) _ _ (hs.slot i hi)
 refine wpIn_region_any hm (lV (Q:=fun x=>ad P n k x Q) hn (fun x a w hs h=>h F hn kt' hk' a w hs) _ _ _ _ _ hs' ?_);have:=kN (P:=P) (n:=n) (Q:=fun x=>ad P n k x Q) (ops:=ops) ops.size (Array.replicate ops.size false) [] st (by simp) (fun i hi=>by
  rw [Array.getD_eq_getD_getElem?,Array.getElem?_replicate,if_pos hi]; simp) (by simp) (by simpa using h)
 exact this
theorem nK {l:List aG} {rec:List Nat→St→Prop} {listed:List Nat} {x:St}:∀ {is:List Nat},(∀i∈is,∃ins,l[i]?=some ins∧TC P ins x (rec (i::listed)))→sD P l rec listed x is
 | [],_=>trivial
 | j::is,h=>by
   obtain ⟨ins,h1,h2⟩:=h j (by simp);refine ⟨by rw [h1]; exact h2,nK fun i hi=>h i (by simp [hi])⟩
variable {P:Program} {n:Nat} {st:St} {Q:St→Prop} {k:List It}
def QYd (P:Program) (i:aG) (x:St):Prop:=match i.dst with
 | some d=>QY P i x.s x.σ (x.s d)
 | none=>∃v,QY P i x.s x.σ v
def RE (P:Program) (l:List aG) (K:St→Prop):List Nat→St→Prop
 | [],x=>K x
 | m::its,x=>match l[m / 2]? with
   | none=>False
   | some ins=>if m % 2=0 then TC P ins x (RE P l K its) else QYd P ins x∧RE P l K its x
def bo (l:List aG) (i:Nat):aG:=(l[i]?).getD ⟨none, .bad,none⟩
def eA (bef:List (List Nat)) (i:Nat):List Nat:=bef.getD i []
def db (l:List aG) (bef:List (List Nat)) (j:Nat):Bool:=bp (bo l j).op != 0 || (match (bo l j).dst with
 | some d=>(List.range l.length).any fun i=>(bo l i).j2.contains d && !(eA bef i).contains j
 | none=>false)
def Cu (l:List aG) (bef:List (List Nat)) (done:List Nat) (e:Nat):List Nat :=
 if db l bef e then done.filterMap fun k=>if !(db l bef k) && (!(jw (bo l k).op) && !((eA bef e).contains k)) then some (2*k+1) else none else []
def dR (l:List aG) (bef:List (List Nat)):List Nat→List Nat→List Nat
 | _,[]=>[]
 | done,e::r=>2*e::(Cu l bef done e++dR l bef (done++[e]) r)
def lK (p:Nat→Nat→Bool):List Nat→Bool
 | []=>true
 | a::r=>r.all (p a) && lK p r
theorem lP {p:Nat→Nat→Bool}:∀ {a:List Nat} {b:List Nat} {x y:Nat},lK p (a++b)=true→x∈a→y∈b→p x y=true
 | [],_,_,_,_,h,_=>by cases h
 | c::a,b,x,y,hp,hx,hy=>by
   simp only [List.cons_append,lK,Ba] at hp;rcases List.mem_cons.1 hx with rfl | hx
   ·exact List.all_eq_true.1 hp.1 y (List.mem_append_right _ hy)
   ·exact lP hp.2 hx hy
def sk (f:Nat→List Nat):List Nat→List Nat→Bool
 | _,[]=>true
 | done,e::r=>(f e).all done.contains && sk f (done++[e]) r
theorem pK {f:Nat→List Nat}:∀ {r done:List Nat} {a:List Nat} {e:Nat} {b:List Nat},sk f done r=true→r=a++e::b→∀x∈f e,x∈done++a
 | [],_,a,e,b,_,h,_,_=>by simp at h
 | c::r,done,[],e,b,hB,h,x,hx=>by
   simp only [List.nil_append,List.cons.injEq] at h;obtain ⟨rfl,rfl⟩:=h;simp only [sk,Ba] at hB;simpa using List.all_eq_true.1 hB.1 x hx
 | c::r,done,d::a,e,b,hB,h,x,hx=>by
   simp only [List.cons_append,List.cons.injEq] at h;obtain ⟨rfl,rfl⟩:=h;simp only [sk,Ba] at hB;have:=pK hB.2 rfl x hx;simpa using this
def Hs (l:List aG) (deps bef:List (List Nat)) (ord:List Nat):Bool :=
 (decide (ord.length=l.length) && (decide (deps.length=l.length) && ord.all fun i=>decide (i < l.length))) &&
 (lK (fun a b=>decide (a≠b)) ord &&
 (sk (fun i=>deps.getD i []) [] ord &&
 ((List.range l.length).all (fun j=>(eA bef j).all fun i=>(deps.getD j []).any fun d=>d == i || (eA bef d).contains i) &&
 ((List.range l.length).all (fun i=>(List.range l.length).all fun j=>i == j || ((bo l i).dst.isNone || (bo l i).dst != (bo l j).dst)) &&
 (List.range l.length).all (fun i=>(List.range l.length).all fun j=>i == j || (match (bo l j).dst with
   | some d=>!((bo l i).j2.contains d) || ((eA bef i).contains j || (db l bef j && (eA bef j).contains i))
   | none=>true))))))
def eOk (l:List aG) (deps bef:List (List Nat)) (ord:List Nat):Bool:=Hs l deps bef ord && lK (fun a b=>!(db l bef a) || (eA bef b).contains a) ord
theorem qo:∀ {l:List Nat},lK (fun a b=>decide (a≠b)) l=true→l.Nodup
 | [],_=>List.nodup_nil
 | a::r,h=>by
   simp only [lK,Ba] at h;refine List.nodup_cons.2 ⟨fun hm=>?_,qo h.2⟩;have:=List.all_eq_true.1 h.1 a hm;simp at this
structure EOkW (l:List aG) (deps bef:List (List Nat)) (ord:List Nat):Prop where
 len:ord.length=l.length
 dlen:deps.length=l.length
 lt:∀i∈ord,i < l.length
 nodup:ord.Nodup
 ahead:∀a e b,ord=a++e::b→∀x∈deps.getD e [],x∈a
 anc:∀j,j < l.length→∀i∈eA bef j,∃d∈deps.getD j [],d=i∨i∈eA bef d
 dsts:∀i j,i < l.length→j < l.length→i≠j→∀d,(bo l i).dst=some d→(bo l j).dst≠some d
 anti:∀i j,i < l.length→j < l.length→i≠j→∀d,(bo l j).dst=some d→d∈(bo l i).j2→j∈eA bef i∨(db l bef j=true∧i∈eA bef j)
theorem u4 {l:List aG} {deps bef:List (List Nat)} {ord:List Nat} (h:Hs l deps bef ord=true):EOkW l deps bef ord:=by
 simp only [Hs,Ba,decide_eq_true_eq] at h;obtain ⟨⟨h1,h2,h3⟩,h4,h5,h6,h7,h8⟩:=h;refine ⟨h1,h2,fun i hi=>by simpa using List.all_eq_true.1 h3 i hi,qo h4,fun a e b he x hx=>by simpa using pK h5 he x hx,?_,?_,?_⟩
 ·intro j hj i hi;have:=List.all_eq_true.1 (List.all_eq_true.1 h6 j (by simpa using hj)) i hi;simp only [List.any_eq_true,Bool.or_eq_true,beq_iff_eq,List.contains_iff_mem] at this;exact this
 ·intro i j hi hj hne d hd he;have:=List.all_eq_true.1 (List.all_eq_true.1 h7 i (by simpa using hi)) j (by simpa using hj);simp only [Bool.or_eq_true,beq_iff_eq,hd,he,Option.isNone_some,bne_self_eq_false,Bool.false_eq_true,or_false] at this;exact hne this
 ·intro i j hi hj hne d hd hu;have:=List.all_eq_true.1 (List.all_eq_true.1 h8 i (by simpa using hi)) j (by simpa using hj);simp only [Bool.or_eq_true,beq_iff_eq,hd,Ba,Bool.not_eq_true',List.contains_iff_mem] at this;rcases this with h | h | h
  ·exact absurd h hne
  ·have hc:(bo l i).j2.contains d=true:=List.contains_iff_mem.2 hu;rw [hc] at h; cases h
  ·exact h
structure EOk (l:List aG) (deps bef:List (List Nat)) (ord:List Nat):Prop extends EOkW l deps bef ord where
 effs:∀a b x y,ord=a++b→x∈a→y∈b→db l bef x=true→x∈eA bef y
theorem zr {l:List aG} {deps bef:List (List Nat)} {ord:List Nat} (h:eOk l deps bef ord=true):EOk l deps bef ord:=by
 simp only [eOk,Ba] at h;refine ⟨u4 h.1,fun a b x y he hx hy hxe=>?_⟩;have h9:=h.2;rw [he] at h9;have:=lP h9 hx hy;simp only [hxe,Bool.not_true,Bool.false_or,List.contains_iff_mem] at this;exact this
theorem EOkW.closed {l:List aG} {deps bef:List (List Nat)} {ord:List Nat} (h:EOkW l deps bef ord) {L:List Nat} (hc:∀m∈L,∀d∈deps.getD m [],d∈L) (hmem:∀i,i < l.length→i∈ord) :
 ∀(m:Nat) (a:List Nat) (j:Nat) (b:List Nat),a.length < m→ord=a++j::b→(∀d∈deps.getD j [],d∈L)→∀i∈eA bef j,i∈L:=by
 intro m
 induction m with
 | zero=>intro a j b ha; omega
 | succ m ih =>
   intro a j b ha he hd i hi;have hj:j < l.length:=h.lt j (by rw [he]; simp);obtain ⟨d,h1,h2⟩:=h.anc j hj i hi;rcases h2 with rfl | h2
   ·exact hd d h1
   ·have hda:=h.ahead a j b he d h1;obtain ⟨a1,a2,rfl⟩:=List.append_of_mem hda;exact ih a1 d (a2++j::b) (by simp at ha; omega) (by rw [he]; simp) (fun d' h'=>hc d (hd d h1) d' h') i h2
theorem lE {i:aG} {s s':Nat→V} (h:∀u∈i.j2,s u=s' u):bh s i.g=bh s' i.g:=by
 cases hg:i.g with
 | none=>rfl
 | some g =>
   obtain ⟨x,b⟩:=g;have:x.ev s=x.ev s':=by
    cases x with
    | t t=>exact h t (List.mem_filterMap.2 ⟨.t t,List.mem_append_right _ (by simp [hg]),rfl⟩)
    | c v=>rfl
   simp only [bh,this]
theorem zi {i:aG} {s s':Nat→V} (h:∀u∈i.j2,s u=s' u):∀x∈i.op.xs,x.ev s=x.ev s':=fun x hx=>by
 cases x with
 | t t=>exact h t (BE hx rfl)
 | c v=>rfl
theorem yD {i:aG} {s s':Nat→V} {σ:af} {v:V} (h:∀u∈i.j2,s u=s' u) (hq:QY P i s σ v):QY P i s' σ v:=by
 unfold QY at *;rw [←lE h];exact hq.imp (fun ⟨h1,h2⟩=>⟨h1,rE (zi h) h2⟩) id
theorem xY {i:aG} {x y:St} {K K':St→Prop} (h:∀u∈i.j2,x.s u=y.s u) (hσ:x.σ=y.σ) (hk:∀r σ',K ⟨aV x.s i.dst r,σ'⟩→K' ⟨aV y.s i.dst r,σ'⟩) (ht:TC P i x K):TC P i y K':=by
 have hx:=zi h;rcases ht with ht | ⟨hw,ht⟩
 ·refine .inl ?_;unfold T at *;rw [←lE h];split <;> rename_i ho <;> simp only [ho] at ht
  ·unfold TO at *;split <;> rename_i hk0 <;> simp only [hk0] at ht
   ·obtain ⟨g1,v,g2,g3⟩:=ht;obtain ⟨e1,e2⟩:=qw (σ:=y.σ) hx;exact ⟨e2.1 g1,v,by rw [←e1,←hσ]; exact g2,by rw [←hσ]; exact hk _ _ g3⟩
   ·split at ht
    ·rename_i fx xs hop;obtain ⟨f,caps,v,g1,g2,g3⟩:=ht;refine ⟨f,caps,v,?_,?_,by rw [←hσ]; exact hk _ _ g3⟩
     ·rw [←hx fx (by rw [hop]; simp [VOp.xs])]; exact g1
     ·rw [←pn (s:=x.s) (s':=y.s) fun z hz=>hx z (by rw [hop]; simp [VOp.xs,hz]),←hσ]; exact g2
    ·exact ht.elim
   ·split at ht
    ·rename_i sz xa xv hop;obtain ⟨σ',g1,g2⟩:=ht;refine ⟨σ',?_,hk _ _ g2⟩;rw [←hx xa (by rw [hop]; simp [VOp.xs]),←hx xv (by rw [hop]; simp [VOp.xs]),←hσ]; exact g1
    ·exact ht.elim
   ·obtain ⟨g,g1,g2⟩:=ht;refine ⟨g,by rw [←eO hx,←hσ]; exact g1,fun id hid=>hk _ _ (g2 id (by rw [hσ]; exact hid))⟩
  ·rw [←hσ]; exact hk _ _ ht
 ·refine .inr ⟨by rw [←lE h]; exact hw,?_⟩;split at ht
  ·rename_i fx xs hop;obtain ⟨f,caps,Post,g1,g2,g3⟩:=ht;refine ⟨f,caps,Post,?_,?_,fun r σ' hp=>hk _ _ (g3 r σ' hp)⟩
   ·rw [←hx fx (by rw [hop]; simp [VOp.xs])]; exact g1
   ·rw [←pn (s:=x.s) (s':=y.s) fun z hz=>hx z (by rw [hop]; simp [VOp.xs,hz]),←hσ]; exact g2
  ·exact ht.elim
structure iW (P:Program) (l:List aG) (deps bef:List (List Nat)) (ord:List Nat) (K:St→Prop) (L:List Nat) (y:St) (done rest:List Nat) (x:St):Prop where
 split:ord=done++rest
 sub:∀i∈L,i∈done
 nodup:L.Nodup
 closed:∀m∈L,∀d∈deps.getD m [],d∈L
 effs:∀i∈done,db l bef i=true→i∈L
 store:y.σ=x.σ
 slot:∀d,(∀i∈done,i∉L→(bo l i).dst≠some d)→y.s d=x.s d
 lag:∀i∈done,i∉L→QYd P (bo l i) x
 go:RE P l K (dR l bef done rest) x
theorem gk {l:List aG} {bef:List (List Nat)} {e:Nat} (h:db l bef e=false) (he:e < l.length) (hne:e∉eA bef e):bp (bo l e).op=0∧∀d,(bo l e).dst=some d→d∉(bo l e).j2:=by
 simp only [db,Bool.or_eq_false_iff,bne_eq_false_iff_eq] at h;refine ⟨h.1,fun d hd hu=>?_⟩;have h2:=h.2;rw [hd] at h2;simp only [List.any_eq_false,List.mem_range,Ba,Bool.not_eq_true',not_and,Bool.not_eq_false] at h2;have:=h2 e he (List.contains_iff_mem.2 hu);exact hne (List.contains_iff_mem.1 this)
theorem BZ {l:List aG} {K:St→Prop} {e:Nat} {its:List Nat} {x:St} (he:e < l.length):RE P l K (2*e::its) x↔TC P (bo l e) x (RE P l K its):=by
 have h1:2*e / 2=e:=by omega
 have h2:2*e % 2=0:=by omega
 rw [RE,h1,List.getElem?_eq_getElem he];simp only [if_pos h2,bo,List.getElem?_eq_getElem he,Option.getD_some]
theorem KC {l:List aG} {K:St→Prop} {e:Nat} {its:List Nat} {x:St} (he:e < l.length):RE P l K ((2*e+1)::its) x↔QYd P (bo l e) x∧RE P l K its x:=by
 have h1:(2*e+1) / 2=e:=by omega
 have h2:¬(2*e+1) % 2=0:=by omega
 rw [RE,h1,List.getElem?_eq_getElem he];simp only [if_neg h2,bo,List.getElem?_eq_getElem he,Option.getD_some]
theorem ru {l:List aG} {K:St→Prop} {its:List Nat} {x:St} (p:Nat→Bool):∀ {done:List Nat},(∀i∈done,i < l.length)→RE P l K ((done.filterMap fun k=>if p k then some (2*k+1) else none)++its) x →
 (∀k∈done,p k=true→QYd P (bo l k) x)∧RE P l K its x
 | [],_,h=>⟨by simp,h⟩
 | a::r,hl,h=>by
   rw [List.filterMap_cons] at h;cases hp:p a with
   | false =>
     simp only [hp,Bool.false_eq_true,if_false] at h;obtain ⟨h1,h2⟩:=ru p (fun i hi=>hl i (by simp [hi])) h;refine ⟨fun k hk hpk=>?_,h2⟩;rcases List.mem_cons.1 hk with rfl | hk
     ·rw [hp] at hpk; cases hpk
     ·exact h1 k hk hpk
   | true =>
     simp only [hp,if_true,List.cons_append] at h;rw [KC (hl a (by simp))] at h;obtain ⟨h1,h2⟩:=ru p (fun i hi=>hl i (by simp [hi])) h.2;refine ⟨fun k hk hpk=>?_,h2⟩;rcases List.mem_cons.1 hk with rfl | hk
     ·exact h.1
     ·exact h1 k hk hpk
section
variable {l:List aG} {deps bef:List (List Nat)} {ord:List Nat} {K:St→Prop} (hE:EOkW l deps bef ord)
include hE
theorem EOkW.mem (i:Nat) (hi:i < l.length):i∈ord:=(rP l.length ord hE.nodup hE.lt).2 hE.len i hi
theorem EOkW.lf {a:List Nat} {j:Nat} {b:List Nat} (he:ord=a++j::b):∀i∈eA bef j,i∈a:=by
 have hc:∀m∈a,∀d∈deps.getD m [],d∈a:=fun m hm d hd=>by
  obtain ⟨a1,a2,rfl⟩:=List.append_of_mem hm;have:=hE.ahead a1 m (a2++j::b) (by rw [he]; simp) d hd;simp [this]
 exact hE.closed hc hE.mem (a.length+1) a j b (by omega) he (fun d hd=>hE.ahead a j b he d hd)
theorem EOkW.mf {j:Nat} (hj:j < l.length):j∉eA bef j:=fun h=>by
 obtain ⟨a,b,he⟩:=List.append_of_mem (hE.mem j hj);have h1:=hE.lf he j h;have:=hE.nodup;rw [he] at this;have:=(List.nodup_append.1 this).2.2 j h1 j (by simp);exact this rfl
theorem rh {i:Nat} {x:St} {e:Nat} {v:V} {σ':af} (hi:i < l.length) (he:e < l.length) (hne:i≠e) (hu:∀d,(bo l e).dst=some d→d∉(bo l i).j2)
 (hq:∀v,QY P (bo l i) x.s x.σ v→QY P (bo l i) x.s σ' v) (h:QYd P (bo l i) x):QYd P (bo l i) ⟨aV x.s (bo l e).dst v,σ'⟩:=by
 unfold QYd at *;have hq':∀v',QY P (bo l i) x.s x.σ v'→QY P (bo l i) (aV x.s (bo l e).dst v) σ' v':=fun v' hv=>(fA hu).2 (hq v' hv);cases hd:(bo l i).dst with
 | none=>rw [hd] at h; obtain ⟨v',h⟩:=h; exact ⟨v',hq' v' h⟩
 | some d =>
   rw [hd] at h;simp only at h ⊢;have:aV x.s (bo l e).dst v d=x.s d:=by
    have:=hE.dsts i e hi he hne d hd;cases hde:(bo l e).dst with
    | none=>rfl
    | some d' =>
      rw [hde] at this;simp only [aV];rw [if_neg (fun e'=>this (by rw [e']))]
   rw [this];exact hq' _ h
theorem iW.adv {L:List Nat} {y:St}:∀ {rest done:List Nat} {x:St},iW P l deps bef ord K L y done rest x →
 ∃done' rest' x',iW P l deps bef ord K L y done' rest' x'∧∀h r,rest'=h::r→db l bef h=true
 | [],done,x,h=>⟨done,[],x,h,by simp⟩
 | e::rest,done,x,h=>by
   cases heff:db l bef e with
   | true=>exact ⟨done,e::rest,x,h,fun a r he=>by cases he; exact heff⟩
   | false =>
     have hel:e < l.length:=hE.lt e (by rw [h.split]; simp);obtain ⟨hk,hself⟩:=gk heff hel (hE.mf hel);have hnd:=hE.nodup;rw [h.split] at hnd;have hed:e∉done:=fun hm=>(List.nodup_append.1 hnd).2.2 e hm e (by simp) rfl;have heL:e∉L:=fun hm=>hed (h.sub e hm);have hgo:=h.go;rw [dR,BZ hel,Cu,if_neg (by simp [heff]),List.nil_append] at hgo;have hT:T P (bo l e) x (RE P l K (dR l bef (done++[e]) rest)):=by
      rcases hgo with hgo | ⟨_,hgo⟩
      ·exact hgo
      ·exfalso;revert hgo hk;generalize (bo l e).op=op;intro hk hgo;split at hgo
       ·simp [bp] at hk
       ·exact hgo
     obtain ⟨v,hv,hgo'⟩:=(bY (by simp [eT,hk])).1 hT;refine iW.adv (rest:=rest) (done:=done++[e]) (x:=⟨aV x.s (bo l e).dst v,x.σ⟩) ⟨by rw [h.split]; simp,fun i hi=>by simp [h.sub i hi],h.nodup,h.closed,fun i hi hie=>?_,h.store,fun d hd=>?_,fun i hi hiL=>?_,hgo'⟩
     ·rcases List.mem_append.1 hi with hi | hi
      ·exact h.effs i hi hie
      ·simp only [List.mem_singleton] at hi; rw [hi,heff] at hie; cases hie
     ·have h1:=h.slot d fun i hi hiL=>hd i (by simp [hi]) hiL;have h2:=hd e (by simp) heL;rw [h1];simp only;cases hde:(bo l e).dst with
      | none=>rfl
      | some d' =>
        rw [hde] at h2;simp only [aV];rw [if_neg (fun e'=>h2 (by rw [e']))]
     ·by_cases hie:i=e
      ·subst hie;unfold QYd;cases hd:(bo l i).dst with
       | none=>exact ⟨v,hv⟩
       | some d =>
         simp only;have e1:aV x.s (some d) v d=v:=by simp [aV]
         rw [e1];exact (fA (fun t ht=>by cases ht; exact hself d hd)).2 hv
      ·have hid:i∈done:=by
        rcases List.mem_append.1 hi with hi | hi
        ·exact hi
        ·simp only [List.mem_singleton] at hi; exact absurd hi hie
       have hil:i < l.length:=hE.lt i (by rw [h.split]; simp [hid]);refine rh hE hil hel hie (fun d hd hu=>?_) (fun v hv=>hv) (h.lag i hid hiL);rcases hE.anti i e hil hel hie d hd hu with h1 | ⟨h1,_⟩
       ·obtain ⟨a,b,hab⟩:=List.append_of_mem hid;have h2:=hE.lf (a:=a) (j:=i) (b:=b++e::rest) (by rw [h.split,hab]; simp) e h1;exact hed (by rw [hab]; simp [h2])
       ·rw [heff] at h1; cases h1
end
section
variable {l:List aG} {deps bef:List (List Nat)} {ord:List Nat} {K:St→Prop} (hE:EOk l deps bef ord)
include hE
theorem nR:∀(f:Nat) (L:List Nat) (y:St) (done rest:List Nat) (x:St),f+L.length=l.length→iW P l deps bef ord K L y done rest x→gB P l deps K f L y:=by
 intro f
 induction f with
 | zero =>
   intro L y done rest x hf h;have hall:∀i,i < l.length→i∈L:=(rP l.length L h.nodup fun i hi=>hE.lt i (by rw [h.split]; simp [h.sub i hi])).2 (by omega);have hnd:=hE.nodup;rw [h.split] at hnd;have hrest:rest=[]:=by
    cases rest with
    | nil=>rfl
    | cons e r =>
      exfalso;have hel:e < l.length:=hE.lt e (by rw [h.split]; simp);exact (List.nodup_append.1 hnd).2.2 e (h.sub e (hall e hel)) e (by simp) rfl
   subst hrest;have hyx:y=x:=by
    obtain ⟨s,σ⟩:=y;obtain ⟨s',σ'⟩:=x;have h1:σ=σ':=h.store;have h2:s=s':=funext fun d=>h.slot d fun i hi hiL=>absurd (hall i (hE.lt i (by rw [h.split]; simp [hi]))) hiL;rw [h1,h2]
   refine ⟨?_,by rw [hyx]; exact h.go⟩;unfold dv;rw [List.filter_eq_nil_iff];intro i hi;simp only [List.mem_range,hE.dlen] at hi;simp [hall i hi]
 | succ f ih =>
   intro L y done rest x hf h;obtain ⟨done,rest,x,h,hhead⟩:=iW.adv hE.toEOkW h;have hnd:=hE.nodup;rw [h.split] at hnd;have hmemL:∀i∈L,i < l.length:=fun i hi=>hE.lt i (by rw [h.split]; simp [h.sub i hi]);have key:sD P l (gB P l deps K f) L y (dv deps L):=by
    refine nK fun i hi=>?_;obtain ⟨hil,hiL,hdep⟩:=tw hi;rw [hE.dlen] at hil;refine ⟨bo l i,by simp [bo,List.getElem?_eq_getElem hil],?_⟩;obtain ⟨pa,pb,hpe⟩:=List.append_of_mem (hE.mem i hil);have hbefL:∀j∈eA bef i,j∈L:=hE.closed h.closed hE.mem (pa.length+1) pa i pb (by omega) hpe hdep;have huses:∀u∈(bo l i).j2,x.s u=y.s u:=fun u hu=>(h.slot u fun j hj hjL hd=>by
     have hjl:j < l.length:=hE.lt j (by rw [h.split]; simp [hj]);by_cases hji:j=i
     ·subst hji;cases hje:db l bef j with
      | true=>exact hjL (h.effs j hj hje)
      | false=>exact (gk hje hjl (hE.mf hjl)).2 u hd hu
     ·rcases hE.anti i j hil hjl (fun e=>hji e.symm) u hd hu with h1 | ⟨h1,_⟩
      ·exact hjL (hbefL j h1)
      ·exact hjL (h.effs j hj h1)).symm
    by_cases hid:i∈done
    ·have hie:db l bef i=false:=by
      cases hie:db l bef i with
      | false=>rfl
      | true=>exact absurd (h.effs i hid hie) hiL
     obtain ⟨hk,_⟩:=gk hie hil (hE.mf hil);have hq:=h.lag i hid hiL;obtain ⟨v,hv,hvd⟩:∃v,QY P (bo l i) x.s x.σ v∧∀d,(bo l i).dst=some d→x.s d=v:=by
      unfold QYd at hq;cases hd:(bo l i).dst with
      | none=>rw [hd] at hq; obtain ⟨v,hq⟩:=hq; exact ⟨v,hq,by simp⟩
      | some d=>rw [hd] at hq; exact ⟨_,hq,fun d' e=>by cases e; rfl⟩
     refine .inl ((bY (by simp [eT,hk])).2 ⟨v,?_,?_⟩)
     ·rw [h.store]; exact yD huses hv
     ·refine ih (i::L) _ done rest x (by simp only [List.length_cons]; omega) ⟨h.split,fun j hj=>?_,List.nodup_cons.2 ⟨hiL,h.nodup⟩,fun m hm d hd=>?_,fun j hj hje=>by simp [h.effs j hj hje],h.store,fun d hd=>?_,fun j hj hjL=>h.lag j hj (fun hm=>hjL (by simp [hm])),h.go⟩
      ·rcases List.mem_cons.1 hj with rfl | hj
       ·exact hid
       ·exact h.sub j hj
      ·rcases List.mem_cons.1 hm with rfl | hm
       ·simp [hdep d hd]
       ·simp [h.closed m hm d hd]
      ·simp only;by_cases hdi:(bo l i).dst=some d
       ·rw [hdi];simp only [aV];rw [if_pos trivial];exact (hvd d hdi).symm
       ·have h1:=h.slot d fun j hj hjL=>by
         by_cases hji:j=i
         ·rw [hji]; exact hdi
         ·exact hd j hj (by simp [hji,hjL])
        rw [←h1];cases hde:(bo l i).dst with
        | none=>rfl
        | some d' =>
          rw [hde] at hdi;simp only [aV];rw [if_neg (fun e'=>hdi (by rw [e']))]
    ·have hir:i∈rest:=by
      have:=hE.mem i hil;rw [h.split] at this;exact (List.mem_append.1 this).resolve_left hid
     obtain ⟨hd0,rr,rfl⟩:∃a r,rest=a::r:=by
      cases rest with
      | nil=>cases hir
      | cons a r=>exact ⟨a,r,rfl⟩
     have heff:=hhead hd0 rr rfl;have hh0:hd0∉done:=fun hm=>(List.nodup_append.1 hnd).2.2 hd0 hm hd0 (by simp) rfl;have hih:i=hd0:=by
      rcases List.mem_cons.1 hir with e | hir
      ·exact e
      ·exfalso;have:=hE.effs (done++[hd0]) rr hd0 i (by rw [h.split]; simp) (by simp) hir heff;exact hh0 (h.sub _ (hbefL _ this))
     subst hih;have hgo:=h.go;rw [dR,BZ hil] at hgo;refine xY huses h.store.symm (fun r σ' hK=>?_) hgo;rw [Cu,if_pos heff] at hK;obtain ⟨hck,hgo'⟩:=ru (fun k=>!(db l bef k) && (!(jw (bo l k).op) && !((eA bef i).contains k))) (fun j hj=>hE.lt j (by rw [h.split]; simp [hj])) hK;refine ih (i::L) _ (done++[i]) rr ⟨aV x.s (bo l i).dst r,σ'⟩ (by simp only [List.length_cons]; omega) ⟨by rw [h.split]; simp,fun j hj=>?_,List.nodup_cons.2 ⟨hiL,h.nodup⟩,fun m hm d hd=>?_,fun j hj hje=>?_,rfl,fun d hd=>?_,fun j hj hjL=>?_,hgo'⟩
     ·rcases List.mem_cons.1 hj with rfl | hj
      ·simp
      ·simp [h.sub j hj]
     ·rcases List.mem_cons.1 hm with rfl | hm
      ·simp [hdep d hd]
      ·simp [h.closed m hm d hd]
     ·rcases List.mem_append.1 hj with hj | hj
      ·simp [h.effs j hj hje]
      ·simp only [List.mem_singleton] at hj; simp [hj]
     ·have h1:(bo l i).dst=some d∨y.s d=x.s d:=by
       by_cases hdi:(bo l i).dst=some d
       ·exact .inl hdi
       ·exact .inr (h.slot d fun j hj hjL=>hd j (by simp [hj]) (by
         simp only [List.mem_cons,not_or];exact ⟨fun e=>hid (e ▸ hj),hjL⟩))
      simp only;cases hde:(bo l i).dst with
      | none=>rw [hde] at h1; exact h1.resolve_left (by simp)
      | some d' =>
        simp only [aV];split
        ·rfl
        ·rename_i hne;rw [hde] at h1;exact h1.resolve_left (fun e=>hne (by cases e; rfl))
     ·have hjd:j∈done:=by
       rcases List.mem_append.1 hj with hj | hj
       ·exact hj
       ·simp only [List.mem_singleton] at hj; exact absurd (by simp [hj]) hjL
      have hjL':j∉L:=fun hm=>hjL (by simp [hm]);have hjl:j < l.length:=hE.lt j (by rw [h.split]; simp [hjd]);have hji:j≠i:=fun e=>hid (e ▸ hjd);have hje:db l bef j=false:=by
       cases hje:db l bef j with
       | false=>rfl
       | true=>exact absurd (h.effs j hjd hje) hjL'
      cases hsf:jw (bo l j).op with
      | true =>
        refine rh hE.toEOkW hjl hil hji (fun d hd hu=>?_) (fun v hv=>jl hsf hv) (h.lag j hjd hjL');rcases hE.anti j i hjl hil hji d hd hu with h1 | ⟨_,h1⟩
        ·obtain ⟨a,b,hab⟩:=List.append_of_mem hjd;have h2:=hE.lf (a:=a) (j:=j) (b:=b++i::rr) (by rw [h.split,hab]; simp) i h1;exact hid (by rw [hab]; simp [h2])
        ·exact hjL' (hbefL j h1)
      | false =>
        refine hck j hjd ?_;simp only [hje,hsf,Bool.not_false,Bool.true_and,Bool.not_eq_true'];cases hc:(eA bef i).contains j with
        | false=>rfl
        | true=>exact absurd (hbefL j (List.contains_iff_mem.1 hc)) hjL'
   cases hr:dv deps L with
   | cons a r=>unfold gB; rw [hr] at key ⊢; exact key
   | nil =>
     exfalso;have:∃i,i∈ord∧i∉L:=by
      by_cases hx:∃i,i∈ord∧i∉L
      ·exact hx
      ·exfalso;have hsub:∀i∈ord,i∈L:=fun i hi=>Classical.byContradiction fun hn=>hx ⟨i,hi,hn⟩;have h1:=hE.nodup.length_le_of_subset hsub;have:=hE.len;omega
     obtain ⟨i,hi,hiL⟩:=this;have first:∀(a b:List Nat),ord=a++b→(∀j∈a,j∈L)→(∃i∈b,i∉L)→∃a' e b',ord=a'++e::b'∧(∀j∈a',j∈L)∧e∉L:=by
      intro a b
      induction b generalizing a with
      | nil=>rintro _ _ ⟨i,h,_⟩; cases h
      | cons e b ihb =>
        intro he ha hx;by_cases heL:e∈L
        ·refine ihb (a++[e]) (by rw [he]; simp) (fun j hj=>?_) ?_
         ·rcases List.mem_append.1 hj with hj | hj
          ·exact ha j hj
          ·simp only [List.mem_singleton] at hj; rw [hj]; exact heL
         ·obtain ⟨i,hi,hiL⟩:=hx;rcases List.mem_cons.1 hi with rfl | hi
          ·exact absurd heL hiL
          ·exact ⟨i,hi,hiL⟩
        ·exact ⟨a,e,b,he,ha,heL⟩
     obtain ⟨a,e,b,he,ha,heL⟩:=first [] ord rfl (by simp) ⟨i,hi,hiL⟩
     have hel:e < l.length:=hE.lt e (by rw [he]; simp);have:e∈dv deps L:=by
      unfold dv;refine List.mem_filter.2 ⟨by simp [hE.dlen,hel],?_⟩;simp only [Ba,Bool.not_eq_true',List.all_eq_true];refine ⟨by simpa using heL,fun d hd=>?_⟩;simpa using ha d (hE.ahead a e b he d hd)
     rw [hr] at this;cases this
end
theorem ad.qS (hm:P.follows .mixedOrders=true) {l:List aG} {deps:List (List Nat)} (ord:List Nat) (bef:List (List Nat)) (its:List Nat) (hB:eOk l deps bef ord=true) (hi:dR l bef [] ord=its)
 (h:RE P l (fun x=>ad P n k x Q) its st):ad P n (.code (.regA l deps)::k) st Q:=by
 have hE:=zr hB;refine ad.Ii hm (nR hE l.length [] st [] ord st (by simp) ⟨rfl,by simp,List.nodup_nil,by simp,by simp,rfl,fun _ _=>rfl,by simp,by rw [hi]; exact h⟩)
theorem RE.seg {l:List aG} {K:St→Prop} (rest:List Nat):∀(idx:List Nat) (sg:List aG) {x:St},(idx.map fun m=>l[m / 2]?)=sg.map some→(idx.all fun m=>m % 2 == 0)=true →
 Go P n (.d sg [.stop (RE P l K rest)]) x (fun _=>False)→RE P l K (idx++rest) x
 | [],[],_,_,_,h=>h
 | [],_::_,_,h,_,_=>by simp at h
 | _::_,[],_,h,_,_=>by simp at h
 | m::idx,i::sg,x,h,hev,hg=>by
   simp only [List.map_cons,List.cons.injEq] at h;simp only [List.all_cons,Ba,beq_iff_eq] at hev;show RE P l K (m::(idx++rest)) x;rw [RE,h.1];simp only [if_pos hev.1];exact .inl (T.mono (fun x' hx'=>RE.seg rest idx sg h.2 (by simpa using hev.2) hx') hg)
theorem RE.call {l:List aG} {K:St→Prop} {m:Nat} {rest:List Nat} {x:St} {i:aG} (hi:l[m / 2]?=some i) (hm:m % 2=0) {fx:VX} {xs:List VX} (hw:bh x.s i.g=some true) (ho:i.op=.call fx xs) {f:FuncId} {caps:List V} (hf:fx.ev x.s=.fn f caps)
 {Post:V→af→Prop} (hc:az P f (xs.map (·.ev x.s)++caps) x.σ Post) (h:∀r σ',Post r σ'→RE P l K rest ⟨aV x.s i.dst r,σ'⟩):RE P l K (m::rest) x:=by
 rw [RE,hi];simp only [if_pos hm];exact .inr ⟨hw,by rw [ho]; exact ⟨f,caps,Post,hf,hc,h⟩⟩
theorem RE.ay {l:List aG} {K:St→Prop} {m:Nat} {rest:List Nat} {x:St} {i:aG} (hi:l[m / 2]?=some i) (hm:m % 2=0) {fx:VX} {xs:List VX} (hw:bh x.s i.g=some true) (ho:i.op=.call fx xs) {f:FuncId} {caps:List V} (hf:fx.ev x.s=.fn f caps)
 {v:V} (hc:az P f (xs.map (·.ev x.s)++caps) x.σ fun r σ'=>r=v∧σ'=x.σ) (h:RE P l K rest ⟨aV x.s i.dst v,x.σ⟩):RE P l K (m::rest) x :=
 RE.call hi hm hw ho hf hc fun r σ' ⟨h1,h2⟩=>by subst h1; subst h2; exact h
theorem RE.chk {l:List aG} {K:St→Prop} {m:Nat} {rest:List Nat} {x:St} {i:aG} (hi:l[m / 2]?=some i) (hm:m % 2=1) {d:Nat} (hd:i.dst=some d) (hw:bh x.s i.g=some true) (hk:bp i.op=0) (hp:eQ x.s i.op)
 (hv:aE x.σ x.s i.op=some (x.s d)) (h:RE P l K rest x):RE P l K (m::rest) x:=by
 rw [RE,hi];simp only [hm,Nat.one_ne_zero,if_false];refine ⟨?_,h⟩;unfold QYd;rw [hd];refine .inl ⟨hw,?_⟩;unfold QO;simp only [hk];exact ⟨hp,hv⟩
variable {P:Program} {n:Nat} {st:St} {Q:St→Prop} {k:List It}
theorem ad.OJ {k1 k2:List It} (J:St→Prop) (h1:ad P n (k1++[.stop J]) st Q) (h2:∀st,J st→ad P n k2 st Q):ad P n (k1++k2) st Q:=by
 intro F hn kt hk a w hs;obtain ⟨kt1,kt2,rfl,hk1,hk2⟩:=List.map_eq_append_iff.1 hk;have key:∀(kt:List KI) e a w,jX P F Q (kt++[.stop J]) e a w→jX P F Q (kt++kt2) e a w:=by
  intro kt
  induction kt with
  | nil =>
    intro e a w h;simp only [List.nil_append] at h ⊢;cases e with
    | normal=>obtain ⟨st,h3,h4⟩:=h; exact h2 st h3 F hn kt2 hk2 a w h4
    | ret=>obtain ⟨_,h3⟩:=h; exact j3 h3 kt2
    | _=>obtain ⟨h3,_⟩:=h; rcases h3 with h3 | h3 <;> cases h3
  | cons y kt ih =>
    intro e a w h;cases y with
    | code c=>cases e <;> first | exact wpIn_mono h ih | exact ih _ _ _ h
    | inBlock id =>
      cases e <;> simp only [List.cons_append,jX,Exit.inBlock] at h ⊢ <;> (try split at h) <;> (try split) <;> first | exact ih _ _ _ h | contradiction
    | stop I=>cases e <;> first | exact h | exact ih _ _ _ h
    | ops all l=>cases e <;> first | exact lT ih l a w h | exact ih _ _ _ h
 exact key kt1 _ a w (h1 F hn (kt1++[.stop J]) (by simp [KI.it,hk1]) a w hs)
theorem ad.eS {x:bB} {id:Nat} (J:St→Prop) (I:Nat→St→Prop) (m:Nat) (h0:I m st)
 (hr:∀m st,I m st→ad P n (.code x::.stop (fun st'=>∃m',m' < m∧I m' st')::[.inBlock id, .stop J]) st Q) (h2:∀st,J st→ad P n k st Q) :
 ad P n (.code (.loop x)::.inBlock id::k) st Q :=
 ad.OJ (P:=P) (n:=n) (Q:=Q) (st:=st) (k1:=[.code (.loop x), .inBlock id]) (k2:=k) J (ad.loop I m h0 hr) h2
open Go.Proofs Go.Proofs.Tryz
theorem GY {f:Flo} {s:Spn} (hf:f.ok) (h:Bq2 s.a∧Bq2 s.b):Bq2 (jt f s).a∧Bq2 (jt f s).b:=by
 obtain ⟨⟨x1,x2⟩,_,⟨w1,w2⟩,_⟩:=hf;obtain ⟨⟨a1,a2⟩,b1,b2⟩:=h;unfold jt;split
 ·exact ⟨⟨by simp only; omega,by simp only; omega⟩,b1,b2⟩
 ·exact ⟨⟨a1,a2⟩,by simp only; omega,by simp only; omega⟩
theorem zq:∀ {l:List Flo} {s:Spn},(∀f∈l,f.ok)→Bq2 s.a∧Bq2 s.b→Bq2 (l.foldl (fun s f=>jt f s) s).a∧Bq2 (l.foldl (fun s f=>jt f s) s).b
 | [],_,_,h=>h
 | f::l,s,hl,h=>zq (l:=l) (fun g hg=>hl g (by simp [hg])) (GY (hl f (by simp)) h)
theorem lQ {l:List Flo} {y high:Int} {s:Spn} (hl:∀f∈l,f.ok) (h:Bq2 s.a∧Bq2 s.b):Bq2 (dC l y high s).a∧Bq2 (dC l y high s).b :=
 zq (fun f hf=>hl f (List.mem_filter.1 hf).1) h
theorem si {s:Spn}:∀ {l:List Flo},(∀f∈l,jt f s=s)→l.foldl (fun s f=>jt f s) s=s
 | [],_=>rfl
 | f::l,h=>by rw [List.foldl_cons,h f (by simp)]; exact si fun g hg=>h g (by simp [hg])
theorem nr (s:Spn):∀(l:List Flo) (a:Int×Bool),(l.foldl (jn s) a=a∨∃f∈l,l.foldl (jn s) a=(f.y+f.h,true))∧(a.2=true→(l.foldl (jn s) a).2=true)∧((∃f∈l,jt f s≠s)→(l.foldl (jn s) a).2=true)
 | [],a=>⟨.inl rfl,id,by simp⟩
 | f::l,a=>by
   obtain ⟨h1,h2,h3⟩:=nr s l (jn s a f);have hf:jn s a f=a∨jn s a f=(f.y+f.h,true):=by unfold jn; split <;> simp
   refine ⟨?_,fun ha=>h2 ?_,?_⟩
   ·rw [List.foldl_cons];rcases h1 with h1 | ⟨g,hg,h1⟩
    ·rw [h1];rcases hf with hf | hf
     ·exact .inl hf
     ·exact .inr ⟨f,by simp,hf⟩
    ·exact .inr ⟨g,by simp [hg],h1⟩
   ·rcases hf with hf | hf <;> rw [hf]
    exact ha
   ·rintro ⟨g,hg,hne⟩;rcases List.mem_cons.1 hg with rfl | hg
    ·refine h2 ?_;unfold jn;split
     ·rename_i h; exact (h.resolve_left hne).1
     ·rfl
    ·exact h3 ⟨g,hg,hne⟩
theorem Dc {y high:Int} {f:Flo} (h:gS y high f=true):y < f.y+f.h:=by
 refine Classical.byContradiction fun hn=>?_;have:nq ⟨f.y,f.y+f.h⟩ ⟨y,y+max high 1⟩=⟨0,0⟩:=by
  unfold nq;rw [if_pos];simp only;omega
 simp [gS,this] at h
theorem gQ {l:List Flo} {y high:Int} {s:Spn} (h:(fP l y high s).2=true):∃f∈l,y < f.y+f.h∧(fP l y high s).1=f.y+f.h:=by
 rcases (nr s (l.filter (gS y high)) (0,false)).1 with h1 | ⟨f,hf,h1⟩
 ·unfold fP at h; rw [h1] at h; cases h
 ·obtain ⟨hl,hm⟩:=List.mem_filter.1 hf;exact ⟨f,hl,Dc hm,by unfold fP; rw [h1]⟩
theorem mX {l:List Flo} {y high:Int} {s:Spn} (h:dC l y high s≠s):(fP l y high s).2=true:=by
 refine (nr s (l.filter (gS y high)) (0,false)).2.2 (Classical.byContradiction fun hn=>h (si fun f hf=>Classical.byContradiction fun he=>hn ⟨f,hf,he⟩))
def gtJ (l:List Flo) (y:Int):Nat:=(l.filter fun f=>decide (y < f.y+f.h)).length
theorem filter_lt {α:Type} {p q:α→Bool} (hpq:∀x,q x=true→p x=true):∀ {l:List α},(l.filter q).length≤(l.filter p).length∧((∃x∈l,p x=true∧q x=false)→(l.filter q).length < (l.filter p).length)
 | []=>by simp
 | a::l=>by
   obtain ⟨h1,h2⟩:=filter_lt hpq (l:=l);cases hp:p a <;> cases hq:q a
   ·simp only [List.filter_cons,hp,hq,Bool.false_eq_true,if_false];refine ⟨h1,?_⟩;rintro ⟨x,hx,h3,h4⟩;rcases List.mem_cons.1 hx with rfl | hx
    ·rw [hp] at h3; cases h3
    ·exact h2 ⟨x,hx,h3,h4⟩
   ·rw [hpq a hq] at hp; cases hp
   ·simp only [List.filter_cons,hp,hq,Bool.false_eq_true,if_false,if_true,List.length_cons];exact ⟨by omega,fun _=>by omega⟩
   ·simp only [List.filter_cons,hp,hq,if_true,List.length_cons];refine ⟨by omega,?_⟩;rintro ⟨x,hx,h3,h4⟩;rcases List.mem_cons.1 hx with rfl | hx
    ·rw [hq] at h4; cases h4
    ·have:=h2 ⟨x,hx,h3,h4⟩; omega
theorem vC {l:List Flo} {y z:Int} (h:∃f∈l,y < f.y+f.h∧z=f.y+f.h):gtJ l z < gtJ l y:=by
 obtain ⟨f,hf,h1,rfl⟩:=h;exact (filter_lt (p:=fun g:Flo=>decide (y < g.y+g.h)) (q:=fun g:Flo=>decide (f.y+f.h < g.y+g.h)) (fun g hg=>by simp at hg ⊢; omega) (l:=l)).2 ⟨f,hf,by simpa using h1,by simp⟩
def vp (l:List Flo) (w high:Int) (s:Spn) (y:Int):Bool:=decide (w≤jh (dC l y high s)) || decide (dC l y high s=s)
def od (l:List Flo) (w high:Int) (s:Spn):Nat→Int→Int
 | 0,y=>y
 | k+1,y=>if vp l w high s y then y else od l w high s k (fP l y high s).1
def j7 (l:List Flo) (w high:Int) (s:Spn) (y:Int):Int:=od l w high s l.length y
theorem Gh {l:List Flo} {y high:Int} {s:Spn} (hl:∀f∈l,f.ok) (h:(fP l y high s).2=true):Bq2 (fP l y high s).1:=by
 obtain ⟨f,hf,_,e⟩:=gQ h;obtain ⟨_,⟨a1,a2⟩,_,b1,b2⟩:=hl f hf;rw [e]; exact ⟨by omega,by omega⟩
def qk (l:List Flo) (high y:Int) (s:Spn):V:=.agg [vI s.a,vI s.b,aJ l,vI high,vI y]
theorem Bj (l:List Flo) (high y:Int) (s:Spn) (hl:l.length≤1000000) (hok:∀f∈l,f.ok) (hy:Bq2 y) (hh:Bq high):aU prog 162 [qk l high y s] (aY (dC l y high s)):=fun σ=>by
 refine Oo.r (by simp [J0]) ?_;have hs:=aa.refl σ;refine ad.mix 3 ?_;have e1:(aJ l).cells=[aJ l]:=rfl;have e2:(aJ l).stays=true:=rfl;apply sR;simp only [go_sem,seval,J0,qk,e1,e2];refine ae fun i1 σ1 s1 a1 f1=>?_;have z1:=hs.none f1;replace hs:=hs.trans s1;simp only [go_sem,seval,a1,e1,e2];refine ae fun i2 σ2 s2 a2 f2=>?_;have n12:=ao a1 f2;replace a1:=s2 _ _ a1;have z2:=hs.none f2;replace hs:=hs.trans s2;simp only [go_sem,seval,a2,a1];refine ad.ay rfl rfl rfl (A1 l y high s hl hok hy hh _) ?_;apply sR;simp only [go_sem,seval,a2,aY];exact ar.pure (hs.aB z2) rfl
theorem G1 (l:List Flo) (w high y:Int) (s:Spn) (hl:l.length≤1000000) (hok:∀f∈l,f.ok) (hy:Bq2 y) (hh:Bq high) (hs1:Bq2 s.a∧Bq2 s.b):aU prog 160 [qk l high y s,vI w] (.bool (vp l w high s y)):=fun σ=>by
 refine Ng.r (by simp [J6]) ?_;have hs:=aa.refl σ;refine ad.mix 5 ?_;have hb:=Bj l high y s hl hok hy hh;have hlen:=EG (dC l y high s) (lQ hok hs1).1 (lQ hok hs1).2;unfold vp;generalize dC l y high s=b at *;have e1:(aJ l).cells=[aJ l]:=rfl;have e2:(aJ l).stays=true:=rfl;apply sR;simp only [go_sem,seval,J6,qk,e1,e2];refine ae fun i2 σ2 s2 a2 f2=>?_;have z2:=hs.none f2;replace hs:=hs.trans s2;simp only [go_sem,seval,a2,e1,e2];refine Go.cp rfl rfl rfl hb ?_;apply sG;simp only [go_sem,seval];refine Go.cp rfl rfl rfl hlen ?_;by_cases h1:w≤jh b
 ·have q:(w≤jh b)=True:=eq_true h1;apply sG;simp only [go_sem,seval,q,a2];exact ar.pure hs (by simp [h1])
 ·have q:(w≤jh b)=False:=eq_false h1;apply sG;simp only [go_sem,seval,q,a2];refine Go.cp rfl rfl rfl hb ?_;obtain ⟨b1,b2⟩:=b;obtain ⟨s1,s2⟩:=s;apply sG;simp only [go_sem,seval,a2,aY];refine ar.pure hs ?_;by_cases h2:b1=s1 <;> by_cases h3:b2=s2 <;> simp [h1,h2,h3]
theorem F7 (l:List Flo) (w high y:Int) (s:Spn) (hl:l.length≤1000000) (hok:∀f∈l,f.ok) (hy:Bq2 y) (hh:Bq high) (hs1:Bq2 s.a∧Bq2 s.b) :
 aU prog 119 [aJ l,vI w,vI high,vI y,aY s] (.tup [aY (dC l (j7 l w high s y) high s),vI (j7 l w high s y)]):=fun σ=>by
 refine MW.r (by simp [JI]) ?_;have hs:=aa.refl σ;refine ad.mix 13 ?_;have e1:(aJ l).cells=[aJ l]:=rfl;have e2:(aJ l).stays=true:=rfl;apply sR;simp only [go_sem,seval,JI,aY];refine ae fun i9 σ9 s9 a9 f9=>?_;have z9:=hs.none f9;replace hs:=hs.trans s9;simp only [go_sem,seval,a9];refine ae fun i10 σ10 s10 a10 f10=>?_;have n910:=ao a9 f10;replace a9:=s10 _ _ a9;have z10:=hs.none f10;replace hs:=hs.trans s10;simp only [go_sem,seval,a10,a9,e1,e2];refine ae fun i12 σ12 s12 a12 f12=>?_;have n912:=ao a9 f12;replace a9:=s12 _ _ a9;have n1012:=ao a10 f12;replace a10:=s12 _ _ a10;have z12:=hs.none f12;replace hs:=hs.trans s12;simp only [go_sem,seval,a12,a10,a9,e1,e2];generalize hq12:upd _ i12 _=τ12;replace a12:=(congrFun hq12 i12).symm.trans ag;replace a9:=((congrFun hq12 i9).symm.trans (ab n912)).trans a9;replace a10:=((congrFun hq12 i10).symm.trans (ab n1012)).trans a10;replace hs:=Eq.subst (motive:=aa _) hq12 (hs.aB z12);clear hq12;obtain ⟨z,hz⟩:∃z,z=j7 l w high s y:=⟨_,rfl⟩
 rw [←hz];refine ad.eS (fun st=>∃τ,st.σ=τ∧aa σ τ∧τ i12=some ⟨268,5,[qk l high z s]⟩∧τ i10=some ⟨206,2,[.agg [vI 0,vI 0]]⟩∧st.s 10=.ptr i10 0 0∧st.s 12=.ptr i12 0 0∧Bq2 z)
  (fun m st=>∃(y':Int) (k:Nat),m=gtJ l y'∧gtJ l y'≤k∧z=od l w high s k y'∧Bq2 y'∧aa σ st.σ∧st.σ i12=some ⟨268,5,[qk l high y' s]⟩∧st.σ i10=some ⟨206,2,[.agg [vI 0,vI 0]]⟩∧st.s 1=vI w∧st.s 10=.ptr i10 0 0∧st.s 12=.ptr i12 0 0) (gtJ l y) ?_ ?_ ?_
 ·exact ⟨y,l.length,rfl,List.length_filter_le _ _,hz,hy,hs,a12,a10,rfl,rfl,rfl⟩
 ·rintro m ⟨S,τ⟩ ⟨y',k,rfl,hk,hzk,hy',hs,b12,b10,k1,k10,k12⟩;simp only at hs b12 b10 k1 k10 k12;refine ad.mix 13 ?_;rw [qk] at b12;apply sR;simp only [go_sem,seval,k1,k10,k12,b12,e1,e2];refine ad.ay rfl rfl rfl (G1 l w high y' s hl hok hy' hh hs1 _) ?_;cases hf:vp l w high s y'
  ·have hne:dC l y' high s≠s:=fun e=>by simp [vp,e] at hf
   have hfd:=mX hne;have hdec:=vC (gQ hfd);apply sR;simp only [go_sem,seval,k1,k10,k12,b12,e1,e2];refine ad.ay rfl rfl rfl (EN l y' high s hl hok hy' hh _) ?_;apply sR;simp only [go_sem,seval,k1,k10,k12,b12,e1,e2];obtain ⟨k',rfl⟩:∃k',k=k'+1:=⟨k - 1,by omega⟩
   rw [od,hf] at hzk;have n:i12≠i10:=n1012.symm;refine ⟨_,hdec,_,k',rfl,by omega,by simpa using hzk,Gh hok hfd,hs.aB z12,rfl,?_⟩;rw [ab n1012]; exact b10
  ·have hzy:z=y':=by cases k <;> simp [od,hf] at hzk <;> exact hzk
   subst hzy;apply sR;simp only [go_sem,seval,k1,k10,k12,b12,e1,e2];exact ⟨τ,rfl,hs,b12,b10,hy'⟩
 ·rintro ⟨S,τ⟩ ⟨τ',rfl,hs,b12,b10,k10,k12,hz2⟩;simp only at hs b12 b10 k10 k12;rw [qk] at b12;refine ad.mix 13 ?_;apply sR;simp only [go_sem,seval,k10,k12];refine ad.qS (by kernel_rfl) [0,2,3,1,4,5] [[],[0],[],[2],[0,1],[0,1,2,3,4]] [0,4,6,2,7,8,7,10] (by kernel_rfl) (by kernel_rfl) ?_;refine RE.seg (n:=0) [2,7,8,7,10] [0,4,6] [⟨(.some 35),(.load .true 5 (.t 12)),.none⟩,⟨(.some 37),(.fldA .false 4 1 (.t 12)),.none⟩,⟨(.some 38),(.load .false 1 (.t 37)),.none⟩] rfl rfl ?_;apply sG;simp only [go_sem,seval,k10,k12,b12,e1,e2];refine RE.ay rfl rfl rfl rfl rfl (Bj l high z s hl hok hz2 hh _) ?_;refine RE.chk rfl rfl rfl rfl rfl trivial (by simp only [go_sem,seval,k10,k12,b12,b10,e1,e2]) ?_;refine RE.seg (n:=0) [7,10] [8] [⟨.none,(.store 2 (.t 10) (.t 36)),.none⟩] rfl rfl ?_;apply sG;simp only [go_sem,seval,k10,k12,b12,b10,aY,e1,e2];refine RE.chk rfl rfl rfl rfl rfl trivial (by simp only [go_sem,seval,k10,k12,b12,b10,ab n1012.symm,e1,e2]) ?_;refine RE.seg (n:=0) [] [10] [⟨(.some 11),(.mov (.t 38)),.none⟩] rfl rfl ?_;apply sG;simp only [go_sem,seval,k10,k12,b12,b10,aY,e1,e2];apply sR;simp only [go_sem,seval,k10,k12,ag,aY];exact ar.pure (hs.aB z10) rfl
open Go.Proofs Go.Proofs.Tryz
def lv (e sz b:Nat):VFn:=⟨8,.seq (.reg false [⟨some 2,.mov (.c .aD),none⟩]) (.seq (.seq (.reg false [⟨some 3,.mov (.t 0),none⟩,⟨some 4,.binB false (.t 3) (.c (.iface 0 .undef)),none⟩]) (.cond (.t 4) (.seq (.reg false [⟨some 2,.mov (.c .aD),none⟩]) .ret) .skip)) (.seq (.reg false [⟨some 5,.bf e sz [],none⟩,⟨some 6,.mov (.t 0),none⟩,⟨some 7,.append e sz b (.t 5) (.t 6),none⟩,⟨some 2,.mov (.t 7),none⟩]) .ret)),[.tmp (.t 2)]⟩
theorem sM {P:Program} {f:FuncId} {fn:Func} (hf:P.funcs[f]?=some fn) {e sz b:Nat} (hc:cfn P fn=some (lv e sz b)) (hk:eK P f=true) (rows:List V) (hb:rows.length*(b+1)≤140737488355328) (σ:af) :
 az P f [.sl sz rows] σ fun r σ'=>aa σ σ'∧aM σ σ' e sz r rows:=by
 refine az.l5 hf hc hk (by simp [lv]) ?_;refine ad.mix 3 ?_
 (refine ad.bG Orc.nothing 8 ?_; simp only [go_sem,seval,nz,lv])
 refine ad.Ce rfl rfl rfl fun t ht=>?_;cases t
 ·apply sR;simp only [go_sem,seval];refine ae fun id1 σ1 s1 a1 f1=>?_;obtain ⟨idA,hd,hdel⟩:=(aM.new (K:=σ) (e:=e) (sz:=sz) (n:=0) (rows:=[]) rfl a1 f1).dst (aa.refl _);have hsrc:∀σ,bK σ sz (.sl sz rows)=some rows:=fun σ=>by simp [bK]
  simp only [go_sem,seval,hd,hsrc,hb];refine ew fun id2 σ2 s2 a2 f2=>?_;have hs2:=(hdel σ (aa.refl _) σ1 s1).trans s2;simp only [go_sem,seval];exact ⟨_,_,aa.refl _,Wk.refl (aa.refl _) _,hs2,aM.new (by simp) a2 (s1.none f2)⟩
 ·apply sR;simp only [go_sem,seval];obtain rfl:rows=[]:=ht rfl;exact ⟨_,_,aa.refl _,Wk.refl (aa.refl _) _,aa.refl _,aM.start⟩
theorem wS {P:Program} {f:FuncId} {fn:Func} (hf:P.funcs[f]?=some fn) {e sz b:Nat} (hc:cfn P fn=some (lv e sz b)) (hk:eK P f=true) (rows:List V) (hb:rows.length*(b+1)≤140737488355328) :
 aU P f [.sl sz rows] (.sl sz rows):=fun σ=>(sM hf hc hk rows hb σ).H7 fun _ _ h=>h.2.Cj h.1 rfl
theorem aQ (l:List Flo):(aJ l).cells=[aJ l]:=rfl
theorem aS (l:List Flo):(aJ l).stays=true:=rfl
theorem kI {tell:Flo→Int×Bool} {l:List Flo} (h:(dN tell l).2=true):∃f∈l,(dN tell l).1=(tell f).1∧(tell f).2=true:=by
 have key:∀(l:List Flo) (a:Int×Bool),l.foldl (rF tell) a=a∨∃f∈l,l.foldl (rF tell) a=((tell f).1,true)∧(tell f).2=true:=by
  intro l
  induction l with
  | nil=>intro a; exact .inl rfl
  | cons g l ih =>
    intro a;rw [List.foldl_cons];rcases ih (rF tell a g) with h | ⟨f,hf,h,h'⟩
    ·rw [h];unfold rF;split
     ·rename_i hc; exact .inr ⟨g,by simp,rfl,hc.1⟩
     ·exact .inl rfl
    ·exact .inr ⟨f,by simp [hf],h,h'⟩
 rcases key l (0,false) with h1 | ⟨f,hf,h1,h2⟩
 ·unfold dN at h; rw [h1] at h; cases h
 ·exact ⟨f,hf,by unfold dN; rw [h1],h2⟩
def mH (l:List Flo) (w high:Int) (s:Spn) (y:Int):Bool:=!(fP l y high s).2 || decide (jh (dC l y high s)≥w)
def j8 (l:List Flo) (w high:Int) (s:Spn):Nat→Int→Int
 | 0,y=>y
 | k+1,y=>if mH l w high s y then y else j8 l w high s k (fP l y high s).1
def nS (l:List Flo) (w high:Int) (s:Spn) (y:Int):Int:=j8 l w high s l.length y
def yG (f:Flo) (l:List Flo) (s:Spn):V:=.agg [vI f.node,vI f.side,vI f.anchor,vI f.x,vI f.y,vI f.w,vI f.h,aJ l,vI s.a,vI s.b]
theorem HV (l:List Flo) (f:Flo) (y:Int) (s:Spn) (hl:l.length≤1000000) (hok:∀f∈l,f.ok) (hy:Bq2 y) (hh:Bq f.h) (hs1:Bq2 s.a∧Bq2 s.b) :
 aU prog 196 [yG f l s,vI y] (.tup [aY (dC l (nS l f.w f.h s y) f.h s),vI (nS l f.w f.h s y)]):=fun σ=>by
 refine MR.r (by simp [Kj]) ?_;have hs:=aa.refl σ;refine ad.mix 9 ?_;apply sR;simp only [go_sem,seval,Kj,yG,aQ,aS];refine ae fun i2 σ2 s2 a2 f2=>?_;have z2:=hs.none f2;replace hs:=hs.trans s2;simp only [go_sem,seval,a2,aQ,aS];refine ae fun i4 σ4 s4 a4 f4=>?_;have n24:=ao a2 f4;replace a2:=s4 _ _ a2;have z4:=hs.none f4;replace hs:=hs.trans s4;simp only [go_sem,seval,a4,a2];obtain ⟨z,hz⟩:∃z,z=nS l f.w f.h s y:=⟨_,rfl⟩
 rw [←hz];refine ad.loop (fun m st=>∃(y':Int) (k:Nat),m=gtJ l y'∧gtJ l y'≤k∧z=j8 l f.w f.h s k y'∧Bq2 y'∧aa σ st.σ∧st.σ i2=some ⟨306,10,[yG f l s]⟩∧st.σ i4=some ⟨206,2,[.agg [vI 0,vI 0]]⟩∧st.s 1=vI y'∧st.s 2=.ptr i2 0 0∧st.s 4=.ptr i4 0 0) (gtJ l y) ?_ ?_
 ·exact ⟨y,l.length,rfl,List.length_filter_le _ _,hz,hy,hs,a2,a4,rfl,rfl,rfl⟩
 ·rintro m ⟨S,τ⟩ ⟨y',k,rfl,hk,hzk,hy',hs,b2,b4,k1,k2,k4⟩;simp only at hs b2 b4 k1 k2 k4;refine ad.mix 9 ?_;rw [yG] at b2;have hb:=lQ (y:=y') (high:=f.h) hok hs1;apply sR;simp only [go_sem,seval,k1,k2,k4,b2,aQ,aS];refine ad.ay rfl rfl rfl (A1 l y' f.h s hl hok hy' hh _) ?_;apply sR;simp only [go_sem,seval,aY];refine ae fun i6 σ6 s6 a6 f6=>?_;have n26:=ao b2 f6;have n46:=ao b4 f6;replace b2:=s6 _ _ b2;replace b4:=s6 _ _ b4;have z6:=hs.none f6;replace hs:=hs.trans s6;simp only [go_sem,seval,a6,b2,k1,k2,k4,ab n26,aQ,aS];generalize hq:upd _ i6 _=τ6;have a6':=(congrFun hq i6).symm.trans ag;have b2':=((congrFun hq i2).symm.trans (ab n26)).trans b2;have b4':=((congrFun hq i4).symm.trans (ab n46)).trans b4;replace hs:=Eq.subst (motive:=aa _) hq (hs.aB z6);refine ad.ay rfl rfl rfl (EN l y' f.h s hl hok hy' hh _) ?_;have hex:mH l f.w f.h s y'=true→z=y':=fun h=>by cases k <;> simp [j8,h] at hzk <;> exact hzk
  have hlen:=EG (dC l y' f.h s) hb.1 hb.2;have hgo:mH l f.w f.h s y'=false→∃k',k=k'+1∧gtJ l (fP l y' f.h s).1 < gtJ l y'∧z=j8 l f.w f.h s k' (fP l y' f.h s).1∧Bq2 (fP l y' f.h s).1:=fun h=>by
   have h2:(fP l y' f.h s).2=true:=by
    simp only [mH,Bool.or_eq_false_iff,Bool.not_eq_false'] at h; exact h.1
   have hdec:=vC (gQ h2);obtain ⟨k',rfl⟩:∃k',k=k'+1:=⟨k - 1,by omega⟩
   rw [j8,h] at hzk;exact ⟨k',rfl,hdec,by simpa using hzk,Gh hok h2⟩
  unfold mH at hex hgo;cases hn:(fP l y' f.h s).2
  ·rw [hn] at hex;obtain rfl:=hex (by simp);apply sR;simp only [go_sem,seval,k1,k2,k4,a6',b4',b2'];exact ar.pure (hs.aB z4) rfl
  ·rw [hn] at hex hgo;apply sR;simp only [go_sem,seval,k1,k2,k4,a6',b2'];refine Go.cp rfl rfl rfl hlen ?_;by_cases hw:jh (dC l y' f.h s)≥f.w
   ·have q:(jh (dC l y' f.h s)≥f.w)=True:=eq_true hw;obtain rfl:=hex (by simp [hw]);apply sG;simp only [go_sem,seval,k1,k2,k4,a6',b4',b2',q,aQ,aS];exact ar.pure (hs.aB z4) rfl
   ·have q:(jh (dC l y' f.h s)≥f.w)=False:=eq_false hw;obtain ⟨k',rfl,h1,h2,h3⟩:=hgo (by simp [hw]);apply sG;simp only [go_sem,seval,k1,k2,k4,a6',b4',b2',q,aQ,aS];refine ⟨_,h1,_,k',rfl,by omega,h2,h3,hs,?_⟩;exact ⟨by rw [yG],rfl⟩
structure WOk (ws:List Int) (space:Int):Prop where
 len:ws.length≤100000
 rng:∀x∈ws,0≤x∧x≤1099511627776
 s0:0≤space
 s1:space≤1099511627776
def fH (space:Int):List Int→Nat→Int→List (Nat×Int)
 | [],_,_=>[]
 | x::r,k,n=>(k+1,n+space+x)::fH space r (k+1) (n+space+x)
def nO (space width:Int):List Int→Nat→Int→Nat×Int
 | [],k,n=>(k,n)
 | x::r,k,n=>if n+space+x > width then (k,n) else nO space width r (k+1) (n+space+x)
def jG (ws:List Int) (space width:Int) (i:Nat):Nat×Int:=nO space width (ws.drop (i+1)) (i+1) (ws.getD i 0)
theorem pS (space width:Int):∀(r:List Int) (k:Nat) (n:Int),k≤(nO space width r k n).1∧(nO space width r k n).1≤k+r.length
 | [],k,n=>by simp [nO]
 | x::r,k,n=>by
   rw [nO];split
   ·simp
   ·have:=pS space width r (k+1) (n+space+x);simp only [List.length_cons]; omega
theorem yg {ws:List Int} {space width:Int} {i:Nat} (h:i < ws.length):i < (jG ws space width i).1∧(jG ws space width i).1≤ws.length:=by
 have:=pS space width (ws.drop (i+1)) (i+1) (ws.getD i 0);rw [List.length_drop] at this;unfold jG;omega
theorem WOk.get {ws:List Int} {space:Int} (h:WOk ws space) {i:Nat} (hi:i < ws.length):0≤ws[i]∧ws[i]≤1099511627776:=h.rng _ (List.getElem_mem hi)
open Go.Proofs Go.Proofs.Tryz
theorem ldI (σ:af) (l:List Int):bN σ false 1 (.rp (bj l))=some (bj l):=rfl
theorem aj (l:List Int):(bj l).cells=[bj l]:=rfl
theorem al (l:List Int):(bj l).stays=true:=rfl
theorem gF {σ:af} {l:List Int} {i:Nat} (h:i < l.length):bD σ 1 (bj l) (.int .i64 i)=some (.rp (vI l[i])):=by simp [bj,bD,h]
theorem eY (l:List Int):dD false (bj l)=some (.int .i64 l.length):=by simp [bj,dD]
def jy (ws:List Int) (space:Int):V:=.agg [bj ws,vI space]
theorem JK (ws:List Int) (space:Int):gr false 0 1 (.rp (jy ws space))=some (.rp (bj ws)):=rfl
theorem JQ (ws:List Int) (space:Int):gr false 1 1 (.rp (jy ws space))=some (.rp (vI space)):=rfl
theorem zh (ws:List Int) (space:Int):(jy ws space).cells=[bj ws,vI space]:=rfl
theorem xN (ws:List Int) (space:Int):(jy ws space).stays=true:=rfl
theorem ME (ws:List Int) (space i:Int):aU prog 209 [jy ws space,vI i] (.bool (decide (i < 0∨i≥ws.length))):=fun σ=>by
 refine MT.r (by simp [JU]) ?_;have hs:=aa.refl σ;have hn:=eY ws;apply sR;simp only [go_sem,seval,JU,jy,aj,al];refine ae fun i2 σ2 s2 a2 f2=>?_;have z2:=hs.none f2;replace hs:=hs.trans s2;by_cases h:i < 0
 ·have q:(i < 0)=True:=eq_true h;simp only [go_sem,seval,a2,q,aj,al];exact ar.pure hs (by simp [h])
 ·have q:(i < 0)=False:=eq_false h;simp only [go_sem,seval,a2,q,hn,aj,al];exact ar.pure hs (by simp [h])
def fq (l:List (Nat×Int)):List (List V):=l.map fun p=>[vI p.1,vI p.2]
theorem Cm (ws:List Int) (space:Int) (hw:WOk ws space) (i:Nat) (hi:i < ws.length):Iter prog 218 [.rp (jy ws space), .rp (vI i)] (fq (fH space (ws.drop i) i (0 - space))):=by
 refine ⟨MI.c,fun idl J Jx σ0 hy hJ=>?_⟩;refine (MI.r (by simp [KM]) ?_).2;have hs0:=hw.s0;have hs1:=hw.s1;have hln:=hw.len;have hn:=eY ws;have r0:inR .i64 (0 - space):=ak (by omega) (by omega);refine ad.mix 6 ?_;apply sR;simp only [BB,seval,←decide_not,bp,eQ,aE,cG,eG,ed,eF,dQ,cd,kv,bE,fL,dM,eB,cy,cK,bx,ir,de,cI,cc,eff,kc,da,bS,jS,dT,cj,dO,cU,kP,binBV,bT,dq,V.cells,V.stays,Orc.nothing,KM,ldI,JK,JQ,r0];refine ad.loop (fun m st=>∃(pre:List (Nat×Int)) (j:Nat) (n:Int) (σJ:af),m=ws.length - j∧i≤j∧j≤ws.length∧-1099511627776≤n∧n≤2199023255552*j∧fH space (ws.drop i) i (0 - space)=pre++fH space (ws.drop j) j n ∧
  J (fq pre) σJ∧aa σJ st.σ∧st.s 0=.yl idl∧st.s 1=.rp (jy ws space)∧st.s 4=vI n∧st.s 5=vI j) (ws.length - i) ?_ ?_
 ·exact ⟨[],i,0 - space,σ0,rfl,by omega,by omega,by omega,by omega,rfl,hJ,aa.refl _,rfl,rfl,rfl,rfl⟩
 ·rintro m ⟨s,σ'⟩ ⟨pre,j,n,σJ,rfl,hij,hj,hn1,hn2,hxs,hJp,hsub,t0,t1,t4,t5⟩;simp only at hsub t0 t1 t4 t5;refine ad.mix 6 ?_;by_cases hlt:j < ws.length
  ·have q:((j:Int) < ws.length)=True:=eq_true (by omega);have hx:=hw.get hlt;have hidx:=fun σ=>gF (σ:=σ) hlt;rw [List.drop_eq_getElem_cons hlt,fH] at hxs;generalize ws[j]=w at *;have r1:inR .i64 (space+w):=ak (by omega) (by omega);have r2:inR .i64 (n+(space+w)):=ak (by omega) (by omega);have r3:inR .i64 ((j:Int)+1):=ak (by omega) (by omega);have en:n+space+w=n+(space+w):=by omega
   rw [en] at hxs;have e:fq (fH space (ws.drop i) i (0 - space))=fq pre++[vI ((j:Int)+1),vI (n+(space+w))]::fq (fH space (ws.drop (j+1)) (j+1) (n+(space+w))):=by rw [hxs]; simp [fq]
   apply sR;simp only [BB,seval,←decide_not,bp,eQ,aE,cG,eG,ed,eF,dQ,cd,kv,bE,fL,dM,eB,cy,cK,bx,ir,de,cI,cc,eff,kc,da,bS,jS,dT,cj,dO,cU,kP,binBV,bT,dq,V.cells,V.stays,Orc.nothing,t0,t1,t4,t5,hn,q,ldI,JK,JQ,hidx,r1,r2,r3];refine ad.kV (Post:=fun b σ2=>∃σJ',bb σJ σ' σJ' σ2∧((b=true∧J (fq pre++[[vI ((j:Int)+1),vI (n+(space+w))]]) σJ')∨(b=false∧Jx (fq pre++[[vI ((j:Int)+1),vI (n+(space+w))]]) σJ'))) rfl rfl rfl (hy _ _ _ σJ σ' e hJp hsub) ?_;rintro b σ2 ⟨σJ',hbs,hbb⟩;rcases hbb with ⟨rfl,hbb⟩ | ⟨rfl,hbb⟩
   ·apply sR;simp only [go_sem,seval,t0,t1,t4,t5,r3];refine ⟨_,?_,pre++[(j+1,n+(space+w))],j+1,n+(space+w),σJ',rfl,by omega,by omega,by omega,by omega,by rw [hxs]; simp,?_,hbs.1,by simp [t0,t1]⟩
    ·omega
    ·simpa [fq] using hbb
   ·apply sR;simp only [go_sem,seval,t0,t1,t4,t5];refine ⟨_,σJ',hbs.1,Wk.refl hbs.1 _, .inr ⟨_,?_,hbb⟩⟩;rw [e];exact ⟨fq (fH space (ws.drop (j+1)) (j+1) (n+(space+w))),by simp⟩
  ·have q:((j:Int) < ws.length)=False:=eq_false (by omega);apply sR;simp only [BB,seval,←decide_not,bp,eQ,aE,cG,eG,ed,eF,dQ,cd,kv,bE,fL,dM,eB,cy,cK,bx,ir,de,cI,cc,eff,kc,da,bS,jS,dT,cj,dO,cU,kP,binBV,bT,dq,V.cells,V.stays,Orc.nothing,t0,t1,t4,t5,hn,q,ldI,JK,JQ];rw [show ws.drop j=[] from List.drop_of_length_le (by omega),fH,List.append_nil] at hxs;exact ⟨_,σJ,hsub,Wk.refl hsub _, .inl (by rw [hxs]; exact hJp)⟩
theorem IV (ws:List Int) (space:Int) (i:Int):aU prog 210 [jy ws space,vI i] (.fn 218 [.rp (jy ws space), .rp (vI i)]):=fun σ=>by
 refine Ox.r (by simp [JY]) ?_;refine ad.mix 4 ?_;have q1:=zh ws space;have q2:=xN ws space;have q3:(jy ws space).cells.length=2:=rfl;generalize hx:jy ws space=x at *;apply sR;simp only [go_sem,seval,JY,q1,q2,q3];refine ae fun id1 σ1 s1 a1 f1=>?_;simp only [go_sem,seval];refine ae fun id2 σ2 s2 a2 f2=>?_;simp only [go_sem,seval];exact ⟨_,σ,s1.trans s2,Wk.fn (vs':=[.rp x, .rp (vI i)]) ⟨Wk.ptr (s1.trans s2) (s2 _ _ a1) f1,Wk.ptr (s1.trans s2) a2 (s1.none f2),trivial⟩,rfl,rfl⟩
open Go.Proofs Go.Proofs.Tryz
def uL (i j n:Int):V:=.agg [vI i,vI j,vI n]
structure TkJ (ws:List Int) (space width:Int) (i:Nat) (σ:af) (id6 id7 id8 id10:Nat) (pre:List (List V)) (v:V) (σJ:af):Prop where
 sub:aa σ σJ
 r8:σJ id8=some ⟨297,3,[.agg [vI 0,vI 0,vI 0]]⟩
 r6:σJ id6=some ⟨3,1,[vI width]⟩
 r7:σJ id7=some ⟨3,1,[vI i]⟩
 r10:σJ id10=some ⟨297,3,[v]⟩
 st:(pre=[]∧v=.agg [vI 0,vI 0,vI 0])∨∃n:Int,0 < pre.length∧i+pre.length≤ws.length∧fq (fH space (ws.drop i) i (0 - space))=pre++fq (fH space (ws.drop (i+pre.length)) (i+pre.length) n) ∧
  jG ws space width i=nO space width (ws.drop (i+pre.length)) (i+pre.length) n∧v=.agg [vI i,vI (i+pre.length:Nat),vI n]
theorem G6 (ws:List Int) (space width:Int) (hw:WOk ws space) (i:Nat) (hi:i < ws.length):aU prog 189 [bj ws,vI space,vI width,vI i] (uL i (jG ws space width i).1 (jG ws space width i).2):=fun σ=>by
 refine Nc.r (by simp [IQ]) ?_;have hs:=aa.refl σ;have hln:=hw.len;refine ad.mix 13 ?_;apply sR;simp only [go_sem,seval,IQ];refine ae fun i6 σ6 s6 a6 f6=>?_;have z6:=hs.none f6;replace hs:=hs.trans s6;simp only [go_sem,seval,a6,aj,al];refine ae fun i7 σ7 s7 a7 f7=>?_;have n67:=ao a6 f7;replace a6:=s7 _ _ a6;have z7:=hs.none f7;replace hs:=hs.trans s7;simp only [go_sem,seval,a7,a6,aj,al];refine ae fun i8 σ8 s8 a8 f8=>?_;have n68:=ao a6 f8;replace a6:=s8 _ _ a6;have n78:=ao a7 f8;replace a7:=s8 _ _ a7;have z8:=hs.none f8;replace hs:=hs.trans s8;simp only [go_sem,seval,a8,a7,a6,aj,al];refine ae fun i9 σ9 s9 a9 f9=>?_;have n69:=ao a6 f9;replace a6:=s9 _ _ a6;have n79:=ao a7 f9;replace a7:=s9 _ _ a7;have n89:=ao a8 f9;replace a8:=s9 _ _ a8;have z9:=hs.none f9;replace hs:=hs.trans s9;simp only [go_sem,seval,a9,a8,a7,a6,aj,al,ab n69,ab n79,ab n89];generalize hq9:upd _ i9 _=τ9;replace a9:=(congrFun hq9 i9).symm.trans ag;replace a6:=((congrFun hq9 i6).symm.trans (ab n69)).trans a6;replace a7:=((congrFun hq9 i7).symm.trans (ab n79)).trans a7;replace a8:=((congrFun hq9 i8).symm.trans (ab n89)).trans a8;replace hs:=Eq.subst (motive:=aa _) hq9 (hs.aB z9);clear hq9;have hf:=ME ws space i;rw [show decide ((i:Int) < 0∨(i:Int)≥ws.length)=false by simp; omega] at hf;refine ad.ay rfl rfl rfl (hf _) ?_;apply sR;simp only [go_sem,seval,a9,a8,a7,a6];refine ae fun i10 σ10 s10 a10 f10=>?_;have n610:=ao a6 f10;replace a6:=s10 _ _ a6;have n710:=ao a7 f10;replace a7:=s10 _ _ a7;have n810:=ao a8 f10;replace a8:=s10 _ _ a8;have n910:=ao a9 f10;replace a9:=s10 _ _ a9;have z10:=hs.none f10;replace hs:=hs.trans s10;simp only [go_sem,seval,a10,a9,a8,a7,a6];refine ad.ay rfl rfl rfl (IV ws space i _) ?_;apply sR;simp only [go_sem,seval,a10,a9,a8,a7,a6];generalize hS:mix 13 _ _=S;have S6:S 6=.ptr i6 0 0:=by rw [←hS]; rfl
 have S7:S 7=.ptr i7 0 0:=by rw [←hS]; rfl
 have S8:S 8=.ptr i8 0 0:=by rw [←hS]; rfl
 have S10:S 10=.ptr i10 0 0:=by rw [←hS]; rfl
 have S22:S 22=.fn 218 [.rp (jy ws space), .rp (vI i)]:=by rw [←hS]; rfl
 clear hS;have hit:=Cm ws space hw i hi;have hdr:ws.drop i=ws[i]::ws.drop (i+1):=List.drop_eq_getElem_cons hi;have hgd:ws.getD i 0=ws[i]:=by simp [hi]
 have hxi:=hw.get hi;have fin:∀(τ:af) (w:V),aa σ τ→τ i8=some ⟨297,3,[.agg [vI 0,vI 0,vI 0]]⟩→τ i10=some ⟨297,3,[uL i (jG ws space width i).1 (jG ws space width i).2]⟩ →
  ad prog 39 [It.code (.seq (.reg false [⟨some 38, .load true 3 (.t 10),none⟩,⟨none, .store 3 (.t 8) (.t 38),none⟩]) .ret)] ⟨S,τ⟩ (fun st=>Ret [VR.cell true 3 (VX.t 8)] st fun r σ'=>r=uL i (jG ws space width i).1 (jG ws space width i).2∧σ'=σ):=by
  intro τ w h1 h2 h3;refine ad.mix 13 ?_;rw [uL] at h3;apply sR;simp only [go_sem,seval,S8,S10,h2,h3];exact ar.pure (h1.aB z8) rfl
 refine ad.cC (g:=.t 22) (caps:=[.rp (jy ws space), .rp (vI i)]) S22 hit (fun x hx=>?_) [0] (fun pre σJ=>∃v,TkJ ws space width i σ i6 i7 i8 i10 pre v σJ)
  (fun e pre σJ=>e=some 0∧aa σ σJ∧σJ i8=some ⟨297,3,[.agg [vI 0,vI 0,vI 0]]⟩∧σJ i10=some ⟨297,3,[uL i (jG ws space width i).1 (jG ws space width i).2]⟩) ?_ ?_ ?_ ?_ ?_
 ·obtain ⟨t,_,rfl⟩:=List.mem_map.1 hx; rfl
 ·exact ⟨_,hs,a8,a6,a7,a10, .inl ⟨rfl,rfl⟩⟩
 ·rintro pre x post σJ σB hxs ⟨v,J⟩ hsub;have b6:=hsub _ _ J.r6;have b7:=hsub _ _ J.r7;have b8:=hsub _ _ J.r8;have b10:=hsub _ _ J.r10;rcases J.st with ⟨rfl,rfl⟩ | ⟨n,hp,hpl,hr,htk,rfl⟩
  ·obtain rfl:x=[vI ((i:Int)+1),vI ws[i]]:=by
    rw [hdr] at hxs;simp only [fH,fq,List.map_cons,List.nil_append,List.cons.injEq] at hxs;rw [←hxs.1];simp only [Int.sub_add_cancel,Int.zero_add];rw [show ((i+1:Nat):Int)=(i:Int)+1 by omega]
   refine ad.mix 13 ?_;generalize hSS:lk S [23,24] _=S0;have T6:S0 6=.ptr i6 0 0:=by rw [←hSS]; exact S6
   have T7:S0 7=.ptr i7 0 0:=by rw [←hSS]; exact S7
   have T10:S0 10=.ptr i10 0 0:=by rw [←hSS]; exact S10
   have T23:S0 23=vI ((i:Int)+1):=by rw [←hSS]; rfl
   have T24:S0 24=vI ws[i]:=by rw [←hSS]; rfl
   clear hSS;have r1:inR .i64 ((i:Int)+1):=ak (by omega) (by omega);have q:((i:Int)+1 > (i:Int)+1)=False:=eq_false (by omega);apply sR;simp only [go_sem,seval,T6,T7,T10,T23,T24];apply sR;simp only [go_sem,seval,T6,T7,T10,T23,T24,b6,b7,b10,r1,q];refine ⟨_,(bb.refl hsub).set J.r10,_,J.sub.aB z10,by rw [ab n810]; exact J.r8,by rw [ab n610]; exact J.r6,by rw [ab n710]; exact J.r7,ag, .inr ⟨ws[i],by simp,by simp; omega,?_,?_,?_⟩⟩
   ·rw [hdr,fH];simp only [Int.sub_add_cancel,Int.zero_add,fq,List.map_cons,List.nil_append,List.length_cons,List.length_nil,List.cons_append];rw [show ((i+1:Nat):Int)=(i:Int)+1 by omega]
   ·unfold jG; rw [hgd]; rfl
   ·simp
  ·have hlt:i+pre.length < ws.length:=by
    rcases Nat.lt_or_ge (i+pre.length) ws.length with h | h
    ·exact h
    ·exfalso;rw [List.drop_of_length_le h] at hr;rw [hr] at hxs;have:=congrArg List.length hxs;simp [fH,fq] at this
   have hd2:ws.drop (i+pre.length)=ws[i+pre.length]::ws.drop (i+pre.length+1):=List.drop_eq_getElem_cons hlt;obtain rfl:x=[vI ((i:Int)+pre.length+1),vI (n+space+ws[i+pre.length])]:=by
    rw [hr,hd2] at hxs;have h2:=List.append_cancel_left hxs;simp only [fH,fq,List.map_cons,List.cons.injEq] at h2;rw [←h2.1];rw [show ((i+pre.length+1:Nat):Int)=(i:Int)+pre.length+1 by omega]
   rw [hd2,nO] at htk;refine ad.mix 13 ?_;generalize hSS:lk S [23,24] _=S0;have T6:S0 6=.ptr i6 0 0:=by rw [←hSS]; exact S6
   have T7:S0 7=.ptr i7 0 0:=by rw [←hSS]; exact S7
   have T10:S0 10=.ptr i10 0 0:=by rw [←hSS]; exact S10
   have T23:S0 23=vI ((i:Int)+pre.length+1):=by rw [←hSS]; rfl
   have T24:S0 24=vI (n+space+ws[i+pre.length]):=by rw [←hSS]; rfl
   clear hSS;have r1:inR .i64 ((i:Int)+1):=ak (by omega) (by omega);have q:((i:Int)+pre.length+1 > (i:Int)+1)=True:=eq_true (by omega);apply sR;simp only [go_sem,seval,T6,T7,T10,T23,T24];by_cases hw2:n+space+ws[i+pre.length] > width
   ·have q2:(n+space+ws[i+pre.length] > width)=True:=eq_true hw2;rw [if_pos hw2] at htk;apply sR;simp only [go_sem,seval,T6,T7,T10,T23,T24,b6,b7,b10,r1,q,q2];refine ⟨_,bb.refl hsub,J.sub,J.r8,?_⟩;rw [J.r10,htk]; rfl
   ·have q2:(n+space+ws[i+pre.length] > width)=False:=eq_false hw2;rw [if_neg hw2] at htk;apply sR;simp only [go_sem,seval,T6,T7,T10,T23,T24,b6,b7,b10,r1,q,q2];have hpl2:(pre++[[vI ((i:Int)+pre.length+1),vI (n+space+ws[i+pre.length])]]).length=pre.length+1:=by simp
    refine ⟨_,(bb.refl hsub).set J.r10,_,J.sub.aB z10,by rw [ab n810]; exact J.r8,by rw [ab n610]; exact J.r6,by rw [ab n710]; exact J.r7,ag, .inr ⟨n+space+ws[i+pre.length],by omega,by omega,?_,?_,?_⟩⟩
    ·rw [hr,hd2,hpl2,fH];simp only [fq,List.map_cons,List.append_assoc,List.cons_append,List.nil_append];rw [show ((i+pre.length+1:Nat):Int)=(i:Int)+pre.length+1 by omega]; rfl
    ·rw [hpl2]; exact htk
    ·rw [hpl2,show ((i+(pre.length+1):Nat):Int)=(i:Int)+pre.length+1 by omega]
 ·rintro σ' ⟨v,J⟩;rcases J.st with ⟨h0,rfl⟩ | ⟨n,hp,hpl,hr,htk,rfl⟩
  ·exfalso; rw [hdr] at h0; simp [fH,fq] at h0
  ·have he:fq (fH space (ws.drop (i+(fq (fH space (ws.drop i) i (0 - space))).length)) (i+(fq (fH space (ws.drop i) i (0 - space))).length) n)=[]:=by
    have:=congrArg List.length hr;rw [List.length_append] at this;exact List.eq_nil_of_length_eq_zero (by omega)
   generalize (fq (fH space (ws.drop i) i (0 - space))).length=p at *;have hd:ws.drop (i+p)=[]:=by
    cases h:ws.drop (i+p) with
    | nil=>rfl
    | cons a b=>rw [h] at he; simp [fH,fq] at he
   rw [hd,nO] at htk;refine ad.inBlock (fin σ' .aD J.sub J.r8 ?_);rw [J.r10,htk]; rfl
 ·intro id hid pre σ' _ ⟨h0,h1,h2,h3⟩;obtain rfl:id=0:=by simpa using hid
  refine ad.exit rfl ?_;exact fin σ' .aD h1 h2 h3
 ·rintro pre σ' _ ⟨h0,_⟩; cases h0
open Go.Proofs Go.Proofs.Tryz
def tS (p:Pn) (n:Int):Pn:=⟨if n > 0 then p.y+p.m+n else p.y,if n > 0 then 0 else p.m⟩
def dZ (p:Pn) (mg n:Int):Pn:=tS ⟨p.y,max p.m mg⟩ n
def ky (p:Pn) (mg n:Int):Pn:=⟨(tS p n).y,max (tS p n).m mg⟩
theorem Bm (p:Pn) (mg n:Int) (h1:Bq p.y) (h2:Bq p.m) (h3:Bq mg) (h4:Bq n):aU prog 114 [gb p,vI mg,vI n] (gb (dZ p mg n)):=fun σ=>by
 refine N1.r (by simp [J5]) ?_;have hs:=aa.refl σ;refine ad.mix 10 ?_;apply sR;simp only [go_sem,seval,J5,gb];refine ae fun i3 σ3 s3 a3 f3=>?_;have z3:=hs.none f3;replace hs:=hs.trans s3;simp only [go_sem,seval,a3];refine ae fun i6 σ6 s6 a6 f6=>?_;have n36:=ao a3 f6;replace a3:=s6 _ _ a3;have z6:=hs.none f6;replace hs:=hs.trans s6;simp only [go_sem,seval,a6,a3];refine ae fun i7 σ7 s7 a7 f7=>?_;have n37:=ao a3 f7;replace a3:=s7 _ _ a3;have n67:=ao a6 f7;replace a6:=s7 _ _ a6;have z7:=hs.none f7;replace hs:=hs.trans s7;simp only [go_sem,seval,a7,a6,a3,ab n37,ab n67];generalize hq7:upd _ i7 _=τ7;replace a7:=(congrFun hq7 i7).symm.trans ag;replace a3:=((congrFun hq7 i3).symm.trans (ab n37)).trans a3;replace a6:=((congrFun hq7 i6).symm.trans (ab n67)).trans a6;replace hs:=Eq.subst (motive:=aa _) hq7 (hs.aB z7);clear hq7;refine ad.call rfl rfl rfl (A4 p.y p.m mg a7) ?_;rintro r σ1 ⟨rfl,rfl⟩;apply sR;simp only [go_sem,seval];have hm:Bq (max p.m mg):=by obtain ⟨g1,g2⟩:=h2; obtain ⟨g3,g4⟩:=h3; exact ⟨by omega,by omega⟩
 refine ad.call rfl rfl rfl (Ia p.y (max p.m mg) n h1 hm h4 ag) ?_;rintro r σ2 ⟨rfl,rfl⟩;apply sR;simp only [go_sem,seval,a6,ab n67,ab n67.symm];exact ar.pure ((hs.aB z7).aB z6) rfl
theorem Bb (p:Pn) (mg n:Int) (h1:Bq p.y) (h2:Bq p.m) (h3:Bq mg) (h4:Bq n):aU prog 115 [gb p,vI mg,vI n] (gb (ky p mg n)):=fun σ=>by
 refine NJ.r (by simp [Jd]) ?_;have hs:=aa.refl σ;refine ad.mix 10 ?_;apply sR;simp only [go_sem,seval,Jd,gb];refine ae fun i3 σ3 s3 a3 f3=>?_;have z3:=hs.none f3;replace hs:=hs.trans s3;simp only [go_sem,seval,a3];refine ae fun i6 σ6 s6 a6 f6=>?_;have n36:=ao a3 f6;replace a3:=s6 _ _ a3;have z6:=hs.none f6;replace hs:=hs.trans s6;simp only [go_sem,seval,a6,a3];refine ae fun i7 σ7 s7 a7 f7=>?_;have n37:=ao a3 f7;replace a3:=s7 _ _ a3;have n67:=ao a6 f7;replace a6:=s7 _ _ a6;have z7:=hs.none f7;replace hs:=hs.trans s7;simp only [go_sem,seval,a7,a6,a3,ab n37,ab n67];generalize hq7:upd _ i7 _=τ7;replace a7:=(congrFun hq7 i7).symm.trans ag;replace a3:=((congrFun hq7 i3).symm.trans (ab n37)).trans a3;replace a6:=((congrFun hq7 i6).symm.trans (ab n67)).trans a6;replace hs:=Eq.subst (motive:=aa _) hq7 (hs.aB z7);clear hq7;refine ad.call rfl rfl rfl (Ia p.y p.m n h1 h2 h4 a7) ?_;rintro r σ1 ⟨rfl,rfl⟩;apply sR;simp only [go_sem,seval];refine ad.call rfl rfl rfl (A4 _ _ mg ag) ?_;rintro r σ2 ⟨rfl,rfl⟩;apply sR;simp only [go_sem,seval,a6,ab n67,ab n67.symm];exact ar.pure ((hs.aB z7).aB z6) rfl
structure Ln where
 (fr to x y w:Int)
deriving DecidableEq
def lN (l:Ln):V:=.agg [vI l.fr,vI l.to,vI l.x,vI l.y,vI l.w]
def mF (fs:List Flo) (ws:List Int) (space high:Int) (i:Nat) (y:Int) (s:Spn):Ln :=
 let at':=j7 fs (ws.getD i 0) high s y
 let b:=dC fs at' high s
 let t:=jG ws space (jh b) i
 ⟨i,t.1,b.a,at',t.2⟩
theorem GF (fs:List Flo) (ws:List Int) (space high:Int) (i:Nat) (y:Int) (s:Spn) (hl:fs.length≤1000000) (hok:∀f∈fs,f.ok) (hy:Bq2 y) (hh:Bq high) (hs1:Bq2 s.a∧Bq2 s.b) (hw:WOk ws space) (hi:i < ws.length) :
 aU prog 158 [aJ fs,bj ws,vI space,vI high,vI i,vI y,aY s] (lN (mF fs ws space high i y s)):=fun σ=>by
 refine Ot.r (by simp [Jf]) ?_;have hs:=aa.refl σ;have hn:=eY ws;have hidx:=fun σ=>gF (σ:=σ) hi;have q0:((i:Int) < 0)=False:=eq_false (by omega);have q1:((i:Int)≥ws.length)=False:=eq_false (by omega);refine ad.mix 18 ?_;apply sR;simp only [go_sem,seval,Jf,aY];refine ae fun i13 σ13 s13 a13 f13=>?_;have z13:=hs.none f13;replace hs:=hs.trans s13;simp only [go_sem,seval,a13];refine ae fun i14 σ14 s14 a14 f14=>?_;have n1314:=ao a13 f14;replace a13:=s14 _ _ a13;have z14:=hs.none f14;replace hs:=hs.trans s14;simp only [go_sem,seval,a14,a13,hn,hidx,q0,q1];have hgd:ws.getD i 0=ws[i]:=by simp [hi]
 obtain ⟨at',hat⟩:∃a,a=j7 fs ws[i] high s y:=⟨_,rfl⟩
 have hro:=F7 fs ws[i] high y s hl hok hy hh hs1;rw [←hat] at hro;have hbo:=lQ (y:=at') (high:=high) hok hs1;unfold mF;rw [hgd];simp only;rw [←hat];obtain ⟨b,hb⟩:∃b,b=dC fs at' high s:=⟨_,rfl⟩
 rw [←hb] at hro hbo ⊢;refine Go.cp rfl rfl rfl hro ?_;apply sG;simp only [go_sem,seval,aY];refine bC fun i15 σ15 s15 a15 f15=>?_;have n1315:=ao a13 f15;replace a13:=s15 _ _ a13;have n1415:=ao a14 f15;replace a14:=s15 _ _ a14;have z15:=hs.none f15;replace hs:=hs.trans s15;simp only [go_sem,seval,a15,a14,a13,aY];generalize hq15:upd _ i15 _=τ15;replace a15:=(congrFun hq15 i15).symm.trans ag;replace a13:=((congrFun hq15 i13).symm.trans (ab n1315)).trans a13;replace a14:=((congrFun hq15 i14).symm.trans (ab n1415)).trans a14;replace hs:=Eq.subst (motive:=aa _) hq15 (hs.aB z15);clear hq15;refine ad.ay rfl rfl rfl (EG b hbo.1 hbo.2 _) ?_;apply sR;simp only [go_sem,seval];refine ad.ay rfl rfl rfl (G6 ws space (jh b) hw i hi _) ?_;apply sR;simp only [go_sem,seval,uL];refine ae fun i17 σ17 s17 a17 f17=>?_;have n1317:=ao a13 f17;replace a13:=s17 _ _ a13;have n1417:=ao a14 f17;replace a14:=s17 _ _ a14;have n1517:=ao a15 f17;replace a15:=s17 _ _ a15;have z17:=hs.none f17;replace hs:=hs.trans s17;simp only [go_sem,seval,a17,a15,a14,ab n1317,ab n1417,ab n1517];exact ar.pure ((hs.aB z17).aB z14) rfl
open Go.Proofs Go.Proofs.Tryz
theorem aM.AV {K σJ σ1:af} {e sz:Nat} {v:V} {rows:List V} (h:aM K σJ e sz v rows) (hs:aa σJ σ1) :
 ∃idA,bR σ1 e sz v=some (rows,idA)∧(∀K':af,aa K' K→∀σ2,aa K' σ2→aa K' (Vc.bz σ2 idA))∧(∀i o,σJ i=some o→(o.elem≠e∨o.sz≠sz)→∀σ2:af,Vc.bz σ2 idA i=σ2 i)∧(∀i,σJ i=none→∀σ2:af,Vc.bz σ2 idA i=σ2 i):=by
 rcases h with ⟨rfl,rfl⟩ | ⟨id,rfl,ho,hk⟩
 ·exact ⟨none,rfl,fun _ _ _ h=>h,fun _ _ _ _ _=>rfl,fun _ _ _=>rfl⟩
 ·refine ⟨some id,?_,fun K' hK σ2 h=>h.Hd (hK.none hk),fun i o hi hne σ2=>?_,fun i hi σ2=>?_⟩
  ·simp only [bR,hs _ _ ho];rw [if_pos ⟨trivial,trivial,trivial,Nat.le_refl _⟩,List.take_length]
  ·refine dh fun e'=>?_;subst e'; rw [ho] at hi; injection hi with hi; subst hi; rcases hne with h | h <;> exact h rfl
  ·refine dh fun e'=>?_;subst e'; rw [ho] at hi; cases hi
theorem qv {l:List Flo} {w high B:Int} {s:Spn} (hB:∀f∈l,f.y+f.h≤B):∀(k:Nat) (y:Int),y≤od l w high s k y∧od l w high s k y≤max y B
 | 0,y=>by simp only [od]; omega
 | k+1,y=>by
   rw [od];split
   ·omega
   ·rename_i hf;have hne:dC l y high s≠s:=fun e=>hf (by simp [vp,e]);obtain ⟨f,hm,h1,h2⟩:=gQ (mX hne);have:=qv hB k (fP l y high s).1 (w:=w) (high:=high) (s:=s);have:=hB f hm;omega
theorem fi {l:List Flo} {w high B y:Int} {s:Spn} (hB:∀f∈l,f.y+f.h≤B):y≤j7 l w high s y∧j7 l w high s y≤max y B:=qv hB _ _
def cX (fs:List Flo) (ws:List Int) (space high:Int) (s:Spn):Nat→Nat→Int→List Ln
 | 0,_,_=>[]
 | k+1,i,y=>if i < ws.length then mF fs ws space high i y s::cX fs ws space high s k (mF fs ws space high i y s).to.toNat ((mF fs ws space high i y s).y+high) else []
theorem jj (fs:List Flo) (ws:List Int) (space high:Int) (s:Spn):∀(k i:Nat) (y:Int),(cX fs ws space high s k i y).length≤k
 | 0,_,_=>by simp [cX]
 | k+1,i,y=>by
   rw [cX];split
   ·have:=jj fs ws space high s k (mF fs ws space high i y s).to.toNat ((mF fs ws space high i y s).y+high);simp only [List.length_cons]; omega
   ·simp
theorem yz (l:Ln):(lN l).cells=[vI l.fr,vI l.to,vI l.x,vI l.y,vI l.w]:=rfl
theorem zw (l:Ln):(lN l).stays=true:=rfl
def oX (l:List Ln):V:=.sl 5 (l.map lN)
variable {P:Program} {n:Nat} {st:St} {Q:St→Prop} {k:List It}
def nh (D:List (List Nat)) (S:List Nat) (s:Nat):List (List Nat):=(List.range D.length).map fun i=>if S.contains i && !(i == s) then s::D.getD i [] else D.getD i []
theorem xR {D:List (List Nat)} {S:List Nat} {s:Nat}:(nh D S s).length=D.length:=by simp [nh]
theorem xU {D:List (List Nat)} {S:List Nat} {s i:Nat}:(nh D S s).getD i []=if i < D.length∧i∈S∧i≠s then s::D.getD i [] else D.getD i []:=by
 unfold nh;rw [List.getD_eq_getElem?_getD,List.getElem?_map];by_cases hi:i < D.length
 ·rw [List.getElem?_range hi];by_cases hs:i∈S
  ·by_cases he:i=s
   ·simp [he]
   ·simp [hi,hs,he]
  ·simp [hs]
 ·have h1:(List.range D.length)[i]?=none:=List.getElem?_eq_none (by simpa using hi);rw [h1,if_neg (fun h=>hi h.1)];simp [List.getElem?_eq_none (show D.length≤i by omega)]
theorem xA {D:List (List Nat)} {S:List Nat} {s i:Nat} (h:i∉S∨i=s):(nh D S s).getD i []=D.getD i []:=by
 rw [xU,if_neg];rintro ⟨_,h1,h2⟩;exact h.elim (fun h=>h h1) h2
theorem qp {D:List (List Nat)} {S:List Nat} {s:Nat} {L:List Nat} (hp:s∈L):dv (nh D S s) L=dv D L:=by
 unfold dv;rw [xR];refine List.filter_congr fun i hi=>?_;rw [xU];split
 ·simp [hp]
 ·rfl
theorem tv {l:List aG} {D:List (List Nat)} {S:List Nat} {s:Nat} {K:St→Prop}:∀(f:Nat) (L:List Nat) (y:St),s∈L→gB P l (nh D S s) K f L y→gB P l D K f L y
 | 0,L,y,hp,h=>⟨by rw [←qp hp]; exact h.1,h.2⟩
 | f+1,L,y,hp,h=>by
   unfold gB at h ⊢;rw [qp hp] at h;cases hr:dv D L with
   | nil=>rw [hr] at h; exact h
   | cons a r =>
     rw [hr] at h;refine nK fun i hi=>?_;obtain ⟨ins,h1,h2⟩:=mo h i hi;exact ⟨ins,h1,TC.mono (fun x hx=>tv f _ x (by simp [hp]) hx) h2⟩
theorem uR {l:List aG} {K:St→Prop} {b:List Nat}:∀ {a:List Nat},RE P l K (a++b)=RE P l (RE P l K b) a
 | []=>rfl
 | m::a=>by
   funext x;rw [List.cons_append,RE,RE,uR]
theorem mR {l:List aG} {bef:List (List Nat)} {b:List Nat}:∀ {a done:List Nat},dR l bef done (a++b)=dR l bef done a++dR l bef (done++a) b
 | [],done=>by simp [dR]
 | e::a,done=>by
   rw [List.cons_append,dR,dR,mR];simp
theorem RE.mono {l:List aG} {K K':St→Prop} (hk:∀x,K x→K' x):∀ {a:List Nat} {x:St},RE P l K a x→RE P l K' a x
 | [],x,h=>hk x h
 | m::a,x,h=>by
   rw [RE] at h ⊢;cases hm:l[m / 2]? with
   | none=>rw [hm] at h; exact h.elim
   | some i =>
     rw [hm] at h;simp only at h ⊢;split at h <;> rename_i he
     ·rw [if_pos he];exact TC.mono (fun x hx=>RE.mono hk hx) h
     ·rw [if_neg he];exact ⟨h.1,RE.mono hk h.2⟩
structure FN (l:List aG) (D bef:List (List Nat)) (pre tail S:List Nat) (befs:Nat→List (List Nat)):Prop where
 e:EOkW l D bef (pre++tail)
 effs:∀a b x y,pre++tail=a++b→x∈a→y∈b→x∈pre→db l bef x=true→x∈eA bef y
 sub:∀s∈S,s∈tail
 some:∃s,s∈S
 later:∀i∈tail,i∉S→∃s∈S,s∈eA bef i
 agree:∀s∈S,∀i∈pre,db l (befs s) i=db l bef i
section
variable {l:List aG} {D bef:List (List Nat)} {pre tail S:List Nat} {befs:Nat→List (List Nat)} {K:St→Prop} {Ks:Nat→St→Prop} (hF:FN l D bef pre tail S befs)
include hF
theorem iW.L8 {L:List Nat} {y:St}:∀ {rest done:List Nat} {x:St},iW P l D bef pre K L y done rest x →
 ∃done' rest' x',iW P l D bef pre K L y done' rest' x'∧∀h r,rest'=h::r→db l bef h=true
 | [],done,x,h=>⟨done,[],x,h,by simp⟩
 | e::rest,done,x,h=>by
   have hE:=hF.e;cases heff:db l bef e with
   | true=>exact ⟨done,e::rest,x,h,fun a r he=>by cases he; exact heff⟩
   | false =>
     have hel:e < l.length:=hE.lt e (by rw [h.split]; simp);obtain ⟨hk,hself⟩:=gk heff hel (hE.mf hel);have hnd:=(List.nodup_append.1 hE.nodup).1;rw [h.split] at hnd;have hed:e∉done:=fun hm=>(List.nodup_append.1 hnd).2.2 e hm e (by simp) rfl;have heL:e∉L:=fun hm=>hed (h.sub e hm);have hgo:=h.go;rw [dR,BZ hel,Cu,if_neg (by simp [heff]),List.nil_append] at hgo;have hT:T P (bo l e) x (RE P l K (dR l bef (done++[e]) rest)):=by
      rcases hgo with hgo | ⟨_,hgo⟩
      ·exact hgo
      ·exfalso;revert hgo hk;generalize (bo l e).op=op;intro hk hgo;split at hgo
       ·simp [bp] at hk
       ·exact hgo
     obtain ⟨v,hv,hgo'⟩:=(bY (by simp [eT,hk])).1 hT;refine iW.L8 (rest:=rest) (done:=done++[e]) (x:=⟨aV x.s (bo l e).dst v,x.σ⟩) ⟨by rw [h.split]; simp,fun i hi=>by simp [h.sub i hi],h.nodup,h.closed,fun i hi hie=>?_,h.store,fun d hd=>?_,fun i hi hiL=>?_,hgo'⟩
     ·rcases List.mem_append.1 hi with hi | hi
      ·exact h.effs i hi hie
      ·simp only [List.mem_singleton] at hi; rw [hi,heff] at hie; cases hie
     ·have h1:=h.slot d fun i hi hiL=>hd i (by simp [hi]) hiL;have h2:=hd e (by simp) heL;rw [h1];simp only;cases hde:(bo l e).dst with
      | none=>rfl
      | some d' =>
        rw [hde] at h2;simp only [aV];rw [if_neg (fun e'=>h2 (by rw [e']))]
     ·by_cases hie:i=e
      ·subst hie;unfold QYd;cases hd:(bo l i).dst with
       | none=>exact ⟨v,hv⟩
       | some d =>
         simp only;have e1:aV x.s (some d) v d=v:=by simp [aV]
         rw [e1];exact (fA (fun t ht=>by cases ht; exact hself d hd)).2 hv
      ·have hid:i∈done:=by
        rcases List.mem_append.1 hi with hi | hi
        ·exact hi
        ·simp only [List.mem_singleton] at hi; exact absurd hi hie
       have hil:i < l.length:=hE.lt i (by rw [h.split]; simp [hid]);refine rh hE hil hel hie (fun d hd hu=>?_) (fun v hv=>hv) (h.lag i hid hiL);rcases hE.anti i e hil hel hie d hd hu with h1 | ⟨h1,_⟩
       ·obtain ⟨a,b,hab⟩:=List.append_of_mem hid;have h2:=hE.lf (a:=a) (j:=i) (b:=b++e::rest++tail) (by rw [h.split,hab]; simp) e h1;exact hed (by rw [hab]; simp [h2])
       ·rw [heff] at h1; cases h1
theorem AL (hH:∀s∈S,∀(f:Nat) (L:List Nat) (y:St) (done rest:List Nat) (x:St),f+L.length=l.length→iW P l (nh D S s) (befs s) pre (Ks s) L y done rest x→gB P l (nh D S s) K f L y) :
 ∀(f:Nat) (L:List Nat) (y:St) (done rest:List Nat) (x:St),f+L.length=l.length→(∀s∈S,s∉L)→iW P l D bef pre (fun x=>∀s∈S,Ks s x) L y done rest x→gB P l D K f L y:=by
 have hE:=hF.e;obtain ⟨s0,hs0⟩:=hF.some;have hlt:∀s∈S,s < l.length:=fun s hs=>hE.lt s (by simp [hF.sub s hs]);have hpre:∀s∈S,s∉pre:=fun s hs hm=>(List.nodup_append.1 hE.nodup).2.2 s hm s (hF.sub s hs) rfl;intro f
 induction f with
 | zero =>
   intro L y done rest x hf hSL h;exact absurd ((rP l.length L h.nodup fun i hi=>hE.lt i (by rw [h.split]; simp [h.sub i hi])).2 (by omega) s0 (hlt s0 hs0)) (hSL s0 hs0)
 | succ f ih =>
   intro L y done rest x hf hSL h;obtain ⟨done,rest,x,h,hhead⟩:=iW.L8 hF h;have hnd:=(List.nodup_append.1 hE.nodup).1;rw [h.split] at hnd;have hdp:∀i∈done,i∈pre:=fun i hi=>by rw [h.split]; simp [hi]
   have hcl:∀m∈L,∀d∈D.getD m [],d∈L:=h.closed;have hclS:∀s,∀m∈L,∀d∈(nh D S s).getD m [],d∈L:=fun s m hm d hd=>by
    rw [xA (.inl fun hs=>hSL m hs hm)] at hd;exact h.closed m hm d hd
   have take:rest=[]→∀s∈S,gB P l (nh D S s) K (f+1) L y:=fun hr s hs=>by
    subst hr;have hdp':pre=done:=by rw [h.split]; simp
    refine hH s hs (f+1) L y done [] x hf ⟨by rw [hdp']; simp,h.sub,h.nodup,hclS s,fun i hi hie=>h.effs i hi (by rw [←hF.agree s hs i (hdp i hi)]; exact hie),h.store,h.slot,h.lag,?_⟩;exact h.go s hs
   have key:sD P l (gB P l D K f) L y (dv D L):=by
    refine nK fun i hi=>?_;have hi0:=hi;obtain ⟨hil,hiL,hdep⟩:=tw hi;rw [hE.dlen] at hil;by_cases hiS:i∈S
    ·have hm:i∈dv (nh D S i) L:=by
      unfold dv;refine List.mem_filter.2 ⟨by rw [xR,hE.dlen]; simpa using hil,?_⟩;rw [xA (.inr rfl)];exact (List.mem_filter.1 hi).2
     have hrest:rest=[]:=by
      cases hrr:rest with
      | nil=>rfl
      | cons a rr =>
        exfalso;have ha:=hhead a rr hrr;have hapre:a∈pre:=by rw [h.split,hrr]; simp
        have hb:a∈eA bef i:=hF.effs pre tail a i rfl hapre (hF.sub i hiS) hapre ha;obtain ⟨pa,pb,hpe⟩:=List.append_of_mem (hE.mem i hil);have haL:a∈L:=hE.closed hcl hE.mem (pa.length+1) pa i pb (by omega) hpe (fun d hd=>hdep d hd) a hb;rw [hrr] at hnd;exact (List.nodup_append.1 hnd).2.2 a (h.sub a haL) a (by simp) rfl
     have h1:=take hrest i hiS;unfold gB at h1;cases hr:dv (nh D S i) L with
     | nil=>rw [hr] at hm; cases hm
     | cons a r =>
       rw [hr] at h1 hm;obtain ⟨ins,g1,g2⟩:=mo h1 i hm;exact ⟨ins,g1,TC.mono (fun x hx=>tv f _ x (by simp) hx) g2⟩
    refine ⟨bo l i,by simp [bo,List.getElem?_eq_getElem hil],?_⟩;obtain ⟨pa,pb,hpe⟩:=List.append_of_mem (hE.mem i hil);have hbefL:∀j∈eA bef i,j∈L:=hE.closed hcl hE.mem (pa.length+1) pa i pb (by omega) hpe hdep;have huses:∀u∈(bo l i).j2,x.s u=y.s u:=fun u hu=>(h.slot u fun j hj hjL hd=>by
     have hjl:j < l.length:=hE.lt j (by simp [hdp j hj]);by_cases hji:j=i
     ·subst hji;cases hje:db l bef j with
      | true=>exact hjL (h.effs j hj hje)
      | false=>exact (gk hje hjl (hE.mf hjl)).2 u hd hu
     ·rcases hE.anti i j hil hjl (fun e=>hji e.symm) u hd hu with h1 | ⟨h1,_⟩
      ·exact hjL (hbefL j h1)
      ·exact hjL (h.effs j hj h1)).symm
    by_cases hid:i∈done
    ·have hie:db l bef i=false:=by
      cases hie:db l bef i with
      | false=>rfl
      | true=>exact absurd (h.effs i hid hie) hiL
     obtain ⟨hk,_⟩:=gk hie hil (hE.mf hil);have hq:=h.lag i hid hiL;obtain ⟨v,hv,hvd⟩:∃v,QY P (bo l i) x.s x.σ v∧∀d,(bo l i).dst=some d→x.s d=v:=by
      unfold QYd at hq;cases hd:(bo l i).dst with
      | none=>rw [hd] at hq; obtain ⟨v,hq⟩:=hq; exact ⟨v,hq,by simp⟩
      | some d=>rw [hd] at hq; exact ⟨_,hq,fun d' e=>by cases e; rfl⟩
     refine .inl ((bY (by simp [eT,hk])).2 ⟨v,?_,?_⟩)
     ·rw [h.store]; exact yD huses hv
     ·refine ih (i::L) _ done rest x (by simp only [List.length_cons]; omega) (fun s hs hm=>(List.mem_cons.1 hm).elim (fun e=>hiS (e ▸ hs)) (hSL s hs)) ⟨h.split,fun j hj=>?_,List.nodup_cons.2 ⟨hiL,h.nodup⟩,fun m hm d hd=>?_,fun j hj hje=>by simp [h.effs j hj hje],h.store,fun d hd=>?_,fun j hj hjL=>h.lag j hj (fun hm=>hjL (by simp [hm])),h.go⟩
      ·rcases List.mem_cons.1 hj with rfl | hj
       ·exact hid
       ·exact h.sub j hj
      ·rcases List.mem_cons.1 hm with rfl | hm
       ·simp [hdep d hd]
       ·simp [h.closed m hm d hd]
      ·simp only;by_cases hdi:(bo l i).dst=some d
       ·rw [hdi];simp only [aV];rw [if_pos trivial];exact (hvd d hdi).symm
       ·have h1:=h.slot d fun j hj hjL=>by
         by_cases hji:j=i
         ·rw [hji]; exact hdi
         ·exact hd j hj (by simp [hji,hjL])
        rw [←h1];cases hde:(bo l i).dst with
        | none=>rfl
        | some d' =>
          rw [hde] at hdi;simp only [aV];rw [if_neg (fun e'=>hdi (by rw [e']))]
    ·have hir:i∈rest++tail:=by
      have:=hE.mem i hil;rw [h.split,List.append_assoc] at this;exact (List.mem_append.1 this).resolve_left hid
     obtain ⟨hd0,rr,rfl⟩:∃a r,rest=a::r:=by
      cases rest with
      | nil =>
        exfalso;rw [List.nil_append] at hir;obtain ⟨s,hs,hsb⟩:=hF.later i hir hiS;exact hSL s hs (hbefL _ hsb)
      | cons a r=>exact ⟨a,r,rfl⟩
     have heff:=hhead hd0 rr rfl;have hh0:hd0∉done:=fun hm=>(List.nodup_append.1 hnd).2.2 hd0 hm hd0 (by simp) rfl;have hih:i=hd0:=by
      rcases List.mem_cons.1 (show i∈hd0::(rr++tail) from hir) with e | hir
      ·exact e
      ·exfalso;have:=hF.effs (done++[hd0]) (rr++tail) hd0 i (by rw [h.split]; simp) (by simp) hir (by rw [h.split]; simp) heff;exact hh0 (h.sub _ (hbefL _ this))
     subst hih;have hgo:=h.go;rw [show dR l bef done (i::rr)=2*i::(Cu l bef done i++dR l bef (done++[i]) rr) from rfl,BZ hil] at hgo;refine xY huses h.store.symm (fun r σ' hK=>?_) hgo;rw [Cu,if_pos heff] at hK;obtain ⟨hck,hgo'⟩:=ru (fun k=>!(db l bef k) && (!(jw (bo l k).op) && !((eA bef i).contains k))) (fun j hj=>hE.lt j (by simp [hdp j hj])) hK;refine ih (i::L) _ (done++[i]) rr ⟨aV x.s (bo l i).dst r,σ'⟩ (by simp only [List.length_cons]; omega) (fun s hs hm=>(List.mem_cons.1 hm).elim (fun e=>hiS (e ▸ hs)) (hSL s hs)) ⟨by rw [h.split]; simp,fun j hj=>?_,List.nodup_cons.2 ⟨hiL,h.nodup⟩,fun m hm d hd=>?_,fun j hj hje=>?_,rfl,fun d hd=>?_,fun j hj hjL=>?_,hgo'⟩
     ·rcases List.mem_cons.1 hj with rfl | hj
      ·simp
      ·simp [h.sub j hj]
     ·rcases List.mem_cons.1 hm with rfl | hm
      ·simp [hdep d hd]
      ·simp [h.closed m hm d hd]
     ·rcases List.mem_append.1 hj with hj | hj
      ·simp [h.effs j hj hje]
      ·simp only [List.mem_singleton] at hj; simp [hj]
     ·have h1:(bo l i).dst=some d∨y.s d=x.s d:=by
       by_cases hdi:(bo l i).dst=some d
       ·exact .inl hdi
       ·exact .inr (h.slot d fun j hj hjL=>hd j (by simp [hj]) (by
         simp only [List.mem_cons,not_or];exact ⟨fun e=>hid (e ▸ hj),hjL⟩))
      simp only;cases hde:(bo l i).dst with
      | none=>rw [hde] at h1; exact h1.resolve_left (by simp)
      | some d' =>
        simp only [aV];split
        ·rfl
        ·rename_i hne;rw [hde] at h1;exact h1.resolve_left (fun e=>hne (by cases e; rfl))
     ·have hjd:j∈done:=by
       rcases List.mem_append.1 hj with hj | hj
       ·exact hj
       ·simp only [List.mem_singleton] at hj; exact absurd (by simp [hj]) hjL
      have hjL':j∉L:=fun hm=>hjL (by simp [hm]);have hjl:j < l.length:=hE.lt j (by simp [hdp j hjd]);have hji:j≠i:=fun e=>hid (e ▸ hjd);have hje:db l bef j=false:=by
       cases hje:db l bef j with
       | false=>rfl
       | true=>exact absurd (h.effs j hjd hje) hjL'
      cases hsf:jw (bo l j).op with
      | true =>
        refine rh hE hjl hil hji (fun d hd hu=>?_) (fun v hv=>jl hsf hv) (h.lag j hjd hjL');rcases hE.anti j i hjl hil hji d hd hu with h1 | ⟨_,h1⟩
        ·obtain ⟨a,b,hab⟩:=List.append_of_mem hjd;have h2:=hE.lf (a:=a) (j:=j) (b:=b++i::rr++tail) (by rw [h.split,hab]; simp) i h1;exact hid (by rw [hab]; simp [h2])
        ·exact hjL' (hbefL j h1)
      | false =>
        refine hck j hjd ?_;simp only [hje,hsf,Bool.not_false,Bool.true_and,Bool.not_eq_true'];cases hc:(eA bef i).contains j with
        | false=>rfl
        | true=>exact absurd (hbefL j (List.contains_iff_mem.1 hc)) hjL'
   cases hr:dv D L with
   | cons a r=>unfold gB; rw [hr] at key ⊢; exact key
   | nil =>
     exfalso;have first:∀(a b:List Nat),pre++tail=a++b→(∀j∈a,j∈L)→(∃i∈b,i∉L)→∃a' e b',pre++tail=a'++e::b'∧(∀j∈a',j∈L)∧e∉L:=by
      intro a b
      induction b generalizing a with
      | nil=>rintro _ _ ⟨i,h,_⟩; cases h
      | cons e b ihb =>
        intro he ha hx;by_cases heL:e∈L
        ·refine ihb (a++[e]) (by rw [he]; simp) (fun j hj=>?_) ?_
         ·rcases List.mem_append.1 hj with hj | hj
          ·exact ha j hj
          ·simp only [List.mem_singleton] at hj; rw [hj]; exact heL
         ·obtain ⟨i,hi,hiL⟩:=hx;rcases List.mem_cons.1 hi with rfl | hi
          ·exact absurd heL hiL
          ·exact ⟨i,hi,hiL⟩
        ·exact ⟨a,e,b,he,ha,heL⟩
     obtain ⟨a,e,b,he,ha,heL⟩:=first [] (pre++tail) rfl (by simp) ⟨s0,by simp [hF.sub s0 hs0],hSL s0 hs0⟩
     have hel:e < l.length:=hE.lt e (by rw [he]; simp);have:e∈dv D L:=by
      unfold dv;refine List.mem_filter.2 ⟨by simp [hE.dlen,hel],?_⟩;simp only [Ba,Bool.not_eq_true',List.all_eq_true];exact ⟨by simpa using heL,fun d hd=>List.contains_iff_mem.2 (ha d (hE.ahead a e b he d hd))⟩
     rw [hr] at this;cases this
end
inductive PT where
 | leaf (bef:List (List Nat)) (r:List Nat)
 | fork (bef:List (List Nat)) (m:List Nat) (S:List Nat) (kids:List PT)
def PT.bef:PT→List (List Nat)
 | .leaf b _=>b
 | .fork b _ _ _=>b
def PT.ord:Nat→PT→List Nat
 | 0,_=>[]
 | f+1,t=>match t with
   | .leaf _ r=>r
   | .fork _ m _ kids=>m++(match kids with
     | k::_=>PT.ord f k
     | []=>[])
def BU (g:Nat→PT→Bool):List Nat→List PT→Bool
 | [],[]=>true
 | s::ss,t::ts=>g s t && BU g ss ts
 | _,_=>false
theorem tR {g:Nat→PT→Bool}:∀ {S:List Nat} {ts:List PT},BU g S ts=true→∀s∈S,∃t∈ts,g s t=true
 | [],[],_,s,hs=>by cases hs
 | a::S,t::ts,h,s,hs=>by
   simp only [BU,Ba] at h;rcases List.mem_cons.1 hs with rfl | hs
   ·exact ⟨t,by simp,h.1⟩
   ·obtain ⟨t',h1,h2⟩:=tR h.2 s hs;exact ⟨t',by simp [h1],h2⟩
def Ic (l:List aG) (D bef:List (List Nat)) (pre tail S:List Nat):Bool :=
 Hs l D bef (pre++tail) && (lK (fun a b=>!(pre.contains a) || (!(db l bef a) || (eA bef b).contains a)) (pre++tail) &&
 (S.all tail.contains && (!S.isEmpty && tail.all fun i=>S.contains i || S.any fun s=>(eA bef i).contains s)))
def FB (l:List aG):Nat→List (List Nat)→List Nat→PT→Bool
 | 0,_,_,_=>false
 | f+1,D,pre,t=>match t with
   | .leaf bef r=>eOk l D bef (pre++r)
   | .fork bef m S kids=>Ic l D bef (pre++m) (match kids with
      | k::_=>PT.ord f k
      | []=>[]) S && BU (fun s k=>((pre++m).all fun i=>db l k.bef i == db l bef i) && FB l f (nh D S s) (pre++m) k) S kids
def GT (P:Program) (l:List aG) (K:St→Prop):Nat→List Nat→PT→St→Prop
 | 0,_,_,_=>False
 | f+1,pre,t,x=>match t with
   | .leaf bef r=>RE P l K (dR l bef pre r) x
   | .fork bef m _ kids=>RE P l (fun x=>∀k∈kids,GT P l K f (pre++m) k x) (dR l bef pre m) x
theorem iW.more {l:List aG} {D bef:List (List Nat)} {pre m:List Nat} {K:St→Prop} {L:List Nat} {y:St} {done rest:List Nat} {x:St} (h:iW P l D bef pre (RE P l K (dR l bef pre m)) L y done rest x) :
 iW P l D bef (pre++m) K L y done (rest++m) x:=by
 refine ⟨by rw [h.split]; simp,h.sub,h.nodup,h.closed,h.effs,h.store,h.slot,h.lag,?_⟩;rw [mR,uR,←h.split];exact h.go
theorem iW.mono {l:List aG} {D bef:List (List Nat)} {pre:List Nat} {K K':St→Prop} (hk:∀x,K x→K' x) {L:List Nat} {y:St} {done rest:List Nat} {x:St} (h:iW P l D bef pre K L y done rest x) :
 iW P l D bef pre K' L y done rest x:=⟨h.split,h.sub,h.nodup,h.closed,h.effs,h.store,h.slot,h.lag,RE.mono hk h.go⟩
theorem Bc {l:List aG} {K:St→Prop}:∀(fu:Nat) (D:List (List Nat)) (pre:List Nat) (t:PT),FB l fu D pre t=true→∀(f:Nat) (L:List Nat) (y:St) (done rest:List Nat) (x:St),f+L.length=l.length →
 (∀i∈L,i∈pre)→iW P l D t.bef pre (GT P l K fu pre t) L y done rest x→gB P l D K f L y
 | 0,_,_,_,h,_,_,_,_,_,_,_,_,_=>by cases h
 | fu+1,D,pre,t,h,f,L,y,done,rest,x,hf,hLp,hl=>by
   cases t with
   | leaf bef r=>exact nR (zr h) f L y done (rest++r) x hf (iW.more hl)
   | fork bef m S kids =>
     simp only [FB,Ba] at h;obtain ⟨h1,h2⟩:=h;generalize (match kids with
      | k::_=>PT.ord fu k
      | []=>[])=tail at h1
     simp only [Ic,Ba] at h1;obtain ⟨g1,g2,g3,g4,g5⟩:=h1;have hk:=tR h2;have hW:=u4 g1;have hF:∀kid:Nat→PT,(∀s∈S,((pre++m).all fun i=>db l (kid s).bef i == db l bef i)=true)→FN l D bef (pre++m) tail S (fun s=>(kid s).bef):=fun kid hkid=>by
      refine ⟨hW,fun a b u v he hu hv hup hue=>?_,fun s hs=>by simpa using List.all_eq_true.1 g3 s hs,?_,fun i hi hiS=>?_,fun s hs i hi=>by simpa using List.all_eq_true.1 (hkid s hs) i hi⟩
      ·rw [he] at g2;have:=lP g2 hu hv;simp only [Bool.or_eq_true,Bool.not_eq_true',List.contains_iff_mem,hue,Bool.true_eq_false,false_or] at this;rcases this with h | h
       ·have hc:(pre++m).contains u=true:=List.contains_iff_mem.2 hup;rw [hc] at h; cases h
       ·exact h
      ·cases S with
       | nil=>simp at g4
       | cons s S=>exact ⟨s,by simp⟩
      ·have:=List.all_eq_true.1 g5 i hi;simp only [Bool.or_eq_true,List.contains_iff_mem,List.any_eq_true] at this;exact this.resolve_left hiS
     have hch:∀s,∃k:PT,s∈S→(k∈kids∧(((pre++m).all fun i=>db l k.bef i == db l bef i)=true∧FB l fu (nh D S s) (pre++m) k=true)):=fun s=>by
      by_cases hs:s∈S
      ·obtain ⟨k,h3,h4⟩:=hk s hs;simp only [Ba] at h4;exact ⟨k,fun _=>⟨h3,h4⟩⟩
      ·exact ⟨.leaf [] [],fun h=>absurd h hs⟩
     obtain ⟨kid,hkid⟩:=Classical.axiomOfChoice hch;have hFN:=hF kid fun s hs=>(hkid s hs).2.1;have hSpre:∀s∈S,s∉pre++m:=fun s hs hm=>(List.nodup_append.1 hW.nodup).2.2 s hm s (hFN.sub s hs) rfl;refine AL (Ks:=fun s=>GT P l K fu (pre++m) (kid s)) hFN (fun s hs f L y done rest x hf hl=>?_) f L y done (rest++m) x hf (fun s hs hm=>hSpre s hs (List.mem_append_left _ (hLp s hm))) ?_
     ·refine Bc fu _ _ _ (hkid s hs).2.2 f L y done rest x hf (fun i hi=>?_) hl;have:=hl.sub i hi;rw [hl.split]; simp [this]
     ·exact iW.mono (fun x hx s hs=>hx (kid s) (hkid s hs).1) (iW.more hl)
theorem ad.DW (hm:P.follows .mixedOrders=true) {l:List aG} {deps:List (List Nat)} (fu:Nat) (t:PT) (hB:FB l fu deps [] t=true) (h:GT P l (fun x=>ad P n k x Q) fu [] t st):ad P n (.code (.regA l deps)::k) st Q:=by
 refine ad.Ii hm (Bc fu deps [] t hB l.length [] st [] [] st (by simp) (by simp) ⟨rfl,by simp,List.nodup_nil,by simp,by simp,rfl,fun _ _=>rfl,by simp,?_⟩);exact h
variable {P:Program} {l:List aG} {K:St→Prop} {f:Nat} {pre m S r its:List Nat} {bef:List (List Nat)} {a b c:PT} {x:St}
theorem GT.ji (h:dR l bef pre r=its) (hg:RE P l K its x):GT P l K (f+1) pre (.leaf bef r) x:=by subst h; exact hg
theorem GT.qh (h:dR l bef pre m=its) (hg:RE P l (fun x=>GT P l K f (pre++m) a x∧GT P l K f (pre++m) b x) its x):GT P l K (f+1) pre (.fork bef m S [a,b]) x:=by
 subst h;refine RE.mono (fun x hx k hk=>?_) hg;simp only [List.mem_cons,List.not_mem_nil,or_false] at hk;rcases hk with rfl | rfl
 ·exact hx.1
 ·exact hx.2
theorem GT.LH (h:dR l bef pre m=its) (hg:RE P l (fun x=>GT P l K f (pre++m) a x∧GT P l K f (pre++m) b x∧GT P l K f (pre++m) c x) its x):GT P l K (f+1) pre (.fork bef m S [a,b,c]) x:=by
 subst h;refine RE.mono (fun x hx k hk=>?_) hg;simp only [List.mem_cons,List.not_mem_nil,or_false] at hk;rcases hk with rfl | rfl | rfl
 ·exact hx.1
 ·exact hx.2.1
 ·exact hx.2.2
open Go.Proofs Go.Proofs.Tryz
def nE (fs:List Flo) (y:Int):Int:=if (dN rQ fs).2 then max y (dN rQ fs).1 else y
def kf (fs:List Flo) (f:Flo) (y:Int) (s:Spn):Int:=nS fs f.w f.h s (nE fs y)
def nW (fs:List Flo) (f:Flo) (y:Int) (s:Spn):Int :=
 let b:=dC fs (kf fs f y s) f.h s
 if f.side=1 then b.a else max b.a (b.b - f.w)
def iu (fs:List Flo) (f:Flo) (y:Int) (s:Spn):Flo:={ f with x:=nW fs f y s,y:=kf fs f y s }
def qQ (fs:List Flo) (f:Flo) (y:Int) (s:Spn):List Flo:=fs++[iu fs f y s]
theorem GW {fs:List Flo} {y:Int} (hok:∀f∈fs,f.ok) (hy:Bq2 y):Bq2 (nE fs y):=by
 unfold nE;split
 ·rename_i h;obtain ⟨f,hf,h1,_⟩:=kI h;obtain ⟨_,⟨h3,h4⟩,_⟩:=hok f hf;obtain ⟨g1,g2⟩:=hy;rw [h1];simp only [rQ];exact ⟨by omega,by omega⟩
 ·exact hy
theorem JR (fs:List Flo) (f:Flo) (y:Int) (s:Spn) (hl:fs.length≤1000000) (hok:∀f∈fs,f.ok) (hy:Bq2 y) (hh:Bq f.h) (hw:Bq f.w) (hs1:Bq2 s.a∧Bq2 s.b) :
 aU prog 163 [aJ fs,aO f,vI y,aY s] (.tup [vI (nW fs f y s),vI (kf fs f y s)]):=fun σ=>by
 refine NN.r (by simp [K6]) ?_;have hs:=aa.refl σ;refine ad.mix 14 ?_;apply sR;simp only [go_sem,seval,K6,aO,aY];refine ae fun i5 σ5 s5 a5 f5=>?_;have z5:=hs.none f5;replace hs:=hs.trans s5;simp only [go_sem,seval,a5];refine ae fun i7 σ7 s7 a7 f7=>?_;have n57:=ao a5 f7;replace a5:=s7 _ _ a5;have z7:=hs.none f7;replace hs:=hs.trans s7;simp only [go_sem,seval,a7,a5];refine ad.ay rfl rfl rfl (Mh fs hl hok _) ?_;have hty:=GW (y:=y) hok hy;have hdn:=HV fs f (nE fs y) s hl hok hty hh hs1;have hbo:=lQ (y:=kf fs f y s) (high:=f.h) hok hs1;obtain ⟨z,hz⟩:∃z,z=kf fs f y s:=⟨_,rfl⟩
 have hz2:nS fs f.w f.h s (nE fs y)=z:=hz.symm;rw [hz2] at hdn;rw [←hz] at hbo;obtain ⟨b,hb⟩:∃b,b=dC fs z f.h s:=⟨_,rfl⟩
 have hx:nW fs f y s=if f.side=1 then b.a else max b.a (b.b - f.w):=by unfold nW; rw [←hz,←hb]
 rw [←hz,hx];rw [←hb] at hdn hbo;obtain ⟨hb1,hb2,hb3,hb4⟩:-2305843009213693952≤b.a∧b.a≤2305843009213693952∧-2305843009213693952≤b.b∧b.b≤2305843009213693952:=⟨hbo.1.1,hbo.1.2,hbo.2.1,hbo.2.2⟩
 obtain ⟨hw1,hw2⟩:=hw;cases ht:(dN rQ fs).2
 ·have hty2:nE fs y=y:=by unfold nE; rw [ht]; rfl
  rw [hty2] at hdn;apply sR;simp only [go_sem,seval,a7,a5,aQ,aS];refine ad.ay rfl rfl rfl (hdn _) ?_;apply sR;simp only [go_sem,seval,a7,a5,aY];refine ae fun i12 σ12 s12 a12 f12=>?_;have n512:=ao a5 f12;replace a5:=s12 _ _ a5;have n712:=ao a7 f12;replace a7:=s12 _ _ a7;have z12:=hs.none f12;replace hs:=hs.trans s12;by_cases hsd:f.side=1
  ·have q:(f.side=1)=True:=eq_true hsd;rw [if_pos hsd];simp only [go_sem,seval,a12,a7,a5,q,ab n512,ab n712];exact ar.pure (hs.aB z12) rfl
  ·have q:(f.side=1)=False:=eq_false hsd;rw [if_neg hsd];have r1:inR .i64 (b.b - f.w):=ak (by omega) (by omega);simp only [go_sem,seval,a12,a7,a5,q,r1,cL,ab n512,ab n712];exact ar.pure (hs.aB z12) rfl
 ·have hty2:nE fs y=max y (dN rQ fs).1:=by unfold nE; rw [ht]; rfl
  rw [hty2] at hdn;apply sR;simp only [go_sem,seval,a7,a5,aQ,aS,cL];refine ad.ay rfl rfl rfl (hdn _) ?_;apply sR;simp only [go_sem,seval,a7,a5,aY];refine ae fun i12 σ12 s12 a12 f12=>?_;have n512:=ao a5 f12;replace a5:=s12 _ _ a5;have n712:=ao a7 f12;replace a7:=s12 _ _ a7;have z12:=hs.none f12;replace hs:=hs.trans s12;by_cases hsd:f.side=1
  ·have q:(f.side=1)=True:=eq_true hsd;rw [if_pos hsd];simp only [go_sem,seval,a12,a7,a5,q,ab n512,ab n712];exact ar.pure (hs.aB z12) rfl
  ·have q:(f.side=1)=False:=eq_false hsd;rw [if_neg hsd];have r1:inR .i64 (b.b - f.w):=ak (by omega) (by omega);simp only [go_sem,seval,a12,a7,a5,q,r1,cL,ab n512,ab n712];exact ar.pure (hs.aB z12) rfl
open Go.Proofs Go.Proofs.Tryz
def cu (p:Int→Bool):List Int→Int
 | []=>-1
 | x::l=>if p x then 0 else if cu p l < 0 then -1 else cu p l+1
def nL (p:Int→Bool) (i:Nat) (l:List Int):Int:=if cu p l < 0 then -1 else cu p l+i
theorem gK (p:Int→Bool):∀l, -1≤cu p l
 | []=>by simp [cu]
 | x::l=>by
   have:=gK p l;simp only [cu];split
   ·omega
   ·split <;> omega
theorem Cp (p:Int→Bool) (l:List Int):cu p l=nL p 0 l:=by
 have:=gK p l;unfold nL;split <;> omega
theorem ly {σ:af} {sv:V} {l:List Int} {f:FuncId} {caps:List V} {p:Int→Bool} (hr:Reads σ 1 false sv (l.map vI)) (hl:l.length≤200000000000000)
 (hf:∀n∈l,az prog f (vI n::caps) σ fun r σ'=>r=.bool (p n)∧σ'=σ) :
 az prog 133 [sv, .fn f caps] σ fun r σ'=>r=vI (cu p l)∧σ'=σ:=by
 have hlen:dD false sv=some (vI (l.length:Int)):=by simpa using hr.1
 refine MO.r (by simp [KB]) ?_;apply sR;simp only [go_sem,seval,aH,aL,KB,hlen];refine ad.loop (fun m st=>∃i:Nat,i≤l.length∧m=l.length - i∧cu p l=nL p i (l.drop i)∧st.σ=σ∧st.s 0=sv∧st.s 1=.fn f caps∧st.s 7=vI l.length∧st.s 8=vI i) l.length ?_ ?_
 ·exact ⟨0,by omega,by omega,Cp p l,rfl,rfl,rfl,rfl,rfl⟩
 ·rintro m ⟨s,σ'⟩ ⟨i,hi,rfl,hp,hσ,h0,h1,h7,h8⟩;simp only at h0 h1 h7 h8 hσ;subst hσ;apply sR;simp only [go_sem,seval,aH,aL,h0,h1,h7,h8];constructor
  ·intro hlt;have hlt':i < l.length:=by omega
   have hd:l.drop i=l[i]::l.drop (i+1):=List.drop_eq_getElem_cons hlt';obtain ⟨pp,e1,e2⟩:=hr.2 i (vI l[i]) (by simp [hlt']);simp only [go_sem,seval,aH,aL,e1,e2,su];refine ad.ay rfl rfl rfl (hf l[i] (List.getElem_mem hlt')) ?_;apply sR;simp only [go_sem,seval,aH,aL,h0,h1,h7,h8];cases hpx:p l[i]
   ·simp only [go_sem,seval,aH,aL,h8];refine ⟨ak (by omega) (by omega),_,?_,i+1,by omega,rfl,?_,h0,h1,h7,?_⟩
    ·omega
    ·rw [hp,hd];simp only [nL,cu,hpx,Bool.false_eq_true,if_false];have:=gK p (l.drop (i+1))
     repeat' split
     all_goals omega
    ·simp
   ·simp only [go_sem,seval,aH,aL];refine ar.same ?_;rw [hp,hd];simp [nL,cu,hpx]
  ·intro hge;have:i=l.length:=by omega
   refine ar.same ?_;rw [hp,this,List.drop_length];rfl
open Go.Proofs Go.Proofs.Tryz
def Nd.ok (x:Nd):Bool :=
 if x.kind=1 then x.st.ok && decide (x.line=0) && decide (x.space=0) && decide (x.words.length=0) && decide (x.side=0) && decide (x.w=0) && decide (x.h=0)
 else if x.st≠Sty.zero then false
 else if x.kind=2 then x.words.all (bg · 1 mx) && decide (0 < x.words.length) && bg x.line 1 mx && bg x.space 0 mx && decide (x.side=0) && decide (x.w=0) && decide (x.h=0)
 else decide (x.line=0) && decide (x.space=0) && decide (x.words.length=0) && bg x.w 1 mx && bg x.h 1 mx &&
  (decide (x.kind=3) && decide (x.side=0) || decide (x.kind=4) && bg x.side 1 2)
theorem dS (l:List Int):dD false (bj l)=some (.int .i64 l.length):=by simp [bj,dD]
theorem rU (b:Bool):V.bool b=V.bool (decide (b=true)):=by cases b <;> rfl
open Go.Proofs Go.Proofs.Tryz
theorem lz {σ:af} {l:List Nd} {i:Nat} (h:i < l.length):bD σ 20 (aI l) (.int .i64 i)=some (.rp (.agg (Nd.cells l[i]))):=by
 simp [aI,bD,h,gN]
def bV (l:List Nd) (a e:Nat):Bool :=
 if _h:a < e then
  match l[a]? with
  | none=>false
  | some x=>if _hx:1≤x.size∧x.size≤(e:Int) - a then
     (decide (x.kind=1) || decide (x.size≤1)) && bV l (a+1) (a+x.size.toNat) && bV l (a+x.size.toNat) e else false
 else true
termination_by e - a
decreasing_by all_goals omega
open Go.Proofs Go.Proofs.Tryz
def dE (l:List Nd):Prop:=l.length≤10000∧∀x∈l,x.words.length≤200000000000000
def isB (l:List Nd):Bool:=l.all Nd.ok && bV l 0 l.length
theorem ue (σ:af) (x:Nd):bN σ true 20 (.rp (.agg x.cells))=some (gN x):=rfl
open Go.Proofs Go.Proofs.Tryz
theorem gP (l:List Nd):∀(m a e:Nat),e - a < m→e≤l.length→bV l a e=true→∀k,a≤k→(h:k < e)→(h2:k < l.length)→1≤l[k].size∧l[k].size≤(e:Int) - k∧(l[k].kind=1∨l[k].size≤1)
 | 0,_,_,h,_,_=>by omega
 | m+1,a,e,hm,he,hr=>by
   intro k hk hke h2;have hae:a < e:=by omega
   have ha:a < l.length:=by omega
   rw [bV,dif_pos hae] at hr;have hga:l[a]?=some l[a]:=by simp [ha]
   rw [hga] at hr;simp only at hr;split at hr
   ·rename_i hx;simp only [Ba,Bool.or_eq_true,decide_eq_true_eq] at hr;obtain ⟨⟨h3,h4⟩,h5⟩:=hr;by_cases hka:k=a
    ·subst hka; exact ⟨hx.1,hx.2,h3⟩
    ·by_cases hin:k < a+l[a].size.toNat
     ·obtain ⟨g1,g2,g3⟩:=gP l m (a+1) (a+l[a].size.toNat) (by omega) (by omega) h4 k (by omega) hin h2;exact ⟨g1,by omega,g3⟩
     ·exact gP l m (a+l[a].size.toNat) e (by omega) he h5 k (by omega) hke h2
   ·cases hr
structure Sm where
 (depth pieces nodes heights:Int)
deriving DecidableEq
def Sm.cells (s:Sm):List V:=[vI s.depth,vI s.pieces,vI s.nodes,vI s.heights]
def jq (a b:Int):Int:=min (a+b) 1099511627777
def gX (l:List Nd) (i:Nat):Nat→Int
 | 0=>0
 | k+1=>gX l i k+(match l[k]? with
   | some y=>if y.kind=1∧(i:Int) < k+y.size then 1 else 0
   | none=>0)
def Aw (a b:Int):Nat→Int
 | 0=>a
 | n+1=>jq (Aw a b n) b
def nA (l:List Nd) (i:Nat) (x:Nd) (s:Sm):Sm :=
 if x.kind=1 then { s with depth:=max s.depth (gX l i (i+1)),heights:=jq (jq (jq (jq (jq s.heights x.st.top) x.st.bottom) x.st.padTop) x.st.padBottom) x.st.head }
 else if x.kind=2 then { s with pieces:=s.pieces+x.words.length,heights:=Aw s.heights x.line x.words.length }
 else { s with pieces:=s.pieces+1,heights:=jq s.heights x.h }
def gj (l:List Nd) (s:Sm):Nat→Sm
 | 0=>s
 | i+1=>match l[i]? with
   | some x=>nA l i x (gj l s i)
   | none=>gj l s i
def ig (l:List Nd):Sm×Int:=if isB l then (gj l ⟨0,0,l.length,0⟩ l.length,0) else (⟨0,0,0,0⟩,4)
theorem fD {a b:Int} (h1:0≤a∧a≤1099511627777) (h2:0≤b):0≤jq a b∧jq a b≤1099511627777:=by
 unfold jq; omega
theorem B2 {a b:Int} (h1:0≤a∧a≤1099511627777) (h2:0≤b):∀n,0≤Aw a b n∧Aw a b n≤1099511627777
 | 0=>h1
 | n+1=>fD (B2 h1 h2 n) h2
theorem rL (l:List Nd) (i:Nat):∀k,0≤gX l i k∧gX l i k≤k
 | 0=>by simp [gX]
 | k+1=>by
   have:=rL l i k;simp only [gX];split
   ·split <;> omega
   ·omega
theorem jb {x:Nd} (h:x.ok=true):(x.kind=1∨x.kind=2∨x.kind=3∨x.kind=4)∧0≤x.line∧x.line≤mx∧0≤x.h∧x.h≤mx ∧
 (x.kind=1→(0≤x.st.top∧x.st.top≤mx)∧(0≤x.st.bottom∧x.st.bottom≤mx)∧(0≤x.st.padTop∧x.st.padTop≤mx)∧(0≤x.st.padBottom∧x.st.padBottom≤mx)∧(0≤x.st.head∧x.st.head≤mx)):=by
 unfold Nd.ok at h;split at h
 ·rename_i hk;simp only [Sty.ok,bg,Ba,decide_eq_true_eq] at h ⊢; simp only [mx] at h ⊢;refine ⟨.inl hk,by omega,by omega,by omega,by omega,fun _=>?_⟩;omega
 ·split at h
  ·cases h
  ·split at h
   ·rename_i h1 _ hk;simp only [bg,Ba,decide_eq_true_eq] at h ⊢; simp only [mx] at h ⊢;exact ⟨.inr (.inl hk),by omega,by omega,by omega,by omega,fun e=>absurd e h1⟩
   ·rename_i h1 _ _;simp only [bg,Ba,Bool.or_eq_true,decide_eq_true_eq] at h ⊢; simp only [mx] at h ⊢;exact ⟨by omega,by omega,by omega,by omega,by omega,fun e=>absurd e h1⟩
def Sm.rC (s:Sm) (k:Int):Prop:=(0≤s.depth∧s.depth≤k)∧(0≤s.pieces∧s.pieces≤k*200000000000000)∧(0≤s.heights∧s.heights≤1099511627777)
theorem CJ {l:List Nd} {i:Nat} {x:Nd} {s:Sm} (hx:x.ok=true) (hw:x.words.length≤200000000000000) (h:s.rC i):(nA l i x s).rC (i+1):=by
 obtain ⟨h1,h2,h3⟩:=h;obtain ⟨g1,g2,g3,g4,g5,g6⟩:=jb hx;unfold nA;split
 ·rename_i hk;obtain ⟨a1,a2,a3,a4,a5⟩:=g6 hk;have hd:=rL l i (i+1);refine ⟨?_,?_,fD (fD (fD (fD (fD h3 a1.1) a2.1) a3.1) a4.1) a5.1⟩
  ·simp only; omega
  ·simp only; omega
 ·split
  ·refine ⟨?_,?_,B2 h3 g2 _⟩
   ·simp only; omega
   ·simp only; omega
  ·refine ⟨?_,?_,fD h3 g4⟩
   ·simp only; omega
   ·simp only; omega
open Go.Proofs Go.Proofs.Tryz
def Sm.zero:Sm:=⟨0,0,0,0⟩
open Go.Proofs Go.Proofs.Tryz
theorem tF (p:Int→Bool):∀l,decide (cu p l≥0)=l.any p
 | []=>by simp [cu]
 | x::l=>by
   have ih:=tF p l;simp only [cu,List.any_cons];have hg:=gK p l;rw [←ih,Bool.eq_iff_iff];simp only [decide_eq_true_eq,Bool.or_eq_true];split
   ·rename_i h; simp [h]
   ·rename_i h;simp only [h,Bool.false_eq_true,false_or];by_cases hx:cu p l < 0
    ·rw [if_pos hx]; constructor <;> intro hh <;> simp at hh ⊢ <;> omega
    ·rw [if_neg hx]; constructor <;> intro hh <;> simp at hh ⊢ <;> omega
theorem lq {σ:af} {sv:V} {l:List Int} {f:FuncId} {caps:List V} {p:Int→Bool} (hr:Reads σ 1 false sv (l.map vI)) (hl:l.length≤200000000000000)
 (hf:∀n∈l,az prog f (vI n::caps) σ fun r σ'=>r=.bool (p n)∧σ'=σ) :
 az prog 172 [sv, .fn f caps] σ fun r σ'=>r=.bool (l.any p)∧σ'=σ:=by
 refine OD.r (by simp [Ll]) ?_;apply sR;simp only [go_sem,seval,aH,aL,Ll];refine ad.ay rfl rfl rfl (ly hr hl hf) ?_;apply sR;simp only [go_sem,seval,aH,aL];refine ar.same ?_;rw [←tF]
theorem Kw {σ:af} {id:Nat} {a b:Int} (h:σ id=some ⟨230,2,[.agg [vI a,vI b]]⟩) (n:Int) :
 az prog 175 [vI n, .ptr id 0 0] σ fun r σ'=>r=.bool (!bg n a b)∧σ'=σ:=by
 refine M0.r (by simp [Jb]) ?_;apply sR;simp only [go_sem,seval,aH,aL,Jb,h];refine And.intro (fun h=>?_) (fun h=>?_)
 ·refine ar.same ?_;congr 1;simp only [bg];rw [←decide_not,decide_eq_decide];omega
 ·refine ar.same ?_;have:¬(n≥a∧n≤b):=by omega
  simp only [bg,this,decide_false,Bool.not_false]
theorem Reads.mono {σ σ':af} {sz:Nat} {agg:Bool} {sv:V} {rows:List V} (h:aa σ σ') (hr:Reads σ sz agg sv rows):Reads σ' sz agg sv rows:=by
 refine ⟨hr.1,fun i v hv=>?_⟩;obtain ⟨p,h1,h2⟩:=hr.2 i v hv;refine ⟨p,?_,?_⟩
 ·cases sv <;> simp only [bD,reduceCtorEq] at h1 ⊢
  ·exact h1
  ·rename_i id off len;cases ho:σ id with
   | none=>rw [ho] at h1; cases h1
   | some ob=>rw [ho] at h1; rw [h id ob ho]; exact h1
 ·cases p <;> simp only [bN,reduceCtorEq] at h2 ⊢
  ·rename_i id i k;cases ho:σ id with
   | none=>rw [ho] at h2; cases h2
   | some ob=>rw [ho] at h2; rw [h id ob ho]; exact h2
  ·exact h2
theorem Iz {σ:af} {sv:V} {l:List Int} {a b:Int} (hr:Reads σ 1 false sv (l.map vI)) (hl:l.length≤200000000000000) :
 az prog 132 [.agg [vI a,vI b],sv] σ fun r σ'=>r=.bool (l.all fun n=>bg n a b)∧σ'=σ:=by
 refine NI.r (by simp [Lt]) ?_;apply sR;simp only [go_sem,seval,aH,aL,Lt];intro id hid;refine ad.ay rfl rfl rfl (lq (p:=fun n=>!bg n a b) (hr.mono ((aa.refl σ).upd hid)) hl (fun n _=>Kw ag n)) ?_;apply sR;simp only [go_sem,seval,aH,aL];refine ar.pure ((aa.refl σ).upd hid) ?_;rw [List.all_eq_not_any_not]
open Go.Proofs Go.Proofs.Tryz
def fm:List V→Option (List Int)
 | []=>some []
 | .int .i64 n::l=>(fm l).map (n::·)
 | _=>none
theorem ki:∀ {l:List V} {m:List Int},fm l=some m→l=m.map vI
 | [],m,h=>by simp [fm] at h; subst h; rfl
 | v::l,m,h=>by
   cases v <;> try (simp [fm] at h)
   rename_i k n;cases k <;> try (simp [fm] at h)
   obtain ⟨m',h1,rfl⟩:=h;rw [ki h1]; rfl
theorem tM (m:List Int):fm (m.map vI)=some m:=by
 induction m with
 | nil=>rfl
 | cons n m ih=>simp [fm,ih]
def eM (σ:af):V→Option (List Int)
 | .own id off len=>match σ id with
    | some ob=>if ob.sz=1∧off+len≤ob.rows.length∧len≤200000000000000 then (if (fm ob.rows).isSome then fm ((ob.rows.drop off).take len) else none) else none
    | none=>none
 | .sl 1 rows=>if rows.length≤200000000000000 then fm rows else none
 | _=>none
theorem lO {σ:af} {sv:V} {l:List Int} (h:eM σ sv=some l):Reads σ 1 false sv (l.map vI)∧l.length≤200000000000000:=by
 unfold eM at h;split at h
 ·rename_i id off len;split at h
  ·rename_i ob hob;split at h
   ·rename_i hc;split at h
    ·rename_i hi;have he:=ki h;obtain ⟨m,hm⟩:=Option.isSome_iff_exists.1 hi;have hm:=ki hm;have hr:=Reads.own (σ:=σ) hob hc.1 hc.2.1 (fun r hr=>by rw [hm] at hr; simp only [List.mem_map] at hr; obtain ⟨n,_,rfl⟩:=hr; rfl);rw [he] at hr;have hl:l.length=len:=by
      have:=congrArg List.length he;simp at this;omega
     exact ⟨hr,by omega⟩
    ·cases h
   ·cases h
  ·cases h
 ·rename_i rows;split at h
  ·rename_i hc;have he:=ki h;subst he;exact ⟨Reads.ints,by simpa using hc⟩
  ·cases h
 ·cases h
theorem mL {σ σ':af} (hs:aa σ σ') {sv:V} {l:List Int} (h:eM σ sv=some l):eM σ' sv=some l:=by
 unfold eM at h ⊢;split at h
 ·split at h
  ·rename_i ob hob;simp only [hs _ _ hob];exact h
  ·cases h
 ·exact h
 ·cases h
theorem mU (σ:af) {l:List Int} (h:l.length≤200000000000000):eM σ (bj l)=some l:=by
 simp only [bj,eM,List.length_map,if_pos h];exact tM l
def o10 (f:FuncId) (args:List V) (σ:af):Option V:=if f=132 then (match args with
 | [.agg [.int .i64 a, .int .i64 b],sv]=>(eM σ sv).map fun l=>.bool (l.all fun n=>bg n a b)
 | _=>none) else none
def O10:Orc prog where
 get:=o10
 up f args σ σ' v hs h:=by
  unfold o10 at h ⊢;split at h
  ·rename_i hf;rw [if_pos hf];split at h
   ·simp only [Option.map_eq_some_iff] at h ⊢;obtain ⟨l,h1,h2⟩:=h;exact ⟨l,mL hs h1,h2⟩
   ·cases h
  ·cases h
 ok f args σ v h:=by
  unfold o10 at h;split at h
  ·rename_i hf;subst hf;split at h
   ·simp only [Option.map_eq_some_iff] at h;obtain ⟨l,h1,rfl⟩:=h;obtain ⟨g1,g2⟩:=lO h1;exact Iz g1 g2
   ·cases h
  ·cases h
theorem tE (a b:Int) (sv:V) (σ:af):O10.get 132 [.agg [.int .i64 a, .int .i64 b],sv] σ=(eM σ sv).map fun l=>.bool (l.all fun n=>bg n a b):=rfl
theorem cA (σ:af) (id off len:Nat):eM σ (.own id off len)=match σ id with
 | some ob=>if ob.sz=1∧off+len≤ob.rows.length∧len≤200000000000000 then (if (fm ob.rows).isSome then fm ((ob.rows.drop off).take len) else none) else none
 | none=>none:=rfl
theorem dK (n:Int) (l:List V):fm (.int .i64 n::l)=(fm l).map (n::·):=rfl
theorem dI:fm []=some []:=rfl
theorem EI (s:Sty):aU prog 131 [.agg s.cells] (.bool s.ok):=fun σ=>by
 refine OC.r (by simp [Jz]) ?_;refine ad.mix 6 ?_
 (refine ad.bG O10 300 ?_; simp only [go_sem,seval,Jz,Sty.cells])
 refine ae fun id1 σ1 s1 a1 f1=>?_;simp only [go_sem,seval];refine ae fun id3 σ2 s2 a3 f3=>?_;have n13:=ao a1 f3;have a1:=s2 _ _ a1;simp only [go_sem,seval,a1];refine ae fun id4 σ3 s3 a4 f4=>?_;have n14:=ao a1 f4;have n34:=ao a3 f4;have a1:=s3 _ _ a1;have a3:=s3 _ _ a3;have hs:aa σ σ3:=(s1.trans s2).trans s3;have g3:σ id3=none:=s1.none f3;have g4:σ id4=none:=(s1.trans s2).none f4;simp only [go_sem,seval,a1,a3,a4,ab n34,ab n34.symm,ab n13,ab n14];have hs':=fun o o'=>(hs.aB (o:=o) g3).aB (o:=o') g4;refine ae fun id5 σ4 s4 a5 f5=>?_;have a1:=s4 id1 _ (by rw [ab n14,ab n13]; exact a1);have a4:=s4 id4 _ ag;have hs:=(hs' _ _).trans s4;simp only [go_sem,seval,a1,a4,a5,tE,cA,dK,dI,bg,←Bool.decide_and];refine And.intro (fun p0=>?_) (fun p0=>ar.pure hs (by rw [V.bool.injEq]; symm; rw [Bool.eq_false_iff]; intro h; simp [Sty.ok,bg,mx] at h; omega));refine ae fun id6 σ5 s5 a6 f6=>?_;have a1:=s5 _ _ a1;have hs:=hs.trans s5;simp only [go_sem,seval,a1,a6,tE,cA,dK,dI,bg,←Bool.decide_and];refine And.intro (fun p1=>?_) (fun p1=>ar.pure hs (by rw [V.bool.injEq]; symm; rw [Bool.eq_false_iff]; intro h; simp [Sty.ok,bg,mx] at h; omega));refine ae fun id7 σ6 s6 a7 f7=>?_;have a1:=s6 _ _ a1;have hs:=hs.trans s6;simp only [go_sem,seval,a1,a7,tE,cA,dK,dI,bg,←Bool.decide_and];refine And.intro (fun p2=>?_) (fun p2=>ar.pure hs (by rw [V.bool.injEq]; symm; rw [Bool.eq_false_iff]; intro h; simp [Sty.ok,bg,mx] at h; omega));refine ae fun id8 σ7 s7 a8 f8=>?_;have a1:=s7 _ _ a1;have hs:=hs.trans s7;simp only [go_sem,seval,a1,a8,tE,cA,dK,dI,bg,←Bool.decide_and];refine And.intro (fun p3=>?_) (fun p3=>ar.pure hs (by rw [V.bool.injEq]; symm; rw [Bool.eq_false_iff]; intro h; simp [Sty.ok,bg,mx] at h; omega));refine ae fun id9 σ8 s8 a9 f9=>?_;have a1:=s8 _ _ a1;have hs:=hs.trans s8;simp only [go_sem,seval,a1,a9,tE,cA,dK,dI,bg,←Bool.decide_and];refine ar.pure hs ?_;rw [V.bool.injEq,Bool.eq_iff_iff];simp [Sty.ok,bg,mx];omega
open Go.Proofs Go.Proofs.Tryz
def eU (l:List Nd):Int:=if isB l then (if (ig l).1.depth > 16∨(ig l).1.pieces > 2000∨(ig l).1.nodes > 2000∨(ig l).1.heights > 1099511627776 then 2 else 0) else 4
open Go.Proofs Go.Proofs.Tryz
def o12 (f:FuncId) (args:List V) (σ:af):Option V:=if f=132 then (match args with
 | [.agg [.int .i64 a, .int .i64 b],sv]=>(eM σ sv).map fun l=>.bool (l.all fun n=>bg n a b)
 | _=>none) else if f=131 then (match args with
 | [.agg [.int .i64 a, .int .i64 b, .int .i64 c, .int .i64 d, .int .i64 e, .int .i64 f, .int .i64 g, .int .i64 h, .int .i64 i, .int .i64 j, .int .i64 k, .int .i64 l]]=>some (.bool (Sty.ok ⟨a,b,c,d,e,f,g,h,i,j,k,l⟩))
 | _=>none) else none
def O12:Orc prog where
 get:=o12
 up f args σ σ' v hs h:=by
  unfold o12 at h ⊢;split at h
  ·rename_i hf;rw [if_pos hf];split at h
   ·simp only [Option.map_eq_some_iff] at h ⊢;obtain ⟨l,h1,h2⟩:=h;exact ⟨l,mL hs h1,h2⟩
   ·cases h
  ·rename_i hf;rw [if_neg hf];exact h
 ok f args σ v h:=by
  unfold o12 at h;split at h
  ·rename_i hf;subst hf;split at h
   ·simp only [Option.map_eq_some_iff] at h;obtain ⟨l,h1,rfl⟩:=h;obtain ⟨g1,g2⟩:=lO h1;exact Iz g1 g2
   ·cases h
  ·split at h
   ·rename_i hf;subst hf;split at h
    ·simp only [Oi] at h;subst h;exact EI ⟨_,_,_,_,_,_,_,_,_,_,_,_⟩ σ
    ·cases h
   ·cases h
theorem oV (a b:Int) (sv:V) (σ:af):O12.get 132 [.agg [.int .i64 a, .int .i64 b],sv] σ=(eM σ sv).map fun l=>.bool (l.all fun n=>bg n a b):=rfl
theorem pz (a b c d e f g h i j k l:Int) (σ:af):O12.get 131 [.agg [.int .i64 a, .int .i64 b, .int .i64 c, .int .i64 d, .int .i64 e, .int .i64 f, .int .i64 g, .int .i64 h, .int .i64 i, .int .i64 j, .int .i64 k, .int .i64 l]] σ =
 some (.bool (Sty.ok ⟨a,b,c,d,e,f,g,h,i,j,k,l⟩)):=rfl
theorem iR (s:Sty):(decide (s.top=0) && (decide (s.bottom=0) && (decide (s.padTop=0) && (decide (s.padBottom=0) && (decide (s.inset=0) && (decide (s.orphans=0) && (decide (s.widows=0) && (decide (s.head=0) &&
 (decide (s.before=0) && (decide (s.after=0) && (decide (s.inside=0) && decide (s.clear=0))))))))))))=decide (s=Sty.zero):=by
 rw [Bool.eq_iff_iff];cases s;simp [Sty.zero]
theorem G2 (x:Nd) (hl:x.words.length≤200000000000000) (k4:x.kind=4):aU prog 90 [gN x] (.bool x.ok):=fun σ=>by
 refine e90.r (by simp [c90]) ?_;refine ad.mix 6 ?_
 (refine ad.bG O12 300 ?_; simp only [go_sem,seval,c90,gN,Nd.cells])
 refine ae fun id1 σ1 s1 a1 f1=>?_;simp only [go_sem,seval,a1];refine ae fun id3 σ2 s2 a3 f3=>?_;have n13:=ao a1 f3;have a1:=s2 _ _ a1;have hs:=(s1.trans s2).aB (s1.none f3) (o:=⟨230,2,[.agg [vI 1,vI 1099511627776]]⟩);have hok3:x.ok=(decide (x.st=Sty.zero) && (decide (x.line=0) && decide (x.space=0) && decide (x.words.length=0) && bg x.w 1 mx && bg x.h 1 mx && bg x.side 1 2)):=by
  by_cases hst:x.st=Sty.zero <;> simp [Nd.ok,k4,hst]
 simp only [go_sem,seval,a1,a3,ab n13,iR,dS,k4,pz,uq,ag];refine And.intro (fun e1=>And.intro (fun e2=>And.intro (fun z=>And.intro (fun w=>?_) (fun w=>?_)) (fun z=>?_)) (fun e2=>?_)) (fun e1=>?_)
 ·refine ae fun id4 σ3 s3 a4 f4=>?_;have a1:=s3 id1 _ (by rw [ab n13]; exact a1);have a3:=s3 id3 _ ag;have hs:=hs.trans s3;simp only [go_sem,seval,a1,a3,a4,oV,cA,dK,dI,bg,List.all_cons,List.all_nil,←Bool.decide_and];refine And.intro (fun q1=>?_) (fun q1=>ar.pure hs ?_)
  ·refine ae fun id5 σ4 s4 a5 f5=>?_;have a1:=s4 _ _ a1;have hs:=hs.trans s4;simp only [go_sem,seval,a1,a5,oV,cA,dK,dI,bg,List.all_cons,List.all_nil,←Bool.decide_and];refine ar.pure hs ?_;rw [V.bool.injEq,hok3,Bool.eq_iff_iff];simp only [bg,mx];simp at w;simp [e1,e2,z,w];omega
  ·rw [V.bool.injEq,hok3,Bool.eq_iff_iff];simp only [bg,mx];simp [e1,e2,z];omega
 all_goals (repeat' (first
  | with_reducible refine And.intro (fun h=>?_) (fun h=>?_)
  | with_reducible refine ar.pure hs ?_))
 all_goals (rw [V.bool.injEq,hok3,Bool.eq_iff_iff]; simp_all)
theorem Kg (x:Nd) (hl:x.words.length≤200000000000000):aU prog 90 [gN x] (.bool x.ok):=fun σ=>by
 by_cases k4:x.kind=4
 ·exact G2 x hl k4 σ
 refine e90.r (by simp [c90]) ?_;refine ad.mix 6 ?_
 (refine ad.bG O12 300 ?_; simp only [go_sem,seval,c90,gN,Nd.cells])
 refine ae fun id1 σ1 s1 a1 f1=>?_;simp only [go_sem,seval,a1];refine ae fun id3 σ2 s2 a3 f3=>?_;have n13:=ao a1 f3;have a1:=s2 _ _ a1;have hs:=(s1.trans s2).aB (s1.none f3) (o:=⟨230,2,[.agg [vI 1,vI 1099511627776]]⟩);have hz:(x.kind=1→x.ok=(x.st.ok && decide (x.line=0) && decide (x.space=0) && decide (x.words.length=0) && decide (x.side=0) && decide (x.w=0) && decide (x.h=0))):=fun h=>by simp [Nd.ok,h]
 have hwl:x.words.length≤200000000000000:=by omega
 by_cases k1:x.kind=1
 ·simp only [go_sem,seval,a1,a3,ab n13,iR,dS,k1,pz,uq];rw [hz k1]
  repeat' (first
   | with_reducible refine And.intro (fun h=>?_) (fun h=>?_)
   | with_reducible refine ar.pure hs ?_)
  all_goals (rw [V.bool.injEq,Bool.eq_iff_iff]; simp_all)
 ·by_cases k2:x.kind=2
  ·by_cases e1:x.line=0
   ·have hok0:x.ok=false:=by
     by_cases hst:x.st=Sty.zero <;> simp [Nd.ok,k2,hst,e1,bg]
    rw [hok0];simp only [go_sem,seval,a1,a3,ab n13,iR,dS,k1,k2,e1,pz,uq,ag]
    repeat' (first
     | with_reducible refine And.intro (fun h=>?_) (fun h=>?_)
     | with_reducible refine ar.pure hs rfl
     | (refine ae fun id4 σ3 s3 a4 f4=>?_
        have a1:=s3 id1 _ (by rw [ab n13]; exact a1);have a3:=s3 id3 _ ag;simp only [go_sem,seval,a1,a3,a4,oV,cA,dK,dI,bg,List.all_cons,List.all_nil,false_and];exact ar.pure (hs.trans s3) rfl))
   ·simp only [go_sem,seval,a1,a3,ab n13,iR,dS,k1,k2,e1,pz,uq,ag];have hok2:x.ok=(decide (x.st=Sty.zero) && (x.words.all (bg · 1 mx) && decide (0 < x.words.length) && bg x.line 1 mx && bg x.space 0 mx && decide (x.side=0) && decide (x.w=0) && decide (x.h=0))):=by
     by_cases hst:x.st=Sty.zero <;> simp [Nd.ok,k2,hst]
    refine And.intro (fun z=>?_) (fun z=>ar.pure hs (by rw [hok2]; simp_all));refine And.intro (fun w1=>?_) (fun w1=>ar.pure hs (by rw [hok2]; simp [w1]));refine And.intro (fun w2=>?_) (fun w2=>ar.pure hs (by rw [hok2]; simp [w2]));refine And.intro (fun w3=>?_) (fun w3=>ar.pure hs (by rw [hok2]; simp [w3]));refine ae fun id4 σ3 s3 a4 f4=>?_;have a1:=s3 id1 _ (by rw [ab n13]; exact a1);have a3:=s3 id3 _ ag;have hs:=hs.trans s3;simp only [go_sem,seval,a1,a3,a4,oV,cA,dK,dI,mU _ hwl,uq,rU (List.all _ _)];refine And.intro (fun q1=>?_) (fun q1=>ar.pure hs (by rw [hok2]; simp [mx] at q1 ⊢; simp [q1]));refine And.intro (fun q2=>?_) (fun q2=>ar.pure hs (by rw [hok2]; simp only [mx,q2]; simp));refine ae fun id5 σ4 s4 a5 f5=>?_;have a1:=s4 _ _ a1;have hs:=hs.trans s4;simp only [go_sem,seval,a1,a5,oV,cA,dK,dI,mU _ hwl,uq,dS,rU (List.all _ _)];refine And.intro (fun q3=>?_) (fun q3=>ar.pure hs (by rw [hok2]; simp [mx] at q3 ⊢; simp [q3]));refine ar.pure hs ?_;rw [hok2];simp only [mx,q1,q2,q3,z,w1,w2,w3];simp
  ·have hok3:x.ok=(decide (x.st=Sty.zero) && (decide (x.line=0) && decide (x.space=0) && decide (x.words.length=0) && bg x.w 1 mx && bg x.h 1 mx &&
    (decide (x.kind=3) && decide (x.side=0) || decide (x.kind=4) && bg x.side 1 2))):=by
    by_cases hst:x.st=Sty.zero <;> simp [Nd.ok,k1,k2,hst]
   by_cases k3:x.kind=3
   ·simp only [go_sem,seval,a1,a3,ab n13,iR,dS,k1,k2,k3,pz,uq,ag]
    repeat' (first
     | with_reducible refine And.intro (fun h=>?_) (fun h=>?_)
     | with_reducible refine ar.pure hs ?_
     | (refine ae fun id4 σ3 s3 a4 f4=>?_
        have a1:=s3 id1 _ (by rw [ab n13]; exact a1);have a3:=s3 id3 _ ag;simp only [go_sem,seval,a1,a3,a4,oV,cA,dK,dI,bg,List.all_cons,List.all_nil,←Bool.decide_and];refine ar.pure (hs.trans s3) ?_))
    all_goals (rw [V.bool.injEq,hok3,Bool.eq_iff_iff]; simp_all [bg,mx] <;> omega)
   ·simp only [go_sem,seval,a1,a3,ab n13,iR,dS,k1,k2,k3,k4,pz,uq,ag]
    repeat' (first
     | with_reducible refine And.intro (fun h=>?_) (fun h=>?_)
     | with_reducible refine ar.pure hs ?_)
    all_goals (rw [V.bool.injEq,hok3]; simp [k3,k4])
open Go.Proofs Go.Proofs.Tryz
def qK (i:Nat):List Int→List Int
 | a::b::s=>if a=i then qK i (b::s) else a::b::s
 | s=>s
def isS:List Nd→Nat→List Int→Bool
 | [],_,_=>true
 | x::r,i,stk=>match qK i stk with
   | []=>false
   | a::s=>if x.ok=true∧1≤x.size∧x.size≤a - i∧(x.kind=1∨x.size≤1) then isS r (i+1) ((i+x.size)::a::s) else false
def Asc (n:Nat):Nat→List Int→Prop
 | lo,[]=>lo=n
 | lo,a::s=>(lo:Int)≤a∧Asc n a.toNat s
def jM (l:List Nd):Nat→List Int→Bool
 | _,[]=>true
 | lo,a::s=>bV l lo a.toNat && jM l a.toNat s
theorem CX (l:List Nd) (a:Nat):bV l a a=true:=by rw [bV,dif_neg (Nat.lt_irrefl a)]
theorem tp (l:List Nd) (n i:Nat) (hi:i < n):∀stk,Asc n i stk→∃a s,qK i stk=a::s∧(i:Int) < a∧Asc n i (a::s)∧jM l i (a::s)=jM l i stk
 | [],h=>by simp only [Asc] at h; omega
 | [a],h=>by
   have h':=h;simp only [Asc] at h';exact ⟨a,[],rfl,by omega,h,rfl⟩
 | a::b::s,h=>by
   by_cases ha:a=i
   ·have h':=h.2;rw [ha,Int.toNat_natCast] at h';obtain ⟨c,t,g1,g2,g3,g4⟩:=tp l n i hi (b::s) h';refine ⟨c,t,by simp [qK,ha,g1],g2,g3,?_⟩;rw [g4];show _=(bV l i a.toNat && jM l a.toNat (b::s));rw [ha,Int.toNat_natCast,CX,Bool.true_and]
   ·have h':=h.1;exact ⟨a,b::s,by simp [qK,ha],by omega,h,rfl⟩
theorem BM (l:List Nd):∀(r:List Nd) (i:Nat) (stk:List Int),l.drop i=r→Asc l.length i stk→isS r i stk=(r.all Nd.ok && jM l i stk)
 | [],i,stk,hr,hs=>by
   have hi:l.length≤i:=by simpa using hr
   have key:∀(stk:List Int) (lo:Nat),l.length≤lo→Asc l.length lo stk→jM l lo stk=true:=by
    intro stk
    induction stk with
    | nil=>intro _ _ _; rfl
    | cons a s ih =>
      intro lo hlo h;have h1:=h.1;simp only [jM];rw [ih a.toNat (by omega) h.2,bV,Bool.and_true];split
      ·have:l[lo]?=none:=by simp [hlo]
       rw [this];have hend:∀(stk:List Int) (lo:Nat),Asc l.length lo stk→lo≤l.length:=by
        intro stk
        induction stk with
        | nil=>intro lo h; simp only [Asc] at h; omega
        | cons b t ih=>intro lo h; have:=h.1; have:=ih _ h.2; omega
       have:=hend _ _ h.2;omega
      ·rfl
   simp [isS,key stk i hi hs]
 | x::r,i,stk,hr,hs=>by
   have hi:i < l.length:=by
    rcases Nat.lt_or_ge i l.length with h | h
    ·exact h
    ·rw [List.drop_eq_nil_of_le h] at hr; cases hr
   have hx:l[i]?=some x:=by
    have:(l.drop i)[0]?=some x:=by rw [hr]; rfl
    simpa using this
   have hr':l.drop (i+1)=r:=by
    have:(l.drop i).drop 1=r:=by rw [hr]; rfl
    simpa using this
   obtain ⟨a,s,h1,h2,h3,h4⟩:=tp l l.length i hi stk hs;rw [isS,h1];simp only;rw [←h4];simp only [jM,List.all_cons];have hrow:bV l i a.toNat=if _hx:1≤x.size∧x.size≤(a.toNat:Int) - i then
    (decide (x.kind=1) || decide (x.size≤1)) && bV l (i+1) (i+x.size.toNat) && bV l (i+x.size.toNat) a.toNat else false:=by
    rw [bV,dif_pos (by omega),hx]
   rw [hrow];have hat:(a.toNat:Int)=a:=by omega
   rw [hat];by_cases hc:1≤x.size∧x.size≤a - i
   ·rw [dif_pos hc];have e:(i+x.size).toNat=i+x.size.toNat:=by omega
    have ih:=BM l r (i+1) ((i+x.size)::a::s) hr' ⟨by omega,by rw [e]; omega,h3.2⟩;by_cases hk:x.ok=true∧(x.kind=1∨x.size≤1)
    ·rw [if_pos ⟨hk.1,hc.1,hc.2,hk.2⟩,ih];simp only [jM,e,hk.1,Bool.true_and];have:(decide (x.kind=1) || decide (x.size≤1))=true:=by simpa using hk.2
     rw [this,Bool.true_and,Bool.and_assoc]
    ·rw [if_neg (fun h=>hk ⟨h.1,h.2.2.2⟩)];symm;rw [Bool.eq_false_iff];intro h;simp only [Ba,Bool.or_eq_true,decide_eq_true_eq] at h;exact hk ⟨h.1.1,h.2.1.1.1⟩
   ·rw [dif_neg hc,if_neg (fun h=>hc ⟨h.2.1,h.2.2.1⟩)];simp
theorem GD (l:List Nd):isS l 0 [(l.length:Int)]=isB l:=by
 rw [BM l l 0 [(l.length:Int)] rfl ⟨by omega,by simp [Asc]⟩];simp [jM,isB]
open Go.Proofs Go.Proofs.Tryz
def o14 (f:FuncId) (args:List V):Option V:=if f=90 then (match args with
 | [.agg [.int .i64 a0, .int .i64 a1, .int .i64 a2, .int .i64 a3, .int .i64 a4, .int .i64 a5, .int .i64 a6, .int .i64 a7, .int .i64 a8, .int .i64 a9, .int .i64 a10, .int .i64 a11, .int .i64 a12, .int .i64 a13, .int .i64 a14, .int .i64 a15, .sl 1 rows, .int .i64 a17, .int .i64 a18, .int .i64 a19]] =>
   (fm rows).bind fun ws=>if ws.length≤200000000000000 then some (.bool (Nd.ok ⟨a0,a1,⟨a2,a3,a4,a5,a6,a7,a8,a9,a10,a11,a12,a13⟩,a14,a15,ws,a17,a18,a19⟩)) else none
 | _=>none) else none
def O14:Orc prog where
 get f args _:=o14 f args
 ok f args σ v h:=by
  unfold o14 at h;split at h
  ·rename_i hf;subst hf;split at h
   ·rw [Option.bind_eq_some_iff] at h;obtain ⟨ws,h1,h2⟩:=h;split at h2
    ·rename_i hw;simp only [Oi] at h2;subst h2;rw [ki h1];exact Kg ⟨_,_,⟨_,_,_,_,_,_,_,_,_,_,_,_⟩,_,_,ws,_,_,_⟩ hw σ
    ·cases h2
   ·cases h
  ·cases h
theorem Kz {x:Nd} (hw:x.words.length≤200000000000000) (σ:af):O14.get 90 [.agg [.int .i64 x.kind, .int .i64 x.size, .int .i64 x.st.top, .int .i64 x.st.bottom, .int .i64 x.st.padTop, .int .i64 x.st.padBottom, .int .i64 x.st.inset, .int .i64 x.st.orphans, .int .i64 x.st.widows, .int .i64 x.st.head, .int .i64 x.st.before, .int .i64 x.st.after, .int .i64 x.st.inside, .int .i64 x.st.clear, .int .i64 x.line, .int .i64 x.space,bj x.words, .int .i64 x.side, .int .i64 x.w, .int .i64 x.h]] σ =
 some (.bool x.ok):=by
 show ((fm (x.words.map vI)).bind fun ws=>if ws.length≤200000000000000 then some (V.bool (Nd.ok ⟨x.kind,x.size,⟨x.st.top,x.st.bottom,x.st.padTop,x.st.padBottom,x.st.inset,x.st.orphans,x.st.widows,x.st.head,x.st.before,x.st.after,x.st.inside,x.st.clear⟩,x.line,x.space,ws,x.side,x.w,x.h⟩)) else none)=_;rw [tM,Option.bind_some,if_pos hw]
theorem Fy {rows:List V} {k:Nat} {a:Int} {s:List Int} (hk:k=(a::s).length) (ht:rows.take k=(a::s).reverse.map vI):rows[k - 1]?=some (.int .i64 a)∧rows.take (k - 1)=s.reverse.map vI:=by
 simp only [List.length_cons] at hk;have h1:(rows.take k)[k - 1]?=rows[k - 1]?:=by rw [List.getElem?_take,if_pos (by omega)]
 constructor
 ·rw [←h1,ht,hk];simp
 ·have h2:rows.take (k - 1)=(rows.take k).take (k - 1):=by rw [List.take_take]; congr 1; omega
  rw [h2,ht,hk];simp
theorem Asc.le {n:Nat}:∀ {stk:List Int} {lo:Nat},Asc n lo stk→lo≤n
 | [],lo,h=>by simp only [Asc] at h; omega
 | a::s,lo,h=>by have h1:=h.1; have h2:=Asc.le h.2; omega
theorem Bl (l:List Nd) (hl:dE l):aU prog 58 [aI l] (.bool (isB l)):=fun σ=>by
 have hl0:=hl;obtain ⟨hl1,hl2⟩:=hl;refine e58.r (by simp [c58]) ?_;refine ad.mix 6 ?_;apply sR;simp only [go_sem,seval,aH,aL,c58,eD];intro e0 he0;refine ad.loop (fun m st=>∃i stk e k rows,i≤l.length∧m=l.length - i∧isB l=isS (l.drop i) i stk∧Asc l.length i stk∧stk≠[]∧stk.length≤i+1∧aa σ st.σ∧st.σ e=some ⟨3,1,rows⟩∧σ e=none∧k=stk.length∧k≤rows.length∧rows.take k=stk.reverse.map vI ∧
  st.s 3=.own e 0 k∧st.s 9=aI l∧st.s 10=vI l.length∧st.s 11=vI i) l.length ?_ ?_
 ·refine ⟨0,[(l.length:Int)],e0,1,[vI l.length],by omega,by omega,by rw [←GD]; rfl,⟨by omega,by simp [Asc]⟩,by simp,by simp,(aa.refl σ).upd he0,ag,he0,rfl,by simp,rfl,rfl,rfl,rfl,rfl⟩
 ·rintro m ⟨s,σ'⟩ ⟨i,stk,e,k,rows,hi,rfl,hB,hasc,hne,hsl,hsub,hrow,hnew,hk,hkr,htk,h3,h9,h10,h11⟩;simp only at hsub hrow h3 h9 h10 h11;refine ad.mix 6 ?_;apply sR;simp only [go_sem,seval,aH,aL,h3,h9,h10,h11];refine And.intro (fun hlt=>?_) (fun hge=>?_)
  ·have hlt':i < l.length:=by simp at hlt; omega
   have hd:l.drop i=l[i]::l.drop (i+1):=List.drop_eq_getElem_cons hlt';have hxw:l[i].words.length≤200000000000000:=hl2 _ (List.getElem_mem hlt');rw [hd] at hB;generalize hxe:l[i]=x at *;simp only [go_sem,seval,aH,aL,lz hlt',hxe,ue,h3,h9,h10,h11,Nd.cells];intro id5 hid5;replace hid5:σ' id5=none:=hid5;have n5e:e≠id5:=by rintro rfl; rw [hrow] at hid5; cases hid5
   have n5n:σ id5=none:=hsub.none hid5;refine ad.loop (fun m st=>∃stk' k',m=stk'.length∧qK i stk=qK i stk'∧Asc l.length i stk'∧stk'≠[]∧stk'.length≤stk.length∧st.σ=upd σ' id5 ⟨73,20,[.agg x.cells]⟩∧k'=stk'.length∧k'≤rows.length∧rows.take k'=stk'.reverse.map vI ∧
    st.s 3=.own e 0 k'∧st.s 4=vI i∧st.s 5=.ptr id5 0 0∧st.s 9=aI l∧st.s 10=vI l.length∧st.s 11=vI i) stk.length ?_ ?_
   ·exact ⟨stk,k,rfl,rfl,hasc,hne,Nat.le_refl _,rfl,hk,hkr,htk,h3,rfl,rfl,h9,h10,h11⟩
   ·rintro m ⟨s,σ''⟩ ⟨stk',k',rfl,hpop,hasc',hne',hsl',hσ,hk',hkr',htk',h3,h4,h5,h9,h10,h11⟩;simp only at hσ h3 h4 h5 h9 h10 h11;subst hσ;obtain ⟨a,tl,rfl⟩:=List.exists_cons_of_ne_nil hne';obtain ⟨htop,htk2⟩:=Fy hk' htk';have hkpos:1≤k':=by rw [hk']; simp
    have g0:(k':Int) - 1 < k':=by omega
    have g1:(0:Int)≤(k':Int) - 1:=by omega
    have g2:(k':Int) - 1≤k':=by omega
    have g3:((k':Int) - 1).toNat=k' - 1:=by omega
    have hrng:inR .i64 ((k':Int) - 1):=ak (by omega) (by omega);refine ad.mix 6 ?_
    (refine ad.bG O14 300 ?_; simp only [go_sem,seval,aH,aL,h3,h4,h5,h9,h10,h11,ab n5e,hrow,g0,g1,g2,g3,Int.le_refl,Int.toNat_zero,Nat.sub_zero,htop,uq,Nd.cells,Kz hxw,rU (Nd.ok x)])
    refine And.intro (fun h1=>⟨hrng,And.intro (fun h2=>?_) (fun h2=>?_)⟩) (fun h1=>?_)
    ·obtain ⟨b,tl',rfl⟩:∃b tl',tl=b::tl':=by
      cases tl with
      | nil=>simp at hk'; omega
      | cons b tl'=>exact ⟨b,tl',rfl⟩
     have hp2:qK i (a::b::tl')=qK i (b::tl'):=by simp [qK,h2]
     have ha2:=hasc'.2;rw [h2,Int.toNat_natCast] at ha2;refine ⟨hrng,_,?_,b::tl',k' - 1,rfl,by rw [hpop,hp2],ha2,by simp,?_,?_,by omega,htk2,rfl⟩
     ·simp
     ·simp only [List.length_cons] at hsl' ⊢; omega
     ·simp only [List.length_cons] at hk' ⊢; omega
    all_goals
     have hps:qK i (a::tl)=a::tl:=by
      cases tl with
      | nil=>rfl
      | cons b tl' =>
        have:a≠i:=by first
         | simpa using h2
         | (exfalso; simp at hk' h1; omega)
        simp [qK,this]
     obtain ⟨c,t,p1,p2,p3,p4⟩:=tp l l.length i hlt' (a::tl) hasc';rw [hps,List.cons.injEq] at p1;obtain ⟨rfl,rfl⟩:=p1;have hIs:isB l=if x.ok=true∧1≤x.size∧x.size≤a - i∧(x.kind=1∨x.size≤1) then isS (l.drop (i+1)) (i+1) ((i+x.size)::a::tl) else false:=by
      rw [hB,isS,hpop,hps]
     have hale:=Asc.le p3.2;have hlenk:(rows.take k').length=k':=by simp; omega
     have hstk:k'≤i+1:=by rw [hk']; omega
     have happ:x.ok=true∧1≤x.size∧x.size≤a - i∧(x.kind=1∨x.size≤1)→∀(X Y:Ob) (id id1:Nat),upd σ' id5 X id=none→upd (upd σ' id5 X) id Y id1=none →
      isB l=isS (l.drop (i+1)) (i+1) ((i+x.size)::a::tl)∧Asc l.length (i+1) ((i+x.size)::a::tl)∧aa σ (upd (del (upd (upd σ' id5 X) id Y) e) id1 ⟨3,1,rows.take k'++[.int .i64 (i+x.size)]⟩)∧σ id1=none ∧
      (rows.take k'++[V.int .i64 (i+x.size)]).take (k'+1)=((i+x.size)::a::tl).reverse.map vI:=by
      intro hc X Y id id1 hid hid1;rw [fb] at hid;rw [fb,fb] at hid1;rw [if_pos hc] at hIs;refine ⟨hIs,⟨by omega,?_,p3.2⟩,?_,hsub.none hid1.2.2,?_⟩
      ·have:(i+x.size).toNat=i+x.size.toNat:=by omega
       omega
      ·exact aa.aB (aa.Hd ((hsub.aB n5n).aB (hsub.none hid.2)) hnew) (hsub.none hid1.2.2)
      ·rw [List.take_of_length_le (by simp; omega),htk'];simp
     refine And.intro (fun q1=>And.intro (fun q2=>⟨hrng,ak (by omega) (by omega),And.intro (fun q3=>And.intro (fun q4=>And.intro (fun q5=>?_) (fun q5=>?_)) (fun q4=>?_)) (fun q3=>?_)⟩) (fun q2=>?_)) (fun q1=>?_)
     ·refine ar.pure (hsub.upd hid5) ?_;rw [hIs,if_neg];rintro ⟨c1,c2,c3,c4⟩;omega
     ·refine ⟨ak (by omega) (by omega),?_⟩;intro id hid;have hid':=(fb.1 hid).2;have nie:e≠id:=by rintro rfl; rw [hrow] at hid'; cases hid'
      have hd1:∀σ,σ e=some ⟨3,1,rows⟩→bR σ 3 1 (.own e 0 k')=some (rows.take k',some e):=by
       intro σ hσ;simp only [bR,hσ];rw [if_pos ⟨trivial,trivial,trivial,hkr'⟩]
      have hs1:∀σ,σ id=some ⟨3,1,[.int .i64 (i+x.size)]⟩→bK σ 1 (.own id 0 1)=some [.int .i64 (i+x.size)]:=by
       intro σ hσ;simp only [bK,hσ];rw [if_pos (by simp)];simp
      have hb:(k'+1)*9≤140737488355328:=by omega
      simp only [go_sem,seval,aH,aL,hd1,hs1,ab n5e,ab nie,hrow,hlenk,hb,bz,h3,h4,h5,h9,h10,h11];intro id1 hid1;obtain ⟨z1,z2,z3,z4,z5⟩:=happ ⟨by simpa using q1,by omega,by omega,by first | (left; simpa using q4) | (right; simp at q5; omega)⟩ _ _ id id1 hid hid1
      refine ⟨ak (by omega) (by omega),_,?_,i+1,_,id1,k'+1,_,by omega,rfl,z1,z2,by simp,?_,z3,ag,z4,?_,?_,z5,rfl,?_⟩
      ·omega
      ·simp only [List.length_cons] at hk' hsl' ⊢; omega
      ·simp only [List.length_cons] at hk' ⊢; omega
      ·simp; omega
      ·simp
     ·refine ⟨ak (by omega) (by omega),?_⟩;intro id hid;have hid':=(fb.1 hid).2;have nie:e≠id:=by rintro rfl; rw [hrow] at hid'; cases hid'
      have hd1:∀σ,σ e=some ⟨3,1,rows⟩→bR σ 3 1 (.own e 0 k')=some (rows.take k',some e):=by
       intro σ hσ;simp only [bR,hσ];rw [if_pos ⟨trivial,trivial,trivial,hkr'⟩]
      have hs1:∀σ,σ id=some ⟨3,1,[.int .i64 (i+x.size)]⟩→bK σ 1 (.own id 0 1)=some [.int .i64 (i+x.size)]:=by
       intro σ hσ;simp only [bK,hσ];rw [if_pos (by simp)];simp
      have hb:(k'+1)*9≤140737488355328:=by omega
      simp only [go_sem,seval,aH,aL,hd1,hs1,ab n5e,ab nie,hrow,hlenk,hb,bz,h3,h4,h5,h9,h10,h11];intro id1 hid1;obtain ⟨z1,z2,z3,z4,z5⟩:=happ ⟨by simpa using q1,by omega,by omega,by first | (left; simpa using q4) | (right; simp at q5; omega)⟩ _ _ id id1 hid hid1
      refine ⟨ak (by omega) (by omega),_,?_,i+1,_,id1,k'+1,_,by omega,rfl,z1,z2,by simp,?_,z3,ag,z4,?_,?_,z5,rfl,?_⟩
      ·omega
      ·simp only [List.length_cons] at hk' hsl' ⊢; omega
      ·simp only [List.length_cons] at hk' ⊢; omega
      ·simp; omega
      ·simp
     ·refine ar.pure (hsub.upd hid5) ?_;rw [hIs,if_neg];rintro ⟨c1,c2,c3,c4⟩;omega
     ·refine ar.pure (hsub.upd hid5) ?_;rw [hIs,if_neg];rintro ⟨c1,c2,c3,c4⟩;omega
     ·refine ar.pure (hsub.upd hid5) ?_;rw [hIs,if_neg];rintro ⟨c1,c2,c3,c4⟩;exact q1 (by simp [c1])
  ·have hi':i=l.length:=by simp at hge; omega
   refine ar.pure hsub ?_;rw [hB,hi',List.drop_length]; rfl
open Go.Proofs Go.Proofs.Tryz
def kr (times n:Int):Int:=if n=0∨times≤1099511627776 / n then n*times else 1099511627777
def lh (times h:Int):List Int→Int
 | []=>h
 | n::l=>lh times (min (h+kr times n) 1099511627777) l
def eu (i:Nat) (x:Nd) (s:Sm) (ends:List Int):Sm×List Int :=
 let ends:=ends.filter fun n=>!decide (n≤(i:Int))
 if x.kind=1 then
  let ends:=ends++[i+x.size]
  (⟨max s.depth ends.length,s.pieces,s.nodes+1,lh 1 s.heights [x.st.top,x.st.bottom,x.st.padTop,x.st.padBottom,x.st.head]⟩,ends)
 else if x.kind=2 then (⟨s.depth,s.pieces+x.words.length,s.nodes+1,lh x.words.length s.heights [x.line]⟩,ends)
 else (⟨s.depth,s.pieces+1,s.nodes+1,lh 1 s.heights [x.h]⟩,ends)
def gH (l:List Nd):Nat→Sm×List Int
 | 0=>(⟨0,0,0,0⟩,[])
 | i+1=>match l[i]? with
   | some x=>eu i x (gH l i).1 (gH l i).2
   | none=>gH l i
theorem xQ {times n:Int} (h0:0≤n) (h1:n≤mx) (t0:0≤times) (a:Int) (ha:0≤a):min (a+kr times n) 1099511627777=min (a+n*times) 1099511627777:=by
 unfold kr;split
 ·rfl
 ·rename_i h;have hn:0 < n:=by omega
  have hq:1099511627776 / n < times:=by omega
  have h2:1099511627776 < n*times:=by
   have:=Int.ediv_lt_iff_lt_mul (a:=1099511627776) (b:=times) hn;have h3:=this.1 hq;rw [Int.mul_comm]; exact h3
  omega
theorem rj {a b:Int} (h1:0≤a∧a≤1099511627777) (h2:0≤b):∀n:Nat,Aw a b n=min (a+b*n) 1099511627777
 | 0=>by simp [Aw]; omega
 | n+1=>by
   rw [Aw,rj h1 h2 n,jq];have e:b*((n+1:Nat):Int)=b*n+b:=by rw [Int.natCast_add,Int.mul_add]; simp
   rw [e];have:0≤b*(n:Int):=Int.mul_nonneg h2 (by omega);generalize b*(n:Int)=q at *;omega
theorem j4 {h n:Int} (h1:0≤h) (n0:0≤n) (n1:n≤mx):min (h+kr 1 n) 1099511627777=jq h n:=by
 rw [xQ n0 n1 (by omega) h h1,Int.mul_one]; rfl
def iS (l:List Nd) (i:Nat):Nat→List Int
 | 0=>[]
 | k+1=>iS l i k++(match l[k]? with
   | some y=>if y.kind=1∧(i:Int) < k+y.size then [(k:Int)+y.size] else []
   | none=>[])
theorem mQ (l:List Nd) (i:Nat):∀k,((iS l i k).length:Int)=gX l i k
 | 0=>rfl
 | k+1=>by
   simp only [iS,gX,List.length_append,Int.natCast_add,mQ l i k];cases l[k]? with
   | none=>simp
   | some y=>simp only []; split <;> simp
theorem mE (l:List Nd) (i:Nat):∀k,(iS l i k).filter (fun n=>!decide (n≤((i+1:Nat):Int)))=iS l (i+1) k
 | 0=>rfl
 | k+1=>by
   simp only [iS,List.filter_append,mE l i k];congr 1;split
   ·rename_i y _;by_cases hk:y.kind=1
    ·by_cases h1:((i+1:Nat):Int) < k+y.size
     ·rw [if_pos ⟨hk,by omega⟩,if_pos ⟨hk,h1⟩];have:¬((k:Int)+y.size≤((i+1:Nat):Int)):=by omega
      simp only [List.filter_cons,this,decide_false,Bool.not_false,if_true,List.filter_nil]
     ·rw [if_neg (show¬(y.kind=1∧((i+1:Nat):Int) < k+y.size) from fun h=>h1 h.2)];split
      ·have:(k:Int)+y.size≤((i+1:Nat):Int):=by omega
       simp only [List.filter_cons,this,decide_true,Bool.not_true,Bool.false_eq_true,if_false,List.filter_nil]
      ·rfl
    ·rw [if_neg (fun h=>hk h.1),if_neg (fun h=>hk h.1)]; rfl
   ·rfl
theorem lU (l:List Nd) (hl:dE l) (hb:isB l=true):∀i,i≤l.length→(gH l i).1={ gj l ⟨0,0,l.length,0⟩ i with nodes:=i }∧(gH l i).2=(match i with
 | 0=>[]
 | j+1=>iS l j (j+1))∧(gj l ⟨0,0,l.length,0⟩ i).rC i∧(gj l ⟨0,0,l.length,0⟩ i).nodes=l.length
 | 0,_=>⟨rfl,rfl,by simp [gj,Sm.rC],rfl⟩
 | i+1,hi=>by
   obtain ⟨h1,h2,h3,h4⟩:=lU l hl hb i (by omega);have hok:l.all Nd.ok=true∧bV l 0 l.length=true:=by simpa [isB] using hb
   have hx:=(List.all_eq_true.1 hok.1) _ (List.getElem_mem (show i < l.length by omega));have hg:l[i]?=some l[i]:=by simp [show i < l.length by omega]
   obtain ⟨z1,z2,z3⟩:=gP l (l.length+1) 0 l.length (by omega) (by omega) hok.2 i (by omega) (by omega) (by omega);have hw:=hl.2 _ (List.getElem_mem (show i < l.length by omega));have hfine:=CJ (l:=l) hx hw h3;generalize hxe:l[i]=x at *;obtain ⟨p1,p2,p3,p4,p5,p6⟩:=jb hx;have hS:gH l (i+1)=eu i x (gH l i).1 (gH l i).2:=by simp only [gH,hg]
   have hR:gj l ⟨0,0,l.length,0⟩ (i+1)=nA l i x (gj l ⟨0,0,l.length,0⟩ i):=by simp only [gj,hg]
   have hf:(gH l i).2.filter (fun n=>!decide (n≤(i:Int)))=iS l i i:=by
    rw [h2];cases i with
    | zero=>rfl
    | succ j=>exact mE l j (j+1)
   rw [hS,hR,h1];generalize hsm:gj l ⟨0,0,l.length,0⟩ i=sm at *;obtain ⟨f1,f2,f3⟩:=h3;have hends:iS l i (i+1)=iS l i i++(if x.kind=1 then [(i:Int)+x.size] else []):=by
    simp only [iS,hg];by_cases hk:x.kind=1
    ·rw [if_pos ⟨hk,by omega⟩,if_pos hk]
    ·rw [if_neg (fun h=>hk h.1),if_neg hk]
   refine ⟨?_,?_,by rw [Int.natCast_add]; exact hfine,?_⟩
   ·by_cases hk:x.kind=1
    ·obtain ⟨q1,q2,q3,q4,q5⟩:=p6 hk;have r1:=fD f3 q1.1;have r2:=fD r1 q2.1;have r3:=fD r2 q3.1;have r4:=fD r3 q4.1;have hlen:=mQ l i (i+1);rw [hends,if_pos hk] at hlen;simp only [eu,nA,if_pos hk,hf,lh,Sm.mk.injEq];refine ⟨?_,trivial,by simp,?_⟩
     ·rw [hlen]
     ·rw [j4 f3.1 q1.1 q1.2,j4 r1.1 q2.1 q2.2,j4 r2.1 q3.1 q3.2,j4 r3.1 q4.1 q4.2,j4 r4.1 q5.1 q5.2]
    ·by_cases hk2:x.kind=2
     ·simp only [eu,nA,if_neg hk,if_pos hk2,lh,Sm.mk.injEq];refine ⟨trivial,trivial,by simp,?_⟩;rw [xQ p2 p3 (by omega) _ f3.1,rj f3 p2]
     ·simp only [eu,nA,if_neg hk,if_neg hk2,lh,Sm.mk.injEq];exact ⟨trivial,trivial,by simp,j4 f3.1 p4 p5⟩
   ·by_cases hk:x.kind=1
    ·simp only [eu,if_pos hk,hf,hends]
    ·by_cases hk2:x.kind=2
     ·simp only [eu,if_neg hk,if_pos hk2,hf,hends,List.append_nil]
     ·simp only [eu,if_neg hk,if_neg hk2,hf,hends,List.append_nil]
   ·rw [←h4];unfold nA;split
    ·rfl
    ·split <;> rfl
def wm (l:List Nd):Sm×Int:=if isB l then ((gH l l.length).1,0) else (⟨0,0,0,0⟩,4)
theorem Di (l:List Nd) (hl:dE l):wm l=ig l:=by
 unfold wm ig;by_cases hb:isB l=true
 ·obtain ⟨h1,_,_,h4⟩:=lU l hl hb l.length (Nat.le_refl _);rw [if_pos hb,if_pos hb,h1];generalize gj l ⟨0,0,l.length,0⟩ l.length=sm at *;cases sm;simp_all
 ·rw [if_neg hb,if_neg hb]
open Go.Proofs Go.Proofs.Tryz
theorem AO {σ:af} {c:Nat} {i:Int} (h:σ c=some ⟨3,1,[vI i]⟩) (n:Int):az prog 92 [vI n, .ptr c 0 0] σ fun r σ'=>r=.bool (decide (n≤i))∧σ'=σ:=by
 refine e92.r (by simp [c92]) ?_;apply sR;simp only [go_sem,seval,aH,aL,c92,h];exact ar.same rfl
abbrev kept (i:Int) (l:List Int):List Int:=l.filter fun n=>!decide (n≤i)
theorem qd {p:Int→Bool}:∀ {l:List Int},cu p l < 0→l.filter (fun n=>!p n)=l
 | [],_=>rfl
 | x::l,h=>by
   simp only [cu] at h;split at h
   ·omega
   ·rename_i hp;have hp':p x=false:=by simpa using hp
    split at h
    ·rename_i h2;simp only [List.filter_cons,hp',Bool.not_false,if_true,qd h2]
    ·have:=gK p l; omega
theorem pI {p:Int→Bool}:∀ {l:List Int},¬cu p l < 0→(cu p l).toNat < l.length∧(l.take (cu p l).toNat).filter (fun n=>!p n)=l.take (cu p l).toNat ∧
 ∀x,l[(cu p l).toNat]?=some x→p x=true
 | [],h=>by simp [cu] at h
 | x::l,h=>by
   simp only [cu] at h ⊢;split
   ·rename_i hp;refine ⟨by simp,by simp,?_⟩;intro y hy;simp at hy; subst hy; exact hp
   ·rename_i hp;rw [if_neg hp] at h;have hp':p x=false:=by simpa using hp
    split
    ·rename_i h2; rw [if_pos h2] at h; omega
    ·rename_i h2;obtain ⟨g1,g2,g3⟩:=pI h2;have:=gK p l;have e:(cu p l+1).toNat=(cu p l).toNat+1:=by omega
     rw [e];refine ⟨by simp; omega,?_,?_⟩
     ·simp only [List.take_succ_cons,List.filter_cons,hp',Bool.not_false,if_true,g2]
     ·simpa using g3
theorem Ej {σ:af} {e c k:Nat} {i:Int} {full:List Int} (he:σ e=some ⟨3,1,full.map vI⟩) (hc:σ c=some ⟨3,1,[vI i]⟩) (hne:c≠e) (hk:k≤full.length) (hfl:full.length≤1000000000000) :
 az prog 91 [.own e 0 k, .fn 92 [.ptr c 0 0]] σ fun r σ'=>∃(k':Nat) (full':List Int),r=.own e 0 k'∧σ'=upd σ e ⟨3,1,full'.map vI⟩∧k'≤full'.length∧full'.length≤full.length∧full'.take k'=kept i (full.take k):=by
 have hlk:(full.take k).length=k:=by simp; omega
 have hr:Reads σ 1 false (.own e 0 k) ((full.take k).map vI):=by
  have:=Reads.own (σ:=σ) (off:=0) (len:=k) he rfl (by simpa using hk) (fun r hr=>by simp only [List.mem_map] at hr; obtain ⟨n,_,rfl⟩:=hr; rfl);simpa using this
 refine e91.r (by simp [c91]) ?_;refine ad.mix 8 ?_;apply sR;simp only [go_sem,seval,aH,aL,c91];refine ad.ay rfl rfl rfl (ly (p:=fun n=>decide (n≤i)) hr (by omega) (fun n _=>AO hc n)) ?_;generalize hw:cu (fun n=>decide (n≤i)) (full.take k)=w;have hwg:-1≤w:=by rw [←hw]; exact gK _ _
 apply sR;simp only [go_sem,seval,aH,aL];have hsame:upd σ e ⟨3,1,full.map vI⟩=σ:=by
  funext j;simp only [upd];split
  ·rename_i e'; rw [e',he]
  ·rfl
 refine And.intro (fun hm=>?_) (fun hm=>?_)
 ·refine ⟨_,σ,aa.refl σ,Wk.refl (aa.refl σ) _,k,full,rfl,hsame.symm,hk,Nat.le_refl _,?_⟩;exact (qd (by rw [hw]; omega)).symm
 ·have hw0:¬cu (fun n=>decide (n≤i)) (full.take k) < 0:=by rw [hw]; omega
  obtain ⟨g1,g2,g3⟩:=pI hw0;rw [hw] at g1 g2 g3;rw [hlk] at g1;refine ⟨ak (by omega) (by omega),?_⟩;refine ad.loop (fun m st=>∃(u j:Nat) (cur:List Int),u < j∧j≤k∧m=k - j∧cur.length=full.length∧cur.take u=kept i (full.take j)∧(∀q,j≤q→cur[q]?=full[q]?)∧st.σ=upd σ e ⟨3,1,cur.map vI⟩ ∧
   st.s 0=.own e 0 k∧st.s 1=.fn 92 [.ptr c 0 0]∧st.s 5=vI u∧st.s 6=vI j) (k - (w.toNat+1)) ?_ ?_
  ·have hw1:w=((w.toNat:Nat):Int):=by omega
   refine ⟨w.toNat,w.toNat+1,full,by omega,by omega,rfl,rfl,?_,fun _ _=>rfl,hsame.symm,rfl,rfl,?_,?_⟩
   ·have hx:(full.take k)[w.toNat]?=some (full[w.toNat]'(by omega)):=by rw [List.getElem?_take,if_pos g1,List.getElem?_eq_getElem]
    have hp:=g3 _ hx;have e1:(full.take k).take w.toNat=full.take w.toNat:=by rw [List.take_take]; congr 1; omega
    rw [e1] at g2;rw [List.take_succ_eq_append_getElem (by omega)];have g2':kept i (full.take w.toNat)=full.take w.toNat:=g2;simp only [kept,List.filter_append] at g2' ⊢;rw [g2'];simp [hp]
   ·show vI w=_; rw [←hw1]
   ·show vI (w+1)=_; rw [Int.natCast_add,←hw1]; rfl
  ·rintro m ⟨s,σ'⟩ ⟨u,j,cur,huj,hjk,rfl,hcl,hct,hcr,hσ,h0,h1,h5,h6⟩;simp only at hσ h0 h1 h5 h6;subst hσ;refine ad.mix 8 ?_;apply sR;simp only [go_sem,seval,aH,aL,h0,h1,h5,h6];refine And.intro (fun hlt=>?_) (fun hge=>?_)
   ·have hlt':j < k:=by omega
    have hjc:j < cur.length:=by omega
    have hget:cur[j]?=some cur[j]:=by simp [hjc]
    have hge:(cur.map vI)[j]?=some (vI cur[j]):=by simp [hjc]
    have b1:(0:Int)≤j:=by omega
    have b2:(j:Int) < k:=by omega
    have b3:(0:Int)≤u:=by omega
    have b4:(u:Int) < k:=by omega
    simp only [go_sem,seval,aH,aL,h0,h1,h5,h6,b1,b2,hge,Int.toNat_natCast];refine ad.ay rfl rfl rfl (AO (i:=i) (by rw [ab hne]; exact hc) cur[j]) ?_;have hgu:(cur.map vI)[u]?=some (vI (cur[u]'(by omega))):=by simp [show u < cur.length by omega]
    apply sR;simp only [go_sem,seval,aH,aL,h0,h1,h5,h6,b1,b2,b3,b4,hge,hgu,Int.toNat_natCast];have hfj:full[j]?=some cur[j]:=by rw [←hcr j (Nat.le_refl _)]; exact hget
    have htj:full.take (j+1)=full.take j++[cur[j]]:=by
     have hjf:j < full.length:=by omega
     rw [List.take_succ_eq_append_getElem hjf];congr 2;rw [List.getElem?_eq_getElem hjf] at hfj;simpa using hfj
    refine And.intro (fun hd=>?_) (fun hd=>?_)
    ·refine ⟨ak (by omega) (by omega),ak (by omega) (by omega),_,?_,u+1,j+1,cur.set u cur[j],by omega,by omega,rfl,by simpa using hcl,?_,?_,?_,?_,?_⟩
     ·omega
     ·rw [htj];have hul:u < cur.length:=by omega
      have:(cur.set u cur[j]).take (u+1)=cur.take u++[cur[j]]:=by
       rw [List.take_succ_eq_append_getElem (by simpa using hul),List.take_set,List.set_eq_of_length_le (by simp; omega)];simp
      rw [this,hct];simp only [kept,List.filter_append];congr 1;have hd':¬cur[j]≤i:=by simpa using hd
      simp [hd']
     ·intro q hq;rw [List.getElem?_set_ne (by omega)];exact hcr q (by omega)
     ·simp
     ·simp
     ·simp
    ·refine ⟨ak (by omega) (by omega),_,?_,u,j+1,cur,by omega,by omega,rfl,hcl,?_,fun q hq=>hcr q (by omega),rfl,?_⟩
     ·omega
     ·rw [htj,hct];simp only [kept,List.filter_append];have hd':cur[j]≤i:=by simpa using hd
      simp [hd']
     ·simp
   ·have hjk':j=k:=by omega
    subst hjk';have b3:(0:Int)≤u:=by omega
    have b4:(u:Int)≤j:=by omega
    simp only [go_sem,seval,aH,aL,h0,h1,h5,h6,b3,b4,Int.le_refl,Int.toNat_natCast,Nat.zero_add];refine ad.clear (id:=e) (off:=u) (len:=j - u) (ob:=⟨3,1,cur.map vI⟩) rfl rfl rfl ag rfl (by simp; omega) ?_;apply sR;simp only [go_sem,seval,aH,aL,h0,h1,h5,h6,b3,b4,Int.le_refl,Int.toNat_natCast,Nat.zero_add,Nat.sub_zero];refine ⟨_,_,aa.refl _,Wk.refl (aa.refl _) _,u,cur.take u++List.replicate (j - u) 0++cur.drop (u+(j - u)),by simp,?_,?_,?_,?_⟩
    ·simp [List.map_take,List.map_drop]
    ·simp; omega
    ·simp; omega
    ·rw [List.append_assoc,List.take_append_of_le_length (by simp; omega),List.take_take,Nat.min_self,hct]
open Go.Proofs Go.Proofs.Tryz
theorem Reads.aD (σ:af):Reads σ 1 false .aD []:=⟨rfl,fun i v h=>by simp at h⟩
theorem AN {σ:af} {c:Nat} {i:Int} (hc:σ c=some ⟨3,1,[vI i]⟩):az prog 91 [.aD, .fn 92 [.ptr c 0 0]] σ fun r σ'=>r=.aD∧σ'=σ:=by
 refine e91.r (by simp [c91]) ?_;refine ad.mix 8 ?_;apply sR;simp only [go_sem,seval,aH,aL,c91];refine ad.ay rfl rfl rfl (ly (l:=[]) (p:=fun n=>decide (n≤i)) (Reads.aD σ) (by simp) (fun n _=>AO hc n)) ?_;apply sR;simp only [go_sem,seval,aH,aL,cu];exact ar.same rfl
theorem Gn {times n:Int} (h0:0≤n) (t0:0≤times):0≤kr times n∧kr times n≤1099511627777:=by
 unfold kr;split
 ·rename_i h;refine ⟨Int.mul_nonneg h0 t0,?_⟩;rcases h with h | h
  ·subst h; simp
  ·by_cases hn:n=0
   ·subst hn; simp
   ·have:=Int.mul_le_of_le_ediv (by omega:0 < n) h;rw [Int.mul_comm]; omega
 ·omega
def cD (s:Sm) (ends:V):Ob:=⟨135,5,[.agg [vI s.depth,vI s.pieces,vI s.nodes,vI s.heights,ends]]⟩
theorem oT {σ:af} {c:Nat} {s:Sm} {ends sv:V} {times:Int} {l:List Int} (hc:σ c=some (cD s ends)) (hr:∀ob,Reads (upd σ c ob) 1 false sv (l.map vI)) (hl:l.length≤200000000000000)
 (hn:∀n∈l,0≤n∧n≤mx) (ht:0≤times∧times≤200000000000000) (hh:0≤s.heights∧s.heights≤1099511627777) (hends:ends.cells=[ends]) :
 az prog 93 [.ptr c 0 0,vI times,sv] σ fun r σ'=>r=.tup []∧σ'=upd σ c (cD { s with heights:=lh times s.heights l } ends):=by
 have hlen:dD false sv=some (vI (l.length:Int)):=by simpa using (hr ⟨0,0,[]⟩).1
 have hsame:upd σ c (cD s ends)=σ:=by
  funext j;simp only [upd];split
  ·rename_i e'; rw [e',hc]
  ·rfl
 refine e93.r (by simp [c93]) ?_;refine ad.mix 9 ?_;apply sR;simp only [go_sem,seval,aH,aL,c93,hlen];refine ad.loop (fun m st=>∃(i:Nat) (h:Int),i≤l.length∧m=l.length - i∧lh times s.heights l=lh times h (l.drop i)∧(0≤h∧h≤1099511627777)∧st.σ=upd σ c (cD { s with heights:=h } ends) ∧
  st.s 0=.ptr c 0 0∧st.s 1=vI times∧st.s 9=sv∧st.s 10=vI l.length∧st.s 11=vI i) l.length ?_ ?_
 ·exact ⟨0,s.heights,by omega,by omega,rfl,hh,hsame.symm,rfl,rfl,rfl,rfl,rfl⟩
 ·rintro m ⟨s',σ'⟩ ⟨i,h,hi,rfl,hp,hhh,hσ,h0,h1,h9,h10,h11⟩;simp only at h0 h1 h9 h10 h11 hσ;subst hσ;refine ad.mix 9 ?_;apply sR;simp only [go_sem,seval,aH,aL,h0,h1,h9,h10,h11];refine And.intro (fun hlt=>?_) (fun hge=>?_)
  ·have hlt':i < l.length:=by omega
   have hd:l.drop i=l[i]::l.drop (i+1):=List.drop_eq_getElem_cons hlt';obtain ⟨pp,e1,e2⟩:=(hr (cD { s with heights:=h } ends)).2 i (vI l[i]) (by simp [hlt']);have hni:=hn _ (List.getElem_mem hlt');rw [hd,lh] at hp;generalize hne:l[i]=n at *;have iC:=Gn (n:=n) hni.1 ht.1;simp only [cD] at e1 e2;simp only [mx] at hni;have hq:(1099511627776:Int).tdiv n=1099511627776 / n:=Int.tdiv_eq_ediv_of_nonneg (by omega);by_cases hz:n=0
   ·have hs0:kr times n=n*times:=by unfold kr; rw [if_pos (.inl hz)]
    rw [hs0] at hp iC;simp only [go_sem,seval,aH,aL,e1,e2,cD,hz,h0,h1,h9,h10,h11];rw [hz] at hp iC;simp only [Int.zero_mul,Int.add_zero] at hp ⊢;refine ⟨ak (by omega) (by omega),ak (by omega) (by omega),ak (by omega) (by omega),_,?_,i+1,h,by omega,rfl,?_,hhh,?_,by simp⟩
    ·omega
    ·rw [hp,Int.min_eq_left hhh.2]
    ·rw [if_neg (by omega)]
   ·simp only [go_sem,seval,aH,aL,e1,e2,cD,hz,h0,h1,h9,h10,h11,hq];have hdiv:0≤1099511627776 / n∧1099511627776 / n≤1099511627776:=⟨Int.ediv_nonneg (by omega) hni.1,Int.ediv_le_self _ (by omega)⟩
    refine ⟨ak (by omega) (by omega),fun hle=>?_,fun hgt=>?_⟩
    ·have hs0:kr times n=n*times:=by unfold kr; rw [if_pos (.inr hle)]
     rw [hs0] at hp iC;refine ⟨ak (by omega) (by omega),ak (by omega) (by omega),ak (by omega) (by omega),_,?_,i+1,min (h+n*times) 1099511627777,by omega,rfl,hp,by omega,?_,by simp⟩
     ·omega
     ·rw [show (if 1099511627777 < h+n*times then 1099511627777 else h+n*times)=min (h+n*times) 1099511627777 by split <;> omega]
    ·have hs0:kr times n=1099511627777:=by unfold kr; rw [if_neg (by omega)]
     rw [hs0] at hp iC;refine ⟨ak (by omega) (by omega),ak (by omega) (by omega),_,?_,i+1,min (h+1099511627777) 1099511627777,by omega,rfl,hp,by omega,?_,by simp⟩
     ·omega
     ·rw [show (if 1099511627777 < h+1099511627777 then 1099511627777 else h+1099511627777)=min (h+1099511627777) 1099511627777 by split <;> omega]
  ·have:i=l.length:=by omega
   refine ⟨_,_,aa.refl _,Wk.refl (aa.refl _) _,rfl,?_⟩;rw [hp,this,List.drop_length]; rfl
open Go.Proofs Go.Proofs.Tryz
theorem FA {P:Program} {n:Nat} {Q:St→Prop} {k:List It} {O:Orc P} {f:Nat} {d:Option Nat} {l:List aG} {v:Nat→V} {ob:Ob} {s:Nat→V} {σ:af} {e:Nat}
 (h:∀id σ',aa (del σ e) σ'→σ' id=some ob→σ id=none→step P O n f (.d l k) ⟨aV s d (v id),σ'⟩ Q) :
 Gq P O n f l k d ⟨s,σ⟩ Q (some fun id=>(v id,Vc.upd (del σ e) id ob)):=by
 rw [aL];refine fun id hid=>h id _ ((aa.refl _).upd ?_) ag hid;by_cases e':id=e
 ·simp [del,e']
 ·rw [dh e']; exact hid
def kK (K σ:af) (v:V) (ends:List Int) (B:Nat):Prop :=
 (v=.aD∧ends=[])∨∃(e k:Nat) (full:List Int),v=.own e 0 k∧σ e=some ⟨3,1,full.map vI⟩∧K e=none∧k≤full.length∧full.length≤B∧full.take k=ends
theorem LV {K σ:af} {v:V} {ends:List Int} {B c:Nat} {i:Int} (hB:B≤1000000000000) (h:kK K σ v ends B) (hK:aa K σ) (hc:K c=some ⟨3,1,[vI i]⟩) :
 az prog 91 [v, .fn 92 [.ptr c 0 0]] σ fun r σ'=>aa K σ'∧kK K σ' r (kept i ends) B:=by
 rcases h with ⟨rfl,rfl⟩ | ⟨e,k,full,rfl,h1,h2,h3,h4,rfl⟩
 ·refine (AN (hK _ _ hc)).mono ?_;rintro r σ' ⟨rfl,rfl⟩;exact ⟨hK, .inl ⟨rfl,rfl⟩⟩
 ·have hne:c≠e:=by rintro rfl; rw [h2] at hc; cases hc
  refine (Ej h1 (hK _ _ hc) hne h3 (by omega)).mono ?_;rintro r σ' ⟨k',full',rfl,rfl,g1,g2,g3⟩;exact ⟨hK.aB h2, .inr ⟨e,k',full',rfl,ag,h2,g1,by omega,g3⟩⟩
theorem aa.G0 {K σ:af} {i:Nat} {o:Ob} (h:aa K σ) (hi:σ i=some o):aa (Vc.upd K i o) σ:=fun j x hx=>by
 by_cases e:j=i
 ·subst e; rw [ag] at hx; rw [hi]; exact hx
 ·rw [ab e] at hx; exact h j x hx
theorem kK.new {K σ σ':af} {v:V} {ends:List Int} {B id:Nat} {o:Ob} (h:kK K σ v ends B) (hs:aa σ σ') (hid:σ id=none):kK (upd K id o) σ' v ends B:=by
 rcases h with h | ⟨e,k,full,h0,h1,h2,h3⟩
 ·exact .inl h
 ·exact .inr ⟨e,k,full,h0,hs _ _ h1,by rw [ab (ao h1 hid)]; exact h2,h3⟩
theorem kK.less {K K' σ:af} {v:V} {ends:List Int} {B:Nat} (h:kK K' σ v ends B) (hs:aa K K'):kK K σ v ends B:=by
 rcases h with h | ⟨e,k,full,h0,h1,h2,h3⟩
 ·exact .inl h
 ·exact .inr ⟨e,k,full,h0,h1,hs.none h2,h3⟩
theorem Jg {K σ:af} {v:V} {ends:List Int} {B c i:Nat} {x:Nd} {s:Sm} (hK:aa K σ) (hKc:K c=none) (hc:σ c=some (cD s v)) (hE:∀o,kK (upd K c o) σ v ends B) (hB:B≤1000000000)
 (hi:i≤10000) (hs:s.rC i) (hsn:s.nodes=i) (hx:x.ok=true) (hw:x.words.length≤200000000000000) (hsz:1≤x.size∧x.size≤1000000000) :
 az prog 59 [.ptr c 0 0,vI i,gN x] σ fun r σ'=>r=.tup []∧aa K σ'∧∃v',σ' c=some (cD (eu i x s ends).1 v')∧∀o,kK (upd K c o) σ' v' (eu i x s ends).2 (B+1):=by
 refine e59.r (by simp [c59]) ?_;refine ad.mix 7 ?_;apply sR;simp only [go_sem,seval,c59,gN,Nd.cells];refine ae fun id4 σ1 s1 a4 f4=>?_;have hc1:=s1 _ _ hc;have n4c:=ao hc f4;simp only [go_sem,seval,a4];refine ae fun id5 σ2 s2 a5 f5=>?_;have hc2:=s2 _ _ hc1;have n5c:=ao hc1 f5;have n54:=ao a4 f5;have a4:=s2 _ _ a4;have hK2:=(hK.trans s1).trans s2;have k4:K id4=none:=hK.none f4;have k5:K id5=none:=(hK.trans s1).none f5;simp only [go_sem,seval,hc2,cD,a4,a5];have hK':aa (upd (upd (upd K c (cD s v)) id4 ⟨3,1,[vI i]⟩) id5 ⟨73,20,[gN x]⟩) σ2:=((hK2.G0 hc2).G0 a4).G0 a5;have hE':kK (upd (upd (upd K c (cD s v)) id4 ⟨3,1,[vI i]⟩) id5 ⟨73,20,[gN x]⟩) σ2 v ends B:=((hE _).new s1 f4).new s2 f5;refine ad.call rfl rfl rfl (LV (by omega) hE' hK' (by rw [ab n54,ag])) ?_;rintro r σ3 ⟨hK3,hE3⟩;have hc3:=hK3 c _ (by rw [ab n5c,ab n4c,ag]);have a4:=hK3 id4 _ (by rw [ab n54,ag]);have a5:=hK3 id5 _ ag;simp only [gN,Nd.cells] at a5;simp only [cD] at hc3;have hKK:=(((aa.refl K).aB hKc (o:=cD s v)).aB k4 (o:=⟨3,1,[vI i]⟩)).aB k5 (o:=⟨73,20,[gN x]⟩);have h3:=hKK.trans hK3;have hsr:inR .i64 (s.nodes+1):=ak (by omega) (by omega);obtain ⟨p1,p2,p3,p4,p5,p6⟩:=jb hx;obtain ⟨f1,f2,f3⟩:=hs;rcases hE3 with ⟨rfl,hk0⟩ | ⟨e,k,full,rfl,he,hKe,hk,hfl,hk0⟩
 ·by_cases hk1:x.kind=1
  ·apply sR;simp only [go_sem,seval,a4,a5,hc3,ab n4c.symm,ab n5c.symm,hk1];refine ⟨hsr,ak (by omega) (by omega),?_⟩;refine bC fun id8 σ4 s4 a8 f8=>?_;have hc4:=s4 c _ ag;have a4:=s4 id4 _ (by rw [ab n4c.symm]; exact a4);have a5:=s4 id5 _ (by rw [ab n5c.symm]; exact a5);have hs8:∀σ,σ id8=some ⟨3,1,[.int .i64 (i+x.size)]⟩→bK σ 1 (.own id8 0 1)=some [.int .i64 (i+x.size)]:=by
    intro σ hσ;simp only [bK,hσ];rw [if_pos (by simp)];simp
   have hd:∀σ,bR σ 3 1 .aD=some ([],none):=fun _=>rfl;simp only [go_sem,seval,hs8,a8,hd,bz,Nat.reduceLeDiff];refine bC fun id9 σ5 s5 a9 f9=>?_;have hc5:=s5 c _ hc4;have a4:=s5 id4 _ a4;have a5:=s5 id5 _ a5;have n9c:id9≠c:=by rintro rfl; rw [hc4] at f9; cases f9
   have n95:id9≠id5:=by rintro rfl; rw [s4 id9 _ (by rw [ab n5c.symm]; exact hK3 id9 _ ag)] at f9; cases f9
   simp only [go_sem,seval,hc5,a4,a5,a9,ab n5c.symm,ab n9c];refine ae fun id6 σ6 s6 a6 f6=>?_;have hc6:=s6 c _ ag;have a9:=s6 id9 _ (by rw [ab n9c]; exact a9);have n6c:id6≠c:=by rintro rfl; rw [hc6] at a6; simp at a6
   have n69:id6≠id9:=by rintro rfl; rw [a9] at a6; simp at a6
   simp only [go_sem,seval,a6];refine ae fun id84 σ7 s7 a84 f84=>?_;have hc7:=s7 c _ (by rw [ab n6c.symm]; exact hc6);have a9:=s7 id9 _ (by rw [ab n69.symm]; exact a9);have n84c:id84≠c:=by rintro rfl; rw [hc7] at a84; simp at a84
   simp only [go_sem,seval];have h4:=(h3.aB hKc).trans s4;have h5:=h4.trans s5;have k9:K id9=none:=h4.none f9;have h6':=fun o=>h5.aB hKc (o:=o);have k6:K id6=none:=(h6' _).none f6;have h7:=(((h6' _).trans s6).aB k6).trans s7;obtain ⟨q1,q2,q3,q4,q5⟩:=p6 hk1;have hl5:∀n∈[x.st.top,x.st.bottom,x.st.padTop,x.st.padBottom,x.st.head],0≤n∧n≤mx:=by
    intro n hn;simp only [List.mem_cons,List.not_mem_nil,or_false] at hn;rcases hn with rfl | rfl | rfl | rfl | rfl <;> assumption
   refine ad.call rfl rfl rfl (oT (s:=⟨if (1:Int) > s.depth then 1 else s.depth,s.pieces,s.nodes+1,s.heights⟩) (l:=[x.st.top,x.st.bottom,x.st.padTop,x.st.padBottom,x.st.head]) (times:=1) hc7
    (fun ob=>Reads.own (off:=0) (len:=5) ((ab n84c).trans a84) rfl (by simp) (fun r hr=>by simp at hr; rcases hr with rfl | rfl | rfl | rfl | rfl <;> rfl)) (by simp) hl5 (by omega) f3 rfl) ?_
   rintro r σ8 ⟨rfl,rfl⟩;apply sR;simp only [go_sem,seval,aH,aL];refine ⟨_,_,aa.refl _,Wk.refl (aa.refl _) _,rfl,h7.aB hKc, .own id9 0 1,?_,fun o=>.inr ⟨id9,1,[i+x.size],rfl,(ab n9c).trans a9,fb.2 ⟨n9c,k9⟩,by simp,by simp,?_⟩⟩
   ·have e:(if (1:Int) > s.depth then 1 else s.depth)=max s.depth 1:=by split <;> omega
    rw [ag,e];simp [eu,hk1,hk0,cD]
   ·simp [eu,hk1,hk0]
  ·by_cases hk2:x.kind=2
   ·apply sR;simp only [go_sem,seval,a4,a5,hc3,ab n4c.symm,ab n5c.symm,hk2,dS];refine ⟨hsr,ak (by omega) (by omega),?_⟩;refine ae fun id7 σ7 s7 a7 f7=>?_;have hc7:=s7 c _ ag;have n7c:id7≠c:=by rintro rfl; rw [hc7] at a7; simp at a7
    simp only [go_sem,seval];have h7:=(h3.aB hKc).trans s7;refine ad.call rfl rfl rfl (oT (s:=⟨s.depth,s.pieces+x.words.length,s.nodes+1,s.heights⟩) (l:=[x.line]) (times:=x.words.length) hc7
     (fun ob=>Reads.own (off:=0) (len:=1) ((ab n7c).trans a7) rfl (by simp) (fun r hr=>by simp at hr; rcases hr with rfl; rfl)) (by simp) (by intro n hn; simp at hn; subst hn; exact ⟨p2,p3⟩) (by omega) f3 rfl) ?_
    rintro r σ8 ⟨rfl,rfl⟩;apply sR;simp only [go_sem,seval,aH,aL];refine ⟨_,_,aa.refl _,Wk.refl (aa.refl _) _,rfl,h7.aB hKc,_,ag.trans (by simp [eu,hk2,cD]; rfl),fun o=>?_⟩;have:(eu i x s ends).2=kept i ends:=by simp [eu,hk2]
    rw [this];exact .inl ⟨rfl,hk0⟩
   ·have h4or:=p1;apply sR;simp only [go_sem,seval,a4,a5,hc3,ab n4c.symm,ab n5c.symm,hk1,hk2,dS];refine ⟨hsr,ak (by omega) (by omega),?_⟩;refine ae fun id7 σ7 s7 a7 f7=>?_;have hc7:=s7 c _ ag;have n7c:id7≠c:=by rintro rfl; rw [hc7] at a7; simp at a7
    simp only [go_sem,seval];have h7:=(h3.aB hKc).trans s7;refine ad.call rfl rfl rfl (oT (s:=⟨s.depth,s.pieces+1,s.nodes+1,s.heights⟩) (l:=[x.h]) (times:=1) hc7
     (fun ob=>Reads.own (off:=0) (len:=1) ((ab n7c).trans a7) rfl (by simp) (fun r hr=>by simp at hr; rcases hr with rfl; rfl)) (by simp) (by intro n hn; simp at hn; subst hn; exact ⟨p4,p5⟩) (by omega) f3 rfl) ?_
    rintro r σ8 ⟨rfl,rfl⟩;apply sR;simp only [go_sem,seval,aH,aL];refine ⟨_,_,aa.refl _,Wk.refl (aa.refl _) _,rfl,h7.aB hKc,_,ag.trans (by simp [eu,hk1,hk2,cD]; rfl),fun o=>?_⟩;have:(eu i x s ends).2=kept i ends:=by simp [eu,hk1,hk2]
    rw [this];exact .inl ⟨rfl,hk0⟩
 ·have hec:e≠c:=fun e'=>by rw [e',ab n5c,ab n4c,ag] at hKe; cases hKe
  have he4:e≠id4:=fun e'=>by rw [e',ab n54,ag] at hKe; cases hKe
  have he5:e≠id5:=fun e'=>by rw [e',ag] at hKe; cases hKe
  have hKe0:K e=none:=hKK.none hKe;have hlk:(full.take k).length=k:=by simp; omega
  by_cases hk1:x.kind=1
  ·apply sR;simp only [go_sem,seval,a4,a5,hc3,ab n4c.symm,ab n5c.symm,hk1];refine ⟨hsr,ak (by omega) (by omega),?_⟩;refine bC fun id8 σ4 s4 a8 f8=>?_;have hc4:=s4 c _ ag;have a4:=s4 id4 _ (by rw [ab n4c.symm]; exact a4);have a5:=s4 id5 _ (by rw [ab n5c.symm]; exact a5);have hs8:∀σ,σ id8=some ⟨3,1,[.int .i64 (i+x.size)]⟩→bK σ 1 (.own id8 0 1)=some [.int .i64 (i+x.size)]:=by
    intro σ hσ;simp only [bK,hσ];rw [if_pos (by simp)];simp
   have he4':=s4 e _ (by rw [ab hec]; exact he);have hd:∀σ,σ e=some ⟨3,1,full.map vI⟩→bR σ 3 1 (.own e 0 k)=some ((full.take k).map vI,some e):=by
    intro σ hσ;simp only [bR,hσ];rw [if_pos ⟨trivial,trivial,trivial,by simpa using hk⟩,List.map_take]
   have hlm:((full.take k).map vI).length=k:=by simpa using hlk
   have hbb:(k+1)*9≤140737488355328:=by omega
   simp only [go_sem,seval,hs8,a8,hd,he4',bz,hlm,hbb];refine FA fun id9 σ5 s5 a9 f9=>?_;have hc5:=s5 c _ (by rw [dh hec.symm]; exact hc4);have a4:=s5 id4 _ (by rw [dh he4.symm]; exact a4);have a5:=s5 id5 _ (by rw [dh he5.symm]; exact a5);have n9c:id9≠c:=by rintro rfl; rw [hc4] at f9; cases f9
   have n95:id9≠id5:=by rintro rfl; rw [s4 id9 _ (by rw [ab n5c.symm]; exact hK3 id9 _ ag)] at f9; cases f9
   simp only [go_sem,seval,hc5,a4,a5,a9,ab n5c.symm,ab n9c];refine ae fun id6 σ6 s6 a6 f6=>?_;have hc6:=s6 c _ ag;have a9:=s6 id9 _ (by rw [ab n9c]; exact a9);have n6c:id6≠c:=by rintro rfl; rw [hc6] at a6; simp at a6
   have n69:id6≠id9:=by rintro rfl; rw [a9] at a6; simp at a6
   simp only [go_sem,seval,a6];refine ae fun id84 σ7 s7 a84 f84=>?_;have hc7:=s7 c _ (by rw [ab n6c.symm]; exact hc6);have a9:=s7 id9 _ (by rw [ab n69.symm]; exact a9);have n84c:id84≠c:=by rintro rfl; rw [hc7] at a84; simp at a84
   simp only [go_sem,seval];have h4:=(h3.aB hKc).trans s4;have h4':=h4.Hd hKe0;have h5:=h4'.trans s5;have k9:K id9=none:=h4.none f9;have h6':=fun o=>h5.aB hKc (o:=o);have k6:K id6=none:=(h6' _).none f6;have h7:=(((h6' _).trans s6).aB k6).trans s7;obtain ⟨q1,q2,q3,q4,q5⟩:=p6 hk1;have hl5:∀n∈[x.st.top,x.st.bottom,x.st.padTop,x.st.padBottom,x.st.head],0≤n∧n≤mx:=by
    intro n hn;simp only [List.mem_cons,List.not_mem_nil,or_false] at hn;rcases hn with rfl | rfl | rfl | rfl | rfl <;> assumption
   refine ad.call rfl rfl rfl (oT (s:=⟨if ((k+1:Nat):Int) > s.depth then ((k+1:Nat):Int) else s.depth,s.pieces,s.nodes+1,s.heights⟩) (l:=[x.st.top,x.st.bottom,x.st.padTop,x.st.padBottom,x.st.head]) (times:=1) hc7
    (fun ob=>Reads.own (off:=0) (len:=5) ((ab n84c).trans a84) rfl (by simp) (fun r hr=>by simp at hr; rcases hr with rfl | rfl | rfl | rfl | rfl <;> rfl)) (by simp) hl5 (by omega) f3 rfl) ?_
   rintro r σ8 ⟨rfl,rfl⟩;apply sR;simp only [go_sem,seval,aH,aL];refine ⟨_,_,aa.refl _,Wk.refl (aa.refl _) _,rfl,h7.aB hKc, .own id9 0 (k+1),?_,fun o=>.inr ⟨id9,k+1,full.take k++[i+x.size],rfl,((ab n9c).trans a9).trans (by simp),fb.2 ⟨n9c,k9⟩,by simp; omega,by simp; omega,?_⟩⟩
   ·have e:(if ((k+1:Nat):Int) > s.depth then ((k+1:Nat):Int) else s.depth)=max s.depth ((k+1:Nat):Int):=by split <;> omega
    rw [ag,e];have hk0':kept i ends=full.take k:=hk0.symm;simp [eu,hk1,hk0',hlk,cD,Nat.min_eq_left hk]
   ·have hk0':kept i ends=full.take k:=hk0.symm;rw [List.take_of_length_le (by simp; omega)];simp [eu,hk1,hk0']
  ·by_cases hk2:x.kind=2
   ·apply sR;simp only [go_sem,seval,a4,a5,hc3,ab n4c.symm,ab n5c.symm,hk2,dS];refine ⟨hsr,ak (by omega) (by omega),?_⟩;refine ae fun id7 σ7 s7 a7 f7=>?_;have hc7:=s7 c _ ag;have n7c:id7≠c:=by rintro rfl; rw [hc7] at a7; simp at a7
    simp only [go_sem,seval];have h7:=(h3.aB hKc).trans s7;refine ad.call rfl rfl rfl (oT (s:=⟨s.depth,s.pieces+x.words.length,s.nodes+1,s.heights⟩) (l:=[x.line]) (times:=x.words.length) hc7
     (fun ob=>Reads.own (off:=0) (len:=1) ((ab n7c).trans a7) rfl (by simp) (fun r hr=>by simp at hr; rcases hr with rfl; rfl)) (by simp) (by intro n hn; simp at hn; subst hn; exact ⟨p2,p3⟩) (by omega) f3 rfl) ?_
    rintro r σ8 ⟨rfl,rfl⟩;apply sR;simp only [go_sem,seval,aH,aL];refine ⟨_,_,aa.refl _,Wk.refl (aa.refl _) _,rfl,h7.aB hKc,_,ag.trans (by simp [eu,hk2,cD]; rfl),fun o=>?_⟩;have:(eu i x s ends).2=kept i ends:=by simp [eu,hk2]
    rw [this];exact .inr ⟨e,k,full,rfl,(ab hec).trans (s7 e _ (by rw [ab hec]; exact he)),fb.2 ⟨hec,hKe0⟩,hk,by omega,hk0⟩
   ·have h4or:=p1;apply sR;simp only [go_sem,seval,a4,a5,hc3,ab n4c.symm,ab n5c.symm,hk1,hk2,dS];refine ⟨hsr,ak (by omega) (by omega),?_⟩;refine ae fun id7 σ7 s7 a7 f7=>?_;have hc7:=s7 c _ ag;have n7c:id7≠c:=by rintro rfl; rw [hc7] at a7; simp at a7
    simp only [go_sem,seval];have h7:=(h3.aB hKc).trans s7;refine ad.call rfl rfl rfl (oT (s:=⟨s.depth,s.pieces+1,s.nodes+1,s.heights⟩) (l:=[x.h]) (times:=1) hc7
     (fun ob=>Reads.own (off:=0) (len:=1) ((ab n7c).trans a7) rfl (by simp) (fun r hr=>by simp at hr; rcases hr with rfl; rfl)) (by simp) (by intro n hn; simp at hn; subst hn; exact ⟨p4,p5⟩) (by omega) f3 rfl) ?_
    rintro r σ8 ⟨rfl,rfl⟩;apply sR;simp only [go_sem,seval,aH,aL];refine ⟨_,_,aa.refl _,Wk.refl (aa.refl _) _,rfl,h7.aB hKc,_,ag.trans (by simp [eu,hk1,hk2,cD]; rfl),fun o=>?_⟩;have:(eu i x s ends).2=kept i ends:=by simp [eu,hk1,hk2]
    rw [this];exact .inr ⟨e,k,full,rfl,(ab hec).trans (s7 e _ (by rw [ab hec]; exact he)),fb.2 ⟨hec,hKe0⟩,hk,by omega,hk0⟩
open Go.Proofs Go.Proofs.Tryz
theorem yi (l:List Nd) (hl:dE l):aU prog 26 [aI l] (.tup [.agg (ig l).1.cells,vI (ig l).2]):=fun σ=>by
 have hl0:=hl;obtain ⟨hl1,hl2⟩:=hl;rw [←Di l hl0];refine e26.r (by simp [c26]) ?_;refine ad.mix 7 ?_;apply sR;simp only [go_sem,seval,c26];refine ae fun idR σ1 s1 aR fR=>?_;simp only [go_sem,seval,aR];refine ad.ay rfl rfl rfl (Bl l hl0 _) ?_;apply sR;simp only [go_sem,seval,uq,aR];refine And.intro (fun hf=>?_) (fun hf=>?_)
 ·simp only [Bool.not_eq_eq_eq_not,Bool.not_true] at hf;refine ar.pure (s1.aB fR) ?_;simp [wm,hf,Sm.cells]
 ·simp only [Bool.not_eq_eq_eq_not,Bool.not_false] at hf;refine ae fun id4 σ2 s2 a4 f4=>?_;have nR4:=ao aR f4;have aR:=s2 _ _ aR;have g4:σ id4=none:=s1.none f4;have hKR:aa (upd σ idR ⟨81,4,[.agg Sm.zero.cells]⟩) σ2:=(s1.trans s2).G0 aR;have k4:upd σ idR ⟨81,4,[.agg Sm.zero.cells]⟩ id4=none:=fb.2 ⟨nR4.symm,g4⟩;simp only [go_sem,seval,eD];refine ad.loop (fun m st=>∃(i:Nat) (v:V),i≤l.length∧m=l.length - i∧aa (upd σ idR ⟨81,4,[.agg Sm.zero.cells]⟩) st.σ∧st.σ id4=some (cD (gH l i).1 v) ∧
   (∀o,kK (upd (upd σ idR ⟨81,4,[.agg Sm.zero.cells]⟩) id4 o) st.σ v (gH l i).2 i)∧st.s 2=.ptr idR 0 0∧st.s 4=.ptr id4 0 0∧st.s 11=aI l∧st.s 12=vI l.length∧st.s 13=vI i) l.length ?_ ?_
  ·exact ⟨0, .aD,by omega,by omega,hKR,a4,fun o=>.inl ⟨rfl,rfl⟩,rfl,rfl,rfl,rfl,rfl⟩
  ·rintro m ⟨s,σ'⟩ ⟨i,v,hi,rfl,hsub,h4s,hE,h2,h4,h11,h12,h13⟩;simp only at hsub h4s hE h2 h4 h11 h12 h13;obtain ⟨e1,e2,e3,e4⟩:=lU l hl0 hf i hi;have hok:l.all Nd.ok=true∧bV l 0 l.length=true:=by simpa [isB] using hf
   have hRs:σ' idR=some ⟨81,4,[.agg Sm.zero.cells]⟩:=hsub idR _ ag;refine ad.mix 7 ?_;apply sR;simp only [go_sem,seval,h2,h4,h11,h12,h13,h4s,cD,hRs,Sm.zero,Sm.cells];refine And.intro (fun hlt=>?_) (fun hge=>?_)
   ·have hlt':i < l.length:=by omega
    have hx:=(List.all_eq_true.1 hok.1) _ (List.getElem_mem hlt');have hxw:=hl2 _ (List.getElem_mem hlt');obtain ⟨z1,z2,z3⟩:=gP l (l.length+1) 0 l.length (by omega) (by omega) hok.2 i (by omega) hlt' hlt';have hstep:gH l (i+1)=eu i l[i] (gH l i).1 (gH l i).2:=by simp [gH,hlt']
    generalize hxe:l[i]=x at *;simp only [go_sem,seval,lz hlt',hxe,h2,h4,h11,h12,h13,Nd.cells];refine ae fun id6 σ6 s6 a6 f6=>?_;have n64:id6≠id4:=by rintro rfl; rw [h4s] at f6; cases f6
    have n6R:id6≠idR:=by rintro rfl; rw [hRs] at f6; cases f6
    have g6:upd σ idR ⟨81,4,[.agg Sm.zero.cells]⟩ id6=none:=hsub.none f6;simp only [go_sem,seval,a6,h2,h4,h11,h12,h13];have hsub6:=hsub.trans s6;have hcall:=(Jg (K:=upd σ idR ⟨81,4,[.agg Sm.zero.cells]⟩) (σ:=upd σ6 id6 ⟨73,20,[gN x]⟩) (i:=i) (x:=x) (s:=(gH l i).1) (B:=i) (hsub6.aB g6) k4 ((ab n64.symm).trans (s6 _ _ h4s))
     (fun o=>((hE o).new (s6.aB f6) f6 (o:=⟨0,0,[]⟩)).less ((aa.refl _).aB (fb.2 ⟨n64,g6⟩))) (by omega) (by omega) (by rw [e1]; exact e3) (by rw [e1]) hx hxw (by omega))
    simp only [gN,Nd.cells] at hcall;refine ad.call rfl rfl rfl (by simp only [go_sem,seval,aH,aL,h4]; exact hcall) ?_
    ·rintro r σ7 ⟨rfl,hK7,v',h4',hE'⟩;apply sR;simp only [go_sem,seval,aH,aL,h2,h4,h11,h12,h13];refine ⟨ak (by omega) (by omega),_,?_,i+1,v',by omega,rfl,hK7,?_,?_,?_⟩
     ·omega
     ·rw [hstep,h4']; rfl
     ·intro o; rw [hstep]; exact hE' o
     ·simp
   ·have hie:i=l.length:=by omega
    subst hie;refine ar.pure ((((aa.refl σ).aB fR).trans hsub).aB fR) ?_;simp [wm,hf,Sm.cells]
open Go.Proofs Go.Proofs.Tryz
theorem yI:((2:Nat):Int)=2:=rfl
theorem wU:((3:Nat):Int)=3:=rfl
theorem x9:((4:Nat):Int)=4:=rfl
theorem k0 (l:List Nd) (hl:dE l):aU prog 25 [aI l] (vI (eU l)):=fun σ=>by
 refine e25.r (by simp [c25]) ?_;refine ad.mix 8 ?_;apply sR;simp only [go_sem,seval,c25];refine ad.ay rfl rfl rfl (yi l hl _) ?_;apply sR;simp only [go_sem,seval,Sm.cells];refine ae fun id3 σ1 s1 a3 f3=>?_;have hsub:=fun o=>s1.aB f3 (o:=o);simp only [go_sem,seval,a3];have hc:(ig l).2=if isB l then 0 else 4:=by unfold ig; split <;> rfl
 refine And.intro (fun h=>?_) (fun h=>?_)
 ·refine ar.pure (hsub _) ?_;have:isB l=false:=by
   rw [hc] at h;cases hb:isB l <;> simp_all
  simp [eU,this,hc]
 ·have hb:isB l=true:=by
   rw [hc] at h;cases hb:isB l <;> simp_all
  have hR:eU l=if (ig l).1.depth > 16∨(ig l).1.pieces > 2000∨(ig l).1.nodes > 2000∨(ig l).1.heights > 1099511627776 then 2 else 0:=by
   simp only [eU,hb,if_true]
  generalize (ig l).1=sm at *;refine ae fun id5 σ2 s2 a5 f5=>?_;have hs2:=(hsub _).trans s2;have g5:σ id5=none:=(hsub _).none f5;simp only [go_sem,seval,a5];refine ad.loop (fun m st=>∃(i:Nat),i≤4∧m=4 - i∧st.σ=upd σ2 id5 ⟨133,4,[.agg sm.cells]⟩∧(0 < i→sm.depth≤16)∧(1 < i→sm.pieces≤2000)∧(2 < i→sm.nodes≤2000)∧(3 < i→sm.heights≤1099511627776) ∧
   st.s 5=.ptr id5 0 0∧st.s 25=.agg [vI 16,vI 2000,vI 2000,vI 1099511627776]∧st.s 26=vI i) 4 ?_ ?_
  ·exact ⟨0,by omega,by omega,rfl,by omega,by omega,by omega,by omega,rfl,rfl,rfl⟩
  ·rintro m ⟨s,σ'⟩ ⟨i,hi,rfl,hσ,p1,p2,p3,p4,h5,h25,h26⟩;simp only at hσ h5 h25 h26;subst hσ;have hi':i=0∨i=1∨i=2∨i=3∨i=4:=by omega
   have hend:∀(p:Prop),p→p:=fun _ h=>h;rcases hi' with rfl | rfl | rfl | rfl | rfl
   ·refine ad.mix 8 ?_;apply sR;simp only [go_sem,seval,aH,aL,h5,h25,h26,Sm.cells,Int.ofNat_zero,Int.natCast_zero,yI,wU,x9,Int.toNat_zero,Int.reduceToNat,Nat.zero_mul];refine And.intro (fun g=>?_) (fun g=>?_)
    ·refine ar.pure (hs2.aB g5) ?_;rw [hR,if_pos];omega
    ·refine ⟨ak (by omega) (by omega),_,?_,1,by omega,rfl,?_,?_,?_,?_,rfl⟩ <;> omega
   ·refine ad.mix 8 ?_;apply sR;simp only [go_sem,seval,aH,aL,h5,h25,h26,Sm.cells,Int.ofNat_zero,Int.natCast_zero,Int.natCast_one,Int.toNat_one,yI,wU,x9,Int.toNat_zero,Int.reduceToNat,Nat.zero_mul,Nat.reduceMul];refine And.intro (fun g=>?_) (fun g=>?_)
    ·refine ar.pure (hs2.aB g5) ?_;rw [hR,if_pos];omega
    ·refine ⟨ak (by omega) (by omega),_,?_,2,by omega,rfl,?_,?_,?_,?_,rfl⟩ <;> omega
   ·refine ad.mix 8 ?_;apply sR;simp only [go_sem,seval,aH,aL,h5,h25,h26,Sm.cells,Int.ofNat_zero,Int.natCast_zero,Int.natCast_one,Int.toNat_one,yI,wU,x9,Int.toNat_zero,Int.reduceToNat,Nat.zero_mul,Nat.reduceMul];refine And.intro (fun g=>?_) (fun g=>?_)
    ·refine ar.pure (hs2.aB g5) ?_;rw [hR,if_pos];omega
    ·refine ⟨ak (by omega) (by omega),_,?_,3,by omega,rfl,?_,?_,?_,?_,rfl⟩ <;> omega
   ·refine ad.mix 8 ?_;apply sR;simp only [go_sem,seval,aH,aL,h5,h25,h26,Sm.cells,Int.ofNat_zero,Int.natCast_zero,Int.natCast_one,Int.toNat_one,yI,wU,x9,Int.toNat_zero,Int.reduceToNat,Nat.zero_mul,Nat.reduceMul];refine And.intro (fun g=>?_) (fun g=>?_)
    ·refine ar.pure (hs2.aB g5) ?_;rw [hR,if_pos];omega
    ·refine ⟨ak (by omega) (by omega),_,?_,4,by omega,rfl,?_,?_,?_,?_,rfl⟩ <;> omega
   ·refine ad.mix 8 ?_;apply sR;simp only [go_sem,seval,aH,aL,h5,h25,h26,Sm.cells,Int.ofNat_zero,Int.natCast_zero,Int.natCast_one,yI,wU,x9,Int.toNat_zero,Int.reduceToNat,Nat.zero_mul];refine ar.pure (hs2.aB g5) ?_;rw [hR,if_neg];omega
open Go.Proofs Go.Proofs.Tryz
theorem ui (σ:af) (l:List Int):bN σ false 1 (.rp (bj l))=some (bj l):=rfl
open Go.Proofs Go.Proofs.Tryz
def szI (l:List Nd) (i:Nat):Int:=((l[i]?).map Nd.size).getD 0
def uu (l:List Nd) (a:Int):Bool:=decide (0≤a) && decide (a < l.length)
def gx (l:List Nd) (a b:Int):Bool:=uu l a && (uu l b && (decide (b≥a) && decide (b - a < szI l a.toNat)))
def ga (l:List Nd) (a:Nat):Nat→List Int
 | 0=>[]
 | k+1=>if gx l k a then (k:Int)::ga l a k else ga l a k
def qH (l:List Nd) (a:Nat):Nat→Int
 | 0=>-1
 | k+1=>if gx l k a then (k:Int) else qH l a k
def eo (l:List Nd) (a:Nat):Int:=qH l a a
theorem zy {l:List Nd} {a:Int}:uu l a=true↔0≤a∧a < l.length:=by simp [uu]
theorem kB {l:List Nd} {i:Nat} (h:i < l.length):szI l i=l[i].size:=by simp [szI,h]
theorem Fb {l:List Nd} (h:isB l=true) {i:Nat} (hi:i < l.length):1≤l[i].size∧l[i].size≤(l.length:Int) - i∧(l[i].kind=1∨l[i].size≤1):=by
 simp only [isB,Ba] at h;exact gP l (l.length+1) 0 l.length (by omega) (Nat.le_refl _) h.2 i (by omega) hi hi
theorem tU (l:List Nd) (a:Nat):∀k, -1≤qH l a k∧qH l a k < k
 | 0=>by simp [qH]
 | k+1=>by
   rw [qH];split
   ·omega
   ·have:=tU l a k; omega
open Go.Proofs Go.Proofs.Tryz
theorem wx (σ:af) (l:List Int):bK σ 1 (bj l)=some (l.map vI):=by simp [bj,bK]
theorem pd {l:List Nd} (hb:isB l=true) {i:Nat} (h:i < l.length):1≤szI l i∧szI l i≤l.length:=by
 rw [kB h];have:=Fb hb h;omega
end Go.Vc
