/- Part 5 of the library of this proof. -/
import Derived.Test.YtdaelobhgmdoeaaGreatW4
set_option linter.all false
set_option maxHeartbeats 8000000
set_option maxRecDepth 100000
namespace Go.Vc
variable {P:Program} {n:Nat} {st:St} {Q:St->Prop} {k:List It}
def se{Rx:List (List Nat)}{A':List Nat}{i:Nat}(h:i∈dT Rx A'):i<Rx.length/\i∉A'/\∀k∈Rx.getD i [],k∈A':=by
 unfold dT at h;obtain⟨h1,h2⟩:=List.mem_filter.1 h;simp only[Ba,Bool.not_eq_true',List.all_eq_true]at h2;exact⟨by simpa using h1,by simpa using h2.1,λk hk=>by simpa using h2.2 k hk⟩
def tR:∀(n:Nat) (L:List Nat),L.Nodup->(∀k∈L,k<n)->L.length<=n/\(L.length=n->∀k,k<n->k∈L)
 |0,L,_,h=>by
  cases L with
  |nil=>simp
  |cons a L=>have:=h a (by simp);omega
 |n+1,L,hd,h=>by
  by_cases hn:n∈L
  .have h1:=tR n (L.erase n) (hd.erase n) λk hk=>by
    have h2:=h k (List.mem_of_mem_erase hk);have h3:k≠n:=λe=>by subst e;exact(List.Nodup.not_mem_erase hd) hk
    omega
   have h4:=List.length_erase_of_mem hn;have h5:0<L.length:=List.length_pos_of_mem hn;refine⟨by omega,λhe k hk=>?_⟩;by_cases hkn:k=n
   .rw[hkn];exact hn
   .exact List.mem_of_mem_erase (h1.2 (by omega) k (by omega))
  .have h1:=tR n L hd λk hk=>by
    have h2:=h k hk;have h3:k≠n:=λe=>hn (e▸hk);omega
   exact⟨by omega,λhe=>by omega⟩
variable {P:Program} {n:Nat} {st:St} {Q:St->Prop} {k:List It}
def TC(P:Program)(i:aN)(x:St)(K:St->Prop):Prop:=T P i x K\/(bx x.s i.g=some true/\match i.op with
 |.call fx xs=>∃f caps Post,fx.ev x.s=.fn f caps/\aD P f (xs.map (·.ev x.s)++caps) x.U Post/\∀r Z',Post r Z'->K ⟨aX x.s i.dst r,Z'⟩
 |_=>False)
def TC.mono{i:aN}{x:St}{K K':St->Prop}(hk:∀x,K x->K' x)(h:TC P i x K):TC P i x K':=by
 rcases h with h|⟨h1,h2⟩
 .exact .inl (h.mono hk)
 .refine .inr ⟨h1,?_⟩;split at h2
  .obtain⟨f,caps,Post,g1,g2,g3⟩:=h2;exact⟨f,caps,Post,g1,g2,λr Z' hp=>hk _ (g3 r Z' hp)⟩
  .exact h2.elim
def F6{F:Fr}(hn:F.n=n){o:Oper}{all:Array Oper}{x:St}{K:St->Prop}{a:Act}{w:World}(h:TC P (dk P n all o) x K)(hs:fK F x a w)
 {next:Act->World->Prop}{Q':Exit->Act->World->Prop}(Rp:∀x' a' w',fK F x' a' w'->K x'->next a' w'):
 if Region.wanted o (yielded all a.tmps)then RG P n o.op≠.bad/\o.wp P a w next Q' else next (a.put o.dst undef) w:=by
 rcases h with h|⟨hw,h⟩
 .exact wx hn h hs Rp
 subst hn;obtain⟨I,hs⟩:=hs;have VG:=rQ (P:=P) hs all o hw;rw[VG];simp only[if_true];have hdst:(dk P F.n all o).dst=o.dst.filter (·<F.n):=rfl;have hopc:(dk P F.n all o).op=RG P F.n o.op:=rfl;rw[hdst,hopc]at h;split at h
 .rename_i fx xs Rk;refine⟨λe=>?_,?_⟩
  .rw[Rk]at e;cases e
  obtain⟨f,caps,Post,h1,h2,h3⟩:=h;obtain⟨f0,args,argTypes,g1,rfl,rfl⟩:=me Rk;refine nM hs g1 h1 h2 λr Z' hp a' w' Ru=>?_;exact Rp _ a' w' Ru (h3 r Z' hp)
 .exact h.elim
def TnC(P:Program)(n:Nat)(ops:Array Oper)(i:Nat)(x:St)(K:St->Prop):Prop:=match ops[i]? with
 |some o=>TC P (dk P n ops o) x K
 |none=>K x
def wW(P:Program)(n:Nat)(ops:Array Oper)(Q:St->Prop):Nat->Array Bool->St->Prop
 |0,A',x=>Region.ready .any ops A'=[]/\Q x
 |f+1,A',x=>(Region.ready .any ops A'=[]->Q x)/\∀i∈Region.ready .any ops A',TnC P n ops i x (wW P n ops Q f (A'.setIfInBounds i true))
def lX{F:Fr}(hn:F.n=n){ops:Array Oper}{Q:St->Prop}{Q':Exit->Act->World->Prop}(hQ:∀x a w,fK F x a w->Q x->Q' .normal a w):
 ∀(f:Nat) (A':Array Bool) (x:St) (a:Act) (w:World),fK F x a w->wW P n ops Q f A' x->wpAnyIn F.eP 0 P .any ops Q' f A' a w
 |0,_,_,_,_,hs,h=>⟨h.1,hQ _ _ _ hs h.2⟩
 |f+1,A',x,a,w,hs,h=>by
  refine⟨λh0=>hQ _ _ _ hs (h.1 h0),λi hi=>?_⟩;have h1:=h.2 i hi;unfold TnC at h1;unfold wpOpIn;cases ho:ops[i]? with
  |none=>
   simp only[ho]at h1;exact lX hn hQ f _ x a w hs h1
  |some o=>
   simp only[ho]at h1;have h2:=F6 (Q':=Q') hn h1 hs λx' a' w' Ru hk=>lX hn hQ f _ x' a' w' Ru hk;by_cases hw:Region.wanted o (yielded ops a.tmps)=true
   .rw[if_pos hw]at h2;simp only[hw,if_true];exact H7 (mU h2.1) h2.2
   .rw[if_neg hw]at h2;simp only[hw];exact⟨λ_ _=>trivial,h2⟩
def tz(P:Program)(l:List aN)(rec:List Nat->St->Prop)(A':List Nat)(x:St):List Nat->Prop
 |[]=>True
 |i::is=>(match l[i]? with
   |some ins=>TC P ins x (rec (i::A'))
   |none=>False)/\tz P l rec A' x is
def ie(P:Program)(l:List aN)(Rx:List (List Nat))(Q:St->Prop):Nat->List Nat->St->Prop
 |0,A',x=>dT Rx A'=[]/\Q x
 |f+1,A',x=>match dT Rx A' with
   |[]=>Q x
   |i::is=>tz P l (ie P l Rx Q f) A' x (i::is)
def mT{l:List aN}{rec:List Nat->St->Prop}{A':List Nat}{x:St}:∀{is:List Nat},tz P l rec A' x is->∀i∈is,∃ins,l[i]?=some ins/\TC P ins x (rec (i::A'))
 |[],_,_,hi=>by cases hi
 |j::is,h,i,hi=>by
  obtain⟨h1,h2⟩:=h;rcases List.mem_cons.1 hi with rfl|hi
  .cases hl:l[i]? with
   |none=>rw[hl]at h1;exact h1.elim
   |some ins=>rw[hl]at h1;exact⟨ins,rfl,h1⟩
  .exact mT h2 i hi
def lx{ops:Array Oper}{Q:St->Prop}:∀(f:Nat) (arr:Array Bool) (A':List Nat) (x:St),arr.size=ops.size->(∀i,i<ops.size->arr.getD i true=A'.contains i)->
 (∀i∈A',i<ops.size)->ie P (ops.toList.map (dk P n ops)) (jx ops) Q f A' x->wW P n ops Q f arr x
 |0,arr,A',x,hs,hl,ho,h=>⟨by rw[vO hs hl ho];exact h.1,h.2⟩
 |f+1,arr,A',x,hs,hl,ho,h=>by
  have hr:=vO hs hl ho;unfold ie at h;refine⟨λh0=>?_,λi hi=>?_⟩
  .rw[hr]at h0;rw[h0]at h;exact h
  .rw[hr]at hi;have H':i<ops.size:=by
    have:=(List.mem_filter.1 hi).1;simpa[jx]using this
   have So:tz P (ops.toList.map (dk P n ops)) (ie P (ops.toList.map (dk P n ops)) (jx ops) Q f) A' x (dT (jx ops) A'):=by
    cases hrr:dT (jx ops) A' with
    |nil=>exact trivial
    |cons j js=>rw[hrr]at h;exact h
   obtain⟨ins,h1,h2⟩:=mT So i hi;have h3:ops[i]?=some ops[i]:=Array.getElem?_eq_getElem H';have h4:ins=dk P n ops ops[i]:=by simpa[H']using h1.symm
   unfold TnC;simp only[h3];rw[<-h4];refine h2.mono λx' RN=>lx f _ (i::A') x' (by simpa using hs) (λj hj=>?_) (λj hj=>?_) RN
   .by_cases e:j=i
    .subst e;rw[Array.getD_eq_getD_getElem?,Array.getElem?_setIfInBounds_self_of_lt (by omega)];simp
    .rw[Array.getD_eq_getD_getElem?,Array.getElem?_setIfInBounds_ne (λe'=>e e'.symm),<-Array.getD_eq_getD_getElem?,hl j hj];simp[e]
   .rcases List.mem_cons.1 hj with rfl|hj
    .exact H'
    .exact ho j hj
def ad.IQ(hm:P.follows .mixedOrders=true){l:List aN}{Rx:List (List Nat)}(h:ie P l Rx (λx=>ad P n k x Q) l.length [] st):ad P n (.code (.Ss l Rx)::k) st Q:=by
 intro F hn kt hk a w hs;obtain⟨z,TI,rfl,hy,SQ⟩:=eG hk;obtain⟨c0,rfl,SK⟩:=gB hy;have UX:∃id ops,c0=.region id ops true/\ops.toList.map (dk P n ops)=l/\jx ops=Rx:=by
  cases c0<;>simp only[dC,reduceCtorEq]at SK;rename_i id ops draw;cases draw
  .simp at SK
  .simp only[Bool.true_and]at SK;split at SK
   .cases SK
   split at SK
   .simp only[bJ.Ss.injEq]at SK;exact⟨id,ops,rfl,SK.1,SK.2⟩
   .simp at SK
 obtain⟨id,ops,rfl,rfl,rfl⟩:=UX;have Ru:fK F st a { w with drawn:=w.drawn+1 }:=by
  obtain⟨I,hs⟩:=hs;have hk:da (aG I st.U) (aG I st.U) w { w with drawn:=w.drawn+1 }:=λ_ _ h=>⟨h,rfl⟩
  refine⟨I,⟨⟨hs.sat.size,hs.sat.os,hs.sat.tape,hs.sat.output,hs.sat.same,hs.sat.fin,hs.sat.inj,λid o ho=>?_,hs.sat.fresh,hs.sat.UB⟩,hs.le,hs.size,hs.book.mB hk,λi hi=>?_⟩⟩
  .exact(hs.sat.obj id o ho).mono (dd.refl I) hk (Nat.le_refl _) (λ_ _ _ _=>rfl)
  .exact E'.mono (dd.refl I) hk (Nat.le_refl _) _ _ (hs.slot i hi)
 refine wpIn_region_any hm (lX (Q:=λx=>ad P n k x Q) hn (λx a w hs h=>h F hn TI SQ a w hs) _ _ _ _ _ Ru ?_);have:=lx (P:=P) (n:=n) (Q:=λx=>ad P n k x Q) (ops:=ops) ops.size (Array.replicate ops.size false) [] st (by simp) (λi hi=>by
  rw[Array.getD_eq_getD_getElem?,Array.getElem?_replicate,if_pos hi];simp) (by simp) (by simpa using h)
 exact this
def oM{l:List aN}{rec:List Nat->St->Prop}{A':List Nat}{x:St}:∀{is:List Nat},(∀i∈is,∃ins,l[i]?=some ins/\TC P ins x (rec (i::A')))->tz P l rec A' x is
 |[],_=>trivial
 |j::is,h=>by
  obtain⟨ins,h1,h2⟩:=h j (by simp);refine⟨by rw[h1];exact h2,oM λi hi=>h i (by simp[hi])⟩
variable {P:Program} {n:Nat} {st:St} {Q:St->Prop} {k:List It}
def ZN(P:Program)(i:aN)(x:St):Prop:=match i.dst with
 |some d=>QY P i x.s x.U (x.s d)
 |none=>∃v,QY P i x.s x.U v
def RE(P:Program)(l:List aN)(K:St->Prop):List Nat->St->Prop
 |[],x=>K x
 |m::its,x=>match l[m/2]? with
  |none=>False
  |some ins=>if m%2=0 then TC P ins x (RE P l K its)else ZN P ins x/\RE P l K its x
def bB(l:List aN)(i:Nat):aN:=(l[i]?).getD ⟨none,.bad,none⟩
def eU(Rw:List (List Nat))(i:Nat):List Nat:=Rw.getD i []
def dD(l:List aN)(Rw:List (List Nat))(j:Nat):Bool:=bw (bB l j).op != 0||(match(bB l j).dst with
 |some d=>(List.range l.length).any λi=>(bB l i).kL.contains d&&!(eU Rw i).contains j
 |none=>false)
def DC(l:List aN)(Rw:List (List Nat))(done:List Nat)(e:Nat):List Nat:=
 if dD l Rw e then done.filterMap λk=>if !(dD l Rw k)&&(!(jX (bB l k).op)&&!((eU Rw e).contains k))then some (2*k+1)else none else[]
def eB(l:List aN)(Rw:List (List Nat)):List Nat->List Nat->List Nat
 |_,[]=>[]
 |done,e::r=>2*e::(DC l Rw done e++eB l Rw (done++[e]) r)
def lM(p:Nat->Nat->Bool):List Nat->Bool
 |[]=>true
 |a::r=>r.all (p a)&&lM p r
def mr{p:Nat->Nat->Bool}:∀{a:List Nat} {b:List Nat} {x y:Nat},lM p (a++b)=true->x∈a->y∈b->p x y=true
 |[],_,_,_,_,h,_=>by cases h
 |c::a,b,x,y,hp,hx,hy=>by
  simp only[List.cons_append,lM,Ba]at hp;rcases List.mem_cons.1 hx with rfl|hx
  .exact List.all_eq_true.1 hp.1 y (List.mem_append_right _ hy)
  .exact mr hp.2 hx hy
def sN(f:Nat->List Nat):List Nat->List Nat->Bool
 |_,[]=>true
 |done,e::r=>(f e).all done.contains&&sN f (done++[e]) r
def qW{f:Nat->List Nat}:∀{r done:List Nat} {a:List Nat} {e:Nat} {b:List Nat},sN f done r=true->r=a++e::b->∀x∈f e,x∈done++a
 |[],_,a,e,b,_,h,_,_=>by simp at h
 |c::r,done,[],e,b,hB,h,x,hx=>by
  simp only[List.nil_append,List.cons.injEq]at h;obtain⟨rfl,rfl⟩:=h;simp only[sN,Ba]at hB;simpa using List.all_eq_true.1 hB.1 x hx
 |c::r,done,d::a,e,b,hB,h,x,hx=>by
  simp only[List.cons_append,List.cons.injEq]at h;obtain⟨rfl,rfl⟩:=h;simp only[sN,Ba]at hB;have:=qW hB.2 rfl x hx;simpa using this
def Ic(l:List aN)(Rx Rw:List (List Nat))(ord:List Nat):Bool:=
 (decide (ord.length=l.length)&&(decide (Rx.length=l.length)&&ord.all λi=>decide (i<l.length)))&&
 (lM (λa b=>decide (a≠b)) ord&&
 (sN (λi=>Rx.getD i []) [] ord&&
 ((List.range l.length).all (λj=>(eU Rw j).all λi=>(Rx.getD j []).any λd=>d==i||(eU Rw d).contains i)&&
 ((List.range l.length).all (λi=>(List.range l.length).all λj=>i==j||((bB l i).dst.isNone||(bB l i).dst != (bB l j).dst))&&
 (List.range l.length).all (λi=>(List.range l.length).all λj=>i==j||(match(bB l j).dst with
   |some d=>!((bB l i).kL.contains d)||((eU Rw i).contains j||(dD l Rw j&&(eU Rw j).contains i))
   |none=>true))))))
def eOk(l:List aN)(Rx Rw:List (List Nat))(ord:List Nat):Bool:=Ic l Rx Rw ord&&lM (λa b=>!(dD l Rw a)||(eU Rw b).contains a) ord
def qm:∀{l:List Nat},lM (λa b=>decide (a≠b)) l=true->l.Nodup
 |[],_=>List.nodup_nil
 |a::r,h=>by
  simp only[lM,Ba]at h;refine List.nodup_cons.2 ⟨λhm=>?_,qm h.2⟩;have:=List.all_eq_true.1 h.1 a hm;simp at this
structure EOkW(l:List aN)(Rx Rw:List (List Nat))(ord:List Nat):Prop where
 len:ord.length=l.length
 YZ:Rx.length=l.length
 lt:∀i∈ord,i<l.length
 nodup:ord.Nodup
 ahead:∀a e b,ord=a++e::b->∀x∈Rx.getD e [],x∈a
 anc:∀j,j<l.length->∀i∈eU Rw j,∃d∈Rx.getD j [],d=i\/i∈eU Rw d
 dsts:∀i j,i<l.length->j<l.length->i≠j->∀d,(bB l i).dst=some d->(bB l j).dst≠some d
 Za:∀i j,i<l.length->j<l.length->i≠j->∀d,(bB l j).dst=some d->d∈(bB l i).kL->j∈eU Rw i\/(dD l Rw j=true/\i∈eU Rw j)
def uZ{l:List aN}{Rx Rw:List (List Nat)}{ord:List Nat}(h:Ic l Rx Rw ord=true):EOkW l Rx Rw ord:=by
 simp only[Ic,Ba,decide_eq_true_eq]at h;obtain⟨⟨h1,h2,h3⟩,h4,h5,h6,h7,h8⟩:=h;refine⟨h1,h2,λi hi=>by simpa using List.all_eq_true.1 h3 i hi,qm h4,λa e b he x hx=>by simpa using qW h5 he x hx,?_,?_,?_⟩
 .intro j hj i hi;have:=List.all_eq_true.1 (List.all_eq_true.1 h6 j (by simpa using hj)) i hi;simp only[List.any_eq_true,Bool.or_eq_true,beq_iff_eq,List.contains_iff_mem]at this;exact this
 .intro i j hi hj RK d hd he;have:=List.all_eq_true.1 (List.all_eq_true.1 h7 i (by simpa using hi)) j (by simpa using hj);simp only[Bool.or_eq_true,beq_iff_eq,hd,he,Option.isNone_some,bne_self_eq_false,Bool.false_eq_true,or_false]at this;exact RK this
 .intro i j hi hj RK d hd hu;have:=List.all_eq_true.1 (List.all_eq_true.1 h8 i (by simpa using hi)) j (by simpa using hj);simp only[Bool.or_eq_true,beq_iff_eq,hd,Ba,Bool.not_eq_true',List.contains_iff_mem]at this;rcases this with h|h|h
  .exact absurd h RK
  .have hc:(bB l i).kL.contains d=true:=List.contains_iff_mem.2 hu;rw[hc]at h;cases h
  .exact h
structure EOk(l:List aN)(Rx Rw:List (List Nat))(ord:List Nat):Prop extends EOkW l Rx Rw ord where
 Tq:∀a b x y,ord=a++b->x∈a->y∈b->dD l Rw x=true->x∈eU Rw y
def yq{l:List aN}{Rx Rw:List (List Nat)}{ord:List Nat}(h:eOk l Rx Rw ord=true):EOk l Rx Rw ord:=by
 simp only[eOk,Ba]at h;refine⟨uZ h.1,λa b x y he hx hy YF=>?_⟩;have h9:=h.2;rw[he]at h9;have:=mr h9 hx hy;simp only[YF,Bool.not_true,Bool.false_or,List.contains_iff_mem]at this;exact this
def EOkW.closed{l:List aN}{Rx Rw:List (List Nat)}{ord:List Nat}(h:EOkW l Rx Rw ord){L:List Nat}(hc:∀m∈L,∀d∈Rx.getD m [],d∈L)(Yd:∀i,i<l.length->i∈ord):
 ∀(m:Nat) (a:List Nat) (j:Nat) (b:List Nat),a.length<m->ord=a++j::b->(∀d∈Rx.getD j [],d∈L)->∀i∈eU Rw j,i∈L:=by
 intro m
 induction m with
 |zero=>intro a j b ha;omega
 |succ m ih=>
  intro a j b ha he hd i hi;have hj:j<l.length:=h.lt j (by rw[he];simp);obtain⟨d,h1,h2⟩:=h.anc j hj i hi;rcases h2 with rfl|h2
  .exact hd d h1
  .have SM:=h.ahead a j b he d h1;obtain⟨a1,a2,rfl⟩:=List.append_of_mem SM;exact ih a1 d (a2++j::b) (by simp at ha;omega) (by rw[he];simp) (λd' h'=>hc d (hd d h1) d' h') i h2
def lK{i:aN}{s s':Nat->V}(h:∀u∈i.kL,s u=s' u):bx s i.g=bx s' i.g:=by
 cases hg:i.g with
 |none=>rfl
 |some g=>
  obtain⟨x,b⟩:=g;have:x.ev s=x.ev s':=by
   cases x with
   |t t=>exact h t (List.mem_filterMap.2 ⟨.t t,List.mem_append_right _ (by simp[hg]),rfl⟩)
   |c v=>rfl
  simp only[bx,this]
def yD{i:aN}{s s':Nat->V}(h:∀u∈i.kL,s u=s' u):∀x∈i.op.xs,x.ev s=x.ev s':=λx hx=>by
 cases x with
 |t t=>exact h t (Cg hx rfl)
 |c v=>rfl
def x8{i:aN}{s s':Nat->V}{U:ai}{v:V}(h:∀u∈i.kL,s u=s' u)(hq:QY P i s U v):QY P i s' U v:=by
 unfold QY at*;rw[<-lK h];exact hq.imp (λ⟨h1,h2⟩=>⟨h1,uo (yD h) h2⟩) id
def xJ{i:aN}{x y:St}{K K':St->Prop}(h:∀u∈i.kL,x.s u=y.s u)(RH:x.U=y.U)(hk:∀r Z',K ⟨aX x.s i.dst r,Z'⟩->K' ⟨aX y.s i.dst r,Z'⟩)(ht:TC P i x K):TC P i y K':=by
 have hx:=yD h;rcases ht with ht|⟨hw,ht⟩
 .refine .inl ?_;unfold T at*;rw[<-lK h];split<;>rename_i ho<;>simp only[ho]at ht
  .unfold TO at*;split<;>rename_i UY<;>simp only[UY]at ht
   .obtain⟨g1,v,g2,g3⟩:=ht;obtain⟨e1,e2⟩:=qR (U:=y.U) hx;exact⟨e2.1 g1,v,by rw[<-e1,<-RH];exact g2,by rw[<-RH];exact hk _ _ g3⟩
   .split at ht
    .rename_i fx xs Rk;obtain⟨f,caps,v,g1,g2,g3⟩:=ht;refine⟨f,caps,v,?_,?_,by rw[<-RH];exact hk _ _ g3⟩
     .rw[<-hx fx (by rw[Rk];simp[Rt.xs])];exact g1
     .rw[<-pJ (s:=x.s) (s':=y.s) λz hz=>hx z (by rw[Rk];simp[Rt.xs,hz]),<-RH];exact g2
    .exact ht.elim
   .split at ht
    .rename_i sz xa xv Rk;obtain⟨Z',g1,g2⟩:=ht;refine⟨Z',?_,hk _ _ g2⟩;rw[<-hx xa (by rw[Rk];simp[Rt.xs]),<-hx xv (by rw[Rk];simp[Rt.xs]),<-RH];exact g1
    .exact ht.elim
   .obtain⟨g,g1,g2⟩:=ht;refine⟨g,by rw[<-fw hx,<-RH];exact g1,λid M'=>hk _ _ (g2 id (by rw[RH];exact M'))⟩
  .rw[<-RH];exact hk _ _ ht
 .refine .inr ⟨by rw[<-lK h];exact hw,?_⟩;split at ht
  .rename_i fx xs Rk;obtain⟨f,caps,Post,g1,g2,g3⟩:=ht;refine⟨f,caps,Post,?_,?_,λr Z' hp=>hk _ _ (g3 r Z' hp)⟩
   .rw[<-hx fx (by rw[Rk];simp[Rt.xs])];exact g1
   .rw[<-pJ (s:=x.s) (s':=y.s) λz hz=>hx z (by rw[Rk];simp[Rt.xs,hz]),<-RH];exact g2
  .exact ht.elim
structure jw(P:Program)(l:List aN)(Rx Rw:List (List Nat))(ord:List Nat)(K:St->Prop)(L:List Nat)(y:St)(done rest:List Nat)(x:St):Prop where
 split:ord=done++rest
 sub:∀i∈L,i∈done
 nodup:L.Nodup
 closed:∀m∈L,∀d∈Rx.getD m [],d∈L
 Tq:∀i∈done,dD l Rw i=true->i∈L
 store:y.U=x.U
 slot:∀d,(∀i∈done,i∉L->(bB l i).dst≠some d)->y.s d=x.s d
 lag:∀i∈done,i∉L->ZN P (bB l i) x
 go:RE P l K (eB l Rw done rest) x
def gS{l:List aN}{Rw:List (List Nat)}{e:Nat}(h:dD l Rw e=false)(he:e<l.length)(RK:e∉eU Rw e):bw (bB l e).op=0/\∀d,(bB l e).dst=some d->d∉(bB l e).kL:=by
 simp only[dD,Bool.or_eq_false_iff,bne_eq_false_iff_eq]at h;refine⟨h.1,λd hd hu=>?_⟩;have h2:=h.2;rw[hd]at h2;simp only[List.any_eq_false,List.mem_range,Ba,Bool.not_eq_true',not_and,Bool.not_eq_false]at h2;have:=h2 e he (List.contains_iff_mem.2 hu);exact RK (List.contains_iff_mem.1 this)
def B5{l:List aN}{K:St->Prop}{e:Nat}{its:List Nat}{x:St}(he:e<l.length):RE P l K (2*e::its) x↔TC P (bB l e) x (RE P l K its):=by
 have h1:2*e/2=e:=by omega
 have h2:2*e%2=0:=by omega
 rw[RE,h1,List.getElem?_eq_getElem he];simp only[if_pos h2,bB,List.getElem?_eq_getElem he,Option.getD_some]
def MM{l:List aN}{K:St->Prop}{e:Nat}{its:List Nat}{x:St}(he:e<l.length):RE P l K ((2*e+1)::its) x↔ZN P (bB l e) x/\RE P l K its x:=by
 have h1:(2*e+1)/2=e:=by omega
 have h2:¬(2*e+1)%2=0:=by omega
 rw[RE,h1,List.getElem?_eq_getElem he];simp only[if_neg h2,bB,List.getElem?_eq_getElem he,Option.getD_some]
def rS{l:List aN}{K:St->Prop}{its:List Nat}{x:St}(p:Nat->Bool):∀{done:List Nat},(∀i∈done,i<l.length)->RE P l K ((done.filterMap λk=>if p k then some (2*k+1)else none)++its) x->
 (∀k∈done,p k=true->ZN P (bB l k) x)/\RE P l K its x
 |[],_,h=>⟨by simp,h⟩
 |a::r,hl,h=>by
  rw[List.filterMap_cons]at h;cases hp:p a with
  |false=>
   simp only[hp,Bool.false_eq_true,if_false]at h;obtain⟨h1,h2⟩:=rS p (λi hi=>hl i (by simp[hi])) h;refine⟨λk hk hpk=>?_,h2⟩;rcases List.mem_cons.1 hk with rfl|hk
   .rw[hp]at hpk;cases hpk
   .exact h1 k hk hpk
  |true=>
   simp only[hp,if_true,List.cons_append]at h;rw[MM (hl a (by simp))]at h;obtain⟨h1,h2⟩:=rS p (λi hi=>hl i (by simp[hi])) h.2;refine⟨λk hk hpk=>?_,h2⟩;rcases List.mem_cons.1 hk with rfl|hk
   .exact h.1
   .exact h1 k hk hpk
section
variable {l:List aN} {Rx Rw:List (List Nat)} {ord:List Nat} {K:St->Prop} (hE:EOkW l Rx Rw ord)
include hE
def EOkW.mem(i:Nat)(hi:i<l.length):i∈ord:=(tR l.length ord hE.nodup hE.lt).2 hE.len i hi
def EOkW.lP{a:List Nat}{j:Nat}{b:List Nat}(he:ord=a++j::b):∀i∈eU Rw j,i∈a:=by
 have hc:∀m∈a,∀d∈Rx.getD m [],d∈a:=λm hm d hd=>by
  obtain⟨a1,a2,rfl⟩:=List.append_of_mem hm;have:=hE.ahead a1 m (a2++j::b) (by rw[he];simp) d hd;simp[this]
 exact hE.closed hc hE.mem (a.length+1) a j b (by omega) he (λd hd=>hE.ahead a j b he d hd)
def EOkW.mO{j:Nat}(hj:j<l.length):j∉eU Rw j:=λh=>by
 obtain⟨a,b,he⟩:=List.append_of_mem (hE.mem j hj);have h1:=hE.lP he j h;have:=hE.nodup;rw[he]at this;have:=(List.nodup_append.1 this).2.2 j h1 j (by simp);exact this rfl
def rL{i:Nat}{x:St}{e:Nat}{v:V}{Z':ai}(hi:i<l.length)(he:e<l.length)(RK:i≠e)(hu:∀d,(bB l e).dst=some d->d∉(bB l i).kL)
 (hq:∀v,QY P (bB l i) x.s x.U v->QY P (bB l i) x.s Z' v)(h:ZN P (bB l i) x):ZN P (bB l i) ⟨aX x.s (bB l e).dst v,Z'⟩:=by
 unfold ZN at*;have hq':∀v',QY P (bB l i) x.s x.U v'->QY P (bB l i) (aX x.s (bB l e).dst v) Z' v':=λv' hv=>(fY hu).2 (hq v' hv);cases hd:(bB l i).dst with
 |none=>rw[hd]at h;obtain⟨v',h⟩:=h;exact⟨v',hq' v' h⟩
 |some d=>
  rw[hd]at h;simp only at h|-;have:aX x.s (bB l e).dst v d=x.s d:=by
   have:=hE.dsts i e hi he RK d hd;cases Ye:(bB l e).dst with
   |none=>rfl
   |some d'=>
    rw[Ye]at this;simp only[aX];rw[if_neg (λe'=>this (by rw[e']))]
  rw[this];exact hq' _ h
def jw.adv{L:List Nat}{y:St}:∀{rest done:List Nat} {x:St},jw P l Rx Rw ord K L y done rest x->
 ∃done' Xl x',jw P l Rx Rw ord K L y done' Xl x'/\∀h r,Xl=h::r->dD l Rw h=true
 |[],done,x,h=>⟨done,[],x,h,by simp⟩
 |e::rest,done,x,h=>by
  cases Um:dD l Rw e with
  |true=>exact⟨done,e::rest,x,h,λa r he=>by cases he;exact Um⟩
  |false=>
   have U6:e<l.length:=hE.lt e (by rw[h.split];simp);obtain⟨hk,hself⟩:=gS Um U6 (hE.mO U6);have SR:=hE.nodup;rw[h.split]at SR;have hed:e∉done:=λhm=>(List.nodup_append.1 SR).2.2 e hm e (by simp) rfl;have Yf:e∉L:=λhm=>hed (h.sub e hm);have Tj:=h.go;rw[eB,B5 U6,DC,if_neg (by simp[Um]),List.nil_append]at Tj;have hT:T P (bB l e) x (RE P l K (eB l Rw (done++[e]) rest)):=by
    rcases Tj with Tj|⟨_,Tj⟩
    .exact Tj
    .exfalso;revert Tj hk;generalize (bB l e).op=op;intro hk Tj;split at Tj
     .simp[bw]at hk
     .exact Tj
   obtain⟨v,hv,Yg⟩:=(cA (by simp[fB,hk])).1 hT;refine jw.adv (rest:=rest) (done:=done++[e]) (x:=⟨aX x.s (bB l e).dst v,x.U⟩) ⟨by rw[h.split];simp,λi hi=>by simp[h.sub i hi],h.nodup,h.closed,λi hi TV=>?_,h.store,λd hd=>?_,λi hi UZ=>?_,Yg⟩
   .rcases List.mem_append.1 hi with hi|hi
    .exact h.Tq i hi TV
    .simp only[List.mem_singleton]at hi;rw[hi,Um]at TV;cases TV
   .have h1:=h.slot d λi hi UZ=>hd i (by simp[hi]) UZ;have h2:=hd e (by simp) Yf;rw[h1];simp only;cases Ye:(bB l e).dst with
    |none=>rfl
    |some d'=>
     rw[Ye]at h2;simp only[aX];rw[if_neg (λe'=>h2 (by rw[e']))]
   .by_cases TV:i=e
    .subst TV;unfold ZN;cases hd:(bB l i).dst with
     |none=>exact⟨v,hv⟩
     |some d=>
      simp only;have e1:aX x.s (some d) v d=v:=by simp[aX]
      rw[e1];exact(fY (λt ht=>by cases ht;exact hself d hd)).2 hv
    .have M':i∈done:=by
      rcases List.mem_append.1 hi with hi|hi
      .exact hi
      .simp only[List.mem_singleton]at hi;exact absurd hi TV
     have Uc:i<l.length:=hE.lt i (by rw[h.split];simp[M']);refine rL hE Uc U6 TV (λd hd hu=>?_) (λv hv=>hv) (h.lag i M' UZ);rcases hE.Za i e Uc U6 TV d hd hu with h1|⟨h1,_⟩
     .obtain⟨a,b,We⟩:=List.append_of_mem M';have h2:=hE.lP (a:=a) (j:=i) (b:=b++e::rest) (by rw[h.split,We];simp) e h1;exact hed (by rw[We];simp[h2])
     .rw[Um]at h1;cases h1
end
section
variable {l:List aN} {Rx Rw:List (List Nat)} {ord:List Nat} {K:St->Prop} (hE:EOk l Rx Rw ord)
include hE
def o5:∀(f:Nat) (L:List Nat) (y:St) (done rest:List Nat) (x:St),f+L.length=l.length->jw P l Rx Rw ord K L y done rest x->ie P l Rx K f L y:=by
 intro f
 induction f with
 |zero=>
  intro L y done rest x hf h;have So:∀i,i<l.length->i∈L:=(tR l.length L h.nodup λi hi=>hE.lt i (by rw[h.split];simp[h.sub i hi])).2 (by omega);have SR:=hE.nodup;rw[h.split]at SR;have UP:rest=[]:=by
   cases rest with
   |nil=>rfl
   |cons e r=>
    exfalso;have U6:e<l.length:=hE.lt e (by rw[h.split];simp);exact(List.nodup_append.1 SR).2.2 e (h.sub e (So e U6)) e (by simp) rfl
  subst UP;have hyx:y=x:=by
   obtain⟨s,U⟩:=y;obtain⟨s',Z'⟩:=x;have h1:U=Z':=h.store;have h2:s=s':=funext λd=>h.slot d λi hi UZ=>absurd (So i (hE.lt i (by rw[h.split];simp[hi]))) UZ;rw[h1,h2]
  refine⟨?_,by rw[hyx];exact h.go⟩;unfold dT;rw[List.filter_eq_nil_iff];intro i hi;simp only[List.mem_range,hE.YZ]at hi;simp[So i hi]
 |succ f ih=>
  intro L y done rest x hf h;obtain⟨done,rest,x,h,YG⟩:=jw.adv hE.toEOkW h;have SR:=hE.nodup;rw[h.split]at SR;have hmemL:∀i∈L,i<l.length:=λi hi=>hE.lt i (by rw[h.split];simp[h.sub i hi]);have key:tz P l (ie P l Rx K f) L y (dT Rx L):=by
   refine oM λi hi=>?_;obtain⟨Uc,UZ,Xm⟩:=se hi;rw[hE.YZ]at Uc;refine⟨bB l i,by simp[bB,List.getElem?_eq_getElem Uc],?_⟩;obtain⟨pa,pb,hpe⟩:=List.append_of_mem (hE.mem i Uc);have Uy:∀j∈eU Rw i,j∈L:=hE.closed h.closed hE.mem (pa.length+1) pa i pb (by omega) hpe Xm;have Xn:∀u∈(bB l i).kL,x.s u=y.s u:=λu hu=>(h.slot u λj hj Vl hd=>by
    have VJ:j<l.length:=hE.lt j (by rw[h.split];simp[hj]);by_cases Ub:j=i
    .subst Ub;cases SX:dD l Rw j with
     |true=>exact Vl (h.Tq j hj SX)
     |false=>exact(gS SX VJ (hE.mO VJ)).2 u hd hu
    .rcases hE.Za i j Uc VJ (λe=>Ub e.symm) u hd hu with h1|⟨h1,_⟩
     .exact Vl (Uy j h1)
     .exact Vl (h.Tq j hj h1)).symm
   by_cases M':i∈done
   .have TV:dD l Rw i=false:=by
     cases TV:dD l Rw i with
     |false=>rfl
     |true=>exact absurd (h.Tq i M' TV) UZ
    obtain⟨hk,_⟩:=gS TV Uc (hE.mO Uc);have hq:=h.lag i M' UZ;obtain⟨v,hv,hvd⟩:∃v,QY P (bB l i) x.s x.U v/\∀d,(bB l i).dst=some d->x.s d=v:=by
     unfold ZN at hq;cases hd:(bB l i).dst with
     |none=>rw[hd]at hq;obtain⟨v,hq⟩:=hq;exact⟨v,hq,by simp⟩
     |some d=>rw[hd]at hq;exact⟨_,hq,λd' e=>by cases e;rfl⟩
    refine .inl ((cA (by simp[fB,hk])).2 ⟨v,?_,?_⟩)
    .rw[h.store];exact x8 Xn hv
    .refine ih (i::L) _ done rest x (by simp only[List.length_cons];omega) ⟨h.split,λj hj=>?_,List.nodup_cons.2 ⟨UZ,h.nodup⟩,λm hm d hd=>?_,λj hj SX=>by simp[h.Tq j hj SX],h.store,λd hd=>?_,λj hj Vl=>h.lag j hj (λhm=>Vl (by simp[hm])),h.go⟩
     .rcases List.mem_cons.1 hj with rfl|hj
      .exact M'
      .exact h.sub j hj
     .rcases List.mem_cons.1 hm with rfl|hm
      .simp[Xm d hd]
      .simp[h.closed m hm d hd]
     .simp only;by_cases Yh:(bB l i).dst=some d
      .rw[Yh];simp only[aX];rw[if_pos trivial];exact(hvd d Yh).symm
      .have h1:=h.slot d λj hj Vl=>by
        by_cases Ub:j=i
        .rw[Ub];exact Yh
        .exact hd j hj (by simp[Ub,Vl])
       rw[<-h1];cases Ye:(bB l i).dst with
       |none=>rfl
       |some d'=>
        rw[Ye]at Yh;simp only[aX];rw[if_neg (λe'=>Yh (by rw[e']))]
   .have hir:i∈rest:=by
     have:=hE.mem i Uc;rw[h.split]at this;exact(List.mem_append.1 this).resolve_left M'
    obtain⟨Vv,rr,rfl⟩:∃a r,rest=a::r:=by
     cases rest with
     |nil=>cases hir
     |cons a r=>exact⟨a,r,rfl⟩
    have Um:=YG Vv rr rfl;have hh0:Vv∉done:=λhm=>(List.nodup_append.1 SR).2.2 Vv hm Vv (by simp) rfl;have hih:i=Vv:=by
     rcases List.mem_cons.1 hir with e|hir
     .exact e
     .exfalso;have:=hE.Tq (done++[Vv]) rr Vv i (by rw[h.split];simp) (by simp) hir Um;exact hh0 (h.sub _ (Uy _ this))
    subst hih;have Tj:=h.go;rw[eB,B5 Uc]at Tj;refine xJ Xn h.store.symm (λr Z' hK=>?_) Tj;rw[DC,if_pos Um]at hK;obtain⟨hck,Yg⟩:=rS (λk=>!(dD l Rw k)&&(!(jX (bB l k).op)&&!((eU Rw i).contains k))) (λj hj=>hE.lt j (by rw[h.split];simp[hj])) hK;refine ih (i::L) _ (done++[i]) rr ⟨aX x.s (bB l i).dst r,Z'⟩ (by simp only[List.length_cons];omega) ⟨by rw[h.split];simp,λj hj=>?_,List.nodup_cons.2 ⟨UZ,h.nodup⟩,λm hm d hd=>?_,λj hj SX=>?_,rfl,λd hd=>?_,λj hj Vl=>?_,Yg⟩
    .rcases List.mem_cons.1 hj with rfl|hj
     .simp
     .simp[h.sub j hj]
    .rcases List.mem_cons.1 hm with rfl|hm
     .simp[Xm d hd]
     .simp[h.closed m hm d hd]
    .rcases List.mem_append.1 hj with hj|hj
     .simp[h.Tq j hj SX]
     .simp only[List.mem_singleton]at hj;simp[hj]
    .have h1:(bB l i).dst=some d\/y.s d=x.s d:=by
      by_cases Yh:(bB l i).dst=some d
      .exact .inl Yh
      .exact .inr (h.slot d λj hj Vl=>hd j (by simp[hj]) (by
        simp only[List.mem_cons,not_or];exact⟨λe=>M' (e▸hj),Vl⟩))
     simp only;cases Ye:(bB l i).dst with
     |none=>rw[Ye]at h1;exact h1.resolve_left (by simp)
     |some d'=>
      simp only[aX];split
      .rfl
      .rename_i RK;rw[Ye]at h1;exact h1.resolve_left (λe=>RK (by cases e;rfl))
    .have Zb:j∈done:=by
      rcases List.mem_append.1 hj with hj|hj
      .exact hj
      .simp only[List.mem_singleton]at hj;exact absurd (by simp[hj]) Vl
     have WK:j∉L:=λhm=>Vl (by simp[hm]);have VJ:j<l.length:=hE.lt j (by rw[h.split];simp[Zb]);have Ub:j≠i:=λe=>M' (e▸Zb);have SX:dD l Rw j=false:=by
      cases SX:dD l Rw j with
      |false=>rfl
      |true=>exact absurd (h.Tq j Zb SX) WK
     cases hsf:jX (bB l j).op with
     |true=>
      refine rL hE.toEOkW VJ Uc Ub (λd hd hu=>?_) (λv hv=>jJ hsf hv) (h.lag j Zb WK);rcases hE.Za j i VJ Uc Ub d hd hu with h1|⟨_,h1⟩
      .obtain⟨a,b,We⟩:=List.append_of_mem Zb;have h2:=hE.lP (a:=a) (j:=j) (b:=b++i::rr) (by rw[h.split,We];simp) i h1;exact M' (by rw[We];simp[h2])
      .exact WK (Uy j h1)
     |false=>
      refine hck j Zb ?_;simp only[SX,hsf,Bool.not_false,Bool.true_and,Bool.not_eq_true'];cases hc:(eU Rw i).contains j with
      |false=>rfl
      |true=>exact absurd (Uy j (List.contains_iff_mem.1 hc)) WK
  cases hr:dT Rx L with
  |cons a r=>unfold ie;rw[hr]at key|-;exact key
  |nil=>
   exfalso;have:∃i,i∈ord/\i∉L:=by
    by_cases hx:∃i,i∈ord/\i∉L
    .exact hx
    .exfalso;have G':∀i∈ord,i∈L:=λi hi=>Classical.byContradiction λhn=>hx ⟨i,hi,hn⟩;have h1:=hE.nodup.length_le_of_subset G';have:=hE.len;omega
   obtain⟨i,hi,UZ⟩:=this;have first:∀(a b:List Nat),ord=a++b->(∀j∈a,j∈L)->(∃i∈b,i∉L)->∃a' e b',ord=a'++e::b'/\(∀j∈a',j∈L)/\e∉L:=by
    intro a b
    induction b generalizing a with
    |nil=>rintro _ _ ⟨i,h,_⟩;cases h
    |cons e b ihb=>
     intro he ha hx;by_cases Yf:e∈L
     .refine ihb (a++[e]) (by rw[he];simp) (λj hj=>?_) ?_
      .rcases List.mem_append.1 hj with hj|hj
       .exact ha j hj
       .simp only[List.mem_singleton]at hj;rw[hj];exact Yf
      .obtain⟨i,hi,UZ⟩:=hx;rcases List.mem_cons.1 hi with rfl|hi
       .exact absurd Yf UZ
       .exact⟨i,hi,UZ⟩
     .exact⟨a,e,b,he,ha,Yf⟩
   obtain⟨a,e,b,he,ha,Yf⟩:=first [] ord rfl (by simp) ⟨i,hi,UZ⟩
   have U6:e<l.length:=hE.lt e (by rw[he];simp);have:e∈dT Rx L:=by
    unfold dT;refine List.mem_filter.2 ⟨by simp[hE.YZ,U6],?_⟩;simp only[Ba,Bool.not_eq_true',List.all_eq_true];refine⟨by simpa using Yf,λd hd=>?_⟩;simpa using ha d (hE.ahead a e b he d hd)
   rw[hr]at this;cases this
end
def ad.rz(hm:P.follows .mixedOrders=true){l:List aN}{Rx:List (List Nat)}(ord:List Nat)(Rw:List (List Nat))(its:List Nat)(hB:eOk l Rx Rw ord=true)(hi:eB l Rw [] ord=its)
 (h:RE P l (λx=>ad P n k x Q) its st):ad P n (.code (.Ss l Rx)::k) st Q:=by
 have hE:=yq hB;refine ad.IQ hm (o5 hE l.length [] st [] ord st (by simp) ⟨rfl,by simp,List.nodup_nil,by simp,by simp,rfl,λ_ _=>rfl,by simp,by rw[hi];exact h⟩)
def RE.Sg{l:List aN}{K:St->Prop}(rest:List Nat):∀(idx:List Nat) (sg:List aN) {x:St},(idx.map λm=>l[m/2]?)=sg.map some->(idx.all λm=>m%2==0)=true->
 Go P n (.d sg [.stop (RE P l K rest)]) x (λ_=>False)->RE P l K (idx++rest) x
 |[],[],_,_,_,h=>h
 |[],_::_,_,h,_,_=>by simp at h
 |_::_,[],_,h,_,_=>by simp at h
 |m::idx,i::sg,x,h,hev,hg=>by
  simp only[List.map_cons,List.cons.injEq]at h;simp only[List.all_cons,Ba,beq_iff_eq]at hev;show RE P l K (m::(idx++rest)) x;rw[RE,h.1];simp only[if_pos hev.1];exact .inl (T.mono (λx' RN=>RE.Sg rest idx sg h.2 (by simpa using hev.2) RN) hg)
def RE.call{l:List aN}{K:St->Prop}{m:Nat}{rest:List Nat}{x:St}{i:aN}(hi:l[m/2]?=some i)(hm:m%2=0){fx:VX}{xs:List VX}(hw:bx x.s i.g=some true)(ho:i.op=.call fx xs){f:FuncId}{caps:List V}(hf:fx.ev x.s=.fn f caps)
 {Post:V->ai->Prop}(hc:aD P f (xs.map (·.ev x.s)++caps) x.U Post)(h:∀r Z',Post r Z'->RE P l K rest ⟨aX x.s i.dst r,Z'⟩):RE P l K (m::rest) x:=by
 rw[RE,hi];simp only[if_pos hm];exact .inr ⟨hw,by rw[ho];exact⟨f,caps,Post,hf,hc,h⟩⟩
def RE.aB{l:List aN}{K:St->Prop}{m:Nat}{rest:List Nat}{x:St}{i:aN}(hi:l[m/2]?=some i)(hm:m%2=0){fx:VX}{xs:List VX}(hw:bx x.s i.g=some true)(ho:i.op=.call fx xs){f:FuncId}{caps:List V}(hf:fx.ev x.s=.fn f caps)
 {v:V}(hc:aD P f (xs.map (·.ev x.s)++caps) x.U λr Z'=>r=v/\Z'=x.U)(h:RE P l K rest ⟨aX x.s i.dst v,x.U⟩):RE P l K (m::rest) x:=
 RE.call hi hm hw ho hf hc λr Z' ⟨h1,h2⟩=>by subst h1;subst h2;exact h
def RE.SB{l:List aN}{K:St->Prop}{m:Nat}{rest:List Nat}{x:St}{i:aN}(hi:l[m/2]?=some i)(hm:m%2=1){d:Nat}(hd:i.dst=some d)(hw:bx x.s i.g=some true)(hk:bw i.op=0)(hp:fi x.s i.op)
 (hv:aL x.U x.s i.op=some (x.s d))(h:RE P l K rest x):RE P l K (m::rest) x:=by
 rw[RE,hi];simp only[hm,Nat.one_ne_zero,if_false];refine⟨?_,h⟩;unfold ZN;rw[hd];refine .inl ⟨hw,?_⟩;unfold QO;simp only[hk];exact⟨hp,hv⟩
variable {P:Program} {n:Nat} {st:St} {Q:St->Prop} {k:List It}
def ad.P7{k1 k2:List It}(τ:St->Prop)(h1:ad P n (k1++[.stop τ]) st Q)(h2:∀st,τ st->ad P n k2 st Q):ad P n (k1++k2) st Q:=by
 intro F hn kt hk a w hs;obtain⟨kt1,kt2,rfl,TH,Uq⟩:=List.map_eq_append_iff.1 hk;have key:∀(kt:List KI) e a w,kN P F Q (kt++[.stop τ]) e a w->kN P F Q (kt++kt2) e a w:=by
  intro kt
  induction kt with
  |nil=>
   intro e a w h;simp only[List.nil_append]at h|-;cases e with
   |normal=>obtain⟨st,h3,h4⟩:=h;exact h2 st h3 F hn kt2 Uq a w h4
   |ret=>obtain⟨_,h3⟩:=h;exact kK h3 kt2
   |_=>obtain⟨h3,_⟩:=h;rcases h3 with h3|h3<;>cases h3
  |cons y kt ih=>
   intro e a w h;cases y with
   |code c=>cases e<;>first|exact wpIn_mono h ih|exact ih _ _ _ h
   |inBlock id=>
    cases e<;>simp only[List.cons_append,kN,Exit.inBlock]at h|-<;>(try split at h)<;>(try split)<;>first|exact ih _ _ _ h|contradiction
   |stop μ=>cases e<;>first|exact h|exact ih _ _ _ h
   |ops all l=>cases e<;>first|exact l4 ih l a w h|exact ih _ _ _ h
 exact key kt1 _ a w (h1 F hn (kt1++[.stop τ]) (by simp[KI.it,TH]) a w hs)
def ad.fe{x:bJ}{id:Nat}(τ:St->Prop)(μ:Nat->St->Prop)(m:Nat)(h0:μ m st)
 (hr:∀m st,μ m st->ad P n (.code x::.stop (λTP=>∃m',m'<m/\μ m' TP)::[.inBlock id,.stop τ]) st Q)(h2:∀st,τ st->ad P n k st Q):
 ad P n (.code (.loop x)::.inBlock id::k) st Q:=
 ad.P7 (P:=P) (n:=n) (Q:=Q) (st:=st) (k1:=[.code (.loop x),.inBlock id]) (k2:=k) τ (ad.loop μ m h0 hr) h2
open Go.Proofs Go.Proofs.Tryz
def Ht{f:P'}{s:Sd}(hf:f.ok)(h:Tb s.a/\Tb s.b):Tb (jU f s).a/\Tb (jU f s).b:=by
 obtain⟨⟨x1,x2⟩,_,⟨w1,w2⟩,_⟩:=hf;obtain⟨⟨a1,a2⟩,b1,b2⟩:=h;unfold jU;split
 .exact⟨⟨by simp only;omega,by simp only;omega⟩,b1,b2⟩
 .exact⟨⟨a1,a2⟩,by simp only;omega,by simp only;omega⟩
def Ai:∀{l:List P'} {s:Sd},(∀f∈l,f.ok)->Tb s.a/\Tb s.b->Tb (l.foldl (λs f=>jU f s) s).a/\Tb (l.foldl (λs f=>jU f s) s).b
 |[],_,_,h=>h
 |f::l,s,hl,h=>Ai (l:=l) (λg hg=>hl g (by simp[hg])) (Ht (hl f (by simp)) h)
def lO{l:List P'}{y high:Int}{s:Sd}(hl:∀f∈l,f.ok)(h:Tb s.a/\Tb s.b):Tb (dZ l y high s).a/\Tb (dZ l y high s).b:=
 Ai (λf hf=>hl f (List.mem_filter.1 hf).1) h
def tE{s:Sd}:∀{l:List P'},(∀f∈l,jU f s=s)->l.foldl (λs f=>jU f s) s=s
 |[],_=>rfl
 |f::l,h=>by rw[List.foldl_cons,h f (by simp)];exact tE λg hg=>h g (by simp[hg])
def nB(s:Sd):∀(l:List P') (a:Int×Bool),(l.foldl (jv s) a=a\/∃f∈l,l.foldl (jv s) a=(f.y+f.h,true))/\(a.2=true->(l.foldl (jv s) a).2=true)/\((∃f∈l,jU f s≠s)->(l.foldl (jv s) a).2=true)
 |[],a=>⟨.inl rfl,id,by simp⟩
 |f::l,a=>by
  obtain⟨h1,h2,h3⟩:=nB s l (jv s a f);have hf:jv s a f=a\/jv s a f=(f.y+f.h,true):=by unfold jv;split<;>simp
  refine⟨?_,λha=>h2 ?_,?_⟩
  .rw[List.foldl_cons];rcases h1 with h1|⟨g,hg,h1⟩
   .rw[h1];rcases hf with hf|hf
    .exact .inl hf
    .exact .inr ⟨f,by simp,hf⟩
   .exact .inr ⟨g,by simp[hg],h1⟩
  .rcases hf with hf|hf<;>rw[hf]
   exact ha
  .rintro⟨g,hg,RK⟩;rcases List.mem_cons.1 hg with rfl|hg
   .refine h2 ?_;unfold jv;split
    .rename_i h;exact(h.resolve_left RK).1
    .rfl
   .exact h3 ⟨g,hg,RK⟩
def CB{y high:Int}{f:P'}(h:iG y high f=true):y<f.y+f.h:=by
 refine Classical.byContradiction λhn=>?_;have:nU ⟨f.y,f.y+f.h⟩ ⟨y,y+max high 1⟩=⟨0,0⟩:=by
  unfold nU;rw[if_pos];simp only;omega
 simp[iG,this]at h
def iC{l:List P'}{y high:Int}{s:Sd}(h:(gA l y high s).2=true):∃f∈l,y<f.y+f.h/\(gA l y high s).1=f.y+f.h:=by
 rcases(nB s (l.filter (iG y high)) (0,false)).1 with h1|⟨f,hf,h1⟩
 .unfold gA at h;rw[h1]at h;cases h
 .obtain⟨hl,hm⟩:=List.mem_filter.1 hf;exact⟨f,hl,CB hm,by unfold gA;rw[h1]⟩
def nF{l:List P'}{y high:Int}{s:Sd}(h:dZ l y high s≠s):(gA l y high s).2=true:=by
 refine(nB s (l.filter (iG y high)) (0,false)).2.2 (Classical.byContradiction λhn=>h (tE λf hf=>Classical.byContradiction λhe=>hn ⟨f,hf,he⟩))
def gtJ(l:List P')(y:Int):Nat:=(l.filter λf=>decide (y<f.y+f.h)).length
def filter_lt{α:Type}{p q:α->Bool}(hpq:∀x,q x=true->p x=true):∀{l:List α},(l.filter q).length<=(l.filter p).length/\((∃x∈l,p x=true/\q x=false)->(l.filter q).length<(l.filter p).length)
 |[]=>by simp
 |a::l=>by
  obtain⟨h1,h2⟩:=filter_lt hpq (l:=l);cases hp:p a<;>cases hq:q a
  .simp only[List.filter_cons,hp,hq,Bool.false_eq_true,if_false];refine⟨h1,?_⟩;rintro⟨x,hx,h3,h4⟩;rcases List.mem_cons.1 hx with rfl|hx
   .rw[hp]at h3;cases h3
   .exact h2 ⟨x,hx,h3,h4⟩
  .rw[hpq a hq]at hp;cases hp
  .simp only[List.filter_cons,hp,hq,Bool.false_eq_true,if_false,if_true,List.length_cons];exact⟨by omega,λ_=>by omega⟩
  .simp only[List.filter_cons,hp,hq,if_true,List.length_cons];refine⟨by omega,?_⟩;rintro⟨x,hx,h3,h4⟩;rcases List.mem_cons.1 hx with rfl|hx
   .rw[hq]at h4;cases h4
   .have:=h2 ⟨x,hx,h3,h4⟩;omega
def wB{l:List P'}{y z:Int}(h:∃f∈l,y<f.y+f.h/\z=f.y+f.h):gtJ l z<gtJ l y:=by
 obtain⟨f,hf,h1,rfl⟩:=h;exact(filter_lt (p:=λg:P'=>decide (y<g.y+g.h)) (q:=λg:P'=>decide (f.y+f.h<g.y+g.h)) (λg hg=>by simp at hg|-;omega) (l:=l)).2 ⟨f,hf,by simpa using h1,by simp⟩
def vN(l:List P')(w high:Int)(s:Sd)(y:Int):Bool:=decide (w<=jL (dZ l y high s))||decide (dZ l y high s=s)
def oS(l:List P')(w high:Int)(s:Sd):Nat->Int->Int
 |0,y=>y
 |k+1,y=>if vN l w high s y then y else oS l w high s k (gA l y high s).1
def kD(l:List P')(w high:Int)(s:Sd)(y:Int):Int:=oS l w high s l.length y
def Fq{l:List P'}{y high:Int}{s:Sd}(hl:∀f∈l,f.ok)(h:(gA l y high s).2=true):Tb (gA l y high s).1:=by
 obtain⟨f,hf,_,e⟩:=iC h;obtain⟨_,⟨a1,a2⟩,_,b1,b2⟩:=hl f hf;rw[e];exact⟨by omega,by omega⟩
def qE(l:List P')(high y:Int)(s:Sd):V:=.agg [vI s.a,vI s.b,aH l,vI high,vI y]
def BD(l:List P')(high y:Int)(s:Sd)(hl:l.length<=1000000)(Rg:∀f∈l,f.ok)(hy:Tb y)(hh:Bq high):aV prog 269 [qE l high y s] (aZ (dZ l y high s)):=λU=>by
 refine Qa.r (by simp[JR]) ?_;have hs:=aa.refl U;refine ad.mix 3 ?_;have e1:(aH l).cells=[aH l]:=rfl;have e2:(aH l).stays=true:=rfl;apply sR;simp only[go_sem,seval,JR,qE,e1,e2];refine af λi1 Z1 s1 a1 f1=>?_;have z1:=hs.none f1;replace hs:=hs.trans s1;simp only[go_sem,seval,a1,e1,e2];refine af λi2 Z2 s2 a2 f2=>?_;have n12:=aq a1 f2;replace a1:=s2 _ _ a1;have z2:=hs.none f2;replace hs:=hs.trans s2;simp only[go_sem,seval,a2,a1];refine ad.aB rfl rfl rfl (Ck l y high s hl Rg hy hh _) ?_;apply sR;simp only[go_sem,seval,a2,aZ];exact ay.pure (hs.aE z2) rfl
def Hh(l:List P')(w high y:Int)(s:Sd)(hl:l.length<=1000000)(Rg:∀f∈l,f.ok)(hy:Tb y)(hh:Bq high)(Tl:Tb s.a/\Tb s.b):aV prog 267 [qE l high y s,vI w] (.bool (vN l w high s y)):=λU=>by
 refine OU.r (by simp[KE]) ?_;have hs:=aa.refl U;refine ad.mix 5 ?_;have hb:=BD l high y s hl Rg hy hh;have hlen:=EE (dZ l y high s) (lO Rg Tl).1 (lO Rg Tl).2;unfold vN;generalize dZ l y high s=b at*;have e1:(aH l).cells=[aH l]:=rfl;have e2:(aH l).stays=true:=rfl;apply sR;simp only[go_sem,seval,KE,qE,e1,e2];refine af λi2 Z2 s2 a2 f2=>?_;have z2:=hs.none f2;replace hs:=hs.trans s2;simp only[go_sem,seval,a2,e1,e2];refine Go.bP rfl rfl rfl hb ?_;apply sG;simp only[go_sem,seval];refine Go.bP rfl rfl rfl hlen ?_;by_cases h1:w<=jL b
 .have q:(w<=jL b)=True:=eq_true h1;apply sG;simp only[go_sem,seval,q,a2];exact ay.pure hs (by simp[h1])
 .have q:(w<=jL b)=False:=eq_false h1;apply sG;simp only[go_sem,seval,q,a2];refine Go.bP rfl rfl rfl hb ?_;obtain⟨b1,b2⟩:=b;obtain⟨s1,s2⟩:=s;apply sG;simp only[go_sem,seval,a2,aZ];refine ay.pure hs ?_;by_cases h2:b1=s1<;>by_cases h3:b2=s2<;>simp[h1,h2,h3]
def F0(l:List P')(w high y:Int)(s:Sd)(hl:l.length<=1000000)(Rg:∀f∈l,f.ok)(hy:Tb y)(hh:Bq high)(Tl:Tb s.a/\Tb s.b):
 aV prog 222 [aH l,vI w,vI high,vI y,aZ s] (.Rf [aZ (dZ l (kD l w high s y) high s),vI (kD l w high s y)]):=λU=>by
 refine Qg.r (by simp[Lt]) ?_;have hs:=aa.refl U;refine ad.mix 13 ?_;have e1:(aH l).cells=[aH l]:=rfl;have e2:(aH l).stays=true:=rfl;apply sR;simp only[go_sem,seval,Lt,aZ];refine af λi9 Z9 s9 a9 f9=>?_;have z9:=hs.none f9;replace hs:=hs.trans s9;simp only[go_sem,seval,a9];refine af λRP Ws Tz RU f10=>?_;have n910:=aq a9 f10;replace a9:=Tz _ _ a9;have U7:=hs.none f10;replace hs:=hs.trans Tz;simp only[go_sem,seval,RU,a9,e1,e2];refine af λSN Z12 WV a12 f12=>?_;have n912:=aq a9 f12;replace a9:=WV _ _ a9;have YH:=aq RU f12;replace RU:=WV _ _ RU;have z12:=hs.none f12;replace hs:=hs.trans WV;simp only[go_sem,seval,a12,RU,a9,e1,e2];generalize hq12:C' _ SN _=Y12;replace a12:=(congrFun hq12 SN).symm.trans ag;replace a9:=((congrFun hq12 i9).symm.trans (ab n912)).trans a9;replace RU:=((congrFun hq12 RP).symm.trans (ab YH)).trans RU;replace hs:=Eq.subst (motive:=aa _) hq12 (hs.aE z12);clear hq12;obtain⟨z,hz⟩:∃z,z=kD l w high s y:=⟨_,rfl⟩
 rw[<-hz];refine ad.fe (λst=>∃J,st.U=J/\aa U J/\J SN=some ⟨344,5,[qE l high z s]⟩/\J RP=some ⟨288,2,[.agg [vI 0,vI 0]]⟩/\st.s 10=.ptr RP 0 0/\st.s 12=.ptr SN 0 0/\Tb z)
  (λm st=>∃(y':Int) (k:Nat),m=gtJ l y'/\gtJ l y'<=k/\z=oS l w high s k y'/\Tb y'/\aa U st.U/\st.U SN=some ⟨344,5,[qE l high y' s]⟩/\st.U RP=some ⟨288,2,[.agg [vI 0,vI 0]]⟩/\st.s 1=vI w/\st.s 10=.ptr RP 0 0/\st.s 12=.ptr SN 0 0) (gtJ l y) ?_ ?_ ?_
 .exact⟨y,l.length,rfl,List.length_filter_le _ _,hz,hy,hs,a12,RU,rfl,rfl,rfl⟩
 .rintro m ⟨S,J⟩ ⟨y',k,rfl,hk,hzk,hy',hs,Xo,XM,k1,WW,TN⟩;simp only at hs Xo XM k1 WW TN;refine ad.mix 13 ?_;rw[qE]at Xo;apply sR;simp only[go_sem,seval,k1,WW,TN,Xo,e1,e2];refine ad.aB rfl rfl rfl (Hh l w high y' s hl Rg hy' hh Tl _) ?_;cases hf:vN l w high s y'
  .have RK:dZ l y' high s≠s:=λe=>by simp[vN,e]at hf
   have hfd:=nF RK;have hdec:=wB (iC hfd);apply sR;simp only[go_sem,seval,k1,WW,TN,Xo,e1,e2];refine ad.aB rfl rfl rfl (D4 l y' high s hl Rg hy' hh _) ?_;apply sR;simp only[go_sem,seval,k1,WW,TN,Xo,e1,e2];obtain⟨k',rfl⟩:∃k',k=k'+1:=⟨k-1,by omega⟩
   rw[oS,hf]at hzk;have n:SN≠RP:=YH.symm;refine⟨_,hdec,_,k',rfl,by omega,by simpa using hzk,Fq Rg hfd,hs.aE z12,rfl,?_⟩;rw[ab YH];exact XM
  .have hzy:z=y':=by cases k<;>simp[oS,hf]at hzk<;>exact hzk
   subst hzy;apply sR;simp only[go_sem,seval,k1,WW,TN,Xo,e1,e2];exact⟨J,rfl,hs,Xo,XM,hy'⟩
 .rintro⟨S,J⟩ ⟨X',rfl,hs,Xo,XM,WW,TN,hz2⟩;simp only at hs Xo XM WW TN;rw[qE]at Xo;refine ad.mix 13 ?_;apply sR;simp only[go_sem,seval,WW,TN];refine ad.rz (by kernel_rfl) [0,2,3,1,4,5] [[],[0],[],[2],[0,1],[0,1,2,3,4]] [0,4,6,2,7,8,7,10] (by kernel_rfl) (by kernel_rfl) ?_;refine RE.Sg (n:=0) [2,7,8,7,10] [0,4,6] [⟨(.some 35),(.load .true 5 (.t 12)),.none⟩,⟨(.some 37),(.Rz .false 4 1 (.t 12)),.none⟩,⟨(.some 38),(.load .false 1 (.t 37)),.none⟩] rfl rfl ?_;apply sG;simp only[go_sem,seval,WW,TN,Xo,e1,e2];refine RE.aB rfl rfl rfl rfl rfl (BD l high z s hl Rg hz2 hh _) ?_;refine RE.SB rfl rfl rfl rfl rfl trivial (by simp only[go_sem,seval,WW,TN,Xo,XM,e1,e2]) ?_;refine RE.Sg (n:=0) [7,10] [8] [⟨.none,(.store 2 (.t 10) (.t 36)),.none⟩] rfl rfl ?_;apply sG;simp only[go_sem,seval,WW,TN,Xo,XM,aZ,e1,e2];refine RE.SB rfl rfl rfl rfl rfl trivial (by simp only[go_sem,seval,WW,TN,Xo,XM,ab YH.symm,e1,e2]) ?_;refine RE.Sg (n:=0) [] [10] [⟨(.some 11),(.Rn (.t 38)),.none⟩] rfl rfl ?_;apply sG;simp only[go_sem,seval,WW,TN,Xo,XM,aZ,e1,e2];apply sR;simp only[go_sem,seval,WW,TN,ag,aZ];exact ay.pure (hs.aE U7) rfl
open Go.Proofs Go.Proofs.Tryz
def mq(e sz b:Nat):Rc:=⟨8,.seq (.RR false [⟨some 2,.Rn (.c .aC),none⟩]) (.seq (.seq (.RR false [⟨some 3,.Rn (.t 0),none⟩,⟨some 4,.SW false (.t 3) (.c (.iface 0 .undef)),none⟩]) (.cond (.t 4) (.seq (.RR false [⟨some 2,.Rn (.c .aC),none⟩]) .ret) .skip)) (.seq (.RR false [⟨some 5,.bp e sz [],none⟩,⟨some 6,.Rn (.t 0),none⟩,⟨some 7,.append e sz b (.t 5) (.t 6),none⟩,⟨some 2,.Rn (.t 7),none⟩]) .ret)),[.tmp (.t 2)]⟩
def oO{P:Program}{f:FuncId}{fn:Func}(hf:P.funcs[f]?=some fn){e sz b:Nat}(hc:cfn P fn=some (mq e sz b))(hk:eF P f=true)(rows:List V)(hb:rows.length*(b+1)<=140737488355328)(U:ai):
 aD P f [.sl sz rows] U λr Z'=>aa U Z'/\aT U Z' e sz r rows:=by
 refine aD.jY hf hc hk (by simp[mq]) ?_;refine ad.mix 3 ?_
 (refine ad.bN Tm.nothing 8 ?_;simp only[go_sem,seval,nQ,mq])
 refine ad.Dt rfl rfl rfl λt ht=>?_;cases t
 .apply sR;simp only[go_sem,seval];refine af λUJ Z1 s1 a1 f1=>?_;obtain⟨Rr,hd,Sv⟩:=(aT.new (K:=U) (e:=e) (sz:=sz) (n:=0) (rows:=[]) rfl a1 f1).dst (aa.refl _);have X6:∀U,bR U sz (.sl sz rows)=some rows:=λU=>by simp[bR]
  simp only[go_sem,seval,hd,X6,hb];refine fM λWg Z2 s2 a2 f2=>?_;have TQ:=(Sv U (aa.refl _) Z1 s1).trans s2;simp only[go_sem,seval];exact⟨_,_,aa.refl _,Wk.refl (aa.refl _) _,TQ,aT.new (by simp) a2 (s1.none f2)⟩
 .apply sR;simp only[go_sem,seval];obtain rfl:rows=[]:=ht rfl;exact⟨_,_,aa.refl _,Wk.refl (aa.refl _) _,aa.refl _,aT.start⟩
def zD{P:Program}{f:FuncId}{fn:Func}(hf:P.funcs[f]?=some fn){e sz b:Nat}(hc:cfn P fn=some (mq e sz b))(hk:eF P f=true)(rows:List V)(hb:rows.length*(b+1)<=140737488355328):
 aV P f [.sl sz rows] (.sl sz rows):=λU=>(oO hf hc hk rows hb U).GS λ_ _ h=>h.2.Gu h.1 rfl
def ar(l:List P'):(aH l).cells=[aH l]:=rfl
def au(l:List P'):(aH l).stays=true:=rfl
def la{tell:P'->Int×Bool}{l:List P'}(h:(ee tell l).2=true):∃f∈l,(ee tell l).1=(tell f).1/\(tell f).2=true:=by
 have key:∀(l:List P') (a:Int×Bool),l.foldl (tL tell) a=a\/∃f∈l,l.foldl (tL tell) a=((tell f).1,true)/\(tell f).2=true:=by
  intro l
  induction l with
  |nil=>intro a;exact .inl rfl
  |cons g l ih=>
   intro a;rw[List.foldl_cons];rcases ih (tL tell a g)with h|⟨f,hf,h,h'⟩
   .rw[h];unfold tL;split
    .rename_i hc;exact .inr ⟨g,by simp,rfl,hc.1⟩
    .exact .inl rfl
   .exact .inr ⟨f,by simp[hf],h,h'⟩
 rcases key l (0,false)with h1|⟨f,hf,h1,h2⟩
 .unfold ee at h;rw[h1]at h;cases h
 .exact⟨f,hf,by unfold ee;rw[h1],h2⟩
def nq(l:List P')(w high:Int)(s:Sd)(y:Int):Bool:=!(gA l y high s).2||decide (jL (dZ l y high s)>=w)
def kE(l:List P')(w high:Int)(s:Sd):Nat->Int->Int
 |0,y=>y
 |k+1,y=>if nq l w high s y then y else kE l w high s k (gA l y high s).1
def oV(l:List P')(w high:Int)(s:Sd)(y:Int):Int:=kE l w high s l.length y
def ye(f:P')(l:List P')(s:Sd):V:=.agg [vI f.node,vI f.side,vI f.anchor,vI f.x,vI f.y,vI f.w,vI f.h,aH l,vI s.a,vI s.b]
def HX(l:List P')(f:P')(y:Int)(s:Sd)(hl:l.length<=1000000)(Rg:∀f∈l,f.ok)(hy:Tb y)(hh:Bq f.h)(Tl:Tb s.a/\Tb s.b):
 aV prog 309 [ye f l s,vI y] (.Rf [aZ (dZ l (oV l f.w f.h s y) f.h s),vI (oV l f.w f.h s y)]):=λU=>by
 refine Od.r (by simp[LM]) ?_;have hs:=aa.refl U;refine ad.mix 9 ?_;apply sR;simp only[go_sem,seval,LM,ye,ar,au];refine af λi2 Z2 s2 a2 f2=>?_;have z2:=hs.none f2;replace hs:=hs.trans s2;simp only[go_sem,seval,a2,ar,au];refine af λi4 Z4 s4 a4 f4=>?_;have Yb:=aq a2 f4;replace a2:=s4 _ _ a2;have z4:=hs.none f4;replace hs:=hs.trans s4;simp only[go_sem,seval,a4,a2];obtain⟨z,hz⟩:∃z,z=oV l f.w f.h s y:=⟨_,rfl⟩
 rw[<-hz];refine ad.loop (λm st=>∃(y':Int) (k:Nat),m=gtJ l y'/\gtJ l y'<=k/\z=kE l f.w f.h s k y'/\Tb y'/\aa U st.U/\st.U i2=some ⟨388,10,[ye f l s]⟩/\st.U i4=some ⟨288,2,[.agg [vI 0,vI 0]]⟩/\st.s 1=vI y'/\st.s 2=.ptr i2 0 0/\st.s 4=.ptr i4 0 0) (gtJ l y) ?_ ?_
 .exact⟨y,l.length,rfl,List.length_filter_le _ _,hz,hy,hs,a2,a4,rfl,rfl,rfl⟩
 .rintro m ⟨S,J⟩ ⟨y',k,rfl,hk,hzk,hy',hs,b2,b4,k1,k2,k4⟩;simp only at hs b2 b4 k1 k2 k4;refine ad.mix 9 ?_;rw[ye]at b2;have hb:=lO (y:=y') (high:=f.h) Rg Tl;apply sR;simp only[go_sem,seval,k1,k2,k4,b2,ar,au];refine ad.aB rfl rfl rfl (Ck l y' f.h s hl Rg hy' hh _) ?_;apply sR;simp only[go_sem,seval,aZ];refine af λi6 Z6 s6 a6 f6=>?_;have n26:=aq b2 f6;have Zd:=aq b4 f6;replace b2:=s6 _ _ b2;replace b4:=s6 _ _ b4;have z6:=hs.none f6;replace hs:=hs.trans s6;simp only[go_sem,seval,a6,b2,k1,k2,k4,ab n26,ar,au];generalize hq:C' _ i6 _=Y6;have a6':=(congrFun hq i6).symm.trans ag;have b2':=((congrFun hq i2).symm.trans (ab n26)).trans b2;have b4':=((congrFun hq i4).symm.trans (ab Zd)).trans b4;replace hs:=Eq.subst (motive:=aa _) hq (hs.aE z6);refine ad.aB rfl rfl rfl (D4 l y' f.h s hl Rg hy' hh _) ?_;have hex:nq l f.w f.h s y'=true->z=y':=λh=>by cases k<;>simp[kE,h]at hzk<;>exact hzk
  have hlen:=EE (dZ l y' f.h s) hb.1 hb.2;have Tj:nq l f.w f.h s y'=false->∃k',k=k'+1/\gtJ l (gA l y' f.h s).1<gtJ l y'/\z=kE l f.w f.h s k' (gA l y' f.h s).1/\Tb (gA l y' f.h s).1:=λh=>by
   have h2:(gA l y' f.h s).2=true:=by
    simp only[nq,Bool.or_eq_false_iff,Bool.not_eq_false']at h;exact h.1
   have hdec:=wB (iC h2);obtain⟨k',rfl⟩:∃k',k=k'+1:=⟨k-1,by omega⟩
   rw[kE,h]at hzk;exact⟨k',rfl,hdec,by simpa using hzk,Fq Rg h2⟩
  unfold nq at hex Tj;cases hn:(gA l y' f.h s).2
  .rw[hn]at hex;obtain rfl:=hex (by simp);apply sR;simp only[go_sem,seval,k1,k2,k4,a6',b4',b2'];exact ay.pure (hs.aE z4) rfl
  .rw[hn]at hex Tj;apply sR;simp only[go_sem,seval,k1,k2,k4,a6',b2'];refine Go.bP rfl rfl rfl hlen ?_;by_cases hw:jL (dZ l y' f.h s)>=f.w
   .have q:(jL (dZ l y' f.h s)>=f.w)=True:=eq_true hw;obtain rfl:=hex (by simp[hw]);apply sG;simp only[go_sem,seval,k1,k2,k4,a6',b4',b2',q,ar,au];exact ay.pure (hs.aE z4) rfl
   .have q:(jL (dZ l y' f.h s)>=f.w)=False:=eq_false hw;obtain⟨k',rfl,h1,h2,h3⟩:=Tj (by simp[hw]);apply sG;simp only[go_sem,seval,k1,k2,k4,a6',b4',b2',q,ar,au];refine⟨_,h1,_,k',rfl,by omega,h2,h3,hs,?_⟩;exact⟨by rw[ye],rfl⟩
structure WOk(ws:List Int)(space:Int):Prop where
 len:ws.length<=100000
 Xp:∀x∈ws,0<=x/\x<=1099511627776
 s0:0<=space
 s1:space<=1099511627776
def gn(space:Int):List Int->Nat->Int->List (Nat×Int)
 |[],_,_=>[]
 |x::r,k,n=>(k+1,n+space+x)::gn space r (k+1) (n+space+x)
def oN(space width:Int):List Int->Nat->Int->Nat×Int
 |[],k,n=>(k,n)
 |x::r,k,n=>if n+space+x>width then(k,n)else oN space width r (k+1) (n+space+x)
def j5(ws:List Int)(space width:Int)(i:Nat):Nat×Int:=oN space width (ws.drop (i+1)) (i+1) (ws.getD i 0)
def qP(space width:Int):∀(r:List Int) (k:Nat) (n:Int),k<=(oN space width r k n).1/\(oN space width r k n).1<=k+r.length
 |[],k,n=>by simp[oN]
 |x::r,k,n=>by
  rw[oN];split
  .simp
  .have:=qP space width r (k+1) (n+space+x);simp only[List.length_cons];omega
def Ag{ws:List Int}{space width:Int}{i:Nat}(h:i<ws.length):i<(j5 ws space width i).1/\(j5 ws space width i).1<=ws.length:=by
 have:=qP space width (ws.drop (i+1)) (i+1) (ws.getD i 0);rw[List.length_drop]at this;unfold j5;omega
def WOk.get{ws:List Int}{space:Int}(h:WOk ws space){i:Nat}(hi:i<ws.length):0<=ws[i]/\ws[i]<=1099511627776:=h.Xp _ (List.getElem_mem hi)
open Go.Proofs Go.Proofs.Tryz
def ldI(U:ai)(l:List Int):bS U false 1 (.rp (bn l))=some (bn l):=rfl
def aj(l:List Int):(bn l).cells=[bn l]:=rfl
def av(l:List Int):(bn l).stays=true:=rfl
def gO{U:ai}{l:List Int}{i:Nat}(h:i<l.length):bQ U 1 (bn l) (.int .i64 i)=some (.rp (vI l[i])):=by simp[bn,bQ,h]
def fG(l:List Int):dz false (bn l)=some (.int .i64 l.length):=by simp[bn,dz]
def j0(ws:List Int)(space:Int):V:=.agg [bn ws,vI space]
def LR(ws:List Int)(space:Int):gx false 0 1 (.rp (j0 ws space))=some (.rp (bn ws)):=rfl
def Mg(ws:List Int)(space:Int):gx false 1 1 (.rp (j0 ws space))=some (.rp (vI space)):=rfl
def zE(ws:List Int)(space:Int):(j0 ws space).cells=[bn ws,vI space]:=rfl
def yg(ws:List Int)(space:Int):(j0 ws space).stays=true:=rfl
def NF(ws:List Int)(space i:Int):aV prog 326 [j0 ws space,vI i] (.bool (decide (i<0\/i>=ws.length))):=λU=>by
 refine QE.r (by simp[MD]) ?_;have hs:=aa.refl U;have hn:=fG ws;apply sR;simp only[go_sem,seval,MD,j0,aj,av];refine af λi2 Z2 s2 a2 f2=>?_;have z2:=hs.none f2;replace hs:=hs.trans s2;by_cases h:i<0
 .have q:(i<0)=True:=eq_true h;simp only[go_sem,seval,a2,q,aj,av];exact ay.pure hs (by simp[h])
 .have q:(i<0)=False:=eq_false h;simp only[go_sem,seval,a2,q,hn,aj,av];exact ay.pure hs (by simp[h])
def fO(l:List (Nat×Int)):List (List V):=l.map λp=>[vI p.1,vI p.2]
def CG(ws:List Int)(space:Int)(hw:WOk ws space)(i:Nat)(hi:i<ws.length):Iter prog 335 [.rp (j0 ws space),.rp (vI i)] (fO (gn space (ws.drop i) i (0-space))):=by
 refine⟨NA.c,λRF τ Jx Z0 hy hJ=>?_⟩;refine(NA.r (by simp[LP]) ?_).2;have RX:=hw.s0;have Tl:=hw.s1;have US:=hw.len;have hn:=fG ws;have r0:Rq .i64 (0-space):=ao (by omega) (by omega);refine ad.mix 6 ?_;apply sR;simp only[BB,seval,<-decide_not,bw,fi,aL,cQ,eN,ej,eK,dY,ct,jS,bI,fC,dN,fq,cM,cP,bF,iN,dg,cT,ck,Sk,jV,dc,cc,iM,dI,cd,df,cY,kT,binBV,bW,dq,V.cells,V.stays,Tm.nothing,LP,ldI,LR,Mg,r0];refine ad.loop (λm st=>∃(pre:List (Nat×Int)) (j:Nat) (n:Int) (ZJ:ai),m=ws.length-j/\i<=j/\j<=ws.length/\-1099511627776<=n/\n<=2199023255552*j/\gn space (ws.drop i) i (0-space)=pre++gn space (ws.drop j) j n/\
  τ (fO pre) ZJ/\aa ZJ st.U/\st.s 0=.yl RF/\st.s 1=.rp (j0 ws space)/\st.s 4=vI n/\st.s 5=vI j) (ws.length-i) ?_ ?_
 .exact⟨[],i,0-space,Z0,rfl,by omega,by omega,by omega,by omega,rfl,hJ,aa.refl _,rfl,rfl,rfl,rfl⟩
 .rintro m ⟨s,Z'⟩ ⟨pre,j,n,ZJ,rfl,hij,hj,hn1,hn2,TJ,hJp,G',t0,t1,t4,t5⟩;simp only at G' t0 t1 t4 t5;refine ad.mix 6 ?_;by_cases H':j<ws.length
  .have q:((j:Int)<ws.length)=True:=eq_true (by omega);have hx:=hw.get H';have Q9:=λU=>gO (U:=U) H';rw[List.drop_eq_getElem_cons H',gn]at TJ;generalize ws[j]=w at*;have r1:Rq .i64 (space+w):=ao (by omega) (by omega);have r2:Rq .i64 (n+(space+w)):=ao (by omega) (by omega);have r3:Rq .i64 ((j:Int)+1):=ao (by omega) (by omega);have en:n+space+w=n+(space+w):=by omega
   rw[en]at TJ;have e:fO (gn space (ws.drop i) i (0-space))=fO pre++[vI ((j:Int)+1),vI (n+(space+w))]::fO (gn space (ws.drop (j+1)) (j+1) (n+(space+w))):=by rw[TJ];simp[fO]
   apply sR;simp only[BB,seval,<-decide_not,bw,fi,aL,cQ,eN,ej,eK,dY,ct,jS,bI,fC,dN,fq,cM,cP,bF,iN,dg,cT,ck,Sk,jV,dc,cc,iM,dI,cd,df,cY,kT,binBV,bW,dq,V.cells,V.stays,Tm.nothing,t0,t1,t4,t5,hn,q,ldI,LR,Mg,Q9,r1,r2,r3];refine ad.mA (Post:=λb Z2=>∃RC,bh ZJ Z' RC Z2/\((b=true/\τ (fO pre++[[vI ((j:Int)+1),vI (n+(space+w))]]) RC)\/(b=false/\Jx (fO pre++[[vI ((j:Int)+1),vI (n+(space+w))]]) RC))) rfl rfl rfl (hy _ _ _ ZJ Z' e hJp G') ?_;rintro b Z2 ⟨RC,Sl,R6⟩;rcases R6 with⟨rfl,R6⟩|⟨rfl,R6⟩
   .apply sR;simp only[go_sem,seval,t0,t1,t4,t5,r3];refine⟨_,?_,pre++[(j+1,n+(space+w))],j+1,n+(space+w),RC,rfl,by omega,by omega,by omega,by omega,by rw[TJ];simp,?_,Sl.1,by simp[t0,t1]⟩
    .omega
    .simpa[fO]using R6
   .apply sR;simp only[go_sem,seval,t0,t1,t4,t5];refine⟨_,RC,Sl.1,Wk.refl Sl.1 _,.inr ⟨_,?_,R6⟩⟩;rw[e];exact⟨fO (gn space (ws.drop (j+1)) (j+1) (n+(space+w))),by simp⟩
  .have q:((j:Int)<ws.length)=False:=eq_false (by omega);apply sR;simp only[BB,seval,<-decide_not,bw,fi,aL,cQ,eN,ej,eK,dY,ct,jS,bI,fC,dN,fq,cM,cP,bF,iN,dg,cT,ck,Sk,jV,dc,cc,iM,dI,cd,df,cY,kT,binBV,bW,dq,V.cells,V.stays,Tm.nothing,t0,t1,t4,t5,hn,q,ldI,LR,Mg];rw[show ws.drop j=[]from List.drop_of_length_le (by omega),gn,List.append_nil]at TJ;exact⟨_,ZJ,G',Wk.refl G' _,.inl (by rw[TJ];exact hJp)⟩
def Je(ws:List Int)(space:Int)(i:Int):aV prog 327 [j0 ws space,vI i] (.fn 335 [.rp (j0 ws space),.rp (vI i)]):=λU=>by
 refine PN.r (by simp[KW]) ?_;refine ad.mix 4 ?_;have q1:=zE ws space;have q2:=yg ws space;have q3:(j0 ws space).cells.length=2:=rfl;generalize hx:j0 ws space=x at*;apply sR;simp only[go_sem,seval,KW,q1,q2,q3];refine af λUJ Z1 s1 a1 f1=>?_;simp only[go_sem,seval];refine af λWg Z2 s2 a2 f2=>?_;simp only[go_sem,seval];exact⟨_,U,s1.trans s2,Wk.fn (vs':=[.rp x,.rp (vI i)]) ⟨Wk.ptr (s1.trans s2) (s2 _ _ a1) f1,Wk.ptr (s1.trans s2) a2 (s1.none f2),trivial⟩,rfl,rfl⟩
open Go.Proofs Go.Proofs.Tryz
def vK(i j n:Int):V:=.agg [vI i,vI j,vI n]
structure TkJ(ws:List Int)(space width:Int)(i:Nat)(U:ai)(Yi id7 id8 id10:Nat)(pre:List (List V))(v:V)(ZJ:ai):Prop where
 sub:aa U ZJ
 r8:ZJ id8=some ⟨377,3,[.agg [vI 0,vI 0,vI 0]]⟩
 r6:ZJ Yi=some ⟨3,1,[vI width]⟩
 r7:ZJ id7=some ⟨3,1,[vI i]⟩
 WX:ZJ id10=some ⟨377,3,[v]⟩
 st:(pre=[]/\v=.agg [vI 0,vI 0,vI 0])\/∃n:Int,0<pre.length/\i+pre.length<=ws.length/\fO (gn space (ws.drop i) i (0-space))=pre++fO (gn space (ws.drop (i+pre.length)) (i+pre.length) n)/\
  j5 ws space width i=oN space width (ws.drop (i+pre.length)) (i+pre.length) n/\v=.agg [vI i,vI (i+pre.length:Nat),vI n]
def Hn(ws:List Int)(space width:Int)(hw:WOk ws space)(i:Nat)(hi:i<ws.length):aV prog 302 [bn ws,vI space,vI width,vI i] (vK i (j5 ws space width i).1 (j5 ws space width i).2):=λU=>by
 refine Pp.r (by simp[Mb]) ?_;have hs:=aa.refl U;have US:=hw.len;refine ad.mix 13 ?_;apply sR;simp only[go_sem,seval,Mb];refine af λi6 Z6 s6 a6 f6=>?_;have z6:=hs.none f6;replace hs:=hs.trans s6;simp only[go_sem,seval,a6,aj,av];refine af λi7 Z7 s7 a7 f7=>?_;have VK:=aq a6 f7;replace a6:=s7 _ _ a6;have z7:=hs.none f7;replace hs:=hs.trans s7;simp only[go_sem,seval,a7,a6,aj,av];refine af λi8 Z8 s8 a8 f8=>?_;have n68:=aq a6 f8;replace a6:=s8 _ _ a6;have Xk:=aq a7 f8;replace a7:=s8 _ _ a7;have z8:=hs.none f8;replace hs:=hs.trans s8;simp only[go_sem,seval,a8,a7,a6,aj,av];refine af λi9 Z9 s9 a9 f9=>?_;have n69:=aq a6 f9;replace a6:=s9 _ _ a6;have n79:=aq a7 f9;replace a7:=s9 _ _ a7;have XL:=aq a8 f9;replace a8:=s9 _ _ a8;have z9:=hs.none f9;replace hs:=hs.trans s9;simp only[go_sem,seval,a9,a8,a7,a6,aj,av,ab n69,ab n79,ab XL];generalize Sp:C' _ i9 _=Y9;replace a9:=(congrFun Sp i9).symm.trans ag;replace a6:=((congrFun Sp i6).symm.trans (ab n69)).trans a6;replace a7:=((congrFun Sp i7).symm.trans (ab n79)).trans a7;replace a8:=((congrFun Sp i8).symm.trans (ab XL)).trans a8;replace hs:=Eq.subst (motive:=aa _) Sp (hs.aE z9);clear Sp;have hf:=NF ws space i;rw[show decide ((i:Int)<0\/(i:Int)>=ws.length)=false by simp;omega]at hf;refine ad.aB rfl rfl rfl (hf _) ?_;apply sR;simp only[go_sem,seval,a9,a8,a7,a6];refine af λRP Ws Tz RU f10=>?_;have n610:=aq a6 f10;replace a6:=Tz _ _ a6;have YY:=aq a7 f10;replace a7:=Tz _ _ a7;have n810:=aq a8 f10;replace a8:=Tz _ _ a8;have n910:=aq a9 f10;replace a9:=Tz _ _ a9;have U7:=hs.none f10;replace hs:=hs.trans Tz;simp only[go_sem,seval,RU,a9,a8,a7,a6];refine ad.aB rfl rfl rfl (Je ws space i _) ?_;apply sR;simp only[go_sem,seval,RU,a9,a8,a7,a6];generalize hS:mix 13 _ _=S;have S6:S 6=.ptr i6 0 0:=by rw[<-hS];rfl
 have S7:S 7=.ptr i7 0 0:=by rw[<-hS];rfl
 have S8:S 8=.ptr i8 0 0:=by rw[<-hS];rfl
 have S10:S 10=.ptr RP 0 0:=by rw[<-hS];rfl
 have S22:S 22=.fn 335 [.rp (j0 ws space),.rp (vI i)]:=by rw[<-hS];rfl
 clear hS;have Wq:=CG ws space hw i hi;have hdr:ws.drop i=ws[i]::ws.drop (i+1):=List.drop_eq_getElem_cons hi;have V9:ws.getD i 0=ws[i]:=by simp[hi]
 have hxi:=hw.get hi;have fin:∀(J:ai) (w:V),aa U J->J i8=some ⟨377,3,[.agg [vI 0,vI 0,vI 0]]⟩->J RP=some ⟨377,3,[vK i (j5 ws space width i).1 (j5 ws space width i).2]⟩->
  ad prog 39 [It.code (.seq (.RR false [⟨some 38,.load true 3 (.t 10),none⟩,⟨none,.store 3 (.t 8) (.t 38),none⟩]) .ret)] ⟨S,J⟩ (λst=>Vr [VR.cell true 3 (VX.t 8)] st λr Z'=>r=vK i (j5 ws space width i).1 (j5 ws space width i).2/\Z'=U):=by
  intro J w h1 h2 h3;refine ad.mix 13 ?_;rw[vK]at h3;apply sR;simp only[go_sem,seval,S8,S10,h2,h3];exact ay.pure (h1.aE z8) rfl
 refine ad.cX (g:=.t 22) (caps:=[.rp (j0 ws space),.rp (vI i)]) S22 Wq (λx hx=>?_) [0] (λpre ZJ=>∃v,TkJ ws space width i U i6 i7 i8 RP pre v ZJ)
  (λe pre ZJ=>e=some 0/\aa U ZJ/\ZJ i8=some ⟨377,3,[.agg [vI 0,vI 0,vI 0]]⟩/\ZJ RP=some ⟨377,3,[vK i (j5 ws space width i).1 (j5 ws space width i).2]⟩) ?_ ?_ ?_ ?_ ?_
 .obtain⟨t,_,rfl⟩:=List.mem_map.1 hx;rfl
 .exact⟨_,hs,a8,a6,a7,RU,.inl ⟨rfl,rfl⟩⟩
 .rintro pre x post ZJ ZB TJ ⟨v,τ⟩ G';have b6:=G' _ _ τ.r6;have b7:=G' _ _ τ.r7;have b8:=G' _ _ τ.r8;have XM:=G' _ _ τ.WX;rcases τ.st with⟨rfl,rfl⟩|⟨n,hp,Vq,hr,Sf,rfl⟩
  .obtain rfl:x=[vI ((i:Int)+1),vI ws[i]]:=by
    rw[hdr]at TJ;simp only[gn,fO,List.map_cons,List.nil_append,List.cons.injEq]at TJ;rw[<-TJ.1];simp only[Int.sub_add_cancel,Int.zero_add];rw[show((i+1:Nat):Int)=(i:Int)+1 by omega]
   refine ad.mix 13 ?_;generalize Tg:lR S [23,24] _=S0;have T6:S0 6=.ptr i6 0 0:=by rw[<-Tg];exact S6
   have T7:S0 7=.ptr i7 0 0:=by rw[<-Tg];exact S7
   have WL:S0 10=.ptr RP 0 0:=by rw[<-Tg];exact S10
   have T23:S0 23=vI ((i:Int)+1):=by rw[<-Tg];rfl
   have T24:S0 24=vI ws[i]:=by rw[<-Tg];rfl
   clear Tg;have r1:Rq .i64 ((i:Int)+1):=ao (by omega) (by omega);have q:((i:Int)+1>(i:Int)+1)=False:=eq_false (by omega);apply sR;simp only[go_sem,seval,T6,T7,WL,T23,T24];apply sR;simp only[go_sem,seval,T6,T7,WL,T23,T24,b6,b7,XM,r1,q];refine⟨_,(bh.refl G').set τ.WX,_,τ.sub.aE U7,by rw[ab n810];exact τ.r8,by rw[ab n610];exact τ.r6,by rw[ab YY];exact τ.r7,ag,.inr ⟨ws[i],by simp,by simp;omega,?_,?_,?_⟩⟩
   .rw[hdr,gn];simp only[Int.sub_add_cancel,Int.zero_add,fO,List.map_cons,List.nil_append,List.length_cons,List.length_nil,List.cons_append];rw[show((i+1:Nat):Int)=(i:Int)+1 by omega]
   .unfold j5;rw[V9];rfl
   .simp
  .have H':i+pre.length<ws.length:=by
    rcases Nat.lt_or_ge (i+pre.length) ws.length with h|h
    .exact h
    .exfalso;rw[List.drop_of_length_le h]at hr;rw[hr]at TJ;have:=congrArg List.length TJ;simp[gn,fO]at this
   have Xq:ws.drop (i+pre.length)=ws[i+pre.length]::ws.drop (i+pre.length+1):=List.drop_eq_getElem_cons H';obtain rfl:x=[vI ((i:Int)+pre.length+1),vI (n+space+ws[i+pre.length])]:=by
    rw[hr,Xq]at TJ;have h2:=List.append_cancel_left TJ;simp only[gn,fO,List.map_cons,List.cons.injEq]at h2;rw[<-h2.1];rw[show((i+pre.length+1:Nat):Int)=(i:Int)+pre.length+1 by omega]
   rw[Xq,oN]at Sf;refine ad.mix 13 ?_;generalize Tg:lR S [23,24] _=S0;have T6:S0 6=.ptr i6 0 0:=by rw[<-Tg];exact S6
   have T7:S0 7=.ptr i7 0 0:=by rw[<-Tg];exact S7
   have WL:S0 10=.ptr RP 0 0:=by rw[<-Tg];exact S10
   have T23:S0 23=vI ((i:Int)+pre.length+1):=by rw[<-Tg];rfl
   have T24:S0 24=vI (n+space+ws[i+pre.length]):=by rw[<-Tg];rfl
   clear Tg;have r1:Rq .i64 ((i:Int)+1):=ao (by omega) (by omega);have q:((i:Int)+pre.length+1>(i:Int)+1)=True:=eq_true (by omega);apply sR;simp only[go_sem,seval,T6,T7,WL,T23,T24];by_cases Vi:n+space+ws[i+pre.length]>width
   .have q2:(n+space+ws[i+pre.length]>width)=True:=eq_true Vi;rw[if_pos Vi]at Sf;apply sR;simp only[go_sem,seval,T6,T7,WL,T23,T24,b6,b7,XM,r1,q,q2];refine⟨_,bh.refl G',τ.sub,τ.r8,?_⟩;rw[τ.WX,Sf];rfl
   .have q2:(n+space+ws[i+pre.length]>width)=False:=eq_false Vi;rw[if_neg Vi]at Sf;apply sR;simp only[go_sem,seval,T6,T7,WL,T23,T24,b6,b7,XM,r1,q,q2];have hpl2:(pre++[[vI ((i:Int)+pre.length+1),vI (n+space+ws[i+pre.length])]]).length=pre.length+1:=by simp
    refine⟨_,(bh.refl G').set τ.WX,_,τ.sub.aE U7,by rw[ab n810];exact τ.r8,by rw[ab n610];exact τ.r6,by rw[ab YY];exact τ.r7,ag,.inr ⟨n+space+ws[i+pre.length],by omega,by omega,?_,?_,?_⟩⟩
    .rw[hr,Xq,hpl2,gn];simp only[fO,List.map_cons,List.append_assoc,List.cons_append,List.nil_append];rw[show((i+pre.length+1:Nat):Int)=(i:Int)+pre.length+1 by omega];rfl
    .rw[hpl2];exact Sf
    .rw[hpl2,show((i+(pre.length+1):Nat):Int)=(i:Int)+pre.length+1 by omega]
 .rintro Z' ⟨v,τ⟩;rcases τ.st with⟨h0,rfl⟩|⟨n,hp,Vq,hr,Sf,rfl⟩
  .exfalso;rw[hdr]at h0;simp[gn,fO]at h0
  .have he:fO (gn space (ws.drop (i+(fO (gn space (ws.drop i) i (0-space))).length)) (i+(fO (gn space (ws.drop i) i (0-space))).length) n)=[]:=by
    have:=congrArg List.length hr;rw[List.length_append]at this;exact List.eq_nil_of_length_eq_zero (by omega)
   generalize (fO (gn space (ws.drop i) i (0-space))).length=p at*;have hd:ws.drop (i+p)=[]:=by
    cases h:ws.drop (i+p)with
    |nil=>rfl
    |cons a b=>rw[h]at he;simp[gn,fO]at he
   rw[hd,oN]at Sf;refine ad.inBlock (fin Z' .aC τ.sub τ.r8 ?_);rw[τ.WX,Sf];rfl
 .intro id M' pre Z' _ ⟨h0,h1,h2,h3⟩;obtain rfl:id=0:=by simpa using M'
  refine ad.exit rfl ?_;exact fin Z' .aC h1 h2 h3
 .rintro pre Z' _ ⟨h0,_⟩;cases h0
open Go.Proofs Go.Proofs.Tryz
def ua(p:Pn)(n:Int):Pn:=⟨if n>0 then p.y+p.m+n else p.y,if n>0 then 0 else p.m⟩
def eD(p:Pn)(mg n:Int):Pn:=ua ⟨p.y,max p.m mg⟩ n
def ld(p:Pn)(mg n:Int):Pn:=⟨(ua p n).y,max (ua p n).m mg⟩
def B8(p:Pn)(mg n:Int)(h1:Bq p.y)(h2:Bq p.m)(h3:Bq mg)(h4:Bq n):aV prog 217 [gM p,vI mg,vI n] (gM (eD p mg n)):=λU=>by
 refine Pj.r (by simp[Mo]) ?_;have hs:=aa.refl U;refine ad.mix 10 ?_;apply sR;simp only[go_sem,seval,Mo,gM];refine af λi3 Z3 s3 a3 f3=>?_;have z3:=hs.none f3;replace hs:=hs.trans s3;simp only[go_sem,seval,a3];refine af λi6 Z6 s6 a6 f6=>?_;have n36:=aq a3 f6;replace a3:=s6 _ _ a3;have z6:=hs.none f6;replace hs:=hs.trans s6;simp only[go_sem,seval,a6,a3];refine af λi7 Z7 s7 a7 f7=>?_;have ZO:=aq a3 f7;replace a3:=s7 _ _ a3;have VK:=aq a6 f7;replace a6:=s7 _ _ a6;have z7:=hs.none f7;replace hs:=hs.trans s7;simp only[go_sem,seval,a7,a6,a3,ab ZO,ab VK];generalize SY:C' _ i7 _=Y7;replace a7:=(congrFun SY i7).symm.trans ag;replace a3:=((congrFun SY i3).symm.trans (ab ZO)).trans a3;replace a6:=((congrFun SY i6).symm.trans (ab VK)).trans a6;replace hs:=Eq.subst (motive:=aa _) SY (hs.aE z7);clear SY;refine ad.call rfl rfl rfl (Cb p.y p.m mg a7) ?_;rintro r Z1 ⟨rfl,rfl⟩;apply sR;simp only[go_sem,seval];have hm:Bq (max p.m mg):=by obtain⟨g1,g2⟩:=h2;obtain⟨g3,g4⟩:=h3;exact⟨by omega,by omega⟩
 refine ad.call rfl rfl rfl (Iy p.y (max p.m mg) n h1 hm h4 ag) ?_;rintro r Z2 ⟨rfl,rfl⟩;apply sR;simp only[go_sem,seval,a6,ab VK,ab VK.symm];exact ay.pure ((hs.aE z7).aE z6) rfl
def BX(p:Pn)(mg n:Int)(h1:Bq p.y)(h2:Bq p.m)(h3:Bq mg)(h4:Bq n):aV prog 218 [gM p,vI mg,vI n] (gM (ld p mg n)):=λU=>by
 refine QZ.r (by simp[Jy]) ?_;have hs:=aa.refl U;refine ad.mix 10 ?_;apply sR;simp only[go_sem,seval,Jy,gM];refine af λi3 Z3 s3 a3 f3=>?_;have z3:=hs.none f3;replace hs:=hs.trans s3;simp only[go_sem,seval,a3];refine af λi6 Z6 s6 a6 f6=>?_;have n36:=aq a3 f6;replace a3:=s6 _ _ a3;have z6:=hs.none f6;replace hs:=hs.trans s6;simp only[go_sem,seval,a6,a3];refine af λi7 Z7 s7 a7 f7=>?_;have ZO:=aq a3 f7;replace a3:=s7 _ _ a3;have VK:=aq a6 f7;replace a6:=s7 _ _ a6;have z7:=hs.none f7;replace hs:=hs.trans s7;simp only[go_sem,seval,a7,a6,a3,ab ZO,ab VK];generalize SY:C' _ i7 _=Y7;replace a7:=(congrFun SY i7).symm.trans ag;replace a3:=((congrFun SY i3).symm.trans (ab ZO)).trans a3;replace a6:=((congrFun SY i6).symm.trans (ab VK)).trans a6;replace hs:=Eq.subst (motive:=aa _) SY (hs.aE z7);clear SY;refine ad.call rfl rfl rfl (Iy p.y p.m n h1 h2 h4 a7) ?_;rintro r Z1 ⟨rfl,rfl⟩;apply sR;simp only[go_sem,seval];refine ad.call rfl rfl rfl (Cb _ _ mg ag) ?_;rintro r Z2 ⟨rfl,rfl⟩;apply sR;simp only[go_sem,seval,a6,ab VK,ab VK.symm];exact ay.pure ((hs.aE z7).aE z6) rfl
structure Ln where
 (fr to x y w:Int)
deriving DecidableEq
def l5(l:Ln):V:=.agg [vI l.fr,vI l.to,vI l.x,vI l.y,vI l.w]
def nt(fs:List P')(ws:List Int)(space high:Int)(i:Nat)(y:Int)(s:Sd):Ln:=
 let RD:=kD fs (ws.getD i 0) high s y
 let b:=dZ fs RD high s
 let t:=j5 ws space (jL b) i
 ⟨i,t.1,b.a,RD,t.2⟩
def HP(fs:List P')(ws:List Int)(space high:Int)(i:Nat)(y:Int)(s:Sd)(hl:fs.length<=1000000)(Rg:∀f∈fs,f.ok)(hy:Tb y)(hh:Bq high)(Tl:Tb s.a/\Tb s.b)(hw:WOk ws space)(hi:i<ws.length):
 aV prog 265 [aH fs,bn ws,vI space,vI high,vI i,vI y,aZ s] (l5 (nt fs ws space high i y s)):=λU=>by
 refine Ph.r (by simp[JY]) ?_;have hs:=aa.refl U;have hn:=fG ws;have Q9:=λU=>gO (U:=U) hi;have q0:((i:Int)<0)=False:=eq_false (by omega);have q1:((i:Int)>=ws.length)=False:=eq_false (by omega);refine ad.mix 18 ?_;apply sR;simp only[go_sem,seval,JY,aZ];refine af λWM Y13 s13 TB f13=>?_;have z13:=hs.none f13;replace hs:=hs.trans s13;simp only[go_sem,seval,TB];refine af λi14 Z14 s14 Ze f14=>?_;have n1314:=aq TB f14;replace TB:=s14 _ _ TB;have z14:=hs.none f14;replace hs:=hs.trans s14;simp only[go_sem,seval,Ze,TB,hn,Q9,q0,q1];have V9:ws.getD i 0=ws[i]:=by simp[hi]
 obtain⟨RD,SE⟩:∃a,a=kD fs ws[i] high s y:=⟨_,rfl⟩
 have VU:=F0 fs ws[i] high y s hl Rg hy hh Tl;rw[<-SE]at VU;have hbo:=lO (y:=RD) (high:=high) Rg Tl;unfold nt;rw[V9];simp only;rw[<-SE];obtain⟨b,hb⟩:∃b,b=dZ fs RD high s:=⟨_,rfl⟩
 rw[<-hb]at VU hbo|-;refine Go.bP rfl rfl rfl VU ?_;apply sG;simp only[go_sem,seval,aZ];refine bu λZf Y15 s15 WY f15=>?_;have n1315:=aq TB f15;replace TB:=s15 _ _ TB;have n1415:=aq Ze f15;replace Ze:=s15 _ _ Ze;have z15:=hs.none f15;replace hs:=hs.trans s15;simp only[go_sem,seval,WY,Ze,TB,aZ];generalize Ud:C' _ Zf _=Z15;replace WY:=(congrFun Ud Zf).symm.trans ag;replace TB:=((congrFun Ud WM).symm.trans (ab n1315)).trans TB;replace Ze:=((congrFun Ud i14).symm.trans (ab n1415)).trans Ze;replace hs:=Eq.subst (motive:=aa _) Ud (hs.aE z15);clear Ud;refine ad.aB rfl rfl rfl (EE b hbo.1 hbo.2 _) ?_;apply sR;simp only[go_sem,seval];refine ad.aB rfl rfl rfl (Hn ws space (jL b) hw i hi _) ?_;apply sR;simp only[go_sem,seval,vK];refine af λi17 Y17 s17 Wt f17=>?_;have YI:=aq TB f17;replace TB:=s17 _ _ TB;have n1417:=aq Ze f17;replace Ze:=s17 _ _ Ze;have n1517:=aq WY f17;replace WY:=s17 _ _ WY;have z17:=hs.none f17;replace hs:=hs.trans s17;simp only[go_sem,seval,Wt,WY,Ze,ab YI,ab n1417,ab n1517];exact ay.pure ((hs.aE z17).aE z14) rfl
open Go.Proofs Go.Proofs.Tryz
def aT.AD{K ZJ Z1:ai}{e sz:Nat}{v:V}{rows:List V}(h:aT K ZJ e sz v rows)(hs:aa ZJ Z1):
 ∃Rr,cg Z1 e sz v=some (rows,Rr)/\(∀K':ai,aa K' K->∀Z2,aa K' Z2->aa K' (Vc.bK Z2 Rr))/\(∀i o,ZJ i=some o->(o.elem≠e\/o.sz≠sz)->∀Z2:ai,Vc.bK Z2 Rr i=Z2 i)/\(∀i,ZJ i=none->∀Z2:ai,Vc.bK Z2 Rr i=Z2 i):=by
 rcases h with⟨rfl,rfl⟩|⟨id,rfl,ho,hk⟩
 .exact⟨none,rfl,λ_ _ _ h=>h,λ_ _ _ _ _=>rfl,λ_ _ _=>rfl⟩
 .refine⟨some id,?_,λK' hK Z2 h=>h.Hd (hK.none hk),λi o hi RK Z2=>?_,λi hi Z2=>?_⟩
  .simp only[cg,hs _ _ ho];rw[if_pos ⟨trivial,trivial,trivial,Nat.le_refl _⟩,List.take_length]
  .refine dO λe'=>?_;subst e';rw[ho]at hi;injection hi with hi;subst hi;rcases RK with h|h<;>exact h rfl
  .refine dO λe'=>?_;subst e';rw[ho]at hi;cases hi
def rf{l:List P'}{w high B:Int}{s:Sd}(hB:∀f∈l,f.y+f.h<=B):∀(k:Nat) (y:Int),y<=oS l w high s k y/\oS l w high s k y<=max y B
 |0,y=>by simp only[oS];omega
 |k+1,y=>by
  rw[oS];split
  .omega
  .rename_i hf;have RK:dZ l y high s≠s:=λe=>hf (by simp[vN,e]);obtain⟨f,hm,h1,h2⟩:=iC (nF RK);have:=rf hB k (gA l y high s).1 (w:=w) (high:=high) (s:=s);have:=hB f hm;omega
def gb{l:List P'}{w high B y:Int}{s:Sd}(hB:∀f∈l,f.y+f.h<=B):y<=kD l w high s y/\kD l w high s y<=max y B:=rf hB _ _
def dP(fs:List P')(ws:List Int)(space high:Int)(s:Sd):Nat->Nat->Int->List Ln
 |0,_,_=>[]
 |k+1,i,y=>if i<ws.length then nt fs ws space high i y s::dP fs ws space high s k (nt fs ws space high i y s).to.toNat ((nt fs ws space high i y s).y+high)else[]
def jK(fs:List P')(ws:List Int)(space high:Int)(s:Sd):∀(k i:Nat) (y:Int),(dP fs ws space high s k i y).length<=k
 |0,_,_=>by simp[dP]
 |k+1,i,y=>by
  rw[dP];split
  .have:=jK fs ws space high s k (nt fs ws space high i y s).to.toNat ((nt fs ws space high i y s).y+high);simp only[List.length_cons];omega
  .simp
def yO(l:Ln):(l5 l).cells=[vI l.fr,vI l.to,vI l.x,vI l.y,vI l.w]:=rfl
def zU(l:Ln):(l5 l).stays=true:=rfl
def pr(l:List Ln):V:=.sl 5 (l.map l5)
variable {P:Program} {n:Nat} {st:St} {Q:St->Prop} {k:List It}
def nW(D:List (List Nat))(S:List Nat)(s:Nat):List (List Nat):=(List.range D.length).map λi=>if S.contains i&&!(i==s)then s::D.getD i []else D.getD i []
def zq{D:List (List Nat)}{S:List Nat}{s:Nat}:(nW D S s).length=D.length:=by simp[nW]
def xY{D:List (List Nat)}{S:List Nat}{s i:Nat}:(nW D S s).getD i []=if i<D.length/\i∈S/\i≠s then s::D.getD i []else D.getD i []:=by
 unfold nW;rw[List.getD_eq_getElem?_getD,List.getElem?_map];by_cases hi:i<D.length
 .rw[List.getElem?_range hi];by_cases hs:i∈S
  .by_cases he:i=s
   .simp[he]
   .simp[hi,hs,he]
  .simp[hs]
 .have h1:(List.range D.length)[i]?=none:=List.getElem?_eq_none (by simpa using hi);rw[h1,if_neg (λh=>hi h.1)];simp[List.getElem?_eq_none (show D.length<=i by omega)]
def yx{D:List (List Nat)}{S:List Nat}{s i:Nat}(h:i∉S\/i=s):(nW D S s).getD i []=D.getD i []:=by
 rw[xY,if_neg];rintro⟨_,h1,h2⟩;exact h.elim (λh=>h h1) h2
def qN{D:List (List Nat)}{S:List Nat}{s:Nat}{L:List Nat}(hp:s∈L):dT (nW D S s) L=dT D L:=by
 unfold dT;rw[zq];refine List.filter_congr λi hi=>?_;rw[xY];split
 .simp[hp]
 .rfl
def ub{l:List aN}{D:List (List Nat)}{S:List Nat}{s:Nat}{K:St->Prop}:∀(f:Nat) (L:List Nat) (y:St),s∈L->ie P l (nW D S s) K f L y->ie P l D K f L y
 |0,L,y,hp,h=>⟨by rw[<-qN hp];exact h.1,h.2⟩
 |f+1,L,y,hp,h=>by
  unfold ie at h|-;rw[qN hp]at h;cases hr:dT D L with
  |nil=>rw[hr]at h;exact h
  |cons a r=>
   rw[hr]at h;refine oM λi hi=>?_;obtain⟨ins,h1,h2⟩:=mT h i hi;exact⟨ins,h1,TC.mono (λx hx=>ub f _ x (by simp[hp]) hx) h2⟩
def vy{l:List aN}{K:St->Prop}{b:List Nat}:∀{a:List Nat},RE P l K (a++b)=RE P l (RE P l K b) a
 |[]=>rfl
 |m::a=>by
  funext x;rw[List.cons_append,RE,RE,vy]
def nm{l:List aN}{Rw:List (List Nat)}{b:List Nat}:∀{a done:List Nat},eB l Rw done (a++b)=eB l Rw done a++eB l Rw (done++a) b
 |[],done=>by simp[eB]
 |e::a,done=>by
  rw[List.cons_append,eB,eB,nm];simp
def RE.mono{l:List aN}{K K':St->Prop}(hk:∀x,K x->K' x):∀{a:List Nat} {x:St},RE P l K a x->RE P l K' a x
 |[],x,h=>hk x h
 |m::a,x,h=>by
  rw[RE]at h|-;cases hm:l[m/2]? with
  |none=>rw[hm]at h;exact h.elim
  |some i=>
   rw[hm]at h;simp only at h|-;split at h<;>rename_i he
   .rw[if_pos he];exact TC.mono (λx hx=>RE.mono hk hx) h
   .rw[if_neg he];exact⟨h.1,RE.mono hk h.2⟩
structure FN(l:List aN)(D Rw:List (List Nat))(pre tail S:List Nat)(befs:Nat->List (List Nat)):Prop where
 e:EOkW l D Rw (pre++tail)
 Tq:∀a b x y,pre++tail=a++b->x∈a->y∈b->x∈pre->dD l Rw x=true->x∈eU Rw y
 sub:∀s∈S,s∈tail
 some:∃s,s∈S
 later:∀i∈tail,i∉S->∃s∈S,s∈eU Rw i
 agree:∀s∈S,∀i∈pre,dD l (befs s) i=dD l Rw i
section
variable {l:List aN} {D Rw:List (List Nat)} {pre tail S:List Nat} {befs:Nat->List (List Nat)} {K:St->Prop} {Ks:Nat->St->Prop} (hF:FN l D Rw pre tail S befs)
include hF
def jw.Np{L:List Nat}{y:St}:∀{rest done:List Nat} {x:St},jw P l D Rw pre K L y done rest x->
 ∃done' Xl x',jw P l D Rw pre K L y done' Xl x'/\∀h r,Xl=h::r->dD l Rw h=true
 |[],done,x,h=>⟨done,[],x,h,by simp⟩
 |e::rest,done,x,h=>by
  have hE:=hF.e;cases Um:dD l Rw e with
  |true=>exact⟨done,e::rest,x,h,λa r he=>by cases he;exact Um⟩
  |false=>
   have U6:e<l.length:=hE.lt e (by rw[h.split];simp);obtain⟨hk,hself⟩:=gS Um U6 (hE.mO U6);have SR:=(List.nodup_append.1 hE.nodup).1;rw[h.split]at SR;have hed:e∉done:=λhm=>(List.nodup_append.1 SR).2.2 e hm e (by simp) rfl;have Yf:e∉L:=λhm=>hed (h.sub e hm);have Tj:=h.go;rw[eB,B5 U6,DC,if_neg (by simp[Um]),List.nil_append]at Tj;have hT:T P (bB l e) x (RE P l K (eB l Rw (done++[e]) rest)):=by
    rcases Tj with Tj|⟨_,Tj⟩
    .exact Tj
    .exfalso;revert Tj hk;generalize (bB l e).op=op;intro hk Tj;split at Tj
     .simp[bw]at hk
     .exact Tj
   obtain⟨v,hv,Yg⟩:=(cA (by simp[fB,hk])).1 hT;refine jw.Np (rest:=rest) (done:=done++[e]) (x:=⟨aX x.s (bB l e).dst v,x.U⟩) ⟨by rw[h.split];simp,λi hi=>by simp[h.sub i hi],h.nodup,h.closed,λi hi TV=>?_,h.store,λd hd=>?_,λi hi UZ=>?_,Yg⟩
   .rcases List.mem_append.1 hi with hi|hi
    .exact h.Tq i hi TV
    .simp only[List.mem_singleton]at hi;rw[hi,Um]at TV;cases TV
   .have h1:=h.slot d λi hi UZ=>hd i (by simp[hi]) UZ;have h2:=hd e (by simp) Yf;rw[h1];simp only;cases Ye:(bB l e).dst with
    |none=>rfl
    |some d'=>
     rw[Ye]at h2;simp only[aX];rw[if_neg (λe'=>h2 (by rw[e']))]
   .by_cases TV:i=e
    .subst TV;unfold ZN;cases hd:(bB l i).dst with
     |none=>exact⟨v,hv⟩
     |some d=>
      simp only;have e1:aX x.s (some d) v d=v:=by simp[aX]
      rw[e1];exact(fY (λt ht=>by cases ht;exact hself d hd)).2 hv
    .have M':i∈done:=by
      rcases List.mem_append.1 hi with hi|hi
      .exact hi
      .simp only[List.mem_singleton]at hi;exact absurd hi TV
     have Uc:i<l.length:=hE.lt i (by rw[h.split];simp[M']);refine rL hE Uc U6 TV (λd hd hu=>?_) (λv hv=>hv) (h.lag i M' UZ);rcases hE.Za i e Uc U6 TV d hd hu with h1|⟨h1,_⟩
     .obtain⟨a,b,We⟩:=List.append_of_mem M';have h2:=hE.lP (a:=a) (j:=i) (b:=b++e::rest++tail) (by rw[h.split,We];simp) e h1;exact hed (by rw[We];simp[h2])
     .rw[Um]at h1;cases h1
def A8(hH:∀s∈S,∀(f:Nat) (L:List Nat) (y:St) (done rest:List Nat) (x:St),f+L.length=l.length->jw P l (nW D S s) (befs s) pre (Ks s) L y done rest x->ie P l (nW D S s) K f L y):
 ∀(f:Nat) (L:List Nat) (y:St) (done rest:List Nat) (x:St),f+L.length=l.length->(∀s∈S,s∉L)->jw P l D Rw pre (λx=>∀s∈S,Ks s x) L y done rest x->ie P l D K f L y:=by
 have hE:=hF.e;obtain⟨s0,RX⟩:=hF.some;have H':∀s∈S,s<l.length:=λs hs=>hE.lt s (by simp[hF.sub s hs]);have V':∀s∈S,s∉pre:=λs hs hm=>(List.nodup_append.1 hE.nodup).2.2 s hm s (hF.sub s hs) rfl;intro f
 induction f with
 |zero=>
  intro L y done rest x hf hSL h;exact absurd ((tR l.length L h.nodup λi hi=>hE.lt i (by rw[h.split];simp[h.sub i hi])).2 (by omega) s0 (H' s0 RX)) (hSL s0 RX)
 |succ f ih=>
  intro L y done rest x hf hSL h;obtain⟨done,rest,x,h,YG⟩:=jw.Np hF h;have SR:=(List.nodup_append.1 hE.nodup).1;rw[h.split]at SR;have hdp:∀i∈done,i∈pre:=λi hi=>by rw[h.split];simp[hi]
  have Sn:∀m∈L,∀d∈D.getD m [],d∈L:=h.closed;have hclS:∀s,∀m∈L,∀d∈(nW D S s).getD m [],d∈L:=λs m hm d hd=>by
   rw[yx (.inl λhs=>hSL m hs hm)]at hd;exact h.closed m hm d hd
  have take:rest=[]->∀s∈S,ie P l (nW D S s) K (f+1) L y:=λhr s hs=>by
   subst hr;have hdp':pre=done:=by rw[h.split];simp
   refine hH s hs (f+1) L y done [] x hf ⟨by rw[hdp'];simp,h.sub,h.nodup,hclS s,λi hi TV=>h.Tq i hi (by rw[<-hF.agree s hs i (hdp i hi)];exact TV),h.store,h.slot,h.lag,?_⟩;exact h.go s hs
  have key:tz P l (ie P l D K f) L y (dT D L):=by
   refine oM λi hi=>?_;have hi0:=hi;obtain⟨Uc,UZ,Xm⟩:=se hi;rw[hE.YZ]at Uc;by_cases hiS:i∈S
   .have hm:i∈dT (nW D S i) L:=by
     unfold dT;refine List.mem_filter.2 ⟨by rw[zq,hE.YZ];simpa using Uc,?_⟩;rw[yx (.inr rfl)];exact(List.mem_filter.1 hi).2
    have UP:rest=[]:=by
     cases hrr:rest with
     |nil=>rfl
     |cons a rr=>
      exfalso;have ha:=YG a rr hrr;have hapre:a∈pre:=by rw[h.split,hrr];simp
      have hb:a∈eU Rw i:=hF.Tq pre tail a i rfl hapre (hF.sub i hiS) hapre ha;obtain⟨pa,pb,hpe⟩:=List.append_of_mem (hE.mem i Uc);have haL:a∈L:=hE.closed Sn hE.mem (pa.length+1) pa i pb (by omega) hpe (λd hd=>Xm d hd) a hb;rw[hrr]at SR;exact(List.nodup_append.1 SR).2.2 a (h.sub a haL) a (by simp) rfl
    have h1:=take UP i hiS;unfold ie at h1;cases hr:dT (nW D S i) L with
    |nil=>rw[hr]at hm;cases hm
    |cons a r=>
     rw[hr]at h1 hm;obtain⟨ins,g1,g2⟩:=mT h1 i hm;exact⟨ins,g1,TC.mono (λx hx=>ub f _ x (by simp) hx) g2⟩
   refine⟨bB l i,by simp[bB,List.getElem?_eq_getElem Uc],?_⟩;obtain⟨pa,pb,hpe⟩:=List.append_of_mem (hE.mem i Uc);have Uy:∀j∈eU Rw i,j∈L:=hE.closed Sn hE.mem (pa.length+1) pa i pb (by omega) hpe Xm;have Xn:∀u∈(bB l i).kL,x.s u=y.s u:=λu hu=>(h.slot u λj hj Vl hd=>by
    have VJ:j<l.length:=hE.lt j (by simp[hdp j hj]);by_cases Ub:j=i
    .subst Ub;cases SX:dD l Rw j with
     |true=>exact Vl (h.Tq j hj SX)
     |false=>exact(gS SX VJ (hE.mO VJ)).2 u hd hu
    .rcases hE.Za i j Uc VJ (λe=>Ub e.symm) u hd hu with h1|⟨h1,_⟩
     .exact Vl (Uy j h1)
     .exact Vl (h.Tq j hj h1)).symm
   by_cases M':i∈done
   .have TV:dD l Rw i=false:=by
     cases TV:dD l Rw i with
     |false=>rfl
     |true=>exact absurd (h.Tq i M' TV) UZ
    obtain⟨hk,_⟩:=gS TV Uc (hE.mO Uc);have hq:=h.lag i M' UZ;obtain⟨v,hv,hvd⟩:∃v,QY P (bB l i) x.s x.U v/\∀d,(bB l i).dst=some d->x.s d=v:=by
     unfold ZN at hq;cases hd:(bB l i).dst with
     |none=>rw[hd]at hq;obtain⟨v,hq⟩:=hq;exact⟨v,hq,by simp⟩
     |some d=>rw[hd]at hq;exact⟨_,hq,λd' e=>by cases e;rfl⟩
    refine .inl ((cA (by simp[fB,hk])).2 ⟨v,?_,?_⟩)
    .rw[h.store];exact x8 Xn hv
    .refine ih (i::L) _ done rest x (by simp only[List.length_cons];omega) (λs hs hm=>(List.mem_cons.1 hm).elim (λe=>hiS (e▸hs)) (hSL s hs)) ⟨h.split,λj hj=>?_,List.nodup_cons.2 ⟨UZ,h.nodup⟩,λm hm d hd=>?_,λj hj SX=>by simp[h.Tq j hj SX],h.store,λd hd=>?_,λj hj Vl=>h.lag j hj (λhm=>Vl (by simp[hm])),h.go⟩
     .rcases List.mem_cons.1 hj with rfl|hj
      .exact M'
      .exact h.sub j hj
     .rcases List.mem_cons.1 hm with rfl|hm
      .simp[Xm d hd]
      .simp[h.closed m hm d hd]
     .simp only;by_cases Yh:(bB l i).dst=some d
      .rw[Yh];simp only[aX];rw[if_pos trivial];exact(hvd d Yh).symm
      .have h1:=h.slot d λj hj Vl=>by
        by_cases Ub:j=i
        .rw[Ub];exact Yh
        .exact hd j hj (by simp[Ub,Vl])
       rw[<-h1];cases Ye:(bB l i).dst with
       |none=>rfl
       |some d'=>
        rw[Ye]at Yh;simp only[aX];rw[if_neg (λe'=>Yh (by rw[e']))]
   .have hir:i∈rest++tail:=by
     have:=hE.mem i Uc;rw[h.split,List.append_assoc]at this;exact(List.mem_append.1 this).resolve_left M'
    obtain⟨Vv,rr,rfl⟩:∃a r,rest=a::r:=by
     cases rest with
     |nil=>
      exfalso;rw[List.nil_append]at hir;obtain⟨s,hs,hsb⟩:=hF.later i hir hiS;exact hSL s hs (Uy _ hsb)
     |cons a r=>exact⟨a,r,rfl⟩
    have Um:=YG Vv rr rfl;have hh0:Vv∉done:=λhm=>(List.nodup_append.1 SR).2.2 Vv hm Vv (by simp) rfl;have hih:i=Vv:=by
     rcases List.mem_cons.1 (show i∈Vv::(rr++tail)from hir)with e|hir
     .exact e
     .exfalso;have:=hF.Tq (done++[Vv]) (rr++tail) Vv i (by rw[h.split];simp) (by simp) hir (by rw[h.split];simp) Um;exact hh0 (h.sub _ (Uy _ this))
    subst hih;have Tj:=h.go;rw[show eB l Rw done (i::rr)=2*i::(DC l Rw done i++eB l Rw (done++[i]) rr)from rfl,B5 Uc]at Tj;refine xJ Xn h.store.symm (λr Z' hK=>?_) Tj;rw[DC,if_pos Um]at hK;obtain⟨hck,Yg⟩:=rS (λk=>!(dD l Rw k)&&(!(jX (bB l k).op)&&!((eU Rw i).contains k))) (λj hj=>hE.lt j (by simp[hdp j hj])) hK;refine ih (i::L) _ (done++[i]) rr ⟨aX x.s (bB l i).dst r,Z'⟩ (by simp only[List.length_cons];omega) (λs hs hm=>(List.mem_cons.1 hm).elim (λe=>hiS (e▸hs)) (hSL s hs)) ⟨by rw[h.split];simp,λj hj=>?_,List.nodup_cons.2 ⟨UZ,h.nodup⟩,λm hm d hd=>?_,λj hj SX=>?_,rfl,λd hd=>?_,λj hj Vl=>?_,Yg⟩
    .rcases List.mem_cons.1 hj with rfl|hj
     .simp
     .simp[h.sub j hj]
    .rcases List.mem_cons.1 hm with rfl|hm
     .simp[Xm d hd]
     .simp[h.closed m hm d hd]
    .rcases List.mem_append.1 hj with hj|hj
     .simp[h.Tq j hj SX]
     .simp only[List.mem_singleton]at hj;simp[hj]
    .have h1:(bB l i).dst=some d\/y.s d=x.s d:=by
      by_cases Yh:(bB l i).dst=some d
      .exact .inl Yh
      .exact .inr (h.slot d λj hj Vl=>hd j (by simp[hj]) (by
        simp only[List.mem_cons,not_or];exact⟨λe=>M' (e▸hj),Vl⟩))
     simp only;cases Ye:(bB l i).dst with
     |none=>rw[Ye]at h1;exact h1.resolve_left (by simp)
     |some d'=>
      simp only[aX];split
      .rfl
      .rename_i RK;rw[Ye]at h1;exact h1.resolve_left (λe=>RK (by cases e;rfl))
    .have Zb:j∈done:=by
      rcases List.mem_append.1 hj with hj|hj
      .exact hj
      .simp only[List.mem_singleton]at hj;exact absurd (by simp[hj]) Vl
     have WK:j∉L:=λhm=>Vl (by simp[hm]);have VJ:j<l.length:=hE.lt j (by simp[hdp j Zb]);have Ub:j≠i:=λe=>M' (e▸Zb);have SX:dD l Rw j=false:=by
      cases SX:dD l Rw j with
      |false=>rfl
      |true=>exact absurd (h.Tq j Zb SX) WK
     cases hsf:jX (bB l j).op with
     |true=>
      refine rL hE VJ Uc Ub (λd hd hu=>?_) (λv hv=>jJ hsf hv) (h.lag j Zb WK);rcases hE.Za j i VJ Uc Ub d hd hu with h1|⟨_,h1⟩
      .obtain⟨a,b,We⟩:=List.append_of_mem Zb;have h2:=hE.lP (a:=a) (j:=j) (b:=b++i::rr++tail) (by rw[h.split,We];simp) i h1;exact M' (by rw[We];simp[h2])
      .exact WK (Uy j h1)
     |false=>
      refine hck j Zb ?_;simp only[SX,hsf,Bool.not_false,Bool.true_and,Bool.not_eq_true'];cases hc:(eU Rw i).contains j with
      |false=>rfl
      |true=>exact absurd (Uy j (List.contains_iff_mem.1 hc)) WK
  cases hr:dT D L with
  |cons a r=>unfold ie;rw[hr]at key|-;exact key
  |nil=>
   exfalso;have first:∀(a b:List Nat),pre++tail=a++b->(∀j∈a,j∈L)->(∃i∈b,i∉L)->∃a' e b',pre++tail=a'++e::b'/\(∀j∈a',j∈L)/\e∉L:=by
    intro a b
    induction b generalizing a with
    |nil=>rintro _ _ ⟨i,h,_⟩;cases h
    |cons e b ihb=>
     intro he ha hx;by_cases Yf:e∈L
     .refine ihb (a++[e]) (by rw[he];simp) (λj hj=>?_) ?_
      .rcases List.mem_append.1 hj with hj|hj
       .exact ha j hj
       .simp only[List.mem_singleton]at hj;rw[hj];exact Yf
      .obtain⟨i,hi,UZ⟩:=hx;rcases List.mem_cons.1 hi with rfl|hi
       .exact absurd Yf UZ
       .exact⟨i,hi,UZ⟩
     .exact⟨a,e,b,he,ha,Yf⟩
   obtain⟨a,e,b,he,ha,Yf⟩:=first [] (pre++tail) rfl (by simp) ⟨s0,by simp[hF.sub s0 RX],hSL s0 RX⟩
   have U6:e<l.length:=hE.lt e (by rw[he];simp);have:e∈dT D L:=by
    unfold dT;refine List.mem_filter.2 ⟨by simp[hE.YZ,U6],?_⟩;simp only[Ba,Bool.not_eq_true',List.all_eq_true];exact⟨by simpa using Yf,λd hd=>List.contains_iff_mem.2 (ha d (hE.ahead a e b he d hd))⟩
   rw[hr]at this;cases this
end
inductive PT where
 |leaf (Rw:List (List Nat)) (r:List Nat)
 |fork (Rw:List (List Nat)) (m:List Nat) (S:List Nat) (kids:List PT)
def PT.Rw:PT->List (List Nat)
 |.leaf b _=>b
 |.fork b _ _ _=>b
def PT.ord:Nat->PT->List Nat
 |0,_=>[]
 |f+1,t=>match t with
  |.leaf _ r=>r
  |.fork _ m _ kids=>m++(match kids with
   |k::_=>PT.ord f k
   |[]=>[])
def Cw(g:Nat->PT->Bool):List Nat->List PT->Bool
 |[],[]=>true
 |s::ss,t::ts=>g s t&&Cw g ss ts
 |_,_=>false
def tj{g:Nat->PT->Bool}:∀{S:List Nat} {ts:List PT},Cw g S ts=true->∀s∈S,∃t∈ts,g s t=true
 |[],[],_,s,hs=>by cases hs
 |a::S,t::ts,h,s,hs=>by
  simp only[Cw,Ba]at h;rcases List.mem_cons.1 hs with rfl|hs
  .exact⟨t,by simp,h.1⟩
  .obtain⟨t',h1,h2⟩:=tj h.2 s hs;exact⟨t',by simp[h1],h2⟩
def IL(l:List aN)(D Rw:List (List Nat))(pre tail S:List Nat):Bool:=
 Ic l D Rw (pre++tail)&&(lM (λa b=>!(pre.contains a)||(!(dD l Rw a)||(eU Rw b).contains a)) (pre++tail)&&
 (S.all tail.contains&&(!S.isEmpty&&tail.all λi=>S.contains i||S.any λs=>(eU Rw i).contains s)))
def Gd(l:List aN):Nat->List (List Nat)->List Nat->PT->Bool
 |0,_,_,_=>false
 |f+1,D,pre,t=>match t with
  |.leaf Rw r=>eOk l D Rw (pre++r)
  |.fork Rw m S kids=>IL l D Rw (pre++m) (match kids with
    |k::_=>PT.ord f k
    |[]=>[]) S&&Cw (λs k=>((pre++m).all λi=>dD l k.Rw i==dD l Rw i)&&Gd l f (nW D S s) (pre++m) k) S kids
def GT(P:Program)(l:List aN)(K:St->Prop):Nat->List Nat->PT->St->Prop
 |0,_,_,_=>False
 |f+1,pre,t,x=>match t with
  |.leaf Rw r=>RE P l K (eB l Rw pre r) x
  |.fork Rw m _ kids=>RE P l (λx=>∀k∈kids,GT P l K f (pre++m) k x) (eB l Rw pre m) x
def jw.more{l:List aN}{D Rw:List (List Nat)}{pre m:List Nat}{K:St->Prop}{L:List Nat}{y:St}{done rest:List Nat}{x:St}(h:jw P l D Rw pre (RE P l K (eB l Rw pre m)) L y done rest x):
 jw P l D Rw (pre++m) K L y done (rest++m) x:=by
 refine⟨by rw[h.split];simp,h.sub,h.nodup,h.closed,h.Tq,h.store,h.slot,h.lag,?_⟩;rw[nm,vy,<-h.split];exact h.go
def jw.mono{l:List aN}{D Rw:List (List Nat)}{pre:List Nat}{K K':St->Prop}(hk:∀x,K x->K' x){L:List Nat}{y:St}{done rest:List Nat}{x:St}(h:jw P l D Rw pre K L y done rest x):
 jw P l D Rw pre K' L y done rest x:=⟨h.split,h.sub,h.nodup,h.closed,h.Tq,h.store,h.slot,h.lag,RE.mono hk h.go⟩
def B4{l:List aN}{K:St->Prop}:∀(fu:Nat) (D:List (List Nat)) (pre:List Nat) (t:PT),Gd l fu D pre t=true->∀(f:Nat) (L:List Nat) (y:St) (done rest:List Nat) (x:St),f+L.length=l.length->
 (∀i∈L,i∈pre)->jw P l D t.Rw pre (GT P l K fu pre t) L y done rest x->ie P l D K f L y
 |0,_,_,_,h,_,_,_,_,_,_,_,_,_=>by cases h
 |fu+1,D,pre,t,h,f,L,y,done,rest,x,hf,hLp,hl=>by
  cases t with
  |leaf Rw r=>exact o5 (yq h) f L y done (rest++r) x hf (jw.more hl)
  |fork Rw m S kids=>
   simp only[Gd,Ba]at h;obtain⟨h1,h2⟩:=h;generalize (match kids with
    |k::_=>PT.ord fu k
    |[]=>[])=tail at h1
   simp only[IL,Ba]at h1;obtain⟨g1,g2,g3,g4,g5⟩:=h1;have hk:=tj h2;have hW:=uZ g1;have hF:∀kid:Nat->PT,(∀s∈S,((pre++m).all λi=>dD l (kid s).Rw i==dD l Rw i)=true)->FN l D Rw (pre++m) tail S (λs=>(kid s).Rw):=λkid Wh=>by
    refine⟨hW,λa b u v he hu hv hup hue=>?_,λs hs=>by simpa using List.all_eq_true.1 g3 s hs,?_,λi hi hiS=>?_,λs hs i hi=>by simpa using List.all_eq_true.1 (Wh s hs) i hi⟩
    .rw[he]at g2;have:=mr g2 hu hv;simp only[Bool.or_eq_true,Bool.not_eq_true',List.contains_iff_mem,hue,Bool.true_eq_false,false_or]at this;rcases this with h|h
     .have hc:(pre++m).contains u=true:=List.contains_iff_mem.2 hup;rw[hc]at h;cases h
     .exact h
    .cases S with
     |nil=>simp at g4
     |cons s S=>exact⟨s,by simp⟩
    .have:=List.all_eq_true.1 g5 i hi;simp only[Bool.or_eq_true,List.contains_iff_mem,List.any_eq_true]at this;exact this.resolve_left hiS
   have hch:∀s,∃k:PT,s∈S->(k∈kids/\(((pre++m).all λi=>dD l k.Rw i==dD l Rw i)=true/\Gd l fu (nW D S s) (pre++m) k=true)):=λs=>by
    by_cases hs:s∈S
    .obtain⟨k,h3,h4⟩:=hk s hs;simp only[Ba]at h4;exact⟨k,λ_=>⟨h3,h4⟩⟩
    .exact⟨.leaf [] [],λh=>absurd h hs⟩
   obtain⟨kid,Wh⟩:=Classical.axiomOfChoice hch;have hFN:=hF kid λs hs=>(Wh s hs).2.1;have hSpre:∀s∈S,s∉pre++m:=λs hs hm=>(List.nodup_append.1 hW.nodup).2.2 s hm s (hFN.sub s hs) rfl;refine A8 (Ks:=λs=>GT P l K fu (pre++m) (kid s)) hFN (λs hs f L y done rest x hf hl=>?_) f L y done (rest++m) x hf (λs hs hm=>hSpre s hs (List.mem_append_left _ (hLp s hm))) ?_
   .refine B4 fu _ _ _ (Wh s hs).2.2 f L y done rest x hf (λi hi=>?_) hl;have:=hl.sub i hi;rw[hl.split];simp[this]
   .exact jw.mono (λx hx s hs=>hx (kid s) (Wh s hs).1) (jw.more hl)
def ad.CX(hm:P.follows .mixedOrders=true){l:List aN}{Rx:List (List Nat)}(fu:Nat)(t:PT)(hB:Gd l fu Rx [] t=true)(h:GT P l (λx=>ad P n k x Q) fu [] t st):ad P n (.code (.Ss l Rx)::k) st Q:=by
 refine ad.IQ hm (B4 fu Rx [] t hB l.length [] st [] [] st (by simp) (by simp) ⟨rfl,by simp,List.nodup_nil,by simp,by simp,rfl,λ_ _=>rfl,by simp,?_⟩);exact h
variable {P:Program} {l:List aN} {K:St->Prop} {f:Nat} {pre m S r its:List Nat} {Rw:List (List Nat)} {a b c:PT} {x:St}
def GT.iO(h:eB l Rw pre r=its)(hg:RE P l K its x):GT P l K (f+1) pre (.leaf Rw r) x:=by subst h;exact hg
def GT.oX(h:eB l Rw pre m=its)(hg:RE P l (λx=>GT P l K f (pre++m) a x/\GT P l K f (pre++m) b x) its x):GT P l K (f+1) pre (.fork Rw m S [a,b]) x:=by
 subst h;refine RE.mono (λx hx k hk=>?_) hg;simp only[List.mem_cons,List.not_mem_nil,or_false]at hk;rcases hk with rfl|rfl
 .exact hx.1
 .exact hx.2
def GT.Nh(h:eB l Rw pre m=its)(hg:RE P l (λx=>GT P l K f (pre++m) a x/\GT P l K f (pre++m) b x/\GT P l K f (pre++m) c x) its x):GT P l K (f+1) pre (.fork Rw m S [a,b,c]) x:=by
 subst h;refine RE.mono (λx hx k hk=>?_) hg;simp only[List.mem_cons,List.not_mem_nil,or_false]at hk;rcases hk with rfl|rfl|rfl
 .exact hx.1
 .exact hx.2.1
 .exact hx.2.2
open Go.Proofs Go.Proofs.Tryz
def nR(fs:List P')(y:Int):Int:=if(ee si fs).2 then max y (ee si fs).1 else y
def kO(fs:List P')(f:P')(y:Int)(s:Sd):Int:=oV fs f.w f.h s (nR fs y)
def oF(fs:List P')(f:P')(y:Int)(s:Sd):Int:=
 let b:=dZ fs (kO fs f y s) f.h s
 if f.side=1 then b.a else max b.a (b.b-f.w)
def jq(fs:List P')(f:P')(y:Int)(s:Sd):P':={ f with x:=oF fs f y s,y:=kO fs f y s }
def tT(fs:List P')(f:P')(y:Int)(s:Sd):List P':=fs++[jq fs f y s]
def HF{fs:List P'}{y:Int}(Rg:∀f∈fs,f.ok)(hy:Tb y):Tb (nR fs y):=by
 unfold nR;split
 .rename_i h;obtain⟨f,hf,h1,_⟩:=la h;obtain⟨_,⟨h3,h4⟩,_⟩:=Rg f hf;obtain⟨g1,g2⟩:=hy;rw[h1];simp only[si];exact⟨by omega,by omega⟩
 .exact hy
def Jk(fs:List P')(f:P')(y:Int)(s:Sd)(hl:fs.length<=1000000)(Rg:∀f∈fs,f.ok)(hy:Tb y)(hh:Bq f.h)(hw:Bq f.w)(Tl:Tb s.a/\Tb s.b):
 aV prog 270 [aH fs,aQ f,vI y,aZ s] (.Rf [vI (oF fs f y s),vI (kO fs f y s)]):=λU=>by
 refine QP.r (by simp[Mt]) ?_;have hs:=aa.refl U;refine ad.mix 14 ?_;apply sR;simp only[go_sem,seval,Mt,aQ,aZ];refine af λi5 Z5 s5 a5 f5=>?_;have z5:=hs.none f5;replace hs:=hs.trans s5;simp only[go_sem,seval,a5];refine af λi7 Z7 s7 a7 f7=>?_;have n57:=aq a5 f7;replace a5:=s7 _ _ a5;have z7:=hs.none f7;replace hs:=hs.trans s7;simp only[go_sem,seval,a7,a5];refine ad.aB rfl rfl rfl (MU fs hl Rg _) ?_;have WD:=HF (y:=y) Rg hy;have XI:=HX fs f (nR fs y) s hl Rg WD hh Tl;have hbo:=lO (y:=kO fs f y s) (high:=f.h) Rg Tl;obtain⟨z,hz⟩:∃z,z=kO fs f y s:=⟨_,rfl⟩
 have hz2:oV fs f.w f.h s (nR fs y)=z:=hz.symm;rw[hz2]at XI;rw[<-hz]at hbo;obtain⟨b,hb⟩:∃b,b=dZ fs z f.h s:=⟨_,rfl⟩
 have hx:oF fs f y s=if f.side=1 then b.a else max b.a (b.b-f.w):=by unfold oF;rw[<-hz,<-hb]
 rw[<-hz,hx];rw[<-hb]at XI hbo;obtain⟨Wb,Sb,hb3,hb4⟩:-2305843009213693952<=b.a/\b.a<=2305843009213693952/\-2305843009213693952<=b.b/\b.b<=2305843009213693952:=⟨hbo.1.1,hbo.1.2,hbo.2.1,hbo.2.2⟩
 obtain⟨hw1,Vi⟩:=hw;cases ht:(ee si fs).2
 .have hty2:nR fs y=y:=by unfold nR;rw[ht];rfl
  rw[hty2]at XI;apply sR;simp only[go_sem,seval,a7,a5,ar,au];refine ad.aB rfl rfl rfl (XI _) ?_;apply sR;simp only[go_sem,seval,a7,a5,aZ];refine af λSN Z12 WV a12 f12=>?_;have n512:=aq a5 f12;replace a5:=WV _ _ a5;have n712:=aq a7 f12;replace a7:=WV _ _ a7;have z12:=hs.none f12;replace hs:=hs.trans WV;by_cases UE:f.side=1
  .have q:(f.side=1)=True:=eq_true UE;rw[if_pos UE];simp only[go_sem,seval,a12,a7,a5,q,ab n512,ab n712];exact ay.pure (hs.aE z12) rfl
  .have q:(f.side=1)=False:=eq_false UE;rw[if_neg UE];have r1:Rq .i64 (b.b-f.w):=ao (by omega) (by omega);simp only[go_sem,seval,a12,a7,a5,q,r1,dh,ab n512,ab n712];exact ay.pure (hs.aE z12) rfl
 .have hty2:nR fs y=max y (ee si fs).1:=by unfold nR;rw[ht];rfl
  rw[hty2]at XI;apply sR;simp only[go_sem,seval,a7,a5,ar,au,dh];refine ad.aB rfl rfl rfl (XI _) ?_;apply sR;simp only[go_sem,seval,a7,a5,aZ];refine af λSN Z12 WV a12 f12=>?_;have n512:=aq a5 f12;replace a5:=WV _ _ a5;have n712:=aq a7 f12;replace a7:=WV _ _ a7;have z12:=hs.none f12;replace hs:=hs.trans WV;by_cases UE:f.side=1
  .have q:(f.side=1)=True:=eq_true UE;rw[if_pos UE];simp only[go_sem,seval,a12,a7,a5,q,ab n512,ab n712];exact ay.pure (hs.aE z12) rfl
  .have q:(f.side=1)=False:=eq_false UE;rw[if_neg UE];have r1:Rq .i64 (b.b-f.w):=ao (by omega) (by omega);simp only[go_sem,seval,a12,a7,a5,q,r1,dh,ab n512,ab n712];exact ay.pure (hs.aE z12) rfl
open Go.Proofs Go.Proofs.Tryz
def cS(p:Int->Bool):List Int->Int
 |[]=>-1
 |x::l=>if p x then 0 else if cS p l<0 then -1 else cS p l+1
def oZ(p:Int->Bool)(i:Nat)(l:List Int):Int:=if cS p l<0 then -1 else cS p l+i
def iD(p:Int->Bool):∀l,-1<=cS p l
 |[]=>by simp[cS]
 |x::l=>by
  have:=iD p l;simp only[cS];split
  .omega
  .split<;>omega
def C0(p:Int->Bool)(l:List Int):cS p l=oZ p 0 l:=by
 have:=iD p l;unfold oZ;split<;>omega
def l9{U:ai}{sv:V}{l:List Int}{f:FuncId}{caps:List V}{p:Int->Bool}(hr:Reads U 1 false sv (l.map vI))(hl:l.length<=200000000000000)
 (hf:∀n∈l,aD prog f (vI n::caps) U λr Z'=>r=.bool (p n)/\Z'=U):
 aD prog 212 [sv,.fn f caps] U λr Z'=>r=vI (cS p l)/\Z'=U:=by
 have hlen:dz false sv=some (vI (l.length:Int)):=by simpa using hr.1
 refine QM.r (by simp[Mp]) ?_;apply sR;simp only[go_sem,seval,aO,aP,Mp,hlen];refine ad.loop (λm st=>∃i:Nat,i<=l.length/\m=l.length-i/\cS p l=oZ p i (l.drop i)/\st.U=U/\st.s 0=sv/\st.s 1=.fn f caps/\st.s 7=vI l.length/\st.s 8=vI i) l.length ?_ ?_
 .exact⟨0,by omega,by omega,C0 p l,rfl,rfl,rfl,rfl,rfl⟩
 .rintro m ⟨s,Z'⟩ ⟨i,hi,rfl,hp,RH,h0,h1,h7,h8⟩;simp only at h0 h1 h7 h8 RH;subst RH;apply sR;simp only[go_sem,seval,aO,aP,h0,h1,h7,h8];constructor
  .intro H';have SS:i<l.length:=by omega
   have hd:l.drop i=l[i]::l.drop (i+1):=List.drop_eq_getElem_cons SS;obtain⟨pp,e1,e2⟩:=hr.2 i (vI l[i]) (by simp[SS]);simp only[go_sem,seval,aO,aP,e1,e2,ud];refine ad.aB rfl rfl rfl (hf l[i] (List.getElem_mem SS)) ?_;apply sR;simp only[go_sem,seval,aO,aP,h0,h1,h7,h8];cases hpx:p l[i]
   .simp only[go_sem,seval,aO,aP,h8];refine⟨ao (by omega) (by omega),_,?_,i+1,by omega,rfl,?_,h0,h1,h7,?_⟩
    .omega
    .rw[hp,hd];simp only[oZ,cS,hpx,Bool.false_eq_true,if_false];have:=iD p (l.drop (i+1))
     repeat' split
     all_goals omega
    .simp
   .simp only[go_sem,seval,aO,aP];refine ay.same ?_;rw[hp,hd];simp[oZ,cS,hpx]
  .intro VT;have:i=l.length:=by omega
   refine ay.same ?_;rw[hp,this,List.drop_length];rfl
open Go.Proofs Go.Proofs.Tryz
def Nd.ok(x:Nd):Bool:=
 if x.kind=1 then x.st.ok&&decide (x.line=0)&&decide (x.space=0)&&decide (x.words.length=0)&&decide (x.side=0)&&decide (x.w=0)&&decide (x.h=0)
 else if x.st≠SA.zero then false
 else if x.kind=2 then x.words.all (br · 1 mx)&&decide (0<x.words.length)&&br x.line 1 mx&&br x.space 0 mx&&decide (x.side=0)&&decide (x.w=0)&&decide (x.h=0)
 else decide (x.line=0)&&decide (x.space=0)&&decide (x.words.length=0)&&br x.w 1 mx&&br x.h 1 mx&&
  (decide (x.kind=3)&&decide (x.side=0)||decide (x.kind=4)&&br x.side 1 2)
def dJ(l:List Int):dz false (bn l)=some (.int .i64 l.length):=by simp[bn,dz]
def sD(b:Bool):V.bool b=V.bool (decide (b=true)):=by cases b<;>rfl
open Go.Proofs Go.Proofs.Tryz
def lI{U:ai}{l:List Nd}{i:Nat}(h:i<l.length):bQ U 20 (aK l) (.int .i64 i)=some (.rp (.agg (Nd.cells l[i]))):=by
 simp[aK,bQ,h,iB]
def cu(l:List Nd)(a e:Nat):Bool:=
 if _h:a<e then
  match l[a]? with
  |none=>false
  |some x=>if _hx:1<=x.size/\x.size<=(e:Int)-a then
     (decide (x.kind=1)||decide (x.size<=1))&&cu l (a+1) (a+x.size.toNat)&&cu l (a+x.size.toNat) e else false
 else true
termination_by e-a
decreasing_by all_goals omega
open Go.Proofs Go.Proofs.Tryz
def dH(l:List Nd):Prop:=l.length<=10000/\∀x∈l,x.words.length<=200000000000000
def R3(l:List Nd):Bool:=l.all Nd.ok&&cu l 0 l.length
def uB(U:ai)(x:Nd):bS U true 20 (.rp (.agg x.cells))=some (iB x):=rfl
open Go.Proofs Go.Proofs.Tryz
def ir(l:List Nd):∀(m a e:Nat),e-a<m->e<=l.length->cu l a e=true->∀k,a<=k->(h:k<e)->(h2:k<l.length)->1<=l[k].size/\l[k].size<=(e:Int)-k/\(l[k].kind=1\/l[k].size<=1)
 |0,_,_,h,_,_=>by omega
 |m+1,a,e,hm,he,hr=>by
  intro k hk hke h2;have WN:a<e:=by omega
  have ha:a<l.length:=by omega
  rw[cu,dif_pos WN]at hr;have hga:l[a]?=some l[a]:=by simp[ha]
  rw[hga]at hr;simp only at hr;split at hr
  .rename_i hx;simp only[Ba,Bool.or_eq_true,decide_eq_true_eq]at hr;obtain⟨⟨h3,h4⟩,h5⟩:=hr;by_cases hka:k=a
   .subst hka;exact⟨hx.1,hx.2,h3⟩
   .by_cases XJ:k<a+l[a].size.toNat
    .obtain⟨g1,g2,g3⟩:=ir l m (a+1) (a+l[a].size.toNat) (by omega) (by omega) h4 k (by omega) XJ h2;exact⟨g1,by omega,g3⟩
    .exact ir l m (a+l[a].size.toNat) e (by omega) he h5 k (by omega) hke h2
  .cases hr
structure Sm where
 (depth pieces nodes O':Int)
deriving DecidableEq
def Sm.cells(s:Sm):List V:=[vI s.depth,vI s.pieces,vI s.nodes,vI s.O']
def jA(a b:Int):Int:=min (a+b) 1099511627777
def iJ(l:List Nd)(i:Nat):Nat->Int
 |0=>0
 |k+1=>iJ l i k+(match l[k]? with
  |some y=>if y.kind=1/\(i:Int)<k+y.size then 1 else 0
  |none=>0)
def Bn(a b:Int):Nat->Int
 |0=>a
 |n+1=>jA (Bn a b n) b
def nD(l:List Nd)(i:Nat)(x:Nd)(s:Sm):Sm:=
 if x.kind=1 then{ s with depth:=max s.depth (iJ l i (i+1)),O':=jA (jA (jA (jA (jA s.O' x.st.top) x.st.Ry) x.st.Rl) x.st.Rb) x.st.head }
 else if x.kind=2 then{ s with pieces:=s.pieces+x.words.length,O':=Bn s.O' x.line x.words.length }
 else{ s with pieces:=s.pieces+1,O':=jA s.O' x.h }
def gN(l:List Nd)(s:Sm):Nat->Sm
 |0=>s
 |i+1=>match l[i]? with
  |some x=>nD l i x (gN l s i)
  |none=>gN l s i
def iR(l:List Nd):Sm×Int:=if R3 l then(gN l ⟨0,0,l.length,0⟩ l.length,0)else(⟨0,0,0,0⟩,4)
def fP{a b:Int}(h1:0<=a/\a<=1099511627777)(h2:0<=b):0<=jA a b/\jA a b<=1099511627777:=by
 unfold jA;omega
def Cm{a b:Int}(h1:0<=a/\a<=1099511627777)(h2:0<=b):∀n,0<=Bn a b n/\Bn a b n<=1099511627777
 |0=>h1
 |n+1=>fP (Cm h1 h2 n) h2
def ur(l:List Nd)(i:Nat):∀k,0<=iJ l i k/\iJ l i k<=k
 |0=>by simp[iJ]
 |k+1=>by
  have:=ur l i k;simp only[iJ];split
  .split<;>omega
  .omega
def jN{x:Nd}(h:x.ok=true):(x.kind=1\/x.kind=2\/x.kind=3\/x.kind=4)/\0<=x.line/\x.line<=mx/\0<=x.h/\x.h<=mx/\
 (x.kind=1->(0<=x.st.top/\x.st.top<=mx)/\(0<=x.st.Ry/\x.st.Ry<=mx)/\(0<=x.st.Rl/\x.st.Rl<=mx)/\(0<=x.st.Rb/\x.st.Rb<=mx)/\(0<=x.st.head/\x.st.head<=mx)):=by
 unfold Nd.ok at h;split at h
 .rename_i hk;simp only[SA.ok,br,Ba,decide_eq_true_eq]at h|-;simp only[mx]at h|-;refine⟨.inl hk,by omega,by omega,by omega,by omega,λ_=>?_⟩;omega
 .split at h
  .cases h
  .split at h
   .rename_i h1 _ hk;simp only[br,Ba,decide_eq_true_eq]at h|-;simp only[mx]at h|-;exact⟨.inr (.inl hk),by omega,by omega,by omega,by omega,λe=>absurd e h1⟩
   .rename_i h1 _ _;simp only[br,Ba,Bool.or_eq_true,decide_eq_true_eq]at h|-;simp only[mx]at h|-;exact⟨by omega,by omega,by omega,by omega,by omega,λe=>absurd e h1⟩
def Sm.ru(s:Sm)(k:Int):Prop:=(0<=s.depth/\s.depth<=k)/\(0<=s.pieces/\s.pieces<=k*200000000000000)/\(0<=s.O'/\s.O'<=1099511627777)
def DN{l:List Nd}{i:Nat}{x:Nd}{s:Sm}(hx:x.ok=true)(hw:x.words.length<=200000000000000)(h:s.ru i):(nD l i x s).ru (i+1):=by
 obtain⟨h1,h2,h3⟩:=h;obtain⟨g1,g2,g3,g4,g5,g6⟩:=jN hx;unfold nD;split
 .rename_i hk;obtain⟨a1,a2,a3,a4,a5⟩:=g6 hk;have hd:=ur l i (i+1);refine⟨?_,?_,fP (fP (fP (fP (fP h3 a1.1) a2.1) a3.1) a4.1) a5.1⟩
  .simp only;omega
  .simp only;omega
 .split
  .refine⟨?_,?_,Cm h3 g2 _⟩
   .simp only;omega
   .simp only;omega
  .refine⟨?_,?_,fP h3 g4⟩
   .simp only;omega
   .simp only;omega
open Go.Proofs Go.Proofs.Tryz
def Sm.zero:Sm:=⟨0,0,0,0⟩
open Go.Proofs Go.Proofs.Tryz
def sJ(p:Int->Bool):∀l,decide (cS p l>=0)=l.any p
 |[]=>by simp[cS]
 |x::l=>by
  have ih:=sJ p l;simp only[cS,List.any_cons];have hg:=iD p l;rw[<-ih,Bool.eq_iff_iff];simp only[decide_eq_true_eq,Bool.or_eq_true];split
  .rename_i h;simp[h]
  .rename_i h;simp only[h,Bool.false_eq_true,false_or];by_cases hx:cS p l<0
   .rw[if_pos hx];constructor<;>intro hh<;>simp at hh|-<;>omega
   .rw[if_neg hx];constructor<;>intro hh<;>simp at hh|-<;>omega
def ml{U:ai}{sv:V}{l:List Int}{f:FuncId}{caps:List V}{p:Int->Bool}(hr:Reads U 1 false sv (l.map vI))(hl:l.length<=200000000000000)
 (hf:∀n∈l,aD prog f (vI n::caps) U λr Z'=>r=.bool (p n)/\Z'=U):
 aD prog 257 [sv,.fn f caps] U λr Z'=>r=.bool (l.any p)/\Z'=U:=by
 refine Q6.r (by simp[LC]) ?_;apply sR;simp only[go_sem,seval,aO,aP,LC];refine ad.aB rfl rfl rfl (l9 hr hl hf) ?_;apply sR;simp only[go_sem,seval,aO,aP];refine ay.same ?_;rw[<-sJ]
def J3{U:ai}{id:Nat}{a b:Int}(h:U id=some ⟨301,2,[.agg [vI a,vI b]]⟩)(n:Int):
 aD prog 258 [vI n,.ptr id 0 0] U λr Z'=>r=.bool (!br n a b)/\Z'=U:=by
 refine OI.r (by simp[JU]) ?_;apply sR;simp only[go_sem,seval,aO,aP,JU,h];refine And.intro (λh=>?_) (λh=>?_)
 .refine ay.same ?_;congr 1;simp only[br];rw[<-decide_not,decide_eq_decide];omega
 .refine ay.same ?_;have:¬(n>=a/\n<=b):=by omega
  simp only[br,this,decide_false,Bool.not_false]
def Reads.mono{U Z':ai}{sz:Nat}{agg:Bool}{sv:V}{rows:List V}(h:aa U Z')(hr:Reads U sz agg sv rows):Reads Z' sz agg sv rows:=by
 refine⟨hr.1,λi v hv=>?_⟩;obtain⟨p,h1,h2⟩:=hr.2 i v hv;refine⟨p,?_,?_⟩
 .cases sv<;>simp only[bQ,reduceCtorEq]at h1|-
  .exact h1
  .rename_i id off len;cases ho:U id with
   |none=>rw[ho]at h1;cases h1
   |some ob=>rw[ho]at h1;rw[h id ob ho];exact h1
 .cases p<;>simp only[bS,reduceCtorEq]at h2|-
  .rename_i id i k;cases ho:U id with
   |none=>rw[ho]at h2;cases h2
   |some ob=>rw[ho]at h2;rw[h id ob ho];exact h2
  .exact h2
def Ir{U:ai}{sv:V}{l:List Int}{a b:Int}(hr:Reads U 1 false sv (l.map vI))(hl:l.length<=200000000000000):
 aD prog 211 [.agg [vI a,vI b],sv] U λr Z'=>r=.bool (l.all λn=>br n a b)/\Z'=U:=by
 refine OW.r (by simp[I9]) ?_;apply sR;simp only[go_sem,seval,aO,aP,I9];intro id M';refine ad.aB rfl rfl rfl (ml (p:=λn=>!br n a b) (hr.mono ((aa.refl U).C' M')) hl (λn _=>J3 ag n)) ?_;apply sR;simp only[go_sem,seval,aO,aP];refine ay.pure ((aa.refl U).C' M') ?_;rw[List.all_eq_not_any_not]
open Go.Proofs Go.Proofs.Tryz
def fT:List V->Option (List Int)
 |[]=>some []
 |.int .i64 n::l=>(fT l).map (n::·)
 |_=>none
def kG:∀{l:List V} {m:List Int},fT l=some m->l=m.map vI
 |[],m,h=>by simp[fT]at h;subst h;rfl
 |v::l,m,h=>by
  cases v<;>try (simp[fT]at h)
  rename_i k n;cases k<;>try (simp[fT]at h)
  obtain⟨m',h1,rfl⟩:=h;rw[kG h1];rfl
def sW(m:List Int):fT (m.map vI)=some m:=by
 induction m with
 |nil=>rfl
 |cons n m ih=>simp[fT,ih]
def fo(U:ai):V->Option (List Int)
 |.own id off len=>match U id with
   |some ob=>if ob.sz=1/\off+len<=ob.rows.length/\len<=200000000000000 then(if(fT ob.rows).isSome then fT ((ob.rows.drop off).take len)else none)else none
   |none=>none
 |.sl 1 rows=>if rows.length<=200000000000000 then fT rows else none
 |_=>none
def lZ{U:ai}{sv:V}{l:List Int}(h:fo U sv=some l):Reads U 1 false sv (l.map vI)/\l.length<=200000000000000:=by
 unfold fo at h;split at h
 .rename_i id off len;split at h
  .rename_i ob Sa;split at h
   .rename_i hc;split at h
    .rename_i hi;have he:=kG h;obtain⟨m,hm⟩:=Option.isSome_iff_exists.1 hi;have hm:=kG hm;have hr:=Reads.own (U:=U) Sa hc.1 hc.2.1 (λr hr=>by rw[hm]at hr;simp only[List.mem_map]at hr;obtain⟨n,_,rfl⟩:=hr;rfl);rw[he]at hr;have hl:l.length=len:=by
      have:=congrArg List.length he;simp at this;omega
     exact⟨hr,by omega⟩
    .cases h
   .cases h
  .cases h
 .rename_i rows;split at h
  .rename_i hc;have he:=kG h;subst he;exact⟨Reads.ints,by simpa using hc⟩
  .cases h
 .cases h
def ny{U Z':ai}(hs:aa U Z'){sv:V}{l:List Int}(h:fo U sv=some l):fo Z' sv=some l:=by
 unfold fo at h|-;split at h
 .split at h
  .rename_i ob Sa;simp only[hs _ _ Sa];exact h
  .cases h
 .exact h
 .cases h
def ng(U:ai){l:List Int}(h:l.length<=200000000000000):fo U (bn l)=some l:=by
 simp only[bn,fo,List.length_map,if_pos h];exact sW l
def o10(f:FuncId)(args:List V)(U:ai):Option V:=if f=211 then(match args with
 |[.agg [.int .i64 a,.int .i64 b],sv]=>(fo U sv).map λl=>.bool (l.all λn=>br n a b)
 |_=>none)else none
def O10:Tm prog where
 get:=o10
 up f args U Z' v hs h:=by
  unfold o10 at h|-;split at h
  .rename_i hf;rw[if_pos hf];split at h
   .simp only[Option.map_eq_some_iff]at h|-;obtain⟨l,h1,h2⟩:=h;exact⟨l,ny hs h1,h2⟩
   .cases h
  .cases h
 ok f args U v h:=by
  unfold o10 at h;split at h
  .rename_i hf;subst hf;split at h
   .simp only[Option.map_eq_some_iff]at h;obtain⟨l,h1,rfl⟩:=h;obtain⟨g1,g2⟩:=lZ h1;exact Ir g1 g2
   .cases h
  .cases h
def sH(a b:Int)(sv:V)(U:ai):O10.get 211 [.agg [.int .i64 a,.int .i64 b],sv] U=(fo U sv).map λl=>.bool (l.all λn=>br n a b):=rfl
def cZ(U:ai)(id off len:Nat):fo U (.own id off len)=match U id with
 |some ob=>if ob.sz=1/\off+len<=ob.rows.length/\len<=200000000000000 then(if(fT ob.rows).isSome then fT ((ob.rows.drop off).take len)else none)else none
 |none=>none:=rfl
def eg(n:Int)(l:List V):fT (.int .i64 n::l)=(fT l).map (n::·):=rfl
def eo:fT []=some []:=rfl
def Fl(s:SA):aV prog 210 [.agg s.cells] (.bool s.ok):=λU=>by
 refine Pd.r (by simp[LB]) ?_;refine ad.mix 6 ?_
 (refine ad.bN O10 300 ?_;simp only[go_sem,seval,LB,SA.cells])
 refine af λUJ Z1 s1 a1 f1=>?_;simp only[go_sem,seval];refine af λid3 Z2 s2 a3 f3=>?_;have U9:=aq a1 f3;have a1:=s2 _ _ a1;simp only[go_sem,seval,a1];refine af λU0 Z3 s3 a4 f4=>?_;have n14:=aq a1 f4;have YE:=aq a3 f4;have a1:=s3 _ _ a1;have a3:=s3 _ _ a3;have hs:aa U Z3:=(s1.trans s2).trans s3;have g3:U id3=none:=s1.none f3;have g4:U U0=none:=(s1.trans s2).none f4;simp only[go_sem,seval,a1,a3,a4,ab YE,ab YE.symm,ab U9,ab n14];have Ru:=λo o'=>(hs.aE (o:=o) g3).aE (o:=o') g4;refine af λU1 Z4 s4 a5 f5=>?_;have a1:=s4 UJ _ (by rw[ab n14,ab U9];exact a1);have a4:=s4 U0 _ ag;have hs:=(Ru _ _).trans s4;simp only[go_sem,seval,a1,a4,a5,sH,cZ,eg,eo,br,<-Bool.decide_and];refine And.intro (λp0=>?_) (λp0=>ay.pure hs (by rw[V.bool.injEq];symm;rw[Bool.eq_false_iff];intro h;simp[SA.ok,br,mx]at h;omega));refine af λYi Z5 s5 a6 f6=>?_;have a1:=s5 _ _ a1;have hs:=hs.trans s5;simp only[go_sem,seval,a1,a6,sH,cZ,eg,eo,br,<-Bool.decide_and];refine And.intro (λp1=>?_) (λp1=>ay.pure hs (by rw[V.bool.injEq];symm;rw[Bool.eq_false_iff];intro h;simp[SA.ok,br,mx]at h;omega));refine af λid7 Z6 s6 a7 f7=>?_;have a1:=s6 _ _ a1;have hs:=hs.trans s6;simp only[go_sem,seval,a1,a7,sH,cZ,eg,eo,br,<-Bool.decide_and];refine And.intro (λp2=>?_) (λp2=>ay.pure hs (by rw[V.bool.injEq];symm;rw[Bool.eq_false_iff];intro h;simp[SA.ok,br,mx]at h;omega));refine af λid8 Z7 s7 a8 f8=>?_;have a1:=s7 _ _ a1;have hs:=hs.trans s7;simp only[go_sem,seval,a1,a8,sH,cZ,eg,eo,br,<-Bool.decide_and];refine And.intro (λp3=>?_) (λp3=>ay.pure hs (by rw[V.bool.injEq];symm;rw[Bool.eq_false_iff];intro h;simp[SA.ok,br,mx]at h;omega));refine af λVW Z8 s8 a9 f9=>?_;have a1:=s8 _ _ a1;have hs:=hs.trans s8;simp only[go_sem,seval,a1,a9,sH,cZ,eg,eo,br,<-Bool.decide_and];refine ay.pure hs ?_;rw[V.bool.injEq,Bool.eq_iff_iff];simp[SA.ok,br,mx];omega
open Go.Proofs Go.Proofs.Tryz
def gY(l:List Nd):Int:=if R3 l then(if(iR l).1.depth>16\/(iR l).1.pieces>2000\/(iR l).1.nodes>2000\/(iR l).1.O'>1099511627776 then 2 else 0)else 4
open Go.Proofs Go.Proofs.Tryz
def o12(f:FuncId)(args:List V)(U:ai):Option V:=if f=211 then(match args with
 |[.agg [.int .i64 a,.int .i64 b],sv]=>(fo U sv).map λl=>.bool (l.all λn=>br n a b)
 |_=>none)else if f=210 then(match args with
 |[.agg [.int .i64 a,.int .i64 b,.int .i64 c,.int .i64 d,.int .i64 e,.int .i64 f,.int .i64 g,.int .i64 h,.int .i64 i,.int .i64 j,.int .i64 k,.int .i64 l]]=>some (.bool (SA.ok ⟨a,b,c,d,e,f,g,h,i,j,k,l⟩))
 |_=>none)else none
def O12:Tm prog where
 get:=o12
 up f args U Z' v hs h:=by
  unfold o12 at h|-;split at h
  .rename_i hf;rw[if_pos hf];split at h
   .simp only[Option.map_eq_some_iff]at h|-;obtain⟨l,h1,h2⟩:=h;exact⟨l,ny hs h1,h2⟩
   .cases h
  .rename_i hf;rw[if_neg hf];exact h
 ok f args U v h:=by
  unfold o12 at h;split at h
  .rename_i hf;subst hf;split at h
   .simp only[Option.map_eq_some_iff]at h;obtain⟨l,h1,rfl⟩:=h;obtain⟨g1,g2⟩:=lZ h1;exact Ir g1 g2
   .cases h
  .split at h
   .rename_i hf;subst hf;split at h
    .simp only[Oi]at h;subst h;exact Fl ⟨_,_,_,_,_,_,_,_,_,_,_,_⟩ U
    .cases h
   .cases h
def qf(a b:Int)(sv:V)(U:ai):O12.get 211 [.agg [.int .i64 a,.int .i64 b],sv] U=(fo U sv).map λl=>.bool (l.all λn=>br n a b):=rfl
def pU(a b c d e f g h i j k l:Int)(U:ai):O12.get 210 [.agg [.int .i64 a,.int .i64 b,.int .i64 c,.int .i64 d,.int .i64 e,.int .i64 f,.int .i64 g,.int .i64 h,.int .i64 i,.int .i64 j,.int .i64 k,.int .i64 l]] U=
 some (.bool (SA.ok ⟨a,b,c,d,e,f,g,h,i,j,k,l⟩)):=rfl
def jm(s:SA):(decide (s.top=0)&&(decide (s.Ry=0)&&(decide (s.Rl=0)&&(decide (s.Rb=0)&&(decide (s.R9=0)&&(decide (s.RM=0)&&(decide (s.RV=0)&&(decide (s.head=0)&&
 (decide (s.before=0)&&(decide (s.after=0)&&(decide (s.inside=0)&&decide (s.clear=0))))))))))))=decide (s=SA.zero):=by
 rw[Bool.eq_iff_iff];cases s;simp[SA.zero]
def Ia(x:Nd)(hl:x.words.length<=200000000000000)(k4:x.kind=4):aV prog 154 [iB x] (.bool x.ok):=λU=>by
 refine NN.r (by simp[Gi]) ?_;refine ad.mix 6 ?_
 (refine ad.bN O12 300 ?_;simp only[go_sem,seval,Gi,iB,Nd.cells])
 refine af λUJ Z1 s1 a1 f1=>?_;simp only[go_sem,seval,a1];refine af λid3 Z2 s2 a3 f3=>?_;have U9:=aq a1 f3;have a1:=s2 _ _ a1;have hs:=(s1.trans s2).aE (s1.none f3) (o:=⟨301,2,[.agg [vI 1,vI 1099511627776]]⟩);have Zg:x.ok=(decide (x.st=SA.zero)&&(decide (x.line=0)&&decide (x.space=0)&&decide (x.words.length=0)&&br x.w 1 mx&&br x.h 1 mx&&br x.side 1 2)):=by
  by_cases RA:x.st=SA.zero<;>simp[Nd.ok,k4,RA]
 simp only[go_sem,seval,a1,a3,ab U9,jm,dJ,k4,pU,uI,ag];refine And.intro (λe1=>And.intro (λe2=>And.intro (λz=>And.intro (λw=>?_) (λw=>?_)) (λz=>?_)) (λe2=>?_)) (λe1=>?_)
 .refine af λU0 Z3 s3 a4 f4=>?_;have a1:=s3 UJ _ (by rw[ab U9];exact a1);have a3:=s3 id3 _ ag;have hs:=hs.trans s3;simp only[go_sem,seval,a1,a3,a4,qf,cZ,eg,eo,br,List.all_cons,List.all_nil,<-Bool.decide_and];refine And.intro (λq1=>?_) (λq1=>ay.pure hs ?_)
  .refine af λU1 Z4 s4 a5 f5=>?_;have a1:=s4 _ _ a1;have hs:=hs.trans s4;simp only[go_sem,seval,a1,a5,qf,cZ,eg,eo,br,List.all_cons,List.all_nil,<-Bool.decide_and];refine ay.pure hs ?_;rw[V.bool.injEq,Zg,Bool.eq_iff_iff];simp only[br,mx];simp at w;simp[e1,e2,z,w];omega
  .rw[V.bool.injEq,Zg,Bool.eq_iff_iff];simp only[br,mx];simp[e1,e2,z];omega
 all_goals (repeat' (first
  |with_reducible refine And.intro (λh=>?_) (λh=>?_)
  |with_reducible refine ay.pure hs ?_))
 all_goals (rw[V.bool.injEq,Zg,Bool.eq_iff_iff];simp_all)
def LU(x:Nd)(hl:x.words.length<=200000000000000):aV prog 154 [iB x] (.bool x.ok):=λU=>by
 by_cases k4:x.kind=4
 .exact Ia x hl k4 U
 refine NN.r (by simp[Gi]) ?_;refine ad.mix 6 ?_
 (refine ad.bN O12 300 ?_;simp only[go_sem,seval,Gi,iB,Nd.cells])
 refine af λUJ Z1 s1 a1 f1=>?_;simp only[go_sem,seval,a1];refine af λid3 Z2 s2 a3 f3=>?_;have U9:=aq a1 f3;have a1:=s2 _ _ a1;have hs:=(s1.trans s2).aE (s1.none f3) (o:=⟨301,2,[.agg [vI 1,vI 1099511627776]]⟩);have hz:(x.kind=1->x.ok=(x.st.ok&&decide (x.line=0)&&decide (x.space=0)&&decide (x.words.length=0)&&decide (x.side=0)&&decide (x.w=0)&&decide (x.h=0))):=λh=>by simp[Nd.ok,h]
 have hwl:x.words.length<=200000000000000:=by omega
 by_cases k1:x.kind=1
 .simp only[go_sem,seval,a1,a3,ab U9,jm,dJ,k1,pU,uI];rw[hz k1]
  repeat' (first
   |with_reducible refine And.intro (λh=>?_) (λh=>?_)
   |with_reducible refine ay.pure hs ?_)
  all_goals (rw[V.bool.injEq,Bool.eq_iff_iff];simp_all)
 .by_cases k2:x.kind=2
  .by_cases e1:x.line=0
   .have hok0:x.ok=false:=by
     by_cases RA:x.st=SA.zero<;>simp[Nd.ok,k2,RA,e1,br]
    rw[hok0];simp only[go_sem,seval,a1,a3,ab U9,jm,dJ,k1,k2,e1,pU,uI,ag]
    repeat' (first
     |with_reducible refine And.intro (λh=>?_) (λh=>?_)
     |with_reducible refine ay.pure hs rfl
     |(refine af λU0 Z3 s3 a4 f4=>?_
       have a1:=s3 UJ _ (by rw[ab U9];exact a1);have a3:=s3 id3 _ ag;simp only[go_sem,seval,a1,a3,a4,qf,cZ,eg,eo,br,List.all_cons,List.all_nil,false_and];exact ay.pure (hs.trans s3) rfl))
   .simp only[go_sem,seval,a1,a3,ab U9,jm,dJ,k1,k2,e1,pU,uI,ag];have Xr:x.ok=(decide (x.st=SA.zero)&&(x.words.all (br · 1 mx)&&decide (0<x.words.length)&&br x.line 1 mx&&br x.space 0 mx&&decide (x.side=0)&&decide (x.w=0)&&decide (x.h=0))):=by
     by_cases RA:x.st=SA.zero<;>simp[Nd.ok,k2,RA]
    refine And.intro (λz=>?_) (λz=>ay.pure hs (by rw[Xr];simp_all));refine And.intro (λw1=>?_) (λw1=>ay.pure hs (by rw[Xr];simp[w1]));refine And.intro (λw2=>?_) (λw2=>ay.pure hs (by rw[Xr];simp[w2]));refine And.intro (λw3=>?_) (λw3=>ay.pure hs (by rw[Xr];simp[w3]));refine af λU0 Z3 s3 a4 f4=>?_;have a1:=s3 UJ _ (by rw[ab U9];exact a1);have a3:=s3 id3 _ ag;have hs:=hs.trans s3;simp only[go_sem,seval,a1,a3,a4,qf,cZ,eg,eo,ng _ hwl,uI,sD (List.all _ _)];refine And.intro (λq1=>?_) (λq1=>ay.pure hs (by rw[Xr];simp[mx]at q1|-;simp[q1]));refine And.intro (λq2=>?_) (λq2=>ay.pure hs (by rw[Xr];simp only[mx,q2];simp));refine af λU1 Z4 s4 a5 f5=>?_;have a1:=s4 _ _ a1;have hs:=hs.trans s4;simp only[go_sem,seval,a1,a5,qf,cZ,eg,eo,ng _ hwl,uI,dJ,sD (List.all _ _)];refine And.intro (λq3=>?_) (λq3=>ay.pure hs (by rw[Xr];simp[mx]at q3|-;simp[q3]));refine ay.pure hs ?_;rw[Xr];simp only[mx,q1,q2,q3,z,w1,w2,w3];simp
  .have Zg:x.ok=(decide (x.st=SA.zero)&&(decide (x.line=0)&&decide (x.space=0)&&decide (x.words.length=0)&&br x.w 1 mx&&br x.h 1 mx&&
    (decide (x.kind=3)&&decide (x.side=0)||decide (x.kind=4)&&br x.side 1 2))):=by
    by_cases RA:x.st=SA.zero<;>simp[Nd.ok,k1,k2,RA]
   by_cases k3:x.kind=3
   .simp only[go_sem,seval,a1,a3,ab U9,jm,dJ,k1,k2,k3,pU,uI,ag]
    repeat' (first
     |with_reducible refine And.intro (λh=>?_) (λh=>?_)
     |with_reducible refine ay.pure hs ?_
     |(refine af λU0 Z3 s3 a4 f4=>?_
       have a1:=s3 UJ _ (by rw[ab U9];exact a1);have a3:=s3 id3 _ ag;simp only[go_sem,seval,a1,a3,a4,qf,cZ,eg,eo,br,List.all_cons,List.all_nil,<-Bool.decide_and];refine ay.pure (hs.trans s3) ?_))
    all_goals (rw[V.bool.injEq,Zg,Bool.eq_iff_iff];simp_all [br,mx]<;>omega)
   .simp only[go_sem,seval,a1,a3,ab U9,jm,dJ,k1,k2,k3,k4,pU,uI,ag]
    repeat' (first
     |with_reducible refine And.intro (λh=>?_) (λh=>?_)
     |with_reducible refine ay.pure hs ?_)
    all_goals (rw[V.bool.injEq,Zg];simp[k3,k4])
open Go.Proofs Go.Proofs.Tryz
def rC(i:Nat):List Int->List Int
 |a::b::s=>if a=i then rC i (b::s)else a::b::s
 |s=>s
def isS:List Nd->Nat->List Int->Bool
 |[],_,_=>true
 |x::r,i,Ts=>match rC i Ts with
  |[]=>false
  |a::s=>if x.ok=true/\1<=x.size/\x.size<=a-i/\(x.kind=1\/x.size<=1)then isS r (i+1) ((i+x.size)::a::s)else false
def WO(n:Nat):Nat->List Int->Prop
 |lo,[]=>lo=n
 |lo,a::s=>(lo:Int)<=a/\WO n a.toNat s
def ky(l:List Nd):Nat->List Int->Bool
 |_,[]=>true
 |lo,a::s=>cu l lo a.toNat&&ky l a.toNat s
def C5(l:List Nd)(a:Nat):cu l a a=true:=by rw[cu,dif_neg (Nat.lt_irrefl a)]
def tY(l:List Nd)(n i:Nat)(hi:i<n):∀Ts,WO n i Ts->∃a s,rC i Ts=a::s/\(i:Int)<a/\WO n i (a::s)/\ky l i (a::s)=ky l i Ts
 |[],h=>by simp only[WO]at h;omega
 |[a],h=>by
  have h':=h;simp only[WO]at h';exact⟨a,[],rfl,by omega,h,rfl⟩
 |a::b::s,h=>by
  by_cases ha:a=i
  .have h':=h.2;rw[ha,Int.toNat_natCast]at h';obtain⟨c,t,g1,g2,g3,g4⟩:=tY l n i hi (b::s) h';refine⟨c,t,by simp[rC,ha,g1],g2,g3,?_⟩;rw[g4];show _=(cu l i a.toNat&&ky l a.toNat (b::s));rw[ha,Int.toNat_natCast,C5,Bool.true_and]
  .have h':=h.1;exact⟨a,b::s,by simp[rC,ha],by omega,h,rfl⟩
def Bv(l:List Nd):∀(r:List Nd) (i:Nat) (Ts:List Int),l.drop i=r->WO l.length i Ts->isS r i Ts=(r.all Nd.ok&&ky l i Ts)
 |[],i,Ts,hr,hs=>by
  have hi:l.length<=i:=by simpa using hr
  have key:∀(Ts:List Int) (lo:Nat),l.length<=lo->WO l.length lo Ts->ky l lo Ts=true:=by
   intro Ts
   induction Ts with
   |nil=>intro _ _ _;rfl
   |cons a s ih=>
    intro lo UK h;have h1:=h.1;simp only[ky];rw[ih a.toNat (by omega) h.2,cu,Bool.and_true];split
    .have:l[lo]?=none:=by simp[UK]
     rw[this];have hend:∀(Ts:List Int) (lo:Nat),WO l.length lo Ts->lo<=l.length:=by
      intro Ts
      induction Ts with
      |nil=>intro lo h;simp only[WO]at h;omega
      |cons b t ih=>intro lo h;have:=h.1;have:=ih _ h.2;omega
     have:=hend _ _ h.2;omega
    .rfl
  simp[isS,key Ts i hi hs]
 |x::r,i,Ts,hr,hs=>by
  have hi:i<l.length:=by
   rcases Nat.lt_or_ge i l.length with h|h
   .exact h
   .rw[List.drop_eq_nil_of_le h]at hr;cases hr
  have hx:l[i]?=some x:=by
   have:(l.drop i)[0]?=some x:=by rw[hr];rfl
   simpa using this
  have hr':l.drop (i+1)=r:=by
   have:(l.drop i).drop 1=r:=by rw[hr];rfl
   simpa using this
  obtain⟨a,s,h1,h2,h3,h4⟩:=tY l l.length i hi Ts hs;rw[isS,h1];simp only;rw[<-h4];simp only[ky,List.all_cons];have Sr:cu l i a.toNat=if _hx:1<=x.size/\x.size<=(a.toNat:Int)-i then
   (decide (x.kind=1)||decide (x.size<=1))&&cu l (i+1) (i+x.size.toNat)&&cu l (i+x.size.toNat) a.toNat else false:=by
   rw[cu,dif_pos (by omega),hx]
  rw[Sr];have SE:(a.toNat:Int)=a:=by omega
  rw[SE];by_cases hc:1<=x.size/\x.size<=a-i
  .rw[dif_pos hc];have e:(i+x.size).toNat=i+x.size.toNat:=by omega
   have ih:=Bv l r (i+1) ((i+x.size)::a::s) hr' ⟨by omega,by rw[e];omega,h3.2⟩;by_cases hk:x.ok=true/\(x.kind=1\/x.size<=1)
   .rw[if_pos ⟨hk.1,hc.1,hc.2,hk.2⟩,ih];simp only[ky,e,hk.1,Bool.true_and];have:(decide (x.kind=1)||decide (x.size<=1))=true:=by simpa using hk.2
    rw[this,Bool.true_and,Bool.and_assoc]
   .rw[if_neg (λh=>hk ⟨h.1,h.2.2.2⟩)];symm;rw[Bool.eq_false_iff];intro h;simp only[Ba,Bool.or_eq_true,decide_eq_true_eq]at h;exact hk ⟨h.1.1,h.2.1.1.1⟩
  .rw[dif_neg hc,if_neg (λh=>hc ⟨h.2.1,h.2.2.1⟩)];simp
def Ij(l:List Nd):isS l 0 [(l.length:Int)]=R3 l:=by
 rw[Bv l l 0 [(l.length:Int)] rfl ⟨by omega,by simp[WO]⟩];simp[ky,R3]
open Go.Proofs Go.Proofs.Tryz
def o14(f:FuncId)(args:List V):Option V:=if f=154 then(match args with
 |[.agg [.int .i64 a0,.int .i64 a1,.int .i64 a2,.int .i64 a3,.int .i64 a4,.int .i64 a5,.int .i64 a6,.int .i64 a7,.int .i64 a8,.int .i64 a9,.int .i64 RU,.int .i64 U8,.int .i64 a12,.int .i64 TB,.int .i64 Ze,.int .i64 WY,.sl 1 rows,.int .i64 Wt,.int .i64 a18,.int .i64 WZ]]=>
  (fT rows).bind λws=>if ws.length<=200000000000000 then some (.bool (Nd.ok ⟨a0,a1,⟨a2,a3,a4,a5,a6,a7,a8,a9,RU,U8,a12,TB⟩,Ze,WY,ws,Wt,a18,WZ⟩))else none
 |_=>none)else none
def O14:Tm prog where
 get f args _:=o14 f args
 ok f args U v h:=by
  unfold o14 at h;split at h
  .rename_i hf;subst hf;split at h
   .rw[Option.bind_eq_some_iff]at h;obtain⟨ws,h1,h2⟩:=h;split at h2
    .rename_i hw;simp only[Oi]at h2;subst h2;rw[kG h1];exact LU ⟨_,_,⟨_,_,_,_,_,_,_,_,_,_,_,_⟩,_,_,ws,_,_,_⟩ hw U
    .cases h2
   .cases h
  .cases h
def KP{x:Nd}(hw:x.words.length<=200000000000000)(U:ai):O14.get 154 [.agg [.int .i64 x.kind,.int .i64 x.size,.int .i64 x.st.top,.int .i64 x.st.Ry,.int .i64 x.st.Rl,.int .i64 x.st.Rb,.int .i64 x.st.R9,.int .i64 x.st.RM,.int .i64 x.st.RV,.int .i64 x.st.head,.int .i64 x.st.before,.int .i64 x.st.after,.int .i64 x.st.inside,.int .i64 x.st.clear,.int .i64 x.line,.int .i64 x.space,bn x.words,.int .i64 x.side,.int .i64 x.w,.int .i64 x.h]] U=
 some (.bool x.ok):=by
 show((fT (x.words.map vI)).bind λws=>if ws.length<=200000000000000 then some (V.bool (Nd.ok ⟨x.kind,x.size,⟨x.st.top,x.st.Ry,x.st.Rl,x.st.Rb,x.st.R9,x.st.RM,x.st.RV,x.st.head,x.st.before,x.st.after,x.st.inside,x.st.clear⟩,x.line,x.space,ws,x.side,x.w,x.h⟩))else none)=_;rw[sW,Option.bind_some,if_pos hw]
def Gg{rows:List V}{k:Nat}{a:Int}{s:List Int}(hk:k=(a::s).length)(ht:rows.take k=(a::s).reverse.map vI):rows[k-1]?=some (.int .i64 a)/\rows.take (k-1)=s.reverse.map vI:=by
 simp only[List.length_cons]at hk;have h1:(rows.take k)[k-1]?=rows[k-1]?:=by rw[List.getElem?_take,if_pos (by omega)]
 constructor
 .rw[<-h1,ht,hk];simp
 .have h2:rows.take (k-1)=(rows.take k).take (k-1):=by rw[List.take_take];congr 1;omega
  rw[h2,ht,hk];simp
def WO.le{n:Nat}:∀{Ts:List Int} {lo:Nat},WO n lo Ts->lo<=n
 |[],lo,h=>by simp only[WO]at h;omega
 |a::s,lo,h=>by have h1:=h.1;have h2:=WO.le h.2;omega
def Cl(l:List Nd)(hl:dH l):aV prog 101 [aK l] (.bool (R3 l)):=λU=>by
 have hl0:=hl;obtain⟨hl1,hl2⟩:=hl;refine Qn.r (by simp[Lj]) ?_;refine ad.mix 6 ?_;apply sR;simp only[go_sem,seval,aO,aP,Lj,fj];intro e0 he0;refine ad.loop (λm st=>∃i Ts e k rows,i<=l.length/\m=l.length-i/\R3 l=isS (l.drop i) i Ts/\WO l.length i Ts/\Ts≠[]/\Ts.length<=i+1/\aa U st.U/\st.U e=some ⟨3,1,rows⟩/\U e=none/\k=Ts.length/\k<=rows.length/\rows.take k=Ts.reverse.map vI/\
  st.s 3=.own e 0 k/\st.s 9=aK l/\st.s 10=vI l.length/\st.s 11=vI i) l.length ?_ ?_
 .refine⟨0,[(l.length:Int)],e0,1,[vI l.length],by omega,by omega,by rw[<-Ij];rfl,⟨by omega,by simp[WO]⟩,by simp,by simp,(aa.refl U).C' he0,ag,he0,rfl,by simp,rfl,rfl,rfl,rfl,rfl⟩
 .rintro m ⟨s,Z'⟩ ⟨i,Ts,e,k,rows,hi,rfl,hB,hasc,RK,WE,G',Sr,hnew,hk,hkr,Sf,h3,h9,VY,Vw⟩;simp only at G' Sr h3 h9 VY Vw;refine ad.mix 6 ?_;apply sR;simp only[go_sem,seval,aO,aP,h3,h9,VY,Vw];refine And.intro (λH'=>?_) (λVT=>?_)
  .have SS:i<l.length:=by simp at H';omega
   have hd:l.drop i=l[i]::l.drop (i+1):=List.drop_eq_getElem_cons SS;have hxw:l[i].words.length<=200000000000000:=hl2 _ (List.getElem_mem SS);rw[hd]at hB;generalize YF:l[i]=x at*;simp only[go_sem,seval,aO,aP,lI SS,YF,uB,h3,h9,VY,Vw,Nd.cells];intro U1 Vk;replace Vk:Z' U1=none:=Vk;have n5e:e≠U1:=by rintro rfl;rw[Sr]at Vk;cases Vk
   have n5n:U U1=none:=G'.none Vk;refine ad.loop (λm st=>∃Xs k',m=Xs.length/\rC i Ts=rC i Xs/\WO l.length i Xs/\Xs≠[]/\Xs.length<=Ts.length/\st.U=C' Z' U1 ⟨59,20,[.agg x.cells]⟩/\k'=Xs.length/\k'<=rows.length/\rows.take k'=Xs.reverse.map vI/\
    st.s 3=.own e 0 k'/\st.s 4=vI i/\st.s 5=.ptr U1 0 0/\st.s 9=aK l/\st.s 10=vI l.length/\st.s 11=vI i) Ts.length ?_ ?_
   .exact⟨Ts,k,rfl,rfl,hasc,RK,Nat.le_refl _,rfl,hk,hkr,Sf,h3,rfl,rfl,h9,VY,Vw⟩
   .rintro m ⟨s,Y''⟩ ⟨Xs,k',rfl,hpop,hasc',hne',hsl',RH,SQ,hkr',htk',h3,h4,h5,h9,VY,Vw⟩;simp only at RH h3 h4 h5 h9 VY Vw;subst RH;obtain⟨a,tl,rfl⟩:=List.exists_cons_of_ne_nil hne';obtain⟨Xt,htk2⟩:=Gg SQ htk';have hkpos:1<=k':=by rw[SQ];simp
    have g0:(k':Int)-1<k':=by omega
    have g1:(0:Int)<=(k':Int)-1:=by omega
    have g2:(k':Int)-1<=k':=by omega
    have g3:((k':Int)-1).toNat=k'-1:=by omega
    have hrng:Rq .i64 ((k':Int)-1):=ao (by omega) (by omega);refine ad.mix 6 ?_
    (refine ad.bN O14 300 ?_;simp only[go_sem,seval,aO,aP,h3,h4,h5,h9,VY,Vw,ab n5e,Sr,g0,g1,g2,g3,Int.le_refl,Int.toNat_zero,Nat.sub_zero,Xt,uI,Nd.cells,KP hxw,sD (Nd.ok x)])
    refine And.intro (λh1=>⟨hrng,And.intro (λh2=>?_) (λh2=>?_)⟩) (λh1=>?_)
    .obtain⟨b,tl',rfl⟩:∃b tl',tl=b::tl':=by
      cases tl with
      |nil=>simp at SQ;omega
      |cons b tl'=>exact⟨b,tl',rfl⟩
     have hp2:rC i (a::b::tl')=rC i (b::tl'):=by simp[rC,h2]
     have ha2:=hasc'.2;rw[h2,Int.toNat_natCast]at ha2;refine⟨hrng,_,?_,b::tl',k'-1,rfl,by rw[hpop,hp2],ha2,by simp,?_,?_,by omega,htk2,rfl⟩
     .simp
     .simp only[List.length_cons]at hsl'|-;omega
     .simp only[List.length_cons]at SQ|-;omega
    all_goals
     have Vx:rC i (a::tl)=a::tl:=by
      cases tl with
      |nil=>rfl
      |cons b tl'=>
       have:a≠i:=by first
        |simpa using h2
        |(exfalso;simp at SQ h1;omega)
       simp[rC,this]
     obtain⟨c,t,p1,p2,p3,p4⟩:=tY l l.length i SS (a::tl) hasc';rw[Vx,List.cons.injEq]at p1;obtain⟨rfl,rfl⟩:=p1;have Zh:R3 l=if x.ok=true/\1<=x.size/\x.size<=a-i/\(x.kind=1\/x.size<=1)then isS (l.drop (i+1)) (i+1) ((i+x.size)::a::tl)else false:=by
      rw[hB,isS,hpop,Vx]
     have hale:=WO.le p3.2;have hlenk:(rows.take k').length=k':=by simp;omega
     have hstk:k'<=i+1:=by rw[SQ];omega
     have happ:x.ok=true/\1<=x.size/\x.size<=a-i/\(x.kind=1\/x.size<=1)->∀(X Y:Ob) (id UJ:Nat),C' Z' U1 X id=none->C' (C' Z' U1 X) id Y UJ=none->
      R3 l=isS (l.drop (i+1)) (i+1) ((i+x.size)::a::tl)/\WO l.length (i+1) ((i+x.size)::a::tl)/\aa U (C' (del (C' (C' Z' U1 X) id Y) e) UJ ⟨3,1,rows.take k'++[.int .i64 (i+x.size)]⟩)/\U UJ=none/\
      (rows.take k'++[V.int .i64 (i+x.size)]).take (k'+1)=((i+x.size)::a::tl).reverse.map vI:=by
      intro hc X Y id UJ M' VI;rw[fU]at M';rw[fU,fU]at VI;rw[if_pos hc]at Zh;refine⟨Zh,⟨by omega,?_,p3.2⟩,?_,G'.none VI.2.2,?_⟩
      .have:(i+x.size).toNat=i+x.size.toNat:=by omega
       omega
      .exact aa.aE (aa.Hd ((G'.aE n5n).aE (G'.none M'.2)) hnew) (G'.none VI.2.2)
      .rw[List.take_of_length_le (by simp;omega),htk'];simp
     refine And.intro (λq1=>And.intro (λq2=>⟨hrng,ao (by omega) (by omega),And.intro (λq3=>And.intro (λq4=>And.intro (λq5=>?_) (λq5=>?_)) (λq4=>?_)) (λq3=>?_)⟩) (λq2=>?_)) (λq1=>?_)
     .refine ay.pure (G'.C' Vk) ?_;rw[Zh,if_neg];rintro⟨c1,c2,c3,c4⟩;omega
     .refine⟨ao (by omega) (by omega),?_⟩;intro id M';have WH:=(fU.1 M').2;have nie:e≠id:=by rintro rfl;rw[Sr]at WH;cases WH
      have Zi:∀U,U e=some ⟨3,1,rows⟩->cg U 3 1 (.own e 0 k')=some (rows.take k',some e):=by
       intro U RH;simp only[cg,RH];rw[if_pos ⟨trivial,trivial,trivial,hkr'⟩]
      have Tl:∀U,U id=some ⟨3,1,[.int .i64 (i+x.size)]⟩->bR U 1 (.own id 0 1)=some [.int .i64 (i+x.size)]:=by
       intro U RH;simp only[bR,RH];rw[if_pos (by simp)];simp
      have hb:(k'+1)*9<=140737488355328:=by omega
      simp only[go_sem,seval,aO,aP,Zi,Tl,ab n5e,ab nie,Sr,hlenk,hb,bK,h3,h4,h5,h9,VY,Vw];intro UJ VI;obtain⟨z1,z2,z3,z4,z5⟩:=happ ⟨by simpa using q1,by omega,by omega,by first|(left;simpa using q4)|(right;simp at q5;omega)⟩ _ _ id UJ M' VI
      refine⟨ao (by omega) (by omega),_,?_,i+1,_,UJ,k'+1,_,by omega,rfl,z1,z2,by simp,?_,z3,ag,z4,?_,?_,z5,rfl,?_⟩
      .omega
      .simp only[List.length_cons]at SQ hsl'|-;omega
      .simp only[List.length_cons]at SQ|-;omega
      .simp;omega
      .simp
     .refine⟨ao (by omega) (by omega),?_⟩;intro id M';have WH:=(fU.1 M').2;have nie:e≠id:=by rintro rfl;rw[Sr]at WH;cases WH
      have Zi:∀U,U e=some ⟨3,1,rows⟩->cg U 3 1 (.own e 0 k')=some (rows.take k',some e):=by
       intro U RH;simp only[cg,RH];rw[if_pos ⟨trivial,trivial,trivial,hkr'⟩]
      have Tl:∀U,U id=some ⟨3,1,[.int .i64 (i+x.size)]⟩->bR U 1 (.own id 0 1)=some [.int .i64 (i+x.size)]:=by
       intro U RH;simp only[bR,RH];rw[if_pos (by simp)];simp
      have hb:(k'+1)*9<=140737488355328:=by omega
      simp only[go_sem,seval,aO,aP,Zi,Tl,ab n5e,ab nie,Sr,hlenk,hb,bK,h3,h4,h5,h9,VY,Vw];intro UJ VI;obtain⟨z1,z2,z3,z4,z5⟩:=happ ⟨by simpa using q1,by omega,by omega,by first|(left;simpa using q4)|(right;simp at q5;omega)⟩ _ _ id UJ M' VI
      refine⟨ao (by omega) (by omega),_,?_,i+1,_,UJ,k'+1,_,by omega,rfl,z1,z2,by simp,?_,z3,ag,z4,?_,?_,z5,rfl,?_⟩
      .omega
      .simp only[List.length_cons]at SQ hsl'|-;omega
      .simp only[List.length_cons]at SQ|-;omega
      .simp;omega
      .simp
     .refine ay.pure (G'.C' Vk) ?_;rw[Zh,if_neg];rintro⟨c1,c2,c3,c4⟩;omega
     .refine ay.pure (G'.C' Vk) ?_;rw[Zh,if_neg];rintro⟨c1,c2,c3,c4⟩;omega
     .refine ay.pure (G'.C' Vk) ?_;rw[Zh,if_neg];rintro⟨c1,c2,c3,c4⟩;exact q1 (by simp[c1])
  .have WI:i=l.length:=by simp at VT;omega
   refine ay.pure G' ?_;rw[hB,WI,List.drop_length];rfl
open Go.Proofs Go.Proofs.Tryz
def kI(times n:Int):Int:=if n=0\/times<=1099511627776/n then n*times else 1099511627777
def lV(times h:Int):List Int->Int
 |[]=>h
 |n::l=>lV times (min (h+kI times n) 1099511627777) l
def eS(i:Nat)(x:Nd)(s:Sm)(ends:List Int):Sm×List Int:=
 let ends:=ends.filter λn=>!decide (n<=(i:Int))
 if x.kind=1 then
  let ends:=ends++[i+x.size]
  (⟨max s.depth ends.length,s.pieces,s.nodes+1,lV 1 s.O' [x.st.top,x.st.Ry,x.st.Rl,x.st.Rb,x.st.head]⟩,ends)
 else if x.kind=2 then(⟨s.depth,s.pieces+x.words.length,s.nodes+1,lV x.words.length s.O' [x.line]⟩,ends)
 else(⟨s.depth,s.pieces+1,s.nodes+1,lV 1 s.O' [x.h]⟩,ends)
def im(l:List Nd):Nat->Sm×List Int
 |0=>(⟨0,0,0,0⟩,[])
 |i+1=>match l[i]? with
  |some x=>eS i x (im l i).1 (im l i).2
  |none=>im l i
def yp{times n:Int}(h0:0<=n)(h1:n<=mx)(t0:0<=times)(a:Int)(ha:0<=a):min (a+kI times n) 1099511627777=min (a+n*times) 1099511627777:=by
 unfold kI;split
 .rfl
 .rename_i h;have hn:0<n:=by omega
  have hq:1099511627776/n<times:=by omega
  have h2:1099511627776<n*times:=by
   have:=Int.ediv_lt_iff_lt_mul (a:=1099511627776) (b:=times) hn;have h3:=this.1 hq;rw[Int.mul_comm];exact h3
  omega
def rH{a b:Int}(h1:0<=a/\a<=1099511627777)(h2:0<=b):∀n:Nat,Bn a b n=min (a+b*n) 1099511627777
 |0=>by simp[Bn];omega
 |n+1=>by
  rw[Bn,rH h1 h2 n,jA];have e:b*((n+1:Nat):Int)=b*n+b:=by rw[Int.natCast_add,Int.mul_add];simp
  rw[e];have:0<=b*(n:Int):=Int.mul_nonneg h2 (by omega);generalize b*(n:Int)=q at*;omega
def kU{h n:Int}(h1:0<=h)(n0:0<=n)(n1:n<=mx):min (h+kI 1 n) 1099511627777=jA h n:=by
 rw[yp n0 n1 (by omega) h h1,Int.mul_one];rfl
def jo(l:List Nd)(i:Nat):Nat->List Int
 |0=>[]
 |k+1=>jo l i k++(match l[k]? with
  |some y=>if y.kind=1/\(i:Int)<k+y.size then[(k:Int)+y.size]else[]
  |none=>[])
def ni(l:List Nd)(i:Nat):∀k,((jo l i k).length:Int)=iJ l i k
 |0=>rfl
 |k+1=>by
  simp only[jo,iJ,List.length_append,Int.natCast_add,ni l i k];cases l[k]? with
  |none=>simp
  |some y=>simp only[];split<;>simp
def nj(l:List Nd)(i:Nat):∀k,(jo l i k).filter (λn=>!decide (n<=((i+1:Nat):Int)))=jo l (i+1) k
 |0=>rfl
 |k+1=>by
  simp only[jo,List.filter_append,nj l i k];congr 1;split
  .rename_i y _;by_cases hk:y.kind=1
   .by_cases h1:((i+1:Nat):Int)<k+y.size
    .rw[if_pos ⟨hk,by omega⟩,if_pos ⟨hk,h1⟩];have:¬((k:Int)+y.size<=((i+1:Nat):Int)):=by omega
     simp only[List.filter_cons,this,decide_false,Bool.not_false,if_true,List.filter_nil]
    .rw[if_neg (show¬(y.kind=1/\((i+1:Nat):Int)<k+y.size)from λh=>h1 h.2)];split
     .have:(k:Int)+y.size<=((i+1:Nat):Int):=by omega
      simp only[List.filter_cons,this,decide_true,Bool.not_true,Bool.false_eq_true,if_false,List.filter_nil]
     .rfl
   .rw[if_neg (λh=>hk h.1),if_neg (λh=>hk h.1)];rfl
  .rfl
def mc(l:List Nd)(hl:dH l)(hb:R3 l=true):∀i,i<=l.length->(im l i).1={ gN l ⟨0,0,l.length,0⟩ i with nodes:=i }/\(im l i).2=(match i with
 |0=>[]
 |j+1=>jo l j (j+1))/\(gN l ⟨0,0,l.length,0⟩ i).ru i/\(gN l ⟨0,0,l.length,0⟩ i).nodes=l.length
 |0,_=>⟨rfl,rfl,by simp[gN,Sm.ru],rfl⟩
 |i+1,hi=>by
  obtain⟨h1,h2,h3,h4⟩:=mc l hl hb i (by omega);have Rg:l.all Nd.ok=true/\cu l 0 l.length=true:=by simpa[R3]using hb
  have hx:=(List.all_eq_true.1 Rg.1) _ (List.getElem_mem (show i<l.length by omega));have hg:l[i]?=some l[i]:=by simp[show i<l.length by omega]
  obtain⟨z1,z2,z3⟩:=ir l (l.length+1) 0 l.length (by omega) (by omega) Rg.2 i (by omega) (by omega) (by omega);have hw:=hl.2 _ (List.getElem_mem (show i<l.length by omega));have hfine:=DN (l:=l) hx hw h3;generalize YF:l[i]=x at*;obtain⟨p1,p2,p3,p4,p5,p6⟩:=jN hx;have hS:im l (i+1)=eS i x (im l i).1 (im l i).2:=by simp only[im,hg]
  have hR:gN l ⟨0,0,l.length,0⟩ (i+1)=nD l i x (gN l ⟨0,0,l.length,0⟩ i):=by simp only[gN,hg]
  have hf:(im l i).2.filter (λn=>!decide (n<=(i:Int)))=jo l i i:=by
   rw[h2];cases i with
   |zero=>rfl
   |succ j=>exact nj l j (j+1)
  rw[hS,hR,h1];generalize hsm:gN l ⟨0,0,l.length,0⟩ i=sm at*;obtain⟨f1,f2,f3⟩:=h3;have Xu:jo l i (i+1)=jo l i i++(if x.kind=1 then[(i:Int)+x.size]else[]):=by
   simp only[jo,hg];by_cases hk:x.kind=1
   .rw[if_pos ⟨hk,by omega⟩,if_pos hk]
   .rw[if_neg (λh=>hk h.1),if_neg hk]
  refine⟨?_,?_,by rw[Int.natCast_add];exact hfine,?_⟩
  .by_cases hk:x.kind=1
   .obtain⟨q1,q2,q3,q4,q5⟩:=p6 hk;have r1:=fP f3 q1.1;have r2:=fP r1 q2.1;have r3:=fP r2 q3.1;have r4:=fP r3 q4.1;have hlen:=ni l i (i+1);rw[Xu,if_pos hk]at hlen;simp only[eS,nD,if_pos hk,hf,lV,Sm.mk.injEq];refine⟨?_,trivial,by simp,?_⟩
    .rw[hlen]
    .rw[kU f3.1 q1.1 q1.2,kU r1.1 q2.1 q2.2,kU r2.1 q3.1 q3.2,kU r3.1 q4.1 q4.2,kU r4.1 q5.1 q5.2]
   .by_cases Uq:x.kind=2
    .simp only[eS,nD,if_neg hk,if_pos Uq,lV,Sm.mk.injEq];refine⟨trivial,trivial,by simp,?_⟩;rw[yp p2 p3 (by omega) _ f3.1,rH f3 p2]
    .simp only[eS,nD,if_neg hk,if_neg Uq,lV,Sm.mk.injEq];exact⟨trivial,trivial,by simp,kU f3.1 p4 p5⟩
  .by_cases hk:x.kind=1
   .simp only[eS,if_pos hk,hf,Xu]
   .by_cases Uq:x.kind=2
    .simp only[eS,if_neg hk,if_pos Uq,hf,Xu,List.append_nil]
    .simp only[eS,if_neg hk,if_neg Uq,hf,Xu,List.append_nil]
  .rw[<-h4];unfold nD;split
   .rfl
   .split<;>rfl
def xB(l:List Nd):Sm×Int:=if R3 l then((im l l.length).1,0)else(⟨0,0,0,0⟩,4)
def Dm(l:List Nd)(hl:dH l):xB l=iR l:=by
 unfold xB iR;by_cases hb:R3 l=true
 .obtain⟨h1,_,_,h4⟩:=mc l hl hb l.length (Nat.le_refl _);rw[if_pos hb,if_pos hb,h1];generalize gN l ⟨0,0,l.length,0⟩ l.length=sm at*;cases sm;simp_all
 .rw[if_neg hb,if_neg hb]
open Go.Proofs Go.Proofs.Tryz
def AE{U:ai}{c:Nat}{i:Int}(h:U c=some ⟨3,1,[vI i]⟩)(n:Int):aD prog 156 [vI n,.ptr c 0 0] U λr Z'=>r=.bool (decide (n<=i))/\Z'=U:=by
 refine Px.r (by simp[KK]) ?_;apply sR;simp only[go_sem,seval,aO,aP,KK,h];exact ay.same rfl
abbrev kept(i:Int)(l:List Int):List Int:=l.filter λn=>!decide (n<=i)
def qi{p:Int->Bool}:∀{l:List Int},cS p l<0->l.filter (λn=>!p n)=l
 |[],_=>rfl
 |x::l,h=>by
  simp only[cS]at h;split at h
  .omega
  .rename_i hp;have hp':p x=false:=by simpa using hp
   split at h
   .rename_i h2;simp only[List.filter_cons,hp',Bool.not_false,if_true,qi h2]
   .have:=iD p l;omega
def qO{p:Int->Bool}:∀{l:List Int},¬cS p l<0->(cS p l).toNat<l.length/\(l.take (cS p l).toNat).filter (λn=>!p n)=l.take (cS p l).toNat/\
 ∀x,l[(cS p l).toNat]?=some x->p x=true
 |[],h=>by simp[cS]at h
 |x::l,h=>by
  simp only[cS]at h|-;split
  .rename_i hp;refine⟨by simp,by simp,?_⟩;intro y hy;simp at hy;subst hy;exact hp
  .rename_i hp;rw[if_neg hp]at h;have hp':p x=false:=by simpa using hp
   split
   .rename_i h2;rw[if_pos h2]at h;omega
   .rename_i h2;obtain⟨g1,g2,g3⟩:=qO h2;have:=iD p l;have e:(cS p l+1).toNat=(cS p l).toNat+1:=by omega
    rw[e];refine⟨by simp;omega,?_,?_⟩
    .simp only[List.take_succ_cons,List.filter_cons,hp',Bool.not_false,if_true,g2]
    .simpa using g3
def Ge{U:ai}{e c k:Nat}{i:Int}{full:List Int}(he:U e=some ⟨3,1,full.map vI⟩)(hc:U c=some ⟨3,1,[vI i]⟩)(RK:c≠e)(hk:k<=full.length)(UL:full.length<=1000000000000):
 aD prog 155 [.own e 0 k,.fn 156 [.ptr c 0 0]] U λr Z'=>∃(k':Nat) (Wu:List Int),r=.own e 0 k'/\Z'=C' U e ⟨3,1,Wu.map vI⟩/\k'<=Wu.length/\Wu.length<=full.length/\Wu.take k'=kept i (full.take k):=by
 have hlk:(full.take k).length=k:=by simp;omega
 have hr:Reads U 1 false (.own e 0 k) ((full.take k).map vI):=by
  have:=Reads.own (U:=U) (off:=0) (len:=k) he rfl (by simpa using hk) (λr hr=>by simp only[List.mem_map]at hr;obtain⟨n,_,rfl⟩:=hr;rfl);simpa using this
 refine Nf.r (by simp[FR]) ?_;refine ad.mix 8 ?_;apply sR;simp only[go_sem,seval,aO,aP,FR];refine ad.aB rfl rfl rfl (l9 (p:=λn=>decide (n<=i)) hr (by omega) (λn _=>AE hc n)) ?_;generalize hw:cS (λn=>decide (n<=i)) (full.take k)=w;have hwg:-1<=w:=by rw[<-hw];exact iD _ _
 apply sR;simp only[go_sem,seval,aO,aP];have Tu:C' U e ⟨3,1,full.map vI⟩=U:=by
  funext j;simp only[C'];split
  .rename_i e';rw[e',he]
  .rfl
 refine And.intro (λhm=>?_) (λhm=>?_)
 .refine⟨_,U,aa.refl U,Wk.refl (aa.refl U) _,k,full,rfl,Tu.symm,hk,Nat.le_refl _,?_⟩;exact(qi (by rw[hw];omega)).symm
 .have hw0:¬cS (λn=>decide (n<=i)) (full.take k)<0:=by rw[hw];omega
  obtain⟨g1,g2,g3⟩:=qO hw0;rw[hw]at g1 g2 g3;rw[hlk]at g1;refine⟨ao (by omega) (by omega),?_⟩;refine ad.loop (λm st=>∃(u j:Nat) (cur:List Int),u<j/\j<=k/\m=k-j/\cur.length=full.length/\cur.take u=kept i (full.take j)/\(∀q,j<=q->cur[q]?=full[q]?)/\st.U=C' U e ⟨3,1,cur.map vI⟩/\
   st.s 0=.own e 0 k/\st.s 1=.fn 156 [.ptr c 0 0]/\st.s 5=vI u/\st.s 6=vI j) (k-(w.toNat+1)) ?_ ?_
  .have hw1:w=((w.toNat:Nat):Int):=by omega
   refine⟨w.toNat,w.toNat+1,full,by omega,by omega,rfl,rfl,?_,λ_ _=>rfl,Tu.symm,rfl,rfl,?_,?_⟩
   .have hx:(full.take k)[w.toNat]?=some (full[w.toNat]'(by omega)):=by rw[List.getElem?_take,if_pos g1,List.getElem?_eq_getElem]
    have hp:=g3 _ hx;have e1:(full.take k).take w.toNat=full.take w.toNat:=by rw[List.take_take];congr 1;omega
    rw[e1]at g2;rw[List.take_succ_eq_append_getElem (by omega)];have g2':kept i (full.take w.toNat)=full.take w.toNat:=g2;simp only[kept,List.filter_append]at g2'|-;rw[g2'];simp[hp]
   .show vI w=_;rw[<-hw1]
   .show vI (w+1)=_;rw[Int.natCast_add,<-hw1];rfl
  .rintro m ⟨s,Z'⟩ ⟨u,j,cur,huj,hjk,rfl,Sn,hct,YV,RH,h0,h1,h5,h6⟩;simp only at RH h0 h1 h5 h6;subst RH;refine ad.mix 8 ?_;apply sR;simp only[go_sem,seval,aO,aP,h0,h1,h5,h6];refine And.intro (λH'=>?_) (λVT=>?_)
   .have SS:j<k:=by omega
    have hjc:j<cur.length:=by omega
    have T':cur[j]?=some cur[j]:=by simp[hjc]
    have VT:(cur.map vI)[j]?=some (vI cur[j]):=by simp[hjc]
    have b1:(0:Int)<=j:=by omega
    have b2:(j:Int)<k:=by omega
    have b3:(0:Int)<=u:=by omega
    have b4:(u:Int)<k:=by omega
    simp only[go_sem,seval,aO,aP,h0,h1,h5,h6,b1,b2,VT,Int.toNat_natCast];refine ad.aB rfl rfl rfl (AE (i:=i) (by rw[ab RK];exact hc) cur[j]) ?_;have hgu:(cur.map vI)[u]?=some (vI (cur[u]'(by omega))):=by simp[show u<cur.length by omega]
    apply sR;simp only[go_sem,seval,aO,aP,h0,h1,h5,h6,b1,b2,b3,b4,VT,hgu,Int.toNat_natCast];have hfj:full[j]?=some cur[j]:=by rw[<-YV j (Nat.le_refl _)];exact T'
    have htj:full.take (j+1)=full.take j++[cur[j]]:=by
     have hjf:j<full.length:=by omega
     rw[List.take_succ_eq_append_getElem hjf];congr 2;rw[List.getElem?_eq_getElem hjf]at hfj;simpa using hfj
    refine And.intro (λhd=>?_) (λhd=>?_)
    .refine⟨ao (by omega) (by omega),ao (by omega) (by omega),_,?_,u+1,j+1,cur.set u cur[j],by omega,by omega,rfl,by simpa using Sn,?_,?_,?_,?_,?_⟩
     .omega
     .rw[htj];have hul:u<cur.length:=by omega
      have:(cur.set u cur[j]).take (u+1)=cur.take u++[cur[j]]:=by
       rw[List.take_succ_eq_append_getElem (by simpa using hul),List.take_set,List.set_eq_of_length_le (by simp;omega)];simp
      rw[this,hct];simp only[kept,List.filter_append];congr 1;have hd':¬cur[j]<=i:=by simpa using hd
      simp[hd']
     .intro q hq;rw[List.getElem?_set_ne (by omega)];exact YV q (by omega)
     .simp
     .simp
     .simp
    .refine⟨ao (by omega) (by omega),_,?_,u,j+1,cur,by omega,by omega,rfl,Sn,?_,λq hq=>YV q (by omega),rfl,?_⟩
     .omega
     .rw[htj,hct];simp only[kept,List.filter_append];have hd':cur[j]<=i:=by simpa using hd
      simp[hd']
     .simp
   .have hjk':j=k:=by omega
    subst hjk';have b3:(0:Int)<=u:=by omega
    have b4:(u:Int)<=j:=by omega
    simp only[go_sem,seval,aO,aP,h0,h1,h5,h6,b3,b4,Int.le_refl,Int.toNat_natCast,Nat.zero_add];refine ad.clear (id:=e) (off:=u) (len:=j-u) (ob:=⟨3,1,cur.map vI⟩) rfl rfl rfl ag rfl (by simp;omega) ?_;apply sR;simp only[go_sem,seval,aO,aP,h0,h1,h5,h6,b3,b4,Int.le_refl,Int.toNat_natCast,Nat.zero_add,Nat.sub_zero];refine⟨_,_,aa.refl _,Wk.refl (aa.refl _) _,u,cur.take u++List.replicate (j-u) 0++cur.drop (u+(j-u)),by simp,?_,?_,?_,?_⟩
    .simp[List.map_take,List.map_drop]
    .simp;omega
    .simp;omega
    .rw[List.append_assoc,List.take_append_of_le_length (by simp;omega),List.take_take,Nat.min_self,hct]
open Go.Proofs Go.Proofs.Tryz
def Reads.aC(U:ai):Reads U 1 false .aC []:=⟨rfl,λi v h=>by simp at h⟩
def Ay{U:ai}{c:Nat}{i:Int}(hc:U c=some ⟨3,1,[vI i]⟩):aD prog 155 [.aC,.fn 156 [.ptr c 0 0]] U λr Z'=>r=.aC/\Z'=U:=by
 refine Nf.r (by simp[FR]) ?_;refine ad.mix 8 ?_;apply sR;simp only[go_sem,seval,aO,aP,FR];refine ad.aB rfl rfl rfl (l9 (l:=[]) (p:=λn=>decide (n<=i)) (Reads.aC U) (by simp) (λn _=>AE hc n)) ?_;apply sR;simp only[go_sem,seval,aO,aP,cS];exact ay.same rfl
def Ev{times n:Int}(h0:0<=n)(t0:0<=times):0<=kI times n/\kI times n<=1099511627777:=by
 unfold kI;split
 .rename_i h;refine⟨Int.mul_nonneg h0 t0,?_⟩;rcases h with h|h
  .subst h;simp
  .by_cases hn:n=0
   .subst hn;simp
   .have:=Int.mul_le_of_le_ediv (by omega:0<n) h;rw[Int.mul_comm];omega
 .omega
def cW(s:Sm)(ends:V):Ob:=⟨198,5,[.agg [vI s.depth,vI s.pieces,vI s.nodes,vI s.O',ends]]⟩
def pN{U:ai}{c:Nat}{s:Sm}{ends sv:V}{times:Int}{l:List Int}(hc:U c=some (cW s ends))(hr:∀ob,Reads (C' U c ob) 1 false sv (l.map vI))(hl:l.length<=200000000000000)
 (hn:∀n∈l,0<=n/\n<=mx)(ht:0<=times/\times<=200000000000000)(hh:0<=s.O'/\s.O'<=1099511627777)(Xu:ends.cells=[ends]):
 aD prog 157 [.ptr c 0 0,vI times,sv] U λr Z'=>r=.Rf []/\Z'=C' U c (cW { s with O':=lV times s.O' l } ends):=by
 have hlen:dz false sv=some (vI (l.length:Int)):=by simpa using(hr ⟨0,0,[]⟩).1
 have Tu:C' U c (cW s ends)=U:=by
  funext j;simp only[C'];split
  .rename_i e';rw[e',hc]
  .rfl
 refine PF.r (by simp[ME]) ?_;refine ad.mix 9 ?_;apply sR;simp only[go_sem,seval,aO,aP,ME,hlen];refine ad.loop (λm st=>∃(i:Nat) (h:Int),i<=l.length/\m=l.length-i/\lV times s.O' l=lV times h (l.drop i)/\(0<=h/\h<=1099511627777)/\st.U=C' U c (cW { s with O':=h } ends)/\
  st.s 0=.ptr c 0 0/\st.s 1=vI times/\st.s 9=sv/\st.s 10=vI l.length/\st.s 11=vI i) l.length ?_ ?_
 .exact⟨0,s.O',by omega,by omega,rfl,hh,Tu.symm,rfl,rfl,rfl,rfl,rfl⟩
 .rintro m ⟨s',Z'⟩ ⟨i,h,hi,rfl,hp,hhh,RH,h0,h1,h9,VY,Vw⟩;simp only at h0 h1 h9 VY Vw RH;subst RH;refine ad.mix 9 ?_;apply sR;simp only[go_sem,seval,aO,aP,h0,h1,h9,VY,Vw];refine And.intro (λH'=>?_) (λVT=>?_)
  .have SS:i<l.length:=by omega
   have hd:l.drop i=l[i]::l.drop (i+1):=List.drop_eq_getElem_cons SS;obtain⟨pp,e1,e2⟩:=(hr (cW { s with O':=h } ends)).2 i (vI l[i]) (by simp[SS]);have hni:=hn _ (List.getElem_mem SS);rw[hd,lV]at hp;generalize RK:l[i]=n at*;have jk:=Ev (n:=n) hni.1 ht.1;simp only[cW]at e1 e2;simp only[mx]at hni;have hq:(1099511627776:Int).tdiv n=1099511627776/n:=Int.tdiv_eq_ediv_of_nonneg (by omega);by_cases hz:n=0
   .have RX:kI times n=n*times:=by unfold kI;rw[if_pos (.inl hz)]
    rw[RX]at hp jk;simp only[go_sem,seval,aO,aP,e1,e2,cW,hz,h0,h1,h9,VY,Vw];rw[hz]at hp jk;simp only[Int.zero_mul,Int.add_zero]at hp|-;refine⟨ao (by omega) (by omega),ao (by omega) (by omega),ao (by omega) (by omega),_,?_,i+1,h,by omega,rfl,?_,hhh,?_,by simp⟩
    .omega
    .rw[hp,Int.min_eq_left hhh.2]
    .rw[if_neg (by omega)]
   .simp only[go_sem,seval,aO,aP,e1,e2,cW,hz,h0,h1,h9,VY,Vw,hq];have hdiv:0<=1099511627776/n/\1099511627776/n<=1099511627776:=⟨Int.ediv_nonneg (by omega) hni.1,Int.ediv_le_self _ (by omega)⟩
    refine⟨ao (by omega) (by omega),λhle=>?_,λhgt=>?_⟩
    .have RX:kI times n=n*times:=by unfold kI;rw[if_pos (.inr hle)]
     rw[RX]at hp jk;refine⟨ao (by omega) (by omega),ao (by omega) (by omega),ao (by omega) (by omega),_,?_,i+1,min (h+n*times) 1099511627777,by omega,rfl,hp,by omega,?_,by simp⟩
     .omega
     .rw[show(if 1099511627777<h+n*times then 1099511627777 else h+n*times)=min (h+n*times) 1099511627777 by split<;>omega]
    .have RX:kI times n=1099511627777:=by unfold kI;rw[if_neg (by omega)]
     rw[RX]at hp jk;refine⟨ao (by omega) (by omega),ao (by omega) (by omega),_,?_,i+1,min (h+1099511627777) 1099511627777,by omega,rfl,hp,by omega,?_,by simp⟩
     .omega
     .rw[show(if 1099511627777<h+1099511627777 then 1099511627777 else h+1099511627777)=min (h+1099511627777) 1099511627777 by split<;>omega]
  .have:i=l.length:=by omega
   refine⟨_,_,aa.refl _,Wk.refl (aa.refl _) _,rfl,?_⟩;rw[hp,this,List.drop_length];rfl
open Go.Proofs Go.Proofs.Tryz
def Gk{P:Program}{n:Nat}{Q:St->Prop}{k:List It}{O:Tm P}{f:Nat}{d:Option Nat}{l:List aN}{v:Nat->V}{ob:Ob}{s:Nat->V}{U:ai}{e:Nat}
 (h:∀id Z',aa (del U e) Z'->Z' id=some ob->U id=none->step P O n f (.d l k) ⟨aX s d (v id),Z'⟩ Q):
 Gv P O n f l k d ⟨s,U⟩ Q (some λid=>(v id,Vc.C' (del U e) id ob)):=by
 rw[aP];refine λid M'=>h id _ ((aa.refl _).C' ?_) ag M';by_cases e':id=e
 .simp[del,e']
 .rw[dO e'];exact M'
def lB(K U:ai)(v:V)(ends:List Int)(B:Nat):Prop:=
 (v=.aC/\ends=[])\/∃(e k:Nat) (full:List Int),v=.own e 0 k/\U e=some ⟨3,1,full.map vI⟩/\K e=none/\k<=full.length/\full.length<=B/\full.take k=ends
def Nt{K U:ai}{v:V}{ends:List Int}{B c:Nat}{i:Int}(hB:B<=1000000000000)(h:lB K U v ends B)(hK:aa K U)(hc:K c=some ⟨3,1,[vI i]⟩):
 aD prog 155 [v,.fn 156 [.ptr c 0 0]] U λr Z'=>aa K Z'/\lB K Z' r (kept i ends) B:=by
 rcases h with⟨rfl,rfl⟩|⟨e,k,full,rfl,h1,h2,h3,h4,rfl⟩
 .refine(Ay (hK _ _ hc)).mono ?_;rintro r Z' ⟨rfl,rfl⟩;exact⟨hK,.inl ⟨rfl,rfl⟩⟩
 .have RK:c≠e:=by rintro rfl;rw[h2]at hc;cases hc
  refine(Ge h1 (hK _ _ hc) RK h3 (by omega)).mono ?_;rintro r Z' ⟨k',Wu,rfl,rfl,g1,g2,g3⟩;exact⟨hK.aE h2,.inr ⟨e,k',Wu,rfl,ag,h2,g1,by omega,g3⟩⟩
def aa.Hu{K U:ai}{i:Nat}{o:Ob}(h:aa K U)(hi:U i=some o):aa (Vc.C' K i o) U:=λj x hx=>by
 by_cases e:j=i
 .subst e;rw[ag]at hx;rw[hi];exact hx
 .rw[ab e]at hx;exact h j x hx
def lB.new{K U Z':ai}{v:V}{ends:List Int}{B id:Nat}{o:Ob}(h:lB K U v ends B)(hs:aa U Z')(M':U id=none):lB (C' K id o) Z' v ends B:=by
 rcases h with h|⟨e,k,full,h0,h1,h2,h3⟩
 .exact .inl h
 .exact .inr ⟨e,k,full,h0,hs _ _ h1,by rw[ab (aq h1 M')];exact h2,h3⟩
def lB.less{K K' U:ai}{v:V}{ends:List Int}{B:Nat}(h:lB K' U v ends B)(hs:aa K K'):lB K U v ends B:=by
 rcases h with h|⟨e,k,full,h0,h1,h2,h3⟩
 .exact .inl h
 .exact .inr ⟨e,k,full,h0,h1,hs.none h2,h3⟩
def Jc{K U:ai}{v:V}{ends:List Int}{B c i:Nat}{x:Nd}{s:Sm}(hK:aa K U)(Wi:K c=none)(hc:U c=some (cW s v))(hE:∀o,lB (C' K c o) U v ends B)(hB:B<=1000000000)
 (hi:i<=10000)(hs:s.ru i)(hsn:s.nodes=i)(hx:x.ok=true)(hw:x.words.length<=200000000000000)(Ti:1<=x.size/\x.size<=1000000000):
 aD prog 102 [.ptr c 0 0,vI i,iB x] U λr Z'=>r=.Rf []/\aa K Z'/\∃v',Z' c=some (cW (eS i x s ends).1 v')/\∀o,lB (C' K c o) Z' v' (eS i x s ends).2 (B+1):=by
 refine Ok.r (by simp[K8]) ?_;refine ad.mix 7 ?_;apply sR;simp only[go_sem,seval,K8,iB,Nd.cells];refine af λU0 Z1 s1 a4 f4=>?_;have Yz:=s1 _ _ hc;have n4c:=aq hc f4;simp only[go_sem,seval,a4];refine af λU1 Z2 s2 a5 f5=>?_;have hc2:=s2 _ _ Yz;have YJ:=aq Yz f5;have VZ:=aq a4 f5;have a4:=s2 _ _ a4;have hK2:=(hK.trans s1).trans s2;have k4:K U0=none:=hK.none f4;have k5:K U1=none:=(hK.trans s1).none f5;simp only[go_sem,seval,hc2,cW,a4,a5];have hK':aa (C' (C' (C' K c (cW s v)) U0 ⟨3,1,[vI i]⟩) U1 ⟨59,20,[iB x]⟩) Z2:=((hK2.Hu hc2).Hu a4).Hu a5;have hE':lB (C' (C' (C' K c (cW s v)) U0 ⟨3,1,[vI i]⟩) U1 ⟨59,20,[iB x]⟩) Z2 v ends B:=((hE _).new s1 f4).new s2 f5;refine ad.call rfl rfl rfl (Nt (by omega) hE' hK' (by rw[ab VZ,ag])) ?_;rintro r Z3 ⟨hK3,hE3⟩;have TM:=hK3 c _ (by rw[ab YJ,ab n4c,ag]);have a4:=hK3 U0 _ (by rw[ab VZ,ag]);have a5:=hK3 U1 _ ag;simp only[iB,Nd.cells]at a5;simp only[cW]at TM;have hKK:=(((aa.refl K).aE Wi (o:=cW s v)).aE k4 (o:=⟨3,1,[vI i]⟩)).aE k5 (o:=⟨59,20,[iB x]⟩);have h3:=hKK.trans hK3;have hsr:Rq .i64 (s.nodes+1):=ao (by omega) (by omega);obtain⟨p1,p2,p3,p4,p5,p6⟩:=jN hx;obtain⟨f1,f2,f3⟩:=hs;rcases hE3 with⟨rfl,UY⟩|⟨e,k,full,rfl,he,hKe,hk,UL,UY⟩
 .by_cases TH:x.kind=1
  .apply sR;simp only[go_sem,seval,a4,a5,TM,ab n4c.symm,ab YJ.symm,TH];refine⟨hsr,ao (by omega) (by omega),?_⟩;refine bu λid8 Z4 s4 a8 f8=>?_;have hc4:=s4 c _ ag;have a4:=s4 U0 _ (by rw[ab n4c.symm];exact a4);have a5:=s4 U1 _ (by rw[ab YJ.symm];exact a5);have hs8:∀U,U id8=some ⟨3,1,[.int .i64 (i+x.size)]⟩->bR U 1 (.own id8 0 1)=some [.int .i64 (i+x.size)]:=by
    intro U RH;simp only[bR,RH];rw[if_pos (by simp)];simp
   have hd:∀U,cg U 3 1 .aC=some ([],none):=λ_=>rfl;simp only[go_sem,seval,hs8,a8,hd,bK,Nat.reduceLeDiff];refine bu λVW Z5 s5 a9 f9=>?_;have hc5:=s5 c _ hc4;have a4:=s5 U0 _ a4;have a5:=s5 U1 _ a5;have n9c:VW≠c:=by rintro rfl;rw[hc4]at f9;cases f9
   have n95:VW≠U1:=by rintro rfl;rw[s4 VW _ (by rw[ab YJ.symm];exact hK3 VW _ ag)]at f9;cases f9
   simp only[go_sem,seval,hc5,a4,a5,a9,ab YJ.symm,ab n9c];refine af λYi Z6 s6 a6 f6=>?_;have hc6:=s6 c _ ag;have a9:=s6 VW _ (by rw[ab n9c];exact a9);have n6c:Yi≠c:=by rintro rfl;rw[hc6]at a6;simp at a6
   have n69:Yi≠VW:=by rintro rfl;rw[a9]at a6;simp at a6
   simp only[go_sem,seval,a6];refine af λid84 Z7 s7 a84 f84=>?_;have Xv:=s7 c _ (by rw[ab n6c.symm];exact hc6);have a9:=s7 VW _ (by rw[ab n69.symm];exact a9);have n84c:id84≠c:=by rintro rfl;rw[Xv]at a84;simp at a84
   simp only[go_sem,seval];have h4:=(h3.aE Wi).trans s4;have h5:=h4.trans s5;have k9:K VW=none:=h4.none f9;have h6':=λo=>h5.aE Wi (o:=o);have k6:K Yi=none:=(h6' _).none f6;have h7:=(((h6' _).trans s6).aE k6).trans s7;obtain⟨q1,q2,q3,q4,q5⟩:=p6 TH;have hl5:∀n∈[x.st.top,x.st.Ry,x.st.Rl,x.st.Rb,x.st.head],0<=n/\n<=mx:=by
    intro n hn;simp only[List.mem_cons,List.not_mem_nil,or_false]at hn;rcases hn with rfl|rfl|rfl|rfl|rfl<;>assumption
   refine ad.call rfl rfl rfl (pN (s:=⟨if(1:Int)>s.depth then 1 else s.depth,s.pieces,s.nodes+1,s.O'⟩) (l:=[x.st.top,x.st.Ry,x.st.Rl,x.st.Rb,x.st.head]) (times:=1) Xv
    (λob=>Reads.own (off:=0) (len:=5) ((ab n84c).trans a84) rfl (by simp) (λr hr=>by simp at hr;rcases hr with rfl|rfl|rfl|rfl|rfl<;>rfl)) (by simp) hl5 (by omega) f3 rfl) ?_
   rintro r Z8 ⟨rfl,rfl⟩;apply sR;simp only[go_sem,seval,aO,aP];refine⟨_,_,aa.refl _,Wk.refl (aa.refl _) _,rfl,h7.aE Wi,.own VW 0 1,?_,λo=>.inr ⟨VW,1,[i+x.size],rfl,(ab n9c).trans a9,fU.2 ⟨n9c,k9⟩,by simp,by simp,?_⟩⟩
   .have e:(if(1:Int)>s.depth then 1 else s.depth)=max s.depth 1:=by split<;>omega
    rw[ag,e];simp[eS,TH,UY,cW]
   .simp[eS,TH,UY]
  .by_cases Uq:x.kind=2
   .apply sR;simp only[go_sem,seval,a4,a5,TM,ab n4c.symm,ab YJ.symm,Uq,dJ];refine⟨hsr,ao (by omega) (by omega),?_⟩;refine af λid7 Z7 s7 a7 f7=>?_;have Xv:=s7 c _ ag;have n7c:id7≠c:=by rintro rfl;rw[Xv]at a7;simp at a7
    simp only[go_sem,seval];have h7:=(h3.aE Wi).trans s7;refine ad.call rfl rfl rfl (pN (s:=⟨s.depth,s.pieces+x.words.length,s.nodes+1,s.O'⟩) (l:=[x.line]) (times:=x.words.length) Xv
     (λob=>Reads.own (off:=0) (len:=1) ((ab n7c).trans a7) rfl (by simp) (λr hr=>by simp at hr;rcases hr with rfl;rfl)) (by simp) (by intro n hn;simp at hn;subst hn;exact⟨p2,p3⟩) (by omega) f3 rfl) ?_
    rintro r Z8 ⟨rfl,rfl⟩;apply sR;simp only[go_sem,seval,aO,aP];refine⟨_,_,aa.refl _,Wk.refl (aa.refl _) _,rfl,h7.aE Wi,_,ag.trans (by simp[eS,Uq,cW];rfl),λo=>?_⟩;have:(eS i x s ends).2=kept i ends:=by simp[eS,Uq]
    rw[this];exact .inl ⟨rfl,UY⟩
   .have h4or:=p1;apply sR;simp only[go_sem,seval,a4,a5,TM,ab n4c.symm,ab YJ.symm,TH,Uq,dJ];refine⟨hsr,ao (by omega) (by omega),?_⟩;refine af λid7 Z7 s7 a7 f7=>?_;have Xv:=s7 c _ ag;have n7c:id7≠c:=by rintro rfl;rw[Xv]at a7;simp at a7
    simp only[go_sem,seval];have h7:=(h3.aE Wi).trans s7;refine ad.call rfl rfl rfl (pN (s:=⟨s.depth,s.pieces+1,s.nodes+1,s.O'⟩) (l:=[x.h]) (times:=1) Xv
     (λob=>Reads.own (off:=0) (len:=1) ((ab n7c).trans a7) rfl (by simp) (λr hr=>by simp at hr;rcases hr with rfl;rfl)) (by simp) (by intro n hn;simp at hn;subst hn;exact⟨p4,p5⟩) (by omega) f3 rfl) ?_
    rintro r Z8 ⟨rfl,rfl⟩;apply sR;simp only[go_sem,seval,aO,aP];refine⟨_,_,aa.refl _,Wk.refl (aa.refl _) _,rfl,h7.aE Wi,_,ag.trans (by simp[eS,TH,Uq,cW];rfl),λo=>?_⟩;have:(eS i x s ends).2=kept i ends:=by simp[eS,TH,Uq]
    rw[this];exact .inl ⟨rfl,UY⟩
 .have XY:e≠c:=λe'=>by rw[e',ab YJ,ab n4c,ag]at hKe;cases hKe
  have he4:e≠U0:=λe'=>by rw[e',ab VZ,ag]at hKe;cases hKe
  have he5:e≠U1:=λe'=>by rw[e',ag]at hKe;cases hKe
  have hKe0:K e=none:=hKK.none hKe;have hlk:(full.take k).length=k:=by simp;omega
  by_cases TH:x.kind=1
  .apply sR;simp only[go_sem,seval,a4,a5,TM,ab n4c.symm,ab YJ.symm,TH];refine⟨hsr,ao (by omega) (by omega),?_⟩;refine bu λid8 Z4 s4 a8 f8=>?_;have hc4:=s4 c _ ag;have a4:=s4 U0 _ (by rw[ab n4c.symm];exact a4);have a5:=s4 U1 _ (by rw[ab YJ.symm];exact a5);have hs8:∀U,U id8=some ⟨3,1,[.int .i64 (i+x.size)]⟩->bR U 1 (.own id8 0 1)=some [.int .i64 (i+x.size)]:=by
    intro U RH;simp only[bR,RH];rw[if_pos (by simp)];simp
   have he4':=s4 e _ (by rw[ab XY];exact he);have hd:∀U,U e=some ⟨3,1,full.map vI⟩->cg U 3 1 (.own e 0 k)=some ((full.take k).map vI,some e):=by
    intro U RH;simp only[cg,RH];rw[if_pos ⟨trivial,trivial,trivial,by simpa using hk⟩,List.map_take]
   have Wv:((full.take k).map vI).length=k:=by simpa using hlk
   have R6:(k+1)*9<=140737488355328:=by omega
   simp only[go_sem,seval,hs8,a8,hd,he4',bK,Wv,R6];refine Gk λVW Z5 s5 a9 f9=>?_;have hc5:=s5 c _ (by rw[dO XY.symm];exact hc4);have a4:=s5 U0 _ (by rw[dO he4.symm];exact a4);have a5:=s5 U1 _ (by rw[dO he5.symm];exact a5);have n9c:VW≠c:=by rintro rfl;rw[hc4]at f9;cases f9
   have n95:VW≠U1:=by rintro rfl;rw[s4 VW _ (by rw[ab YJ.symm];exact hK3 VW _ ag)]at f9;cases f9
   simp only[go_sem,seval,hc5,a4,a5,a9,ab YJ.symm,ab n9c];refine af λYi Z6 s6 a6 f6=>?_;have hc6:=s6 c _ ag;have a9:=s6 VW _ (by rw[ab n9c];exact a9);have n6c:Yi≠c:=by rintro rfl;rw[hc6]at a6;simp at a6
   have n69:Yi≠VW:=by rintro rfl;rw[a9]at a6;simp at a6
   simp only[go_sem,seval,a6];refine af λid84 Z7 s7 a84 f84=>?_;have Xv:=s7 c _ (by rw[ab n6c.symm];exact hc6);have a9:=s7 VW _ (by rw[ab n69.symm];exact a9);have n84c:id84≠c:=by rintro rfl;rw[Xv]at a84;simp at a84
   simp only[go_sem,seval];have h4:=(h3.aE Wi).trans s4;have h4':=h4.Hd hKe0;have h5:=h4'.trans s5;have k9:K VW=none:=h4.none f9;have h6':=λo=>h5.aE Wi (o:=o);have k6:K Yi=none:=(h6' _).none f6;have h7:=(((h6' _).trans s6).aE k6).trans s7;obtain⟨q1,q2,q3,q4,q5⟩:=p6 TH;have hl5:∀n∈[x.st.top,x.st.Ry,x.st.Rl,x.st.Rb,x.st.head],0<=n/\n<=mx:=by
    intro n hn;simp only[List.mem_cons,List.not_mem_nil,or_false]at hn;rcases hn with rfl|rfl|rfl|rfl|rfl<;>assumption
   refine ad.call rfl rfl rfl (pN (s:=⟨if((k+1:Nat):Int)>s.depth then((k+1:Nat):Int)else s.depth,s.pieces,s.nodes+1,s.O'⟩) (l:=[x.st.top,x.st.Ry,x.st.Rl,x.st.Rb,x.st.head]) (times:=1) Xv
    (λob=>Reads.own (off:=0) (len:=5) ((ab n84c).trans a84) rfl (by simp) (λr hr=>by simp at hr;rcases hr with rfl|rfl|rfl|rfl|rfl<;>rfl)) (by simp) hl5 (by omega) f3 rfl) ?_
   rintro r Z8 ⟨rfl,rfl⟩;apply sR;simp only[go_sem,seval,aO,aP];refine⟨_,_,aa.refl _,Wk.refl (aa.refl _) _,rfl,h7.aE Wi,.own VW 0 (k+1),?_,λo=>.inr ⟨VW,k+1,full.take k++[i+x.size],rfl,((ab n9c).trans a9).trans (by simp),fU.2 ⟨n9c,k9⟩,by simp;omega,by simp;omega,?_⟩⟩
   .have e:(if((k+1:Nat):Int)>s.depth then((k+1:Nat):Int)else s.depth)=max s.depth ((k+1:Nat):Int):=by split<;>omega
    rw[ag,e];have hk0':kept i ends=full.take k:=UY.symm;simp[eS,TH,hk0',hlk,cW,Nat.min_eq_left hk]
   .have hk0':kept i ends=full.take k:=UY.symm;rw[List.take_of_length_le (by simp;omega)];simp[eS,TH,hk0']
  .by_cases Uq:x.kind=2
   .apply sR;simp only[go_sem,seval,a4,a5,TM,ab n4c.symm,ab YJ.symm,Uq,dJ];refine⟨hsr,ao (by omega) (by omega),?_⟩;refine af λid7 Z7 s7 a7 f7=>?_;have Xv:=s7 c _ ag;have n7c:id7≠c:=by rintro rfl;rw[Xv]at a7;simp at a7
    simp only[go_sem,seval];have h7:=(h3.aE Wi).trans s7;refine ad.call rfl rfl rfl (pN (s:=⟨s.depth,s.pieces+x.words.length,s.nodes+1,s.O'⟩) (l:=[x.line]) (times:=x.words.length) Xv
     (λob=>Reads.own (off:=0) (len:=1) ((ab n7c).trans a7) rfl (by simp) (λr hr=>by simp at hr;rcases hr with rfl;rfl)) (by simp) (by intro n hn;simp at hn;subst hn;exact⟨p2,p3⟩) (by omega) f3 rfl) ?_
    rintro r Z8 ⟨rfl,rfl⟩;apply sR;simp only[go_sem,seval,aO,aP];refine⟨_,_,aa.refl _,Wk.refl (aa.refl _) _,rfl,h7.aE Wi,_,ag.trans (by simp[eS,Uq,cW];rfl),λo=>?_⟩;have:(eS i x s ends).2=kept i ends:=by simp[eS,Uq]
    rw[this];exact .inr ⟨e,k,full,rfl,(ab XY).trans (s7 e _ (by rw[ab XY];exact he)),fU.2 ⟨XY,hKe0⟩,hk,by omega,UY⟩
   .have h4or:=p1;apply sR;simp only[go_sem,seval,a4,a5,TM,ab n4c.symm,ab YJ.symm,TH,Uq,dJ];refine⟨hsr,ao (by omega) (by omega),?_⟩;refine af λid7 Z7 s7 a7 f7=>?_;have Xv:=s7 c _ ag;have n7c:id7≠c:=by rintro rfl;rw[Xv]at a7;simp at a7
    simp only[go_sem,seval];have h7:=(h3.aE Wi).trans s7;refine ad.call rfl rfl rfl (pN (s:=⟨s.depth,s.pieces+1,s.nodes+1,s.O'⟩) (l:=[x.h]) (times:=1) Xv
     (λob=>Reads.own (off:=0) (len:=1) ((ab n7c).trans a7) rfl (by simp) (λr hr=>by simp at hr;rcases hr with rfl;rfl)) (by simp) (by intro n hn;simp at hn;subst hn;exact⟨p4,p5⟩) (by omega) f3 rfl) ?_
    rintro r Z8 ⟨rfl,rfl⟩;apply sR;simp only[go_sem,seval,aO,aP];refine⟨_,_,aa.refl _,Wk.refl (aa.refl _) _,rfl,h7.aE Wi,_,ag.trans (by simp[eS,TH,Uq,cW];rfl),λo=>?_⟩;have:(eS i x s ends).2=kept i ends:=by simp[eS,TH,Uq]
    rw[this];exact .inr ⟨e,k,full,rfl,(ab XY).trans (s7 e _ (by rw[ab XY];exact he)),fU.2 ⟨XY,hKe0⟩,hk,by omega,UY⟩
open Go.Proofs Go.Proofs.Tryz
def zG(l:List Nd)(hl:dH l):aV prog 46 [aK l] (.Rf [.agg (iR l).1.cells,vI (iR l).2]):=λU=>by
 have hl0:=hl;obtain⟨hl1,hl2⟩:=hl;rw[<-Dm l hl0];refine e46.r (by simp[c46]) ?_;refine ad.mix 7 ?_;apply sR;simp only[go_sem,seval,c46];refine af λidR Z1 s1 aR fR=>?_;simp only[go_sem,seval,aR];refine ad.aB rfl rfl rfl (Cl l hl0 _) ?_;apply sR;simp only[go_sem,seval,uI,aR];refine And.intro (λhf=>?_) (λhf=>?_)
 .simp only[Bool.not_eq_eq_eq_not,Bool.not_true]at hf;refine ay.pure (s1.aE fR) ?_;simp[xB,hf,Sm.cells]
 .simp only[Bool.not_eq_eq_eq_not,Bool.not_false]at hf;refine af λU0 Z2 s2 a4 f4=>?_;have nR4:=aq aR f4;have aR:=s2 _ _ aR;have g4:U U0=none:=s1.none f4;have hKR:aa (C' U idR ⟨125,4,[.agg Sm.zero.cells]⟩) Z2:=(s1.trans s2).Hu aR;have k4:C' U idR ⟨125,4,[.agg Sm.zero.cells]⟩ U0=none:=fU.2 ⟨nR4.symm,g4⟩;simp only[go_sem,seval,fj];refine ad.loop (λm st=>∃(i:Nat) (v:V),i<=l.length/\m=l.length-i/\aa (C' U idR ⟨125,4,[.agg Sm.zero.cells]⟩) st.U/\st.U U0=some (cW (im l i).1 v)/\
   (∀o,lB (C' (C' U idR ⟨125,4,[.agg Sm.zero.cells]⟩) U0 o) st.U v (im l i).2 i)/\st.s 2=.ptr idR 0 0/\st.s 4=.ptr U0 0 0/\st.s 11=aK l/\st.s 12=vI l.length/\st.s 13=vI i) l.length ?_ ?_
  .exact⟨0,.aC,by omega,by omega,hKR,a4,λo=>.inl ⟨rfl,rfl⟩,rfl,rfl,rfl,rfl,rfl⟩
  .rintro m ⟨s,Z'⟩ ⟨i,v,hi,rfl,G',h4s,hE,h2,h4,Vw,h12,h13⟩;simp only at G' h4s hE h2 h4 Vw h12 h13;obtain⟨e1,e2,e3,e4⟩:=mc l hl0 hf i hi;have Rg:l.all Nd.ok=true/\cu l 0 l.length=true:=by simpa[R3]using hf
   have hRs:Z' idR=some ⟨125,4,[.agg Sm.zero.cells]⟩:=G' idR _ ag;refine ad.mix 7 ?_;apply sR;simp only[go_sem,seval,h2,h4,Vw,h12,h13,h4s,cW,hRs,Sm.zero,Sm.cells];refine And.intro (λH'=>?_) (λVT=>?_)
   .have SS:i<l.length:=by omega
    have hx:=(List.all_eq_true.1 Rg.1) _ (List.getElem_mem SS);have hxw:=hl2 _ (List.getElem_mem SS);obtain⟨z1,z2,z3⟩:=ir l (l.length+1) 0 l.length (by omega) (by omega) Rg.2 i (by omega) SS SS;have VL:im l (i+1)=eS i l[i] (im l i).1 (im l i).2:=by simp[im,SS]
    generalize YF:l[i]=x at*;simp only[go_sem,seval,lI SS,YF,h2,h4,Vw,h12,h13,Nd.cells];refine af λYi Z6 s6 a6 f6=>?_;have n64:Yi≠U0:=by rintro rfl;rw[h4s]at f6;cases f6
    have n6R:Yi≠idR:=by rintro rfl;rw[hRs]at f6;cases f6
    have g6:C' U idR ⟨125,4,[.agg Sm.zero.cells]⟩ Yi=none:=G'.none f6;simp only[go_sem,seval,a6,h2,h4,Vw,h12,h13];have hsub6:=G'.trans s6;have SL:=(Jc (K:=C' U idR ⟨125,4,[.agg Sm.zero.cells]⟩) (U:=C' Z6 Yi ⟨59,20,[iB x]⟩) (i:=i) (x:=x) (s:=(im l i).1) (B:=i) (hsub6.aE g6) k4 ((ab n64.symm).trans (s6 _ _ h4s))
     (λo=>((hE o).new (s6.aE f6) f6 (o:=⟨0,0,[]⟩)).less ((aa.refl _).aE (fU.2 ⟨n64,g6⟩))) (by omega) (by omega) (by rw[e1];exact e3) (by rw[e1]) hx hxw (by omega))
    simp only[iB,Nd.cells]at SL;refine ad.call rfl rfl rfl (by simp only[go_sem,seval,aO,aP,h4];exact SL) ?_
    .rintro r Z7 ⟨rfl,hK7,v',h4',hE'⟩;apply sR;simp only[go_sem,seval,aO,aP,h2,h4,Vw,h12,h13];refine⟨ao (by omega) (by omega),_,?_,i+1,v',by omega,rfl,hK7,?_,?_,?_⟩
     .omega
     .rw[VL,h4'];rfl
     .intro o;rw[VL];exact hE' o
     .simp
   .have TV:i=l.length:=by omega
    subst TV;refine ay.pure ((((aa.refl U).aE fR).trans G').aE fR) ?_;simp[xB,hf,Sm.cells]
open Go.Proofs Go.Proofs.Tryz
def yP:((2:Nat):Int)=2:=rfl
def x6:((3:Nat):Int)=3:=rfl
def xO:((4:Nat):Int)=4:=rfl
def zx(l:List Nd)(hl:dH l):aV prog 45 [aK l] (vI (gY l)):=λU=>by
 refine e45.r (by simp[c45]) ?_;refine ad.mix 8 ?_;apply sR;simp only[go_sem,seval,c45];refine ad.aB rfl rfl rfl (zG l hl _) ?_;apply sR;simp only[go_sem,seval,Sm.cells];refine af λid3 Z1 s1 a3 f3=>?_;have G':=λo=>s1.aE f3 (o:=o);simp only[go_sem,seval,a3];have hc:(iR l).2=if R3 l then 0 else 4:=by unfold iR;split<;>rfl
 refine And.intro (λh=>?_) (λh=>?_)
 .refine ay.pure (G' _) ?_;have:R3 l=false:=by
   rw[hc]at h;cases hb:R3 l<;>simp_all
  simp[gY,this,hc]
 .have hb:R3 l=true:=by
   rw[hc]at h;cases hb:R3 l<;>simp_all
  have hR:gY l=if(iR l).1.depth>16\/(iR l).1.pieces>2000\/(iR l).1.nodes>2000\/(iR l).1.O'>1099511627776 then 2 else 0:=by
   simp only[gY,hb,if_true]
  generalize (iR l).1=sm at*;refine af λU1 Z2 s2 a5 f5=>?_;have TQ:=(G' _).trans s2;have g5:U U1=none:=(G' _).none f5;simp only[go_sem,seval,a5];refine ad.loop (λm st=>∃(i:Nat),i<=4/\m=4-i/\st.U=C' Z2 U1 ⟨195,4,[.agg sm.cells]⟩/\(0<i->sm.depth<=16)/\(1<i->sm.pieces<=2000)/\(2<i->sm.nodes<=2000)/\(3<i->sm.O'<=1099511627776)/\
   st.s 5=.ptr U1 0 0/\st.s 25=.agg [vI 16,vI 2000,vI 2000,vI 1099511627776]/\st.s 26=vI i) 4 ?_ ?_
  .exact⟨0,by omega,by omega,rfl,by omega,by omega,by omega,by omega,rfl,rfl,rfl⟩
  .rintro m ⟨s,Z'⟩ ⟨i,hi,rfl,RH,p1,p2,p3,p4,h5,h25,h26⟩;simp only at RH h5 h25 h26;subst RH;have WI:i=0\/i=1\/i=2\/i=3\/i=4:=by omega
   have hend:∀(p:Prop),p->p:=λ_ h=>h;rcases WI with rfl|rfl|rfl|rfl|rfl
   .refine ad.mix 8 ?_;apply sR;simp only[go_sem,seval,aO,aP,h5,h25,h26,Sm.cells,Int.ofNat_zero,Int.natCast_zero,yP,x6,xO,Int.toNat_zero,Int.reduceToNat,Nat.zero_mul];refine And.intro (λg=>?_) (λg=>?_)
    .refine ay.pure (TQ.aE g5) ?_;rw[hR,if_pos];omega
    .refine⟨ao (by omega) (by omega),_,?_,1,by omega,rfl,?_,?_,?_,?_,rfl⟩<;>omega
   .refine ad.mix 8 ?_;apply sR;simp only[go_sem,seval,aO,aP,h5,h25,h26,Sm.cells,Int.ofNat_zero,Int.natCast_zero,Int.natCast_one,Int.toNat_one,yP,x6,xO,Int.toNat_zero,Int.reduceToNat,Nat.zero_mul,Nat.reduceMul];refine And.intro (λg=>?_) (λg=>?_)
    .refine ay.pure (TQ.aE g5) ?_;rw[hR,if_pos];omega
    .refine⟨ao (by omega) (by omega),_,?_,2,by omega,rfl,?_,?_,?_,?_,rfl⟩<;>omega
   .refine ad.mix 8 ?_;apply sR;simp only[go_sem,seval,aO,aP,h5,h25,h26,Sm.cells,Int.ofNat_zero,Int.natCast_zero,Int.natCast_one,Int.toNat_one,yP,x6,xO,Int.toNat_zero,Int.reduceToNat,Nat.zero_mul,Nat.reduceMul];refine And.intro (λg=>?_) (λg=>?_)
    .refine ay.pure (TQ.aE g5) ?_;rw[hR,if_pos];omega
    .refine⟨ao (by omega) (by omega),_,?_,3,by omega,rfl,?_,?_,?_,?_,rfl⟩<;>omega
   .refine ad.mix 8 ?_;apply sR;simp only[go_sem,seval,aO,aP,h5,h25,h26,Sm.cells,Int.ofNat_zero,Int.natCast_zero,Int.natCast_one,Int.toNat_one,yP,x6,xO,Int.toNat_zero,Int.reduceToNat,Nat.zero_mul,Nat.reduceMul];refine And.intro (λg=>?_) (λg=>?_)
    .refine ay.pure (TQ.aE g5) ?_;rw[hR,if_pos];omega
    .refine⟨ao (by omega) (by omega),_,?_,4,by omega,rfl,?_,?_,?_,?_,rfl⟩<;>omega
   .refine ad.mix 8 ?_;apply sR;simp only[go_sem,seval,aO,aP,h5,h25,h26,Sm.cells,Int.ofNat_zero,Int.natCast_zero,Int.natCast_one,yP,x6,xO,Int.toNat_zero,Int.reduceToNat,Nat.zero_mul];refine ay.pure (TQ.aE g5) ?_;rw[hR,if_neg];omega
open Go.Proofs Go.Proofs.Tryz
def uL(U:ai)(l:List Int):bS U false 1 (.rp (bn l))=some (bn l):=rfl
open Go.Proofs Go.Proofs.Tryz
def RO(l:List Nd)(i:Nat):Int:=((l[i]?).map Nd.size).getD 0
def uF(l:List Nd)(a:Int):Bool:=decide (0<=a)&&decide (a<l.length)
def gZ(l:List Nd)(a b:Int):Bool:=uF l a&&(uF l b&&(decide (b>=a)&&decide (b-a<RO l a.toNat)))
def gF(l:List Nd)(a:Nat):Nat->List Int
 |0=>[]
 |k+1=>if gZ l k a then(k:Int)::gF l a k else gF l a k
def rF(l:List Nd)(a:Nat):Nat->Int
 |0=>-1
 |k+1=>if gZ l k a then(k:Int)else rF l a k
def eQ(l:List Nd)(a:Nat):Int:=rF l a a
def yn{l:List Nd}{a:Int}:uF l a=true↔0<=a/\a<l.length:=by simp[uF]
def lk{l:List Nd}{i:Nat}(h:i<l.length):RO l i=l[i].size:=by simp[RO,h]
def D9{l:List Nd}(h:R3 l=true){i:Nat}(hi:i<l.length):1<=l[i].size/\l[i].size<=(l.length:Int)-i/\(l[i].kind=1\/l[i].size<=1):=by
 simp only[R3,Ba]at h;exact ir l (l.length+1) 0 l.length (by omega) (Nat.le_refl _) h.2 i (by omega) hi hi
def uh(l:List Nd)(a:Nat):∀k,-1<=rF l a k/\rF l a k<k
 |0=>by simp[rF]
 |k+1=>by
  rw[rF];split
  .omega
  .have:=uh l a k;omega
open Go.Proofs Go.Proofs.Tryz
def wm(U:ai)(l:List Int):bR U 1 (bn l)=some (l.map vI):=by simp[bn,bR]
def pH{l:List Nd}(hb:R3 l=true){i:Nat}(h:i<l.length):1<=RO l i/\RO l i<=l.length:=by
 rw[lk h];have:=D9 hb h;omega
end Go.Vc
