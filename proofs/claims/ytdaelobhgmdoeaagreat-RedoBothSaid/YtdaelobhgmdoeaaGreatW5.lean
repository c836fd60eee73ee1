/- Part 5 of the library of this proof. -/
import Derived.Test.YtdaelobhgmdoeaaGreatW4
set_option linter.all false
set_option maxHeartbeats 8000000
set_option maxRecDepth 100000
namespace Go.Vc
variable {P:Program} {n:Nat} {st:St} {Q:St->Prop} {k:List It}
def ug{RS:List (List Nat)}{A':List Nat}{i:Nat}(h:i∈dU RS A'):i<RS.length/\i∉A'/\∀k∈RS.getD i [],k∈A':=by
 unfold dU at h;obtain⟨h1,h2⟩:=List.mem_filter.1 h;simp only[Ba,Bool.not_eq_true',List.all_eq_true]at h2;exact⟨by simpa using h1,by simpa using h2.1,λk hk=>by simpa using h2.2 k hk⟩
def sU:∀(n:Nat) (L:List Nat),L.Nodup->(∀k∈L,k<n)->L.length<=n/\(L.length=n->∀k,k<n->k∈L)
 |0,L,_,h=>by
  cases L with
  |nil=>simp
  |cons a L=>have:=h a (by simp);omega
 |n+1,L,hd,h=>by
  by_cases hn:n∈L
  .have h1:=sU n (L.erase n) (hd.erase n) λk hk=>by
    have h2:=h k (List.mem_of_mem_erase hk);have h3:k≠n:=λe=>by subst e;exact(List.Nodup.not_mem_erase hd) hk
    omega
   have h4:=List.length_erase_of_mem hn;have h5:0<L.length:=List.length_pos_of_mem hn;refine⟨by omega,λhe k hk=>?_⟩;by_cases hkn:k=n
   .rw[hkn];exact hn
   .exact List.mem_of_mem_erase (h1.2 (by omega) k (by omega))
  .have h1:=sU n L hd λk hk=>by
    have h2:=h k hk;have h3:k≠n:=λe=>hn (e▸hk);omega
   exact⟨by omega,λhe=>by omega⟩
variable {P:Program} {n:Nat} {st:St} {Q:St->Prop} {k:List It}
def TC(P:Program)(i:aN)(x:St)(K:St->Prop):Prop:=T P i x K\/(bu x.s i.g=some true/\match i.op with
 |.call fx xs=>∃f caps Post,fx.ev x.s=.fn f caps/\aD P f (xs.map (·.ev x.s)++caps) x.U Post/\∀r Z',Post r Z'->K ⟨aX x.s i.dst r,Z'⟩
 |_=>False)
def TC.mono{i:aN}{x:St}{K K':St->Prop}(hk:∀x,K x->K' x)(h:TC P i x K):TC P i x K':=by
 rcases h with h|⟨h1,h2⟩
 .exact .inl (h.mono hk)
 .refine .inr ⟨h1,?_⟩;split at h2
  .obtain⟨f,caps,Post,g1,g2,g3⟩:=h2;exact⟨f,caps,Post,g1,g2,λr Z' hp=>hk _ (g3 r Z' hp)⟩
  .exact h2.elim
def Ev{F:Fr}(hn:F.n=n){o:Oper}{all:Array Oper}{x:St}{K:St->Prop}{a:Act}{w:World}(h:TC P (dn P n all o) x K)(hs:fK F x a w)
 {next:Act->World->Prop}{Q':Exit->Act->World->Prop}(RL:∀x' a' w',fK F x' a' w'->K x'->next a' w'):
 if Region.wanted o (yielded all a.tmps)then R0 P n o.op≠.bad/\o.wp P a w next Q' else next (a.put o.dst undef) w:=by
 rcases h with h|⟨hw,h⟩
 .exact wD hn h hs RL
 subst hn;obtain⟨I,hs⟩:=hs;have V3:=rS (P:=P) hs all o hw;rw[V3];simp only[if_true];have hdst:(dn P F.n all o).dst=o.dst.filter (·<F.n):=rfl;have hopc:(dn P F.n all o).op=R0 P F.n o.op:=rfl;rw[hdst,hopc]at h;split at h
 .rename_i fx xs RH;refine⟨λe=>?_,?_⟩
  .rw[RH]at e;cases e
  obtain⟨f,caps,Post,h1,h2,h3⟩:=h;obtain⟨f0,args,argTypes,g1,rfl,rfl⟩:=lJ RH;refine nS hs g1 h1 h2 λr Z' hp a' w' RP=>?_;exact RL _ a' w' RP (h3 r Z' hp)
 .exact h.elim
def TnC(P:Program)(n:Nat)(ops:Array Oper)(i:Nat)(x:St)(K:St->Prop):Prop:=match ops[i]? with
 |some o=>TC P (dn P n ops o) x K
 |none=>K x
def xQ(P:Program)(n:Nat)(ops:Array Oper)(Q:St->Prop):Nat->Array Bool->St->Prop
 |0,A',x=>Region.ready .any ops A'=[]/\Q x
 |f+1,A',x=>(Region.ready .any ops A'=[]->Q x)/\∀i∈Region.ready .any ops A',TnC P n ops i x (xQ P n ops Q f (A'.setIfInBounds i true))
def lW{F:Fr}(hn:F.n=n){ops:Array Oper}{Q:St->Prop}{Q':Exit->Act->World->Prop}(hQ:∀x a w,fK F x a w->Q x->Q' .normal a w):
 ∀(f:Nat) (A':Array Bool) (x:St) (a:Act) (w:World),fK F x a w->xQ P n ops Q f A' x->wpAnyIn F.eP 0 P .any ops Q' f A' a w
 |0,_,_,_,_,hs,h=>⟨h.1,hQ _ _ _ hs h.2⟩
 |f+1,A',x,a,w,hs,h=>by
  refine⟨λh0=>hQ _ _ _ hs (h.1 h0),λi hi=>?_⟩;have h1:=h.2 i hi;unfold TnC at h1;unfold wpOpIn;cases ho:ops[i]? with
  |none=>
   simp only[ho]at h1;exact lW hn hQ f _ x a w hs h1
  |some o=>
   simp only[ho]at h1;have h2:=Ev (Q':=Q') hn h1 hs λx' a' w' RP hk=>lW hn hQ f _ x' a' w' RP hk;by_cases hw:Region.wanted o (yielded ops a.tmps)=true
   .rw[if_pos hw]at h2;simp only[hw,if_true];exact Iy (mG h2.1) h2.2
   .rw[if_neg hw]at h2;simp only[hw];exact⟨λ_ _=>trivial,h2⟩
def tv(P:Program)(l:List aN)(rec:List Nat->St->Prop)(A':List Nat)(x:St):List Nat->Prop
 |[]=>True
 |i::is=>(match l[i]? with
   |some ins=>TC P ins x (rec (i::A'))
   |none=>False)/\tv P l rec A' x is
def ic(P:Program)(l:List aN)(RS:List (List Nat))(Q:St->Prop):Nat->List Nat->St->Prop
 |0,A',x=>dU RS A'=[]/\Q x
 |f+1,A',x=>match dU RS A' with
   |[]=>Q x
   |i::is=>tv P l (ic P l RS Q f) A' x (i::is)
def mL{l:List aN}{rec:List Nat->St->Prop}{A':List Nat}{x:St}:∀{is:List Nat},tv P l rec A' x is->∀i∈is,∃ins,l[i]?=some ins/\TC P ins x (rec (i::A'))
 |[],_,_,hi=>by cases hi
 |j::is,h,i,hi=>by
  obtain⟨h1,h2⟩:=h;rcases List.mem_cons.1 hi with rfl|hi
  .cases hl:l[i]? with
   |none=>rw[hl]at h1;exact h1.elim
   |some ins=>rw[hl]at h1;exact⟨ins,rfl,h1⟩
  .exact mL h2 i hi
def ly{ops:Array Oper}{Q:St->Prop}:∀(f:Nat) (arr:Array Bool) (A':List Nat) (x:St),arr.size=ops.size->(∀i,i<ops.size->arr.getD i true=A'.contains i)->
 (∀i∈A',i<ops.size)->ic P (ops.toList.map (dn P n ops)) (jo ops) Q f A' x->xQ P n ops Q f arr x
 |0,arr,A',x,hs,hl,ho,h=>⟨by rw[vO hs hl ho];exact h.1,h.2⟩
 |f+1,arr,A',x,hs,hl,ho,h=>by
  have hr:=vO hs hl ho;unfold ic at h;refine⟨λh0=>?_,λi hi=>?_⟩
  .rw[hr]at h0;rw[h0]at h;exact h
  .rw[hr]at hi;have H':i<ops.size:=by
    have:=(List.mem_filter.1 hi).1;simpa[jo]using this
   have SK:tv P (ops.toList.map (dn P n ops)) (ic P (ops.toList.map (dn P n ops)) (jo ops) Q f) A' x (dU (jo ops) A'):=by
    cases hrr:dU (jo ops) A' with
    |nil=>exact trivial
    |cons j js=>rw[hrr]at h;exact h
   obtain⟨ins,h1,h2⟩:=mL SK i hi;have h3:ops[i]?=some ops[i]:=Array.getElem?_eq_getElem H';have h4:ins=dn P n ops ops[i]:=by simpa[H']using h1.symm
   unfold TnC;simp only[h3];rw[<-h4];refine h2.mono λx' R9=>ly f _ (i::A') x' (by simpa using hs) (λj hj=>?_) (λj hj=>?_) R9
   .by_cases e:j=i
    .subst e;rw[Array.getD_eq_getD_getElem?,Array.getElem?_setIfInBounds_self_of_lt (by omega)];simp
    .rw[Array.getD_eq_getD_getElem?,Array.getElem?_setIfInBounds_ne (λe'=>e e'.symm),<-Array.getD_eq_getD_getElem?,hl j hj];simp[e]
   .rcases List.mem_cons.1 hj with rfl|hj
    .exact H'
    .exact ho j hj
def ad.I2(hm:P.follows .mixedOrders=true){l:List aN}{RS:List (List Nat)}(h:ic P l RS (λx=>ad P n k x Q) l.length [] st):ad P n (.code (.SO l RS)::k) st Q:=by
 intro F hn kt hk a w hs;obtain⟨z,Ua,rfl,hy,Tl⟩:=eE hk;obtain⟨c0,rfl,Tf⟩:=gB hy;have Vh:∃id ops,c0=.region id ops true/\ops.toList.map (dn P n ops)=l/\jo ops=RS:=by
  cases c0<;>simp only[dG,reduceCtorEq]at Tf;rename_i id ops draw;cases draw
  .simp at Tf
  .simp only[Bool.true_and]at Tf;split at Tf
   .cases Tf
   split at Tf
   .simp only[bJ.SO.injEq]at Tf;exact⟨id,ops,rfl,Tf.1,Tf.2⟩
   .simp at Tf
 obtain⟨id,ops,rfl,rfl,rfl⟩:=Vh;have RP:fK F st a { w with drawn:=w.drawn+1 }:=by
  obtain⟨I,hs⟩:=hs;have hk:db (aG I st.U) (aG I st.U) w { w with drawn:=w.drawn+1 }:=λ_ _ h=>⟨h,rfl⟩
  refine⟨I,⟨⟨hs.sat.size,hs.sat.os,hs.sat.tape,hs.sat.output,hs.sat.same,hs.sat.fin,hs.sat.inj,λid o ho=>?_,hs.sat.fresh,hs.sat.UW⟩,hs.le,hs.size,hs.book.mc hk,λi hi=>?_⟩⟩
  .exact(hs.sat.obj id o ho).mono (df.refl I) hk (Nat.le_refl _) (λ_ _ _ _=>rfl)
  .exact E'.mono (df.refl I) hk (Nat.le_refl _) _ _ (hs.slot i hi)
 refine wpIn_region_any hm (lW (Q:=λx=>ad P n k x Q) hn (λx a w hs h=>h F hn Ua Tl a w hs) _ _ _ _ _ RP ?_);have:=ly (P:=P) (n:=n) (Q:=λx=>ad P n k x Q) (ops:=ops) ops.size (Array.replicate ops.size false) [] st (by simp) (λi hi=>by
  rw[Array.getD_eq_getD_getElem?,Array.getElem?_replicate,if_pos hi];simp) (by simp) (by simpa using h)
 exact this
def oO{l:List aN}{rec:List Nat->St->Prop}{A':List Nat}{x:St}:∀{is:List Nat},(∀i∈is,∃ins,l[i]?=some ins/\TC P ins x (rec (i::A')))->tv P l rec A' x is
 |[],_=>trivial
 |j::is,h=>by
  obtain⟨ins,h1,h2⟩:=h j (by simp);refine⟨by rw[h1];exact h2,oO λi hi=>h i (by simp[hi])⟩
variable {P:Program} {n:Nat} {st:St} {Q:St->Prop} {k:List It}
def ZT(P:Program)(i:aN)(x:St):Prop:=match i.dst with
 |some d=>QY P i x.s x.U (x.s d)
 |none=>∃v,QY P i x.s x.U v
def RE(P:Program)(l:List aN)(K:St->Prop):List Nat->St->Prop
 |[],x=>K x
 |m::its,x=>match l[m/2]? with
  |none=>False
  |some ins=>if m%2=0 then TC P ins x (RE P l K its)else ZT P ins x/\RE P l K its x
def bB(l:List aN)(i:Nat):aN:=(l[i]?).getD ⟨none,.bad,none⟩
def eS(RR:List (List Nat))(i:Nat):List Nat:=RR.getD i []
def dE(l:List aN)(RR:List (List Nat))(j:Nat):Bool:=bx (bB l j).op != 0||(match(bB l j).dst with
 |some d=>(List.range l.length).any λi=>(bB l i).kE.contains d&&!(eS RR i).contains j
 |none=>false)
def Dc(l:List aN)(RR:List (List Nat))(done:List Nat)(e:Nat):List Nat:=
 if dE l RR e then done.filterMap λk=>if !(dE l RR k)&&(!(kf (bB l k).op)&&!((eS RR e).contains k))then some (2*k+1)else none else[]
def eB(l:List aN)(RR:List (List Nat)):List Nat->List Nat->List Nat
 |_,[]=>[]
 |done,e::r=>2*e::(Dc l RR done e++eB l RR (done++[e]) r)
def mv(p:Nat->Nat->Bool):List Nat->Bool
 |[]=>true
 |a::r=>r.all (p a)&&mv p r
def l6{p:Nat->Nat->Bool}:∀{a:List Nat} {b:List Nat} {x y:Nat},mv p (a++b)=true->x∈a->y∈b->p x y=true
 |[],_,_,_,_,h,_=>by cases h
 |c::a,b,x,y,hp,hx,hy=>by
  simp only[List.cons_append,mv,Ba]at hp;rcases List.mem_cons.1 hx with rfl|hx
  .exact List.all_eq_true.1 hp.1 y (List.mem_append_right _ hy)
  .exact l6 hp.2 hx hy
def uh(f:Nat->List Nat):List Nat->List Nat->Bool
 |_,[]=>true
 |done,e::r=>(f e).all done.contains&&uh f (done++[e]) r
def qx{f:Nat->List Nat}:∀{r done:List Nat} {a:List Nat} {e:Nat} {b:List Nat},uh f done r=true->r=a++e::b->∀x∈f e,x∈done++a
 |[],_,a,e,b,_,h,_,_=>by simp at h
 |c::r,done,[],e,b,hB,h,x,hx=>by
  simp only[List.nil_append,List.cons.injEq]at h;obtain⟨rfl,rfl⟩:=h;simp only[uh,Ba]at hB;simpa using List.all_eq_true.1 hB.1 x hx
 |c::r,done,d::a,e,b,hB,h,x,hx=>by
  simp only[List.cons_append,List.cons.injEq]at h;obtain⟨rfl,rfl⟩:=h;simp only[uh,Ba]at hB;have:=qx hB.2 rfl x hx;simpa using this
def Il(l:List aN)(RS RR:List (List Nat))(ord:List Nat):Bool:=
 (decide (ord.length=l.length)&&(decide (RS.length=l.length)&&ord.all λi=>decide (i<l.length)))&&
 (mv (λa b=>decide (a≠b)) ord&&
 (uh (λi=>RS.getD i []) [] ord&&
 ((List.range l.length).all (λj=>(eS RR j).all λi=>(RS.getD j []).any λd=>d==i||(eS RR d).contains i)&&
 ((List.range l.length).all (λi=>(List.range l.length).all λj=>i==j||((bB l i).dst.isNone||(bB l i).dst != (bB l j).dst))&&
 (List.range l.length).all (λi=>(List.range l.length).all λj=>i==j||(match(bB l j).dst with
   |some d=>!((bB l i).kE.contains d)||((eS RR i).contains j||(dE l RR j&&(eS RR j).contains i))
   |none=>true))))))
def eOk(l:List aN)(RS RR:List (List Nat))(ord:List Nat):Bool:=Il l RS RR ord&&mv (λa b=>!(dE l RR a)||(eS RR b).contains a) ord
def qg:∀{l:List Nat},mv (λa b=>decide (a≠b)) l=true->l.Nodup
 |[],_=>List.nodup_nil
 |a::r,h=>by
  simp only[mv,Ba]at h;refine List.nodup_cons.2 ⟨λhm=>?_,qg h.2⟩;have:=List.all_eq_true.1 h.1 a hm;simp at this
structure EOkW(l:List aN)(RS RR:List (List Nat))(ord:List Nat):Prop where
 len:ord.length=l.length
 Zq:RS.length=l.length
 lt:∀i∈ord,i<l.length
 nodup:ord.Nodup
 ahead:∀a e b,ord=a++e::b->∀x∈RS.getD e [],x∈a
 anc:∀j,j<l.length->∀i∈eS RR j,∃d∈RS.getD j [],d=i\/i∈eS RR d
 dsts:∀i j,i<l.length->j<l.length->i≠j->∀d,(bB l i).dst=some d->(bB l j).dst≠some d
 Zr:∀i j,i<l.length->j<l.length->i≠j->∀d,(bB l j).dst=some d->d∈(bB l i).kE->j∈eS RR i\/(dE l RR j=true/\i∈eS RR j)
def vS{l:List aN}{RS RR:List (List Nat)}{ord:List Nat}(h:Il l RS RR ord=true):EOkW l RS RR ord:=by
 simp only[Il,Ba,decide_eq_true_eq]at h;obtain⟨⟨h1,h2,h3⟩,h4,h5,h6,h7,h8⟩:=h;refine⟨h1,h2,λi hi=>by simpa using List.all_eq_true.1 h3 i hi,qg h4,λa e b he x hx=>by simpa using qx h5 he x hx,?_,?_,?_⟩
 .intro j hj i hi;have:=List.all_eq_true.1 (List.all_eq_true.1 h6 j (by simpa using hj)) i hi;simp only[List.any_eq_true,Bool.or_eq_true,beq_iff_eq,List.contains_iff_mem]at this;exact this
 .intro i j hi hj R6 d hd he;have:=List.all_eq_true.1 (List.all_eq_true.1 h7 i (by simpa using hi)) j (by simpa using hj);simp only[Bool.or_eq_true,beq_iff_eq,hd,he,Option.isNone_some,bne_self_eq_false,Bool.false_eq_true,or_false]at this;exact R6 this
 .intro i j hi hj R6 d hd hu;have:=List.all_eq_true.1 (List.all_eq_true.1 h8 i (by simpa using hi)) j (by simpa using hj);simp only[Bool.or_eq_true,beq_iff_eq,hd,Ba,Bool.not_eq_true',List.contains_iff_mem]at this;rcases this with h|h|h
  .exact absurd h R6
  .have hc:(bB l i).kE.contains d=true:=List.contains_iff_mem.2 hu;rw[hc]at h;cases h
  .exact h
structure EOk(l:List aN)(RS RR:List (List Nat))(ord:List Nat):Prop extends EOkW l RS RR ord where
 TM:∀a b x y,ord=a++b->x∈a->y∈b->dE l RR x=true->x∈eS RR y
def x9{l:List aN}{RS RR:List (List Nat)}{ord:List Nat}(h:eOk l RS RR ord=true):EOk l RS RR ord:=by
 simp only[eOk,Ba]at h;refine⟨vS h.1,λa b x y he hx hy YV=>?_⟩;have h9:=h.2;rw[he]at h9;have:=l6 h9 hx hy;simp only[YV,Bool.not_true,Bool.false_or,List.contains_iff_mem]at this;exact this
def EOkW.closed{l:List aN}{RS RR:List (List Nat)}{ord:List Nat}(h:EOkW l RS RR ord){L:List Nat}(hc:∀m∈L,∀d∈RS.getD m [],d∈L)(Yx:∀i,i<l.length->i∈ord):
 ∀(m:Nat) (a:List Nat) (j:Nat) (b:List Nat),a.length<m->ord=a++j::b->(∀d∈RS.getD j [],d∈L)->∀i∈eS RR j,i∈L:=by
 intro m
 induction m with
 |zero=>intro a j b ha;omega
 |succ m ih=>
  intro a j b ha he hd i hi;have hj:j<l.length:=h.lt j (by rw[he];simp);obtain⟨d,h1,h2⟩:=h.anc j hj i hi;rcases h2 with rfl|h2
  .exact hd d h1
  .have Th:=h.ahead a j b he d h1;obtain⟨a1,a2,rfl⟩:=List.append_of_mem Th;exact ih a1 d (a2++j::b) (by simp at ha;omega) (by rw[he];simp) (λd' h'=>hc d (hd d h1) d' h') i h2
def lR{i:aN}{s s':Nat->V}(h:∀u∈i.kE,s u=s' u):bu s i.g=bu s' i.g:=by
 cases hg:i.g with
 |none=>rfl
 |some g=>
  obtain⟨x,b⟩:=g;have:x.ev s=x.ev s':=by
   cases x with
   |t t=>exact h t (List.mem_filterMap.2 ⟨.t t,List.mem_append_right _ (by simp[hg]),rfl⟩)
   |c v=>rfl
  simp only[bu,this]
def Af{i:aN}{s s':Nat->V}(h:∀u∈i.kE,s u=s' u):∀x∈i.op.xs,x.ev s=x.ev s':=λx hx=>by
 cases x with
 |t t=>exact h t (B8 hx rfl)
 |c v=>rfl
def yg{i:aN}{s s':Nat->V}{U:ai}{v:V}(h:∀u∈i.kE,s u=s' u)(hq:QY P i s U v):QY P i s' U v:=by
 unfold QY at*;rw[<-lR h];exact hq.imp (λ⟨h1,h2⟩=>⟨h1,uy (Af h) h2⟩) id
def zO{i:aN}{x y:St}{K K':St->Prop}(h:∀u∈i.kE,x.s u=y.s u)(R3:x.U=y.U)(hk:∀r Z',K ⟨aX x.s i.dst r,Z'⟩->K' ⟨aX y.s i.dst r,Z'⟩)(ht:TC P i x K):TC P i y K':=by
 have hx:=Af h;rcases ht with ht|⟨hw,ht⟩
 .refine .inl ?_;unfold T at*;rw[<-lR h];split<;>rename_i ho<;>simp only[ho]at ht
  .unfold TO at*;split<;>rename_i Vi<;>simp only[Vi]at ht
   .obtain⟨g1,v,g2,g3⟩:=ht;obtain⟨e1,e2⟩:=rm (U:=y.U) hx;exact⟨e2.1 g1,v,by rw[<-e1,<-R3];exact g2,by rw[<-R3];exact hk _ _ g3⟩
   .split at ht
    .rename_i fx xs RH;obtain⟨f,caps,v,g1,g2,g3⟩:=ht;refine⟨f,caps,v,?_,?_,by rw[<-R3];exact hk _ _ g3⟩
     .rw[<-hx fx (by rw[RH];simp[RO.xs])];exact g1
     .rw[<-pR (s:=x.s) (s':=y.s) λz hz=>hx z (by rw[RH];simp[RO.xs,hz]),<-R3];exact g2
    .exact ht.elim
   .split at ht
    .rename_i sz xa xv RH;obtain⟨Z',g1,g2⟩:=ht;refine⟨Z',?_,hk _ _ g2⟩;rw[<-hx xa (by rw[RH];simp[RO.xs]),<-hx xv (by rw[RH];simp[RO.xs]),<-R3];exact g1
    .exact ht.elim
   .obtain⟨g,g1,g2⟩:=ht;refine⟨g,by rw[<-fw hx,<-R3];exact g1,λid M'=>hk _ _ (g2 id (by rw[R3];exact M'))⟩
  .rw[<-R3];exact hk _ _ ht
 .refine .inr ⟨by rw[<-lR h];exact hw,?_⟩;split at ht
  .rename_i fx xs RH;obtain⟨f,caps,Post,g1,g2,g3⟩:=ht;refine⟨f,caps,Post,?_,?_,λr Z' hp=>hk _ _ (g3 r Z' hp)⟩
   .rw[<-hx fx (by rw[RH];simp[RO.xs])];exact g1
   .rw[<-pR (s:=x.s) (s':=y.s) λz hz=>hx z (by rw[RH];simp[RO.xs,hz]),<-R3];exact g2
  .exact ht.elim
structure jE(P:Program)(l:List aN)(RS RR:List (List Nat))(ord:List Nat)(K:St->Prop)(L:List Nat)(y:St)(done rest:List Nat)(x:St):Prop where
 split:ord=done++rest
 sub:∀i∈L,i∈done
 nodup:L.Nodup
 closed:∀m∈L,∀d∈RS.getD m [],d∈L
 TM:∀i∈done,dE l RR i=true->i∈L
 store:y.U=x.U
 slot:∀d,(∀i∈done,i∉L->(bB l i).dst≠some d)->y.s d=x.s d
 lag:∀i∈done,i∉L->ZT P (bB l i) x
 go:RE P l K (eB l RR done rest) x
def gP{l:List aN}{RR:List (List Nat)}{e:Nat}(h:dE l RR e=false)(he:e<l.length)(R6:e∉eS RR e):bx (bB l e).op=0/\∀d,(bB l e).dst=some d->d∉(bB l e).kE:=by
 simp only[dE,Bool.or_eq_false_iff,bne_eq_false_iff_eq]at h;refine⟨h.1,λd hd hu=>?_⟩;have h2:=h.2;rw[hd]at h2;simp only[List.any_eq_false,List.mem_range,Ba,Bool.not_eq_true',not_and,Bool.not_eq_false]at h2;have:=h2 e he (List.contains_iff_mem.2 hu);exact R6 (List.contains_iff_mem.1 this)
def BW{l:List aN}{K:St->Prop}{e:Nat}{its:List Nat}{x:St}(he:e<l.length):RE P l K (2*e::its) x↔TC P (bB l e) x (RE P l K its):=by
 have h1:2*e/2=e:=by omega
 have h2:2*e%2=0:=by omega
 rw[RE,h1,List.getElem?_eq_getElem he];simp only[if_pos h2,bB,List.getElem?_eq_getElem he,Option.getD_some]
def Mf{l:List aN}{K:St->Prop}{e:Nat}{its:List Nat}{x:St}(he:e<l.length):RE P l K ((2*e+1)::its) x↔ZT P (bB l e) x/\RE P l K its x:=by
 have h1:(2*e+1)/2=e:=by omega
 have h2:¬(2*e+1)%2=0:=by omega
 rw[RE,h1,List.getElem?_eq_getElem he];simp only[if_neg h2,bB,List.getElem?_eq_getElem he,Option.getD_some]
def rQ{l:List aN}{K:St->Prop}{its:List Nat}{x:St}(p:Nat->Bool):∀{done:List Nat},(∀i∈done,i<l.length)->RE P l K ((done.filterMap λk=>if p k then some (2*k+1)else none)++its) x->
 (∀k∈done,p k=true->ZT P (bB l k) x)/\RE P l K its x
 |[],_,h=>⟨by simp,h⟩
 |a::r,hl,h=>by
  rw[List.filterMap_cons]at h;cases hp:p a with
  |false=>
   simp only[hp,Bool.false_eq_true,if_false]at h;obtain⟨h1,h2⟩:=rQ p (λi hi=>hl i (by simp[hi])) h;refine⟨λk hk hpk=>?_,h2⟩;rcases List.mem_cons.1 hk with rfl|hk
   .rw[hp]at hpk;cases hpk
   .exact h1 k hk hpk
  |true=>
   simp only[hp,if_true,List.cons_append]at h;rw[Mf (hl a (by simp))]at h;obtain⟨h1,h2⟩:=rQ p (λi hi=>hl i (by simp[hi])) h.2;refine⟨λk hk hpk=>?_,h2⟩;rcases List.mem_cons.1 hk with rfl|hk
   .exact h.1
   .exact h1 k hk hpk
section
variable {l:List aN} {RS RR:List (List Nat)} {ord:List Nat} {K:St->Prop} (hE:EOkW l RS RR ord)
include hE
def EOkW.mem(i:Nat)(hi:i<l.length):i∈ord:=(sU l.length ord hE.nodup hE.lt).2 hE.len i hi
def EOkW.mA{a:List Nat}{j:Nat}{b:List Nat}(he:ord=a++j::b):∀i∈eS RR j,i∈a:=by
 have hc:∀m∈a,∀d∈RS.getD m [],d∈a:=λm hm d hd=>by
  obtain⟨a1,a2,rfl⟩:=List.append_of_mem hm;have:=hE.ahead a1 m (a2++j::b) (by rw[he];simp) d hd;simp[this]
 exact hE.closed hc hE.mem (a.length+1) a j b (by omega) he (λd hd=>hE.ahead a j b he d hd)
def EOkW.mN{j:Nat}(hj:j<l.length):j∉eS RR j:=λh=>by
 obtain⟨a,b,he⟩:=List.append_of_mem (hE.mem j hj);have h1:=hE.mA he j h;have:=hE.nodup;rw[he]at this;have:=(List.nodup_append.1 this).2.2 j h1 j (by simp);exact this rfl
def rO{i:Nat}{x:St}{e:Nat}{v:V}{Z':ai}(hi:i<l.length)(he:e<l.length)(R6:i≠e)(hu:∀d,(bB l e).dst=some d->d∉(bB l i).kE)
 (hq:∀v,QY P (bB l i) x.s x.U v->QY P (bB l i) x.s Z' v)(h:ZT P (bB l i) x):ZT P (bB l i) ⟨aX x.s (bB l e).dst v,Z'⟩:=by
 unfold ZT at*;have hq':∀v',QY P (bB l i) x.s x.U v'->QY P (bB l i) (aX x.s (bB l e).dst v) Z' v':=λv' hv=>(fS hu).2 (hq v' hv);cases hd:(bB l i).dst with
 |none=>rw[hd]at h;obtain⟨v',h⟩:=h;exact⟨v',hq' v' h⟩
 |some d=>
  rw[hd]at h;simp only at h|-;have:aX x.s (bB l e).dst v d=x.s d:=by
   have:=hE.dsts i e hi he R6 d hd;cases Yy:(bB l e).dst with
   |none=>rfl
   |some d'=>
    rw[Yy]at this;simp only[aX];rw[if_neg (λe'=>this (by rw[e']))]
  rw[this];exact hq' _ h
def jE.adv{L:List Nat}{y:St}:∀{rest done:List Nat} {x:St},jE P l RS RR ord K L y done rest x->
 ∃done' XF x',jE P l RS RR ord K L y done' XF x'/\∀h r,XF=h::r->dE l RR h=true
 |[],done,x,h=>⟨done,[],x,h,by simp⟩
 |e::rest,done,x,h=>by
  cases UG:dE l RR e with
  |true=>exact⟨done,e::rest,x,h,λa r he=>by cases he;exact UG⟩
  |false=>
   have Vq:e<l.length:=hE.lt e (by rw[h.split];simp);obtain⟨hk,hself⟩:=gP UG Vq (hE.mN Vq);have Tm:=hE.nodup;rw[h.split]at Tm;have hed:e∉done:=λhm=>(List.nodup_append.1 Tm).2.2 e hm e (by simp) rfl;have Yz:e∉L:=λhm=>hed (h.sub e hm);have TG:=h.go;rw[eB,BW Vq,Dc,if_neg (by simp[UG]),List.nil_append]at TG;have hT:T P (bB l e) x (RE P l K (eB l RR (done++[e]) rest)):=by
    rcases TG with TG|⟨_,TG⟩
    .exact TG
    .exfalso;revert TG hk;generalize (bB l e).op=op;intro hk TG;split at TG
     .simp[bx]at hk
     .exact TG
   obtain⟨v,hv,YA⟩:=(cA (by simp[fA,hk])).1 hT;refine jE.adv (rest:=rest) (done:=done++[e]) (x:=⟨aX x.s (bB l e).dst v,x.U⟩) ⟨by rw[h.split];simp,λi hi=>by simp[h.sub i hi],h.nodup,h.closed,λi hi Um=>?_,h.store,λd hd=>?_,λi hi Vj=>?_,YA⟩
   .rcases List.mem_append.1 hi with hi|hi
    .exact h.TM i hi Um
    .simp only[List.mem_singleton]at hi;rw[hi,UG]at Um;cases Um
   .have h1:=h.slot d λi hi Vj=>hd i (by simp[hi]) Vj;have h2:=hd e (by simp) Yz;rw[h1];simp only;cases Yy:(bB l e).dst with
    |none=>rfl
    |some d'=>
     rw[Yy]at h2;simp only[aX];rw[if_neg (λe'=>h2 (by rw[e']))]
   .by_cases Um:i=e
    .subst Um;unfold ZT;cases hd:(bB l i).dst with
     |none=>exact⟨v,hv⟩
     |some d=>
      simp only;have e1:aX x.s (some d) v d=v:=by simp[aX]
      rw[e1];exact(fS (λt ht=>by cases ht;exact hself d hd)).2 hv
    .have M':i∈done:=by
      rcases List.mem_append.1 hi with hi|hi
      .exact hi
      .simp only[List.mem_singleton]at hi;exact absurd hi Um
     have Uw:i<l.length:=hE.lt i (by rw[h.split];simp[M']);refine rO hE Uw Vq Um (λd hd hu=>?_) (λv hv=>hv) (h.lag i M' Vj);rcases hE.Zr i e Uw Vq Um d hd hu with h1|⟨h1,_⟩
     .obtain⟨a,b,WA⟩:=List.append_of_mem M';have h2:=hE.mA (a:=a) (j:=i) (b:=b++e::rest) (by rw[h.split,WA];simp) e h1;exact hed (by rw[WA];simp[h2])
     .rw[UG]at h1;cases h1
end
section
variable {l:List aN} {RS RR:List (List Nat)} {ord:List Nat} {K:St->Prop} (hE:EOk l RS RR ord)
include hE
def ov:∀(f:Nat) (L:List Nat) (y:St) (done rest:List Nat) (x:St),f+L.length=l.length->jE P l RS RR ord K L y done rest x->ic P l RS K f L y:=by
 intro f
 induction f with
 |zero=>
  intro L y done rest x hf h;have SK:∀i,i<l.length->i∈L:=(sU l.length L h.nodup λi hi=>hE.lt i (by rw[h.split];simp[h.sub i hi])).2 (by omega);have Tm:=hE.nodup;rw[h.split]at Tm;have U':rest=[]:=by
   cases rest with
   |nil=>rfl
   |cons e r=>
    exfalso;have Vq:e<l.length:=hE.lt e (by rw[h.split];simp);exact(List.nodup_append.1 Tm).2.2 e (h.sub e (SK e Vq)) e (by simp) rfl
  subst U';have hyx:y=x:=by
   obtain⟨s,U⟩:=y;obtain⟨s',Z'⟩:=x;have h1:U=Z':=h.store;have h2:s=s':=funext λd=>h.slot d λi hi Vj=>absurd (SK i (hE.lt i (by rw[h.split];simp[hi]))) Vj;rw[h1,h2]
  refine⟨?_,by rw[hyx];exact h.go⟩;unfold dU;rw[List.filter_eq_nil_iff];intro i hi;simp only[List.mem_range,hE.Zq]at hi;simp[SK i hi]
 |succ f ih=>
  intro L y done rest x hf h;obtain⟨done,rest,x,h,YW⟩:=jE.adv hE.toEOkW h;have Tm:=hE.nodup;rw[h.split]at Tm;have hmemL:∀i∈L,i<l.length:=λi hi=>hE.lt i (by rw[h.split];simp[h.sub i hi]);have key:tv P l (ic P l RS K f) L y (dU RS L):=by
   refine oO λi hi=>?_;obtain⟨Uw,Vj,XG⟩:=ug hi;rw[hE.Zq]at Uw;refine⟨bB l i,by simp[bB,List.getElem?_eq_getElem Uw],?_⟩;obtain⟨pa,pb,hpe⟩:=List.append_of_mem (hE.mem i Uw);have US:∀j∈eS RR i,j∈L:=hE.closed h.closed hE.mem (pa.length+1) pa i pb (by omega) hpe XG;have XH:∀u∈(bB l i).kE,x.s u=y.s u:=λu hu=>(h.slot u λj hj VF hd=>by
    have V6:j<l.length:=hE.lt j (by rw[h.split];simp[hj]);by_cases Uv:j=i
    .subst Uv;cases Tt:dE l RR j with
     |true=>exact VF (h.TM j hj Tt)
     |false=>exact(gP Tt V6 (hE.mN V6)).2 u hd hu
    .rcases hE.Zr i j Uw V6 (λe=>Uv e.symm) u hd hu with h1|⟨h1,_⟩
     .exact VF (US j h1)
     .exact VF (h.TM j hj h1)).symm
   by_cases M':i∈done
   .have Um:dE l RR i=false:=by
     cases Um:dE l RR i with
     |false=>rfl
     |true=>exact absurd (h.TM i M' Um) Vj
    obtain⟨hk,_⟩:=gP Um Uw (hE.mN Uw);have hq:=h.lag i M' Vj;obtain⟨v,hv,hvd⟩:∃v,QY P (bB l i) x.s x.U v/\∀d,(bB l i).dst=some d->x.s d=v:=by
     unfold ZT at hq;cases hd:(bB l i).dst with
     |none=>rw[hd]at hq;obtain⟨v,hq⟩:=hq;exact⟨v,hq,by simp⟩
     |some d=>rw[hd]at hq;exact⟨_,hq,λd' e=>by cases e;rfl⟩
    refine .inl ((cA (by simp[fA,hk])).2 ⟨v,?_,?_⟩)
    .rw[h.store];exact yg XH hv
    .refine ih (i::L) _ done rest x (by simp only[List.length_cons];omega) ⟨h.split,λj hj=>?_,List.nodup_cons.2 ⟨Vj,h.nodup⟩,λm hm d hd=>?_,λj hj Tt=>by simp[h.TM j hj Tt],h.store,λd hd=>?_,λj hj VF=>h.lag j hj (λhm=>VF (by simp[hm])),h.go⟩
     .rcases List.mem_cons.1 hj with rfl|hj
      .exact M'
      .exact h.sub j hj
     .rcases List.mem_cons.1 hm with rfl|hm
      .simp[XG d hd]
      .simp[h.closed m hm d hd]
     .simp only;by_cases YB:(bB l i).dst=some d
      .rw[YB];simp only[aX];rw[if_pos trivial];exact(hvd d YB).symm
      .have h1:=h.slot d λj hj VF=>by
        by_cases Uv:j=i
        .rw[Uv];exact YB
        .exact hd j hj (by simp[Uv,VF])
       rw[<-h1];cases Yy:(bB l i).dst with
       |none=>rfl
       |some d'=>
        rw[Yy]at YB;simp only[aX];rw[if_neg (λe'=>YB (by rw[e']))]
   .have hir:i∈rest:=by
     have:=hE.mem i Uw;rw[h.split]at this;exact(List.mem_append.1 this).resolve_left M'
    obtain⟨VP,rr,rfl⟩:∃a r,rest=a::r:=by
     cases rest with
     |nil=>cases hir
     |cons a r=>exact⟨a,r,rfl⟩
    have UG:=YW VP rr rfl;have hh0:VP∉done:=λhm=>(List.nodup_append.1 Tm).2.2 VP hm VP (by simp) rfl;have hih:i=VP:=by
     rcases List.mem_cons.1 hir with e|hir
     .exact e
     .exfalso;have:=hE.TM (done++[VP]) rr VP i (by rw[h.split];simp) (by simp) hir UG;exact hh0 (h.sub _ (US _ this))
    subst hih;have TG:=h.go;rw[eB,BW Uw]at TG;refine zO XH h.store.symm (λr Z' hK=>?_) TG;rw[Dc,if_pos UG]at hK;obtain⟨hck,YA⟩:=rQ (λk=>!(dE l RR k)&&(!(kf (bB l k).op)&&!((eS RR i).contains k))) (λj hj=>hE.lt j (by rw[h.split];simp[hj])) hK;refine ih (i::L) _ (done++[i]) rr ⟨aX x.s (bB l i).dst r,Z'⟩ (by simp only[List.length_cons];omega) ⟨by rw[h.split];simp,λj hj=>?_,List.nodup_cons.2 ⟨Vj,h.nodup⟩,λm hm d hd=>?_,λj hj Tt=>?_,rfl,λd hd=>?_,λj hj VF=>?_,YA⟩
    .rcases List.mem_cons.1 hj with rfl|hj
     .simp
     .simp[h.sub j hj]
    .rcases List.mem_cons.1 hm with rfl|hm
     .simp[XG d hd]
     .simp[h.closed m hm d hd]
    .rcases List.mem_append.1 hj with hj|hj
     .simp[h.TM j hj Tt]
     .simp only[List.mem_singleton]at hj;simp[hj]
    .have h1:(bB l i).dst=some d\/y.s d=x.s d:=by
      by_cases YB:(bB l i).dst=some d
      .exact .inl YB
      .exact .inr (h.slot d λj hj VF=>hd j (by simp[hj]) (by
        simp only[List.mem_cons,not_or];exact⟨λe=>M' (e▸hj),VF⟩))
     simp only;cases Yy:(bB l i).dst with
     |none=>rw[Yy]at h1;exact h1.resolve_left (by simp)
     |some d'=>
      simp only[aX];split
      .rfl
      .rename_i R6;rw[Yy]at h1;exact h1.resolve_left (λe=>R6 (by cases e;rfl))
    .have Zs:j∈done:=by
      rcases List.mem_append.1 hj with hj|hj
      .exact hj
      .simp only[List.mem_singleton]at hj;exact absurd (by simp[hj]) VF
     have W7:j∉L:=λhm=>VF (by simp[hm]);have V6:j<l.length:=hE.lt j (by rw[h.split];simp[Zs]);have Uv:j≠i:=λe=>M' (e▸Zs);have Tt:dE l RR j=false:=by
      cases Tt:dE l RR j with
      |false=>rfl
      |true=>exact absurd (h.TM j Zs Tt) W7
     cases hsf:kf (bB l j).op with
     |true=>
      refine rO hE.toEOkW V6 Uw Uv (λd hd hu=>?_) (λv hv=>jC hsf hv) (h.lag j Zs W7);rcases hE.Zr j i V6 Uw Uv d hd hu with h1|⟨_,h1⟩
      .obtain⟨a,b,WA⟩:=List.append_of_mem Zs;have h2:=hE.mA (a:=a) (j:=j) (b:=b++i::rr) (by rw[h.split,WA];simp) i h1;exact M' (by rw[WA];simp[h2])
      .exact W7 (US j h1)
     |false=>
      refine hck j Zs ?_;simp only[Tt,hsf,Bool.not_false,Bool.true_and,Bool.not_eq_true'];cases hc:(eS RR i).contains j with
      |false=>rfl
      |true=>exact absurd (US j (List.contains_iff_mem.1 hc)) W7
  cases hr:dU RS L with
  |cons a r=>unfold ic;rw[hr]at key|-;exact key
  |nil=>
   exfalso;have:∃i,i∈ord/\i∉L:=by
    by_cases hx:∃i,i∈ord/\i∉L
    .exact hx
    .exfalso;have G':∀i∈ord,i∈L:=λi hi=>Classical.byContradiction λhn=>hx ⟨i,hi,hn⟩;have h1:=hE.nodup.length_le_of_subset G';have:=hE.len;omega
   obtain⟨i,hi,Vj⟩:=this;have first:∀(a b:List Nat),ord=a++b->(∀j∈a,j∈L)->(∃i∈b,i∉L)->∃a' e b',ord=a'++e::b'/\(∀j∈a',j∈L)/\e∉L:=by
    intro a b
    induction b generalizing a with
    |nil=>rintro _ _ ⟨i,h,_⟩;cases h
    |cons e b ihb=>
     intro he ha hx;by_cases Yz:e∈L
     .refine ihb (a++[e]) (by rw[he];simp) (λj hj=>?_) ?_
      .rcases List.mem_append.1 hj with hj|hj
       .exact ha j hj
       .simp only[List.mem_singleton]at hj;rw[hj];exact Yz
      .obtain⟨i,hi,Vj⟩:=hx;rcases List.mem_cons.1 hi with rfl|hi
       .exact absurd Yz Vj
       .exact⟨i,hi,Vj⟩
     .exact⟨a,e,b,he,ha,Yz⟩
   obtain⟨a,e,b,he,ha,Yz⟩:=first [] ord rfl (by simp) ⟨i,hi,Vj⟩
   have Vq:e<l.length:=hE.lt e (by rw[he];simp);have:e∈dU RS L:=by
    unfold dU;refine List.mem_filter.2 ⟨by simp[hE.Zq,Vq],?_⟩;simp only[Ba,Bool.not_eq_true',List.all_eq_true];refine⟨by simpa using Yz,λd hd=>?_⟩;simpa using ha d (hE.ahead a e b he d hd)
   rw[hr]at this;cases this
end
def ad.rA(hm:P.follows .mixedOrders=true){l:List aN}{RS:List (List Nat)}(ord:List Nat)(RR:List (List Nat))(its:List Nat)(hB:eOk l RS RR ord=true)(hi:eB l RR [] ord=its)
 (h:RE P l (λx=>ad P n k x Q) its st):ad P n (.code (.SO l RS)::k) st Q:=by
 have hE:=x9 hB;refine ad.I2 hm (ov hE l.length [] st [] ord st (by simp) ⟨rfl,by simp,List.nodup_nil,by simp,by simp,rfl,λ_ _=>rfl,by simp,by rw[hi];exact h⟩)
def RE.SC{l:List aN}{K:St->Prop}(rest:List Nat):∀(idx:List Nat) (sg:List aN) {x:St},(idx.map λm=>l[m/2]?)=sg.map some->(idx.all λm=>m%2==0)=true->
 Go P n (.d sg [.stop (RE P l K rest)]) x (λ_=>False)->RE P l K (idx++rest) x
 |[],[],_,_,_,h=>h
 |[],_::_,_,h,_,_=>by simp at h
 |_::_,[],_,h,_,_=>by simp at h
 |m::idx,i::sg,x,h,hev,hg=>by
  simp only[List.map_cons,List.cons.injEq]at h;simp only[List.all_cons,Ba,beq_iff_eq]at hev;show RE P l K (m::(idx++rest)) x;rw[RE,h.1];simp only[if_pos hev.1];exact .inl (T.mono (λx' R9=>RE.SC rest idx sg h.2 (by simpa using hev.2) R9) hg)
def RE.call{l:List aN}{K:St->Prop}{m:Nat}{rest:List Nat}{x:St}{i:aN}(hi:l[m/2]?=some i)(hm:m%2=0){fx:VX}{xs:List VX}(hw:bu x.s i.g=some true)(ho:i.op=.call fx xs){f:FuncId}{caps:List V}(hf:fx.ev x.s=.fn f caps)
 {Post:V->ai->Prop}(hc:aD P f (xs.map (·.ev x.s)++caps) x.U Post)(h:∀r Z',Post r Z'->RE P l K rest ⟨aX x.s i.dst r,Z'⟩):RE P l K (m::rest) x:=by
 rw[RE,hi];simp only[if_pos hm];exact .inr ⟨hw,by rw[ho];exact⟨f,caps,Post,hf,hc,h⟩⟩
def RE.aB{l:List aN}{K:St->Prop}{m:Nat}{rest:List Nat}{x:St}{i:aN}(hi:l[m/2]?=some i)(hm:m%2=0){fx:VX}{xs:List VX}(hw:bu x.s i.g=some true)(ho:i.op=.call fx xs){f:FuncId}{caps:List V}(hf:fx.ev x.s=.fn f caps)
 {v:V}(hc:aD P f (xs.map (·.ev x.s)++caps) x.U λr Z'=>r=v/\Z'=x.U)(h:RE P l K rest ⟨aX x.s i.dst v,x.U⟩):RE P l K (m::rest) x:=
 RE.call hi hm hw ho hf hc λr Z' ⟨h1,h2⟩=>by subst h1;subst h2;exact h
def RE.SX{l:List aN}{K:St->Prop}{m:Nat}{rest:List Nat}{x:St}{i:aN}(hi:l[m/2]?=some i)(hm:m%2=1){d:Nat}(hd:i.dst=some d)(hw:bu x.s i.g=some true)(hk:bx i.op=0)(hp:fg x.s i.op)
 (hv:aL x.U x.s i.op=some (x.s d))(h:RE P l K rest x):RE P l K (m::rest) x:=by
 rw[RE,hi];simp only[hm,Nat.one_ne_zero,if_false];refine⟨?_,h⟩;unfold ZT;rw[hd];refine .inl ⟨hw,?_⟩;unfold QO;simp only[hk];exact⟨hp,hv⟩
variable {P:Program} {n:Nat} {st:St} {Q:St->Prop} {k:List It}
def ad.Ro{k1 k2:List It}(τ:St->Prop)(h1:ad P n (k1++[.stop τ]) st Q)(h2:∀st,τ st->ad P n k2 st Q):ad P n (k1++k2) st Q:=by
 intro F hn kt hk a w hs;obtain⟨kt1,kt2,rfl,T',UK⟩:=List.map_eq_append_iff.1 hk;have key:∀(kt:List KI) e a w,kM P F Q (kt++[.stop τ]) e a w->kM P F Q (kt++kt2) e a w:=by
  intro kt
  induction kt with
  |nil=>
   intro e a w h;simp only[List.nil_append]at h|-;cases e with
   |normal=>obtain⟨st,h3,h4⟩:=h;exact h2 st h3 F hn kt2 UK a w h4
   |ret=>obtain⟨_,h3⟩:=h;exact kR h3 kt2
   |_=>obtain⟨h3,_⟩:=h;rcases h3 with h3|h3<;>cases h3
  |cons y kt ih=>
   intro e a w h;cases y with
   |code c=>cases e<;>first|exact wpIn_mono h ih|exact ih _ _ _ h
   |inBlock id=>
    cases e<;>simp only[List.cons_append,kM,Exit.inBlock]at h|-<;>(try split at h)<;>(try split)<;>first|exact ih _ _ _ h|contradiction
   |stop μ=>cases e<;>first|exact h|exact ih _ _ _ h
   |ops all l=>cases e<;>first|exact lP ih l a w h|exact ih _ _ _ h
 exact key kt1 _ a w (h1 F hn (kt1++[.stop τ]) (by simp[KI.it,T']) a w hs)
def ad.fi{x:bJ}{id:Nat}(τ:St->Prop)(μ:Nat->St->Prop)(m:Nat)(h0:μ m st)
 (hr:∀m st,μ m st->ad P n (.code x::.stop (λUg=>∃m',m'<m/\μ m' Ug)::[.inBlock id,.stop τ]) st Q)(h2:∀st,τ st->ad P n k st Q):
 ad P n (.code (.loop x)::.inBlock id::k) st Q:=
 ad.Ro (P:=P) (n:=n) (Q:=Q) (st:=st) (k1:=[.code (.loop x),.inBlock id]) (k2:=k) τ (ad.loop μ m h0 hr) h2
open Go.Proofs Go.Proofs.Tryz
def HC{f:P'}{s:Sz}(hf:f.ok)(h:Ty s.a/\Ty s.b):Ty (jR f s).a/\Ty (jR f s).b:=by
 obtain⟨⟨x1,x2⟩,_,⟨w1,w2⟩,_⟩:=hf;obtain⟨⟨a1,a2⟩,b1,b2⟩:=h;unfold jR;split
 .exact⟨⟨by simp only;omega,by simp only;omega⟩,b1,b2⟩
 .exact⟨⟨a1,a2⟩,by simp only;omega,by simp only;omega⟩
def xX:∀{l:List P'} {s:Sz},(∀f∈l,f.ok)->Ty s.a/\Ty s.b->Ty (l.foldl (λs f=>jR f s) s).a/\Ty (l.foldl (λs f=>jR f s) s).b
 |[],_,_,h=>h
 |f::l,s,hl,h=>xX (l:=l) (λg hg=>hl g (by simp[hg])) (HC (hl f (by simp)) h)
def lZ{l:List P'}{y high:Int}{s:Sz}(hl:∀f∈l,f.ok)(h:Ty s.a/\Ty s.b):Ty (dX l y high s).a/\Ty (dX l y high s).b:=
 xX (λf hf=>hl f (List.mem_filter.1 hf).1) h
def sy{s:Sz}:∀{l:List P'},(∀f∈l,jR f s=s)->l.foldl (λs f=>jR f s) s=s
 |[],_=>rfl
 |f::l,h=>by rw[List.foldl_cons,h f (by simp)];exact sy λg hg=>h g (by simp[hg])
def nA(s:Sz):∀(l:List P') (a:Int×Bool),(l.foldl (jL s) a=a\/∃f∈l,l.foldl (jL s) a=(f.y+f.h,true))/\(a.2=true->(l.foldl (jL s) a).2=true)/\((∃f∈l,jR f s≠s)->(l.foldl (jL s) a).2=true)
 |[],a=>⟨.inl rfl,id,by simp⟩
 |f::l,a=>by
  obtain⟨h1,h2,h3⟩:=nA s l (jL s a f);have hf:jL s a f=a\/jL s a f=(f.y+f.h,true):=by unfold jL;split<;>simp
  refine⟨?_,λha=>h2 ?_,?_⟩
  .rw[List.foldl_cons];rcases h1 with h1|⟨g,hg,h1⟩
   .rw[h1];rcases hf with hf|hf
    .exact .inl hf
    .exact .inr ⟨f,by simp,hf⟩
   .exact .inr ⟨g,by simp[hg],h1⟩
  .rcases hf with hf|hf<;>rw[hf]
   exact ha
  .rintro⟨g,hg,R6⟩;rcases List.mem_cons.1 hg with rfl|hg
   .refine h2 ?_;unfold jL;split
    .rename_i h;exact(h.resolve_left R6).1
    .rfl
   .exact h3 ⟨g,hg,R6⟩
def D6{y high:Int}{f:P'}(h:iE y high f=true):y<f.y+f.h:=by
 refine Classical.byContradiction λhn=>?_;have:nH ⟨f.y,f.y+f.h⟩ ⟨y,y+max high 1⟩=⟨0,0⟩:=by
  unfold nH;rw[if_pos];simp only;omega
 simp[iE,this]at h
def ir{l:List P'}{y high:Int}{s:Sz}(h:(gy l y high s).2=true):∃f∈l,y<f.y+f.h/\(gy l y high s).1=f.y+f.h:=by
 rcases(nA s (l.filter (iE y high)) (0,false)).1 with h1|⟨f,hf,h1⟩
 .unfold gy at h;rw[h1]at h;cases h
 .obtain⟨hl,hm⟩:=List.mem_filter.1 hf;exact⟨f,hl,D6 hm,by unfold gy;rw[h1]⟩
def nU{l:List P'}{y high:Int}{s:Sz}(h:dX l y high s≠s):(gy l y high s).2=true:=by
 refine(nA s (l.filter (iE y high)) (0,false)).2.2 (Classical.byContradiction λhn=>h (sy λf hf=>Classical.byContradiction λhe=>hn ⟨f,hf,he⟩))
def gtJ(l:List P')(y:Int):Nat:=(l.filter λf=>decide (y<f.y+f.h)).length
def filter_lt{α:Type}{p q:α->Bool}(hpq:∀x,q x=true->p x=true):∀{l:List α},(l.filter q).length<=(l.filter p).length/\((∃x∈l,p x=true/\q x=false)->(l.filter q).length<(l.filter p).length)
 |[]=>by simp
 |a::l=>by
  obtain⟨h1,h2⟩:=filter_lt hpq (l:=l);cases hp:p a<;>cases hq:q a
  .simp only[List.filter_cons,hp,hq,Bool.false_eq_true,if_false];refine⟨h1,?_⟩;rintro⟨x,hx,h3,h4⟩;rcases List.mem_cons.1 hx with rfl|hx
   .rw[hp]at h3;cases h3
   .exact h2 ⟨x,hx,h3,h4⟩
  .rw[hpq a hq]at hp;cases hp
  .simp only[List.filter_cons,hp,hq,Bool.false_eq_true,if_false,if_true,List.length_cons];exact⟨by omega,λ_=>by omega⟩
  .simp only[List.filter_cons,hp,hq,if_true,List.length_cons];refine⟨by omega,?_⟩;rintro⟨x,hx,h3,h4⟩;rcases List.mem_cons.1 hx with rfl|hx
   .rw[hq]at h4;cases h4
   .have:=h2 ⟨x,hx,h3,h4⟩;omega
def wZ{l:List P'}{y z:Int}(h:∃f∈l,y<f.y+f.h/\z=f.y+f.h):gtJ l z<gtJ l y:=by
 obtain⟨f,hf,h1,rfl⟩:=h;exact(filter_lt (p:=λg:P'=>decide (y<g.y+g.h)) (q:=λg:P'=>decide (f.y+f.h<g.y+g.h)) (λg hg=>by simp at hg|-;omega) (l:=l)).2 ⟨f,hf,by simpa using h1,by simp⟩
def wm(l:List P')(w high:Int)(s:Sz)(y:Int):Bool:=decide (w<=jt (dX l y high s))||decide (dX l y high s=s)
def pc(l:List P')(w high:Int)(s:Sz):Nat->Int->Int
 |0,y=>y
 |k+1,y=>if wm l w high s y then y else pc l w high s k (gy l y high s).1
def kS(l:List P')(w high:Int)(s:Sz)(y:Int):Int:=pc l w high s l.length y
def Fy{l:List P'}{y high:Int}{s:Sz}(hl:∀f∈l,f.ok)(h:(gy l y high s).2=true):Ty (gy l y high s).1:=by
 obtain⟨f,hf,_,e⟩:=ir h;obtain⟨_,⟨a1,a2⟩,_,b1,b2⟩:=hl f hf;rw[e];exact⟨by omega,by omega⟩
def rb(l:List P')(high y:Int)(s:Sz):V:=.agg [vI s.a,vI s.b,aH l,vI high,vI y]
def B7(l:List P')(high y:Int)(s:Sz)(hl:l.length<=1000000)(RC:∀f∈l,f.ok)(hy:Ty y)(hh:Bq high):aV prog 269 [rb l high y s] (aZ (dX l y high s)):=λU=>by
 refine Rl.r (by simp[L5]) ?_;have hs:=aa.refl U;refine ad.mix 3 ?_;have e1:(aH l).cells=[aH l]:=rfl;have e2:(aH l).stays=true:=rfl;apply sR;simp only[go_sem,seval,L5,rb,e1,e2];refine af λi1 Z1 s1 a1 f1=>?_;have z1:=hs.none f1;replace hs:=hs.trans s1;simp only[go_sem,seval,a1,e1,e2];refine af λi2 Z2 s2 a2 f2=>?_;have n12:=aq a1 f2;replace a1:=s2 _ _ a1;have z2:=hs.none f2;replace hs:=hs.trans s2;simp only[go_sem,seval,a2,a1];refine ad.aB rfl rfl rfl (CE l y high s hl RC hy hh _) ?_;apply sR;simp only[go_sem,seval,a2,aZ];exact ay.pure (hs.aE z2) rfl
def HO(l:List P')(w high y:Int)(s:Sz)(hl:l.length<=1000000)(RC:∀f∈l,f.ok)(hy:Ty y)(hh:Bq high)(TI:Ty s.a/\Ty s.b):aV prog 267 [rb l high y s,vI w] (.bool (wm l w high s y)):=λU=>by
 refine QT.r (by simp[MF]) ?_;have hs:=aa.refl U;refine ad.mix 5 ?_;have hb:=B7 l high y s hl RC hy hh;have hlen:=EK (dX l y high s) (lZ RC TI).1 (lZ RC TI).2;unfold wm;generalize dX l y high s=b at*;have e1:(aH l).cells=[aH l]:=rfl;have e2:(aH l).stays=true:=rfl;apply sR;simp only[go_sem,seval,MF,rb,e1,e2];refine af λi2 Z2 s2 a2 f2=>?_;have z2:=hs.none f2;replace hs:=hs.trans s2;simp only[go_sem,seval,a2,e1,e2];refine Go.bO rfl rfl rfl hb ?_;apply sG;simp only[go_sem,seval];refine Go.bO rfl rfl rfl hlen ?_;by_cases h1:w<=jt b
 .have q:(w<=jt b)=True:=eq_true h1;apply sG;simp only[go_sem,seval,q,a2];exact ay.pure hs (by simp[h1])
 .have q:(w<=jt b)=False:=eq_false h1;apply sG;simp only[go_sem,seval,q,a2];refine Go.bO rfl rfl rfl hb ?_;obtain⟨b1,b2⟩:=b;obtain⟨s1,s2⟩:=s;apply sG;simp only[go_sem,seval,a2,aZ];refine ay.pure hs ?_;by_cases h2:b1=s1<;>by_cases h3:b2=s2<;>simp[h1,h2,h3]
def Fj(l:List P')(w high y:Int)(s:Sz)(hl:l.length<=1000000)(RC:∀f∈l,f.ok)(hy:Ty y)(hh:Bq high)(TI:Ty s.a/\Ty s.b):
 aV prog 222 [aH l,vI w,vI high,vI y,aZ s] (.RB [aZ (dX l (kS l w high s y) high s),vI (kS l w high s y)]):=λU=>by
 refine P9.r (by simp[Ke]) ?_;have hs:=aa.refl U;refine ad.mix 13 ?_;have e1:(aH l).cells=[aH l]:=rfl;have e2:(aH l).stays=true:=rfl;apply sR;simp only[go_sem,seval,Ke,aZ];refine af λi9 Z9 s9 a9 f9=>?_;have z9:=hs.none f9;replace hs:=hs.trans s9;simp only[go_sem,seval,a9];refine af λSb WO TV Sg f10=>?_;have n910:=aq a9 f10;replace a9:=TV _ _ a9;have Vr:=hs.none f10;replace hs:=hs.trans TV;simp only[go_sem,seval,Sg,a9,e1,e2];refine af λTi Z12 Xg a12 f12=>?_;have n912:=aq a9 f12;replace a9:=Xg _ _ a9;have YX:=aq Sg f12;replace Sg:=Xg _ _ Sg;have z12:=hs.none f12;replace hs:=hs.trans Xg;simp only[go_sem,seval,a12,Sg,a9,e1,e2];generalize hq12:C' _ Ti _=Y12;replace a12:=(congrFun hq12 Ti).symm.trans ag;replace a9:=((congrFun hq12 i9).symm.trans (ab n912)).trans a9;replace Sg:=((congrFun hq12 Sb).symm.trans (ab YX)).trans Sg;replace hs:=Eq.subst (motive:=aa _) hq12 (hs.aE z12);clear hq12;obtain⟨z,hz⟩:∃z,z=kS l w high s y:=⟨_,rfl⟩
 rw[<-hz];refine ad.fi (λst=>∃J,st.U=J/\aa U J/\J Ti=some ⟨344,5,[rb l high z s]⟩/\J Sb=some ⟨288,2,[.agg [vI 0,vI 0]]⟩/\st.s 10=.ptr Sb 0 0/\st.s 12=.ptr Ti 0 0/\Ty z)
  (λm st=>∃(y':Int) (k:Nat),m=gtJ l y'/\gtJ l y'<=k/\z=pc l w high s k y'/\Ty y'/\aa U st.U/\st.U Ti=some ⟨344,5,[rb l high y' s]⟩/\st.U Sb=some ⟨288,2,[.agg [vI 0,vI 0]]⟩/\st.s 1=vI w/\st.s 10=.ptr Sb 0 0/\st.s 12=.ptr Ti 0 0) (gtJ l y) ?_ ?_ ?_
 .exact⟨y,l.length,rfl,List.length_filter_le _ _,hz,hy,hs,a12,Sg,rfl,rfl,rfl⟩
 .rintro m ⟨S,J⟩ ⟨y',k,rfl,hk,hzk,hy',hs,XI,Yc,k1,Xh,Uf⟩;simp only at hs XI Yc k1 Xh Uf;refine ad.mix 13 ?_;rw[rb]at XI;apply sR;simp only[go_sem,seval,k1,Xh,Uf,XI,e1,e2];refine ad.aB rfl rfl rfl (HO l w high y' s hl RC hy' hh TI _) ?_;cases hf:wm l w high s y'
  .have R6:dX l y' high s≠s:=λe=>by simp[wm,e]at hf
   have hfd:=nU R6;have hdec:=wZ (ir hfd);apply sR;simp only[go_sem,seval,k1,Xh,Uf,XI,e1,e2];refine ad.aB rfl rfl rfl (EI l y' high s hl RC hy' hh _) ?_;apply sR;simp only[go_sem,seval,k1,Xh,Uf,XI,e1,e2];obtain⟨k',rfl⟩:∃k',k=k'+1:=⟨k-1,by omega⟩
   rw[pc,hf]at hzk;have n:Ti≠Sb:=YX.symm;refine⟨_,hdec,_,k',rfl,by omega,by simpa using hzk,Fy RC hfd,hs.aE z12,rfl,?_⟩;rw[ab YX];exact Yc
  .have hzy:z=y':=by cases k<;>simp[pc,hf]at hzk<;>exact hzk
   subst hzy;apply sR;simp only[go_sem,seval,k1,Xh,Uf,XI,e1,e2];exact⟨J,rfl,hs,XI,Yc,hy'⟩
 .rintro⟨S,J⟩ ⟨X',rfl,hs,XI,Yc,Xh,Uf,hz2⟩;simp only at hs XI Yc Xh Uf;rw[rb]at XI;refine ad.mix 13 ?_;apply sR;simp only[go_sem,seval,Xh,Uf];refine ad.rA (by kernel_rfl) [0,2,3,1,4,5] [[],[0],[],[2],[0,1],[0,1,2,3,4]] [0,4,6,2,7,8,7,10] (by kernel_rfl) (by kernel_rfl) ?_;refine RE.SC (n:=0) [2,7,8,7,10] [0,4,6] [⟨(.some 35),(.load .true 5 (.t 12)),.none⟩,⟨(.some 37),(.RU .false 4 1 (.t 12)),.none⟩,⟨(.some 38),(.load .false 1 (.t 37)),.none⟩] rfl rfl ?_;apply sG;simp only[go_sem,seval,Xh,Uf,XI,e1,e2];refine RE.aB rfl rfl rfl rfl rfl (B7 l high z s hl RC hz2 hh _) ?_;refine RE.SX rfl rfl rfl rfl rfl trivial (by simp only[go_sem,seval,Xh,Uf,XI,Yc,e1,e2]) ?_;refine RE.SC (n:=0) [7,10] [8] [⟨.none,(.store 2 (.t 10) (.t 36)),.none⟩] rfl rfl ?_;apply sG;simp only[go_sem,seval,Xh,Uf,XI,Yc,aZ,e1,e2];refine RE.SX rfl rfl rfl rfl rfl trivial (by simp only[go_sem,seval,Xh,Uf,XI,Yc,ab YX.symm,e1,e2]) ?_;refine RE.SC (n:=0) [] [10] [⟨(.some 11),(.RJ (.t 38)),.none⟩] rfl rfl ?_;apply sG;simp only[go_sem,seval,Xh,Uf,XI,Yc,aZ,e1,e2];apply sR;simp only[go_sem,seval,Xh,Uf,ag,aZ];exact ay.pure (hs.aE Vr) rfl
open Go.Proofs Go.Proofs.Tryz
def mB(e sz b:Nat):Ry:=⟨8,.seq (.Sd false [⟨some 2,.RJ (.c .aC),none⟩]) (.seq (.seq (.Sd false [⟨some 3,.RJ (.t 0),none⟩,⟨some 4,.Ts false (.t 3) (.c (.iface 0 .undef)),none⟩]) (.cond (.t 4) (.seq (.Sd false [⟨some 2,.RJ (.c .aC),none⟩]) .ret) .skip)) (.seq (.Sd false [⟨some 5,.bp e sz [],none⟩,⟨some 6,.RJ (.t 0),none⟩,⟨some 7,.append e sz b (.t 5) (.t 6),none⟩,⟨some 2,.RJ (.t 7),none⟩]) .ret)),[.tmp (.t 2)]⟩
def oe{P:Program}{f:FuncId}{fn:Func}(hf:P.funcs[f]?=some fn){e sz b:Nat}(hc:cfn P fn=some (mB e sz b))(hk:eG P f=true)(rows:List V)(hb:rows.length*(b+1)<=140737488355328)(U:ai):
 aD P f [.sl sz rows] U λr Z'=>aa U Z'/\aT U Z' e sz r rows:=by
 refine aD.kc hf hc hk (by simp[mB]) ?_;refine ad.mix 3 ?_
 (refine ad.bN TJ.nothing 8 ?_;simp only[go_sem,seval,nI,mB])
 refine ad.C9 rfl rfl rfl λt ht=>?_;cases t
 .apply sR;simp only[go_sem,seval];refine af λU4 Z1 s1 a1 f1=>?_;obtain⟨RN,hd,SQ⟩:=(aT.new (K:=U) (e:=e) (sz:=sz) (n:=0) (rows:=[]) rfl a1 f1).dst (aa.refl _);have Yq:∀U,bR U sz (.sl sz rows)=some rows:=λU=>by simp[bR]
  simp only[go_sem,seval,hd,Yq,hb];refine ga λWC Z2 s2 a2 f2=>?_;have Uh:=(SQ U (aa.refl _) Z1 s1).trans s2;simp only[go_sem,seval];exact⟨_,_,aa.refl _,Wk.refl (aa.refl _) _,Uh,aT.new (by simp) a2 (s1.none f2)⟩
 .apply sR;simp only[go_sem,seval];obtain rfl:rows=[]:=ht rfl;exact⟨_,_,aa.refl _,Wk.refl (aa.refl _) _,aa.refl _,aT.start⟩
def Ac{P:Program}{f:FuncId}{fn:Func}(hf:P.funcs[f]?=some fn){e sz b:Nat}(hc:cfn P fn=some (mB e sz b))(hk:eG P f=true)(rows:List V)(hb:rows.length*(b+1)<=140737488355328):
 aV P f [.sl sz rows] (.sl sz rows):=λU=>(oe hf hc hk rows hb U).GX λ_ _ h=>h.2.Et h.1 rfl
def au(l:List P'):(aH l).cells=[aH l]:=rfl
def ar(l:List P'):(aH l).stays=true:=rfl
def kZ{tell:P'->Int×Bool}{l:List P'}(h:(ee tell l).2=true):∃f∈l,(ee tell l).1=(tell f).1/\(tell f).2=true:=by
 have key:∀(l:List P') (a:Int×Bool),l.foldl (uj tell) a=a\/∃f∈l,l.foldl (uj tell) a=((tell f).1,true)/\(tell f).2=true:=by
  intro l
  induction l with
  |nil=>intro a;exact .inl rfl
  |cons g l ih=>
   intro a;rw[List.foldl_cons];rcases ih (uj tell a g)with h|⟨f,hf,h,h'⟩
   .rw[h];unfold uj;split
    .rename_i hc;exact .inr ⟨g,by simp,rfl,hc.1⟩
    .exact .inl rfl
   .exact .inr ⟨f,by simp[hf],h,h'⟩
 rcases key l (0,false)with h1|⟨f,hf,h1,h2⟩
 .unfold ee at h;rw[h1]at h;cases h
 .exact⟨f,hf,by unfold ee;rw[h1],h2⟩
def nm(l:List P')(w high:Int)(s:Sz)(y:Int):Bool:=!(gy l y high s).2||decide (jt (dX l y high s)>=w)
def kP(l:List P')(w high:Int)(s:Sz):Nat->Int->Int
 |0,y=>y
 |k+1,y=>if nm l w high s y then y else kP l w high s k (gy l y high s).1
def oG(l:List P')(w high:Int)(s:Sz)(y:Int):Int:=kP l w high s l.length y
def yT(f:P')(l:List P')(s:Sz):V:=.agg [vI f.node,vI f.side,vI f.anchor,vI f.x,vI f.y,vI f.w,vI f.h,aH l,vI s.a,vI s.b]
def Ig(l:List P')(f:P')(y:Int)(s:Sz)(hl:l.length<=1000000)(RC:∀f∈l,f.ok)(hy:Ty y)(hh:Bq f.h)(TI:Ty s.a/\Ty s.b):
 aV prog 309 [yT f l s,vI y] (.RB [aZ (dX l (oG l f.w f.h s y) f.h s),vI (oG l f.w f.h s y)]):=λU=>by
 refine Ps.r (by simp[Kf]) ?_;have hs:=aa.refl U;refine ad.mix 9 ?_;apply sR;simp only[go_sem,seval,Kf,yT,au,ar];refine af λi2 Z2 s2 a2 f2=>?_;have z2:=hs.none f2;replace hs:=hs.trans s2;simp only[go_sem,seval,a2,au,ar];refine af λi4 Z4 s4 a4 f4=>?_;have Yv:=aq a2 f4;replace a2:=s4 _ _ a2;have z4:=hs.none f4;replace hs:=hs.trans s4;simp only[go_sem,seval,a4,a2];obtain⟨z,hz⟩:∃z,z=oG l f.w f.h s y:=⟨_,rfl⟩
 rw[<-hz];refine ad.loop (λm st=>∃(y':Int) (k:Nat),m=gtJ l y'/\gtJ l y'<=k/\z=kP l f.w f.h s k y'/\Ty y'/\aa U st.U/\st.U i2=some ⟨388,10,[yT f l s]⟩/\st.U i4=some ⟨288,2,[.agg [vI 0,vI 0]]⟩/\st.s 1=vI y'/\st.s 2=.ptr i2 0 0/\st.s 4=.ptr i4 0 0) (gtJ l y) ?_ ?_
 .exact⟨y,l.length,rfl,List.length_filter_le _ _,hz,hy,hs,a2,a4,rfl,rfl,rfl⟩
 .rintro m ⟨S,J⟩ ⟨y',k,rfl,hk,hzk,hy',hs,b2,b4,k1,k2,k4⟩;simp only at hs b2 b4 k1 k2 k4;refine ad.mix 9 ?_;rw[yT]at b2;have hb:=lZ (y:=y') (high:=f.h) RC TI;apply sR;simp only[go_sem,seval,k1,k2,k4,b2,au,ar];refine ad.aB rfl rfl rfl (CE l y' f.h s hl RC hy' hh _) ?_;apply sR;simp only[go_sem,seval,aZ];refine af λi6 Z6 s6 a6 f6=>?_;have n26:=aq b2 f6;have Zu:=aq b4 f6;replace b2:=s6 _ _ b2;replace b4:=s6 _ _ b4;have z6:=hs.none f6;replace hs:=hs.trans s6;simp only[go_sem,seval,a6,b2,k1,k2,k4,ab n26,au,ar];generalize hq:C' _ i6 _=Y6;have a6':=(congrFun hq i6).symm.trans ag;have b2':=((congrFun hq i2).symm.trans (ab n26)).trans b2;have b4':=((congrFun hq i4).symm.trans (ab Zu)).trans b4;replace hs:=Eq.subst (motive:=aa _) hq (hs.aE z6);refine ad.aB rfl rfl rfl (EI l y' f.h s hl RC hy' hh _) ?_;have hex:nm l f.w f.h s y'=true->z=y':=λh=>by cases k<;>simp[kP,h]at hzk<;>exact hzk
  have hlen:=EK (dX l y' f.h s) hb.1 hb.2;have TG:nm l f.w f.h s y'=false->∃k',k=k'+1/\gtJ l (gy l y' f.h s).1<gtJ l y'/\z=kP l f.w f.h s k' (gy l y' f.h s).1/\Ty (gy l y' f.h s).1:=λh=>by
   have h2:(gy l y' f.h s).2=true:=by
    simp only[nm,Bool.or_eq_false_iff,Bool.not_eq_false']at h;exact h.1
   have hdec:=wZ (ir h2);obtain⟨k',rfl⟩:∃k',k=k'+1:=⟨k-1,by omega⟩
   rw[kP,h]at hzk;exact⟨k',rfl,hdec,by simpa using hzk,Fy RC h2⟩
  unfold nm at hex TG;cases hn:(gy l y' f.h s).2
  .rw[hn]at hex;obtain rfl:=hex (by simp);apply sR;simp only[go_sem,seval,k1,k2,k4,a6',b4',b2'];exact ay.pure (hs.aE z4) rfl
  .rw[hn]at hex TG;apply sR;simp only[go_sem,seval,k1,k2,k4,a6',b2'];refine Go.bO rfl rfl rfl hlen ?_;by_cases hw:jt (dX l y' f.h s)>=f.w
   .have q:(jt (dX l y' f.h s)>=f.w)=True:=eq_true hw;obtain rfl:=hex (by simp[hw]);apply sG;simp only[go_sem,seval,k1,k2,k4,a6',b4',b2',q,au,ar];exact ay.pure (hs.aE z4) rfl
   .have q:(jt (dX l y' f.h s)>=f.w)=False:=eq_false hw;obtain⟨k',rfl,h1,h2,h3⟩:=TG (by simp[hw]);apply sG;simp only[go_sem,seval,k1,k2,k4,a6',b4',b2',q,au,ar];refine⟨_,h1,_,k',rfl,by omega,h2,h3,hs,?_⟩;exact⟨by rw[yT],rfl⟩
structure WOk(ws:List Int)(space:Int):Prop where
 len:ws.length<=100000
 XJ:∀x∈ws,0<=x/\x<=1099511627776
 s0:0<=space
 s1:space<=1099511627776
def gq(space:Int):List Int->Nat->Int->List (Nat×Int)
 |[],_,_=>[]
 |x::r,k,n=>(k+1,n+space+x)::gq space r (k+1) (n+space+x)
def oN(space width:Int):List Int->Nat->Int->Nat×Int
 |[],k,n=>(k,n)
 |x::r,k,n=>if n+space+x>width then(k,n)else oN space width r (k+1) (n+space+x)
def jW(ws:List Int)(space width:Int)(i:Nat):Nat×Int:=oN space width (ws.drop (i+1)) (i+1) (ws.getD i 0)
def qt(space width:Int):∀(r:List Int) (k:Nat) (n:Int),k<=(oN space width r k n).1/\(oN space width r k n).1<=k+r.length
 |[],k,n=>by simp[oN]
 |x::r,k,n=>by
  rw[oN];split
  .simp
  .have:=qt space width r (k+1) (n+space+x);simp only[List.length_cons];omega
def zB{ws:List Int}{space width:Int}{i:Nat}(h:i<ws.length):i<(jW ws space width i).1/\(jW ws space width i).1<=ws.length:=by
 have:=qt space width (ws.drop (i+1)) (i+1) (ws.getD i 0);rw[List.length_drop]at this;unfold jW;omega
def WOk.get{ws:List Int}{space:Int}(h:WOk ws space){i:Nat}(hi:i<ws.length):0<=ws[i]/\ws[i]<=1099511627776:=h.XJ _ (List.getElem_mem hi)
open Go.Proofs Go.Proofs.Tryz
def ldI(U:ai)(l:List Int):bT U false 1 (.rp (bn l))=some (bn l):=rfl
def aj(l:List Int):(bn l).cells=[bn l]:=rfl
def av(l:List Int):(bn l).stays=true:=rfl
def gS{U:ai}{l:List Int}{i:Nat}(h:i<l.length):bQ U 1 (bn l) (.int .i64 i)=some (.rp (vI l[i])):=by simp[bn,bQ,h]
def fG(l:List Int):dy false (bn l)=some (.int .i64 l.length):=by simp[bn,dy]
def j4(ws:List Int)(space:Int):V:=.agg [bn ws,vI space]
def LA(ws:List Int)(space:Int):gx false 0 1 (.rp (j4 ws space))=some (.rp (bn ws)):=rfl
def J3(ws:List Int)(space:Int):gx false 1 1 (.rp (j4 ws space))=some (.rp (vI space)):=rfl
def As(ws:List Int)(space:Int):(j4 ws space).cells=[bn ws,vI space]:=rfl
def zT(ws:List Int)(space:Int):(j4 ws space).stays=true:=rfl
def Oe(ws:List Int)(space i:Int):aV prog 326 [j4 ws space,vI i] (.bool (decide (i<0\/i>=ws.length))):=λU=>by
 refine Pf.r (by simp[Lq]) ?_;have hs:=aa.refl U;have hn:=fG ws;apply sR;simp only[go_sem,seval,Lq,j4,aj,av];refine af λi2 Z2 s2 a2 f2=>?_;have z2:=hs.none f2;replace hs:=hs.trans s2;by_cases h:i<0
 .have q:(i<0)=True:=eq_true h;simp only[go_sem,seval,a2,q,aj,av];exact ay.pure hs (by simp[h])
 .have q:(i<0)=False:=eq_false h;simp only[go_sem,seval,a2,q,hn,aj,av];exact ay.pure hs (by simp[h])
def fQ(l:List (Nat×Int)):List (List V):=l.map λp=>[vI p.1,vI p.2]
def DP(ws:List Int)(space:Int)(hw:WOk ws space)(i:Nat)(hi:i<ws.length):Iter prog 335 [.rp (j4 ws space),.rp (vI i)] (fQ (gq space (ws.drop i) i (0-space))):=by
 refine⟨Nw.c,λRZ τ Jx Z0 hy hJ=>?_⟩;refine(Nw.r (by simp[Lm]) ?_).2;have Sj:=hw.s0;have TI:=hw.s1;have Vd:=hw.len;have hn:=fG ws;have r0:RM .i64 (0-space):=ao (by omega) (by omega);refine ad.mix 6 ?_;apply sR;simp only[BB,seval,<-decide_not,bx,fg,aL,cU,eJ,eo,eN,dY,cz,jQ,bI,fH,dP,fq,cL,cP,bF,iP,dh,cQ,cp,SG,jT,dd,cc,iO,dI,cd,dc,cZ,kG,binBV,bW,dp,V.cells,V.stays,TJ.nothing,Lm,ldI,LA,J3,r0];refine ad.loop (λm st=>∃(pre:List (Nat×Int)) (j:Nat) (n:Int) (ZJ:ai),m=ws.length-j/\i<=j/\j<=ws.length/\-1099511627776<=n/\n<=2199023255552*j/\gq space (ws.drop i) i (0-space)=pre++gq space (ws.drop j) j n/\
  τ (fQ pre) ZJ/\aa ZJ st.U/\st.s 0=.yl RZ/\st.s 1=.rp (j4 ws space)/\st.s 4=vI n/\st.s 5=vI j) (ws.length-i) ?_ ?_
 .exact⟨[],i,0-space,Z0,rfl,by omega,by omega,by omega,by omega,rfl,hJ,aa.refl _,rfl,rfl,rfl,rfl⟩
 .rintro m ⟨s,Z'⟩ ⟨pre,j,n,ZJ,rfl,hij,hj,hn1,hn2,Ub,hJp,G',t0,t1,t4,t5⟩;simp only at G' t0 t1 t4 t5;refine ad.mix 6 ?_;by_cases H':j<ws.length
  .have q:((j:Int)<ws.length)=True:=eq_true (by omega);have hx:=hw.get H';have Rv:=λU=>gS (U:=U) H';rw[List.drop_eq_getElem_cons H',gq]at Ub;generalize ws[j]=w at*;have r1:RM .i64 (space+w):=ao (by omega) (by omega);have r2:RM .i64 (n+(space+w)):=ao (by omega) (by omega);have r3:RM .i64 ((j:Int)+1):=ao (by omega) (by omega);have en:n+space+w=n+(space+w):=by omega
   rw[en]at Ub;have e:fQ (gq space (ws.drop i) i (0-space))=fQ pre++[vI ((j:Int)+1),vI (n+(space+w))]::fQ (gq space (ws.drop (j+1)) (j+1) (n+(space+w))):=by rw[Ub];simp[fQ]
   apply sR;simp only[BB,seval,<-decide_not,bx,fg,aL,cU,eJ,eo,eN,dY,cz,jQ,bI,fH,dP,fq,cL,cP,bF,iP,dh,cQ,cp,SG,jT,dd,cc,iO,dI,cd,dc,cZ,kG,binBV,bW,dp,V.cells,V.stays,TJ.nothing,t0,t1,t4,t5,hn,q,ldI,LA,J3,Rv,r1,r2,r3];refine ad.lN (Post:=λb Z2=>∃RX,bh ZJ Z' RX Z2/\((b=true/\τ (fQ pre++[[vI ((j:Int)+1),vI (n+(space+w))]]) RX)\/(b=false/\Jx (fQ pre++[[vI ((j:Int)+1),vI (n+(space+w))]]) RX))) rfl rfl rfl (hy _ _ _ ZJ Z' e hJp G') ?_;rintro b Z2 ⟨RX,SI,Sr⟩;rcases Sr with⟨rfl,Sr⟩|⟨rfl,Sr⟩
   .apply sR;simp only[go_sem,seval,t0,t1,t4,t5,r3];refine⟨_,?_,pre++[(j+1,n+(space+w))],j+1,n+(space+w),RX,rfl,by omega,by omega,by omega,by omega,by rw[Ub];simp,?_,SI.1,by simp[t0,t1]⟩
    .omega
    .simpa[fQ]using Sr
   .apply sR;simp only[go_sem,seval,t0,t1,t4,t5];refine⟨_,RX,SI.1,Wk.refl SI.1 _,.inr ⟨_,?_,Sr⟩⟩;rw[e];exact⟨fQ (gq space (ws.drop (j+1)) (j+1) (n+(space+w))),by simp⟩
  .have q:((j:Int)<ws.length)=False:=eq_false (by omega);apply sR;simp only[BB,seval,<-decide_not,bx,fg,aL,cU,eJ,eo,eN,dY,cz,jQ,bI,fH,dP,fq,cL,cP,bF,iP,dh,cQ,cp,SG,jT,dd,cc,iO,dI,cd,dc,cZ,kG,binBV,bW,dp,V.cells,V.stays,TJ.nothing,t0,t1,t4,t5,hn,q,ldI,LA,J3];rw[show ws.drop j=[]from List.drop_of_length_le (by omega),gq,List.append_nil]at Ub;exact⟨_,ZJ,G',Wk.refl G' _,.inl (by rw[Ub];exact hJp)⟩
def Md(ws:List Int)(space:Int)(i:Int):aV prog 327 [j4 ws space,vI i] (.fn 335 [.rp (j4 ws space),.rp (vI i)]):=λU=>by
 refine QE.r (by simp[Jr]) ?_;refine ad.mix 4 ?_;have q1:=As ws space;have q2:=zT ws space;have q3:(j4 ws space).cells.length=2:=rfl;generalize hx:j4 ws space=x at*;apply sR;simp only[go_sem,seval,Jr,q1,q2,q3];refine af λU4 Z1 s1 a1 f1=>?_;simp only[go_sem,seval];refine af λWC Z2 s2 a2 f2=>?_;simp only[go_sem,seval];exact⟨_,U,s1.trans s2,Wk.fn (vs':=[.rp x,.rp (vI i)]) ⟨Wk.ptr (s1.trans s2) (s2 _ _ a1) f1,Wk.ptr (s1.trans s2) a2 (s1.none f2),trivial⟩,rfl,rfl⟩
open Go.Proofs Go.Proofs.Tryz
def vt(i j n:Int):V:=.agg [vI i,vI j,vI n]
structure TkJ(ws:List Int)(space width:Int)(i:Nat)(U:ai)(YD id7 id8 id10:Nat)(pre:List (List V))(v:V)(ZJ:ai):Prop where
 sub:aa U ZJ
 r8:ZJ id8=some ⟨377,3,[.agg [vI 0,vI 0,vI 0]]⟩
 r6:ZJ YD=some ⟨3,1,[vI width]⟩
 r7:ZJ id7=some ⟨3,1,[vI i]⟩
 Xi:ZJ id10=some ⟨377,3,[v]⟩
 st:(pre=[]/\v=.agg [vI 0,vI 0,vI 0])\/∃n:Int,0<pre.length/\i+pre.length<=ws.length/\fQ (gq space (ws.drop i) i (0-space))=pre++fQ (gq space (ws.drop (i+pre.length)) (i+pre.length) n)/\
  jW ws space width i=oN space width (ws.drop (i+pre.length)) (i+pre.length) n/\v=.agg [vI i,vI (i+pre.length:Nat),vI n]
def Hr(ws:List Int)(space width:Int)(hw:WOk ws space)(i:Nat)(hi:i<ws.length):aV prog 302 [bn ws,vI space,vI width,vI i] (vt i (jW ws space width i).1 (jW ws space width i).2):=λU=>by
 refine OA.r (by simp[LF]) ?_;have hs:=aa.refl U;have Vd:=hw.len;refine ad.mix 13 ?_;apply sR;simp only[go_sem,seval,LF];refine af λi6 Z6 s6 a6 f6=>?_;have z6:=hs.none f6;replace hs:=hs.trans s6;simp only[go_sem,seval,a6,aj,av];refine af λi7 Z7 s7 a7 f7=>?_;have V7:=aq a6 f7;replace a6:=s7 _ _ a6;have z7:=hs.none f7;replace hs:=hs.trans s7;simp only[go_sem,seval,a7,a6,aj,av];refine af λi8 Z8 s8 a8 f8=>?_;have n68:=aq a6 f8;replace a6:=s8 _ _ a6;have XE:=aq a7 f8;replace a7:=s8 _ _ a7;have z8:=hs.none f8;replace hs:=hs.trans s8;simp only[go_sem,seval,a8,a7,a6,aj,av];refine af λi9 Z9 s9 a9 f9=>?_;have n69:=aq a6 f9;replace a6:=s9 _ _ a6;have n79:=aq a7 f9;replace a7:=s9 _ _ a7;have Yb:=aq a8 f9;replace a8:=s9 _ _ a8;have z9:=hs.none f9;replace hs:=hs.trans s9;simp only[go_sem,seval,a9,a8,a7,a6,aj,av,ab n69,ab n79,ab Yb];generalize SL:C' _ i9 _=Y9;replace a9:=(congrFun SL i9).symm.trans ag;replace a6:=((congrFun SL i6).symm.trans (ab n69)).trans a6;replace a7:=((congrFun SL i7).symm.trans (ab n79)).trans a7;replace a8:=((congrFun SL i8).symm.trans (ab Yb)).trans a8;replace hs:=Eq.subst (motive:=aa _) SL (hs.aE z9);clear SL;have hf:=Oe ws space i;rw[show decide ((i:Int)<0\/(i:Int)>=ws.length)=false by simp;omega]at hf;refine ad.aB rfl rfl rfl (hf _) ?_;apply sR;simp only[go_sem,seval,a9,a8,a7,a6];refine af λSb WO TV Sg f10=>?_;have n610:=aq a6 f10;replace a6:=TV _ _ a6;have Zp:=aq a7 f10;replace a7:=TV _ _ a7;have n810:=aq a8 f10;replace a8:=TV _ _ a8;have n910:=aq a9 f10;replace a9:=TV _ _ a9;have Vr:=hs.none f10;replace hs:=hs.trans TV;simp only[go_sem,seval,Sg,a9,a8,a7,a6];refine ad.aB rfl rfl rfl (Md ws space i _) ?_;apply sR;simp only[go_sem,seval,Sg,a9,a8,a7,a6];generalize hS:mix 13 _ _=S;have S6:S 6=.ptr i6 0 0:=by rw[<-hS];rfl
 have S7:S 7=.ptr i7 0 0:=by rw[<-hS];rfl
 have S8:S 8=.ptr i8 0 0:=by rw[<-hS];rfl
 have S10:S 10=.ptr Sb 0 0:=by rw[<-hS];rfl
 have S22:S 22=.fn 335 [.rp (j4 ws space),.rp (vI i)]:=by rw[<-hS];rfl
 clear hS;have WM:=DP ws space hw i hi;have hdr:ws.drop i=ws[i]::ws.drop (i+1):=List.drop_eq_getElem_cons hi;have Wt:ws.getD i 0=ws[i]:=by simp[hi]
 have hxi:=hw.get hi;have fin:∀(J:ai) (w:V),aa U J->J i8=some ⟨377,3,[.agg [vI 0,vI 0,vI 0]]⟩->J Sb=some ⟨377,3,[vt i (jW ws space width i).1 (jW ws space width i).2]⟩->
  ad prog 39 [It.code (.seq (.Sd false [⟨some 38,.load true 3 (.t 10),none⟩,⟨none,.store 3 (.t 8) (.t 38),none⟩]) .ret)] ⟨S,J⟩ (λst=>VL [VR.cell true 3 (VX.t 8)] st λr Z'=>r=vt i (jW ws space width i).1 (jW ws space width i).2/\Z'=U):=by
  intro J w h1 h2 h3;refine ad.mix 13 ?_;rw[vt]at h3;apply sR;simp only[go_sem,seval,S8,S10,h2,h3];exact ay.pure (h1.aE z8) rfl
 refine ad.cX (g:=.t 22) (caps:=[.rp (j4 ws space),.rp (vI i)]) S22 WM (λx hx=>?_) [0] (λpre ZJ=>∃v,TkJ ws space width i U i6 i7 i8 Sb pre v ZJ)
  (λe pre ZJ=>e=some 0/\aa U ZJ/\ZJ i8=some ⟨377,3,[.agg [vI 0,vI 0,vI 0]]⟩/\ZJ Sb=some ⟨377,3,[vt i (jW ws space width i).1 (jW ws space width i).2]⟩) ?_ ?_ ?_ ?_ ?_
 .obtain⟨t,_,rfl⟩:=List.mem_map.1 hx;rfl
 .exact⟨_,hs,a8,a6,a7,Sg,.inl ⟨rfl,rfl⟩⟩
 .rintro pre x post ZJ ZB Ub ⟨v,τ⟩ G';have b6:=G' _ _ τ.r6;have b7:=G' _ _ τ.r7;have b8:=G' _ _ τ.r8;have Yc:=G' _ _ τ.Xi;rcases τ.st with⟨rfl,rfl⟩|⟨n,hp,VK,hr,SB,rfl⟩
  .obtain rfl:x=[vI ((i:Int)+1),vI ws[i]]:=by
    rw[hdr]at Ub;simp only[gq,fQ,List.map_cons,List.nil_append,List.cons.injEq]at Ub;rw[<-Ub.1];simp only[Int.sub_add_cancel,Int.zero_add];rw[show((i+1:Nat):Int)=(i:Int)+1 by omega]
   refine ad.mix 13 ?_;generalize TD:mj S [23,24] _=S0;have T6:S0 6=.ptr i6 0 0:=by rw[<-TD];exact S6
   have T7:S0 7=.ptr i7 0 0:=by rw[<-TD];exact S7
   have W8:S0 10=.ptr Sb 0 0:=by rw[<-TD];exact S10
   have T23:S0 23=vI ((i:Int)+1):=by rw[<-TD];rfl
   have T24:S0 24=vI ws[i]:=by rw[<-TD];rfl
   clear TD;have r1:RM .i64 ((i:Int)+1):=ao (by omega) (by omega);have q:((i:Int)+1>(i:Int)+1)=False:=eq_false (by omega);apply sR;simp only[go_sem,seval,T6,T7,W8,T23,T24];apply sR;simp only[go_sem,seval,T6,T7,W8,T23,T24,b6,b7,Yc,r1,q];refine⟨_,(bh.refl G').set τ.Xi,_,τ.sub.aE Vr,by rw[ab n810];exact τ.r8,by rw[ab n610];exact τ.r6,by rw[ab Zp];exact τ.r7,ag,.inr ⟨ws[i],by simp,by simp;omega,?_,?_,?_⟩⟩
   .rw[hdr,gq];simp only[Int.sub_add_cancel,Int.zero_add,fQ,List.map_cons,List.nil_append,List.length_cons,List.length_nil,List.cons_append];rw[show((i+1:Nat):Int)=(i:Int)+1 by omega]
   .unfold jW;rw[Wt];rfl
   .simp
  .have H':i+pre.length<ws.length:=by
    rcases Nat.lt_or_ge (i+pre.length) ws.length with h|h
    .exact h
    .exfalso;rw[List.drop_of_length_le h]at hr;rw[hr]at Ub;have:=congrArg List.length Ub;simp[gq,fQ]at this
   have XK:ws.drop (i+pre.length)=ws[i+pre.length]::ws.drop (i+pre.length+1):=List.drop_eq_getElem_cons H';obtain rfl:x=[vI ((i:Int)+pre.length+1),vI (n+space+ws[i+pre.length])]:=by
    rw[hr,XK]at Ub;have h2:=List.append_cancel_left Ub;simp only[gq,fQ,List.map_cons,List.cons.injEq]at h2;rw[<-h2.1];rw[show((i+pre.length+1:Nat):Int)=(i:Int)+pre.length+1 by omega]
   rw[XK,oN]at SB;refine ad.mix 13 ?_;generalize TD:mj S [23,24] _=S0;have T6:S0 6=.ptr i6 0 0:=by rw[<-TD];exact S6
   have T7:S0 7=.ptr i7 0 0:=by rw[<-TD];exact S7
   have W8:S0 10=.ptr Sb 0 0:=by rw[<-TD];exact S10
   have T23:S0 23=vI ((i:Int)+pre.length+1):=by rw[<-TD];rfl
   have T24:S0 24=vI (n+space+ws[i+pre.length]):=by rw[<-TD];rfl
   clear TD;have r1:RM .i64 ((i:Int)+1):=ao (by omega) (by omega);have q:((i:Int)+pre.length+1>(i:Int)+1)=True:=eq_true (by omega);apply sR;simp only[go_sem,seval,T6,T7,W8,T23,T24];by_cases VC:n+space+ws[i+pre.length]>width
   .have q2:(n+space+ws[i+pre.length]>width)=True:=eq_true VC;rw[if_pos VC]at SB;apply sR;simp only[go_sem,seval,T6,T7,W8,T23,T24,b6,b7,Yc,r1,q,q2];refine⟨_,bh.refl G',τ.sub,τ.r8,?_⟩;rw[τ.Xi,SB];rfl
   .have q2:(n+space+ws[i+pre.length]>width)=False:=eq_false VC;rw[if_neg VC]at SB;apply sR;simp only[go_sem,seval,T6,T7,W8,T23,T24,b6,b7,Yc,r1,q,q2];have hpl2:(pre++[[vI ((i:Int)+pre.length+1),vI (n+space+ws[i+pre.length])]]).length=pre.length+1:=by simp
    refine⟨_,(bh.refl G').set τ.Xi,_,τ.sub.aE Vr,by rw[ab n810];exact τ.r8,by rw[ab n610];exact τ.r6,by rw[ab Zp];exact τ.r7,ag,.inr ⟨n+space+ws[i+pre.length],by omega,by omega,?_,?_,?_⟩⟩
    .rw[hr,XK,hpl2,gq];simp only[fQ,List.map_cons,List.append_assoc,List.cons_append,List.nil_append];rw[show((i+pre.length+1:Nat):Int)=(i:Int)+pre.length+1 by omega];rfl
    .rw[hpl2];exact SB
    .rw[hpl2,show((i+(pre.length+1):Nat):Int)=(i:Int)+pre.length+1 by omega]
 .rintro Z' ⟨v,τ⟩;rcases τ.st with⟨h0,rfl⟩|⟨n,hp,VK,hr,SB,rfl⟩
  .exfalso;rw[hdr]at h0;simp[gq,fQ]at h0
  .have he:fQ (gq space (ws.drop (i+(fQ (gq space (ws.drop i) i (0-space))).length)) (i+(fQ (gq space (ws.drop i) i (0-space))).length) n)=[]:=by
    have:=congrArg List.length hr;rw[List.length_append]at this;exact List.eq_nil_of_length_eq_zero (by omega)
   generalize (fQ (gq space (ws.drop i) i (0-space))).length=p at*;have hd:ws.drop (i+p)=[]:=by
    cases h:ws.drop (i+p)with
    |nil=>rfl
    |cons a b=>rw[h]at he;simp[gq,fQ]at he
   rw[hd,oN]at SB;refine ad.inBlock (fin Z' .aC τ.sub τ.r8 ?_);rw[τ.Xi,SB];rfl
 .intro id M' pre Z' _ ⟨h0,h1,h2,h3⟩;obtain rfl:id=0:=by simpa using M'
  refine ad.exit rfl ?_;exact fin Z' .aC h1 h2 h3
 .rintro pre Z' _ ⟨h0,_⟩;cases h0
open Go.Proofs Go.Proofs.Tryz
def ta(p:Pn)(n:Int):Pn:=⟨if n>0 then p.y+p.m+n else p.y,if n>0 then 0 else p.m⟩
def eD(p:Pn)(mg n:Int):Pn:=ta ⟨p.y,max p.m mg⟩ n
def ln(p:Pn)(mg n:Int):Pn:=⟨(ta p n).y,max (ta p n).m mg⟩
def Cq(p:Pn)(mg n:Int)(h1:Bq p.y)(h2:Bq p.m)(h3:Bq mg)(h4:Bq n):aV prog 217 [gN p,vI mg,vI n] (gN (eD p mg n)):=λU=>by
 refine Oz.r (by simp[L3]) ?_;have hs:=aa.refl U;refine ad.mix 10 ?_;apply sR;simp only[go_sem,seval,L3,gN];refine af λi3 Z3 s3 a3 f3=>?_;have z3:=hs.none f3;replace hs:=hs.trans s3;simp only[go_sem,seval,a3];refine af λi6 Z6 s6 a6 f6=>?_;have n36:=aq a3 f6;replace a3:=s6 _ _ a3;have z6:=hs.none f6;replace hs:=hs.trans s6;simp only[go_sem,seval,a6,a3];refine af λi7 Z7 s7 a7 f7=>?_;have ZU:=aq a3 f7;replace a3:=s7 _ _ a3;have V7:=aq a6 f7;replace a6:=s7 _ _ a6;have z7:=hs.none f7;replace hs:=hs.trans s7;simp only[go_sem,seval,a7,a6,a3,ab ZU,ab V7];generalize Tu:C' _ i7 _=Y7;replace a7:=(congrFun Tu i7).symm.trans ag;replace a3:=((congrFun Tu i3).symm.trans (ab ZU)).trans a3;replace a6:=((congrFun Tu i6).symm.trans (ab V7)).trans a6;replace hs:=Eq.subst (motive:=aa _) Tu (hs.aE z7);clear Tu;refine ad.call rfl rfl rfl (Cv p.y p.m mg a7) ?_;rintro r Z1 ⟨rfl,rfl⟩;apply sR;simp only[go_sem,seval];have hm:Bq (max p.m mg):=by obtain⟨g1,g2⟩:=h2;obtain⟨g3,g4⟩:=h3;exact⟨by omega,by omega⟩
 refine ad.call rfl rfl rfl (Jc p.y (max p.m mg) n h1 hm h4 ag) ?_;rintro r Z2 ⟨rfl,rfl⟩;apply sR;simp only[go_sem,seval,a6,ab V7,ab V7.symm];exact ay.pure ((hs.aE z7).aE z6) rfl
def Cy(p:Pn)(mg n:Int)(h1:Bq p.y)(h2:Bq p.m)(h3:Bq mg)(h4:Bq n):aV prog 218 [gN p,vI mg,vI n] (gN (ln p mg n)):=λU=>by
 refine Qb.r (by simp[Kx]) ?_;have hs:=aa.refl U;refine ad.mix 10 ?_;apply sR;simp only[go_sem,seval,Kx,gN];refine af λi3 Z3 s3 a3 f3=>?_;have z3:=hs.none f3;replace hs:=hs.trans s3;simp only[go_sem,seval,a3];refine af λi6 Z6 s6 a6 f6=>?_;have n36:=aq a3 f6;replace a3:=s6 _ _ a3;have z6:=hs.none f6;replace hs:=hs.trans s6;simp only[go_sem,seval,a6,a3];refine af λi7 Z7 s7 a7 f7=>?_;have ZU:=aq a3 f7;replace a3:=s7 _ _ a3;have V7:=aq a6 f7;replace a6:=s7 _ _ a6;have z7:=hs.none f7;replace hs:=hs.trans s7;simp only[go_sem,seval,a7,a6,a3,ab ZU,ab V7];generalize Tu:C' _ i7 _=Y7;replace a7:=(congrFun Tu i7).symm.trans ag;replace a3:=((congrFun Tu i3).symm.trans (ab ZU)).trans a3;replace a6:=((congrFun Tu i6).symm.trans (ab V7)).trans a6;replace hs:=Eq.subst (motive:=aa _) Tu (hs.aE z7);clear Tu;refine ad.call rfl rfl rfl (Jc p.y p.m n h1 h2 h4 a7) ?_;rintro r Z1 ⟨rfl,rfl⟩;apply sR;simp only[go_sem,seval];refine ad.call rfl rfl rfl (Cv _ _ mg ag) ?_;rintro r Z2 ⟨rfl,rfl⟩;apply sR;simp only[go_sem,seval,a6,ab V7,ab V7.symm];exact ay.pure ((hs.aE z7).aE z6) rfl
structure Ln where
 (fr to x y w:Int)
deriving DecidableEq
def l5(l:Ln):V:=.agg [vI l.fr,vI l.to,vI l.x,vI l.y,vI l.w]
def nv(fs:List P')(ws:List Int)(space high:Int)(i:Nat)(y:Int)(s:Sz):Ln:=
 let RY:=kS fs (ws.getD i 0) high s y
 let b:=dX fs RY high s
 let t:=jW ws space (jt b) i
 ⟨i,t.1,b.a,RY,t.2⟩
def Iu(fs:List P')(ws:List Int)(space high:Int)(i:Nat)(y:Int)(s:Sz)(hl:fs.length<=1000000)(RC:∀f∈fs,f.ok)(hy:Ty y)(hh:Bq high)(TI:Ty s.a/\Ty s.b)(hw:WOk ws space)(hi:i<ws.length):
 aV prog 265 [aH fs,bn ws,vI space,vI high,vI i,vI y,aZ s] (l5 (nv fs ws space high i y s)):=λU=>by
 refine QG.r (by simp[Ma]) ?_;have hs:=aa.refl U;have hn:=fG ws;have Rv:=λU=>gS (U:=U) hi;have q0:((i:Int)<0)=False:=eq_false (by omega);have q1:((i:Int)>=ws.length)=False:=eq_false (by omega);refine ad.mix 18 ?_;apply sR;simp only[go_sem,seval,Ma,aZ];refine af λW9 Y13 s13 TY f13=>?_;have z13:=hs.none f13;replace hs:=hs.trans s13;simp only[go_sem,seval,TY];refine af λi14 Z14 s14 Zv f14=>?_;have n1314:=aq TY f14;replace TY:=s14 _ _ TY;have z14:=hs.none f14;replace hs:=hs.trans s14;simp only[go_sem,seval,Zv,TY,hn,Rv,q0,q1];have Wt:ws.getD i 0=ws[i]:=by simp[hi]
 obtain⟨RY,S1⟩:∃a,a=kS fs ws[i] high s y:=⟨_,rfl⟩
 have Wf:=Fj fs ws[i] high y s hl RC hy hh TI;rw[<-S1]at Wf;have hbo:=lZ (y:=RY) (high:=high) RC TI;unfold nv;rw[Wt];simp only;rw[<-S1];obtain⟨b,hb⟩:∃b,b=dX fs RY high s:=⟨_,rfl⟩
 rw[<-hb]at Wf hbo|-;refine Go.bO rfl rfl rfl Wf ?_;apply sG;simp only[go_sem,seval,aZ];refine bw λZw Y15 s15 Xj f15=>?_;have n1315:=aq TY f15;replace TY:=s15 _ _ TY;have n1415:=aq Zv f15;replace Zv:=s15 _ _ Zv;have z15:=hs.none f15;replace hs:=hs.trans s15;simp only[go_sem,seval,Xj,Zv,TY,aZ];generalize Ux:C' _ Zw _=Z15;replace Xj:=(congrFun Ux Zw).symm.trans ag;replace TY:=((congrFun Ux W9).symm.trans (ab n1315)).trans TY;replace Zv:=((congrFun Ux i14).symm.trans (ab n1415)).trans Zv;replace hs:=Eq.subst (motive:=aa _) Ux (hs.aE z15);clear Ux;refine ad.aB rfl rfl rfl (EK b hbo.1 hbo.2 _) ?_;apply sR;simp only[go_sem,seval];refine ad.aB rfl rfl rfl (Hr ws space (jt b) hw i hi _) ?_;apply sR;simp only[go_sem,seval,vt];refine af λi17 Y17 s17 WQ f17=>?_;have YY:=aq TY f17;replace TY:=s17 _ _ TY;have n1417:=aq Zv f17;replace Zv:=s17 _ _ Zv;have n1517:=aq Xj f17;replace Xj:=s17 _ _ Xj;have z17:=hs.none f17;replace hs:=hs.trans s17;simp only[go_sem,seval,WQ,Xj,Zv,ab YY,ab n1417,ab n1517];exact ay.pure ((hs.aE z17).aE z14) rfl
open Go.Proofs Go.Proofs.Tryz
def aT.Be{K ZJ Z1:ai}{e sz:Nat}{v:V}{rows:List V}(h:aT K ZJ e sz v rows)(hs:aa ZJ Z1):
 ∃RN,cg Z1 e sz v=some (rows,RN)/\(∀K':ai,aa K' K->∀Z2,aa K' Z2->aa K' (Vc.bK Z2 RN))/\(∀i o,ZJ i=some o->(o.elem≠e\/o.sz≠sz)->∀Z2:ai,Vc.bK Z2 RN i=Z2 i)/\(∀i,ZJ i=none->∀Z2:ai,Vc.bK Z2 RN i=Z2 i):=by
 rcases h with⟨rfl,rfl⟩|⟨id,rfl,ho,hk⟩
 .exact⟨none,rfl,λ_ _ _ h=>h,λ_ _ _ _ _=>rfl,λ_ _ _=>rfl⟩
 .refine⟨some id,?_,λK' hK Z2 h=>h.Ik (hK.none hk),λi o hi R6 Z2=>?_,λi hi Z2=>?_⟩
  .simp only[cg,hs _ _ ho];rw[if_pos ⟨trivial,trivial,trivial,Nat.le_refl _⟩,List.take_length]
  .refine dK λe'=>?_;subst e';rw[ho]at hi;injection hi with hi;subst hi;rcases R6 with h|h<;>exact h rfl
  .refine dK λe'=>?_;subst e';rw[ho]at hi;cases hi
def rj{l:List P'}{w high B:Int}{s:Sz}(hB:∀f∈l,f.y+f.h<=B):∀(k:Nat) (y:Int),y<=pc l w high s k y/\pc l w high s k y<=max y B
 |0,y=>by simp only[pc];omega
 |k+1,y=>by
  rw[pc];split
  .omega
  .rename_i hf;have R6:dX l y high s≠s:=λe=>hf (by simp[wm,e]);obtain⟨f,hm,h1,h2⟩:=ir (nU R6);have:=rj hB k (gy l y high s).1 (w:=w) (high:=high) (s:=s);have:=hB f hm;omega
def fV{l:List P'}{w high B y:Int}{s:Sz}(hB:∀f∈l,f.y+f.h<=B):y<=kS l w high s y/\kS l w high s y<=max y B:=rj hB _ _
def dM(fs:List P')(ws:List Int)(space high:Int)(s:Sz):Nat->Nat->Int->List Ln
 |0,_,_=>[]
 |k+1,i,y=>if i<ws.length then nv fs ws space high i y s::dM fs ws space high s k (nv fs ws space high i y s).to.toNat ((nv fs ws space high i y s).y+high)else[]
def jx(fs:List P')(ws:List Int)(space high:Int)(s:Sz):∀(k i:Nat) (y:Int),(dM fs ws space high s k i y).length<=k
 |0,_,_=>by simp[dM]
 |k+1,i,y=>by
  rw[dM];split
  .have:=jx fs ws space high s k (nv fs ws space high i y s).to.toNat ((nv fs ws space high i y s).y+high);simp only[List.length_cons];omega
  .simp
def yW(l:Ln):(l5 l).cells=[vI l.fr,vI l.to,vI l.x,vI l.y,vI l.w]:=rfl
def AF(l:Ln):(l5 l).stays=true:=rfl
def pI(l:List Ln):V:=.sl 5 (l.map l5)
variable {P:Program} {n:Nat} {st:St} {Q:St->Prop} {k:List It}
def nR(D:List (List Nat))(S:List Nat)(s:Nat):List (List Nat):=(List.range D.length).map λi=>if S.contains i&&!(i==s)then s::D.getD i []else D.getD i []
def yZ{D:List (List Nat)}{S:List Nat}{s:Nat}:(nR D S s).length=D.length:=by simp[nR]
def yk{D:List (List Nat)}{S:List Nat}{s i:Nat}:(nR D S s).getD i []=if i<D.length/\i∈S/\i≠s then s::D.getD i []else D.getD i []:=by
 unfold nR;rw[List.getD_eq_getElem?_getD,List.getElem?_map];by_cases hi:i<D.length
 .rw[List.getElem?_range hi];by_cases hs:i∈S
  .by_cases he:i=s
   .simp[he]
   .simp[hi,hs,he]
  .simp[hs]
 .have h1:(List.range D.length)[i]?=none:=List.getElem?_eq_none (by simpa using hi);rw[h1,if_neg (λh=>hi h.1)];simp[List.getElem?_eq_none (show D.length<=i by omega)]
def yc{D:List (List Nat)}{S:List Nat}{s i:Nat}(h:i∉S\/i=s):(nR D S s).getD i []=D.getD i []:=by
 rw[yk,if_neg];rintro⟨_,h1,h2⟩;exact h.elim (λh=>h h1) h2
def re{D:List (List Nat)}{S:List Nat}{s:Nat}{L:List Nat}(hp:s∈L):dU (nR D S s) L=dU D L:=by
 unfold dU;rw[yZ];refine List.filter_congr λi hi=>?_;rw[yk];split
 .simp[hp]
 .rfl
def tO{l:List aN}{D:List (List Nat)}{S:List Nat}{s:Nat}{K:St->Prop}:∀(f:Nat) (L:List Nat) (y:St),s∈L->ic P l (nR D S s) K f L y->ic P l D K f L y
 |0,L,y,hp,h=>⟨by rw[<-re hp];exact h.1,h.2⟩
 |f+1,L,y,hp,h=>by
  unfold ic at h|-;rw[re hp]at h;cases hr:dU D L with
  |nil=>rw[hr]at h;exact h
  |cons a r=>
   rw[hr]at h;refine oO λi hi=>?_;obtain⟨ins,h1,h2⟩:=mL h i hi;exact⟨ins,h1,TC.mono (λx hx=>tO f _ x (by simp[hp]) hx) h2⟩
def vJ{l:List aN}{K:St->Prop}{b:List Nat}:∀{a:List Nat},RE P l K (a++b)=RE P l (RE P l K b) a
 |[]=>rfl
 |m::a=>by
  funext x;rw[List.cons_append,RE,RE,vJ]
def mZ{l:List aN}{RR:List (List Nat)}{b:List Nat}:∀{a done:List Nat},eB l RR done (a++b)=eB l RR done a++eB l RR (done++a) b
 |[],done=>by simp[eB]
 |e::a,done=>by
  rw[List.cons_append,eB,eB,mZ];simp
def RE.mono{l:List aN}{K K':St->Prop}(hk:∀x,K x->K' x):∀{a:List Nat} {x:St},RE P l K a x->RE P l K' a x
 |[],x,h=>hk x h
 |m::a,x,h=>by
  rw[RE]at h|-;cases hm:l[m/2]? with
  |none=>rw[hm]at h;exact h.elim
  |some i=>
   rw[hm]at h;simp only at h|-;split at h<;>rename_i he
   .rw[if_pos he];exact TC.mono (λx hx=>RE.mono hk hx) h
   .rw[if_neg he];exact⟨h.1,RE.mono hk h.2⟩
structure FN(l:List aN)(D RR:List (List Nat))(pre tail S:List Nat)(befs:Nat->List (List Nat)):Prop where
 e:EOkW l D RR (pre++tail)
 TM:∀a b x y,pre++tail=a++b->x∈a->y∈b->x∈pre->dE l RR x=true->x∈eS RR y
 sub:∀s∈S,s∈tail
 some:∃s,s∈S
 later:∀i∈tail,i∉S->∃s∈S,s∈eS RR i
 agree:∀s∈S,∀i∈pre,dE l (befs s) i=dE l RR i
section
variable {l:List aN} {D RR:List (List Nat)} {pre tail S:List Nat} {befs:Nat->List (List Nat)} {K:St->Prop} {Ks:Nat->St->Prop} (hF:FN l D RR pre tail S befs)
include hF
def jE.NA{L:List Nat}{y:St}:∀{rest done:List Nat} {x:St},jE P l D RR pre K L y done rest x->
 ∃done' XF x',jE P l D RR pre K L y done' XF x'/\∀h r,XF=h::r->dE l RR h=true
 |[],done,x,h=>⟨done,[],x,h,by simp⟩
 |e::rest,done,x,h=>by
  have hE:=hF.e;cases UG:dE l RR e with
  |true=>exact⟨done,e::rest,x,h,λa r he=>by cases he;exact UG⟩
  |false=>
   have Vq:e<l.length:=hE.lt e (by rw[h.split];simp);obtain⟨hk,hself⟩:=gP UG Vq (hE.mN Vq);have Tm:=(List.nodup_append.1 hE.nodup).1;rw[h.split]at Tm;have hed:e∉done:=λhm=>(List.nodup_append.1 Tm).2.2 e hm e (by simp) rfl;have Yz:e∉L:=λhm=>hed (h.sub e hm);have TG:=h.go;rw[eB,BW Vq,Dc,if_neg (by simp[UG]),List.nil_append]at TG;have hT:T P (bB l e) x (RE P l K (eB l RR (done++[e]) rest)):=by
    rcases TG with TG|⟨_,TG⟩
    .exact TG
    .exfalso;revert TG hk;generalize (bB l e).op=op;intro hk TG;split at TG
     .simp[bx]at hk
     .exact TG
   obtain⟨v,hv,YA⟩:=(cA (by simp[fA,hk])).1 hT;refine jE.NA (rest:=rest) (done:=done++[e]) (x:=⟨aX x.s (bB l e).dst v,x.U⟩) ⟨by rw[h.split];simp,λi hi=>by simp[h.sub i hi],h.nodup,h.closed,λi hi Um=>?_,h.store,λd hd=>?_,λi hi Vj=>?_,YA⟩
   .rcases List.mem_append.1 hi with hi|hi
    .exact h.TM i hi Um
    .simp only[List.mem_singleton]at hi;rw[hi,UG]at Um;cases Um
   .have h1:=h.slot d λi hi Vj=>hd i (by simp[hi]) Vj;have h2:=hd e (by simp) Yz;rw[h1];simp only;cases Yy:(bB l e).dst with
    |none=>rfl
    |some d'=>
     rw[Yy]at h2;simp only[aX];rw[if_neg (λe'=>h2 (by rw[e']))]
   .by_cases Um:i=e
    .subst Um;unfold ZT;cases hd:(bB l i).dst with
     |none=>exact⟨v,hv⟩
     |some d=>
      simp only;have e1:aX x.s (some d) v d=v:=by simp[aX]
      rw[e1];exact(fS (λt ht=>by cases ht;exact hself d hd)).2 hv
    .have M':i∈done:=by
      rcases List.mem_append.1 hi with hi|hi
      .exact hi
      .simp only[List.mem_singleton]at hi;exact absurd hi Um
     have Uw:i<l.length:=hE.lt i (by rw[h.split];simp[M']);refine rO hE Uw Vq Um (λd hd hu=>?_) (λv hv=>hv) (h.lag i M' Vj);rcases hE.Zr i e Uw Vq Um d hd hu with h1|⟨h1,_⟩
     .obtain⟨a,b,WA⟩:=List.append_of_mem M';have h2:=hE.mA (a:=a) (j:=i) (b:=b++e::rest++tail) (by rw[h.split,WA];simp) e h1;exact hed (by rw[WA];simp[h2])
     .rw[UG]at h1;cases h1
def AO(hH:∀s∈S,∀(f:Nat) (L:List Nat) (y:St) (done rest:List Nat) (x:St),f+L.length=l.length->jE P l (nR D S s) (befs s) pre (Ks s) L y done rest x->ic P l (nR D S s) K f L y):
 ∀(f:Nat) (L:List Nat) (y:St) (done rest:List Nat) (x:St),f+L.length=l.length->(∀s∈S,s∉L)->jE P l D RR pre (λx=>∀s∈S,Ks s x) L y done rest x->ic P l D K f L y:=by
 have hE:=hF.e;obtain⟨s0,Sj⟩:=hF.some;have H':∀s∈S,s<l.length:=λs hs=>hE.lt s (by simp[hF.sub s hs]);have Wu:∀s∈S,s∉pre:=λs hs hm=>(List.nodup_append.1 hE.nodup).2.2 s hm s (hF.sub s hs) rfl;intro f
 induction f with
 |zero=>
  intro L y done rest x hf hSL h;exact absurd ((sU l.length L h.nodup λi hi=>hE.lt i (by rw[h.split];simp[h.sub i hi])).2 (by omega) s0 (H' s0 Sj)) (hSL s0 Sj)
 |succ f ih=>
  intro L y done rest x hf hSL h;obtain⟨done,rest,x,h,YW⟩:=jE.NA hF h;have Tm:=(List.nodup_append.1 hE.nodup).1;rw[h.split]at Tm;have hdp:∀i∈done,i∈pre:=λi hi=>by rw[h.split];simp[hi]
  have SJ:∀m∈L,∀d∈D.getD m [],d∈L:=h.closed;have hclS:∀s,∀m∈L,∀d∈(nR D S s).getD m [],d∈L:=λs m hm d hd=>by
   rw[yc (.inl λhs=>hSL m hs hm)]at hd;exact h.closed m hm d hd
  have take:rest=[]->∀s∈S,ic P l (nR D S s) K (f+1) L y:=λhr s hs=>by
   subst hr;have hdp':pre=done:=by rw[h.split];simp
   refine hH s hs (f+1) L y done [] x hf ⟨by rw[hdp'];simp,h.sub,h.nodup,hclS s,λi hi Um=>h.TM i hi (by rw[<-hF.agree s hs i (hdp i hi)];exact Um),h.store,h.slot,h.lag,?_⟩;exact h.go s hs
  have key:tv P l (ic P l D K f) L y (dU D L):=by
   refine oO λi hi=>?_;have hi0:=hi;obtain⟨Uw,Vj,XG⟩:=ug hi;rw[hE.Zq]at Uw;by_cases hiS:i∈S
   .have hm:i∈dU (nR D S i) L:=by
     unfold dU;refine List.mem_filter.2 ⟨by rw[yZ,hE.Zq];simpa using Uw,?_⟩;rw[yc (.inr rfl)];exact(List.mem_filter.1 hi).2
    have U':rest=[]:=by
     cases hrr:rest with
     |nil=>rfl
     |cons a rr=>
      exfalso;have ha:=YW a rr hrr;have hapre:a∈pre:=by rw[h.split,hrr];simp
      have hb:a∈eS RR i:=hF.TM pre tail a i rfl hapre (hF.sub i hiS) hapre ha;obtain⟨pa,pb,hpe⟩:=List.append_of_mem (hE.mem i Uw);have haL:a∈L:=hE.closed SJ hE.mem (pa.length+1) pa i pb (by omega) hpe (λd hd=>XG d hd) a hb;rw[hrr]at Tm;exact(List.nodup_append.1 Tm).2.2 a (h.sub a haL) a (by simp) rfl
    have h1:=take U' i hiS;unfold ic at h1;cases hr:dU (nR D S i) L with
    |nil=>rw[hr]at hm;cases hm
    |cons a r=>
     rw[hr]at h1 hm;obtain⟨ins,g1,g2⟩:=mL h1 i hm;exact⟨ins,g1,TC.mono (λx hx=>tO f _ x (by simp) hx) g2⟩
   refine⟨bB l i,by simp[bB,List.getElem?_eq_getElem Uw],?_⟩;obtain⟨pa,pb,hpe⟩:=List.append_of_mem (hE.mem i Uw);have US:∀j∈eS RR i,j∈L:=hE.closed SJ hE.mem (pa.length+1) pa i pb (by omega) hpe XG;have XH:∀u∈(bB l i).kE,x.s u=y.s u:=λu hu=>(h.slot u λj hj VF hd=>by
    have V6:j<l.length:=hE.lt j (by simp[hdp j hj]);by_cases Uv:j=i
    .subst Uv;cases Tt:dE l RR j with
     |true=>exact VF (h.TM j hj Tt)
     |false=>exact(gP Tt V6 (hE.mN V6)).2 u hd hu
    .rcases hE.Zr i j Uw V6 (λe=>Uv e.symm) u hd hu with h1|⟨h1,_⟩
     .exact VF (US j h1)
     .exact VF (h.TM j hj h1)).symm
   by_cases M':i∈done
   .have Um:dE l RR i=false:=by
     cases Um:dE l RR i with
     |false=>rfl
     |true=>exact absurd (h.TM i M' Um) Vj
    obtain⟨hk,_⟩:=gP Um Uw (hE.mN Uw);have hq:=h.lag i M' Vj;obtain⟨v,hv,hvd⟩:∃v,QY P (bB l i) x.s x.U v/\∀d,(bB l i).dst=some d->x.s d=v:=by
     unfold ZT at hq;cases hd:(bB l i).dst with
     |none=>rw[hd]at hq;obtain⟨v,hq⟩:=hq;exact⟨v,hq,by simp⟩
     |some d=>rw[hd]at hq;exact⟨_,hq,λd' e=>by cases e;rfl⟩
    refine .inl ((cA (by simp[fA,hk])).2 ⟨v,?_,?_⟩)
    .rw[h.store];exact yg XH hv
    .refine ih (i::L) _ done rest x (by simp only[List.length_cons];omega) (λs hs hm=>(List.mem_cons.1 hm).elim (λe=>hiS (e▸hs)) (hSL s hs)) ⟨h.split,λj hj=>?_,List.nodup_cons.2 ⟨Vj,h.nodup⟩,λm hm d hd=>?_,λj hj Tt=>by simp[h.TM j hj Tt],h.store,λd hd=>?_,λj hj VF=>h.lag j hj (λhm=>VF (by simp[hm])),h.go⟩
     .rcases List.mem_cons.1 hj with rfl|hj
      .exact M'
      .exact h.sub j hj
     .rcases List.mem_cons.1 hm with rfl|hm
      .simp[XG d hd]
      .simp[h.closed m hm d hd]
     .simp only;by_cases YB:(bB l i).dst=some d
      .rw[YB];simp only[aX];rw[if_pos trivial];exact(hvd d YB).symm
      .have h1:=h.slot d λj hj VF=>by
        by_cases Uv:j=i
        .rw[Uv];exact YB
        .exact hd j hj (by simp[Uv,VF])
       rw[<-h1];cases Yy:(bB l i).dst with
       |none=>rfl
       |some d'=>
        rw[Yy]at YB;simp only[aX];rw[if_neg (λe'=>YB (by rw[e']))]
   .have hir:i∈rest++tail:=by
     have:=hE.mem i Uw;rw[h.split,List.append_assoc]at this;exact(List.mem_append.1 this).resolve_left M'
    obtain⟨VP,rr,rfl⟩:∃a r,rest=a::r:=by
     cases rest with
     |nil=>
      exfalso;rw[List.nil_append]at hir;obtain⟨s,hs,hsb⟩:=hF.later i hir hiS;exact hSL s hs (US _ hsb)
     |cons a r=>exact⟨a,r,rfl⟩
    have UG:=YW VP rr rfl;have hh0:VP∉done:=λhm=>(List.nodup_append.1 Tm).2.2 VP hm VP (by simp) rfl;have hih:i=VP:=by
     rcases List.mem_cons.1 (show i∈VP::(rr++tail)from hir)with e|hir
     .exact e
     .exfalso;have:=hF.TM (done++[VP]) (rr++tail) VP i (by rw[h.split];simp) (by simp) hir (by rw[h.split];simp) UG;exact hh0 (h.sub _ (US _ this))
    subst hih;have TG:=h.go;rw[show eB l RR done (i::rr)=2*i::(Dc l RR done i++eB l RR (done++[i]) rr)from rfl,BW Uw]at TG;refine zO XH h.store.symm (λr Z' hK=>?_) TG;rw[Dc,if_pos UG]at hK;obtain⟨hck,YA⟩:=rQ (λk=>!(dE l RR k)&&(!(kf (bB l k).op)&&!((eS RR i).contains k))) (λj hj=>hE.lt j (by simp[hdp j hj])) hK;refine ih (i::L) _ (done++[i]) rr ⟨aX x.s (bB l i).dst r,Z'⟩ (by simp only[List.length_cons];omega) (λs hs hm=>(List.mem_cons.1 hm).elim (λe=>hiS (e▸hs)) (hSL s hs)) ⟨by rw[h.split];simp,λj hj=>?_,List.nodup_cons.2 ⟨Vj,h.nodup⟩,λm hm d hd=>?_,λj hj Tt=>?_,rfl,λd hd=>?_,λj hj VF=>?_,YA⟩
    .rcases List.mem_cons.1 hj with rfl|hj
     .simp
     .simp[h.sub j hj]
    .rcases List.mem_cons.1 hm with rfl|hm
     .simp[XG d hd]
     .simp[h.closed m hm d hd]
    .rcases List.mem_append.1 hj with hj|hj
     .simp[h.TM j hj Tt]
     .simp only[List.mem_singleton]at hj;simp[hj]
    .have h1:(bB l i).dst=some d\/y.s d=x.s d:=by
      by_cases YB:(bB l i).dst=some d
      .exact .inl YB
      .exact .inr (h.slot d λj hj VF=>hd j (by simp[hj]) (by
        simp only[List.mem_cons,not_or];exact⟨λe=>M' (e▸hj),VF⟩))
     simp only;cases Yy:(bB l i).dst with
     |none=>rw[Yy]at h1;exact h1.resolve_left (by simp)
     |some d'=>
      simp only[aX];split
      .rfl
      .rename_i R6;rw[Yy]at h1;exact h1.resolve_left (λe=>R6 (by cases e;rfl))
    .have Zs:j∈done:=by
      rcases List.mem_append.1 hj with hj|hj
      .exact hj
      .simp only[List.mem_singleton]at hj;exact absurd (by simp[hj]) VF
     have W7:j∉L:=λhm=>VF (by simp[hm]);have V6:j<l.length:=hE.lt j (by simp[hdp j Zs]);have Uv:j≠i:=λe=>M' (e▸Zs);have Tt:dE l RR j=false:=by
      cases Tt:dE l RR j with
      |false=>rfl
      |true=>exact absurd (h.TM j Zs Tt) W7
     cases hsf:kf (bB l j).op with
     |true=>
      refine rO hE V6 Uw Uv (λd hd hu=>?_) (λv hv=>jC hsf hv) (h.lag j Zs W7);rcases hE.Zr j i V6 Uw Uv d hd hu with h1|⟨_,h1⟩
      .obtain⟨a,b,WA⟩:=List.append_of_mem Zs;have h2:=hE.mA (a:=a) (j:=j) (b:=b++i::rr++tail) (by rw[h.split,WA];simp) i h1;exact M' (by rw[WA];simp[h2])
      .exact W7 (US j h1)
     |false=>
      refine hck j Zs ?_;simp only[Tt,hsf,Bool.not_false,Bool.true_and,Bool.not_eq_true'];cases hc:(eS RR i).contains j with
      |false=>rfl
      |true=>exact absurd (US j (List.contains_iff_mem.1 hc)) W7
  cases hr:dU D L with
  |cons a r=>unfold ic;rw[hr]at key|-;exact key
  |nil=>
   exfalso;have first:∀(a b:List Nat),pre++tail=a++b->(∀j∈a,j∈L)->(∃i∈b,i∉L)->∃a' e b',pre++tail=a'++e::b'/\(∀j∈a',j∈L)/\e∉L:=by
    intro a b
    induction b generalizing a with
    |nil=>rintro _ _ ⟨i,h,_⟩;cases h
    |cons e b ihb=>
     intro he ha hx;by_cases Yz:e∈L
     .refine ihb (a++[e]) (by rw[he];simp) (λj hj=>?_) ?_
      .rcases List.mem_append.1 hj with hj|hj
       .exact ha j hj
       .simp only[List.mem_singleton]at hj;rw[hj];exact Yz
      .obtain⟨i,hi,Vj⟩:=hx;rcases List.mem_cons.1 hi with rfl|hi
       .exact absurd Yz Vj
       .exact⟨i,hi,Vj⟩
     .exact⟨a,e,b,he,ha,Yz⟩
   obtain⟨a,e,b,he,ha,Yz⟩:=first [] (pre++tail) rfl (by simp) ⟨s0,by simp[hF.sub s0 Sj],hSL s0 Sj⟩
   have Vq:e<l.length:=hE.lt e (by rw[he];simp);have:e∈dU D L:=by
    unfold dU;refine List.mem_filter.2 ⟨by simp[hE.Zq,Vq],?_⟩;simp only[Ba,Bool.not_eq_true',List.all_eq_true];exact⟨by simpa using Yz,λd hd=>List.contains_iff_mem.2 (ha d (hE.ahead a e b he d hd))⟩
   rw[hr]at this;cases this
end
inductive PT where
 |leaf (RR:List (List Nat)) (r:List Nat)
 |fork (RR:List (List Nat)) (m:List Nat) (S:List Nat) (kids:List PT)
def PT.RR:PT->List (List Nat)
 |.leaf b _=>b
 |.fork b _ _ _=>b
def PT.ord:Nat->PT->List Nat
 |0,_=>[]
 |f+1,t=>match t with
  |.leaf _ r=>r
  |.fork _ m _ kids=>m++(match kids with
   |k::_=>PT.ord f k
   |[]=>[])
def CR(g:Nat->PT->Bool):List Nat->List PT->Bool
 |[],[]=>true
 |s::ss,t::ts=>g s t&&CR g ss ts
 |_,_=>false
def tT{g:Nat->PT->Bool}:∀{S:List Nat} {ts:List PT},CR g S ts=true->∀s∈S,∃t∈ts,g s t=true
 |[],[],_,s,hs=>by cases hs
 |a::S,t::ts,h,s,hs=>by
  simp only[CR,Ba]at h;rcases List.mem_cons.1 hs with rfl|hs
  .exact⟨t,by simp,h.1⟩
  .obtain⟨t',h1,h2⟩:=tT h.2 s hs;exact⟨t',by simp[h1],h2⟩
def II(l:List aN)(D RR:List (List Nat))(pre tail S:List Nat):Bool:=
 Il l D RR (pre++tail)&&(mv (λa b=>!(pre.contains a)||(!(dE l RR a)||(eS RR b).contains a)) (pre++tail)&&
 (S.all tail.contains&&(!S.isEmpty&&tail.all λi=>S.contains i||S.any λs=>(eS RR i).contains s)))
def Ff(l:List aN):Nat->List (List Nat)->List Nat->PT->Bool
 |0,_,_,_=>false
 |f+1,D,pre,t=>match t with
  |.leaf RR r=>eOk l D RR (pre++r)
  |.fork RR m S kids=>II l D RR (pre++m) (match kids with
    |k::_=>PT.ord f k
    |[]=>[]) S&&CR (λs k=>((pre++m).all λi=>dE l k.RR i==dE l RR i)&&Ff l f (nR D S s) (pre++m) k) S kids
def GT(P:Program)(l:List aN)(K:St->Prop):Nat->List Nat->PT->St->Prop
 |0,_,_,_=>False
 |f+1,pre,t,x=>match t with
  |.leaf RR r=>RE P l K (eB l RR pre r) x
  |.fork RR m _ kids=>RE P l (λx=>∀k∈kids,GT P l K f (pre++m) k x) (eB l RR pre m) x
def jE.more{l:List aN}{D RR:List (List Nat)}{pre m:List Nat}{K:St->Prop}{L:List Nat}{y:St}{done rest:List Nat}{x:St}(h:jE P l D RR pre (RE P l K (eB l RR pre m)) L y done rest x):
 jE P l D RR (pre++m) K L y done (rest++m) x:=by
 refine⟨by rw[h.split];simp,h.sub,h.nodup,h.closed,h.TM,h.store,h.slot,h.lag,?_⟩;rw[mZ,vJ,<-h.split];exact h.go
def jE.mono{l:List aN}{D RR:List (List Nat)}{pre:List Nat}{K K':St->Prop}(hk:∀x,K x->K' x){L:List Nat}{y:St}{done rest:List Nat}{x:St}(h:jE P l D RR pre K L y done rest x):
 jE P l D RR pre K' L y done rest x:=⟨h.split,h.sub,h.nodup,h.closed,h.TM,h.store,h.slot,h.lag,RE.mono hk h.go⟩
def CT{l:List aN}{K:St->Prop}:∀(fu:Nat) (D:List (List Nat)) (pre:List Nat) (t:PT),Ff l fu D pre t=true->∀(f:Nat) (L:List Nat) (y:St) (done rest:List Nat) (x:St),f+L.length=l.length->
 (∀i∈L,i∈pre)->jE P l D t.RR pre (GT P l K fu pre t) L y done rest x->ic P l D K f L y
 |0,_,_,_,h,_,_,_,_,_,_,_,_,_=>by cases h
 |fu+1,D,pre,t,h,f,L,y,done,rest,x,hf,hLp,hl=>by
  cases t with
  |leaf RR r=>exact ov (x9 h) f L y done (rest++r) x hf (jE.more hl)
  |fork RR m S kids=>
   simp only[Ff,Ba]at h;obtain⟨h1,h2⟩:=h;generalize (match kids with
    |k::_=>PT.ord fu k
    |[]=>[])=tail at h1
   simp only[II,Ba]at h1;obtain⟨g1,g2,g3,g4,g5⟩:=h1;have hk:=tT h2;have hW:=vS g1;have hF:∀kid:Nat->PT,(∀s∈S,((pre++m).all λi=>dE l (kid s).RR i==dE l RR i)=true)->FN l D RR (pre++m) tail S (λs=>(kid s).RR):=λkid WD=>by
    refine⟨hW,λa b u v he hu hv hup hue=>?_,λs hs=>by simpa using List.all_eq_true.1 g3 s hs,?_,λi hi hiS=>?_,λs hs i hi=>by simpa using List.all_eq_true.1 (WD s hs) i hi⟩
    .rw[he]at g2;have:=l6 g2 hu hv;simp only[Bool.or_eq_true,Bool.not_eq_true',List.contains_iff_mem,hue,Bool.true_eq_false,false_or]at this;rcases this with h|h
     .have hc:(pre++m).contains u=true:=List.contains_iff_mem.2 hup;rw[hc]at h;cases h
     .exact h
    .cases S with
     |nil=>simp at g4
     |cons s S=>exact⟨s,by simp⟩
    .have:=List.all_eq_true.1 g5 i hi;simp only[Bool.or_eq_true,List.contains_iff_mem,List.any_eq_true]at this;exact this.resolve_left hiS
   have hch:∀s,∃k:PT,s∈S->(k∈kids/\(((pre++m).all λi=>dE l k.RR i==dE l RR i)=true/\Ff l fu (nR D S s) (pre++m) k=true)):=λs=>by
    by_cases hs:s∈S
    .obtain⟨k,h3,h4⟩:=hk s hs;simp only[Ba]at h4;exact⟨k,λ_=>⟨h3,h4⟩⟩
    .exact⟨.leaf [] [],λh=>absurd h hs⟩
   obtain⟨kid,WD⟩:=Classical.axiomOfChoice hch;have hFN:=hF kid λs hs=>(WD s hs).2.1;have hSpre:∀s∈S,s∉pre++m:=λs hs hm=>(List.nodup_append.1 hW.nodup).2.2 s hm s (hFN.sub s hs) rfl;refine AO (Ks:=λs=>GT P l K fu (pre++m) (kid s)) hFN (λs hs f L y done rest x hf hl=>?_) f L y done (rest++m) x hf (λs hs hm=>hSpre s hs (List.mem_append_left _ (hLp s hm))) ?_
   .refine CT fu _ _ _ (WD s hs).2.2 f L y done rest x hf (λi hi=>?_) hl;have:=hl.sub i hi;rw[hl.split];simp[this]
   .exact jE.mono (λx hx s hs=>hx (kid s) (WD s hs).1) (jE.more hl)
def ad.Dl(hm:P.follows .mixedOrders=true){l:List aN}{RS:List (List Nat)}(fu:Nat)(t:PT)(hB:Ff l fu RS [] t=true)(h:GT P l (λx=>ad P n k x Q) fu [] t st):ad P n (.code (.SO l RS)::k) st Q:=by
 refine ad.I2 hm (CT fu RS [] t hB l.length [] st [] [] st (by simp) (by simp) ⟨rfl,by simp,List.nodup_nil,by simp,by simp,rfl,λ_ _=>rfl,by simp,?_⟩);exact h
variable {P:Program} {l:List aN} {K:St->Prop} {f:Nat} {pre m S r its:List Nat} {RR:List (List Nat)} {a b c:PT} {x:St}
def GT.iK(h:eB l RR pre r=its)(hg:RE P l K its x):GT P l K (f+1) pre (.leaf RR r) x:=by subst h;exact hg
def GT.o9(h:eB l RR pre m=its)(hg:RE P l (λx=>GT P l K f (pre++m) a x/\GT P l K f (pre++m) b x) its x):GT P l K (f+1) pre (.fork RR m S [a,b]) x:=by
 subst h;refine RE.mono (λx hx k hk=>?_) hg;simp only[List.mem_cons,List.not_mem_nil,or_false]at hk;rcases hk with rfl|rfl
 .exact hx.1
 .exact hx.2
def GT.Oa(h:eB l RR pre m=its)(hg:RE P l (λx=>GT P l K f (pre++m) a x/\GT P l K f (pre++m) b x/\GT P l K f (pre++m) c x) its x):GT P l K (f+1) pre (.fork RR m S [a,b,c]) x:=by
 subst h;refine RE.mono (λx hx k hk=>?_) hg;simp only[List.mem_cons,List.not_mem_nil,or_false]at hk;rcases hk with rfl|rfl|rfl
 .exact hx.1
 .exact hx.2.1
 .exact hx.2.2
open Go.Proofs Go.Proofs.Tryz
def nV(fs:List P')(y:Int):Int:=if(ee uz fs).2 then max y (ee uz fs).1 else y
def kL(fs:List P')(f:P')(y:Int)(s:Sz):Int:=oG fs f.w f.h s (nV fs y)
def oL(fs:List P')(f:P')(y:Int)(s:Sz):Int:=
 let b:=dX fs (kL fs f y s) f.h s
 if f.side=1 then b.a else max b.a (b.b-f.w)
def jM(fs:List P')(f:P')(y:Int)(s:Sz):P':={ f with x:=oL fs f y s,y:=kL fs f y s }
def tB(fs:List P')(f:P')(y:Int)(s:Sz):List P':=fs++[jM fs f y s]
def H4{fs:List P'}{y:Int}(RC:∀f∈fs,f.ok)(hy:Ty y):Ty (nV fs y):=by
 unfold nV;split
 .rename_i h;obtain⟨f,hf,h1,_⟩:=kZ h;obtain⟨_,⟨h3,h4⟩,_⟩:=RC f hf;obtain⟨g1,g2⟩:=hy;rw[h1];simp only[uz];exact⟨by omega,by omega⟩
 .exact hy
def M5(fs:List P')(f:P')(y:Int)(s:Sz)(hl:fs.length<=1000000)(RC:∀f∈fs,f.ok)(hy:Ty y)(hh:Bq f.h)(hw:Bq f.w)(TI:Ty s.a/\Ty s.b):
 aV prog 270 [aH fs,aQ f,vI y,aZ s] (.RB [vI (oL fs f y s),vI (kL fs f y s)]):=λU=>by
 refine Pw.r (by simp[LG]) ?_;have hs:=aa.refl U;refine ad.mix 14 ?_;apply sR;simp only[go_sem,seval,LG,aQ,aZ];refine af λi5 Z5 s5 a5 f5=>?_;have z5:=hs.none f5;replace hs:=hs.trans s5;simp only[go_sem,seval,a5];refine af λi7 Z7 s7 a7 f7=>?_;have n57:=aq a5 f7;replace a5:=s7 _ _ a5;have z7:=hs.none f7;replace hs:=hs.trans s7;simp only[go_sem,seval,a7,a5];refine ad.aB rfl rfl rfl (NP fs hl RC _) ?_;have W1:=H4 (y:=y) RC hy;have X8:=Ig fs f (nV fs y) s hl RC W1 hh TI;have hbo:=lZ (y:=kL fs f y s) (high:=f.h) RC TI;obtain⟨z,hz⟩:∃z,z=kL fs f y s:=⟨_,rfl⟩
 have hz2:oG fs f.w f.h s (nV fs y)=z:=hz.symm;rw[hz2]at X8;rw[<-hz]at hbo;obtain⟨b,hb⟩:∃b,b=dX fs z f.h s:=⟨_,rfl⟩
 have hx:oL fs f y s=if f.side=1 then b.a else max b.a (b.b-f.w):=by unfold oL;rw[<-hz,<-hb]
 rw[<-hz,hx];rw[<-hb]at X8 hbo;obtain⟨Ww,Sx,hb3,hb4⟩:-2305843009213693952<=b.a/\b.a<=2305843009213693952/\-2305843009213693952<=b.b/\b.b<=2305843009213693952:=⟨hbo.1.1,hbo.1.2,hbo.2.1,hbo.2.2⟩
 obtain⟨hw1,VC⟩:=hw;cases ht:(ee uz fs).2
 .have hty2:nV fs y=y:=by unfold nV;rw[ht];rfl
  rw[hty2]at X8;apply sR;simp only[go_sem,seval,a7,a5,au,ar];refine ad.aB rfl rfl rfl (X8 _) ?_;apply sR;simp only[go_sem,seval,a7,a5,aZ];refine af λTi Z12 Xg a12 f12=>?_;have n512:=aq a5 f12;replace a5:=Xg _ _ a5;have n712:=aq a7 f12;replace a7:=Xg _ _ a7;have z12:=hs.none f12;replace hs:=hs.trans Xg;by_cases UZ:f.side=1
  .have q:(f.side=1)=True:=eq_true UZ;rw[if_pos UZ];simp only[go_sem,seval,a12,a7,a5,q,ab n512,ab n712];exact ay.pure (hs.aE z12) rfl
  .have q:(f.side=1)=False:=eq_false UZ;rw[if_neg UZ];have r1:RM .i64 (b.b-f.w):=ao (by omega) (by omega);simp only[go_sem,seval,a12,a7,a5,q,r1,dg,ab n512,ab n712];exact ay.pure (hs.aE z12) rfl
 .have hty2:nV fs y=max y (ee uz fs).1:=by unfold nV;rw[ht];rfl
  rw[hty2]at X8;apply sR;simp only[go_sem,seval,a7,a5,au,ar,dg];refine ad.aB rfl rfl rfl (X8 _) ?_;apply sR;simp only[go_sem,seval,a7,a5,aZ];refine af λTi Z12 Xg a12 f12=>?_;have n512:=aq a5 f12;replace a5:=Xg _ _ a5;have n712:=aq a7 f12;replace a7:=Xg _ _ a7;have z12:=hs.none f12;replace hs:=hs.trans Xg;by_cases UZ:f.side=1
  .have q:(f.side=1)=True:=eq_true UZ;rw[if_pos UZ];simp only[go_sem,seval,a12,a7,a5,q,ab n512,ab n712];exact ay.pure (hs.aE z12) rfl
  .have q:(f.side=1)=False:=eq_false UZ;rw[if_neg UZ];have r1:RM .i64 (b.b-f.w):=ao (by omega) (by omega);simp only[go_sem,seval,a12,a7,a5,q,r1,dg,ab n512,ab n712];exact ay.pure (hs.aE z12) rfl
open Go.Proofs Go.Proofs.Tryz
def cS(p:Int->Bool):List Int->Int
 |[]=>-1
 |x::l=>if p x then 0 else if cS p l<0 then -1 else cS p l+1
def oH(p:Int->Bool)(i:Nat)(l:List Int):Int:=if cS p l<0 then -1 else cS p l+i
def iq(p:Int->Bool):∀l,-1<=cS p l
 |[]=>by simp[cS]
 |x::l=>by
  have:=iq p l;simp only[cS];split
  .omega
  .split<;>omega
def Dj(p:Int->Bool)(l:List Int):cS p l=oH p 0 l:=by
 have:=iq p l;unfold oH;split<;>omega
def lG{U:ai}{sv:V}{l:List Int}{f:FuncId}{caps:List V}{p:Int->Bool}(hr:Reads U 1 false sv (l.map vI))(hl:l.length<=200000000000000)
 (hf:∀n∈l,aD prog f (vI n::caps) U λr Z'=>r=.bool (p n)/\Z'=U):
 aD prog 212 [sv,.fn f caps] U λr Z'=>r=vI (cS p l)/\Z'=U:=by
 have hlen:dy false sv=some (vI (l.length:Int)):=by simpa using hr.1
 refine QN.r (by simp[MU]) ?_;apply sR;simp only[go_sem,seval,aO,aP,MU,hlen];refine ad.loop (λm st=>∃i:Nat,i<=l.length/\m=l.length-i/\cS p l=oH p i (l.drop i)/\st.U=U/\st.s 0=sv/\st.s 1=.fn f caps/\st.s 7=vI l.length/\st.s 8=vI i) l.length ?_ ?_
 .exact⟨0,by omega,by omega,Dj p l,rfl,rfl,rfl,rfl,rfl⟩
 .rintro m ⟨s,Z'⟩ ⟨i,hi,rfl,hp,R3,h0,h1,h7,h8⟩;simp only at h0 h1 h7 h8 R3;subst R3;apply sR;simp only[go_sem,seval,aO,aP,h0,h1,h7,h8];constructor
  .intro H';have To:i<l.length:=by omega
   have hd:l.drop i=l[i]::l.drop (i+1):=List.drop_eq_getElem_cons To;obtain⟨pp,e1,e2⟩:=hr.2 i (vI l[i]) (by simp[To]);simp only[go_sem,seval,aO,aP,e1,e2,ux];refine ad.aB rfl rfl rfl (hf l[i] (List.getElem_mem To)) ?_;apply sR;simp only[go_sem,seval,aO,aP,h0,h1,h7,h8];cases hpx:p l[i]
   .simp only[go_sem,seval,aO,aP,h8];refine⟨ao (by omega) (by omega),_,?_,i+1,by omega,rfl,?_,h0,h1,h7,?_⟩
    .omega
    .rw[hp,hd];simp only[oH,cS,hpx,Bool.false_eq_true,if_false];have:=iq p (l.drop (i+1))
     repeat' split
     all_goals omega
    .simp
   .simp only[go_sem,seval,aO,aP];refine ay.same ?_;rw[hp,hd];simp[oH,cS,hpx]
  .intro We;have:i=l.length:=by omega
   refine ay.same ?_;rw[hp,this,List.drop_length];rfl
open Go.Proofs Go.Proofs.Tryz
def Nd.ok(x:Nd):Bool:=
 if x.kind=1 then x.st.ok&&decide (x.line=0)&&decide (x.space=0)&&decide (x.words.length=0)&&decide (x.side=0)&&decide (x.w=0)&&decide (x.h=0)
 else if x.st≠SW.zero then false
 else if x.kind=2 then x.words.all (br · 1 mx)&&decide (0<x.words.length)&&br x.line 1 mx&&br x.space 0 mx&&decide (x.side=0)&&decide (x.w=0)&&decide (x.h=0)
 else decide (x.line=0)&&decide (x.space=0)&&decide (x.words.length=0)&&br x.w 1 mx&&br x.h 1 mx&&
  (decide (x.kind=3)&&decide (x.side=0)||decide (x.kind=4)&&br x.side 1 2)
def dJ(l:List Int):dy false (bn l)=some (.int .i64 l.length):=by simp[bn,dy]
def tN(b:Bool):V.bool b=V.bool (decide (b=true)):=by cases b<;>rfl
open Go.Proofs Go.Proofs.Tryz
def lY{U:ai}{l:List Nd}{i:Nat}(h:i<l.length):bQ U 20 (aK l) (.int .i64 i)=some (.rp (.agg (Nd.cells l[i]))):=by
 simp[aK,bQ,h,iz]
def cq(l:List Nd)(a e:Nat):Bool:=
 if _h:a<e then
  match l[a]? with
  |none=>false
  |some x=>if _hx:1<=x.size/\x.size<=(e:Int)-a then
     (decide (x.kind=1)||decide (x.size<=1))&&cq l (a+1) (a+x.size.toNat)&&cq l (a+x.size.toNat) e else false
 else true
termination_by e-a
decreasing_by all_goals omega
open Go.Proofs Go.Proofs.Tryz
def dH(l:List Nd):Prop:=l.length<=10000/\∀x∈l,x.words.length<=200000000000000
def So(l:List Nd):Bool:=l.all Nd.ok&&cq l 0 l.length
def uC(U:ai)(x:Nd):bT U true 20 (.rp (.agg x.cells))=some (iz x):=rfl
open Go.Proofs Go.Proofs.Tryz
def iC(l:List Nd):∀(m a e:Nat),e-a<m->e<=l.length->cq l a e=true->∀k,a<=k->(h:k<e)->(h2:k<l.length)->1<=l[k].size/\l[k].size<=(e:Int)-k/\(l[k].kind=1\/l[k].size<=1)
 |0,_,_,h,_,_=>by omega
 |m+1,a,e,hm,he,hr=>by
  intro k hk hke h2;have Xa:a<e:=by omega
  have ha:a<l.length:=by omega
  rw[cq,dif_pos Xa]at hr;have hga:l[a]?=some l[a]:=by simp[ha]
  rw[hga]at hr;simp only at hr;split at hr
  .rename_i hx;simp only[Ba,Bool.or_eq_true,decide_eq_true_eq]at hr;obtain⟨⟨h3,h4⟩,h5⟩:=hr;by_cases hka:k=a
   .subst hka;exact⟨hx.1,hx.2,h3⟩
   .by_cases X9:k<a+l[a].size.toNat
    .obtain⟨g1,g2,g3⟩:=iC l m (a+1) (a+l[a].size.toNat) (by omega) (by omega) h4 k (by omega) X9 h2;exact⟨g1,by omega,g3⟩
    .exact iC l m (a+l[a].size.toNat) e (by omega) he h5 k (by omega) hke h2
  .cases hr
structure Sm where
 (depth pieces nodes O':Int)
deriving DecidableEq
def Sm.cells(s:Sm):List V:=[vI s.depth,vI s.pieces,vI s.nodes,vI s.O']
def jz(a b:Int):Int:=min (a+b) 1099511627777
def iI(l:List Nd)(i:Nat):Nat->Int
 |0=>0
 |k+1=>iI l i k+(match l[k]? with
  |some y=>if y.kind=1/\(i:Int)<k+y.size then 1 else 0
  |none=>0)
def Bw(a b:Int):Nat->Int
 |0=>a
 |n+1=>jz (Bw a b n) b
def nN(l:List Nd)(i:Nat)(x:Nd)(s:Sm):Sm:=
 if x.kind=1 then{ s with depth:=max s.depth (iI l i (i+1)),O':=jz (jz (jz (jz (jz s.O' x.st.top) x.st.RT) x.st.RI) x.st.Rx) x.st.head }
 else if x.kind=2 then{ s with pieces:=s.pieces+x.words.length,O':=Bw s.O' x.line x.words.length }
 else{ s with pieces:=s.pieces+1,O':=jz s.O' x.h }
def gM(l:List Nd)(s:Sm):Nat->Sm
 |0=>s
 |i+1=>match l[i]? with
  |some x=>nN l i x (gM l s i)
  |none=>gM l s i
def iQ(l:List Nd):Sm×Int:=if So l then(gM l ⟨0,0,l.length,0⟩ l.length,0)else(⟨0,0,0,0⟩,4)
def gb{a b:Int}(h1:0<=a/\a<=1099511627777)(h2:0<=b):0<=jz a b/\jz a b<=1099511627777:=by
 unfold jz;omega
def BT{a b:Int}(h1:0<=a/\a<=1099511627777)(h2:0<=b):∀n,0<=Bw a b n/\Bw a b n<=1099511627777
 |0=>h1
 |n+1=>gb (BT h1 h2 n) h2
def sk(l:List Nd)(i:Nat):∀k,0<=iI l i k/\iI l i k<=k
 |0=>by simp[iI]
 |k+1=>by
  have:=sk l i k;simp only[iI];split
  .split<;>omega
  .omega
def jG{x:Nd}(h:x.ok=true):(x.kind=1\/x.kind=2\/x.kind=3\/x.kind=4)/\0<=x.line/\x.line<=mx/\0<=x.h/\x.h<=mx/\
 (x.kind=1->(0<=x.st.top/\x.st.top<=mx)/\(0<=x.st.RT/\x.st.RT<=mx)/\(0<=x.st.RI/\x.st.RI<=mx)/\(0<=x.st.Rx/\x.st.Rx<=mx)/\(0<=x.st.head/\x.st.head<=mx)):=by
 unfold Nd.ok at h;split at h
 .rename_i hk;simp only[SW.ok,br,Ba,decide_eq_true_eq]at h|-;simp only[mx]at h|-;refine⟨.inl hk,by omega,by omega,by omega,by omega,λ_=>?_⟩;omega
 .split at h
  .cases h
  .split at h
   .rename_i h1 _ hk;simp only[br,Ba,decide_eq_true_eq]at h|-;simp only[mx]at h|-;exact⟨.inr (.inl hk),by omega,by omega,by omega,by omega,λe=>absurd e h1⟩
   .rename_i h1 _ _;simp only[br,Ba,Bool.or_eq_true,decide_eq_true_eq]at h|-;simp only[mx]at h|-;exact⟨by omega,by omega,by omega,by omega,by omega,λe=>absurd e h1⟩
def Sm.rE(s:Sm)(k:Int):Prop:=(0<=s.depth/\s.depth<=k)/\(0<=s.pieces/\s.pieces<=k*200000000000000)/\(0<=s.O'/\s.O'<=1099511627777)
def C3{l:List Nd}{i:Nat}{x:Nd}{s:Sm}(hx:x.ok=true)(hw:x.words.length<=200000000000000)(h:s.rE i):(nN l i x s).rE (i+1):=by
 obtain⟨h1,h2,h3⟩:=h;obtain⟨g1,g2,g3,g4,g5,g6⟩:=jG hx;unfold nN;split
 .rename_i hk;obtain⟨a1,a2,a3,a4,a5⟩:=g6 hk;have hd:=sk l i (i+1);refine⟨?_,?_,gb (gb (gb (gb (gb h3 a1.1) a2.1) a3.1) a4.1) a5.1⟩
  .simp only;omega
  .simp only;omega
 .split
  .refine⟨?_,?_,BT h3 g2 _⟩
   .simp only;omega
   .simp only;omega
  .refine⟨?_,?_,gb h3 g4⟩
   .simp only;omega
   .simp only;omega
open Go.Proofs Go.Proofs.Tryz
def Sm.zero:Sm:=⟨0,0,0,0⟩
open Go.Proofs Go.Proofs.Tryz
def sd(p:Int->Bool):∀l,decide (cS p l>=0)=l.any p
 |[]=>by simp[cS]
 |x::l=>by
  have ih:=sd p l;simp only[cS,List.any_cons];have hg:=iq p l;rw[<-ih,Bool.eq_iff_iff];simp only[decide_eq_true_eq,Bool.or_eq_true];split
  .rename_i h;simp[h]
  .rename_i h;simp only[h,Bool.false_eq_true,false_or];by_cases hx:cS p l<0
   .rw[if_pos hx];constructor<;>intro hh<;>simp at hh|-<;>omega
   .rw[if_neg hx];constructor<;>intro hh<;>simp at hh|-<;>omega
def lM{U:ai}{sv:V}{l:List Int}{f:FuncId}{caps:List V}{p:Int->Bool}(hr:Reads U 1 false sv (l.map vI))(hl:l.length<=200000000000000)
 (hf:∀n∈l,aD prog f (vI n::caps) U λr Z'=>r=.bool (p n)/\Z'=U):
 aD prog 257 [sv,.fn f caps] U λr Z'=>r=.bool (l.any p)/\Z'=U:=by
 refine O9.r (by simp[M6]) ?_;apply sR;simp only[go_sem,seval,aO,aP,M6];refine ad.aB rfl rfl rfl (lG hr hl hf) ?_;apply sR;simp only[go_sem,seval,aO,aP];refine ay.same ?_;rw[<-sd]
def MD{U:ai}{id:Nat}{a b:Int}(h:U id=some ⟨301,2,[.agg [vI a,vI b]]⟩)(n:Int):
 aD prog 258 [vI n,.ptr id 0 0] U λr Z'=>r=.bool (!br n a b)/\Z'=U:=by
 refine Pj.r (by simp[Jt]) ?_;apply sR;simp only[go_sem,seval,aO,aP,Jt,h];refine And.intro (λh=>?_) (λh=>?_)
 .refine ay.same ?_;congr 1;simp only[br];rw[<-decide_not,decide_eq_decide];omega
 .refine ay.same ?_;have:¬(n>=a/\n<=b):=by omega
  simp only[br,this,decide_false,Bool.not_false]
def Reads.mono{U Z':ai}{sz:Nat}{agg:Bool}{sv:V}{rows:List V}(h:aa U Z')(hr:Reads U sz agg sv rows):Reads Z' sz agg sv rows:=by
 refine⟨hr.1,λi v hv=>?_⟩;obtain⟨p,h1,h2⟩:=hr.2 i v hv;refine⟨p,?_,?_⟩
 .cases sv<;>simp only[bQ,reduceCtorEq]at h1|-
  .exact h1
  .rename_i id off len;cases ho:U id with
   |none=>rw[ho]at h1;cases h1
   |some ob=>rw[ho]at h1;rw[h id ob ho];exact h1
 .cases p<;>simp only[bT,reduceCtorEq]at h2|-
  .rename_i id i k;cases ho:U id with
   |none=>rw[ho]at h2;cases h2
   |some ob=>rw[ho]at h2;rw[h id ob ho];exact h2
  .exact h2
def IY{U:ai}{sv:V}{l:List Int}{a b:Int}(hr:Reads U 1 false sv (l.map vI))(hl:l.length<=200000000000000):
 aD prog 211 [.agg [vI a,vI b],sv] U λr Z'=>r=.bool (l.all λn=>br n a b)/\Z'=U:=by
 refine PX.r (by simp[Lr]) ?_;apply sR;simp only[go_sem,seval,aO,aP,Lr];intro id M';refine ad.aB rfl rfl rfl (lM (p:=λn=>!br n a b) (hr.mono ((aa.refl U).C' M')) hl (λn _=>MD ag n)) ?_;apply sR;simp only[go_sem,seval,aO,aP];refine ay.pure ((aa.refl U).C' M') ?_;rw[List.all_eq_not_any_not]
open Go.Proofs Go.Proofs.Tryz
def gd:List V->Option (List Int)
 |[]=>some []
 |.int .i64 n::l=>(gd l).map (n::·)
 |_=>none
def kY:∀{l:List V} {m:List Int},gd l=some m->l=m.map vI
 |[],m,h=>by simp[gd]at h;subst h;rfl
 |v::l,m,h=>by
  cases v<;>try (simp[gd]at h)
  rename_i k n;cases k<;>try (simp[gd]at h)
  obtain⟨m',h1,rfl⟩:=h;rw[kY h1];rfl
def uu(m:List Int):gd (m.map vI)=some m:=by
 induction m with
 |nil=>rfl
 |cons n m ih=>simp[gd,ih]
def fv(U:ai):V->Option (List Int)
 |.own id off len=>match U id with
   |some ob=>if ob.sz=1/\off+len<=ob.rows.length/\len<=200000000000000 then(if(gd ob.rows).isSome then gd ((ob.rows.drop off).take len)else none)else none
   |none=>none
 |.sl 1 rows=>if rows.length<=200000000000000 then gd rows else none
 |_=>none
def me{U:ai}{sv:V}{l:List Int}(h:fv U sv=some l):Reads U 1 false sv (l.map vI)/\l.length<=200000000000000:=by
 unfold fv at h;split at h
 .rename_i id off len;split at h
  .rename_i ob Sw;split at h
   .rename_i hc;split at h
    .rename_i hi;have he:=kY h;obtain⟨m,hm⟩:=Option.isSome_iff_exists.1 hi;have hm:=kY hm;have hr:=Reads.own (U:=U) Sw hc.1 hc.2.1 (λr hr=>by rw[hm]at hr;simp only[List.mem_map]at hr;obtain⟨n,_,rfl⟩:=hr;rfl);rw[he]at hr;have hl:l.length=len:=by
      have:=congrArg List.length he;simp at this;omega
     exact⟨hr,by omega⟩
    .cases h
   .cases h
  .cases h
 .rename_i rows;split at h
  .rename_i hc;have he:=kY h;subst he;exact⟨Reads.ints,by simpa using hc⟩
  .cases h
 .cases h
def nz{U Z':ai}(hs:aa U Z'){sv:V}{l:List Int}(h:fv U sv=some l):fv Z' sv=some l:=by
 unfold fv at h|-;split at h
 .split at h
  .rename_i ob Sw;simp only[hs _ _ Sw];exact h
  .cases h
 .exact h
 .cases h
def nh(U:ai){l:List Int}(h:l.length<=200000000000000):fv U (bn l)=some l:=by
 simp only[bn,fv,List.length_map,if_pos h];exact uu l
def o10(f:FuncId)(args:List V)(U:ai):Option V:=if f=211 then(match args with
 |[.agg [.int .i64 a,.int .i64 b],sv]=>(fv U sv).map λl=>.bool (l.all λn=>br n a b)
 |_=>none)else none
def O10:TJ prog where
 get:=o10
 up f args U Z' v hs h:=by
  unfold o10 at h|-;split at h
  .rename_i hf;rw[if_pos hf];split at h
   .simp only[Option.map_eq_some_iff]at h|-;obtain⟨l,h1,h2⟩:=h;exact⟨l,nz hs h1,h2⟩
   .cases h
  .cases h
 ok f args U v h:=by
  unfold o10 at h;split at h
  .rename_i hf;subst hf;split at h
   .simp only[Option.map_eq_some_iff]at h;obtain⟨l,h1,rfl⟩:=h;obtain⟨g1,g2⟩:=me h1;exact IY g1 g2
   .cases h
  .cases h
def tp(a b:Int)(sv:V)(U:ai):O10.get 211 [.agg [.int .i64 a,.int .i64 b],sv] U=(fv U sv).map λl=>.bool (l.all λn=>br n a b):=rfl
def cY(U:ai)(id off len:Nat):fv U (.own id off len)=match U id with
 |some ob=>if ob.sz=1/\off+len<=ob.rows.length/\len<=200000000000000 then(if(gd ob.rows).isSome then gd ((ob.rows.drop off).take len)else none)else none
 |none=>none:=rfl
def eg(n:Int)(l:List V):gd (.int .i64 n::l)=(gd l).map (n::·):=rfl
def ei:gd []=some []:=rfl
def Gj(s:SW):aV prog 210 [.agg s.cells] (.bool s.ok):=λU=>by
 refine QX.r (by simp[K2]) ?_;refine ad.mix 6 ?_
 (refine ad.bN O10 300 ?_;simp only[go_sem,seval,K2,SW.cells])
 refine af λU4 Z1 s1 a1 f1=>?_;simp only[go_sem,seval];refine af λid3 Z2 s2 a3 f3=>?_;have Vt:=aq a1 f3;have a1:=s2 _ _ a1;simp only[go_sem,seval,a1];refine af λVk Z3 s3 a4 f4=>?_;have n14:=aq a1 f4;have YU:=aq a3 f4;have a1:=s3 _ _ a1;have a3:=s3 _ _ a3;have hs:aa U Z3:=(s1.trans s2).trans s3;have g3:U id3=none:=s1.none f3;have g4:U Vk=none:=(s1.trans s2).none f4;simp only[go_sem,seval,a1,a3,a4,ab YU,ab YU.symm,ab Vt,ab n14];have RP:=λo o'=>(hs.aE (o:=o) g3).aE (o:=o') g4;refine af λVl Z4 s4 a5 f5=>?_;have a1:=s4 U4 _ (by rw[ab n14,ab Vt];exact a1);have a4:=s4 Vk _ ag;have hs:=(RP _ _).trans s4;simp only[go_sem,seval,a1,a4,a5,tp,cY,eg,ei,br,<-Bool.decide_and];refine And.intro (λp0=>?_) (λp0=>ay.pure hs (by rw[V.bool.injEq];symm;rw[Bool.eq_false_iff];intro h;simp[SW.ok,br,mx]at h;omega));refine af λYD Z5 s5 a6 f6=>?_;have a1:=s5 _ _ a1;have hs:=hs.trans s5;simp only[go_sem,seval,a1,a6,tp,cY,eg,ei,br,<-Bool.decide_and];refine And.intro (λp1=>?_) (λp1=>ay.pure hs (by rw[V.bool.injEq];symm;rw[Bool.eq_false_iff];intro h;simp[SW.ok,br,mx]at h;omega));refine af λid7 Z6 s6 a7 f7=>?_;have a1:=s6 _ _ a1;have hs:=hs.trans s6;simp only[go_sem,seval,a1,a7,tp,cY,eg,ei,br,<-Bool.decide_and];refine And.intro (λp2=>?_) (λp2=>ay.pure hs (by rw[V.bool.injEq];symm;rw[Bool.eq_false_iff];intro h;simp[SW.ok,br,mx]at h;omega));refine af λid8 Z7 s7 a8 f8=>?_;have a1:=s7 _ _ a1;have hs:=hs.trans s7;simp only[go_sem,seval,a1,a8,tp,cY,eg,ei,br,<-Bool.decide_and];refine And.intro (λp3=>?_) (λp3=>ay.pure hs (by rw[V.bool.injEq];symm;rw[Bool.eq_false_iff];intro h;simp[SW.ok,br,mx]at h;omega));refine af λWg Z8 s8 a9 f9=>?_;have a1:=s8 _ _ a1;have hs:=hs.trans s8;simp only[go_sem,seval,a1,a9,tp,cY,eg,ei,br,<-Bool.decide_and];refine ay.pure hs ?_;rw[V.bool.injEq,Bool.eq_iff_iff];simp[SW.ok,br,mx];omega
open Go.Proofs Go.Proofs.Tryz
def gY(l:List Nd):Int:=if So l then(if(iQ l).1.depth>16\/(iQ l).1.pieces>2000\/(iQ l).1.nodes>2000\/(iQ l).1.O'>1099511627776 then 2 else 0)else 4
open Go.Proofs Go.Proofs.Tryz
def o12(f:FuncId)(args:List V)(U:ai):Option V:=if f=211 then(match args with
 |[.agg [.int .i64 a,.int .i64 b],sv]=>(fv U sv).map λl=>.bool (l.all λn=>br n a b)
 |_=>none)else if f=210 then(match args with
 |[.agg [.int .i64 a,.int .i64 b,.int .i64 c,.int .i64 d,.int .i64 e,.int .i64 f,.int .i64 g,.int .i64 h,.int .i64 i,.int .i64 j,.int .i64 k,.int .i64 l]]=>some (.bool (SW.ok ⟨a,b,c,d,e,f,g,h,i,j,k,l⟩))
 |_=>none)else none
def O12:TJ prog where
 get:=o12
 up f args U Z' v hs h:=by
  unfold o12 at h|-;split at h
  .rename_i hf;rw[if_pos hf];split at h
   .simp only[Option.map_eq_some_iff]at h|-;obtain⟨l,h1,h2⟩:=h;exact⟨l,nz hs h1,h2⟩
   .cases h
  .rename_i hf;rw[if_neg hf];exact h
 ok f args U v h:=by
  unfold o12 at h;split at h
  .rename_i hf;subst hf;split at h
   .simp only[Option.map_eq_some_iff]at h;obtain⟨l,h1,rfl⟩:=h;obtain⟨g1,g2⟩:=me h1;exact IY g1 g2
   .cases h
  .split at h
   .rename_i hf;subst hf;split at h
    .simp only[Oi]at h;subst h;exact Gj ⟨_,_,_,_,_,_,_,_,_,_,_,_⟩ U
    .cases h
   .cases h
def pq(a b:Int)(sv:V)(U:ai):O12.get 211 [.agg [.int .i64 a,.int .i64 b],sv] U=(fv U sv).map λl=>.bool (l.all λn=>br n a b):=rfl
def pY(a b c d e f g h i j k l:Int)(U:ai):O12.get 210 [.agg [.int .i64 a,.int .i64 b,.int .i64 c,.int .i64 d,.int .i64 e,.int .i64 f,.int .i64 g,.int .i64 h,.int .i64 i,.int .i64 j,.int .i64 k,.int .i64 l]] U=
 some (.bool (SW.ok ⟨a,b,c,d,e,f,g,h,i,j,k,l⟩)):=rfl
def jm(s:SW):(decide (s.top=0)&&(decide (s.RT=0)&&(decide (s.RI=0)&&(decide (s.Rx=0)&&(decide (s.Sv=0)&&(decide (s.R8=0)&&(decide (s.Sh=0)&&(decide (s.head=0)&&
 (decide (s.before=0)&&(decide (s.after=0)&&(decide (s.inside=0)&&decide (s.clear=0))))))))))))=decide (s=SW.zero):=by
 rw[Bool.eq_iff_iff];cases s;simp[SW.zero]
def G9(x:Nd)(hl:x.words.length<=200000000000000)(k4:x.kind=4):aV prog 154 [iz x] (.bool x.ok):=λU=>by
 refine Nu.r (by simp[GS]) ?_;refine ad.mix 6 ?_
 (refine ad.bN O12 300 ?_;simp only[go_sem,seval,GS,iz,Nd.cells])
 refine af λU4 Z1 s1 a1 f1=>?_;simp only[go_sem,seval,a1];refine af λid3 Z2 s2 a3 f3=>?_;have Vt:=aq a1 f3;have a1:=s2 _ _ a1;have hs:=(s1.trans s2).aE (s1.none f3) (o:=⟨301,2,[.agg [vI 1,vI 1099511627776]]⟩);have Zy:x.ok=(decide (x.st=SW.zero)&&(decide (x.line=0)&&decide (x.space=0)&&decide (x.words.length=0)&&br x.w 1 mx&&br x.h 1 mx&&br x.side 1 2)):=by
  by_cases RV:x.st=SW.zero<;>simp[Nd.ok,k4,RV]
 simp only[go_sem,seval,a1,a3,ab Vt,jm,dJ,k4,pY,uR,ag];refine And.intro (λe1=>And.intro (λe2=>And.intro (λz=>And.intro (λw=>?_) (λw=>?_)) (λz=>?_)) (λe2=>?_)) (λe1=>?_)
 .refine af λVk Z3 s3 a4 f4=>?_;have a1:=s3 U4 _ (by rw[ab Vt];exact a1);have a3:=s3 id3 _ ag;have hs:=hs.trans s3;simp only[go_sem,seval,a1,a3,a4,pq,cY,eg,ei,br,List.all_cons,List.all_nil,<-Bool.decide_and];refine And.intro (λq1=>?_) (λq1=>ay.pure hs ?_)
  .refine af λVl Z4 s4 a5 f5=>?_;have a1:=s4 _ _ a1;have hs:=hs.trans s4;simp only[go_sem,seval,a1,a5,pq,cY,eg,ei,br,List.all_cons,List.all_nil,<-Bool.decide_and];refine ay.pure hs ?_;rw[V.bool.injEq,Zy,Bool.eq_iff_iff];simp only[br,mx];simp at w;simp[e1,e2,z,w];omega
  .rw[V.bool.injEq,Zy,Bool.eq_iff_iff];simp only[br,mx];simp[e1,e2,z];omega
 all_goals (repeat' (first
  |with_reducible refine And.intro (λh=>?_) (λh=>?_)
  |with_reducible refine ay.pure hs ?_))
 all_goals (rw[V.bool.injEq,Zy,Bool.eq_iff_iff];simp_all)
def KO(x:Nd)(hl:x.words.length<=200000000000000):aV prog 154 [iz x] (.bool x.ok):=λU=>by
 by_cases k4:x.kind=4
 .exact G9 x hl k4 U
 refine Nu.r (by simp[GS]) ?_;refine ad.mix 6 ?_
 (refine ad.bN O12 300 ?_;simp only[go_sem,seval,GS,iz,Nd.cells])
 refine af λU4 Z1 s1 a1 f1=>?_;simp only[go_sem,seval,a1];refine af λid3 Z2 s2 a3 f3=>?_;have Vt:=aq a1 f3;have a1:=s2 _ _ a1;have hs:=(s1.trans s2).aE (s1.none f3) (o:=⟨301,2,[.agg [vI 1,vI 1099511627776]]⟩);have hz:(x.kind=1->x.ok=(x.st.ok&&decide (x.line=0)&&decide (x.space=0)&&decide (x.words.length=0)&&decide (x.side=0)&&decide (x.w=0)&&decide (x.h=0))):=λh=>by simp[Nd.ok,h]
 have hwl:x.words.length<=200000000000000:=by omega
 by_cases k1:x.kind=1
 .simp only[go_sem,seval,a1,a3,ab Vt,jm,dJ,k1,pY,uR];rw[hz k1]
  repeat' (first
   |with_reducible refine And.intro (λh=>?_) (λh=>?_)
   |with_reducible refine ay.pure hs ?_)
  all_goals (rw[V.bool.injEq,Bool.eq_iff_iff];simp_all)
 .by_cases k2:x.kind=2
  .by_cases e1:x.line=0
   .have hok0:x.ok=false:=by
     by_cases RV:x.st=SW.zero<;>simp[Nd.ok,k2,RV,e1,br]
    rw[hok0];simp only[go_sem,seval,a1,a3,ab Vt,jm,dJ,k1,k2,e1,pY,uR,ag]
    repeat' (first
     |with_reducible refine And.intro (λh=>?_) (λh=>?_)
     |with_reducible refine ay.pure hs rfl
     |(refine af λVk Z3 s3 a4 f4=>?_
       have a1:=s3 U4 _ (by rw[ab Vt];exact a1);have a3:=s3 id3 _ ag;simp only[go_sem,seval,a1,a3,a4,pq,cY,eg,ei,br,List.all_cons,List.all_nil,false_and];exact ay.pure (hs.trans s3) rfl))
   .simp only[go_sem,seval,a1,a3,ab Vt,jm,dJ,k1,k2,e1,pY,uR,ag];have XL:x.ok=(decide (x.st=SW.zero)&&(x.words.all (br · 1 mx)&&decide (0<x.words.length)&&br x.line 1 mx&&br x.space 0 mx&&decide (x.side=0)&&decide (x.w=0)&&decide (x.h=0))):=by
     by_cases RV:x.st=SW.zero<;>simp[Nd.ok,k2,RV]
    refine And.intro (λz=>?_) (λz=>ay.pure hs (by rw[XL];simp_all));refine And.intro (λw1=>?_) (λw1=>ay.pure hs (by rw[XL];simp[w1]));refine And.intro (λw2=>?_) (λw2=>ay.pure hs (by rw[XL];simp[w2]));refine And.intro (λw3=>?_) (λw3=>ay.pure hs (by rw[XL];simp[w3]));refine af λVk Z3 s3 a4 f4=>?_;have a1:=s3 U4 _ (by rw[ab Vt];exact a1);have a3:=s3 id3 _ ag;have hs:=hs.trans s3;simp only[go_sem,seval,a1,a3,a4,pq,cY,eg,ei,nh _ hwl,uR,tN (List.all _ _)];refine And.intro (λq1=>?_) (λq1=>ay.pure hs (by rw[XL];simp[mx]at q1|-;simp[q1]));refine And.intro (λq2=>?_) (λq2=>ay.pure hs (by rw[XL];simp only[mx,q2];simp));refine af λVl Z4 s4 a5 f5=>?_;have a1:=s4 _ _ a1;have hs:=hs.trans s4;simp only[go_sem,seval,a1,a5,pq,cY,eg,ei,nh _ hwl,uR,dJ,tN (List.all _ _)];refine And.intro (λq3=>?_) (λq3=>ay.pure hs (by rw[XL];simp[mx]at q3|-;simp[q3]));refine ay.pure hs ?_;rw[XL];simp only[mx,q1,q2,q3,z,w1,w2,w3];simp
  .have Zy:x.ok=(decide (x.st=SW.zero)&&(decide (x.line=0)&&decide (x.space=0)&&decide (x.words.length=0)&&br x.w 1 mx&&br x.h 1 mx&&
    (decide (x.kind=3)&&decide (x.side=0)||decide (x.kind=4)&&br x.side 1 2))):=by
    by_cases RV:x.st=SW.zero<;>simp[Nd.ok,k1,k2,RV]
   by_cases k3:x.kind=3
   .simp only[go_sem,seval,a1,a3,ab Vt,jm,dJ,k1,k2,k3,pY,uR,ag]
    repeat' (first
     |with_reducible refine And.intro (λh=>?_) (λh=>?_)
     |with_reducible refine ay.pure hs ?_
     |(refine af λVk Z3 s3 a4 f4=>?_
       have a1:=s3 U4 _ (by rw[ab Vt];exact a1);have a3:=s3 id3 _ ag;simp only[go_sem,seval,a1,a3,a4,pq,cY,eg,ei,br,List.all_cons,List.all_nil,<-Bool.decide_and];refine ay.pure (hs.trans s3) ?_))
    all_goals (rw[V.bool.injEq,Zy,Bool.eq_iff_iff];simp_all [br,mx]<;>omega)
   .simp only[go_sem,seval,a1,a3,ab Vt,jm,dJ,k1,k2,k3,k4,pY,uR,ag]
    repeat' (first
     |with_reducible refine And.intro (λh=>?_) (λh=>?_)
     |with_reducible refine ay.pure hs ?_)
    all_goals (rw[V.bool.injEq,Zy];simp[k3,k4])
open Go.Proofs Go.Proofs.Tryz
def rB(i:Nat):List Int->List Int
 |a::b::s=>if a=i then rB i (b::s)else a::b::s
 |s=>s
def isS:List Nd->Nat->List Int->Bool
 |[],_,_=>true
 |x::r,i,TN=>match rB i TN with
  |[]=>false
  |a::s=>if x.ok=true/\1<=x.size/\x.size<=a-i/\(x.kind=1\/x.size<=1)then isS r (i+1) ((i+x.size)::a::s)else false
def Xb(n:Nat):Nat->List Int->Prop
 |lo,[]=>lo=n
 |lo,a::s=>(lo:Int)<=a/\Xb n a.toNat s
def kx(l:List Nd):Nat->List Int->Bool
 |_,[]=>true
 |lo,a::s=>cq l lo a.toNat&&kx l a.toNat s
def C0(l:List Nd)(a:Nat):cq l a a=true:=by rw[cq,dif_neg (Nat.lt_irrefl a)]
def sx(l:List Nd)(n i:Nat)(hi:i<n):∀TN,Xb n i TN->∃a s,rB i TN=a::s/\(i:Int)<a/\Xb n i (a::s)/\kx l i (a::s)=kx l i TN
 |[],h=>by simp only[Xb]at h;omega
 |[a],h=>by
  have h':=h;simp only[Xb]at h';exact⟨a,[],rfl,by omega,h,rfl⟩
 |a::b::s,h=>by
  by_cases ha:a=i
  .have h':=h.2;rw[ha,Int.toNat_natCast]at h';obtain⟨c,t,g1,g2,g3,g4⟩:=sx l n i hi (b::s) h';refine⟨c,t,by simp[rB,ha,g1],g2,g3,?_⟩;rw[g4];show _=(cq l i a.toNat&&kx l a.toNat (b::s));rw[ha,Int.toNat_natCast,C0,Bool.true_and]
  .have h':=h.1;exact⟨a,b::s,by simp[rB,ha],by omega,h,rfl⟩
def Cd(l:List Nd):∀(r:List Nd) (i:Nat) (TN:List Int),l.drop i=r->Xb l.length i TN->isS r i TN=(r.all Nd.ok&&kx l i TN)
 |[],i,TN,hr,hs=>by
  have hi:l.length<=i:=by simpa using hr
  have key:∀(TN:List Int) (lo:Nat),l.length<=lo->Xb l.length lo TN->kx l lo TN=true:=by
   intro TN
   induction TN with
   |nil=>intro _ _ _;rfl
   |cons a s ih=>
    intro lo U5 h;have h1:=h.1;simp only[kx];rw[ih a.toNat (by omega) h.2,cq,Bool.and_true];split
    .have:l[lo]?=none:=by simp[U5]
     rw[this];have hend:∀(TN:List Int) (lo:Nat),Xb l.length lo TN->lo<=l.length:=by
      intro TN
      induction TN with
      |nil=>intro lo h;simp only[Xb]at h;omega
      |cons b t ih=>intro lo h;have:=h.1;have:=ih _ h.2;omega
     have:=hend _ _ h.2;omega
    .rfl
  simp[isS,key TN i hi hs]
 |x::r,i,TN,hr,hs=>by
  have hi:i<l.length:=by
   rcases Nat.lt_or_ge i l.length with h|h
   .exact h
   .rw[List.drop_eq_nil_of_le h]at hr;cases hr
  have hx:l[i]?=some x:=by
   have:(l.drop i)[0]?=some x:=by rw[hr];rfl
   simpa using this
  have hr':l.drop (i+1)=r:=by
   have:(l.drop i).drop 1=r:=by rw[hr];rfl
   simpa using this
  obtain⟨a,s,h1,h2,h3,h4⟩:=sx l l.length i hi TN hs;rw[isS,h1];simp only;rw[<-h4];simp only[kx,List.all_cons];have SN:cq l i a.toNat=if _hx:1<=x.size/\x.size<=(a.toNat:Int)-i then
   (decide (x.kind=1)||decide (x.size<=1))&&cq l (i+1) (i+x.size.toNat)&&cq l (i+x.size.toNat) a.toNat else false:=by
   rw[cq,dif_pos (by omega),hx]
  rw[SN];have S1:(a.toNat:Int)=a:=by omega
  rw[S1];by_cases hc:1<=x.size/\x.size<=a-i
  .rw[dif_pos hc];have e:(i+x.size).toNat=i+x.size.toNat:=by omega
   have ih:=Cd l r (i+1) ((i+x.size)::a::s) hr' ⟨by omega,by rw[e];omega,h3.2⟩;by_cases hk:x.ok=true/\(x.kind=1\/x.size<=1)
   .rw[if_pos ⟨hk.1,hc.1,hc.2,hk.2⟩,ih];simp only[kx,e,hk.1,Bool.true_and];have:(decide (x.kind=1)||decide (x.size<=1))=true:=by simpa using hk.2
    rw[this,Bool.true_and,Bool.and_assoc]
   .rw[if_neg (λh=>hk ⟨h.1,h.2.2.2⟩)];symm;rw[Bool.eq_false_iff];intro h;simp only[Ba,Bool.or_eq_true,decide_eq_true_eq]at h;exact hk ⟨h.1.1,h.2.1.1.1⟩
  .rw[dif_neg hc,if_neg (λh=>hc ⟨h.2.1,h.2.2.1⟩)];simp
def G2(l:List Nd):isS l 0 [(l.length:Int)]=So l:=by
 rw[Cd l l 0 [(l.length:Int)] rfl ⟨by omega,by simp[Xb]⟩];simp[kx,So]
open Go.Proofs Go.Proofs.Tryz
def o14(f:FuncId)(args:List V):Option V:=if f=154 then(match args with
 |[.agg [.int .i64 a0,.int .i64 a1,.int .i64 a2,.int .i64 a3,.int .i64 a4,.int .i64 a5,.int .i64 a6,.int .i64 a7,.int .i64 a8,.int .i64 a9,.int .i64 Sg,.int .i64 Vs,.int .i64 a12,.int .i64 TY,.int .i64 Zv,.int .i64 Xj,.sl 1 rows,.int .i64 WQ,.int .i64 a18,.int .i64 Xk]]=>
  (gd rows).bind λws=>if ws.length<=200000000000000 then some (.bool (Nd.ok ⟨a0,a1,⟨a2,a3,a4,a5,a6,a7,a8,a9,Sg,Vs,a12,TY⟩,Zv,Xj,ws,WQ,a18,Xk⟩))else none
 |_=>none)else none
def O14:TJ prog where
 get f args _:=o14 f args
 ok f args U v h:=by
  unfold o14 at h;split at h
  .rename_i hf;subst hf;split at h
   .rw[Option.bind_eq_some_iff]at h;obtain⟨ws,h1,h2⟩:=h;split at h2
    .rename_i hw;simp only[Oi]at h2;subst h2;rw[kY h1];exact KO ⟨_,_,⟨_,_,_,_,_,_,_,_,_,_,_,_⟩,_,_,ws,_,_,_⟩ hw U
    .cases h2
   .cases h
  .cases h
def JI{x:Nd}(hw:x.words.length<=200000000000000)(U:ai):O14.get 154 [.agg [.int .i64 x.kind,.int .i64 x.size,.int .i64 x.st.top,.int .i64 x.st.RT,.int .i64 x.st.RI,.int .i64 x.st.Rx,.int .i64 x.st.Sv,.int .i64 x.st.R8,.int .i64 x.st.Sh,.int .i64 x.st.head,.int .i64 x.st.before,.int .i64 x.st.after,.int .i64 x.st.inside,.int .i64 x.st.clear,.int .i64 x.line,.int .i64 x.space,bn x.words,.int .i64 x.side,.int .i64 x.w,.int .i64 x.h]] U=
 some (.bool x.ok):=by
 show((gd (x.words.map vI)).bind λws=>if ws.length<=200000000000000 then some (V.bool (Nd.ok ⟨x.kind,x.size,⟨x.st.top,x.st.RT,x.st.RI,x.st.Rx,x.st.Sv,x.st.R8,x.st.Sh,x.st.head,x.st.before,x.st.after,x.st.inside,x.st.clear⟩,x.line,x.space,ws,x.side,x.w,x.h⟩))else none)=_;rw[uu,Option.bind_some,if_pos hw]
def Gx{rows:List V}{k:Nat}{a:Int}{s:List Int}(hk:k=(a::s).length)(ht:rows.take k=(a::s).reverse.map vI):rows[k-1]?=some (.int .i64 a)/\rows.take (k-1)=s.reverse.map vI:=by
 simp only[List.length_cons]at hk;have h1:(rows.take k)[k-1]?=rows[k-1]?:=by rw[List.getElem?_take,if_pos (by omega)]
 constructor
 .rw[<-h1,ht,hk];simp
 .have h2:rows.take (k-1)=(rows.take k).take (k-1):=by rw[List.take_take];congr 1;omega
  rw[h2,ht,hk];simp
def Xb.le{n:Nat}:∀{TN:List Int} {lo:Nat},Xb n lo TN->lo<=n
 |[],lo,h=>by simp only[Xb]at h;omega
 |a::s,lo,h=>by have h1:=h.1;have h2:=Xb.le h.2;omega
def BN(l:List Nd)(hl:dH l):aV prog 101 [aK l] (.bool (So l)):=λU=>by
 have hl0:=hl;obtain⟨hl1,hl2⟩:=hl;refine OZ.r (by simp[M7]) ?_;refine ad.mix 6 ?_;apply sR;simp only[go_sem,seval,aO,aP,M7,fj];intro e0 he0;refine ad.loop (λm st=>∃i TN e k rows,i<=l.length/\m=l.length-i/\So l=isS (l.drop i) i TN/\Xb l.length i TN/\TN≠[]/\TN.length<=i+1/\aa U st.U/\st.U e=some ⟨3,1,rows⟩/\U e=none/\k=TN.length/\k<=rows.length/\rows.take k=TN.reverse.map vI/\
  st.s 3=.own e 0 k/\st.s 9=aK l/\st.s 10=vI l.length/\st.s 11=vI i) l.length ?_ ?_
 .refine⟨0,[(l.length:Int)],e0,1,[vI l.length],by omega,by omega,by rw[<-G2];rfl,⟨by omega,by simp[Xb]⟩,by simp,by simp,(aa.refl U).C' he0,ag,he0,rfl,by simp,rfl,rfl,rfl,rfl,rfl⟩
 .rintro m ⟨s,Z'⟩ ⟨i,TN,e,k,rows,hi,rfl,hB,hasc,R6,W2,G',SN,hnew,hk,hkr,SB,h3,h9,Wh,VQ⟩;simp only at G' SN h3 h9 Wh VQ;refine ad.mix 6 ?_;apply sR;simp only[go_sem,seval,aO,aP,h3,h9,Wh,VQ];refine And.intro (λH'=>?_) (λWe=>?_)
  .have To:i<l.length:=by simp at H';omega
   have hd:l.drop i=l[i]::l.drop (i+1):=List.drop_eq_getElem_cons To;have hxw:l[i].words.length<=200000000000000:=hl2 _ (List.getElem_mem To);rw[hd]at hB;generalize YV:l[i]=x at*;simp only[go_sem,seval,aO,aP,lY To,YV,uC,h3,h9,Wh,VQ,Nd.cells];intro Vl VE;replace VE:Z' Vl=none:=VE;have n5e:e≠Vl:=by rintro rfl;rw[SN]at VE;cases VE
   have n5n:U Vl=none:=G'.none VE;refine ad.loop (λm st=>∃XM k',m=XM.length/\rB i TN=rB i XM/\Xb l.length i XM/\XM≠[]/\XM.length<=TN.length/\st.U=C' Z' Vl ⟨59,20,[.agg x.cells]⟩/\k'=XM.length/\k'<=rows.length/\rows.take k'=XM.reverse.map vI/\
    st.s 3=.own e 0 k'/\st.s 4=vI i/\st.s 5=.ptr Vl 0 0/\st.s 9=aK l/\st.s 10=vI l.length/\st.s 11=vI i) TN.length ?_ ?_
   .exact⟨TN,k,rfl,rfl,hasc,R6,Nat.le_refl _,rfl,hk,hkr,SB,h3,rfl,rfl,h9,Wh,VQ⟩
   .rintro m ⟨s,Y''⟩ ⟨XM,k',rfl,hpop,hasc',hne',hsl',R3,Tl,hkr',htk',h3,h4,h5,h9,Wh,VQ⟩;simp only at R3 h3 h4 h5 h9 Wh VQ;subst R3;obtain⟨a,tl,rfl⟩:=List.exists_cons_of_ne_nil hne';obtain⟨XN,htk2⟩:=Gx Tl htk';have hkpos:1<=k':=by rw[Tl];simp
    have g0:(k':Int)-1<k':=by omega
    have g1:(0:Int)<=(k':Int)-1:=by omega
    have g2:(k':Int)-1<=k':=by omega
    have g3:((k':Int)-1).toNat=k'-1:=by omega
    have hrng:RM .i64 ((k':Int)-1):=ao (by omega) (by omega);refine ad.mix 6 ?_
    (refine ad.bN O14 300 ?_;simp only[go_sem,seval,aO,aP,h3,h4,h5,h9,Wh,VQ,ab n5e,SN,g0,g1,g2,g3,Int.le_refl,Int.toNat_zero,Nat.sub_zero,XN,uR,Nd.cells,JI hxw,tN (Nd.ok x)])
    refine And.intro (λh1=>⟨hrng,And.intro (λh2=>?_) (λh2=>?_)⟩) (λh1=>?_)
    .obtain⟨b,tl',rfl⟩:∃b tl',tl=b::tl':=by
      cases tl with
      |nil=>simp at Tl;omega
      |cons b tl'=>exact⟨b,tl',rfl⟩
     have hp2:rB i (a::b::tl')=rB i (b::tl'):=by simp[rB,h2]
     have ha2:=hasc'.2;rw[h2,Int.toNat_natCast]at ha2;refine⟨hrng,_,?_,b::tl',k'-1,rfl,by rw[hpop,hp2],ha2,by simp,?_,?_,by omega,htk2,rfl⟩
     .simp
     .simp only[List.length_cons]at hsl'|-;omega
     .simp only[List.length_cons]at Tl|-;omega
    all_goals
     have VS:rB i (a::tl)=a::tl:=by
      cases tl with
      |nil=>rfl
      |cons b tl'=>
       have:a≠i:=by first
        |simpa using h2
        |(exfalso;simp at Tl h1;omega)
       simp[rB,this]
     obtain⟨c,t,p1,p2,p3,p4⟩:=sx l l.length i To (a::tl) hasc';rw[VS,List.cons.injEq]at p1;obtain⟨rfl,rfl⟩:=p1;have Zz:So l=if x.ok=true/\1<=x.size/\x.size<=a-i/\(x.kind=1\/x.size<=1)then isS (l.drop (i+1)) (i+1) ((i+x.size)::a::tl)else false:=by
      rw[hB,isS,hpop,VS]
     have hale:=Xb.le p3.2;have hlenk:(rows.take k').length=k':=by simp;omega
     have hstk:k'<=i+1:=by rw[Tl];omega
     have happ:x.ok=true/\1<=x.size/\x.size<=a-i/\(x.kind=1\/x.size<=1)->∀(X Y:Ob) (id U4:Nat),C' Z' Vl X id=none->C' (C' Z' Vl X) id Y U4=none->
      So l=isS (l.drop (i+1)) (i+1) ((i+x.size)::a::tl)/\Xb l.length (i+1) ((i+x.size)::a::tl)/\aa U (C' (del (C' (C' Z' Vl X) id Y) e) U4 ⟨3,1,rows.take k'++[.int .i64 (i+x.size)]⟩)/\U U4=none/\
      (rows.take k'++[V.int .i64 (i+x.size)]).take (k'+1)=((i+x.size)::a::tl).reverse.map vI:=by
      intro hc X Y id U4 M' V5;rw[fT]at M';rw[fT,fT]at V5;rw[if_pos hc]at Zz;refine⟨Zz,⟨by omega,?_,p3.2⟩,?_,G'.none V5.2.2,?_⟩
      .have:(i+x.size).toNat=i+x.size.toNat:=by omega
       omega
      .exact aa.aE (aa.Ik ((G'.aE n5n).aE (G'.none M'.2)) hnew) (G'.none V5.2.2)
      .rw[List.take_of_length_le (by simp;omega),htk'];simp
     refine And.intro (λq1=>And.intro (λq2=>⟨hrng,ao (by omega) (by omega),And.intro (λq3=>And.intro (λq4=>And.intro (λq5=>?_) (λq5=>?_)) (λq4=>?_)) (λq3=>?_)⟩) (λq2=>?_)) (λq1=>?_)
     .refine ay.pure (G'.C' VE) ?_;rw[Zz,if_neg];rintro⟨c1,c2,c3,c4⟩;omega
     .refine⟨ao (by omega) (by omega),?_⟩;intro id M';have W4:=(fT.1 M').2;have nie:e≠id:=by rintro rfl;rw[SN]at W4;cases W4
      have ZA:∀U,U e=some ⟨3,1,rows⟩->cg U 3 1 (.own e 0 k')=some (rows.take k',some e):=by
       intro U R3;simp only[cg,R3];rw[if_pos ⟨trivial,trivial,trivial,hkr'⟩]
      have TI:∀U,U id=some ⟨3,1,[.int .i64 (i+x.size)]⟩->bR U 1 (.own id 0 1)=some [.int .i64 (i+x.size)]:=by
       intro U R3;simp only[bR,R3];rw[if_pos (by simp)];simp
      have hb:(k'+1)*9<=140737488355328:=by omega
      simp only[go_sem,seval,aO,aP,ZA,TI,ab n5e,ab nie,SN,hlenk,hb,bK,h3,h4,h5,h9,Wh,VQ];intro U4 V5;obtain⟨z1,z2,z3,z4,z5⟩:=happ ⟨by simpa using q1,by omega,by omega,by first|(left;simpa using q4)|(right;simp at q5;omega)⟩ _ _ id U4 M' V5
      refine⟨ao (by omega) (by omega),_,?_,i+1,_,U4,k'+1,_,by omega,rfl,z1,z2,by simp,?_,z3,ag,z4,?_,?_,z5,rfl,?_⟩
      .omega
      .simp only[List.length_cons]at Tl hsl'|-;omega
      .simp only[List.length_cons]at Tl|-;omega
      .simp;omega
      .simp
     .refine⟨ao (by omega) (by omega),?_⟩;intro id M';have W4:=(fT.1 M').2;have nie:e≠id:=by rintro rfl;rw[SN]at W4;cases W4
      have ZA:∀U,U e=some ⟨3,1,rows⟩->cg U 3 1 (.own e 0 k')=some (rows.take k',some e):=by
       intro U R3;simp only[cg,R3];rw[if_pos ⟨trivial,trivial,trivial,hkr'⟩]
      have TI:∀U,U id=some ⟨3,1,[.int .i64 (i+x.size)]⟩->bR U 1 (.own id 0 1)=some [.int .i64 (i+x.size)]:=by
       intro U R3;simp only[bR,R3];rw[if_pos (by simp)];simp
      have hb:(k'+1)*9<=140737488355328:=by omega
      simp only[go_sem,seval,aO,aP,ZA,TI,ab n5e,ab nie,SN,hlenk,hb,bK,h3,h4,h5,h9,Wh,VQ];intro U4 V5;obtain⟨z1,z2,z3,z4,z5⟩:=happ ⟨by simpa using q1,by omega,by omega,by first|(left;simpa using q4)|(right;simp at q5;omega)⟩ _ _ id U4 M' V5
      refine⟨ao (by omega) (by omega),_,?_,i+1,_,U4,k'+1,_,by omega,rfl,z1,z2,by simp,?_,z3,ag,z4,?_,?_,z5,rfl,?_⟩
      .omega
      .simp only[List.length_cons]at Tl hsl'|-;omega
      .simp only[List.length_cons]at Tl|-;omega
      .simp;omega
      .simp
     .refine ay.pure (G'.C' VE) ?_;rw[Zz,if_neg];rintro⟨c1,c2,c3,c4⟩;omega
     .refine ay.pure (G'.C' VE) ?_;rw[Zz,if_neg];rintro⟨c1,c2,c3,c4⟩;omega
     .refine ay.pure (G'.C' VE) ?_;rw[Zz,if_neg];rintro⟨c1,c2,c3,c4⟩;exact q1 (by simp[c1])
  .have W5:i=l.length:=by simp at We;omega
   refine ay.pure G' ?_;rw[hB,W5,List.drop_length];rfl
open Go.Proofs Go.Proofs.Tryz
def kK(times n:Int):Int:=if n=0\/times<=1099511627776/n then n*times else 1099511627777
def mn(times h:Int):List Int->Int
 |[]=>h
 |n::l=>mn times (min (h+kK times n) 1099511627777) l
def eX(i:Nat)(x:Nd)(s:Sm)(ends:List Int):Sm×List Int:=
 let ends:=ends.filter λn=>!decide (n<=(i:Int))
 if x.kind=1 then
  let ends:=ends++[i+x.size]
  (⟨max s.depth ends.length,s.pieces,s.nodes+1,mn 1 s.O' [x.st.top,x.st.RT,x.st.RI,x.st.Rx,x.st.head]⟩,ends)
 else if x.kind=2 then(⟨s.depth,s.pieces+x.words.length,s.nodes+1,mn x.words.length s.O' [x.line]⟩,ends)
 else(⟨s.depth,s.pieces+1,s.nodes+1,mn 1 s.O' [x.h]⟩,ends)
def im(l:List Nd):Nat->Sm×List Int
 |0=>(⟨0,0,0,0⟩,[])
 |i+1=>match l[i]? with
  |some x=>eX i x (im l i).1 (im l i).2
  |none=>im l i
def Ah{times n:Int}(h0:0<=n)(h1:n<=mx)(t0:0<=times)(a:Int)(ha:0<=a):min (a+kK times n) 1099511627777=min (a+n*times) 1099511627777:=by
 unfold kK;split
 .rfl
 .rename_i h;have hn:0<n:=by omega
  have hq:1099511627776/n<times:=by omega
  have h2:1099511627776<n*times:=by
   have:=Int.ediv_lt_iff_lt_mul (a:=1099511627776) (b:=times) hn;have h3:=this.1 hq;rw[Int.mul_comm];exact h3
  omega
def rT{a b:Int}(h1:0<=a/\a<=1099511627777)(h2:0<=b):∀n:Nat,Bw a b n=min (a+b*n) 1099511627777
 |0=>by simp[Bw];omega
 |n+1=>by
  rw[Bw,rT h1 h2 n,jz];have e:b*((n+1:Nat):Int)=b*n+b:=by rw[Int.natCast_add,Int.mul_add];simp
  rw[e];have:0<=b*(n:Int):=Int.mul_nonneg h2 (by omega);generalize b*(n:Int)=q at*;omega
def kO{h n:Int}(h1:0<=h)(n0:0<=n)(n1:n<=mx):min (h+kK 1 n) 1099511627777=jz h n:=by
 rw[Ah n0 n1 (by omega) h h1,Int.mul_one];rfl
def jO(l:List Nd)(i:Nat):Nat->List Int
 |0=>[]
 |k+1=>jO l i k++(match l[k]? with
  |some y=>if y.kind=1/\(i:Int)<k+y.size then[(k:Int)+y.size]else[]
  |none=>[])
def mY(l:List Nd)(i:Nat):∀k,((jO l i k).length:Int)=iI l i k
 |0=>rfl
 |k+1=>by
  simp only[jO,iI,List.length_append,Int.natCast_add,mY l i k];cases l[k]? with
  |none=>simp
  |some y=>simp only[];split<;>simp
def ng(l:List Nd)(i:Nat):∀k,(jO l i k).filter (λn=>!decide (n<=((i+1:Nat):Int)))=jO l (i+1) k
 |0=>rfl
 |k+1=>by
  simp only[jO,List.filter_append,ng l i k];congr 1;split
  .rename_i y _;by_cases hk:y.kind=1
   .by_cases h1:((i+1:Nat):Int)<k+y.size
    .rw[if_pos ⟨hk,by omega⟩,if_pos ⟨hk,h1⟩];have:¬((k:Int)+y.size<=((i+1:Nat):Int)):=by omega
     simp only[List.filter_cons,this,decide_false,Bool.not_false,if_true,List.filter_nil]
    .rw[if_neg (show¬(y.kind=1/\((i+1:Nat):Int)<k+y.size)from λh=>h1 h.2)];split
     .have:(k:Int)+y.size<=((i+1:Nat):Int):=by omega
      simp only[List.filter_cons,this,decide_true,Bool.not_true,Bool.false_eq_true,if_false,List.filter_nil]
     .rfl
   .rw[if_neg (λh=>hk h.1),if_neg (λh=>hk h.1)];rfl
  .rfl
def lH(l:List Nd)(hl:dH l)(hb:So l=true):∀i,i<=l.length->(im l i).1={ gM l ⟨0,0,l.length,0⟩ i with nodes:=i }/\(im l i).2=(match i with
 |0=>[]
 |j+1=>jO l j (j+1))/\(gM l ⟨0,0,l.length,0⟩ i).rE i/\(gM l ⟨0,0,l.length,0⟩ i).nodes=l.length
 |0,_=>⟨rfl,rfl,by simp[gM,Sm.rE],rfl⟩
 |i+1,hi=>by
  obtain⟨h1,h2,h3,h4⟩:=lH l hl hb i (by omega);have RC:l.all Nd.ok=true/\cq l 0 l.length=true:=by simpa[So]using hb
  have hx:=(List.all_eq_true.1 RC.1) _ (List.getElem_mem (show i<l.length by omega));have hg:l[i]?=some l[i]:=by simp[show i<l.length by omega]
  obtain⟨z1,z2,z3⟩:=iC l (l.length+1) 0 l.length (by omega) (by omega) RC.2 i (by omega) (by omega) (by omega);have hw:=hl.2 _ (List.getElem_mem (show i<l.length by omega));have hfine:=C3 (l:=l) hx hw h3;generalize YV:l[i]=x at*;obtain⟨p1,p2,p3,p4,p5,p6⟩:=jG hx;have hS:im l (i+1)=eX i x (im l i).1 (im l i).2:=by simp only[im,hg]
  have hR:gM l ⟨0,0,l.length,0⟩ (i+1)=nN l i x (gM l ⟨0,0,l.length,0⟩ i):=by simp only[gM,hg]
  have hf:(im l i).2.filter (λn=>!decide (n<=(i:Int)))=jO l i i:=by
   rw[h2];cases i with
   |zero=>rfl
   |succ j=>exact ng l j (j+1)
  rw[hS,hR,h1];generalize hsm:gM l ⟨0,0,l.length,0⟩ i=sm at*;obtain⟨f1,f2,f3⟩:=h3;have XO:jO l i (i+1)=jO l i i++(if x.kind=1 then[(i:Int)+x.size]else[]):=by
   simp only[jO,hg];by_cases hk:x.kind=1
   .rw[if_pos ⟨hk,by omega⟩,if_pos hk]
   .rw[if_neg (λh=>hk h.1),if_neg hk]
  refine⟨?_,?_,by rw[Int.natCast_add];exact hfine,?_⟩
  .by_cases hk:x.kind=1
   .obtain⟨q1,q2,q3,q4,q5⟩:=p6 hk;have r1:=gb f3 q1.1;have r2:=gb r1 q2.1;have r3:=gb r2 q3.1;have r4:=gb r3 q4.1;have hlen:=mY l i (i+1);rw[XO,if_pos hk]at hlen;simp only[eX,nN,if_pos hk,hf,mn,Sm.mk.injEq];refine⟨?_,trivial,by simp,?_⟩
    .rw[hlen]
    .rw[kO f3.1 q1.1 q1.2,kO r1.1 q2.1 q2.2,kO r2.1 q3.1 q3.2,kO r3.1 q4.1 q4.2,kO r4.1 q5.1 q5.2]
   .by_cases UK:x.kind=2
    .simp only[eX,nN,if_neg hk,if_pos UK,mn,Sm.mk.injEq];refine⟨trivial,trivial,by simp,?_⟩;rw[Ah p2 p3 (by omega) _ f3.1,rT f3 p2]
    .simp only[eX,nN,if_neg hk,if_neg UK,mn,Sm.mk.injEq];exact⟨trivial,trivial,by simp,kO f3.1 p4 p5⟩
  .by_cases hk:x.kind=1
   .simp only[eX,if_pos hk,hf,XO]
   .by_cases UK:x.kind=2
    .simp only[eX,if_neg hk,if_pos UK,hf,XO,List.append_nil]
    .simp only[eX,if_neg hk,if_neg UK,hf,XO,List.append_nil]
  .rw[<-h4];unfold nN;split
   .rfl
   .split<;>rfl
def wW(l:List Nd):Sm×Int:=if So l then((im l l.length).1,0)else(⟨0,0,0,0⟩,4)
def Dm(l:List Nd)(hl:dH l):wW l=iQ l:=by
 unfold wW iQ;by_cases hb:So l=true
 .obtain⟨h1,_,_,h4⟩:=lH l hl hb l.length (Nat.le_refl _);rw[if_pos hb,if_pos hb,h1];generalize gM l ⟨0,0,l.length,0⟩ l.length=sm at*;cases sm;simp_all
 .rw[if_neg hb,if_neg hb]
open Go.Proofs Go.Proofs.Tryz
def AM{U:ai}{c:Nat}{i:Int}(h:U c=some ⟨3,1,[vI i]⟩)(n:Int):aD prog 156 [vI n,.ptr c 0 0] U λr Z'=>r=.bool (decide (n<=i))/\Z'=U:=by
 refine P7.r (by simp[KE]) ?_;apply sR;simp only[go_sem,seval,aO,aP,KE,h];exact ay.same rfl
abbrev kept(i:Int)(l:List Int):List Int:=l.filter λn=>!decide (n<=i)
def qN{p:Int->Bool}:∀{l:List Int},cS p l<0->l.filter (λn=>!p n)=l
 |[],_=>rfl
 |x::l,h=>by
  simp only[cS]at h;split at h
  .omega
  .rename_i hp;have hp':p x=false:=by simpa using hp
   split at h
   .rename_i h2;simp only[List.filter_cons,hp',Bool.not_false,if_true,qN h2]
   .have:=iq p l;omega
def qQ{p:Int->Bool}:∀{l:List Int},¬cS p l<0->(cS p l).toNat<l.length/\(l.take (cS p l).toNat).filter (λn=>!p n)=l.take (cS p l).toNat/\
 ∀x,l[(cS p l).toNat]?=some x->p x=true
 |[],h=>by simp[cS]at h
 |x::l,h=>by
  simp only[cS]at h|-;split
  .rename_i hp;refine⟨by simp,by simp,?_⟩;intro y hy;simp at hy;subst hy;exact hp
  .rename_i hp;rw[if_neg hp]at h;have hp':p x=false:=by simpa using hp
   split
   .rename_i h2;rw[if_pos h2]at h;omega
   .rename_i h2;obtain⟨g1,g2,g3⟩:=qQ h2;have:=iq p l;have e:(cS p l+1).toNat=(cS p l).toNat+1:=by omega
    rw[e];refine⟨by simp;omega,?_,?_⟩
    .simp only[List.take_succ_cons,List.filter_cons,hp',Bool.not_false,if_true,g2]
    .simpa using g3
def Ew{U:ai}{e c k:Nat}{i:Int}{full:List Int}(he:U e=some ⟨3,1,full.map vI⟩)(hc:U c=some ⟨3,1,[vI i]⟩)(R6:c≠e)(hk:k<=full.length)(U6:full.length<=1000000000000):
 aD prog 155 [.own e 0 k,.fn 156 [.ptr c 0 0]] U λr Z'=>∃(k':Nat) (WR:List Int),r=.own e 0 k'/\Z'=C' U e ⟨3,1,WR.map vI⟩/\k'<=WR.length/\WR.length<=full.length/\WR.take k'=kept i (full.take k):=by
 have hlk:(full.take k).length=k:=by simp;omega
 have hr:Reads U 1 false (.own e 0 k) ((full.take k).map vI):=by
  have:=Reads.own (U:=U) (off:=0) (len:=k) he rfl (by simpa using hk) (λr hr=>by simp only[List.mem_map]at hr;obtain⟨n,_,rfl⟩:=hr;rfl);simpa using this
 refine Na.r (by simp[Gs]) ?_;refine ad.mix 8 ?_;apply sR;simp only[go_sem,seval,aO,aP,Gs];refine ad.aB rfl rfl rfl (lG (p:=λn=>decide (n<=i)) hr (by omega) (λn _=>AM hc n)) ?_;generalize hw:cS (λn=>decide (n<=i)) (full.take k)=w;have hwg:-1<=w:=by rw[<-hw];exact iq _ _
 apply sR;simp only[go_sem,seval,aO,aP];have TQ:C' U e ⟨3,1,full.map vI⟩=U:=by
  funext j;simp only[C'];split
  .rename_i e';rw[e',he]
  .rfl
 refine And.intro (λhm=>?_) (λhm=>?_)
 .refine⟨_,U,aa.refl U,Wk.refl (aa.refl U) _,k,full,rfl,TQ.symm,hk,Nat.le_refl _,?_⟩;exact(qN (by rw[hw];omega)).symm
 .have hw0:¬cS (λn=>decide (n<=i)) (full.take k)<0:=by rw[hw];omega
  obtain⟨g1,g2,g3⟩:=qQ hw0;rw[hw]at g1 g2 g3;rw[hlk]at g1;refine⟨ao (by omega) (by omega),?_⟩;refine ad.loop (λm st=>∃(u j:Nat) (cur:List Int),u<j/\j<=k/\m=k-j/\cur.length=full.length/\cur.take u=kept i (full.take j)/\(∀q,j<=q->cur[q]?=full[q]?)/\st.U=C' U e ⟨3,1,cur.map vI⟩/\
   st.s 0=.own e 0 k/\st.s 1=.fn 156 [.ptr c 0 0]/\st.s 5=vI u/\st.s 6=vI j) (k-(w.toNat+1)) ?_ ?_
  .have hw1:w=((w.toNat:Nat):Int):=by omega
   refine⟨w.toNat,w.toNat+1,full,by omega,by omega,rfl,rfl,?_,λ_ _=>rfl,TQ.symm,rfl,rfl,?_,?_⟩
   .have hx:(full.take k)[w.toNat]?=some (full[w.toNat]'(by omega)):=by rw[List.getElem?_take,if_pos g1,List.getElem?_eq_getElem]
    have hp:=g3 _ hx;have e1:(full.take k).take w.toNat=full.take w.toNat:=by rw[List.take_take];congr 1;omega
    rw[e1]at g2;rw[List.take_succ_eq_append_getElem (by omega)];have g2':kept i (full.take w.toNat)=full.take w.toNat:=g2;simp only[kept,List.filter_append]at g2'|-;rw[g2'];simp[hp]
   .show vI w=_;rw[<-hw1]
   .show vI (w+1)=_;rw[Int.natCast_add,<-hw1];rfl
  .rintro m ⟨s,Z'⟩ ⟨u,j,cur,huj,hjk,rfl,SJ,hct,Zm,R3,h0,h1,h5,h6⟩;simp only at R3 h0 h1 h5 h6;subst R3;refine ad.mix 8 ?_;apply sR;simp only[go_sem,seval,aO,aP,h0,h1,h5,h6];refine And.intro (λH'=>?_) (λWe=>?_)
   .have To:j<k:=by omega
    have hjc:j<cur.length:=by omega
    have Ut:cur[j]?=some cur[j]:=by simp[hjc]
    have We:(cur.map vI)[j]?=some (vI cur[j]):=by simp[hjc]
    have b1:(0:Int)<=j:=by omega
    have b2:(j:Int)<k:=by omega
    have b3:(0:Int)<=u:=by omega
    have b4:(u:Int)<k:=by omega
    simp only[go_sem,seval,aO,aP,h0,h1,h5,h6,b1,b2,We,Int.toNat_natCast];refine ad.aB rfl rfl rfl (AM (i:=i) (by rw[ab R6];exact hc) cur[j]) ?_;have hgu:(cur.map vI)[u]?=some (vI (cur[u]'(by omega))):=by simp[show u<cur.length by omega]
    apply sR;simp only[go_sem,seval,aO,aP,h0,h1,h5,h6,b1,b2,b3,b4,We,hgu,Int.toNat_natCast];have hfj:full[j]?=some cur[j]:=by rw[<-Zm j (Nat.le_refl _)];exact Ut
    have htj:full.take (j+1)=full.take j++[cur[j]]:=by
     have hjf:j<full.length:=by omega
     rw[List.take_succ_eq_append_getElem hjf];congr 2;rw[List.getElem?_eq_getElem hjf]at hfj;simpa using hfj
    refine And.intro (λhd=>?_) (λhd=>?_)
    .refine⟨ao (by omega) (by omega),ao (by omega) (by omega),_,?_,u+1,j+1,cur.set u cur[j],by omega,by omega,rfl,by simpa using SJ,?_,?_,?_,?_,?_⟩
     .omega
     .rw[htj];have hul:u<cur.length:=by omega
      have:(cur.set u cur[j]).take (u+1)=cur.take u++[cur[j]]:=by
       rw[List.take_succ_eq_append_getElem (by simpa using hul),List.take_set,List.set_eq_of_length_le (by simp;omega)];simp
      rw[this,hct];simp only[kept,List.filter_append];congr 1;have hd':¬cur[j]<=i:=by simpa using hd
      simp[hd']
     .intro q hq;rw[List.getElem?_set_ne (by omega)];exact Zm q (by omega)
     .simp
     .simp
     .simp
    .refine⟨ao (by omega) (by omega),_,?_,u,j+1,cur,by omega,by omega,rfl,SJ,?_,λq hq=>Zm q (by omega),rfl,?_⟩
     .omega
     .rw[htj,hct];simp only[kept,List.filter_append];have hd':cur[j]<=i:=by simpa using hd
      simp[hd']
     .simp
   .have hjk':j=k:=by omega
    subst hjk';have b3:(0:Int)<=u:=by omega
    have b4:(u:Int)<=j:=by omega
    simp only[go_sem,seval,aO,aP,h0,h1,h5,h6,b3,b4,Int.le_refl,Int.toNat_natCast,Nat.zero_add];refine ad.clear (id:=e) (off:=u) (len:=j-u) (ob:=⟨3,1,cur.map vI⟩) rfl rfl rfl ag rfl (by simp;omega) ?_;apply sR;simp only[go_sem,seval,aO,aP,h0,h1,h5,h6,b3,b4,Int.le_refl,Int.toNat_natCast,Nat.zero_add,Nat.sub_zero];refine⟨_,_,aa.refl _,Wk.refl (aa.refl _) _,u,cur.take u++List.replicate (j-u) 0++cur.drop (u+(j-u)),by simp,?_,?_,?_,?_⟩
    .simp[List.map_take,List.map_drop]
    .simp;omega
    .simp;omega
    .rw[List.append_assoc,List.take_append_of_le_length (by simp;omega),List.take_take,Nat.min_self,hct]
open Go.Proofs Go.Proofs.Tryz
def Reads.aC(U:ai):Reads U 1 false .aC []:=⟨rfl,λi v h=>by simp at h⟩
def AJ{U:ai}{c:Nat}{i:Int}(hc:U c=some ⟨3,1,[vI i]⟩):aD prog 155 [.aC,.fn 156 [.ptr c 0 0]] U λr Z'=>r=.aC/\Z'=U:=by
 refine Na.r (by simp[Gs]) ?_;refine ad.mix 8 ?_;apply sR;simp only[go_sem,seval,aO,aP,Gs];refine ad.aB rfl rfl rfl (lG (l:=[]) (p:=λn=>decide (n<=i)) (Reads.aC U) (by simp) (λn _=>AM hc n)) ?_;apply sR;simp only[go_sem,seval,aO,aP,cS];exact ay.same rfl
def ED{times n:Int}(h0:0<=n)(t0:0<=times):0<=kK times n/\kK times n<=1099511627777:=by
 unfold kK;split
 .rename_i h;refine⟨Int.mul_nonneg h0 t0,?_⟩;rcases h with h|h
  .subst h;simp
  .by_cases hn:n=0
   .subst hn;simp
   .have:=Int.mul_le_of_le_ediv (by omega:0<n) h;rw[Int.mul_comm];omega
 .omega
def cW(s:Sm)(ends:V):Ob:=⟨198,5,[.agg [vI s.depth,vI s.pieces,vI s.nodes,vI s.O',ends]]⟩
def pk{U:ai}{c:Nat}{s:Sm}{ends sv:V}{times:Int}{l:List Int}(hc:U c=some (cW s ends))(hr:∀ob,Reads (C' U c ob) 1 false sv (l.map vI))(hl:l.length<=200000000000000)
 (hn:∀n∈l,0<=n/\n<=mx)(ht:0<=times/\times<=200000000000000)(hh:0<=s.O'/\s.O'<=1099511627777)(XO:ends.cells=[ends]):
 aD prog 157 [.ptr c 0 0,vI times,sv] U λr Z'=>r=.RB []/\Z'=C' U c (cW { s with O':=mn times s.O' l } ends):=by
 have hlen:dy false sv=some (vI (l.length:Int)):=by simpa using(hr ⟨0,0,[]⟩).1
 have TQ:C' U c (cW s ends)=U:=by
  funext j;simp only[C'];split
  .rename_i e';rw[e',hc]
  .rfl
 refine Ow.r (by simp[Mv]) ?_;refine ad.mix 9 ?_;apply sR;simp only[go_sem,seval,aO,aP,Mv,hlen];refine ad.loop (λm st=>∃(i:Nat) (h:Int),i<=l.length/\m=l.length-i/\mn times s.O' l=mn times h (l.drop i)/\(0<=h/\h<=1099511627777)/\st.U=C' U c (cW { s with O':=h } ends)/\
  st.s 0=.ptr c 0 0/\st.s 1=vI times/\st.s 9=sv/\st.s 10=vI l.length/\st.s 11=vI i) l.length ?_ ?_
 .exact⟨0,s.O',by omega,by omega,rfl,hh,TQ.symm,rfl,rfl,rfl,rfl,rfl⟩
 .rintro m ⟨s',Z'⟩ ⟨i,h,hi,rfl,hp,hhh,R3,h0,h1,h9,Wh,VQ⟩;simp only at h0 h1 h9 Wh VQ R3;subst R3;refine ad.mix 9 ?_;apply sR;simp only[go_sem,seval,aO,aP,h0,h1,h9,Wh,VQ];refine And.intro (λH'=>?_) (λWe=>?_)
  .have To:i<l.length:=by omega
   have hd:l.drop i=l[i]::l.drop (i+1):=List.drop_eq_getElem_cons To;obtain⟨pp,e1,e2⟩:=(hr (cW { s with O':=h } ends)).2 i (vI l[i]) (by simp[To]);have hni:=hn _ (List.getElem_mem To);rw[hd,mn]at hp;generalize R6:l[i]=n at*;have jk:=ED (n:=n) hni.1 ht.1;simp only[cW]at e1 e2;simp only[mx]at hni;have hq:(1099511627776:Int).tdiv n=1099511627776/n:=Int.tdiv_eq_ediv_of_nonneg (by omega);by_cases hz:n=0
   .have Sj:kK times n=n*times:=by unfold kK;rw[if_pos (.inl hz)]
    rw[Sj]at hp jk;simp only[go_sem,seval,aO,aP,e1,e2,cW,hz,h0,h1,h9,Wh,VQ];rw[hz]at hp jk;simp only[Int.zero_mul,Int.add_zero]at hp|-;refine⟨ao (by omega) (by omega),ao (by omega) (by omega),ao (by omega) (by omega),_,?_,i+1,h,by omega,rfl,?_,hhh,?_,by simp⟩
    .omega
    .rw[hp,Int.min_eq_left hhh.2]
    .rw[if_neg (by omega)]
   .simp only[go_sem,seval,aO,aP,e1,e2,cW,hz,h0,h1,h9,Wh,VQ,hq];have hdiv:0<=1099511627776/n/\1099511627776/n<=1099511627776:=⟨Int.ediv_nonneg (by omega) hni.1,Int.ediv_le_self _ (by omega)⟩
    refine⟨ao (by omega) (by omega),λhle=>?_,λhgt=>?_⟩
    .have Sj:kK times n=n*times:=by unfold kK;rw[if_pos (.inr hle)]
     rw[Sj]at hp jk;refine⟨ao (by omega) (by omega),ao (by omega) (by omega),ao (by omega) (by omega),_,?_,i+1,min (h+n*times) 1099511627777,by omega,rfl,hp,by omega,?_,by simp⟩
     .omega
     .rw[show(if 1099511627777<h+n*times then 1099511627777 else h+n*times)=min (h+n*times) 1099511627777 by split<;>omega]
    .have Sj:kK times n=1099511627777:=by unfold kK;rw[if_neg (by omega)]
     rw[Sj]at hp jk;refine⟨ao (by omega) (by omega),ao (by omega) (by omega),_,?_,i+1,min (h+1099511627777) 1099511627777,by omega,rfl,hp,by omega,?_,by simp⟩
     .omega
     .rw[show(if 1099511627777<h+1099511627777 then 1099511627777 else h+1099511627777)=min (h+1099511627777) 1099511627777 by split<;>omega]
  .have:i=l.length:=by omega
   refine⟨_,_,aa.refl _,Wk.refl (aa.refl _) _,rfl,?_⟩;rw[hp,this,List.drop_length];rfl
open Go.Proofs Go.Proofs.Tryz
def Ez{P:Program}{n:Nat}{Q:St->Prop}{k:List It}{O:TJ P}{f:Nat}{d:Option Nat}{l:List aN}{v:Nat->V}{ob:Ob}{s:Nat->V}{U:ai}{e:Nat}
 (h:∀id Z',aa (del U e) Z'->Z' id=some ob->U id=none->step P O n f (.d l k) ⟨aX s d (v id),Z'⟩ Q):
 Gu P O n f l k d ⟨s,U⟩ Q (some λid=>(v id,Vc.C' (del U e) id ob)):=by
 rw[aP];refine λid M'=>h id _ ((aa.refl _).C' ?_) ag M';by_cases e':id=e
 .simp[del,e']
 .rw[dK e'];exact M'
def lz(K U:ai)(v:V)(ends:List Int)(B:Nat):Prop:=
 (v=.aC/\ends=[])\/∃(e k:Nat) (full:List Int),v=.own e 0 k/\U e=some ⟨3,1,full.map vI⟩/\K e=none/\k<=full.length/\full.length<=B/\full.take k=ends
def Nq{K U:ai}{v:V}{ends:List Int}{B c:Nat}{i:Int}(hB:B<=1000000000000)(h:lz K U v ends B)(hK:aa K U)(hc:K c=some ⟨3,1,[vI i]⟩):
 aD prog 155 [v,.fn 156 [.ptr c 0 0]] U λr Z'=>aa K Z'/\lz K Z' r (kept i ends) B:=by
 rcases h with⟨rfl,rfl⟩|⟨e,k,full,rfl,h1,h2,h3,h4,rfl⟩
 .refine(AJ (hK _ _ hc)).mono ?_;rintro r Z' ⟨rfl,rfl⟩;exact⟨hK,.inl ⟨rfl,rfl⟩⟩
 .have R6:c≠e:=by rintro rfl;rw[h2]at hc;cases hc
  refine(Ew h1 (hK _ _ hc) R6 h3 (by omega)).mono ?_;rintro r Z' ⟨k',WR,rfl,rfl,g1,g2,g3⟩;exact⟨hK.aE h2,.inr ⟨e,k',WR,rfl,ag,h2,g1,by omega,g3⟩⟩
def aa.Io{K U:ai}{i:Nat}{o:Ob}(h:aa K U)(hi:U i=some o):aa (Vc.C' K i o) U:=λj x hx=>by
 by_cases e:j=i
 .subst e;rw[ag]at hx;rw[hi];exact hx
 .rw[ab e]at hx;exact h j x hx
def lz.new{K U Z':ai}{v:V}{ends:List Int}{B id:Nat}{o:Ob}(h:lz K U v ends B)(hs:aa U Z')(M':U id=none):lz (C' K id o) Z' v ends B:=by
 rcases h with h|⟨e,k,full,h0,h1,h2,h3⟩
 .exact .inl h
 .exact .inr ⟨e,k,full,h0,hs _ _ h1,by rw[ab (aq h1 M')];exact h2,h3⟩
def lz.less{K K' U:ai}{v:V}{ends:List Int}{B:Nat}(h:lz K' U v ends B)(hs:aa K K'):lz K U v ends B:=by
 rcases h with h|⟨e,k,full,h0,h1,h2,h3⟩
 .exact .inl h
 .exact .inr ⟨e,k,full,h0,h1,hs.none h2,h3⟩
def Jl{K U:ai}{v:V}{ends:List Int}{B c i:Nat}{x:Nd}{s:Sm}(hK:aa K U)(WE:K c=none)(hc:U c=some (cW s v))(hE:∀o,lz (C' K c o) U v ends B)(hB:B<=1000000000)
 (hi:i<=10000)(hs:s.rE i)(hsn:s.nodes=i)(hx:x.ok=true)(hw:x.words.length<=200000000000000)(TF:1<=x.size/\x.size<=1000000000):
 aD prog 102 [.ptr c 0 0,vI i,iz x] U λr Z'=>r=.RB []/\aa K Z'/\∃v',Z' c=some (cW (eX i x s ends).1 v')/\∀o,lz (C' K c o) Z' v' (eX i x s ends).2 (B+1):=by
 refine Rt.r (by simp[KB]) ?_;refine ad.mix 7 ?_;apply sR;simp only[go_sem,seval,KB,iz,Nd.cells];refine af λVk Z1 s1 a4 f4=>?_;have YQ:=s1 _ _ hc;have n4c:=aq hc f4;simp only[go_sem,seval,a4];refine af λVl Z2 s2 a5 f5=>?_;have hc2:=s2 _ _ YQ;have YZ:=aq YQ f5;have Wi:=aq a4 f5;have a4:=s2 _ _ a4;have hK2:=(hK.trans s1).trans s2;have k4:K Vk=none:=hK.none f4;have k5:K Vl=none:=(hK.trans s1).none f5;simp only[go_sem,seval,hc2,cW,a4,a5];have hK':aa (C' (C' (C' K c (cW s v)) Vk ⟨3,1,[vI i]⟩) Vl ⟨59,20,[iz x]⟩) Z2:=((hK2.Io hc2).Io a4).Io a5;have hE':lz (C' (C' (C' K c (cW s v)) Vk ⟨3,1,[vI i]⟩) Vl ⟨59,20,[iz x]⟩) Z2 v ends B:=((hE _).new s1 f4).new s2 f5;refine ad.call rfl rfl rfl (Nq (by omega) hE' hK' (by rw[ab Wi,ag])) ?_;rintro r Z3 ⟨hK3,hE3⟩;have Ue:=hK3 c _ (by rw[ab YZ,ab n4c,ag]);have a4:=hK3 Vk _ (by rw[ab Wi,ag]);have a5:=hK3 Vl _ ag;simp only[iz,Nd.cells]at a5;simp only[cW]at Ue;have hKK:=(((aa.refl K).aE WE (o:=cW s v)).aE k4 (o:=⟨3,1,[vI i]⟩)).aE k5 (o:=⟨59,20,[iz x]⟩);have h3:=hKK.trans hK3;have hsr:RM .i64 (s.nodes+1):=ao (by omega) (by omega);obtain⟨p1,p2,p3,p4,p5,p6⟩:=jG hx;obtain⟨f1,f2,f3⟩:=hs;rcases hE3 with⟨rfl,Vi⟩|⟨e,k,full,rfl,he,hKe,hk,U6,Vi⟩
 .by_cases T':x.kind=1
  .apply sR;simp only[go_sem,seval,a4,a5,Ue,ab n4c.symm,ab YZ.symm,T'];refine⟨hsr,ao (by omega) (by omega),?_⟩;refine bw λid8 Z4 s4 a8 f8=>?_;have hc4:=s4 c _ ag;have a4:=s4 Vk _ (by rw[ab n4c.symm];exact a4);have a5:=s4 Vl _ (by rw[ab YZ.symm];exact a5);have hs8:∀U,U id8=some ⟨3,1,[.int .i64 (i+x.size)]⟩->bR U 1 (.own id8 0 1)=some [.int .i64 (i+x.size)]:=by
    intro U R3;simp only[bR,R3];rw[if_pos (by simp)];simp
   have hd:∀U,cg U 3 1 .aC=some ([],none):=λ_=>rfl;simp only[go_sem,seval,hs8,a8,hd,bK,Nat.reduceLeDiff];refine bw λWg Z5 s5 a9 f9=>?_;have hc5:=s5 c _ hc4;have a4:=s5 Vk _ a4;have a5:=s5 Vl _ a5;have n9c:Wg≠c:=by rintro rfl;rw[hc4]at f9;cases f9
   have n95:Wg≠Vl:=by rintro rfl;rw[s4 Wg _ (by rw[ab YZ.symm];exact hK3 Wg _ ag)]at f9;cases f9
   simp only[go_sem,seval,hc5,a4,a5,a9,ab YZ.symm,ab n9c];refine af λYD Z6 s6 a6 f6=>?_;have hc6:=s6 c _ ag;have a9:=s6 Wg _ (by rw[ab n9c];exact a9);have n6c:YD≠c:=by rintro rfl;rw[hc6]at a6;simp at a6
   have n69:YD≠Wg:=by rintro rfl;rw[a9]at a6;simp at a6
   simp only[go_sem,seval,a6];refine af λid84 Z7 s7 a84 f84=>?_;have XP:=s7 c _ (by rw[ab n6c.symm];exact hc6);have a9:=s7 Wg _ (by rw[ab n69.symm];exact a9);have n84c:id84≠c:=by rintro rfl;rw[XP]at a84;simp at a84
   simp only[go_sem,seval];have h4:=(h3.aE WE).trans s4;have h5:=h4.trans s5;have k9:K Wg=none:=h4.none f9;have h6':=λo=>h5.aE WE (o:=o);have k6:K YD=none:=(h6' _).none f6;have h7:=(((h6' _).trans s6).aE k6).trans s7;obtain⟨q1,q2,q3,q4,q5⟩:=p6 T';have hl5:∀n∈[x.st.top,x.st.RT,x.st.RI,x.st.Rx,x.st.head],0<=n/\n<=mx:=by
    intro n hn;simp only[List.mem_cons,List.not_mem_nil,or_false]at hn;rcases hn with rfl|rfl|rfl|rfl|rfl<;>assumption
   refine ad.call rfl rfl rfl (pk (s:=⟨if(1:Int)>s.depth then 1 else s.depth,s.pieces,s.nodes+1,s.O'⟩) (l:=[x.st.top,x.st.RT,x.st.RI,x.st.Rx,x.st.head]) (times:=1) XP
    (λob=>Reads.own (off:=0) (len:=5) ((ab n84c).trans a84) rfl (by simp) (λr hr=>by simp at hr;rcases hr with rfl|rfl|rfl|rfl|rfl<;>rfl)) (by simp) hl5 (by omega) f3 rfl) ?_
   rintro r Z8 ⟨rfl,rfl⟩;apply sR;simp only[go_sem,seval,aO,aP];refine⟨_,_,aa.refl _,Wk.refl (aa.refl _) _,rfl,h7.aE WE,.own Wg 0 1,?_,λo=>.inr ⟨Wg,1,[i+x.size],rfl,(ab n9c).trans a9,fT.2 ⟨n9c,k9⟩,by simp,by simp,?_⟩⟩
   .have e:(if(1:Int)>s.depth then 1 else s.depth)=max s.depth 1:=by split<;>omega
    rw[ag,e];simp[eX,T',Vi,cW]
   .simp[eX,T',Vi]
  .by_cases UK:x.kind=2
   .apply sR;simp only[go_sem,seval,a4,a5,Ue,ab n4c.symm,ab YZ.symm,UK,dJ];refine⟨hsr,ao (by omega) (by omega),?_⟩;refine af λid7 Z7 s7 a7 f7=>?_;have XP:=s7 c _ ag;have n7c:id7≠c:=by rintro rfl;rw[XP]at a7;simp at a7
    simp only[go_sem,seval];have h7:=(h3.aE WE).trans s7;refine ad.call rfl rfl rfl (pk (s:=⟨s.depth,s.pieces+x.words.length,s.nodes+1,s.O'⟩) (l:=[x.line]) (times:=x.words.length) XP
     (λob=>Reads.own (off:=0) (len:=1) ((ab n7c).trans a7) rfl (by simp) (λr hr=>by simp at hr;rcases hr with rfl;rfl)) (by simp) (by intro n hn;simp at hn;subst hn;exact⟨p2,p3⟩) (by omega) f3 rfl) ?_
    rintro r Z8 ⟨rfl,rfl⟩;apply sR;simp only[go_sem,seval,aO,aP];refine⟨_,_,aa.refl _,Wk.refl (aa.refl _) _,rfl,h7.aE WE,_,ag.trans (by simp[eX,UK,cW];rfl),λo=>?_⟩;have:(eX i x s ends).2=kept i ends:=by simp[eX,UK]
    rw[this];exact .inl ⟨rfl,Vi⟩
   .have h4or:=p1;apply sR;simp only[go_sem,seval,a4,a5,Ue,ab n4c.symm,ab YZ.symm,T',UK,dJ];refine⟨hsr,ao (by omega) (by omega),?_⟩;refine af λid7 Z7 s7 a7 f7=>?_;have XP:=s7 c _ ag;have n7c:id7≠c:=by rintro rfl;rw[XP]at a7;simp at a7
    simp only[go_sem,seval];have h7:=(h3.aE WE).trans s7;refine ad.call rfl rfl rfl (pk (s:=⟨s.depth,s.pieces+1,s.nodes+1,s.O'⟩) (l:=[x.h]) (times:=1) XP
     (λob=>Reads.own (off:=0) (len:=1) ((ab n7c).trans a7) rfl (by simp) (λr hr=>by simp at hr;rcases hr with rfl;rfl)) (by simp) (by intro n hn;simp at hn;subst hn;exact⟨p4,p5⟩) (by omega) f3 rfl) ?_
    rintro r Z8 ⟨rfl,rfl⟩;apply sR;simp only[go_sem,seval,aO,aP];refine⟨_,_,aa.refl _,Wk.refl (aa.refl _) _,rfl,h7.aE WE,_,ag.trans (by simp[eX,T',UK,cW];rfl),λo=>?_⟩;have:(eX i x s ends).2=kept i ends:=by simp[eX,T',UK]
    rw[this];exact .inl ⟨rfl,Vi⟩
 .have Yn:e≠c:=λe'=>by rw[e',ab YZ,ab n4c,ag]at hKe;cases hKe
  have he4:e≠Vk:=λe'=>by rw[e',ab Wi,ag]at hKe;cases hKe
  have he5:e≠Vl:=λe'=>by rw[e',ag]at hKe;cases hKe
  have hKe0:K e=none:=hKK.none hKe;have hlk:(full.take k).length=k:=by simp;omega
  by_cases T':x.kind=1
  .apply sR;simp only[go_sem,seval,a4,a5,Ue,ab n4c.symm,ab YZ.symm,T'];refine⟨hsr,ao (by omega) (by omega),?_⟩;refine bw λid8 Z4 s4 a8 f8=>?_;have hc4:=s4 c _ ag;have a4:=s4 Vk _ (by rw[ab n4c.symm];exact a4);have a5:=s4 Vl _ (by rw[ab YZ.symm];exact a5);have hs8:∀U,U id8=some ⟨3,1,[.int .i64 (i+x.size)]⟩->bR U 1 (.own id8 0 1)=some [.int .i64 (i+x.size)]:=by
    intro U R3;simp only[bR,R3];rw[if_pos (by simp)];simp
   have he4':=s4 e _ (by rw[ab Yn];exact he);have hd:∀U,U e=some ⟨3,1,full.map vI⟩->cg U 3 1 (.own e 0 k)=some ((full.take k).map vI,some e):=by
    intro U R3;simp only[cg,R3];rw[if_pos ⟨trivial,trivial,trivial,by simpa using hk⟩,List.map_take]
   have WT:((full.take k).map vI).length=k:=by simpa using hlk
   have Sr:(k+1)*9<=140737488355328:=by omega
   simp only[go_sem,seval,hs8,a8,hd,he4',bK,WT,Sr];refine Ez λWg Z5 s5 a9 f9=>?_;have hc5:=s5 c _ (by rw[dK Yn.symm];exact hc4);have a4:=s5 Vk _ (by rw[dK he4.symm];exact a4);have a5:=s5 Vl _ (by rw[dK he5.symm];exact a5);have n9c:Wg≠c:=by rintro rfl;rw[hc4]at f9;cases f9
   have n95:Wg≠Vl:=by rintro rfl;rw[s4 Wg _ (by rw[ab YZ.symm];exact hK3 Wg _ ag)]at f9;cases f9
   simp only[go_sem,seval,hc5,a4,a5,a9,ab YZ.symm,ab n9c];refine af λYD Z6 s6 a6 f6=>?_;have hc6:=s6 c _ ag;have a9:=s6 Wg _ (by rw[ab n9c];exact a9);have n6c:YD≠c:=by rintro rfl;rw[hc6]at a6;simp at a6
   have n69:YD≠Wg:=by rintro rfl;rw[a9]at a6;simp at a6
   simp only[go_sem,seval,a6];refine af λid84 Z7 s7 a84 f84=>?_;have XP:=s7 c _ (by rw[ab n6c.symm];exact hc6);have a9:=s7 Wg _ (by rw[ab n69.symm];exact a9);have n84c:id84≠c:=by rintro rfl;rw[XP]at a84;simp at a84
   simp only[go_sem,seval];have h4:=(h3.aE WE).trans s4;have h4':=h4.Ik hKe0;have h5:=h4'.trans s5;have k9:K Wg=none:=h4.none f9;have h6':=λo=>h5.aE WE (o:=o);have k6:K YD=none:=(h6' _).none f6;have h7:=(((h6' _).trans s6).aE k6).trans s7;obtain⟨q1,q2,q3,q4,q5⟩:=p6 T';have hl5:∀n∈[x.st.top,x.st.RT,x.st.RI,x.st.Rx,x.st.head],0<=n/\n<=mx:=by
    intro n hn;simp only[List.mem_cons,List.not_mem_nil,or_false]at hn;rcases hn with rfl|rfl|rfl|rfl|rfl<;>assumption
   refine ad.call rfl rfl rfl (pk (s:=⟨if((k+1:Nat):Int)>s.depth then((k+1:Nat):Int)else s.depth,s.pieces,s.nodes+1,s.O'⟩) (l:=[x.st.top,x.st.RT,x.st.RI,x.st.Rx,x.st.head]) (times:=1) XP
    (λob=>Reads.own (off:=0) (len:=5) ((ab n84c).trans a84) rfl (by simp) (λr hr=>by simp at hr;rcases hr with rfl|rfl|rfl|rfl|rfl<;>rfl)) (by simp) hl5 (by omega) f3 rfl) ?_
   rintro r Z8 ⟨rfl,rfl⟩;apply sR;simp only[go_sem,seval,aO,aP];refine⟨_,_,aa.refl _,Wk.refl (aa.refl _) _,rfl,h7.aE WE,.own Wg 0 (k+1),?_,λo=>.inr ⟨Wg,k+1,full.take k++[i+x.size],rfl,((ab n9c).trans a9).trans (by simp),fT.2 ⟨n9c,k9⟩,by simp;omega,by simp;omega,?_⟩⟩
   .have e:(if((k+1:Nat):Int)>s.depth then((k+1:Nat):Int)else s.depth)=max s.depth ((k+1:Nat):Int):=by split<;>omega
    rw[ag,e];have hk0':kept i ends=full.take k:=Vi.symm;simp[eX,T',hk0',hlk,cW,Nat.min_eq_left hk]
   .have hk0':kept i ends=full.take k:=Vi.symm;rw[List.take_of_length_le (by simp;omega)];simp[eX,T',hk0']
  .by_cases UK:x.kind=2
   .apply sR;simp only[go_sem,seval,a4,a5,Ue,ab n4c.symm,ab YZ.symm,UK,dJ];refine⟨hsr,ao (by omega) (by omega),?_⟩;refine af λid7 Z7 s7 a7 f7=>?_;have XP:=s7 c _ ag;have n7c:id7≠c:=by rintro rfl;rw[XP]at a7;simp at a7
    simp only[go_sem,seval];have h7:=(h3.aE WE).trans s7;refine ad.call rfl rfl rfl (pk (s:=⟨s.depth,s.pieces+x.words.length,s.nodes+1,s.O'⟩) (l:=[x.line]) (times:=x.words.length) XP
     (λob=>Reads.own (off:=0) (len:=1) ((ab n7c).trans a7) rfl (by simp) (λr hr=>by simp at hr;rcases hr with rfl;rfl)) (by simp) (by intro n hn;simp at hn;subst hn;exact⟨p2,p3⟩) (by omega) f3 rfl) ?_
    rintro r Z8 ⟨rfl,rfl⟩;apply sR;simp only[go_sem,seval,aO,aP];refine⟨_,_,aa.refl _,Wk.refl (aa.refl _) _,rfl,h7.aE WE,_,ag.trans (by simp[eX,UK,cW];rfl),λo=>?_⟩;have:(eX i x s ends).2=kept i ends:=by simp[eX,UK]
    rw[this];exact .inr ⟨e,k,full,rfl,(ab Yn).trans (s7 e _ (by rw[ab Yn];exact he)),fT.2 ⟨Yn,hKe0⟩,hk,by omega,Vi⟩
   .have h4or:=p1;apply sR;simp only[go_sem,seval,a4,a5,Ue,ab n4c.symm,ab YZ.symm,T',UK,dJ];refine⟨hsr,ao (by omega) (by omega),?_⟩;refine af λid7 Z7 s7 a7 f7=>?_;have XP:=s7 c _ ag;have n7c:id7≠c:=by rintro rfl;rw[XP]at a7;simp at a7
    simp only[go_sem,seval];have h7:=(h3.aE WE).trans s7;refine ad.call rfl rfl rfl (pk (s:=⟨s.depth,s.pieces+1,s.nodes+1,s.O'⟩) (l:=[x.h]) (times:=1) XP
     (λob=>Reads.own (off:=0) (len:=1) ((ab n7c).trans a7) rfl (by simp) (λr hr=>by simp at hr;rcases hr with rfl;rfl)) (by simp) (by intro n hn;simp at hn;subst hn;exact⟨p4,p5⟩) (by omega) f3 rfl) ?_
    rintro r Z8 ⟨rfl,rfl⟩;apply sR;simp only[go_sem,seval,aO,aP];refine⟨_,_,aa.refl _,Wk.refl (aa.refl _) _,rfl,h7.aE WE,_,ag.trans (by simp[eX,T',UK,cW];rfl),λo=>?_⟩;have:(eX i x s ends).2=kept i ends:=by simp[eX,T',UK]
    rw[this];exact .inr ⟨e,k,full,rfl,(ab Yn).trans (s7 e _ (by rw[ab Yn];exact he)),fT.2 ⟨Yn,hKe0⟩,hk,by omega,Vi⟩
open Go.Proofs Go.Proofs.Tryz
def yi(l:List Nd)(hl:dH l):aV prog 46 [aK l] (.RB [.agg (iQ l).1.cells,vI (iQ l).2]):=λU=>by
 have hl0:=hl;obtain⟨hl1,hl2⟩:=hl;rw[<-Dm l hl0];refine e46.r (by simp[c46]) ?_;refine ad.mix 7 ?_;apply sR;simp only[go_sem,seval,c46];refine af λidR Z1 s1 aR fR=>?_;simp only[go_sem,seval,aR];refine ad.aB rfl rfl rfl (BN l hl0 _) ?_;apply sR;simp only[go_sem,seval,uR,aR];refine And.intro (λhf=>?_) (λhf=>?_)
 .simp only[Bool.not_eq_eq_eq_not,Bool.not_true]at hf;refine ay.pure (s1.aE fR) ?_;simp[wW,hf,Sm.cells]
 .simp only[Bool.not_eq_eq_eq_not,Bool.not_false]at hf;refine af λVk Z2 s2 a4 f4=>?_;have nR4:=aq aR f4;have aR:=s2 _ _ aR;have g4:U Vk=none:=s1.none f4;have hKR:aa (C' U idR ⟨125,4,[.agg Sm.zero.cells]⟩) Z2:=(s1.trans s2).Io aR;have k4:C' U idR ⟨125,4,[.agg Sm.zero.cells]⟩ Vk=none:=fT.2 ⟨nR4.symm,g4⟩;simp only[go_sem,seval,fj];refine ad.loop (λm st=>∃(i:Nat) (v:V),i<=l.length/\m=l.length-i/\aa (C' U idR ⟨125,4,[.agg Sm.zero.cells]⟩) st.U/\st.U Vk=some (cW (im l i).1 v)/\
   (∀o,lz (C' (C' U idR ⟨125,4,[.agg Sm.zero.cells]⟩) Vk o) st.U v (im l i).2 i)/\st.s 2=.ptr idR 0 0/\st.s 4=.ptr Vk 0 0/\st.s 11=aK l/\st.s 12=vI l.length/\st.s 13=vI i) l.length ?_ ?_
  .exact⟨0,.aC,by omega,by omega,hKR,a4,λo=>.inl ⟨rfl,rfl⟩,rfl,rfl,rfl,rfl,rfl⟩
  .rintro m ⟨s,Z'⟩ ⟨i,v,hi,rfl,G',h4s,hE,h2,h4,VQ,h12,h13⟩;simp only at G' h4s hE h2 h4 VQ h12 h13;obtain⟨e1,e2,e3,e4⟩:=lH l hl0 hf i hi;have RC:l.all Nd.ok=true/\cq l 0 l.length=true:=by simpa[So]using hf
   have hRs:Z' idR=some ⟨125,4,[.agg Sm.zero.cells]⟩:=G' idR _ ag;refine ad.mix 7 ?_;apply sR;simp only[go_sem,seval,h2,h4,VQ,h12,h13,h4s,cW,hRs,Sm.zero,Sm.cells];refine And.intro (λH'=>?_) (λWe=>?_)
   .have To:i<l.length:=by omega
    have hx:=(List.all_eq_true.1 RC.1) _ (List.getElem_mem To);have hxw:=hl2 _ (List.getElem_mem To);obtain⟨z1,z2,z3⟩:=iC l (l.length+1) 0 l.length (by omega) (by omega) RC.2 i (by omega) To To;have V8:im l (i+1)=eX i l[i] (im l i).1 (im l i).2:=by simp[im,To]
    generalize YV:l[i]=x at*;simp only[go_sem,seval,lY To,YV,h2,h4,VQ,h12,h13,Nd.cells];refine af λYD Z6 s6 a6 f6=>?_;have n64:YD≠Vk:=by rintro rfl;rw[h4s]at f6;cases f6
    have n6R:YD≠idR:=by rintro rfl;rw[hRs]at f6;cases f6
    have g6:C' U idR ⟨125,4,[.agg Sm.zero.cells]⟩ YD=none:=G'.none f6;simp only[go_sem,seval,a6,h2,h4,VQ,h12,h13];have hsub6:=G'.trans s6;have Tg:=(Jl (K:=C' U idR ⟨125,4,[.agg Sm.zero.cells]⟩) (U:=C' Z6 YD ⟨59,20,[iz x]⟩) (i:=i) (x:=x) (s:=(im l i).1) (B:=i) (hsub6.aE g6) k4 ((ab n64.symm).trans (s6 _ _ h4s))
     (λo=>((hE o).new (s6.aE f6) f6 (o:=⟨0,0,[]⟩)).less ((aa.refl _).aE (fT.2 ⟨n64,g6⟩))) (by omega) (by omega) (by rw[e1];exact e3) (by rw[e1]) hx hxw (by omega))
    simp only[iz,Nd.cells]at Tg;refine ad.call rfl rfl rfl (by simp only[go_sem,seval,aO,aP,h4];exact Tg) ?_
    .rintro r Z7 ⟨rfl,hK7,v',h4',hE'⟩;apply sR;simp only[go_sem,seval,aO,aP,h2,h4,VQ,h12,h13];refine⟨ao (by omega) (by omega),_,?_,i+1,v',by omega,rfl,hK7,?_,?_,?_⟩
     .omega
     .rw[V8,h4'];rfl
     .intro o;rw[V8];exact hE' o
     .simp
   .have Um:i=l.length:=by omega
    subst Um;refine ay.pure ((((aa.refl U).aE fR).trans G').aE fR) ?_;simp[wW,hf,Sm.cells]
open Go.Proofs Go.Proofs.Tryz
def Ar:((2:Nat):Int)=2:=rfl
def zw:((3:Nat):Int)=3:=rfl
def yy:((4:Nat):Int)=4:=rfl
def yI(l:List Nd)(hl:dH l):aV prog 45 [aK l] (vI (gY l)):=λU=>by
 refine e45.r (by simp[c45]) ?_;refine ad.mix 8 ?_;apply sR;simp only[go_sem,seval,c45];refine ad.aB rfl rfl rfl (yi l hl _) ?_;apply sR;simp only[go_sem,seval,Sm.cells];refine af λid3 Z1 s1 a3 f3=>?_;have G':=λo=>s1.aE f3 (o:=o);simp only[go_sem,seval,a3];have hc:(iQ l).2=if So l then 0 else 4:=by unfold iQ;split<;>rfl
 refine And.intro (λh=>?_) (λh=>?_)
 .refine ay.pure (G' _) ?_;have:So l=false:=by
   rw[hc]at h;cases hb:So l<;>simp_all
  simp[gY,this,hc]
 .have hb:So l=true:=by
   rw[hc]at h;cases hb:So l<;>simp_all
  have hR:gY l=if(iQ l).1.depth>16\/(iQ l).1.pieces>2000\/(iQ l).1.nodes>2000\/(iQ l).1.O'>1099511627776 then 2 else 0:=by
   simp only[gY,hb,if_true]
  generalize (iQ l).1=sm at*;refine af λVl Z2 s2 a5 f5=>?_;have Uh:=(G' _).trans s2;have g5:U Vl=none:=(G' _).none f5;simp only[go_sem,seval,a5];refine ad.loop (λm st=>∃(i:Nat),i<=4/\m=4-i/\st.U=C' Z2 Vl ⟨195,4,[.agg sm.cells]⟩/\(0<i->sm.depth<=16)/\(1<i->sm.pieces<=2000)/\(2<i->sm.nodes<=2000)/\(3<i->sm.O'<=1099511627776)/\
   st.s 5=.ptr Vl 0 0/\st.s 25=.agg [vI 16,vI 2000,vI 2000,vI 1099511627776]/\st.s 26=vI i) 4 ?_ ?_
  .exact⟨0,by omega,by omega,rfl,by omega,by omega,by omega,by omega,rfl,rfl,rfl⟩
  .rintro m ⟨s,Z'⟩ ⟨i,hi,rfl,R3,p1,p2,p3,p4,h5,h25,h26⟩;simp only at R3 h5 h25 h26;subst R3;have W5:i=0\/i=1\/i=2\/i=3\/i=4:=by omega
   have hend:∀(p:Prop),p->p:=λ_ h=>h;rcases W5 with rfl|rfl|rfl|rfl|rfl
   .refine ad.mix 8 ?_;apply sR;simp only[go_sem,seval,aO,aP,h5,h25,h26,Sm.cells,Int.ofNat_zero,Int.natCast_zero,Ar,zw,yy,Int.toNat_zero,Int.reduceToNat,Nat.zero_mul];refine And.intro (λg=>?_) (λg=>?_)
    .refine ay.pure (Uh.aE g5) ?_;rw[hR,if_pos];omega
    .refine⟨ao (by omega) (by omega),_,?_,1,by omega,rfl,?_,?_,?_,?_,rfl⟩<;>omega
   .refine ad.mix 8 ?_;apply sR;simp only[go_sem,seval,aO,aP,h5,h25,h26,Sm.cells,Int.ofNat_zero,Int.natCast_zero,Int.natCast_one,Int.toNat_one,Ar,zw,yy,Int.toNat_zero,Int.reduceToNat,Nat.zero_mul,Nat.reduceMul];refine And.intro (λg=>?_) (λg=>?_)
    .refine ay.pure (Uh.aE g5) ?_;rw[hR,if_pos];omega
    .refine⟨ao (by omega) (by omega),_,?_,2,by omega,rfl,?_,?_,?_,?_,rfl⟩<;>omega
   .refine ad.mix 8 ?_;apply sR;simp only[go_sem,seval,aO,aP,h5,h25,h26,Sm.cells,Int.ofNat_zero,Int.natCast_zero,Int.natCast_one,Int.toNat_one,Ar,zw,yy,Int.toNat_zero,Int.reduceToNat,Nat.zero_mul,Nat.reduceMul];refine And.intro (λg=>?_) (λg=>?_)
    .refine ay.pure (Uh.aE g5) ?_;rw[hR,if_pos];omega
    .refine⟨ao (by omega) (by omega),_,?_,3,by omega,rfl,?_,?_,?_,?_,rfl⟩<;>omega
   .refine ad.mix 8 ?_;apply sR;simp only[go_sem,seval,aO,aP,h5,h25,h26,Sm.cells,Int.ofNat_zero,Int.natCast_zero,Int.natCast_one,Int.toNat_one,Ar,zw,yy,Int.toNat_zero,Int.reduceToNat,Nat.zero_mul,Nat.reduceMul];refine And.intro (λg=>?_) (λg=>?_)
    .refine ay.pure (Uh.aE g5) ?_;rw[hR,if_pos];omega
    .refine⟨ao (by omega) (by omega),_,?_,4,by omega,rfl,?_,?_,?_,?_,rfl⟩<;>omega
   .refine ad.mix 8 ?_;apply sR;simp only[go_sem,seval,aO,aP,h5,h25,h26,Sm.cells,Int.ofNat_zero,Int.natCast_zero,Int.natCast_one,Ar,zw,yy,Int.toNat_zero,Int.reduceToNat,Nat.zero_mul];refine ay.pure (Uh.aE g5) ?_;rw[hR,if_neg];omega
open Go.Proofs Go.Proofs.Tryz
def uH(U:ai)(l:List Int):bT U false 1 (.rp (bn l))=some (bn l):=rfl
open Go.Proofs Go.Proofs.Tryz
def Sa(l:List Nd)(i:Nat):Int:=((l[i]?).map Nd.size).getD 0
def uS(l:List Nd)(a:Int):Bool:=decide (0<=a)&&decide (a<l.length)
def gU(l:List Nd)(a b:Int):Bool:=uS l a&&(uS l b&&(decide (b>=a)&&decide (b-a<Sa l a.toNat)))
def gG(l:List Nd)(a:Nat):Nat->List Int
 |0=>[]
 |k+1=>if gU l k a then(k:Int)::gG l a k else gG l a k
def rC(l:List Nd)(a:Nat):Nat->Int
 |0=>-1
 |k+1=>if gU l k a then(k:Int)else rC l a k
def eQ(l:List Nd)(a:Nat):Int:=rC l a a
def yV{l:List Nd}{a:Int}:uS l a=true↔0<=a/\a<l.length:=by simp[uS]
def lf{l:List Nd}{i:Nat}(h:i<l.length):Sa l i=l[i].size:=by simp[Sa,h]
def GU{l:List Nd}(h:So l=true){i:Nat}(hi:i<l.length):1<=l[i].size/\l[i].size<=(l.length:Int)-i/\(l[i].kind=1\/l[i].size<=1):=by
 simp only[So,Ba]at h;exact iC l (l.length+1) 0 l.length (by omega) (Nat.le_refl _) h.2 i (by omega) hi hi
def tP(l:List Nd)(a:Nat):∀k,-1<=rC l a k/\rC l a k<k
 |0=>by simp[rC]
 |k+1=>by
  rw[rC];split
  .omega
  .have:=tP l a k;omega
open Go.Proofs Go.Proofs.Tryz
def wR(U:ai)(l:List Int):bR U 1 (bn l)=some (l.map vI):=by simp[bn,bR]
def pO{l:List Nd}(hb:So l=true){i:Nat}(h:i<l.length):1<=Sa l i/\Sa l i<=l.length:=by
 rw[lf h];have:=GU hb h;omega
end Go.Vc
