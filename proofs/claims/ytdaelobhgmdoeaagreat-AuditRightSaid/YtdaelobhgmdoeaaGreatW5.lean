/- Part 5 of the library of this proof. -/
import Derived.Test.YtdaelobhgmdoeaaGreatW4
set_option linter.all false
set_option maxHeartbeats 8000000
set_option maxRecDepth 100000
namespace Go.Vc
variable {P:Program} {n:Nat} {st:St} {Q:St->Prop} {k:List It}
def vK{Yo:List (List Nat)}{A':List Nat}{i:Nat}(h:i∈dB Yo A'):i<Yo.length/\i∉A'/\∀k∈Yo.getD i [],k∈A':=by
 unfold dB at h;obtain⟨h1,h2⟩:=sx.1 h;simp only[Ba,Bool.not_eq_true',ed]at h2;exact⟨by simpa using h1,by simpa using h2.1,λk hk=>by simpa using h2.2 k hk⟩
def wL:∀(n:Nat) (L:List Nat),L.Nodup->(∀k∈L,k<n)->L.length<=n/\(L.length=n->∀k,k<n->k∈L)
 |0,L,_,h=>by
  cases L with
  |nil=>simp
  |cons a L=>have:=h a (by simp);omega
 |n+1,L,hd,h=>by
  by_cases hn:n∈L
  .have h1:=wL n (L.erase n) (hd.erase n) λk hk=>by
    have h2:=h k (List.mem_of_mem_erase hk);have h3:k≠n:=λe=>by subst e;exact(List.Nodup.not_mem_erase hd) hk
    omega
   have h4:=List.length_erase_of_mem hn;have h5:0<L.length:=List.length_pos_of_mem hn;refine⟨by omega,λhe k hk=>?_⟩;by_cases hkn:k=n
   .rw[hkn];exact hn
   .exact List.mem_of_mem_erase (h1.2 (by omega) k (by omega))
  .have h1:=wL n L hd λk hk=>by
    have h2:=h k hk;have h3:k≠n:=λe=>hn (e▸hk);omega
   exact⟨by omega,λhe=>by omega⟩
variable {P:Program} {n:Nat} {st:St} {Q:St->Prop} {k:List It}
def TC(P:Program)(i:az)(x:St)(K:St->Prop):Prop:=T P i x K\/(aP x.s i.g=some true/\match i.op with
 |.call fx xs=>∃f caps Post,fx.ev x.s=.fn f caps/\au P f (xs.map (·.ev x.s)++caps) x.U Post/\∀r Z',Post r Z'->K ⟨aN x.s i.dst r,Z'⟩
 |_=>False)
def TC.mono{i:az}{x:St}{K K':St->Prop}(hk:∀x,K x->K' x)(h:TC P i x K):TC P i x K':=by
 rcases h with h|⟨h1,h2⟩
 .exact .inl (h.mono hk)
 .refine .inr ⟨h1,?_⟩;split at h2
  .obtain⟨f,caps,Post,g1,g2,g3⟩:=h2;exact⟨f,caps,Post,g1,g2,λr Z' hp=>hk _ (g3 r Z' hp)⟩
  .exact h2.elim
def I9{F:Fr}(hn:F.n=n){o:Oper}{all:Array Oper}{x:St}{K:St->Prop}{a:Act}{w:World}(h:TC P (bG P n all o) x K)(hs:ef F x a w)
 {next:Act->World->Prop}{Q':Exit->Act->World->Prop}(Yd:∀x' a' w',ef F x' a' w'->K x'->next a' w'):
 if Region.wanted o (yielded all a.tmps)then Yn P n o.op≠.bad/\o.wp P a w next Q' else next (a.put o.dst undef) w:=by
 rcases h with h|⟨hw,h⟩
 .exact vq hn h hs Yd
 subst hn;obtain⟨I,hs⟩:=hs;have hwant:=pF (P:=P) hs all o hw;rw[hwant];simp only[if_true];have hdst:(bG P F.n all o).dst=o.dst.filter (·<F.n):=rfl;have hopc:(bG P F.n all o).op=Yn P F.n o.op:=rfl;rw[hdst,hopc]at h;split at h
 .rename_i fx xs Yf;refine⟨λe=>?_,?_⟩
  .rw[Yf]at e;cases e
  obtain⟨f,caps,Post,h1,h2,h3⟩:=h;obtain⟨f0,args,argTypes,g1,rfl,rfl⟩:=mC Yf;refine mT hs g1 h1 h2 λr Z' hp a' w' Yk=>?_;exact Yd _ a' w' Yk (h3 r Z' hp)
 .exact h.elim
def TnC(P:Program)(n:Nat)(ops:Array Oper)(i:Nat)(x:St)(K:St->Prop):Prop:=match ops[i]? with
 |some o=>TC P (bG P n ops o) x K
 |none=>K x
def zT(P:Program)(n:Nat)(ops:Array Oper)(Q:St->Prop):Nat->Array Bool->St->Prop
 |0,A',x=>Region.ready .any ops A'=[]/\Q x
 |f+1,A',x=>(Region.ready .any ops A'=[]->Q x)/\∀i∈Region.ready .any ops A',TnC P n ops i x (zT P n ops Q f (A'.setIfInBounds i true))
def oC{F:Fr}(hn:F.n=n){ops:Array Oper}{Q:St->Prop}{Q':Exit->Act->World->Prop}(hQ:∀x a w,ef F x a w->Q x->Q' .normal a w):
 ∀(f:Nat) (A':Array Bool) (x:St) (a:Act) (w:World),ef F x a w->zT P n ops Q f A' x->wpAnyIn F.dW 0 P .any ops Q' f A' a w
 |0,_,_,_,_,hs,h=>⟨h.1,hQ _ _ _ hs h.2⟩
 |f+1,A',x,a,w,hs,h=>by
  refine⟨λh0=>hQ _ _ _ hs (h.1 h0),λi hi=>?_⟩;have h1:=h.2 i hi;unfold TnC at h1;unfold wpOpIn;cases ho:ops[i]? with
  |none=>
   simp only[ho]at h1;exact oC hn hQ f _ x a w hs h1
  |some o=>
   simp only[ho]at h1;have h2:=I9 (Q':=Q') hn h1 hs λx' a' w' Yk hk=>oC hn hQ f _ x' a' w' Yk hk;by_cases hw:Region.wanted o (yielded ops a.tmps)=true
   .rw[ar hw]at h2;simp only[hw,if_true];exact Hf (kg h2.1) h2.2
   .rw[av hw]at h2;simp only[hw];exact⟨λ_ _=>trivial,h2⟩
def vF(P:Program)(l:List az)(rec:List Nat->St->Prop)(A':List Nat)(x:St):List Nat->Prop
 |[]=>True
 |i::is=>(match l[i]? with
   |some ins=>TC P ins x (rec (i::A'))
   |none=>False)/\vF P l rec A' x is
def iQ(P:Program)(l:List az)(Yo:List (List Nat))(Q:St->Prop):Nat->List Nat->St->Prop
 |0,A',x=>dB Yo A'=[]/\Q x
 |f+1,A',x=>match dB Yo A' with
   |[]=>Q x
   |i::is=>vF P l (iQ P l Yo Q f) A' x (i::is)
def pE{l:List az}{rec:List Nat->St->Prop}{A':List Nat}{x:St}:∀{is:List Nat},vF P l rec A' x is->∀i∈is,∃ins,l[i]?=some ins/\TC P ins x (rec (i::A'))
 |[],_,_,hi=>by cases hi
 |j::is,h,i,hi=>by
  obtain⟨h1,h2⟩:=h;rcases cm.1 hi with rfl|hi
  .cases hl:l[i]? with
   |none=>rw[hl]at h1;exact h1.elim
   |some ins=>rw[hl]at h1;exact⟨ins,rfl,h1⟩
  .exact pE h2 i hi
def nk{ops:Array Oper}{Q:St->Prop}:∀(f:Nat) (arr:Array Bool) (A':List Nat) (x:St),arr.size=ops.size->(∀i,i<ops.size->arr.getD i true=A'.contains i)->
 (∀i∈A',i<ops.size)->iQ P (ops.toList.map (bG P n ops)) (ki ops) Q f A' x->zT P n ops Q f arr x
 |0,arr,A',x,hs,hl,ho,h=>⟨by rw[zn hs hl ho];exact h.1,h.2⟩
 |f+1,arr,A',x,hs,hl,ho,h=>by
  have hr:=zn hs hl ho;unfold iQ at h;refine⟨λh0=>?_,λi hi=>?_⟩
  .rw[hr]at h0;rw[h0]at h;exact h
  .rw[hr]at hi;have L':i<ops.size:=by
    have:=(sx.1 hi).1;simpa[ki]using this
   have Ze:vF P (ops.toList.map (bG P n ops)) (iQ P (ops.toList.map (bG P n ops)) (ki ops) Q f) A' x (dB (ki ops) A'):=by
    cases hrr:dB (ki ops) A' with
    |nil=>exact trivial
    |cons j js=>rw[hrr]at h;exact h
   obtain⟨ins,h1,h2⟩:=pE Ze i hi;have h3:ops[i]?=some ops[i]:=Array.getElem?_eq_getElem L';have h4:ins=bG P n ops ops[i]:=by simpa[L']using h1.symm
   unfold TnC;simp only[h3];rw[<-h4];refine h2.mono λx' YM=>nk f _ (i::A') x' (by simpa using hs) (λj hj=>?_) (λj hj=>?_) YM
   .by_cases e:j=i
    .subst e;rw[Zq7,Array.getElem?_setIfInBounds_self_of_lt (by omega)];simp
    .rw[Zq7,Array.getElem?_setIfInBounds_ne (λe'=>e e'.symm),<-Zq7,hl j hj];simp[e]
   .rcases cm.1 hj with rfl|hj
    .exact L'
    .exact ho j hj
def ab.Ox(hm:P.follows .mixedOrders=true){l:List az}{Yo:List (List Nat)}(h:iQ P l Yo (λx=>ab P n k x Q) l.length [] st):ab P n (.code (.regA l Yo)::k) st Q:=by
 intro F hn kt hk a w hs;obtain⟨z,kt',rfl,hy,ZU⟩:=dn hk;obtain⟨c0,rfl,ZH⟩:=fX hy;have hc0:∃id ops,c0=.region id ops true/\ops.toList.map (bG P n ops)=l/\ki ops=Yo:=by
  cases c0<;>simp only[cX,reduceCtorEq]at ZH;rename_i id ops draw;cases draw
  .simp at ZH
  .simp only[Bool.true_and]at ZH;split at ZH
   .cases ZH
   split at ZH
   .simp only[bc.regA.injEq]at ZH;exact⟨id,ops,rfl,ZH.1,ZH.2⟩
   .simp at ZH
 obtain⟨id,ops,rfl,rfl,rfl⟩:=hc0;have Yk:ef F st a { w with drawn:=w.drawn+1 }:=by
  obtain⟨I,hs⟩:=hs;have hk:cF (aA I st.U) (aA I st.U) w { w with drawn:=w.drawn+1 }:=λ_ _ h=>⟨h,rfl⟩
  refine⟨I,⟨⟨hs.sat.size,hs.sat.os,hs.sat.tape,hs.sat.output,hs.sat.same,hs.sat.fin,hs.sat.inj,λid o ho=>?_,hs.sat.fresh,hs.sat.glob⟩,hs.le,hs.size,hs.book.gP hk,λi hi=>?_⟩⟩
  .exact(hs.sat.obj id o ho).mono (cD.refl I) hk (YY _) (λ_ _ _ _=>rfl)
  .exact E'.mono (cD.refl I) hk (YY _) _ _ (hs.slot i hi)
 refine wpIn_region_any hm (oC (Q:=λx=>ab P n k x Q) hn (λx a w hs h=>h F hn kt' ZU a w hs) _ _ _ _ _ Yk ?_);have:=nk (P:=P) (n:=n) (Q:=λx=>ab P n k x Q) (ops:=ops) ops.size (Array.replicate ops.size false) [] st (by simp) (λi hi=>by
  rw[Zq7,Array.getElem?_replicate,ar hi];simp) (by simp) (by simpa using h)
 exact this
def rX{l:List az}{rec:List Nat->St->Prop}{A':List Nat}{x:St}:∀{is:List Nat},(∀i∈is,∃ins,l[i]?=some ins/\TC P ins x (rec (i::A')))->vF P l rec A' x is
 |[],_=>trivial
 |j::is,h=>by
  obtain⟨ins,h1,h2⟩:=h j (by simp);refine⟨by rw[h1];exact h2,rX λi hi=>h i (by simp[hi])⟩
variable {P:Program} {n:Nat} {st:St} {Q:St->Prop} {k:List It}
def QYd(P:Program)(i:az)(x:St):Prop:=match i.dst with
 |some d=>QY P i x.s x.U (x.s d)
 |none=>∃v,QY P i x.s x.U v
def RE(P:Program)(l:List az)(K:St->Prop):List Nat->St->Prop
 |[],x=>K x
 |m::its,x=>match l[m/2]? with
  |none=>False
  |some ins=>if m%2=0 then TC P ins x (RE P l K its)else QYd P ins x/\RE P l K its x
def bg(l:List az)(i:Nat):az:=(l[i]?).getD ⟨none,.bad,none⟩
def ep(Yu:List (List Nat))(i:Nat):List Nat:=Yu.getD i []
def cY(l:List az)(Yu:List (List Nat))(j:Nat):Bool:=aX (bg l j).op != 0||(match(bg l j).dst with
 |some d=>(List.range l.length).any λi=>(bg l i).mF.contains d&&!(ep Yu i).contains j
 |none=>false)
def GX(l:List az)(Yu:List (List Nat))(done:List Nat)(e:Nat):List Nat:=
 if cY l Yu e then done.filterMap λk=>if !(cY l Yu k)&&(!(lD (bg l k).op)&&!((ep Yu e).contains k))then some (2*k+1)else none else[]
def dC(l:List az)(Yu:List (List Nat)):List Nat->List Nat->List Nat
 |_,[]=>[]
 |done,e::r=>2*e::(GX l Yu done e++dC l Yu (done++[e]) r)
def oD(p:Nat->Nat->Bool):List Nat->Bool
 |[]=>true
 |a::r=>r.all (p a)&&oD p r
def oT{p:Nat->Nat->Bool}:∀{a:List Nat} {b:List Nat} {x y:Nat},oD p (a++b)=true->x∈a->y∈b->p x y=true
 |[],_,_,_,_,h,_=>by cases h
 |c::a,b,x,y,hp,hx,hy=>by
  simp only[List.cons_append,oD,Ba]at hp;rcases cm.1 hx with rfl|hx
  .exact ed.1 hp.1 y (List.mem_append_right _ hy)
  .exact oT hp.2 hx hy
def wQ(f:Nat->List Nat):List Nat->List Nat->Bool
 |_,[]=>true
 |done,e::r=>(f e).all done.contains&&wQ f (done++[e]) r
def tz{f:Nat->List Nat}:∀{r done:List Nat} {a:List Nat} {e:Nat} {b:List Nat},wQ f done r=true->r=a++e::b->∀x∈f e,x∈done++a
 |[],_,a,e,b,_,h,_,_=>by simp at h
 |c::r,done,[],e,b,hB,h,x,hx=>by
  simp only[kW,List.cons.injEq]at h;obtain⟨rfl,rfl⟩:=h;simp only[wQ,Ba]at hB;simpa using ed.1 hB.1 x hx
 |c::r,done,d::a,e,b,hB,h,x,hx=>by
  simp only[List.cons_append,List.cons.injEq]at h;obtain⟨rfl,rfl⟩:=h;simp only[wQ,Ba]at hB;have:=tz hB.2 rfl x hx;simpa using this
def NW(l:List az)(Yo Yu:List (List Nat))(ord:List Nat):Bool:=
 (decide (ord.length=l.length)&&(decide (Yo.length=l.length)&&ord.all λi=>decide (i<l.length)))&&
 (oD (λa b=>decide (a≠b)) ord&&
 (wQ (λi=>Yo.getD i []) [] ord&&
 ((List.range l.length).all (λj=>(ep Yu j).all λi=>(Yo.getD j []).any λd=>d==i||(ep Yu d).contains i)&&
 ((List.range l.length).all (λi=>(List.range l.length).all λj=>i==j||((bg l i).dst.isNone||(bg l i).dst != (bg l j).dst))&&
 (List.range l.length).all (λi=>(List.range l.length).all λj=>i==j||(match(bg l j).dst with
   |some d=>!((bg l i).mF.contains d)||((ep Yu i).contains j||(cY l Yu j&&(ep Yu j).contains i))
   |none=>true))))))
def eOk(l:List az)(Yo Yu:List (List Nat))(ord:List Nat):Bool:=NW l Yo Yu ord&&oD (λa b=>!(cY l Yu a)||(ep Yu b).contains a) ord
def tW:∀{l:List Nat},oD (λa b=>decide (a≠b)) l=true->l.Nodup
 |[],_=>List.nodup_nil
 |a::r,h=>by
  simp only[oD,Ba]at h;refine List.nodup_cons.2 ⟨λhm=>?_,tW h.2⟩;have:=ed.1 h.1 a hm;simp at this
structure EOkW(l:List az)(Yo Yu:List (List Nat))(ord:List Nat):Prop where
 len:ord.length=l.length
 dlen:Yo.length=l.length
 lt:∀i∈ord,i<l.length
 nodup:ord.Nodup
 ahead:∀a e b,ord=a++e::b->∀x∈Yo.getD e [],x∈a
 anc:∀j,j<l.length->∀i∈ep Yu j,∃d∈Yo.getD j [],d=i\/i∈ep Yu d
 dsts:∀i j,i<l.length->j<l.length->i≠j->∀d,(bg l i).dst=some d->(bg l j).dst≠some d
 anti:∀i j,i<l.length->j<l.length->i≠j->∀d,(bg l j).dst=some d->d∈(bg l i).mF->j∈ep Yu i\/(cY l Yu j=true/\i∈ep Yu j)
def zc{l:List az}{Yo Yu:List (List Nat)}{ord:List Nat}(h:NW l Yo Yu ord=true):EOkW l Yo Yu ord:=by
 simp only[NW,Ba,Zq9]at h;obtain⟨⟨h1,h2,h3⟩,h4,h5,h6,h7,h8⟩:=h;refine⟨h1,h2,λi hi=>by simpa using ed.1 h3 i hi,tW h4,λa e b he x hx=>by simpa using tz h5 he x hx,?_,?_,?_⟩
 .intro j hj i hi;have:=ed.1 (ed.1 h6 j (by simpa using hj)) i hi;simp only[Ra,kU,beq_iff_eq,List.contains_iff_mem]at this;exact this
 .intro i j hi hj YF d hd he;have:=ed.1 (ed.1 h7 i (by simpa using hi)) j (by simpa using hj);simp only[kU,beq_iff_eq,hd,he,Option.isNone_some,bne_self_eq_false,eT,or_false]at this;exact YF this
 .intro i j hi hj YF d hd hu;have:=ed.1 (ed.1 h8 i (by simpa using hi)) j (by simpa using hj);simp only[kU,beq_iff_eq,hd,Ba,Bool.not_eq_true',List.contains_iff_mem]at this;rcases this with h|h|h
  .exact absurd h YF
  .have hc:(bg l i).mF.contains d=true:=List.contains_iff_mem.2 hu;rw[hc]at h;cases h
  .exact h
structure EOk(l:List az)(Yo Yu:List (List Nat))(ord:List Nat):Prop extends EOkW l Yo Yu ord where
 effs:∀a b x y,ord=a++b->x∈a->y∈b->cY l Yu x=true->x∈ep Yu y
def BR{l:List az}{Yo Yu:List (List Nat)}{ord:List Nat}(h:eOk l Yo Yu ord=true):EOk l Yo Yu ord:=by
 simp only[eOk,Ba]at h;refine⟨zc h.1,λa b x y he hx hy hxe=>?_⟩;have h9:=h.2;rw[he]at h9;have:=oT h9 hx hy;simp only[hxe,Bool.not_true,Bool.false_or,List.contains_iff_mem]at this;exact this
def EOkW.closed{l:List az}{Yo Yu:List (List Nat)}{ord:List Nat}(h:EOkW l Yo Yu ord){L:List Nat}(hc:∀m∈L,∀d∈Yo.getD m [],d∈L)(hmem:∀i,i<l.length->i∈ord):
 ∀(m:Nat) (a:List Nat) (j:Nat) (b:List Nat),a.length<m->ord=a++j::b->(∀d∈Yo.getD j [],d∈L)->∀i∈ep Yu j,i∈L:=by
 intro m
 induction m with
 |zero=>intro a j b ha;omega
 |succ m ih=>
  intro a j b ha he hd i hi;have hj:j<l.length:=h.lt j (by rw[he];simp);obtain⟨d,h1,h2⟩:=h.anc j hj i hi;rcases h2 with rfl|h2
  .exact hd d h1
  .have hda:=h.ahead a j b he d h1;obtain⟨a1,a2,rfl⟩:=List.append_of_mem hda;exact ih a1 d (a2++j::b) (by simp at ha;omega) (by rw[he];simp) (λd' h'=>hc d (hd d h1) d' h') i h2
def ov{i:az}{s s':Nat->V}(h:∀u∈i.mF,s u=s' u):aP s i.g=aP s' i.g:=by
 cases hg:i.g with
 |none=>rfl
 |some g=>
  obtain⟨x,b⟩:=g;have:x.ev s=x.ev s':=by
   cases x with
   |t t=>exact h t (List.mem_filterMap.2 ⟨.t t,List.mem_append_right _ (by simp[hg]),rfl⟩)
   |c v=>rfl
  simp only[aP,this]
def BX{i:az}{s s':Nat->V}(h:∀u∈i.mF,s u=s' u):∀x∈i.op.xs,x.ev s=x.ev s':=λx hx=>by
 cases x with
 |t t=>exact h t (Ge hx rfl)
 |c v=>rfl
def DJ{i:az}{s s':Nat->V}{U:af}{v:V}(h:∀u∈i.mF,s u=s' u)(hq:QY P i s U v):QY P i s' U v:=by
 unfold QY at*;rw[<-ov h];exact hq.imp (λ⟨h1,h2⟩=>⟨h1,xz (BX h) h2⟩) id
def Di{i:az}{x y:St}{K K':St->Prop}(h:∀u∈i.mF,x.s u=y.s u)(YK:x.U=y.U)(hk:∀r Z',K ⟨aN x.s i.dst r,Z'⟩->K' ⟨aN y.s i.dst r,Z'⟩)(ht:TC P i x K):TC P i y K':=by
 have hx:=BX h;rcases ht with ht|⟨hw,ht⟩
 .refine .inl ?_;unfold T at*;rw[<-ov h];split<;>rename_i ho<;>simp only[ho]at ht
  .unfold TO at*;split<;>rename_i hk0<;>simp only[hk0]at ht
   .obtain⟨g1,v,g2,g3⟩:=ht;obtain⟨e1,e2⟩:=tZ (U:=y.U) hx;exact⟨e2.1 g1,v,by rw[<-e1,<-YK];exact g2,by rw[<-YK];exact hk _ _ g3⟩
   .split at ht
    .rename_i fx xs Yf;obtain⟨f,caps,v,g1,g2,g3⟩:=ht;refine⟨f,caps,v,?_,?_,by rw[<-YK];exact hk _ _ g3⟩
     .rw[<-hx fx (by rw[Yf];simp[Yw.xs])];exact g1
     .rw[<-sV (s:=x.s) (s':=y.s) λz hz=>hx z (by rw[Yf];simp[Yw.xs,hz]),<-YK];exact g2
    .exact ht.elim
   .split at ht
    .rename_i sz xa xv Yf;obtain⟨Z',g1,g2⟩:=ht;refine⟨Z',?_,hk _ _ g2⟩;rw[<-hx xa (by rw[Yf];simp[Yw.xs]),<-hx xv (by rw[Yf];simp[Yw.xs]),<-YK];exact g1
    .exact ht.elim
   .obtain⟨g,g1,g2⟩:=ht;refine⟨g,by rw[<-fo hx,<-YK];exact g1,λid O'=>hk _ _ (g2 id (by rw[YK];exact O'))⟩
  .rw[<-YK];exact hk _ _ ht
 .refine .inr ⟨by rw[<-ov h];exact hw,?_⟩;split at ht
  .rename_i fx xs Yf;obtain⟨f,caps,Post,g1,g2,g3⟩:=ht;refine⟨f,caps,Post,?_,?_,λr Z' hp=>hk _ _ (g3 r Z' hp)⟩
   .rw[<-hx fx (by rw[Yf];simp[Yw.xs])];exact g1
   .rw[<-sV (s:=x.s) (s':=y.s) λz hz=>hx z (by rw[Yf];simp[Yw.xs,hz]),<-YK];exact g2
  .exact ht.elim
structure kI(P:Program)(l:List az)(Yo Yu:List (List Nat))(ord:List Nat)(K:St->Prop)(L:List Nat)(y:St)(done rest:List Nat)(x:St):Prop where
 split:ord=done++rest
 sub:∀i∈L,i∈done
 nodup:L.Nodup
 closed:∀m∈L,∀d∈Yo.getD m [],d∈L
 effs:∀i∈done,cY l Yu i=true->i∈L
 store:y.U=x.U
 slot:∀d,(∀i∈done,i∉L->(bg l i).dst≠some d)->y.s d=x.s d
 lag:∀i∈done,i∉L->QYd P (bg l i) x
 go:RE P l K (dC l Yu done rest) x
def gY{l:List az}{Yu:List (List Nat)}{e:Nat}(h:cY l Yu e=false)(he:e<l.length)(YF:e∉ep Yu e):aX (bg l e).op=0/\∀d,(bg l e).dst=some d->d∉(bg l e).mF:=by
 simp only[cY,Bool.or_eq_false_iff,bne_eq_false_iff_eq]at h;refine⟨h.1,λd hd hu=>?_⟩;have h2:=h.2;rw[hd]at h2;simp only[List.any_eq_false,List.mem_range,Ba,Bool.not_eq_true',not_and,Bool.not_eq_false]at h2;have:=h2 e he (List.contains_iff_mem.2 hu);exact YF (List.contains_iff_mem.1 this)
def GF{l:List az}{K:St->Prop}{e:Nat}{its:List Nat}{x:St}(he:e<l.length):RE P l K (2*e::its) x↔TC P (bg l e) x (RE P l K its):=by
 have h1:2*e/2=e:=by omega
 have h2:2*e%2=0:=by omega
 rw[RE,h1,Zq6 he];simp only[ar h2,bg,Zq6 he,Option.getD_some]
def Pp{l:List az}{K:St->Prop}{e:Nat}{its:List Nat}{x:St}(he:e<l.length):RE P l K ((2*e+1)::its) x↔QYd P (bg l e) x/\RE P l K its x:=by
 have h1:(2*e+1)/2=e:=by omega
 have h2:¬(2*e+1)%2=0:=by omega
 rw[RE,h1,Zq6 he];simp only[av h2,bg,Zq6 he,Option.getD_some]
def uZ{l:List az}{K:St->Prop}{its:List Nat}{x:St}(p:Nat->Bool):∀{done:List Nat},(∀i∈done,i<l.length)->RE P l K ((done.filterMap λk=>if p k then some (2*k+1)else none)++its) x->
 (∀k∈done,p k=true->QYd P (bg l k) x)/\RE P l K its x
 |[],_,h=>⟨by simp,h⟩
 |a::r,hl,h=>by
  rw[List.filterMap_cons]at h;cases hp:p a with
  |false=>
   simp only[hp,eT,if_false]at h;obtain⟨h1,h2⟩:=uZ p (λi hi=>hl i (by simp[hi])) h;refine⟨λk hk hpk=>?_,h2⟩;rcases cm.1 hk with rfl|hk
   .rw[hp]at hpk;cases hpk
   .exact h1 k hk hpk
  |true=>
   simp only[hp,if_true,List.cons_append]at h;rw[Pp (hl a (by simp))]at h;obtain⟨h1,h2⟩:=uZ p (λi hi=>hl i (by simp[hi])) h.2;refine⟨λk hk hpk=>?_,h2⟩;rcases cm.1 hk with rfl|hk
   .exact h.1
   .exact h1 k hk hpk
section
variable {l:List az} {Yo Yu:List (List Nat)} {ord:List Nat} {K:St->Prop} (hE:EOkW l Yo Yu ord)
include hE
def EOkW.mem(i:Nat)(hi:i<l.length):i∈ord:=(wL l.length ord hE.nodup hE.lt).2 hE.len i hi
def EOkW.oH{a:List Nat}{j:Nat}{b:List Nat}(he:ord=a++j::b):∀i∈ep Yu j,i∈a:=by
 have hc:∀m∈a,∀d∈Yo.getD m [],d∈a:=λm hm d hd=>by
  obtain⟨a1,a2,rfl⟩:=List.append_of_mem hm;have:=hE.ahead a1 m (a2++j::b) (by rw[he];simp) d hd;simp[this]
 exact hE.closed hc hE.mem (a.length+1) a j b (by omega) he (λd hd=>hE.ahead a j b he d hd)
def EOkW.oZ{j:Nat}(hj:j<l.length):j∉ep Yu j:=λh=>by
 obtain⟨a,b,he⟩:=List.append_of_mem (hE.mem j hj);have h1:=hE.oH he j h;have:=hE.nodup;rw[he]at this;have:=(List.nodup_append.1 this).2.2 j h1 j (by simp);exact this rfl
def u6{i:Nat}{x:St}{e:Nat}{v:V}{Z':af}(hi:i<l.length)(he:e<l.length)(YF:i≠e)(hu:∀d,(bg l e).dst=some d->d∉(bg l i).mF)
 (hq:∀v,QY P (bg l i) x.s x.U v->QY P (bg l i) x.s Z' v)(h:QYd P (bg l i) x):QYd P (bg l i) ⟨aN x.s (bg l e).dst v,Z'⟩:=by
 unfold QYd at*;have hq':∀v',QY P (bg l i) x.s x.U v'->QY P (bg l i) (aN x.s (bg l e).dst v) Z' v':=λv' hv=>(fF hu).2 (hq v' hv);cases hd:(bg l i).dst with
 |none=>rw[hd]at h;obtain⟨v',h⟩:=h;exact⟨v',hq' v' h⟩
 |some d=>
  rw[hd]at h;simp only at h|-;have:aN x.s (bg l e).dst v d=x.s d:=by
   have:=hE.dsts i e hi he YF d hd;cases hde:(bg l e).dst with
   |none=>rfl
   |some d'=>
    rw[hde]at this;simp only[aN];rw[av (λe'=>this (by rw[e']))]
  rw[this];exact hq' _ h
def kI.adv{L:List Nat}{y:St}:∀{rest done:List Nat} {x:St},kI P l Yo Yu ord K L y done rest x->
 ∃done' rest' x',kI P l Yo Yu ord K L y done' rest' x'/\∀h r,rest'=h::r->cY l Yu h=true
 |[],done,x,h=>⟨done,[],x,h,by simp⟩
 |e::rest,done,x,h=>by
  cases heff:cY l Yu e with
  |true=>exact⟨done,e::rest,x,h,λa r he=>by cases he;exact heff⟩
  |false=>
   have hel:e<l.length:=hE.lt e (by rw[h.split];simp);obtain⟨hk,hself⟩:=gY heff hel (hE.oZ hel);have hnd:=hE.nodup;rw[h.split]at hnd;have hed:e∉done:=λhm=>(List.nodup_append.1 hnd).2.2 e hm e (by simp) rfl;have heL:e∉L:=λhm=>hed (h.sub e hm);have hgo:=h.go;rw[dC,GF hel,GX,av (by simp[heff]),kW]at hgo;have hT:T P (bg l e) x (RE P l K (dC l Yu (done++[e]) rest)):=by
    rcases hgo with hgo|⟨_,hgo⟩
    .exact hgo
    .exfalso;revert hgo hk;generalize (bg l e).op=op;intro hk hgo;split at hgo
     .simp[aX]at hk
     .exact hgo
   obtain⟨v,hv,hgo'⟩:=(bY (by simp[fq,hk])).1 hT;refine kI.adv (rest:=rest) (done:=done++[e]) (x:=⟨aN x.s (bg l e).dst v,x.U⟩) ⟨by rw[h.split];simp,λi hi=>by simp[h.sub i hi],h.nodup,h.closed,λi hi hie=>?_,h.store,λd hd=>?_,λi hi hiL=>?_,hgo'⟩
   .rcases db.1 hi with hi|hi
    .exact h.effs i hi hie
    .simp only[eu]at hi;rw[hi,heff]at hie;cases hie
   .have h1:=h.slot d λi hi hiL=>hd i (by simp[hi]) hiL;have h2:=hd e (by simp) heL;rw[h1];simp only;cases hde:(bg l e).dst with
    |none=>rfl
    |some d'=>
     rw[hde]at h2;simp only[aN];rw[av (λe'=>h2 (by rw[e']))]
   .by_cases hie:i=e
    .subst hie;unfold QYd;cases hd:(bg l i).dst with
     |none=>exact⟨v,hv⟩
     |some d=>
      simp only;have e1:aN x.s (some d) v d=v:=by simp[aN]
      rw[e1];exact(fF (λt ht=>by cases ht;exact hself d hd)).2 hv
    .have O':i∈done:=by
      rcases db.1 hi with hi|hi
      .exact hi
      .simp only[eu]at hi;exact absurd hi hie
     have hil:i<l.length:=hE.lt i (by rw[h.split];simp[O']);refine u6 hE hil hel hie (λd hd hu=>?_) (λv hv=>hv) (h.lag i O' hiL);rcases hE.anti i e hil hel hie d hd hu with h1|⟨h1,_⟩
     .obtain⟨a,b,hab⟩:=List.append_of_mem O';have h2:=hE.oH (a:=a) (j:=i) (b:=b++e::rest) (by rw[h.split,hab];simp) e h1;exact hed (by rw[hab];simp[h2])
     .rw[heff]at h1;cases h1
end
section
variable {l:List az} {Yo Yu:List (List Nat)} {ord:List Nat} {K:St->Prop} (hE:EOk l Yo Yu ord)
include hE
def qW:∀(f:Nat) (L:List Nat) (y:St) (done rest:List Nat) (x:St),f+L.length=l.length->kI P l Yo Yu ord K L y done rest x->iQ P l Yo K f L y:=by
 intro f
 induction f with
 |zero=>
  intro L y done rest x hf h;have Ze:∀i,i<l.length->i∈L:=(wL l.length L h.nodup λi hi=>hE.lt i (by rw[h.split];simp[h.sub i hi])).2 (by omega);have hnd:=hE.nodup;rw[h.split]at hnd;have hrest:rest=[]:=by
   cases rest with
   |nil=>rfl
   |cons e r=>
    exfalso;have hel:e<l.length:=hE.lt e (by rw[h.split];simp);exact(List.nodup_append.1 hnd).2.2 e (h.sub e (Ze e hel)) e (by simp) rfl
  subst hrest;have hyx:y=x:=by
   obtain⟨s,U⟩:=y;obtain⟨s',Z'⟩:=x;have h1:U=Z':=h.store;have h2:s=s':=funext λd=>h.slot d λi hi hiL=>absurd (Ze i (hE.lt i (by rw[h.split];simp[hi]))) hiL;rw[h1,h2]
  refine⟨?_,by rw[hyx];exact h.go⟩;unfold dB;rw[List.filter_eq_nil_iff];intro i hi;simp only[List.mem_range,hE.dlen]at hi;simp[Ze i hi]
 |succ f ih=>
  intro L y done rest x hf h;obtain⟨done,rest,x,h,hhead⟩:=kI.adv hE.toEOkW h;have hnd:=hE.nodup;rw[h.split]at hnd;have hmemL:∀i∈L,i<l.length:=λi hi=>hE.lt i (by rw[h.split];simp[h.sub i hi]);have key:vF P l (iQ P l Yo K f) L y (dB Yo L):=by
   refine rX λi hi=>?_;obtain⟨hil,hiL,hdep⟩:=vK hi;rw[hE.dlen]at hil;refine⟨bg l i,by simp[bg,Zq6 hil],?_⟩;obtain⟨pa,pb,hpe⟩:=List.append_of_mem (hE.mem i hil);have hbefL:∀j∈ep Yu i,j∈L:=hE.closed h.closed hE.mem (pa.length+1) pa i pb (by omega) hpe hdep;have huses:∀u∈(bg l i).mF,x.s u=y.s u:=λu hu=>(h.slot u λj hj hjL hd=>by
    have hjl:j<l.length:=hE.lt j (by rw[h.split];simp[hj]);by_cases hji:j=i
    .subst hji;cases hje:cY l Yu j with
     |true=>exact hjL (h.effs j hj hje)
     |false=>exact(gY hje hjl (hE.oZ hjl)).2 u hd hu
    .rcases hE.anti i j hil hjl (λe=>hji e.symm) u hd hu with h1|⟨h1,_⟩
     .exact hjL (hbefL j h1)
     .exact hjL (h.effs j hj h1)).symm
   by_cases O':i∈done
   .have hie:cY l Yu i=false:=by
     cases hie:cY l Yu i with
     |false=>rfl
     |true=>exact absurd (h.effs i O' hie) hiL
    obtain⟨hk,_⟩:=gY hie hil (hE.oZ hil);have hq:=h.lag i O' hiL;obtain⟨v,hv,hvd⟩:∃v,QY P (bg l i) x.s x.U v/\∀d,(bg l i).dst=some d->x.s d=v:=by
     unfold QYd at hq;cases hd:(bg l i).dst with
     |none=>rw[hd]at hq;obtain⟨v,hq⟩:=hq;exact⟨v,hq,by simp⟩
     |some d=>rw[hd]at hq;exact⟨_,hq,λd' e=>by cases e;rfl⟩
    refine .inl ((bY (by simp[fq,hk])).2 ⟨v,?_,?_⟩)
    .rw[h.store];exact DJ huses hv
    .refine ih (i::L) _ done rest x (by simp only[ZR];omega) ⟨h.split,λj hj=>?_,List.nodup_cons.2 ⟨hiL,h.nodup⟩,λm hm d hd=>?_,λj hj hje=>by simp[h.effs j hj hje],h.store,λd hd=>?_,λj hj hjL=>h.lag j hj (λhm=>hjL (by simp[hm])),h.go⟩
     .rcases cm.1 hj with rfl|hj
      .exact O'
      .exact h.sub j hj
     .rcases cm.1 hm with rfl|hm
      .simp[hdep d hd]
      .simp[h.closed m hm d hd]
     .simp only;by_cases hdi:(bg l i).dst=some d
      .rw[hdi];simp only[aN];rw[ar trivial];exact(hvd d hdi).symm
      .have h1:=h.slot d λj hj hjL=>by
        by_cases hji:j=i
        .rw[hji];exact hdi
        .exact hd j hj (by simp[hji,hjL])
       rw[<-h1];cases hde:(bg l i).dst with
       |none=>rfl
       |some d'=>
        rw[hde]at hdi;simp only[aN];rw[av (λe'=>hdi (by rw[e']))]
   .have hir:i∈rest:=by
     have:=hE.mem i hil;rw[h.split]at this;exact(db.1 this).resolve_left O'
    obtain⟨hd0,rr,rfl⟩:∃a r,rest=a::r:=by
     cases rest with
     |nil=>cases hir
     |cons a r=>exact⟨a,r,rfl⟩
    have heff:=hhead hd0 rr rfl;have hh0:hd0∉done:=λhm=>(List.nodup_append.1 hnd).2.2 hd0 hm hd0 (by simp) rfl;have hih:i=hd0:=by
     rcases cm.1 hir with e|hir
     .exact e
     .exfalso;have:=hE.effs (done++[hd0]) rr hd0 i (by rw[h.split];simp) (by simp) hir heff;exact hh0 (h.sub _ (hbefL _ this))
    subst hih;have hgo:=h.go;rw[dC,GF hil]at hgo;refine Di huses h.store.symm (λr Z' hK=>?_) hgo;rw[GX,ar heff]at hK;obtain⟨hck,hgo'⟩:=uZ (λk=>!(cY l Yu k)&&(!(lD (bg l k).op)&&!((ep Yu i).contains k))) (λj hj=>hE.lt j (by rw[h.split];simp[hj])) hK;refine ih (i::L) _ (done++[i]) rr ⟨aN x.s (bg l i).dst r,Z'⟩ (by simp only[ZR];omega) ⟨by rw[h.split];simp,λj hj=>?_,List.nodup_cons.2 ⟨hiL,h.nodup⟩,λm hm d hd=>?_,λj hj hje=>?_,rfl,λd hd=>?_,λj hj hjL=>?_,hgo'⟩
    .rcases cm.1 hj with rfl|hj
     .simp
     .simp[h.sub j hj]
    .rcases cm.1 hm with rfl|hm
     .simp[hdep d hd]
     .simp[h.closed m hm d hd]
    .rcases db.1 hj with hj|hj
     .simp[h.effs j hj hje]
     .simp only[eu]at hj;simp[hj]
    .have h1:(bg l i).dst=some d\/y.s d=x.s d:=by
      by_cases hdi:(bg l i).dst=some d
      .exact .inl hdi
      .exact .inr (h.slot d λj hj hjL=>hd j (by simp[hj]) (by
        simp only[cm,not_or];exact⟨λe=>O' (e▸hj),hjL⟩))
     simp only;cases hde:(bg l i).dst with
     |none=>rw[hde]at h1;exact h1.resolve_left (by simp)
     |some d'=>
      simp only[aN];split
      .rfl
      .rename_i YF;rw[hde]at h1;exact h1.resolve_left (λe=>YF (by cases e;rfl))
    .have hjd:j∈done:=by
      rcases db.1 hj with hj|hj
      .exact hj
      .simp only[eu]at hj;exact absurd (by simp[hj]) hjL
     have hjL':j∉L:=λhm=>hjL (by simp[hm]);have hjl:j<l.length:=hE.lt j (by rw[h.split];simp[hjd]);have hji:j≠i:=λe=>O' (e▸hjd);have hje:cY l Yu j=false:=by
      cases hje:cY l Yu j with
      |false=>rfl
      |true=>exact absurd (h.effs j hjd hje) hjL'
     cases hsf:lD (bg l j).op with
     |true=>
      refine u6 hE.toEOkW hjl hil hji (λd hd hu=>?_) (λv hv=>ku hsf hv) (h.lag j hjd hjL');rcases hE.anti j i hjl hil hji d hd hu with h1|⟨_,h1⟩
      .obtain⟨a,b,hab⟩:=List.append_of_mem hjd;have h2:=hE.oH (a:=a) (j:=j) (b:=b++i::rr) (by rw[h.split,hab];simp) i h1;exact O' (by rw[hab];simp[h2])
      .exact hjL' (hbefL j h1)
     |false=>
      refine hck j hjd ?_;simp only[hje,hsf,Bool.not_false,Bool.true_and,Bool.not_eq_true'];cases hc:(ep Yu i).contains j with
      |false=>rfl
      |true=>exact absurd (hbefL j (List.contains_iff_mem.1 hc)) hjL'
  cases hr:dB Yo L with
  |cons a r=>unfold iQ;rw[hr]at key|-;exact key
  |nil=>
   exfalso;have:∃i,i∈ord/\i∉L:=by
    by_cases hx:∃i,i∈ord/\i∉L
    .exact hx
    .exfalso;have G':∀i∈ord,i∈L:=λi hi=>Classical.byContradiction λhn=>hx ⟨i,hi,hn⟩;have h1:=hE.nodup.length_le_of_subset G';have:=hE.len;omega
   obtain⟨i,hi,hiL⟩:=this;have first:∀(a b:List Nat),ord=a++b->(∀j∈a,j∈L)->(∃i∈b,i∉L)->∃a' e b',ord=a'++e::b'/\(∀j∈a',j∈L)/\e∉L:=by
    intro a b
    induction b generalizing a with
    |nil=>rintro _ _ ⟨i,h,_⟩;cases h
    |cons e b ihb=>
     intro he ha hx;by_cases heL:e∈L
     .refine ihb (a++[e]) (by rw[he];simp) (λj hj=>?_) ?_
      .rcases db.1 hj with hj|hj
       .exact ha j hj
       .simp only[eu]at hj;rw[hj];exact heL
      .obtain⟨i,hi,hiL⟩:=hx;rcases cm.1 hi with rfl|hi
       .exact absurd heL hiL
       .exact⟨i,hi,hiL⟩
     .exact⟨a,e,b,he,ha,heL⟩
   obtain⟨a,e,b,he,ha,heL⟩:=first [] ord rfl (by simp) ⟨i,hi,hiL⟩
   have hel:e<l.length:=hE.lt e (by rw[he];simp);have:e∈dB Yo L:=by
    unfold dB;refine sx.2 ⟨by simp[hE.dlen,hel],?_⟩;simp only[Ba,Bool.not_eq_true',ed];refine⟨by simpa using heL,λd hd=>?_⟩;simpa using ha d (hE.ahead a e b he d hd)
   rw[hr]at this;cases this
end
def ab.uO(hm:P.follows .mixedOrders=true){l:List az}{Yo:List (List Nat)}(ord:List Nat)(Yu:List (List Nat))(its:List Nat)(hB:eOk l Yo Yu ord=true)(hi:dC l Yu [] ord=its)
 (h:RE P l (λx=>ab P n k x Q) its st):ab P n (.code (.regA l Yo)::k) st Q:=by
 have hE:=BR hB;refine ab.Ox hm (qW hE l.length [] st [] ord st (by simp) ⟨rfl,by simp,List.nodup_nil,by simp,by simp,rfl,λ_ _=>rfl,by simp,by rw[hi];exact h⟩)
def RE.ZF{l:List az}{K:St->Prop}(rest:List Nat):∀(idx:List Nat) (sg:List az) {x:St},(idx.map λm=>l[m/2]?)=sg.map some->(idx.all λm=>m%2==0)=true->
 Go P n (.d sg [.stop (RE P l K rest)]) x (λ_=>False)->RE P l K (idx++rest) x
 |[],[],_,_,_,h=>h
 |[],_::_,_,h,_,_=>by simp at h
 |_::_,[],_,h,_,_=>by simp at h
 |m::idx,i::sg,x,h,hev,hg=>by
  simp only[dP,List.cons.injEq]at h;simp only[ja,Ba,beq_iff_eq]at hev;show RE P l K (m::(idx++rest)) x;rw[RE,h.1];simp only[ar hev.1];exact .inl (T.mono (λx' YM=>RE.ZF rest idx sg h.2 (by simpa using hev.2) YM) hg)
def RE.call{l:List az}{K:St->Prop}{m:Nat}{rest:List Nat}{x:St}{i:az}(hi:l[m/2]?=some i)(hm:m%2=0){fx:VX}{xs:List VX}(hw:aP x.s i.g=some true)(ho:i.op=.call fx xs){f:FuncId}{caps:List V}(hf:fx.ev x.s=.fn f caps)
 {Post:V->af->Prop}(hc:au P f (xs.map (·.ev x.s)++caps) x.U Post)(h:∀r Z',Post r Z'->RE P l K rest ⟨aN x.s i.dst r,Z'⟩):RE P l K (m::rest) x:=by
 rw[RE,hi];simp only[ar hm];exact .inr ⟨hw,by rw[ho];exact⟨f,caps,Post,hf,hc,h⟩⟩
def RE.ay{l:List az}{K:St->Prop}{m:Nat}{rest:List Nat}{x:St}{i:az}(hi:l[m/2]?=some i)(hm:m%2=0){fx:VX}{xs:List VX}(hw:aP x.s i.g=some true)(ho:i.op=.call fx xs){f:FuncId}{caps:List V}(hf:fx.ev x.s=.fn f caps)
 {v:V}(hc:au P f (xs.map (·.ev x.s)++caps) x.U λr Z'=>r=v/\Z'=x.U)(h:RE P l K rest ⟨aN x.s i.dst v,x.U⟩):RE P l K (m::rest) x:=
 RE.call hi hm hw ho hf hc λr Z' ⟨h1,h2⟩=>by subst h1;subst h2;exact h
def RE.chk{l:List az}{K:St->Prop}{m:Nat}{rest:List Nat}{x:St}{i:az}(hi:l[m/2]?=some i)(hm:m%2=1){d:Nat}(hd:i.dst=some d)(hw:aP x.s i.g=some true)(hk:aX i.op=0)(hp:eN x.s i.op)
 (hv:aE x.U x.s i.op=some (x.s d))(h:RE P l K rest x):RE P l K (m::rest) x:=by
 rw[RE,hi];simp only[hm,Nat.one_ne_zero,if_false];refine⟨?_,h⟩;unfold QYd;rw[hd];refine .inl ⟨hw,?_⟩;unfold QO;simp only[hk];exact⟨hp,hv⟩
variable {P:Program} {n:Nat} {st:St} {Q:St->Prop} {k:List It}
def ab.X5{k1 k2:List It}(J:St->Prop)(h1:ab P n (k1++[.stop J]) st Q)(h2:∀st,J st->ab P n k2 st Q):ab P n (k1++k2) st Q:=by
 intro F hn kt hk a w hs;obtain⟨kt1,kt2,rfl,hk1,hk2⟩:=List.map_eq_append_iff.1 hk;have key:∀(kt:List KI) e a w,kO P F Q (kt++[.stop J]) e a w->kO P F Q (kt++kt2) e a w:=by
  intro kt
  induction kt with
  |nil=>
   intro e a w h;simp only[kW]at h|-;cases e with
   |normal=>obtain⟨st,h3,h4⟩:=h;exact h2 st h3 F hn kt2 hk2 a w h4
   |ret=>obtain⟨_,h3⟩:=h;exact l9 h3 kt2
   |_=>obtain⟨h3,_⟩:=h;rcases h3 with h3|h3<;>cases h3
  |cons y kt ih=>
   intro e a w h;cases y with
   |code c=>cases e<;>first|exact wpIn_mono h ih|exact ih _ _ _ h
   |inBlock id=>
    cases e<;>simp only[List.cons_append,kO,Exit.inBlock]at h|-<;>(try split at h)<;>(try split)<;>first|exact ih _ _ _ h|contradiction
   |stop μ=>cases e<;>first|exact h|exact ih _ _ _ h
   |ops all l=>cases e<;>first|exact lB ih l a w h|exact ih _ _ _ h
 exact key kt1 _ a w (h1 F hn (kt1++[.stop J]) (by simp[KI.it,hk1]) a w hs)
def ab.eY{x:bc}{id:Nat}(J:St->Prop)(μ:Nat->St->Prop)(m:Nat)(h0:μ m st)
 (hr:∀m st,μ m st->ab P n (.code x::.stop (λZd=>∃m',m'<m/\μ m' Zd)::[.inBlock id,.stop J]) st Q)(h2:∀st,J st->ab P n k st Q):
 ab P n (.code (.loop x)::.inBlock id::k) st Q:=
 ab.X5 (P:=P) (n:=n) (Q:=Q) (st:=st) (k1:=[.code (.loop x),.inBlock id]) (k2:=k) J (ab.loop μ m h0 hr) h2
open Go.Proofs Go.Proofs.Tryz
def MG{f:U'}{s:ZC}(hf:f.ok)(h:Bq2 s.a/\Bq2 s.b):Bq2 (la f s).a/\Bq2 (la f s).b:=by
 obtain⟨⟨x1,x2⟩,_,⟨w1,w2⟩,_⟩:=hf;obtain⟨⟨a1,a2⟩,b1,b2⟩:=h;unfold la;split
 .exact⟨⟨by simp only;omega,by simp only;omega⟩,b1,b2⟩
 .exact⟨⟨a1,a2⟩,by simp only;omega,by simp only;omega⟩
def Db:∀{l:List U'} {s:ZC},(∀f∈l,f.ok)->Bq2 s.a/\Bq2 s.b->Bq2 (l.foldl (λs f=>la f s) s).a/\Bq2 (l.foldl (λs f=>la f s) s).b
 |[],_,_,h=>h
 |f::l,s,hl,h=>Db (l:=l) (λg hg=>hl g (by simp[hg])) (MG (hl f (by simp)) h)
def nV{l:List U'}{y high:Int}{s:ZC}(hl:∀f∈l,f.ok)(h:Bq2 s.a/\Bq2 s.b):Bq2 (dJ l y high s).a/\Bq2 (dJ l y high s).b:=
 Db (λf hf=>hl f (sx.1 hf).1) h
def xq{s:ZC}:∀{l:List U'},(∀f∈l,la f s=s)->l.foldl (λs f=>la f s) s=s
 |[],_=>rfl
 |f::l,h=>by rw[j4,h f (by simp)];exact xq λg hg=>h g (by simp[hg])
def qg(s:ZC):∀(l:List U') (a:Int×Bool),(l.foldl (kD s) a=a\/∃f∈l,l.foldl (kD s) a=(f.y+f.h,true))/\(a.2=true->(l.foldl (kD s) a).2=true)/\((∃f∈l,la f s≠s)->(l.foldl (kD s) a).2=true)
 |[],a=>⟨.inl rfl,id,by simp⟩
 |f::l,a=>by
  obtain⟨h1,h2,h3⟩:=qg s l (kD s a f);have hf:kD s a f=a\/kD s a f=(f.y+f.h,true):=by unfold kD;split<;>simp
  refine⟨?_,λha=>h2 ?_,?_⟩
  .rw[j4];rcases h1 with h1|⟨g,hg,h1⟩
   .rw[h1];rcases hf with hf|hf
    .exact .inl hf
    .exact .inr ⟨f,by simp,hf⟩
   .exact .inr ⟨g,by simp[hg],h1⟩
  .rcases hf with hf|hf<;>rw[hf]
   exact ha
  .rintro⟨g,hg,YF⟩;rcases cm.1 hg with rfl|hg
   .refine h2 ?_;unfold kD;split
    .rename_i h;exact(h.resolve_left YF).1
    .rfl
   .exact h3 ⟨g,hg,YF⟩
def Hd{y high:Int}{f:U'}(h:jd y high f=true):y<f.y+f.h:=by
 refine Classical.byContradiction λhn=>?_;have:ql ⟨f.y,f.y+f.h⟩ ⟨y,y+max high 1⟩=⟨0,0⟩:=by
  unfold ql;rw[ar];simp only;omega
 simp[jd,this]at h
def jb{l:List U'}{y high:Int}{s:ZC}(h:(gz l y high s).2=true):∃f∈l,y<f.y+f.h/\(gz l y high s).1=f.y+f.h:=by
 rcases(qg s (l.filter (jd y high)) (0,false)).1 with h1|⟨f,hf,h1⟩
 .unfold gz at h;rw[h1]at h;cases h
 .obtain⟨hl,hm⟩:=sx.1 hf;exact⟨f,hl,Hd hm,by unfold gz;rw[h1]⟩
def qq{l:List U'}{y high:Int}{s:ZC}(h:dJ l y high s≠s):(gz l y high s).2=true:=by
 refine(qg s (l.filter (jd y high)) (0,false)).2.2 (Classical.byContradiction λhn=>h (xq λf hf=>Classical.byContradiction λhe=>hn ⟨f,hf,he⟩))
def gtJ(l:List U')(y:Int):Nat:=(l.filter λf=>decide (y<f.y+f.h)).length
def filter_lt{α:Type}{p q:α->Bool}(hpq:∀x,q x=true->p x=true):∀{l:List α},(l.filter q).length<=(l.filter p).length/\((∃x∈l,p x=true/\q x=false)->(l.filter q).length<(l.filter p).length)
 |[]=>by simp
 |a::l=>by
  obtain⟨h1,h2⟩:=filter_lt hpq (l:=l);cases hp:p a<;>cases hq:q a
  .simp only[List.filter_cons,hp,hq,eT,if_false];refine⟨h1,?_⟩;rintro⟨x,hx,h3,h4⟩;rcases cm.1 hx with rfl|hx
   .rw[hp]at h3;cases h3
   .exact h2 ⟨x,hx,h3,h4⟩
  .rw[hpq a hq]at hp;cases hp
  .simp only[List.filter_cons,hp,hq,eT,if_false,if_true,ZR];exact⟨by omega,λ_=>by omega⟩
  .simp only[List.filter_cons,hp,hq,if_true,ZR];refine⟨by omega,?_⟩;rintro⟨x,hx,h3,h4⟩;rcases cm.1 hx with rfl|hx
   .rw[hq]at h4;cases h4
   .have:=h2 ⟨x,hx,h3,h4⟩;omega
def Aq{l:List U'}{y z:Int}(h:∃f∈l,y<f.y+f.h/\z=f.y+f.h):gtJ l z<gtJ l y:=by
 obtain⟨f,hf,h1,rfl⟩:=h;exact(filter_lt (p:=λg:U'=>decide (y<g.y+g.h)) (q:=λg:U'=>decide (f.y+f.h<g.y+g.h)) (λg hg=>by simp at hg|-;omega) (l:=l)).2 ⟨f,hf,by simpa using h1,by simp⟩
def zl(l:List U')(w high:Int)(s:ZC)(y:Int):Bool:=decide (w<=k0 (dJ l y high s))||decide (dJ l y high s=s)
def rH(l:List U')(w high:Int)(s:ZC):Nat->Int->Int
 |0,y=>y
 |k+1,y=>if zl l w high s y then y else rH l w high s k (gz l y high s).1
def l6(l:List U')(w high:Int)(s:ZC)(y:Int):Int:=rH l w high s l.length y
def KA{l:List U'}{y high:Int}{s:ZC}(hl:∀f∈l,f.ok)(h:(gz l y high s).2=true):Bq2 (gz l y high s).1:=by
 obtain⟨f,hf,_,e⟩:=jb h;obtain⟨_,⟨a1,a2⟩,_,b1,b2⟩:=hl f hf;rw[e];exact⟨by omega,by omega⟩
def ur(l:List U')(high y:Int)(s:ZC):V:=.agg [vI s.a,vI s.b,aH l,vI high,vI y]
def Fw(l:List U')(high y:Int)(s:ZC)(hl:l.length<=1000000)(M':∀f∈l,f.ok)(hy:Bq2 y)(hh:Bq high):aJ prog 269 [ur l high y s] (bf (dJ l y high s)):=λU=>by
 refine XN.r (by simp[PM]) ?_;have hs:=aa.refl U;refine ab.mix 3 ?_;have e1:(aH l).cells=[aH l]:=rfl;have e2:(aH l).stays=true:=rfl;apply sR;simp only[go_sem,seval,PM,ur];refine ad λi1 Z1 s1 a1 f1=>?_;replace hs:=hs.trans s1;simp only[go_sem,seval];refine ad λi2 Z2 s2 a2 f2=>?_;replace a1:=s2 _ _ a1;have z2:=hs.none f2;replace hs:=hs.trans s2;simp only[go_sem,seval,a1];refine ab.ay rfl rfl rfl (GA l y high s hl M' hy hh _) ?_;apply sR;simp only[go_sem,seval,a2,bf];exact ak.pure (hs.ax z2) rfl
def LW(l:List U')(w high y:Int)(s:ZC)(hl:l.length<=1000000)(M':∀f∈l,f.ok)(hy:Bq2 y)(hh:Bq high)(ZV:Bq2 s.a/\Bq2 s.b):aJ prog 267 [ur l high y s,vI w] (.bool (zl l w high s y)):=λU=>by
 refine Vp.r (by simp[Qo]) ?_;have hs:=aa.refl U;refine ab.mix 5 ?_;have hb:=Fw l high y s hl M' hy hh;have hlen:=IG (dJ l y high s) (nV M' ZV).1 (nV M' ZV).2;unfold zl;generalize dJ l y high s=b at*;have e1:(aH l).cells=[aH l]:=rfl;have e2:(aH l).stays=true:=rfl;apply sR;simp only[go_sem,seval,Qo,ur];refine ad λi2 Z2 s2 a2 f2=>?_;replace hs:=hs.trans s2;simp only[go_sem,seval,a2];refine Go.bW rfl rfl rfl hb ?_;apply sG;simp only[go_sem,seval];refine Go.bW rfl rfl rfl hlen ?_;by_cases h1:w<=k0 b
 .have q:(w<=k0 b)=True:=Yi h1;apply sG;simp only[go_sem,seval,q];exact ak.pure hs (by simp)
 .have q:(w<=k0 b)=False:=T' h1;apply sG;simp only[go_sem,seval,q,a2];refine Go.bW rfl rfl rfl hb ?_;obtain⟨b1,b2⟩:=b;obtain⟨s1,s2⟩:=s;apply sG;simp only[go_sem,seval,a2,bf];refine ak.pure hs ?_;by_cases h2:b1=s1<;>by_cases h3:b2=s2<;>simp[h2,h3]
def LG(l:List U')(w high y:Int)(s:ZC)(hl:l.length<=1000000)(M':∀f∈l,f.ok)(hy:Bq2 y)(hh:Bq high)(ZV:Bq2 s.a/\Bq2 s.b):
 aJ prog 222 [aH l,vI w,vI high,vI y,bf s] (.P' [bf (dJ l (l6 l w high s y) high s),vI (l6 l w high s y)]):=λU=>by
 refine VA.r (by simp[Q4]) ?_;have hs:=aa.refl U;refine ab.mix 13 ?_;have e1:(aH l).cells=[aH l]:=rfl;have e2:(aH l).stays=true:=rfl;apply sR;simp only[go_sem,seval,Q4,bf];refine ad λi9 Z9 s9 a9 f9=>?_;replace hs:=hs.trans s9;simp only[go_sem,seval];refine ad λYU Z10 s10 Zf f10=>?_;replace a9:=s10 _ _ a9;have z10:=hs.none f10;replace hs:=hs.trans s10;simp only[go_sem,seval,a9,e1,e2];refine ad λi12 Z12 s12 a12 f12=>?_;have n912:=ao a9 f12;replace a9:=s12 _ _ a9;have n1012:=ao Zf f12;replace Zf:=s12 _ _ Zf;have z12:=hs.none f12;replace hs:=hs.trans s12;simp only[go_sem,seval,a12];generalize hq12:C' _ i12 _=Y12;replace a12:=(congrFun hq12 i12).symm.trans ag;replace a9:=((congrFun hq12 i9).symm.trans (ae n912)).trans a9;replace Zf:=((congrFun hq12 YU).symm.trans (ae n1012)).trans Zf;replace hs:=Eq.subst (motive:=aa _) hq12 (hs.ax z12);clear hq12;obtain⟨z,hz⟩:∃z,z=l6 l w high s y:=⟨_,rfl⟩
 rw[<-hz];refine ab.eY (λst=>∃C,st.U=C/\aa U C/\C i12=some ⟨344,5,[ur l high z s]⟩/\C YU=some ⟨288,2,[.agg [vI 0,vI 0]]⟩/\st.s 10=.ptr YU 0 0/\st.s 12=.ptr i12 0 0/\Bq2 z)
  (λm st=>∃(y':Int) (k:Nat),m=gtJ l y'/\gtJ l y'<=k/\z=rH l w high s k y'/\Bq2 y'/\aa U st.U/\st.U i12=some ⟨344,5,[ur l high y' s]⟩/\st.U YU=some ⟨288,2,[.agg [vI 0,vI 0]]⟩/\st.s 1=vI w/\st.s 10=.ptr YU 0 0/\st.s 12=.ptr i12 0 0) (gtJ l y) ?_ ?_ ?_
 .exact⟨y,l.length,rfl,List.length_filter_le _ _,hz,hy,hs,a12,Zf,rfl,rfl,rfl⟩
 .rintro m ⟨S,C⟩ ⟨y',k,rfl,hk,hzk,hy',hs,b12,b10,k1,k10,k12⟩;simp only at hs b12 b10 k1 k10 k12;refine ab.mix 13 ?_;rw[ur]at b12;apply sR;simp only[go_sem,seval,k1,k12,b12];refine ab.ay rfl rfl rfl (LW l w high y' s hl M' hy' hh ZV _) ?_;cases hf:zl l w high s y'
  .have YF:dJ l y' high s≠s:=λe=>by simp[zl,e]at hf
   have hfd:=qq YF;have hdec:=Aq (jb hfd);apply sR;simp only[go_sem,seval,k12,b12];refine ab.ay rfl rfl rfl (Jw l y' high s hl M' hy' hh _) ?_;apply sR;simp only[go_sem,seval,k1,k10,k12,b12];obtain⟨k',rfl⟩:∃k',k=k'+1:=⟨k-1,by omega⟩
   rw[rH,hf]at hzk;refine⟨_,hdec,_,k',rfl,by omega,by simpa using hzk,KA M' hfd,hs.ax z12,rfl,?_⟩;rw[ae n1012];exact b10
  .have hzy:z=y':=by cases k<;>simp[rH,hf]at hzk<;>exact hzk
   subst hzy;apply sR;simp only[go_sem,seval,k10,k12];exact⟨C,rfl,hs,b12,b10,hy'⟩
 .rintro⟨S,C⟩ ⟨X',rfl,hs,b12,b10,k10,k12,hz2⟩;simp only at hs b12 b10 k10 k12;rw[ur]at b12;refine ab.mix 13 ?_;apply sR;simp only[go_sem,seval];refine ab.uO (by kernel_rfl) [0,2,3,1,4,5] [[],[0],[],[2],[0,1],[0,1,2,3,4]] [0,4,6,2,7,8,7,10] (by kernel_rfl) (by kernel_rfl) ?_;refine RE.ZF (n:=0) [2,7,8,7,10] [0,4,6] [⟨(.some 35),(.load .true 5 (.t 12)),.none⟩,⟨(.some 37),(.YJ .false 4 1 (.t 12)),.none⟩,⟨(.some 38),(.load .false 1 (.t 37)),.none⟩] rfl rfl ?_;apply sG;simp only[go_sem,seval,k12,b12];refine RE.ay rfl rfl rfl rfl rfl (Fw l high z s hl M' hz2 hh _) ?_;refine RE.chk rfl rfl rfl rfl rfl trivial (by simp only[go_sem,seval,b12]) ?_;refine RE.ZF (n:=0) [7,10] [8] [⟨.none,(.store 2 (.t 10) (.t 36)),.none⟩] rfl rfl ?_;apply sG;simp only[go_sem,seval,k10,b10,bf];refine RE.chk rfl rfl rfl rfl rfl trivial (by simp only[go_sem,seval,b12,ae n1012.symm]) ?_;refine RE.ZF (n:=0) [] [10] [⟨(.some 11),(.YO (.t 38)),.none⟩] rfl rfl ?_;apply sG;simp only[go_sem,seval];apply sR;simp only[go_sem,seval,k10,ag];exact ak.pure (hs.ax z10) rfl
open Go.Proofs Go.Proofs.Tryz
def oy(e sz b:Nat):Yh:=⟨8,.seq (.reg false [⟨some 2,.YO (.c .aC),none⟩]) (.seq (.seq (.reg false [⟨some 3,.YO (.t 0),none⟩,⟨some 4,.ZG false (.t 3) (.c (.iface 0 .undef)),none⟩]) (.cond (.t 4) (.seq (.reg false [⟨some 2,.YO (.c .aC),none⟩]) .ret) .skip)) (.seq (.reg false [⟨some 5,.eU e sz [],none⟩,⟨some 6,.YO (.t 0),none⟩,⟨some 7,.append e sz b (.t 5) (.t 6),none⟩,⟨some 2,.YO (.t 7),none⟩]) .ret)),[.tmp (.t 2)]⟩
def xi{P:Program}{f:FuncId}{fn:Func}(hf:P.funcs[f]?=some fn){e sz b:Nat}(hc:cfn P fn=some (oy e sz b))(hk:bV P f=true)(rows:List V)(hb:rows.length*(b+1)<=140737488355328)(U:af):
 au P f [.sl sz rows] U λr Z'=>aa U Z'/\aL U Z' e sz r rows:=by
 refine au.jU hf hc hk (by simp[oy]) ?_;refine ab.mix 3 ?_
 (refine ab.bn Orc.nothing 8 ?_;simp only[go_sem,seval,jK,oy])
 refine ab.G3 rfl rfl rfl λt ht=>?_;cases t
 .apply sR;simp only[go_sem,seval];refine ad λid1 Z1 s1 a1 f1=>?_;obtain⟨Yt,hd,ZI⟩:=(aL.new (K:=U) (e:=e) (sz:=sz) (n:=0) (rows:=[]) rfl a1 f1).dst (aa.refl _);have hsrc:∀U,bF U sz (.sl sz rows)=some rows:=λU=>by simp[bF]
  simp only[go_sem,seval,hd,hsrc,hb];refine eL λid2 Z2 s2 a2 f2=>?_;have hs2:=(ZI U (aa.refl _) Z1 s1).trans s2;simp only[go_sem,seval];exact⟨_,_,aa.refl _,Wk.refl (aa.refl _) _,hs2,aL.new (by simp) a2 (s1.none f2)⟩
 .apply sR;simp only[go_sem,seval];obtain rfl:rows=[]:=ht rfl;exact⟨_,_,aa.refl _,Wk.refl (aa.refl _) _,aa.refl _,aL.start⟩
def BD{P:Program}{f:FuncId}{fn:Func}(hf:P.funcs[f]?=some fn){e sz b:Nat}(hc:cfn P fn=some (oy e sz b))(hk:bV P f=true)(rows:List V)(hb:rows.length*(b+1)<=140737488355328):
 aJ P f [.sl sz rows] (.sl sz rows):=λU=>(xi hf hc hk rows hb U).AL λ_ _ h=>h.2.K8 h.1 rfl
def dF(l:List U'):(aH l).cells=[aH l]:=rfl
def dG(l:List U'):(aH l).stays=true:=rfl
def mP{tell:U'->Int×Bool}{l:List U'}(h:(dM tell l).2=true):∃f∈l,(dM tell l).1=(tell f).1/\(tell f).2=true:=by
 have key:∀(l:List U') (a:Int×Bool),l.foldl (wS tell) a=a\/∃f∈l,l.foldl (wS tell) a=((tell f).1,true)/\(tell f).2=true:=by
  intro l
  induction l with
  |nil=>intro a;exact .inl rfl
  |cons g l ih=>
   intro a;rw[j4];rcases ih (wS tell a g)with h|⟨f,hf,h,h'⟩
   .rw[h];unfold wS;split
    .rename_i hc;exact .inr ⟨g,by simp,rfl,hc.1⟩
    .exact .inl rfl
   .exact .inr ⟨f,by simp[hf],h,h'⟩
 rcases key l (0,false)with h1|⟨f,hf,h1,h2⟩
 .unfold dM at h;rw[h1]at h;cases h
 .exact⟨f,hf,by unfold dM;rw[h1],h2⟩
def pQ(l:List U')(w high:Int)(s:ZC)(y:Int):Bool:=!(gz l y high s).2||decide (k0 (dJ l y high s)>=w)
def mr(l:List U')(w high:Int)(s:ZC):Nat->Int->Int
 |0,y=>y
 |k+1,y=>if pQ l w high s y then y else mr l w high s k (gz l y high s).1
def rN(l:List U')(w high:Int)(s:ZC)(y:Int):Int:=mr l w high s l.length y
def Bj(f:U')(l:List U')(s:ZC):V:=.agg [vI f.node,vI f.side,vI f.anchor,vI f.x,vI f.y,vI f.w,vI f.h,aH l,vI s.a,vI s.b]
def NY(l:List U')(f:U')(y:Int)(s:ZC)(hl:l.length<=1000000)(M':∀f∈l,f.ok)(hy:Bq2 y)(hh:Bq f.h)(ZV:Bq2 s.a/\Bq2 s.b):
 aJ prog 309 [Bj f l s,vI y] (.P' [bf (dJ l (rN l f.w f.h s y) f.h s),vI (rN l f.w f.h s y)]):=λU=>by
 refine V8.r (by simp[OZ]) ?_;have hs:=aa.refl U;refine ab.mix 9 ?_;apply sR;simp only[go_sem,seval,OZ,Bj];refine ad λi2 Z2 s2 a2 f2=>?_;replace hs:=hs.trans s2;simp only[go_sem,seval];refine ad λi4 Z4 s4 a4 f4=>?_;replace a2:=s4 _ _ a2;have z4:=hs.none f4;replace hs:=hs.trans s4;simp only[go_sem,seval];obtain⟨z,hz⟩:∃z,z=rN l f.w f.h s y:=⟨_,rfl⟩
 rw[<-hz];refine ab.loop (λm st=>∃(y':Int) (k:Nat),m=gtJ l y'/\gtJ l y'<=k/\z=mr l f.w f.h s k y'/\Bq2 y'/\aa U st.U/\st.U i2=some ⟨388,10,[Bj f l s]⟩/\st.U i4=some ⟨288,2,[.agg [vI 0,vI 0]]⟩/\st.s 1=vI y'/\st.s 2=.ptr i2 0 0/\st.s 4=.ptr i4 0 0) (gtJ l y) ?_ ?_
 .exact⟨y,l.length,rfl,List.length_filter_le _ _,hz,hy,hs,a2,a4,rfl,rfl,rfl⟩
 .rintro m ⟨S,C⟩ ⟨y',k,rfl,hk,hzk,hy',hs,b2,b4,k1,k2,k4⟩;simp only at hs b2 b4 k1 k2 k4;refine ab.mix 9 ?_;rw[Bj]at b2;have hb:=nV (y:=y') (high:=f.h) M' ZV;apply sR;simp only[go_sem,seval,k1,k2,b2];refine ab.ay rfl rfl rfl (GA l y' f.h s hl M' hy' hh _) ?_;apply sR;simp only[go_sem,seval,bf];refine ad λi6 Z6 s6 a6 f6=>?_;have n26:=ao b2 f6;have n46:=ao b4 f6;replace b2:=s6 _ _ b2;replace b4:=s6 _ _ b4;have z6:=hs.none f6;replace hs:=hs.trans s6;simp only[go_sem,seval,a6,b2,k1,k2,ae n26];generalize hq:C' _ i6 _=Y6;have a6':=(congrFun hq i6).symm.trans ag;have b2':=((congrFun hq i2).symm.trans (ae n26)).trans b2;have b4':=((congrFun hq i4).symm.trans (ae n46)).trans b4;replace hs:=Eq.subst (motive:=aa _) hq (hs.ax z6);refine ab.ay rfl rfl rfl (Jw l y' f.h s hl M' hy' hh _) ?_;have hex:pQ l f.w f.h s y'=true->z=y':=λh=>by cases k<;>simp[mr,h]at hzk<;>exact hzk
  have hlen:=IG (dJ l y' f.h s) hb.1 hb.2;have hgo:pQ l f.w f.h s y'=false->∃k',k=k'+1/\gtJ l (gz l y' f.h s).1<gtJ l y'/\z=mr l f.w f.h s k' (gz l y' f.h s).1/\Bq2 (gz l y' f.h s).1:=λh=>by
   have h2:(gz l y' f.h s).2=true:=by
    simp only[pQ,Bool.or_eq_false_iff,Bool.not_eq_false']at h;exact h.1
   have hdec:=Aq (jb h2);obtain⟨k',rfl⟩:∃k',k=k'+1:=⟨k-1,by omega⟩
   rw[mr,h]at hzk;exact⟨k',rfl,hdec,by simpa using hzk,KA M' h2⟩
  unfold pQ at hex hgo;cases hn:(gz l y' f.h s).2
  .rw[hn]at hex;obtain rfl:=hex (by simp);apply sR;simp only[go_sem,seval,k1,k4,a6',b4'];exact ak.pure (hs.ax z4) rfl
  .rw[hn]at hex hgo;apply sR;simp only[go_sem,seval,a6'];refine Go.bW rfl rfl rfl hlen ?_;by_cases hw:k0 (dJ l y' f.h s)>=f.w
   .have q:(k0 (dJ l y' f.h s)>=f.w)=True:=Yi hw;obtain rfl:=hex (by simp[hw]);apply sG;simp only[go_sem,seval,k1,k2,k4,a6',b4',b2',q];exact ak.pure (hs.ax z4) rfl
   .have q:(k0 (dJ l y' f.h s)>=f.w)=False:=T' hw;obtain⟨k',rfl,h1,h2,h3⟩:=hgo (by simp[hw]);apply sG;simp only[go_sem,seval,k2,k4,b4',b2',q];refine⟨_,h1,_,k',rfl,by omega,h2,h3,hs,?_⟩;exact⟨by rw[Bj],rfl⟩
structure WOk(ws:List Int)(space:Int):Prop where
 len:ws.length<=100000
 rng:∀x∈ws,0<=x/\x<=1099511627776
 s0:0<=space
 s1:space<=1099511627776
def gd(space:Int):List Int->Nat->Int->List (Nat×Int)
 |[],_,_=>[]
 |x::r,k,n=>(k+1,n+space+x)::gd space r (k+1) (n+space+x)
def rm(space width:Int):List Int->Nat->Int->Nat×Int
 |[],k,n=>(k,n)
 |x::r,k,n=>if n+space+x>width then(k,n)else rm space width r (k+1) (n+space+x)
def lv(ws:List Int)(space width:Int)(i:Nat):Nat×Int:=rm space width (ws.drop (i+1)) (i+1) (ws.getD i 0)
def tC(space width:Int):∀(r:List Int) (k:Nat) (n:Int),k<=(rm space width r k n).1/\(rm space width r k n).1<=k+r.length
 |[],k,n=>by simp[rm]
 |x::r,k,n=>by
  rw[rm];split
  .simp
  .have:=tC space width r (k+1) (n+space+x);simp only[ZR];omega
def CH{ws:List Int}{space width:Int}{i:Nat}(h:i<ws.length):i<(lv ws space width i).1/\(lv ws space width i).1<=ws.length:=by
 have:=tC space width (ws.drop (i+1)) (i+1) (ws.getD i 0);rw[rW]at this;unfold lv;omega
def WOk.get{ws:List Int}{space:Int}(h:WOk ws space){i:Nat}(hi:i<ws.length):0<=ws[i]/\ws[i]<=1099511627776:=h.rng _ (Zw hi)
open Go.Proofs Go.Proofs.Tryz
def ldI(U:af)(l:List Int):bB U false 1 (.rp (bh l))=some (bh l):=rfl
def cL(l:List Int):(bh l).cells=[bh l]:=rfl
def hU(l:List Int):(bh l).stays=true:=rfl
def iS{U:af}{l:List Int}{i:Nat}(h:i<l.length):bo U 1 (bh l) (.int .i64 i)=some (.rp (vI l[i])):=by simp[bh,bo,h]
def fA(l:List Int):cU false (bh l)=some (.int .i64 l.length):=by simp[bh,cU]
def lA(ws:List Int)(space:Int):V:=.agg [bh ws,vI space]
def TL(ws:List Int)(space:Int):mf false 0 1 (.rp (lA ws space))=some (.rp (bh ws)):=rfl
def UG(ws:List Int)(space:Int):mf false 1 1 (.rp (lA ws space))=some (.rp (vI space)):=rfl
def DH(ws:List Int)(space:Int):(lA ws space).cells=[bh ws,vI space]:=rfl
def CJ(ws:List Int)(space:Int):(lA ws space).stays=true:=rfl
def UC(ws:List Int)(space i:Int):aJ prog 326 [lA ws space,vI i] (.bool (decide (i<0\/i>=ws.length))):=λU=>by
 refine VZ.r (by simp[Rh]) ?_;have hs:=aa.refl U;have hn:=fA ws;apply sR;simp only[go_sem,seval,Rh,lA];refine ad λi2 Z2 s2 a2 f2=>?_;replace hs:=hs.trans s2;by_cases h:i<0
 .have q:(i<0)=True:=Yi h;simp only[go_sem,seval,q];exact ak.pure hs (by simp)
 .have q:(i<0)=False:=T' h;simp only[go_sem,seval,a2,q,hn];exact ak.pure hs (by simp)
def fD(l:List (Nat×Int)):List (List V):=l.map λp=>[vI p.1,vI p.2]
def Il(ws:List Int)(space:Int)(hw:WOk ws space)(i:Nat)(hi:i<ws.length):Iter prog 335 [.rp (lA ws space),.rp (vI i)] (fD (gd space (ws.drop i) i (0-space))):=by
 refine⟨Up.c,λYv J Jx Z0 hy hJ=>?_⟩;refine(Up.r (by simp[RQ]) ?_).2;have YT:=hw.s0;have ZV:=hw.s1;have hln:=hw.len;have hn:=fA ws;have r0:Yr .i64 (0-space):=ai;refine ab.mix 6 ?_;apply sR;simp only[BB,seval,aX,eN,aE,fb,Orc.nothing,RQ,UG,r0];refine ab.loop (λm st=>∃(pre:List (Nat×Int)) (j:Nat) (n:Int) (ZJ:af),m=ws.length-j/\i<=j/\j<=ws.length/\-1099511627776<=n/\n<=2199023255552*j/\gd space (ws.drop i) i (0-space)=pre++gd space (ws.drop j) j n/\
  J (fD pre) ZJ/\aa ZJ st.U/\st.s 0=.yl Yv/\st.s 1=.rp (lA ws space)/\st.s 4=vI n/\st.s 5=vI j) (ws.length-i) ?_ ?_
 .exact⟨[],i,0-space,Z0,rfl,by omega,by omega,by omega,by omega,rfl,hJ,aa.refl _,rfl,rfl,rfl,rfl⟩
 .rintro m ⟨s,Z'⟩ ⟨pre,j,n,ZJ,rfl,hij,hj,hn1,hn2,hxs,hJp,G',t0,t1,t4,t5⟩;simp only at G' t0 t1 t4 t5;refine ab.mix 6 ?_;by_cases L':j<ws.length
  .have q:((j:Int)<ws.length)=True:=Yi;have hx:=hw.get L';have Yb:=λU=>iS (U:=U) L';rw[ie L',gd]at hxs;generalize ws[j]=w at*;have r1:Yr .i64 (space+w):=ai;have r2:Yr .i64 (n+(space+w)):=ai;have r3:Yr .i64 ((j:Int)+1):=ai;have en:n+space+w=n+(space+w):=by omega
   rw[en]at hxs;have e:fD (gd space (ws.drop i) i (0-space))=fD pre++[vI ((j:Int)+1),vI (n+(space+w))]::fD (gd space (ws.drop (j+1)) (j+1) (n+(space+w))):=by rw[hxs];simp[fD]
   apply sR;simp only[BB,seval,aX,eN,aE,dX,jm,Orc.nothing,t0,t1,t4,t5,hn,q,ldI,TL,UG,Yb,r1,r2,r3];refine ab.nv (Post:=λb Z2=>∃Yx,aT ZJ Z' Yx Z2/\((b=true/\J (fD pre++[[vI ((j:Int)+1),vI (n+(space+w))]]) Yx)\/(b=false/\Jx (fD pre++[[vI ((j:Int)+1),vI (n+(space+w))]]) Yx))) rfl rfl rfl (hy _ _ _ ZJ Z' e hJp G') ?_;rintro b Z2 ⟨Yx,hbs,Zo⟩;rcases Zo with⟨rfl,Zo⟩|⟨rfl,Zo⟩
   .apply sR;simp only[go_sem,seval,t0,t1,t5,r3];refine⟨_,?_,pre++[(j+1,n+(space+w))],j+1,n+(space+w),Yx,rfl,by omega,by omega,by omega,by omega,by rw[hxs];simp,?_,hbs.1,by simp⟩
    .omega
    .simpa[fD]using Zo
   .apply sR;simp only[go_sem,seval];refine⟨_,Yx,hbs.1,Wk.refl hbs.1 _,.inr ⟨_,?_,Zo⟩⟩;rw[e];exact⟨fD (gd space (ws.drop (j+1)) (j+1) (n+(space+w))),by simp⟩
  .have q:((j:Int)<ws.length)=False:=T';apply sR;simp only[BB,seval,aX,eN,aE,dX,jm,gg,Orc.nothing,t1,t5,hn,q,ldI,TL];rw[show ws.drop j=[]from List.drop_of_length_le (by omega),gd,lO]at hxs;exact⟨_,ZJ,G',Wk.refl G' _,.inl (by rw[hxs];exact hJp)⟩
def PH(ws:List Int)(space:Int)(i:Int):aJ prog 327 [lA ws space,vI i] (.fn 335 [.rp (lA ws space),.rp (vI i)]):=λU=>by
 refine Vs.r (by simp[Qd]) ?_;refine ab.mix 4 ?_;have q1:=DH ws space;have q2:=CJ ws space;have q3:(lA ws space).cells.length=2:=rfl;generalize hx:lA ws space=x at*;apply sR;simp only[go_sem,seval,Qd,q1,q2];refine ad λid1 Z1 s1 a1 f1=>?_;simp only[go_sem,seval];refine ad λid2 Z2 s2 a2 f2=>?_;simp only[go_sem,seval];exact⟨_,U,s1.trans s2,Wk.fn (vs':=[.rp x,.rp (vI i)]) ⟨Wk.ptr (s1.trans s2) (s2 _ _ a1) f1,Wk.ptr (s1.trans s2) a2 (s1.none f2),trivial⟩,rfl,rfl⟩
open Go.Proofs Go.Proofs.Tryz
def yJ(i j n:Int):V:=.agg [vI i,vI j,vI n]
structure TkJ(ws:List Int)(space width:Int)(i:Nat)(U:af)(id6 id7 id8 id10:Nat)(pre:List (List V))(v:V)(ZJ:af):Prop where
 sub:aa U ZJ
 r8:ZJ id8=some ⟨377,3,[.agg [vI 0,vI 0,vI 0]]⟩
 r6:ZJ id6=some ⟨3,1,[vI width]⟩
 r7:ZJ id7=some ⟨3,1,[vI i]⟩
 r10:ZJ id10=some ⟨377,3,[v]⟩
 st:(pre=[]/\v=.agg [vI 0,vI 0,vI 0])\/∃n:Int,0<pre.length/\i+pre.length<=ws.length/\fD (gd space (ws.drop i) i (0-space))=pre++fD (gd space (ws.drop (i+pre.length)) (i+pre.length) n)/\
  lv ws space width i=rm space width (ws.drop (i+pre.length)) (i+pre.length) n/\v=.agg [vI i,vI (i+pre.length:Nat),vI n]
def MY(ws:List Int)(space width:Int)(hw:WOk ws space)(i:Nat)(hi:i<ws.length):aJ prog 302 [bh ws,vI space,vI width,vI i] (yJ i (lv ws space width i).1 (lv ws space width i).2):=λU=>by
 refine XY.r (by simp[Tf]) ?_;have hs:=aa.refl U;have hln:=hw.len;refine ab.mix 13 ?_;apply sR;simp only[go_sem,seval,Tf];refine ad λi6 Z6 s6 a6 f6=>?_;replace hs:=hs.trans s6;simp only[go_sem,seval];refine ad λi7 Z7 s7 a7 f7=>?_;replace a6:=s7 _ _ a6;replace hs:=hs.trans s7;simp only[go_sem,seval];refine ad λi8 Z8 s8 a8 f8=>?_;replace a6:=s8 _ _ a6;replace a7:=s8 _ _ a7;have z8:=hs.none f8;replace hs:=hs.trans s8;simp only[go_sem,seval,cL,hU];refine ad λi9 Z9 s9 a9 f9=>?_;have n69:=ao a6 f9;replace a6:=s9 _ _ a6;have n79:=ao a7 f9;replace a7:=s9 _ _ a7;have n89:=ao a8 f9;replace a8:=s9 _ _ a8;have z9:=hs.none f9;replace hs:=hs.trans s9;simp only[go_sem,seval,a9,a7,ae n79];generalize ZA:C' _ i9 _=Y9;replace a9:=(congrFun ZA i9).symm.trans ag;replace a6:=((congrFun ZA i6).symm.trans (ae n69)).trans a6;replace a7:=((congrFun ZA i7).symm.trans (ae n79)).trans a7;replace a8:=((congrFun ZA i8).symm.trans (ae n89)).trans a8;replace hs:=Eq.subst (motive:=aa _) ZA (hs.ax z9);clear ZA;have hf:=UC ws space i;rw[show decide ((i:Int)<0\/(i:Int)>=ws.length)=false by simp;omega]at hf;refine ab.ay rfl rfl rfl (hf _) ?_;apply sR;simp only[go_sem,seval];refine ad λYU Z10 s10 Zf f10=>?_;have n610:=ao a6 f10;replace a6:=s10 _ _ a6;have n710:=ao a7 f10;replace a7:=s10 _ _ a7;have n810:=ao a8 f10;replace a8:=s10 _ _ a8;replace a9:=s10 _ _ a9;have z10:=hs.none f10;replace hs:=hs.trans s10;simp only[go_sem,seval,a9,a7];refine ab.ay rfl rfl rfl (PH ws space i _) ?_;apply sR;simp only[go_sem,seval];generalize hS:mix 13 _ _=S;have S6:S 6=.ptr i6 0 0:=by rw[<-hS];rfl
 have S7:S 7=.ptr i7 0 0:=by rw[<-hS];rfl
 have S8:S 8=.ptr i8 0 0:=by rw[<-hS];rfl
 have S10:S 10=.ptr YU 0 0:=by rw[<-hS];rfl
 have S22:S 22=.fn 335 [.rp (lA ws space),.rp (vI i)]:=by rw[<-hS];rfl
 clear hS;have hit:=Il ws space hw i hi;have hdr:ws.drop i=ws[i]::ws.drop (i+1):=ie hi;have hgd:ws.getD i 0=ws[i]:=by simp[hi]
 have fin:∀(C:af) (w:V),aa U C->C i8=some ⟨377,3,[.agg [vI 0,vI 0,vI 0]]⟩->C YU=some ⟨377,3,[yJ i (lv ws space width i).1 (lv ws space width i).2]⟩->
  ab prog 39 [It.code (.seq (.reg false [⟨some 38,.load true 3 (.t 10),none⟩,⟨none,.store 3 (.t 8) (.t 38),none⟩]) .ret)] ⟨S,C⟩ (λst=>Ret [VR.cell true 3 (VX.t 8)] st λr Z'=>r=yJ i (lv ws space width i).1 (lv ws space width i).2/\Z'=U):=by
  intro C w h1 h2 h3;refine ab.mix 13 ?_;rw[yJ]at h3;apply sR;simp only[go_sem,seval,S8,S10,h2,h3];exact ak.pure (h1.ax z8) rfl
 refine ab.cE (g:=.t 22) (caps:=[.rp (lA ws space),.rp (vI i)]) S22 hit (λx hx=>?_) [0] (λpre ZJ=>∃v,TkJ ws space width i U i6 i7 i8 YU pre v ZJ)
  (λe pre ZJ=>e=some 0/\aa U ZJ/\ZJ i8=some ⟨377,3,[.agg [vI 0,vI 0,vI 0]]⟩/\ZJ YU=some ⟨377,3,[yJ i (lv ws space width i).1 (lv ws space width i).2]⟩) ?_ ?_ ?_ ?_ ?_
 .obtain⟨t,_,rfl⟩:=gl.1 hx;rfl
 .exact⟨_,hs,a8,a6,a7,Zf,.inl ⟨rfl,rfl⟩⟩
 .rintro pre x post ZJ ZB hxs ⟨v,J⟩ G';have b6:=G' _ _ J.r6;have b7:=G' _ _ J.r7;have b10:=G' _ _ J.r10;rcases J.st with⟨rfl,rfl⟩|⟨n,hp,hpl,hr,Zg,rfl⟩
  .obtain rfl:x=[vI ((i:Int)+1),vI ws[i]]:=by
    rw[hdr]at hxs;simp only[gd,fD,dP,kW,List.cons.injEq]at hxs;rw[<-hxs.1];simp only[Int.sub_add_cancel,Int.zero_add];rw[show((i+1:Nat):Int)=(i:Int)+1 by omega]
   refine ab.mix 13 ?_;generalize hSS:lf S [23,24] _=S0;have T6:S0 6=.ptr i6 0 0:=by rw[<-hSS];exact S6
   have T7:S0 7=.ptr i7 0 0:=by rw[<-hSS];exact S7
   have T10:S0 10=.ptr YU 0 0:=by rw[<-hSS];exact S10
   have T23:S0 23=vI ((i:Int)+1):=by rw[<-hSS];rfl
   have T24:S0 24=vI ws[i]:=by rw[<-hSS];rfl
   clear hSS;have r1:Yr .i64 ((i:Int)+1):=ai;have q:((i:Int)+1>(i:Int)+1)=False:=T';apply sR;simp only[go_sem,seval,T23,T24];apply sR;simp only[go_sem,seval,T7,T10,b7,b10,r1,q];refine⟨_,(aT.refl G').set J.r10,_,J.sub.ax z10,by rw[ae n810];exact J.r8,by rw[ae n610];exact J.r6,by rw[ae n710];exact J.r7,ag,.inr ⟨ws[i],by simp,by simp;omega,?_,?_,?_⟩⟩
   .rw[hdr,gd];simp only[Int.sub_add_cancel,Int.zero_add,fD,dP,kW,ZR,List.length_nil,List.cons_append];rw[show((i+1:Nat):Int)=(i:Int)+1 by omega]
   .unfold lv;rw[hgd];rfl
   .simp
  .have L':i+pre.length<ws.length:=by
    rcases Nat.lt_or_ge (i+pre.length) ws.length with h|h
    .exact h
    .exfalso;rw[List.drop_of_length_le h]at hr;rw[hr]at hxs;have:=congrArg List.length hxs;simp[gd,fD]at this
   have hd2:ws.drop (i+pre.length)=ws[i+pre.length]::ws.drop (i+pre.length+1):=ie L';obtain rfl:x=[vI ((i:Int)+pre.length+1),vI (n+space+ws[i+pre.length])]:=by
    rw[hr,hd2]at hxs;have h2:=List.append_cancel_left hxs;simp only[gd,fD,dP,List.cons.injEq]at h2;rw[<-h2.1];rw[show((i+pre.length+1:Nat):Int)=(i:Int)+pre.length+1 by omega]
   rw[hd2,rm]at Zg;refine ab.mix 13 ?_;generalize hSS:lf S [23,24] _=S0;have T6:S0 6=.ptr i6 0 0:=by rw[<-hSS];exact S6
   have T7:S0 7=.ptr i7 0 0:=by rw[<-hSS];exact S7
   have T10:S0 10=.ptr YU 0 0:=by rw[<-hSS];exact S10
   have T23:S0 23=vI ((i:Int)+pre.length+1):=by rw[<-hSS];rfl
   have T24:S0 24=vI (n+space+ws[i+pre.length]):=by rw[<-hSS];rfl
   clear hSS;have r1:Yr .i64 ((i:Int)+1):=ai;have q:((i:Int)+pre.length+1>(i:Int)+1)=True:=Yi;apply sR;simp only[go_sem,seval,T23,T24];by_cases hw2:n+space+ws[i+pre.length]>width
   .have q2:(n+space+ws[i+pre.length]>width)=True:=Yi hw2;rw[ar hw2]at Zg;apply sR;simp only[go_sem,seval,T6,T7,b6,b7,r1,q,q2];refine⟨_,aT.refl G',J.sub,J.r8,?_⟩;rw[J.r10,Zg];rfl
   .have q2:(n+space+ws[i+pre.length]>width)=False:=T' hw2;rw[av hw2]at Zg;apply sR;simp only[go_sem,seval,T6,T7,T10,b6,b7,b10,r1,q,q2];have hpl2:(pre++[[vI ((i:Int)+pre.length+1),vI (n+space+ws[i+pre.length])]]).length=pre.length+1:=by simp
    refine⟨_,(aT.refl G').set J.r10,_,J.sub.ax z10,by rw[ae n810];exact J.r8,by rw[ae n610];exact J.r6,by rw[ae n710];exact J.r7,ag,.inr ⟨n+space+ws[i+pre.length],by omega,by omega,?_,?_,?_⟩⟩
    .rw[hr,hd2,hpl2,gd];simp only[fD,dP,lN,List.cons_append,kW];rw[show((i+pre.length+1:Nat):Int)=(i:Int)+pre.length+1 by omega];rfl
    .rw[hpl2];exact Zg
    .rw[hpl2,show((i+(pre.length+1):Nat):Int)=(i:Int)+pre.length+1 by omega]
 .rintro Z' ⟨v,J⟩;rcases J.st with⟨h0,rfl⟩|⟨n,hp,hpl,hr,Zg,rfl⟩
  .exfalso;rw[hdr]at h0;simp[gd,fD]at h0
  .have he:fD (gd space (ws.drop (i+(fD (gd space (ws.drop i) i (0-space))).length)) (i+(fD (gd space (ws.drop i) i (0-space))).length) n)=[]:=by
    have:=congrArg List.length hr;rw[iE]at this;exact vx (by omega)
   generalize (fD (gd space (ws.drop i) i (0-space))).length=p at*;have hd:ws.drop (i+p)=[]:=by
    cases h:ws.drop (i+p)with
    |nil=>rfl
    |cons a b=>rw[h]at he;simp[gd,fD]at he
   rw[hd,rm]at Zg;refine ab.inBlock (fin Z' .aC J.sub J.r8 ?_);rw[J.r10,Zg];rfl
 .intro id O' pre Z' _ ⟨h0,h1,h2,h3⟩;obtain rfl:id=0:=by simpa using O'
  refine ab.exit rfl ?_;exact fin Z' .aC h1 h2 h3
 .rintro pre Z' _ ⟨h0,_⟩;cases h0
open Go.Proofs Go.Proofs.Tryz
def wT(p:Pn)(n:Int):Pn:=⟨if n>0 then p.y+p.m+n else p.y,if n>0 then 0 else p.m⟩
def eg(p:Pn)(mg n:Int):Pn:=wT ⟨p.y,max p.m mg⟩ n
def mX(p:Pn)(mg n:Int):Pn:=⟨(wT p n).y,max (wT p n).m mg⟩
def F5(p:Pn)(mg n:Int)(h1:Bq p.y)(h2:Bq p.m)(h3:Bq mg)(h4:Bq n):aJ prog 217 [gZ p,vI mg,vI n] (gZ (eg p mg n)):=λU=>by
 refine WO.r (by simp[R9]) ?_;have hs:=aa.refl U;refine ab.mix 10 ?_;apply sR;simp only[go_sem,seval,R9,gZ];refine ad λi3 Z3 s3 a3 f3=>?_;replace hs:=hs.trans s3;simp only[go_sem,seval];refine ad λi6 Z6 s6 a6 f6=>?_;replace a3:=s6 _ _ a3;have z6:=hs.none f6;replace hs:=hs.trans s6;simp only[go_sem,seval,a3];refine ad λi7 Z7 s7 a7 f7=>?_;have n37:=ao a3 f7;replace a3:=s7 _ _ a3;have n67:=ao a6 f7;replace a6:=s7 _ _ a6;have z7:=hs.none f7;replace hs:=hs.trans s7;simp only[go_sem,seval,a7];generalize hq7:C' _ i7 _=Y7;replace a7:=(congrFun hq7 i7).symm.trans ag;replace a3:=((congrFun hq7 i3).symm.trans (ae n37)).trans a3;replace a6:=((congrFun hq7 i6).symm.trans (ae n67)).trans a6;replace hs:=Eq.subst (motive:=aa _) hq7 (hs.ax z7);clear hq7;refine ab.call rfl rfl rfl (F1 p.y p.m mg a7) ?_;rintro r Z1 ⟨rfl,rfl⟩;apply sR;simp only[go_sem,seval];have hm:Bq (max p.m mg):=by obtain⟨g1,g2⟩:=h2;obtain⟨g3,g4⟩:=h3;exact⟨by omega,by omega⟩
 refine ab.call rfl rfl rfl (Ou p.y (max p.m mg) n h1 hm h4 ag) ?_;rintro r Z2 ⟨rfl,rfl⟩;apply sR;simp only[go_sem,seval,a6,ae n67];exact ak.pure ((hs.ax z7).ax z6) rfl
def Gh(p:Pn)(mg n:Int)(h1:Bq p.y)(h2:Bq p.m)(h3:Bq mg)(h4:Bq n):aJ prog 218 [gZ p,vI mg,vI n] (gZ (mX p mg n)):=λU=>by
 refine WK.r (by simp[P8]) ?_;have hs:=aa.refl U;refine ab.mix 10 ?_;apply sR;simp only[go_sem,seval,P8,gZ];refine ad λi3 Z3 s3 a3 f3=>?_;replace hs:=hs.trans s3;simp only[go_sem,seval];refine ad λi6 Z6 s6 a6 f6=>?_;replace a3:=s6 _ _ a3;have z6:=hs.none f6;replace hs:=hs.trans s6;simp only[go_sem,seval,a3];refine ad λi7 Z7 s7 a7 f7=>?_;have n37:=ao a3 f7;replace a3:=s7 _ _ a3;have n67:=ao a6 f7;replace a6:=s7 _ _ a6;have z7:=hs.none f7;replace hs:=hs.trans s7;simp only[go_sem,seval,a7];generalize hq7:C' _ i7 _=Y7;replace a7:=(congrFun hq7 i7).symm.trans ag;replace a3:=((congrFun hq7 i3).symm.trans (ae n37)).trans a3;replace a6:=((congrFun hq7 i6).symm.trans (ae n67)).trans a6;replace hs:=Eq.subst (motive:=aa _) hq7 (hs.ax z7);clear hq7;refine ab.call rfl rfl rfl (Ou p.y p.m n h1 h2 h4 a7) ?_;rintro r Z1 ⟨rfl,rfl⟩;apply sR;simp only[go_sem,seval];refine ab.call rfl rfl rfl (F1 _ _ mg ag) ?_;rintro r Z2 ⟨rfl,rfl⟩;apply sR;simp only[go_sem,seval,a6,ae n67];exact ak.pure ((hs.ax z7).ax z6) rfl
structure Ln where
 (fr to x y w:Int)
deriving DecidableEq
def od(l:Ln):V:=.agg [vI l.fr,vI l.to,vI l.x,vI l.y,vI l.w]
def pN(fs:List U')(ws:List Int)(space high:Int)(i:Nat)(y:Int)(s:ZC):Ln:=
 let YZ:=l6 fs (ws.getD i 0) high s y
 let b:=dJ fs YZ high s
 let t:=lv ws space (k0 b) i
 ⟨i,t.1,b.a,YZ,t.2⟩
def ME(fs:List U')(ws:List Int)(space high:Int)(i:Nat)(y:Int)(s:ZC)(hl:fs.length<=1000000)(M':∀f∈fs,f.ok)(hy:Bq2 y)(hh:Bq high)(ZV:Bq2 s.a/\Bq2 s.b)(hw:WOk ws space)(hi:i<ws.length):
 aJ prog 265 [aH fs,bh ws,vI space,vI high,vI i,vI y,bf s] (od (pN fs ws space high i y s)):=λU=>by
 refine VQ.r (by simp[Ph]) ?_;have hs:=aa.refl U;have hn:=fA ws;have Yb:=λU=>iS (U:=U) hi;have q0:((i:Int)<0)=False:=T';have q1:((i:Int)>=ws.length)=False:=T';refine ab.mix 18 ?_;apply sR;simp only[go_sem,seval,Ph,bf];refine ad λi13 Y13 s13 a13 f13=>?_;replace hs:=hs.trans s13;simp only[go_sem,seval];refine ad λi14 Z14 s14 a14 f14=>?_;replace a13:=s14 _ _ a13;have z14:=hs.none f14;replace hs:=hs.trans s14;simp only[go_sem,seval,a13,hn,Yb,q0,q1];have hgd:ws.getD i 0=ws[i]:=by simp[hi]
 obtain⟨YZ,hat⟩:∃a,a=l6 fs ws[i] high s y:=⟨_,rfl⟩
 have hro:=LG fs ws[i] high y s hl M' hy hh ZV;rw[<-hat]at hro;have hbo:=nV (y:=YZ) (high:=high) M' ZV;unfold pN;rw[hgd];simp only;rw[<-hat];obtain⟨b,hb⟩:∃b,b=dJ fs YZ high s:=⟨_,rfl⟩
 rw[<-hb]at hro hbo|-;refine Go.bW rfl rfl rfl hro ?_;apply sG;simp only[go_sem,seval,bf];refine aW λi15 Y15 s15 a15 f15=>?_;have n1315:=ao a13 f15;replace a13:=s15 _ _ a13;have n1415:=ao a14 f15;replace a14:=s15 _ _ a14;have z15:=hs.none f15;replace hs:=hs.trans s15;simp only[go_sem,seval,a15];generalize hq15:C' _ i15 _=Z15;replace a15:=(congrFun hq15 i15).symm.trans ag;replace a13:=((congrFun hq15 i13).symm.trans (ae n1315)).trans a13;replace a14:=((congrFun hq15 i14).symm.trans (ae n1415)).trans a14;replace hs:=Eq.subst (motive:=aa _) hq15 (hs.ax z15);clear hq15;refine ab.ay rfl rfl rfl (IG b hbo.1 hbo.2 _) ?_;apply sR;simp only[go_sem,seval];refine ab.ay rfl rfl rfl (MY ws space (k0 b) hw i hi _) ?_;apply sR;simp only[go_sem,seval,yJ];refine ad λi17 Y17 s17 a17 f17=>?_;have n1317:=ao a13 f17;replace a13:=s17 _ _ a13;have n1417:=ao a14 f17;replace a14:=s17 _ _ a14;have n1517:=ao a15 f17;replace a15:=s17 _ _ a15;have z17:=hs.none f17;replace hs:=hs.trans s17;simp only[go_sem,seval,a17,a15,a14,ae n1417,ae n1517];exact ak.pure ((hs.ax z17).ax z14) rfl
open Go.Proofs Go.Proofs.Tryz
def aL.E7{K ZJ Z1:af}{e sz:Nat}{v:V}{rows:List V}(h:aL K ZJ e sz v rows)(hs:aa ZJ Z1):
 ∃Yt,bP Z1 e sz v=some (rows,Yt)/\(∀K':af,aa K' K->∀Z2,aa K' Z2->aa K' (Vc.bt Z2 Yt))/\(∀i o,ZJ i=some o->(o.elem≠e\/o.sz≠sz)->∀Z2:af,Vc.bt Z2 Yt i=Z2 i)/\(∀i,ZJ i=none->∀Z2:af,Vc.bt Z2 Yt i=Z2 i):=by
 rcases h with⟨rfl,rfl⟩|⟨id,rfl,ho,hk⟩
 .exact⟨none,rfl,λ_ _ _ h=>h,λ_ _ _ _ _=>rfl,λ_ _ _=>rfl⟩
 .refine⟨some id,?_,λK' hK Z2 h=>h.No (hK.none hk),λi o hi YF Z2=>?_,λi hi Z2=>?_⟩
  .simp only[bP,hs _ _ ho];rw[ar ⟨trivial,trivial,trivial,YY _⟩,ic]
  .refine cA λe'=>?_;subst e';rw[ho]at hi;injection hi with hi;subst hi;rcases YF with h|h<;>exact h rfl
  .refine cA λe'=>?_;subst e';rw[ho]at hi;cases hi
def tR{l:List U'}{w high B:Int}{s:ZC}(hB:∀f∈l,f.y+f.h<=B):∀(k:Nat) (y:Int),y<=rH l w high s k y/\rH l w high s k y<=max y B
 |0,y=>by simp only[rH];omega
 |k+1,y=>by
  rw[rH];split
  .omega
  .rename_i hf;have YF:dJ l y high s≠s:=λe=>hf (by simp[zl,e]);obtain⟨f,hm,h1,h2⟩:=jb (qq YF);have:=tR hB k (gz l y high s).1 (w:=w) (high:=high) (s:=s);have:=hB f hm;omega
def fV{l:List U'}{w high B y:Int}{s:ZC}(hB:∀f∈l,f.y+f.h<=B):y<=l6 l w high s y/\l6 l w high s y<=max y B:=tR hB _ _
def cV(fs:List U')(ws:List Int)(space high:Int)(s:ZC):Nat->Nat->Int->List Ln
 |0,_,_=>[]
 |k+1,i,y=>if i<ws.length then pN fs ws space high i y s::cV fs ws space high s k (pN fs ws space high i y s).to.toNat ((pN fs ws space high i y s).y+high)else[]
def kS(fs:List U')(ws:List Int)(space high:Int)(s:ZC):∀(k i:Nat) (y:Int),(cV fs ws space high s k i y).length<=k
 |0,_,_=>by simp[cV]
 |k+1,i,y=>by
  rw[cV];split
  .have:=kS fs ws space high s k (pN fs ws space high i y s).to.toNat ((pN fs ws space high i y s).y+high);simp only[ZR];omega
  .simp
def BP(l:Ln):(od l).cells=[vI l.fr,vI l.to,vI l.x,vI l.y,vI l.w]:=rfl
def DE(l:Ln):(od l).stays=true:=rfl
def sE(l:List Ln):V:=.sl 5 (l.map od)
variable {P:Program} {n:Nat} {st:St} {Q:St->Prop} {k:List It}
def pH(D:List (List Nat))(S:List Nat)(s:Nat):List (List Nat):=(List.range D.length).map λi=>if S.contains i&&!(i==s)then s::D.getD i []else D.getD i []
def C1{D:List (List Nat)}{S:List Nat}{s:Nat}:(pH D S s).length=D.length:=by simp[pH]
def BQ{D:List (List Nat)}{S:List Nat}{s i:Nat}:(pH D S s).getD i []=if i<D.length/\i∈S/\i≠s then s::D.getD i []else D.getD i []:=by
 unfold pH;rw[sH,ry];by_cases hi:i<D.length
 .rw[List.getElem?_range hi];by_cases hs:i∈S
  .by_cases he:i=s
   .simp[he]
   .simp[hi,hs,he]
  .simp[hs]
 .have h1:(List.range D.length)[i]?=none:=qY (by simpa using hi);rw[h1,av (λh=>hi h.1)];simp[qY (show D.length<=i by omega)]
def CQ{D:List (List Nat)}{S:List Nat}{s i:Nat}(h:i∉S\/i=s):(pH D S s).getD i []=D.getD i []:=by
 rw[BQ,av];rintro⟨_,h1,h2⟩;exact h.elim (λh=>h h1) h2
def uw{D:List (List Nat)}{S:List Nat}{s:Nat}{L:List Nat}(hp:s∈L):dB (pH D S s) L=dB D L:=by
 unfold dB;rw[C1];refine List.filter_congr λi hi=>?_;rw[BQ];split
 .simp[hp]
 .rfl
def vM{l:List az}{D:List (List Nat)}{S:List Nat}{s:Nat}{K:St->Prop}:∀(f:Nat) (L:List Nat) (y:St),s∈L->iQ P l (pH D S s) K f L y->iQ P l D K f L y
 |0,L,y,hp,h=>⟨by rw[<-uw hp];exact h.1,h.2⟩
 |f+1,L,y,hp,h=>by
  unfold iQ at h|-;rw[uw hp]at h;cases hr:dB D L with
  |nil=>rw[hr]at h;exact h
  |cons a r=>
   rw[hr]at h;refine rX λi hi=>?_;obtain⟨ins,h1,h2⟩:=pE h i hi;exact⟨ins,h1,TC.mono (λx hx=>vM f _ x (by simp[hp]) hx) h2⟩
def zw{l:List az}{K:St->Prop}{b:List Nat}:∀{a:List Nat},RE P l K (a++b)=RE P l (RE P l K b) a
 |[]=>rfl
 |m::a=>by
  funext x;rw[List.cons_append,RE,RE,zw]
def p9{l:List az}{Yu:List (List Nat)}{b:List Nat}:∀{a done:List Nat},dC l Yu done (a++b)=dC l Yu done a++dC l Yu (done++a) b
 |[],done=>by simp[dC]
 |e::a,done=>by
  rw[List.cons_append,dC,dC,p9];simp
def RE.mono{l:List az}{K K':St->Prop}(hk:∀x,K x->K' x):∀{a:List Nat} {x:St},RE P l K a x->RE P l K' a x
 |[],x,h=>hk x h
 |m::a,x,h=>by
  rw[RE]at h|-;cases hm:l[m/2]? with
  |none=>rw[hm]at h;exact h.elim
  |some i=>
   rw[hm]at h;simp only at h|-;split at h<;>rename_i he
   .rw[ar he];exact TC.mono (λx hx=>RE.mono hk hx) h
   .rw[av he];exact⟨h.1,RE.mono hk h.2⟩
structure FN(l:List az)(D Yu:List (List Nat))(pre tail S:List Nat)(befs:Nat->List (List Nat)):Prop where
 e:EOkW l D Yu (pre++tail)
 effs:∀a b x y,pre++tail=a++b->x∈a->y∈b->x∈pre->cY l Yu x=true->x∈ep Yu y
 sub:∀s∈S,s∈tail
 some:∃s,s∈S
 later:∀i∈tail,i∉S->∃s∈S,s∈ep Yu i
 agree:∀s∈S,∀i∈pre,cY l (befs s) i=cY l Yu i
section
variable {l:List az} {D Yu:List (List Nat)} {pre tail S:List Nat} {befs:Nat->List (List Nat)} {K:St->Prop} {Ks:Nat->St->Prop} (hF:FN l D Yu pre tail S befs)
include hF
def kI.TA{L:List Nat}{y:St}:∀{rest done:List Nat} {x:St},kI P l D Yu pre K L y done rest x->
 ∃done' rest' x',kI P l D Yu pre K L y done' rest' x'/\∀h r,rest'=h::r->cY l Yu h=true
 |[],done,x,h=>⟨done,[],x,h,by simp⟩
 |e::rest,done,x,h=>by
  have hE:=hF.e;cases heff:cY l Yu e with
  |true=>exact⟨done,e::rest,x,h,λa r he=>by cases he;exact heff⟩
  |false=>
   have hel:e<l.length:=hE.lt e (by rw[h.split];simp);obtain⟨hk,hself⟩:=gY heff hel (hE.oZ hel);have hnd:=(List.nodup_append.1 hE.nodup).1;rw[h.split]at hnd;have hed:e∉done:=λhm=>(List.nodup_append.1 hnd).2.2 e hm e (by simp) rfl;have heL:e∉L:=λhm=>hed (h.sub e hm);have hgo:=h.go;rw[dC,GF hel,GX,av (by simp[heff]),kW]at hgo;have hT:T P (bg l e) x (RE P l K (dC l Yu (done++[e]) rest)):=by
    rcases hgo with hgo|⟨_,hgo⟩
    .exact hgo
    .exfalso;revert hgo hk;generalize (bg l e).op=op;intro hk hgo;split at hgo
     .simp[aX]at hk
     .exact hgo
   obtain⟨v,hv,hgo'⟩:=(bY (by simp[fq,hk])).1 hT;refine kI.TA (rest:=rest) (done:=done++[e]) (x:=⟨aN x.s (bg l e).dst v,x.U⟩) ⟨by rw[h.split];simp,λi hi=>by simp[h.sub i hi],h.nodup,h.closed,λi hi hie=>?_,h.store,λd hd=>?_,λi hi hiL=>?_,hgo'⟩
   .rcases db.1 hi with hi|hi
    .exact h.effs i hi hie
    .simp only[eu]at hi;rw[hi,heff]at hie;cases hie
   .have h1:=h.slot d λi hi hiL=>hd i (by simp[hi]) hiL;have h2:=hd e (by simp) heL;rw[h1];simp only;cases hde:(bg l e).dst with
    |none=>rfl
    |some d'=>
     rw[hde]at h2;simp only[aN];rw[av (λe'=>h2 (by rw[e']))]
   .by_cases hie:i=e
    .subst hie;unfold QYd;cases hd:(bg l i).dst with
     |none=>exact⟨v,hv⟩
     |some d=>
      simp only;have e1:aN x.s (some d) v d=v:=by simp[aN]
      rw[e1];exact(fF (λt ht=>by cases ht;exact hself d hd)).2 hv
    .have O':i∈done:=by
      rcases db.1 hi with hi|hi
      .exact hi
      .simp only[eu]at hi;exact absurd hi hie
     have hil:i<l.length:=hE.lt i (by rw[h.split];simp[O']);refine u6 hE hil hel hie (λd hd hu=>?_) (λv hv=>hv) (h.lag i O' hiL);rcases hE.anti i e hil hel hie d hd hu with h1|⟨h1,_⟩
     .obtain⟨a,b,hab⟩:=List.append_of_mem O';have h2:=hE.oH (a:=a) (j:=i) (b:=b++e::rest++tail) (by rw[h.split,hab];simp) e h1;exact hed (by rw[hab];simp[h2])
     .rw[heff]at h1;cases h1
def ER(hH:∀s∈S,∀(f:Nat) (L:List Nat) (y:St) (done rest:List Nat) (x:St),f+L.length=l.length->kI P l (pH D S s) (befs s) pre (Ks s) L y done rest x->iQ P l (pH D S s) K f L y):
 ∀(f:Nat) (L:List Nat) (y:St) (done rest:List Nat) (x:St),f+L.length=l.length->(∀s∈S,s∉L)->kI P l D Yu pre (λx=>∀s∈S,Ks s x) L y done rest x->iQ P l D K f L y:=by
 have hE:=hF.e;obtain⟨s0,YT⟩:=hF.some;have L':∀s∈S,s<l.length:=λs hs=>hE.lt s (by simp[hF.sub s hs]);have hpre:∀s∈S,s∉pre:=λs hs hm=>(List.nodup_append.1 hE.nodup).2.2 s hm s (hF.sub s hs) rfl;intro f
 induction f with
 |zero=>
  intro L y done rest x hf hSL h;exact absurd ((wL l.length L h.nodup λi hi=>hE.lt i (by rw[h.split];simp[h.sub i hi])).2 (by omega) s0 (L' s0 YT)) (hSL s0 YT)
 |succ f ih=>
  intro L y done rest x hf hSL h;obtain⟨done,rest,x,h,hhead⟩:=kI.TA hF h;have hnd:=(List.nodup_append.1 hE.nodup).1;rw[h.split]at hnd;have hdp:∀i∈done,i∈pre:=λi hi=>by rw[h.split];simp[hi]
  have Zj:∀m∈L,∀d∈D.getD m [],d∈L:=h.closed;have hclS:∀s,∀m∈L,∀d∈(pH D S s).getD m [],d∈L:=λs m hm d hd=>by
   rw[CQ (.inl λhs=>hSL m hs hm)]at hd;exact h.closed m hm d hd
  have take:rest=[]->∀s∈S,iQ P l (pH D S s) K (f+1) L y:=λhr s hs=>by
   subst hr;have hdp':pre=done:=by rw[h.split];simp
   refine hH s hs (f+1) L y done [] x hf ⟨by rw[hdp'];simp,h.sub,h.nodup,hclS s,λi hi hie=>h.effs i hi (by rw[<-hF.agree s hs i (hdp i hi)];exact hie),h.store,h.slot,h.lag,?_⟩;exact h.go s hs
  have key:vF P l (iQ P l D K f) L y (dB D L):=by
   refine rX λi hi=>?_;have hi0:=hi;obtain⟨hil,hiL,hdep⟩:=vK hi;rw[hE.dlen]at hil;by_cases hiS:i∈S
   .have hm:i∈dB (pH D S i) L:=by
     unfold dB;refine sx.2 ⟨by rw[C1,hE.dlen];simpa using hil,?_⟩;rw[CQ (.inr rfl)];exact(sx.1 hi).2
    have hrest:rest=[]:=by
     cases hrr:rest with
     |nil=>rfl
     |cons a rr=>
      exfalso;have ha:=hhead a rr hrr;have hapre:a∈pre:=by rw[h.split,hrr];simp
      have hb:a∈ep Yu i:=hF.effs pre tail a i rfl hapre (hF.sub i hiS) hapre ha;obtain⟨pa,pb,hpe⟩:=List.append_of_mem (hE.mem i hil);have haL:a∈L:=hE.closed Zj hE.mem (pa.length+1) pa i pb (by omega) hpe (λd hd=>hdep d hd) a hb;rw[hrr]at hnd;exact(List.nodup_append.1 hnd).2.2 a (h.sub a haL) a (by simp) rfl
    have h1:=take hrest i hiS;unfold iQ at h1;cases hr:dB (pH D S i) L with
    |nil=>rw[hr]at hm;cases hm
    |cons a r=>
     rw[hr]at h1 hm;obtain⟨ins,g1,g2⟩:=pE h1 i hm;exact⟨ins,g1,TC.mono (λx hx=>vM f _ x (by simp) hx) g2⟩
   refine⟨bg l i,by simp[bg,Zq6 hil],?_⟩;obtain⟨pa,pb,hpe⟩:=List.append_of_mem (hE.mem i hil);have hbefL:∀j∈ep Yu i,j∈L:=hE.closed Zj hE.mem (pa.length+1) pa i pb (by omega) hpe hdep;have huses:∀u∈(bg l i).mF,x.s u=y.s u:=λu hu=>(h.slot u λj hj hjL hd=>by
    have hjl:j<l.length:=hE.lt j (by simp[hdp j hj]);by_cases hji:j=i
    .subst hji;cases hje:cY l Yu j with
     |true=>exact hjL (h.effs j hj hje)
     |false=>exact(gY hje hjl (hE.oZ hjl)).2 u hd hu
    .rcases hE.anti i j hil hjl (λe=>hji e.symm) u hd hu with h1|⟨h1,_⟩
     .exact hjL (hbefL j h1)
     .exact hjL (h.effs j hj h1)).symm
   by_cases O':i∈done
   .have hie:cY l Yu i=false:=by
     cases hie:cY l Yu i with
     |false=>rfl
     |true=>exact absurd (h.effs i O' hie) hiL
    obtain⟨hk,_⟩:=gY hie hil (hE.oZ hil);have hq:=h.lag i O' hiL;obtain⟨v,hv,hvd⟩:∃v,QY P (bg l i) x.s x.U v/\∀d,(bg l i).dst=some d->x.s d=v:=by
     unfold QYd at hq;cases hd:(bg l i).dst with
     |none=>rw[hd]at hq;obtain⟨v,hq⟩:=hq;exact⟨v,hq,by simp⟩
     |some d=>rw[hd]at hq;exact⟨_,hq,λd' e=>by cases e;rfl⟩
    refine .inl ((bY (by simp[fq,hk])).2 ⟨v,?_,?_⟩)
    .rw[h.store];exact DJ huses hv
    .refine ih (i::L) _ done rest x (by simp only[ZR];omega) (λs hs hm=>(cm.1 hm).elim (λe=>hiS (e▸hs)) (hSL s hs)) ⟨h.split,λj hj=>?_,List.nodup_cons.2 ⟨hiL,h.nodup⟩,λm hm d hd=>?_,λj hj hje=>by simp[h.effs j hj hje],h.store,λd hd=>?_,λj hj hjL=>h.lag j hj (λhm=>hjL (by simp[hm])),h.go⟩
     .rcases cm.1 hj with rfl|hj
      .exact O'
      .exact h.sub j hj
     .rcases cm.1 hm with rfl|hm
      .simp[hdep d hd]
      .simp[h.closed m hm d hd]
     .simp only;by_cases hdi:(bg l i).dst=some d
      .rw[hdi];simp only[aN];rw[ar trivial];exact(hvd d hdi).symm
      .have h1:=h.slot d λj hj hjL=>by
        by_cases hji:j=i
        .rw[hji];exact hdi
        .exact hd j hj (by simp[hji,hjL])
       rw[<-h1];cases hde:(bg l i).dst with
       |none=>rfl
       |some d'=>
        rw[hde]at hdi;simp only[aN];rw[av (λe'=>hdi (by rw[e']))]
   .have hir:i∈rest++tail:=by
     have:=hE.mem i hil;rw[h.split,lN]at this;exact(db.1 this).resolve_left O'
    obtain⟨hd0,rr,rfl⟩:∃a r,rest=a::r:=by
     cases rest with
     |nil=>
      exfalso;rw[kW]at hir;obtain⟨s,hs,hsb⟩:=hF.later i hir hiS;exact hSL s hs (hbefL _ hsb)
     |cons a r=>exact⟨a,r,rfl⟩
    have heff:=hhead hd0 rr rfl;have hh0:hd0∉done:=λhm=>(List.nodup_append.1 hnd).2.2 hd0 hm hd0 (by simp) rfl;have hih:i=hd0:=by
     rcases cm.1 (show i∈hd0::(rr++tail)from hir)with e|hir
     .exact e
     .exfalso;have:=hF.effs (done++[hd0]) (rr++tail) hd0 i (by rw[h.split];simp) (by simp) hir (by rw[h.split];simp) heff;exact hh0 (h.sub _ (hbefL _ this))
    subst hih;have hgo:=h.go;rw[show dC l Yu done (i::rr)=2*i::(GX l Yu done i++dC l Yu (done++[i]) rr)from rfl,GF hil]at hgo;refine Di huses h.store.symm (λr Z' hK=>?_) hgo;rw[GX,ar heff]at hK;obtain⟨hck,hgo'⟩:=uZ (λk=>!(cY l Yu k)&&(!(lD (bg l k).op)&&!((ep Yu i).contains k))) (λj hj=>hE.lt j (by simp[hdp j hj])) hK;refine ih (i::L) _ (done++[i]) rr ⟨aN x.s (bg l i).dst r,Z'⟩ (by simp only[ZR];omega) (λs hs hm=>(cm.1 hm).elim (λe=>hiS (e▸hs)) (hSL s hs)) ⟨by rw[h.split];simp,λj hj=>?_,List.nodup_cons.2 ⟨hiL,h.nodup⟩,λm hm d hd=>?_,λj hj hje=>?_,rfl,λd hd=>?_,λj hj hjL=>?_,hgo'⟩
    .rcases cm.1 hj with rfl|hj
     .simp
     .simp[h.sub j hj]
    .rcases cm.1 hm with rfl|hm
     .simp[hdep d hd]
     .simp[h.closed m hm d hd]
    .rcases db.1 hj with hj|hj
     .simp[h.effs j hj hje]
     .simp only[eu]at hj;simp[hj]
    .have h1:(bg l i).dst=some d\/y.s d=x.s d:=by
      by_cases hdi:(bg l i).dst=some d
      .exact .inl hdi
      .exact .inr (h.slot d λj hj hjL=>hd j (by simp[hj]) (by
        simp only[cm,not_or];exact⟨λe=>O' (e▸hj),hjL⟩))
     simp only;cases hde:(bg l i).dst with
     |none=>rw[hde]at h1;exact h1.resolve_left (by simp)
     |some d'=>
      simp only[aN];split
      .rfl
      .rename_i YF;rw[hde]at h1;exact h1.resolve_left (λe=>YF (by cases e;rfl))
    .have hjd:j∈done:=by
      rcases db.1 hj with hj|hj
      .exact hj
      .simp only[eu]at hj;exact absurd (by simp[hj]) hjL
     have hjL':j∉L:=λhm=>hjL (by simp[hm]);have hjl:j<l.length:=hE.lt j (by simp[hdp j hjd]);have hji:j≠i:=λe=>O' (e▸hjd);have hje:cY l Yu j=false:=by
      cases hje:cY l Yu j with
      |false=>rfl
      |true=>exact absurd (h.effs j hjd hje) hjL'
     cases hsf:lD (bg l j).op with
     |true=>
      refine u6 hE hjl hil hji (λd hd hu=>?_) (λv hv=>ku hsf hv) (h.lag j hjd hjL');rcases hE.anti j i hjl hil hji d hd hu with h1|⟨_,h1⟩
      .obtain⟨a,b,hab⟩:=List.append_of_mem hjd;have h2:=hE.oH (a:=a) (j:=j) (b:=b++i::rr++tail) (by rw[h.split,hab];simp) i h1;exact O' (by rw[hab];simp[h2])
      .exact hjL' (hbefL j h1)
     |false=>
      refine hck j hjd ?_;simp only[hje,hsf,Bool.not_false,Bool.true_and,Bool.not_eq_true'];cases hc:(ep Yu i).contains j with
      |false=>rfl
      |true=>exact absurd (hbefL j (List.contains_iff_mem.1 hc)) hjL'
  cases hr:dB D L with
  |cons a r=>unfold iQ;rw[hr]at key|-;exact key
  |nil=>
   exfalso;have first:∀(a b:List Nat),pre++tail=a++b->(∀j∈a,j∈L)->(∃i∈b,i∉L)->∃a' e b',pre++tail=a'++e::b'/\(∀j∈a',j∈L)/\e∉L:=by
    intro a b
    induction b generalizing a with
    |nil=>rintro _ _ ⟨i,h,_⟩;cases h
    |cons e b ihb=>
     intro he ha hx;by_cases heL:e∈L
     .refine ihb (a++[e]) (by rw[he];simp) (λj hj=>?_) ?_
      .rcases db.1 hj with hj|hj
       .exact ha j hj
       .simp only[eu]at hj;rw[hj];exact heL
      .obtain⟨i,hi,hiL⟩:=hx;rcases cm.1 hi with rfl|hi
       .exact absurd heL hiL
       .exact⟨i,hi,hiL⟩
     .exact⟨a,e,b,he,ha,heL⟩
   obtain⟨a,e,b,he,ha,heL⟩:=first [] (pre++tail) rfl (by simp) ⟨s0,by simp[hF.sub s0 YT],hSL s0 YT⟩
   have hel:e<l.length:=hE.lt e (by rw[he];simp);have:e∈dB D L:=by
    unfold dB;refine sx.2 ⟨by simp[hE.dlen,hel],?_⟩;simp only[Ba,Bool.not_eq_true',ed];exact⟨by simpa using heL,λd hd=>List.contains_iff_mem.2 (ha d (hE.ahead a e b he d hd))⟩
   rw[hr]at this;cases this
end
inductive PT where
 |leaf (Yu:List (List Nat)) (r:List Nat)
 |fork (Yu:List (List Nat)) (m:List Nat) (S:List Nat) (kids:List PT)
def PT.Yu:PT->List (List Nat)
 |.leaf b _=>b
 |.fork b _ _ _=>b
def PT.ord:Nat->PT->List Nat
 |0,_=>[]
 |f+1,t=>match t with
  |.leaf _ r=>r
  |.fork _ m _ kids=>m++(match kids with
   |k::_=>PT.ord f k
   |[]=>[])
def F9(g:Nat->PT->Bool):List Nat->List PT->Bool
 |[],[]=>true
 |s::ss,t::ts=>g s t&&F9 g ss ts
 |_,_=>false
def vX{g:Nat->PT->Bool}:∀{S:List Nat} {ts:List PT},F9 g S ts=true->∀s∈S,∃t∈ts,g s t=true
 |[],[],_,s,hs=>by cases hs
 |a::S,t::ts,h,s,hs=>by
  simp only[F9,Ba]at h;rcases cm.1 hs with rfl|hs
  .exact⟨t,by simp,h.1⟩
  .obtain⟨t',h1,h2⟩:=vX h.2 s hs;exact⟨t',by simp[h1],h2⟩
def Om(l:List az)(D Yu:List (List Nat))(pre tail S:List Nat):Bool:=
 NW l D Yu (pre++tail)&&(oD (λa b=>!(pre.contains a)||(!(cY l Yu a)||(ep Yu b).contains a)) (pre++tail)&&
 (S.all tail.contains&&(!S.isEmpty&&tail.all λi=>S.contains i||S.any λs=>(ep Yu i).contains s)))
def Ej(l:List az):Nat->List (List Nat)->List Nat->PT->Bool
 |0,_,_,_=>false
 |f+1,D,pre,t=>match t with
  |.leaf Yu r=>eOk l D Yu (pre++r)
  |.fork Yu m S kids=>Om l D Yu (pre++m) (match kids with
    |k::_=>PT.ord f k
    |[]=>[]) S&&F9 (λs k=>((pre++m).all λi=>cY l k.Yu i==cY l Yu i)&&Ej l f (pH D S s) (pre++m) k) S kids
def GT(P:Program)(l:List az)(K:St->Prop):Nat->List Nat->PT->St->Prop
 |0,_,_,_=>False
 |f+1,pre,t,x=>match t with
  |.leaf Yu r=>RE P l K (dC l Yu pre r) x
  |.fork Yu m _ kids=>RE P l (λx=>∀k∈kids,GT P l K f (pre++m) k x) (dC l Yu pre m) x
def kI.more{l:List az}{D Yu:List (List Nat)}{pre m:List Nat}{K:St->Prop}{L:List Nat}{y:St}{done rest:List Nat}{x:St}(h:kI P l D Yu pre (RE P l K (dC l Yu pre m)) L y done rest x):
 kI P l D Yu (pre++m) K L y done (rest++m) x:=by
 refine⟨by rw[h.split];simp,h.sub,h.nodup,h.closed,h.effs,h.store,h.slot,h.lag,?_⟩;rw[p9,zw,<-h.split];exact h.go
def kI.mono{l:List az}{D Yu:List (List Nat)}{pre:List Nat}{K K':St->Prop}(hk:∀x,K x->K' x){L:List Nat}{y:St}{done rest:List Nat}{x:St}(h:kI P l D Yu pre K L y done rest x):
 kI P l D Yu pre K' L y done rest x:=⟨h.split,h.sub,h.nodup,h.closed,h.effs,h.store,h.slot,h.lag,RE.mono hk h.go⟩
def FG{l:List az}{K:St->Prop}:∀(fu:Nat) (D:List (List Nat)) (pre:List Nat) (t:PT),Ej l fu D pre t=true->∀(f:Nat) (L:List Nat) (y:St) (done rest:List Nat) (x:St),f+L.length=l.length->
 (∀i∈L,i∈pre)->kI P l D t.Yu pre (GT P l K fu pre t) L y done rest x->iQ P l D K f L y
 |0,_,_,_,h,_,_,_,_,_,_,_,_,_=>by cases h
 |fu+1,D,pre,t,h,f,L,y,done,rest,x,hf,hLp,hl=>by
  cases t with
  |leaf Yu r=>exact qW (BR h) f L y done (rest++r) x hf (kI.more hl)
  |fork Yu m S kids=>
   simp only[Ej,Ba]at h;obtain⟨h1,h2⟩:=h;generalize (match kids with
    |k::_=>PT.ord fu k
    |[]=>[])=tail at h1
   simp only[Om,Ba]at h1;obtain⟨g1,g2,g3,g4,g5⟩:=h1;have hk:=vX h2;have hW:=zc g1;have hF:∀kid:Nat->PT,(∀s∈S,((pre++m).all λi=>cY l (kid s).Yu i==cY l Yu i)=true)->FN l D Yu (pre++m) tail S (λs=>(kid s).Yu):=λkid hkid=>by
    refine⟨hW,λa b u v he hu hv hup hue=>?_,λs hs=>by simpa using ed.1 g3 s hs,?_,λi hi hiS=>?_,λs hs i hi=>by simpa using ed.1 (hkid s hs) i hi⟩
    .rw[he]at g2;have:=oT g2 hu hv;simp only[kU,Bool.not_eq_true',List.contains_iff_mem,hue,Bool.true_eq_false,false_or]at this;rcases this with h|h
     .have hc:(pre++m).contains u=true:=List.contains_iff_mem.2 hup;rw[hc]at h;cases h
     .exact h
    .cases S with
     |nil=>simp at g4
     |cons s S=>exact⟨s,by simp⟩
    .have:=ed.1 g5 i hi;simp only[kU,List.contains_iff_mem,Ra]at this;exact this.resolve_left hiS
   have hch:∀s,∃k:PT,s∈S->(k∈kids/\(((pre++m).all λi=>cY l k.Yu i==cY l Yu i)=true/\Ej l fu (pH D S s) (pre++m) k=true)):=λs=>by
    by_cases hs:s∈S
    .obtain⟨k,h3,h4⟩:=hk s hs;simp only[Ba]at h4;exact⟨k,λ_=>⟨h3,h4⟩⟩
    .exact⟨.leaf [] [],λh=>absurd h hs⟩
   obtain⟨kid,hkid⟩:=Classical.axiomOfChoice hch;have hFN:=hF kid λs hs=>(hkid s hs).2.1;have hSpre:∀s∈S,s∉pre++m:=λs hs hm=>(List.nodup_append.1 hW.nodup).2.2 s hm s (hFN.sub s hs) rfl;refine ER (Ks:=λs=>GT P l K fu (pre++m) (kid s)) hFN (λs hs f L y done rest x hf hl=>?_) f L y done (rest++m) x hf (λs hs hm=>hSpre s hs (List.mem_append_left _ (hLp s hm))) ?_
   .refine FG fu _ _ _ (hkid s hs).2.2 f L y done rest x hf (λi hi=>?_) hl;have:=hl.sub i hi;rw[hl.split];simp[this]
   .exact kI.mono (λx hx s hs=>hx (kid s) (hkid s hs).1) (kI.more hl)
def ab.D5(hm:P.follows .mixedOrders=true){l:List az}{Yo:List (List Nat)}(fu:Nat)(t:PT)(hB:Ej l fu Yo [] t=true)(h:GT P l (λx=>ab P n k x Q) fu [] t st):ab P n (.code (.regA l Yo)::k) st Q:=by
 refine ab.Ox hm (FG fu Yo [] t hB l.length [] st [] [] st (by simp) (by simp) ⟨rfl,by simp,List.nodup_nil,by simp,by simp,rfl,λ_ _=>rfl,by simp,?_⟩);exact h
variable {P:Program} {l:List az} {K:St->Prop} {f:Nat} {pre m S r its:List Nat} {Yu:List (List Nat)} {a b c:PT} {x:St}
def GT.gE(h:dC l Yu pre r=its)(hg:RE P l K its x):GT P l K (f+1) pre (.leaf Yu r) x:=by subst h;exact hg
def GT.oQ(h:dC l Yu pre m=its)(hg:RE P l (λx=>GT P l K f (pre++m) a x/\GT P l K f (pre++m) b x) its x):GT P l K (f+1) pre (.fork Yu m S [a,b]) x:=by
 subst h;refine RE.mono (λx hx k hk=>?_) hg;simp only[cm,List.not_mem_nil,or_false]at hk;rcases hk with rfl|rfl
 .exact hx.1
 .exact hx.2
def GT.Of(h:dC l Yu pre m=its)(hg:RE P l (λx=>GT P l K f (pre++m) a x/\GT P l K f (pre++m) b x/\GT P l K f (pre++m) c x) its x):GT P l K (f+1) pre (.fork Yu m S [a,b,c]) x:=by
 subst h;refine RE.mono (λx hx k hk=>?_) hg;simp only[cm,List.not_mem_nil,or_false]at hk;rcases hk with rfl|rfl|rfl
 .exact hx.1
 .exact hx.2.1
 .exact hx.2.2
open Go.Proofs Go.Proofs.Tryz
def qm(fs:List U')(y:Int):Int:=if(dM wq fs).2 then max y (dM wq fs).1 else y
def my(fs:List U')(f:U')(y:Int)(s:ZC):Int:=rN fs f.w f.h s (qm fs y)
def rY(fs:List U')(f:U')(y:Int)(s:ZC):Int:=
 let b:=dJ fs (my fs f y s) f.h s
 if f.side=1 then b.a else max b.a (b.b-f.w)
def ji(fs:List U')(f:U')(y:Int)(s:ZC):U':={ f with x:=rY fs f y s,y:=my fs f y s }
def sX(fs:List U')(f:U')(y:Int)(s:ZC):List U':=fs++[ji fs f y s]
def Nv{fs:List U'}{y:Int}(M':∀f∈fs,f.ok)(hy:Bq2 y):Bq2 (qm fs y):=by
 unfold qm;split
 .rename_i h;obtain⟨f,hf,h1,_⟩:=mP h;obtain⟨_,⟨h3,h4⟩,_⟩:=M' f hf;obtain⟨g1,g2⟩:=hy;rw[h1];simp only[wq];exact⟨by omega,by omega⟩
 .exact hy
def Tc(fs:List U')(f:U')(y:Int)(s:ZC)(hl:fs.length<=1000000)(M':∀f∈fs,f.ok)(hy:Bq2 y)(hh:Bq f.h)(hw:Bq f.w)(ZV:Bq2 s.a/\Bq2 s.b):
 aJ prog 270 [aH fs,aK f,vI y,bf s] (.P' [vI (rY fs f y s),vI (my fs f y s)]):=λU=>by
 refine V3.r (by simp[Q8]) ?_;have hs:=aa.refl U;refine ab.mix 14 ?_;apply sR;simp only[go_sem,seval,Q8,aK,bf];refine ad λi5 Z5 s5 a5 f5=>?_;replace hs:=hs.trans s5;simp only[go_sem,seval];refine ad λi7 Z7 s7 a7 f7=>?_;replace a5:=s7 _ _ a5;replace hs:=hs.trans s7;simp only[go_sem,seval];refine ab.ay rfl rfl rfl (Uu fs hl M' _) ?_;have hty:=Nv (y:=y) M' hy;have hdn:=NY fs f (qm fs y) s hl M' hty hh ZV;have hbo:=nV (y:=my fs f y s) (high:=f.h) M' ZV;obtain⟨z,hz⟩:∃z,z=my fs f y s:=⟨_,rfl⟩
 have hz2:rN fs f.w f.h s (qm fs y)=z:=hz.symm;rw[hz2]at hdn;rw[<-hz]at hbo;obtain⟨b,hb⟩:∃b,b=dJ fs z f.h s:=⟨_,rfl⟩
 have hx:rY fs f y s=if f.side=1 then b.a else max b.a (b.b-f.w):=by unfold rY;rw[<-hz,<-hb]
 rw[<-hz,hx];rw[<-hb]at hdn hbo;obtain⟨hb1,Zu,hb3,hb4⟩:-2305843009213693952<=b.a/\b.a<=2305843009213693952/\-2305843009213693952<=b.b/\b.b<=2305843009213693952:=⟨hbo.1.1,hbo.1.2,hbo.2.1,hbo.2.2⟩
 obtain⟨hw1,hw2⟩:=hw;cases ht:(dM wq fs).2
 .have hty2:qm fs y=y:=by unfold qm;rw[ht];rfl
  rw[hty2]at hdn;apply sR;simp only[go_sem,seval,a7,a5,dF,dG];refine ab.ay rfl rfl rfl (hdn _) ?_;apply sR;simp only[go_sem,seval,bf];refine ad λi12 Z12 s12 a12 f12=>?_;have n512:=ao a5 f12;replace a5:=s12 _ _ a5;have n712:=ao a7 f12;replace a7:=s12 _ _ a7;have z12:=hs.none f12;replace hs:=hs.trans s12;by_cases hsd:f.side=1
  .have q:(f.side=1)=True:=Yi hsd;rw[ar hsd];simp only[go_sem,seval,a12,a5,q,ae n512];exact ak.pure (hs.ax z12) rfl
  .have q:(f.side=1)=False:=T' hsd;rw[av hsd];have r1:Yr .i64 (b.b-f.w):=ai;simp only[go_sem,seval,a12,a5,q,r1,dc,ae n512];exact ak.pure (hs.ax z12) rfl
 .have hty2:qm fs y=max y (dM wq fs).1:=by unfold qm;rw[ht];rfl
  rw[hty2]at hdn;apply sR;simp only[go_sem,seval,a7,a5,dF,dG,dc];refine ab.ay rfl rfl rfl (hdn _) ?_;apply sR;simp only[go_sem,seval,bf];refine ad λi12 Z12 s12 a12 f12=>?_;have n512:=ao a5 f12;replace a5:=s12 _ _ a5;have n712:=ao a7 f12;replace a7:=s12 _ _ a7;have z12:=hs.none f12;replace hs:=hs.trans s12;by_cases hsd:f.side=1
  .have q:(f.side=1)=True:=Yi hsd;rw[ar hsd];simp only[go_sem,seval,a12,a5,q,ae n512];exact ak.pure (hs.ax z12) rfl
  .have q:(f.side=1)=False:=T' hsd;rw[av hsd];have r1:Yr .i64 (b.b-f.w):=ai;simp only[go_sem,seval,a12,a5,q,r1,dc,ae n512];exact ak.pure (hs.ax z12) rfl
open Go.Proofs Go.Proofs.Tryz
def cB(p:Int->Bool):List Int->Int
 |[]=>-1
 |x::l=>if p x then 0 else if cB p l<0 then -1 else cB p l+1
def rj(p:Int->Bool)(i:Nat)(l:List Int):Int:=if cB p l<0 then -1 else cB p l+i
def je(p:Int->Bool):∀l,-1<=cB p l
 |[]=>by simp[cB]
 |x::l=>by
  have:=je p l;simp only[cB];split
  .omega
  .split<;>omega
def Hb(p:Int->Bool)(l:List Int):cB p l=rj p 0 l:=by
 have:=je p l;unfold rj;split<;>omega
def oI{U:af}{sv:V}{l:List Int}{f:FuncId}{caps:List V}{p:Int->Bool}(hr:Reads U 1 false sv (l.map vI))(hl:l.length<=200000000000000)
 (hf:∀n∈l,au prog f (vI n::caps) U λr Z'=>r=.bool (p n)/\Z'=U):
 au prog 212 [sv,.fn f caps] U λr Z'=>r=vI (cB p l)/\Z'=U:=by
 have hlen:cU false sv=some (vI (l.length:Int)):=by simpa using hr.1
 refine Xh.r (by simp[PJ]) ?_;apply sR;simp only[go_sem,seval,PJ,hlen];refine ab.loop (λm st=>∃i:Nat,i<=l.length/\m=l.length-i/\cB p l=rj p i (l.drop i)/\st.U=U/\st.s 0=sv/\st.s 1=.fn f caps/\st.s 7=vI l.length/\st.s 8=vI i) l.length ?_ ?_
 .exact⟨0,by omega,by omega,Hb p l,rfl,rfl,rfl,rfl,rfl⟩
 .rintro m ⟨s,Z'⟩ ⟨i,hi,rfl,hp,YK,h0,h1,h7,h8⟩;simp only at h0 h1 h7 h8 YK;subst YK;apply sR;simp only[go_sem,seval,h0,h1,h7,h8];constructor
  .intro L';have hlt':i<l.length:=by omega
   have hd:l.drop i=l[i]::l.drop (i+1):=ie hlt';obtain⟨pp,e1,e2⟩:=hr.2 i (vI l[i]) (by simp[hlt']);simp only[go_sem,seval,e1,e2];refine ab.ay rfl rfl rfl (hf l[i] (Zw hlt')) ?_;apply sR;simp only[go_sem,seval];cases hpx:p l[i]
   .simp only[go_sem,seval,h8];refine⟨ai,_,?_,i+1,by omega,rfl,?_,h0,h1,h7,?_⟩
    .omega
    .rw[hp,hd];simp only[rj,cB,hpx,eT,if_false];have:=je p (l.drop (i+1))
     repeat' split
     all_goals omega
    .simp
   .simp only[go_sem,seval];refine ak.same ?_;rw[hp,hd];simp[rj,cB,hpx]
  .intro hge;have:i=l.length:=by omega
   refine ak.same ?_;rw[hp,this,ym];rfl
open Go.Proofs Go.Proofs.Tryz
def Nd.ok(x:Nd):Bool:=
 if x.kind=1 then x.st.ok&&decide (x.line=0)&&decide (x.space=0)&&decide (x.words.length=0)&&decide (x.side=0)&&decide (x.w=0)&&decide (x.h=0)
 else if x.st≠Sty.zero then false
 else if x.kind=2 then x.words.all (aY · 1 mx)&&decide (0<x.words.length)&&aY x.line 1 mx&&aY x.space 0 mx&&decide (x.side=0)&&decide (x.w=0)&&decide (x.h=0)
 else decide (x.line=0)&&decide (x.space=0)&&decide (x.words.length=0)&&aY x.w 1 mx&&aY x.h 1 mx&&
  (decide (x.kind=3)&&decide (x.side=0)||decide (x.kind=4)&&aY x.side 1 2)
def fY(l:List Int):cU false (bh l)=some (.int .i64 l.length):=by simp[bh,cU]
def wW(b:Bool):V.bool b=V.bool (decide (b=true)):=by cases b<;>rfl
open Go.Proofs Go.Proofs.Tryz
def oN{U:af}{l:List Nd}{i:Nat}(h:i<l.length):bo U 20 (aI l) (.int .i64 i)=some (.rp (.agg (Nd.cells l[i]))):=by
 simp[aI,bo,h,jD]
def bQ(l:List Nd)(a e:Nat):Bool:=
 if _h:a<e then
  match l[a]? with
  |none=>false
  |some x=>if _hx:1<=x.size/\x.size<=(e:Int)-a then
     (decide (x.kind=1)||decide (x.size<=1))&&bQ l (a+1) (a+x.size.toNat)&&bQ l (a+x.size.toNat) e else false
 else true
termination_by e-a
decreasing_by all_goals omega
open Go.Proofs Go.Proofs.Tryz
def dV(l:List Nd):Prop:=l.length<=10000/\∀x∈l,x.words.length<=200000000000000
def Zk(l:List Nd):Bool:=l.all Nd.ok&&bQ l 0 l.length
open Go.Proofs Go.Proofs.Tryz
def jg(l:List Nd):∀(m a e:Nat),e-a<m->e<=l.length->bQ l a e=true->∀k,a<=k->(h:k<e)->(h2:k<l.length)->1<=l[k].size/\l[k].size<=(e:Int)-k/\(l[k].kind=1\/l[k].size<=1)
 |0,_,_,h,_,_=>by omega
 |m+1,a,e,hm,he,hr=>by
  intro k hk hke h2;have hae:a<e:=by omega
  have ha:a<l.length:=by omega
  rw[bQ,dif_pos hae]at hr;have hga:l[a]?=some l[a]:=by simp[ha]
  rw[hga]at hr;simp only at hr;split at hr
  .rename_i hx;simp only[Ba,kU,Zq9]at hr;obtain⟨⟨h3,h4⟩,h5⟩:=hr;by_cases hka:k=a
   .subst hka;exact⟨hx.1,hx.2,h3⟩
   .by_cases hin:k<a+l[a].size.toNat
    .obtain⟨g1,g2,g3⟩:=jg l m (a+1) (a+l[a].size.toNat) (by omega) (by omega) h4 k (by omega) hin h2;exact⟨g1,by omega,g3⟩
    .exact jg l m (a+l[a].size.toNat) e (by omega) he h5 k (by omega) hke h2
  .cases hr
structure Sm where
 (depth pieces nodes Yg:Int)
deriving DecidableEq
def Sm.cells(s:Sm):List V:=[vI s.depth,vI s.pieces,vI s.nodes,vI s.Yg]
def kM(a b:Int):Int:=min (a+b) 1099511627777
def jq(l:List Nd)(i:Nat):Nat->Int
 |0=>0
 |k+1=>jq l i k+(match l[k]? with
  |some y=>if y.kind=1/\(i:Int)<k+y.size then 1 else 0
  |none=>0)
def Ef(a b:Int):Nat->Int
 |0=>a
 |n+1=>kM (Ef a b n) b
def qt(l:List Nd)(i:Nat)(x:Nd)(s:Sm):Sm:=
 if x.kind=1 then{ s with depth:=max s.depth (jq l i (i+1)),Yg:=kM (kM (kM (kM (kM s.Yg x.st.top) x.st.YB) x.st.Yp) x.st.Yj) x.st.head }
 else if x.kind=2 then{ s with pieces:=s.pieces+x.words.length,Yg:=Ef s.Yg x.line x.words.length }
 else{ s with pieces:=s.pieces+1,Yg:=kM s.Yg x.h }
def gX(l:List Nd)(s:Sm):Nat->Sm
 |0=>s
 |i+1=>match l[i]? with
  |some x=>qt l i x (gX l s i)
  |none=>gX l s i
def jA(l:List Nd):Sm×Int:=if Zk l then(gX l ⟨0,0,l.length,0⟩ l.length,0)else(⟨0,0,0,0⟩,4)
def fO{a b:Int}(h1:0<=a/\a<=1099511627777)(h2:0<=b):0<=kM a b/\kM a b<=1099511627777:=by
 unfold kM;omega
def Gl{a b:Int}(h1:0<=a/\a<=1099511627777)(h2:0<=b):∀n,0<=Ef a b n/\Ef a b n<=1099511627777
 |0=>h1
 |n+1=>fO (Gl h1 h2 n) h2
def wx(l:List Nd)(i:Nat):∀k,0<=jq l i k/\jq l i k<=k
 |0=>by simp[jq]
 |k+1=>by
  have:=wx l i k;simp only[jq];split
  .split<;>omega
  .omega
def kY{x:Nd}(h:x.ok=true):(x.kind=1\/x.kind=2\/x.kind=3\/x.kind=4)/\0<=x.line/\x.line<=mx/\0<=x.h/\x.h<=mx/\
 (x.kind=1->(0<=x.st.top/\x.st.top<=mx)/\(0<=x.st.YB/\x.st.YB<=mx)/\(0<=x.st.Yp/\x.st.Yp<=mx)/\(0<=x.st.Yj/\x.st.Yj<=mx)/\(0<=x.st.head/\x.st.head<=mx)):=by
 unfold Nd.ok at h;split at h
 .rename_i hk;simp only[Sty.ok,aY,Ba,Zq9]at h|-;simp only[mx]at h|-;refine⟨.inl hk,by omega,by omega,by omega,by omega,λ_=>?_⟩;omega
 .split at h
  .cases h
  .split at h
   .rename_i h1 _ hk;simp only[aY,Ba,Zq9]at h|-;simp only[mx]at h|-;exact⟨.inr (.inl hk),by omega,by omega,by omega,by omega,λe=>absurd e h1⟩
   .rename_i h1 _ _;simp only[aY,Ba,kU,Zq9]at h|-;simp only[mx]at h|-;exact⟨by omega,by omega,by omega,by omega,by omega,λe=>absurd e h1⟩
def Sm.wF(s:Sm)(k:Int):Prop:=(0<=s.depth/\s.depth<=k)/\(0<=s.pieces/\s.pieces<=k*200000000000000)/\(0<=s.Yg/\s.Yg<=1099511627777)
def HS{l:List Nd}{i:Nat}{x:Nd}{s:Sm}(hx:x.ok=true)(hw:x.words.length<=200000000000000)(h:s.wF i):(qt l i x s).wF (i+1):=by
 obtain⟨h1,h2,h3⟩:=h;obtain⟨g1,g2,g3,g4,g5,g6⟩:=kY hx;unfold qt;split
 .rename_i hk;obtain⟨a1,a2,a3,a4,a5⟩:=g6 hk;have hd:=wx l i (i+1);refine⟨?_,?_,fO (fO (fO (fO (fO h3 a1.1) a2.1) a3.1) a4.1) a5.1⟩
  .simp only;omega
  .simp only;omega
 .split
  .refine⟨?_,?_,Gl h3 g2 _⟩
   .simp only;omega
   .simp only;omega
  .refine⟨?_,?_,fO h3 g4⟩
   .simp only;omega
   .simp only;omega
open Go.Proofs Go.Proofs.Tryz
def Sm.zero:Sm:=⟨0,0,0,0⟩
open Go.Proofs Go.Proofs.Tryz
def wi(p:Int->Bool):∀l,decide (cB p l>=0)=l.any p
 |[]=>by simp[cB]
 |x::l=>by
  have ih:=wi p l;simp only[cB,List.any_cons];have hg:=je p l;rw[<-ih,Bool.eq_iff_iff];simp only[Zq9,kU];split
  .rename_i h;simp[h]
  .rename_i h;simp only[h,eT,false_or];by_cases hx:cB p l<0
   .rw[ar hx];constructor<;>intro hh<;>simp at hh|-<;>omega
   .rw[av hx];constructor<;>intro hh<;>simp at hh|-<;>omega
def oR{U:af}{sv:V}{l:List Int}{f:FuncId}{caps:List V}{p:Int->Bool}(hr:Reads U 1 false sv (l.map vI))(hl:l.length<=200000000000000)
 (hf:∀n∈l,au prog f (vI n::caps) U λr Z'=>r=.bool (p n)/\Z'=U):
 au prog 257 [sv,.fn f caps] U λr Z'=>r=.bool (l.any p)/\Z'=U:=by
 refine Vw.r (by simp[Sx]) ?_;apply sR;simp only[go_sem,seval,Sx];refine ab.ay rfl rfl rfl (oI hr hl hf) ?_;apply sR;simp only[go_sem,seval];refine ak.same ?_;rw[<-wi]
def Ro{U:af}{id:Nat}{a b:Int}(h:U id=some ⟨301,2,[.agg [vI a,vI b]]⟩)(n:Int):
 au prog 258 [vI n,.ptr id 0 0] U λr Z'=>r=.bool (!aY n a b)/\Z'=U:=by
 refine Vr.r (by simp[Rq]) ?_;apply sR;simp only[go_sem,seval,Rq,h];refine And.intro (λh=>?_) (λh=>?_)
 .refine ak.same ?_;congr 1;simp only[aY];rw[<-decide_not,decide_eq_decide];omega
 .refine ak.same ?_;have:¬(n>=a/\n<=b):=by omega
  simp only[aY,this,decide_false,Bool.not_false]
def Reads.mono{U Z':af}{sz:Nat}{agg:Bool}{sv:V}{rows:List V}(h:aa U Z')(hr:Reads U sz agg sv rows):Reads Z' sz agg sv rows:=by
 refine⟨hr.1,λi v hv=>?_⟩;obtain⟨p,h1,h2⟩:=hr.2 i v hv;refine⟨p,?_,?_⟩
 .cases sv<;>simp only[bo,reduceCtorEq]at h1|-
  .exact h1
  .rename_i id off len;cases ho:U id with
   |none=>rw[ho]at h1;cases h1
   |some ob=>rw[ho]at h1;rw[h id ob ho];exact h1
 .cases p<;>simp only[bB,reduceCtorEq]at h2|-
  .rename_i id i k;cases ho:U id with
   |none=>rw[ho]at h2;cases h2
   |some ob=>rw[ho]at h2;rw[h id ob ho];exact h2
  .exact h2
def Oq{U:af}{sv:V}{l:List Int}{a b:Int}(hr:Reads U 1 false sv (l.map vI))(hl:l.length<=200000000000000):
 au prog 211 [.agg [vI a,vI b],sv] U λr Z'=>r=.bool (l.all λn=>aY n a b)/\Z'=U:=by
 refine W6.r (by simp[RB]) ?_;apply sR;simp only[go_sem,seval,bD,RB];intro id O';refine ab.ay rfl rfl rfl (oR (p:=λn=>!aY n a b) (hr.mono ((aa.refl U).C' O')) hl (λn _=>Ro ag n)) ?_;apply sR;simp only[go_sem,seval];refine ak.pure ((aa.refl U).C' O') ?_;rw[List.all_eq_not_any_not]
open Go.Proofs Go.Proofs.Tryz
def fI:List V->Option (List Int)
 |[]=>some []
 |.int .i64 n::l=>(fI l).map (n::·)
 |_=>none
def mD:∀{l:List V} {m:List Int},fI l=some m->l=m.map vI
 |[],m,h=>by simp[fI]at h;subst h;rfl
 |v::l,m,h=>by
  cases v<;>try (simp[fI]at h)
  rename_i k n;cases k<;>try (simp[fI]at h)
  obtain⟨m',h1,rfl⟩:=h;rw[mD h1];rfl
def wH(m:List Int):fI (m.map vI)=some m:=by
 induction m with
 |nil=>rfl
 |cons n m ih=>simp[fI,ih]
def fg(U:af):V->Option (List Int)
 |.own id off len=>match U id with
   |some ob=>if ob.sz=1/\off+len<=ob.rows.length/\len<=200000000000000 then(if(fI ob.rows).isSome then fI ((ob.rows.drop off).take len)else none)else none
   |none=>none
 |.sl 1 rows=>if rows.length<=200000000000000 then fI rows else none
 |_=>none
def nR{U:af}{sv:V}{l:List Int}(h:fg U sv=some l):Reads U 1 false sv (l.map vI)/\l.length<=200000000000000:=by
 unfold fg at h;split at h
 .rename_i id off len;split at h
  .rename_i ob Zb;split at h
   .rename_i hc;split at h
    .rename_i hi;have he:=mD h;obtain⟨m,hm⟩:=Option.isSome_iff_exists.1 hi;have hm:=mD hm;have hr:=Reads.own (U:=U) Zb hc.1 hc.2.1 (λr hr=>by rw[hm]at hr;simp only[gl]at hr;obtain⟨n,_,rfl⟩:=hr;rfl);rw[he]at hr;have hl:l.length=len:=by
      have:=congrArg List.length he;simp at this;omega
     exact⟨hr,by omega⟩
    .cases h
   .cases h
  .cases h
 .rename_i rows;split at h
  .rename_i hc;have he:=mD h;subst he;exact⟨Reads.ints,by simpa using hc⟩
  .cases h
 .cases h
def pL{U Z':af}(hs:aa U Z'){sv:V}{l:List Int}(h:fg U sv=some l):fg Z' sv=some l:=by
 unfold fg at h|-;split at h
 .split at h
  .rename_i ob Zb;simp only[hs _ _ Zb];exact h
  .cases h
 .exact h
 .cases h
def yu(U:af){l:List Int}(h:l.length<=200000000000000):fg U (bh l)=some l:=by
 simp only[bh,fg,de,ar h];exact wH l
def o10(f:FuncId)(args:List V)(U:af):Option V:=if f=211 then(match args with
 |[.agg [.int .i64 a,.int .i64 b],sv]=>(fg U sv).map λl=>.bool (l.all λn=>aY n a b)
 |_=>none)else none
def O10:Orc prog where
 get:=o10
 up f args U Z' v hs h:=by
  unfold o10 at h|-;split at h
  .rename_i hf;rw[ar hf];split at h
   .simp only[Zq8]at h|-;obtain⟨l,h1,h2⟩:=h;exact⟨l,pL hs h1,h2⟩
   .cases h
  .cases h
 ok f args U v h:=by
  unfold o10 at h;split at h
  .rename_i hf;subst hf;split at h
   .simp only[Zq8]at h;obtain⟨l,h1,rfl⟩:=h;obtain⟨g1,g2⟩:=nR h1;exact Oq g1 g2
   .cases h
  .cases h
def xc(a b:Int)(sv:V)(U:af):O10.get 211 [.agg [.int .i64 a,.int .i64 b],sv] U=(fg U sv).map λl=>.bool (l.all λn=>aY n a b):=rfl
def cI(U:af)(id off len:Nat):fg U (.own id off len)=match U id with
 |some ob=>if ob.sz=1/\off+len<=ob.rows.length/\len<=200000000000000 then(if(fI ob.rows).isSome then fI ((ob.rows.drop off).take len)else none)else none
 |none=>none:=rfl
def dT(n:Int)(l:List V):fI (.int .i64 n::l)=(fI l).map (n::·):=rfl
def dR:fI []=some []:=rfl
def Lk(s:Sty):aJ prog 210 [.agg s.cells] (.bool s.ok):=λU=>by
 refine V9.r (by simp[Ta]) ?_;refine ab.mix 6 ?_
 (refine ab.bn O10 300 ?_;simp only[go_sem,seval,Ta,Sty.cells])
 refine ad λid1 Z1 s1 a1 f1=>?_;simp only[go_sem,seval];refine ad λid3 Z2 s2 a3 f3=>?_;have n13:=ao a1 f3;have a1:=s2 _ _ a1;simp only[go_sem,seval];refine ad λid4 Z3 s3 a4 f4=>?_;have n14:=ao a1 f4;have n34:=ao a3 f4;have a1:=s3 _ _ a1;have a3:=s3 _ _ a3;have hs:aa U Z3:=(s1.trans s2).trans s3;have g3:U id3=none:=s1.none f3;have g4:U id4=none:=(s1.trans s2).none f4;simp only[go_sem,seval,a1,a3,a4,ae n34,ae n34.symm,ae n13,ae n14];have Yk:=λo o'=>(hs.ax (o:=o) g3).ax (o:=o') g4;refine ad λid5 Z4 s4 a5 f5=>?_;have a1:=s4 id1 _ (by rw[ae n14,ae n13];exact a1);have a4:=s4 id4 _ ag;have hs:=(Yk _ _).trans s4;simp only[go_sem,seval,a1,a4,a5,xc,cI,dT,dR,aY,<-Bool.decide_and];refine And.intro (λp0=>?_) (λp0=>ak.pure hs (by rw[V.bool.injEq];symm;rw[Bool.eq_false_iff];intro h;simp[Sty.ok,aY,mx]at h;omega));refine ad λid6 Z5 s5 a6 f6=>?_;have a1:=s5 _ _ a1;have hs:=hs.trans s5;simp only[go_sem,seval,a1,a6,xc,cI,dT,dR,aY,<-Bool.decide_and];refine And.intro (λp1=>?_) (λp1=>ak.pure hs (by rw[V.bool.injEq];symm;rw[Bool.eq_false_iff];intro h;simp[Sty.ok,aY,mx]at h;omega));refine ad λid7 Z6 s6 a7 f7=>?_;have a1:=s6 _ _ a1;have hs:=hs.trans s6;simp only[go_sem,seval,a1,a7,xc,cI,dT,dR,aY,<-Bool.decide_and];refine And.intro (λp2=>?_) (λp2=>ak.pure hs (by rw[V.bool.injEq];symm;rw[Bool.eq_false_iff];intro h;simp[Sty.ok,aY,mx]at h;omega));refine ad λid8 Z7 s7 a8 f8=>?_;have a1:=s7 _ _ a1;have hs:=hs.trans s7;simp only[go_sem,seval,a1,a8,xc,cI,dT,dR,aY];refine And.intro (λp3=>?_) (λp3=>ak.pure hs (by rw[V.bool.injEq];symm;rw[Bool.eq_false_iff];intro h;simp[Sty.ok,aY,mx]at h;omega));refine ad λid9 Z8 s8 a9 f9=>?_;have a1:=s8 _ _ a1;have hs:=hs.trans s8;simp only[go_sem,seval,a9,xc,cI,dT,dR,aY];refine ak.pure hs ?_;rw[V.bool.injEq,Bool.eq_iff_iff];simp[Sty.ok,aY,mx];omega
open Go.Proofs Go.Proofs.Tryz
def iz(l:List Nd):Int:=if Zk l then(if(jA l).1.depth>16\/(jA l).1.pieces>2000\/(jA l).1.nodes>2000\/(jA l).1.Yg>1099511627776 then 2 else 0)else 4
open Go.Proofs Go.Proofs.Tryz
def o12(f:FuncId)(args:List V)(U:af):Option V:=if f=211 then(match args with
 |[.agg [.int .i64 a,.int .i64 b],sv]=>(fg U sv).map λl=>.bool (l.all λn=>aY n a b)
 |_=>none)else if f=210 then(match args with
 |[.agg [.int .i64 a,.int .i64 b,.int .i64 c,.int .i64 d,.int .i64 e,.int .i64 f,.int .i64 g,.int .i64 h,.int .i64 i,.int .i64 j,.int .i64 k,.int .i64 l]]=>some (.bool (Sty.ok ⟨a,b,c,d,e,f,g,h,i,j,k,l⟩))
 |_=>none)else none
def O12:Orc prog where
 get:=o12
 up f args U Z' v hs h:=by
  unfold o12 at h|-;split at h
  .rename_i hf;rw[ar hf];split at h
   .simp only[Zq8]at h|-;obtain⟨l,h1,h2⟩:=h;exact⟨l,pL hs h1,h2⟩
   .cases h
  .rename_i hf;rw[av hf];exact h
 ok f args U v h:=by
  unfold o12 at h;split at h
  .rename_i hf;subst hf;split at h
   .simp only[Zq8]at h;obtain⟨l,h1,rfl⟩:=h;obtain⟨g1,g2⟩:=nR h1;exact Oq g1 g2
   .cases h
  .split at h
   .rename_i hf;subst hf;split at h
    .simp only[aB]at h;subst h;exact Lk ⟨_,_,_,_,_,_,_,_,_,_,_,_⟩ U
    .cases h
   .cases h
def sT(a b:Int)(sv:V)(U:af):O12.get 211 [.agg [.int .i64 a,.int .i64 b],sv] U=(fg U sv).map λl=>.bool (l.all λn=>aY n a b):=rfl
def xM(a b c d e f g h i j k l:Int)(U:af):O12.get 210 [.agg [.int .i64 a,.int .i64 b,.int .i64 c,.int .i64 d,.int .i64 e,.int .i64 f,.int .i64 g,.int .i64 h,.int .i64 i,.int .i64 j,.int .i64 k,.int .i64 l]] U=
 some (.bool (Sty.ok ⟨a,b,c,d,e,f,g,h,i,j,k,l⟩)):=rfl
def kf(s:Sty):(decide (s.top=0)&&(decide (s.YB=0)&&(decide (s.Yp=0)&&(decide (s.Yj=0)&&(decide (s.Zv=0)&&(decide (s.YV=0)&&(decide (s.Zh=0)&&(decide (s.head=0)&&
 (decide (s.before=0)&&(decide (s.after=0)&&(decide (s.inside=0)&&decide (s.clear=0))))))))))))=decide (s=Sty.zero):=by
 rw[Bool.eq_iff_iff];cases s;simp[Sty.zero]
def Nq(x:Nd)(hl:x.words.length<=200000000000000)(k4:x.kind=4):aJ prog 154 [jD x] (.bool x.ok):=λU=>by
 refine Tw.r (by simp[Lt]) ?_;refine ab.mix 6 ?_
 (refine ab.bn O12 300 ?_;simp only[go_sem,seval,Lt,jD,Nd.cells])
 refine ad λid1 Z1 s1 a1 f1=>?_;simp only[go_sem,seval];refine ad λid3 Z2 s2 a3 f3=>?_;have n13:=ao a1 f3;have a1:=s2 _ _ a1;have hs:=(s1.trans s2).ax (s1.none f3) (o:=⟨301,2,[.agg [vI 1,vI 1099511627776]]⟩);have hok3:x.ok=(decide (x.st=Sty.zero)&&(decide (x.line=0)&&decide (x.space=0)&&decide (x.words.length=0)&&aY x.w 1 mx&&aY x.h 1 mx&&aY x.side 1 2)):=by
  by_cases Yy:x.st=Sty.zero<;>simp[Nd.ok,k4,Yy]
 simp only[go_sem,seval,a1,a3,ae n13,kf,fY,k4,xM,CV,ag];refine And.intro (λe1=>And.intro (λe2=>And.intro (λz=>And.intro (λw=>?_) (λw=>?_)) (λz=>?_)) (λe2=>?_)) (λe1=>?_)
 .refine ad λid4 Z3 s3 a4 f4=>?_;have a1:=s3 id1 _ (by rw[ae n13];exact a1);have a3:=s3 id3 _ ag;have hs:=hs.trans s3;simp only[go_sem,seval,a1,a4,sT,cI,dT,dR,aY,ja,List.all_nil,<-Bool.decide_and];refine And.intro (λq1=>?_) (λq1=>ak.pure hs ?_)
  .refine ad λid5 Z4 s4 a5 f5=>?_;have a1:=s4 _ _ a1;have hs:=hs.trans s4;simp only[go_sem,seval,a5,sT,cI,dT,dR,aY,ja,List.all_nil];refine ak.pure hs ?_;rw[V.bool.injEq,hok3,Bool.eq_iff_iff];simp only[aY,mx];simp at w;simp[e1,e2,z,w];omega
  .rw[V.bool.injEq,hok3,Bool.eq_iff_iff];simp only[aY,mx];simp[e1,e2,z];omega
 all_goals (repeat' (first
  |with_reducible refine And.intro (λh=>?_) (λh=>?_)
  |with_reducible refine ak.pure hs ?_))
 all_goals (rw[V.bool.injEq,hok3,Bool.eq_iff_iff];simp_all)
def SI(x:Nd)(hl:x.words.length<=200000000000000):aJ prog 154 [jD x] (.bool x.ok):=λU=>by
 by_cases k4:x.kind=4
 .exact Nq x hl k4 U
 refine Tw.r (by simp[Lt]) ?_;refine ab.mix 6 ?_
 (refine ab.bn O12 300 ?_;simp only[go_sem,seval,Lt,jD,Nd.cells])
 refine ad λid1 Z1 s1 a1 f1=>?_;simp only[go_sem,seval];refine ad λid3 Z2 s2 a3 f3=>?_;have n13:=ao a1 f3;have a1:=s2 _ _ a1;have hs:=(s1.trans s2).ax (s1.none f3) (o:=⟨301,2,[.agg [vI 1,vI 1099511627776]]⟩);have hz:(x.kind=1->x.ok=(x.st.ok&&decide (x.line=0)&&decide (x.space=0)&&decide (x.words.length=0)&&decide (x.side=0)&&decide (x.w=0)&&decide (x.h=0))):=λh=>by simp[Nd.ok,h]
 have hwl:x.words.length<=200000000000000:=by omega
 by_cases k1:x.kind=1
 .simp only[go_sem,seval,a1,a3,ae n13,kf,fY,k1,xM,CV];rw[hz k1]
  repeat' (first
   |with_reducible refine And.intro (λh=>?_) (λh=>?_)
   |with_reducible refine ak.pure hs ?_)
  all_goals (rw[V.bool.injEq,Bool.eq_iff_iff];simp_all)
 .by_cases k2:x.kind=2
  .by_cases e1:x.line=0
   .have hok0:x.ok=false:=by
     by_cases Yy:x.st=Sty.zero<;>simp[Nd.ok,k2,Yy,e1,aY]
    rw[hok0];simp only[go_sem,seval,a1,a3,ae n13,kf,fY,k2,e1,xM,CV,ag]
    repeat' (first
     |with_reducible refine And.intro (λh=>?_) (λh=>?_)
     |with_reducible refine ak.pure hs rfl
     |(refine ad λid4 Z3 s3 a4 f4=>?_
       have a1:=s3 id1 _ (by rw[ae n13];exact a1);have a3:=s3 id3 _ ag;simp only[go_sem,seval,a4,sT,cI,dT,dR,aY,ja,List.all_nil,false_and];exact ak.pure (hs.trans s3) rfl))
   .simp only[go_sem,seval,a1,a3,ae n13,kf,k2,e1,CV,ag];have hok2:x.ok=(decide (x.st=Sty.zero)&&(x.words.all (aY · 1 mx)&&decide (0<x.words.length)&&aY x.line 1 mx&&aY x.space 0 mx&&decide (x.side=0)&&decide (x.w=0)&&decide (x.h=0))):=by
     by_cases Yy:x.st=Sty.zero<;>simp[Nd.ok,k2,Yy]
    refine And.intro (λz=>?_) (λz=>ak.pure hs (by rw[hok2];simp_all));refine And.intro (λw1=>?_) (λw1=>ak.pure hs (by rw[hok2];simp[w1]));refine And.intro (λw2=>?_) (λw2=>ak.pure hs (by rw[hok2];simp[w2]));refine And.intro (λw3=>?_) (λw3=>ak.pure hs (by rw[hok2];simp[w3]));refine ad λid4 Z3 s3 a4 f4=>?_;have a1:=s3 id1 _ (by rw[ae n13];exact a1);have a3:=s3 id3 _ ag;have hs:=hs.trans s3;simp only[go_sem,seval,a1,a3,a4,sT,cI,dT,dR,yu _ hwl,wW (List.all _ _)];refine And.intro (λq1=>?_) (λq1=>ak.pure hs (by rw[hok2];simp[mx]at q1|-;simp[q1]));refine And.intro (λq2=>?_) (λq2=>ak.pure hs (by rw[hok2];simp only[mx,q2];simp));refine ad λid5 Z4 s4 a5 f5=>?_;have a1:=s4 _ _ a1;have hs:=hs.trans s4;simp only[go_sem,seval,a1,a5,sT,cI,dT,dR,fY,wW (List.all _ _)];refine And.intro (λq3=>?_) (λq3=>ak.pure hs (by rw[hok2];simp[mx]at q3|-;simp[q3]));refine ak.pure hs ?_;rw[hok2];simp only[mx,q1,q2,q3,z,w1,w2,w3];simp
  .have hok3:x.ok=(decide (x.st=Sty.zero)&&(decide (x.line=0)&&decide (x.space=0)&&decide (x.words.length=0)&&aY x.w 1 mx&&aY x.h 1 mx&&
    (decide (x.kind=3)&&decide (x.side=0)||decide (x.kind=4)&&aY x.side 1 2))):=by
    by_cases Yy:x.st=Sty.zero<;>simp[Nd.ok,k1,k2,Yy]
   by_cases k3:x.kind=3
   .simp only[go_sem,seval,a1,a3,ae n13,kf,fY,k3,xM,CV,ag]
    repeat' (first
     |with_reducible refine And.intro (λh=>?_) (λh=>?_)
     |with_reducible refine ak.pure hs ?_
     |(refine ad λid4 Z3 s3 a4 f4=>?_
       have a1:=s3 id1 _ (by rw[ae n13];exact a1);have a3:=s3 id3 _ ag;simp only[go_sem,seval,a4,sT,cI,dT,dR,aY,ja,List.all_nil,<-Bool.decide_and];refine ak.pure (hs.trans s3) ?_))
    all_goals (rw[V.bool.injEq,hok3,Bool.eq_iff_iff];simp_all [aY,mx]<;>omega)
   .simp only[go_sem,seval,a1,a3,ae n13,kf,fY,k1,k2,k3,k4,xM,CV,ag]
    repeat' (first
     |with_reducible refine And.intro (λh=>?_) (λh=>?_)
     |with_reducible refine ak.pure hs ?_)
    all_goals (rw[V.bool.injEq,hok3];simp[k3,k4])
open Go.Proofs Go.Proofs.Tryz
def uH(i:Nat):List Int->List Int
 |a::b::s=>if a=i then uH i (b::s)else a::b::s
 |s=>s
def isS:List Nd->Nat->List Int->Bool
 |[],_,_=>true
 |x::r,i,stk=>match uH i stk with
  |[]=>false
  |a::s=>if x.ok=true/\1<=x.size/\x.size<=a-i/\(x.kind=1\/x.size<=1)then isS r (i+1) ((i+x.size)::a::s)else false
def Asc(n:Nat):Nat->List Int->Prop
 |lo,[]=>lo=n
 |lo,a::s=>(lo:Int)<=a/\Asc n a.toNat s
def lE(l:List Nd):Nat->List Int->Bool
 |_,[]=>true
 |lo,a::s=>bQ l lo a.toNat&&lE l a.toNat s
def G4(l:List Nd)(a:Nat):bQ l a a=true:=by rw[bQ,dif_neg (Nat.lt_irrefl a)]
def wV(l:List Nd)(n i:Nat)(hi:i<n):∀stk,Asc n i stk->∃a s,uH i stk=a::s/\(i:Int)<a/\Asc n i (a::s)/\lE l i (a::s)=lE l i stk
 |[],h=>by simp only[Asc]at h;omega
 |[a],h=>by
  have h':=h;simp only[Asc]at h';exact⟨a,[],rfl,by omega,h,rfl⟩
 |a::b::s,h=>by
  by_cases ha:a=i
  .have h':=h.2;rw[ha,e8]at h';obtain⟨c,t,g1,g2,g3,g4⟩:=wV l n i hi (b::s) h';refine⟨c,t,by simp[uH,ha,g1],g2,g3,?_⟩;rw[g4];show _=(bQ l i a.toNat&&lE l a.toNat (b::s));rw[ha,e8,G4,Bool.true_and]
  .have h':=h.1;exact⟨a,b::s,by simp[uH,ha],by omega,h,rfl⟩
def Gy(l:List Nd):∀(r:List Nd) (i:Nat) (stk:List Int),l.drop i=r->Asc l.length i stk->isS r i stk=(r.all Nd.ok&&lE l i stk)
 |[],i,stk,hr,hs=>by
  have hi:l.length<=i:=by simpa using hr
  have key:∀(stk:List Int) (lo:Nat),l.length<=lo->Asc l.length lo stk->lE l lo stk=true:=by
   intro stk
   induction stk with
   |nil=>intro _ _ _;rfl
   |cons a s ih=>
    intro lo hlo h;have h1:=h.1;simp only[lE];rw[ih a.toNat (by omega) h.2,bQ,Bool.and_true];split
    .have:l[lo]?=none:=by simp[hlo]
     rw[this];have hend:∀(stk:List Int) (lo:Nat),Asc l.length lo stk->lo<=l.length:=by
      intro stk
      induction stk with
      |nil=>intro lo h;simp only[Asc]at h;omega
      |cons b t ih=>intro lo h;have:=h.1;have:=ih _ h.2;omega
     have:=hend _ _ h.2;omega
    .rfl
  simp[isS,key stk i hi hs]
 |x::r,i,stk,hr,hs=>by
  have hi:i<l.length:=by
   rcases Nat.lt_or_ge i l.length with h|h
   .exact h
   .rw[Aw h]at hr;cases hr
  have hx:l[i]?=some x:=by
   have:(l.drop i)[0]?=some x:=by rw[hr];rfl
   simpa using this
  have hr':l.drop (i+1)=r:=by
   have:(l.drop i).drop 1=r:=by rw[hr];rfl
   simpa using this
  obtain⟨a,s,h1,h2,h3,h4⟩:=wV l l.length i hi stk hs;rw[isS,h1];simp only;rw[<-h4];simp only[lE,ja];have ZW:bQ l i a.toNat=if _hx:1<=x.size/\x.size<=(a.toNat:Int)-i then
   (decide (x.kind=1)||decide (x.size<=1))&&bQ l (i+1) (i+x.size.toNat)&&bQ l (i+x.size.toNat) a.toNat else false:=by
   rw[bQ,dif_pos (by omega),hx]
  rw[ZW];have hat:(a.toNat:Int)=a:=by omega
  rw[hat];by_cases hc:1<=x.size/\x.size<=a-i
  .rw[dif_pos hc];have e:(i+x.size).toNat=i+x.size.toNat:=by omega
   have ih:=Gy l r (i+1) ((i+x.size)::a::s) hr' ⟨by omega,by rw[e];omega,h3.2⟩;by_cases hk:x.ok=true/\(x.kind=1\/x.size<=1)
   .rw[ar ⟨hk.1,hc.1,hc.2,hk.2⟩,ih];simp only[lE,e,hk.1,Bool.true_and];have:(decide (x.kind=1)||decide (x.size<=1))=true:=by simpa using hk.2
    rw[this,Bool.true_and,Bool.and_assoc]
   .rw[av (λh=>hk ⟨h.1,h.2.2.2⟩)];symm;rw[Bool.eq_false_iff];intro h;simp only[Ba,kU,Zq9]at h;exact hk ⟨h.1.1,h.2.1.1.1⟩
  .rw[dif_neg hc,av (λh=>hc ⟨h.2.1,h.2.2.1⟩)];simp
def N0(l:List Nd):isS l 0 [(l.length:Int)]=Zk l:=by
 rw[Gy l l 0 [(l.length:Int)] rfl ⟨by omega,by simp[Asc]⟩];simp[lE,Zk]
open Go.Proofs Go.Proofs.Tryz
def o14(f:FuncId)(args:List V):Option V:=if f=154 then(match args with
 |[.agg [.int .i64 a0,.int .i64 a1,.int .i64 a2,.int .i64 a3,.int .i64 a4,.int .i64 a5,.int .i64 a6,.int .i64 a7,.int .i64 a8,.int .i64 a9,.int .i64 Zf,.int .i64 ZT,.int .i64 a12,.int .i64 a13,.int .i64 a14,.int .i64 a15,.sl 1 rows,.int .i64 a17,.int .i64 a18,.int .i64 a19]]=>
  (fI rows).bind λws=>if ws.length<=200000000000000 then some (.bool (Nd.ok ⟨a0,a1,⟨a2,a3,a4,a5,a6,a7,a8,a9,Zf,ZT,a12,a13⟩,a14,a15,ws,a17,a18,a19⟩))else none
 |_=>none)else none
def O14:Orc prog where
 get f args _:=o14 f args
 ok f args U v h:=by
  unfold o14 at h;split at h
  .rename_i hf;subst hf;split at h
   .rw[Option.bind_eq_some_iff]at h;obtain⟨ws,h1,h2⟩:=h;split at h2
    .rename_i hw;simp only[aB]at h2;subst h2;rw[mD h1];exact SI ⟨_,_,⟨_,_,_,_,_,_,_,_,_,_,_,_⟩,_,_,ws,_,_,_⟩ hw U
    .cases h2
   .cases h
  .cases h
def Qu{x:Nd}(hw:x.words.length<=200000000000000)(U:af):O14.get 154 [.agg [.int .i64 x.kind,.int .i64 x.size,.int .i64 x.st.top,.int .i64 x.st.YB,.int .i64 x.st.Yp,.int .i64 x.st.Yj,.int .i64 x.st.Zv,.int .i64 x.st.YV,.int .i64 x.st.Zh,.int .i64 x.st.head,.int .i64 x.st.before,.int .i64 x.st.after,.int .i64 x.st.inside,.int .i64 x.st.clear,.int .i64 x.line,.int .i64 x.space,bh x.words,.int .i64 x.side,.int .i64 x.w,.int .i64 x.h]] U=
 some (.bool x.ok):=by
 show((fI (x.words.map vI)).bind λws=>if ws.length<=200000000000000 then some (V.bool (Nd.ok ⟨x.kind,x.size,⟨x.st.top,x.st.YB,x.st.Yp,x.st.Yj,x.st.Zv,x.st.YV,x.st.Zh,x.st.head,x.st.before,x.st.after,x.st.inside,x.st.clear⟩,x.line,x.space,ws,x.side,x.w,x.h⟩))else none)=_;rw[wH,Option.bind_some,ar hw]
def Kf{rows:List V}{k:Nat}{a:Int}{s:List Int}(hk:k=(a::s).length)(ht:rows.take k=(a::s).reverse.map vI):rows[k-1]?=some (.int .i64 a)/\rows.take (k-1)=s.reverse.map vI:=by
 simp only[ZR]at hk;have h1:(rows.take k)[k-1]?=rows[k-1]?:=by rw[List.getElem?_take,ar (by omega)]
 constructor
 .rw[<-h1,ht,hk];simp
 .have h2:rows.take (k-1)=(rows.take k).take (k-1):=by rw[List.take_take];congr 1;omega
  rw[h2,ht,hk];simp
def Asc.le{n:Nat}:∀{stk:List Int} {lo:Nat},Asc n lo stk->lo<=n
 |[],lo,h=>by simp only[Asc]at h;omega
 |a::s,lo,h=>by have h1:=h.1;have h2:=Asc.le h.2;omega
def FZ(l:List Nd)(hl:dV l):aJ prog 101 [aI l] (.bool (Zk l)):=λU=>by
 obtain⟨hl1,hl2⟩:=hl;refine VG.r (by simp[PZ]) ?_;refine ab.mix 6 ?_;apply sR;simp only[go_sem,seval,bD,PZ,eW];intro e0 he0;refine ab.loop (λm st=>∃i stk e k rows,i<=l.length/\m=l.length-i/\Zk l=isS (l.drop i) i stk/\Asc l.length i stk/\stk≠[]/\stk.length<=i+1/\aa U st.U/\st.U e=some ⟨3,1,rows⟩/\U e=none/\k=stk.length/\k<=rows.length/\rows.take k=stk.reverse.map vI/\
  st.s 3=.own e 0 k/\st.s 9=aI l/\st.s 10=vI l.length/\st.s 11=vI i) l.length ?_ ?_
 .refine⟨0,[(l.length:Int)],e0,1,[vI l.length],by omega,by omega,by rw[<-N0];rfl,⟨by omega,by simp[Asc]⟩,by simp,by simp,(aa.refl U).C' he0,ag,he0,rfl,by simp,rfl,rfl,rfl,rfl,rfl⟩
 .rintro m ⟨s,Z'⟩ ⟨i,stk,e,k,rows,hi,rfl,hB,hasc,YF,hsl,G',ZW,hnew,hk,hkr,Zg,h3,h9,h10,h11⟩;simp only at G' ZW h3 h9 h10 h11;refine ab.mix 6 ?_;apply sR;simp only[go_sem,seval,h9,h10,h11];refine And.intro (λL'=>?_) (λhge=>?_)
  .have hlt':i<l.length:=by simp at L';omega
   have hd:l.drop i=l[i]::l.drop (i+1):=ie hlt';have hxw:l[i].words.length<=200000000000000:=hl2 _ (Zw hlt');rw[hd]at hB;generalize hxe:l[i]=x at*;simp only[go_sem,seval,bD,oN hlt',hxe,Nd.cells];intro id5 hid5;replace hid5:Z' id5=none:=hid5;have n5e:e≠id5:=by rintro rfl;rw[ZW]at hid5;cases hid5
   have n5n:U id5=none:=G'.none hid5;refine ab.loop (λm st=>∃stk' k',m=stk'.length/\uH i stk=uH i stk'/\Asc l.length i stk'/\stk'≠[]/\stk'.length<=stk.length/\st.U=C' Z' id5 ⟨59,20,[.agg x.cells]⟩/\k'=stk'.length/\k'<=rows.length/\rows.take k'=stk'.reverse.map vI/\
    st.s 3=.own e 0 k'/\st.s 4=vI i/\st.s 5=.ptr id5 0 0/\st.s 9=aI l/\st.s 10=vI l.length/\st.s 11=vI i) stk.length ?_ ?_
   .exact⟨stk,k,rfl,rfl,hasc,YF,YY _,rfl,hk,hkr,Zg,h3,rfl,rfl,h9,h10,h11⟩
   .rintro m ⟨s,Z''⟩ ⟨stk',k',rfl,hpop,hasc',hne',hsl',YK,ZU,hkr',htk',h3,h4,h5,h9,h10,h11⟩;simp only at YK h3 h4 h5 h9 h10 h11;subst YK;obtain⟨a,tl,rfl⟩:=List.exists_cons_of_ne_nil hne';obtain⟨htop,htk2⟩:=Kf ZU htk';have hkpos:1<=k':=by rw[ZU];simp
    have g0:(k':Int)-1<k':=by omega
    have g1:(0:Int)<=(k':Int)-1:=by omega
    have g2:(k':Int)-1<=k':=by omega
    have g3:((k':Int)-1).toNat=k'-1:=by omega
    have hrng:Yr .i64 ((k':Int)-1):=ai;refine ab.mix 6 ?_
    (refine ab.bn O14 300 ?_;simp only[go_sem,seval,bD,h3,h4,h5,h9,h10,h11,ae n5e,ZW,g0,g1,g2,g3,Int.le_refl,Int.toNat_zero,Nat.sub_zero,htop,CV,Nd.cells,Qu hxw,wW (Nd.ok x)])
    refine And.intro (λh1=>⟨hrng,And.intro (λh2=>?_) (λh2=>?_)⟩) (λh1=>?_)
    .obtain⟨b,tl',rfl⟩:∃b tl',tl=b::tl':=by
      cases tl with
      |nil=>simp at ZU;omega
      |cons b tl'=>exact⟨b,tl',rfl⟩
     have hp2:uH i (a::b::tl')=uH i (b::tl'):=by simp[uH,h2]
     have ha2:=hasc'.2;rw[h2,e8]at ha2;refine⟨hrng,_,?_,b::tl',k'-1,rfl,by rw[hpop,hp2],ha2,by simp,?_,?_,by omega,htk2,rfl⟩
     .simp
     .simp only[ZR]at hsl'|-;omega
     .simp only[ZR]at ZU|-;omega
    all_goals
     have hps:uH i (a::tl)=a::tl:=by
      cases tl with
      |nil=>rfl
      |cons b tl'=>
       have:a≠i:=by first
        |simpa using h2
        |(exfalso;simp at ZU h1;omega)
       simp[uH,this]
     obtain⟨c,t,p1,p2,p3,p4⟩:=wV l l.length i hlt' (a::tl) hasc';rw[hps,List.cons.injEq]at p1;obtain⟨rfl,rfl⟩:=p1;have hIs:Zk l=if x.ok=true/\1<=x.size/\x.size<=a-i/\(x.kind=1\/x.size<=1)then isS (l.drop (i+1)) (i+1) ((i+x.size)::a::tl)else false:=by
      rw[hB,isS,hpop,hps]
     have hale:=Asc.le p3.2;have hlenk:(rows.take k').length=k':=by simp;omega
     have hstk:k'<=i+1:=by rw[ZU];omega
     have happ:x.ok=true/\1<=x.size/\x.size<=a-i/\(x.kind=1\/x.size<=1)->∀(X Y:Ob) (id id1:Nat),C' Z' id5 X id=none->C' (C' Z' id5 X) id Y id1=none->
      Zk l=isS (l.drop (i+1)) (i+1) ((i+x.size)::a::tl)/\Asc l.length (i+1) ((i+x.size)::a::tl)/\aa U (C' (del (C' (C' Z' id5 X) id Y) e) id1 ⟨3,1,rows.take k'++[.int .i64 (i+x.size)]⟩)/\U id1=none/\
      (rows.take k'++[V.int .i64 (i+x.size)]).take (k'+1)=((i+x.size)::a::tl).reverse.map vI:=by
      intro hc X Y id id1 O' hid1;rw[fT]at O';rw[fT,fT]at hid1;rw[ar hc]at hIs;refine⟨hIs,⟨by omega,?_,p3.2⟩,?_,G'.none hid1.2.2,?_⟩
      .have:(i+x.size).toNat=i+x.size.toNat:=by omega
       omega
      .exact aa.ax (aa.No ((G'.ax n5n).ax (G'.none O'.2)) hnew) (G'.none hid1.2.2)
      .rw[jW (by simp;omega),htk'];simp
     refine And.intro (λq1=>And.intro (λq2=>⟨hrng,ai,And.intro (λq3=>And.intro (λq4=>And.intro (λq5=>?_) (λq5=>?_)) (λq4=>?_)) (λq3=>?_)⟩) (λq2=>?_)) (λq1=>?_)
     .refine ak.pure (G'.C' hid5) ?_;rw[hIs,av];rintro⟨c1,c2,c3,c4⟩;omega
     .refine⟨ai,?_⟩;intro id O';have hid':=(fT.1 O').2;have nie:e≠id:=by rintro rfl;rw[ZW]at hid';cases hid'
      have hd1:∀U,U e=some ⟨3,1,rows⟩->bP U 3 1 (.own e 0 k')=some (rows.take k',some e):=by
       intro U YK;simp only[bP,YK];rw[ar ⟨trivial,trivial,trivial,hkr'⟩]
      have ZV:∀U,U id=some ⟨3,1,[.int .i64 (i+x.size)]⟩->bF U 1 (.own id 0 1)=some [.int .i64 (i+x.size)]:=by
       intro U YK;simp only[bF,YK];rw[ar (by simp)];simp
      have hb:(k'+1)*9<=140737488355328:=by omega
      simp only[go_sem,seval,bD,hd1,ZV,ae n5e,ae nie,ZW,hlenk,hb,bt,h9,h10,h11];intro id1 hid1;obtain⟨z1,z2,z3,z4,z5⟩:=happ ⟨by simpa using q1,by omega,by omega,by first|(left;simpa using q4)|(right;simp at q5;omega)⟩ _ _ id id1 O' hid1
      refine⟨ai,_,?_,i+1,_,id1,k'+1,_,by omega,rfl,z1,z2,by simp,?_,z3,ag,z4,?_,?_,z5,rfl,?_⟩
      .omega
      .simp only[ZR]at ZU hsl'|-;omega
      .simp only[ZR]at ZU|-;omega
      .simp;omega
      .simp
     .refine⟨ai,?_⟩;intro id O';have hid':=(fT.1 O').2;have nie:e≠id:=by rintro rfl;rw[ZW]at hid';cases hid'
      have hd1:∀U,U e=some ⟨3,1,rows⟩->bP U 3 1 (.own e 0 k')=some (rows.take k',some e):=by
       intro U YK;simp only[bP,YK];rw[ar ⟨trivial,trivial,trivial,hkr'⟩]
      have ZV:∀U,U id=some ⟨3,1,[.int .i64 (i+x.size)]⟩->bF U 1 (.own id 0 1)=some [.int .i64 (i+x.size)]:=by
       intro U YK;simp only[bF,YK];rw[ar (by simp)];simp
      have hb:(k'+1)*9<=140737488355328:=by omega
      simp only[go_sem,seval,bD,hd1,ZV,ae n5e,ae nie,ZW,hlenk,hb,bt,h9,h10,h11];intro id1 hid1;obtain⟨z1,z2,z3,z4,z5⟩:=happ ⟨by simpa using q1,by omega,by omega,by first|(left;simpa using q4)|(right;simp at q5;omega)⟩ _ _ id id1 O' hid1
      refine⟨ai,_,?_,i+1,_,id1,k'+1,_,by omega,rfl,z1,z2,by simp,?_,z3,ag,z4,?_,?_,z5,rfl,?_⟩
      .omega
      .simp only[ZR]at ZU hsl'|-;omega
      .simp only[ZR]at ZU|-;omega
      .simp;omega
      .simp
     .refine ak.pure (G'.C' hid5) ?_;rw[hIs,av];rintro⟨c1,c2,c3,c4⟩;omega
     .refine ak.pure (G'.C' hid5) ?_;rw[hIs,av];rintro⟨c1,c2,c3,c4⟩;omega
     .refine ak.pure (G'.C' hid5) ?_;rw[hIs,av];rintro⟨c1,c2,c3,c4⟩;exact q1 (by simp[c1])
  .have hi':i=l.length:=by simp at hge;omega
   refine ak.pure G' ?_;rw[hB,hi',ym];rfl
open Go.Proofs Go.Proofs.Tryz
def l7(times n:Int):Int:=if n=0\/times<=1099511627776/n then n*times else 1099511627777
def oz(times h:Int):List Int->Int
 |[]=>h
 |n::l=>oz times (min (h+l7 times n) 1099511627777) l
def eJ(i:Nat)(x:Nd)(s:Sm)(ends:List Int):Sm×List Int:=
 let ends:=ends.filter λn=>!decide (n<=(i:Int))
 if x.kind=1 then
  let ends:=ends++[i+x.size]
  (⟨max s.depth ends.length,s.pieces,s.nodes+1,oz 1 s.Yg [x.st.top,x.st.YB,x.st.Yp,x.st.Yj,x.st.head]⟩,ends)
 else if x.kind=2 then(⟨s.depth,s.pieces+x.words.length,s.nodes+1,oz x.words.length s.Yg [x.line]⟩,ends)
 else(⟨s.depth,s.pieces+1,s.nodes+1,oz 1 s.Yg [x.h]⟩,ends)
def iR(l:List Nd):Nat->Sm×List Int
 |0=>(⟨0,0,0,0⟩,[])
 |i+1=>match l[i]? with
  |some x=>eJ i x (iR l i).1 (iR l i).2
  |none=>iR l i
def Bl{times n:Int}(h0:0<=n)(h1:n<=mx)(t0:0<=times)(a:Int)(ha:0<=a):min (a+l7 times n) 1099511627777=min (a+n*times) 1099511627777:=by
 unfold l7;split
 .rfl
 .rename_i h;have hn:0<n:=by omega
  have hq:1099511627776/n<times:=by omega
  have h2:1099511627776<n*times:=by
   have:=Int.ediv_lt_iff_lt_mul (a:=1099511627776) (b:=times) hn;have h3:=this.1 hq;rw[Int.mul_comm];exact h3
  omega
def uW{a b:Int}(h1:0<=a/\a<=1099511627777)(h2:0<=b):∀n:Nat,Ef a b n=min (a+b*n) 1099511627777
 |0=>by simp[Ef];omega
 |n+1=>by
  rw[Ef,uW h1 h2 n,kM];have e:b*((n+1:Nat):Int)=b*n+b:=by rw[Int.natCast_add,Int.mul_add];simp
  rw[e];have:0<=b*(n:Int):=Int.mul_nonneg h2 (by omega);generalize b*(n:Int)=q at*;omega
def mj{h n:Int}(h1:0<=h)(n0:0<=n)(n1:n<=mx):min (h+l7 1 n) 1099511627777=kM h n:=by
 rw[Bl n0 n1 (by omega) h h1,Int.mul_one];rfl
def kH(l:List Nd)(i:Nat):Nat->List Int
 |0=>[]
 |k+1=>kH l i k++(match l[k]? with
  |some y=>if y.kind=1/\(i:Int)<k+y.size then[(k:Int)+y.size]else[]
  |none=>[])
def pM(l:List Nd)(i:Nat):∀k,((kH l i k).length:Int)=jq l i k
 |0=>rfl
 |k+1=>by
  simp only[kH,jq,iE,Int.natCast_add,pM l i k];cases l[k]? with
  |none=>simp
  |some y=>simp only[];split<;>simp
def pV(l:List Nd)(i:Nat):∀k,(kH l i k).filter (λn=>!decide (n<=((i+1:Nat):Int)))=kH l (i+1) k
 |0=>rfl
 |k+1=>by
  simp only[kH,List.filter_append,pV l i k];congr 1;split
  .rename_i y _;by_cases hk:y.kind=1
   .by_cases h1:((i+1:Nat):Int)<k+y.size
    .rw[ar ⟨hk,by omega⟩,ar ⟨hk,h1⟩];have:¬((k:Int)+y.size<=((i+1:Nat):Int)):=by omega
     simp only[List.filter_cons,this,decide_false,Bool.not_false,if_true,List.filter_nil]
    .rw[av (show¬(y.kind=1/\((i+1:Nat):Int)<k+y.size)from λh=>h1 h.2)];split
     .have:(k:Int)+y.size<=((i+1:Nat):Int):=by omega
      simp only[List.filter_cons,this,decide_true,Bool.not_true,eT,if_false,List.filter_nil]
     .rfl
   .rw[av (λh=>hk h.1),av (λh=>hk h.1)];rfl
  .rfl
def nZ(l:List Nd)(hl:dV l)(hb:Zk l=true):∀i,i<=l.length->(iR l i).1={ gX l ⟨0,0,l.length,0⟩ i with nodes:=i }/\(iR l i).2=(match i with
 |0=>[]
 |j+1=>kH l j (j+1))/\(gX l ⟨0,0,l.length,0⟩ i).wF i/\(gX l ⟨0,0,l.length,0⟩ i).nodes=l.length
 |0,_=>⟨rfl,rfl,by simp[gX,Sm.wF],rfl⟩
 |i+1,hi=>by
  obtain⟨h1,h2,h3,h4⟩:=nZ l hl hb i (by omega);have M':l.all Nd.ok=true/\bQ l 0 l.length=true:=by simpa[Zk]using hb
  have hx:=(ed.1 M'.1) _ (Zw (show i<l.length by omega));have hg:l[i]?=some l[i]:=by simp[show i<l.length by omega]
  obtain⟨z1,z2,z3⟩:=jg l (l.length+1) 0 l.length (by omega) (by omega) M'.2 i (by omega) (by omega) (by omega);have hw:=hl.2 _ (Zw (show i<l.length by omega));have hfine:=HS (l:=l) hx hw h3;generalize hxe:l[i]=x at*;obtain⟨p1,p2,p3,p4,p5,p6⟩:=kY hx;have hS:iR l (i+1)=eJ i x (iR l i).1 (iR l i).2:=by simp only[iR,hg]
  have hR:gX l ⟨0,0,l.length,0⟩ (i+1)=qt l i x (gX l ⟨0,0,l.length,0⟩ i):=by simp only[gX,hg]
  have hf:(iR l i).2.filter (λn=>!decide (n<=(i:Int)))=kH l i i:=by
   rw[h2];cases i with
   |zero=>rfl
   |succ j=>exact pV l j (j+1)
  rw[hS,hR,h1];generalize hsm:gX l ⟨0,0,l.length,0⟩ i=sm at*;obtain⟨f1,f2,f3⟩:=h3;have hends:kH l i (i+1)=kH l i i++(if x.kind=1 then[(i:Int)+x.size]else[]):=by
   simp only[kH,hg];by_cases hk:x.kind=1
   .rw[ar ⟨hk,by omega⟩,ar hk]
   .rw[av (λh=>hk h.1),av hk]
  refine⟨?_,?_,by rw[Int.natCast_add];exact hfine,?_⟩
  .by_cases hk:x.kind=1
   .obtain⟨q1,q2,q3,q4,q5⟩:=p6 hk;have r1:=fO f3 q1.1;have r2:=fO r1 q2.1;have r3:=fO r2 q3.1;have r4:=fO r3 q4.1;have hlen:=pM l i (i+1);rw[hends,ar hk]at hlen;simp only[eJ,qt,ar hk,hf,oz,Sm.mk.injEq];refine⟨?_,trivial,by simp,?_⟩
    .rw[hlen]
    .rw[mj f3.1 q1.1 q1.2,mj r1.1 q2.1 q2.2,mj r2.1 q3.1 q3.2,mj r3.1 q4.1 q4.2,mj r4.1 q5.1 q5.2]
   .by_cases hk2:x.kind=2
    .simp only[eJ,qt,av hk,ar hk2,oz,Sm.mk.injEq];refine⟨trivial,trivial,by simp,?_⟩;rw[Bl p2 p3 (by omega) _ f3.1,uW f3 p2]
    .simp only[eJ,qt,av hk,av hk2,oz,Sm.mk.injEq];exact⟨trivial,trivial,by simp,mj f3.1 p4 p5⟩
  .by_cases hk:x.kind=1
   .simp only[eJ,ar hk,hf,hends]
   .by_cases hk2:x.kind=2
    .simp only[eJ,av hk,ar hk2,hf,hends,lO]
    .simp only[eJ,av hk,av hk2,hf,hends,lO]
  .rw[<-h4];unfold qt;split
   .rfl
   .split<;>rfl
def AB(l:List Nd):Sm×Int:=if Zk l then((iR l l.length).1,0)else(⟨0,0,0,0⟩,4)
def GW(l:List Nd)(hl:dV l):AB l=jA l:=by
 unfold AB jA;by_cases hb:Zk l=true
 .obtain⟨h1,_,_,h4⟩:=nZ l hl hb l.length (YY _);rw[ar hb,ar hb,h1];generalize gX l ⟨0,0,l.length,0⟩ l.length=sm at*;cases sm;simp_all
 .rw[av hb,av hb]
open Go.Proofs Go.Proofs.Tryz
def Ec{U:af}{c:Nat}{i:Int}(h:U c=some ⟨3,1,[vI i]⟩)(n:Int):au prog 156 [vI n,.ptr c 0 0] U λr Z'=>r=.bool (decide (n<=i))/\Z'=U:=by
 refine Xb.r (by simp[Ry]) ?_;apply sR;simp only[go_sem,seval,Ry,h];exact ak.same rfl
abbrev kept(i:Int)(l:List Int):List Int:=l.filter λn=>!decide (n<=i)
def tH{p:Int->Bool}:∀{l:List Int},cB p l<0->l.filter (λn=>!p n)=l
 |[],_=>rfl
 |x::l,h=>by
  simp only[cB]at h;split at h
  .omega
  .rename_i hp;have hp':p x=false:=by simpa using hp
   split at h
   .rename_i h2;simp only[List.filter_cons,hp',Bool.not_false,if_true,tH h2]
   .have:=je p l;omega
def ui{p:Int->Bool}:∀{l:List Int},¬cB p l<0->(cB p l).toNat<l.length/\(l.take (cB p l).toNat).filter (λn=>!p n)=l.take (cB p l).toNat/\
 ∀x,l[(cB p l).toNat]?=some x->p x=true
 |[],h=>by simp[cB]at h
 |x::l,h=>by
  simp only[cB]at h|-;split
  .rename_i hp;refine⟨by simp,by simp,?_⟩;intro y hy;simp at hy;subst hy;exact hp
  .rename_i hp;rw[av hp]at h;have hp':p x=false:=by simpa using hp
   split
   .rename_i h2;rw[ar h2]at h;omega
   .rename_i h2;obtain⟨g1,g2,g3⟩:=ui h2;have:=je p l;have e:(cB p l+1).toNat=(cB p l).toNat+1:=by omega
    rw[e];refine⟨by simp;omega,?_,?_⟩
    .simp only[pK,List.filter_cons,hp',Bool.not_false,if_true,g2]
    .simpa using g3
def JY{U:af}{e c k:Nat}{i:Int}{full:List Int}(he:U e=some ⟨3,1,full.map vI⟩)(hc:U c=some ⟨3,1,[vI i]⟩)(YF:c≠e)(hk:k<=full.length)(hfl:full.length<=1000000000000):
 au prog 155 [.own e 0 k,.fn 156 [.ptr c 0 0]] U λr Z'=>∃(k':Nat) (full':List Int),r=.own e 0 k'/\Z'=C' U e ⟨3,1,full'.map vI⟩/\k'<=full'.length/\full'.length<=full.length/\full'.take k'=kept i (full.take k):=by
 have hlk:(full.take k).length=k:=by simp;omega
 have hr:Reads U 1 false (.own e 0 k) ((full.take k).map vI):=by
  have:=Reads.own (U:=U) (off:=0) (len:=k) he rfl (by simpa using hk) (λr hr=>by simp only[gl]at hr;obtain⟨n,_,rfl⟩:=hr;rfl);simpa using this
 refine TN.r (by simp[JO]) ?_;refine ab.mix 8 ?_;apply sR;simp only[go_sem,seval,JO];refine ab.ay rfl rfl rfl (oI (p:=λn=>decide (n<=i)) hr (by omega) (λn _=>Ec hc n)) ?_;generalize hw:cB (λn=>decide (n<=i)) (full.take k)=w;have hwg:-1<=w:=by rw[<-hw];exact je _ _
 apply sR;simp only[go_sem,seval];have hsame:C' U e ⟨3,1,full.map vI⟩=U:=by
  funext j;simp only[C'];split
  .rename_i e';rw[e',he]
  .rfl
 refine And.intro (λhm=>?_) (λhm=>?_)
 .refine⟨_,U,aa.refl U,Wk.refl (aa.refl U) _,k,full,rfl,hsame.symm,hk,YY _,?_⟩;exact(tH (by rw[hw];omega)).symm
 .have hw0:¬cB (λn=>decide (n<=i)) (full.take k)<0:=by rw[hw];omega
  obtain⟨g1,g2,g3⟩:=ui hw0;rw[hw]at g1 g2 g3;rw[hlk]at g1;refine⟨ai,?_⟩;refine ab.loop (λm st=>∃(u j:Nat) (cur:List Int),u<j/\j<=k/\m=k-j/\cur.length=full.length/\cur.take u=kept i (full.take j)/\(∀q,j<=q->cur[q]?=full[q]?)/\st.U=C' U e ⟨3,1,cur.map vI⟩/\
   st.s 0=.own e 0 k/\st.s 1=.fn 156 [.ptr c 0 0]/\st.s 5=vI u/\st.s 6=vI j) (k-(w.toNat+1)) ?_ ?_
  .have hw1:w=((w.toNat:Nat):Int):=by omega
   refine⟨w.toNat,w.toNat+1,full,by omega,by omega,rfl,rfl,?_,λ_ _=>rfl,hsame.symm,rfl,rfl,?_,?_⟩
   .have hx:(full.take k)[w.toNat]?=some (full[w.toNat]'(by omega)):=by rw[List.getElem?_take,ar g1,Zq6]
    have hp:=g3 _ hx;have e1:(full.take k).take w.toNat=full.take w.toNat:=by rw[List.take_take];congr 1;omega
    rw[e1]at g2;rw[Zq0 (by omega)];have g2':kept i (full.take w.toNat)=full.take w.toNat:=g2;simp only[kept,List.filter_append]at g2'|-;rw[g2'];simp[hp]
   .show vI w=_;rw[<-hw1]
   .show vI (w+1)=_;rw[Int.natCast_add,<-hw1];rfl
  .rintro m ⟨s,Z'⟩ ⟨u,j,cur,huj,hjk,rfl,Zj,hct,hcr,YK,h0,h1,h5,h6⟩;simp only at YK h0 h1 h5 h6;subst YK;refine ab.mix 8 ?_;apply sR;simp only[go_sem,seval,h0,h5,h6];refine And.intro (λL'=>?_) (λhge=>?_)
   .have hlt':j<k:=by omega
    have hjc:j<cur.length:=by omega
    have hget:cur[j]?=some cur[j]:=by simp[hjc]
    have hge:(cur.map vI)[j]?=some (vI cur[j]):=by simp[hjc]
    have b1:(0:Int)<=j:=by omega
    have b2:(j:Int)<k:=by omega
    have b3:(0:Int)<=u:=by omega
    have b4:(u:Int)<k:=by omega
    simp only[go_sem,seval,h1,b1,b2,hge,e8];refine ab.ay rfl rfl rfl (Ec (i:=i) (by rw[ae YF];exact hc) cur[j]) ?_;have hgu:(cur.map vI)[u]?=some (vI (cur[u]'(by omega))):=by simp[show u<cur.length by omega]
    apply sR;simp only[go_sem,seval,h0,h1,h5,h6,b3,b4,hgu,e8];have hfj:full[j]?=some cur[j]:=by rw[<-hcr j (YY _)];exact hget
    have htj:full.take (j+1)=full.take j++[cur[j]]:=by
     have hjf:j<full.length:=by omega
     rw[Zq0 hjf];congr 2;rw[Zq6 hjf]at hfj;simpa using hfj
    refine And.intro (λhd=>?_) (λhd=>?_)
    .refine⟨ai,ai,_,?_,u+1,j+1,cur.set u cur[j],by omega,by omega,rfl,by simpa using Zj,?_,?_,?_,?_,?_⟩
     .omega
     .rw[htj];have hul:u<cur.length:=by omega
      have:(cur.set u cur[j]).take (u+1)=cur.take u++[cur[j]]:=by
       rw[Zq0 (by simpa using hul),List.take_set,List.set_eq_of_length_le (by simp;omega)];simp
      rw[this,hct];simp only[kept,List.filter_append];congr 1;have hd':¬cur[j]<=i:=by simpa using hd
      simp[hd']
     .intro q hq;rw[List.getElem?_set_ne (by omega)];exact hcr q (by omega)
     .simp
     .simp
     .simp
    .refine⟨ai,_,?_,u,j+1,cur,by omega,by omega,rfl,Zj,?_,λq hq=>hcr q (by omega),rfl,?_⟩
     .omega
     .rw[htj,hct];simp only[kept,List.filter_append];have hd':cur[j]<=i:=by simpa using hd
      simp[hd']
     .simp
   .have hjk':j=k:=by omega
    subst hjk';have b3:(0:Int)<=u:=by omega
    have b4:(u:Int)<=j:=by omega
    simp only[go_sem,seval,b3,b4,Int.le_refl,e8];refine ab.clear (id:=e) (off:=u) (len:=j-u) (ob:=⟨3,1,cur.map vI⟩) rfl rfl rfl ag rfl (by simp;omega) ?_;apply sR;simp only[go_sem,seval,h0,h5,b3,b4,Int.le_refl,e8,jc,Nat.sub_zero];refine⟨_,_,aa.refl _,Wk.refl (aa.refl _) _,u,cur.take u++List.replicate (j-u) 0++cur.drop (u+(j-u)),by simp,?_,?_,?_,?_⟩
    .simp[List.map_take,List.map_drop]
    .simp;omega
    .simp;omega
    .rw[lN,MJ (by simp;omega),List.take_take,Nat.min_self,hct]
open Go.Proofs Go.Proofs.Tryz
def Reads.aC(U:af):Reads U 1 false .aC []:=⟨rfl,λi v h=>by simp at h⟩
def EF{U:af}{c:Nat}{i:Int}(hc:U c=some ⟨3,1,[vI i]⟩):au prog 155 [.aC,.fn 156 [.ptr c 0 0]] U λr Z'=>r=.aC/\Z'=U:=by
 refine TN.r (by simp[JO]) ?_;refine ab.mix 8 ?_;apply sR;simp only[go_sem,seval,JO];refine ab.ay rfl rfl rfl (oI (l:=[]) (p:=λn=>decide (n<=i)) (Reads.aC U) (by simp) (λn _=>Ec hc n)) ?_;apply sR;simp only[go_sem,seval,cB];exact ak.same rfl
def IK{times n:Int}(h0:0<=n)(t0:0<=times):0<=l7 times n/\l7 times n<=1099511627777:=by
 unfold l7;split
 .rename_i h;refine⟨Int.mul_nonneg h0 t0,?_⟩;rcases h with h|h
  .subst h;simp
  .by_cases hn:n=0
   .subst hn;simp
   .have:=Int.mul_le_of_le_ediv (by omega:0<n) h;rw[Int.mul_comm];omega
 .omega
def cJ(s:Sm)(ends:V):Ob:=⟨198,5,[.agg [vI s.depth,vI s.pieces,vI s.nodes,vI s.Yg,ends]]⟩
def sY{U:af}{c:Nat}{s:Sm}{ends sv:V}{times:Int}{l:List Int}(hc:U c=some (cJ s ends))(hr:∀ob,Reads (C' U c ob) 1 false sv (l.map vI))(hl:l.length<=200000000000000)
 (hn:∀n∈l,0<=n/\n<=mx)(ht:0<=times/\times<=200000000000000)(hh:0<=s.Yg/\s.Yg<=1099511627777)(hends:ends.cells=[ends]):
 au prog 157 [.ptr c 0 0,vI times,sv] U λr Z'=>r=.P' []/\Z'=C' U c (cJ { s with Yg:=oz times s.Yg l } ends):=by
 have hlen:cU false sv=some (vI (l.length:Int)):=by simpa using(hr ⟨0,0,[]⟩).1
 have hsame:C' U c (cJ s ends)=U:=by
  funext j;simp only[C'];split
  .rename_i e';rw[e',hc]
  .rfl
 refine W5.r (by simp[QM]) ?_;refine ab.mix 9 ?_;apply sR;simp only[go_sem,seval,QM,hlen];refine ab.loop (λm st=>∃(i:Nat) (h:Int),i<=l.length/\m=l.length-i/\oz times s.Yg l=oz times h (l.drop i)/\(0<=h/\h<=1099511627777)/\st.U=C' U c (cJ { s with Yg:=h } ends)/\
  st.s 0=.ptr c 0 0/\st.s 1=vI times/\st.s 9=sv/\st.s 10=vI l.length/\st.s 11=vI i) l.length ?_ ?_
 .exact⟨0,s.Yg,by omega,by omega,rfl,hh,hsame.symm,rfl,rfl,rfl,rfl,rfl⟩
 .rintro m ⟨s',Z'⟩ ⟨i,h,hi,rfl,hp,hhh,YK,h0,h1,h9,h10,h11⟩;simp only at h0 h1 h9 h10 h11 YK;subst YK;refine ab.mix 9 ?_;apply sR;simp only[go_sem,seval,h9,h10,h11];refine And.intro (λL'=>?_) (λhge=>?_)
  .have hlt':i<l.length:=by omega
   have hd:l.drop i=l[i]::l.drop (i+1):=ie hlt';obtain⟨pp,e1,e2⟩:=(hr (cJ { s with Yg:=h } ends)).2 i (vI l[i]) (by simp[hlt']);have hni:=hn _ (Zw hlt');rw[hd,oz]at hp;generalize YF:l[i]=n at*;have jT:=IK (n:=n) hni.1 ht.1;simp only[cJ]at e1 e2;simp only[mx]at hni;have hq:(1099511627776:Int).tdiv n=1099511627776/n:=Int.tdiv_eq_ediv_of_nonneg (by omega);by_cases hz:n=0
   .have YT:l7 times n=n*times:=by unfold l7;rw[ar (.inl hz)]
    rw[YT]at hp jT;simp only[go_sem,seval,e1,e2,cJ,hz,h0,h1,h9,h10,h11];rw[hz]at hp jT;simp only[Int.zero_mul,Int.add_zero]at hp|-;refine⟨ai,ai,ai,_,?_,i+1,h,by omega,rfl,?_,hhh,?_,by simp⟩
    .omega
    .rw[hp,Int.min_eq_left hhh.2]
    .rw[av (by omega)]
   .simp only[go_sem,seval,e1,e2,cJ,hz,h0,h1,h9,h10,h11,hq];have hdiv:0<=1099511627776/n/\1099511627776/n<=1099511627776:=⟨Int.ediv_nonneg (by omega) hni.1,Int.ediv_le_self _ (by omega)⟩
    refine⟨ai,λhle=>?_,λhgt=>?_⟩
    .have YT:l7 times n=n*times:=by unfold l7;rw[ar (.inr hle)]
     rw[YT]at hp jT;refine⟨ai,ai,ai,_,?_,i+1,min (h+n*times) 1099511627777,by omega,rfl,hp,by omega,?_,by simp⟩
     .omega
     .rw[show(if 1099511627777<h+n*times then 1099511627777 else h+n*times)=min (h+n*times) 1099511627777 by split<;>omega]
    .have YT:l7 times n=1099511627777:=by unfold l7;rw[av (by omega)]
     rw[YT]at hp jT;refine⟨ai,ai,_,?_,i+1,min (h+1099511627777) 1099511627777,by omega,rfl,hp,by omega,?_,by simp⟩
     .omega
     .rw[show(if 1099511627777<h+1099511627777 then 1099511627777 else h+1099511627777)=min (h+1099511627777) 1099511627777 by split<;>omega]
  .have:i=l.length:=by omega
   refine⟨_,_,aa.refl _,Wk.refl (aa.refl _) _,rfl,?_⟩;rw[hp,this,ym];rfl
open Go.Proofs Go.Proofs.Tryz
def Io{P:Program}{n:Nat}{Q:St->Prop}{k:List It}{O:Orc P}{f:Nat}{d:Option Nat}{l:List az}{v:Nat->V}{ob:Ob}{s:Nat->V}{U:af}{e:Nat}
 (h:∀id Z',aa (del U e) Z'->Z' id=some ob->U id=none->step P O n f (.d l k) ⟨aN s d (v id),Z'⟩ Q):
 LK P O n f l k d ⟨s,U⟩ Q (some λid=>(v id,Vc.C' (del U e) id ob)):=by
 rw[fk];refine λid O'=>h id _ ((aa.refl _).C' ?_) ag O';by_cases e':id=e
 .simp[del,e']
 .rw[cA e'];exact O'
def nu(K U:af)(v:V)(ends:List Int)(B:Nat):Prop:=
 (v=.aC/\ends=[])\/∃(e k:Nat) (full:List Int),v=.own e 0 k/\U e=some ⟨3,1,full.map vI⟩/\K e=none/\k<=full.length/\full.length<=B/\full.take k=ends
def UT{K U:af}{v:V}{ends:List Int}{B c:Nat}{i:Int}(hB:B<=1000000000000)(h:nu K U v ends B)(hK:aa K U)(hc:K c=some ⟨3,1,[vI i]⟩):
 au prog 155 [v,.fn 156 [.ptr c 0 0]] U λr Z'=>aa K Z'/\nu K Z' r (kept i ends) B:=by
 rcases h with⟨rfl,rfl⟩|⟨e,k,full,rfl,h1,h2,h3,h4,rfl⟩
 .refine(EF (hK _ _ hc)).mono ?_;rintro r Z' ⟨rfl,rfl⟩;exact⟨hK,.inl ⟨rfl,rfl⟩⟩
 .have YF:c≠e:=by rintro rfl;rw[h2]at hc;cases hc
  refine(JY h1 (hK _ _ hc) YF h3 (by omega)).mono ?_;rintro r Z' ⟨k',full',rfl,rfl,g1,g2,g3⟩;exact⟨hK.ax h2,.inr ⟨e,k',full',rfl,ag,h2,g1,by omega,g3⟩⟩
def aa.Mi{K U:af}{i:Nat}{o:Ob}(h:aa K U)(hi:U i=some o):aa (Vc.C' K i o) U:=λj x hx=>by
 by_cases e:j=i
 .subst e;rw[ag]at hx;rw[hi];exact hx
 .rw[ae e]at hx;exact h j x hx
def nu.new{K U Z':af}{v:V}{ends:List Int}{B id:Nat}{o:Ob}(h:nu K U v ends B)(hs:aa U Z')(O':U id=none):nu (C' K id o) Z' v ends B:=by
 rcases h with h|⟨e,k,full,h0,h1,h2,h3⟩
 .exact .inl h
 .exact .inr ⟨e,k,full,h0,hs _ _ h1,by rw[ae (ao h1 O')];exact h2,h3⟩
def nu.less{K K' U:af}{v:V}{ends:List Int}{B:Nat}(h:nu K' U v ends B)(hs:aa K K'):nu K U v ends B:=by
 rcases h with h|⟨e,k,full,h0,h1,h2,h3⟩
 .exact .inl h
 .exact .inr ⟨e,k,full,h0,h1,hs.none h2,h3⟩
def PY{K U:af}{v:V}{ends:List Int}{B c i:Nat}{x:Nd}{s:Sm}(hK:aa K U)(hKc:K c=none)(hc:U c=some (cJ s v))(hE:∀o,nu (C' K c o) U v ends B)(hB:B<=1000000000)
 (hi:i<=10000)(hs:s.wF i)(hsn:s.nodes=i)(hx:x.ok=true)(hw:x.words.length<=200000000000000)(hsz:1<=x.size/\x.size<=1000000000):
 au prog 102 [.ptr c 0 0,vI i,jD x] U λr Z'=>r=.P' []/\aa K Z'/\∃v',Z' c=some (cJ (eJ i x s ends).1 v')/\∀o,nu (C' K c o) Z' v' (eJ i x s ends).2 (B+1):=by
 refine Xo.r (by simp[Sd]) ?_;refine ab.mix 7 ?_;apply sR;simp only[go_sem,seval,Sd,jD,Nd.cells];refine ad λid4 Z1 s1 a4 f4=>?_;have hc1:=s1 _ _ hc;have n4c:=ao hc f4;simp only[go_sem,seval];refine ad λid5 Z2 s2 a5 f5=>?_;have hc2:=s2 _ _ hc1;have n5c:=ao hc1 f5;have n54:=ao a4 f5;have a4:=s2 _ _ a4;have hK2:=(hK.trans s1).trans s2;have k4:K id4=none:=hK.none f4;have k5:K id5=none:=(hK.trans s1).none f5;simp only[go_sem,seval,hc2,cJ];have hK':aa (C' (C' (C' K c (cJ s v)) id4 ⟨3,1,[vI i]⟩) id5 ⟨59,20,[jD x]⟩) Z2:=((hK2.Mi hc2).Mi a4).Mi a5;have hE':nu (C' (C' (C' K c (cJ s v)) id4 ⟨3,1,[vI i]⟩) id5 ⟨59,20,[jD x]⟩) Z2 v ends B:=((hE _).new s1 f4).new s2 f5;refine ab.call rfl rfl rfl (UT (by omega) hE' hK' (by rw[ae n54,ag])) ?_;rintro r Z3 ⟨hK3,hE3⟩;have hc3:=hK3 c _ (by rw[ae n5c,ae n4c,ag]);have a4:=hK3 id4 _ (by rw[ae n54,ag]);have a5:=hK3 id5 _ ag;simp only[jD,Nd.cells]at a5;simp only[cJ]at hc3;have hKK:=(((aa.refl K).ax hKc (o:=cJ s v)).ax k4 (o:=⟨3,1,[vI i]⟩)).ax k5 (o:=⟨59,20,[jD x]⟩);have h3:=hKK.trans hK3;have hsr:Yr .i64 (s.nodes+1):=ai;obtain⟨p1,p2,p3,p4,p5,p6⟩:=kY hx;obtain⟨f1,f2,f3⟩:=hs;rcases hE3 with⟨rfl,hk0⟩|⟨e,k,full,rfl,he,hKe,hk,hfl,hk0⟩
 .by_cases hk1:x.kind=1
  .apply sR;simp only[go_sem,seval,a4,a5,hc3,ae n4c.symm,ae n5c.symm,hk1];refine⟨hsr,ai,?_⟩;refine aW λid8 Z4 s4 a8 f8=>?_;have hc4:=s4 c _ ag;have a4:=s4 id4 _ (by rw[ae n4c.symm];exact a4);have a5:=s4 id5 _ (by rw[ae n5c.symm];exact a5);have hs8:∀U,U id8=some ⟨3,1,[.int .i64 (i+x.size)]⟩->bF U 1 (.own id8 0 1)=some [.int .i64 (i+x.size)]:=by
    intro U YK;simp only[bF,YK];rw[ar (by simp)];simp
   have hd:∀U,bP U 3 1 .aC=some ([],none):=λ_=>rfl;simp only[go_sem,seval,hs8,a8,hd,bt,Nat.reduceLeDiff];refine aW λid9 Z5 s5 a9 f9=>?_;have hc5:=s5 c _ hc4;have a4:=s5 id4 _ a4;have a5:=s5 id5 _ a5;have n9c:id9≠c:=by rintro rfl;rw[hc4]at f9;cases f9
   have n95:id9≠id5:=by rintro rfl;rw[s4 id9 _ (by rw[ae n5c.symm];exact hK3 id9 _ ag)]at f9;cases f9
   simp only[go_sem,seval,hc5,a5,ae n5c.symm];refine ad λid6 Z6 s6 a6 f6=>?_;have hc6:=s6 c _ ag;have a9:=s6 id9 _ (by rw[ae n9c];exact a9);have n6c:id6≠c:=by rintro rfl;rw[hc6]at a6;simp at a6
   have n69:id6≠id9:=by rintro rfl;rw[a9]at a6;simp at a6
   simp only[go_sem,seval,a6];refine ad λid84 Z7 s7 a84 f84=>?_;have hc7:=s7 c _ (by rw[ae n6c.symm];exact hc6);have a9:=s7 id9 _ (by rw[ae n69.symm];exact a9);have n84c:id84≠c:=by rintro rfl;rw[hc7]at a84;simp at a84
   simp only[go_sem,seval];have h4:=(h3.ax hKc).trans s4;have h5:=h4.trans s5;have k9:K id9=none:=h4.none f9;have h6':=λo=>h5.ax hKc (o:=o);have k6:K id6=none:=(h6' _).none f6;have h7:=(((h6' _).trans s6).ax k6).trans s7;obtain⟨q1,q2,q3,q4,q5⟩:=p6 hk1;have hl5:∀n∈[x.st.top,x.st.YB,x.st.Yp,x.st.Yj,x.st.head],0<=n/\n<=mx:=by
    intro n hn;simp only[cm,List.not_mem_nil,or_false]at hn;rcases hn with rfl|rfl|rfl|rfl|rfl<;>assumption
   refine ab.call rfl rfl rfl (sY (s:=⟨if(1:Int)>s.depth then 1 else s.depth,s.pieces,s.nodes+1,s.Yg⟩) (l:=[x.st.top,x.st.YB,x.st.Yp,x.st.Yj,x.st.head]) (times:=1) hc7
    (λob=>Reads.own (off:=0) (len:=5) ((ae n84c).trans a84) rfl (by simp) (λr hr=>by simp at hr;rcases hr with rfl|rfl|rfl|rfl|rfl<;>rfl)) (by simp) hl5 (by omega) f3 rfl) ?_
   rintro r Z8 ⟨rfl,rfl⟩;apply sR;simp only[go_sem,seval];refine⟨_,_,aa.refl _,Wk.refl (aa.refl _) _,rfl,h7.ax hKc,.own id9 0 1,?_,λo=>.inr ⟨id9,1,[i+x.size],rfl,(ae n9c).trans a9,fT.2 ⟨n9c,k9⟩,by simp,by simp,?_⟩⟩
   .have e:(if(1:Int)>s.depth then 1 else s.depth)=max s.depth 1:=by split<;>omega
    rw[ag,e];simp[eJ,hk1,hk0,cJ]
   .simp[eJ,hk1,hk0]
  .by_cases hk2:x.kind=2
   .apply sR;simp only[go_sem,seval,a5,hc3,ae n5c.symm,hk2,fY];refine⟨hsr,ai,?_⟩;refine ad λid7 Z7 s7 a7 f7=>?_;have hc7:=s7 c _ ag;have n7c:id7≠c:=by rintro rfl;rw[hc7]at a7;simp at a7
    simp only[go_sem,seval];have h7:=(h3.ax hKc).trans s7;refine ab.call rfl rfl rfl (sY (s:=⟨s.depth,s.pieces+x.words.length,s.nodes+1,s.Yg⟩) (l:=[x.line]) (times:=x.words.length) hc7
     (λob=>Reads.own (off:=0) (len:=1) ((ae n7c).trans a7) rfl (by simp) (λr hr=>by simp at hr;rcases hr with rfl;rfl)) (by simp) (by intro n hn;simp at hn;subst hn;exact⟨p2,p3⟩) (by omega) f3 rfl) ?_
    rintro r Z8 ⟨rfl,rfl⟩;apply sR;simp only[go_sem,seval];refine⟨_,_,aa.refl _,Wk.refl (aa.refl _) _,rfl,h7.ax hKc,_,ag.trans (by simp[eJ,hk2,cJ];rfl),λo=>?_⟩;have:(eJ i x s ends).2=kept i ends:=by simp[eJ,hk2]
    rw[this];exact .inl ⟨rfl,hk0⟩
   .have h4or:=p1;apply sR;simp only[go_sem,seval,a5,hc3,ae n5c.symm,hk1,hk2];refine⟨hsr,ai,?_⟩;refine ad λid7 Z7 s7 a7 f7=>?_;have hc7:=s7 c _ ag;have n7c:id7≠c:=by rintro rfl;rw[hc7]at a7;simp at a7
    simp only[go_sem,seval];have h7:=(h3.ax hKc).trans s7;refine ab.call rfl rfl rfl (sY (s:=⟨s.depth,s.pieces+1,s.nodes+1,s.Yg⟩) (l:=[x.h]) (times:=1) hc7
     (λob=>Reads.own (off:=0) (len:=1) ((ae n7c).trans a7) rfl (by simp) (λr hr=>by simp at hr;rcases hr with rfl;rfl)) (by simp) (by intro n hn;simp at hn;subst hn;exact⟨p4,p5⟩) (by omega) f3 rfl) ?_
    rintro r Z8 ⟨rfl,rfl⟩;apply sR;simp only[go_sem,seval];refine⟨_,_,aa.refl _,Wk.refl (aa.refl _) _,rfl,h7.ax hKc,_,ag.trans (by simp[eJ,hk1,hk2,cJ];rfl),λo=>?_⟩;have:(eJ i x s ends).2=kept i ends:=by simp[eJ,hk1,hk2]
    rw[this];exact .inl ⟨rfl,hk0⟩
 .have hec:e≠c:=λe'=>by rw[e',ae n5c,ae n4c,ag]at hKe;cases hKe
  have he4:e≠id4:=λe'=>by rw[e',ae n54,ag]at hKe;cases hKe
  have he5:e≠id5:=λe'=>by rw[e',ag]at hKe;cases hKe
  have hKe0:K e=none:=hKK.none hKe;have hlk:(full.take k).length=k:=by simp;omega
  by_cases hk1:x.kind=1
  .apply sR;simp only[go_sem,seval,a4,a5,hc3,ae n4c.symm,ae n5c.symm,hk1];refine⟨hsr,ai,?_⟩;refine aW λid8 Z4 s4 a8 f8=>?_;have hc4:=s4 c _ ag;have a4:=s4 id4 _ (by rw[ae n4c.symm];exact a4);have a5:=s4 id5 _ (by rw[ae n5c.symm];exact a5);have hs8:∀U,U id8=some ⟨3,1,[.int .i64 (i+x.size)]⟩->bF U 1 (.own id8 0 1)=some [.int .i64 (i+x.size)]:=by
    intro U YK;simp only[bF,YK];rw[ar (by simp)];simp
   have he4':=s4 e _ (by rw[ae hec];exact he);have hd:∀U,U e=some ⟨3,1,full.map vI⟩->bP U 3 1 (.own e 0 k)=some ((full.take k).map vI,some e):=by
    intro U YK;simp only[bP,YK];rw[ar ⟨trivial,trivial,trivial,by simpa using hk⟩,List.map_take]
   have hlm:((full.take k).map vI).length=k:=by simpa using hlk
   have Zo:(k+1)*9<=140737488355328:=by omega
   simp only[go_sem,seval,hs8,a8,hd,he4',bt,hlm,Zo];refine Io λid9 Z5 s5 a9 f9=>?_;have hc5:=s5 c _ (by rw[cA hec.symm];exact hc4);have a4:=s5 id4 _ (by rw[cA he4.symm];exact a4);have a5:=s5 id5 _ (by rw[cA he5.symm];exact a5);have n9c:id9≠c:=by rintro rfl;rw[hc4]at f9;cases f9
   have n95:id9≠id5:=by rintro rfl;rw[s4 id9 _ (by rw[ae n5c.symm];exact hK3 id9 _ ag)]at f9;cases f9
   simp only[go_sem,seval,hc5,a5,ae n5c.symm];refine ad λid6 Z6 s6 a6 f6=>?_;have hc6:=s6 c _ ag;have a9:=s6 id9 _ (by rw[ae n9c];exact a9);have n6c:id6≠c:=by rintro rfl;rw[hc6]at a6;simp at a6
   have n69:id6≠id9:=by rintro rfl;rw[a9]at a6;simp at a6
   simp only[go_sem,seval,a6];refine ad λid84 Z7 s7 a84 f84=>?_;have hc7:=s7 c _ (by rw[ae n6c.symm];exact hc6);have a9:=s7 id9 _ (by rw[ae n69.symm];exact a9);have n84c:id84≠c:=by rintro rfl;rw[hc7]at a84;simp at a84
   simp only[go_sem,seval];have h4:=(h3.ax hKc).trans s4;have h4':=h4.No hKe0;have h5:=h4'.trans s5;have k9:K id9=none:=h4.none f9;have h6':=λo=>h5.ax hKc (o:=o);have k6:K id6=none:=(h6' _).none f6;have h7:=(((h6' _).trans s6).ax k6).trans s7;obtain⟨q1,q2,q3,q4,q5⟩:=p6 hk1;have hl5:∀n∈[x.st.top,x.st.YB,x.st.Yp,x.st.Yj,x.st.head],0<=n/\n<=mx:=by
    intro n hn;simp only[cm,List.not_mem_nil,or_false]at hn;rcases hn with rfl|rfl|rfl|rfl|rfl<;>assumption
   refine ab.call rfl rfl rfl (sY (s:=⟨if((k+1:Nat):Int)>s.depth then((k+1:Nat):Int)else s.depth,s.pieces,s.nodes+1,s.Yg⟩) (l:=[x.st.top,x.st.YB,x.st.Yp,x.st.Yj,x.st.head]) (times:=1) hc7
    (λob=>Reads.own (off:=0) (len:=5) ((ae n84c).trans a84) rfl (by simp) (λr hr=>by simp at hr;rcases hr with rfl|rfl|rfl|rfl|rfl<;>rfl)) (by simp) hl5 (by omega) f3 rfl) ?_
   rintro r Z8 ⟨rfl,rfl⟩;apply sR;simp only[go_sem,seval];refine⟨_,_,aa.refl _,Wk.refl (aa.refl _) _,rfl,h7.ax hKc,.own id9 0 (k+1),?_,λo=>.inr ⟨id9,k+1,full.take k++[i+x.size],rfl,((ae n9c).trans a9).trans (by simp),fT.2 ⟨n9c,k9⟩,by simp;omega,by simp;omega,?_⟩⟩
   .have e:(if((k+1:Nat):Int)>s.depth then((k+1:Nat):Int)else s.depth)=max s.depth ((k+1:Nat):Int):=by split<;>omega
    rw[ag,e];have hk0':kept i ends=full.take k:=hk0.symm;simp[eJ,hk1,hk0',hlk,cJ]
   .have hk0':kept i ends=full.take k:=hk0.symm;rw[jW (by simp;omega)];simp[eJ,hk1,hk0']
  .by_cases hk2:x.kind=2
   .apply sR;simp only[go_sem,seval,a5,hc3,ae n5c.symm,hk2,fY];refine⟨hsr,ai,?_⟩;refine ad λid7 Z7 s7 a7 f7=>?_;have hc7:=s7 c _ ag;have n7c:id7≠c:=by rintro rfl;rw[hc7]at a7;simp at a7
    simp only[go_sem,seval];have h7:=(h3.ax hKc).trans s7;refine ab.call rfl rfl rfl (sY (s:=⟨s.depth,s.pieces+x.words.length,s.nodes+1,s.Yg⟩) (l:=[x.line]) (times:=x.words.length) hc7
     (λob=>Reads.own (off:=0) (len:=1) ((ae n7c).trans a7) rfl (by simp) (λr hr=>by simp at hr;rcases hr with rfl;rfl)) (by simp) (by intro n hn;simp at hn;subst hn;exact⟨p2,p3⟩) (by omega) f3 rfl) ?_
    rintro r Z8 ⟨rfl,rfl⟩;apply sR;simp only[go_sem,seval];refine⟨_,_,aa.refl _,Wk.refl (aa.refl _) _,rfl,h7.ax hKc,_,ag.trans (by simp[eJ,hk2,cJ];rfl),λo=>?_⟩;have:(eJ i x s ends).2=kept i ends:=by simp[eJ,hk2]
    rw[this];exact .inr ⟨e,k,full,rfl,(ae hec).trans (s7 e _ (by rw[ae hec];exact he)),fT.2 ⟨hec,hKe0⟩,hk,by omega,hk0⟩
   .have h4or:=p1;apply sR;simp only[go_sem,seval,a5,hc3,ae n5c.symm,hk1,hk2];refine⟨hsr,ai,?_⟩;refine ad λid7 Z7 s7 a7 f7=>?_;have hc7:=s7 c _ ag;have n7c:id7≠c:=by rintro rfl;rw[hc7]at a7;simp at a7
    simp only[go_sem,seval];have h7:=(h3.ax hKc).trans s7;refine ab.call rfl rfl rfl (sY (s:=⟨s.depth,s.pieces+1,s.nodes+1,s.Yg⟩) (l:=[x.h]) (times:=1) hc7
     (λob=>Reads.own (off:=0) (len:=1) ((ae n7c).trans a7) rfl (by simp) (λr hr=>by simp at hr;rcases hr with rfl;rfl)) (by simp) (by intro n hn;simp at hn;subst hn;exact⟨p4,p5⟩) (by omega) f3 rfl) ?_
    rintro r Z8 ⟨rfl,rfl⟩;apply sR;simp only[go_sem,seval];refine⟨_,_,aa.refl _,Wk.refl (aa.refl _) _,rfl,h7.ax hKc,_,ag.trans (by simp[eJ,hk1,hk2,cJ];rfl),λo=>?_⟩;have:(eJ i x s ends).2=kept i ends:=by simp[eJ,hk1,hk2]
    rw[this];exact .inr ⟨e,k,full,rfl,(ae hec).trans (s7 e _ (by rw[ae hec];exact he)),fT.2 ⟨hec,hKe0⟩,hk,by omega,hk0⟩
open Go.Proofs Go.Proofs.Tryz
def Bu(l:List Nd)(hl:dV l):aJ prog 46 [aI l] (.P' [.agg (jA l).1.cells,vI (jA l).2]):=λU=>by
 have hl0:=hl;obtain⟨hl1,hl2⟩:=hl;rw[<-GW l hl0];refine e46.r (by simp[c46]) ?_;refine ab.mix 7 ?_;apply sR;simp only[go_sem,seval,c46];refine ad λidR Z1 s1 aR fR=>?_;simp only[go_sem,seval];refine ab.ay rfl rfl rfl (FZ l hl0 _) ?_;apply sR;simp only[go_sem,seval,CV,aR];refine And.intro (λhf=>?_) (λhf=>?_)
 .simp only[Bool.not_eq_eq_eq_not,Bool.not_true]at hf;refine ak.pure (s1.ax fR) ?_;simp[AB,hf,Sm.cells]
 .simp only[Bool.not_eq_eq_eq_not,Bool.not_false]at hf;refine ad λid4 Z2 s2 a4 f4=>?_;have nR4:=ao aR f4;have aR:=s2 _ _ aR;have g4:U id4=none:=s1.none f4;have hKR:aa (C' U idR ⟨125,4,[.agg Sm.zero.cells]⟩) Z2:=(s1.trans s2).Mi aR;have k4:C' U idR ⟨125,4,[.agg Sm.zero.cells]⟩ id4=none:=fT.2 ⟨nR4.symm,g4⟩;simp only[go_sem,seval,eW];refine ab.loop (λm st=>∃(i:Nat) (v:V),i<=l.length/\m=l.length-i/\aa (C' U idR ⟨125,4,[.agg Sm.zero.cells]⟩) st.U/\st.U id4=some (cJ (iR l i).1 v)/\
   (∀o,nu (C' (C' U idR ⟨125,4,[.agg Sm.zero.cells]⟩) id4 o) st.U v (iR l i).2 i)/\st.s 2=.ptr idR 0 0/\st.s 4=.ptr id4 0 0/\st.s 11=aI l/\st.s 12=vI l.length/\st.s 13=vI i) l.length ?_ ?_
  .exact⟨0,.aC,by omega,by omega,hKR,a4,λo=>.inl ⟨rfl,rfl⟩,rfl,rfl,rfl,rfl,rfl⟩
  .rintro m ⟨s,Z'⟩ ⟨i,v,hi,rfl,G',h4s,hE,h2,h4,h11,h12,h13⟩;simp only at G' h4s hE h2 h4 h11 h12 h13;obtain⟨e1,e2,e3,e4⟩:=nZ l hl0 hf i hi;have M':l.all Nd.ok=true/\bQ l 0 l.length=true:=by simpa[Zk]using hf
   have hRs:Z' idR=some ⟨125,4,[.agg Sm.zero.cells]⟩:=G' idR _ ag;refine ab.mix 7 ?_;apply sR;simp only[go_sem,seval,h2,h4,h11,h12,h13,h4s,cJ,hRs,Sm.zero,Sm.cells];refine And.intro (λL'=>?_) (λhge=>?_)
   .have hlt':i<l.length:=by omega
    have hx:=(ed.1 M'.1) _ (Zw hlt');have hxw:=hl2 _ (Zw hlt');obtain⟨z1,z2,z3⟩:=jg l (l.length+1) 0 l.length (by omega) (by omega) M'.2 i (by omega) hlt' hlt';have hstep:iR l (i+1)=eJ i l[i] (iR l i).1 (iR l i).2:=by simp[iR,hlt']
    generalize hxe:l[i]=x at*;simp only[go_sem,seval,oN hlt',hxe,Nd.cells];refine ad λid6 Z6 s6 a6 f6=>?_;have n64:id6≠id4:=by rintro rfl;rw[h4s]at f6;cases f6
    have g6:C' U idR ⟨125,4,[.agg Sm.zero.cells]⟩ id6=none:=G'.none f6;simp only[go_sem,seval,a6];have hsub6:=G'.trans s6;have Zp:=(PY (K:=C' U idR ⟨125,4,[.agg Sm.zero.cells]⟩) (U:=C' Z6 id6 ⟨59,20,[jD x]⟩) (i:=i) (x:=x) (s:=(iR l i).1) (B:=i) (hsub6.ax g6) k4 ((ae n64.symm).trans (s6 _ _ h4s))
     (λo=>((hE o).new (s6.ax f6) f6 (o:=⟨0,0,[]⟩)).less ((aa.refl _).ax (fT.2 ⟨n64,g6⟩))) (by omega) (by omega) (by rw[e1];exact e3) (by rw[e1]) hx hxw (by omega))
    simp only[jD,Nd.cells]at Zp;refine ab.call rfl rfl rfl (by simp only[go_sem,seval,h4];exact Zp) ?_
    .rintro r Z7 ⟨rfl,hK7,v',h4',hE'⟩;apply sR;simp only[go_sem,seval,h2,h4,h11,h12,h13];refine⟨ai,_,?_,i+1,v',by omega,rfl,hK7,?_,?_,?_⟩
     .omega
     .rw[hstep,h4'];rfl
     .intro o;rw[hstep];exact hE' o
     .simp
   .have hie:i=l.length:=by omega
    subst hie;refine ak.pure ((((aa.refl U).ax fR).trans G').ax fR) ?_;simp[AB,hf]
open Go.Proofs Go.Proofs.Tryz
def TR:((2:Nat):Int)=2:=rfl
def TB:((3:Nat):Int)=3:=rfl
def Bb:((4:Nat):Int)=4:=rfl
def DP(l:List Nd)(hl:dV l):aJ prog 45 [aI l] (vI (iz l)):=λU=>by
 refine e45.r (by simp[c45]) ?_;refine ab.mix 8 ?_;apply sR;simp only[go_sem,seval,c45];refine ab.ay rfl rfl rfl (Bu l hl _) ?_;apply sR;simp only[go_sem,seval,Sm.cells];refine ad λid3 Z1 s1 a3 f3=>?_;have G':=λo=>s1.ax f3 (o:=o);simp only[go_sem,seval,a3];have hc:(jA l).2=if Zk l then 0 else 4:=by unfold jA;split<;>rfl
 refine And.intro (λh=>?_) (λh=>?_)
 .refine ak.pure (G' _) ?_;have:Zk l=false:=by
   rw[hc]at h;cases hb:Zk l<;>simp_all
  simp[iz,this,hc]
 .have hb:Zk l=true:=by
   rw[hc]at h;cases hb:Zk l<;>simp_all
  have hR:iz l=if(jA l).1.depth>16\/(jA l).1.pieces>2000\/(jA l).1.nodes>2000\/(jA l).1.Yg>1099511627776 then 2 else 0:=by
   simp only[iz,hb,if_true]
  generalize (jA l).1=sm at*;refine ad λid5 Z2 s2 a5 f5=>?_;have hs2:=(G' _).trans s2;have g5:U id5=none:=(G' _).none f5;simp only[go_sem,seval,a5];refine ab.loop (λm st=>∃(i:Nat),i<=4/\m=4-i/\st.U=C' Z2 id5 ⟨195,4,[.agg sm.cells]⟩/\(0<i->sm.depth<=16)/\(1<i->sm.pieces<=2000)/\(2<i->sm.nodes<=2000)/\(3<i->sm.Yg<=1099511627776)/\
   st.s 5=.ptr id5 0 0/\st.s 25=.agg [vI 16,vI 2000,vI 2000,vI 1099511627776]/\st.s 26=vI i) 4 ?_ ?_
  .exact⟨0,by omega,by omega,rfl,by omega,by omega,by omega,by omega,rfl,rfl,rfl⟩
  .rintro m ⟨s,Z'⟩ ⟨i,hi,rfl,YK,p1,p2,p3,p4,h5,h25,h26⟩;simp only at YK h5 h25 h26;subst YK;have hi':i=0\/i=1\/i=2\/i=3\/i=4:=by omega
   rcases hi' with rfl|rfl|rfl|rfl|rfl
   .refine ab.mix 8 ?_;apply sR;simp only[go_sem,seval,h5,h25,h26,Sm.cells,Int.ofNat_zero,Bb,Int.toNat_zero,Nat.zero_mul];refine And.intro (λg=>?_) (λg=>?_)
    .refine ak.pure (hs2.ax g5) ?_;rw[hR,ar];omega
    .refine⟨ai,_,?_,1,by omega,rfl,?_,?_,?_,?_,rfl⟩<;>omega
   .refine ab.mix 8 ?_;apply sR;simp only[go_sem,seval,h5,h25,h26,Sm.cells,Int.natCast_one,Int.toNat_one,Bb,Nat.reduceMul];refine And.intro (λg=>?_) (λg=>?_)
    .refine ak.pure (hs2.ax g5) ?_;rw[hR,ar];omega
    .refine⟨ai,_,?_,2,by omega,rfl,?_,?_,?_,?_,rfl⟩<;>omega
   .refine ab.mix 8 ?_;apply sR;simp only[go_sem,seval,h5,h25,h26,Sm.cells,TR,Bb,Int.reduceToNat,Nat.reduceMul];refine And.intro (λg=>?_) (λg=>?_)
    .refine ak.pure (hs2.ax g5) ?_;rw[hR,ar];omega
    .refine⟨ai,_,?_,3,by omega,rfl,?_,?_,?_,?_,rfl⟩<;>omega
   .refine ab.mix 8 ?_;apply sR;simp only[go_sem,seval,h5,h25,h26,Sm.cells,TB,Bb,Int.reduceToNat,Nat.reduceMul];refine And.intro (λg=>?_) (λg=>?_)
    .refine ak.pure (hs2.ax g5) ?_;rw[hR,ar];omega
    .refine⟨ai,_,?_,4,by omega,rfl,?_,?_,?_,?_,rfl⟩<;>omega
   .refine ab.mix 8 ?_;apply sR;simp only[go_sem,seval,h26,Sm.cells,Bb];refine ak.pure (hs2.ax g5) ?_;rw[hR,av];omega
open Go.Proofs Go.Proofs.Tryz
def yy(U:af)(l:List Int):bB U false 1 (.rp (bh l))=some (bh l):=rfl
open Go.Proofs Go.Proofs.Tryz
def YW(l:List Nd)(i:Nat):Int:=((l[i]?).map Nd.size).getD 0
def x9(l:List Nd)(a:Int):Bool:=decide (0<=a)&&decide (a<l.length)
def iC(l:List Nd)(a b:Int):Bool:=x9 l a&&(x9 l b&&(decide (b>=a)&&decide (b-a<YW l a.toNat)))
def gN(l:List Nd)(a:Nat):Nat->List Int
 |0=>[]
 |k+1=>if iC l k a then(k:Int)::gN l a k else gN l a k
def uF(l:List Nd)(a:Nat):Nat->Int
 |0=>-1
 |k+1=>if iC l k a then(k:Int)else uF l a k
def er(l:List Nd)(a:Nat):Int:=uF l a a
def Ce{l:List Nd}{a:Int}:x9 l a=true↔0<=a/\a<l.length:=by simp[x9]
def mZ{l:List Nd}{i:Nat}(h:i<l.length):YW l i=l[i].size:=by simp[YW,h]
def Ke{l:List Nd}(h:Zk l=true){i:Nat}(hi:i<l.length):1<=l[i].size/\l[i].size<=(l.length:Int)-i/\(l[i].kind=1\/l[i].size<=1):=by
 simp only[Zk,Ba]at h;exact jg l (l.length+1) 0 l.length (by omega) (YY _) h.2 i (by omega) hi hi
def wD(l:List Nd)(a:Nat):∀k,-1<=uF l a k/\uF l a k<k
 |0=>by simp[uF]
 |k+1=>by
  rw[uF];split
  .omega
  .have:=wD l a k;omega
open Go.Proofs Go.Proofs.Tryz
def AR(U:af)(l:List Int):bF U 1 (bh l)=some (l.map vI):=by simp[bh,bF]
def tt{l:List Nd}(hb:Zk l=true){i:Nat}(h:i<l.length):1<=YW l i/\YW l i<=l.length:=by
 rw[mZ h];have:=Ke hb h;omega
end Go.Vc
