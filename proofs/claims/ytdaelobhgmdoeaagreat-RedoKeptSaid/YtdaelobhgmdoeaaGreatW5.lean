/- Part 5 of the library of this proof. -/
import Derived.Test.YtdaelobhgmdoeaaGreatW4
set_option linter.all false
set_option maxHeartbeats 8000000
set_option maxRecDepth 100000
namespace Go.Vc
variable {P:Program} {n:Nat} {st:St} {Q:St->Prop} {k:List It}
def xD{W2:List (List Nat)}{A':List Nat}{i:Nat}(h:i∈dL W2 A'):i<W2.length/\i∉A'/\∀k∈W2.getD i [],k∈A':=by
 unfold dL at h;obtain⟨h1,h2⟩:=tm.1 h;simp only[Ba,Bool.not_eq_true',eT]at h2;exact⟨by simpa using h1,by simpa using h2.1,λk hk=>by simpa using h2.2 k hk⟩
def vH:∀(n:Nat) (L:List Nat),L.Nodup->(∀k∈L,k<n)->L.length<=n/\(L.length=n->∀k,k<n->k∈L)
 |0,L,_,h=>by
  cases L with
  |nil=>simp
  |cons a L=>have:=h a (by simp);omega
 |n+1,L,hd,h=>by
  by_cases hn:n∈L
  .have h1:=vH n (L.erase n) (hd.erase n) λk hk=>by
    have h2:=h k (List.mem_of_mem_erase hk);have h3:k≠n:=λe=>by subst e;exact(List.Nodup.not_mem_erase hd) hk
    omega
   have h4:=List.length_erase_of_mem hn;have h5:0<L.length:=List.length_pos_of_mem hn;refine⟨by omega,λhe k hk=>?_⟩;by_cases hkn:k=n
   .rw[hkn];exact hn
   .exact List.mem_of_mem_erase (h1.2 (by omega) k (by omega))
  .have h1:=vH n L hd λk hk=>by
    have h2:=h k hk;have h3:k≠n:=λe=>hn (e▸hk);omega
   exact⟨by omega,λhe=>by omega⟩
variable {P:Program} {n:Nat} {st:St} {Q:St->Prop} {k:List It}
def TC(P:Program)(i:aD)(x:St)(K:St->Prop):Prop:=T P i x K\/(aZ x.s i.g=some true/\match i.op with
 |.call fx xs=>∃f caps Post,fx.ev x.s=.fn f caps/\ax P f (xs.map (·.ev x.s)++caps) x.U Post/\∀r Z',Post r Z'->K ⟨aQ x.s i.dst r,Z'⟩
 |_=>False)
def TC.mono{i:aD}{x:St}{K K':St->Prop}(hk:∀x,K x->K' x)(h:TC P i x K):TC P i x K':=by
 rcases h with h|⟨h1,h2⟩
 .exact .inl (h.mono hk)
 .refine .inr ⟨h1,?_⟩;split at h2
  .obtain⟨f,caps,Post,g1,g2,g3⟩:=h2;exact⟨f,caps,Post,g1,g2,λr Z' hp=>hk _ (g3 r Z' hp)⟩
  .exact h2.elim
def HJ{F:Fr}(hn:F.n=n){o:Oper}{all:Array Oper}{x:St}{K:St->Prop}{a:Act}{w:World}(h:TC P (bM P n all o) x K)(hs:eE F x a w)
 {next:Act->World->Prop}{Q':Exit->Act->World->Prop}(WK:∀x' a' w',eE F x' a' w'->K x'->next a' w'):
 if Region.wanted o (yielded all a.tmps)then WX P n o.op≠.bad/\o.wp P a w next Q' else next (a.put o.dst undef) w:=by
 rcases h with h|⟨hw,h⟩
 .exact uY hn h hs WK
 subst hn;obtain⟨I,hs⟩:=hs;have hwant:=rG (P:=P) hs all o hw;rw[hwant];simp only[if_true];have hdst:(bM P F.n all o).dst=o.dst.filter (·<F.n):=rfl;have hopc:(bM P F.n all o).op=WX P F.n o.op:=rfl;rw[hdst,hopc]at h;split at h
 .rename_i fx xs WN;refine⟨λe=>?_,?_⟩
  .rw[WN]at e;cases e
  obtain⟨f,caps,Post,h1,h2,h3⟩:=h;obtain⟨f0,args,argTypes,g1,rfl,rfl⟩:=mo WN;refine mQ hs g1 h1 h2 λr Z' hp a' w' WT=>?_;exact WK _ a' w' WT (h3 r Z' hp)
 .exact h.elim
def TnC(P:Program)(n:Nat)(ops:Array Oper)(i:Nat)(x:St)(K:St->Prop):Prop:=match ops[i]? with
 |some o=>TC P (bM P n ops o) x K
 |none=>K x
def Az(P:Program)(n:Nat)(ops:Array Oper)(Q:St->Prop):Nat->Array Bool->St->Prop
 |0,A',x=>Region.ready .any ops A'=[]/\Q x
 |f+1,A',x=>(Region.ready .any ops A'=[]->Q x)/\∀i∈Region.ready .any ops A',TnC P n ops i x (Az P n ops Q f (A'.setIfInBounds i true))
def nN{F:Fr}(hn:F.n=n){ops:Array Oper}{Q:St->Prop}{Q':Exit->Act->World->Prop}(hQ:∀x a w,eE F x a w->Q x->Q' .normal a w):
 ∀(f:Nat) (A':Array Bool) (x:St) (a:Act) (w:World),eE F x a w->Az P n ops Q f A' x->wpAnyIn F.ed 0 P .any ops Q' f A' a w
 |0,_,_,_,_,hs,h=>⟨h.1,hQ _ _ _ hs h.2⟩
 |f+1,A',x,a,w,hs,h=>by
  refine⟨λh0=>hQ _ _ _ hs (h.1 h0),λi hi=>?_⟩;have h1:=h.2 i hi;unfold TnC at h1;unfold wpOpIn;cases ho:ops[i]? with
  |none=>
   simp only[ho]at h1;exact nN hn hQ f _ x a w hs h1
  |some o=>
   simp only[ho]at h1;have h2:=HJ (Q':=Q') hn h1 hs λx' a' w' WT hk=>nN hn hQ f _ x' a' w' WT hk;by_cases hw:Region.wanted o (yielded ops a.tmps)=true
   .rw[aq hw]at h2;simp only[hw,if_true];exact Gb (ke h2.1) h2.2
   .rw[ao hw]at h2;simp only[hw];exact⟨λ_ _=>trivial,h2⟩
def xL(P:Program)(l:List aD)(rec:List Nat->St->Prop)(A':List Nat)(x:St):List Nat->Prop
 |[]=>True
 |i::is=>(match l[i]? with
   |some ins=>TC P ins x (rec (i::A'))
   |none=>False)/\xL P l rec A' x is
def ja(P:Program)(l:List aD)(W2:List (List Nat))(Q:St->Prop):Nat->List Nat->St->Prop
 |0,A',x=>dL W2 A'=[]/\Q x
 |f+1,A',x=>match dL W2 A' with
   |[]=>Q x
   |i::is=>xL P l (ja P l W2 Q f) A' x (i::is)
def pc{l:List aD}{rec:List Nat->St->Prop}{A':List Nat}{x:St}:∀{is:List Nat},xL P l rec A' x is->∀i∈is,∃ins,l[i]?=some ins/\TC P ins x (rec (i::A'))
 |[],_,_,hi=>by cases hi
 |j::is,h,i,hi=>by
  obtain⟨h1,h2⟩:=h;rcases db.1 hi with rfl|hi
  .cases hl:l[i]? with
   |none=>rw[hl]at h1;exact h1.elim
   |some ins=>rw[hl]at h1;exact⟨ins,rfl,h1⟩
  .exact pc h2 i hi
def nu{ops:Array Oper}{Q:St->Prop}:∀(f:Nat) (arr:Array Bool) (A':List Nat) (x:St),arr.size=ops.size->(∀i,i<ops.size->arr.getD i true=A'.contains i)->
 (∀i∈A',i<ops.size)->ja P (ops.toList.map (bM P n ops)) (kj ops) Q f A' x->Az P n ops Q f arr x
 |0,arr,A',x,hs,hl,ho,h=>⟨by rw[yZ hs hl ho];exact h.1,h.2⟩
 |f+1,arr,A',x,hs,hl,ho,h=>by
  have hr:=yZ hs hl ho;unfold ja at h;refine⟨λh0=>?_,λi hi=>?_⟩
  .rw[hr]at h0;rw[h0]at h;exact h
  .rw[hr]at hi;have H':i<ops.size:=by
    have:=(tm.1 hi).1;simpa[kj]using this
   have XF:xL P (ops.toList.map (bM P n ops)) (ja P (ops.toList.map (bM P n ops)) (kj ops) Q f) A' x (dL (kj ops) A'):=by
    cases hrr:dL (kj ops) A' with
    |nil=>exact trivial
    |cons j js=>rw[hrr]at h;exact h
   obtain⟨ins,h1,h2⟩:=pc XF i hi;have h3:ops[i]?=some ops[i]:=Array.getElem?_eq_getElem H';have h4:ins=bM P n ops ops[i]:=by simpa[H']using h1.symm
   unfold TnC;simp only[h3];rw[<-h4];refine h2.mono λx' W8=>nu f _ (i::A') x' (by simpa using hs) (λj hj=>?_) (λj hj=>?_) W8
   .by_cases e:j=i
    .subst e;rw[Zq7,Array.getElem?_setIfInBounds_self_of_lt (by omega)];simp
    .rw[Zq7,Array.getElem?_setIfInBounds_ne (λe'=>e e'.symm),<-Zq7,hl j hj];simp[e]
   .rcases db.1 hj with rfl|hj
    .exact H'
    .exact ho j hj
def ab.M9(hm:P.follows .mixedOrders=true){l:List aD}{W2:List (List Nat)}(h:ja P l W2 (λx=>ab P n k x Q) l.length [] st):ab P n (.code (.regA l W2)::k) st Q:=by
 intro F hn kt hk a w hs;obtain⟨z,YN,rfl,hy,Yc⟩:=dN hk;obtain⟨c0,rfl,XZ⟩:=gw hy;have hc0:∃id ops,c0=.region id ops true/\ops.toList.map (bM P n ops)=l/\kj ops=W2:=by
  cases c0<;>simp only[dk,reduceCtorEq]at XZ;rename_i id ops draw;cases draw
  .simp at XZ
  .simp only[Bool.true_and]at XZ;split at XZ
   .cases XZ
   split at XZ
   .simp only[bG.regA.injEq]at XZ;exact⟨id,ops,rfl,XZ.1,XZ.2⟩
   .simp at XZ
 obtain⟨id,ops,rfl,rfl,rfl⟩:=hc0;have WT:eE F st a { w with drawn:=w.drawn+1 }:=by
  obtain⟨I,hs⟩:=hs;have hk:cM (az I st.U) (az I st.U) w { w with drawn:=w.drawn+1 }:=λ_ _ h=>⟨h,rfl⟩
  refine⟨I,⟨⟨hs.sat.size,hs.sat.os,hs.sat.tape,hs.sat.output,hs.sat.same,hs.sat.fin,hs.sat.inj,λid o ho=>?_,hs.sat.fresh,hs.sat.glob⟩,hs.le,hs.size,hs.book.lV hk,λi hi=>?_⟩⟩
  .exact(hs.sat.obj id o ho).mono (cI.refl I) hk (Xm _) (λ_ _ _ _=>rfl)
  .exact E'.mono (cI.refl I) hk (Xm _) _ _ (hs.slot i hi)
 refine wpIn_region_any hm (nN (Q:=λx=>ab P n k x Q) hn (λx a w hs h=>h F hn YN Yc a w hs) _ _ _ _ _ WT ?_);have:=nu (P:=P) (n:=n) (Q:=λx=>ab P n k x Q) (ops:=ops) ops.size (Array.replicate ops.size false) [] st (by simp) (λi hi=>by
  rw[Zq7,Array.getElem?_replicate,aq hi];simp) (by simp) (by simpa using h)
 exact this
def rH{l:List aD}{rec:List Nat->St->Prop}{A':List Nat}{x:St}:∀{is:List Nat},(∀i∈is,∃ins,l[i]?=some ins/\TC P ins x (rec (i::A')))->xL P l rec A' x is
 |[],_=>trivial
 |j::is,h=>by
  obtain⟨ins,h1,h2⟩:=h j (by simp);refine⟨by rw[h1];exact h2,rH λi hi=>h i (by simp[hi])⟩
variable {P:Program} {n:Nat} {st:St} {Q:St->Prop} {k:List It}
def QYd(P:Program)(i:aD)(x:St):Prop:=match i.dst with
 |some d=>QY P i x.s x.U (x.s d)
 |none=>∃v,QY P i x.s x.U v
def RE(P:Program)(l:List aD)(K:St->Prop):List Nat->St->Prop
 |[],x=>K x
 |m::its,x=>match l[m/2]? with
  |none=>False
  |some ins=>if m%2=0 then TC P ins x (RE P l K its)else QYd P ins x/\RE P l K its x
def bn(l:List aD)(i:Nat):aD:=(l[i]?).getD ⟨none,.bad,none⟩
def eQ(WZ:List (List Nat))(i:Nat):List Nat:=WZ.getD i []
def dv(l:List aD)(WZ:List (List Nat))(j:Nat):Bool:=bf (bn l j).op != 0||(match(bn l j).dst with
 |some d=>(List.range l.length).any λi=>(bn l i).mz.contains d&&!(eQ WZ i).contains j
 |none=>false)
def Gr(l:List aD)(WZ:List (List Nat))(done:List Nat)(e:Nat):List Nat:=
 if dv l WZ e then done.filterMap λk=>if !(dv l WZ k)&&(!(lD (bn l k).op)&&!((eQ WZ e).contains k))then some (2*k+1)else none else[]
def eg(l:List aD)(WZ:List (List Nat)):List Nat->List Nat->List Nat
 |_,[]=>[]
 |done,e::r=>2*e::(Gr l WZ done e++eg l WZ (done++[e]) r)
def nO(p:Nat->Nat->Bool):List Nat->Bool
 |[]=>true
 |a::r=>r.all (p a)&&nO p r
def nJ{p:Nat->Nat->Bool}:∀{a:List Nat} {b:List Nat} {x y:Nat},nO p (a++b)=true->x∈a->y∈b->p x y=true
 |[],_,_,_,_,h,_=>by cases h
 |c::a,b,x,y,hp,hx,hy=>by
  simp only[List.cons_append,nO,Ba]at hp;rcases db.1 hx with rfl|hx
  .exact eT.1 hp.1 y (List.mem_append_right _ hy)
  .exact nJ hp.2 hx hy
def wj(f:Nat->List Nat):List Nat->List Nat->Bool
 |_,[]=>true
 |done,e::r=>(f e).all done.contains&&wj f (done++[e]) r
def tz{f:Nat->List Nat}:∀{r done:List Nat} {a:List Nat} {e:Nat} {b:List Nat},wj f done r=true->r=a++e::b->∀x∈f e,x∈done++a
 |[],_,a,e,b,_,h,_,_=>by simp at h
 |c::r,done,[],e,b,hB,h,x,hx=>by
  simp only[j6,List.cons.injEq]at h;obtain⟨rfl,rfl⟩:=h;simp only[wj,Ba]at hB;simpa using eT.1 hB.1 x hx
 |c::r,done,d::a,e,b,hB,h,x,hx=>by
  simp only[List.cons_append,List.cons.injEq]at h;obtain⟨rfl,rfl⟩:=h;simp only[wj,Ba]at hB;have:=tz hB.2 rfl x hx;simpa using this
def Mn(l:List aD)(W2 WZ:List (List Nat))(ord:List Nat):Bool:=
 (decide (ord.length=l.length)&&(decide (W2.length=l.length)&&ord.all λi=>decide (i<l.length)))&&
 (nO (λa b=>decide (a≠b)) ord&&
 (wj (λi=>W2.getD i []) [] ord&&
 ((List.range l.length).all (λj=>(eQ WZ j).all λi=>(W2.getD j []).any λd=>d==i||(eQ WZ d).contains i)&&
 ((List.range l.length).all (λi=>(List.range l.length).all λj=>i==j||((bn l i).dst.isNone||(bn l i).dst != (bn l j).dst))&&
 (List.range l.length).all (λi=>(List.range l.length).all λj=>i==j||(match(bn l j).dst with
   |some d=>!((bn l i).mz.contains d)||((eQ WZ i).contains j||(dv l WZ j&&(eQ WZ j).contains i))
   |none=>true))))))
def eOk(l:List aD)(W2 WZ:List (List Nat))(ord:List Nat):Bool:=Mn l W2 WZ ord&&nO (λa b=>!(dv l WZ a)||(eQ WZ b).contains a) ord
def tM:∀{l:List Nat},nO (λa b=>decide (a≠b)) l=true->l.Nodup
 |[],_=>List.nodup_nil
 |a::r,h=>by
  simp only[nO,Ba]at h;refine List.nodup_cons.2 ⟨λhm=>?_,tM h.2⟩;have:=eT.1 h.1 a hm;simp at this
structure EOkW(l:List aD)(W2 WZ:List (List Nat))(ord:List Nat):Prop where
 len:ord.length=l.length
 dlen:W2.length=l.length
 lt:∀i∈ord,i<l.length
 nodup:ord.Nodup
 ahead:∀a e b,ord=a++e::b->∀x∈W2.getD e [],x∈a
 anc:∀j,j<l.length->∀i∈eQ WZ j,∃d∈W2.getD j [],d=i\/i∈eQ WZ d
 dsts:∀i j,i<l.length->j<l.length->i≠j->∀d,(bn l i).dst=some d->(bn l j).dst≠some d
 anti:∀i j,i<l.length->j<l.length->i≠j->∀d,(bn l j).dst=some d->d∈(bn l i).mz->j∈eQ WZ i\/(dv l WZ j=true/\i∈eQ WZ j)
def zB{l:List aD}{W2 WZ:List (List Nat)}{ord:List Nat}(h:Mn l W2 WZ ord=true):EOkW l W2 WZ ord:=by
 simp only[Mn,Ba,Zs]at h;obtain⟨⟨h1,h2,h3⟩,h4,h5,h6,h7,h8⟩:=h;refine⟨h1,h2,λi hi=>by simpa using eT.1 h3 i hi,tM h4,λa e b he x hx=>by simpa using tz h5 he x hx,?_,?_,?_⟩
 .intro j hj i hi;have:=eT.1 (eT.1 h6 j (by simpa using hj)) i hi;simp only[PX,kX,beq_iff_eq,List.contains_iff_mem]at this;exact this
 .intro i j hi hj W6 d hd he;have:=eT.1 (eT.1 h7 i (by simpa using hi)) j (by simpa using hj);simp only[kX,beq_iff_eq,hd,he,Option.isNone_some,bne_self_eq_false,fG,or_false]at this;exact W6 this
 .intro i j hi hj W6 d hd hu;have:=eT.1 (eT.1 h8 i (by simpa using hi)) j (by simpa using hj);simp only[kX,beq_iff_eq,hd,Ba,Bool.not_eq_true',List.contains_iff_mem]at this;rcases this with h|h|h
  .exact absurd h W6
  .have hc:(bn l i).mz.contains d=true:=List.contains_iff_mem.2 hu;rw[hc]at h;cases h
  .exact h
structure EOk(l:List aD)(W2 WZ:List (List Nat))(ord:List Nat):Prop extends EOkW l W2 WZ ord where
 Zf:∀a b x y,ord=a++b->x∈a->y∈b->dv l WZ x=true->x∈eQ WZ y
def Cr{l:List aD}{W2 WZ:List (List Nat)}{ord:List Nat}(h:eOk l W2 WZ ord=true):EOk l W2 WZ ord:=by
 simp only[eOk,Ba]at h;refine⟨zB h.1,λa b x y he hx hy hxe=>?_⟩;have h9:=h.2;rw[he]at h9;have:=nJ h9 hx hy;simp only[hxe,Bool.not_true,Bool.false_or,List.contains_iff_mem]at this;exact this
def EOkW.closed{l:List aD}{W2 WZ:List (List Nat)}{ord:List Nat}(h:EOkW l W2 WZ ord){L:List Nat}(hc:∀m∈L,∀d∈W2.getD m [],d∈L)(hmem:∀i,i<l.length->i∈ord):
 ∀(m:Nat) (a:List Nat) (j:Nat) (b:List Nat),a.length<m->ord=a++j::b->(∀d∈W2.getD j [],d∈L)->∀i∈eQ WZ j,i∈L:=by
 intro m
 induction m with
 |zero=>intro a j b ha;omega
 |succ m ih=>
  intro a j b ha he hd i hi;have hj:j<l.length:=h.lt j (by rw[he];simp);obtain⟨d,h1,h2⟩:=h.anc j hj i hi;rcases h2 with rfl|h2
  .exact hd d h1
  .have Yj:=h.ahead a j b he d h1;obtain⟨a1,a2,rfl⟩:=List.append_of_mem Yj;exact ih a1 d (a2++j::b) (by simp at ha;omega) (by rw[he];simp) (λd' h'=>hc d (hd d h1) d' h') i h2
def oK{i:aD}{s s':Nat->V}(h:∀u∈i.mz,s u=s' u):aZ s i.g=aZ s' i.g:=by
 cases hg:i.g with
 |none=>rfl
 |some g=>
  obtain⟨x,b⟩:=g;have:x.ev s=x.ev s':=by
   cases x with
   |t t=>exact h t (List.mem_filterMap.2 ⟨.t t,List.mem_append_right _ (by simp[hg]),rfl⟩)
   |c v=>rfl
  simp only[aZ,this]
def Cf{i:aD}{s s':Nat->V}(h:∀u∈i.mz,s u=s' u):∀x∈i.op.xs,x.ev s=x.ev s':=λx hx=>by
 cases x with
 |t t=>exact h t (FX hx rfl)
 |c v=>rfl
def BA{i:aD}{s s':Nat->V}{U:ag}{v:V}(h:∀u∈i.mz,s u=s' u)(hq:QY P i s U v):QY P i s' U v:=by
 unfold QY at*;rw[<-oK h];exact hq.imp (λ⟨h1,h2⟩=>⟨h1,vO (Cf h) h2⟩) id
def CP{i:aD}{x y:St}{K K':St->Prop}(h:∀u∈i.mz,x.s u=y.s u)(W4:x.U=y.U)(hk:∀r Z',K ⟨aQ x.s i.dst r,Z'⟩->K' ⟨aQ y.s i.dst r,Z'⟩)(ht:TC P i x K):TC P i y K':=by
 have hx:=Cf h;rcases ht with ht|⟨hw,ht⟩
 .refine .inl ?_;unfold T at*;rw[<-oK h];split<;>rename_i ho<;>simp only[ho]at ht
  .unfold TO at*;split<;>rename_i hk0<;>simp only[hk0]at ht
   .obtain⟨g1,v,g2,g3⟩:=ht;obtain⟨e1,e2⟩:=ux (U:=y.U) hx;exact⟨e2.1 g1,v,by rw[<-e1,<-W4];exact g2,by rw[<-W4];exact hk _ _ g3⟩
   .split at ht
    .rename_i fx xs WN;obtain⟨f,caps,v,g1,g2,g3⟩:=ht;refine⟨f,caps,v,?_,?_,by rw[<-W4];exact hk _ _ g3⟩
     .rw[<-hx fx (by rw[WN];simp[W5.xs])];exact g1
     .rw[<-sS (s:=x.s) (s':=y.s) λz hz=>hx z (by rw[WN];simp[W5.xs,hz]),<-W4];exact g2
    .exact ht.elim
   .split at ht
    .rename_i sz xa xv WN;obtain⟨Z',g1,g2⟩:=ht;refine⟨Z',?_,hk _ _ g2⟩;rw[<-hx xa (by rw[WN];simp[W5.xs]),<-hx xv (by rw[WN];simp[W5.xs]),<-W4];exact g1
    .exact ht.elim
   .obtain⟨g,g1,g2⟩:=ht;refine⟨g,by rw[<-fE hx,<-W4];exact g1,λid P'=>hk _ _ (g2 id (by rw[W4];exact P'))⟩
  .rw[<-W4];exact hk _ _ ht
 .refine .inr ⟨by rw[<-oK h];exact hw,?_⟩;split at ht
  .rename_i fx xs WN;obtain⟨f,caps,Post,g1,g2,g3⟩:=ht;refine⟨f,caps,Post,?_,?_,λr Z' hp=>hk _ _ (g3 r Z' hp)⟩
   .rw[<-hx fx (by rw[WN];simp[W5.xs])];exact g1
   .rw[<-sS (s:=x.s) (s':=y.s) λz hz=>hx z (by rw[WN];simp[W5.xs,hz]),<-W4];exact g2
  .exact ht.elim
structure kJ(P:Program)(l:List aD)(W2 WZ:List (List Nat))(ord:List Nat)(K:St->Prop)(L:List Nat)(y:St)(done rest:List Nat)(x:St):Prop where
 split:ord=done++rest
 sub:∀i∈L,i∈done
 nodup:L.Nodup
 closed:∀m∈L,∀d∈W2.getD m [],d∈L
 Zf:∀i∈done,dv l WZ i=true->i∈L
 store:y.U=x.U
 slot:∀d,(∀i∈done,i∉L->(bn l i).dst≠some d)->y.s d=x.s d
 lag:∀i∈done,i∉L->QYd P (bn l i) x
 go:RE P l K (eg l WZ done rest) x
def ir{l:List aD}{WZ:List (List Nat)}{e:Nat}(h:dv l WZ e=false)(he:e<l.length)(W6:e∉eQ WZ e):bf (bn l e).op=0/\∀d,(bn l e).dst=some d->d∉(bn l e).mz:=by
 simp only[dv,Bool.or_eq_false_iff,bne_eq_false_iff_eq]at h;refine⟨h.1,λd hd hu=>?_⟩;have h2:=h.2;rw[hd]at h2;simp only[List.any_eq_false,List.mem_range,Ba,Bool.not_eq_true',not_and,Bool.not_eq_false]at h2;have:=h2 e he (List.contains_iff_mem.2 hu);exact W6 (List.contains_iff_mem.1 this)
def Fh{l:List aD}{K:St->Prop}{e:Nat}{its:List Nat}{x:St}(he:e<l.length):RE P l K (2*e::its) x↔TC P (bn l e) x (RE P l K its):=by
 have h1:2*e/2=e:=by omega
 have h2:2*e%2=0:=by omega
 rw[RE,h1,ZF he];simp only[aq h2,bn,ZF he,Option.getD_some]
def Py{l:List aD}{K:St->Prop}{e:Nat}{its:List Nat}{x:St}(he:e<l.length):RE P l K ((2*e+1)::its) x↔QYd P (bn l e) x/\RE P l K its x:=by
 have h1:(2*e+1)/2=e:=by omega
 have h2:¬(2*e+1)%2=0:=by omega
 rw[RE,h1,ZF he];simp only[ao h2,bn,ZF he,Option.getD_some]
def u7{l:List aD}{K:St->Prop}{its:List Nat}{x:St}(p:Nat->Bool):∀{done:List Nat},(∀i∈done,i<l.length)->RE P l K ((done.filterMap λk=>if p k then some (2*k+1)else none)++its) x->
 (∀k∈done,p k=true->QYd P (bn l k) x)/\RE P l K its x
 |[],_,h=>⟨by simp,h⟩
 |a::r,hl,h=>by
  rw[List.filterMap_cons]at h;cases hp:p a with
  |false=>
   simp only[hp,fG,if_false]at h;obtain⟨h1,h2⟩:=u7 p (λi hi=>hl i (by simp[hi])) h;refine⟨λk hk hpk=>?_,h2⟩;rcases db.1 hk with rfl|hk
   .rw[hp]at hpk;cases hpk
   .exact h1 k hk hpk
  |true=>
   simp only[hp,if_true,List.cons_append]at h;rw[Py (hl a (by simp))]at h;obtain⟨h1,h2⟩:=u7 p (λi hi=>hl i (by simp[hi])) h.2;refine⟨λk hk hpk=>?_,h2⟩;rcases db.1 hk with rfl|hk
   .exact h.1
   .exact h1 k hk hpk
section
variable {l:List aD} {W2 WZ:List (List Nat)} {ord:List Nat} {K:St->Prop} (hE:EOkW l W2 WZ ord)
include hE
def EOkW.mem(i:Nat)(hi:i<l.length):i∈ord:=(vH l.length ord hE.nodup hE.lt).2 hE.len i hi
def EOkW.nK{a:List Nat}{j:Nat}{b:List Nat}(he:ord=a++j::b):∀i∈eQ WZ j,i∈a:=by
 have hc:∀m∈a,∀d∈W2.getD m [],d∈a:=λm hm d hd=>by
  obtain⟨a1,a2,rfl⟩:=List.append_of_mem hm;have:=hE.ahead a1 m (a2++j::b) (by rw[he];simp) d hd;simp[this]
 exact hE.closed hc hE.mem (a.length+1) a j b (by omega) he (λd hd=>hE.ahead a j b he d hd)
def EOkW.oW{j:Nat}(hj:j<l.length):j∉eQ WZ j:=λh=>by
 obtain⟨a,b,he⟩:=List.append_of_mem (hE.mem j hj);have h1:=hE.nK he j h;have:=hE.nodup;rw[he]at this;have:=(List.nodup_append.1 this).2.2 j h1 j (by simp);exact this rfl
def vw{i:Nat}{x:St}{e:Nat}{v:V}{Z':ag}(hi:i<l.length)(he:e<l.length)(W6:i≠e)(hu:∀d,(bn l e).dst=some d->d∉(bn l i).mz)
 (hq:∀v,QY P (bn l i) x.s x.U v->QY P (bn l i) x.s Z' v)(h:QYd P (bn l i) x):QYd P (bn l i) ⟨aQ x.s (bn l e).dst v,Z'⟩:=by
 unfold QYd at*;have hq':∀v',QY P (bn l i) x.s x.U v'->QY P (bn l i) (aQ x.s (bn l e).dst v) Z' v':=λv' hv=>(gk hu).2 (hq v' hv);cases hd:(bn l i).dst with
 |none=>rw[hd]at h;obtain⟨v',h⟩:=h;exact⟨v',hq' v' h⟩
 |some d=>
  rw[hd]at h;simp only at h|-;have:aQ x.s (bn l e).dst v d=x.s d:=by
   have:=hE.dsts i e hi he W6 d hd;cases hde:(bn l e).dst with
   |none=>rfl
   |some d'=>
    rw[hde]at this;simp only[aQ];rw[ao (λe'=>this (by rw[e']))]
  rw[this];exact hq' _ h
def kJ.adv{L:List Nat}{y:St}:∀{rest done:List Nat} {x:St},kJ P l W2 WZ ord K L y done rest x->
 ∃done' rest' x',kJ P l W2 WZ ord K L y done' rest' x'/\∀h r,rest'=h::r->dv l WZ h=true
 |[],done,x,h=>⟨done,[],x,h,by simp⟩
 |e::rest,done,x,h=>by
  cases heff:dv l WZ e with
  |true=>exact⟨done,e::rest,x,h,λa r he=>by cases he;exact heff⟩
  |false=>
   have hel:e<l.length:=hE.lt e (by rw[h.split];simp);obtain⟨hk,hself⟩:=ir heff hel (hE.oW hel);have YK:=hE.nodup;rw[h.split]at YK;have hed:e∉done:=λhm=>(List.nodup_append.1 YK).2.2 e hm e (by simp) rfl;have heL:e∉L:=λhm=>hed (h.sub e hm);have Zd:=h.go;rw[eg,Fh hel,Gr,ao (by simp[heff]),j6]at Zd;have hT:T P (bn l e) x (RE P l K (eg l WZ (done++[e]) rest)):=by
    rcases Zd with Zd|⟨_,Zd⟩
    .exact Zd
    .exfalso;revert Zd hk;generalize (bn l e).op=op;intro hk Zd;split at Zd
     .simp[bf]at hk
     .exact Zd
   obtain⟨v,hv,hgo'⟩:=(cm (by simp[fF,hk])).1 hT;refine kJ.adv (rest:=rest) (done:=done++[e]) (x:=⟨aQ x.s (bn l e).dst v,x.U⟩) ⟨by rw[h.split];simp,λi hi=>by simp[h.sub i hi],h.nodup,h.closed,λi hi ZI=>?_,h.store,λd hd=>?_,λi hi hiL=>?_,hgo'⟩
   .rcases dD.1 hi with hi|hi
    .exact h.Zf i hi ZI
    .simp only[jV]at hi;rw[hi,heff]at ZI;cases ZI
   .have h1:=h.slot d λi hi hiL=>hd i (by simp[hi]) hiL;have h2:=hd e (by simp) heL;rw[h1];simp only;cases hde:(bn l e).dst with
    |none=>rfl
    |some d'=>
     rw[hde]at h2;simp only[aQ];rw[ao (λe'=>h2 (by rw[e']))]
   .by_cases ZI:i=e
    .subst ZI;unfold QYd;cases hd:(bn l i).dst with
     |none=>exact⟨v,hv⟩
     |some d=>
      simp only;have e1:aQ x.s (some d) v d=v:=by simp[aQ]
      rw[e1];exact(gk (λt ht=>by cases ht;exact hself d hd)).2 hv
    .have P':i∈done:=by
      rcases dD.1 hi with hi|hi
      .exact hi
      .simp only[jV]at hi;exact absurd hi ZI
     have Zy:i<l.length:=hE.lt i (by rw[h.split];simp[P']);refine vw hE Zy hel ZI (λd hd hu=>?_) (λv hv=>hv) (h.lag i P' hiL);rcases hE.anti i e Zy hel ZI d hd hu with h1|⟨h1,_⟩
     .obtain⟨a,b,hab⟩:=List.append_of_mem P';have h2:=hE.nK (a:=a) (j:=i) (b:=b++e::rest) (by rw[h.split,hab];simp) e h1;exact hed (by rw[hab];simp[h2])
     .rw[heff]at h1;cases h1
end
section
variable {l:List aD} {W2 WZ:List (List Nat)} {ord:List Nat} {K:St->Prop} (hE:EOk l W2 WZ ord)
include hE
def rT:∀(f:Nat) (L:List Nat) (y:St) (done rest:List Nat) (x:St),f+L.length=l.length->kJ P l W2 WZ ord K L y done rest x->ja P l W2 K f L y:=by
 intro f
 induction f with
 |zero=>
  intro L y done rest x hf h;have XF:∀i,i<l.length->i∈L:=(vH l.length L h.nodup λi hi=>hE.lt i (by rw[h.split];simp[h.sub i hi])).2 (by omega);have YK:=hE.nodup;rw[h.split]at YK;have hrest:rest=[]:=by
   cases rest with
   |nil=>rfl
   |cons e r=>
    exfalso;have hel:e<l.length:=hE.lt e (by rw[h.split];simp);exact(List.nodup_append.1 YK).2.2 e (h.sub e (XF e hel)) e (by simp) rfl
  subst hrest;have hyx:y=x:=by
   obtain⟨s,U⟩:=y;obtain⟨s',Z'⟩:=x;have h1:U=Z':=h.store;have h2:s=s':=funext λd=>h.slot d λi hi hiL=>absurd (XF i (hE.lt i (by rw[h.split];simp[hi]))) hiL;rw[h1,h2]
  refine⟨?_,by rw[hyx];exact h.go⟩;unfold dL;rw[List.filter_eq_nil_iff];intro i hi;simp only[List.mem_range,hE.dlen]at hi;simp[XF i hi]
 |succ f ih=>
  intro L y done rest x hf h;obtain⟨done,rest,x,h,hhead⟩:=kJ.adv hE.toEOkW h;have YK:=hE.nodup;rw[h.split]at YK;have hmemL:∀i∈L,i<l.length:=λi hi=>hE.lt i (by rw[h.split];simp[h.sub i hi]);have key:xL P l (ja P l W2 K f) L y (dL W2 L):=by
   refine rH λi hi=>?_;obtain⟨Zy,hiL,hdep⟩:=xD hi;rw[hE.dlen]at Zy;refine⟨bn l i,by simp[bn,ZF Zy],?_⟩;obtain⟨pa,pb,hpe⟩:=List.append_of_mem (hE.mem i Zy);have hbefL:∀j∈eQ WZ i,j∈L:=hE.closed h.closed hE.mem (pa.length+1) pa i pb (by omega) hpe hdep;have huses:∀u∈(bn l i).mz,x.s u=y.s u:=λu hu=>(h.slot u λj hj hjL hd=>by
    have hjl:j<l.length:=hE.lt j (by rw[h.split];simp[hj]);by_cases YO:j=i
    .subst YO;cases Yq:dv l WZ j with
     |true=>exact hjL (h.Zf j hj Yq)
     |false=>exact(ir Yq hjl (hE.oW hjl)).2 u hd hu
    .rcases hE.anti i j Zy hjl (λe=>YO e.symm) u hd hu with h1|⟨h1,_⟩
     .exact hjL (hbefL j h1)
     .exact hjL (h.Zf j hj h1)).symm
   by_cases P':i∈done
   .have ZI:dv l WZ i=false:=by
     cases ZI:dv l WZ i with
     |false=>rfl
     |true=>exact absurd (h.Zf i P' ZI) hiL
    obtain⟨hk,_⟩:=ir ZI Zy (hE.oW Zy);have hq:=h.lag i P' hiL;obtain⟨v,hv,hvd⟩:∃v,QY P (bn l i) x.s x.U v/\∀d,(bn l i).dst=some d->x.s d=v:=by
     unfold QYd at hq;cases hd:(bn l i).dst with
     |none=>rw[hd]at hq;obtain⟨v,hq⟩:=hq;exact⟨v,hq,by simp⟩
     |some d=>rw[hd]at hq;exact⟨_,hq,λd' e=>by cases e;rfl⟩
    refine .inl ((cm (by simp[fF,hk])).2 ⟨v,?_,?_⟩)
    .rw[h.store];exact BA huses hv
    .refine ih (i::L) _ done rest x (by simp only[XX];omega) ⟨h.split,λj hj=>?_,List.nodup_cons.2 ⟨hiL,h.nodup⟩,λm hm d hd=>?_,λj hj Yq=>by simp[h.Zf j hj Yq],h.store,λd hd=>?_,λj hj hjL=>h.lag j hj (λhm=>hjL (by simp[hm])),h.go⟩
     .rcases db.1 hj with rfl|hj
      .exact P'
      .exact h.sub j hj
     .rcases db.1 hm with rfl|hm
      .simp[hdep d hd]
      .simp[h.closed m hm d hd]
     .simp only;by_cases hdi:(bn l i).dst=some d
      .rw[hdi];simp only[aQ];rw[aq trivial];exact(hvd d hdi).symm
      .have h1:=h.slot d λj hj hjL=>by
        by_cases YO:j=i
        .rw[YO];exact hdi
        .exact hd j hj (by simp[YO,hjL])
       rw[<-h1];cases hde:(bn l i).dst with
       |none=>rfl
       |some d'=>
        rw[hde]at hdi;simp only[aQ];rw[ao (λe'=>hdi (by rw[e']))]
   .have hir:i∈rest:=by
     have:=hE.mem i Zy;rw[h.split]at this;exact(dD.1 this).resolve_left P'
    obtain⟨hd0,rr,rfl⟩:∃a r,rest=a::r:=by
     cases rest with
     |nil=>cases hir
     |cons a r=>exact⟨a,r,rfl⟩
    have heff:=hhead hd0 rr rfl;have hh0:hd0∉done:=λhm=>(List.nodup_append.1 YK).2.2 hd0 hm hd0 (by simp) rfl;have hih:i=hd0:=by
     rcases db.1 hir with e|hir
     .exact e
     .exfalso;have:=hE.Zf (done++[hd0]) rr hd0 i (by rw[h.split];simp) (by simp) hir heff;exact hh0 (h.sub _ (hbefL _ this))
    subst hih;have Zd:=h.go;rw[eg,Fh Zy]at Zd;refine CP huses h.store.symm (λr Z' hK=>?_) Zd;rw[Gr,aq heff]at hK;obtain⟨hck,hgo'⟩:=u7 (λk=>!(dv l WZ k)&&(!(lD (bn l k).op)&&!((eQ WZ i).contains k))) (λj hj=>hE.lt j (by rw[h.split];simp[hj])) hK;refine ih (i::L) _ (done++[i]) rr ⟨aQ x.s (bn l i).dst r,Z'⟩ (by simp only[XX];omega) ⟨by rw[h.split];simp,λj hj=>?_,List.nodup_cons.2 ⟨hiL,h.nodup⟩,λm hm d hd=>?_,λj hj Yq=>?_,rfl,λd hd=>?_,λj hj hjL=>?_,hgo'⟩
    .rcases db.1 hj with rfl|hj
     .simp
     .simp[h.sub j hj]
    .rcases db.1 hm with rfl|hm
     .simp[hdep d hd]
     .simp[h.closed m hm d hd]
    .rcases dD.1 hj with hj|hj
     .simp[h.Zf j hj Yq]
     .simp only[jV]at hj;simp[hj]
    .have h1:(bn l i).dst=some d\/y.s d=x.s d:=by
      by_cases hdi:(bn l i).dst=some d
      .exact .inl hdi
      .exact .inr (h.slot d λj hj hjL=>hd j (by simp[hj]) (by
        simp only[db,not_or];exact⟨λe=>P' (e▸hj),hjL⟩))
     simp only;cases hde:(bn l i).dst with
     |none=>rw[hde]at h1;exact h1.resolve_left (by simp)
     |some d'=>
      simp only[aQ];split
      .rfl
      .rename_i W6;rw[hde]at h1;exact h1.resolve_left (λe=>W6 (by cases e;rfl))
    .have hjd:j∈done:=by
      rcases dD.1 hj with hj|hj
      .exact hj
      .simp only[jV]at hj;exact absurd (by simp[hj]) hjL
     have hjL':j∉L:=λhm=>hjL (by simp[hm]);have hjl:j<l.length:=hE.lt j (by rw[h.split];simp[hjd]);have YO:j≠i:=λe=>P' (e▸hjd);have Yq:dv l WZ j=false:=by
      cases Yq:dv l WZ j with
      |false=>rfl
      |true=>exact absurd (h.Zf j hjd Yq) hjL'
     cases hsf:lD (bn l j).op with
     |true=>
      refine vw hE.toEOkW hjl Zy YO (λd hd hu=>?_) (λv hv=>kG hsf hv) (h.lag j hjd hjL');rcases hE.anti j i hjl Zy YO d hd hu with h1|⟨_,h1⟩
      .obtain⟨a,b,hab⟩:=List.append_of_mem hjd;have h2:=hE.nK (a:=a) (j:=j) (b:=b++i::rr) (by rw[h.split,hab];simp) i h1;exact P' (by rw[hab];simp[h2])
      .exact hjL' (hbefL j h1)
     |false=>
      refine hck j hjd ?_;simp only[Yq,hsf,Bool.not_false,Bool.true_and,Bool.not_eq_true'];cases hc:(eQ WZ i).contains j with
      |false=>rfl
      |true=>exact absurd (hbefL j (List.contains_iff_mem.1 hc)) hjL'
  cases hr:dL W2 L with
  |cons a r=>unfold ja;rw[hr]at key|-;exact key
  |nil=>
   exfalso;have:∃i,i∈ord/\i∉L:=by
    by_cases hx:∃i,i∈ord/\i∉L
    .exact hx
    .exfalso;have G':∀i∈ord,i∈L:=λi hi=>Classical.byContradiction λhn=>hx ⟨i,hi,hn⟩;have h1:=hE.nodup.length_le_of_subset G';have:=hE.len;omega
   obtain⟨i,hi,hiL⟩:=this;have first:∀(a b:List Nat),ord=a++b->(∀j∈a,j∈L)->(∃i∈b,i∉L)->∃a' e b',ord=a'++e::b'/\(∀j∈a',j∈L)/\e∉L:=by
    intro a b
    induction b generalizing a with
    |nil=>rintro _ _ ⟨i,h,_⟩;cases h
    |cons e b ihb=>
     intro he ha hx;by_cases heL:e∈L
     .refine ihb (a++[e]) (by rw[he];simp) (λj hj=>?_) ?_
      .rcases dD.1 hj with hj|hj
       .exact ha j hj
       .simp only[jV]at hj;rw[hj];exact heL
      .obtain⟨i,hi,hiL⟩:=hx;rcases db.1 hi with rfl|hi
       .exact absurd heL hiL
       .exact⟨i,hi,hiL⟩
     .exact⟨a,e,b,he,ha,heL⟩
   obtain⟨a,e,b,he,ha,heL⟩:=first [] ord rfl (by simp) ⟨i,hi,hiL⟩
   have hel:e<l.length:=hE.lt e (by rw[he];simp);have:e∈dL W2 L:=by
    unfold dL;refine tm.2 ⟨by simp[hE.dlen,hel],?_⟩;simp only[Ba,Bool.not_eq_true',eT];refine⟨by simpa using heL,λd hd=>?_⟩;simpa using ha d (hE.ahead a e b he d hd)
   rw[hr]at this;cases this
end
def ab.uH(hm:P.follows .mixedOrders=true){l:List aD}{W2:List (List Nat)}(ord:List Nat)(WZ:List (List Nat))(its:List Nat)(hB:eOk l W2 WZ ord=true)(hi:eg l WZ [] ord=its)
 (h:RE P l (λx=>ab P n k x Q) its st):ab P n (.code (.regA l W2)::k) st Q:=by
 have hE:=Cr hB;refine ab.M9 hm (rT hE l.length [] st [] ord st (by simp) ⟨rfl,by simp,List.nodup_nil,by simp,by simp,rfl,λ_ _=>rfl,by simp,by rw[hi];exact h⟩)
def RE.XG{l:List aD}{K:St->Prop}(rest:List Nat):∀(idx:List Nat) (sg:List aD) {x:St},(idx.map λm=>l[m/2]?)=sg.map some->(idx.all λm=>m%2==0)=true->
 Go P n (.d sg [.stop (RE P l K rest)]) x (λ_=>False)->RE P l K (idx++rest) x
 |[],[],_,_,_,h=>h
 |[],_::_,_,h,_,_=>by simp at h
 |_::_,[],_,h,_,_=>by simp at h
 |m::idx,i::sg,x,h,hev,hg=>by
  simp only[eo,List.cons.injEq]at h;simp only[oe,Ba,beq_iff_eq]at hev;show RE P l K (m::(idx++rest)) x;rw[RE,h.1];simp only[aq hev.1];exact .inl (T.mono (λx' W8=>RE.XG rest idx sg h.2 (by simpa using hev.2) W8) hg)
def RE.call{l:List aD}{K:St->Prop}{m:Nat}{rest:List Nat}{x:St}{i:aD}(hi:l[m/2]?=some i)(hm:m%2=0){fx:VX}{xs:List VX}(hw:aZ x.s i.g=some true)(ho:i.op=.call fx xs){f:FuncId}{caps:List V}(hf:fx.ev x.s=.fn f caps)
 {Post:V->ag->Prop}(hc:ax P f (xs.map (·.ev x.s)++caps) x.U Post)(h:∀r Z',Post r Z'->RE P l K rest ⟨aQ x.s i.dst r,Z'⟩):RE P l K (m::rest) x:=by
 rw[RE,hi];simp only[aq hm];exact .inr ⟨hw,by rw[ho];exact⟨f,caps,Post,hf,hc,h⟩⟩
def RE.au{l:List aD}{K:St->Prop}{m:Nat}{rest:List Nat}{x:St}{i:aD}(hi:l[m/2]?=some i)(hm:m%2=0){fx:VX}{xs:List VX}(hw:aZ x.s i.g=some true)(ho:i.op=.call fx xs){f:FuncId}{caps:List V}(hf:fx.ev x.s=.fn f caps)
 {v:V}(hc:ax P f (xs.map (·.ev x.s)++caps) x.U λr Z'=>r=v/\Z'=x.U)(h:RE P l K rest ⟨aQ x.s i.dst v,x.U⟩):RE P l K (m::rest) x:=
 RE.call hi hm hw ho hf hc λr Z' ⟨h1,h2⟩=>by subst h1;subst h2;exact h
def RE.X2{l:List aD}{K:St->Prop}{m:Nat}{rest:List Nat}{x:St}{i:aD}(hi:l[m/2]?=some i)(hm:m%2=1){d:Nat}(hd:i.dst=some d)(hw:aZ x.s i.g=some true)(hk:bf i.op=0)(hp:ez x.s i.op)
 (hv:aF x.U x.s i.op=some (x.s d))(h:RE P l K rest x):RE P l K (m::rest) x:=by
 rw[RE,hi];simp only[hm,Nat.one_ne_zero,if_false];refine⟨?_,h⟩;unfold QYd;rw[hd];refine .inl ⟨hw,?_⟩;unfold QO;simp only[hk];exact⟨hp,hv⟩
variable {P:Program} {n:Nat} {st:St} {Q:St->Prop} {k:List It}
def ab.TJ{k1 k2:List It}(τ:St->Prop)(h1:ab P n (k1++[.stop τ]) st Q)(h2:∀st,τ st->ab P n k2 st Q):ab P n (k1++k2) st Q:=by
 intro F hn kt hk a w hs;obtain⟨kt1,kt2,rfl,Zv,ZO⟩:=List.map_eq_append_iff.1 hk;have key:∀(kt:List KI) e a w,ld P F Q (kt++[.stop τ]) e a w->ld P F Q (kt++kt2) e a w:=by
  intro kt
  induction kt with
  |nil=>
   intro e a w h;simp only[j6]at h|-;cases e with
   |normal=>obtain⟨st,h3,h4⟩:=h;exact h2 st h3 F hn kt2 ZO a w h4
   |ret=>obtain⟨_,h3⟩:=h;exact lW h3 kt2
   |_=>obtain⟨h3,_⟩:=h;rcases h3 with h3|h3<;>cases h3
  |cons y kt ih=>
   intro e a w h;cases y with
   |code c=>cases e<;>first|exact wpIn_mono h ih|exact ih _ _ _ h
   |inBlock id=>
    cases e<;>simp only[List.cons_append,ld,Exit.inBlock]at h|-<;>(try split at h)<;>(try split)<;>first|exact ih _ _ _ h|contradiction
   |stop μ=>cases e<;>first|exact h|exact ih _ _ _ h
   |ops all l=>cases e<;>first|exact lH ih l a w h|exact ih _ _ _ h
 exact key kt1 _ a w (h1 F hn (kt1++[.stop τ]) (by simp[KI.it,Zv]) a w hs)
def ab.eG{x:bG}{id:Nat}(τ:St->Prop)(μ:Nat->St->Prop)(m:Nat)(h0:μ m st)
 (hr:∀m st,μ m st->ab P n (.code x::.stop (λYy=>∃m',m'<m/\μ m' Yy)::[.inBlock id,.stop τ]) st Q)(h2:∀st,τ st->ab P n k st Q):
 ab P n (.code (.loop x)::.inBlock id::k) st Q:=
 ab.TJ (P:=P) (n:=n) (Q:=Q) (st:=st) (k1:=[.code (.loop x),.inBlock id]) (k2:=k) τ (ab.loop μ m h0 hr) h2
open Go.Proofs Go.Proofs.Tryz
def KS{f:T'}{s:XR}(hf:f.ok)(h:YS s.a/\YS s.b):YS (la f s).a/\YS (la f s).b:=by
 obtain⟨⟨x1,x2⟩,_,⟨w1,w2⟩,_⟩:=hf;obtain⟨⟨a1,a2⟩,b1,b2⟩:=h;unfold la;split
 .exact⟨⟨by simp only;omega,by simp only;omega⟩,b1,b2⟩
 .exact⟨⟨a1,a2⟩,by simp only;omega,by simp only;omega⟩
def Bc:∀{l:List T'} {s:XR},(∀f∈l,f.ok)->YS s.a/\YS s.b->YS (l.foldl (λs f=>la f s) s).a/\YS (l.foldl (λs f=>la f s) s).b
 |[],_,_,h=>h
 |f::l,s,hl,h=>Bc (l:=l) (λg hg=>hl g (by simp[hg])) (KS (hl f (by simp)) h)
def og{l:List T'}{y high:Int}{s:XR}(hl:∀f∈l,f.ok)(h:YS s.a/\YS s.b):YS (dS l y high s).a/\YS (dS l y high s).b:=
 Bc (λf hf=>hl f (tm.1 hf).1) h
def wz{s:XR}:∀{l:List T'},(∀f∈l,la f s=s)->l.foldl (λs f=>la f s) s=s
 |[],_=>rfl
 |f::l,h=>by rw[jm,h f (by simp)];exact wz λg hg=>h g (by simp[hg])
def qg(s:XR):∀(l:List T') (a:Int×Bool),(l.foldl (kC s) a=a\/∃f∈l,l.foldl (kC s) a=(f.y+f.h,true))/\(a.2=true->(l.foldl (kC s) a).2=true)/\((∃f∈l,la f s≠s)->(l.foldl (kC s) a).2=true)
 |[],a=>⟨.inl rfl,id,by simp⟩
 |f::l,a=>by
  obtain⟨h1,h2,h3⟩:=qg s l (kC s a f);have hf:kC s a f=a\/kC s a f=(f.y+f.h,true):=by unfold kC;split<;>simp
  refine⟨?_,λha=>h2 ?_,?_⟩
  .rw[jm];rcases h1 with h1|⟨g,hg,h1⟩
   .rw[h1];rcases hf with hf|hf
    .exact .inl hf
    .exact .inr ⟨f,by simp,hf⟩
   .exact .inr ⟨g,by simp[hg],h1⟩
  .rcases hf with hf|hf<;>rw[hf]
   exact ha
  .rintro⟨g,hg,W6⟩;rcases db.1 hg with rfl|hg
   .refine h2 ?_;unfold kC;split
    .rename_i h;exact(h.resolve_left W6).1
    .rfl
   .exact h3 ⟨g,hg,W6⟩
def Hy{y high:Int}{f:T'}(h:je y high f=true):y<f.y+f.h:=by
 refine Classical.byContradiction λhn=>?_;have:ql ⟨f.y,f.y+f.h⟩ ⟨y,y+max high 1⟩=⟨0,0⟩:=by
  unfold ql;rw[aq];simp only;omega
 simp[je,this]at h
def jd{l:List T'}{y high:Int}{s:XR}(h:(gK l y high s).2=true):∃f∈l,y<f.y+f.h/\(gK l y high s).1=f.y+f.h:=by
 rcases(qg s (l.filter (je y high)) (0,false)).1 with h1|⟨f,hf,h1⟩
 .unfold gK at h;rw[h1]at h;cases h
 .obtain⟨hl,hm⟩:=tm.1 hf;exact⟨f,hl,Hy hm,by unfold gK;rw[h1]⟩
def qw{l:List T'}{y high:Int}{s:XR}(h:dS l y high s≠s):(gK l y high s).2=true:=by
 refine(qg s (l.filter (je y high)) (0,false)).2.2 (Classical.byContradiction λhn=>h (wz λf hf=>Classical.byContradiction λhe=>hn ⟨f,hf,he⟩))
def gtJ(l:List T')(y:Int):Nat:=(l.filter λf=>decide (y<f.y+f.h)).length
def filter_lt{α:Type}{p q:α->Bool}(hpq:∀x,q x=true->p x=true):∀{l:List α},(l.filter q).length<=(l.filter p).length/\((∃x∈l,p x=true/\q x=false)->(l.filter q).length<(l.filter p).length)
 |[]=>by simp
 |a::l=>by
  obtain⟨h1,h2⟩:=filter_lt hpq (l:=l);cases hp:p a<;>cases hq:q a
  .simp only[List.filter_cons,hp,hq,fG,if_false];refine⟨h1,?_⟩;rintro⟨x,hx,h3,h4⟩;rcases db.1 hx with rfl|hx
   .rw[hp]at h3;cases h3
   .exact h2 ⟨x,hx,h3,h4⟩
  .rw[hpq a hq]at hp;cases hp
  .simp only[List.filter_cons,hp,hq,fG,if_false,if_true,XX];exact⟨by omega,λ_=>by omega⟩
  .simp only[List.filter_cons,hp,hq,if_true,XX];refine⟨by omega,?_⟩;rintro⟨x,hx,h3,h4⟩;rcases db.1 hx with rfl|hx
   .rw[hq]at h4;cases h4
   .have:=h2 ⟨x,hx,h3,h4⟩;omega
def zO{l:List T'}{y z:Int}(h:∃f∈l,y<f.y+f.h/\z=f.y+f.h):gtJ l z<gtJ l y:=by
 obtain⟨f,hf,h1,rfl⟩:=h;exact(filter_lt (p:=λg:T'=>decide (y<g.y+g.h)) (q:=λg:T'=>decide (f.y+f.h<g.y+g.h)) (λg hg=>by simp at hg|-;omega) (l:=l)).2 ⟨f,hf,by simpa using h1,by simp⟩
def yN(l:List T')(w high:Int)(s:XR)(y:Int):Bool:=decide (w<=kr (dS l y high s))||decide (dS l y high s=s)
def rQ(l:List T')(w high:Int)(s:XR):Nat->Int->Int
 |0,y=>y
 |k+1,y=>if yN l w high s y then y else rQ l w high s k (gK l y high s).1
def l8(l:List T')(w high:Int)(s:XR)(y:Int):Int:=rQ l w high s l.length y
def Jl{l:List T'}{y high:Int}{s:XR}(hl:∀f∈l,f.ok)(h:(gK l y high s).2=true):YS (gK l y high s).1:=by
 obtain⟨f,hf,_,e⟩:=jd h;obtain⟨_,⟨a1,a2⟩,_,b1,b2⟩:=hl f hf;rw[e];exact⟨by omega,by omega⟩
def ur(l:List T')(high y:Int)(s:XR):V:=.agg [vI s.a,vI s.b,aB l,vI high,vI y]
def E7(l:List T')(high y:Int)(s:XR)(hl:l.length<=1000000)(WL:∀f∈l,f.ok)(hy:YS y)(hh:Bq high):aK prog 269 [ur l high y s] (bo (dS l y high s)):=λU=>by
 refine UR.r (by simp[PE]) ?_;have hs:=aa.refl U;refine ab.mix 3 ?_;have e1:(aB l).cells=[aB l]:=rfl;have e2:(aB l).stays=true:=rfl;apply sR;simp only[go_sem,seval,PE,ur];refine ad λi1 Z1 s1 a1 f1=>?_;replace hs:=hs.trans s1;simp only[go_sem,seval];refine ad λi2 Z2 s2 a2 f2=>?_;replace a1:=s2 _ _ a1;have z2:=hs.none f2;replace hs:=hs.trans s2;simp only[go_sem,seval,a1];refine ab.au rfl rfl rfl (Fl l y high s hl WL hy hh _) ?_;apply sR;simp only[go_sem,seval,a2,bo];exact ak.pure (hs.av z2) rfl
def MP(l:List T')(w high y:Int)(s:XR)(hl:l.length<=1000000)(WL:∀f∈l,f.ok)(hy:YS y)(hh:Bq high)(YR:YS s.a/\YS s.b):aK prog 267 [ur l high y s,vI w] (.bool (yN l w high s y)):=λU=>by
 refine Vy.r (by simp[NO]) ?_;have hs:=aa.refl U;refine ab.mix 5 ?_;have hb:=E7 l high y s hl WL hy hh;have hlen:=JV (dS l y high s) (og WL YR).1 (og WL YR).2;unfold yN;generalize dS l y high s=b at*;have e1:(aB l).cells=[aB l]:=rfl;have e2:(aB l).stays=true:=rfl;apply sR;simp only[go_sem,seval,NO,ur];refine ad λi2 Z2 s2 a2 f2=>?_;replace hs:=hs.trans s2;simp only[go_sem,seval,a2];refine Go.bw rfl rfl rfl hb ?_;apply sG;simp only[go_sem,seval];refine Go.bw rfl rfl rfl hlen ?_;by_cases h1:w<=kr b
 .have q:(w<=kr b)=True:=WE h1;apply sG;simp only[go_sem,seval,q];exact ak.pure hs (by simp)
 .have q:(w<=kr b)=False:=O' h1;apply sG;simp only[go_sem,seval,q,a2];refine Go.bw rfl rfl rfl hb ?_;obtain⟨b1,b2⟩:=b;obtain⟨s1,s2⟩:=s;apply sG;simp only[go_sem,seval,a2,bo];refine ak.pure hs ?_;by_cases h2:b1=s1<;>by_cases h3:b2=s2<;>simp[h2,h3]
def H7(l:List T')(w high y:Int)(s:XR)(hl:l.length<=1000000)(WL:∀f∈l,f.ok)(hy:YS y)(hh:Bq high)(YR:YS s.a/\YS s.b):
 aK prog 222 [aB l,vI w,vI high,vI y,bo s] (.WJ [bo (dS l (l8 l w high s y) high s),vI (l8 l w high s y)]):=λU=>by
 refine Wo.r (by simp[OJ]) ?_;have hs:=aa.refl U;refine ab.mix 13 ?_;have e1:(aB l).cells=[aB l]:=rfl;have e2:(aB l).stays=true:=rfl;apply sR;simp only[go_sem,seval,OJ,bo];refine ad λi9 Z9 s9 a9 f9=>?_;replace hs:=hs.trans s9;simp only[go_sem,seval];refine ad λXk Z10 YP Xy f10=>?_;replace a9:=YP _ _ a9;have z10:=hs.none f10;replace hs:=hs.trans YP;simp only[go_sem,seval,a9,e1,e2];refine ad λYH Z12 s12 a12 f12=>?_;have n912:=al a9 f12;replace a9:=s12 _ _ a9;have n1012:=al Xy f12;replace Xy:=s12 _ _ Xy;have z12:=hs.none f12;replace hs:=hs.trans s12;simp only[go_sem,seval,a12];generalize hq12:C' _ YH _=Y12;replace a12:=(congrFun hq12 YH).symm.trans af;replace a9:=((congrFun hq12 i9).symm.trans (ae n912)).trans a9;replace Xy:=((congrFun hq12 Xk).symm.trans (ae n1012)).trans Xy;replace hs:=Eq.subst (motive:=aa _) hq12 (hs.av z12);clear hq12;obtain⟨z,hz⟩:∃z,z=l8 l w high s y:=⟨_,rfl⟩
 rw[<-hz];refine ab.eG (λst=>∃J,st.U=J/\aa U J/\J YH=some ⟨344,5,[ur l high z s]⟩/\J Xk=some ⟨288,2,[.agg [vI 0,vI 0]]⟩/\st.s 10=.ptr Xk 0 0/\st.s 12=.ptr YH 0 0/\YS z)
  (λm st=>∃(y':Int) (k:Nat),m=gtJ l y'/\gtJ l y'<=k/\z=rQ l w high s k y'/\YS y'/\aa U st.U/\st.U YH=some ⟨344,5,[ur l high y' s]⟩/\st.U Xk=some ⟨288,2,[.agg [vI 0,vI 0]]⟩/\st.s 1=vI w/\st.s 10=.ptr Xk 0 0/\st.s 12=.ptr YH 0 0) (gtJ l y) ?_ ?_ ?_
 .exact⟨y,l.length,rfl,List.length_filter_le _ _,hz,hy,hs,a12,Xy,rfl,rfl,rfl⟩
 .rintro m ⟨S,J⟩ ⟨y',k,rfl,hk,hzk,hy',hs,b12,b10,k1,k10,k12⟩;simp only at hs b12 b10 k1 k10 k12;refine ab.mix 13 ?_;rw[ur]at b12;apply sR;simp only[go_sem,seval,k1,k12,b12];refine ab.au rfl rfl rfl (MP l w high y' s hl WL hy' hh YR _) ?_;cases hf:yN l w high s y'
  .have W6:dS l y' high s≠s:=λe=>by simp[yN,e]at hf
   have hfd:=qw W6;have hdec:=zO (jd hfd);apply sR;simp only[go_sem,seval,k12,b12];refine ab.au rfl rfl rfl (IG l y' high s hl WL hy' hh _) ?_;apply sR;simp only[go_sem,seval,k1,k10,k12,b12];obtain⟨k',rfl⟩:∃k',k=k'+1:=⟨k-1,by omega⟩
   rw[rQ,hf]at hzk;refine⟨_,hdec,_,k',rfl,by omega,by simpa using hzk,Jl WL hfd,hs.av z12,rfl,?_⟩;rw[ae n1012];exact b10
  .have hzy:z=y':=by cases k<;>simp[rQ,hf]at hzk<;>exact hzk
   subst hzy;apply sR;simp only[go_sem,seval,k10,k12];exact⟨J,rfl,hs,b12,b10,hy'⟩
 .rintro⟨S,J⟩ ⟨X',rfl,hs,b12,b10,k10,k12,hz2⟩;simp only at hs b12 b10 k10 k12;rw[ur]at b12;refine ab.mix 13 ?_;apply sR;simp only[go_sem,seval];refine ab.uH (by kernel_rfl) [0,2,3,1,4,5] [[],[0],[],[2],[0,1],[0,1,2,3,4]] [0,4,6,2,7,8,7,10] (by kernel_rfl) (by kernel_rfl) ?_;refine RE.XG (n:=0) [2,7,8,7,10] [0,4,6] [⟨(.some 35),(.load .true 5 (.t 12)),.none⟩,⟨(.some 37),(.W7 .false 4 1 (.t 12)),.none⟩,⟨(.some 38),(.load .false 1 (.t 37)),.none⟩] rfl rfl ?_;apply sG;simp only[go_sem,seval,k12,b12];refine RE.au rfl rfl rfl rfl rfl (E7 l high z s hl WL hz2 hh _) ?_;refine RE.X2 rfl rfl rfl rfl rfl trivial (by simp only[go_sem,seval,b12]) ?_;refine RE.XG (n:=0) [7,10] [8] [⟨.none,(.store 2 (.t 10) (.t 36)),.none⟩] rfl rfl ?_;apply sG;simp only[go_sem,seval,k10,b10,bo];refine RE.X2 rfl rfl rfl rfl rfl trivial (by simp only[go_sem,seval,b12,ae n1012.symm]) ?_;refine RE.XG (n:=0) [] [10] [⟨(.some 11),(.W1 (.t 38)),.none⟩] rfl rfl ?_;apply sG;simp only[go_sem,seval];apply sR;simp only[go_sem,seval,k10,af];exact ak.pure (hs.av z10) rfl
open Go.Proofs Go.Proofs.Tryz
def nU(e sz b:Nat):WD:=⟨8,.seq (.Za false [⟨some 2,.W1 (.c .ay),none⟩]) (.seq (.seq (.Za false [⟨some 3,.W1 (.t 0),none⟩,⟨some 4,.YU false (.t 3) (.c (.iface 0 .undef)),none⟩]) (.cond (.t 4) (.seq (.Za false [⟨some 2,.W1 (.c .ay),none⟩]) .ret) .skip)) (.seq (.Za false [⟨some 5,.fk e sz [],none⟩,⟨some 6,.W1 (.t 0),none⟩,⟨some 7,.append e sz b (.t 5) (.t 6),none⟩,⟨some 2,.W1 (.t 7),none⟩]) .ret)),[.tmp (.t 2)]⟩
def oJ{P:Program}{f:FuncId}{fn:Func}(hf:P.funcs[f]?=some fn){e sz b:Nat}(hc:cfn P fn=some (nU e sz b))(hk:dZ P f=true)(rows:List V)(hb:rows.length*(b+1)<=140737488355328)(U:ag):
 ax P f [.sl sz rows] U λr Z'=>aa U Z'/\aM U Z' e sz r rows:=by
 refine ax.jX hf hc hk (by simp[nU]) ?_;refine ab.mix 3 ?_
 (refine ab.bt Yp.nothing 8 ?_;simp only[go_sem,seval,jF,nU])
 refine ab.Gx rfl rfl rfl λt ht=>?_;cases t
 .apply sR;simp only[go_sem,seval];refine ad λid1 Z1 s1 a1 f1=>?_;obtain⟨WW,hd,X7⟩:=(aM.new (K:=U) (e:=e) (sz:=sz) (n:=0) (rows:=[]) rfl a1 f1).dst (aa.refl _);have hsrc:∀U,bI U sz (.sl sz rows)=some rows:=λU=>by simp[bI]
  simp only[go_sem,seval,hd,hsrc,hb];refine eF λid2 Z2 s2 a2 f2=>?_;have ZM:=(X7 U (aa.refl _) Z1 s1).trans s2;simp only[go_sem,seval];exact⟨_,_,aa.refl _,Wk.refl (aa.refl _) _,ZM,aM.new (by simp) a2 (s1.none f2)⟩
 .apply sR;simp only[go_sem,seval];obtain rfl:rows=[]:=ht rfl;exact⟨_,_,aa.refl _,Wk.refl (aa.refl _) _,aa.refl _,aM.start⟩
def wQ{P:Program}{f:FuncId}{fn:Func}(hf:P.funcs[f]?=some fn){e sz b:Nat}(hc:cfn P fn=some (nU e sz b))(hk:dZ P f=true)(rows:List V)(hb:rows.length*(b+1)<=140737488355328):
 aK P f [.sl sz rows] (.sl sz rows):=λU=>(oJ hf hc hk rows hb U).Gh λ_ _ h=>h.2.Ie h.1 rfl
def dI(l:List T'):(aB l).cells=[aB l]:=rfl
def dK(l:List T'):(aB l).stays=true:=rfl
def mU{tell:T'->Int×Bool}{l:List T'}(h:(dU tell l).2=true):∃f∈l,(dU tell l).1=(tell f).1/\(tell f).2=true:=by
 have key:∀(l:List T') (a:Int×Bool),l.foldl (xQ tell) a=a\/∃f∈l,l.foldl (xQ tell) a=((tell f).1,true)/\(tell f).2=true:=by
  intro l
  induction l with
  |nil=>intro a;exact .inl rfl
  |cons g l ih=>
   intro a;rw[jm];rcases ih (xQ tell a g)with h|⟨f,hf,h,h'⟩
   .rw[h];unfold xQ;split
    .rename_i hc;exact .inr ⟨g,by simp,rfl,hc.1⟩
    .exact .inl rfl
   .exact .inr ⟨f,by simp[hf],h,h'⟩
 rcases key l (0,false)with h1|⟨f,hf,h1,h2⟩
 .unfold dU at h;rw[h1]at h;cases h
 .exact⟨f,hf,by unfold dU;rw[h1],h2⟩
def pG(l:List T')(w high:Int)(s:XR)(y:Int):Bool:=!(gK l y high s).2||decide (kr (dS l y high s)>=w)
def mE(l:List T')(w high:Int)(s:XR):Nat->Int->Int
 |0,y=>y
 |k+1,y=>if pG l w high s y then y else mE l w high s k (gK l y high s).1
def rM(l:List T')(w high:Int)(s:XR)(y:Int):Int:=mE l w high s l.length y
def Cl(f:T')(l:List T')(s:XR):V:=.agg [vI f.node,vI f.side,vI f.anchor,vI f.x,vI f.y,vI f.w,vI f.h,aB l,vI s.a,vI s.b]
def LZ(l:List T')(f:T')(y:Int)(s:XR)(hl:l.length<=1000000)(WL:∀f∈l,f.ok)(hy:YS y)(hh:Bq f.h)(YR:YS s.a/\YS s.b):
 aK prog 309 [Cl f l s,vI y] (.WJ [bo (dS l (rM l f.w f.h s y) f.h s),vI (rM l f.w f.h s y)]):=λU=>by
 refine Uh.r (by simp[N3]) ?_;have hs:=aa.refl U;refine ab.mix 9 ?_;apply sR;simp only[go_sem,seval,N3,Cl];refine ad λi2 Z2 s2 a2 f2=>?_;replace hs:=hs.trans s2;simp only[go_sem,seval];refine ad λi4 Z4 s4 a4 f4=>?_;replace a2:=s4 _ _ a2;have z4:=hs.none f4;replace hs:=hs.trans s4;simp only[go_sem,seval];obtain⟨z,hz⟩:∃z,z=rM l f.w f.h s y:=⟨_,rfl⟩
 rw[<-hz];refine ab.loop (λm st=>∃(y':Int) (k:Nat),m=gtJ l y'/\gtJ l y'<=k/\z=mE l f.w f.h s k y'/\YS y'/\aa U st.U/\st.U i2=some ⟨388,10,[Cl f l s]⟩/\st.U i4=some ⟨288,2,[.agg [vI 0,vI 0]]⟩/\st.s 1=vI y'/\st.s 2=.ptr i2 0 0/\st.s 4=.ptr i4 0 0) (gtJ l y) ?_ ?_
 .exact⟨y,l.length,rfl,List.length_filter_le _ _,hz,hy,hs,a2,a4,rfl,rfl,rfl⟩
 .rintro m ⟨S,J⟩ ⟨y',k,rfl,hk,hzk,hy',hs,b2,b4,k1,k2,k4⟩;simp only at hs b2 b4 k1 k2 k4;refine ab.mix 9 ?_;rw[Cl]at b2;have hb:=og (y:=y') (high:=f.h) WL YR;apply sR;simp only[go_sem,seval,k1,k2,b2];refine ab.au rfl rfl rfl (Fl l y' f.h s hl WL hy' hh _) ?_;apply sR;simp only[go_sem,seval,bo];refine ad λi6 Z6 s6 a6 f6=>?_;have n26:=al b2 f6;have n46:=al b4 f6;replace b2:=s6 _ _ b2;replace b4:=s6 _ _ b4;have z6:=hs.none f6;replace hs:=hs.trans s6;simp only[go_sem,seval,a6,b2,k1,k2,ae n26];generalize hq:C' _ i6 _=Y6;have a6':=(congrFun hq i6).symm.trans af;have b2':=((congrFun hq i2).symm.trans (ae n26)).trans b2;have b4':=((congrFun hq i4).symm.trans (ae n46)).trans b4;replace hs:=Eq.subst (motive:=aa _) hq (hs.av z6);refine ab.au rfl rfl rfl (IG l y' f.h s hl WL hy' hh _) ?_;have hex:pG l f.w f.h s y'=true->z=y':=λh=>by cases k<;>simp[mE,h]at hzk<;>exact hzk
  have hlen:=JV (dS l y' f.h s) hb.1 hb.2;have Zd:pG l f.w f.h s y'=false->∃k',k=k'+1/\gtJ l (gK l y' f.h s).1<gtJ l y'/\z=mE l f.w f.h s k' (gK l y' f.h s).1/\YS (gK l y' f.h s).1:=λh=>by
   have h2:(gK l y' f.h s).2=true:=by
    simp only[pG,Bool.or_eq_false_iff,Bool.not_eq_false']at h;exact h.1
   have hdec:=zO (jd h2);obtain⟨k',rfl⟩:∃k',k=k'+1:=⟨k-1,by omega⟩
   rw[mE,h]at hzk;exact⟨k',rfl,hdec,by simpa using hzk,Jl WL h2⟩
  unfold pG at hex Zd;cases hn:(gK l y' f.h s).2
  .rw[hn]at hex;obtain rfl:=hex (by simp);apply sR;simp only[go_sem,seval,k1,k4,a6',b4'];exact ak.pure (hs.av z4) rfl
  .rw[hn]at hex Zd;apply sR;simp only[go_sem,seval,a6'];refine Go.bw rfl rfl rfl hlen ?_;by_cases hw:kr (dS l y' f.h s)>=f.w
   .have q:(kr (dS l y' f.h s)>=f.w)=True:=WE hw;obtain rfl:=hex (by simp[hw]);apply sG;simp only[go_sem,seval,k1,k2,k4,a6',b4',b2',q];exact ak.pure (hs.av z4) rfl
   .have q:(kr (dS l y' f.h s)>=f.w)=False:=O' hw;obtain⟨k',rfl,h1,h2,h3⟩:=Zd (by simp[hw]);apply sG;simp only[go_sem,seval,k2,k4,b4',b2',q];refine⟨_,h1,_,k',rfl,by omega,h2,h3,hs,?_⟩;exact⟨by rw[Cl],rfl⟩
structure WOk(ws:List Int)(space:Int):Prop where
 len:ws.length<=100000
 rng:∀x∈ws,0<=x/\x<=1099511627776
 s0:0<=space
 s1:space<=1099511627776
def gx(space:Int):List Int->Nat->Int->List (Nat×Int)
 |[],_,_=>[]
 |x::r,k,n=>(k+1,n+space+x)::gx space r (k+1) (n+space+x)
def rA(space width:Int):List Int->Nat->Int->Nat×Int
 |[],k,n=>(k,n)
 |x::r,k,n=>if n+space+x>width then(k,n)else rA space width r (k+1) (n+space+x)
def lz(ws:List Int)(space width:Int)(i:Nat):Nat×Int:=rA space width (ws.drop (i+1)) (i+1) (ws.getD i 0)
def tN(space width:Int):∀(r:List Int) (k:Nat) (n:Int),k<=(rA space width r k n).1/\(rA space width r k n).1<=k+r.length
 |[],k,n=>by simp[rA]
 |x::r,k,n=>by
  rw[rA];split
  .simp
  .have:=tN space width r (k+1) (n+space+x);simp only[XX];omega
def Ca{ws:List Int}{space width:Int}{i:Nat}(h:i<ws.length):i<(lz ws space width i).1/\(lz ws space width i).1<=ws.length:=by
 have:=tN space width (ws.drop (i+1)) (i+1) (ws.getD i 0);rw[oG]at this;unfold lz;omega
def WOk.get{ws:List Int}{space:Int}(h:WOk ws space){i:Nat}(hi:i<ws.length):0<=ws[i]/\ws[i]<=1099511627776:=h.rng _ (XI hi)
open Go.Proofs Go.Proofs.Tryz
def ldI(U:ag)(l:List Int):bF U false 1 (.rp (bb l))=some (bb l):=rfl
def cS(l:List Int):(bb l).cells=[bb l]:=rfl
def ik(l:List Int):(bb l).stays=true:=rfl
def iq{U:ag}{l:List Int}{i:Nat}(h:i<l.length):bp U 1 (bb l) (.int .i64 i)=some (.rp (vI l[i])):=by simp[bb,bp,h]
def fL(l:List Int):cP false (bb l)=some (.int .i64 l.length):=by simp[bb,cP]
def lB(ws:List Int)(space:Int):V:=.agg [bb ws,vI space]
def Sy(ws:List Int)(space:Int):lx false 0 1 (.rp (lB ws space))=some (.rp (bb ws)):=rfl
def Sl(ws:List Int)(space:Int):lx false 1 1 (.rp (lB ws space))=some (.rp (vI space)):=rfl
def C6(ws:List Int)(space:Int):(lB ws space).cells=[bb ws,vI space]:=rfl
def Cp(ws:List Int)(space:Int):(lB ws space).stays=true:=rfl
def RL(ws:List Int)(space i:Int):aK prog 326 [lB ws space,vI i] (.bool (decide (i<0\/i>=ws.length))):=λU=>by
 refine UT.r (by simp[Qk]) ?_;have hs:=aa.refl U;have hn:=fL ws;apply sR;simp only[go_sem,seval,Qk,lB];refine ad λi2 Z2 s2 a2 f2=>?_;replace hs:=hs.trans s2;by_cases h:i<0
 .have q:(i<0)=True:=WE h;simp only[go_sem,seval,q];exact ak.pure hs (by simp)
 .have q:(i<0)=False:=O' h;simp only[go_sem,seval,a2,q,hn];exact ak.pure hs (by simp)
def gd(l:List (Nat×Int)):List (List V):=l.map λp=>[vI p.1,vI p.2]
def GY(ws:List Int)(space:Int)(hw:WOk ws space)(i:Nat)(hi:i<ws.length):Iter prog 335 [.rp (lB ws space),.rp (vI i)] (gd (gx space (ws.drop i) i (0-space))):=by
 refine⟨SP.c,λXe τ Jx Z0 hy hJ=>?_⟩;refine(SP.r (by simp[PK]) ?_).2;have W9:=hw.s0;have YR:=hw.s1;have hln:=hw.len;have hn:=fL ws;have r0:WR .i64 (0-space):=ai;refine ab.mix 6 ?_;apply sR;simp only[BB,seval,bf,ez,aF,ft,Yp.nothing,PK,Sl,r0];refine ab.loop (λm st=>∃(pre:List (Nat×Int)) (j:Nat) (n:Int) (ZJ:ag),m=ws.length-j/\i<=j/\j<=ws.length/\-1099511627776<=n/\n<=2199023255552*j/\gx space (ws.drop i) i (0-space)=pre++gx space (ws.drop j) j n/\
  τ (gd pre) ZJ/\aa ZJ st.U/\st.s 0=.yl Xe/\st.s 1=.rp (lB ws space)/\st.s 4=vI n/\st.s 5=vI j) (ws.length-i) ?_ ?_
 .exact⟨[],i,0-space,Z0,rfl,by omega,by omega,by omega,by omega,rfl,hJ,aa.refl _,rfl,rfl,rfl,rfl⟩
 .rintro m ⟨s,Z'⟩ ⟨pre,j,n,ZJ,rfl,hij,hj,hn1,hn2,Zw,hJp,G',t0,t1,t4,t5⟩;simp only at G' t0 t1 t4 t5;refine ab.mix 6 ?_;by_cases H':j<ws.length
  .have q:((j:Int)<ws.length)=True:=WE;have hx:=hw.get H';have U':=λU=>iq (U:=U) H';rw[gF H',gx]at Zw;generalize ws[j]=w at*;have r1:WR .i64 (space+w):=ai;have r2:WR .i64 (n+(space+w)):=ai;have r3:WR .i64 ((j:Int)+1):=ai;have en:n+space+w=n+(space+w):=by omega
   rw[en]at Zw;have e:gd (gx space (ws.drop i) i (0-space))=gd pre++[vI ((j:Int)+1),vI (n+(space+w))]::gd (gx space (ws.drop (j+1)) (j+1) (n+(space+w))):=by rw[Zw];simp[gd]
   apply sR;simp only[BB,seval,bf,ez,aF,dV,iJ,Yp.nothing,t0,t1,t4,t5,hn,q,ldI,Sy,Sl,U',r1,r2,r3];refine ab.oS (Post:=λb Z2=>∃Xc,aY ZJ Z' Xc Z2/\((b=true/\τ (gd pre++[[vI ((j:Int)+1),vI (n+(space+w))]]) Xc)\/(b=false/\Jx (gd pre++[[vI ((j:Int)+1),vI (n+(space+w))]]) Xc))) rfl rfl rfl (hy _ _ _ ZJ Z' e hJp G') ?_;rintro b Z2 ⟨Xc,Yh,XM⟩;rcases XM with⟨rfl,XM⟩|⟨rfl,XM⟩
   .apply sR;simp only[go_sem,seval,t0,t1,t5,r3];refine⟨_,?_,pre++[(j+1,n+(space+w))],j+1,n+(space+w),Xc,rfl,by omega,by omega,by omega,by omega,by rw[Zw];simp,?_,Yh.1,by simp⟩
    .omega
    .simpa[gd]using XM
   .apply sR;simp only[go_sem,seval];refine⟨_,Xc,Yh.1,Wk.refl Yh.1 _,.inr ⟨_,?_,XM⟩⟩;rw[e];exact⟨gd (gx space (ws.drop (j+1)) (j+1) (n+(space+w))),by simp⟩
  .have q:((j:Int)<ws.length)=False:=O';apply sR;simp only[BB,seval,bf,ez,aF,dV,iJ,jB,Yp.nothing,t1,t5,hn,q,ldI,Sy];rw[show ws.drop j=[]from List.drop_of_length_le (by omega),gx,lO]at Zw;exact⟨_,ZJ,G',Wk.refl G' _,.inl (by rw[Zw];exact hJp)⟩
def NK(ws:List Int)(space:Int)(i:Int):aK prog 327 [lB ws space,vI i] (.fn 335 [.rp (lB ws space),.rp (vI i)]):=λU=>by
 refine Vb.r (by simp[Rq]) ?_;refine ab.mix 4 ?_;have q1:=C6 ws space;have q2:=Cp ws space;have q3:(lB ws space).cells.length=2:=rfl;generalize hx:lB ws space=x at*;apply sR;simp only[go_sem,seval,Rq,q1,q2];refine ad λid1 Z1 s1 a1 f1=>?_;simp only[go_sem,seval];refine ad λid2 Z2 s2 a2 f2=>?_;simp only[go_sem,seval];exact⟨_,U,s1.trans s2,Wk.fn (vs':=[.rp x,.rp (vI i)]) ⟨Wk.ptr (s1.trans s2) (s2 _ _ a1) f1,Wk.ptr (s1.trans s2) a2 (s1.none f2),trivial⟩,rfl,rfl⟩
open Go.Proofs Go.Proofs.Tryz
def zd(i j n:Int):V:=.agg [vI i,vI j,vI n]
structure TkJ(ws:List Int)(space width:Int)(i:Nat)(U:ag)(id6 id7 id8 id10:Nat)(pre:List (List V))(v:V)(ZJ:ag):Prop where
 sub:aa U ZJ
 r8:ZJ id8=some ⟨377,3,[.agg [vI 0,vI 0,vI 0]]⟩
 r6:ZJ id6=some ⟨3,1,[vI width]⟩
 r7:ZJ id7=some ⟨3,1,[vI i]⟩
 r10:ZJ id10=some ⟨377,3,[v]⟩
 st:(pre=[]/\v=.agg [vI 0,vI 0,vI 0])\/∃n:Int,0<pre.length/\i+pre.length<=ws.length/\gd (gx space (ws.drop i) i (0-space))=pre++gd (gx space (ws.drop (i+pre.length)) (i+pre.length) n)/\
  lz ws space width i=rA space width (ws.drop (i+pre.length)) (i+pre.length) n/\v=.agg [vI i,vI (i+pre.length:Nat),vI n]
def Mv(ws:List Int)(space width:Int)(hw:WOk ws space)(i:Nat)(hi:i<ws.length):aK prog 302 [bb ws,vI space,vI width,vI i] (zd i (lz ws space width i).1 (lz ws space width i).2):=λU=>by
 refine Wv.r (by simp[Q4]) ?_;have hs:=aa.refl U;have hln:=hw.len;refine ab.mix 13 ?_;apply sR;simp only[go_sem,seval,Q4];refine ad λi6 Z6 s6 a6 f6=>?_;replace hs:=hs.trans s6;simp only[go_sem,seval];refine ad λi7 Z7 s7 a7 f7=>?_;replace a6:=s7 _ _ a6;replace hs:=hs.trans s7;simp only[go_sem,seval];refine ad λi8 Z8 s8 a8 f8=>?_;replace a6:=s8 _ _ a6;replace a7:=s8 _ _ a7;have z8:=hs.none f8;replace hs:=hs.trans s8;simp only[go_sem,seval,cS,ik];refine ad λi9 Z9 s9 a9 f9=>?_;have n69:=al a6 f9;replace a6:=s9 _ _ a6;have n79:=al a7 f9;replace a7:=s9 _ _ a7;have n89:=al a8 f9;replace a8:=s9 _ _ a8;have z9:=hs.none f9;replace hs:=hs.trans s9;simp only[go_sem,seval,a9,a7,ae n79];generalize XQ:C' _ i9 _=Y9;replace a9:=(congrFun XQ i9).symm.trans af;replace a6:=((congrFun XQ i6).symm.trans (ae n69)).trans a6;replace a7:=((congrFun XQ i7).symm.trans (ae n79)).trans a7;replace a8:=((congrFun XQ i8).symm.trans (ae n89)).trans a8;replace hs:=Eq.subst (motive:=aa _) XQ (hs.av z9);clear XQ;have hf:=RL ws space i;rw[show decide ((i:Int)<0\/(i:Int)>=ws.length)=false by simp;omega]at hf;refine ab.au rfl rfl rfl (hf _) ?_;apply sR;simp only[go_sem,seval];refine ad λXk Z10 YP Xy f10=>?_;have n610:=al a6 f10;replace a6:=YP _ _ a6;have n710:=al a7 f10;replace a7:=YP _ _ a7;have n810:=al a8 f10;replace a8:=YP _ _ a8;replace a9:=YP _ _ a9;have z10:=hs.none f10;replace hs:=hs.trans YP;simp only[go_sem,seval,a9,a7];refine ab.au rfl rfl rfl (NK ws space i _) ?_;apply sR;simp only[go_sem,seval];generalize hS:mix 13 _ _=S;have S6:S 6=.ptr i6 0 0:=by rw[<-hS];rfl
 have S7:S 7=.ptr i7 0 0:=by rw[<-hS];rfl
 have S8:S 8=.ptr i8 0 0:=by rw[<-hS];rfl
 have S10:S 10=.ptr Xk 0 0:=by rw[<-hS];rfl
 have S22:S 22=.fn 335 [.rp (lB ws space),.rp (vI i)]:=by rw[<-hS];rfl
 clear hS;have hit:=GY ws space hw i hi;have hdr:ws.drop i=ws[i]::ws.drop (i+1):=gF hi;have hgd:ws.getD i 0=ws[i]:=by simp[hi]
 have fin:∀(J:ag) (w:V),aa U J->J i8=some ⟨377,3,[.agg [vI 0,vI 0,vI 0]]⟩->J Xk=some ⟨377,3,[zd i (lz ws space width i).1 (lz ws space width i).2]⟩->
  ab prog 39 [It.code (.seq (.Za false [⟨some 38,.load true 3 (.t 10),none⟩,⟨none,.store 3 (.t 8) (.t 38),none⟩]) .ret)] ⟨S,J⟩ (λst=>Ret [VR.cell true 3 (VX.t 8)] st λr Z'=>r=zd i (lz ws space width i).1 (lz ws space width i).2/\Z'=U):=by
  intro J w h1 h2 h3;refine ab.mix 13 ?_;rw[zd]at h3;apply sR;simp only[go_sem,seval,S8,S10,h2,h3];exact ak.pure (h1.av z8) rfl
 refine ab.ej (g:=.t 22) (caps:=[.rp (lB ws space),.rp (vI i)]) S22 hit (λx hx=>?_) [0] (λpre ZJ=>∃v,TkJ ws space width i U i6 i7 i8 Xk pre v ZJ)
  (λe pre ZJ=>e=some 0/\aa U ZJ/\ZJ i8=some ⟨377,3,[.agg [vI 0,vI 0,vI 0]]⟩/\ZJ Xk=some ⟨377,3,[zd i (lz ws space width i).1 (lz ws space width i).2]⟩) ?_ ?_ ?_ ?_ ?_
 .obtain⟨t,_,rfl⟩:=gM.1 hx;rfl
 .exact⟨_,hs,a8,a6,a7,Xy,.inl ⟨rfl,rfl⟩⟩
 .rintro pre x post ZJ ZB Zw ⟨v,τ⟩ G';have b6:=G' _ _ τ.r6;have b7:=G' _ _ τ.r7;have b10:=G' _ _ τ.r10;rcases τ.st with⟨rfl,rfl⟩|⟨n,hp,hpl,hr,XB,rfl⟩
  .obtain rfl:x=[vI ((i:Int)+1),vI ws[i]]:=by
    rw[hdr]at Zw;simp only[gx,gd,eo,j6,List.cons.injEq]at Zw;rw[<-Zw.1];simp only[Int.sub_add_cancel,Int.zero_add];rw[show((i+1:Nat):Int)=(i:Int)+1 by omega]
   refine ab.mix 13 ?_;generalize YY:n9 S [23,24] _=S0;have T6:S0 6=.ptr i6 0 0:=by rw[<-YY];exact S6
   have T7:S0 7=.ptr i7 0 0:=by rw[<-YY];exact S7
   have T10:S0 10=.ptr Xk 0 0:=by rw[<-YY];exact S10
   have T23:S0 23=vI ((i:Int)+1):=by rw[<-YY];rfl
   have T24:S0 24=vI ws[i]:=by rw[<-YY];rfl
   clear YY;have r1:WR .i64 ((i:Int)+1):=ai;have q:((i:Int)+1>(i:Int)+1)=False:=O';apply sR;simp only[go_sem,seval,T23,T24];apply sR;simp only[go_sem,seval,T7,T10,b7,b10,r1,q];refine⟨_,(aY.refl G').set τ.r10,_,τ.sub.av z10,by rw[ae n810];exact τ.r8,by rw[ae n610];exact τ.r6,by rw[ae n710];exact τ.r7,af,.inr ⟨ws[i],by simp,by simp;omega,?_,?_,?_⟩⟩
   .rw[hdr,gx];simp only[Int.sub_add_cancel,Int.zero_add,gd,eo,j6,XX,List.length_nil,List.cons_append];rw[show((i+1:Nat):Int)=(i:Int)+1 by omega]
   .unfold lz;rw[hgd];rfl
   .simp
  .have H':i+pre.length<ws.length:=by
    rcases Nat.lt_or_ge (i+pre.length) ws.length with h|h
    .exact h
    .exfalso;rw[List.drop_of_length_le h]at hr;rw[hr]at Zw;have:=congrArg List.length Zw;simp[gx,gd]at this
   have hd2:ws.drop (i+pre.length)=ws[i+pre.length]::ws.drop (i+pre.length+1):=gF H';obtain rfl:x=[vI ((i:Int)+pre.length+1),vI (n+space+ws[i+pre.length])]:=by
    rw[hr,hd2]at Zw;have h2:=List.append_cancel_left Zw;simp only[gx,gd,eo,List.cons.injEq]at h2;rw[<-h2.1];rw[show((i+pre.length+1:Nat):Int)=(i:Int)+pre.length+1 by omega]
   rw[hd2,rA]at XB;refine ab.mix 13 ?_;generalize YY:n9 S [23,24] _=S0;have T6:S0 6=.ptr i6 0 0:=by rw[<-YY];exact S6
   have T7:S0 7=.ptr i7 0 0:=by rw[<-YY];exact S7
   have T10:S0 10=.ptr Xk 0 0:=by rw[<-YY];exact S10
   have T23:S0 23=vI ((i:Int)+pre.length+1):=by rw[<-YY];rfl
   have T24:S0 24=vI (n+space+ws[i+pre.length]):=by rw[<-YY];rfl
   clear YY;have r1:WR .i64 ((i:Int)+1):=ai;have q:((i:Int)+pre.length+1>(i:Int)+1)=True:=WE;apply sR;simp only[go_sem,seval,T23,T24];by_cases hw2:n+space+ws[i+pre.length]>width
   .have q2:(n+space+ws[i+pre.length]>width)=True:=WE hw2;rw[aq hw2]at XB;apply sR;simp only[go_sem,seval,T6,T7,b6,b7,r1,q,q2];refine⟨_,aY.refl G',τ.sub,τ.r8,?_⟩;rw[τ.r10,XB];rfl
   .have q2:(n+space+ws[i+pre.length]>width)=False:=O' hw2;rw[ao hw2]at XB;apply sR;simp only[go_sem,seval,T6,T7,T10,b6,b7,b10,r1,q,q2];have hpl2:(pre++[[vI ((i:Int)+pre.length+1),vI (n+space+ws[i+pre.length])]]).length=pre.length+1:=by simp
    refine⟨_,(aY.refl G').set τ.r10,_,τ.sub.av z10,by rw[ae n810];exact τ.r8,by rw[ae n610];exact τ.r6,by rw[ae n710];exact τ.r7,af,.inr ⟨n+space+ws[i+pre.length],by omega,by omega,?_,?_,?_⟩⟩
    .rw[hr,hd2,hpl2,gx];simp only[gd,eo,my,List.cons_append,j6];rw[show((i+pre.length+1:Nat):Int)=(i:Int)+pre.length+1 by omega];rfl
    .rw[hpl2];exact XB
    .rw[hpl2,show((i+(pre.length+1):Nat):Int)=(i:Int)+pre.length+1 by omega]
 .rintro Z' ⟨v,τ⟩;rcases τ.st with⟨h0,rfl⟩|⟨n,hp,hpl,hr,XB,rfl⟩
  .exfalso;rw[hdr]at h0;simp[gx,gd]at h0
  .have he:gd (gx space (ws.drop (i+(gd (gx space (ws.drop i) i (0-space))).length)) (i+(gd (gx space (ws.drop i) i (0-space))).length) n)=[]:=by
    have:=congrArg List.length hr;rw[iz]at this;exact rF (by omega)
   generalize (gd (gx space (ws.drop i) i (0-space))).length=p at*;have hd:ws.drop (i+p)=[]:=by
    cases h:ws.drop (i+p)with
    |nil=>rfl
    |cons a b=>rw[h]at he;simp[gx,gd]at he
   rw[hd,rA]at XB;refine ab.inBlock (fin Z' .ay τ.sub τ.r8 ?_);rw[τ.r10,XB];rfl
 .intro id P' pre Z' _ ⟨h0,h1,h2,h3⟩;obtain rfl:id=0:=by simpa using P'
  refine ab.exit rfl ?_;exact fin Z' .ay h1 h2 h3
 .rintro pre Z' _ ⟨h0,_⟩;cases h0
open Go.Proofs Go.Proofs.Tryz
def wP(p:Pn)(n:Int):Pn:=⟨if n>0 then p.y+p.m+n else p.y,if n>0 then 0 else p.m⟩
def ew(p:Pn)(mg n:Int):Pn:=wP ⟨p.y,max p.m mg⟩ n
def mZ(p:Pn)(mg n:Int):Pn:=⟨(wP p n).y,max (wP p n).m mg⟩
def E1(p:Pn)(mg n:Int)(h1:Bq p.y)(h2:Bq p.m)(h3:Bq mg)(h4:Bq n):aK prog 217 [hU p,vI mg,vI n] (hU (ew p mg n)):=λU=>by
 refine Ww.r (by simp[Q5]) ?_;have hs:=aa.refl U;refine ab.mix 10 ?_;apply sR;simp only[go_sem,seval,Q5,hU];refine ad λi3 Z3 s3 a3 f3=>?_;replace hs:=hs.trans s3;simp only[go_sem,seval];refine ad λi6 Z6 s6 a6 f6=>?_;replace a3:=s6 _ _ a3;have z6:=hs.none f6;replace hs:=hs.trans s6;simp only[go_sem,seval,a3];refine ad λi7 Z7 s7 a7 f7=>?_;have n37:=al a3 f7;replace a3:=s7 _ _ a3;have n67:=al a6 f7;replace a6:=s7 _ _ a6;have z7:=hs.none f7;replace hs:=hs.trans s7;simp only[go_sem,seval,a7];generalize YD:C' _ i7 _=Y7;replace a7:=(congrFun YD i7).symm.trans af;replace a3:=((congrFun YD i3).symm.trans (ae n37)).trans a3;replace a6:=((congrFun YD i6).symm.trans (ae n67)).trans a6;replace hs:=Eq.subst (motive:=aa _) YD (hs.av z7);clear YD;refine ab.call rfl rfl rfl (EH p.y p.m mg a7) ?_;rintro r Z1 ⟨rfl,rfl⟩;apply sR;simp only[go_sem,seval];have hm:Bq (max p.m mg):=by obtain⟨g1,g2⟩:=h2;obtain⟨g3,g4⟩:=h3;exact⟨by omega,by omega⟩
 refine ab.call rfl rfl rfl (No p.y (max p.m mg) n h1 hm h4 af) ?_;rintro r Z2 ⟨rfl,rfl⟩;apply sR;simp only[go_sem,seval,a6,ae n67];exact ak.pure ((hs.av z7).av z6) rfl
def EN(p:Pn)(mg n:Int)(h1:Bq p.y)(h2:Bq p.m)(h3:Bq mg)(h4:Bq n):aK prog 218 [hU p,vI mg,vI n] (hU (mZ p mg n)):=λU=>by
 refine TG.r (by simp[NU]) ?_;have hs:=aa.refl U;refine ab.mix 10 ?_;apply sR;simp only[go_sem,seval,NU,hU];refine ad λi3 Z3 s3 a3 f3=>?_;replace hs:=hs.trans s3;simp only[go_sem,seval];refine ad λi6 Z6 s6 a6 f6=>?_;replace a3:=s6 _ _ a3;have z6:=hs.none f6;replace hs:=hs.trans s6;simp only[go_sem,seval,a3];refine ad λi7 Z7 s7 a7 f7=>?_;have n37:=al a3 f7;replace a3:=s7 _ _ a3;have n67:=al a6 f7;replace a6:=s7 _ _ a6;have z7:=hs.none f7;replace hs:=hs.trans s7;simp only[go_sem,seval,a7];generalize YD:C' _ i7 _=Y7;replace a7:=(congrFun YD i7).symm.trans af;replace a3:=((congrFun YD i3).symm.trans (ae n37)).trans a3;replace a6:=((congrFun YD i6).symm.trans (ae n67)).trans a6;replace hs:=Eq.subst (motive:=aa _) YD (hs.av z7);clear YD;refine ab.call rfl rfl rfl (No p.y p.m n h1 h2 h4 a7) ?_;rintro r Z1 ⟨rfl,rfl⟩;apply sR;simp only[go_sem,seval];refine ab.call rfl rfl rfl (EH _ _ mg af) ?_;rintro r Z2 ⟨rfl,rfl⟩;apply sR;simp only[go_sem,seval,a6,ae n67];exact ak.pure ((hs.av z7).av z6) rfl
structure Ln where
 (fr to x y w:Int)
deriving DecidableEq
def oC(l:Ln):V:=.agg [vI l.fr,vI l.to,vI l.x,vI l.y,vI l.w]
def pD(fs:List T')(ws:List Int)(space high:Int)(i:Nat)(y:Int)(s:XR):Ln:=
 let Xg:=l8 fs (ws.getD i 0) high s y
 let b:=dS fs Xg high s
 let t:=lz ws space (kr b) i
 ⟨i,t.1,b.a,Xg,t.2⟩
def LP(fs:List T')(ws:List Int)(space high:Int)(i:Nat)(y:Int)(s:XR)(hl:fs.length<=1000000)(WL:∀f∈fs,f.ok)(hy:YS y)(hh:Bq high)(YR:YS s.a/\YS s.b)(hw:WOk ws space)(hi:i<ws.length):
 aK prog 265 [aB fs,bb ws,vI space,vI high,vI i,vI y,bo s] (oC (pD fs ws space high i y s)):=λU=>by
 refine U0.r (by simp[PL]) ?_;have hs:=aa.refl U;have hn:=fL ws;have U':=λU=>iq (U:=U) hi;have q0:((i:Int)<0)=False:=O';have q1:((i:Int)>=ws.length)=False:=O';refine ab.mix 18 ?_;apply sR;simp only[go_sem,seval,PL,bo];refine ad λi13 Y13 s13 Yr f13=>?_;replace hs:=hs.trans s13;simp only[go_sem,seval];refine ad λi14 Z14 s14 a14 f14=>?_;replace Yr:=s14 _ _ Yr;have z14:=hs.none f14;replace hs:=hs.trans s14;simp only[go_sem,seval,Yr,hn,U',q0,q1];have hgd:ws.getD i 0=ws[i]:=by simp[hi]
 obtain⟨Xg,Yb⟩:∃a,a=l8 fs ws[i] high s y:=⟨_,rfl⟩
 have hro:=H7 fs ws[i] high y s hl WL hy hh YR;rw[<-Yb]at hro;have hbo:=og (y:=Xg) (high:=high) WL YR;unfold pD;rw[hgd];simp only;rw[<-Yb];obtain⟨b,hb⟩:∃b,b=dS fs Xg high s:=⟨_,rfl⟩
 rw[<-hb]at hro hbo|-;refine Go.bw rfl rfl rfl hro ?_;apply sG;simp only[go_sem,seval,bo];refine aS λi15 Y15 s15 a15 f15=>?_;have n1315:=al Yr f15;replace Yr:=s15 _ _ Yr;have n1415:=al a14 f15;replace a14:=s15 _ _ a14;have z15:=hs.none f15;replace hs:=hs.trans s15;simp only[go_sem,seval,a15];generalize Yk:C' _ i15 _=Z15;replace a15:=(congrFun Yk i15).symm.trans af;replace Yr:=((congrFun Yk i13).symm.trans (ae n1315)).trans Yr;replace a14:=((congrFun Yk i14).symm.trans (ae n1415)).trans a14;replace hs:=Eq.subst (motive:=aa _) Yk (hs.av z15);clear Yk;refine ab.au rfl rfl rfl (JV b hbo.1 hbo.2 _) ?_;apply sR;simp only[go_sem,seval];refine ab.au rfl rfl rfl (Mv ws space (kr b) hw i hi _) ?_;apply sR;simp only[go_sem,seval,zd];refine ad λi17 Y17 s17 a17 f17=>?_;have n1317:=al Yr f17;replace Yr:=s17 _ _ Yr;have n1417:=al a14 f17;replace a14:=s17 _ _ a14;have n1517:=al a15 f17;replace a15:=s17 _ _ a15;have z17:=hs.none f17;replace hs:=hs.trans s17;simp only[go_sem,seval,a17,a15,a14,ae n1417,ae n1517];exact ak.pure ((hs.av z17).av z14) rfl
open Go.Proofs Go.Proofs.Tryz
def aM.Ey{K ZJ Z1:ag}{e sz:Nat}{v:V}{rows:List V}(h:aM K ZJ e sz v rows)(hs:aa ZJ Z1):
 ∃WW,bV Z1 e sz v=some (rows,WW)/\(∀K':ag,aa K' K->∀Z2,aa K' Z2->aa K' (Vc.bz Z2 WW))/\(∀i o,ZJ i=some o->(o.elem≠e\/o.sz≠sz)->∀Z2:ag,Vc.bz Z2 WW i=Z2 i)/\(∀i,ZJ i=none->∀Z2:ag,Vc.bz Z2 WW i=Z2 i):=by
 rcases h with⟨rfl,rfl⟩|⟨id,rfl,ho,hk⟩
 .exact⟨none,rfl,λ_ _ _ h=>h,λ_ _ _ _ _=>rfl,λ_ _ _=>rfl⟩
 .refine⟨some id,?_,λK' hK Z2 h=>h.Mm (hK.none hk),λi o hi W6 Z2=>?_,λi hi Z2=>?_⟩
  .simp only[bV,hs _ _ ho];rw[aq ⟨trivial,trivial,trivial,Xm _⟩,iR]
  .refine dg λe'=>?_;subst e';rw[ho]at hi;injection hi with hi;subst hi;rcases W6 with h|h<;>exact h rfl
  .refine dg λe'=>?_;subst e';rw[ho]at hi;cases hi
def uB{l:List T'}{w high B:Int}{s:XR}(hB:∀f∈l,f.y+f.h<=B):∀(k:Nat) (y:Int),y<=rQ l w high s k y/\rQ l w high s k y<=max y B
 |0,y=>by simp only[rQ];omega
 |k+1,y=>by
  rw[rQ];split
  .omega
  .rename_i hf;have W6:dS l y high s≠s:=λe=>hf (by simp[yN,e]);obtain⟨f,hm,h1,h2⟩:=jd (qw W6);have:=uB hB k (gK l y high s).1 (w:=w) (high:=high) (s:=s);have:=hB f hm;omega
def gb{l:List T'}{w high B y:Int}{s:XR}(hB:∀f∈l,f.y+f.h<=B):y<=l8 l w high s y/\l8 l w high s y<=max y B:=uB hB _ _
def dc(fs:List T')(ws:List Int)(space high:Int)(s:XR):Nat->Nat->Int->List Ln
 |0,_,_=>[]
 |k+1,i,y=>if i<ws.length then pD fs ws space high i y s::dc fs ws space high s k (pD fs ws space high i y s).to.toNat ((pD fs ws space high i y s).y+high)else[]
def kM(fs:List T')(ws:List Int)(space high:Int)(s:XR):∀(k i:Nat) (y:Int),(dc fs ws space high s k i y).length<=k
 |0,_,_=>by simp[dc]
 |k+1,i,y=>by
  rw[dc];split
  .have:=kM fs ws space high s k (pD fs ws space high i y s).to.toNat ((pD fs ws space high i y s).y+high);simp only[XX];omega
  .simp
def A1(l:Ln):(oC l).cells=[vI l.fr,vI l.to,vI l.x,vI l.y,vI l.w]:=rfl
def B3(l:Ln):(oC l).stays=true:=rfl
def sO(l:List Ln):V:=.sl 5 (l.map oC)
variable {P:Program} {n:Nat} {st:St} {Q:St->Prop} {k:List It}
def qc(D:List (List Nat))(S:List Nat)(s:Nat):List (List Nat):=(List.range D.length).map λi=>if S.contains i&&!(i==s)then s::D.getD i []else D.getD i []
def BZ{D:List (List Nat)}{S:List Nat}{s:Nat}:(qc D S s).length=D.length:=by simp[qc]
def Co{D:List (List Nat)}{S:List Nat}{s i:Nat}:(qc D S s).getD i []=if i<D.length/\i∈S/\i≠s then s::D.getD i []else D.getD i []:=by
 unfold qc;rw[pW,qX];by_cases hi:i<D.length
 .rw[List.getElem?_range hi];by_cases hs:i∈S
  .by_cases he:i=s
   .simp[he]
   .simp[hi,hs,he]
  .simp[hs]
 .have h1:(List.range D.length)[i]?=none:=oE (by simpa using hi);rw[h1,ao (λh=>hi h.1)];simp[oE (show D.length<=i by omega)]
def A3{D:List (List Nat)}{S:List Nat}{s i:Nat}(h:i∉S\/i=s):(qc D S s).getD i []=D.getD i []:=by
 rw[Co,ao];rintro⟨_,h1,h2⟩;exact h.elim (λh=>h h1) h2
def ub{D:List (List Nat)}{S:List Nat}{s:Nat}{L:List Nat}(hp:s∈L):dL (qc D S s) L=dL D L:=by
 unfold dL;rw[BZ];refine List.filter_congr λi hi=>?_;rw[Co];split
 .simp[hp]
 .rfl
def vW{l:List aD}{D:List (List Nat)}{S:List Nat}{s:Nat}{K:St->Prop}:∀(f:Nat) (L:List Nat) (y:St),s∈L->ja P l (qc D S s) K f L y->ja P l D K f L y
 |0,L,y,hp,h=>⟨by rw[<-ub hp];exact h.1,h.2⟩
 |f+1,L,y,hp,h=>by
  unfold ja at h|-;rw[ub hp]at h;cases hr:dL D L with
  |nil=>rw[hr]at h;exact h
  |cons a r=>
   rw[hr]at h;refine rH λi hi=>?_;obtain⟨ins,h1,h2⟩:=pc h i hi;exact⟨ins,h1,TC.mono (λx hx=>vW f _ x (by simp[hp]) hx) h2⟩
def yY{l:List aD}{K:St->Prop}{b:List Nat}:∀{a:List Nat},RE P l K (a++b)=RE P l (RE P l K b) a
 |[]=>rfl
 |m::a=>by
  funext x;rw[List.cons_append,RE,RE,yY]
def pP{l:List aD}{WZ:List (List Nat)}{b:List Nat}:∀{a done:List Nat},eg l WZ done (a++b)=eg l WZ done a++eg l WZ (done++a) b
 |[],done=>by simp[eg]
 |e::a,done=>by
  rw[List.cons_append,eg,eg,pP];simp
def RE.mono{l:List aD}{K K':St->Prop}(hk:∀x,K x->K' x):∀{a:List Nat} {x:St},RE P l K a x->RE P l K' a x
 |[],x,h=>hk x h
 |m::a,x,h=>by
  rw[RE]at h|-;cases hm:l[m/2]? with
  |none=>rw[hm]at h;exact h.elim
  |some i=>
   rw[hm]at h;simp only at h|-;split at h<;>rename_i he
   .rw[aq he];exact TC.mono (λx hx=>RE.mono hk hx) h
   .rw[ao he];exact⟨h.1,RE.mono hk h.2⟩
structure FN(l:List aD)(D WZ:List (List Nat))(pre tail S:List Nat)(befs:Nat->List (List Nat)):Prop where
 e:EOkW l D WZ (pre++tail)
 Zf:∀a b x y,pre++tail=a++b->x∈a->y∈b->x∈pre->dv l WZ x=true->x∈eQ WZ y
 sub:∀s∈S,s∈tail
 some:∃s,s∈S
 later:∀i∈tail,i∉S->∃s∈S,s∈eQ WZ i
 agree:∀s∈S,∀i∈pre,dv l (befs s) i=dv l WZ i
section
variable {l:List aD} {D WZ:List (List Nat)} {pre tail S:List Nat} {befs:Nat->List (List Nat)} {K:St->Prop} {Ks:Nat->St->Prop} (hF:FN l D WZ pre tail S befs)
include hF
def kJ.R9{L:List Nat}{y:St}:∀{rest done:List Nat} {x:St},kJ P l D WZ pre K L y done rest x->
 ∃done' rest' x',kJ P l D WZ pre K L y done' rest' x'/\∀h r,rest'=h::r->dv l WZ h=true
 |[],done,x,h=>⟨done,[],x,h,by simp⟩
 |e::rest,done,x,h=>by
  have hE:=hF.e;cases heff:dv l WZ e with
  |true=>exact⟨done,e::rest,x,h,λa r he=>by cases he;exact heff⟩
  |false=>
   have hel:e<l.length:=hE.lt e (by rw[h.split];simp);obtain⟨hk,hself⟩:=ir heff hel (hE.oW hel);have YK:=(List.nodup_append.1 hE.nodup).1;rw[h.split]at YK;have hed:e∉done:=λhm=>(List.nodup_append.1 YK).2.2 e hm e (by simp) rfl;have heL:e∉L:=λhm=>hed (h.sub e hm);have Zd:=h.go;rw[eg,Fh hel,Gr,ao (by simp[heff]),j6]at Zd;have hT:T P (bn l e) x (RE P l K (eg l WZ (done++[e]) rest)):=by
    rcases Zd with Zd|⟨_,Zd⟩
    .exact Zd
    .exfalso;revert Zd hk;generalize (bn l e).op=op;intro hk Zd;split at Zd
     .simp[bf]at hk
     .exact Zd
   obtain⟨v,hv,hgo'⟩:=(cm (by simp[fF,hk])).1 hT;refine kJ.R9 (rest:=rest) (done:=done++[e]) (x:=⟨aQ x.s (bn l e).dst v,x.U⟩) ⟨by rw[h.split];simp,λi hi=>by simp[h.sub i hi],h.nodup,h.closed,λi hi ZI=>?_,h.store,λd hd=>?_,λi hi hiL=>?_,hgo'⟩
   .rcases dD.1 hi with hi|hi
    .exact h.Zf i hi ZI
    .simp only[jV]at hi;rw[hi,heff]at ZI;cases ZI
   .have h1:=h.slot d λi hi hiL=>hd i (by simp[hi]) hiL;have h2:=hd e (by simp) heL;rw[h1];simp only;cases hde:(bn l e).dst with
    |none=>rfl
    |some d'=>
     rw[hde]at h2;simp only[aQ];rw[ao (λe'=>h2 (by rw[e']))]
   .by_cases ZI:i=e
    .subst ZI;unfold QYd;cases hd:(bn l i).dst with
     |none=>exact⟨v,hv⟩
     |some d=>
      simp only;have e1:aQ x.s (some d) v d=v:=by simp[aQ]
      rw[e1];exact(gk (λt ht=>by cases ht;exact hself d hd)).2 hv
    .have P':i∈done:=by
      rcases dD.1 hi with hi|hi
      .exact hi
      .simp only[jV]at hi;exact absurd hi ZI
     have Zy:i<l.length:=hE.lt i (by rw[h.split];simp[P']);refine vw hE Zy hel ZI (λd hd hu=>?_) (λv hv=>hv) (h.lag i P' hiL);rcases hE.anti i e Zy hel ZI d hd hu with h1|⟨h1,_⟩
     .obtain⟨a,b,hab⟩:=List.append_of_mem P';have h2:=hE.nK (a:=a) (j:=i) (b:=b++e::rest++tail) (by rw[h.split,hab];simp) e h1;exact hed (by rw[hab];simp[h2])
     .rw[heff]at h1;cases h1
def DL(hH:∀s∈S,∀(f:Nat) (L:List Nat) (y:St) (done rest:List Nat) (x:St),f+L.length=l.length->kJ P l (qc D S s) (befs s) pre (Ks s) L y done rest x->ja P l (qc D S s) K f L y):
 ∀(f:Nat) (L:List Nat) (y:St) (done rest:List Nat) (x:St),f+L.length=l.length->(∀s∈S,s∉L)->kJ P l D WZ pre (λx=>∀s∈S,Ks s x) L y done rest x->ja P l D K f L y:=by
 have hE:=hF.e;obtain⟨s0,W9⟩:=hF.some;have H':∀s∈S,s<l.length:=λs hs=>hE.lt s (by simp[hF.sub s hs]);have hpre:∀s∈S,s∉pre:=λs hs hm=>(List.nodup_append.1 hE.nodup).2.2 s hm s (hF.sub s hs) rfl;intro f
 induction f with
 |zero=>
  intro L y done rest x hf hSL h;exact absurd ((vH l.length L h.nodup λi hi=>hE.lt i (by rw[h.split];simp[h.sub i hi])).2 (by omega) s0 (H' s0 W9)) (hSL s0 W9)
 |succ f ih=>
  intro L y done rest x hf hSL h;obtain⟨done,rest,x,h,hhead⟩:=kJ.R9 hF h;have YK:=(List.nodup_append.1 hE.nodup).1;rw[h.split]at YK;have hdp:∀i∈done,i∈pre:=λi hi=>by rw[h.split];simp[hi]
  have XH:∀m∈L,∀d∈D.getD m [],d∈L:=h.closed;have hclS:∀s,∀m∈L,∀d∈(qc D S s).getD m [],d∈L:=λs m hm d hd=>by
   rw[A3 (.inl λhs=>hSL m hs hm)]at hd;exact h.closed m hm d hd
  have take:rest=[]->∀s∈S,ja P l (qc D S s) K (f+1) L y:=λhr s hs=>by
   subst hr;have hdp':pre=done:=by rw[h.split];simp
   refine hH s hs (f+1) L y done [] x hf ⟨by rw[hdp'];simp,h.sub,h.nodup,hclS s,λi hi ZI=>h.Zf i hi (by rw[<-hF.agree s hs i (hdp i hi)];exact ZI),h.store,h.slot,h.lag,?_⟩;exact h.go s hs
  have key:xL P l (ja P l D K f) L y (dL D L):=by
   refine rH λi hi=>?_;have hi0:=hi;obtain⟨Zy,hiL,hdep⟩:=xD hi;rw[hE.dlen]at Zy;by_cases hiS:i∈S
   .have hm:i∈dL (qc D S i) L:=by
     unfold dL;refine tm.2 ⟨by rw[BZ,hE.dlen];simpa using Zy,?_⟩;rw[A3 (.inr rfl)];exact(tm.1 hi).2
    have hrest:rest=[]:=by
     cases hrr:rest with
     |nil=>rfl
     |cons a rr=>
      exfalso;have ha:=hhead a rr hrr;have hapre:a∈pre:=by rw[h.split,hrr];simp
      have hb:a∈eQ WZ i:=hF.Zf pre tail a i rfl hapre (hF.sub i hiS) hapre ha;obtain⟨pa,pb,hpe⟩:=List.append_of_mem (hE.mem i Zy);have haL:a∈L:=hE.closed XH hE.mem (pa.length+1) pa i pb (by omega) hpe (λd hd=>hdep d hd) a hb;rw[hrr]at YK;exact(List.nodup_append.1 YK).2.2 a (h.sub a haL) a (by simp) rfl
    have h1:=take hrest i hiS;unfold ja at h1;cases hr:dL (qc D S i) L with
    |nil=>rw[hr]at hm;cases hm
    |cons a r=>
     rw[hr]at h1 hm;obtain⟨ins,g1,g2⟩:=pc h1 i hm;exact⟨ins,g1,TC.mono (λx hx=>vW f _ x (by simp) hx) g2⟩
   refine⟨bn l i,by simp[bn,ZF Zy],?_⟩;obtain⟨pa,pb,hpe⟩:=List.append_of_mem (hE.mem i Zy);have hbefL:∀j∈eQ WZ i,j∈L:=hE.closed XH hE.mem (pa.length+1) pa i pb (by omega) hpe hdep;have huses:∀u∈(bn l i).mz,x.s u=y.s u:=λu hu=>(h.slot u λj hj hjL hd=>by
    have hjl:j<l.length:=hE.lt j (by simp[hdp j hj]);by_cases YO:j=i
    .subst YO;cases Yq:dv l WZ j with
     |true=>exact hjL (h.Zf j hj Yq)
     |false=>exact(ir Yq hjl (hE.oW hjl)).2 u hd hu
    .rcases hE.anti i j Zy hjl (λe=>YO e.symm) u hd hu with h1|⟨h1,_⟩
     .exact hjL (hbefL j h1)
     .exact hjL (h.Zf j hj h1)).symm
   by_cases P':i∈done
   .have ZI:dv l WZ i=false:=by
     cases ZI:dv l WZ i with
     |false=>rfl
     |true=>exact absurd (h.Zf i P' ZI) hiL
    obtain⟨hk,_⟩:=ir ZI Zy (hE.oW Zy);have hq:=h.lag i P' hiL;obtain⟨v,hv,hvd⟩:∃v,QY P (bn l i) x.s x.U v/\∀d,(bn l i).dst=some d->x.s d=v:=by
     unfold QYd at hq;cases hd:(bn l i).dst with
     |none=>rw[hd]at hq;obtain⟨v,hq⟩:=hq;exact⟨v,hq,by simp⟩
     |some d=>rw[hd]at hq;exact⟨_,hq,λd' e=>by cases e;rfl⟩
    refine .inl ((cm (by simp[fF,hk])).2 ⟨v,?_,?_⟩)
    .rw[h.store];exact BA huses hv
    .refine ih (i::L) _ done rest x (by simp only[XX];omega) (λs hs hm=>(db.1 hm).elim (λe=>hiS (e▸hs)) (hSL s hs)) ⟨h.split,λj hj=>?_,List.nodup_cons.2 ⟨hiL,h.nodup⟩,λm hm d hd=>?_,λj hj Yq=>by simp[h.Zf j hj Yq],h.store,λd hd=>?_,λj hj hjL=>h.lag j hj (λhm=>hjL (by simp[hm])),h.go⟩
     .rcases db.1 hj with rfl|hj
      .exact P'
      .exact h.sub j hj
     .rcases db.1 hm with rfl|hm
      .simp[hdep d hd]
      .simp[h.closed m hm d hd]
     .simp only;by_cases hdi:(bn l i).dst=some d
      .rw[hdi];simp only[aQ];rw[aq trivial];exact(hvd d hdi).symm
      .have h1:=h.slot d λj hj hjL=>by
        by_cases YO:j=i
        .rw[YO];exact hdi
        .exact hd j hj (by simp[YO,hjL])
       rw[<-h1];cases hde:(bn l i).dst with
       |none=>rfl
       |some d'=>
        rw[hde]at hdi;simp only[aQ];rw[ao (λe'=>hdi (by rw[e']))]
   .have hir:i∈rest++tail:=by
     have:=hE.mem i Zy;rw[h.split,my]at this;exact(dD.1 this).resolve_left P'
    obtain⟨hd0,rr,rfl⟩:∃a r,rest=a::r:=by
     cases rest with
     |nil=>
      exfalso;rw[j6]at hir;obtain⟨s,hs,hsb⟩:=hF.later i hir hiS;exact hSL s hs (hbefL _ hsb)
     |cons a r=>exact⟨a,r,rfl⟩
    have heff:=hhead hd0 rr rfl;have hh0:hd0∉done:=λhm=>(List.nodup_append.1 YK).2.2 hd0 hm hd0 (by simp) rfl;have hih:i=hd0:=by
     rcases db.1 (show i∈hd0::(rr++tail)from hir)with e|hir
     .exact e
     .exfalso;have:=hF.Zf (done++[hd0]) (rr++tail) hd0 i (by rw[h.split];simp) (by simp) hir (by rw[h.split];simp) heff;exact hh0 (h.sub _ (hbefL _ this))
    subst hih;have Zd:=h.go;rw[show eg l WZ done (i::rr)=2*i::(Gr l WZ done i++eg l WZ (done++[i]) rr)from rfl,Fh Zy]at Zd;refine CP huses h.store.symm (λr Z' hK=>?_) Zd;rw[Gr,aq heff]at hK;obtain⟨hck,hgo'⟩:=u7 (λk=>!(dv l WZ k)&&(!(lD (bn l k).op)&&!((eQ WZ i).contains k))) (λj hj=>hE.lt j (by simp[hdp j hj])) hK;refine ih (i::L) _ (done++[i]) rr ⟨aQ x.s (bn l i).dst r,Z'⟩ (by simp only[XX];omega) (λs hs hm=>(db.1 hm).elim (λe=>hiS (e▸hs)) (hSL s hs)) ⟨by rw[h.split];simp,λj hj=>?_,List.nodup_cons.2 ⟨hiL,h.nodup⟩,λm hm d hd=>?_,λj hj Yq=>?_,rfl,λd hd=>?_,λj hj hjL=>?_,hgo'⟩
    .rcases db.1 hj with rfl|hj
     .simp
     .simp[h.sub j hj]
    .rcases db.1 hm with rfl|hm
     .simp[hdep d hd]
     .simp[h.closed m hm d hd]
    .rcases dD.1 hj with hj|hj
     .simp[h.Zf j hj Yq]
     .simp only[jV]at hj;simp[hj]
    .have h1:(bn l i).dst=some d\/y.s d=x.s d:=by
      by_cases hdi:(bn l i).dst=some d
      .exact .inl hdi
      .exact .inr (h.slot d λj hj hjL=>hd j (by simp[hj]) (by
        simp only[db,not_or];exact⟨λe=>P' (e▸hj),hjL⟩))
     simp only;cases hde:(bn l i).dst with
     |none=>rw[hde]at h1;exact h1.resolve_left (by simp)
     |some d'=>
      simp only[aQ];split
      .rfl
      .rename_i W6;rw[hde]at h1;exact h1.resolve_left (λe=>W6 (by cases e;rfl))
    .have hjd:j∈done:=by
      rcases dD.1 hj with hj|hj
      .exact hj
      .simp only[jV]at hj;exact absurd (by simp[hj]) hjL
     have hjL':j∉L:=λhm=>hjL (by simp[hm]);have hjl:j<l.length:=hE.lt j (by simp[hdp j hjd]);have YO:j≠i:=λe=>P' (e▸hjd);have Yq:dv l WZ j=false:=by
      cases Yq:dv l WZ j with
      |false=>rfl
      |true=>exact absurd (h.Zf j hjd Yq) hjL'
     cases hsf:lD (bn l j).op with
     |true=>
      refine vw hE hjl Zy YO (λd hd hu=>?_) (λv hv=>kG hsf hv) (h.lag j hjd hjL');rcases hE.anti j i hjl Zy YO d hd hu with h1|⟨_,h1⟩
      .obtain⟨a,b,hab⟩:=List.append_of_mem hjd;have h2:=hE.nK (a:=a) (j:=j) (b:=b++i::rr++tail) (by rw[h.split,hab];simp) i h1;exact P' (by rw[hab];simp[h2])
      .exact hjL' (hbefL j h1)
     |false=>
      refine hck j hjd ?_;simp only[Yq,hsf,Bool.not_false,Bool.true_and,Bool.not_eq_true'];cases hc:(eQ WZ i).contains j with
      |false=>rfl
      |true=>exact absurd (hbefL j (List.contains_iff_mem.1 hc)) hjL'
  cases hr:dL D L with
  |cons a r=>unfold ja;rw[hr]at key|-;exact key
  |nil=>
   exfalso;have first:∀(a b:List Nat),pre++tail=a++b->(∀j∈a,j∈L)->(∃i∈b,i∉L)->∃a' e b',pre++tail=a'++e::b'/\(∀j∈a',j∈L)/\e∉L:=by
    intro a b
    induction b generalizing a with
    |nil=>rintro _ _ ⟨i,h,_⟩;cases h
    |cons e b ihb=>
     intro he ha hx;by_cases heL:e∈L
     .refine ihb (a++[e]) (by rw[he];simp) (λj hj=>?_) ?_
      .rcases dD.1 hj with hj|hj
       .exact ha j hj
       .simp only[jV]at hj;rw[hj];exact heL
      .obtain⟨i,hi,hiL⟩:=hx;rcases db.1 hi with rfl|hi
       .exact absurd heL hiL
       .exact⟨i,hi,hiL⟩
     .exact⟨a,e,b,he,ha,heL⟩
   obtain⟨a,e,b,he,ha,heL⟩:=first [] (pre++tail) rfl (by simp) ⟨s0,by simp[hF.sub s0 W9],hSL s0 W9⟩
   have hel:e<l.length:=hE.lt e (by rw[he];simp);have:e∈dL D L:=by
    unfold dL;refine tm.2 ⟨by simp[hE.dlen,hel],?_⟩;simp only[Ba,Bool.not_eq_true',eT];exact⟨by simpa using heL,λd hd=>List.contains_iff_mem.2 (ha d (hE.ahead a e b he d hd))⟩
   rw[hr]at this;cases this
end
inductive PT where
 |leaf (WZ:List (List Nat)) (r:List Nat)
 |fork (WZ:List (List Nat)) (m:List Nat) (S:List Nat) (kids:List PT)
def PT.WZ:PT->List (List Nat)
 |.leaf b _=>b
 |.fork b _ _ _=>b
def PT.ord:Nat->PT->List Nat
 |0,_=>[]
 |f+1,t=>match t with
  |.leaf _ r=>r
  |.fork _ m _ kids=>m++(match kids with
   |k::_=>PT.ord f k
   |[]=>[])
def EV(g:Nat->PT->Bool):List Nat->List PT->Bool
 |[],[]=>true
 |s::ss,t::ts=>g s t&&EV g ss ts
 |_,_=>false
def wx{g:Nat->PT->Bool}:∀{S:List Nat} {ts:List PT},EV g S ts=true->∀s∈S,∃t∈ts,g s t=true
 |[],[],_,s,hs=>by cases hs
 |a::S,t::ts,h,s,hs=>by
  simp only[EV,Ba]at h;rcases db.1 hs with rfl|hs
  .exact⟨t,by simp,h.1⟩
  .obtain⟨t',h1,h2⟩:=wx h.2 s hs;exact⟨t',by simp[h1],h2⟩
def M3(l:List aD)(D WZ:List (List Nat))(pre tail S:List Nat):Bool:=
 Mn l D WZ (pre++tail)&&(nO (λa b=>!(pre.contains a)||(!(dv l WZ a)||(eQ WZ b).contains a)) (pre++tail)&&
 (S.all tail.contains&&(!S.isEmpty&&tail.all λi=>S.contains i||S.any λs=>(eQ WZ i).contains s)))
def J6(l:List aD):Nat->List (List Nat)->List Nat->PT->Bool
 |0,_,_,_=>false
 |f+1,D,pre,t=>match t with
  |.leaf WZ r=>eOk l D WZ (pre++r)
  |.fork WZ m S kids=>M3 l D WZ (pre++m) (match kids with
    |k::_=>PT.ord f k
    |[]=>[]) S&&EV (λs k=>((pre++m).all λi=>dv l k.WZ i==dv l WZ i)&&J6 l f (qc D S s) (pre++m) k) S kids
def GT(P:Program)(l:List aD)(K:St->Prop):Nat->List Nat->PT->St->Prop
 |0,_,_,_=>False
 |f+1,pre,t,x=>match t with
  |.leaf WZ r=>RE P l K (eg l WZ pre r) x
  |.fork WZ m _ kids=>RE P l (λx=>∀k∈kids,GT P l K f (pre++m) k x) (eg l WZ pre m) x
def kJ.more{l:List aD}{D WZ:List (List Nat)}{pre m:List Nat}{K:St->Prop}{L:List Nat}{y:St}{done rest:List Nat}{x:St}(h:kJ P l D WZ pre (RE P l K (eg l WZ pre m)) L y done rest x):
 kJ P l D WZ (pre++m) K L y done (rest++m) x:=by
 refine⟨by rw[h.split];simp,h.sub,h.nodup,h.closed,h.Zf,h.store,h.slot,h.lag,?_⟩;rw[pP,yY,<-h.split];exact h.go
def kJ.mono{l:List aD}{D WZ:List (List Nat)}{pre:List Nat}{K K':St->Prop}(hk:∀x,K x->K' x){L:List Nat}{y:St}{done rest:List Nat}{x:St}(h:kJ P l D WZ pre K L y done rest x):
 kJ P l D WZ pre K' L y done rest x:=⟨h.split,h.sub,h.nodup,h.closed,h.Zf,h.store,h.slot,h.lag,RE.mono hk h.go⟩
def EO{l:List aD}{K:St->Prop}:∀(fu:Nat) (D:List (List Nat)) (pre:List Nat) (t:PT),J6 l fu D pre t=true->∀(f:Nat) (L:List Nat) (y:St) (done rest:List Nat) (x:St),f+L.length=l.length->
 (∀i∈L,i∈pre)->kJ P l D t.WZ pre (GT P l K fu pre t) L y done rest x->ja P l D K f L y
 |0,_,_,_,h,_,_,_,_,_,_,_,_,_=>by cases h
 |fu+1,D,pre,t,h,f,L,y,done,rest,x,hf,hLp,hl=>by
  cases t with
  |leaf WZ r=>exact rT (Cr h) f L y done (rest++r) x hf (kJ.more hl)
  |fork WZ m S kids=>
   simp only[J6,Ba]at h;obtain⟨h1,h2⟩:=h;generalize (match kids with
    |k::_=>PT.ord fu k
    |[]=>[])=tail at h1
   simp only[M3,Ba]at h1;obtain⟨g1,g2,g3,g4,g5⟩:=h1;have hk:=wx h2;have hW:=zB g1;have hF:∀kid:Nat->PT,(∀s∈S,((pre++m).all λi=>dv l (kid s).WZ i==dv l WZ i)=true)->FN l D WZ (pre++m) tail S (λs=>(kid s).WZ):=λkid hkid=>by
    refine⟨hW,λa b u v he hu hv hup hue=>?_,λs hs=>by simpa using eT.1 g3 s hs,?_,λi hi hiS=>?_,λs hs i hi=>by simpa using eT.1 (hkid s hs) i hi⟩
    .rw[he]at g2;have:=nJ g2 hu hv;simp only[kX,Bool.not_eq_true',List.contains_iff_mem,hue,Bool.true_eq_false,false_or]at this;rcases this with h|h
     .have hc:(pre++m).contains u=true:=List.contains_iff_mem.2 hup;rw[hc]at h;cases h
     .exact h
    .cases S with
     |nil=>simp at g4
     |cons s S=>exact⟨s,by simp⟩
    .have:=eT.1 g5 i hi;simp only[kX,List.contains_iff_mem,PX]at this;exact this.resolve_left hiS
   have hch:∀s,∃k:PT,s∈S->(k∈kids/\(((pre++m).all λi=>dv l k.WZ i==dv l WZ i)=true/\J6 l fu (qc D S s) (pre++m) k=true)):=λs=>by
    by_cases hs:s∈S
    .obtain⟨k,h3,h4⟩:=hk s hs;simp only[Ba]at h4;exact⟨k,λ_=>⟨h3,h4⟩⟩
    .exact⟨.leaf [] [],λh=>absurd h hs⟩
   obtain⟨kid,hkid⟩:=Classical.axiomOfChoice hch;have hFN:=hF kid λs hs=>(hkid s hs).2.1;have hSpre:∀s∈S,s∉pre++m:=λs hs hm=>(List.nodup_append.1 hW.nodup).2.2 s hm s (hFN.sub s hs) rfl;refine DL (Ks:=λs=>GT P l K fu (pre++m) (kid s)) hFN (λs hs f L y done rest x hf hl=>?_) f L y done (rest++m) x hf (λs hs hm=>hSpre s hs (List.mem_append_left _ (hLp s hm))) ?_
   .refine EO fu _ _ _ (hkid s hs).2.2 f L y done rest x hf (λi hi=>?_) hl;have:=hl.sub i hi;rw[hl.split];simp[this]
   .exact kJ.mono (λx hx s hs=>hx (kid s) (hkid s hs).1) (kJ.more hl)
def ab.D3(hm:P.follows .mixedOrders=true){l:List aD}{W2:List (List Nat)}(fu:Nat)(t:PT)(hB:J6 l fu W2 [] t=true)(h:GT P l (λx=>ab P n k x Q) fu [] t st):ab P n (.code (.regA l W2)::k) st Q:=by
 refine ab.M9 hm (EO fu W2 [] t hB l.length [] st [] [] st (by simp) (by simp) ⟨rfl,by simp,List.nodup_nil,by simp,by simp,rfl,λ_ _=>rfl,by simp,?_⟩);exact h
variable {P:Program} {l:List aD} {K:St->Prop} {f:Nat} {pre m S r its:List Nat} {WZ:List (List Nat)} {a b c:PT} {x:St}
def GT.gm(h:eg l WZ pre r=its)(hg:RE P l K its x):GT P l K (f+1) pre (.leaf WZ r) x:=by subst h;exact hg
def GT.ny(h:eg l WZ pre m=its)(hg:RE P l (λx=>GT P l K f (pre++m) a x/\GT P l K f (pre++m) b x) its x):GT P l K (f+1) pre (.fork WZ m S [a,b]) x:=by
 subst h;refine RE.mono (λx hx k hk=>?_) hg;simp only[db,List.not_mem_nil,or_false]at hk;rcases hk with rfl|rfl
 .exact hx.1
 .exact hx.2
def GT.Nz(h:eg l WZ pre m=its)(hg:RE P l (λx=>GT P l K f (pre++m) a x/\GT P l K f (pre++m) b x/\GT P l K f (pre++m) c x) its x):GT P l K (f+1) pre (.fork WZ m S [a,b,c]) x:=by
 subst h;refine RE.mono (λx hx k hk=>?_) hg;simp only[db,List.not_mem_nil,or_false]at hk;rcases hk with rfl|rfl|rfl
 .exact hx.1
 .exact hx.2.1
 .exact hx.2.2
open Go.Proofs Go.Proofs.Tryz
def pT(fs:List T')(y:Int):Int:=if(dU wy fs).2 then max y (dU wy fs).1 else y
def ml(fs:List T')(f:T')(y:Int)(s:XR):Int:=rM fs f.w f.h s (pT fs y)
def rR(fs:List T')(f:T')(y:Int)(s:XR):Int:=
 let b:=dS fs (ml fs f y s) f.h s
 if f.side=1 then b.a else max b.a (b.b-f.w)
def ji(fs:List T')(f:T')(y:Int)(s:XR):T':={ f with x:=rR fs f y s,y:=ml fs f y s }
def sJ(fs:List T')(f:T')(y:Int)(s:XR):List T':=fs++[ji fs f y s]
def KN{fs:List T'}{y:Int}(WL:∀f∈fs,f.ok)(hy:YS y):YS (pT fs y):=by
 unfold pT;split
 .rename_i h;obtain⟨f,hf,h1,_⟩:=mU h;obtain⟨_,⟨h3,h4⟩,_⟩:=WL f hf;obtain⟨g1,g2⟩:=hy;rw[h1];simp only[wy];exact⟨by omega,by omega⟩
 .exact hy
def QF(fs:List T')(f:T')(y:Int)(s:XR)(hl:fs.length<=1000000)(WL:∀f∈fs,f.ok)(hy:YS y)(hh:Bq f.h)(hw:Bq f.w)(YR:YS s.a/\YS s.b):
 aK prog 270 [aB fs,aJ f,vI y,bo s] (.WJ [vI (rR fs f y s),vI (ml fs f y s)]):=λU=>by
 refine VB.r (by simp[OK]) ?_;have hs:=aa.refl U;refine ab.mix 14 ?_;apply sR;simp only[go_sem,seval,OK,aJ,bo];refine ad λi5 Z5 s5 a5 f5=>?_;replace hs:=hs.trans s5;simp only[go_sem,seval];refine ad λi7 Z7 s7 a7 f7=>?_;replace a5:=s7 _ _ a5;replace hs:=hs.trans s7;simp only[go_sem,seval];refine ab.au rfl rfl rfl (R0 fs hl WL _) ?_;have hty:=KN (y:=y) WL hy;have hdn:=LZ fs f (pT fs y) s hl WL hty hh YR;have hbo:=og (y:=ml fs f y s) (high:=f.h) WL YR;obtain⟨z,hz⟩:∃z,z=ml fs f y s:=⟨_,rfl⟩
 have hz2:rM fs f.w f.h s (pT fs y)=z:=hz.symm;rw[hz2]at hdn;rw[<-hz]at hbo;obtain⟨b,hb⟩:∃b,b=dS fs z f.h s:=⟨_,rfl⟩
 have hx:rR fs f y s=if f.side=1 then b.a else max b.a (b.b-f.w):=by unfold rR;rw[<-hz,<-hb]
 rw[<-hz,hx];rw[<-hb]at hdn hbo;obtain⟨hb1,XW,hb3,hb4⟩:-2305843009213693952<=b.a/\b.a<=2305843009213693952/\-2305843009213693952<=b.b/\b.b<=2305843009213693952:=⟨hbo.1.1,hbo.1.2,hbo.2.1,hbo.2.2⟩
 obtain⟨hw1,hw2⟩:=hw;cases ht:(dU wy fs).2
 .have hty2:pT fs y=y:=by unfold pT;rw[ht];rfl
  rw[hty2]at hdn;apply sR;simp only[go_sem,seval,a7,a5,dI,dK];refine ab.au rfl rfl rfl (hdn _) ?_;apply sR;simp only[go_sem,seval,bo];refine ad λYH Z12 s12 a12 f12=>?_;have n512:=al a5 f12;replace a5:=s12 _ _ a5;have n712:=al a7 f12;replace a7:=s12 _ _ a7;have z12:=hs.none f12;replace hs:=hs.trans s12;by_cases hsd:f.side=1
  .have q:(f.side=1)=True:=WE hsd;rw[aq hsd];simp only[go_sem,seval,a12,a5,q,ae n512];exact ak.pure (hs.av z12) rfl
  .have q:(f.side=1)=False:=O' hsd;rw[ao hsd];have r1:WR .i64 (b.b-f.w):=ai;simp only[go_sem,seval,a12,a5,q,r1,dr,ae n512];exact ak.pure (hs.av z12) rfl
 .have hty2:pT fs y=max y (dU wy fs).1:=by unfold pT;rw[ht];rfl
  rw[hty2]at hdn;apply sR;simp only[go_sem,seval,a7,a5,dI,dK,dr];refine ab.au rfl rfl rfl (hdn _) ?_;apply sR;simp only[go_sem,seval,bo];refine ad λYH Z12 s12 a12 f12=>?_;have n512:=al a5 f12;replace a5:=s12 _ _ a5;have n712:=al a7 f12;replace a7:=s12 _ _ a7;have z12:=hs.none f12;replace hs:=hs.trans s12;by_cases hsd:f.side=1
  .have q:(f.side=1)=True:=WE hsd;rw[aq hsd];simp only[go_sem,seval,a12,a5,q,ae n512];exact ak.pure (hs.av z12) rfl
  .have q:(f.side=1)=False:=O' hsd;rw[ao hsd];have r1:WR .i64 (b.b-f.w):=ai;simp only[go_sem,seval,a12,a5,q,r1,dr,ae n512];exact ak.pure (hs.av z12) rfl
open Go.Proofs Go.Proofs.Tryz
def cG(p:Int->Bool):List Int->Int
 |[]=>-1
 |x::l=>if p x then 0 else if cG p l<0 then -1 else cG p l+1
def rv(p:Int->Bool)(i:Nat)(l:List Int):Int:=if cG p l<0 then -1 else cG p l+i
def jc(p:Int->Bool):∀l,-1<=cG p l
 |[]=>by simp[cG]
 |x::l=>by
  have:=jc p l;simp only[cG];split
  .omega
  .split<;>omega
def GA(p:Int->Bool)(l:List Int):cG p l=rv p 0 l:=by
 have:=jc p l;unfold rv;split<;>omega
def nW{U:ag}{sv:V}{l:List Int}{f:FuncId}{caps:List V}{p:Int->Bool}(hr:Reads U 1 false sv (l.map vI))(hl:l.length<=200000000000000)
 (hf:∀n∈l,ax prog f (vI n::caps) U λr Z'=>r=.bool (p n)/\Z'=U):
 ax prog 212 [sv,.fn f caps] U λr Z'=>r=vI (cG p l)/\Z'=U:=by
 have hlen:cP false sv=some (vI (l.length:Int)):=by simpa using hr.1
 refine V4.r (by simp[NN]) ?_;apply sR;simp only[go_sem,seval,NN,hlen];refine ab.loop (λm st=>∃i:Nat,i<=l.length/\m=l.length-i/\cG p l=rv p i (l.drop i)/\st.U=U/\st.s 0=sv/\st.s 1=.fn f caps/\st.s 7=vI l.length/\st.s 8=vI i) l.length ?_ ?_
 .exact⟨0,by omega,by omega,GA p l,rfl,rfl,rfl,rfl,rfl⟩
 .rintro m ⟨s,Z'⟩ ⟨i,hi,rfl,hp,W4,h0,h1,h7,h8⟩;simp only at h0 h1 h7 h8 W4;subst W4;apply sR;simp only[go_sem,seval,h0,h1,h7,h8];constructor
  .intro H';have YI:i<l.length:=by omega
   have hd:l.drop i=l[i]::l.drop (i+1):=gF YI;obtain⟨pp,e1,e2⟩:=hr.2 i (vI l[i]) (by simp[YI]);simp only[go_sem,seval,e1,e2];refine ab.au rfl rfl rfl (hf l[i] (XI YI)) ?_;apply sR;simp only[go_sem,seval];cases hpx:p l[i]
   .simp only[go_sem,seval,h8];refine⟨ai,_,?_,i+1,by omega,rfl,?_,h0,h1,h7,?_⟩
    .omega
    .rw[hp,hd];simp only[rv,cG,hpx,fG,if_false];have:=jc p (l.drop (i+1))
     repeat' split
     all_goals omega
    .simp
   .simp only[go_sem,seval];refine ak.same ?_;rw[hp,hd];simp[rv,cG,hpx]
  .intro hge;have:i=l.length:=by omega
   refine ak.same ?_;rw[hp,this,zN];rfl
open Go.Proofs Go.Proofs.Tryz
def Nd.ok(x:Nd):Bool:=
 if x.kind=1 then x.st.ok&&decide (x.line=0)&&decide (x.space=0)&&decide (x.words.length=0)&&decide (x.side=0)&&decide (x.w=0)&&decide (x.h=0)
 else if x.st≠YA.zero then false
 else if x.kind=2 then x.words.all (bj · 1 mx)&&decide (0<x.words.length)&&bj x.line 1 mx&&bj x.space 0 mx&&decide (x.side=0)&&decide (x.w=0)&&decide (x.h=0)
 else decide (x.line=0)&&decide (x.space=0)&&decide (x.words.length=0)&&bj x.w 1 mx&&bj x.h 1 mx&&
  (decide (x.kind=3)&&decide (x.side=0)||decide (x.kind=4)&&bj x.side 1 2)
def eR(l:List Int):cP false (bb l)=some (.int .i64 l.length):=by simp[bb,cP]
def wH(b:Bool):V.bool b=V.bool (decide (b=true)):=by cases b<;>rfl
open Go.Proofs Go.Proofs.Tryz
def nZ{U:ag}{l:List Nd}{i:Nat}(h:i<l.length):bp U 20 (aC l) (.int .i64 i)=some (.rp (.agg (Nd.cells l[i]))):=by
 simp[aC,bp,h,jE]
def bW(l:List Nd)(a e:Nat):Bool:=
 if _h:a<e then
  match l[a]? with
  |none=>false
  |some x=>if _hx:1<=x.size/\x.size<=(e:Int)-a then
     (decide (x.kind=1)||decide (x.size<=1))&&bW l (a+1) (a+x.size.toNat)&&bW l (a+x.size.toNat) e else false
 else true
termination_by e-a
decreasing_by all_goals omega
open Go.Proofs Go.Proofs.Tryz
def cT(l:List Nd):Prop:=l.length<=10000/\∀x∈l,x.words.length<=200000000000000
def Xw(l:List Nd):Bool:=l.all Nd.ok&&bW l 0 l.length
open Go.Proofs Go.Proofs.Tryz
def jf(l:List Nd):∀(m a e:Nat),e-a<m->e<=l.length->bW l a e=true->∀k,a<=k->(h:k<e)->(h2:k<l.length)->1<=l[k].size/\l[k].size<=(e:Int)-k/\(l[k].kind=1\/l[k].size<=1)
 |0,_,_,h,_,_=>by omega
 |m+1,a,e,hm,he,hr=>by
  intro k hk hke h2;have hae:a<e:=by omega
  have ha:a<l.length:=by omega
  rw[bW,dif_pos hae]at hr;have hga:l[a]?=some l[a]:=by simp[ha]
  rw[hga]at hr;simp only at hr;split at hr
  .rename_i hx;simp only[Ba,kX,Zs]at hr;obtain⟨⟨h3,h4⟩,h5⟩:=hr;by_cases hka:k=a
   .subst hka;exact⟨hx.1,hx.2,h3⟩
   .by_cases hin:k<a+l[a].size.toNat
    .obtain⟨g1,g2,g3⟩:=jf l m (a+1) (a+l[a].size.toNat) (by omega) (by omega) h4 k (by omega) hin h2;exact⟨g1,by omega,g3⟩
    .exact jf l m (a+l[a].size.toNat) e (by omega) he h5 k (by omega) hke h2
  .cases hr
structure Sm where
 (depth pieces nodes WH:Int)
deriving DecidableEq
def Sm.cells(s:Sm):List V:=[vI s.depth,vI s.pieces,vI s.nodes,vI s.WH]
def kN(a b:Int):Int:=min (a+b) 1099511627777
def jt(l:List Nd)(i:Nat):Nat->Int
 |0=>0
 |k+1=>jt l i k+(match l[k]? with
  |some y=>if y.kind=1/\(i:Int)<k+y.size then 1 else 0
  |none=>0)
def Eo(a b:Int):Nat->Int
 |0=>a
 |n+1=>kN (Eo a b n) b
def qh(l:List Nd)(i:Nat)(x:Nd)(s:Sm):Sm:=
 if x.kind=1 then{ s with depth:=max s.depth (jt l i (i+1)),WH:=kN (kN (kN (kN (kN s.WH x.st.top) x.st.W3) x.st.WU) x.st.WI) x.st.head }
 else if x.kind=2 then{ s with pieces:=s.pieces+x.words.length,WH:=Eo s.WH x.line x.words.length }
 else{ s with pieces:=s.pieces+1,WH:=kN s.WH x.h }
def ij(l:List Nd)(s:Sm):Nat->Sm
 |0=>s
 |i+1=>match l[i]? with
  |some x=>qh l i x (ij l s i)
  |none=>ij l s i
def jC(l:List Nd):Sm×Int:=if Xw l then(ij l ⟨0,0,l.length,0⟩ l.length,0)else(⟨0,0,0,0⟩,4)
def fS{a b:Int}(h1:0<=a/\a<=1099511627777)(h2:0<=b):0<=kN a b/\kN a b<=1099511627777:=by
 unfold kN;omega
def FC{a b:Int}(h1:0<=a/\a<=1099511627777)(h2:0<=b):∀n,0<=Eo a b n/\Eo a b n<=1099511627777
 |0=>h1
 |n+1=>fS (FC h1 h2 n) h2
def xH(l:List Nd)(i:Nat):∀k,0<=jt l i k/\jt l i k<=k
 |0=>by simp[jt]
 |k+1=>by
  have:=xH l i k;simp only[jt];split
  .split<;>omega
  .omega
def kI{x:Nd}(h:x.ok=true):(x.kind=1\/x.kind=2\/x.kind=3\/x.kind=4)/\0<=x.line/\x.line<=mx/\0<=x.h/\x.h<=mx/\
 (x.kind=1->(0<=x.st.top/\x.st.top<=mx)/\(0<=x.st.W3/\x.st.W3<=mx)/\(0<=x.st.WU/\x.st.WU<=mx)/\(0<=x.st.WI/\x.st.WI<=mx)/\(0<=x.st.head/\x.st.head<=mx)):=by
 unfold Nd.ok at h;split at h
 .rename_i hk;simp only[YA.ok,bj,Ba,Zs]at h|-;simp only[mx]at h|-;refine⟨.inl hk,by omega,by omega,by omega,by omega,λ_=>?_⟩;omega
 .split at h
  .cases h
  .split at h
   .rename_i h1 _ hk;simp only[bj,Ba,Zs]at h|-;simp only[mx]at h|-;exact⟨.inr (.inl hk),by omega,by omega,by omega,by omega,λe=>absurd e h1⟩
   .rename_i h1 _ _;simp only[bj,Ba,kX,Zs]at h|-;simp only[mx]at h|-;exact⟨by omega,by omega,by omega,by omega,by omega,λe=>absurd e h1⟩
def Sm.uE(s:Sm)(k:Int):Prop:=(0<=s.depth/\s.depth<=k)/\(0<=s.pieces/\s.pieces<=k*200000000000000)/\(0<=s.WH/\s.WH<=1099511627777)
def GC{l:List Nd}{i:Nat}{x:Nd}{s:Sm}(hx:x.ok=true)(hw:x.words.length<=200000000000000)(h:s.uE i):(qh l i x s).uE (i+1):=by
 obtain⟨h1,h2,h3⟩:=h;obtain⟨g1,g2,g3,g4,g5,g6⟩:=kI hx;unfold qh;split
 .rename_i hk;obtain⟨a1,a2,a3,a4,a5⟩:=g6 hk;have hd:=xH l i (i+1);refine⟨?_,?_,fS (fS (fS (fS (fS h3 a1.1) a2.1) a3.1) a4.1) a5.1⟩
  .simp only;omega
  .simp only;omega
 .split
  .refine⟨?_,?_,FC h3 g2 _⟩
   .simp only;omega
   .simp only;omega
  .refine⟨?_,?_,fS h3 g4⟩
   .simp only;omega
   .simp only;omega
open Go.Proofs Go.Proofs.Tryz
def Sm.zero:Sm:=⟨0,0,0,0⟩
open Go.Proofs Go.Proofs.Tryz
def vJ(p:Int->Bool):∀l,decide (cG p l>=0)=l.any p
 |[]=>by simp[cG]
 |x::l=>by
  have ih:=vJ p l;simp only[cG,List.any_cons];have hg:=jc p l;rw[<-ih,Bool.eq_iff_iff];simp only[Zs,kX];split
  .rename_i h;simp[h]
  .rename_i h;simp only[h,fG,false_or];by_cases hx:cG p l<0
   .rw[aq hx];constructor<;>intro hh<;>simp at hh|-<;>omega
   .rw[ao hx];constructor<;>intro hh<;>simp at hh|-<;>omega
def oO{U:ag}{sv:V}{l:List Int}{f:FuncId}{caps:List V}{p:Int->Bool}(hr:Reads U 1 false sv (l.map vI))(hl:l.length<=200000000000000)
 (hf:∀n∈l,ax prog f (vI n::caps) U λr Z'=>r=.bool (p n)/\Z'=U):
 ax prog 257 [sv,.fn f caps] U λr Z'=>r=.bool (l.any p)/\Z'=U:=by
 refine V9.r (by simp[Ot]) ?_;apply sR;simp only[go_sem,seval,Ot];refine ab.au rfl rfl rfl (nW hr hl hf) ?_;apply sR;simp only[go_sem,seval];refine ak.same ?_;rw[<-vJ]
def Q6{U:ag}{id:Nat}{a b:Int}(h:U id=some ⟨301,2,[.agg [vI a,vI b]]⟩)(n:Int):
 ax prog 258 [vI n,.ptr id 0 0] U λr Z'=>r=.bool (!bj n a b)/\Z'=U:=by
 refine Vw.r (by simp[Pm]) ?_;apply sR;simp only[go_sem,seval,Pm,h];refine And.intro (λh=>?_) (λh=>?_)
 .refine ak.same ?_;congr 1;simp only[bj];rw[<-decide_not,decide_eq_decide];omega
 .refine ak.same ?_;have:¬(n>=a/\n<=b):=by omega
  simp only[bj,this,decide_false,Bool.not_false]
def Reads.mono{U Z':ag}{sz:Nat}{agg:Bool}{sv:V}{rows:List V}(h:aa U Z')(hr:Reads U sz agg sv rows):Reads Z' sz agg sv rows:=by
 refine⟨hr.1,λi v hv=>?_⟩;obtain⟨p,h1,h2⟩:=hr.2 i v hv;refine⟨p,?_,?_⟩
 .cases sv<;>simp only[bp,reduceCtorEq]at h1|-
  .exact h1
  .rename_i id off len;cases ho:U id with
   |none=>rw[ho]at h1;cases h1
   |some ob=>rw[ho]at h1;rw[h id ob ho];exact h1
 .cases p<;>simp only[bF,reduceCtorEq]at h2|-
  .rename_i id i k;cases ho:U id with
   |none=>rw[ho]at h2;cases h2
   |some ob=>rw[ho]at h2;rw[h id ob ho];exact h2
  .exact h2
def Nl{U:ag}{sv:V}{l:List Int}{a b:Int}(hr:Reads U 1 false sv (l.map vI))(hl:l.length<=200000000000000):
 ax prog 211 [.agg [vI a,vI b],sv] U λr Z'=>r=.bool (l.all λn=>bj n a b)/\Z'=U:=by
 refine TI.r (by simp[Qj]) ?_;apply sR;simp only[go_sem,seval,bK,Qj];intro id P';refine ab.au rfl rfl rfl (oO (p:=λn=>!bj n a b) (hr.mono ((aa.refl U).C' P')) hl (λn _=>Q6 af n)) ?_;apply sR;simp only[go_sem,seval];refine ak.pure ((aa.refl U).C' P') ?_;rw[List.all_eq_not_any_not]
open Go.Proofs Go.Proofs.Tryz
def fU:List V->Option (List Int)
 |[]=>some []
 |.int .i64 n::l=>(fU l).map (n::·)
 |_=>none
def mB:∀{l:List V} {m:List Int},fU l=some m->l=m.map vI
 |[],m,h=>by simp[fU]at h;subst h;rfl
 |v::l,m,h=>by
  cases v<;>try (simp[fU]at h)
  rename_i k n;cases k<;>try (simp[fU]at h)
  obtain⟨m',h1,rfl⟩:=h;rw[mB h1];rfl
def wG(m:List Int):fU (m.map vI)=some m:=by
 induction m with
 |nil=>rfl
 |cons n m ih=>simp[fU,ih]
def fA(U:ag):V->Option (List Int)
 |.own id off len=>match U id with
   |some ob=>if ob.sz=1/\off+len<=ob.rows.length/\len<=200000000000000 then(if(fU ob.rows).isSome then fU ((ob.rows.drop off).take len)else none)else none
   |none=>none
 |.sl 1 rows=>if rows.length<=200000000000000 then fU rows else none
 |_=>none
def nT{U:ag}{sv:V}{l:List Int}(h:fA U sv=some l):Reads U 1 false sv (l.map vI)/\l.length<=200000000000000:=by
 unfold fA at h;split at h
 .rename_i id off len;split at h
  .rename_i ob Xz;split at h
   .rename_i hc;split at h
    .rename_i hi;have he:=mB h;obtain⟨m,hm⟩:=Option.isSome_iff_exists.1 hi;have hm:=mB hm;have hr:=Reads.own (U:=U) Xz hc.1 hc.2.1 (λr hr=>by rw[hm]at hr;simp only[gM]at hr;obtain⟨n,_,rfl⟩:=hr;rfl);rw[he]at hr;have hl:l.length=len:=by
      have:=congrArg List.length he;simp at this;omega
     exact⟨hr,by omega⟩
    .cases h
   .cases h
  .cases h
 .rename_i rows;split at h
  .rename_i hc;have he:=mB h;subst he;exact⟨Reads.ints,by simpa using hc⟩
  .cases h
 .cases h
def pB{U Z':ag}(hs:aa U Z'){sv:V}{l:List Int}(h:fA U sv=some l):fA Z' sv=some l:=by
 unfold fA at h|-;split at h
 .split at h
  .rename_i ob Xz;simp only[hs _ _ Xz];exact h
  .cases h
 .exact h
 .cases h
def xZ(U:ag){l:List Int}(h:l.length<=200000000000000):fA U (bb l)=some l:=by
 simp only[bb,fA,dd,aq h];exact wG l
def o10(f:FuncId)(args:List V)(U:ag):Option V:=if f=211 then(match args with
 |[.agg [.int .i64 a,.int .i64 b],sv]=>(fA U sv).map λl=>.bool (l.all λn=>bj n a b)
 |_=>none)else none
def O10:Yp prog where
 get:=o10
 up f args U Z' v hs h:=by
  unfold o10 at h|-;split at h
  .rename_i hf;rw[aq hf];split at h
   .simp only[Zq8]at h|-;obtain⟨l,h1,h2⟩:=h;exact⟨l,pB hs h1,h2⟩
   .cases h
  .cases h
 ok f args U v h:=by
  unfold o10 at h;split at h
  .rename_i hf;subst hf;split at h
   .simp only[Zq8]at h;obtain⟨l,h1,rfl⟩:=h;obtain⟨g1,g2⟩:=nT h1;exact Nl g1 g2
   .cases h
  .cases h
def wB(a b:Int)(sv:V)(U:ag):O10.get 211 [.agg [.int .i64 a,.int .i64 b],sv] U=(fA U sv).map λl=>.bool (l.all λn=>bj n a b):=rfl
def cJ(U:ag)(id off len:Nat):fA U (.own id off len)=match U id with
 |some ob=>if ob.sz=1/\off+len<=ob.rows.length/\len<=200000000000000 then(if(fU ob.rows).isSome then fU ((ob.rows.drop off).take len)else none)else none
 |none=>none:=rfl
def dW(n:Int)(l:List V):fU (.int .i64 n::l)=(fU l).map (n::·):=rfl
def dX:fU []=some []:=rfl
def JU(s:YA):aK prog 210 [.agg s.cells] (.bool s.ok):=λU=>by
 refine Ty.r (by simp[PQ]) ?_;refine ab.mix 6 ?_
 (refine ab.bt O10 300 ?_;simp only[go_sem,seval,PQ,YA.cells])
 refine ad λid1 Z1 s1 a1 f1=>?_;simp only[go_sem,seval];refine ad λid3 Z2 s2 a3 f3=>?_;have n13:=al a1 f3;have a1:=s2 _ _ a1;simp only[go_sem,seval];refine ad λid4 Z3 s3 a4 f4=>?_;have n14:=al a1 f4;have n34:=al a3 f4;have a1:=s3 _ _ a1;have a3:=s3 _ _ a3;have hs:aa U Z3:=(s1.trans s2).trans s3;have g3:U id3=none:=s1.none f3;have g4:U id4=none:=(s1.trans s2).none f4;simp only[go_sem,seval,a1,a3,a4,ae n34,ae n34.symm,ae n13,ae n14];have WT:=λo o'=>(hs.av (o:=o) g3).av (o:=o') g4;refine ad λid5 Z4 s4 a5 f5=>?_;have a1:=s4 id1 _ (by rw[ae n14,ae n13];exact a1);have a4:=s4 id4 _ af;have hs:=(WT _ _).trans s4;simp only[go_sem,seval,a1,a4,a5,wB,cJ,dW,dX,bj,<-Bool.decide_and];refine And.intro (λp0=>?_) (λp0=>ak.pure hs (by rw[V.bool.injEq];symm;rw[Bool.eq_false_iff];intro h;simp[YA.ok,bj,mx]at h;omega));refine ad λid6 Z5 s5 a6 f6=>?_;have a1:=s5 _ _ a1;have hs:=hs.trans s5;simp only[go_sem,seval,a1,a6,wB,cJ,dW,dX,bj,<-Bool.decide_and];refine And.intro (λp1=>?_) (λp1=>ak.pure hs (by rw[V.bool.injEq];symm;rw[Bool.eq_false_iff];intro h;simp[YA.ok,bj,mx]at h;omega));refine ad λid7 Z6 s6 a7 f7=>?_;have a1:=s6 _ _ a1;have hs:=hs.trans s6;simp only[go_sem,seval,a1,a7,wB,cJ,dW,dX,bj,<-Bool.decide_and];refine And.intro (λp2=>?_) (λp2=>ak.pure hs (by rw[V.bool.injEq];symm;rw[Bool.eq_false_iff];intro h;simp[YA.ok,bj,mx]at h;omega));refine ad λid8 Z7 s7 a8 f8=>?_;have a1:=s7 _ _ a1;have hs:=hs.trans s7;simp only[go_sem,seval,a1,a8,wB,cJ,dW,dX,bj];refine And.intro (λp3=>?_) (λp3=>ak.pure hs (by rw[V.bool.injEq];symm;rw[Bool.eq_false_iff];intro h;simp[YA.ok,bj,mx]at h;omega));refine ad λid9 Z8 s8 a9 f9=>?_;have a1:=s8 _ _ a1;have hs:=hs.trans s8;simp only[go_sem,seval,a9,wB,cJ,dW,dX,bj];refine ak.pure hs ?_;rw[V.bool.injEq,Bool.eq_iff_iff];simp[YA.ok,bj,mx];omega
open Go.Proofs Go.Proofs.Tryz
def iI(l:List Nd):Int:=if Xw l then(if(jC l).1.depth>16\/(jC l).1.pieces>2000\/(jC l).1.nodes>2000\/(jC l).1.WH>1099511627776 then 2 else 0)else 4
open Go.Proofs Go.Proofs.Tryz
def o12(f:FuncId)(args:List V)(U:ag):Option V:=if f=211 then(match args with
 |[.agg [.int .i64 a,.int .i64 b],sv]=>(fA U sv).map λl=>.bool (l.all λn=>bj n a b)
 |_=>none)else if f=210 then(match args with
 |[.agg [.int .i64 a,.int .i64 b,.int .i64 c,.int .i64 d,.int .i64 e,.int .i64 f,.int .i64 g,.int .i64 h,.int .i64 i,.int .i64 j,.int .i64 k,.int .i64 l]]=>some (.bool (YA.ok ⟨a,b,c,d,e,f,g,h,i,j,k,l⟩))
 |_=>none)else none
def O12:Yp prog where
 get:=o12
 up f args U Z' v hs h:=by
  unfold o12 at h|-;split at h
  .rename_i hf;rw[aq hf];split at h
   .simp only[Zq8]at h|-;obtain⟨l,h1,h2⟩:=h;exact⟨l,pB hs h1,h2⟩
   .cases h
  .rename_i hf;rw[ao hf];exact h
 ok f args U v h:=by
  unfold o12 at h;split at h
  .rename_i hf;subst hf;split at h
   .simp only[Zq8]at h;obtain⟨l,h1,rfl⟩:=h;obtain⟨g1,g2⟩:=nT h1;exact Nl g1 g2
   .cases h
  .split at h
   .rename_i hf;subst hf;split at h
    .simp only[aI]at h;subst h;exact JU ⟨_,_,_,_,_,_,_,_,_,_,_,_⟩ U
    .cases h
   .cases h
def tq(a b:Int)(sv:V)(U:ag):O12.get 211 [.agg [.int .i64 a,.int .i64 b],sv] U=(fA U sv).map λl=>.bool (l.all λn=>bj n a b):=rfl
def wW(a b c d e f g h i j k l:Int)(U:ag):O12.get 210 [.agg [.int .i64 a,.int .i64 b,.int .i64 c,.int .i64 d,.int .i64 e,.int .i64 f,.int .i64 g,.int .i64 h,.int .i64 i,.int .i64 j,.int .i64 k,.int .i64 l]] U=
 some (.bool (YA.ok ⟨a,b,c,d,e,f,g,h,i,j,k,l⟩)):=rfl
def kc(s:YA):(decide (s.top=0)&&(decide (s.W3=0)&&(decide (s.WU=0)&&(decide (s.WI=0)&&(decide (s.XO=0)&&(decide (s.Xj=0)&&(decide (s.Xt=0)&&(decide (s.head=0)&&
 (decide (s.before=0)&&(decide (s.after=0)&&(decide (s.inside=0)&&decide (s.clear=0))))))))))))=decide (s=YA.zero):=by
 rw[Bool.eq_iff_iff];cases s;simp[YA.zero]
def Lq(x:Nd)(hl:x.words.length<=200000000000000)(k4:x.kind=4):aK prog 154 [jE x] (.bool x.ok):=λU=>by
 refine R5.r (by simp[HK]) ?_;refine ab.mix 6 ?_
 (refine ab.bt O12 300 ?_;simp only[go_sem,seval,HK,jE,Nd.cells])
 refine ad λid1 Z1 s1 a1 f1=>?_;simp only[go_sem,seval];refine ad λid3 Z2 s2 a3 f3=>?_;have n13:=al a1 f3;have a1:=s2 _ _ a1;have hs:=(s1.trans s2).av (s1.none f3) (o:=⟨301,2,[.agg [vI 1,vI 1099511627776]]⟩);have hok3:x.ok=(decide (x.st=YA.zero)&&(decide (x.line=0)&&decide (x.space=0)&&decide (x.words.length=0)&&bj x.w 1 mx&&bj x.h 1 mx&&bj x.side 1 2)):=by
  by_cases WY:x.st=YA.zero<;>simp[Nd.ok,k4,WY]
 simp only[go_sem,seval,a1,a3,ae n13,kc,eR,k4,wW,BP,af];refine And.intro (λe1=>And.intro (λe2=>And.intro (λz=>And.intro (λw=>?_) (λw=>?_)) (λz=>?_)) (λe2=>?_)) (λe1=>?_)
 .refine ad λid4 Z3 s3 a4 f4=>?_;have a1:=s3 id1 _ (by rw[ae n13];exact a1);have a3:=s3 id3 _ af;have hs:=hs.trans s3;simp only[go_sem,seval,a1,a4,tq,cJ,dW,dX,bj,oe,List.all_nil,<-Bool.decide_and];refine And.intro (λq1=>?_) (λq1=>ak.pure hs ?_)
  .refine ad λid5 Z4 s4 a5 f5=>?_;have a1:=s4 _ _ a1;have hs:=hs.trans s4;simp only[go_sem,seval,a5,tq,cJ,dW,dX,bj,oe,List.all_nil];refine ak.pure hs ?_;rw[V.bool.injEq,hok3,Bool.eq_iff_iff];simp only[bj,mx];simp at w;simp[e1,e2,z,w];omega
  .rw[V.bool.injEq,hok3,Bool.eq_iff_iff];simp only[bj,mx];simp[e1,e2,z];omega
 all_goals (repeat' (first
  |with_reducible refine And.intro (λh=>?_) (λh=>?_)
  |with_reducible refine ak.pure hs ?_))
 all_goals (rw[V.bool.injEq,hok3,Bool.eq_iff_iff];simp_all)
def OL(x:Nd)(hl:x.words.length<=200000000000000):aK prog 154 [jE x] (.bool x.ok):=λU=>by
 by_cases k4:x.kind=4
 .exact Lq x hl k4 U
 refine R5.r (by simp[HK]) ?_;refine ab.mix 6 ?_
 (refine ab.bt O12 300 ?_;simp only[go_sem,seval,HK,jE,Nd.cells])
 refine ad λid1 Z1 s1 a1 f1=>?_;simp only[go_sem,seval];refine ad λid3 Z2 s2 a3 f3=>?_;have n13:=al a1 f3;have a1:=s2 _ _ a1;have hs:=(s1.trans s2).av (s1.none f3) (o:=⟨301,2,[.agg [vI 1,vI 1099511627776]]⟩);have hz:(x.kind=1->x.ok=(x.st.ok&&decide (x.line=0)&&decide (x.space=0)&&decide (x.words.length=0)&&decide (x.side=0)&&decide (x.w=0)&&decide (x.h=0))):=λh=>by simp[Nd.ok,h]
 have hwl:x.words.length<=200000000000000:=by omega
 by_cases k1:x.kind=1
 .simp only[go_sem,seval,a1,a3,ae n13,kc,eR,k1,wW,BP];rw[hz k1]
  repeat' (first
   |with_reducible refine And.intro (λh=>?_) (λh=>?_)
   |with_reducible refine ak.pure hs ?_)
  all_goals (rw[V.bool.injEq,Bool.eq_iff_iff];simp_all)
 .by_cases k2:x.kind=2
  .by_cases e1:x.line=0
   .have hok0:x.ok=false:=by
     by_cases WY:x.st=YA.zero<;>simp[Nd.ok,k2,WY,e1,bj]
    rw[hok0];simp only[go_sem,seval,a1,a3,ae n13,kc,eR,k2,e1,wW,BP,af]
    repeat' (first
     |with_reducible refine And.intro (λh=>?_) (λh=>?_)
     |with_reducible refine ak.pure hs rfl
     |(refine ad λid4 Z3 s3 a4 f4=>?_
       have a1:=s3 id1 _ (by rw[ae n13];exact a1);have a3:=s3 id3 _ af;simp only[go_sem,seval,a4,tq,cJ,dW,dX,bj,oe,List.all_nil,false_and];exact ak.pure (hs.trans s3) rfl))
   .simp only[go_sem,seval,a1,a3,ae n13,kc,k2,e1,BP,af];have hok2:x.ok=(decide (x.st=YA.zero)&&(x.words.all (bj · 1 mx)&&decide (0<x.words.length)&&bj x.line 1 mx&&bj x.space 0 mx&&decide (x.side=0)&&decide (x.w=0)&&decide (x.h=0))):=by
     by_cases WY:x.st=YA.zero<;>simp[Nd.ok,k2,WY]
    refine And.intro (λz=>?_) (λz=>ak.pure hs (by rw[hok2];simp_all));refine And.intro (λw1=>?_) (λw1=>ak.pure hs (by rw[hok2];simp[w1]));refine And.intro (λw2=>?_) (λw2=>ak.pure hs (by rw[hok2];simp[w2]));refine And.intro (λw3=>?_) (λw3=>ak.pure hs (by rw[hok2];simp[w3]));refine ad λid4 Z3 s3 a4 f4=>?_;have a1:=s3 id1 _ (by rw[ae n13];exact a1);have a3:=s3 id3 _ af;have hs:=hs.trans s3;simp only[go_sem,seval,a1,a3,a4,tq,cJ,dW,dX,xZ _ hwl,wH (List.all _ _)];refine And.intro (λq1=>?_) (λq1=>ak.pure hs (by rw[hok2];simp[mx]at q1|-;simp[q1]));refine And.intro (λq2=>?_) (λq2=>ak.pure hs (by rw[hok2];simp only[mx,q2];simp));refine ad λid5 Z4 s4 a5 f5=>?_;have a1:=s4 _ _ a1;have hs:=hs.trans s4;simp only[go_sem,seval,a1,a5,tq,cJ,dW,dX,eR,wH (List.all _ _)];refine And.intro (λq3=>?_) (λq3=>ak.pure hs (by rw[hok2];simp[mx]at q3|-;simp[q3]));refine ak.pure hs ?_;rw[hok2];simp only[mx,q1,q2,q3,z,w1,w2,w3];simp
  .have hok3:x.ok=(decide (x.st=YA.zero)&&(decide (x.line=0)&&decide (x.space=0)&&decide (x.words.length=0)&&bj x.w 1 mx&&bj x.h 1 mx&&
    (decide (x.kind=3)&&decide (x.side=0)||decide (x.kind=4)&&bj x.side 1 2))):=by
    by_cases WY:x.st=YA.zero<;>simp[Nd.ok,k1,k2,WY]
   by_cases k3:x.kind=3
   .simp only[go_sem,seval,a1,a3,ae n13,kc,eR,k3,wW,BP,af]
    repeat' (first
     |with_reducible refine And.intro (λh=>?_) (λh=>?_)
     |with_reducible refine ak.pure hs ?_
     |(refine ad λid4 Z3 s3 a4 f4=>?_
       have a1:=s3 id1 _ (by rw[ae n13];exact a1);have a3:=s3 id3 _ af;simp only[go_sem,seval,a4,tq,cJ,dW,dX,bj,oe,List.all_nil,<-Bool.decide_and];refine ak.pure (hs.trans s3) ?_))
    all_goals (rw[V.bool.injEq,hok3,Bool.eq_iff_iff];simp_all [bj,mx]<;>omega)
   .simp only[go_sem,seval,a1,a3,ae n13,kc,eR,k1,k2,k3,k4,wW,BP,af]
    repeat' (first
     |with_reducible refine And.intro (λh=>?_) (λh=>?_)
     |with_reducible refine ak.pure hs ?_)
    all_goals (rw[V.bool.injEq,hok3];simp[k3,k4])
open Go.Proofs Go.Proofs.Tryz
def uL(i:Nat):List Int->List Int
 |a::b::s=>if a=i then uL i (b::s)else a::b::s
 |s=>s
def isS:List Nd->Nat->List Int->Bool
 |[],_,_=>true
 |x::r,i,Zg=>match uL i Zg with
  |[]=>false
  |a::s=>if x.ok=true/\1<=x.size/\x.size<=a-i/\(x.kind=1\/x.size<=1)then isS r (i+1) ((i+x.size)::a::s)else false
def Asc(n:Nat):Nat->List Int->Prop
 |lo,[]=>lo=n
 |lo,a::s=>(lo:Int)<=a/\Asc n a.toNat s
def lM(l:List Nd):Nat->List Int->Bool
 |_,[]=>true
 |lo,a::s=>bW l lo a.toNat&&lM l a.toNat s
def F6(l:List Nd)(a:Nat):bW l a a=true:=by rw[bW,dif_neg (Nat.lt_irrefl a)]
def xP(l:List Nd)(n i:Nat)(hi:i<n):∀Zg,Asc n i Zg->∃a s,uL i Zg=a::s/\(i:Int)<a/\Asc n i (a::s)/\lM l i (a::s)=lM l i Zg
 |[],h=>by simp only[Asc]at h;omega
 |[a],h=>by
  have h':=h;simp only[Asc]at h';exact⟨a,[],rfl,by omega,h,rfl⟩
 |a::b::s,h=>by
  by_cases ha:a=i
  .have h':=h.2;rw[ha,fc]at h';obtain⟨c,t,g1,g2,g3,g4⟩:=xP l n i hi (b::s) h';refine⟨c,t,by simp[uL,ha,g1],g2,g3,?_⟩;rw[g4];show _=(bW l i a.toNat&&lM l a.toNat (b::s));rw[ha,fc,F6,Bool.true_and]
  .have h':=h.1;exact⟨a,b::s,by simp[uL,ha],by omega,h,rfl⟩
def EC(l:List Nd):∀(r:List Nd) (i:Nat) (Zg:List Int),l.drop i=r->Asc l.length i Zg->isS r i Zg=(r.all Nd.ok&&lM l i Zg)
 |[],i,Zg,hr,hs=>by
  have hi:l.length<=i:=by simpa using hr
  have key:∀(Zg:List Int) (lo:Nat),l.length<=lo->Asc l.length lo Zg->lM l lo Zg=true:=by
   intro Zg
   induction Zg with
   |nil=>intro _ _ _;rfl
   |cons a s ih=>
    intro lo hlo h;have h1:=h.1;simp only[lM];rw[ih a.toNat (by omega) h.2,bW,Bool.and_true];split
    .have:l[lo]?=none:=by simp[hlo]
     rw[this];have hend:∀(Zg:List Int) (lo:Nat),Asc l.length lo Zg->lo<=l.length:=by
      intro Zg
      induction Zg with
      |nil=>intro lo h;simp only[Asc]at h;omega
      |cons b t ih=>intro lo h;have:=h.1;have:=ih _ h.2;omega
     have:=hend _ _ h.2;omega
    .rfl
  simp[isS,key Zg i hi hs]
 |x::r,i,Zg,hr,hs=>by
  have hi:i<l.length:=by
   rcases Nat.lt_or_ge i l.length with h|h
   .exact h
   .rw[xF h]at hr;cases hr
  have hx:l[i]?=some x:=by
   have:(l.drop i)[0]?=some x:=by rw[hr];rfl
   simpa using this
  have hr':l.drop (i+1)=r:=by
   have:(l.drop i).drop 1=r:=by rw[hr];rfl
   simpa using this
  obtain⟨a,s,h1,h2,h3,h4⟩:=xP l l.length i hi Zg hs;rw[isS,h1];simp only;rw[<-h4];simp only[lM,oe];have Yd:bW l i a.toNat=if _hx:1<=x.size/\x.size<=(a.toNat:Int)-i then
   (decide (x.kind=1)||decide (x.size<=1))&&bW l (i+1) (i+x.size.toNat)&&bW l (i+x.size.toNat) a.toNat else false:=by
   rw[bW,dif_pos (by omega),hx]
  rw[Yd];have Yb:(a.toNat:Int)=a:=by omega
  rw[Yb];by_cases hc:1<=x.size/\x.size<=a-i
  .rw[dif_pos hc];have e:(i+x.size).toNat=i+x.size.toNat:=by omega
   have ih:=EC l r (i+1) ((i+x.size)::a::s) hr' ⟨by omega,by rw[e];omega,h3.2⟩;by_cases hk:x.ok=true/\(x.kind=1\/x.size<=1)
   .rw[aq ⟨hk.1,hc.1,hc.2,hk.2⟩,ih];simp only[lM,e,hk.1,Bool.true_and];have:(decide (x.kind=1)||decide (x.size<=1))=true:=by simpa using hk.2
    rw[this,Bool.true_and,Bool.and_assoc]
   .rw[ao (λh=>hk ⟨h.1,h.2.2.2⟩)];symm;rw[Bool.eq_false_iff];intro h;simp only[Ba,kX,Zs]at h;exact hk ⟨h.1.1,h.2.1.1.1⟩
  .rw[dif_neg hc,ao (λh=>hc ⟨h.2.1,h.2.2.1⟩)];simp
def KJ(l:List Nd):isS l 0 [(l.length:Int)]=Xw l:=by
 rw[EC l l 0 [(l.length:Int)] rfl ⟨by omega,by simp[Asc]⟩];simp[lM,Xw]
open Go.Proofs Go.Proofs.Tryz
def o14(f:FuncId)(args:List V):Option V:=if f=154 then(match args with
 |[.agg [.int .i64 a0,.int .i64 a1,.int .i64 a2,.int .i64 a3,.int .i64 a4,.int .i64 a5,.int .i64 a6,.int .i64 a7,.int .i64 a8,.int .i64 a9,.int .i64 Xy,.int .i64 Zk,.int .i64 a12,.int .i64 Yr,.int .i64 a14,.int .i64 a15,.sl 1 rows,.int .i64 a17,.int .i64 a18,.int .i64 a19]]=>
  (fU rows).bind λws=>if ws.length<=200000000000000 then some (.bool (Nd.ok ⟨a0,a1,⟨a2,a3,a4,a5,a6,a7,a8,a9,Xy,Zk,a12,Yr⟩,a14,a15,ws,a17,a18,a19⟩))else none
 |_=>none)else none
def O14:Yp prog where
 get f args _:=o14 f args
 ok f args U v h:=by
  unfold o14 at h;split at h
  .rename_i hf;subst hf;split at h
   .rw[SF]at h;obtain⟨ws,h1,h2⟩:=h;split at h2
    .rename_i hw;simp only[aI]at h2;subst h2;rw[mB h1];exact OL ⟨_,_,⟨_,_,_,_,_,_,_,_,_,_,_,_⟩,_,_,ws,_,_,_⟩ hw U
    .cases h2
   .cases h
  .cases h
def Q0{x:Nd}(hw:x.words.length<=200000000000000)(U:ag):O14.get 154 [.agg [.int .i64 x.kind,.int .i64 x.size,.int .i64 x.st.top,.int .i64 x.st.W3,.int .i64 x.st.WU,.int .i64 x.st.WI,.int .i64 x.st.XO,.int .i64 x.st.Xj,.int .i64 x.st.Xt,.int .i64 x.st.head,.int .i64 x.st.before,.int .i64 x.st.after,.int .i64 x.st.inside,.int .i64 x.st.clear,.int .i64 x.line,.int .i64 x.space,bb x.words,.int .i64 x.side,.int .i64 x.w,.int .i64 x.h]] U=
 some (.bool x.ok):=by
 show((fU (x.words.map vI)).bind λws=>if ws.length<=200000000000000 then some (V.bool (Nd.ok ⟨x.kind,x.size,⟨x.st.top,x.st.W3,x.st.WU,x.st.WI,x.st.XO,x.st.Xj,x.st.Xt,x.st.head,x.st.before,x.st.after,x.st.inside,x.st.clear⟩,x.line,x.space,ws,x.side,x.w,x.h⟩))else none)=_;rw[wG,Option.bind_some,aq hw]
def KC{rows:List V}{k:Nat}{a:Int}{s:List Int}(hk:k=(a::s).length)(ht:rows.take k=(a::s).reverse.map vI):rows[k-1]?=some (.int .i64 a)/\rows.take (k-1)=s.reverse.map vI:=by
 simp only[XX]at hk;have h1:(rows.take k)[k-1]?=rows[k-1]?:=by rw[List.getElem?_take,aq (by omega)]
 constructor
 .rw[<-h1,ht,hk];simp
 .have h2:rows.take (k-1)=(rows.take k).take (k-1):=by rw[List.take_take];congr 1;omega
  rw[h2,ht,hk];simp
def Asc.le{n:Nat}:∀{Zg:List Int} {lo:Nat},Asc n lo Zg->lo<=n
 |[],lo,h=>by simp only[Asc]at h;omega
 |a::s,lo,h=>by have h1:=h.1;have h2:=Asc.le h.2;omega
def FM(l:List Nd)(hl:cT l):aK prog 101 [aC l] (.bool (Xw l)):=λU=>by
 obtain⟨hl1,hl2⟩:=hl;refine UK.r (by simp[RC]) ?_;refine ab.mix 6 ?_;apply sR;simp only[go_sem,seval,bK,RC,fj];intro e0 he0;refine ab.loop (λm st=>∃i Zg e k rows,i<=l.length/\m=l.length-i/\Xw l=isS (l.drop i) i Zg/\Asc l.length i Zg/\Zg≠[]/\Zg.length<=i+1/\aa U st.U/\st.U e=some ⟨3,1,rows⟩/\U e=none/\k=Zg.length/\k<=rows.length/\rows.take k=Zg.reverse.map vI/\
  st.s 3=.own e 0 k/\st.s 9=aC l/\st.s 10=vI l.length/\st.s 11=vI i) l.length ?_ ?_
 .refine⟨0,[(l.length:Int)],e0,1,[vI l.length],by omega,by omega,by rw[<-KJ];rfl,⟨by omega,by simp[Asc]⟩,by simp,by simp,(aa.refl U).C' he0,af,he0,rfl,by simp,rfl,rfl,rfl,rfl,rfl⟩
 .rintro m ⟨s,Z'⟩ ⟨i,Zg,e,k,rows,hi,rfl,hB,hasc,W6,hsl,G',Yd,hnew,hk,hkr,XB,h3,h9,h10,h11⟩;simp only at G' Yd h3 h9 h10 h11;refine ab.mix 6 ?_;apply sR;simp only[go_sem,seval,h9,h10,h11];refine And.intro (λH'=>?_) (λhge=>?_)
  .have YI:i<l.length:=by simp at H';omega
   have hd:l.drop i=l[i]::l.drop (i+1):=gF YI;have hxw:l[i].words.length<=200000000000000:=hl2 _ (XI YI);rw[hd]at hB;generalize hxe:l[i]=x at*;simp only[go_sem,seval,bK,nZ YI,hxe,Nd.cells];intro id5 hid5;replace hid5:Z' id5=none:=hid5;have n5e:e≠id5:=by rintro rfl;rw[Yd]at hid5;cases hid5
   have n5n:U id5=none:=G'.none hid5;refine ab.loop (λm st=>∃stk' k',m=stk'.length/\uL i Zg=uL i stk'/\Asc l.length i stk'/\stk'≠[]/\stk'.length<=Zg.length/\st.U=C' Z' id5 ⟨59,20,[.agg x.cells]⟩/\k'=stk'.length/\k'<=rows.length/\rows.take k'=stk'.reverse.map vI/\
    st.s 3=.own e 0 k'/\st.s 4=vI i/\st.s 5=.ptr id5 0 0/\st.s 9=aC l/\st.s 10=vI l.length/\st.s 11=vI i) Zg.length ?_ ?_
   .exact⟨Zg,k,rfl,rfl,hasc,W6,Xm _,rfl,hk,hkr,XB,h3,rfl,rfl,h9,h10,h11⟩
   .rintro m ⟨s,Z''⟩ ⟨stk',k',rfl,hpop,hasc',hne',hsl',W4,Yc,hkr',htk',h3,h4,h5,h9,h10,h11⟩;simp only at W4 h3 h4 h5 h9 h10 h11;subst W4;obtain⟨a,tl,rfl⟩:=List.exists_cons_of_ne_nil hne';obtain⟨htop,htk2⟩:=KC Yc htk';have hkpos:1<=k':=by rw[Yc];simp
    have g0:(k':Int)-1<k':=by omega
    have g1:(0:Int)<=(k':Int)-1:=by omega
    have g2:(k':Int)-1<=k':=by omega
    have g3:((k':Int)-1).toNat=k'-1:=by omega
    have hrng:WR .i64 ((k':Int)-1):=ai;refine ab.mix 6 ?_
    (refine ab.bt O14 300 ?_;simp only[go_sem,seval,bK,h3,h4,h5,h9,h10,h11,ae n5e,Yd,g0,g1,g2,g3,Int.le_refl,Int.toNat_zero,Nat.sub_zero,htop,BP,Nd.cells,Q0 hxw,wH (Nd.ok x)])
    refine And.intro (λh1=>⟨hrng,And.intro (λh2=>?_) (λh2=>?_)⟩) (λh1=>?_)
    .obtain⟨b,tl',rfl⟩:∃b tl',tl=b::tl':=by
      cases tl with
      |nil=>simp at Yc;omega
      |cons b tl'=>exact⟨b,tl',rfl⟩
     have hp2:uL i (a::b::tl')=uL i (b::tl'):=by simp[uL,h2]
     have ha2:=hasc'.2;rw[h2,fc]at ha2;refine⟨hrng,_,?_,b::tl',k'-1,rfl,by rw[hpop,hp2],ha2,by simp,?_,?_,by omega,htk2,rfl⟩
     .simp
     .simp only[XX]at hsl'|-;omega
     .simp only[XX]at Yc|-;omega
    all_goals
     have ZP:uL i (a::tl)=a::tl:=by
      cases tl with
      |nil=>rfl
      |cons b tl'=>
       have:a≠i:=by first
        |simpa using h2
        |(exfalso;simp at Yc h1;omega)
       simp[uL,this]
     obtain⟨c,t,p1,p2,p3,p4⟩:=xP l l.length i YI (a::tl) hasc';rw[ZP,List.cons.injEq]at p1;obtain⟨rfl,rfl⟩:=p1;have hIs:Xw l=if x.ok=true/\1<=x.size/\x.size<=a-i/\(x.kind=1\/x.size<=1)then isS (l.drop (i+1)) (i+1) ((i+x.size)::a::tl)else false:=by
      rw[hB,isS,hpop,ZP]
     have hale:=Asc.le p3.2;have hlenk:(rows.take k').length=k':=by simp;omega
     have hstk:k'<=i+1:=by rw[Yc];omega
     have happ:x.ok=true/\1<=x.size/\x.size<=a-i/\(x.kind=1\/x.size<=1)->∀(X Y:Ob) (id id1:Nat),C' Z' id5 X id=none->C' (C' Z' id5 X) id Y id1=none->
      Xw l=isS (l.drop (i+1)) (i+1) ((i+x.size)::a::tl)/\Asc l.length (i+1) ((i+x.size)::a::tl)/\aa U (C' (del (C' (C' Z' id5 X) id Y) e) id1 ⟨3,1,rows.take k'++[.int .i64 (i+x.size)]⟩)/\U id1=none/\
      (rows.take k'++[V.int .i64 (i+x.size)]).take (k'+1)=((i+x.size)::a::tl).reverse.map vI:=by
      intro hc X Y id id1 P' hid1;rw[fT]at P';rw[fT,fT]at hid1;rw[aq hc]at hIs;refine⟨hIs,⟨by omega,?_,p3.2⟩,?_,G'.none hid1.2.2,?_⟩
      .have:(i+x.size).toNat=i+x.size.toNat:=by omega
       omega
      .exact aa.av (aa.Mm ((G'.av n5n).av (G'.none P'.2)) hnew) (G'.none hid1.2.2)
      .rw[lg (by simp;omega),htk'];simp
     refine And.intro (λq1=>And.intro (λq2=>⟨hrng,ai,And.intro (λq3=>And.intro (λq4=>And.intro (λq5=>?_) (λq5=>?_)) (λq4=>?_)) (λq3=>?_)⟩) (λq2=>?_)) (λq1=>?_)
     .refine ak.pure (G'.C' hid5) ?_;rw[hIs,ao];rintro⟨c1,c2,c3,c4⟩;omega
     .refine⟨ai,?_⟩;intro id P';have hid':=(fT.1 P').2;have nie:e≠id:=by rintro rfl;rw[Yd]at hid';cases hid'
      have hd1:∀U,U e=some ⟨3,1,rows⟩->bV U 3 1 (.own e 0 k')=some (rows.take k',some e):=by
       intro U W4;simp only[bV,W4];rw[aq ⟨trivial,trivial,trivial,hkr'⟩]
      have YR:∀U,U id=some ⟨3,1,[.int .i64 (i+x.size)]⟩->bI U 1 (.own id 0 1)=some [.int .i64 (i+x.size)]:=by
       intro U W4;simp only[bI,W4];rw[aq (by simp)];simp
      have hb:(k'+1)*9<=140737488355328:=by omega
      simp only[go_sem,seval,bK,hd1,YR,ae n5e,ae nie,Yd,hlenk,hb,bz,h9,h10,h11];intro id1 hid1;obtain⟨z1,z2,z3,z4,z5⟩:=happ ⟨by simpa using q1,by omega,by omega,by first|(left;simpa using q4)|(right;simp at q5;omega)⟩ _ _ id id1 P' hid1
      refine⟨ai,_,?_,i+1,_,id1,k'+1,_,by omega,rfl,z1,z2,by simp,?_,z3,af,z4,?_,?_,z5,rfl,?_⟩
      .omega
      .simp only[XX]at Yc hsl'|-;omega
      .simp only[XX]at Yc|-;omega
      .simp;omega
      .simp
     .refine⟨ai,?_⟩;intro id P';have hid':=(fT.1 P').2;have nie:e≠id:=by rintro rfl;rw[Yd]at hid';cases hid'
      have hd1:∀U,U e=some ⟨3,1,rows⟩->bV U 3 1 (.own e 0 k')=some (rows.take k',some e):=by
       intro U W4;simp only[bV,W4];rw[aq ⟨trivial,trivial,trivial,hkr'⟩]
      have YR:∀U,U id=some ⟨3,1,[.int .i64 (i+x.size)]⟩->bI U 1 (.own id 0 1)=some [.int .i64 (i+x.size)]:=by
       intro U W4;simp only[bI,W4];rw[aq (by simp)];simp
      have hb:(k'+1)*9<=140737488355328:=by omega
      simp only[go_sem,seval,bK,hd1,YR,ae n5e,ae nie,Yd,hlenk,hb,bz,h9,h10,h11];intro id1 hid1;obtain⟨z1,z2,z3,z4,z5⟩:=happ ⟨by simpa using q1,by omega,by omega,by first|(left;simpa using q4)|(right;simp at q5;omega)⟩ _ _ id id1 P' hid1
      refine⟨ai,_,?_,i+1,_,id1,k'+1,_,by omega,rfl,z1,z2,by simp,?_,z3,af,z4,?_,?_,z5,rfl,?_⟩
      .omega
      .simp only[XX]at Yc hsl'|-;omega
      .simp only[XX]at Yc|-;omega
      .simp;omega
      .simp
     .refine ak.pure (G'.C' hid5) ?_;rw[hIs,ao];rintro⟨c1,c2,c3,c4⟩;omega
     .refine ak.pure (G'.C' hid5) ?_;rw[hIs,ao];rintro⟨c1,c2,c3,c4⟩;omega
     .refine ak.pure (G'.C' hid5) ?_;rw[hIs,ao];rintro⟨c1,c2,c3,c4⟩;exact q1 (by simp[c1])
  .have hi':i=l.length:=by simp at hge;omega
   refine ak.pure G' ?_;rw[hB,hi',zN];rfl
open Go.Proofs Go.Proofs.Tryz
def mu(times n:Int):Int:=if n=0\/times<=1099511627776/n then n*times else 1099511627777
def oI(times h:Int):List Int->Int
 |[]=>h
 |n::l=>oI times (min (h+mu times n) 1099511627777) l
def eU(i:Nat)(x:Nd)(s:Sm)(ends:List Int):Sm×List Int:=
 let ends:=ends.filter λn=>!decide (n<=(i:Int))
 if x.kind=1 then
  let ends:=ends++[i+x.size]
  (⟨max s.depth ends.length,s.pieces,s.nodes+1,oI 1 s.WH [x.st.top,x.st.W3,x.st.WU,x.st.WI,x.st.head]⟩,ends)
 else if x.kind=2 then(⟨s.depth,s.pieces+x.words.length,s.nodes+1,oI x.words.length s.WH [x.line]⟩,ends)
 else(⟨s.depth,s.pieces+1,s.nodes+1,oI 1 s.WH [x.h]⟩,ends)
def iY(l:List Nd):Nat->Sm×List Int
 |0=>(⟨0,0,0,0⟩,[])
 |i+1=>match l[i]? with
  |some x=>eU i x (iY l i).1 (iY l i).2
  |none=>iY l i
def Dq{times n:Int}(h0:0<=n)(h1:n<=mx)(t0:0<=times)(a:Int)(ha:0<=a):min (a+mu times n) 1099511627777=min (a+n*times) 1099511627777:=by
 unfold mu;split
 .rfl
 .rename_i h;have hn:0<n:=by omega
  have hq:1099511627776/n<times:=by omega
  have h2:1099511627776<n*times:=by
   have:=Int.ediv_lt_iff_lt_mul (a:=1099511627776) (b:=times) hn;have h3:=this.1 hq;rw[Int.mul_comm];exact h3
  omega
def vm{a b:Int}(h1:0<=a/\a<=1099511627777)(h2:0<=b):∀n:Nat,Eo a b n=min (a+b*n) 1099511627777
 |0=>by simp[Eo];omega
 |n+1=>by
  rw[Eo,vm h1 h2 n,kN];have e:b*((n+1:Nat):Int)=b*n+b:=by rw[Int.natCast_add,Int.mul_add];simp
  rw[e];have:0<=b*(n:Int):=Int.mul_nonneg h2 (by omega);generalize b*(n:Int)=q at*;omega
def l6{h n:Int}(h1:0<=h)(n0:0<=n)(n1:n<=mx):min (h+mu 1 n) 1099511627777=kN h n:=by
 rw[Dq n0 n1 (by omega) h h1,Int.mul_one];rfl
def kT(l:List Nd)(i:Nat):Nat->List Int
 |0=>[]
 |k+1=>kT l i k++(match l[k]? with
  |some y=>if y.kind=1/\(i:Int)<k+y.size then[(k:Int)+y.size]else[]
  |none=>[])
def pE(l:List Nd)(i:Nat):∀k,((kT l i k).length:Int)=jt l i k
 |0=>rfl
 |k+1=>by
  simp only[kT,jt,iz,Int.natCast_add,pE l i k];cases l[k]? with
  |none=>simp
  |some y=>simp only[];split<;>simp
def pO(l:List Nd)(i:Nat):∀k,(kT l i k).filter (λn=>!decide (n<=((i+1:Nat):Int)))=kT l (i+1) k
 |0=>rfl
 |k+1=>by
  simp only[kT,List.filter_append,pO l i k];congr 1;split
  .rename_i y _;by_cases hk:y.kind=1
   .by_cases h1:((i+1:Nat):Int)<k+y.size
    .rw[aq ⟨hk,by omega⟩,aq ⟨hk,h1⟩];have:¬((k:Int)+y.size<=((i+1:Nat):Int)):=by omega
     simp only[List.filter_cons,this,decide_false,Bool.not_false,if_true,List.filter_nil]
    .rw[ao (show¬(y.kind=1/\((i+1:Nat):Int)<k+y.size)from λh=>h1 h.2)];split
     .have:(k:Int)+y.size<=((i+1:Nat):Int):=by omega
      simp only[List.filter_cons,this,decide_true,Bool.not_true,fG,if_false,List.filter_nil]
     .rfl
   .rw[ao (λh=>hk h.1),ao (λh=>hk h.1)];rfl
  .rfl
def nV(l:List Nd)(hl:cT l)(hb:Xw l=true):∀i,i<=l.length->(iY l i).1={ ij l ⟨0,0,l.length,0⟩ i with nodes:=i }/\(iY l i).2=(match i with
 |0=>[]
 |j+1=>kT l j (j+1))/\(ij l ⟨0,0,l.length,0⟩ i).uE i/\(ij l ⟨0,0,l.length,0⟩ i).nodes=l.length
 |0,_=>⟨rfl,rfl,by simp[ij,Sm.uE],rfl⟩
 |i+1,hi=>by
  obtain⟨h1,h2,h3,h4⟩:=nV l hl hb i (by omega);have WL:l.all Nd.ok=true/\bW l 0 l.length=true:=by simpa[Xw]using hb
  have hx:=(eT.1 WL.1) _ (XI (show i<l.length by omega));have hg:l[i]?=some l[i]:=by simp[show i<l.length by omega]
  obtain⟨z1,z2,z3⟩:=jf l (l.length+1) 0 l.length (by omega) (by omega) WL.2 i (by omega) (by omega) (by omega);have hw:=hl.2 _ (XI (show i<l.length by omega));have hfine:=GC (l:=l) hx hw h3;generalize hxe:l[i]=x at*;obtain⟨p1,p2,p3,p4,p5,p6⟩:=kI hx;have hS:iY l (i+1)=eU i x (iY l i).1 (iY l i).2:=by simp only[iY,hg]
  have hR:ij l ⟨0,0,l.length,0⟩ (i+1)=qh l i x (ij l ⟨0,0,l.length,0⟩ i):=by simp only[ij,hg]
  have hf:(iY l i).2.filter (λn=>!decide (n<=(i:Int)))=kT l i i:=by
   rw[h2];cases i with
   |zero=>rfl
   |succ j=>exact pO l j (j+1)
  rw[hS,hR,h1];generalize hsm:ij l ⟨0,0,l.length,0⟩ i=sm at*;obtain⟨f1,f2,f3⟩:=h3;have ZQ:kT l i (i+1)=kT l i i++(if x.kind=1 then[(i:Int)+x.size]else[]):=by
   simp only[kT,hg];by_cases hk:x.kind=1
   .rw[aq ⟨hk,by omega⟩,aq hk]
   .rw[ao (λh=>hk h.1),ao hk]
  refine⟨?_,?_,by rw[Int.natCast_add];exact hfine,?_⟩
  .by_cases hk:x.kind=1
   .obtain⟨q1,q2,q3,q4,q5⟩:=p6 hk;have r1:=fS f3 q1.1;have r2:=fS r1 q2.1;have r3:=fS r2 q3.1;have r4:=fS r3 q4.1;have hlen:=pE l i (i+1);rw[ZQ,aq hk]at hlen;simp only[eU,qh,aq hk,hf,oI,Sm.mk.injEq];refine⟨?_,trivial,by simp,?_⟩
    .rw[hlen]
    .rw[l6 f3.1 q1.1 q1.2,l6 r1.1 q2.1 q2.2,l6 r2.1 q3.1 q3.2,l6 r3.1 q4.1 q4.2,l6 r4.1 q5.1 q5.2]
   .by_cases ZO:x.kind=2
    .simp only[eU,qh,ao hk,aq ZO,oI,Sm.mk.injEq];refine⟨trivial,trivial,by simp,?_⟩;rw[Dq p2 p3 (by omega) _ f3.1,vm f3 p2]
    .simp only[eU,qh,ao hk,ao ZO,oI,Sm.mk.injEq];exact⟨trivial,trivial,by simp,l6 f3.1 p4 p5⟩
  .by_cases hk:x.kind=1
   .simp only[eU,aq hk,hf,ZQ]
   .by_cases ZO:x.kind=2
    .simp only[eU,ao hk,aq ZO,hf,ZQ,lO]
    .simp only[eU,ao hk,ao ZO,hf,ZQ,lO]
  .rw[<-h4];unfold qh;split
   .rfl
   .split<;>rfl
def Av(l:List Nd):Sm×Int:=if Xw l then((iY l l.length).1,0)else(⟨0,0,0,0⟩,4)
def He(l:List Nd)(hl:cT l):Av l=jC l:=by
 unfold Av jC;by_cases hb:Xw l=true
 .obtain⟨h1,_,_,h4⟩:=nV l hl hb l.length (Xm _);rw[aq hb,aq hb,h1];generalize ij l ⟨0,0,l.length,0⟩ l.length=sm at*;cases sm;simp_all
 .rw[ao hb,ao hb]
open Go.Proofs Go.Proofs.Tryz
def DX{U:ag}{c:Nat}{i:Int}(h:U c=some ⟨3,1,[vI i]⟩)(n:Int):ax prog 156 [vI n,.ptr c 0 0] U λr Z'=>r=.bool (decide (n<=i))/\Z'=U:=by
 refine Vs.r (by simp[PV]) ?_;apply sR;simp only[go_sem,seval,PV,h];exact ak.same rfl
abbrev kept(i:Int)(l:List Int):List Int:=l.filter λn=>!decide (n<=i)
def tw{p:Int->Bool}:∀{l:List Int},cG p l<0->l.filter (λn=>!p n)=l
 |[],_=>rfl
 |x::l,h=>by
  simp only[cG]at h;split at h
  .omega
  .rename_i hp;have hp':p x=false:=by simpa using hp
   split at h
   .rename_i h2;simp only[List.filter_cons,hp',Bool.not_false,if_true,tw h2]
   .have:=jc p l;omega
def uh{p:Int->Bool}:∀{l:List Int},¬cG p l<0->(cG p l).toNat<l.length/\(l.take (cG p l).toNat).filter (λn=>!p n)=l.take (cG p l).toNat/\
 ∀x,l[(cG p l).toNat]?=some x->p x=true
 |[],h=>by simp[cG]at h
 |x::l,h=>by
  simp only[cG]at h|-;split
  .rename_i hp;refine⟨by simp,by simp,?_⟩;intro y hy;simp at hy;subst hy;exact hp
  .rename_i hp;rw[ao hp]at h;have hp':p x=false:=by simpa using hp
   split
   .rename_i h2;rw[aq h2]at h;omega
   .rename_i h2;obtain⟨g1,g2,g3⟩:=uh h2;have:=jc p l;have e:(cG p l+1).toNat=(cG p l).toNat+1:=by omega
    rw[e];refine⟨by simp;omega,?_,?_⟩
    .simp only[px,List.filter_cons,hp',Bool.not_false,if_true,g2]
    .simpa using g3
def HD{U:ag}{e c k:Nat}{i:Int}{full:List Int}(he:U e=some ⟨3,1,full.map vI⟩)(hc:U c=some ⟨3,1,[vI i]⟩)(W6:c≠e)(hk:k<=full.length)(hfl:full.length<=1000000000000):
 ax prog 155 [.own e 0 k,.fn 156 [.ptr c 0 0]] U λr Z'=>∃(k':Nat) (full':List Int),r=.own e 0 k'/\Z'=C' U e ⟨3,1,full'.map vI⟩/\k'<=full'.length/\full'.length<=full.length/\full'.take k'=kept i (full.take k):=by
 have hlk:(full.take k).length=k:=by simp;omega
 have hr:Reads U 1 false (.own e 0 k) ((full.take k).map vI):=by
  have:=Reads.own (U:=U) (off:=0) (len:=k) he rfl (by simpa using hk) (λr hr=>by simp only[gM]at hr;obtain⟨n,_,rfl⟩:=hr;rfl);simpa using this
 refine SY.r (by simp[H0]) ?_;refine ab.mix 8 ?_;apply sR;simp only[go_sem,seval,H0];refine ab.au rfl rfl rfl (nW (p:=λn=>decide (n<=i)) hr (by omega) (λn _=>DX hc n)) ?_;generalize hw:cG (λn=>decide (n<=i)) (full.take k)=w;have hwg:-1<=w:=by rw[<-hw];exact jc _ _
 apply sR;simp only[go_sem,seval];have Zj:C' U e ⟨3,1,full.map vI⟩=U:=by
  funext j;simp only[C'];split
  .rename_i e';rw[e',he]
  .rfl
 refine And.intro (λhm=>?_) (λhm=>?_)
 .refine⟨_,U,aa.refl U,Wk.refl (aa.refl U) _,k,full,rfl,Zj.symm,hk,Xm _,?_⟩;exact(tw (by rw[hw];omega)).symm
 .have hw0:¬cG (λn=>decide (n<=i)) (full.take k)<0:=by rw[hw];omega
  obtain⟨g1,g2,g3⟩:=uh hw0;rw[hw]at g1 g2 g3;rw[hlk]at g1;refine⟨ai,?_⟩;refine ab.loop (λm st=>∃(u j:Nat) (cur:List Int),u<j/\j<=k/\m=k-j/\cur.length=full.length/\cur.take u=kept i (full.take j)/\(∀q,j<=q->cur[q]?=full[q]?)/\st.U=C' U e ⟨3,1,cur.map vI⟩/\
   st.s 0=.own e 0 k/\st.s 1=.fn 156 [.ptr c 0 0]/\st.s 5=vI u/\st.s 6=vI j) (k-(w.toNat+1)) ?_ ?_
  .have hw1:w=((w.toNat:Nat):Int):=by omega
   refine⟨w.toNat,w.toNat+1,full,by omega,by omega,rfl,rfl,?_,λ_ _=>rfl,Zj.symm,rfl,rfl,?_,?_⟩
   .have hx:(full.take k)[w.toNat]?=some (full[w.toNat]'(by omega)):=by rw[List.getElem?_take,aq g1,ZF]
    have hp:=g3 _ hx;have e1:(full.take k).take w.toNat=full.take w.toNat:=by rw[List.take_take];congr 1;omega
    rw[e1]at g2;rw[ZS (by omega)];have g2':kept i (full.take w.toNat)=full.take w.toNat:=g2;simp only[kept,List.filter_append]at g2'|-;rw[g2'];simp[hp]
   .show vI w=_;rw[<-hw1]
   .show vI (w+1)=_;rw[Int.natCast_add,<-hw1];rfl
  .rintro m ⟨s,Z'⟩ ⟨u,j,cur,huj,hjk,rfl,XH,hct,hcr,W4,h0,h1,h5,h6⟩;simp only at W4 h0 h1 h5 h6;subst W4;refine ab.mix 8 ?_;apply sR;simp only[go_sem,seval,h0,h5,h6];refine And.intro (λH'=>?_) (λhge=>?_)
   .have YI:j<k:=by omega
    have hjc:j<cur.length:=by omega
    have ZU:cur[j]?=some cur[j]:=by simp[hjc]
    have hge:(cur.map vI)[j]?=some (vI cur[j]):=by simp[hjc]
    have b1:(0:Int)<=j:=by omega
    have b2:(j:Int)<k:=by omega
    have b3:(0:Int)<=u:=by omega
    have b4:(u:Int)<k:=by omega
    simp only[go_sem,seval,h1,b1,b2,hge,fc];refine ab.au rfl rfl rfl (DX (i:=i) (by rw[ae W6];exact hc) cur[j]) ?_;have hgu:(cur.map vI)[u]?=some (vI (cur[u]'(by omega))):=by simp[show u<cur.length by omega]
    apply sR;simp only[go_sem,seval,h0,h1,h5,h6,b3,b4,hgu,fc];have hfj:full[j]?=some cur[j]:=by rw[<-hcr j (Xm _)];exact ZU
    have htj:full.take (j+1)=full.take j++[cur[j]]:=by
     have hjf:j<full.length:=by omega
     rw[ZS hjf];congr 2;rw[ZF hjf]at hfj;simpa using hfj
    refine And.intro (λhd=>?_) (λhd=>?_)
    .refine⟨ai,ai,_,?_,u+1,j+1,cur.set u cur[j],by omega,by omega,rfl,by simpa using XH,?_,?_,?_,?_,?_⟩
     .omega
     .rw[htj];have hul:u<cur.length:=by omega
      have:(cur.set u cur[j]).take (u+1)=cur.take u++[cur[j]]:=by
       rw[ZS (by simpa using hul),List.take_set,List.set_eq_of_length_le (by simp;omega)];simp
      rw[this,hct];simp only[kept,List.filter_append];congr 1;have hd':¬cur[j]<=i:=by simpa using hd
      simp[hd']
     .intro q hq;rw[List.getElem?_set_ne (by omega)];exact hcr q (by omega)
     .simp
     .simp
     .simp
    .refine⟨ai,_,?_,u,j+1,cur,by omega,by omega,rfl,XH,?_,λq hq=>hcr q (by omega),rfl,?_⟩
     .omega
     .rw[htj,hct];simp only[kept,List.filter_append];have hd':cur[j]<=i:=by simpa using hd
      simp[hd']
     .simp
   .have hjk':j=k:=by omega
    subst hjk';have b3:(0:Int)<=u:=by omega
    have b4:(u:Int)<=j:=by omega
    simp only[go_sem,seval,b3,b4,Int.le_refl,fc];refine ab.clear (id:=e) (off:=u) (len:=j-u) (ob:=⟨3,1,cur.map vI⟩) rfl rfl rfl af rfl (by simp;omega) ?_;apply sR;simp only[go_sem,seval,h0,h5,b3,b4,Int.le_refl,fc,iV,Nat.sub_zero];refine⟨_,_,aa.refl _,Wk.refl (aa.refl _) _,u,cur.take u++List.replicate (j-u) 0++cur.drop (u+(j-u)),by simp,?_,?_,?_,?_⟩
    .simp[List.map_take,List.map_drop]
    .simp;omega
    .simp;omega
    .rw[my,MW (by simp;omega),List.take_take,Nat.min_self,hct]
open Go.Proofs Go.Proofs.Tryz
def Reads.ay(U:ag):Reads U 1 false .ay []:=⟨rfl,λi v h=>by simp at h⟩
def DG{U:ag}{c:Nat}{i:Int}(hc:U c=some ⟨3,1,[vI i]⟩):ax prog 155 [.ay,.fn 156 [.ptr c 0 0]] U λr Z'=>r=.ay/\Z'=U:=by
 refine SY.r (by simp[H0]) ?_;refine ab.mix 8 ?_;apply sR;simp only[go_sem,seval,H0];refine ab.au rfl rfl rfl (nW (l:=[]) (p:=λn=>decide (n<=i)) (Reads.ay U) (by simp) (λn _=>DX hc n)) ?_;apply sR;simp only[go_sem,seval,cG];exact ak.same rfl
def HZ{times n:Int}(h0:0<=n)(t0:0<=times):0<=mu times n/\mu times n<=1099511627777:=by
 unfold mu;split
 .rename_i h;refine⟨Int.mul_nonneg h0 t0,?_⟩;rcases h with h|h
  .subst h;simp
  .by_cases hn:n=0
   .subst hn;simp
   .have:=Int.mul_le_of_le_ediv (by omega:0<n) h;rw[Int.mul_comm];omega
 .omega
def cO(s:Sm)(ends:V):Ob:=⟨198,5,[.agg [vI s.depth,vI s.pieces,vI s.nodes,vI s.WH,ends]]⟩
def sX{U:ag}{c:Nat}{s:Sm}{ends sv:V}{times:Int}{l:List Int}(hc:U c=some (cO s ends))(hr:∀ob,Reads (C' U c ob) 1 false sv (l.map vI))(hl:l.length<=200000000000000)
 (hn:∀n∈l,0<=n/\n<=mx)(ht:0<=times/\times<=200000000000000)(hh:0<=s.WH/\s.WH<=1099511627777)(ZQ:ends.cells=[ends]):
 ax prog 157 [.ptr c 0 0,vI times,sv] U λr Z'=>r=.WJ []/\Z'=C' U c (cO { s with WH:=oI times s.WH l } ends):=by
 have hlen:cP false sv=some (vI (l.length:Int)):=by simpa using(hr ⟨0,0,[]⟩).1
 have Zj:C' U c (cO s ends)=U:=by
  funext j;simp only[C'];split
  .rename_i e';rw[e',hc]
  .rfl
 refine Vj.r (by simp[Qy]) ?_;refine ab.mix 9 ?_;apply sR;simp only[go_sem,seval,Qy,hlen];refine ab.loop (λm st=>∃(i:Nat) (h:Int),i<=l.length/\m=l.length-i/\oI times s.WH l=oI times h (l.drop i)/\(0<=h/\h<=1099511627777)/\st.U=C' U c (cO { s with WH:=h } ends)/\
  st.s 0=.ptr c 0 0/\st.s 1=vI times/\st.s 9=sv/\st.s 10=vI l.length/\st.s 11=vI i) l.length ?_ ?_
 .exact⟨0,s.WH,by omega,by omega,rfl,hh,Zj.symm,rfl,rfl,rfl,rfl,rfl⟩
 .rintro m ⟨s',Z'⟩ ⟨i,h,hi,rfl,hp,hhh,W4,h0,h1,h9,h10,h11⟩;simp only at h0 h1 h9 h10 h11 W4;subst W4;refine ab.mix 9 ?_;apply sR;simp only[go_sem,seval,h9,h10,h11];refine And.intro (λH'=>?_) (λhge=>?_)
  .have YI:i<l.length:=by omega
   have hd:l.drop i=l[i]::l.drop (i+1):=gF YI;obtain⟨pp,e1,e2⟩:=(hr (cO { s with WH:=h } ends)).2 i (vI l[i]) (by simp[YI]);have hni:=hn _ (XI YI);rw[hd,oI]at hp;generalize W6:l[i]=n at*;have j3:=HZ (n:=n) hni.1 ht.1;simp only[cO]at e1 e2;simp only[mx]at hni;have hq:(1099511627776:Int).tdiv n=1099511627776/n:=Int.tdiv_eq_ediv_of_nonneg (by omega);by_cases hz:n=0
   .have W9:mu times n=n*times:=by unfold mu;rw[aq (.inl hz)]
    rw[W9]at hp j3;simp only[go_sem,seval,e1,e2,cO,hz,h0,h1,h9,h10,h11];rw[hz]at hp j3;simp only[Int.zero_mul,Int.add_zero]at hp|-;refine⟨ai,ai,ai,_,?_,i+1,h,by omega,rfl,?_,hhh,?_,by simp⟩
    .omega
    .rw[hp,Int.min_eq_left hhh.2]
    .rw[ao (by omega)]
   .simp only[go_sem,seval,e1,e2,cO,hz,h0,h1,h9,h10,h11,hq];have hdiv:0<=1099511627776/n/\1099511627776/n<=1099511627776:=⟨Int.ediv_nonneg (by omega) hni.1,Int.ediv_le_self _ (by omega)⟩
    refine⟨ai,λhle=>?_,λhgt=>?_⟩
    .have W9:mu times n=n*times:=by unfold mu;rw[aq (.inr hle)]
     rw[W9]at hp j3;refine⟨ai,ai,ai,_,?_,i+1,min (h+n*times) 1099511627777,by omega,rfl,hp,by omega,?_,by simp⟩
     .omega
     .rw[show(if 1099511627777<h+n*times then 1099511627777 else h+n*times)=min (h+n*times) 1099511627777 by split<;>omega]
    .have W9:mu times n=1099511627777:=by unfold mu;rw[ao (by omega)]
     rw[W9]at hp j3;refine⟨ai,ai,_,?_,i+1,min (h+1099511627777) 1099511627777,by omega,rfl,hp,by omega,?_,by simp⟩
     .omega
     .rw[show(if 1099511627777<h+1099511627777 then 1099511627777 else h+1099511627777)=min (h+1099511627777) 1099511627777 by split<;>omega]
  .have:i=l.length:=by omega
   refine⟨_,_,aa.refl _,Wk.refl (aa.refl _) _,rfl,?_⟩;rw[hp,this,zN];rfl
open Go.Proofs Go.Proofs.Tryz
def JE{P:Program}{n:Nat}{Q:St->Prop}{k:List It}{O:Yp P}{f:Nat}{d:Option Nat}{l:List aD}{v:Nat->V}{ob:Ob}{s:Nat->V}{U:ag}{e:Nat}
 (h:∀id Z',aa (del U e) Z'->Z' id=some ob->U id=none->step P O n f (.d l k) ⟨aQ s d (v id),Z'⟩ Q):
 HU P O n f l k d ⟨s,U⟩ Q (some λid=>(v id,Vc.C' (del U e) id ob)):=by
 rw[fC];refine λid P'=>h id _ ((aa.refl _).C' ?_) af P';by_cases e':id=e
 .simp[del,e']
 .rw[dg e'];exact P'
def nz(K U:ag)(v:V)(ends:List Int)(B:Nat):Prop:=
 (v=.ay/\ends=[])\/∃(e k:Nat) (full:List Int),v=.own e 0 k/\U e=some ⟨3,1,full.map vI⟩/\K e=none/\k<=full.length/\full.length<=B/\full.take k=ends
def SL{K U:ag}{v:V}{ends:List Int}{B c:Nat}{i:Int}(hB:B<=1000000000000)(h:nz K U v ends B)(hK:aa K U)(hc:K c=some ⟨3,1,[vI i]⟩):
 ax prog 155 [v,.fn 156 [.ptr c 0 0]] U λr Z'=>aa K Z'/\nz K Z' r (kept i ends) B:=by
 rcases h with⟨rfl,rfl⟩|⟨e,k,full,rfl,h1,h2,h3,h4,rfl⟩
 .refine(DG (hK _ _ hc)).mono ?_;rintro r Z' ⟨rfl,rfl⟩;exact⟨hK,.inl ⟨rfl,rfl⟩⟩
 .have W6:c≠e:=by rintro rfl;rw[h2]at hc;cases hc
  refine(HD h1 (hK _ _ hc) W6 h3 (by omega)).mono ?_;rintro r Z' ⟨k',full',rfl,rfl,g1,g2,g3⟩;exact⟨hK.av h2,.inr ⟨e,k',full',rfl,af,h2,g1,by omega,g3⟩⟩
def aa.LI{K U:ag}{i:Nat}{o:Ob}(h:aa K U)(hi:U i=some o):aa (Vc.C' K i o) U:=λj x hx=>by
 by_cases e:j=i
 .subst e;rw[af]at hx;rw[hi];exact hx
 .rw[ae e]at hx;exact h j x hx
def nz.new{K U Z':ag}{v:V}{ends:List Int}{B id:Nat}{o:Ob}(h:nz K U v ends B)(hs:aa U Z')(P':U id=none):nz (C' K id o) Z' v ends B:=by
 rcases h with h|⟨e,k,full,h0,h1,h2,h3⟩
 .exact .inl h
 .exact .inr ⟨e,k,full,h0,hs _ _ h1,by rw[ae (al h1 P')];exact h2,h3⟩
def nz.less{K K' U:ag}{v:V}{ends:List Int}{B:Nat}(h:nz K' U v ends B)(hs:aa K K'):nz K U v ends B:=by
 rcases h with h|⟨e,k,full,h0,h1,h2,h3⟩
 .exact .inl h
 .exact .inr ⟨e,k,full,h0,h1,hs.none h2,h3⟩
def Ri{K U:ag}{v:V}{ends:List Int}{B c i:Nat}{x:Nd}{s:Sm}(hK:aa K U)(hKc:K c=none)(hc:U c=some (cO s v))(hE:∀o,nz (C' K c o) U v ends B)(hB:B<=1000000000)
 (hi:i<=10000)(hs:s.uE i)(hsn:s.nodes=i)(hx:x.ok=true)(hw:x.words.length<=200000000000000)(Zb:1<=x.size/\x.size<=1000000000):
 ax prog 102 [.ptr c 0 0,vI i,jE x] U λr Z'=>r=.WJ []/\aa K Z'/\∃v',Z' c=some (cO (eU i x s ends).1 v')/\∀o,nz (C' K c o) Z' v' (eU i x s ends).2 (B+1):=by
 refine UO.r (by simp[QV]) ?_;refine ab.mix 7 ?_;apply sR;simp only[go_sem,seval,QV,jE,Nd.cells];refine ad λid4 Z1 s1 a4 f4=>?_;have hc1:=s1 _ _ hc;have n4c:=al hc f4;simp only[go_sem,seval];refine ad λid5 Z2 s2 a5 f5=>?_;have hc2:=s2 _ _ hc1;have n5c:=al hc1 f5;have n54:=al a4 f5;have a4:=s2 _ _ a4;have hK2:=(hK.trans s1).trans s2;have k4:K id4=none:=hK.none f4;have k5:K id5=none:=(hK.trans s1).none f5;simp only[go_sem,seval,hc2,cO];have hK':aa (C' (C' (C' K c (cO s v)) id4 ⟨3,1,[vI i]⟩) id5 ⟨59,20,[jE x]⟩) Z2:=((hK2.LI hc2).LI a4).LI a5;have hE':nz (C' (C' (C' K c (cO s v)) id4 ⟨3,1,[vI i]⟩) id5 ⟨59,20,[jE x]⟩) Z2 v ends B:=((hE _).new s1 f4).new s2 f5;refine ab.call rfl rfl rfl (SL (by omega) hE' hK' (by rw[ae n54,af])) ?_;rintro r Z3 ⟨hK3,hE3⟩;have ZC:=hK3 c _ (by rw[ae n5c,ae n4c,af]);have a4:=hK3 id4 _ (by rw[ae n54,af]);have a5:=hK3 id5 _ af;simp only[jE,Nd.cells]at a5;simp only[cO]at ZC;have hKK:=(((aa.refl K).av hKc (o:=cO s v)).av k4 (o:=⟨3,1,[vI i]⟩)).av k5 (o:=⟨59,20,[jE x]⟩);have h3:=hKK.trans hK3;have hsr:WR .i64 (s.nodes+1):=ai;obtain⟨p1,p2,p3,p4,p5,p6⟩:=kI hx;obtain⟨f1,f2,f3⟩:=hs;rcases hE3 with⟨rfl,hk0⟩|⟨e,k,full,rfl,he,hKe,hk,hfl,hk0⟩
 .by_cases Zv:x.kind=1
  .apply sR;simp only[go_sem,seval,a4,a5,ZC,ae n4c.symm,ae n5c.symm,Zv];refine⟨hsr,ai,?_⟩;refine aS λid8 Z4 s4 a8 f8=>?_;have hc4:=s4 c _ af;have a4:=s4 id4 _ (by rw[ae n4c.symm];exact a4);have a5:=s4 id5 _ (by rw[ae n5c.symm];exact a5);have hs8:∀U,U id8=some ⟨3,1,[.int .i64 (i+x.size)]⟩->bI U 1 (.own id8 0 1)=some [.int .i64 (i+x.size)]:=by
    intro U W4;simp only[bI,W4];rw[aq (by simp)];simp
   have hd:∀U,bV U 3 1 .ay=some ([],none):=λ_=>rfl;simp only[go_sem,seval,hs8,a8,hd,bz,Nat.reduceLeDiff];refine aS λid9 Z5 s5 a9 f9=>?_;have hc5:=s5 c _ hc4;have a4:=s5 id4 _ a4;have a5:=s5 id5 _ a5;have n9c:id9≠c:=by rintro rfl;rw[hc4]at f9;cases f9
   have n95:id9≠id5:=by rintro rfl;rw[s4 id9 _ (by rw[ae n5c.symm];exact hK3 id9 _ af)]at f9;cases f9
   simp only[go_sem,seval,hc5,a5,ae n5c.symm];refine ad λid6 Z6 s6 a6 f6=>?_;have hc6:=s6 c _ af;have a9:=s6 id9 _ (by rw[ae n9c];exact a9);have n6c:id6≠c:=by rintro rfl;rw[hc6]at a6;simp at a6
   have n69:id6≠id9:=by rintro rfl;rw[a9]at a6;simp at a6
   simp only[go_sem,seval,a6];refine ad λid84 Z7 s7 a84 f84=>?_;have hc7:=s7 c _ (by rw[ae n6c.symm];exact hc6);have a9:=s7 id9 _ (by rw[ae n69.symm];exact a9);have n84c:id84≠c:=by rintro rfl;rw[hc7]at a84;simp at a84
   simp only[go_sem,seval];have h4:=(h3.av hKc).trans s4;have h5:=h4.trans s5;have k9:K id9=none:=h4.none f9;have h6':=λo=>h5.av hKc (o:=o);have k6:K id6=none:=(h6' _).none f6;have h7:=(((h6' _).trans s6).av k6).trans s7;obtain⟨q1,q2,q3,q4,q5⟩:=p6 Zv;have hl5:∀n∈[x.st.top,x.st.W3,x.st.WU,x.st.WI,x.st.head],0<=n/\n<=mx:=by
    intro n hn;simp only[db,List.not_mem_nil,or_false]at hn;rcases hn with rfl|rfl|rfl|rfl|rfl<;>assumption
   refine ab.call rfl rfl rfl (sX (s:=⟨if(1:Int)>s.depth then 1 else s.depth,s.pieces,s.nodes+1,s.WH⟩) (l:=[x.st.top,x.st.W3,x.st.WU,x.st.WI,x.st.head]) (times:=1) hc7
    (λob=>Reads.own (off:=0) (len:=5) ((ae n84c).trans a84) rfl (by simp) (λr hr=>by simp at hr;rcases hr with rfl|rfl|rfl|rfl|rfl<;>rfl)) (by simp) hl5 (by omega) f3 rfl) ?_
   rintro r Z8 ⟨rfl,rfl⟩;apply sR;simp only[go_sem,seval];refine⟨_,_,aa.refl _,Wk.refl (aa.refl _) _,rfl,h7.av hKc,.own id9 0 1,?_,λo=>.inr ⟨id9,1,[i+x.size],rfl,(ae n9c).trans a9,fT.2 ⟨n9c,k9⟩,by simp,by simp,?_⟩⟩
   .have e:(if(1:Int)>s.depth then 1 else s.depth)=max s.depth 1:=by split<;>omega
    rw[af,e];simp[eU,Zv,hk0,cO]
   .simp[eU,Zv,hk0]
  .by_cases ZO:x.kind=2
   .apply sR;simp only[go_sem,seval,a5,ZC,ae n5c.symm,ZO,eR];refine⟨hsr,ai,?_⟩;refine ad λid7 Z7 s7 a7 f7=>?_;have hc7:=s7 c _ af;have n7c:id7≠c:=by rintro rfl;rw[hc7]at a7;simp at a7
    simp only[go_sem,seval];have h7:=(h3.av hKc).trans s7;refine ab.call rfl rfl rfl (sX (s:=⟨s.depth,s.pieces+x.words.length,s.nodes+1,s.WH⟩) (l:=[x.line]) (times:=x.words.length) hc7
     (λob=>Reads.own (off:=0) (len:=1) ((ae n7c).trans a7) rfl (by simp) (λr hr=>by simp at hr;rcases hr with rfl;rfl)) (by simp) (by intro n hn;simp at hn;subst hn;exact⟨p2,p3⟩) (by omega) f3 rfl) ?_
    rintro r Z8 ⟨rfl,rfl⟩;apply sR;simp only[go_sem,seval];refine⟨_,_,aa.refl _,Wk.refl (aa.refl _) _,rfl,h7.av hKc,_,af.trans (by simp[eU,ZO,cO];rfl),λo=>?_⟩;have:(eU i x s ends).2=kept i ends:=by simp[eU,ZO]
    rw[this];exact .inl ⟨rfl,hk0⟩
   .have h4or:=p1;apply sR;simp only[go_sem,seval,a5,ZC,ae n5c.symm,Zv,ZO];refine⟨hsr,ai,?_⟩;refine ad λid7 Z7 s7 a7 f7=>?_;have hc7:=s7 c _ af;have n7c:id7≠c:=by rintro rfl;rw[hc7]at a7;simp at a7
    simp only[go_sem,seval];have h7:=(h3.av hKc).trans s7;refine ab.call rfl rfl rfl (sX (s:=⟨s.depth,s.pieces+1,s.nodes+1,s.WH⟩) (l:=[x.h]) (times:=1) hc7
     (λob=>Reads.own (off:=0) (len:=1) ((ae n7c).trans a7) rfl (by simp) (λr hr=>by simp at hr;rcases hr with rfl;rfl)) (by simp) (by intro n hn;simp at hn;subst hn;exact⟨p4,p5⟩) (by omega) f3 rfl) ?_
    rintro r Z8 ⟨rfl,rfl⟩;apply sR;simp only[go_sem,seval];refine⟨_,_,aa.refl _,Wk.refl (aa.refl _) _,rfl,h7.av hKc,_,af.trans (by simp[eU,Zv,ZO,cO];rfl),λo=>?_⟩;have:(eU i x s ends).2=kept i ends:=by simp[eU,Zv,ZO]
    rw[this];exact .inl ⟨rfl,hk0⟩
 .have hec:e≠c:=λe'=>by rw[e',ae n5c,ae n4c,af]at hKe;cases hKe
  have he4:e≠id4:=λe'=>by rw[e',ae n54,af]at hKe;cases hKe
  have he5:e≠id5:=λe'=>by rw[e',af]at hKe;cases hKe
  have hKe0:K e=none:=hKK.none hKe;have hlk:(full.take k).length=k:=by simp;omega
  by_cases Zv:x.kind=1
  .apply sR;simp only[go_sem,seval,a4,a5,ZC,ae n4c.symm,ae n5c.symm,Zv];refine⟨hsr,ai,?_⟩;refine aS λid8 Z4 s4 a8 f8=>?_;have hc4:=s4 c _ af;have a4:=s4 id4 _ (by rw[ae n4c.symm];exact a4);have a5:=s4 id5 _ (by rw[ae n5c.symm];exact a5);have hs8:∀U,U id8=some ⟨3,1,[.int .i64 (i+x.size)]⟩->bI U 1 (.own id8 0 1)=some [.int .i64 (i+x.size)]:=by
    intro U W4;simp only[bI,W4];rw[aq (by simp)];simp
   have he4':=s4 e _ (by rw[ae hec];exact he);have hd:∀U,U e=some ⟨3,1,full.map vI⟩->bV U 3 1 (.own e 0 k)=some ((full.take k).map vI,some e):=by
    intro U W4;simp only[bV,W4];rw[aq ⟨trivial,trivial,trivial,by simpa using hk⟩,List.map_take]
   have hlm:((full.take k).map vI).length=k:=by simpa using hlk
   have XM:(k+1)*9<=140737488355328:=by omega
   simp only[go_sem,seval,hs8,a8,hd,he4',bz,hlm,XM];refine JE λid9 Z5 s5 a9 f9=>?_;have hc5:=s5 c _ (by rw[dg hec.symm];exact hc4);have a4:=s5 id4 _ (by rw[dg he4.symm];exact a4);have a5:=s5 id5 _ (by rw[dg he5.symm];exact a5);have n9c:id9≠c:=by rintro rfl;rw[hc4]at f9;cases f9
   have n95:id9≠id5:=by rintro rfl;rw[s4 id9 _ (by rw[ae n5c.symm];exact hK3 id9 _ af)]at f9;cases f9
   simp only[go_sem,seval,hc5,a5,ae n5c.symm];refine ad λid6 Z6 s6 a6 f6=>?_;have hc6:=s6 c _ af;have a9:=s6 id9 _ (by rw[ae n9c];exact a9);have n6c:id6≠c:=by rintro rfl;rw[hc6]at a6;simp at a6
   have n69:id6≠id9:=by rintro rfl;rw[a9]at a6;simp at a6
   simp only[go_sem,seval,a6];refine ad λid84 Z7 s7 a84 f84=>?_;have hc7:=s7 c _ (by rw[ae n6c.symm];exact hc6);have a9:=s7 id9 _ (by rw[ae n69.symm];exact a9);have n84c:id84≠c:=by rintro rfl;rw[hc7]at a84;simp at a84
   simp only[go_sem,seval];have h4:=(h3.av hKc).trans s4;have h4':=h4.Mm hKe0;have h5:=h4'.trans s5;have k9:K id9=none:=h4.none f9;have h6':=λo=>h5.av hKc (o:=o);have k6:K id6=none:=(h6' _).none f6;have h7:=(((h6' _).trans s6).av k6).trans s7;obtain⟨q1,q2,q3,q4,q5⟩:=p6 Zv;have hl5:∀n∈[x.st.top,x.st.W3,x.st.WU,x.st.WI,x.st.head],0<=n/\n<=mx:=by
    intro n hn;simp only[db,List.not_mem_nil,or_false]at hn;rcases hn with rfl|rfl|rfl|rfl|rfl<;>assumption
   refine ab.call rfl rfl rfl (sX (s:=⟨if((k+1:Nat):Int)>s.depth then((k+1:Nat):Int)else s.depth,s.pieces,s.nodes+1,s.WH⟩) (l:=[x.st.top,x.st.W3,x.st.WU,x.st.WI,x.st.head]) (times:=1) hc7
    (λob=>Reads.own (off:=0) (len:=5) ((ae n84c).trans a84) rfl (by simp) (λr hr=>by simp at hr;rcases hr with rfl|rfl|rfl|rfl|rfl<;>rfl)) (by simp) hl5 (by omega) f3 rfl) ?_
   rintro r Z8 ⟨rfl,rfl⟩;apply sR;simp only[go_sem,seval];refine⟨_,_,aa.refl _,Wk.refl (aa.refl _) _,rfl,h7.av hKc,.own id9 0 (k+1),?_,λo=>.inr ⟨id9,k+1,full.take k++[i+x.size],rfl,((ae n9c).trans a9).trans (by simp),fT.2 ⟨n9c,k9⟩,by simp;omega,by simp;omega,?_⟩⟩
   .have e:(if((k+1:Nat):Int)>s.depth then((k+1:Nat):Int)else s.depth)=max s.depth ((k+1:Nat):Int):=by split<;>omega
    rw[af,e];have hk0':kept i ends=full.take k:=hk0.symm;simp[eU,Zv,hk0',hlk,cO]
   .have hk0':kept i ends=full.take k:=hk0.symm;rw[lg (by simp;omega)];simp[eU,Zv,hk0']
  .by_cases ZO:x.kind=2
   .apply sR;simp only[go_sem,seval,a5,ZC,ae n5c.symm,ZO,eR];refine⟨hsr,ai,?_⟩;refine ad λid7 Z7 s7 a7 f7=>?_;have hc7:=s7 c _ af;have n7c:id7≠c:=by rintro rfl;rw[hc7]at a7;simp at a7
    simp only[go_sem,seval];have h7:=(h3.av hKc).trans s7;refine ab.call rfl rfl rfl (sX (s:=⟨s.depth,s.pieces+x.words.length,s.nodes+1,s.WH⟩) (l:=[x.line]) (times:=x.words.length) hc7
     (λob=>Reads.own (off:=0) (len:=1) ((ae n7c).trans a7) rfl (by simp) (λr hr=>by simp at hr;rcases hr with rfl;rfl)) (by simp) (by intro n hn;simp at hn;subst hn;exact⟨p2,p3⟩) (by omega) f3 rfl) ?_
    rintro r Z8 ⟨rfl,rfl⟩;apply sR;simp only[go_sem,seval];refine⟨_,_,aa.refl _,Wk.refl (aa.refl _) _,rfl,h7.av hKc,_,af.trans (by simp[eU,ZO,cO];rfl),λo=>?_⟩;have:(eU i x s ends).2=kept i ends:=by simp[eU,ZO]
    rw[this];exact .inr ⟨e,k,full,rfl,(ae hec).trans (s7 e _ (by rw[ae hec];exact he)),fT.2 ⟨hec,hKe0⟩,hk,by omega,hk0⟩
   .have h4or:=p1;apply sR;simp only[go_sem,seval,a5,ZC,ae n5c.symm,Zv,ZO];refine⟨hsr,ai,?_⟩;refine ad λid7 Z7 s7 a7 f7=>?_;have hc7:=s7 c _ af;have n7c:id7≠c:=by rintro rfl;rw[hc7]at a7;simp at a7
    simp only[go_sem,seval];have h7:=(h3.av hKc).trans s7;refine ab.call rfl rfl rfl (sX (s:=⟨s.depth,s.pieces+1,s.nodes+1,s.WH⟩) (l:=[x.h]) (times:=1) hc7
     (λob=>Reads.own (off:=0) (len:=1) ((ae n7c).trans a7) rfl (by simp) (λr hr=>by simp at hr;rcases hr with rfl;rfl)) (by simp) (by intro n hn;simp at hn;subst hn;exact⟨p4,p5⟩) (by omega) f3 rfl) ?_
    rintro r Z8 ⟨rfl,rfl⟩;apply sR;simp only[go_sem,seval];refine⟨_,_,aa.refl _,Wk.refl (aa.refl _) _,rfl,h7.av hKc,_,af.trans (by simp[eU,Zv,ZO,cO];rfl),λo=>?_⟩;have:(eU i x s ends).2=kept i ends:=by simp[eU,Zv,ZO]
    rw[this];exact .inr ⟨e,k,full,rfl,(ae hec).trans (s7 e _ (by rw[ae hec];exact he)),fT.2 ⟨hec,hKe0⟩,hk,by omega,hk0⟩
open Go.Proofs Go.Proofs.Tryz
def CK(l:List Nd)(hl:cT l):aK prog 46 [aC l] (.WJ [.agg (jC l).1.cells,vI (jC l).2]):=λU=>by
 have hl0:=hl;obtain⟨hl1,hl2⟩:=hl;rw[<-He l hl0];refine e46.r (by simp[c46]) ?_;refine ab.mix 7 ?_;apply sR;simp only[go_sem,seval,c46];refine ad λidR Z1 s1 aR fR=>?_;simp only[go_sem,seval];refine ab.au rfl rfl rfl (FM l hl0 _) ?_;apply sR;simp only[go_sem,seval,BP,aR];refine And.intro (λhf=>?_) (λhf=>?_)
 .simp only[Bool.not_eq_eq_eq_not,Bool.not_true]at hf;refine ak.pure (s1.av fR) ?_;simp[Av,hf,Sm.cells]
 .simp only[Bool.not_eq_eq_eq_not,Bool.not_false]at hf;refine ad λid4 Z2 s2 a4 f4=>?_;have nR4:=al aR f4;have aR:=s2 _ _ aR;have g4:U id4=none:=s1.none f4;have hKR:aa (C' U idR ⟨125,4,[.agg Sm.zero.cells]⟩) Z2:=(s1.trans s2).LI aR;have k4:C' U idR ⟨125,4,[.agg Sm.zero.cells]⟩ id4=none:=fT.2 ⟨nR4.symm,g4⟩;simp only[go_sem,seval,fj];refine ab.loop (λm st=>∃(i:Nat) (v:V),i<=l.length/\m=l.length-i/\aa (C' U idR ⟨125,4,[.agg Sm.zero.cells]⟩) st.U/\st.U id4=some (cO (iY l i).1 v)/\
   (∀o,nz (C' (C' U idR ⟨125,4,[.agg Sm.zero.cells]⟩) id4 o) st.U v (iY l i).2 i)/\st.s 2=.ptr idR 0 0/\st.s 4=.ptr id4 0 0/\st.s 11=aC l/\st.s 12=vI l.length/\st.s 13=vI i) l.length ?_ ?_
  .exact⟨0,.ay,by omega,by omega,hKR,a4,λo=>.inl ⟨rfl,rfl⟩,rfl,rfl,rfl,rfl,rfl⟩
  .rintro m ⟨s,Z'⟩ ⟨i,v,hi,rfl,G',h4s,hE,h2,h4,h11,h12,h13⟩;simp only at G' h4s hE h2 h4 h11 h12 h13;obtain⟨e1,e2,e3,e4⟩:=nV l hl0 hf i hi;have WL:l.all Nd.ok=true/\bW l 0 l.length=true:=by simpa[Xw]using hf
   have hRs:Z' idR=some ⟨125,4,[.agg Sm.zero.cells]⟩:=G' idR _ af;refine ab.mix 7 ?_;apply sR;simp only[go_sem,seval,h2,h4,h11,h12,h13,h4s,cO,hRs,Sm.zero,Sm.cells];refine And.intro (λH'=>?_) (λhge=>?_)
   .have YI:i<l.length:=by omega
    have hx:=(eT.1 WL.1) _ (XI YI);have hxw:=hl2 _ (XI YI);obtain⟨z1,z2,z3⟩:=jf l (l.length+1) 0 l.length (by omega) (by omega) WL.2 i (by omega) YI YI;have hstep:iY l (i+1)=eU i l[i] (iY l i).1 (iY l i).2:=by simp[iY,YI]
    generalize hxe:l[i]=x at*;simp only[go_sem,seval,nZ YI,hxe,Nd.cells];refine ad λid6 Z6 s6 a6 f6=>?_;have n64:id6≠id4:=by rintro rfl;rw[h4s]at f6;cases f6
    have g6:C' U idR ⟨125,4,[.agg Sm.zero.cells]⟩ id6=none:=G'.none f6;simp only[go_sem,seval,a6];have hsub6:=G'.trans s6;have Yz:=(Ri (K:=C' U idR ⟨125,4,[.agg Sm.zero.cells]⟩) (U:=C' Z6 id6 ⟨59,20,[jE x]⟩) (i:=i) (x:=x) (s:=(iY l i).1) (B:=i) (hsub6.av g6) k4 ((ae n64.symm).trans (s6 _ _ h4s))
     (λo=>((hE o).new (s6.av f6) f6 (o:=⟨0,0,[]⟩)).less ((aa.refl _).av (fT.2 ⟨n64,g6⟩))) (by omega) (by omega) (by rw[e1];exact e3) (by rw[e1]) hx hxw (by omega))
    simp only[jE,Nd.cells]at Yz;refine ab.call rfl rfl rfl (by simp only[go_sem,seval,h4];exact Yz) ?_
    .rintro r Z7 ⟨rfl,hK7,v',h4',hE'⟩;apply sR;simp only[go_sem,seval,h2,h4,h11,h12,h13];refine⟨ai,_,?_,i+1,v',by omega,rfl,hK7,?_,?_,?_⟩
     .omega
     .rw[hstep,h4'];rfl
     .intro o;rw[hstep];exact hE' o
     .simp
   .have ZI:i=l.length:=by omega
    subst ZI;refine ak.pure ((((aa.refl U).av fR).trans G').av fR) ?_;simp[Av,hf]
open Go.Proofs Go.Proofs.Tryz
def Sb:((2:Nat):Int)=2:=rfl
def Sf:((3:Nat):Int)=3:=rfl
def A8:((4:Nat):Int)=4:=rfl
def Cw(l:List Nd)(hl:cT l):aK prog 45 [aC l] (vI (iI l)):=λU=>by
 refine e45.r (by simp[c45]) ?_;refine ab.mix 8 ?_;apply sR;simp only[go_sem,seval,c45];refine ab.au rfl rfl rfl (CK l hl _) ?_;apply sR;simp only[go_sem,seval,Sm.cells];refine ad λid3 Z1 s1 a3 f3=>?_;have G':=λo=>s1.av f3 (o:=o);simp only[go_sem,seval,a3];have hc:(jC l).2=if Xw l then 0 else 4:=by unfold jC;split<;>rfl
 refine And.intro (λh=>?_) (λh=>?_)
 .refine ak.pure (G' _) ?_;have:Xw l=false:=by
   rw[hc]at h;cases hb:Xw l<;>simp_all
  simp[iI,this,hc]
 .have hb:Xw l=true:=by
   rw[hc]at h;cases hb:Xw l<;>simp_all
  have hR:iI l=if(jC l).1.depth>16\/(jC l).1.pieces>2000\/(jC l).1.nodes>2000\/(jC l).1.WH>1099511627776 then 2 else 0:=by
   simp only[iI,hb,if_true]
  generalize (jC l).1=sm at*;refine ad λid5 Z2 s2 a5 f5=>?_;have ZM:=(G' _).trans s2;have g5:U id5=none:=(G' _).none f5;simp only[go_sem,seval,a5];refine ab.loop (λm st=>∃(i:Nat),i<=4/\m=4-i/\st.U=C' Z2 id5 ⟨195,4,[.agg sm.cells]⟩/\(0<i->sm.depth<=16)/\(1<i->sm.pieces<=2000)/\(2<i->sm.nodes<=2000)/\(3<i->sm.WH<=1099511627776)/\
   st.s 5=.ptr id5 0 0/\st.s 25=.agg [vI 16,vI 2000,vI 2000,vI 1099511627776]/\st.s 26=vI i) 4 ?_ ?_
  .exact⟨0,by omega,by omega,rfl,by omega,by omega,by omega,by omega,rfl,rfl,rfl⟩
  .rintro m ⟨s,Z'⟩ ⟨i,hi,rfl,W4,p1,p2,p3,p4,h5,h25,h26⟩;simp only at W4 h5 h25 h26;subst W4;have hi':i=0\/i=1\/i=2\/i=3\/i=4:=by omega
   rcases hi' with rfl|rfl|rfl|rfl|rfl
   .refine ab.mix 8 ?_;apply sR;simp only[go_sem,seval,h5,h25,h26,Sm.cells,Int.ofNat_zero,A8,Int.toNat_zero,Nat.zero_mul];refine And.intro (λg=>?_) (λg=>?_)
    .refine ak.pure (ZM.av g5) ?_;rw[hR,aq];omega
    .refine⟨ai,_,?_,1,by omega,rfl,?_,?_,?_,?_,rfl⟩<;>omega
   .refine ab.mix 8 ?_;apply sR;simp only[go_sem,seval,h5,h25,h26,Sm.cells,Int.natCast_one,Int.toNat_one,A8,Nat.reduceMul];refine And.intro (λg=>?_) (λg=>?_)
    .refine ak.pure (ZM.av g5) ?_;rw[hR,aq];omega
    .refine⟨ai,_,?_,2,by omega,rfl,?_,?_,?_,?_,rfl⟩<;>omega
   .refine ab.mix 8 ?_;apply sR;simp only[go_sem,seval,h5,h25,h26,Sm.cells,Sb,A8,Int.reduceToNat,Nat.reduceMul];refine And.intro (λg=>?_) (λg=>?_)
    .refine ak.pure (ZM.av g5) ?_;rw[hR,aq];omega
    .refine⟨ai,_,?_,3,by omega,rfl,?_,?_,?_,?_,rfl⟩<;>omega
   .refine ab.mix 8 ?_;apply sR;simp only[go_sem,seval,h5,h25,h26,Sm.cells,Sf,A8,Int.reduceToNat,Nat.reduceMul];refine And.intro (λg=>?_) (λg=>?_)
    .refine ak.pure (ZM.av g5) ?_;rw[hR,aq];omega
    .refine⟨ai,_,?_,4,by omega,rfl,?_,?_,?_,?_,rfl⟩<;>omega
   .refine ab.mix 8 ?_;apply sR;simp only[go_sem,seval,h26,Sm.cells,A8];refine ak.pure (ZM.av g5) ?_;rw[hR,ao];omega
open Go.Proofs Go.Proofs.Tryz
def yi(U:ag)(l:List Int):bF U false 1 (.rp (bb l))=some (bb l):=rfl
open Go.Proofs Go.Proofs.Tryz
def Xl(l:List Nd)(i:Nat):Int:=((l[i]?).map Nd.size).getD 0
def xX(l:List Nd)(a:Int):Bool:=decide (0<=a)&&decide (a<l.length)
def iF(l:List Nd)(a b:Int):Bool:=xX l a&&(xX l b&&(decide (b>=a)&&decide (b-a<Xl l a.toNat)))
def gV(l:List Nd)(a:Nat):Nat->List Int
 |0=>[]
 |k+1=>if iF l k a then(k:Int)::gV l a k else gV l a k
def uO(l:List Nd)(a:Nat):Nat->Int
 |0=>-1
 |k+1=>if iF l k a then(k:Int)else uO l a k
def eM(l:List Nd)(a:Nat):Int:=uO l a a
def By{l:List Nd}{a:Int}:xX l a=true↔0<=a/\a<l.length:=by simp[xX]
def mR{l:List Nd}{i:Nat}(h:i<l.length):Xl l i=l[i].size:=by simp[Xl,h]
def J3{l:List Nd}(h:Xw l=true){i:Nat}(hi:i<l.length):1<=l[i].size/\l[i].size<=(l.length:Int)-i/\(l[i].kind=1\/l[i].size<=1):=by
 simp only[Xw,Ba]at h;exact jf l (l.length+1) 0 l.length (by omega) (Xm _) h.2 i (by omega) hi hi
def xR(l:List Nd)(a:Nat):∀k,-1<=uO l a k/\uO l a k<k
 |0=>by simp[uO]
 |k+1=>by
  rw[uO];split
  .omega
  .have:=xR l a k;omega
open Go.Proofs Go.Proofs.Tryz
def AS(U:ag)(l:List Int):bI U 1 (bb l)=some (l.map vI):=by simp[bb,bI]
def si{l:List Nd}(hb:Xw l=true){i:Nat}(h:i<l.length):1<=Xl l i/\Xl l i<=l.length:=by
 rw[mR h];have:=J3 hb h;omega
end Go.Vc
