/- Part 6 of the library of this proof. -/
import Derived.Test.YtdaelobhgmdoeaaGreatW5
import Derived.Test.YtdaelobhgmdoeaaGreatProg
import Derived.KernelRfl
set_option linter.all false
set_option maxHeartbeats 8000000
set_option maxRecDepth 100000
namespace Go.Vc
variable {P:Program} {n:Nat} {st:St} {Q:St->Prop} {k:List It}
def wJ{Yi:List (List Nat)}{A':List Nat}{i:Nat}(h:i∈dz Yi A'):i<Yi.length/\i∉A'/\∀k∈Yi.getD i [],k∈A':=by
 unfold dz at h;obtain⟨h1,h2⟩:=rR.1 h;simp only[Ba,Bool.not_eq_true',dX]at h2;exact⟨by simpa using h1,by simpa using h2.1,λk hk=>by simpa using h2.2 k hk⟩
def wc:∀(n:Nat) (L:List Nat),L.Nodup->(∀k∈L,k<n)->L.length<=n/\(L.length=n->∀k,k<n->k∈L)
 |0,L,_,h=>by
  cases L with
  |nil=>simp
  |cons a L=>have:=h a (by simp);omega
 |n+1,L,hd,h=>by
  by_cases hn:n∈L
  .have h1:=wc n (L.erase n) (hd.erase n) λk hk=>by
    have h2:=h k (List.mem_of_mem_erase hk);have h3:k≠n:=λe=>by subst e;exact(List.Nodup.not_mem_erase hd) hk
    omega
   have h4:=List.length_erase_of_mem hn;have h5:0<L.length:=List.length_pos_of_mem hn;refine⟨by omega,λhe k hk=>?_⟩;by_cases hkn:k=n
   .rw[hkn];exact hn
   .exact List.mem_of_mem_erase (h1.2 (by omega) k (by omega))
  .have h1:=wc n L hd λk hk=>by
    have h2:=h k hk;have h3:k≠n:=λe=>hn (e▸hk);omega
   exact⟨by omega,λhe=>by omega⟩
open Go.RowKit
variable {P:Program} {n:Nat} {st:St} {Q:St->Prop} {k:List It} {I:Mu} {w:World}
def My{o:Op}{tbl:List (TypeId×FuncId)}{xs:List VX}(h:Yh P n o=.more (.inv tbl) xs):∃r name args argTypes,o=.call { callee:=.invoke r name,args:=args,argTypes:=argTypes }/\
 tbl=AF P name/\xs=cx n r::args.toList.map (cx n):=by
 cases o
 case call c=>
  obtain⟨callee,args,argTypes⟩:=c;cases callee
  case value=>simp[Yh]at h
  case invoke r name=>
   simp only[Yh,Yq.more.injEq,MOp.inv.injEq]at h;exact⟨r,name,args,argTypes,rfl,h.1.symm,h.2.symm⟩
  case builtin b=>cases b<;>(simp only[Yh,jk]at h;(repeat' split at h)<;>cases h)
 case unOp op t x=>cases op<;>simp only[Yh,jk]at h<;>cases h
 case makeFunc f a b=>cases f<;>simp only[Yh,jk]at h<;>(repeat' split at h)<;>cases h
 all_goals (simp only[Yh,jk]at h;(repeat' split at h)<;>cases h)
def DW{name:String}{t:TypeId}{f:FuncId}(h:(AF P name).lookup t=some f):vY P name t=some f/\t<P.types.size:=by
 unfold AF at h;have key:∀l:List Nat,(l.filterMap λt=>(vY P name t).map λf=>(t,f)).lookup t=some f->vY P name t=some f/\t∈l:=by
  intro l
  induction l with
  |nil=>intro h;simp at h
  |cons a l ih=>
   intro h;rw[List.filterMap_cons]at h;cases ha:vY P name a with
   |none=>
    rw[ha]at h;simp only[Option.map_none]at h;obtain⟨h1,h2⟩:=ih h;exact⟨h1,List.mem_cons_of_mem _ h2⟩
   |some g=>
    rw[ha]at h;simp only[Option.map_some,List.lookup_cons]at h;by_cases e:t=a
    .subst e;simp at h;subst h;exact⟨ha,by simp⟩
    .have:(t==a)=false:=by simpa using e
     rw[this]at h;obtain⟨h1,h2⟩:=ih h;exact⟨h1,List.mem_cons_of_mem _ h2⟩
 obtain⟨h1,h2⟩:=key _ h;exact⟨h1,by simpa using h2⟩
def E7{name:String}{t:TypeId}{f:FuncId}(h:vY P name t=some f)(fuel:Nat)(v:Value):(method (fuel+1) t v name).run P w=.ok (f,v) w:=by
 unfold vY at h;cases hi:P.info? t with
 |none=>rw[hi]at h;cases h
 |some i=>
  rw[hi]at h;simp only at h;cases hm:i.methods.find? (·.name==name)with
  |none=>rw[hm]at h;cases h
  |some m=>
   rw[hm]at h;simp only at h;split at h
   .rename_i hp;have hp':m.path.toList=[]:=by simpa using hp
    cases hf:m.func with
    |none=>rw[hf]at h;simp at h
    |some fp=>
     obtain⟨f0,pr⟩:=fp;rw[hf]at h;cases hu:P.underlying t with
     |none=>rw[hu]at h;cases pr<;>simp at h
     |some d=>
      rw[hu]at h;cases pr
      .cases d
       case pointer e=>simp at h
       all_goals
        simp only[aB]at h;subst h;simp[method,typeInfo,hi,hm,follow,hp',hf,receiverAt,run_underlying hu,Place.get]
      .cases d
       case pointer e=>
        simp only[aB]at h;subst h;simp[method,typeInfo,hi,hm,follow,hp',hf,receiverAt,run_underlying hu,Place.get]
       all_goals simp at h
   .cases h
def ab.inv{i:az}{l:List az}{tbl:List (TypeId×FuncId)}{rx:VX}{xs:List VX}(hw:aQ st.s i.g=some true)(ho:i.op=.more (.inv tbl) (rx::xs)){t:TypeId}{v:V}(hr:rx.ev st.s=.iface t v)
 {f:FuncId}(hf:tbl.lookup t=some f){Post:V->af->Prop}(hc:au P f (v::xs.map (·.ev st.s)) st.U Post)
 (h:∀r Z',Post r Z'->ab P n (.ops l::k) ⟨aO st.s i.dst r,Z'⟩ Q):ab P n (.ops (i::l)::k) st Q:=by
 refine ab.ins (by rw[ho];simp) hw λF hn I a w o all hi hs next Q' X7=>?_
 subst hn;obtain⟨X9,hd⟩:=bZ hi;rw[ho]at X9;obtain⟨r0,name,args,argTypes,g1,rfl,g2⟩:=My X9;simp only[List.cons.injEq]at g2;obtain⟨rfl,rfl⟩:=g2;obtain⟨q1,q2⟩:=DW hf;have hfr:=bH hs r0;rw[hr]at hfr;simp only[E']at hfr;obtain⟨y,hy,hry⟩:=hfr;have YE:al I (aA I st.U) w (v::(args.toList.map (cx F.n)).map (·.ev st.s)) (y::args.toList.map a.eval):=by
  simp only[al];exact⟨y,_,rfl,hry,mC hs args.toList⟩
 have Yw:(execOp a.eval o).run P w=.ok (.enter f ((y::args.toList.map a.eval).toArray)) w:=by
  unfold execOp;rw[g1];have ZP:0<P.types.size:=Nat.lt_of_le_of_lt (Nat.zero_le _) q2;obtain⟨fu,hfu⟩:∃fu,P.types.size+Made.depth=fu+1:=⟨P.types.size+Made.depth-1,by omega⟩
  have hprog:(program:Sem Program).run P w=.ok P w:=rfl;have harr:(#[Value.iface t y]++args.map a.eval).extract 1 (#[Value.iface t y]++args.map a.eval).size=args.map a.eval:=by
   apply Array.ext';simp[jj]
  have hget:(#[Value.iface t y]++args.map a.eval)[0]?=some (.iface t y):=by
   rw[Array.getElem?_append_left (by simp)];rfl
  simp only[resolve,Sem.run_bind,Sem.run_pure,Result.andThen_ok,invoke,hy,hget,harr,callMethod,hprog,hfu,E7 q1];have hen:=jZ (w:=w) hc.1 (#[y]++args.map a.eval);rw[hen];congr 2;apply Array.ext';simp
 unfold Oper.wp;rw[Yw];simp only[Oper.upon];have hsat:Sat w (aA I st.U) I st.U w:=hs.sat.here;refine(hc.2 I w _ hsat YE).mono ?_;rintro e w' ⟨r,Z',Y',val,rfl,hp,hle,Ye,hr'⟩;obtain⟨Zg,ZI⟩:=hs.sat.compose Ye;refine X7 _ _ _ ⟨Y',?_⟩ (h r Z' hp);rw[<-hd];exact hs.step Zg hle ZI Ye.size hr'
variable {P:Program} {n:Nat} {st:St} {Q:St->Prop} {k:List It}
def TC(P:Program)(i:az)(x:St)(K:St->Prop):Prop:=T P i x K\/(aQ x.s i.g=some true/\match i.op with
 |.call fx xs=>∃f caps Post,fx.ev x.s=.fn f caps/\au P f (xs.map (·.ev x.s)++caps) x.U Post/\∀r Z',Post r Z'->K ⟨aO x.s i.dst r,Z'⟩
 |_=>False)
def TC.mono{i:az}{x:St}{K K':St->Prop}(hk:∀x,K x->K' x)(h:TC P i x K):TC P i x K':=by
 rcases h with h|⟨h1,h2⟩
 .exact .inl (h.mono hk)
 .refine .inr ⟨h1,?_⟩;split at h2
  .obtain⟨f,caps,Post,g1,g2,g3⟩:=h2;exact⟨f,caps,Post,g1,g2,λr Z' hp=>hk _ (g3 r Z' hp)⟩
  .exact h2.elim
def IE{F:Fr}(hn:F.n=n){o:Oper}{all:Array Oper}{x:St}{K:St->Prop}{a:Act}{w:World}(h:TC P (bI P n all o) x K)(hs:ee F x a w)
 {next:Act->World->Prop}{Q':Exit->Act->World->Prop}(X7:∀x' a' w',ee F x' a' w'->K x'->next a' w'):
 if Region.wanted o (yielded all a.tmps)then Yh P n o.op≠.bad/\o.wp P a w next Q' else next (a.put o.dst undef) w:=by
 rcases h with h|⟨hw,h⟩
 .exact uS hn h hs X7
 subst hn;obtain⟨I,hs⟩:=hs;have hwant:=o7 (P:=P) hs all o hw;rw[hwant];simp only[if_true];have hdst:(bI P F.n all o).dst=o.dst.filter (·<F.n):=rfl;have hopc:(bI P F.n all o).op=Yh P F.n o.op:=rfl;rw[hdst,hopc]at h;split at h
 .rename_i fx xs X9;refine⟨λe=>?_,?_⟩
  .rw[X9]at e;cases e
  obtain⟨f,caps,Post,h1,h2,h3⟩:=h;obtain⟨f0,args,argTypes,g1,rfl,rfl⟩:=lX X9;refine mN hs g1 h1 h2 λr Z' hp a' w' Ye=>?_;exact X7 _ a' w' Ye (h3 r Z' hp)
 .exact h.elim
def TnC(P:Program)(n:Nat)(ops:Array Oper)(i:Nat)(x:St)(K:St->Prop):Prop:=match ops[i]? with
 |some o=>TC P (bI P n ops o) x K
 |none=>K x
def Aq(P:Program)(n:Nat)(ops:Array Oper)(Q:St->Prop):Nat->Array Bool->St->Prop
 |0,A',x=>Region.ready .any ops A'=[]/\Q x
 |f+1,A',x=>(Region.ready .any ops A'=[]->Q x)/\∀i∈Region.ready .any ops A',TnC P n ops i x (Aq P n ops Q f (A'.setIfInBounds i true))
def nX{F:Fr}(hn:F.n=n){ops:Array Oper}{Q:St->Prop}{Q':Exit->Act->World->Prop}(hQ:∀x a w,ee F x a w->Q x->Q' .normal a w):
 ∀(f:Nat) (A':Array Bool) (x:St) (a:Act) (w:World),ee F x a w->Aq P n ops Q f A' x->wpAnyIn F.dV 0 P .any ops Q' f A' a w
 |0,_,_,_,_,hs,h=>⟨h.1,hQ _ _ _ hs h.2⟩
 |f+1,A',x,a,w,hs,h=>by
  refine⟨λh0=>hQ _ _ _ hs (h.1 h0),λi hi=>?_⟩;have h1:=h.2 i hi;unfold TnC at h1;unfold wpOpIn;cases ho:ops[i]? with
  |none=>
   simp only[ho]at h1;exact nX hn hQ f _ x a w hs h1
  |some o=>
   simp only[ho]at h1;have h2:=IE (Q':=Q') hn h1 hs λx' a' w' Ye hk=>nX hn hQ f _ x' a' w' Ye hk;by_cases hw:Region.wanted o (yielded ops a.tmps)=true
   .rw[ar hw]at h2;simp only[hw,if_true];exact GS (j7 h2.1) h2.2
   .rw[av hw]at h2;simp only[hw];exact⟨λ_ _=>trivial,h2⟩
def vU(P:Program)(l:List az)(rec:List Nat->St->Prop)(A':List Nat)(x:St):List Nat->Prop
 |[]=>True
 |i::is=>(match l[i]? with
   |some ins=>TC P ins x (rec (i::A'))
   |none=>False)/\vU P l rec A' x is
def iP(P:Program)(l:List az)(Yi:List (List Nat))(Q:St->Prop):Nat->List Nat->St->Prop
 |0,A',x=>dz Yi A'=[]/\Q x
 |f+1,A',x=>match dz Yi A' with
   |[]=>Q x
   |i::is=>vU P l (iP P l Yi Q f) A' x (i::is)
def oV{l:List az}{rec:List Nat->St->Prop}{A':List Nat}{x:St}:∀{is:List Nat},vU P l rec A' x is->∀i∈is,∃ins,l[i]?=some ins/\TC P ins x (rec (i::A'))
 |[],_,_,hi=>by cases hi
 |j::is,h,i,hi=>by
  obtain⟨h1,h2⟩:=h;rcases cg.1 hi with rfl|hi
  .cases hl:l[i]? with
   |none=>rw[hl]at h1;exact h1.elim
   |some ins=>rw[hl]at h1;exact⟨ins,rfl,h1⟩
  .exact oV h2 i hi
def nh{ops:Array Oper}{Q:St->Prop}:∀(f:Nat) (arr:Array Bool) (A':List Nat) (x:St),arr.size=ops.size->(∀i,i<ops.size->arr.getD i true=A'.contains i)->
 (∀i∈A',i<ops.size)->iP P (ops.toList.map (bI P n ops)) (kR ops) Q f A' x->Aq P n ops Q f arr x
 |0,arr,A',x,hs,hl,ho,h=>⟨by rw[yx hs hl ho];exact h.1,h.2⟩
 |f+1,arr,A',x,hs,hl,ho,h=>by
  have hr:=yx hs hl ho;unfold iP at h;refine⟨λh0=>?_,λi hi=>?_⟩
  .rw[hr]at h0;rw[h0]at h;exact h
  .rw[hr]at hi;have H':i<ops.size:=by
    have:=(rR.1 hi).1;simpa[kR]using this
   have YU:vU P (ops.toList.map (bI P n ops)) (iP P (ops.toList.map (bI P n ops)) (kR ops) Q f) A' x (dz (kR ops) A'):=by
    cases hrr:dz (kR ops) A' with
    |nil=>exact trivial
    |cons j js=>rw[hrr]at h;exact h
   obtain⟨ins,h1,h2⟩:=oV YU i hi;have h3:ops[i]?=some ops[i]:=Array.getElem?_eq_getElem H';have h4:ins=bI P n ops ops[i]:=by simpa[H']using h1.symm
   unfold TnC;simp only[h3];rw[<-h4];refine h2.mono λx' YD=>nh f _ (i::A') x' (by simpa using hs) (λj hj=>?_) (λj hj=>?_) YD
   .by_cases e:j=i
    .subst e;rw[Zq7,Array.getElem?_setIfInBounds_self_of_lt (by omega)];simp
    .rw[Zq7,Array.getElem?_setIfInBounds_ne (λe'=>e e'.symm),<-Zq7,hl j hj];simp[e]
   .rcases cg.1 hj with rfl|hj
    .exact H'
    .exact ho j hj
def ab.Oh(hm:P.follows .mixedOrders=true){l:List az}{Yi:List (List Nat)}(h:iP P l Yi (λx=>ab P n k x Q) l.length [] st):ab P n (.code (.regA l Yi)::k) st Q:=by
 intro F hn kt hk a w hs;obtain⟨z,kt',rfl,hy,ZL⟩:=dn hk;obtain⟨c0,rfl,ZA⟩:=fV hy;have hc0:∃id ops,c0=.region id ops true/\ops.toList.map (bI P n ops)=l/\kR ops=Yi:=by
  cases c0<;>simp only[cY,reduceCtorEq]at ZA;rename_i id ops draw;cases draw
  .simp at ZA
  .simp only[Bool.true_and]at ZA;split at ZA
   .cases ZA
   split at ZA
   .simp only[bf.regA.injEq]at ZA;exact⟨id,ops,rfl,ZA.1,ZA.2⟩
   .simp at ZA
 obtain⟨id,ops,rfl,rfl,rfl⟩:=hc0;have Ye:ee F st a { w with drawn:=w.drawn+1 }:=by
  obtain⟨I,hs⟩:=hs;have hk:cD (aA I st.U) (aA I st.U) w { w with drawn:=w.drawn+1 }:=λ_ _ h=>⟨h,rfl⟩
  refine⟨I,⟨⟨hs.sat.size,hs.sat.os,hs.sat.tape,hs.sat.output,hs.sat.same,hs.sat.fin,hs.sat.inj,λid o ho=>?_,hs.sat.fresh,hs.sat.glob⟩,hs.le,hs.size,hs.book.gJ hk,λi hi=>?_⟩⟩
  .exact(hs.sat.obj id o ho).mono (cC.refl I) hk (YQ _) (λ_ _ _ _=>rfl)
  .exact E'.mono (cC.refl I) hk (YQ _) _ _ (hs.slot i hi)
 refine wpIn_region_any hm (nX (Q:=λx=>ab P n k x Q) hn (λx a w hs h=>h F hn kt' ZL a w hs) _ _ _ _ _ Ye ?_);have:=nh (P:=P) (n:=n) (Q:=λx=>ab P n k x Q) (ops:=ops) ops.size (Array.replicate ops.size false) [] st (by simp) (λi hi=>by
  rw[Zq7,Array.getElem?_replicate,ar hi];simp) (by simp) (by simpa using h)
 exact this
def rh{l:List az}{rec:List Nat->St->Prop}{A':List Nat}{x:St}:∀{is:List Nat},(∀i∈is,∃ins,l[i]?=some ins/\TC P ins x (rec (i::A')))->vU P l rec A' x is
 |[],_=>trivial
 |j::is,h=>by
  obtain⟨ins,h1,h2⟩:=h j (by simp);refine⟨by rw[h1];exact h2,rh λi hi=>h i (by simp[hi])⟩
def iy(g:V->Option V):List V->Option (List V)
 |[]=>some []
 |v::vs=>match g v with
  |some u=>(match iy g vs with
   |some us=>some (u::us)
   |none=>none)
  |none=>none
def fzQ:Nat->Tr (Option Ob)->V->Option V
 |0,_,_=>none
 |f+1,U,v=>match v with
  |.own id off len=>match eZ none id U with
   |some ob=>@Bool.casesOn (λ_=>Option V) (Nat.ble (off+len) ob.rows.length) none ((iy (fzQ f U) ((ob.rows.drop off).take len)).map (.sl ob.sz))
   |none=>none
  |.ptr id i k=>@Bool.casesOn (λ_=>Option V) (Nat.beq k 0) none (match eZ none id U with
   |some ob=>(match ob.rows[i]? with
    |some r=>(fzQ f U r).map .rp
    |none=>none)
   |none=>none)
  |.sl sz rows=>(iy (fzQ f U) rows).map (.sl sz)
  |.agg cs=>(iy (fzQ f U) cs).map .agg
  |.P' cs=>(iy (fzQ f U) cs).map .P'
  |.fn g cs=>(iy (fzQ f U) cs).map (.fn g)
  |.bm g cs=>(iy (fzQ f U) cs).map (.bm g)
  |.iface t u=>(fzQ f U u).map (.iface t)
  |v=>@Bool.casesOn (λ_=>Option V) v.ct none (some v)
def oZ{g:V->Option V}(hg:∀v u,g v=some u->u.ct=true):∀{l m:List V},iy g l=some m->cd m=true
 |[],m,h=>by simp only[iy,aB]at h;subst h;rfl
 |v::vs,m,h=>by
  simp only[iy]at h;split at h
  .rename_i u hu;split at h
   .rename_i us hus;simp only[aB]at h;subst h;simp only[cd,hg v u hu,oZ hg hus,Bool.and_self]
   .cases h
  .cases h
def zR{g:V->Option V}(hg:∀v u,g v=some u->v.ct=true->u=v):∀{l m:List V},iy g l=some m->cd l=true->m=l
 |[],m,h,_=>by simp only[iy,aB]at h;exact h.symm
 |v::vs,m,h,hn=>by
  simp only[cd,Ba]at hn;simp only[iy]at h;split at h
  .rename_i u hu;split at h
   .rename_i us hus;simp only[aB]at h;subst h;rw[hg v u hu hn.1,zR hg hus hn.2]
   .cases h
  .cases h
def lM:∀(f:Nat) (U:Tr (Option Ob)) (v u:V),fzQ f U v=some u->u.ct=true
 |0,_,_,_,h=>by simp[fzQ]at h
 |f+1,U,v,u,h=>by
  have hL:∀{l m:List V},iy (fzQ f U) l=some m->cd m=true:=λh=>oZ (lM f U) h;cases v<;>simp only[fzQ,bP]at h
  case own id off len=>
   split at h
   .split at h
    .simp only[Zq8]at h;obtain⟨m,hm,rfl⟩:=h;simpa[V.ct]using hL hm
    .cases h
   .cases h
  case ptr id i k=>
   split at h
   .split at h
    .split at h
     .simp only[Zq8]at h;obtain⟨m,hm,rfl⟩:=h;simpa[V.ct]using lM f U _ _ hm
     .cases h
    .cases h
   .cases h
  case iface=>
   simp only[Zq8]at h;obtain⟨m,hm,rfl⟩:=h;simpa[V.ct]using lM f U _ _ hm
  all_goals first
   |(simp only[Zq8]at h
     obtain⟨m,hm,rfl⟩:=h;simpa[V.ct]using hL hm)
   |(split at h
     .rename_i hn;simp only[aB]at h;subst h;exact hn
     .cases h)
def EH:∀(f:Nat) (U:Tr (Option Ob)) (v u:V),fzQ f U v=some u->v.ct=true->u=v
 |0,_,_,_,h,_=>by simp[fzQ]at h
 |f+1,U,v,u,h,hn=>by
  have hL:∀{l m:List V},iy (fzQ f U) l=some m->cd l=true->m=l:=λh=>zR (EH f U) h;cases v<;>simp only[fzQ,bP]at h
  case own=>simp[V.ct]at hn
  case ptr=>simp[V.ct]at hn
  case iface=>
   simp only[V.ct]at hn;simp only[Zq8]at h;obtain⟨m,hm,rfl⟩:=h;rw[EH f U _ _ hm hn]
  all_goals first
   |(simp only[V.ct]at hn
     simp only[Zq8]at h;obtain⟨m,hm,rfl⟩:=h;rw[hL hm hn])
   |(split at h<;>first|exact absurd hn ‹_›|(simp only[aB]at h;try exact h.symm))
def vq{R:Nat->Nat->Prop}{Zt:Tr (Option Ob)}{U:af}(hm:Lv R (ZH Zt) U):∀(f:Nat) (v u v':V),fzQ f Zt v=some v'->aq R v u->Fz U (λa=>∃c o,R c a/\ZH Zt c=some o) u v'
 |0,_,_,_,h,_=>by simp[fzQ]at h
 |f+1,v,u,v',h,hr=>by
  have hL:∀(vs us out:List V),iy (fzQ f Zt) vs=some out->aD R vs us->FzL U (λa=>∃c o,R c a/\ZH Zt c=some o) us out:=by
   intro vs
   induction vs with
   |nil=>
    intro us out h1 h2;rw[aD.eS]at h2;subst h2;simp only[iy,aB]at h1;subst h1;exact .nil
   |cons a vs ih=>
    intro us out h1 h2;obtain⟨b,bs,rfl,h3,h4⟩:=aD.bu.1 h2;simp only[iy]at h1;split at h1
    .rename_i c hc;split at h1
     .rename_i cs hcs;simp only[aB]at h1;subst h1;exact .cons _ _ _ _ (vq hm f _ _ _ hc h3) (ih _ _ hcs h4)
     .cases h1
    .cases h1
  cases v<;>simp only[fzQ,bP]at h
  case own id off len=>
   split at h
   .rename_i ob YV;split at h
    .rename_i hle;simp only[Zq8]at h;obtain⟨rows,h3,rfl⟩:=h;simp only[aq]at hr;obtain⟨ZD,rfl,hR⟩:=hr;obtain⟨X6,g1,g2⟩:=hm _ ZD ob hR YV;have:=hL _ _ _ h3 ((g2.drop _).take _);exact .own ZD _ _ ⟨ob.elem,ob.sz,X6⟩ _ g1 ⟨_,ob,hR,YV⟩ (by rw[g2.length];exact oG hle) this
    .cases h
   .cases h
  case ptr id i k=>
   split at h
   .rename_i hk;split at h
    .rename_i ob YV;split at h
     .rename_i r hri;simp only[Zq8]at h;obtain⟨r',h3,rfl⟩:=h;simp only[aq]at hr;obtain⟨ZD,rfl,hR⟩:=hr;obtain⟨X6,g1,g2⟩:=hm _ ZD ob hR YV;obtain⟨q,g3,g4⟩:=g2.get hri;have hk0:k=0:=gn hk;subst hk0;exact .ptr ZD _ ⟨ob.elem,ob.sz,X6⟩ q r' g1 ⟨_,ob,hR,YV⟩ g3 (vq hm f _ _ _ h3 g4)
     .cases h
    .cases h
   .cases h
  case iface t x=>
   simp only[aq]at hr;obtain⟨y,rfl,hr⟩:=hr;simp only[Zq8]at h;obtain⟨m,hm',rfl⟩:=h;exact .iface _ _ _ (vq hm f _ _ _ hm' hr)
  case sl sz rows=>
   simp only[aq]at hr;obtain⟨y,rfl,hr⟩:=hr;simp only[Zq8]at h;obtain⟨m,hm',rfl⟩:=h;exact .sl _ _ _ (hL _ _ _ hm' hr)
  case agg=>
   simp only[aq]at hr;obtain⟨y,rfl,hr⟩:=hr;simp only[Zq8]at h;obtain⟨m,hm',rfl⟩:=h;exact .agg _ _ (hL _ _ _ hm' hr)
  case P'=>
   simp only[aq]at hr;obtain⟨y,rfl,hr⟩:=hr;simp only[Zq8]at h;obtain⟨m,hm',rfl⟩:=h;exact .P' _ _ (hL _ _ _ hm' hr)
  case fn=>
   simp only[aq]at hr;obtain⟨y,rfl,hr⟩:=hr;simp only[Zq8]at h;obtain⟨m,hm',rfl⟩:=h;exact .fn _ _ _ (hL _ _ _ hm' hr)
  case bm=>
   simp only[aq]at hr;obtain⟨y,rfl,hr⟩:=hr;simp only[Zq8]at h;obtain⟨m,hm',rfl⟩:=h;exact .bm _ _ _ (hL _ _ _ hm' hr)
  all_goals (split at h
             .rename_i Yx;simp only[aB]at h;subst h;have:=oU _ _ Yx hr;subst this;exact .same _ Yx
             .cases h)
def F5{R:Nat->Nat->Prop}{Zt:Tr (Option Ob)}{U:af}(hm:Lv R (ZH Zt) U){f:Nat}:∀(vs us out:List V),iy (fzQ f Zt) vs=some out->aD R vs us->WkL U iJ us out
 |[],us,out,h1,h2=>by
  rw[aD.eS]at h2;subst h2;simp only[iy,aB]at h1;subst h1;simp[WkL]
 |a::vs,us,out,h1,h2=>by
  obtain⟨b,bs,rfl,h3,h4⟩:=aD.bu.1 h2;simp only[iy]at h1;split at h1
  .rename_i c hc;split at h1
   .rename_i cs hcs;simp only[aB]at h1;subst h1;simp only[WkL];exact⟨(vq hm f _ _ _ hc h3).wk (lO U) (λ_ _=>rfl),F5 hm _ _ _ hcs h4⟩
   .cases h1
  .cases h1
inductive Fk where
 |code (vf:Yb)
 |fz (vf:Yb)
 |orc (g:List V->Option V)
def zE(U:Tr (Option Ob))(args:List V)(h:List V->Option V)(Yu:Nat):Option Rs:=match iy (fzQ 40 U) args with
 |some as1=>(match h as1 with
  |some v=>@Bool.casesOn (λ_=>Option Rs) (v.ct&&(cd args||v.scalar)) none (some ⟨v,U,Yu⟩)
  |none=>none)
 |none=>none
def evZ(run:Nat->bf->CS->Out)(vf:Yb)(as1:List V):Option V:=@Bool.casesOn (λ_=>Option V) (Nat.ble as1.length vf.n) none
 (match MZ vf.res (run 0 vf.code ⟨Tr.ofL as1 0 .e,.e,0⟩)with
   |some r=>fzQ 40 r.U r.v
   |none=>none)
def iZ(run:Nat->bf->CS->Out)(T:FuncId->Option Fk):gB:=λf args U Yu fl=>match T f with
 |none=>none
 |some k=>match k with
  |.code vf=>@Bool.casesOn (λ_=>Option Rs) (Nat.ble args.length vf.n) none (MZ vf.res (run fl vf.code ⟨Tr.ofL args 0 .e,U,Yu⟩))
  |.fz vf=>zE U args (evZ run vf) Yu
  |.orc g=>zE U args g Yu
variable {P:Program} {n:Nat}
def yu{f:FuncId}{h:List V->Option V}(hp:∀as1 v,h as1=some v->cd as1=true->v.ct=true->aJ P f as1 v){args:List V}{Zc:Tr (Option Ob)}{Yu fl:Nat}{r:Rs}(hr:zE Zc args h Yu=some r)
 {K:af}{R:Nat->Nat->Prop}{U:af}{args':List V}(hm:fG K fl R (ZH Zc) Yu U)(ha:aD R args args'):
 au P f args' U λv Z'=>∃R',Le R R'/\aq R' r.v v/\fG K fl R' (ZH r.U) r.Yu Z':=by
 unfold zE at hr;split at hr
 .rename_i as1 h1;split at hr
  .rename_i v h2;rw[bP]at hr;split at hr
   .rename_i hc;simp only[Ba,kS]at hc;simp only[aB]at hr;subst hr;have hno1:=oZ (lM 40 Zc) h1;have hpf:=hp as1 v h2 hno1 hc.1;have key:au P f args' U λr Z'=>r=v/\Z'=U:=by
     rcases hc.2 with h3|h3
     .have e1:as1=args:=zR (EH 40 Zc) h1 h3;have e2:args'=args:=jw _ _ h3 ha;rw[e2,<-e1];exact hpf U
     .exact aJ.borrow (F5 hm.live _ _ _ h1 ha) hpf h3
    refine key.Aj ?_;rintro r Z' ⟨rfl,rfl⟩;exact⟨r,Z',aa.refl _,Wk.refl (aa.refl _) _,R,Le.refl R,cU _ hc.1,hm⟩
   .cases hr
  .cases hr
 .cases hr
variable {P:Program} {n:Nat} {st:St} {Q:St->Prop} {k:List It}
def QYd(P:Program)(i:az)(x:St):Prop:=match i.dst with
 |some d=>QY P i x.s x.U (x.s d)
 |none=>∃v,QY P i x.s x.U v
def RE(P:Program)(l:List az)(K:St->Prop):List Nat->St->Prop
 |[],x=>K x
 |m::its,x=>match l[m/2]? with
  |none=>False
  |some ins=>if m%2=0 then TC P ins x (RE P l K its)else QYd P ins x/\RE P l K its x
def bj(l:List az)(i:Nat):az:=(l[i]?).getD ⟨none,.bad,none⟩
def ep(Yo:List (List Nat))(i:Nat):List Nat:=Yo.getD i []
def cX(l:List az)(Yo:List (List Nat))(j:Nat):Bool:=aX (bj l j).op != 0||(match(bj l j).dst with
 |some d=>(List.range l.length).any λi=>(bj l i).lR.contains d&&!(ep Yo i).contains j
 |none=>false)
def G9(l:List az)(Yo:List (List Nat))(done:List Nat)(e:Nat):List Nat:=
 if cX l Yo e then done.filterMap λk=>if !(cX l Yo k)&&(!(lh (bj l k).op)&&!((ep Yo e).contains k))then some (2*k+1)else none else[]
def dI(l:List az)(Yo:List (List Nat)):List Nat->List Nat->List Nat
 |_,[]=>[]
 |done,e::r=>2*e::(G9 l Yo done e++dI l Yo (done++[e]) r)
def nU(p:Nat->Nat->Bool):List Nat->Bool
 |[]=>true
 |a::r=>r.all (p a)&&nU p r
def nP{p:Nat->Nat->Bool}:∀{a:List Nat} {b:List Nat} {x y:Nat},nU p (a++b)=true->x∈a->y∈b->p x y=true
 |[],_,_,_,_,h,_=>by cases h
 |c::a,b,x,y,hp,hx,hy=>by
  simp only[List.cons_append,nU,Ba]at hp;rcases cg.1 hx with rfl|hx
  .exact dX.1 hp.1 y (List.mem_append_right _ hy)
  .exact nP hp.2 hx hy
def vC(f:Nat->List Nat):List Nat->List Nat->Bool
 |_,[]=>true
 |done,e::r=>(f e).all done.contains&&vC f (done++[e]) r
def tw{f:Nat->List Nat}:∀{r done:List Nat} {a:List Nat} {e:Nat} {b:List Nat},vC f done r=true->r=a++e::b->∀x∈f e,x∈done++a
 |[],_,a,e,b,_,h,_,_=>by simp at h
 |c::r,done,[],e,b,hB,h,x,hx=>by
  simp only[kA,List.cons.injEq]at h;obtain⟨rfl,rfl⟩:=h;simp only[vC,Ba]at hB;simpa using dX.1 hB.1 x hx
 |c::r,done,d::a,e,b,hB,h,x,hx=>by
  simp only[List.cons_append,List.cons.injEq]at h;obtain⟨rfl,rfl⟩:=h;simp only[vC,Ba]at hB;have:=tw hB.2 rfl x hx;simpa using this
def NT(l:List az)(Yi Yo:List (List Nat))(ord:List Nat):Bool:=
 (decide (ord.length=l.length)&&(decide (Yi.length=l.length)&&ord.all λi=>decide (i<l.length)))&&
 (nU (λa b=>decide (a≠b)) ord&&
 (vC (λi=>Yi.getD i []) [] ord&&
 ((List.range l.length).all (λj=>(ep Yo j).all λi=>(Yi.getD j []).any λd=>d==i||(ep Yo d).contains i)&&
 ((List.range l.length).all (λi=>(List.range l.length).all λj=>i==j||((bj l i).dst.isNone||(bj l i).dst != (bj l j).dst))&&
 (List.range l.length).all (λi=>(List.range l.length).all λj=>i==j||(match(bj l j).dst with
   |some d=>!((bj l i).lR.contains d)||((ep Yo i).contains j||(cX l Yo j&&(ep Yo j).contains i))
   |none=>true))))))
def eOk(l:List az)(Yi Yo:List (List Nat))(ord:List Nat):Bool:=NT l Yi Yo ord&&nU (λa b=>!(cX l Yo a)||(ep Yo b).contains a) ord
def tT:∀{l:List Nat},nU (λa b=>decide (a≠b)) l=true->l.Nodup
 |[],_=>List.nodup_nil
 |a::r,h=>by
  simp only[nU,Ba]at h;refine List.nodup_cons.2 ⟨λhm=>?_,tT h.2⟩;have:=dX.1 h.1 a hm;simp at this
structure EOkW(l:List az)(Yi Yo:List (List Nat))(ord:List Nat):Prop where
 len:ord.length=l.length
 dlen:Yi.length=l.length
 lt:∀i∈ord,i<l.length
 nodup:ord.Nodup
 ahead:∀a e b,ord=a++e::b->∀x∈Yi.getD e [],x∈a
 anc:∀j,j<l.length->∀i∈ep Yo j,∃d∈Yi.getD j [],d=i\/i∈ep Yo d
 dsts:∀i j,i<l.length->j<l.length->i≠j->∀d,(bj l i).dst=some d->(bj l j).dst≠some d
 anti:∀i j,i<l.length->j<l.length->i≠j->∀d,(bj l j).dst=some d->d∈(bj l i).lR->j∈ep Yo i\/(cX l Yo j=true/\i∈ep Yo j)
def zi{l:List az}{Yi Yo:List (List Nat)}{ord:List Nat}(h:NT l Yi Yo ord=true):EOkW l Yi Yo ord:=by
 simp only[NT,Ba,Zq9]at h;obtain⟨⟨h1,h2,h3⟩,h4,h5,h6,h7,h8⟩:=h;refine⟨h1,h2,λi hi=>by simpa using dX.1 h3 i hi,tT h4,λa e b he x hx=>by simpa using tw h5 he x hx,?_,?_,?_⟩
 .intro j hj i hi;have:=dX.1 (dX.1 h6 j (by simpa using hj)) i hi;simp only[Qu,kS,beq_iff_eq,List.contains_iff_mem]at this;exact this
 .intro i j hi hj YA d hd he;have:=dX.1 (dX.1 h7 i (by simpa using hi)) j (by simpa using hj);simp only[kS,beq_iff_eq,hd,he,Option.isNone_some,bne_self_eq_false,eQ,or_false]at this;exact YA this
 .intro i j hi hj YA d hd hu;have:=dX.1 (dX.1 h8 i (by simpa using hi)) j (by simpa using hj);simp only[kS,beq_iff_eq,hd,Ba,Bool.not_eq_true',List.contains_iff_mem]at this;rcases this with h|h|h
  .exact absurd h YA
  .have hc:(bj l i).lR.contains d=true:=List.contains_iff_mem.2 hu;rw[hc]at h;cases h
  .exact h
structure EOk(l:List az)(Yi Yo:List (List Nat))(ord:List Nat):Prop extends EOkW l Yi Yo ord where
 effs:∀a b x y,ord=a++b->x∈a->y∈b->cX l Yo x=true->x∈ep Yo y
def Cy{l:List az}{Yi Yo:List (List Nat)}{ord:List Nat}(h:eOk l Yi Yo ord=true):EOk l Yi Yo ord:=by
 simp only[eOk,Ba]at h;refine⟨zi h.1,λa b x y he hx hy hxe=>?_⟩;have h9:=h.2;rw[he]at h9;have:=nP h9 hx hy;simp only[hxe,Bool.not_true,Bool.false_or,List.contains_iff_mem]at this;exact this
def EOkW.closed{l:List az}{Yi Yo:List (List Nat)}{ord:List Nat}(h:EOkW l Yi Yo ord){L:List Nat}(hc:∀m∈L,∀d∈Yi.getD m [],d∈L)(hmem:∀i,i<l.length->i∈ord):
 ∀(m:Nat) (a:List Nat) (j:Nat) (b:List Nat),a.length<m->ord=a++j::b->(∀d∈Yi.getD j [],d∈L)->∀i∈ep Yo j,i∈L:=by
 intro m
 induction m with
 |zero=>intro a j b ha;omega
 |succ m ih=>
  intro a j b ha he hd i hi;have hj:j<l.length:=h.lt j (by rw[he];simp);obtain⟨d,h1,h2⟩:=h.anc j hj i hi;rcases h2 with rfl|h2
  .exact hd d h1
  .have ZV:=h.ahead a j b he d h1;obtain⟨a1,a2,rfl⟩:=List.append_of_mem ZV;exact ih a1 d (a2++j::b) (by simp at ha;omega) (by rw[he];simp) (λd' h'=>hc d (hd d h1) d' h') i h2
def oy{i:az}{s s':Nat->V}(h:∀u∈i.lR,s u=s' u):aQ s i.g=aQ s' i.g:=by
 cases hg:i.g with
 |none=>rfl
 |some g=>
  obtain⟨x,b⟩:=g;have:x.ev s=x.ev s':=by
   cases x with
   |t t=>exact h t (List.mem_filterMap.2 ⟨.t t,List.mem_append_right _ (by simp[hg]),rfl⟩)
   |c v=>rfl
  simp only[aQ,this]
def De{i:az}{s s':Nat->V}(h:∀u∈i.lR,s u=s' u):∀x∈i.op.xs,x.ev s=x.ev s':=λx hx=>by
 cases x with
 |t t=>exact h t (FW hx rfl)
 |c v=>rfl
def Bm{i:az}{s s':Nat->V}{U:af}{v:V}(h:∀u∈i.lR,s u=s' u)(hq:QY P i s U v):QY P i s' U v:=by
 unfold QY at*;rw[<-oy h];exact hq.imp (λ⟨h1,h2⟩=>⟨h1,xu (De h) h2⟩) id
def C9{i:az}{x y:St}{K K':St->Prop}(h:∀u∈i.lR,x.s u=y.s u)(YF:x.U=y.U)(hk:∀r Z',K ⟨aO x.s i.dst r,Z'⟩->K' ⟨aO y.s i.dst r,Z'⟩)(ht:TC P i x K):TC P i y K':=by
 have hx:=De h;rcases ht with ht|⟨hw,ht⟩
 .refine .inl ?_;unfold T at*;rw[<-oy h];split<;>rename_i ho<;>simp only[ho]at ht
  .unfold TO at*;split<;>rename_i hk0<;>simp only[hk0]at ht
   .obtain⟨g1,v,g2,g3⟩:=ht;obtain⟨e1,e2⟩:=tq (U:=y.U) hx;exact⟨e2.1 g1,v,by rw[<-e1,<-YF];exact g2,by rw[<-YF];exact hk _ _ g3⟩
   .split at ht
    .rename_i fx xs X9;obtain⟨f,caps,v,g1,g2,g3⟩:=ht;refine⟨f,caps,v,?_,?_,by rw[<-YF];exact hk _ _ g3⟩
     .rw[<-hx fx (by rw[X9];simp[Yq.xs])];exact g1
     .rw[<-sq (s:=x.s) (s':=y.s) λz hz=>hx z (by rw[X9];simp[Yq.xs,hz]),<-YF];exact g2
    .exact ht.elim
   .split at ht
    .rename_i sz xa xv X9;obtain⟨Z',g1,g2⟩:=ht;refine⟨Z',?_,hk _ _ g2⟩;rw[<-hx xa (by rw[X9];simp[Yq.xs]),<-hx xv (by rw[X9];simp[Yq.xs]),<-YF];exact g1
    .exact ht.elim
   .obtain⟨g,g1,g2⟩:=ht;refine⟨g,by rw[<-fe hx,<-YF];exact g1,λid O'=>hk _ _ (g2 id (by rw[YF];exact O'))⟩
  .rw[<-YF];exact hk _ _ ht
 .refine .inr ⟨by rw[<-oy h];exact hw,?_⟩;split at ht
  .rename_i fx xs X9;obtain⟨f,caps,Post,g1,g2,g3⟩:=ht;refine⟨f,caps,Post,?_,?_,λr Z' hp=>hk _ _ (g3 r Z' hp)⟩
   .rw[<-hx fx (by rw[X9];simp[Yq.xs])];exact g1
   .rw[<-sq (s:=x.s) (s':=y.s) λz hz=>hx z (by rw[X9];simp[Yq.xs,hz]),<-YF];exact g2
  .exact ht.elim
structure kx(P:Program)(l:List az)(Yi Yo:List (List Nat))(ord:List Nat)(K:St->Prop)(L:List Nat)(y:St)(done rest:List Nat)(x:St):Prop where
 split:ord=done++rest
 sub:∀i∈L,i∈done
 nodup:L.Nodup
 closed:∀m∈L,∀d∈Yi.getD m [],d∈L
 effs:∀i∈done,cX l Yo i=true->i∈L
 store:y.U=x.U
 slot:∀d,(∀i∈done,i∉L->(bj l i).dst≠some d)->y.s d=x.s d
 lag:∀i∈done,i∉L->QYd P (bj l i) x
 go:RE P l K (dI l Yo done rest) x
def gP{l:List az}{Yo:List (List Nat)}{e:Nat}(h:cX l Yo e=false)(he:e<l.length)(YA:e∉ep Yo e):aX (bj l e).op=0/\∀d,(bj l e).dst=some d->d∉(bj l e).lR:=by
 simp only[cX,Bool.or_eq_false_iff,bne_eq_false_iff_eq]at h;refine⟨h.1,λd hd hu=>?_⟩;have h2:=h.2;rw[hd]at h2;simp only[List.any_eq_false,List.mem_range,Ba,Bool.not_eq_true',not_and,Bool.not_eq_false]at h2;have:=h2 e he (List.contains_iff_mem.2 hu);exact YA (List.contains_iff_mem.1 this)
def FQ{l:List az}{K:St->Prop}{e:Nat}{its:List Nat}{x:St}(he:e<l.length):RE P l K (2*e::its) x↔TC P (bj l e) x (RE P l K its):=by
 have h1:2*e/2=e:=by omega
 have h2:2*e%2=0:=by omega
 rw[RE,h1,Zq6 he];simp only[ar h2,bj,Zq6 he,Option.getD_some]
def Q2{l:List az}{K:St->Prop}{e:Nat}{its:List Nat}{x:St}(he:e<l.length):RE P l K ((2*e+1)::its) x↔QYd P (bj l e) x/\RE P l K its x:=by
 have h1:(2*e+1)/2=e:=by omega
 have h2:¬(2*e+1)%2=0:=by omega
 rw[RE,h1,Zq6 he];simp only[av h2,bj,Zq6 he,Option.getD_some]
def uT{l:List az}{K:St->Prop}{its:List Nat}{x:St}(p:Nat->Bool):∀{done:List Nat},(∀i∈done,i<l.length)->RE P l K ((done.filterMap λk=>if p k then some (2*k+1)else none)++its) x->
 (∀k∈done,p k=true->QYd P (bj l k) x)/\RE P l K its x
 |[],_,h=>⟨by simp,h⟩
 |a::r,hl,h=>by
  rw[List.filterMap_cons]at h;cases hp:p a with
  |false=>
   simp only[hp,eQ,if_false]at h;obtain⟨h1,h2⟩:=uT p (λi hi=>hl i (by simp[hi])) h;refine⟨λk hk hpk=>?_,h2⟩;rcases cg.1 hk with rfl|hk
   .rw[hp]at hpk;cases hpk
   .exact h1 k hk hpk
  |true=>
   simp only[hp,if_true,List.cons_append]at h;rw[Q2 (hl a (by simp))]at h;obtain⟨h1,h2⟩:=uT p (λi hi=>hl i (by simp[hi])) h.2;refine⟨λk hk hpk=>?_,h2⟩;rcases cg.1 hk with rfl|hk
   .exact h.1
   .exact h1 k hk hpk
section
variable {l:List az} {Yi Yo:List (List Nat)} {ord:List Nat} {K:St->Prop} (hE:EOkW l Yi Yo ord)
include hE
def EOkW.mem(i:Nat)(hi:i<l.length):i∈ord:=(wc l.length ord hE.nodup hE.lt).2 hE.len i hi
def EOkW.nV{a:List Nat}{j:Nat}{b:List Nat}(he:ord=a++j::b):∀i∈ep Yo j,i∈a:=by
 have hc:∀m∈a,∀d∈Yi.getD m [],d∈a:=λm hm d hd=>by
  obtain⟨a1,a2,rfl⟩:=List.append_of_mem hm;have:=hE.ahead a1 m (a2++j::b) (by rw[he];simp) d hd;simp[this]
 exact hE.closed hc hE.mem (a.length+1) a j b (by omega) he (λd hd=>hE.ahead a j b he d hd)
def EOkW.pj{j:Nat}(hj:j<l.length):j∉ep Yo j:=λh=>by
 obtain⟨a,b,he⟩:=List.append_of_mem (hE.mem j hj);have h1:=hE.nV he j h;have:=hE.nodup;rw[he]at this;have:=(List.nodup_append.1 this).2.2 j h1 j (by simp);exact this rfl
def uH{i:Nat}{x:St}{e:Nat}{v:V}{Z':af}(hi:i<l.length)(he:e<l.length)(YA:i≠e)(hu:∀d,(bj l e).dst=some d->d∉(bj l i).lR)
 (hq:∀v,QY P (bj l i) x.s x.U v->QY P (bj l i) x.s Z' v)(h:QYd P (bj l i) x):QYd P (bj l i) ⟨aO x.s (bj l e).dst v,Z'⟩:=by
 unfold QYd at*;have hq':∀v',QY P (bj l i) x.s x.U v'->QY P (bj l i) (aO x.s (bj l e).dst v) Z' v':=λv' hv=>(fO hu).2 (hq v' hv);cases hd:(bj l i).dst with
 |none=>rw[hd]at h;obtain⟨v',h⟩:=h;exact⟨v',hq' v' h⟩
 |some d=>
  rw[hd]at h;simp only at h|-;have:aO x.s (bj l e).dst v d=x.s d:=by
   have:=hE.dsts i e hi he YA d hd;cases hde:(bj l e).dst with
   |none=>rfl
   |some d'=>
    rw[hde]at this;simp only[aO];rw[av (λe'=>this (by rw[e']))]
  rw[this];exact hq' _ h
def kx.adv{L:List Nat}{y:St}:∀{rest done:List Nat} {x:St},kx P l Yi Yo ord K L y done rest x->
 ∃done' rest' x',kx P l Yi Yo ord K L y done' rest' x'/\∀h r,rest'=h::r->cX l Yo h=true
 |[],done,x,h=>⟨done,[],x,h,by simp⟩
 |e::rest,done,x,h=>by
  cases heff:cX l Yo e with
  |true=>exact⟨done,e::rest,x,h,λa r he=>by cases he;exact heff⟩
  |false=>
   have hel:e<l.length:=hE.lt e (by rw[h.split];simp);obtain⟨hk,hself⟩:=gP heff hel (hE.pj hel);have hnd:=hE.nodup;rw[h.split]at hnd;have hed:e∉done:=λhm=>(List.nodup_append.1 hnd).2.2 e hm e (by simp) rfl;have heL:e∉L:=λhm=>hed (h.sub e hm);have hgo:=h.go;rw[dI,FQ hel,G9,av (by simp[heff]),kA]at hgo;have hT:T P (bj l e) x (RE P l K (dI l Yo (done++[e]) rest)):=by
    rcases hgo with hgo|⟨_,hgo⟩
    .exact hgo
    .exfalso;revert hgo hk;generalize (bj l e).op=op;intro hk hgo;split at hgo
     .simp[aX]at hk
     .exact hgo
   obtain⟨v,hv,hgo'⟩:=(bY (by simp[fg,hk])).1 hT;refine kx.adv (rest:=rest) (done:=done++[e]) (x:=⟨aO x.s (bj l e).dst v,x.U⟩) ⟨by rw[h.split];simp,λi hi=>by simp[h.sub i hi],h.nodup,h.closed,λi hi hie=>?_,h.store,λd hd=>?_,λi hi hiL=>?_,hgo'⟩
   .rcases dc.1 hi with hi|hi
    .exact h.effs i hi hie
    .simp only[er]at hi;rw[hi,heff]at hie;cases hie
   .have h1:=h.slot d λi hi hiL=>hd i (by simp[hi]) hiL;have h2:=hd e (by simp) heL;rw[h1];simp only;cases hde:(bj l e).dst with
    |none=>rfl
    |some d'=>
     rw[hde]at h2;simp only[aO];rw[av (λe'=>h2 (by rw[e']))]
   .by_cases hie:i=e
    .subst hie;unfold QYd;cases hd:(bj l i).dst with
     |none=>exact⟨v,hv⟩
     |some d=>
      simp only;have e1:aO x.s (some d) v d=v:=by simp[aO]
      rw[e1];exact(fO (λt ht=>by cases ht;exact hself d hd)).2 hv
    .have O':i∈done:=by
      rcases dc.1 hi with hi|hi
      .exact hi
      .simp only[er]at hi;exact absurd hi hie
     have hil:i<l.length:=hE.lt i (by rw[h.split];simp[O']);refine uH hE hil hel hie (λd hd hu=>?_) (λv hv=>hv) (h.lag i O' hiL);rcases hE.anti i e hil hel hie d hd hu with h1|⟨h1,_⟩
     .obtain⟨a,b,hab⟩:=List.append_of_mem O';have h2:=hE.nV (a:=a) (j:=i) (b:=b++e::rest) (by rw[h.split,hab];simp) e h1;exact hed (by rw[hab];simp[h2])
     .rw[heff]at h1;cases h1
end
section
variable {l:List az} {Yi Yo:List (List Nat)} {ord:List Nat} {K:St->Prop} (hE:EOk l Yi Yo ord)
include hE
def qK:∀(f:Nat) (L:List Nat) (y:St) (done rest:List Nat) (x:St),f+L.length=l.length->kx P l Yi Yo ord K L y done rest x->iP P l Yi K f L y:=by
 intro f
 induction f with
 |zero=>
  intro L y done rest x hf h;have YU:∀i,i<l.length->i∈L:=(wc l.length L h.nodup λi hi=>hE.lt i (by rw[h.split];simp[h.sub i hi])).2 (by omega);have hnd:=hE.nodup;rw[h.split]at hnd;have hrest:rest=[]:=by
   cases rest with
   |nil=>rfl
   |cons e r=>
    exfalso;have hel:e<l.length:=hE.lt e (by rw[h.split];simp);exact(List.nodup_append.1 hnd).2.2 e (h.sub e (YU e hel)) e (by simp) rfl
  subst hrest;have hyx:y=x:=by
   obtain⟨s,U⟩:=y;obtain⟨s',Z'⟩:=x;have h1:U=Z':=h.store;have h2:s=s':=funext λd=>h.slot d λi hi hiL=>absurd (YU i (hE.lt i (by rw[h.split];simp[hi]))) hiL;rw[h1,h2]
  refine⟨?_,by rw[hyx];exact h.go⟩;unfold dz;rw[List.filter_eq_nil_iff];intro i hi;simp only[List.mem_range,hE.dlen]at hi;simp[YU i hi]
 |succ f ih=>
  intro L y done rest x hf h;obtain⟨done,rest,x,h,hhead⟩:=kx.adv hE.toEOkW h;have hnd:=hE.nodup;rw[h.split]at hnd;have hmemL:∀i∈L,i<l.length:=λi hi=>hE.lt i (by rw[h.split];simp[h.sub i hi]);have key:vU P l (iP P l Yi K f) L y (dz Yi L):=by
   refine rh λi hi=>?_;obtain⟨hil,hiL,hdep⟩:=wJ hi;rw[hE.dlen]at hil;refine⟨bj l i,by simp[bj,Zq6 hil],?_⟩;obtain⟨pa,pb,hpe⟩:=List.append_of_mem (hE.mem i hil);have hbefL:∀j∈ep Yo i,j∈L:=hE.closed h.closed hE.mem (pa.length+1) pa i pb (by omega) hpe hdep;have huses:∀u∈(bj l i).lR,x.s u=y.s u:=λu hu=>(h.slot u λj hj hjL hd=>by
    have hjl:j<l.length:=hE.lt j (by rw[h.split];simp[hj]);by_cases hji:j=i
    .subst hji;cases hje:cX l Yo j with
     |true=>exact hjL (h.effs j hj hje)
     |false=>exact(gP hje hjl (hE.pj hjl)).2 u hd hu
    .rcases hE.anti i j hil hjl (λe=>hji e.symm) u hd hu with h1|⟨h1,_⟩
     .exact hjL (hbefL j h1)
     .exact hjL (h.effs j hj h1)).symm
   by_cases O':i∈done
   .have hie:cX l Yo i=false:=by
     cases hie:cX l Yo i with
     |false=>rfl
     |true=>exact absurd (h.effs i O' hie) hiL
    obtain⟨hk,_⟩:=gP hie hil (hE.pj hil);have hq:=h.lag i O' hiL;obtain⟨v,hv,hvd⟩:∃v,QY P (bj l i) x.s x.U v/\∀d,(bj l i).dst=some d->x.s d=v:=by
     unfold QYd at hq;cases hd:(bj l i).dst with
     |none=>rw[hd]at hq;obtain⟨v,hq⟩:=hq;exact⟨v,hq,by simp⟩
     |some d=>rw[hd]at hq;exact⟨_,hq,λd' e=>by cases e;rfl⟩
    refine .inl ((bY (by simp[fg,hk])).2 ⟨v,?_,?_⟩)
    .rw[h.store];exact Bm huses hv
    .refine ih (i::L) _ done rest x (by simp only[ZK];omega) ⟨h.split,λj hj=>?_,List.nodup_cons.2 ⟨hiL,h.nodup⟩,λm hm d hd=>?_,λj hj hje=>by simp[h.effs j hj hje],h.store,λd hd=>?_,λj hj hjL=>h.lag j hj (λhm=>hjL (by simp[hm])),h.go⟩
     .rcases cg.1 hj with rfl|hj
      .exact O'
      .exact h.sub j hj
     .rcases cg.1 hm with rfl|hm
      .simp[hdep d hd]
      .simp[h.closed m hm d hd]
     .simp only;by_cases hdi:(bj l i).dst=some d
      .rw[hdi];simp only[aO];rw[ar trivial];exact(hvd d hdi).symm
      .have h1:=h.slot d λj hj hjL=>by
        by_cases hji:j=i
        .rw[hji];exact hdi
        .exact hd j hj (by simp[hji,hjL])
       rw[<-h1];cases hde:(bj l i).dst with
       |none=>rfl
       |some d'=>
        rw[hde]at hdi;simp only[aO];rw[av (λe'=>hdi (by rw[e']))]
   .have hir:i∈rest:=by
     have:=hE.mem i hil;rw[h.split]at this;exact(dc.1 this).resolve_left O'
    obtain⟨hd0,rr,rfl⟩:∃a r,rest=a::r:=by
     cases rest with
     |nil=>cases hir
     |cons a r=>exact⟨a,r,rfl⟩
    have heff:=hhead hd0 rr rfl;have hh0:hd0∉done:=λhm=>(List.nodup_append.1 hnd).2.2 hd0 hm hd0 (by simp) rfl;have hih:i=hd0:=by
     rcases cg.1 hir with e|hir
     .exact e
     .exfalso;have:=hE.effs (done++[hd0]) rr hd0 i (by rw[h.split];simp) (by simp) hir heff;exact hh0 (h.sub _ (hbefL _ this))
    subst hih;have hgo:=h.go;rw[dI,FQ hil]at hgo;refine C9 huses h.store.symm (λr Z' hK=>?_) hgo;rw[G9,ar heff]at hK;obtain⟨hck,hgo'⟩:=uT (λk=>!(cX l Yo k)&&(!(lh (bj l k).op)&&!((ep Yo i).contains k))) (λj hj=>hE.lt j (by rw[h.split];simp[hj])) hK;refine ih (i::L) _ (done++[i]) rr ⟨aO x.s (bj l i).dst r,Z'⟩ (by simp only[ZK];omega) ⟨by rw[h.split];simp,λj hj=>?_,List.nodup_cons.2 ⟨hiL,h.nodup⟩,λm hm d hd=>?_,λj hj hje=>?_,rfl,λd hd=>?_,λj hj hjL=>?_,hgo'⟩
    .rcases cg.1 hj with rfl|hj
     .simp
     .simp[h.sub j hj]
    .rcases cg.1 hm with rfl|hm
     .simp[hdep d hd]
     .simp[h.closed m hm d hd]
    .rcases dc.1 hj with hj|hj
     .simp[h.effs j hj hje]
     .simp only[er]at hj;simp[hj]
    .have h1:(bj l i).dst=some d\/y.s d=x.s d:=by
      by_cases hdi:(bj l i).dst=some d
      .exact .inl hdi
      .exact .inr (h.slot d λj hj hjL=>hd j (by simp[hj]) (by
        simp only[cg,not_or];exact⟨λe=>O' (e▸hj),hjL⟩))
     simp only;cases hde:(bj l i).dst with
     |none=>rw[hde]at h1;exact h1.resolve_left (by simp)
     |some d'=>
      simp only[aO];split
      .rfl
      .rename_i YA;rw[hde]at h1;exact h1.resolve_left (λe=>YA (by cases e;rfl))
    .have hjd:j∈done:=by
      rcases dc.1 hj with hj|hj
      .exact hj
      .simp only[er]at hj;exact absurd (by simp[hj]) hjL
     have hjL':j∉L:=λhm=>hjL (by simp[hm]);have hjl:j<l.length:=hE.lt j (by rw[h.split];simp[hjd]);have hji:j≠i:=λe=>O' (e▸hjd);have hje:cX l Yo j=false:=by
      cases hje:cX l Yo j with
      |false=>rfl
      |true=>exact absurd (h.effs j hjd hje) hjL'
     cases hsf:lh (bj l j).op with
     |true=>
      refine uH hE.toEOkW hjl hil hji (λd hd hu=>?_) (λv hv=>kH hsf hv) (h.lag j hjd hjL');rcases hE.anti j i hjl hil hji d hd hu with h1|⟨_,h1⟩
      .obtain⟨a,b,hab⟩:=List.append_of_mem hjd;have h2:=hE.nV (a:=a) (j:=j) (b:=b++i::rr) (by rw[h.split,hab];simp) i h1;exact O' (by rw[hab];simp[h2])
      .exact hjL' (hbefL j h1)
     |false=>
      refine hck j hjd ?_;simp only[hje,hsf,Bool.not_false,Bool.true_and,Bool.not_eq_true'];cases hc:(ep Yo i).contains j with
      |false=>rfl
      |true=>exact absurd (hbefL j (List.contains_iff_mem.1 hc)) hjL'
  cases hr:dz Yi L with
  |cons a r=>unfold iP;rw[hr]at key|-;exact key
  |nil=>
   exfalso;have:∃i,i∈ord/\i∉L:=by
    by_cases hx:∃i,i∈ord/\i∉L
    .exact hx
    .exfalso;have G':∀i∈ord,i∈L:=λi hi=>Classical.byContradiction λhn=>hx ⟨i,hi,hn⟩;have h1:=hE.nodup.length_le_of_subset G';have:=hE.len;omega
   obtain⟨i,hi,hiL⟩:=this;have first:∀(a b:List Nat),ord=a++b->(∀j∈a,j∈L)->(∃i∈b,i∉L)->∃a' e b',ord=a'++e::b'/\(∀j∈a',j∈L)/\e∉L:=by
    intro a b
    induction b generalizing a with
    |nil=>rintro _ _ ⟨i,h,_⟩;cases h
    |cons e b ihb=>
     intro he ha hx;by_cases heL:e∈L
     .refine ihb (a++[e]) (by rw[he];simp) (λj hj=>?_) ?_
      .rcases dc.1 hj with hj|hj
       .exact ha j hj
       .simp only[er]at hj;rw[hj];exact heL
      .obtain⟨i,hi,hiL⟩:=hx;rcases cg.1 hi with rfl|hi
       .exact absurd heL hiL
       .exact⟨i,hi,hiL⟩
     .exact⟨a,e,b,he,ha,heL⟩
   obtain⟨a,e,b,he,ha,heL⟩:=first [] ord rfl (by simp) ⟨i,hi,hiL⟩
   have hel:e<l.length:=hE.lt e (by rw[he];simp);have:e∈dz Yi L:=by
    unfold dz;refine rR.2 ⟨by simp[hE.dlen,hel],?_⟩;simp only[Ba,Bool.not_eq_true',dX];refine⟨by simpa using heL,λd hd=>?_⟩;simpa using ha d (hE.ahead a e b he d hd)
   rw[hr]at this;cases this
end
def ab.uA(hm:P.follows .mixedOrders=true){l:List az}{Yi:List (List Nat)}(ord:List Nat)(Yo:List (List Nat))(its:List Nat)(hB:eOk l Yi Yo ord=true)(hi:dI l Yo [] ord=its)
 (h:RE P l (λx=>ab P n k x Q) its st):ab P n (.code (.regA l Yi)::k) st Q:=by
 have hE:=Cy hB;refine ab.Oh hm (qK hE l.length [] st [] ord st (by simp) ⟨rfl,by simp,List.nodup_nil,by simp,by simp,rfl,λ_ _=>rfl,by simp,by rw[hi];exact h⟩)
def RE.Zy{l:List az}{K:St->Prop}(rest:List Nat):∀(idx:List Nat) (sg:List az) {x:St},(idx.map λm=>l[m/2]?)=sg.map some->(idx.all λm=>m%2==0)=true->
 Go P n (.d sg [.stop (RE P l K rest)]) x (λ_=>False)->RE P l K (idx++rest) x
 |[],[],_,_,_,h=>h
 |[],_::_,_,h,_,_=>by simp at h
 |_::_,[],_,h,_,_=>by simp at h
 |m::idx,i::sg,x,h,hev,hg=>by
  simp only[dS,List.cons.injEq]at h;simp only[iV,Ba,beq_iff_eq]at hev;show RE P l K (m::(idx++rest)) x;rw[RE,h.1];simp only[ar hev.1];exact .inl (T.mono (λx' YD=>RE.Zy rest idx sg h.2 (by simpa using hev.2) YD) hg)
def RE.call{l:List az}{K:St->Prop}{m:Nat}{rest:List Nat}{x:St}{i:az}(hi:l[m/2]?=some i)(hm:m%2=0){fx:VX}{xs:List VX}(hw:aQ x.s i.g=some true)(ho:i.op=.call fx xs){f:FuncId}{caps:List V}(hf:fx.ev x.s=.fn f caps)
 {Post:V->af->Prop}(hc:au P f (xs.map (·.ev x.s)++caps) x.U Post)(h:∀r Z',Post r Z'->RE P l K rest ⟨aO x.s i.dst r,Z'⟩):RE P l K (m::rest) x:=by
 rw[RE,hi];simp only[ar hm];exact .inr ⟨hw,by rw[ho];exact⟨f,caps,Post,hf,hc,h⟩⟩
def RE.ay{l:List az}{K:St->Prop}{m:Nat}{rest:List Nat}{x:St}{i:az}(hi:l[m/2]?=some i)(hm:m%2=0){fx:VX}{xs:List VX}(hw:aQ x.s i.g=some true)(ho:i.op=.call fx xs){f:FuncId}{caps:List V}(hf:fx.ev x.s=.fn f caps)
 {v:V}(hc:au P f (xs.map (·.ev x.s)++caps) x.U λr Z'=>r=v/\Z'=x.U)(h:RE P l K rest ⟨aO x.s i.dst v,x.U⟩):RE P l K (m::rest) x:=
 RE.call hi hm hw ho hf hc λr Z' ⟨h1,h2⟩=>by subst h1;subst h2;exact h
def RE.chk{l:List az}{K:St->Prop}{m:Nat}{rest:List Nat}{x:St}{i:az}(hi:l[m/2]?=some i)(hm:m%2=1){d:Nat}(hd:i.dst=some d)(hw:aQ x.s i.g=some true)(hk:aX i.op=0)(hp:ez x.s i.op)
 (hv:aE x.U x.s i.op=some (x.s d))(h:RE P l K rest x):RE P l K (m::rest) x:=by
 rw[RE,hi];simp only[hm,Nat.one_ne_zero,if_false];refine⟨?_,h⟩;unfold QYd;rw[hd];refine .inl ⟨hw,?_⟩;unfold QO;simp only[hk];exact⟨hp,hv⟩
variable {P:Program} {n:Nat} {st:St} {Q:St->Prop} {k:List It}
def pC(D:List (List Nat))(S:List Nat)(s:Nat):List (List Nat):=(List.range D.length).map λi=>if S.contains i&&!(i==s)then s::D.getD i []else D.getD i []
def DA{D:List (List Nat)}{S:List Nat}{s:Nat}:(pC D S s).length=D.length:=by simp[pC]
def Cw{D:List (List Nat)}{S:List Nat}{s i:Nat}:(pC D S s).getD i []=if i<D.length/\i∈S/\i≠s then s::D.getD i []else D.getD i []:=by
 unfold pC;rw[sC,qJ];by_cases hi:i<D.length
 .rw[List.getElem?_range hi];by_cases hs:i∈S
  .by_cases he:i=s
   .simp[he]
   .simp[hi,hs,he]
  .simp[hs]
 .have h1:(List.range D.length)[i]?=none:=rO (by simpa using hi);rw[h1,av (λh=>hi h.1)];simp[rO (show D.length<=i by omega)]
def C3{D:List (List Nat)}{S:List Nat}{s i:Nat}(h:i∉S\/i=s):(pC D S s).getD i []=D.getD i []:=by
 rw[Cw,av];rintro⟨_,h1,h2⟩;exact h.elim (λh=>h h1) h2
def tH{D:List (List Nat)}{S:List Nat}{s:Nat}{L:List Nat}(hp:s∈L):dz (pC D S s) L=dz D L:=by
 unfold dz;rw[DA];refine List.filter_congr λi hi=>?_;rw[Cw];split
 .simp[hp]
 .rfl
def xe{l:List az}{D:List (List Nat)}{S:List Nat}{s:Nat}{K:St->Prop}:∀(f:Nat) (L:List Nat) (y:St),s∈L->iP P l (pC D S s) K f L y->iP P l D K f L y
 |0,L,y,hp,h=>⟨by rw[<-tH hp];exact h.1,h.2⟩
 |f+1,L,y,hp,h=>by
  unfold iP at h|-;rw[tH hp]at h;cases hr:dz D L with
  |nil=>rw[hr]at h;exact h
  |cons a r=>
   rw[hr]at h;refine rh λi hi=>?_;obtain⟨ins,h1,h2⟩:=oV h i hi;exact⟨ins,h1,TC.mono (λx hx=>xe f _ x (by simp[hp]) hx) h2⟩
def yG{l:List az}{K:St->Prop}{b:List Nat}:∀{a:List Nat},RE P l K (a++b)=RE P l (RE P l K b) a
 |[]=>rfl
 |m::a=>by
  funext x;rw[List.cons_append,RE,RE,yG]
def pP{l:List az}{Yo:List (List Nat)}{b:List Nat}:∀{a done:List Nat},dI l Yo done (a++b)=dI l Yo done a++dI l Yo (done++a) b
 |[],done=>by simp[dI]
 |e::a,done=>by
  rw[List.cons_append,dI,dI,pP];simp
def RE.mono{l:List az}{K K':St->Prop}(hk:∀x,K x->K' x):∀{a:List Nat} {x:St},RE P l K a x->RE P l K' a x
 |[],x,h=>hk x h
 |m::a,x,h=>by
  rw[RE]at h|-;cases hm:l[m/2]? with
  |none=>rw[hm]at h;exact h.elim
  |some i=>
   rw[hm]at h;simp only at h|-;split at h<;>rename_i he
   .rw[ar he];exact TC.mono (λx hx=>RE.mono hk hx) h
   .rw[av he];exact⟨h.1,RE.mono hk h.2⟩
structure FN(l:List az)(D Yo:List (List Nat))(pre tail S:List Nat)(befs:Nat->List (List Nat)):Prop where
 e:EOkW l D Yo (pre++tail)
 effs:∀a b x y,pre++tail=a++b->x∈a->y∈b->x∈pre->cX l Yo x=true->x∈ep Yo y
 sub:∀s∈S,s∈tail
 some:∃s,s∈S
 later:∀i∈tail,i∉S->∃s∈S,s∈ep Yo i
 agree:∀s∈S,∀i∈pre,cX l (befs s) i=cX l Yo i
section
variable {l:List az} {D Yo:List (List Nat)} {pre tail S:List Nat} {befs:Nat->List (List Nat)} {K:St->Prop} {Ks:Nat->St->Prop} (hF:FN l D Yo pre tail S befs)
include hF
def kx.TL{L:List Nat}{y:St}:∀{rest done:List Nat} {x:St},kx P l D Yo pre K L y done rest x->
 ∃done' rest' x',kx P l D Yo pre K L y done' rest' x'/\∀h r,rest'=h::r->cX l Yo h=true
 |[],done,x,h=>⟨done,[],x,h,by simp⟩
 |e::rest,done,x,h=>by
  have hE:=hF.e;cases heff:cX l Yo e with
  |true=>exact⟨done,e::rest,x,h,λa r he=>by cases he;exact heff⟩
  |false=>
   have hel:e<l.length:=hE.lt e (by rw[h.split];simp);obtain⟨hk,hself⟩:=gP heff hel (hE.pj hel);have hnd:=(List.nodup_append.1 hE.nodup).1;rw[h.split]at hnd;have hed:e∉done:=λhm=>(List.nodup_append.1 hnd).2.2 e hm e (by simp) rfl;have heL:e∉L:=λhm=>hed (h.sub e hm);have hgo:=h.go;rw[dI,FQ hel,G9,av (by simp[heff]),kA]at hgo;have hT:T P (bj l e) x (RE P l K (dI l Yo (done++[e]) rest)):=by
    rcases hgo with hgo|⟨_,hgo⟩
    .exact hgo
    .exfalso;revert hgo hk;generalize (bj l e).op=op;intro hk hgo;split at hgo
     .simp[aX]at hk
     .exact hgo
   obtain⟨v,hv,hgo'⟩:=(bY (by simp[fg,hk])).1 hT;refine kx.TL (rest:=rest) (done:=done++[e]) (x:=⟨aO x.s (bj l e).dst v,x.U⟩) ⟨by rw[h.split];simp,λi hi=>by simp[h.sub i hi],h.nodup,h.closed,λi hi hie=>?_,h.store,λd hd=>?_,λi hi hiL=>?_,hgo'⟩
   .rcases dc.1 hi with hi|hi
    .exact h.effs i hi hie
    .simp only[er]at hi;rw[hi,heff]at hie;cases hie
   .have h1:=h.slot d λi hi hiL=>hd i (by simp[hi]) hiL;have h2:=hd e (by simp) heL;rw[h1];simp only;cases hde:(bj l e).dst with
    |none=>rfl
    |some d'=>
     rw[hde]at h2;simp only[aO];rw[av (λe'=>h2 (by rw[e']))]
   .by_cases hie:i=e
    .subst hie;unfold QYd;cases hd:(bj l i).dst with
     |none=>exact⟨v,hv⟩
     |some d=>
      simp only;have e1:aO x.s (some d) v d=v:=by simp[aO]
      rw[e1];exact(fO (λt ht=>by cases ht;exact hself d hd)).2 hv
    .have O':i∈done:=by
      rcases dc.1 hi with hi|hi
      .exact hi
      .simp only[er]at hi;exact absurd hi hie
     have hil:i<l.length:=hE.lt i (by rw[h.split];simp[O']);refine uH hE hil hel hie (λd hd hu=>?_) (λv hv=>hv) (h.lag i O' hiL);rcases hE.anti i e hil hel hie d hd hu with h1|⟨h1,_⟩
     .obtain⟨a,b,hab⟩:=List.append_of_mem O';have h2:=hE.nV (a:=a) (j:=i) (b:=b++e::rest++tail) (by rw[h.split,hab];simp) e h1;exact hed (by rw[hab];simp[h2])
     .rw[heff]at h1;cases h1
def EP(hH:∀s∈S,∀(f:Nat) (L:List Nat) (y:St) (done rest:List Nat) (x:St),f+L.length=l.length->kx P l (pC D S s) (befs s) pre (Ks s) L y done rest x->iP P l (pC D S s) K f L y):
 ∀(f:Nat) (L:List Nat) (y:St) (done rest:List Nat) (x:St),f+L.length=l.length->(∀s∈S,s∉L)->kx P l D Yo pre (λx=>∀s∈S,Ks s x) L y done rest x->iP P l D K f L y:=by
 have hE:=hF.e;obtain⟨s0,YL⟩:=hF.some;have H':∀s∈S,s<l.length:=λs hs=>hE.lt s (by simp[hF.sub s hs]);have hpre:∀s∈S,s∉pre:=λs hs hm=>(List.nodup_append.1 hE.nodup).2.2 s hm s (hF.sub s hs) rfl;intro f
 induction f with
 |zero=>
  intro L y done rest x hf hSL h;exact absurd ((wc l.length L h.nodup λi hi=>hE.lt i (by rw[h.split];simp[h.sub i hi])).2 (by omega) s0 (H' s0 YL)) (hSL s0 YL)
 |succ f ih=>
  intro L y done rest x hf hSL h;obtain⟨done,rest,x,h,hhead⟩:=kx.TL hF h;have hnd:=(List.nodup_append.1 hE.nodup).1;rw[h.split]at hnd;have hdp:∀i∈done,i∈pre:=λi hi=>by rw[h.split];simp[hi]
  have YZ:∀m∈L,∀d∈D.getD m [],d∈L:=h.closed;have hclS:∀s,∀m∈L,∀d∈(pC D S s).getD m [],d∈L:=λs m hm d hd=>by
   rw[C3 (.inl λhs=>hSL m hs hm)]at hd;exact h.closed m hm d hd
  have take:rest=[]->∀s∈S,iP P l (pC D S s) K (f+1) L y:=λhr s hs=>by
   subst hr;have hdp':pre=done:=by rw[h.split];simp
   refine hH s hs (f+1) L y done [] x hf ⟨by rw[hdp'];simp,h.sub,h.nodup,hclS s,λi hi hie=>h.effs i hi (by rw[<-hF.agree s hs i (hdp i hi)];exact hie),h.store,h.slot,h.lag,?_⟩;exact h.go s hs
  have key:vU P l (iP P l D K f) L y (dz D L):=by
   refine rh λi hi=>?_;have hi0:=hi;obtain⟨hil,hiL,hdep⟩:=wJ hi;rw[hE.dlen]at hil;by_cases hiS:i∈S
   .have hm:i∈dz (pC D S i) L:=by
     unfold dz;refine rR.2 ⟨by rw[DA,hE.dlen];simpa using hil,?_⟩;rw[C3 (.inr rfl)];exact(rR.1 hi).2
    have hrest:rest=[]:=by
     cases hrr:rest with
     |nil=>rfl
     |cons a rr=>
      exfalso;have ha:=hhead a rr hrr;have hapre:a∈pre:=by rw[h.split,hrr];simp
      have hb:a∈ep Yo i:=hF.effs pre tail a i rfl hapre (hF.sub i hiS) hapre ha;obtain⟨pa,pb,hpe⟩:=List.append_of_mem (hE.mem i hil);have haL:a∈L:=hE.closed YZ hE.mem (pa.length+1) pa i pb (by omega) hpe (λd hd=>hdep d hd) a hb;rw[hrr]at hnd;exact(List.nodup_append.1 hnd).2.2 a (h.sub a haL) a (by simp) rfl
    have h1:=take hrest i hiS;unfold iP at h1;cases hr:dz (pC D S i) L with
    |nil=>rw[hr]at hm;cases hm
    |cons a r=>
     rw[hr]at h1 hm;obtain⟨ins,g1,g2⟩:=oV h1 i hm;exact⟨ins,g1,TC.mono (λx hx=>xe f _ x (by simp) hx) g2⟩
   refine⟨bj l i,by simp[bj,Zq6 hil],?_⟩;obtain⟨pa,pb,hpe⟩:=List.append_of_mem (hE.mem i hil);have hbefL:∀j∈ep Yo i,j∈L:=hE.closed YZ hE.mem (pa.length+1) pa i pb (by omega) hpe hdep;have huses:∀u∈(bj l i).lR,x.s u=y.s u:=λu hu=>(h.slot u λj hj hjL hd=>by
    have hjl:j<l.length:=hE.lt j (by simp[hdp j hj]);by_cases hji:j=i
    .subst hji;cases hje:cX l Yo j with
     |true=>exact hjL (h.effs j hj hje)
     |false=>exact(gP hje hjl (hE.pj hjl)).2 u hd hu
    .rcases hE.anti i j hil hjl (λe=>hji e.symm) u hd hu with h1|⟨h1,_⟩
     .exact hjL (hbefL j h1)
     .exact hjL (h.effs j hj h1)).symm
   by_cases O':i∈done
   .have hie:cX l Yo i=false:=by
     cases hie:cX l Yo i with
     |false=>rfl
     |true=>exact absurd (h.effs i O' hie) hiL
    obtain⟨hk,_⟩:=gP hie hil (hE.pj hil);have hq:=h.lag i O' hiL;obtain⟨v,hv,hvd⟩:∃v,QY P (bj l i) x.s x.U v/\∀d,(bj l i).dst=some d->x.s d=v:=by
     unfold QYd at hq;cases hd:(bj l i).dst with
     |none=>rw[hd]at hq;obtain⟨v,hq⟩:=hq;exact⟨v,hq,by simp⟩
     |some d=>rw[hd]at hq;exact⟨_,hq,λd' e=>by cases e;rfl⟩
    refine .inl ((bY (by simp[fg,hk])).2 ⟨v,?_,?_⟩)
    .rw[h.store];exact Bm huses hv
    .refine ih (i::L) _ done rest x (by simp only[ZK];omega) (λs hs hm=>(cg.1 hm).elim (λe=>hiS (e▸hs)) (hSL s hs)) ⟨h.split,λj hj=>?_,List.nodup_cons.2 ⟨hiL,h.nodup⟩,λm hm d hd=>?_,λj hj hje=>by simp[h.effs j hj hje],h.store,λd hd=>?_,λj hj hjL=>h.lag j hj (λhm=>hjL (by simp[hm])),h.go⟩
     .rcases cg.1 hj with rfl|hj
      .exact O'
      .exact h.sub j hj
     .rcases cg.1 hm with rfl|hm
      .simp[hdep d hd]
      .simp[h.closed m hm d hd]
     .simp only;by_cases hdi:(bj l i).dst=some d
      .rw[hdi];simp only[aO];rw[ar trivial];exact(hvd d hdi).symm
      .have h1:=h.slot d λj hj hjL=>by
        by_cases hji:j=i
        .rw[hji];exact hdi
        .exact hd j hj (by simp[hji,hjL])
       rw[<-h1];cases hde:(bj l i).dst with
       |none=>rfl
       |some d'=>
        rw[hde]at hdi;simp only[aO];rw[av (λe'=>hdi (by rw[e']))]
   .have hir:i∈rest++tail:=by
     have:=hE.mem i hil;rw[h.split,lz]at this;exact(dc.1 this).resolve_left O'
    obtain⟨hd0,rr,rfl⟩:∃a r,rest=a::r:=by
     cases rest with
     |nil=>
      exfalso;rw[kA]at hir;obtain⟨s,hs,hsb⟩:=hF.later i hir hiS;exact hSL s hs (hbefL _ hsb)
     |cons a r=>exact⟨a,r,rfl⟩
    have heff:=hhead hd0 rr rfl;have hh0:hd0∉done:=λhm=>(List.nodup_append.1 hnd).2.2 hd0 hm hd0 (by simp) rfl;have hih:i=hd0:=by
     rcases cg.1 (show i∈hd0::(rr++tail)from hir)with e|hir
     .exact e
     .exfalso;have:=hF.effs (done++[hd0]) (rr++tail) hd0 i (by rw[h.split];simp) (by simp) hir (by rw[h.split];simp) heff;exact hh0 (h.sub _ (hbefL _ this))
    subst hih;have hgo:=h.go;rw[show dI l Yo done (i::rr)=2*i::(G9 l Yo done i++dI l Yo (done++[i]) rr)from rfl,FQ hil]at hgo;refine C9 huses h.store.symm (λr Z' hK=>?_) hgo;rw[G9,ar heff]at hK;obtain⟨hck,hgo'⟩:=uT (λk=>!(cX l Yo k)&&(!(lh (bj l k).op)&&!((ep Yo i).contains k))) (λj hj=>hE.lt j (by simp[hdp j hj])) hK;refine ih (i::L) _ (done++[i]) rr ⟨aO x.s (bj l i).dst r,Z'⟩ (by simp only[ZK];omega) (λs hs hm=>(cg.1 hm).elim (λe=>hiS (e▸hs)) (hSL s hs)) ⟨by rw[h.split];simp,λj hj=>?_,List.nodup_cons.2 ⟨hiL,h.nodup⟩,λm hm d hd=>?_,λj hj hje=>?_,rfl,λd hd=>?_,λj hj hjL=>?_,hgo'⟩
    .rcases cg.1 hj with rfl|hj
     .simp
     .simp[h.sub j hj]
    .rcases cg.1 hm with rfl|hm
     .simp[hdep d hd]
     .simp[h.closed m hm d hd]
    .rcases dc.1 hj with hj|hj
     .simp[h.effs j hj hje]
     .simp only[er]at hj;simp[hj]
    .have h1:(bj l i).dst=some d\/y.s d=x.s d:=by
      by_cases hdi:(bj l i).dst=some d
      .exact .inl hdi
      .exact .inr (h.slot d λj hj hjL=>hd j (by simp[hj]) (by
        simp only[cg,not_or];exact⟨λe=>O' (e▸hj),hjL⟩))
     simp only;cases hde:(bj l i).dst with
     |none=>rw[hde]at h1;exact h1.resolve_left (by simp)
     |some d'=>
      simp only[aO];split
      .rfl
      .rename_i YA;rw[hde]at h1;exact h1.resolve_left (λe=>YA (by cases e;rfl))
    .have hjd:j∈done:=by
      rcases dc.1 hj with hj|hj
      .exact hj
      .simp only[er]at hj;exact absurd (by simp[hj]) hjL
     have hjL':j∉L:=λhm=>hjL (by simp[hm]);have hjl:j<l.length:=hE.lt j (by simp[hdp j hjd]);have hji:j≠i:=λe=>O' (e▸hjd);have hje:cX l Yo j=false:=by
      cases hje:cX l Yo j with
      |false=>rfl
      |true=>exact absurd (h.effs j hjd hje) hjL'
     cases hsf:lh (bj l j).op with
     |true=>
      refine uH hE hjl hil hji (λd hd hu=>?_) (λv hv=>kH hsf hv) (h.lag j hjd hjL');rcases hE.anti j i hjl hil hji d hd hu with h1|⟨_,h1⟩
      .obtain⟨a,b,hab⟩:=List.append_of_mem hjd;have h2:=hE.nV (a:=a) (j:=j) (b:=b++i::rr++tail) (by rw[h.split,hab];simp) i h1;exact O' (by rw[hab];simp[h2])
      .exact hjL' (hbefL j h1)
     |false=>
      refine hck j hjd ?_;simp only[hje,hsf,Bool.not_false,Bool.true_and,Bool.not_eq_true'];cases hc:(ep Yo i).contains j with
      |false=>rfl
      |true=>exact absurd (hbefL j (List.contains_iff_mem.1 hc)) hjL'
  cases hr:dz D L with
  |cons a r=>unfold iP;rw[hr]at key|-;exact key
  |nil=>
   exfalso;have first:∀(a b:List Nat),pre++tail=a++b->(∀j∈a,j∈L)->(∃i∈b,i∉L)->∃a' e b',pre++tail=a'++e::b'/\(∀j∈a',j∈L)/\e∉L:=by
    intro a b
    induction b generalizing a with
    |nil=>rintro _ _ ⟨i,h,_⟩;cases h
    |cons e b ihb=>
     intro he ha hx;by_cases heL:e∈L
     .refine ihb (a++[e]) (by rw[he];simp) (λj hj=>?_) ?_
      .rcases dc.1 hj with hj|hj
       .exact ha j hj
       .simp only[er]at hj;rw[hj];exact heL
      .obtain⟨i,hi,hiL⟩:=hx;rcases cg.1 hi with rfl|hi
       .exact absurd heL hiL
       .exact⟨i,hi,hiL⟩
     .exact⟨a,e,b,he,ha,heL⟩
   obtain⟨a,e,b,he,ha,heL⟩:=first [] (pre++tail) rfl (by simp) ⟨s0,by simp[hF.sub s0 YL],hSL s0 YL⟩
   have hel:e<l.length:=hE.lt e (by rw[he];simp);have:e∈dz D L:=by
    unfold dz;refine rR.2 ⟨by simp[hE.dlen,hel],?_⟩;simp only[Ba,Bool.not_eq_true',dX];exact⟨by simpa using heL,λd hd=>List.contains_iff_mem.2 (ha d (hE.ahead a e b he d hd))⟩
   rw[hr]at this;cases this
end
inductive PT where
 |leaf (Yo:List (List Nat)) (r:List Nat)
 |fork (Yo:List (List Nat)) (m:List Nat) (S:List Nat) (kids:List PT)
def PT.Yo:PT->List (List Nat)
 |.leaf b _=>b
 |.fork b _ _ _=>b
def PT.ord:Nat->PT->List Nat
 |0,_=>[]
 |f+1,t=>match t with
  |.leaf _ r=>r
  |.fork _ m _ kids=>m++(match kids with
   |k::_=>PT.ord f k
   |[]=>[])
def Ga(g:Nat->PT->Bool):List Nat->List PT->Bool
 |[],[]=>true
 |s::ss,t::ts=>g s t&&Ga g ss ts
 |_,_=>false
def wh{g:Nat->PT->Bool}:∀{S:List Nat} {ts:List PT},Ga g S ts=true->∀s∈S,∃t∈ts,g s t=true
 |[],[],_,s,hs=>by cases hs
 |a::S,t::ts,h,s,hs=>by
  simp only[Ga,Ba]at h;rcases cg.1 hs with rfl|hs
  .exact⟨t,by simp,h.1⟩
  .obtain⟨t',h1,h2⟩:=wh h.2 s hs;exact⟨t',by simp[h1],h2⟩
def OD(l:List az)(D Yo:List (List Nat))(pre tail S:List Nat):Bool:=
 NT l D Yo (pre++tail)&&(nU (λa b=>!(pre.contains a)||(!(cX l Yo a)||(ep Yo b).contains a)) (pre++tail)&&
 (S.all tail.contains&&(!S.isEmpty&&tail.all λi=>S.contains i||S.any λs=>(ep Yo i).contains s)))
def ES(l:List az):Nat->List (List Nat)->List Nat->PT->Bool
 |0,_,_,_=>false
 |f+1,D,pre,t=>match t with
  |.leaf Yo r=>eOk l D Yo (pre++r)
  |.fork Yo m S kids=>OD l D Yo (pre++m) (match kids with
    |k::_=>PT.ord f k
    |[]=>[]) S&&Ga (λs k=>((pre++m).all λi=>cX l k.Yo i==cX l Yo i)&&ES l f (pC D S s) (pre++m) k) S kids
def GT(P:Program)(l:List az)(K:St->Prop):Nat->List Nat->PT->St->Prop
 |0,_,_,_=>False
 |f+1,pre,t,x=>match t with
  |.leaf Yo r=>RE P l K (dI l Yo pre r) x
  |.fork Yo m _ kids=>RE P l (λx=>∀k∈kids,GT P l K f (pre++m) k x) (dI l Yo pre m) x
def kx.more{l:List az}{D Yo:List (List Nat)}{pre m:List Nat}{K:St->Prop}{L:List Nat}{y:St}{done rest:List Nat}{x:St}(h:kx P l D Yo pre (RE P l K (dI l Yo pre m)) L y done rest x):
 kx P l D Yo (pre++m) K L y done (rest++m) x:=by
 refine⟨by rw[h.split];simp,h.sub,h.nodup,h.closed,h.effs,h.store,h.slot,h.lag,?_⟩;rw[pP,yG,<-h.split];exact h.go
def kx.mono{l:List az}{D Yo:List (List Nat)}{pre:List Nat}{K K':St->Prop}(hk:∀x,K x->K' x){L:List Nat}{y:St}{done rest:List Nat}{x:St}(h:kx P l D Yo pre K L y done rest x):
 kx P l D Yo pre K' L y done rest x:=⟨h.split,h.sub,h.nodup,h.closed,h.effs,h.store,h.slot,h.lag,RE.mono hk h.go⟩
def FT{l:List az}{K:St->Prop}:∀(fu:Nat) (D:List (List Nat)) (pre:List Nat) (t:PT),ES l fu D pre t=true->∀(f:Nat) (L:List Nat) (y:St) (done rest:List Nat) (x:St),f+L.length=l.length->
 (∀i∈L,i∈pre)->kx P l D t.Yo pre (GT P l K fu pre t) L y done rest x->iP P l D K f L y
 |0,_,_,_,h,_,_,_,_,_,_,_,_,_=>by cases h
 |fu+1,D,pre,t,h,f,L,y,done,rest,x,hf,hLp,hl=>by
  cases t with
  |leaf Yo r=>exact qK (Cy h) f L y done (rest++r) x hf (kx.more hl)
  |fork Yo m S kids=>
   simp only[ES,Ba]at h;obtain⟨h1,h2⟩:=h;generalize (match kids with
    |k::_=>PT.ord fu k
    |[]=>[])=tail at h1
   simp only[OD,Ba]at h1;obtain⟨g1,g2,g3,g4,g5⟩:=h1;have hk:=wh h2;have hW:=zi g1;have hF:∀kid:Nat->PT,(∀s∈S,((pre++m).all λi=>cX l (kid s).Yo i==cX l Yo i)=true)->FN l D Yo (pre++m) tail S (λs=>(kid s).Yo):=λkid hkid=>by
    refine⟨hW,λa b u v he hu hv hup hue=>?_,λs hs=>by simpa using dX.1 g3 s hs,?_,λi hi hiS=>?_,λs hs i hi=>by simpa using dX.1 (hkid s hs) i hi⟩
    .rw[he]at g2;have:=nP g2 hu hv;simp only[kS,Bool.not_eq_true',List.contains_iff_mem,hue,Bool.true_eq_false,false_or]at this;rcases this with h|h
     .have hc:(pre++m).contains u=true:=List.contains_iff_mem.2 hup;rw[hc]at h;cases h
     .exact h
    .cases S with
     |nil=>simp at g4
     |cons s S=>exact⟨s,by simp⟩
    .have:=dX.1 g5 i hi;simp only[kS,List.contains_iff_mem,Qu]at this;exact this.resolve_left hiS
   have hch:∀s,∃k:PT,s∈S->(k∈kids/\(((pre++m).all λi=>cX l k.Yo i==cX l Yo i)=true/\ES l fu (pC D S s) (pre++m) k=true)):=λs=>by
    by_cases hs:s∈S
    .obtain⟨k,h3,h4⟩:=hk s hs;simp only[Ba]at h4;exact⟨k,λ_=>⟨h3,h4⟩⟩
    .exact⟨.leaf [] [],λh=>absurd h hs⟩
   obtain⟨kid,hkid⟩:=Classical.axiomOfChoice hch;have hFN:=hF kid λs hs=>(hkid s hs).2.1;have hSpre:∀s∈S,s∉pre++m:=λs hs hm=>(List.nodup_append.1 hW.nodup).2.2 s hm s (hFN.sub s hs) rfl;refine EP (Ks:=λs=>GT P l K fu (pre++m) (kid s)) hFN (λs hs f L y done rest x hf hl=>?_) f L y done (rest++m) x hf (λs hs hm=>hSpre s hs (List.mem_append_left _ (hLp s hm))) ?_
   .refine FT fu _ _ _ (hkid s hs).2.2 f L y done rest x hf (λi hi=>?_) hl;have:=hl.sub i hi;rw[hl.split];simp[this]
   .exact kx.mono (λx hx s hs=>hx (kid s) (hkid s hs).1) (kx.more hl)
def ab.Et(hm:P.follows .mixedOrders=true){l:List az}{Yi:List (List Nat)}(fu:Nat)(t:PT)(hB:ES l fu Yi [] t=true)(h:GT P l (λx=>ab P n k x Q) fu [] t st):ab P n (.code (.regA l Yi)::k) st Q:=by
 refine ab.Oh hm (FT fu Yi [] t hB l.length [] st [] [] st (by simp) (by simp) ⟨rfl,by simp,List.nodup_nil,by simp,by simp,rfl,λ_ _=>rfl,by simp,?_⟩);exact h
def iN(g:V->V->Bool):List V->List V->Bool
 |[],[]=>true
 |v::vs,u::us=>@Bool.casesOn (λ_=>Bool) (g v u) false (iN g vs us)
 |_,_=>false
def qH:Nat->V->V->Bool
 |0,_,_=>false
 |f+1,v,u=>match v with
  |.int k n=>match u with
   |.int k' n'=>eqK k k'&&eqQ n n'
   |_=>false
  |.bool b=>match u with
   |.bool b'=>b==b'
   |_=>false
  |.str b=>match u with
   |.str b'=>decide (b=b')
   |_=>false
  |.aC=>match u with
   |.aC=>true
   |_=>false
  |.nilp=>match u with
   |.nilp=>true
   |_=>false
  |.own a b c=>match u with
   |.own a' b' c'=>Nat.beq a a'&&(Nat.beq b b'&&Nat.beq c c')
   |_=>false
  |.ptr a b c=>match u with
   |.ptr a' b' c'=>Nat.beq a a'&&(Nat.beq b b'&&Nat.beq c c')
   |_=>false
  |.sl sz rows=>match u with
   |.sl sz' X6=>Nat.beq sz sz'&&iN (qH f) rows X6
   |_=>false
  |.rp x=>match u with
   |.rp y=>qH f x y
   |_=>false
  |.fn g cs=>match u with
   |.fn g' ds=>decide (g=g')&&iN (qH f) cs ds
   |_=>false
  |.agg cs=>match u with
   |.agg ds=>iN (qH f) cs ds
   |_=>false
  |.P' cs=>match u with
   |.P' ds=>iN (qH f) cs ds
   |_=>false
  |.iface a x=>match u with
   |.iface b y=>Nat.beq a b&&qH f x y
   |_=>false
  |.Yt=>match u with
   |.Yt=>true
   |_=>false
  |.YS=>match u with
   |.YS=>true
   |_=>false
  |_=>false
def uZ{g:V->V->Bool}(hg:∀v u,g v u=true->v=u):∀{l m:List V},iN g l m=true->l=m
 |[],[],_=>rfl
 |v::vs,u::us,h=>by
  simp only[iN,bP]at h;split at h
  .rename_i hv;rw[hg v u hv,uZ hg h]
  .cases h
 |[],_::_,h=>by simp[iN]at h
 |_::_,[],h=>by simp[iN]at h
def mP:∀(f:Nat) (v u:V),qH f v u=true->v=u
 |0,_,_,h=>by simp[qH]at h
 |f+1,v,u,h=>by
  have hL:∀{l m:List V},iN (qH f) l m=true->l=m:=λh=>uZ (mP f) h;cases v<;>cases u<;>simp only[qH,eQ,Ba,Zq9,beq_iff_eq]at h<;>try rfl
  case int.int=>rw[FP h.2,of_decide_eq_true (p:=_=_) h.1]
  case bool.bool=>rw[h]
  case str.str=>rw[h]
  case own.own=>rw[gn h.1,gn h.2.1,gn h.2.2]
  case ptr.ptr=>rw[gn h.1,gn h.2.1,gn h.2.2]
  case sl.sl=>rw[gn h.1,hL h.2]
  case rp.rp=>rw[mP f _ _ h]
  case fn.fn=>rw[h.1,hL h.2]
  case agg.agg=>rw[hL h]
  case P'.P'=>rw[hL h]
  case iface.iface=>rw[gn h.1,mP f _ _ h.2]
section
variable {R:Nat->Nat->Prop}
mutual
/-- numbers stand for one number -/
def aq.fun(hf:∀c a a',R c a->R c a'->a=a'):∀(v u u':V),aq R v u->aq R v u'->u=u'
 |.own id off len,u,u',h,h'=>by simp only[aq]at h h';obtain⟨i,rfl,r⟩:=h;obtain⟨j,rfl,r'⟩:=h';rw[hf _ _ _ r r']
 |.ptr id i k,u,u',h,h'=>by simp only[aq]at h h';obtain⟨i,rfl,r⟩:=h;obtain⟨j,rfl,r'⟩:=h';rw[hf _ _ _ r r']
 |.sl sz rows,u,u',h,h'=>by simp only[aq]at h h';obtain⟨i,rfl,r⟩:=h;obtain⟨j,rfl,r'⟩:=h';rw[aD.fun hf _ _ _ r r']
 |.rp v,u,u',h,h'=>by simp only[aq]at h h';obtain⟨i,rfl,r⟩:=h;obtain⟨j,rfl,r'⟩:=h';rw[aq.fun hf _ _ _ r r']
 |.fn f caps,u,u',h,h'=>by simp only[aq]at h h';obtain⟨i,rfl,r⟩:=h;obtain⟨j,rfl,r'⟩:=h';rw[aD.fun hf _ _ _ r r']
 |.bm f caps,u,u',h,h'=>by simp only[aq]at h h';obtain⟨i,rfl,r⟩:=h;obtain⟨j,rfl,r'⟩:=h';rw[aD.fun hf _ _ _ r r']
 |.iface t v,u,u',h,h'=>by simp only[aq]at h h';obtain⟨i,rfl,r⟩:=h;obtain⟨j,rfl,r'⟩:=h';rw[aq.fun hf _ _ _ r r']
 |.agg c,u,u',h,h'=>by simp only[aq]at h h';obtain⟨i,rfl,r⟩:=h;obtain⟨j,rfl,r'⟩:=h';rw[aD.fun hf _ _ _ r r']
 |.P' c,u,u',h,h'=>by simp only[aq]at h h';obtain⟨i,rfl,r⟩:=h;obtain⟨j,rfl,r'⟩:=h';rw[aD.fun hf _ _ _ r r']
 |.undef,u,u',h,h'=>by simp only[aq]at h h';rw[h,h']
 |.int k n,u,u',h,h'=>by simp only[aq]at h h';rw[h,h']
 |.bool b,u,u',h,h'=>by simp only[aq]at h h';rw[h,h']
 |.str s,u,u',h,h'=>by simp only[aq]at h h';rw[h,h']
 |.aC,u,u',h,h'=>by simp only[aq]at h h';rw[h,h']
 |.nilp,u,u',h,h'=>by simp only[aq]at h h';rw[h,h']
 |.YS,u,u',h,h'=>by simp only[aq]at h h';rw[h,h']
 |.Yt,u,u',h,h'=>by simp only[aq]at h h';rw[h,h']
 |.raw v,u,u',h,h'=>by simp only[aq]at h h';rw[h,h']
 |.obj v,u,u',h,h'=>by simp only[aq]at h h';rw[h,h']
 |.gp v,u,u',h,h'=>by simp only[aq]at h h';rw[h,h']
 |.yl v,u,u',h,h'=>by simp only[aq]at h h';obtain⟨i,rfl,r⟩:=h;obtain⟨j,rfl,r'⟩:=h';rw[hf _ _ _ r r']
 |.mp v,u,u',h,h'=>by simp only[aq]at h h';rw[h,h']
def aD.fun(hf:∀c a a',R c a->R c a'->a=a'):∀(v u u':List V),aD R v u->aD R v u'->u=u'
 |[],u,u',h,h'=>by simp only[aD]at h h';rw[h,h']
 |v::vs,u,u',h,h'=>by
  simp only[aD]at h h';obtain⟨a,as1,rfl,r,rs⟩:=h;obtain⟨b,bs,rfl,r',rs'⟩:=h';rw[aq.fun hf _ _ _ r r',aD.fun hf _ _ _ rs rs']
end
end
def Tj(dst:Option Nat)(tbl:List (TypeId×FuncId))(rx:VX)(xs:List VX):BI:=⟨λcall fl cs=>match rx.ev cs.sf with
 |.iface t v=>match tbl.lookup t with
  |some f=>iL dst cs (call f (v::xs.map (·.ev cs.sf)) cs.U cs.Yu fl)
  |none=>none
 |_=>none⟩
def Iz(dst:Option Nat)(fx:VX)(xs:List VX):BI:=⟨λcall fl cs=>match fx.ev cs.sf with
 |.fn f caps=>iL dst cs (call f (xs.map (·.ev cs.sf)++caps) cs.U cs.Yu fl)
 |.bm f first=>iL dst cs (call f (first++xs.map (·.ev cs.sf)) cs.U cs.Yu fl)
 |_=>none⟩
def OC(dst:Option Nat)(neg:Bool)(x:VX):BI:=⟨λ_ _ cs=>match x.ev cs.sf with
 |.YS=>some (cs.put dst (.bool (true != neg)))
 |.fn _ _=>some (cs.put dst (.bool (false != neg)))
 |_=>none⟩
def FU(dst:Option Nat)(xa xv:VX):BI:=⟨λ_ _ cs=>match xa.ev cs.sf with
 |.rp _=>(match xv.ev cs.sf with
  |.agg []=>some (cs.put dst (.P' []))
  |_=>none)
 |_=>none⟩
def OI(dst:Option Nat)(neg:Bool)(x:VX):BI:=⟨λ_ _ cs=>match x.ev cs.sf with
 |.Yt=>some (cs.put dst (.bool (true != neg)))
 |.iface _ _=>some (cs.put dst (.bool (false != neg)))
 |_=>none⟩
def N0(dst:Option Nat)(x:VX):BI:=⟨λ_ _ cs=>match x.ev cs.sf with
 |.aC=>some (cs.put dst (.bool true))
 |.sl _ (_::_)=>some (cs.put dst (.bool false))
 |.own _ _ (_+1)=>some (cs.put dst (.bool false))
 |_=>none⟩
def Ax(dst:Option Nat)(op:Yq):BI:=match op with
 |.more (.inv tbl) (rx::xs)=>Tj dst tbl rx xs
 |.more .oI []=>⟨λ_ _ cs=>some (cs.put dst (.rp (.agg [])))⟩
 |.more .nB [xa,xv]=>FU dst xa xv
 |.call fx xs=>Iz dst fx xs
 |.Zz neg x (.c (.iface 2 .undef))=>OC dst neg x
 |.Zz neg x (.c (.iface 1 .undef))=>OI dst neg x
 |.Zz false x (.c (.iface 0 .undef))=>N0 dst x
 |op=>jt false dst op
def nJ(i:az):BI:=match i.g with
 |none=>Ax i.dst i.op
 |some (x,b)=>⟨λcall fl cs=>so i.dst b (Ax i.dst i.op) call fl cs (x.ev cs.sf)⟩
def mT(call:gB)(fl m:Nat):List az->CS->Out:=
 @Nat.rec (λ_=>List az->CS->Out) (λ_ _=>.bad)
  (λ_ ih l cs=>@List.casesOn az (λ_=>Out) l (.nx cs)
    (λi l'=>@BI.casesOn (λ_=>Out) (nJ i) λf=>@Option.casesOn CS (λ_=>Out) (f call fl cs) .bad (ih l'))) m
def sY(g:V->List Nat):List V->List Nat
 |[]=>[]
 |v::vs=>g v++sY g vs
def ql:Nat->Tr (Option Ob)->V->List Nat
 |0,_,_=>[]
 |f+1,U,v=>match v with
  |.own id off len=>id::(match eZ none id U with
   |some ob=>sY (ql f U) ((ob.rows.drop off).take len)
   |none=>[])
  |.ptr id i _=>id::(match eZ none id U with
   |some ob=>(match ob.rows[i]? with
    |some r=>ql f U r
    |none=>[])
   |none=>[])
  |.sl _ rows=>sY (ql f U) rows
  |.agg cs=>sY (ql f U) cs
  |.P' cs=>sY (ql f U) cs
  |.fn _ cs=>sY (ql f U) cs
  |.bm _ cs=>sY (ql f U) cs
  |.iface _ u=>ql f U u
  |_=>[]
def E3(dst:Option Nat)(cs:CS):Option Rs->Option CS
 |some r=>@Bool.casesOn (λ_=>Option CS) r.v.ct (@Bool.casesOn (λ_=>Option CS) ((ql 40 r.U r.v).all λc=>Nat.ble cs.Yu c) none (match fzQ 40 r.U r.v with
  |some v=>some (cs.put dst v)
  |none=>none)) (some (cs.put dst r.v))
 |none=>none
def Jc(dst:Option Nat)(fx:VX)(xs:List VX):BI:=⟨λcall _ cs=>match fx.ev cs.sf with
 |.fn f caps=>E3 dst cs (call f (xs.map (·.ev cs.sf)++caps) cs.U cs.Yu cs.Yu)
 |_=>none⟩
def AK(dst:Option Nat)(op:Yq):BI:=match op with
 |.call fx xs=>Jc dst fx xs
 |op=>jt true dst op
def qw(i:az):BI:=match i.g with
 |none=>AK i.dst i.op
 |some (x,b)=>⟨λcall fl cs=>so i.dst b (AK i.dst i.op) call fl cs (x.ev cs.sf)⟩
def mL(call:gB)(fl m:Nat):List az->CS->Out:=
 @Nat.rec (λ_=>List az->CS->Out) (λ_ _=>.bad)
  (λ_ ih l cs=>@List.casesOn az (λ_=>Out) l (.nx cs)
    (λi l'=>@BI.casesOn (λ_=>Out) (qw i) λf=>@Option.casesOn CS (λ_=>Out) (f call fl cs) .bad (ih l'))) m
def jf(draw:Bool)(call:gB)(fl:Nat)(l:List az)(cs:CS):Out:=match draw with
 |true=>mL call fl 1000 l cs
 |false=>mT call fl 1000 l cs
def TY:List (List Nat)->List (List Nat)->List (List Nat)
 |acc,[]=>acc
 |acc,d::ds=>TY (acc++[(d++d.flatMap λi=>acc.getD i []).eraseDups]) ds
def Pe(D:List (List Nat))(n:Nat)(done:List Nat):List Nat:=(List.range n).filter λi=>!(done.contains i)&&(D.getD i []).all done.contains
def Jd(l:List az)(D Yo:List (List Nat))(n:Nat):Nat->List Nat->List Nat->List Nat×List Nat
 |0,_,m=>(m,[])
 |f+1,done,m=>match Pe D n done with
  |[]=>(m,[])
  |i::is=>match(i::is).find? (λi=>!(cX l Yo i))with
   |some i=>Jd l D Yo n f (done++[i]) (m++[i])
   |none=>match is with
    |[]=>Jd l D Yo n f (done++[i]) (m++[i])
    |_::_=>(m,i::is)
def Tu(Yo:List (List Nat))(S:List Nat)(s:Nat):Nat->List (List Nat)->List (List Nat)
 |_,[]=>[]
 |j,b::r=>(if !(j==s)&&(S.contains j||b.any λi=>S.contains i&&!(i==s))then(s::(ep Yo s++b)).eraseDups else b)::Tu Yo S s (j+1) r
def Ot(l:List az):Nat->List (List Nat)->List (List Nat)->List Nat->PT
 |0,_,_,_=>.leaf [] []
 |f+1,D,Yo,done=>match Jd l D Yo l.length (l.length+1) done []with
  |(m,[])=>.leaf Yo m
  |(m,s::S)=>.fork Yo m (s::S) ((s::S).map λq=>Ot l f (pC D (s::S) q) (Tu Yo (s::S) q 0 Yo) (done++m))
def N3(l:List az)(Yi:List (List Nat))(t:PT):Option PT:=@Bool.casesOn (λ_=>Option PT) (ES l 8 Yi [] t) none (some t)
def Gk(l:List az)(Yi:List (List Nat)):Option PT:=N3 l Yi (Ot l 7 Yi (TY [] Yi) [])
def Qs(call:gB)(fl:Nat)(i:az)(cs:CS):Bool:=@Bool.casesOn (λ_=>Bool) (Nat.beq (aX i.op) 0) false (match(vD true i).f call fl cs with
 |some Yy=>match i.dst with
  |some d=>qH 40 (Yy.sf d) (cs.sf d)
  |none=>true
 |none=>false)
def x7(call:gB)(fl:Nat)(l:List az):List Nat->CS->Out
 |[],cs=>.nx cs
 |m::ms,cs=>match l[m/2]? with
  |none=>.bad
  |some i=>@Bool.casesOn (λ_=>Out) (Nat.beq (m%2) 0)
     (@Bool.casesOn (λ_=>Out) (Qs call fl i cs) .bad (x7 call fl l ms cs))
     (@Bool.casesOn (λ_=>Out) (Nat.ble (aX i.op) 3) .bad (match(vD false i).f call fl cs with
       |some Yy=>x7 call fl l ms Yy
       |none=>.bad))
def rho(n N r c:Nat):Nat:=@Bool.casesOn (λ_=>Nat) (Nat.blt c n) (@Bool.casesOn (λ_=>Nat) (Nat.blt c N) c (@Bool.casesOn (λ_=>Nat) (Nat.blt (Nat.add c r) N) (Nat.sub (Nat.add c r) (Nat.sub N n)) (Nat.add c r))) c
def nj(ρ:Nat->Nat):Nat->V->V->Bool
 |0,_,_=>false
 |f+1,v,u=>match v with
  |.int k n=>match u with
   |.int k' n'=>eqK k k'&&eqQ n n'
   |_=>false
  |.bool b=>match u with
   |.bool b'=>b==b'
   |_=>false
  |.str b=>match u with
   |.str b'=>decide (b=b')
   |_=>false
  |.aC=>match u with
   |.aC=>true
   |_=>false
  |.nilp=>match u with
   |.nilp=>true
   |_=>false
  |.YS=>match u with
   |.YS=>true
   |_=>false
  |.Yt=>match u with
   |.Yt=>true
   |_=>false
  |.own a b c=>match u with
   |.own a' b' c'=>Nat.beq (ρ a) a'&&(Nat.beq b b'&&Nat.beq c c')
   |_=>false
  |.ptr a b c=>match u with
   |.ptr a' b' c'=>Nat.beq (ρ a) a'&&(Nat.beq b b'&&Nat.beq c c')
   |_=>false
  |.yl a=>match u with
   |.yl a'=>Nat.beq (ρ a) a'
   |_=>false
  |.sl sz rows=>match u with
   |.sl sz' X6=>Nat.beq sz sz'&&iN (nj ρ f) rows X6
   |_=>false
  |.rp x=>match u with
   |.rp y=>nj ρ f x y
   |_=>false
  |.iface t x=>match u with
   |.iface t' y=>Nat.beq t t'&&nj ρ f x y
   |_=>false
  |.fn g cs=>match u with
   |.fn g' ds=>Nat.beq g g'&&iN (nj ρ f) cs ds
   |_=>false
  |.bm g cs=>match u with
   |.bm g' ds=>Nat.beq g g'&&iN (nj ρ f) cs ds
   |_=>false
  |.agg cs=>match u with
   |.agg ds=>iN (nj ρ f) cs ds
   |_=>false
  |.P' cs=>match u with
   |.P' ds=>iN (nj ρ f) cs ds
   |_=>false
  |_=>false
def D9(ρ:Nat->Nat)(a b:Option Ob):Bool:=match a with
 |none=>(match b with
  |none=>true
  |some _=>false)
 |some x=>(match b with
  |none=>false
  |some y=>Nat.beq x.elem y.elem&&(Nat.beq x.sz y.sz&&iN (nj ρ 40) x.rows y.rows))
def trB{α:Type}(f:α->α->Bool):Tr α->Tr α->Bool
 |.e,.e=>true
 |.n l v r,.n l' v' r'=>@Bool.casesOn (λ_=>Bool) (f v v') false (@Bool.casesOn (λ_=>Bool) (trB f l l') false (trB f r r'))
 |_,_=>false
def Iq(U:Tr (Option Ob))(n:Nat):Nat->Tr (Option Ob)
 |0=>U
 |m+1=>j3 none none (Nat.add n m) (Iq U n m)
def FD(ρ:Nat->Nat)(A B:Tr (Option Ob))(n:Nat):Nat->Bool
 |0=>true
 |m+1=>@Bool.casesOn (λ_=>Bool) (D9 ρ (eZ none (Nat.add n m) A) (eZ none (ρ (Nat.add n m)) B)) false (FD ρ A B n m)
def Ue(n N r:Nat)(A B:CS):Bool:=@Bool.casesOn (λ_=>Bool) (Nat.ble r (Nat.sub N n)) false (@Bool.casesOn (λ_=>Bool) (FD (rho n N r) A.U B.U n (Nat.sub N n)) false
 (@Bool.casesOn (λ_=>Bool) (trB (nj (rho n N r) 40) A.s B.s) false (trB (D9 (rho n N r)) (Iq A.U n (Nat.sub N n)) (Iq B.U n (Nat.sub N n)))))
def GA(f:Nat->Bool):Nat->Bool
 |0=>f 0
 |m+1=>@Bool.casesOn (λ_=>Bool) (f (Nat.succ m)) (GA f m) true
def Nr(fl n:Nat)(A B:CS):Bool:=@Bool.casesOn (λ_=>Bool) (Nat.beq A.Yu B.Yu&&(Nat.ble fl n&&Nat.ble n A.Yu)) false (GA (λr=>Ue n A.Yu r A B) (Nat.sub A.Yu n))
def FE(g:PT->Out)(fl n:Nat)(A:CS):List PT->Bool
 |[]=>true
 |k::r=>match g k with
  |.nx B=>@Bool.casesOn (λ_=>Bool) (Nr fl n A B) false (FE g fl n A r)
  |_=>false
def Ig(g:PT->Out)(fl n:Nat):List PT->Out
 |[]=>.bad
 |k::r=>match g k with
  |.nx A=>@Bool.casesOn (λ_=>Out) (FE g fl n A r) .bad (.nx A)
  |_=>.bad
def evT(call:gB)(fl:Nat)(l:List az):Nat->List Nat->PT->CS->Out
 |0,_,_,_=>.bad
 |f+1,pre,t,cs=>match t with
  |.leaf Yo r=>x7 call fl l (dI l Yo pre r) cs
  |.fork Yo m _ kids=>match x7 call fl l (dI l Yo pre m) cs with
   |.nx cs0=>Ig (λk=>evT call fl l f (pre++m) k cs0) fl cs0.Yu kids
   |_=>.bad
def evA(call:gB)(fl:Nat)(l:List az)(Yi:List (List Nat))(cs:CS):Out:=@Option.casesOn PT (λ_=>Out) (Gk l Yi) .bad λt=>evT call fl l 8 [] t cs
def zo:List Nat->Tr (Option Ob)->Tr (Option Ob)
 |[],U=>U
 |c::cs,U=>zo cs (match eZ none c U with
  |some _=>j3 none none c U
  |none=>U)
def th:List Nat->List V->Tr V->Tr V
 |p::ps,x::xs,s=>th ps xs (j3 (.P' []) x p s)
 |_,_,s=>s
def EZ(s0:Tr V)(ps:List Nat)(body:CS->Out):List (List V)->Tr (Option Ob)->Nat->Out
 |[],U,Yu=>.nx ⟨s0,U,Yu⟩
 |x::xs,U,Yu=>match body ⟨th ps x s0,U,Yu⟩with
  |.nx cs=>EZ s0 ps body xs cs.U cs.Yu
  |.ex id cs=>.ex id ⟨s0,cs.U,cs.Yu⟩
  |.rt cs=>.rt ⟨s0,cs.U,cs.Yu⟩
  |.bad=>.bad
def C7(run:Nat->bf->CS->Out)(a b:bf)(cs:CS):Out:=match run 0 a cs with
 |.nx Yy=>run 0 b Yy
 |_=>.bad
def T0(run:Nat->bf->CS->Out)(d:Nat)(gf:FuncId)(ps:List Nat)(a b:bf)(cs:CS)(ids:List Nat)(caps:List V)(xs:List (List V)):Out:=
 @Bool.casesOn (λ_=>Out) (xs.all λx=>cd x&&Nat.beq x.length ps.length) .bad
  (EZ (j3 (.P' []) (.fn gf caps) d cs.s) ps (C7 run a b) xs (zo ids cs.U) cs.Yu)
def evR(run:Nat->bf->CS->Out)(μ:FuncId->Option (List V->Option (List (List V))))(fl:Nat)(g:VX)(ps:List Nat)(a b:bf)(cs:CS):Out:=
 @Bool.casesOn (λ_=>Out) (Nat.beq fl 0) .bad (match g with
  |.t d=>match cs.sf d with
   |.fn gf caps=>match μ gf with
    |some h=>match iy (fzQ 40 cs.U) caps with
     |some Ze=>match h Ze with
      |some xs=>T0 run d gf ps a b cs (sY (ql 40 cs.U) caps) Ze xs
      |none=>.bad
     |none=>.bad
    |none=>.bad
   |_=>.bad
  |.c _=>.bad)
structure Tb where
 fn:FuncId->Option Fk
 it:FuncId->Option (List V->Option (List (List V)))
def de(T:Tb)(fuel:Nat):Nat->bf->CS->Out:=
 @Nat.rec (λ_=>Nat->bf->CS->Out) (λ_ _ _=>.bad)
  (λ_ ih fl c cs=>match c with
    |.skip=>.nx cs
    |.reg draw l=>jf draw (iZ ih T.fn) fl l cs
    |.seq a b=>xU (ih fl a cs) λYy=>ih fl b Yy
    |.cond c a b=>onB (c.ev cs.sf) (ih fl a cs) (ih fl b cs)
    |.block id a=>QD id (ih fl a cs)
    |.loop a=>xU (ih fl a cs) λYy=>ih fl (.loop a) Yy
    |.exit id=>.ex id cs
    |.ret=>.rt cs
    |.cA g ps a b=>evR ih T.it fl g ps a b cs
    |.regA l Yi=>evA (iZ ih T.fn) fl l Yi cs
    |.nq l e=>xU (jf true (iZ ih T.fn) fl l cs) λYy=>jf false (iZ ih T.fn) fl e Yy
    |.bad=>.bad) fuel
variable {P:Program} {n:Nat}
def bT:bf->Bool
 |.reg _ l=>l.all dv
 |.seq a b=>bT a&&bT b
 |.cond c a b=>okX c&&(bT a&&bT b)
 |.block _ a=>bT a
 |.loop a=>bT a
 |.cA _ _ a b=>bT a&&bT b
 |.regA l _=>l.all dv
 |.nq l e=>l.all dv&&e.all dv
 |_=>true
def lP(f:Yb):Bool:=bT f.code&&f.res.all F6
def CH{o:Op}{xs:List VX}(h:Yh P n o=.more .oI xs):∃t,o=.alloc t/\mY P t=true:=by
 cases o
 case alloc t=>
  simp only[Yh]at h;split at h
  .cases h
  .split at h
   .rename_i hn;exact⟨t,rfl,hn⟩
   .cases h
 case call c=>
  obtain⟨callee,args,argTypes⟩:=c;cases callee
  case builtin b=>cases b<;>simp only[Yh]at h<;>(repeat' split at h)<;>cases h
  all_goals (simp only[Yh]at h;cases h)
 case unOp op t x=>cases op<;>simp only[Yh]at h<;>cases h
 case makeFunc f a b=>cases f<;>simp only[Yh]at h<;>(repeat' split at h)<;>cases h
 case binOp op t x y yt=>cases op<;>simp only[Yh,jk]at h<;>(repeat' split at h)<;>cases h
 all_goals (simp only[Yh]at h;(repeat' split at h)<;>cases h)
def B6{o:Op}{xs:List VX}(h:Yh P n o=.more .nB xs):∃t x y,o=.store t x y/\mY P t=true/\xs=[cx n x,cx n y]:=by
 cases o
 case store t x y=>
  simp only[Yh]at h;split at h
  .cases h
  .split at h
   .rename_i hn;simp only[Yq.more.injEq,true_and]at h;exact⟨t,x,y,rfl,hn,h.symm⟩
   .cases h
 case call c=>
  obtain⟨callee,args,argTypes⟩:=c;cases callee
  case builtin b=>cases b<;>simp only[Yh]at h<;>(repeat' split at h)<;>cases h
  all_goals (simp only[Yh]at h;cases h)
 case unOp op t x=>cases op<;>simp only[Yh]at h<;>cases h
 case makeFunc f a b=>cases f<;>simp only[Yh]at h<;>(repeat' split at h)<;>cases h
 case binOp op t x y yt=>cases op<;>simp only[Yh,jk]at h<;>(repeat' split at h)<;>cases h
 all_goals (simp only[Yh]at h;(repeat' split at h)<;>cases h)
def ab.Mn{st:St}{Q:St->Prop}{k:List It}{i:az}{l:List az}(hw:aQ st.s i.g=some true)(ho:i.op=.more .oI [])
 (h:ab P n (.ops l::k) ⟨aO st.s i.dst (.rp (.agg [])),st.U⟩ Q):ab P n (.ops (i::l)::k) st Q:=by
 refine ab.ins (by rw[ho];simp) hw λF hn I a w o all hi hs next Q' X7=>?_
 subst hn;obtain⟨X9,hd⟩:=bZ hi;rw[ho]at X9;obtain⟨t,g1,hn⟩:=CH X9;have Yw:(execOp a.eval o).run P w=.ok (.value (.pointer (some ⟨w.heap.size,0,none⟩))) (w.alloc (.cells #[] t)):=by
  unfold execOp;rw[g1];simp[Instr.alloc,oX hn,newVar,newRow,Value.cells]
 unfold Oper.wp;rw[Yw];obtain⟨h1,hk⟩:=hs.sat.more (.cells #[] t);refine X7 _ _ _ ⟨I,?_⟩ h;rw[<-hd];exact hs.step h1 (cC.refl I) hk (by simp) (by simp only[E'];exact⟨w.heap.size,0,rfl,by simp,.inl rfl,by simp[bn,aN]⟩)
def ab.NZ{st:St}{Q:St->Prop}{k:List It}{i:az}{l:List az}{xa xv:VX}{u:V}(hw:aQ st.s i.g=some true)(ho:i.op=.more .nB [xa,xv])(ha:xa.ev st.s=.rp u)(hv:xv.ev st.s=.agg [])
 (h:ab P n (.ops l::k) ⟨aO st.s i.dst (.P' []),st.U⟩ Q):ab P n (.ops (i::l)::k) st Q:=by
 refine ab.ins (by rw[ho];simp) hw λF hn I a w o all hi hs next Q' X7=>?_
 subst hn;obtain⟨X9,hd⟩:=bZ hi;rw[ho]at X9;obtain⟨t,x,y,g1,hn,g2⟩:=B6 X9;simp only[List.cons.injEq,and_true]at g2;obtain⟨rfl,rfl⟩:=g2;have R1:=bH hs x;have R2:=bH hs y;rw[ha]at R1;rw[hv]at R2;simp only[E']at R1 R2;obtain⟨b,off,e1,_⟩:=R1;obtain⟨Yf,e2,e3,_⟩:=R2;simp only[al]at e3;subst e3;obtain⟨ti,_,hti,hsz,_⟩:=mc hn;have Yw:(execOp a.eval o).run P w=.ok .skip w:=by
  unfold execOp;rw[g1];simp[Instr.storeAt,Instr.sureAddr,e1,e2,storeVar,sizeOf,typeInfo,hti,hsz,Value.cells,storeCells]
 unfold Oper.wp;rw[Yw];refine X7 _ _ _ ⟨I,?_⟩ h;rw[<-hd];exact hs.pure (by simp[E',al,undef])
def ab.Lr{st:St}{Q:St->Prop}{k:List It}{i:az}{l:List az}{xa:VX}(hw:aQ st.s i.g=some true)(ho:i.op=.Zz false xa (.c (.iface 0 .undef))){b:Bool}
 (hx:(xa.ev st.s=.aC/\b=true)\/(∃sz r rows,xa.ev st.s=.sl sz (r::rows)/\b=false)\/∃id off m,xa.ev st.s=.own id off (m+1)/\b=false)
 (h:ab P n (.ops l::k) ⟨aO st.s i.dst (.bool b),st.U⟩ Q):ab P n (.ops (i::l)::k) st Q:=by
 refine ab.ins (by rw[ho];simp) hw λF hn I a w o all hi hs next Q' X7=>?_
 subst hn;obtain⟨X9,hd⟩:=bZ hi;rw[ho]at X9;obtain⟨t,x,y,m,c,yt,e,g1,rfl,g2,rfl⟩:=wb X9;have R:=bH hs x;have hX:∃ba len cap,a.eval x=.slice ba len cap/\ba.isNone=b:=by
  rcases hx with⟨hx,rfl⟩|⟨sz,r,rows,hx,rfl⟩|⟨id,off,m,hx,rfl⟩
  .rw[hx]at R;simp only[E']at R;exact⟨none,0,0,R,rfl⟩
  .rw[hx]at R;simp only[E']at R;obtain⟨ba,cap,hX,_,hr⟩:=R;rcases hr with hr|⟨b,off,rfl,_⟩
   .cases hr
   .exact⟨_,_,_,hX,rfl⟩
  .rw[hx]at R;simp only[E']at R;split at R
   .exact R.elim
   .exact absurd R.2.2 (by omega)
   .obtain⟨o,c,hX,_⟩:=R;exact⟨_,_,_,hX,rfl⟩
 obtain⟨ba,len,cap,hX,rfl⟩:=hX;have Yw:(execOp a.eval o).run P w=.ok (.value (.bool ba.isNone)) w:=by
  unfold execOp;rw[g1];have hY:a.eval (.const (.slice none m c))=.slice none m c:=rfl;simp[hX,hY,eqGuard,Lib.run_eql_slice_nil w t e ba len cap m c g2]
 unfold Oper.wp;rw[Yw];refine X7 _ _ _ ⟨I,?_⟩ h;rw[<-hd];exact hs.pure (by simp[E'])
def XI(P:Program)(g:FuncId):Fk->Prop
 |.code vf=>bV P g=true/\lP vf=true/\∃fn,P.funcs[g]?=some fn/\cfn P fn=some vf
 |.fz vf=>bV P g=true/\lP vf=true/\∃fn,P.funcs[g]?=some fn/\cfn P fn=some vf
 |.orc h=>∀as1 v,h as1=some v->cd as1=true->v.ct=true->aJ P g as1 v
structure TOk(P:Program)(T:Tb):Prop where
 mix:P.follows .mixedOrders=true
 fn:∀g k,T.fn g=some k->XI P g k
 it:∀g h,T.it g=some h->∀caps xs,h caps=some xs->cd caps=true->Iter P g caps xs
def rH{R:Nat->Nat->Prop}{Zt:Tr (Option Ob)}{U:af}(hm:Lv R (ZH Zt) U){N:Nat->Prop}:∀(f:Nat) (v u v':V),fzQ f Zt v=some v'->aq R v u->
 (∀c∈ql f Zt v,∀a o,R c a->ZH Zt c=some o->N a)->Fz U N u v'
 |0,_,_,_,h,_,_=>by simp[fzQ]at h
 |f+1,v,u,v',h,hr,hN=>by
  have hL:∀(vs us out:List V),iy (fzQ f Zt) vs=some out->aD R vs us->(∀c∈sY (ql f Zt) vs,∀a o,R c a->ZH Zt c=some o->N a)->FzL U N us out:=by
   intro vs
   induction vs with
   |nil=>
    intro us out h1 h2 _;rw[aD.eS]at h2;subst h2;simp only[iy,aB]at h1;subst h1;exact .nil
   |cons a vs ih=>
    intro us out h1 h2 hN;obtain⟨b,bs,rfl,h3,h4⟩:=aD.bu.1 h2;simp only[sY,dc]at hN;simp only[iy]at h1;split at h1
    .rename_i c hc;split at h1
     .rename_i cs hcs;simp only[aB]at h1;subst h1;exact .cons _ _ _ _ (rH hm f _ _ _ hc h3 λc hc=>hN c (.inl hc)) (ih _ _ hcs h4 λc hc=>hN c (.inr hc))
     .cases h1
    .cases h1
  cases v<;>simp only[fzQ,bP]at h<;>simp only[ql]at hN
  case own id off len=>
   split at h
   .rename_i ob YV;simp only[YV,cg]at hN;split at h
    .rename_i hle;simp only[Zq8]at h;obtain⟨rows,h3,rfl⟩:=h;simp only[aq]at hr;obtain⟨ZD,rfl,hR⟩:=hr;obtain⟨X6,g1,g2⟩:=hm _ ZD ob hR YV;have:=hL _ _ _ h3 ((g2.drop _).take _) λc hc=>hN c (.inr hc);exact .own ZD _ _ ⟨ob.elem,ob.sz,X6⟩ _ g1 (hN id (.inl rfl) ZD ob hR YV) (by rw[g2.length];exact oG hle) this
    .cases h
   .cases h
  case ptr id i k=>
   split at h
   .rename_i hk;split at h
    .rename_i ob YV;split at h
     .rename_i r hri;simp only[YV,hri,cg]at hN;simp only[Zq8]at h;obtain⟨r',h3,rfl⟩:=h;simp only[aq]at hr;obtain⟨ZD,rfl,hR⟩:=hr;obtain⟨X6,g1,g2⟩:=hm _ ZD ob hR YV;obtain⟨q,g3,g4⟩:=g2.get hri;have hk0:k=0:=gn hk;subst hk0;exact .ptr ZD _ ⟨ob.elem,ob.sz,X6⟩ q r' g1 (hN id (.inl rfl) ZD ob hR YV) g3 (rH hm f _ _ _ h3 g4 λc hc=>hN c (.inr hc))
     .cases h
    .cases h
   .cases h
  case iface t x=>
   simp only[aq]at hr;obtain⟨y,rfl,hr⟩:=hr;simp only[Zq8]at h;obtain⟨m,hm',rfl⟩:=h;exact .iface _ _ _ (rH hm f _ _ _ hm' hr hN)
  case sl sz rows=>
   simp only[aq]at hr;obtain⟨y,rfl,hr⟩:=hr;simp only[Zq8]at h;obtain⟨m,hm',rfl⟩:=h;exact .sl _ _ _ (hL _ _ _ hm' hr hN)
  case agg=>
   simp only[aq]at hr;obtain⟨y,rfl,hr⟩:=hr;simp only[Zq8]at h;obtain⟨m,hm',rfl⟩:=h;exact .agg _ _ (hL _ _ _ hm' hr hN)
  case P'=>
   simp only[aq]at hr;obtain⟨y,rfl,hr⟩:=hr;simp only[Zq8]at h;obtain⟨m,hm',rfl⟩:=h;exact .P' _ _ (hL _ _ _ hm' hr hN)
  case fn=>
   simp only[aq]at hr;obtain⟨y,rfl,hr⟩:=hr;simp only[Zq8]at h;obtain⟨m,hm',rfl⟩:=h;exact .fn _ _ _ (hL _ _ _ hm' hr hN)
  case bm=>
   simp only[aq]at hr;obtain⟨y,rfl,hr⟩:=hr;simp only[Zq8]at h;obtain⟨m,hm',rfl⟩:=h;exact .bm _ _ _ (hL _ _ _ hm' hr hN)
  all_goals (split at h
             .rename_i Yx;simp only[aB]at h;subst h;have:=oU _ _ Yx hr;subst this;exact .same _ Yx
             .cases h)
def DO{R:Nat->Nat->Prop}{Zt:Tr (Option Ob)}{U:af}(hm:Lv R (ZH Zt) U){N:Nat->Prop}{f:Nat}:∀(vs us out:List V),iy (fzQ f Zt) vs=some out->aD R vs us->
 (∀c∈sY (ql f Zt) vs,∀a o,R c a->ZH Zt c=some o->N a)->FzL U N us out
 |[],us,out,h1,h2,_=>by
  rw[aD.eS]at h2;subst h2;simp only[iy,aB]at h1;subst h1;exact .nil
 |a::vs,us,out,h1,h2,hN=>by
  obtain⟨b,bs,rfl,h3,h4⟩:=aD.bu.1 h2;simp only[sY,dc]at hN;simp only[iy]at h1;split at h1
  .rename_i c hc;split at h1
   .rename_i cs hcs;simp only[aB]at h1;subst h1;exact .cons _ _ _ _ (rH hm f _ _ _ hc h3 λc hc=>hN c (.inl hc)) (DO hm _ _ _ hcs h4 λc hc=>hN c (.inr hc))
   .cases h1
  .cases h1
section
variable {call:gB} {K:af} {fl:Nat} {R:Nat->Nat->Prop} {cs Yy:CS} {st:St} {Q:St->Prop} {k:List It}
def Ab{i:az}(M':dv i=true)(h:cB K fl R cs st)(hr:(nJ i).f call fl cs=some Yy):
 (aQ st.s i.g=some true/\(Ax i.dst i.op).f call fl cs=some Yy)\/(aQ st.s i.g=some false/\Yy=cs.put i.dst (.P' [])):=by
 simp only[dv,Ba]at M';unfold nJ at hr;split at hr
 .rename_i hg;exact .inl ⟨by simp[hg,aQ],hr⟩
 .rename_i x b hg;have hx:=M'.2;simp only[hg]at hx;have hv:=cc h.slot hx;simp only[so]at hr;split at hr
  .rename_i c hc;rw[hc,aq.iF]at hv;rw[sH]at hr;split at hr
   .rename_i hcb;simp only[aB]at hr;refine .inr ⟨?_,hr.symm⟩;simp only[hg,aQ,hv];cases c<;>cases b<;>simp_all
   .rename_i hcb;refine .inl ⟨?_,hr⟩;simp only[hg,aQ,hv];cases c<;>cases b<;>simp_all
  .rename_i hc;rw[hc]at hv;simp only[aq,aD]at hv;obtain⟨c',hv,rfl⟩:=hv;simp only[aB]at hr;exact .inr ⟨by simp only[hg,aQ,hv],hr.symm⟩
  .rename_i hc;rw[hc,aq.ir]at hv;simp only[aB]at hr;exact .inr ⟨by simp only[hg,aQ,hv],hr.symm⟩
  .cases hr
def JH(hc:kL P call){i:az}{l:List az}(M':dv i=true)(h:cB K fl R cs st)(hw:aQ st.s i.g=some true)(hr:(jt false i.dst i.op).f call fl cs=some Yy)
 (hk:∀R' YW,Le R R'->cB K fl R' Yy YW->ab P n (.ops l::k) YW Q):ab P n (.ops (i::l)::k) st Q:=by
 have hi:aQ st.s (⟨i.dst,i.op,none⟩:az).g=some true:=rfl;have hok':dv ⟨i.dst,i.op,none⟩=true:=by
  simp only[dv,Ba]at M'|-;exact⟨M'.1,trivial⟩
 have:=Mz (P:=P) (n:=n) (k:=k) (Q:=Q) (l:=l) hc hok' h (show(vD false ⟨i.dst,i.op,none⟩).f call fl cs=some Yy from hr) hk;intro F hn kt hkt a w hs;obtain⟨z,kt',rfl,hy,ZL⟩:=dn hkt;cases z<;>simp only[KI.it,It.ops.injEq,reduceCtorEq]at hy;rename_i all os;cases os with
 |nil=>simp at hy
 |cons o os=>
  simp only[dS,List.cons.injEq]at hy;obtain⟨hi1,hl⟩:=hy;obtain⟨I,Ye⟩:=hs;have hwant:=o7 (P:=P) Ye all o (b:=true) (by rw[hn,hi1];exact hw);have h2:=this F hn (.ops all ({ o with guard:=none }::os)::kt') (by
   simp only[dS,KI.it,ZL,List.cons.injEq,It.ops.injEq,hl,and_true];rw[<-hi1];rfl) a w ⟨I,Ye⟩
  simp only[ku,wpListIn,hwant,if_true]at h2|-;have e1:Region.wanted { o with guard:=none } (yielded all a.tmps)=true:=rfl;simp only[e1,if_true]at h2;exact h2
def BY(hc:kL P call){i:az}{l:List az}(M':dv i=true)(h:cB K fl R cs st)(hr:(nJ i).f call fl cs=some Yy)
 (hk:∀R' YW,Le R R'->cB K fl R' Yy YW->ab P n (.ops l::k) YW Q):ab P n (.ops (i::l)::k) st Q:=by
 have X9:jS i.op=true:=by simp only[dv,Ba]at M';exact M'.1
 rcases Ab M' h hr with⟨hw,hr⟩|⟨hw,rfl⟩
 .unfold Ax at hr;split at hr
  .rename_i tbl rx xs hop';rw[hop']at X9;simp only[jS,Yq.xs,iV,Ba]at X9;simp only[Tj]at hr;split at hr
   .rename_i t v hv;have hrx:=cc h.slot X9.1.1;rw[hv]at hrx;simp only[aq]at hrx;obtain⟨v',hv',hvr⟩:=hrx;split at hr
    .rename_i f hf;generalize YZ:call f (v::xs.map (·.ev cs.sf)) cs.U cs.Yu fl=r at hr;cases r with
     |none=>simp[iL]at hr
     |some r=>
      simp only[iL,aB]at hr;refine ab.inv hw hop' hv' hf (hc _ _ _ _ _ _ YZ K R st.U _ h.mem (aD.bu.2 ⟨_,_,rfl,hvr,fW h.slot X9.1.2⟩)) ?_;rintro u Z' ⟨R',hle,hu,hm⟩;have hS:cB K fl R' ⟨cs.s,r.U,r.Yu⟩ ⟨st.s,Z'⟩:=⟨λj=>aq.mono hle _ _ (h.slot j),hm⟩
      exact hk R' _ hle (hr▸hS.put hu)
    .cases hr
   .cases hr
  .rename_i hop';simp only[aB]at hr;subst hr;exact ab.Mn hw hop' (hk R _ (Le.refl R) (h.put (by simp[aq,aD])))
  .rename_i xa xv hop';rw[hop']at X9;simp only[jS,Yq.xs,iV,Ba]at X9;have h1:=cc h.slot X9.1.1;have h2:=cc h.slot X9.1.2.1;simp only[FU]at hr;split at hr
   .rename_i u hu;rw[hu]at h1;simp only[aq]at h1;obtain⟨u',hu',_⟩:=h1;split at hr
    .rename_i hv;rw[hv]at h2;simp only[aq,aD]at h2;obtain⟨_,hv',rfl⟩:=h2;simp only[aB]at hr;subst hr;exact ab.NZ hw hop' hu' hv' (hk R _ (Le.refl R) (h.put aq.AD))
    .cases hr
   .cases hr
  .rename_i fx xs hop';rw[hop']at X9;simp only[jS,Yq.xs,iV,Ba]at X9;simp only[Iz]at hr;split at hr
   .rename_i f caps hf;have hfx:=cc h.slot X9.1.1;rw[hf]at hfx;simp only[aq]at hfx;obtain⟨Ze,hf',hcaps⟩:=hfx;generalize YZ:call f (xs.map (·.ev cs.sf)++caps) cs.U cs.Yu fl=r at hr;cases r with
    |none=>simp[iL]at hr
    |some r=>
     simp only[iL,aB]at hr;refine ab.call hw hop' hf' (hc _ _ _ _ _ _ YZ K R st.U _ h.mem ((fW h.slot X9.1.2).append hcaps)) ?_;rintro v Z' ⟨R',hle,hv,hm⟩;have hS:cB K fl R' ⟨cs.s,r.U,r.Yu⟩ ⟨st.s,Z'⟩:=⟨λj=>aq.mono hle _ _ (h.slot j),hm⟩
     exact hk R' _ hle (hr▸hS.put hv)
   .rename_i f caps hf;have hfx:=cc h.slot X9.1.1;rw[hf]at hfx;simp only[aq]at hfx;obtain⟨Ze,hf',hcaps⟩:=hfx;generalize YZ:call f (caps++xs.map (·.ev cs.sf)) cs.U cs.Yu fl=r at hr;cases r with
    |none=>simp[iL]at hr
    |some r=>
     simp only[iL,aB]at hr;refine ab.ld hw hop' hf' (hc _ _ _ _ _ _ YZ K R st.U _ h.mem (hcaps.append (fW h.slot X9.1.2))) ?_;rintro v Z' ⟨R',hle,hv,hm⟩;have hS:cB K fl R' ⟨cs.s,r.U,r.Yu⟩ ⟨st.s,Z'⟩:=⟨λj=>aq.mono hle _ _ (h.slot j),hm⟩
     exact hk R' _ hle (hr▸hS.put hv)
   .cases hr
  .rename_i neg x hop';rw[hop']at X9;simp only[jS,Yq.xs,iV,Ba]at X9;have hx:=cc h.slot X9.1.1;simp only[OC]at hr;split at hr
   .rename_i hv;rw[hv]at hx;simp only[aq]at hx;simp only[aB]at hr;exact ab.LU hw hop' (.inl ⟨hx,rfl⟩) (hk R _ (Le.refl R) (hr▸h.put (by simp[aq])))
   .rename_i f caps hv;rw[hv]at hx;simp only[aq]at hx;obtain⟨Ze,hx,_⟩:=hx;simp only[aB]at hr;exact ab.LU hw hop' (.inr ⟨f,Ze,hx,rfl⟩) (hk R _ (Le.refl R) (hr▸h.put (by simp[aq])))
   .cases hr
  .rename_i neg x hop';rw[hop']at X9;simp only[jS,Yq.xs,iV,Ba]at X9;have hx:=cc h.slot X9.1.1;simp only[OI]at hr;split at hr
   .rename_i hv;rw[hv]at hx;simp only[aq]at hx;simp only[aB]at hr;exact ab.TV hw hop' (.inl ⟨hx,rfl⟩) (hk R _ (Le.refl R) (hr▸h.put (by simp[aq])))
   .rename_i t' v' hv;rw[hv]at hx;simp only[aq]at hx;obtain⟨u,hx,_⟩:=hx;simp only[aB]at hr;exact ab.TV hw hop' (.inr ⟨t',u,hx,rfl⟩) (hk R _ (Le.refl R) (hr▸h.put (by simp[aq])))
   .cases hr
  .rename_i x hop';rw[hop']at X9;simp only[jS,Yq.xs,iV,Ba]at X9;have hx:=cc h.slot X9.1.1;simp only[N0]at hr;split at hr
   .rename_i hv;rw[hv]at hx;simp only[aq]at hx;simp only[aB]at hr;exact ab.Lr hw hop' (.inl ⟨hx,rfl⟩) (hk R _ (Le.refl R) (hr▸h.put (by simp[aq])))
   .rename_i sz r rows hv;rw[hv]at hx;simp only[aq]at hx;obtain⟨X6,hx,hr'⟩:=hx;obtain⟨r',rows'',rfl,_,_⟩:=aD.bu.1 hr';simp only[aB]at hr;exact ab.Lr hw hop' (.inr (.inl ⟨sz,r',rows'',hx,rfl⟩)) (hk R _ (Le.refl R) (hr▸h.put (by simp[aq])))
   .rename_i id off m hv;rw[hv]at hx;simp only[aq]at hx;obtain⟨ZD,hx,_⟩:=hx;simp only[aB]at hr;exact ab.Lr hw hop' (.inr (.inr ⟨ZD,off,m,hx,rfl⟩)) (hk R _ (Le.refl R) (hr▸h.put (by simp[aq])))
   .cases hr
  .exact JH hc M' h hw hr hk
 .exact ab.o5 hw (hk R _ (Le.refl R) (h.put aq.AD))
def rj(m:Nat)(i:az)(l:List az):mT call fl (m+1) (i::l) cs=match(nJ i).f call fl cs with
 |some Yy=>mT call fl m l Yy
 |none=>.bad:=by
 show(@Option.casesOn CS (λ_=>Out) ((nJ i).f call fl cs) .bad (mT call fl m l))=_;cases (nJ i).f call fl cs<;>rfl
def pT:∀(m:Nat) (l:List az) (cs:CS),(∃Yy,mT call fl m l cs=.nx Yy)\/mT call fl m l cs=.bad
 |0,_,_=>.inr rfl
 |m+1,[],cs=>.inl ⟨cs,rfl⟩
 |m+1,i::l,cs=>by
  rw[rj];split
  .exact pT m l _
  .exact .inr rfl
def vw(hc:kL P call):∀(m:Nat) (l:List az) (R:Nat->Nat->Prop) (cs:CS) (st:St),mT call fl m l cs=.nx Yy->l.all dv=true->cB K fl R cs st->
 (∀R' YW,Le R R'->cB K fl R' Yy YW->ab P n k YW Q)->ab P n (.ops l::k) st Q
 |0,_,_,_,_,h,_,_,_=>by cases h
 |m+1,[],R,cs,st,h,_,hs,hk=>by
  have h':Out.nx cs=.nx Yy:=h;simp only[Out.nx.injEq]at h';subst h';exact ab.A2 (hk R st (Le.refl R) hs)
 |m+1,i::l,R,cs,st,h,M',hs,hk=>by
  rw[rj]at h;simp only[iV,Ba]at M';split at h
  .rename_i cs1 h1;refine BY hc M'.1 hs h1 λR' YW hle Ye=>?_;exact vw hc m l R' cs1 YW h M'.2 Ye λR'' st'' hle' hs''=>hk R'' st'' (hle.trans hle') hs''
  .cases h
def zI{i:az}(M':dv i=true)(h:cB K fl R cs st)(hr:(qw i).f call fl cs=some Yy):
 (aQ st.s i.g=some true/\(AK i.dst i.op).f call fl cs=some Yy)\/(aQ st.s i.g=some false/\Yy=cs.put i.dst (.P' [])):=by
 simp only[dv,Ba]at M';unfold qw at hr;split at hr
 .rename_i hg;exact .inl ⟨by simp[hg,aQ],hr⟩
 .rename_i x b hg;have hx:=M'.2;simp only[hg]at hx;have hv:=cc h.slot hx;simp only[so]at hr;split at hr
  .rename_i c hc;rw[hc,aq.iF]at hv;rw[sH]at hr;split at hr
   .rename_i hcb;simp only[aB]at hr;refine .inr ⟨?_,hr.symm⟩;simp only[hg,aQ,hv];cases c<;>cases b<;>simp_all
   .rename_i hcb;refine .inl ⟨?_,hr⟩;simp only[hg,aQ,hv];cases c<;>cases b<;>simp_all
  .rename_i hc;rw[hc]at hv;simp only[aq,aD]at hv;obtain⟨c',hv,rfl⟩:=hv;simp only[aB]at hr;exact .inr ⟨by simp only[hg,aQ,hv],hr.symm⟩
  .rename_i hc;rw[hc,aq.ir]at hv;simp only[aB]at hr;exact .inr ⟨by simp only[hg,aQ,hv],hr.symm⟩
  .cases hr
def S1(hc:kL P call){i:az}(M':dv i=true)(h:cB K fl R cs st)(hr:(qw i).f call fl cs=some Yy){K':St->Prop}
 (hk:∀R' YW,Le R R'->cB K fl R' Yy YW->K' YW):T P i st K':=by
 have X9:jS i.op=true:=by simp only[dv,Ba]at M';exact M'.1
 rcases zI M' h hr with⟨hw,hr⟩|⟨hw,rfl⟩
 .refine lI hw ?_;unfold AK at hr;split at hr
  .rename_i fx xs h0;rw[h0]at X9;rw[h0];simp only[Jc]at hr;simp only[jS,Yq.xs,iV,Ba]at X9;split at hr
   .rename_i f caps hf;have hfx:=cc h.slot X9.1.1;rw[hf]at hfx;simp only[aq]at hfx;obtain⟨Ze,hf',hcaps⟩:=hfx;generalize YZ:call f (xs.map (·.ev cs.sf)++caps) cs.U cs.Yu cs.Yu=r at hr;cases r with
    |none=>simp[E3]at hr
    |some r=>
     have key:∀Z1,aa st.U Z1->fG Z1 cs.Yu R (ZH cs.U) cs.Yu Z1:=λZ1 ZM=>⟨h.mem.dom,h.mem.live.sup ZM,h.mem.inj,h.mem.fn,aa.refl _,λ_ _ c _ _ hcR _=>h.mem.dom c _ hcR⟩
     simp only[E3,sH]at hr;split at hr
     .rename_i Yx;simp only[aB]at hr;refine⟨f,Ze,r.v,hf',λZ1 ZM=>?_,hk R _ (Le.refl R) (hr▸h.put (cU r.v Yx))⟩;refine(hc _ _ _ _ _ _ YZ Z1 R Z1 _ (key Z1 ZM) ((fW h.slot X9.1.2).append hcaps)).drop ?_;rintro v Z' ⟨R',hle,hv,hm⟩;exact⟨Z1,hm.gJ,oU _ _ Yx hv,rfl⟩
     .split at hr
      .rename_i hids;split at hr
       .rename_i v hv;have Yx:=lM 40 _ _ _ hv;simp only[aB]at hr;refine⟨f,Ze,v,hf',λZ1 ZM=>?_,hk R _ (Le.refl R) (hr▸h.put (cU v Yx))⟩;refine(hc _ _ _ _ _ _ YZ Z1 R Z1 _ (key Z1 ZM) ((fW h.slot X9.1.2).append hcaps)).Aj ?_;rintro u Z' ⟨R',hle,hu,hm⟩;refine⟨v,Z1,hm.gJ,(rH (N:=λa=>Z1 a=none) hm.live 40 _ _ _ hv hu λc hcm a o hR ho=>?_).wk hm.gJ λ_ h=>h,rfl,rfl⟩;have hge:=dX.1 hids c hcm;cases hk:Z1 a with
        |none=>rfl
        |some x=>
         have h1:=hm.kfl a x c o hk hR ho;have h2:=oG hge;omega
       .cases hr
      .cases hr
   .cases hr
  .rename_i op hnc;rcases n7 i.op with h0|⟨fx,xs,h0⟩|⟨sz,a,x,h0⟩|h0|⟨sz,z,x,h0⟩|h0
   .obtain⟨v',h1,h2,h3⟩:=pq h0 X9 h hr;unfold TO;simp only[h0];exact⟨h1,v',h2,hk R _ (Le.refl R) h3⟩
   .exact absurd h0 (hnc fx xs)
   .rw[h0]at hr X9;rw[h0];obtain⟨Z',h1,h2⟩:=qx X9 h hr;exact⟨Z',h1,hk R _ (Le.refl R) h2⟩
   .obtain⟨g',h1,h2⟩:=xi h0 X9 h hr;unfold TO;simp only[h0];refine⟨g',h1,λid O'=>?_⟩;obtain⟨R',h3,h4⟩:=h2 id O';exact hk R' _ h3 h4
   .rw[h0]at hr;simp[jt,EG]at hr
   .exact(AZ h0 hr).elim
 .exact rm hw (hk R _ (Le.refl R) (h.put aq.AD))
def qP(m:Nat)(i:az)(l:List az):mL call fl (m+1) (i::l) cs=match(qw i).f call fl cs with
 |some Yy=>mL call fl m l Yy
 |none=>.bad:=by
 show(@Option.casesOn CS (λ_=>Out) ((qw i).f call fl cs) .bad (mL call fl m l))=_;cases (qw i).f call fl cs<;>rfl
def mz:∀(m:Nat) (l:List az) (cs:CS),(∃Yy,mL call fl m l cs=.nx Yy)\/mL call fl m l cs=.bad
 |0,_,_=>.inr rfl
 |m+1,[],cs=>.inl ⟨cs,rfl⟩
 |m+1,i::l,cs=>by
  rw[qP];split
  .exact mz m l _
  .exact .inr rfl
def zL(hc:kL P call){K':St->Prop}:∀(m:Nat) (l:List az) (R:Nat->Nat->Prop) (cs:CS) (st:St),mL call fl m l cs=.nx Yy->l.all dv=true->cB K fl R cs st->
 (∀R' YW,Le R R'->cB K fl R' Yy YW->K' YW)->gK P K' l st
 |0,_,_,_,_,h,_,_,_=>by cases h
 |m+1,[],R,cs,st,h,_,hs,hk=>by
  have h':Out.nx cs=.nx Yy:=h;simp only[Out.nx.injEq]at h';subst h';exact hk R st (Le.refl R) hs
 |m+1,i::l,R,cs,st,h,M',hs,hk=>by
  rw[qP]at h;simp only[iV,Ba]at M';split at h
  .rename_i cs1 h1;refine S1 hc M'.1 hs h1 λR' YW hle Ye=>?_;exact zL hc m l R' cs1 YW h M'.2 Ye λR'' st'' hle' hs''=>hk R'' st'' (hle.trans hle') hs''
  .cases h
def PA(hc:kL P call){i:az}(M':dv i=true)(hk3:aX i.op<=3)(h:cB K fl R cs st)(hr:(vD false i).f call fl cs=some Yy){K':St->Prop}
 (hk:∀R' YW,Le R R'->cB K fl R' Yy YW->K' YW):TC P i st K':=by
 have X9:jS i.op=true:=by simp only[dv,Ba]at M';exact M'.1
 rcases nG M' h hr with⟨hw,hr⟩|⟨hw,rfl⟩
 .rcases n7 i.op with h0|⟨fx,xs,h0⟩|⟨sz,a,x,h0⟩|h0|⟨sz,z,x,h0⟩|h0
  .obtain⟨v',h1,h2,h3⟩:=pq h0 X9 h hr;refine .inl (lI hw ?_);unfold TO;simp only[h0];exact⟨h1,v',h2,hk R _ (Le.refl R) h3⟩
  .rw[h0]at hr X9;refine .inr ⟨hw,?_⟩;rw[h0];simp only[jt,Ly]at hr;simp only[jS,Yq.xs,iV,Ba]at X9;split at hr
   .rename_i f caps hf;have hfx:=cc h.slot X9.1.1;rw[hf]at hfx;simp only[aq]at hfx;obtain⟨Ze,hf',hcaps⟩:=hfx;generalize YZ:call f (xs.map (·.ev cs.sf)++caps) cs.U cs.Yu fl=r at hr;cases r with
    |none=>simp[iL]at hr
    |some r=>
     simp only[iL,aB]at hr;refine⟨f,Ze,_,hf',hc _ _ _ _ _ _ YZ K R st.U _ h.mem ((fW h.slot X9.1.2).append hcaps),?_⟩;rintro v Z' ⟨R',hle,hv,hm⟩;have hS:cB K fl R' ⟨cs.s,r.U,r.Yu⟩ ⟨st.s,Z'⟩:=⟨λj=>aq.mono hle _ _ (h.slot j),hm⟩
     exact hk R' _ hle (hr▸hS.put hv)
   .cases hr
  .refine .inl (lI hw ?_);rw[h0]at hr X9;rw[h0];obtain⟨Z',h1,h2⟩:=qx X9 h hr;exact⟨Z',h1,hk R _ (Le.refl R) h2⟩
  .obtain⟨g',h1,h2⟩:=xi h0 X9 h hr;refine .inl (lI hw ?_);unfold TO;simp only[h0];refine⟨g',h1,λid O'=>?_⟩;obtain⟨R',h3,h4⟩:=h2 id O';exact hk R' _ h3 h4
  .rw[h0]at hk3;simp[aX]at hk3
  .exact(AZ h0 hr).elim
 .exact .inl (rm hw (hk R _ (Le.refl R) (h.put aq.AD)))
def NC{i:az}(M':dv i=true)(h:cB K fl R cs st)(hr:Qs call fl i cs=true):QYd P i st:=by
 unfold Qs at hr;rw[bP]at hr;split at hr
 .rename_i hk0;have hk0:=gn hk0;split at hr
  .rename_i Yy hcs;have X9:jS i.op=true:=by simp only[dv,Ba]at M';exact M'.1
   have key:∀u,(∀d,i.dst=some d->aq R (Yy.sf d) u)->∀d,i.dst=some d->u=st.s d:=λu hu d hd=>by
    rw[hd]at hr;have:=mP 40 _ _ hr;have h1:=hu d hd;rw[this]at h1;exact aq.fun h.mem.fn _ _ _ h1 (h.slot d)
   rcases nG M' h hcs with⟨hw,hcs⟩|⟨hw,rfl⟩
   .obtain⟨v',h1,h2,h3⟩:=pq hk0 X9 h hcs;have hq:QY P i st.s st.U v':=.inl ⟨hw,by unfold QO;simp only[hk0];exact⟨h1,h2⟩⟩;unfold QYd;cases hd:i.dst with
    |none=>exact⟨v',hq⟩
    |some d=>
     simp only;rw[<-key v' (λd' hd'=>by
      have:=h3.slot d';rw[hd']at this;simpa[aO]using this) d hd]
     exact hq
   .have hq:QY P i st.s st.U (.P' []):=.inr ⟨hw,rfl⟩;unfold QYd;cases hd:i.dst with
    |none=>exact⟨_,hq⟩
    |some d=>
     simp only;rw[<-key (.P' []) (λd' hd'=>by
      have:(cs.put i.dst (.P' [])).sf d'=.P' []:=by rw[Jb,hd'];simp[aO]
      rw[this];exact aq.AD) d hd]
     exact hq
  .cases hr
 .cases hr
def AE{l:List az}:∀(its:List Nat) (cs:CS),(∃Yy,x7 call fl l its cs=.nx Yy)\/x7 call fl l its cs=.bad
 |[],cs=>.inl ⟨cs,rfl⟩
 |m::ms,cs=>by
  simp only[x7,bP];split
  .exact .inr rfl
  .split
   .split
    .split
     .exact AE ms _
     .exact .inr rfl
    .exact .inr rfl
   .split
    .exact AE ms _
    .exact .inr rfl
def uK(hc:kL P call){l:List az}(M':l.all dv=true){K':St->Prop}:∀(its:List Nat) (R:Nat->Nat->Prop) (cs:CS) (st:St),x7 call fl l its cs=.nx Yy->cB K fl R cs st->
 (∀R' YW,Le R R'->cB K fl R' Yy YW->K' YW)->RE P l K' its st
 |[],R,cs,st,h,hs,hk=>by
  simp only[x7,Out.nx.injEq]at h;subst h;exact hk R st (Le.refl R) hs
 |m::ms,R,cs,st,h,hs,hk=>by
  simp only[x7,bP]at h;unfold RE;split at h
  .cases h
  .rename_i i hi;have hoki:dv i=true:=dX.1 M' i (vM hi)
   try rw[hi]
   try simp only
   split at h
   .rename_i hm;have hm:=gn hm;rw[ar hm];split at h
    .rename_i hk3;split at h
     .rename_i cs1 h1;exact PA hc hoki (oG hk3) hs h1 λR' YW hle Ye=>uK hc M' ms R' cs1 YW h Ye λR'' st'' hle' hs''=>hk R'' st'' (hle.trans hle') hs''
     .cases h
    .cases h
   .rename_i hm;have hm':¬m%2=0:=λe=>hm (by rw[e];rfl);rw[av hm'];split at h
    .rename_i hck;exact⟨NC hoki hs hck,uK hc M' ms R cs st h hs hk⟩
    .cases h
end
variable {P:Program} {n:Nat} {K:af} {R:Nat->Nat->Prop} {k:List It} {Q:St->Prop}
def Qc{n N r c:Nat}(h:c<n):rho n N r c=c:=by
 have h1:Nat.blt c n=true:=Nat.ble_eq_true_of_le h;unfold rho;rw[h1]
def Aa(n N r c:Nat):rho n N r c=if c<n then c else if c<N then(if c+r<N then c+r else c+r-(N-n))else c:=by
 unfold rho;simp only[bP,Nat.blt_eq];rfl
def KT{n N r c:Nat}(hn:n<=N)(hr:r<=N-n)(h:rho n N r c<N):c<N:=by
 rw[Aa]at h;split at h
 .omega
 .split at h<;>omega
def MK{n N r c c':Nat}(hn:n<=N)(hr:r<=N-n)(h:rho n N r c=rho n N r c'):c=c':=by
 simp only[Aa]at h;by_cases h1:c<n<;>by_cases h2:c<N<;>by_cases h3:c+r<N<;>by_cases h4:c'<n<;>by_cases h5:c'<N<;>by_cases h6:c'+r<N<;>simp only[h1,h2,h3,h4,h5,h6,if_true,if_false]at h<;>omega
def M8{n N r c:Nat}(hn:n<=N)(hr:r<=N-n)(h:rho n N r c<n):c=rho n N r c:=by
 rw[Aa]at h|-;split at h
 .rw[ar ‹_›]
 .split at h
  .split at h<;>omega
  .omega
def nD{ρ:Nat->Nat}{R':Nat->Nat->Prop}:∀(f:Nat) (v u x:V),nj ρ f v u=true->aq R' u x->aq (λc a=>R' (ρ c) a) v x
 |0,_,_,_,h,_=>by simp[nj]at h
 |f+1,v,u,x,h,hr=>by
  have hL:∀{l m y:List V},iN (nj ρ f) l m=true->aD R' m y->aD (λc a=>R' (ρ c) a) l y:=by
   intro l
   induction l with
   |nil=>
    intro m y h1 h2;cases m with
    |nil=>rw[aD.eS]at h2;subst h2;simp[aD]
    |cons a b=>simp[iN]at h1
   |cons a l ih=>
    intro m y h1 h2;cases m with
    |nil=>simp[iN]at h1
    |cons b m=>
     simp only[iN,bP]at h1;split at h1
     .rename_i hab;obtain⟨z,zs,rfl,h3,h4⟩:=aD.bu.1 h2;exact aD.bu.2 ⟨z,zs,rfl,nD f _ _ _ hab h3,ih h1 h4⟩
     .cases h1
  cases v<;>cases u<;>simp only[nj,eQ,Ba,Zq9,beq_iff_eq]at h<;>simp only[aq]at hr|-
  case int.int=>rw[hr,FP h.2,of_decide_eq_true (p:=_=_) h.1]
  case bool.bool=>rw[hr,h]
  case str.str=>rw[hr,h]
  case aC.aC=>exact hr
  case nilp.nilp=>exact hr
  case YS.YS=>exact hr
  case Yt.Yt=>exact hr
  case own.own=>obtain⟨i,rfl,r⟩:=hr;exact⟨i,by rw[gn h.2.1,gn h.2.2],by rw[gn h.1];exact r⟩
  case ptr.ptr=>obtain⟨i,rfl,r⟩:=hr;exact⟨i,by rw[gn h.2.1,gn h.2.2],by rw[gn h.1];exact r⟩
  case yl.yl=>obtain⟨i,rfl,r⟩:=hr;exact⟨i,rfl,by rw[gn h];exact r⟩
  case sl.sl=>obtain⟨y,rfl,r⟩:=hr;exact⟨y,by rw[gn h.1],hL h.2 r⟩
  case rp.rp=>obtain⟨y,rfl,r⟩:=hr;exact⟨y,rfl,nD f _ _ _ h r⟩
  case iface.iface=>obtain⟨y,rfl,r⟩:=hr;exact⟨y,by rw[gn h.1],nD f _ _ _ h.2 r⟩
  case fn.fn=>obtain⟨y,rfl,r⟩:=hr;exact⟨y,by rw[gn h.1],hL h.2 r⟩
  case bm.bm=>obtain⟨y,rfl,r⟩:=hr;exact⟨y,by rw[gn h.1],hL h.2 r⟩
  case agg.agg=>obtain⟨y,rfl,r⟩:=hr;exact⟨y,rfl,hL h r⟩
  case P'.P'=>obtain⟨y,rfl,r⟩:=hr;exact⟨y,rfl,hL h r⟩
def B7{ρ:Nat->Nat}{R':Nat->Nat->Prop}{f:Nat}:∀{l m y:List V},iN (nj ρ f) l m=true->aD R' m y->aD (λc a=>R' (ρ c) a) l y
 |[],m,y,h1,h2=>by
  cases m with
  |nil=>rw[aD.eS]at h2;subst h2;simp[aD]
  |cons a b=>simp[iN]at h1
 |a::l,m,y,h1,h2=>by
  cases m with
  |nil=>simp[iN]at h1
  |cons b m=>
   simp only[iN,bP]at h1;split at h1
   .rename_i hab;obtain⟨z,zs,rfl,h3,h4⟩:=aD.bu.1 h2;exact aD.bu.2 ⟨z,zs,rfl,nD f _ _ _ hab h3,B7 h1 h4⟩
   .cases h1
def E2{α:Type}{f:α->α->Bool}{d:α}(hd:f d d=true):∀(p:List Bool) (t t':Tr α),trB f t t'=true->f (gL d p t) (gL d p t')=true
 |p,.e,.e,_=>by rw[LL];exact hd
 |[],.n l v r,.n l' v' r',h=>by
  simp only[trB,bP]at h;split at h
  .rename_i hv;exact hv
  .cases h
 |b::p,.n l v r,.n l' v' r',h=>by
  simp only[trB,bP]at h;split at h
  .split at h
   .rename_i hl;cases b
    .exact E2 hd p r r' h
    .exact E2 hd p l l' hl
   .cases h
  .cases h
 |_,.e,.n _ _ _,h=>by simp[trB]at h
 |_,.n _ _ _,.e,h=>by simp[trB]at h
def FR{α:Type}{f:α->α->Bool}{d:α}(hd:f d d=true){t t':Tr α}(h:trB f t t'=true)(i:Nat):f (eZ d i t) (eZ d i t')=true:=by
 unfold eZ;rw[oY _ _ _ _ (jh i),oY _ _ _ _ (jh i)];exact E2 hd _ _ _ h
def vQ{U:Tr (Option Ob)}{n i:Nat}:∀{m:Nat},(i<n\/n+m<=i)->eZ none i (Iq U n m)=eZ none i U
 |0,_=>rfl
 |m+1,h=>by
  have e:Nat.add n m=n+m:=rfl;rw[Iq,kF,av (by omega)];exact vQ (by omega)
def yR{ρ:Nat->Nat}{A B:Tr (Option Ob)}{n:Nat}:∀{m:Nat},FD ρ A B n m=true->∀i,n<=i->i<n+m->D9 ρ (eZ none i A) (eZ none (ρ i) B)=true
 |0,_,i,_,_=>by omega
 |m+1,h,i,h1,h2=>by
  simp only[FD,bP]at h;split at h
  .rename_i hr;by_cases e:i=n+m
   .subst e;exact hr
   .exact yR h i h1 (by omega)
  .cases h
def wQ{f:Nat->Bool}:∀{m:Nat},GA f m=true->∃r,f r=true
 |0,h=>⟨0,h⟩
 |m+1,h=>by
  simp only[GA,bP]at h;split at h
  .rename_i hf;exact⟨_,hf⟩
  .exact wQ h
def BQ{ρ:Nat->Nat}{a b:Option Ob}(h:D9 ρ a b=true){o:Ob}(ha:a=some o):∃o',b=some o'/\o.elem=o'.elem/\o.sz=o'.sz/\iN (nj ρ 40) o.rows o'.rows=true:=by
 subst ha;cases b with
 |none=>simp[D9]at h
 |some o'=>
  simp only[D9,Ba]at h;exact⟨o',rfl,gn h.1,gn h.2.1,h.2.2⟩
def Mo{fl m:Nat}{A B:CS}(h:Nr fl m A B=true){R0 R':Nat->Nat->Prop}(hd:∀c a,R0 c a->c<m)(hle:Le R0 R'){st:St}(hs:cB K fl R' B st):∃R'',Le R0 R''/\cB K fl R'' A st:=by
 unfold Nr at h;rw[bP]at h;split at h
 .rename_i hc;simp only[Ba,Nat.ble_eq]at hc;obtain⟨hN,hfl,hmN⟩:=hc;have hN:=gn hN;obtain⟨r,hr⟩:=wQ h;generalize hNN:A.Yu=N at*;unfold Ue at hr;rw[bP]at hr;split at hr
  .rename_i hrN;rw[bP]at hr;split at hr
   .rename_i YK;rw[bP]at hr;split at hr
    .rename_i hsl;have hrN:r<=N-m:=oG hrN;generalize hρ:rho m N r=ρ at*;have key:∀c o,ZH A.U c=some o->∃o',ZH B.U (ρ c)=some o'/\o.elem=o'.elem/\o.sz=o'.sz/\iN (nj ρ 40) o.rows o'.rows=true:=by
      intro c o ho;by_cases hin:m<=c/\c<N
      .exact BQ (yR YK c hin.1 (by have:Nat.sub N m=N-m:=rfl;omega)) ho
      .have ZA:ρ c=c:=by rw[<-hρ,Aa];split<;>(try split)<;>omega
       have h1:=FR (d:=none) (by simp[D9]) hr c;rw[vQ (by have:Nat.sub N m=N-m:=rfl;omega),vQ (by have:Nat.sub N m=N-m:=rfl;omega)]at h1;rw[ZA];exact BQ h1 ho
     refine⟨λc a=>R' (ρ c) a,λc a hR=>?_,⟨λi=>?_,?_⟩⟩
     .have:ρ c=c:=by rw[<-hρ];exact Qc (hd c a hR)
      show R' (ρ c) a;rw[this];exact hle c a hR
     .have h1:nj ρ 40 (A.sf i) (B.sf i)=true:=FR (d:=V.P' []) (by simp[nj,iN]) hsl i;exact nD 40 _ _ _ h1 (hs.slot i)
     .have hm:=hs.mem;refine⟨λc a hR=>?_,λc a o hR ho=>?_,λc c' a o o' h1 h2 h3 h4=>?_,λc a a' h1 h2=>hm.fn _ a a' h1 h2,hm.gJ,λa o c oc h1 h2 h3=>?_⟩
      .have h1:=hm.dom _ a hR;rw[<-hN]at h1;rw[hNN];exact KT hmN hrN (by rw[hρ];exact h1)
      .obtain⟨o',g1,g2,g3,g4⟩:=key c o ho;obtain⟨X6,g5,g6⟩:=hm.live _ a o' hR g1;exact⟨X6,by rw[g2,g3];exact g5,B7 g4 g6⟩
      .obtain⟨x,g1,_⟩:=key c o h3;obtain⟨y,g2,_⟩:=key c' o' h4;have:=hm.inj _ _ a x y h1 h2 g1 g2;rw[<-hρ]at this;exact MK hmN hrN this
      .obtain⟨x,g1,_⟩:=key c oc h3;have h4:=hm.kfl a o _ x h1 h2 g1;have h5:rho m N r c<m:=by rw[hρ];omega
       have h6:=M8 hmN hrN h5;rw[h6,hρ];exact h4
    .cases hr
   .cases hr
  .cases hr
 .cases h
def xy{g:PT->Out}{fl m:Nat}{A:CS}:∀{kids:List PT},FE g fl m A kids=true->∀k∈kids,∃B,g k=.nx B/\Nr fl m A B=true
 |[],_,k,hk=>by cases hk
 |a::r,h,k,hk=>by
  simp only[FE]at h;split at h
  .rename_i B hB;rw[sH]at h;split at h
   .rename_i hc;rcases cg.1 hk with rfl|hk
    .exact⟨B,hB,hc⟩
    .exact xy h k hk
   .cases h
  .cases h
def O6{call:gB}{fl:Nat}{l:List az}:∀(f:Nat) (pre:List Nat) (t:PT) (cs:CS),(∃Yy,evT call fl l f pre t cs=.nx Yy)\/evT call fl l f pre t cs=.bad
 |0,_,_,_=>.inr rfl
 |f+1,pre,t,cs=>by
  cases t with
  |leaf Yo r=>exact AE (call:=call) (fl:=fl) (l:=l) _ cs
  |fork Yo m S kids=>
   simp only[evT];split
   .rename_i cs0 h0;cases kids with
    |nil=>exact .inr rfl
    |cons k r=>
     simp only[Ig];split
     .rw[sH];split
      .exact .inl ⟨_,rfl⟩
      .exact .inr rfl
     .exact .inr rfl
   .exact .inr rfl
def EF{call:gB}{fl:Nat}(hc:kL P call){l:List az}(M':l.all dv=true){K':St->Prop}:∀(f:Nat) (pre:List Nat) (t:PT) (R:Nat->Nat->Prop) (cs:CS) (st:St) {Yy:CS},evT call fl l f pre t cs=.nx Yy->cB K fl R cs st->
 (∀R' YW,Le R R'->cB K fl R' Yy YW->K' YW)->GT P l K' f pre t st
 |0,_,_,_,_,_,_,h,_,_=>by cases h
 |f+1,pre,t,R,cs,st,Yy,h,hs,hk=>by
  cases t with
  |leaf Yo r=>exact uK hc M' _ R cs st h hs hk
  |fork Yo m S kids=>
   simp only[evT]at h;split at h
   .rename_i cs0 h0;refine uK hc M' _ R cs st h0 hs λR0 st0 hle0 YL=>?_;cases kids with
    |nil=>cases h
    |cons k r=>
     simp only[Ig]at h;split at h
     .rename_i A hA;rw[sH]at h;split at h
      .rename_i hE;simp only[Out.nx.injEq]at h;subst h;intro kid hkid;rcases cg.1 hkid with rfl|hkid
       .exact EF hc M' f _ _ R0 cs0 st0 hA YL λR1 st1 hle1 ZM=>hk R1 st1 (hle0.trans hle1) ZM
       .obtain⟨B,hB,hck⟩:=xy hE kid hkid;refine EF hc M' f _ _ R0 cs0 st0 hB YL λR1 st1 hle1 ZM=>?_;obtain⟨R2,hle2,hs2⟩:=Mo hck (λc a h=>YL.mem.dom c a h) hle1 ZM;exact hk R2 st1 (hle0.trans hle2) hs2
      .cases h
     .cases h
   .cases h
def KZ{l:List az}{Yi:List (List Nat)}{t:PT}(h:Gk l Yi=some t):ES l 8 Yi [] t=true:=by
 unfold Gk N3 at h;rw[bP]at h;split at h
 .rename_i hc;simp only[aB]at h;subst h;exact hc
 .cases h
variable {P:Program} {n:Nat} {K:af} {R:Nat->Nat->Prop} {k:List It} {Q:St->Prop}
def fG.Xy{fl Yu:Nat}{Zc U:af}(h:fG K fl R Zc Yu U)(c:Nat):fG K fl R (del Zc c) Yu U:=by
 have hlive:∀i x,del Zc c i=some x->Zc i=some x:=λi x hx=>by
  by_cases e:i=c
  .subst e;simp[Vc.del]at hx
  .rw[bR e]at hx;exact hx
 exact⟨h.dom,λc1 a1 o1 h1 h2=>h.live c1 a1 o1 h1 (hlive _ _ h2),λc1 c2 a1 o1 o2 h1 h2 h3 h4=>h.inj c1 c2 a1 o1 o2 h1 h2 (hlive _ _ h3) (hlive _ _ h4),h.fn,h.gJ,
  λa1 o1 c1 oc h1 h2 h3=>h.kfl a1 o1 c1 oc h1 h2 (hlive _ _ h3)⟩
def pf{Yu:Nat}:∀(ids:List Nat) (Zt:Tr (Option Ob)) (U:af),fG K 0 R (ZH Zt) Yu U->∃Z',aa Z' U/\fG K 0 R (ZH (zo ids Zt)) Yu Z'/\
 ∀c∈ids,∀a o,R c a->ZH Zt c=some o->Z' a=none
 |[],Zt,U,h=>⟨U,aa.refl _,h,by simp⟩
 |c::cs,Zt,U,h=>by
  cases hc:eZ none c Zt with
  |none=>
   obtain⟨Z',h1,h2,h3⟩:=pf cs Zt U h;refine⟨Z',h1,by simp only[zo,hc];exact h2,λc' hc' a o hR ho=>?_⟩;rcases cg.1 hc' with rfl|hc'
   .have:ZH Zt c'=none:=hc;rw[this]at ho;cases ho
   .exact h3 c' hc' a o hR ho
  |some ob=>
   have YV:ZH Zt c=some ob:=hc;have Zk:ZH (j3 none none c Zt)=del (ZH Zt) c:=Gv _ _;have hoth:∀c' o,c'≠c->ZH Zt c'=some o->ZH (j3 none none c Zt) c'=some o:=λc' o YA ho=>by rw[Zk,bR YA];exact ho
   by_cases hex:∃a,R c a
   .obtain⟨a0,ha0⟩:=hex;have hm1:=h.rem ha0 YV (Nat.zero_le _);rw[<-Zk]at hm1;obtain⟨Z',h1,h2,h3⟩:=pf cs _ _ hm1;refine⟨Z',h1.trans λi o hi=>?_,by simp only[zo,hc];exact h2,λc' hc' a o hR ho=>?_⟩
    .by_cases e:i=a0
     .subst e;simp[Vc.del]at hi
     .rw[bR e]at hi;exact hi
    .by_cases e:c'=c
     .subst e;have:=h.fn _ _ _ hR ha0;subst this;exact h1.none (by simp[Vc.del])
     .exact h3 c' ((cg.1 hc').resolve_left e) a o hR (hoth c' o e ho)
   .have hm1:=h.Xy c;rw[<-Zk]at hm1;obtain⟨Z',h1,h2,h3⟩:=pf cs _ _ hm1;refine⟨Z',h1,by simp only[zo,hc];exact h2,λc' hc' a o hR ho=>?_⟩;by_cases e:c'=c
    .subst e;exact absurd ⟨a,hR⟩ hex
    .exact h3 c' ((cg.1 hc').resolve_left e) a o hR (hoth c' o e ho)
def yO:∀(ps:List Nat) (x:List V) (s0:Tr V) (s:Nat->V),cd x=true->(∀i,aq R (eZ (.P' []) i s0) (s i))->∀i,aq R (eZ (.P' []) i (th ps x s0)) (kW s ps x i)
 |[],x,s0,s,_,h,i=>by simp only[th,kW];exact h i
 |_::_,[],s0,s,_,h,i=>by simp only[th,kW];exact h i
 |p::ps,x::xs,s0,s,hx,h,i=>by
  simp only[cd,Ba]at hx;simp only[th,kW];refine yO ps xs _ _ hx.2 (λj=>?_) i;rw[kF];split
  .exact cU x hx.1
  .exact h j
def bsd(ZJ U J:af):af:=λid=>match ZJ id,U id with
 |none,some _=>none
 |_,_=>J id
def Bb{ZJ U J:af}{id:Nat}{o:Ob}(h:ZJ id=none)(h':U id=some o):bsd ZJ U J id=none:=by simp[bsd,h,h']
def vO{ZJ U J:af}{id:Nat}(h:¬(ZJ id=none/\U id≠none)):bsd ZJ U J id=J id:=by
 unfold bsd;split
 .rename_i h1 h2;exact absurd ⟨h1,by rw[h2];simp⟩ h
 .rfl
def oL{ZJ U J:af}{Zc Zc2:af}{nx nx2:Nat}{R2:Nat->Nat->Prop}(hm0:fG K 0 R Zc nx ZJ)(hm2:fG (λid=>match ZJ id with|none=>U id|some _=>K id) 0 R2 Zc2 nx2 J):
 ∃Z2,aT ZJ U Z2 J/\fG K 0 R2 Zc2 nx2 Z2:=by
 have hK:∀id,ZJ id=none->(match ZJ id with|none=>U id|some _=>K id)=U id:=λid h=>by rw[h]
 have hK':∀id o,ZJ id=some o->(match ZJ id with|none=>U id|some _=>K id)=K id:=λid o h=>by rw[h]
 have key:∀c a o,R2 c a->Zc2 c=some o->¬(ZJ a=none/\U a≠none):=by
  rintro c a o hc ho ⟨h1,h2⟩;cases hs:U a with
  |none=>exact h2 hs
  |some x=>have:=hm2.kfl a x c o (by rw[hK a h1];exact hs) hc ho;omega
 refine⟨bsd ZJ U J,⟨λid o h=>?_,λid o h1 h2=>⟨hm2.gJ id o (by rw[hK id h1];exact h2),Bb h1 h2⟩⟩,hm2.dom,?_,hm2.inj,hm2.fn,?_,?_⟩
 .by_cases hc:ZJ id=none/\U id≠none
  .cases hs:U id with
   |none=>exact absurd hs hc.2
   |some x=>rw[Bb hc.1 hs]at h;cases h
  .rw[vO hc]at h;exact h
 .intro c a o hc ho;obtain⟨rows,h1,h2⟩:=hm2.live c a o hc ho;exact⟨rows,by rw[vO (key c a o hc ho)];exact h1,h2⟩
 .intro id o h;have h1:=hm0.gJ id o h;rw[vO (by rw[h1];simp)];exact hm2.gJ id o (by rw[hK' id o h1];exact h)
 .intro a o c oc h1 h2 h3;exact hm2.kfl a o c oc (by rw[hK' a o (hm0.gJ a o h1)];exact h1) h2 h3
def PW{run:Nat->bf->CS->Out}
 (ih:∀(K:af) (R:Nat->Nat->Prop) (c:bf) (cs:CS) (st:St) (k:List It) (Q:St->Prop),bT c=true->cB K 0 R cs st->ux P n K 0 R k Q (run 0 c cs)->ab P n (.code c::k) st Q)
 {d gf:Nat}{ps:List Nat}{a b:bf}{caps:List V}{xs:List (List V)}(hit:Iter P gf caps xs)(ha:bT a=true)(hb:bT b=true)
 (hxs:(xs.all λx=>cd x&&Nat.beq x.length ps.length)=true){s0:Tr V}{Zt:Tr (Option Ob)}{Yu:Nat}{st:St}(hs:cB K 0 R ⟨s0,Zt,Yu⟩ st)(hg:st.s d=.fn gf caps)
 (L':ux P n K 0 R k Q (EZ s0 ps (C7 run a b) xs Zt Yu)):ab P n (.code (.cA (.t d) ps a b)::k) st Q:=by
 generalize hT:EZ s0 ps (C7 run a b) xs Zt Yu=total at L';have YU:∀x∈xs,cd x=true/\x.length=ps.length:=λx hx=>by
  have:=dX.1 hxs x hx;simp only[Ba]at this;exact⟨this.1,gn this.2⟩
 refine ab.cA (g:=.t d) hg hit (λx hx=>(YU x hx).2) (match total with|.ex id _=>[id]|_=>[])
  (λpre Za=>∃Zc nx R',Le R R'/\fG K 0 R' (ZH Zc) nx Za/\EZ s0 ps (C7 run a b) (xs.drop pre.length) Zc nx=total)
  (λe _ Za=>∃Yy R',Le R R'/\fG K 0 R' (ZH Yy.U) Yy.Yu Za/\Yy.s=s0/\total=(match e with|some id=>.ex id Yy|none=>.rt Yy))
  ⟨Zt,Yu,R,Le.refl R,hs.mem,hT⟩ ?_ ?_ ?_ ?_
 .rintro pre x post ZJ U hxs' ⟨Zc,nx,R',hle,hm,htot⟩ G';have hdrop:xs.drop pre.length=x::post:=by rw[hxs'];simp
  rw[hdrop]at htot;have Yx:=(YU x (by rw[hxs'];simp)).1;have hm':fG (λid=>match ZJ id with|none=>U id|some _=>K id) 0 R' (ZH Zc) nx U:=by
   refine⟨hm.dom,hm.live.sup G',hm.inj,hm.fn,λid o h=>?_,λa o c oc h1 h2 h3=>?_⟩
   .have h:(match ZJ id with|none=>U id|some _=>K id)=some o:=h
    split at h
    .exact h
    .exact G' _ _ (hm.gJ _ _ h)
   .have h1:(match ZJ a with|none=>U a|some _=>K a)=some o:=h1
    split at h1
    .rename_i hn;obtain⟨r,hr,_⟩:=hm.live c a oc h2 h3;rw[hn]at hr;cases hr
    .exact hm.kfl a o c oc h1 h2 h3
  have hS:cB (λid=>match ZJ id with|none=>U id|some _=>K id) 0 R' ⟨th ps x s0,Zc,nx⟩ ⟨kW st.s ps x,U⟩:=
   ⟨yO ps x s0 st.s Yx λi=>aq.mono hle _ _ (hs.slot i),hm'⟩
  have X7:xs.drop (pre++[x]).length=post:=by rw[hxs'];simp
  refine ih _ R' a _ _ _ _ ha hS ?_;simp only[EZ,C7]at htot;generalize run 0 a ⟨th ps x s0,Zc,nx⟩=oa at htot;cases oa with
  |nx cs1=>
   intro R1 st1 hle1 ZM;refine ab.stop ?_;refine ih _ R1 b cs1 st1 _ _ hb ZM ?_;simp only at htot;generalize run 0 b cs1=ob at htot;cases ob with
   |nx cs2=>
    intro R2 st2 hle2 hs2;refine ab.stop ?_;obtain⟨Z2,Zl,hm2⟩:=oL hm hs2.mem;exact⟨Z2,Zl,cs2.U,cs2.Yu,R2,hle.trans (hle1.trans hle2),hm2,by rw[X7];exact htot⟩
   |ex id cs2=>
    simp only at htot;subst htot;refine⟨_,by simp[exK,fZ];rfl,λR2 st2 hle2 hs2=>?_⟩;refine ab.stop ?_;obtain⟨Z2,Zl,hm2⟩:=oL hm hs2.mem;exact⟨Z2,Zl,⟨s0,cs2.U,cs2.Yu⟩,R2,hle.trans (hle1.trans hle2),hm2,rfl,rfl⟩
   |rt cs2=>
    simp only at htot;subst htot;intro R2 st2 hle2 hs2;obtain⟨Z2,Zl,hm2⟩:=oL hm hs2.mem;exact⟨Z2,Zl,⟨s0,cs2.U,cs2.Yu⟩,R2,hle.trans (hle1.trans hle2),hm2,rfl,rfl⟩
   |bad=>
    simp only at htot;subst htot;exact L'.elim
  |ex id cs1=>simp only at htot;subst htot;exact L'.elim
  |rt cs1=>simp only at htot;subst htot;exact L'.elim
  |bad=>simp only at htot;subst htot;exact L'.elim
 .rintro Z' ⟨Zc,nx,R',hle,hm,htot⟩;rw[x5]at htot;simp only[EZ]at htot;subst htot;exact L' R' _ hle ⟨λi=>aq.mono hle _ _ (hs.slot i),hm⟩
 .rintro id O' pre Z'-⟨Yy,R',hle,hm,h1,h2⟩;simp only at h2;subst h2;obtain⟨k',h3,h4⟩:=L';refine ab.exit h3 (h4 R' _ hle ⟨λi=>?_,hm⟩);show aq R' (eZ (.P' []) i Yy.s) _;rw[h1];exact aq.mono hle _ _ (hs.slot i)
 .rintro pre Z'-⟨Yy,R',hle,hm,h1,h2⟩;simp only at h2;subst h2;refine ab.ret (L' R' _ hle ⟨λi=>?_,hm⟩);show aq R' (eZ (.P' []) i Yy.s) _;rw[h1];exact aq.mono hle _ _ (hs.slot i)
def MU(P:Program)(T:Tb)(fuel:Nat):Prop:=∀(n:Nat) (K:af) (fl:Nat) (R:Nat->Nat->Prop) (c:bf) (cs:CS) (st:St) (k:List It) (Q:St->Prop),
 bT c=true->cB K fl R cs st->ux P n K fl R k Q (de T fuel fl c cs)->ab P n (.code c::k) st Q
def A4{T:Tb}{fuel:Nat}(ih:MU P T fuel){g:FuncId}{vf:Yb}(hk:bV P g=true/\lP vf=true/\∃fn,P.funcs[g]?=some fn/\cfn P fn=some vf){args:List V}{Zc:Tr (Option Ob)}{Yu fl:Nat}{r:Rs}
 (hlen:args.length<=vf.n)(hr:MZ vf.res (de T fuel fl vf.code ⟨Tr.ofL args 0 .e,Zc,Yu⟩)=some r){K:af}{R:Nat->Nat->Prop}{U:af}{args':List V}(hm:fG K fl R (ZH Zc) Yu U)(YE:aD R args args'):
 au P g args' U λv Z'=>∃R',Le R R'/\aq R' r.v v/\fG K fl R' (ZH r.U) r.Yu Z':=by
 obtain⟨YZ,M',fn,hf,hcf⟩:=hk;simp only[lP,Ba]at M';refine au.jT hf hcf YZ (by rw[YE.length];exact hlen) ?_;have hs:cB K fl R ⟨Tr.ofL args 0 .e,Zc,Yu⟩ ⟨ef args',U⟩:=by
  refine⟨λi=>?_,hm⟩;show aq R (eZ (.P' []) i (Tr.ofL args 0 .e)) (args'.getD i (.P' []));rw[Ag,wN];by_cases hi:i<args.length
  .rw[ar ⟨Nat.zero_le _,by omega⟩,Nat.sub_zero];obtain⟨u,h1,h2⟩:=YE.get (Zq6 hi);simp only[sC,h1,Zq6 hi,Option.getD_some];exact h2
  .rw[av (by omega)];have:args'[i]?=none:=rO (by rw[YE.length];omega);simp only[sC,this,Option.getD_none];simp[aq,aD]
 have Zg:∀Yy,A6 vf.res Yy=some r->∀R' st,Le R R'->cB K fl R' Yy st->Ret vf.res st λv Z'=>∃R',Le R R'/\aq R' r.v v/\fG K fl R' (ZH r.U) r.Yu Z':=by
  intro Yy hq R' st hle Ye;unfold A6 at hq;split at hq
  .rename_i v hv;simp only[aB]at hq;subst hq;obtain⟨v',g1,g2⟩:=DR Ye M'.2 hv;exact⟨v',v',st.U,g1,aa.refl _,Wk.refl (aa.refl _) _,R',hle,g2,Ye.mem⟩
  .cases hq
 refine ih vf.n K fl R vf.code _ _ [] _ M'.1 hs ?_;generalize de T fuel fl vf.code ⟨Tr.ofL args 0 .e,Zc,Yu⟩=o at hr;cases o<;>simp only[MZ,reduceCtorEq]at hr
 .exact λR' st hle Ye=>ab.nil (Zg _ hr R' st hle Ye)
 .exact λR' st hle Ye=>Zg _ hr R' st hle Ye
def I3{T:Tb}{fuel:Nat}(ih:MU P T fuel){g:FuncId}{vf:Yb}(hk:bV P g=true/\lP vf=true/\∃fn,P.funcs[g]?=some fn/\cfn P fn=some vf){args:List V}{v:V}
 (h:evZ (de T fuel) vf args=some v)(ha:cd args=true):aJ P g args v:=by
 intro U;unfold evZ at h;rw[bP]at h;split at h
 .rename_i hlen;split at h
  .rename_i r hr;have hm:fG U 0 (λ_ _=>False) (ZH .e) 0 U:=⟨λ_ _ h=>h.elim,λ_ _ _ h=>h.elim,λ_ _ _ _ _ h=>h.elim,λ_ _ _ h=>h.elim,aa.refl U,λ_ _ _ _ _ h=>h.elim⟩
   refine(A4 ih hk (oG hlen) hr hm (eW args ha)).Aj ?_;rintro u Z' ⟨R',_,h1,h2⟩;refine⟨v,U,h2.gJ,(vq h2.live 40 r.v u v h h1).wk h2.gJ ?_,rfl,rfl⟩;rintro a ⟨c,o,hc,ho⟩;cases hk:U a with
   |none=>rfl
   |some x=>have:=h2.kfl a x c o hk hc ho;omega
  .cases h
 .cases h
def Dz{T:Tb}(hT:TOk P T){fuel:Nat}(ih:MU P T fuel):kL P (iZ (de T fuel) T.fn):=by
 intro g args Zc Yu fl r hr K R U args' hm YE;unfold iZ at hr;split at hr
 .cases hr
 .rename_i kd hkd;have M':=hT.fn g kd hkd;split at hr
  .rename_i vf;rw[bP]at hr;split at hr
   .rename_i hlen;exact A4 ih M' (oG hlen) hr hm YE
   .cases hr
  .rename_i vf;exact yu (λas1 v h1 h2 _=>I3 ih M' h1 h2) hr hm YE
  .exact yu M' hr hm YE
def yP(T:Tb)(f fl:Nat)(c:bf)(cs:CS):de T (f+1) fl c cs=match c with
 |.skip=>.nx cs
 |.reg draw l=>jf draw (iZ (de T f) T.fn) fl l cs
 |.seq a b=>xU (de T f fl a cs) λYy=>de T f fl b Yy
 |.cond c a b=>onB (c.ev cs.sf) (de T f fl a cs) (de T f fl b cs)
 |.block id a=>QD id (de T f fl a cs)
 |.loop a=>xU (de T f fl a cs) λYy=>de T f fl (.loop a) Yy
 |.exit id=>.ex id cs
 |.ret=>.rt cs
 |.cA g ps a b=>evR (de T f) T.it fl g ps a b cs
 |.regA l Yi=>evA (iZ (de T f) T.fn) fl l Yi cs
 |.nq l e=>xU (jf true (iZ (de T f) T.fn) fl l cs) λYy=>jf false (iZ (de T f) T.fn) fl e Yy
 |.bad=>.bad:=rfl
def AM{T:Tb}(hT:TOk P T):∀fuel,MU P T fuel:=by
 intro fuel
 induction fuel using Nat.strongRecOn with
 |_ fuel ih=>
  intro n K fl R c cs st k Q M' hs L';cases fuel with
  |zero=>exact L'.elim
  |succ f=>
   have ihf:=ih f (by omega);have Zi:=Dz hT ihf;rw[yP]at L';cases c with
   |skip=>exact ab.skip (L' R st (Le.refl R) hs)
   |reg draw l=>
    simp only[bT]at M';simp only[jf]at L';cases draw
    .simp only at L';rcases pT (call:=iZ (de T f) T.fn) (fl:=fl) 1000 l cs with⟨Yy,he⟩|he
     .rw[he]at L';exact ab.region (vw Zi 1000 l R cs st he M' hs L')
     .rw[he]at L';exact L'.elim
    .simp only at L';rcases mz (call:=iZ (de T f) T.fn) (fl:=fl) 1000 l cs with⟨Yy,he⟩|he
     .rw[he]at L';exact ab.Fu (zL Zi 1000 l R cs st he M' hs L')
     .rw[he]at L';exact L'.elim
   |seq a b=>
    simp only[bT,Ba]at M';refine ab.seq (ihf n K fl R a cs st _ Q M'.1 hs ?_);simp only[xU]at L';generalize de T f fl a cs=o at L';cases o with
    |nx cs1=>exact λR1 st1 hle1 ZM=>ihf n K fl R1 b cs1 st1 k Q M'.2 ZM (L'.le hle1)
    |ex id cs1=>exact L'
    |rt cs1=>exact L'
    |bad=>exact L'
   |cond c a b=>
    simp only[bT,Ba]at M';have hv:=cc hs.slot M'.1;have L':ux P n K fl R k Q (onB (c.ev cs.sf) (de T f fl a cs) (de T f fl b cs)):=L';unfold onB at L';split at L'
    .rename_i t ht;rw[ht,aq.iF]at hv;refine ab.cond hv (λe=>?_) (λe=>?_)
     .subst e;exact ihf n K fl R a cs st k Q M'.2.1 hs L'
     .subst e;exact ihf n K fl R b cs st k Q M'.2.2 hs L'
    .exact L'.elim
   |block id a=>
    simp only[bT]at M';refine ab.block (ihf n K fl R a cs st _ Q M' hs ?_);simp only[QD]at L';generalize de T f fl a cs=o at L';cases o with
    |nx cs1=>exact λR1 st1 hle1 ZM=>ab.inBlock (L' R1 st1 hle1 ZM)
    |ex j cs1=>
     simp only[sH]at L';by_cases hj:j=id
     .subst hj;rw[ar (by rw[Nat.beq_eq])]at L';exact⟨k,by simp[fZ],L'⟩
     .rw[av (by rw[Nat.beq_eq];exact hj)]at L';obtain⟨k',h1,h2⟩:=L';exact⟨k',by simp[fZ,hj,h1],h2⟩
    |rt cs1=>exact L'
    |bad=>exact L'
   |loop a=>
    have hok':=M';simp only[bT]at M';have hthen0:ux P n K fl R k Q (de T (f+1) fl (.loop a) cs):=L';generalize ho:de T (f+1) fl (.loop a) cs=o at hthen0;refine ab.loop (λm st=>m<=f+1/\∃R1 cs1,Le R R1/\cB K fl R1 cs1 st/\de T m fl (.loop a) cs1=o) (f+1) ⟨YQ _,R,cs,Le.refl R,hs,ho⟩ ?_;rintro m st1 ⟨hm,R1,cs1,hle1,ZM,ho1⟩;cases m with
    |zero=>
     have:o=.bad:=ho1.symm;rw[this]at hthen0;exact hthen0.elim
    |succ m=>
     have ihm:=ih m (by omega);rw[yP]at ho1;refine ihm n K fl R1 a cs1 st1 _ Q M' ZM ?_;simp only[xU]at ho1;generalize de T m fl a cs1=o1 at ho1;cases o1 with
     |nx cs2=>exact λR2 st2 hle2 hs2=>ab.stop ⟨m,by omega,by omega,R2,cs2,hle1.trans hle2,hs2,ho1⟩
     |ex id cs2=>
      have ho1:Out.ex id cs2=o:=ho1;rw[<-ho1]at hthen0;obtain⟨k',h1,h2⟩:=hthen0;exact⟨k',by simpa[fZ]using h1,λR2 st2 hle2 hs2=>h2 R2 st2 (hle1.trans hle2) hs2⟩
     |rt cs2=>
      have ho1:Out.rt cs2=o:=ho1;rw[<-ho1]at hthen0;exact λR2 st2 hle2 hs2=>hthen0 R2 st2 (hle1.trans hle2) hs2
     |bad=>
      have ho1:Out.bad=o:=ho1;rw[<-ho1]at hthen0;exact hthen0.elim
   |exit id=>
    obtain⟨k',h1,h2⟩:=L';exact ab.exit h1 (h2 R st (Le.refl R) hs)
   |ret=>exact ab.ret (L' R st (Le.refl R) hs)
   |cA g ps a b=>
    simp only[bT,Ba]at M';have L':ux P n K fl R k Q (evR (de T f) T.it fl g ps a b cs):=L';unfold evR at L';rw[bP]at L';split at L'
    .rename_i hfl;have hfl:=gn hfl;subst hfl;split at L'
     .rename_i d _;split at L'
      .rename_i gf caps hd;split at L'
       .rename_i h hI;split at L'
        .rename_i Ze hcaps;split at L'
         .rename_i xs hxs;unfold T0 at L';rw[bP]at L';split at L'
          .rename_i YU;have Yx:=oZ (lM 40 cs.U) hcaps;have hit:=hT.it gf h hI Ze xs hxs Yx;obtain⟨Z',g1,g2,g3⟩:=pf (sY (ql 40 cs.U) caps) cs.U st.U hs.mem;have hslot:=hs.slot d;rw[hd]at hslot;simp only[aq]at hslot;obtain⟨caps2,hd2,hcr⟩:=hslot;have hfz:FzL st.U (λa=>Z' a=none) caps2 Ze:=DO hs.mem.live _ _ _ hcaps hcr g3;have hw:NK st ⟨aO st.s (some d) (.fn gf Ze),Z'⟩:=⟨g1,λi=>by
            show Wk st.U Z' (st.s i) (if i=d then .fn gf Ze else st.s i);split
            .rename_i e;subst e;rw[hd2];exact(Fz.fn gf _ _ hfz).wk g1 (λ_ h=>h)
            .exact Wk.refl g1 _⟩
           refine ab.weaken hw ?_;refine PW (run:=de T f) (λK R c cs st k Q=>ihf n K 0 R c cs st k Q) hit M'.1 M'.2 YU (st:=⟨aO st.s (some d) (.fn gf Ze),Z'⟩) ⟨λi=>?_,g2⟩ (by simp[aO]) L';show aq R (eZ (.P' []) i (j3 (.P' []) (.fn gf Ze) d cs.s)) (if i=d then .fn gf Ze else st.s i);rw[kF];split
           .exact cU _ (by simpa[V.ct]using Yx)
           .exact hs.slot i
          .exact L'.elim
         .exact L'.elim
        .exact L'.elim
       .exact L'.elim
      .exact L'.elim
     .exact L'.elim
    .exact L'.elim
   |regA l Yi=>
    simp only[bT]at M';have L':ux P n K fl R k Q (evA (iZ (de T f) T.fn) fl l Yi cs):=L';unfold evA at L';cases hp:Gk l Yi with
    |none=>rw[hp]at L';exact L'.elim
    |some t=>
     rw[hp]at L';have L':ux P n K fl R k Q (evT (iZ (de T f) T.fn) fl l 8 [] t cs):=L';rcases O6 (call:=iZ (de T f) T.fn) (fl:=fl) (l:=l) 8 [] t cs with⟨Yy,hx⟩|hx
     .rw[hx]at L';exact ab.Et hT.mix 8 t (KZ hp) (EF Zi M' 8 [] t R cs st hx hs L')
     .rw[hx]at L';exact L'.elim
   |nq l e=>
    simp only[bT,Ba]at M';have L':ux P n K fl R k Q (xU (jf true (iZ (de T f) T.fn) fl l cs) λYy=>jf false (iZ (de T f) T.fn) fl e Yy):=L';simp only[jf]at L';rcases mz (call:=iZ (de T f) T.fn) (fl:=fl) 1000 l cs with⟨Yy,he⟩|he
    .rw[he]at L';simp only[xU]at L';rcases pT (call:=iZ (de T f) T.fn) (fl:=fl) 1000 e Yy with⟨cs2,he2⟩|he2
     .rw[he2]at L';refine ab.nq (zL Zi 1000 l R cs st he M'.1 hs λR' YW hle Ye=>?_);exact vw Zi 1000 e R' Yy YW he2 M'.2 Ye (L'.le hle)
     .rw[he2]at L';exact L'.elim
    .rw[he]at L';exact L'.elim
   |bad=>exact L'.elim
def tbF(P:Program)(z:FuncId->Bool)(o:FuncId->Option (List V->Option V)):FuncId->Option Fk:=λf=>match o f with
 |some g=>some (.orc g)
 |none=>match P.funcs[f]? with
  |some fn=>(match cfn P fn with
   |some vf=>@Bool.casesOn (λ_=>Option Fk) (bV P f&&lP vf) none (some (@Bool.casesOn (λ_=>Fk) (z f) (.fz vf) (.code vf)))
   |none=>none)
  |none=>none
def Sd{P:Program}(hm:P.follows .mixedOrders=true)(z:FuncId->Bool){o:FuncId->Option (List V->Option V)}{it:FuncId->Option (List V->Option (List (List V)))}
 (ho:∀f g,o f=some g->∀as1 v,g as1=some v->cd as1=true->v.ct=true->aJ P f as1 v)(hi:∀g h,it g=some h->∀caps xs,h caps=some xs->cd caps=true->Iter P g caps xs):
 TOk P ⟨tbF P z o,it⟩:=by
 refine⟨hm,λg k h=>?_,hi⟩;simp only[tbF]at h;split at h
 .rename_i og hog;simp only[aB]at h;subst h;exact ho g og hog
 .split at h
  .rename_i fn hfn;split at h
   .rename_i vf hvf;rw[sH]at h;split at h
    .rename_i hc;simp only[Ba]at hc;simp only[aB]at h;subst h;have hk:bV P g=true/\lP vf=true/\∃fn,P.funcs[g]?=some fn/\cfn P fn=some vf:=⟨hc.1,hc.2,fn,hfn,hvf⟩
     cases z g<;>exact hk
    .cases h
   .cases h
  .cases h
def ev3(P:Program)(T:Tb)(fuel:Nat)(f:FuncId)(args:List V):Option V:=match P.funcs[f]? with
 |some fn=>(match cfn P fn with
  |some vf=>@Bool.casesOn (λ_=>Option V) (bV P f&&lP vf) none (evZ (de T fuel) vf args)
  |none=>none)
 |none=>none
def Qm(P:Program)(T:Tb)(fuel:Nat)(f:FuncId)(args:List V)(v:V):Bool:=match ev3 P T fuel f args with
 |some u=>qH 40 u v
 |none=>false
def aJ.Qn{P:Program}{T:Tb}(hT:TOk P T)(fuel:Nat){f:FuncId}{args:List V}{v:V}(ha:cd args=true)(h:Qm P T fuel f args v=true):aJ P f args v:=by
 unfold Qm at h;split at h
 .rename_i u hu;rw[<-mP 40 u v h];unfold ev3 at hu;split at hu
  .rename_i fn hfn;split at hu
   .rename_i vf hvf;rw[bP]at hu;split at hu
    .rename_i hc;simp only[Ba]at hc;exact I3 (AM hT fuel) ⟨hc.1,hc.2,fn,hfn,hvf⟩ hu ha
    .cases hu
   .cases hu
  .cases hu
 .cases h
structure ZW where
 cs:CS
 i:Nat
 stop:Bool
 log:List (List V)
inductive gk where
 |nx (c:ZW)
 |ex (id:Nat) (c:ZW)
 |rt (c:ZW)
def tR{α β:Type}(f:α->Option (List β)):List α->Option (List β)
 |[]=>some []
 |a::l=>match f a with
  |some x=>(match tR f l with
   |some y=>some (x++y)
   |none=>none)
  |none=>none
def nxY(k:ZW->Option (List gk))(o:gk):Option (List gk):=match o with
 |.nx c=>k c
 |.ex id c=>some [.ex id c]
 |.rt c=>some [.rt c]
def yK(o:Option (List gk))(k:ZW->Option (List gk)):Option (List gk):=match o with
 |some l=>tR (nxY k) l
 |none=>none
def N6(id:Nat)(o:gk):gk:=match o with
 |.nx c=>.nx c
 |.ex j c=>@Bool.casesOn (λ_=>gk) (Nat.beq j id) (.ex j c) (.nx c)
 |.rt c=>.rt c
def iI(c:ZW)(o:Out):Option (List gk):=match o with
 |.nx cs=>some [.nx ⟨cs,c.i,c.stop,c.log⟩]
 |.ex id cs=>some [.ex id ⟨cs,c.i,c.stop,c.log⟩]
 |.rt cs=>some [.rt ⟨cs,c.i,c.stop,c.log⟩]
 |.bad=>none
def nxs:List ZW->List gk
 |[]=>[]
 |c::l=>.nx c::nxs l
def Jm(xs:Option (List (List V)))(dst:Option Nat)(args:List V)(c:ZW):Option (List ZW):=match xs with
 |none=>@Bool.casesOn (λ_=>Option (List ZW)) (cd args) none (some [⟨c.cs.put dst (.bool true),Nat.succ c.i,false,args::c.log⟩])
 |some l=>match l[c.i]? with
  |some x=>@Bool.casesOn (λ_=>Option (List ZW)) (cd args&&(iN (qH 40) args x&&!c.stop)) none
     (some [⟨c.cs.put dst (.bool true),Nat.succ c.i,false,[]⟩,⟨c.cs.put dst (.bool false),Nat.succ c.i,true,[]⟩])
  |none=>none
def ML(res:List VR)(dst:Option Nat)(c:ZW)(o:gk):Option (List ZW):=match o with
 |.ex _ _=>none
 |.nx c1=>(match A6 res c1.cs with
  |some r=>some [⟨CS.put ⟨c.cs.s,r.U,r.Yu⟩ dst r.v,c1.i,c1.stop,c1.log⟩]
  |none=>none)
 |.rt c1=>(match A6 res c1.cs with
  |some r=>some [⟨CS.put ⟨c.cs.s,r.U,r.Yu⟩ dst r.v,c1.i,c1.stop,c1.log⟩]
  |none=>none)
def On(run:bf->ZW->Option (List gk))(vf:Yb)(dst:Option Nat)(args:List V)(c:ZW):Option (List ZW):=
 @Bool.casesOn (λ_=>Option (List ZW)) (Nat.ble args.length vf.n) none (match run vf.code ⟨⟨Tr.ofL args 0 .e,c.cs.U,c.cs.Yu⟩,c.i,c.stop,c.log⟩with
  |some outs=>tR (ML vf.res dst c) outs
  |none=>none)
def K4(call:gB)(i:az)(c:ZW):Option (List ZW):=match(nJ i).f call 0 c.cs with
 |some Yy=>some [⟨Yy,c.i,c.stop,c.log⟩]
 |none=>none
def Ef(T:Tb)(call:gB)(run:bf->ZW->Option (List gk))(xs:Option (List (List V)))(i:az)(c:ZW):Option (List ZW):=match i.op with
 |.call fx args=>(match aQ c.cs.sf i.g with
  |some true=>(match fx.ev c.cs.sf with
   |.yl j=>@Bool.casesOn (λ_=>Option (List ZW)) (Nat.beq j 0) none (Jm xs i.dst (args.map (·.ev c.cs.sf)) c)
   |.fn f caps=>(match T.fn f with
    |some (.code vf)=>On run vf i.dst (args.map (·.ev c.cs.sf)++caps) c
    |_=>K4 call i c)
   |_=>K4 call i c)
  |some false=>some [⟨c.cs.put i.dst (.P' []),c.i,c.stop,c.log⟩]
  |none=>none)
 |_=>K4 call i c
def AT(f:az->ZW->Option (List ZW)):List az->ZW->Option (List ZW)
 |[],c=>some [c]
 |i::l,c=>match f i c with
  |some cs=>tR (AT f l) cs
  |none=>none
def GZ(o:Option (List ZW)):Option (List gk):=match o with
 |some l=>some (nxs l)
 |none=>none
def onY(v:V)(a b:Option (List gk)):Option (List gk):=match v with
 |.bool t=>@Bool.casesOn (λ_=>Option (List gk)) t b a
 |_=>none
def PX(id:Nat)(o:Option (List gk)):Option (List gk):=match o with
 |some l=>some (l.map (N6 id))
 |none=>none
def evY(T:Tb)(xs:Option (List (List V)))(fuel:Nat):bf->ZW->Option (List gk):=
 @Nat.rec (λ_=>bf->ZW->Option (List gk)) (λ_ _=>none)
  (λf ih c y=>match c with
    |.skip=>some [.nx y]
    |.reg draw l=>@Bool.casesOn (λ_=>Option (List gk)) draw (GZ (AT (Ef T (iZ (de T f) T.fn) ih xs) l y)) (iI y (de T (f+1) 0 (.reg true l) y.cs))
    |.seq a b=>yK (ih a y) (ih b)
    |.cond x a b=>onY (x.ev y.cs.sf) (ih a y) (ih b y)
    |.block id a=>PX id (ih a y)
    |.loop a=>yK (ih a y) (ih (.loop a))
    |.exit id=>some [.ex id y]
    |.ret=>some [.rt y]
    |.cA g ps a b=>iI y (de T (f+1) 0 (.cA g ps a b) y.cs)
    |.regA l Yi=>iI y (de T (f+1) 0 (.regA l Yi) y.cs)
    |.nq l e=>(match jf true (iZ (de T f) T.fn) 0 l y.cs with
     |.nx Yy=>GZ (AT (Ef T (iZ (de T f) T.fn) ih xs) e ⟨Yy,y.i,y.stop,y.log⟩)
     |_=>none)
    |.bad=>none) fuel
def mn{α β:Type}{f:α->Option (List β)}:∀{l:List α} {r:List β},tR f l=some r->∀a∈l,∃x,f a=some x/\∀b∈x,b∈r
 |[],_,_,a,ha=>by simp at ha
 |a::l,r,h,a',ha=>by
  simp only[tR]at h;split at h
  .rename_i x hx;split at h
   .rename_i y hy;simp only[aB]at h;subst h;rcases cg.1 ha with rfl|ha
    .exact⟨x,hx,λb hb=>List.mem_append_left _ hb⟩
    .obtain⟨z,h1,h2⟩:=mn hy a' ha;exact⟨z,h1,λb hb=>List.mem_append_right _ (h2 b hb)⟩
   .cases h
  .cases h
def Gu:∀{l:List ZW} {c:ZW},c∈l->gk.nx c∈nxs l
 |a::l,c,h=>by
  rcases cg.1 h with rfl|h
  .simp[nxs]
  .simp[nxs,Gu h]
variable {P:Program} {n:Nat}
section
variable {Yp:Nat} {τ Jx:List (List V)->af->Prop} {xs:List (List V)}
def YI(τ Jx:List (List V)->af->Prop)(xs:List (List V))(c:ZW)(ZJ:af):Prop:=(c.stop=false->τ (xs.take c.i) ZJ)/\(c.stop=true->∃pre,pre <+: xs/\Jx pre ZJ)
def YR(Yp:Nat)(τ Jx:List (List V)->af->Prop)(xs:List (List V))(R:Nat->Nat->Prop)(c:ZW)(st:St):Prop:=R 0 Yp/\∃ZJ,YI τ Jx xs c ZJ/\cB ZJ 0 R c.cs st
def Dl(P:Program)(Yp:Nat)(τ Jx:List (List V)->af->Prop)(xs:List (List V))(n:Nat)(R:Nat->Nat->Prop)(k:List It)(Q:St->Prop):gk->Prop
 |.nx c=>∀R' st,Le R R'->YR Yp τ Jx xs R' c st->ab P n k st Q
 |.ex id c=>∃k',fZ id k=some k'/\∀R' st,Le R R'->YR Yp τ Jx xs R' c st->ab P n k' st Q
 |.rt c=>∀R' st,Le R R'->YR Yp τ Jx xs R' c st->Q st
def Dl.le{R R':Nat->Nat->Prop}{k:List It}{Q:St->Prop}{o:gk}(h:Dl P Yp τ Jx xs n R k Q o)(hle:Le R R'):Dl P Yp τ Jx xs n R' k Q o:=by
 cases o
 case ex=>obtain⟨k',h1,h2⟩:=h;exact⟨k',h1,λR'' st h3 h4=>h2 R'' st (hle.trans h3) h4⟩
 all_goals exact λR'' st h3 h4=>h R'' st (hle.trans h3) h4
def HY(P:Program)(Yp:Nat)(τ Jx:List (List V)->af->Prop)(xs:List (List V)):Prop:=∀pre x post ZJ U,xs=pre++x::post->τ pre ZJ->aa ZJ U->
 YC P Yp x U λb Z'=>∃Yr,aT ZJ U Yr Z'/\((b=true/\τ (pre++[x]) Yr)\/(b=false/\Jx (pre++[x]) Yr))
def LY(P:Program)(Yp:Nat)(τ Jx:List (List V)->af->Prop)(xs:List (List V))(run:bf->ZW->Option (List gk)):Prop:=∀(n:Nat) (R:Nat->Nat->Prop) (code:bf) (c:ZW) (st:St) (k:List It) (Q:St->Prop) (outs:List gk),
 bT code=true->YR Yp τ Jx xs R c st->run code c=some outs->(∀o∈outs,Dl P Yp τ Jx xs n R k Q o)->ab P n (.code code::k) st Q
def Di{run:bf->ZW->Option (List gk)}(ih:LY P Yp τ Jx xs run){g:FuncId}{vf:Yb}(hk:bV P g=true/\lP vf=true/\∃fn,P.funcs[g]?=some fn/\cfn P fn=some vf){args:List V}{c:ZW}{dst:Option Nat}{outs:List gk}{rs:List ZW}
 (hlen:args.length<=vf.n)(hr:run vf.code ⟨⟨Tr.ofL args 0 .e,c.cs.U,c.cs.Yu⟩,c.i,c.stop,c.log⟩=some outs)(hrs:tR (ML vf.res dst c) outs=some rs){R:Nat->Nat->Prop}{ZJ U:af}{args':List V}(h0:R 0 Yp)(hI:YI τ Jx xs c ZJ)
 (hm:fG ZJ 0 R (ZH c.cs.U) c.cs.Yu U)(YE:aD R args args'):
 au P g args' U λv Z'=>∃(c1:ZW) (r:Rs) (R':Nat->Nat->Prop) (Yr:af),(⟨CS.put ⟨c.cs.s,r.U,r.Yu⟩ dst r.v,c1.i,c1.stop,c1.log⟩:ZW)∈rs/\Le R R'/\aq R' r.v v/\YI τ Jx xs c1 Yr/\fG Yr 0 R' (ZH r.U) r.Yu Z':=by
 obtain⟨YZ,M',fn,hf,hcf⟩:=hk;simp only[lP,Ba]at M';refine au.jT hf hcf YZ (by rw[YE.length];exact hlen) ?_;have hs:cB ZJ 0 R ⟨Tr.ofL args 0 .e,c.cs.U,c.cs.Yu⟩ ⟨ef args',U⟩:=by
  refine⟨λi=>?_,hm⟩;show aq R (eZ (.P' []) i (Tr.ofL args 0 .e)) (args'.getD i (.P' []));rw[Ag,wN];by_cases hi:i<args.length
  .rw[ar ⟨Nat.zero_le _,by omega⟩,Nat.sub_zero];obtain⟨u,h1,h2⟩:=YE.get (Zq6 hi);simp only[sC,h1,Zq6 hi,Option.getD_some];exact h2
  .rw[av (by omega)];have:args'[i]?=none:=rO (by rw[YE.length];omega);simp only[sC,this,Option.getD_none];simp[aq,aD]
 have Zg:∀c1,(∃x,(match A6 vf.res c1.cs with|some r=>some [(⟨CS.put ⟨c.cs.s,r.U,r.Yu⟩ dst r.v,c1.i,c1.stop,c1.log⟩:ZW)]|none=>none)=some x/\∀b∈x,b∈rs)->∀R' st,Le R R'->YR Yp τ Jx xs R' c1 st->
  Ret vf.res st λv Z'=>∃(c1:ZW) (r:Rs) (R':Nat->Nat->Prop) (Yr:af),(⟨CS.put ⟨c.cs.s,r.U,r.Yu⟩ dst r.v,c1.i,c1.stop,c1.log⟩:ZW)∈rs/\Le R R'/\aq R' r.v v/\YI τ Jx xs c1 Yr/\fG Yr 0 R' (ZH r.U) r.Yu Z':=by
  rintro c1 ⟨x,hx,hmem⟩ R' st hle ⟨_,Yr,hI',Ye⟩;split at hx
  .rename_i r hq;simp only[aB]at hx;subst hx;have hq0:=hq;unfold A6 at hq;split at hq
   .rename_i v hv;simp only[aB]at hq;obtain⟨v',g1,g2⟩:=DR Ye M'.2 hv;refine⟨v',v',st.U,g1,aa.refl _,Wk.refl (aa.refl _) _,c1,r,R',Yr,hmem _ (by simp),hle,?_,hI',?_⟩
    .rw[<-hq];exact g2
    .rw[<-hq];exact Ye.mem
   .cases hq
  .cases hx
 refine ih vf.n R vf.code ⟨⟨Tr.ofL args 0 .e,c.cs.U,c.cs.Yu⟩,c.i,c.stop,c.log⟩ _ [] _ outs M'.1 ⟨h0,ZJ,hI,hs⟩ hr λo ho=>?_;have hb:=mn hrs o ho;cases o with
 |nx c1=>exact λR' st hle Ye=>ab.nil (Zg c1 hb R' st hle Ye)
 |ex id c1=>obtain⟨x,hx,_⟩:=hb;simp[ML]at hx
 |rt c1=>exact λR' st hle Ye=>Zg c1 hb R' st hle Ye
def Bo{R:Nat->Nat->Prop}{s s':Nat->V}(h:∀i,aq R (s i) (s' i)){g:Option (VX×Bool)}(hg:(match g with|some (x,_)=>okX x|none=>true)=true){b:Bool}(hw:aQ s g=some b):aQ s' g=some b:=by
 unfold aQ at hw|-;split at hw
 .exact hw
 .rename_i x t;have hv:=cc h (x:=x) hg;split at hw
  .rename_i c hc;rw[hc,aq.iF]at hv;rw[hv];exact hw
  .rename_i hc;rw[hc]at hv;simp only[aq,aD]at hv;obtain⟨_,hv,rfl⟩:=hv;rw[hv];exact hw
  .rename_i hc;rw[hc,aq.ir]at hv;rw[hv];exact hw
  .cases hw
def K5(hy:HY P Yp τ Jx xs){T:Tb}(hT:TOk P T){call:gB}(hc:kL P call){run:bf->ZW->Option (List gk)}(ih:LY P Yp τ Jx xs run){i:az}{l:List az}{R:Nat->Nat->Prop}{c:ZW}{st:St}{k:List It}{Q:St->Prop}{cs:List ZW}
 (M':dv i=true)(h:YR Yp τ Jx xs R c st)(hr:Ef T call run (some xs) i c=some cs)
 (hk:∀c'∈cs,∀R' YW,Le R R'->YR Yp τ Jx xs R' c' YW->ab P n (.ops l::k) YW Q):ab P n (.ops (i::l)::k) st Q:=by
 obtain⟨h0,ZJ,hI,hs⟩:=h;have hplain:K4 call i c=some cs->ab P n (.ops (i::l)::k) st Q:=by
  intro hr;unfold K4 at hr;split at hr
  .rename_i Yy hcs;simp only[aB]at hr;subst hr;exact BY hc M' hs hcs λR' YW hle Ye=>hk _ (er.2 rfl) R' YW hle ⟨hle _ _ h0,ZJ,hI,Ye⟩
  .cases hr
 unfold Ef at hr;split at hr
 .rename_i fx args X9;have hok':=M';simp only[dv,Ba]at hok';have hokx:=hok'.1;rw[X9]at hokx;simp only[jS,Yq.xs,iV,Ba]at hokx;have hgok:(match i.g with|some (x,_)=>okX x|none=>true)=true:=by
   have:=hok'.2;revert this;cases i.g with
   |none=>simp
   |some x=>simp
  split at hr
  .rename_i hw;have hw':=Bo hs.slot hgok hw;split at hr
   .rename_i j hj;rw[bP]at hr;split at hr
    .rename_i hj0;have hj0:=gn hj0;subst hj0;have hfx:=cc hs.slot hokx.1.1;rw[hj]at hfx;simp only[aq]at hfx;obtain⟨ZD,hfx,hR⟩:=hfx;have:ZD=Yp:=hs.mem.fn _ _ _ hR h0;subst this;simp only[Jm]at hr;split at hr
     .rename_i x hx;rw[sH]at hr;split at hr
      .rename_i hcond;simp only[Ba,Bool.not_eq_true']at hcond;obtain⟨Yx,heq,Ys⟩:=hcond;have heq:=uZ (mP 40) heq;simp only[aB]at hr;subst hr;have YE:=fW hs.slot hokx.1.2;have YE:=jw _ _ Yx YE;have H':c.i<xs.length:=(iT.1 hx).1;have hxs:xs=xs.take c.i++x::xs.drop (c.i+1):=by
        have h1:xs[c.i]=x:=(iT.1 hx).2;rw[<-h1,<-ia H',sZ]
       have Zb:xs.take c.i++[x]=xs.take (c.i+1):=by
        have h1:xs[c.i]=x:=(iT.1 hx).2;rw[HL,hx];rfl
       have hyc:=hy (xs.take c.i) x _ ZJ st.U hxs (hI.1 Ys) hs.mem.gJ;refine ab.nb hw' X9 hfx (Post:=λb Z'=>∃Yr,aT ZJ st.U Yr Z'/\((b=true/\τ (xs.take c.i++[x]) Yr)\/(b=false/\Jx (xs.take c.i++[x]) Yr))) ?_ ?_
       .rw[YE,heq];exact hyc
       .rintro b Z' ⟨Yr,hb,Zn⟩;have hm:fG Yr 0 R (ZH c.cs.U) c.cs.Yu Z':=by
         have hnone:∀a o c1,R c1 a->ZH c.cs.U c1=some o->ZJ a=none:=λa o c1 hR ho=>by
          cases hj:ZJ a with
          |none=>rfl
          |some x=>have:=hs.mem.kfl a x c1 o hj hR ho;omega
         refine⟨hs.mem.dom,λc1 a o hR ho=>?_,hs.mem.inj,hs.mem.fn,hb.1,λa o c1 oc h1 h2 h3=>?_⟩
         .obtain⟨X6,g1,g2⟩:=hs.mem.live c1 a o hR ho;exact⟨X6,(hb.2 a _ (hnone a o c1 hR ho) g1).1,g2⟩
         .obtain⟨X6,g1,g2⟩:=hs.mem.live c1 a oc h2 h3;have:=(hb.2 a _ (hnone a oc c1 h2 h3) g1).2;rw[this]at h1;cases h1
        have hS:cB Yr 0 R c.cs ⟨st.s,Z'⟩:=⟨hs.slot,hm⟩
        rcases Zn with⟨rfl,hJ⟩|⟨rfl,hJ⟩
        .refine hk ⟨c.cs.put i.dst (.bool true),Nat.succ c.i,false,[]⟩ (by simp) R _ (Le.refl R) ⟨h0,Yr,⟨λ_=>?_,λe=>by simp at e⟩,hS.put (by simp[aq])⟩;rw[Zb]at hJ;exact hJ
        .exact hk ⟨c.cs.put i.dst (.bool false),Nat.succ c.i,true,[]⟩ (by simp) R _ (Le.refl R) ⟨h0,Yr,⟨λe=>by simp at e,λ_=>⟨_,⟨xs.drop (c.i+1),by rw[lz];exact hxs.symm⟩,hJ⟩⟩,hS.put (by simp[aq])⟩
      .cases hr
     .cases hr
    .cases hr
   .rename_i f caps hf;split at hr
    .rename_i vf hvf;have hkf:=hT.fn f _ hvf;have hfx:=cc hs.slot hokx.1.1;rw[hf]at hfx;simp only[aq]at hfx;obtain⟨Ze,hf',hcaps⟩:=hfx;unfold On at hr;rw[bP]at hr;split at hr
     .rename_i hlen;split at hr
      .rename_i outs houts;refine ab.call hw' X9 hf' (Di ih hkf (oG hlen) houts hr h0 hI hs.mem ((fW hs.slot hokx.1.2).append hcaps)) ?_;rintro v Z' ⟨c1,r,R',Yr,hmem,hle,hv,hI',hm'⟩;have hS:cB Yr 0 R' ⟨c.cs.s,r.U,r.Yu⟩ ⟨st.s,Z'⟩:=⟨λj=>aq.mono hle _ _ (hs.slot j),hm'⟩
       exact hk _ hmem R' _ hle ⟨hle _ _ h0,Yr,hI',hS.put hv⟩
      .cases hr
     .cases hr
    .exact hplain hr
   .exact hplain hr
  .rename_i hw;have hw':=Bo hs.slot hgok hw;simp only[aB]at hr;subst hr;exact ab.o5 hw' (hk _ (er.2 rfl) R _ (Le.refl R) ⟨h0,ZJ,hI,hs.put aq.AD⟩)
  .cases hr
 .exact hplain hr
def BF{f:az->ZW->Option (List ZW)}{k:List It}{Q:St->Prop}
 (hins:∀(i:az) (l:List az) (R:Nat->Nat->Prop) (c:ZW) (st:St) (cs:List ZW),dv i=true->YR Yp τ Jx xs R c st->f i c=some cs->
   (∀c'∈cs,∀R' YW,Le R R'->YR Yp τ Jx xs R' c' YW->ab P n (.ops l::k) YW Q)->ab P n (.ops (i::l)::k) st Q):∀(l:List az) (R:Nat->Nat->Prop) (c:ZW) (st:St) (outs:List ZW),
   l.all dv=true->YR Yp τ Jx xs R c st->AT f l c=some outs->(∀c'∈outs,∀R' YW,Le R R'->YR Yp τ Jx xs R' c' YW->ab P n k YW Q)->ab P n (.ops l::k) st Q
 |[],R,c,st,outs,_,h,hr,hk=>by
  simp only[AT,aB]at hr;subst hr;exact ab.A2 (hk c (by simp) R st (Le.refl R) h)
 |i::l,R,c,st,outs,M',h,hr,hk=>by
  simp only[iV,Ba]at M';simp only[AT]at hr;split at hr
  .rename_i cs hcs;refine hins i l R c st cs M'.1 h hcs λc' hc' R' YW hle h'=>?_;obtain⟨x,h1,h2⟩:=mn hr c' hc';exact BF hins l R' c' YW x M'.2 h' h1 λc'' hc'' R'' st'' hle' h''=>hk c'' (h2 _ hc'') R'' st'' (hle.trans hle') h''
  .cases hr
def CM(T:Tb)(xs:Option (List (List V)))(f:Nat)(c:bf)(y:ZW):evY T xs (f+1) c y=match c with
 |.skip=>some [.nx y]
 |.reg draw l=>@Bool.casesOn (λ_=>Option (List gk)) draw (GZ (AT (Ef T (iZ (de T f) T.fn) (evY T xs f) xs) l y)) (iI y (de T (f+1) 0 (.reg true l) y.cs))
 |.seq a b=>yK (evY T xs f a y) (evY T xs f b)
 |.cond x a b=>onY (x.ev y.cs.sf) (evY T xs f a y) (evY T xs f b y)
 |.block id a=>PX id (evY T xs f a y)
 |.loop a=>yK (evY T xs f a y) (evY T xs f (.loop a))
 |.exit id=>some [.ex id y]
 |.ret=>some [.rt y]
 |.cA g ps a b=>iI y (de T (f+1) 0 (.cA g ps a b) y.cs)
 |.regA l Yi=>iI y (de T (f+1) 0 (.regA l Yi) y.cs)
 |.nq l e=>(match jf true (iZ (de T f) T.fn) 0 l y.cs with
  |.nx Yy=>GZ (AT (Ef T (iZ (de T f) T.fn) (evY T xs f) xs) e ⟨Yy,y.i,y.stop,y.log⟩)
  |_=>none)
 |.bad=>none:=rfl
def PE(hy:HY P Yp τ Jx xs){T:Tb}(hT:TOk P T):∀fuel,LY P Yp τ Jx xs (evY T (some xs) fuel):=by
 intro fuel
 induction fuel using Nat.strongRecOn with
 |_ fuel ih=>
  intro n R code c st k Q outs M' h hr L';cases fuel with
  |zero=>cases hr
  |succ f=>
   have ihf:=ih f (by omega);have Zi:=Dz hT (AM hT f);have hplain:iI c (de T (f+1) 0 code c.cs)=some outs->ab P n (.code code::k) st Q:=by
    intro hr;obtain⟨h0,ZJ,hI,hs⟩:=h;refine AM hT (f+1) n ZJ 0 R code c.cs st k Q M' hs ?_;generalize de T (f+1) 0 code c.cs=o at hr;cases o with
    |nx Yy=>
     simp only[iI,aB]at hr;subst hr;have h1:=L' _ (er.2 rfl);exact λR' YW hle Ye=>h1 R' YW hle ⟨hle _ _ h0,ZJ,hI,Ye⟩
    |ex id Yy=>
     simp only[iI,aB]at hr;subst hr;obtain⟨k',h1,h2⟩:=L' _ (er.2 rfl);exact⟨k',h1,λR' YW hle Ye=>h2 R' YW hle ⟨hle _ _ h0,ZJ,hI,Ye⟩⟩
    |rt Yy=>
     simp only[iI,aB]at hr;subst hr;have h1:=L' _ (er.2 rfl);exact λR' YW hle Ye=>h1 R' YW hle ⟨hle _ _ h0,ZJ,hI,Ye⟩
    |bad=>simp[iI]at hr
   have hops:∀(l:List az) (R:Nat->Nat->Prop) (c:ZW) (st:St),l.all dv=true->YR Yp τ Jx xs R c st->GZ (AT (Ef T (iZ (de T f) T.fn) (evY T (some xs) f) (some xs)) l c)=some outs->
    (∀o∈outs,Dl P Yp τ Jx xs n R k Q o)->ab P n (.ops l::k) st Q:=by
    intro l R c st hl h hr L';unfold GZ at hr;split at hr
    .rename_i cs hcs;simp only[aB]at hr;subst hr;refine BF (λi l R c st cs h1 h2 h3 h4=>K5 hy hT Zi ihf h1 h2 h3 h4) l R c st cs hl h hcs λc' hc'=>?_;exact L' _ (Gu hc')
    .cases hr
   rw[CM]at hr;cases code with
   |skip=>
    simp only[aB]at hr;subst hr;have h1:=L' _ (er.2 rfl);exact ab.skip (h1 R st (Le.refl R) h)
   |reg draw l=>
    cases draw
    .simp only[bT]at M';exact ab.region (hops l R c st M' h hr L')
    .exact hplain hr
   |seq a b=>
    simp only[bT,Ba]at M';simp only[yK]at hr;split at hr
    .rename_i o1 ho1;refine ab.seq (ihf n R a c st _ Q o1 M'.1 h ho1 λo ho=>?_);obtain⟨x,h1,h2⟩:=mn hr o ho;cases o with
     |nx c1=>exact λR1 st1 hle1 ZM=>ihf n R1 b c1 st1 k Q x M'.2 ZM h1 λo ho=>(L' o (h2 o ho)).le hle1
     |ex id c1=>
      simp only[nxY,aB]at h1;subst h1;exact L' _ (h2 _ (er.2 rfl))
     |rt c1=>
      simp only[nxY,aB]at h1;subst h1;exact L' _ (h2 _ (er.2 rfl))
    .cases hr
   |cond x a b=>
    simp only[bT,Ba]at M';obtain⟨h0,ZJ,hI,hs⟩:=h;have hv:=cc hs.slot M'.1;have hr:onY (x.ev c.cs.sf) (evY T (some xs) f a c) (evY T (some xs) f b c)=some outs:=hr;unfold onY at hr;split at hr
    .rename_i t ht;rw[ht,aq.iF]at hv;refine ab.cond hv (λe=>?_) (λe=>?_)
     .subst e;exact ihf n R a c st k Q outs M'.2.1 ⟨h0,ZJ,hI,hs⟩ hr L'
     .subst e;exact ihf n R b c st k Q outs M'.2.2 ⟨h0,ZJ,hI,hs⟩ hr L'
    .cases hr
   |block id a=>
    simp only[bT]at M';simp only[PX]at hr;split at hr
    .rename_i o1 ho1;simp only[aB]at hr;subst hr;refine ab.block (ihf n R a c st _ Q o1 M' h ho1 λo ho=>?_);have h1:=L' _ (gg.2 ⟨o,ho,rfl⟩);cases o with
     |nx c1=>exact λR1 st1 hle1 ZM=>ab.inBlock (h1 R1 st1 hle1 ZM)
     |ex j c1=>
      simp only[N6,bP]at h1;by_cases hj:j=id
      .subst hj;rw[ar (by rw[Nat.beq_eq])]at h1;exact⟨k,by simp[fZ],h1⟩
      .rw[av (by rw[Nat.beq_eq];exact hj)]at h1;obtain⟨k',h2,h3⟩:=h1;exact⟨k',by simp[fZ,hj,h2],h3⟩
     |rt c1=>exact h1
    .cases hr
   |loop a=>
    have hok':=M';simp only[bT]at M';have hr0:evY T (some xs) (f+1) (.loop a) c=some outs:=hr;refine ab.loop (λm st=>m<=f+1/\∃R1 c1 o1,Le R R1/\YR Yp τ Jx xs R1 c1 st/\evY T (some xs) m (.loop a) c1=some o1/\∀o∈o1,o∈outs) (f+1) ⟨YQ _,R,c,outs,Le.refl R,h,hr0,λ_ h=>h⟩ ?_;rintro m st1 ⟨hm,R1,c1,o1,hle1,ZM,ho1,G'⟩;cases m with
    |zero=>cases ho1
    |succ m=>
     have ihm:=ih m (by omega);rw[CM]at ho1;simp only[yK]at ho1;split at ho1
     .rename_i o2 ho2;refine ihm n R1 a c1 st1 _ Q o2 M' ZM ho2 λo ho=>?_;obtain⟨x,h1,h2⟩:=mn ho1 o ho;cases o with
      |nx c2=>exact λR2 st2 hle2 hs2=>ab.stop ⟨m,by omega,by omega,R2,c2,x,hle1.trans hle2,hs2,h1,λo ho=>G' o (h2 o ho)⟩
      |ex id c2=>
       simp only[nxY,aB]at h1;subst h1;obtain⟨k',h3,h4⟩:=L' _ (G' _ (h2 _ (er.2 rfl)));exact⟨k',by simpa[fZ]using h3,λR2 st2 hle2 hs2=>h4 R2 st2 (hle1.trans hle2) hs2⟩
      |rt c2=>
       simp only[nxY,aB]at h1;subst h1;exact(L' _ (G' _ (h2 _ (er.2 rfl)))).le hle1
     .cases ho1
   |exit id=>
    simp only[aB]at hr;subst hr;obtain⟨k',h1,h2⟩:=L' _ (er.2 rfl);exact ab.exit h1 (h2 R st (Le.refl R) h)
   |ret=>
    simp only[aB]at hr;subst hr;have h1:=L' _ (er.2 rfl);exact ab.ret (h1 R st (Le.refl R) h)
   |cA g ps a b=>exact hplain hr
   |regA l Yi=>exact hplain hr
   |nq l e=>
    simp only[bT,Ba]at M';obtain⟨h0,ZJ,hI,hs⟩:=h;simp only[jf]at hr;rcases mz (call:=iZ (de T f) T.fn) (fl:=0) 1000 l c.cs with⟨Yy,he⟩|he
    .rw[he]at hr;refine ab.nq (zL Zi 1000 l R c.cs st he M'.1 hs λR' YW hle Ye=>?_);exact hops e R' ⟨Yy,c.i,c.stop,c.log⟩ YW M'.2 ⟨hle _ _ h0,ZJ,hI,Ye⟩ hr λo ho=>(L' o ho).le hle
    .rw[he]at hr;cases hr
   |bad=>cases hr
end
def Pq(P:Program)(f:FuncId):Option Yb:=match P.funcs[f]? with
 |some fn=>(match cfn P fn with
  |some vf=>@Bool.casesOn (λ_=>Option Yb) (bV P f&&lP vf) none (some vf)
  |none=>none)
 |none=>none
def NG{f:FuncId}{vf:Yb}(h:Pq P f=some vf):bV P f=true/\lP vf=true/\∃fn,P.funcs[f]?=some fn/\cfn P fn=some vf:=by
 unfold Pq at h;split at h
 .rename_i fn hfn;split at h
  .rename_i vf' hvf;rw[bP]at h;split at h
   .rename_i hc;simp only[Ba]at hc;simp only[aB]at h;subst h;exact⟨hc.1,hc.2,fn,hfn,hvf⟩
   .cases h
  .cases h
 .cases h
def WT:List gk->Option (List (List V))
 |[.nx c]=>some c.log.reverse
 |[.rt c]=>some c.log.reverse
 |_=>none
def TR(n:Nat)(c:ZW):Bool:=@Bool.casesOn (λ_=>Bool) c.stop (Nat.beq c.i n) true
def c0Y(caps:List V):ZW:=⟨⟨Tr.ofL (.yl 0::caps) 0 .e,.e,1⟩,0,false,[]⟩
def itY(T:Tb)(fuel:Nat)(vf:Yb)(caps:List V):Option (List (List V)):=@Bool.casesOn (λ_=>Option (List (List V))) (Nat.ble (Nat.succ caps.length) vf.n) none
 (match evY T none fuel vf.code (c0Y caps)with
   |some o1=>(match WT o1 with
    |some xs=>(match evY T (some xs) fuel vf.code (c0Y caps)with
     |some o2=>(match tR (ML vf.res none (c0Y caps)) o2 with
      |some rs=>@Bool.casesOn (λ_=>Option (List (List V))) (rs.all (TR xs.length)) none (some xs)
      |none=>none)
     |none=>none)
    |none=>none)
   |none=>none)
def Sp{T:Tb}(hT:TOk P T){fuel:Nat}{g:FuncId}{vf:Yb}(hk:bV P g=true/\lP vf=true/\∃fn,P.funcs[g]?=some fn/\cfn P fn=some vf){caps:List V}{xs:List (List V)}(h:itY T fuel vf caps=some xs)(hn:cd caps=true):Iter P g caps xs:=by
 unfold itY at h;rw[bP]at h;split at h
 .rename_i hlen;split at h
  .split at h
   .split at h
    .rename_i o2 ho2;split at h
     .rename_i rs hrs;rw[bP]at h;split at h
      .rename_i Zg;simp only[aB]at h;subst h;refine⟨hk.1,λYp τ Jx Z0 hy hJ=>?_⟩;have hm:fG Z0 0 (λa b=>a=0/\b=Yp) (ZH .e) 1 Z0:=⟨λ_ _ h=>by omega,λc a o _ h=>by simp[ZH,wN]at h,λc c' a o o' _ _ h=>by simp[ZH,wN]at h,λc a a' h1 h2=>h1.2.trans h2.2.symm,aa.refl Z0,λa o c oc _ _ h=>by simp[ZH,wN]at h⟩
       refine((Di (c:=c0Y caps) (args:=.yl 0::caps) (args':=.yl Yp::caps) (ZJ:=Z0) (PE hy hT fuel) hk (oG hlen) ho2 hrs ⟨rfl,rfl⟩ ⟨λ_=>by simpa[c0Y]using hJ,λe=>by simp[c0Y]at e⟩ hm ?_).drop ?_).2
       .exact aD.bu.2 ⟨_,_,rfl,by simp only[aq];exact⟨Yp,rfl,trivial,rfl⟩,eW caps hn⟩
       .rintro r Z' ⟨c1,r',R',Yr,hmem,-,-,hI,hm'⟩;refine⟨Yr,hm'.gJ,?_⟩;have hf:=dX.1 Zg _ hmem;simp only[TR,bP]at hf;cases Ys:c1.stop with
        |true=>exact .inr (hI.2 Ys)
        |false=>
         simp only[Ys,eQ,if_false,Nat.beq_eq]at hf;have:=hI.1 Ys;rw[hf,hU]at this;exact .inl this
      .cases h
     .cases h
    .cases h
   .cases h
  .cases h
 .cases h
def upT(P:Program)(fuel:Nat)(T:Tb):Tb:=⟨T.fn,λg=>match Pq P g with
 |some vf=>some (itY T fuel vf)
 |none=>none⟩
def EU{T:Tb}(hT:TOk P T)(fuel:Nat):TOk P (upT P fuel T):=by
 refine⟨hT.mix,hT.fn,λg h hg caps xs hx hn=>?_⟩;simp only[upT]at hg;split at hg
 .rename_i vf hvf;simp only[aB]at hg;subst hg;exact Sp hT (NG hvf) hx hn
 .cases hg
variable {P:Program}
abbrev Ex:=FuncId×List V×V
def uG(P:Program)(E:List Ex):Prop:=∀e∈E,aJ P e.1 e.2.1 e.2.2
def uG.nil:uG P []:=λ_ h=>by cases h
def uG.cons{E:List Ex}{f:FuncId}{args:List V}{v:V}(hp:aJ P f args v)(h:uG P E):uG P ((f,args,v)::E):=λe he=>by
 rcases cg.1 he with rfl|he
 .exact hp
 .exact h e he
def FY(f:FuncId)(args:List V):List Ex->Option V
 |[]=>none
 |e::E=>@Bool.casesOn (λ_=>Option V) (Nat.beq e.1 f&&iN (qH 40) e.2.1 args) (FY f args E) (some e.2.2)
def Cc{f:FuncId}{args:List V}{v:V}:∀{E:List Ex},uG P E->FY f args E=some v->aJ P f args v
 |[],_,h=>by cases h
 |e::E,hE,h=>by
  simp only[FY,bP]at h;split at h
  .rename_i hc;simp only[Ba]at hc;simp only[aB]at h;subst h;have:=hE e (by simp);rw[gn hc.1,uZ (mP 40) hc.2]at this;exact this
  .exact Cc (λe he=>hE e (List.mem_cons_of_mem _ he)) h
def Uw(f:FuncId):List Ex->Bool
 |[]=>false
 |e::E=>@Bool.casesOn (λ_=>Bool) (Nat.beq e.1 f) (Uw f E) true
def UB(E:List Ex)(f:FuncId):Option (List V->Option V):=@Bool.casesOn (λ_=>Option (List V->Option V)) (Uw f E) none (some λargs=>FY f args E)
def Ie(f:FuncId):List FuncId->Bool
 |[]=>true
 |g::l=>@Bool.casesOn (λ_=>Bool) (Nat.beq g f) (Ie f l) false
noncomputable def tE (P:Program) (z:List FuncId) (E:List Ex):Tb:=upT P 2000 (upT P 2000 (upT P 2000 ⟨tbF P (λf=>Ie f z) (UB E),λ_=>none⟩))
def Ug(hm:P.follows .mixedOrders=true)(z:List FuncId){E:List Ex}(hE:uG P E):TOk P (tE P z E):=
 EU (EU (EU (Sd hm _ (λf g h as1 v hv _ _=>by
  simp only[UB,bP]at h;split at h
  .simp only[aB]at h;subst h;exact Cc hE hv
  .cases h) (λ_ _ h=>by cases h)) 2000) 2000) 2000
def FO(hm:P.follows .mixedOrders=true)(z:List FuncId){E:List Ex}(hE:uG P E){f:FuncId}{args:List V}{v:V}(ha:cd args=true)(h:Qm P (tE P z E) 3000 f args v=true):aJ P f args v:=
 aJ.Qn (Ug hm z hE) 3000 ha h
open Go.Proofs Go.Proofs.Tryz
def Vp:Sty:=⟨0,0,0,0,0,0,0,0,0,0,0,0⟩
def Vz(n:Int):Nd:=⟨1,n,⟨0,0,0,0,0,1,1,0,0,0,0,0⟩,0,0,[],0,0,0⟩
def XG(ws:List Int):Nd:=⟨2,1,Vp,10,0,ws,0,0,0⟩
def pZ:List Nd:=[Vz 2,XG [5,5,5]]
set_option maxRecDepth 1000000
def aJ.fz{P:Program}{f:FuncId}{args:List V}{v u:V}(h:aJ P f args v)(hz:∀U,Fz U (λ_=>False) v u):aJ P f args u:=λU=>(h U).Aj λr Z' e=>by
 obtain⟨rfl,rfl⟩:=e;exact⟨_,_,aa.refl _,Fz.wk (hz _) (aa.refl _) (λ_ h=>h.elim),rfl,rfl⟩
def fzC{U:af}{N:Nat->Prop}{v:V}{vs us:List V}(hv:v.ct=true)(h:FzL U N vs us):FzL U N (v::vs) (v::us):=.cons _ _ _ _ (.same v hv) h
open Go.Proofs Go.Proofs.Tryz
set_option maxRecDepth 1000000
def ME:prog.follows .mixedOrders=true:=by kernel_rfl
def s31:V:=.str [91,111,49,119,49,32,40,49,48,32,48,32,53,32,53,32,53,41,93]
def n31:V:=(.sl 20 [(.agg [(.int .i64 1),(.int .i64 2),(.int .i64 0),(.int .i64 0),(.int .i64 0),(.int .i64 0),(.int .i64 0),(.int .i64 1),(.int .i64 1),(.int .i64 0),(.int .i64 0),(.int .i64 0),(.int .i64 0),(.int .i64 0),(.int .i64 0),(.int .i64 0),(.sl 1 []),(.int .i64 0),(.int .i64 0),(.int .i64 0)]),(.agg [(.int .i64 2),(.int .i64 1),(.int .i64 0),(.int .i64 0),(.int .i64 0),(.int .i64 0),(.int .i64 0),(.int .i64 0),(.int .i64 0),(.int .i64 0),(.int .i64 0),(.int .i64 0),(.int .i64 0),(.int .i64 0),(.int .i64 10),(.int .i64 0),(.sl 1 [(.int .i64 5),(.int .i64 5),(.int .i64 5)]),(.int .i64 0),(.int .i64 0),(.int .i64 0)])])
def Qf:V:=(.sl 20 [(.agg [(.int .i64 1),(.int .i64 2),(.int .i64 0),(.int .i64 0),(.int .i64 0),(.int .i64 0),(.int .i64 0),(.int .i64 1),(.int .i64 1),(.int .i64 0),(.int .i64 0),(.int .i64 0),(.int .i64 0),(.int .i64 0),(.int .i64 0),(.int .i64 0),.aC,(.int .i64 0),(.int .i64 0),(.int .i64 0)]),(.agg [(.int .i64 2),(.int .i64 1),(.int .i64 0),(.int .i64 0),(.int .i64 0),(.int .i64 0),(.int .i64 0),(.int .i64 0),(.int .i64 0),(.int .i64 0),(.int .i64 0),(.int .i64 0),(.int .i64 0),(.int .i64 0),(.int .i64 10),(.int .i64 0),(.sl 1 [(.int .i64 5),(.int .i64 5),(.int .i64 5)]),(.int .i64 0),(.int .i64 0),(.int .i64 0)])])
def RO:V:=(.int .i64 0)
def PD:V:=(.int .i64 0)
def L7:aJ prog 20 [s31] (.P' [Qf,RO,PD]):=FO ME [20,21,40,42] (E:=[]) uG.nil rfl (by kernel_rfl)
def CE:aJ prog 20 [s31] (.P' [n31,.int .i64 0,.int .i64 0]):=L7.fz λ_=>.P' _ _ (.cons _ _ _ _ (.sl _ _ _ (.cons _ _ _ _ (.agg _ _ (fzC rfl (fzC rfl (fzC rfl (fzC rfl (fzC rfl (fzC rfl (fzC rfl (fzC rfl (fzC rfl (fzC rfl (fzC rfl (fzC rfl (fzC rfl (fzC rfl (fzC rfl (fzC rfl (.cons _ _ _ _ (.nil 1) (fzC rfl (fzC rfl (fzC rfl (.nil)))))))))))))))))))))) (fzC rfl .nil))) (fzC rfl (fzC rfl .nil)))
def I0:V:=(.agg [(.sl 20 [(.agg [(.int .i64 1),(.int .i64 2),(.int .i64 0),(.int .i64 0),(.int .i64 0),(.int .i64 0),(.int .i64 0),(.int .i64 1),(.int .i64 1),(.int .i64 0),(.int .i64 0),(.int .i64 0),(.int .i64 0),(.int .i64 0),(.int .i64 0),(.int .i64 0),(.sl 1 []),(.int .i64 0),(.int .i64 0),(.int .i64 0)]),(.agg [(.int .i64 2),(.int .i64 1),(.int .i64 0),(.int .i64 0),(.int .i64 0),(.int .i64 0),(.int .i64 0),(.int .i64 0),(.int .i64 0),(.int .i64 0),(.int .i64 0),(.int .i64 0),(.int .i64 0),(.int .i64 0),(.int .i64 10),(.int .i64 0),(.sl 1 [(.int .i64 5),(.int .i64 5),(.int .i64 5)]),(.int .i64 0),(.int .i64 0),(.int .i64 0)])]),(.int .i64 8),(.int .i64 20),(.sl 8 [(.agg [(.int .i64 1),(.int .i64 1),(.int .i64 0),(.int .i64 1),(.int .i64 0),(.int .i64 0),(.int .i64 5),(.int .i64 10)]),(.agg [(.int .i64 1),(.int .i64 1),(.int .i64 1),(.int .i64 2),(.int .i64 0),(.int .i64 10),(.int .i64 5),(.int .i64 10)]),(.agg [(.int .i64 1),(.int .i64 1),(.int .i64 2),(.int .i64 3),(.int .i64 0),(.int .i64 20),(.int .i64 5),(.int .i64 10)])]),.aC,(.int .i64 30),(.sl 3 [(.agg [(.int .i64 0),(.int .i64 0),(.int .i64 0)]),(.agg [(.int .i64 2),(.int .i64 0),(.int .i64 0)]),(.agg [(.int .i64 2),(.int .i64 0),(.int .i64 0)]),(.agg [(.int .i64 3),(.int .i64 0),(.int .i64 0)])])])
def K8:V:=(.int .i64 0)
def ND:aJ prog 40 [n31,.int .i64 8,.int .i64 20] (.P' [I0,K8]):=FO ME [20,21,40,42] (E:=[]) uG.nil rfl (by kernel_rfl)
def Ew:V:=(.sl 5 [(.agg [(.int .i64 1),(.int .i64 1),.aC,(.sl 7 [(.agg [(.int .i64 1),(.int .i64 0),(.int .i64 0),(.int .i64 0),(.int .i64 0),(.int .i64 5),(.int .i64 10)]),(.agg [(.int .i64 1),(.int .i64 1),(.int .i64 0),(.int .i64 0),(.int .i64 10),(.int .i64 5),(.int .i64 10)])]),(.sl 7 [])]),(.agg [(.int .i64 2),(.int .i64 1),.aC,(.sl 7 [(.agg [(.int .i64 1),(.int .i64 2),(.int .i64 0),(.int .i64 0),(.int .i64 0),(.int .i64 5),(.int .i64 10)])]),(.sl 7 [])])])
def Kf:V:=(.int .i64 0)
def NL:aJ prog 21 [n31,.int .i64 8,.int .i64 20] (.P' [Ew,Kf]):=FO ME [20,21,40,42] (E:=[(40,[n31,.int .i64 8,.int .i64 20],(.P' [I0,K8]))]) (.cons ND uG.nil) rfl (by kernel_rfl)
def Fh(sz:Nat)(ks:List Nat):Yb:=⟨26,.seq (.reg false [⟨some 4,.YH (.c (.bool false)),none⟩]) (.seq (.seq (.reg false [⟨some 6,.YH (.t 0),none⟩,⟨some 7,.len false (.t 6),none⟩,⟨some 8,.YH (.t 1),none⟩,⟨some 9,.len false (.t 8),none⟩,⟨some 10,.bin .neq (.t 7) (.t 9),none⟩]) (.cond (.t 10) (.seq (.reg false [⟨some 4,.YH (.c (.bool false)),none⟩]) .ret) .skip)) (.seq (.seq (.reg false [⟨some 5,.YH (.c (.int .i64 0)),none⟩]) (.block 0 (.loop (.seq (.seq (.reg false [⟨some 11,.YH (.t 5),none⟩,⟨some 12,.YH (.t 0),none⟩,⟨some 13,.len false (.t 12),none⟩,⟨some 14,.bin .lss (.t 11) (.t 13),none⟩]) (.cond (.t 14) .skip (.exit 0))) (.seq (.block 1 (.seq (.reg true [⟨some 17,.YH (.t 0),none⟩,⟨some 18,.YH (.t 5),none⟩,⟨some 19,.idxA sz (.t 17) (.t 18),none⟩,⟨some 20,.load true sz (.t 19),none⟩,⟨some 21,.YH (.t 1),none⟩,⟨some 22,.YH (.t 5),none⟩,⟨some 23,.idxA sz (.t 21) (.t 22),none⟩,⟨some 24,.load true sz (.t 23),none⟩,⟨some 25,.eqS true ks (.t 20) (.t 24),none⟩]) (.cond (.t 25) (.seq (.reg false [⟨some 4,.YH (.c (.bool false)),none⟩]) .ret) .skip))) (.reg false [⟨some 15,.YH (.t 5),none⟩,⟨some 16,.bin .add (.t 15) (.c (.int .i64 1)),none⟩,⟨some 5,.YH (.t 16),none⟩])))))) (.seq (.reg false [⟨some 4,.YH (.c (.bool true)),none⟩]) .ret))),[.tmp (.t 4)]⟩
def Nu{P:Program}{f:FuncId}{fn:Func}(hf:P.funcs[f]?=some fn){sz:Nat}{ks:List Nat}(hc:cfn P fn=some (Fh sz ks))(hk:bV P f=true){α:Type}[DecidableEq α](enc:α->V)
 (he:∀a b,sK true ks (enc a) (enc b)=some (.bool (decide (a≠b))))(hl:∀U a,bB U true sz (.rp (enc a))=some (enc a))(xs ys:List α)(hx:xs.length<=1000000000000):
 aJ P f [.sl sz (xs.map enc),.sl sz (ys.map enc)] (.bool (decide (xs=ys))):=λU=>by
 refine au.jT hf hc hk (by simp[Fh]) ?_;refine ab.mix 6 ?_;have n1:cW false (.sl sz (xs.map enc))=some (.int .i64 xs.length):=by simp[cW]
 have n2:cW false (.sl sz (ys.map enc))=some (.int .i64 ys.length):=by simp[cW]
 by_cases hlen:xs.length=ys.length
 .have q:((xs.length:Int)≠ys.length)=False:=T';apply sR;simp only[go_sem,seval,Fh,n1,n2,q];refine ab.loop (λm st=>∃j,j<=xs.length/\m=xs.length-j/\xs.take j=ys.take j/\st.s 0=.sl sz (xs.map enc)/\st.s 1=.sl sz (ys.map enc)/\st.s 5=.int .i64 j/\st.U=U) xs.length ⟨0,by omega,rfl,rfl,rfl,rfl,rfl,rfl⟩ ?_;rintro m ⟨S,Z'⟩ ⟨j,hj,rfl,ht,t0,t1,t5,YF⟩;simp only at t0 t1 t5 YF;subst YF;refine ab.mix 6 ?_;by_cases H':j<xs.length
  .have q1:((j:Int)<xs.length)=True:=Yd;have hlt2:j<ys.length:=by omega
   have i1:∀U,bo U sz (.sl sz (xs.map enc)) (.int .i64 j)=some (.rp (enc xs[j])):=λU=>by simp[bo,H']
   have i2:∀U,bo U sz (.sl sz (ys.map enc)) (.int .i64 j)=some (.rp (enc ys[j])):=λU=>by simp[bo,hlt2]
   have hee:=he xs[j] ys[j];have tx:=Zq0 H';have ty:=Zq0 hlt2;by_cases hq:xs[j]=ys[j]
   .rw[show decide (xs[j]≠ys[j])=false by simpa using hq]at hee;apply sR;simp only[BB,seval,aX,ez,aE,dW,iS,ZQ.nothing,t0,t1,t5,n1,q1,i1,i2,hl,hee];exact⟨ai,_,by omega,j+1,by omega,rfl,by rw[tx,ty,ht,hq],by simp⟩
   .rw[show decide (xs[j]≠ys[j])=true by simpa using hq]at hee;apply sR;simp only[BB,seval,aX,ez,aE,dW,iS,ZQ.nothing,t0,t1,t5,n1,q1,i1,i2,hl,hee];refine ak.same ?_;have:¬xs=ys:=λh=>hq (by simp only[h]);rw[Zu this]
  .have q1:((j:Int)<xs.length)=False:=T';apply sR;simp only[go_sem,seval,t0,t5,n1,q1];refine ak.same ?_;rw[jj (by omega),jj (by omega)]at ht;rw[ZG ht]
 .have q:((xs.length:Int)≠ys.length)=True:=Yd;apply sR;simp only[go_sem,seval,Fh,n1,n2,q];refine ak.same ?_;rw[Zu λh=>hlen (by rw[h])]
open Go.Proofs Go.Proofs.Tryz
section
variable {P:Program} {n:Nat} {st:St} {Q:St->Prop} {k:List It}
def Go.cm{i:az}{l:List az}{fx:VX}{xs:List VX}{f:FuncId}{caps:List V}{v:V}(hw:aQ st.s i.g=some true)(ho:i.op=.call fx xs)
 (hf:fx.ev st.s=.fn f caps)(hc:aJ P f (xs.map (·.ev st.s)++caps) v)(h:Go P n (.d l k) ⟨aO st.s i.dst v,st.U⟩ Q):Go P n (.d (i::l) k) st Q:=by
 refine lI hw ?_;rw[ho];exact⟨f,caps,v,hf,λZ1 _=>hc Z1,h⟩
end
def ph{U:af}{id:Nat}{o:Ob}(h:U id=some o):C' U id o=U:=by
 funext i;simp only[C'];split
 .rename_i e;rw[e,h]
 .rfl
def Bq(n:Int):Prop:=-1152921504606846976<=n/\n<=1152921504606846976
def si(n:Int):aJ prog 44 [vI n] (.bool (decide (1<=n/\n<=1099511627776))):=λU=>by
 refine e44.r (by simp[c44]) ?_;apply sR;simp only[go_sem,seval,c44];refine And.intro (λh=>?_) (λh=>?_)
 .exact ak.same (by congr 1;exact decide_eq_decide.2 (by omega))
 .exact ak.same (by congr 1;exact(Zu (by omega)).symm)
def dt(n:Int):Int:=max (-1099511627776) (min n 1099511627776)
def DK(n:Int):aJ prog 103 [vI n] (vI (dt n)):=λU=>by
 refine WM.r (by simp[Pc]) ?_;apply sR;simp only[go_sem,seval,Pc];exact ak.same (by congr 1;unfold dt;split<;>split<;>omega)
structure Zv where
 (a b:Int)
deriving DecidableEq
def bh(s:Zv):V:=.agg [vI s.a,vI s.b]
def u6(s:Zv):aJ prog 328 [bh s] (.bool (decide (s.b<=s.a))):=λU=>by
 refine Wh.r (by simp[O0]) ?_;apply sR;simp only[go_sem,seval,O0,bh];refine ad λi1 Z1 s1 a1 f1=>?_;simp only[go_sem,seval,a1];exact ak.pure s1 rfl
def kr(s:Zv):Int:=if s.b<=s.a then 0 else s.b-s.a
def Bq2(n:Int):Prop:=-2305843009213693952<=n/\n<=2305843009213693952
def JW(s:Zv)(ha:Bq2 s.a)(hb:Bq2 s.b):aJ prog 303 [bh s] (vI (kr s)):=λU=>by
 obtain⟨h1,h2⟩:=ha;obtain⟨h3,h4⟩:=hb;refine Xe.r (by simp[QI]) ?_;apply sR;simp only[go_sem,seval,QI,bh];refine ad λi1 Z1 s1 a1 f1=>?_;simp only[go_sem,seval,a1];refine ab.ay rfl rfl rfl (u6 ⟨_,_⟩ _) ?_;apply sR;simp only[go_sem,seval,a1];unfold kr;refine And.intro (λh=>?_) (λh=>?_)
 .rw[ar h];exact ak.pure s1 rfl
 .rw[av h];exact⟨ai,ak.pure s1 rfl⟩
open Go.Proofs Go.Proofs.Tryz
def pX(a b:Zv):Zv:=if a.b<=a.a\/b.b<=b.a\/min a.b b.b<=max a.a b.a then⟨0,0⟩else⟨max a.a b.a,min a.b b.b⟩
def df(a b:Int):(if b>a then b else a)=max a b:=by split<;>omega
def gF(a b:Int):(if b<a then b else a)=min a b:=by split<;>omega
def PK(x y:Zv):aJ prog 338 [bh x,bh y] (bh (pX x y)):=λU=>by
 refine WZ.r (by simp[R9]) ?_;have hs:=aa.refl U;refine ab.mix 6 ?_;apply sR;simp only[go_sem,seval,R9,bh];refine ad λi2 Z2 s2 a2 f2=>?_;replace hs:=hs.trans s2;simp only[go_sem,seval];refine ad λi3 Z3 s3 a3 f3=>?_;replace a2:=s3 _ _ a2;replace hs:=hs.trans s3;simp only[go_sem,seval];refine ad λi4 Z4 s4 a4 f4=>?_;replace a2:=s4 _ _ a2;replace a3:=s4 _ _ a3;have z4:=hs.none f4;replace hs:=hs.trans s4;simp only[go_sem,seval,a3,a2];refine ad λi5 Z5 s5 a5 f5=>?_;have n25:=ao a2 f5;replace a2:=s5 _ _ a2;have n35:=ao a3 f5;replace a3:=s5 _ _ a3;have n45:=ao a4 f5;replace a4:=s5 _ _ a4;have z5:=hs.none f5;replace hs:=hs.trans s5;simp only[go_sem,seval,a5,a2,df,gF,ae n25];generalize ZN:C' _ i5 _=Y5;replace a5:=(congrFun ZN i5).symm.trans ag;replace a2:=((congrFun ZN i2).symm.trans (ae n25)).trans a2;replace a3:=((congrFun ZN i3).symm.trans (ae n35)).trans a3;replace a4:=((congrFun ZN i4).symm.trans (ae n45)).trans a4;replace hs:=Eq.subst (motive:=aa _) ZN (hs.ax z5);clear ZN;refine ab.ay rfl rfl rfl (u6 ⟨_,_⟩ _) ?_;unfold pX;by_cases h1:x.b<=x.a
 .rw[ar (.inl h1),ZG h1];apply sR;simp only[go_sem,seval,a4];exact ak.pure (hs.ax z4) rfl
 rw[Zu h1];apply sR;simp only[go_sem,seval,a3];refine ab.ay rfl rfl rfl (u6 ⟨_,_⟩ _) ?_;by_cases h2:y.b<=y.a
 .rw[ar (.inr (.inl h2)),ZG h2];apply sR;simp only[go_sem,seval,a4];exact ak.pure (hs.ax z4) rfl
 rw[Zu h2];apply sR;simp only[go_sem,seval,a5];refine ab.ay rfl rfl rfl (u6 ⟨_,_⟩ _) ?_;by_cases h3:min x.b y.b<=max x.a y.a
 .rw[ar (.inr (.inr h3)),ZG h3];apply sR;simp only[go_sem,seval,a4];exact ak.pure (hs.ax z4) rfl
 .rw[av (by omega),Zu h3];apply sR;simp only[go_sem,seval,a4,a5];exact ak.pure (hs.ax z4) rfl
def NA(x y:Zv):aJ prog 336 [bh x,bh y] (.bool (decide (pX x y=⟨0,0⟩))):=λU=>by
 refine XP.r (by simp[Sh]) ?_;have hs:=aa.refl U;refine ab.mix 5 ?_;apply sR;simp only[go_sem,seval,Sh,bh];refine ad λi2 Z2 s2 a2 f2=>?_;replace hs:=hs.trans s2;simp only[go_sem,seval];refine ad λi3 Z3 s3 a3 f3=>?_;replace a2:=s3 _ _ a2;replace hs:=hs.trans s3;simp only[go_sem,seval,a3,a2];refine ab.ay rfl rfl rfl (PK ⟨_,_⟩ ⟨_,_⟩ _) ?_;have e:(⟨x.a,x.b⟩:Zv)=x:=rfl;have e':(⟨y.a,y.b⟩:Zv)=y:=rfl;rw[e,e'];generalize pX x y=m;obtain⟨u,v⟩:=m;apply sR;simp only[go_sem,seval,bh];refine ak.pure hs ?_;by_cases h1:u=0<;>by_cases h2:v=0<;>simp[h1,h2]
structure Rct where
 (x y w h:Int)
deriving DecidableEq
def LS(r:Rct):V:=.agg [vI r.x,vI r.y,vI r.w,vI r.h]
def DY(r:Rct)(h1:Bq r.y)(h2:Bq r.h):aJ prog 272 [LS r] (bh ⟨r.y,r.y+r.h⟩):=λU=>by
 obtain⟨g1,g2⟩:=h1;obtain⟨g3,g4⟩:=h2;refine WU.r (by simp[QR]) ?_;have hs:=aa.refl U;apply sR;simp only[go_sem,seval,QR,LS];refine ad λi1 Z1 s1 a1 f1=>?_;replace hs:=hs.trans s1;simp only[go_sem,seval];refine ad λi2 Z2 s2 a2 f2=>?_;replace a1:=s2 _ _ a1;have z2:=hs.none f2;replace hs:=hs.trans s2;simp only[go_sem,seval,a2,a1];exact⟨ai,ak.pure (hs.ax z2) rfl⟩
def Ih(r:Rct)(h1:Bq r.x)(h2:Bq r.w):aJ prog 330 [LS r] (bh ⟨r.x,r.x+r.w⟩):=λU=>by
 obtain⟨g1,g2⟩:=h1;obtain⟨g3,g4⟩:=h2;refine Vt.r (by simp[Sc]) ?_;have hs:=aa.refl U;apply sR;simp only[go_sem,seval,Sc,LS];refine ad λi1 Z1 s1 a1 f1=>?_;replace hs:=hs.trans s1;simp only[go_sem,seval];refine ad λi2 Z2 s2 a2 f2=>?_;replace a1:=s2 _ _ a1;have z2:=hs.none f2;replace hs:=hs.trans s2;simp only[go_sem,seval,a2,a1];exact⟨ai,ak.pure (hs.ax z2) rfl⟩
structure Pn where
 (y m:Int)
deriving DecidableEq
def gW(p:Pn):V:=.agg [vI p.y,vI p.m]
def H6(p:Pn)(h1:Bq p.y)(h2:Bq p.m):aJ prog 167 [gW p] (vI (p.y+p.m)):=λU=>by
 obtain⟨g1,g2⟩:=h1;obtain⟨g3,g4⟩:=h2;refine Wz.r (by simp[SM]) ?_;have hs:=aa.refl U;apply sR;simp only[go_sem,seval,SM,gW];refine ad λi1 Z1 s1 a1 f1=>?_;replace hs:=hs.trans s1;simp only[go_sem,seval,a1];exact⟨ai,ak.pure hs rfl⟩
def PH(p:Pn)(y h:Int)(h1:Bq y)(h2:Bq h):aJ prog 266 [gW p,vI y,vI h] (gW ⟨y+h,0⟩):=λU=>by
 obtain⟨g1,g2⟩:=h1;obtain⟨g3,g4⟩:=h2;refine Wu.r (by simp[SQ]) ?_;have hs:=aa.refl U;apply sR;simp only[go_sem,seval,SQ,gW];refine ad λi1 Z1 s1 a1 f1=>?_;replace hs:=hs.trans s1;simp only[go_sem,seval];refine ad λi2 Z2 s2 a2 f2=>?_;replace a1:=s2 _ _ a1;have z2:=hs.none f2;replace hs:=hs.trans s2;simp only[go_sem,seval,a2];exact⟨ai,ak.pure (hs.ax z2) rfl⟩
def jY(p:Pn)(low:Int):Pn:=if low>p.y+p.m then⟨low,0⟩else p
def Jk(p:Pn)(low:Int)(h1:Bq p.y)(h2:Bq p.m):aJ prog 216 [gW p,vI low] (gW (jY p low)):=λU=>by
 refine Vr.r (by simp[OU]) ?_;have hs:=aa.refl U;refine ab.mix 5 ?_;apply sR;simp only[go_sem,seval,OU,gW];refine ad λi2 Z2 s2 a2 f2=>?_;replace hs:=hs.trans s2;simp only[go_sem,seval];refine ad λi4 Z4 s4 a4 f4=>?_;replace a2:=s4 _ _ a2;have z4:=hs.none f4;replace hs:=hs.trans s4;simp only[go_sem,seval,a2];refine ab.ay rfl rfl rfl (H6 ⟨_,_⟩ h1 h2 _) ?_;unfold jY;by_cases h:low>p.y+p.m
 .have q:(low>p.y+p.m)=True:=Yd h;rw[ar h];apply sR;simp only[go_sem,seval,a4,q];exact ak.pure (hs.ax z4) rfl
 .have q:(low>p.y+p.m)=False:=T' h;rw[av h];apply sR;simp only[go_sem,seval,a4,a2,q];exact ak.pure (hs.ax z4) rfl
def F3(y m n:Int){U:af}{id:Nat}(O':U id=some ⟨342,2,[.agg [vI y,vI m]]⟩):au prog 263 [.ptr id 0 0,vI n] U λr Z'=>r=.P' []/\Z'=C' U id ⟨342,2,[.agg [vI y,vI (max m n)]]⟩:=by
 refine WD.r (by simp[RA]) ?_;apply sR;simp only[go_sem,seval,RA,O',df];exact⟨_,_,aa.refl _,Wk.refl (aa.refl _) _,rfl,rfl⟩
def Ox(y m n:Int)(hy:Bq y)(hm:Bq m)(hn:Bq n){U:af}{id:Nat}(O':U id=some ⟨342,2,[.agg [vI y,vI m]]⟩):au prog 264 [.ptr id 0 0,vI n] U λr Z'=>r=.P' []/\Z'=C' U id ⟨342,2,[.agg [vI (if n>0 then y+m+n else y),vI (if n>0 then 0 else m)]]⟩:=by
 obtain⟨g1,g2⟩:=hy;obtain⟨g3,g4⟩:=hm;obtain⟨g5,g6⟩:=hn;refine VM.r (by simp[LM]) ?_;by_cases h:n>0
 .have q:(n>0)=True:=Yd h;rw[ar h,ar h];apply sR;simp only[go_sem,seval,LM,O',q];exact⟨ai,ai,_,_,aa.refl _,Wk.refl (aa.refl _) _,rfl,rfl⟩
 .have q:(n>0)=False:=T' h;rw[av h,av h];apply sR;simp only[go_sem,seval,LM,q];exact⟨_,_,aa.refl _,Wk.refl (aa.refl _) _,rfl,(by funext i;simp only[C'];split<;>simp_all)⟩
open Go.Proofs Go.Proofs.Tryz
structure U' where
 (node side anchor x y w h:Int)
deriving DecidableEq
def aK(f:U'):V:=.agg [vI f.node,vI f.side,vI f.anchor,vI f.x,vI f.y,vI f.w,vI f.h]
def aG(l:List U'):V:=.sl 7 (l.map aK)
def iR(f:U'):V:=.agg [vI f.node,vI f.side,vI f.anchor,vI f.x,vI f.y,vI f.w,vI f.h,vI f.x,vI f.y,vI f.w,vI f.h]
def U'.ok(f:U'):Prop:=Bq f.x/\Bq f.y/\Bq f.w/\Bq f.h
def j2{U:af}{l:List U'}{i:Nat}(h:i<l.length):bo U 7 (aG l) (.int .i64 i)=some (.rp (aK l[i])):=by simp[aG,bo,h]
def fX(l:List U'):cW false (aG l)=some (.int .i64 l.length):=by simp[aG,cW]
def N5(f:U'):aJ prog 271 [aK f] (iR f):=λU=>by
 refine Xa.r (by simp[RL]) ?_;have hs:=aa.refl U;apply sR;simp only[go_sem,seval,RL,aK];refine ad λi1 Z1 s1 a1 f1=>?_;replace hs:=hs.trans s1;simp only[go_sem,seval];refine ad λi2 Z2 s2 a2 f2=>?_;replace a1:=s2 _ _ a1;have z2:=hs.none f2;replace hs:=hs.trans s2;simp only[go_sem,seval,a2,a1];exact ak.pure (hs.ax z2) rfl
def BV(f:U')(hf:f.ok):aJ prog 226 [iR f] (vI (f.y+f.h)):=λU=>by
 refine Va.r (by simp[Ph]) ?_;have hs:=aa.refl U;apply sR;simp only[go_sem,seval,Ph,iR];refine ad λi1 Z1 s1 a1 f1=>?_;replace hs:=hs.trans s1;simp only[go_sem,seval,a1];refine ab.ay rfl rfl rfl (DY ⟨_,_,_,_⟩ hf.2.1 hf.2.2.2 _) ?_;apply sR;simp only[go_sem,seval,bh];exact ak.pure hs rfl
def jb(y high:Int)(f:U'):Bool:=!decide (pX ⟨f.y,f.y+f.h⟩ ⟨y,y+max high 1⟩=⟨0,0⟩)
def NR(f:U')(y high:Int)(hf:f.ok)(hy:Bq2 y)(hh:Bq high):aJ prog 329 [iR f,vI y,vI high] (.bool (jb y high f)):=λU=>by
 obtain⟨g1,g2⟩:=hy;obtain⟨g3,g4⟩:=hh;refine Vv.r (by simp[RC]) ?_;have hs:=aa.refl U;refine ab.mix 7 ?_;apply sR;simp only[go_sem,seval,RC,iR];refine ad λi3 Z3 s3 a3 f3=>?_;replace hs:=hs.trans s3;simp only[go_sem,seval,a3];refine ab.ay rfl rfl rfl (DY ⟨_,_,_,_⟩ hf.2.1 hf.2.2.2 _) ?_;apply sR;simp only[go_sem,seval,df];refine⟨ai,?_⟩;refine ab.ay rfl rfl rfl (NA ⟨_,_⟩ ⟨_,_⟩ _) ?_;apply sR;simp only[go_sem,seval];rw[show max high 1=max 1 high by omega];exact ak.pure hs (by simp[jb,Int.max_comm])
def kY(f:U')(s:Zv):Zv:=if f.side=1 then⟨max s.a (f.x+f.w),s.b⟩else⟨s.a,min s.b f.x⟩
def Om(f:U')(s:Zv)(hf:f.ok):aJ prog 306 [iR f,bh s] (bh (kY f s)):=λU=>by
 refine Vj.r (by simp[O7]) ?_;have hs:=aa.refl U;refine ab.mix 6 ?_;apply sR;simp only[go_sem,seval,O7,iR,bh];refine ad λi2 Z2 s2 a2 f2=>?_;replace hs:=hs.trans s2;simp only[go_sem,seval];refine ad λi3 Z3 s3 a3 f3=>?_;replace a2:=s3 _ _ a2;have z3:=hs.none f3;replace hs:=hs.trans s3;simp only[go_sem,seval];refine ad λi4 Z4 s4 a4 f4=>?_;have n24:=ao a2 f4;replace a2:=s4 _ _ a2;have n34:=ao a3 f4;replace a3:=s4 _ _ a3;have z4:=hs.none f4;replace hs:=hs.trans s4;simp only[go_sem,seval,a2];refine ab.ay rfl rfl rfl (Ih ⟨_,_,_,_⟩ hf.1 hf.2.2.1 _) ?_;apply sR;simp only[go_sem,seval,bh];refine ad λi5 Z5 s5 a5 f5=>?_;have n25:=ao a2 f5;replace a2:=s5 _ _ a2;have n35:=ao a3 f5;replace a3:=s5 _ _ a3;have n45:=ao a4 f5;replace a4:=s5 _ _ a4;have z5:=hs.none f5;replace hs:=hs.trans s5;unfold kY;by_cases h:f.side=1
 .have q:(f.side=1)=True:=Yd h;rw[ar h];simp only[go_sem,seval,a5,a4,a3,a2,q,df,ae n25,ae n35,ae n45,ae n34.symm];exact ak.pure (((hs.ax z5).ax z3).ax z4) rfl
 .have q:(f.side=1)=False:=T' h;rw[av h];simp only[go_sem,seval,a5,a4,a3,a2,q,gF,ae n25,ae n35,ae n45,ae n34.symm];exact ak.pure (((hs.ax z5).ax z3).ax z4) rfl
open Go.Proofs Go.Proofs.Tryz
def Cf{α:Type}(p:α->Bool)(l:List α){i:Nat}(h:i<l.length):(l.take (i+1)).filter p=(l.take i).filter p++if p l[i]then[l[i]]else[]:=by
 rw[Zq0 h,List.filter_append];cases hp:p l[i]<;>simp[hp]
def Of(l:List U')(y high:Int)(hl:l.length<=1000000)(M':∀f∈l,f.ok)(hy:Bq2 y)(hh:Bq high)(g:FuncId)(caps:List V)(τ:List U'->af->Prop)
 (hJ:∀pre U Z',τ pre U->aa U Z'->τ pre Z')
 (hg:∀pre f U,f∈l->τ pre U->au prog g (iR f::caps) U λr Z'=>r=.P' []/\τ (pre++[f]) Z'){U:af}(h0:τ [] U):
 au prog 304 [aG l,vI y,vI high,.fn g caps] U λr Z'=>r=.P' []/\τ (l.filter (jb y high)) Z':=by
 refine UT.r (by simp[P3]) ?_;refine ab.mix 14 ?_;apply sR;simp only[go_sem,seval,P3,fX];refine ab.loop (λm st=>∃i:Nat,i<=l.length/\m=l.length-i/\τ ((l.take i).filter (jb y high)) st.U/\st.s 1=vI y/\st.s 2=vI high/\st.s 3=.fn g caps/\st.s 11=aG l/\st.s 12=vI l.length/\st.s 13=vI i) l.length ?_ ?_
 .exact⟨0,by omega,rfl,h0,rfl,rfl,rfl,rfl,rfl,rfl⟩
 .rintro m ⟨s,Z'⟩ ⟨i,hi,rfl,hj,k1,k2,k3,k11,k12,k13⟩;simp only at hj k1 k2 k3 k11 k12 k13;refine ab.mix 14 ?_;by_cases H':i<l.length
  .have q:((i:Int)<l.length)=True:=Yd;have hix:=λU=>j2 (U:=U) H';have hmem:=Zr H';have hfok:=M' _ hmem;have Zb:=Cf (jb y high) l H';generalize l[i]=f at*;have hs:=aa.refl Z';apply sR;simp only[go_sem,seval,k11,k12,k13,q,hix,aK];refine ad λi9 Z9 s9 a9 f9=>?_;have z9:=hs.none f9;replace hs:=hs.trans s9;simp only[go_sem,seval,a9];generalize Zs:C' _ i9 _=Y9;replace a9:=(congrFun Zs i9).symm.trans ag;replace hs:=Eq.subst (motive:=aa _) Zs (hs.ax z9);clear Zs;refine ab.ay rfl rfl rfl (N5 f _) ?_;apply sR;simp only[go_sem,seval,iR];refine ad λYM Z10 s10 YX f10=>?_;have n910:=ao a9 f10;replace a9:=s10 _ _ a9;have z10:=hs.none f10;replace hs:=hs.trans s10;simp only[go_sem,seval,YX,k1,k2];generalize hq10:C' _ YM _=Y10;replace YX:=(congrFun hq10 YM).symm.trans ag;replace a9:=((congrFun hq10 i9).symm.trans (ae n910)).trans a9;replace hs:=Eq.subst (motive:=aa _) hq10 (hs.ax z10);clear hq10;refine ab.ay rfl rfl rfl (NR f y high hfok hy hh _) ?_;cases hm:jb y high f
   .rw[hm]at Zb;apply sR;simp only[go_sem,seval,k1,k2,k3,k11,k12,k13];refine⟨ai,_,by omega,i+1,by omega,rfl,?_,by simp⟩;rw[Zb];simpa using hJ _ _ _ hj hs
   .rw[hm]at Zb;apply sR;simp only[go_sem,seval,YX,k3];refine ab.call rfl rfl rfl (hg _ f _ hmem (hJ _ _ _ hj hs)) ?_;rintro r Z2 ⟨rfl,hj2⟩;apply sR;simp only[go_sem,seval,k1,k2,k3,k11,k12,k13];refine⟨ai,_,by omega,i+1,by omega,rfl,?_,by simp⟩;rw[Zb];simpa using hj2
  .have q:((i:Int)<l.length)=False:=T';apply sR;simp only[go_sem,seval,k12,k13,q];obtain rfl:i=l.length:=by omega
   rw[hU]at hj;exact⟨_,_,aa.refl _,Wk.refl (aa.refl _) _,rfl,hj⟩
def dJ(l:List U')(y high:Int)(s:Zv):Zv:=(l.filter (jb y high)).foldl (λs f=>kY f s) s
def Th{id:Nat}(f:U')(s:Zv)(hf:f.ok){U:af}(O':U id=some ⟨288,2,[bh s]⟩):au prog 331 [iR f,.ptr id 0 0] U λr Z'=>r=.P' []/\∃Z1,aa U Z1/\Z'=C' Z1 id ⟨288,2,[bh (kY f s)]⟩:=by
 refine U4.r (by simp[OY]) ?_;have a1:=O';rw[bh]at a1;apply sR;simp only[go_sem,seval,OY,iR];refine ad λi2 Z2 s2 a2 f2=>?_;replace a1:=s2 _ _ a1;simp only[go_sem,seval,a2,a1];refine ab.ay rfl rfl rfl (Om f s hf _) ?_;apply sR;simp only[go_sem,seval,a1,bh];exact⟨_,_,aa.refl _,Wk.refl (aa.refl _) _,rfl,Z2,s2,rfl⟩
def Gt(l:List U')(y high:Int)(s:Zv)(hl:l.length<=1000000)(M':∀f∈l,f.ok)(hy:Bq2 y)(hh:Bq high):aJ prog 307 [aG l,vI y,vI high,bh s] (bh (dJ l y high s)):=λU=>by
 refine V1.r (by simp[QX]) ?_;have hs:=aa.refl U;refine ab.mix 10 ?_;apply sR;simp only[go_sem,seval,QX,bh];refine ad λi7 Z7 s7 a7 f7=>?_;replace hs:=hs.trans s7;simp only[go_sem,seval];refine ad λi8 Z8 s8 a8 f8=>?_;replace a7:=s8 _ _ a7;have z8:=hs.none f8;replace hs:=hs.trans s8;simp only[go_sem,seval,a7];refine ad λi9 Z9 s9 a9 f9=>?_;have n79:=ao a7 f9;replace a7:=s9 _ _ a7;have n89:=ao a8 f9;replace a8:=s9 _ _ a8;have z9:=hs.none f9;replace hs:=hs.trans s9;simp only[go_sem,seval,a9];generalize Zs:C' _ i9 _=Y9;replace a9:=(congrFun Zs i9).symm.trans ag;replace a7:=((congrFun Zs i7).symm.trans (ae n79)).trans a7;replace a8:=((congrFun Zs i8).symm.trans (ae n89)).trans a8;replace hs:=Eq.subst (motive:=aa _) Zs (hs.ax z9);clear Zs;refine ab.call rfl rfl rfl (Of l y high hl M' hy hh 331 [.ptr i9 0 0] (λpre J=>J i9=some ⟨288,2,[bh (pre.foldl (λs f=>kY f s) s)]⟩/\J i8=some ⟨288,2,[.agg [vI 0,vI 0]]⟩/\aa U J) ?_ ?_ ⟨a9,a8,hs⟩) ?_
 .rintro pre J X' ⟨h1,h2,h4⟩ h5;exact⟨h5 _ _ h1,h5 _ _ h2,h4.trans h5⟩
 .rintro pre f J hf ⟨h1,h2,h4⟩;refine(Th f _ (M' f hf) h1).mono ?_;rintro r X' ⟨rfl,Y1,h5,rfl⟩;refine⟨rfl,?_,by rw[ae n89];exact h5 _ _ h2,(h4.trans h5).ax z9⟩;rw[ag,wG];rfl
 .rintro r J ⟨rfl,h1,h2,h4⟩;have hcs:bh (List.foldl (λs f=>kY f s) s (List.filter (jb y high) l))=.agg [vI (dJ l y high s).a,vI (dJ l y high s).b]:=rfl;rw[hcs]at h1;apply sR;simp only[go_sem,seval,h1,h2];exact ak.pure (h4.ax z8) rfl
open Go.Proofs Go.Proofs.Tryz
def kf(s:Zv)(a:Int×Bool)(f:U'):Int×Bool:=if kY f s=s\/(a.2=true/\f.y+f.h>=a.1)then a else(f.y+f.h,true)
def gw(l:List U')(y high:Int)(s:Zv):Int×Bool:=(l.filter (jb y high)).foldl (kf s) (0,false)
def LH{i1 i2 i3:Nat}(f:U')(s:Zv)(a:Int×Bool)(hf:f.ok)(h12:i1≠i2)(h13:i1≠i3)(h23:i2≠i3){U:af}(q1:U i1=some ⟨288,2,[bh s]⟩)(q2:U i2=some ⟨4,1,[.bool a.2]⟩)(q3:U i3=some ⟨3,1,[vI a.1]⟩):
 au prog 305 [iR f,.ptr i1 0 0,.ptr i2 0 0,.ptr i3 0 0] U λr Z'=>r=.P' []/\∃Z1,aa U Z1/\Z'=C' (C' Z1 i3 ⟨3,1,[vI (kf s a f).1]⟩) i2 ⟨4,1,[.bool (kf s a f).2]⟩:=by
 refine Wv.r (by simp[Q5]) ?_;refine ab.mix 5 ?_;obtain⟨u,v⟩:=a;simp only at q2 q3;apply sR;simp only[go_sem,seval,Q5,iR];refine ad λi4 Z4 s4 a4 f4=>?_;replace q1:=s4 _ _ q1;replace q2:=s4 _ _ q2;replace q3:=s4 _ _ q3;have hcut:=Om f s hf;have hbot:=BV f hf;obtain⟨s1,s2⟩:=s;rw[bh]at q1;simp only[go_sem,seval,a4,q1];refine Go.cm rfl rfl rfl hcut ?_;unfold kf;generalize kY f ⟨s1,s2⟩=c;obtain⟨c1,c2⟩:=c;have same:∀Z':af,Z'=Z4->C' (C' Z' i3 ⟨3,1,[vI u]⟩) i2 ⟨4,1,[.bool v]⟩=Z4:=λZ' e=>by
  subst e;rw[ph q3,ph q2]
 by_cases hc:c1=s1/\c2=s2
 .obtain⟨rfl,rfl⟩:=hc;apply sG;simp only[go_sem,seval,q1,bh];refine⟨_,_,aa.refl _,Wk.refl (aa.refl _) _,rfl,Z4,s4,?_⟩;rw[ar (by simp),same _ rfl]
 .have hd:(decide (c1=s1)&&decide (c2=s2))=false:=by
   by_cases h1:c1=s1<;>by_cases h2:c2=s2<;>simp_all
  have YA:¬(⟨c1,c2⟩:Zv)=⟨s1,s2⟩:=by simpa using hc
  cases v
  .rw[av (by simp[YA])];apply sG;simp only[go_sem,seval,q1,q2,a4,bh,hd];refine ab.ay rfl rfl rfl (hbot _) ?_;apply sR;simp only[go_sem,seval,q2,q3,ae h23];exact⟨_,_,aa.refl _,Wk.refl (aa.refl _) _,rfl,Z4,s4,rfl⟩
  .apply sG;simp only[go_sem,seval,q1,q2,a4,bh,hd];refine Go.cm rfl rfl rfl hbot ?_;by_cases hb:f.y+f.h>=u
   .have q:(f.y+f.h>=u)=True:=Yd hb;apply sG;simp only[go_sem,seval,q3,q];refine⟨_,_,aa.refl _,Wk.refl (aa.refl _) _,rfl,Z4,s4,?_⟩;rw[ar (.inr (by first|exact hb|exact⟨rfl,hb⟩|simp)),same _ rfl]
   .have q:(f.y+f.h>=u)=False:=T' hb;rw[av (by simp[YA];omega)];apply sG;simp only[go_sem,seval,q3,a4,q];refine ab.ay rfl rfl rfl (hbot _) ?_;apply sR;simp only[go_sem,seval,q2,q3,ae h23];exact⟨_,_,aa.refl _,Wk.refl (aa.refl _) _,rfl,Z4,s4,rfl⟩
def Ji(l:List U')(y high:Int)(s:Zv)(hl:l.length<=1000000)(M':∀f∈l,f.ok)(hy:Bq2 y)(hh:Bq high):aJ prog 268 [aG l,vI y,vI high,bh s] (.P' [vI (gw l y high s).1,.bool (gw l y high s).2]):=λU=>by
 refine WA.r (by simp[RN]) ?_;have hs:=aa.refl U;refine ab.mix 12 ?_;apply sR;simp only[go_sem,seval,RN,bh];refine ad λi7 Z7 s7 a7 f7=>?_;replace hs:=hs.trans s7;simp only[go_sem,seval];refine ad λYM Z10 s10 YX f10=>?_;have n710:=ao a7 f10;replace a7:=s10 _ _ a7;have z10:=hs.none f10;replace hs:=hs.trans s10;simp only[go_sem,seval];refine ad λi11 Z11 s11 a11 f11=>?_;have n711:=ao a7 f11;replace a7:=s11 _ _ a7;have n1011:=ao YX f11;replace YX:=s11 _ _ YX;have z11:=hs.none f11;replace hs:=hs.trans s11;simp only[go_sem,seval,a11,YX,ae n1011.symm];rw[yT n1011,ph a11,ph YX];refine ab.call rfl rfl rfl (Of l y high hl M' hy hh 305 [.ptr i7 0 0,.ptr i11 0 0,.ptr YM 0 0] (λpre J=>J i7=some ⟨288,2,[bh s]⟩/\J i11=some ⟨4,1,[.bool (pre.foldl (kf s) (0,false)).2]⟩/\
  J YM=some ⟨3,1,[vI (pre.foldl (kf s) (0,false)).1]⟩/\aa U J) ?_ ?_ ⟨a7,a11,YX,hs⟩) ?_
 .rintro pre J X' ⟨h1,h2,h3,h4⟩ h5;exact⟨h5 _ _ h1,h5 _ _ h2,h5 _ _ h3,h4.trans h5⟩
 .rintro pre f J hf ⟨h1,h2,h3,h4⟩;refine(LH f s _ (M' f hf) n711 n710 n1011.symm h1 h2 h3).mono ?_;rintro r X' ⟨rfl,Y1,h5,rfl⟩;refine⟨rfl,?_,?_,?_,((h4.trans h5).ax z10).ax z11⟩
  .rw[ae n711,ae n710];exact h5 _ _ h1
  .rw[ag,wG];rfl
  .rw[ae n1011,ag,wG];rfl
 .rintro r J ⟨rfl,h1,h2,h3,h4⟩;apply sR;simp only[go_sem,seval,h2,h3];exact ak.pure h4 rfl
def ve(tell:U'->Int×Bool)(a:Int×Bool)(f:U'):Int×Bool:=if(tell f).2=true/\(a.2=false\/(tell f).1>a.1)then((tell f).1,true)else a
def dP(tell:U'->Int×Bool)(l:List U'):Int×Bool:=l.foldl (ve tell) (0,false)
def Jg(l:List U')(hl:l.length<=1000000)(g:FuncId)(caps:List V)(tell:U'->Int×Bool)(μ:af->Prop)(hI:∀U Z',μ U->aa U Z'->μ Z')
 (hg:∀f U,f∈l->μ U->au prog g (iR f::caps) U λr Z'=>r=.P' [vI (tell f).1,.bool (tell f).2]/\Z'=U){U:af}(h0:μ U):
 au prog 224 [aG l,.fn g caps] U λr Z'=>r=.P' [vI (dP tell l).1,.bool (dP tell l).2]/\Z'=U:=by
 refine Vs.r (by simp[QH]) ?_;refine ab.mix 15 ?_;apply sR;simp only[go_sem,seval,QH,fX];refine ab.loop (λm st=>∃i:Nat,i<=l.length/\m=l.length-i/\aa U st.U/\st.s 1=.fn g caps/\st.s 6=vI (dP tell (l.take i)).1/\st.s 7=.bool (dP tell (l.take i)).2/\st.s 12=aG l/\st.s 13=vI l.length/\st.s 14=vI i) l.length ?_ ?_
 .exact⟨0,by omega,rfl,aa.refl _,rfl,rfl,rfl,rfl,rfl,rfl⟩
 .rintro m ⟨s,Z'⟩ ⟨i,hi,rfl,hs,k1,k6,k7,k12,k13,k14⟩;simp only at hs k1 k6 k7 k12 k13 k14;refine ab.mix 15 ?_;by_cases H':i<l.length
  .have q:((i:Int)<l.length)=True:=Yd;have hix:=λU=>j2 (U:=U) H';have hmem:=Zr H';have Zb:dP tell (l.take (i+1))=ve tell (dP tell (l.take i)) l[i]:=by
    rw[Zq0 H',dP,wG];rfl
   generalize l[i]=f at*;generalize dP tell (l.take i)=a at*;obtain⟨u,v⟩:=a;simp only at k6 k7;apply sR;simp only[go_sem,seval,k12,k13,k14,q,hix,aK];refine ad λi9 Z9 s9 a9 f9=>?_;have z9:=hs.none f9;replace hs:=hs.trans s9;simp only[go_sem,seval,a9,k1];generalize Zs:C' _ i9 _=Y9;replace a9:=(congrFun Zs i9).symm.trans ag;replace hs:=Eq.subst (motive:=aa _) Zs (hs.ax z9);clear Zs;refine ab.ay rfl rfl rfl (N5 f _) ?_;apply sR;simp only[go_sem,seval];refine ab.ay rfl rfl rfl (hg f _ hmem (hI _ _ h0 hs)) ?_;have r1:Yl .i64 ((i:Int)+1):=ai;unfold ve at Zb;generalize tell f=t at*;obtain⟨x,is⟩:=t;simp only at Zb;cases is
   .rw[av (by simp)]at Zb;apply sR;simp only[go_sem,seval,k1,k6,k7,k12,k13,k14,r1];exact⟨_,by omega,i+1,by omega,rfl,hs,by simp[Zb]⟩
   .cases v
    .rw[ar (by simp)]at Zb;apply sR;simp only[go_sem,seval,k1,k7,k12,k13,k14,r1];exact⟨_,by omega,i+1,by omega,rfl,hs,by simp[Zb]⟩
    .by_cases hb:x>u
     .have q2:(x>u)=True:=Yd hb;rw[ar ⟨rfl,.inr hb⟩]at Zb;apply sR;simp only[go_sem,seval,k1,k6,k7,k12,k13,k14,r1,q2];exact⟨_,by omega,i+1,by omega,rfl,hs,by simp[Zb]⟩
     .have q2:(x>u)=False:=T' hb;rw[av (by simp[hb])]at Zb;apply sR;simp only[go_sem,seval,k1,k6,k7,k12,k13,k14,r1,q2];exact⟨_,by omega,i+1,by omega,rfl,hs,by simp[Zb]⟩
  .have q:((i:Int)<l.length)=False:=T';obtain rfl:i=l.length:=by omega
   rw[hU]at k6 k7;apply sR;simp only[go_sem,seval,k6,k7,k13,k14,q];exact ak.pure hs rfl
def Xr(a b:Int):Int:=IntKind.i64.wrap (BitVec.ofInt IntKind.i64.bits a &&& BitVec.ofInt IntKind.i64.bits b).toNat
def nr(sides:Int)(f:U'):Int×Bool:=(f.y+f.h,decide (Xr f.side sides≠0))
def Rt{i:Nat}(f:U')(sides:Int)(hf:f.ok){U:af}(q:U i=some ⟨3,1,[vI sides]⟩):au prog 225 [iR f,.ptr i 0 0] U λr Z'=>r=.P' [vI (nr sides f).1,.bool (nr sides f).2]/\Z'=U:=by
 refine WE.r (by simp[SI]) ?_;refine ab.mix 5 ?_;have hs:=aa.refl U;apply sR;simp only[go_sem,seval,SI,iR];refine ad λi2 Z2 s2 a2 f2=>?_;replace hs:=hs.trans s2;replace q:=s2 _ _ q;simp only[go_sem,seval,a2];refine Go.cm rfl rfl rfl (BV f hf) ?_;apply sG;simp only[go_sem,seval,a2,q];exact ak.pure hs rfl
def BO(l:List U')(sides:Int)(hl:l.length<=1000000)(M':∀f∈l,f.ok):aJ prog 168 [aG l,vI sides] (.P' [vI (dP (nr sides) l).1,.bool (dP (nr sides) l).2]):=λU=>by
 refine WW.r (by simp[Qi]) ?_;refine ab.mix 6 ?_;have hs:=aa.refl U;apply sR;simp only[go_sem,seval,Qi];refine ad λi3 Z3 s3 a3 f3=>?_;replace hs:=hs.trans s3;simp only[go_sem,seval];refine ab.ay rfl rfl rfl (Jg l hl 225 [.ptr i3 0 0] (nr sides) (λJ=>J i3=some ⟨3,1,[vI sides]⟩) (λ_ _ h h'=>h' _ _ h) (λf J hf h=>Rt f sides (M' f hf) h) a3) ?_;apply sR;simp only[go_sem,seval];exact ak.pure hs rfl
def wT(f:U'):Int×Bool:=(f.y,true)
def SL(f:U')(hf:f.ok):aJ prog 332 [iR f] (.P' [vI (wT f).1,.bool (wT f).2]):=λU=>by
 refine U8.r (by simp[Qx]) ?_;refine ab.mix 4 ?_;have hs:=aa.refl U;apply sR;simp only[go_sem,seval,Qx,iR];refine ad λi1 Z1 s1 a1 f1=>?_;replace hs:=hs.trans s1;simp only[go_sem,seval,a1];refine ab.ay rfl rfl rfl (DY ⟨_,_,_,_⟩ hf.2.1 hf.2.2.2 _) ?_;apply sR;simp only[go_sem,seval,bh];exact ak.pure hs rfl
def Tc(l:List U')(hl:l.length<=1000000)(M':∀f∈l,f.ok):aJ prog 308 [aG l] (.P' [vI (dP wT l).1,.bool (dP wT l).2]):=λU=>by
 refine XH.r (by simp[PZ]) ?_;refine ab.mix 4 ?_;apply sR;simp only[go_sem,seval,PZ];refine ab.ay rfl rfl rfl (Jg l hl 332 [] wT (λ_=>True) (λ_ _ h _=>h) (λf J hf _=>SL f (M' f hf) J) trivial) ?_;apply sR;simp only[go_sem,seval];exact ak.same rfl
variable {P:Program} {n:Nat} {st:St} {Q:St->Prop} {k:List It}
def ab.UP{k1 k2:List It}(τ:St->Prop)(h1:ab P n (k1++[.stop τ]) st Q)(h2:∀st,τ st->ab P n k2 st Q):ab P n (k1++k2) st Q:=by
 intro F hn kt hk a w hs;obtain⟨kt1,kt2,rfl,hk1,hk2⟩:=List.map_eq_append_iff.1 hk;have key:∀(kt:List KI) e a w,ku P F Q (kt++[.stop τ]) e a w->ku P F Q (kt++kt2) e a w:=by
  intro kt
  induction kt with
  |nil=>
   intro e a w h;simp only[kA]at h|-;cases e with
   |normal=>obtain⟨st,h3,h4⟩:=h;exact h2 st h3 F hn kt2 hk2 a w h4
   |ret=>obtain⟨_,h3⟩:=h;exact lZ h3 kt2
   |_=>obtain⟨h3,_⟩:=h;rcases h3 with h3|h3<;>cases h3
  |cons y kt ih=>
   intro e a w h;cases y with
   |code c=>cases e<;>first|exact wpIn_mono h ih|exact ih _ _ _ h
   |inBlock id=>
    cases e<;>simp only[List.cons_append,ku,Exit.inBlock]at h|-<;>(try split at h)<;>(try split)<;>first|exact ih _ _ _ h|contradiction
   |stop μ=>cases e<;>first|exact h|exact ih _ _ _ h
   |ops all l=>cases e<;>first|exact k0 ih l a w h|exact ih _ _ _ h
 exact key kt1 _ a w (h1 F hn (kt1++[.stop τ]) (by simp[KI.it,hk1]) a w hs)
def ab.fj{x:bf}{id:Nat}(τ:St->Prop)(μ:Nat->St->Prop)(m:Nat)(h0:μ m st)
 (hr:∀m st,μ m st->ab P n (.code x::.stop (λYW=>∃m',m'<m/\μ m' YW)::[.inBlock id,.stop τ]) st Q)(h2:∀st,τ st->ab P n k st Q):
 ab P n (.code (.loop x)::.inBlock id::k) st Q:=
 ab.UP (P:=P) (n:=n) (Q:=Q) (st:=st) (k1:=[.code (.loop x),.inBlock id]) (k2:=k) τ (ab.loop μ m h0 hr) h2
end Go.Vc
