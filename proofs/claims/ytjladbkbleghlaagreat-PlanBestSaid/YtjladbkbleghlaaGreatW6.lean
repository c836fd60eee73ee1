/- Part 6 of the library of this proof. -/
import Derived.Test.YtjladbkbleghlaaGreatW5
import Derived.DeepKeys5
set_option linter.all false
set_option maxHeartbeats 8000000
set_option maxRecDepth 100000
namespace Go.Vc
variable {P:Program} {n:Nat} {st:St} {Q:St->Prop} {k:List It}
def rU{LL:List (List Nat)}{g':List Nat}{i:Nat}(h:i∈dX LL g'):i<LL.length/\i∉g'/\∀k∈LL.getD i [],k∈g':=by
 unfold dX at h;obtain⟨h1,h2⟩:=ve.1 h;simp only[Ba,Bool.not_eq_true',fa]at h2;exact⟨by simpa using h1,by simpa using h2.1,λk hk=>by simpa using h2.2 k hk⟩
def rI:∀(n:Nat) (L:List Nat),L.Nodup->(∀k∈L,k<n)->L.length<=n/\(L.length=n->∀k,k<n->k∈L)
 |0,L,_,h=>by
  cases L with
  |nil=>simp
  |cons a L=>have:=h a (by simp);omega
 |n+1,L,hd,h=>by
  by_cases hn:n∈L
  .have h1:=rI n (L.erase n) (hd.erase n) λk hk=>by
    have h2:=h k (List.mem_of_mem_erase hk);have h3:k≠n:=λe=>by subst e;exact(List.Nodup.not_mem_erase hd) hk
    omega
   have h4:=List.length_erase_of_mem hn;have h5:0<L.length:=List.length_pos_of_mem hn;refine⟨by omega,λhe k hk=>?_⟩;by_cases hkn:k=n
   .rw[hkn];exact hn
   .exact List.mem_of_mem_erase (h1.2 (by omega) k (by omega))
  .have h1:=rI n L hd λk hk=>by
    have h2:=h k hk;have h3:k≠n:=λe=>hn (e▸hk);omega
   exact⟨by omega,λhe=>by omega⟩
open Go.RowKit
variable {P:Program} {n:Nat} {st:St} {Q:St->Prop} {k:List It} {I:Mu} {w:World}
def Bg{o:Op}{xs:List VX}(h:LU P n o=.more .mkMap xs):∃t,o=.makeMap t none/\xs=[]:=by
 cases o
 case makeMap t r=>
  simp only[LU]at h;split at h
  .rename_i hc;simp only[Ba,Option.isNone_iff_eq_none]at hc;obtain⟨rfl,_⟩:=hc;simp only[L5.more.injEq,true_and]at h;exact⟨t,rfl,h.symm⟩
  .cases h
 case call c=>
  obtain⟨callee,args,argTypes⟩:=c;cases callee
  case value=>simp[LU]at h
  case invoke r name=>simp[LU]at h
  case builtin b=>cases b<;>(simp only[LU,cy]at h;(repeat' split at h)<;>cases h)
 case unOp op t x=>cases op<;>simp only[LU,cy]at h<;>cases h
 case makeFunc f a b=>cases f<;>simp only[LU,cy]at h<;>(repeat' split at h)<;>cases h
 all_goals (simp only[LU,cy]at h;(repeat' split at h)<;>cases h)
def oC{b:Nat}{es:Array MapEntry}{c:Nat}(h:w.heap[b]?=some (.map es c)):(getObj b).run P w=.ok (.map es c) w:=by simp[getObj,Sem.run,h]
def xS{b:Nat}{es:Array MapEntry}{c:Nat}(o':Obj)(h:w.heap[b]?=some (.map es c)):(setObj b o').run P w=.ok () (w.putObj b o'):=by simp[setObj,Sem.run,h,World.putObj]
def ax.set{ow:Nat->Prop}:∀{vs:List V} {l:List Value} {v:V} {x:Value} (j:Nat),ax I ow w vs l->C' I ow w v x->ax I ow w (vs.set j v) (l.set j x)
 |[],l,v,x,j,h,hv=>by simp only[ax]at h;subst h;simp[ax]
 |u::us,l,v,x,0,h,hv=>by
  simp only[ax]at h;obtain⟨y,ys,rfl,h1,h2⟩:=h;simp only[List.set_cons_zero,ax];exact⟨x,ys,rfl,hv,h2⟩
 |u::us,l,v,x,j+1,h,hv=>by
  simp only[ax]at h;obtain⟨y,ys,rfl,h1,h2⟩:=h;simp only[List.set_cons_succ,ax];exact⟨y,_,rfl,h1,ax.set j h2 hv⟩
open Go.RowKit
variable {P:Program} {n:Nat} {st:St} {Q:St->Prop} {k:List It} {I:Mu} {w:World}
def rQ{t kt e:TypeId}(h:rC P t=some (kt,e)):P.underlying t=some (.map kt e):=by
 unfold rC at h;split at h
 .rename_i k' e' ht;split at h
  .simp only[aX,Prod.mk.injEq]at h;obtain⟨rfl,rfl⟩:=h;exact ht
  .cases h
 .cases h
def Cg{o:Op}{kt:TypeId}{xs:List VX}(h:LU P n o=.more (.Sd kt) xs):∃t e m y x,(o=.insert t m y x\/o=.mapUpdate t m y x)/\rC P t=some (kt,e)/\xs=[cx n m,cx n y,cx n x]:=by
 cases o
 case insert t m y x=>
  simp only[LU]at h;split at h
  .cases h
  .split at h
   .rename_i k' e hc;simp only[L5.more.injEq,MOp.Sd.injEq]at h;obtain⟨rfl,h⟩:=h;exact⟨t,e,m,y,x,.inl rfl,hc,h.symm⟩
   .cases h
 case mapUpdate t m y x=>
  simp only[LU]at h;split at h
  .cases h
  .split at h
   .rename_i k' e hc;simp only[L5.more.injEq,MOp.Sd.injEq]at h;obtain⟨rfl,h⟩:=h;exact⟨t,e,m,y,x,.inr rfl,hc,h.symm⟩
   .cases h
 case call c=>
  obtain⟨callee,args,argTypes⟩:=c;cases callee
  case value=>simp[LU]at h
  case invoke r name=>simp[LU]at h
  case builtin b=>cases b<;>(simp only[LU,cy]at h;(repeat' split at h)<;>cases h)
 case unOp op t x=>cases op<;>simp only[LU,cy]at h<;>cases h
 case makeFunc f a b=>cases f<;>simp only[LU,cy]at h<;>(repeat' split at h)<;>cases h
 all_goals (simp only[LU,cy]at h;(repeat' split at h)<;>cases h)
def BG{o:Op}{kt:TypeId}{xs:List VX}{ok:Bool}{zv:V}(h:LU P n o=.more (.PO kt ok zv) xs):∃t x y e i z,o=.lookup t x y ok/\rC P t=some (kt,e)/\zeroOf P e=some (i,z)/\zv=ofValue z/\xs=[cx n x,cx n y]:=by
 cases o
 case lookup t x y ok'=>
  simp only[LU]at h;split at h
  .split at h<;>cases h
  .split at h
   .rename_i k' e he;split at h
    .rename_i i z hz;simp only[L5.more.injEq,MOp.PO.injEq]at h;obtain⟨⟨rfl,rfl,rfl⟩,rfl⟩:=h;exact⟨t,x,y,e,i,z,rfl,he,hz,rfl,rfl⟩
    .cases h
   .cases h
 case call c=>
  obtain⟨callee,args,argTypes⟩:=c;cases callee
  case value=>simp[LU]at h
  case invoke r name=>simp[LU]at h
  case builtin b=>cases b<;>(simp only[LU,cy]at h;(repeat' split at h)<;>cases h)
 case unOp op t x=>cases op<;>simp only[LU,cy]at h<;>cases h
 case makeFunc f a b=>cases f<;>simp only[LU,cy]at h<;>(repeat' split at h)<;>cases h
 all_goals (simp only[LU,cy]at h;(repeat' split at h)<;>cases h)
def assoc{κ:Type}[DecidableEq κ](a:κ):List κ->List V->Option V
 |x::ks,v::vs=>if x=a then some v else assoc a ks vs
 |_,_=>none
def sK{κ:Type}[DecidableEq κ]{a:κ}:∀{ks:List κ} {vs:List V},a∉ks->assoc a ks vs=none
 |[],_,_=>by simp[assoc]
 |x::ks,[],_=>by simp[assoc]
 |x::ks,v::vs,h=>by
  rw[assoc,aJ (λe=>h (by simp[e]))];exact sK λg=>h (by simp[g])
def mq{κ:Type}[DecidableEq κ]{a:κ}:∀{ks:List κ} {vs:List V} {j:Nat},ks.Nodup->ks[j]?=some a->ks.length=vs.length->assoc a ks vs=vs[j]?
 |[],_,j,_,h,_=>by simp at h
 |x::ks,[],j,_,_,hl=>by simp at hl
 |x::ks,v::vs,0,_,h,_=>by
  simp only[Fk,aX]at h;rw[assoc,aI h];rfl
 |x::ks,v::vs,j+1,hn,h,hl=>by
  rw[EO]at h;have hm:=Cp h;have hxa:x≠a:=λe=>(List.nodup_cons.1 hn).1 (by rw[e];exact hm);rw[assoc,aJ hxa,EO];exact mq (List.nodup_cons.1 hn).2 h (by simpa using hl)
def sQ{κ:Type}[DecidableEq κ]{a b:κ}{v:V}:∀{ks:List κ} {vs:List V},a∉ks->ks.length=vs.length->assoc b (ks++[a]) (vs++[v])=if a=b then some v else assoc b ks vs
 |[],[],_,_=>by simp[assoc]
 |[],_::_,_,hl=>by simp at hl
 |_::_,[],_,hl=>by simp at hl
 |x::ks,u::vs,h,hl=>by
  have ih:=sQ (a:=a) (b:=b) (v:=v) (ks:=ks) (vs:=vs) (λg=>h (List.mem_cons_of_mem _ g)) (by simpa using hl);have hx:x≠a:=λe=>h (by simp[e]);simp only[List.cons_append,assoc];by_cases h1:x=b
  .rw[aI h1,aI h1,aJ (λe=>hx (h1.trans e.symm))]
  .rw[aJ h1,aJ h1,ih]
def tY{κ:Type}[DecidableEq κ]{a b:κ}{v:V}:∀{ks:List κ} {vs:List V} {j:Nat},ks.Nodup->ks[j]?=some a->ks.length=vs.length->assoc b ks (vs.set j v)=if a=b then some v else assoc b ks vs
 |[],_,j,_,h,_=>by simp at h
 |x::ks,[],j,_,_,hl=>by simp at hl
 |x::ks,u::vs,0,hn,h,_=>by
  simp only[Fk,aX]at h;subst h;simp only[List.set_cons_zero,assoc];by_cases h1:x=b<;>simp[h1]
 |x::ks,u::vs,j+1,hn,h,hl=>by
  rw[EO]at h;have hm:=Cp h;have hx:x≠a:=λe=>(List.nodup_cons.1 hn).1 (e▸hm);have ih:=tY (b:=b) (v:=v) (List.nodup_cons.1 hn).2 h (by simpa using hl:ks.length=vs.length);simp only[List.set_cons_succ,assoc];by_cases h1:x=b
  .rw[aI h1,aI h1,aJ (λe=>hx (h1.trans e.symm))]
  .rw[aJ h1,aJ h1,ih]
def mz{κ:Type}[DecidableEq κ](kv:κ->Value)(U:ag)(id:Nat)(g:κ->Option V):Prop:=
 ∃(es:Array MapEntry) (clock:Nat) (ks:List κ) (env:List V),U id=some (gh (.map es clock) env)/\es.toList.map (·.key)=ks.map kv/\ks.length=env.length/\ks.Nodup/\∀a,assoc a ks env=g a
def mz.sub{κ:Type}[DecidableEq κ]{kv:κ->Value}{U Z':ag}{id:Nat}{g:κ->Option V}(h:mz kv U id g)(hs:aa U Z'):mz kv Z' id g:=by
 obtain⟨es,clock,ks,env,h1,h2⟩:=h;exact⟨es,clock,ks,env,hs _ _ h1,h2⟩
def mz.ne{κ:Type}[DecidableEq κ]{kv:κ->Value}{U:ag}{id j:Nat}{g:κ->Option V}{e:TypeId}{sz:Nat}{rows:List V}(h:mz kv U id g)(hj:U j=some ⟨e,sz,rows⟩)(hz:sz≠0):j≠id:=by
 rintro rfl;obtain⟨es,clock,ks,env,h1,_⟩:=h;rw[h1]at hj;simp only[gh,aX,Ob.mk.injEq]at hj;exact hz hj.2.1.symm
def mz.nil{κ:Type}[DecidableEq κ](kv:κ->Value){U:ag}{id:Nat}(h:U id=some (gh (.map #[] 0) [])):mz kv U id λ_=>none:=
 ⟨#[],0,[],[],h,rfl,rfl,.nil,λ_=>rfl⟩
def xT{κ:Type}[DecidableEq κ]{kv:κ->Value}(Tk:∀a b,kv a=kv b->a=b){kt:TypeId}(OZ:WideMaps.KeyLaw P kt){es:List MapEntry}{ks:List κ}(he:es.map (·.key)=ks.map kv)
 (Tl:∀a∈ks,∃l,keyOf P kt (kv a)=some l){a:κ}(ha:∃l,keyOf P kt (kv a)=some l)(w:World):
 ((Instr.findKey kt (kv a) es).run P w=.ok none w/\a∉ks)\/∃j e,(Instr.findKey kt (kv a) es).run P w=.ok (some (j,e.val)) w/\es[j]?=some e/\e.key=kv a/\ks[j]?=some a:=by
 obtain⟨l,hl⟩:=ha;have MI:∀e∈es,∃l,keyOf P kt e.key=some l:=λe hm=>by
  have:e.key∈ks.map kv:=he▸List.mem_map_of_mem hm;obtain⟨b,hb,RZ⟩:=gO.1 this;rw[<-RZ];exact Tl b hb
 rcases OZ.find w hl es MI with⟨h1,h2⟩|⟨j,e,h1,h2,h3⟩
 .refine .inl ⟨h1,λhm=>?_⟩;have:kv a∈es.map (·.key):=he▸List.mem_map_of_mem hm;obtain⟨e,hem,Q5⟩:=gO.1 this;exact h2 e hem Q5
 .refine .inr ⟨j,e,h1,h2,h3,?_⟩;have h4:(es.map (·.key))[j]?=some e.key:=by rw[tq,h2];rfl
  rw[he,tq]at h4;cases hk:ks[j]? with
  |none=>rw[hk]at h4;cases h4
  |some b=>
   rw[hk]at h4;simp only[Option.map_some,aX]at h4;rw[Tk b a (h4.trans h3)]
structure wb{κ:Type}(P:Program)(kt:TypeId)(kv:κ->Value)(kV:κ->V):Prop where
 inj:∀a b,kv a=kv b->a=b
 law:WideMaps.KeyLaw P kt
 key:∀b,∃l,keyOf P kt (kv b)=some l
 rep:∀(a:κ) (I:Mu) (ow:Nat->Prop) (w:World) (X:Value),C' I ow w (kV a) X->X=kv a
def Cm{κ:Type}[DecidableEq κ]{kv:κ->Value}{kV:κ->V}{i:aK}{xm xk:VX}{kt:TypeId}{ok:Bool}{zv:V}(ho:i.op=.more (.PO kt ok zv) [xm,xk]){id:Nat}{g:κ->Option V}{a:κ}
 (hK:wb P kt kv kV)(hm:xm.ev st.s=.mp id)(OA:mz kv st.U id g)(hk:xk.ev st.s=kV a){K:St->Prop}
 (h:K ⟨aU st.s i.dst (if ok then .LI [(g a).getD zv,.bool (g a).isSome]else(g a).getD zv),st.U⟩):
 ∀(F:Fr),F.n=n->∀(I:Mu) (a:Act) (w:World) (o:Oper) (all:Array Oper),bJ P n all o=i->df F I st a w->
  ∀(next:Act->World->Prop) (Q':Exit->Act->World->Prop),(∀NB a' w',eE F NB a' w'->K NB->next a' w')->o.wp P a w next Q':=by
 intro F hn I ac w o all hi hs next Q' Lw
 obtain⟨Tk,OZ,Tl,MV⟩:=hK;replace MV:=MV a;replace Tl:∀b,(b=a\/g b≠none)->∃l,keyOf P kt (kv b)=some l:=λb _=>Tl b;subst hn;obtain⟨LF,hd⟩:=eF hi;rw[ho]at LF;obtain⟨t,x,y,e,ti,z,g1,g2,g3,rfl,g4⟩:=BG LF;simp only[List.cons.injEq,and_true]at g4;obtain⟨rfl,rfl⟩:=g4;have u1:=rQ g2;obtain⟨es,clock,ks,env,L6,he,hlen,MS,Nr⟩:=OA;have hr:=ct hs x;have Si:=ct hs y;rw[hm]at hr;rw[hk]at Si;have Si:=MV _ _ _ _ Si;simp only[C']at hr;have Wg:∀b∈ks,∃l,keyOf P kt (kv b)=some l:=λb hb=>by
  obtain⟨j,hj⟩:=Ea hb;refine Tl b (.inr ?_);rw[<-Nr b,mq MS hj hlen];have:j<env.length:=by rw[<-hlen];exact(qn.1 hj).1
  rw[Oy this];simp
 have Wn:=Tl a (.inl rfl);obtain⟨la,OO⟩:=Wn;split at hr
 .rename_i b cap Ls;obtain⟨MG,O'⟩:=hs.sat.D5 L6 Ls;simp only[tmpsOf]at O';rcases xT Tk OZ he Wg ⟨la,OO⟩ w with⟨q1,q2⟩|⟨j,en,q1,q2,q3,q4⟩
  .have Wm:g a=none:=by rw[<-Nr a,sK q2]
   rw[Wm]at h;have Me:(Instr.lookup t (ac.eval x) (ac.eval y) ok).run P w=.ok (if ok then .tuple #[z,.bool false]else z) w:=by
    simp[Instr.lookup,run_underlying u1,hr,Si,oC MG,OZ.check w _ OO,q1,dY g3]
   have hx:(execOp ac.eval o).run P w=.ok (.value (if ok then .tuple #[z,.bool false]else z)) w:=by
    unfold execOp;rw[g1];simp[Me]
   unfold Oper.wp;rw[hx];refine Lw _ _ _ ⟨I,?_⟩ h;rw[<-hd];have hz:C' I (aD I st.U) w (ofValue z) z:=lT z;refine hs.pure ?_;cases ok
   .simpa using hz
   .simp only[if_true,Option.getD_none,Option.isSome_none,C'];exact⟨_,rfl,by simp only[ax,C'];exact⟨_,_,rfl,hz,_,_,rfl,rfl,rfl⟩⟩
  .have Oq:j<env.length:=by rw[<-hlen];exact(qn.1 q4).1
   have Wm:g a=some env[j]:=by rw[<-Nr a,mq MS q4 hlen,Oy Oq]
   rw[Wm]at h;have hv:C' I (aD I st.U) w env[j] en.val:=by
    obtain⟨x',LX,V1⟩:=O'.get (i:=j) (by rw[Oy Oq]);rw[tq,q2]at LX;simp at LX;subst LX;exact V1
   have Me:(Instr.lookup t (ac.eval x) (ac.eval y) ok).run P w=.ok (if ok then .tuple #[en.val,.bool true]else en.val) w:=by
    simp[Instr.lookup,run_underlying u1,hr,Si,oC MG,OZ.check w _ OO,q1]
   have hx:(execOp ac.eval o).run P w=.ok (.value (if ok then .tuple #[en.val,.bool true]else en.val)) w:=by
    unfold execOp;rw[g1];simp[Me]
   unfold Oper.wp;rw[hx];refine Lw _ _ _ ⟨I,?_⟩ h;rw[<-hd];refine hs.pure ?_;cases ok
   .simpa using hv
   .simp only[if_true,Option.getD_some,Option.isSome_some,C'];exact⟨_,rfl,by simp only[ax,C'];exact⟨_,_,rfl,hv,_,_,rfl,rfl,rfl⟩⟩
 .exact hr.elim
def FZ(P:Program)(kt:TypeId)(ok:Bool)(zv m k:V)(U:ag)(v:V):Prop:=∃(κ:Type) (_:DecidableEq κ) (kv:κ->Value) (kV:κ->V) (id:Nat) (g:κ->Option V) (a:κ),
 wb P kt kv kV/\m=.mp id/\mz kv U id g/\k=kV a/\v=if ok then .LI [(g a).getD zv,.bool (g a).isSome]else(g a).getD zv
def CW{i:aK}{xs:List VX}(ho:i.op=.more .mkMap xs){K:St->Prop}(h:∀id,st.U id=none->K ⟨aU st.s i.dst (.mp id),E' st.U id (gh (.map #[] 0) [])⟩):
 ∀(F:Fr),F.n=n->∀(I:Mu) (a:Act) (w:World) (o:Oper) (all:Array Oper),bJ P n all o=i->df F I st a w->
  ∀(next:Act->World->Prop) (Q':Exit->Act->World->Prop),(∀NB a' w',eE F NB a' w'->K NB->next a' w')->o.wp P a w next Q':=by
 intro F hn I a w o all hi hs next Q' Lw
 subst hn;obtain⟨LF,hd⟩:=eF hi;rw[ho]at LF;obtain⟨t,h1,_⟩:=Bg LF;obtain⟨id,Ls,Y',g1,g2,g3,g4⟩:=hs.sat.I8 (.map #[] 0) [] (by simp[ax,tmpsOf]);have Me:(execOp a.eval o).run P w=.ok (.value (.map (some w.heap.size))) (w.alloc (.map #[] 0)):=by
  unfold execOp;rw[h1];simp[Instr.makeMap]
  all_goals rfl
 unfold Oper.wp;rw[Me];refine Lw _ _ _ ⟨Y',?_⟩ (h id Ls);rw[<-hd];exact hs.step g3 g2 g4 (by simp) (by simp[C',g1])
variable {P:Program} {n:Nat} {st:St} {Q:St->Prop} {k:List It}
def TC(P:Program)(i:aK)(x:St)(K:St->Prop):Prop:=T P i x K\/(bp x.s i.g=some true/\match i.op with
 |.call fx xs=>∃f caps Post,fx.ev x.s=.fn f caps/\aA P f (xs.map (·.ev x.s)++caps) x.U Post/\∀r Z',Post r Z'->K ⟨aU x.s i.dst r,Z'⟩
 |.more (.PO kt ok zv) [xm,xk]=>∃v,FZ P kt ok zv (xm.ev x.s) (xk.ev x.s) x.U v/\K ⟨aU x.s i.dst v,x.U⟩
 |.more .mkMap []=>∀id,x.U id=none->K ⟨aU x.s i.dst (.mp id),E' x.U id (gh (.map #[] 0) [])⟩
 |_=>False)
def TC.mono{i:aK}{x:St}{K K':St->Prop}(hk:∀x,K x->K' x)(h:TC P i x K):TC P i x K':=by
 rcases h with h|⟨h1,h2⟩
 .exact .inl (h.mono hk)
 .refine .inr ⟨h1,?_⟩;split at h2
  .obtain⟨f,caps,Post,g1,g2,g3⟩:=h2;exact⟨f,caps,Post,g1,g2,λr Z' hp=>hk _ (g3 r Z' hp)⟩
  .obtain⟨v,g1,g2⟩:=h2;exact⟨v,g1,hk _ g2⟩
  .exact λid Ls=>hk _ (h2 id Ls)
  .exact h2.elim
def Dm{F:Fr}(hn:F.n=n){o:Oper}{all:Array Oper}{x:St}{K:St->Prop}{a:Act}{w:World}(h:TC P (bJ P n all o) x K)(hs:eE F x a w)
 {next:Act->World->Prop}{Q':Exit->Act->World->Prop}(Lw:∀x' a' w',eE F x' a' w'->K x'->next a' w'):
 if Region.wanted o (yielded all a.tmps)then LU P n o.op≠.bad/\o.wp P a w next Q' else next (a.put o.dst undef) w:=by
 rcases h with h|⟨hw,h⟩
 .exact qF hn h hs Lw
 subst hn;obtain⟨I,hs⟩:=hs;have O7:=od (P:=P) hs all o hw;rw[O7];simp only[if_true];have We:(bJ P F.n all o).dst=o.dst.filter (·<F.n):=rfl;have Rp:(bJ P F.n all o).op=LU P F.n o.op:=rfl;rw[We,Rp]at h;split at h
 .rename_i fx xs LF;refine⟨λe=>?_,?_⟩
  .rw[LF]at e;cases e
  obtain⟨f,caps,Post,h1,h2,h3⟩:=h;obtain⟨f0,args,argTypes,g1,rfl,rfl⟩:=lM LF;refine nb hs g1 h1 h2 λr Z' hp a' w' LK=>?_;exact Lw _ a' w' LK (h3 r Z' hp)
 .rename_i kt ok zv xm xk LF;refine⟨λe=>(by rw[LF]at e;cases e),?_⟩;obtain⟨v,⟨κ,_,kv,kV,id,g,b,hK,h1,h2,h3,rfl⟩,h4⟩:=h;exact Cm (i:=bJ P F.n all o) (K:=K) (Rp.trans LF) hK h1 h2 h3 h4 F rfl I a w o all rfl hs next Q' Lw
 .rename_i LF;refine⟨λe=>(by rw[LF]at e;cases e),?_⟩;exact CW (i:=bJ P F.n all o) (K:=K) (Rp.trans LF) h F rfl I a w o all rfl hs next Q' Lw
 .exact h.elim
def TnC(P:Program)(n:Nat)(ops:Array Oper)(i:Nat)(x:St)(K:St->Prop):Prop:=match ops[i]? with
 |some o=>TC P (bJ P n ops o) x K
 |none=>K x
def vv(P:Program)(n:Nat)(ops:Array Oper)(Q:St->Prop):Nat->Array Bool->St->Prop
 |0,g',x=>Region.ready .any ops g'=[]/\Q x
 |f+1,g',x=>(Region.ready .any ops g'=[]->Q x)/\∀i∈Region.ready .any ops g',TnC P n ops i x (vv P n ops Q f (g'.setIfInBounds i true))
def lD{F:Fr}(hn:F.n=n){ops:Array Oper}{Q:St->Prop}{Q':Exit->Act->World->Prop}(hQ:∀x a w,eE F x a w->Q x->Q' .normal a w):
 ∀(f:Nat) (g':Array Bool) (x:St) (a:Act) (w:World),eE F x a w->vv P n ops Q f g' x->wpAnyIn F.eB 0 P .any ops Q' f g' a w
 |0,_,_,_,_,hs,h=>⟨h.1,hQ _ _ _ hs h.2⟩
 |f+1,g',x,a,w,hs,h=>by
  refine⟨λh0=>hQ _ _ _ hs (h.1 h0),λi hi=>?_⟩;have h1:=h.2 i hi;unfold TnC at h1;unfold wpOpIn;cases ho:ops[i]? with
  |none=>
   simp only[ho]at h1;exact lD hn hQ f _ x a w hs h1
  |some o=>
   simp only[ho]at h1;have h2:=Dm (Q':=Q') hn h1 hs λx' a' w' LK hk=>lD hn hQ f _ x' a' w' LK hk;by_cases hw:Region.wanted o (yielded ops a.tmps)=true
   .rw[aI hw]at h2;simp only[hw,if_true];exact AY (jb h2.1) h2.2
   .rw[aJ hw]at h2;simp only[hw];exact⟨λ_ _=>trivial,h2⟩
def so(P:Program)(l:List aK)(rec:List Nat->St->Prop)(g':List Nat)(x:St):List Nat->Prop
 |[]=>True
 |i::is=>(match l[i]? with
   |some ins=>TC P ins x (rec (i::g'))
   |none=>False)/\so P l rec g' x is
def gQ(P:Program)(l:List aK)(LL:List (List Nat))(Q:St->Prop):Nat->List Nat->St->Prop
 |0,g',x=>dX LL g'=[]/\Q x
 |f+1,g',x=>match dX LL g' with
   |[]=>Q x
   |i::is=>so P l (gQ P l LL Q f) g' x (i::is)
def me{l:List aK}{rec:List Nat->St->Prop}{g':List Nat}{x:St}:∀{is:List Nat},so P l rec g' x is->∀i∈is,∃ins,l[i]?=some ins/\TC P ins x (rec (i::g'))
 |[],_,_,hi=>by cases hi
 |j::is,h,i,hi=>by
  obtain⟨h1,h2⟩:=h;rcases dI.1 hi with rfl|hi
  .cases hl:l[i]? with
   |none=>rw[hl]at h1;exact h1.elim
   |some ins=>rw[hl]at h1;exact⟨ins,rfl,h1⟩
  .exact me h2 i hi
def lv{ops:Array Oper}{Q:St->Prop}:∀(f:Nat) (arr:Array Bool) (g':List Nat) (x:St),arr.size=ops.size->(∀i,i<ops.size->arr.getD i true=g'.contains i)->
 (∀i∈g',i<ops.size)->gQ P (ops.toList.map (bJ P n ops)) (jt ops) Q f g' x->vv P n ops Q f arr x
 |0,arr,g',x,hs,hl,ho,h=>⟨by rw[ug hs hl ho];exact h.1,h.2⟩
 |f+1,arr,g',x,hs,hl,ho,h=>by
  have hr:=ug hs hl ho;unfold gQ at h;refine⟨λh0=>?_,λi hi=>?_⟩
  .rw[hr]at h0;rw[h0]at h;exact h
  .rw[hr]at hi;have Lr:i<ops.size:=by
    have:=(ve.1 hi).1;simpa[jt]using this
   have MI:so P (ops.toList.map (bJ P n ops)) (gQ P (ops.toList.map (bJ P n ops)) (jt ops) Q f) g' x (dX (jt ops) g'):=by
    cases Zk:dX (jt ops) g' with
    |nil=>exact trivial
    |cons j js=>rw[Zk]at h;exact h
   obtain⟨ins,h1,h2⟩:=me MI i hi;have h3:ops[i]?=some ops[i]:=Array.getElem?_eq_getElem Lr;have h4:ins=bJ P n ops ops[i]:=by simpa[Lr]using h1.symm
   unfold TnC;simp only[h3];rw[<-h4];refine h2.mono λx' LX=>lv f _ (i::g') x' (by simpa using hs) (λj hj=>?_) (λj hj=>?_) LX
   .by_cases e:j=i
    .subst e;rw[Og,Array.getElem?_setIfInBounds_self_of_lt (by omega)];simp
    .rw[Og,Array.getElem?_setIfInBounds_ne (λe'=>e e'.symm),<-Og,hl j hj];simp[e]
   .rcases dI.1 hj with rfl|hj
    .exact Lr
    .exact ho j hj
def ab.F4(hm:P.follows .mixedOrders=true){l:List aK}{LL:List (List Nat)}(h:gQ P l LL (λx=>ab P n k x Q) l.length [] st):ab P n (.code (.O4 l LL)::k) st Q:=by
 intro F hn kt hk a w hs;obtain⟨z,M9,rfl,hy,MD⟩:=eA hk;obtain⟨c0,rfl,MA⟩:=fQ hy;have Oj:∃id ops,c0=.region id ops true/\ops.toList.map (bJ P n ops)=l/\jt ops=LL:=by
  cases c0<;>simp only[dx,reduceCtorEq]at MA;rename_i id ops draw;cases draw
  .simp at MA
  .simp only[Bool.true_and]at MA;split at MA
   .cases MA
   split at MA
   .simp only[bM.O4.injEq]at MA;exact⟨id,ops,rfl,MA.1,MA.2⟩
   .simp at MA
 obtain⟨id,ops,rfl,rfl,rfl⟩:=Oj;have LK:eE F st a { w with drawn:=w.drawn+1 }:=by
  obtain⟨I,hs⟩:=hs;have hk:cS (aD I st.U) (aD I st.U) w { w with drawn:=w.drawn+1 }:=λ_ _ h=>⟨h,rfl⟩
  refine⟨I,⟨⟨hs.sat.size,hs.sat.os,hs.sat.tape,hs.sat.output,hs.sat.same,hs.sat.fin,hs.sat.inj,λid o ho=>?_,hs.sat.fresh,hs.sat.NY⟩,hs.le,hs.size,hs.book.tg hk,λi hi=>?_⟩⟩
  .exact(hs.sat.obj id o ho).mono (cU.refl I) hk (Md _) (λ_ _ _ _=>rfl)
  .exact C'.mono (cU.refl I) hk (Md _) _ _ (hs.slot i hi)
 refine wpIn_region_any hm (lD (Q:=λx=>ab P n k x Q) hn (λx a w hs h=>h F hn M9 MD a w hs) _ _ _ _ _ LK ?_);have:=lv (P:=P) (n:=n) (Q:=λx=>ab P n k x Q) (ops:=ops) ops.size (Array.replicate ops.size false) [] st (by simp) (λi hi=>by
  rw[Og,Array.getElem?_replicate,aI hi];simp) (by simp) (by simpa using h)
 exact this
def nL{l:List aK}{rec:List Nat->St->Prop}{g':List Nat}{x:St}:∀{is:List Nat},(∀i∈is,∃ins,l[i]?=some ins/\TC P ins x (rec (i::g')))->so P l rec g' x is
 |[],_=>trivial
 |j::is,h=>by
  obtain⟨ins,h1,h2⟩:=h j (by simp);refine⟨by rw[h1];exact h2,nL λi hi=>h i (by simp[hi])⟩
variable {P:Program} {n:Nat} {st:St} {Q:St->Prop} {k:List It}
def SD(P:Program)(i:aK)(x:St):Prop:=match i.dst with
 |some d=>QY P i x.s x.U (x.s d)
 |none=>∃v,QY P i x.s x.U v
def RE(P:Program)(l:List aK)(K:St->Prop):List Nat->St->Prop
 |[],x=>K x
 |m::its,x=>match l[m/2]? with
  |none=>False
  |some ins=>if m%2=0 then TC P ins x (RE P l K its)else SD P ins x/\RE P l K its x
def bn(l:List aK)(i:Nat):aK:=(l[i]?).getD ⟨none,.bad,none⟩
def eR(LJ:List (List Nat))(i:Nat):List Nat:=LJ.getD i []
def dD(l:List aK)(LJ:List (List Nat))(j:Nat):Bool:=bk (bn l j).op != 0||(match(bn l j).dst with
 |some d=>(List.range l.length).any λi=>(bn l i).kK.contains d&&!(eR LJ i).contains j
 |none=>false)
def AX(l:List aK)(LJ:List (List Nat))(done:List Nat)(e:Nat):List Nat:=
 if dD l LJ e then done.filterMap λk=>if !(dD l LJ k)&&(!(jL (bn l k).op)&&!((eR LJ e).contains k))then some (2*k+1)else none else[]
def eC(l:List aK)(LJ:List (List Nat)):List Nat->List Nat->List Nat
 |_,[]=>[]
 |done,e::r=>2*e::(AX l LJ done e++eC l LJ (done++[e]) r)
def lH(p:Nat->Nat->Bool):List Nat->Bool
 |[]=>true
 |a::r=>r.all (p a)&&lH p r
def lL{p:Nat->Nat->Bool}:∀{a:List Nat} {b:List Nat} {x y:Nat},lH p (a++b)=true->x∈a->y∈b->p x y=true
 |[],_,_,_,_,h,_=>by cases h
 |c::a,b,x,y,hp,hx,hy=>by
  simp only[List.cons_append,lH,Ba]at hp;rcases dI.1 hx with rfl|hx
  .exact fa.1 hp.1 y (List.mem_append_right _ hy)
  .exact lL hp.2 hx hy
def sd(f:Nat->List Nat):List Nat->List Nat->Bool
 |_,[]=>true
 |done,e::r=>(f e).all done.contains&&sd f (done++[e]) r
def pY{f:Nat->List Nat}:∀{r done:List Nat} {a:List Nat} {e:Nat} {b:List Nat},sd f done r=true->r=a++e::b->∀x∈f e,x∈done++a
 |[],_,a,e,b,_,h,_,_=>by simp at h
 |c::r,done,[],e,b,hB,h,x,hx=>by
  simp only[nE,List.cons.injEq]at h;obtain⟨rfl,rfl⟩:=h;simp only[sd,Ba]at hB;simpa using fa.1 hB.1 x hx
 |c::r,done,d::a,e,b,hB,h,x,hx=>by
  simp only[List.cons_append,List.cons.injEq]at h;obtain⟨rfl,rfl⟩:=h;simp only[sd,Ba]at hB;have:=pY hB.2 rfl x hx;simpa using this
def Ej(l:List aK)(LL LJ:List (List Nat))(ord:List Nat):Bool:=
 (decide (ord.length=l.length)&&(decide (LL.length=l.length)&&ord.all λi=>decide (i<l.length)))&&
 (lH (λa b=>decide (a≠b)) ord&&
 (sd (λi=>LL.getD i []) [] ord&&
 ((List.range l.length).all (λj=>(eR LJ j).all λi=>(LL.getD j []).any λd=>d==i||(eR LJ d).contains i)&&
 ((List.range l.length).all (λi=>(List.range l.length).all λj=>i==j||((bn l i).dst.isNone||(bn l i).dst != (bn l j).dst))&&
 (List.range l.length).all (λi=>(List.range l.length).all λj=>i==j||(match(bn l j).dst with
   |some d=>!((bn l i).kK.contains d)||((eR LJ i).contains j||(dD l LJ j&&(eR LJ j).contains i))
   |none=>true))))))
def eOk(l:List aK)(LL LJ:List (List Nat))(ord:List Nat):Bool:=Ej l LL LJ ord&&lH (λa b=>!(dD l LJ a)||(eR LJ b).contains a) ord
def pN:∀{l:List Nat},lH (λa b=>decide (a≠b)) l=true->l.Nodup
 |[],_=>List.nodup_nil
 |a::r,h=>by
  simp only[lH,Ba]at h;refine List.nodup_cons.2 ⟨λhm=>?_,pN h.2⟩;have:=fa.1 h.1 a hm;simp at this
structure EOkW(l:List aK)(LL LJ:List (List Nat))(ord:List Nat):Prop where
 len:ord.length=l.length
 Sj:LL.length=l.length
 lt:∀i∈ord,i<l.length
 nodup:ord.Nodup
 ahead:∀a e b,ord=a++e::b->∀x∈LL.getD e [],x∈a
 anc:∀j,j<l.length->∀i∈eR LJ j,∃d∈LL.getD j [],d=i\/i∈eR LJ d
 dsts:∀i j,i<l.length->j<l.length->i≠j->∀d,(bn l i).dst=some d->(bn l j).dst≠some d
 Sk:∀i j,i<l.length->j<l.length->i≠j->∀d,(bn l j).dst=some d->d∈(bn l i).kK->j∈eR LJ i\/(dD l LJ j=true/\i∈eR LJ j)
def uy{l:List aK}{LL LJ:List (List Nat)}{ord:List Nat}(h:Ej l LL LJ ord=true):EOkW l LL LJ ord:=by
 simp only[Ej,Ba,NV]at h;obtain⟨⟨h1,h2,h3⟩,h4,h5,h6,h7,h8⟩:=h;refine⟨h1,h2,λi hi=>by simpa using fa.1 h3 i hi,pN h4,λa e b he x hx=>by simpa using pY h5 he x hx,?_,?_,?_⟩
 .intro j hj i hi;have:=fa.1 (fa.1 h6 j (by simpa using hj)) i hi;simp only[D1,jH,beq_iff_eq,List.contains_iff_mem]at this;exact this
 .intro i j hi hj LR d hd he;have:=fa.1 (fa.1 h7 i (by simpa using hi)) j (by simpa using hj);simp only[jH,beq_iff_eq,hd,he,Option.isNone_some,bne_self_eq_false,iG,or_false]at this;exact LR this
 .intro i j hi hj LR d hd hu;have:=fa.1 (fa.1 h8 i (by simpa using hi)) j (by simpa using hj);simp only[jH,beq_iff_eq,hd,Ba,Bool.not_eq_true',List.contains_iff_mem]at this;rcases this with h|h|h
  .exact absurd h LR
  .have hc:(bn l i).kK.contains d=true:=List.contains_iff_mem.2 hu;rw[hc]at h;cases h
  .exact h
structure EOk(l:List aK)(LL LJ:List (List Nat))(ord:List Nat):Prop extends EOkW l LL LJ ord where
 M8:∀a b x y,ord=a++b->x∈a->y∈b->dD l LJ x=true->x∈eR LJ y
def xc{l:List aK}{LL LJ:List (List Nat)}{ord:List Nat}(h:eOk l LL LJ ord=true):EOk l LL LJ ord:=by
 simp only[eOk,Ba]at h;refine⟨uy h.1,λa b x y he hx hy SB=>?_⟩;have h9:=h.2;rw[he]at h9;have:=lL h9 hx hy;simp only[SB,Bool.not_true,Bool.false_or,List.contains_iff_mem]at this;exact this
def EOkW.closed{l:List aK}{LL LJ:List (List Nat)}{ord:List Nat}(h:EOkW l LL LJ ord){L:List Nat}(hc:∀m∈L,∀d∈LL.getD m [],d∈L)(N3:∀i,i<l.length->i∈ord):
 ∀(m:Nat) (a:List Nat) (j:Nat) (b:List Nat),a.length<m->ord=a++j::b->(∀d∈LL.getD j [],d∈L)->∀i∈eR LJ j,i∈L:=by
 intro m
 induction m with
 |zero=>intro a j b ha;omega
 |succ m ih=>
  intro a j b ha he hd i hi;have hj:j<l.length:=h.lt j (by rw[he];simp);obtain⟨d,h1,h2⟩:=h.anc j hj i hi;rcases h2 with rfl|h2
  .exact hd d h1
  .have NF:=h.ahead a j b he d h1;obtain⟨a1,a2,rfl⟩:=List.append_of_mem NF;exact ih a1 d (a2++j::b) (by simp at ha;omega) (by rw[he];simp) (λd' h'=>hc d (hd d h1) d' h') i h2
def l3{i:aK}{s s':Nat->V}(h:∀u∈i.kK,s u=s' u):bp s i.g=bp s' i.g:=by
 cases hg:i.g with
 |none=>rfl
 |some g=>
  obtain⟨x,b⟩:=g;have:x.ev s=x.ev s':=by
   cases x with
   |t t=>exact h t (List.mem_filterMap.2 ⟨.t t,List.mem_append_right _ (by simp[hg]),rfl⟩)
   |c v=>rfl
  simp only[bp,this]
def wP{i:aK}{s s':Nat->V}(h:∀u∈i.kK,s u=s' u):∀x∈i.op.xs,x.ev s=x.ev s':=λx hx=>by
 cases x with
 |t t=>exact h t (At hx rfl)
 |c v=>rfl
def vU{i:aK}{s s':Nat->V}{U:ag}{v:V}(h:∀u∈i.kK,s u=s' u)(hq:QY P i s U v):QY P i s' U v:=by
 unfold QY at*;rw[<-l3 h];exact hq.imp (λ⟨h1,h2⟩=>⟨h1,rA (wP h) h2⟩) id
def ym{i:aK}{x y:St}{K K':St->Prop}(h:∀u∈i.kK,x.s u=y.s u)(L6:x.U=y.U)(hk:∀r Z',K ⟨aU x.s i.dst r,Z'⟩->K' ⟨aU y.s i.dst r,Z'⟩)(ht:TC P i x K):TC P i y K':=by
 have hx:=wP h;rcases ht with ht|⟨hw,ht⟩
 .refine .inl ?_;unfold T at*;rw[<-l3 h];split<;>rename_i ho<;>simp only[ho]at ht
  .unfold TO at*;split<;>rename_i OW<;>simp only[OW]at ht
   .obtain⟨g1,v,g2,g3⟩:=ht;obtain⟨e1,e2⟩:=pS (U:=y.U) hx;exact⟨e2.1 g1,v,by rw[<-e1,<-L6];exact g2,by rw[<-L6];exact hk _ _ g3⟩
   .split at ht
    .rename_i fx xs LF;obtain⟨f,caps,v,g1,g2,g3⟩:=ht;refine⟨f,caps,v,?_,?_,by rw[<-L6];exact hk _ _ g3⟩
     .rw[<-hx fx (by rw[LF];simp[L5.xs])];exact g1
     .rw[<-o9 (s:=x.s) (s':=y.s) λz hz=>hx z (by rw[LF];simp[L5.xs,hz]),<-L6];exact g2
    .exact ht.elim
   .split at ht
    .rename_i sz xa xv LF;obtain⟨Z',g1,g2⟩:=ht;refine⟨Z',?_,hk _ _ g2⟩;rw[<-hx xa (by rw[LF];simp[L5.xs]),<-hx xv (by rw[LF];simp[L5.xs]),<-L6];exact g1
    .exact ht.elim
   .obtain⟨g,g1,g2⟩:=ht;refine⟨g,by rw[<-fk hx,<-L6];exact g1,λid Ls=>hk _ _ (g2 id (by rw[L6];exact Ls))⟩
  .rw[<-L6];exact hk _ _ ht
 .refine .inr ⟨by rw[<-l3 h];exact hw,?_⟩;split at ht
  .rename_i fx xs LF;obtain⟨f,caps,Post,g1,g2,g3⟩:=ht;refine⟨f,caps,Post,?_,?_,λr Z' hp=>hk _ _ (g3 r Z' hp)⟩
   .rw[<-hx fx (by rw[LF];simp[L5.xs])];exact g1
   .rw[<-o9 (s:=x.s) (s':=y.s) λz hz=>hx z (by rw[LF];simp[L5.xs,hz]),<-L6];exact g2
  .rename_i kt ok zv xm xk LF;obtain⟨v,g1,g2⟩:=ht;refine⟨v,?_,by rw[<-L6];exact hk _ _ g2⟩;rw[<-hx xm (by rw[LF];simp[L5.xs]),<-hx xk (by rw[LF];simp[L5.xs]),<-L6];exact g1
  .exact λid Ls=>by rw[<-L6];exact hk _ _ (ht id (by rw[L6];exact Ls))
  .exact ht.elim
structure ju(P:Program)(l:List aK)(LL LJ:List (List Nat))(ord:List Nat)(K:St->Prop)(L:List Nat)(y:St)(done rest:List Nat)(x:St):Prop where
 split:ord=done++rest
 sub:∀i∈L,i∈done
 nodup:L.Nodup
 closed:∀m∈L,∀d∈LL.getD m [],d∈L
 M8:∀i∈done,dD l LJ i=true->i∈L
 store:y.U=x.U
 slot:∀d,(∀i∈done,i∉L->(bn l i).dst≠some d)->y.s d=x.s d
 Tm:∀i∈done,i∉L->SD P (bn l i) x
 go:RE P l K (eC l LJ done rest) x
def gr{l:List aK}{LJ:List (List Nat)}{e:Nat}(h:dD l LJ e=false)(he:e<l.length)(LR:e∉eR LJ e):bk (bn l e).op=0/\∀d,(bn l e).dst=some d->d∉(bn l e).kK:=by
 simp only[dD,Bool.or_eq_false_iff,bne_eq_false_iff_eq]at h;refine⟨h.1,λd hd hu=>?_⟩;have h2:=h.2;rw[hd]at h2;simp only[List.any_eq_false,List.mem_range,Ba,Bool.not_eq_true',not_and,Bool.not_eq_false]at h2;have:=h2 e he (List.contains_iff_mem.2 hu);exact LR (List.contains_iff_mem.1 this)
def zG{l:List aK}{K:St->Prop}{e:Nat}{its:List Nat}{x:St}(he:e<l.length):RE P l K (2*e::its) x↔TC P (bn l e) x (RE P l K its):=by
 have h1:2*e/2=e:=by omega
 have h2:2*e%2=0:=by omega
 rw[RE,h1,Oy he];simp only[aI h2,bn,Oy he,Option.getD_some]
def G2{l:List aK}{K:St->Prop}{e:Nat}{its:List Nat}{x:St}(he:e<l.length):RE P l K ((2*e+1)::its) x↔SD P (bn l e) x/\RE P l K its x:=by
 have h1:(2*e+1)/2=e:=by omega
 have h2:¬(2*e+1)%2=0:=by omega
 rw[RE,h1,Oy he];simp only[aJ h2,bn,Oy he,Option.getD_some]
def qN{l:List aK}{K:St->Prop}{its:List Nat}{x:St}(p:Nat->Bool):∀{done:List Nat},(∀i∈done,i<l.length)->RE P l K ((done.filterMap λk=>if p k then some (2*k+1)else none)++its) x->
 (∀k∈done,p k=true->SD P (bn l k) x)/\RE P l K its x
 |[],_,h=>⟨by simp,h⟩
 |a::r,hl,h=>by
  rw[List.filterMap_cons]at h;cases hp:p a with
  |false=>
   simp only[hp,iG,if_false]at h;obtain⟨h1,h2⟩:=qN p (λi hi=>hl i (by simp[hi])) h;refine⟨λk hk RV=>?_,h2⟩;rcases dI.1 hk with rfl|hk
   .rw[hp]at RV;cases RV
   .exact h1 k hk RV
  |true=>
   simp only[hp,if_true,List.cons_append]at h;rw[G2 (hl a (by simp))]at h;obtain⟨h1,h2⟩:=qN p (λi hi=>hl i (by simp[hi])) h.2;refine⟨λk hk RV=>?_,h2⟩;rcases dI.1 hk with rfl|hk
   .exact h.1
   .exact h1 k hk RV
section
variable {l:List aK} {LL LJ:List (List Nat)} {ord:List Nat} {K:St->Prop} (hE:EOkW l LL LJ ord)
include hE
def EOkW.mem(i:Nat)(hi:i<l.length):i∈ord:=(rI l.length ord hE.nodup hE.lt).2 hE.len i hi
def EOkW.lS{a:List Nat}{j:Nat}{b:List Nat}(he:ord=a++j::b):∀i∈eR LJ j,i∈a:=by
 have hc:∀m∈a,∀d∈LL.getD m [],d∈a:=λm hm d hd=>by
  obtain⟨a1,a2,rfl⟩:=List.append_of_mem hm;have:=hE.ahead a1 m (a2++j::b) (by rw[he];simp) d hd;simp[this]
 exact hE.closed hc hE.mem (a.length+1) a j b (by omega) he (λd hd=>hE.ahead a j b he d hd)
def EOkW.mc{j:Nat}(hj:j<l.length):j∉eR LJ j:=λh=>by
 obtain⟨a,b,he⟩:=List.append_of_mem (hE.mem j hj);have h1:=hE.lS he j h;have:=hE.nodup;rw[he]at this;have:=(List.nodup_append.1 this).2.2 j h1 j (by simp);exact this rfl
def qH{i:Nat}{x:St}{e:Nat}{v:V}{Z':ag}(hi:i<l.length)(he:e<l.length)(LR:i≠e)(hu:∀d,(bn l e).dst=some d->d∉(bn l i).kK)
 (hq:∀v,QY P (bn l i) x.s x.U v->QY P (bn l i) x.s Z' v)(h:SD P (bn l i) x):SD P (bn l i) ⟨aU x.s (bn l e).dst v,Z'⟩:=by
 unfold SD at*;have hq':∀v',QY P (bn l i) x.s x.U v'->QY P (bn l i) (aU x.s (bn l e).dst v) Z' v':=λv' hv=>(fG hu).2 (hq v' hv);cases hd:(bn l i).dst with
 |none=>rw[hd]at h;obtain⟨v',h⟩:=h;exact⟨v',hq' v' h⟩
 |some d=>
  rw[hd]at h;simp only at h|-;have:aU x.s (bn l e).dst v d=x.s d:=by
   have:=hE.dsts i e hi he LR d hd;cases Rw:(bn l e).dst with
   |none=>rfl
   |some d'=>
    rw[Rw]at this;simp only[aU];rw[aJ (λe'=>this (by rw[e']))]
  rw[this];exact hq' _ h
def ju.adv{L:List Nat}{y:St}:∀{rest done:List Nat} {x:St},ju P l LL LJ ord K L y done rest x->
 ∃To QH x',ju P l LL LJ ord K L y To QH x'/\∀h r,QH=h::r->dD l LJ h=true
 |[],done,x,h=>⟨done,[],x,h,by simp⟩
 |e::rest,done,x,h=>by
  cases NR:dD l LJ e with
  |true=>exact⟨done,e::rest,x,h,λa r he=>by cases he;exact NR⟩
  |false=>
   have OL:e<l.length:=hE.lt e (by rw[h.split];simp);obtain⟨hk,Tp⟩:=gr NR OL (hE.mc OL);have MS:=hE.nodup;rw[h.split]at MS;have Zl:e∉done:=λhm=>(List.nodup_append.1 MS).2.2 e hm e (by simp) rfl;have Rx:e∉L:=λhm=>Zl (h.sub e hm);have M7:=h.go;rw[eC,zG OL,AX,aJ (by simp[NR]),nE]at M7;have hT:T P (bn l e) x (RE P l K (eC l LJ (done++[e]) rest)):=by
    rcases M7 with M7|⟨_,M7⟩
    .exact M7
    .exfalso;revert M7 hk;generalize (bn l e).op=op;intro hk M7;split at M7
     .simp[bk]at hk
     .simp[bk]at hk
     .simp[bk]at hk
     .exact M7
   obtain⟨v,hv,Ry⟩:=(cp (by simp[fo,hk])).1 hT;refine ju.adv (rest:=rest) (done:=done++[e]) (x:=⟨aU x.s (bn l e).dst v,x.U⟩) ⟨by rw[h.split];simp,λi hi=>by simp[h.sub i hi],h.nodup,h.closed,λi hi Ni=>?_,h.store,λd hd=>?_,λi hi OG=>?_,Ry⟩
   .rcases fq.1 hi with hi|hi
    .exact h.M8 i hi Ni
    .simp only[jI]at hi;rw[hi,NR]at Ni;cases Ni
   .have h1:=h.slot d λi hi OG=>hd i (by simp[hi]) OG;have h2:=hd e (by simp) Rx;rw[h1];simp only;cases Rw:(bn l e).dst with
    |none=>rfl
    |some d'=>
     rw[Rw]at h2;simp only[aU];rw[aJ (λe'=>h2 (by rw[e']))]
   .by_cases Ni:i=e
    .subst Ni;unfold SD;cases hd:(bn l i).dst with
     |none=>exact⟨v,hv⟩
     |some d=>
      simp only;have e1:aU x.s (some d) v d=v:=by simp[aU]
      rw[e1];exact(fG (λt ht=>by cases ht;exact Tp d hd)).2 hv
    .have Ls:i∈done:=by
      rcases fq.1 hi with hi|hi
      .exact hi
      .simp only[jI]at hi;exact absurd hi Ni
     have NS:i<l.length:=hE.lt i (by rw[h.split];simp[Ls]);refine qH hE NS OL Ni (λd hd hu=>?_) (λv hv=>hv) (h.Tm i Ls OG);rcases hE.Sk i e NS OL Ni d hd hu with h1|⟨h1,_⟩
     .obtain⟨a,b,Py⟩:=List.append_of_mem Ls;have h2:=hE.lS (a:=a) (j:=i) (b:=b++e::rest) (by rw[h.split,Py];simp) e h1;exact Zl (by rw[Py];simp[h2])
     .rw[NR]at h1;cases h1
end
section
variable {l:List aK} {LL LJ:List (List Nat)} {ord:List Nat} {K:St->Prop} (hE:EOk l LL LJ ord)
include hE
def nO:∀(f:Nat) (L:List Nat) (y:St) (done rest:List Nat) (x:St),f+L.length=l.length->ju P l LL LJ ord K L y done rest x->gQ P l LL K f L y:=by
 intro f
 induction f with
 |zero=>
  intro L y done rest x hf h;have MI:∀i,i<l.length->i∈L:=(rI l.length L h.nodup λi hi=>hE.lt i (by rw[h.split];simp[h.sub i hi])).2 (by omega);have MS:=hE.nodup;rw[h.split]at MS;have NP:rest=[]:=by
   cases rest with
   |nil=>rfl
   |cons e r=>
    exfalso;have OL:e<l.length:=hE.lt e (by rw[h.split];simp);exact(List.nodup_append.1 MS).2.2 e (h.sub e (MI e OL)) e (by simp) rfl
  subst NP;have hyx:y=x:=by
   obtain⟨s,U⟩:=y;obtain⟨s',Z'⟩:=x;have h1:U=Z':=h.store;have h2:s=s':=funext λd=>h.slot d λi hi OG=>absurd (MI i (hE.lt i (by rw[h.split];simp[hi]))) OG;rw[h1,h2]
  refine⟨?_,by rw[hyx];exact h.go⟩;unfold dX;rw[List.filter_eq_nil_iff];intro i hi;simp only[List.mem_range,hE.Sj]at hi;simp[MI i hi]
 |succ f ih=>
  intro L y done rest x hf h;obtain⟨done,rest,x,h,R0⟩:=ju.adv hE.toEOkW h;have MS:=hE.nodup;rw[h.split]at MS;have hmemL:∀i∈L,i<l.length:=λi hi=>hE.lt i (by rw[h.split];simp[h.sub i hi]);have key:so P l (gQ P l LL K f) L y (dX LL L):=by
   refine nL λi hi=>?_;obtain⟨NS,OG,QI⟩:=rU hi;rw[hE.Sj]at NS;refine⟨bn l i,by simp[bn,Oy NS],?_⟩;obtain⟨pa,pb,Zm⟩:=List.append_of_mem (hE.mem i NS);have N9:∀j∈eR LJ i,j∈L:=hE.closed h.closed hE.mem (pa.length+1) pa i pb (by omega) Zm QI;have QJ:∀u∈(bn l i).kK,x.s u=y.s u:=λu hu=>(h.slot u λj hj O0 hd=>by
    have Oq:j<l.length:=hE.lt j (by rw[h.split];simp[hj]);by_cases MZ:j=i
    .subst MZ;cases Nj:dD l LJ j with
     |true=>exact O0 (h.M8 j hj Nj)
     |false=>exact(gr Nj Oq (hE.mc Oq)).2 u hd hu
    .rcases hE.Sk i j NS Oq (λe=>MZ e.symm) u hd hu with h1|⟨h1,_⟩
     .exact O0 (N9 j h1)
     .exact O0 (h.M8 j hj h1)).symm
   by_cases Ls:i∈done
   .have Ni:dD l LJ i=false:=by
     cases Ni:dD l LJ i with
     |false=>rfl
     |true=>exact absurd (h.M8 i Ls Ni) OG
    obtain⟨hk,_⟩:=gr Ni NS (hE.mc NS);have hq:=h.Tm i Ls OG;obtain⟨v,hv,hvd⟩:∃v,QY P (bn l i) x.s x.U v/\∀d,(bn l i).dst=some d->x.s d=v:=by
     unfold SD at hq;cases hd:(bn l i).dst with
     |none=>rw[hd]at hq;obtain⟨v,hq⟩:=hq;exact⟨v,hq,by simp⟩
     |some d=>rw[hd]at hq;exact⟨_,hq,λd' e=>by cases e;rfl⟩
    refine .inl ((cp (by simp[fo,hk])).2 ⟨v,?_,?_⟩)
    .rw[h.store];exact vU QJ hv
    .refine ih (i::L) _ done rest x (by simp only[MM];omega) ⟨h.split,λj hj=>?_,List.nodup_cons.2 ⟨OG,h.nodup⟩,λm hm d hd=>?_,λj hj Nj=>by simp[h.M8 j hj Nj],h.store,λd hd=>?_,λj hj O0=>h.Tm j hj (λhm=>O0 (by simp[hm])),h.go⟩
     .rcases dI.1 hj with rfl|hj
      .exact Ls
      .exact h.sub j hj
     .rcases dI.1 hm with rfl|hm
      .simp[QI d hd]
      .simp[h.closed m hm d hd]
     .simp only;by_cases Rz:(bn l i).dst=some d
      .rw[Rz];simp only[aU];rw[aI trivial];exact(hvd d Rz).symm
      .have h1:=h.slot d λj hj O0=>by
        by_cases MZ:j=i
        .rw[MZ];exact Rz
        .exact hd j hj (by simp[MZ,O0])
       rw[<-h1];cases Rw:(bn l i).dst with
       |none=>rfl
       |some d'=>
        rw[Rw]at Rz;simp only[aU];rw[aJ (λe'=>Rz (by rw[e']))]
   .have Ug:i∈rest:=by
     have:=hE.mem i NS;rw[h.split]at this;exact(fq.1 this).resolve_left Ls
    obtain⟨PB,rr,rfl⟩:∃a r,rest=a::r:=by
     cases rest with
     |nil=>cases Ug
     |cons a r=>exact⟨a,r,rfl⟩
    have NR:=R0 PB rr rfl;have Uh:PB∉done:=λhm=>(List.nodup_append.1 MS).2.2 PB hm PB (by simp) rfl;have hih:i=PB:=by
     rcases dI.1 Ug with e|Ug
     .exact e
     .exfalso;have:=hE.M8 (done++[PB]) rr PB i (by rw[h.split];simp) (by simp) Ug NR;exact Uh (h.sub _ (N9 _ this))
    subst hih;have M7:=h.go;rw[eC,zG NS]at M7;refine ym QJ h.store.symm (λr Z' hK=>?_) M7;rw[AX,aI NR]at hK;obtain⟨VA,Ry⟩:=qN (λk=>!(dD l LJ k)&&(!(jL (bn l k).op)&&!((eR LJ i).contains k))) (λj hj=>hE.lt j (by rw[h.split];simp[hj])) hK;refine ih (i::L) _ (done++[i]) rr ⟨aU x.s (bn l i).dst r,Z'⟩ (by simp only[MM];omega) ⟨by rw[h.split];simp,λj hj=>?_,List.nodup_cons.2 ⟨OG,h.nodup⟩,λm hm d hd=>?_,λj hj Nj=>?_,rfl,λd hd=>?_,λj hj O0=>?_,Ry⟩
    .rcases dI.1 hj with rfl|hj
     .simp
     .simp[h.sub j hj]
    .rcases dI.1 hm with rfl|hm
     .simp[QI d hd]
     .simp[h.closed m hm d hd]
    .rcases fq.1 hj with hj|hj
     .simp[h.M8 j hj Nj]
     .simp only[jI]at hj;simp[hj]
    .have h1:(bn l i).dst=some d\/y.s d=x.s d:=by
      by_cases Rz:(bn l i).dst=some d
      .exact .inl Rz
      .exact .inr (h.slot d λj hj O0=>hd j (by simp[hj]) (by
        simp only[dI,not_or];exact⟨λe=>Ls (e▸hj),O0⟩))
     simp only;cases Rw:(bn l i).dst with
     |none=>rw[Rw]at h1;exact h1.resolve_left (by simp)
     |some d'=>
      simp only[aU];split
      .rfl
      .rename_i LR;rw[Rw]at h1;exact h1.resolve_left (λe=>LR (by cases e;rfl))
    .have Sl:j∈done:=by
      rcases fq.1 hj with hj|hj
      .exact hj
      .simp only[jI]at hj;exact absurd (by simp[hj]) O0
     have Qb:j∉L:=λhm=>O0 (by simp[hm]);have Oq:j<l.length:=hE.lt j (by rw[h.split];simp[Sl]);have MZ:j≠i:=λe=>Ls (e▸Sl);have Nj:dD l LJ j=false:=by
      cases Nj:dD l LJ j with
      |false=>rfl
      |true=>exact absurd (h.M8 j Sl Nj) Qb
     cases WH:jL (bn l j).op with
     |true=>
      refine qH hE.toEOkW Oq NS MZ (λd hd hu=>?_) (λv hv=>jB WH hv) (h.Tm j Sl Qb);rcases hE.Sk j i Oq NS MZ d hd hu with h1|⟨_,h1⟩
      .obtain⟨a,b,Py⟩:=List.append_of_mem Sl;have h2:=hE.lS (a:=a) (j:=j) (b:=b++i::rr) (by rw[h.split,Py];simp) i h1;exact Ls (by rw[Py];simp[h2])
      .exact Qb (N9 j h1)
     |false=>
      refine VA j Sl ?_;simp only[Nj,WH,Bool.not_false,Bool.true_and,Bool.not_eq_true'];cases hc:(eR LJ i).contains j with
      |false=>rfl
      |true=>exact absurd (N9 j (List.contains_iff_mem.1 hc)) Qb
  cases hr:dX LL L with
  |cons a r=>unfold gQ;rw[hr]at key|-;exact key
  |nil=>
   exfalso;have:∃i,i∈ord/\i∉L:=by
    by_cases hx:∃i,i∈ord/\i∉L
    .exact hx
    .exfalso;have G':∀i∈ord,i∈L:=λi hi=>Classical.byContradiction λhn=>hx ⟨i,hi,hn⟩;have h1:=hE.nodup.length_le_of_subset G';have:=hE.len;omega
   obtain⟨i,hi,OG⟩:=this;have first:∀(a b:List Nat),ord=a++b->(∀j∈a,j∈L)->(∃i∈b,i∉L)->∃a' e b',ord=a'++e::b'/\(∀j∈a',j∈L)/\e∉L:=by
    intro a b
    induction b generalizing a with
    |nil=>rintro _ _ ⟨i,h,_⟩;cases h
    |cons e b ihb=>
     intro he ha hx;by_cases Rx:e∈L
     .refine ihb (a++[e]) (by rw[he];simp) (λj hj=>?_) ?_
      .rcases fq.1 hj with hj|hj
       .exact ha j hj
       .simp only[jI]at hj;rw[hj];exact Rx
      .obtain⟨i,hi,OG⟩:=hx;rcases dI.1 hi with rfl|hi
       .exact absurd Rx OG
       .exact⟨i,hi,OG⟩
     .exact⟨a,e,b,he,ha,Rx⟩
   obtain⟨a,e,b,he,ha,Rx⟩:=first [] ord rfl (by simp) ⟨i,hi,OG⟩
   have OL:e<l.length:=hE.lt e (by rw[he];simp);have:e∈dX LL L:=by
    unfold dX;refine ve.2 ⟨by simp[hE.Sj,OL],?_⟩;simp only[Ba,Bool.not_eq_true',fa];refine⟨by simpa using Rx,λd hd=>?_⟩;simpa using ha d (hE.ahead a e b he d hd)
   rw[hr]at this;cases this
end
def ab.uP(hm:P.follows .mixedOrders=true){l:List aK}{LL:List (List Nat)}(ord:List Nat)(LJ:List (List Nat))(its:List Nat)(hB:eOk l LL LJ ord=true)(hi:eC l LJ [] ord=its)
 (h:RE P l (λx=>ab P n k x Q) its st):ab P n (.code (.O4 l LL)::k) st Q:=by
 have hE:=xc hB;refine ab.F4 hm (nO hE l.length [] st [] ord st (by simp) ⟨rfl,by simp,List.nodup_nil,by simp,by simp,rfl,λ_ _=>rfl,by simp,by rw[hi];exact h⟩)
def RE.MB{l:List aK}{K:St->Prop}(rest:List Nat):∀(idx:List Nat) (sg:List aK) {x:St},(idx.map λm=>l[m/2]?)=sg.map some->(idx.all λm=>m%2==0)=true->
 Go P n (.d sg [.stop (RE P l K rest)]) x (λ_=>False)->RE P l K (idx++rest) x
 |[],[],_,_,_,h=>h
 |[],_::_,_,h,_,_=>by simp at h
 |_::_,[],_,h,_,_=>by simp at h
 |m::idx,i::sg,x,h,hev,hg=>by
  simp only[fb,List.cons.injEq]at h;simp only[uW,Ba,beq_iff_eq]at hev;show RE P l K (m::(idx++rest)) x;rw[RE,h.1];simp only[aI hev.1];exact .inl (T.mono (λx' LX=>RE.MB rest idx sg h.2 (by simpa using hev.2) LX) hg)
def RE.call{l:List aK}{K:St->Prop}{m:Nat}{rest:List Nat}{x:St}{i:aK}(hi:l[m/2]?=some i)(hm:m%2=0){fx:VX}{xs:List VX}(hw:bp x.s i.g=some true)(ho:i.op=.call fx xs){f:FuncId}{caps:List V}(hf:fx.ev x.s=.fn f caps)
 {Post:V->ag->Prop}(hc:aA P f (xs.map (·.ev x.s)++caps) x.U Post)(h:∀r Z',Post r Z'->RE P l K rest ⟨aU x.s i.dst r,Z'⟩):RE P l K (m::rest) x:=by
 rw[RE,hi];simp only[aI hm];exact .inr ⟨hw,by rw[ho];exact⟨f,caps,Post,hf,hc,h⟩⟩
def RE.aC{l:List aK}{K:St->Prop}{m:Nat}{rest:List Nat}{x:St}{i:aK}(hi:l[m/2]?=some i)(hm:m%2=0){fx:VX}{xs:List VX}(hw:bp x.s i.g=some true)(ho:i.op=.call fx xs){f:FuncId}{caps:List V}(hf:fx.ev x.s=.fn f caps)
 {v:V}(hc:aA P f (xs.map (·.ev x.s)++caps) x.U λr Z'=>r=v/\Z'=x.U)(h:RE P l K rest ⟨aU x.s i.dst v,x.U⟩):RE P l K (m::rest) x:=
 RE.call hi hm hw ho hf hc λr Z' ⟨h1,h2⟩=>by subst h1;subst h2;exact h
def RE.MU{l:List aK}{K:St->Prop}{m:Nat}{rest:List Nat}{x:St}{i:aK}(hi:l[m/2]?=some i)(hm:m%2=1){d:Nat}(hd:i.dst=some d)(hw:bp x.s i.g=some true)(hk:bk i.op=0)(hp:eV x.s i.op)
 (hv:aL x.U x.s i.op=some (x.s d))(h:RE P l K rest x):RE P l K (m::rest) x:=by
 rw[RE,hi];simp only[hm,Nat.one_ne_zero,if_false];refine⟨?_,h⟩;unfold SD;rw[hd];refine .inl ⟨hw,?_⟩;unfold QO;simp only[hk];exact⟨hp,hv⟩
variable {P:Program} {n:Nat} {st:St} {Q:St->Prop} {k:List It}
def ab.Lj{k1 k2:List It}(τ:St->Prop)(h1:ab P n (k1++[.stop τ]) st Q)(h2:∀st,τ st->ab P n k2 st Q):ab P n (k1++k2) st Q:=by
 intro F hn kt hk a w hs;obtain⟨kt1,kt2,rfl,Nf,N2⟩:=List.map_eq_append_iff.1 hk;have key:∀(kt:List KI) e a w,kz P F Q (kt++[.stop τ]) e a w->kz P F Q (kt++kt2) e a w:=by
  intro kt
  induction kt with
  |nil=>
   intro e a w h;simp only[nE]at h|-;cases e with
   |normal=>obtain⟨st,h3,h4⟩:=h;exact h2 st h3 F hn kt2 N2 a w h4
   |ret=>obtain⟨_,h3⟩:=h;exact kI h3 kt2
   |_=>obtain⟨h3,_⟩:=h;rcases h3 with h3|h3<;>cases h3
  |cons y kt ih=>
   intro e a w h;cases y with
   |code c=>cases e<;>first|exact wpIn_mono h ih|exact ih _ _ _ h
   |inBlock id=>
    cases e<;>simp only[List.cons_append,kz,Exit.inBlock]at h|-<;>(try split at h)<;>(try split)<;>first|exact ih _ _ _ h|contradiction
   |stop μ=>cases e<;>first|exact h|exact ih _ _ _ h
   |ops all l=>cases e<;>first|exact lW ih l a w h|exact ih _ _ _ h
 exact key kt1 _ a w (h1 F hn (kt1++[.stop τ]) (by simp[KI.it,Nf]) a w hs)
def ab.kW{x:bM}{id:Nat}(τ:St->Prop)(μ:Nat->St->Prop)(m:Nat)(h0:μ m st)
 (hr:∀m st,μ m st->ab P n (.code x::.stop (λNB=>∃m',m'<m/\μ m' NB)::[.inBlock id,.stop τ]) st Q)(h2:∀st,τ st->ab P n k st Q):
 ab P n (.code (.loop x)::.inBlock id::k) st Q:=
 ab.Lj (P:=P) (n:=n) (Q:=Q) (st:=st) (k1:=[.code (.loop x),.inBlock id]) (k2:=k) τ (ab.loop μ m h0 hr) h2
open Go.Proofs Go.Proofs.Tryz
def Fg{f:LV}{s:Mr}(hf:f.ok)(h:M1 s.a/\M1 s.b):M1 (jG f s).a/\M1 (jG f s).b:=by
 obtain⟨⟨x1,x2⟩,_,⟨w1,w2⟩,_⟩:=hf;obtain⟨⟨a1,a2⟩,b1,b2⟩:=h;unfold jG;split
 .exact⟨⟨by simp only;omega,by simp only;omega⟩,b1,b2⟩
 .exact⟨⟨a1,a2⟩,by simp only;omega,by simp only;omega⟩
def x8:∀{l:List LV} {s:Mr},(∀f∈l,f.ok)->M1 s.a/\M1 s.b->M1 (l.foldl (λs f=>jG f s) s).a/\M1 (l.foldl (λs f=>jG f s) s).b
 |[],_,_,h=>h
 |f::l,s,hl,h=>x8 (l:=l) (λg hg=>hl g (by simp[hg])) (Fg (hl f (by simp)) h)
def lK{l:List LV}{y high:Int}{s:Mr}(hl:∀f∈l,f.ok)(h:M1 s.a/\M1 s.b):M1 (ec l y high s).a/\M1 (ec l y high s).b:=
 x8 (λf hf=>hl f (ve.1 hf).1) h
def su{s:Mr}:∀{l:List LV},(∀f∈l,jG f s=s)->l.foldl (λs f=>jG f s) s=s
 |[],_=>rfl
 |f::l,h=>by rw[nx,h f (by simp)];exact su λg hg=>h g (by simp[hg])
def nk(s:Mr):∀(l:List LV) (a:Int×Bool),(l.foldl (jr s) a=a\/∃f∈l,l.foldl (jr s) a=(f.y+f.h,true))/\(a.2=true->(l.foldl (jr s) a).2=true)/\((∃f∈l,jG f s≠s)->(l.foldl (jr s) a).2=true)
 |[],a=>⟨.inl rfl,id,by simp⟩
 |f::l,a=>by
  obtain⟨h1,h2,h3⟩:=nk s l (jr s a f);have hf:jr s a f=a\/jr s a f=(f.y+f.h,true):=by unfold jr;split<;>simp
  refine⟨?_,λha=>h2 ?_,?_⟩
  .rw[nx];rcases h1 with h1|⟨g,hg,h1⟩
   .rw[h1];rcases hf with hf|hf
    .exact .inl hf
    .exact .inr ⟨f,by simp,hf⟩
   .exact .inr ⟨g,by simp[hg],h1⟩
  .rcases hf with hf|hf<;>rw[hf]
   exact ha
  .rintro⟨g,hg,LR⟩;rcases dI.1 hg with rfl|hg
   .refine h2 ?_;unfold jr;split
    .rename_i h;exact(h.resolve_left LR).1
    .rfl
   .exact h3 ⟨g,hg,LR⟩
def AZ{y high:Int}{f:LV}(h:hU y high f=true):y<f.y+f.h:=by
 refine Classical.byContradiction λhn=>?_;have:nF ⟨f.y,f.y+f.h⟩ ⟨y,y+max high 1⟩=⟨0,0⟩:=by
  unfold nF;rw[aI];simp only;omega
 simp[hU,this]at h
def iy{l:List LV}{y high:Int}{s:Mr}(h:(fU l y high s).2=true):∃f∈l,y<f.y+f.h/\(fU l y high s).1=f.y+f.h:=by
 rcases(nk s (l.filter (hU y high)) (0,false)).1 with h1|⟨f,hf,h1⟩
 .unfold fU at h;rw[h1]at h;cases h
 .obtain⟨hl,hm⟩:=ve.1 hf;exact⟨f,hl,AZ hm,by unfold fU;rw[h1]⟩
def nv{l:List LV}{y high:Int}{s:Mr}(h:ec l y high s≠s):(fU l y high s).2=true:=by
 refine(nk s (l.filter (hU y high)) (0,false)).2.2 (Classical.byContradiction λhn=>h (su λf hf=>Classical.byContradiction λhe=>hn ⟨f,hf,he⟩))
def Tq(l:List LV)(y:Int):Nat:=(l.filter λf=>decide (y<f.y+f.h)).length
def filter_lt{α:Type}{p q:α->Bool}(hpq:∀x,q x=true->p x=true):∀{l:List α},(l.filter q).length<=(l.filter p).length/\((∃x∈l,p x=true/\q x=false)->(l.filter q).length<(l.filter p).length)
 |[]=>by simp
 |a::l=>by
  obtain⟨h1,h2⟩:=filter_lt hpq (l:=l);cases hp:p a<;>cases hq:q a
  .simp only[List.filter_cons,hp,hq,iG,if_false];refine⟨h1,?_⟩;rintro⟨x,hx,h3,h4⟩;rcases dI.1 hx with rfl|hx
   .rw[hp]at h3;cases h3
   .exact h2 ⟨x,hx,h3,h4⟩
  .rw[hpq a hq]at hp;cases hp
  .simp only[List.filter_cons,hp,hq,iG,if_false,if_true,MM];exact⟨by omega,λ_=>by omega⟩
  .simp only[List.filter_cons,hp,hq,if_true,MM];refine⟨by omega,?_⟩;rintro⟨x,hx,h3,h4⟩;rcases dI.1 hx with rfl|hx
   .rw[hq]at h4;cases h4
   .have:=h2 ⟨x,hx,h3,h4⟩;omega
def u6{l:List LV}{y z:Int}(h:∃f∈l,y<f.y+f.h/\z=f.y+f.h):Tq l z<Tq l y:=by
 obtain⟨f,hf,h1,rfl⟩:=h;exact(filter_lt (p:=λg:LV=>decide (y<g.y+g.h)) (q:=λg:LV=>decide (f.y+f.h<g.y+g.h)) (λg hg=>by simp at hg|-;omega) (l:=l)).2 ⟨f,hf,by simpa using h1,by simp⟩
def ui(l:List LV)(w high:Int)(s:Mr)(y:Int):Bool:=decide (w<=jx (ec l y high s))||decide (ec l y high s=s)
def nW(l:List LV)(w high:Int)(s:Mr):Nat->Int->Int
 |0,y=>y
 |k+1,y=>if ui l w high s y then y else nW l w high s k (fU l y high s).1
def ki(l:List LV)(w high:Int)(s:Mr)(y:Int):Int:=nW l w high s l.length y
def CF{l:List LV}{y high:Int}{s:Mr}(hl:∀f∈l,f.ok)(h:(fU l y high s).2=true):M1 (fU l y high s).1:=by
 obtain⟨f,hf,_,e⟩:=iy h;obtain⟨_,⟨a1,a2⟩,_,b1,b2⟩:=hl f hf;rw[e];exact⟨by omega,by omega⟩
def pI(l:List LV)(high y:Int)(s:Mr):V:=.agg [vI s.a,vI s.b,bo l,vI high,vI y]
def AE(l:List LV)(high y:Int)(s:Mr)(hl:l.length<=1000000)(LS:∀f∈l,f.ok)(hy:M1 y)(hh:Bq high):bc prog 165 [pI l high y s] (aZ (ec l y high s)):=λU=>by
 refine JH.r (by simp[HZ]) ?_;have hs:=aa.refl U;refine ab.mix 3 ?_;have e1:(bo l).cells=[bo l]:=rfl;have e2:(bo l).stays=true:=rfl;apply sR;simp only[go_sem,seval,HZ,pI,e1,e2];refine ae λi1 Z1 s1 a1 f1=>?_;have z1:=hs.none f1;replace hs:=hs.trans s1;simp only[go_sem,seval,a1,e1,e2];refine ae λi2 Z2 s2 a2 f2=>?_;have n12:=ao a1 f2;replace a1:=s2 _ _ a1;have z2:=hs.none f2;replace hs:=hs.trans s2;simp only[go_sem,seval,a2,a1];refine ab.aC rfl rfl rfl (zS l y high s hl LS hy hh _) ?_;apply sR;simp only[go_sem,seval,a2,aZ];exact aE.pure (hs.aG z2) rfl
def E9(l:List LV)(w high y:Int)(s:Mr)(hl:l.length<=1000000)(LS:∀f∈l,f.ok)(hy:M1 y)(hh:Bq high)(NI:M1 s.a/\M1 s.b):bc prog 163 [pI l high y s,vI w] (.bool (ui l w high s y)):=λU=>by
 refine JJ.r (by simp[He]) ?_;have hs:=aa.refl U;refine ab.mix 5 ?_;have hb:=AE l high y s hl LS hy hh;have hlen:=BW (ec l y high s) (lK LS NI).1 (lK LS NI).2;unfold ui;generalize ec l y high s=b at*;have e1:(bo l).cells=[bo l]:=rfl;have e2:(bo l).stays=true:=rfl;apply sR;simp only[go_sem,seval,He,pI,e1,e2];refine ae λi2 Z2 s2 a2 f2=>?_;have z2:=hs.none f2;replace hs:=hs.trans s2;simp only[go_sem,seval,a2,e1,e2];refine Go.cN rfl rfl rfl hb ?_;apply sG;simp only[go_sem,seval];refine Go.cN rfl rfl rfl hlen ?_;by_cases h1:w<=jx b
 .have q:(w<=jx b)=True:=LH h1;apply sG;simp only[go_sem,seval,q,a2];exact aE.pure hs (by simp[h1])
 .have q:(w<=jx b)=False:=Ly h1;apply sG;simp only[go_sem,seval,q,a2];refine Go.cN rfl rfl rfl hb ?_;obtain⟨b1,b2⟩:=b;obtain⟨s1,s2⟩:=s;apply sG;simp only[go_sem,seval,a2,aZ];refine aE.pure hs ?_;by_cases h2:b1=s1<;>by_cases h3:b2=s2<;>simp[h1,h2,h3]
def DQ(l:List LV)(w high y:Int)(s:Mr)(hl:l.length<=1000000)(LS:∀f∈l,f.ok)(hy:M1 y)(hh:Bq high)(NI:M1 s.a/\M1 s.b):
 bc prog 143 [bo l,vI w,vI high,vI y,aZ s] (.LI [aZ (ec l (ki l w high s y) high s),vI (ki l w high s y)]):=λU=>by
 refine J5.r (by simp[HF]) ?_;have hs:=aa.refl U;refine ab.mix 13 ?_;have e1:(bo l).cells=[bo l]:=rfl;have e2:(bo l).stays=true:=rfl;apply sR;simp only[go_sem,seval,HF,aZ];refine ae λi9 Z9 s9 a9 f9=>?_;have z9:=hs.none f9;replace hs:=hs.trans s9;simp only[go_sem,seval,a9];refine ae λMa Q4 M0 LG f10=>?_;have Qa:=ao a9 f10;replace a9:=M0 _ _ a9;have Ol:=hs.none f10;replace hs:=hs.trans M0;simp only[go_sem,seval,LG,a9,e1,e2];refine ae λNy Z12 Qc a12 f12=>?_;have n912:=ao a9 f12;replace a9:=Qc _ _ a9;have PV:=ao LG f12;replace LG:=Qc _ _ LG;have z12:=hs.none f12;replace hs:=hs.trans Qc;simp only[go_sem,seval,a12,LG,a9,e1,e2];generalize NT:E' _ Ny _=Y12;replace a12:=(congrFun NT Ny).symm.trans ak;replace a9:=((congrFun NT i9).symm.trans (ad n912)).trans a9;replace LG:=((congrFun NT Ma).symm.trans (ad PV)).trans LG;replace hs:=Eq.subst (motive:=aa _) NT (hs.aG z12);clear NT;obtain⟨z,hz⟩:∃z,z=ki l w high s y:=⟨_,rfl⟩
 rw[<-hz];refine ab.kW (λst=>∃J,st.U=J/\aa U J/\J Ny=some ⟨269,5,[pI l high z s]⟩/\J Ma=some ⟨239,2,[.agg [vI 0,vI 0]]⟩/\st.s 10=.ptr Ma 0 0/\st.s 12=.ptr Ny 0 0/\M1 z)
  (λm st=>∃(y':Int) (k:Nat),m=Tq l y'/\Tq l y'<=k/\z=nW l w high s k y'/\M1 y'/\aa U st.U/\st.U Ny=some ⟨269,5,[pI l high y' s]⟩/\st.U Ma=some ⟨239,2,[.agg [vI 0,vI 0]]⟩/\st.s 1=vI w/\st.s 10=.ptr Ma 0 0/\st.s 12=.ptr Ny 0 0) (Tq l y) ?_ ?_ ?_
 .exact⟨y,l.length,rfl,List.length_filter_le _ _,hz,hy,hs,a12,LG,rfl,rfl,rfl⟩
 .rintro m ⟨S,J⟩ ⟨y',k,rfl,hk,UR,XL,hs,RA,Sn,k1,Qn,Nb⟩;simp only at hs RA Sn k1 Qn Nb;refine ab.mix 13 ?_;rw[pI]at RA;apply sR;simp only[go_sem,seval,k1,Qn,Nb,RA,e1,e2];refine ab.aC rfl rfl rfl (E9 l w high y' s hl LS XL hh NI _) ?_;cases hf:ui l w high s y'
  .have LR:ec l y' high s≠s:=λe=>by simp[ui,e]at hf
   have Vg:=nv LR;have WI:=u6 (iy Vg);apply sR;simp only[go_sem,seval,k1,Qn,Nb,RA,e1,e2];refine ab.aC rfl rfl rfl (B8 l y' high s hl LS XL hh _) ?_;apply sR;simp only[go_sem,seval,k1,Qn,Nb,RA,e1,e2];obtain⟨k',rfl⟩:∃k',k=k'+1:=⟨k-1,by omega⟩
   rw[nW,hf]at UR;have n:Ny≠Ma:=PV.symm;refine⟨_,WI,_,k',rfl,by omega,by simpa using UR,CF LS Vg,hs.aG z12,rfl,?_⟩;rw[ad PV];exact Sn
  .have hzy:z=y':=by cases k<;>simp[nW,hf]at UR<;>exact UR
   subst hzy;apply sR;simp only[go_sem,seval,k1,Qn,Nb,RA,e1,e2];exact⟨J,rfl,hs,RA,Sn,XL⟩
 .rintro⟨S,J⟩ ⟨X',rfl,hs,RA,Sn,Qn,Nb,hz2⟩;simp only at hs RA Sn Qn Nb;rw[pI]at RA;refine ab.mix 13 ?_;apply sR;simp only[go_sem,seval,Qn,Nb];refine ab.uP (by kernel_rfl) [0,2,3,1,4,5] [[],[0],[],[2],[0,1],[0,1,2,3,4]] [0,4,6,2,7,8,7,10] (by kernel_rfl) (by kernel_rfl) ?_;refine RE.MB (n:=0) [2,7,8,7,10] [0,4,6] [⟨(.some 35),(.load .true 5 (.t 12)),.none⟩,⟨(.some 37),(.Mc .false 4 1 (.t 12)),.none⟩,⟨(.some 38),(.load .false 1 (.t 37)),.none⟩] rfl rfl ?_;apply sG;simp only[go_sem,seval,Qn,Nb,RA,e1,e2];refine RE.aC rfl rfl rfl rfl rfl (AE l high z s hl LS hz2 hh _) ?_;refine RE.MU rfl rfl rfl rfl rfl trivial (by simp only[go_sem,seval,Qn,Nb,RA,Sn,e1,e2]) ?_;refine RE.MB (n:=0) [7,10] [8] [⟨.none,(.store 2 (.t 10) (.t 36)),.none⟩] rfl rfl ?_;apply sG;simp only[go_sem,seval,Qn,Nb,RA,Sn,aZ,e1,e2];refine RE.MU rfl rfl rfl rfl rfl trivial (by simp only[go_sem,seval,Qn,Nb,RA,Sn,ad PV.symm,e1,e2]) ?_;refine RE.MB (n:=0) [] [10] [⟨(.some 11),(.Mb (.t 38)),.none⟩] rfl rfl ?_;apply sG;simp only[go_sem,seval,Qn,Nb,RA,Sn,aZ,e1,e2];apply sR;simp only[go_sem,seval,Qn,Nb,ak,aZ];exact aE.pure (hs.aG Ol) rfl
open Go.Proofs Go.Proofs.Tryz
def lJ(e sz b:Nat):Lx:=⟨8,.seq (.Oz false [⟨some 2,.Mb (.c .bz),none⟩]) (.seq (.seq (.Oz false [⟨some 3,.Mb (.t 0),none⟩,⟨some 4,.NZ false (.t 3) (.c (.iface 0 .undef)),none⟩]) (.cond (.t 4) (.seq (.Oz false [⟨some 2,.Mb (.c .bz),none⟩]) .ret) .skip)) (.seq (.Oz false [⟨some 5,.fF e sz [],none⟩,⟨some 6,.Mb (.t 0),none⟩,⟨some 7,.append e sz b (.t 5) (.t 6),none⟩,⟨some 2,.Mb (.t 7),none⟩]) .ret)),[.tmp (.t 2)]⟩
def wY{P:Program}{f:FuncId}{fn:Func}(hf:P.funcs[f]?=some fn){e sz b:Nat}(hc:Vj P fn=some (lJ e sz b))(hk:fw P f=true)(rows:List V)(hb:rows.length*(b+1)<=140737488355328)(U:ag):
 aA P f [.sl sz rows] U λr Z'=>aa U Z'/\aQ U Z' e sz r rows:=by
 refine aA.mn hf hc hk (by simp[lJ]) ?_;refine ab.mix 3 ?_
 (refine ab.bD MJ.nothing 8 ?_;simp only[go_sem,seval,nu,lJ])
 refine ab.BE rfl rfl rfl λt ht=>?_;cases t
 .apply sR;simp only[go_sem,seval];refine ae λOv Z1 s1 a1 f1=>?_;obtain⟨LQ,hd,Mn⟩:=(aQ.new (K:=U) (e:=e) (sz:=sz) (n:=0) (rows:=[]) rfl a1 f1).dst (aa.refl _);have Rk:∀U,cC U sz (.sl sz rows)=some rows:=λU=>by simp[cC]
  simp only[go_sem,seval,hd,Rk,hb];refine er λPC Z2 s2 a2 f2=>?_;have N8:=(Mn U (aa.refl _) Z1 s1).trans s2;simp only[go_sem,seval];exact⟨_,_,aa.refl _,Wk.refl (aa.refl _) _,N8,aQ.new (by simp) a2 (s1.none f2)⟩
 .apply sR;simp only[go_sem,seval];obtain rfl:rows=[]:=ht rfl;exact⟨_,_,aa.refl _,Wk.refl (aa.refl _) _,aa.refl _,aQ.start⟩
def wu{P:Program}{f:FuncId}{fn:Func}(hf:P.funcs[f]?=some fn){e sz b:Nat}(hc:Vj P fn=some (lJ e sz b))(hk:fw P f=true)(rows:List V)(hb:rows.length*(b+1)<=140737488355328):
 bc P f [.sl sz rows] (.sl sz rows):=λU=>(wY hf hc hk rows hb U).AU λ_ _ h=>h.2.vR h.1 rfl
def bh(l:List LV):(bo l).cells=[bo l]:=rfl
def bg(l:List LV):(bo l).stays=true:=rfl
def kO{tell:LV->Int×Bool}{l:List LV}(h:(eg tell l).2=true):∃f∈l,(eg tell l).1=(tell f).1/\(tell f).2=true:=by
 have key:∀(l:List LV) (a:Int×Bool),l.foldl (rf tell) a=a\/∃f∈l,l.foldl (rf tell) a=((tell f).1,true)/\(tell f).2=true:=by
  intro l
  induction l with
  |nil=>intro a;exact .inl rfl
  |cons g l ih=>
   intro a;rw[nx];rcases ih (rf tell a g)with h|⟨f,hf,h,h'⟩
   .rw[h];unfold rf;split
    .rename_i hc;exact .inr ⟨g,by simp,rfl,hc.1⟩
    .exact .inl rfl
   .exact .inr ⟨f,by simp[hf],h,h'⟩
 rcases key l (0,false)with h1|⟨f,hf,h1,h2⟩
 .unfold eg at h;rw[h1]at h;cases h
 .exact⟨f,hf,by unfold eg;rw[h1],h2⟩
def mO(l:List LV)(w high:Int)(s:Mr)(y:Int):Bool:=!(fU l y high s).2||decide (jx (ec l y high s)>=w)
def kx(l:List LV)(w high:Int)(s:Mr):Nat->Int->Int
 |0,y=>y
 |k+1,y=>if mO l w high s y then y else kx l w high s k (fU l y high s).1
def nU(l:List LV)(w high:Int)(s:Mr)(y:Int):Int:=kx l w high s l.length y
def wC(f:LV)(l:List LV)(s:Mr):V:=.agg [vI f.node,vI f.side,vI f.anchor,vI f.x,vI f.y,vI f.w,vI f.h,bo l,vI s.a,vI s.b]
def ES(l:List LV)(f:LV)(y:Int)(s:Mr)(hl:l.length<=1000000)(LS:∀f∈l,f.ok)(hy:M1 y)(hh:Bq f.h)(NI:M1 s.a/\M1 s.b):
 bc prog 189 [wC f l s,vI y] (.LI [aZ (ec l (nU l f.w f.h s y) f.h s),vI (nU l f.w f.h s y)]):=λU=>by
 refine K6.r (by simp[Gn]) ?_;have hs:=aa.refl U;refine ab.mix 9 ?_;apply sR;simp only[go_sem,seval,Gn,wC,bh,bg];refine ae λi2 Z2 s2 a2 f2=>?_;have z2:=hs.none f2;replace hs:=hs.trans s2;simp only[go_sem,seval,a2,bh,bg];refine ae λi4 Z4 s4 a4 f4=>?_;have Zh:=ao a2 f4;replace a2:=s4 _ _ a2;have z4:=hs.none f4;replace hs:=hs.trans s4;simp only[go_sem,seval,a4,a2];obtain⟨z,hz⟩:∃z,z=nU l f.w f.h s y:=⟨_,rfl⟩
 rw[<-hz];refine ab.loop (λm st=>∃(y':Int) (k:Nat),m=Tq l y'/\Tq l y'<=k/\z=kx l f.w f.h s k y'/\M1 y'/\aa U st.U/\st.U i2=some ⟨302,10,[wC f l s]⟩/\st.U i4=some ⟨239,2,[.agg [vI 0,vI 0]]⟩/\st.s 1=vI y'/\st.s 2=.ptr i2 0 0/\st.s 4=.ptr i4 0 0) (Tq l y) ?_ ?_
 .exact⟨y,l.length,rfl,List.length_filter_le _ _,hz,hy,hs,a2,a4,rfl,rfl,rfl⟩
 .rintro m ⟨S,J⟩ ⟨y',k,rfl,hk,UR,XL,hs,b2,b4,k1,k2,k4⟩;simp only at hs b2 b4 k1 k2 k4;refine ab.mix 9 ?_;rw[wC]at b2;have hb:=lK (y:=y') (high:=f.h) LS NI;apply sR;simp only[go_sem,seval,k1,k2,k4,b2,bh,bg];refine ab.aC rfl rfl rfl (zS l y' f.h s hl LS XL hh _) ?_;apply sR;simp only[go_sem,seval,aZ];refine ae λi6 Z6 s6 a6 f6=>?_;have n26:=ao b2 f6;have XM:=ao b4 f6;replace b2:=s6 _ _ b2;replace b4:=s6 _ _ b4;have z6:=hs.none f6;replace hs:=hs.trans s6;simp only[go_sem,seval,a6,b2,k1,k2,k4,ad n26,bh,bg];generalize hq:E' _ i6 _=Y6;have US:=(congrFun hq i6).symm.trans ak;have b2':=((congrFun hq i2).symm.trans (ad n26)).trans b2;have b4':=((congrFun hq i4).symm.trans (ad XM)).trans b4;replace hs:=Eq.subst (motive:=aa _) hq (hs.aG z6);refine ab.aC rfl rfl rfl (B8 l y' f.h s hl LS XL hh _) ?_;have hex:mO l f.w f.h s y'=true->z=y':=λh=>by cases k<;>simp[kx,h]at UR<;>exact UR
  have hlen:=BW (ec l y' f.h s) hb.1 hb.2;have M7:mO l f.w f.h s y'=false->∃k',k=k'+1/\Tq l (fU l y' f.h s).1<Tq l y'/\z=kx l f.w f.h s k' (fU l y' f.h s).1/\M1 (fU l y' f.h s).1:=λh=>by
   have h2:(fU l y' f.h s).2=true:=by
    simp only[mO,Bool.or_eq_false_iff,Bool.not_eq_false']at h;exact h.1
   have WI:=u6 (iy h2);obtain⟨k',rfl⟩:∃k',k=k'+1:=⟨k-1,by omega⟩
   rw[kx,h]at UR;exact⟨k',rfl,WI,by simpa using UR,CF LS h2⟩
  unfold mO at hex M7;cases hn:(fU l y' f.h s).2
  .rw[hn]at hex;obtain rfl:=hex (by simp);apply sR;simp only[go_sem,seval,k1,k2,k4,US,b4',b2'];exact aE.pure (hs.aG z4) rfl
  .rw[hn]at hex M7;apply sR;simp only[go_sem,seval,k1,k2,k4,US,b2'];refine Go.cN rfl rfl rfl hlen ?_;by_cases hw:jx (ec l y' f.h s)>=f.w
   .have q:(jx (ec l y' f.h s)>=f.w)=True:=LH hw;obtain rfl:=hex (by simp[hw]);apply sG;simp only[go_sem,seval,k1,k2,k4,US,b4',b2',q,bh,bg];exact aE.pure (hs.aG z4) rfl
   .have q:(jx (ec l y' f.h s)>=f.w)=False:=Ly hw;obtain⟨k',rfl,h1,h2,h3⟩:=M7 (by simp[hw]);apply sG;simp only[go_sem,seval,k1,k2,k4,US,b4',b2',q,bh,bg];refine⟨_,h1,_,k',rfl,by omega,h2,h3,hs,?_⟩;exact⟨by rw[wC],rfl⟩
structure WJ(ws:List Int)(space:Int):Prop where
 len:ws.length<=100000
 R1:∀x∈ws,0<=x/\x<=1099511627776
 s0:0<=space
 s1:space<=1099511627776
def fS(space:Int):List Int->Nat->Int->List (Nat×Int)
 |[],_,_=>[]
 |x::r,k,n=>(k+1,n+space+x)::fS space r (k+1) (n+space+x)
def ov(space width:Int):List Int->Nat->Int->Nat×Int
 |[],k,n=>(k,n)
 |x::r,k,n=>if n+space+x>width then(k,n)else ov space width r (k+1) (n+space+x)
def j0(ws:List Int)(space width:Int)(i:Nat):Nat×Int:=ov space width (ws.drop (i+1)) (i+1) (ws.getD i 0)
def pK(space width:Int):∀(r:List Int) (k:Nat) (n:Int),k<=(ov space width r k n).1/\(ov space width r k n).1<=k+r.length
 |[],k,n=>by simp[ov]
 |x::r,k,n=>by
  rw[ov];split
  .simp
  .have:=pK space width r (k+1) (n+space+x);simp only[MM];omega
def xG{ws:List Int}{space width:Int}{i:Nat}(h:i<ws.length):i<(j0 ws space width i).1/\(j0 ws space width i).1<=ws.length:=by
 have:=pK space width (ws.drop (i+1)) (i+1) (ws.getD i 0);rw[Dc]at this;unfold j0;omega
def WJ.get{ws:List Int}{space:Int}(h:WJ ws space){i:Nat}(hi:i<ws.length):0<=ws[i]/\ws[i]<=1099511627776:=h.R1 _ (ML hi)
open Go.Proofs Go.Proofs.Tryz
def UT(U:ag)(l:List Int):cJ U false 1 (.rp (bj l))=some (bj l):=rfl
def ai(l:List Int):(bj l).cells=[bj l]:=rfl
def al(l:List Int):(bj l).stays=true:=rfl
def iH{U:ag}{l:List Int}{i:Nat}(h:i<l.length):bN U 1 (bj l) (.int .i64 i)=some (.rp (vI l[i])):=by simp[bj,bN,h]
def fC(l:List Int):eK false (bj l)=some (.int .i64 l.length):=by simp[bj,eK]
def jO(ws:List Int)(space:Int):V:=.agg [bj ws,vI space]
def Gr(ws:List Int)(space:Int):fg false 0 1 (.rp (jO ws space))=some (.rp (bj ws)):=rfl
def GN(ws:List Int)(space:Int):fg false 1 1 (.rp (jO ws space))=some (.rp (vI space)):=rfl
def xW(ws:List Int)(space:Int):(jO ws space).cells=[bj ws,vI space]:=rfl
def wX(ws:List Int)(space:Int):(jO ws space).stays=true:=rfl
def IS(ws:List Int)(space i:Int):bc prog 201 [jO ws space,vI i] (.bool (decide (i<0\/i>=ws.length))):=λU=>by
 refine JI.r (by simp[IE]) ?_;have hs:=aa.refl U;have hn:=fC ws;apply sR;simp only[go_sem,seval,IE,jO,ai,al];refine ae λi2 Z2 s2 a2 f2=>?_;have z2:=hs.none f2;replace hs:=hs.trans s2;by_cases h:i<0
 .have q:(i<0)=True:=LH h;simp only[go_sem,seval,a2,q,ai,al];exact aE.pure hs (by simp[h])
 .have q:(i<0)=False:=Ly h;simp only[go_sem,seval,a2,q,hn,ai,al];exact aE.pure hs (by simp[h])
def fE(l:List (Nat×Int)):List (List V):=l.map λp=>[vI p.1,vI p.2]
def Bw(ws:List Int)(space:Int)(hw:WJ ws space)(i:Nat)(hi:i<ws.length):Iter prog 211 [.rp (jO ws space),.rp (vI i)] (fE (fS space (ws.drop i) i (0-space))):=by
 refine⟨Jr.c,λL9 τ Jx Z0 hy hJ=>?_⟩;refine(Jr.r (by simp[G0]) ?_).2;have OM:=hw.s0;have NI:=hw.s1;have QK:=hw.len;have hn:=fC ws;have r0:LP .i64 (0-space):=au;refine ab.mix 6 ?_;apply sR;simp only[BB,seval,<-decide_not,bk,eV,aL,cX,cV,db,da,dv,bF,gY,bl,eO,cZ,eN,cq,bZ,bK,fV,bS,bY,bQ,Mw,gW,cz,bH,kF,cK,bL,cu,cb,ie,binBV,bC,cD,V.cells,V.stays,MJ.nothing,G0,UT,Gr,GN,r0];refine ab.loop (λm st=>∃(pre:List (Nat×Int)) (j:Nat) (n:Int) (ZJ:ag),m=ws.length-j/\i<=j/\j<=ws.length/\-1099511627776<=n/\n<=2199023255552*j/\fS space (ws.drop i) i (0-space)=pre++fS space (ws.drop j) j n/\
  τ (fE pre) ZJ/\aa ZJ st.U/\st.s 0=.yl L9/\st.s 1=.rp (jO ws space)/\st.s 4=vI n/\st.s 5=vI j) (ws.length-i) ?_ ?_
 .exact⟨[],i,0-space,Z0,rfl,by omega,by omega,by omega,by omega,rfl,hJ,aa.refl _,rfl,rfl,rfl,rfl⟩
 .rintro m ⟨s,Z'⟩ ⟨pre,j,n,ZJ,rfl,Tr,hj,hn1,UE,N1,Zn,G',t0,t1,t4,t5⟩;simp only at G' t0 t1 t4 t5;refine ab.mix 6 ?_;by_cases Lr:j<ws.length
  .have q:((j:Int)<ws.length)=True:=LH;have hx:=hw.get Lr;have Lv:=λU=>iH (U:=U) Lr;rw[iY Lr,fS]at N1;generalize ws[j]=w at*;have r1:LP .i64 (space+w):=au;have r2:LP .i64 (n+(space+w)):=au;have r3:LP .i64 ((j:Int)+1):=au;have en:n+space+w=n+(space+w):=by omega
   rw[en]at N1;have e:fE (fS space (ws.drop i) i (0-space))=fE pre++[vI ((j:Int)+1),vI (n+(space+w))]::fE (fS space (ws.drop (j+1)) (j+1) (n+(space+w))):=by rw[N1];simp[fE]
   apply sR;simp only[BB,seval,<-decide_not,bk,eV,aL,cX,cV,db,da,dv,bF,gY,bl,eO,cZ,eN,cq,bZ,bK,fV,bS,bY,bQ,Mw,gW,cz,bH,kF,cK,bL,cu,cb,ie,binBV,bC,cD,V.cells,V.stays,MJ.nothing,t0,t1,t4,t5,hn,q,UT,Gr,GN,Lv,r1,r2,r3];refine ab.oK (Post:=λb Z2=>∃L',bB ZJ Z' L' Z2/\((b=true/\τ (fE pre++[[vI ((j:Int)+1),vI (n+(space+w))]]) L')\/(b=false/\Jx (fE pre++[[vI ((j:Int)+1),vI (n+(space+w))]]) L'))) rfl rfl rfl (hy _ _ _ ZJ Z' e Zn G') ?_;rintro b Z2 ⟨L',Nv,Nh⟩;rcases Nh with⟨rfl,Nh⟩|⟨rfl,Nh⟩
   .apply sR;simp only[go_sem,seval,t0,t1,t4,t5,r3];refine⟨_,?_,pre++[(j+1,n+(space+w))],j+1,n+(space+w),L',rfl,by omega,by omega,by omega,by omega,by rw[N1];simp,?_,Nv.1,by simp[t0,t1]⟩
    .omega
    .simpa[fE]using Nh
   .apply sR;simp only[go_sem,seval,t0,t1,t4,t5];refine⟨_,L',Nv.1,Wk.refl Nv.1 _,.inr ⟨_,?_,Nh⟩⟩;rw[e];exact⟨fE (fS space (ws.drop (j+1)) (j+1) (n+(space+w))),by simp⟩
  .have q:((j:Int)<ws.length)=False:=Ly;apply sR;simp only[BB,seval,<-decide_not,bk,eV,aL,cX,cV,db,da,dv,bF,gY,bl,eO,cZ,eN,cq,bZ,bK,fV,bS,bY,bQ,Mw,gW,cz,bH,kF,cK,bL,cu,cb,ie,binBV,bC,cD,V.cells,V.stays,MJ.nothing,t0,t1,t4,t5,hn,q,UT,Gr,GN];rw[show ws.drop j=[]from List.drop_of_length_le (by omega),fS,kC]at N1;exact⟨_,ZJ,G',Wk.refl G' _,.inl (by rw[N1];exact Zn)⟩
def Ir(ws:List Int)(space:Int)(i:Int):bc prog 202 [jO ws space,vI i] (.fn 211 [.rp (jO ws space),.rp (vI i)]):=λU=>by
 refine KZ.r (by simp[Ha]) ?_;refine ab.mix 4 ?_;have q1:=xW ws space;have q2:=wX ws space;have q3:(jO ws space).cells.length=2:=rfl;generalize hx:jO ws space=x at*;apply sR;simp only[go_sem,seval,Ha,q1,q2,q3];refine ae λOv Z1 s1 a1 f1=>?_;simp only[go_sem,seval];refine ae λPC Z2 s2 a2 f2=>?_;simp only[go_sem,seval];exact⟨_,U,s1.trans s2,Wk.fn (vs':=[.rp x,.rp (vI i)]) ⟨Wk.ptr (s1.trans s2) (s2 _ _ a1) f1,Wk.ptr (s1.trans s2) a2 (s1.none f2),trivial⟩,rfl,rfl⟩
open Go.Proofs Go.Proofs.Tryz
def tN(i j n:Int):V:=.agg [vI i,vI j,vI n]
structure TkJ(ws:List Int)(space width:Int)(i:Nat)(U:ag)(Rs Ua Vs id10:Nat)(pre:List (List V))(v:V)(ZJ:ag):Prop where
 sub:aa U ZJ
 r8:ZJ Vs=some ⟨293,3,[.agg [vI 0,vI 0,vI 0]]⟩
 r6:ZJ Rs=some ⟨3,1,[vI width]⟩
 r7:ZJ Ua=some ⟨3,1,[vI i]⟩
 Qo:ZJ id10=some ⟨293,3,[v]⟩
 st:(pre=[]/\v=.agg [vI 0,vI 0,vI 0])\/∃n:Int,0<pre.length/\i+pre.length<=ws.length/\fE (fS space (ws.drop i) i (0-space))=pre++fE (fS space (ws.drop (i+pre.length)) (i+pre.length) n)/\
  j0 ws space width i=ov space width (ws.drop (i+pre.length)) (i+pre.length) n/\v=.agg [vI i,vI (i+pre.length:Nat),vI n]
def ER(ws:List Int)(space width:Int)(hw:WJ ws space)(i:Nat)(hi:i<ws.length):bc prog 182 [bj ws,vI space,vI width,vI i] (tN i (j0 ws space width i).1 (j0 ws space width i).2):=λU=>by
 refine JB.r (by simp[Gv]) ?_;have hs:=aa.refl U;have QK:=hw.len;refine ab.mix 13 ?_;apply sR;simp only[go_sem,seval,Gv];refine ae λi6 Z6 s6 a6 f6=>?_;have z6:=hs.none f6;replace hs:=hs.trans s6;simp only[go_sem,seval,a6,ai,al];refine ae λi7 Z7 s7 a7 f7=>?_;have Pc:=ao a6 f7;replace a6:=s7 _ _ a6;have z7:=hs.none f7;replace hs:=hs.trans s7;simp only[go_sem,seval,a7,a6,ai,al];refine ae λi8 Z8 s8 a8 f8=>?_;have WK:=ao a6 f8;replace a6:=s8 _ _ a6;have RY:=ao a7 f8;replace a7:=s8 _ _ a7;have z8:=hs.none f8;replace hs:=hs.trans s8;simp only[go_sem,seval,a8,a7,a6,ai,al];refine ae λi9 Z9 s9 a9 f9=>?_;have UN:=ao a6 f9;replace a6:=s9 _ _ a6;have Qm:=ao a7 f9;replace a7:=s9 _ _ a7;have WD:=ao a8 f9;replace a8:=s9 _ _ a8;have z9:=hs.none f9;replace hs:=hs.trans s9;simp only[go_sem,seval,a9,a8,a7,a6,ai,al,ad UN,ad Qm,ad WD];generalize MC:E' _ i9 _=Y9;replace a9:=(congrFun MC i9).symm.trans ak;replace a6:=((congrFun MC i6).symm.trans (ad UN)).trans a6;replace a7:=((congrFun MC i7).symm.trans (ad Qm)).trans a7;replace a8:=((congrFun MC i8).symm.trans (ad WD)).trans a8;replace hs:=Eq.subst (motive:=aa _) MC (hs.aG z9);clear MC;have hf:=IS ws space i;rw[show decide ((i:Int)<0\/(i:Int)>=ws.length)=false by simp;omega]at hf;refine ab.aC rfl rfl rfl (hf _) ?_;apply sR;simp only[go_sem,seval,a9,a8,a7,a6];refine ae λMa Q4 M0 LG f10=>?_;have UU:=ao a6 f10;replace a6:=M0 _ _ a6;have PA:=ao a7 f10;replace a7:=M0 _ _ a7;have UW:=ao a8 f10;replace a8:=M0 _ _ a8;have Qa:=ao a9 f10;replace a9:=M0 _ _ a9;have Ol:=hs.none f10;replace hs:=hs.trans M0;simp only[go_sem,seval,LG,a9,a8,a7,a6];refine ab.aC rfl rfl rfl (Ir ws space i _) ?_;apply sR;simp only[go_sem,seval,LG,a9,a8,a7,a6];generalize hS:mix 13 _ _=S;have S6:S 6=.ptr i6 0 0:=by rw[<-hS];rfl
 have S7:S 7=.ptr i7 0 0:=by rw[<-hS];rfl
 have S8:S 8=.ptr i8 0 0:=by rw[<-hS];rfl
 have S10:S 10=.ptr Ma 0 0:=by rw[<-hS];rfl
 have S22:S 22=.fn 211 [.rp (jO ws space),.rp (vI i)]:=by rw[<-hS];rfl
 clear hS;have Ql:=Bw ws space hw i hi;have hdr:ws.drop i=ws[i]::ws.drop (i+1):=iY hi;have Qu:ws.getD i 0=ws[i]:=by simp[hi]
 have hxi:=hw.get hi;have fin:∀(J:ag) (w:V),aa U J->J i8=some ⟨293,3,[.agg [vI 0,vI 0,vI 0]]⟩->J Ma=some ⟨293,3,[tN i (j0 ws space width i).1 (j0 ws space width i).2]⟩->
  ab prog 39 [It.code (.seq (.Oz false [⟨some 38,.load true 3 (.t 10),none⟩,⟨none,.store 3 (.t 8) (.t 38),none⟩]) .ret)] ⟨S,J⟩ (λst=>O8 [VR.cell true 3 (VX.t 8)] st λr Z'=>r=tN i (j0 ws space width i).1 (j0 ws space width i).2/\Z'=U):=by
  intro J w h1 h2 h3;refine ab.mix 13 ?_;rw[tN]at h3;apply sR;simp only[go_sem,seval,S8,S10,h2,h3];exact aE.pure (h1.aG z8) rfl
 refine ab.fK (g:=.t 22) (caps:=[.rp (jO ws space),.rp (vI i)]) S22 Ql (λx hx=>?_) [0] (λpre ZJ=>∃v,TkJ ws space width i U i6 i7 i8 Ma pre v ZJ)
  (λe pre ZJ=>e=some 0/\aa U ZJ/\ZJ i8=some ⟨293,3,[.agg [vI 0,vI 0,vI 0]]⟩/\ZJ Ma=some ⟨293,3,[tN i (j0 ws space width i).1 (j0 ws space width i).2]⟩) ?_ ?_ ?_ ?_ ?_
 .obtain⟨t,_,rfl⟩:=gO.1 hx;rfl
 .exact⟨_,hs,a8,a6,a7,LG,.inl ⟨rfl,rfl⟩⟩
 .rintro pre x post ZJ ZB N1 ⟨v,τ⟩ G';have b6:=G' _ _ τ.r6;have b7:=G' _ _ τ.r7;have b8:=G' _ _ τ.r8;have Sn:=G' _ _ τ.Qo;rcases τ.st with⟨rfl,rfl⟩|⟨n,hp,Qi,hr,Mv,rfl⟩
  .obtain rfl:x=[vI ((i:Int)+1),vI ws[i]]:=by
    rw[hdr]at N1;simp only[fS,fE,fb,nE,List.cons.injEq]at N1;rw[<-N1.1];simp only[Int.sub_add_cancel,Int.zero_add];rw[show((i+1:Nat):Int)=(i:Int)+1 by omega]
   refine ab.mix 13 ?_;generalize NN:nj S [23,24] _=S0;have T6:S0 6=.ptr i6 0 0:=by rw[<-NN];exact S6
   have T7:S0 7=.ptr i7 0 0:=by rw[<-NN];exact S7
   have VB:S0 10=.ptr Ma 0 0:=by rw[<-NN];exact S10
   have XN:S0 23=vI ((i:Int)+1):=by rw[<-NN];rfl
   have XO:S0 24=vI ws[i]:=by rw[<-NN];rfl
   clear NN;have r1:LP .i64 ((i:Int)+1):=au;have q:((i:Int)+1>(i:Int)+1)=False:=Ly;apply sR;simp only[go_sem,seval,T6,T7,VB,XN,XO];apply sR;simp only[go_sem,seval,T6,T7,VB,XN,XO,b6,b7,Sn,r1,q];refine⟨_,(bB.refl G').set τ.Qo,_,τ.sub.aG Ol,by rw[ad UW];exact τ.r8,by rw[ad UU];exact τ.r6,by rw[ad PA];exact τ.r7,ak,.inr ⟨ws[i],by simp,by simp;omega,?_,?_,?_⟩⟩
   .rw[hdr,fS];simp only[Int.sub_add_cancel,Int.zero_add,fE,fb,nE,MM,List.length_nil,List.cons_append];rw[show((i+1:Nat):Int)=(i:Int)+1 by omega]
   .unfold j0;rw[Qu];rfl
   .simp
  .have Lr:i+pre.length<ws.length:=by
    rcases Nat.lt_or_ge (i+pre.length) ws.length with h|h
    .exact h
    .exfalso;rw[List.drop_of_length_le h]at hr;rw[hr]at N1;have:=congrArg List.length N1;simp[fS,fE]at this
   have RB:ws.drop (i+pre.length)=ws[i+pre.length]::ws.drop (i+pre.length+1):=iY Lr;obtain rfl:x=[vI ((i:Int)+pre.length+1),vI (n+space+ws[i+pre.length])]:=by
    rw[hr,RB]at N1;have h2:=List.append_cancel_left N1;simp only[fS,fE,fb,List.cons.injEq]at h2;rw[<-h2.1];rw[show((i+pre.length+1:Nat):Int)=(i:Int)+pre.length+1 by omega]
   rw[RB,ov]at Mv;refine ab.mix 13 ?_;generalize NN:nj S [23,24] _=S0;have T6:S0 6=.ptr i6 0 0:=by rw[<-NN];exact S6
   have T7:S0 7=.ptr i7 0 0:=by rw[<-NN];exact S7
   have VB:S0 10=.ptr Ma 0 0:=by rw[<-NN];exact S10
   have XN:S0 23=vI ((i:Int)+pre.length+1):=by rw[<-NN];rfl
   have XO:S0 24=vI (n+space+ws[i+pre.length]):=by rw[<-NN];rfl
   clear NN;have r1:LP .i64 ((i:Int)+1):=au;have q:((i:Int)+pre.length+1>(i:Int)+1)=True:=LH;apply sR;simp only[go_sem,seval,T6,T7,VB,XN,XO];by_cases OT:n+space+ws[i+pre.length]>width
   .have q2:(n+space+ws[i+pre.length]>width)=True:=LH OT;rw[aI OT]at Mv;apply sR;simp only[go_sem,seval,T6,T7,VB,XN,XO,b6,b7,Sn,r1,q,q2];refine⟨_,bB.refl G',τ.sub,τ.r8,?_⟩;rw[τ.Qo,Mv];rfl
   .have q2:(n+space+ws[i+pre.length]>width)=False:=Ly OT;rw[aJ OT]at Mv;apply sR;simp only[go_sem,seval,T6,T7,VB,XN,XO,b6,b7,Sn,r1,q,q2];have WL:(pre++[[vI ((i:Int)+pre.length+1),vI (n+space+ws[i+pre.length])]]).length=pre.length+1:=by simp
    refine⟨_,(bB.refl G').set τ.Qo,_,τ.sub.aG Ol,by rw[ad UW];exact τ.r8,by rw[ad UU];exact τ.r6,by rw[ad PA];exact τ.r7,ak,.inr ⟨n+space+ws[i+pre.length],by omega,by omega,?_,?_,?_⟩⟩
    .rw[hr,RB,WL,fS];simp only[fE,fb,lU,List.cons_append,nE];rw[show((i+pre.length+1:Nat):Int)=(i:Int)+pre.length+1 by omega];rfl
    .rw[WL];exact Mv
    .rw[WL,show((i+(pre.length+1):Nat):Int)=(i:Int)+pre.length+1 by omega]
 .rintro Z' ⟨v,τ⟩;rcases τ.st with⟨h0,rfl⟩|⟨n,hp,Qi,hr,Mv,rfl⟩
  .exfalso;rw[hdr]at h0;simp[fS,fE]at h0
  .have he:fE (fS space (ws.drop (i+(fE (fS space (ws.drop i) i (0-space))).length)) (i+(fE (fS space (ws.drop i) i (0-space))).length) n)=[]:=by
    have:=congrArg List.length hr;rw[kf]at this;exact rE (by omega)
   generalize (fE (fS space (ws.drop i) i (0-space))).length=p at*;have hd:ws.drop (i+p)=[]:=by
    cases h:ws.drop (i+p)with
    |nil=>rfl
    |cons a b=>rw[h]at he;simp[fS,fE]at he
   rw[hd,ov]at Mv;refine ab.inBlock (fin Z' .bz τ.sub τ.r8 ?_);rw[τ.Qo,Mv];rfl
 .intro id Ls pre Z' _ ⟨h0,h1,h2,h3⟩;obtain rfl:id=0:=by simpa using Ls
  refine ab.exit rfl ?_;exact fin Z' .bz h1 h2 h3
 .rintro pre Z' _ ⟨h0,_⟩;cases h0
open Go.Proofs Go.Proofs.Tryz
def rF(p:Pn)(n:Int):Pn:=⟨if n>0 then p.y+p.m+n else p.y,if n>0 then 0 else p.m⟩
def eG(p:Pn)(mg n:Int):Pn:=rF ⟨p.y,max p.m mg⟩ n
def kQ(p:Pn)(mg n:Int):Pn:=⟨(rF p n).y,max (rF p n).m mg⟩
def Aw(p:Pn)(mg n:Int)(h1:Bq p.y)(h2:Bq p.m)(h3:Bq mg)(h4:Bq n):bc prog 138 [gn p,vI mg,vI n] (gn (eG p mg n)):=λU=>by
 refine K9.r (by simp[Iz]) ?_;have hs:=aa.refl U;refine ab.mix 10 ?_;apply sR;simp only[go_sem,seval,Iz,gn];refine ae λi3 Z3 s3 a3 f3=>?_;have z3:=hs.none f3;replace hs:=hs.trans s3;simp only[go_sem,seval,a3];refine ae λi6 Z6 s6 a6 f6=>?_;have n36:=ao a3 f6;replace a3:=s6 _ _ a3;have z6:=hs.none f6;replace hs:=hs.trans s6;simp only[go_sem,seval,a6,a3];refine ae λi7 Z7 s7 a7 f7=>?_;have Ts:=ao a3 f7;replace a3:=s7 _ _ a3;have Pc:=ao a6 f7;replace a6:=s7 _ _ a6;have z7:=hs.none f7;replace hs:=hs.trans s7;simp only[go_sem,seval,a7,a6,a3,ad Ts,ad Pc];generalize RC:E' _ i7 _=Y7;replace a7:=(congrFun RC i7).symm.trans ak;replace a3:=((congrFun RC i3).symm.trans (ad Ts)).trans a3;replace a6:=((congrFun RC i6).symm.trans (ad Pc)).trans a6;replace hs:=Eq.subst (motive:=aa _) RC (hs.aG z7);clear RC;refine ab.call rfl rfl rfl (zF p.y p.m mg a7) ?_;rintro r Z1 ⟨rfl,rfl⟩;apply sR;simp only[go_sem,seval];have hm:Bq (max p.m mg):=by obtain⟨g1,g2⟩:=h2;obtain⟨g3,g4⟩:=h3;exact⟨by omega,by omega⟩
 refine ab.call rfl rfl rfl (FE p.y (max p.m mg) n h1 hm h4 ak) ?_;rintro r Z2 ⟨rfl,rfl⟩;apply sR;simp only[go_sem,seval,a6,ad Pc,ad Pc.symm];exact aE.pure ((hs.aG z7).aG z6) rfl
def Ai(p:Pn)(mg n:Int)(h1:Bq p.y)(h2:Bq p.m)(h3:Bq mg)(h4:Bq n):bc prog 139 [gn p,vI mg,vI n] (gn (kQ p mg n)):=λU=>by
 refine Lo.r (by simp[G8]) ?_;have hs:=aa.refl U;refine ab.mix 10 ?_;apply sR;simp only[go_sem,seval,G8,gn];refine ae λi3 Z3 s3 a3 f3=>?_;have z3:=hs.none f3;replace hs:=hs.trans s3;simp only[go_sem,seval,a3];refine ae λi6 Z6 s6 a6 f6=>?_;have n36:=ao a3 f6;replace a3:=s6 _ _ a3;have z6:=hs.none f6;replace hs:=hs.trans s6;simp only[go_sem,seval,a6,a3];refine ae λi7 Z7 s7 a7 f7=>?_;have Ts:=ao a3 f7;replace a3:=s7 _ _ a3;have Pc:=ao a6 f7;replace a6:=s7 _ _ a6;have z7:=hs.none f7;replace hs:=hs.trans s7;simp only[go_sem,seval,a7,a6,a3,ad Ts,ad Pc];generalize RC:E' _ i7 _=Y7;replace a7:=(congrFun RC i7).symm.trans ak;replace a3:=((congrFun RC i3).symm.trans (ad Ts)).trans a3;replace a6:=((congrFun RC i6).symm.trans (ad Pc)).trans a6;replace hs:=Eq.subst (motive:=aa _) RC (hs.aG z7);clear RC;refine ab.call rfl rfl rfl (FE p.y p.m n h1 h2 h4 a7) ?_;rintro r Z1 ⟨rfl,rfl⟩;apply sR;simp only[go_sem,seval];refine ab.call rfl rfl rfl (zF _ _ mg ak) ?_;rintro r Z2 ⟨rfl,rfl⟩;apply sR;simp only[go_sem,seval,a6,ad Pc,ad Pc.symm];exact aE.pure ((hs.aG z7).aG z6) rfl
structure Ln where
 (fr to x y w:Int)
deriving DecidableEq
def l7(l:Ln):V:=.agg [vI l.fr,vI l.to,vI l.x,vI l.y,vI l.w]
def mH(fs:List LV)(ws:List Int)(space high:Int)(i:Nat)(y:Int)(s:Mr):Ln:=
 let Mf:=ki fs (ws.getD i 0) high s y
 let b:=ec fs Mf high s
 let t:=j0 ws space (jx b) i
 ⟨i,t.1,b.a,Mf,t.2⟩
def E3(fs:List LV)(ws:List Int)(space high:Int)(i:Nat)(y:Int)(s:Mr)(hl:fs.length<=1000000)(LS:∀f∈fs,f.ok)(hy:M1 y)(hh:Bq high)(NI:M1 s.a/\M1 s.b)(hw:WJ ws space)(hi:i<ws.length):
 bc prog 161 [bo fs,bj ws,vI space,vI high,vI i,vI y,aZ s] (l7 (mH fs ws space high i y s)):=λU=>by
 refine JW.r (by simp[Gf]) ?_;have hs:=aa.refl U;have hn:=fC ws;have Lv:=λU=>iH (U:=U) hi;have q0:((i:Int)<0)=False:=Ly;have q1:((i:Int)>=ws.length)=False:=Ly;refine ab.mix 18 ?_;apply sR;simp only[go_sem,seval,Gf,aZ];refine ae λSE Y13 Ui NJ f13=>?_;have z13:=hs.none f13;replace hs:=hs.trans Ui;simp only[go_sem,seval,NJ];refine ae λi14 Z14 XP OV f14=>?_;have n1314:=ao NJ f14;replace NJ:=XP _ _ NJ;have z14:=hs.none f14;replace hs:=hs.trans XP;simp only[go_sem,seval,OV,NJ,hn,Lv,q0,q1];have Qu:ws.getD i 0=ws[i]:=by simp[hi]
 obtain⟨Mf,Ow⟩:∃a,a=ki fs ws[i] high s y:=⟨_,rfl⟩
 have Sz:=DQ fs ws[i] high y s hl LS hy hh NI;rw[<-Ow]at Sz;have Uj:=lK (y:=Mf) (high:=high) LS NI;unfold mH;rw[Qu];simp only;rw[<-Ow];obtain⟨b,hb⟩:∃b,b=ec fs Mf high s:=⟨_,rfl⟩
 rw[<-hb]at Sz Uj|-;refine Go.cN rfl rfl rfl Sz ?_;apply sG;simp only[go_sem,seval,aZ];refine bG λQd XQ PD NK f15=>?_;have Tt:=ao NJ f15;replace NJ:=PD _ _ NJ;have Zo:=ao OV f15;replace OV:=PD _ _ OV;have VC:=hs.none f15;replace hs:=hs.trans PD;simp only[go_sem,seval,NK,OV,NJ,aZ];generalize MK:E' _ Qd _=XR;replace NK:=(congrFun MK Qd).symm.trans ak;replace NJ:=((congrFun MK SE).symm.trans (ad Tt)).trans NJ;replace OV:=((congrFun MK i14).symm.trans (ad Zo)).trans OV;replace hs:=Eq.subst (motive:=aa _) MK (hs.aG VC);clear MK;refine ab.aC rfl rfl rfl (BW b Uj.1 Uj.2 _) ?_;apply sR;simp only[go_sem,seval];refine ab.aC rfl rfl rfl (ER ws space (jx b) hw i hi _) ?_;apply sR;simp only[go_sem,seval,tN];refine ae λi17 Z17 UX YX f17=>?_;have Zp:=ao NJ f17;replace NJ:=UX _ _ NJ;have Zq:=ao OV f17;replace OV:=UX _ _ OV;have Zr:=ao NK f17;replace NK:=UX _ _ NK;have z17:=hs.none f17;replace hs:=hs.trans UX;simp only[go_sem,seval,YX,NK,OV,ad Zp,ad Zq,ad Zr];exact aE.pure ((hs.aG z17).aG z14) rfl
open Go.Proofs Go.Proofs.Tryz
def aQ.AM{K ZJ Z1:ag}{e sz:Nat}{v:V}{rows:List V}(h:aQ K ZJ e sz v rows)(hs:aa ZJ Z1):
 ∃LQ,de Z1 e sz v=some (rows,LQ)/\(∀K':ag,aa K' K->∀Z2,aa K' Z2->aa K' (Vc.bT Z2 LQ))/\(∀i o,ZJ i=some o->(o.elem≠e\/o.sz≠sz)->∀Z2:ag,Vc.bT Z2 LQ i=Z2 i)/\(∀i,ZJ i=none->∀Z2:ag,Vc.bT Z2 LQ i=Z2 i):=by
 rcases h with⟨rfl,rfl⟩|⟨id,rfl,ho,hk⟩
 .exact⟨none,rfl,λ_ _ _ h=>h,λ_ _ _ _ _=>rfl,λ_ _ _=>rfl⟩
 .refine⟨some id,?_,λK' hK Z2 h=>h.Ci (hK.none hk),λi o hi LR Z2=>?_,λi hi Z2=>?_⟩
  .simp only[de,hs _ _ ho];rw[aI ⟨trivial,trivial,trivial,Md _⟩,kP]
  .refine eT λe'=>?_;subst e';rw[ho]at hi;injection hi with hi;subst hi;rcases LR with h|h<;>exact h rfl
  .refine eT λe'=>?_;subst e';rw[ho]at hi;cases hi
def qi{l:List LV}{w high B:Int}{s:Mr}(hB:∀f∈l,f.y+f.h<=B):∀(k:Nat) (y:Int),y<=nW l w high s k y/\nW l w high s k y<=max y B
 |0,y=>by simp only[nW];omega
 |k+1,y=>by
  rw[nW];split
  .omega
  .rename_i hf;have LR:ec l y high s≠s:=λe=>hf (by simp[ui,e]);obtain⟨f,hm,h1,h2⟩:=iy (nv LR);have:=qi hB k (fU l y high s).1 (w:=w) (high:=high) (s:=s);have:=hB f hm;omega
def fH{l:List LV}{w high B y:Int}{s:Mr}(hB:∀f∈l,f.y+f.h<=B):y<=ki l w high s y/\ki l w high s y<=max y B:=qi hB _ _
def dM(fs:List LV)(ws:List Int)(space high:Int)(s:Mr):Nat->Nat->Int->List Ln
 |0,_,_=>[]
 |k+1,i,y=>if i<ws.length then mH fs ws space high i y s::dM fs ws space high s k (mH fs ws space high i y s).to.toNat ((mH fs ws space high i y s).y+high)else[]
def jg(fs:List LV)(ws:List Int)(space high:Int)(s:Mr):∀(k i:Nat) (y:Int),(dM fs ws space high s k i y).length<=k
 |0,_,_=>by simp[dM]
 |k+1,i,y=>by
  rw[dM];split
  .have:=jg fs ws space high s k (mH fs ws space high i y s).to.toNat ((mH fs ws space high i y s).y+high);simp only[MM];omega
  .simp
def xz(l:Ln):(l7 l).cells=[vI l.fr,vI l.to,vI l.x,vI l.y,vI l.w]:=rfl
def vW(l:Ln):(l7 l).stays=true:=rfl
def pe(l:List Ln):V:=.sl 5 (l.map l7)
variable {P:Program} {n:Nat} {st:St} {Q:St->Prop} {k:List It}
def mX(D:List (List Nat))(S:List Nat)(s:Nat):List (List Nat):=(List.range D.length).map λi=>if S.contains i&&!(i==s)then s::D.getD i []else D.getD i []
def wV{D:List (List Nat)}{S:List Nat}{s:Nat}:(mX D S s).length=D.length:=by simp[mX]
def yr{D:List (List Nat)}{S:List Nat}{s i:Nat}:(mX D S s).getD i []=if i<D.length/\i∈S/\i≠s then s::D.getD i []else D.getD i []:=by
 unfold mX;rw[yi,tq];by_cases hi:i<D.length
 .rw[List.getElem?_range hi];by_cases hs:i∈S
  .by_cases he:i=s
   .simp[he]
   .simp[hi,hs,he]
  .simp[hs]
 .have h1:(List.range D.length)[i]?=none:=qv (by simpa using hi);rw[h1,aJ (λh=>hi h.1)];simp[qv (show D.length<=i by omega)]
def wQ{D:List (List Nat)}{S:List Nat}{s i:Nat}(h:i∉S\/i=s):(mX D S s).getD i []=D.getD i []:=by
 rw[yr,aJ];rintro⟨_,h1,h2⟩;exact h.elim (λh=>h h1) h2
def pR{D:List (List Nat)}{S:List Nat}{s:Nat}{L:List Nat}(hp:s∈L):dX (mX D S s) L=dX D L:=by
 unfold dX;rw[wV];refine List.filter_congr λi hi=>?_;rw[yr];split
 .simp[hp]
 .rfl
def sh{l:List aK}{D:List (List Nat)}{S:List Nat}{s:Nat}{K:St->Prop}:∀(f:Nat) (L:List Nat) (y:St),s∈L->gQ P l (mX D S s) K f L y->gQ P l D K f L y
 |0,L,y,hp,h=>⟨by rw[<-pR hp];exact h.1,h.2⟩
 |f+1,L,y,hp,h=>by
  unfold gQ at h|-;rw[pR hp]at h;cases hr:dX D L with
  |nil=>rw[hr]at h;exact h
  |cons a r=>
   rw[hr]at h;refine nL λi hi=>?_;obtain⟨ins,h1,h2⟩:=me h i hi;exact⟨ins,h1,TC.mono (λx hx=>sh f _ x (by simp[hp]) hx) h2⟩
def tI{l:List aK}{K:St->Prop}{b:List Nat}:∀{a:List Nat},RE P l K (a++b)=RE P l (RE P l K b) a
 |[]=>rfl
 |m::a=>by
  funext x;rw[List.cons_append,RE,RE,tI]
def mG{l:List aK}{LJ:List (List Nat)}{b:List Nat}:∀{a done:List Nat},eC l LJ done (a++b)=eC l LJ done a++eC l LJ (done++a) b
 |[],done=>by simp[eC]
 |e::a,done=>by
  rw[List.cons_append,eC,eC,mG];simp
def RE.mono{l:List aK}{K K':St->Prop}(hk:∀x,K x->K' x):∀{a:List Nat} {x:St},RE P l K a x->RE P l K' a x
 |[],x,h=>hk x h
 |m::a,x,h=>by
  rw[RE]at h|-;cases hm:l[m/2]? with
  |none=>rw[hm]at h;exact h.elim
  |some i=>
   rw[hm]at h;simp only at h|-;split at h<;>rename_i he
   .rw[aI he];exact TC.mono (λx hx=>RE.mono hk hx) h
   .rw[aJ he];exact⟨h.1,RE.mono hk h.2⟩
structure FN(l:List aK)(D LJ:List (List Nat))(pre tail S:List Nat)(UY:Nat->List (List Nat)):Prop where
 e:EOkW l D LJ (pre++tail)
 M8:∀a b x y,pre++tail=a++b->x∈a->y∈b->x∈pre->dD l LJ x=true->x∈eR LJ y
 sub:∀s∈S,s∈tail
 some:∃s,s∈S
 later:∀i∈tail,i∉S->∃s∈S,s∈eR LJ i
 agree:∀s∈S,∀i∈pre,dD l (UY s) i=dD l LJ i
section
variable {l:List aK} {D LJ:List (List Nat)} {pre tail S:List Nat} {UY:Nat->List (List Nat)} {K:St->Prop} {Ks:Nat->St->Prop} (hF:FN l D LJ pre tail S UY)
include hF
def ju.I1{L:List Nat}{y:St}:∀{rest done:List Nat} {x:St},ju P l D LJ pre K L y done rest x->
 ∃To QH x',ju P l D LJ pre K L y To QH x'/\∀h r,QH=h::r->dD l LJ h=true
 |[],done,x,h=>⟨done,[],x,h,by simp⟩
 |e::rest,done,x,h=>by
  have hE:=hF.e;cases NR:dD l LJ e with
  |true=>exact⟨done,e::rest,x,h,λa r he=>by cases he;exact NR⟩
  |false=>
   have OL:e<l.length:=hE.lt e (by rw[h.split];simp);obtain⟨hk,Tp⟩:=gr NR OL (hE.mc OL);have MS:=(List.nodup_append.1 hE.nodup).1;rw[h.split]at MS;have Zl:e∉done:=λhm=>(List.nodup_append.1 MS).2.2 e hm e (by simp) rfl;have Rx:e∉L:=λhm=>Zl (h.sub e hm);have M7:=h.go;rw[eC,zG OL,AX,aJ (by simp[NR]),nE]at M7;have hT:T P (bn l e) x (RE P l K (eC l LJ (done++[e]) rest)):=by
    rcases M7 with M7|⟨_,M7⟩
    .exact M7
    .exfalso;revert M7 hk;generalize (bn l e).op=op;intro hk M7;split at M7
     .simp[bk]at hk
     .simp[bk]at hk
     .simp[bk]at hk
     .exact M7
   obtain⟨v,hv,Ry⟩:=(cp (by simp[fo,hk])).1 hT;refine ju.I1 (rest:=rest) (done:=done++[e]) (x:=⟨aU x.s (bn l e).dst v,x.U⟩) ⟨by rw[h.split];simp,λi hi=>by simp[h.sub i hi],h.nodup,h.closed,λi hi Ni=>?_,h.store,λd hd=>?_,λi hi OG=>?_,Ry⟩
   .rcases fq.1 hi with hi|hi
    .exact h.M8 i hi Ni
    .simp only[jI]at hi;rw[hi,NR]at Ni;cases Ni
   .have h1:=h.slot d λi hi OG=>hd i (by simp[hi]) OG;have h2:=hd e (by simp) Rx;rw[h1];simp only;cases Rw:(bn l e).dst with
    |none=>rfl
    |some d'=>
     rw[Rw]at h2;simp only[aU];rw[aJ (λe'=>h2 (by rw[e']))]
   .by_cases Ni:i=e
    .subst Ni;unfold SD;cases hd:(bn l i).dst with
     |none=>exact⟨v,hv⟩
     |some d=>
      simp only;have e1:aU x.s (some d) v d=v:=by simp[aU]
      rw[e1];exact(fG (λt ht=>by cases ht;exact Tp d hd)).2 hv
    .have Ls:i∈done:=by
      rcases fq.1 hi with hi|hi
      .exact hi
      .simp only[jI]at hi;exact absurd hi Ni
     have NS:i<l.length:=hE.lt i (by rw[h.split];simp[Ls]);refine qH hE NS OL Ni (λd hd hu=>?_) (λv hv=>hv) (h.Tm i Ls OG);rcases hE.Sk i e NS OL Ni d hd hu with h1|⟨h1,_⟩
     .obtain⟨a,b,Py⟩:=List.append_of_mem Ls;have h2:=hE.lS (a:=a) (j:=i) (b:=b++e::rest++tail) (by rw[h.split,Py];simp) e h1;exact Zl (by rw[Py];simp[h2])
     .rw[NR]at h1;cases h1
def yL(hH:∀s∈S,∀(f:Nat) (L:List Nat) (y:St) (done rest:List Nat) (x:St),f+L.length=l.length->ju P l (mX D S s) (UY s) pre (Ks s) L y done rest x->gQ P l (mX D S s) K f L y):
 ∀(f:Nat) (L:List Nat) (y:St) (done rest:List Nat) (x:St),f+L.length=l.length->(∀s∈S,s∉L)->ju P l D LJ pre (λx=>∀s∈S,Ks s x) L y done rest x->gQ P l D K f L y:=by
 have hE:=hF.e;obtain⟨s0,OM⟩:=hF.some;have Lr:∀s∈S,s<l.length:=λs hs=>hE.lt s (by simp[hF.sub s hs]);have Pu:∀s∈S,s∉pre:=λs hs hm=>(List.nodup_append.1 hE.nodup).2.2 s hm s (hF.sub s hs) rfl;intro f
 induction f with
 |zero=>
  intro L y done rest x hf WM h;exact absurd ((rI l.length L h.nodup λi hi=>hE.lt i (by rw[h.split];simp[h.sub i hi])).2 (by omega) s0 (Lr s0 OM)) (WM s0 OM)
 |succ f ih=>
  intro L y done rest x hf WM h;obtain⟨done,rest,x,h,R0⟩:=ju.I1 hF h;have MS:=(List.nodup_append.1 hE.nodup).1;rw[h.split]at MS;have hdp:∀i∈done,i∈pre:=λi hi=>by rw[h.split];simp[hi]
  have Mt:∀m∈L,∀d∈D.getD m [],d∈L:=h.closed;have hclS:∀s,∀m∈L,∀d∈(mX D S s).getD m [],d∈L:=λs m hm d hd=>by
   rw[wQ (.inl λhs=>WM m hs hm)]at hd;exact h.closed m hm d hd
  have take:rest=[]->∀s∈S,gQ P l (mX D S s) K (f+1) L y:=λhr s hs=>by
   subst hr;have hdp':pre=done:=by rw[h.split];simp
   refine hH s hs (f+1) L y done [] x hf ⟨by rw[hdp'];simp,h.sub,h.nodup,hclS s,λi hi Ni=>h.M8 i hi (by rw[<-hF.agree s hs i (hdp i hi)];exact Ni),h.store,h.slot,h.Tm,?_⟩;exact h.go s hs
  have key:so P l (gQ P l D K f) L y (dX D L):=by
   refine nL λi hi=>?_;have hi0:=hi;obtain⟨NS,OG,QI⟩:=rU hi;rw[hE.Sj]at NS;by_cases WN:i∈S
   .have hm:i∈dX (mX D S i) L:=by
     unfold dX;refine ve.2 ⟨by rw[wV,hE.Sj];simpa using NS,?_⟩;rw[wQ (.inr rfl)];exact(ve.1 hi).2
    have NP:rest=[]:=by
     cases Zk:rest with
     |nil=>rfl
     |cons a rr=>
      exfalso;have ha:=R0 a rr Zk;have VD:a∈pre:=by rw[h.split,Zk];simp
      have hb:a∈eR LJ i:=hF.M8 pre tail a i rfl VD (hF.sub i WN) VD ha;obtain⟨pa,pb,Zm⟩:=List.append_of_mem (hE.mem i NS);have haL:a∈L:=hE.closed Mt hE.mem (pa.length+1) pa i pb (by omega) Zm (λd hd=>QI d hd) a hb;rw[Zk]at MS;exact(List.nodup_append.1 MS).2.2 a (h.sub a haL) a (by simp) rfl
    have h1:=take NP i WN;unfold gQ at h1;cases hr:dX (mX D S i) L with
    |nil=>rw[hr]at hm;cases hm
    |cons a r=>
     rw[hr]at h1 hm;obtain⟨ins,g1,g2⟩:=me h1 i hm;exact⟨ins,g1,TC.mono (λx hx=>sh f _ x (by simp) hx) g2⟩
   refine⟨bn l i,by simp[bn,Oy NS],?_⟩;obtain⟨pa,pb,Zm⟩:=List.append_of_mem (hE.mem i NS);have N9:∀j∈eR LJ i,j∈L:=hE.closed Mt hE.mem (pa.length+1) pa i pb (by omega) Zm QI;have QJ:∀u∈(bn l i).kK,x.s u=y.s u:=λu hu=>(h.slot u λj hj O0 hd=>by
    have Oq:j<l.length:=hE.lt j (by simp[hdp j hj]);by_cases MZ:j=i
    .subst MZ;cases Nj:dD l LJ j with
     |true=>exact O0 (h.M8 j hj Nj)
     |false=>exact(gr Nj Oq (hE.mc Oq)).2 u hd hu
    .rcases hE.Sk i j NS Oq (λe=>MZ e.symm) u hd hu with h1|⟨h1,_⟩
     .exact O0 (N9 j h1)
     .exact O0 (h.M8 j hj h1)).symm
   by_cases Ls:i∈done
   .have Ni:dD l LJ i=false:=by
     cases Ni:dD l LJ i with
     |false=>rfl
     |true=>exact absurd (h.M8 i Ls Ni) OG
    obtain⟨hk,_⟩:=gr Ni NS (hE.mc NS);have hq:=h.Tm i Ls OG;obtain⟨v,hv,hvd⟩:∃v,QY P (bn l i) x.s x.U v/\∀d,(bn l i).dst=some d->x.s d=v:=by
     unfold SD at hq;cases hd:(bn l i).dst with
     |none=>rw[hd]at hq;obtain⟨v,hq⟩:=hq;exact⟨v,hq,by simp⟩
     |some d=>rw[hd]at hq;exact⟨_,hq,λd' e=>by cases e;rfl⟩
    refine .inl ((cp (by simp[fo,hk])).2 ⟨v,?_,?_⟩)
    .rw[h.store];exact vU QJ hv
    .refine ih (i::L) _ done rest x (by simp only[MM];omega) (λs hs hm=>(dI.1 hm).elim (λe=>WN (e▸hs)) (WM s hs)) ⟨h.split,λj hj=>?_,List.nodup_cons.2 ⟨OG,h.nodup⟩,λm hm d hd=>?_,λj hj Nj=>by simp[h.M8 j hj Nj],h.store,λd hd=>?_,λj hj O0=>h.Tm j hj (λhm=>O0 (by simp[hm])),h.go⟩
     .rcases dI.1 hj with rfl|hj
      .exact Ls
      .exact h.sub j hj
     .rcases dI.1 hm with rfl|hm
      .simp[QI d hd]
      .simp[h.closed m hm d hd]
     .simp only;by_cases Rz:(bn l i).dst=some d
      .rw[Rz];simp only[aU];rw[aI trivial];exact(hvd d Rz).symm
      .have h1:=h.slot d λj hj O0=>by
        by_cases MZ:j=i
        .rw[MZ];exact Rz
        .exact hd j hj (by simp[MZ,O0])
       rw[<-h1];cases Rw:(bn l i).dst with
       |none=>rfl
       |some d'=>
        rw[Rw]at Rz;simp only[aU];rw[aJ (λe'=>Rz (by rw[e']))]
   .have Ug:i∈rest++tail:=by
     have:=hE.mem i NS;rw[h.split,lU]at this;exact(fq.1 this).resolve_left Ls
    obtain⟨PB,rr,rfl⟩:∃a r,rest=a::r:=by
     cases rest with
     |nil=>
      exfalso;rw[nE]at Ug;obtain⟨s,hs,hsb⟩:=hF.later i Ug WN;exact WM s hs (N9 _ hsb)
     |cons a r=>exact⟨a,r,rfl⟩
    have NR:=R0 PB rr rfl;have Uh:PB∉done:=λhm=>(List.nodup_append.1 MS).2.2 PB hm PB (by simp) rfl;have hih:i=PB:=by
     rcases dI.1 (show i∈PB::(rr++tail)from Ug)with e|Ug
     .exact e
     .exfalso;have:=hF.M8 (done++[PB]) (rr++tail) PB i (by rw[h.split];simp) (by simp) Ug (by rw[h.split];simp) NR;exact Uh (h.sub _ (N9 _ this))
    subst hih;have M7:=h.go;rw[show eC l LJ done (i::rr)=2*i::(AX l LJ done i++eC l LJ (done++[i]) rr)from rfl,zG NS]at M7;refine ym QJ h.store.symm (λr Z' hK=>?_) M7;rw[AX,aI NR]at hK;obtain⟨VA,Ry⟩:=qN (λk=>!(dD l LJ k)&&(!(jL (bn l k).op)&&!((eR LJ i).contains k))) (λj hj=>hE.lt j (by simp[hdp j hj])) hK;refine ih (i::L) _ (done++[i]) rr ⟨aU x.s (bn l i).dst r,Z'⟩ (by simp only[MM];omega) (λs hs hm=>(dI.1 hm).elim (λe=>WN (e▸hs)) (WM s hs)) ⟨by rw[h.split];simp,λj hj=>?_,List.nodup_cons.2 ⟨OG,h.nodup⟩,λm hm d hd=>?_,λj hj Nj=>?_,rfl,λd hd=>?_,λj hj O0=>?_,Ry⟩
    .rcases dI.1 hj with rfl|hj
     .simp
     .simp[h.sub j hj]
    .rcases dI.1 hm with rfl|hm
     .simp[QI d hd]
     .simp[h.closed m hm d hd]
    .rcases fq.1 hj with hj|hj
     .simp[h.M8 j hj Nj]
     .simp only[jI]at hj;simp[hj]
    .have h1:(bn l i).dst=some d\/y.s d=x.s d:=by
      by_cases Rz:(bn l i).dst=some d
      .exact .inl Rz
      .exact .inr (h.slot d λj hj O0=>hd j (by simp[hj]) (by
        simp only[dI,not_or];exact⟨λe=>Ls (e▸hj),O0⟩))
     simp only;cases Rw:(bn l i).dst with
     |none=>rw[Rw]at h1;exact h1.resolve_left (by simp)
     |some d'=>
      simp only[aU];split
      .rfl
      .rename_i LR;rw[Rw]at h1;exact h1.resolve_left (λe=>LR (by cases e;rfl))
    .have Sl:j∈done:=by
      rcases fq.1 hj with hj|hj
      .exact hj
      .simp only[jI]at hj;exact absurd (by simp[hj]) O0
     have Qb:j∉L:=λhm=>O0 (by simp[hm]);have Oq:j<l.length:=hE.lt j (by simp[hdp j Sl]);have MZ:j≠i:=λe=>Ls (e▸Sl);have Nj:dD l LJ j=false:=by
      cases Nj:dD l LJ j with
      |false=>rfl
      |true=>exact absurd (h.M8 j Sl Nj) Qb
     cases WH:jL (bn l j).op with
     |true=>
      refine qH hE Oq NS MZ (λd hd hu=>?_) (λv hv=>jB WH hv) (h.Tm j Sl Qb);rcases hE.Sk j i Oq NS MZ d hd hu with h1|⟨_,h1⟩
      .obtain⟨a,b,Py⟩:=List.append_of_mem Sl;have h2:=hE.lS (a:=a) (j:=j) (b:=b++i::rr++tail) (by rw[h.split,Py];simp) i h1;exact Ls (by rw[Py];simp[h2])
      .exact Qb (N9 j h1)
     |false=>
      refine VA j Sl ?_;simp only[Nj,WH,Bool.not_false,Bool.true_and,Bool.not_eq_true'];cases hc:(eR LJ i).contains j with
      |false=>rfl
      |true=>exact absurd (N9 j (List.contains_iff_mem.1 hc)) Qb
  cases hr:dX D L with
  |cons a r=>unfold gQ;rw[hr]at key|-;exact key
  |nil=>
   exfalso;have first:∀(a b:List Nat),pre++tail=a++b->(∀j∈a,j∈L)->(∃i∈b,i∉L)->∃a' e b',pre++tail=a'++e::b'/\(∀j∈a',j∈L)/\e∉L:=by
    intro a b
    induction b generalizing a with
    |nil=>rintro _ _ ⟨i,h,_⟩;cases h
    |cons e b ihb=>
     intro he ha hx;by_cases Rx:e∈L
     .refine ihb (a++[e]) (by rw[he];simp) (λj hj=>?_) ?_
      .rcases fq.1 hj with hj|hj
       .exact ha j hj
       .simp only[jI]at hj;rw[hj];exact Rx
      .obtain⟨i,hi,OG⟩:=hx;rcases dI.1 hi with rfl|hi
       .exact absurd Rx OG
       .exact⟨i,hi,OG⟩
     .exact⟨a,e,b,he,ha,Rx⟩
   obtain⟨a,e,b,he,ha,Rx⟩:=first [] (pre++tail) rfl (by simp) ⟨s0,by simp[hF.sub s0 OM],WM s0 OM⟩
   have OL:e<l.length:=hE.lt e (by rw[he];simp);have:e∈dX D L:=by
    unfold dX;refine ve.2 ⟨by simp[hE.Sj,OL],?_⟩;simp only[Ba,Bool.not_eq_true',fa];exact⟨by simpa using Rx,λd hd=>List.contains_iff_mem.2 (ha d (hE.ahead a e b he d hd))⟩
   rw[hr]at this;cases this
end
inductive PT where
 |leaf (LJ:List (List Nat)) (r:List Nat)
 |fork (LJ:List (List Nat)) (m:List Nat) (S:List Nat) (kids:List PT)
def PT.LJ:PT->List (List Nat)
 |.leaf b _=>b
 |.fork b _ _ _=>b
def PT.ord:Nat->PT->List Nat
 |0,_=>[]
 |f+1,t=>match t with
  |.leaf _ r=>r
  |.fork _ m _ kids=>m++(match kids with
   |k::_=>PT.ord f k
   |[]=>[])
def Aq(g:Nat->PT->Bool):List Nat->List PT->Bool
 |[],[]=>true
 |s::ss,t::ts=>g s t&&Aq g ss ts
 |_,_=>false
def rJ{g:Nat->PT->Bool}:∀{S:List Nat} {ts:List PT},Aq g S ts=true->∀s∈S,∃t∈ts,g s t=true
 |[],[],_,s,hs=>by cases hs
 |a::S,t::ts,h,s,hs=>by
  simp only[Aq,Ba]at h;rcases dI.1 hs with rfl|hs
  .exact⟨t,by simp,h.1⟩
  .obtain⟨t',h1,h2⟩:=rJ h.2 s hs;exact⟨t',by simp[h1],h2⟩
def FT(l:List aK)(D LJ:List (List Nat))(pre tail S:List Nat):Bool:=
 Ej l D LJ (pre++tail)&&(lH (λa b=>!(pre.contains a)||(!(dD l LJ a)||(eR LJ b).contains a)) (pre++tail)&&
 (S.all tail.contains&&(!S.isEmpty&&tail.all λi=>S.contains i||S.any λs=>(eR LJ i).contains s)))
def B6(l:List aK):Nat->List (List Nat)->List Nat->PT->Bool
 |0,_,_,_=>false
 |f+1,D,pre,t=>match t with
  |.leaf LJ r=>eOk l D LJ (pre++r)
  |.fork LJ m S kids=>FT l D LJ (pre++m) (match kids with
    |k::_=>PT.ord f k
    |[]=>[]) S&&Aq (λs k=>((pre++m).all λi=>dD l k.LJ i==dD l LJ i)&&B6 l f (mX D S s) (pre++m) k) S kids
def GT(P:Program)(l:List aK)(K:St->Prop):Nat->List Nat->PT->St->Prop
 |0,_,_,_=>False
 |f+1,pre,t,x=>match t with
  |.leaf LJ r=>RE P l K (eC l LJ pre r) x
  |.fork LJ m _ kids=>RE P l (λx=>∀k∈kids,GT P l K f (pre++m) k x) (eC l LJ pre m) x
def ju.more{l:List aK}{D LJ:List (List Nat)}{pre m:List Nat}{K:St->Prop}{L:List Nat}{y:St}{done rest:List Nat}{x:St}(h:ju P l D LJ pre (RE P l K (eC l LJ pre m)) L y done rest x):
 ju P l D LJ (pre++m) K L y done (rest++m) x:=by
 refine⟨by rw[h.split];simp,h.sub,h.nodup,h.closed,h.M8,h.store,h.slot,h.Tm,?_⟩;rw[mG,tI,<-h.split];exact h.go
def ju.mono{l:List aK}{D LJ:List (List Nat)}{pre:List Nat}{K K':St->Prop}(hk:∀x,K x->K' x){L:List Nat}{y:St}{done rest:List Nat}{x:St}(h:ju P l D LJ pre K L y done rest x):
 ju P l D LJ pre K' L y done rest x:=⟨h.split,h.sub,h.nodup,h.closed,h.M8,h.store,h.slot,h.Tm,RE.mono hk h.go⟩
def Au{l:List aK}{K:St->Prop}:∀(fu:Nat) (D:List (List Nat)) (pre:List Nat) (t:PT),B6 l fu D pre t=true->∀(f:Nat) (L:List Nat) (y:St) (done rest:List Nat) (x:St),f+L.length=l.length->
 (∀i∈L,i∈pre)->ju P l D t.LJ pre (GT P l K fu pre t) L y done rest x->gQ P l D K f L y
 |0,_,_,_,h,_,_,_,_,_,_,_,_,_=>by cases h
 |fu+1,D,pre,t,h,f,L,y,done,rest,x,hf,hLp,hl=>by
  cases t with
  |leaf LJ r=>exact nO (xc h) f L y done (rest++r) x hf (ju.more hl)
  |fork LJ m S kids=>
   simp only[B6,Ba]at h;obtain⟨h1,h2⟩:=h;generalize (match kids with
    |k::_=>PT.ord fu k
    |[]=>[])=tail at h1
   simp only[FT,Ba]at h1;obtain⟨g1,g2,g3,g4,g5⟩:=h1;have hk:=rJ h2;have hW:=uy g1;have hF:∀WO:Nat->PT,(∀s∈S,((pre++m).all λi=>dD l (WO s).LJ i==dD l LJ i)=true)->FN l D LJ (pre++m) tail S (λs=>(WO s).LJ):=λWO PE=>by
    refine⟨hW,λa b u v he hu hv hup hue=>?_,λs hs=>by simpa using fa.1 g3 s hs,?_,λi hi WN=>?_,λs hs i hi=>by simpa using fa.1 (PE s hs) i hi⟩
    .rw[he]at g2;have:=lL g2 hu hv;simp only[jH,Bool.not_eq_true',List.contains_iff_mem,hue,Bool.true_eq_false,false_or]at this;rcases this with h|h
     .have hc:(pre++m).contains u=true:=List.contains_iff_mem.2 hup;rw[hc]at h;cases h
     .exact h
    .cases S with
     |nil=>simp at g4
     |cons s S=>exact⟨s,by simp⟩
    .have:=fa.1 g5 i hi;simp only[jH,List.contains_iff_mem,D1]at this;exact this.resolve_left WN
   have V8:∀s,∃k:PT,s∈S->(k∈kids/\(((pre++m).all λi=>dD l k.LJ i==dD l LJ i)=true/\B6 l fu (mX D S s) (pre++m) k=true)):=λs=>by
    by_cases hs:s∈S
    .obtain⟨k,h3,h4⟩:=hk s hs;simp only[Ba]at h4;exact⟨k,λ_=>⟨h3,h4⟩⟩
    .exact⟨.leaf [] [],λh=>absurd h hs⟩
   obtain⟨WO,PE⟩:=Classical.axiomOfChoice V8;have hFN:=hF WO λs hs=>(PE s hs).2.1;have Zs:∀s∈S,s∉pre++m:=λs hs hm=>(List.nodup_append.1 hW.nodup).2.2 s hm s (hFN.sub s hs) rfl;refine yL (Ks:=λs=>GT P l K fu (pre++m) (WO s)) hFN (λs hs f L y done rest x hf hl=>?_) f L y done (rest++m) x hf (λs hs hm=>Zs s hs (List.mem_append_left _ (hLp s hm))) ?_
   .refine Au fu _ _ _ (PE s hs).2.2 f L y done rest x hf (λi hi=>?_) hl;have:=hl.sub i hi;rw[hl.split];simp[this]
   .exact ju.mono (λx hx s hs=>hx (WO s) (PE s hs).1) (ju.more hl)
def ab.wT(hm:P.follows .mixedOrders=true){l:List aK}{LL:List (List Nat)}(fu:Nat)(t:PT)(hB:B6 l fu LL [] t=true)(h:GT P l (λx=>ab P n k x Q) fu [] t st):ab P n (.code (.O4 l LL)::k) st Q:=by
 refine ab.F4 hm (Au fu LL [] t hB l.length [] st [] [] st (by simp) (by simp) ⟨rfl,by simp,List.nodup_nil,by simp,by simp,rfl,λ_ _=>rfl,by simp,?_⟩);exact h
variable {P:Program} {l:List aK} {K:St->Prop} {f:Nat} {pre m S r its:List Nat} {LJ:List (List Nat)} {a b c:PT} {x:St}
def GT.gu(h:eC l LJ pre r=its)(hg:RE P l K its x):GT P l K (f+1) pre (.leaf LJ r) x:=by subst h;exact hg
def GT.mK(h:eC l LJ pre m=its)(hg:RE P l (λx=>GT P l K f (pre++m) a x/\GT P l K f (pre++m) b x) its x):GT P l K (f+1) pre (.fork LJ m S [a,b]) x:=by
 subst h;refine RE.mono (λx hx k hk=>?_) hg;simp only[dI,List.not_mem_nil,or_false]at hk;rcases hk with rfl|rfl
 .exact hx.1
 .exact hx.2
def GT.Jm(h:eC l LJ pre m=its)(hg:RE P l (λx=>GT P l K f (pre++m) a x/\GT P l K f (pre++m) b x/\GT P l K f (pre++m) c x) its x):GT P l K (f+1) pre (.fork LJ m S [a,b,c]) x:=by
 subst h;refine RE.mono (λx hx k hk=>?_) hg;simp only[dI,List.not_mem_nil,or_false]at hk;rcases hk with rfl|rfl|rfl
 .exact hx.1
 .exact hx.2.1
 .exact hx.2.2
open Go.Proofs Go.Proofs.Tryz
def mV(fs:List LV)(y:Int):Int:=if(eg sF fs).2 then max y (eg sF fs).1 else y
def ku(fs:List LV)(f:LV)(y:Int)(s:Mr):Int:=nU fs f.w f.h s (mV fs y)
def nY(fs:List LV)(f:LV)(y:Int)(s:Mr):Int:=
 let b:=ec fs (ku fs f y s) f.h s
 if f.side=1 then b.a else max b.a (b.b-f.w)
def jy(fs:List LV)(f:LV)(y:Int)(s:Mr):LV:={ f with x:=nY fs f y s,y:=ku fs f y s }
def sP(fs:List LV)(f:LV)(y:Int)(s:Mr):List LV:=fs++[jy fs f y s]
def En{fs:List LV}{y:Int}(LS:∀f∈fs,f.ok)(hy:M1 y):M1 (mV fs y):=by
 unfold mV;split
 .rename_i h;obtain⟨f,hf,h1,_⟩:=kO h;obtain⟨_,⟨h3,h4⟩,_⟩:=LS f hf;obtain⟨g1,g2⟩:=hy;rw[h1];simp only[sF];exact⟨by omega,by omega⟩
 .exact hy
def Hm(fs:List LV)(f:LV)(y:Int)(s:Mr)(hl:fs.length<=1000000)(LS:∀f∈fs,f.ok)(hy:M1 y)(hh:Bq f.h)(hw:Bq f.w)(NI:M1 s.a/\M1 s.b):
 bc prog 166 [bo fs,dF f,vI y,aZ s] (.LI [vI (nY fs f y s),vI (ku fs f y s)]):=λU=>by
 refine J4.r (by simp[Ht]) ?_;have hs:=aa.refl U;refine ab.mix 14 ?_;apply sR;simp only[go_sem,seval,Ht,dF,aZ];refine ae λi5 Z5 s5 a5 f5=>?_;have z5:=hs.none f5;replace hs:=hs.trans s5;simp only[go_sem,seval,a5];refine ae λi7 Z7 s7 a7 f7=>?_;have XS:=ao a5 f7;replace a5:=s7 _ _ a5;have z7:=hs.none f7;replace hs:=hs.trans s7;simp only[go_sem,seval,a7,a5];refine ab.aC rfl rfl rfl (Ji fs hl LS _) ?_;have QW:=En (y:=y) LS hy;have Ro:=ES fs f (mV fs y) s hl LS QW hh NI;have Uj:=lK (y:=ku fs f y s) (high:=f.h) LS NI;obtain⟨z,hz⟩:∃z,z=ku fs f y s:=⟨_,rfl⟩
 have hz2:nU fs f.w f.h s (mV fs y)=z:=hz.symm;rw[hz2]at Ro;rw[<-hz]at Uj;obtain⟨b,hb⟩:∃b,b=ec fs z f.h s:=⟨_,rfl⟩
 have hx:nY fs f y s=if f.side=1 then b.a else max b.a (b.b-f.w):=by unfold nY;rw[<-hz,<-hb]
 rw[<-hz,hx];rw[<-hb]at Ro Uj;obtain⟨Oc,MR,Yt,hb4⟩:-2305843009213693952<=b.a/\b.a<=2305843009213693952/\-2305843009213693952<=b.b/\b.b<=2305843009213693952:=⟨Uj.1.1,Uj.1.2,Uj.2.1,Uj.2.2⟩
 obtain⟨hw1,OT⟩:=hw;cases ht:(eg sF fs).2
 .have WQ:mV fs y=y:=by unfold mV;rw[ht];rfl
  rw[WQ]at Ro;apply sR;simp only[go_sem,seval,a7,a5,bh,bg];refine ab.aC rfl rfl rfl (Ro _) ?_;apply sR;simp only[go_sem,seval,a7,a5,aZ];refine ae λNy Z12 Qc a12 f12=>?_;have RD:=ao a5 f12;replace a5:=Qc _ _ a5;have Tu:=ao a7 f12;replace a7:=Qc _ _ a7;have z12:=hs.none f12;replace hs:=hs.trans Qc;by_cases Tv:f.side=1
  .have q:(f.side=1)=True:=LH Tv;rw[aI Tv];simp only[go_sem,seval,a12,a7,a5,q,ad RD,ad Tu];exact aE.pure (hs.aG z12) rfl
  .have q:(f.side=1)=False:=Ly Tv;rw[aJ Tv];have r1:LP .i64 (b.b-f.w):=au;simp only[go_sem,seval,a12,a7,a5,q,r1,dd,ad RD,ad Tu];exact aE.pure (hs.aG z12) rfl
 .have WQ:mV fs y=max y (eg sF fs).1:=by unfold mV;rw[ht];rfl
  rw[WQ]at Ro;apply sR;simp only[go_sem,seval,a7,a5,bh,bg,dd];refine ab.aC rfl rfl rfl (Ro _) ?_;apply sR;simp only[go_sem,seval,a7,a5,aZ];refine ae λNy Z12 Qc a12 f12=>?_;have RD:=ao a5 f12;replace a5:=Qc _ _ a5;have Tu:=ao a7 f12;replace a7:=Qc _ _ a7;have z12:=hs.none f12;replace hs:=hs.trans Qc;by_cases Tv:f.side=1
  .have q:(f.side=1)=True:=LH Tv;rw[aI Tv];simp only[go_sem,seval,a12,a7,a5,q,ad RD,ad Tu];exact aE.pure (hs.aG z12) rfl
  .have q:(f.side=1)=False:=Ly Tv;rw[aJ Tv];have r1:LP .i64 (b.b-f.w):=au;simp only[go_sem,seval,a12,a7,a5,q,r1,dd,ad RD,ad Tu];exact aE.pure (hs.aG z12) rfl
open Go.Proofs Go.Proofs.Tryz
def L0(l:List Nd)(i:Nat):Int:=((l[i]?).map Nd.size).getD 0
def td(l:List Nd)(a:Int):Bool:=decide (0<=a)&&decide (a<l.length)
def gF(l:List Nd)(a b:Int):Bool:=td l a&&(td l b&&(decide (b>=a)&&decide (b-a<L0 l a.toNat)))
def gj(l:List Nd)(a:Nat):Nat->List Int
 |0=>[]
 |k+1=>if gF l k a then(k:Int)::gj l a k else gj l a k
def qs(l:List Nd)(a:Nat):Nat->Int
 |0=>-1
 |k+1=>if gF l k a then(k:Int)else qs l a k
def eQ(l:List Nd)(a:Nat):Int:=qs l a a
def wA{l:List Nd}{a:Int}:td l a=true↔0<=a/\a<l.length:=by simp[td]
def kX{l:List Nd}{i:Nat}(h:i<l.length):L0 l i=l[i].size:=by simp[L0,h]
def DP{l:List Nd}(h:Mj l=true){i:Nat}(hi:i<l.length):1<=l[i].size/\l[i].size<=(l.length:Int)-i/\(l[i].kind=1\/l[i].size<=1):=by
 simp only[Mj,Ba]at h;exact gZ l (l.length+1) 0 l.length (by omega) (Md _) h.2 i (by omega) hi hi
def rG(l:List Nd)(a:Nat):∀k,-1<=qs l a k/\qs l a k<k
 |0=>by simp[qs]
 |k+1=>by
  rw[qs];split
  .omega
  .have:=rG l a k;omega
open Go.Proofs Go.Proofs.Tryz
def vq(U:ag)(l:List Int):cC U 1 (bj l)=some (l.map vI):=by simp[bj,cC]
def pr{l:List Nd}(hb:Mj l=true){i:Nat}(h:i<l.length):1<=L0 l i/\L0 l i<=l.length:=by
 rw[kX h];have:=DP hb h;omega
open Go.Proofs Go.Proofs.Tryz
def lE(l:List Nd):∀(m a e:Nat),e-a<m->e<=l.length->cg l a e=true->∀k,a<=k->(h:k<e)->(h2:k<l.length)->cg l (k+1) (k+l[k].size.toNat)=true
 |0,_,_,h,_,_=>by omega
 |m+1,a,e,hm,he,hr=>by
  intro k hk hke h2;have P7:a<e:=by omega
  have ha:a<l.length:=by omega
  rw[cg,dif_pos P7]at hr;have Wm:l[a]?=some l[a]:=by simp[ha]
  rw[Wm]at hr;simp only at hr;split at hr
  .rename_i hx;simp only[Ba]at hr;obtain⟨⟨h3,h4⟩,h5⟩:=hr;by_cases Wn:k=a
   .subst Wn;exact h4
   .by_cases Q0:k<a+l[a].size.toNat
    .exact lE l m (a+1) (a+l[a].size.toNat) (by omega) (by omega) h4 k (by omega) Q0 h2
    .exact lE l m (a+l[a].size.toNat) e (by omega) he h5 k (by omega) hke h2
  .cases hr
def MY(x:Nd):Int:=if x.kind=1 then x.st.top+x.st.LM+x.st.LA+x.st.Lt+x.st.head else if x.kind=2 then x.line*x.words.length else x.h
def VE(x:Nd):Int:=if x.kind=1 then 0 else if x.kind=2 then x.words.length else 1
def jm:List Nd->Int
 |[]=>0
 |x::l=>MY x+jm l
def j7:List Nd->Int
 |[]=>0
 |x::l=>VE x+j7 l
def xe(a b:List Nd):jm (a++b)=jm a+jm b:=by
 induction a with
 |nil=>simp[jm]
 |cons x a ih=>simp only[List.cons_append,jm,ih];omega
def xi(a b:List Nd):j7 (a++b)=j7 a+j7 b:=by
 induction a with
 |nil=>simp[j7]
 |cons x a ih=>simp only[List.cons_append,j7,ih];omega
def qS{x:Nd}(h:x.ok=true):0<=MY x:=by
 obtain⟨p1,p2,p3,p4,p5,p6⟩:=jw h;unfold MY;split
 .rename_i hk;obtain⟨q1,q2,q3,q4,q5⟩:=p6 hk;omega
 .split
  .exact Int.mul_nonneg p2 (by omega)
  .exact p4
def xf{l:List Nd}(h:l.all Nd.ok=true):0<=jm l:=by
 induction l with
 |nil=>simp[jm]
 |cons x l ih=>
  simp only[uW,Ba]at h;have:=qS h.1;have:=ih h.2;simp only[jm];omega
def dm(l:List Nd):Nat->Int
 |0=>0
 |i+1=>match l[i]? with
  |some x=>if x.kind=1 then max (dm l i) (iB l i (i+1))else dm l i
  |none=>dm l i
def CA{l:List Nd}{i:Nat}{x:Nd}{s:Sm}(hx:x.ok=true)(hs:0<=s.H'/\s.H'<=1099511627777):(nD l i x s).H'=min (s.H'+MY x) 1099511627777/\(nD l i x s).pieces=s.pieces+VE x/\
 (nD l i x s).depth=(if x.kind=1 then max s.depth (iB l i (i+1))else s.depth)/\(nD l i x s).nodes=s.nodes:=by
 obtain⟨p1,p2,p3,p4,p5,p6⟩:=jw hx;unfold nD MY VE;by_cases hk:x.kind=1
 .obtain⟨q1,q2,q3,q4,q5⟩:=p6 hk;simp only[hk,if_true,jA];refine⟨by omega,by omega,trivial,trivial⟩
 .by_cases N2:x.kind=2
  .rw[aJ hk,aI N2,aJ hk,aI N2,aJ hk,aI N2,aJ hk];simp only[];refine⟨qy hs p2 _,trivial,trivial,trivial⟩
  .rw[aJ hk,aJ N2,aJ hk,aJ N2,aJ hk,aJ N2,aJ hk];exact⟨rfl,rfl,rfl,rfl⟩
def rO(l:List Nd)(LS:l.all Nd.ok=true):∀i,i<=l.length->(gq l ⟨0,0,l.length,0⟩ i)=⟨dm l i,j7 (l.take i),l.length,min (jm (l.take i)) 1099511627777⟩
 |0,_=>by simp[gq,dm,j7,jm];omega
 |i+1,hi=>by
  have ih:=rO l LS i (by omega);have hg:l[i]?=some l[i]:=by simp[show i<l.length by omega]
  have hx:=fa.1 LS _ (ML (show i<l.length by omega));have ht:l.take (i+1)=l.take i++[l[i]]:=Ph (by omega);have hn:0<=jm (l.take i):=xf (fa.2 λx hx=>fa.1 LS x (uZ hx));have hh:=qS hx;simp only[gq,hg,ih];obtain⟨g1,g2,g3,g4⟩:=CA (l:=l) (i:=i) (s:=⟨dm l i,j7 (l.take i),l.length,min (jm (l.take i)) 1099511627777⟩) hx ⟨by simp only;omega,by simp only;omega⟩;generalize nD l i l[i] ⟨dm l i,j7 (l.take i),l.length,min (jm (l.take i)) 1099511627777⟩=r at*;obtain⟨r1,r2,r3,r4⟩:=r;simp only at g1 g2 g3 g4;subst g1 g2 g3 g4;simp only[dm,hg,ht,xi,xe,j7,jm,Sm.mk.injEq,Int.add_zero,true_and];omega
open Go.Proofs Go.Proofs.Tryz
def V.flat:V->Bool
 |.agg vs=>vs.all V.lone
 |v=>v.lone
def V.Aa:V->Bool
 |.LI vs=>vs.all V.flat
 |v=>v.flat
def ax.lone{I Y':Mu}{ow Nn:Nat->Prop}{w w':World}:∀{vs:List V} {l:List Value},vs.all V.lone=true->ax I ow w vs l->ax Y' Nn w' vs l
 |[],l,_,h=>by simpa[ax]using h
 |v::vs,l,hv,h=>by
  simp only[uW,Ba]at hv;simp only[ax]at h|-;obtain⟨x,xs,rfl,h1,h2⟩:=h;exact⟨x,xs,rfl,C'.lone hv.1 h1,ax.lone hv.2 h2⟩
def C'.flat{I Y':Mu}{ow Nn:Nat->Prop}{w w':World}{v:V}{x:Value}(hv:v.flat=true)(h:C' I ow w v x):C' Y' Nn w' v x:=by
 cases v<;>try exact C'.lone hv h
 rename_i vs;simp only[C']at h|-;obtain⟨Lz,rfl,h1,h2⟩:=h;exact⟨Lz,rfl,ax.lone hv h1,h2⟩
def ax.flat{I Y':Mu}{ow Nn:Nat->Prop}{w w':World}:∀{vs:List V} {l:List Value},vs.all V.flat=true->ax I ow w vs l->ax Y' Nn w' vs l
 |[],l,_,h=>by simpa[ax]using h
 |v::vs,l,hv,h=>by
  simp only[uW,Ba]at hv;simp only[ax]at h|-;obtain⟨x,xs,rfl,h1,h2⟩:=h;exact⟨x,xs,rfl,C'.flat hv.1 h1,ax.flat hv.2 h2⟩
def C'.Aa{I Y':Mu}{ow Nn:Nat->Prop}{w w':World}{v:V}{x:Value}(hv:v.Aa=true)(h:C' I ow w v x):C' Y' Nn w' v x:=by
 cases v<;>try exact C'.flat hv h
 rename_i vs;simp only[C']at h|-;obtain⟨Lz,rfl,h1⟩:=h;exact⟨Lz,rfl,ax.flat hv h1⟩
def bc.wE{P:Program}{f:FuncId}{args args':List V}{v:V}{U:ag}(hw:Sy U j4 args args')(h:bc P f args' v)(hv:v.Aa=true):
 aA P f args U λr Z'=>r=v/\Z'=U:=by
 refine⟨(h j4).1,?_⟩;intro I w Lz hs hr;have OM:Sat w (aD I j4) I j4 w:=by
  have:=hs.drop (oD U);exact⟨Md _,rfl,rfl,rfl,λ_ _ _=>rfl,this.fin,this.inj,this.obj,λb hb _=>hb,this.nJ⟩
 refine((h j4).2 I w Lz OM (Sy.all hs hw hr)).mono ?_;rintro e w' ⟨r,Z',Y',val,rfl,⟨rfl,rfl⟩,hle,LK,MV⟩;have L7:∀b,¬aD I j4 b:=λb ⟨_,_,_,_,h,_⟩=>by simp[j4]at h
 have Na:∀b,b<w.heap.size->w'.heap[b]?=w.heap[b]?:=λb hb=>LK.same b hb (L7 b);have N6:∀id o,U id=some o->Y' id=I id:=λid o ho=>hle id (λe=>by
  have:=hs.obj id o ho;rw[e]at this;exact this)
 have S1:∀b,aD Y' U b->aD I U b:=λb ⟨id,o,sz,cap,h1,h2⟩=>⟨id,o,sz,cap,h1,N6 id o h1▸h2⟩
 have hk:cS (aD I U) (aD Y' U) w w':=λb hb hn=>⟨λho=>hn (S1 b ho),Na b hb⟩
 refine⟨_,U,Y',val,rfl,⟨rfl,rfl⟩,hle,?_,C'.Aa hv MV⟩;refine⟨LK.size,LK.os,LK.tape,LK.output,λb hb _=>Na b hb,LK.fin,?_,?_,λb hb _=>S1 b hb,hs.NY⟩
 .intro id NL o o' b sz cap NW MP h1 h2 h3 h4;exact hs.inj id NL o o' b sz cap NW MP h1 h2 (N6 id o h1▸h3) (N6 NL o' h2▸h4)
 .intro id o ho;rw[N6 id o ho];refine(hs.obj id o ho).mono hle hk LK.size λb sz cap hp=>Na b ?_;exact aD.lt hs ⟨id,o,sz,cap,ho,hp⟩
open Go.Proofs Go.Proofs.Tryz
def du{l:List Nd}{a e:Nat}(he:e<=l.length)(h:cg l a e=true){k:Nat}(h1:a<=k)(h2:k<e):(k:Int)+L0 l k<=e/\1<=L0 l k:=by
 have:=gZ l (e-a+1) a e (by omega) he h k h1 h2 (by omega);rw[kX (by omega)];omega
def ee{l:List Nd}{a e:Nat}(he:e<=l.length)(h:cg l a e=true)(P7:a<e):cg l (a+(L0 l a).toNat) e=true/\cg l (a+1) (a+(L0 l a).toNat)=true:=by
 have ha:a<l.length:=by omega
 rw[cg,dif_pos P7]at h;simp only[Oy ha]at h;rw[kX ha];split at h
 .simp only[Ba]at h;exact⟨h.2,h.1.2⟩
 .cases h
open Go.Proofs Go.Proofs.Tryz
def zb(l:List Nd)(hl:dV l)(hb:Mj l=true):bc prog 110 [aM l] (.agg [aM l]):=λU=>by
 refine JS.r (by simp[HL]) ?_;refine ab.mix 3 ?_;apply sR;simp only[go_sem,seval,HL];refine ae λPC Z1 s1 a2 f2=>?_;simp only[go_sem,seval,a2];refine ab.aC rfl rfl rfl (Av l hl _) ?_;apply sR;simp only[go_sem,seval,hb,a2,aM];refine aE.pure (s1.aG f2) rfl
def GO(l:List Nd)(a:Int):bc prog 134 [aM l,vI a] (.bool (td l a)):=λU=>by
 refine Kx.r (by simp[Hp]) ?_;refine ab.mix 6 ?_;apply sR;simp only[go_sem,seval,aN,aP,Hp,eX];refine And.intro (λh=>?_) (λh=>?_)
 .refine aE.same ?_;simp[td];omega
 .refine aE.same ?_;simp[td];omega
def uB(l:List Nd)(hl:dV l)(hb:Mj l=true)(a:Nat)(ha:a<l.length):bc prog 135 [aM l,vI a] (vI (eQ l a)):=λU=>by
 have Vt:=hl.1;refine Kh.r (by simp[HK]) ?_;refine ab.mix 6 ?_;apply sR;simp only[go_sem,seval,aN,aP,HK];refine⟨au,?_⟩;refine ab.loop (λm st=>∃(k:Nat),k<=a/\m=k/\eQ l a=qs l a k/\st.U=U/\st.s 0=aM l/\st.s 1=vI a/\st.s 5=vI ((k:Int)-1)) a ?_ ?_
 .exact⟨a,by omega,rfl,rfl,rfl,rfl,rfl,rfl⟩
 .rintro m ⟨s,Z'⟩ ⟨k,hk,rfl,heq,L6,h0,h1,h5⟩;simp only at L6 h0 h1 h5;subst L6;refine ab.mix 6 ?_;apply sR;simp only[go_sem,seval,aN,aP,h0,h1,h5];refine And.intro (λh=>?_) (λh=>?_)
  .obtain⟨k,rfl⟩:∃j,m=j+1:=⟨m-1,by omega⟩
   have e1:((k+1:Nat):Int)-1=k:=by omega
   have Lr:k<l.length:=by omega
   have No:=pr hb Lr;have hse:=kX Lr;have hx:=lI (U:=Z') Lr;simp only[go_sem,seval,aN,aP,e1,hx,Nd.cells,h0,h1,h5];rw[<-hse];refine⟨au,And.intro (λhc=>?_) (λhc=>?_)⟩
   .refine aE.same ?_;rw[heq,qs,aI];simp only[gF,Ba,NV,td];simp;omega
   .refine⟨au,_,?_,k,by omega,rfl,?_,rfl⟩
    .omega
    .rw[heq,qs,aJ];simp only[gF,Ba,NV,td];simp;omega
  .have OW:m=0:=by omega
   subst OW;refine aE.same ?_;rw[heq];rfl
end Go.Vc
