import Derived.Test.YtinojdikhfbfbaaGreatW5
import Derived.DeepKeys5
set_option linter.all false
set_option maxHeartbeats 8000000
set_option maxRecDepth 100000
open Go.Proofs.Tryz
namespace Go.Vc
variable {P:Program} {n:Nat} {st:St} {Q:St->Prop} {k:List It}
def tL{R7:List (List Nat)}{n':List Nat}{i:Nat}(h:i∈ef R7 n'):i<R7.length/\i∉n'/\∀k∈R7.getD i [],k∈n':=by
 unfold ef at h;obtain⟨h1,h2⟩:=xz.1 h;simp only[Ba,Bool.not_eq_true',fL]at h2;exact⟨by simpa using h1,by simpa using h2.1,λk hk=>by simpa using h2.2 k hk⟩
def u7:∀(n:Nat) (L:List Nat),L.Nodup->(∀k∈L,k<n)->L.length<=n/\(L.length=n->∀k,k<n->k∈L)
 |0,L,_,h=>by
  cases L with
  |nil=>simp
  |cons a L=>have:=h a (by simp);omega
 |n+1,L,hd,h=>by
  by_cases hn:n∈L
  .have h1:=u7 n (L.erase n) (hd.erase n) λk hk=>by
    have h2:=h k (List.mem_of_mem_erase hk);have h3:k≠n:=λe=>by subst e;exact(List.Nodup.not_mem_erase hd) hk
    omega
   have h4:=List.length_erase_of_mem hn;have h5:0<L.length:=List.length_pos_of_mem hn;refine⟨by omega,λhe k hk=>?_⟩;by_cases hkn:k=n
   .rw[hkn];exact hn
   .exact List.mem_of_mem_erase (h1.2 (by omega) k (by omega))
  .have h1:=u7 n L hd λk hk=>by
    have h2:=h k hk;have h3:k≠n:=λe=>hn (e▸hk);omega
   exact⟨by omega,λhe=>by omega⟩
open Go.RowKit
variable {P:Program} {n:Nat} {st:St} {Q:St->Prop} {k:List It} {I:Mu} {w:World}
def D3{o:Op}{xs:List VX}(h:Se P n o=.more .mkMap xs):∃t,o=.makeMap t none/\xs=[]:=by
 cases o
 case makeMap t r=>
  simp only[Se]at h;split at h
  .rename_i hc;simp only[Ba,Option.isNone_iff_eq_none]at hc;obtain⟨rfl,_⟩:=hc;simp only[Sj.more.injEq,true_and]at h;exact⟨t,rfl,h.symm⟩
  .cases h
 case call c=>
  obtain⟨callee,args,argTypes⟩:=c;cases callee
  case value=>simp[Se]at h
  case invoke r name=>simp[Se]at h
  case builtin b=>cases b<;>(simp only[Se,cH]at h;(repeat' split at h)<;>cases h)
 case unOp op t x=>cases op<;>simp only[Se,cH]at h<;>cases h
 case makeFunc f a b=>cases f<;>simp only[Se,cH]at h<;>(repeat' split at h)<;>cases h
 all_goals (simp only[Se,cH]at h;(repeat' split at h)<;>cases h)
def pW{b:Nat}{es:Array MapEntry}{c:Nat}(h:w.heap[b]?=some (.map es c)):(getObj b).run P w=.ok (.map es c) w:=by simp[getObj,Sem.run,h]
def Aw{b:Nat}{es:Array MapEntry}{c:Nat}(o':Obj)(h:w.heap[b]?=some (.map es c)):(setObj b o').run P w=.ok () (w.putObj b o'):=by simp[setObj,Sem.run,h,World.putObj]
def ax.set{ow:Nat->Prop}:∀{vs:List V} {l:List Value} {v:V} {x:Value} (j:Nat),ax I ow w vs l->E' I ow w v x->ax I ow w (vs.set j v) (l.set j x)
 |[],l,v,x,j,h,hv=>by simp only[ax]at h;subst h;simp[ax]
 |u::us,l,v,x,0,h,hv=>by
  simp only[ax]at h;obtain⟨y,ys,rfl,h1,h2⟩:=h;simp only[List.set_cons_zero,ax];exact⟨x,ys,rfl,hv,h2⟩
 |u::us,l,v,x,j+1,h,hv=>by
  simp only[ax]at h;obtain⟨y,ys,rfl,h1,h2⟩:=h;simp only[List.set_cons_succ,ax];exact⟨y,_,rfl,h1,ax.set j h2 hv⟩
open Go.RowKit
variable {P:Program} {n:Nat} {st:St} {Q:St->Prop} {k:List It} {I:Mu} {w:World}
def uz{t kt e:TypeId}(h:uk P t=some (kt,e)):P.underlying t=some (.map kt e):=by
 unfold uk at h;split at h
 .rename_i k' e' ht;split at h
  .simp only[bf,Prod.mk.injEq]at h;obtain⟨rfl,rfl⟩:=h;exact ht
  .cases h
 .cases h
def FU{o:Op}{kt:TypeId}{xs:List VX}(h:Se P n o=.more (.insS kt) xs):∃t e m y x,(o=.insert t m y x\/o=.mapUpdate t m y x)/\uk P t=some (kt,e)/\xs=[cx n m,cx n y,cx n x]:=by
 cases o
 case insert t m y x=>
  simp only[Se]at h;split at h
  .cases h
  .split at h
   .rename_i k' e hc;simp only[Sj.more.injEq,MOp.insS.injEq]at h;obtain⟨rfl,h⟩:=h;exact⟨t,e,m,y,x,.inl rfl,hc,h.symm⟩
   .cases h
 case mapUpdate t m y x=>
  simp only[Se]at h;split at h
  .cases h
  .split at h
   .rename_i k' e hc;simp only[Sj.more.injEq,MOp.insS.injEq]at h;obtain⟨rfl,h⟩:=h;exact⟨t,e,m,y,x,.inr rfl,hc,h.symm⟩
   .cases h
 case call c=>
  obtain⟨callee,args,argTypes⟩:=c;cases callee
  case value=>simp[Se]at h
  case invoke r name=>simp[Se]at h
  case builtin b=>cases b<;>(simp only[Se,cH]at h;(repeat' split at h)<;>cases h)
 case unOp op t x=>cases op<;>simp only[Se,cH]at h<;>cases h
 case makeFunc f a b=>cases f<;>simp only[Se,cH]at h<;>(repeat' split at h)<;>cases h
 all_goals (simp only[Se,cH]at h;(repeat' split at h)<;>cases h)
def Ee{o:Op}{kt:TypeId}{xs:List VX}{ok:Bool}{zv:V}(h:Se P n o=.more (.Xm kt ok zv) xs):∃t x y e i z,o=.lookup t x y ok/\uk P t=some (kt,e)/\zeroOf P e=some (i,z)/\zv=ofValue z/\xs=[cx n x,cx n y]:=by
 cases o
 case lookup t x y ok'=>
  simp only[Se]at h;split at h
  .split at h<;>cases h
  .split at h
   .rename_i k' e he;split at h
    .rename_i i z hz;simp only[Sj.more.injEq,MOp.Xm.injEq]at h;obtain⟨⟨rfl,rfl,rfl⟩,rfl⟩:=h;exact⟨t,x,y,e,i,z,rfl,he,hz,rfl,rfl⟩
    .cases h
   .cases h
 case call c=>
  obtain⟨callee,args,argTypes⟩:=c;cases callee
  case value=>simp[Se]at h
  case invoke r name=>simp[Se]at h
  case builtin b=>cases b<;>(simp only[Se,cH]at h;(repeat' split at h)<;>cases h)
 case unOp op t x=>cases op<;>simp only[Se,cH]at h<;>cases h
 case makeFunc f a b=>cases f<;>simp only[Se,cH]at h<;>(repeat' split at h)<;>cases h
 all_goals (simp only[Se,cH]at h;(repeat' split at h)<;>cases h)
def assoc{κ:Type}[DecidableEq κ](a:κ):List κ->List V->Option V
 |x::ks,v::vs=>if x=a then some v else assoc a ks vs
 |_,_=>none
def uT{κ:Type}[DecidableEq κ]{a:κ}:∀{ks:List κ} {vs:List V},a∉ks->assoc a ks vs=none
 |[],_,_=>by simp[assoc]
 |x::ks,[],_=>by simp[assoc]
 |x::ks,v::vs,h=>by
  rw[assoc,aM (λe=>h (by simp[e]))];exact uT λg=>h (by simp[g])
def nV{κ:Type}[DecidableEq κ]{a:κ}:∀{ks:List κ} {vs:List V} {j:Nat},ks.Nodup->ks[j]?=some a->ks.length=vs.length->assoc a ks vs=vs[j]?
 |[],_,j,_,h,_=>by simp at h
 |x::ks,[],j,_,_,hl=>by simp at hl
 |x::ks,v::vs,0,_,h,_=>by
  simp only[G6,bf]at h;rw[assoc,aK h];rfl
 |x::ks,v::vs,j+1,hn,h,hl=>by
  rw[EZ]at h;have hm:=FY h;have hxa:x≠a:=λe=>(List.nodup_cons.1 hn).1 (by rw[e];exact hm);rw[assoc,aM hxa,EZ];exact nV (List.nodup_cons.1 hn).2 h (by simpa using hl)
def tM{κ:Type}[DecidableEq κ]{a b:κ}{v:V}:∀{ks:List κ} {vs:List V},a∉ks->ks.length=vs.length->assoc b (ks++[a]) (vs++[v])=if a=b then some v else assoc b ks vs
 |[],[],_,_=>by simp[assoc]
 |[],_::_,_,hl=>by simp at hl
 |_::_,[],_,hl=>by simp at hl
 |x::ks,u::vs,h,hl=>by
  have ih:=tM (a:=a) (b:=b) (v:=v) (ks:=ks) (vs:=vs) (λg=>h (List.mem_cons_of_mem _ g)) (by simpa using hl);have hx:x≠a:=λe=>h (by simp[e]);simp only[List.cons_append,assoc];by_cases h1:x=b
  .rw[aK h1,aK h1,aM (λe=>hx (h1.trans e.symm))]
  .rw[aM h1,aM h1,ih]
def xj{κ:Type}[DecidableEq κ]{a b:κ}{v:V}:∀{ks:List κ} {vs:List V} {j:Nat},ks.Nodup->ks[j]?=some a->ks.length=vs.length->assoc b ks (vs.set j v)=if a=b then some v else assoc b ks vs
 |[],_,j,_,h,_=>by simp at h
 |x::ks,[],j,_,_,hl=>by simp at hl
 |x::ks,u::vs,0,hn,h,_=>by
  simp only[G6,bf]at h;subst h;simp only[List.set_cons_zero,assoc];by_cases h1:x=b<;>simp[h1]
 |x::ks,u::vs,j+1,hn,h,hl=>by
  rw[EZ]at h;have hm:=FY h;have hx:x≠a:=λe=>(List.nodup_cons.1 hn).1 (e▸hm);have ih:=xj (b:=b) (v:=v) (List.nodup_cons.1 hn).2 h (by simpa using hl:ks.length=vs.length);simp only[List.set_cons_succ,assoc];by_cases h1:x=b
  .rw[aK h1,aK h1,aM (λe=>hx (h1.trans e.symm))]
  .rw[aM h1,aM h1,ih]
def oy{κ:Type}[DecidableEq κ](kv:κ->Value)(U:ak)(id:Nat)(g:κ->Option V):Prop:=
 ∃(es:Array MapEntry) (clock:Nat) (ks:List κ) (env:List V),U id=some (gh (.map es clock) env)/\es.toList.map (·.key)=ks.map kv/\ks.length=env.length/\ks.Nodup/\∀a,assoc a ks env=g a
def oy.sub{κ:Type}[DecidableEq κ]{kv:κ->Value}{U Z':ak}{id:Nat}{g:κ->Option V}(h:oy kv U id g)(hs:aa U Z'):oy kv Z' id g:=by
 obtain⟨es,clock,ks,env,h1,h2⟩:=h;exact⟨es,clock,ks,env,hs _ _ h1,h2⟩
def oy.ne{κ:Type}[DecidableEq κ]{kv:κ->Value}{U:ak}{id j:Nat}{g:κ->Option V}{e:TypeId}{sz:Nat}{rows:List V}(h:oy kv U id g)(hj:U j=some ⟨e,sz,rows⟩)(hz:sz≠0):j≠id:=by
 rintro rfl;obtain⟨es,clock,ks,env,h1,_⟩:=h;rw[h1]at hj;simp only[gh,bf,Ob.mk.injEq]at hj;exact hz hj.2.1.symm
def oy.nil{κ:Type}[DecidableEq κ](kv:κ->Value){U:ak}{id:Nat}(h:U id=some (gh (.map #[] 0) [])):oy kv U id λ_=>none:=
 ⟨#[],0,[],[],h,rfl,rfl,.nil,λ_=>rfl⟩
def Aq{κ:Type}[DecidableEq κ]{kv:κ->Value}(hinj:∀a b,kv a=kv b->a=b){kt:TypeId}(Wj:WideMaps.KeyLaw P kt){es:List MapEntry}{ks:List κ}(he:es.map (·.key)=ks.map kv)
 (hko:∀a∈ks,∃l,keyOf P kt (kv a)=some l){a:κ}(ha:∃l,keyOf P kt (kv a)=some l)(w:World):
 ((Instr.findKey kt (kv a) es).run P w=.ok none w/\a∉ks)\/∃j e,(Instr.findKey kt (kv a) es).run P w=.ok (some (j,e.val)) w/\es[j]?=some e/\e.key=kv a/\ks[j]?=some a:=by
 obtain⟨l,hl⟩:=ha;have Tf:∀e∈es,∃l,keyOf P kt e.key=some l:=λe hm=>by
  have:e.key∈ks.map kv:=he▸List.mem_map_of_mem hm;obtain⟨b,hb,Wr⟩:=iD.1 this;rw[<-Wr];exact hko b hb
 rcases Wj.find w hl es Tf with⟨h1,h2⟩|⟨j,e,h1,h2,h3⟩
 .refine .inl ⟨h1,λhm=>?_⟩;have:kv a∈es.map (·.key):=he▸List.mem_map_of_mem hm;obtain⟨e,hem,hee⟩:=iD.1 this;exact h2 e hem hee
 .refine .inr ⟨j,e,h1,h2,h3,?_⟩;have h4:(es.map (·.key))[j]?=some e.key:=by rw[sP,h2];rfl
  rw[he,sP]at h4;cases hk:ks[j]? with
  |none=>rw[hk]at h4;cases h4
  |some b=>
   rw[hk]at h4;simp only[Option.map_some,bf]at h4;rw[hinj b a (h4.trans h3)]
structure zf{κ:Type}(P:Program)(kt:TypeId)(kv:κ->Value)(kV:κ->V):Prop where
 inj:∀a b,kv a=kv b->a=b
 law:WideMaps.KeyLaw P kt
 key:∀b,∃l,keyOf P kt (kv b)=some l
 rep:∀(a:κ) (I:Mu) (ow:Nat->Prop) (w:World) (X:Value),E' I ow w (kV a) X->X=kv a
def GI{κ:Type}[DecidableEq κ]{kv:κ->Value}{kV:κ->V}{i:aS}{xm xk:VX}{kt:TypeId}{ok:Bool}{zv:V}(ho:i.op=.more (.Xm kt ok zv) [xm,xk]){id:Nat}{g:κ->Option V}{a:κ}
 (hK:zf P kt kv kV)(hm:xm.ev st.s=.mp id)(VM:oy kv st.U id g)(hk:xk.ev st.s=kV a){K:St->Prop}
 (h:K ⟨aY st.s i.dst (if ok then .RM [(g a).getD zv,.bool (g a).isSome]else(g a).getD zv),st.U⟩):
 ∀(F:Fr),F.n=n->∀(I:Mu) (a:Act) (w:World) (o:Oper) (all:Array Oper),bL P n all o=i->dz F I st a w->
  ∀(next:Act->World->Prop) (Q':Exit->Act->World->Prop),(∀UC a' w',eU F UC a' w'->K UC->next a' w')->o.wp P a w next Q':=by
 intro F hn I ac w o all hi hs next Q' RK
 obtain⟨hinj,Wj,hko,Tu⟩:=hK;replace Tu:=Tu a;replace hko:∀b,(b=a\/g b≠none)->∃l,keyOf P kt (kv b)=some l:=λb _=>hko b;subst hn;obtain⟨RN,hd⟩:=eZ hi;rw[ho]at RN;obtain⟨t,x,y,e,ti,z,g1,g2,g3,rfl,g4⟩:=Ee RN;simp only[List.cons.injEq,and_true]at g4;obtain⟨rfl,rfl⟩:=g4;have u1:=uz g2;obtain⟨es,clock,ks,env,R8,he,hlen,SI,TD⟩:=VM;have hr:=cF hs x;have hrk:=cF hs y;rw[hm]at hr;rw[hk]at hrk;have hrk:=Tu _ _ _ _ hrk;simp only[E']at hr;have hks:∀b∈ks,∃l,keyOf P kt (kv b)=some l:=λb hb=>by
  obtain⟨j,hj⟩:=HN hb;refine hko b (.inr ?_);rw[<-TD b,nV SI hj hlen];have:j<env.length:=by rw[<-hlen];exact(ri.1 hj).1
  rw[VH this];simp
 have hka:=hko a (.inl rfl);obtain⟨la,TZ⟩:=hka;split at hr
 .rename_i b cap L';obtain⟨Ts,WB⟩:=hs.sat.HU R8 L';simp only[tmpsOf]at WB;rcases Aq hinj Wj he hks ⟨la,TZ⟩ w with⟨q1,q2⟩|⟨j,en,q1,q2,q3,q4⟩
  .have hga:g a=none:=by rw[<-TD a,uT q2]
   rw[hga]at h;have Su:(Instr.lookup t (ac.eval x) (ac.eval y) ok).run P w=.ok (if ok then .tuple #[z,.bool false]else z) w:=by
    simp[Instr.lookup,run_underlying u1,hr,hrk,pW Ts,Wj.check w _ TZ,q1,ei g3]
   have hx:(execOp ac.eval o).run P w=.ok (.value (if ok then .tuple #[z,.bool false]else z)) w:=by
    unfold execOp;rw[g1];simp[Su]
   unfold Oper.wp;rw[hx];refine RK _ _ _ ⟨I,?_⟩ h;rw[<-hd];have hz:E' I (aN I st.U) w (ofValue z) z:=ng z;refine hs.pure ?_;cases ok
   .simpa using hz
   .simp only[if_true,Option.getD_none,Option.isSome_none,E'];exact⟨_,rfl,by simp only[ax,E'];exact⟨_,_,rfl,hz,_,_,rfl,rfl,rfl⟩⟩
  .have UG:j<env.length:=by rw[<-hlen];exact(ri.1 q4).1
   have hga:g a=some env[j]:=by rw[<-TD a,nV SI q4 hlen,VH UG]
   rw[hga]at h;have hv:E' I (aN I st.U) w env[j] en.val:=by
    obtain⟨x',Sg,hrx⟩:=WB.get (i:=j) (by rw[VH UG]);rw[sP,q2]at Sg;simp at Sg;subst Sg;exact hrx
   have Su:(Instr.lookup t (ac.eval x) (ac.eval y) ok).run P w=.ok (if ok then .tuple #[en.val,.bool true]else en.val) w:=by
    simp[Instr.lookup,run_underlying u1,hr,hrk,pW Ts,Wj.check w _ TZ,q1]
   have hx:(execOp ac.eval o).run P w=.ok (.value (if ok then .tuple #[en.val,.bool true]else en.val)) w:=by
    unfold execOp;rw[g1];simp[Su]
   unfold Oper.wp;rw[hx];refine RK _ _ _ ⟨I,?_⟩ h;rw[<-hd];refine hs.pure ?_;cases ok
   .simpa using hv
   .simp only[if_true,Option.getD_some,Option.isSome_some,E'];exact⟨_,rfl,by simp only[ax,E'];exact⟨_,_,rfl,hv,_,_,rfl,rfl,rfl⟩⟩
 .exact hr.elim
def Jd(P:Program)(kt:TypeId)(ok:Bool)(zv m k:V)(U:ak)(v:V):Prop:=∃(κ:Type) (_:DecidableEq κ) (kv:κ->Value) (kV:κ->V) (id:Nat) (g:κ->Option V) (a:κ),
 zf P kt kv kV/\m=.mp id/\oy kv U id g/\k=kV a/\v=if ok then .RM [(g a).getD zv,.bool (g a).isSome]else(g a).getD zv
def G8{i:aS}{xs:List VX}(ho:i.op=.more .mkMap xs){K:St->Prop}(h:∀id,st.U id=none->K ⟨aY st.s i.dst (.mp id),C' st.U id (gh (.map #[] 0) [])⟩):
 ∀(F:Fr),F.n=n->∀(I:Mu) (a:Act) (w:World) (o:Oper) (all:Array Oper),bL P n all o=i->dz F I st a w->
  ∀(next:Act->World->Prop) (Q':Exit->Act->World->Prop),(∀UC a' w',eU F UC a' w'->K UC->next a' w')->o.wp P a w next Q':=by
 intro F hn I a w o all hi hs next Q' RK
 subst hn;obtain⟨RN,hd⟩:=eZ hi;rw[ho]at RN;obtain⟨t,h1,_⟩:=D3 RN;obtain⟨id,L',Y',g1,g2,g3,g4⟩:=hs.sat.LI (.map #[] 0) [] (by simp[ax,tmpsOf]);have Su:(execOp a.eval o).run P w=.ok (.value (.map (some w.heap.size))) (w.alloc (.map #[] 0)):=by
  unfold execOp;rw[h1];simp[Instr.makeMap]
  all_goals rfl
 unfold Oper.wp;rw[Su];refine RK _ _ _ ⟨Y',?_⟩ (h id L');rw[<-hd];exact hs.step g3 g2 g4 (by simp) (by simp[E',g1])
variable {P:Program} {n:Nat} {st:St} {Q:St->Prop} {k:List It}
def TC(P:Program)(i:aS)(x:St)(K:St->Prop):Prop:=T P i x K\/(bn x.s i.g=some true/\match i.op with
 |.call fx xs=>∃f caps Post,fx.ev x.s=.fn f caps/\aB P f (xs.map (·.ev x.s)++caps) x.U Post/\∀r Z',Post r Z'->K ⟨aY x.s i.dst r,Z'⟩
 |.more (.Xm kt ok zv) [xm,xk]=>∃v,Jd P kt ok zv (xm.ev x.s) (xk.ev x.s) x.U v/\K ⟨aY x.s i.dst v,x.U⟩
 |.more .mkMap []=>∀id,x.U id=none->K ⟨aY x.s i.dst (.mp id),C' x.U id (gh (.map #[] 0) [])⟩
 |_=>False)
def TC.mono{i:aS}{x:St}{K K':St->Prop}(hk:∀x,K x->K' x)(h:TC P i x K):TC P i x K':=by
 rcases h with h|⟨h1,h2⟩
 .exact .inl (h.mono hk)
 .refine .inr ⟨h1,?_⟩;split at h2
  .obtain⟨f,caps,Post,g1,g2,g3⟩:=h2;exact⟨f,caps,Post,g1,g2,λr Z' hp=>hk _ (g3 r Z' hp)⟩
  .obtain⟨v,g1,g2⟩:=h2;exact⟨v,g1,hk _ g2⟩
  .exact λid L'=>hk _ (h2 id L')
  .exact h2.elim
def EY{F:Fr}(hn:F.n=n){o:Oper}{all:Array Oper}{x:St}{K:St->Prop}{a:Act}{w:World}(h:TC P (bL P n all o) x K)(hs:eU F x a w)
 {next:Act->World->Prop}{Q':Exit->Act->World->Prop}(RK:∀x' a' w',eU F x' a' w'->K x'->next a' w'):
 if Region.wanted o (yielded all a.tmps)then Se P n o.op≠.bad/\o.wp P a w next Q' else next (a.put o.dst undef) w:=by
 rcases h with h|⟨hw,h⟩
 .exact tB hn h hs RK
 subst hn;obtain⟨I,hs⟩:=hs;have Wy:=qv (P:=P) hs all o hw;rw[Wy];simp only[if_true];have hdst:(bL P F.n all o).dst=o.dst.filter (·<F.n):=rfl;have Zt:(bL P F.n all o).op=Se P F.n o.op:=rfl;rw[hdst,Zt]at h;split at h
 .rename_i fx xs RN;refine⟨λe=>?_,?_⟩
  .rw[RN]at e;cases e
  obtain⟨f,caps,Post,h1,h2,h3⟩:=h;obtain⟨f0,args,argTypes,g1,rfl,rfl⟩:=nN RN;refine pc hs g1 h1 h2 λr Z' hp a' w' RV=>?_;exact RK _ a' w' RV (h3 r Z' hp)
 .rename_i kt ok zv xm xk RN;refine⟨λe=>(by rw[RN]at e;cases e),?_⟩;obtain⟨v,⟨κ,_,kv,kV,id,g,b,hK,h1,h2,h3,rfl⟩,h4⟩:=h;exact GI (i:=bL P F.n all o) (K:=K) (Zt.trans RN) hK h1 h2 h3 h4 F rfl I a w o all rfl hs next Q' RK
 .rename_i RN;refine⟨λe=>(by rw[RN]at e;cases e),?_⟩;exact G8 (i:=bL P F.n all o) (K:=K) (Zt.trans RN) h F rfl I a w o all rfl hs next Q' RK
 .exact h.elim
def TnC(P:Program)(n:Nat)(ops:Array Oper)(i:Nat)(x:St)(K:St->Prop):Prop:=match ops[i]? with
 |some o=>TC P (bL P n ops o) x K
 |none=>K x
def yc(P:Program)(n:Nat)(ops:Array Oper)(Q:St->Prop):Nat->Array Bool->St->Prop
 |0,n',x=>Region.ready .any ops n'=[]/\Q x
 |f+1,n',x=>(Region.ready .any ops n'=[]->Q x)/\∀i∈Region.ready .any ops n',TnC P n ops i x (yc P n ops Q f (n'.setIfInBounds i true))
def nx{F:Fr}(hn:F.n=n){ops:Array Oper}{Q:St->Prop}{Q':Exit->Act->World->Prop}(hQ:∀x a w,eU F x a w->Q x->Q' .normal a w):
 ∀(f:Nat) (n':Array Bool) (x:St) (a:Act) (w:World),eU F x a w->yc P n ops Q f n' x->wpAnyIn F.eG 0 P .any ops Q' f n' a w
 |0,_,_,_,_,hs,h=>⟨h.1,hQ _ _ _ hs h.2⟩
 |f+1,n',x,a,w,hs,h=>by
  refine⟨λh0=>hQ _ _ _ hs (h.1 h0),λi hi=>?_⟩;have h1:=h.2 i hi;unfold TnC at h1;unfold wpOpIn;cases ho:ops[i]? with
  |none=>
   simp only[ho]at h1;exact nx hn hQ f _ x a w hs h1
  |some o=>
   simp only[ho]at h1;have h2:=EY (Q':=Q') hn h1 hs λx' a' w' RV hk=>nx hn hQ f _ x' a' w' RV hk;by_cases hw:Region.wanted o (yielded ops a.tmps)=true
   .rw[aK hw]at h2;simp only[hw,if_true];exact El (kc h2.1) h2.2
   .rw[aM hw]at h2;simp only[hw];exact⟨λ_ _=>trivial,h2⟩
def uv(P:Program)(l:List aS)(rec:List Nat->St->Prop)(n':List Nat)(x:St):List Nat->Prop
 |[]=>True
 |i::is=>(match l[i]? with
   |some ins=>TC P ins x (rec (i::n'))
   |none=>False)/\uv P l rec n' x is
def jl(P:Program)(l:List aS)(R7:List (List Nat))(Q:St->Prop):Nat->List Nat->St->Prop
 |0,n',x=>ef R7 n'=[]/\Q x
 |f+1,n',x=>match ef R7 n' with
   |[]=>Q x
   |i::is=>uv P l (jl P l R7 Q f) n' x (i::is)
def n7{l:List aS}{rec:List Nat->St->Prop}{n':List Nat}{x:St}:∀{is:List Nat},uv P l rec n' x is->∀i∈is,∃ins,l[i]?=some ins/\TC P ins x (rec (i::n'))
 |[],_,_,hi=>by cases hi
 |j::is,h,i,hi=>by
  obtain⟨h1,h2⟩:=h;rcases dZ.1 hi with rfl|hi
  .cases hl:l[i]? with
   |none=>rw[hl]at h1;exact h1.elim
   |some ins=>rw[hl]at h1;exact⟨ins,rfl,h1⟩
  .exact n7 h2 i hi
def mE{ops:Array Oper}{Q:St->Prop}:∀(f:Nat) (arr:Array Bool) (n':List Nat) (x:St),arr.size=ops.size->(∀i,i<ops.size->arr.getD i true=n'.contains i)->
 (∀i∈n',i<ops.size)->jl P (ops.toList.map (bL P n ops)) (kG ops) Q f n' x->yc P n ops Q f arr x
 |0,arr,n',x,hs,hl,ho,h=>⟨by rw[wC hs hl ho];exact h.1,h.2⟩
 |f+1,arr,n',x,hs,hl,ho,h=>by
  have hr:=wC hs hl ho;unfold jl at h;refine⟨λh0=>?_,λi hi=>?_⟩
  .rw[hr]at h0;rw[h0]at h;exact h
  .rw[hr]at hi;have u':i<ops.size:=by
    have:=(xz.1 hi).1;simpa[kG]using this
   have Tf:uv P (ops.toList.map (bL P n ops)) (jl P (ops.toList.map (bL P n ops)) (kG ops) Q f) n' x (ef (kG ops) n'):=by
    cases hrr:ef (kG ops) n' with
    |nil=>exact trivial
    |cons j js=>rw[hrr]at h;exact h
   obtain⟨ins,h1,h2⟩:=n7 Tf i hi;have h3:ops[i]?=some ops[i]:=Array.getElem?_eq_getElem u';have h4:ins=bL P n ops ops[i]:=by simpa[u']using h1.symm
   unfold TnC;simp only[h3];rw[<-h4];refine h2.mono λx' Sg=>mE f _ (i::n') x' (by simpa using hs) (λj hj=>?_) (λj hj=>?_) Sg
   .by_cases e:j=i
    .subst e;rw[Vn,Array.getElem?_setIfInBounds_self_of_lt (by omega)];simp
    .rw[Vn,Array.getElem?_setIfInBounds_ne (λe'=>e e'.symm),<-Vn,hl j hj];simp[e]
   .rcases dZ.1 hj with rfl|hj
    .exact u'
    .exact ho j hj
def aq.Jz(hm:P.follows .mixedOrders=true){l:List aS}{R7:List (List Nat)}(h:jl P l R7 (λx=>aq P n k x Q) l.length [] st):aq P n (.code (.Wv l R7)::k) st Q:=by
 intro F hn kt hk a w hs;obtain⟨z,Ub,rfl,hy,Tp⟩:=eD hk;obtain⟨c0,rfl,SW⟩:=gN hy;have Vp:∃id ops,c0=.region id ops true/\ops.toList.map (bL P n ops)=l/\kG ops=R7:=by
  cases c0<;>simp only[dG,reduceCtorEq]at SW;rename_i id ops draw;cases draw
  .simp at SW
  .simp only[Bool.true_and]at SW;split at SW
   .cases SW
   split at SW
   .simp only[bP.Wv.injEq]at SW;exact⟨id,ops,rfl,SW.1,SW.2⟩
   .simp at SW
 obtain⟨id,ops,rfl,rfl,rfl⟩:=Vp;have RV:eU F st a { w with drawn:=w.drawn+1 }:=by
  obtain⟨I,hs⟩:=hs;have hk:dc (aN I st.U) (aN I st.U) w { w with drawn:=w.drawn+1 }:=λ_ _ h=>⟨h,rfl⟩
  refine⟨I,⟨⟨hs.sat.size,hs.sat.os,hs.sat.tape,hs.sat.output,hs.sat.same,hs.sat.fin,hs.sat.inj,λid o ho=>?_,hs.sat.fresh,hs.sat.UO⟩,hs.le,hs.size,hs.book.wb hk,λi hi=>?_⟩⟩
  .exact(hs.sat.obj id o ho).mono (dn.refl I) hk (Sf _) (λ_ _ _ _=>rfl)
  .exact E'.mono (dn.refl I) hk (Sf _) _ _ (hs.slot i hi)
 refine wpIn_region_any hm (nx (Q:=λx=>aq P n k x Q) hn (λx a w hs h=>h F hn Ub Tp a w hs) _ _ _ _ _ RV ?_);have:=mE (P:=P) (n:=n) (Q:=λx=>aq P n k x Q) (ops:=ops) ops.size (Array.replicate ops.size false) [] st (by simp) (λi hi=>by
  rw[Vn,Array.getElem?_replicate,aK hi];simp) (by simp) (by simpa using h)
 exact this
def pQ{l:List aS}{rec:List Nat->St->Prop}{n':List Nat}{x:St}:∀{is:List Nat},(∀i∈is,∃ins,l[i]?=some ins/\TC P ins x (rec (i::n')))->uv P l rec n' x is
 |[],_=>trivial
 |j::is,h=>by
  obtain⟨ins,h1,h2⟩:=h j (by simp);refine⟨by rw[h1];exact h2,pQ λi hi=>h i (by simp[hi])⟩
variable {P:Program} {n:Nat} {st:St} {Q:St->Prop} {k:List It}
def QYd(P:Program)(i:aS)(x:St):Prop:=match i.dst with
 |some d=>QY P i x.s x.U (x.s d)
 |none=>∃v,QY P i x.s x.U v
def RE(P:Program)(l:List aS)(K:St->Prop):List Nat->St->Prop
 |[],x=>K x
 |m::its,x=>match l[m/2]? with
  |none=>False
  |some ins=>if m%2=0 then TC P ins x (RE P l K its)else QYd P ins x/\RE P l K its x
def bo(l:List aS)(i:Nat):aS:=(l[i]?).getD ⟨none,.bad,none⟩
def fv(R1:List (List Nat))(i:Nat):List Nat:=R1.getD i []
def dM(l:List aS)(R1:List (List Nat))(j:Nat):Bool:=bt (bo l j).op != 0||(match(bo l j).dst with
 |some d=>(List.range l.length).any λi=>(bo l i).l4.contains d&&!(fv R1 i).contains j
 |none=>false)
def DF(l:List aS)(R1:List (List Nat))(done:List Nat)(e:Nat):List Nat:=
 if dM l R1 e then done.filterMap λk=>if !(dM l R1 k)&&(!(kY (bo l k).op)&&!((fv R1 e).contains k))then some (2*k+1)else none else[]
def eK(l:List aS)(R1:List (List Nat)):List Nat->List Nat->List Nat
 |_,[]=>[]
 |done,e::r=>2*e::(DF l R1 done e++eK l R1 (done++[e]) r)
def mZ(p:Nat->Nat->Bool):List Nat->Bool
 |[]=>true
 |a::r=>r.all (p a)&&mZ p r
def nq{p:Nat->Nat->Bool}:∀{a:List Nat} {b:List Nat} {x y:Nat},mZ p (a++b)=true->x∈a->y∈b->p x y=true
 |[],_,_,_,_,h,_=>by cases h
 |c::a,b,x,y,hp,hx,hy=>by
  simp only[List.cons_append,mZ,Ba]at hp;rcases dZ.1 hx with rfl|hx
  .exact fL.1 hp.1 y (List.mem_append_right _ hy)
  .exact nq hp.2 hx hy
def vz(f:Nat->List Nat):List Nat->List Nat->Bool
 |_,[]=>true
 |done,e::r=>(f e).all done.contains&&vz f (done++[e]) r
def rQ{f:Nat->List Nat}:∀{r done:List Nat} {a:List Nat} {e:Nat} {b:List Nat},vz f done r=true->r=a++e::b->∀x∈f e,x∈done++a
 |[],_,a,e,b,_,h,_,_=>by simp at h
 |c::r,done,[],e,b,hB,h,x,hx=>by
  simp only[mL,List.cons.injEq]at h;obtain⟨rfl,rfl⟩:=h;simp only[vz,Ba]at hB;simpa using fL.1 hB.1 x hx
 |c::r,done,d::a,e,b,hB,h,x,hx=>by
  simp only[List.cons_append,List.cons.injEq]at h;obtain⟨rfl,rfl⟩:=h;simp only[vz,Ba]at hB;have:=rQ hB.2 rfl x hx;simpa using this
def Iq(l:List aS)(R7 R1:List (List Nat))(ord:List Nat):Bool:=
 (decide (ord.length=l.length)&&(decide (R7.length=l.length)&&ord.all λi=>decide (i<l.length)))&&
 (mZ (λa b=>decide (a≠b)) ord&&
 (vz (λi=>R7.getD i []) [] ord&&
 ((List.range l.length).all (λj=>(fv R1 j).all λi=>(R7.getD j []).any λd=>d==i||(fv R1 d).contains i)&&
 ((List.range l.length).all (λi=>(List.range l.length).all λj=>i==j||((bo l i).dst.isNone||(bo l i).dst != (bo l j).dst))&&
 (List.range l.length).all (λi=>(List.range l.length).all λj=>i==j||(match(bo l j).dst with
   |some d=>!((bo l i).l4.contains d)||((fv R1 i).contains j||(dM l R1 j&&(fv R1 j).contains i))
   |none=>true))))))
def eOk(l:List aS)(R7 R1:List (List Nat))(ord:List Nat):Bool:=Iq l R7 R1 ord&&mZ (λa b=>!(dM l R1 a)||(fv R1 b).contains a) ord
def rS:∀{l:List Nat},mZ (λa b=>decide (a≠b)) l=true->l.Nodup
 |[],_=>List.nodup_nil
 |a::r,h=>by
  simp only[mZ,Ba]at h;refine List.nodup_cons.2 ⟨λhm=>?_,rS h.2⟩;have:=fL.1 h.1 a hm;simp at this
structure EOkW(l:List aS)(R7 R1:List (List Nat))(ord:List Nat):Prop where
 len:ord.length=l.length
 dlen:R7.length=l.length
 lt:∀i∈ord,i<l.length
 nodup:ord.Nodup
 ahead:∀a e b,ord=a++e::b->∀x∈R7.getD e [],x∈a
 anc:∀j,j<l.length->∀i∈fv R1 j,∃d∈R7.getD j [],d=i\/i∈fv R1 d
 dsts:∀i j,i<l.length->j<l.length->i≠j->∀d,(bo l i).dst=some d->(bo l j).dst≠some d
 anti:∀i j,i<l.length->j<l.length->i≠j->∀d,(bo l j).dst=some d->d∈(bo l i).l4->j∈fv R1 i\/(dM l R1 j=true/\i∈fv R1 j)
def wQ{l:List aS}{R7 R1:List (List Nat)}{ord:List Nat}(h:Iq l R7 R1 ord=true):EOkW l R7 R1 ord:=by
 simp only[Iq,Ba,Uy]at h;obtain⟨⟨h1,h2,h3⟩,h4,h5,h6,h7,h8⟩:=h;refine⟨h1,h2,λi hi=>by simpa using fL.1 h3 i hi,rS h4,λa e b he x hx=>by simpa using rQ h5 he x hx,?_,?_,?_⟩
 .intro j hj i hi;have:=fL.1 (fL.1 h6 j (by simpa using hj)) i hi;simp only[KU,kO,beq_iff_eq,List.contains_iff_mem]at this;exact this
 .intro i j hi hj RU d hd he;have:=fL.1 (fL.1 h7 i (by simpa using hi)) j (by simpa using hj);simp only[kO,beq_iff_eq,hd,he,Option.isNone_some,bne_self_eq_false,iP,or_false]at this;exact RU this
 .intro i j hi hj RU d hd hu;have:=fL.1 (fL.1 h8 i (by simpa using hi)) j (by simpa using hj);simp only[kO,beq_iff_eq,hd,Ba,Bool.not_eq_true',List.contains_iff_mem]at this;rcases this with h|h|h
  .exact absurd h RU
  .have hc:(bo l i).l4.contains d=true:=List.contains_iff_mem.2 hu;rw[hc]at h;cases h
  .exact h
structure EOk(l:List aS)(R7 R1:List (List Nat))(ord:List Nat):Prop extends EOkW l R7 R1 ord where
 T0:∀a b x y,ord=a++b->x∈a->y∈b->dM l R1 x=true->x∈fv R1 y
def Af{l:List aS}{R7 R1:List (List Nat)}{ord:List Nat}(h:eOk l R7 R1 ord=true):EOk l R7 R1 ord:=by
 simp only[eOk,Ba]at h;refine⟨wQ h.1,λa b x y he hx hy WG=>?_⟩;have h9:=h.2;rw[he]at h9;have:=nq h9 hx hy;simp only[WG,Bool.not_true,Bool.false_or,List.contains_iff_mem]at this;exact this
def EOkW.closed{l:List aS}{R7 R1:List (List Nat)}{ord:List Nat}(h:EOkW l R7 R1 ord){L:List Nat}(hc:∀m∈L,∀d∈R7.getD m [],d∈L)(UT:∀i,i<l.length->i∈ord):
 ∀(m:Nat) (a:List Nat) (j:Nat) (b:List Nat),a.length<m->ord=a++j::b->(∀d∈R7.getD j [],d∈L)->∀i∈fv R1 j,i∈L:=by
 intro m
 induction m with
 |zero=>intro a j b ha;omega
 |succ m ih=>
  intro a j b ha he hd i hi;have hj:j<l.length:=h.lt j (by rw[he];simp);obtain⟨d,h1,h2⟩:=h.anc j hj i hi;rcases h2 with rfl|h2
  .exact hd d h1
  .have SE:=h.ahead a j b he d h1;obtain⟨a1,a2,rfl⟩:=List.append_of_mem SE;exact ih a1 d (a2++j::b) (by simp at ha;omega) (by rw[he];simp) (λd' h'=>hc d (hd d h1) d' h') i h2
def nb{i:aS}{s s':Nat->V}(h:∀u∈i.l4,s u=s' u):bn s i.g=bn s' i.g:=by
 cases hg:i.g with
 |none=>rfl
 |some g=>
  obtain⟨x,b⟩:=g;have:x.ev s=x.ev s':=by
   cases x with
   |t t=>exact h t (List.mem_filterMap.2 ⟨.t t,List.mem_append_right _ (by simp[hg]),rfl⟩)
   |c v=>rfl
  simp only[bn,this]
def A4{i:aS}{s s':Nat->V}(h:∀u∈i.l4,s u=s' u):∀x∈i.op.xs,x.ev s=x.ev s':=λx hx=>by
 cases x with
 |t t=>exact h t (CH hx rfl)
 |c v=>rfl
def zN{i:aS}{s s':Nat->V}{U:ak}{v:V}(h:∀u∈i.l4,s u=s' u)(hq:QY P i s U v):QY P i s' U v:=by
 unfold QY at*;rw[<-nb h];exact hq.imp (λ⟨h1,h2⟩=>⟨h1,vg (A4 h) h2⟩) id
def yQ{i:aS}{x y:St}{K K':St->Prop}(h:∀u∈i.l4,x.s u=y.s u)(R8:x.U=y.U)(hk:∀r Z',K ⟨aY x.s i.dst r,Z'⟩->K' ⟨aY y.s i.dst r,Z'⟩)(ht:TC P i x K):TC P i y K':=by
 have hx:=A4 h;rcases ht with ht|⟨hw,ht⟩
 .refine .inl ?_;unfold T at*;rw[<-nb h];split<;>rename_i ho<;>simp only[ho]at ht
  .unfold TO at*;split<;>rename_i VQ<;>simp only[VQ]at ht
   .obtain⟨g1,v,g2,g3⟩:=ht;obtain⟨e1,e2⟩:=rG (U:=y.U) hx;exact⟨e2.1 g1,v,by rw[<-e1,<-R8];exact g2,by rw[<-R8];exact hk _ _ g3⟩
   .split at ht
    .rename_i fx xs RN;obtain⟨f,caps,v,g1,g2,g3⟩:=ht;refine⟨f,caps,v,?_,?_,by rw[<-R8];exact hk _ _ g3⟩
     .rw[<-hx fx (by rw[RN];simp[Sj.xs])];exact g1
     .rw[<-rm (s:=x.s) (s':=y.s) λz hz=>hx z (by rw[RN];simp[Sj.xs,hz]),<-R8];exact g2
    .exact ht.elim
   .split at ht
    .rename_i sz xa xv RN;obtain⟨Z',g1,g2⟩:=ht;refine⟨Z',?_,hk _ _ g2⟩;rw[<-hx xa (by rw[RN];simp[Sj.xs]),<-hx xv (by rw[RN];simp[Sj.xs]),<-R8];exact g1
    .exact ht.elim
   .obtain⟨g,g1,g2⟩:=ht;refine⟨g,by rw[<-fQ hx,<-R8];exact g1,λid L'=>hk _ _ (g2 id (by rw[R8];exact L'))⟩
  .rw[<-R8];exact hk _ _ ht
 .refine .inr ⟨by rw[<-nb h];exact hw,?_⟩;split at ht
  .rename_i fx xs RN;obtain⟨f,caps,Post,g1,g2,g3⟩:=ht;refine⟨f,caps,Post,?_,?_,λr Z' hp=>hk _ _ (g3 r Z' hp)⟩
   .rw[<-hx fx (by rw[RN];simp[Sj.xs])];exact g1
   .rw[<-rm (s:=x.s) (s':=y.s) λz hz=>hx z (by rw[RN];simp[Sj.xs,hz]),<-R8];exact g2
  .rename_i kt ok zv xm xk RN;obtain⟨v,g1,g2⟩:=ht;refine⟨v,?_,by rw[<-R8];exact hk _ _ g2⟩;rw[<-hx xm (by rw[RN];simp[Sj.xs]),<-hx xk (by rw[RN];simp[Sj.xs]),<-R8];exact g1
  .exact λid L'=>by rw[<-R8];exact hk _ _ (ht id (by rw[R8];exact L'))
  .exact ht.elim
structure kx(P:Program)(l:List aS)(R7 R1:List (List Nat))(ord:List Nat)(K:St->Prop)(L:List Nat)(y:St)(done rest:List Nat)(x:St):Prop where
 split:ord=done++rest
 sub:∀i∈L,i∈done
 nodup:L.Nodup
 closed:∀m∈L,∀d∈R7.getD m [],d∈L
 T0:∀i∈done,dM l R1 i=true->i∈L
 store:y.U=x.U
 slot:∀d,(∀i∈done,i∉L->(bo l i).dst≠some d)->y.s d=x.s d
 lag:∀i∈done,i∉L->QYd P (bo l i) x
 go:RE P l K (eK l R1 done rest) x
def iL{l:List aS}{R1:List (List Nat)}{e:Nat}(h:dM l R1 e=false)(he:e<l.length)(RU:e∉fv R1 e):bt (bo l e).op=0/\∀d,(bo l e).dst=some d->d∉(bo l e).l4:=by
 simp only[dM,Bool.or_eq_false_iff,bne_eq_false_iff_eq]at h;refine⟨h.1,λd hd hu=>?_⟩;have h2:=h.2;rw[hd]at h2;simp only[List.any_eq_false,List.mem_range,Ba,Bool.not_eq_true',not_and,Bool.not_eq_false]at h2;have:=h2 e he (List.contains_iff_mem.2 hu);exact RU (List.contains_iff_mem.1 this)
def Cy{l:List aS}{K:St->Prop}{e:Nat}{its:List Nat}{x:St}(he:e<l.length):RE P l K (2*e::its) x↔TC P (bo l e) x (RE P l K its):=by
 have h1:2*e/2=e:=by omega
 have h2:2*e%2=0:=by omega
 rw[RE,h1,VH he];simp only[aK h2,bo,VH he,Option.getD_some]
def Ko{l:List aS}{K:St->Prop}{e:Nat}{its:List Nat}{x:St}(he:e<l.length):RE P l K ((2*e+1)::its) x↔QYd P (bo l e) x/\RE P l K its x:=by
 have h1:(2*e+1)/2=e:=by omega
 have h2:¬(2*e+1)%2=0:=by omega
 rw[RE,h1,VH he];simp only[aM h2,bo,VH he,Option.getD_some]
def tw{l:List aS}{K:St->Prop}{its:List Nat}{x:St}(p:Nat->Bool):∀{done:List Nat},(∀i∈done,i<l.length)->RE P l K ((done.filterMap λk=>if p k then some (2*k+1)else none)++its) x->
 (∀k∈done,p k=true->QYd P (bo l k) x)/\RE P l K its x
 |[],_,h=>⟨by simp,h⟩
 |a::r,hl,h=>by
  rw[List.filterMap_cons]at h;cases hp:p a with
  |false=>
   simp only[hp,iP,if_false]at h;obtain⟨h1,h2⟩:=tw p (λi hi=>hl i (by simp[hi])) h;refine⟨λk hk ZV=>?_,h2⟩;rcases dZ.1 hk with rfl|hk
   .rw[hp]at ZV;cases ZV
   .exact h1 k hk ZV
  |true=>
   simp only[hp,if_true,List.cons_append]at h;rw[Ko (hl a (by simp))]at h;obtain⟨h1,h2⟩:=tw p (λi hi=>hl i (by simp[hi])) h.2;refine⟨λk hk ZV=>?_,h2⟩;rcases dZ.1 hk with rfl|hk
   .exact h.1
   .exact h1 k hk ZV
section
variable {l:List aS} {R7 R1:List (List Nat)} {ord:List Nat} {K:St->Prop} (hE:EOkW l R7 R1 ord)
include hE
def EOkW.mem(i:Nat)(hi:i<l.length):i∈ord:=(u7 l.length ord hE.nodup hE.lt).2 hE.len i hi
def EOkW.nh{a:List Nat}{j:Nat}{b:List Nat}(he:ord=a++j::b):∀i∈fv R1 j,i∈a:=by
 have hc:∀m∈a,∀d∈R7.getD m [],d∈a:=λm hm d hd=>by
  obtain⟨a1,a2,rfl⟩:=List.append_of_mem hm;have:=hE.ahead a1 m (a2++j::b) (by rw[he];simp) d hd;simp[this]
 exact hE.closed hc hE.mem (a.length+1) a j b (by omega) he (λd hd=>hE.ahead a j b he d hd)
def EOkW.oq{j:Nat}(hj:j<l.length):j∉fv R1 j:=λh=>by
 obtain⟨a,b,he⟩:=List.append_of_mem (hE.mem j hj);have h1:=hE.nh he j h;have:=hE.nodup;rw[he]at this;have:=(List.nodup_append.1 this).2.2 j h1 j (by simp);exact this rfl
def tv{i:Nat}{x:St}{e:Nat}{v:V}{Z':ak}(hi:i<l.length)(he:e<l.length)(RU:i≠e)(hu:∀d,(bo l e).dst=some d->d∉(bo l i).l4)
 (hq:∀v,QY P (bo l i) x.s x.U v->QY P (bo l i) x.s Z' v)(h:QYd P (bo l i) x):QYd P (bo l i) ⟨aY x.s (bo l e).dst v,Z'⟩:=by
 unfold QYd at*;have hq':∀v',QY P (bo l i) x.s x.U v'->QY P (bo l i) (aY x.s (bo l e).dst v) Z' v':=λv' hv=>(gj hu).2 (hq v' hv);cases hd:(bo l i).dst with
 |none=>rw[hd]at h;obtain⟨v',h⟩:=h;exact⟨v',hq' v' h⟩
 |some d=>
  rw[hd]at h;simp only at h|-;have:aY x.s (bo l e).dst v d=x.s d:=by
   have:=hE.dsts i e hi he RU d hd;cases Zz:(bo l e).dst with
   |none=>rfl
   |some d'=>
    rw[Zz]at this;simp only[aY];rw[aM (λe'=>this (by rw[e']))]
  rw[this];exact hq' _ h
def kx.adv{L:List Nat}{y:St}:∀{rest done:List Nat} {x:St},kx P l R7 R1 ord K L y done rest x->
 ∃done' YF x',kx P l R7 R1 ord K L y done' YF x'/\∀h r,YF=h::r->dM l R1 h=true
 |[],done,x,h=>⟨done,[],x,h,by simp⟩
 |e::rest,done,x,h=>by
  cases UW:dM l R1 e with
  |true=>exact⟨done,e::rest,x,h,λa r he=>by cases he;exact UW⟩
  |false=>
   have V5:e<l.length:=hE.lt e (by rw[h.split];simp);obtain⟨hk,hself⟩:=iL UW V5 (hE.oq V5);have SI:=hE.nodup;rw[h.split]at SI;have hed:e∉done:=λhm=>(List.nodup_append.1 SI).2.2 e hm e (by simp) rfl;have ZA:e∉L:=λhm=>hed (h.sub e hm);have TY:=h.go;rw[eK,Cy V5,DF,aM (by simp[UW]),mL]at TY;have hT:T P (bo l e) x (RE P l K (eK l R1 (done++[e]) rest)):=by
    rcases TY with TY|⟨_,TY⟩
    .exact TY
    .exfalso;revert TY hk;generalize (bo l e).op=op;intro hk TY;split at TY
     .simp[bt]at hk
     .simp[bt]at hk
     .simp[bt]at hk
     .exact TY
   obtain⟨v,hv,ZC⟩:=(cD (by simp[fT,hk])).1 hT;refine kx.adv (rest:=rest) (done:=done++[e]) (x:=⟨aY x.s (bo l e).dst v,x.U⟩) ⟨by rw[h.split];simp,λi hi=>by simp[h.sub i hi],h.nodup,h.closed,λi hi Uf=>?_,h.store,λd hd=>?_,λi hi VT=>?_,ZC⟩
   .rcases fH.1 hi with hi|hi
    .exact h.T0 i hi Uf
    .simp only[jY]at hi;rw[hi,UW]at Uf;cases Uf
   .have h1:=h.slot d λi hi VT=>hd i (by simp[hi]) VT;have h2:=hd e (by simp) ZA;rw[h1];simp only;cases Zz:(bo l e).dst with
    |none=>rfl
    |some d'=>
     rw[Zz]at h2;simp only[aY];rw[aM (λe'=>h2 (by rw[e']))]
   .by_cases Uf:i=e
    .subst Uf;unfold QYd;cases hd:(bo l i).dst with
     |none=>exact⟨v,hv⟩
     |some d=>
      simp only;have e1:aY x.s (some d) v d=v:=by simp[aY]
      rw[e1];exact(gj (λt ht=>by cases ht;exact hself d hd)).2 hv
    .have L':i∈done:=by
      rcases fH.1 hi with hi|hi
      .exact hi
      .simp only[jY]at hi;exact absurd hi Uf
     have TM:i<l.length:=hE.lt i (by rw[h.split];simp[L']);refine tv hE TM V5 Uf (λd hd hu=>?_) (λv hv=>hv) (h.lag i L' VT);rcases hE.anti i e TM V5 Uf d hd hu with h1|⟨h1,_⟩
     .obtain⟨a,b,Vw⟩:=List.append_of_mem L';have h2:=hE.nh (a:=a) (j:=i) (b:=b++e::rest) (by rw[h.split,Vw];simp) e h1;exact hed (by rw[Vw];simp[h2])
     .rw[UW]at h1;cases h1
end
section
variable {l:List aS} {R7 R1:List (List Nat)} {ord:List Nat} {K:St->Prop} (hE:EOk l R7 R1 ord)
include hE
def qf:∀(f:Nat) (L:List Nat) (y:St) (done rest:List Nat) (x:St),f+L.length=l.length->kx P l R7 R1 ord K L y done rest x->jl P l R7 K f L y:=by
 intro f
 induction f with
 |zero=>
  intro L y done rest x hf h;have Tf:∀i,i<l.length->i∈L:=(u7 l.length L h.nodup λi hi=>hE.lt i (by rw[h.split];simp[h.sub i hi])).2 (by omega);have SI:=hE.nodup;rw[h.split]at SI;have UP:rest=[]:=by
   cases rest with
   |nil=>rfl
   |cons e r=>
    exfalso;have V5:e<l.length:=hE.lt e (by rw[h.split];simp);exact(List.nodup_append.1 SI).2.2 e (h.sub e (Tf e V5)) e (by simp) rfl
  subst UP;have hyx:y=x:=by
   obtain⟨s,U⟩:=y;obtain⟨s',Z'⟩:=x;have h1:U=Z':=h.store;have h2:s=s':=funext λd=>h.slot d λi hi VT=>absurd (Tf i (hE.lt i (by rw[h.split];simp[hi]))) VT;rw[h1,h2]
  refine⟨?_,by rw[hyx];exact h.go⟩;unfold ef;rw[List.filter_eq_nil_iff];intro i hi;simp only[List.mem_range,hE.dlen]at hi;simp[Tf i hi]
 |succ f ih=>
  intro L y done rest x hf h;obtain⟨done,rest,x,h,Xs⟩:=kx.adv hE.toEOkW h;have SI:=hE.nodup;rw[h.split]at SI;have hmemL:∀i∈L,i<l.length:=λi hi=>hE.lt i (by rw[h.split];simp[h.sub i hi]);have key:uv P l (jl P l R7 K f) L y (ef R7 L):=by
   refine pQ λi hi=>?_;obtain⟨TM,VT,YG⟩:=tL hi;rw[hE.dlen]at TM;refine⟨bo l i,by simp[bo,VH TM],?_⟩;obtain⟨pa,pb,hpe⟩:=List.append_of_mem (hE.mem i TM);have Vd:∀j∈fv R1 i,j∈L:=hE.closed h.closed hE.mem (pa.length+1) pa i pb (by omega) hpe YG;have YH:∀u∈(bo l i).l4,x.s u=y.s u:=λu hu=>(h.slot u λj hj Wl hd=>by
    have UG:j<l.length:=hE.lt j (by rw[h.split];simp[hj]);by_cases TJ:j=i
    .subst TJ;cases TT:dM l R1 j with
     |true=>exact Wl (h.T0 j hj TT)
     |false=>exact(iL TT UG (hE.oq UG)).2 u hd hu
    .rcases hE.anti i j TM UG (λe=>TJ e.symm) u hd hu with h1|⟨h1,_⟩
     .exact Wl (Vd j h1)
     .exact Wl (h.T0 j hj h1)).symm
   by_cases L':i∈done
   .have Uf:dM l R1 i=false:=by
     cases Uf:dM l R1 i with
     |false=>rfl
     |true=>exact absurd (h.T0 i L' Uf) VT
    obtain⟨hk,_⟩:=iL Uf TM (hE.oq TM);have hq:=h.lag i L' VT;obtain⟨v,hv,hvd⟩:∃v,QY P (bo l i) x.s x.U v/\∀d,(bo l i).dst=some d->x.s d=v:=by
     unfold QYd at hq;cases hd:(bo l i).dst with
     |none=>rw[hd]at hq;obtain⟨v,hq⟩:=hq;exact⟨v,hq,by simp⟩
     |some d=>rw[hd]at hq;exact⟨_,hq,λd' e=>by cases e;rfl⟩
    refine .inl ((cD (by simp[fT,hk])).2 ⟨v,?_,?_⟩)
    .rw[h.store];exact zN YH hv
    .refine ih (i::L) _ done rest x (by simp only[TI];omega) ⟨h.split,λj hj=>?_,List.nodup_cons.2 ⟨VT,h.nodup⟩,λm hm d hd=>?_,λj hj TT=>by simp[h.T0 j hj TT],h.store,λd hd=>?_,λj hj Wl=>h.lag j hj (λhm=>Wl (by simp[hm])),h.go⟩
     .rcases dZ.1 hj with rfl|hj
      .exact L'
      .exact h.sub j hj
     .rcases dZ.1 hm with rfl|hm
      .simp[YG d hd]
      .simp[h.closed m hm d hd]
     .simp only;by_cases ZD:(bo l i).dst=some d
      .rw[ZD];simp only[aY];rw[aK trivial];exact(hvd d ZD).symm
      .have h1:=h.slot d λj hj Wl=>by
        by_cases TJ:j=i
        .rw[TJ];exact ZD
        .exact hd j hj (by simp[TJ,Wl])
       rw[<-h1];cases Zz:(bo l i).dst with
       |none=>rfl
       |some d'=>
        rw[Zz]at ZD;simp only[aY];rw[aM (λe'=>ZD (by rw[e']))]
   .have hir:i∈rest:=by
     have:=hE.mem i TM;rw[h.split]at this;exact(fH.1 this).resolve_left L'
    obtain⟨Wm,rr,rfl⟩:∃a r,rest=a::r:=by
     cases rest with
     |nil=>cases hir
     |cons a r=>exact⟨a,r,rfl⟩
    have UW:=Xs Wm rr rfl;have hh0:Wm∉done:=λhm=>(List.nodup_append.1 SI).2.2 Wm hm Wm (by simp) rfl;have hih:i=Wm:=by
     rcases dZ.1 hir with e|hir
     .exact e
     .exfalso;have:=hE.T0 (done++[Wm]) rr Wm i (by rw[h.split];simp) (by simp) hir UW;exact hh0 (h.sub _ (Vd _ this))
    subst hih;have TY:=h.go;rw[eK,Cy TM]at TY;refine yQ YH h.store.symm (λr Z' hK=>?_) TY;rw[DF,aK UW]at hK;obtain⟨hck,ZC⟩:=tw (λk=>!(dM l R1 k)&&(!(kY (bo l k).op)&&!((fv R1 i).contains k))) (λj hj=>hE.lt j (by rw[h.split];simp[hj])) hK;refine ih (i::L) _ (done++[i]) rr ⟨aY x.s (bo l i).dst r,Z'⟩ (by simp only[TI];omega) ⟨by rw[h.split];simp,λj hj=>?_,List.nodup_cons.2 ⟨VT,h.nodup⟩,λm hm d hd=>?_,λj hj TT=>?_,rfl,λd hd=>?_,λj hj Wl=>?_,ZC⟩
    .rcases dZ.1 hj with rfl|hj
     .simp
     .simp[h.sub j hj]
    .rcases dZ.1 hm with rfl|hm
     .simp[YG d hd]
     .simp[h.closed m hm d hd]
    .rcases fH.1 hj with hj|hj
     .simp[h.T0 j hj TT]
     .simp only[jY]at hj;simp[hj]
    .have h1:(bo l i).dst=some d\/y.s d=x.s d:=by
      by_cases ZD:(bo l i).dst=some d
      .exact .inl ZD
      .exact .inr (h.slot d λj hj Wl=>hd j (by simp[hj]) (by
        simp only[dZ,not_or];exact⟨λe=>L' (e▸hj),Wl⟩))
     simp only;cases Zz:(bo l i).dst with
     |none=>rw[Zz]at h1;exact h1.resolve_left (by simp)
     |some d'=>
      simp only[aY];split
      .rfl
      .rename_i RU;rw[Zz]at h1;exact h1.resolve_left (λe=>RU (by cases e;rfl))
    .have hjd:j∈done:=by
      rcases fH.1 hj with hj|hj
      .exact hj
      .simp only[jY]at hj;exact absurd (by simp[hj]) Wl
     have XQ:j∉L:=λhm=>Wl (by simp[hm]);have UG:j<l.length:=hE.lt j (by rw[h.split];simp[hjd]);have TJ:j≠i:=λe=>L' (e▸hjd);have TT:dM l R1 j=false:=by
      cases TT:dM l R1 j with
      |false=>rfl
      |true=>exact absurd (h.T0 j hjd TT) XQ
     cases hsf:kY (bo l j).op with
     |true=>
      refine tv hE.toEOkW UG TM TJ (λd hd hu=>?_) (λv hv=>kP hsf hv) (h.lag j hjd XQ);rcases hE.anti j i UG TM TJ d hd hu with h1|⟨_,h1⟩
      .obtain⟨a,b,Vw⟩:=List.append_of_mem hjd;have h2:=hE.nh (a:=a) (j:=j) (b:=b++i::rr) (by rw[h.split,Vw];simp) i h1;exact L' (by rw[Vw];simp[h2])
      .exact XQ (Vd j h1)
     |false=>
      refine hck j hjd ?_;simp only[TT,hsf,Bool.not_false,Bool.true_and,Bool.not_eq_true'];cases hc:(fv R1 i).contains j with
      |false=>rfl
      |true=>exact absurd (Vd j (List.contains_iff_mem.1 hc)) XQ
  cases hr:ef R7 L with
  |cons a r=>unfold jl;rw[hr]at key|-;exact key
  |nil=>
   exfalso;have:∃i,i∈ord/\i∉L:=by
    by_cases hx:∃i,i∈ord/\i∉L
    .exact hx
    .exfalso;have G':∀i∈ord,i∈L:=λi hi=>Classical.byContradiction λhn=>hx ⟨i,hi,hn⟩;have h1:=hE.nodup.length_le_of_subset G';have:=hE.len;omega
   obtain⟨i,hi,VT⟩:=this;have first:∀(a b:List Nat),ord=a++b->(∀j∈a,j∈L)->(∃i∈b,i∉L)->∃a' e b',ord=a'++e::b'/\(∀j∈a',j∈L)/\e∉L:=by
    intro a b
    induction b generalizing a with
    |nil=>rintro _ _ ⟨i,h,_⟩;cases h
    |cons e b ihb=>
     intro he ha hx;by_cases ZA:e∈L
     .refine ihb (a++[e]) (by rw[he];simp) (λj hj=>?_) ?_
      .rcases fH.1 hj with hj|hj
       .exact ha j hj
       .simp only[jY]at hj;rw[hj];exact ZA
      .obtain⟨i,hi,VT⟩:=hx;rcases dZ.1 hi with rfl|hi
       .exact absurd ZA VT
       .exact⟨i,hi,VT⟩
     .exact⟨a,e,b,he,ha,ZA⟩
   obtain⟨a,e,b,he,ha,ZA⟩:=first [] ord rfl (by simp) ⟨i,hi,VT⟩
   have V5:e<l.length:=hE.lt e (by rw[he];simp);have:e∈ef R7 L:=by
    unfold ef;refine xz.2 ⟨by simp[hE.dlen,V5],?_⟩;simp only[Ba,Bool.not_eq_true',fL];refine⟨by simpa using ZA,λd hd=>?_⟩;simpa using ha d (hE.ahead a e b he d hd)
   rw[hr]at this;cases this
end
def aq.xG(hm:P.follows .mixedOrders=true){l:List aS}{R7:List (List Nat)}(ord:List Nat)(R1:List (List Nat))(its:List Nat)(hB:eOk l R7 R1 ord=true)(hi:eK l R1 [] ord=its)
 (h:RE P l (λx=>aq P n k x Q) its st):aq P n (.code (.Wv l R7)::k) st Q:=by
 have hE:=Af hB;refine aq.Jz hm (qf hE l.length [] st [] ord st (by simp) ⟨rfl,by simp,List.nodup_nil,by simp,by simp,rfl,λ_ _=>rfl,by simp,by rw[hi];exact h⟩)
def RE.seg{l:List aS}{K:St->Prop}(rest:List Nat):∀(idx:List Nat) (sg:List aS) {x:St},(idx.map λm=>l[m/2]?)=sg.map some->(idx.all λm=>m%2==0)=true->
 Go P n (.d sg [.stop (RE P l K rest)]) x (λ_=>False)->RE P l K (idx++rest) x
 |[],[],_,_,_,h=>h
 |[],_::_,_,h,_,_=>by simp at h
 |_::_,[],_,h,_,_=>by simp at h
 |m::idx,i::sg,x,h,hev,hg=>by
  simp only[fC,List.cons.injEq]at h;simp only[xL,Ba,beq_iff_eq]at hev;show RE P l K (m::(idx++rest)) x;rw[RE,h.1];simp only[aK hev.1];exact .inl (T.mono (λx' Sg=>RE.seg rest idx sg h.2 (by simpa using hev.2) Sg) hg)
def cU{P:Program}{n:Nat}{l:List aS}{K:St->Prop}(rest:List Nat)(idx:List Nat)(sg:List aS){x:St}(h:(idx.map λm=>l[m/2]?)=sg.map some)(he:(idx.all λm=>m%2==0)=true)(hg:step P Th.nothing n 300 (.d sg [.stop (RE P l K rest)]) x (λ_=>False)):RE P l K (idx++rest) x:=RE.seg rest idx sg h he (sG hg)
def RE.call{l:List aS}{K:St->Prop}{m:Nat}{rest:List Nat}{x:St}{i:aS}(hi:l[m/2]?=some i)(hm:m%2=0){fx:VX}{xs:List VX}(hw:bn x.s i.g=some true)(ho:i.op=.call fx xs){f:FuncId}{caps:List V}(hf:fx.ev x.s=.fn f caps)
 {Post:V->ak->Prop}(hc:aB P f (xs.map (·.ev x.s)++caps) x.U Post)(h:∀r Z',Post r Z'->RE P l K rest ⟨aY x.s i.dst r,Z'⟩):RE P l K (m::rest) x:=by
 rw[RE,hi];simp only[aK hm];exact .inr ⟨hw,by rw[ho];exact⟨f,caps,Post,hf,hc,h⟩⟩
def RE.FQ{l:List aS}{K:St->Prop}{m:Nat}{rest:List Nat}{x:St}{i:aS}(hi:l[m/2]?=some i)(hm:m%2=0){fx:VX}{xs:List VX}(hw:bn x.s i.g=some true)(ho:i.op=.call fx xs){f:FuncId}{caps:List V}(hf:fx.ev x.s=.fn f caps)
 {v:V}(hc:aB P f (xs.map (·.ev x.s)++caps) x.U λr Z'=>r=v/\Z'=x.U)(h:RE P l K rest ⟨aY x.s i.dst v,x.U⟩):RE P l K (m::rest) x:=
 RE.call hi hm hw ho hf hc λr Z' ⟨h1,h2⟩=>by subst h1;subst h2;exact h
def Wt{P:Program}{l:List aS}{K:St->Prop}{m:Nat}{rest:List Nat}{x:St}{i:aS}{fx:VX}{xs:List VX}{f:FuncId}{caps:List V}{v:V}(hw:(l[m/2]?,m%2,bn x.s i.g,i.op,fx.ev x.s)=(some i,0,some true,.call fx xs,.fn f caps))(hc:aB P f (xs.map (·.ev x.s)++caps) x.U λr Z'=>r=v/\Z'=x.U)(h:RE P l K rest ⟨aY x.s i.dst v,x.U⟩):RE P l K (m::rest) x:=RE.FQ (congrArg (·.1) hw) (congrArg (·.2.1) hw) (congrArg (·.2.2.1) hw) (congrArg (·.2.2.2.1) hw) (congrArg (·.2.2.2.2) hw) hc h
def RE.chk{l:List aS}{K:St->Prop}{m:Nat}{rest:List Nat}{x:St}{i:aS}(hi:l[m/2]?=some i)(hm:m%2=1){d:Nat}(hd:i.dst=some d)(hw:bn x.s i.g=some true)(hk:bt i.op=0)(hp:ga x.s i.op)
 (hv:aT x.U x.s i.op=some (x.s d))(h:RE P l K rest x):RE P l K (m::rest) x:=by
 rw[RE,hi];simp only[hm,Nat.one_ne_zero,if_false];refine⟨?_,h⟩;unfold QYd;rw[hd];refine .inl ⟨hw,?_⟩;unfold QO;simp only[hk];exact⟨hp,hv⟩
def dI{P:Program}{l:List aS}{K:St->Prop}{m:Nat}{rest:List Nat}{x:St}{i:aS}{d:Nat}(hw:(l[m/2]?,m%2,i.dst,bn x.s i.g,bt i.op)=(some i,1,some d,some true,0))(hv:aT x.U x.s i.op=some (x.s d))(h:RE P l K rest x)(hp:ga x.s i.op:=by exact trivial):RE P l K (m::rest) x:=RE.chk (congrArg (·.1) hw) (congrArg (·.2.1) hw) (congrArg (·.2.2.1) hw) (congrArg (·.2.2.2.1) hw) (congrArg (·.2.2.2.2) hw) hp hv h
variable {P:Program} {n:Nat} {st:St} {Q:St->Prop} {k:List It}
def aq.PG{k1 k2:List It}(τ:St->Prop)(h1:aq P n (k1++[.stop τ]) st Q)(h2:∀st,τ st->aq P n k2 st Q):aq P n (k1++k2) st Q:=by
 intro F hn kt hk a w hs;obtain⟨kt1,kt2,rfl,SV,Ti⟩:=List.map_eq_append_iff.1 hk;have key:∀(kt:List KI) e a w,lH P F Q (kt++[.stop τ]) e a w->lH P F Q (kt++kt2) e a w:=by
  intro kt
  induction kt with
  |nil=>
   intro e a w h;simp only[mL]at h|-;cases e with
   |normal=>obtain⟨st,h3,h4⟩:=h;exact h2 st h3 F hn kt2 Ti a w h4
   |ret=>obtain⟨_,h3⟩:=h;exact lI h3 kt2
   |_=>obtain⟨h3,_⟩:=h;rcases h3 with h3|h3<;>cases h3
  |cons y kt ih=>
   intro e a w h;cases y with
   |code c=>cases e<;>first|exact wpIn_mono h ih|exact ih _ _ _ h
   |inBlock id=>
    cases e<;>simp only[List.cons_append,lH,Exit.inBlock]at h|-<;>(try split at h)<;>(try split)<;>first|exact ih _ _ _ h|contradiction
   |stop μ=>cases e<;>first|exact h|exact ih _ _ _ h
   |ops all l=>cases e<;>first|exact nF ih l a w h|exact ih _ _ _ h
 exact key kt1 _ a w (h1 F hn (kt1++[.stop τ]) (by simp[KI.it,SV]) a w hs)
def aq.kE{x:bP}{id:Nat}(τ:St->Prop)(μ:Nat->St->Prop)(m:Nat)(h0:μ m st)
 (hr:∀m st,μ m st->aq P n (.code x::.stop (λUC=>∃m',m'<m/\μ m' UC)::[.inBlock id,.stop τ]) st Q)(h2:∀st,τ st->aq P n k st Q):
 aq P n (.code (.loop x)::.inBlock id::k) st Q:=
 aq.PG (P:=P) (n:=n) (Q:=Q) (st:=st) (k1:=[.code (.loop x),.inBlock id]) (k2:=k) τ (aq.loop μ m h0 hr) h2
open Go.Proofs
def Iv{f:RS}{s:Sn}(hf:f.ok)(h:SJ s.a/\SJ s.b):SJ (gI f s).a/\SJ (gI f s).b:=by
 obtain⟨⟨x1,x2⟩,_,⟨w1,w2⟩,_⟩:=hf;obtain⟨⟨a1,a2⟩,b1,b2⟩:=h;unfold gI;split
 .exact⟨⟨by simp only;omega,by simp only;omega⟩,b1,b2⟩
 .exact⟨⟨a1,a2⟩,by simp only;omega,by simp only;omega⟩
def AW:∀{l:List RS} {s:Sn},(∀f∈l,f.ok)->SJ s.a/\SJ s.b->SJ (l.foldl (λs f=>gI f s) s).a/\SJ (l.foldl (λs f=>gI f s) s).b
 |[],_,_,h=>h
 |f::l,s,hl,h=>AW (l:=l) (λg hg=>hl g (by simp[hg])) (Iv (hl f (by simp)) h)
def jf{l:List RS}{y high:Int}{s:Sn}(hl:∀f∈l,f.ok)(h:SJ s.a/\SJ s.b):SJ (bM l y high s).a/\SJ (bM l y high s).b:=
 AW (λf hf=>hl f (xz.1 hf).1) h
def vC{s:Sn}:∀{l:List RS},(∀f∈l,gI f s=s)->l.foldl (λs f=>gI f s) s=s
 |[],_=>rfl
 |f::l,h=>by rw[jK,h f (by simp)];exact vC λg hg=>h g (by simp[hg])
def oZ(s:Sn):∀(l:List RS) (a:Int×Bool),(l.foldl (iN s) a=a\/∃f∈l,l.foldl (iN s) a=(f.y+f.h,true))/\(a.2=true->(l.foldl (iN s) a).2=true)/\((∃f∈l,gI f s≠s)->(l.foldl (iN s) a).2=true)
 |[],a=>⟨.inl rfl,id,by simp⟩
 |f::l,a=>by
  obtain⟨h1,h2,h3⟩:=oZ s l (iN s a f);have hf:iN s a f=a\/iN s a f=(f.y+f.h,true):=by unfold iN;split<;>simp
  refine⟨?_,λha=>h2 ?_,?_⟩
  .rw[jK];rcases h1 with h1|⟨g,hg,h1⟩
   .rw[h1];rcases hf with hf|hf
    .exact .inl hf
    .exact .inr ⟨f,by simp,hf⟩
   .exact .inr ⟨g,by simp[hg],h1⟩
  .rcases hf with hf|hf<;>rw[hf]
   exact ha
  .rintro⟨g,hg,RU⟩;rcases dZ.1 hg with rfl|hg
   .refine h2 ?_;unfold iN;split
    .rename_i h;exact(h.resolve_left RU).1
    .rfl
   .exact h3 ⟨g,hg,RU⟩
def DL{y high:Int}{f:RS}(h:ep y high f=true):y<f.y+f.h:=by
 refine Classical.byContradiction λhn=>?_;have:nL ⟨f.y,f.y+f.h⟩ ⟨y,y+max high 1⟩=⟨0,0⟩:=by
  unfold nL;rw[aK];simp only;omega
 simp[ep,this]at h
def eW{l:List RS}{y high:Int}{s:Sn}(h:(cz l y high s).2=true):∃f∈l,y<f.y+f.h/\(cz l y high s).1=f.y+f.h:=by
 rcases(oZ s (l.filter (ep y high)) (0,false)).1 with h1|⟨f,hf,h1⟩
 .unfold cz at h;rw[h1]at h;cases h
 .obtain⟨hl,hm⟩:=xz.1 hf;exact⟨f,hl,DL hm,by unfold cz;rw[h1]⟩
def mu{l:List RS}{y high:Int}{s:Sn}(h:bM l y high s≠s):(cz l y high s).2=true:=by
 refine(oZ s (l.filter (ep y high)) (0,false)).2.2 (Classical.byContradiction λhn=>h (vC λf hf=>Classical.byContradiction λhe=>hn ⟨f,hf,he⟩))
def WH(l:List RS)(y:Int):Nat:=(l.filter λf=>decide (y<f.y+f.h)).length
def filter_lt{α:Type}{p q:α->Bool}(hpq:∀x,q x=true->p x=true):∀{l:List α},(l.filter q).length<=(l.filter p).length/\((∃x∈l,p x=true/\q x=false)->(l.filter q).length<(l.filter p).length)
 |[]=>by simp
 |a::l=>by
  obtain⟨h1,h2⟩:=filter_lt hpq (l:=l);cases hp:p a<;>cases hq:q a
  .simp only[List.filter_cons,hp,hq,iP,if_false];refine⟨h1,?_⟩;rintro⟨x,hx,h3,h4⟩;rcases dZ.1 hx with rfl|hx
   .rw[hp]at h3;cases h3
   .exact h2 ⟨x,hx,h3,h4⟩
  .rw[hpq a hq]at hp;cases hp
  .simp only[List.filter_cons,hp,hq,iP,if_false,if_true,TI];exact⟨by omega,λ_=>by omega⟩
  .simp only[List.filter_cons,hp,hq,if_true,TI];refine⟨by omega,?_⟩;rintro⟨x,hx,h3,h4⟩;rcases dZ.1 hx with rfl|hx
   .rw[hq]at h4;cases h4
   .have:=h2 ⟨x,hx,h3,h4⟩;omega
def my{l:List RS}{y z:Int}(h:∃f∈l,y<f.y+f.h/\z=f.y+f.h):WH l z<WH l y:=by
 obtain⟨f,hf,h1,rfl⟩:=h;exact(filter_lt (p:=λg:RS=>decide (y<g.y+g.h)) (q:=λg:RS=>decide (f.y+f.h<g.y+g.h)) (λg hg=>by simp at hg|-;omega) (l:=l)).2 ⟨f,hf,by simpa using h1,by simp⟩
def mF(l:List RS)(w high:Int)(s:Sn)(y:Int):Bool:=decide (w<=fj (bM l y high s))||decide (bM l y high s=s)
def j2(l:List RS)(w high:Int)(s:Sn):Nat->Int->Int
 |0,y=>y
 |k+1,y=>if mF l w high s y then y else j2 l w high s k (cz l y high s).1
def fN(l:List RS)(w high:Int)(s:Sn)(y:Int):Int:=j2 l w high s l.length y
def x9{l:List RS}{y high:Int}{s:Sn}(hl:∀f∈l,f.ok)(h:(cz l y high s).2=true):SJ (cz l y high s).1:=by
 obtain⟨f,hf,_,e⟩:=eW h;obtain⟨_,⟨a1,a2⟩,_,b1,b2⟩:=hl f hf;rw[e];exact⟨by omega,by omega⟩
def sq(l:List RS)(high y:Int)(s:Sn):V:=.agg [vI s.a,vI s.b,bg l,vI high,vI y]
def CK(l:List RS)(high y:Int)(s:Sn)(hl:l.length<=1000000)(RP:∀f∈l,f.ok)(hy:SJ y)(hh:Bq high):aV prog 207 [sq l high y s] (aW (bM l y high s)):=λU=>by
 refine Q1.q ?_;have hs:=aa.refl U;refine aq.mix 3 ?_;have e1:(bg l).cells=[bg l]:=rfl;have e2:(bg l).stays=true:=rfl;apply sR;simp only[go_sem,seval,Ot,sq,e1,e2];refine aG hs λi1 Z1 s1 a1 f1 z1 hs=>?_;simp only[go_sem,seval,a1,e1,e2];refine aG hs λi2 Z2 s2 a2 f2 z2 hs=>?_;obtain⟨n12,a1⟩:=RC a1 f2 s2;simp only[go_sem,seval,a2,a1];refine pS rfl (CZ l y high s hl RP hy hh _) ?_;simp only[go_sem,seval,a2,aW];exact az.pure (hs.aL z2) rfl
def I8(l:List RS)(w high y:Int)(s:Sn)(hl:l.length<=1000000)(RP:∀f∈l,f.ok)(hy:SJ y)(hh:Bq high)(Tg:SJ s.a/\SJ s.b):aV prog 205 [sq l high y s,vI w] (.bool (mF l w high s y)):=λU=>by
 refine QR.q ?_;have hs:=aa.refl U;refine aq.mix 5 ?_;have hb:=CK l high y s hl RP hy hh;have hlen:=F5 (bM l y high s) (jf RP Tg).1 (jf RP Tg).2;unfold mF;generalize bM l y high s=b at*;have e1:(bg l).cells=[bg l]:=rfl;have e2:(bg l).stays=true:=rfl;apply sR;simp only[go_sem,seval,NW,sq,e1,e2];refine aG hs λi2 Z2 s2 a2 f2 z2 hs=>?_;simp only[go_sem,seval,a2,e1,e2];refine pJ rfl hb ?_;apply sG;simp only[go_sem,seval];refine pJ rfl hlen ?_;by_cases h1:w<=fj b
 .have q:(w<=fj b)=True:=RA h1;apply sG;simp only[go_sem,seval,q,a2];exact az.pure hs (by simp[h1])
 .have q:(w<=fj b)=False:=H' h1;apply sG;simp only[go_sem,seval,q,a2];refine pJ rfl hb ?_;obtain⟨b1,b2⟩:=b;obtain⟨s1,s2⟩:=s;apply sG;simp only[go_sem,seval,a2,aW];refine az.pure hs ?_;by_cases h2:b1=s1<;>by_cases h3:b2=s2<;>simp[h1,h2,h3]
def EB(l:List RS)(w high y:Int)(s:Sn)(hl:l.length<=1000000)(RP:∀f∈l,f.ok)(hy:SJ y)(hh:Bq high)(Tg:SJ s.a/\SJ s.b):
 aV prog 177 [bg l,vI w,vI high,vI y,aW s] (.RM [aW (bM l (fN l w high s y) high s),vI (fN l w high s y)]):=λU=>by
 refine Rq.q ?_;have hs:=aa.refl U;refine aq.mix 13 ?_;have e1:(bg l).cells=[bg l]:=rfl;have e2:(bg l).stays=true:=rfl;apply sR;simp only[go_sem,seval,NS,aW];refine aG hs λi9 Y9 s9 a9 f9 z9 hs=>?_;simp only[go_sem,seval,a9];refine aG hs λi10 XP To RZ f10 Uq hs=>?_;obtain⟨UU,a9⟩:=RC a9 f10 To;simp only[go_sem,seval,RZ,a9,e1,e2];refine aG hs λi12 Y12 Xt a12 f12 z12 hs=>?_;obtain⟨XR,a9⟩:=RC a9 f12 Xt;obtain⟨VB,RZ⟩:=RC RZ f12 Xt;simp only[go_sem,seval,a12,RZ,a9,e1,e2];generalize Tj:C' _ i12 _=Z12;replace a12:=SR Tj;replace a9:=R6 Tj XR a9;replace RZ:=R6 Tj VB RZ;replace hs:=SL Tj hs z12;obtain⟨z,hz⟩:∃z,z=fN l w high s y:=⟨_,rfl⟩
 rw[<-hz];refine aq.kE (λst=>∃J,st.U=J/\aa U J/\J i12=some ⟨273,5,[sq l high z s]⟩/\J i10=some ⟨195,2,[.agg [vI 0,vI 0]]⟩/\st.s 10=.ptr i10 0 0/\st.s 12=.ptr i12 0 0/\SJ z)
  (λm st=>∃(y':Int) (k:Nat),m=WH l y'/\WH l y'<=k/\z=j2 l w high s k y'/\SJ y'/\aa U st.U/\st.U i12=some ⟨273,5,[sq l high y' s]⟩/\st.U i10=some ⟨195,2,[.agg [vI 0,vI 0]]⟩/\st.s 1=vI w/\st.s 10=.ptr i10 0 0/\st.s 12=.ptr i12 0 0) (WH l y) ?_ ?_ ?_
 .exact⟨y,l.length,rfl,List.length_filter_le _ _,hz,hy,hs,a12,RZ,rfl,rfl,rfl⟩
 .rintro m ⟨S,J⟩ ⟨y',k,rfl,hk,hzk,hy',hs,Yg,b10,k1,SQ,SF⟩;simp only at hs Yg b10 k1 SQ SF;refine aq.mix 13 ?_;rw[sq]at Yg;apply sR;simp only[go_sem,seval,k1,SQ,SF,Yg,e1,e2];refine pR rfl (I8 l w high y' s hl RP hy' hh Tg _) ?_;cases hf:mF l w high s y'
  .have RU:bM l y' high s≠s:=λe=>by simp[mF,e]at hf
   have hfd:=mu RU;have hdec:=my (eW hfd);apply sR;simp only[go_sem,seval,k1,SQ,SF,Yg,e1,e2];refine pS rfl (Fm l y' high s hl RP hy' hh _) ?_;simp only[go_sem,seval,k1,SQ,SF,Yg,e1,e2];obtain⟨k',rfl⟩:∃k',k=k'+1:=⟨k-1,by omega⟩
   rw[j2,hf]at hzk;have n:i12≠i10:=VB.symm;refine⟨_,hdec,_,k',rfl,by omega,by simpa using hzk,x9 RP hfd,hs.aL z12,rfl,?_⟩;rw[ab VB];exact b10
  .have hzy:z=y':=by cases k<;>simp[j2,hf]at hzk<;>exact hzk
   subst hzy;apply sR;simp only[go_sem,seval,k1,SQ,SF,Yg,e1,e2];exact⟨J,rfl,hs,Yg,b10,hy'⟩
 .rintro⟨S,J⟩ ⟨X',rfl,hs,Yg,b10,SQ,SF,hz2⟩;simp only at hs Yg b10 SQ SF;rw[sq]at Yg;refine mS 13 ?_;simp only[go_sem,seval,SQ,SF];refine aq.xG (by kernel_rfl) [0,2,3,1,4,5] [[],[0],[],[2],[0,1],[0,1,2,3,4]] [0,4,6,2,7,8,7,10] (by kernel_rfl) (by kernel_rfl) ?_;refine cU (n:=0) [2,7,8,7,10] [0,4,6] [_,_,_] rfl rfl ?_;simp only[go_sem,seval,SQ,SF,Yg,e1,e2];refine Wt rfl (CK l high z s hl RP hz2 hh _) ?_;refine dI rfl (by simp only[go_sem,seval,SQ,SF,Yg,b10,e1,e2]) ?_;refine cU (n:=0) [7,10] [8] [_] rfl rfl ?_;simp only[go_sem,seval,SQ,SF,Yg,b10,aW,e1,e2];refine dI rfl (by simp only[go_sem,seval,SQ,SF,Yg,b10,ab VB.symm,e1,e2]) ?_;refine cU (n:=0) [] [10] [_] rfl rfl ?_;simp only[go_sem,seval,SQ,SF,Yg,b10,aW,e1,e2];apply sR;simp only[go_sem,seval,SQ,SF,av,aW];exact az.pure (hs.aL Uq) rfl
open Go.Proofs
def mW(e sz b:Nat):RB:=⟨8,.seq (.VL false [⟨some 2,.VK (.c .bj),none⟩]) (.seq (.seq (.VL false [⟨some 3,.VK (.t 0),none⟩,⟨some 4,.U4 false (.t 3) (.c (.iface 0 .undef)),none⟩]) (.cond (.t 4) (.seq (.VL false [⟨some 2,.VK (.c .bj),none⟩]) .ret) .skip)) (.seq (.VL false [⟨some 5,.iC e sz [],none⟩,⟨some 6,.VK (.t 0),none⟩,⟨some 7,.append e sz b (.t 5) (.t 6),none⟩,⟨some 2,.VK (.t 7),none⟩]) .ret)),[.tmp (.t 2)]⟩
def AH{P:Program}{f:FuncId}{fn:Func}(hf:P.funcs[f]?=some fn){e sz b:Nat}(hc:cfn P fn=some (mW e sz b))(hk:gg P f=true)(rows:List V)(hb:rows.length*(b+1)<=140737488355328)(U:ak):
 aB P f [.sl sz rows] U λr Z'=>aa U Z'/\aP U Z' e sz r rows:=by
 refine aB.nY hf hc hk (by simp[mW]) ?_;refine aq.mix 3 ?_
 (refine aq.bx Th.nothing 8 ?_;simp only[go_sem,seval,pA,mW])
 refine aq.Em rfl rfl rfl λt ht=>?_;cases t
 .apply sR;simp only[go_sem,seval];refine aD λVz Z1 s1 a1 f1=>?_;obtain⟨idA,hd,RO⟩:=(aP.new (K:=U) (e:=e) (sz:=sz) (n:=0) (rows:=[]) rfl a1 f1).dst (aa.refl _);have XJ:∀U,cB U sz (.sl sz rows)=some rows:=λU=>by simp[cB]
  simp only[go_sem,seval,hd,XJ,hb];refine bk λWY Z2 s2 a2 f2=>?_;have UF:=(RO U (aa.refl _) Z1 s1).trans s2;simp only[go_sem,seval];exact SG ⟨UF,aP.new (by simp) a2 (s1.none f2)⟩
 .apply sR;simp only[go_sem,seval];obtain rfl:rows=[]:=ht rfl;exact SG ⟨aa.refl _,aP.start⟩
def zM{P:Program}{f:FuncId}{fn:Func}(hf:P.funcs[f]?=some fn){e sz b:Nat}(hc:cfn P fn=some (mW e sz b))(hk:gg P f=true)(rows:List V)(hb:rows.length*(b+1)<=140737488355328):
 aV P f [.sl sz rows] (.sl sz rows):=λU=>(AH hf hc hk rows hb U).yq λ_ _ h=>h.2.ns h.1 rfl
def aA(l:List RS):(bg l).cells=[bg l]:=rfl
def aC(l:List RS):(bg l).stays=true:=rfl
def kA{tell:RS->Int×Bool}{l:List RS}(h:(cu tell l).2=true):∃f∈l,(cu tell l).1=(tell f).1/\(tell f).2=true:=by
 have key:∀(l:List RS) (a:Int×Bool),l.foldl (gU tell) a=a\/∃f∈l,l.foldl (gU tell) a=((tell f).1,true)/\(tell f).2=true:=by
  intro l
  induction l with
  |nil=>intro a;exact .inl rfl
  |cons g l ih=>
   intro a;rw[jK];rcases ih (gU tell a g)with h|⟨f,hf,h,h'⟩
   .rw[h];unfold gU;split
    .rename_i hc;exact .inr ⟨g,by simp,rfl,hc.1⟩
    .exact .inl rfl
   .exact .inr ⟨f,by simp[hf],h,h'⟩
 rcases key l (0,false)with h1|⟨f,hf,h1,h2⟩
 .unfold cu at h;rw[h1]at h;cases h
 .exact⟨f,hf,by unfold cu;rw[h1],h2⟩
def kK(l:List RS)(w high:Int)(s:Sn)(y:Int):Bool:=!(cz l y high s).2||decide (fj (bM l y high s)>=w)
def iM(l:List RS)(w high:Int)(s:Sn):Nat->Int->Int
 |0,y=>y
 |k+1,y=>if kK l w high s y then y else iM l w high s k (cz l y high s).1
def qp(l:List RS)(w high:Int)(s:Sn)(y:Int):Int:=iM l w high s l.length y
def AA(f:RS)(l:List RS)(s:Sn):V:=.agg [vI f.node,vI f.side,vI f.anchor,vI f.x,vI f.y,vI f.w,vI f.h,bg l,vI s.a,vI s.b]
def HR(l:List RS)(f:RS)(y:Int)(s:Sn)(hl:l.length<=1000000)(RP:∀f∈l,f.ok)(hy:SJ y)(hh:Bq f.h)(Tg:SJ s.a/\SJ s.b):
 aV prog 229 [AA f l s,vI y] (.RM [aW (bM l (qp l f.w f.h s y) f.h s),vI (qp l f.w f.h s y)]):=λU=>by
 refine QJ.q ?_;have hs:=aa.refl U;refine mS 9 ?_;simp only[go_sem,seval,OE,AA,aA,aC];refine aG hs λi2 Z2 s2 a2 f2 z2 hs=>?_;simp only[go_sem,seval,a2,aA,aC];refine aG hs λi4 Z4 s4 a4 f4 z4 hs=>?_;obtain⟨YW,a2⟩:=RC a2 f4 s4;simp only[go_sem,seval,a4,a2];obtain⟨z,hz⟩:∃z,z=qp l f.w f.h s y:=⟨_,rfl⟩
 rw[<-hz];refine aq.loop (λm st=>∃(y':Int) (k:Nat),m=WH l y'/\WH l y'<=k/\z=iM l f.w f.h s k y'/\SJ y'/\aa U st.U/\st.U i2=some ⟨290,10,[AA f l s]⟩/\st.U i4=some ⟨195,2,[.agg [vI 0,vI 0]]⟩/\st.s 1=vI y'/\st.s 2=.ptr i2 0 0/\st.s 4=.ptr i4 0 0) (WH l y) ?_ ?_
 .exact⟨y,l.length,rfl,List.length_filter_le _ _,hz,hy,hs,a2,a4,rfl,rfl,rfl⟩
 .rintro m ⟨S,J⟩ ⟨y',k,rfl,hk,hzk,hy',hs,b2,b4,k1,k2,k4⟩;simp only at hs b2 b4 k1 k2 k4;refine aq.mix 9 ?_;rw[AA]at b2;have hb:=jf (y:=y') (high:=f.h) RP Tg;apply sR;simp only[go_sem,seval,k1,k2,k4,b2,aA,aC];refine pS rfl (CZ l y' f.h s hl RP hy' hh _) ?_;simp only[go_sem,seval,aW];refine aD λi6 Z6 s6 a6 f6=>?_;have n26:=bb b2 f6;have n46:=bb b4 f6;replace b2:=s6 _ _ b2;replace b4:=s6 _ _ b4;obtain⟨z6,hs⟩:=Zv hs f6 s6;simp only[go_sem,seval,a6,b2,k1,k2,k4,ab n26,aA,aC];generalize hq:C' _ i6 _=Y6;have a6':=(congrFun hq i6).symm.trans av;have b2':=((congrFun hq i2).symm.trans (ab n26)).trans b2;have b4':=((congrFun hq i4).symm.trans (ab n46)).trans b4;replace hs:=Eq.subst (motive:=aa _) hq (hs.aL z6);refine pR rfl (Fm l y' f.h s hl RP hy' hh _) ?_;have hex:kK l f.w f.h s y'=true->z=y':=λh=>by cases k<;>simp[iM,h]at hzk<;>exact hzk
  have hlen:=F5 (bM l y' f.h s) hb.1 hb.2;have TY:kK l f.w f.h s y'=false->∃k',k=k'+1/\WH l (cz l y' f.h s).1<WH l y'/\z=iM l f.w f.h s k' (cz l y' f.h s).1/\SJ (cz l y' f.h s).1:=λh=>by
   have h2:(cz l y' f.h s).2=true:=by
    simp only[kK,Bool.or_eq_false_iff,Bool.not_eq_false']at h;exact h.1
   have hdec:=my (eW h2);obtain⟨k',rfl⟩:∃k',k=k'+1:=⟨k-1,by omega⟩
   rw[iM,h]at hzk;exact⟨k',rfl,hdec,by simpa using hzk,x9 RP h2⟩
  unfold kK at hex TY;cases hn:(cz l y' f.h s).2
  .rw[hn]at hex;obtain rfl:=hex (by simp);apply sR;simp only[go_sem,seval,k1,k2,k4,a6',b4',b2'];exact az.pure (hs.aL z4) rfl
  .rw[hn]at hex TY;apply sR;simp only[go_sem,seval,k1,k2,k4,a6',b2'];refine pJ rfl hlen ?_;by_cases hw:fj (bM l y' f.h s)>=f.w
   .have q:(fj (bM l y' f.h s)>=f.w)=True:=RA hw;obtain rfl:=hex (by simp[hw]);apply sG;simp only[go_sem,seval,k1,k2,k4,a6',b4',b2',q,aA,aC];exact az.pure (hs.aL z4) rfl
   .have q:(fj (bM l y' f.h s)>=f.w)=False:=H' hw;obtain⟨k',rfl,h1,h2,h3⟩:=TY (by simp[hw]);apply sG;simp only[go_sem,seval,k1,k2,k4,a6',b4',b2',q,aA,aC];refine⟨_,h1,_,k',rfl,by omega,h2,h3,hs,?_⟩;exact⟨by rw[AA],rfl⟩
structure WOk(ws:List Int)(space:Int):Prop where
 len:ws.length<=100000
 WZ:∀x∈ws,0<=x/\x<=1099511627776
 s0:0<=space
 s1:space<=1099511627776
def gT(space:Int):List Int->Nat->Int->List (Nat×Int)
 |[],_,_=>[]
 |x::r,k,n=>(k+1,n+space+x)::gT space r (k+1) (n+space+x)
def kB(space width:Int):List Int->Nat->Int->Nat×Int
 |[],k,n=>(k,n)
 |x::r,k,n=>if n+space+x>width then(k,n)else kB space width r (k+1) (n+space+x)
def iW(ws:List Int)(space width:Int)(i:Nat):Nat×Int:=kB space width (ws.drop (i+1)) (i+1) (ws.getD i 0)
def rV(space width:Int):∀(r:List Int) (k:Nat) (n:Int),k<=(kB space width r k n).1/\(kB space width r k n).1<=k+r.length
 |[],k,n=>by simp[kB]
 |x::r,k,n=>by
  rw[kB];split
  .simp
  .have:=rV space width r (k+1) (n+space+x);simp only[TI];omega
def sk{ws:List Int}{space width:Int}{i:Nat}(h:i<ws.length):i<(iW ws space width i).1/\(iW ws space width i).1<=ws.length:=by
 have:=rV space width (ws.drop (i+1)) (i+1) (ws.getD i 0);rw[DC]at this;unfold iW;omega
def WOk.get{ws:List Int}{space:Int}(h:WOk ws space){i:Nat}(hi:i<ws.length):0<=ws[i]/\ws[i]<=1099511627776:=h.WZ _ (Sx hi)
def wg(l:List Int):Int:=l.foldl (·+·) 0
def foldl_add(l:List Int):∀a:Int,l.foldl (·+·) a=a+wg l:=by
 unfold wg
 induction l with
 |nil=>intro a;simp
 |cons x l ih=>intro a;simp only[jK];rw[ih (a+x),ih (0+x)];omega
def sJ(a b:List Int):wg (a++b)=wg a+wg b:=by
 unfold wg;rw[nT,foldl_add];rfl
def vj(x:Int):wg [x]=x:=by simp[wg]
def jU(ws:List Int)(space:Int)(i j:Nat):Int:=((j:Int)-i-1)*space+wg ((ws.take j).drop i)
def Dt{ws:List Int}{space:Int}{i:Nat}(h:i<ws.length):jU ws space i (i+1)=ws[i]:=by
 unfold jU;rw[U0 h,Ad (by simp;omega),List.drop_of_length_le (by rw[lQ];omega),mL,vj];have:((i+1:Nat):Int)-i-1=0:=by omega
 rw[this];omega
def BF{ws:List Int}{space:Int}{i j:Nat}(Xu:i<=j)(h:j<ws.length):jU ws space i (j+1)=jU ws space i j+space+ws[j]:=by
 unfold jU;rw[U0 h,Ad (by simp;omega),sJ,vj];have:((j+1:Nat):Int)-i-1=((j:Int)-i-1)+1:=by omega
 rw[this,Int.add_mul];omega
def BJ{ws:List Int}{space width:Int}{i j:Nat}(Xu:i<j):
 kB space width (ws.drop j) j (jU ws space i j)=if j<ws.length/\jU ws space i (j+1)<=width then kB space width (ws.drop (j+1)) (j+1) (jU ws space i (j+1))else(j,jU ws space i j):=by
 by_cases h:j<ws.length
 .rw[jM h,kB,BF (by omega) h];by_cases hw:jU ws space i j+space+ws[j]<=width
  .rw[aM (by omega),aK ⟨h,hw⟩]
  .rw[aK (by omega),aM (λhh=>hw hh.2)]
 .rw[List.drop_of_length_le (by omega),kB,aM (λhh=>h hh.1)]
open Go.Proofs
def ldI(U:ak)(l:List Int):cQ U false 1 (.rp (aX l))=some (aX l):=rfl
def ae(l:List Int):(aX l).cells=[aX l]:=rfl
def af(l:List Int):(aX l).stays=true:=rfl
def dp{U:ak}{l:List Int}{i:Nat}(h:i<l.length):bG U 1 (aX l) (.int .i64 i)=some (.rp (vI l[i])):=by simp[aX,bG,h]
def db(l:List Int):ej false (aX l)=some (.int .i64 l.length):=by simp[aX,ej]
def kX(ws:List Int)(space:Int):V:=.agg [aX ws,vI space]
def J4(ws:List Int)(space:Int):ji false 0 1 (.rp (kX ws space))=some (.rp (aX ws)):=rfl
def JW(ws:List Int)(space:Int):ji false 1 1 (.rp (kX ws space))=some (.rp (vI space)):=rfl
def zX(ws:List Int)(space:Int):(kX ws space).cells=[aX ws,vI space]:=rfl
def AI(ws:List Int)(space:Int):(kX ws space).stays=true:=rfl
def L5(ws:List Int)(space i:Int):aV prog 239 [kX ws space,vI i] (.bool (decide (i<0\/i>=ws.length))):=λU=>by
 refine OW.q ?_;have hs:=aa.refl U;have hn:=db ws;apply sR;simp only[go_sem,seval,NV,kX,ae,af];refine aG hs λi2 Z2 s2 a2 f2 z2 hs=>?_;by_cases h:i<0
 .have q:(i<0)=True:=RA h;simp only[go_sem,seval,a2,q,ae,af];exact az.pure hs (by simp[h])
 .have q:(i<0)=False:=H' h;simp only[go_sem,seval,a2,q,hn,ae,af];exact az.pure hs (by simp[h])
def gv(l:List (Nat×Int)):List (List V):=l.map λp=>[vI p.1,vI p.2]
def Dx(ws:List Int)(space:Int)(hw:WOk ws space)(i:Nat)(hi:i<ws.length):Iter prog 247 [.rp (kX ws space),.rp (vI i)] (gv (gT space (ws.drop i) i (0-space))):=by
 refine⟨L7.c,λSo τ Jx Z0 hy hJ=>?_⟩;refine(L7.q ?_).2;have Ty:=hw.s0;have Tg:=hw.s1;have T1:=hw.len;have hn:=db ws;have r0:R0 .i64 (0-space):=ao;refine mS 6 ?_;simp only[BB,seval,<-decide_not,bt,ga,aT,eN,eR,eS,eP,eH,bU,lx,bF,gW,eV,gX,dE,dy,cj,jS,cV,cW,cN,Tm,ln,dN,bT,mN,dP,cG,dL,dx,lA,binBV,bY,dS,V.cells,V.stays,Th.nothing,Ma,ldI,J4,JW,r0];refine aq.loop (λm st=>∃(pre:List (Nat×Int)) (j:Nat) (n:Int) (ZJ:ak),m=ws.length-j/\i<=j/\j<=ws.length/\-1099511627776<=n/\n<=2199023255552*j/\gT space (ws.drop i) i (0-space)=pre++gT space (ws.drop j) j n/\
  τ (gv pre) ZJ/\aa ZJ st.U/\st.s 0=.yl So/\st.s 1=.rp (kX ws space)/\st.s 4=vI n/\st.s 5=vI j) (ws.length-i) ?_ ?_
 .exact⟨[],i,0-space,Z0,rfl,by omega,by omega,by omega,by omega,rfl,hJ,aa.refl _,rfl,rfl,rfl,rfl⟩
 .rintro m ⟨s,Z'⟩ ⟨pre,j,n,ZJ,rfl,Xu,hj,hn1,WT,U6,hJp,G',t0,t1,t4,t5⟩;simp only at G' t0 t1 t4 t5;refine aq.mix 6 ?_;by_cases u':j<ws.length
  .have q:=qT u';have hx:=hw.get u';have RF:=λU=>dp (U:=U) u';rw[jM u',gT]at U6;generalize ws[j]=w at*;have r1:R0 .i64 (space+w):=ao;have r2:R0 .i64 (n+(space+w)):=ao;have r3:=rI j;have en:n+space+w=n+(space+w):=by omega
   rw[en]at U6;have e:gv (gT space (ws.drop i) i (0-space))=gv pre++[vI ((j:Int)+1),vI (n+(space+w))]::gv (gT space (ws.drop (j+1)) (j+1) (n+(space+w))):=by rw[U6];simp[gv]
   apply sR;simp only[BB,seval,<-decide_not,bt,ga,aT,eN,eR,eS,eP,eH,bU,lx,bF,gW,eV,gX,dE,dy,cj,jS,cV,cW,cN,Tm,ln,dN,bT,mN,dP,cG,dL,dx,lA,binBV,bY,dS,V.cells,V.stays,Th.nothing,t0,t1,t4,t5,hn,q,ldI,J4,JW,RF,r1,r2,r3];refine aq.qq (Post:=λb Z2=>∃Sp,bE ZJ Z' Sp Z2/\((b=true/\τ (gv pre++[[vI ((j:Int)+1),vI (n+(space+w))]]) Sp)\/(b=false/\Jx (gv pre++[[vI ((j:Int)+1),vI (n+(space+w))]]) Sp))) rfl rfl rfl (hy _ _ _ ZJ Z' e hJp G') ?_;rintro b Z2 ⟨Sp,Uv,Ui⟩;rcases Ui with⟨rfl,Ui⟩|⟨rfl,Ui⟩
   .apply sR;simp only[go_sem,seval,t0,t1,t4,t5,r3];refine⟨_,?_,pre++[(j+1,n+(space+w))],j+1,n+(space+w),Sp,rfl,by omega,by omega,by omega,by omega,by rw[U6];simp,?_,Uv.1,by simp[t0,t1]⟩
    .omega
    .simpa[gv]using Ui
   .apply sR;simp only[go_sem,seval,t0,t1,t4,t5];refine⟨_,Sp,Uv.1,Wk.refl Uv.1 _,.inr ⟨_,?_,Ui⟩⟩;rw[e];exact⟨gv (gT space (ws.drop (j+1)) (j+1) (n+(space+w))),by simp⟩
  .have q:=qF u';apply sR;simp only[BB,seval,<-decide_not,bt,ga,aT,eN,eR,eS,eP,eH,bU,lx,bF,gW,eV,gX,dE,dy,cj,jS,cV,cW,cN,Tm,ln,dN,bT,mN,dP,cG,dL,dx,lA,binBV,bY,dS,V.cells,V.stays,Th.nothing,t0,t1,t4,t5,hn,q,ldI,J4,JW];rw[show ws.drop j=[]from List.drop_of_length_le (by omega),gT,j6]at U6;exact⟨_,ZJ,G',Wk.refl G' _,.inl (by rw[U6];exact hJp)⟩
def Kb(ws:List Int)(space:Int)(i:Int):aV prog 240 [kX ws space,vI i] (.fn 247 [.rp (kX ws space),.rp (vI i)]):=λU=>by
 refine P7.q ?_;refine aq.mix 4 ?_;have q1:=zX ws space;have q2:=AI ws space;have q3:(kX ws space).cells.length=2:=rfl;generalize hx:kX ws space=x at*;apply sR;simp only[go_sem,seval,Ns,q1,q2,q3];refine aD λVz Z1 s1 a1 f1=>?_;simp only[go_sem,seval];refine aD λWY Z2 s2 a2 f2=>?_;simp only[go_sem,seval];exact⟨_,U,s1.trans s2,Wk.fn (vs':=[.rp x,.rp (vI i)]) ⟨Wk.ptr (s1.trans s2) (s2 _ _ a1) f1,Wk.ptr (s1.trans s2) a2 (s1.none f2),trivial⟩,rfl,rfl⟩
open Go.Proofs
def rZ(i j n:Int):V:=.agg [vI i,vI j,vI n]
structure TkJ(ws:List Int)(space width:Int)(i:Nat)(U:ak)(WU id7 id8 id10:Nat)(pre:List (List V))(v:V)(ZJ:ak):Prop where
 sub:aa U ZJ
 r8:ZJ id8=some ⟨263,3,[.agg [vI 0,vI 0,vI 0]]⟩
 r6:ZJ WU=some ⟨3,1,[vI width]⟩
 r7:ZJ id7=some ⟨3,1,[vI i]⟩
 Yh:ZJ id10=some ⟨263,3,[v]⟩
 st:(pre=[]/\v=.agg [vI 0,vI 0,vI 0])\/∃n:Int,0<pre.length/\i+pre.length<=ws.length/\gv (gT space (ws.drop i) i (0-space))=pre++gv (gT space (ws.drop (i+pre.length)) (i+pre.length) n)/\
  iW ws space width i=kB space width (ws.drop (i+pre.length)) (i+pre.length) n/\v=.agg [vI i,vI (i+pre.length:Nat),vI n]
def Ii(ws:List Int)(space width:Int)(hw:WOk ws space)(i:Nat)(hi:i<ws.length):aV prog 222 [aX ws,vI space,vI width,vI i] (rZ i (iW ws space width i).1 (iW ws space width i).2):=λU=>by
 refine Qc.q ?_;have hs:=aa.refl U;have T1:=hw.len;refine mS 13 ?_;simp only[go_sem,seval,L6];refine aG hs λi6 Z6 s6 a6 f6 z6 hs=>?_;simp only[go_sem,seval,a6,ae,af];refine aG hs λi7 Z7 s7 a7 f7 z7 hs=>?_;obtain⟨TH,a6⟩:=RC a6 f7 s7;simp only[go_sem,seval,a7,a6,ae,af];refine aG hs λi8 Z8 s8 a8 f8 z8 hs=>?_;obtain⟨VU,a6⟩:=RC a6 f8 s8;obtain⟨VA,a7⟩:=RC a7 f8 s8;simp only[go_sem,seval,a8,a7,a6,ae,af];refine aG hs λi9 Y9 s9 a9 f9 z9 hs=>?_;obtain⟨XO,a6⟩:=RC a6 f9 s9;obtain⟨WX,a7⟩:=RC a7 f9 s9;obtain⟨n89,a8⟩:=RC a8 f9 s9;simp only[go_sem,seval,a9,a8,a7,a6,ae,af,ab XO,ab WX,ab n89];generalize Sy:C' _ i9 _=Z9;replace a9:=SR Sy;replace a6:=R6 Sy XO a6;replace a7:=R6 Sy WX a7;replace a8:=R6 Sy n89 a8;replace hs:=SL Sy hs z9;have hf:=L5 ws space i;rw[show decide ((i:Int)<0\/(i:Int)>=ws.length)=false by simp;omega]at hf;refine pS rfl (hf _) ?_;simp only[go_sem,seval,a9,a8,a7,a6];refine aG hs λi10 XP To RZ f10 Uq hs=>?_;obtain⟨Vl,a6⟩:=RC a6 f10 To;obtain⟨Ta,a7⟩:=RC a7 f10 To;obtain⟨VW,a8⟩:=RC a8 f10 To;obtain⟨UU,a9⟩:=RC a9 f10 To;simp only[go_sem,seval,RZ,a9,a8,a7,a6];refine pS rfl (Kb ws space i _) ?_;simp only[go_sem,seval,RZ,a9,a8,a7,a6];generalize hS:mix 13 _ _=S;have S6:S 6=.ptr i6 0 0:=by rw[<-hS];rfl
 have S7:S 7=.ptr i7 0 0:=by rw[<-hS];rfl
 have S8:S 8=.ptr i8 0 0:=by rw[<-hS];rfl
 have S10:S 10=.ptr i10 0 0:=by rw[<-hS];rfl
 have S22:S 22=.fn 247 [.rp (kX ws space),.rp (vI i)]:=by rw[<-hS];rfl
 clear hS;have Yc:=Dx ws space hw i hi;have hdr:ws.drop i=ws[i]::ws.drop (i+1):=jM hi;have Vo:ws.getD i 0=ws[i]:=by simp[hi]
 have hxi:=hw.get hi;have fin:∀(J:ak) (w:V),aa U J->J i8=some ⟨263,3,[.agg [vI 0,vI 0,vI 0]]⟩->J i10=some ⟨263,3,[rZ i (iW ws space width i).1 (iW ws space width i).2]⟩->
  aq prog 39 [It.code (.seq (.VL false [⟨some 38,.load true 3 (.t 10),none⟩,⟨none,.store 3 (.t 8) (.t 38),none⟩]) .ret)] ⟨S,J⟩ (λst=>Wq [VR.cell true 3 (VX.t 8)] st λr Z'=>r=rZ i (iW ws space width i).1 (iW ws space width i).2/\Z'=U):=by
  intro J w h1 h2 h3;refine aq.mix 13 ?_;rw[rZ]at h3;apply sR;simp only[go_sem,seval,S8,S10,h2,h3];exact az.pure (h1.aL z8) rfl
 refine aq.gi (g:=.t 22) (caps:=[.rp (kX ws space),.rp (vI i)]) S22 Yc (λx hx=>?_) [0] (λpre ZJ=>∃v,TkJ ws space width i U i6 i7 i8 i10 pre v ZJ)
  (λe pre ZJ=>e=some 0/\aa U ZJ/\ZJ i8=some ⟨263,3,[.agg [vI 0,vI 0,vI 0]]⟩/\ZJ i10=some ⟨263,3,[rZ i (iW ws space width i).1 (iW ws space width i).2]⟩) ?_ ?_ ?_ ?_ ?_
 .obtain⟨t,_,rfl⟩:=iD.1 hx;rfl
 .exact⟨_,hs,a8,a6,a7,RZ,.inl ⟨rfl,rfl⟩⟩
 .rintro pre x post ZJ ZB U6 ⟨v,τ⟩ G';have b6:=G' _ _ τ.r6;have b7:=G' _ _ τ.r7;have b8:=G' _ _ τ.r8;have b10:=G' _ _ τ.Yh;rcases τ.st with⟨rfl,rfl⟩|⟨n,hp,V2,hr,Sd,rfl⟩
  .obtain rfl:x=[vI ((i:Int)+1),vI ws[i]]:=by
    rw[hdr]at U6;simp only[gT,gv,fC,mL,List.cons.injEq]at U6;rw[<-U6.1];simp only[Int.sub_add_cancel,Int.zero_add];rw[show((i+1:Nat):Int)=(i:Int)+1 by omega]
   refine aq.mix 13 ?_;generalize UL:pz S [23,24] _=S0;have T6:S0 6=.ptr i6 0 0:=by rw[<-UL];exact S6
   have T7:S0 7=.ptr i7 0 0:=by rw[<-UL];exact S7
   have T10:S0 10=.ptr i10 0 0:=by rw[<-UL];exact S10
   have T23:S0 23=vI ((i:Int)+1):=by rw[<-UL];rfl
   have T24:S0 24=vI ws[i]:=by rw[<-UL];rfl
   clear UL;have r1:=rI i;have q:((i:Int)+1>(i:Int)+1)=False:=H';apply sR;simp only[go_sem,seval,T6,T7,T10,T23,T24];apply sR;simp only[go_sem,seval,T6,T7,T10,T23,T24,b6,b7,b10,r1,q];refine⟨_,(bE.refl G').set τ.Yh,_,τ.sub.aL Uq,by rw[ab VW];exact τ.r8,by rw[ab Vl];exact τ.r6,by rw[ab Ta];exact τ.r7,av,.inr ⟨ws[i],by simp,by simp;omega,?_,?_,?_⟩⟩
   .rw[hdr,gT];simp only[Int.sub_add_cancel,Int.zero_add,gv,fC,mL,TI,List.length_nil,List.cons_append];rw[show((i+1:Nat):Int)=(i:Int)+1 by omega]
   .unfold iW;rw[Vo];rfl
   .simp
  .have u':i+pre.length<ws.length:=by
    rcases Nat.lt_or_ge (i+pre.length) ws.length with h|h
    .exact h
    .exfalso;rw[List.drop_of_length_le h]at hr;rw[hr]at U6;have:=congrArg List.length U6;simp[gT,gv]at this
   have VY:ws.drop (i+pre.length)=ws[i+pre.length]::ws.drop (i+pre.length+1):=jM u';obtain rfl:x=[vI ((i:Int)+pre.length+1),vI (n+space+ws[i+pre.length])]:=by
    rw[hr,VY]at U6;have h2:=List.append_cancel_left U6;simp only[gT,gv,fC,List.cons.injEq]at h2;rw[<-h2.1];rw[show((i+pre.length+1:Nat):Int)=(i:Int)+pre.length+1 by omega]
   rw[VY,kB]at Sd;refine aq.mix 13 ?_;generalize UL:pz S [23,24] _=S0;have T6:S0 6=.ptr i6 0 0:=by rw[<-UL];exact S6
   have T7:S0 7=.ptr i7 0 0:=by rw[<-UL];exact S7
   have T10:S0 10=.ptr i10 0 0:=by rw[<-UL];exact S10
   have T23:S0 23=vI ((i:Int)+pre.length+1):=by rw[<-UL];rfl
   have T24:S0 24=vI (n+space+ws[i+pre.length]):=by rw[<-UL];rfl
   clear UL;have r1:=rI i;have q:((i:Int)+pre.length+1>(i:Int)+1)=True:=RA;apply sR;simp only[go_sem,seval,T6,T7,T10,T23,T24];by_cases U3:n+space+ws[i+pre.length]>width
   .have q2:(n+space+ws[i+pre.length]>width)=True:=RA U3;rw[aK U3]at Sd;apply sR;simp only[go_sem,seval,T6,T7,T10,T23,T24,b6,b7,b10,r1,q,q2];refine⟨_,bE.refl G',τ.sub,τ.r8,?_⟩;rw[τ.Yh,Sd];rfl
   .have q2:(n+space+ws[i+pre.length]>width)=False:=H' U3;rw[aM U3]at Sd;apply sR;simp only[go_sem,seval,T6,T7,T10,T23,T24,b6,b7,b10,r1,q,q2];have hpl2:(pre++[[vI ((i:Int)+pre.length+1),vI (n+space+ws[i+pre.length])]]).length=pre.length+1:=by simp
    refine⟨_,(bE.refl G').set τ.Yh,_,τ.sub.aL Uq,by rw[ab VW];exact τ.r8,by rw[ab Vl];exact τ.r6,by rw[ab Ta];exact τ.r7,av,.inr ⟨n+space+ws[i+pre.length],by omega,by omega,?_,?_,?_⟩⟩
    .rw[hr,VY,hpl2,gT];simp only[gv,fC,mR,List.cons_append,mL];rw[show((i+pre.length+1:Nat):Int)=(i:Int)+pre.length+1 by omega];rfl
    .rw[hpl2];exact Sd
    .rw[hpl2,show((i+(pre.length+1):Nat):Int)=(i:Int)+pre.length+1 by omega]
 .rintro Z' ⟨v,τ⟩;rcases τ.st with⟨h0,rfl⟩|⟨n,hp,V2,hr,Sd,rfl⟩
  .exfalso;rw[hdr]at h0;simp[gT,gv]at h0
  .have he:gv (gT space (ws.drop (i+(gv (gT space (ws.drop i) i (0-space))).length)) (i+(gv (gT space (ws.drop i) i (0-space))).length) n)=[]:=by
    have:=congrArg List.length hr;rw[kI]at this;exact tc (by omega)
   generalize (gv (gT space (ws.drop i) i (0-space))).length=p at*;have hd:ws.drop (i+p)=[]:=by
    cases h:ws.drop (i+p)with
    |nil=>rfl
    |cons a b=>rw[h]at he;simp[gT,gv]at he
   rw[hd,kB]at Sd;refine aq.inBlock (fin Z' .bj τ.sub τ.r8 ?_);rw[τ.Yh,Sd];rfl
 .intro id L' pre Z' _ ⟨h0,h1,h2,h3⟩;obtain rfl:id=0:=by simpa using L'
  refine aq.exit rfl ?_;exact fin Z' .bj h1 h2 h3
 .rintro pre Z' _ ⟨h0,_⟩;cases h0
open Go.Proofs
def kM(p:Pn)(n:Int):Pn:=⟨if n>0 then p.y+p.m+n else p.y,if n>0 then 0 else p.m⟩
def dK(p:Pn)(mg n:Int):Pn:=kM ⟨p.y,max p.m mg⟩ n
def j7(p:Pn)(mg n:Int):Pn:=⟨(kM p n).y,max (kM p n).m mg⟩
def CG(p:Pn)(mg n:Int)(h1:Bq p.y)(h2:Bq p.m)(h3:Bq mg)(h4:Bq n):aV prog 172 [dd p,vI mg,vI n] (dd (dK p mg n)):=λU=>by
 refine Qe.q ?_;have hs:=aa.refl U;refine mS 10 ?_;simp only[go_sem,seval,Ls,dd];refine aG hs λi3 Z3 s3 a3 f3 z3 hs=>?_;simp only[go_sem,seval,a3];refine aG hs λi6 Z6 s6 a6 f6 z6 hs=>?_;obtain⟨Xv,a3⟩:=RC a3 f6 s6;simp only[go_sem,seval,a6,a3];refine aG hs λi7 Z7 s7 a7 f7 z7 hs=>?_;obtain⟨n37,a3⟩:=RC a3 f7 s7;obtain⟨TH,a6⟩:=RC a6 f7 s7;simp only[go_sem,seval,a7,a6,a3,ab n37,ab TH];generalize VZ:C' _ i7 _=Y7;replace a7:=SR VZ;replace a3:=R6 VZ n37 a3;replace a6:=R6 VZ TH a6;replace hs:=SL VZ hs z7;refine Tx rfl (Ci p.y p.m mg a7) ?_;rintro r Z1 ⟨rfl,rfl⟩;apply sR;simp only[go_sem,seval];have hm:Bq (max p.m mg):=by obtain⟨g1,g2⟩:=h2;obtain⟨g3,g4⟩:=h3;exact⟨by omega,by omega⟩
 refine Tx rfl (Jl p.y (max p.m mg) n h1 hm h4 av) ?_;rintro r Z2 ⟨rfl,rfl⟩;apply sR;simp only[go_sem,seval,a6,ab TH,ab TH.symm];exact az.pure ((hs.aL z7).aL z6) rfl
def Dc(p:Pn)(mg n:Int)(h1:Bq p.y)(h2:Bq p.m)(h3:Bq mg)(h4:Bq n):aV prog 173 [dd p,vI mg,vI n] (dd (j7 p mg n)):=λU=>by
 refine Q3.q ?_;have hs:=aa.refl U;refine mS 10 ?_;simp only[go_sem,seval,M6,dd];refine aG hs λi3 Z3 s3 a3 f3 z3 hs=>?_;simp only[go_sem,seval,a3];refine aG hs λi6 Z6 s6 a6 f6 z6 hs=>?_;obtain⟨Xv,a3⟩:=RC a3 f6 s6;simp only[go_sem,seval,a6,a3];refine aG hs λi7 Z7 s7 a7 f7 z7 hs=>?_;obtain⟨n37,a3⟩:=RC a3 f7 s7;obtain⟨TH,a6⟩:=RC a6 f7 s7;simp only[go_sem,seval,a7,a6,a3,ab n37,ab TH];generalize VZ:C' _ i7 _=Y7;replace a7:=SR VZ;replace a3:=R6 VZ n37 a3;replace a6:=R6 VZ TH a6;replace hs:=SL VZ hs z7;refine Tx rfl (Jl p.y p.m n h1 h2 h4 a7) ?_;rintro r Z1 ⟨rfl,rfl⟩;apply sR;simp only[go_sem,seval];refine Tx rfl (Ci _ _ mg av) ?_;rintro r Z2 ⟨rfl,rfl⟩;apply sR;simp only[go_sem,seval,a6,ab TH,ab TH.symm];exact az.pure ((hs.aL z7).aL z6) rfl
structure Ln where
 (fr to x y w:Int)
deriving DecidableEq
def iX(l:Ln):V:=.agg [vI l.fr,vI l.to,vI l.x,vI l.y,vI l.w]
def lP(fs:List RS)(ws:List Int)(space high:Int)(i:Nat)(y:Int)(s:Sn):Ln:=
 let Sl:=fN fs (ws.getD i 0) high s y
 let b:=bM fs Sl high s
 let t:=iW ws space (fj b) i
 ⟨i,t.1,b.a,Sl,t.2⟩
def I5(fs:List RS)(ws:List Int)(space high:Int)(i:Nat)(y:Int)(s:Sn)(hl:fs.length<=1000000)(RP:∀f∈fs,f.ok)(hy:SJ y)(hh:Bq high)(Tg:SJ s.a/\SJ s.b)(hw:WOk ws space)(hi:i<ws.length):
 aV prog 203 [bg fs,aX ws,vI space,vI high,vI i,vI y,aW s] (iX (lP fs ws space high i y s)):=λU=>by
 refine O2.q ?_;have hs:=aa.refl U;have hn:=db ws;have RF:=λU=>dp (U:=U) hi;have q0:((i:Int)<0)=False:=H';have q1:((i:Int)>=ws.length)=False:=H';refine mS 18 ?_;simp only[go_sem,seval,N3,aW];refine aG hs λi13 Y13 s13 Uw f13 z13 hs=>?_;simp only[go_sem,seval,Uw];refine aG hs λi14 Z14 s14 U7 f14 z14 hs=>?_;obtain⟨n1314,Uw⟩:=RC Uw f14 s14;simp only[go_sem,seval,U7,Uw,hn,RF,q0,q1];have Vo:ws.getD i 0=ws[i]:=by simp[hi]
 obtain⟨Sl,UK⟩:∃a,a=fN fs ws[i] high s y:=⟨_,rfl⟩
 have U2:=EB fs ws[i] high y s hl RP hy hh Tg;rw[<-UK]at U2;have V7:=jf (y:=Sl) (high:=high) RP Tg;unfold lP;rw[Vo];simp only;rw[<-UK];obtain⟨b,hb⟩:∃b,b=bM fs Sl high s:=⟨_,rfl⟩
 rw[<-hb]at U2 V7|-;refine pJ rfl U2 ?_;apply sG;simp only[go_sem,seval,aW];refine wx hs λi15 Z15 Xa US f15 z15 hs=>?_;obtain⟨n1315,Uw⟩:=RC Uw f15 Xa;obtain⟨n1415,U7⟩:=RC U7 f15 Xa;simp only[go_sem,seval,US,U7,Uw,aW];generalize Tv:C' _ i15 _=Y15;replace US:=SR Tv;replace Uw:=R6 Tv n1315 Uw;replace U7:=R6 Tv n1415 U7;replace hs:=SL Tv hs z15;refine pS rfl (F5 b V7.1 V7.2 _) ?_;simp only[go_sem,seval];refine pS rfl (Ii ws space (fj b) hw i hi _) ?_;simp only[go_sem,seval,rZ];refine aG hs λi17 Z17 s17 a17 f17 z17 hs=>?_;obtain⟨n1317,Uw⟩:=RC Uw f17 s17;obtain⟨n1417,U7⟩:=RC U7 f17 s17;obtain⟨n1517,US⟩:=RC US f17 s17;simp only[go_sem,seval,a17,US,U7,ab n1317,ab n1417,ab n1517];exact az.pure ((hs.aL z17).aL z14) rfl
open Go.Proofs
def aP.nM{K ZJ Z1:ak}{e sz:Nat}{v:V}{rows:List V}(h:aP K ZJ e sz v rows)(hs:aa ZJ Z1):
 ∃idA,cm Z1 e sz v=some (rows,idA)/\(∀K':ak,aa K' K->∀Z2,aa K' Z2->aa K' (Vc.bR Z2 idA))/\(∀i o,ZJ i=some o->(o.elem≠e\/o.sz≠sz)->∀Z2:ak,Vc.bR Z2 idA i=Z2 i)/\(∀i,ZJ i=none->∀Z2:ak,Vc.bR Z2 idA i=Z2 i):=by
 rcases h with⟨rfl,rfl⟩|⟨id,rfl,ho,hk⟩
 .exact⟨none,rfl,λ_ _ _ h=>h,λ_ _ _ _ _=>rfl,λ_ _ _=>rfl⟩
 .refine⟨some id,?_,λK' hK Z2 h=>h.x7 (hK.none hk),λi o hi RU Z2=>?_,λi hi Z2=>?_⟩
  .simp only[cm,hs _ _ ho];rw[aK ⟨trivial,trivial,trivial,Sf _⟩,ik]
  .refine eT λe'=>?_;subst e';rw[ho]at hi;injection hi with hi;subst hi;rcases RU with h|h<;>exact h rfl
  .refine eT λe'=>?_;subst e';rw[ho]at hi;cases hi
def rB{l:List RS}{w high B:Int}{s:Sn}(hB:∀f∈l,f.y+f.h<=B):∀(k:Nat) (y:Int),y<=j2 l w high s k y/\j2 l w high s k y<=max y B
 |0,y=>by simp only[j2];omega
 |k+1,y=>by
  rw[j2];split
  .omega
  .rename_i hf;have RU:bM l y high s≠s:=λe=>hf (by simp[mF,e]);obtain⟨f,hm,h1,h2⟩:=eW (mu RU);have:=rB hB k (cz l y high s).1 (w:=w) (high:=high) (s:=s);have:=hB f hm;omega
def eX{l:List RS}{w high B y:Int}{s:Sn}(hB:∀f∈l,f.y+f.h<=B):y<=fN l w high s y/\fN l w high s y<=max y B:=rB hB _ _
def cA(fs:List RS)(ws:List Int)(space high:Int)(s:Sn):Nat->Nat->Int->List Ln
 |0,_,_=>[]
 |k+1,i,y=>if i<ws.length then lP fs ws space high i y s::cA fs ws space high s k (lP fs ws space high i y s).to.toNat ((lP fs ws space high i y s).y+high)else[]
def jt(fs:List RS)(ws:List Int)(space high:Int)(s:Sn):∀(k i:Nat) (y:Int),(cA fs ws space high s k i y).length<=k
 |0,_,_=>by simp[cA]
 |k+1,i,y=>by
  rw[cA];split
  .have:=jt fs ws space high s k (lP fs ws space high i y s).to.toNat ((lP fs ws space high i y s).y+high);simp only[TI];omega
  .simp
def rA(l:Ln):(iX l).cells=[vI l.fr,vI l.to,vI l.x,vI l.y,vI l.w]:=rfl
def sK(l:Ln):(iX l).stays=true:=rfl
def jZ(l:List Ln):V:=.sl 5 (l.map iX)
variable {P:Program} {n:Nat} {st:St} {Q:St->Prop} {k:List It}
def oX(D:List (List Nat))(S:List Nat)(s:Nat):List (List Nat):=(List.range D.length).map λi=>if S.contains i&&!(i==s)then s::D.getD i []else D.getD i []
def zx{D:List (List Nat)}{S:List Nat}{s:Nat}:(oX D S s).length=D.length:=by simp[oX]
def zL{D:List (List Nat)}{S:List Nat}{s i:Nat}:(oX D S s).getD i []=if i<D.length/\i∈S/\i≠s then s::D.getD i []else D.getD i []:=by
 unfold oX;rw[yb,sP];by_cases hi:i<D.length
 .rw[List.getElem?_range hi];by_cases hs:i∈S
  .by_cases he:i=s
   .simp[he]
   .simp[hi,hs,he]
  .simp[hs]
 .have h1:(List.range D.length)[i]?=none:=sW (by simpa using hi);rw[h1,aM (λh=>hi h.1)];simp[sW (show D.length<=i by omega)]
def zG{D:List (List Nat)}{S:List Nat}{s i:Nat}(h:i∉S\/i=s):(oX D S s).getD i []=D.getD i []:=by
 rw[zL,aM];rintro⟨_,h1,h2⟩;exact h.elim (λh=>h h1) h2
def rE{D:List (List Nat)}{S:List Nat}{s:Nat}{L:List Nat}(hp:s∈L):ef (oX D S s) L=ef D L:=by
 unfold ef;rw[zx];refine List.filter_congr λi hi=>?_;rw[zL];split
 .simp[hp]
 .rfl
def tD{l:List aS}{D:List (List Nat)}{S:List Nat}{s:Nat}{K:St->Prop}:∀(f:Nat) (L:List Nat) (y:St),s∈L->jl P l (oX D S s) K f L y->jl P l D K f L y
 |0,L,y,hp,h=>⟨by rw[<-rE hp];exact h.1,h.2⟩
 |f+1,L,y,hp,h=>by
  unfold jl at h|-;rw[rE hp]at h;cases hr:ef D L with
  |nil=>rw[hr]at h;exact h
  |cons a r=>
   rw[hr]at h;refine pQ λi hi=>?_;obtain⟨ins,h1,h2⟩:=n7 h i hi;exact⟨ins,h1,TC.mono (λx hx=>tD f _ x (by simp[hp]) hx) h2⟩
def wy{l:List aS}{K:St->Prop}{b:List Nat}:∀{a:List Nat},RE P l K (a++b)=RE P l (RE P l K b) a
 |[]=>rfl
 |m::a=>by
  funext x;rw[List.cons_append,RE,RE,wy]
def oH{l:List aS}{R1:List (List Nat)}{b:List Nat}:∀{a done:List Nat},eK l R1 done (a++b)=eK l R1 done a++eK l R1 (done++a) b
 |[],done=>by simp[eK]
 |e::a,done=>by
  rw[List.cons_append,eK,eK,oH];simp
def RE.mono{l:List aS}{K K':St->Prop}(hk:∀x,K x->K' x):∀{a:List Nat} {x:St},RE P l K a x->RE P l K' a x
 |[],x,h=>hk x h
 |m::a,x,h=>by
  rw[RE]at h|-;cases hm:l[m/2]? with
  |none=>rw[hm]at h;exact h.elim
  |some i=>
   rw[hm]at h;simp only at h|-;split at h<;>rename_i he
   .rw[aK he];exact TC.mono (λx hx=>RE.mono hk hx) h
   .rw[aM he];exact⟨h.1,RE.mono hk h.2⟩
structure FN(l:List aS)(D R1:List (List Nat))(pre tail S:List Nat)(befs:Nat->List (List Nat)):Prop where
 e:EOkW l D R1 (pre++tail)
 T0:∀a b x y,pre++tail=a++b->x∈a->y∈b->x∈pre->dM l R1 x=true->x∈fv R1 y
 sub:∀s∈S,s∈tail
 some:∃s,s∈S
 later:∀i∈tail,i∉S->∃s∈S,s∈fv R1 i
 agree:∀s∈S,∀i∈pre,dM l (befs s) i=dM l R1 i
section
variable {l:List aS} {D R1:List (List Nat)} {pre tail S:List Nat} {befs:Nat->List (List Nat)} {K:St->Prop} {Ks:Nat->St->Prop} (hF:FN l D R1 pre tail S befs)
include hF
def kx.Lu{L:List Nat}{y:St}:∀{rest done:List Nat} {x:St},kx P l D R1 pre K L y done rest x->
 ∃done' YF x',kx P l D R1 pre K L y done' YF x'/\∀h r,YF=h::r->dM l R1 h=true
 |[],done,x,h=>⟨done,[],x,h,by simp⟩
 |e::rest,done,x,h=>by
  have hE:=hF.e;cases UW:dM l R1 e with
  |true=>exact⟨done,e::rest,x,h,λa r he=>by cases he;exact UW⟩
  |false=>
   have V5:e<l.length:=hE.lt e (by rw[h.split];simp);obtain⟨hk,hself⟩:=iL UW V5 (hE.oq V5);have SI:=(List.nodup_append.1 hE.nodup).1;rw[h.split]at SI;have hed:e∉done:=λhm=>(List.nodup_append.1 SI).2.2 e hm e (by simp) rfl;have ZA:e∉L:=λhm=>hed (h.sub e hm);have TY:=h.go;rw[eK,Cy V5,DF,aM (by simp[UW]),mL]at TY;have hT:T P (bo l e) x (RE P l K (eK l R1 (done++[e]) rest)):=by
    rcases TY with TY|⟨_,TY⟩
    .exact TY
    .exfalso;revert TY hk;generalize (bo l e).op=op;intro hk TY;split at TY
     .simp[bt]at hk
     .simp[bt]at hk
     .simp[bt]at hk
     .exact TY
   obtain⟨v,hv,ZC⟩:=(cD (by simp[fT,hk])).1 hT;refine kx.Lu (rest:=rest) (done:=done++[e]) (x:=⟨aY x.s (bo l e).dst v,x.U⟩) ⟨by rw[h.split];simp,λi hi=>by simp[h.sub i hi],h.nodup,h.closed,λi hi Uf=>?_,h.store,λd hd=>?_,λi hi VT=>?_,ZC⟩
   .rcases fH.1 hi with hi|hi
    .exact h.T0 i hi Uf
    .simp only[jY]at hi;rw[hi,UW]at Uf;cases Uf
   .have h1:=h.slot d λi hi VT=>hd i (by simp[hi]) VT;have h2:=hd e (by simp) ZA;rw[h1];simp only;cases Zz:(bo l e).dst with
    |none=>rfl
    |some d'=>
     rw[Zz]at h2;simp only[aY];rw[aM (λe'=>h2 (by rw[e']))]
   .by_cases Uf:i=e
    .subst Uf;unfold QYd;cases hd:(bo l i).dst with
     |none=>exact⟨v,hv⟩
     |some d=>
      simp only;have e1:aY x.s (some d) v d=v:=by simp[aY]
      rw[e1];exact(gj (λt ht=>by cases ht;exact hself d hd)).2 hv
    .have L':i∈done:=by
      rcases fH.1 hi with hi|hi
      .exact hi
      .simp only[jY]at hi;exact absurd hi Uf
     have TM:i<l.length:=hE.lt i (by rw[h.split];simp[L']);refine tv hE TM V5 Uf (λd hd hu=>?_) (λv hv=>hv) (h.lag i L' VT);rcases hE.anti i e TM V5 Uf d hd hu with h1|⟨h1,_⟩
     .obtain⟨a,b,Vw⟩:=List.append_of_mem L';have h2:=hE.nh (a:=a) (j:=i) (b:=b++e::rest++tail) (by rw[h.split,Vw];simp) e h1;exact hed (by rw[Vw];simp[h2])
     .rw[UW]at h1;cases h1
def Bc(hH:∀s∈S,∀(f:Nat) (L:List Nat) (y:St) (done rest:List Nat) (x:St),f+L.length=l.length->kx P l (oX D S s) (befs s) pre (Ks s) L y done rest x->jl P l (oX D S s) K f L y):
 ∀(f:Nat) (L:List Nat) (y:St) (done rest:List Nat) (x:St),f+L.length=l.length->(∀s∈S,s∉L)->kx P l D R1 pre (λx=>∀s∈S,Ks s x) L y done rest x->jl P l D K f L y:=by
 have hE:=hF.e;obtain⟨s0,Ty⟩:=hF.some;have u':∀s∈S,s<l.length:=λs hs=>hE.lt s (by simp[hF.sub s hs]);have Vv:∀s∈S,s∉pre:=λs hs hm=>(List.nodup_append.1 hE.nodup).2.2 s hm s (hF.sub s hs) rfl;intro f
 induction f with
 |zero=>
  intro L y done rest x hf hSL h;exact absurd ((u7 l.length L h.nodup λi hi=>hE.lt i (by rw[h.split];simp[h.sub i hi])).2 (by omega) s0 (u' s0 Ty)) (hSL s0 Ty)
 |succ f ih=>
  intro L y done rest x hf hSL h;obtain⟨done,rest,x,h,Xs⟩:=kx.Lu hF h;have SI:=(List.nodup_append.1 hE.nodup).1;rw[h.split]at SI;have hdp:∀i∈done,i∈pre:=λi hi=>by rw[h.split];simp[hi]
  have SU:∀m∈L,∀d∈D.getD m [],d∈L:=h.closed;have hclS:∀s,∀m∈L,∀d∈(oX D S s).getD m [],d∈L:=λs m hm d hd=>by
   rw[zG (.inl λhs=>hSL m hs hm)]at hd;exact h.closed m hm d hd
  have take:rest=[]->∀s∈S,jl P l (oX D S s) K (f+1) L y:=λhr s hs=>by
   subst hr;have hdp':pre=done:=by rw[h.split];simp
   refine hH s hs (f+1) L y done [] x hf ⟨by rw[hdp'];simp,h.sub,h.nodup,hclS s,λi hi Uf=>h.T0 i hi (by rw[<-hF.agree s hs i (hdp i hi)];exact Uf),h.store,h.slot,h.lag,?_⟩;exact h.go s hs
  have key:uv P l (jl P l D K f) L y (ef D L):=by
   refine pQ λi hi=>?_;have hi0:=hi;obtain⟨TM,VT,YG⟩:=tL hi;rw[hE.dlen]at TM;by_cases hiS:i∈S
   .have hm:i∈ef (oX D S i) L:=by
     unfold ef;refine xz.2 ⟨by rw[zx,hE.dlen];simpa using TM,?_⟩;rw[zG (.inr rfl)];exact(xz.1 hi).2
    have UP:rest=[]:=by
     cases hrr:rest with
     |nil=>rfl
     |cons a rr=>
      exfalso;have ha:=Xs a rr hrr;have hapre:a∈pre:=by rw[h.split,hrr];simp
      have hb:a∈fv R1 i:=hF.T0 pre tail a i rfl hapre (hF.sub i hiS) hapre ha;obtain⟨pa,pb,hpe⟩:=List.append_of_mem (hE.mem i TM);have haL:a∈L:=hE.closed SU hE.mem (pa.length+1) pa i pb (by omega) hpe (λd hd=>YG d hd) a hb;rw[hrr]at SI;exact(List.nodup_append.1 SI).2.2 a (h.sub a haL) a (by simp) rfl
    have h1:=take UP i hiS;unfold jl at h1;cases hr:ef (oX D S i) L with
    |nil=>rw[hr]at hm;cases hm
    |cons a r=>
     rw[hr]at h1 hm;obtain⟨ins,g1,g2⟩:=n7 h1 i hm;exact⟨ins,g1,TC.mono (λx hx=>tD f _ x (by simp) hx) g2⟩
   refine⟨bo l i,by simp[bo,VH TM],?_⟩;obtain⟨pa,pb,hpe⟩:=List.append_of_mem (hE.mem i TM);have Vd:∀j∈fv R1 i,j∈L:=hE.closed SU hE.mem (pa.length+1) pa i pb (by omega) hpe YG;have YH:∀u∈(bo l i).l4,x.s u=y.s u:=λu hu=>(h.slot u λj hj Wl hd=>by
    have UG:j<l.length:=hE.lt j (by simp[hdp j hj]);by_cases TJ:j=i
    .subst TJ;cases TT:dM l R1 j with
     |true=>exact Wl (h.T0 j hj TT)
     |false=>exact(iL TT UG (hE.oq UG)).2 u hd hu
    .rcases hE.anti i j TM UG (λe=>TJ e.symm) u hd hu with h1|⟨h1,_⟩
     .exact Wl (Vd j h1)
     .exact Wl (h.T0 j hj h1)).symm
   by_cases L':i∈done
   .have Uf:dM l R1 i=false:=by
     cases Uf:dM l R1 i with
     |false=>rfl
     |true=>exact absurd (h.T0 i L' Uf) VT
    obtain⟨hk,_⟩:=iL Uf TM (hE.oq TM);have hq:=h.lag i L' VT;obtain⟨v,hv,hvd⟩:∃v,QY P (bo l i) x.s x.U v/\∀d,(bo l i).dst=some d->x.s d=v:=by
     unfold QYd at hq;cases hd:(bo l i).dst with
     |none=>rw[hd]at hq;obtain⟨v,hq⟩:=hq;exact⟨v,hq,by simp⟩
     |some d=>rw[hd]at hq;exact⟨_,hq,λd' e=>by cases e;rfl⟩
    refine .inl ((cD (by simp[fT,hk])).2 ⟨v,?_,?_⟩)
    .rw[h.store];exact zN YH hv
    .refine ih (i::L) _ done rest x (by simp only[TI];omega) (λs hs hm=>(dZ.1 hm).elim (λe=>hiS (e▸hs)) (hSL s hs)) ⟨h.split,λj hj=>?_,List.nodup_cons.2 ⟨VT,h.nodup⟩,λm hm d hd=>?_,λj hj TT=>by simp[h.T0 j hj TT],h.store,λd hd=>?_,λj hj Wl=>h.lag j hj (λhm=>Wl (by simp[hm])),h.go⟩
     .rcases dZ.1 hj with rfl|hj
      .exact L'
      .exact h.sub j hj
     .rcases dZ.1 hm with rfl|hm
      .simp[YG d hd]
      .simp[h.closed m hm d hd]
     .simp only;by_cases ZD:(bo l i).dst=some d
      .rw[ZD];simp only[aY];rw[aK trivial];exact(hvd d ZD).symm
      .have h1:=h.slot d λj hj Wl=>by
        by_cases TJ:j=i
        .rw[TJ];exact ZD
        .exact hd j hj (by simp[TJ,Wl])
       rw[<-h1];cases Zz:(bo l i).dst with
       |none=>rfl
       |some d'=>
        rw[Zz]at ZD;simp only[aY];rw[aM (λe'=>ZD (by rw[e']))]
   .have hir:i∈rest++tail:=by
     have:=hE.mem i TM;rw[h.split,mR]at this;exact(fH.1 this).resolve_left L'
    obtain⟨Wm,rr,rfl⟩:∃a r,rest=a::r:=by
     cases rest with
     |nil=>
      exfalso;rw[mL]at hir;obtain⟨s,hs,hsb⟩:=hF.later i hir hiS;exact hSL s hs (Vd _ hsb)
     |cons a r=>exact⟨a,r,rfl⟩
    have UW:=Xs Wm rr rfl;have hh0:Wm∉done:=λhm=>(List.nodup_append.1 SI).2.2 Wm hm Wm (by simp) rfl;have hih:i=Wm:=by
     rcases dZ.1 (show i∈Wm::(rr++tail)from hir)with e|hir
     .exact e
     .exfalso;have:=hF.T0 (done++[Wm]) (rr++tail) Wm i (by rw[h.split];simp) (by simp) hir (by rw[h.split];simp) UW;exact hh0 (h.sub _ (Vd _ this))
    subst hih;have TY:=h.go;rw[show eK l R1 done (i::rr)=2*i::(DF l R1 done i++eK l R1 (done++[i]) rr)from rfl,Cy TM]at TY;refine yQ YH h.store.symm (λr Z' hK=>?_) TY;rw[DF,aK UW]at hK;obtain⟨hck,ZC⟩:=tw (λk=>!(dM l R1 k)&&(!(kY (bo l k).op)&&!((fv R1 i).contains k))) (λj hj=>hE.lt j (by simp[hdp j hj])) hK;refine ih (i::L) _ (done++[i]) rr ⟨aY x.s (bo l i).dst r,Z'⟩ (by simp only[TI];omega) (λs hs hm=>(dZ.1 hm).elim (λe=>hiS (e▸hs)) (hSL s hs)) ⟨by rw[h.split];simp,λj hj=>?_,List.nodup_cons.2 ⟨VT,h.nodup⟩,λm hm d hd=>?_,λj hj TT=>?_,rfl,λd hd=>?_,λj hj Wl=>?_,ZC⟩
    .rcases dZ.1 hj with rfl|hj
     .simp
     .simp[h.sub j hj]
    .rcases dZ.1 hm with rfl|hm
     .simp[YG d hd]
     .simp[h.closed m hm d hd]
    .rcases fH.1 hj with hj|hj
     .simp[h.T0 j hj TT]
     .simp only[jY]at hj;simp[hj]
    .have h1:(bo l i).dst=some d\/y.s d=x.s d:=by
      by_cases ZD:(bo l i).dst=some d
      .exact .inl ZD
      .exact .inr (h.slot d λj hj Wl=>hd j (by simp[hj]) (by
        simp only[dZ,not_or];exact⟨λe=>L' (e▸hj),Wl⟩))
     simp only;cases Zz:(bo l i).dst with
     |none=>rw[Zz]at h1;exact h1.resolve_left (by simp)
     |some d'=>
      simp only[aY];split
      .rfl
      .rename_i RU;rw[Zz]at h1;exact h1.resolve_left (λe=>RU (by cases e;rfl))
    .have hjd:j∈done:=by
      rcases fH.1 hj with hj|hj
      .exact hj
      .simp only[jY]at hj;exact absurd (by simp[hj]) Wl
     have XQ:j∉L:=λhm=>Wl (by simp[hm]);have UG:j<l.length:=hE.lt j (by simp[hdp j hjd]);have TJ:j≠i:=λe=>L' (e▸hjd);have TT:dM l R1 j=false:=by
      cases TT:dM l R1 j with
      |false=>rfl
      |true=>exact absurd (h.T0 j hjd TT) XQ
     cases hsf:kY (bo l j).op with
     |true=>
      refine tv hE UG TM TJ (λd hd hu=>?_) (λv hv=>kP hsf hv) (h.lag j hjd XQ);rcases hE.anti j i UG TM TJ d hd hu with h1|⟨_,h1⟩
      .obtain⟨a,b,Vw⟩:=List.append_of_mem hjd;have h2:=hE.nh (a:=a) (j:=j) (b:=b++i::rr++tail) (by rw[h.split,Vw];simp) i h1;exact L' (by rw[Vw];simp[h2])
      .exact XQ (Vd j h1)
     |false=>
      refine hck j hjd ?_;simp only[TT,hsf,Bool.not_false,Bool.true_and,Bool.not_eq_true'];cases hc:(fv R1 i).contains j with
      |false=>rfl
      |true=>exact absurd (Vd j (List.contains_iff_mem.1 hc)) XQ
  cases hr:ef D L with
  |cons a r=>unfold jl;rw[hr]at key|-;exact key
  |nil=>
   exfalso;have first:∀(a b:List Nat),pre++tail=a++b->(∀j∈a,j∈L)->(∃i∈b,i∉L)->∃a' e b',pre++tail=a'++e::b'/\(∀j∈a',j∈L)/\e∉L:=by
    intro a b
    induction b generalizing a with
    |nil=>rintro _ _ ⟨i,h,_⟩;cases h
    |cons e b ihb=>
     intro he ha hx;by_cases ZA:e∈L
     .refine ihb (a++[e]) (by rw[he];simp) (λj hj=>?_) ?_
      .rcases fH.1 hj with hj|hj
       .exact ha j hj
       .simp only[jY]at hj;rw[hj];exact ZA
      .obtain⟨i,hi,VT⟩:=hx;rcases dZ.1 hi with rfl|hi
       .exact absurd ZA VT
       .exact⟨i,hi,VT⟩
     .exact⟨a,e,b,he,ha,ZA⟩
   obtain⟨a,e,b,he,ha,ZA⟩:=first [] (pre++tail) rfl (by simp) ⟨s0,by simp[hF.sub s0 Ty],hSL s0 Ty⟩
   have V5:e<l.length:=hE.lt e (by rw[he];simp);have:e∈ef D L:=by
    unfold ef;refine xz.2 ⟨by simp[hE.dlen,V5],?_⟩;simp only[Ba,Bool.not_eq_true',fL];exact⟨by simpa using ZA,λd hd=>List.contains_iff_mem.2 (ha d (hE.ahead a e b he d hd))⟩
   rw[hr]at this;cases this
end
inductive PT where
 |leaf (R1:List (List Nat)) (r:List Nat)
 |fork (R1:List (List Nat)) (m:List Nat) (S:List Nat) (kids:List PT)
def PT.R1:PT->List (List Nat)
 |.leaf b _=>b
 |.fork b _ _ _=>b
def PT.ord:Nat->PT->List Nat
 |0,_=>[]
 |f+1,t=>match t with
  |.leaf _ r=>r
  |.fork _ m _ kids=>m++(match kids with
   |k::_=>PT.ord f k
   |[]=>[])
def CX(g:Nat->PT->Bool):List Nat->List PT->Bool
 |[],[]=>true
 |s::ss,t::ts=>g s t&&CX g ss ts
 |_,_=>false
def vy{g:Nat->PT->Bool}:∀{S:List Nat} {ts:List PT},CX g S ts=true->∀s∈S,∃t∈ts,g s t=true
 |[],[],_,s,hs=>by cases hs
 |a::S,t::ts,h,s,hs=>by
  simp only[CX,Ba]at h;rcases dZ.1 hs with rfl|hs
  .exact⟨t,by simp,h.1⟩
  .obtain⟨t',h1,h2⟩:=vy h.2 s hs;exact⟨t',by simp[h1],h2⟩
def Jw(l:List aS)(D R1:List (List Nat))(pre tail S:List Nat):Bool:=
 Iq l D R1 (pre++tail)&&(mZ (λa b=>!(pre.contains a)||(!(dM l R1 a)||(fv R1 b).contains a)) (pre++tail)&&
 (S.all tail.contains&&(!S.isEmpty&&tail.all λi=>S.contains i||S.any λs=>(fv R1 i).contains s)))
def FZ(l:List aS):Nat->List (List Nat)->List Nat->PT->Bool
 |0,_,_,_=>false
 |f+1,D,pre,t=>match t with
  |.leaf R1 r=>eOk l D R1 (pre++r)
  |.fork R1 m S kids=>Jw l D R1 (pre++m) (match kids with
    |k::_=>PT.ord f k
    |[]=>[]) S&&CX (λs k=>((pre++m).all λi=>dM l k.R1 i==dM l R1 i)&&FZ l f (oX D S s) (pre++m) k) S kids
def GT(P:Program)(l:List aS)(K:St->Prop):Nat->List Nat->PT->St->Prop
 |0,_,_,_=>False
 |f+1,pre,t,x=>match t with
  |.leaf R1 r=>RE P l K (eK l R1 pre r) x
  |.fork R1 m _ kids=>RE P l (λx=>∀k∈kids,GT P l K f (pre++m) k x) (eK l R1 pre m) x
def kx.more{l:List aS}{D R1:List (List Nat)}{pre m:List Nat}{K:St->Prop}{L:List Nat}{y:St}{done rest:List Nat}{x:St}(h:kx P l D R1 pre (RE P l K (eK l R1 pre m)) L y done rest x):
 kx P l D R1 (pre++m) K L y done (rest++m) x:=by
 refine⟨by rw[h.split];simp,h.sub,h.nodup,h.closed,h.T0,h.store,h.slot,h.lag,?_⟩;rw[oH,wy,<-h.split];exact h.go
def kx.mono{l:List aS}{D R1:List (List Nat)}{pre:List Nat}{K K':St->Prop}(hk:∀x,K x->K' x){L:List Nat}{y:St}{done rest:List Nat}{x:St}(h:kx P l D R1 pre K L y done rest x):
 kx P l D R1 pre K' L y done rest x:=⟨h.split,h.sub,h.nodup,h.closed,h.T0,h.store,h.slot,h.lag,RE.mono hk h.go⟩
def C3{l:List aS}{K:St->Prop}:∀(fu:Nat) (D:List (List Nat)) (pre:List Nat) (t:PT),FZ l fu D pre t=true->∀(f:Nat) (L:List Nat) (y:St) (done rest:List Nat) (x:St),f+L.length=l.length->
 (∀i∈L,i∈pre)->kx P l D t.R1 pre (GT P l K fu pre t) L y done rest x->jl P l D K f L y
 |0,_,_,_,h,_,_,_,_,_,_,_,_,_=>by cases h
 |fu+1,D,pre,t,h,f,L,y,done,rest,x,hf,hLp,hl=>by
  cases t with
  |leaf R1 r=>exact qf (Af h) f L y done (rest++r) x hf (kx.more hl)
  |fork R1 m S kids=>
   simp only[FZ,Ba]at h;obtain⟨h1,h2⟩:=h;generalize (match kids with
    |k::_=>PT.ord fu k
    |[]=>[])=tail at h1
   simp only[Jw,Ba]at h1;obtain⟨g1,g2,g3,g4,g5⟩:=h1;have hk:=vy h2;have hW:=wQ g1;have hF:∀kid:Nat->PT,(∀s∈S,((pre++m).all λi=>dM l (kid s).R1 i==dM l R1 i)=true)->FN l D R1 (pre++m) tail S (λs=>(kid s).R1):=λkid Xb=>by
    refine⟨hW,λa b u v he hu hv hup hue=>?_,λs hs=>by simpa using fL.1 g3 s hs,?_,λi hi hiS=>?_,λs hs i hi=>by simpa using fL.1 (Xb s hs) i hi⟩
    .rw[he]at g2;have:=nq g2 hu hv;simp only[kO,Bool.not_eq_true',List.contains_iff_mem,hue,Bool.true_eq_false,false_or]at this;rcases this with h|h
     .have hc:(pre++m).contains u=true:=List.contains_iff_mem.2 hup;rw[hc]at h;cases h
     .exact h
    .cases S with
     |nil=>simp at g4
     |cons s S=>exact⟨s,by simp⟩
    .have:=fL.1 g5 i hi;simp only[kO,List.contains_iff_mem,KU]at this;exact this.resolve_left hiS
   have hch:∀s,∃k:PT,s∈S->(k∈kids/\(((pre++m).all λi=>dM l k.R1 i==dM l R1 i)=true/\FZ l fu (oX D S s) (pre++m) k=true)):=λs=>by
    by_cases hs:s∈S
    .obtain⟨k,h3,h4⟩:=hk s hs;simp only[Ba]at h4;exact⟨k,λ_=>⟨h3,h4⟩⟩
    .exact⟨.leaf [] [],λh=>absurd h hs⟩
   obtain⟨kid,Xb⟩:=Classical.axiomOfChoice hch;have hFN:=hF kid λs hs=>(Xb s hs).2.1;have hSpre:∀s∈S,s∉pre++m:=λs hs hm=>(List.nodup_append.1 hW.nodup).2.2 s hm s (hFN.sub s hs) rfl;refine Bc (Ks:=λs=>GT P l K fu (pre++m) (kid s)) hFN (λs hs f L y done rest x hf hl=>?_) f L y done (rest++m) x hf (λs hs hm=>hSpre s hs (List.mem_append_left _ (hLp s hm))) ?_
   .refine C3 fu _ _ _ (Xb s hs).2.2 f L y done rest x hf (λi hi=>?_) hl;have:=hl.sub i hi;rw[hl.split];simp[this]
   .exact kx.mono (λx hx s hs=>hx (kid s) (Xb s hs).1) (kx.more hl)
def aq.vZ(hm:P.follows .mixedOrders=true){l:List aS}{R7:List (List Nat)}(fu:Nat)(t:PT)(hB:FZ l fu R7 [] t=true)(h:GT P l (λx=>aq P n k x Q) fu [] t st):aq P n (.code (.Wv l R7)::k) st Q:=by
 refine aq.Jz hm (C3 fu R7 [] t hB l.length [] st [] [] st (by simp) (by simp) ⟨rfl,by simp,List.nodup_nil,by simp,by simp,rfl,λ_ _=>rfl,by simp,?_⟩);exact h
variable {P:Program} {l:List aS} {K:St->Prop} {f:Nat} {pre m S r its:List Nat} {R1:List (List Nat)} {a b c:PT} {x:St}
def GT.gV(h:eK l R1 pre r=its)(hg:RE P l K its x):GT P l K (f+1) pre (.leaf R1 r) x:=by subst h;exact hg
def GT.oQ(h:eK l R1 pre m=its)(hg:RE P l (λx=>GT P l K f (pre++m) a x/\GT P l K f (pre++m) b x) its x):GT P l K (f+1) pre (.fork R1 m S [a,b]) x:=by
 subst h;refine RE.mono (λx hx k hk=>?_) hg;simp only[dZ,List.not_mem_nil,or_false]at hk;rcases hk with rfl|rfl
 .exact hx.1
 .exact hx.2
def GT.LJ(h:eK l R1 pre m=its)(hg:RE P l (λx=>GT P l K f (pre++m) a x/\GT P l K f (pre++m) b x/\GT P l K f (pre++m) c x) its x):GT P l K (f+1) pre (.fork R1 m S [a,b,c]) x:=by
 subst h;refine RE.mono (λx hx k hk=>?_) hg;simp only[dZ,List.not_mem_nil,or_false]at hk;rcases hk with rfl|rfl|rfl
 .exact hx.1
 .exact hx.2.1
 .exact hx.2.2
open Go.Proofs
def mP(fs:List RS)(y:Int):Int:=if(cu kR fs).2 then max y (cu kR fs).1 else y
def jT(fs:List RS)(f:RS)(y:Int)(s:Sn):Int:=qp fs f.w f.h s (mP fs y)
def lT(fs:List RS)(f:RS)(y:Int)(s:Sn):Int:=
 let b:=bM fs (jT fs f y s) f.h s
 if f.side=1 then b.a else max b.a (b.b-f.w)
def iK(fs:List RS)(f:RS)(y:Int)(s:Sn):RS:={ f with x:=lT fs f y s,y:=jT fs f y s }
def mU(fs:List RS)(f:RS)(y:Int)(s:Sn):List RS:=fs++[iK fs f y s]
def Cu{fs:List RS}{y:Int}(RP:∀f∈fs,f.ok)(hy:SJ y):SJ (mP fs y):=by
 unfold mP;split
 .rename_i h;obtain⟨f,hf,h1,_⟩:=kA h;obtain⟨_,⟨h3,h4⟩,_⟩:=RP f hf;obtain⟨g1,g2⟩:=hy;rw[h1];simp only[kR];exact⟨by omega,by omega⟩
 .exact hy
def Ke(fs:List RS)(f:RS)(y:Int)(s:Sn)(hl:fs.length<=1000000)(RP:∀f∈fs,f.ok)(hy:SJ y)(hh:Bq f.h)(hw:Bq f.w)(Tg:SJ s.a/\SJ s.b):
 aV prog 208 [bg fs,bl f,vI y,aW s] (.RM [vI (lT fs f y s),vI (jT fs f y s)]):=λU=>by
 refine Py.q ?_;have hs:=aa.refl U;refine mS 14 ?_;simp only[go_sem,seval,LC,bl,aW];refine aG hs λi5 Z5 s5 a5 f5 z5 hs=>?_;simp only[go_sem,seval,a5];refine aG hs λi7 Z7 s7 a7 f7 z7 hs=>?_;obtain⟨n57,a5⟩:=RC a5 f7 s7;simp only[go_sem,seval,a7,a5];refine pR rfl (Nh fs hl RP _) ?_;have Vu:=Cu (y:=y) RP hy;have Zs:=HR fs f (mP fs y) s hl RP Vu hh Tg;have V7:=jf (y:=jT fs f y s) (high:=f.h) RP Tg;obtain⟨z,hz⟩:∃z,z=jT fs f y s:=⟨_,rfl⟩
 have hz2:qp fs f.w f.h s (mP fs y)=z:=hz.symm;rw[hz2]at Zs;rw[<-hz]at V7;obtain⟨b,hb⟩:∃b,b=bM fs z f.h s:=⟨_,rfl⟩
 have hx:lT fs f y s=if f.side=1 then b.a else max b.a (b.b-f.w):=by unfold lT;rw[<-hz,<-hb]
 rw[<-hz,hx];rw[<-hb]at Zs V7;obtain⟨U5,Sh,hb3,hb4⟩:-2305843009213693952<=b.a/\b.a<=2305843009213693952/\-2305843009213693952<=b.b/\b.b<=2305843009213693952:=⟨V7.1.1,V7.1.2,V7.2.1,V7.2.2⟩
 obtain⟨hw1,U3⟩:=hw;cases ht:(cu kR fs).2
 .have hty2:mP fs y=y:=by unfold mP;rw[ht];rfl
  rw[hty2]at Zs;apply sR;simp only[go_sem,seval,a7,a5,aA,aC];refine pS rfl (Zs _) ?_;simp only[go_sem,seval,a7,a5,aW];refine aG hs λi12 Y12 Xt a12 f12 z12 hs=>?_;obtain⟨ZE,a5⟩:=RC a5 f12 Xt;obtain⟨n712,a7⟩:=RC a7 f12 Xt;by_cases UM:f.side=1
  .have q:(f.side=1)=True:=RA UM;rw[aK UM];simp only[go_sem,seval,a12,a7,a5,q,ab ZE,ab n712];exact az.pure (hs.aL z12) rfl
  .have q:(f.side=1)=False:=H' UM;rw[aM UM];have r1:R0 .i64 (b.b-f.w):=ao;simp only[go_sem,seval,a12,a7,a5,q,r1,bW,ab ZE,ab n712];exact az.pure (hs.aL z12) rfl
 .have hty2:mP fs y=max y (cu kR fs).1:=by unfold mP;rw[ht];rfl
  rw[hty2]at Zs;apply sR;simp only[go_sem,seval,a7,a5,aA,aC,bW];refine pS rfl (Zs _) ?_;simp only[go_sem,seval,a7,a5,aW];refine aG hs λi12 Y12 Xt a12 f12 z12 hs=>?_;obtain⟨ZE,a5⟩:=RC a5 f12 Xt;obtain⟨n712,a7⟩:=RC a7 f12 Xt;by_cases UM:f.side=1
  .have q:(f.side=1)=True:=RA UM;rw[aK UM];simp only[go_sem,seval,a12,a7,a5,q,ab ZE,ab n712];exact az.pure (hs.aL z12) rfl
  .have q:(f.side=1)=False:=H' UM;rw[aM UM];have r1:R0 .i64 (b.b-f.w):=ao;simp only[go_sem,seval,a12,a7,a5,q,r1,bW,ab ZE,ab n712];exact az.pure (hs.aL z12) rfl
open Go.Proofs
def RJ(l:List Nd)(i:Nat):Int:=((l[i]?).map Nd.size).getD 0
def Wu(l:List Nd)(i:Nat):Int:=((l[i]?).map Nd.kind).getD 0
def mK(l:List Nd)(a:Int):Bool:=decide (0<=a)&&decide (a<l.length)
def cc(l:List Nd)(a b:Int):Bool:=mK l a&&(mK l b&&(decide (b>=a)&&decide (b-a<RJ l a.toNat)))
def dr(l:List Nd)(a:Nat):Nat->List Int
 |0=>[]
 |k+1=>if cc l k a then(k:Int)::dr l a k else dr l a k
def lM(l:List Nd)(a:Nat):Nat->Int
 |0=>-1
 |k+1=>if cc l k a then(k:Int)else lM l a k
def cS(l:List Nd)(a:Nat):Int:=lM l a a
def jW{l:List Nd}{a:Int}:mK l a=true↔0<=a/\a<l.length:=by simp[mK]
def gZ{l:List Nd}{i:Nat}(h:i<l.length):RJ l i=l[i].size:=by simp[RJ,h]
def KK{l:List Nd}{i:Nat}(h:i<l.length):Wu l i=l[i].kind:=by simp[Wu,h]
def uK{l:List Nd}(h:Sc l=true){i:Nat}(hi:i<l.length):1<=l[i].size/\l[i].size<=(l.length:Int)-i/\(l[i].kind=1\/l[i].size<=1):=by
 simp only[Sc,Ba]at h;exact iJ l (l.length+1) 0 l.length (by omega) (Sf _) h.2 i (by omega) hi hi
def xA{U:ak}{l:List Nd}{a:Int}(h0:0<=a)(h:a.toNat<l.length):bG U 20 (aQ l) (.int .i64 a)=some (.rp (.agg (Nd.cells l[a.toNat]))):=by
 simp[aQ,bG,h0,h,gz]
def BV(l:List Nd)(a:Int):aV prog 219 [aQ l,vI a] (.bool (mK l a)):=λU=>by
 refine Qk.q ?_;refine mS 6 ?_;simp only[go_sem,seval,aH,aJ,Oe,bO];refine And.intro (λh=>?_) (λh=>?_)
 .refine az.same ?_;simp[mK];omega
 .refine az.same ?_;simp[mK];omega
def CQ(l:List Nd)(hl:l.length<=1000000000)(a b:Int):aV prog 220 [aQ l,vI a,vI b] (.bool (cc l a b)):=λU=>by
 refine QC.q ?_;refine mS 8 ?_;simp only[go_sem,seval,aH,aJ,Mj];refine pR rfl (BV l a _) ?_;cases ha:mK l a
 .apply sR;simp only[go_sem,seval,aH,aJ,ha];refine az.same ?_;simp[cc,ha]
 .apply sR;simp only[go_sem,seval,aH,aJ,ha];refine pR rfl (BV l b _) ?_;cases hb:mK l b
  .apply sR;simp only[go_sem,seval,aH,aJ,hb];refine az.same ?_;simp[cc,ha,hb]
  .rw[jW]at ha hb;have u':a.toNat<l.length:=by omega
   apply sR;simp only[go_sem,seval,aH,aJ,hb,xA ha.1 u',Nd.cells];refine And.intro (λh=>⟨ao,?_⟩) (λh=>?_)
   .refine az.same ?_;have ha':=jW.2 ha;have UB:=jW.2 hb;simp[cc,ha',UB,gZ u'];omega
   .refine az.same ?_;have ha':=jW.2 ha;have UB:=jW.2 hb;simp[cc,ha',UB,gZ u'];omega
def IK(l:List Nd)(hl:l.length<=1000000000)(a:Nat)(ha:a<l.length):aV prog 193 [aQ l,vI a] (aX (dr l a a)):=λU=>by
 refine Rt.q ?_;refine mS 7 ?_;simp only[go_sem,seval,aH,aJ,NI];refine⟨ao,?_⟩;refine aq.loop (λm st=>∃(k:Nat) (out:List Int),k<=a/\m=k/\dr l a a=out++dr l a k/\out.length<=a-k/\aa U st.U/\aP U st.U 3 1 (st.s 5) (out.map vI)/\st.s 0=aQ l/\st.s 1=vI a/\st.s 6=vI ((k:Int)-1)) a ?_ ?_
 .exact⟨a,[],by omega,rfl,rfl,by simp,aa.refl U,aP.start,rfl,rfl,rfl⟩
 .rintro m ⟨s,Z'⟩ ⟨k,out,hk,rfl,heq,hlen,G',R3,h0,h1,h6⟩;simp only at G' R3 h0 h1 h6;refine mS 7 ?_;simp only[go_sem,seval,aH,aJ,h0,h1,h6];refine And.intro (λh=>?_) (λh=>?_)
  .obtain⟨k,rfl⟩:∃j,m=j+1:=⟨m-1,by omega⟩
   refine pR rfl (BV l a _) ?_;have hha:mK l a=true:=jW.2 ⟨by omega,by omega⟩;have e1:((k+1:Nat):Int)-1=k:=by omega
   apply sR;simp only[go_sem,seval,aH,aJ,hha,h0,h1,h6,e1];refine pR rfl (CQ l hl k a _) ?_;cases hh:cc l k a
   .apply sR;simp only[go_sem,seval,aH,aJ,hh,h0,h1,h6,e1];refine⟨ao,_,?_,k,out,by omega,rfl,?_,by omega,G',R3,rfl⟩
    .omega
    .rw[heq,dr,hh];rfl
   .apply sR;simp only[go_sem,seval,hh,h0,h1,h6,e1];refine aD λVz Z1 s1 a1 f1=>?_;obtain⟨idA,hd,RO⟩:=R3.dst s1;have hb:out.length+1<=a:=by omega
    have Sh:(out.length+1)*9<=140737488355328:=by omega
    simp only[go_sem,seval,hd,bN a1,dC,Sh,h0,h1,h6,e1];refine bk λWY Z2 s2 a2 f2=>?_;simp only[go_sem,seval,h0,h1,h6,e1];have UF:=(RO U (aa.refl U) Z1 (G'.trans s1)).trans s2;refine⟨ao,_,?_,k,out++[(k:Int)],by omega,rfl,?_,by simp;omega,UF,?_,rfl⟩
    .omega
    .rw[heq,dr,hh];simp
    .exact aP.new (by simp) (by rw[a2];simp) ((G'.trans s1).none f2)
  .have VQ:m=0:=by omega
   subst VQ;refine R3.ns G' ?_;rw[heq,dr];simp[aX]
def rT(l:List Nd)(a:Nat):∀k,(dr l a k).length=0/\lM l a k=-1\/∃x r,dr l a k=x::r/\lM l a k=x
 |0=>.inl ⟨rfl,rfl⟩
 |k+1=>by
  rw[dr,lM];split
  .exact .inr ⟨_,_,rfl,rfl⟩
  .exact rT l a k
def uE(l:List Nd)(a:Nat):∀k,-1<=lM l a k/\lM l a k<k
 |0=>by simp[lM]
 |k+1=>by
  rw[lM];split
  .omega
  .have:=uE l a k;omega
def yY(l:List Nd)(hl:l.length<=1000000000)(a:Nat)(ha:a<l.length):aV prog 159 [aQ l,vI a] (vI (cS l a)):=λU=>by
 refine Qm.q ?_;refine mS 6 ?_;simp only[go_sem,seval,aH,aJ,MS];refine pR rfl (IK l hl a ha _) ?_;have hh:=rT l a a;apply sR;simp only[go_sem,seval,aH,aJ,cC];refine And.intro (λh=>?_) (λh=>?_)
 .refine az.same ?_;rcases hh with⟨_,h2⟩|⟨x,r,h1,h2⟩
  .rw[cS,h2]
  .rw[h1]at h;simp at h;omega
 .rcases hh with⟨h1,h2⟩|⟨x,r,h1,h2⟩
  .exact absurd (by omega) h
  .have u':0<(dr l a a).length:=by rw[h1];simp
   have h3:=uY (U:=U) u';have h4:(dr l a a)[0]=x:=by simp[h1]
   rw[h4,Int.natCast_zero]at h3;simp only[go_sem,seval,aH,aJ,h3];refine az.same ?_;rw[cS,h2]
open Go.Proofs
def x6(U:ak)(l:List Int):cB U 1 (aX l)=some (l.map vI):=by simp[aX,cB]
def qP{l:List Nd}(hb:Sc l=true){i:Nat}(h:i<l.length):1<=RJ l i/\RJ l i<=l.length:=by
 rw[gZ h];have:=uK hb h;omega
open Go.Proofs
def nO(l:List Nd):∀(m a e:Nat),e-a<m->e<=l.length->bC l a e=true->∀k,a<=k->(h:k<e)->(h2:k<l.length)->bC l (k+1) (k+l[k].size.toNat)=true
 |0,_,_,h,_,_=>by omega
 |m+1,a,e,hm,he,hr=>by
  intro k hk hke h2;have WD:a<e:=by omega
  have ha:a<l.length:=by omega
  rw[bC,dif_pos WD]at hr;have hga:l[a]?=some l[a]:=by simp[ha]
  rw[hga]at hr;simp only at hr;split at hr
  .rename_i hx;simp only[Ba]at hr;obtain⟨⟨h3,h4⟩,h5⟩:=hr;by_cases hka:k=a
   .subst hka;exact h4
   .by_cases Xp:k<a+l[a].size.toNat
    .exact nO l m (a+1) (a+l[a].size.toNat) (by omega) (by omega) h4 k (by omega) Xp h2
    .exact nO l m (a+l[a].size.toNat) e (by omega) he h5 k (by omega) hke h2
  .cases hr
def Sv(x:Nd):Int:=if x.kind=1 then x.st.top+x.st.RX+x.st.RH+x.st.O'+x.st.head else if x.kind=2 then x.line*x.words.length else x.h
def pof(x:Nd):Int:=if x.kind=1 then 0 else if x.kind=2 then x.words.length else 1
def fb:List Nd->Int
 |[]=>0
 |x::l=>Sv x+fb l
def lp:List Nd->Int
 |[]=>0
 |x::l=>pof x+lp l
def zz(a b:List Nd):fb (a++b)=fb a+fb b:=by
 induction a with
 |nil=>simp[fb]
 |cons x a ih=>simp only[List.cons_append,fb,ih];omega
def zK(a b:List Nd):lp (a++b)=lp a+lp b:=by
 induction a with
 |nil=>simp[lp]
 |cons x a ih=>simp only[List.cons_append,lp,ih];omega
def vx{x:Nd}(h:x.ok=true):0<=Sv x:=by
 obtain⟨p1,p2,p3,p4,p5,p6⟩:=jy h;unfold Sv;split
 .rename_i hk;obtain⟨q1,q2,q3,q4,q5⟩:=p6 hk;omega
 .split
  .exact Int.mul_nonneg p2 (by omega)
  .exact p4
def AS{l:List Nd}(h:l.all Nd.ok=true):0<=fb l:=by
 induction l with
 |nil=>simp[fb]
 |cons x l ih=>
  simp only[xL,Ba]at h;have:=vx h.1;have:=ih h.2;simp only[fb];omega
def dm(l:List Nd):Nat->Int
 |0=>0
 |i+1=>match l[i]? with
  |some x=>if x.kind=1 then max (dm l i) (eY l i (i+1))else dm l i
  |none=>dm l i
def Fh{l:List Nd}{i:Nat}{x:Nd}{s:Sm}(hx:x.ok=true)(hs:0<=s.M'/\s.M'<=1099511627777):(l7 l i x s).M'=min (s.M'+Sv x) 1099511627777/\(l7 l i x s).pieces=s.pieces+pof x/\
 (l7 l i x s).depth=(if x.kind=1 then max s.depth (eY l i (i+1))else s.depth)/\(l7 l i x s).nodes=s.nodes:=by
 obtain⟨p1,p2,p3,p4,p5,p6⟩:=jy hx;unfold l7 Sv pof;by_cases hk:x.kind=1
 .obtain⟨q1,q2,q3,q4,q5⟩:=p6 hk;simp only[hk,if_true,jq];refine⟨by omega,by omega,trivial,trivial⟩
 .by_cases Ti:x.kind=2
  .rw[aM hk,aK Ti,aM hk,aK Ti,aM hk,aK Ti,aM hk];simp only[];refine⟨tt hs p2 _,trivial,trivial,trivial⟩
  .rw[aM hk,aM Ti,aM hk,aM Ti,aM hk,aM Ti,aM hk];exact⟨rfl,rfl,rfl,rfl⟩
def tP(l:List Nd)(RP:l.all Nd.ok=true):∀i,i<=l.length->(fA l ⟨0,0,l.length,0⟩ i)=⟨dm l i,lp (l.take i),l.length,min (fb (l.take i)) 1099511627777⟩
 |0,_=>by simp[fA,dm,lp,fb];omega
 |i+1,hi=>by
  have ih:=tP l RP i (by omega);have hg:l[i]?=some l[i]:=by simp[show i<l.length by omega]
  have hx:=fL.1 RP _ (Sx (show i<l.length by omega));have ht:l.take (i+1)=l.take i++[l[i]]:=U0 (by omega);have hn:0<=fb (l.take i):=AS (fL.2 λx hx=>fL.1 RP x (yu hx));have hh:=vx hx;simp only[fA,hg,ih];obtain⟨g1,g2,g3,g4⟩:=Fh (l:=l) (i:=i) (s:=⟨dm l i,lp (l.take i),l.length,min (fb (l.take i)) 1099511627777⟩) hx ⟨by simp only;omega,by simp only;omega⟩;generalize l7 l i l[i] ⟨dm l i,lp (l.take i),l.length,min (fb (l.take i)) 1099511627777⟩=r at*;obtain⟨r1,r2,r3,r4⟩:=r;simp only at g1 g2 g3 g4;subst g1 g2 g3 g4;simp only[dm,hg,ht,zK,zz,lp,fb,Sm.mk.injEq,Int.add_zero,true_and];omega
open Go.Proofs
def V.flat:V->Bool
 |.agg vs=>vs.all V.lone
 |v=>v.lone
def V.Cl:V->Bool
 |.RM vs=>vs.all V.flat
 |v=>v.flat
def ax.lone{I Y':Mu}{ow TA:Nat->Prop}{w w':World}:∀{vs:List V} {l:List Value},vs.all V.lone=true->ax I ow w vs l->ax Y' TA w' vs l
 |[],l,_,h=>by simpa[ax]using h
 |v::vs,l,hv,h=>by
  simp only[xL,Ba]at hv;simp only[ax]at h|-;obtain⟨x,xs,rfl,h1,h2⟩:=h;exact⟨x,xs,rfl,E'.lone hv.1 h1,ax.lone hv.2 h2⟩
def E'.flat{I Y':Mu}{ow TA:Nat->Prop}{w w':World}{v:V}{x:Value}(hv:v.flat=true)(h:E' I ow w v x):E' Y' TA w' v x:=by
 cases v<;>try exact E'.lone hv h
 rename_i vs;simp only[E']at h|-;obtain⟨RI,rfl,h1,h2⟩:=h;exact⟨RI,rfl,ax.lone hv h1,h2⟩
def ax.flat{I Y':Mu}{ow TA:Nat->Prop}{w w':World}:∀{vs:List V} {l:List Value},vs.all V.flat=true->ax I ow w vs l->ax Y' TA w' vs l
 |[],l,_,h=>by simpa[ax]using h
 |v::vs,l,hv,h=>by
  simp only[xL,Ba]at hv;simp only[ax]at h|-;obtain⟨x,xs,rfl,h1,h2⟩:=h;exact⟨x,xs,rfl,E'.flat hv.1 h1,ax.flat hv.2 h2⟩
def E'.Cl{I Y':Mu}{ow TA:Nat->Prop}{w w':World}{v:V}{x:Value}(hv:v.Cl=true)(h:E' I ow w v x):E' Y' TA w' v x:=by
 cases v<;>try exact E'.flat hv h
 rename_i vs;simp only[E']at h|-;obtain⟨RI,rfl,h1⟩:=h;exact⟨RI,rfl,ax.flat hv h1⟩
def aV.td{P:Program}{f:FuncId}{args args':List V}{v:V}{U:ak}(hw:Yt U ic args args')(h:aV P f args' v)(hv:v.Cl=true):
 aB P f args U λr Z'=>r=v/\Z'=U:=by
 refine⟨(h ic).1,?_⟩;intro I w RI hs hr;have Ty:Sat w (aN I ic) I ic w:=by
  have:=hs.drop (jR U);exact⟨Sf _,rfl,rfl,rfl,λ_ _ _=>rfl,this.fin,this.inj,this.obj,λb hb _=>hb,this.mV⟩
 refine((h ic).2 I w RI Ty (Yt.all hs hw hr)).mono ?_;rintro e w' ⟨r,Z',Y',val,rfl,⟨rfl,rfl⟩,hle,RV,Tu⟩;have R9:∀b,¬aN I ic b:=λb ⟨_,_,_,_,h,_⟩=>by simp[ic]at h
 have Tr:∀b,b<w.heap.size->w'.heap[b]?=w.heap[b]?:=λb hb=>RV.same b hb (R9 b);have Tq:∀id o,U id=some o->Y' id=I id:=λid o ho=>hle id (λe=>by
  have:=hs.obj id o ho;rw[e]at this;exact this)
 have Yw:∀b,aN Y' U b->aN I U b:=λb ⟨id,o,sz,cap,h1,h2⟩=>⟨id,o,sz,cap,h1,Tq id o h1▸h2⟩
 have hk:dc (aN I U) (aN Y' U) w w':=λb hb hn=>⟨λho=>hn (Yw b ho),Tr b hb⟩
 refine⟨_,U,Y',val,rfl,⟨rfl,rfl⟩,hle,?_,E'.Cl hv Tu⟩;refine⟨RV.size,RV.os,RV.tape,RV.output,λb hb _=>Tr b hb,RV.fin,?_,?_,λb hb _=>Yw b hb,hs.UO⟩
 .intro id Ua o o' b sz cap Uu SZ h1 h2 h3 h4;exact hs.inj id Ua o o' b sz cap Uu SZ h1 h2 (Tq id o h1▸h3) (Tq Ua o' h2▸h4)
 .intro id o ho;rw[Tq id o ho];refine(hs.obj id o ho).mono hle hk RV.size λb sz cap hp=>Tr b ?_;exact aN.lt hs ⟨id,o,sz,cap,ho,hp⟩
open Go.Proofs
def bS{l:List Nd}{a e:Nat}(he:e<=l.length)(h:bC l a e=true){k:Nat}(h1:a<=k)(h2:k<e):(k:Int)+RJ l k<=e/\1<=RJ l k:=by
 have:=iJ l (e-a+1) a e (by omega) he h k h1 h2 (by omega);rw[gZ (by omega)];omega
def cE{l:List Nd}{a e:Nat}(he:e<=l.length)(h:bC l a e=true)(WD:a<e):bC l (a+(RJ l a).toNat) e=true/\bC l (a+1) (a+(RJ l a).toNat)=true:=by
 have ha:a<l.length:=by omega
 rw[bC,dif_pos WD]at h;simp only[VH ha]at h;rw[gZ ha];split at h
 .simp only[Ba]at h;exact⟨h.2,h.1.2⟩
 .cases h
def wJ{l:List Nd}{b:Nat}(hb:b<l.length):∀k,k<=b->(∀i,i<k->(i:Int)+RJ l i<=b)->lM l b k=-1
 |0,_,_=>rfl
 |k+1,hk,h=>by
  rw[lM,aM,wJ hb k (by omega) (λi hi=>h i (by omega))];have:=h k (by omega);simp only[cc,Ba,Uy,not_and];intro _ _ _;simp;omega
def C0{l:List Nd}{b p:Nat}(hb:b<l.length)(hpb:(b:Int)<p+RJ l p):∀k,p<k->k<=b->(∀i,p<i->i<k->(i:Int)+RJ l i<=b)->lM l b k=p
 |0,h,_,_=>by omega
 |k+1,h,hk,hh=>by
  by_cases e:k=p
  .subst e;rw[lM,aK];simp only[cc,Ba,Uy,mK];simp;omega
  .rw[lM,aM,C0 hb hpb k (by omega) (by omega) (λi h1 h2=>hh i h1 (by omega))];have:=hh k (by omega) (by omega);simp only[cc,Ba,Uy,not_and];intro _ _ _;simp;omega
def Kg(l:List Nd)(p:Int)(a e:Nat):Prop:=(p=-1/\a=0)\/∃q:Nat,p=q/\a=q+1/\(e:Int)=q+RJ l q
open Go.Proofs
def BX(l:List Nd)(hl:dq l)(hb:Sc l=true):aV prog 142 [aQ l] (.agg [aQ l]):=λU=>by
 refine Qs.q ?_;refine mS 3 ?_;simp only[go_sem,seval,Lx];refine aD λWY Z1 s1 a2 f2=>?_;simp only[go_sem,seval,a2];refine pS rfl (Cn l hl _) ?_;simp only[go_sem,seval,hb,a2,aQ];refine az.pure (s1.aL f2) rfl
def Ka(l:List Nd)(a:Int):aV prog 191 [aQ l,vI a] (.bool (mK l a)):=λU=>by
 refine Qb.q ?_;refine mS 6 ?_;simp only[go_sem,seval,aH,aJ,Nr,bO];refine And.intro (λh=>?_) (λh=>?_)
 .refine az.same ?_;simp[mK];omega
 .refine az.same ?_;simp[mK];omega
def xq(l:List Nd)(hl:dq l)(hb:Sc l=true)(a:Nat)(ha:a<l.length):aV prog 192 [aQ l,vI a] (vI (cS l a)):=λU=>by
 have hl1:=hl.1;refine Qx.q ?_;refine mS 6 ?_;simp only[go_sem,seval,aH,aJ,MZ];refine⟨ao,?_⟩;refine aq.loop (λm st=>∃(k:Nat),k<=a/\m=k/\cS l a=lM l a k/\st.U=U/\st.s 0=aQ l/\st.s 1=vI a/\st.s 5=vI ((k:Int)-1)) a ?_ ?_
 .exact⟨a,by omega,rfl,rfl,rfl,rfl,rfl,rfl⟩
 .rintro m ⟨s,Z'⟩ ⟨k,hk,rfl,heq,R8,h0,h1,h5⟩;simp only at R8 h0 h1 h5;subst R8;refine mS 6 ?_;simp only[go_sem,seval,aH,aJ,h0,h1,h5];refine And.intro (λh=>?_) (λh=>?_)
  .obtain⟨k,rfl⟩:∃j,m=j+1:=⟨m-1,by omega⟩
   have e1:((k+1:Nat):Int)-1=k:=by omega
   have u':k<l.length:=by omega
   have Tt:=qP hb u';have hse:=gZ u';have hx:=gk (U:=Z') u';simp only[go_sem,seval,aH,aJ,e1,hx,Nd.cells,h0,h1,h5];rw[<-hse];refine⟨ao,And.intro (λhc=>?_) (λhc=>?_)⟩
   .refine az.same ?_;rw[heq,lM,aK];simp only[cc,Ba,Uy,mK];simp;omega
   .refine⟨ao,_,?_,k,by omega,rfl,?_,rfl⟩
    .omega
    .rw[heq,lM,aM];simp only[cc,Ba,Uy,mK];simp;omega
  .have VQ:m=0:=by omega
   subst VQ;refine az.same ?_;rw[heq];rfl
end Go.Vc
