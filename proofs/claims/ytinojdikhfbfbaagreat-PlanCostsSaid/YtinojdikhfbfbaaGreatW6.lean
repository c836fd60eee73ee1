import Derived.Test.YtinojdikhfbfbaaGreatW5
import Derived.DeepKeys5
set_option linter.all false
set_option maxHeartbeats 8000000
set_option maxRecDepth 100000
open Go.Proofs.Tryz
namespace Go.Vc
variable {P:Program} {n:Nat} {st:St} {Q:St->Prop} {k:List It}
def vg{Sv:List (List Nat)}{n':List Nat}{i:Nat}(h:i∈eL Sv n'):i<Sv.length/\i∉n'/\∀k∈Sv.getD i [],k∈n':=by
 unfold eL at h;obtain⟨h1,h2⟩:=xR.1 h;simp only[Ba,Bool.not_eq_true',gj]at h2;exact⟨by simpa using h1,by simpa using h2.1,λk hk=>by simpa using h2.2 k hk⟩
def tZ:∀(n:Nat) (L:List Nat),L.Nodup->(∀k∈L,k<n)->L.length<=n/\(L.length=n->∀k,k<n->k∈L)
 |0,L,_,h=>by
  cases L with
  |nil=>simp
  |cons a L=>have:=h a (by simp);omega
 |n+1,L,hd,h=>by
  by_cases hn:n∈L
  .have h1:=tZ n (L.erase n) (hd.erase n) λk hk=>by
    have h2:=h k (List.mem_of_mem_erase hk);have h3:k≠n:=λe=>by subst e;exact(List.Nodup.not_mem_erase hd) hk
    omega
   have h4:=List.length_erase_of_mem hn;have h5:0<L.length:=List.length_pos_of_mem hn;refine⟨by omega,λhe k hk=>?_⟩;by_cases hkn:k=n
   .rw[hkn];exact hn
   .exact List.mem_of_mem_erase (h1.2 (by omega) k (by omega))
  .have h1:=tZ n L hd λk hk=>by
    have h2:=h k hk;have h3:k≠n:=λe=>hn (e▸hk);omega
   exact⟨by omega,λhe=>by omega⟩
open Go.RowKit
variable {P:Program} {n:Nat} {st:St} {Q:St->Prop} {k:List It} {I:Mu} {w:World}
def D2{o:Op}{xs:List VX}(h:SC P n o=.more .mkMap xs):∃t,o=.makeMap t none/\xs=[]:=by
 cases o
 case makeMap t r=>
  simp only[SC]at h;split at h
  .rename_i hc;simp only[Ba,Option.isNone_iff_eq_none]at hc;obtain⟨rfl,_⟩:=hc;simp only[SH.more.injEq,true_and]at h;exact⟨t,rfl,h.symm⟩
  .cases h
 case call c=>
  obtain⟨callee,args,argTypes⟩:=c;cases callee
  case value=>simp[SC]at h
  case invoke r name=>simp[SC]at h
  case builtin b=>cases b<;>(simp only[SC,cU]at h;(repeat' split at h)<;>cases h)
 case unOp op t x=>cases op<;>simp only[SC,cU]at h<;>cases h
 case makeFunc f a b=>cases f<;>simp only[SC,cU]at h<;>(repeat' split at h)<;>cases h
 all_goals (simp only[SC,cU]at h;(repeat' split at h)<;>cases h)
def qu{b:Nat}{es:Array MapEntry}{c:Nat}(h:w.heap[b]?=some (.map es c)):(getObj b).run P w=.ok (.map es c) w:=by simp[getObj,Sem.run,h]
def ze{b:Nat}{es:Array MapEntry}{c:Nat}(o':Obj)(h:w.heap[b]?=some (.map es c)):(setObj b o').run P w=.ok () (w.putObj b o'):=by simp[setObj,Sem.run,h,World.putObj]
def aB.set{ow:Nat->Prop}:∀{vs:List V} {l:List Value} {v:V} {x:Value} (j:Nat),aB I ow w vs l->E' I ow w v x->aB I ow w (vs.set j v) (l.set j x)
 |[],l,v,x,j,h,hv=>by simp only[aB]at h;subst h;simp[aB]
 |u::us,l,v,x,0,h,hv=>by
  simp only[aB]at h;obtain⟨y,ys,rfl,h1,h2⟩:=h;simp only[List.set_cons_zero,aB];exact⟨x,ys,rfl,hv,h2⟩
 |u::us,l,v,x,j+1,h,hv=>by
  simp only[aB]at h;obtain⟨y,ys,rfl,h1,h2⟩:=h;simp only[List.set_cons_succ,aB];exact⟨y,_,rfl,h1,aB.set j h2 hv⟩
open Go.RowKit
variable {P:Program} {n:Nat} {st:St} {Q:St->Prop} {k:List It} {I:Mu} {w:World}
def vq{t kt e:TypeId}(h:uC P t=some (kt,e)):P.underlying t=some (.map kt e):=by
 unfold uC at h;split at h
 .rename_i k' e' ht;split at h
  .simp only[bh,Prod.mk.injEq]at h;obtain⟨rfl,rfl⟩:=h;exact ht
  .cases h
 .cases h
def Fw{o:Op}{kt:TypeId}{xs:List VX}(h:SC P n o=.more (.insS kt) xs):∃t e m y x,(o=.insert t m y x\/o=.mapUpdate t m y x)/\uC P t=some (kt,e)/\xs=[cx n m,cx n y,cx n x]:=by
 cases o
 case insert t m y x=>
  simp only[SC]at h;split at h
  .cases h
  .split at h
   .rename_i k' e hc;simp only[SH.more.injEq,MOp.insS.injEq]at h;obtain⟨rfl,h⟩:=h;exact⟨t,e,m,y,x,.inl rfl,hc,h.symm⟩
   .cases h
 case mapUpdate t m y x=>
  simp only[SC]at h;split at h
  .cases h
  .split at h
   .rename_i k' e hc;simp only[SH.more.injEq,MOp.insS.injEq]at h;obtain⟨rfl,h⟩:=h;exact⟨t,e,m,y,x,.inr rfl,hc,h.symm⟩
   .cases h
 case call c=>
  obtain⟨callee,args,argTypes⟩:=c;cases callee
  case value=>simp[SC]at h
  case invoke r name=>simp[SC]at h
  case builtin b=>cases b<;>(simp only[SC,cU]at h;(repeat' split at h)<;>cases h)
 case unOp op t x=>cases op<;>simp only[SC,cU]at h<;>cases h
 case makeFunc f a b=>cases f<;>simp only[SC,cU]at h<;>(repeat' split at h)<;>cases h
 all_goals (simp only[SC,cU]at h;(repeat' split at h)<;>cases h)
def Ei{o:Op}{kt:TypeId}{xs:List VX}{ok:Bool}{zv:V}(h:SC P n o=.more (.XP kt ok zv) xs):∃t x y e i z,o=.lookup t x y ok/\uC P t=some (kt,e)/\zeroOf P e=some (i,z)/\zv=ofValue z/\xs=[cx n x,cx n y]:=by
 cases o
 case lookup t x y ok'=>
  simp only[SC]at h;split at h
  .split at h<;>cases h
  .split at h
   .rename_i k' e he;split at h
    .rename_i i z hz;simp only[SH.more.injEq,MOp.XP.injEq]at h;obtain⟨⟨rfl,rfl,rfl⟩,rfl⟩:=h;exact⟨t,x,y,e,i,z,rfl,he,hz,rfl,rfl⟩
    .cases h
   .cases h
 case call c=>
  obtain⟨callee,args,argTypes⟩:=c;cases callee
  case value=>simp[SC]at h
  case invoke r name=>simp[SC]at h
  case builtin b=>cases b<;>(simp only[SC,cU]at h;(repeat' split at h)<;>cases h)
 case unOp op t x=>cases op<;>simp only[SC,cU]at h<;>cases h
 case makeFunc f a b=>cases f<;>simp only[SC,cU]at h<;>(repeat' split at h)<;>cases h
 all_goals (simp only[SC,cU]at h;(repeat' split at h)<;>cases h)
def assoc{κ:Type}[DecidableEq κ](a:κ):List κ->List V->Option V
 |x::ks,v::vs=>if x=a then some v else assoc a ks vs
 |_,_=>none
def vj{κ:Type}[DecidableEq κ]{a:κ}:∀{ks:List κ} {vs:List V},a∉ks->assoc a ks vs=none
 |[],_,_=>by simp[assoc]
 |x::ks,[],_=>by simp[assoc]
 |x::ks,v::vs,h=>by
  rw[assoc,aK (λe=>h (by simp[e]))];exact vj λg=>h (by simp[g])
def oH{κ:Type}[DecidableEq κ]{a:κ}:∀{ks:List κ} {vs:List V} {j:Nat},ks.Nodup->ks[j]?=some a->ks.length=vs.length->assoc a ks vs=vs[j]?
 |[],_,j,_,h,_=>by simp at h
 |x::ks,[],j,_,_,hl=>by simp at hl
 |x::ks,v::vs,0,_,h,_=>by
  simp only[EU,bh]at h;rw[assoc,aI h];rfl
 |x::ks,v::vs,j+1,hn,h,hl=>by
  rw[GM]at h;have hm:=F0 h;have hxa:x≠a:=λe=>(List.nodup_cons.1 hn).1 (by rw[e];exact hm);rw[assoc,aK hxa,GM];exact oH (List.nodup_cons.1 hn).2 h (by simpa using hl)
def vN{κ:Type}[DecidableEq κ]{a b:κ}{v:V}:∀{ks:List κ} {vs:List V},a∉ks->ks.length=vs.length->assoc b (ks++[a]) (vs++[v])=if a=b then some v else assoc b ks vs
 |[],[],_,_=>by simp[assoc]
 |[],_::_,_,hl=>by simp at hl
 |_::_,[],_,hl=>by simp at hl
 |x::ks,u::vs,h,hl=>by
  have ih:=vN (a:=a) (b:=b) (v:=v) (ks:=ks) (vs:=vs) (λg=>h (List.mem_cons_of_mem _ g)) (by simpa using hl);have hx:x≠a:=λe=>h (by simp[e]);simp only[List.cons_append,assoc];by_cases h1:x=b
  .rw[aI h1,aI h1,aK (λe=>hx (h1.trans e.symm))]
  .rw[aK h1,aK h1,ih]
def wT{κ:Type}[DecidableEq κ]{a b:κ}{v:V}:∀{ks:List κ} {vs:List V} {j:Nat},ks.Nodup->ks[j]?=some a->ks.length=vs.length->assoc b ks (vs.set j v)=if a=b then some v else assoc b ks vs
 |[],_,j,_,h,_=>by simp at h
 |x::ks,[],j,_,_,hl=>by simp at hl
 |x::ks,u::vs,0,hn,h,_=>by
  simp only[EU,bh]at h;subst h;simp only[List.set_cons_zero,assoc];by_cases h1:x=b<;>simp[h1]
 |x::ks,u::vs,j+1,hn,h,hl=>by
  rw[GM]at h;have hm:=F0 h;have hx:x≠a:=λe=>(List.nodup_cons.1 hn).1 (e▸hm);have ih:=wT (b:=b) (v:=v) (List.nodup_cons.1 hn).2 h (by simpa using hl:ks.length=vs.length);simp only[List.set_cons_succ,assoc];by_cases h1:x=b
  .rw[aI h1,aI h1,aK (λe=>hx (h1.trans e.symm))]
  .rw[aK h1,aK h1,ih]
def oK{κ:Type}[DecidableEq κ](kv:κ->Value)(U:al)(id:Nat)(g:κ->Option V):Prop:=
 ∃(es:Array MapEntry) (clock:Nat) (ks:List κ) (env:List V),U id=some (gh (.map es clock) env)/\es.toList.map (·.key)=ks.map kv/\ks.length=env.length/\ks.Nodup/\∀a,assoc a ks env=g a
def oK.sub{κ:Type}[DecidableEq κ]{kv:κ->Value}{U Z':al}{id:Nat}{g:κ->Option V}(h:oK kv U id g)(hs:aa U Z'):oK kv Z' id g:=by
 obtain⟨es,clock,ks,env,h1,h2⟩:=h;exact⟨es,clock,ks,env,hs _ _ h1,h2⟩
def oK.ne{κ:Type}[DecidableEq κ]{kv:κ->Value}{U:al}{id j:Nat}{g:κ->Option V}{e:TypeId}{sz:Nat}{rows:List V}(h:oK kv U id g)(hj:U j=some ⟨e,sz,rows⟩)(hz:sz≠0):j≠id:=by
 rintro rfl;obtain⟨es,clock,ks,env,h1,_⟩:=h;rw[h1]at hj;simp only[gh,bh,Ob.mk.injEq]at hj;exact hz hj.2.1.symm
def oK.nil{κ:Type}[DecidableEq κ](kv:κ->Value){U:al}{id:Nat}(h:U id=some (gh (.map #[] 0) [])):oK kv U id λ_=>none:=
 ⟨#[],0,[],[],h,rfl,rfl,.nil,λ_=>rfl⟩
def AT{κ:Type}[DecidableEq κ]{kv:κ->Value}(hinj:∀a b,kv a=kv b->a=b){kt:TypeId}(WL:WideMaps.KeyLaw P kt){es:List MapEntry}{ks:List κ}(he:es.map (·.key)=ks.map kv)
 (hko:∀a∈ks,∃l,keyOf P kt (kv a)=some l){a:κ}(ha:∃l,keyOf P kt (kv a)=some l)(w:World):
 ((Instr.findKey kt (kv a) es).run P w=.ok none w/\a∉ks)\/∃j e,(Instr.findKey kt (kv a) es).run P w=.ok (some (j,e.val)) w/\es[j]?=some e/\e.key=kv a/\ks[j]?=some a:=by
 obtain⟨l,hl⟩:=ha;have TI:∀e∈es,∃l,keyOf P kt e.key=some l:=λe hm=>by
  have:e.key∈ks.map kv:=he▸List.mem_map_of_mem hm;obtain⟨b,hb,WU⟩:=iE.1 this;rw[<-WU];exact hko b hb
 rcases WL.find w hl es TI with⟨h1,h2⟩|⟨j,e,h1,h2,h3⟩
 .refine .inl ⟨h1,λhm=>?_⟩;have:kv a∈es.map (·.key):=he▸List.mem_map_of_mem hm;obtain⟨e,hem,Xt⟩:=iE.1 this;exact h2 e hem Xt
 .refine .inr ⟨j,e,h1,h2,h3,?_⟩;have h4:(es.map (·.key))[j]?=some e.key:=by rw[tg,h2];rfl
  rw[he,tg]at h4;cases hk:ks[j]? with
  |none=>rw[hk]at h4;cases h4
  |some b=>
   rw[hk]at h4;simp only[Option.map_some,bh]at h4;rw[hinj b a (h4.trans h3)]
structure AB{κ:Type}(P:Program)(kt:TypeId)(kv:κ->Value)(kV:κ->V):Prop where
 inj:∀a b,kv a=kv b->a=b
 law:WideMaps.KeyLaw P kt
 key:∀b,∃l,keyOf P kt (kv b)=some l
 rep:∀(a:κ) (I:Mu) (ow:Nat->Prop) (w:World) (X:Value),E' I ow w (kV a) X->X=kv a
def Ga{κ:Type}[DecidableEq κ]{kv:κ->Value}{kV:κ->V}{i:aU}{xm xk:VX}{kt:TypeId}{ok:Bool}{zv:V}(ho:i.op=.more (.XP kt ok zv) [xm,xk]){id:Nat}{g:κ->Option V}{a:κ}
 (hK:AB P kt kv kV)(hm:xm.ev st.s=.mp id)(Wc:oK kv st.U id g)(hk:xk.ev st.s=kV a){K:St->Prop}
 (h:K ⟨bb st.s i.dst (if ok then .Sa [(g a).getD zv,.bool (g a).isSome]else(g a).getD zv),st.U⟩):
 ∀(F:Fr),F.n=n->∀(I:Mu) (a:Act) (w:World) (o:Oper) (all:Array Oper),bO P n all o=i->dS F I st a w->
  ∀(next:Act->World->Prop) (Q':Exit->Act->World->Prop),(∀UZ a' w',fB F UZ a' w'->K UZ->next a' w')->o.wp P a w next Q':=by
 intro F hn I ac w o all hi hs next Q' R8
 obtain⟨hinj,WL,hko,TV⟩:=hK;replace TV:=TV a;replace hko:∀b,(b=a\/g b≠none)->∃l,keyOf P kt (kv b)=some l:=λb _=>hko b;subst hn;obtain⟨Sc,hd⟩:=fD hi;rw[ho]at Sc;obtain⟨t,x,y,e,ti,z,g1,g2,g3,rfl,g4⟩:=Ei Sc;simp only[List.cons.injEq,and_true]at g4;obtain⟨rfl,rfl⟩:=g4;have u1:=vq g2;obtain⟨es,clock,ks,env,Su,he,hlen,Th,Ua⟩:=Wc;have hr:=cO hs x;have ZK:=cO hs y;rw[hm]at hr;rw[hk]at ZK;have ZK:=TV _ _ _ _ ZK;simp only[E']at hr;have hks:∀b∈ks,∃l,keyOf P kt (kv b)=some l:=λb hb=>by
  obtain⟨j,hj⟩:=II hb;refine hko b (.inr ?_);rw[<-Ua b,oH Th hj hlen];have:j<env.length:=by rw[<-hlen];exact(rz.1 hj).1
  rw[V7 this];simp
 have hka:=hko a (.inl rfl);obtain⟨la,TZ⟩:=hka;split at hr
 .rename_i b cap L';obtain⟨TT,W7⟩:=hs.sat.I6 Su L';simp only[tmpsOf]at W7;rcases AT hinj WL he hks ⟨la,TZ⟩ w with⟨q1,q2⟩|⟨j,en,q1,q2,q3,q4⟩
  .have hga:g a=none:=by rw[<-Ua a,vj q2]
   rw[hga]at h;have SQ:(Instr.lookup t (ac.eval x) (ac.eval y) ok).run P w=.ok (if ok then .tuple #[z,.bool false]else z) w:=by
    simp[Instr.lookup,run_underlying u1,hr,ZK,qu TT,WL.check w _ TZ,q1,eQ g3]
   have hx:(execOp ac.eval o).run P w=.ok (.value (if ok then .tuple #[z,.bool false]else z)) w:=by
    unfold execOp;rw[g1];simp[SQ]
   unfold Oper.wp;rw[hx];refine R8 _ _ _ ⟨I,?_⟩ h;rw[<-hd];have hz:E' I (aO I st.U) w (ofValue z) z:=nX z;refine hs.pure ?_;cases ok
   .simpa using hz
   .simp only[if_true,Option.getD_none,Option.isSome_none,E'];exact⟨_,rfl,by simp only[aB,E'];exact⟨_,_,rfl,hz,_,_,rfl,rfl,rfl⟩⟩
  .have U3:j<env.length:=by rw[<-hlen];exact(rz.1 q4).1
   have hga:g a=some env[j]:=by rw[<-Ua a,oH Th q4 hlen,V7 U3]
   rw[hga]at h;have hv:E' I (aO I st.U) w env[j] en.val:=by
    obtain⟨x',SE,hrx⟩:=W7.get (i:=j) (by rw[V7 U3]);rw[tg,q2]at SE;simp at SE;subst SE;exact hrx
   have SQ:(Instr.lookup t (ac.eval x) (ac.eval y) ok).run P w=.ok (if ok then .tuple #[en.val,.bool true]else en.val) w:=by
    simp[Instr.lookup,run_underlying u1,hr,ZK,qu TT,WL.check w _ TZ,q1]
   have hx:(execOp ac.eval o).run P w=.ok (.value (if ok then .tuple #[en.val,.bool true]else en.val)) w:=by
    unfold execOp;rw[g1];simp[SQ]
   unfold Oper.wp;rw[hx];refine R8 _ _ _ ⟨I,?_⟩ h;rw[<-hd];refine hs.pure ?_;cases ok
   .simpa using hv
   .simp only[if_true,Option.getD_some,Option.isSome_some,E'];exact⟨_,rfl,by simp only[aB,E'];exact⟨_,_,rfl,hv,_,_,rfl,rfl,rfl⟩⟩
 .exact hr.elim
def JE(P:Program)(kt:TypeId)(ok:Bool)(zv m k:V)(U:al)(v:V):Prop:=∃(κ:Type) (_:DecidableEq κ) (kv:κ->Value) (kV:κ->V) (id:Nat) (g:κ->Option V) (a:κ),
 AB P kt kv kV/\m=.mp id/\oK kv U id g/\k=kV a/\v=if ok then .Sa [(g a).getD zv,.bool (g a).isSome]else(g a).getD zv
def F1{i:aU}{xs:List VX}(ho:i.op=.more .mkMap xs){K:St->Prop}(h:∀id,st.U id=none->K ⟨bb st.s i.dst (.mp id),C' st.U id (gh (.map #[] 0) [])⟩):
 ∀(F:Fr),F.n=n->∀(I:Mu) (a:Act) (w:World) (o:Oper) (all:Array Oper),bO P n all o=i->dS F I st a w->
  ∀(next:Act->World->Prop) (Q':Exit->Act->World->Prop),(∀UZ a' w',fB F UZ a' w'->K UZ->next a' w')->o.wp P a w next Q':=by
 intro F hn I a w o all hi hs next Q' R8
 subst hn;obtain⟨Sc,hd⟩:=fD hi;rw[ho]at Sc;obtain⟨t,h1,_⟩:=D2 Sc;obtain⟨id,L',Y',g1,g2,g3,g4⟩:=hs.sat.Nv (.map #[] 0) [] (by simp[aB,tmpsOf]);have SQ:(execOp a.eval o).run P w=.ok (.value (.map (some w.heap.size))) (w.alloc (.map #[] 0)):=by
  unfold execOp;rw[h1];simp[Instr.makeMap]
  all_goals rfl
 unfold Oper.wp;rw[SQ];refine R8 _ _ _ ⟨Y',?_⟩ (h id L');rw[<-hd];exact hs.step g3 g2 g4 (by simp) (by simp[E',g1])
variable {P:Program} {n:Nat} {st:St} {Q:St->Prop} {k:List It}
def TC(P:Program)(i:aU)(x:St)(K:St->Prop):Prop:=T P i x K\/(bt x.s i.g=some true/\match i.op with
 |.call fx xs=>∃f caps Post,fx.ev x.s=.fn f caps/\aG P f (xs.map (·.ev x.s)++caps) x.U Post/\∀r Z',Post r Z'->K ⟨bb x.s i.dst r,Z'⟩
 |.more (.XP kt ok zv) [xm,xk]=>∃v,JE P kt ok zv (xm.ev x.s) (xk.ev x.s) x.U v/\K ⟨bb x.s i.dst v,x.U⟩
 |.more .mkMap []=>∀id,x.U id=none->K ⟨bb x.s i.dst (.mp id),C' x.U id (gh (.map #[] 0) [])⟩
 |_=>False)
def TC.mono{i:aU}{x:St}{K K':St->Prop}(hk:∀x,K x->K' x)(h:TC P i x K):TC P i x K':=by
 rcases h with h|⟨h1,h2⟩
 .exact .inl (h.mono hk)
 .refine .inr ⟨h1,?_⟩;split at h2
  .obtain⟨f,caps,Post,g1,g2,g3⟩:=h2;exact⟨f,caps,Post,g1,g2,λr Z' hp=>hk _ (g3 r Z' hp)⟩
  .obtain⟨v,g1,g2⟩:=h2;exact⟨v,g1,hk _ g2⟩
  .exact λid L'=>hk _ (h2 id L')
  .exact h2.elim
def Ha{F:Fr}(hn:F.n=n){o:Oper}{all:Array Oper}{x:St}{K:St->Prop}{a:Act}{w:World}(h:TC P (bO P n all o) x K)(hs:fB F x a w)
 {next:Act->World->Prop}{Q':Exit->Act->World->Prop}(R8:∀x' a' w',fB F x' a' w'->K x'->next a' w'):
 if Region.wanted o (yielded all a.tmps)then SC P n o.op≠.bad/\o.wp P a w next Q' else next (a.put o.dst undef) w:=by
 rcases h with h|⟨hw,h⟩
 .exact tK hn h hs R8
 subst hn;obtain⟨I,hs⟩:=hs;have W3:=pY (P:=P) hs all o hw;rw[W3];simp only[if_true];have hdst:(bO P F.n all o).dst=o.dst.filter (·<F.n):=rfl;have hopc:(bO P F.n all o).op=SC P F.n o.op:=rfl;rw[hdst,hopc]at h;split at h
 .rename_i fx xs Sc;refine⟨λe=>?_,?_⟩
  .rw[Sc]at e;cases e
  obtain⟨f,caps,Post,h1,h2,h3⟩:=h;obtain⟨f0,args,argTypes,g1,rfl,rfl⟩:=nO Sc;refine pK hs g1 h1 h2 λr Z' hp a' w' Sj=>?_;exact R8 _ a' w' Sj (h3 r Z' hp)
 .rename_i kt ok zv xm xk Sc;refine⟨λe=>(by rw[Sc]at e;cases e),?_⟩;obtain⟨v,⟨κ,_,kv,kV,id,g,b,hK,h1,h2,h3,rfl⟩,h4⟩:=h;exact Ga (i:=bO P F.n all o) (K:=K) (hopc.trans Sc) hK h1 h2 h3 h4 F rfl I a w o all rfl hs next Q' R8
 .rename_i Sc;refine⟨λe=>(by rw[Sc]at e;cases e),?_⟩;exact F1 (i:=bO P F.n all o) (K:=K) (hopc.trans Sc) h F rfl I a w o all rfl hs next Q' R8
 .exact h.elim
def TnC(P:Program)(n:Nat)(ops:Array Oper)(i:Nat)(x:St)(K:St->Prop):Prop:=match ops[i]? with
 |some o=>TC P (bO P n ops o) x K
 |none=>K x
def x5(P:Program)(n:Nat)(ops:Array Oper)(Q:St->Prop):Nat->Array Bool->St->Prop
 |0,n',x=>Region.ready .any ops n'=[]/\Q x
 |f+1,n',x=>(Region.ready .any ops n'=[]->Q x)/\∀i∈Region.ready .any ops n',TnC P n ops i x (x5 P n ops Q f (n'.setIfInBounds i true))
def nD{F:Fr}(hn:F.n=n){ops:Array Oper}{Q:St->Prop}{Q':Exit->Act->World->Prop}(hQ:∀x a w,fB F x a w->Q x->Q' .normal a w):
 ∀(f:Nat) (n':Array Bool) (x:St) (a:Act) (w:World),fB F x a w->x5 P n ops Q f n' x->wpAnyIn F.fo 0 P .any ops Q' f n' a w
 |0,_,_,_,_,hs,h=>⟨h.1,hQ _ _ _ hs h.2⟩
 |f+1,n',x,a,w,hs,h=>by
  refine⟨λh0=>hQ _ _ _ hs (h.1 h0),λi hi=>?_⟩;have h1:=h.2 i hi;unfold TnC at h1;unfold wpOpIn;cases ho:ops[i]? with
  |none=>
   simp only[ho]at h1;exact nD hn hQ f _ x a w hs h1
  |some o=>
   simp only[ho]at h1;have h2:=Ha (Q':=Q') hn h1 hs λx' a' w' Sj hk=>nD hn hQ f _ x' a' w' Sj hk;by_cases hw:Region.wanted o (yielded ops a.tmps)=true
   .rw[aI hw]at h2;simp only[hw,if_true];exact Dz (kz h2.1) h2.2
   .rw[aK hw]at h2;simp only[hw];exact⟨λ_ _=>trivial,h2⟩
def uo(P:Program)(l:List aU)(rec:List Nat->St->Prop)(n':List Nat)(x:St):List Nat->Prop
 |[]=>True
 |i::is=>(match l[i]? with
   |some ins=>TC P ins x (rec (i::n'))
   |none=>False)/\uo P l rec n' x is
def jx(P:Program)(l:List aU)(Sv:List (List Nat))(Q:St->Prop):Nat->List Nat->St->Prop
 |0,n',x=>eL Sv n'=[]/\Q x
 |f+1,n',x=>match eL Sv n' with
   |[]=>Q x
   |i::is=>uo P l (jx P l Sv Q f) n' x (i::is)
def oy{l:List aU}{rec:List Nat->St->Prop}{n':List Nat}{x:St}:∀{is:List Nat},uo P l rec n' x is->∀i∈is,∃ins,l[i]?=some ins/\TC P ins x (rec (i::n'))
 |[],_,_,hi=>by cases hi
 |j::is,h,i,hi=>by
  obtain⟨h1,h2⟩:=h;rcases ew.1 hi with rfl|hi
  .cases hl:l[i]? with
   |none=>rw[hl]at h1;exact h1.elim
   |some ins=>rw[hl]at h1;exact⟨ins,rfl,h1⟩
  .exact oy h2 i hi
def mU{ops:Array Oper}{Q:St->Prop}:∀(f:Nat) (arr:Array Bool) (n':List Nat) (x:St),arr.size=ops.size->(∀i,i<ops.size->arr.getD i true=n'.contains i)->
 (∀i∈n',i<ops.size)->jx P (ops.toList.map (bO P n ops)) (kX ops) Q f n' x->x5 P n ops Q f arr x
 |0,arr,n',x,hs,hl,ho,h=>⟨by rw[xE hs hl ho];exact h.1,h.2⟩
 |f+1,arr,n',x,hs,hl,ho,h=>by
  have hr:=xE hs hl ho;unfold jx at h;refine⟨λh0=>?_,λi hi=>?_⟩
  .rw[hr]at h0;rw[h0]at h;exact h
  .rw[hr]at hi;have u':i<ops.size:=by
    have:=(xR.1 hi).1;simpa[kX]using this
   have TI:uo P (ops.toList.map (bO P n ops)) (jx P (ops.toList.map (bO P n ops)) (kX ops) Q f) n' x (eL (kX ops) n'):=by
    cases hrr:eL (kX ops) n' with
    |nil=>exact trivial
    |cons j js=>rw[hrr]at h;exact h
   obtain⟨ins,h1,h2⟩:=oy TI i hi;have h3:ops[i]?=some ops[i]:=Array.getElem?_eq_getElem u';have h4:ins=bO P n ops ops[i]:=by simpa[u']using h1.symm
   unfold TnC;simp only[h3];rw[<-h4];refine h2.mono λx' SE=>mU f _ (i::n') x' (by simpa using hs) (λj hj=>?_) (λj hj=>?_) SE
   .by_cases e:j=i
    .subst e;rw[VJ,Array.getElem?_setIfInBounds_self_of_lt (by omega)];simp
    .rw[VJ,Array.getElem?_setIfInBounds_ne (λe'=>e e'.symm),<-VJ,hl j hj];simp[e]
   .rcases ew.1 hj with rfl|hj
    .exact u'
    .exact ho j hj
def ay.JH(hm:P.follows .mixedOrders=true){l:List aU}{Sv:List (List Nat)}(h:jx P l Sv (λx=>ay P n k x Q) l.length [] st):ay P n (.code (.WY l Sv)::k) st Q:=by
 intro F hn kt hk a w hs;obtain⟨z,UB,rfl,hy,TP⟩:=fj hk;obtain⟨c0,rfl,SV⟩:=ik hy;have VL:∃id ops,c0=.region id ops true/\ops.toList.map (bO P n ops)=l/\kX ops=Sv:=by
  cases c0<;>simp only[ep,reduceCtorEq]at SV;rename_i id ops draw;cases draw
  .simp at SV
  .simp only[Bool.true_and]at SV;split at SV
   .cases SV
   split at SV
   .simp only[bV.WY.injEq]at SV;exact⟨id,ops,rfl,SV.1,SV.2⟩
   .simp at SV
 obtain⟨id,ops,rfl,rfl,rfl⟩:=VL;have Sj:fB F st a { w with drawn:=w.drawn+1 }:=by
  obtain⟨I,hs⟩:=hs;have hk:dB (aO I st.U) (aO I st.U) w { w with drawn:=w.drawn+1 }:=λ_ _ h=>⟨h,rfl⟩
  refine⟨I,⟨⟨hs.sat.size,hs.sat.os,hs.sat.tape,hs.sat.output,hs.sat.same,hs.sat.fin,hs.sat.inj,λid o ho=>?_,hs.sat.fresh,hs.sat.Va⟩,hs.le,hs.size,hs.book.wj hk,λi hi=>?_⟩⟩
  .exact(hs.sat.obj id o ho).mono (dG.refl I) hk (SD _) (λ_ _ _ _=>rfl)
  .exact E'.mono (dG.refl I) hk (SD _) _ _ (hs.slot i hi)
 refine wpIn_region_any hm (nD (Q:=λx=>ay P n k x Q) hn (λx a w hs h=>h F hn UB TP a w hs) _ _ _ _ _ Sj ?_);have:=mU (P:=P) (n:=n) (Q:=λx=>ay P n k x Q) (ops:=ops) ops.size (Array.replicate ops.size false) [] st (by simp) (λi hi=>by
  rw[VJ,Array.getElem?_replicate,aI hi];simp) (by simp) (by simpa using h)
 exact this
def qy{l:List aU}{rec:List Nat->St->Prop}{n':List Nat}{x:St}:∀{is:List Nat},(∀i∈is,∃ins,l[i]?=some ins/\TC P ins x (rec (i::n')))->uo P l rec n' x is
 |[],_=>trivial
 |j::is,h=>by
  obtain⟨ins,h1,h2⟩:=h j (by simp);refine⟨by rw[h1];exact h2,qy λi hi=>h i (by simp[hi])⟩
variable {P:Program} {n:Nat} {st:St} {Q:St->Prop} {k:List It}
def QYd(P:Program)(i:aU)(x:St):Prop:=match i.dst with
 |some d=>QY P i x.s x.U (x.s d)
 |none=>∃v,QY P i x.s x.U v
def RE(P:Program)(l:List aU)(K:St->Prop):List Nat->St->Prop
 |[],x=>K x
 |m::its,x=>match l[m/2]? with
  |none=>False
  |some ins=>if m%2=0 then TC P ins x (RE P l K its)else QYd P ins x/\RE P l K its x
def bw(l:List aU)(i:Nat):aU:=(l[i]?).getD ⟨none,.bad,none⟩
def fY(Sp:List (List Nat))(i:Nat):List Nat:=Sp.getD i []
def eu(l:List aU)(Sp:List (List Nat))(j:Nat):Bool:=bp (bw l j).op != 0||(match(bw l j).dst with
 |some d=>(List.range l.length).any λi=>(bw l i).l3.contains d&&!(fY Sp i).contains j
 |none=>false)
def Eo(l:List aU)(Sp:List (List Nat))(done:List Nat)(e:Nat):List Nat:=
 if eu l Sp e then done.filterMap λk=>if !(eu l Sp k)&&(!(lp (bw l k).op)&&!((fY Sp e).contains k))then some (2*k+1)else none else[]
def fz(l:List aU)(Sp:List (List Nat)):List Nat->List Nat->List Nat
 |_,[]=>[]
 |done,e::r=>2*e::(Eo l Sp done e++fz l Sp (done++[e]) r)
def nN(p:Nat->Nat->Bool):List Nat->Bool
 |[]=>true
 |a::r=>r.all (p a)&&nN p r
def nB{p:Nat->Nat->Bool}:∀{a:List Nat} {b:List Nat} {x y:Nat},nN p (a++b)=true->x∈a->y∈b->p x y=true
 |[],_,_,_,_,h,_=>by cases h
 |c::a,b,x,y,hp,hx,hy=>by
  simp only[List.cons_append,nN,Ba]at hp;rcases ew.1 hx with rfl|hx
  .exact gj.1 hp.1 y (List.mem_append_right _ hy)
  .exact nB hp.2 hx hy
def v8(f:Nat->List Nat):List Nat->List Nat->Bool
 |_,[]=>true
 |done,e::r=>(f e).all done.contains&&v8 f (done++[e]) r
def sU{f:Nat->List Nat}:∀{r done:List Nat} {a:List Nat} {e:Nat} {b:List Nat},v8 f done r=true->r=a++e::b->∀x∈f e,x∈done++a
 |[],_,a,e,b,_,h,_,_=>by simp at h
 |c::r,done,[],e,b,hB,h,x,hx=>by
  simp only[lS,List.cons.injEq]at h;obtain⟨rfl,rfl⟩:=h;simp only[v8,Ba]at hB;simpa using gj.1 hB.1 x hx
 |c::r,done,d::a,e,b,hB,h,x,hx=>by
  simp only[List.cons_append,List.cons.injEq]at h;obtain⟨rfl,rfl⟩:=h;simp only[v8,Ba]at hB;have:=sU hB.2 rfl x hx;simpa using this
def Ih(l:List aU)(Sv Sp:List (List Nat))(ord:List Nat):Bool:=
 (decide (ord.length=l.length)&&(decide (Sv.length=l.length)&&ord.all λi=>decide (i<l.length)))&&
 (nN (λa b=>decide (a≠b)) ord&&
 (v8 (λi=>Sv.getD i []) [] ord&&
 ((List.range l.length).all (λj=>(fY Sp j).all λi=>(Sv.getD j []).any λd=>d==i||(fY Sp d).contains i)&&
 ((List.range l.length).all (λi=>(List.range l.length).all λj=>i==j||((bw l i).dst.isNone||(bw l i).dst != (bw l j).dst))&&
 (List.range l.length).all (λi=>(List.range l.length).all λj=>i==j||(match(bw l j).dst with
   |some d=>!((bw l i).l3.contains d)||((fY Sp i).contains j||(eu l Sp j&&(fY Sp j).contains i))
   |none=>true))))))
def eOk(l:List aU)(Sv Sp:List (List Nat))(ord:List Nat):Bool:=Ih l Sv Sp ord&&nN (λa b=>!(eu l Sp a)||(fY Sp b).contains a) ord
def sJ:∀{l:List Nat},nN (λa b=>decide (a≠b)) l=true->l.Nodup
 |[],_=>List.nodup_nil
 |a::r,h=>by
  simp only[nN,Ba]at h;refine List.nodup_cons.2 ⟨λhm=>?_,sJ h.2⟩;have:=gj.1 h.1 a hm;simp at this
structure EOkW(l:List aU)(Sv Sp:List (List Nat))(ord:List Nat):Prop where
 len:ord.length=l.length
 dlen:Sv.length=l.length
 lt:∀i∈ord,i<l.length
 nodup:ord.Nodup
 ahead:∀a e b,ord=a++e::b->∀x∈Sv.getD e [],x∈a
 anc:∀j,j<l.length->∀i∈fY Sp j,∃d∈Sv.getD j [],d=i\/i∈fY Sp d
 dsts:∀i j,i<l.length->j<l.length->i≠j->∀d,(bw l i).dst=some d->(bw l j).dst≠some d
 anti:∀i j,i<l.length->j<l.length->i≠j->∀d,(bw l j).dst=some d->d∈(bw l i).l3->j∈fY Sp i\/(eu l Sp j=true/\i∈fY Sp j)
def xz{l:List aU}{Sv Sp:List (List Nat)}{ord:List Nat}(h:Ih l Sv Sp ord=true):EOkW l Sv Sp ord:=by
 simp only[Ih,Ba,US]at h;obtain⟨⟨h1,h2,h3⟩,h4,h5,h6,h7,h8⟩:=h;refine⟨h1,h2,λi hi=>by simpa using gj.1 h3 i hi,sJ h4,λa e b he x hx=>by simpa using sU h5 he x hx,?_,?_,?_⟩
 .intro j hj i hi;have:=gj.1 (gj.1 h6 j (by simpa using hj)) i hi;simp only[KL,kI,beq_iff_eq,List.contains_iff_mem]at this;exact this
 .intro i j hi hj Sh d hd he;have:=gj.1 (gj.1 h7 i (by simpa using hi)) j (by simpa using hj);simp only[kI,beq_iff_eq,hd,he,Option.isNone_some,bne_self_eq_false,jb,or_false]at this;exact Sh this
 .intro i j hi hj Sh d hd hu;have:=gj.1 (gj.1 h8 i (by simpa using hi)) j (by simpa using hj);simp only[kI,beq_iff_eq,hd,Ba,Bool.not_eq_true',List.contains_iff_mem]at this;rcases this with h|h|h
  .exact absurd h Sh
  .have hc:(bw l i).l3.contains d=true:=List.contains_iff_mem.2 hu;rw[hc]at h;cases h
  .exact h
structure EOk(l:List aU)(Sv Sp:List (List Nat))(ord:List Nat):Prop extends EOkW l Sv Sp ord where
 Uw:∀a b x y,ord=a++b->x∈a->y∈b->eu l Sp x=true->x∈fY Sp y
def Bf{l:List aU}{Sv Sp:List (List Nat)}{ord:List Nat}(h:eOk l Sv Sp ord=true):EOk l Sv Sp ord:=by
 simp only[eOk,Ba]at h;refine⟨xz h.1,λa b x y he hx hy Wf=>?_⟩;have h9:=h.2;rw[he]at h9;have:=nB h9 hx hy;simp only[Wf,Bool.not_true,Bool.false_or,List.contains_iff_mem]at this;exact this
def EOkW.closed{l:List aU}{Sv Sp:List (List Nat)}{ord:List Nat}(h:EOkW l Sv Sp ord){L:List Nat}(hc:∀m∈L,∀d∈Sv.getD m [],d∈L)(Vh:∀i,i<l.length->i∈ord):
 ∀(m:Nat) (a:List Nat) (j:Nat) (b:List Nat),a.length<m->ord=a++j::b->(∀d∈Sv.getD j [],d∈L)->∀i∈fY Sp j,i∈L:=by
 intro m
 induction m with
 |zero=>intro a j b ha;omega
 |succ m ih=>
  intro a j b ha he hd i hi;have hj:j<l.length:=h.lt j (by rw[he];simp);obtain⟨d,h1,h2⟩:=h.anc j hj i hi;rcases h2 with rfl|h2
  .exact hd d h1
  .have Ta:=h.ahead a j b he d h1;obtain⟨a1,a2,rfl⟩:=List.append_of_mem Ta;exact ih a1 d (a2++j::b) (by simp at ha;omega) (by rw[he];simp) (λd' h'=>hc d (hd d h1) d' h') i h2
def nK{i:aU}{s s':Nat->V}(h:∀u∈i.l3,s u=s' u):bt s i.g=bt s' i.g:=by
 cases hg:i.g with
 |none=>rfl
 |some g=>
  obtain⟨x,b⟩:=g;have:x.ev s=x.ev s':=by
   cases x with
   |t t=>exact h t (List.mem_filterMap.2 ⟨.t t,List.mem_append_right _ (by simp[hg]),rfl⟩)
   |c v=>rfl
  simp only[bt,this]
def AK{i:aU}{s s':Nat->V}(h:∀u∈i.l3,s u=s' u):∀x∈i.op.xs,x.ev s=x.ev s':=λx hx=>by
 cases x with
 |t t=>exact h t (Da hx rfl)
 |c v=>rfl
def zV{i:aU}{s s':Nat->V}{U:al}{v:V}(h:∀u∈i.l3,s u=s' u)(hq:QY P i s U v):QY P i s' U v:=by
 unfold QY at*;rw[<-nK h];exact hq.imp (λ⟨h1,h2⟩=>⟨h1,vZ (AK h) h2⟩) id
def Bj{i:aU}{x y:St}{K K':St->Prop}(h:∀u∈i.l3,x.s u=y.s u)(Su:x.U=y.U)(hk:∀r Z',K ⟨bb x.s i.dst r,Z'⟩->K' ⟨bb y.s i.dst r,Z'⟩)(ht:TC P i x K):TC P i y K':=by
 have hx:=AK h;rcases ht with ht|⟨hw,ht⟩
 .refine .inl ?_;unfold T at*;rw[<-nK h];split<;>rename_i ho<;>simp only[ho]at ht
  .unfold TO at*;split<;>rename_i Wh<;>simp only[Wh]at ht
   .obtain⟨g1,v,g2,g3⟩:=ht;obtain⟨e1,e2⟩:=rY (U:=y.U) hx;exact⟨e2.1 g1,v,by rw[<-e1,<-Su];exact g2,by rw[<-Su];exact hk _ _ g3⟩
   .split at ht
    .rename_i fx xs Sc;obtain⟨f,caps,v,g1,g2,g3⟩:=ht;refine⟨f,caps,v,?_,?_,by rw[<-Su];exact hk _ _ g3⟩
     .rw[<-hx fx (by rw[Sc];simp[SH.xs])];exact g1
     .rw[<-qV (s:=x.s) (s':=y.s) λz hz=>hx z (by rw[Sc];simp[SH.xs,hz]),<-Su];exact g2
    .exact ht.elim
   .split at ht
    .rename_i sz xa xv Sc;obtain⟨Z',g1,g2⟩:=ht;refine⟨Z',?_,hk _ _ g2⟩;rw[<-hx xa (by rw[Sc];simp[SH.xs]),<-hx xv (by rw[Sc];simp[SH.xs]),<-Su];exact g1
    .exact ht.elim
   .obtain⟨g,g1,g2⟩:=ht;refine⟨g,by rw[<-gx hx,<-Su];exact g1,λid L'=>hk _ _ (g2 id (by rw[Su];exact L'))⟩
  .rw[<-Su];exact hk _ _ ht
 .refine .inr ⟨by rw[<-nK h];exact hw,?_⟩;split at ht
  .rename_i fx xs Sc;obtain⟨f,caps,Post,g1,g2,g3⟩:=ht;refine⟨f,caps,Post,?_,?_,λr Z' hp=>hk _ _ (g3 r Z' hp)⟩
   .rw[<-hx fx (by rw[Sc];simp[SH.xs])];exact g1
   .rw[<-qV (s:=x.s) (s':=y.s) λz hz=>hx z (by rw[Sc];simp[SH.xs,hz]),<-Su];exact g2
  .rename_i kt ok zv xm xk Sc;obtain⟨v,g1,g2⟩:=ht;refine⟨v,?_,by rw[<-Su];exact hk _ _ g2⟩;rw[<-hx xm (by rw[Sc];simp[SH.xs]),<-hx xk (by rw[Sc];simp[SH.xs]),<-Su];exact g1
  .exact λid L'=>by rw[<-Su];exact hk _ _ (ht id (by rw[Su];exact L'))
  .exact ht.elim
structure kG(P:Program)(l:List aU)(Sv Sp:List (List Nat))(ord:List Nat)(K:St->Prop)(L:List Nat)(y:St)(done rest:List Nat)(x:St):Prop where
 split:ord=done++rest
 sub:∀i∈L,i∈done
 nodup:L.Nodup
 closed:∀m∈L,∀d∈Sv.getD m [],d∈L
 Uw:∀i∈done,eu l Sp i=true->i∈L
 store:y.U=x.U
 slot:∀d,(∀i∈done,i∉L->(bw l i).dst≠some d)->y.s d=x.s d
 lag:∀i∈done,i∉L->QYd P (bw l i) x
 go:RE P l K (fz l Sp done rest) x
def iY{l:List aU}{Sp:List (List Nat)}{e:Nat}(h:eu l Sp e=false)(he:e<l.length)(Sh:e∉fY Sp e):bp (bw l e).op=0/\∀d,(bw l e).dst=some d->d∉(bw l e).l3:=by
 simp only[eu,Bool.or_eq_false_iff,bne_eq_false_iff_eq]at h;refine⟨h.1,λd hd hu=>?_⟩;have h2:=h.2;rw[hd]at h2;simp only[List.any_eq_false,List.mem_range,Ba,Bool.not_eq_true',not_and,Bool.not_eq_false]at h2;have:=h2 e he (List.contains_iff_mem.2 hu);exact Sh (List.contains_iff_mem.1 this)
def Dx{l:List aU}{K:St->Prop}{e:Nat}{its:List Nat}{x:St}(he:e<l.length):RE P l K (2*e::its) x↔TC P (bw l e) x (RE P l K its):=by
 have h1:2*e/2=e:=by omega
 have h2:2*e%2=0:=by omega
 rw[RE,h1,V7 he];simp only[aI h2,bw,V7 he,Option.getD_some]
def Kb{l:List aU}{K:St->Prop}{e:Nat}{its:List Nat}{x:St}(he:e<l.length):RE P l K ((2*e+1)::its) x↔QYd P (bw l e) x/\RE P l K its x:=by
 have h1:(2*e+1)/2=e:=by omega
 have h2:¬(2*e+1)%2=0:=by omega
 rw[RE,h1,V7 he];simp only[aK h2,bw,V7 he,Option.getD_some]
def tA{l:List aU}{K:St->Prop}{its:List Nat}{x:St}(p:Nat->Bool):∀{done:List Nat},(∀i∈done,i<l.length)->RE P l K ((done.filterMap λk=>if p k then some (2*k+1)else none)++its) x->
 (∀k∈done,p k=true->QYd P (bw l k) x)/\RE P l K its x
 |[],_,h=>⟨by simp,h⟩
 |a::r,hl,h=>by
  rw[List.filterMap_cons]at h;cases hp:p a with
  |false=>
   simp only[hp,jb,if_false]at h;obtain⟨h1,h2⟩:=tA p (λi hi=>hl i (by simp[hi])) h;refine⟨λk hk hpk=>?_,h2⟩;rcases ew.1 hk with rfl|hk
   .rw[hp]at hpk;cases hpk
   .exact h1 k hk hpk
  |true=>
   simp only[hp,if_true,List.cons_append]at h;rw[Kb (hl a (by simp))]at h;obtain⟨h1,h2⟩:=tA p (λi hi=>hl i (by simp[hi])) h.2;refine⟨λk hk hpk=>?_,h2⟩;rcases ew.1 hk with rfl|hk
   .exact h.1
   .exact h1 k hk hpk
section
variable {l:List aU} {Sv Sp:List (List Nat)} {ord:List Nat} {K:St->Prop} (hE:EOkW l Sv Sp ord)
include hE
def EOkW.mem(i:Nat)(hi:i<l.length):i∈ord:=(tZ l.length ord hE.nodup hE.lt).2 hE.len i hi
def EOkW.nZ{a:List Nat}{j:Nat}{b:List Nat}(he:ord=a++j::b):∀i∈fY Sp j,i∈a:=by
 have hc:∀m∈a,∀d∈Sv.getD m [],d∈a:=λm hm d hd=>by
  obtain⟨a1,a2,rfl⟩:=List.append_of_mem hm;have:=hE.ahead a1 m (a2++j::b) (by rw[he];simp) d hd;simp[this]
 exact hE.closed hc hE.mem (a.length+1) a j b (by omega) he (λd hd=>hE.ahead a j b he d hd)
def EOkW.ox{j:Nat}(hj:j<l.length):j∉fY Sp j:=λh=>by
 obtain⟨a,b,he⟩:=List.append_of_mem (hE.mem j hj);have h1:=hE.nZ he j h;have:=hE.nodup;rw[he]at this;have:=(List.nodup_append.1 this).2.2 j h1 j (by simp);exact this rfl
def tu{i:Nat}{x:St}{e:Nat}{v:V}{Z':al}(hi:i<l.length)(he:e<l.length)(Sh:i≠e)(hu:∀d,(bw l e).dst=some d->d∉(bw l i).l3)
 (hq:∀v,QY P (bw l i) x.s x.U v->QY P (bw l i) x.s Z' v)(h:QYd P (bw l i) x):QYd P (bw l i) ⟨bb x.s (bw l e).dst v,Z'⟩:=by
 unfold QYd at*;have hq':∀v',QY P (bw l i) x.s x.U v'->QY P (bw l i) (bb x.s (bw l e).dst v) Z' v':=λv' hv=>(gY hu).2 (hq v' hv);cases hd:(bw l i).dst with
 |none=>rw[hd]at h;obtain⟨v',h⟩:=h;exact⟨v',hq' v' h⟩
 |some d=>
  rw[hd]at h;simp only at h|-;have:bb x.s (bw l e).dst v d=x.s d:=by
   have:=hE.dsts i e hi he Sh d hd;cases hde:(bw l e).dst with
   |none=>rfl
   |some d'=>
    rw[hde]at this;simp only[bb];rw[aK (λe'=>this (by rw[e']))]
  rw[this];exact hq' _ h
def kG.adv{L:List Nat}{y:St}:∀{rest done:List Nat} {x:St},kG P l Sv Sp ord K L y done rest x->
 ∃done' Zn x',kG P l Sv Sp ord K L y done' Zn x'/\∀h r,Zn=h::r->eu l Sp h=true
 |[],done,x,h=>⟨done,[],x,h,by simp⟩
 |e::rest,done,x,h=>by
  cases Vj:eu l Sp e with
  |true=>exact⟨done,e::rest,x,h,λa r he=>by cases he;exact Vj⟩
  |false=>
   have Wv:e<l.length:=hE.lt e (by rw[h.split];simp);obtain⟨hk,hself⟩:=iY Vj Wv (hE.ox Wv);have Th:=hE.nodup;rw[h.split]at Th;have hed:e∉done:=λhm=>(List.nodup_append.1 Th).2.2 e hm e (by simp) rfl;have heL:e∉L:=λhm=>hed (h.sub e hm);have Uu:=h.go;rw[fz,Dx Wv,Eo,aK (by simp[Vj]),lS]at Uu;have hT:T P (bw l e) x (RE P l K (fz l Sp (done++[e]) rest)):=by
    rcases Uu with Uu|⟨_,Uu⟩
    .exact Uu
    .exfalso;revert Uu hk;generalize (bw l e).op=op;intro hk Uu;split at Uu
     .simp[bp]at hk
     .simp[bp]at hk
     .simp[bp]at hk
     .exact Uu
   obtain⟨v,hv,hgo'⟩:=(cL (by simp[gC,hk])).1 hT;refine kG.adv (rest:=rest) (done:=done++[e]) (x:=⟨bb x.s (bw l e).dst v,x.U⟩) ⟨by rw[h.split];simp,λi hi=>by simp[h.sub i hi],h.nodup,h.closed,λi hi Uv=>?_,h.store,λd hd=>?_,λi hi Wj=>?_,hgo'⟩
   .rcases gl.1 hi with hi|hi
    .exact h.Uw i hi Uv
    .simp only[kc]at hi;rw[hi,Vj]at Uv;cases Uv
   .have h1:=h.slot d λi hi Wj=>hd i (by simp[hi]) Wj;have h2:=hd e (by simp) heL;rw[h1];simp only;cases hde:(bw l e).dst with
    |none=>rfl
    |some d'=>
     rw[hde]at h2;simp only[bb];rw[aK (λe'=>h2 (by rw[e']))]
   .by_cases Uv:i=e
    .subst Uv;unfold QYd;cases hd:(bw l i).dst with
     |none=>exact⟨v,hv⟩
     |some d=>
      simp only;have e1:bb x.s (some d) v d=v:=by simp[bb]
      rw[e1];exact(gY (λt ht=>by cases ht;exact hself d hd)).2 hv
    .have L':i∈done:=by
      rcases gl.1 hi with hi|hi
      .exact hi
      .simp only[kc]at hi;exact absurd hi Uv
     have Uk:i<l.length:=hE.lt i (by rw[h.split];simp[L']);refine tu hE Uk Wv Uv (λd hd hu=>?_) (λv hv=>hv) (h.lag i L' Wj);rcases hE.anti i e Uk Wv Uv d hd hu with h1|⟨h1,_⟩
     .obtain⟨a,b,VT⟩:=List.append_of_mem L';have h2:=hE.nZ (a:=a) (j:=i) (b:=b++e::rest) (by rw[h.split,VT];simp) e h1;exact hed (by rw[VT];simp[h2])
     .rw[Vj]at h1;cases h1
end
section
variable {l:List aU} {Sv Sp:List (List Nat)} {ord:List Nat} {K:St->Prop} (hE:EOk l Sv Sp ord)
include hE
def qt:∀(f:Nat) (L:List Nat) (y:St) (done rest:List Nat) (x:St),f+L.length=l.length->kG P l Sv Sp ord K L y done rest x->jx P l Sv K f L y:=by
 intro f
 induction f with
 |zero=>
  intro L y done rest x hf h;have TI:∀i,i<l.length->i∈L:=(tZ l.length L h.nodup λi hi=>hE.lt i (by rw[h.split];simp[h.sub i hi])).2 (by omega);have Th:=hE.nodup;rw[h.split]at Th;have Vb:rest=[]:=by
   cases rest with
   |nil=>rfl
   |cons e r=>
    exfalso;have Wv:e<l.length:=hE.lt e (by rw[h.split];simp);exact(List.nodup_append.1 Th).2.2 e (h.sub e (TI e Wv)) e (by simp) rfl
  subst Vb;have hyx:y=x:=by
   obtain⟨s,U⟩:=y;obtain⟨s',Z'⟩:=x;have h1:U=Z':=h.store;have h2:s=s':=funext λd=>h.slot d λi hi Wj=>absurd (TI i (hE.lt i (by rw[h.split];simp[hi]))) Wj;rw[h1,h2]
  refine⟨?_,by rw[hyx];exact h.go⟩;unfold eL;rw[List.filter_eq_nil_iff];intro i hi;simp only[List.mem_range,hE.dlen]at hi;simp[TI i hi]
 |succ f ih=>
  intro L y done rest x hf h;obtain⟨done,rest,x,h,XW⟩:=kG.adv hE.toEOkW h;have Th:=hE.nodup;rw[h.split]at Th;have hmemL:∀i∈L,i<l.length:=λi hi=>hE.lt i (by rw[h.split];simp[h.sub i hi]);have key:uo P l (jx P l Sv K f) L y (eL Sv L):=by
   refine qy λi hi=>?_;obtain⟨Uk,Wj,Zo⟩:=vg hi;rw[hE.dlen]at Uk;refine⟨bw l i,by simp[bw,V7 Uk],?_⟩;obtain⟨pa,pb,hpe⟩:=List.append_of_mem (hE.mem i Uk);have VA:∀j∈fY Sp i,j∈L:=hE.closed h.closed hE.mem (pa.length+1) pa i pb (by omega) hpe Zo;have Zp:∀u∈(bw l i).l3,x.s u=y.s u:=λu hu=>(h.slot u λj hj WM hd=>by
    have U3:j<l.length:=hE.lt j (by rw[h.split];simp[hj]);by_cases Ui:j=i
    .subst Ui;cases Up:eu l Sp j with
     |true=>exact WM (h.Uw j hj Up)
     |false=>exact(iY Up U3 (hE.ox U3)).2 u hd hu
    .rcases hE.anti i j Uk U3 (λe=>Ui e.symm) u hd hu with h1|⟨h1,_⟩
     .exact WM (VA j h1)
     .exact WM (h.Uw j hj h1)).symm
   by_cases L':i∈done
   .have Uv:eu l Sp i=false:=by
     cases Uv:eu l Sp i with
     |false=>rfl
     |true=>exact absurd (h.Uw i L' Uv) Wj
    obtain⟨hk,_⟩:=iY Uv Uk (hE.ox Uk);have hq:=h.lag i L' Wj;obtain⟨v,hv,hvd⟩:∃v,QY P (bw l i) x.s x.U v/\∀d,(bw l i).dst=some d->x.s d=v:=by
     unfold QYd at hq;cases hd:(bw l i).dst with
     |none=>rw[hd]at hq;obtain⟨v,hq⟩:=hq;exact⟨v,hq,by simp⟩
     |some d=>rw[hd]at hq;exact⟨_,hq,λd' e=>by cases e;rfl⟩
    refine .inl ((cL (by simp[gC,hk])).2 ⟨v,?_,?_⟩)
    .rw[h.store];exact zV Zp hv
    .refine ih (i::L) _ done rest x (by simp only[Uf];omega) ⟨h.split,λj hj=>?_,List.nodup_cons.2 ⟨Wj,h.nodup⟩,λm hm d hd=>?_,λj hj Up=>by simp[h.Uw j hj Up],h.store,λd hd=>?_,λj hj WM=>h.lag j hj (λhm=>WM (by simp[hm])),h.go⟩
     .rcases ew.1 hj with rfl|hj
      .exact L'
      .exact h.sub j hj
     .rcases ew.1 hm with rfl|hm
      .simp[Zo d hd]
      .simp[h.closed m hm d hd]
     .simp only;by_cases hdi:(bw l i).dst=some d
      .rw[hdi];simp only[bb];rw[aI trivial];exact(hvd d hdi).symm
      .have h1:=h.slot d λj hj WM=>by
        by_cases Ui:j=i
        .rw[Ui];exact hdi
        .exact hd j hj (by simp[Ui,WM])
       rw[<-h1];cases hde:(bw l i).dst with
       |none=>rfl
       |some d'=>
        rw[hde]at hdi;simp only[bb];rw[aK (λe'=>hdi (by rw[e']))]
   .have hir:i∈rest:=by
     have:=hE.mem i Uk;rw[h.split]at this;exact(gl.1 this).resolve_left L'
    obtain⟨WN,rr,rfl⟩:∃a r,rest=a::r:=by
     cases rest with
     |nil=>cases hir
     |cons a r=>exact⟨a,r,rfl⟩
    have Vj:=XW WN rr rfl;have hh0:WN∉done:=λhm=>(List.nodup_append.1 Th).2.2 WN hm WN (by simp) rfl;have hih:i=WN:=by
     rcases ew.1 hir with e|hir
     .exact e
     .exfalso;have:=hE.Uw (done++[WN]) rr WN i (by rw[h.split];simp) (by simp) hir Vj;exact hh0 (h.sub _ (VA _ this))
    subst hih;have Uu:=h.go;rw[fz,Dx Uk]at Uu;refine Bj Zp h.store.symm (λr Z' hK=>?_) Uu;rw[Eo,aI Vj]at hK;obtain⟨hck,hgo'⟩:=tA (λk=>!(eu l Sp k)&&(!(lp (bw l k).op)&&!((fY Sp i).contains k))) (λj hj=>hE.lt j (by rw[h.split];simp[hj])) hK;refine ih (i::L) _ (done++[i]) rr ⟨bb x.s (bw l i).dst r,Z'⟩ (by simp only[Uf];omega) ⟨by rw[h.split];simp,λj hj=>?_,List.nodup_cons.2 ⟨Wj,h.nodup⟩,λm hm d hd=>?_,λj hj Up=>?_,rfl,λd hd=>?_,λj hj WM=>?_,hgo'⟩
    .rcases ew.1 hj with rfl|hj
     .simp
     .simp[h.sub j hj]
    .rcases ew.1 hm with rfl|hm
     .simp[Zo d hd]
     .simp[h.closed m hm d hd]
    .rcases gl.1 hj with hj|hj
     .simp[h.Uw j hj Up]
     .simp only[kc]at hj;simp[hj]
    .have h1:(bw l i).dst=some d\/y.s d=x.s d:=by
      by_cases hdi:(bw l i).dst=some d
      .exact .inl hdi
      .exact .inr (h.slot d λj hj WM=>hd j (by simp[hj]) (by
        simp only[ew,not_or];exact⟨λe=>L' (e▸hj),WM⟩))
     simp only;cases hde:(bw l i).dst with
     |none=>rw[hde]at h1;exact h1.resolve_left (by simp)
     |some d'=>
      simp only[bb];split
      .rfl
      .rename_i Sh;rw[hde]at h1;exact h1.resolve_left (λe=>Sh (by cases e;rfl))
    .have hjd:j∈done:=by
      rcases gl.1 hj with hj|hj
      .exact hj
      .simp only[kc]at hj;exact absurd (by simp[hj]) WM
     have Yr:j∉L:=λhm=>WM (by simp[hm]);have U3:j<l.length:=hE.lt j (by rw[h.split];simp[hjd]);have Ui:j≠i:=λe=>L' (e▸hjd);have Up:eu l Sp j=false:=by
      cases Up:eu l Sp j with
      |false=>rfl
      |true=>exact absurd (h.Uw j hjd Up) Yr
     cases hsf:lp (bw l j).op with
     |true=>
      refine tu hE.toEOkW U3 Uk Ui (λd hd hu=>?_) (λv hv=>kP hsf hv) (h.lag j hjd Yr);rcases hE.anti j i U3 Uk Ui d hd hu with h1|⟨_,h1⟩
      .obtain⟨a,b,VT⟩:=List.append_of_mem hjd;have h2:=hE.nZ (a:=a) (j:=j) (b:=b++i::rr) (by rw[h.split,VT];simp) i h1;exact L' (by rw[VT];simp[h2])
      .exact Yr (VA j h1)
     |false=>
      refine hck j hjd ?_;simp only[Up,hsf,Bool.not_false,Bool.true_and,Bool.not_eq_true'];cases hc:(fY Sp i).contains j with
      |false=>rfl
      |true=>exact absurd (VA j (List.contains_iff_mem.1 hc)) Yr
  cases hr:eL Sv L with
  |cons a r=>unfold jx;rw[hr]at key|-;exact key
  |nil=>
   exfalso;have:∃i,i∈ord/\i∉L:=by
    by_cases hx:∃i,i∈ord/\i∉L
    .exact hx
    .exfalso;have G':∀i∈ord,i∈L:=λi hi=>Classical.byContradiction λhn=>hx ⟨i,hi,hn⟩;have h1:=hE.nodup.length_le_of_subset G';have:=hE.len;omega
   obtain⟨i,hi,Wj⟩:=this;have first:∀(a b:List Nat),ord=a++b->(∀j∈a,j∈L)->(∃i∈b,i∉L)->∃a' e b',ord=a'++e::b'/\(∀j∈a',j∈L)/\e∉L:=by
    intro a b
    induction b generalizing a with
    |nil=>rintro _ _ ⟨i,h,_⟩;cases h
    |cons e b ihb=>
     intro he ha hx;by_cases heL:e∈L
     .refine ihb (a++[e]) (by rw[he];simp) (λj hj=>?_) ?_
      .rcases gl.1 hj with hj|hj
       .exact ha j hj
       .simp only[kc]at hj;rw[hj];exact heL
      .obtain⟨i,hi,Wj⟩:=hx;rcases ew.1 hi with rfl|hi
       .exact absurd heL Wj
       .exact⟨i,hi,Wj⟩
     .exact⟨a,e,b,he,ha,heL⟩
   obtain⟨a,e,b,he,ha,heL⟩:=first [] ord rfl (by simp) ⟨i,hi,Wj⟩
   have Wv:e<l.length:=hE.lt e (by rw[he];simp);have:e∈eL Sv L:=by
    unfold eL;refine xR.2 ⟨by simp[hE.dlen,Wv],?_⟩;simp only[Ba,Bool.not_eq_true',gj];refine⟨by simpa using heL,λd hd=>?_⟩;simpa using ha d (hE.ahead a e b he d hd)
   rw[hr]at this;cases this
end
def ay.yA(hm:P.follows .mixedOrders=true){l:List aU}{Sv:List (List Nat)}(ord:List Nat)(Sp:List (List Nat))(its:List Nat)(hB:eOk l Sv Sp ord=true)(hi:fz l Sp [] ord=its)
 (h:RE P l (λx=>ay P n k x Q) its st):ay P n (.code (.WY l Sv)::k) st Q:=by
 have hE:=Bf hB;refine ay.JH hm (qt hE l.length [] st [] ord st (by simp) ⟨rfl,by simp,List.nodup_nil,by simp,by simp,rfl,λ_ _=>rfl,by simp,by rw[hi];exact h⟩)
def RE.seg{l:List aU}{K:St->Prop}(rest:List Nat):∀(idx:List Nat) (sg:List aU) {x:St},(idx.map λm=>l[m/2]?)=sg.map some->(idx.all λm=>m%2==0)=true->
 Go P n (.d sg [.stop (RE P l K rest)]) x (λ_=>False)->RE P l K (idx++rest) x
 |[],[],_,_,_,h=>h
 |[],_::_,_,h,_,_=>by simp at h
 |_::_,[],_,h,_,_=>by simp at h
 |m::idx,i::sg,x,h,hev,hg=>by
  simp only[ga,List.cons.injEq]at h;simp only[yD,Ba,beq_iff_eq]at hev;show RE P l K (m::(idx++rest)) x;rw[RE,h.1];simp only[aI hev.1];exact .inl (T.mono (λx' SE=>RE.seg rest idx sg h.2 (by simpa using hev.2) SE) hg)
def cY{P:Program}{n:Nat}{l:List aU}{K:St->Prop}(rest:List Nat)(idx:List Nat)(sg:List aU){x:St}(h:(idx.map λm=>l[m/2]?)=sg.map some)(he:(idx.all λm=>m%2==0)=true)(hg:step P Tx.nothing n 300 (.d sg [.stop (RE P l K rest)]) x (λ_=>False)):RE P l K (idx++rest) x:=RE.seg rest idx sg h he (sG hg)
def RE.call{l:List aU}{K:St->Prop}{m:Nat}{rest:List Nat}{x:St}{i:aU}(hi:l[m/2]?=some i)(hm:m%2=0){fx:VX}{xs:List VX}(hw:bt x.s i.g=some true)(ho:i.op=.call fx xs){f:FuncId}{caps:List V}(hf:fx.ev x.s=.fn f caps)
 {Post:V->al->Prop}(hc:aG P f (xs.map (·.ev x.s)++caps) x.U Post)(h:∀r Z',Post r Z'->RE P l K rest ⟨bb x.s i.dst r,Z'⟩):RE P l K (m::rest) x:=by
 rw[RE,hi];simp only[aI hm];exact .inr ⟨hw,by rw[ho];exact⟨f,caps,Post,hf,hc,h⟩⟩
def RE.Ff{l:List aU}{K:St->Prop}{m:Nat}{rest:List Nat}{x:St}{i:aU}(hi:l[m/2]?=some i)(hm:m%2=0){fx:VX}{xs:List VX}(hw:bt x.s i.g=some true)(ho:i.op=.call fx xs){f:FuncId}{caps:List V}(hf:fx.ev x.s=.fn f caps)
 {v:V}(hc:aG P f (xs.map (·.ev x.s)++caps) x.U λr Z'=>r=v/\Z'=x.U)(h:RE P l K rest ⟨bb x.s i.dst v,x.U⟩):RE P l K (m::rest) x:=
 RE.call hi hm hw ho hf hc λr Z' ⟨h1,h2⟩=>by subst h1;subst h2;exact h
def WW{P:Program}{l:List aU}{K:St->Prop}{m:Nat}{rest:List Nat}{x:St}{i:aU}{fx:VX}{xs:List VX}{f:FuncId}{caps:List V}{v:V}(hw:(l[m/2]?,m%2,bt x.s i.g,i.op,fx.ev x.s)=(some i,0,some true,.call fx xs,.fn f caps))(hc:aG P f (xs.map (·.ev x.s)++caps) x.U λr Z'=>r=v/\Z'=x.U)(h:RE P l K rest ⟨bb x.s i.dst v,x.U⟩):RE P l K (m::rest) x:=RE.Ff (congrArg (·.1) hw) (congrArg (·.2.1) hw) (congrArg (·.2.2.1) hw) (congrArg (·.2.2.2.1) hw) (congrArg (·.2.2.2.2) hw) hc h
def RE.chk{l:List aU}{K:St->Prop}{m:Nat}{rest:List Nat}{x:St}{i:aU}(hi:l[m/2]?=some i)(hm:m%2=1){d:Nat}(hd:i.dst=some d)(hw:bt x.s i.g=some true)(hk:bp i.op=0)(hp:fW x.s i.op)
 (hv:aV x.U x.s i.op=some (x.s d))(h:RE P l K rest x):RE P l K (m::rest) x:=by
 rw[RE,hi];simp only[hm,Nat.one_ne_zero,if_false];refine⟨?_,h⟩;unfold QYd;rw[hd];refine .inl ⟨hw,?_⟩;unfold QO;simp only[hk];exact⟨hp,hv⟩
def eh{P:Program}{l:List aU}{K:St->Prop}{m:Nat}{rest:List Nat}{x:St}{i:aU}{d:Nat}(hw:(l[m/2]?,m%2,i.dst,bt x.s i.g,bp i.op)=(some i,1,some d,some true,0))(hv:aV x.U x.s i.op=some (x.s d))(h:RE P l K rest x)(hp:fW x.s i.op:=by exact trivial):RE P l K (m::rest) x:=RE.chk (congrArg (·.1) hw) (congrArg (·.2.1) hw) (congrArg (·.2.2.1) hw) (congrArg (·.2.2.2.1) hw) (congrArg (·.2.2.2.2) hw) hp hv h
variable {P:Program} {n:Nat} {st:St} {Q:St->Prop} {k:List It}
def ay.Qw{k1 k2:List It}(τ:St->Prop)(h1:ay P n (k1++[.stop τ]) st Q)(h2:∀st,τ st->ay P n k2 st Q):ay P n (k1++k2) st Q:=by
 intro F hn kt hk a w hs;obtain⟨kt1,kt2,rfl,Tt,TK⟩:=List.map_eq_append_iff.1 hk;have key:∀(kt:List KI) e a w,ml P F Q (kt++[.stop τ]) e a w->ml P F Q (kt++kt2) e a w:=by
  intro kt
  induction kt with
  |nil=>
   intro e a w h;simp only[lS]at h|-;cases e with
   |normal=>obtain⟨st,h3,h4⟩:=h;exact h2 st h3 F hn kt2 TK a w h4
   |ret=>obtain⟨_,h3⟩:=h;exact mj h3 kt2
   |_=>obtain⟨h3,_⟩:=h;rcases h3 with h3|h3<;>cases h3
  |cons y kt ih=>
   intro e a w h;cases y with
   |code c=>cases e<;>first|exact wpIn_mono h ih|exact ih _ _ _ h
   |inBlock id=>
    cases e<;>simp only[List.cons_append,ml,Exit.inBlock]at h|-<;>(try split at h)<;>(try split)<;>first|exact ih _ _ _ h|contradiction
   |stop μ=>cases e<;>first|exact h|exact ih _ _ _ h
   |ops all l=>cases e<;>first|exact nv ih l a w h|exact ih _ _ _ h
 exact key kt1 _ a w (h1 F hn (kt1++[.stop τ]) (by simp[KI.it,Tt]) a w hs)
def ay.kY{x:bV}{id:Nat}(τ:St->Prop)(μ:Nat->St->Prop)(m:Nat)(h0:μ m st)
 (hr:∀m st,μ m st->ay P n (.code x::.stop (λUZ=>∃m',m'<m/\μ m' UZ)::[.inBlock id,.stop τ]) st Q)(h2:∀st,τ st->ay P n k st Q):
 ay P n (.code (.loop x)::.inBlock id::k) st Q:=
 ay.Qw (P:=P) (n:=n) (Q:=Q) (st:=st) (k1:=[.code (.loop x),.inBlock id]) (k2:=k) τ (ay.loop μ m h0 hr) h2
open Go.Proofs
def IX{f:Si}{s:SK}(hf:f.ok)(h:Tj s.a/\Tj s.b):Tj (hU f s).a/\Tj (hU f s).b:=by
 obtain⟨⟨x1,x2⟩,_,⟨w1,w2⟩,_⟩:=hf;obtain⟨⟨a1,a2⟩,b1,b2⟩:=h;unfold hU;split
 .exact⟨⟨by simp only;omega,by simp only;omega⟩,b1,b2⟩
 .exact⟨⟨a1,a2⟩,by simp only;omega,by simp only;omega⟩
def Br:∀{l:List Si} {s:SK},(∀f∈l,f.ok)->Tj s.a/\Tj s.b->Tj (l.foldl (λs f=>hU f s) s).a/\Tj (l.foldl (λs f=>hU f s) s).b
 |[],_,_,h=>h
 |f::l,s,hl,h=>Br (l:=l) (λg hg=>hl g (by simp[hg])) (IX (hl f (by simp)) h)
def je{l:List Si}{y high:Int}{s:SK}(hl:∀f∈l,f.ok)(h:Tj s.a/\Tj s.b):Tj (bP l y high s).a/\Tj (bP l y high s).b:=
 Br (λf hf=>hl f (xR.1 hf).1) h
def uu{s:SK}:∀{l:List Si},(∀f∈l,hU f s=s)->l.foldl (λs f=>hU f s) s=s
 |[],_=>rfl
 |f::l,h=>by rw[jW,h f (by simp)];exact uu λg hg=>h g (by simp[hg])
def pG(s:SK):∀(l:List Si) (a:Int×Bool),(l.foldl (iZ s) a=a\/∃f∈l,l.foldl (iZ s) a=(f.y+f.h,true))/\(a.2=true->(l.foldl (iZ s) a).2=true)/\((∃f∈l,hU f s≠s)->(l.foldl (iZ s) a).2=true)
 |[],a=>⟨.inl rfl,id,by simp⟩
 |f::l,a=>by
  obtain⟨h1,h2,h3⟩:=pG s l (iZ s a f);have hf:iZ s a f=a\/iZ s a f=(f.y+f.h,true):=by unfold iZ;split<;>simp
  refine⟨?_,λha=>h2 ?_,?_⟩
  .rw[jW];rcases h1 with h1|⟨g,hg,h1⟩
   .rw[h1];rcases hf with hf|hf
    .exact .inl hf
    .exact .inr ⟨f,by simp,hf⟩
   .exact .inr ⟨g,by simp[hg],h1⟩
  .rcases hf with hf|hf<;>rw[hf]
   exact ha
  .rintro⟨g,hg,Sh⟩;rcases ew.1 hg with rfl|hg
   .refine h2 ?_;unfold iZ;split
    .rename_i h;exact(h.resolve_left Sh).1
    .rfl
   .exact h3 ⟨g,hg,Sh⟩
def Ev{y high:Int}{f:Si}(h:fe y high f=true):y<f.y+f.h:=by
 refine Classical.byContradiction λhn=>?_;have:nT ⟨f.y,f.y+f.h⟩ ⟨y,y+max high 1⟩=⟨0,0⟩:=by
  unfold nT;rw[aI];simp only;omega
 simp[fe,this]at h
def fC{l:List Si}{y high:Int}{s:SK}(h:(cJ l y high s).2=true):∃f∈l,y<f.y+f.h/\(cJ l y high s).1=f.y+f.h:=by
 rcases(pG s (l.filter (fe y high)) (0,false)).1 with h1|⟨f,hf,h1⟩
 .unfold cJ at h;rw[h1]at h;cases h
 .obtain⟨hl,hm⟩:=xR.1 hf;exact⟨f,hl,Ev hm,by unfold cJ;rw[h1]⟩
def mM{l:List Si}{y high:Int}{s:SK}(h:bP l y high s≠s):(cJ l y high s).2=true:=by
 refine(pG s (l.filter (fe y high)) (0,false)).2.2 (Classical.byContradiction λhn=>h (uu λf hf=>Classical.byContradiction λhe=>hn ⟨f,hf,he⟩))
def Xb(l:List Si)(y:Int):Nat:=(l.filter λf=>decide (y<f.y+f.h)).length
def filter_lt{α:Type}{p q:α->Bool}(hpq:∀x,q x=true->p x=true):∀{l:List α},(l.filter q).length<=(l.filter p).length/\((∃x∈l,p x=true/\q x=false)->(l.filter q).length<(l.filter p).length)
 |[]=>by simp
 |a::l=>by
  obtain⟨h1,h2⟩:=filter_lt hpq (l:=l);cases hp:p a<;>cases hq:q a
  .simp only[List.filter_cons,hp,hq,jb,if_false];refine⟨h1,?_⟩;rintro⟨x,hx,h3,h4⟩;rcases ew.1 hx with rfl|hx
   .rw[hp]at h3;cases h3
   .exact h2 ⟨x,hx,h3,h4⟩
  .rw[hpq a hq]at hp;cases hp
  .simp only[List.filter_cons,hp,hq,jb,if_false,if_true,Uf];exact⟨by omega,λ_=>by omega⟩
  .simp only[List.filter_cons,hp,hq,if_true,Uf];refine⟨by omega,?_⟩;rintro⟨x,hx,h3,h4⟩;rcases ew.1 hx with rfl|hx
   .rw[hq]at h4;cases h4
   .have:=h2 ⟨x,hx,h3,h4⟩;omega
def mu{l:List Si}{y z:Int}(h:∃f∈l,y<f.y+f.h/\z=f.y+f.h):Xb l z<Xb l y:=by
 obtain⟨f,hf,h1,rfl⟩:=h;exact(filter_lt (p:=λg:Si=>decide (y<g.y+g.h)) (q:=λg:Si=>decide (f.y+f.h<g.y+g.h)) (λg hg=>by simp at hg|-;omega) (l:=l)).2 ⟨f,hf,by simpa using h1,by simp⟩
def mV(l:List Si)(w high:Int)(s:SK)(y:Int):Bool:=decide (w<=fN (bP l y high s))||decide (bP l y high s=s)
def kg(l:List Si)(w high:Int)(s:SK):Nat->Int->Int
 |0,y=>y
 |k+1,y=>if mV l w high s y then y else kg l w high s k (cJ l y high s).1
def gu(l:List Si)(w high:Int)(s:SK)(y:Int):Int:=kg l w high s l.length y
def yu{l:List Si}{y high:Int}{s:SK}(hl:∀f∈l,f.ok)(h:(cJ l y high s).2=true):Tj (cJ l y high s).1:=by
 obtain⟨f,hf,_,e⟩:=fC h;obtain⟨_,⟨a1,a2⟩,_,b1,b2⟩:=hl f hf;rw[e];exact⟨by omega,by omega⟩
def sx(l:List Si)(high y:Int)(s:SK):V:=.agg [vI s.a,vI s.b,bj l,vI high,vI y]
def CQ(l:List Si)(high y:Int)(s:SK)(hl:l.length<=1000000)(Se:∀f∈l,f.ok)(hy:Tj y)(hh:Bq high):aX prog 207 [sx l high y s] (aY (bP l y high s)):=λU=>by
 refine Pu.q ?_;have hs:=aa.refl U;refine ay.mix 3 ?_;have e1:(bj l).cells=[bj l]:=rfl;have e2:(bj l).stays=true:=rfl;apply sR;simp only[go_sem,seval,L6,sx,e1,e2];refine aE hs λi1 Z1 s1 a1 f1 z1 hs=>?_;simp only[go_sem,seval,a1,e1,e2];refine aE hs λi2 Z2 s2 a2 f2 z2 hs=>?_;obtain⟨n12,a1⟩:=RZ a1 f2 s2;simp only[go_sem,seval,a2,a1];refine pS rfl (CJ l y high s hl Se hy hh _) ?_;simp only[go_sem,seval,a2,aY];exact aD.pure (hs.aL z2) rfl
def IH(l:List Si)(w high y:Int)(s:SK)(hl:l.length<=1000000)(Se:∀f∈l,f.ok)(hy:Tj y)(hh:Bq high)(TJ:Tj s.a/\Tj s.b):aX prog 205 [sx l high y s,vI w] (.bool (mV l w high s y)):=λU=>by
 refine Rx.q ?_;have hs:=aa.refl U;refine ay.mix 5 ?_;have hb:=CQ l high y s hl Se hy hh;have hlen:=E1 (bP l y high s) (je Se TJ).1 (je Se TJ).2;unfold mV;generalize bP l y high s=b at*;have e1:(bj l).cells=[bj l]:=rfl;have e2:(bj l).stays=true:=rfl;apply sR;simp only[go_sem,seval,ME,sx,e1,e2];refine aE hs λi2 Z2 s2 a2 f2 z2 hs=>?_;simp only[go_sem,seval,a2,e1,e2];refine pJ rfl hb ?_;apply sG;simp only[go_sem,seval];refine pJ rfl hlen ?_;by_cases h1:w<=fN b
 .have q:(w<=fN b)=True:=RX h1;apply sG;simp only[go_sem,seval,q,a2];exact aD.pure hs (by simp[h1])
 .have q:(w<=fN b)=False:=H' h1;apply sG;simp only[go_sem,seval,q,a2];refine pJ rfl hb ?_;obtain⟨b1,b2⟩:=b;obtain⟨s1,s2⟩:=s;apply sG;simp only[go_sem,seval,a2,aY];refine aD.pure hs ?_;by_cases h2:b1=s1<;>by_cases h3:b2=s2<;>simp[h1,h2,h3]
def F4(l:List Si)(w high y:Int)(s:SK)(hl:l.length<=1000000)(Se:∀f∈l,f.ok)(hy:Tj y)(hh:Bq high)(TJ:Tj s.a/\Tj s.b):
 aX prog 177 [bj l,vI w,vI high,vI y,aY s] (.Sa [aY (bP l (gu l w high s y) high s),vI (gu l w high s y)]):=λU=>by
 refine QK.q ?_;have hs:=aa.refl U;refine ay.mix 13 ?_;have e1:(bj l).cells=[bj l]:=rfl;have e2:(bj l).stays=true:=rfl;apply sR;simp only[go_sem,seval,Mj,aY];refine aE hs λi9 Y9 s9 a9 f9 z9 hs=>?_;simp only[go_sem,seval,a9];refine aE hs λi10 XV TN Sb f10 UH hs=>?_;obtain⟨Vi,a9⟩:=RZ a9 f10 TN;simp only[go_sem,seval,Sb,a9,e1,e2];refine aE hs λi12 Y12 XX a12 f12 z12 hs=>?_;obtain⟨Ys,a9⟩:=RZ a9 f12 XX;obtain⟨V1,Sb⟩:=RZ Sb f12 XX;simp only[go_sem,seval,a12,Sb,a9,e1,e2];generalize TL:C' _ i12 _=Z12;replace a12:=Ti TL;replace a9:=So TL Ys a9;replace Sb:=So TL V1 Sb;replace hs:=Te TL hs z12;obtain⟨z,hz⟩:∃z,z=gu l w high s y:=⟨_,rfl⟩
 rw[<-hz];refine ay.kY (λst=>∃J,st.U=J/\aa U J/\J i12=some ⟨273,5,[sx l high z s]⟩/\J i10=some ⟨195,2,[.agg [vI 0,vI 0]]⟩/\st.s 10=.ptr i10 0 0/\st.s 12=.ptr i12 0 0/\Tj z)
  (λm st=>∃(y':Int) (k:Nat),m=Xb l y'/\Xb l y'<=k/\z=kg l w high s k y'/\Tj y'/\aa U st.U/\st.U i12=some ⟨273,5,[sx l high y' s]⟩/\st.U i10=some ⟨195,2,[.agg [vI 0,vI 0]]⟩/\st.s 1=vI w/\st.s 10=.ptr i10 0 0/\st.s 12=.ptr i12 0 0) (Xb l y) ?_ ?_ ?_
 .exact⟨y,l.length,rfl,List.length_filter_le _ _,hz,hy,hs,a12,Sb,rfl,rfl,rfl⟩
 .rintro m ⟨S,J⟩ ⟨y',k,rfl,hk,hzk,hy',hs,YL,b10,k1,Tp,Tc⟩;simp only at hs YL b10 k1 Tp Tc;refine ay.mix 13 ?_;rw[sx]at YL;apply sR;simp only[go_sem,seval,k1,Tp,Tc,YL,e1,e2];refine pR rfl (IH l w high y' s hl Se hy' hh TJ _) ?_;cases hf:mV l w high s y'
  .have Sh:bP l y' high s≠s:=λe=>by simp[mV,e]at hf
   have hfd:=mM Sh;have hdec:=mu (fC hfd);apply sR;simp only[go_sem,seval,k1,Tp,Tc,YL,e1,e2];refine pS rfl (FQ l y' high s hl Se hy' hh _) ?_;simp only[go_sem,seval,k1,Tp,Tc,YL,e1,e2];obtain⟨k',rfl⟩:∃k',k=k'+1:=⟨k-1,by omega⟩
   rw[kg,hf]at hzk;have n:i12≠i10:=V1.symm;refine⟨_,hdec,_,k',rfl,by omega,by simpa using hzk,yu Se hfd,hs.aL z12,rfl,?_⟩;rw[ad V1];exact b10
  .have hzy:z=y':=by cases k<;>simp[kg,hf]at hzk<;>exact hzk
   subst hzy;apply sR;simp only[go_sem,seval,k1,Tp,Tc,YL,e1,e2];exact⟨J,rfl,hs,YL,b10,hy'⟩
 .rintro⟨S,J⟩ ⟨X',rfl,hs,YL,b10,Tp,Tc,hz2⟩;simp only at hs YL b10 Tp Tc;rw[sx]at YL;refine mS 13 ?_;simp only[go_sem,seval,Tp,Tc];refine ay.yA (by kernel_rfl) [0,2,3,1,4,5] [[],[0],[],[2],[0,1],[0,1,2,3,4]] [0,4,6,2,7,8,7,10] (by kernel_rfl) (by kernel_rfl) ?_;refine cY (n:=0) [2,7,8,7,10] [0,4,6] [_,_,_] rfl rfl ?_;simp only[go_sem,seval,Tp,Tc,YL,e1,e2];refine WW rfl (CQ l high z s hl Se hz2 hh _) ?_;refine eh rfl (by simp only[go_sem,seval,Tp,Tc,YL,b10,e1,e2]) ?_;refine cY (n:=0) [7,10] [8] [_] rfl rfl ?_;simp only[go_sem,seval,Tp,Tc,YL,b10,aY,e1,e2];refine eh rfl (by simp only[go_sem,seval,Tp,Tc,YL,b10,ad V1.symm,e1,e2]) ?_;refine cY (n:=0) [] [10] [_] rfl rfl ?_;simp only[go_sem,seval,Tp,Tc,YL,b10,aY,e1,e2];apply sR;simp only[go_sem,seval,Tp,Tc,aA,aY];exact aD.pure (hs.aL UH) rfl
open Go.Proofs
def n7(e sz b:Nat):RY:=⟨8,.seq (.Wb false [⟨some 2,.Wa (.c .bl),none⟩]) (.seq (.seq (.Wb false [⟨some 3,.Wa (.t 0),none⟩,⟨some 4,.Vr false (.t 3) (.c (.iface 0 .undef)),none⟩]) (.cond (.t 4) (.seq (.Wb false [⟨some 2,.Wa (.c .bl),none⟩]) .ret) .skip)) (.seq (.Wb false [⟨some 5,.iW e sz [],none⟩,⟨some 6,.Wa (.t 0),none⟩,⟨some 7,.append e sz b (.t 5) (.t 6),none⟩,⟨some 2,.Wa (.t 7),none⟩]) .ret)),[.tmp (.t 2)]⟩
def Am{P:Program}{f:FuncId}{fn:Func}(hf:P.funcs[f]?=some fn){e sz b:Nat}(hc:cfn P fn=some (n7 e sz b))(hk:gQ P f=true)(rows:List V)(hb:rows.length*(b+1)<=140737488355328)(U:al):
 aG P f [.sl sz rows] U λr Z'=>aa U Z'/\aP U Z' e sz r rows:=by
 refine aG.oq hf hc hk (by simp[n7]) ?_;refine ay.mix 3 ?_
 (refine ay.bB Tx.nothing 8 ?_;simp only[go_sem,seval,px,n7])
 refine ay.DB rfl rfl rfl λt ht=>?_;cases t
 .apply sR;simp only[go_sem,seval];refine aF λVY Z1 s1 a1 f1=>?_;obtain⟨idA,hd,Sd⟩:=(aP.new (K:=U) (e:=e) (sz:=sz) (n:=0) (rows:=[]) rfl a1 f1).dst (aa.refl _);have Yk:∀U,cy U sz (.sl sz rows)=some rows:=λU=>by simp[cy]
  simp only[go_sem,seval,hd,Yk,hb];refine bn λXu Z2 s2 a2 f2=>?_;have U2:=(Sd U (aa.refl _) Z1 s1).trans s2;simp only[go_sem,seval];exact Tf ⟨U2,aP.new (by simp) a2 (s1.none f2)⟩
 .apply sR;simp only[go_sem,seval];obtain rfl:rows=[]:=ht rfl;exact Tf ⟨aa.refl _,aP.start⟩
def zP{P:Program}{f:FuncId}{fn:Func}(hf:P.funcs[f]?=some fn){e sz b:Nat}(hc:cfn P fn=some (n7 e sz b))(hk:gQ P f=true)(rows:List V)(hb:rows.length*(b+1)<=140737488355328):
 aX P f [.sl sz rows] (.sl sz rows):=λU=>(Am hf hc hk rows hb U).x9 λ_ _ h=>h.2.nG h.1 rfl
def av(l:List Si):(bj l).cells=[bj l]:=rfl
def au(l:List Si):(bj l).stays=true:=rfl
def kT{tell:Si->Int×Bool}{l:List Si}(h:(cF tell l).2=true):∃f∈l,(cF tell l).1=(tell f).1/\(tell f).2=true:=by
 have key:∀(l:List Si) (a:Int×Bool),l.foldl (ir tell) a=a\/∃f∈l,l.foldl (ir tell) a=((tell f).1,true)/\(tell f).2=true:=by
  intro l
  induction l with
  |nil=>intro a;exact .inl rfl
  |cons g l ih=>
   intro a;rw[jW];rcases ih (ir tell a g)with h|⟨f,hf,h,h'⟩
   .rw[h];unfold ir;split
    .rename_i hc;exact .inr ⟨g,by simp,rfl,hc.1⟩
    .exact .inl rfl
   .exact .inr ⟨f,by simp[hf],h,h'⟩
 rcases key l (0,false)with h1|⟨f,hf,h1,h2⟩
 .unfold cF at h;rw[h1]at h;cases h
 .exact⟨f,hf,by unfold cF;rw[h1],h2⟩
def kK(l:List Si)(w high:Int)(s:SK)(y:Int):Bool:=!(cJ l y high s).2||decide (fN (bP l y high s)>=w)
def iX(l:List Si)(w high:Int)(s:SK):Nat->Int->Int
 |0,y=>y
 |k+1,y=>if kK l w high s y then y else iX l w high s k (cJ l y high s).1
def qw(l:List Si)(w high:Int)(s:SK)(y:Int):Int:=iX l w high s l.length y
def A6(f:Si)(l:List Si)(s:SK):V:=.agg [vI f.node,vI f.side,vI f.anchor,vI f.x,vI f.y,vI f.w,vI f.h,bj l,vI s.a,vI s.b]
def Jt(l:List Si)(f:Si)(y:Int)(s:SK)(hl:l.length<=1000000)(Se:∀f∈l,f.ok)(hy:Tj y)(hh:Bq f.h)(TJ:Tj s.a/\Tj s.b):
 aX prog 229 [A6 f l s,vI y] (.Sa [aY (bP l (qw l f.w f.h s y) f.h s),vI (qw l f.w f.h s y)]):=λU=>by
 refine Pw.q ?_;have hs:=aa.refl U;refine mS 9 ?_;simp only[go_sem,seval,MN,A6,av,au];refine aE hs λi2 Z2 s2 a2 f2 z2 hs=>?_;simp only[go_sem,seval,a2,av,au];refine aE hs λi4 Z4 s4 a4 f4 z4 hs=>?_;obtain⟨VZ,a2⟩:=RZ a2 f4 s4;simp only[go_sem,seval,a4,a2];obtain⟨z,hz⟩:∃z,z=qw l f.w f.h s y:=⟨_,rfl⟩
 rw[<-hz];refine ay.loop (λm st=>∃(y':Int) (k:Nat),m=Xb l y'/\Xb l y'<=k/\z=iX l f.w f.h s k y'/\Tj y'/\aa U st.U/\st.U i2=some ⟨290,10,[A6 f l s]⟩/\st.U i4=some ⟨195,2,[.agg [vI 0,vI 0]]⟩/\st.s 1=vI y'/\st.s 2=.ptr i2 0 0/\st.s 4=.ptr i4 0 0) (Xb l y) ?_ ?_
 .exact⟨y,l.length,rfl,List.length_filter_le _ _,hz,hy,hs,a2,a4,rfl,rfl,rfl⟩
 .rintro m ⟨S,J⟩ ⟨y',k,rfl,hk,hzk,hy',hs,b2,b4,k1,k2,k4⟩;simp only at hs b2 b4 k1 k2 k4;refine ay.mix 9 ?_;rw[A6]at b2;have hb:=je (y:=y') (high:=f.h) Se TJ;apply sR;simp only[go_sem,seval,k1,k2,k4,b2,av,au];refine pS rfl (CJ l y' f.h s hl Se hy' hh _) ?_;simp only[go_sem,seval,aY];refine aF λi6 Z6 s6 a6 f6=>?_;have n26:=bf b2 f6;have ZL:=bf b4 f6;replace b2:=s6 _ _ b2;replace b4:=s6 _ _ b4;obtain⟨z6,hs⟩:=nwZ hs f6 s6;simp only[go_sem,seval,a6,b2,k1,k2,k4,ad n26,av,au];generalize hq:C' _ i6 _=Y6;have a6':=(congrFun hq i6).symm.trans aA;have b2':=((congrFun hq i2).symm.trans (ad n26)).trans b2;have b4':=((congrFun hq i4).symm.trans (ad ZL)).trans b4;replace hs:=Eq.subst (motive:=aa _) hq (hs.aL z6);refine pR rfl (FQ l y' f.h s hl Se hy' hh _) ?_;have hex:kK l f.w f.h s y'=true->z=y':=λh=>by cases k<;>simp[iX,h]at hzk<;>exact hzk
  have hlen:=E1 (bP l y' f.h s) hb.1 hb.2;have Uu:kK l f.w f.h s y'=false->∃k',k=k'+1/\Xb l (cJ l y' f.h s).1<Xb l y'/\z=iX l f.w f.h s k' (cJ l y' f.h s).1/\Tj (cJ l y' f.h s).1:=λh=>by
   have h2:(cJ l y' f.h s).2=true:=by
    simp only[kK,Bool.or_eq_false_iff,Bool.not_eq_false']at h;exact h.1
   have hdec:=mu (fC h2);obtain⟨k',rfl⟩:∃k',k=k'+1:=⟨k-1,by omega⟩
   rw[iX,h]at hzk;exact⟨k',rfl,hdec,by simpa using hzk,yu Se h2⟩
  unfold kK at hex Uu;cases hn:(cJ l y' f.h s).2
  .rw[hn]at hex;obtain rfl:=hex (by simp);apply sR;simp only[go_sem,seval,k1,k2,k4,a6',b4',b2'];exact aD.pure (hs.aL z4) rfl
  .rw[hn]at hex Uu;apply sR;simp only[go_sem,seval,k1,k2,k4,a6',b2'];refine pJ rfl hlen ?_;by_cases hw:fN (bP l y' f.h s)>=f.w
   .have q:(fN (bP l y' f.h s)>=f.w)=True:=RX hw;obtain rfl:=hex (by simp[hw]);apply sG;simp only[go_sem,seval,k1,k2,k4,a6',b4',b2',q,av,au];exact aD.pure (hs.aL z4) rfl
   .have q:(fN (bP l y' f.h s)>=f.w)=False:=H' hw;obtain⟨k',rfl,h1,h2,h3⟩:=Uu (by simp[hw]);apply sG;simp only[go_sem,seval,k1,k2,k4,a6',b4',b2',q,av,au];refine⟨_,h1,_,k',rfl,by omega,h2,h3,hs,?_⟩;exact⟨by rw[A6],rfl⟩
structure WOk(ws:List Int)(space:Int):Prop where
 len:ws.length<=100000
 Xv:∀x∈ws,0<=x/\x<=1099511627776
 s0:0<=space
 s1:space<=1099511627776
def iq(space:Int):List Int->Nat->Int->List (Nat×Int)
 |[],_,_=>[]
 |x::r,k,n=>(k+1,n+space+x)::iq space r (k+1) (n+space+x)
def lh(space width:Int):List Int->Nat->Int->Nat×Int
 |[],k,n=>(k,n)
 |x::r,k,n=>if n+space+x>width then(k,n)else lh space width r (k+1) (n+space+x)
def jc(ws:List Int)(space width:Int)(i:Nat):Nat×Int:=lh space width (ws.drop (i+1)) (i+1) (ws.getD i 0)
def rJ(space width:Int):∀(r:List Int) (k:Nat) (n:Int),k<=(lh space width r k n).1/\(lh space width r k n).1<=k+r.length
 |[],k,n=>by simp[lh]
 |x::r,k,n=>by
  rw[lh];split
  .simp
  .have:=rJ space width r (k+1) (n+space+x);simp only[Uf];omega
def rU{ws:List Int}{space width:Int}{i:Nat}(h:i<ws.length):i<(jc ws space width i).1/\(jc ws space width i).1<=ws.length:=by
 have:=rJ space width (ws.drop (i+1)) (i+1) (ws.getD i 0);rw[D5]at this;unfold jc;omega
def WOk.get{ws:List Int}{space:Int}(h:WOk ws space){i:Nat}(hi:i<ws.length):0<=ws[i]/\ws[i]<=1099511627776:=h.Xv _ (SU hi)
def wo(l:List Int):Int:=l.foldl (·+·) 0
def foldl_add(l:List Int):∀a:Int,l.foldl (·+·) a=a+wo l:=by
 unfold wo
 induction l with
 |nil=>intro a;simp
 |cons x l ih=>intro a;simp only[jW];rw[ih (a+x),ih (0+x)];omega
def sV(a b:List Int):wo (a++b)=wo a+wo b:=by
 unfold wo;rw[nj,foldl_add];rfl
def uT(x:Int):wo [x]=x:=by simp[wo]
def j5(ws:List Int)(space:Int)(i j:Nat):Int:=((j:Int)-i-1)*space+wo ((ws.take j).drop i)
def EG{ws:List Int}{space:Int}{i:Nat}(h:i<ws.length):j5 ws space i (i+1)=ws[i]:=by
 unfold j5;rw[Vn h,zS (by simp;omega),List.drop_of_length_le (by rw[mf];omega),lS,uT];have:((i+1:Nat):Int)-i-1=0:=by omega
 rw[this];omega
def B0{ws:List Int}{space:Int}{i j:Nat}(XY:i<=j)(h:j<ws.length):j5 ws space i (j+1)=j5 ws space i j+space+ws[j]:=by
 unfold j5;rw[Vn h,zS (by simp;omega),sV,uT];have:((j+1:Nat):Int)-i-1=((j:Int)-i-1)+1:=by omega
 rw[this,Int.add_mul];omega
def B4{ws:List Int}{space width:Int}{i j:Nat}(XY:i<j):
 lh space width (ws.drop j) j (j5 ws space i j)=if j<ws.length/\j5 ws space i (j+1)<=width then lh space width (ws.drop (j+1)) (j+1) (j5 ws space i (j+1))else(j,j5 ws space i j):=by
 by_cases h:j<ws.length
 .rw[jt h,lh,B0 (by omega) h];by_cases hw:j5 ws space i j+space+ws[j]<=width
  .rw[aK (by omega),aI ⟨h,hw⟩]
  .rw[aI (by omega),aK (λhh=>hw hh.2)]
 .rw[List.drop_of_length_le (by omega),lh,aK (λhh=>h hh.1)]
open Go.Proofs
def ldI(U:al)(l:List Int):dr U false 1 (.rp (aZ l))=some (aZ l):=rfl
def ag(l:List Int):(aZ l).cells=[aZ l]:=rfl
def ak(l:List Int):(aZ l).stays=true:=rfl
def dH{U:al}{l:List Int}{i:Nat}(h:i<l.length):bI U 1 (aZ l) (.int .i64 i)=some (.rp (vI l[i])):=by simp[aZ,bI,h]
def dz(l:List Int):eM false (aZ l)=some (.int .i64 l.length):=by simp[aZ,eM]
def lF(ws:List Int)(space:Int):V:=.agg [aZ ws,vI space]
def Ke(ws:List Int)(space:Int):gm false 0 1 (.rp (lF ws space))=some (.rp (aZ ws)):=rfl
def Lx(ws:List Int)(space:Int):gm false 1 1 (.rp (lF ws space))=some (.rp (vI space)):=rfl
def AY(ws:List Int)(space:Int):(lF ws space).cells=[aZ ws,vI space]:=rfl
def Av(ws:List Int)(space:Int):(lF ws space).stays=true:=rfl
def LU(ws:List Int)(space i:Int):aX prog 239 [lF ws space,vI i] (.bool (decide (i<0\/i>=ws.length))):=λU=>by
 refine Rg.q ?_;have hs:=aa.refl U;have hn:=dz ws;apply sR;simp only[go_sem,seval,Nz,lF,ag,ak];refine aE hs λi2 Z2 s2 a2 f2 z2 hs=>?_;by_cases h:i<0
 .have q:(i<0)=True:=RX h;simp only[go_sem,seval,a2,q,ag,ak];exact aD.pure hs (by simp[h])
 .have q:(i<0)=False:=H' h;simp only[go_sem,seval,a2,q,hn,ag,ak];exact aD.pure hs (by simp[h])
def gW(l:List (Nat×Int)):List (List V):=l.map λp=>[vI p.1,vI p.2]
def DR(ws:List Int)(space:Int)(hw:WOk ws space)(i:Nat)(hi:i<ws.length):Iter prog 247 [.rp (lF ws space),.rp (vI i)] (gW (iq space (ws.drop i) i (0-space))):=by
 refine⟨Mf.c,λSL τ Jx Z0 hy hJ=>?_⟩;refine(Mf.q ?_).2;have TY:=hw.s0;have TJ:=hw.s1;have Ux:=hw.len;have hn:=dz ws;have r0:Sn .i64 (0-space):=ar;refine mS 6 ?_;simp only[BB,seval,<-decide_not,bp,fW,aV,dP,dR,dI,dQ,eo,bH,jE,bu,fO,dM,fL,cP,cC,bQ,iB,cm,cB,cd,Ty,jD,cW,bJ,ll,dp,bS,cN,cD,jH,binBV,bG,dj,V.cells,V.stays,Tx.nothing,NJ,ldI,Ke,Lx,r0];refine ay.loop (λm st=>∃(pre:List (Nat×Int)) (j:Nat) (n:Int) (ZJ:al),m=ws.length-j/\i<=j/\j<=ws.length/\-1099511627776<=n/\n<=2199023255552*j/\iq space (ws.drop i) i (0-space)=pre++iq space (ws.drop j) j n/\
  τ (gW pre) ZJ/\aa ZJ st.U/\st.s 0=.yl SL/\st.s 1=.rp (lF ws space)/\st.s 4=vI n/\st.s 5=vI j) (ws.length-i) ?_ ?_
 .exact⟨[],i,0-space,Z0,rfl,by omega,by omega,by omega,by omega,rfl,hJ,aa.refl _,rfl,rfl,rfl,rfl⟩
 .rintro m ⟨s,Z'⟩ ⟨pre,j,n,ZJ,rfl,XY,hj,hn1,Xo,Vt,hJp,G',t0,t1,t4,t5⟩;simp only at G' t0 t1 t4 t5;refine ay.mix 6 ?_;by_cases u':j<ws.length
  .have q:=qT u';have hx:=hw.get u';have R0:=λU=>dH (U:=U) u';rw[jt u',iq]at Vt;generalize ws[j]=w at*;have r1:Sn .i64 (space+w):=ar;have r2:Sn .i64 (n+(space+w)):=ar;have r3:=rI j;have en:n+space+w=n+(space+w):=by omega
   rw[en]at Vt;have e:gW (iq space (ws.drop i) i (0-space))=gW pre++[vI ((j:Int)+1),vI (n+(space+w))]::gW (iq space (ws.drop (j+1)) (j+1) (n+(space+w))):=by rw[Vt];simp[gW]
   apply sR;simp only[BB,seval,<-decide_not,bp,fW,aV,dP,dR,dI,dQ,eo,bH,jE,bu,fO,dM,fL,cP,cC,bQ,iB,cm,cB,cd,Ty,jD,cW,bJ,ll,dp,bS,cN,cD,jH,binBV,bG,dj,V.cells,V.stays,Tx.nothing,t0,t1,t4,t5,hn,q,ldI,Ke,Lx,R0,r1,r2,r3];refine ay.qc (Post:=λb Z2=>∃SN,bF ZJ Z' SN Z2/\((b=true/\τ (gW pre++[[vI ((j:Int)+1),vI (n+(space+w))]]) SN)\/(b=false/\Jx (gW pre++[[vI ((j:Int)+1),vI (n+(space+w))]]) SN))) rfl rfl rfl (hy _ _ _ ZJ Z' e hJp G') ?_;rintro b Z2 ⟨SN,UQ,Uo⟩;rcases Uo with⟨rfl,Uo⟩|⟨rfl,Uo⟩
   .apply sR;simp only[go_sem,seval,t0,t1,t4,t5,r3];refine⟨_,?_,pre++[(j+1,n+(space+w))],j+1,n+(space+w),SN,rfl,by omega,by omega,by omega,by omega,by rw[Vt];simp,?_,UQ.1,by simp[t0,t1]⟩
    .omega
    .simpa[gW]using Uo
   .apply sR;simp only[go_sem,seval,t0,t1,t4,t5];refine⟨_,SN,UQ.1,Wk.refl UQ.1 _,.inr ⟨_,?_,Uo⟩⟩;rw[e];exact⟨gW (iq space (ws.drop (j+1)) (j+1) (n+(space+w))),by simp⟩
  .have q:=qF u';apply sR;simp only[BB,seval,<-decide_not,bp,fW,aV,dP,dR,dI,dQ,eo,bH,jE,bu,fO,dM,fL,cP,cC,bQ,iB,cm,cB,cd,Ty,jD,cW,bJ,ll,dp,bS,cN,cD,jH,binBV,bG,dj,V.cells,V.stays,Tx.nothing,t0,t1,t4,t5,hn,q,ldI,Ke,Lx];rw[show ws.drop j=[]from List.drop_of_length_le (by omega),iq,kr]at Vt;exact⟨_,ZJ,G',Wk.refl G' _,.inl (by rw[Vt];exact hJp)⟩
def La(ws:List Int)(space:Int)(i:Int):aX prog 240 [lF ws space,vI i] (.fn 247 [.rp (lF ws space),.rp (vI i)]):=λU=>by
 refine Py.q ?_;refine ay.mix 4 ?_;have q1:=AY ws space;have q2:=Av ws space;have q3:(lF ws space).cells.length=2:=rfl;generalize hx:lF ws space=x at*;apply sR;simp only[go_sem,seval,NW,q1,q2,q3];refine aF λVY Z1 s1 a1 f1=>?_;simp only[go_sem,seval];refine aF λXu Z2 s2 a2 f2=>?_;simp only[go_sem,seval];exact⟨_,U,s1.trans s2,Wk.fn (vs':=[.rp x,.rp (vI i)]) ⟨Wk.ptr (s1.trans s2) (s2 _ _ a1) f1,Wk.ptr (s1.trans s2) a2 (s1.none f2),trivial⟩,rfl,rfl⟩
open Go.Proofs
def rW(i j n:Int):V:=.agg [vI i,vI j,vI n]
structure TkJ(ws:List Int)(space width:Int)(i:Nat)(U:al)(Xq id7 id8 id10:Nat)(pre:List (List V))(v:V)(ZJ:al):Prop where
 sub:aa U ZJ
 r8:ZJ id8=some ⟨263,3,[.agg [vI 0,vI 0,vI 0]]⟩
 r6:ZJ Xq=some ⟨3,1,[vI width]⟩
 r7:ZJ id7=some ⟨3,1,[vI i]⟩
 YM:ZJ id10=some ⟨263,3,[v]⟩
 st:(pre=[]/\v=.agg [vI 0,vI 0,vI 0])\/∃n:Int,0<pre.length/\i+pre.length<=ws.length/\gW (iq space (ws.drop i) i (0-space))=pre++gW (iq space (ws.drop (i+pre.length)) (i+pre.length) n)/\
  jc ws space width i=lh space width (ws.drop (i+pre.length)) (i+pre.length) n/\v=.agg [vI i,vI (i+pre.length:Nat),vI n]
def Ib(ws:List Int)(space width:Int)(hw:WOk ws space)(i:Nat)(hi:i<ws.length):aX prog 222 [aZ ws,vI space,vI width,vI i] (rW i (jc ws space width i).1 (jc ws space width i).2):=λU=>by
 refine QW.q ?_;have hs:=aa.refl U;have Ux:=hw.len;refine mS 13 ?_;simp only[go_sem,seval,Ml];refine aE hs λi6 Z6 s6 a6 f6 z6 hs=>?_;simp only[go_sem,seval,a6,ag,ak];refine aE hs λi7 Z7 s7 a7 f7 z7 hs=>?_;obtain⟨Uh,a6⟩:=RZ a6 f7 s7;simp only[go_sem,seval,a7,a6,ag,ak];refine aE hs λi8 Z8 s8 a8 f8 z8 hs=>?_;obtain⟨Wl,a6⟩:=RZ a6 f8 s8;obtain⟨V0,a7⟩:=RZ a7 f8 s8;simp only[go_sem,seval,a8,a7,a6,ag,ak];refine aE hs λi9 Y9 s9 a9 f9 z9 hs=>?_;obtain⟨Yp,a6⟩:=RZ a6 f9 s9;obtain⟨n79,a7⟩:=RZ a7 f9 s9;obtain⟨n89,a8⟩:=RZ a8 f9 s9;simp only[go_sem,seval,a9,a8,a7,a6,ag,ak,ad Yp,ad n79,ad n89];generalize Tb:C' _ i9 _=Z9;replace a9:=Ti Tb;replace a6:=So Tb Yp a6;replace a7:=So Tb n79 a7;replace a8:=So Tb n89 a8;replace hs:=Te Tb hs z9;have hf:=LU ws space i;rw[show decide ((i:Int)<0\/(i:Int)>=ws.length)=false by simp;omega]at hf;refine pS rfl (hf _) ?_;simp only[go_sem,seval,a9,a8,a7,a6];refine aE hs λi10 XV TN Sb f10 UH hs=>?_;obtain⟨VH,a6⟩:=RZ a6 f10 TN;obtain⟨TB,a7⟩:=RZ a7 f10 TN;obtain⟨Wm,a8⟩:=RZ a8 f10 TN;obtain⟨Vi,a9⟩:=RZ a9 f10 TN;simp only[go_sem,seval,Sb,a9,a8,a7,a6];refine pS rfl (La ws space i _) ?_;simp only[go_sem,seval,Sb,a9,a8,a7,a6];generalize hS:mix 13 _ _=S;have S6:S 6=.ptr i6 0 0:=by rw[<-hS];rfl
 have S7:S 7=.ptr i7 0 0:=by rw[<-hS];rfl
 have S8:S 8=.ptr i8 0 0:=by rw[<-hS];rfl
 have S10:S 10=.ptr i10 0 0:=by rw[<-hS];rfl
 have S22:S 22=.fn 247 [.rp (lF ws space),.rp (vI i)]:=by rw[<-hS];rfl
 clear hS;have YH:=DR ws space hw i hi;have hdr:ws.drop i=ws[i]::ws.drop (i+1):=jt hi;have VK:ws.getD i 0=ws[i]:=by simp[hi]
 have hxi:=hw.get hi;have fin:∀(J:al) (w:V),aa U J->J i8=some ⟨263,3,[.agg [vI 0,vI 0,vI 0]]⟩->J i10=some ⟨263,3,[rW i (jc ws space width i).1 (jc ws space width i).2]⟩->
  ay prog 39 [It.code (.seq (.Wb false [⟨some 38,.load true 3 (.t 10),none⟩,⟨none,.store 3 (.t 8) (.t 38),none⟩]) .ret)] ⟨S,J⟩ (λst=>WT [VR.cell true 3 (VX.t 8)] st λr Z'=>r=rW i (jc ws space width i).1 (jc ws space width i).2/\Z'=U):=by
  intro J w h1 h2 h3;refine ay.mix 13 ?_;rw[rW]at h3;apply sR;simp only[go_sem,seval,S8,S10,h2,h3];exact aD.pure (h1.aL z8) rfl
 refine ay.gX (g:=.t 22) (caps:=[.rp (lF ws space),.rp (vI i)]) S22 YH (λx hx=>?_) [0] (λpre ZJ=>∃v,TkJ ws space width i U i6 i7 i8 i10 pre v ZJ)
  (λe pre ZJ=>e=some 0/\aa U ZJ/\ZJ i8=some ⟨263,3,[.agg [vI 0,vI 0,vI 0]]⟩/\ZJ i10=some ⟨263,3,[rW i (jc ws space width i).1 (jc ws space width i).2]⟩) ?_ ?_ ?_ ?_ ?_
 .obtain⟨t,_,rfl⟩:=iE.1 hx;rfl
 .exact⟨_,hs,a8,a6,a7,Sb,.inl ⟨rfl,rfl⟩⟩
 .rintro pre x post ZJ ZB Vt ⟨v,τ⟩ G';have b6:=G' _ _ τ.r6;have b7:=G' _ _ τ.r7;have b8:=G' _ _ τ.r8;have b10:=G' _ _ τ.YM;rcases τ.st with⟨rfl,rfl⟩|⟨n,hp,Wr,hr,SB,rfl⟩
  .obtain rfl:x=[vI ((i:Int)+1),vI ws[i]]:=by
    rw[hdr]at Vt;simp only[iq,gW,ga,lS,List.cons.injEq]at Vt;rw[<-Vt.1];simp only[Int.sub_add_cancel,Int.zero_add];rw[show((i+1:Nat):Int)=(i:Int)+1 by omega]
   refine ay.mix 13 ?_;generalize U8:pI S [23,24] _=S0;have T6:S0 6=.ptr i6 0 0:=by rw[<-U8];exact S6
   have T7:S0 7=.ptr i7 0 0:=by rw[<-U8];exact S7
   have T10:S0 10=.ptr i10 0 0:=by rw[<-U8];exact S10
   have T23:S0 23=vI ((i:Int)+1):=by rw[<-U8];rfl
   have T24:S0 24=vI ws[i]:=by rw[<-U8];rfl
   clear U8;have r1:=rI i;have q:((i:Int)+1>(i:Int)+1)=False:=H';apply sR;simp only[go_sem,seval,T6,T7,T10,T23,T24];apply sR;simp only[go_sem,seval,T6,T7,T10,T23,T24,b6,b7,b10,r1,q];refine⟨_,(bF.refl G').set τ.YM,_,τ.sub.aL UH,by rw[ad Wm];exact τ.r8,by rw[ad VH];exact τ.r6,by rw[ad TB];exact τ.r7,aA,.inr ⟨ws[i],by simp,by simp;omega,?_,?_,?_⟩⟩
   .rw[hdr,iq];simp only[Int.sub_add_cancel,Int.zero_add,gW,ga,lS,Uf,List.length_nil,List.cons_append];rw[show((i+1:Nat):Int)=(i:Int)+1 by omega]
   .unfold jc;rw[VK];rfl
   .simp
  .have u':i+pre.length<ws.length:=by
    rcases Nat.lt_or_ge (i+pre.length) ws.length with h|h
    .exact h
    .exfalso;rw[List.drop_of_length_le h]at hr;rw[hr]at Vt;have:=congrArg List.length Vt;simp[iq,gW]at this
   have Wn:ws.drop (i+pre.length)=ws[i+pre.length]::ws.drop (i+pre.length+1):=jt u';obtain rfl:x=[vI ((i:Int)+pre.length+1),vI (n+space+ws[i+pre.length])]:=by
    rw[hr,Wn]at Vt;have h2:=List.append_cancel_left Vt;simp only[iq,gW,ga,List.cons.injEq]at h2;rw[<-h2.1];rw[show((i+pre.length+1:Nat):Int)=(i:Int)+pre.length+1 by omega]
   rw[Wn,lh]at SB;refine ay.mix 13 ?_;generalize U8:pI S [23,24] _=S0;have T6:S0 6=.ptr i6 0 0:=by rw[<-U8];exact S6
   have T7:S0 7=.ptr i7 0 0:=by rw[<-U8];exact S7
   have T10:S0 10=.ptr i10 0 0:=by rw[<-U8];exact S10
   have T23:S0 23=vI ((i:Int)+pre.length+1):=by rw[<-U8];rfl
   have T24:S0 24=vI (n+space+ws[i+pre.length]):=by rw[<-U8];rfl
   clear U8;have r1:=rI i;have q:((i:Int)+pre.length+1>(i:Int)+1)=True:=RX;apply sR;simp only[go_sem,seval,T6,T7,T10,T23,T24];by_cases Vp:n+space+ws[i+pre.length]>width
   .have q2:(n+space+ws[i+pre.length]>width)=True:=RX Vp;rw[aI Vp]at SB;apply sR;simp only[go_sem,seval,T6,T7,T10,T23,T24,b6,b7,b10,r1,q,q2];refine⟨_,bF.refl G',τ.sub,τ.r8,?_⟩;rw[τ.YM,SB];rfl
   .have q2:(n+space+ws[i+pre.length]>width)=False:=H' Vp;rw[aK Vp]at SB;apply sR;simp only[go_sem,seval,T6,T7,T10,T23,T24,b6,b7,b10,r1,q,q2];have hpl2:(pre++[[vI ((i:Int)+pre.length+1),vI (n+space+ws[i+pre.length])]]).length=pre.length+1:=by simp
    refine⟨_,(bF.refl G').set τ.YM,_,τ.sub.aL UH,by rw[ad Wm];exact τ.r8,by rw[ad VH];exact τ.r6,by rw[ad TB];exact τ.r7,aA,.inr ⟨n+space+ws[i+pre.length],by omega,by omega,?_,?_,?_⟩⟩
    .rw[hr,Wn,hpl2,iq];simp only[gW,ga,mY,List.cons_append,lS];rw[show((i+pre.length+1:Nat):Int)=(i:Int)+pre.length+1 by omega];rfl
    .rw[hpl2];exact SB
    .rw[hpl2,show((i+(pre.length+1):Nat):Int)=(i:Int)+pre.length+1 by omega]
 .rintro Z' ⟨v,τ⟩;rcases τ.st with⟨h0,rfl⟩|⟨n,hp,Wr,hr,SB,rfl⟩
  .exfalso;rw[hdr]at h0;simp[iq,gW]at h0
  .have he:gW (iq space (ws.drop (i+(gW (iq space (ws.drop i) i (0-space))).length)) (i+(gW (iq space (ws.drop i) i (0-space))).length) n)=[]:=by
    have:=congrArg List.length hr;rw[kL]at this;exact td (by omega)
   generalize (gW (iq space (ws.drop i) i (0-space))).length=p at*;have hd:ws.drop (i+p)=[]:=by
    cases h:ws.drop (i+p)with
    |nil=>rfl
    |cons a b=>rw[h]at he;simp[iq,gW]at he
   rw[hd,lh]at SB;refine ay.inBlock (fin Z' .bl τ.sub τ.r8 ?_);rw[τ.YM,SB];rfl
 .intro id L' pre Z' _ ⟨h0,h1,h2,h3⟩;obtain rfl:id=0:=by simpa using L'
  refine ay.exit rfl ?_;exact fin Z' .bl h1 h2 h3
 .rintro pre Z' _ ⟨h0,_⟩;cases h0
open Go.Proofs
def kS(p:Pn)(n:Int):Pn:=⟨if n>0 then p.y+p.m+n else p.y,if n>0 then 0 else p.m⟩
def er(p:Pn)(mg n:Int):Pn:=kS ⟨p.y,max p.m mg⟩ n
def ky(p:Pn)(mg n:Int):Pn:=⟨(kS p n).y,max (kS p n).m mg⟩
def Dg(p:Pn)(mg n:Int)(h1:Bq p.y)(h2:Bq p.m)(h3:Bq mg)(h4:Bq n):aX prog 172 [dx p,vI mg,vI n] (dx (er p mg n)):=λU=>by
 refine P5.q ?_;have hs:=aa.refl U;refine mS 10 ?_;simp only[go_sem,seval,NP,dx];refine aE hs λi3 Z3 s3 a3 f3 z3 hs=>?_;simp only[go_sem,seval,a3];refine aE hs λi6 Z6 s6 a6 f6 z6 hs=>?_;obtain⟨XZ,a3⟩:=RZ a3 f6 s6;simp only[go_sem,seval,a6,a3];refine aE hs λi7 Z7 s7 a7 f7 z7 hs=>?_;obtain⟨n37,a3⟩:=RZ a3 f7 s7;obtain⟨Uh,a6⟩:=RZ a6 f7 s7;simp only[go_sem,seval,a7,a6,a3,ad n37,ad Uh];generalize Wo:C' _ i7 _=Y7;replace a7:=Ti Wo;replace a3:=So Wo n37 a3;replace a6:=So Wo Uh a6;replace hs:=Te Wo hs z7;refine TX rfl (Dt p.y p.m mg a7) ?_;rintro r Z1 ⟨rfl,rfl⟩;apply sR;simp only[go_sem,seval];have hm:Bq (max p.m mg):=by obtain⟨g1,g2⟩:=h2;obtain⟨g3,g4⟩:=h3;exact⟨by omega,by omega⟩
 refine TX rfl (J0 p.y (max p.m mg) n h1 hm h4 aA) ?_;rintro r Z2 ⟨rfl,rfl⟩;apply sR;simp only[go_sem,seval,a6,ad Uh,ad Uh.symm];exact aD.pure ((hs.aL z7).aL z6) rfl
def CB(p:Pn)(mg n:Int)(h1:Bq p.y)(h2:Bq p.m)(h3:Bq mg)(h4:Bq n):aX prog 173 [dx p,vI mg,vI n] (dx (ky p mg n)):=λU=>by
 refine P4.q ?_;have hs:=aa.refl U;refine mS 10 ?_;simp only[go_sem,seval,Mp,dx];refine aE hs λi3 Z3 s3 a3 f3 z3 hs=>?_;simp only[go_sem,seval,a3];refine aE hs λi6 Z6 s6 a6 f6 z6 hs=>?_;obtain⟨XZ,a3⟩:=RZ a3 f6 s6;simp only[go_sem,seval,a6,a3];refine aE hs λi7 Z7 s7 a7 f7 z7 hs=>?_;obtain⟨n37,a3⟩:=RZ a3 f7 s7;obtain⟨Uh,a6⟩:=RZ a6 f7 s7;simp only[go_sem,seval,a7,a6,a3,ad n37,ad Uh];generalize Wo:C' _ i7 _=Y7;replace a7:=Ti Wo;replace a3:=So Wo n37 a3;replace a6:=So Wo Uh a6;replace hs:=Te Wo hs z7;refine TX rfl (J0 p.y p.m n h1 h2 h4 a7) ?_;rintro r Z1 ⟨rfl,rfl⟩;apply sR;simp only[go_sem,seval];refine TX rfl (Dt _ _ mg aA) ?_;rintro r Z2 ⟨rfl,rfl⟩;apply sR;simp only[go_sem,seval,a6,ad Uh,ad Uh.symm];exact aD.pure ((hs.aL z7).aL z6) rfl
structure Ln where
 (fr to x y w:Int)
deriving DecidableEq
def jo(l:Ln):V:=.agg [vI l.fr,vI l.to,vI l.x,vI l.y,vI l.w]
def lV(fs:List Si)(ws:List Int)(space high:Int)(i:Nat)(y:Int)(s:SK):Ln:=
 let SI:=gu fs (ws.getD i 0) high s y
 let b:=bP fs SI high s
 let t:=jc ws space (fN b) i
 ⟨i,t.1,b.a,SI,t.2⟩
def HG(fs:List Si)(ws:List Int)(space high:Int)(i:Nat)(y:Int)(s:SK)(hl:fs.length<=1000000)(Se:∀f∈fs,f.ok)(hy:Tj y)(hh:Bq high)(TJ:Tj s.a/\Tj s.b)(hw:WOk ws space)(hi:i<ws.length):
 aX prog 203 [bj fs,aZ ws,vI space,vI high,vI i,vI y,aY s] (jo (lV fs ws space high i y s)):=λU=>by
 refine QV.q ?_;have hs:=aa.refl U;have hn:=dz ws;have R0:=λU=>dH (U:=U) hi;have q0:((i:Int)<0)=False:=H';have q1:((i:Int)>=ws.length)=False:=H';refine mS 18 ?_;simp only[go_sem,seval,O0,aY];refine aE hs λi13 Z13 YN TF f13 z13 hs=>?_;simp only[go_sem,seval,TF];refine aE hs λi14 Z14 s14 Vu f14 z14 hs=>?_;obtain⟨n1314,TF⟩:=RZ TF f14 s14;simp only[go_sem,seval,Vu,TF,hn,R0,q0,q1];have VK:ws.getD i 0=ws[i]:=by simp[hi]
 obtain⟨SI,U7⟩:∃a,a=gu fs ws[i] high s y:=⟨_,rfl⟩
 have Vo:=F4 fs ws[i] high y s hl Se hy hh TJ;rw[<-U7]at Vo;have Wx:=je (y:=SI) (high:=high) Se TJ;unfold lV;rw[VK];simp only;rw[<-U7];obtain⟨b,hb⟩:∃b,b=bP fs SI high s:=⟨_,rfl⟩
 rw[<-hb]at Vo Wx|-;refine pJ rfl Vo ?_;apply sG;simp only[go_sem,seval,aY];refine xd hs λi15 Z15 XD Vg f15 z15 hs=>?_;obtain⟨n1315,TF⟩:=RZ TF f15 XD;obtain⟨n1415,Vu⟩:=RZ Vu f15 XD;simp only[go_sem,seval,Vg,Vu,TF,aY];generalize TW:C' _ i15 _=Y15;replace Vg:=Ti TW;replace TF:=So TW n1315 TF;replace Vu:=So TW n1415 Vu;replace hs:=Te TW hs z15;refine pS rfl (E1 b Wx.1 Wx.2 _) ?_;simp only[go_sem,seval];refine pS rfl (Ib ws space (fN b) hw i hi _) ?_;simp only[go_sem,seval,rW];refine aE hs λi17 Z17 X6 Zi f17 z17 hs=>?_;obtain⟨Xc,TF⟩:=RZ TF f17 X6;obtain⟨n1417,Vu⟩:=RZ Vu f17 X6;obtain⟨n1517,Vg⟩:=RZ Vg f17 X6;simp only[go_sem,seval,Zi,Vg,Vu,ad Xc,ad n1417,ad n1517];exact aD.pure ((hs.aL z17).aL z14) rfl
open Go.Proofs
def aP.nM{K ZJ Z1:al}{e sz:Nat}{v:V}{rows:List V}(h:aP K ZJ e sz v rows)(hs:aa ZJ Z1):
 ∃idA,bX Z1 e sz v=some (rows,idA)/\(∀K':al,aa K' K->∀Z2,aa K' Z2->aa K' (Vc.bW Z2 idA))/\(∀i o,ZJ i=some o->(o.elem≠e\/o.sz≠sz)->∀Z2:al,Vc.bW Z2 idA i=Z2 i)/\(∀i,ZJ i=none->∀Z2:al,Vc.bW Z2 idA i=Z2 i):=by
 rcases h with⟨rfl,rfl⟩|⟨id,rfl,ho,hk⟩
 .exact⟨none,rfl,λ_ _ _ h=>h,λ_ _ _ _ _=>rfl,λ_ _ _=>rfl⟩
 .refine⟨some id,?_,λK' hK Z2 h=>h.uL (hK.none hk),λi o hi Sh Z2=>?_,λi hi Z2=>?_⟩
  .simp only[bX,hs _ _ ho];rw[aI ⟨trivial,trivial,trivial,SD _⟩,iC]
  .refine eV λe'=>?_;subst e';rw[ho]at hi;injection hi with hi;subst hi;rcases Sh with h|h<;>exact h rfl
  .refine eV λe'=>?_;subst e';rw[ho]at hi;cases hi
def sS{l:List Si}{w high B:Int}{s:SK}(hB:∀f∈l,f.y+f.h<=B):∀(k:Nat) (y:Int),y<=kg l w high s k y/\kg l w high s k y<=max y B
 |0,y=>by simp only[kg];omega
 |k+1,y=>by
  rw[kg];split
  .omega
  .rename_i hf;have Sh:bP l y high s≠s:=λe=>hf (by simp[mV,e]);obtain⟨f,hm,h1,h2⟩:=fC (mM Sh);have:=sS hB k (cJ l y high s).1 (w:=w) (high:=high) (s:=s);have:=hB f hm;omega
def fF{l:List Si}{w high B y:Int}{s:SK}(hB:∀f∈l,f.y+f.h<=B):y<=gu l w high s y/\gu l w high s y<=max y B:=sS hB _ _
def cM(fs:List Si)(ws:List Int)(space high:Int)(s:SK):Nat->Nat->Int->List Ln
 |0,_,_=>[]
 |k+1,i,y=>if i<ws.length then lV fs ws space high i y s::cM fs ws space high s k (lV fs ws space high i y s).to.toNat ((lV fs ws space high i y s).y+high)else[]
def jJ(fs:List Si)(ws:List Int)(space high:Int)(s:SK):∀(k i:Nat) (y:Int),(cM fs ws space high s k i y).length<=k
 |0,_,_=>by simp[cM]
 |k+1,i,y=>by
  rw[cM];split
  .have:=jJ fs ws space high s k (lV fs ws space high i y s).to.toNat ((lV fs ws space high i y s).y+high);simp only[Uf];omega
  .simp
def rX(l:Ln):(jo l).cells=[vI l.fr,vI l.to,vI l.x,vI l.y,vI l.w]:=rfl
def rL(l:Ln):(jo l).stays=true:=rfl
def kd(l:List Ln):V:=.sl 5 (l.map jo)
variable {P:Program} {n:Nat} {st:St} {Q:St->Prop} {k:List It}
def ph(D:List (List Nat))(S:List Nat)(s:Nat):List (List Nat):=(List.range D.length).map λi=>if S.contains i&&!(i==s)then s::D.getD i []else D.getD i []
def zh{D:List (List Nat)}{S:List Nat}{s:Nat}:(ph D S s).length=D.length:=by simp[ph]
def zM{D:List (List Nat)}{S:List Nat}{s i:Nat}:(ph D S s).getD i []=if i<D.length/\i∈S/\i≠s then s::D.getD i []else D.getD i []:=by
 unfold ph;rw[yd,tg];by_cases hi:i<D.length
 .rw[List.getElem?_range hi];by_cases hs:i∈S
  .by_cases he:i=s
   .simp[he]
   .simp[hi,hs,he]
  .simp[hs]
 .have h1:(List.range D.length)[i]?=none:=tm (by simpa using hi);rw[h1,aK (λh=>hi h.1)];simp[tm (show D.length<=i by omega)]
def AR{D:List (List Nat)}{S:List Nat}{s i:Nat}(h:i∉S\/i=s):(ph D S s).getD i []=D.getD i []:=by
 rw[zM,aK];rintro⟨_,h1,h2⟩;exact h.elim (λh=>h h1) h2
def sP{D:List (List Nat)}{S:List Nat}{s:Nat}{L:List Nat}(hp:s∈L):eL (ph D S s) L=eL D L:=by
 unfold eL;rw[zh];refine List.filter_congr λi hi=>?_;rw[zM];split
 .simp[hp]
 .rfl
def ux{l:List aU}{D:List (List Nat)}{S:List Nat}{s:Nat}{K:St->Prop}:∀(f:Nat) (L:List Nat) (y:St),s∈L->jx P l (ph D S s) K f L y->jx P l D K f L y
 |0,L,y,hp,h=>⟨by rw[<-sP hp];exact h.1,h.2⟩
 |f+1,L,y,hp,h=>by
  unfold jx at h|-;rw[sP hp]at h;cases hr:eL D L with
  |nil=>rw[hr]at h;exact h
  |cons a r=>
   rw[hr]at h;refine qy λi hi=>?_;obtain⟨ins,h1,h2⟩:=oy h i hi;exact⟨ins,h1,TC.mono (λx hx=>ux f _ x (by simp[hp]) hx) h2⟩
def xg{l:List aU}{K:St->Prop}{b:List Nat}:∀{a:List Nat},RE P l K (a++b)=RE P l (RE P l K b) a
 |[]=>rfl
 |m::a=>by
  funext x;rw[List.cons_append,RE,RE,xg]
def oU{l:List aU}{Sp:List (List Nat)}{b:List Nat}:∀{a done:List Nat},fz l Sp done (a++b)=fz l Sp done a++fz l Sp (done++a) b
 |[],done=>by simp[fz]
 |e::a,done=>by
  rw[List.cons_append,fz,fz,oU];simp
def RE.mono{l:List aU}{K K':St->Prop}(hk:∀x,K x->K' x):∀{a:List Nat} {x:St},RE P l K a x->RE P l K' a x
 |[],x,h=>hk x h
 |m::a,x,h=>by
  rw[RE]at h|-;cases hm:l[m/2]? with
  |none=>rw[hm]at h;exact h.elim
  |some i=>
   rw[hm]at h;simp only at h|-;split at h<;>rename_i he
   .rw[aI he];exact TC.mono (λx hx=>RE.mono hk hx) h
   .rw[aK he];exact⟨h.1,RE.mono hk h.2⟩
structure FN(l:List aU)(D Sp:List (List Nat))(pre tail S:List Nat)(befs:Nat->List (List Nat)):Prop where
 e:EOkW l D Sp (pre++tail)
 Uw:∀a b x y,pre++tail=a++b->x∈a->y∈b->x∈pre->eu l Sp x=true->x∈fY Sp y
 sub:∀s∈S,s∈tail
 some:∃s,s∈S
 later:∀i∈tail,i∉S->∃s∈S,s∈fY Sp i
 agree:∀s∈S,∀i∈pre,eu l (befs s) i=eu l Sp i
section
variable {l:List aU} {D Sp:List (List Nat)} {pre tail S:List Nat} {befs:Nat->List (List Nat)} {K:St->Prop} {Ks:Nat->St->Prop} (hF:FN l D Sp pre tail S befs)
include hF
def kG.LP{L:List Nat}{y:St}:∀{rest done:List Nat} {x:St},kG P l D Sp pre K L y done rest x->
 ∃done' Zn x',kG P l D Sp pre K L y done' Zn x'/\∀h r,Zn=h::r->eu l Sp h=true
 |[],done,x,h=>⟨done,[],x,h,by simp⟩
 |e::rest,done,x,h=>by
  have hE:=hF.e;cases Vj:eu l Sp e with
  |true=>exact⟨done,e::rest,x,h,λa r he=>by cases he;exact Vj⟩
  |false=>
   have Wv:e<l.length:=hE.lt e (by rw[h.split];simp);obtain⟨hk,hself⟩:=iY Vj Wv (hE.ox Wv);have Th:=(List.nodup_append.1 hE.nodup).1;rw[h.split]at Th;have hed:e∉done:=λhm=>(List.nodup_append.1 Th).2.2 e hm e (by simp) rfl;have heL:e∉L:=λhm=>hed (h.sub e hm);have Uu:=h.go;rw[fz,Dx Wv,Eo,aK (by simp[Vj]),lS]at Uu;have hT:T P (bw l e) x (RE P l K (fz l Sp (done++[e]) rest)):=by
    rcases Uu with Uu|⟨_,Uu⟩
    .exact Uu
    .exfalso;revert Uu hk;generalize (bw l e).op=op;intro hk Uu;split at Uu
     .simp[bp]at hk
     .simp[bp]at hk
     .simp[bp]at hk
     .exact Uu
   obtain⟨v,hv,hgo'⟩:=(cL (by simp[gC,hk])).1 hT;refine kG.LP (rest:=rest) (done:=done++[e]) (x:=⟨bb x.s (bw l e).dst v,x.U⟩) ⟨by rw[h.split];simp,λi hi=>by simp[h.sub i hi],h.nodup,h.closed,λi hi Uv=>?_,h.store,λd hd=>?_,λi hi Wj=>?_,hgo'⟩
   .rcases gl.1 hi with hi|hi
    .exact h.Uw i hi Uv
    .simp only[kc]at hi;rw[hi,Vj]at Uv;cases Uv
   .have h1:=h.slot d λi hi Wj=>hd i (by simp[hi]) Wj;have h2:=hd e (by simp) heL;rw[h1];simp only;cases hde:(bw l e).dst with
    |none=>rfl
    |some d'=>
     rw[hde]at h2;simp only[bb];rw[aK (λe'=>h2 (by rw[e']))]
   .by_cases Uv:i=e
    .subst Uv;unfold QYd;cases hd:(bw l i).dst with
     |none=>exact⟨v,hv⟩
     |some d=>
      simp only;have e1:bb x.s (some d) v d=v:=by simp[bb]
      rw[e1];exact(gY (λt ht=>by cases ht;exact hself d hd)).2 hv
    .have L':i∈done:=by
      rcases gl.1 hi with hi|hi
      .exact hi
      .simp only[kc]at hi;exact absurd hi Uv
     have Uk:i<l.length:=hE.lt i (by rw[h.split];simp[L']);refine tu hE Uk Wv Uv (λd hd hu=>?_) (λv hv=>hv) (h.lag i L' Wj);rcases hE.anti i e Uk Wv Uv d hd hu with h1|⟨h1,_⟩
     .obtain⟨a,b,VT⟩:=List.append_of_mem L';have h2:=hE.nZ (a:=a) (j:=i) (b:=b++e::rest++tail) (by rw[h.split,VT];simp) e h1;exact hed (by rw[VT];simp[h2])
     .rw[Vj]at h1;cases h1
def Cd(hH:∀s∈S,∀(f:Nat) (L:List Nat) (y:St) (done rest:List Nat) (x:St),f+L.length=l.length->kG P l (ph D S s) (befs s) pre (Ks s) L y done rest x->jx P l (ph D S s) K f L y):
 ∀(f:Nat) (L:List Nat) (y:St) (done rest:List Nat) (x:St),f+L.length=l.length->(∀s∈S,s∉L)->kG P l D Sp pre (λx=>∀s∈S,Ks s x) L y done rest x->jx P l D K f L y:=by
 have hE:=hF.e;obtain⟨s0,TY⟩:=hF.some;have u':∀s∈S,s<l.length:=λs hs=>hE.lt s (by simp[hF.sub s hs]);have VS:∀s∈S,s∉pre:=λs hs hm=>(List.nodup_append.1 hE.nodup).2.2 s hm s (hF.sub s hs) rfl;intro f
 induction f with
 |zero=>
  intro L y done rest x hf hSL h;exact absurd ((tZ l.length L h.nodup λi hi=>hE.lt i (by rw[h.split];simp[h.sub i hi])).2 (by omega) s0 (u' s0 TY)) (hSL s0 TY)
 |succ f ih=>
  intro L y done rest x hf hSL h;obtain⟨done,rest,x,h,XW⟩:=kG.LP hF h;have Th:=(List.nodup_append.1 hE.nodup).1;rw[h.split]at Th;have hdp:∀i∈done,i∈pre:=λi hi=>by rw[h.split];simp[hi]
  have Tr:∀m∈L,∀d∈D.getD m [],d∈L:=h.closed;have hclS:∀s,∀m∈L,∀d∈(ph D S s).getD m [],d∈L:=λs m hm d hd=>by
   rw[AR (.inl λhs=>hSL m hs hm)]at hd;exact h.closed m hm d hd
  have take:rest=[]->∀s∈S,jx P l (ph D S s) K (f+1) L y:=λhr s hs=>by
   subst hr;have hdp':pre=done:=by rw[h.split];simp
   refine hH s hs (f+1) L y done [] x hf ⟨by rw[hdp'];simp,h.sub,h.nodup,hclS s,λi hi Uv=>h.Uw i hi (by rw[<-hF.agree s hs i (hdp i hi)];exact Uv),h.store,h.slot,h.lag,?_⟩;exact h.go s hs
  have key:uo P l (jx P l D K f) L y (eL D L):=by
   refine qy λi hi=>?_;have hi0:=hi;obtain⟨Uk,Wj,Zo⟩:=vg hi;rw[hE.dlen]at Uk;by_cases hiS:i∈S
   .have hm:i∈eL (ph D S i) L:=by
     unfold eL;refine xR.2 ⟨by rw[zh,hE.dlen];simpa using Uk,?_⟩;rw[AR (.inr rfl)];exact(xR.1 hi).2
    have Vb:rest=[]:=by
     cases hrr:rest with
     |nil=>rfl
     |cons a rr=>
      exfalso;have ha:=XW a rr hrr;have hapre:a∈pre:=by rw[h.split,hrr];simp
      have hb:a∈fY Sp i:=hF.Uw pre tail a i rfl hapre (hF.sub i hiS) hapre ha;obtain⟨pa,pb,hpe⟩:=List.append_of_mem (hE.mem i Uk);have haL:a∈L:=hE.closed Tr hE.mem (pa.length+1) pa i pb (by omega) hpe (λd hd=>Zo d hd) a hb;rw[hrr]at Th;exact(List.nodup_append.1 Th).2.2 a (h.sub a haL) a (by simp) rfl
    have h1:=take Vb i hiS;unfold jx at h1;cases hr:eL (ph D S i) L with
    |nil=>rw[hr]at hm;cases hm
    |cons a r=>
     rw[hr]at h1 hm;obtain⟨ins,g1,g2⟩:=oy h1 i hm;exact⟨ins,g1,TC.mono (λx hx=>ux f _ x (by simp) hx) g2⟩
   refine⟨bw l i,by simp[bw,V7 Uk],?_⟩;obtain⟨pa,pb,hpe⟩:=List.append_of_mem (hE.mem i Uk);have VA:∀j∈fY Sp i,j∈L:=hE.closed Tr hE.mem (pa.length+1) pa i pb (by omega) hpe Zo;have Zp:∀u∈(bw l i).l3,x.s u=y.s u:=λu hu=>(h.slot u λj hj WM hd=>by
    have U3:j<l.length:=hE.lt j (by simp[hdp j hj]);by_cases Ui:j=i
    .subst Ui;cases Up:eu l Sp j with
     |true=>exact WM (h.Uw j hj Up)
     |false=>exact(iY Up U3 (hE.ox U3)).2 u hd hu
    .rcases hE.anti i j Uk U3 (λe=>Ui e.symm) u hd hu with h1|⟨h1,_⟩
     .exact WM (VA j h1)
     .exact WM (h.Uw j hj h1)).symm
   by_cases L':i∈done
   .have Uv:eu l Sp i=false:=by
     cases Uv:eu l Sp i with
     |false=>rfl
     |true=>exact absurd (h.Uw i L' Uv) Wj
    obtain⟨hk,_⟩:=iY Uv Uk (hE.ox Uk);have hq:=h.lag i L' Wj;obtain⟨v,hv,hvd⟩:∃v,QY P (bw l i) x.s x.U v/\∀d,(bw l i).dst=some d->x.s d=v:=by
     unfold QYd at hq;cases hd:(bw l i).dst with
     |none=>rw[hd]at hq;obtain⟨v,hq⟩:=hq;exact⟨v,hq,by simp⟩
     |some d=>rw[hd]at hq;exact⟨_,hq,λd' e=>by cases e;rfl⟩
    refine .inl ((cL (by simp[gC,hk])).2 ⟨v,?_,?_⟩)
    .rw[h.store];exact zV Zp hv
    .refine ih (i::L) _ done rest x (by simp only[Uf];omega) (λs hs hm=>(ew.1 hm).elim (λe=>hiS (e▸hs)) (hSL s hs)) ⟨h.split,λj hj=>?_,List.nodup_cons.2 ⟨Wj,h.nodup⟩,λm hm d hd=>?_,λj hj Up=>by simp[h.Uw j hj Up],h.store,λd hd=>?_,λj hj WM=>h.lag j hj (λhm=>WM (by simp[hm])),h.go⟩
     .rcases ew.1 hj with rfl|hj
      .exact L'
      .exact h.sub j hj
     .rcases ew.1 hm with rfl|hm
      .simp[Zo d hd]
      .simp[h.closed m hm d hd]
     .simp only;by_cases hdi:(bw l i).dst=some d
      .rw[hdi];simp only[bb];rw[aI trivial];exact(hvd d hdi).symm
      .have h1:=h.slot d λj hj WM=>by
        by_cases Ui:j=i
        .rw[Ui];exact hdi
        .exact hd j hj (by simp[Ui,WM])
       rw[<-h1];cases hde:(bw l i).dst with
       |none=>rfl
       |some d'=>
        rw[hde]at hdi;simp only[bb];rw[aK (λe'=>hdi (by rw[e']))]
   .have hir:i∈rest++tail:=by
     have:=hE.mem i Uk;rw[h.split,mY]at this;exact(gl.1 this).resolve_left L'
    obtain⟨WN,rr,rfl⟩:∃a r,rest=a::r:=by
     cases rest with
     |nil=>
      exfalso;rw[lS]at hir;obtain⟨s,hs,hsb⟩:=hF.later i hir hiS;exact hSL s hs (VA _ hsb)
     |cons a r=>exact⟨a,r,rfl⟩
    have Vj:=XW WN rr rfl;have hh0:WN∉done:=λhm=>(List.nodup_append.1 Th).2.2 WN hm WN (by simp) rfl;have hih:i=WN:=by
     rcases ew.1 (show i∈WN::(rr++tail)from hir)with e|hir
     .exact e
     .exfalso;have:=hF.Uw (done++[WN]) (rr++tail) WN i (by rw[h.split];simp) (by simp) hir (by rw[h.split];simp) Vj;exact hh0 (h.sub _ (VA _ this))
    subst hih;have Uu:=h.go;rw[show fz l Sp done (i::rr)=2*i::(Eo l Sp done i++fz l Sp (done++[i]) rr)from rfl,Dx Uk]at Uu;refine Bj Zp h.store.symm (λr Z' hK=>?_) Uu;rw[Eo,aI Vj]at hK;obtain⟨hck,hgo'⟩:=tA (λk=>!(eu l Sp k)&&(!(lp (bw l k).op)&&!((fY Sp i).contains k))) (λj hj=>hE.lt j (by simp[hdp j hj])) hK;refine ih (i::L) _ (done++[i]) rr ⟨bb x.s (bw l i).dst r,Z'⟩ (by simp only[Uf];omega) (λs hs hm=>(ew.1 hm).elim (λe=>hiS (e▸hs)) (hSL s hs)) ⟨by rw[h.split];simp,λj hj=>?_,List.nodup_cons.2 ⟨Wj,h.nodup⟩,λm hm d hd=>?_,λj hj Up=>?_,rfl,λd hd=>?_,λj hj WM=>?_,hgo'⟩
    .rcases ew.1 hj with rfl|hj
     .simp
     .simp[h.sub j hj]
    .rcases ew.1 hm with rfl|hm
     .simp[Zo d hd]
     .simp[h.closed m hm d hd]
    .rcases gl.1 hj with hj|hj
     .simp[h.Uw j hj Up]
     .simp only[kc]at hj;simp[hj]
    .have h1:(bw l i).dst=some d\/y.s d=x.s d:=by
      by_cases hdi:(bw l i).dst=some d
      .exact .inl hdi
      .exact .inr (h.slot d λj hj WM=>hd j (by simp[hj]) (by
        simp only[ew,not_or];exact⟨λe=>L' (e▸hj),WM⟩))
     simp only;cases hde:(bw l i).dst with
     |none=>rw[hde]at h1;exact h1.resolve_left (by simp)
     |some d'=>
      simp only[bb];split
      .rfl
      .rename_i Sh;rw[hde]at h1;exact h1.resolve_left (λe=>Sh (by cases e;rfl))
    .have hjd:j∈done:=by
      rcases gl.1 hj with hj|hj
      .exact hj
      .simp only[kc]at hj;exact absurd (by simp[hj]) WM
     have Yr:j∉L:=λhm=>WM (by simp[hm]);have U3:j<l.length:=hE.lt j (by simp[hdp j hjd]);have Ui:j≠i:=λe=>L' (e▸hjd);have Up:eu l Sp j=false:=by
      cases Up:eu l Sp j with
      |false=>rfl
      |true=>exact absurd (h.Uw j hjd Up) Yr
     cases hsf:lp (bw l j).op with
     |true=>
      refine tu hE U3 Uk Ui (λd hd hu=>?_) (λv hv=>kP hsf hv) (h.lag j hjd Yr);rcases hE.anti j i U3 Uk Ui d hd hu with h1|⟨_,h1⟩
      .obtain⟨a,b,VT⟩:=List.append_of_mem hjd;have h2:=hE.nZ (a:=a) (j:=j) (b:=b++i::rr++tail) (by rw[h.split,VT];simp) i h1;exact L' (by rw[VT];simp[h2])
      .exact Yr (VA j h1)
     |false=>
      refine hck j hjd ?_;simp only[Up,hsf,Bool.not_false,Bool.true_and,Bool.not_eq_true'];cases hc:(fY Sp i).contains j with
      |false=>rfl
      |true=>exact absurd (VA j (List.contains_iff_mem.1 hc)) Yr
  cases hr:eL D L with
  |cons a r=>unfold jx;rw[hr]at key|-;exact key
  |nil=>
   exfalso;have first:∀(a b:List Nat),pre++tail=a++b->(∀j∈a,j∈L)->(∃i∈b,i∉L)->∃a' e b',pre++tail=a'++e::b'/\(∀j∈a',j∈L)/\e∉L:=by
    intro a b
    induction b generalizing a with
    |nil=>rintro _ _ ⟨i,h,_⟩;cases h
    |cons e b ihb=>
     intro he ha hx;by_cases heL:e∈L
     .refine ihb (a++[e]) (by rw[he];simp) (λj hj=>?_) ?_
      .rcases gl.1 hj with hj|hj
       .exact ha j hj
       .simp only[kc]at hj;rw[hj];exact heL
      .obtain⟨i,hi,Wj⟩:=hx;rcases ew.1 hi with rfl|hi
       .exact absurd heL Wj
       .exact⟨i,hi,Wj⟩
     .exact⟨a,e,b,he,ha,heL⟩
   obtain⟨a,e,b,he,ha,heL⟩:=first [] (pre++tail) rfl (by simp) ⟨s0,by simp[hF.sub s0 TY],hSL s0 TY⟩
   have Wv:e<l.length:=hE.lt e (by rw[he];simp);have:e∈eL D L:=by
    unfold eL;refine xR.2 ⟨by simp[hE.dlen,Wv],?_⟩;simp only[Ba,Bool.not_eq_true',gj];exact⟨by simpa using heL,λd hd=>List.contains_iff_mem.2 (ha d (hE.ahead a e b he d hd))⟩
   rw[hr]at this;cases this
end
inductive PT where
 |leaf (Sp:List (List Nat)) (r:List Nat)
 |fork (Sp:List (List Nat)) (m:List Nat) (S:List Nat) (kids:List PT)
def PT.Sp:PT->List (List Nat)
 |.leaf b _=>b
 |.fork b _ _ _=>b
def PT.ord:Nat->PT->List Nat
 |0,_=>[]
 |f+1,t=>match t with
  |.leaf _ r=>r
  |.fork _ m _ kids=>m++(match kids with
   |k::_=>PT.ord f k
   |[]=>[])
def CR(g:Nat->PT->Bool):List Nat->List PT->Bool
 |[],[]=>true
 |s::ss,t::ts=>g s t&&CR g ss ts
 |_,_=>false
def vv{g:Nat->PT->Bool}:∀{S:List Nat} {ts:List PT},CR g S ts=true->∀s∈S,∃t∈ts,g s t=true
 |[],[],_,s,hs=>by cases hs
 |a::S,t::ts,h,s,hs=>by
  simp only[CR,Ba]at h;rcases ew.1 hs with rfl|hs
  .exact⟨t,by simp,h.1⟩
  .obtain⟨t',h1,h2⟩:=vv h.2 s hs;exact⟨t',by simp[h1],h2⟩
def J1(l:List aU)(D Sp:List (List Nat))(pre tail S:List Nat):Bool:=
 Ih l D Sp (pre++tail)&&(nN (λa b=>!(pre.contains a)||(!(eu l Sp a)||(fY Sp b).contains a)) (pre++tail)&&
 (S.all tail.contains&&(!S.isEmpty&&tail.all λi=>S.contains i||S.any λs=>(fY Sp i).contains s)))
def GO(l:List aU):Nat->List (List Nat)->List Nat->PT->Bool
 |0,_,_,_=>false
 |f+1,D,pre,t=>match t with
  |.leaf Sp r=>eOk l D Sp (pre++r)
  |.fork Sp m S kids=>J1 l D Sp (pre++m) (match kids with
    |k::_=>PT.ord f k
    |[]=>[]) S&&CR (λs k=>((pre++m).all λi=>eu l k.Sp i==eu l Sp i)&&GO l f (ph D S s) (pre++m) k) S kids
def GT(P:Program)(l:List aU)(K:St->Prop):Nat->List Nat->PT->St->Prop
 |0,_,_,_=>False
 |f+1,pre,t,x=>match t with
  |.leaf Sp r=>RE P l K (fz l Sp pre r) x
  |.fork Sp m _ kids=>RE P l (λx=>∀k∈kids,GT P l K f (pre++m) k x) (fz l Sp pre m) x
def kG.more{l:List aU}{D Sp:List (List Nat)}{pre m:List Nat}{K:St->Prop}{L:List Nat}{y:St}{done rest:List Nat}{x:St}(h:kG P l D Sp pre (RE P l K (fz l Sp pre m)) L y done rest x):
 kG P l D Sp (pre++m) K L y done (rest++m) x:=by
 refine⟨by rw[h.split];simp,h.sub,h.nodup,h.closed,h.Uw,h.store,h.slot,h.lag,?_⟩;rw[oU,xg,<-h.split];exact h.go
def kG.mono{l:List aU}{D Sp:List (List Nat)}{pre:List Nat}{K K':St->Prop}(hk:∀x,K x->K' x){L:List Nat}{y:St}{done rest:List Nat}{x:St}(h:kG P l D Sp pre K L y done rest x):
 kG P l D Sp pre K' L y done rest x:=⟨h.split,h.sub,h.nodup,h.closed,h.Uw,h.store,h.slot,h.lag,RE.mono hk h.go⟩
def De{l:List aU}{K:St->Prop}:∀(fu:Nat) (D:List (List Nat)) (pre:List Nat) (t:PT),GO l fu D pre t=true->∀(f:Nat) (L:List Nat) (y:St) (done rest:List Nat) (x:St),f+L.length=l.length->
 (∀i∈L,i∈pre)->kG P l D t.Sp pre (GT P l K fu pre t) L y done rest x->jx P l D K f L y
 |0,_,_,_,h,_,_,_,_,_,_,_,_,_=>by cases h
 |fu+1,D,pre,t,h,f,L,y,done,rest,x,hf,hLp,hl=>by
  cases t with
  |leaf Sp r=>exact qt (Bf h) f L y done (rest++r) x hf (kG.more hl)
  |fork Sp m S kids=>
   simp only[GO,Ba]at h;obtain⟨h1,h2⟩:=h;generalize (match kids with
    |k::_=>PT.ord fu k
    |[]=>[])=tail at h1
   simp only[J1,Ba]at h1;obtain⟨g1,g2,g3,g4,g5⟩:=h1;have hk:=vv h2;have hW:=xz g1;have hF:∀kid:Nat->PT,(∀s∈S,((pre++m).all λi=>eu l (kid s).Sp i==eu l Sp i)=true)->FN l D Sp (pre++m) tail S (λs=>(kid s).Sp):=λkid XE=>by
    refine⟨hW,λa b u v he hu hv hup hue=>?_,λs hs=>by simpa using gj.1 g3 s hs,?_,λi hi hiS=>?_,λs hs i hi=>by simpa using gj.1 (XE s hs) i hi⟩
    .rw[he]at g2;have:=nB g2 hu hv;simp only[kI,Bool.not_eq_true',List.contains_iff_mem,hue,Bool.true_eq_false,false_or]at this;rcases this with h|h
     .have hc:(pre++m).contains u=true:=List.contains_iff_mem.2 hup;rw[hc]at h;cases h
     .exact h
    .cases S with
     |nil=>simp at g4
     |cons s S=>exact⟨s,by simp⟩
    .have:=gj.1 g5 i hi;simp only[kI,List.contains_iff_mem,KL]at this;exact this.resolve_left hiS
   have hch:∀s,∃k:PT,s∈S->(k∈kids/\(((pre++m).all λi=>eu l k.Sp i==eu l Sp i)=true/\GO l fu (ph D S s) (pre++m) k=true)):=λs=>by
    by_cases hs:s∈S
    .obtain⟨k,h3,h4⟩:=hk s hs;simp only[Ba]at h4;exact⟨k,λ_=>⟨h3,h4⟩⟩
    .exact⟨.leaf [] [],λh=>absurd h hs⟩
   obtain⟨kid,XE⟩:=Classical.axiomOfChoice hch;have hFN:=hF kid λs hs=>(XE s hs).2.1;have hSpre:∀s∈S,s∉pre++m:=λs hs hm=>(List.nodup_append.1 hW.nodup).2.2 s hm s (hFN.sub s hs) rfl;refine Cd (Ks:=λs=>GT P l K fu (pre++m) (kid s)) hFN (λs hs f L y done rest x hf hl=>?_) f L y done (rest++m) x hf (λs hs hm=>hSpre s hs (List.mem_append_left _ (hLp s hm))) ?_
   .refine De fu _ _ _ (XE s hs).2.2 f L y done rest x hf (λi hi=>?_) hl;have:=hl.sub i hi;rw[hl.split];simp[this]
   .exact kG.mono (λx hx s hs=>hx (kid s) (XE s hs).1) (kG.more hl)
def ay.tW(hm:P.follows .mixedOrders=true){l:List aU}{Sv:List (List Nat)}(fu:Nat)(t:PT)(hB:GO l fu Sv [] t=true)(h:GT P l (λx=>ay P n k x Q) fu [] t st):ay P n (.code (.WY l Sv)::k) st Q:=by
 refine ay.JH hm (De fu Sv [] t hB l.length [] st [] [] st (by simp) (by simp) ⟨rfl,by simp,List.nodup_nil,by simp,by simp,rfl,λ_ _=>rfl,by simp,?_⟩);exact h
variable {P:Program} {l:List aU} {K:St->Prop} {f:Nat} {pre m S r its:List Nat} {Sp:List (List Nat)} {a b c:PT} {x:St}
def GT.gN(h:fz l Sp pre r=its)(hg:RE P l K its x):GT P l K (f+1) pre (.leaf Sp r) x:=by subst h;exact hg
def GT.oY(h:fz l Sp pre m=its)(hg:RE P l (λx=>GT P l K f (pre++m) a x/\GT P l K f (pre++m) b x) its x):GT P l K (f+1) pre (.fork Sp m S [a,b]) x:=by
 subst h;refine RE.mono (λx hx k hk=>?_) hg;simp only[ew,List.not_mem_nil,or_false]at hk;rcases hk with rfl|rfl
 .exact hx.1
 .exact hx.2
def GT.NM(h:fz l Sp pre m=its)(hg:RE P l (λx=>GT P l K f (pre++m) a x/\GT P l K f (pre++m) b x/\GT P l K f (pre++m) c x) its x):GT P l K (f+1) pre (.fork Sp m S [a,b,c]) x:=by
 subst h;refine RE.mono (λx hx k hk=>?_) hg;simp only[ew,List.not_mem_nil,or_false]at hk;rcases hk with rfl|rfl|rfl
 .exact hx.1
 .exact hx.2.1
 .exact hx.2.2
open Go.Proofs
def mZ(fs:List Si)(y:Int):Int:=if(cF ln fs).2 then max y (cF ln fs).1 else y
def j4(fs:List Si)(f:Si)(y:Int)(s:SK):Int:=qw fs f.w f.h s (mZ fs y)
def me(fs:List Si)(f:Si)(y:Int)(s:SK):Int:=
 let b:=bP fs (j4 fs f y s) f.h s
 if f.side=1 then b.a else max b.a (b.b-f.w)
def iS(fs:List Si)(f:Si)(y:Int)(s:SK):Si:={ f with x:=me fs f y s,y:=j4 fs f y s }
def nL(fs:List Si)(f:Si)(y:Int)(s:SK):List Si:=fs++[iS fs f y s]
def CS{fs:List Si}{y:Int}(Se:∀f∈fs,f.ok)(hy:Tj y):Tj (mZ fs y):=by
 unfold mZ;split
 .rename_i h;obtain⟨f,hf,h1,_⟩:=kT h;obtain⟨_,⟨h3,h4⟩,_⟩:=Se f hf;obtain⟨g1,g2⟩:=hy;rw[h1];simp only[ln];exact⟨by omega,by omega⟩
 .exact hy
def Lb(fs:List Si)(f:Si)(y:Int)(s:SK)(hl:fs.length<=1000000)(Se:∀f∈fs,f.ok)(hy:Tj y)(hh:Bq f.h)(hw:Bq f.w)(TJ:Tj s.a/\Tj s.b):
 aX prog 208 [bj fs,br f,vI y,aY s] (.Sa [vI (me fs f y s),vI (j4 fs f y s)]):=λU=>by
 refine RR.q ?_;have hs:=aa.refl U;refine mS 14 ?_;simp only[go_sem,seval,N7,br,aY];refine aE hs λi5 Z5 s5 a5 f5 z5 hs=>?_;simp only[go_sem,seval,a5];refine aE hs λi7 Z7 s7 a7 f7 z7 hs=>?_;obtain⟨n57,a5⟩:=RZ a5 f7 s7;simp only[go_sem,seval,a7,a5];refine pR rfl (NG fs hl Se _) ?_;have VQ:=CS (y:=y) Se hy;have hdn:=Jt fs f (mZ fs y) s hl Se VQ hh TJ;have Wx:=je (y:=j4 fs f y s) (high:=f.h) Se TJ;obtain⟨z,hz⟩:∃z,z=j4 fs f y s:=⟨_,rfl⟩
 have hz2:qw fs f.w f.h s (mZ fs y)=z:=hz.symm;rw[hz2]at hdn;rw[<-hz]at Wx;obtain⟨b,hb⟩:∃b,b=bP fs z f.h s:=⟨_,rfl⟩
 have hx:me fs f y s=if f.side=1 then b.a else max b.a (b.b-f.w):=by unfold me;rw[<-hz,<-hb]
 rw[<-hz,hx];rw[<-hb]at hdn Wx;obtain⟨Vs,SF,hb3,hb4⟩:-2305843009213693952<=b.a/\b.a<=2305843009213693952/\-2305843009213693952<=b.b/\b.b<=2305843009213693952:=⟨Wx.1.1,Wx.1.2,Wx.2.1,Wx.2.2⟩
 obtain⟨hw1,Vp⟩:=hw;cases ht:(cF ln fs).2
 .have hty2:mZ fs y=y:=by unfold mZ;rw[ht];rfl
  rw[hty2]at hdn;apply sR;simp only[go_sem,seval,a7,a5,av,au];refine pS rfl (hdn _) ?_;simp only[go_sem,seval,a7,a5,aY];refine aE hs λi12 Y12 XX a12 f12 z12 hs=>?_;obtain⟨n512,a5⟩:=RZ a5 f12 XX;obtain⟨n712,a7⟩:=RZ a7 f12 XX;by_cases U9:f.side=1
  .have q:(f.side=1)=True:=RX U9;rw[aI U9];simp only[go_sem,seval,a12,a7,a5,q,ad n512,ad n712];exact aD.pure (hs.aL z12) rfl
  .have q:(f.side=1)=False:=H' U9;rw[aK U9];have r1:Sn .i64 (b.b-f.w):=ar;simp only[go_sem,seval,a12,a7,a5,q,r1,cj,ad n512,ad n712];exact aD.pure (hs.aL z12) rfl
 .have hty2:mZ fs y=max y (cF ln fs).1:=by unfold mZ;rw[ht];rfl
  rw[hty2]at hdn;apply sR;simp only[go_sem,seval,a7,a5,av,au,cj];refine pS rfl (hdn _) ?_;simp only[go_sem,seval,a7,a5,aY];refine aE hs λi12 Y12 XX a12 f12 z12 hs=>?_;obtain⟨n512,a5⟩:=RZ a5 f12 XX;obtain⟨n712,a7⟩:=RZ a7 f12 XX;by_cases U9:f.side=1
  .have q:(f.side=1)=True:=RX U9;rw[aI U9];simp only[go_sem,seval,a12,a7,a5,q,ad n512,ad n712];exact aD.pure (hs.aL z12) rfl
  .have q:(f.side=1)=False:=H' U9;rw[aK U9];have r1:Sn .i64 (b.b-f.w):=ar;simp only[go_sem,seval,a12,a7,a5,q,r1,cj,ad n512,ad n712];exact aD.pure (hs.aL z12) rfl
open Go.Proofs
def R7(l:List Nd)(i:Nat):Int:=((l[i]?).map Nd.size).getD 0
def WX(l:List Nd)(i:Nat):Int:=((l[i]?).map Nd.kind).getD 0
def ng(l:List Nd)(a:Int):Bool:=decide (0<=a)&&decide (a<l.length)
def ct(l:List Nd)(a b:Int):Bool:=ng l a&&(ng l b&&(decide (b>=a)&&decide (b-a<R7 l a.toNat)))
def dL(l:List Nd)(a:Nat):Nat->List Int
 |0=>[]
 |k+1=>if ct l k a then(k:Int)::dL l a k else dL l a k
def l8(l:List Nd)(a:Nat):Nat->Int
 |0=>-1
 |k+1=>if ct l k a then(k:Int)else l8 l a k
def dq(l:List Nd)(a:Nat):Int:=l8 l a a
def jY{l:List Nd}{a:Int}:ng l a=true↔0<=a/\a<l.length:=by simp[ng]
def ix{l:List Nd}{i:Nat}(h:i<l.length):R7 l i=l[i].size:=by simp[R7,h]
def KK{l:List Nd}{i:Nat}(h:i<l.length):WX l i=l[i].kind:=by simp[WX,h]
def vD{l:List Nd}(h:SA l=true){i:Nat}(hi:i<l.length):1<=l[i].size/\l[i].size<=(l.length:Int)-i/\(l[i].kind=1\/l[i].size<=1):=by
 simp only[SA,Ba]at h;exact iQ l (l.length+1) 0 l.length (by omega) (SD _) h.2 i (by omega) hi hi
def xN{U:al}{l:List Nd}{a:Int}(h0:0<=a)(h:a.toNat<l.length):bI U 20 (aQ l) (.int .i64 a)=some (.rp (.agg (Nd.cells l[a.toNat]))):=by
 simp[aQ,bI,h0,h,ie]
def Ci(l:List Nd)(a:Int):aX prog 219 [aQ l,vI a] (.bool (ng l a)):=λU=>by
 refine PY.q ?_;refine mS 6 ?_;simp only[go_sem,seval,aH,aJ,OA,bT];refine And.intro (λh=>?_) (λh=>?_)
 .refine aD.same ?_;simp[ng];omega
 .refine aD.same ?_;simp[ng];omega
def Dc(l:List Nd)(hl:l.length<=1000000000)(a b:Int):aX prog 220 [aQ l,vI a,vI b] (.bool (ct l a b)):=λU=>by
 refine Pq.q ?_;refine mS 8 ?_;simp only[go_sem,seval,aH,aJ,Ou];refine pR rfl (Ci l a _) ?_;cases ha:ng l a
 .apply sR;simp only[go_sem,seval,aH,aJ,ha];refine aD.same ?_;simp[ct,ha]
 .apply sR;simp only[go_sem,seval,aH,aJ,ha];refine pR rfl (Ci l b _) ?_;cases hb:ng l b
  .apply sR;simp only[go_sem,seval,aH,aJ,hb];refine aD.same ?_;simp[ct,ha,hb]
  .rw[jY]at ha hb;have u':a.toNat<l.length:=by omega
   apply sR;simp only[go_sem,seval,aH,aJ,hb,xN ha.1 u',Nd.cells];refine And.intro (λh=>⟨ar,?_⟩) (λh=>?_)
   .refine aD.same ?_;have ha':=jY.2 ha;have UY:=jY.2 hb;simp[ct,ha',UY,ix u'];omega
   .refine aD.same ?_;have ha':=jY.2 ha;have UY:=jY.2 hb;simp[ct,ha',UY,ix u'];omega
def I8(l:List Nd)(hl:l.length<=1000000000)(a:Nat)(ha:a<l.length):aX prog 193 [aQ l,vI a] (aZ (dL l a a)):=λU=>by
 refine Rv.q ?_;refine mS 7 ?_;simp only[go_sem,seval,aH,aJ,Om];refine⟨ar,?_⟩;refine ay.loop (λm st=>∃(k:Nat) (out:List Int),k<=a/\m=k/\dL l a a=out++dL l a k/\out.length<=a-k/\aa U st.U/\aP U st.U 3 1 (st.s 5) (out.map vI)/\st.s 0=aQ l/\st.s 1=vI a/\st.s 6=vI ((k:Int)-1)) a ?_ ?_
 .exact⟨a,[],by omega,rfl,rfl,by simp,aa.refl U,aP.start,rfl,rfl,rfl⟩
 .rintro m ⟨s,Z'⟩ ⟨k,out,hk,rfl,heq,hlen,G',Sq,h0,h1,h6⟩;simp only at G' Sq h0 h1 h6;refine mS 7 ?_;simp only[go_sem,seval,aH,aJ,h0,h1,h6];refine And.intro (λh=>?_) (λh=>?_)
  .obtain⟨k,rfl⟩:∃j,m=j+1:=⟨m-1,by omega⟩
   refine pR rfl (Ci l a _) ?_;have hha:ng l a=true:=jY.2 ⟨by omega,by omega⟩;have e1:((k+1:Nat):Int)-1=k:=by omega
   apply sR;simp only[go_sem,seval,aH,aJ,hha,h0,h1,h6,e1];refine pR rfl (Dc l hl k a _) ?_;cases hh:ct l k a
   .apply sR;simp only[go_sem,seval,aH,aJ,hh,h0,h1,h6,e1];refine⟨ar,_,?_,k,out,by omega,rfl,?_,by omega,G',Sq,rfl⟩
    .omega
    .rw[heq,dL,hh];rfl
   .apply sR;simp only[go_sem,seval,hh,h0,h1,h6,e1];refine aF λVY Z1 s1 a1 f1=>?_;obtain⟨idA,hd,Sd⟩:=Sq.dst s1;have hb:out.length+1<=a:=by omega
    have SF:(out.length+1)*9<=140737488355328:=by omega
    simp only[go_sem,seval,hd,bR a1,dO,SF,h0,h1,h6,e1];refine bn λXu Z2 s2 a2 f2=>?_;simp only[go_sem,seval,h0,h1,h6,e1];have U2:=(Sd U (aa.refl U) Z1 (G'.trans s1)).trans s2;refine⟨ar,_,?_,k,out++[(k:Int)],by omega,rfl,?_,by simp;omega,U2,?_,rfl⟩
    .omega
    .rw[heq,dL,hh];simp
    .exact aP.new (by simp) (by rw[a2];simp) ((G'.trans s1).none f2)
  .have Wh:m=0:=by omega
   subst Wh;refine Sq.nG G' ?_;rw[heq,dL];simp[aZ]
def sY(l:List Nd)(a:Nat):∀k,(dL l a k).length=0/\l8 l a k=-1\/∃x r,dL l a k=x::r/\l8 l a k=x
 |0=>.inl ⟨rfl,rfl⟩
 |k+1=>by
  rw[dL,l8];split
  .exact .inr ⟨_,_,rfl,rfl⟩
  .exact sY l a k
def uV(l:List Nd)(a:Nat):∀k,-1<=l8 l a k/\l8 l a k<k
 |0=>by simp[l8]
 |k+1=>by
  rw[l8];split
  .omega
  .have:=uV l a k;omega
def Bo(l:List Nd)(hl:l.length<=1000000000)(a:Nat)(ha:a<l.length):aX prog 159 [aQ l,vI a] (vI (dq l a)):=λU=>by
 refine Qx.q ?_;refine mS 6 ?_;simp only[go_sem,seval,aH,aJ,OK];refine pR rfl (I8 l hl a ha _) ?_;have hh:=sY l a a;apply sR;simp only[go_sem,seval,aH,aJ,cK];refine And.intro (λh=>?_) (λh=>?_)
 .refine aD.same ?_;rcases hh with⟨_,h2⟩|⟨x,r,h1,h2⟩
  .rw[dq,h2]
  .rw[h1]at h;simp at h;omega
 .rcases hh with⟨h1,h2⟩|⟨x,r,h1,h2⟩
  .exact absurd (by omega) h
  .have u':0<(dL l a a).length:=by rw[h1];simp
   have h3:=uq (U:=U) u';have h4:(dL l a a)[0]=x:=by simp[h1]
   rw[h4,Int.natCast_zero]at h3;simp only[go_sem,seval,aH,aJ,h3];refine aD.same ?_;rw[dq,h2]
open Go.Proofs
def yP(U:al)(l:List Int):cy U 1 (aZ l)=some (l.map vI):=by simp[aZ,cy]
def qO{l:List Nd}(hb:SA l=true){i:Nat}(h:i<l.length):1<=R7 l i/\R7 l i<=l.length:=by
 rw[ix h];have:=vD hb h;omega
open Go.Proofs
def nW(l:List Nd):∀(m a e:Nat),e-a<m->e<=l.length->bE l a e=true->∀k,a<=k->(h:k<e)->(h2:k<l.length)->bE l (k+1) (k+l[k].size.toNat)=true
 |0,_,_,h,_,_=>by omega
 |m+1,a,e,hm,he,hr=>by
  intro k hk hke h2;have W9:a<e:=by omega
  have ha:a<l.length:=by omega
  rw[bE,dif_pos W9]at hr;have hga:l[a]?=some l[a]:=by simp[ha]
  rw[hga]at hr;simp only at hr;split at hr
  .rename_i hx;simp only[Ba]at hr;obtain⟨⟨h3,h4⟩,h5⟩:=hr;by_cases hka:k=a
   .subst hka;exact h4
   .by_cases W6:k<a+l[a].size.toNat
    .exact nW l m (a+1) (a+l[a].size.toNat) (by omega) (by omega) h4 k (by omega) W6 h2
    .exact nW l m (a+l[a].size.toNat) e (by omega) he h5 k (by omega) hke h2
  .cases hr
def SR(x:Nd):Int:=if x.kind=1 then x.st.top+x.st.Sk+x.st.R5+x.st.O'+x.st.head else if x.kind=2 then x.line*x.words.length else x.h
def pof(x:Nd):Int:=if x.kind=1 then 0 else if x.kind=2 then x.words.length else 1
def fI:List Nd->Int
 |[]=>0
 |x::l=>SR x+fI l
def lK:List Nd->Int
 |[]=>0
 |x::l=>pof x+lK l
def zk(a b:List Nd):fI (a++b)=fI a+fI b:=by
 induction a with
 |nil=>simp[fI]
 |cons x a ih=>simp only[List.cons_append,fI,ih];omega
def Ay(a b:List Nd):lK (a++b)=lK a+lK b:=by
 induction a with
 |nil=>simp[lK]
 |cons x a ih=>simp only[List.cons_append,lK,ih];omega
def vO{x:Nd}(h:x.ok=true):0<=SR x:=by
 obtain⟨p1,p2,p3,p4,p5,p6⟩:=jO h;unfold SR;split
 .rename_i hk;obtain⟨q1,q2,q3,q4,q5⟩:=p6 hk;omega
 .split
  .exact Int.mul_nonneg p2 (by omega)
  .exact p4
def A0{l:List Nd}(h:l.all Nd.ok=true):0<=fI l:=by
 induction l with
 |nil=>simp[fI]
 |cons x l ih=>
  simp only[yD,Ba]at h;have:=vO h.1;have:=ih h.2;simp only[fI];omega
def dm(l:List Nd):Nat->Int
 |0=>0
 |i+1=>match l[i]? with
  |some x=>if x.kind=1 then max (dm l i) (fE l i (i+1))else dm l i
  |none=>dm l i
def Gc{l:List Nd}{i:Nat}{x:Nd}{s:Sm}(hx:x.ok=true)(hs:0<=s.M'/\s.M'<=1099511627777):(my l i x s).M'=min (s.M'+SR x) 1099511627777/\(my l i x s).pieces=s.pieces+pof x/\
 (my l i x s).depth=(if x.kind=1 then max s.depth (fE l i (i+1))else s.depth)/\(my l i x s).nodes=s.nodes:=by
 obtain⟨p1,p2,p3,p4,p5,p6⟩:=jO hx;unfold my SR pof;by_cases hk:x.kind=1
 .obtain⟨q1,q2,q3,q4,q5⟩:=p6 hk;simp only[hk,if_true,jz];refine⟨by omega,by omega,trivial,trivial⟩
 .by_cases TK:x.kind=2
  .rw[aK hk,aI TK,aK hk,aI TK,aK hk,aI TK,aK hk];simp only[];refine⟨tC hs p2 _,trivial,trivial,trivial⟩
  .rw[aK hk,aK TK,aK hk,aK TK,aK hk,aK TK,aK hk];exact⟨rfl,rfl,rfl,rfl⟩
def vz(l:List Nd)(Se:l.all Nd.ok=true):∀i,i<=l.length->(gd l ⟨0,0,l.length,0⟩ i)=⟨dm l i,lK (l.take i),l.length,min (fI (l.take i)) 1099511627777⟩
 |0,_=>by simp[gd,dm,lK,fI];omega
 |i+1,hi=>by
  have ih:=vz l Se i (by omega);have hg:l[i]?=some l[i]:=by simp[show i<l.length by omega]
  have hx:=gj.1 Se _ (SU (show i<l.length by omega));have ht:l.take (i+1)=l.take i++[l[i]]:=Vn (by omega);have hn:0<=fI (l.take i):=A0 (gj.2 λx hx=>gj.1 Se x (ym hx));have hh:=vO hx;simp only[gd,hg,ih];obtain⟨g1,g2,g3,g4⟩:=Gc (l:=l) (i:=i) (s:=⟨dm l i,lK (l.take i),l.length,min (fI (l.take i)) 1099511627777⟩) hx ⟨by simp only;omega,by simp only;omega⟩;generalize my l i l[i] ⟨dm l i,lK (l.take i),l.length,min (fI (l.take i)) 1099511627777⟩=r at*;obtain⟨r1,r2,r3,r4⟩:=r;simp only at g1 g2 g3 g4;subst g1 g2 g3 g4;simp only[dm,hg,ht,Ay,zk,lK,fI,Sm.mk.injEq,Int.add_zero,true_and];omega
open Go.Proofs
def V.flat:V->Bool
 |.agg vs=>vs.all V.lone
 |v=>v.lone
def V.Dl:V->Bool
 |.Sa vs=>vs.all V.flat
 |v=>v.flat
def aB.lone{I Y':Mu}{ow T1:Nat->Prop}{w w':World}:∀{vs:List V} {l:List Value},vs.all V.lone=true->aB I ow w vs l->aB Y' T1 w' vs l
 |[],l,_,h=>by simpa[aB]using h
 |v::vs,l,hv,h=>by
  simp only[yD,Ba]at hv;simp only[aB]at h|-;obtain⟨x,xs,rfl,h1,h2⟩:=h;exact⟨x,xs,rfl,E'.lone hv.1 h1,aB.lone hv.2 h2⟩
def E'.flat{I Y':Mu}{ow T1:Nat->Prop}{w w':World}{v:V}{x:Value}(hv:v.flat=true)(h:E' I ow w v x):E' Y' T1 w' v x:=by
 cases v<;>try exact E'.lone hv h
 rename_i vs;simp only[E']at h|-;obtain⟨R6,rfl,h1,h2⟩:=h;exact⟨R6,rfl,aB.lone hv h1,h2⟩
def aB.flat{I Y':Mu}{ow T1:Nat->Prop}{w w':World}:∀{vs:List V} {l:List Value},vs.all V.flat=true->aB I ow w vs l->aB Y' T1 w' vs l
 |[],l,_,h=>by simpa[aB]using h
 |v::vs,l,hv,h=>by
  simp only[yD,Ba]at hv;simp only[aB]at h|-;obtain⟨x,xs,rfl,h1,h2⟩:=h;exact⟨x,xs,rfl,E'.flat hv.1 h1,aB.flat hv.2 h2⟩
def E'.Dl{I Y':Mu}{ow T1:Nat->Prop}{w w':World}{v:V}{x:Value}(hv:v.Dl=true)(h:E' I ow w v x):E' Y' T1 w' v x:=by
 cases v<;>try exact E'.flat hv h
 rename_i vs;simp only[E']at h|-;obtain⟨R6,rfl,h1⟩:=h;exact⟨R6,rfl,aB.flat hv h1⟩
def aX.tf{P:Program}{f:FuncId}{args args':List V}{v:V}{U:al}(hw:Zb U iK args args')(h:aX P f args' v)(hv:v.Dl=true):
 aG P f args U λr Z'=>r=v/\Z'=U:=by
 refine⟨(h iK).1,?_⟩;intro I w R6 hs hr;have TY:Sat w (aO I iK) I iK w:=by
  have:=hs.drop (jU U);exact⟨SD _,rfl,rfl,rfl,λ_ _ _=>rfl,this.fin,this.inj,this.obj,λb hb _=>hb,this.ns⟩
 refine((h iK).2 I w R6 TY (Zb.all hs hw hr)).mono ?_;rintro e w' ⟨r,Z',Y',val,rfl,⟨rfl,rfl⟩,hle,Sj,TV⟩;have Sw:∀b,¬aO I iK b:=λb ⟨_,_,_,_,h,_⟩=>by simp[iK]at h
 have TR:∀b,b<w.heap.size->w'.heap[b]?=w.heap[b]?:=λb hb=>Sj.same b hb (Sw b);have TQ:∀id o,U id=some o->Y' id=I id:=λid o ho=>hle id (λe=>by
  have:=hs.obj id o ho;rw[e]at this;exact this)
 have Ze:∀b,aO Y' U b->aO I U b:=λb ⟨id,o,sz,cap,h1,h2⟩=>⟨id,o,sz,cap,h1,TQ id o h1▸h2⟩
 have hk:dB (aO I U) (aO Y' U) w w':=λb hb hn=>⟨λho=>hn (Ze b ho),TR b hb⟩
 refine⟨_,U,Y',val,rfl,⟨rfl,rfl⟩,hle,?_,E'.Dl hv TV⟩;refine⟨Sj.size,Sj.os,Sj.tape,Sj.output,λb hb _=>TR b hb,Sj.fin,?_,?_,λb hb _=>Ze b hb,hs.Va⟩
 .intro id UA o o' b sz cap UP Tz h1 h2 h3 h4;exact hs.inj id UA o o' b sz cap UP Tz h1 h2 (TQ id o h1▸h3) (TQ UA o' h2▸h4)
 .intro id o ho;rw[TQ id o ho];refine(hs.obj id o ho).mono hle hk Sj.size λb sz cap hp=>TR b ?_;exact aO.lt hs ⟨id,o,sz,cap,ho,hp⟩
open Go.Proofs
def cc{l:List Nd}{a e:Nat}(he:e<=l.length)(h:bE l a e=true){k:Nat}(h1:a<=k)(h2:k<e):(k:Int)+R7 l k<=e/\1<=R7 l k:=by
 have:=iQ l (e-a+1) a e (by omega) he h k h1 h2 (by omega);rw[ix (by omega)];omega
def cQ{l:List Nd}{a e:Nat}(he:e<=l.length)(h:bE l a e=true)(W9:a<e):bE l (a+(R7 l a).toNat) e=true/\bE l (a+1) (a+(R7 l a).toNat)=true:=by
 have ha:a<l.length:=by omega
 rw[bE,dif_pos W9]at h;simp only[V7 ha]at h;rw[ix ha];split at h
 .simp only[Ba]at h;exact⟨h.2,h.1.2⟩
 .cases h
def xc{l:List Nd}{b:Nat}(hb:b<l.length):∀k,k<=b->(∀i,i<k->(i:Int)+R7 l i<=b)->l8 l b k=-1
 |0,_,_=>rfl
 |k+1,hk,h=>by
  rw[l8,aK,xc hb k (by omega) (λi hi=>h i (by omega))];have:=h k (by omega);simp only[ct,Ba,US,not_and];intro _ _ _;simp;omega
def C1{l:List Nd}{b p:Nat}(hb:b<l.length)(hpb:(b:Int)<p+R7 l p):∀k,p<k->k<=b->(∀i,p<i->i<k->(i:Int)+R7 l i<=b)->l8 l b k=p
 |0,h,_,_=>by omega
 |k+1,h,hk,hh=>by
  by_cases e:k=p
  .subst e;rw[l8,aI];simp only[ct,Ba,US,ng];simp;omega
  .rw[l8,aK,C1 hb hpb k (by omega) (by omega) (λi h1 h2=>hh i h1 (by omega))];have:=hh k (by omega) (by omega);simp only[ct,Ba,US,not_and];intro _ _ _;simp;omega
def Kd(l:List Nd)(p:Int)(a e:Nat):Prop:=(p=-1/\a=0)\/∃q:Nat,p=q/\a=q+1/\(e:Int)=q+R7 l q
open Go.Proofs
def BF(l:List Nd)(hl:dN l)(hb:SA l=true):aX prog 142 [aQ l] (.agg [aQ l]):=λU=>by
 refine QS.q ?_;refine mS 3 ?_;simp only[go_sem,seval,Na];refine aF λXu Z1 s1 a2 f2=>?_;simp only[go_sem,seval,a2];refine pS rfl (C9 l hl _) ?_;simp only[go_sem,seval,hb,a2,aQ];refine aD.pure (s1.aL f2) rfl
def K5(l:List Nd)(a:Int):aX prog 191 [aQ l,vI a] (.bool (ng l a)):=λU=>by
 refine QB.q ?_;refine mS 6 ?_;simp only[go_sem,seval,aH,aJ,MR,bT];refine And.intro (λh=>?_) (λh=>?_)
 .refine aD.same ?_;simp[ng];omega
 .refine aD.same ?_;simp[ng];omega
def xF(l:List Nd)(hl:dN l)(hb:SA l=true)(a:Nat)(ha:a<l.length):aX prog 192 [aQ l,vI a] (vI (dq l a)):=λU=>by
 have hl1:=hl.1;refine Qk.q ?_;refine mS 6 ?_;simp only[go_sem,seval,aH,aJ,Mc];refine⟨ar,?_⟩;refine ay.loop (λm st=>∃(k:Nat),k<=a/\m=k/\dq l a=l8 l a k/\st.U=U/\st.s 0=aQ l/\st.s 1=vI a/\st.s 5=vI ((k:Int)-1)) a ?_ ?_
 .exact⟨a,by omega,rfl,rfl,rfl,rfl,rfl,rfl⟩
 .rintro m ⟨s,Z'⟩ ⟨k,hk,rfl,heq,Su,h0,h1,h5⟩;simp only at Su h0 h1 h5;subst Su;refine mS 6 ?_;simp only[go_sem,seval,aH,aJ,h0,h1,h5];refine And.intro (λh=>?_) (λh=>?_)
  .obtain⟨k,rfl⟩:∃j,m=j+1:=⟨m-1,by omega⟩
   have e1:((k+1:Nat):Int)-1=k:=by omega
   have u':k<l.length:=by omega
   have TU:=qO hb u';have hse:=ix u';have hx:=gZ (U:=Z') u';simp only[go_sem,seval,aH,aJ,e1,hx,Nd.cells,h0,h1,h5];rw[<-hse];refine⟨ar,And.intro (λhc=>?_) (λhc=>?_)⟩
   .refine aD.same ?_;rw[heq,l8,aI];simp only[ct,Ba,US,ng];simp;omega
   .refine⟨ar,_,?_,k,by omega,rfl,?_,rfl⟩
    .omega
    .rw[heq,l8,aK];simp only[ct,Ba,US,ng];simp;omega
  .have Wh:m=0:=by omega
   subst Wh;refine aD.same ?_;rw[heq];rfl
end Go.Vc
