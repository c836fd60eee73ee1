import Derived.Test.YtompjkkmfibkiaaGreatW4
import Derived.DeepKeys5
set_option linter.all false
set_option maxHeartbeats 8000000
set_option maxRecDepth 100000
open Go.Proofs.Tryz
namespace Go.Vc
variable {P:Program} {n:Nat} {st:St} {Q:St->Prop} {k:List It}
def vk{V':List (List Nat)}{A':List Nat}{i:Nat}(h:i∈eD V' A'):i<V'.length/\i∉A'/\∀k∈V'.getD i [],k∈A':=by
 unfold eD at h;obtain⟨h1,h2⟩:=rC.1 h;simp only[Ba,Bool.not_eq_true',fM]at h2;exact⟨by simpa using h1,by simpa using h2.1,λk hk=>by simpa using h2.2 k hk⟩
def uO:∀(n:Nat) (L:List Nat),L.Nodup->(∀k∈L,k<n)->L.length<=n/\(L.length=n->∀k,k<n->k∈L)
 |0,L,_,h=>by
  cases L with
  |nil=>simp
  |cons a L=>have:=h a (by simp);omega
 |n+1,L,hd,h=>by
  by_cases hn:n∈L
  .have h1:=uO n (L.erase n) (hd.erase n) λk hk=>by
    have h2:=h k (List.mem_of_mem_erase hk);have h3:k≠n:=λe=>by subst e;exact(List.Nodup.not_mem_erase hd) hk
    omega
   have h4:=List.length_erase_of_mem hn;have h5:0<L.length:=List.length_pos_of_mem hn;refine⟨by omega,λhe k hk=>?_⟩;by_cases hkn:k=n
   .rw[hkn];exact hn
   .exact List.mem_of_mem_erase (h1.2 (by omega) k (by omega))
  .have h1:=uO n L hd λk hk=>by
    have h2:=h k hk;have h3:k≠n:=λe=>hn (e▸hk);omega
   exact⟨by omega,λhe=>by omega⟩
open Go.RowKit
variable {P:Program} {n:Nat} {st:St} {Q:St->Prop} {k:List It} {I:Mu} {w:World}
def F8{o:Op}{xs:List VX}(h:Wj P n o=.more .mkMap xs):∃t,o=.makeMap t none/\xs=[]:=by
 cases o
 case makeMap t r=>
  simp only[Wj]at h;split at h
  .rename_i hc;simp only[Ba,Option.isNone_iff_eq_none]at hc;obtain⟨rfl,_⟩:=hc;simp only[Wd.more.injEq,true_and]at h;exact⟨t,rfl,h.symm⟩
  .cases h
 case call c=>
  obtain⟨callee,args,argTypes⟩:=c;cases callee
  case value=>simp[Wj]at h
  case invoke r name=>simp[Wj]at h
  case builtin b=>cases b<;>(simp only[Wj,cV]at h;(repeat' split at h)<;>cases h)
 case unOp op t x=>cases op<;>simp only[Wj,cV]at h<;>cases h
 case makeFunc f a b=>cases f<;>simp only[Wj,cV]at h<;>(repeat' split at h)<;>cases h
 all_goals (simp only[Wj,cV]at h;(repeat' split at h)<;>cases h)
def Ae{b:Nat}{es:Array MapEntry}{c:Nat}(h:w.heap[b]?=some (.map es c)):(getObj b).run P w=.ok (.map es c) w:=by simp[getObj,Sem.run,h]
open Go.RowKit
variable {P:Program} {n:Nat} {st:St} {Q:St->Prop} {k:List It} {I:Mu} {w:World}
def Cx{t kt e:TypeId}(h:yG P t=some (kt,e)):P.underlying t=some (.map kt e):=by
 unfold yG at h;split at h
 .rename_i k' e' ht;split at h
  .simp only[aS,Prod.mk.injEq]at h;obtain⟨rfl,rfl⟩:=h;exact ht
  .cases h
 .cases h
def Gd{o:Op}{kt:TypeId}{xs:List VX}{ok:Bool}{zv:V}(h:Wj P n o=.more (.lookS kt ok zv) xs):∃t x y e i z,o=.lookup t x y ok/\yG P t=some (kt,e)/\zeroOf P e=some (i,z)/\zv=ofValue z/\xs=[cx n x,cx n y]:=by
 cases o
 case lookup t x y ok'=>
  simp only[Wj]at h;split at h
  .split at h<;>cases h
  .split at h
   .rename_i k' e he;split at h
    .rename_i i z hz;simp only[Wd.more.injEq,MOp.lookS.injEq]at h;obtain⟨⟨rfl,rfl,rfl⟩,rfl⟩:=h;exact⟨t,x,y,e,i,z,rfl,he,hz,rfl,rfl⟩
    .cases h
   .cases h
 case call c=>
  obtain⟨callee,args,argTypes⟩:=c;cases callee
  case value=>simp[Wj]at h
  case invoke r name=>simp[Wj]at h
  case builtin b=>cases b<;>(simp only[Wj,cV]at h;(repeat' split at h)<;>cases h)
 case unOp op t x=>cases op<;>simp only[Wj,cV]at h<;>cases h
 case makeFunc f a b=>cases f<;>simp only[Wj,cV]at h<;>(repeat' split at h)<;>cases h
 all_goals (simp only[Wj,cV]at h;(repeat' split at h)<;>cases h)
def assoc{κ:Type}[DecidableEq κ](a:κ):List κ->List V->Option V
 |x::ks,v::vs=>if x=a then some v else assoc a ks vs
 |_,_=>none
def vj{κ:Type}[DecidableEq κ]{a:κ}:∀{ks:List κ} {vs:List V},a∉ks->assoc a ks vs=none
 |[],_,_=>by simp[assoc]
 |x::ks,[],_=>by simp[assoc]
 |x::ks,v::vs,h=>by
  rw[assoc,aD (λe=>h (by simp[e]))];exact vj λg=>h (by simp[g])
def rO{κ:Type}[DecidableEq κ]{a:κ}:∀{ks:List κ} {vs:List V} {j:Nat},ks.Nodup->ks[j]?=some a->ks.length=vs.length->assoc a ks vs=vs[j]?
 |[],_,j,_,h,_=>by simp at h
 |x::ks,[],j,_,_,hl=>by simp at hl
 |x::ks,v::vs,0,_,h,_=>by
  simp only[IY,aS]at h;rw[assoc,av h];rfl
 |x::ks,v::vs,j+1,hn,h,hl=>by
  rw[Dq]at h;have hm:=zE h;have hxa:x≠a:=λe=>(List.nodup_cons.1 hn).1 (by rw[e];exact hm);rw[assoc,aD hxa,Dq];exact rO (List.nodup_cons.1 hn).2 h (by simpa using hl)
def R6{κ:Type}[DecidableEq κ](kv:κ->Value)(U:ad)(id:Nat)(g:κ->Option V):Prop:=
 ∃(es:Array MapEntry) (clock:Nat) (ks:List κ) (env:List V),U id=some (gh (.map es clock) env)/\es.toList.map (·.key)=ks.map kv/\ks.length=env.length/\ks.Nodup/\∀a,assoc a ks env=g a
def Ic{κ:Type}[DecidableEq κ]{kv:κ->Value}(hinj:∀a b,kv a=kv b->a=b){kt:TypeId}(hlaw:WideMaps.KeyLaw P kt){es:List MapEntry}{ks:List κ}(he:es.map (·.key)=ks.map kv)
 (hko:∀a∈ks,∃l,keyOf P kt (kv a)=some l){a:κ}(ha:∃l,keyOf P kt (kv a)=some l)(w:World):
 ((Instr.findKey kt (kv a) es).run P w=.ok none w/\a∉ks)\/∃j e,(Instr.findKey kt (kv a) es).run P w=.ok (some (j,e.val)) w/\es[j]?=some e/\e.key=kv a/\ks[j]?=some a:=by
 obtain⟨l,hl⟩:=ha;have WY:∀e∈es,∃l,keyOf P kt e.key=some l:=λe hm=>by
  have:e.key∈ks.map kv:=he▸List.mem_map_of_mem hm;obtain⟨b,hb,hbe⟩:=gM.1 this;rw[<-hbe];exact hko b hb
 rcases hlaw.find w hl es WY with⟨h1,h2⟩|⟨j,e,h1,h2,h3⟩
 .refine .inl ⟨h1,λhm=>?_⟩;have:kv a∈es.map (·.key):=he▸List.mem_map_of_mem hm;obtain⟨e,hem,hee⟩:=gM.1 this;exact h2 e hem hee
 .refine .inr ⟨j,e,h1,h2,h3,?_⟩;have h4:(es.map (·.key))[j]?=some e.key:=by rw[tW,h2];rfl
  rw[he,tW]at h4;cases hk:ks[j]? with
  |none=>rw[hk]at h4;cases h4
  |some b=>
   rw[hk]at h4;simp only[Option.map_some,aS]at h4;rw[hinj b a (h4.trans h3)]
structure Mg{κ:Type}(P:Program)(kt:TypeId)(kv:κ->Value)(kV:κ->V):Prop where
 inj:∀a b,kv a=kv b->a=b
 law:WideMaps.KeyLaw P kt
 key:∀b,∃l,keyOf P kt (kv b)=some l
 rep:∀(a:κ) (I:Mu) (ow:Nat->Prop) (w:World) (X:Value),E' I ow w (kV a) X->X=kv a
def Hf{κ:Type}[DecidableEq κ]{kv:κ->Value}{kV:κ->V}{i:aK}{xm xk:VX}{kt:TypeId}{ok:Bool}{zv:V}(ho:i.op=.more (.lookS kt ok zv) [xm,xk]){id:Nat}{g:κ->Option V}{a:κ}
 (hK:Mg P kt kv kV)(hm:xm.ev st.s=.mp id)(hmap:R6 kv st.U id g)(hk:xk.ev st.s=kV a){K:St->Prop}
 (h:K ⟨bc st.s i.dst (if ok then .VG [(g a).getD zv,.bool (g a).isSome]else(g a).getD zv),st.U⟩):
 ∀(F:Fr),F.n=n->∀(I:Mu) (a:Act) (w:World) (o:Oper) (all:Array Oper),dg P n all o=i->dB F I st a w->
  ∀(next:Act->World->Prop) (Q':Exit->Act->World->Prop),(∀Ye a' w',gl F Ye a' w'->K Ye->next a' w')->o.wp P a w next Q':=by
 intro F hn I ac w o all hi hs next Q' VT
 obtain⟨hinj,hlaw,hko,XJ⟩:=hK;replace XJ:=XJ a;replace hko:∀b,(b=a\/g b≠none)->∃l,keyOf P kt (kv b)=some l:=λb _=>hko b;subst hn;obtain⟨VS,hd⟩:=ff hi;rw[ho]at VS;obtain⟨t,x,y,e,ti,z,g1,g2,g3,rfl,g4⟩:=Gd VS;simp only[List.cons.injEq,and_true]at g4;obtain⟨rfl,rfl⟩:=g4;have u1:=Cx g2;obtain⟨es,clock,ks,env,V7,he,hlen,WQ,XE⟩:=hmap;have hr:=dr hs x;have hrk:=dr hs y;rw[hm]at hr;rw[hk]at hrk;have hrk:=XJ _ _ _ _ hrk;simp only[E']at hr;have hks:∀b∈ks,∃l,keyOf P kt (kv b)=some l:=λb hb=>by
  obtain⟨j,hj⟩:=Kk hb;refine hko b (.inr ?_);rw[<-XE b,rO WQ hj hlen];have:j<env.length:=by rw[<-hlen];exact(pq.1 hj).1
  rw[Zq6 this];simp
 have hka:=hko a (.inl rfl);obtain⟨la,XD⟩:=hka;split at hr
 .rename_i b cap M';obtain⟨WO,henv⟩:=hs.sat.ND V7 M';simp only[tmpsOf]at henv;rcases Ic hinj hlaw he hks ⟨la,XD⟩ w with⟨q1,q2⟩|⟨j,en,q1,q2,q3,q4⟩
  .have hga:g a=none:=by rw[<-XE a,vj q2]
   rw[hga]at h;have Wv:(Instr.lookup t (ac.eval x) (ac.eval y) ok).run P w=.ok (if ok then .tuple #[z,.bool false]else z) w:=by
    simp[Instr.lookup,run_underlying u1,hr,hrk,Ae WO,hlaw.check w _ XD,q1,eH g3]
   have hx:(execOp ac.eval o).run P w=.ok (.value (if ok then .tuple #[z,.bool false]else z)) w:=by
    unfold execOp;rw[g1];simp[Wv]
   unfold Oper.wp;rw[hx];refine VT _ _ _ ⟨I,?_⟩ h;rw[<-hd];have hz:E' I (aE I st.U) w (ofValue z) z:=mY z;refine hs.pure ?_;cases ok
   .simpa using hz
   .simp only[if_true,Option.getD_none,Option.isSome_none,E'];exact⟨_,rfl,by simp only[aq,E'];exact⟨_,_,rfl,hz,_,_,rfl,rfl,rfl⟩⟩
  .have Zv:j<env.length:=by rw[<-hlen];exact(pq.1 q4).1
   have hga:g a=some env[j]:=by rw[<-XE a,rO WQ q4 hlen,Zq6 Zv]
   rw[hga]at h;have hv:E' I (aE I st.U) w env[j] en.val:=by
    obtain⟨x',Wl,hrx⟩:=henv.get (i:=j) (by rw[Zq6 Zv]);rw[tW,q2]at Wl;simp at Wl;subst Wl;exact hrx
   have Wv:(Instr.lookup t (ac.eval x) (ac.eval y) ok).run P w=.ok (if ok then .tuple #[en.val,.bool true]else en.val) w:=by
    simp[Instr.lookup,run_underlying u1,hr,hrk,Ae WO,hlaw.check w _ XD,q1]
   have hx:(execOp ac.eval o).run P w=.ok (.value (if ok then .tuple #[en.val,.bool true]else en.val)) w:=by
    unfold execOp;rw[g1];simp[Wv]
   unfold Oper.wp;rw[hx];refine VT _ _ _ ⟨I,?_⟩ h;rw[<-hd];refine hs.pure ?_;cases ok
   .simpa using hv
   .simp only[if_true,Option.getD_some,Option.isSome_some,E'];exact⟨_,rfl,by simp only[aq,E'];exact⟨_,_,rfl,hv,_,_,rfl,rfl,rfl⟩⟩
 .exact hr.elim
def PB(P:Program)(kt:TypeId)(ok:Bool)(zv m k:V)(U:ad)(v:V):Prop:=∃(κ:Type) (_:DecidableEq κ) (kv:κ->Value) (kV:κ->V) (id:Nat) (g:κ->Option V) (a:κ),
 Mg P kt kv kV/\m=.mp id/\R6 kv U id g/\k=kV a/\v=if ok then .VG [(g a).getD zv,.bool (g a).isSome]else(g a).getD zv
def Gv{i:aK}{xs:List VX}(ho:i.op=.more .mkMap xs){K:St->Prop}(h:∀id,st.U id=none->K ⟨bc st.s i.dst (.mp id),C' st.U id (gh (.map #[] 0) [])⟩):
 ∀(F:Fr),F.n=n->∀(I:Mu) (a:Act) (w:World) (o:Oper) (all:Array Oper),dg P n all o=i->dB F I st a w->
  ∀(next:Act->World->Prop) (Q':Exit->Act->World->Prop),(∀Ye a' w',gl F Ye a' w'->K Ye->next a' w')->o.wp P a w next Q':=by
 intro F hn I a w o all hi hs next Q' VT
 subst hn;obtain⟨VS,hd⟩:=ff hi;rw[ho]at VS;obtain⟨t,h1,_⟩:=F8 VS;obtain⟨id,M',Y',g1,g2,g3,g4⟩:=hs.sat.Qv (.map #[] 0) [] (by simp[aq,tmpsOf]);have Wv:(execOp a.eval o).run P w=.ok (.value (.map (some w.heap.size))) (w.alloc (.map #[] 0)):=by
  unfold execOp;rw[h1];simp[Instr.makeMap]
  all_goals rfl
 unfold Oper.wp;rw[Wv];refine VT _ _ _ ⟨Y',?_⟩ (h id M');rw[<-hd];exact hs.step g3 g2 g4 (by simp) (by simp[E',g1])
variable {P:Program} {n:Nat} {st:St} {Q:St->Prop} {k:List It}
def TC(P:Program)(i:aK)(x:St)(K:St->Prop):Prop:=T P i x K\/(bz x.s i.g=some true/\match i.op with
 |.call fx xs=>∃f caps Post,fx.ev x.s=.fn f caps/\au P f (xs.map (·.ev x.s)++caps) x.U Post/\∀r Z',Post r Z'->K ⟨bc x.s i.dst r,Z'⟩
 |.more (.lookS kt ok zv) [xm,xk]=>∃v,PB P kt ok zv (xm.ev x.s) (xk.ev x.s) x.U v/\K ⟨bc x.s i.dst v,x.U⟩
 |.more .mkMap []=>∀id,x.U id=none->K ⟨bc x.s i.dst (.mp id),C' x.U id (gh (.map #[] 0) [])⟩
 |_=>False)
def TC.mono{i:aK}{x:St}{K K':St->Prop}(hk:∀x,K x->K' x)(h:TC P i x K):TC P i x K':=by
 rcases h with h|⟨h1,h2⟩
 .exact .inl (h.mono hk)
 .refine .inr ⟨h1,?_⟩;split at h2
  .obtain⟨f,caps,Post,g1,g2,g3⟩:=h2;exact⟨f,caps,Post,g1,g2,λr Z' hp=>hk _ (g3 r Z' hp)⟩
  .obtain⟨v,g1,g2⟩:=h2;exact⟨v,g1,hk _ g2⟩
  .exact λid M'=>hk _ (h2 id M')
  .exact h2.elim
def H0{F:Fr}(hn:F.n=n){o:Oper}{all:Array Oper}{x:St}{K:St->Prop}{a:Act}{w:World}(h:TC P (dg P n all o) x K)(hs:gl F x a w)
 {next:Act->World->Prop}{Q':Exit->Act->World->Prop}(VT:∀x' a' w',gl F x' a' w'->K x'->next a' w'):
 if Region.wanted o (yielded all a.tmps)then Wj P n o.op≠.bad/\o.wp P a w next Q' else next (a.put o.dst undef) w:=by
 rcases h with h|⟨hw,h⟩
 .exact zQ hn h hs VT
 subst hn;obtain⟨I,hs⟩:=hs;have hwant:=uu (P:=P) hs all o hw;rw[hwant];simp only[if_true];have hdst:(dg P F.n all o).dst=o.dst.filter (·<F.n):=rfl;have hopc:(dg P F.n all o).op=Wj P F.n o.op:=rfl;rw[hdst,hopc]at h;split at h
 .rename_i fx xs VS;refine⟨λe=>?_,?_⟩
  .rw[VS]at e;cases e
  obtain⟨f,caps,Post,h1,h2,h3⟩:=h;obtain⟨f0,args,argTypes,g1,rfl,rfl⟩:=nA VS;refine pt hs g1 h1 h2 λr Z' hp a' w' VW=>?_;exact VT _ a' w' VW (h3 r Z' hp)
 .rename_i kt ok zv xm xk VS;refine⟨λe=>(by rw[VS]at e;cases e),?_⟩;obtain⟨v,⟨κ,_,kv,kV,id,g,b,hK,h1,h2,h3,rfl⟩,h4⟩:=h;exact Hf (i:=dg P F.n all o) (K:=K) (hopc.trans VS) hK h1 h2 h3 h4 F rfl I a w o all rfl hs next Q' VT
 .rename_i VS;refine⟨λe=>(by rw[VS]at e;cases e),?_⟩;exact Gv (i:=dg P F.n all o) (K:=K) (hopc.trans VS) h F rfl I a w o all rfl hs next Q' VT
 .exact h.elim
def TnC(P:Program)(n:Nat)(ops:Array Oper)(i:Nat)(x:St)(K:St->Prop):Prop:=match ops[i]? with
 |some o=>TC P (dg P n ops o) x K
 |none=>K x
def zz(P:Program)(n:Nat)(ops:Array Oper)(Q:St->Prop):Nat->Array Bool->St->Prop
 |0,A',x=>Region.ready .any ops A'=[]/\Q x
 |f+1,A',x=>(Region.ready .any ops A'=[]->Q x)/\∀i∈Region.ready .any ops A',TnC P n ops i x (zz P n ops Q f (A'.setIfInBounds i true))
def nI{F:Fr}(hn:F.n=n){ops:Array Oper}{Q:St->Prop}{Q':Exit->Act->World->Prop}(hQ:∀x a w,gl F x a w->Q x->Q' .normal a w):
 ∀(f:Nat) (A':Array Bool) (x:St) (a:Act) (w:World),gl F x a w->zz P n ops Q f A' x->wpAnyIn F.fC 0 P .any ops Q' f A' a w
 |0,_,_,_,_,hs,h=>⟨h.1,hQ _ _ _ hs h.2⟩
 |f+1,A',x,a,w,hs,h=>by
  refine⟨λh0=>hQ _ _ _ hs (h.1 h0),λi hi=>?_⟩;have h1:=h.2 i hi;unfold TnC at h1;unfold wpOpIn;cases ho:ops[i]? with
  |none=>
   simp only[ho]at h1;exact nI hn hQ f _ x a w hs h1
  |some o=>
   simp only[ho]at h1;have h2:=H0 (Q':=Q') hn h1 hs λx' a' w' VW hk=>nI hn hQ f _ x' a' w' VW hk;by_cases hw:Region.wanted o (yielded ops a.tmps)=true
   .rw[av hw]at h2;simp only[hw,if_true];exact Kz (og h2.1) h2.2
   .rw[aD hw]at h2;simp only[hw];exact⟨λ_ _=>trivial,h2⟩
def wI(P:Program)(l:List aK)(rec:List Nat->St->Prop)(A':List Nat)(x:St):List Nat->Prop
 |[]=>True
 |i::is=>(match l[i]? with
   |some ins=>TC P ins x (rec (i::A'))
   |none=>False)/\wI P l rec A' x is
def jz(P:Program)(l:List aK)(V':List (List Nat))(Q:St->Prop):Nat->List Nat->St->Prop
 |0,A',x=>eD V' A'=[]/\Q x
 |f+1,A',x=>match eD V' A' with
   |[]=>Q x
   |i::is=>wI P l (jz P l V' Q f) A' x (i::is)
def od{l:List aK}{rec:List Nat->St->Prop}{A':List Nat}{x:St}:∀{is:List Nat},wI P l rec A' x is->∀i∈is,∃ins,l[i]?=some ins/\TC P ins x (rec (i::A'))
 |[],_,_,hi=>by cases hi
 |j::is,h,i,hi=>by
  obtain⟨h1,h2⟩:=h;rcases et.1 hi with rfl|hi
  .cases hl:l[i]? with
   |none=>rw[hl]at h1;exact h1.elim
   |some ins=>rw[hl]at h1;exact⟨ins,rfl,h1⟩
  .exact od h2 i hi
def mJ{ops:Array Oper}{Q:St->Prop}:∀(f:Nat) (arr:Array Bool) (A':List Nat) (x:St),arr.size=ops.size->(∀i,i<ops.size->arr.getD i true=A'.contains i)->
 (∀i∈A',i<ops.size)->jz P (ops.toList.map (dg P n ops)) (kK ops) Q f A' x->zz P n ops Q f arr x
 |0,arr,A',x,hs,hl,ho,h=>⟨by rw[ym hs hl ho];exact h.1,h.2⟩
 |f+1,arr,A',x,hs,hl,ho,h=>by
  have hr:=ym hs hl ho;unfold jz at h;refine⟨λh0=>?_,λi hi=>?_⟩
  .rw[hr]at h0;rw[h0]at h;exact h
  .rw[hr]at hi;have B':i<ops.size:=by
    have:=(rC.1 hi).1;simpa[kK]using this
   have WY:wI P (ops.toList.map (dg P n ops)) (jz P (ops.toList.map (dg P n ops)) (kK ops) Q f) A' x (eD (kK ops) A'):=by
    cases hrr:eD (kK ops) A' with
    |nil=>exact trivial
    |cons j js=>rw[hrr]at h;exact h
   obtain⟨ins,h1,h2⟩:=od WY i hi;have h3:ops[i]?=some ops[i]:=Array.getElem?_eq_getElem B';have h4:ins=dg P n ops ops[i]:=by simpa[B']using h1.symm
   unfold TnC;simp only[h3];rw[<-h4];refine h2.mono λx' Wl=>mJ f _ (i::A') x' (by simpa using hs) (λj hj=>?_) (λj hj=>?_) Wl
   .by_cases e:j=i
    .subst e;rw[Zq7,Array.getElem?_setIfInBounds_self_of_lt (by omega)];simp
    .rw[Zq7,Array.getElem?_setIfInBounds_ne (λe'=>e e'.symm),<-Zq7,hl j hj];simp[e]
   .rcases et.1 hj with rfl|hj
    .exact B'
    .exact ho j hj
def ai.Mc(hm:P.follows .mixedOrders=true){l:List aK}{V':List (List Nat)}(h:jz P l V' (λx=>ai P n k x Q) l.length [] st):ai P n (.code (.regA l V')::k) st Q:=by
 intro F hn kt hk a w hs;obtain⟨z,YA,rfl,hy,XO⟩:=fg hk;obtain⟨c0,rfl,Xo⟩:=iO hy;have hc0:∃id ops,c0=.region id ops true/\ops.toList.map (dg P n ops)=l/\kK ops=V':=by
  cases c0<;>simp only[dZ,reduceCtorEq]at Xo;rename_i id ops draw;cases draw
  .simp at Xo
  .simp only[Bool.true_and]at Xo;split at Xo
   .cases Xo
   split at Xo
   .simp only[bW.regA.injEq]at Xo;exact⟨id,ops,rfl,Xo.1,Xo.2⟩
   .simp at Xo
 obtain⟨id,ops,rfl,rfl,rfl⟩:=hc0;have VW:gl F st a { w with drawn:=w.drawn+1 }:=by
  obtain⟨I,hs⟩:=hs;have hk:di (aE I st.U) (aE I st.U) w { w with drawn:=w.drawn+1 }:=λ_ _ h=>⟨h,rfl⟩
  refine⟨I,⟨⟨hs.sat.size,hs.sat.os,hs.sat.tape,hs.sat.output,hs.sat.same,hs.sat.fin,hs.sat.inj,λid o ho=>?_,hs.sat.fresh,hs.sat.Za⟩,hs.le,hs.size,hs.book.mR hk,λi hi=>?_⟩⟩
  .exact(hs.sat.obj id o ho).mono (dL.refl I) hk (Wa _) (λ_ _ _ _=>rfl)
  .exact E'.mono (dL.refl I) hk (Wa _) _ _ (hs.slot i hi)
 refine wpIn_region_any hm (nI (Q:=λx=>ai P n k x Q) hn (λx a w hs h=>h F hn YA XO a w hs) _ _ _ _ _ VW ?_);have:=mJ (P:=P) (n:=n) (Q:=λx=>ai P n k x Q) (ops:=ops) ops.size (Array.replicate ops.size false) [] st (by simp) (λi hi=>by
  rw[Zq7,Array.getElem?_replicate,av hi];simp) (by simp) (by simpa using h)
 exact this
def qZ{l:List aK}{rec:List Nat->St->Prop}{A':List Nat}{x:St}:∀{is:List Nat},(∀i∈is,∃ins,l[i]?=some ins/\TC P ins x (rec (i::A')))->wI P l rec A' x is
 |[],_=>trivial
 |j::is,h=>by
  obtain⟨ins,h1,h2⟩:=h j (by simp);refine⟨by rw[h1];exact h2,qZ λi hi=>h i (by simp[hi])⟩
variable {P:Program} {n:Nat} {st:St} {Q:St->Prop} {k:List It}
def QYd(P:Program)(i:aK)(x:St):Prop:=match i.dst with
 |some d=>QY P i x.s x.U (x.s d)
 |none=>∃v,QY P i x.s x.U v
def RE(P:Program)(l:List aK)(K:St->Prop):List Nat->St->Prop
 |[],x=>K x
 |m::its,x=>match l[m/2]? with
  |none=>False
  |some ins=>if m%2=0 then TC P ins x (RE P l K its)else QYd P ins x/\RE P l K its x
def bI(l:List aK)(i:Nat):aK:=(l[i]?).getD ⟨none,.bad,none⟩
def fP(V5:List (List Nat))(i:Nat):List Nat:=V5.getD i []
def dY(l:List aK)(V5:List (List Nat))(j:Nat):Bool:=br (bI l j).op != 0||(match(bI l j).dst with
 |some d=>(List.range l.length).any λi=>(bI l i).l8.contains d&&!(fP V5 i).contains j
 |none=>false)
def EV(l:List aK)(V5:List (List Nat))(done:List Nat)(e:Nat):List Nat:=
 if dY l V5 e then done.filterMap λk=>if !(dY l V5 k)&&(!(lz (bI l k).op)&&!((fP V5 e).contains k))then some (2*k+1)else none else[]
def eZ(l:List aK)(V5:List (List Nat)):List Nat->List Nat->List Nat
 |_,[]=>[]
 |done,e::r=>2*e::(EV l V5 done e++eZ l V5 (done++[e]) r)
def nT(p:Nat->Nat->Bool):List Nat->Bool
 |[]=>true
 |a::r=>r.all (p a)&&nT p r
def nH{p:Nat->Nat->Bool}:∀{a:List Nat} {b:List Nat} {x y:Nat},nT p (a++b)=true->x∈a->y∈b->p x y=true
 |[],_,_,_,_,h,_=>by cases h
 |c::a,b,x,y,hp,hx,hy=>by
  simp only[List.cons_append,nT,Ba]at hp;rcases et.1 hx with rfl|hx
  .exact fM.1 hp.1 y (List.mem_append_right _ hy)
  .exact nH hp.2 hx hy
def wy(f:Nat->List Nat):List Nat->List Nat->Bool
 |_,[]=>true
 |done,e::r=>(f e).all done.contains&&wy f (done++[e]) r
def tQ{f:Nat->List Nat}:∀{r done:List Nat} {a:List Nat} {e:Nat} {b:List Nat},wy f done r=true->r=a++e::b->∀x∈f e,x∈done++a
 |[],_,a,e,b,_,h,_,_=>by simp at h
 |c::r,done,[],e,b,hB,h,x,hx=>by
  simp only[iC,List.cons.injEq]at h;obtain⟨rfl,rfl⟩:=h;simp only[wy,Ba]at hB;simpa using fM.1 hB.1 x hx
 |c::r,done,d::a,e,b,hB,h,x,hx=>by
  simp only[List.cons_append,List.cons.injEq]at h;obtain⟨rfl,rfl⟩:=h;simp only[wy,Ba]at hB;have:=tQ hB.2 rfl x hx;simpa using this
def Kw(l:List aK)(V' V5:List (List Nat))(ord:List Nat):Bool:=
 (decide (ord.length=l.length)&&(decide (V'.length=l.length)&&ord.all λi=>decide (i<l.length)))&&
 (nT (λa b=>decide (a≠b)) ord&&
 (wy (λi=>V'.getD i []) [] ord&&
 ((List.range l.length).all (λj=>(fP V5 j).all λi=>(V'.getD j []).any λd=>d==i||(fP V5 d).contains i)&&
 ((List.range l.length).all (λi=>(List.range l.length).all λj=>i==j||((bI l i).dst.isNone||(bI l i).dst != (bI l j).dst))&&
 (List.range l.length).all (λi=>(List.range l.length).all λj=>i==j||(match(bI l j).dst with
   |some d=>!((bI l i).l8.contains d)||((fP V5 i).contains j||(dY l V5 j&&(fP V5 j).contains i))
   |none=>true))))))
def eOk(l:List aK)(V' V5:List (List Nat))(ord:List Nat):Bool:=Kw l V' V5 ord&&nT (λa b=>!(dY l V5 a)||(fP V5 b).contains a) ord
def tH:∀{l:List Nat},nT (λa b=>decide (a≠b)) l=true->l.Nodup
 |[],_=>List.nodup_nil
 |a::r,h=>by
  simp only[nT,Ba]at h;refine List.nodup_cons.2 ⟨λhm=>?_,tH h.2⟩;have:=fM.1 h.1 a hm;simp at this
structure EOkW(l:List aK)(V' V5:List (List Nat))(ord:List Nat):Prop where
 len:ord.length=l.length
 dlen:V'.length=l.length
 lt:∀i∈ord,i<l.length
 nodup:ord.Nodup
 ahead:∀a e b,ord=a++e::b->∀x∈V'.getD e [],x∈a
 anc:∀j,j<l.length->∀i∈fP V5 j,∃d∈V'.getD j [],d=i\/i∈fP V5 d
 dsts:∀i j,i<l.length->j<l.length->i≠j->∀d,(bI l i).dst=some d->(bI l j).dst≠some d
 anti:∀i j,i<l.length->j<l.length->i≠j->∀d,(bI l j).dst=some d->d∈(bI l i).l8->j∈fP V5 i\/(dY l V5 j=true/\i∈fP V5 j)
def yc{l:List aK}{V' V5:List (List Nat)}{ord:List Nat}(h:Kw l V' V5 ord=true):EOkW l V' V5 ord:=by
 simp only[Kw,Ba,X7]at h;obtain⟨⟨h1,h2,h3⟩,h4,h5,h6,h7,h8⟩:=h;refine⟨h1,h2,λi hi=>by simpa using fM.1 h3 i hi,tH h4,λa e b he x hx=>by simpa using tQ h5 he x hx,?_,?_,?_⟩
 .intro j hj i hi;have:=fM.1 (fM.1 h6 j (by simpa using hj)) i hi;simp only[List.any_eq_true,lP,beq_iff_eq,List.contains_iff_mem]at this;exact this
 .intro i j hi hj V2 d hd he;have:=fM.1 (fM.1 h7 i (by simpa using hi)) j (by simpa using hj);simp only[lP,beq_iff_eq,hd,he,Option.isNone_some,bne_self_eq_false,gi,or_false]at this;exact V2 this
 .intro i j hi hj V2 d hd hu;have:=fM.1 (fM.1 h8 i (by simpa using hi)) j (by simpa using hj);simp only[lP,beq_iff_eq,hd,Ba,Bool.not_eq_true',List.contains_iff_mem]at this;rcases this with h|h|h
  .exact absurd h V2
  .have hc:(bI l i).l8.contains d=true:=List.contains_iff_mem.2 hu;rw[hc]at h;cases h
  .exact h
structure EOk(l:List aK)(V' V5:List (List Nat))(ord:List Nat):Prop extends EOkW l V' V5 ord where
 Yg:∀a b x y,ord=a++b->x∈a->y∈b->dY l V5 x=true->x∈fP V5 y
def AL{l:List aK}{V' V5:List (List Nat)}{ord:List Nat}(h:eOk l V' V5 ord=true):EOk l V' V5 ord:=by
 simp only[eOk,Ba]at h;refine⟨yc h.1,λa b x y he hx hy hxe=>?_⟩;have h9:=h.2;rw[he]at h9;have:=nH h9 hx hy;simp only[hxe,Bool.not_true,Bool.false_or,List.contains_iff_mem]at this;exact this
def EOkW.closed{l:List aK}{V' V5:List (List Nat)}{ord:List Nat}(h:EOkW l V' V5 ord){L:List Nat}(hc:∀m∈L,∀d∈V'.getD m [],d∈L)(aaa:∀i,i<l.length->i∈ord):
 ∀(m:Nat) (a:List Nat) (j:Nat) (b:List Nat),a.length<m->ord=a++j::b->(∀d∈V'.getD j [],d∈L)->∀i∈fP V5 j,i∈L:=by
 intro m
 induction m with
 |zero=>intro a j b ha;omega
 |succ m ih=>
  intro a j b ha he hd i hi;have hj:j<l.length:=h.lt j (by rw[he];simp);obtain⟨d,h1,h2⟩:=h.anc j hj i hi;rcases h2 with rfl|h2
  .exact hd d h1
  .have Wi:=h.ahead a j b he d h1;obtain⟨a1,a2,rfl⟩:=List.append_of_mem Wi;exact ih a1 d (a2++j::b) (by simp at ha;omega) (by rw[he];simp) (λd' h'=>hc d (hd d h1) d' h') i h2
def mX{i:aK}{s s':Nat->V}(h:∀u∈i.l8,s u=s' u):bz s i.g=bz s' i.g:=by
 cases hg:i.g with
 |none=>rfl
 |some g=>
  obtain⟨x,b⟩:=g;have:x.ev s=x.ev s':=by
   cases x with
   |t t=>exact h t (List.mem_filterMap.2 ⟨.t t,List.mem_append_right _ (by simp[hg]),rfl⟩)
   |c v=>rfl
  simp only[bz,this]
def B4{i:aK}{s s':Nat->V}(h:∀u∈i.l8,s u=s' u):∀x∈i.op.xs,x.ev s=x.ev s':=λx hx=>by
 cases x with
 |t t=>exact h t (DV hx rfl)
 |c v=>rfl
def BP{i:aK}{s s':Nat->V}{U:ad}{v:V}(h:∀u∈i.l8,s u=s' u)(hq:QY P i s U v):QY P i s' U v:=by
 unfold QY at*;rw[<-mX h];exact hq.imp (λ⟨h1,h2⟩=>⟨h1,vE (B4 h) h2⟩) id
def Ao{i:aK}{x y:St}{K K':St->Prop}(h:∀u∈i.l8,x.s u=y.s u)(V7:x.U=y.U)(hk:∀r Z',K ⟨bc x.s i.dst r,Z'⟩->K' ⟨bc y.s i.dst r,Z'⟩)(ht:TC P i x K):TC P i y K':=by
 have hx:=B4 h;rcases ht with ht|⟨hw,ht⟩
 .refine .inl ?_;unfold T at*;rw[<-mX h];split<;>rename_i ho<;>simp only[ho]at ht
  .unfold TO at*;split<;>rename_i hk0<;>simp only[hk0]at ht
   .obtain⟨g1,v,g2,g3⟩:=ht;obtain⟨e1,e2⟩:=tT (U:=y.U) hx;exact⟨e2.1 g1,v,by rw[<-e1,<-V7];exact g2,by rw[<-V7];exact hk _ _ g3⟩
   .split at ht
    .rename_i fx xs VS;obtain⟨f,caps,v,g1,g2,g3⟩:=ht;refine⟨f,caps,v,?_,?_,by rw[<-V7];exact hk _ _ g3⟩
     .rw[<-hx fx (by rw[VS];simp[Wd.xs])];exact g1
     .rw[<-rD (s:=x.s) (s':=y.s) λz hz=>hx z (by rw[VS];simp[Wd.xs,hz]),<-V7];exact g2
    .exact ht.elim
   .split at ht
    .rename_i sz xa xv VS;obtain⟨Z',g1,g2⟩:=ht;refine⟨Z',?_,hk _ _ g2⟩;rw[<-hx xa (by rw[VS];simp[Wd.xs]),<-hx xv (by rw[VS];simp[Wd.xs]),<-V7];exact g1
    .exact ht.elim
   .obtain⟨g,g1,g2⟩:=ht;refine⟨g,by rw[<-gv hx,<-V7];exact g1,λid M'=>hk _ _ (g2 id (by rw[V7];exact M'))⟩
  .rw[<-V7];exact hk _ _ ht
 .refine .inr ⟨by rw[<-mX h];exact hw,?_⟩;split at ht
  .rename_i fx xs VS;obtain⟨f,caps,Post,g1,g2,g3⟩:=ht;refine⟨f,caps,Post,?_,?_,λr Z' hp=>hk _ _ (g3 r Z' hp)⟩
   .rw[<-hx fx (by rw[VS];simp[Wd.xs])];exact g1
   .rw[<-rD (s:=x.s) (s':=y.s) λz hz=>hx z (by rw[VS];simp[Wd.xs,hz]),<-V7];exact g2
  .rename_i kt ok zv xm xk VS;obtain⟨v,g1,g2⟩:=ht;refine⟨v,?_,by rw[<-V7];exact hk _ _ g2⟩;rw[<-hx xm (by rw[VS];simp[Wd.xs]),<-hx xk (by rw[VS];simp[Wd.xs]),<-V7];exact g1
  .exact λid M'=>by rw[<-V7];exact hk _ _ (ht id (by rw[V7];exact M'))
  .exact ht.elim
structure kX(P:Program)(l:List aK)(V' V5:List (List Nat))(ord:List Nat)(K:St->Prop)(L:List Nat)(y:St)(done rest:List Nat)(x:St):Prop where
 split:ord=done++rest
 sub:∀i∈L,i∈done
 nodup:L.Nodup
 closed:∀m∈L,∀d∈V'.getD m [],d∈L
 Yg:∀i∈done,dY l V5 i=true->i∈L
 store:y.U=x.U
 slot:∀d,(∀i∈done,i∉L->(bI l i).dst≠some d)->y.s d=x.s d
 lag:∀i∈done,i∉L->QYd P (bI l i) x
 go:RE P l K (eZ l V5 done rest) x
def jf{l:List aK}{V5:List (List Nat)}{e:Nat}(h:dY l V5 e=false)(he:e<l.length)(V2:e∉fP V5 e):br (bI l e).op=0/\∀d,(bI l e).dst=some d->d∉(bI l e).l8:=by
 simp only[dY,Bool.or_eq_false_iff,bne_eq_false_iff_eq]at h;refine⟨h.1,λd hd hu=>?_⟩;have h2:=h.2;rw[hd]at h2;simp only[List.any_eq_false,List.mem_range,Ba,Bool.not_eq_true',not_and,Bool.not_eq_false]at h2;have:=h2 e he (List.contains_iff_mem.2 hu);exact V2 (List.contains_iff_mem.1 this)
def Ej{l:List aK}{K:St->Prop}{e:Nat}{its:List Nat}{x:St}(he:e<l.length):RE P l K (2*e::its) x↔TC P (bI l e) x (RE P l K its):=by
 have h1:2*e/2=e:=by omega
 have h2:2*e%2=0:=by omega
 rw[RE,h1,Zq6 he];simp only[av h2,bI,Zq6 he,Option.getD_some]
def MW{l:List aK}{K:St->Prop}{e:Nat}{its:List Nat}{x:St}(he:e<l.length):RE P l K ((2*e+1)::its) x↔QYd P (bI l e) x/\RE P l K its x:=by
 have h1:(2*e+1)/2=e:=by omega
 have h2:¬(2*e+1)%2=0:=by omega
 rw[RE,h1,Zq6 he];simp only[aD h2,bI,Zq6 he,Option.getD_some]
def ux{l:List aK}{K:St->Prop}{its:List Nat}{x:St}(p:Nat->Bool):∀{done:List Nat},(∀i∈done,i<l.length)->RE P l K ((done.filterMap λk=>if p k then some (2*k+1)else none)++its) x->
 (∀k∈done,p k=true->QYd P (bI l k) x)/\RE P l K its x
 |[],_,h=>⟨by simp,h⟩
 |a::r,hl,h=>by
  rw[List.filterMap_cons]at h;cases hp:p a with
  |false=>
   simp only[hp,gi,if_false]at h;obtain⟨h1,h2⟩:=ux p (λi hi=>hl i (by simp[hi])) h;refine⟨λk hk hpk=>?_,h2⟩;rcases et.1 hk with rfl|hk
   .rw[hp]at hpk;cases hpk
   .exact h1 k hk hpk
  |true=>
   simp only[hp,if_true,List.cons_append]at h;rw[MW (hl a (by simp))]at h;obtain⟨h1,h2⟩:=ux p (λi hi=>hl i (by simp[hi])) h.2;refine⟨λk hk hpk=>?_,h2⟩;rcases et.1 hk with rfl|hk
   .exact h.1
   .exact h1 k hk hpk
section
variable {l:List aK} {V' V5:List (List Nat)} {ord:List Nat} {K:St->Prop} (hE:EOkW l V' V5 ord)
include hE
def EOkW.mem(i:Nat)(hi:i<l.length):i∈ord:=(uO l.length ord hE.nodup hE.lt).2 hE.len i hi
def EOkW.nh{a:List Nat}{j:Nat}{b:List Nat}(he:ord=a++j::b):∀i∈fP V5 j,i∈a:=by
 have hc:∀m∈a,∀d∈V'.getD m [],d∈a:=λm hm d hd=>by
  obtain⟨a1,a2,rfl⟩:=List.append_of_mem hm;have:=hE.ahead a1 m (a2++j::b) (by rw[he];simp) d hd;simp[this]
 exact hE.closed hc hE.mem (a.length+1) a j b (by omega) he (λd hd=>hE.ahead a j b he d hd)
def EOkW.oy{j:Nat}(hj:j<l.length):j∉fP V5 j:=λh=>by
 obtain⟨a,b,he⟩:=List.append_of_mem (hE.mem j hj);have h1:=hE.nh he j h;have:=hE.nodup;rw[he]at this;have:=(List.nodup_append.1 this).2.2 j h1 j (by simp);exact this rfl
def ur{i:Nat}{x:St}{e:Nat}{v:V}{Z':ad}(hi:i<l.length)(he:e<l.length)(V2:i≠e)(hu:∀d,(bI l e).dst=some d->d∉(bI l i).l8)
 (hq:∀v,QY P (bI l i) x.s x.U v->QY P (bI l i) x.s Z' v)(h:QYd P (bI l i) x):QYd P (bI l i) ⟨bc x.s (bI l e).dst v,Z'⟩:=by
 unfold QYd at*;have hq':∀v',QY P (bI l i) x.s x.U v'->QY P (bI l i) (bc x.s (bI l e).dst v) Z' v':=λv' hv=>(gU hu).2 (hq v' hv);cases hd:(bI l i).dst with
 |none=>rw[hd]at h;obtain⟨v',h⟩:=h;exact⟨v',hq' v' h⟩
 |some d=>
  rw[hd]at h;simp only at h|-;have:bc x.s (bI l e).dst v d=x.s d:=by
   have:=hE.dsts i e hi he V2 d hd;cases hde:(bI l e).dst with
   |none=>rfl
   |some d'=>
    rw[hde]at this;simp only[bc];rw[aD (λe'=>this (by rw[e']))]
  rw[this];exact hq' _ h
def kX.adv{L:List Nat}{y:St}:∀{rest done:List Nat} {x:St},kX P l V' V5 ord K L y done rest x->
 ∃done' rest' x',kX P l V' V5 ord K L y done' rest' x'/\∀h r,rest'=h::r->dY l V5 h=true
 |[],done,x,h=>⟨done,[],x,h,by simp⟩
 |e::rest,done,x,h=>by
  cases Zo:dY l V5 e with
  |true=>exact⟨done,e::rest,x,h,λa r he=>by cases he;exact Zo⟩
  |false=>
   have hel:e<l.length:=hE.lt e (by rw[h.split];simp);obtain⟨hk,hself⟩:=jf Zo hel (hE.oy hel);have WQ:=hE.nodup;rw[h.split]at WQ;have hed:e∉done:=λhm=>(List.nodup_append.1 WQ).2.2 e hm e (by simp) rfl;have heL:e∉L:=λhm=>hed (h.sub e hm);have Yp:=h.go;rw[eZ,Ej hel,EV,aD (by simp[Zo]),iC]at Yp;have hT:T P (bI l e) x (RE P l K (eZ l V5 (done++[e]) rest)):=by
    rcases Yp with Yp|⟨_,Yp⟩
    .exact Yp
    .exfalso;revert Yp hk;generalize (bI l e).op=op;intro hk Yp;split at Yp
     .simp[br]at hk
     .simp[br]at hk
     .simp[br]at hk
     .exact Yp
   obtain⟨v,hv,hgo'⟩:=(cM (by simp[gw,hk])).1 hT;refine kX.adv (rest:=rest) (done:=done++[e]) (x:=⟨bc x.s (bI l e).dst v,x.U⟩) ⟨by rw[h.split];simp,λi hi=>by simp[h.sub i hi],h.nodup,h.closed,λi hi Yh=>?_,h.store,λd hd=>?_,λi hi hiL=>?_,hgo'⟩
   .rcases ec.1 hi with hi|hi
    .exact h.Yg i hi Yh
    .simp only[jO]at hi;rw[hi,Zo]at Yh;cases Yh
   .have h1:=h.slot d λi hi hiL=>hd i (by simp[hi]) hiL;have h2:=hd e (by simp) heL;rw[h1];simp only;cases hde:(bI l e).dst with
    |none=>rfl
    |some d'=>
     rw[hde]at h2;simp only[bc];rw[aD (λe'=>h2 (by rw[e']))]
   .by_cases Yh:i=e
    .subst Yh;unfold QYd;cases hd:(bI l i).dst with
     |none=>exact⟨v,hv⟩
     |some d=>
      simp only;have e1:bc x.s (some d) v d=v:=by simp[bc]
      rw[e1];exact(gU (λt ht=>by cases ht;exact hself d hd)).2 hv
    .have M':i∈done:=by
      rcases ec.1 hi with hi|hi
      .exact hi
      .simp only[jO]at hi;exact absurd hi Yh
     have Xx:i<l.length:=hE.lt i (by rw[h.split];simp[M']);refine ur hE Xx hel Yh (λd hd hu=>?_) (λv hv=>hv) (h.lag i M' hiL);rcases hE.anti i e Xx hel Yh d hd hu with h1|⟨h1,_⟩
     .obtain⟨a,b,Zs⟩:=List.append_of_mem M';have h2:=hE.nh (a:=a) (j:=i) (b:=b++e::rest) (by rw[h.split,Zs];simp) e h1;exact hed (by rw[Zs];simp[h2])
     .rw[Zo]at h1;cases h1
end
section
variable {l:List aK} {V' V5:List (List Nat)} {ord:List Nat} {K:St->Prop} (hE:EOk l V' V5 ord)
include hE
def qG:∀(f:Nat) (L:List Nat) (y:St) (done rest:List Nat) (x:St),f+L.length=l.length->kX P l V' V5 ord K L y done rest x->jz P l V' K f L y:=by
 intro f
 induction f with
 |zero=>
  intro L y done rest x hf h;have WY:∀i,i<l.length->i∈L:=(uO l.length L h.nodup λi hi=>hE.lt i (by rw[h.split];simp[h.sub i hi])).2 (by omega);have WQ:=hE.nodup;rw[h.split]at WQ;have hrest:rest=[]:=by
   cases rest with
   |nil=>rfl
   |cons e r=>
    exfalso;have hel:e<l.length:=hE.lt e (by rw[h.split];simp);exact(List.nodup_append.1 WQ).2.2 e (h.sub e (WY e hel)) e (by simp) rfl
  subst hrest;have hyx:y=x:=by
   obtain⟨s,U⟩:=y;obtain⟨s',Z'⟩:=x;have h1:U=Z':=h.store;have h2:s=s':=funext λd=>h.slot d λi hi hiL=>absurd (WY i (hE.lt i (by rw[h.split];simp[hi]))) hiL;rw[h1,h2]
  refine⟨?_,by rw[hyx];exact h.go⟩;unfold eD;rw[List.filter_eq_nil_iff];intro i hi;simp only[List.mem_range,hE.dlen]at hi;simp[WY i hi]
 |succ f ih=>
  intro L y done rest x hf h;obtain⟨done,rest,x,h,hhead⟩:=kX.adv hE.toEOkW h;have WQ:=hE.nodup;rw[h.split]at WQ;have hmemL:∀i∈L,i<l.length:=λi hi=>hE.lt i (by rw[h.split];simp[h.sub i hi]);have key:wI P l (jz P l V' K f) L y (eD V' L):=by
   refine qZ λi hi=>?_;obtain⟨Xx,hiL,hdep⟩:=vk hi;rw[hE.dlen]at Xx;refine⟨bI l i,by simp[bI,Zq6 Xx],?_⟩;obtain⟨pa,pb,hpe⟩:=List.append_of_mem (hE.mem i Xx);have ZN:∀j∈fP V5 i,j∈L:=hE.closed h.closed hE.mem (pa.length+1) pa i pb (by omega) hpe hdep;have huses:∀u∈(bI l i).l8,x.s u=y.s u:=λu hu=>(h.slot u λj hj hjL hd=>by
    have Zv:j<l.length:=hE.lt j (by rw[h.split];simp[hj]);by_cases Zd:j=i
    .subst Zd;cases XS:dY l V5 j with
     |true=>exact hjL (h.Yg j hj XS)
     |false=>exact(jf XS Zv (hE.oy Zv)).2 u hd hu
    .rcases hE.anti i j Xx Zv (λe=>Zd e.symm) u hd hu with h1|⟨h1,_⟩
     .exact hjL (ZN j h1)
     .exact hjL (h.Yg j hj h1)).symm
   by_cases M':i∈done
   .have Yh:dY l V5 i=false:=by
     cases Yh:dY l V5 i with
     |false=>rfl
     |true=>exact absurd (h.Yg i M' Yh) hiL
    obtain⟨hk,_⟩:=jf Yh Xx (hE.oy Xx);have hq:=h.lag i M' hiL;obtain⟨v,hv,hvd⟩:∃v,QY P (bI l i) x.s x.U v/\∀d,(bI l i).dst=some d->x.s d=v:=by
     unfold QYd at hq;cases hd:(bI l i).dst with
     |none=>rw[hd]at hq;obtain⟨v,hq⟩:=hq;exact⟨v,hq,by simp⟩
     |some d=>rw[hd]at hq;exact⟨_,hq,λd' e=>by cases e;rfl⟩
    refine .inl ((cM (by simp[gw,hk])).2 ⟨v,?_,?_⟩)
    .rw[h.store];exact BP huses hv
    .refine ih (i::L) _ done rest x (by simp only[XU];omega) ⟨h.split,λj hj=>?_,List.nodup_cons.2 ⟨hiL,h.nodup⟩,λm hm d hd=>?_,λj hj XS=>by simp[h.Yg j hj XS],h.store,λd hd=>?_,λj hj hjL=>h.lag j hj (λhm=>hjL (by simp[hm])),h.go⟩
     .rcases et.1 hj with rfl|hj
      .exact M'
      .exact h.sub j hj
     .rcases et.1 hm with rfl|hm
      .simp[hdep d hd]
      .simp[h.closed m hm d hd]
     .simp only;by_cases hdi:(bI l i).dst=some d
      .rw[hdi];simp only[bc];rw[av trivial];exact(hvd d hdi).symm
      .have h1:=h.slot d λj hj hjL=>by
        by_cases Zd:j=i
        .rw[Zd];exact hdi
        .exact hd j hj (by simp[Zd,hjL])
       rw[<-h1];cases hde:(bI l i).dst with
       |none=>rfl
       |some d'=>
        rw[hde]at hdi;simp only[bc];rw[aD (λe'=>hdi (by rw[e']))]
   .have hir:i∈rest:=by
     have:=hE.mem i Xx;rw[h.split]at this;exact(ec.1 this).resolve_left M'
    obtain⟨hd0,rr,rfl⟩:∃a r,rest=a::r:=by
     cases rest with
     |nil=>cases hir
     |cons a r=>exact⟨a,r,rfl⟩
    have Zo:=hhead hd0 rr rfl;have hh0:hd0∉done:=λhm=>(List.nodup_append.1 WQ).2.2 hd0 hm hd0 (by simp) rfl;have hih:i=hd0:=by
     rcases et.1 hir with e|hir
     .exact e
     .exfalso;have:=hE.Yg (done++[hd0]) rr hd0 i (by rw[h.split];simp) (by simp) hir Zo;exact hh0 (h.sub _ (ZN _ this))
    subst hih;have Yp:=h.go;rw[eZ,Ej Xx]at Yp;refine Ao huses h.store.symm (λr Z' hK=>?_) Yp;rw[EV,av Zo]at hK;obtain⟨hck,hgo'⟩:=ux (λk=>!(dY l V5 k)&&(!(lz (bI l k).op)&&!((fP V5 i).contains k))) (λj hj=>hE.lt j (by rw[h.split];simp[hj])) hK;refine ih (i::L) _ (done++[i]) rr ⟨bc x.s (bI l i).dst r,Z'⟩ (by simp only[XU];omega) ⟨by rw[h.split];simp,λj hj=>?_,List.nodup_cons.2 ⟨hiL,h.nodup⟩,λm hm d hd=>?_,λj hj XS=>?_,rfl,λd hd=>?_,λj hj hjL=>?_,hgo'⟩
    .rcases et.1 hj with rfl|hj
     .simp
     .simp[h.sub j hj]
    .rcases et.1 hm with rfl|hm
     .simp[hdep d hd]
     .simp[h.closed m hm d hd]
    .rcases ec.1 hj with hj|hj
     .simp[h.Yg j hj XS]
     .simp only[jO]at hj;simp[hj]
    .have h1:(bI l i).dst=some d\/y.s d=x.s d:=by
      by_cases hdi:(bI l i).dst=some d
      .exact .inl hdi
      .exact .inr (h.slot d λj hj hjL=>hd j (by simp[hj]) (by
        simp only[et,not_or];exact⟨λe=>M' (e▸hj),hjL⟩))
     simp only;cases hde:(bI l i).dst with
     |none=>rw[hde]at h1;exact h1.resolve_left (by simp)
     |some d'=>
      simp only[bc];split
      .rfl
      .rename_i V2;rw[hde]at h1;exact h1.resolve_left (λe=>V2 (by cases e;rfl))
    .have hjd:j∈done:=by
      rcases ec.1 hj with hj|hj
      .exact hj
      .simp only[jO]at hj;exact absurd (by simp[hj]) hjL
     have hjL':j∉L:=λhm=>hjL (by simp[hm]);have Zv:j<l.length:=hE.lt j (by rw[h.split];simp[hjd]);have Zd:j≠i:=λe=>M' (e▸hjd);have XS:dY l V5 j=false:=by
      cases XS:dY l V5 j with
      |false=>rfl
      |true=>exact absurd (h.Yg j hjd XS) hjL'
     cases hsf:lz (bI l j).op with
     |true=>
      refine ur hE.toEOkW Zv Xx Zd (λd hd hu=>?_) (λv hv=>lg hsf hv) (h.lag j hjd hjL');rcases hE.anti j i Zv Xx Zd d hd hu with h1|⟨_,h1⟩
      .obtain⟨a,b,Zs⟩:=List.append_of_mem hjd;have h2:=hE.nh (a:=a) (j:=j) (b:=b++i::rr) (by rw[h.split,Zs];simp) i h1;exact M' (by rw[Zs];simp[h2])
      .exact hjL' (ZN j h1)
     |false=>
      refine hck j hjd ?_;simp only[XS,hsf,Bool.not_false,Bool.true_and,Bool.not_eq_true'];cases hc:(fP V5 i).contains j with
      |false=>rfl
      |true=>exact absurd (ZN j (List.contains_iff_mem.1 hc)) hjL'
  cases hr:eD V' L with
  |cons a r=>unfold jz;rw[hr]at key|-;exact key
  |nil=>
   exfalso;have:∃i,i∈ord/\i∉L:=by
    by_cases hx:∃i,i∈ord/\i∉L
    .exact hx
    .exfalso;have G':∀i∈ord,i∈L:=λi hi=>Classical.byContradiction λhn=>hx ⟨i,hi,hn⟩;have h1:=hE.nodup.length_le_of_subset G';have:=hE.len;omega
   obtain⟨i,hi,hiL⟩:=this;have first:∀(a b:List Nat),ord=a++b->(∀j∈a,j∈L)->(∃i∈b,i∉L)->∃a' e b',ord=a'++e::b'/\(∀j∈a',j∈L)/\e∉L:=by
    intro a b
    induction b generalizing a with
    |nil=>rintro _ _ ⟨i,h,_⟩;cases h
    |cons e b ihb=>
     intro he ha hx;by_cases heL:e∈L
     .refine ihb (a++[e]) (by rw[he];simp) (λj hj=>?_) ?_
      .rcases ec.1 hj with hj|hj
       .exact ha j hj
       .simp only[jO]at hj;rw[hj];exact heL
      .obtain⟨i,hi,hiL⟩:=hx;rcases et.1 hi with rfl|hi
       .exact absurd heL hiL
       .exact⟨i,hi,hiL⟩
     .exact⟨a,e,b,he,ha,heL⟩
   obtain⟨a,e,b,he,ha,heL⟩:=first [] ord rfl (by simp) ⟨i,hi,hiL⟩
   have hel:e<l.length:=hE.lt e (by rw[he];simp);have:e∈eD V' L:=by
    unfold eD;refine rC.2 ⟨by simp[hE.dlen,hel],?_⟩;simp only[Ba,Bool.not_eq_true',fM];refine⟨by simpa using heL,λd hd=>?_⟩;simpa using ha d (hE.ahead a e b he d hd)
   rw[hr]at this;cases this
end
def ai.rY(hm:P.follows .mixedOrders=true){l:List aK}{V':List (List Nat)}(ord:List Nat)(V5:List (List Nat))(its:List Nat)(hB:eOk l V' V5 ord=true)(hi:eZ l V5 [] ord=its)
 (h:RE P l (λx=>ai P n k x Q) its st):ai P n (.code (.regA l V')::k) st Q:=by
 have hE:=AL hB;refine ai.Mc hm (qG hE l.length [] st [] ord st (by simp) ⟨rfl,by simp,List.nodup_nil,by simp,by simp,rfl,λ_ _=>rfl,by simp,by rw[hi];exact h⟩)
def RE.seg{l:List aK}{K:St->Prop}(rest:List Nat):∀(idx:List Nat) (sg:List aK) {x:St},(idx.map λm=>l[m/2]?)=sg.map some->(idx.all λm=>m%2==0)=true->
 Go P n (.d sg [.stop (RE P l K rest)]) x (λ_=>False)->RE P l K (idx++rest) x
 |[],[],_,_,_,h=>h
 |[],_::_,_,h,_,_=>by simp at h
 |_::_,[],_,h,_,_=>by simp at h
 |m::idx,i::sg,x,h,hev,hg=>by
  simp only[fF,List.cons.injEq]at h;simp only[mV,Ba,beq_iff_eq]at hev;show RE P l K (m::(idx++rest)) x;rw[RE,h.1];simp only[av hev.1];exact .inl (T.mono (λx' Wl=>RE.seg rest idx sg h.2 (by simpa using hev.2) Wl) hg)
def cd{P:Program}{n:Nat}{l:List aK}{K:St->Prop}(rest:List Nat)(idx:List Nat)(sg:List aK){x:St}(h:(idx.map λm=>l[m/2]?)=sg.map some)(he:(idx.all λm=>m%2==0)=true)(hg:step P Xu.nothing n 300 (.d sg [.stop (RE P l K rest)]) x (λ_=>False)):RE P l K (idx++rest) x:=RE.seg rest idx sg h he (sG hg)
def RE.call{l:List aK}{K:St->Prop}{m:Nat}{rest:List Nat}{x:St}{i:aK}(hi:l[m/2]?=some i)(hm:m%2=0){fx:VX}{xs:List VX}(hw:bz x.s i.g=some true)(ho:i.op=.call fx xs){f:FuncId}{caps:List V}(hf:fx.ev x.s=.fn f caps)
 {Post:V->ad->Prop}(hc:au P f (xs.map (·.ev x.s)++caps) x.U Post)(h:∀r Z',Post r Z'->RE P l K rest ⟨bc x.s i.dst r,Z'⟩):RE P l K (m::rest) x:=by
 rw[RE,hi];simp only[av hm];exact .inr ⟨hw,by rw[ho];exact⟨f,caps,Post,hf,hc,h⟩⟩
def RE.IN{l:List aK}{K:St->Prop}{m:Nat}{rest:List Nat}{x:St}{i:aK}(hi:l[m/2]?=some i)(hm:m%2=0){fx:VX}{xs:List VX}(hw:bz x.s i.g=some true)(ho:i.op=.call fx xs){f:FuncId}{caps:List V}(hf:fx.ev x.s=.fn f caps)
 {v:V}(hc:au P f (xs.map (·.ev x.s)++caps) x.U λr Z'=>r=v/\Z'=x.U)(h:RE P l K rest ⟨bc x.s i.dst v,x.U⟩):RE P l K (m::rest) x:=
 RE.call hi hm hw ho hf hc λr Z' ⟨h1,h2⟩=>by subst h1;subst h2;exact h
def reP{P:Program}{l:List aK}{K:St->Prop}{m:Nat}{rest:List Nat}{x:St}{i:aK}{fx:VX}{xs:List VX}{f:FuncId}{caps:List V}{v:V}(hw:(l[m/2]?,m%2,bz x.s i.g,i.op,fx.ev x.s)=(some i,0,some true,.call fx xs,.fn f caps))(hc:au P f (xs.map (·.ev x.s)++caps) x.U λr Z'=>r=v/\Z'=x.U)(h:RE P l K rest ⟨bc x.s i.dst v,x.U⟩):RE P l K (m::rest) x:=RE.IN (congrArg (·.1) hw) (congrArg (·.2.1) hw) (congrArg (·.2.2.1) hw) (congrArg (·.2.2.2.1) hw) (congrArg (·.2.2.2.2) hw) hc h
def RE.chk{l:List aK}{K:St->Prop}{m:Nat}{rest:List Nat}{x:St}{i:aK}(hi:l[m/2]?=some i)(hm:m%2=1){d:Nat}(hd:i.dst=some d)(hw:bz x.s i.g=some true)(hk:br i.op=0)(hp:eL x.s i.op)
 (hv:aJ x.U x.s i.op=some (x.s d))(h:RE P l K rest x):RE P l K (m::rest) x:=by
 rw[RE,hi];simp only[hm,Nat.one_ne_zero,if_false];refine⟨?_,h⟩;unfold QYd;rw[hd];refine .inl ⟨hw,?_⟩;unfold QO;simp only[hk];exact⟨hp,hv⟩
def cT{P:Program}{l:List aK}{K:St->Prop}{m:Nat}{rest:List Nat}{x:St}{i:aK}{d:Nat}(hw:(l[m/2]?,m%2,i.dst,bz x.s i.g,br i.op)=(some i,1,some d,some true,0))(hv:aJ x.U x.s i.op=some (x.s d))(h:RE P l K rest x)(hp:eL x.s i.op:=by exact trivial):RE P l K (m::rest) x:=RE.chk (congrArg (·.1) hw) (congrArg (·.2.1) hw) (congrArg (·.2.2.1) hw) (congrArg (·.2.2.2.1) hw) (congrArg (·.2.2.2.2) hw) hp hv h
variable {P:Program} {n:Nat} {st:St} {Q:St->Prop} {k:List It}
def ai.Uh{k1 k2:List It}(τ:St->Prop)(h1:ai P n (k1++[.stop τ]) st Q)(h2:∀st,τ st->ai P n k2 st Q):ai P n (k1++k2) st Q:=by
 intro F hn kt hk a w hs;obtain⟨kt1,kt2,rfl,W4,Xf⟩:=List.map_eq_append_iff.1 hk;have key:∀(kt:List KI) e a w,l5 P F Q (kt++[.stop τ]) e a w->l5 P F Q (kt++kt2) e a w:=by
  intro kt
  induction kt with
  |nil=>
   intro e a w h;simp only[iC]at h|-;cases e with
   |normal=>obtain⟨st,h3,h4⟩:=h;exact h2 st h3 F hn kt2 Xf a w h4
   |ret=>obtain⟨_,h3⟩:=h;exact lT h3 kt2
   |_=>obtain⟨h3,_⟩:=h;rcases h3 with h3|h3<;>cases h3
  |cons y kt ih=>
   intro e a w h;cases y with
   |code c=>cases e<;>first|exact wpIn_mono h ih|exact ih _ _ _ h
   |inBlock id=>
    cases e<;>simp only[List.cons_append,l5,Exit.inBlock]at h|-<;>(try split at h)<;>(try split)<;>first|exact ih _ _ _ h|contradiction
   |stop μ=>cases e<;>first|exact h|exact ih _ _ _ h
   |ops all l=>cases e<;>first|exact ng ih l a w h|exact ih _ _ _ h
 exact key kt1 _ a w (h1 F hn (kt1++[.stop τ]) (by simp[KI.it,W4]) a w hs)
def ai.gy{x:bW}{id:Nat}(τ:St->Prop)(μ:Nat->St->Prop)(m:Nat)(h0:μ m st)
 (hr:∀m st,μ m st->ai P n (.code x::.stop (λYe=>∃m',m'<m/\μ m' Ye)::[.inBlock id,.stop τ]) st Q)(h2:∀st,τ st->ai P n k st Q):
 ai P n (.code (.loop x)::.inBlock id::k) st Q:=
 ai.Uh (P:=P) (n:=n) (Q:=Q) (st:=st) (k1:=[.code (.loop x),.inBlock id]) (k2:=k) τ (ai.loop μ m h0 hr) h2
open Go.Proofs
def JM{f:O'}{s:Wq}(hf:f.ok)(h:W1 s.a/\W1 s.b):W1 (iq f s).a/\W1 (iq f s).b:=by
 obtain⟨⟨x1,x2⟩,_,⟨w1,w2⟩,_⟩:=hf;obtain⟨⟨a1,a2⟩,b1,b2⟩:=h;unfold iq;split
 .exact⟨⟨by simp only;omega,by simp only;omega⟩,b1,b2⟩
 .exact⟨⟨a1,a2⟩,by simp only;omega,by simp only;omega⟩
def A7:∀{l:List O'} {s:Wq},(∀f∈l,f.ok)->W1 s.a/\W1 s.b->W1 (l.foldl (λs f=>iq f s) s).a/\W1 (l.foldl (λs f=>iq f s) s).b
 |[],_,_,h=>h
 |f::l,s,hl,h=>A7 (l:=l) (λg hg=>hl g (by simp[hg])) (JM (hl f (by simp)) h)
def jk{l:List O'}{y high:Int}{s:Wq}(hl:∀f∈l,f.ok)(h:W1 s.a/\W1 s.b):W1 (bZ l y high s).a/\W1 (bZ l y high s).b:=
 A7 (λf hf=>hl f (rC.1 hf).1) h
def wU{s:Wq}:∀{l:List O'},(∀f∈l,iq f s=s)->l.foldl (λs f=>iq f s) s=s
 |[],_=>rfl
 |f::l,h=>by rw[gC,h f (by simp)];exact wU λg hg=>h g (by simp[hg])
def pH(s:Wq):∀(l:List O') (a:Int×Bool),(l.foldl (je s) a=a\/∃f∈l,l.foldl (je s) a=(f.y+f.h,true))/\(a.2=true->(l.foldl (je s) a).2=true)/\((∃f∈l,iq f s≠s)->(l.foldl (je s) a).2=true)
 |[],a=>⟨.inl rfl,id,by simp⟩
 |f::l,a=>by
  obtain⟨h1,h2,h3⟩:=pH s l (je s a f);have hf:je s a f=a\/je s a f=(f.y+f.h,true):=by unfold je;split<;>simp
  refine⟨?_,λha=>h2 ?_,?_⟩
  .rw[gC];rcases h1 with h1|⟨g,hg,h1⟩
   .rw[h1];rcases hf with hf|hf
    .exact .inl hf
    .exact .inr ⟨f,by simp,hf⟩
   .exact .inr ⟨g,by simp[hg],h1⟩
  .rcases hf with hf|hf<;>rw[hf]
   exact ha
  .rintro⟨g,hg,V2⟩;rcases et.1 hg with rfl|hg
   .refine h2 ?_;unfold je;split
    .rename_i h;exact(h.resolve_left V2).1
    .rfl
   .exact h3 ⟨g,hg,V2⟩
def E5{y high:Int}{f:O'}(h:eJ y high f=true):y<f.y+f.h:=by
 refine Classical.byContradiction λhn=>?_;have:nL ⟨f.y,f.y+f.h⟩ ⟨y,y+max high 1⟩=⟨0,0⟩:=by
  unfold nL;rw[av];simp only;omega
 simp[eJ,this]at h
def fa{l:List O'}{y high:Int}{s:Wq}(h:(cL l y high s).2=true):∃f∈l,y<f.y+f.h/\(cL l y high s).1=f.y+f.h:=by
 rcases(pH s (l.filter (eJ y high)) (0,false)).1 with h1|⟨f,hf,h1⟩
 .unfold cL at h;rw[h1]at h;cases h
 .obtain⟨hl,hm⟩:=rC.1 hf;exact⟨f,hl,E5 hm,by unfold cL;rw[h1]⟩
def my{l:List O'}{y high:Int}{s:Wq}(h:bZ l y high s≠s):(cL l y high s).2=true:=by
 refine(pH s (l.filter (eJ y high)) (0,false)).2.2 (Classical.byContradiction λhn=>h (wU λf hf=>Classical.byContradiction λhe=>hn ⟨f,hf,he⟩))
def gtJ(l:List O')(y:Int):Nat:=(l.filter λf=>decide (y<f.y+f.h)).length
def filter_lt{α:Type}{p q:α->Bool}(hpq:∀x,q x=true->p x=true):∀{l:List α},(l.filter q).length<=(l.filter p).length/\((∃x∈l,p x=true/\q x=false)->(l.filter q).length<(l.filter p).length)
 |[]=>by simp
 |a::l=>by
  obtain⟨h1,h2⟩:=filter_lt hpq (l:=l);cases hp:p a<;>cases hq:q a
  .simp only[List.filter_cons,hp,hq,gi,if_false];refine⟨h1,?_⟩;rintro⟨x,hx,h3,h4⟩;rcases et.1 hx with rfl|hx
   .rw[hp]at h3;cases h3
   .exact h2 ⟨x,hx,h3,h4⟩
  .rw[hpq a hq]at hp;cases hp
  .simp only[List.filter_cons,hp,hq,gi,if_false,if_true,XU];exact⟨by omega,λ_=>by omega⟩
  .simp only[List.filter_cons,hp,hq,if_true,XU];refine⟨by omega,?_⟩;rintro⟨x,hx,h3,h4⟩;rcases et.1 hx with rfl|hx
   .rw[hq]at h4;cases h4
   .have:=h2 ⟨x,hx,h3,h4⟩;omega
def mA{l:List O'}{y z:Int}(h:∃f∈l,y<f.y+f.h/\z=f.y+f.h):gtJ l z<gtJ l y:=by
 obtain⟨f,hf,h1,rfl⟩:=h;exact(filter_lt (p:=λg:O'=>decide (y<g.y+g.h)) (q:=λg:O'=>decide (f.y+f.h<g.y+g.h)) (λg hg=>by simp at hg|-;omega) (l:=l)).2 ⟨f,hf,by simpa using h1,by simp⟩
def mK(l:List O')(w high:Int)(s:Wq)(y:Int):Bool:=decide (w<=fB (bZ l y high s))||decide (bZ l y high s=s)
def kr(l:List O')(w high:Int)(s:Wq):Nat->Int->Int
 |0,y=>y
 |k+1,y=>if mK l w high s y then y else kr l w high s k (cL l y high s).1
def gQ(l:List O')(w high:Int)(s:Wq)(y:Int):Int:=kr l w high s l.length y
def yS{l:List O'}{y high:Int}{s:Wq}(hl:∀f∈l,f.ok)(h:(cL l y high s).2=true):W1 (cL l y high s).1:=by
 obtain⟨f,hf,_,e⟩:=fa h;obtain⟨_,⟨a1,a2⟩,_,b1,b2⟩:=hl f hf;rw[e];exact⟨by omega,by omega⟩
def tK(l:List O')(high y:Int)(s:Wq):V:=.agg [vI s.a,vI s.b,aC l,vI high,vI y]
def DB(l:List O')(high y:Int)(s:Wq)(hl:l.length<=1000000)(VE:∀f∈l,f.ok)(hy:W1 y)(hh:Bq high):aL prog 234 [tK l high y s] (aV (bZ l y high s)):=λU=>by
 refine Sf.q ?_;have hs:=aa.refl U;refine ai.mix 3 ?_;have e1:(aC l).cells=[aC l]:=rfl;have e2:(aC l).stays=true:=rfl;apply sR;simp only[go_sem,seval,R5,tK,e1,e2];refine ar hs λi1 Z1 s1 a1 f1 z1 hs=>?_;simp only[go_sem,seval,a1,e1,e2];refine ar hs λi2 Z2 s2 a2 f2 z2 hs=>?_;obtain⟨n12,a1⟩:=VB a1 f2 s2;simp only[go_sem,seval,a2,a1];refine pS rfl (DN l y high s hl VE hy hh _) ?_;simp only[go_sem,seval,a2,aV];exact ak.pure (hs.az z2) rfl
def J0(l:List O')(w high y:Int)(s:Wq)(hl:l.length<=1000000)(VE:∀f∈l,f.ok)(hy:W1 y)(hh:Bq high)(W9:W1 s.a/\W1 s.b):aL prog 232 [tK l high y s,vI w] (.bool (mK l w high s y)):=λU=>by
 refine Vh.q ?_;have hs:=aa.refl U;refine ai.mix 5 ?_;have hb:=DB l high y s hl VE hy hh;have hlen:=I9 (bZ l y high s) (jk VE W9).1 (jk VE W9).2;unfold mK;generalize bZ l y high s=b at*;have e1:(aC l).cells=[aC l]:=rfl;have e2:(aC l).stays=true:=rfl;apply sR;simp only[go_sem,seval,RU,tK,e1,e2];refine ar hs λi2 Z2 s2 a2 f2 z2 hs=>?_;simp only[go_sem,seval,a2,e1,e2];refine pJ rfl hb ?_;apply sG;simp only[go_sem,seval];refine pJ rfl hlen ?_;by_cases h1:w<=fB b
 .have q:(w<=fB b)=True:=L' h1;apply sG;simp only[go_sem,seval,q,a2];exact ak.pure hs (by simp[h1])
 .have q:(w<=fB b)=False:=H' h1;apply sG;simp only[go_sem,seval,q,a2];refine pJ rfl hb ?_;obtain⟨b1,b2⟩:=b;obtain⟨s1,s2⟩:=s;apply sG;simp only[go_sem,seval,a2,aV];refine ak.pure hs ?_;by_cases h2:b1=s1<;>by_cases h3:b2=s2<;>simp[h1,h2,h3]
def H5(l:List O')(w high y:Int)(s:Wq)(hl:l.length<=1000000)(VE:∀f∈l,f.ok)(hy:W1 y)(hh:Bq high)(W9:W1 s.a/\W1 s.b):
 aL prog 180 [aC l,vI w,vI high,vI y,aV s] (.VG [aV (bZ l (gQ l w high s y) high s),vI (gQ l w high s y)]):=λU=>by
 refine Uj.q ?_;have hs:=aa.refl U;refine ai.mix 13 ?_;have e1:(aC l).cells=[aC l]:=rfl;have e2:(aC l).stays=true:=rfl;apply sR;simp only[go_sem,seval,RN,aV];refine ar hs λi9 Z9 s9 a9 f9 z9 hs=>?_;simp only[go_sem,seval,a9];refine ar hs λi10 Z10 XV Wn f10 YK hs=>?_;obtain⟨n910,a9⟩:=VB a9 f10 XV;simp only[go_sem,seval,Wn,a9,e1,e2];refine ar hs λi12 Y12 s12 a12 f12 z12 hs=>?_;obtain⟨n912,a9⟩:=VB a9 f12 s12;obtain⟨n1012,Wn⟩:=VB Wn f12 s12;simp only[go_sem,seval,a12,Wn,a9,e1,e2];generalize Xp:C' _ i12 _=Z12;replace a12:=WC Xp;replace a9:=VN Xp n912 a9;replace Wn:=VN Xp n1012 Wn;replace hs:=WD Xp hs z12;obtain⟨z,hz⟩:∃z,z=gQ l w high s y:=⟨_,rfl⟩
 rw[<-hz];refine ai.gy (λst=>∃J,st.U=J/\aa U J/\J i12=some ⟨303,5,[tK l high z s]⟩/\J i10=some ⟨219,2,[.agg [vI 0,vI 0]]⟩/\st.s 10=.ptr i10 0 0/\st.s 12=.ptr i12 0 0/\W1 z)
  (λm st=>∃(y':Int) (k:Nat),m=gtJ l y'/\gtJ l y'<=k/\z=kr l w high s k y'/\W1 y'/\aa U st.U/\st.U i12=some ⟨303,5,[tK l high y' s]⟩/\st.U i10=some ⟨219,2,[.agg [vI 0,vI 0]]⟩/\st.s 1=vI w/\st.s 10=.ptr i10 0 0/\st.s 12=.ptr i12 0 0) (gtJ l y) ?_ ?_ ?_
 .exact⟨y,l.length,rfl,List.length_filter_le _ _,hz,hy,hs,a12,Wn,rfl,rfl,rfl⟩
 .rintro m ⟨S,J⟩ ⟨y',k,rfl,hk,hzk,hy',hs,b12,b10,k1,XW,Xk⟩;simp only at hs b12 b10 k1 XW Xk;refine ai.mix 13 ?_;rw[tK]at b12;apply sR;simp only[go_sem,seval,k1,XW,Xk,b12,e1,e2];refine pR rfl (J0 l w high y' s hl VE hy' hh W9 _) ?_;cases hf:mK l w high s y'
  .have V2:bZ l y' high s≠s:=λe=>by simp[mK,e]at hf
   have hfd:=my V2;have hdec:=mA (fa hfd);apply sR;simp only[go_sem,seval,k1,XW,Xk,b12,e1,e2];refine pS rfl (Is l y' high s hl VE hy' hh _) ?_;simp only[go_sem,seval,k1,XW,Xk,b12,e1,e2];obtain⟨k',rfl⟩:∃k',k=k'+1:=⟨k-1,by omega⟩
   rw[kr,hf]at hzk;have n:i12≠i10:=n1012.symm;refine⟨_,hdec,_,k',rfl,by omega,by simpa using hzk,yS VE hfd,hs.az z12,rfl,?_⟩;rw[ab n1012];exact b10
  .have hzy:z=y':=by cases k<;>simp[kr,hf]at hzk<;>exact hzk
   subst hzy;apply sR;simp only[go_sem,seval,k1,XW,Xk,b12,e1,e2];exact⟨J,rfl,hs,b12,b10,hy'⟩
 .rintro⟨S,J⟩ ⟨X',rfl,hs,b12,b10,XW,Xk,hz2⟩;simp only at hs b12 b10 XW Xk;rw[tK]at b12;refine mS 13 ?_;simp only[go_sem,seval,XW,Xk];refine ai.rY (by kernel_rfl) [0,2,3,1,4,5] [[],[0],[],[2],[0,1],[0,1,2,3,4]] [0,4,6,2,7,8,7,10] (by kernel_rfl) (by kernel_rfl) ?_;refine cd (n:=0) [2,7,8,7,10] [0,4,6] [_,_,_] rfl rfl ?_;simp only[go_sem,seval,XW,Xk,b12,e1,e2];refine reP rfl (DB l high z s hl VE hz2 hh _) ?_;refine cT rfl (by simp only[go_sem,seval,XW,Xk,b12,b10,e1,e2]) ?_;refine cd (n:=0) [7,10] [8] [_] rfl rfl ?_;simp only[go_sem,seval,XW,Xk,b12,b10,aV,e1,e2];refine cT rfl (by simp only[go_sem,seval,XW,Xk,b12,b10,ab n1012.symm,e1,e2]) ?_;refine cd (n:=0) [] [10] [_] rfl rfl ?_;simp only[go_sem,seval,XW,Xk,b12,b10,aV,e1,e2];apply sR;simp only[go_sem,seval,XW,Xk,ag,aV];exact ak.pure (hs.az YK) rfl
open Go.Proofs
def ny(e sz b:Nat):U':=⟨8,.seq (.reg false [⟨some 2,.mov (.c .aO),none⟩]) (.seq (.seq (.reg false [⟨some 3,.mov (.t 0),none⟩,⟨some 4,.Zk false (.t 3) (.c (.iface 0 .undef)),none⟩]) (.cond (.t 4) (.seq (.reg false [⟨some 2,.mov (.c .aO),none⟩]) .ret) .skip)) (.seq (.reg false [⟨some 5,.gW e sz [],none⟩,⟨some 6,.mov (.t 0),none⟩,⟨some 7,.append e sz b (.t 5) (.t 6),none⟩,⟨some 2,.mov (.t 7),none⟩]) .ret)),[.tmp (.t 2)]⟩
def we{P:Program}{f:FuncId}{fn:Func}(hf:P.funcs[f]?=some fn){e sz b:Nat}(hc:cfn P fn=some (ny e sz b))(hk:fK P f=true)(rows:List V)(hb:rows.length*(b+1)<=140737488355328)(U:ad):
 au P f [.sl sz rows] U λr Z'=>aa U Z'/\ay U Z' e sz r rows:=by
 refine au.mC hf hc hk (by simp[ny]) ?_;refine ai.mix 3 ?_
 (refine ai.bH Xu.nothing 8 ?_;simp only[go_sem,seval,rB,ny])
 refine ai.Fq rfl rfl rfl λt ht=>?_;cases t
 .apply sR;simp only[go_sem,seval];refine aA λid1 Z1 s1 a1 f1=>?_;obtain⟨idA,hd,VL⟩:=(ay.new (K:=U) (e:=e) (sz:=sz) (n:=0) (rows:=[]) rfl a1 f1).dst (aa.refl _);have hsrc:∀U,bM U sz (.sl sz rows)=some rows:=λU=>by simp[bM]
  simp only[go_sem,seval,hd,hsrc,hb];refine bt λid2 Z2 s2 a2 f2=>?_;have Yr:=(VL U (aa.refl _) Z1 s1).trans s2;simp only[go_sem,seval];exact WZ ⟨Yr,ay.new (by simp) a2 (s1.none f2)⟩
 .apply sR;simp only[go_sem,seval];obtain rfl:rows=[]:=ht rfl;exact WZ ⟨aa.refl _,ay.start⟩
def AJ{P:Program}{f:FuncId}{fn:Func}(hf:P.funcs[f]?=some fn){e sz b:Nat}(hc:cfn P fn=some (ny e sz b))(hk:fK P f=true)(rows:List V)(hb:rows.length*(b+1)<=140737488355328):
 aL P f [.sl sz rows] (.sl sz rows):=λU=>(we hf hc hk rows hb U).Da λ_ _ h=>h.2.pX h.1 rfl
def aX(l:List O'):(aC l).cells=[aC l]:=rfl
def aY(l:List O'):(aC l).stays=true:=rfl
def kI{tell:O'->Int×Bool}{l:List O'}(h:(cH tell l).2=true):∃f∈l,(cH tell l).1=(tell f).1/\(tell f).2=true:=by
 have key:∀(l:List O') (a:Int×Bool),l.foldl (iy tell) a=a\/∃f∈l,l.foldl (iy tell) a=((tell f).1,true)/\(tell f).2=true:=by
  intro l
  induction l with
  |nil=>intro a;exact .inl rfl
  |cons g l ih=>
   intro a;rw[gC];rcases ih (iy tell a g)with h|⟨f,hf,h,h'⟩
   .rw[h];unfold iy;split
    .rename_i hc;exact .inr ⟨g,by simp,rfl,hc.1⟩
    .exact .inl rfl
   .exact .inr ⟨f,by simp[hf],h,h'⟩
 rcases key l (0,false)with h1|⟨f,hf,h1,h2⟩
 .unfold cH at h;rw[h1]at h;cases h
 .exact⟨f,hf,by unfold cH;rw[h1],h2⟩
def kY(l:List O')(w high:Int)(s:Wq)(y:Int):Bool:=!(cL l y high s).2||decide (fB (bZ l y high s)>=w)
def jd(l:List O')(w high:Int)(s:Wq):Nat->Int->Int
 |0,y=>y
 |k+1,y=>if kY l w high s y then y else jd l w high s k (cL l y high s).1
def rb(l:List O')(w high:Int)(s:Wq)(y:Int):Int:=jd l w high s l.length y
def Aw(f:O')(l:List O')(s:Wq):V:=.agg [vI f.node,vI f.side,vI f.anchor,vI f.x,vI f.y,vI f.w,vI f.h,aC l,vI s.a,vI s.b]
def Kf(l:List O')(f:O')(y:Int)(s:Wq)(hl:l.length<=1000000)(VE:∀f∈l,f.ok)(hy:W1 y)(hh:Bq f.h)(W9:W1 s.a/\W1 s.b):
 aL prog 268 [Aw f l s,vI y] (.VG [aV (bZ l (rb l f.w f.h s y) f.h s),vI (rb l f.w f.h s y)]):=λU=>by
 refine Sd.q ?_;have hs:=aa.refl U;refine mS 9 ?_;simp only[go_sem,seval,OA,Aw,aX,aY];refine ar hs λi2 Z2 s2 a2 f2 z2 hs=>?_;simp only[go_sem,seval,a2,aX,aY];refine ar hs λi4 Z4 s4 a4 f4 z4 hs=>?_;obtain⟨n24,a2⟩:=VB a2 f4 s4;simp only[go_sem,seval,a4,a2];obtain⟨z,hz⟩:∃z,z=rb l f.w f.h s y:=⟨_,rfl⟩
 rw[<-hz];refine ai.loop (λm st=>∃(y':Int) (k:Nat),m=gtJ l y'/\gtJ l y'<=k/\z=jd l f.w f.h s k y'/\W1 y'/\aa U st.U/\st.U i2=some ⟨337,10,[Aw f l s]⟩/\st.U i4=some ⟨219,2,[.agg [vI 0,vI 0]]⟩/\st.s 1=vI y'/\st.s 2=.ptr i2 0 0/\st.s 4=.ptr i4 0 0) (gtJ l y) ?_ ?_
 .exact⟨y,l.length,rfl,List.length_filter_le _ _,hz,hy,hs,a2,a4,rfl,rfl,rfl⟩
 .rintro m ⟨S,J⟩ ⟨y',k,rfl,hk,hzk,hy',hs,b2,b4,k1,k2,k4⟩;simp only at hs b2 b4 k1 k2 k4;refine ai.mix 9 ?_;rw[Aw]at b2;have hb:=jk (y:=y') (high:=f.h) VE W9;apply sR;simp only[go_sem,seval,k1,k2,k4,b2,aX,aY];refine pS rfl (DN l y' f.h s hl VE hy' hh _) ?_;simp only[go_sem,seval,aV];refine aA λi6 Z6 s6 a6 f6=>?_;have n26:=aU b2 f6;have n46:=aU b4 f6;replace b2:=s6 _ _ b2;replace b4:=s6 _ _ b4;obtain⟨z6,hs⟩:=nwZ hs f6 s6;simp only[go_sem,seval,a6,b2,k1,k2,k4,ab n26,aX,aY];generalize hq:C' _ i6 _=Y6;have a6':=(congrFun hq i6).symm.trans ag;have b2':=((congrFun hq i2).symm.trans (ab n26)).trans b2;have b4':=((congrFun hq i4).symm.trans (ab n46)).trans b4;replace hs:=Eq.subst (motive:=aa _) hq (hs.az z6);refine pR rfl (Is l y' f.h s hl VE hy' hh _) ?_;have hex:kY l f.w f.h s y'=true->z=y':=λh=>by cases k<;>simp[jd,h]at hzk<;>exact hzk
  have hlen:=I9 (bZ l y' f.h s) hb.1 hb.2;have Yp:kY l f.w f.h s y'=false->∃k',k=k'+1/\gtJ l (cL l y' f.h s).1<gtJ l y'/\z=jd l f.w f.h s k' (cL l y' f.h s).1/\W1 (cL l y' f.h s).1:=λh=>by
   have h2:(cL l y' f.h s).2=true:=by
    simp only[kY,Bool.or_eq_false_iff,Bool.not_eq_false']at h;exact h.1
   have hdec:=mA (fa h2);obtain⟨k',rfl⟩:∃k',k=k'+1:=⟨k-1,by omega⟩
   rw[jd,h]at hzk;exact⟨k',rfl,hdec,by simpa using hzk,yS VE h2⟩
  unfold kY at hex Yp;cases hn:(cL l y' f.h s).2
  .rw[hn]at hex;obtain rfl:=hex (by simp);apply sR;simp only[go_sem,seval,k1,k2,k4,a6',b4',b2'];exact ak.pure (hs.az z4) rfl
  .rw[hn]at hex Yp;apply sR;simp only[go_sem,seval,k1,k2,k4,a6',b2'];refine pJ rfl hlen ?_;by_cases hw:fB (bZ l y' f.h s)>=f.w
   .have q:(fB (bZ l y' f.h s)>=f.w)=True:=L' hw;obtain rfl:=hex (by simp[hw]);apply sG;simp only[go_sem,seval,k1,k2,k4,a6',b4',b2',q,aX,aY];exact ak.pure (hs.az z4) rfl
   .have q:(fB (bZ l y' f.h s)>=f.w)=False:=H' hw;obtain⟨k',rfl,h1,h2,h3⟩:=Yp (by simp[hw]);apply sG;simp only[go_sem,seval,k1,k2,k4,a6',b4',b2',q,aX,aY];refine⟨_,h1,_,k',rfl,by omega,h2,h3,hs,?_⟩;exact⟨by rw[Aw],rfl⟩
structure WOk(ws:List Int)(space:Int):Prop where
 len:ws.length<=100000
 rng:∀x∈ws,0<=x/\x<=1099511627776
 s0:0<=space
 s1:space<=1099511627776
def iz(space:Int):List Int->Nat->Int->List (Nat×Int)
 |[],_,_=>[]
 |x::r,k,n=>(k+1,n+space+x)::iz space r (k+1) (n+space+x)
def kS(space width:Int):List Int->Nat->Int->Nat×Int
 |[],k,n=>(k,n)
 |x::r,k,n=>if n+space+x>width then(k,n)else kS space width r (k+1) (n+space+x)
def jl(ws:List Int)(space width:Int)(i:Nat):Nat×Int:=kS space width (ws.drop (i+1)) (i+1) (ws.getD i 0)
def tD(space width:Int):∀(r:List Int) (k:Nat) (n:Int),k<=(kS space width r k n).1/\(kS space width r k n).1<=k+r.length
 |[],k,n=>by simp[kS]
 |x::r,k,n=>by
  rw[kS];split
  .simp
  .have:=tD space width r (k+1) (n+space+x);simp only[XU];omega
def tB{ws:List Int}{space width:Int}{i:Nat}(h:i<ws.length):i<(jl ws space width i).1/\(jl ws space width i).1<=ws.length:=by
 have:=tD space width (ws.drop (i+1)) (i+1) (ws.getD i 0);rw[ri]at this;unfold jl;omega
def WOk.get{ws:List Int}{space:Int}(h:WOk ws space){i:Nat}(hi:i<ws.length):0<=ws[i]/\ws[i]<=1099511627776:=h.rng _ (Ws hi)
def xB(l:List Int):Int:=l.foldl (·+·) 0
def foldl_add(l:List Int):∀a:Int,l.foldl (·+·) a=a+xB l:=by
 unfold xB
 induction l with
 |nil=>intro a;simp
 |cons x l ih=>intro a;simp only[gC];rw[ih (a+x),ih (0+x)];omega
def tN(a b:List Int):xB (a++b)=xB a+xB b:=by
 unfold xB;rw[kZ,foldl_add];rfl
def wu(x:Int):xB [x]=x:=by simp[xB]
def kc(ws:List Int)(space:Int)(i j:Nat):Int:=((j:Int)-i-1)*space+xB ((ws.take j).drop i)
def FP{ws:List Int}{space:Int}{i:Nat}(h:i<ws.length):kc ws space i (i+1)=ws[i]:=by
 unfold kc;rw[XH h,C4 (by simp;omega),List.drop_of_length_le (by rw[jN];omega),iC,wu];have:((i+1:Nat):Int)-i-1=0:=by omega
 rw[this];omega
def CI{ws:List Int}{space:Int}{i j:Nat}(hij:i<=j)(h:j<ws.length):kc ws space i (j+1)=kc ws space i j+space+ws[j]:=by
 unfold kc;rw[XH h,C4 (by simp;omega),tN,wu];have:((j+1:Nat):Int)-i-1=((j:Int)-i-1)+1:=by omega
 rw[this,Int.add_mul];omega
def C9{ws:List Int}{space width:Int}{i j:Nat}(hij:i<j):
 kS space width (ws.drop j) j (kc ws space i j)=if j<ws.length/\kc ws space i (j+1)<=width then kS space width (ws.drop (j+1)) (j+1) (kc ws space i (j+1))else(j,kc ws space i j):=by
 by_cases h:j<ws.length
 .rw[ju h,kS,CI (by omega) h];by_cases hw:kc ws space i j+space+ws[j]<=width
  .rw[aD (by omega),av ⟨h,hw⟩]
  .rw[av (by omega),aD (λhh=>hw hh.2)]
 .rw[List.drop_of_length_le (by omega),kS,aD (λhh=>h hh.1)]
open Go.Proofs
def ldI(U:ad)(l:List Int):cj U false 1 (.rp (bb l))=some (bb l):=rfl
def aj(l:List Int):(bb l).cells=[bb l]:=rfl
def al(l:List Int):(bb l).stays=true:=rfl
def du{U:ad}{l:List Int}{i:Nat}(h:i<l.length):bO U 1 (bb l) (.int .i64 i)=some (.rp (vI l[i])):=by simp[bb,bO,h]
def dd(l:List Int):dX false (bb l)=some (.int .i64 l.length):=by simp[bb,dX]
def lA(ws:List Int)(space:Int):V:=.agg [bb ws,vI space]
def Nu(ws:List Int)(space:Int):gn false 0 1 (.rp (lA ws space))=some (.rp (bb ws)):=rfl
def MJ(ws:List Int)(space:Int):gn false 1 1 (.rp (lA ws space))=some (.rp (vI space)):=rfl
def AS(ws:List Int)(space:Int):(lA ws space).cells=[bb ws,vI space]:=rfl
def Bz(ws:List Int)(space:Int):(lA ws space).stays=true:=rfl
def Pp(ws:List Int)(space i:Int):aL prog 284 [lA ws space,vI i] (.bool (decide (i<0\/i>=ws.length))):=λU=>by
 refine Tm.q ?_;have hs:=aa.refl U;have hn:=dd ws;apply sR;simp only[go_sem,seval,Ph,lA,aj,al];refine ar hs λi2 Z2 s2 a2 f2 z2 hs=>?_;by_cases h:i<0
 .have q:(i<0)=True:=L' h;simp only[go_sem,seval,a2,q,aj,al];exact ak.pure hs (by simp[h])
 .have q:(i<0)=False:=H' h;simp only[go_sem,seval,a2,q,hn,aj,al];exact ak.pure hs (by simp[h])
def hU(l:List (Nat×Int)):List (List V):=l.map λp=>[vI p.1,vI p.2]
def Fa(ws:List Int)(space:Int)(hw:WOk ws space)(i:Nat)(hi:i<ws.length):Iter prog 293 [.rp (lA ws space),.rp (vI i)] (hU (iz space (ws.drop i) i (0-space))):=by
 refine⟨RS.c,λWp τ Jx Z0 hy hJ=>?_⟩;refine(RS.q ?_).2;have Wm:=hw.s0;have W9:=hw.s1;have Xs:=hw.len;have hn:=dd ws;have r0:VO .i64 (0-space):=ae;refine mS 6 ?_;simp only[BB,seval,<-decide_not,br,eL,aJ,cY,eN,fm,gk,eP,cS,mZ,bP,jy,gA,gV,eI,eT,cP,lu,dJ,dn,cF,Xl,mj,dT,cE,jV,ef,cX,dV,dP,nN,binBV,dk,ei,V.cells,V.stays,Xu.nothing,Qx,ldI,Nu,MJ,r0];refine ai.loop (λm st=>∃(pre:List (Nat×Int)) (j:Nat) (n:Int) (ZJ:ad),m=ws.length-j/\i<=j/\j<=ws.length/\-1099511627776<=n/\n<=2199023255552*j/\iz space (ws.drop i) i (0-space)=pre++iz space (ws.drop j) j n/\
  τ (hU pre) ZJ/\aa ZJ st.U/\st.s 0=.yl Wp/\st.s 1=.rp (lA ws space)/\st.s 4=vI n/\st.s 5=vI j) (ws.length-i) ?_ ?_
 .exact⟨[],i,0-space,Z0,rfl,by omega,by omega,by omega,by omega,rfl,hJ,aa.refl _,rfl,rfl,rfl,rfl⟩
 .rintro m ⟨s,Z'⟩ ⟨pre,j,n,ZJ,rfl,hij,hj,hn1,hn2,YV,hJp,G',t0,t1,t4,t5⟩;simp only at G' t0 t1 t4 t5;refine ai.mix 6 ?_;by_cases B':j<ws.length
  .have q:=qT B';have hx:=hw.get B';have VC:=λU=>du (U:=U) B';rw[ju B',iz]at YV;generalize ws[j]=w at*;have r1:VO .i64 (space+w):=ae;have r2:VO .i64 (n+(space+w)):=ae;have r3:=rI j;have en:n+space+w=n+(space+w):=by omega
   rw[en]at YV;have e:hU (iz space (ws.drop i) i (0-space))=hU pre++[vI ((j:Int)+1),vI (n+(space+w))]::hU (iz space (ws.drop (j+1)) (j+1) (n+(space+w))):=by rw[YV];simp[hU]
   apply sR;simp only[BB,seval,<-decide_not,br,eL,aJ,cY,eN,fm,gk,eP,cS,mZ,bP,jy,gA,gV,eI,eT,cP,lu,dJ,dn,cF,Xl,mj,dT,cE,jV,ef,cX,dV,dP,nN,binBV,dk,ei,V.cells,V.stays,Xu.nothing,t0,t1,t4,t5,hn,q,ldI,Nu,MJ,VC,r1,r2,r3];refine ai.oV (Post:=λb Z2=>∃Wh,bF ZJ Z' Wh Z2/\((b=true/\τ (hU pre++[[vI ((j:Int)+1),vI (n+(space+w))]]) Wh)\/(b=false/\Jx (hU pre++[[vI ((j:Int)+1),vI (n+(space+w))]]) Wh))) rfl rfl rfl (hy _ _ _ ZJ Z' e hJp G') ?_;rintro b Z2 ⟨Wh,Ya,XL⟩;rcases XL with⟨rfl,XL⟩|⟨rfl,XL⟩
   .apply sR;simp only[go_sem,seval,t0,t1,t4,t5,r3];refine⟨_,?_,pre++[(j+1,n+(space+w))],j+1,n+(space+w),Wh,rfl,by omega,by omega,by omega,by omega,by rw[YV];simp,?_,Ya.1,by simp[t0,t1]⟩
    .omega
    .simpa[hU]using XL
   .apply sR;simp only[go_sem,seval,t0,t1,t4,t5];refine⟨_,Wh,Ya.1,Wk.refl Ya.1 _,.inr ⟨_,?_,XL⟩⟩;rw[e];exact⟨hU (iz space (ws.drop (j+1)) (j+1) (n+(space+w))),by simp⟩
  .have q:=qF B';apply sR;simp only[BB,seval,<-decide_not,br,eL,aJ,cY,eN,fm,gk,eP,cS,mZ,bP,jy,gA,gV,eI,eT,cP,lu,dJ,dn,cF,Xl,mj,dT,cE,jV,ef,cX,dV,dP,nN,binBV,dk,ei,V.cells,V.stays,Xu.nothing,t0,t1,t4,t5,hn,q,ldI,Nu,MJ];rw[show ws.drop j=[]from List.drop_of_length_le (by omega),iz,jt]at YV;exact⟨_,ZJ,G',Wk.refl G' _,.inl (by rw[YV];exact hJp)⟩
def NG(ws:List Int)(space:Int)(i:Int):aL prog 285 [lA ws space,vI i] (.fn 293 [.rp (lA ws space),.rp (vI i)]):=λU=>by
 refine Uv.q ?_;refine ai.mix 4 ?_;have q1:=AS ws space;have q2:=Bz ws space;have q3:(lA ws space).cells.length=2:=rfl;generalize hx:lA ws space=x at*;apply sR;simp only[go_sem,seval,Rp,q1,q2,q3];refine aA λid1 Z1 s1 a1 f1=>?_;simp only[go_sem,seval];refine aA λid2 Z2 s2 a2 f2=>?_;simp only[go_sem,seval];exact⟨_,U,s1.trans s2,Wk.fn (vs':=[.rp x,.rp (vI i)]) ⟨Wk.ptr (s1.trans s2) (s2 _ _ a1) f1,Wk.ptr (s1.trans s2) a2 (s1.none f2),trivial⟩,rfl,rfl⟩
open Go.Proofs
def tE(i j n:Int):V:=.agg [vI i,vI j,vI n]
structure TkJ(ws:List Int)(space width:Int)(i:Nat)(U:ad)(id6 id7 id8 id10:Nat)(pre:List (List V))(v:V)(ZJ:ad):Prop where
 sub:aa U ZJ
 r8:ZJ id8=some ⟨315,3,[.agg [vI 0,vI 0,vI 0]]⟩
 r6:ZJ id6=some ⟨3,1,[vI width]⟩
 r7:ZJ id7=some ⟨3,1,[vI i]⟩
 r10:ZJ id10=some ⟨315,3,[v]⟩
 st:(pre=[]/\v=.agg [vI 0,vI 0,vI 0])\/∃n:Int,0<pre.length/\i+pre.length<=ws.length/\hU (iz space (ws.drop i) i (0-space))=pre++hU (iz space (ws.drop (i+pre.length)) (i+pre.length) n)/\
  jl ws space width i=kS space width (ws.drop (i+pre.length)) (i+pre.length) n/\v=.agg [vI i,vI (i+pre.length:Nat),vI n]
def JS(ws:List Int)(space width:Int)(hw:WOk ws space)(i:Nat)(hi:i<ws.length):aL prog 261 [bb ws,vI space,vI width,vI i] (tE i (jl ws space width i).1 (jl ws space width i).2):=λU=>by
 refine Sz.q ?_;have hs:=aa.refl U;have Xs:=hw.len;refine mS 13 ?_;simp only[go_sem,seval,Qf];refine ar hs λi6 Z6 s6 a6 f6 z6 hs=>?_;simp only[go_sem,seval,a6,aj,al];refine ar hs λi7 Z7 s7 a7 f7 z7 hs=>?_;obtain⟨Zw,a6⟩:=VB a6 f7 s7;simp only[go_sem,seval,a7,a6,aj,al];refine ar hs λi8 Z8 s8 a8 f8 z8 hs=>?_;obtain⟨n68,a6⟩:=VB a6 f8 s8;obtain⟨YW,a7⟩:=VB a7 f8 s8;simp only[go_sem,seval,a8,a7,a6,aj,al];refine ar hs λi9 Z9 s9 a9 f9 z9 hs=>?_;obtain⟨n69,a6⟩:=VB a6 f9 s9;obtain⟨n79,a7⟩:=VB a7 f9 s9;obtain⟨n89,a8⟩:=VB a8 f9 s9;simp only[go_sem,seval,a9,a8,a7,a6,aj,al,ab n69,ab n79,ab n89];generalize Wz:C' _ i9 _=Y9;replace a9:=WC Wz;replace a6:=VN Wz n69 a6;replace a7:=VN Wz n79 a7;replace a8:=VN Wz n89 a8;replace hs:=WD Wz hs z9;have hf:=Pp ws space i;rw[show decide ((i:Int)<0\/(i:Int)>=ws.length)=false by simp;omega]at hf;refine pS rfl (hf _) ?_;simp only[go_sem,seval,a9,a8,a7,a6];refine ar hs λi10 Z10 XV Wn f10 YK hs=>?_;obtain⟨n610,a6⟩:=VB a6 f10 XV;obtain⟨YN,a7⟩:=VB a7 f10 XV;obtain⟨n810,a8⟩:=VB a8 f10 XV;obtain⟨n910,a9⟩:=VB a9 f10 XV;simp only[go_sem,seval,Wn,a9,a8,a7,a6];refine pS rfl (NG ws space i _) ?_;simp only[go_sem,seval,Wn,a9,a8,a7,a6];generalize hS:mix 13 _ _=S;have S6:S 6=.ptr i6 0 0:=by rw[<-hS];rfl
 have S7:S 7=.ptr i7 0 0:=by rw[<-hS];rfl
 have S8:S 8=.ptr i8 0 0:=by rw[<-hS];rfl
 have S10:S 10=.ptr i10 0 0:=by rw[<-hS];rfl
 have S22:S 22=.fn 293 [.rp (lA ws space),.rp (vI i)]:=by rw[<-hS];rfl
 clear hS;have hit:=Fa ws space hw i hi;have hdr:ws.drop i=ws[i]::ws.drop (i+1):=ju hi;have ZK:ws.getD i 0=ws[i]:=by simp[hi]
 have hxi:=hw.get hi;have fin:∀(J:ad) (w:V),aa U J->J i8=some ⟨315,3,[.agg [vI 0,vI 0,vI 0]]⟩->J i10=some ⟨315,3,[tE i (jl ws space width i).1 (jl ws space width i).2]⟩->
  ai prog 39 [It.code (.seq (.reg false [⟨some 38,.load true 3 (.t 10),none⟩,⟨none,.store 3 (.t 8) (.t 38),none⟩]) .ret)] ⟨S,J⟩ (λst=>Ret [VR.cell true 3 (VX.t 8)] st λr Z'=>r=tE i (jl ws space width i).1 (jl ws space width i).2/\Z'=U):=by
  intro J w h1 h2 h3;refine ai.mix 13 ?_;rw[tE]at h3;apply sR;simp only[go_sem,seval,S8,S10,h2,h3];exact ak.pure (h1.az z8) rfl
 refine ai.fk (g:=.t 22) (caps:=[.rp (lA ws space),.rp (vI i)]) S22 hit (λx hx=>?_) [0] (λpre ZJ=>∃v,TkJ ws space width i U i6 i7 i8 i10 pre v ZJ)
  (λe pre ZJ=>e=some 0/\aa U ZJ/\ZJ i8=some ⟨315,3,[.agg [vI 0,vI 0,vI 0]]⟩/\ZJ i10=some ⟨315,3,[tE i (jl ws space width i).1 (jl ws space width i).2]⟩) ?_ ?_ ?_ ?_ ?_
 .obtain⟨t,_,rfl⟩:=gM.1 hx;rfl
 .exact⟨_,hs,a8,a6,a7,Wn,.inl ⟨rfl,rfl⟩⟩
 .rintro pre x post ZJ ZB YV ⟨v,τ⟩ G';have b6:=G' _ _ τ.r6;have b7:=G' _ _ τ.r7;have b8:=G' _ _ τ.r8;have b10:=G' _ _ τ.r10;rcases τ.st with⟨rfl,rfl⟩|⟨n,hp,Yy,hr,V9,rfl⟩
  .obtain rfl:x=[vI ((i:Int)+1),vI ws[i]]:=by
    rw[hdr]at YV;simp only[iz,hU,fF,iC,List.cons.injEq]at YV;rw[<-YV.1];simp only[Int.sub_add_cancel,Int.zero_add];rw[show((i+1:Nat):Int)=(i:Int)+1 by omega]
   refine ai.mix 13 ?_;generalize Yt:oM S [23,24] _=S0;have T6:S0 6=.ptr i6 0 0:=by rw[<-Yt];exact S6
   have T7:S0 7=.ptr i7 0 0:=by rw[<-Yt];exact S7
   have T10:S0 10=.ptr i10 0 0:=by rw[<-Yt];exact S10
   have T23:S0 23=vI ((i:Int)+1):=by rw[<-Yt];rfl
   have T24:S0 24=vI ws[i]:=by rw[<-Yt];rfl
   clear Yt;have r1:=rI i;have q:((i:Int)+1>(i:Int)+1)=False:=H';apply sR;simp only[go_sem,seval,T6,T7,T10,T23,T24];apply sR;simp only[go_sem,seval,T6,T7,T10,T23,T24,b6,b7,b10,r1,q];refine⟨_,(bF.refl G').set τ.r10,_,τ.sub.az YK,by rw[ab n810];exact τ.r8,by rw[ab n610];exact τ.r6,by rw[ab YN];exact τ.r7,ag,.inr ⟨ws[i],by simp,by simp;omega,?_,?_,?_⟩⟩
   .rw[hdr,iz];simp only[Int.sub_add_cancel,Int.zero_add,hU,fF,iC,XU,List.length_nil,List.cons_append];rw[show((i+1:Nat):Int)=(i:Int)+1 by omega]
   .unfold jl;rw[ZK];rfl
   .simp
  .have B':i+pre.length<ws.length:=by
    rcases Nat.lt_or_ge (i+pre.length) ws.length with h|h
    .exact h
    .exfalso;rw[List.drop_of_length_le h]at hr;rw[hr]at YV;have:=congrArg List.length YV;simp[iz,hU]at this
   have ZO:ws.drop (i+pre.length)=ws[i+pre.length]::ws.drop (i+pre.length+1):=ju B';obtain rfl:x=[vI ((i:Int)+pre.length+1),vI (n+space+ws[i+pre.length])]:=by
    rw[hr,ZO]at YV;have h2:=List.append_cancel_left YV;simp only[iz,hU,fF,List.cons.injEq]at h2;rw[<-h2.1];rw[show((i+pre.length+1:Nat):Int)=(i:Int)+pre.length+1 by omega]
   rw[ZO,kS]at V9;refine ai.mix 13 ?_;generalize Yt:oM S [23,24] _=S0;have T6:S0 6=.ptr i6 0 0:=by rw[<-Yt];exact S6
   have T7:S0 7=.ptr i7 0 0:=by rw[<-Yt];exact S7
   have T10:S0 10=.ptr i10 0 0:=by rw[<-Yt];exact S10
   have T23:S0 23=vI ((i:Int)+pre.length+1):=by rw[<-Yt];rfl
   have T24:S0 24=vI (n+space+ws[i+pre.length]):=by rw[<-Yt];rfl
   clear Yt;have r1:=rI i;have q:((i:Int)+pre.length+1>(i:Int)+1)=True:=L';apply sR;simp only[go_sem,seval,T6,T7,T10,T23,T24];by_cases Zm:n+space+ws[i+pre.length]>width
   .have q2:(n+space+ws[i+pre.length]>width)=True:=L' Zm;rw[av Zm]at V9;apply sR;simp only[go_sem,seval,T6,T7,T10,T23,T24,b6,b7,b10,r1,q,q2];refine⟨_,bF.refl G',τ.sub,τ.r8,?_⟩;rw[τ.r10,V9];rfl
   .have q2:(n+space+ws[i+pre.length]>width)=False:=H' Zm;rw[aD Zm]at V9;apply sR;simp only[go_sem,seval,T6,T7,T10,T23,T24,b6,b7,b10,r1,q,q2];have hpl2:(pre++[[vI ((i:Int)+pre.length+1),vI (n+space+ws[i+pre.length])]]).length=pre.length+1:=by simp
    refine⟨_,(bF.refl G').set τ.r10,_,τ.sub.az YK,by rw[ab n810];exact τ.r8,by rw[ab n610];exact τ.r6,by rw[ab YN];exact τ.r7,ag,.inr ⟨n+space+ws[i+pre.length],by omega,by omega,?_,?_,?_⟩⟩
    .rw[hr,ZO,hpl2,iz];simp only[hU,fF,lq,List.cons_append,iC];rw[show((i+pre.length+1:Nat):Int)=(i:Int)+pre.length+1 by omega];rfl
    .rw[hpl2];exact V9
    .rw[hpl2,show((i+(pre.length+1):Nat):Int)=(i:Int)+pre.length+1 by omega]
 .rintro Z' ⟨v,τ⟩;rcases τ.st with⟨h0,rfl⟩|⟨n,hp,Yy,hr,V9,rfl⟩
  .exfalso;rw[hdr]at h0;simp[iz,hU]at h0
  .have he:hU (iz space (ws.drop (i+(hU (iz space (ws.drop i) i (0-space))).length)) (i+(hU (iz space (ws.drop i) i (0-space))).length) n)=[]:=by
    have:=congrArg List.length hr;rw[jm]at this;exact pV (by omega)
   generalize (hU (iz space (ws.drop i) i (0-space))).length=p at*;have hd:ws.drop (i+p)=[]:=by
    cases h:ws.drop (i+p)with
    |nil=>rfl
    |cons a b=>rw[h]at he;simp[iz,hU]at he
   rw[hd,kS]at V9;refine ai.inBlock (fin Z' .aO τ.sub τ.r8 ?_);rw[τ.r10,V9];rfl
 .intro id M' pre Z' _ ⟨h0,h1,h2,h3⟩;obtain rfl:id=0:=by simpa using M'
  refine ai.exit rfl ?_;exact fin Z' .aO h1 h2 h3
 .rintro pre Z' _ ⟨h0,_⟩;cases h0
open Go.Proofs
def ld(p:Pn)(n:Int):Pn:=⟨if n>0 then p.y+p.m+n else p.y,if n>0 then 0 else p.m⟩
def dQ(p:Pn)(mg n:Int):Pn:=ld ⟨p.y,max p.m mg⟩ n
def kz(p:Pn)(mg n:Int):Pn:=⟨(ld p n).y,max (ld p n).m mg⟩
def EP(p:Pn)(mg n:Int)(h1:Bq p.y)(h2:Bq p.m)(h3:Bq mg)(h4:Bq n):aL prog 175 [dC p,vI mg,vI n] (dC (dQ p mg n)):=λU=>by
 refine Tz.q ?_;have hs:=aa.refl U;refine mS 10 ?_;simp only[go_sem,seval,P3,dC];refine ar hs λi3 Z3 s3 a3 f3 z3 hs=>?_;simp only[go_sem,seval,a3];refine ar hs λi6 Z6 s6 a6 f6 z6 hs=>?_;obtain⟨n36,a3⟩:=VB a3 f6 s6;simp only[go_sem,seval,a6,a3];refine ar hs λi7 Z7 s7 a7 f7 z7 hs=>?_;obtain⟨n37,a3⟩:=VB a3 f7 s7;obtain⟨Zw,a6⟩:=VB a6 f7 s7;simp only[go_sem,seval,a7,a6,a3,ab n37,ab Zw];generalize Xb:C' _ i7 _=Y7;replace a7:=WC Xb;replace a3:=VN Xb n37 a3;replace a6:=VN Xb Zw a6;replace hs:=WD Xb hs z7;refine Xv rfl (Ek p.y p.m mg a7) ?_;rintro r Z1 ⟨rfl,rfl⟩;apply sR;simp only[go_sem,seval];have hm:Bq (max p.m mg):=by obtain⟨g1,g2⟩:=h2;obtain⟨g3,g4⟩:=h3;exact⟨by omega,by omega⟩
 refine Xv rfl (Mb p.y (max p.m mg) n h1 hm h4 ag) ?_;rintro r Z2 ⟨rfl,rfl⟩;apply sR;simp only[go_sem,seval,a6,ab Zw,ab Zw.symm];exact ak.pure ((hs.az z7).az z6) rfl
def Eo(p:Pn)(mg n:Int)(h1:Bq p.y)(h2:Bq p.m)(h3:Bq mg)(h4:Bq n):aL prog 176 [dC p,vI mg,vI n] (dC (kz p mg n)):=λU=>by
 refine Ux.q ?_;have hs:=aa.refl U;refine mS 10 ?_;simp only[go_sem,seval,Qt,dC];refine ar hs λi3 Z3 s3 a3 f3 z3 hs=>?_;simp only[go_sem,seval,a3];refine ar hs λi6 Z6 s6 a6 f6 z6 hs=>?_;obtain⟨n36,a3⟩:=VB a3 f6 s6;simp only[go_sem,seval,a6,a3];refine ar hs λi7 Z7 s7 a7 f7 z7 hs=>?_;obtain⟨n37,a3⟩:=VB a3 f7 s7;obtain⟨Zw,a6⟩:=VB a6 f7 s7;simp only[go_sem,seval,a7,a6,a3,ab n37,ab Zw];generalize Xb:C' _ i7 _=Y7;replace a7:=WC Xb;replace a3:=VN Xb n37 a3;replace a6:=VN Xb Zw a6;replace hs:=WD Xb hs z7;refine Xv rfl (Mb p.y p.m n h1 h2 h4 a7) ?_;rintro r Z1 ⟨rfl,rfl⟩;apply sR;simp only[go_sem,seval];refine Xv rfl (Ek _ _ mg ag) ?_;rintro r Z2 ⟨rfl,rfl⟩;apply sR;simp only[go_sem,seval,a6,ab Zw,ab Zw.symm];exact ak.pure ((hs.az z7).az z6) rfl
structure Ln where
 (fr to x y w:Int)
deriving DecidableEq
def ji(l:Ln):V:=.agg [vI l.fr,vI l.to,vI l.x,vI l.y,vI l.w]
def mi(fs:List O')(ws:List Int)(space high:Int)(i:Nat)(y:Int)(s:Wq):Ln:=
 let V3:=gQ fs (ws.getD i 0) high s y
 let b:=bZ fs V3 high s
 let t:=jl ws space (fB b) i
 ⟨i,t.1,b.a,V3,t.2⟩
def JG(fs:List O')(ws:List Int)(space high:Int)(i:Nat)(y:Int)(s:Wq)(hl:fs.length<=1000000)(VE:∀f∈fs,f.ok)(hy:W1 y)(hh:Bq high)(W9:W1 s.a/\W1 s.b)(hw:WOk ws space)(hi:i<ws.length):
 aL prog 230 [aC fs,bb ws,vI space,vI high,vI i,vI y,aV s] (ji (mi fs ws space high i y s)):=λU=>by
 refine TH.q ?_;have hs:=aa.refl U;have hn:=dd ws;have VC:=λU=>du (U:=U) hi;have q0:((i:Int)<0)=False:=H';have q1:((i:Int)>=ws.length)=False:=H';refine mS 18 ?_;simp only[go_sem,seval,PU,aV];refine ar hs λi13 Z13 s13 Xy f13 z13 hs=>?_;simp only[go_sem,seval,Xy];refine ar hs λi14 Z14 s14 Yf f14 z14 hs=>?_;obtain⟨n1314,Xy⟩:=VB Xy f14 s14;simp only[go_sem,seval,Yf,Xy,hn,VC,q0,q1];have ZK:ws.getD i 0=ws[i]:=by simp[hi]
 obtain⟨V3,XG⟩:∃a,a=gQ fs ws[i] high s y:=⟨_,rfl⟩
 have XZ:=H5 fs ws[i] high y s hl VE hy hh W9;rw[<-XG]at XZ;have hbo:=jk (y:=V3) (high:=high) VE W9;unfold mi;rw[ZK];simp only;rw[<-XG];obtain⟨b,hb⟩:∃b,b=bZ fs V3 high s:=⟨_,rfl⟩
 rw[<-hb]at XZ hbo|-;refine pJ rfl XZ ?_;apply sG;simp only[go_sem,seval,aV];refine wN hs λi15 Z15 Yu WN f15 z15 hs=>?_;obtain⟨n1315,Xy⟩:=VB Xy f15 Yu;obtain⟨n1415,Yf⟩:=VB Yf f15 Yu;simp only[go_sem,seval,WN,Yf,Xy,aV];generalize XM:C' _ i15 _=Y15;replace WN:=WC XM;replace Xy:=VN XM n1315 Xy;replace Yf:=VN XM n1415 Yf;replace hs:=WD XM hs z15;refine pS rfl (I9 b hbo.1 hbo.2 _) ?_;simp only[go_sem,seval];refine pS rfl (JS ws space (fB b) hw i hi _) ?_;simp only[go_sem,seval,tE];refine ar hs λi17 Z17 s17 ZA f17 z17 hs=>?_;obtain⟨n1317,Xy⟩:=VB Xy f17 s17;obtain⟨n1417,Yf⟩:=VB Yf f17 s17;obtain⟨n1517,WN⟩:=VB WN f17 s17;simp only[go_sem,seval,ZA,WN,Yf,ab n1317,ab n1417,ab n1517];exact ak.pure ((hs.az z17).az z14) rfl
open Go.Proofs
def ay.mn{K ZJ Z1:ad}{e sz:Nat}{v:V}{rows:List V}(h:ay K ZJ e sz v rows)(hs:aa ZJ Z1):
 ∃idA,bL Z1 e sz v=some (rows,idA)/\(∀K':ad,aa K' K->∀Z2,aa K' Z2->aa K' (Vc.bN Z2 idA))/\(∀i o,ZJ i=some o->(o.elem≠e\/o.sz≠sz)->∀Z2:ad,Vc.bN Z2 idA i=Z2 i)/\(∀i,ZJ i=none->∀Z2:ad,Vc.bN Z2 idA i=Z2 i):=by
 rcases h with⟨rfl,rfl⟩|⟨id,rfl,ho,hk⟩
 .exact⟨none,rfl,λ_ _ _ h=>h,λ_ _ _ _ _=>rfl,λ_ _ _=>rfl⟩
 .refine⟨some id,?_,λK' hK Z2 h=>h.oN (hK.none hk),λi o hi V2 Z2=>?_,λi hi Z2=>?_⟩
  .simp only[bL,hs _ _ ho];rw[av ⟨trivial,trivial,trivial,Wa _⟩,eF]
  .refine cc λe'=>?_;subst e';rw[ho]at hi;injection hi with hi;subst hi;rcases V2 with h|h<;>exact h rfl
  .refine cc λe'=>?_;subst e';rw[ho]at hi;cases hi
def tg{l:List O'}{w high B:Int}{s:Wq}(hB:∀f∈l,f.y+f.h<=B):∀(k:Nat) (y:Int),y<=kr l w high s k y/\kr l w high s k y<=max y B
 |0,y=>by simp only[kr];omega
 |k+1,y=>by
  rw[kr];split
  .omega
  .rename_i hf;have V2:bZ l y high s≠s:=λe=>hf (by simp[mK,e]);obtain⟨f,hm,h1,h2⟩:=fa (my V2);have:=tg hB k (cL l y high s).1 (w:=w) (high:=high) (s:=s);have:=hB f hm;omega
def fe{l:List O'}{w high B y:Int}{s:Wq}(hB:∀f∈l,f.y+f.h<=B):y<=gQ l w high s y/\gQ l w high s y<=max y B:=tg hB _ _
def da(fs:List O')(ws:List Int)(space high:Int)(s:Wq):Nat->Nat->Int->List Ln
 |0,_,_=>[]
 |k+1,i,y=>if i<ws.length then mi fs ws space high i y s::da fs ws space high s k (mi fs ws space high i y s).to.toNat ((mi fs ws space high i y s).y+high)else[]
def kL(fs:List O')(ws:List Int)(space high:Int)(s:Wq):∀(k i:Nat) (y:Int),(da fs ws space high s k i y).length<=k
 |0,_,_=>by simp[da]
 |k+1,i,y=>by
  rw[da];split
  .have:=kL fs ws space high s k (mi fs ws space high i y s).to.toNat ((mi fs ws space high i y s).y+high);simp only[XU];omega
  .simp
def tS(l:Ln):(ji l).cells=[vI l.fr,vI l.to,vI l.x,vI l.y,vI l.w]:=rfl
def tz(l:Ln):(ji l).stays=true:=rfl
def kf(l:List Ln):V:=.sl 5 (l.map ji)
variable {P:Program} {n:Nat} {st:St} {Q:St->Prop} {k:List It}
def pM(D:List (List Nat))(S:List Nat)(s:Nat):List (List Nat):=(List.range D.length).map λi=>if S.contains i&&!(i==s)then s::D.getD i []else D.getD i []
def BY{D:List (List Nat)}{S:List Nat}{s:Nat}:(pM D S s).length=D.length:=by simp[pM]
def BU{D:List (List Nat)}{S:List Nat}{s i:Nat}:(pM D S s).getD i []=if i<D.length/\i∈S/\i≠s then s::D.getD i []else D.getD i []:=by
 unfold pM;rw[xA,tW];by_cases hi:i<D.length
 .rw[List.getElem?_range hi];by_cases hs:i∈S
  .by_cases he:i=s
   .simp[he]
   .simp[hi,hs,he]
  .simp[hs]
 .have h1:(List.range D.length)[i]?=none:=wW (by simpa using hi);rw[h1,aD (λh=>hi h.1)];simp[wW (show D.length<=i by omega)]
def Bo{D:List (List Nat)}{S:List Nat}{s i:Nat}(h:i∉S\/i=s):(pM D S s).getD i []=D.getD i []:=by
 rw[BU,aD];rintro⟨_,h1,h2⟩;exact h.elim (λh=>h h1) h2
def tw{D:List (List Nat)}{S:List Nat}{s:Nat}{L:List Nat}(hp:s∈L):eD (pM D S s) L=eD D L:=by
 unfold eD;rw[BY];refine List.filter_congr λi hi=>?_;rw[BU];split
 .simp[hp]
 .rfl
def uY{l:List aK}{D:List (List Nat)}{S:List Nat}{s:Nat}{K:St->Prop}:∀(f:Nat) (L:List Nat) (y:St),s∈L->jz P l (pM D S s) K f L y->jz P l D K f L y
 |0,L,y,hp,h=>⟨by rw[<-tw hp];exact h.1,h.2⟩
 |f+1,L,y,hp,h=>by
  unfold jz at h|-;rw[tw hp]at h;cases hr:eD D L with
  |nil=>rw[hr]at h;exact h
  |cons a r=>
   rw[hr]at h;refine qZ λi hi=>?_;obtain⟨ins,h1,h2⟩:=od h i hi;exact⟨ins,h1,TC.mono (λx hx=>uY f _ x (by simp[hp]) hx) h2⟩
def x6{l:List aK}{K:St->Prop}{b:List Nat}:∀{a:List Nat},RE P l K (a++b)=RE P l (RE P l K b) a
 |[]=>rfl
 |m::a=>by
  funext x;rw[List.cons_append,RE,RE,x6]
def pj{l:List aK}{V5:List (List Nat)}{b:List Nat}:∀{a done:List Nat},eZ l V5 done (a++b)=eZ l V5 done a++eZ l V5 (done++a) b
 |[],done=>by simp[eZ]
 |e::a,done=>by
  rw[List.cons_append,eZ,eZ,pj];simp
def RE.mono{l:List aK}{K K':St->Prop}(hk:∀x,K x->K' x):∀{a:List Nat} {x:St},RE P l K a x->RE P l K' a x
 |[],x,h=>hk x h
 |m::a,x,h=>by
  rw[RE]at h|-;cases hm:l[m/2]? with
  |none=>rw[hm]at h;exact h.elim
  |some i=>
   rw[hm]at h;simp only at h|-;split at h<;>rename_i he
   .rw[av he];exact TC.mono (λx hx=>RE.mono hk hx) h
   .rw[aD he];exact⟨h.1,RE.mono hk h.2⟩
structure FN(l:List aK)(D V5:List (List Nat))(pre tail S:List Nat)(befs:Nat->List (List Nat)):Prop where
 e:EOkW l D V5 (pre++tail)
 Yg:∀a b x y,pre++tail=a++b->x∈a->y∈b->x∈pre->dY l V5 x=true->x∈fP V5 y
 sub:∀s∈S,s∈tail
 some:∃s,s∈S
 later:∀i∈tail,i∉S->∃s∈S,s∈fP V5 i
 agree:∀s∈S,∀i∈pre,dY l (befs s) i=dY l V5 i
section
variable {l:List aK} {D V5:List (List Nat)} {pre tail S:List Nat} {befs:Nat->List (List Nat)} {K:St->Prop} {Ks:Nat->St->Prop} (hF:FN l D V5 pre tail S befs)
include hF
def kX.O8{L:List Nat}{y:St}:∀{rest done:List Nat} {x:St},kX P l D V5 pre K L y done rest x->
 ∃done' rest' x',kX P l D V5 pre K L y done' rest' x'/\∀h r,rest'=h::r->dY l V5 h=true
 |[],done,x,h=>⟨done,[],x,h,by simp⟩
 |e::rest,done,x,h=>by
  have hE:=hF.e;cases Zo:dY l V5 e with
  |true=>exact⟨done,e::rest,x,h,λa r he=>by cases he;exact Zo⟩
  |false=>
   have hel:e<l.length:=hE.lt e (by rw[h.split];simp);obtain⟨hk,hself⟩:=jf Zo hel (hE.oy hel);have WQ:=(List.nodup_append.1 hE.nodup).1;rw[h.split]at WQ;have hed:e∉done:=λhm=>(List.nodup_append.1 WQ).2.2 e hm e (by simp) rfl;have heL:e∉L:=λhm=>hed (h.sub e hm);have Yp:=h.go;rw[eZ,Ej hel,EV,aD (by simp[Zo]),iC]at Yp;have hT:T P (bI l e) x (RE P l K (eZ l V5 (done++[e]) rest)):=by
    rcases Yp with Yp|⟨_,Yp⟩
    .exact Yp
    .exfalso;revert Yp hk;generalize (bI l e).op=op;intro hk Yp;split at Yp
     .simp[br]at hk
     .simp[br]at hk
     .simp[br]at hk
     .exact Yp
   obtain⟨v,hv,hgo'⟩:=(cM (by simp[gw,hk])).1 hT;refine kX.O8 (rest:=rest) (done:=done++[e]) (x:=⟨bc x.s (bI l e).dst v,x.U⟩) ⟨by rw[h.split];simp,λi hi=>by simp[h.sub i hi],h.nodup,h.closed,λi hi Yh=>?_,h.store,λd hd=>?_,λi hi hiL=>?_,hgo'⟩
   .rcases ec.1 hi with hi|hi
    .exact h.Yg i hi Yh
    .simp only[jO]at hi;rw[hi,Zo]at Yh;cases Yh
   .have h1:=h.slot d λi hi hiL=>hd i (by simp[hi]) hiL;have h2:=hd e (by simp) heL;rw[h1];simp only;cases hde:(bI l e).dst with
    |none=>rfl
    |some d'=>
     rw[hde]at h2;simp only[bc];rw[aD (λe'=>h2 (by rw[e']))]
   .by_cases Yh:i=e
    .subst Yh;unfold QYd;cases hd:(bI l i).dst with
     |none=>exact⟨v,hv⟩
     |some d=>
      simp only;have e1:bc x.s (some d) v d=v:=by simp[bc]
      rw[e1];exact(gU (λt ht=>by cases ht;exact hself d hd)).2 hv
    .have M':i∈done:=by
      rcases ec.1 hi with hi|hi
      .exact hi
      .simp only[jO]at hi;exact absurd hi Yh
     have Xx:i<l.length:=hE.lt i (by rw[h.split];simp[M']);refine ur hE Xx hel Yh (λd hd hu=>?_) (λv hv=>hv) (h.lag i M' hiL);rcases hE.anti i e Xx hel Yh d hd hu with h1|⟨h1,_⟩
     .obtain⟨a,b,Zs⟩:=List.append_of_mem M';have h2:=hE.nh (a:=a) (j:=i) (b:=b++e::rest++tail) (by rw[h.split,Zs];simp) e h1;exact hed (by rw[Zs];simp[h2])
     .rw[Zo]at h1;cases h1
def Cy(hH:∀s∈S,∀(f:Nat) (L:List Nat) (y:St) (done rest:List Nat) (x:St),f+L.length=l.length->kX P l (pM D S s) (befs s) pre (Ks s) L y done rest x->jz P l (pM D S s) K f L y):
 ∀(f:Nat) (L:List Nat) (y:St) (done rest:List Nat) (x:St),f+L.length=l.length->(∀s∈S,s∉L)->kX P l D V5 pre (λx=>∀s∈S,Ks s x) L y done rest x->jz P l D K f L y:=by
 have hE:=hF.e;obtain⟨s0,Wm⟩:=hF.some;have B':∀s∈S,s<l.length:=λs hs=>hE.lt s (by simp[hF.sub s hs]);have hpre:∀s∈S,s∉pre:=λs hs hm=>(List.nodup_append.1 hE.nodup).2.2 s hm s (hF.sub s hs) rfl;intro f
 induction f with
 |zero=>
  intro L y done rest x hf hSL h;exact absurd ((uO l.length L h.nodup λi hi=>hE.lt i (by rw[h.split];simp[h.sub i hi])).2 (by omega) s0 (B' s0 Wm)) (hSL s0 Wm)
 |succ f ih=>
  intro L y done rest x hf hSL h;obtain⟨done,rest,x,h,hhead⟩:=kX.O8 hF h;have WQ:=(List.nodup_append.1 hE.nodup).1;rw[h.split]at WQ;have hdp:∀i∈done,i∈pre:=λi hi=>by rw[h.split];simp[hi]
  have Xg:∀m∈L,∀d∈D.getD m [],d∈L:=h.closed;have hclS:∀s,∀m∈L,∀d∈(pM D S s).getD m [],d∈L:=λs m hm d hd=>by
   rw[Bo (.inl λhs=>hSL m hs hm)]at hd;exact h.closed m hm d hd
  have take:rest=[]->∀s∈S,jz P l (pM D S s) K (f+1) L y:=λhr s hs=>by
   subst hr;have hdp':pre=done:=by rw[h.split];simp
   refine hH s hs (f+1) L y done [] x hf ⟨by rw[hdp'];simp,h.sub,h.nodup,hclS s,λi hi Yh=>h.Yg i hi (by rw[<-hF.agree s hs i (hdp i hi)];exact Yh),h.store,h.slot,h.lag,?_⟩;exact h.go s hs
  have key:wI P l (jz P l D K f) L y (eD D L):=by
   refine qZ λi hi=>?_;have hi0:=hi;obtain⟨Xx,hiL,hdep⟩:=vk hi;rw[hE.dlen]at Xx;by_cases hiS:i∈S
   .have hm:i∈eD (pM D S i) L:=by
     unfold eD;refine rC.2 ⟨by rw[BY,hE.dlen];simpa using Xx,?_⟩;rw[Bo (.inr rfl)];exact(rC.1 hi).2
    have hrest:rest=[]:=by
     cases hrr:rest with
     |nil=>rfl
     |cons a rr=>
      exfalso;have ha:=hhead a rr hrr;have hapre:a∈pre:=by rw[h.split,hrr];simp
      have hb:a∈fP V5 i:=hF.Yg pre tail a i rfl hapre (hF.sub i hiS) hapre ha;obtain⟨pa,pb,hpe⟩:=List.append_of_mem (hE.mem i Xx);have haL:a∈L:=hE.closed Xg hE.mem (pa.length+1) pa i pb (by omega) hpe (λd hd=>hdep d hd) a hb;rw[hrr]at WQ;exact(List.nodup_append.1 WQ).2.2 a (h.sub a haL) a (by simp) rfl
    have h1:=take hrest i hiS;unfold jz at h1;cases hr:eD (pM D S i) L with
    |nil=>rw[hr]at hm;cases hm
    |cons a r=>
     rw[hr]at h1 hm;obtain⟨ins,g1,g2⟩:=od h1 i hm;exact⟨ins,g1,TC.mono (λx hx=>uY f _ x (by simp) hx) g2⟩
   refine⟨bI l i,by simp[bI,Zq6 Xx],?_⟩;obtain⟨pa,pb,hpe⟩:=List.append_of_mem (hE.mem i Xx);have ZN:∀j∈fP V5 i,j∈L:=hE.closed Xg hE.mem (pa.length+1) pa i pb (by omega) hpe hdep;have huses:∀u∈(bI l i).l8,x.s u=y.s u:=λu hu=>(h.slot u λj hj hjL hd=>by
    have Zv:j<l.length:=hE.lt j (by simp[hdp j hj]);by_cases Zd:j=i
    .subst Zd;cases XS:dY l V5 j with
     |true=>exact hjL (h.Yg j hj XS)
     |false=>exact(jf XS Zv (hE.oy Zv)).2 u hd hu
    .rcases hE.anti i j Xx Zv (λe=>Zd e.symm) u hd hu with h1|⟨h1,_⟩
     .exact hjL (ZN j h1)
     .exact hjL (h.Yg j hj h1)).symm
   by_cases M':i∈done
   .have Yh:dY l V5 i=false:=by
     cases Yh:dY l V5 i with
     |false=>rfl
     |true=>exact absurd (h.Yg i M' Yh) hiL
    obtain⟨hk,_⟩:=jf Yh Xx (hE.oy Xx);have hq:=h.lag i M' hiL;obtain⟨v,hv,hvd⟩:∃v,QY P (bI l i) x.s x.U v/\∀d,(bI l i).dst=some d->x.s d=v:=by
     unfold QYd at hq;cases hd:(bI l i).dst with
     |none=>rw[hd]at hq;obtain⟨v,hq⟩:=hq;exact⟨v,hq,by simp⟩
     |some d=>rw[hd]at hq;exact⟨_,hq,λd' e=>by cases e;rfl⟩
    refine .inl ((cM (by simp[gw,hk])).2 ⟨v,?_,?_⟩)
    .rw[h.store];exact BP huses hv
    .refine ih (i::L) _ done rest x (by simp only[XU];omega) (λs hs hm=>(et.1 hm).elim (λe=>hiS (e▸hs)) (hSL s hs)) ⟨h.split,λj hj=>?_,List.nodup_cons.2 ⟨hiL,h.nodup⟩,λm hm d hd=>?_,λj hj XS=>by simp[h.Yg j hj XS],h.store,λd hd=>?_,λj hj hjL=>h.lag j hj (λhm=>hjL (by simp[hm])),h.go⟩
     .rcases et.1 hj with rfl|hj
      .exact M'
      .exact h.sub j hj
     .rcases et.1 hm with rfl|hm
      .simp[hdep d hd]
      .simp[h.closed m hm d hd]
     .simp only;by_cases hdi:(bI l i).dst=some d
      .rw[hdi];simp only[bc];rw[av trivial];exact(hvd d hdi).symm
      .have h1:=h.slot d λj hj hjL=>by
        by_cases Zd:j=i
        .rw[Zd];exact hdi
        .exact hd j hj (by simp[Zd,hjL])
       rw[<-h1];cases hde:(bI l i).dst with
       |none=>rfl
       |some d'=>
        rw[hde]at hdi;simp only[bc];rw[aD (λe'=>hdi (by rw[e']))]
   .have hir:i∈rest++tail:=by
     have:=hE.mem i Xx;rw[h.split,lq]at this;exact(ec.1 this).resolve_left M'
    obtain⟨hd0,rr,rfl⟩:∃a r,rest=a::r:=by
     cases rest with
     |nil=>
      exfalso;rw[iC]at hir;obtain⟨s,hs,hsb⟩:=hF.later i hir hiS;exact hSL s hs (ZN _ hsb)
     |cons a r=>exact⟨a,r,rfl⟩
    have Zo:=hhead hd0 rr rfl;have hh0:hd0∉done:=λhm=>(List.nodup_append.1 WQ).2.2 hd0 hm hd0 (by simp) rfl;have hih:i=hd0:=by
     rcases et.1 (show i∈hd0::(rr++tail)from hir)with e|hir
     .exact e
     .exfalso;have:=hF.Yg (done++[hd0]) (rr++tail) hd0 i (by rw[h.split];simp) (by simp) hir (by rw[h.split];simp) Zo;exact hh0 (h.sub _ (ZN _ this))
    subst hih;have Yp:=h.go;rw[show eZ l V5 done (i::rr)=2*i::(EV l V5 done i++eZ l V5 (done++[i]) rr)from rfl,Ej Xx]at Yp;refine Ao huses h.store.symm (λr Z' hK=>?_) Yp;rw[EV,av Zo]at hK;obtain⟨hck,hgo'⟩:=ux (λk=>!(dY l V5 k)&&(!(lz (bI l k).op)&&!((fP V5 i).contains k))) (λj hj=>hE.lt j (by simp[hdp j hj])) hK;refine ih (i::L) _ (done++[i]) rr ⟨bc x.s (bI l i).dst r,Z'⟩ (by simp only[XU];omega) (λs hs hm=>(et.1 hm).elim (λe=>hiS (e▸hs)) (hSL s hs)) ⟨by rw[h.split];simp,λj hj=>?_,List.nodup_cons.2 ⟨hiL,h.nodup⟩,λm hm d hd=>?_,λj hj XS=>?_,rfl,λd hd=>?_,λj hj hjL=>?_,hgo'⟩
    .rcases et.1 hj with rfl|hj
     .simp
     .simp[h.sub j hj]
    .rcases et.1 hm with rfl|hm
     .simp[hdep d hd]
     .simp[h.closed m hm d hd]
    .rcases ec.1 hj with hj|hj
     .simp[h.Yg j hj XS]
     .simp only[jO]at hj;simp[hj]
    .have h1:(bI l i).dst=some d\/y.s d=x.s d:=by
      by_cases hdi:(bI l i).dst=some d
      .exact .inl hdi
      .exact .inr (h.slot d λj hj hjL=>hd j (by simp[hj]) (by
        simp only[et,not_or];exact⟨λe=>M' (e▸hj),hjL⟩))
     simp only;cases hde:(bI l i).dst with
     |none=>rw[hde]at h1;exact h1.resolve_left (by simp)
     |some d'=>
      simp only[bc];split
      .rfl
      .rename_i V2;rw[hde]at h1;exact h1.resolve_left (λe=>V2 (by cases e;rfl))
    .have hjd:j∈done:=by
      rcases ec.1 hj with hj|hj
      .exact hj
      .simp only[jO]at hj;exact absurd (by simp[hj]) hjL
     have hjL':j∉L:=λhm=>hjL (by simp[hm]);have Zv:j<l.length:=hE.lt j (by simp[hdp j hjd]);have Zd:j≠i:=λe=>M' (e▸hjd);have XS:dY l V5 j=false:=by
      cases XS:dY l V5 j with
      |false=>rfl
      |true=>exact absurd (h.Yg j hjd XS) hjL'
     cases hsf:lz (bI l j).op with
     |true=>
      refine ur hE Zv Xx Zd (λd hd hu=>?_) (λv hv=>lg hsf hv) (h.lag j hjd hjL');rcases hE.anti j i Zv Xx Zd d hd hu with h1|⟨_,h1⟩
      .obtain⟨a,b,Zs⟩:=List.append_of_mem hjd;have h2:=hE.nh (a:=a) (j:=j) (b:=b++i::rr++tail) (by rw[h.split,Zs];simp) i h1;exact M' (by rw[Zs];simp[h2])
      .exact hjL' (ZN j h1)
     |false=>
      refine hck j hjd ?_;simp only[XS,hsf,Bool.not_false,Bool.true_and,Bool.not_eq_true'];cases hc:(fP V5 i).contains j with
      |false=>rfl
      |true=>exact absurd (ZN j (List.contains_iff_mem.1 hc)) hjL'
  cases hr:eD D L with
  |cons a r=>unfold jz;rw[hr]at key|-;exact key
  |nil=>
   exfalso;have first:∀(a b:List Nat),pre++tail=a++b->(∀j∈a,j∈L)->(∃i∈b,i∉L)->∃a' e b',pre++tail=a'++e::b'/\(∀j∈a',j∈L)/\e∉L:=by
    intro a b
    induction b generalizing a with
    |nil=>rintro _ _ ⟨i,h,_⟩;cases h
    |cons e b ihb=>
     intro he ha hx;by_cases heL:e∈L
     .refine ihb (a++[e]) (by rw[he];simp) (λj hj=>?_) ?_
      .rcases ec.1 hj with hj|hj
       .exact ha j hj
       .simp only[jO]at hj;rw[hj];exact heL
      .obtain⟨i,hi,hiL⟩:=hx;rcases et.1 hi with rfl|hi
       .exact absurd heL hiL
       .exact⟨i,hi,hiL⟩
     .exact⟨a,e,b,he,ha,heL⟩
   obtain⟨a,e,b,he,ha,heL⟩:=first [] (pre++tail) rfl (by simp) ⟨s0,by simp[hF.sub s0 Wm],hSL s0 Wm⟩
   have hel:e<l.length:=hE.lt e (by rw[he];simp);have:e∈eD D L:=by
    unfold eD;refine rC.2 ⟨by simp[hE.dlen,hel],?_⟩;simp only[Ba,Bool.not_eq_true',fM];exact⟨by simpa using heL,λd hd=>List.contains_iff_mem.2 (ha d (hE.ahead a e b he d hd))⟩
   rw[hr]at this;cases this
end
inductive PT where
 |leaf (V5:List (List Nat)) (r:List Nat)
 |fork (V5:List (List Nat)) (m:List Nat) (S:List Nat) (kids:List PT)
def PT.V5:PT->List (List Nat)
 |.leaf b _=>b
 |.fork b _ _ _=>b
def PT.ord:Nat->PT->List Nat
 |0,_=>[]
 |f+1,t=>match t with
  |.leaf _ r=>r
  |.fork _ m _ kids=>m++(match kids with
   |k::_=>PT.ord f k
   |[]=>[])
def DI(g:Nat->PT->Bool):List Nat->List PT->Bool
 |[],[]=>true
 |s::ss,t::ts=>g s t&&DI g ss ts
 |_,_=>false
def uZ{g:Nat->PT->Bool}:∀{S:List Nat} {ts:List PT},DI g S ts=true->∀s∈S,∃t∈ts,g s t=true
 |[],[],_,s,hs=>by cases hs
 |a::S,t::ts,h,s,hs=>by
  simp only[DI,Ba]at h;rcases et.1 hs with rfl|hs
  .exact⟨t,by simp,h.1⟩
  .obtain⟨t',h1,h2⟩:=uZ h.2 s hs;exact⟨t',by simp[h1],h2⟩
def L4(l:List aK)(D V5:List (List Nat))(pre tail S:List Nat):Bool:=
 Kw l D V5 (pre++tail)&&(nT (λa b=>!(pre.contains a)||(!(dY l V5 a)||(fP V5 b).contains a)) (pre++tail)&&
 (S.all tail.contains&&(!S.isEmpty&&tail.all λi=>S.contains i||S.any λs=>(fP V5 i).contains s)))
def Jl(l:List aK):Nat->List (List Nat)->List Nat->PT->Bool
 |0,_,_,_=>false
 |f+1,D,pre,t=>match t with
  |.leaf V5 r=>eOk l D V5 (pre++r)
  |.fork V5 m S kids=>L4 l D V5 (pre++m) (match kids with
    |k::_=>PT.ord f k
    |[]=>[]) S&&DI (λs k=>((pre++m).all λi=>dY l k.V5 i==dY l V5 i)&&Jl l f (pM D S s) (pre++m) k) S kids
def GT(P:Program)(l:List aK)(K:St->Prop):Nat->List Nat->PT->St->Prop
 |0,_,_,_=>False
 |f+1,pre,t,x=>match t with
  |.leaf V5 r=>RE P l K (eZ l V5 pre r) x
  |.fork V5 m _ kids=>RE P l (λx=>∀k∈kids,GT P l K f (pre++m) k x) (eZ l V5 pre m) x
def kX.more{l:List aK}{D V5:List (List Nat)}{pre m:List Nat}{K:St->Prop}{L:List Nat}{y:St}{done rest:List Nat}{x:St}(h:kX P l D V5 pre (RE P l K (eZ l V5 pre m)) L y done rest x):
 kX P l D V5 (pre++m) K L y done (rest++m) x:=by
 refine⟨by rw[h.split];simp,h.sub,h.nodup,h.closed,h.Yg,h.store,h.slot,h.lag,?_⟩;rw[pj,x6,<-h.split];exact h.go
def kX.mono{l:List aK}{D V5:List (List Nat)}{pre:List Nat}{K K':St->Prop}(hk:∀x,K x->K' x){L:List Nat}{y:St}{done rest:List Nat}{x:St}(h:kX P l D V5 pre K L y done rest x):
 kX P l D V5 pre K' L y done rest x:=⟨h.split,h.sub,h.nodup,h.closed,h.Yg,h.store,h.slot,h.lag,RE.mono hk h.go⟩
def Ef{l:List aK}{K:St->Prop}:∀(fu:Nat) (D:List (List Nat)) (pre:List Nat) (t:PT),Jl l fu D pre t=true->∀(f:Nat) (L:List Nat) (y:St) (done rest:List Nat) (x:St),f+L.length=l.length->
 (∀i∈L,i∈pre)->kX P l D t.V5 pre (GT P l K fu pre t) L y done rest x->jz P l D K f L y
 |0,_,_,_,h,_,_,_,_,_,_,_,_,_=>by cases h
 |fu+1,D,pre,t,h,f,L,y,done,rest,x,hf,hLp,hl=>by
  cases t with
  |leaf V5 r=>exact qG (AL h) f L y done (rest++r) x hf (kX.more hl)
  |fork V5 m S kids=>
   simp only[Jl,Ba]at h;obtain⟨h1,h2⟩:=h;generalize (match kids with
    |k::_=>PT.ord fu k
    |[]=>[])=tail at h1
   simp only[L4,Ba]at h1;obtain⟨g1,g2,g3,g4,g5⟩:=h1;have hk:=uZ h2;have hW:=yc g1;have hF:∀kid:Nat->PT,(∀s∈S,((pre++m).all λi=>dY l (kid s).V5 i==dY l V5 i)=true)->FN l D V5 (pre++m) tail S (λs=>(kid s).V5):=λkid hkid=>by
    refine⟨hW,λa b u v he hu hv hup hue=>?_,λs hs=>by simpa using fM.1 g3 s hs,?_,λi hi hiS=>?_,λs hs i hi=>by simpa using fM.1 (hkid s hs) i hi⟩
    .rw[he]at g2;have:=nH g2 hu hv;simp only[lP,Bool.not_eq_true',List.contains_iff_mem,hue,Bool.true_eq_false,false_or]at this;rcases this with h|h
     .have hc:(pre++m).contains u=true:=List.contains_iff_mem.2 hup;rw[hc]at h;cases h
     .exact h
    .cases S with
     |nil=>simp at g4
     |cons s S=>exact⟨s,by simp⟩
    .have:=fM.1 g5 i hi;simp only[lP,List.contains_iff_mem,List.any_eq_true]at this;exact this.resolve_left hiS
   have hch:∀s,∃k:PT,s∈S->(k∈kids/\(((pre++m).all λi=>dY l k.V5 i==dY l V5 i)=true/\Jl l fu (pM D S s) (pre++m) k=true)):=λs=>by
    by_cases hs:s∈S
    .obtain⟨k,h3,h4⟩:=hk s hs;simp only[Ba]at h4;exact⟨k,λ_=>⟨h3,h4⟩⟩
    .exact⟨.leaf [] [],λh=>absurd h hs⟩
   obtain⟨kid,hkid⟩:=Classical.axiomOfChoice hch;have hFN:=hF kid λs hs=>(hkid s hs).2.1;have hSpre:∀s∈S,s∉pre++m:=λs hs hm=>(List.nodup_append.1 hW.nodup).2.2 s hm s (hFN.sub s hs) rfl;refine Cy (Ks:=λs=>GT P l K fu (pre++m) (kid s)) hFN (λs hs f L y done rest x hf hl=>?_) f L y done (rest++m) x hf (λs hs hm=>hSpre s hs (List.mem_append_left _ (hLp s hm))) ?_
   .refine Ef fu _ _ _ (hkid s hs).2.2 f L y done rest x hf (λi hi=>?_) hl;have:=hl.sub i hi;rw[hl.split];simp[this]
   .exact kX.mono (λx hx s hs=>hx (kid s) (hkid s hs).1) (kX.more hl)
def ai.ug(hm:P.follows .mixedOrders=true){l:List aK}{V':List (List Nat)}(fu:Nat)(t:PT)(hB:Jl l fu V' [] t=true)(h:GT P l (λx=>ai P n k x Q) fu [] t st):ai P n (.code (.regA l V')::k) st Q:=by
 refine ai.Mc hm (Ef fu V' [] t hB l.length [] st [] [] st (by simp) (by simp) ⟨rfl,by simp,List.nodup_nil,by simp,by simp,rfl,λ_ _=>rfl,by simp,?_⟩);exact h
variable {P:Program} {l:List aK} {K:St->Prop} {f:Nat} {pre m S r its:List Nat} {V5:List (List Nat)} {a b c:PT} {x:St}
def GT.gH(h:eZ l V5 pre r=its)(hg:RE P l K its x):GT P l K (f+1) pre (.leaf V5 r) x:=by subst h;exact hg
def GT.pk(h:eZ l V5 pre m=its)(hg:RE P l (λx=>GT P l K f (pre++m) a x/\GT P l K f (pre++m) b x) its x):GT P l K (f+1) pre (.fork V5 m S [a,b]) x:=by
 subst h;refine RE.mono (λx hx k hk=>?_) hg;simp only[et,List.not_mem_nil,or_false]at hk;rcases hk with rfl|rfl
 .exact hx.1
 .exact hx.2
def GT.Rh(h:eZ l V5 pre m=its)(hg:RE P l (λx=>GT P l K f (pre++m) a x/\GT P l K f (pre++m) b x/\GT P l K f (pre++m) c x) its x):GT P l K (f+1) pre (.fork V5 m S [a,b,c]) x:=by
 subst h;refine RE.mono (λx hx k hk=>?_) hg;simp only[et,List.not_mem_nil,or_false]at hk;rcases hk with rfl|rfl|rfl
 .exact hx.1
 .exact hx.2.1
 .exact hx.2.2
open Go.Proofs
def mT(fs:List O')(y:Int):Int:=if(cH lv fs).2 then max y (cH lv fs).1 else y
def j0(fs:List O')(f:O')(y:Int)(s:Wq):Int:=rb fs f.w f.h s (mT fs y)
def l9(fs:List O')(f:O')(y:Int)(s:Wq):Int:=
 let b:=bZ fs (j0 fs f y s) f.h s
 if f.side=1 then b.a else max b.a (b.b-f.w)
def iZ(fs:List O')(f:O')(y:Int)(s:Wq):O':={ f with x:=l9 fs f y s,y:=j0 fs f y s }
def nt(fs:List O')(f:O')(y:Int)(s:Wq):List O':=fs++[iZ fs f y s]
def EL{fs:List O'}{y:Int}(VE:∀f∈fs,f.ok)(hy:W1 y):W1 (mT fs y):=by
 unfold mT;split
 .rename_i h;obtain⟨f,hf,h1,_⟩:=kI h;obtain⟨_,⟨h3,h4⟩,_⟩:=VE f hf;obtain⟨g1,g2⟩:=hy;rw[h1];simp only[lv];exact⟨by omega,by omega⟩
 .exact hy
def N4(fs:List O')(f:O')(y:Int)(s:Wq)(hl:fs.length<=1000000)(VE:∀f∈fs,f.ok)(hy:W1 y)(hh:Bq f.h)(hw:Bq f.w)(W9:W1 s.a/\W1 s.b):
 aL prog 235 [aC fs,aG f,vI y,aV s] (.VG [vI (l9 fs f y s),vI (j0 fs f y s)]):=λU=>by
 refine UG.q ?_;have hs:=aa.refl U;refine mS 14 ?_;simp only[go_sem,seval,Oh,aG,aV];refine ar hs λi5 Z5 s5 a5 f5 z5 hs=>?_;simp only[go_sem,seval,a5];refine ar hs λi7 Z7 s7 a7 f7 z7 hs=>?_;obtain⟨n57,a5⟩:=VB a5 f7 s7;simp only[go_sem,seval,a7,a5];refine pR rfl (QP fs hl VE _) ?_;have Zq:=EL (y:=y) VE hy;have hdn:=Kf fs f (mT fs y) s hl VE Zq hh W9;have hbo:=jk (y:=j0 fs f y s) (high:=f.h) VE W9;obtain⟨z,hz⟩:∃z,z=j0 fs f y s:=⟨_,rfl⟩
 have hz2:rb fs f.w f.h s (mT fs y)=z:=hz.symm;rw[hz2]at hdn;rw[<-hz]at hbo;obtain⟨b,hb⟩:∃b,b=bZ fs z f.h s:=⟨_,rfl⟩
 have hx:l9 fs f y s=if f.side=1 then b.a else max b.a (b.b-f.w):=by unfold l9;rw[<-hz,<-hb]
 rw[<-hz,hx];rw[<-hb]at hdn hbo;obtain⟨hb1,V1,hb3,hb4⟩:-2305843009213693952<=b.a/\b.a<=2305843009213693952/\-2305843009213693952<=b.b/\b.b<=2305843009213693952:=⟨hbo.1.1,hbo.1.2,hbo.2.1,hbo.2.2⟩
 obtain⟨hw1,Zm⟩:=hw;cases ht:(cH lv fs).2
 .have hty2:mT fs y=y:=by unfold mT;rw[ht];rfl
  rw[hty2]at hdn;apply sR;simp only[go_sem,seval,a7,a5,aX,aY];refine pS rfl (hdn _) ?_;simp only[go_sem,seval,a7,a5,aV];refine ar hs λi12 Y12 s12 a12 f12 z12 hs=>?_;obtain⟨n512,a5⟩:=VB a5 f12 s12;obtain⟨n712,a7⟩:=VB a7 f12 s12;by_cases Zf:f.side=1
  .have q:(f.side=1)=True:=L' Zf;rw[av Zf];simp only[go_sem,seval,a12,a7,a5,q,ab n512,ab n712];exact ak.pure (hs.az z12) rfl
  .have q:(f.side=1)=False:=H' Zf;rw[aD Zf];have r1:VO .i64 (b.b-f.w):=ae;simp only[go_sem,seval,a12,a7,a5,q,r1,ct,ab n512,ab n712];exact ak.pure (hs.az z12) rfl
 .have hty2:mT fs y=max y (cH lv fs).1:=by unfold mT;rw[ht];rfl
  rw[hty2]at hdn;apply sR;simp only[go_sem,seval,a7,a5,aX,aY,ct];refine pS rfl (hdn _) ?_;simp only[go_sem,seval,a7,a5,aV];refine ar hs λi12 Y12 s12 a12 f12 z12 hs=>?_;obtain⟨n512,a5⟩:=VB a5 f12 s12;obtain⟨n712,a7⟩:=VB a7 f12 s12;by_cases Zf:f.side=1
  .have q:(f.side=1)=True:=L' Zf;rw[av Zf];simp only[go_sem,seval,a12,a7,a5,q,ab n512,ab n712];exact ak.pure (hs.az z12) rfl
  .have q:(f.side=1)=False:=H' Zf;rw[aD Zf];have r1:VO .i64 (b.b-f.w):=ae;simp only[go_sem,seval,a12,a7,a5,q,r1,ct,ab n512,ab n712];exact ak.pure (hs.az z12) rfl
open Go.Proofs
def HU(n a b:Int):aL prog 193 [vI n,vI a,vI b] (.bool (decide (n>=a/\n<=b))):=λU=>by
 refine Ub.q ?_;apply sR;simp only[go_sem,seval,ax,aB,N7];constructor<;>intro h<;>exact ak.same (by simp[h])
def M0(a b:Int)(h1:0<=a/\a<=1099511627777)(h2:-1000000000000000000<=b/\b<=9000000000000000000):aL prog 91 [vI a,vI b] (vI (min (a+b) 1099511627777)):=λU=>by
 refine e91.q ?_;apply sR;simp only[go_sem,seval,ax,aB,c91];refine⟨ae,?_⟩;exact ak.same (by simp only[vI,V.int.injEq,true_and];omega)
open Go.Proofs
def dp(p:Int->Bool):List Int->Int
 |[]=>-1
 |x::l=>if p x then 0 else if dp p l<0 then -1 else dp p l+1
def qH(p:Int->Bool)(i:Nat)(l:List Int):Int:=if dp p l<0 then -1 else dp p l+i
def jJ(p:Int->Bool):∀l,-1<=dp p l
 |[]=>by simp[dp]
 |x::l=>by
  have:=jJ p l;simp only[dp];split
  .omega
  .split<;>omega
def Gl(p:Int->Bool)(l:List Int):dp p l=qH p 0 l:=by
 have:=jJ p l;unfold qH;split<;>omega
def nF{U:ad}{sv:V}{l:List Int}{f:FuncId}{caps:List V}{p:Int->Bool}(hr:Reads U 1 false sv (l.map vI))(hl:l.length<=200000000000000)
 (hf:∀n∈l,au prog f (vI n::caps) U λr Z'=>r=.bool (p n)/\Z'=U):
 au prog 170 [sv,.fn f caps] U λr Z'=>r=vI (dp p l)/\Z'=U:=by
 have hlen:dX false sv=some (vI (l.length:Int)):=by simpa using hr.1
 refine U8.q ?_;apply sR;simp only[go_sem,seval,ax,aB,Qy,hlen];refine ai.loop (λm st=>∃i:Nat,i<=l.length/\m=l.length-i/\dp p l=qH p i (l.drop i)/\st.U=U/\st.s 0=sv/\st.s 1=.fn f caps/\st.s 7=vI l.length/\st.s 8=vI i) l.length ?_ ?_
 .exact⟨0,by omega,by omega,Gl p l,rfl,rfl,rfl,rfl,rfl⟩
 .rintro m ⟨s,Z'⟩ ⟨i,hi,rfl,hp,V7,h0,h1,h7,h8⟩;simp only at h0 h1 h7 h8 V7;subst V7;apply sR;simp only[go_sem,seval,ax,aB,h0,h1,h7,h8];constructor
  .intro B';have Wo:i<l.length:=by omega
   have hd:l.drop i=l[i]::l.drop (i+1):=ju Wo;obtain⟨pp,e1,e2⟩:=hr.2 i (vI l[i]) (by simp[Wo]);simp only[go_sem,seval,ax,aB,e1,e2,wQ];refine pS rfl (hf l[i] (Ws Wo)) ?_;simp only[go_sem,seval,ax,aB,h0,h1,h7,h8];cases hpx:p l[i]
   .simp only[go_sem,seval,ax,aB,h8];refine⟨ae,_,?_,i+1,by omega,rfl,?_,h0,h1,h7,?_⟩
    .omega
    .rw[hp,hd];simp only[qH,dp,hpx,gi,if_false];have:=jJ p (l.drop (i+1))
     repeat' split
     all_goals omega
    .simp
   .simp only[go_sem,seval,ax,aB];refine ak.same ?_;rw[hp,hd];simp[qH,dp,hpx]
  .intro YU;have:i=l.length:=by omega
   refine ak.same ?_;rw[hp,this,xp];rfl
open Go.Proofs
def o1(f:FuncId)(args:List V):Option V:=if f=193 then(match args with
 |[.int .i64 n,.int .i64 a,.int .i64 b]=>some (.bool (decide (n>=a/\n<=b)))
 |_=>none)else none
def O1:Xu prog where
 get f args _:=o1 f args
 ok f args U v h:=by
  unfold o1 at h;split at h
  .rename_i hf;subst hf;split at h
   .simp only[aS]at h;subst h;exact HU _ _ _ U
   .cases h
  .cases h
def RA(n a b:Int)(U:ad):O1.get 193 [.int .i64 n,.int .i64 a,.int .i64 b] U=some (.bool (decide (n>=a/\n<=b))):=rfl
def GP(s:Xh):aL prog 192 [.agg s.cells] (.bool s.ok):=λU=>by
 refine Um.q ?_;refine ai.mix 4 ?_
 (refine ai.bH O1 300 ?_;simp only[go_sem,seval,ax,aB,Q9,Xh.cells,RA])
 intro id M'
 repeat' (first
  |with_reducible refine And.intro (λh=>?_) (λh=>?_)
  |with_reducible refine ak.pure ((aa.refl U).C' M') ?_)
 all_goals simp only[go_sem,seval,ax,aB,Xh.ok,bh,mx,V.bool.injEq]
 all_goals (rw[Bool.eq_iff_iff];simp[*])
open Go.Proofs
def Nd.ok(x:Nd):Bool:=
 if x.kind=1 then x.st.ok&&decide (x.line=0)&&decide (x.space=0)&&decide (x.words.length=0)&&decide (x.side=0)&&decide (x.w=0)&&decide (x.h=0)
 else if x.st≠Xh.zero then false
 else if x.kind=2 then x.words.all (bh · 1 mx)&&decide (0<x.words.length)&&bh x.line 1 mx&&bh x.space 0 mx&&decide (x.side=0)&&decide (x.w=0)&&decide (x.h=0)
 else decide (x.line=0)&&decide (x.space=0)&&decide (x.words.length=0)&&bh x.w 1 mx&&bh x.h 1 mx&&
  (decide (x.kind=3)&&decide (x.side=0)||decide (x.kind=4)&&bh x.side 1 2)
def o4(f:FuncId)(args:List V):Option V:=if f=193 then(match args with
 |[.int .i64 n,.int .i64 a,.int .i64 b]=>some (.bool (decide (n>=a/\n<=b)))
 |_=>none)else if f=192 then(match args with
 |[.agg [.int .i64 a,.int .i64 b,.int .i64 c,.int .i64 d,.int .i64 e,.int .i64 f,.int .i64 g,.int .i64 h,.int .i64 i,.int .i64 j,.int .i64 k,.int .i64 l]]=>some (.bool (Xh.ok ⟨a,b,c,d,e,f,g,h,i,j,k,l⟩))
 |_=>none)else none
def O4:Xu prog where
 get f args _:=o4 f args
 ok f args U v h:=by
  unfold o4 at h;split at h
  .rename_i hf;subst hf;split at h
   .simp only[aS]at h;subst h;exact HU _ _ _ U
   .cases h
  .split at h
   .rename_i hf;subst hf;split at h
    .simp only[aS]at h;subst h;exact GP ⟨_,_,_,_,_,_,_,_,_,_,_,_⟩ U
    .cases h
   .cases h
def Jm(n a b:Int)(U:ad):O4.get 193 [.int .i64 n,.int .i64 a,.int .i64 b] U=some (.bool (decide (n>=a/\n<=b))):=rfl
def Ra(a b c d e f g h i j k l:Int)(U:ad):O4.get 192 [.agg [.int .i64 a,.int .i64 b,.int .i64 c,.int .i64 d,.int .i64 e,.int .i64 f,.int .i64 g,.int .i64 h,.int .i64 i,.int .i64 j,.int .i64 k,.int .i64 l]] U=
 some (.bool (Xh.ok ⟨a,b,c,d,e,f,g,h,i,j,k,l⟩)):=rfl
def cy(l:List Int):dX false (bb l)=some (.int .i64 l.length):=by simp[bb,dX]
def qt(b:Bool):V.bool b=V.bool (decide (b=true)):=by cases b<;>rfl
def Hq(p:Int->Bool)(l:List Int)(i:Nat)(h:i<l.length):(l.take (i+1)).all p=((l.take i).all p&&p l[i]):=by
 rw[XH h,MI];simp
def mH{U:ad}{l:List Int}{i:Nat}(h:i<l.length):bO U 1 (bb l) (.int .i64 i)=some (.rp (.int .i64 l[i])):=by
 simp[bb,bO,h]
def P8(x:Nd)(hl:x.words.length<=200000000000000):aL prog 139 [gm x] (.bool x.ok):=λU=>by
 refine UO.q ?_;refine ai.mix 5 ?_
 (refine ai.bH O4 300 ?_;simp only[go_sem,seval,ax,aB,P0,gm,Nd.cells,Jm,Ra,iS,qt (Xh.ok _),cy])
 intro id M';have G':=(aa.refl U).C' M' (o:=⟨48,20,[gm x]⟩);have hz:x.st=Xh.zero↔(x.st.top=0/\x.st.V0=0/\x.st.VJ=0/\x.st.T'=0/\x.st.Wf=0/\x.st.VK=0/\x.st.VY=0/\x.st.head=0/\x.st.before=0/\x.st.after=0/\x.st.inside=0/\x.st.clear=0):=by
  cases h:x.st;simp[Xh.zero]
 refine And.intro (λhk=>?_) (λhk=>And.intro (λhs=>?_) (λhs=>And.intro (λXf=>?_) (λXf=>?_)))
 .have VE:x.ok=(x.st.ok&&decide (x.line=0)&&decide (x.space=0)&&decide (x.words.length=0)&&decide (x.side=0)&&decide (x.w=0)&&decide (x.h=0)):=by simp[Nd.ok,hk]
  rw[VE]
  repeat' (first
   |with_reducible refine And.intro (λh=>?_) (λh=>?_)
   |with_reducible refine ak.pure ((aa.refl U).C' M') ?_)
  all_goals simp only[go_sem,seval,ax,aB,V.bool.injEq]
  all_goals (rw[Bool.eq_iff_iff];simp_all)
 .refine ak.pure G' ?_;have:x.st≠Xh.zero:=by rw[Ne,hz];simp at hs;intro h;simp_all
  have h1:x.kind≠1:=by simpa using hk
  simp[Nd.ok,h1,this]
 .have VP:x.st=Xh.zero:=by rw[hz];simp at hs;simp_all
  have VE:x.ok=(x.words.all (bh · 1 mx)&&decide (0<x.words.length)&&bh x.line 1 mx&&bh x.space 0 mx&&decide (x.side=0)&&decide (x.w=0)&&decide (x.h=0)):=by simp[Nd.ok,Xf,VP]
  refine ai.loop (λm st=>∃i:Nat,i<=x.words.length/\m=x.words.length-i/\(x.words.take i).all (bh · 1 mx)=true/\st.U=C' U id ⟨48,20,[gm x]⟩/\st.s 1=.ptr id 0 0/\st.s 3=vI mx/\st.s 4=vI i) x.words.length ?_ ?_
  .exact⟨0,by omega,by omega,by simp,rfl,rfl,rfl,rfl⟩
  .rintro m ⟨s,Z'⟩ ⟨i,hi,rfl,hp,V7,h1,h3,h4⟩;simp only at h1 h3 h4 V7;subst V7;refine ai.mix 5 ?_
   (refine ai.bH O4 300 ?_;simp only[go_sem,seval,ax,aB,h1,h3,h4,gm,Nd.cells,Jm,iS,cy,mx])
   refine And.intro (λB'=>?_) (λYU=>?_)
   .have Wo:i<x.words.length:=by omega
    have ht:=Hq (bh · 1 mx) x.words i Wo;rw[hp,Bool.true_and]at ht;simp only[go_sem,seval,ax,aB,mH Wo,Jm,h1,h3,h4,mx,iS];refine And.intro (λhw=>?_) (λhw=>?_)
    .refine ak.pure ((aa.refl U).C' M') ?_;have hw':bh x.words[i] 1 mx=false:=by simp at hw;simp[bh,mx];omega
     rw[VE];have:(x.words.all (bh · 1 mx))=false:=by
      rw[List.all_eq_false];exact⟨_,Ws Wo,by simp[hw']⟩
     simp[this]
    .have hw':bh x.words[i] 1 mx=true:=by simp at hw;simp[bh,mx];omega
     refine⟨ae,_,?_,i+1,by omega,rfl,?_,?_⟩
     .omega
     .rw[<-mx,ht];exact hw'
     .simp
   .have hi':i=x.words.length:=by simp at YU;omega
    subst hi';rw[eF]at hp;rw[VE,hp]
    repeat' (first
     |with_reducible refine And.intro (λh=>?_) (λh=>?_)
     |with_reducible refine ak.pure ((aa.refl U).C' M') ?_)
    all_goals try simp only[go_sem,seval,ax,aB,V.bool.injEq]
    all_goals (rw[Bool.eq_iff_iff];simp_all [bh,mx]<;>omega)
 .have VP:x.st=Xh.zero:=by rw[hz];simp at hs;simp_all
  have h1:x.kind≠1:=by simpa using hk
  have VE:x.ok=(decide (x.line=0)&&decide (x.space=0)&&decide (x.words.length=0)&&bh x.w 1 mx&&bh x.h 1 mx&&
   (decide (x.kind=3)&&decide (x.side=0)||decide (x.kind=4)&&bh x.side 1 2)):=by have h2:x.kind≠2:=(by simpa using Xf);simp[Nd.ok,h1,h2,VP]
  rw[VE]
  repeat' (first
   |with_reducible refine And.intro (λh=>?_) (λh=>?_)
   |with_reducible refine ak.pure ((aa.refl U).C' M') ?_)
  all_goals try simp only[go_sem,seval,ax,aB,V.bool.injEq]
  all_goals (rw[Bool.eq_iff_iff];simp_all [bh,mx]<;>omega)
open Go.Proofs
def fi{U:ad}{l:List Nd}{i:Nat}(h:i<l.length):bO U 20 (aF l) (.int .i64 i)=some (.rp (.agg (Nd.cells l[i]))):=by
 simp[aF,bO,h,gm]
def bS(l:List Nd)(a e:Nat):Bool:=
 if _h:a<e then
  match l[a]? with
  |none=>false
  |some x=>if _hx:1<=x.size/\x.size<=(e:Int)-a then
     (decide (x.kind=1)||decide (x.size<=1))&&bS l (a+1) (a+x.size.toNat)&&bS l (a+x.size.toNat) e else false
 else true
termination_by e-a
decreasing_by all_goals omega
def Hy(l:List Nd)(hl:l.length<=1000000000000):∀(m a e:Nat),e-a<m->a<=e->e<=l.length->aL prog 140 [aF l,vI a,vI e] (.bool (bS l a e))
 |0,_,_,h,_,_=>by omega
 |m+1,a,e,hm,hae,he=>λU=>by
  refine SW.q ?_;refine mS 8 ?_;simp only[go_sem,seval,ax,aB,OV];refine ai.loop (λmm st=>∃b:Nat,a<=b/\b<=e/\mm=e-b/\bS l a e=bS l b e/\aa U st.U/\st.s 0=aF l/\st.s 1=vI b/\st.s 2=vI e) (e-a) ?_ ?_
  .exact⟨a,by omega,by omega,rfl,rfl,aa.refl U,rfl,rfl,rfl⟩
  .rintro mm ⟨s,Z'⟩ ⟨b,Zs,hbe,rfl,hr,G',h0,h1,h2⟩;simp only at h0 h1 h2 G';refine mS 8 ?_;simp only[go_sem,seval,ax,aB,h0,h1,h2,iS,Nd.cells];refine And.intro (λB'=>?_) (λYU=>?_)
   .have Wo:b<l.length:=by simp at B';omega
    simp only[go_sem,seval,ax,aB,fi Wo,h0,h1,h2,iS,Nd.cells];intro id M';have hsub':=G'.C' M' (o:=⟨48,20,[.agg (Nd.cells l[b])]⟩);have hb:l[b]?=some l[b]:=by simp[Wo]
    have Yi:b<e:=by simp at B';omega
    have hR:bS l b e=if _hx:1<=l[b].size/\l[b].size<=(e:Int)-b then
     (decide (l[b].kind=1)||decide (l[b].size<=1))&&bS l (b+1) (b+l[b].size.toNat)&&bS l (b+l[b].size.toNat) e else false:=by
     rw[bS,dif_pos Yi,hb]
    refine And.intro (λhs=>?_) (λhs=>?_)
    .refine⟨ae,And.intro (λYr=>?_) (λYr=>?_)⟩
     .have hx:1<=l[b].size/\l[b].size<=(e:Int)-b:=by simp at hs Yr;omega
      rw[dif_pos hx]at hR;have ih:=Hy l hl m (b+1) (b+l[b].size.toNat) (by omega) (by omega) (by omega);have e2:((b+l[b].size.toNat:Nat):Int)=b+l[b].size:=by omega
      rw[e2,Int.natCast_add,Int.natCast_one]at ih;refine And.intro (λhk=>And.intro (λhs3=>?_) (λhs3=>?_)) (λhk=>?_)
      .refine⟨ae,ae,?_⟩;refine pS rfl (ih _) ?_;simp only[go_sem,seval,ax,aB,h0,h1,h2,iS,Nd.cells];refine And.intro (λhf=>?_) (λhf=>?_)
       .refine ak.pure hsub' ?_;simp only[Bool.not_eq_eq_eq_not,Bool.not_true]at hf;rw[hr,hR,hf];simp
       .simp only[Bool.not_eq_eq_eq_not,Bool.not_false]at hf;refine⟨ae,_,?_,b+l[b].size.toNat,by omega,by omega,rfl,?_,hsub',?_⟩
        .omega
        .rw[hr,hR,hf];simp;omega
        .rw[e2]
      .refine ak.pure hsub' ?_;rw[hr,hR];have:¬l[b].size<=1:=by omega
       simp[hk,this]
      .refine⟨ae,ae,?_⟩;refine pS rfl (ih _) ?_;simp only[go_sem,seval,ax,aB,h0,h1,h2,iS,Nd.cells];refine And.intro (λhf=>?_) (λhf=>?_)
       .refine ak.pure hsub' ?_;simp only[Bool.not_eq_eq_eq_not,Bool.not_true]at hf;rw[hr,hR,hf];simp
       .simp only[Bool.not_eq_eq_eq_not,Bool.not_false]at hf;refine⟨ae,_,?_,b+l[b].size.toNat,by omega,by omega,rfl,?_,hsub',?_⟩
        .omega
        .rw[hr,hR,hf];simp;omega
        .rw[e2]
     .refine ak.pure hsub' ?_;rw[hr,hR,dif_neg (by omega)]
    .refine ak.pure hsub' ?_;rw[hr,hR,dif_neg (by omega)]
   .have:b=e:=by simp at YU;omega
    subst this;refine ak.pure G' ?_;rw[hr,bS];simp
open Go.Proofs
def ep(l:List Nd):Prop:=l.length<=10000/\∀x∈l,x.words.length<=200000000000000
def F3{α:Type}(p:α->Bool)(l:List α)(i:Nat)(h:i<l.length):(l.take (i+1)).all p=((l.take i).all p&&p l[i]):=by
 rw[XH h,MI];simp
def Wg(l:List Nd):Bool:=l.all Nd.ok&&bS l 0 l.length
def jW(U:ad)(x:Nd):cj U true 20 (.rp (.agg x.cells))=some (gm x):=rfl
def N1(l:List Nd)(hl:ep l):aL prog 90 [aF l] (.bool (Wg l)):=λU=>by
 obtain⟨hl1,hl2⟩:=hl;refine e90.q ?_;refine mS 4 ?_;simp only[go_sem,seval,ax,aB,c90];refine ai.loop (λm st=>∃i:Nat,i<=l.length/\m=l.length-i/\(l.take i).all Nd.ok=true/\st.U=U/\st.s 0=aF l/\st.s 3=vI i) l.length ?_ ?_
 .exact⟨0,by omega,by omega,by simp,rfl,rfl,rfl⟩
 .rintro m ⟨s,Z'⟩ ⟨i,hi,rfl,hp,V7,h0,h3⟩;simp only at h0 h3 V7;subst V7;refine mS 4 ?_;simp only[go_sem,seval,ax,aB,h0,h3,iS,bU];refine And.intro (λB'=>?_) (λYU=>?_)
  .have Wo:i<l.length:=by simp at B';omega
   have ht:=F3 Nd.ok l i Wo;rw[hp,Bool.true_and]at ht;simp only[go_sem,seval,ax,aB,fi Wo,jW,h0,h3,iS];refine pS rfl (P8 l[i] (by have:=hl2 _ (Ws Wo);omega) _) ?_;simp only[go_sem,seval,ax,aB,h0,h3,iS];refine And.intro (λhf=>?_) (λhf=>?_)
   .simp only[Bool.not_eq_eq_eq_not,Bool.not_true]at hf;refine ak.same ?_;have:l.all Nd.ok=false:=by
     rw[List.all_eq_false];exact⟨_,Ws Wo,by simp[hf]⟩
    simp[Wg,this]
   .simp only[Bool.not_eq_eq_eq_not,Bool.not_false]at hf;refine⟨ae,_,?_,i+1,by omega,rfl,?_,?_⟩
    .omega
    .rw[ht];exact hf
    .simp
  .have hi':i=l.length:=by simp at YU;omega
   subst hi';rw[eF]at hp;have hr:=Hy l (by omega) (l.length+1) 0 l.length (by omega) (by omega) (by omega);refine pS rfl (hr _) ?_;simp only[go_sem,seval,ax,aB,h0,h3,iS];refine ak.same ?_;simp[Wg,hp]
open Go.Proofs
def iY(l:List Nd):∀(m a e:Nat),e-a<m->e<=l.length->bS l a e=true->∀k,a<=k->(h:k<e)->(h2:k<l.length)->1<=l[k].size/\l[k].size<=(e:Int)-k/\(l[k].kind=1\/l[k].size<=1)
 |0,_,_,h,_,_=>by omega
 |m+1,a,e,hm,he,hr=>by
  intro k hk hke h2;have hae:a<e:=by omega
  have ha:a<l.length:=by omega
  rw[bS,dif_pos hae]at hr;have hga:l[a]?=some l[a]:=by simp[ha]
  rw[hga]at hr;simp only at hr;split at hr
  .rename_i hx;simp only[Ba,lP,X7]at hr;obtain⟨⟨h3,h4⟩,h5⟩:=hr;by_cases hka:k=a
   .subst hka;exact⟨hx.1,hx.2,h3⟩
   .by_cases hin:k<a+l[a].size.toNat
    .obtain⟨g1,g2,g3⟩:=iY l m (a+1) (a+l[a].size.toNat) (by omega) (by omega) h4 k (by omega) hin h2;exact⟨g1,by omega,g3⟩
    .exact iY l m (a+l[a].size.toNat) e (by omega) he h5 k (by omega) hke h2
  .cases hr
structure Sm where
 (depth pieces nodes VF:Int)
deriving DecidableEq
def Sm.cells(s:Sm):List V:=[vI s.depth,vI s.pieces,vI s.nodes,vI s.VF]
def ku(a b:Int):Int:=min (a+b) 1099511627777
def fc(l:List Nd)(i:Nat):Nat->Int
 |0=>0
 |k+1=>fc l i k+(match l[k]? with
  |some y=>if y.kind=1/\(i:Int)<k+y.size then 1 else 0
  |none=>0)
def Bw(a b:Int):Nat->Int
 |0=>a
 |n+1=>ku (Bw a b n) b
def mU(l:List Nd)(i:Nat)(x:Nd)(s:Sm):Sm:=
 if x.kind=1 then{ s with depth:=max s.depth (fc l i (i+1)),VF:=ku (ku (ku (ku (ku s.VF x.st.top) x.st.V0) x.st.VJ) x.st.T') x.st.head }
 else if x.kind=2 then{ s with pieces:=s.pieces+x.words.length,VF:=Bw s.VF x.line x.words.length }
 else{ s with pieces:=s.pieces+1,VF:=ku s.VF x.h }
def iI(l:List Nd)(s:Sm):Nat->Sm
 |0=>s
 |i+1=>match l[i]? with
  |some x=>mU l i x (iI l s i)
  |none=>iI l s i
def iR(l:List Nd):Sm×Int:=if Wg l then(iI l ⟨0,0,l.length,0⟩ l.length,0)else(⟨0,0,0,0⟩,4)
def o7(f:FuncId)(args:List V):Option V:=if f=91 then(match args with
 |[.int .i64 a,.int .i64 b]=>if(0<=a/\a<=1099511627777)/\(0<=b/\b<=1099511627777)then some (.int .i64 (ku a b))else none
 |_=>none)else none
def O7:Xu prog where
 get f args _:=o7 f args
 ok f args U v h:=by
  unfold o7 at h;split at h
  .rename_i hf;subst hf;split at h
   .split at h
    .rename_i hc;simp only[aS]at h;subst h;exact M0 _ _ hc.1 ⟨by omega,by omega⟩ U
    .cases h
   .cases h
  .cases h
def sZ(a b:Int)(U:ad)(h1:0<=a/\a<=1099511627777)(h2:0<=b/\b<=1099511627777):O7.get 91 [.int .i64 a,.int .i64 b] U=some (.int .i64 (ku a b)):=by
 have:O7.get 91 [.int .i64 a,.int .i64 b] U=if(0<=a/\a<=1099511627777)/\(0<=b/\b<=1099511627777)then some (V.int .i64 (ku a b))else none:=rfl
 rw[this,av ⟨h1,h2⟩]
def er{a b:Int}(h1:0<=a/\a<=1099511627777)(h2:0<=b):0<=ku a b/\ku a b<=1099511627777:=by
 unfold ku;omega
def zd{a b:Int}(h1:0<=a/\a<=1099511627777)(h2:0<=b):∀n,0<=Bw a b n/\Bw a b n<=1099511627777
 |0=>h1
 |n+1=>er (zd h1 h2 n) h2
def pG(l:List Nd)(i:Nat):∀k,0<=fc l i k/\fc l i k<=k
 |0=>by simp[fc]
 |k+1=>by
  have:=pG l i k;simp only[fc];split
  .split<;>omega
  .omega
def jH{x:Nd}(h:x.ok=true):(x.kind=1\/x.kind=2\/x.kind=3\/x.kind=4)/\0<=x.line/\x.line<=mx/\0<=x.h/\x.h<=mx/\
 (x.kind=1->(0<=x.st.top/\x.st.top<=mx)/\(0<=x.st.V0/\x.st.V0<=mx)/\(0<=x.st.VJ/\x.st.VJ<=mx)/\(0<=x.st.T'/\x.st.T'<=mx)/\(0<=x.st.head/\x.st.head<=mx)):=by
 unfold Nd.ok at h;split at h
 .rename_i hk;simp only[Xh.ok,bh,Ba,X7]at h|-;simp only[mx]at h|-;refine⟨.inl hk,by omega,by omega,by omega,by omega,λ_=>?_⟩;omega
 .split at h
  .cases h
  .split at h
   .rename_i h1 _ hk;simp only[bh,Ba,X7]at h|-;simp only[mx]at h|-;exact⟨.inr (.inl hk),by omega,by omega,by omega,by omega,λe=>absurd e h1⟩
   .rename_i h1 _ _;simp only[bh,Ba,lP,X7]at h|-;simp only[mx]at h|-;exact⟨by omega,by omega,by omega,by omega,by omega,λe=>absurd e h1⟩
def Sm.qs(s:Sm)(k:Int):Prop:=(0<=s.depth/\s.depth<=k)/\(0<=s.pieces/\s.pieces<=k*200000000000000)/\(0<=s.VF/\s.VF<=1099511627777)
def rv{l:List Nd}{i:Nat}{x:Nd}{s:Sm}(hx:x.ok=true)(hw:x.words.length<=200000000000000)(h:s.qs i):(mU l i x s).qs (i+1):=by
 obtain⟨h1,h2,h3⟩:=h;obtain⟨g1,g2,g3,g4,g5,g6⟩:=jH hx;unfold mU;split
 .rename_i hk;obtain⟨a1,a2,a3,a4,a5⟩:=g6 hk;have hd:=pG l i (i+1);refine⟨?_,?_,er (er (er (er (er h3 a1.1) a2.1) a3.1) a4.1) a5.1⟩
  .simp only;omega
  .simp only;omega
 .split
  .refine⟨?_,?_,zd h3 g2 _⟩
   .simp only;omega
   .simp only;omega
  .refine⟨?_,?_,er h3 g4⟩
   .simp only;omega
   .simp only;omega
open Go.Proofs
def Sm.zero:Sm:=⟨0,0,0,0⟩
def AW(l:List Nd)(hl:ep l):aL prog 40 [aF l] (.VG [.agg (iR l).1.cells,vI (iR l).2]):=λU=>by
 have hl0:=hl;obtain⟨hl1,hl2⟩:=hl;refine e40.q ?_;refine mS 10 ?_;simp only[go_sem,seval,ax,aB,c40];intro idR hidR;have hsub1:=(aa.refl U).C' hidR (o:=⟨79,4,[.agg Sm.zero.cells]⟩);refine pS rfl (N1 l hl0 _) ?_;simp only[go_sem,seval,ax,aB,iS,bU];refine And.intro (λhf=>?_) (λhf=>?_)
 .simp only[Bool.not_eq_eq_eq_not,Bool.not_true]at hf;refine ak.pure hsub1 ?_;simp[iR,hf,Sm.cells]
 .simp only[Bool.not_eq_eq_eq_not,Bool.not_false]at hf;intro Zg hid4;have V2:Zg≠idR:=by rintro rfl;simp[ag]at hid4
  have hid4':U Zg=none:=by rw[ab V2]at hid4;exact hid4
  refine ai.loop (λm st=>∃i:Nat,i<=l.length/\m=l.length-i/\aa U st.U/\st.U idR=some ⟨79,4,[.agg Sm.zero.cells]⟩/\
   st.U Zg=some ⟨79,4,[.agg (iI l ⟨0,0,l.length,0⟩ i).cells]⟩/\st.s 0=aF l/\st.s 2=.ptr idR 0 0/\st.s 4=.ptr Zg 0 0/\st.s 5=vI i/\(iI l ⟨0,0,l.length,0⟩ i).qs i) l.length ?_ ?_
  .refine⟨0,by omega,by omega,?_,?_,?_,rfl,rfl,rfl,rfl,by simp[iI,Sm.qs]⟩
   .exact((aa.refl U).C' hidR).C' hid4
   .simp only[ab V2.symm,ag];rfl
   .simp only[ag];rfl
  .rintro m ⟨s,Z'⟩ ⟨i,hi,rfl,G',hR,h4s,h0,h2,h4,h5,hfine⟩;simp only at G' hR h4s h0 h2 h4 h5;have VE:l.all Nd.ok=true/\bS l 0 l.length=true:=by simpa[Wg]using hf
   generalize hsm:iI l ⟨0,0,l.length,0⟩ i=sm at*;refine ai.mix 10 ?_
   (refine ai.bH O7 300 ?_;simp only[go_sem,seval,ax,aB,h0,h2,h4,h5,h4s,hR,iS,bU,Sm.cells])
   refine And.intro (λB'=>?_) (λYU=>?_)
   .have Wo:i<l.length:=by simp at B';omega
    have hx:=(fM.1 VE.1) _ (Ws Wo);generalize hxe:l[i]=x at*;simp only[go_sem,seval,ax,aB,fi Wo,hxe,jW,h0,h2,h4,h5,iS,Nd.cells,cy,h4s];have Yl:iI l ⟨0,0,l.length,0⟩ (i+1)=mU l i x sm:=by simp[iI,Wo,hxe,hsm]
    intro id6 hid6;have n64:id6≠Zg:=by rintro rfl;rw[h4s]at hid6;cases hid6
    have n6R:id6≠idR:=by rintro rfl;rw[hR]at hid6;cases hid6
    have hsub6:=G'.C' hid6 (o:=⟨48,20,[.agg x.cells]⟩);obtain⟨p1,p2,p3,p4,p5,p6⟩:=jH hx;have hfine0:=hfine;obtain⟨f1,f2,f3⟩:=hfine;have hxw:x.words.length<=200000000000000:=hl2 x (hxe▸Ws Wo);refine And.intro (λhk=>?_) (λhk=>?_)
    .have W4:x.kind=1:=by simpa using hk
     obtain⟨q1,q2,q3,q4,q5⟩:=p6 W4;refine ai.loop (λmm st=>∃k:Nat,k<=i+1/\mm=i+1-k/\st.U=C' Z' id6 ⟨48,20,[.agg x.cells]⟩/\
      st.s 0=aF l/\st.s 2=.ptr idR 0 0/\st.s 4=.ptr Zg 0 0/\st.s 5=vI i/\st.s 6=.ptr id6 0 0/\st.s 7=vI (fc l i k)/\st.s 8=vI k) (i+1) ?_ ?_
     .exact⟨0,by omega,by omega,by rfl,h0,h2,h4,h5,rfl,rfl,rfl⟩
     .rintro mm ⟨s,Z''⟩ ⟨k,hki,rfl,V7,h0,h2,h4,h5,h6,h7,h8⟩;simp only at V7 h0 h2 h4 h5 h6 h7 h8;subst V7;have hdt:=pG l i k;refine ai.mix 10 ?_
      (refine ai.bH O7 300 ?_;simp only[go_sem,seval,ax,aB,h0,h2,h4,h5,h6,h7,h8,iS,bU])
      refine And.intro (λYi=>?_) (λhge2=>?_)
      .have hlt2':k<l.length:=by simp at Yi;omega
       have hki2:k<=i:=by simp at Yi;omega
       obtain⟨z1,z2,z3⟩:=iY l (l.length+1) 0 l.length (by omega) (by omega) VE.2 k (by omega) hlt2' hlt2';have hdk:fc l i (k+1)=fc l i k+(if l[k].kind=1/\(i:Int)<k+l[k].size then 1 else 0):=by simp[fc,hlt2']
       simp only[go_sem,seval,ax,aB,fi hlt2',jW,h0,h2,h4,h5,h6,h7,h8,iS,Nd.cells];refine And.intro (λXf=>⟨ae,And.intro (λhc=>?_) (λhc=>?_)⟩) (λXf=>?_)
       .refine⟨ae,ae,_,?_,k+1,by omega,rfl,?_,?_⟩
        .omega
        .rw[hdk,av ⟨Xf,hc⟩]
        .simp
       .refine⟨ae,_,?_,k+1,by omega,rfl,?_,?_⟩
        .omega
        .rw[hdk,aD (by simp at hc;omega),Int.add_zero]
        .simp
       .refine⟨ae,_,?_,k+1,by omega,rfl,?_,?_⟩
        .omega
        .rw[hdk,aD (by omega),Int.add_zero]
        .simp
      .have hke:k=i+1:=by simp at hge2;omega
       subst hke;have r1:=er f3 q1.1;have r2:=er r1 q2.1;have r3:=er r2 q3.1;have r4:=er r3 q4.1;have r5:=er r4 q5.1;have c1:=λU=>sZ _ _ U f3 ⟨q1.1,by have:=q1.2;simp only[mx]at this;omega⟩;have c2:=λU=>sZ _ _ U r1 ⟨q2.1,by have:=q2.2;simp only[mx]at this;omega⟩;have c3:=λU=>sZ _ _ U r2 ⟨q3.1,by have:=q3.2;simp only[mx]at this;omega⟩;have c4:=λU=>sZ _ _ U r3 ⟨q4.1,by have:=q4.2;simp only[mx]at this;omega⟩;have c5:=λU=>sZ _ _ U r4 ⟨q5.1,by have:=q5.2;simp only[mx]at this;omega⟩;simp only[go_sem,seval,ax,aB,c1,c2,c3,c4,c5,ab n64,ab n64.symm,h4s,W4,h0,h2,h4,h5,h6,h7,h8,iS,Nd.cells,Sm.cells,mx];have hfx:=rv (l:=l) hx hxw hfine0;refine⟨ae,_,?_,i+1,by omega,rfl,(G'.C' hid6).az hid4',?_,?_,?_,?_⟩
       .omega
       .rw[ab V2.symm,ab n6R.symm,hR];rfl
       .rw[Yl];have:(if fc l i (i+1)>sm.depth then fc l i (i+1)else sm.depth)=max sm.depth (fc l i (i+1)):=by split<;>omega
        simp[mU,W4,this]
       .simp
       .rw[Yl];simpa using hfx
    .have W4:x.kind≠1:=by simpa using hk
     have hfx:=rv (l:=l) hx hxw hfine0;refine And.intro (λXf=>?_) (λXf=>?_)
     .simp only[go_sem,seval,ax,aB,sZ,ab n64,ab n64.symm,h4s,Xf,h0,h2,h4,h5,iS,Nd.cells,Sm.cells,cy];refine⟨ae,?_⟩;refine ai.loop (λmm st=>∃k:Nat,k<=x.words.length/\mm=x.words.length-k/\aa U st.U/\st.U idR=some ⟨79,4,[.agg Sm.zero.cells]⟩/\
       st.U Zg=some ⟨79,4,[.agg (Sm.cells ⟨sm.depth,sm.pieces+x.words.length,sm.nodes,Bw sm.VF x.line k⟩)]⟩/\st.U id6=some ⟨48,20,[.agg x.cells]⟩/\
       st.s 0=aF l/\st.s 2=.ptr idR 0 0/\st.s 4=.ptr Zg 0 0/\st.s 5=vI i/\st.s 6=.ptr id6 0 0/\st.s 9=vI k) x.words.length ?_ ?_
      .refine⟨0,by omega,by omega,(G'.C' hid6).az hid4',?_,?_,?_,h0,h2,h4,h5,rfl,rfl⟩
       .simp only[ab V2.symm,ab n6R.symm,hR]
       .simp only[ag];rfl
       .simp only[ab n64,ag,Nd.cells,Xf]
      .rintro mm ⟨s,Z''⟩ ⟨k,hki,rfl,hs'',hR'',h4'',h6'',h0,h2,h4,h5,h6,h9⟩;simp only at hs'' hR'' h4'' h6'' h0 h2 h4 h5 h6 h9;have ha:=zd f3 p2 k;have c1:=λU=>sZ _ _ U ha ⟨p2,by have:=p3;simp only[mx]at this;omega⟩;refine ai.mix 10 ?_
       (refine ai.bH O7 300 ?_;simp only[go_sem,seval,ax,aB,c1,Xf,h4'',h6'',h0,h2,h4,h5,h6,h9,iS,bU,cy,Nd.cells,Sm.cells])
       refine And.intro (λYi=>?_) (λhge2=>?_)
       .refine⟨ae,_,?_,k+1,by omega,rfl,hs''.az hid4',?_,rfl,?_,?_⟩
        .omega
        .rw[ab V2.symm,hR''];rfl
        .rw[ab n64,h6''];simp[Nd.cells,Xf]
        .simp
       .have hke:k=x.words.length:=by simp at hge2;omega
        subst hke;refine⟨ae,_,?_,i+1,by omega,rfl,hs'',?_,?_,?_,?_⟩
        .omega
        .rw[hR''];rfl
        .rw[Yl];simp[mU,W4,Xf]
        .simp
        .rw[Yl];simpa using hfx
     .have hk2':x.kind≠2:=by simpa using Xf
      have hk3:x.kind>2:=by omega
      have c1:=λU=>sZ _ _ U f3 ⟨p4,by have:=p5;simp only[mx]at this;omega⟩;simp only[go_sem,seval,ax,aB,c1,ab n64,ab n64.symm,h4s,h0,h2,h4,h5,iS,Nd.cells,Sm.cells,cy];refine And.intro (λ_=>?_) (λhn=>?_)
      .refine⟨ae,ae,_,?_,i+1,by omega,rfl,(G'.C' hid6).az hid4',?_,?_,?_,?_⟩
       .omega
       .rw[ab V2.symm,ab n6R.symm,hR];rfl
       .rw[Yl];simp[mU,W4,hk2']
       .simp
       .rw[Yl];simpa using hfx
      .simp at hn;omega
   .have Yh:i=l.length:=by simp at YU;omega
    refine ak.pure (G'.az hidR) ?_;subst Yh;simp[iR,hf,hsm,Sm.cells]
open Go.Proofs
def wV(p:Int->Bool):∀l,decide (dp p l>=0)=l.any p
 |[]=>by simp[dp]
 |x::l=>by
  have ih:=wV p l;simp only[dp,List.any_cons];have hg:=jJ p l;rw[<-ih,Bool.eq_iff_iff];simp only[X7,lP];split
  .rename_i h;simp[h]
  .rename_i h;simp only[h,gi,false_or];by_cases hx:dp p l<0
   .rw[av hx];constructor<;>intro hh<;>simp at hh|-<;>omega
   .rw[aD hx];constructor<;>intro hh<;>simp at hh|-<;>omega
def nO{U:ad}{sv:V}{l:List Int}{f:FuncId}{caps:List V}{p:Int->Bool}(hr:Reads U 1 false sv (l.map vI))(hl:l.length<=200000000000000)
 (hf:∀n∈l,au prog f (vI n::caps) U λr Z'=>r=.bool (p n)/\Z'=U):
 au prog 222 [sv,.fn f caps] U λr Z'=>r=.bool (l.any p)/\Z'=U:=by
 refine SZ.q ?_;apply sR;simp only[go_sem,seval,ax,aB,PM];refine pS rfl (nF hr hl hf) ?_;simp only[go_sem,seval,ax,aB];refine ak.same ?_;rw[<-wV]
def Nj{U:ad}{id:Nat}{a b:Int}(h:U id=some ⟨238,2,[.agg [vI a,vI b]]⟩)(n:Int):
 au prog 223 [vI n,.ptr id 0 0] U λr Z'=>r=.bool (!bh n a b)/\Z'=U:=by
 refine U9.q ?_;apply sR;simp only[go_sem,seval,ax,aB,P9,h];refine And.intro (λh=>?_) (λh=>?_)
 .refine ak.same ?_;congr 1;simp only[bh];rw[<-decide_not,decide_eq_decide];omega
 .refine ak.same ?_;have:¬(n>=a/\n<=b):=by omega
  simp only[bh,this,decide_false,Bool.not_false]
def Reads.mono{U Z':ad}{sz:Nat}{agg:Bool}{sv:V}{rows:List V}(h:aa U Z')(hr:Reads U sz agg sv rows):Reads Z' sz agg sv rows:=by
 refine⟨hr.1,λi v hv=>?_⟩;obtain⟨p,h1,h2⟩:=hr.2 i v hv;refine⟨p,?_,?_⟩
 .cases sv<;>simp only[bO,reduceCtorEq]at h1|-
  .exact h1
  .rename_i id off len;cases ho:U id with
   |none=>rw[ho]at h1;cases h1
   |some ob=>rw[ho]at h1;rw[h id ob ho];exact h1
 .cases p<;>simp only[cj,reduceCtorEq]at h2|-
  .rename_i id i k;cases ho:U id with
   |none=>rw[ho]at h2;cases h2
   |some ob=>rw[ho]at h2;rw[h id ob ho];exact h2
  .exact h2
def LR{U:ad}{sv:V}{l:List Int}{a b:Int}(hr:Reads U 1 false sv (l.map vI))(hl:l.length<=200000000000000):
 au prog 169 [.agg [vI a,vI b],sv] U λr Z'=>r=.bool (l.all λn=>bh n a b)/\Z'=U:=by
 refine SQ.q ?_;apply sR;simp only[go_sem,seval,ax,aB,RL];intro id M';refine pS rfl (nO (p:=λn=>!bh n a b) (hr.mono ((aa.refl U).C' M')) hl (λn _=>Nj ag n)) ?_;simp only[go_sem,seval,ax,aB];refine ak.pure ((aa.refl U).C' M') ?_;rw[List.all_eq_not_any_not]
open Go.Proofs
def fY:List V->Option (List Int)
 |[]=>some []
 |.int .i64 n::l=>(fY l).map (n::·)
 |_=>none
def kC:∀{l:List V} {m:List Int},fY l=some m->l=m.map vI
 |[],m,h=>by simp[fY]at h;subst h;rfl
 |v::l,m,h=>by
  cases v<;>try (simp[fY]at h)
  rename_i k n;cases k<;>try (simp[fY]at h)
  obtain⟨m',h1,rfl⟩:=h;rw[kC h1];rfl
def pD(m:List Int):fY (m.map vI)=some m:=by
 induction m with
 |nil=>rfl
 |cons n m ih=>simp[fY,ih]
def gu(U:ad):V->Option (List Int)
 |.own id off len=>match U id with
   |some ob=>if ob.sz=1/\off+len<=ob.rows.length/\len<=200000000000000 then(if(fY ob.rows).isSome then fY ((ob.rows.drop off).take len)else none)else none
   |none=>none
 |.sl 1 rows=>if rows.length<=200000000000000 then fY rows else none
 |_=>none
def nQ{U:ad}{sv:V}{l:List Int}(h:gu U sv=some l):Reads U 1 false sv (l.map vI)/\l.length<=200000000000000:=by
 unfold gu at h;split at h
 .rename_i id off len;split at h
  .rename_i ob WO;split at h
   .rename_i hc;split at h
    .rename_i hi;have he:=kC h;obtain⟨m,hm⟩:=Option.isSome_iff_exists.1 hi;have hm:=kC hm;have hr:=Reads.own (U:=U) WO hc.1 hc.2.1 (λr hr=>by rw[hm]at hr;simp only[gM]at hr;obtain⟨n,_,rfl⟩:=hr;rfl);rw[he]at hr;have hl:l.length=len:=by
      have:=congrArg List.length he;simp at this;omega
     exact⟨hr,by omega⟩
    .cases h
   .cases h
  .cases h
 .rename_i rows;split at h
  .rename_i hc;have he:=kC h;subst he;exact⟨Reads.ints,by simpa using hc⟩
  .cases h
 .cases h
def oP{U Z':ad}(hs:aa U Z'){sv:V}{l:List Int}(h:gu U sv=some l):gu Z' sv=some l:=by
 unfold gu at h|-;split at h
 .split at h
  .rename_i ob WO;simp only[hs _ _ WO];exact h
  .cases h
 .exact h
 .cases h
def pe(U:ad){l:List Int}(h:l.length<=200000000000000):gu U (bb l)=some l:=by
 simp only[bb,gu,cO,av h];exact pD l
def o10(f:FuncId)(args:List V)(U:ad):Option V:=if f=169 then(match args with
 |[.agg [.int .i64 a,.int .i64 b],sv]=>(gu U sv).map λl=>.bool (l.all λn=>bh n a b)
 |_=>none)else none
def O10:Xu prog where
 get:=o10
 up f args U Z' v hs h:=by
  unfold o10 at h|-;split at h
  .rename_i hf;rw[av hf];split at h
   .simp only[Zq8]at h|-;obtain⟨l,h1,h2⟩:=h;exact⟨l,oP hs h1,h2⟩
   .cases h
  .cases h
 ok f args U v h:=by
  unfold o10 at h;split at h
  .rename_i hf;subst hf;split at h
   .simp only[Zq8]at h;obtain⟨l,h1,rfl⟩:=h;obtain⟨g1,g2⟩:=nQ h1;exact LR g1 g2
   .cases h
  .cases h
def w9(a b:Int)(sv:V)(U:ad):O10.get 169 [.agg [.int .i64 a,.int .i64 b],sv] U=(gu U sv).map λl=>.bool (l.all λn=>bh n a b):=rfl
def dF(U:ad)(id off len:Nat):gu U (.own id off len)=match U id with
 |some ob=>if ob.sz=1/\off+len<=ob.rows.length/\len<=200000000000000 then(if(fY ob.rows).isSome then fY ((ob.rows.drop off).take len)else none)else none
 |none=>none:=rfl
def eK(n:Int)(l:List V):fY (.int .i64 n::l)=(fY l).map (n::·):=rfl
def eM:fY []=some []:=rfl
def IV(s:Xh):aL prog 168 [.agg s.cells] (.bool s.ok):=λU=>by
 refine SP.q ?_;refine ai.mix 6 ?_
 (refine ai.bH O10 300 ?_;simp only[go_sem,seval,QZ,Xh.cells])
 refine aA λid1 Z1 s1 a1 f1=>?_;simp only[go_sem,seval];refine aA λid3 Z2 s2 a3 f3=>?_;have n13:=aU a1 f3;have a1:=s2 _ _ a1;simp only[go_sem,seval,a1];refine aA λZg Z3 s3 a4 f4=>?_;have n14:=aU a1 f4;have n34:=aU a3 f4;have a1:=s3 _ _ a1;have a3:=s3 _ _ a3;have hs:aa U Z3:=(s1.trans s2).trans s3;have g3:U id3=none:=s1.none f3;have g4:U Zg=none:=(s1.trans s2).none f4;simp only[go_sem,seval,a1,a3,a4,ab n34,ab n34.symm,ab n13,ab n14];have VW:=λo o'=>(hs.az (o:=o) g3).az (o:=o') g4;refine aA λid5 Z4 s4 a5 f5=>?_;have a1:=s4 id1 _ (by rw[ab n14,ab n13];exact a1);have a4:=s4 Zg _ ag;have hs:=(VW _ _).trans s4;simp only[go_sem,seval,a1,a4,a5,w9,dF,eK,eM,bh,<-Bool.decide_and];refine And.intro (λp0=>?_) (λp0=>ak.pure hs (by rw[V.bool.injEq];symm;rw[Bool.eq_false_iff];intro h;simp[Xh.ok,bh,mx]at h;omega));refine aA λid6 Z5 s5 a6 f6=>?_;have a1:=s5 _ _ a1;have hs:=hs.trans s5;simp only[go_sem,seval,a1,a6,w9,dF,eK,eM,bh,<-Bool.decide_and];refine And.intro (λp1=>?_) (λp1=>ak.pure hs (by rw[V.bool.injEq];symm;rw[Bool.eq_false_iff];intro h;simp[Xh.ok,bh,mx]at h;omega));refine aA λid7 Z6 s6 a7 f7=>?_;have a1:=s6 _ _ a1;have hs:=hs.trans s6;simp only[go_sem,seval,a1,a7,w9,dF,eK,eM,bh,<-Bool.decide_and];refine And.intro (λp2=>?_) (λp2=>ak.pure hs (by rw[V.bool.injEq];symm;rw[Bool.eq_false_iff];intro h;simp[Xh.ok,bh,mx]at h;omega));refine aA λid8 Z7 s7 a8 f8=>?_;have a1:=s7 _ _ a1;have hs:=hs.trans s7;simp only[go_sem,seval,a1,a8,w9,dF,eK,eM,bh,<-Bool.decide_and];refine And.intro (λp3=>?_) (λp3=>ak.pure hs (by rw[V.bool.injEq];symm;rw[Bool.eq_false_iff];intro h;simp[Xh.ok,bh,mx]at h;omega));refine aA λid9 Z8 s8 a9 f9=>?_;have a1:=s8 _ _ a1;have hs:=hs.trans s8;simp only[go_sem,seval,a1,a9,w9,dF,eK,eM,bh,<-Bool.decide_and];refine ak.pure hs ?_;rw[V.bool.injEq,Bool.eq_iff_iff];simp[Xh.ok,bh,mx];omega
open Go.Proofs
def eS(l:List Nd):Int:=if Wg l then(if(iR l).1.depth>16\/(iR l).1.pieces>2000\/(iR l).1.nodes>2000\/(iR l).1.VF>1099511627776 then 2 else 0)else 4
def DA(l:List Nd)(hl:ep l):aL prog 39 [aF l] (vI (eS l)):=λU=>by
 refine e39.q ?_;refine mS 6 ?_;simp only[go_sem,seval,ax,aB,c39];refine pS rfl (AW l hl _) ?_;simp only[go_sem,seval,ax,aB,Sm.cells,iS];intro id M';have G':=λo=>(aa.refl U).C' M' (o:=o);have hc:(iR l).2=if Wg l then 0 else 4:=by unfold iR;split<;>rfl
 refine And.intro (λh=>?_) (λh=>?_)
 .refine ak.pure (G' _) ?_;have:Wg l=false:=by
   rw[hc]at h;cases hb:Wg l<;>simp_all
  simp[eS,this,hc]
 .have hb:Wg l=true:=by
   rw[hc]at h;cases hb:Wg l<;>simp_all
  repeat' (first
   |with_reducible refine And.intro (λh=>?_) (λh=>?_)
   |with_reducible refine ak.pure (G' _) ?_)
  all_goals (simp only[eS,hb,if_true,V.int.injEq,true_and];split<;>simp_all<;>omega)
open Go.Proofs
def o12(f:FuncId)(args:List V)(U:ad):Option V:=if f=169 then(match args with
 |[.agg [.int .i64 a,.int .i64 b],sv]=>(gu U sv).map λl=>.bool (l.all λn=>bh n a b)
 |_=>none)else if f=168 then(match args with
 |[.agg [.int .i64 a,.int .i64 b,.int .i64 c,.int .i64 d,.int .i64 e,.int .i64 f,.int .i64 g,.int .i64 h,.int .i64 i,.int .i64 j,.int .i64 k,.int .i64 l]]=>some (.bool (Xh.ok ⟨a,b,c,d,e,f,g,h,i,j,k,l⟩))
 |_=>none)else none
def O12:Xu prog where
 get:=o12
 up f args U Z' v hs h:=by
  unfold o12 at h|-;split at h
  .rename_i hf;rw[av hf];split at h
   .simp only[Zq8]at h|-;obtain⟨l,h1,h2⟩:=h;exact⟨l,oP hs h1,h2⟩
   .cases h
  .rename_i hf;rw[aD hf];exact h
 ok f args U v h:=by
  unfold o12 at h;split at h
  .rename_i hf;subst hf;split at h
   .simp only[Zq8]at h;obtain⟨l,h1,rfl⟩:=h;obtain⟨g1,g2⟩:=nQ h1;exact LR g1 g2
   .cases h
  .split at h
   .rename_i hf;subst hf;split at h
    .simp only[aS]at h;subst h;exact IV ⟨_,_,_,_,_,_,_,_,_,_,_,_⟩ U
    .cases h
   .cases h
def rW(a b:Int)(sv:V)(U:ad):O12.get 169 [.agg [.int .i64 a,.int .i64 b],sv] U=(gu U sv).map λl=>.bool (l.all λn=>bh n a b):=rfl
def su(a b c d e f g h i j k l:Int)(U:ad):O12.get 168 [.agg [.int .i64 a,.int .i64 b,.int .i64 c,.int .i64 d,.int .i64 e,.int .i64 f,.int .i64 g,.int .i64 h,.int .i64 i,.int .i64 j,.int .i64 k,.int .i64 l]] U=
 some (.bool (Xh.ok ⟨a,b,c,d,e,f,g,h,i,j,k,l⟩)):=rfl
def kF(s:Xh):(decide (s.top=0)&&(decide (s.V0=0)&&(decide (s.VJ=0)&&(decide (s.T'=0)&&(decide (s.Wf=0)&&(decide (s.VK=0)&&(decide (s.VY=0)&&(decide (s.head=0)&&
 (decide (s.before=0)&&(decide (s.after=0)&&(decide (s.inside=0)&&decide (s.clear=0))))))))))))=decide (s=Xh.zero):=by
 rw[Bool.eq_iff_iff];cases s;simp[Xh.zero]
def Kl(x:Nd)(hl:x.words.length<=200000000000000)(k4:x.kind=4):aL prog 121 [gm x] (.bool x.ok):=λU=>by
 refine Oz.q ?_;refine ai.mix 6 ?_
 (refine ai.bH O12 300 ?_;simp only[go_sem,seval,NS,gm,Nd.cells])
 refine aA λid1 Z1 s1 a1 f1=>?_;simp only[go_sem,seval,a1];refine aA λid3 Z2 s2 a3 f3=>?_;have n13:=aU a1 f3;have a1:=s2 _ _ a1;have hs:=(s1.trans s2).az (s1.none f3) (o:=⟨238,2,[.agg [vI 1,vI 1099511627776]]⟩);have hok3:x.ok=(decide (x.st=Xh.zero)&&(decide (x.line=0)&&decide (x.space=0)&&decide (x.words.length=0)&&bh x.w 1 mx&&bh x.h 1 mx&&bh x.side 1 2)):=by
  by_cases VP:x.st=Xh.zero<;>simp[Nd.ok,k4,VP]
 simp only[go_sem,seval,a1,a3,ab n13,kF,cy,k4,su,iS,ag];refine And.intro (λe1=>And.intro (λe2=>And.intro (λz=>And.intro (λw=>?_) (λw=>?_)) (λz=>?_)) (λe2=>?_)) (λe1=>?_)
 .refine aA λZg Z3 s3 a4 f4=>?_;have a1:=s3 id1 _ (by rw[ab n13];exact a1);have a3:=s3 id3 _ ag;have hs:=hs.trans s3;simp only[go_sem,seval,a1,a3,a4,rW,dF,eK,eM,bh,mV,List.all_nil,<-Bool.decide_and];refine And.intro (λq1=>?_) (λq1=>ak.pure hs ?_)
  .refine aA λid5 Z4 s4 a5 f5=>?_;have a1:=s4 _ _ a1;have hs:=hs.trans s4;simp only[go_sem,seval,a1,a5,rW,dF,eK,eM,bh,mV,List.all_nil,<-Bool.decide_and];refine ak.pure hs ?_;rw[V.bool.injEq,hok3,Bool.eq_iff_iff];simp only[bh,mx];simp at w;simp[e1,e2,z,w];omega
  .rw[V.bool.injEq,hok3,Bool.eq_iff_iff];simp only[bh,mx];simp[e1,e2,z];omega
 all_goals (repeat' (first
  |with_reducible refine And.intro (λh=>?_) (λh=>?_)
  |with_reducible refine ak.pure hs ?_))
 all_goals (rw[V.bool.injEq,hok3,Bool.eq_iff_iff];simp_all)
def NL(x:Nd)(hl:x.words.length<=200000000000000):aL prog 121 [gm x] (.bool x.ok):=λU=>by
 by_cases k4:x.kind=4
 .exact Kl x hl k4 U
 refine Oz.q ?_;refine ai.mix 6 ?_
 (refine ai.bH O12 300 ?_;simp only[go_sem,seval,NS,gm,Nd.cells])
 refine aA λid1 Z1 s1 a1 f1=>?_;simp only[go_sem,seval,a1];refine aA λid3 Z2 s2 a3 f3=>?_;have n13:=aU a1 f3;have a1:=s2 _ _ a1;have hs:=(s1.trans s2).az (s1.none f3) (o:=⟨238,2,[.agg [vI 1,vI 1099511627776]]⟩);have hz:(x.kind=1->x.ok=(x.st.ok&&decide (x.line=0)&&decide (x.space=0)&&decide (x.words.length=0)&&decide (x.side=0)&&decide (x.w=0)&&decide (x.h=0))):=λh=>by simp[Nd.ok,h]
 have hwl:x.words.length<=200000000000000:=by omega
 by_cases k1:x.kind=1
 .simp only[go_sem,seval,a1,a3,ab n13,kF,cy,k1,su,iS];rw[hz k1]
  repeat' (first
   |with_reducible refine And.intro (λh=>?_) (λh=>?_)
   |with_reducible refine ak.pure hs ?_)
  all_goals (rw[V.bool.injEq,Bool.eq_iff_iff];simp_all)
 .by_cases k2:x.kind=2
  .by_cases e1:x.line=0
   .have hok0:x.ok=false:=by
     by_cases VP:x.st=Xh.zero<;>simp[Nd.ok,k2,VP,e1,bh]
    rw[hok0];simp only[go_sem,seval,a1,a3,ab n13,kF,cy,k1,k2,e1,su,iS,ag]
    repeat' (first
     |with_reducible refine And.intro (λh=>?_) (λh=>?_)
     |with_reducible refine ak.pure hs rfl
     |(refine aA λZg Z3 s3 a4 f4=>?_
       have a1:=s3 id1 _ (by rw[ab n13];exact a1);have a3:=s3 id3 _ ag;simp only[go_sem,seval,a1,a3,a4,rW,dF,eK,eM,bh,mV,List.all_nil,false_and];exact ak.pure (hs.trans s3) rfl))
   .simp only[go_sem,seval,a1,a3,ab n13,kF,cy,k1,k2,e1,su,iS,ag];have hok2:x.ok=(decide (x.st=Xh.zero)&&(x.words.all (bh · 1 mx)&&decide (0<x.words.length)&&bh x.line 1 mx&&bh x.space 0 mx&&decide (x.side=0)&&decide (x.w=0)&&decide (x.h=0))):=by
     by_cases VP:x.st=Xh.zero<;>simp[Nd.ok,k2,VP]
    refine And.intro (λz=>?_) (λz=>ak.pure hs (by rw[hok2];simp_all));refine And.intro (λw1=>?_) (λw1=>ak.pure hs (by rw[hok2];simp[w1]));refine And.intro (λw2=>?_) (λw2=>ak.pure hs (by rw[hok2];simp[w2]));refine And.intro (λw3=>?_) (λw3=>ak.pure hs (by rw[hok2];simp[w3]));refine aA λZg Z3 s3 a4 f4=>?_;have a1:=s3 id1 _ (by rw[ab n13];exact a1);have a3:=s3 id3 _ ag;have hs:=hs.trans s3;simp only[go_sem,seval,a1,a3,a4,rW,dF,eK,eM,pe _ hwl,iS,qt (List.all _ _)];refine And.intro (λq1=>?_) (λq1=>ak.pure hs (by rw[hok2];simp[mx]at q1|-;simp[q1]));refine And.intro (λq2=>?_) (λq2=>ak.pure hs (by rw[hok2];simp only[mx,q2];simp));refine aA λid5 Z4 s4 a5 f5=>?_;have a1:=s4 _ _ a1;have hs:=hs.trans s4;simp only[go_sem,seval,a1,a5,rW,dF,eK,eM,pe _ hwl,iS,cy,qt (List.all _ _)];refine And.intro (λq3=>?_) (λq3=>ak.pure hs (by rw[hok2];simp[mx]at q3|-;simp[q3]));refine ak.pure hs ?_;rw[hok2];simp only[mx,q1,q2,q3,z,w1,w2,w3];simp
  .have hok3:x.ok=(decide (x.st=Xh.zero)&&(decide (x.line=0)&&decide (x.space=0)&&decide (x.words.length=0)&&bh x.w 1 mx&&bh x.h 1 mx&&
    (decide (x.kind=3)&&decide (x.side=0)||decide (x.kind=4)&&bh x.side 1 2))):=by
    by_cases VP:x.st=Xh.zero<;>simp[Nd.ok,k1,k2,VP]
   by_cases k3:x.kind=3
   .simp only[go_sem,seval,a1,a3,ab n13,kF,cy,k1,k2,k3,su,iS,ag]
    repeat' (first
     |with_reducible refine And.intro (λh=>?_) (λh=>?_)
     |with_reducible refine ak.pure hs ?_
     |(refine aA λZg Z3 s3 a4 f4=>?_
       have a1:=s3 id1 _ (by rw[ab n13];exact a1);have a3:=s3 id3 _ ag;simp only[go_sem,seval,a1,a3,a4,rW,dF,eK,eM,bh,mV,List.all_nil,<-Bool.decide_and];refine ak.pure (hs.trans s3) ?_))
    all_goals (rw[V.bool.injEq,hok3,Bool.eq_iff_iff];simp_all [bh,mx]<;>omega)
   .simp only[go_sem,seval,a1,a3,ab n13,kF,cy,k1,k2,k3,k4,su,iS,ag]
    repeat' (first
     |with_reducible refine And.intro (λh=>?_) (λh=>?_)
     |with_reducible refine ak.pure hs ?_)
    all_goals (rw[V.bool.injEq,hok3];simp[k3,k4])
open Go.Proofs
def tZ(i:Nat):List Int->List Int
 |a::b::s=>if a=i then tZ i (b::s)else a::b::s
 |s=>s
def isS:List Nd->Nat->List Int->Bool
 |[],_,_=>true
 |x::r,i,YF=>match tZ i YF with
  |[]=>false
  |a::s=>if x.ok=true/\1<=x.size/\x.size<=a-i/\(x.kind=1\/x.size<=1)then isS r (i+1) ((i+x.size)::a::s)else false
def Asc(n:Nat):Nat->List Int->Prop
 |lo,[]=>lo=n
 |lo,a::s=>(lo:Int)<=a/\Asc n a.toNat s
def lK(l:List Nd):Nat->List Int->Bool
 |_,[]=>true
 |lo,a::s=>bS l lo a.toNat&&lK l a.toNat s
def Fp(l:List Nd)(a:Nat):bS l a a=true:=by rw[bS,dif_neg (Nat.lt_irrefl a)]
def wT(l:List Nd)(n i:Nat)(hi:i<n):∀YF,Asc n i YF->∃a s,tZ i YF=a::s/\(i:Int)<a/\Asc n i (a::s)/\lK l i (a::s)=lK l i YF
 |[],h=>by simp only[Asc]at h;omega
 |[a],h=>by
  have h':=h;simp only[Asc]at h';exact⟨a,[],rfl,by omega,h,rfl⟩
 |a::b::s,h=>by
  by_cases ha:a=i
  .have h':=h.2;rw[ha,fp]at h';obtain⟨c,t,g1,g2,g3,g4⟩:=wT l n i hi (b::s) h';refine⟨c,t,by simp[tZ,ha,g1],g2,g3,?_⟩;rw[g4];show _=(bS l i a.toNat&&lK l a.toNat (b::s));rw[ha,fp,Fp,Bool.true_and]
  .have h':=h.1;exact⟨a,b::s,by simp[tZ,ha],by omega,h,rfl⟩
def EN(l:List Nd):∀(r:List Nd) (i:Nat) (YF:List Int),l.drop i=r->Asc l.length i YF->isS r i YF=(r.all Nd.ok&&lK l i YF)
 |[],i,YF,hr,hs=>by
  have hi:l.length<=i:=by simpa using hr
  have key:∀(YF:List Int) (lo:Nat),l.length<=lo->Asc l.length lo YF->lK l lo YF=true:=by
   intro YF
   induction YF with
   |nil=>intro _ _ _;rfl
   |cons a s ih=>
    intro lo WL h;have h1:=h.1;simp only[lK];rw[ih a.toNat (by omega) h.2,bS,Bool.and_true];split
    .have:l[lo]?=none:=by simp[WL]
     rw[this];have hend:∀(YF:List Int) (lo:Nat),Asc l.length lo YF->lo<=l.length:=by
      intro YF
      induction YF with
      |nil=>intro lo h;simp only[Asc]at h;omega
      |cons b t ih=>intro lo h;have:=h.1;have:=ih _ h.2;omega
     have:=hend _ _ h.2;omega
    .rfl
  simp[isS,key YF i hi hs]
 |x::r,i,YF,hr,hs=>by
  have hi:i<l.length:=by
   rcases Nat.lt_or_ge i l.length with h|h
   .exact h
   .rw[K7 h]at hr;cases hr
  have hx:l[i]?=some x:=by
   have:(l.drop i)[0]?=some x:=by rw[hr];rfl
   simpa using this
  have hr':l.drop (i+1)=r:=by
   have:(l.drop i).drop 1=r:=by rw[hr];rfl
   simpa using this
  obtain⟨a,s,h1,h2,h3,h4⟩:=wT l l.length i hi YF hs;rw[isS,h1];simp only;rw[<-h4];simp only[lK,mV];have WI:bS l i a.toNat=if _hx:1<=x.size/\x.size<=(a.toNat:Int)-i then
   (decide (x.kind=1)||decide (x.size<=1))&&bS l (i+1) (i+x.size.toNat)&&bS l (i+x.size.toNat) a.toNat else false:=by
   rw[bS,dif_pos (by omega),hx]
  rw[WI];have XG:(a.toNat:Int)=a:=by omega
  rw[XG];by_cases hc:1<=x.size/\x.size<=a-i
  .rw[dif_pos hc];have e:(i+x.size).toNat=i+x.size.toNat:=by omega
   have ih:=EN l r (i+1) ((i+x.size)::a::s) hr' ⟨by omega,by rw[e];omega,h3.2⟩;by_cases hk:x.ok=true/\(x.kind=1\/x.size<=1)
   .rw[av ⟨hk.1,hc.1,hc.2,hk.2⟩,ih];simp only[lK,e,hk.1,Bool.true_and];have:(decide (x.kind=1)||decide (x.size<=1))=true:=by simpa using hk.2
    rw[this,Bool.true_and,Bool.and_assoc]
   .rw[aD (λh=>hk ⟨h.1,h.2.2.2⟩)];symm;rw[Bool.eq_false_iff];intro h;simp only[Ba,lP,X7]at h;exact hk ⟨h.1.1,h.2.1.1.1⟩
  .rw[dif_neg hc,aD (λh=>hc ⟨h.2.1,h.2.2.1⟩)];simp
def Ly(l:List Nd):isS l 0 [(l.length:Int)]=Wg l:=by
 rw[EN l l 0 [(l.length:Int)] rfl ⟨by omega,by simp[Asc]⟩];simp[lK,Wg]
open Go.Proofs
def o14(f:FuncId)(args:List V):Option V:=if f=121 then(match args with
 |[.agg [.int .i64 a0,.int .i64 a1,.int .i64 a2,.int .i64 a3,.int .i64 a4,.int .i64 a5,.int .i64 a6,.int .i64 a7,.int .i64 a8,.int .i64 a9,.int .i64 Wn,.int .i64 X2,.int .i64 a12,.int .i64 Xy,.int .i64 Yf,.int .i64 WN,.sl 1 rows,.int .i64 ZA,.int .i64 a18,.int .i64 ZC]]=>
  (fY rows).bind λws=>if ws.length<=200000000000000 then some (.bool (Nd.ok ⟨a0,a1,⟨a2,a3,a4,a5,a6,a7,a8,a9,Wn,X2,a12,Xy⟩,Yf,WN,ws,ZA,a18,ZC⟩))else none
 |_=>none)else none
def O14:Xu prog where
 get f args _:=o14 f args
 ok f args U v h:=by
  unfold o14 at h;split at h
  .rename_i hf;subst hf;split at h
   .rw[Gp]at h;obtain⟨ws,h1,h2⟩:=h;split at h2
    .rename_i hw;simp only[aS]at h2;subst h2;rw[kC h1];exact NL ⟨_,_,⟨_,_,_,_,_,_,_,_,_,_,_,_⟩,_,_,ws,_,_,_⟩ hw U
    .cases h2
   .cases h
  .cases h
def M3{x:Nd}(hw:x.words.length<=200000000000000)(U:ad):O14.get 121 [.agg [.int .i64 x.kind,.int .i64 x.size,.int .i64 x.st.top,.int .i64 x.st.V0,.int .i64 x.st.VJ,.int .i64 x.st.T',.int .i64 x.st.Wf,.int .i64 x.st.VK,.int .i64 x.st.VY,.int .i64 x.st.head,.int .i64 x.st.before,.int .i64 x.st.after,.int .i64 x.st.inside,.int .i64 x.st.clear,.int .i64 x.line,.int .i64 x.space,bb x.words,.int .i64 x.side,.int .i64 x.w,.int .i64 x.h]] U=
 some (.bool x.ok):=by
 show((fY (x.words.map vI)).bind λws=>if ws.length<=200000000000000 then some (V.bool (Nd.ok ⟨x.kind,x.size,⟨x.st.top,x.st.V0,x.st.VJ,x.st.T',x.st.Wf,x.st.VK,x.st.VY,x.st.head,x.st.before,x.st.after,x.st.inside,x.st.clear⟩,x.line,x.space,ws,x.side,x.w,x.h⟩))else none)=_;rw[pD,Option.bind_some,av hw]
def GG{rows:List V}{k:Nat}{a:Int}{s:List Int}(hk:k=(a::s).length)(ht:rows.take k=(a::s).reverse.map vI):rows[k-1]?=some (.int .i64 a)/\rows.take (k-1)=s.reverse.map vI:=by
 simp only[XU]at hk;have h1:(rows.take k)[k-1]?=rows[k-1]?:=by rw[List.getElem?_take,av (by omega)]
 constructor
 .rw[<-h1,ht,hk];simp
 .have h2:rows.take (k-1)=(rows.take k).take (k-1):=by rw[List.take_take];congr 1;omega
  rw[h2,ht,hk];simp
def Asc.le{n:Nat}:∀{YF:List Int} {lo:Nat},Asc n lo YF->lo<=n
 |[],lo,h=>by simp only[Asc]at h;omega
 |a::s,lo,h=>by have h1:=h.1;have h2:=Asc.le h.2;omega
def EE(l:List Nd)(hl:ep l):aL prog 78 [aF l] (.bool (Wg l)):=λU=>by
 have hl0:=hl;obtain⟨hl1,hl2⟩:=hl;refine e78.q ?_;refine mS 6 ?_;simp only[go_sem,seval,ax,aB,c78,bU];intro e0 he0;refine ai.loop (λm st=>∃i YF e k rows,i<=l.length/\m=l.length-i/\Wg l=isS (l.drop i) i YF/\Asc l.length i YF/\YF≠[]/\YF.length<=i+1/\aa U st.U/\st.U e=some ⟨3,1,rows⟩/\U e=none/\k=YF.length/\k<=rows.length/\rows.take k=YF.reverse.map vI/\
  st.s 3=.own e 0 k/\st.s 9=aF l/\st.s 10=vI l.length/\st.s 11=vI i) l.length ?_ ?_
 .refine⟨0,[(l.length:Int)],e0,1,[vI l.length],by omega,by omega,by rw[<-Ly];rfl,⟨by omega,by simp[Asc]⟩,by simp,by simp,(aa.refl U).C' he0,ag,he0,rfl,by simp,rfl,rfl,rfl,rfl,rfl⟩
 .rintro m ⟨s,Z'⟩ ⟨i,YF,e,k,rows,hi,rfl,hB,hasc,V2,Zr,G',WI,Zl,hk,hkr,V9,h3,h9,h10,h11⟩;simp only at G' WI h3 h9 h10 h11;refine mS 6 ?_;simp only[go_sem,seval,ax,aB,h3,h9,h10,h11];refine And.intro (λB'=>?_) (λYU=>?_)
  .have Wo:i<l.length:=by simp at B';omega
   have hd:l.drop i=l[i]::l.drop (i+1):=ju Wo;have hxw:l[i].words.length<=200000000000000:=hl2 _ (Ws Wo);rw[hd]at hB;generalize hxe:l[i]=x at*;simp only[go_sem,seval,ax,aB,fi Wo,hxe,jW,h3,h9,h10,h11,Nd.cells];intro id5 hid5;replace hid5:Z' id5=none:=hid5;have n5e:e≠id5:=by rintro rfl;rw[WI]at hid5;cases hid5
   have n5n:U id5=none:=G'.none hid5;refine ai.loop (λm st=>∃stk' k',m=stk'.length/\tZ i YF=tZ i stk'/\Asc l.length i stk'/\stk'≠[]/\stk'.length<=YF.length/\st.U=C' Z' id5 ⟨48,20,[.agg x.cells]⟩/\k'=stk'.length/\k'<=rows.length/\rows.take k'=stk'.reverse.map vI/\
    st.s 3=.own e 0 k'/\st.s 4=vI i/\st.s 5=.ptr id5 0 0/\st.s 9=aF l/\st.s 10=vI l.length/\st.s 11=vI i) YF.length ?_ ?_
   .exact⟨YF,k,rfl,rfl,hasc,V2,Wa _,rfl,hk,hkr,V9,h3,rfl,rfl,h9,h10,h11⟩
   .rintro m ⟨s,Z''⟩ ⟨stk',k',rfl,hpop,hasc',hne',hsl',V7,XO,hkr',htk',h3,h4,h5,h9,h10,h11⟩;simp only at V7 h3 h4 h5 h9 h10 h11;subst V7;obtain⟨a,tl,rfl⟩:=List.exists_cons_of_ne_nil hne';obtain⟨htop,htk2⟩:=GG XO htk';have hkpos:1<=k':=by rw[XO];simp
    have g0:(k':Int)-1<k':=by omega
    have g1:(0:Int)<=(k':Int)-1:=by omega
    have g2:(k':Int)-1<=k':=by omega
    have g3:((k':Int)-1).toNat=k'-1:=by omega
    have hrng:VO .i64 ((k':Int)-1):=ae;refine ai.mix 6 ?_
    (refine ai.bH O14 300 ?_;simp only[go_sem,seval,ax,aB,h3,h4,h5,h9,h10,h11,ab n5e,WI,g0,g1,g2,g3,Int.le_refl,Int.toNat_zero,Nat.sub_zero,htop,iS,Nd.cells,M3 hxw,qt (Nd.ok x)])
    refine And.intro (λh1=>⟨hrng,And.intro (λh2=>?_) (λh2=>?_)⟩) (λh1=>?_)
    .obtain⟨b,tl',rfl⟩:∃b tl',tl=b::tl':=by
      cases tl with
      |nil=>simp at XO;omega
      |cons b tl'=>exact⟨b,tl',rfl⟩
     have hp2:tZ i (a::b::tl')=tZ i (b::tl'):=by simp[tZ,h2]
     have ha2:=hasc'.2;rw[h2,fp]at ha2;refine⟨hrng,_,?_,b::tl',k'-1,rfl,by rw[hpop,hp2],ha2,by simp,?_,?_,by omega,htk2,rfl⟩
     .simp
     .simp only[XU]at hsl'|-;omega
     .simp only[XU]at XO|-;omega
    all_goals
     have hps:tZ i (a::tl)=a::tl:=by
      cases tl with
      |nil=>rfl
      |cons b tl'=>
       have:a≠i:=by first
        |simpa using h2
        |(exfalso;simp at XO h1;omega)
       simp[tZ,this]
     obtain⟨c,t,p1,p2,p3,p4⟩:=wT l l.length i Wo (a::tl) hasc';rw[hps,List.cons.injEq]at p1;obtain⟨rfl,rfl⟩:=p1;have hIs:Wg l=if x.ok=true/\1<=x.size/\x.size<=a-i/\(x.kind=1\/x.size<=1)then isS (l.drop (i+1)) (i+1) ((i+x.size)::a::tl)else false:=by
      rw[hB,isS,hpop,hps]
     have hale:=Asc.le p3.2;have hlenk:(rows.take k').length=k':=by simp;omega
     have hstk:k'<=i+1:=by rw[XO];omega
     have happ:x.ok=true/\1<=x.size/\x.size<=a-i/\(x.kind=1\/x.size<=1)->∀(X Y:Ob) (id id1:Nat),C' Z' id5 X id=none->C' (C' Z' id5 X) id Y id1=none->
      Wg l=isS (l.drop (i+1)) (i+1) ((i+x.size)::a::tl)/\Asc l.length (i+1) ((i+x.size)::a::tl)/\aa U (C' (del (C' (C' Z' id5 X) id Y) e) id1 ⟨3,1,rows.take k'++[.int .i64 (i+x.size)]⟩)/\U id1=none/\
      (rows.take k'++[V.int .i64 (i+x.size)]).take (k'+1)=((i+x.size)::a::tl).reverse.map vI:=by
      intro hc X Y id id1 M' hid1;rw[gX]at M';rw[gX,gX]at hid1;rw[av hc]at hIs;refine⟨hIs,⟨by omega,?_,p3.2⟩,?_,G'.none hid1.2.2,?_⟩
      .have:(i+x.size).toNat=i+x.size.toNat:=by omega
       omega
      .exact aa.az (aa.oN ((G'.az n5n).az (G'.none M'.2)) Zl) (G'.none hid1.2.2)
      .rw[nq (by simp;omega),htk'];simp
     refine And.intro (λq1=>And.intro (λq2=>⟨hrng,ae,And.intro (λq3=>And.intro (λq4=>And.intro (λq5=>?_) (λq5=>?_)) (λq4=>?_)) (λq3=>?_)⟩) (λq2=>?_)) (λq1=>?_)
     .refine ak.pure (G'.C' hid5) ?_;rw[hIs,aD];rintro⟨c1,c2,c3,c4⟩;omega
     .refine⟨ae,?_⟩;intro id M';have hid':=(gX.1 M').2;have nie:e≠id:=by rintro rfl;rw[WI]at hid';cases hid'
      have WM:∀U,U e=some ⟨3,1,rows⟩->bL U 3 1 (.own e 0 k')=some (rows.take k',some e):=by
       intro U V7;simp only[bL,V7];rw[av ⟨trivial,trivial,trivial,hkr'⟩]
      have W9:∀U,U id=some ⟨3,1,[.int .i64 (i+x.size)]⟩->bM U 1 (.own id 0 1)=some [.int .i64 (i+x.size)]:=by
       intro U V7;simp only[bM,V7];rw[av (by simp)];simp
      have hb:(k'+1)*9<=140737488355328:=by omega
      simp only[go_sem,seval,ax,aB,WM,W9,ab n5e,ab nie,WI,hlenk,hb,bN,h3,h4,h5,h9,h10,h11];intro id1 hid1;obtain⟨z1,z2,z3,z4,z5⟩:=happ ⟨by simpa using q1,by omega,by omega,by first|(left;simpa using q4)|(right;simp at q5;omega)⟩ _ _ id id1 M' hid1
      refine⟨ae,_,?_,i+1,_,id1,k'+1,_,by omega,rfl,z1,z2,by simp,?_,z3,ag,z4,?_,?_,z5,rfl,?_⟩
      .omega
      .simp only[XU]at XO hsl'|-;omega
      .simp only[XU]at XO|-;omega
      .simp;omega
      .simp
     .refine⟨ae,?_⟩;intro id M';have hid':=(gX.1 M').2;have nie:e≠id:=by rintro rfl;rw[WI]at hid';cases hid'
      have WM:∀U,U e=some ⟨3,1,rows⟩->bL U 3 1 (.own e 0 k')=some (rows.take k',some e):=by
       intro U V7;simp only[bL,V7];rw[av ⟨trivial,trivial,trivial,hkr'⟩]
      have W9:∀U,U id=some ⟨3,1,[.int .i64 (i+x.size)]⟩->bM U 1 (.own id 0 1)=some [.int .i64 (i+x.size)]:=by
       intro U V7;simp only[bM,V7];rw[av (by simp)];simp
      have hb:(k'+1)*9<=140737488355328:=by omega
      simp only[go_sem,seval,ax,aB,WM,W9,ab n5e,ab nie,WI,hlenk,hb,bN,h3,h4,h5,h9,h10,h11];intro id1 hid1;obtain⟨z1,z2,z3,z4,z5⟩:=happ ⟨by simpa using q1,by omega,by omega,by first|(left;simpa using q4)|(right;simp at q5;omega)⟩ _ _ id id1 M' hid1
      refine⟨ae,_,?_,i+1,_,id1,k'+1,_,by omega,rfl,z1,z2,by simp,?_,z3,ag,z4,?_,?_,z5,rfl,?_⟩
      .omega
      .simp only[XU]at XO hsl'|-;omega
      .simp only[XU]at XO|-;omega
      .simp;omega
      .simp
     .refine ak.pure (G'.C' hid5) ?_;rw[hIs,aD];rintro⟨c1,c2,c3,c4⟩;omega
     .refine ak.pure (G'.C' hid5) ?_;rw[hIs,aD];rintro⟨c1,c2,c3,c4⟩;omega
     .refine ak.pure (G'.C' hid5) ?_;rw[hIs,aD];rintro⟨c1,c2,c3,c4⟩;exact q1 (by simp[c1])
  .have hi':i=l.length:=by simp at YU;omega
   refine ak.pure G' ?_;rw[hB,hi',xp];rfl
open Go.Proofs
def l3(times n:Int):Int:=if n=0\/times<=1099511627776/n then n*times else 1099511627777
def nG(times h:Int):List Int->Int
 |[]=>h
 |n::l=>nG times (min (h+l3 times n) 1099511627777) l
def fN(i:Nat)(x:Nd)(s:Sm)(ends:List Int):Sm×List Int:=
 let ends:=ends.filter λn=>!decide (n<=(i:Int))
 if x.kind=1 then
  let ends:=ends++[i+x.size]
  (⟨max s.depth ends.length,s.pieces,s.nodes+1,nG 1 s.VF [x.st.top,x.st.V0,x.st.VJ,x.st.T',x.st.head]⟩,ends)
 else if x.kind=2 then(⟨s.depth,s.pieces+x.words.length,s.nodes+1,nG x.words.length s.VF [x.line]⟩,ends)
 else(⟨s.depth,s.pieces+1,s.nodes+1,nG 1 s.VF [x.h]⟩,ends)
def jC(l:List Nd):Nat->Sm×List Int
 |0=>(⟨0,0,0,0⟩,[])
 |i+1=>match l[i]? with
  |some x=>fN i x (jC l i).1 (jC l i).2
  |none=>jC l i
def Aa{times n:Int}(h0:0<=n)(h1:n<=mx)(t0:0<=times)(a:Int)(ha:0<=a):min (a+l3 times n) 1099511627777=min (a+n*times) 1099511627777:=by
 unfold l3;split
 .rfl
 .rename_i h;have hn:0<n:=by omega
  have hq:1099511627776/n<times:=by omega
  have h2:1099511627776<n*times:=by
   have:=Int.ediv_lt_iff_lt_mul (a:=1099511627776) (b:=times) hn;have h3:=this.1 hq;rw[Int.mul_comm];exact h3
  omega
def zN{a b:Int}(h1:0<=a/\a<=1099511627777)(h2:0<=b):∀n:Nat,Bw a b n=min (a+b*n) 1099511627777
 |0=>by simp[Bw];omega
 |n+1=>by
  rw[Bw,zN h1 h2 n,ku];have e:b*((n+1:Nat):Int)=b*n+b:=by rw[Int.natCast_add,Int.mul_add];simp
  rw[e];have:0<=b*(n:Int):=Int.mul_nonneg h2 (by omega);generalize b*(n:Int)=q at*;omega
def lY{h n:Int}(h1:0<=h)(n0:0<=n)(n1:n<=mx):min (h+l3 1 n) 1099511627777=ku h n:=by
 rw[Aa n0 n1 (by omega) h h1,Int.mul_one];rfl
def lh(l:List Nd)(i:Nat):Nat->List Int
 |0=>[]
 |k+1=>lh l i k++(match l[k]? with
  |some y=>if y.kind=1/\(i:Int)<k+y.size then[(k:Int)+y.size]else[]
  |none=>[])
def oQ(l:List Nd)(i:Nat):∀k,((lh l i k).length:Int)=fc l i k
 |0=>rfl
 |k+1=>by
  simp only[lh,fc,jm,Int.natCast_add,oQ l i k];cases l[k]? with
  |none=>simp
  |some y=>simp only[];split<;>simp
def oT(l:List Nd)(i:Nat):∀k,(lh l i k).filter (λn=>!decide (n<=((i+1:Nat):Int)))=lh l (i+1) k
 |0=>rfl
 |k+1=>by
  simp only[lh,List.filter_append,oT l i k];congr 1;split
  .rename_i y _;by_cases hk:y.kind=1
   .by_cases h1:((i+1:Nat):Int)<k+y.size
    .rw[av ⟨hk,by omega⟩,av ⟨hk,h1⟩];have:¬((k:Int)+y.size<=((i+1:Nat):Int)):=by omega
     simp only[List.filter_cons,this,decide_false,Bool.not_false,if_true,List.filter_nil]
    .rw[aD (show¬(y.kind=1/\((i+1:Nat):Int)<k+y.size)from λh=>h1 h.2)];split
     .have:(k:Int)+y.size<=((i+1:Nat):Int):=by omega
      simp only[List.filter_cons,this,decide_true,Bool.not_true,gi,if_false,List.filter_nil]
     .rfl
   .rw[aD (λh=>hk h.1),aD (λh=>hk h.1)];rfl
  .rfl
def nW(l:List Nd)(hl:ep l)(hb:Wg l=true):∀i,i<=l.length->(jC l i).1={ iI l ⟨0,0,l.length,0⟩ i with nodes:=i }/\(jC l i).2=(match i with
 |0=>[]
 |j+1=>lh l j (j+1))/\(iI l ⟨0,0,l.length,0⟩ i).qs i/\(iI l ⟨0,0,l.length,0⟩ i).nodes=l.length
 |0,_=>⟨rfl,rfl,by simp[iI,Sm.qs],rfl⟩
 |i+1,hi=>by
  obtain⟨h1,h2,h3,h4⟩:=nW l hl hb i (by omega);have VE:l.all Nd.ok=true/\bS l 0 l.length=true:=by simpa[Wg]using hb
  have hx:=(fM.1 VE.1) _ (Ws (show i<l.length by omega));have hg:l[i]?=some l[i]:=by simp[show i<l.length by omega]
  obtain⟨z1,z2,z3⟩:=iY l (l.length+1) 0 l.length (by omega) (by omega) VE.2 i (by omega) (by omega) (by omega);have hw:=hl.2 _ (Ws (show i<l.length by omega));have hfine:=rv (l:=l) hx hw h3;generalize hxe:l[i]=x at*;obtain⟨p1,p2,p3,p4,p5,p6⟩:=jH hx;have hS:jC l (i+1)=fN i x (jC l i).1 (jC l i).2:=by simp only[jC,hg]
  have hR:iI l ⟨0,0,l.length,0⟩ (i+1)=mU l i x (iI l ⟨0,0,l.length,0⟩ i):=by simp only[iI,hg]
  have hf:(jC l i).2.filter (λn=>!decide (n<=(i:Int)))=lh l i i:=by
   rw[h2];cases i with
   |zero=>rfl
   |succ j=>exact oT l j (j+1)
  rw[hS,hR,h1];generalize hsm:iI l ⟨0,0,l.length,0⟩ i=sm at*;obtain⟨f1,f2,f3⟩:=h3;have hends:lh l i (i+1)=lh l i i++(if x.kind=1 then[(i:Int)+x.size]else[]):=by
   simp only[lh,hg];by_cases hk:x.kind=1
   .rw[av ⟨hk,by omega⟩,av hk]
   .rw[aD (λh=>hk h.1),aD hk]
  refine⟨?_,?_,by rw[Int.natCast_add];exact hfine,?_⟩
  .by_cases hk:x.kind=1
   .obtain⟨q1,q2,q3,q4,q5⟩:=p6 hk;have r1:=er f3 q1.1;have r2:=er r1 q2.1;have r3:=er r2 q3.1;have r4:=er r3 q4.1;have hlen:=oQ l i (i+1);rw[hends,av hk]at hlen;simp only[fN,mU,av hk,hf,nG,Sm.mk.injEq];refine⟨?_,trivial,by simp,?_⟩
    .rw[hlen]
    .rw[lY f3.1 q1.1 q1.2,lY r1.1 q2.1 q2.2,lY r2.1 q3.1 q3.2,lY r3.1 q4.1 q4.2,lY r4.1 q5.1 q5.2]
   .by_cases Xf:x.kind=2
    .simp only[fN,mU,aD hk,av Xf,nG,Sm.mk.injEq];refine⟨trivial,trivial,by simp,?_⟩;rw[Aa p2 p3 (by omega) _ f3.1,zN f3 p2]
    .simp only[fN,mU,aD hk,aD Xf,nG,Sm.mk.injEq];exact⟨trivial,trivial,by simp,lY f3.1 p4 p5⟩
  .by_cases hk:x.kind=1
   .simp only[fN,av hk,hf,hends]
   .by_cases Xf:x.kind=2
    .simp only[fN,aD hk,av Xf,hf,hends,jt]
    .simp only[fN,aD hk,aD Xf,hf,hends,jt]
  .rw[<-h4];unfold mU;split
   .rfl
   .split<;>rfl
def zf(l:List Nd):Sm×Int:=if Wg l then((jC l l.length).1,0)else(⟨0,0,0,0⟩,4)
def Ft(l:List Nd)(hl:ep l):zf l=iR l:=by
 unfold zf iR;by_cases hb:Wg l=true
 .obtain⟨h1,_,_,h4⟩:=nW l hl hb l.length (Wa _);rw[av hb,av hb,h1];generalize iI l ⟨0,0,l.length,0⟩ l.length=sm at*;cases sm;simp_all
 .rw[aD hb,aD hb]
open Go.Proofs
def Dg{U:ad}{c:Nat}{i:Int}(h:U c=some ⟨3,1,[vI i]⟩)(n:Int):au prog 123 [vI n,.ptr c 0 0] U λr Z'=>r=.bool (decide (n<=i))/\Z'=U:=by
 refine Vn.q ?_;apply sR;simp only[go_sem,seval,ax,aB,PX,h];exact ak.same rfl
abbrev kept(i:Int)(l:List Int):List Int:=l.filter λn=>!decide (n<=i)
def tp{p:Int->Bool}:∀{l:List Int},dp p l<0->l.filter (λn=>!p n)=l
 |[],_=>rfl
 |x::l,h=>by
  simp only[dp]at h;split at h
  .omega
  .rename_i hp;have hp':p x=false:=by simpa using hp
   split at h
   .rename_i h2;simp only[List.filter_cons,hp',Bool.not_false,if_true,tp h2]
   .have:=jJ p l;omega
def sQ{p:Int->Bool}:∀{l:List Int},¬dp p l<0->(dp p l).toNat<l.length/\(l.take (dp p l).toNat).filter (λn=>!p n)=l.take (dp p l).toNat/\
 ∀x,l[(dp p l).toNat]?=some x->p x=true
 |[],h=>by simp[dp]at h
 |x::l,h=>by
  simp only[dp]at h|-;split
  .rename_i hp;refine⟨by simp,by simp,?_⟩;intro y hy;simp at hy;subst hy;exact hp
  .rename_i hp;rw[aD hp]at h;have hp':p x=false:=by simpa using hp
   split
   .rename_i h2;rw[av h2]at h;omega
   .rename_i h2;obtain⟨g1,g2,g3⟩:=sQ h2;have:=jJ p l;have e:(dp p l+1).toNat=(dp p l).toNat+1:=by omega
    rw[e];refine⟨by simp;omega,?_,?_⟩
    .simp only[Gc,List.filter_cons,hp',Bool.not_false,if_true,g2]
    .simpa using g3
def He{U:ad}{e c k:Nat}{i:Int}{full:List Int}(he:U e=some ⟨3,1,full.map vI⟩)(hc:U c=some ⟨3,1,[vI i]⟩)(V2:c≠e)(hk:k<=full.length)(YG:full.length<=1000000000000):
 au prog 122 [.own e 0 k,.fn 123 [.ptr c 0 0]] U λr Z'=>∃(k':Nat) (full':List Int),r=.own e 0 k'/\Z'=C' U e ⟨3,1,full'.map vI⟩/\k'<=full'.length/\full'.length<=full.length/\full'.take k'=kept i (full.take k):=by
 have hlk:(full.take k).length=k:=by simp;omega
 have hr:Reads U 1 false (.own e 0 k) ((full.take k).map vI):=by
  have:=Reads.own (U:=U) (off:=0) (len:=k) he rfl (by simpa using hk) (λr hr=>by simp only[gM]at hr;obtain⟨n,_,rfl⟩:=hr;rfl);simpa using this
 refine R3.q ?_;refine mS 8 ?_;simp only[go_sem,seval,ax,aB,MH];refine pR rfl (nF (p:=λn=>decide (n<=i)) hr (by omega) (λn _=>Dg hc n)) ?_;generalize hw:dp (λn=>decide (n<=i)) (full.take k)=w;have hwg:-1<=w:=by rw[<-hw];exact jJ _ _
 apply sR;simp only[go_sem,seval,ax,aB];have Xa:C' U e ⟨3,1,full.map vI⟩=U:=by
  funext j;simp only[C'];split
  .rename_i e';rw[e',he]
  .rfl
 refine And.intro (λhm=>?_) (λhm=>?_)
 .refine⟨_,U,aa.refl U,Wk.refl (aa.refl U) _,k,full,rfl,Xa.symm,hk,Wa _,?_⟩;exact(tp (by rw[hw];omega)).symm
 .have hw0:¬dp (λn=>decide (n<=i)) (full.take k)<0:=by rw[hw];omega
  obtain⟨g1,g2,g3⟩:=sQ hw0;rw[hw]at g1 g2 g3;rw[hlk]at g1;refine⟨ae,?_⟩;refine ai.loop (λm st=>∃(u j:Nat) (cur:List Int),u<j/\j<=k/\m=k-j/\cur.length=full.length/\cur.take u=kept i (full.take j)/\(∀q,j<=q->cur[q]?=full[q]?)/\st.U=C' U e ⟨3,1,cur.map vI⟩/\
   st.s 0=.own e 0 k/\st.s 1=.fn 123 [.ptr c 0 0]/\st.s 5=vI u/\st.s 6=vI j) (k-(w.toNat+1)) ?_ ?_
  .have hw1:w=((w.toNat:Nat):Int):=by omega
   refine⟨w.toNat,w.toNat+1,full,by omega,by omega,rfl,rfl,?_,λ_ _=>rfl,Xa.symm,rfl,rfl,?_,?_⟩
   .have hx:(full.take k)[w.toNat]?=some (full[w.toNat]'(by omega)):=by rw[List.getElem?_take,av g1,Zq6]
    have hp:=g3 _ hx;have e1:(full.take k).take w.toNat=full.take w.toNat:=by rw[List.take_take];congr 1;omega
    rw[e1]at g2;rw[XH (by omega)];have g2':kept i (full.take w.toNat)=full.take w.toNat:=g2;simp only[kept,List.filter_append]at g2'|-;rw[g2'];simp[hp]
   .show vI w=_;rw[<-hw1]
   .show vI (w+1)=_;rw[Int.natCast_add,<-hw1];rfl
  .rintro m ⟨s,Z'⟩ ⟨u,j,cur,huj,hjk,rfl,Xg,hct,hcr,V7,h0,h1,h5,h6⟩;simp only at V7 h0 h1 h5 h6;subst V7;refine mS 8 ?_;simp only[go_sem,seval,ax,aB,h0,h1,h5,h6];refine And.intro (λB'=>?_) (λYU=>?_)
   .have Wo:j<k:=by omega
    have hjc:j<cur.length:=by omega
    have XE:cur[j]?=some cur[j]:=by simp[hjc]
    have YU:(cur.map vI)[j]?=some (vI cur[j]):=by simp[hjc]
    have b1:(0:Int)<=j:=by omega
    have b2:(j:Int)<k:=by omega
    have b3:(0:Int)<=u:=by omega
    have b4:(u:Int)<k:=by omega
    simp only[go_sem,seval,ax,aB,h0,h1,h5,h6,b1,b2,YU,fp];refine pR rfl (Dg (i:=i) (by rw[ab V2];exact hc) cur[j]) ?_;have hgu:(cur.map vI)[u]?=some (vI (cur[u]'(by omega))):=by simp[show u<cur.length by omega]
    apply sR;simp only[go_sem,seval,ax,aB,h0,h1,h5,h6,b1,b2,b3,b4,YU,hgu,fp];have hfj:full[j]?=some cur[j]:=by rw[<-hcr j (Wa _)];exact XE
    have htj:full.take (j+1)=full.take j++[cur[j]]:=by
     have hjf:j<full.length:=by omega
     rw[XH hjf];congr 2;rw[Zq6 hjf]at hfj;simpa using hfj
    refine And.intro (λhd=>?_) (λhd=>?_)
    .refine⟨ae,ae,_,?_,u+1,j+1,cur.set u cur[j],by omega,by omega,rfl,by simpa using Xg,?_,?_,?_,?_,?_⟩
     .omega
     .rw[htj];have hul:u<cur.length:=by omega
      have:(cur.set u cur[j]).take (u+1)=cur.take u++[cur[j]]:=by
       rw[XH (by simpa using hul),List.take_set,List.set_eq_of_length_le (by simp;omega)];simp
      rw[this,hct];simp only[kept,List.filter_append];congr 1;have hd':¬cur[j]<=i:=by simpa using hd
      simp[hd']
     .intro q hq;rw[List.getElem?_set_ne (by omega)];exact hcr q (by omega)
     .simp
     .simp
     .simp
    .refine⟨ae,_,?_,u,j+1,cur,by omega,by omega,rfl,Xg,?_,λq hq=>hcr q (by omega),rfl,?_⟩
     .omega
     .rw[htj,hct];simp only[kept,List.filter_append];have hd':cur[j]<=i:=by simpa using hd
      simp[hd']
     .simp
   .have hjk':j=k:=by omega
    subst hjk';have b3:(0:Int)<=u:=by omega
    have b4:(u:Int)<=j:=by omega
    simp only[go_sem,seval,ax,aB,h0,h1,h5,h6,b3,b4,Int.le_refl,fp,fU];refine ai.clear (id:=e) (off:=u) (len:=j-u) (ob:=⟨3,1,cur.map vI⟩) rfl rfl rfl ag rfl (by simp;omega) ?_;apply sR;simp only[go_sem,seval,ax,aB,h0,h1,h5,h6,b3,b4,Int.le_refl,fp,fU,Nat.sub_zero];refine WZ ⟨u,cur.take u++List.replicate (j-u) 0++cur.drop (u+(j-u)),by simp,?_,?_,?_,?_⟩
    .simp[List.map_take,List.map_drop]
    .simp;omega
    .simp;omega
    .rw[lq,NI (by simp;omega),List.take_take,Nat.min_self,hct]
open Go.Proofs
def Reads.aO(U:ad):Reads U 1 false .aO []:=⟨rfl,λi v h=>by simp at h⟩
def Cz{U:ad}{c:Nat}{i:Int}(hc:U c=some ⟨3,1,[vI i]⟩):au prog 122 [.aO,.fn 123 [.ptr c 0 0]] U λr Z'=>r=.aO/\Z'=U:=by
 refine R3.q ?_;refine mS 8 ?_;simp only[go_sem,seval,ax,aB,MH];refine pS rfl (nF (l:=[]) (p:=λn=>decide (n<=i)) (Reads.aO U) (by simp) (λn _=>Dg hc n)) ?_;simp only[go_sem,seval,ax,aB,dp];exact ak.same rfl
def IA{times n:Int}(h0:0<=n)(t0:0<=times):0<=l3 times n/\l3 times n<=1099511627777:=by
 unfold l3;split
 .rename_i h;refine⟨Int.mul_nonneg h0 t0,?_⟩;rcases h with h|h
  .subst h;simp
  .by_cases hn:n=0
   .subst hn;simp
   .have:=Int.mul_le_of_le_ediv (by omega:0<n) h;rw[Int.mul_comm];omega
 .omega
def dy(s:Sm)(ends:V):Ob:=⟨145,5,[.agg [vI s.depth,vI s.pieces,vI s.nodes,vI s.VF,ends]]⟩
def sx{U:ad}{c:Nat}{s:Sm}{ends sv:V}{times:Int}{l:List Int}(hc:U c=some (dy s ends))(hr:∀ob,Reads (C' U c ob) 1 false sv (l.map vI))(hl:l.length<=200000000000000)
 (hn:∀n∈l,0<=n/\n<=mx)(ht:0<=times/\times<=200000000000000)(hh:0<=s.VF/\s.VF<=1099511627777)(hends:ends.cells=[ends]):
 au prog 124 [.ptr c 0 0,vI times,sv] U λr Z'=>r=.VG []/\Z'=C' U c (dy { s with VF:=nG times s.VF l } ends):=by
 have hlen:dX false sv=some (vI (l.length:Int)):=by simpa using(hr ⟨0,0,[]⟩).1
 have Xa:C' U c (dy s ends)=U:=by
  funext j;simp only[C'];split
  .rename_i e';rw[e',hc]
  .rfl
 refine TG.q ?_;refine mS 9 ?_;simp only[go_sem,seval,ax,aB,O9,hlen];refine ai.loop (λm st=>∃(i:Nat) (h:Int),i<=l.length/\m=l.length-i/\nG times s.VF l=nG times h (l.drop i)/\(0<=h/\h<=1099511627777)/\st.U=C' U c (dy { s with VF:=h } ends)/\
  st.s 0=.ptr c 0 0/\st.s 1=vI times/\st.s 9=sv/\st.s 10=vI l.length/\st.s 11=vI i) l.length ?_ ?_
 .exact⟨0,s.VF,by omega,by omega,rfl,hh,Xa.symm,rfl,rfl,rfl,rfl,rfl⟩
 .rintro m ⟨s',Z'⟩ ⟨i,h,hi,rfl,hp,hhh,V7,h0,h1,h9,h10,h11⟩;simp only at h0 h1 h9 h10 h11 V7;subst V7;refine mS 9 ?_;simp only[go_sem,seval,ax,aB,h0,h1,h9,h10,h11];refine And.intro (λB'=>?_) (λYU=>?_)
  .have Wo:i<l.length:=by omega
   have hd:l.drop i=l[i]::l.drop (i+1):=ju Wo;obtain⟨pp,e1,e2⟩:=(hr (dy { s with VF:=h } ends)).2 i (vI l[i]) (by simp[Wo]);have hni:=hn _ (Ws Wo);rw[hd,nG]at hp;generalize V2:l[i]=n at*;have eY:=IA (n:=n) hni.1 ht.1;simp only[dy]at e1 e2;simp only[mx]at hni;have hq:(1099511627776:Int).tdiv n=1099511627776/n:=Int.tdiv_eq_ediv_of_nonneg (by omega);by_cases hz:n=0
   .have Wm:l3 times n=n*times:=by unfold l3;rw[av (.inl hz)]
    rw[Wm]at hp eY;simp only[go_sem,seval,ax,aB,e1,e2,dy,hz,h0,h1,h9,h10,h11];rw[hz]at hp eY;simp only[Int.zero_mul,Int.add_zero]at hp|-;refine⟨ae,ae,ae,_,?_,i+1,h,by omega,rfl,?_,hhh,?_,by simp⟩
    .omega
    .rw[hp,Int.min_eq_left hhh.2]
    .rw[aD (by omega)]
   .simp only[go_sem,seval,ax,aB,e1,e2,dy,hz,h0,h1,h9,h10,h11,hq];have hdiv:0<=1099511627776/n/\1099511627776/n<=1099511627776:=⟨Int.ediv_nonneg (by omega) hni.1,Int.ediv_le_self _ (by omega)⟩
    refine⟨ae,λhle=>?_,λhgt=>?_⟩
    .have Wm:l3 times n=n*times:=by unfold l3;rw[av (.inr hle)]
     rw[Wm]at hp eY;refine⟨ae,ae,ae,_,?_,i+1,min (h+n*times) 1099511627777,by omega,rfl,hp,by omega,?_,by simp⟩
     .omega
     .rw[show(if 1099511627777<h+n*times then 1099511627777 else h+n*times)=min (h+n*times) 1099511627777 by split<;>omega]
    .have Wm:l3 times n=1099511627777:=by unfold l3;rw[aD (by omega)]
     rw[Wm]at hp eY;refine⟨ae,ae,_,?_,i+1,min (h+1099511627777) 1099511627777,by omega,rfl,hp,by omega,?_,by simp⟩
     .omega
     .rw[show(if 1099511627777<h+1099511627777 then 1099511627777 else h+1099511627777)=min (h+1099511627777) 1099511627777 by split<;>omega]
  .have:i=l.length:=by omega
   refine WZ ⟨rfl,?_⟩;rw[hp,this,xp];rfl
open Go.Proofs
def qI{P:Program}{n:Nat}{Q:St->Prop}{k:List It}{O:Xu P}{f:Nat}{d:Option Nat}{l:List aK}{v:Nat->V}{ob:Ob}{s:Nat->V}{U:ad}{e:Nat}
 (h:∀id Z',aa (del U e) Z'->Z' id=some ob->U id=none->step P O n f (.d l k) ⟨bc s d (v id),Z'⟩ Q):
 Fg P O n f l k d ⟨s,U⟩ Q (some λid=>(v id,Vc.C' (del U e) id ob)):=by
 rw[aB];refine λid M'=>h id _ ((aa.refl _).C' ?_) ag M';by_cases e':id=e
 .simp[del,e']
 .rw[cc e'];exact M'
def Gx{P:Program}{n:Nat}{Q:St->Prop}{k:List It}{O:Xu P}{f:Nat}{d:Option Nat}{l:List aK}{v:Nat->V}{ob:Ob}{s:Nat->V}{U:ad}{e:Nat}
 (h:∀id Z',aa (del U e) Z'->Z' id=some ob->U id=none->step P O n f (.r (.ops l::k)) ⟨bc s d (v id),Z'⟩ Q):
 FJ P O n f l k d ⟨s,U⟩ Q (some λid=>(v id,Vc.C' (del U e) id ob)):=by
 rw[ax];refine λid M'=>h id _ ((aa.refl _).C' ?_) ag M';by_cases e':id=e
 .simp[del,e']
 .rw[cc e'];exact M'
def mL(K U:ad)(v:V)(ends:List Int)(B:Nat):Prop:=
 (v=.aO/\ends=[])\/∃(e k:Nat) (full:List Int),v=.own e 0 k/\U e=some ⟨3,1,full.map vI⟩/\K e=none/\k<=full.length/\full.length<=B/\full.take k=ends
def Of{K U:ad}{v:V}{ends:List Int}{B c:Nat}{i:Int}(hB:B<=1000000000000)(h:mL K U v ends B)(hK:aa K U)(hc:K c=some ⟨3,1,[vI i]⟩):
 au prog 122 [v,.fn 123 [.ptr c 0 0]] U λr Z'=>aa K Z'/\mL K Z' r (kept i ends) B:=by
 rcases h with⟨rfl,rfl⟩|⟨e,k,full,rfl,h1,h2,h3,h4,rfl⟩
 .refine(Cz (hK _ _ hc)).mono ?_;rintro r Z' ⟨rfl,rfl⟩;exact⟨hK,.inl ⟨rfl,rfl⟩⟩
 .have V2:c≠e:=by rintro rfl;rw[h2]at hc;cases hc
  refine(He h1 (hK _ _ hc) V2 h3 (by omega)).mono ?_;rintro r Z' ⟨k',full',rfl,rfl,g1,g2,g3⟩;exact⟨hK.az h2,.inr ⟨e,k',full',rfl,ag,h2,g1,by omega,g3⟩⟩
def aa.JA{K U:ad}{i:Nat}{o:Ob}(h:aa K U)(hi:U i=some o):aa (Vc.C' K i o) U:=λj x hx=>by
 by_cases e:j=i
 .subst e;rw[ag]at hx;rw[hi];exact hx
 .rw[ab e]at hx;exact h j x hx
def mL.new{K U Z':ad}{v:V}{ends:List Int}{B id:Nat}{o:Ob}(h:mL K U v ends B)(hs:aa U Z')(M':U id=none):mL (C' K id o) Z' v ends B:=by
 rcases h with h|⟨e,k,full,h0,h1,h2,h3⟩
 .exact .inl h
 .exact .inr ⟨e,k,full,h0,hs _ _ h1,by rw[ab (aU h1 M')];exact h2,h3⟩
def mL.less{K K' U:ad}{v:V}{ends:List Int}{B:Nat}(h:mL K' U v ends B)(hs:aa K K'):mL K U v ends B:=by
 rcases h with h|⟨e,k,full,h0,h1,h2,h3⟩
 .exact .inl h
 .exact .inr ⟨e,k,full,h0,h1,hs.none h2,h3⟩
def MF{K U:ad}{v:V}{ends:List Int}{B c i:Nat}{x:Nd}{s:Sm}(hK:aa K U)(hKc:K c=none)(hc:U c=some (dy s v))(hE:∀o,mL (C' K c o) U v ends B)(hB:B<=1000000000)
 (hi:i<=10000)(hs:s.qs i)(hsn:s.nodes=i)(hx:x.ok=true)(hw:x.words.length<=200000000000000)(Xr:1<=x.size/\x.size<=1000000000):
 au prog 79 [.ptr c 0 0,vI i,gm x] U λr Z'=>r=.VG []/\aa K Z'/\∃v',Z' c=some (dy (fN i x s ends).1 v')/\∀o,mL (C' K c o) Z' v' (fN i x s ends).2 (B+1):=by
 refine e79.q ?_;refine mS 7 ?_;simp only[go_sem,seval,c79,gm,Nd.cells];refine aA λZg Z1 s1 a4 f4=>?_;have hc1:=s1 _ _ hc;have n4c:=aU hc f4;simp only[go_sem,seval,a4];refine aA λid5 Z2 s2 a5 f5=>?_;have hc2:=s2 _ _ hc1;have n5c:=aU hc1 f5;have n54:=aU a4 f5;have a4:=s2 _ _ a4;have hK2:=(hK.trans s1).trans s2;have k4:K Zg=none:=hK.none f4;have k5:K id5=none:=(hK.trans s1).none f5;simp only[go_sem,seval,hc2,dy,a4,a5];have hK':aa (C' (C' (C' K c (dy s v)) Zg ⟨3,1,[vI i]⟩) id5 ⟨48,20,[gm x]⟩) Z2:=((hK2.JA hc2).JA a4).JA a5;have hE':mL (C' (C' (C' K c (dy s v)) Zg ⟨3,1,[vI i]⟩) id5 ⟨48,20,[gm x]⟩) Z2 v ends B:=((hE _).new s1 f4).new s2 f5;refine Xv rfl (Of (by omega) hE' hK' (by rw[ab n54,ag])) ?_;rintro r Z3 ⟨hK3,hE3⟩;have Yz:=hK3 c _ (by rw[ab n5c,ab n4c,ag]);have a4:=hK3 Zg _ (by rw[ab n54,ag]);have a5:=hK3 id5 _ ag;simp only[gm,Nd.cells]at a5;simp only[dy]at Yz;have hKK:=(((aa.refl K).az hKc (o:=dy s v)).az k4 (o:=⟨3,1,[vI i]⟩)).az k5 (o:=⟨48,20,[gm x]⟩);have h3:=hKK.trans hK3;have hsr:VO .i64 (s.nodes+1):=ae;obtain⟨p1,p2,p3,p4,p5,p6⟩:=jH hx;obtain⟨f1,f2,f3⟩:=hs;rcases hE3 with⟨rfl,hk0⟩|⟨e,k,full,rfl,he,hKe,hk,YG,hk0⟩
 .by_cases W4:x.kind=1
  .apply sR;simp only[go_sem,seval,a4,a5,Yz,ab n4c.symm,ab n5c.symm,W4];refine⟨hsr,ae,?_⟩;refine bB λid8 Z4 s4 a8 f8=>?_;have hc4:=s4 c _ ag;have a4:=s4 Zg _ (by rw[ab n4c.symm];exact a4);have a5:=s4 id5 _ (by rw[ab n5c.symm];exact a5);have hs8:∀U,U id8=some ⟨3,1,[.int .i64 (i+x.size)]⟩->bM U 1 (.own id8 0 1)=some [.int .i64 (i+x.size)]:=by
    intro U V7;simp only[bM,V7];rw[av (by simp)];simp
   have hd:∀U,bL U 3 1 .aO=some ([],none):=λ_=>rfl;simp only[go_sem,seval,hs8,a8,hd,bN,Nat.reduceLeDiff];refine bB λid9 Z5 s5 a9 f9=>?_;have hc5:=s5 c _ hc4;have a4:=s5 Zg _ a4;have a5:=s5 id5 _ a5;have n9c:id9≠c:=by rintro rfl;rw[hc4]at f9;cases f9
   have n95:id9≠id5:=by rintro rfl;rw[s4 id9 _ (by rw[ab n5c.symm];exact hK3 id9 _ ag)]at f9;cases f9
   simp only[go_sem,seval,hc5,a4,a5,a9,ab n5c.symm,ab n9c];refine aA λid6 Z6 s6 a6 f6=>?_;have hc6:=s6 c _ ag;have a9:=s6 id9 _ (by rw[ab n9c];exact a9);have n6c:id6≠c:=by rintro rfl;rw[hc6]at a6;simp at a6
   have n69:id6≠id9:=by rintro rfl;rw[a9]at a6;simp at a6
   simp only[go_sem,seval,a6];refine aA λid84 Z7 s7 a84 f84=>?_;have hc7:=s7 c _ (by rw[ab n6c.symm];exact hc6);have a9:=s7 id9 _ (by rw[ab n69.symm];exact a9);have n84c:id84≠c:=by rintro rfl;rw[hc7]at a84;simp at a84
   simp only[go_sem,seval];have h4:=(h3.az hKc).trans s4;have h5:=h4.trans s5;have k9:K id9=none:=h4.none f9;have h6':=λo=>h5.az hKc (o:=o);have k6:K id6=none:=(h6' _).none f6;have h7:=(((h6' _).trans s6).az k6).trans s7;obtain⟨q1,q2,q3,q4,q5⟩:=p6 W4;have hl5:∀n∈[x.st.top,x.st.V0,x.st.VJ,x.st.T',x.st.head],0<=n/\n<=mx:=by
    intro n hn;simp only[et,List.not_mem_nil,or_false]at hn;rcases hn with rfl|rfl|rfl|rfl|rfl<;>assumption
   refine Xv rfl (sx (s:=⟨if(1:Int)>s.depth then 1 else s.depth,s.pieces,s.nodes+1,s.VF⟩) (l:=[x.st.top,x.st.V0,x.st.VJ,x.st.T',x.st.head]) (times:=1) hc7
    (λob=>Reads.own (off:=0) (len:=5) ((ab n84c).trans a84) rfl (by simp) (λr hr=>by simp at hr;rcases hr with rfl|rfl|rfl|rfl|rfl<;>rfl)) (by simp) hl5 (by omega) f3 rfl) ?_
   rintro r Z8 ⟨rfl,rfl⟩;apply sR;simp only[go_sem,seval,ax,aB];refine WZ ⟨rfl,h7.az hKc,.own id9 0 1,?_,λo=>.inr ⟨id9,1,[i+x.size],rfl,(ab n9c).trans a9,gX.2 ⟨n9c,k9⟩,by simp,by simp,?_⟩⟩
   .have e:(if(1:Int)>s.depth then 1 else s.depth)=max s.depth 1:=by split<;>omega
    rw[ag,e];simp[fN,W4,hk0,dy]
   .simp[fN,W4,hk0]
  .by_cases Xf:x.kind=2
   .apply sR;simp only[go_sem,seval,a4,a5,Yz,ab n4c.symm,ab n5c.symm,Xf,cy];refine⟨hsr,ae,?_⟩;refine aA λid7 Z7 s7 a7 f7=>?_;have hc7:=s7 c _ ag;have n7c:id7≠c:=by rintro rfl;rw[hc7]at a7;simp at a7
    simp only[go_sem,seval];have h7:=(h3.az hKc).trans s7;refine Xv rfl (sx (s:=⟨s.depth,s.pieces+x.words.length,s.nodes+1,s.VF⟩) (l:=[x.line]) (times:=x.words.length) hc7
     (λob=>Reads.own (off:=0) (len:=1) ((ab n7c).trans a7) rfl (by simp) (λr hr=>by simp at hr;rcases hr with rfl;rfl)) (by simp) (by intro n hn;simp at hn;subst hn;exact⟨p2,p3⟩) (by omega) f3 rfl) ?_
    rintro r Z8 ⟨rfl,rfl⟩;apply sR;simp only[go_sem,seval,ax,aB];refine WZ ⟨rfl,h7.az hKc,_,ag.trans (by simp[fN,Xf,dy];rfl),λo=>?_⟩;have:(fN i x s ends).2=kept i ends:=by simp[fN,Xf]
    rw[this];exact .inl ⟨rfl,hk0⟩
   .have h4or:=p1;apply sR;simp only[go_sem,seval,a4,a5,Yz,ab n4c.symm,ab n5c.symm,W4,Xf,cy];refine⟨hsr,ae,?_⟩;refine aA λid7 Z7 s7 a7 f7=>?_;have hc7:=s7 c _ ag;have n7c:id7≠c:=by rintro rfl;rw[hc7]at a7;simp at a7
    simp only[go_sem,seval];have h7:=(h3.az hKc).trans s7;refine Xv rfl (sx (s:=⟨s.depth,s.pieces+1,s.nodes+1,s.VF⟩) (l:=[x.h]) (times:=1) hc7
     (λob=>Reads.own (off:=0) (len:=1) ((ab n7c).trans a7) rfl (by simp) (λr hr=>by simp at hr;rcases hr with rfl;rfl)) (by simp) (by intro n hn;simp at hn;subst hn;exact⟨p4,p5⟩) (by omega) f3 rfl) ?_
    rintro r Z8 ⟨rfl,rfl⟩;apply sR;simp only[go_sem,seval,ax,aB];refine WZ ⟨rfl,h7.az hKc,_,ag.trans (by simp[fN,W4,Xf,dy];rfl),λo=>?_⟩;have:(fN i x s ends).2=kept i ends:=by simp[fN,W4,Xf]
    rw[this];exact .inl ⟨rfl,hk0⟩
 .have hec:e≠c:=λe'=>by rw[e',ab n5c,ab n4c,ag]at hKe;cases hKe
  have he4:e≠Zg:=λe'=>by rw[e',ab n54,ag]at hKe;cases hKe
  have he5:e≠id5:=λe'=>by rw[e',ag]at hKe;cases hKe
  have hKe0:K e=none:=hKK.none hKe;have hlk:(full.take k).length=k:=by simp;omega
  by_cases W4:x.kind=1
  .apply sR;simp only[go_sem,seval,a4,a5,Yz,ab n4c.symm,ab n5c.symm,W4];refine⟨hsr,ae,?_⟩;refine bB λid8 Z4 s4 a8 f8=>?_;have hc4:=s4 c _ ag;have a4:=s4 Zg _ (by rw[ab n4c.symm];exact a4);have a5:=s4 id5 _ (by rw[ab n5c.symm];exact a5);have hs8:∀U,U id8=some ⟨3,1,[.int .i64 (i+x.size)]⟩->bM U 1 (.own id8 0 1)=some [.int .i64 (i+x.size)]:=by
    intro U V7;simp only[bM,V7];rw[av (by simp)];simp
   have he4':=s4 e _ (by rw[ab hec];exact he);have hd:∀U,U e=some ⟨3,1,full.map vI⟩->bL U 3 1 (.own e 0 k)=some ((full.take k).map vI,some e):=by
    intro U V7;simp only[bL,V7];rw[av ⟨trivial,trivial,trivial,by simpa using hk⟩,List.map_take]
   have Xc:((full.take k).map vI).length=k:=by simpa using hlk
   have XL:(k+1)*9<=140737488355328:=by omega
   simp only[go_sem,seval,hs8,a8,hd,he4',bN,Xc,XL];refine qI λid9 Z5 s5 a9 f9=>?_;have hc5:=s5 c _ (by rw[cc hec.symm];exact hc4);have a4:=s5 Zg _ (by rw[cc he4.symm];exact a4);have a5:=s5 id5 _ (by rw[cc he5.symm];exact a5);have n9c:id9≠c:=by rintro rfl;rw[hc4]at f9;cases f9
   have n95:id9≠id5:=by rintro rfl;rw[s4 id9 _ (by rw[ab n5c.symm];exact hK3 id9 _ ag)]at f9;cases f9
   simp only[go_sem,seval,hc5,a4,a5,a9,ab n5c.symm,ab n9c];refine aA λid6 Z6 s6 a6 f6=>?_;have hc6:=s6 c _ ag;have a9:=s6 id9 _ (by rw[ab n9c];exact a9);have n6c:id6≠c:=by rintro rfl;rw[hc6]at a6;simp at a6
   have n69:id6≠id9:=by rintro rfl;rw[a9]at a6;simp at a6
   simp only[go_sem,seval,a6];refine aA λid84 Z7 s7 a84 f84=>?_;have hc7:=s7 c _ (by rw[ab n6c.symm];exact hc6);have a9:=s7 id9 _ (by rw[ab n69.symm];exact a9);have n84c:id84≠c:=by rintro rfl;rw[hc7]at a84;simp at a84
   simp only[go_sem,seval];have h4:=(h3.az hKc).trans s4;have h4':=h4.oN hKe0;have h5:=h4'.trans s5;have k9:K id9=none:=h4.none f9;have h6':=λo=>h5.az hKc (o:=o);have k6:K id6=none:=(h6' _).none f6;have h7:=(((h6' _).trans s6).az k6).trans s7;obtain⟨q1,q2,q3,q4,q5⟩:=p6 W4;have hl5:∀n∈[x.st.top,x.st.V0,x.st.VJ,x.st.T',x.st.head],0<=n/\n<=mx:=by
    intro n hn;simp only[et,List.not_mem_nil,or_false]at hn;rcases hn with rfl|rfl|rfl|rfl|rfl<;>assumption
   refine Xv rfl (sx (s:=⟨if((k+1:Nat):Int)>s.depth then((k+1:Nat):Int)else s.depth,s.pieces,s.nodes+1,s.VF⟩) (l:=[x.st.top,x.st.V0,x.st.VJ,x.st.T',x.st.head]) (times:=1) hc7
    (λob=>Reads.own (off:=0) (len:=5) ((ab n84c).trans a84) rfl (by simp) (λr hr=>by simp at hr;rcases hr with rfl|rfl|rfl|rfl|rfl<;>rfl)) (by simp) hl5 (by omega) f3 rfl) ?_
   rintro r Z8 ⟨rfl,rfl⟩;apply sR;simp only[go_sem,seval,ax,aB];refine WZ ⟨rfl,h7.az hKc,.own id9 0 (k+1),?_,λo=>.inr ⟨id9,k+1,full.take k++[i+x.size],rfl,((ab n9c).trans a9).trans (by simp),gX.2 ⟨n9c,k9⟩,by simp;omega,by simp;omega,?_⟩⟩
   .have e:(if((k+1:Nat):Int)>s.depth then((k+1:Nat):Int)else s.depth)=max s.depth ((k+1:Nat):Int):=by split<;>omega
    rw[ag,e];have hk0':kept i ends=full.take k:=hk0.symm;simp[fN,W4,hk0',hlk,dy,Nat.min_eq_left hk]
   .have hk0':kept i ends=full.take k:=hk0.symm;rw[nq (by simp;omega)];simp[fN,W4,hk0']
  .by_cases Xf:x.kind=2
   .apply sR;simp only[go_sem,seval,a4,a5,Yz,ab n4c.symm,ab n5c.symm,Xf,cy];refine⟨hsr,ae,?_⟩;refine aA λid7 Z7 s7 a7 f7=>?_;have hc7:=s7 c _ ag;have n7c:id7≠c:=by rintro rfl;rw[hc7]at a7;simp at a7
    simp only[go_sem,seval];have h7:=(h3.az hKc).trans s7;refine Xv rfl (sx (s:=⟨s.depth,s.pieces+x.words.length,s.nodes+1,s.VF⟩) (l:=[x.line]) (times:=x.words.length) hc7
     (λob=>Reads.own (off:=0) (len:=1) ((ab n7c).trans a7) rfl (by simp) (λr hr=>by simp at hr;rcases hr with rfl;rfl)) (by simp) (by intro n hn;simp at hn;subst hn;exact⟨p2,p3⟩) (by omega) f3 rfl) ?_
    rintro r Z8 ⟨rfl,rfl⟩;apply sR;simp only[go_sem,seval,ax,aB];refine WZ ⟨rfl,h7.az hKc,_,ag.trans (by simp[fN,Xf,dy];rfl),λo=>?_⟩;have:(fN i x s ends).2=kept i ends:=by simp[fN,Xf]
    rw[this];exact .inr ⟨e,k,full,rfl,(ab hec).trans (s7 e _ (by rw[ab hec];exact he)),gX.2 ⟨hec,hKe0⟩,hk,by omega,hk0⟩
   .have h4or:=p1;apply sR;simp only[go_sem,seval,a4,a5,Yz,ab n4c.symm,ab n5c.symm,W4,Xf,cy];refine⟨hsr,ae,?_⟩;refine aA λid7 Z7 s7 a7 f7=>?_;have hc7:=s7 c _ ag;have n7c:id7≠c:=by rintro rfl;rw[hc7]at a7;simp at a7
    simp only[go_sem,seval];have h7:=(h3.az hKc).trans s7;refine Xv rfl (sx (s:=⟨s.depth,s.pieces+1,s.nodes+1,s.VF⟩) (l:=[x.h]) (times:=1) hc7
     (λob=>Reads.own (off:=0) (len:=1) ((ab n7c).trans a7) rfl (by simp) (λr hr=>by simp at hr;rcases hr with rfl;rfl)) (by simp) (by intro n hn;simp at hn;subst hn;exact⟨p4,p5⟩) (by omega) f3 rfl) ?_
    rintro r Z8 ⟨rfl,rfl⟩;apply sR;simp only[go_sem,seval,ax,aB];refine WZ ⟨rfl,h7.az hKc,_,ag.trans (by simp[fN,W4,Xf,dy];rfl),λo=>?_⟩;have:(fN i x s ends).2=kept i ends:=by simp[fN,W4,Xf]
    rw[this];exact .inr ⟨e,k,full,rfl,(ab hec).trans (s7 e _ (by rw[ab hec];exact he)),gX.2 ⟨hec,hKe0⟩,hk,by omega,hk0⟩
open Go.Proofs
def BW(l:List Nd)(hl:ep l):aL prog 31 [aF l] (.VG [.agg (iR l).1.cells,vI (iR l).2]):=λU=>by
 have hl0:=hl;obtain⟨hl1,hl2⟩:=hl;rw[<-Ft l hl0];refine e31.q ?_;refine mS 7 ?_;simp only[go_sem,seval,c31];refine aA λidR Z1 s1 aR fR=>?_;simp only[go_sem,seval,aR];refine pS rfl (EE l hl0 _) ?_;simp only[go_sem,seval,iS,aR];refine And.intro (λhf=>?_) (λhf=>?_)
 .simp only[Bool.not_eq_eq_eq_not,Bool.not_true]at hf;refine ak.pure (s1.az fR) ?_;simp[zf,hf,Sm.cells]
 .simp only[Bool.not_eq_eq_eq_not,Bool.not_false]at hf;refine aA λZg Z2 s2 a4 f4=>?_;have nR4:=aU aR f4;have aR:=s2 _ _ aR;have g4:U Zg=none:=s1.none f4;have hKR:aa (C' U idR ⟨79,4,[.agg Sm.zero.cells]⟩) Z2:=(s1.trans s2).JA aR;have k4:C' U idR ⟨79,4,[.agg Sm.zero.cells]⟩ Zg=none:=gX.2 ⟨nR4.symm,g4⟩;simp only[go_sem,seval,bU];refine ai.loop (λm st=>∃(i:Nat) (v:V),i<=l.length/\m=l.length-i/\aa (C' U idR ⟨79,4,[.agg Sm.zero.cells]⟩) st.U/\st.U Zg=some (dy (jC l i).1 v)/\
   (∀o,mL (C' (C' U idR ⟨79,4,[.agg Sm.zero.cells]⟩) Zg o) st.U v (jC l i).2 i)/\st.s 2=.ptr idR 0 0/\st.s 4=.ptr Zg 0 0/\st.s 11=aF l/\st.s 12=vI l.length/\st.s 13=vI i) l.length ?_ ?_
  .exact⟨0,.aO,by omega,by omega,hKR,a4,λo=>.inl ⟨rfl,rfl⟩,rfl,rfl,rfl,rfl,rfl⟩
  .rintro m ⟨s,Z'⟩ ⟨i,v,hi,rfl,G',h4s,hE,h2,h4,h11,h12,h13⟩;simp only at G' h4s hE h2 h4 h11 h12 h13;obtain⟨e1,e2,e3,e4⟩:=nW l hl0 hf i hi;have VE:l.all Nd.ok=true/\bS l 0 l.length=true:=by simpa[Wg]using hf
   have hRs:Z' idR=some ⟨79,4,[.agg Sm.zero.cells]⟩:=G' idR _ ag;refine mS 7 ?_;simp only[go_sem,seval,h2,h4,h11,h12,h13,h4s,dy,hRs,Sm.zero,Sm.cells];refine And.intro (λB'=>?_) (λYU=>?_)
   .have Wo:i<l.length:=by omega
    have hx:=(fM.1 VE.1) _ (Ws Wo);have hxw:=hl2 _ (Ws Wo);obtain⟨z1,z2,z3⟩:=iY l (l.length+1) 0 l.length (by omega) (by omega) VE.2 i (by omega) Wo Wo;have Yl:jC l (i+1)=fN i l[i] (jC l i).1 (jC l i).2:=by simp[jC,Wo]
    generalize hxe:l[i]=x at*;simp only[go_sem,seval,fi Wo,hxe,h2,h4,h11,h12,h13,Nd.cells];refine aA λid6 Z6 s6 a6 f6=>?_;have n64:id6≠Zg:=by rintro rfl;rw[h4s]at f6;cases f6
    have n6R:id6≠idR:=by rintro rfl;rw[hRs]at f6;cases f6
    have g6:C' U idR ⟨79,4,[.agg Sm.zero.cells]⟩ id6=none:=G'.none f6;simp only[go_sem,seval,a6,h2,h4,h11,h12,h13];have hsub6:=G'.trans s6;have W5:=(MF (K:=C' U idR ⟨79,4,[.agg Sm.zero.cells]⟩) (U:=C' Z6 id6 ⟨48,20,[gm x]⟩) (i:=i) (x:=x) (s:=(jC l i).1) (B:=i) (hsub6.az g6) k4 ((ab n64.symm).trans (s6 _ _ h4s))
     (λo=>((hE o).new (s6.az f6) f6 (o:=⟨0,0,[]⟩)).less ((aa.refl _).az (gX.2 ⟨n64,g6⟩))) (by omega) (by omega) (by rw[e1];exact e3) (by rw[e1]) hx hxw (by omega))
    simp only[gm,Nd.cells]at W5;refine Xv rfl (by simp only[go_sem,seval,ax,aB,h4];exact W5) ?_
    .rintro r Z7 ⟨rfl,hK7,v',h4',hE'⟩;apply sR;simp only[go_sem,seval,ax,aB,h2,h4,h11,h12,h13];refine⟨ae,_,?_,i+1,v',by omega,rfl,hK7,?_,?_,?_⟩
     .omega
     .rw[Yl,h4'];rfl
     .intro o;rw[Yl];exact hE' o
     .simp
   .have Yh:i=l.length:=by omega
    subst Yh;refine ak.pure ((((aa.refl U).az fR).trans G').az fR) ?_;simp[zf,hf,Sm.cells]
open Go.Proofs
def BC:((2:Nat):Int)=2:=rfl
def Bm:((3:Nat):Int)=3:=rfl
def BM:((4:Nat):Int)=4:=rfl
def A6(l:List Nd)(hl:ep l):aL prog 30 [aF l] (vI (eS l)):=λU=>by
 refine e30.q ?_;refine mS 8 ?_;simp only[go_sem,seval,c30];refine pS rfl (BW l hl _) ?_;simp only[go_sem,seval,Sm.cells];refine aA λid3 Z1 s1 a3 f3=>?_;have G':=λo=>s1.az f3 (o:=o);simp only[go_sem,seval,a3];have hc:(iR l).2=if Wg l then 0 else 4:=by unfold iR;split<;>rfl
 refine And.intro (λh=>?_) (λh=>?_)
 .refine ak.pure (G' _) ?_;have:Wg l=false:=by
   rw[hc]at h;cases hb:Wg l<;>simp_all
  simp[eS,this,hc]
 .have hb:Wg l=true:=by
   rw[hc]at h;cases hb:Wg l<;>simp_all
  have hR:eS l=if(iR l).1.depth>16\/(iR l).1.pieces>2000\/(iR l).1.nodes>2000\/(iR l).1.VF>1099511627776 then 2 else 0:=by
   simp only[eS,hb,if_true]
  generalize (iR l).1=sm at*;refine aA λid5 Z2 s2 a5 f5=>?_;have Yr:=(G' _).trans s2;have g5:U id5=none:=(G' _).none f5;simp only[go_sem,seval,a5];refine ai.loop (λm st=>∃(i:Nat),i<=4/\m=4-i/\st.U=C' Z2 id5 ⟨143,4,[.agg sm.cells]⟩/\(0<i->sm.depth<=16)/\(1<i->sm.pieces<=2000)/\(2<i->sm.nodes<=2000)/\(3<i->sm.VF<=1099511627776)/\
   st.s 5=.ptr id5 0 0/\st.s 25=.agg [vI 16,vI 2000,vI 2000,vI 1099511627776]/\st.s 26=vI i) 4 ?_ ?_
  .exact⟨0,by omega,by omega,rfl,by omega,by omega,by omega,by omega,rfl,rfl,rfl⟩
  .rintro m ⟨s,Z'⟩ ⟨i,hi,rfl,V7,p1,p2,p3,p4,h5,h25,h26⟩;simp only at V7 h5 h25 h26;subst V7;have hi':i=0\/i=1\/i=2\/i=3\/i=4:=by omega
   have hend:∀(p:Prop),p->p:=λ_ h=>h;rcases hi' with rfl|rfl|rfl|rfl|rfl
   .refine mS 8 ?_;simp only[go_sem,seval,ax,aB,h5,h25,h26,Sm.cells,Int.ofNat_zero,Int.natCast_zero,BC,Bm,BM,Int.toNat_zero,Int.reduceToNat,Nat.zero_mul];refine And.intro (λg=>?_) (λg=>?_)
    .refine ak.pure (Yr.az g5) ?_;rw[hR,av];omega
    .refine⟨ae,_,?_,1,by omega,rfl,?_,?_,?_,?_,rfl⟩<;>omega
   .refine mS 8 ?_;simp only[go_sem,seval,ax,aB,h5,h25,h26,Sm.cells,Int.ofNat_zero,Int.natCast_zero,Int.natCast_one,Int.toNat_one,BC,Bm,BM,Int.toNat_zero,Int.reduceToNat,Nat.zero_mul,Nat.reduceMul];refine And.intro (λg=>?_) (λg=>?_)
    .refine ak.pure (Yr.az g5) ?_;rw[hR,av];omega
    .refine⟨ae,_,?_,2,by omega,rfl,?_,?_,?_,?_,rfl⟩<;>omega
   .refine mS 8 ?_;simp only[go_sem,seval,ax,aB,h5,h25,h26,Sm.cells,Int.ofNat_zero,Int.natCast_zero,Int.natCast_one,Int.toNat_one,BC,Bm,BM,Int.toNat_zero,Int.reduceToNat,Nat.zero_mul,Nat.reduceMul];refine And.intro (λg=>?_) (λg=>?_)
    .refine ak.pure (Yr.az g5) ?_;rw[hR,av];omega
    .refine⟨ae,_,?_,3,by omega,rfl,?_,?_,?_,?_,rfl⟩<;>omega
   .refine mS 8 ?_;simp only[go_sem,seval,ax,aB,h5,h25,h26,Sm.cells,Int.ofNat_zero,Int.natCast_zero,Int.natCast_one,Int.toNat_one,BC,Bm,BM,Int.toNat_zero,Int.reduceToNat,Nat.zero_mul,Nat.reduceMul];refine And.intro (λg=>?_) (λg=>?_)
    .refine ak.pure (Yr.az g5) ?_;rw[hR,av];omega
    .refine⟨ae,_,?_,4,by omega,rfl,?_,?_,?_,?_,rfl⟩<;>omega
   .refine mS 8 ?_;simp only[go_sem,seval,ax,aB,h5,h25,h26,Sm.cells,Int.ofNat_zero,Int.natCast_zero,Int.natCast_one,BC,Bm,BM,Int.toNat_zero,Int.reduceToNat,Nat.zero_mul];refine ak.pure (Yr.az g5) ?_;rw[hR,aD];omega
open Go.Proofs
def oU(U:ad)(l:List Int):cj U false 1 (.rp (bb l))=some (bb l):=rfl
end Go.Vc
