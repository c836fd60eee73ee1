import Derived.Test.YtompjkkmfibkiaaGreatW4
import Derived.DeepKeys5
set_option linter.all false
set_option maxHeartbeats 8000000
set_option maxRecDepth 100000
open Go.Proofs.Tryz
namespace Go.Vc
variable {P:Program} {n:Nat} {st:St} {Q:St->Prop} {k:List It}
def uW{W9:List (List Nat)}{A':List Nat}{i:Nat}(h:i∈ef W9 A'):i<W9.length/\i∉A'/\∀k∈W9.getD i [],k∈A':=by
 unfold ef at h;obtain⟨h1,h2⟩:=sD.1 h;simp only[Ba,Bool.not_eq_true',fC]at h2;exact⟨by simpa using h1,by simpa using h2.1,λk hk=>by simpa using h2.2 k hk⟩
def xp:∀(n:Nat) (L:List Nat),L.Nodup->(∀k∈L,k<n)->L.length<=n/\(L.length=n->∀k,k<n->k∈L)
 |0,L,_,h=>by
  cases L with
  |nil=>simp
  |cons a L=>have:=h a (by simp);omega
 |n+1,L,hd,h=>by
  by_cases hn:n∈L
  .have h1:=xp n (L.erase n) (hd.erase n) λk hk=>by
    have h2:=h k (List.mem_of_mem_erase hk);have h3:k≠n:=λe=>by subst e;exact(List.Nodup.not_mem_erase hd) hk
    omega
   have h4:=List.length_erase_of_mem hn;have h5:0<L.length:=List.length_pos_of_mem hn;refine⟨by omega,λhe k hk=>?_⟩;by_cases hkn:k=n
   .rw[hkn];exact hn
   .exact List.mem_of_mem_erase (h1.2 (by omega) k (by omega))
  .have h1:=xp n L hd λk hk=>by
    have h2:=h k hk;have h3:k≠n:=λe=>hn (e▸hk);omega
   exact⟨by omega,λhe=>by omega⟩
open Go.RowKit
variable {P:Program} {n:Nat} {st:St} {Q:St->Prop} {k:List It} {I:Mu} {w:World}
def Gm{o:Op}{xs:List VX}(h:Xb P n o=.more .mkMap xs):∃t,o=.makeMap t none/\xs=[]:=by
 cases o
 case makeMap t r=>
  simp only[Xb]at h;split at h
  .rename_i hc;simp only[Ba,Option.isNone_iff_eq_none]at hc;obtain⟨rfl,_⟩:=hc;simp only[Xd.more.injEq,true_and]at h;exact⟨t,rfl,h.symm⟩
  .cases h
 case call c=>
  obtain⟨callee,args,argTypes⟩:=c;cases callee
  case value=>simp[Xb]at h
  case invoke r name=>simp[Xb]at h
  case builtin b=>cases b<;>(simp only[Xb]at h;(repeat' split at h)<;>cases h)
 case unOp op t x=>cases op<;>simp only[Xb]at h<;>cases h
 case makeFunc f a b=>cases f<;>simp only[Xb]at h<;>(repeat' split at h)<;>cases h
 all_goals (simp only[Xb,cG]at h;(repeat' split at h)<;>cases h)
def AS{b:Nat}{es:Array MapEntry}{c:Nat}(h:w.heap[b]?=some (.map es c)):(getObj b).run P w=.ok (.map es c) w:=by simp[getObj,Sem.run,h]
open Go.RowKit
variable {P:Program} {n:Nat} {st:St} {Q:St->Prop} {k:List It} {I:Mu} {w:World}
def DR{t kt e:TypeId}(h:ye P t=some (kt,e)):P.underlying t=some (.map kt e):=by
 unfold ye at h;split at h
 .rename_i k' e' ht;split at h
  .simp only[aI,Prod.mk.injEq]at h;obtain⟨rfl,rfl⟩:=h;exact ht
  .cases h
 .cases h
def GK{o:Op}{kt:TypeId}{xs:List VX}{ok:Bool}{zv:V}(h:Xb P n o=.more (.lookS kt ok zv) xs):∃t x y e i z,o=.lookup t x y ok/\ye P t=some (kt,e)/\zeroOf P e=some (i,z)/\zv=ofValue z/\xs=[cx n x,cx n y]:=by
 cases o
 case lookup t x y ok'=>
  simp only[Xb]at h;split at h
  .split at h<;>cases h
  .split at h
   .rename_i k' e he;split at h
    .rename_i i z hz;simp only[Xd.more.injEq,MOp.lookS.injEq]at h;obtain⟨⟨rfl,rfl,rfl⟩,rfl⟩:=h;exact⟨t,x,y,e,i,z,rfl,he,hz,rfl,rfl⟩
    .cases h
   .cases h
 case call c=>
  obtain⟨callee,args,argTypes⟩:=c;cases callee
  case value=>simp[Xb]at h
  case invoke r name=>simp[Xb]at h
  case builtin b=>cases b<;>(simp only[Xb,cG]at h;(repeat' split at h)<;>cases h)
 case unOp op t x=>cases op<;>simp only[Xb,cG]at h<;>cases h
 case makeFunc f a b=>cases f<;>simp only[Xb,cG]at h<;>(repeat' split at h)<;>cases h
 all_goals (simp only[Xb,cG]at h;(repeat' split at h)<;>cases h)
def assoc{κ:Type}[DecidableEq κ](a:κ):List κ->List V->Option V
 |x::ks,v::vs=>if x=a then some v else assoc a ks vs
 |_,_=>none
def vv{κ:Type}[DecidableEq κ]{a:κ}:∀{ks:List κ} {vs:List V},a∉ks->assoc a ks vs=none
 |[],_,_=>by simp[assoc]
 |x::ks,[],_=>by simp[assoc]
 |x::ks,v::vs,h=>by
  rw[assoc,au (λe=>h (by simp[e]))];exact vv λg=>h (by simp[g])
def su{κ:Type}[DecidableEq κ]{a:κ}:∀{ks:List κ} {vs:List V} {j:Nat},ks.Nodup->ks[j]?=some a->ks.length=vs.length->assoc a ks vs=vs[j]?
 |[],_,j,_,h,_=>by simp at h
 |x::ks,[],j,_,_,hl=>by simp at hl
 |x::ks,v::vs,0,_,h,_=>by
  simp only[LZ,aI]at h;rw[assoc,ak h];rfl
 |x::ks,v::vs,j+1,hn,h,hl=>by
  rw[GC]at h;have hm:=xB h;have hxa:x≠a:=λe=>(List.nodup_cons.1 hn).1 (by rw[e];exact hm);rw[assoc,au hxa,GC];exact su (List.nodup_cons.1 hn).2 h (by simpa using hl)
def SI{κ:Type}[DecidableEq κ](kv:κ->Value)(U:ad)(id:Nat)(g:κ->Option V):Prop:=
 ∃(es:Array MapEntry) (clock:Nat) (ks:List κ) (env:List V),U id=some (gh (.map es clock) env)/\es.toList.map (·.key)=ks.map kv/\ks.length=env.length/\ks.Nodup/\∀a,assoc a ks env=g a
def II{κ:Type}[DecidableEq κ]{kv:κ->Value}(hinj:∀a b,kv a=kv b->a=b){kt:TypeId}(hlaw:WideMaps.KeyLaw P kt){es:List MapEntry}{ks:List κ}(he:es.map (·.key)=ks.map kv)
 (hko:∀a∈ks,∃l,keyOf P kt (kv a)=some l){a:κ}(ha:∃l,keyOf P kt (kv a)=some l)(w:World):
 ((Instr.findKey kt (kv a) es).run P w=.ok none w/\a∉ks)\/∃j e,(Instr.findKey kt (kv a) es).run P w=.ok (some (j,e.val)) w/\es[j]?=some e/\e.key=kv a/\ks[j]?=some a:=by
 obtain⟨l,hl⟩:=ha;have XR:∀e∈es,∃l,keyOf P kt e.key=some l:=λe hm=>by
  have:e.key∈ks.map kv:=he▸List.mem_map_of_mem hm;obtain⟨b,hb,hbe⟩:=gb.1 this;rw[<-hbe];exact hko b hb
 rcases hlaw.find w hl es XR with⟨h1,h2⟩|⟨j,e,h1,h2,h3⟩
 .refine .inl ⟨h1,λhm=>?_⟩;have:kv a∈es.map (·.key):=he▸List.mem_map_of_mem hm;obtain⟨e,hem,hee⟩:=gb.1 this;exact h2 e hem hee
 .refine .inr ⟨j,e,h1,h2,h3,?_⟩;have h4:(es.map (·.key))[j]?=some e.key:=by rw[xc,h2];rfl
  rw[he,xc]at h4;cases hk:ks[j]? with
  |none=>rw[hk]at h4;cases h4
  |some b=>
   rw[hk]at h4;simp only[Option.map_some,aI]at h4;rw[hinj b a (h4.trans h3)]
structure MO{κ:Type}(P:Program)(kt:TypeId)(kv:κ->Value)(kV:κ->V):Prop where
 inj:∀a b,kv a=kv b->a=b
 law:WideMaps.KeyLaw P kt
 key:∀b,∃l,keyOf P kt (kv b)=some l
 rep:∀(a:κ) (I:Mu) (ow:Nat->Prop) (w:World) (X:Value),G' I ow w (kV a) X->X=kv a
def IZ{κ:Type}[DecidableEq κ]{kv:κ->Value}{kV:κ->V}{i:aC}{xm xk:VX}{kt:TypeId}{ok:Bool}{zv:V}(ho:i.op=.more (.lookS kt ok zv) [xm,xk]){id:Nat}{g:κ->Option V}{a:κ}
 (hK:MO P kt kv kV)(hm:xm.ev st.s=.mp id)(hmap:SI kv st.U id g)(hk:xk.ev st.s=kV a){K:St->Prop}
 (h:K ⟨aO st.s i.dst (if ok then .WC [(g a).getD zv,.bool (g a).isSome]else(g a).getD zv),st.U⟩):
 ∀(F:Fr),F.n=n->∀(I:Mu) (a:Act) (w:World) (o:Oper) (all:Array Oper),cW P n all o=i->dr F I st a w->
  ∀(next:Act->World->Prop) (Q':Exit->Act->World->Prop),(∀Zf a' w',fU F Zf a' w'->K Zf->next a' w')->o.wp P a w next Q':=by
 intro F hn I ac w o all hi hs next Q' WN
 obtain⟨hinj,hlaw,hko,ZF⟩:=hK;replace ZF:=ZF a;replace hko:∀b,(b=a\/g b≠none)->∃l,keyOf P kt (kv b)=some l:=λb _=>hko b;subst hn;obtain⟨WO,hd⟩:=ee hi;rw[ho]at WO;obtain⟨t,x,y,e,ti,z,g1,g2,g3,rfl,g4⟩:=GK WO;simp only[List.cons.injEq,and_true]at g4;obtain⟨rfl,rfl⟩:=g4;have u1:=DR g2;obtain⟨es,clock,ks,env,WY,he,hlen,XO,YJ⟩:=hmap;have hr:=cL hs x;have hrk:=cL hs y;rw[hm]at hr;rw[hk]at hrk;have hrk:=ZF _ _ _ _ hrk;simp only[G']at hr;have hks:∀b∈ks,∃l,keyOf P kt (kv b)=some l:=λb hb=>by
  obtain⟨j,hj⟩:=Kr hb;refine hko b (.inr ?_);rw[<-YJ b,su XO hj hlen];have:j<env.length:=by rw[<-hlen];exact(oR.1 hj).1
  rw[Zq6 this];simp
 have hka:=hko a (.inl rfl);obtain⟨la,Yo⟩:=hka;split at hr
 .rename_i b cap M';obtain⟨XL,henv⟩:=hs.sat.NN WY M';simp only[tmpsOf]at henv;rcases II hinj hlaw he hks ⟨la,Yo⟩ w with⟨q1,q2⟩|⟨j,en,q1,q2,q3,q4⟩
  .have hga:g a=none:=by rw[<-YJ a,vv q2]
   rw[hga]at h;have Xq:(Instr.lookup t (ac.eval x) (ac.eval y) ok).run P w=.ok (if ok then .tuple #[z,.bool false]else z) w:=by
    simp[Instr.lookup,run_underlying u1,hr,hrk,AS XL,hlaw.check w _ Yo,q1,ej g3]
   have hx:(execOp ac.eval o).run P w=.ok (.value (if ok then .tuple #[z,.bool false]else z)) w:=by
    unfold execOp;rw[g1];simp[Xq]
   unfold Oper.wp;rw[hx];refine WN _ _ _ ⟨I,?_⟩ h;rw[<-hd];have hz:G' I (aA I st.U) w (ofValue z) z:=nq z;refine hs.pure ?_;cases ok
   .simpa using hz
   .simp only[if_true,Option.getD_none,Option.isSome_none,G'];exact⟨_,rfl,by simp only[ar,G'];exact⟨_,_,rfl,hz,_,_,rfl,rfl,rfl⟩⟩
  .have hjl:j<env.length:=by rw[<-hlen];exact(oR.1 q4).1
   have hga:g a=some env[j]:=by rw[<-YJ a,su XO q4 hlen,Zq6 hjl]
   rw[hga]at h;have hv:G' I (aA I st.U) w env[j] en.val:=by
    obtain⟨x',Xp,hrx⟩:=henv.get (i:=j) (by rw[Zq6 hjl]);rw[xc,q2]at Xp;simp at Xp;subst Xp;exact hrx
   have Xq:(Instr.lookup t (ac.eval x) (ac.eval y) ok).run P w=.ok (if ok then .tuple #[en.val,.bool true]else en.val) w:=by
    simp[Instr.lookup,run_underlying u1,hr,hrk,AS XL,hlaw.check w _ Yo,q1]
   have hx:(execOp ac.eval o).run P w=.ok (.value (if ok then .tuple #[en.val,.bool true]else en.val)) w:=by
    unfold execOp;rw[g1];simp[Xq]
   unfold Oper.wp;rw[hx];refine WN _ _ _ ⟨I,?_⟩ h;rw[<-hd];refine hs.pure ?_;cases ok
   .simpa using hv
   .simp only[if_true,Option.getD_some,Option.isSome_some,G'];exact⟨_,rfl,by simp only[ar,G'];exact⟨_,_,rfl,hv,_,_,rfl,rfl,rfl⟩⟩
 .exact hr.elim
def Sd(P:Program)(kt:TypeId)(ok:Bool)(zv m k:V)(U:ad)(v:V):Prop:=∃(κ:Type) (_:DecidableEq κ) (kv:κ->Value) (kV:κ->V) (id:Nat) (g:κ->Option V) (a:κ),
 MO P kt kv kV/\m=.mp id/\SI kv U id g/\k=kV a/\v=if ok then .WC [(g a).getD zv,.bool (g a).isSome]else(g a).getD zv
def Hw{i:aC}{xs:List VX}(ho:i.op=.more .mkMap xs){K:St->Prop}(h:∀id,st.U id=none->K ⟨aO st.s i.dst (.mp id),C' st.U id (gh (.map #[] 0) [])⟩):
 ∀(F:Fr),F.n=n->∀(I:Mu) (a:Act) (w:World) (o:Oper) (all:Array Oper),cW P n all o=i->dr F I st a w->
  ∀(next:Act->World->Prop) (Q':Exit->Act->World->Prop),(∀Zf a' w',fU F Zf a' w'->K Zf->next a' w')->o.wp P a w next Q':=by
 intro F hn I a w o all hi hs next Q' WN
 subst hn;obtain⟨WO,hd⟩:=ee hi;rw[ho]at WO;obtain⟨t,h1,_⟩:=Gm WO;obtain⟨id,M',Y',g1,g2,g3,g4⟩:=hs.sat.Rb (.map #[] 0) [] (by simp[ar,tmpsOf]);have Xq:(execOp a.eval o).run P w=.ok (.value (.map (some w.heap.size))) (w.alloc (.map #[] 0)):=by
  unfold execOp;rw[h1];simp[Instr.makeMap]
  all_goals rfl
 unfold Oper.wp;rw[Xq];refine WN _ _ _ ⟨Y',?_⟩ (h id M');rw[<-hd];exact hs.step g3 g2 g4 (by simp) (by simp[G',g1])
variable {P:Program} {n:Nat} {st:St} {Q:St->Prop} {k:List It}
def TC(P:Program)(i:aC)(x:St)(K:St->Prop):Prop:=T P i x K\/(bg x.s i.g=some true/\match i.op with
 |.call fx xs=>∃f caps Post,fx.ev x.s=.fn f caps/\av P f (xs.map (·.ev x.s)++caps) x.U Post/\∀r Z',Post r Z'->K ⟨aO x.s i.dst r,Z'⟩
 |.more (.lookS kt ok zv) [xm,xk]=>∃v,Sd P kt ok zv (xm.ev x.s) (xk.ev x.s) x.U v/\K ⟨aO x.s i.dst v,x.U⟩
 |.more .mkMap []=>∀id,x.U id=none->K ⟨aO x.s i.dst (.mp id),C' x.U id (gh (.map #[] 0) [])⟩
 |_=>False)
def TC.mono{i:aC}{x:St}{K K':St->Prop}(hk:∀x,K x->K' x)(h:TC P i x K):TC P i x K':=by
 rcases h with h|⟨h1,h2⟩
 .exact .inl (h.mono hk)
 .refine .inr ⟨h1,?_⟩;split at h2
  .obtain⟨f,caps,Post,g1,g2,g3⟩:=h2;exact⟨f,caps,Post,g1,g2,λr Z' hp=>hk _ (g3 r Z' hp)⟩
  .obtain⟨v,g1,g2⟩:=h2;exact⟨v,g1,hk _ g2⟩
  .exact λid M'=>hk _ (h2 id M')
  .exact h2.elim
def Iy{F:Fr}(hn:F.n=n){o:Oper}{all:Array Oper}{x:St}{K:St->Prop}{a:Act}{w:World}(h:TC P (cW P n all o) x K)(hs:fU F x a w)
 {next:Act->World->Prop}{Q':Exit->Act->World->Prop}(WN:∀x' a' w',fU F x' a' w'->K x'->next a' w'):
 if Region.wanted o (yielded all a.tmps)then Xb P n o.op≠.bad/\o.wp P a w next Q' else next (a.put o.dst undef) w:=by
 rcases h with h|⟨hw,h⟩
 .exact zZ hn h hs WN
 subst hn;obtain⟨I,hs⟩:=hs;have hwant:=uo (P:=P) hs all o hw;rw[hwant];simp only[if_true];have hdst:(cW P F.n all o).dst=o.dst.filter (·<F.n):=rfl;have hopc:(cW P F.n all o).op=Xb P F.n o.op:=rfl;rw[hdst,hopc]at h;split at h
 .rename_i fx xs WO;refine⟨λe=>?_,?_⟩
  .rw[WO]at e;cases e
  obtain⟨f,caps,Post,h1,h2,h3⟩:=h;obtain⟨f0,args,argTypes,g1,rfl,rfl⟩:=nI WO;refine pM hs g1 h1 h2 λr Z' hp a' w' W2=>?_;exact WN _ a' w' W2 (h3 r Z' hp)
 .rename_i kt ok zv xm xk WO;refine⟨λe=>(by rw[WO]at e;cases e),?_⟩;obtain⟨v,⟨κ,_,kv,kV,id,g,b,hK,h1,h2,h3,rfl⟩,h4⟩:=h;exact IZ (i:=cW P F.n all o) (K:=K) (hopc.trans WO) hK h1 h2 h3 h4 F rfl I a w o all rfl hs next Q' WN
 .rename_i WO;refine⟨λe=>(by rw[WO]at e;cases e),?_⟩;exact Hw (i:=cW P F.n all o) (K:=K) (hopc.trans WO) h F rfl I a w o all rfl hs next Q' WN
 .exact h.elim
def TnC(P:Program)(n:Nat)(ops:Array Oper)(i:Nat)(x:St)(K:St->Prop):Prop:=match ops[i]? with
 |some o=>TC P (cW P n ops o) x K
 |none=>K x
def zM(P:Program)(n:Nat)(ops:Array Oper)(Q:St->Prop):Nat->Array Bool->St->Prop
 |0,A',x=>Region.ready .any ops A'=[]/\Q x
 |f+1,A',x=>(Region.ready .any ops A'=[]->Q x)/\∀i∈Region.ready .any ops A',TnC P n ops i x (zM P n ops Q f (A'.setIfInBounds i true))
def mT{F:Fr}(hn:F.n=n){ops:Array Oper}{Q:St->Prop}{Q':Exit->Act->World->Prop}(hQ:∀x a w,fU F x a w->Q x->Q' .normal a w):
 ∀(f:Nat) (A':Array Bool) (x:St) (a:Act) (w:World),fU F x a w->zM P n ops Q f A' x->wpAnyIn F.fg 0 P .any ops Q' f A' a w
 |0,_,_,_,_,hs,h=>⟨h.1,hQ _ _ _ hs h.2⟩
 |f+1,A',x,a,w,hs,h=>by
  refine⟨λh0=>hQ _ _ _ hs (h.1 h0),λi hi=>?_⟩;have h1:=h.2 i hi;unfold TnC at h1;unfold wpOpIn;cases ho:ops[i]? with
  |none=>
   simp only[ho]at h1;exact mT hn hQ f _ x a w hs h1
  |some o=>
   simp only[ho]at h1;have h2:=Iy (Q':=Q') hn h1 hs λx' a' w' W2 hk=>mT hn hQ f _ x' a' w' W2 hk;by_cases hw:Region.wanted o (yielded ops a.tmps)=true
   .rw[ak hw]at h2;simp only[hw,if_true];exact Ko (oy h2.1) h2.2
   .rw[au hw]at h2;simp only[hw];exact⟨λ_ _=>trivial,h2⟩
def uH(P:Program)(l:List aC)(rec:List Nat->St->Prop)(A':List Nat)(x:St):List Nat->Prop
 |[]=>True
 |i::is=>(match l[i]? with
   |some ins=>TC P ins x (rec (i::A'))
   |none=>False)/\uH P l rec A' x is
def jk(P:Program)(l:List aC)(W9:List (List Nat))(Q:St->Prop):Nat->List Nat->St->Prop
 |0,A',x=>ef W9 A'=[]/\Q x
 |f+1,A',x=>match ef W9 A' with
   |[]=>Q x
   |i::is=>uH P l (jk P l W9 Q f) A' x (i::is)
def oe{l:List aC}{rec:List Nat->St->Prop}{A':List Nat}{x:St}:∀{is:List Nat},uH P l rec A' x is->∀i∈is,∃ins,l[i]?=some ins/\TC P ins x (rec (i::A'))
 |[],_,_,hi=>by cases hi
 |j::is,h,i,hi=>by
  obtain⟨h1,h2⟩:=h;rcases dJ.1 hi with rfl|hi
  .cases hl:l[i]? with
   |none=>rw[hl]at h1;exact h1.elim
   |some ins=>rw[hl]at h1;exact⟨ins,rfl,h1⟩
  .exact oe h2 i hi
def mK{ops:Array Oper}{Q:St->Prop}:∀(f:Nat) (arr:Array Bool) (A':List Nat) (x:St),arr.size=ops.size->(∀i,i<ops.size->arr.getD i true=A'.contains i)->
 (∀i∈A',i<ops.size)->jk P (ops.toList.map (cW P n ops)) (kF ops) Q f A' x->zM P n ops Q f arr x
 |0,arr,A',x,hs,hl,ho,h=>⟨by rw[yA hs hl ho];exact h.1,h.2⟩
 |f+1,arr,A',x,hs,hl,ho,h=>by
  have hr:=yA hs hl ho;unfold jk at h;refine⟨λh0=>?_,λi hi=>?_⟩
  .rw[hr]at h0;rw[h0]at h;exact h
  .rw[hr]at hi;have B':i<ops.size:=by
    have:=(sD.1 hi).1;simpa[kF]using this
   have XR:uH P (ops.toList.map (cW P n ops)) (jk P (ops.toList.map (cW P n ops)) (kF ops) Q f) A' x (ef (kF ops) A'):=by
    cases hrr:ef (kF ops) A' with
    |nil=>exact trivial
    |cons j js=>rw[hrr]at h;exact h
   obtain⟨ins,h1,h2⟩:=oe XR i hi;have h3:ops[i]?=some ops[i]:=Array.getElem?_eq_getElem B';have h4:ins=cW P n ops ops[i]:=by simpa[B']using h1.symm
   unfold TnC;simp only[h3];rw[<-h4];refine h2.mono λx' Xp=>mK f _ (i::A') x' (by simpa using hs) (λj hj=>?_) (λj hj=>?_) Xp
   .by_cases e:j=i
    .subst e;rw[Zq7,Array.getElem?_setIfInBounds_self_of_lt (by omega)];simp
    .rw[Zq7,Array.getElem?_setIfInBounds_ne (λe'=>e e'.symm),<-Zq7,hl j hj];simp[e]
   .rcases dJ.1 hj with rfl|hj
    .exact B'
    .exact ho j hj
def ag.MM(hm:P.follows .mixedOrders=true){l:List aC}{W9:List (List Nat)}(h:jk P l W9 (λx=>ag P n k x Q) l.length [] st):ag P n (.code (.regA l W9)::k) st Q:=by
 intro F hn kt hk a w hs;obtain⟨z,Zz,rfl,hy,YH⟩:=eX hk;obtain⟨c0,rfl,Yk⟩:=iq hy;have hc0:∃id ops,c0=.region id ops true/\ops.toList.map (cW P n ops)=l/\kF ops=W9:=by
  cases c0<;>simp only[dI,reduceCtorEq]at Yk;rename_i id ops draw;cases draw
  .simp at Yk
  .simp only[Bool.true_and]at Yk;split at Yk
   .cases Yk
   split at Yk
   .simp only[bN.regA.injEq]at Yk;exact⟨id,ops,rfl,Yk.1,Yk.2⟩
   .simp at Yk
 obtain⟨id,ops,rfl,rfl,rfl⟩:=hc0;have W2:fU F st a { w with drawn:=w.drawn+1 }:=by
  obtain⟨I,hs⟩:=hs;have hk:dp (aA I st.U) (aA I st.U) w { w with drawn:=w.drawn+1 }:=λ_ _ h=>⟨h,rfl⟩
  refine⟨I,⟨⟨hs.sat.size,hs.sat.os,hs.sat.tape,hs.sat.output,hs.sat.same,hs.sat.fin,hs.sat.inj,λid o ho=>?_,hs.sat.fresh,hs.sat.glob⟩,hs.le,hs.size,hs.book.nv hk,λi hi=>?_⟩⟩
  .exact(hs.sat.obj id o ho).mono (dx.refl I) hk (Xc _) (λ_ _ _ _=>rfl)
  .exact G'.mono (dx.refl I) hk (Xc _) _ _ (hs.slot i hi)
 refine wpIn_region_any hm (mT (Q:=λx=>ag P n k x Q) hn (λx a w hs h=>h F hn Zz YH a w hs) _ _ _ _ _ W2 ?_);have:=mK (P:=P) (n:=n) (Q:=λx=>ag P n k x Q) (ops:=ops) ops.size (Array.replicate ops.size false) [] st (by simp) (λi hi=>by
  rw[Zq7,Array.getElem?_replicate,ak hi];simp) (by simp) (by simpa using h)
 exact this
def qp{l:List aC}{rec:List Nat->St->Prop}{A':List Nat}{x:St}:∀{is:List Nat},(∀i∈is,∃ins,l[i]?=some ins/\TC P ins x (rec (i::A')))->uH P l rec A' x is
 |[],_=>trivial
 |j::is,h=>by
  obtain⟨ins,h1,h2⟩:=h j (by simp);refine⟨by rw[h1];exact h2,qp λi hi=>h i (by simp[hi])⟩
variable {P:Program} {n:Nat} {st:St} {Q:St->Prop} {k:List It}
def QYd(P:Program)(i:aC)(x:St):Prop:=match i.dst with
 |some d=>QY P i x.s x.U (x.s d)
 |none=>∃v,QY P i x.s x.U v
def RE(P:Program)(l:List aC)(K:St->Prop):List Nat->St->Prop
 |[],x=>K x
 |m::its,x=>match l[m/2]? with
  |none=>False
  |some ins=>if m%2=0 then TC P ins x (RE P l K its)else QYd P ins x/\RE P l K its x
def bt(l:List aC)(i:Nat):aC:=(l[i]?).getD ⟨none,.bad,none⟩
def fA(W5:List (List Nat))(i:Nat):List Nat:=W5.getD i []
def dL(l:List aC)(W5:List (List Nat))(j:Nat):Bool:=aZ (bt l j).op != 0||(match(bt l j).dst with
 |some d=>(List.range l.length).any λi=>(bt l i).l5.contains d&&!(fA W5 i).contains j
 |none=>false)
def Fu(l:List aC)(W5:List (List Nat))(done:List Nat)(e:Nat):List Nat:=
 if dL l W5 e then done.filterMap λk=>if !(dL l W5 k)&&(!(lk (bt l k).op)&&!((fA W5 e).contains k))then some (2*k+1)else none else[]
def eM(l:List aC)(W5:List (List Nat)):List Nat->List Nat->List Nat
 |_,[]=>[]
 |done,e::r=>2*e::(Fu l W5 done e++eM l W5 (done++[e]) r)
def nM(p:Nat->Nat->Bool):List Nat->Bool
 |[]=>true
 |a::r=>r.all (p a)&&nM p r
def nk{p:Nat->Nat->Bool}:∀{a:List Nat} {b:List Nat} {x y:Nat},nM p (a++b)=true->x∈a->y∈b->p x y=true
 |[],_,_,_,_,h,_=>by cases h
 |c::a,b,x,y,hp,hx,hy=>by
  simp only[List.cons_append,nM,Ba]at hp;rcases dJ.1 hx with rfl|hx
  .exact fC.1 hp.1 y (List.mem_append_right _ hy)
  .exact nk hp.2 hx hy
def wK(f:Nat->List Nat):List Nat->List Nat->Bool
 |_,[]=>true
 |done,e::r=>(f e).all done.contains&&wK f (done++[e]) r
def tO{f:Nat->List Nat}:∀{r done:List Nat} {a:List Nat} {e:Nat} {b:List Nat},wK f done r=true->r=a++e::b->∀x∈f e,x∈done++a
 |[],_,a,e,b,_,h,_,_=>by simp at h
 |c::r,done,[],e,b,hB,h,x,hx=>by
  simp only[jE,List.cons.injEq]at h;obtain⟨rfl,rfl⟩:=h;simp only[wK,Ba]at hB;simpa using fC.1 hB.1 x hx
 |c::r,done,d::a,e,b,hB,h,x,hx=>by
  simp only[List.cons_append,List.cons.injEq]at h;obtain⟨rfl,rfl⟩:=h;simp only[wK,Ba]at hB;have:=tO hB.2 rfl x hx;simpa using this
def KZ(l:List aC)(W9 W5:List (List Nat))(ord:List Nat):Bool:=
 (decide (ord.length=l.length)&&(decide (W9.length=l.length)&&ord.all λi=>decide (i<l.length)))&&
 (nM (λa b=>decide (a≠b)) ord&&
 (wK (λi=>W9.getD i []) [] ord&&
 ((List.range l.length).all (λj=>(fA W5 j).all λi=>(W9.getD j []).any λd=>d==i||(fA W5 d).contains i)&&
 ((List.range l.length).all (λi=>(List.range l.length).all λj=>i==j||((bt l i).dst.isNone||(bt l i).dst != (bt l j).dst))&&
 (List.range l.length).all (λi=>(List.range l.length).all λj=>i==j||(match(bt l j).dst with
   |some d=>!((bt l i).l5.contains d)||((fA W5 i).contains j||(dL l W5 j&&(fA W5 j).contains i))
   |none=>true))))))
def eOk(l:List aC)(W9 W5:List (List Nat))(ord:List Nat):Bool:=KZ l W9 W5 ord&&nM (λa b=>!(dL l W5 a)||(fA W5 b).contains a) ord
def tw:∀{l:List Nat},nM (λa b=>decide (a≠b)) l=true->l.Nodup
 |[],_=>List.nodup_nil
 |a::r,h=>by
  simp only[nM,Ba]at h;refine List.nodup_cons.2 ⟨λhm=>?_,tw h.2⟩;have:=fC.1 h.1 a hm;simp at this
structure EOkW(l:List aC)(W9 W5:List (List Nat))(ord:List Nat):Prop where
 len:ord.length=l.length
 dlen:W9.length=l.length
 lt:∀i∈ord,i<l.length
 nodup:ord.Nodup
 ahead:∀a e b,ord=a++e::b->∀x∈W9.getD e [],x∈a
 anc:∀j,j<l.length->∀i∈fA W5 j,∃d∈W9.getD j [],d=i\/i∈fA W5 d
 dsts:∀i j,i<l.length->j<l.length->i≠j->∀d,(bt l i).dst=some d->(bt l j).dst≠some d
 anti:∀i j,i<l.length->j<l.length->i≠j->∀d,(bt l j).dst=some d->d∈(bt l i).l5->j∈fA W5 i\/(dL l W5 j=true/\i∈fA W5 j)
def yp{l:List aC}{W9 W5:List (List Nat)}{ord:List Nat}(h:KZ l W9 W5 ord=true):EOkW l W9 W5 ord:=by
 simp only[KZ,Ba,YX]at h;obtain⟨⟨h1,h2,h3⟩,h4,h5,h6,h7,h8⟩:=h;refine⟨h1,h2,λi hi=>by simpa using fC.1 h3 i hi,tw h4,λa e b he x hx=>by simpa using tO h5 he x hx,?_,?_,?_⟩
 .intro j hj i hi;have:=fC.1 (fC.1 h6 j (by simpa using hj)) i hi;simp only[List.any_eq_true,lG,beq_iff_eq,List.contains_iff_mem]at this;exact this
 .intro i j hi hj WZ d hd he;have:=fC.1 (fC.1 h7 i (by simpa using hi)) j (by simpa using hj);simp only[lG,beq_iff_eq,hd,he,Option.isNone_some,bne_self_eq_false,fO,or_false]at this;exact WZ this
 .intro i j hi hj WZ d hd hu;have:=fC.1 (fC.1 h8 i (by simpa using hi)) j (by simpa using hj);simp only[lG,beq_iff_eq,hd,Ba,Bool.not_eq_true',List.contains_iff_mem]at this;rcases this with h|h|h
  .exact absurd h WZ
  .have hc:(bt l i).l5.contains d=true:=List.contains_iff_mem.2 hu;rw[hc]at h;cases h
  .exact h
structure EOk(l:List aC)(W9 W5:List (List Nat))(ord:List Nat):Prop extends EOkW l W9 W5 ord where
 Zj:∀a b x y,ord=a++b->x∈a->y∈b->dL l W5 x=true->x∈fA W5 y
def Bh{l:List aC}{W9 W5:List (List Nat)}{ord:List Nat}(h:eOk l W9 W5 ord=true):EOk l W9 W5 ord:=by
 simp only[eOk,Ba]at h;refine⟨yp h.1,λa b x y he hx hy hxe=>?_⟩;have h9:=h.2;rw[he]at h9;have:=nk h9 hx hy;simp only[hxe,Bool.not_true,Bool.false_or,List.contains_iff_mem]at this;exact this
def EOkW.closed{l:List aC}{W9 W5:List (List Nat)}{ord:List Nat}(h:EOkW l W9 W5 ord){L:List Nat}(hc:∀m∈L,∀d∈W9.getD m [],d∈L)(hmem:∀i,i<l.length->i∈ord):
 ∀(m:Nat) (a:List Nat) (j:Nat) (b:List Nat),a.length<m->ord=a++j::b->(∀d∈W9.getD j [],d∈L)->∀i∈fA W5 j,i∈L:=by
 intro m
 induction m with
 |zero=>intro a j b ha;omega
 |succ m ih=>
  intro a j b ha he hd i hi;have hj:j<l.length:=h.lt j (by rw[he];simp);obtain⟨d,h1,h2⟩:=h.anc j hj i hi;rcases h2 with rfl|h2
  .exact hd d h1
  .have Xg:=h.ahead a j b he d h1;obtain⟨a1,a2,rfl⟩:=List.append_of_mem Xg;exact ih a1 d (a2++j::b) (by simp at ha;omega) (by rw[he];simp) (λd' h'=>hc d (hd d h1) d' h') i h2
def mX{i:aC}{s s':Nat->V}(h:∀u∈i.l5,s u=s' u):bg s i.g=bg s' i.g:=by
 cases hg:i.g with
 |none=>rfl
 |some g=>
  obtain⟨x,b⟩:=g;have:x.ev s=x.ev s':=by
   cases x with
   |t t=>exact h t (List.mem_filterMap.2 ⟨.t t,List.mem_append_right _ (by simp[hg]),rfl⟩)
   |c v=>rfl
  simp only[bg,this]
def Bt{i:aC}{s s':Nat->V}(h:∀u∈i.l5,s u=s' u):∀x∈i.op.xs,x.ev s=x.ev s':=λx hx=>by
 cases x with
 |t t=>exact h t (D8 hx rfl)
 |c v=>rfl
def Co{i:aC}{s s':Nat->V}{U:ad}{v:V}(h:∀u∈i.l5,s u=s' u)(hq:QY P i s U v):QY P i s' U v:=by
 unfold QY at*;rw[<-mX h];exact hq.imp (λ⟨h1,h2⟩=>⟨h1,wQ (Bt h) h2⟩) id
def Aq{i:aC}{x y:St}{K K':St->Prop}(h:∀u∈i.l5,x.s u=y.s u)(WY:x.U=y.U)(hk:∀r Z',K ⟨aO x.s i.dst r,Z'⟩->K' ⟨aO y.s i.dst r,Z'⟩)(ht:TC P i x K):TC P i y K':=by
 have hx:=Bt h;rcases ht with ht|⟨hw,ht⟩
 .refine .inl ?_;unfold T at*;rw[<-mX h];split<;>rename_i ho<;>simp only[ho]at ht
  .unfold TO at*;split<;>rename_i hk0<;>simp only[hk0]at ht
   .obtain⟨g1,v,g2,g3⟩:=ht;obtain⟨e1,e2⟩:=tq (U:=y.U) hx;exact⟨e2.1 g1,v,by rw[<-e1,<-WY];exact g2,by rw[<-WY];exact hk _ _ g3⟩
   .split at ht
    .rename_i fx xs WO;obtain⟨f,caps,v,g1,g2,g3⟩:=ht;refine⟨f,caps,v,?_,?_,by rw[<-WY];exact hk _ _ g3⟩
     .rw[<-hx fx (by rw[WO];simp[Xd.xs])];exact g1
     .rw[<-rF (s:=x.s) (s':=y.s) λz hz=>hx z (by rw[WO];simp[Xd.xs,hz]),<-WY];exact g2
    .exact ht.elim
   .split at ht
    .rename_i sz xa xv WO;obtain⟨Z',g1,g2⟩:=ht;refine⟨Z',?_,hk _ _ g2⟩;rw[<-hx xa (by rw[WO];simp[Xd.xs]),<-hx xv (by rw[WO];simp[Xd.xs]),<-WY];exact g1
    .exact ht.elim
   .obtain⟨g,g1,g2⟩:=ht;refine⟨g,by rw[<-ga hx,<-WY];exact g1,λid M'=>hk _ _ (g2 id (by rw[WY];exact M'))⟩
  .rw[<-WY];exact hk _ _ ht
 .refine .inr ⟨by rw[<-mX h];exact hw,?_⟩;split at ht
  .rename_i fx xs WO;obtain⟨f,caps,Post,g1,g2,g3⟩:=ht;refine⟨f,caps,Post,?_,?_,λr Z' hp=>hk _ _ (g3 r Z' hp)⟩
   .rw[<-hx fx (by rw[WO];simp[Xd.xs])];exact g1
   .rw[<-rF (s:=x.s) (s':=y.s) λz hz=>hx z (by rw[WO];simp[Xd.xs,hz]),<-WY];exact g2
  .rename_i kt ok zv xm xk WO;obtain⟨v,g1,g2⟩:=ht;refine⟨v,?_,by rw[<-WY];exact hk _ _ g2⟩;rw[<-hx xm (by rw[WO];simp[Xd.xs]),<-hx xk (by rw[WO];simp[Xd.xs]),<-WY];exact g1
  .exact λid M'=>by rw[<-WY];exact hk _ _ (ht id (by rw[WY];exact M'))
  .exact ht.elim
structure kD(P:Program)(l:List aC)(W9 W5:List (List Nat))(ord:List Nat)(K:St->Prop)(L:List Nat)(y:St)(done rest:List Nat)(x:St):Prop where
 split:ord=done++rest
 sub:∀i∈L,i∈done
 nodup:L.Nodup
 closed:∀m∈L,∀d∈W9.getD m [],d∈L
 Zj:∀i∈done,dL l W5 i=true->i∈L
 store:y.U=x.U
 slot:∀d,(∀i∈done,i∉L->(bt l i).dst≠some d)->y.s d=x.s d
 lag:∀i∈done,i∉L->QYd P (bt l i) x
 go:RE P l K (eM l W5 done rest) x
def iG{l:List aC}{W5:List (List Nat)}{e:Nat}(h:dL l W5 e=false)(he:e<l.length)(WZ:e∉fA W5 e):aZ (bt l e).op=0/\∀d,(bt l e).dst=some d->d∉(bt l e).l5:=by
 simp only[dL,Bool.or_eq_false_iff,bne_eq_false_iff_eq]at h;refine⟨h.1,λd hd hu=>?_⟩;have h2:=h.2;rw[hd]at h2;simp only[List.any_eq_false,List.mem_range,Ba,Bool.not_eq_true',not_and,Bool.not_eq_false]at h2;have:=h2 e he (List.contains_iff_mem.2 hu);exact WZ (List.contains_iff_mem.1 this)
def ES{l:List aC}{K:St->Prop}{e:Nat}{its:List Nat}{x:St}(he:e<l.length):RE P l K (2*e::its) x↔TC P (bt l e) x (RE P l K its):=by
 have h1:2*e/2=e:=by omega
 have h2:2*e%2=0:=by omega
 rw[RE,h1,Zq6 he];simp only[ak h2,bt,Zq6 he,Option.getD_some]
def Og{l:List aC}{K:St->Prop}{e:Nat}{its:List Nat}{x:St}(he:e<l.length):RE P l K ((2*e+1)::its) x↔QYd P (bt l e) x/\RE P l K its x:=by
 have h1:(2*e+1)/2=e:=by omega
 have h2:¬(2*e+1)%2=0:=by omega
 rw[RE,h1,Zq6 he];simp only[au h2,bt,Zq6 he,Option.getD_some]
def ur{l:List aC}{K:St->Prop}{its:List Nat}{x:St}(p:Nat->Bool):∀{done:List Nat},(∀i∈done,i<l.length)->RE P l K ((done.filterMap λk=>if p k then some (2*k+1)else none)++its) x->
 (∀k∈done,p k=true->QYd P (bt l k) x)/\RE P l K its x
 |[],_,h=>⟨by simp,h⟩
 |a::r,hl,h=>by
  rw[List.filterMap_cons]at h;cases hp:p a with
  |false=>
   simp only[hp,fO,if_false]at h;obtain⟨h1,h2⟩:=ur p (λi hi=>hl i (by simp[hi])) h;refine⟨λk hk hpk=>?_,h2⟩;rcases dJ.1 hk with rfl|hk
   .rw[hp]at hpk;cases hpk
   .exact h1 k hk hpk
  |true=>
   simp only[hp,if_true,List.cons_append]at h;rw[Og (hl a (by simp))]at h;obtain⟨h1,h2⟩:=ur p (λi hi=>hl i (by simp[hi])) h.2;refine⟨λk hk hpk=>?_,h2⟩;rcases dJ.1 hk with rfl|hk
   .exact h.1
   .exact h1 k hk hpk
section
variable {l:List aC} {W9 W5:List (List Nat)} {ord:List Nat} {K:St->Prop} (hE:EOkW l W9 W5 ord)
include hE
def EOkW.mem(i:Nat)(hi:i<l.length):i∈ord:=(xp l.length ord hE.nodup hE.lt).2 hE.len i hi
def EOkW.mZ{a:List Nat}{j:Nat}{b:List Nat}(he:ord=a++j::b):∀i∈fA W5 j,i∈a:=by
 have hc:∀m∈a,∀d∈W9.getD m [],d∈a:=λm hm d hd=>by
  obtain⟨a1,a2,rfl⟩:=List.append_of_mem hm;have:=hE.ahead a1 m (a2++j::b) (by rw[he];simp) d hd;simp[this]
 exact hE.closed hc hE.mem (a.length+1) a j b (by omega) he (λd hd=>hE.ahead a j b he d hd)
def EOkW.oG{j:Nat}(hj:j<l.length):j∉fA W5 j:=λh=>by
 obtain⟨a,b,he⟩:=List.append_of_mem (hE.mem j hj);have h1:=hE.mZ he j h;have:=hE.nodup;rw[he]at this;have:=(List.nodup_append.1 this).2.2 j h1 j (by simp);exact this rfl
def uF{i:Nat}{x:St}{e:Nat}{v:V}{Z':ad}(hi:i<l.length)(he:e<l.length)(WZ:i≠e)(hu:∀d,(bt l e).dst=some d->d∉(bt l i).l5)
 (hq:∀v,QY P (bt l i) x.s x.U v->QY P (bt l i) x.s Z' v)(h:QYd P (bt l i) x):QYd P (bt l i) ⟨aO x.s (bt l e).dst v,Z'⟩:=by
 unfold QYd at*;have hq':∀v',QY P (bt l i) x.s x.U v'->QY P (bt l i) (aO x.s (bt l e).dst v) Z' v':=λv' hv=>(gr hu).2 (hq v' hv);cases hd:(bt l i).dst with
 |none=>rw[hd]at h;obtain⟨v',h⟩:=h;exact⟨v',hq' v' h⟩
 |some d=>
  rw[hd]at h;simp only at h|-;have:aO x.s (bt l e).dst v d=x.s d:=by
   have:=hE.dsts i e hi he WZ d hd;cases hde:(bt l e).dst with
   |none=>rfl
   |some d'=>
    rw[hde]at this;simp only[aO];rw[au (λe'=>this (by rw[e']))]
  rw[this];exact hq' _ h
def kD.adv{L:List Nat}{y:St}:∀{rest done:List Nat} {x:St},kD P l W9 W5 ord K L y done rest x->
 ∃done' rest' x',kD P l W9 W5 ord K L y done' rest' x'/\∀h r,rest'=h::r->dL l W5 h=true
 |[],done,x,h=>⟨done,[],x,h,by simp⟩
 |e::rest,done,x,h=>by
  cases heff:dL l W5 e with
  |true=>exact⟨done,e::rest,x,h,λa r he=>by cases he;exact heff⟩
  |false=>
   have hel:e<l.length:=hE.lt e (by rw[h.split];simp);obtain⟨hk,hself⟩:=iG heff hel (hE.oG hel);have XO:=hE.nodup;rw[h.split]at XO;have hed:e∉done:=λhm=>(List.nodup_append.1 XO).2.2 e hm e (by simp) rfl;have heL:e∉L:=λhm=>hed (h.sub e hm);have Zq:=h.go;rw[eM,ES hel,Fu,au (by simp[heff]),jE]at Zq;have hT:T P (bt l e) x (RE P l K (eM l W5 (done++[e]) rest)):=by
    rcases Zq with Zq|⟨_,Zq⟩
    .exact Zq
    .exfalso;revert Zq hk;generalize (bt l e).op=op;intro hk Zq;split at Zq
     .simp[aZ]at hk
     .simp[aZ]at hk
     .simp[aZ]at hk
     .exact Zq
   obtain⟨v,hv,hgo'⟩:=(cD (by simp[gi,hk])).1 hT;refine kD.adv (rest:=rest) (done:=done++[e]) (x:=⟨aO x.s (bt l e).dst v,x.U⟩) ⟨by rw[h.split];simp,λi hi=>by simp[h.sub i hi],h.nodup,h.closed,λi hi YP=>?_,h.store,λd hd=>?_,λi hi hiL=>?_,hgo'⟩
   .rcases dH.1 hi with hi|hi
    .exact h.Zj i hi YP
    .simp only[ja]at hi;rw[hi,heff]at YP;cases YP
   .have h1:=h.slot d λi hi hiL=>hd i (by simp[hi]) hiL;have h2:=hd e (by simp) heL;rw[h1];simp only;cases hde:(bt l e).dst with
    |none=>rfl
    |some d'=>
     rw[hde]at h2;simp only[aO];rw[au (λe'=>h2 (by rw[e']))]
   .by_cases YP:i=e
    .subst YP;unfold QYd;cases hd:(bt l i).dst with
     |none=>exact⟨v,hv⟩
     |some d=>
      simp only;have e1:aO x.s (some d) v d=v:=by simp[aO]
      rw[e1];exact(gr (λt ht=>by cases ht;exact hself d hd)).2 hv
    .have M':i∈done:=by
      rcases dH.1 hi with hi|hi
      .exact hi
      .simp only[ja]at hi;exact absurd hi YP
     have Yv:i<l.length:=hE.lt i (by rw[h.split];simp[M']);refine uF hE Yv hel YP (λd hd hu=>?_) (λv hv=>hv) (h.lag i M' hiL);rcases hE.anti i e Yv hel YP d hd hu with h1|⟨h1,_⟩
     .obtain⟨a,b,hab⟩:=List.append_of_mem M';have h2:=hE.mZ (a:=a) (j:=i) (b:=b++e::rest) (by rw[h.split,hab];simp) e h1;exact hed (by rw[hab];simp[h2])
     .rw[heff]at h1;cases h1
end
section
variable {l:List aC} {W9 W5:List (List Nat)} {ord:List Nat} {K:St->Prop} (hE:EOk l W9 W5 ord)
include hE
def qc:∀(f:Nat) (L:List Nat) (y:St) (done rest:List Nat) (x:St),f+L.length=l.length->kD P l W9 W5 ord K L y done rest x->jk P l W9 K f L y:=by
 intro f
 induction f with
 |zero=>
  intro L y done rest x hf h;have XR:∀i,i<l.length->i∈L:=(xp l.length L h.nodup λi hi=>hE.lt i (by rw[h.split];simp[h.sub i hi])).2 (by omega);have XO:=hE.nodup;rw[h.split]at XO;have hrest:rest=[]:=by
   cases rest with
   |nil=>rfl
   |cons e r=>
    exfalso;have hel:e<l.length:=hE.lt e (by rw[h.split];simp);exact(List.nodup_append.1 XO).2.2 e (h.sub e (XR e hel)) e (by simp) rfl
  subst hrest;have hyx:y=x:=by
   obtain⟨s,U⟩:=y;obtain⟨s',Z'⟩:=x;have h1:U=Z':=h.store;have h2:s=s':=funext λd=>h.slot d λi hi hiL=>absurd (XR i (hE.lt i (by rw[h.split];simp[hi]))) hiL;rw[h1,h2]
  refine⟨?_,by rw[hyx];exact h.go⟩;unfold ef;rw[List.filter_eq_nil_iff];intro i hi;simp only[List.mem_range,hE.dlen]at hi;simp[XR i hi]
 |succ f ih=>
  intro L y done rest x hf h;obtain⟨done,rest,x,h,hhead⟩:=kD.adv hE.toEOkW h;have XO:=hE.nodup;rw[h.split]at XO;have hmemL:∀i∈L,i<l.length:=λi hi=>hE.lt i (by rw[h.split];simp[h.sub i hi]);have key:uH P l (jk P l W9 K f) L y (ef W9 L):=by
   refine qp λi hi=>?_;obtain⟨Yv,hiL,hdep⟩:=uW hi;rw[hE.dlen]at Yv;refine⟨bt l i,by simp[bt,Zq6 Yv],?_⟩;obtain⟨pa,pb,hpe⟩:=List.append_of_mem (hE.mem i Yv);have hbefL:∀j∈fA W5 i,j∈L:=hE.closed h.closed hE.mem (pa.length+1) pa i pb (by omega) hpe hdep;have huses:∀u∈(bt l i).l5,x.s u=y.s u:=λu hu=>(h.slot u λj hj hjL hd=>by
    have hjl:j<l.length:=hE.lt j (by rw[h.split];simp[hj]);by_cases hji:j=i
    .subst hji;cases YK:dL l W5 j with
     |true=>exact hjL (h.Zj j hj YK)
     |false=>exact(iG YK hjl (hE.oG hjl)).2 u hd hu
    .rcases hE.anti i j Yv hjl (λe=>hji e.symm) u hd hu with h1|⟨h1,_⟩
     .exact hjL (hbefL j h1)
     .exact hjL (h.Zj j hj h1)).symm
   by_cases M':i∈done
   .have YP:dL l W5 i=false:=by
     cases YP:dL l W5 i with
     |false=>rfl
     |true=>exact absurd (h.Zj i M' YP) hiL
    obtain⟨hk,_⟩:=iG YP Yv (hE.oG Yv);have hq:=h.lag i M' hiL;obtain⟨v,hv,hvd⟩:∃v,QY P (bt l i) x.s x.U v/\∀d,(bt l i).dst=some d->x.s d=v:=by
     unfold QYd at hq;cases hd:(bt l i).dst with
     |none=>rw[hd]at hq;obtain⟨v,hq⟩:=hq;exact⟨v,hq,by simp⟩
     |some d=>rw[hd]at hq;exact⟨_,hq,λd' e=>by cases e;rfl⟩
    refine .inl ((cD (by simp[gi,hk])).2 ⟨v,?_,?_⟩)
    .rw[h.store];exact Co huses hv
    .refine ih (i::L) _ done rest x (by simp only[YI];omega) ⟨h.split,λj hj=>?_,List.nodup_cons.2 ⟨hiL,h.nodup⟩,λm hm d hd=>?_,λj hj YK=>by simp[h.Zj j hj YK],h.store,λd hd=>?_,λj hj hjL=>h.lag j hj (λhm=>hjL (by simp[hm])),h.go⟩
     .rcases dJ.1 hj with rfl|hj
      .exact M'
      .exact h.sub j hj
     .rcases dJ.1 hm with rfl|hm
      .simp[hdep d hd]
      .simp[h.closed m hm d hd]
     .simp only;by_cases hdi:(bt l i).dst=some d
      .rw[hdi];simp only[aO];rw[ak trivial];exact(hvd d hdi).symm
      .have h1:=h.slot d λj hj hjL=>by
        by_cases hji:j=i
        .rw[hji];exact hdi
        .exact hd j hj (by simp[hji,hjL])
       rw[<-h1];cases hde:(bt l i).dst with
       |none=>rfl
       |some d'=>
        rw[hde]at hdi;simp only[aO];rw[au (λe'=>hdi (by rw[e']))]
   .have hir:i∈rest:=by
     have:=hE.mem i Yv;rw[h.split]at this;exact(dH.1 this).resolve_left M'
    obtain⟨hd0,rr,rfl⟩:∃a r,rest=a::r:=by
     cases rest with
     |nil=>cases hir
     |cons a r=>exact⟨a,r,rfl⟩
    have heff:=hhead hd0 rr rfl;have hh0:hd0∉done:=λhm=>(List.nodup_append.1 XO).2.2 hd0 hm hd0 (by simp) rfl;have hih:i=hd0:=by
     rcases dJ.1 hir with e|hir
     .exact e
     .exfalso;have:=hE.Zj (done++[hd0]) rr hd0 i (by rw[h.split];simp) (by simp) hir heff;exact hh0 (h.sub _ (hbefL _ this))
    subst hih;have Zq:=h.go;rw[eM,ES Yv]at Zq;refine Aq huses h.store.symm (λr Z' hK=>?_) Zq;rw[Fu,ak heff]at hK;obtain⟨hck,hgo'⟩:=ur (λk=>!(dL l W5 k)&&(!(lk (bt l k).op)&&!((fA W5 i).contains k))) (λj hj=>hE.lt j (by rw[h.split];simp[hj])) hK;refine ih (i::L) _ (done++[i]) rr ⟨aO x.s (bt l i).dst r,Z'⟩ (by simp only[YI];omega) ⟨by rw[h.split];simp,λj hj=>?_,List.nodup_cons.2 ⟨hiL,h.nodup⟩,λm hm d hd=>?_,λj hj YK=>?_,rfl,λd hd=>?_,λj hj hjL=>?_,hgo'⟩
    .rcases dJ.1 hj with rfl|hj
     .simp
     .simp[h.sub j hj]
    .rcases dJ.1 hm with rfl|hm
     .simp[hdep d hd]
     .simp[h.closed m hm d hd]
    .rcases dH.1 hj with hj|hj
     .simp[h.Zj j hj YK]
     .simp only[ja]at hj;simp[hj]
    .have h1:(bt l i).dst=some d\/y.s d=x.s d:=by
      by_cases hdi:(bt l i).dst=some d
      .exact .inl hdi
      .exact .inr (h.slot d λj hj hjL=>hd j (by simp[hj]) (by
        simp only[dJ,not_or];exact⟨λe=>M' (e▸hj),hjL⟩))
     simp only;cases hde:(bt l i).dst with
     |none=>rw[hde]at h1;exact h1.resolve_left (by simp)
     |some d'=>
      simp only[aO];split
      .rfl
      .rename_i WZ;rw[hde]at h1;exact h1.resolve_left (λe=>WZ (by cases e;rfl))
    .have hjd:j∈done:=by
      rcases dH.1 hj with hj|hj
      .exact hj
      .simp only[ja]at hj;exact absurd (by simp[hj]) hjL
     have hjL':j∉L:=λhm=>hjL (by simp[hm]);have hjl:j<l.length:=hE.lt j (by rw[h.split];simp[hjd]);have hji:j≠i:=λe=>M' (e▸hjd);have YK:dL l W5 j=false:=by
      cases YK:dL l W5 j with
      |false=>rfl
      |true=>exact absurd (h.Zj j hjd YK) hjL'
     cases hsf:lk (bt l j).op with
     |true=>
      refine uF hE.toEOkW hjl Yv hji (λd hd hu=>?_) (λv hv=>kE hsf hv) (h.lag j hjd hjL');rcases hE.anti j i hjl Yv hji d hd hu with h1|⟨_,h1⟩
      .obtain⟨a,b,hab⟩:=List.append_of_mem hjd;have h2:=hE.mZ (a:=a) (j:=j) (b:=b++i::rr) (by rw[h.split,hab];simp) i h1;exact M' (by rw[hab];simp[h2])
      .exact hjL' (hbefL j h1)
     |false=>
      refine hck j hjd ?_;simp only[YK,hsf,Bool.not_false,Bool.true_and,Bool.not_eq_true'];cases hc:(fA W5 i).contains j with
      |false=>rfl
      |true=>exact absurd (hbefL j (List.contains_iff_mem.1 hc)) hjL'
  cases hr:ef W9 L with
  |cons a r=>unfold jk;rw[hr]at key|-;exact key
  |nil=>
   exfalso;have:∃i,i∈ord/\i∉L:=by
    by_cases hx:∃i,i∈ord/\i∉L
    .exact hx
    .exfalso;have E':∀i∈ord,i∈L:=λi hi=>Classical.byContradiction λhn=>hx ⟨i,hi,hn⟩;have h1:=hE.nodup.length_le_of_subset E';have:=hE.len;omega
   obtain⟨i,hi,hiL⟩:=this;have first:∀(a b:List Nat),ord=a++b->(∀j∈a,j∈L)->(∃i∈b,i∉L)->∃a' e b',ord=a'++e::b'/\(∀j∈a',j∈L)/\e∉L:=by
    intro a b
    induction b generalizing a with
    |nil=>rintro _ _ ⟨i,h,_⟩;cases h
    |cons e b ihb=>
     intro he ha hx;by_cases heL:e∈L
     .refine ihb (a++[e]) (by rw[he];simp) (λj hj=>?_) ?_
      .rcases dH.1 hj with hj|hj
       .exact ha j hj
       .simp only[ja]at hj;rw[hj];exact heL
      .obtain⟨i,hi,hiL⟩:=hx;rcases dJ.1 hi with rfl|hi
       .exact absurd heL hiL
       .exact⟨i,hi,hiL⟩
     .exact⟨a,e,b,he,ha,heL⟩
   obtain⟨a,e,b,he,ha,heL⟩:=first [] ord rfl (by simp) ⟨i,hi,hiL⟩
   have hel:e<l.length:=hE.lt e (by rw[he];simp);have:e∈ef W9 L:=by
    unfold ef;refine sD.2 ⟨by simp[hE.dlen,hel],?_⟩;simp only[Ba,Bool.not_eq_true',fC];refine⟨by simpa using heL,λd hd=>?_⟩;simpa using ha d (hE.ahead a e b he d hd)
   rw[hr]at this;cases this
end
def ag.tT(hm:P.follows .mixedOrders=true){l:List aC}{W9:List (List Nat)}(ord:List Nat)(W5:List (List Nat))(its:List Nat)(hB:eOk l W9 W5 ord=true)(hi:eM l W5 [] ord=its)
 (h:RE P l (λx=>ag P n k x Q) its st):ag P n (.code (.regA l W9)::k) st Q:=by
 have hE:=Bh hB;refine ag.MM hm (qc hE l.length [] st [] ord st (by simp) ⟨rfl,by simp,List.nodup_nil,by simp,by simp,rfl,λ_ _=>rfl,by simp,by rw[hi];exact h⟩)
def RE.seg{l:List aC}{K:St->Prop}(rest:List Nat):∀(idx:List Nat) (sg:List aC) {x:St},(idx.map λm=>l[m/2]?)=sg.map some->(idx.all λm=>m%2==0)=true->
 Go P n (.d sg [.stop (RE P l K rest)]) x (λ_=>False)->RE P l K (idx++rest) x
 |[],[],_,_,_,h=>h
 |[],_::_,_,h,_,_=>by simp at h
 |_::_,[],_,h,_,_=>by simp at h
 |m::idx,i::sg,x,h,hev,hg=>by
  simp only[eV,List.cons.injEq]at h;simp only[oS,Ba,beq_iff_eq]at hev;show RE P l K (m::(idx++rest)) x;rw[RE,h.1];simp only[ak hev.1];exact .inl (T.mono (λx' Xp=>RE.seg rest idx sg h.2 (by simpa using hev.2) Xp) hg)
def cI{P:Program}{n:Nat}{l:List aC}{K:St->Prop}(rest:List Nat)(idx:List Nat)(sg:List aC){x:St}(h:(idx.map λm=>l[m/2]?)=sg.map some)(he:(idx.all λm=>m%2==0)=true)(hg:step P Yi.nothing n 300 (.d sg [.stop (RE P l K rest)]) x (λ_=>False)):RE P l K (idx++rest) x:=RE.seg rest idx sg h he (sG hg)
def RE.call{l:List aC}{K:St->Prop}{m:Nat}{rest:List Nat}{x:St}{i:aC}(hi:l[m/2]?=some i)(hm:m%2=0){fx:VX}{xs:List VX}(hw:bg x.s i.g=some true)(ho:i.op=.call fx xs){f:FuncId}{caps:List V}(hf:fx.ev x.s=.fn f caps)
 {Post:V->ad->Prop}(hc:av P f (xs.map (·.ev x.s)++caps) x.U Post)(h:∀r Z',Post r Z'->RE P l K rest ⟨aO x.s i.dst r,Z'⟩):RE P l K (m::rest) x:=by
 rw[RE,hi];simp only[ak hm];exact .inr ⟨hw,by rw[ho];exact⟨f,caps,Post,hf,hc,h⟩⟩
def RE.I5{l:List aC}{K:St->Prop}{m:Nat}{rest:List Nat}{x:St}{i:aC}(hi:l[m/2]?=some i)(hm:m%2=0){fx:VX}{xs:List VX}(hw:bg x.s i.g=some true)(ho:i.op=.call fx xs){f:FuncId}{caps:List V}(hf:fx.ev x.s=.fn f caps)
 {v:V}(hc:av P f (xs.map (·.ev x.s)++caps) x.U λr Z'=>r=v/\Z'=x.U)(h:RE P l K rest ⟨aO x.s i.dst v,x.U⟩):RE P l K (m::rest) x:=
 RE.call hi hm hw ho hf hc λr Z' ⟨h1,h2⟩=>by subst h1;subst h2;exact h
def reP{P:Program}{l:List aC}{K:St->Prop}{m:Nat}{rest:List Nat}{x:St}{i:aC}{fx:VX}{xs:List VX}{f:FuncId}{caps:List V}{v:V}(hw:(l[m/2]?,m%2,bg x.s i.g,i.op,fx.ev x.s)=(some i,0,some true,.call fx xs,.fn f caps))(hc:av P f (xs.map (·.ev x.s)++caps) x.U λr Z'=>r=v/\Z'=x.U)(h:RE P l K rest ⟨aO x.s i.dst v,x.U⟩):RE P l K (m::rest) x:=RE.I5 (congrArg (·.1) hw) (congrArg (·.2.1) hw) (congrArg (·.2.2.1) hw) (congrArg (·.2.2.2.1) hw) (congrArg (·.2.2.2.2) hw) hc h
def RE.chk{l:List aC}{K:St->Prop}{m:Nat}{rest:List Nat}{x:St}{i:aC}(hi:l[m/2]?=some i)(hm:m%2=1){d:Nat}(hd:i.dst=some d)(hw:bg x.s i.g=some true)(hk:aZ i.op=0)(hp:eD x.s i.op)
 (hv:aD x.U x.s i.op=some (x.s d))(h:RE P l K rest x):RE P l K (m::rest) x:=by
 rw[RE,hi];simp only[hm,Nat.one_ne_zero,if_false];refine⟨?_,h⟩;unfold QYd;rw[hd];refine .inl ⟨hw,?_⟩;unfold QO;simp only[hk];exact⟨hp,hv⟩
def dy{P:Program}{l:List aC}{K:St->Prop}{m:Nat}{rest:List Nat}{x:St}{i:aC}{d:Nat}(hw:(l[m/2]?,m%2,i.dst,bg x.s i.g,aZ i.op)=(some i,1,some d,some true,0))(hv:aD x.U x.s i.op=some (x.s d))(h:RE P l K rest x)(hp:eD x.s i.op:=by exact trivial):RE P l K (m::rest) x:=RE.chk (congrArg (·.1) hw) (congrArg (·.2.1) hw) (congrArg (·.2.2.1) hw) (congrArg (·.2.2.2.1) hw) (congrArg (·.2.2.2.2) hw) hp hv h
variable {P:Program} {n:Nat} {st:St} {Q:St->Prop} {k:List It}
def ag.VK{k1 k2:List It}(τ:St->Prop)(h1:ag P n (k1++[.stop τ]) st Q)(h2:∀st,τ st->ag P n k2 st Q):ag P n (k1++k2) st Q:=by
 intro F hn kt hk a w hs;obtain⟨kt1,kt2,rfl,X6,Yf⟩:=List.map_eq_append_iff.1 hk;have key:∀(kt:List KI) e a w,lU P F Q (kt++[.stop τ]) e a w->lU P F Q (kt++kt2) e a w:=by
  intro kt
  induction kt with
  |nil=>
   intro e a w h;simp only[jE]at h|-;cases e with
   |normal=>obtain⟨st,h3,h4⟩:=h;exact h2 st h3 F hn kt2 Yf a w h4
   |ret=>obtain⟨_,h3⟩:=h;exact l4 h3 kt2
   |_=>obtain⟨h3,_⟩:=h;rcases h3 with h3|h3<;>cases h3
  |cons y kt ih=>
   intro e a w h;cases y with
   |code c=>cases e<;>first|exact wpIn_mono h ih|exact ih _ _ _ h
   |inBlock id=>
    cases e<;>simp only[List.cons_append,lU,Exit.inBlock]at h|-<;>(try split at h)<;>(try split)<;>first|exact ih _ _ _ h|contradiction
   |stop μ=>cases e<;>first|exact h|exact ih _ _ _ h
   |ops all l=>cases e<;>first|exact nQ ih l a w h|exact ih _ _ _ h
 exact key kt1 _ a w (h1 F hn (kt1++[.stop τ]) (by simp[KI.it,X6]) a w hs)
def ag.fP{x:bN}{id:Nat}(τ:St->Prop)(μ:Nat->St->Prop)(m:Nat)(h0:μ m st)
 (hr:∀m st,μ m st->ag P n (.code x::.stop (λZf=>∃m',m'<m/\μ m' Zf)::[.inBlock id,.stop τ]) st Q)(h2:∀st,τ st->ag P n k st Q):
 ag P n (.code (.loop x)::.inBlock id::k) st Q:=
 ag.VK (P:=P) (n:=n) (Q:=Q) (st:=st) (k1:=[.code (.loop x),.inBlock id]) (k2:=k) τ (ag.loop μ m h0 hr) h2
open Go.Proofs
def Ls{f:T'}{s:Xr}(hf:f.ok)(h:XU s.a/\XU s.b):XU (gN f s).a/\XU (gN f s).b:=by
 obtain⟨⟨x1,x2⟩,_,⟨w1,w2⟩,_⟩:=hf;obtain⟨⟨a1,a2⟩,b1,b2⟩:=h;unfold gN;split
 .exact⟨⟨by simp only;omega,by simp only;omega⟩,b1,b2⟩
 .exact⟨⟨a1,a2⟩,by simp only;omega,by simp only;omega⟩
def Bz:∀{l:List T'} {s:Xr},(∀f∈l,f.ok)->XU s.a/\XU s.b->XU (l.foldl (λs f=>gN f s) s).a/\XU (l.foldl (λs f=>gN f s) s).b
 |[],_,_,h=>h
 |f::l,s,hl,h=>Bz (l:=l) (λg hg=>hl g (by simp[hg])) (Ls (hl f (by simp)) h)
def iQ{l:List T'}{y high:Int}{s:Xr}(hl:∀f∈l,f.ok)(h:XU s.a/\XU s.b):XU (bM l y high s).a/\XU (bM l y high s).b:=
 Bz (λf hf=>hl f (sD.1 hf).1) h
def wI{s:Xr}:∀{l:List T'},(∀f∈l,gN f s=s)->l.foldl (λs f=>gN f s) s=s
 |[],_=>rfl
 |f::l,h=>by rw[gg,h f (by simp)];exact wI λg hg=>h g (by simp[hg])
def pY(s:Xr):∀(l:List T') (a:Int×Bool),(l.foldl (iK s) a=a\/∃f∈l,l.foldl (iK s) a=(f.y+f.h,true))/\(a.2=true->(l.foldl (iK s) a).2=true)/\((∃f∈l,gN f s≠s)->(l.foldl (iK s) a).2=true)
 |[],a=>⟨.inl rfl,id,by simp⟩
 |f::l,a=>by
  obtain⟨h1,h2,h3⟩:=pY s l (iK s a f);have hf:iK s a f=a\/iK s a f=(f.y+f.h,true):=by unfold iK;split<;>simp
  refine⟨?_,λha=>h2 ?_,?_⟩
  .rw[gg];rcases h1 with h1|⟨g,hg,h1⟩
   .rw[h1];rcases hf with hf|hf
    .exact .inl hf
    .exact .inr ⟨f,by simp,hf⟩
   .exact .inr ⟨g,by simp[hg],h1⟩
  .rcases hf with hf|hf<;>rw[hf]
   exact ha
  .rintro⟨g,hg,WZ⟩;rcases dJ.1 hg with rfl|hg
   .refine h2 ?_;unfold iK;split
    .rename_i h;exact(h.resolve_left WZ).1
    .rfl
   .exact h3 ⟨g,hg,WZ⟩
def GJ{y high:Int}{f:T'}(h:ew y high f=true):y<f.y+f.h:=by
 refine Classical.byContradiction λhn=>?_;have:nu ⟨f.y,f.y+f.h⟩ ⟨y,y+max high 1⟩=⟨0,0⟩:=by
  unfold nu;rw[ak];simp only;omega
 simp[ew,this]at h
def eR{l:List T'}{y high:Int}{s:Xr}(h:(cC l y high s).2=true):∃f∈l,y<f.y+f.h/\(cC l y high s).1=f.y+f.h:=by
 rcases(pY s (l.filter (ew y high)) (0,false)).1 with h1|⟨f,hf,h1⟩
 .unfold cC at h;rw[h1]at h;cases h
 .obtain⟨hl,hm⟩:=sD.1 hf;exact⟨f,hl,GJ hm,by unfold cC;rw[h1]⟩
def mA{l:List T'}{y high:Int}{s:Xr}(h:bM l y high s≠s):(cC l y high s).2=true:=by
 refine(pY s (l.filter (ew y high)) (0,false)).2.2 (Classical.byContradiction λhn=>h (wI λf hf=>Classical.byContradiction λhe=>hn ⟨f,hf,he⟩))
def gtJ(l:List T')(y:Int):Nat:=(l.filter λf=>decide (y<f.y+f.h)).length
def filter_lt{α:Type}{p q:α->Bool}(hpq:∀x,q x=true->p x=true):∀{l:List α},(l.filter q).length<=(l.filter p).length/\((∃x∈l,p x=true/\q x=false)->(l.filter q).length<(l.filter p).length)
 |[]=>by simp
 |a::l=>by
  obtain⟨h1,h2⟩:=filter_lt hpq (l:=l);cases hp:p a<;>cases hq:q a
  .simp only[List.filter_cons,hp,hq,fO,if_false];refine⟨h1,?_⟩;rintro⟨x,hx,h3,h4⟩;rcases dJ.1 hx with rfl|hx
   .rw[hp]at h3;cases h3
   .exact h2 ⟨x,hx,h3,h4⟩
  .rw[hpq a hq]at hp;cases hp
  .simp only[List.filter_cons,hp,hq,fO,if_false,if_true,YI];exact⟨by omega,λ_=>by omega⟩
  .simp only[List.filter_cons,hp,hq,if_true,YI];refine⟨by omega,?_⟩;rintro⟨x,hx,h3,h4⟩;rcases dJ.1 hx with rfl|hx
   .rw[hq]at h4;cases h4
   .have:=h2 ⟨x,hx,h3,h4⟩;omega
def mr{l:List T'}{y z:Int}(h:∃f∈l,y<f.y+f.h/\z=f.y+f.h):gtJ l z<gtJ l y:=by
 obtain⟨f,hf,h1,rfl⟩:=h;exact(filter_lt (p:=λg:T'=>decide (y<g.y+g.h)) (q:=λg:T'=>decide (f.y+f.h<g.y+g.h)) (λg hg=>by simp at hg|-;omega) (l:=l)).2 ⟨f,hf,by simpa using h1,by simp⟩
def mF(l:List T')(w high:Int)(s:Xr)(y:Int):Bool:=decide (w<=fj (bM l y high s))||decide (bM l y high s=s)
def j3(l:List T')(w high:Int)(s:Xr):Nat->Int->Int
 |0,y=>y
 |k+1,y=>if mF l w high s y then y else j3 l w high s k (cC l y high s).1
def fX(l:List T')(w high:Int)(s:Xr)(y:Int):Int:=j3 l w high s l.length y
def zC{l:List T'}{y high:Int}{s:Xr}(hl:∀f∈l,f.ok)(h:(cC l y high s).2=true):XU (cC l y high s).1:=by
 obtain⟨f,hf,_,e⟩:=eR h;obtain⟨_,⟨a1,a2⟩,_,b1,b2⟩:=hl f hf;rw[e];exact⟨by omega,by omega⟩
def tu(l:List T')(high y:Int)(s:Xr):V:=.agg [vI s.a,vI s.b,ax l,vI high,vI y]
def Eb(l:List T')(high y:Int)(s:Xr)(hl:l.length<=1000000)(WB:∀f∈l,f.ok)(hy:XU y)(hh:Bq high):aE prog 234 [tu l high y s] (aP (bM l y high s)):=λU=>by
 refine T0.q ?_;have hs:=aa.refl U;refine ag.mix 3 ?_;have e1:(ax l).cells=[ax l]:=rfl;have e2:(ax l).stays=true:=rfl;apply sR;simp only[go_sem,seval,SK,tu];refine al hs λi1 Z1 s1 a1 f1 _ hs=>?_;simp only[go_sem,seval];refine al hs λi2 Z2 s2 a2 f2 z2 hs=>?_;replace a1:=s2 _ _ a1;simp only[go_sem,seval,a1];refine pS rfl (DZ l y high s hl WB hy hh _) ?_;simp only[go_sem,seval,a2,aP];exact ai.pure (hs.ao z2) rfl
def LR(l:List T')(w high y:Int)(s:Xr)(hl:l.length<=1000000)(WB:∀f∈l,f.ok)(hy:XU y)(hh:Bq high)(X7:XU s.a/\XU s.b):aE prog 232 [tu l high y s,vI w] (.bool (mF l w high s y)):=λU=>by
 refine Wa.q ?_;have hs:=aa.refl U;refine ag.mix 5 ?_;have hb:=Eb l high y s hl WB hy hh;have hlen:=H9 (bM l y high s) (iQ WB X7).1 (iQ WB X7).2;unfold mF;generalize bM l y high s=b at*;have e1:(ax l).cells=[ax l]:=rfl;have e2:(ax l).stays=true:=rfl;apply sR;simp only[go_sem,seval,Ta,tu];refine al hs λi2 Z2 s2 a2 f2 _ hs=>?_;simp only[go_sem,seval,a2];refine pJ rfl hb ?_;apply sG;simp only[go_sem,seval];refine pJ rfl hlen ?_;by_cases h1:w<=fj b
 .have q:(w<=fj b)=True:=L' h1;apply sG;simp only[go_sem,seval,q];exact ai.pure hs (by simp)
 .have q:(w<=fj b)=False:=H' h1;apply sG;simp only[go_sem,seval,q,a2];refine pJ rfl hb ?_;obtain⟨b1,b2⟩:=b;obtain⟨s1,s2⟩:=s;apply sG;simp only[go_sem,seval,a2,aP];refine ai.pure hs ?_;by_cases h2:b1=s1<;>by_cases h3:b2=s2<;>simp[h2,h3]
def JG(l:List T')(w high y:Int)(s:Xr)(hl:l.length<=1000000)(WB:∀f∈l,f.ok)(hy:XU y)(hh:Bq high)(X7:XU s.a/\XU s.b):
 aE prog 180 [ax l,vI w,vI high,vI y,aP s] (.WC [aP (bM l (fX l w high s y) high s),vI (fX l w high s y)]):=λU=>by
 refine UQ.q ?_;have hs:=aa.refl U;refine ag.mix 13 ?_;have e1:(ax l).cells=[ax l]:=rfl;have e2:(ax l).stays=true:=rfl;apply sR;simp only[go_sem,seval,Qg,aP];refine al hs λi9 Z9 s9 a9 f9 _ hs=>?_;simp only[go_sem,seval];refine al hs λi10 Z10 Yt Xm f10 Zn hs=>?_;replace a9:=Yt _ _ a9;simp only[go_sem,seval,a9,e1,e2];refine al hs λi12 Y12 s12 a12 f12 z12 hs=>?_;obtain⟨n912,a9⟩:=WG a9 f12 s12;obtain⟨n1012,Xm⟩:=WG Xm f12 s12;simp only[go_sem,seval,a12];generalize ZQ:C' _ i12 _=Z12;replace a12:=XD ZQ;replace a9:=WQ ZQ n912 a9;replace Xm:=WQ ZQ n1012 Xm;replace hs:=Xz ZQ hs z12;obtain⟨z,hz⟩:∃z,z=fX l w high s y:=⟨_,rfl⟩
 rw[<-hz];refine ag.fP (λst=>∃J,st.U=J/\aa U J/\J i12=some ⟨303,5,[tu l high z s]⟩/\J i10=some ⟨219,2,[.agg [vI 0,vI 0]]⟩/\st.s 10=.ptr i10 0 0/\st.s 12=.ptr i12 0 0/\XU z)
  (λm st=>∃(y':Int) (k:Nat),m=gtJ l y'/\gtJ l y'<=k/\z=j3 l w high s k y'/\XU y'/\aa U st.U/\st.U i12=some ⟨303,5,[tu l high y' s]⟩/\st.U i10=some ⟨219,2,[.agg [vI 0,vI 0]]⟩/\st.s 1=vI w/\st.s 10=.ptr i10 0 0/\st.s 12=.ptr i12 0 0) (gtJ l y) ?_ ?_ ?_
 .exact⟨y,l.length,rfl,List.length_filter_le _ _,hz,hy,hs,a12,Xm,rfl,rfl,rfl⟩
 .rintro m ⟨S,J⟩ ⟨y',k,rfl,hk,hzk,hy',hs,b12,b10,k1,Zs,Zi⟩;simp only at hs b12 b10 k1 Zs Zi;refine ag.mix 13 ?_;rw[tu]at b12;apply sR;simp only[go_sem,seval,k1,Zi,b12];refine pR rfl (LR l w high y' s hl WB hy' hh X7 _) ?_;cases hf:mF l w high s y'
  .have WZ:bM l y' high s≠s:=λe=>by simp[mF,e]at hf
   have hfd:=mA WZ;have hdec:=mr (eR hfd);apply sR;simp only[go_sem,seval,Zi,b12];refine pS rfl (Hl l y' high s hl WB hy' hh _) ?_;simp only[go_sem,seval,k1,Zs,Zi,b12];obtain⟨k',rfl⟩:∃k',k=k'+1:=⟨k-1,by omega⟩
   rw[j3,hf]at hzk;refine⟨_,hdec,_,k',rfl,by omega,by simpa using hzk,zC WB hfd,hs.ao z12,rfl,?_⟩;rw[ab n1012];exact b10
  .have hzy:z=y':=by cases k<;>simp[j3,hf]at hzk<;>exact hzk
   subst hzy;apply sR;simp only[go_sem,seval,Zs,Zi];exact⟨J,rfl,hs,b12,b10,hy'⟩
 .rintro⟨S,J⟩ ⟨X',rfl,hs,b12,b10,Zs,Zi,hz2⟩;simp only at hs b12 b10 Zs Zi;rw[tu]at b12;refine mS 13 ?_;simp only[go_sem,seval];refine ag.tT (by kernel_rfl) [0,2,3,1,4,5] [[],[0],[],[2],[0,1],[0,1,2,3,4]] [0,4,6,2,7,8,7,10] (by kernel_rfl) (by kernel_rfl) ?_;refine cI (n:=0) [2,7,8,7,10] [0,4,6] [_,_,_] rfl rfl ?_;simp only[go_sem,seval,Zi,b12];refine reP rfl (Eb l high z s hl WB hz2 hh _) ?_;refine dy rfl (by simp only[go_sem,seval,b12]) ?_;refine cI (n:=0) [7,10] [8] [_] rfl rfl ?_;simp only[go_sem,seval,Zs,b10,aP];refine dy rfl (by simp only[go_sem,seval,b12,ab n1012.symm]) ?_;refine cI (n:=0) [] [10] [_] rfl rfl ?_;simp only[go_sem,seval];apply sR;simp only[go_sem,seval,Zs,af];exact ai.pure (hs.ao Zn) rfl
open Go.Proofs
def nD(e sz b:Nat):P':=⟨8,.seq (.reg false [⟨some 2,.mov (.c .aB),none⟩]) (.seq (.seq (.reg false [⟨some 3,.mov (.t 0),none⟩,⟨some 4,.binB false (.t 3) (.c (.iface 0 .undef)),none⟩]) (.cond (.t 4) (.seq (.reg false [⟨some 2,.mov (.c .aB),none⟩]) .ret) .skip)) (.seq (.reg false [⟨some 5,.gq e sz [],none⟩,⟨some 6,.mov (.t 0),none⟩,⟨some 7,.append e sz b (.t 5) (.t 6),none⟩,⟨some 2,.mov (.t 7),none⟩]) .ret)),[.tmp (.t 2)]⟩
def vE{P:Program}{f:FuncId}{fn:Func}(hf:P.funcs[f]?=some fn){e sz b:Nat}(hc:cfn P fn=some (nD e sz b))(hk:fE P f=true)(rows:List V)(hb:rows.length*(b+1)<=140737488355328)(U:ad):
 av P f [.sl sz rows] U λr Z'=>aa U Z'/\aq U Z' e sz r rows:=by
 refine av.mf hf hc hk (by simp[nD]) ?_;refine ag.mix 3 ?_
 (refine ag.bn Yi.nothing 8 ?_;simp only[go_sem,seval,me,nD])
 refine ag.GP rfl rfl rfl λt ht=>?_;cases t
 .apply sR;simp only[go_sem,seval];refine aj λid1 Z1 s1 a1 f1=>?_;obtain⟨idA,hd,WK⟩:=(aq.new (K:=U) (e:=e) (sz:=sz) (n:=0) (rows:=[]) rfl a1 f1).dst (aa.refl _);have hsrc:∀U,bc U sz (.sl sz rows)=some rows:=λU=>by simp[bc]
  simp only[go_sem,seval,hd,hsrc,hb];refine aX λid2 Z2 s2 a2 f2=>?_;have Zm:=(WK U (aa.refl _) Z1 s1).trans s2;simp only[go_sem,seval];exact XX ⟨Zm,aq.new (by simp) a2 (s1.none f2)⟩
 .apply sR;simp only[go_sem,seval];obtain rfl:rows=[]:=ht rfl;exact XX ⟨aa.refl _,aq.start⟩
def BM{P:Program}{f:FuncId}{fn:Func}(hf:P.funcs[f]?=some fn){e sz b:Nat}(hc:cfn P fn=some (nD e sz b))(hk:fE P f=true)(rows:List V)(hb:rows.length*(b+1)<=140737488355328):
 aE P f [.sl sz rows] (.sl sz rows):=λU=>(vE hf hc hk rows hb U).GW λ_ _ h=>h.2.ni h.1 rfl
def bU(l:List T'):(ax l).cells=[ax l]:=rfl
def bT(l:List T'):(ax l).stays=true:=rfl
def kC{tell:T'->Int×Bool}{l:List T'}(h:(cy tell l).2=true):∃f∈l,(cy tell l).1=(tell f).1/\(tell f).2=true:=by
 have key:∀(l:List T') (a:Int×Bool),l.foldl (gQ tell) a=a\/∃f∈l,l.foldl (gQ tell) a=((tell f).1,true)/\(tell f).2=true:=by
  intro l
  induction l with
  |nil=>intro a;exact .inl rfl
  |cons g l ih=>
   intro a;rw[gg];rcases ih (gQ tell a g)with h|⟨f,hf,h,h'⟩
   .rw[h];unfold gQ;split
    .rename_i hc;exact .inr ⟨g,by simp,rfl,hc.1⟩
    .exact .inl rfl
   .exact .inr ⟨f,by simp[hf],h,h'⟩
 rcases key l (0,false)with h1|⟨f,hf,h1,h2⟩
 .unfold cy at h;rw[h1]at h;cases h
 .exact⟨f,hf,by unfold cy;rw[h1],h2⟩
def kT(l:List T')(w high:Int)(s:Xr)(y:Int):Bool:=!(cC l y high s).2||decide (fj (bM l y high s)>=w)
def iH(l:List T')(w high:Int)(s:Xr):Nat->Int->Int
 |0,y=>y
 |k+1,y=>if kT l w high s y then y else iH l w high s k (cC l y high s).1
def qj(l:List T')(w high:Int)(s:Xr)(y:Int):Int:=iH l w high s l.length y
def CA(f:T')(l:List T')(s:Xr):V:=.agg [vI f.node,vI f.side,vI f.anchor,vI f.x,vI f.y,vI f.w,vI f.h,ax l,vI s.a,vI s.b]
def LP(l:List T')(f:T')(y:Int)(s:Xr)(hl:l.length<=1000000)(WB:∀f∈l,f.ok)(hy:XU y)(hh:Bq f.h)(X7:XU s.a/\XU s.b):
 aE prog 268 [CA f l s,vI y] (.WC [aP (bM l (qj l f.w f.h s y) f.h s),vI (qj l f.w f.h s y)]):=λU=>by
 refine VD.q ?_;have hs:=aa.refl U;refine mS 9 ?_;simp only[go_sem,seval,RG,CA];refine al hs λi2 Z2 s2 a2 f2 _ hs=>?_;simp only[go_sem,seval];refine al hs λi4 Z4 s4 a4 f4 z4 hs=>?_;replace a2:=s4 _ _ a2;simp only[go_sem,seval];obtain⟨z,hz⟩:∃z,z=qj l f.w f.h s y:=⟨_,rfl⟩
 rw[<-hz];refine ag.loop (λm st=>∃(y':Int) (k:Nat),m=gtJ l y'/\gtJ l y'<=k/\z=iH l f.w f.h s k y'/\XU y'/\aa U st.U/\st.U i2=some ⟨337,10,[CA f l s]⟩/\st.U i4=some ⟨219,2,[.agg [vI 0,vI 0]]⟩/\st.s 1=vI y'/\st.s 2=.ptr i2 0 0/\st.s 4=.ptr i4 0 0) (gtJ l y) ?_ ?_
 .exact⟨y,l.length,rfl,List.length_filter_le _ _,hz,hy,hs,a2,a4,rfl,rfl,rfl⟩
 .rintro m ⟨S,J⟩ ⟨y',k,rfl,hk,hzk,hy',hs,b2,b4,k1,k2,k4⟩;simp only at hs b2 b4 k1 k2 k4;refine ag.mix 9 ?_;rw[CA]at b2;have hb:=iQ (y:=y') (high:=f.h) WB X7;apply sR;simp only[go_sem,seval,k1,k2,b2];refine pS rfl (DZ l y' f.h s hl WB hy' hh _) ?_;simp only[go_sem,seval,aP];refine aj λi6 Z6 s6 a6 f6=>?_;have n26:=aQ b2 f6;have n46:=aQ b4 f6;replace b2:=s6 _ _ b2;replace b4:=s6 _ _ b4;obtain⟨z6,hs⟩:=nwZ hs f6 s6;simp only[go_sem,seval,a6,b2,k1,k2,ab n26];generalize hq:C' _ i6 _=Y6;have a6':=(congrFun hq i6).symm.trans af;have b2':=((congrFun hq i2).symm.trans (ab n26)).trans b2;have b4':=((congrFun hq i4).symm.trans (ab n46)).trans b4;replace hs:=Eq.subst (motive:=aa _) hq (hs.ao z6);refine pR rfl (Hl l y' f.h s hl WB hy' hh _) ?_;have hex:kT l f.w f.h s y'=true->z=y':=λh=>by cases k<;>simp[iH,h]at hzk<;>exact hzk
  have hlen:=H9 (bM l y' f.h s) hb.1 hb.2;have Zq:kT l f.w f.h s y'=false->∃k',k=k'+1/\gtJ l (cC l y' f.h s).1<gtJ l y'/\z=iH l f.w f.h s k' (cC l y' f.h s).1/\XU (cC l y' f.h s).1:=λh=>by
   have h2:(cC l y' f.h s).2=true:=by
    simp only[kT,Bool.or_eq_false_iff,Bool.not_eq_false']at h;exact h.1
   have hdec:=mr (eR h2);obtain⟨k',rfl⟩:∃k',k=k'+1:=⟨k-1,by omega⟩
   rw[iH,h]at hzk;exact⟨k',rfl,hdec,by simpa using hzk,zC WB h2⟩
  unfold kT at hex Zq;cases hn:(cC l y' f.h s).2
  .rw[hn]at hex;obtain rfl:=hex (by simp);apply sR;simp only[go_sem,seval,k1,k4,a6',b4'];exact ai.pure (hs.ao z4) rfl
  .rw[hn]at hex Zq;apply sR;simp only[go_sem,seval,a6'];refine pJ rfl hlen ?_;by_cases hw:fj (bM l y' f.h s)>=f.w
   .have q:(fj (bM l y' f.h s)>=f.w)=True:=L' hw;obtain rfl:=hex (by simp[hw]);apply sG;simp only[go_sem,seval,k1,k2,k4,a6',b4',b2',q];exact ai.pure (hs.ao z4) rfl
   .have q:(fj (bM l y' f.h s)>=f.w)=False:=H' hw;obtain⟨k',rfl,h1,h2,h3⟩:=Zq (by simp[hw]);apply sG;simp only[go_sem,seval,k2,k4,b4',b2',q];refine⟨_,h1,_,k',rfl,by omega,h2,h3,hs,?_⟩;exact⟨by rw[CA],rfl⟩
structure WOk(ws:List Int)(space:Int):Prop where
 len:ws.length<=100000
 rng:∀x∈ws,0<=x/\x<=1099511627776
 s0:0<=space
 s1:space<=1099511627776
def gT(space:Int):List Int->Nat->Int->List (Nat×Int)
 |[],_,_=>[]
 |x::r,k,n=>(k+1,n+space+x)::gT space r (k+1) (n+space+x)
def kZ(space width:Int):List Int->Nat->Int->Nat×Int
 |[],k,n=>(k,n)
 |x::r,k,n=>if n+space+x>width then(k,n)else kZ space width r (k+1) (n+space+x)
def iS(ws:List Int)(space width:Int)(i:Nat):Nat×Int:=kZ space width (ws.drop (i+1)) (i+1) (ws.getD i 0)
def sF(space width:Int):∀(r:List Int) (k:Nat) (n:Int),k<=(kZ space width r k n).1/\(kZ space width r k n).1<=k+r.length
 |[],k,n=>by simp[kZ]
 |x::r,k,n=>by
  rw[kZ];split
  .simp
  .have:=sF space width r (k+1) (n+space+x);simp only[YI];omega
def tD{ws:List Int}{space width:Int}{i:Nat}(h:i<ws.length):i<(iS ws space width i).1/\(iS ws space width i).1<=ws.length:=by
 have:=sF space width (ws.drop (i+1)) (i+1) (ws.getD i 0);rw[re]at this;unfold iS;omega
def WOk.get{ws:List Int}{space:Int}(h:WOk ws space){i:Nat}(hi:i<ws.length):0<=ws[i]/\ws[i]<=1099511627776:=h.rng _ (Xo hi)
def xC(l:List Int):Int:=l.foldl (·+·) 0
def foldl_add(l:List Int):∀a:Int,l.foldl (·+·) a=a+xC l:=by
 unfold xC
 induction l with
 |nil=>intro a;simp
 |cons x l ih=>intro a;simp only[gg];rw[ih (a+x),ih (0+x)];omega
def tA(a b:List Int):xC (a++b)=xC a+xC b:=by
 unfold xC;rw[kN,foldl_add];rfl
def uX(x:Int):xC [x]=x:=by simp[xC]
def jR(ws:List Int)(space:Int)(i j:Nat):Int:=((j:Int)-i-1)*space+xC ((ws.take j).drop i)
def Gl{ws:List Int}{space:Int}{i:Nat}(h:i<ws.length):jR ws space i (i+1)=ws[i]:=by
 unfold jR;rw[Yz h,CR (by simp;omega),List.drop_of_length_le (by rw[jb];omega),jE,uX];have:((i+1:Nat):Int)-i-1=0:=by omega
 rw[this];omega
def Dq{ws:List Int}{space:Int}{i j:Nat}(hij:i<=j)(h:j<ws.length):jR ws space i (j+1)=jR ws space i j+space+ws[j]:=by
 unfold jR;rw[Yz h,CR (by simp;omega),tA,uX];have:((j+1:Nat):Int)-i-1=((j:Int)-i-1)+1:=by omega
 rw[this,Int.add_mul];omega
def DJ{ws:List Int}{space width:Int}{i j:Nat}(hij:i<j):
 kZ space width (ws.drop j) j (jR ws space i j)=if j<ws.length/\jR ws space i (j+1)<=width then kZ space width (ws.drop (j+1)) (j+1) (jR ws space i (j+1))else(j,jR ws space i j):=by
 by_cases h:j<ws.length
 .rw[iT h,kZ,Dq (by omega) h];by_cases hw:jR ws space i j+space+ws[j]<=width
  .rw[au (by omega),ak ⟨h,hw⟩]
  .rw[ak (by omega),au (λhh=>hw hh.2)]
 .rw[List.drop_of_length_le (by omega),kZ,au (λhh=>h hh.1)]
open Go.Proofs
def ldI(U:ad)(l:List Int):bO U false 1 (.rp (aN l))=some (aN l):=rfl
def dq(l:List Int):(aN l).cells=[aN l]:=rfl
def iM(l:List Int):(aN l).stays=true:=rfl
def de{U:ad}{l:List Int}{i:Nat}(h:i<l.length):bp U 1 (aN l) (.int .i64 i)=some (.rp (vI l[i])):=by simp[aN,bp,h]
def cV(l:List Int):dv false (aN l)=some (.int .i64 l.length):=by simp[aN,dv]
def lj(ws:List Int)(space:Int):V:=.agg [aN ws,vI space]
def Ry(ws:List Int)(space:Int):jg false 0 1 (.rp (lj ws space))=some (.rp (aN ws)):=rfl
def Sc(ws:List Int)(space:Int):jg false 1 1 (.rp (lj ws space))=some (.rp (vI space)):=rfl
def BG(ws:List Int)(space:Int):(lj ws space).cells=[aN ws,vI space]:=rfl
def AB(ws:List Int)(space:Int):(lj ws space).stays=true:=rfl
def Pk(ws:List Int)(space i:Int):aE prog 284 [lj ws space,vI i] (.bool (decide (i<0\/i>=ws.length))):=λU=>by
 refine TS.q ?_;have hs:=aa.refl U;have hn:=cV ws;apply sR;simp only[go_sem,seval,SJ,lj];refine al hs λi2 Z2 s2 a2 f2 _ hs=>?_;by_cases h:i<0
 .have q:(i<0)=True:=L' h;simp only[go_sem,seval,q];exact ai.pure hs (by simp)
 .have q:(i<0)=False:=H' h;simp only[go_sem,seval,a2,q,hn];exact ai.pure hs (by simp)
def gC(l:List (Nat×Int)):List (List V):=l.map λp=>[vI p.1,vI p.2]
def GR(ws:List Int)(space:Int)(hw:WOk ws space)(i:Nat)(hi:i<ws.length):Iter prog 293 [.rp (lj ws space),.rp (vI i)] (gC (gT space (ws.drop i) i (0-space))):=by
 refine⟨Sg.c,λXk τ Jx Z0 hy hJ=>?_⟩;refine(Sg.q ?_).2;have Xn:=hw.s0;have X7:=hw.s1;have Yp:=hw.len;have hn:=cV ws;have r0:WI .i64 (0-space):=ae;refine mS 6 ?_;simp only[BB,seval,aZ,eD,aD,fW,Yi.nothing,Po,Sc,r0];refine ag.loop (λm st=>∃(pre:List (Nat×Int)) (j:Nat) (n:Int) (ZJ:ad),m=ws.length-j/\i<=j/\j<=ws.length/\-1099511627776<=n/\n<=2199023255552*j/\gT space (ws.drop i) i (0-space)=pre++gT space (ws.drop j) j n/\
  τ (gC pre) ZJ/\aa ZJ st.U/\st.s 0=.yl Xk/\st.s 1=.rp (lj ws space)/\st.s 4=vI n/\st.s 5=vI j) (ws.length-i) ?_ ?_
 .exact⟨[],i,0-space,Z0,rfl,by omega,by omega,by omega,by omega,rfl,hJ,aa.refl _,rfl,rfl,rfl,rfl⟩
 .rintro m ⟨s,Z'⟩ ⟨pre,j,n,ZJ,rfl,hij,hj,hn1,hn2,ZL,hJp,E',t0,t1,t4,t5⟩;simp only at E' t0 t1 t4 t5;refine ag.mix 6 ?_;by_cases B':j<ws.length
  .have q:=qT B';have hx:=hw.get B';have Wz:=λU=>de (U:=U) B';rw[iT B',gT]at ZL;generalize ws[j]=w at*;have r1:WI .i64 (space+w):=ae;have r2:WI .i64 (n+(space+w)):=ae;have r3:=rI j;have en:n+space+w=n+(space+w):=by omega
   rw[en]at ZL;have e:gC (gT space (ws.drop i) i (0-space))=gC pre++[vI ((j:Int)+1),vI (n+(space+w))]::gC (gT space (ws.drop (j+1)) (j+1) (n+(space+w))):=by rw[ZL];simp[gC]
   apply sR;simp only[BB,seval,aZ,eD,aD,dT,gW,Yi.nothing,t0,t1,t4,t5,hn,q,ldI,Ry,Sc,Wz,r1,r2,r3];refine ag.ny (Post:=λb Z2=>∃Xj,bb ZJ Z' Xj Z2/\((b=true/\τ (gC pre++[[vI ((j:Int)+1),vI (n+(space+w))]]) Xj)\/(b=false/\Jx (gC pre++[[vI ((j:Int)+1),vI (n+(space+w))]]) Xj))) rfl rfl rfl (hy _ _ _ ZJ Z' e hJp E') ?_;rintro b Z2 ⟨Xj,Ys,XT⟩;rcases XT with⟨rfl,XT⟩|⟨rfl,XT⟩
   .apply sR;simp only[go_sem,seval,t0,t1,t5,r3];refine⟨_,?_,pre++[(j+1,n+(space+w))],j+1,n+(space+w),Xj,rfl,by omega,by omega,by omega,by omega,by rw[ZL];simp,?_,Ys.1,by simp⟩
    .omega
    .simpa[gC]using XT
   .apply sR;simp only[go_sem,seval];refine⟨_,Xj,Ys.1,Wk.refl Ys.1 _,.inr ⟨_,?_,XT⟩⟩;rw[e];exact⟨gC (gT space (ws.drop (j+1)) (j+1) (n+(space+w))),by simp⟩
  .have q:=qF B';apply sR;simp only[BB,seval,aZ,eD,aD,dT,gW,jj,Yi.nothing,t1,t5,hn,q,ldI,Ry];rw[show ws.drop j=[]from List.drop_of_length_le (by omega),gT,iN]at ZL;exact⟨_,ZJ,E',Wk.refl E' _,.inl (by rw[ZL];exact hJp)⟩
def Oa(ws:List Int)(space:Int)(i:Int):aE prog 285 [lj ws space,vI i] (.fn 293 [.rp (lj ws space),.rp (vI i)]):=λU=>by
 refine Uh.q ?_;refine ag.mix 4 ?_;have q1:=BG ws space;have q2:=AB ws space;have q3:(lj ws space).cells.length=2:=rfl;generalize hx:lj ws space=x at*;apply sR;simp only[go_sem,seval,O9,q1,q2];refine aj λid1 Z1 s1 a1 f1=>?_;simp only[go_sem,seval];refine aj λid2 Z2 s2 a2 f2=>?_;simp only[go_sem,seval];exact⟨_,U,s1.trans s2,Wk.fn (vs':=[.rp x,.rp (vI i)]) ⟨Wk.ptr (s1.trans s2) (s2 _ _ a1) f1,Wk.ptr (s1.trans s2) a2 (s1.none f2),trivial⟩,rfl,rfl⟩
open Go.Proofs
def sK(i j n:Int):V:=.agg [vI i,vI j,vI n]
structure TkJ(ws:List Int)(space width:Int)(i:Nat)(U:ad)(id6 id7 id8 id10:Nat)(pre:List (List V))(v:V)(ZJ:ad):Prop where
 sub:aa U ZJ
 r8:ZJ id8=some ⟨315,3,[.agg [vI 0,vI 0,vI 0]]⟩
 r6:ZJ id6=some ⟨3,1,[vI width]⟩
 r7:ZJ id7=some ⟨3,1,[vI i]⟩
 r10:ZJ id10=some ⟨315,3,[v]⟩
 st:(pre=[]/\v=.agg [vI 0,vI 0,vI 0])\/∃n:Int,0<pre.length/\i+pre.length<=ws.length/\gC (gT space (ws.drop i) i (0-space))=pre++gC (gT space (ws.drop (i+pre.length)) (i+pre.length) n)/\
  iS ws space width i=kZ space width (ws.drop (i+pre.length)) (i+pre.length) n/\v=.agg [vI i,vI (i+pre.length:Nat),vI n]
def KQ(ws:List Int)(space width:Int)(hw:WOk ws space)(i:Nat)(hi:i<ws.length):aE prog 261 [aN ws,vI space,vI width,vI i] (sK i (iS ws space width i).1 (iS ws space width i).2):=λU=>by
 refine U5.q ?_;have hs:=aa.refl U;have Yp:=hw.len;refine mS 13 ?_;simp only[go_sem,seval,So];refine al hs λi6 Z6 s6 a6 f6 _ hs=>?_;simp only[go_sem,seval];refine al hs λi7 Z7 s7 a7 f7 _ hs=>?_;replace a6:=s7 _ _ a6;simp only[go_sem,seval];refine al hs λi8 Z8 s8 a8 f8 z8 hs=>?_;replace a6:=s8 _ _ a6;replace a7:=s8 _ _ a7;simp only[go_sem,seval,dq,iM];refine al hs λi9 Z9 s9 a9 f9 z9 hs=>?_;obtain⟨n69,a6⟩:=WG a6 f9 s9;obtain⟨n79,a7⟩:=WG a7 f9 s9;obtain⟨n89,a8⟩:=WG a8 f9 s9;simp only[go_sem,seval,a9,a7,ab n79];generalize Xw:C' _ i9 _=Y9;replace a9:=XD Xw;replace a6:=WQ Xw n69 a6;replace a7:=WQ Xw n79 a7;replace a8:=WQ Xw n89 a8;replace hs:=Xz Xw hs z9;have hf:=Pk ws space i;rw[show decide ((i:Int)<0\/(i:Int)>=ws.length)=false by simp;omega]at hf;refine pS rfl (hf _) ?_;simp only[go_sem,seval];refine al hs λi10 Z10 Yt Xm f10 Zn hs=>?_;obtain⟨n610,a6⟩:=WG a6 f10 Yt;obtain⟨n710,a7⟩:=WG a7 f10 Yt;obtain⟨n810,a8⟩:=WG a8 f10 Yt;replace a9:=Yt _ _ a9;simp only[go_sem,seval,a9,a7];refine pS rfl (Oa ws space i _) ?_;simp only[go_sem,seval];generalize hS:mix 13 _ _=S;have S6:S 6=.ptr i6 0 0:=by rw[<-hS];rfl
 have S7:S 7=.ptr i7 0 0:=by rw[<-hS];rfl
 have S8:S 8=.ptr i8 0 0:=by rw[<-hS];rfl
 have S10:S 10=.ptr i10 0 0:=by rw[<-hS];rfl
 have S22:S 22=.fn 293 [.rp (lj ws space),.rp (vI i)]:=by rw[<-hS];rfl
 clear hS;have hit:=GR ws space hw i hi;have hdr:ws.drop i=ws[i]::ws.drop (i+1):=iT hi;have hgd:ws.getD i 0=ws[i]:=by simp[hi]
 have fin:∀(J:ad) (w:V),aa U J->J i8=some ⟨315,3,[.agg [vI 0,vI 0,vI 0]]⟩->J i10=some ⟨315,3,[sK i (iS ws space width i).1 (iS ws space width i).2]⟩->
  ag prog 39 [It.code (.seq (.reg false [⟨some 38,.load true 3 (.t 10),none⟩,⟨none,.store 3 (.t 8) (.t 38),none⟩]) .ret)] ⟨S,J⟩ (λst=>Ret [VR.cell true 3 (VX.t 8)] st λr Z'=>r=sK i (iS ws space width i).1 (iS ws space width i).2/\Z'=U):=by
  intro J w h1 h2 h3;refine ag.mix 13 ?_;rw[sK]at h3;apply sR;simp only[go_sem,seval,S8,S10,h2,h3];exact ai.pure (h1.ao z8) rfl
 refine ag.eN (g:=.t 22) (caps:=[.rp (lj ws space),.rp (vI i)]) S22 hit (λx hx=>?_) [0] (λpre ZJ=>∃v,TkJ ws space width i U i6 i7 i8 i10 pre v ZJ)
  (λe pre ZJ=>e=some 0/\aa U ZJ/\ZJ i8=some ⟨315,3,[.agg [vI 0,vI 0,vI 0]]⟩/\ZJ i10=some ⟨315,3,[sK i (iS ws space width i).1 (iS ws space width i).2]⟩) ?_ ?_ ?_ ?_ ?_
 .obtain⟨t,_,rfl⟩:=gb.1 hx;rfl
 .exact⟨_,hs,a8,a6,a7,Xm,.inl ⟨rfl,rfl⟩⟩
 .rintro pre x post ZJ ZB ZL ⟨v,τ⟩ E';have b6:=E' _ _ τ.r6;have b7:=E' _ _ τ.r7;have b10:=E' _ _ τ.r10;rcases τ.st with⟨rfl,rfl⟩|⟨n,hp,ZE,hr,W4,rfl⟩
  .obtain rfl:x=[vI ((i:Int)+1),vI ws[i]]:=by
    rw[hdr]at ZL;simp only[gT,gC,eV,jE,List.cons.injEq]at ZL;rw[<-ZL.1];simp only[Int.sub_add_cancel,Int.zero_add];rw[show((i+1:Nat):Int)=(i:Int)+1 by omega]
   refine ag.mix 13 ?_;generalize Zg:nh S [23,24] _=S0;have T7:S0 7=.ptr i7 0 0:=by rw[<-Zg];exact S7
   have T10:S0 10=.ptr i10 0 0:=by rw[<-Zg];exact S10
   have T23:S0 23=vI ((i:Int)+1):=by rw[<-Zg];rfl
   have T24:S0 24=vI ws[i]:=by rw[<-Zg];rfl
   clear Zg;have r1:=rI i;have q:((i:Int)+1>(i:Int)+1)=False:=H';apply sR;simp only[go_sem,seval,T23,T24];apply sR;simp only[go_sem,seval,T7,T10,b7,b10,r1,q];refine⟨_,(bb.refl E').set τ.r10,_,τ.sub.ao Zn,by rw[ab n810];exact τ.r8,by rw[ab n610];exact τ.r6,by rw[ab n710];exact τ.r7,af,.inr ⟨ws[i],by simp,by simp;omega,?_,?_,?_⟩⟩
   .rw[hdr,gT];simp only[Int.sub_add_cancel,Int.zero_add,gC,eV,jE,YI,List.length_nil,List.cons_append];rw[show((i+1:Nat):Int)=(i:Int)+1 by omega]
   .unfold iS;rw[hgd];rfl
   .simp
  .have B':i+pre.length<ws.length:=by
    rcases Nat.lt_or_ge (i+pre.length) ws.length with h|h
    .exact h
    .exfalso;rw[List.drop_of_length_le h]at hr;rw[hr]at ZL;have:=congrArg List.length ZL;simp[gT,gC]at this
   have hd2:ws.drop (i+pre.length)=ws[i+pre.length]::ws.drop (i+pre.length+1):=iT B';obtain rfl:x=[vI ((i:Int)+pre.length+1),vI (n+space+ws[i+pre.length])]:=by
    rw[hr,hd2]at ZL;have h2:=List.append_cancel_left ZL;simp only[gT,gC,eV,List.cons.injEq]at h2;rw[<-h2.1];rw[show((i+pre.length+1:Nat):Int)=(i:Int)+pre.length+1 by omega]
   rw[hd2,kZ]at W4;refine ag.mix 13 ?_;generalize Zg:nh S [23,24] _=S0;have T6:S0 6=.ptr i6 0 0:=by rw[<-Zg];exact S6
   have T7:S0 7=.ptr i7 0 0:=by rw[<-Zg];exact S7
   have T10:S0 10=.ptr i10 0 0:=by rw[<-Zg];exact S10
   have T23:S0 23=vI ((i:Int)+pre.length+1):=by rw[<-Zg];rfl
   have T24:S0 24=vI (n+space+ws[i+pre.length]):=by rw[<-Zg];rfl
   clear Zg;have r1:=rI i;have q:((i:Int)+pre.length+1>(i:Int)+1)=True:=L';apply sR;simp only[go_sem,seval,T23,T24];by_cases hw2:n+space+ws[i+pre.length]>width
   .have q2:(n+space+ws[i+pre.length]>width)=True:=L' hw2;rw[ak hw2]at W4;apply sR;simp only[go_sem,seval,T6,T7,b6,b7,r1,q,q2];refine⟨_,bb.refl E',τ.sub,τ.r8,?_⟩;rw[τ.r10,W4];rfl
   .have q2:(n+space+ws[i+pre.length]>width)=False:=H' hw2;rw[au hw2]at W4;apply sR;simp only[go_sem,seval,T6,T7,T10,b6,b7,b10,r1,q,q2];have hpl2:(pre++[[vI ((i:Int)+pre.length+1),vI (n+space+ws[i+pre.length])]]).length=pre.length+1:=by simp
    refine⟨_,(bb.refl E').set τ.r10,_,τ.sub.ao Zn,by rw[ab n810];exact τ.r8,by rw[ab n610];exact τ.r6,by rw[ab n710];exact τ.r7,af,.inr ⟨n+space+ws[i+pre.length],by omega,by omega,?_,?_,?_⟩⟩
    .rw[hr,hd2,hpl2,gT];simp only[gC,eV,lh,List.cons_append,jE];rw[show((i+pre.length+1:Nat):Int)=(i:Int)+pre.length+1 by omega];rfl
    .rw[hpl2];exact W4
    .rw[hpl2,show((i+(pre.length+1):Nat):Int)=(i:Int)+pre.length+1 by omega]
 .rintro Z' ⟨v,τ⟩;rcases τ.st with⟨h0,rfl⟩|⟨n,hp,ZE,hr,W4,rfl⟩
  .exfalso;rw[hdr]at h0;simp[gT,gC]at h0
  .have he:gC (gT space (ws.drop (i+(gC (gT space (ws.drop i) i (0-space))).length)) (i+(gC (gT space (ws.drop i) i (0-space))).length) n)=[]:=by
    have:=congrArg List.length hr;rw[gn]at this;exact rf (by omega)
   generalize (gC (gT space (ws.drop i) i (0-space))).length=p at*;have hd:ws.drop (i+p)=[]:=by
    cases h:ws.drop (i+p)with
    |nil=>rfl
    |cons a b=>rw[h]at he;simp[gT,gC]at he
   rw[hd,kZ]at W4;refine ag.inBlock (fin Z' .aB τ.sub τ.r8 ?_);rw[τ.r10,W4];rfl
 .intro id M' pre Z' _ ⟨h0,h1,h2,h3⟩;obtain rfl:id=0:=by simpa using M'
  refine ag.exit rfl ?_;exact fin Z' .aB h1 h2 h3
 .rintro pre Z' _ ⟨h0,_⟩;cases h0
open Go.Proofs
def kX(p:Pn)(n:Int):Pn:=⟨if n>0 then p.y+p.m+n else p.y,if n>0 then 0 else p.m⟩
def dF(p:Pn)(mg n:Int):Pn:=kX ⟨p.y,max p.m mg⟩ n
def j9(p:Pn)(mg n:Int):Pn:=⟨(kX p n).y,max (kX p n).m mg⟩
def Em(p:Pn)(mg n:Int)(h1:Bq p.y)(h2:Bq p.m)(h3:Bq mg)(h4:Bq n):aE prog 175 [di p,vI mg,vI n] (di (dF p mg n)):=λU=>by
 refine Us.q ?_;have hs:=aa.refl U;refine mS 10 ?_;simp only[go_sem,seval,SW,di];refine al hs λi3 Z3 s3 a3 f3 _ hs=>?_;simp only[go_sem,seval];refine al hs λi6 Z6 s6 a6 f6 z6 hs=>?_;replace a3:=s6 _ _ a3;simp only[go_sem,seval,a3];refine al hs λi7 Z7 s7 a7 f7 z7 hs=>?_;obtain⟨n37,a3⟩:=WG a3 f7 s7;obtain⟨n67,a6⟩:=WG a6 f7 s7;simp only[go_sem,seval,a7];generalize Yl:C' _ i7 _=Y7;replace a7:=XD Yl;replace a3:=WQ Yl n37 a3;replace a6:=WQ Yl n67 a6;replace hs:=Xz Yl hs z7;refine Yn rfl (E8 p.y p.m mg a7) ?_;rintro r Z1 ⟨rfl,rfl⟩;apply sR;simp only[go_sem,seval];have hm:Bq (max p.m mg):=by obtain⟨g1,g2⟩:=h2;obtain⟨g3,g4⟩:=h3;exact⟨by omega,by omega⟩
 refine Yn rfl (MV p.y (max p.m mg) n h1 hm h4 af) ?_;rintro r Z2 ⟨rfl,rfl⟩;apply sR;simp only[go_sem,seval,a6,ab n67];exact ai.pure ((hs.ao z7).ao z6) rfl
def ET(p:Pn)(mg n:Int)(h1:Bq p.y)(h2:Bq p.m)(h3:Bq mg)(h4:Bq n):aE prog 176 [di p,vI mg,vI n] (di (j9 p mg n)):=λU=>by
 refine VP.q ?_;have hs:=aa.refl U;refine mS 10 ?_;simp only[go_sem,seval,Qb,di];refine al hs λi3 Z3 s3 a3 f3 _ hs=>?_;simp only[go_sem,seval];refine al hs λi6 Z6 s6 a6 f6 z6 hs=>?_;replace a3:=s6 _ _ a3;simp only[go_sem,seval,a3];refine al hs λi7 Z7 s7 a7 f7 z7 hs=>?_;obtain⟨n37,a3⟩:=WG a3 f7 s7;obtain⟨n67,a6⟩:=WG a6 f7 s7;simp only[go_sem,seval,a7];generalize Yl:C' _ i7 _=Y7;replace a7:=XD Yl;replace a3:=WQ Yl n37 a3;replace a6:=WQ Yl n67 a6;replace hs:=Xz Yl hs z7;refine Yn rfl (MV p.y p.m n h1 h2 h4 a7) ?_;rintro r Z1 ⟨rfl,rfl⟩;apply sR;simp only[go_sem,seval];refine Yn rfl (E8 _ _ mg af) ?_;rintro r Z2 ⟨rfl,rfl⟩;apply sR;simp only[go_sem,seval,a6,ab n67];exact ai.pure ((hs.ao z7).ao z6) rfl
structure Ln where
 (fr to x y w:Int)
deriving DecidableEq
def jm(l:Ln):V:=.agg [vI l.fr,vI l.to,vI l.x,vI l.y,vI l.w]
def lZ(fs:List T')(ws:List Int)(space high:Int)(i:Nat)(y:Int)(s:Xr):Ln:=
 let W3:=fX fs (ws.getD i 0) high s y
 let b:=bM fs W3 high s
 let t:=iS ws space (fj b) i
 ⟨i,t.1,b.a,W3,t.2⟩
def LF(fs:List T')(ws:List Int)(space high:Int)(i:Nat)(y:Int)(s:Xr)(hl:fs.length<=1000000)(WB:∀f∈fs,f.ok)(hy:XU y)(hh:Bq high)(X7:XU s.a/\XU s.b)(hw:WOk ws space)(hi:i<ws.length):
 aE prog 230 [ax fs,aN ws,vI space,vI high,vI i,vI y,aP s] (jm (lZ fs ws space high i y s)):=λU=>by
 refine U6.q ?_;have hs:=aa.refl U;have hn:=cV ws;have Wz:=λU=>de (U:=U) hi;have q0:((i:Int)<0)=False:=H';have q1:((i:Int)>=ws.length)=False:=H';refine mS 18 ?_;simp only[go_sem,seval,Rl,aP];refine al hs λi13 Z13 s13 XM f13 _ hs=>?_;simp only[go_sem,seval];refine al hs λi14 Z14 s14 a14 f14 z14 hs=>?_;replace XM:=s14 _ _ XM;simp only[go_sem,seval,XM,hn,Wz,q0,q1];have hgd:ws.getD i 0=ws[i]:=by simp[hi]
 obtain⟨W3,Yg⟩:∃a,a=fX fs ws[i] high s y:=⟨_,rfl⟩
 have YU:=JG fs ws[i] high y s hl WB hy hh X7;rw[<-Yg]at YU;have hbo:=iQ (y:=W3) (high:=high) WB X7;unfold lZ;rw[hgd];simp only;rw[<-Yg];obtain⟨b,hb⟩:∃b,b=bM fs W3 high s:=⟨_,rfl⟩
 rw[<-hb]at YU hbo|-;refine pJ rfl YU ?_;apply sG;simp only[go_sem,seval,aP];refine vS hs λi15 Y15 s15 a15 f15 z15 hs=>?_;obtain⟨n1315,XM⟩:=WG XM f15 s15;obtain⟨n1415,a14⟩:=WG a14 f15 s15;simp only[go_sem,seval,a15];generalize YQ:C' _ i15 _=Z15;replace a15:=XD YQ;replace XM:=WQ YQ n1315 XM;replace a14:=WQ YQ n1415 a14;replace hs:=Xz YQ hs z15;refine pS rfl (H9 b hbo.1 hbo.2 _) ?_;simp only[go_sem,seval];refine pS rfl (KQ ws space (fj b) hw i hi _) ?_;simp only[go_sem,seval,sK];refine al hs λi17 Y17 s17 a17 f17 z17 hs=>?_;obtain⟨n1317,XM⟩:=WG XM f17 s17;obtain⟨n1417,a14⟩:=WG a14 f17 s17;obtain⟨n1517,a15⟩:=WG a15 f17 s17;simp only[go_sem,seval,a17,a15,a14,ab n1417,ab n1517];exact ai.pure ((hs.ao z17).ao z14) rfl
open Go.Proofs
def aq.mE{K ZJ Z1:ad}{e sz:Nat}{v:V}{rows:List V}(h:aq K ZJ e sz v rows)(hs:aa ZJ Z1):
 ∃idA,bC Z1 e sz v=some (rows,idA)/\(∀K':ad,aa K' K->∀Z2,aa K' Z2->aa K' (Vc.bz Z2 idA))/\(∀i o,ZJ i=some o->(o.elem≠e\/o.sz≠sz)->∀Z2:ad,Vc.bz Z2 idA i=Z2 i)/\(∀i,ZJ i=none->∀Z2:ad,Vc.bz Z2 idA i=Z2 i):=by
 rcases h with⟨rfl,rfl⟩|⟨id,rfl,ho,hk⟩
 .exact⟨none,rfl,λ_ _ _ h=>h,λ_ _ _ _ _=>rfl,λ_ _ _=>rfl⟩
 .refine⟨some id,?_,λK' hK Z2 h=>h.pI (hK.none hk),λi o hi WZ Z2=>?_,λi hi Z2=>?_⟩
  .simp only[bC,hs _ _ ho];rw[ak ⟨trivial,trivial,trivial,Xc _⟩,dR]
  .refine cA λe'=>?_;subst e';rw[ho]at hi;injection hi with hi;subst hi;rcases WZ with h|h<;>exact h rfl
  .refine cA λe'=>?_;subst e';rw[ho]at hi;cases hi
def tt{l:List T'}{w high B:Int}{s:Xr}(hB:∀f∈l,f.y+f.h<=B):∀(k:Nat) (y:Int),y<=j3 l w high s k y/\j3 l w high s k y<=max y B
 |0,y=>by simp only[j3];omega
 |k+1,y=>by
  rw[j3];split
  .omega
  .rename_i hf;have WZ:bM l y high s≠s:=λe=>hf (by simp[mF,e]);obtain⟨f,hm,h1,h2⟩:=eR (mA WZ);have:=tt hB k (cC l y high s).1 (w:=w) (high:=high) (s:=s);have:=hB f hm;omega
def eS{l:List T'}{w high B y:Int}{s:Xr}(hB:∀f∈l,f.y+f.h<=B):y<=fX l w high s y/\fX l w high s y<=max y B:=tt hB _ _
def cz(fs:List T')(ws:List Int)(space high:Int)(s:Xr):Nat->Nat->Int->List Ln
 |0,_,_=>[]
 |k+1,i,y=>if i<ws.length then lZ fs ws space high i y s::cz fs ws space high s k (lZ fs ws space high i y s).to.toNat ((lZ fs ws space high i y s).y+high)else[]
def jq(fs:List T')(ws:List Int)(space high:Int)(s:Xr):∀(k i:Nat) (y:Int),(cz fs ws space high s k i y).length<=k
 |0,_,_=>by simp[cz]
 |k+1,i,y=>by
  rw[cz];split
  .have:=jq fs ws space high s k (lZ fs ws space high i y s).to.toNat ((lZ fs ws space high i y s).y+high);simp only[YI];omega
  .simp
def sH(l:Ln):(jm l).cells=[vI l.fr,vI l.to,vI l.x,vI l.y,vI l.w]:=rfl
def sP(l:Ln):(jm l).stays=true:=rfl
def j0(l:List Ln):V:=.sl 5 (l.map jm)
variable {P:Program} {n:Nat} {st:St} {Q:St->Prop} {k:List It}
def pL(D:List (List Nat))(S:List Nat)(s:Nat):List (List Nat):=(List.range D.length).map λi=>if S.contains i&&!(i==s)then s::D.getD i []else D.getD i []
def Ao{D:List (List Nat)}{S:List Nat}{s:Nat}:(pL D S s).length=D.length:=by simp[pL]
def BQ{D:List (List Nat)}{S:List Nat}{s i:Nat}:(pL D S s).getD i []=if i<D.length/\i∈S/\i≠s then s::D.getD i []else D.getD i []:=by
 unfold pL;rw[sc,xc];by_cases hi:i<D.length
 .rw[List.getElem?_range hi];by_cases hs:i∈S
  .by_cases he:i=s
   .simp[he]
   .simp[hi,hs,he]
  .simp[hs]
 .have h1:(List.range D.length)[i]?=none:=xi (by simpa using hi);rw[h1,au (λh=>hi h.1)];simp[xi (show D.length<=i by omega)]
def CK{D:List (List Nat)}{S:List Nat}{s i:Nat}(h:i∉S\/i=s):(pL D S s).getD i []=D.getD i []:=by
 rw[BQ,au];rintro⟨_,h1,h2⟩;exact h.elim (λh=>h h1) h2
def tN{D:List (List Nat)}{S:List Nat}{s:Nat}{L:List Nat}(hp:s∈L):ef (pL D S s) L=ef D L:=by
 unfold ef;rw[Ao];refine List.filter_congr λi hi=>?_;rw[BQ];split
 .simp[hp]
 .rfl
def uK{l:List aC}{D:List (List Nat)}{S:List Nat}{s:Nat}{K:St->Prop}:∀(f:Nat) (L:List Nat) (y:St),s∈L->jk P l (pL D S s) K f L y->jk P l D K f L y
 |0,L,y,hp,h=>⟨by rw[<-tN hp];exact h.1,h.2⟩
 |f+1,L,y,hp,h=>by
  unfold jk at h|-;rw[tN hp]at h;cases hr:ef D L with
  |nil=>rw[hr]at h;exact h
  |cons a r=>
   rw[hr]at h;refine qp λi hi=>?_;obtain⟨ins,h1,h2⟩:=oe h i hi;exact⟨ins,h1,TC.mono (λx hx=>uK f _ x (by simp[hp]) hx) h2⟩
def xQ{l:List aC}{K:St->Prop}{b:List Nat}:∀{a:List Nat},RE P l K (a++b)=RE P l (RE P l K b) a
 |[]=>rfl
 |m::a=>by
  funext x;rw[List.cons_append,RE,RE,xQ]
def oX{l:List aC}{W5:List (List Nat)}{b:List Nat}:∀{a done:List Nat},eM l W5 done (a++b)=eM l W5 done a++eM l W5 (done++a) b
 |[],done=>by simp[eM]
 |e::a,done=>by
  rw[List.cons_append,eM,eM,oX];simp
def RE.mono{l:List aC}{K K':St->Prop}(hk:∀x,K x->K' x):∀{a:List Nat} {x:St},RE P l K a x->RE P l K' a x
 |[],x,h=>hk x h
 |m::a,x,h=>by
  rw[RE]at h|-;cases hm:l[m/2]? with
  |none=>rw[hm]at h;exact h.elim
  |some i=>
   rw[hm]at h;simp only at h|-;split at h<;>rename_i he
   .rw[ak he];exact TC.mono (λx hx=>RE.mono hk hx) h
   .rw[au he];exact⟨h.1,RE.mono hk h.2⟩
structure FN(l:List aC)(D W5:List (List Nat))(pre tail S:List Nat)(befs:Nat->List (List Nat)):Prop where
 e:EOkW l D W5 (pre++tail)
 Zj:∀a b x y,pre++tail=a++b->x∈a->y∈b->x∈pre->dL l W5 x=true->x∈fA W5 y
 sub:∀s∈S,s∈tail
 some:∃s,s∈S
 later:∀i∈tail,i∉S->∃s∈S,s∈fA W5 i
 agree:∀s∈S,∀i∈pre,dL l (befs s) i=dL l W5 i
section
variable {l:List aC} {D W5:List (List Nat)} {pre tail S:List Nat} {befs:Nat->List (List Nat)} {K:St->Prop} {Ks:Nat->St->Prop} (hF:FN l D W5 pre tail S befs)
include hF
def kD.QW{L:List Nat}{y:St}:∀{rest done:List Nat} {x:St},kD P l D W5 pre K L y done rest x->
 ∃done' rest' x',kD P l D W5 pre K L y done' rest' x'/\∀h r,rest'=h::r->dL l W5 h=true
 |[],done,x,h=>⟨done,[],x,h,by simp⟩
 |e::rest,done,x,h=>by
  have hE:=hF.e;cases heff:dL l W5 e with
  |true=>exact⟨done,e::rest,x,h,λa r he=>by cases he;exact heff⟩
  |false=>
   have hel:e<l.length:=hE.lt e (by rw[h.split];simp);obtain⟨hk,hself⟩:=iG heff hel (hE.oG hel);have XO:=(List.nodup_append.1 hE.nodup).1;rw[h.split]at XO;have hed:e∉done:=λhm=>(List.nodup_append.1 XO).2.2 e hm e (by simp) rfl;have heL:e∉L:=λhm=>hed (h.sub e hm);have Zq:=h.go;rw[eM,ES hel,Fu,au (by simp[heff]),jE]at Zq;have hT:T P (bt l e) x (RE P l K (eM l W5 (done++[e]) rest)):=by
    rcases Zq with Zq|⟨_,Zq⟩
    .exact Zq
    .exfalso;revert Zq hk;generalize (bt l e).op=op;intro hk Zq;split at Zq
     .simp[aZ]at hk
     .simp[aZ]at hk
     .simp[aZ]at hk
     .exact Zq
   obtain⟨v,hv,hgo'⟩:=(cD (by simp[gi,hk])).1 hT;refine kD.QW (rest:=rest) (done:=done++[e]) (x:=⟨aO x.s (bt l e).dst v,x.U⟩) ⟨by rw[h.split];simp,λi hi=>by simp[h.sub i hi],h.nodup,h.closed,λi hi YP=>?_,h.store,λd hd=>?_,λi hi hiL=>?_,hgo'⟩
   .rcases dH.1 hi with hi|hi
    .exact h.Zj i hi YP
    .simp only[ja]at hi;rw[hi,heff]at YP;cases YP
   .have h1:=h.slot d λi hi hiL=>hd i (by simp[hi]) hiL;have h2:=hd e (by simp) heL;rw[h1];simp only;cases hde:(bt l e).dst with
    |none=>rfl
    |some d'=>
     rw[hde]at h2;simp only[aO];rw[au (λe'=>h2 (by rw[e']))]
   .by_cases YP:i=e
    .subst YP;unfold QYd;cases hd:(bt l i).dst with
     |none=>exact⟨v,hv⟩
     |some d=>
      simp only;have e1:aO x.s (some d) v d=v:=by simp[aO]
      rw[e1];exact(gr (λt ht=>by cases ht;exact hself d hd)).2 hv
    .have M':i∈done:=by
      rcases dH.1 hi with hi|hi
      .exact hi
      .simp only[ja]at hi;exact absurd hi YP
     have Yv:i<l.length:=hE.lt i (by rw[h.split];simp[M']);refine uF hE Yv hel YP (λd hd hu=>?_) (λv hv=>hv) (h.lag i M' hiL);rcases hE.anti i e Yv hel YP d hd hu with h1|⟨h1,_⟩
     .obtain⟨a,b,hab⟩:=List.append_of_mem M';have h2:=hE.mZ (a:=a) (j:=i) (b:=b++e::rest++tail) (by rw[h.split,hab];simp) e h1;exact hed (by rw[hab];simp[h2])
     .rw[heff]at h1;cases h1
def Dy(hH:∀s∈S,∀(f:Nat) (L:List Nat) (y:St) (done rest:List Nat) (x:St),f+L.length=l.length->kD P l (pL D S s) (befs s) pre (Ks s) L y done rest x->jk P l (pL D S s) K f L y):
 ∀(f:Nat) (L:List Nat) (y:St) (done rest:List Nat) (x:St),f+L.length=l.length->(∀s∈S,s∉L)->kD P l D W5 pre (λx=>∀s∈S,Ks s x) L y done rest x->jk P l D K f L y:=by
 have hE:=hF.e;obtain⟨s0,Xn⟩:=hF.some;have B':∀s∈S,s<l.length:=λs hs=>hE.lt s (by simp[hF.sub s hs]);have hpre:∀s∈S,s∉pre:=λs hs hm=>(List.nodup_append.1 hE.nodup).2.2 s hm s (hF.sub s hs) rfl;intro f
 induction f with
 |zero=>
  intro L y done rest x hf hSL h;exact absurd ((xp l.length L h.nodup λi hi=>hE.lt i (by rw[h.split];simp[h.sub i hi])).2 (by omega) s0 (B' s0 Xn)) (hSL s0 Xn)
 |succ f ih=>
  intro L y done rest x hf hSL h;obtain⟨done,rest,x,h,hhead⟩:=kD.QW hF h;have XO:=(List.nodup_append.1 hE.nodup).1;rw[h.split]at XO;have hdp:∀i∈done,i∈pre:=λi hi=>by rw[h.split];simp[hi]
  have Yj:∀m∈L,∀d∈D.getD m [],d∈L:=h.closed;have hclS:∀s,∀m∈L,∀d∈(pL D S s).getD m [],d∈L:=λs m hm d hd=>by
   rw[CK (.inl λhs=>hSL m hs hm)]at hd;exact h.closed m hm d hd
  have take:rest=[]->∀s∈S,jk P l (pL D S s) K (f+1) L y:=λhr s hs=>by
   subst hr;have hdp':pre=done:=by rw[h.split];simp
   refine hH s hs (f+1) L y done [] x hf ⟨by rw[hdp'];simp,h.sub,h.nodup,hclS s,λi hi YP=>h.Zj i hi (by rw[<-hF.agree s hs i (hdp i hi)];exact YP),h.store,h.slot,h.lag,?_⟩;exact h.go s hs
  have key:uH P l (jk P l D K f) L y (ef D L):=by
   refine qp λi hi=>?_;have hi0:=hi;obtain⟨Yv,hiL,hdep⟩:=uW hi;rw[hE.dlen]at Yv;by_cases hiS:i∈S
   .have hm:i∈ef (pL D S i) L:=by
     unfold ef;refine sD.2 ⟨by rw[Ao,hE.dlen];simpa using Yv,?_⟩;rw[CK (.inr rfl)];exact(sD.1 hi).2
    have hrest:rest=[]:=by
     cases hrr:rest with
     |nil=>rfl
     |cons a rr=>
      exfalso;have ha:=hhead a rr hrr;have hapre:a∈pre:=by rw[h.split,hrr];simp
      have hb:a∈fA W5 i:=hF.Zj pre tail a i rfl hapre (hF.sub i hiS) hapre ha;obtain⟨pa,pb,hpe⟩:=List.append_of_mem (hE.mem i Yv);have haL:a∈L:=hE.closed Yj hE.mem (pa.length+1) pa i pb (by omega) hpe (λd hd=>hdep d hd) a hb;rw[hrr]at XO;exact(List.nodup_append.1 XO).2.2 a (h.sub a haL) a (by simp) rfl
    have h1:=take hrest i hiS;unfold jk at h1;cases hr:ef (pL D S i) L with
    |nil=>rw[hr]at hm;cases hm
    |cons a r=>
     rw[hr]at h1 hm;obtain⟨ins,g1,g2⟩:=oe h1 i hm;exact⟨ins,g1,TC.mono (λx hx=>uK f _ x (by simp) hx) g2⟩
   refine⟨bt l i,by simp[bt,Zq6 Yv],?_⟩;obtain⟨pa,pb,hpe⟩:=List.append_of_mem (hE.mem i Yv);have hbefL:∀j∈fA W5 i,j∈L:=hE.closed Yj hE.mem (pa.length+1) pa i pb (by omega) hpe hdep;have huses:∀u∈(bt l i).l5,x.s u=y.s u:=λu hu=>(h.slot u λj hj hjL hd=>by
    have hjl:j<l.length:=hE.lt j (by simp[hdp j hj]);by_cases hji:j=i
    .subst hji;cases YK:dL l W5 j with
     |true=>exact hjL (h.Zj j hj YK)
     |false=>exact(iG YK hjl (hE.oG hjl)).2 u hd hu
    .rcases hE.anti i j Yv hjl (λe=>hji e.symm) u hd hu with h1|⟨h1,_⟩
     .exact hjL (hbefL j h1)
     .exact hjL (h.Zj j hj h1)).symm
   by_cases M':i∈done
   .have YP:dL l W5 i=false:=by
     cases YP:dL l W5 i with
     |false=>rfl
     |true=>exact absurd (h.Zj i M' YP) hiL
    obtain⟨hk,_⟩:=iG YP Yv (hE.oG Yv);have hq:=h.lag i M' hiL;obtain⟨v,hv,hvd⟩:∃v,QY P (bt l i) x.s x.U v/\∀d,(bt l i).dst=some d->x.s d=v:=by
     unfold QYd at hq;cases hd:(bt l i).dst with
     |none=>rw[hd]at hq;obtain⟨v,hq⟩:=hq;exact⟨v,hq,by simp⟩
     |some d=>rw[hd]at hq;exact⟨_,hq,λd' e=>by cases e;rfl⟩
    refine .inl ((cD (by simp[gi,hk])).2 ⟨v,?_,?_⟩)
    .rw[h.store];exact Co huses hv
    .refine ih (i::L) _ done rest x (by simp only[YI];omega) (λs hs hm=>(dJ.1 hm).elim (λe=>hiS (e▸hs)) (hSL s hs)) ⟨h.split,λj hj=>?_,List.nodup_cons.2 ⟨hiL,h.nodup⟩,λm hm d hd=>?_,λj hj YK=>by simp[h.Zj j hj YK],h.store,λd hd=>?_,λj hj hjL=>h.lag j hj (λhm=>hjL (by simp[hm])),h.go⟩
     .rcases dJ.1 hj with rfl|hj
      .exact M'
      .exact h.sub j hj
     .rcases dJ.1 hm with rfl|hm
      .simp[hdep d hd]
      .simp[h.closed m hm d hd]
     .simp only;by_cases hdi:(bt l i).dst=some d
      .rw[hdi];simp only[aO];rw[ak trivial];exact(hvd d hdi).symm
      .have h1:=h.slot d λj hj hjL=>by
        by_cases hji:j=i
        .rw[hji];exact hdi
        .exact hd j hj (by simp[hji,hjL])
       rw[<-h1];cases hde:(bt l i).dst with
       |none=>rfl
       |some d'=>
        rw[hde]at hdi;simp only[aO];rw[au (λe'=>hdi (by rw[e']))]
   .have hir:i∈rest++tail:=by
     have:=hE.mem i Yv;rw[h.split,lh]at this;exact(dH.1 this).resolve_left M'
    obtain⟨hd0,rr,rfl⟩:∃a r,rest=a::r:=by
     cases rest with
     |nil=>
      exfalso;rw[jE]at hir;obtain⟨s,hs,hsb⟩:=hF.later i hir hiS;exact hSL s hs (hbefL _ hsb)
     |cons a r=>exact⟨a,r,rfl⟩
    have heff:=hhead hd0 rr rfl;have hh0:hd0∉done:=λhm=>(List.nodup_append.1 XO).2.2 hd0 hm hd0 (by simp) rfl;have hih:i=hd0:=by
     rcases dJ.1 (show i∈hd0::(rr++tail)from hir)with e|hir
     .exact e
     .exfalso;have:=hF.Zj (done++[hd0]) (rr++tail) hd0 i (by rw[h.split];simp) (by simp) hir (by rw[h.split];simp) heff;exact hh0 (h.sub _ (hbefL _ this))
    subst hih;have Zq:=h.go;rw[show eM l W5 done (i::rr)=2*i::(Fu l W5 done i++eM l W5 (done++[i]) rr)from rfl,ES Yv]at Zq;refine Aq huses h.store.symm (λr Z' hK=>?_) Zq;rw[Fu,ak heff]at hK;obtain⟨hck,hgo'⟩:=ur (λk=>!(dL l W5 k)&&(!(lk (bt l k).op)&&!((fA W5 i).contains k))) (λj hj=>hE.lt j (by simp[hdp j hj])) hK;refine ih (i::L) _ (done++[i]) rr ⟨aO x.s (bt l i).dst r,Z'⟩ (by simp only[YI];omega) (λs hs hm=>(dJ.1 hm).elim (λe=>hiS (e▸hs)) (hSL s hs)) ⟨by rw[h.split];simp,λj hj=>?_,List.nodup_cons.2 ⟨hiL,h.nodup⟩,λm hm d hd=>?_,λj hj YK=>?_,rfl,λd hd=>?_,λj hj hjL=>?_,hgo'⟩
    .rcases dJ.1 hj with rfl|hj
     .simp
     .simp[h.sub j hj]
    .rcases dJ.1 hm with rfl|hm
     .simp[hdep d hd]
     .simp[h.closed m hm d hd]
    .rcases dH.1 hj with hj|hj
     .simp[h.Zj j hj YK]
     .simp only[ja]at hj;simp[hj]
    .have h1:(bt l i).dst=some d\/y.s d=x.s d:=by
      by_cases hdi:(bt l i).dst=some d
      .exact .inl hdi
      .exact .inr (h.slot d λj hj hjL=>hd j (by simp[hj]) (by
        simp only[dJ,not_or];exact⟨λe=>M' (e▸hj),hjL⟩))
     simp only;cases hde:(bt l i).dst with
     |none=>rw[hde]at h1;exact h1.resolve_left (by simp)
     |some d'=>
      simp only[aO];split
      .rfl
      .rename_i WZ;rw[hde]at h1;exact h1.resolve_left (λe=>WZ (by cases e;rfl))
    .have hjd:j∈done:=by
      rcases dH.1 hj with hj|hj
      .exact hj
      .simp only[ja]at hj;exact absurd (by simp[hj]) hjL
     have hjL':j∉L:=λhm=>hjL (by simp[hm]);have hjl:j<l.length:=hE.lt j (by simp[hdp j hjd]);have hji:j≠i:=λe=>M' (e▸hjd);have YK:dL l W5 j=false:=by
      cases YK:dL l W5 j with
      |false=>rfl
      |true=>exact absurd (h.Zj j hjd YK) hjL'
     cases hsf:lk (bt l j).op with
     |true=>
      refine uF hE hjl Yv hji (λd hd hu=>?_) (λv hv=>kE hsf hv) (h.lag j hjd hjL');rcases hE.anti j i hjl Yv hji d hd hu with h1|⟨_,h1⟩
      .obtain⟨a,b,hab⟩:=List.append_of_mem hjd;have h2:=hE.mZ (a:=a) (j:=j) (b:=b++i::rr++tail) (by rw[h.split,hab];simp) i h1;exact M' (by rw[hab];simp[h2])
      .exact hjL' (hbefL j h1)
     |false=>
      refine hck j hjd ?_;simp only[YK,hsf,Bool.not_false,Bool.true_and,Bool.not_eq_true'];cases hc:(fA W5 i).contains j with
      |false=>rfl
      |true=>exact absurd (hbefL j (List.contains_iff_mem.1 hc)) hjL'
  cases hr:ef D L with
  |cons a r=>unfold jk;rw[hr]at key|-;exact key
  |nil=>
   exfalso;have first:∀(a b:List Nat),pre++tail=a++b->(∀j∈a,j∈L)->(∃i∈b,i∉L)->∃a' e b',pre++tail=a'++e::b'/\(∀j∈a',j∈L)/\e∉L:=by
    intro a b
    induction b generalizing a with
    |nil=>rintro _ _ ⟨i,h,_⟩;cases h
    |cons e b ihb=>
     intro he ha hx;by_cases heL:e∈L
     .refine ihb (a++[e]) (by rw[he];simp) (λj hj=>?_) ?_
      .rcases dH.1 hj with hj|hj
       .exact ha j hj
       .simp only[ja]at hj;rw[hj];exact heL
      .obtain⟨i,hi,hiL⟩:=hx;rcases dJ.1 hi with rfl|hi
       .exact absurd heL hiL
       .exact⟨i,hi,hiL⟩
     .exact⟨a,e,b,he,ha,heL⟩
   obtain⟨a,e,b,he,ha,heL⟩:=first [] (pre++tail) rfl (by simp) ⟨s0,by simp[hF.sub s0 Xn],hSL s0 Xn⟩
   have hel:e<l.length:=hE.lt e (by rw[he];simp);have:e∈ef D L:=by
    unfold ef;refine sD.2 ⟨by simp[hE.dlen,hel],?_⟩;simp only[Ba,Bool.not_eq_true',fC];exact⟨by simpa using heL,λd hd=>List.contains_iff_mem.2 (ha d (hE.ahead a e b he d hd))⟩
   rw[hr]at this;cases this
end
inductive PT where
 |leaf (W5:List (List Nat)) (r:List Nat)
 |fork (W5:List (List Nat)) (m:List Nat) (S:List Nat) (kids:List PT)
def PT.W5:PT->List (List Nat)
 |.leaf b _=>b
 |.fork b _ _ _=>b
def PT.ord:Nat->PT->List Nat
 |0,_=>[]
 |f+1,t=>match t with
  |.leaf _ r=>r
  |.fork _ m _ kids=>m++(match kids with
   |k::_=>PT.ord f k
   |[]=>[])
def EB(g:Nat->PT->Bool):List Nat->List PT->Bool
 |[],[]=>true
 |s::ss,t::ts=>g s t&&EB g ss ts
 |_,_=>false
def wy{g:Nat->PT->Bool}:∀{S:List Nat} {ts:List PT},EB g S ts=true->∀s∈S,∃t∈ts,g s t=true
 |[],[],_,s,hs=>by cases hs
 |a::S,t::ts,h,s,hs=>by
  simp only[EB,Ba]at h;rcases dJ.1 hs with rfl|hs
  .exact⟨t,by simp,h.1⟩
  .obtain⟨t',h1,h2⟩:=wy h.2 s hs;exact⟨t',by simp[h1],h2⟩
def MT(l:List aC)(D W5:List (List Nat))(pre tail S:List Nat):Bool:=
 KZ l D W5 (pre++tail)&&(nM (λa b=>!(pre.contains a)||(!(dL l W5 a)||(fA W5 b).contains a)) (pre++tail)&&
 (S.all tail.contains&&(!S.isEmpty&&tail.all λi=>S.contains i||S.any λs=>(fA W5 i).contains s)))
def HV(l:List aC):Nat->List (List Nat)->List Nat->PT->Bool
 |0,_,_,_=>false
 |f+1,D,pre,t=>match t with
  |.leaf W5 r=>eOk l D W5 (pre++r)
  |.fork W5 m S kids=>MT l D W5 (pre++m) (match kids with
    |k::_=>PT.ord f k
    |[]=>[]) S&&EB (λs k=>((pre++m).all λi=>dL l k.W5 i==dL l W5 i)&&HV l f (pL D S s) (pre++m) k) S kids
def GT(P:Program)(l:List aC)(K:St->Prop):Nat->List Nat->PT->St->Prop
 |0,_,_,_=>False
 |f+1,pre,t,x=>match t with
  |.leaf W5 r=>RE P l K (eM l W5 pre r) x
  |.fork W5 m _ kids=>RE P l (λx=>∀k∈kids,GT P l K f (pre++m) k x) (eM l W5 pre m) x
def kD.more{l:List aC}{D W5:List (List Nat)}{pre m:List Nat}{K:St->Prop}{L:List Nat}{y:St}{done rest:List Nat}{x:St}(h:kD P l D W5 pre (RE P l K (eM l W5 pre m)) L y done rest x):
 kD P l D W5 (pre++m) K L y done (rest++m) x:=by
 refine⟨by rw[h.split];simp,h.sub,h.nodup,h.closed,h.Zj,h.store,h.slot,h.lag,?_⟩;rw[oX,xQ,<-h.split];exact h.go
def kD.mono{l:List aC}{D W5:List (List Nat)}{pre:List Nat}{K K':St->Prop}(hk:∀x,K x->K' x){L:List Nat}{y:St}{done rest:List Nat}{x:St}(h:kD P l D W5 pre K L y done rest x):
 kD P l D W5 pre K' L y done rest x:=⟨h.split,h.sub,h.nodup,h.closed,h.Zj,h.store,h.slot,h.lag,RE.mono hk h.go⟩
def D4{l:List aC}{K:St->Prop}:∀(fu:Nat) (D:List (List Nat)) (pre:List Nat) (t:PT),HV l fu D pre t=true->∀(f:Nat) (L:List Nat) (y:St) (done rest:List Nat) (x:St),f+L.length=l.length->
 (∀i∈L,i∈pre)->kD P l D t.W5 pre (GT P l K fu pre t) L y done rest x->jk P l D K f L y
 |0,_,_,_,h,_,_,_,_,_,_,_,_,_=>by cases h
 |fu+1,D,pre,t,h,f,L,y,done,rest,x,hf,hLp,hl=>by
  cases t with
  |leaf W5 r=>exact qc (Bh h) f L y done (rest++r) x hf (kD.more hl)
  |fork W5 m S kids=>
   simp only[HV,Ba]at h;obtain⟨h1,h2⟩:=h;generalize (match kids with
    |k::_=>PT.ord fu k
    |[]=>[])=tail at h1
   simp only[MT,Ba]at h1;obtain⟨g1,g2,g3,g4,g5⟩:=h1;have hk:=wy h2;have hW:=yp g1;have hF:∀kid:Nat->PT,(∀s∈S,((pre++m).all λi=>dL l (kid s).W5 i==dL l W5 i)=true)->FN l D W5 (pre++m) tail S (λs=>(kid s).W5):=λkid hkid=>by
    refine⟨hW,λa b u v he hu hv hup hue=>?_,λs hs=>by simpa using fC.1 g3 s hs,?_,λi hi hiS=>?_,λs hs i hi=>by simpa using fC.1 (hkid s hs) i hi⟩
    .rw[he]at g2;have:=nk g2 hu hv;simp only[lG,Bool.not_eq_true',List.contains_iff_mem,hue,Bool.true_eq_false,false_or]at this;rcases this with h|h
     .have hc:(pre++m).contains u=true:=List.contains_iff_mem.2 hup;rw[hc]at h;cases h
     .exact h
    .cases S with
     |nil=>simp at g4
     |cons s S=>exact⟨s,by simp⟩
    .have:=fC.1 g5 i hi;simp only[lG,List.contains_iff_mem,List.any_eq_true]at this;exact this.resolve_left hiS
   have hch:∀s,∃k:PT,s∈S->(k∈kids/\(((pre++m).all λi=>dL l k.W5 i==dL l W5 i)=true/\HV l fu (pL D S s) (pre++m) k=true)):=λs=>by
    by_cases hs:s∈S
    .obtain⟨k,h3,h4⟩:=hk s hs;simp only[Ba]at h4;exact⟨k,λ_=>⟨h3,h4⟩⟩
    .exact⟨.leaf [] [],λh=>absurd h hs⟩
   obtain⟨kid,hkid⟩:=Classical.axiomOfChoice hch;have hFN:=hF kid λs hs=>(hkid s hs).2.1;have hSpre:∀s∈S,s∉pre++m:=λs hs hm=>(List.nodup_append.1 hW.nodup).2.2 s hm s (hFN.sub s hs) rfl;refine Dy (Ks:=λs=>GT P l K fu (pre++m) (kid s)) hFN (λs hs f L y done rest x hf hl=>?_) f L y done (rest++m) x hf (λs hs hm=>hSpre s hs (List.mem_append_left _ (hLp s hm))) ?_
   .refine D4 fu _ _ _ (hkid s hs).2.2 f L y done rest x hf (λi hi=>?_) hl;have:=hl.sub i hi;rw[hl.split];simp[this]
   .exact kD.mono (λx hx s hs=>hx (kid s) (hkid s hs).1) (kD.more hl)
def ag.wm(hm:P.follows .mixedOrders=true){l:List aC}{W9:List (List Nat)}(fu:Nat)(t:PT)(hB:HV l fu W9 [] t=true)(h:GT P l (λx=>ag P n k x Q) fu [] t st):ag P n (.code (.regA l W9)::k) st Q:=by
 refine ag.MM hm (D4 fu W9 [] t hB l.length [] st [] [] st (by simp) (by simp) ⟨rfl,by simp,List.nodup_nil,by simp,by simp,rfl,λ_ _=>rfl,by simp,?_⟩);exact h
variable {P:Program} {l:List aC} {K:St->Prop} {f:Nat} {pre m S r its:List Nat} {W5:List (List Nat)} {a b c:PT} {x:St}
def GT.gZ(h:eM l W5 pre r=its)(hg:RE P l K its x):GT P l K (f+1) pre (.leaf W5 r) x:=by subst h;exact hg
def GT.sY(h:eM l W5 pre m=its)(hg:RE P l (λx=>GT P l K f (pre++m) a x/\GT P l K f (pre++m) b x) its x):GT P l K (f+1) pre (.fork W5 m S [a,b]) x:=by
 subst h;refine RE.mono (λx hx k hk=>?_) hg;simp only[dJ,List.not_mem_nil,or_false]at hk;rcases hk with rfl|rfl
 .exact hx.1
 .exact hx.2
def GT.SQ(h:eM l W5 pre m=its)(hg:RE P l (λx=>GT P l K f (pre++m) a x/\GT P l K f (pre++m) b x/\GT P l K f (pre++m) c x) its x):GT P l K (f+1) pre (.fork W5 m S [a,b,c]) x:=by
 subst h;refine RE.mono (λx hx k hk=>?_) hg;simp only[dJ,List.not_mem_nil,or_false]at hk;rcases hk with rfl|rfl|rfl
 .exact hx.1
 .exact hx.2.1
 .exact hx.2.2
open Go.Proofs
def mN(fs:List T')(y:Int):Int:=if(cy ld fs).2 then max y (cy ld fs).1 else y
def jX(fs:List T')(f:T')(y:Int)(s:Xr):Int:=qj fs f.w f.h s (mN fs y)
def lY(fs:List T')(f:T')(y:Int)(s:Xr):Int:=
 let b:=bM fs (jX fs f y s) f.h s
 if f.side=1 then b.a else max b.a (b.b-f.w)
def iC(fs:List T')(f:T')(y:Int)(s:Xr):T':={ f with x:=lY fs f y s,y:=jX fs f y s }
def nU(fs:List T')(f:T')(y:Int)(s:Xr):List T':=fs++[iC fs f y s]
def Ez{fs:List T'}{y:Int}(WB:∀f∈fs,f.ok)(hy:XU y):XU (mN fs y):=by
 unfold mN;split
 .rename_i h;obtain⟨f,hf,h1,_⟩:=kC h;obtain⟨_,⟨h3,h4⟩,_⟩:=WB f hf;obtain⟨g1,g2⟩:=hy;rw[h1];simp only[ld];exact⟨by omega,by omega⟩
 .exact hy
def OB(fs:List T')(f:T')(y:Int)(s:Xr)(hl:fs.length<=1000000)(WB:∀f∈fs,f.ok)(hy:XU y)(hh:Bq f.h)(hw:Bq f.w)(X7:XU s.a/\XU s.b):
 aE prog 235 [ax fs,az f,vI y,aP s] (.WC [vI (lY fs f y s),vI (jX fs f y s)]):=λU=>by
 refine Wf.q ?_;have hs:=aa.refl U;refine mS 14 ?_;simp only[go_sem,seval,Rq,az,aP];refine al hs λi5 Z5 s5 a5 f5 _ hs=>?_;simp only[go_sem,seval];refine al hs λi7 Z7 s7 a7 f7 _ hs=>?_;replace a5:=s7 _ _ a5;simp only[go_sem,seval];refine pR rfl (PM fs hl WB _) ?_;have hty:=Ez (y:=y) WB hy;have hdn:=LP fs f (mN fs y) s hl WB hty hh X7;have hbo:=iQ (y:=jX fs f y s) (high:=f.h) WB X7;obtain⟨z,hz⟩:∃z,z=jX fs f y s:=⟨_,rfl⟩
 have hz2:qj fs f.w f.h s (mN fs y)=z:=hz.symm;rw[hz2]at hdn;rw[<-hz]at hbo;obtain⟨b,hb⟩:∃b,b=bM fs z f.h s:=⟨_,rfl⟩
 have hx:lY fs f y s=if f.side=1 then b.a else max b.a (b.b-f.w):=by unfold lY;rw[<-hz,<-hb]
 rw[<-hz,hx];rw[<-hb]at hdn hbo;obtain⟨hb1,W1,hb3,hb4⟩:-2305843009213693952<=b.a/\b.a<=2305843009213693952/\-2305843009213693952<=b.b/\b.b<=2305843009213693952:=⟨hbo.1.1,hbo.1.2,hbo.2.1,hbo.2.2⟩
 obtain⟨hw1,hw2⟩:=hw;cases ht:(cy ld fs).2
 .have hty2:mN fs y=y:=by unfold mN;rw[ht];rfl
  rw[hty2]at hdn;apply sR;simp only[go_sem,seval,a7,a5,bU,bT];refine pS rfl (hdn _) ?_;simp only[go_sem,seval,aP];refine al hs λi12 Y12 s12 a12 f12 z12 hs=>?_;obtain⟨n512,a5⟩:=WG a5 f12 s12;obtain⟨n712,a7⟩:=WG a7 f12 s12;by_cases hsd:f.side=1
  .have q:(f.side=1)=True:=L' hsd;rw[ak hsd];simp only[go_sem,seval,a12,a5,q,ab n512];exact ai.pure (hs.ao z12) rfl
  .have q:(f.side=1)=False:=H' hsd;rw[au hsd];have r1:WI .i64 (b.b-f.w):=ae;simp only[go_sem,seval,a12,a5,q,r1,cg,ab n512];exact ai.pure (hs.ao z12) rfl
 .have hty2:mN fs y=max y (cy ld fs).1:=by unfold mN;rw[ht];rfl
  rw[hty2]at hdn;apply sR;simp only[go_sem,seval,a7,a5,bU,bT,cg];refine pS rfl (hdn _) ?_;simp only[go_sem,seval,aP];refine al hs λi12 Y12 s12 a12 f12 z12 hs=>?_;obtain⟨n512,a5⟩:=WG a5 f12 s12;obtain⟨n712,a7⟩:=WG a7 f12 s12;by_cases hsd:f.side=1
  .have q:(f.side=1)=True:=L' hsd;rw[ak hsd];simp only[go_sem,seval,a12,a5,q,ab n512];exact ai.pure (hs.ao z12) rfl
  .have q:(f.side=1)=False:=H' hsd;rw[au hsd];have r1:WI .i64 (b.b-f.w):=ae;simp only[go_sem,seval,a12,a5,q,r1,cg,ab n512];exact ai.pure (hs.ao z12) rfl
open Go.Proofs
def I8(n a b:Int):aE prog 193 [vI n,vI a,vI b] (.bool (decide (n>=a/\n<=b))):=λU=>by
 refine Vf.q ?_;apply sR;simp only[go_sem,seval,bh,dM,SF];constructor<;>intro h<;>exact ai.same (by simp[h])
def NO(a b:Int)(h1:0<=a/\a<=1099511627777)(h2:-1000000000000000000<=b/\b<=9000000000000000000):aE prog 91 [vI a,vI b] (vI (min (a+b) 1099511627777)):=λU=>by
 refine e91.q ?_;apply sR;simp only[go_sem,seval,bh,dM,c91];refine⟨ae,?_⟩;exact ai.same (by simp only[vI,V.int.injEq,true_and];omega)
open Go.Proofs
def dd(p:Int->Bool):List Int->Int
 |[]=>-1
 |x::l=>if p x then 0 else if dd p l<0 then -1 else dd p l+1
def qn(p:Int->Bool)(i:Nat)(l:List Int):Int:=if dd p l<0 then -1 else dd p l+i
def jF(p:Int->Bool):∀l,-1<=dd p l
 |[]=>by simp[dd]
 |x::l=>by
  have:=jF p l;simp only[dd];split
  .omega
  .split<;>omega
def Gi(p:Int->Bool)(l:List Int):dd p l=qn p 0 l:=by
 have:=jF p l;unfold qn;split<;>omega
def nC{U:ad}{sv:V}{l:List Int}{f:FuncId}{caps:List V}{p:Int->Bool}(hr:Reads U 1 false sv (l.map vI))(hl:l.length<=200000000000000)
 (hf:∀n∈l,av prog f (vI n::caps) U λr Z'=>r=.bool (p n)/\Z'=U):
 av prog 170 [sv,.fn f caps] U λr Z'=>r=vI (dd p l)/\Z'=U:=by
 have hlen:dv false sv=some (vI (l.length:Int)):=by simpa using hr.1
 refine Vg.q ?_;apply sR;simp only[go_sem,seval,Rk,hlen];refine ag.loop (λm st=>∃i:Nat,i<=l.length/\m=l.length-i/\dd p l=qn p i (l.drop i)/\st.U=U/\st.s 0=sv/\st.s 1=.fn f caps/\st.s 7=vI l.length/\st.s 8=vI i) l.length ?_ ?_
 .exact⟨0,by omega,by omega,Gi p l,rfl,rfl,rfl,rfl,rfl⟩
 .rintro m ⟨s,Z'⟩ ⟨i,hi,rfl,hp,WY,h0,h1,h7,h8⟩;simp only at h0 h1 h7 h8 WY;subst WY;apply sR;simp only[go_sem,seval,h0,h1,h7,h8];constructor
  .intro B';have Xf:i<l.length:=by omega
   have hd:l.drop i=l[i]::l.drop (i+1):=iT Xf;obtain⟨pp,e1,e2⟩:=hr.2 i (vI l[i]) (by simp[Xf]);simp only[go_sem,seval,e1,e2];refine pS rfl (hf l[i] (Xo Xf)) ?_;simp only[go_sem,seval];cases hpx:p l[i]
   .simp only[go_sem,seval,h8];refine⟨ae,_,?_,i+1,by omega,rfl,?_,h0,h1,h7,?_⟩
    .omega
    .rw[hp,hd];simp only[qn,dd,hpx,fO,if_false];have:=jF p (l.drop (i+1))
     repeat' split
     all_goals omega
    .simp
   .simp only[go_sem,seval];refine ai.same ?_;rw[hp,hd];simp[qn,dd,hpx]
  .intro ZO;have:i=l.length:=by omega
   refine ai.same ?_;rw[hp,this,xD];rfl
open Go.Proofs
def o1(f:FuncId)(args:List V):Option V:=if f=193 then(match args with
 |[.int .i64 n,.int .i64 a,.int .i64 b]=>some (.bool (decide (n>=a/\n<=b)))
 |_=>none)else none
def O1:Yi prog where
 get f args _:=o1 f args
 ok f args U v h:=by
  unfold o1 at h;split at h
  .rename_i hf;subst hf;split at h
   .simp only[aI]at h;subst h;exact I8 _ _ _ U
   .cases h
  .cases h
def SP(n a b:Int)(U:ad):O1.get 193 [.int .i64 n,.int .i64 a,.int .i64 b] U=some (.bool (decide (n>=a/\n<=b))):=rfl
def JJ(s:Ye):aE prog 192 [.agg s.cells] (.bool s.ok):=λU=>by
 refine V6.q ?_;refine ag.mix 4 ?_
 (refine ag.bn O1 300 ?_;simp only[go_sem,seval,bh,RK,Ye.cells,SP])
 intro id M'
 repeat' (first
  |with_reducible refine And.intro (λh=>?_) (λh=>?_)
  |with_reducible refine ai.pure ((aa.refl U).C' M') ?_)
 all_goals simp only[go_sem,seval,Ye.ok,aS,mx,V.bool.injEq]
 all_goals (rw[Bool.eq_iff_iff];simp[*])
open Go.Proofs
def Nd.ok(x:Nd):Bool:=
 if x.kind=1 then x.st.ok&&decide (x.line=0)&&decide (x.space=0)&&decide (x.words.length=0)&&decide (x.side=0)&&decide (x.w=0)&&decide (x.h=0)
 else if x.st≠Ye.zero then false
 else if x.kind=2 then x.words.all (aS · 1 mx)&&decide (0<x.words.length)&&aS x.line 1 mx&&aS x.space 0 mx&&decide (x.side=0)&&decide (x.w=0)&&decide (x.h=0)
 else decide (x.line=0)&&decide (x.space=0)&&decide (x.words.length=0)&&aS x.w 1 mx&&aS x.h 1 mx&&
  (decide (x.kind=3)&&decide (x.side=0)||decide (x.kind=4)&&aS x.side 1 2)
def o4(f:FuncId)(args:List V):Option V:=if f=193 then(match args with
 |[.int .i64 n,.int .i64 a,.int .i64 b]=>some (.bool (decide (n>=a/\n<=b)))
 |_=>none)else if f=192 then(match args with
 |[.agg [.int .i64 a,.int .i64 b,.int .i64 c,.int .i64 d,.int .i64 e,.int .i64 f,.int .i64 g,.int .i64 h,.int .i64 i,.int .i64 j,.int .i64 k,.int .i64 l]]=>some (.bool (Ye.ok ⟨a,b,c,d,e,f,g,h,i,j,k,l⟩))
 |_=>none)else none
def O4:Yi prog where
 get f args _:=o4 f args
 ok f args U v h:=by
  unfold o4 at h;split at h
  .rename_i hf;subst hf;split at h
   .simp only[aI]at h;subst h;exact I8 _ _ _ U
   .cases h
  .split at h
   .rename_i hf;subst hf;split at h
    .simp only[aI]at h;subst h;exact JJ ⟨_,_,_,_,_,_,_,_,_,_,_,_⟩ U
    .cases h
   .cases h
def HQ(n a b:Int)(U:ad):O4.get 193 [.int .i64 n,.int .i64 a,.int .i64 b] U=some (.bool (decide (n>=a/\n<=b))):=rfl
def P4(a b c d e f g h i j k l:Int)(U:ad):O4.get 192 [.agg [.int .i64 a,.int .i64 b,.int .i64 c,.int .i64 d,.int .i64 e,.int .i64 f,.int .i64 g,.int .i64 h,.int .i64 i,.int .i64 j,.int .i64 k,.int .i64 l]] U=
 some (.bool (Ye.ok ⟨a,b,c,d,e,f,g,h,i,j,k,l⟩)):=rfl
def dn(l:List Int):dv false (aN l)=some (.int .i64 l.length):=by simp[aN,dv]
def qJ(b:Bool):V.bool b=V.bool (decide (b=true)):=by cases b<;>rfl
def Im(p:Int->Bool)(l:List Int)(i:Nat)(h:i<l.length):(l.take (i+1)).all p=((l.take i).all p&&p l[i]):=by
 rw[Yz h,M9];simp
def mi{U:ad}{l:List Int}{i:Nat}(h:i<l.length):bp U 1 (aN l) (.int .i64 i)=some (.rp (.int .i64 l[i])):=by
 simp[aN,bp,h]
def Rn(x:Nd)(hl:x.words.length<=200000000000000):aE prog 139 [dW x] (.bool x.ok):=λU=>by
 refine UF.q ?_;refine ag.mix 5 ?_
 (refine ag.bn O4 300 ?_;simp only[go_sem,seval,bh,Se,dW,Nd.cells,HQ,P4,jY,qJ (Ye.ok _),dn])
 intro id M';have E':=(aa.refl U).C' M' (o:=⟨48,20,[dW x]⟩);have hz:x.st=Ye.zero↔(x.st.top=0/\x.st.WV=0/\x.st.WD=0/\x.st.O'=0/\x.st.Xl=0/\x.st.WE=0/\x.st.WW=0/\x.st.head=0/\x.st.before=0/\x.st.after=0/\x.st.inside=0/\x.st.clear=0):=by
  cases h:x.st;simp[Ye.zero]
 refine And.intro (λhk=>?_) (λhk=>And.intro (λhs=>?_) (λhs=>And.intro (λYf=>?_) (λYf=>?_)))
 .have WB:x.ok=(x.st.ok&&decide (x.line=0)&&decide (x.space=0)&&decide (x.words.length=0)&&decide (x.side=0)&&decide (x.w=0)&&decide (x.h=0)):=by simp[Nd.ok,hk]
  rw[WB]
  repeat' (first
   |with_reducible refine And.intro (λh=>?_) (λh=>?_)
   |with_reducible refine ai.pure ((aa.refl U).C' M') ?_)
  all_goals simp only[go_sem,seval,V.bool.injEq]
  all_goals (rw[Bool.eq_iff_iff];simp_all)
 .refine ai.pure E' ?_;have:x.st≠Ye.zero:=by rw[Ne,hz];simp at hs;intro h;simp_all
  have h1:x.kind≠1:=by simpa using hk
  simp[Nd.ok,h1,this]
 .have WM:x.st=Ye.zero:=by rw[hz];simp at hs;simp_all
  have WB:x.ok=(x.words.all (aS · 1 mx)&&decide (0<x.words.length)&&aS x.line 1 mx&&aS x.space 0 mx&&decide (x.side=0)&&decide (x.w=0)&&decide (x.h=0)):=by simp[Nd.ok,Yf,WM]
  refine ag.loop (λm st=>∃i:Nat,i<=x.words.length/\m=x.words.length-i/\(x.words.take i).all (aS · 1 mx)=true/\st.U=C' U id ⟨48,20,[dW x]⟩/\st.s 1=.ptr id 0 0/\st.s 3=vI mx/\st.s 4=vI i) x.words.length ?_ ?_
  .exact⟨0,by omega,by omega,by simp,rfl,rfl,rfl,rfl⟩
  .rintro m ⟨s,Z'⟩ ⟨i,hi,rfl,hp,WY,h1,h3,h4⟩;simp only at h1 h3 h4 WY;subst WY;refine ag.mix 5 ?_
   (refine ag.bn O4 300 ?_;simp only[go_sem,seval,h1,h3,h4,dW,Nd.cells,HQ,jY,dn,mx])
   refine And.intro (λB'=>?_) (λZO=>?_)
   .have Xf:i<x.words.length:=by omega
    have ht:=Im (aS · 1 mx) x.words i Xf;rw[hp,Bool.true_and]at ht;simp only[go_sem,seval,mi Xf,HQ,h1,h3,h4,mx,jY];refine And.intro (λhw=>?_) (λhw=>?_)
    .refine ai.pure ((aa.refl U).C' M') ?_;have hw':aS x.words[i] 1 mx=false:=by simp at hw;simp[aS,mx];omega
     rw[WB];have:(x.words.all (aS · 1 mx))=false:=by
      rw[List.all_eq_false];exact⟨_,Xo Xf,by simp[hw']⟩
     simp[this]
    .have hw':aS x.words[i] 1 mx=true:=by simp at hw;simp[aS,mx];omega
     refine⟨ae,_,?_,i+1,by omega,rfl,?_,?_⟩
     .omega
     .rw[<-mx,ht];exact hw'
     .simp
   .have hi':i=x.words.length:=by simp at ZO;omega
    subst hi';rw[dR]at hp;rw[WB,hp]
    repeat' (first
     |with_reducible refine And.intro (λh=>?_) (λh=>?_)
     |with_reducible refine ai.pure ((aa.refl U).C' M') ?_)
    all_goals try simp only[go_sem,seval,V.bool.injEq]
    all_goals (rw[Bool.eq_iff_iff];simp_all [aS,mx]<;>omega)
 .have WM:x.st=Ye.zero:=by rw[hz];simp at hs;simp_all
  have h1:x.kind≠1:=by simpa using hk
  have WB:x.ok=(decide (x.line=0)&&decide (x.space=0)&&decide (x.words.length=0)&&aS x.w 1 mx&&aS x.h 1 mx&&
   (decide (x.kind=3)&&decide (x.side=0)||decide (x.kind=4)&&aS x.side 1 2)):=by have h2:x.kind≠2:=(by simpa using Yf);simp[Nd.ok,h1,h2,WM]
  rw[WB]
  repeat' (first
   |with_reducible refine And.intro (λh=>?_) (λh=>?_)
   |with_reducible refine ai.pure ((aa.refl U).C' M') ?_)
  all_goals try simp only[go_sem,seval,V.bool.injEq]
  all_goals (rw[Bool.eq_iff_iff];simp_all [aS,mx]<;>omega)
open Go.Proofs
def da{U:ad}{l:List Nd}{i:Nat}(h:i<l.length):bp U 20 (ay l) (.int .i64 i)=some (.rp (.agg (Nd.cells l[i]))):=by
 simp[ay,bp,h,dW]
def bG(l:List Nd)(a e:Nat):Bool:=
 if _h:a<e then
  match l[a]? with
  |none=>false
  |some x=>if _hx:1<=x.size/\x.size<=(e:Int)-a then
     (decide (x.kind=1)||decide (x.size<=1))&&bG l (a+1) (a+x.size.toNat)&&bG l (a+x.size.toNat) e else false
 else true
termination_by e-a
decreasing_by all_goals omega
def G4(l:List Nd)(hl:l.length<=1000000000000):∀(m a e:Nat),e-a<m->a<=e->e<=l.length->aE prog 140 [ay l,vI a,vI e] (.bool (bG l a e))
 |0,_,_,h,_,_=>by omega
 |m+1,a,e,hm,hae,he=>λU=>by
  refine UZ.q ?_;refine mS 8 ?_;simp only[go_sem,seval,Qt];refine ag.loop (λmm st=>∃b:Nat,a<=b/\b<=e/\mm=e-b/\bG l a e=bG l b e/\aa U st.U/\st.s 0=ay l/\st.s 1=vI b/\st.s 2=vI e) (e-a) ?_ ?_
  .exact⟨a,by omega,by omega,rfl,rfl,aa.refl U,rfl,rfl,rfl⟩
  .rintro mm ⟨s,Z'⟩ ⟨b,hab,hbe,rfl,hr,E',h0,h1,h2⟩;simp only at h0 h1 h2 E';refine mS 8 ?_;simp only[go_sem,seval,h0,h1,h2,jY];refine And.intro (λB'=>?_) (λZO=>?_)
   .have Xf:b<l.length:=by simp at B';omega
    simp only[go_sem,seval,bh,da Xf,h0,h1,h2,jY,Nd.cells];intro id M';have hsub':=E'.C' M' (o:=⟨48,20,[.agg (Nd.cells l[b])]⟩);have hb:l[b]?=some l[b]:=by simp[Xf]
    have YR:b<e:=by simp at B';omega
    have hR:bG l b e=if _hx:1<=l[b].size/\l[b].size<=(e:Int)-b then
     (decide (l[b].kind=1)||decide (l[b].size<=1))&&bG l (b+1) (b+l[b].size.toNat)&&bG l (b+l[b].size.toNat) e else false:=by
     rw[bG,dif_pos YR,hb]
    refine And.intro (λhs=>?_) (λhs=>?_)
    .refine⟨ae,And.intro (λZm=>?_) (λZm=>?_)⟩
     .have hx:1<=l[b].size/\l[b].size<=(e:Int)-b:=by simp at hs Zm;omega
      rw[dif_pos hx]at hR;have ih:=G4 l hl m (b+1) (b+l[b].size.toNat) (by omega) (by omega) (by omega);have e2:((b+l[b].size.toNat:Nat):Int)=b+l[b].size:=by omega
      rw[e2,Int.natCast_add,Int.natCast_one]at ih;refine And.intro (λhk=>And.intro (λhs3=>?_) (λhs3=>?_)) (λhk=>?_)
      .refine⟨ae,ae,?_⟩;refine pS rfl (ih _) ?_;simp only[go_sem,seval,h0,h1,h2,jY];refine And.intro (λhf=>?_) (λhf=>?_)
       .refine ai.pure hsub' ?_;simp only[Bool.not_eq_eq_eq_not,Bool.not_true]at hf;rw[hr,hR,hf];simp
       .simp only[Bool.not_eq_eq_eq_not,Bool.not_false]at hf;refine⟨ae,_,?_,b+l[b].size.toNat,by omega,by omega,rfl,?_,hsub',?_⟩
        .omega
        .rw[hr,hR,hf];simp;omega
        .rw[e2]
      .refine ai.pure hsub' ?_;rw[hr,hR];have:¬l[b].size<=1:=by omega
       simp[hk,this]
      .refine⟨ae,ae,?_⟩;refine pS rfl (ih _) ?_;simp only[go_sem,seval,h0,h1,h2,jY];refine And.intro (λhf=>?_) (λhf=>?_)
       .refine ai.pure hsub' ?_;simp only[Bool.not_eq_eq_eq_not,Bool.not_true]at hf;rw[hr,hR,hf];simp
       .simp only[Bool.not_eq_eq_eq_not,Bool.not_false]at hf;refine⟨ae,_,?_,b+l[b].size.toNat,by omega,by omega,rfl,?_,hsub',?_⟩
        .omega
        .rw[hr,hR,hf];simp;omega
        .rw[e2]
     .refine ai.pure hsub' ?_;rw[hr,hR,dif_neg (by omega)]
    .refine ai.pure hsub' ?_;rw[hr,hR,dif_neg (by omega)]
   .have:b=e:=by simp at ZO;omega
    subst this;refine ai.pure E' ?_;rw[hr,bG];simp
open Go.Proofs
def dz(l:List Nd):Prop:=l.length<=10000/\∀x∈l,x.words.length<=200000000000000
def F7{α:Type}(p:α->Bool)(l:List α)(i:Nat)(h:i<l.length):(l.take (i+1)).all p=((l.take i).all p&&p l[i]):=by
 rw[Yz h,M9];simp
def Xh(l:List Nd):Bool:=l.all Nd.ok&&bG l 0 l.length
def xN(U:ad)(x:Nd):bO U true 20 (.rp (.agg x.cells))=some (dW x):=rfl
def Ng(l:List Nd)(hl:dz l):aE prog 90 [ay l] (.bool (Xh l)):=λU=>by
 obtain⟨hl1,hl2⟩:=hl;refine e90.q ?_;refine mS 4 ?_;simp only[go_sem,seval,c90];refine ag.loop (λm st=>∃i:Nat,i<=l.length/\m=l.length-i/\(l.take i).all Nd.ok=true/\st.U=U/\st.s 0=ay l/\st.s 3=vI i) l.length ?_ ?_
 .exact⟨0,by omega,by omega,by simp,rfl,rfl,rfl⟩
 .rintro m ⟨s,Z'⟩ ⟨i,hi,rfl,hp,WY,h0,h3⟩;simp only at h0 h3 WY;subst WY;refine mS 4 ?_;simp only[go_sem,seval,h0,h3,jY,bK];refine And.intro (λB'=>?_) (λZO=>?_)
  .have Xf:i<l.length:=by simp at B';omega
   have ht:=F7 Nd.ok l i Xf;rw[hp,Bool.true_and]at ht;simp only[go_sem,seval,da Xf,xN];refine pS rfl (Rn l[i] (by have:=hl2 _ (Xo Xf);omega) _) ?_;simp only[go_sem,seval,h0,h3,jY];refine And.intro (λhf=>?_) (λhf=>?_)
   .simp only[Bool.not_eq_eq_eq_not,Bool.not_true]at hf;refine ai.same ?_;have:l.all Nd.ok=false:=by
     rw[List.all_eq_false];exact⟨_,Xo Xf,by simp[hf]⟩
    simp[Xh,this]
   .simp only[Bool.not_eq_eq_eq_not,Bool.not_false]at hf;refine⟨ae,_,?_,i+1,by omega,rfl,?_,?_⟩
    .omega
    .rw[ht];exact hf
    .simp
  .have hi':i=l.length:=by simp at ZO;omega
   subst hi';rw[dR]at hp;have hr:=G4 l (by omega) (l.length+1) 0 l.length (by omega) (by omega) (by omega);refine pS rfl (hr _) ?_;simp only[go_sem,seval];refine ai.same ?_;simp[Xh,hp]
open Go.Proofs
def ir(l:List Nd):∀(m a e:Nat),e-a<m->e<=l.length->bG l a e=true->∀k,a<=k->(h:k<e)->(h2:k<l.length)->1<=l[k].size/\l[k].size<=(e:Int)-k/\(l[k].kind=1\/l[k].size<=1)
 |0,_,_,h,_,_=>by omega
 |m+1,a,e,hm,he,hr=>by
  intro k hk hke h2;have hae:a<e:=by omega
  have ha:a<l.length:=by omega
  rw[bG,dif_pos hae]at hr;have hga:l[a]?=some l[a]:=by simp[ha]
  rw[hga]at hr;simp only at hr;split at hr
  .rename_i hx;simp only[Ba,lG,YX]at hr;obtain⟨⟨h3,h4⟩,h5⟩:=hr;by_cases hka:k=a
   .subst hka;exact⟨hx.1,hx.2,h3⟩
   .by_cases hin:k<a+l[a].size.toNat
    .obtain⟨g1,g2,g3⟩:=ir l m (a+1) (a+l[a].size.toNat) (by omega) (by omega) h4 k (by omega) hin h2;exact⟨g1,by omega,g3⟩
    .exact ir l m (a+l[a].size.toNat) e (by omega) he h5 k (by omega) hke h2
  .cases hr
structure Sm where
 (depth pieces nodes V':Int)
deriving DecidableEq
def Sm.cells(s:Sm):List V:=[vI s.depth,vI s.pieces,vI s.nodes,vI s.V']
def ji(a b:Int):Int:=min (a+b) 1099511627777
def eW(l:List Nd)(i:Nat):Nat->Int
 |0=>0
 |k+1=>eW l i k+(match l[k]? with
  |some y=>if y.kind=1/\(i:Int)<k+y.size then 1 else 0
  |none=>0)
def BT(a b:Int):Nat->Int
 |0=>a
 |n+1=>ji (BT a b n) b
def mc(l:List Nd)(i:Nat)(x:Nd)(s:Sm):Sm:=
 if x.kind=1 then{ s with depth:=max s.depth (eW l i (i+1)),V':=ji (ji (ji (ji (ji s.V' x.st.top) x.st.WV) x.st.WD) x.st.O') x.st.head }
 else if x.kind=2 then{ s with pieces:=s.pieces+x.words.length,V':=BT s.V' x.line x.words.length }
 else{ s with pieces:=s.pieces+1,V':=ji s.V' x.h }
def fL(l:List Nd)(s:Sm):Nat->Sm
 |0=>s
 |i+1=>match l[i]? with
  |some x=>mc l i x (fL l s i)
  |none=>fL l s i
def gl(l:List Nd):Sm×Int:=if Xh l then(fL l ⟨0,0,l.length,0⟩ l.length,0)else(⟨0,0,0,0⟩,4)
def o7(f:FuncId)(args:List V):Option V:=if f=91 then(match args with
 |[.int .i64 a,.int .i64 b]=>if(0<=a/\a<=1099511627777)/\(0<=b/\b<=1099511627777)then some (.int .i64 (ji a b))else none
 |_=>none)else none
def O7:Yi prog where
 get f args _:=o7 f args
 ok f args U v h:=by
  unfold o7 at h;split at h
  .rename_i hf;subst hf;split at h
   .split at h
    .rename_i hc;simp only[aI]at h;subst h;exact NO _ _ hc.1 ⟨by omega,by omega⟩ U
    .cases h
   .cases h
  .cases h
def u7(a b:Int)(U:ad)(h1:0<=a/\a<=1099511627777)(h2:0<=b/\b<=1099511627777):O7.get 91 [.int .i64 a,.int .i64 b] U=some (.int .i64 (ji a b)):=by
 have:O7.get 91 [.int .i64 a,.int .i64 b] U=if(0<=a/\a<=1099511627777)/\(0<=b/\b<=1099511627777)then some (V.int .i64 (ji a b))else none:=rfl
 rw[this,ak ⟨h1,h2⟩]
def eC{a b:Int}(h1:0<=a/\a<=1099511627777)(h2:0<=b):0<=ji a b/\ji a b<=1099511627777:=by
 unfold ji;omega
def zl{a b:Int}(h1:0<=a/\a<=1099511627777)(h2:0<=b):∀n,0<=BT a b n/\BT a b n<=1099511627777
 |0=>h1
 |n+1=>eC (zl h1 h2 n) h2
def pP(l:List Nd)(i:Nat):∀k,0<=eW l i k/\eW l i k<=k
 |0=>by simp[eW]
 |k+1=>by
  have:=pP l i k;simp only[eW];split
  .split<;>omega
  .omega
def jv{x:Nd}(h:x.ok=true):(x.kind=1\/x.kind=2\/x.kind=3\/x.kind=4)/\0<=x.line/\x.line<=mx/\0<=x.h/\x.h<=mx/\
 (x.kind=1->(0<=x.st.top/\x.st.top<=mx)/\(0<=x.st.WV/\x.st.WV<=mx)/\(0<=x.st.WD/\x.st.WD<=mx)/\(0<=x.st.O'/\x.st.O'<=mx)/\(0<=x.st.head/\x.st.head<=mx)):=by
 unfold Nd.ok at h;split at h
 .rename_i hk;simp only[Ye.ok,aS,Ba,YX]at h|-;simp only[mx]at h|-;refine⟨.inl hk,by omega,by omega,by omega,by omega,λ_=>?_⟩;omega
 .split at h
  .cases h
  .split at h
   .rename_i h1 _ hk;simp only[aS,Ba,YX]at h|-;simp only[mx]at h|-;exact⟨.inr (.inl hk),by omega,by omega,by omega,by omega,λe=>absurd e h1⟩
   .rename_i h1 _ _;simp only[aS,Ba,lG,YX]at h|-;simp only[mx]at h|-;exact⟨by omega,by omega,by omega,by omega,by omega,λe=>absurd e h1⟩
def Sm.qQ(s:Sm)(k:Int):Prop:=(0<=s.depth/\s.depth<=k)/\(0<=s.pieces/\s.pieces<=k*200000000000000)/\(0<=s.V'/\s.V'<=1099511627777)
def rU{l:List Nd}{i:Nat}{x:Nd}{s:Sm}(hx:x.ok=true)(hw:x.words.length<=200000000000000)(h:s.qQ i):(mc l i x s).qQ (i+1):=by
 obtain⟨h1,h2,h3⟩:=h;obtain⟨g1,g2,g3,g4,g5,g6⟩:=jv hx;unfold mc;split
 .rename_i hk;obtain⟨a1,a2,a3,a4,a5⟩:=g6 hk;have hd:=pP l i (i+1);refine⟨?_,?_,eC (eC (eC (eC (eC h3 a1.1) a2.1) a3.1) a4.1) a5.1⟩
  .simp only;omega
  .simp only;omega
 .split
  .refine⟨?_,?_,zl h3 g2 _⟩
   .simp only;omega
   .simp only;omega
  .refine⟨?_,?_,eC h3 g4⟩
   .simp only;omega
   .simp only;omega
open Go.Proofs
def Sm.zero:Sm:=⟨0,0,0,0⟩
def Bn(l:List Nd)(hl:dz l):aE prog 40 [ay l] (.WC [.agg (gl l).1.cells,vI (gl l).2]):=λU=>by
 have hl0:=hl;obtain⟨hl1,hl2⟩:=hl;refine e40.q ?_;refine mS 10 ?_;simp only[go_sem,seval,bh,c40];intro idR hidR;have hsub1:=(aa.refl U).C' hidR (o:=⟨79,4,[.agg Sm.zero.cells]⟩);refine pS rfl (Ng l hl0 _) ?_;simp only[go_sem,seval,bh,jY,bK];refine And.intro (λhf=>?_) (λhf=>?_)
 .simp only[Bool.not_eq_eq_eq_not,Bool.not_true]at hf;refine ai.pure hsub1 ?_;simp[gl,hf,Sm.cells]
 .simp only[Bool.not_eq_eq_eq_not,Bool.not_false]at hf;intro id4 hid4;have WZ:id4≠idR:=by rintro rfl;simp[af]at hid4
  have hid4':U id4=none:=by rw[ab WZ]at hid4;exact hid4
  refine ag.loop (λm st=>∃i:Nat,i<=l.length/\m=l.length-i/\aa U st.U/\st.U idR=some ⟨79,4,[.agg Sm.zero.cells]⟩/\
   st.U id4=some ⟨79,4,[.agg (fL l ⟨0,0,l.length,0⟩ i).cells]⟩/\st.s 0=ay l/\st.s 2=.ptr idR 0 0/\st.s 4=.ptr id4 0 0/\st.s 5=vI i/\(fL l ⟨0,0,l.length,0⟩ i).qQ i) l.length ?_ ?_
  .refine⟨0,by omega,by omega,?_,?_,?_,rfl,rfl,rfl,rfl,by simp[fL,Sm.qQ]⟩
   .exact((aa.refl U).C' hidR).C' hid4
   .simp only[ab WZ.symm,af];rfl
   .simp only[af];rfl
  .rintro m ⟨s,Z'⟩ ⟨i,hi,rfl,E',hR,h4s,h0,h2,h4,h5,hfine⟩;simp only at E' hR h4s h0 h2 h4 h5;have WB:l.all Nd.ok=true/\bG l 0 l.length=true:=by simpa[Xh]using hf
   generalize hsm:fL l ⟨0,0,l.length,0⟩ i=sm at*;refine ag.mix 10 ?_
   (refine ag.bn O7 300 ?_;simp only[go_sem,seval,h0,h2,h4,h5,h4s,hR,jY,bK,Sm.cells])
   refine And.intro (λB'=>?_) (λZO=>?_)
   .have Xf:i<l.length:=by simp at B';omega
    have hx:=(fC.1 WB.1) _ (Xo Xf);generalize hxe:l[i]=x at*;simp only[go_sem,seval,bh,da Xf,hxe,h0,h2,h4,h5,jY,Nd.cells];have Zo:fL l ⟨0,0,l.length,0⟩ (i+1)=mc l i x sm:=by simp[fL,Xf,hxe,hsm]
    intro id6 hid6;have n64:id6≠id4:=by rintro rfl;rw[h4s]at hid6;cases hid6
    have n6R:id6≠idR:=by rintro rfl;rw[hR]at hid6;cases hid6
    obtain⟨p1,p2,p3,p4,p5,p6⟩:=jv hx;have hfine0:=hfine;obtain⟨f1,f2,f3⟩:=hfine;have hxw:x.words.length<=200000000000000:=hl2 x (hxe▸Xo Xf);refine And.intro (λhk=>?_) (λhk=>?_)
    .have X6:x.kind=1:=by simpa using hk
     obtain⟨q1,q2,q3,q4,q5⟩:=p6 X6;refine ag.loop (λmm st=>∃k:Nat,k<=i+1/\mm=i+1-k/\st.U=C' Z' id6 ⟨48,20,[.agg x.cells]⟩/\
      st.s 0=ay l/\st.s 2=.ptr idR 0 0/\st.s 4=.ptr id4 0 0/\st.s 5=vI i/\st.s 6=.ptr id6 0 0/\st.s 7=vI (eW l i k)/\st.s 8=vI k) (i+1) ?_ ?_
     .exact⟨0,by omega,by omega,by rfl,h0,h2,h4,h5,rfl,rfl,rfl⟩
     .rintro mm ⟨s,Z''⟩ ⟨k,hki,rfl,WY,h0,h2,h4,h5,h6,h7,h8⟩;simp only at WY h0 h2 h4 h5 h6 h7 h8;subst WY;have hdt:=pP l i k;refine ag.mix 10 ?_
      (refine ag.bn O7 300 ?_;simp only[go_sem,seval,h0,h4,h5,h8,jY])
      refine And.intro (λYR=>?_) (λhge2=>?_)
      .have hlt2':k<l.length:=by simp at YR;omega
       obtain⟨z1,z2,z3⟩:=ir l (l.length+1) 0 l.length (by omega) (by omega) WB.2 k (by omega) hlt2' hlt2';have hdk:eW l i (k+1)=eW l i k+(if l[k].kind=1/\(i:Int)<k+l[k].size then 1 else 0):=by simp[eW,hlt2']
       simp only[go_sem,seval,da hlt2',h0,h2,h4,h5,h6,h7,h8,jY,Nd.cells];refine And.intro (λYf=>⟨ae,And.intro (λhc=>?_) (λhc=>?_)⟩) (λYf=>?_)
       .refine⟨ae,ae,_,?_,k+1,by omega,rfl,?_,?_⟩
        .omega
        .rw[hdk,ak ⟨Yf,hc⟩]
        .simp
       .refine⟨ae,_,?_,k+1,by omega,rfl,?_,?_⟩
        .omega
        .rw[hdk,au (by simp at hc;omega),Int.add_zero]
        .simp
       .refine⟨ae,_,?_,k+1,by omega,rfl,?_,?_⟩
        .omega
        .rw[hdk,au (by omega),Int.add_zero]
        .simp
      .have hke:k=i+1:=by simp at hge2;omega
       subst hke;have r1:=eC f3 q1.1;have r2:=eC r1 q2.1;have r3:=eC r2 q3.1;have r4:=eC r3 q4.1;have c1:=λU=>u7 _ _ U f3 ⟨q1.1,by have:=q1.2;simp only[mx]at this;omega⟩;have c2:=λU=>u7 _ _ U r1 ⟨q2.1,by have:=q2.2;simp only[mx]at this;omega⟩;have c3:=λU=>u7 _ _ U r2 ⟨q3.1,by have:=q3.2;simp only[mx]at this;omega⟩;have c4:=λU=>u7 _ _ U r3 ⟨q4.1,by have:=q4.2;simp only[mx]at this;omega⟩;have c5:=λU=>u7 _ _ U r4 ⟨q5.1,by have:=q5.2;simp only[mx]at this;omega⟩;simp only[go_sem,seval,c1,c2,c3,c4,c5,ab n64,ab n64.symm,h4s,X6,h0,h2,h4,h5,h6,h7,jY,Nd.cells,Sm.cells];have hfx:=rU (l:=l) hx hxw hfine0;refine⟨ae,_,?_,i+1,by omega,rfl,(E'.C' hid6).ao hid4',?_,?_,?_,?_⟩
       .omega
       .rw[ab WZ.symm,ab n6R.symm,hR];rfl
       .rw[Zo];have:(if eW l i (i+1)>sm.depth then eW l i (i+1)else sm.depth)=max sm.depth (eW l i (i+1)):=by split<;>omega
        simp[mc,X6,this]
       .simp
       .rw[Zo];simpa using hfx
    .have X6:x.kind≠1:=by simpa using hk
     have hfx:=rU (l:=l) hx hxw hfine0;refine And.intro (λYf=>?_) (λYf=>?_)
     .simp only[go_sem,seval,ab n64.symm,h4s,Yf,h4,Sm.cells,dn];refine⟨ae,?_⟩;refine ag.loop (λmm st=>∃k:Nat,k<=x.words.length/\mm=x.words.length-k/\aa U st.U/\st.U idR=some ⟨79,4,[.agg Sm.zero.cells]⟩/\
       st.U id4=some ⟨79,4,[.agg (Sm.cells ⟨sm.depth,sm.pieces+x.words.length,sm.nodes,BT sm.V' x.line k⟩)]⟩/\st.U id6=some ⟨48,20,[.agg x.cells]⟩/\
       st.s 0=ay l/\st.s 2=.ptr idR 0 0/\st.s 4=.ptr id4 0 0/\st.s 5=vI i/\st.s 6=.ptr id6 0 0/\st.s 9=vI k) x.words.length ?_ ?_
      .refine⟨0,by omega,by omega,(E'.C' hid6).ao hid4',?_,?_,?_,h0,h2,h4,h5,rfl,rfl⟩
       .simp only[ab WZ.symm,ab n6R.symm,hR]
       .simp only[af];rfl
       .simp only[ab n64,af,Nd.cells,Yf]
      .rintro mm ⟨s,Z''⟩ ⟨k,hki,rfl,hs'',hR'',h4'',h6'',h0,h2,h4,h5,h6,h9⟩;simp only at hs'' hR'' h4'' h6'' h0 h2 h4 h5 h6 h9;have ha:=zl f3 p2 k;have c1:=λU=>u7 _ _ U ha ⟨p2,by have:=p3;simp only[mx]at this;omega⟩;refine ag.mix 10 ?_
       (refine ag.bn O7 300 ?_;simp only[go_sem,seval,c1,Yf,h4'',h6'',h0,h2,h4,h5,h6,h9,jY,dn,Nd.cells,Sm.cells])
       refine And.intro (λYR=>?_) (λhge2=>?_)
       .refine⟨ae,_,?_,k+1,by omega,rfl,hs''.ao hid4',?_,rfl,?_,?_⟩
        .omega
        .rw[ab WZ.symm,hR''];rfl
        .rw[ab n64,h6''];simp[Nd.cells,Yf]
        .simp
       .have hke:k=x.words.length:=by simp at hge2;omega
        subst hke;refine⟨ae,_,?_,i+1,by omega,rfl,hs'',?_,?_,?_,?_⟩
        .omega
        .rw[hR''];rfl
        .rw[Zo];simp[mc,Yf]
        .simp
        .rw[Zo];simpa using hfx
     .have hk2':x.kind≠2:=by simpa using Yf
      have hk3:x.kind>2:=by omega
      have c1:=λU=>u7 _ _ U f3 ⟨p4,by have:=p5;simp only[mx]at this;omega⟩;simp only[go_sem,seval,c1,ab n64,ab n64.symm,h4s,h0,h2,h4,h5,Sm.cells];refine And.intro (λ_=>?_) (λhn=>?_)
      .refine⟨ae,ae,_,?_,i+1,by omega,rfl,(E'.C' hid6).ao hid4',?_,?_,?_,?_⟩
       .omega
       .rw[ab WZ.symm,ab n6R.symm,hR];rfl
       .rw[Zo];simp[mc,X6,hk2']
       .simp
       .rw[Zo];simpa using hfx
      .simp at hn;omega
   .have YP:i=l.length:=by simp at ZO;omega
    refine ai.pure (E'.ao hidR) ?_;subst YP;simp[gl,hf,hsm]
open Go.Proofs
def xd(p:Int->Bool):∀l,decide (dd p l>=0)=l.any p
 |[]=>by simp[dd]
 |x::l=>by
  have ih:=xd p l;simp only[dd,List.any_cons];have hg:=jF p l;rw[<-ih,Bool.eq_iff_iff];simp only[YX,lG];split
  .rename_i h;simp[h]
  .rename_i h;simp only[h,fO,false_or];by_cases hx:dd p l<0
   .rw[ak hx];constructor<;>intro hh<;>simp at hh|-<;>omega
   .rw[au hx];constructor<;>intro hh<;>simp at hh|-<;>omega
def mU{U:ad}{sv:V}{l:List Int}{f:FuncId}{caps:List V}{p:Int->Bool}(hr:Reads U 1 false sv (l.map vI))(hl:l.length<=200000000000000)
 (hf:∀n∈l,av prog f (vI n::caps) U λr Z'=>r=.bool (p n)/\Z'=U):
 av prog 222 [sv,.fn f caps] U λr Z'=>r=.bool (l.any p)/\Z'=U:=by
 refine VZ.q ?_;apply sR;simp only[go_sem,seval,Rg];refine pS rfl (nC hr hl hf) ?_;simp only[go_sem,seval];refine ai.same ?_;rw[<-xd]
def Nr{U:ad}{id:Nat}{a b:Int}(h:U id=some ⟨238,2,[.agg [vI a,vI b]]⟩)(n:Int):
 av prog 223 [vI n,.ptr id 0 0] U λr Z'=>r=.bool (!aS n a b)/\Z'=U:=by
 refine V9.q ?_;apply sR;simp only[go_sem,seval,Sq,h];refine And.intro (λh=>?_) (λh=>?_)
 .refine ai.same ?_;congr 1;simp only[aS];rw[<-decide_not,decide_eq_decide];omega
 .refine ai.same ?_;have:¬(n>=a/\n<=b):=by omega
  simp only[aS,this,decide_false,Bool.not_false]
def Reads.mono{U Z':ad}{sz:Nat}{agg:Bool}{sv:V}{rows:List V}(h:aa U Z')(hr:Reads U sz agg sv rows):Reads Z' sz agg sv rows:=by
 refine⟨hr.1,λi v hv=>?_⟩;obtain⟨p,h1,h2⟩:=hr.2 i v hv;refine⟨p,?_,?_⟩
 .cases sv<;>simp only[bp,reduceCtorEq]at h1|-
  .exact h1
  .rename_i id off len;cases ho:U id with
   |none=>rw[ho]at h1;cases h1
   |some ob=>rw[ho]at h1;rw[h id ob ho];exact h1
 .cases p<;>simp only[bO,reduceCtorEq]at h2|-
  .rename_i id i k;cases ho:U id with
   |none=>rw[ho]at h2;cases h2
   |some ob=>rw[ho]at h2;rw[h id ob ho];exact h2
  .exact h2
def Mt{U:ad}{sv:V}{l:List Int}{a b:Int}(hr:Reads U 1 false sv (l.map vI))(hl:l.length<=200000000000000):
 av prog 169 [.agg [vI a,vI b],sv] U λr Z'=>r=.bool (l.all λn=>aS n a b)/\Z'=U:=by
 refine VW.q ?_;apply sR;simp only[go_sem,seval,bh,OT];intro id M';refine pS rfl (mU (p:=λn=>!aS n a b) (hr.mono ((aa.refl U).C' M')) hl (λn _=>Nr af n)) ?_;simp only[go_sem,seval];refine ai.pure ((aa.refl U).C' M') ?_;rw[List.all_eq_not_any_not]
open Go.Proofs
def fT:List V->Option (List Int)
 |[]=>some []
 |.int .i64 n::l=>(fT l).map (n::·)
 |_=>none
def kj:∀{l:List V} {m:List Int},fT l=some m->l=m.map vI
 |[],m,h=>by simp[fT]at h;subst h;rfl
 |v::l,m,h=>by
  cases v<;>try (simp[fT]at h)
  rename_i k n;cases k<;>try (simp[fT]at h)
  obtain⟨m',h1,rfl⟩:=h;rw[kj h1];rfl
def pC(m:List Int):fT (m.map vI)=some m:=by
 induction m with
 |nil=>rfl
 |cons n m ih=>simp[fT,ih]
def fV(U:ad):V->Option (List Int)
 |.own id off len=>match U id with
   |some ob=>if ob.sz=1/\off+len<=ob.rows.length/\len<=200000000000000 then(if(fT ob.rows).isSome then fT ((ob.rows.drop off).take len)else none)else none
   |none=>none
 |.sl 1 rows=>if rows.length<=200000000000000 then fT rows else none
 |_=>none
def mR{U:ad}{sv:V}{l:List Int}(h:fV U sv=some l):Reads U 1 false sv (l.map vI)/\l.length<=200000000000000:=by
 unfold fV at h;split at h
 .rename_i id off len;split at h
  .rename_i ob XL;split at h
   .rename_i hc;split at h
    .rename_i hi;have he:=kj h;obtain⟨m,hm⟩:=Option.isSome_iff_exists.1 hi;have hm:=kj hm;have hr:=Reads.own (U:=U) XL hc.1 hc.2.1 (λr hr=>by rw[hm]at hr;simp only[gb]at hr;obtain⟨n,_,rfl⟩:=hr;rfl);rw[he]at hr;have hl:l.length=len:=by
      have:=congrArg List.length he;simp at this;omega
     exact⟨hr,by omega⟩
    .cases h
   .cases h
  .cases h
 .rename_i rows;split at h
  .rename_i hc;have he:=kj h;subst he;exact⟨Reads.ints,by simpa using hc⟩
  .cases h
 .cases h
def o6{U Z':ad}(hs:aa U Z'){sv:V}{l:List Int}(h:fV U sv=some l):fV Z' sv=some l:=by
 unfold fV at h|-;split at h
 .split at h
  .rename_i ob XL;simp only[hs _ _ XL];exact h
  .cases h
 .exact h
 .cases h
def xE(U:ad){l:List Int}(h:l.length<=200000000000000):fV U (aN l)=some l:=by
 simp only[aN,fV,cJ,ak h];exact pC l
def o10(f:FuncId)(args:List V)(U:ad):Option V:=if f=169 then(match args with
 |[.agg [.int .i64 a,.int .i64 b],sv]=>(fV U sv).map λl=>.bool (l.all λn=>aS n a b)
 |_=>none)else none
def O10:Yi prog where
 get:=o10
 up f args U Z' v hs h:=by
  unfold o10 at h|-;split at h
  .rename_i hf;rw[ak hf];split at h
   .simp only[Zq8]at h|-;obtain⟨l,h1,h2⟩:=h;exact⟨l,o6 hs h1,h2⟩
   .cases h
  .cases h
 ok f args U v h:=by
  unfold o10 at h;split at h
  .rename_i hf;subst hf;split at h
   .simp only[Zq8]at h;obtain⟨l,h1,rfl⟩:=h;obtain⟨g1,g2⟩:=mR h1;exact Mt g1 g2
   .cases h
  .cases h
def wG(a b:Int)(sv:V)(U:ad):O10.get 169 [.agg [.int .i64 a,.int .i64 b],sv] U=(fV U sv).map λl=>.bool (l.all λn=>aS n a b):=rfl
def dh(U:ad)(id off len:Nat):fV U (.own id off len)=match U id with
 |some ob=>if ob.sz=1/\off+len<=ob.rows.length/\len<=200000000000000 then(if(fT ob.rows).isSome then fT ((ob.rows.drop off).take len)else none)else none
 |none=>none:=rfl
def eF(n:Int)(l:List V):fT (.int .i64 n::l)=(fT l).map (n::·):=rfl
def ez:fT []=some []:=rfl
def IJ(s:Ye):aE prog 168 [.agg s.cells] (.bool s.ok):=λU=>by
 refine T9.q ?_;refine ag.mix 6 ?_
 (refine ag.bn O10 300 ?_;simp only[go_sem,seval,Sr,Ye.cells])
 refine aj λid1 Z1 s1 a1 f1=>?_;simp only[go_sem,seval];refine aj λid3 Z2 s2 a3 f3=>?_;have n13:=aQ a1 f3;have a1:=s2 _ _ a1;simp only[go_sem,seval];refine aj λid4 Z3 s3 a4 f4=>?_;have n14:=aQ a1 f4;have n34:=aQ a3 f4;have a1:=s3 _ _ a1;have a3:=s3 _ _ a3;have hs:aa U Z3:=(s1.trans s2).trans s3;have g3:U id3=none:=s1.none f3;have g4:U id4=none:=(s1.trans s2).none f4;simp only[go_sem,seval,a1,a3,a4,ab n34,ab n34.symm,ab n13,ab n14];have W2:=λo o'=>(hs.ao (o:=o) g3).ao (o:=o') g4;refine aj λZA Z4 s4 a5 f5=>?_;have a1:=s4 id1 _ (by rw[ab n14,ab n13];exact a1);have a4:=s4 id4 _ af;have hs:=(W2 _ _).trans s4;simp only[go_sem,seval,a1,a4,a5,wG,dh,eF,ez,aS,<-Bool.decide_and];refine And.intro (λp0=>?_) (λp0=>ai.pure hs (by rw[V.bool.injEq];symm;rw[Bool.eq_false_iff];intro h;simp[Ye.ok,aS,mx]at h;omega));refine aj λid6 Z5 s5 a6 f6=>?_;have a1:=s5 _ _ a1;have hs:=hs.trans s5;simp only[go_sem,seval,a1,a6,wG,dh,eF,ez,aS,<-Bool.decide_and];refine And.intro (λp1=>?_) (λp1=>ai.pure hs (by rw[V.bool.injEq];symm;rw[Bool.eq_false_iff];intro h;simp[Ye.ok,aS,mx]at h;omega));refine aj λid7 Z6 s6 a7 f7=>?_;have a1:=s6 _ _ a1;have hs:=hs.trans s6;simp only[go_sem,seval,a1,a7,wG,dh,eF,ez,aS,<-Bool.decide_and];refine And.intro (λp2=>?_) (λp2=>ai.pure hs (by rw[V.bool.injEq];symm;rw[Bool.eq_false_iff];intro h;simp[Ye.ok,aS,mx]at h;omega));refine aj λid8 Z7 s7 a8 f8=>?_;have a1:=s7 _ _ a1;have hs:=hs.trans s7;simp only[go_sem,seval,a1,a8,wG,dh,eF,ez,aS];refine And.intro (λp3=>?_) (λp3=>ai.pure hs (by rw[V.bool.injEq];symm;rw[Bool.eq_false_iff];intro h;simp[Ye.ok,aS,mx]at h;omega));refine aj λid9 Z8 s8 a9 f9=>?_;have a1:=s8 _ _ a1;have hs:=hs.trans s8;simp only[go_sem,seval,a9,wG,dh,eF,ez,aS];refine ai.pure hs ?_;rw[V.bool.injEq,Bool.eq_iff_iff];simp[Ye.ok,aS,mx];omega
open Go.Proofs
def dZ(l:List Nd):Int:=if Xh l then(if(gl l).1.depth>16\/(gl l).1.pieces>2000\/(gl l).1.nodes>2000\/(gl l).1.V'>1099511627776 then 2 else 0)else 4
def Ev(l:List Nd)(hl:dz l):aE prog 39 [ay l] (vI (dZ l)):=λU=>by
 refine e39.q ?_;refine mS 6 ?_;simp only[go_sem,seval,bh,dM,c39];refine pS rfl (Bn l hl _) ?_;simp only[go_sem,seval,bh,dM,Sm.cells,jY];intro id M';have E':=λo=>(aa.refl U).C' M' (o:=o);have hc:(gl l).2=if Xh l then 0 else 4:=by unfold gl;split<;>rfl
 refine And.intro (λh=>?_) (λh=>?_)
 .refine ai.pure (E' _) ?_;have:Xh l=false:=by
   rw[hc]at h;cases hb:Xh l<;>simp_all
  simp[dZ,this,hc]
 .have hb:Xh l=true:=by
   rw[hc]at h;cases hb:Xh l<;>simp_all
  repeat' (first
   |with_reducible refine And.intro (λh=>?_) (λh=>?_)
   |with_reducible refine ai.pure (E' _) ?_)
  all_goals (simp only[dZ,hb,if_true,V.int.injEq,true_and];split<;>simp_all<;>omega)
open Go.Proofs
def o12(f:FuncId)(args:List V)(U:ad):Option V:=if f=169 then(match args with
 |[.agg [.int .i64 a,.int .i64 b],sv]=>(fV U sv).map λl=>.bool (l.all λn=>aS n a b)
 |_=>none)else if f=168 then(match args with
 |[.agg [.int .i64 a,.int .i64 b,.int .i64 c,.int .i64 d,.int .i64 e,.int .i64 f,.int .i64 g,.int .i64 h,.int .i64 i,.int .i64 j,.int .i64 k,.int .i64 l]]=>some (.bool (Ye.ok ⟨a,b,c,d,e,f,g,h,i,j,k,l⟩))
 |_=>none)else none
def O12:Yi prog where
 get:=o12
 up f args U Z' v hs h:=by
  unfold o12 at h|-;split at h
  .rename_i hf;rw[ak hf];split at h
   .simp only[Zq8]at h|-;obtain⟨l,h1,h2⟩:=h;exact⟨l,o6 hs h1,h2⟩
   .cases h
  .rename_i hf;rw[au hf];exact h
 ok f args U v h:=by
  unfold o12 at h;split at h
  .rename_i hf;subst hf;split at h
   .simp only[Zq8]at h;obtain⟨l,h1,rfl⟩:=h;obtain⟨g1,g2⟩:=mR h1;exact Mt g1 g2
   .cases h
  .split at h
   .rename_i hf;subst hf;split at h
    .simp only[aI]at h;subst h;exact IJ ⟨_,_,_,_,_,_,_,_,_,_,_,_⟩ U
    .cases h
   .cases h
def rA(a b:Int)(sv:V)(U:ad):O12.get 169 [.agg [.int .i64 a,.int .i64 b],sv] U=(fV U sv).map λl=>.bool (l.all λn=>aS n a b):=rfl
def wj(a b c d e f g h i j k l:Int)(U:ad):O12.get 168 [.agg [.int .i64 a,.int .i64 b,.int .i64 c,.int .i64 d,.int .i64 e,.int .i64 f,.int .i64 g,.int .i64 h,.int .i64 i,.int .i64 j,.int .i64 k,.int .i64 l]] U=
 some (.bool (Ye.ok ⟨a,b,c,d,e,f,g,h,i,j,k,l⟩)):=rfl
def kr(s:Ye):(decide (s.top=0)&&(decide (s.WV=0)&&(decide (s.WD=0)&&(decide (s.O'=0)&&(decide (s.Xl=0)&&(decide (s.WE=0)&&(decide (s.WW=0)&&(decide (s.head=0)&&
 (decide (s.before=0)&&(decide (s.after=0)&&(decide (s.inside=0)&&decide (s.clear=0))))))))))))=decide (s=Ye.zero):=by
 rw[Bool.eq_iff_iff];cases s;simp[Ye.zero]
def LQ(x:Nd)(hl:x.words.length<=200000000000000)(k4:x.kind=4):aE prog 121 [dW x] (.bool x.ok):=λU=>by
 refine Q1.q ?_;refine ag.mix 6 ?_
 (refine ag.bn O12 300 ?_;simp only[go_sem,seval,Nb,dW,Nd.cells])
 refine aj λid1 Z1 s1 a1 f1=>?_;simp only[go_sem,seval];refine aj λid3 Z2 s2 a3 f3=>?_;have n13:=aQ a1 f3;have a1:=s2 _ _ a1;have hs:=(s1.trans s2).ao (s1.none f3) (o:=⟨238,2,[.agg [vI 1,vI 1099511627776]]⟩);have hok3:x.ok=(decide (x.st=Ye.zero)&&(decide (x.line=0)&&decide (x.space=0)&&decide (x.words.length=0)&&aS x.w 1 mx&&aS x.h 1 mx&&aS x.side 1 2)):=by
  by_cases WM:x.st=Ye.zero<;>simp[Nd.ok,k4,WM]
 simp only[go_sem,seval,a1,a3,ab n13,kr,dn,k4,wj,jY,af];refine And.intro (λe1=>And.intro (λe2=>And.intro (λz=>And.intro (λw=>?_) (λw=>?_)) (λz=>?_)) (λe2=>?_)) (λe1=>?_)
 .refine aj λid4 Z3 s3 a4 f4=>?_;have a1:=s3 id1 _ (by rw[ab n13];exact a1);have a3:=s3 id3 _ af;have hs:=hs.trans s3;simp only[go_sem,seval,a1,a4,rA,dh,eF,ez,aS,oS,List.all_nil,<-Bool.decide_and];refine And.intro (λq1=>?_) (λq1=>ai.pure hs ?_)
  .refine aj λZA Z4 s4 a5 f5=>?_;have a1:=s4 _ _ a1;have hs:=hs.trans s4;simp only[go_sem,seval,a5,rA,dh,eF,ez,aS,oS,List.all_nil];refine ai.pure hs ?_;rw[V.bool.injEq,hok3,Bool.eq_iff_iff];simp only[aS,mx];simp at w;simp[e1,e2,z,w];omega
  .rw[V.bool.injEq,hok3,Bool.eq_iff_iff];simp only[aS,mx];simp[e1,e2,z];omega
 all_goals (repeat' (first
  |with_reducible refine And.intro (λh=>?_) (λh=>?_)
  |with_reducible refine ai.pure hs ?_))
 all_goals (rw[V.bool.injEq,hok3,Bool.eq_iff_iff];simp_all)
def NP(x:Nd)(hl:x.words.length<=200000000000000):aE prog 121 [dW x] (.bool x.ok):=λU=>by
 by_cases k4:x.kind=4
 .exact LQ x hl k4 U
 refine Q1.q ?_;refine ag.mix 6 ?_
 (refine ag.bn O12 300 ?_;simp only[go_sem,seval,Nb,dW,Nd.cells])
 refine aj λid1 Z1 s1 a1 f1=>?_;simp only[go_sem,seval];refine aj λid3 Z2 s2 a3 f3=>?_;have n13:=aQ a1 f3;have a1:=s2 _ _ a1;have hs:=(s1.trans s2).ao (s1.none f3) (o:=⟨238,2,[.agg [vI 1,vI 1099511627776]]⟩);have hz:(x.kind=1->x.ok=(x.st.ok&&decide (x.line=0)&&decide (x.space=0)&&decide (x.words.length=0)&&decide (x.side=0)&&decide (x.w=0)&&decide (x.h=0))):=λh=>by simp[Nd.ok,h]
 have hwl:x.words.length<=200000000000000:=by omega
 by_cases k1:x.kind=1
 .simp only[go_sem,seval,a1,a3,ab n13,kr,dn,k1,wj,jY];rw[hz k1]
  repeat' (first
   |with_reducible refine And.intro (λh=>?_) (λh=>?_)
   |with_reducible refine ai.pure hs ?_)
  all_goals (rw[V.bool.injEq,Bool.eq_iff_iff];simp_all)
 .by_cases k2:x.kind=2
  .by_cases e1:x.line=0
   .have hok0:x.ok=false:=by
     by_cases WM:x.st=Ye.zero<;>simp[Nd.ok,k2,WM,e1,aS]
    rw[hok0];simp only[go_sem,seval,a1,a3,ab n13,kr,dn,k2,e1,wj,jY,af]
    repeat' (first
     |with_reducible refine And.intro (λh=>?_) (λh=>?_)
     |with_reducible refine ai.pure hs rfl
     |(refine aj λid4 Z3 s3 a4 f4=>?_
       have a1:=s3 id1 _ (by rw[ab n13];exact a1);have a3:=s3 id3 _ af;simp only[go_sem,seval,a4,rA,dh,eF,ez,aS,oS,List.all_nil,false_and];exact ai.pure (hs.trans s3) rfl))
   .simp only[go_sem,seval,a1,a3,ab n13,kr,k2,e1,jY,af];have hok2:x.ok=(decide (x.st=Ye.zero)&&(x.words.all (aS · 1 mx)&&decide (0<x.words.length)&&aS x.line 1 mx&&aS x.space 0 mx&&decide (x.side=0)&&decide (x.w=0)&&decide (x.h=0))):=by
     by_cases WM:x.st=Ye.zero<;>simp[Nd.ok,k2,WM]
    refine And.intro (λz=>?_) (λz=>ai.pure hs (by rw[hok2];simp_all));refine And.intro (λw1=>?_) (λw1=>ai.pure hs (by rw[hok2];simp[w1]));refine And.intro (λw2=>?_) (λw2=>ai.pure hs (by rw[hok2];simp[w2]));refine And.intro (λw3=>?_) (λw3=>ai.pure hs (by rw[hok2];simp[w3]));refine aj λid4 Z3 s3 a4 f4=>?_;have a1:=s3 id1 _ (by rw[ab n13];exact a1);have a3:=s3 id3 _ af;have hs:=hs.trans s3;simp only[go_sem,seval,a1,a3,a4,rA,dh,eF,ez,xE _ hwl,qJ (List.all _ _)];refine And.intro (λq1=>?_) (λq1=>ai.pure hs (by rw[hok2];simp[mx]at q1|-;simp[q1]));refine And.intro (λq2=>?_) (λq2=>ai.pure hs (by rw[hok2];simp only[mx,q2];simp));refine aj λZA Z4 s4 a5 f5=>?_;have a1:=s4 _ _ a1;have hs:=hs.trans s4;simp only[go_sem,seval,a1,a5,rA,dh,eF,ez,dn,qJ (List.all _ _)];refine And.intro (λq3=>?_) (λq3=>ai.pure hs (by rw[hok2];simp[mx]at q3|-;simp[q3]));refine ai.pure hs ?_;rw[hok2];simp only[mx,q1,q2,q3,z,w1,w2,w3];simp
  .have hok3:x.ok=(decide (x.st=Ye.zero)&&(decide (x.line=0)&&decide (x.space=0)&&decide (x.words.length=0)&&aS x.w 1 mx&&aS x.h 1 mx&&
    (decide (x.kind=3)&&decide (x.side=0)||decide (x.kind=4)&&aS x.side 1 2))):=by
    by_cases WM:x.st=Ye.zero<;>simp[Nd.ok,k1,k2,WM]
   by_cases k3:x.kind=3
   .simp only[go_sem,seval,a1,a3,ab n13,kr,dn,k3,wj,jY,af]
    repeat' (first
     |with_reducible refine And.intro (λh=>?_) (λh=>?_)
     |with_reducible refine ai.pure hs ?_
     |(refine aj λid4 Z3 s3 a4 f4=>?_
       have a1:=s3 id1 _ (by rw[ab n13];exact a1);have a3:=s3 id3 _ af;simp only[go_sem,seval,a4,rA,dh,eF,ez,aS,oS,List.all_nil,<-Bool.decide_and];refine ai.pure (hs.trans s3) ?_))
    all_goals (rw[V.bool.injEq,hok3,Bool.eq_iff_iff];simp_all [aS,mx]<;>omega)
   .simp only[go_sem,seval,a1,a3,ab n13,kr,dn,k1,k2,k3,k4,wj,jY,af]
    repeat' (first
     |with_reducible refine And.intro (λh=>?_) (λh=>?_)
     |with_reducible refine ai.pure hs ?_)
    all_goals (rw[V.bool.injEq,hok3];simp[k3,k4])
open Go.Proofs
def tW(i:Nat):List Int->List Int
 |a::b::s=>if a=i then tW i (b::s)else a::b::s
 |s=>s
def isS:List Nd->Nat->List Int->Bool
 |[],_,_=>true
 |x::r,i,ZG=>match tW i ZG with
  |[]=>false
  |a::s=>if x.ok=true/\1<=x.size/\x.size<=a-i/\(x.kind=1\/x.size<=1)then isS r (i+1) ((i+x.size)::a::s)else false
def Asc(n:Nat):Nat->List Int->Prop
 |lo,[]=>lo=n
 |lo,a::s=>(lo:Int)<=a/\Asc n a.toNat s
def lH(l:List Nd):Nat->List Int->Bool
 |_,[]=>true
 |lo,a::s=>bG l lo a.toNat&&lH l a.toNat s
def Ga(l:List Nd)(a:Nat):bG l a a=true:=by rw[bG,dif_neg (Nat.lt_irrefl a)]
def u4(l:List Nd)(n i:Nat)(hi:i<n):∀ZG,Asc n i ZG->∃a s,tW i ZG=a::s/\(i:Int)<a/\Asc n i (a::s)/\lH l i (a::s)=lH l i ZG
 |[],h=>by simp only[Asc]at h;omega
 |[a],h=>by
  have h':=h;simp only[Asc]at h';exact⟨a,[],rfl,by omega,h,rfl⟩
 |a::b::s,h=>by
  by_cases ha:a=i
  .have h':=h.2;rw[ha,eU]at h';obtain⟨c,t,g1,g2,g3,g4⟩:=u4 l n i hi (b::s) h';refine⟨c,t,by simp[tW,ha,g1],g2,g3,?_⟩;rw[g4];show _=(bG l i a.toNat&&lH l a.toNat (b::s));rw[ha,eU,Ga,Bool.true_and]
  .have h':=h.1;exact⟨a,b::s,by simp[tW,ha],by omega,h,rfl⟩
def Ed(l:List Nd):∀(r:List Nd) (i:Nat) (ZG:List Int),l.drop i=r->Asc l.length i ZG->isS r i ZG=(r.all Nd.ok&&lH l i ZG)
 |[],i,ZG,hr,hs=>by
  have hi:l.length<=i:=by simpa using hr
  have key:∀(ZG:List Int) (lo:Nat),l.length<=lo->Asc l.length lo ZG->lH l lo ZG=true:=by
   intro ZG
   induction ZG with
   |nil=>intro _ _ _;rfl
   |cons a s ih=>
    intro lo XI h;have h1:=h.1;simp only[lH];rw[ih a.toNat (by omega) h.2,bG,Bool.and_true];split
    .have:l[lo]?=none:=by simp[XI]
     rw[this];have hend:∀(ZG:List Int) (lo:Nat),Asc l.length lo ZG->lo<=l.length:=by
      intro ZG
      induction ZG with
      |nil=>intro lo h;simp only[Asc]at h;omega
      |cons b t ih=>intro lo h;have:=h.1;have:=ih _ h.2;omega
     have:=hend _ _ h.2;omega
    .rfl
  simp[isS,key ZG i hi hs]
 |x::r,i,ZG,hr,hs=>by
  have hi:i<l.length:=by
   rcases Nat.lt_or_ge i l.length with h|h
   .exact h
   .rw[Mq h]at hr;cases hr
  have hx:l[i]?=some x:=by
   have:(l.drop i)[0]?=some x:=by rw[hr];rfl
   simpa using this
  have hr':l.drop (i+1)=r:=by
   have:(l.drop i).drop 1=r:=by rw[hr];rfl
   simpa using this
  obtain⟨a,s,h1,h2,h3,h4⟩:=u4 l l.length i hi ZG hs;rw[isS,h1];simp only;rw[<-h4];simp only[lH,oS];have X8:bG l i a.toNat=if _hx:1<=x.size/\x.size<=(a.toNat:Int)-i then
   (decide (x.kind=1)||decide (x.size<=1))&&bG l (i+1) (i+x.size.toNat)&&bG l (i+x.size.toNat) a.toNat else false:=by
   rw[bG,dif_pos (by omega),hx]
  rw[X8];have Yg:(a.toNat:Int)=a:=by omega
  rw[Yg];by_cases hc:1<=x.size/\x.size<=a-i
  .rw[dif_pos hc];have e:(i+x.size).toNat=i+x.size.toNat:=by omega
   have ih:=Ed l r (i+1) ((i+x.size)::a::s) hr' ⟨by omega,by rw[e];omega,h3.2⟩;by_cases hk:x.ok=true/\(x.kind=1\/x.size<=1)
   .rw[ak ⟨hk.1,hc.1,hc.2,hk.2⟩,ih];simp only[lH,e,hk.1,Bool.true_and];have:(decide (x.kind=1)||decide (x.size<=1))=true:=by simpa using hk.2
    rw[this,Bool.true_and,Bool.and_assoc]
   .rw[au (λh=>hk ⟨h.1,h.2.2.2⟩)];symm;rw[Bool.eq_false_iff];intro h;simp only[Ba,lG,YX]at h;exact hk ⟨h.1.1,h.2.1.1.1⟩
  .rw[dif_neg hc,au (λh=>hc ⟨h.2.1,h.2.2.1⟩)];simp
def J4(l:List Nd):isS l 0 [(l.length:Int)]=Xh l:=by
 rw[Ed l l 0 [(l.length:Int)] rfl ⟨by omega,by simp[Asc]⟩];simp[lH,Xh]
open Go.Proofs
def o14(f:FuncId)(args:List V):Option V:=if f=121 then(match args with
 |[.agg [.int .i64 a0,.int .i64 a1,.int .i64 a2,.int .i64 a3,.int .i64 a4,.int .i64 a5,.int .i64 a6,.int .i64 a7,.int .i64 a8,.int .i64 a9,.int .i64 Xm,.int .i64 XF,.int .i64 a12,.int .i64 XM,.int .i64 a14,.int .i64 a15,.sl 1 rows,.int .i64 a17,.int .i64 a18,.int .i64 a19]]=>
  (fT rows).bind λws=>if ws.length<=200000000000000 then some (.bool (Nd.ok ⟨a0,a1,⟨a2,a3,a4,a5,a6,a7,a8,a9,Xm,XF,a12,XM⟩,a14,a15,ws,a17,a18,a19⟩))else none
 |_=>none)else none
def O14:Yi prog where
 get f args _:=o14 f args
 ok f args U v h:=by
  unfold o14 at h;split at h
  .rename_i hf;subst hf;split at h
   .rw[JA]at h;obtain⟨ws,h1,h2⟩:=h;split at h2
    .rename_i hw;simp only[aI]at h2;subst h2;rw[kj h1];exact NP ⟨_,_,⟨_,_,_,_,_,_,_,_,_,_,_,_⟩,_,_,ws,_,_,_⟩ hw U
    .cases h2
   .cases h
  .cases h
def Nu{x:Nd}(hw:x.words.length<=200000000000000)(U:ad):O14.get 121 [.agg [.int .i64 x.kind,.int .i64 x.size,.int .i64 x.st.top,.int .i64 x.st.WV,.int .i64 x.st.WD,.int .i64 x.st.O',.int .i64 x.st.Xl,.int .i64 x.st.WE,.int .i64 x.st.WW,.int .i64 x.st.head,.int .i64 x.st.before,.int .i64 x.st.after,.int .i64 x.st.inside,.int .i64 x.st.clear,.int .i64 x.line,.int .i64 x.space,aN x.words,.int .i64 x.side,.int .i64 x.w,.int .i64 x.h]] U=
 some (.bool x.ok):=by
 show((fT (x.words.map vI)).bind λws=>if ws.length<=200000000000000 then some (V.bool (Nd.ok ⟨x.kind,x.size,⟨x.st.top,x.st.WV,x.st.WD,x.st.O',x.st.Xl,x.st.WE,x.st.WW,x.st.head,x.st.before,x.st.after,x.st.inside,x.st.clear⟩,x.line,x.space,ws,x.side,x.w,x.h⟩))else none)=_;rw[pC,Option.bind_some,ak hw]
def Iw{rows:List V}{k:Nat}{a:Int}{s:List Int}(hk:k=(a::s).length)(ht:rows.take k=(a::s).reverse.map vI):rows[k-1]?=some (.int .i64 a)/\rows.take (k-1)=s.reverse.map vI:=by
 simp only[YI]at hk;have h1:(rows.take k)[k-1]?=rows[k-1]?:=by rw[List.getElem?_take,ak (by omega)]
 constructor
 .rw[<-h1,ht,hk];simp
 .have h2:rows.take (k-1)=(rows.take k).take (k-1):=by rw[List.take_take];congr 1;omega
  rw[h2,ht,hk];simp
def Asc.le{n:Nat}:∀{ZG:List Int} {lo:Nat},Asc n lo ZG->lo<=n
 |[],lo,h=>by simp only[Asc]at h;omega
 |a::s,lo,h=>by have h1:=h.1;have h2:=Asc.le h.2;omega
def EJ(l:List Nd)(hl:dz l):aE prog 78 [ay l] (.bool (Xh l)):=λU=>by
 obtain⟨hl1,hl2⟩:=hl;refine e78.q ?_;refine mS 6 ?_;simp only[go_sem,seval,bh,c78,bK];intro e0 he0;refine ag.loop (λm st=>∃i ZG e k rows,i<=l.length/\m=l.length-i/\Xh l=isS (l.drop i) i ZG/\Asc l.length i ZG/\ZG≠[]/\ZG.length<=i+1/\aa U st.U/\st.U e=some ⟨3,1,rows⟩/\U e=none/\k=ZG.length/\k<=rows.length/\rows.take k=ZG.reverse.map vI/\
  st.s 3=.own e 0 k/\st.s 9=ay l/\st.s 10=vI l.length/\st.s 11=vI i) l.length ?_ ?_
 .refine⟨0,[(l.length:Int)],e0,1,[vI l.length],by omega,by omega,by rw[<-J4];rfl,⟨by omega,by simp[Asc]⟩,by simp,by simp,(aa.refl U).C' he0,af,he0,rfl,by simp,rfl,rfl,rfl,rfl,rfl⟩
 .rintro m ⟨s,Z'⟩ ⟨i,ZG,e,k,rows,hi,rfl,hB,hasc,WZ,hsl,E',X8,hnew,hk,hkr,W4,h3,h9,h10,h11⟩;simp only at E' X8 h3 h9 h10 h11;refine mS 6 ?_;simp only[go_sem,seval,h9,h10,h11];refine And.intro (λB'=>?_) (λZO=>?_)
  .have Xf:i<l.length:=by simp at B';omega
   have hd:l.drop i=l[i]::l.drop (i+1):=iT Xf;have hxw:l[i].words.length<=200000000000000:=hl2 _ (Xo Xf);rw[hd]at hB;generalize hxe:l[i]=x at*;simp only[go_sem,seval,bh,da Xf,hxe,Nd.cells];intro ZA hid5;replace hid5:Z' ZA=none:=hid5;have n5e:e≠ZA:=by rintro rfl;rw[X8]at hid5;cases hid5
   have n5n:U ZA=none:=E'.none hid5;refine ag.loop (λm st=>∃stk' k',m=stk'.length/\tW i ZG=tW i stk'/\Asc l.length i stk'/\stk'≠[]/\stk'.length<=ZG.length/\st.U=C' Z' ZA ⟨48,20,[.agg x.cells]⟩/\k'=stk'.length/\k'<=rows.length/\rows.take k'=stk'.reverse.map vI/\
    st.s 3=.own e 0 k'/\st.s 4=vI i/\st.s 5=.ptr ZA 0 0/\st.s 9=ay l/\st.s 10=vI l.length/\st.s 11=vI i) ZG.length ?_ ?_
   .exact⟨ZG,k,rfl,rfl,hasc,WZ,Xc _,rfl,hk,hkr,W4,h3,rfl,rfl,h9,h10,h11⟩
   .rintro m ⟨s,Z''⟩ ⟨stk',k',rfl,hpop,hasc',hne',hsl',WY,YH,hkr',htk',h3,h4,h5,h9,h10,h11⟩;simp only at WY h3 h4 h5 h9 h10 h11;subst WY;obtain⟨a,tl,rfl⟩:=List.exists_cons_of_ne_nil hne';obtain⟨htop,htk2⟩:=Iw YH htk';have hkpos:1<=k':=by rw[YH];simp
    have g0:(k':Int)-1<k':=by omega
    have g1:(0:Int)<=(k':Int)-1:=by omega
    have g2:(k':Int)-1<=k':=by omega
    have g3:((k':Int)-1).toNat=k'-1:=by omega
    have hrng:WI .i64 ((k':Int)-1):=ae;refine ag.mix 6 ?_
    (refine ag.bn O14 300 ?_;simp only[go_sem,seval,bh,h3,h4,h5,h9,h10,h11,ab n5e,X8,g0,g1,g2,g3,Int.le_refl,Int.toNat_zero,Nat.sub_zero,htop,jY,Nd.cells,Nu hxw,qJ (Nd.ok x)])
    refine And.intro (λh1=>⟨hrng,And.intro (λh2=>?_) (λh2=>?_)⟩) (λh1=>?_)
    .obtain⟨b,tl',rfl⟩:∃b tl',tl=b::tl':=by
      cases tl with
      |nil=>simp at YH;omega
      |cons b tl'=>exact⟨b,tl',rfl⟩
     have hp2:tW i (a::b::tl')=tW i (b::tl'):=by simp[tW,h2]
     have ha2:=hasc'.2;rw[h2,eU]at ha2;refine⟨hrng,_,?_,b::tl',k'-1,rfl,by rw[hpop,hp2],ha2,by simp,?_,?_,by omega,htk2,rfl⟩
     .simp
     .simp only[YI]at hsl'|-;omega
     .simp only[YI]at YH|-;omega
    all_goals
     have hps:tW i (a::tl)=a::tl:=by
      cases tl with
      |nil=>rfl
      |cons b tl'=>
       have:a≠i:=by first
        |simpa using h2
        |(exfalso;simp at YH h1;omega)
       simp[tW,this]
     obtain⟨c,t,p1,p2,p3,p4⟩:=u4 l l.length i Xf (a::tl) hasc';rw[hps,List.cons.injEq]at p1;obtain⟨rfl,rfl⟩:=p1;have hIs:Xh l=if x.ok=true/\1<=x.size/\x.size<=a-i/\(x.kind=1\/x.size<=1)then isS (l.drop (i+1)) (i+1) ((i+x.size)::a::tl)else false:=by
      rw[hB,isS,hpop,hps]
     have hale:=Asc.le p3.2;have hlenk:(rows.take k').length=k':=by simp;omega
     have hstk:k'<=i+1:=by rw[YH];omega
     have happ:x.ok=true/\1<=x.size/\x.size<=a-i/\(x.kind=1\/x.size<=1)->∀(X Y:Ob) (id id1:Nat),C' Z' ZA X id=none->C' (C' Z' ZA X) id Y id1=none->
      Xh l=isS (l.drop (i+1)) (i+1) ((i+x.size)::a::tl)/\Asc l.length (i+1) ((i+x.size)::a::tl)/\aa U (C' (del (C' (C' Z' ZA X) id Y) e) id1 ⟨3,1,rows.take k'++[.int .i64 (i+x.size)]⟩)/\U id1=none/\
      (rows.take k'++[V.int .i64 (i+x.size)]).take (k'+1)=((i+x.size)::a::tl).reverse.map vI:=by
      intro hc X Y id id1 M' hid1;rw[gm]at M';rw[gm,gm]at hid1;rw[ak hc]at hIs;refine⟨hIs,⟨by omega,?_,p3.2⟩,?_,E'.none hid1.2.2,?_⟩
      .have:(i+x.size).toNat=i+x.size.toNat:=by omega
       omega
      .exact aa.ao (aa.pI ((E'.ao n5n).ao (E'.none M'.2)) hnew) (E'.none hid1.2.2)
      .rw[lf (by simp;omega),htk'];simp
     refine And.intro (λq1=>And.intro (λq2=>⟨hrng,ae,And.intro (λq3=>And.intro (λq4=>And.intro (λq5=>?_) (λq5=>?_)) (λq4=>?_)) (λq3=>?_)⟩) (λq2=>?_)) (λq1=>?_)
     .refine ai.pure (E'.C' hid5) ?_;rw[hIs,au];rintro⟨c1,c2,c3,c4⟩;omega
     .refine⟨ae,?_⟩;intro id M';have hid':=(gm.1 M').2;have nie:e≠id:=by rintro rfl;rw[X8]at hid';cases hid'
      have XG:∀U,U e=some ⟨3,1,rows⟩->bC U 3 1 (.own e 0 k')=some (rows.take k',some e):=by
       intro U WY;simp only[bC,WY];rw[ak ⟨trivial,trivial,trivial,hkr'⟩]
      have X7:∀U,U id=some ⟨3,1,[.int .i64 (i+x.size)]⟩->bc U 1 (.own id 0 1)=some [.int .i64 (i+x.size)]:=by
       intro U WY;simp only[bc,WY];rw[ak (by simp)];simp
      have hb:(k'+1)*9<=140737488355328:=by omega
      simp only[go_sem,seval,bh,XG,X7,ab n5e,ab nie,X8,hlenk,hb,bz,h9,h10,h11];intro id1 hid1;obtain⟨z1,z2,z3,z4,z5⟩:=happ ⟨by simpa using q1,by omega,by omega,by first|(left;simpa using q4)|(right;simp at q5;omega)⟩ _ _ id id1 M' hid1
      refine⟨ae,_,?_,i+1,_,id1,k'+1,_,by omega,rfl,z1,z2,by simp,?_,z3,af,z4,?_,?_,z5,rfl,?_⟩
      .omega
      .simp only[YI]at YH hsl'|-;omega
      .simp only[YI]at YH|-;omega
      .simp;omega
      .simp
     .refine⟨ae,?_⟩;intro id M';have hid':=(gm.1 M').2;have nie:e≠id:=by rintro rfl;rw[X8]at hid';cases hid'
      have XG:∀U,U e=some ⟨3,1,rows⟩->bC U 3 1 (.own e 0 k')=some (rows.take k',some e):=by
       intro U WY;simp only[bC,WY];rw[ak ⟨trivial,trivial,trivial,hkr'⟩]
      have X7:∀U,U id=some ⟨3,1,[.int .i64 (i+x.size)]⟩->bc U 1 (.own id 0 1)=some [.int .i64 (i+x.size)]:=by
       intro U WY;simp only[bc,WY];rw[ak (by simp)];simp
      have hb:(k'+1)*9<=140737488355328:=by omega
      simp only[go_sem,seval,bh,XG,X7,ab n5e,ab nie,X8,hlenk,hb,bz,h9,h10,h11];intro id1 hid1;obtain⟨z1,z2,z3,z4,z5⟩:=happ ⟨by simpa using q1,by omega,by omega,by first|(left;simpa using q4)|(right;simp at q5;omega)⟩ _ _ id id1 M' hid1
      refine⟨ae,_,?_,i+1,_,id1,k'+1,_,by omega,rfl,z1,z2,by simp,?_,z3,af,z4,?_,?_,z5,rfl,?_⟩
      .omega
      .simp only[YI]at YH hsl'|-;omega
      .simp only[YI]at YH|-;omega
      .simp;omega
      .simp
     .refine ai.pure (E'.C' hid5) ?_;rw[hIs,au];rintro⟨c1,c2,c3,c4⟩;omega
     .refine ai.pure (E'.C' hid5) ?_;rw[hIs,au];rintro⟨c1,c2,c3,c4⟩;omega
     .refine ai.pure (E'.C' hid5) ?_;rw[hIs,au];rintro⟨c1,c2,c3,c4⟩;exact q1 (by simp[c1])
  .have hi':i=l.length:=by simp at ZO;omega
   refine ai.pure E' ?_;rw[hB,hi',xD];rfl
open Go.Proofs
def lN(times n:Int):Int:=if n=0\/times<=1099511627776/n then n*times else 1099511627777
def mW(times h:Int):List Int->Int
 |[]=>h
 |n::l=>mW times (min (h+lN times n) 1099511627777) l
def fG(i:Nat)(x:Nd)(s:Sm)(ends:List Int):Sm×List Int:=
 let ends:=ends.filter λn=>!decide (n<=(i:Int))
 if x.kind=1 then
  let ends:=ends++[i+x.size]
  (⟨max s.depth ends.length,s.pieces,s.nodes+1,mW 1 s.V' [x.st.top,x.st.WV,x.st.WD,x.st.O',x.st.head]⟩,ends)
 else if x.kind=2 then(⟨s.depth,s.pieces+x.words.length,s.nodes+1,mW x.words.length s.V' [x.line]⟩,ends)
 else(⟨s.depth,s.pieces+1,s.nodes+1,mW 1 s.V' [x.h]⟩,ends)
def jl(l:List Nd):Nat->Sm×List Int
 |0=>(⟨0,0,0,0⟩,[])
 |i+1=>match l[i]? with
  |some x=>fG i x (jl l i).1 (jl l i).2
  |none=>jl l i
def BX{times n:Int}(h0:0<=n)(h1:n<=mx)(t0:0<=times)(a:Int)(ha:0<=a):min (a+lN times n) 1099511627777=min (a+n*times) 1099511627777:=by
 unfold lN;split
 .rfl
 .rename_i h;have hn:0<n:=by omega
  have hq:1099511627776/n<times:=by omega
  have h2:1099511627776<n*times:=by
   have:=Int.ediv_lt_iff_lt_mul (a:=1099511627776) (b:=times) hn;have h3:=this.1 hq;rw[Int.mul_comm];exact h3
  omega
def um{a b:Int}(h1:0<=a/\a<=1099511627777)(h2:0<=b):∀n:Nat,BT a b n=min (a+b*n) 1099511627777
 |0=>by simp[BT];omega
 |n+1=>by
  rw[BT,um h1 h2 n,ji];have e:b*((n+1:Nat):Int)=b*n+b:=by rw[Int.natCast_add,Int.mul_add];simp
  rw[e];have:0<=b*(n:Int):=Int.mul_nonneg h2 (by omega);generalize b*(n:Int)=q at*;omega
def l6{h n:Int}(h1:0<=h)(n0:0<=n)(n1:n<=mx):min (h+lN 1 n) 1099511627777=ji h n:=by
 rw[BX n0 n1 (by omega) h h1,Int.mul_one];rfl
def kR(l:List Nd)(i:Nat):Nat->List Int
 |0=>[]
 |k+1=>kR l i k++(match l[k]? with
  |some y=>if y.kind=1/\(i:Int)<k+y.size then[(k:Int)+y.size]else[]
  |none=>[])
def pe(l:List Nd)(i:Nat):∀k,((kR l i k).length:Int)=eW l i k
 |0=>rfl
 |k+1=>by
  simp only[kR,eW,gn,Int.natCast_add,pe l i k];cases l[k]? with
  |none=>simp
  |some y=>simp only[];split<;>simp
def ph(l:List Nd)(i:Nat):∀k,(kR l i k).filter (λn=>!decide (n<=((i+1:Nat):Int)))=kR l (i+1) k
 |0=>rfl
 |k+1=>by
  simp only[kR,List.filter_append,ph l i k];congr 1;split
  .rename_i y _;by_cases hk:y.kind=1
   .by_cases h1:((i+1:Nat):Int)<k+y.size
    .rw[ak ⟨hk,by omega⟩,ak ⟨hk,h1⟩];have:¬((k:Int)+y.size<=((i+1:Nat):Int)):=by omega
     simp only[List.filter_cons,this,decide_false,Bool.not_false,if_true,List.filter_nil]
    .rw[au (show¬(y.kind=1/\((i+1:Nat):Int)<k+y.size)from λh=>h1 h.2)];split
     .have:(k:Int)+y.size<=((i+1:Nat):Int):=by omega
      simp only[List.filter_cons,this,decide_true,Bool.not_true,fO,if_false,List.filter_nil]
     .rfl
   .rw[au (λh=>hk h.1),au (λh=>hk h.1)];rfl
  .rfl
def mY(l:List Nd)(hl:dz l)(hb:Xh l=true):∀i,i<=l.length->(jl l i).1={ fL l ⟨0,0,l.length,0⟩ i with nodes:=i }/\(jl l i).2=(match i with
 |0=>[]
 |j+1=>kR l j (j+1))/\(fL l ⟨0,0,l.length,0⟩ i).qQ i/\(fL l ⟨0,0,l.length,0⟩ i).nodes=l.length
 |0,_=>⟨rfl,rfl,by simp[fL,Sm.qQ],rfl⟩
 |i+1,hi=>by
  obtain⟨h1,h2,h3,h4⟩:=mY l hl hb i (by omega);have WB:l.all Nd.ok=true/\bG l 0 l.length=true:=by simpa[Xh]using hb
  have hx:=(fC.1 WB.1) _ (Xo (show i<l.length by omega));have hg:l[i]?=some l[i]:=by simp[show i<l.length by omega]
  obtain⟨z1,z2,z3⟩:=ir l (l.length+1) 0 l.length (by omega) (by omega) WB.2 i (by omega) (by omega) (by omega);have hw:=hl.2 _ (Xo (show i<l.length by omega));have hfine:=rU (l:=l) hx hw h3;generalize hxe:l[i]=x at*;obtain⟨p1,p2,p3,p4,p5,p6⟩:=jv hx;have hS:jl l (i+1)=fG i x (jl l i).1 (jl l i).2:=by simp only[jl,hg]
  have hR:fL l ⟨0,0,l.length,0⟩ (i+1)=mc l i x (fL l ⟨0,0,l.length,0⟩ i):=by simp only[fL,hg]
  have hf:(jl l i).2.filter (λn=>!decide (n<=(i:Int)))=kR l i i:=by
   rw[h2];cases i with
   |zero=>rfl
   |succ j=>exact ph l j (j+1)
  rw[hS,hR,h1];generalize hsm:fL l ⟨0,0,l.length,0⟩ i=sm at*;obtain⟨f1,f2,f3⟩:=h3;have hends:kR l i (i+1)=kR l i i++(if x.kind=1 then[(i:Int)+x.size]else[]):=by
   simp only[kR,hg];by_cases hk:x.kind=1
   .rw[ak ⟨hk,by omega⟩,ak hk]
   .rw[au (λh=>hk h.1),au hk]
  refine⟨?_,?_,by rw[Int.natCast_add];exact hfine,?_⟩
  .by_cases hk:x.kind=1
   .obtain⟨q1,q2,q3,q4,q5⟩:=p6 hk;have r1:=eC f3 q1.1;have r2:=eC r1 q2.1;have r3:=eC r2 q3.1;have r4:=eC r3 q4.1;have hlen:=pe l i (i+1);rw[hends,ak hk]at hlen;simp only[fG,mc,ak hk,hf,mW,Sm.mk.injEq];refine⟨?_,trivial,by simp,?_⟩
    .rw[hlen]
    .rw[l6 f3.1 q1.1 q1.2,l6 r1.1 q2.1 q2.2,l6 r2.1 q3.1 q3.2,l6 r3.1 q4.1 q4.2,l6 r4.1 q5.1 q5.2]
   .by_cases Yf:x.kind=2
    .simp only[fG,mc,au hk,ak Yf,mW,Sm.mk.injEq];refine⟨trivial,trivial,by simp,?_⟩;rw[BX p2 p3 (by omega) _ f3.1,um f3 p2]
    .simp only[fG,mc,au hk,au Yf,mW,Sm.mk.injEq];exact⟨trivial,trivial,by simp,l6 f3.1 p4 p5⟩
  .by_cases hk:x.kind=1
   .simp only[fG,ak hk,hf,hends]
   .by_cases Yf:x.kind=2
    .simp only[fG,au hk,ak Yf,hf,hends,iN]
    .simp only[fG,au hk,au Yf,hf,hends,iN]
  .rw[<-h4];unfold mc;split
   .rfl
   .split<;>rfl
def zu(l:List Nd):Sm×Int:=if Xh l then((jl l l.length).1,0)else(⟨0,0,0,0⟩,4)
def FE(l:List Nd)(hl:dz l):zu l=gl l:=by
 unfold zu gl;by_cases hb:Xh l=true
 .obtain⟨h1,_,_,h4⟩:=mY l hl hb l.length (Xc _);rw[ak hb,ak hb,h1];generalize fL l ⟨0,0,l.length,0⟩ l.length=sm at*;cases sm;simp_all
 .rw[au hb,au hb]
open Go.Proofs
def C5{U:ad}{c:Nat}{i:Int}(h:U c=some ⟨3,1,[vI i]⟩)(n:Int):av prog 123 [vI n,.ptr c 0 0] U λr Z'=>r=.bool (decide (n<=i))/\Z'=U:=by
 refine Tz.q ?_;apply sR;simp only[go_sem,seval,OP,h];exact ai.same rfl
abbrev kept(i:Int)(l:List Int):List Int:=l.filter λn=>!decide (n<=i)
def td{p:Int->Bool}:∀{l:List Int},dd p l<0->l.filter (λn=>!p n)=l
 |[],_=>rfl
 |x::l,h=>by
  simp only[dd]at h;split at h
  .omega
  .rename_i hp;have hp':p x=false:=by simpa using hp
   split at h
   .rename_i h2;simp only[List.filter_cons,hp',Bool.not_false,if_true,td h2]
   .have:=jF p l;omega
def te{p:Int->Bool}:∀{l:List Int},¬dd p l<0->(dd p l).toNat<l.length/\(l.take (dd p l).toNat).filter (λn=>!p n)=l.take (dd p l).toNat/\
 ∀x,l[(dd p l).toNat]?=some x->p x=true
 |[],h=>by simp[dd]at h
 |x::l,h=>by
  simp only[dd]at h|-;split
  .rename_i hp;refine⟨by simp,by simp,?_⟩;intro y hy;simp at hy;subst hy;exact hp
  .rename_i hp;rw[au hp]at h;have hp':p x=false:=by simpa using hp
   split
   .rename_i h2;rw[ak h2]at h;omega
   .rename_i h2;obtain⟨g1,g2,g3⟩:=te h2;have:=jF p l;have e:(dd p l+1).toNat=(dd p l).toNat+1:=by omega
    rw[e];refine⟨by simp;omega,?_,?_⟩
    .simp only[F2,List.filter_cons,hp',Bool.not_false,if_true,g2]
    .simpa using g3
def HY{U:ad}{e c k:Nat}{i:Int}{full:List Int}(he:U e=some ⟨3,1,full.map vI⟩)(hc:U c=some ⟨3,1,[vI i]⟩)(WZ:c≠e)(hk:k<=full.length)(Zh:full.length<=1000000000000):
 av prog 122 [.own e 0 k,.fn 123 [.ptr c 0 0]] U λr Z'=>∃(k':Nat) (full':List Int),r=.own e 0 k'/\Z'=C' U e ⟨3,1,full'.map vI⟩/\k'<=full'.length/\full'.length<=full.length/\full'.take k'=kept i (full.take k):=by
 have hlk:(full.take k).length=k:=by simp;omega
 have hr:Reads U 1 false (.own e 0 k) ((full.take k).map vI):=by
  have:=Reads.own (U:=U) (off:=0) (len:=k) he rfl (by simpa using hk) (λr hr=>by simp only[gb]at hr;obtain⟨n,_,rfl⟩:=hr;rfl);simpa using this
 refine Pp.q ?_;refine mS 8 ?_;simp only[go_sem,seval,M4];refine pR rfl (nC (p:=λn=>decide (n<=i)) hr (by omega) (λn _=>C5 hc n)) ?_;generalize hw:dd (λn=>decide (n<=i)) (full.take k)=w;have hwg:-1<=w:=by rw[<-hw];exact jF _ _
 apply sR;simp only[go_sem,seval];have Zl:C' U e ⟨3,1,full.map vI⟩=U:=by
  funext j;simp only[C'];split
  .rename_i e';rw[e',he]
  .rfl
 refine And.intro (λhm=>?_) (λhm=>?_)
 .refine⟨_,U,aa.refl U,Wk.refl (aa.refl U) _,k,full,rfl,Zl.symm,hk,Xc _,?_⟩;exact(td (by rw[hw];omega)).symm
 .have hw0:¬dd (λn=>decide (n<=i)) (full.take k)<0:=by rw[hw];omega
  obtain⟨g1,g2,g3⟩:=te hw0;rw[hw]at g1 g2 g3;rw[hlk]at g1;refine⟨ae,?_⟩;refine ag.loop (λm st=>∃(u j:Nat) (cur:List Int),u<j/\j<=k/\m=k-j/\cur.length=full.length/\cur.take u=kept i (full.take j)/\(∀q,j<=q->cur[q]?=full[q]?)/\st.U=C' U e ⟨3,1,cur.map vI⟩/\
   st.s 0=.own e 0 k/\st.s 1=.fn 123 [.ptr c 0 0]/\st.s 5=vI u/\st.s 6=vI j) (k-(w.toNat+1)) ?_ ?_
  .have hw1:w=((w.toNat:Nat):Int):=by omega
   refine⟨w.toNat,w.toNat+1,full,by omega,by omega,rfl,rfl,?_,λ_ _=>rfl,Zl.symm,rfl,rfl,?_,?_⟩
   .have hx:(full.take k)[w.toNat]?=some (full[w.toNat]'(by omega)):=by rw[List.getElem?_take,ak g1,Zq6]
    have hp:=g3 _ hx;have e1:(full.take k).take w.toNat=full.take w.toNat:=by rw[List.take_take];congr 1;omega
    rw[e1]at g2;rw[Yz (by omega)];have g2':kept i (full.take w.toNat)=full.take w.toNat:=g2;simp only[kept,List.filter_append]at g2'|-;rw[g2'];simp[hp]
   .show vI w=_;rw[<-hw1]
   .show vI (w+1)=_;rw[Int.natCast_add,<-hw1];rfl
  .rintro m ⟨s,Z'⟩ ⟨u,j,cur,huj,hjk,rfl,Yj,hct,hcr,WY,h0,h1,h5,h6⟩;simp only at WY h0 h1 h5 h6;subst WY;refine mS 8 ?_;simp only[go_sem,seval,h0,h5,h6];refine And.intro (λB'=>?_) (λZO=>?_)
   .have Xf:j<k:=by omega
    have hjc:j<cur.length:=by omega
    have YJ:cur[j]?=some cur[j]:=by simp[hjc]
    have ZO:(cur.map vI)[j]?=some (vI cur[j]):=by simp[hjc]
    have b1:(0:Int)<=j:=by omega
    have b2:(j:Int)<k:=by omega
    have b3:(0:Int)<=u:=by omega
    have b4:(u:Int)<k:=by omega
    simp only[go_sem,seval,h1,b1,b2,ZO,eU];refine pR rfl (C5 (i:=i) (by rw[ab WZ];exact hc) cur[j]) ?_;have hgu:(cur.map vI)[u]?=some (vI (cur[u]'(by omega))):=by simp[show u<cur.length by omega]
    apply sR;simp only[go_sem,seval,h0,h1,h5,h6,b3,b4,hgu,eU];have hfj:full[j]?=some cur[j]:=by rw[<-hcr j (Xc _)];exact YJ
    have htj:full.take (j+1)=full.take j++[cur[j]]:=by
     have hjf:j<full.length:=by omega
     rw[Yz hjf];congr 2;rw[Zq6 hjf]at hfj;simpa using hfj
    refine And.intro (λhd=>?_) (λhd=>?_)
    .refine⟨ae,ae,_,?_,u+1,j+1,cur.set u cur[j],by omega,by omega,rfl,by simpa using Yj,?_,?_,?_,?_,?_⟩
     .omega
     .rw[htj];have hul:u<cur.length:=by omega
      have:(cur.set u cur[j]).take (u+1)=cur.take u++[cur[j]]:=by
       rw[Yz (by simpa using hul),List.take_set,List.set_eq_of_length_le (by simp;omega)];simp
      rw[this,hct];simp only[kept,List.filter_append];congr 1;have hd':¬cur[j]<=i:=by simpa using hd
      simp[hd']
     .intro q hq;rw[List.getElem?_set_ne (by omega)];exact hcr q (by omega)
     .simp
     .simp
     .simp
    .refine⟨ae,_,?_,u,j+1,cur,by omega,by omega,rfl,Yj,?_,λq hq=>hcr q (by omega),rfl,?_⟩
     .omega
     .rw[htj,hct];simp only[kept,List.filter_append];have hd':cur[j]<=i:=by simpa using hd
      simp[hd']
     .simp
   .have hjk':j=k:=by omega
    subst hjk';have b3:(0:Int)<=u:=by omega
    have b4:(u:Int)<=j:=by omega
    simp only[go_sem,seval,b3,b4,Int.le_refl,eU];refine ag.clear (id:=e) (off:=u) (len:=j-u) (ob:=⟨3,1,cur.map vI⟩) rfl rfl rfl af rfl (by simp;omega) ?_;apply sR;simp only[go_sem,seval,h0,h5,b3,b4,Int.le_refl,eU,kf,Nat.sub_zero];refine XX ⟨u,cur.take u++List.replicate (j-u) 0++cur.drop (u+(j-u)),by simp,?_,?_,?_,?_⟩
    .simp[List.map_take,List.map_drop]
    .simp;omega
    .simp;omega
    .rw[lh,Om (by simp;omega),List.take_take,Nat.min_self,hct]
open Go.Proofs
def Reads.aB(U:ad):Reads U 1 false .aB []:=⟨rfl,λi v h=>by simp at h⟩
def DO{U:ad}{c:Nat}{i:Int}(hc:U c=some ⟨3,1,[vI i]⟩):av prog 122 [.aB,.fn 123 [.ptr c 0 0]] U λr Z'=>r=.aB/\Z'=U:=by
 refine Pp.q ?_;refine mS 8 ?_;simp only[go_sem,seval,M4];refine pS rfl (nC (l:=[]) (p:=λn=>decide (n<=i)) (Reads.aB U) (by simp) (λn _=>C5 hc n)) ?_;simp only[go_sem,seval,dd];exact ai.same rfl
def G6{times n:Int}(h0:0<=n)(t0:0<=times):0<=lN times n/\lN times n<=1099511627777:=by
 unfold lN;split
 .rename_i h;refine⟨Int.mul_nonneg h0 t0,?_⟩;rcases h with h|h
  .subst h;simp
  .by_cases hn:n=0
   .subst hn;simp
   .have:=Int.mul_le_of_le_ediv (by omega:0<n) h;rw[Int.mul_comm];omega
 .omega
def dk(s:Sm)(ends:V):Ob:=⟨145,5,[.agg [vI s.depth,vI s.pieces,vI s.nodes,vI s.V',ends]]⟩
def rL{U:ad}{c:Nat}{s:Sm}{ends sv:V}{times:Int}{l:List Int}(hc:U c=some (dk s ends))(hr:∀ob,Reads (C' U c ob) 1 false sv (l.map vI))(hl:l.length<=200000000000000)
 (hn:∀n∈l,0<=n/\n<=mx)(ht:0<=times/\times<=200000000000000)(hh:0<=s.V'/\s.V'<=1099511627777)(hends:ends.cells=[ends]):
 av prog 124 [.ptr c 0 0,vI times,sv] U λr Z'=>r=.WC []/\Z'=C' U c (dk { s with V':=mW times s.V' l } ends):=by
 have hlen:dv false sv=some (vI (l.length:Int)):=by simpa using(hr ⟨0,0,[]⟩).1
 have Zl:C' U c (dk s ends)=U:=by
  funext j;simp only[C'];split
  .rename_i e';rw[e',hc]
  .rfl
 refine VA.q ?_;refine mS 9 ?_;simp only[go_sem,seval,Qp,hlen];refine ag.loop (λm st=>∃(i:Nat) (h:Int),i<=l.length/\m=l.length-i/\mW times s.V' l=mW times h (l.drop i)/\(0<=h/\h<=1099511627777)/\st.U=C' U c (dk { s with V':=h } ends)/\
  st.s 0=.ptr c 0 0/\st.s 1=vI times/\st.s 9=sv/\st.s 10=vI l.length/\st.s 11=vI i) l.length ?_ ?_
 .exact⟨0,s.V',by omega,by omega,rfl,hh,Zl.symm,rfl,rfl,rfl,rfl,rfl⟩
 .rintro m ⟨s',Z'⟩ ⟨i,h,hi,rfl,hp,hhh,WY,h0,h1,h9,h10,h11⟩;simp only at h0 h1 h9 h10 h11 WY;subst WY;refine mS 9 ?_;simp only[go_sem,seval,h9,h10,h11];refine And.intro (λB'=>?_) (λZO=>?_)
  .have Xf:i<l.length:=by omega
   have hd:l.drop i=l[i]::l.drop (i+1):=iT Xf;obtain⟨pp,e1,e2⟩:=(hr (dk { s with V':=h } ends)).2 i (vI l[i]) (by simp[Xf]);have hni:=hn _ (Xo Xf);rw[hd,mW]at hp;generalize WZ:l[i]=n at*;have eI:=G6 (n:=n) hni.1 ht.1;simp only[dk]at e1 e2;simp only[mx]at hni;have hq:(1099511627776:Int).tdiv n=1099511627776/n:=Int.tdiv_eq_ediv_of_nonneg (by omega);by_cases hz:n=0
   .have Xn:lN times n=n*times:=by unfold lN;rw[ak (.inl hz)]
    rw[Xn]at hp eI;simp only[go_sem,seval,e1,e2,dk,hz,h0,h1,h9,h10,h11];rw[hz]at hp eI;simp only[Int.zero_mul,Int.add_zero]at hp|-;refine⟨ae,ae,ae,_,?_,i+1,h,by omega,rfl,?_,hhh,?_,by simp⟩
    .omega
    .rw[hp,Int.min_eq_left hhh.2]
    .rw[au (by omega)]
   .simp only[go_sem,seval,e1,e2,dk,hz,h0,h1,h9,h10,h11,hq];have hdiv:0<=1099511627776/n/\1099511627776/n<=1099511627776:=⟨Int.ediv_nonneg (by omega) hni.1,Int.ediv_le_self _ (by omega)⟩
    refine⟨ae,λhle=>?_,λhgt=>?_⟩
    .have Xn:lN times n=n*times:=by unfold lN;rw[ak (.inr hle)]
     rw[Xn]at hp eI;refine⟨ae,ae,ae,_,?_,i+1,min (h+n*times) 1099511627777,by omega,rfl,hp,by omega,?_,by simp⟩
     .omega
     .rw[show(if 1099511627777<h+n*times then 1099511627777 else h+n*times)=min (h+n*times) 1099511627777 by split<;>omega]
    .have Xn:lN times n=1099511627777:=by unfold lN;rw[au (by omega)]
     rw[Xn]at hp eI;refine⟨ae,ae,_,?_,i+1,min (h+1099511627777) 1099511627777,by omega,rfl,hp,by omega,?_,by simp⟩
     .omega
     .rw[show(if 1099511627777<h+1099511627777 then 1099511627777 else h+1099511627777)=min (h+1099511627777) 1099511627777 by split<;>omega]
  .have:i=l.length:=by omega
   refine XX ⟨rfl,?_⟩;rw[hp,this,xD];rfl
open Go.Proofs
def Jg{P:Program}{n:Nat}{Q:St->Prop}{k:List It}{O:Yi P}{f:Nat}{d:Option Nat}{l:List aC}{v:Nat->V}{ob:Ob}{s:Nat->V}{U:ad}{e:Nat}
 (h:∀id Z',aa (del U e) Z'->Z' id=some ob->U id=none->step P O n f (.d l k) ⟨aO s d (v id),Z'⟩ Q):
 Gt P O n f l k d ⟨s,U⟩ Q (some λid=>(v id,Vc.C' (del U e) id ob)):=by
 rw[dM];refine λid M'=>h id _ ((aa.refl _).C' ?_) af M';by_cases e':id=e
 .simp[del,e']
 .rw[cA e'];exact M'
def uV{P:Program}{n:Nat}{Q:St->Prop}{k:List It}{O:Yi P}{f:Nat}{d:Option Nat}{l:List aC}{v:Nat->V}{ob:Ob}{s:Nat->V}{U:ad}{e:Nat}
 (h:∀id Z',aa (del U e) Z'->Z' id=some ob->U id=none->step P O n f (.r (.ops l::k)) ⟨aO s d (v id),Z'⟩ Q):
 Gq P O n f l k d ⟨s,U⟩ Q (some λid=>(v id,Vc.C' (del U e) id ob)):=by
 rw[bh];refine λid M'=>h id _ ((aa.refl _).C' ?_) af M';by_cases e':id=e
 .simp[del,e']
 .rw[cA e'];exact M'
def mJ(K U:ad)(v:V)(ends:List Int)(B:Nat):Prop:=
 (v=.aB/\ends=[])\/∃(e k:Nat) (full:List Int),v=.own e 0 k/\U e=some ⟨3,1,full.map vI⟩/\K e=none/\k<=full.length/\full.length<=B/\full.take k=ends
def Qw{K U:ad}{v:V}{ends:List Int}{B c:Nat}{i:Int}(hB:B<=1000000000000)(h:mJ K U v ends B)(hK:aa K U)(hc:K c=some ⟨3,1,[vI i]⟩):
 av prog 122 [v,.fn 123 [.ptr c 0 0]] U λr Z'=>aa K Z'/\mJ K Z' r (kept i ends) B:=by
 rcases h with⟨rfl,rfl⟩|⟨e,k,full,rfl,h1,h2,h3,h4,rfl⟩
 .refine(DO (hK _ _ hc)).mono ?_;rintro r Z' ⟨rfl,rfl⟩;exact⟨hK,.inl ⟨rfl,rfl⟩⟩
 .have WZ:c≠e:=by rintro rfl;rw[h2]at hc;cases hc
  refine(HY h1 (hK _ _ hc) WZ h3 (by omega)).mono ?_;rintro r Z' ⟨k',full',rfl,rfl,g1,g2,g3⟩;exact⟨hK.ao h2,.inr ⟨e,k',full',rfl,af,h2,g1,by omega,g3⟩⟩
def aa.Lt{K U:ad}{i:Nat}{o:Ob}(h:aa K U)(hi:U i=some o):aa (Vc.C' K i o) U:=λj x hx=>by
 by_cases e:j=i
 .subst e;rw[af]at hx;rw[hi];exact hx
 .rw[ab e]at hx;exact h j x hx
def mJ.new{K U Z':ad}{v:V}{ends:List Int}{B id:Nat}{o:Ob}(h:mJ K U v ends B)(hs:aa U Z')(M':U id=none):mJ (C' K id o) Z' v ends B:=by
 rcases h with h|⟨e,k,full,h0,h1,h2,h3⟩
 .exact .inl h
 .exact .inr ⟨e,k,full,h0,hs _ _ h1,by rw[ab (aQ h1 M')];exact h2,h3⟩
def mJ.less{K K' U:ad}{v:V}{ends:List Int}{B:Nat}(h:mJ K' U v ends B)(hs:aa K K'):mJ K U v ends B:=by
 rcases h with h|⟨e,k,full,h0,h1,h2,h3⟩
 .exact .inl h
 .exact .inr ⟨e,k,full,h0,h1,hs.none h2,h3⟩
def Nk{K U:ad}{v:V}{ends:List Int}{B c i:Nat}{x:Nd}{s:Sm}(hK:aa K U)(hKc:K c=none)(hc:U c=some (dk s v))(hE:∀o,mJ (C' K c o) U v ends B)(hB:B<=1000000000)
 (hi:i<=10000)(hs:s.qQ i)(hsn:s.nodes=i)(hx:x.ok=true)(hw:x.words.length<=200000000000000)(Yh:1<=x.size/\x.size<=1000000000):
 av prog 79 [.ptr c 0 0,vI i,dW x] U λr Z'=>r=.WC []/\aa K Z'/\∃v',Z' c=some (dk (fG i x s ends).1 v')/\∀o,mJ (C' K c o) Z' v' (fG i x s ends).2 (B+1):=by
 refine e79.q ?_;refine mS 7 ?_;simp only[go_sem,seval,c79,dW,Nd.cells];refine aj λid4 Z1 s1 a4 f4=>?_;have hc1:=s1 _ _ hc;have n4c:=aQ hc f4;simp only[go_sem,seval];refine aj λZA Z2 s2 a5 f5=>?_;have hc2:=s2 _ _ hc1;have n5c:=aQ hc1 f5;have n54:=aQ a4 f5;have a4:=s2 _ _ a4;have hK2:=(hK.trans s1).trans s2;have k4:K id4=none:=hK.none f4;have k5:K ZA=none:=(hK.trans s1).none f5;simp only[go_sem,seval,hc2,dk];have hK':aa (C' (C' (C' K c (dk s v)) id4 ⟨3,1,[vI i]⟩) ZA ⟨48,20,[dW x]⟩) Z2:=((hK2.Lt hc2).Lt a4).Lt a5;have hE':mJ (C' (C' (C' K c (dk s v)) id4 ⟨3,1,[vI i]⟩) ZA ⟨48,20,[dW x]⟩) Z2 v ends B:=((hE _).new s1 f4).new s2 f5;refine Yn rfl (Qw (by omega) hE' hK' (by rw[ab n54,af])) ?_;rintro r Z3 ⟨hK3,hE3⟩;have Zy:=hK3 c _ (by rw[ab n5c,ab n4c,af]);have a4:=hK3 id4 _ (by rw[ab n54,af]);have a5:=hK3 ZA _ af;simp only[dW,Nd.cells]at a5;simp only[dk]at Zy;have hKK:=(((aa.refl K).ao hKc (o:=dk s v)).ao k4 (o:=⟨3,1,[vI i]⟩)).ao k5 (o:=⟨48,20,[dW x]⟩);have h3:=hKK.trans hK3;have hsr:WI .i64 (s.nodes+1):=ae;obtain⟨p1,p2,p3,p4,p5,p6⟩:=jv hx;obtain⟨f1,f2,f3⟩:=hs;rcases hE3 with⟨rfl,hk0⟩|⟨e,k,full,rfl,he,hKe,hk,Zh,hk0⟩
 .by_cases X6:x.kind=1
  .apply sR;simp only[go_sem,seval,a4,a5,Zy,ab n4c.symm,ab n5c.symm,X6];refine⟨hsr,ae,?_⟩;refine bF λid8 Z4 s4 a8 f8=>?_;have hc4:=s4 c _ af;have a4:=s4 id4 _ (by rw[ab n4c.symm];exact a4);have a5:=s4 ZA _ (by rw[ab n5c.symm];exact a5);have hs8:∀U,U id8=some ⟨3,1,[.int .i64 (i+x.size)]⟩->bc U 1 (.own id8 0 1)=some [.int .i64 (i+x.size)]:=by
    intro U WY;simp only[bc,WY];rw[ak (by simp)];simp
   have hd:∀U,bC U 3 1 .aB=some ([],none):=λ_=>rfl;simp only[go_sem,seval,hs8,a8,hd,bz,Nat.reduceLeDiff];refine bF λid9 Z5 s5 a9 f9=>?_;have hc5:=s5 c _ hc4;have a4:=s5 id4 _ a4;have a5:=s5 ZA _ a5;have n9c:id9≠c:=by rintro rfl;rw[hc4]at f9;cases f9
   have n95:id9≠ZA:=by rintro rfl;rw[s4 id9 _ (by rw[ab n5c.symm];exact hK3 id9 _ af)]at f9;cases f9
   simp only[go_sem,seval,hc5,a5,ab n5c.symm];refine aj λid6 Z6 s6 a6 f6=>?_;have hc6:=s6 c _ af;have a9:=s6 id9 _ (by rw[ab n9c];exact a9);have n6c:id6≠c:=by rintro rfl;rw[hc6]at a6;simp at a6
   have n69:id6≠id9:=by rintro rfl;rw[a9]at a6;simp at a6
   simp only[go_sem,seval,a6];refine aj λid84 Z7 s7 a84 f84=>?_;have hc7:=s7 c _ (by rw[ab n6c.symm];exact hc6);have a9:=s7 id9 _ (by rw[ab n69.symm];exact a9);have n84c:id84≠c:=by rintro rfl;rw[hc7]at a84;simp at a84
   simp only[go_sem,seval];have h4:=(h3.ao hKc).trans s4;have h5:=h4.trans s5;have k9:K id9=none:=h4.none f9;have h6':=λo=>h5.ao hKc (o:=o);have k6:K id6=none:=(h6' _).none f6;have h7:=(((h6' _).trans s6).ao k6).trans s7;obtain⟨q1,q2,q3,q4,q5⟩:=p6 X6;have hl5:∀n∈[x.st.top,x.st.WV,x.st.WD,x.st.O',x.st.head],0<=n/\n<=mx:=by
    intro n hn;simp only[dJ,List.not_mem_nil,or_false]at hn;rcases hn with rfl|rfl|rfl|rfl|rfl<;>assumption
   refine Yn rfl (rL (s:=⟨if(1:Int)>s.depth then 1 else s.depth,s.pieces,s.nodes+1,s.V'⟩) (l:=[x.st.top,x.st.WV,x.st.WD,x.st.O',x.st.head]) (times:=1) hc7
    (λob=>Reads.own (off:=0) (len:=5) ((ab n84c).trans a84) rfl (by simp) (λr hr=>by simp at hr;rcases hr with rfl|rfl|rfl|rfl|rfl<;>rfl)) (by simp) hl5 (by omega) f3 rfl) ?_
   rintro r Z8 ⟨rfl,rfl⟩;apply sR;simp only[go_sem,seval];refine XX ⟨rfl,h7.ao hKc,.own id9 0 1,?_,λo=>.inr ⟨id9,1,[i+x.size],rfl,(ab n9c).trans a9,gm.2 ⟨n9c,k9⟩,by simp,by simp,?_⟩⟩
   .have e:(if(1:Int)>s.depth then 1 else s.depth)=max s.depth 1:=by split<;>omega
    rw[af,e];simp[fG,X6,hk0,dk]
   .simp[fG,X6,hk0]
  .by_cases Yf:x.kind=2
   .apply sR;simp only[go_sem,seval,a5,Zy,ab n5c.symm,Yf,dn];refine⟨hsr,ae,?_⟩;refine aj λid7 Z7 s7 a7 f7=>?_;have hc7:=s7 c _ af;have n7c:id7≠c:=by rintro rfl;rw[hc7]at a7;simp at a7
    simp only[go_sem,seval];have h7:=(h3.ao hKc).trans s7;refine Yn rfl (rL (s:=⟨s.depth,s.pieces+x.words.length,s.nodes+1,s.V'⟩) (l:=[x.line]) (times:=x.words.length) hc7
     (λob=>Reads.own (off:=0) (len:=1) ((ab n7c).trans a7) rfl (by simp) (λr hr=>by simp at hr;rcases hr with rfl;rfl)) (by simp) (by intro n hn;simp at hn;subst hn;exact⟨p2,p3⟩) (by omega) f3 rfl) ?_
    rintro r Z8 ⟨rfl,rfl⟩;apply sR;simp only[go_sem,seval];refine XX ⟨rfl,h7.ao hKc,_,af.trans (by simp[fG,Yf,dk];rfl),λo=>?_⟩;have:(fG i x s ends).2=kept i ends:=by simp[fG,Yf]
    rw[this];exact .inl ⟨rfl,hk0⟩
   .have h4or:=p1;apply sR;simp only[go_sem,seval,a5,Zy,ab n5c.symm,X6,Yf];refine⟨hsr,ae,?_⟩;refine aj λid7 Z7 s7 a7 f7=>?_;have hc7:=s7 c _ af;have n7c:id7≠c:=by rintro rfl;rw[hc7]at a7;simp at a7
    simp only[go_sem,seval];have h7:=(h3.ao hKc).trans s7;refine Yn rfl (rL (s:=⟨s.depth,s.pieces+1,s.nodes+1,s.V'⟩) (l:=[x.h]) (times:=1) hc7
     (λob=>Reads.own (off:=0) (len:=1) ((ab n7c).trans a7) rfl (by simp) (λr hr=>by simp at hr;rcases hr with rfl;rfl)) (by simp) (by intro n hn;simp at hn;subst hn;exact⟨p4,p5⟩) (by omega) f3 rfl) ?_
    rintro r Z8 ⟨rfl,rfl⟩;apply sR;simp only[go_sem,seval];refine XX ⟨rfl,h7.ao hKc,_,af.trans (by simp[fG,X6,Yf,dk];rfl),λo=>?_⟩;have:(fG i x s ends).2=kept i ends:=by simp[fG,X6,Yf]
    rw[this];exact .inl ⟨rfl,hk0⟩
 .have hec:e≠c:=λe'=>by rw[e',ab n5c,ab n4c,af]at hKe;cases hKe
  have he4:e≠id4:=λe'=>by rw[e',ab n54,af]at hKe;cases hKe
  have he5:e≠ZA:=λe'=>by rw[e',af]at hKe;cases hKe
  have hKe0:K e=none:=hKK.none hKe;have hlk:(full.take k).length=k:=by simp;omega
  by_cases X6:x.kind=1
  .apply sR;simp only[go_sem,seval,a4,a5,Zy,ab n4c.symm,ab n5c.symm,X6];refine⟨hsr,ae,?_⟩;refine bF λid8 Z4 s4 a8 f8=>?_;have hc4:=s4 c _ af;have a4:=s4 id4 _ (by rw[ab n4c.symm];exact a4);have a5:=s4 ZA _ (by rw[ab n5c.symm];exact a5);have hs8:∀U,U id8=some ⟨3,1,[.int .i64 (i+x.size)]⟩->bc U 1 (.own id8 0 1)=some [.int .i64 (i+x.size)]:=by
    intro U WY;simp only[bc,WY];rw[ak (by simp)];simp
   have he4':=s4 e _ (by rw[ab hec];exact he);have hd:∀U,U e=some ⟨3,1,full.map vI⟩->bC U 3 1 (.own e 0 k)=some ((full.take k).map vI,some e):=by
    intro U WY;simp only[bC,WY];rw[ak ⟨trivial,trivial,trivial,by simpa using hk⟩,List.map_take]
   have Yd:((full.take k).map vI).length=k:=by simpa using hlk
   have XT:(k+1)*9<=140737488355328:=by omega
   simp only[go_sem,seval,hs8,a8,hd,he4',bz,Yd,XT];refine Jg λid9 Z5 s5 a9 f9=>?_;have hc5:=s5 c _ (by rw[cA hec.symm];exact hc4);have a4:=s5 id4 _ (by rw[cA he4.symm];exact a4);have a5:=s5 ZA _ (by rw[cA he5.symm];exact a5);have n9c:id9≠c:=by rintro rfl;rw[hc4]at f9;cases f9
   have n95:id9≠ZA:=by rintro rfl;rw[s4 id9 _ (by rw[ab n5c.symm];exact hK3 id9 _ af)]at f9;cases f9
   simp only[go_sem,seval,hc5,a5,ab n5c.symm];refine aj λid6 Z6 s6 a6 f6=>?_;have hc6:=s6 c _ af;have a9:=s6 id9 _ (by rw[ab n9c];exact a9);have n6c:id6≠c:=by rintro rfl;rw[hc6]at a6;simp at a6
   have n69:id6≠id9:=by rintro rfl;rw[a9]at a6;simp at a6
   simp only[go_sem,seval,a6];refine aj λid84 Z7 s7 a84 f84=>?_;have hc7:=s7 c _ (by rw[ab n6c.symm];exact hc6);have a9:=s7 id9 _ (by rw[ab n69.symm];exact a9);have n84c:id84≠c:=by rintro rfl;rw[hc7]at a84;simp at a84
   simp only[go_sem,seval];have h4:=(h3.ao hKc).trans s4;have h4':=h4.pI hKe0;have h5:=h4'.trans s5;have k9:K id9=none:=h4.none f9;have h6':=λo=>h5.ao hKc (o:=o);have k6:K id6=none:=(h6' _).none f6;have h7:=(((h6' _).trans s6).ao k6).trans s7;obtain⟨q1,q2,q3,q4,q5⟩:=p6 X6;have hl5:∀n∈[x.st.top,x.st.WV,x.st.WD,x.st.O',x.st.head],0<=n/\n<=mx:=by
    intro n hn;simp only[dJ,List.not_mem_nil,or_false]at hn;rcases hn with rfl|rfl|rfl|rfl|rfl<;>assumption
   refine Yn rfl (rL (s:=⟨if((k+1:Nat):Int)>s.depth then((k+1:Nat):Int)else s.depth,s.pieces,s.nodes+1,s.V'⟩) (l:=[x.st.top,x.st.WV,x.st.WD,x.st.O',x.st.head]) (times:=1) hc7
    (λob=>Reads.own (off:=0) (len:=5) ((ab n84c).trans a84) rfl (by simp) (λr hr=>by simp at hr;rcases hr with rfl|rfl|rfl|rfl|rfl<;>rfl)) (by simp) hl5 (by omega) f3 rfl) ?_
   rintro r Z8 ⟨rfl,rfl⟩;apply sR;simp only[go_sem,seval];refine XX ⟨rfl,h7.ao hKc,.own id9 0 (k+1),?_,λo=>.inr ⟨id9,k+1,full.take k++[i+x.size],rfl,((ab n9c).trans a9).trans (by simp),gm.2 ⟨n9c,k9⟩,by simp;omega,by simp;omega,?_⟩⟩
   .have e:(if((k+1:Nat):Int)>s.depth then((k+1:Nat):Int)else s.depth)=max s.depth ((k+1:Nat):Int):=by split<;>omega
    rw[af,e];have hk0':kept i ends=full.take k:=hk0.symm;simp[fG,X6,hk0',hlk,dk]
   .have hk0':kept i ends=full.take k:=hk0.symm;rw[lf (by simp;omega)];simp[fG,X6,hk0']
  .by_cases Yf:x.kind=2
   .apply sR;simp only[go_sem,seval,a5,Zy,ab n5c.symm,Yf,dn];refine⟨hsr,ae,?_⟩;refine aj λid7 Z7 s7 a7 f7=>?_;have hc7:=s7 c _ af;have n7c:id7≠c:=by rintro rfl;rw[hc7]at a7;simp at a7
    simp only[go_sem,seval];have h7:=(h3.ao hKc).trans s7;refine Yn rfl (rL (s:=⟨s.depth,s.pieces+x.words.length,s.nodes+1,s.V'⟩) (l:=[x.line]) (times:=x.words.length) hc7
     (λob=>Reads.own (off:=0) (len:=1) ((ab n7c).trans a7) rfl (by simp) (λr hr=>by simp at hr;rcases hr with rfl;rfl)) (by simp) (by intro n hn;simp at hn;subst hn;exact⟨p2,p3⟩) (by omega) f3 rfl) ?_
    rintro r Z8 ⟨rfl,rfl⟩;apply sR;simp only[go_sem,seval];refine XX ⟨rfl,h7.ao hKc,_,af.trans (by simp[fG,Yf,dk];rfl),λo=>?_⟩;have:(fG i x s ends).2=kept i ends:=by simp[fG,Yf]
    rw[this];exact .inr ⟨e,k,full,rfl,(ab hec).trans (s7 e _ (by rw[ab hec];exact he)),gm.2 ⟨hec,hKe0⟩,hk,by omega,hk0⟩
   .have h4or:=p1;apply sR;simp only[go_sem,seval,a5,Zy,ab n5c.symm,X6,Yf];refine⟨hsr,ae,?_⟩;refine aj λid7 Z7 s7 a7 f7=>?_;have hc7:=s7 c _ af;have n7c:id7≠c:=by rintro rfl;rw[hc7]at a7;simp at a7
    simp only[go_sem,seval];have h7:=(h3.ao hKc).trans s7;refine Yn rfl (rL (s:=⟨s.depth,s.pieces+1,s.nodes+1,s.V'⟩) (l:=[x.h]) (times:=1) hc7
     (λob=>Reads.own (off:=0) (len:=1) ((ab n7c).trans a7) rfl (by simp) (λr hr=>by simp at hr;rcases hr with rfl;rfl)) (by simp) (by intro n hn;simp at hn;subst hn;exact⟨p4,p5⟩) (by omega) f3 rfl) ?_
    rintro r Z8 ⟨rfl,rfl⟩;apply sR;simp only[go_sem,seval];refine XX ⟨rfl,h7.ao hKc,_,af.trans (by simp[fG,X6,Yf,dk];rfl),λo=>?_⟩;have:(fG i x s ends).2=kept i ends:=by simp[fG,X6,Yf]
    rw[this];exact .inr ⟨e,k,full,rfl,(ab hec).trans (s7 e _ (by rw[ab hec];exact he)),gm.2 ⟨hec,hKe0⟩,hk,by omega,hk0⟩
open Go.Proofs
def Bw(l:List Nd)(hl:dz l):aE prog 31 [ay l] (.WC [.agg (gl l).1.cells,vI (gl l).2]):=λU=>by
 have hl0:=hl;obtain⟨hl1,hl2⟩:=hl;rw[<-FE l hl0];refine e31.q ?_;refine mS 7 ?_;simp only[go_sem,seval,c31];refine aj λidR Z1 s1 aR fR=>?_;simp only[go_sem,seval];refine pS rfl (EJ l hl0 _) ?_;simp only[go_sem,seval,jY,aR];refine And.intro (λhf=>?_) (λhf=>?_)
 .simp only[Bool.not_eq_eq_eq_not,Bool.not_true]at hf;refine ai.pure (s1.ao fR) ?_;simp[zu,hf,Sm.cells]
 .simp only[Bool.not_eq_eq_eq_not,Bool.not_false]at hf;refine aj λid4 Z2 s2 a4 f4=>?_;have nR4:=aQ aR f4;have aR:=s2 _ _ aR;have g4:U id4=none:=s1.none f4;have hKR:aa (C' U idR ⟨79,4,[.agg Sm.zero.cells]⟩) Z2:=(s1.trans s2).Lt aR;have k4:C' U idR ⟨79,4,[.agg Sm.zero.cells]⟩ id4=none:=gm.2 ⟨nR4.symm,g4⟩;simp only[go_sem,seval,bK];refine ag.loop (λm st=>∃(i:Nat) (v:V),i<=l.length/\m=l.length-i/\aa (C' U idR ⟨79,4,[.agg Sm.zero.cells]⟩) st.U/\st.U id4=some (dk (jl l i).1 v)/\
   (∀o,mJ (C' (C' U idR ⟨79,4,[.agg Sm.zero.cells]⟩) id4 o) st.U v (jl l i).2 i)/\st.s 2=.ptr idR 0 0/\st.s 4=.ptr id4 0 0/\st.s 11=ay l/\st.s 12=vI l.length/\st.s 13=vI i) l.length ?_ ?_
  .exact⟨0,.aB,by omega,by omega,hKR,a4,λo=>.inl ⟨rfl,rfl⟩,rfl,rfl,rfl,rfl,rfl⟩
  .rintro m ⟨s,Z'⟩ ⟨i,v,hi,rfl,E',h4s,hE,h2,h4,h11,h12,h13⟩;simp only at E' h4s hE h2 h4 h11 h12 h13;obtain⟨e1,e2,e3,e4⟩:=mY l hl0 hf i hi;have WB:l.all Nd.ok=true/\bG l 0 l.length=true:=by simpa[Xh]using hf
   have hRs:Z' idR=some ⟨79,4,[.agg Sm.zero.cells]⟩:=E' idR _ af;refine mS 7 ?_;simp only[go_sem,seval,h2,h4,h11,h12,h13,h4s,dk,hRs,Sm.zero,Sm.cells];refine And.intro (λB'=>?_) (λZO=>?_)
   .have Xf:i<l.length:=by omega
    have hx:=(fC.1 WB.1) _ (Xo Xf);have hxw:=hl2 _ (Xo Xf);obtain⟨z1,z2,z3⟩:=ir l (l.length+1) 0 l.length (by omega) (by omega) WB.2 i (by omega) Xf Xf;have Zo:jl l (i+1)=fG i l[i] (jl l i).1 (jl l i).2:=by simp[jl,Xf]
    generalize hxe:l[i]=x at*;simp only[go_sem,seval,da Xf,hxe,Nd.cells];refine aj λid6 Z6 s6 a6 f6=>?_;have n64:id6≠id4:=by rintro rfl;rw[h4s]at f6;cases f6
    have g6:C' U idR ⟨79,4,[.agg Sm.zero.cells]⟩ id6=none:=E'.none f6;simp only[go_sem,seval,a6];have hsub6:=E'.trans s6;have XY:=(Nk (K:=C' U idR ⟨79,4,[.agg Sm.zero.cells]⟩) (U:=C' Z6 id6 ⟨48,20,[dW x]⟩) (i:=i) (x:=x) (s:=(jl l i).1) (B:=i) (hsub6.ao g6) k4 ((ab n64.symm).trans (s6 _ _ h4s))
     (λo=>((hE o).new (s6.ao f6) f6 (o:=⟨0,0,[]⟩)).less ((aa.refl _).ao (gm.2 ⟨n64,g6⟩))) (by omega) (by omega) (by rw[e1];exact e3) (by rw[e1]) hx hxw (by omega))
    simp only[dW,Nd.cells]at XY;refine Yn rfl (by simp only[go_sem,seval,h4];exact XY) ?_
    .rintro r Z7 ⟨rfl,hK7,v',h4',hE'⟩;apply sR;simp only[go_sem,seval,h2,h4,h11,h12,h13];refine⟨ae,_,?_,i+1,v',by omega,rfl,hK7,?_,?_,?_⟩
     .omega
     .rw[Zo,h4'];rfl
     .intro o;rw[Zo];exact hE' o
     .simp
   .have YP:i=l.length:=by omega
    subst YP;refine ai.pure ((((aa.refl U).ao fR).trans E').ao fR) ?_;simp[zu,hf]
open Go.Proofs
def QQ:((2:Nat):Int)=2:=rfl
def Sp:((3:Nat):Int)=3:=rfl
def A3:((4:Nat):Int)=4:=rfl
def B0(l:List Nd)(hl:dz l):aE prog 30 [ay l] (vI (dZ l)):=λU=>by
 refine e30.q ?_;refine mS 8 ?_;simp only[go_sem,seval,c30];refine pS rfl (Bw l hl _) ?_;simp only[go_sem,seval,Sm.cells];refine aj λid3 Z1 s1 a3 f3=>?_;have E':=λo=>s1.ao f3 (o:=o);simp only[go_sem,seval,a3];have hc:(gl l).2=if Xh l then 0 else 4:=by unfold gl;split<;>rfl
 refine And.intro (λh=>?_) (λh=>?_)
 .refine ai.pure (E' _) ?_;have:Xh l=false:=by
   rw[hc]at h;cases hb:Xh l<;>simp_all
  simp[dZ,this,hc]
 .have hb:Xh l=true:=by
   rw[hc]at h;cases hb:Xh l<;>simp_all
  have hR:dZ l=if(gl l).1.depth>16\/(gl l).1.pieces>2000\/(gl l).1.nodes>2000\/(gl l).1.V'>1099511627776 then 2 else 0:=by
   simp only[dZ,hb,if_true]
  generalize (gl l).1=sm at*;refine aj λZA Z2 s2 a5 f5=>?_;have Zm:=(E' _).trans s2;have g5:U ZA=none:=(E' _).none f5;simp only[go_sem,seval,a5];refine ag.loop (λm st=>∃(i:Nat),i<=4/\m=4-i/\st.U=C' Z2 ZA ⟨143,4,[.agg sm.cells]⟩/\(0<i->sm.depth<=16)/\(1<i->sm.pieces<=2000)/\(2<i->sm.nodes<=2000)/\(3<i->sm.V'<=1099511627776)/\
   st.s 5=.ptr ZA 0 0/\st.s 25=.agg [vI 16,vI 2000,vI 2000,vI 1099511627776]/\st.s 26=vI i) 4 ?_ ?_
  .exact⟨0,by omega,by omega,rfl,by omega,by omega,by omega,by omega,rfl,rfl,rfl⟩
  .rintro m ⟨s,Z'⟩ ⟨i,hi,rfl,WY,p1,p2,p3,p4,h5,h25,h26⟩;simp only at WY h5 h25 h26;subst WY;have hi':i=0\/i=1\/i=2\/i=3\/i=4:=by omega
   rcases hi' with rfl|rfl|rfl|rfl|rfl
   .refine mS 8 ?_;simp only[go_sem,seval,h5,h25,h26,Sm.cells,Int.ofNat_zero,A3,Int.toNat_zero,Nat.zero_mul];refine And.intro (λg=>?_) (λg=>?_)
    .refine ai.pure (Zm.ao g5) ?_;rw[hR,ak];omega
    .refine⟨ae,_,?_,1,by omega,rfl,?_,?_,?_,?_,rfl⟩<;>omega
   .refine mS 8 ?_;simp only[go_sem,seval,h5,h25,h26,Sm.cells,Int.natCast_one,Int.toNat_one,A3,Nat.reduceMul];refine And.intro (λg=>?_) (λg=>?_)
    .refine ai.pure (Zm.ao g5) ?_;rw[hR,ak];omega
    .refine⟨ae,_,?_,2,by omega,rfl,?_,?_,?_,?_,rfl⟩<;>omega
   .refine mS 8 ?_;simp only[go_sem,seval,h5,h25,h26,Sm.cells,QQ,A3,Int.reduceToNat,Nat.reduceMul];refine And.intro (λg=>?_) (λg=>?_)
    .refine ai.pure (Zm.ao g5) ?_;rw[hR,ak];omega
    .refine⟨ae,_,?_,3,by omega,rfl,?_,?_,?_,?_,rfl⟩<;>omega
   .refine mS 8 ?_;simp only[go_sem,seval,h5,h25,h26,Sm.cells,Sp,A3,Int.reduceToNat,Nat.reduceMul];refine And.intro (λg=>?_) (λg=>?_)
    .refine ai.pure (Zm.ao g5) ?_;rw[hR,ak];omega
    .refine⟨ae,_,?_,4,by omega,rfl,?_,?_,?_,?_,rfl⟩<;>omega
   .refine mS 8 ?_;simp only[go_sem,seval,h26,Sm.cells,A3];refine ai.pure (Zm.ao g5) ?_;rw[hR,au];omega
end Go.Vc
