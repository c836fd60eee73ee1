/- Part 6 of the library of this proof. -/
import Derived.Test.YtjladbkbleghlaaGreatW5
import Derived.DeepKeys5
set_option linter.all false
set_option maxHeartbeats 8000000
set_option maxRecDepth 100000
namespace Go.Vc
variable {P:Program} {n:Nat} {st:St} {Q:St->Prop} {k:List It}
def vz{P7:List (List Nat)}{g':List Nat}{i:Nat}(h:i∈ec P7 g'):i<P7.length/\i∉g'/\∀k∈P7.getD i [],k∈g':=by
 unfold ec at h;obtain⟨h1,h2⟩:=sX.1 h;simp only[Ba,Bool.not_eq_true',fv]at h2;exact⟨by simpa using h1,by simpa using h2.1,λk hk=>by simpa using h2.2 k hk⟩
def vw:∀(n:Nat) (L:List Nat),L.Nodup->(∀k∈L,k<n)->L.length<=n/\(L.length=n->∀k,k<n->k∈L)
 |0,L,_,h=>by
  cases L with
  |nil=>simp
  |cons a L=>have:=h a (by simp);omega
 |n+1,L,hd,h=>by
  by_cases hn:n∈L
  .have h1:=vw n (L.erase n) (hd.erase n) λk hk=>by
    have h2:=h k (List.mem_of_mem_erase hk);have h3:k≠n:=λe=>by subst e;exact(List.Nodup.not_mem_erase hd) hk
    omega
   have h4:=List.length_erase_of_mem hn;have h5:0<L.length:=List.length_pos_of_mem hn;refine⟨by omega,λhe k hk=>?_⟩;by_cases hkn:k=n
   .rw[hkn];exact hn
   .exact List.mem_of_mem_erase (h1.2 (by omega) k (by omega))
  .have h1:=vw n L hd λk hk=>by
    have h2:=h k hk;have h3:k≠n:=λe=>hn (e▸hk);omega
   exact⟨by omega,λhe=>by omega⟩
open Go.RowKit
variable {P:Program} {n:Nat} {st:St} {Q:St->Prop} {k:List It} {I:Mu} {w:World}
def DH{o:Op}{xs:List VX}(h:P3 P n o=.more .mkMap xs):∃t,o=.makeMap t none/\xs=[]:=by
 cases o
 case makeMap t r=>
  simp only[P3]at h;split at h
  .rename_i hc;simp only[Ba,Option.isNone_iff_eq_none]at hc;obtain⟨rfl,_⟩:=hc;simp only[Qp.more.injEq,true_and]at h;exact⟨t,rfl,h.symm⟩
  .cases h
 case call c=>
  obtain⟨callee,args,argTypes⟩:=c;cases callee
  case value=>simp[P3]at h
  case invoke r name=>simp[P3]at h
  case builtin b=>cases b<;>(simp only[P3,cu]at h;(repeat' split at h)<;>cases h)
 case unOp op t x=>cases op<;>simp only[P3,cu]at h<;>cases h
 case makeFunc f a b=>cases f<;>simp only[P3,cu]at h<;>(repeat' split at h)<;>cases h
 all_goals (simp only[P3,cu]at h;(repeat' split at h)<;>cases h)
def pX{b:Nat}{es:Array MapEntry}{c:Nat}(h:w.heap[b]?=some (.map es c)):(getObj b).run P w=.ok (.map es c) w:=by simp[getObj,Sem.run,h]
def zx{b:Nat}{es:Array MapEntry}{c:Nat}(o':Obj)(h:w.heap[b]?=some (.map es c)):(setObj b o').run P w=.ok () (w.putObj b o'):=by simp[setObj,Sem.run,h,World.putObj]
def ax.set{ow:Nat->Prop}:∀{vs:List V} {l:List Value} {v:V} {x:Value} (j:Nat),ax I ow w vs l->E' I ow w v x->ax I ow w (vs.set j v) (l.set j x)
 |[],l,v,x,j,h,hv=>by simp only[ax]at h;subst h;simp[ax]
 |u::us,l,v,x,0,h,hv=>by
  simp only[ax]at h;obtain⟨y,ys,rfl,h1,h2⟩:=h;simp only[List.set_cons_zero,ax];exact⟨x,ys,rfl,hv,h2⟩
 |u::us,l,v,x,j+1,h,hv=>by
  simp only[ax]at h;obtain⟨y,ys,rfl,h1,h2⟩:=h;simp only[List.set_cons_succ,ax];exact⟨y,_,rfl,h1,ax.set j h2 hv⟩
open Go.RowKit
variable {P:Program} {n:Nat} {st:St} {Q:St->Prop} {k:List It} {I:Mu} {w:World}
def uH{t kt e:TypeId}(h:uS P t=some (kt,e)):P.underlying t=some (.map kt e):=by
 unfold uS at h;split at h
 .rename_i k' e' ht;split at h
  .simp only[bf,Prod.mk.injEq]at h;obtain⟨rfl,rfl⟩:=h;exact ht
  .cases h
 .cases h
def GJ{o:Op}{kt:TypeId}{xs:List VX}(h:P3 P n o=.more (.XM kt) xs):∃t e m y x,(o=.insert t m y x\/o=.mapUpdate t m y x)/\uS P t=some (kt,e)/\xs=[cx n m,cx n y,cx n x]:=by
 cases o
 case insert t m y x=>
  simp only[P3]at h;split at h
  .cases h
  .split at h
   .rename_i k' e hc;simp only[Qp.more.injEq,MOp.XM.injEq]at h;obtain⟨rfl,h⟩:=h;exact⟨t,e,m,y,x,.inl rfl,hc,h.symm⟩
   .cases h
 case mapUpdate t m y x=>
  simp only[P3]at h;split at h
  .cases h
  .split at h
   .rename_i k' e hc;simp only[Qp.more.injEq,MOp.XM.injEq]at h;obtain⟨rfl,h⟩:=h;exact⟨t,e,m,y,x,.inr rfl,hc,h.symm⟩
   .cases h
 case call c=>
  obtain⟨callee,args,argTypes⟩:=c;cases callee
  case value=>simp[P3]at h
  case invoke r name=>simp[P3]at h
  case builtin b=>cases b<;>(simp only[P3,cu]at h;(repeat' split at h)<;>cases h)
 case unOp op t x=>cases op<;>simp only[P3,cu]at h<;>cases h
 case makeFunc f a b=>cases f<;>simp only[P3,cu]at h<;>(repeat' split at h)<;>cases h
 all_goals (simp only[P3,cu]at h;(repeat' split at h)<;>cases h)
def DG{o:Op}{kt:TypeId}{xs:List VX}{ok:Bool}{zv:V}(h:P3 P n o=.more (.U8 kt ok zv) xs):∃t x y e i z,o=.lookup t x y ok/\uS P t=some (kt,e)/\zeroOf P e=some (i,z)/\zv=ofValue z/\xs=[cx n x,cx n y]:=by
 cases o
 case lookup t x y ok'=>
  simp only[P3]at h;split at h
  .split at h<;>cases h
  .split at h
   .rename_i k' e he;split at h
    .rename_i i z hz;simp only[Qp.more.injEq,MOp.U8.injEq]at h;obtain⟨⟨rfl,rfl,rfl⟩,rfl⟩:=h;exact⟨t,x,y,e,i,z,rfl,he,hz,rfl,rfl⟩
    .cases h
   .cases h
 case call c=>
  obtain⟨callee,args,argTypes⟩:=c;cases callee
  case value=>simp[P3]at h
  case invoke r name=>simp[P3]at h
  case builtin b=>cases b<;>(simp only[P3,cu]at h;(repeat' split at h)<;>cases h)
 case unOp op t x=>cases op<;>simp only[P3,cu]at h<;>cases h
 case makeFunc f a b=>cases f<;>simp only[P3,cu]at h<;>(repeat' split at h)<;>cases h
 all_goals (simp only[P3,cu]at h;(repeat' split at h)<;>cases h)
def assoc{κ:Type}[DecidableEq κ](a:κ):List κ->List V->Option V
 |x::ks,v::vs=>if x=a then some v else assoc a ks vs
 |_,_=>none
def tz{κ:Type}[DecidableEq κ]{a:κ}:∀{ks:List κ} {vs:List V},a∉ks->assoc a ks vs=none
 |[],_,_=>by simp[assoc]
 |x::ks,[],_=>by simp[assoc]
 |x::ks,v::vs,h=>by
  rw[assoc,aH (λe=>h (by simp[e]))];exact tz λg=>h (by simp[g])
def nG{κ:Type}[DecidableEq κ]{a:κ}:∀{ks:List κ} {vs:List V} {j:Nat},ks.Nodup->ks[j]?=some a->ks.length=vs.length->assoc a ks vs=vs[j]?
 |[],_,j,_,h,_=>by simp at h
 |x::ks,[],j,_,_,hl=>by simp at hl
 |x::ks,v::vs,0,_,h,_=>by
  simp only[HL,bf]at h;rw[assoc,aE h];rfl
 |x::ks,v::vs,j+1,hn,h,hl=>by
  rw[EH]at h;have hm:=vK h;have hxa:x≠a:=λe=>(List.nodup_cons.1 hn).1 (by rw[e];exact hm);rw[assoc,aH hxa,EH];exact nG (List.nodup_cons.1 hn).2 h (by simpa using hl)
def tD{κ:Type}[DecidableEq κ]{a b:κ}{v:V}:∀{ks:List κ} {vs:List V},a∉ks->ks.length=vs.length->assoc b (ks++[a]) (vs++[v])=if a=b then some v else assoc b ks vs
 |[],[],_,_=>by simp[assoc]
 |[],_::_,_,hl=>by simp at hl
 |_::_,[],_,hl=>by simp at hl
 |x::ks,u::vs,h,hl=>by
  have ih:=tD (a:=a) (b:=b) (v:=v) (ks:=ks) (vs:=vs) (λg=>h (List.mem_cons_of_mem _ g)) (by simpa using hl);have hx:x≠a:=λe=>h (by simp[e]);simp only[List.cons_append,assoc];by_cases h1:x=b
  .rw[aE h1,aE h1,aH (λe=>hx (h1.trans e.symm))]
  .rw[aH h1,aH h1,ih]
def wJ{κ:Type}[DecidableEq κ]{a b:κ}{v:V}:∀{ks:List κ} {vs:List V} {j:Nat},ks.Nodup->ks[j]?=some a->ks.length=vs.length->assoc b ks (vs.set j v)=if a=b then some v else assoc b ks vs
 |[],_,j,_,h,_=>by simp at h
 |x::ks,[],j,_,_,hl=>by simp at hl
 |x::ks,u::vs,0,hn,h,_=>by
  simp only[HL,bf]at h;subst h;simp only[List.set_cons_zero,assoc];by_cases h1:x=b<;>simp[h1]
 |x::ks,u::vs,j+1,hn,h,hl=>by
  rw[EH]at h;have hm:=vK h;have hx:x≠a:=λe=>(List.nodup_cons.1 hn).1 (e▸hm);have ih:=wJ (b:=b) (v:=v) (List.nodup_cons.1 hn).2 h (by simpa using hl:ks.length=vs.length);simp only[List.set_cons_succ,assoc];by_cases h1:x=b
  .rw[aE h1,aE h1,aH (λe=>hx (h1.trans e.symm))]
  .rw[aH h1,aH h1,ih]
def nU{κ:Type}[DecidableEq κ](kv:κ->Value)(U:ag)(id:Nat)(g:κ->Option V):Prop:=
 ∃(es:Array MapEntry) (clock:Nat) (ks:List κ) (env:List V),U id=some (gh (.map es clock) env)/\es.toList.map (·.key)=ks.map kv/\ks.length=env.length/\ks.Nodup/\∀a,assoc a ks env=g a
def nU.sub{κ:Type}[DecidableEq κ]{kv:κ->Value}{U Z':ag}{id:Nat}{g:κ->Option V}(h:nU kv U id g)(hs:aa U Z'):nU kv Z' id g:=by
 obtain⟨es,clock,ks,env,h1,h2⟩:=h;exact⟨es,clock,ks,env,hs _ _ h1,h2⟩
def nU.ne{κ:Type}[DecidableEq κ]{kv:κ->Value}{U:ag}{id j:Nat}{g:κ->Option V}{e:TypeId}{sz:Nat}{rows:List V}(h:nU kv U id g)(hj:U j=some ⟨e,sz,rows⟩)(hz:sz≠0):j≠id:=by
 rintro rfl;obtain⟨es,clock,ks,env,h1,_⟩:=h;rw[h1]at hj;simp only[gh,bf,Ob.mk.injEq]at hj;exact hz hj.2.1.symm
def nU.nil{κ:Type}[DecidableEq κ](kv:κ->Value){U:ag}{id:Nat}(h:U id=some (gh (.map #[] 0) [])):nU kv U id λ_=>none:=
 ⟨#[],0,[],[],h,rfl,rfl,.nil,λ_=>rfl⟩
def AT{κ:Type}[DecidableEq κ]{kv:κ->Value}(YT:∀a b,kv a=kv b->a=b){kt:TypeId}(Uf:WideMaps.KeyLaw P kt){es:List MapEntry}{ks:List κ}(he:es.map (·.key)=ks.map kv)
 (YU:∀a∈ks,∃l,keyOf P kt (kv a)=some l){a:κ}(ha:∃l,keyOf P kt (kv a)=some l)(w:World):
 ((Instr.findKey kt (kv a) es).run P w=.ok none w/\a∉ks)\/∃j e,(Instr.findKey kt (kv a) es).run P w=.ok (some (j,e.val)) w/\es[j]?=some e/\e.key=kv a/\ks[j]?=some a:=by
 obtain⟨l,hl⟩:=ha;have Qz:∀e∈es,∃l,keyOf P kt e.key=some l:=λe hm=>by
  have:e.key∈ks.map kv:=he▸List.mem_map_of_mem hm;obtain⟨b,hb,Xy⟩:=fM.1 this;rw[<-Xy];exact YU b hb
 rcases Uf.find w hl es Qz with⟨h1,h2⟩|⟨j,e,h1,h2,h3⟩
 .refine .inl ⟨h1,λhm=>?_⟩;have:kv a∈es.map (·.key):=he▸List.mem_map_of_mem hm;obtain⟨e,hem,WE⟩:=fM.1 this;exact h2 e hem WE
 .refine .inr ⟨j,e,h1,h2,h3,?_⟩;have h4:(es.map (·.key))[j]?=some e.key:=by rw[ph,h2];rfl
  rw[he,ph]at h4;cases hk:ks[j]? with
  |none=>rw[hk]at h4;cases h4
  |some b=>
   rw[hk]at h4;simp only[Option.map_some,bf]at h4;rw[YT b a (h4.trans h3)]
structure zn{κ:Type}(P:Program)(kt:TypeId)(kv:κ->Value)(kV:κ->V):Prop where
 inj:∀a b,kv a=kv b->a=b
 law:WideMaps.KeyLaw P kt
 key:∀b,∃l,keyOf P kt (kv b)=some l
 rep:∀(a:κ) (I:Mu) (ow:Nat->Prop) (w:World) (X:Value),E' I ow w (kV a) X->X=kv a
def Gc{κ:Type}[DecidableEq κ]{kv:κ->Value}{kV:κ->V}{i:aK}{xm xk:VX}{kt:TypeId}{ok:Bool}{zv:V}(ho:i.op=.more (.U8 kt ok zv) [xm,xk]){id:Nat}{g:κ->Option V}{a:κ}
 (hK:zn P kt kv kV)(hm:xm.ev st.s=.mp id)(TE:nU kv st.U id g)(hk:xk.ev st.s=kV a){K:St->Prop}
 (h:K ⟨aZ st.s i.dst (if ok then .PN [(g a).getD zv,.bool (g a).isSome]else(g a).getD zv),st.U⟩):
 ∀(F:Fr),F.n=n->∀(I:Mu) (a:Act) (w:World) (o:Oper) (all:Array Oper),bT P n all o=i->dh F I st a w->
  ∀(next:Act->World->Prop) (Q':Exit->Act->World->Prop),(∀Sh a' w',eG F Sh a' w'->K Sh->next a' w')->o.wp P a w next Q':=by
 intro F hn I ac w o all hi hs next Q' PL
 obtain⟨YT,Uf,YU,Rc⟩:=hK;replace Rc:=Rc a;replace YU:∀b,(b=a\/g b≠none)->∃l,keyOf P kt (kv b)=some l:=λb _=>YU b;subst hn;obtain⟨PV,hd⟩:=dP hi;rw[ho]at PV;obtain⟨t,x,y,e,ti,z,g1,g2,g3,rfl,g4⟩:=DG PV;simp only[List.cons.injEq,and_true]at g4;obtain⟨rfl,rfl⟩:=g4;have u1:=uH g2;obtain⟨es,clock,ks,env,Qj,he,hlen,Rh,Rp⟩:=TE;have hr:=cz hs x;have WG:=cz hs y;rw[hm]at hr;rw[hk]at WG;have WG:=Rc _ _ _ _ WG;simp only[E']at hr;have hks:∀b∈ks,∃l,keyOf P kt (kv b)=some l:=λb hb=>by
  obtain⟨j,hj⟩:=GO hb;refine YU b (.inr ?_);rw[<-Rp b,nG Rh hj hlen];have:j<env.length:=by rw[<-hlen];exact(nY.1 hj).1
  rw[Tq this];simp
 have hka:=YU a (.inl rfl);obtain⟨la,RN⟩:=hka;split at hr
 .rename_i b cap M';obtain⟨Q5,UC⟩:=hs.sat.Hg Qj M';simp only[tmpsOf]at UC;rcases AT YT Uf he hks ⟨la,RN⟩ w with⟨q1,q2⟩|⟨j,en,q1,q2,q3,q4⟩
  .have hga:g a=none:=by rw[<-Rp a,tz q2]
   rw[hga]at h;have Qq:(Instr.lookup t (ac.eval x) (ac.eval y) ok).run P w=.ok (if ok then .tuple #[z,.bool false]else z) w:=by
    simp[Instr.lookup,run_underlying u1,hr,WG,pX Q5,Uf.check w _ RN,q1,eg g3]
   have hx:(execOp ac.eval o).run P w=.ok (.value (if ok then .tuple #[z,.bool false]else z)) w:=by
    unfold execOp;rw[g1];simp[Qq]
   unfold Oper.wp;rw[hx];refine PL _ _ _ ⟨I,?_⟩ h;rw[<-hd];have hz:E' I (aI I st.U) w (ofValue z) z:=mJ z;refine hs.pure ?_;cases ok
   .simpa using hz
   .simp only[if_true,Option.getD_none,Option.isSome_none,E'];exact⟨_,rfl,by simp only[ax,E'];exact⟨_,_,rfl,hz,_,_,rfl,rfl,rfl⟩⟩
  .have Ta:j<env.length:=by rw[<-hlen];exact(nY.1 q4).1
   have hga:g a=some env[j]:=by rw[<-Rp a,nG Rh q4 hlen,Tq Ta]
   rw[hga]at h;have hv:E' I (aI I st.U) w env[j] en.val:=by
    obtain⟨x',Qh,hrx⟩:=UC.get (i:=j) (by rw[Tq Ta]);rw[ph,q2]at Qh;simp at Qh;subst Qh;exact hrx
   have Qq:(Instr.lookup t (ac.eval x) (ac.eval y) ok).run P w=.ok (if ok then .tuple #[en.val,.bool true]else en.val) w:=by
    simp[Instr.lookup,run_underlying u1,hr,WG,pX Q5,Uf.check w _ RN,q1]
   have hx:(execOp ac.eval o).run P w=.ok (.value (if ok then .tuple #[en.val,.bool true]else en.val)) w:=by
    unfold execOp;rw[g1];simp[Qq]
   unfold Oper.wp;rw[hx];refine PL _ _ _ ⟨I,?_⟩ h;rw[<-hd];refine hs.pure ?_;cases ok
   .simpa using hv
   .simp only[if_true,Option.getD_some,Option.isSome_some,E'];exact⟨_,rfl,by simp only[ax,E'];exact⟨_,_,rfl,hv,_,_,rfl,rfl,rfl⟩⟩
 .exact hr.elim
def I6(P:Program)(kt:TypeId)(ok:Bool)(zv m k:V)(U:ag)(v:V):Prop:=∃(κ:Type) (_:DecidableEq κ) (kv:κ->Value) (kV:κ->V) (id:Nat) (g:κ->Option V) (a:κ),
 zn P kt kv kV/\m=.mp id/\nU kv U id g/\k=kV a/\v=if ok then .PN [(g a).getD zv,.bool (g a).isSome]else(g a).getD zv
def Gd{i:aK}{xs:List VX}(ho:i.op=.more .mkMap xs){K:St->Prop}(h:∀id,st.U id=none->K ⟨aZ st.s i.dst (.mp id),C' st.U id (gh (.map #[] 0) [])⟩):
 ∀(F:Fr),F.n=n->∀(I:Mu) (a:Act) (w:World) (o:Oper) (all:Array Oper),bT P n all o=i->dh F I st a w->
  ∀(next:Act->World->Prop) (Q':Exit->Act->World->Prop),(∀Sh a' w',eG F Sh a' w'->K Sh->next a' w')->o.wp P a w next Q':=by
 intro F hn I a w o all hi hs next Q' PL
 subst hn;obtain⟨PV,hd⟩:=dP hi;rw[ho]at PV;obtain⟨t,h1,_⟩:=DH PV;obtain⟨id,M',Y',g1,g2,g3,g4⟩:=hs.sat.Nh (.map #[] 0) [] (by simp[ax,tmpsOf]);have Qq:(execOp a.eval o).run P w=.ok (.value (.map (some w.heap.size))) (w.alloc (.map #[] 0)):=by
  unfold execOp;rw[h1];simp[Instr.makeMap]
  all_goals rfl
 unfold Oper.wp;rw[Qq];refine PL _ _ _ ⟨Y',?_⟩ (h id M');rw[<-hd];exact hs.step g3 g2 g4 (by simp) (by simp[E',g1])
variable {P:Program} {n:Nat} {st:St} {Q:St->Prop} {k:List It}
def TC(P:Program)(i:aK)(x:St)(K:St->Prop):Prop:=T P i x K\/(bB x.s i.g=some true/\match i.op with
 |.call fx xs=>∃f caps Post,fx.ev x.s=.fn f caps/\aB P f (xs.map (·.ev x.s)++caps) x.U Post/\∀r Z',Post r Z'->K ⟨aZ x.s i.dst r,Z'⟩
 |.more (.U8 kt ok zv) [xm,xk]=>∃v,I6 P kt ok zv (xm.ev x.s) (xk.ev x.s) x.U v/\K ⟨aZ x.s i.dst v,x.U⟩
 |.more .mkMap []=>∀id,x.U id=none->K ⟨aZ x.s i.dst (.mp id),C' x.U id (gh (.map #[] 0) [])⟩
 |_=>False)
def TC.mono{i:aK}{x:St}{K K':St->Prop}(hk:∀x,K x->K' x)(h:TC P i x K):TC P i x K':=by
 rcases h with h|⟨h1,h2⟩
 .exact .inl (h.mono hk)
 .refine .inr ⟨h1,?_⟩;split at h2
  .obtain⟨f,caps,Post,g1,g2,g3⟩:=h2;exact⟨f,caps,Post,g1,g2,λr Z' hp=>hk _ (g3 r Z' hp)⟩
  .obtain⟨v,g1,g2⟩:=h2;exact⟨v,g1,hk _ g2⟩
  .exact λid M'=>hk _ (h2 id M')
  .exact h2.elim
def EL{F:Fr}(hn:F.n=n){o:Oper}{all:Array Oper}{x:St}{K:St->Prop}{a:Act}{w:World}(h:TC P (bT P n all o) x K)(hs:eG F x a w)
 {next:Act->World->Prop}{Q':Exit->Act->World->Prop}(PL:∀x' a' w',eG F x' a' w'->K x'->next a' w'):
 if Region.wanted o (yielded all a.tmps)then P3 P n o.op≠.bad/\o.wp P a w next Q' else next (a.put o.dst undef) w:=by
 rcases h with h|⟨hw,h⟩
 .exact tg hn h hs PL
 subst hn;obtain⟨I,hs⟩:=hs;have UA:=pT (P:=P) hs all o hw;rw[UA];simp only[if_true];have hdst:(bT P F.n all o).dst=o.dst.filter (·<F.n):=rfl;have WZ:(bT P F.n all o).op=P3 P F.n o.op:=rfl;rw[hdst,WZ]at h;split at h
 .rename_i fx xs PV;refine⟨λe=>?_,?_⟩
  .rw[PV]at e;cases e
  obtain⟨f,caps,Post,h1,h2,h3⟩:=h;obtain⟨f0,args,argTypes,g1,rfl,rfl⟩:=nz PV;refine pc hs g1 h1 h2 λr Z' hp a' w' PZ=>?_;exact PL _ a' w' PZ (h3 r Z' hp)
 .rename_i kt ok zv xm xk PV;refine⟨λe=>(by rw[PV]at e;cases e),?_⟩;obtain⟨v,⟨κ,_,kv,kV,id,g,b,hK,h1,h2,h3,rfl⟩,h4⟩:=h;exact Gc (i:=bT P F.n all o) (K:=K) (WZ.trans PV) hK h1 h2 h3 h4 F rfl I a w o all rfl hs next Q' PL
 .rename_i PV;refine⟨λe=>(by rw[PV]at e;cases e),?_⟩;exact Gd (i:=bT P F.n all o) (K:=K) (WZ.trans PV) h F rfl I a w o all rfl hs next Q' PL
 .exact h.elim
def TnC(P:Program)(n:Nat)(ops:Array Oper)(i:Nat)(x:St)(K:St->Prop):Prop:=match ops[i]? with
 |some o=>TC P (bT P n ops o) x K
 |none=>K x
def xR(P:Program)(n:Nat)(ops:Array Oper)(Q:St->Prop):Nat->Array Bool->St->Prop
 |0,g',x=>Region.ready .any ops g'=[]/\Q x
 |f+1,g',x=>(Region.ready .any ops g'=[]->Q x)/\∀i∈Region.ready .any ops g',TnC P n ops i x (xR P n ops Q f (g'.setIfInBounds i true))
def mN{F:Fr}(hn:F.n=n){ops:Array Oper}{Q:St->Prop}{Q':Exit->Act->World->Prop}(hQ:∀x a w,eG F x a w->Q x->Q' .normal a w):
 ∀(f:Nat) (g':Array Bool) (x:St) (a:Act) (w:World),eG F x a w->xR P n ops Q f g' x->wpAnyIn F.eB 0 P .any ops Q' f g' a w
 |0,_,_,_,_,hs,h=>⟨h.1,hQ _ _ _ hs h.2⟩
 |f+1,g',x,a,w,hs,h=>by
  refine⟨λh0=>hQ _ _ _ hs (h.1 h0),λi hi=>?_⟩;have h1:=h.2 i hi;unfold TnC at h1;unfold wpOpIn;cases ho:ops[i]? with
  |none=>
   simp only[ho]at h1;exact mN hn hQ f _ x a w hs h1
  |some o=>
   simp only[ho]at h1;have h2:=EL (Q':=Q') hn h1 hs λx' a' w' PZ hk=>mN hn hQ f _ x' a' w' PZ hk;by_cases hw:Region.wanted o (yielded ops a.tmps)=true
   .rw[aE hw]at h2;simp only[hw,if_true];exact De (j3 h2.1) h2.2
   .rw[aH hw]at h2;simp only[hw];exact⟨λ_ _=>trivial,h2⟩
def uX(P:Program)(l:List aK)(rec:List Nat->St->Prop)(g':List Nat)(x:St):List Nat->Prop
 |[]=>True
 |i::is=>(match l[i]? with
   |some ins=>TC P ins x (rec (i::g'))
   |none=>False)/\uX P l rec g' x is
def jb(P:Program)(l:List aK)(P7:List (List Nat))(Q:St->Prop):Nat->List Nat->St->Prop
 |0,g',x=>ec P7 g'=[]/\Q x
 |f+1,g',x=>match ec P7 g' with
   |[]=>Q x
   |i::is=>uX P l (jb P l P7 Q f) g' x (i::is)
def nT{l:List aK}{rec:List Nat->St->Prop}{g':List Nat}{x:St}:∀{is:List Nat},uX P l rec g' x is->∀i∈is,∃ins,l[i]?=some ins/\TC P ins x (rec (i::g'))
 |[],_,_,hi=>by cases hi
 |j::is,h,i,hi=>by
  obtain⟨h1,h2⟩:=h;rcases dc.1 hi with rfl|hi
  .cases hl:l[i]? with
   |none=>rw[hl]at h1;exact h1.elim
   |some ins=>rw[hl]at h1;exact⟨ins,rfl,h1⟩
  .exact nT h2 i hi
def mB{ops:Array Oper}{Q:St->Prop}:∀(f:Nat) (arr:Array Bool) (g':List Nat) (x:St),arr.size=ops.size->(∀i,i<ops.size->arr.getD i true=g'.contains i)->
 (∀i∈g',i<ops.size)->jb P (ops.toList.map (bT P n ops)) (ku ops) Q f g' x->xR P n ops Q f arr x
 |0,arr,g',x,hs,hl,ho,h=>⟨by rw[w8 hs hl ho];exact h.1,h.2⟩
 |f+1,arr,g',x,hs,hl,ho,h=>by
  have hr:=w8 hs hl ho;unfold jb at h;refine⟨λh0=>?_,λi hi=>?_⟩
  .rw[hr]at h0;rw[h0]at h;exact h
  .rw[hr]at hi;have H':i<ops.size:=by
    have:=(sX.1 hi).1;simpa[ku]using this
   have Qz:uX P (ops.toList.map (bT P n ops)) (jb P (ops.toList.map (bT P n ops)) (ku ops) Q f) g' x (ec (ku ops) g'):=by
    cases hrr:ec (ku ops) g' with
    |nil=>exact trivial
    |cons j js=>rw[hrr]at h;exact h
   obtain⟨ins,h1,h2⟩:=nT Qz i hi;have h3:ops[i]?=some ops[i]:=Array.getElem?_eq_getElem H';have h4:ins=bT P n ops ops[i]:=by simpa[H']using h1.symm
   unfold TnC;simp only[h3];rw[<-h4];refine h2.mono λx' Qh=>mB f _ (i::g') x' (by simpa using hs) (λj hj=>?_) (λj hj=>?_) Qh
   .by_cases e:j=i
    .subst e;rw[Tf,Array.getElem?_setIfInBounds_self_of_lt (by omega)];simp
    .rw[Tf,Array.getElem?_setIfInBounds_ne (λe'=>e e'.symm),<-Tf,hl j hj];simp[e]
   .rcases dc.1 hj with rfl|hj
    .exact H'
    .exact ho j hj
def ae.Jf(hm:P.follows .mixedOrders=true){l:List aK}{P7:List (List Nat)}(h:jb P l P7 (λx=>ae P n k x Q) l.length [] st):ae P n (.code (.Uv l P7)::k) st Q:=by
 intro F hn kt hk a w hs;obtain⟨z,RT,rfl,hy,Q8⟩:=ez hk;obtain⟨c0,rfl,Q1⟩:=gv hy;have Th:∃id ops,c0=.region id ops true/\ops.toList.map (bT P n ops)=l/\ku ops=P7:=by
  cases c0<;>simp only[dE,reduceCtorEq]at Q1;rename_i id ops draw;cases draw
  .simp at Q1
  .simp only[Bool.true_and]at Q1;split at Q1
   .cases Q1
   split at Q1
   .simp only[bM.Uv.injEq]at Q1;exact⟨id,ops,rfl,Q1.1,Q1.2⟩
   .simp at Q1
 obtain⟨id,ops,rfl,rfl,rfl⟩:=Th;have PZ:eG F st a { w with drawn:=w.drawn+1 }:=by
  obtain⟨I,hs⟩:=hs;have hk:dg (aI I st.U) (aI I st.U) w { w with drawn:=w.drawn+1 }:=λ_ _ h=>⟨h,rfl⟩
  refine⟨I,⟨⟨hs.sat.size,hs.sat.os,hs.sat.tape,hs.sat.output,hs.sat.same,hs.sat.fin,hs.sat.inj,λid o ho=>?_,hs.sat.fresh,hs.sat.SD⟩,hs.le,hs.size,hs.book.vY hk,λi hi=>?_⟩⟩
  .exact(hs.sat.obj id o ho).mono (dd.refl I) hk (Qt _) (λ_ _ _ _=>rfl)
  .exact E'.mono (dd.refl I) hk (Qt _) _ _ (hs.slot i hi)
 refine wpIn_region_any hm (mN (Q:=λx=>ae P n k x Q) hn (λx a w hs h=>h F hn RT Q8 a w hs) _ _ _ _ _ PZ ?_);have:=mB (P:=P) (n:=n) (Q:=λx=>ae P n k x Q) (ops:=ops) ops.size (Array.replicate ops.size false) [] st (by simp) (λi hi=>by
  rw[Tf,Array.getElem?_replicate,aE hi];simp) (by simp) (by simpa using h)
 exact this
def qg{l:List aK}{rec:List Nat->St->Prop}{g':List Nat}{x:St}:∀{is:List Nat},(∀i∈is,∃ins,l[i]?=some ins/\TC P ins x (rec (i::g')))->uX P l rec g' x is
 |[],_=>trivial
 |j::is,h=>by
  obtain⟨ins,h1,h2⟩:=h j (by simp);refine⟨by rw[h1];exact h2,qg λi hi=>h i (by simp[hi])⟩
variable {P:Program} {n:Nat} {st:St} {Q:St->Prop} {k:List It}
def Yl(P:Program)(i:aK)(x:St):Prop:=match i.dst with
 |some d=>QY P i x.s x.U (x.s d)
 |none=>∃v,QY P i x.s x.U v
def RE(P:Program)(l:List aK)(K:St->Prop):List Nat->St->Prop
 |[],x=>K x
 |m::its,x=>match l[m/2]? with
  |none=>False
  |some ins=>if m%2=0 then TC P ins x (RE P l K its)else Yl P ins x/\RE P l K its x
def bC(l:List aK)(i:Nat):aK:=(l[i]?).getD ⟨none,.bad,none⟩
def eX(P4:List (List Nat))(i:Nat):List Nat:=P4.getD i []
def dK(l:List aK)(P4:List (List Nat))(j:Nat):Bool:=bx (bC l j).op != 0||(match(bC l j).dst with
 |some d=>(List.range l.length).any λi=>(bC l i).lF.contains d&&!(eX P4 i).contains j
 |none=>false)
def Dm(l:List aK)(P4:List (List Nat))(done:List Nat)(e:Nat):List Nat:=
 if dK l P4 e then done.filterMap λk=>if !(dK l P4 k)&&(!(k0 (bC l k).op)&&!((eX P4 e).contains k))then some (2*k+1)else none else[]
def eC(l:List aK)(P4:List (List Nat)):List Nat->List Nat->List Nat
 |_,[]=>[]
 |done,e::r=>2*e::(Dm l P4 done e++eC l P4 (done++[e]) r)
def mL(p:Nat->Nat->Bool):List Nat->Bool
 |[]=>true
 |a::r=>r.all (p a)&&mL p r
def nb{p:Nat->Nat->Bool}:∀{a:List Nat} {b:List Nat} {x y:Nat},mL p (a++b)=true->x∈a->y∈b->p x y=true
 |[],_,_,_,_,h,_=>by cases h
 |c::a,b,x,y,hp,hx,hy=>by
  simp only[List.cons_append,mL,Ba]at hp;rcases dc.1 hx with rfl|hx
  .exact fv.1 hp.1 y (List.mem_append_right _ hy)
  .exact nb hp.2 hx hy
def vj(f:Nat->List Nat):List Nat->List Nat->Bool
 |_,[]=>true
 |done,e::r=>(f e).all done.contains&&vj f (done++[e]) r
def sd{f:Nat->List Nat}:∀{r done:List Nat} {a:List Nat} {e:Nat} {b:List Nat},vj f done r=true->r=a++e::b->∀x∈f e,x∈done++a
 |[],_,a,e,b,_,h,_,_=>by simp at h
 |c::r,done,[],e,b,hB,h,x,hx=>by
  simp only[mo,List.cons.injEq]at h;obtain⟨rfl,rfl⟩:=h;simp only[vj,Ba]at hB;simpa using fv.1 hB.1 x hx
 |c::r,done,d::a,e,b,hB,h,x,hx=>by
  simp only[List.cons_append,List.cons.injEq]at h;obtain⟨rfl,rfl⟩:=h;simp only[vj,Ba]at hB;have:=sd hB.2 rfl x hx;simpa using this
def HO(l:List aK)(P7 P4:List (List Nat))(ord:List Nat):Bool:=
 (decide (ord.length=l.length)&&(decide (P7.length=l.length)&&ord.all λi=>decide (i<l.length)))&&
 (mL (λa b=>decide (a≠b)) ord&&
 (vj (λi=>P7.getD i []) [] ord&&
 ((List.range l.length).all (λj=>(eX P4 j).all λi=>(P7.getD j []).any λd=>d==i||(eX P4 d).contains i)&&
 ((List.range l.length).all (λi=>(List.range l.length).all λj=>i==j||((bC l i).dst.isNone||(bC l i).dst != (bC l j).dst))&&
 (List.range l.length).all (λi=>(List.range l.length).all λj=>i==j||(match(bC l j).dst with
   |some d=>!((bC l i).lF.contains d)||((eX P4 i).contains j||(dK l P4 j&&(eX P4 j).contains i))
   |none=>true))))))
def eOk(l:List aK)(P7 P4:List (List Nat))(ord:List Nat):Bool:=HO l P7 P4 ord&&mL (λa b=>!(dK l P4 a)||(eX P4 b).contains a) ord
def sN:∀{l:List Nat},mL (λa b=>decide (a≠b)) l=true->l.Nodup
 |[],_=>List.nodup_nil
 |a::r,h=>by
  simp only[mL,Ba]at h;refine List.nodup_cons.2 ⟨λhm=>?_,sN h.2⟩;have:=fv.1 h.1 a hm;simp at this
structure EOkW(l:List aK)(P7 P4:List (List Nat))(ord:List Nat):Prop where
 len:ord.length=l.length
 XW:P7.length=l.length
 lt:∀i∈ord,i<l.length
 nodup:ord.Nodup
 ahead:∀a e b,ord=a++e::b->∀x∈P7.getD e [],x∈a
 anc:∀j,j<l.length->∀i∈eX P4 j,∃d∈P7.getD j [],d=i\/i∈eX P4 d
 dsts:∀i j,i<l.length->j<l.length->i≠j->∀d,(bC l i).dst=some d->(bC l j).dst≠some d
 XX:∀i j,i<l.length->j<l.length->i≠j->∀d,(bC l j).dst=some d->d∈(bC l i).lF->j∈eX P4 i\/(dK l P4 j=true/\i∈eX P4 j)
def wK{l:List aK}{P7 P4:List (List Nat)}{ord:List Nat}(h:HO l P7 P4 ord=true):EOkW l P7 P4 ord:=by
 simp only[HO,Ba,Sp]at h;obtain⟨⟨h1,h2,h3⟩,h4,h5,h6,h7,h8⟩:=h;refine⟨h1,h2,λi hi=>by simpa using fv.1 h3 i hi,sN h4,λa e b he x hx=>by simpa using sd h5 he x hx,?_,?_,?_⟩
 .intro j hj i hi;have:=fv.1 (fv.1 h6 j (by simpa using hj)) i hi;simp only[Ic,kJ,beq_iff_eq,List.contains_iff_mem]at this;exact this
 .intro i j hi hj P' d hd he;have:=fv.1 (fv.1 h7 i (by simpa using hi)) j (by simpa using hj);simp only[kJ,beq_iff_eq,hd,he,Option.isNone_some,bne_self_eq_false,jz,or_false]at this;exact P' this
 .intro i j hi hj P' d hd hu;have:=fv.1 (fv.1 h8 i (by simpa using hi)) j (by simpa using hj);simp only[kJ,beq_iff_eq,hd,Ba,Bool.not_eq_true',List.contains_iff_mem]at this;rcases this with h|h|h
  .exact absurd h P'
  .have hc:(bC l i).lF.contains d=true:=List.contains_iff_mem.2 hu;rw[hc]at h;cases h
  .exact h
structure EOk(l:List aK)(P7 P4:List (List Nat))(ord:List Nat):Prop extends EOkW l P7 P4 ord where
 RQ:∀a b x y,ord=a++b->x∈a->y∈b->dK l P4 x=true->x∈eX P4 y
def zh{l:List aK}{P7 P4:List (List Nat)}{ord:List Nat}(h:eOk l P7 P4 ord=true):EOk l P7 P4 ord:=by
 simp only[eOk,Ba]at h;refine⟨wK h.1,λa b x y he hx hy Yi=>?_⟩;have h9:=h.2;rw[he]at h9;have:=nb h9 hx hy;simp only[Yi,Bool.not_true,Bool.false_or,List.contains_iff_mem]at this;exact this
def EOkW.closed{l:List aK}{P7 P4:List (List Nat)}{ord:List Nat}(h:EOkW l P7 P4 ord){L:List Nat}(hc:∀m∈L,∀d∈P7.getD m [],d∈L)(S1:∀i,i<l.length->i∈ord):
 ∀(m:Nat) (a:List Nat) (j:Nat) (b:List Nat),a.length<m->ord=a++j::b->(∀d∈P7.getD j [],d∈L)->∀i∈eX P4 j,i∈L:=by
 intro m
 induction m with
 |zero=>intro a j b ha;omega
 |succ m ih=>
  intro a j b ha he hd i hi;have hj:j<l.length:=h.lt j (by rw[he];simp);obtain⟨d,h1,h2⟩:=h.anc j hj i hi;rcases h2 with rfl|h2
  .exact hd d h1
  .have QW:=h.ahead a j b he d h1;obtain⟨a1,a2,rfl⟩:=List.append_of_mem QW;exact ih a1 d (a2++j::b) (by simp at ha;omega) (by rw[he];simp) (λd' h'=>hc d (hd d h1) d' h') i h2
def mR{i:aK}{s s':Nat->V}(h:∀u∈i.lF,s u=s' u):bB s i.g=bB s' i.g:=by
 cases hg:i.g with
 |none=>rfl
 |some g=>
  obtain⟨x,b⟩:=g;have:x.ev s=x.ev s':=by
   cases x with
   |t t=>exact h t (List.mem_filterMap.2 ⟨.t t,List.mem_append_right _ (by simp[hg]),rfl⟩)
   |c v=>rfl
  simp only[bB,this]
def zS{i:aK}{s s':Nat->V}(h:∀u∈i.lF,s u=s' u):∀x∈i.op.xs,x.ev s=x.ev s':=λx hx=>by
 cases x with
 |t t=>exact h t (CY hx rfl)
 |c v=>rfl
def Aj{i:aK}{s s':Nat->V}{U:ag}{v:V}(h:∀u∈i.lF,s u=s' u)(hq:QY P i s U v):QY P i s' U v:=by
 unfold QY at*;rw[<-mR h];exact hq.imp (λ⟨h1,h2⟩=>⟨h1,tJ (zS h) h2⟩) id
def yU{i:aK}{x y:St}{K K':St->Prop}(h:∀u∈i.lF,x.s u=y.s u)(Qj:x.U=y.U)(hk:∀r Z',K ⟨aZ x.s i.dst r,Z'⟩->K' ⟨aZ y.s i.dst r,Z'⟩)(ht:TC P i x K):TC P i y K':=by
 have hx:=zS h;rcases ht with ht|⟨hw,ht⟩
 .refine .inl ?_;unfold T at*;rw[<-mR h];split<;>rename_i ho<;>simp only[ho]at ht
  .unfold TO at*;split<;>rename_i TK<;>simp only[TK]at ht
   .obtain⟨g1,v,g2,g3⟩:=ht;obtain⟨e1,e2⟩:=su (U:=y.U) hx;exact⟨e2.1 g1,v,by rw[<-e1,<-Qj];exact g2,by rw[<-Qj];exact hk _ _ g3⟩
   .split at ht
    .rename_i fx xs PV;obtain⟨f,caps,v,g1,g2,g3⟩:=ht;refine⟨f,caps,v,?_,?_,by rw[<-Qj];exact hk _ _ g3⟩
     .rw[<-hx fx (by rw[PV];simp[Qp.xs])];exact g1
     .rw[<-qp (s:=x.s) (s':=y.s) λz hz=>hx z (by rw[PV];simp[Qp.xs,hz]),<-Qj];exact g2
    .exact ht.elim
   .split at ht
    .rename_i sz xa xv PV;obtain⟨Z',g1,g2⟩:=ht;refine⟨Z',?_,hk _ _ g2⟩;rw[<-hx xa (by rw[PV];simp[Qp.xs]),<-hx xv (by rw[PV];simp[Qp.xs]),<-Qj];exact g1
    .exact ht.elim
   .obtain⟨g,g1,g2⟩:=ht;refine⟨g,by rw[<-fK hx,<-Qj];exact g1,λid M'=>hk _ _ (g2 id (by rw[Qj];exact M'))⟩
  .rw[<-Qj];exact hk _ _ ht
 .refine .inr ⟨by rw[<-mR h];exact hw,?_⟩;split at ht
  .rename_i fx xs PV;obtain⟨f,caps,Post,g1,g2,g3⟩:=ht;refine⟨f,caps,Post,?_,?_,λr Z' hp=>hk _ _ (g3 r Z' hp)⟩
   .rw[<-hx fx (by rw[PV];simp[Qp.xs])];exact g1
   .rw[<-qp (s:=x.s) (s':=y.s) λz hz=>hx z (by rw[PV];simp[Qp.xs,hz]),<-Qj];exact g2
  .rename_i kt ok zv xm xk PV;obtain⟨v,g1,g2⟩:=ht;refine⟨v,?_,by rw[<-Qj];exact hk _ _ g2⟩;rw[<-hx xm (by rw[PV];simp[Qp.xs]),<-hx xk (by rw[PV];simp[Qp.xs]),<-Qj];exact g1
  .exact λid M'=>by rw[<-Qj];exact hk _ _ (ht id (by rw[Qj];exact M'))
  .exact ht.elim
structure kc(P:Program)(l:List aK)(P7 P4:List (List Nat))(ord:List Nat)(K:St->Prop)(L:List Nat)(y:St)(done rest:List Nat)(x:St):Prop where
 split:ord=done++rest
 sub:∀i∈L,i∈done
 nodup:L.Nodup
 closed:∀m∈L,∀d∈P7.getD m [],d∈L
 RQ:∀i∈done,dK l P4 i=true->i∈L
 store:y.U=x.U
 slot:∀d,(∀i∈done,i∉L->(bC l i).dst≠some d)->y.s d=x.s d
 YV:∀i∈done,i∉L->Yl P (bC l i) x
 go:RE P l K (eC l P4 done rest) x
def iu{l:List aK}{P4:List (List Nat)}{e:Nat}(h:dK l P4 e=false)(he:e<l.length)(P':e∉eX P4 e):bx (bC l e).op=0/\∀d,(bC l e).dst=some d->d∉(bC l e).lF:=by
 simp only[dK,Bool.or_eq_false_iff,bne_eq_false_iff_eq]at h;refine⟨h.1,λd hd hu=>?_⟩;have h2:=h.2;rw[hd]at h2;simp only[List.any_eq_false,List.mem_range,Ba,Bool.not_eq_true',not_and,Bool.not_eq_false]at h2;have:=h2 e he (List.contains_iff_mem.2 hu);exact P' (List.contains_iff_mem.1 this)
def Cd{l:List aK}{K:St->Prop}{e:Nat}{its:List Nat}{x:St}(he:e<l.length):RE P l K (2*e::its) x↔TC P (bC l e) x (RE P l K its):=by
 have h1:2*e/2=e:=by omega
 have h2:2*e%2=0:=by omega
 rw[RE,h1,Tq he];simp only[aE h2,bC,Tq he,Option.getD_some]
def Lj{l:List aK}{K:St->Prop}{e:Nat}{its:List Nat}{x:St}(he:e<l.length):RE P l K ((2*e+1)::its) x↔Yl P (bC l e) x/\RE P l K its x:=by
 have h1:(2*e+1)/2=e:=by omega
 have h2:¬(2*e+1)%2=0:=by omega
 rw[RE,h1,Tq he];simp only[aH h2,bC,Tq he,Option.getD_some]
def tv{l:List aK}{K:St->Prop}{its:List Nat}{x:St}(p:Nat->Bool):∀{done:List Nat},(∀i∈done,i<l.length)->RE P l K ((done.filterMap λk=>if p k then some (2*k+1)else none)++its) x->
 (∀k∈done,p k=true->Yl P (bC l k) x)/\RE P l K its x
 |[],_,h=>⟨by simp,h⟩
 |a::r,hl,h=>by
  rw[List.filterMap_cons]at h;cases hp:p a with
  |false=>
   simp only[hp,jz,if_false]at h;obtain⟨h1,h2⟩:=tv p (λi hi=>hl i (by simp[hi])) h;refine⟨λk hk Xv=>?_,h2⟩;rcases dc.1 hk with rfl|hk
   .rw[hp]at Xv;cases Xv
   .exact h1 k hk Xv
  |true=>
   simp only[hp,if_true,List.cons_append]at h;rw[Lj (hl a (by simp))]at h;obtain⟨h1,h2⟩:=tv p (λi hi=>hl i (by simp[hi])) h.2;refine⟨λk hk Xv=>?_,h2⟩;rcases dc.1 hk with rfl|hk
   .exact h.1
   .exact h1 k hk Xv
section
variable {l:List aK} {P7 P4:List (List Nat)} {ord:List Nat} {K:St->Prop} (hE:EOkW l P7 P4 ord)
include hE
def EOkW.mem(i:Nat)(hi:i<l.length):i∈ord:=(vw l.length ord hE.nodup hE.lt).2 hE.len i hi
def EOkW.mK{a:List Nat}{j:Nat}{b:List Nat}(he:ord=a++j::b):∀i∈eX P4 j,i∈a:=by
 have hc:∀m∈a,∀d∈P7.getD m [],d∈a:=λm hm d hd=>by
  obtain⟨a1,a2,rfl⟩:=List.append_of_mem hm;have:=hE.ahead a1 m (a2++j::b) (by rw[he];simp) d hd;simp[this]
 exact hE.closed hc hE.mem (a.length+1) a j b (by omega) he (λd hd=>hE.ahead a j b he d hd)
def EOkW.nR{j:Nat}(hj:j<l.length):j∉eX P4 j:=λh=>by
 obtain⟨a,b,he⟩:=List.append_of_mem (hE.mem j hj);have h1:=hE.mK he j h;have:=hE.nodup;rw[he]at this;have:=(List.nodup_append.1 this).2.2 j h1 j (by simp);exact this rfl
def tp{i:Nat}{x:St}{e:Nat}{v:V}{Z':ag}(hi:i<l.length)(he:e<l.length)(P':i≠e)(hu:∀d,(bC l e).dst=some d->d∉(bC l i).lF)
 (hq:∀v,QY P (bC l i) x.s x.U v->QY P (bC l i) x.s Z' v)(h:Yl P (bC l i) x):Yl P (bC l i) ⟨aZ x.s (bC l e).dst v,Z'⟩:=by
 unfold Yl at*;have hq':∀v',QY P (bC l i) x.s x.U v'->QY P (bC l i) (aZ x.s (bC l e).dst v) Z' v':=λv' hv=>(gi hu).2 (hq v' hv);cases hd:(bC l i).dst with
 |none=>rw[hd]at h;obtain⟨v',h⟩:=h;exact⟨v',hq' v' h⟩
 |some d=>
  rw[hd]at h;simp only at h|-;have:aZ x.s (bC l e).dst v d=x.s d:=by
   have:=hE.dsts i e hi he P' d hd;cases W6:(bC l e).dst with
   |none=>rfl
   |some d'=>
    rw[W6]at this;simp only[aZ];rw[aH (λe'=>this (by rw[e']))]
  rw[this];exact hq' _ h
def kc.adv{L:List Nat}{y:St}:∀{rest done:List Nat} {x:St},kc P l P7 P4 ord K L y done rest x->
 ∃YW Wh x',kc P l P7 P4 ord K L y YW Wh x'/\∀h r,Wh=h::r->dK l P4 h=true
 |[],done,x,h=>⟨done,[],x,h,by simp⟩
 |e::rest,done,x,h=>by
  cases Sv:dK l P4 e with
  |true=>exact⟨done,e::rest,x,h,λa r he=>by cases he;exact Sv⟩
  |false=>
   have TR:e<l.length:=hE.lt e (by rw[h.split];simp);obtain⟨hk,YX⟩:=iu Sv TR (hE.nR TR);have Rh:=hE.nodup;rw[h.split]at Rh;have hed:e∉done:=λhm=>(List.nodup_append.1 Rh).2.2 e hm e (by simp) rfl;have W7:e∉L:=λhm=>hed (h.sub e hm);have RO:=h.go;rw[eC,Cd TR,Dm,aH (by simp[Sv]),mo]at RO;have hT:T P (bC l e) x (RE P l K (eC l P4 (done++[e]) rest)):=by
    rcases RO with RO|⟨_,RO⟩
    .exact RO
    .exfalso;revert RO hk;generalize (bC l e).op=op;intro hk RO;split at RO
     .simp[bx]at hk
     .simp[bx]at hk
     .simp[bx]at hk
     .exact RO
   obtain⟨v,hv,W8⟩:=(cN (by simp[fN,hk])).1 hT;refine kc.adv (rest:=rest) (done:=done++[e]) (x:=⟨aZ x.s (bC l e).dst v,x.U⟩) ⟨by rw[h.split];simp,λi hi=>by simp[h.sub i hi],h.nodup,h.closed,λi hi RH=>?_,h.store,λd hd=>?_,λi hi TM=>?_,W8⟩
   .rcases ei.1 hi with hi|hi
    .exact h.RQ i hi RH
    .simp only[iW]at hi;rw[hi,Sv]at RH;cases RH
   .have h1:=h.slot d λi hi TM=>hd i (by simp[hi]) TM;have h2:=hd e (by simp) W7;rw[h1];simp only;cases W6:(bC l e).dst with
    |none=>rfl
    |some d'=>
     rw[W6]at h2;simp only[aZ];rw[aH (λe'=>h2 (by rw[e']))]
   .by_cases RH:i=e
    .subst RH;unfold Yl;cases hd:(bC l i).dst with
     |none=>exact⟨v,hv⟩
     |some d=>
      simp only;have e1:aZ x.s (some d) v d=v:=by simp[aZ]
      rw[e1];exact(gi (λt ht=>by cases ht;exact YX d hd)).2 hv
    .have M':i∈done:=by
      rcases ei.1 hi with hi|hi
      .exact hi
      .simp only[iW]at hi;exact absurd hi RH
     have So:i<l.length:=hE.lt i (by rw[h.split];simp[M']);refine tp hE So TR RH (λd hd hu=>?_) (λv hv=>hv) (h.YV i M' TM);rcases hE.XX i e So TR RH d hd hu with h1|⟨h1,_⟩
     .obtain⟨a,b,UY⟩:=List.append_of_mem M';have h2:=hE.mK (a:=a) (j:=i) (b:=b++e::rest) (by rw[h.split,UY];simp) e h1;exact hed (by rw[UY];simp[h2])
     .rw[Sv]at h1;cases h1
end
section
variable {l:List aK} {P7 P4:List (List Nat)} {ord:List Nat} {K:St->Prop} (hE:EOk l P7 P4 ord)
include hE
def pN:∀(f:Nat) (L:List Nat) (y:St) (done rest:List Nat) (x:St),f+L.length=l.length->kc P l P7 P4 ord K L y done rest x->jb P l P7 K f L y:=by
 intro f
 induction f with
 |zero=>
  intro L y done rest x hf h;have Qz:∀i,i<l.length->i∈L:=(vw l.length L h.nodup λi hi=>hE.lt i (by rw[h.split];simp[h.sub i hi])).2 (by omega);have Rh:=hE.nodup;rw[h.split]at Rh;have Ss:rest=[]:=by
   cases rest with
   |nil=>rfl
   |cons e r=>
    exfalso;have TR:e<l.length:=hE.lt e (by rw[h.split];simp);exact(List.nodup_append.1 Rh).2.2 e (h.sub e (Qz e TR)) e (by simp) rfl
  subst Ss;have hyx:y=x:=by
   obtain⟨s,U⟩:=y;obtain⟨s',Z'⟩:=x;have h1:U=Z':=h.store;have h2:s=s':=funext λd=>h.slot d λi hi TM=>absurd (Qz i (hE.lt i (by rw[h.split];simp[hi]))) TM;rw[h1,h2]
  refine⟨?_,by rw[hyx];exact h.go⟩;unfold ec;rw[List.filter_eq_nil_iff];intro i hi;simp only[List.mem_range,hE.XW]at hi;simp[Qz i hi]
 |succ f ih=>
  intro L y done rest x hf h;obtain⟨done,rest,x,h,Xz⟩:=kc.adv hE.toEOkW h;have Rh:=hE.nodup;rw[h.split]at Rh;have hmemL:∀i∈L,i<l.length:=λi hi=>hE.lt i (by rw[h.split];simp[h.sub i hi]);have key:uX P l (jb P l P7 K f) L y (ec P7 L):=by
   refine qg λi hi=>?_;obtain⟨So,TM,Wi⟩:=vz hi;rw[hE.XW]at So;refine⟨bC l i,by simp[bC,Tq So],?_⟩;obtain⟨pa,pb,hpe⟩:=List.append_of_mem (hE.mem i So);have SU:∀j∈eX P4 i,j∈L:=hE.closed h.closed hE.mem (pa.length+1) pa i pb (by omega) hpe Wi;have Wj:∀u∈(bC l i).lF,x.s u=y.s u:=λu hu=>(h.slot u λj hj Uh hd=>by
    have Ta:j<l.length:=hE.lt j (by rw[h.split];simp[hj]);by_cases RA:j=i
    .subst RA;cases Rf:dK l P4 j with
     |true=>exact Uh (h.RQ j hj Rf)
     |false=>exact(iu Rf Ta (hE.nR Ta)).2 u hd hu
    .rcases hE.XX i j So Ta (λe=>RA e.symm) u hd hu with h1|⟨h1,_⟩
     .exact Uh (SU j h1)
     .exact Uh (h.RQ j hj h1)).symm
   by_cases M':i∈done
   .have RH:dK l P4 i=false:=by
     cases RH:dK l P4 i with
     |false=>rfl
     |true=>exact absurd (h.RQ i M' RH) TM
    obtain⟨hk,_⟩:=iu RH So (hE.nR So);have hq:=h.YV i M' TM;obtain⟨v,hv,hvd⟩:∃v,QY P (bC l i) x.s x.U v/\∀d,(bC l i).dst=some d->x.s d=v:=by
     unfold Yl at hq;cases hd:(bC l i).dst with
     |none=>rw[hd]at hq;obtain⟨v,hq⟩:=hq;exact⟨v,hq,by simp⟩
     |some d=>rw[hd]at hq;exact⟨_,hq,λd' e=>by cases e;rfl⟩
    refine .inl ((cN (by simp[fN,hk])).2 ⟨v,?_,?_⟩)
    .rw[h.store];exact Aj Wj hv
    .refine ih (i::L) _ done rest x (by simp only[Q4];omega) ⟨h.split,λj hj=>?_,List.nodup_cons.2 ⟨TM,h.nodup⟩,λm hm d hd=>?_,λj hj Rf=>by simp[h.RQ j hj Rf],h.store,λd hd=>?_,λj hj Uh=>h.YV j hj (λhm=>Uh (by simp[hm])),h.go⟩
     .rcases dc.1 hj with rfl|hj
      .exact M'
      .exact h.sub j hj
     .rcases dc.1 hm with rfl|hm
      .simp[Wi d hd]
      .simp[h.closed m hm d hd]
     .simp only;by_cases W9:(bC l i).dst=some d
      .rw[W9];simp only[aZ];rw[aE trivial];exact(hvd d W9).symm
      .have h1:=h.slot d λj hj Uh=>by
        by_cases RA:j=i
        .rw[RA];exact W9
        .exact hd j hj (by simp[RA,Uh])
       rw[<-h1];cases W6:(bC l i).dst with
       |none=>rfl
       |some d'=>
        rw[W6]at W9;simp only[aZ];rw[aH (λe'=>W9 (by rw[e']))]
   .have ZW:i∈rest:=by
     have:=hE.mem i So;rw[h.split]at this;exact(ei.1 this).resolve_left M'
    obtain⟨Us,rr,rfl⟩:∃a r,rest=a::r:=by
     cases rest with
     |nil=>cases ZW
     |cons a r=>exact⟨a,r,rfl⟩
    have Sv:=Xz Us rr rfl;have XY:Us∉done:=λhm=>(List.nodup_append.1 Rh).2.2 Us hm Us (by simp) rfl;have hih:i=Us:=by
     rcases dc.1 ZW with e|ZW
     .exact e
     .exfalso;have:=hE.RQ (done++[Us]) rr Us i (by rw[h.split];simp) (by simp) ZW Sv;exact XY (h.sub _ (SU _ this))
    subst hih;have RO:=h.go;rw[eC,Cd So]at RO;refine yU Wj h.store.symm (λr Z' hK=>?_) RO;rw[Dm,aE Sv]at hK;obtain⟨hck,W8⟩:=tv (λk=>!(dK l P4 k)&&(!(k0 (bC l k).op)&&!((eX P4 i).contains k))) (λj hj=>hE.lt j (by rw[h.split];simp[hj])) hK;refine ih (i::L) _ (done++[i]) rr ⟨aZ x.s (bC l i).dst r,Z'⟩ (by simp only[Q4];omega) ⟨by rw[h.split];simp,λj hj=>?_,List.nodup_cons.2 ⟨TM,h.nodup⟩,λm hm d hd=>?_,λj hj Rf=>?_,rfl,λd hd=>?_,λj hj Uh=>?_,W8⟩
    .rcases dc.1 hj with rfl|hj
     .simp
     .simp[h.sub j hj]
    .rcases dc.1 hm with rfl|hm
     .simp[Wi d hd]
     .simp[h.closed m hm d hd]
    .rcases ei.1 hj with hj|hj
     .simp[h.RQ j hj Rf]
     .simp only[iW]at hj;simp[hj]
    .have h1:(bC l i).dst=some d\/y.s d=x.s d:=by
      by_cases W9:(bC l i).dst=some d
      .exact .inl W9
      .exact .inr (h.slot d λj hj Uh=>hd j (by simp[hj]) (by
        simp only[dc,not_or];exact⟨λe=>M' (e▸hj),Uh⟩))
     simp only;cases W6:(bC l i).dst with
     |none=>rw[W6]at h1;exact h1.resolve_left (by simp)
     |some d'=>
      simp only[aZ];split
      .rfl
      .rename_i P';rw[W6]at h1;exact h1.resolve_left (λe=>P' (by cases e;rfl))
    .have XZ:j∈done:=by
      rcases ei.1 hj with hj|hj
      .exact hj
      .simp only[iW]at hj;exact absurd (by simp[hj]) Uh
     have VG:j∉L:=λhm=>Uh (by simp[hm]);have Ta:j<l.length:=hE.lt j (by rw[h.split];simp[XZ]);have RA:j≠i:=λe=>M' (e▸XZ);have Rf:dK l P4 j=false:=by
      cases Rf:dK l P4 j with
      |false=>rfl
      |true=>exact absurd (h.RQ j XZ Rf) VG
     cases hsf:k0 (bC l j).op with
     |true=>
      refine tp hE.toEOkW Ta So RA (λd hd hu=>?_) (λv hv=>j8 hsf hv) (h.YV j XZ VG);rcases hE.XX j i Ta So RA d hd hu with h1|⟨_,h1⟩
      .obtain⟨a,b,UY⟩:=List.append_of_mem XZ;have h2:=hE.mK (a:=a) (j:=j) (b:=b++i::rr) (by rw[h.split,UY];simp) i h1;exact M' (by rw[UY];simp[h2])
      .exact VG (SU j h1)
     |false=>
      refine hck j XZ ?_;simp only[Rf,hsf,Bool.not_false,Bool.true_and,Bool.not_eq_true'];cases hc:(eX P4 i).contains j with
      |false=>rfl
      |true=>exact absurd (SU j (List.contains_iff_mem.1 hc)) VG
  cases hr:ec P7 L with
  |cons a r=>unfold jb;rw[hr]at key|-;exact key
  |nil=>
   exfalso;have:∃i,i∈ord/\i∉L:=by
    by_cases hx:∃i,i∈ord/\i∉L
    .exact hx
    .exfalso;have G':∀i∈ord,i∈L:=λi hi=>Classical.byContradiction λhn=>hx ⟨i,hi,hn⟩;have h1:=hE.nodup.length_le_of_subset G';have:=hE.len;omega
   obtain⟨i,hi,TM⟩:=this;have first:∀(a b:List Nat),ord=a++b->(∀j∈a,j∈L)->(∃i∈b,i∉L)->∃a' e b',ord=a'++e::b'/\(∀j∈a',j∈L)/\e∉L:=by
    intro a b
    induction b generalizing a with
    |nil=>rintro _ _ ⟨i,h,_⟩;cases h
    |cons e b ihb=>
     intro he ha hx;by_cases W7:e∈L
     .refine ihb (a++[e]) (by rw[he];simp) (λj hj=>?_) ?_
      .rcases ei.1 hj with hj|hj
       .exact ha j hj
       .simp only[iW]at hj;rw[hj];exact W7
      .obtain⟨i,hi,TM⟩:=hx;rcases dc.1 hi with rfl|hi
       .exact absurd W7 TM
       .exact⟨i,hi,TM⟩
     .exact⟨a,e,b,he,ha,W7⟩
   obtain⟨a,e,b,he,ha,W7⟩:=first [] ord rfl (by simp) ⟨i,hi,TM⟩
   have TR:e<l.length:=hE.lt e (by rw[he];simp);have:e∈ec P7 L:=by
    unfold ec;refine sX.2 ⟨by simp[hE.XW,TR],?_⟩;simp only[Ba,Bool.not_eq_true',fv];refine⟨by simpa using W7,λd hd=>?_⟩;simpa using ha d (hE.ahead a e b he d hd)
   rw[hr]at this;cases this
end
def ae.pF(hm:P.follows .mixedOrders=true){l:List aK}{P7:List (List Nat)}(ord:List Nat)(P4:List (List Nat))(its:List Nat)(hB:eOk l P7 P4 ord=true)(hi:eC l P4 [] ord=its)
 (h:RE P l (λx=>ae P n k x Q) its st):ae P n (.code (.Uv l P7)::k) st Q:=by
 have hE:=zh hB;refine ae.Jf hm (pN hE l.length [] st [] ord st (by simp) ⟨rfl,by simp,List.nodup_nil,by simp,by simp,rfl,λ_ _=>rfl,by simp,by rw[hi];exact h⟩)
def RE.Qx{l:List aK}{K:St->Prop}(rest:List Nat):∀(idx:List Nat) (sg:List aK) {x:St},(idx.map λm=>l[m/2]?)=sg.map some->(idx.all λm=>m%2==0)=true->
 Go P n (.d sg [.stop (RE P l K rest)]) x (λ_=>False)->RE P l K (idx++rest) x
 |[],[],_,_,_,h=>h
 |[],_::_,_,h,_,_=>by simp at h
 |_::_,[],_,h,_,_=>by simp at h
 |m::idx,i::sg,x,h,hev,hg=>by
  simp only[eD,List.cons.injEq]at h;simp only[yD,Ba,beq_iff_eq]at hev;show RE P l K (m::(idx++rest)) x;rw[RE,h.1];simp only[aE hev.1];exact .inl (T.mono (λx' Qh=>RE.Qx rest idx sg h.2 (by simpa using hev.2) Qh) hg)
def RE.call{l:List aK}{K:St->Prop}{m:Nat}{rest:List Nat}{x:St}{i:aK}(hi:l[m/2]?=some i)(hm:m%2=0){fx:VX}{xs:List VX}(hw:bB x.s i.g=some true)(ho:i.op=.call fx xs){f:FuncId}{caps:List V}(hf:fx.ev x.s=.fn f caps)
 {Post:V->ag->Prop}(hc:aB P f (xs.map (·.ev x.s)++caps) x.U Post)(h:∀r Z',Post r Z'->RE P l K rest ⟨aZ x.s i.dst r,Z'⟩):RE P l K (m::rest) x:=by
 rw[RE,hi];simp only[aE hm];exact .inr ⟨hw,by rw[ho];exact⟨f,caps,Post,hf,hc,h⟩⟩
def RE.aC{l:List aK}{K:St->Prop}{m:Nat}{rest:List Nat}{x:St}{i:aK}(hi:l[m/2]?=some i)(hm:m%2=0){fx:VX}{xs:List VX}(hw:bB x.s i.g=some true)(ho:i.op=.call fx xs){f:FuncId}{caps:List V}(hf:fx.ev x.s=.fn f caps)
 {v:V}(hc:aB P f (xs.map (·.ev x.s)++caps) x.U λr Z'=>r=v/\Z'=x.U)(h:RE P l K rest ⟨aZ x.s i.dst v,x.U⟩):RE P l K (m::rest) x:=
 RE.call hi hm hw ho hf hc λr Z' ⟨h1,h2⟩=>by subst h1;subst h2;exact h
def RE.QQ{l:List aK}{K:St->Prop}{m:Nat}{rest:List Nat}{x:St}{i:aK}(hi:l[m/2]?=some i)(hm:m%2=1){d:Nat}(hd:i.dst=some d)(hw:bB x.s i.g=some true)(hk:bx i.op=0)(hp:fb x.s i.op)
 (hv:aM x.U x.s i.op=some (x.s d))(h:RE P l K rest x):RE P l K (m::rest) x:=by
 rw[RE,hi];simp only[hm,Nat.one_ne_zero,if_false];refine⟨?_,h⟩;unfold Yl;rw[hd];refine .inl ⟨hw,?_⟩;unfold QO;simp only[hk];exact⟨hp,hv⟩
variable {P:Program} {n:Nat} {st:St} {Q:St->Prop} {k:List It}
def ae.Nx{k1 k2:List It}(τ:St->Prop)(h1:ae P n (k1++[.stop τ]) st Q)(h2:∀st,τ st->ae P n k2 st Q):ae P n (k1++k2) st Q:=by
 intro F hn kt hk a w hs;obtain⟨kt1,kt2,rfl,R0,SF⟩:=List.map_eq_append_iff.1 hk;have key:∀(kt:List KI) e a w,lI P F Q (kt++[.stop τ]) e a w->lI P F Q (kt++kt2) e a w:=by
  intro kt
  induction kt with
  |nil=>
   intro e a w h;simp only[mo]at h|-;cases e with
   |normal=>obtain⟨st,h3,h4⟩:=h;exact h2 st h3 F hn kt2 SF a w h4
   |ret=>obtain⟨_,h3⟩:=h;exact lH h3 kt2
   |_=>obtain⟨h3,_⟩:=h;rcases h3 with h3|h3<;>cases h3
  |cons y kt ih=>
   intro e a w h;cases y with
   |code c=>cases e<;>first|exact wpIn_mono h ih|exact ih _ _ _ h
   |inBlock id=>
    cases e<;>simp only[List.cons_append,lI,Exit.inBlock]at h|-<;>(try split at h)<;>(try split)<;>first|exact ih _ _ _ h|contradiction
   |stop μ=>cases e<;>first|exact h|exact ih _ _ _ h
   |ops all l=>cases e<;>first|exact nC ih l a w h|exact ih _ _ _ h
 exact key kt1 _ a w (h1 F hn (kt1++[.stop τ]) (by simp[KI.it,R0]) a w hs)
def ae.jd{x:bM}{id:Nat}(τ:St->Prop)(μ:Nat->St->Prop)(m:Nat)(h0:μ m st)
 (hr:∀m st,μ m st->ae P n (.code x::.stop (λSh=>∃m',m'<m/\μ m' Sh)::[.inBlock id,.stop τ]) st Q)(h2:∀st,τ st->ae P n k st Q):
 ae P n (.code (.loop x)::.inBlock id::k) st Q:=
 ae.Nx (P:=P) (n:=n) (Q:=Q) (st:=st) (k1:=[.code (.loop x),.inBlock id]) (k2:=k) τ (ae.loop μ m h0 hr) h2
open Go.Proofs Go.Proofs.Tryz
def Hb{f:PI}{s:QN}(hf:f.ok)(h:RB s.a/\RB s.b):RB (kM f s).a/\RB (kM f s).b:=by
 obtain⟨⟨x1,x2⟩,_,⟨w1,w2⟩,_⟩:=hf;obtain⟨⟨a1,a2⟩,b1,b2⟩:=h;unfold kM;split
 .exact⟨⟨by simp only;omega,by simp only;omega⟩,b1,b2⟩
 .exact⟨⟨a1,a2⟩,by simp only;omega,by simp only;omega⟩
def AR:∀{l:List PI} {s:QN},(∀f∈l,f.ok)->RB s.a/\RB s.b->RB (l.foldl (λs f=>kM f s) s).a/\RB (l.foldl (λs f=>kM f s) s).b
 |[],_,_,h=>h
 |f::l,s,hl,h=>AR (l:=l) (λg hg=>hl g (by simp[hg])) (Hb (hl f (by simp)) h)
def nA{l:List PI}{y high:Int}{s:QN}(hl:∀f∈l,f.ok)(h:RB s.a/\RB s.b):RB (ef l y high s).a/\RB (ef l y high s).b:=
 AR (λf hf=>hl f (sX.1 hf).1) h
def vE{s:QN}:∀{l:List PI},(∀f∈l,kM f s=s)->l.foldl (λs f=>kM f s) s=s
 |[],_=>rfl
 |f::l,h=>by rw[kf,h f (by simp)];exact vE λg hg=>h g (by simp[hg])
def oW(s:QN):∀(l:List PI) (a:Int×Bool),(l.foldl (kA s) a=a\/∃f∈l,l.foldl (kA s) a=(f.y+f.h,true))/\(a.2=true->(l.foldl (kA s) a).2=true)/\((∃f∈l,kM f s≠s)->(l.foldl (kA s) a).2=true)
 |[],a=>⟨.inl rfl,id,by simp⟩
 |f::l,a=>by
  obtain⟨h1,h2,h3⟩:=oW s l (kA s a f);have hf:kA s a f=a\/kA s a f=(f.y+f.h,true):=by unfold kA;split<;>simp
  refine⟨?_,λha=>h2 ?_,?_⟩
  .rw[kf];rcases h1 with h1|⟨g,hg,h1⟩
   .rw[h1];rcases hf with hf|hf
    .exact .inl hf
    .exact .inr ⟨f,by simp,hf⟩
   .exact .inr ⟨g,by simp[hg],h1⟩
  .rcases hf with hf|hf<;>rw[hf]
   exact ha
  .rintro⟨g,hg,P'⟩;rcases dc.1 hg with rfl|hg
   .refine h2 ?_;unfold kA;split
    .rename_i h;exact(h.resolve_left P').1
    .rfl
   .exact h3 ⟨g,hg,P'⟩
def DO{y high:Int}{f:PI}(h:je y high f=true):y<f.y+f.h:=by
 refine Classical.byContradiction λhn=>?_;have:pe ⟨f.y,f.y+f.h⟩ ⟨y,y+max high 1⟩=⟨0,0⟩:=by
  unfold pe;rw[aE];simp only;omega
 simp[je,this]at h
def jc{l:List PI}{y high:Int}{s:QN}(h:(gX l y high s).2=true):∃f∈l,y<f.y+f.h/\(gX l y high s).1=f.y+f.h:=by
 rcases(oW s (l.filter (je y high)) (0,false)).1 with h1|⟨f,hf,h1⟩
 .unfold gX at h;rw[h1]at h;cases h
 .obtain⟨hl,hm⟩:=sX.1 hf;exact⟨f,hl,DO hm,by unfold gX;rw[h1]⟩
def o5{l:List PI}{y high:Int}{s:QN}(h:ef l y high s≠s):(gX l y high s).2=true:=by
 refine(oW s (l.filter (je y high)) (0,false)).2.2 (Classical.byContradiction λhn=>h (vE λf hf=>Classical.byContradiction λhe=>hn ⟨f,hf,he⟩))
def YY(l:List PI)(y:Int):Nat:=(l.filter λf=>decide (y<f.y+f.h)).length
def filter_lt{α:Type}{p q:α->Bool}(hpq:∀x,q x=true->p x=true):∀{l:List α},(l.filter q).length<=(l.filter p).length/\((∃x∈l,p x=true/\q x=false)->(l.filter q).length<(l.filter p).length)
 |[]=>by simp
 |a::l=>by
  obtain⟨h1,h2⟩:=filter_lt hpq (l:=l);cases hp:p a<;>cases hq:q a
  .simp only[List.filter_cons,hp,hq,jz,if_false];refine⟨h1,?_⟩;rintro⟨x,hx,h3,h4⟩;rcases dc.1 hx with rfl|hx
   .rw[hp]at h3;cases h3
   .exact h2 ⟨x,hx,h3,h4⟩
  .rw[hpq a hq]at hp;cases hp
  .simp only[List.filter_cons,hp,hq,jz,if_false,if_true,Q4];exact⟨by omega,λ_=>by omega⟩
  .simp only[List.filter_cons,hp,hq,if_true,Q4];refine⟨by omega,?_⟩;rintro⟨x,hx,h3,h4⟩;rcases dc.1 hx with rfl|hx
   .rw[hq]at h4;cases h4
   .have:=h2 ⟨x,hx,h3,h4⟩;omega
def xL{l:List PI}{y z:Int}(h:∃f∈l,y<f.y+f.h/\z=f.y+f.h):YY l z<YY l y:=by
 obtain⟨f,hf,h1,rfl⟩:=h;exact(filter_lt (p:=λg:PI=>decide (y<g.y+g.h)) (q:=λg:PI=>decide (f.y+f.h<g.y+g.h)) (λg hg=>by simp at hg|-;omega) (l:=l)).2 ⟨f,hf,by simpa using h1,by simp⟩
def wH(l:List PI)(w high:Int)(s:QN)(y:Int):Bool:=decide (w<=kE (ef l y high s))||decide (ef l y high s=s)
def pk(l:List PI)(w high:Int)(s:QN):Nat->Int->Int
 |0,y=>y
 |k+1,y=>if wH l w high s y then y else pk l w high s k (gX l y high s).1
def lX(l:List PI)(w high:Int)(s:QN)(y:Int):Int:=pk l w high s l.length y
def Gx{l:List PI}{y high:Int}{s:QN}(hl:∀f∈l,f.ok)(h:(gX l y high s).2=true):RB (gX l y high s).1:=by
 obtain⟨f,hf,_,e⟩:=jc h;obtain⟨_,⟨a1,a2⟩,_,b1,b2⟩:=hl f hf;rw[e];exact⟨by omega,by omega⟩
def sJ(l:List PI)(high y:Int)(s:QN):V:=.agg [vI s.a,vI s.b,aS l,vI high,vI y]
def CI(l:List PI)(high y:Int)(s:QN)(hl:l.length<=1000000)(P5:∀f∈l,f.ok)(hy:RB y)(hh:Bq high):bb prog 165 [sJ l high y s] (bh (ef l y high s)):=λU=>by
 refine Pt.r (by simp[JL]) ?_;have hs:=aa.refl U;refine ae.mix 3 ?_;have e1:(aS l).cells=[aS l]:=rfl;have e2:(aS l).stays=true:=rfl;apply sR;simp only[go_sem,seval,JL,sJ,e1,e2];refine ad λi1 Z1 s1 a1 f1=>?_;have z1:=hs.none f1;replace hs:=hs.trans s1;simp only[go_sem,seval,a1,e1,e2];refine ad λi2 Z2 s2 a2 f2=>?_;have ZU:=al a1 f2;replace a1:=s2 _ _ a1;have z2:=hs.none f2;replace hs:=hs.trans s2;simp only[go_sem,seval,a2,a1];refine ae.aC rfl rfl rfl (Cx l y high s hl P5 hy hh _) ?_;apply sR;simp only[go_sem,seval,a2,bh];exact av.pure (hs.aD z2) rfl
def Io(l:List PI)(w high y:Int)(s:QN)(hl:l.length<=1000000)(P5:∀f∈l,f.ok)(hy:RB y)(hh:Bq high)(Sn:RB s.a/\RB s.b):bb prog 163 [sJ l high y s,vI w] (.bool (wH l w high s y)):=λU=>by
 refine OE.r (by simp[Kl]) ?_;have hs:=aa.refl U;refine ae.mix 5 ?_;have hb:=CI l high y s hl P5 hy hh;have hlen:=En (ef l y high s) (nA P5 Sn).1 (nA P5 Sn).2;unfold wH;generalize ef l y high s=b at*;have e1:(aS l).cells=[aS l]:=rfl;have e2:(aS l).stays=true:=rfl;apply sR;simp only[go_sem,seval,Kl,sJ,e1,e2];refine ad λi2 Z2 s2 a2 f2=>?_;have z2:=hs.none f2;replace hs:=hs.trans s2;simp only[go_sem,seval,a2,e1,e2];refine Go.bZ rfl rfl rfl hb ?_;apply sG;simp only[go_sem,seval];refine Go.bZ rfl rfl rfl hlen ?_;by_cases h1:w<=kE b
 .have q:(w<=kE b)=True:=PK h1;apply sG;simp only[go_sem,seval,q,a2];exact av.pure hs (by simp[h1])
 .have q:(w<=kE b)=False:=PF h1;apply sG;simp only[go_sem,seval,q,a2];refine Go.bZ rfl rfl rfl hb ?_;obtain⟨b1,b2⟩:=b;obtain⟨s1,s2⟩:=s;apply sG;simp only[go_sem,seval,a2,bh];refine av.pure hs ?_;by_cases h2:b1=s1<;>by_cases h3:b2=s2<;>simp[h1,h2,h3]
def Gr(l:List PI)(w high y:Int)(s:QN)(hl:l.length<=1000000)(P5:∀f∈l,f.ok)(hy:RB y)(hh:Bq high)(Sn:RB s.a/\RB s.b):
 bb prog 143 [aS l,vI w,vI high,vI y,bh s] (.PN [bh (ef l (lX l w high s y) high s),vI (lX l w high s y)]):=λU=>by
 refine O5.r (by simp[LU]) ?_;have hs:=aa.refl U;refine ae.mix 13 ?_;have e1:(aS l).cells=[aS l]:=rfl;have e2:(aS l).stays=true:=rfl;apply sR;simp only[go_sem,seval,LU,bh];refine ad λi9 Z9 s9 a9 f9=>?_;have z9:=hs.none f9;replace hs:=hs.trans s9;simp only[go_sem,seval,a9];refine ad λQb UP Re P0 f10=>?_;have VF:=al a9 f10;replace a9:=Re _ _ a9;have SS:=hs.none f10;replace hs:=hs.trans Re;simp only[go_sem,seval,P0,a9,e1,e2];refine ad λQT Z12 TT a12 f12=>?_;have n912:=al a9 f12;replace a9:=TT _ _ a9;have Vh:=al P0 f12;replace P0:=TT _ _ P0;have z12:=hs.none f12;replace hs:=hs.trans TT;simp only[go_sem,seval,a12,P0,a9,e1,e2];generalize Sw:C' _ QT _=Y12;replace a12:=(congrFun Sw QT).symm.trans af;replace a9:=((congrFun Sw i9).symm.trans (ab n912)).trans a9;replace P0:=((congrFun Sw Qb).symm.trans (ab Vh)).trans P0;replace hs:=Eq.subst (motive:=aa _) Sw (hs.aD z12);clear Sw;obtain⟨z,hz⟩:∃z,z=lX l w high s y:=⟨_,rfl⟩
 rw[<-hz];refine ae.jd (λst=>∃J,st.U=J/\aa U J/\J QT=some ⟨269,5,[sJ l high z s]⟩/\J Qb=some ⟨239,2,[.agg [vI 0,vI 0]]⟩/\st.s 10=.ptr Qb 0 0/\st.s 12=.ptr QT 0 0/\RB z)
  (λm st=>∃(y':Int) (k:Nat),m=YY l y'/\YY l y'<=k/\z=pk l w high s k y'/\RB y'/\aa U st.U/\st.U QT=some ⟨269,5,[sJ l high y' s]⟩/\st.U Qb=some ⟨239,2,[.agg [vI 0,vI 0]]⟩/\st.s 1=vI w/\st.s 10=.ptr Qb 0 0/\st.s 12=.ptr QT 0 0) (YY l y) ?_ ?_ ?_
 .exact⟨y,l.length,rfl,List.length_filter_le _ _,hz,hy,hs,a12,P0,rfl,rfl,rfl⟩
 .rintro m ⟨S,J⟩ ⟨y',k,rfl,hk,hzk,hy',hs,Wl,WH,k1,VT,RW⟩;simp only at hs Wl WH k1 VT RW;refine ae.mix 13 ?_;rw[sJ]at Wl;apply sR;simp only[go_sem,seval,k1,VT,RW,Wl,e1,e2];refine ae.aC rfl rfl rfl (Io l w high y' s hl P5 hy' hh Sn _) ?_;cases hf:wH l w high s y'
  .have P':ef l y' high s≠s:=λe=>by simp[wH,e]at hf
   have hfd:=o5 P';have hdec:=xL (jc hfd);apply sR;simp only[go_sem,seval,k1,VT,RW,Wl,e1,e2];refine ae.aC rfl rfl rfl (Fu l y' high s hl P5 hy' hh _) ?_;apply sR;simp only[go_sem,seval,k1,VT,RW,Wl,e1,e2];obtain⟨k',rfl⟩:∃k',k=k'+1:=⟨k-1,by omega⟩
   rw[pk,hf]at hzk;have n:QT≠Qb:=Vh.symm;refine⟨_,hdec,_,k',rfl,by omega,by simpa using hzk,Gx P5 hfd,hs.aD z12,rfl,?_⟩;rw[ab Vh];exact WH
  .have hzy:z=y':=by cases k<;>simp[pk,hf]at hzk<;>exact hzk
   subst hzy;apply sR;simp only[go_sem,seval,k1,VT,RW,Wl,e1,e2];exact⟨J,rfl,hs,Wl,WH,hy'⟩
 .rintro⟨S,J⟩ ⟨X',rfl,hs,Wl,WH,VT,RW,hz2⟩;simp only at hs Wl WH VT RW;rw[sJ]at Wl;refine ae.mix 13 ?_;apply sR;simp only[go_sem,seval,VT,RW];refine ae.pF (by kernel_rfl) [0,2,3,1,4,5] [[],[0],[],[2],[0,1],[0,1,2,3,4]] [0,4,6,2,7,8,7,10] (by kernel_rfl) (by kernel_rfl) ?_;refine RE.Qx (n:=0) [2,7,8,7,10] [0,4,6] [⟨(.some 35),(.load .true 5 (.t 12)),.none⟩,⟨(.some 37),(.P9 .false 4 1 (.t 12)),.none⟩,⟨(.some 38),(.load .false 1 (.t 37)),.none⟩] rfl rfl ?_;apply sG;simp only[go_sem,seval,VT,RW,Wl,e1,e2];refine RE.aC rfl rfl rfl rfl rfl (CI l high z s hl P5 hz2 hh _) ?_;refine RE.QQ rfl rfl rfl rfl rfl trivial (by simp only[go_sem,seval,VT,RW,Wl,WH,e1,e2]) ?_;refine RE.Qx (n:=0) [7,10] [8] [⟨.none,(.store 2 (.t 10) (.t 36)),.none⟩] rfl rfl ?_;apply sG;simp only[go_sem,seval,VT,RW,Wl,WH,bh,e1,e2];refine RE.QQ rfl rfl rfl rfl rfl trivial (by simp only[go_sem,seval,VT,RW,Wl,WH,ab Vh.symm,e1,e2]) ?_;refine RE.Qx (n:=0) [] [10] [⟨(.some 11),(.Qc (.t 38)),.none⟩] rfl rfl ?_;apply sG;simp only[go_sem,seval,VT,RW,Wl,WH,bh,e1,e2];apply sR;simp only[go_sem,seval,VT,RW,af,bh];exact av.pure (hs.aD SS) rfl
open Go.Proofs Go.Proofs.Tryz
def nF(e sz b:Nat):PJ:=⟨8,.seq (.TB false [⟨some 2,.Qc (.c .aT),none⟩]) (.seq (.seq (.TB false [⟨some 3,.Qc (.t 0),none⟩,⟨some 4,.SE false (.t 3) (.c (.iface 0 .undef)),none⟩]) (.cond (.t 4) (.seq (.TB false [⟨some 2,.Qc (.c .aT),none⟩]) .ret) .skip)) (.seq (.TB false [⟨some 5,.gr e sz [],none⟩,⟨some 6,.Qc (.t 0),none⟩,⟨some 7,.append e sz b (.t 5) (.t 6),none⟩,⟨some 2,.Qc (.t 7),none⟩]) .ret)),[.tmp (.t 2)]⟩
def uC{P:Program}{f:FuncId}{fn:Func}(hf:P.funcs[f]?=some fn){e sz b:Nat}(hc:cfn P fn=some (nF e sz b))(hk:fW P f=true)(rows:List V)(hb:rows.length*(b+1)<=140737488355328)(U:ag):
 aB P f [.sl sz rows] U λr Z'=>aa U Z'/\aU U Z' e sz r rows:=by
 refine aB.nI hf hc hk (by simp[nF]) ?_;refine ae.mix 3 ?_
 (refine ae.bL Rd.nothing 8 ?_;simp only[go_sem,seval,pd,nF])
 refine ae.DK rfl rfl rfl λt ht=>?_;cases t
 .apply sR;simp only[go_sem,seval];refine ad λTi Z1 s1 a1 f1=>?_;obtain⟨PU,hd,QJ⟩:=(aU.new (K:=U) (e:=e) (sz:=sz) (n:=0) (rows:=[]) rfl a1 f1).dst (aa.refl _);have WW:∀U,cK U sz (.sl sz rows)=some rows:=λU=>by simp[cK]
  simp only[go_sem,seval,hd,WW,hb];refine ep λU0 Z2 s2 a2 f2=>?_;have SQ:=(QJ U (aa.refl _) Z1 s1).trans s2;simp only[go_sem,seval];exact⟨_,_,aa.refl _,Wk.refl (aa.refl _) _,SQ,aU.new (by simp) a2 (s1.none f2)⟩
 .apply sR;simp only[go_sem,seval];obtain rfl:rows=[]:=ht rfl;exact⟨_,_,aa.refl _,Wk.refl (aa.refl _) _,aa.refl _,aU.start⟩
def Al{P:Program}{f:FuncId}{fn:Func}(hf:P.funcs[f]?=some fn){e sz b:Nat}(hc:cfn P fn=some (nF e sz b))(hk:fW P f=true)(rows:List V)(hb:rows.length*(b+1)<=140737488355328):
 bb P f [.sl sz rows] (.sl sz rows):=λU=>(uC hf hc hk rows hb U).DW λ_ _ h=>h.2.Bl h.1 rfl
def aO(l:List PI):(aS l).cells=[aS l]:=rfl
def aP(l:List PI):(aS l).stays=true:=rfl
def mr{tell:PI->Int×Bool}{l:List PI}(h:(ek tell l).2=true):∃f∈l,(ek tell l).1=(tell f).1/\(tell f).2=true:=by
 have key:∀(l:List PI) (a:Int×Bool),l.foldl (uk tell) a=a\/∃f∈l,l.foldl (uk tell) a=((tell f).1,true)/\(tell f).2=true:=by
  intro l
  induction l with
  |nil=>intro a;exact .inl rfl
  |cons g l ih=>
   intro a;rw[kf];rcases ih (uk tell a g)with h|⟨f,hf,h,h'⟩
   .rw[h];unfold uk;split
    .rename_i hc;exact .inr ⟨g,by simp,rfl,hc.1⟩
    .exact .inl rfl
   .exact .inr ⟨f,by simp[hf],h,h'⟩
 rcases key l (0,false)with h1|⟨f,hf,h1,h2⟩
 .unfold ek at h;rw[h1]at h;cases h
 .exact⟨f,hf,by unfold ek;rw[h1],h2⟩
def oC(l:List PI)(w high:Int)(s:QN)(y:Int):Bool:=!(gX l y high s).2||decide (kE (ef l y high s)>=w)
def lW(l:List PI)(w high:Int)(s:QN):Nat->Int->Int
 |0,y=>y
 |k+1,y=>if oC l w high s y then y else lW l w high s k (gX l y high s).1
def ql(l:List PI)(w high:Int)(s:QN)(y:Int):Int:=lW l w high s l.length y
def zL(f:PI)(l:List PI)(s:QN):V:=.agg [vI f.node,vI f.side,vI f.anchor,vI f.x,vI f.y,vI f.w,vI f.h,aS l,vI s.a,vI s.b]
def IE(l:List PI)(f:PI)(y:Int)(s:QN)(hl:l.length<=1000000)(P5:∀f∈l,f.ok)(hy:RB y)(hh:Bq f.h)(Sn:RB s.a/\RB s.b):
 bb prog 189 [zL f l s,vI y] (.PN [bh (ef l (ql l f.w f.h s y) f.h s),vI (ql l f.w f.h s y)]):=λU=>by
 refine N9.r (by simp[JW]) ?_;have hs:=aa.refl U;refine ae.mix 9 ?_;apply sR;simp only[go_sem,seval,JW,zL,aO,aP];refine ad λi2 Z2 s2 a2 f2=>?_;have z2:=hs.none f2;replace hs:=hs.trans s2;simp only[go_sem,seval,a2,aO,aP];refine ad λi4 Z4 s4 a4 f4=>?_;have n24:=al a2 f4;replace a2:=s4 _ _ a2;have z4:=hs.none f4;replace hs:=hs.trans s4;simp only[go_sem,seval,a4,a2];obtain⟨z,hz⟩:∃z,z=ql l f.w f.h s y:=⟨_,rfl⟩
 rw[<-hz];refine ae.loop (λm st=>∃(y':Int) (k:Nat),m=YY l y'/\YY l y'<=k/\z=lW l f.w f.h s k y'/\RB y'/\aa U st.U/\st.U i2=some ⟨302,10,[zL f l s]⟩/\st.U i4=some ⟨239,2,[.agg [vI 0,vI 0]]⟩/\st.s 1=vI y'/\st.s 2=.ptr i2 0 0/\st.s 4=.ptr i4 0 0) (YY l y) ?_ ?_
 .exact⟨y,l.length,rfl,List.length_filter_le _ _,hz,hy,hs,a2,a4,rfl,rfl,rfl⟩
 .rintro m ⟨S,J⟩ ⟨y',k,rfl,hk,hzk,hy',hs,b2,b4,k1,k2,k4⟩;simp only at hs b2 b4 k1 k2 k4;refine ae.mix 9 ?_;rw[zL]at b2;have hb:=nA (y:=y') (high:=f.h) P5 Sn;apply sR;simp only[go_sem,seval,k1,k2,k4,b2,aO,aP];refine ae.aC rfl rfl rfl (Cx l y' f.h s hl P5 hy' hh _) ?_;apply sR;simp only[go_sem,seval,bh];refine ad λi6 Z6 s6 a6 f6=>?_;have n26:=al b2 f6;have n46:=al b4 f6;replace b2:=s6 _ _ b2;replace b4:=s6 _ _ b4;have z6:=hs.none f6;replace hs:=hs.trans s6;simp only[go_sem,seval,a6,b2,k1,k2,k4,ab n26,aO,aP];generalize hq:C' _ i6 _=Y6;have a6':=(congrFun hq i6).symm.trans af;have b2':=((congrFun hq i2).symm.trans (ab n26)).trans b2;have b4':=((congrFun hq i4).symm.trans (ab n46)).trans b4;replace hs:=Eq.subst (motive:=aa _) hq (hs.aD z6);refine ae.aC rfl rfl rfl (Fu l y' f.h s hl P5 hy' hh _) ?_;have hex:oC l f.w f.h s y'=true->z=y':=λh=>by cases k<;>simp[lW,h]at hzk<;>exact hzk
  have hlen:=En (ef l y' f.h s) hb.1 hb.2;have RO:oC l f.w f.h s y'=false->∃k',k=k'+1/\YY l (gX l y' f.h s).1<YY l y'/\z=lW l f.w f.h s k' (gX l y' f.h s).1/\RB (gX l y' f.h s).1:=λh=>by
   have h2:(gX l y' f.h s).2=true:=by
    simp only[oC,Bool.or_eq_false_iff,Bool.not_eq_false']at h;exact h.1
   have hdec:=xL (jc h2);obtain⟨k',rfl⟩:∃k',k=k'+1:=⟨k-1,by omega⟩
   rw[lW,h]at hzk;exact⟨k',rfl,hdec,by simpa using hzk,Gx P5 h2⟩
  unfold oC at hex RO;cases hn:(gX l y' f.h s).2
  .rw[hn]at hex;obtain rfl:=hex (by simp);apply sR;simp only[go_sem,seval,k1,k2,k4,a6',b4',b2'];exact av.pure (hs.aD z4) rfl
  .rw[hn]at hex RO;apply sR;simp only[go_sem,seval,k1,k2,k4,a6',b2'];refine Go.bZ rfl rfl rfl hlen ?_;by_cases hw:kE (ef l y' f.h s)>=f.w
   .have q:(kE (ef l y' f.h s)>=f.w)=True:=PK hw;obtain rfl:=hex (by simp[hw]);apply sG;simp only[go_sem,seval,k1,k2,k4,a6',b4',b2',q,aO,aP];exact av.pure (hs.aD z4) rfl
   .have q:(kE (ef l y' f.h s)>=f.w)=False:=PF hw;obtain⟨k',rfl,h1,h2,h3⟩:=RO (by simp[hw]);apply sG;simp only[go_sem,seval,k1,k2,k4,a6',b4',b2',q,aO,aP];refine⟨_,h1,_,k',rfl,by omega,h2,h3,hs,?_⟩;exact⟨by rw[zL],rfl⟩
structure WOk(ws:List Int)(space:Int):Prop where
 len:ws.length<=100000
 Wm:∀x∈ws,0<=x/\x<=1099511627776
 s0:0<=space
 s1:space<=1099511627776
def gK(space:Int):List Int->Nat->Int->List (Nat×Int)
 |[],_,_=>[]
 |x::r,k,n=>(k+1,n+space+x)::gK space r (k+1) (n+space+x)
def pD(space width:Int):List Int->Nat->Int->Nat×Int
 |[],k,n=>(k,n)
 |x::r,k,n=>if n+space+x>width then(k,n)else pD space width r (k+1) (n+space+x)
def ld(ws:List Int)(space width:Int)(i:Nat):Nat×Int:=pD space width (ws.drop (i+1)) (i+1) (ws.getD i 0)
def rJ(space width:Int):∀(r:List Int) (k:Nat) (n:Int),k<=(pD space width r k n).1/\(pD space width r k n).1<=k+r.length
 |[],k,n=>by simp[pD]
 |x::r,k,n=>by
  rw[pD];split
  .simp
  .have:=rJ space width r (k+1) (n+space+x);simp only[Q4];omega
def AF{ws:List Int}{space width:Int}{i:Nat}(h:i<ws.length):i<(ld ws space width i).1/\(ld ws space width i).1<=ws.length:=by
 have:=rJ space width (ws.drop (i+1)) (i+1) (ws.getD i 0);rw[wh]at this;unfold ld;omega
def WOk.get{ws:List Int}{space:Int}(h:WOk ws space){i:Nat}(hi:i<ws.length):0<=ws[i]/\ws[i]<=1099511627776:=h.Wm _ (QL hi)
open Go.Proofs Go.Proofs.Tryz
def ldI(U:ag)(l:List Int):cj U false 1 (.rp (bD l))=some (bD l):=rfl
def ak(l:List Int):(bD l).cells=[bD l]:=rfl
def au(l:List Int):(bD l).stays=true:=rfl
def iZ{U:ag}{l:List Int}{i:Nat}(h:i<l.length):bS U 1 (bD l) (.int .i64 i)=some (.rp (vI l[i])):=by simp[bD,bS,h]
def fU(l:List Int):dR false (bD l)=some (.int .i64 l.length):=by simp[bD,dR]
def lf(ws:List Int)(space:Int):V:=.agg [bD ws,vI space]
def Kb(ws:List Int)(space:Int):fG false 0 1 (.rp (lf ws space))=some (.rp (bD ws)):=rfl
def Ll(ws:List Int)(space:Int):fG false 1 1 (.rp (lf ws space))=some (.rp (vI space)):=rfl
def Af(ws:List Int)(space:Int):(lf ws space).cells=[bD ws,vI space]:=rfl
def zB(ws:List Int)(space:Int):(lf ws space).stays=true:=rfl
def ME(ws:List Int)(space i:Int):bb prog 201 [lf ws space,vI i] (.bool (decide (i<0\/i>=ws.length))):=λU=>by
 refine NP.r (by simp[JZ]) ?_;have hs:=aa.refl U;have hn:=fU ws;apply sR;simp only[go_sem,seval,JZ,lf,ak,au];refine ad λi2 Z2 s2 a2 f2=>?_;have z2:=hs.none f2;replace hs:=hs.trans s2;by_cases h:i<0
 .have q:(i<0)=True:=PK h;simp only[go_sem,seval,a2,q,ak,au];exact av.pure hs (by simp[h])
 .have q:(i<0)=False:=PF h;simp only[go_sem,seval,a2,q,hn,ak,au];exact av.pure hs (by simp[h])
def ga(l:List (Nat×Int)):List (List V):=l.map λp=>[vI p.1,vI p.2]
def Di(ws:List Int)(space:Int)(hw:WOk ws space)(i:Nat)(hi:i<ws.length):Iter prog 211 [.rp (lf ws space),.rp (vI i)] (ga (gK space (ws.drop i) i (0-space))):=by
 refine⟨Nb.c,λQe τ Jx Z0 hy hJ=>?_⟩;refine(Nb.r (by simp[KB]) ?_).2;have QP:=hw.s0;have Sn:=hw.s1;have Ui:=hw.len;have hn:=fU ws;have r0:PY .i64 (0-space):=ar;refine ae.mix 6 ?_;apply sR;simp only[BB,seval,<-decide_not,bx,fb,aM,dn,dk,dp,dv,dG,bO,jj,bz,eR,dr,eQ,cP,cD,bR,gW,cm,cA,cd,QS,jv,cV,bP,jX,cX,bX,cQ,cC,jf,binBV,bK,cW,V.cells,V.stays,Rd.nothing,KB,ldI,Kb,Ll,r0];refine ae.loop (λm st=>∃(pre:List (Nat×Int)) (j:Nat) (n:Int) (ZJ:ag),m=ws.length-j/\i<=j/\j<=ws.length/\-1099511627776<=n/\n<=2199023255552*j/\gK space (ws.drop i) i (0-space)=pre++gK space (ws.drop j) j n/\
  τ (ga pre) ZJ/\aa ZJ st.U/\st.s 0=.yl Qe/\st.s 1=.rp (lf ws space)/\st.s 4=vI n/\st.s 5=vI j) (ws.length-i) ?_ ?_
 .exact⟨[],i,0-space,Z0,rfl,by omega,by omega,by omega,by omega,rfl,hJ,aa.refl _,rfl,rfl,rfl,rfl⟩
 .rintro m ⟨s,Z'⟩ ⟨pre,j,n,ZJ,rfl,YZ,hj,hn1,hn2,Sb,hJp,G',t0,t1,t4,t5⟩;simp only at G' t0 t1 t4 t5;refine ae.mix 6 ?_;by_cases H':j<ws.length
  .have q:((j:Int)<ws.length)=True:=PK;have hx:=hw.get H';have O':=λU=>iZ (U:=U) H';rw[iy H',gK]at Sb;generalize ws[j]=w at*;have r1:PY .i64 (space+w):=ar;have r2:PY .i64 (n+(space+w)):=ar;have r3:PY .i64 ((j:Int)+1):=ar;have en:n+space+w=n+(space+w):=by omega
   rw[en]at Sb;have e:ga (gK space (ws.drop i) i (0-space))=ga pre++[vI ((j:Int)+1),vI (n+(space+w))]::ga (gK space (ws.drop (j+1)) (j+1) (n+(space+w))):=by rw[Sb];simp[ga]
   apply sR;simp only[BB,seval,<-decide_not,bx,fb,aM,dn,dk,dp,dv,dG,bO,jj,bz,eR,dr,eQ,cP,cD,bR,gW,cm,cA,cd,QS,jv,cV,bP,jX,cX,bX,cQ,cC,jf,binBV,bK,cW,V.cells,V.stays,Rd.nothing,t0,t1,t4,t5,hn,q,ldI,Kb,Ll,O',r1,r2,r3];refine ae.mZ (Post:=λb Z2=>∃Qd,bp ZJ Z' Qd Z2/\((b=true/\τ (ga pre++[[vI ((j:Int)+1),vI (n+(space+w))]]) Qd)\/(b=false/\Jx (ga pre++[[vI ((j:Int)+1),vI (n+(space+w))]]) Qd))) rfl rfl rfl (hy _ _ _ ZJ Z' e hJp G') ?_;rintro b Z2 ⟨Qd,QV,QH⟩;rcases QH with⟨rfl,QH⟩|⟨rfl,QH⟩
   .apply sR;simp only[go_sem,seval,t0,t1,t4,t5,r3];refine⟨_,?_,pre++[(j+1,n+(space+w))],j+1,n+(space+w),Qd,rfl,by omega,by omega,by omega,by omega,by rw[Sb];simp,?_,QV.1,by simp[t0,t1]⟩
    .omega
    .simpa[ga]using QH
   .apply sR;simp only[go_sem,seval,t0,t1,t4,t5];refine⟨_,Qd,QV.1,Wk.refl QV.1 _,.inr ⟨_,?_,QH⟩⟩;rw[e];exact⟨ga (gK space (ws.drop (j+1)) (j+1) (n+(space+w))),by simp⟩
  .have q:((j:Int)<ws.length)=False:=PF;apply sR;simp only[BB,seval,<-decide_not,bx,fb,aM,dn,dk,dp,dv,dG,bO,jj,bz,eR,dr,eQ,cP,cD,bR,gW,cm,cA,cd,QS,jv,cV,bP,jX,cX,bX,cQ,cC,jf,binBV,bK,cW,V.cells,V.stays,Rd.nothing,t0,t1,t4,t5,hn,q,ldI,Kb,Ll];rw[show ws.drop j=[]from List.drop_of_length_le (by omega),gK,kL]at Sb;exact⟨_,ZJ,G',Wk.refl G' _,.inl (by rw[Sb];exact hJp)⟩
def KM(ws:List Int)(space:Int)(i:Int):bb prog 202 [lf ws space,vI i] (.fn 211 [.rp (lf ws space),.rp (vI i)]):=λU=>by
 refine Ph.r (by simp[JR]) ?_;refine ae.mix 4 ?_;have q1:=Af ws space;have q2:=zB ws space;have q3:(lf ws space).cells.length=2:=rfl;generalize hx:lf ws space=x at*;apply sR;simp only[go_sem,seval,JR,q1,q2,q3];refine ad λTi Z1 s1 a1 f1=>?_;simp only[go_sem,seval];refine ad λU0 Z2 s2 a2 f2=>?_;simp only[go_sem,seval];exact⟨_,U,s1.trans s2,Wk.fn (vs':=[.rp x,.rp (vI i)]) ⟨Wk.ptr (s1.trans s2) (s2 _ _ a1) f1,Wk.ptr (s1.trans s2) a2 (s1.none f2),trivial⟩,rfl,rfl⟩
open Go.Proofs Go.Proofs.Tryz
def wY(i j n:Int):V:=.agg [vI i,vI j,vI n]
structure TkJ(ws:List Int)(space width:Int)(i:Nat)(U:ag)(W3 ZP id8 id10:Nat)(pre:List (List V))(v:V)(ZJ:ag):Prop where
 sub:aa U ZJ
 r8:ZJ id8=some ⟨293,3,[.agg [vI 0,vI 0,vI 0]]⟩
 r6:ZJ W3=some ⟨3,1,[vI width]⟩
 r7:ZJ ZP=some ⟨3,1,[vI i]⟩
 VU:ZJ id10=some ⟨293,3,[v]⟩
 st:(pre=[]/\v=.agg [vI 0,vI 0,vI 0])\/∃n:Int,0<pre.length/\i+pre.length<=ws.length/\ga (gK space (ws.drop i) i (0-space))=pre++ga (gK space (ws.drop (i+pre.length)) (i+pre.length) n)/\
  ld ws space width i=pD space width (ws.drop (i+pre.length)) (i+pre.length) n/\v=.agg [vI i,vI (i+pre.length:Nat),vI n]
def Ho(ws:List Int)(space width:Int)(hw:WOk ws space)(i:Nat)(hi:i<ws.length):bb prog 182 [bD ws,vI space,vI width,vI i] (wY i (ld ws space width i).1 (ld ws space width i).2):=λU=>by
 refine O0.r (by simp[Mt]) ?_;have hs:=aa.refl U;have Ui:=hw.len;refine ae.mix 13 ?_;apply sR;simp only[go_sem,seval,Mt];refine ad λi6 Z6 s6 a6 f6=>?_;have z6:=hs.none f6;replace hs:=hs.trans s6;simp only[go_sem,seval,a6,ak,au];refine ad λi7 Z7 s7 a7 f7=>?_;have UH:=al a6 f7;replace a6:=s7 _ _ a6;have z7:=hs.none f7;replace hs:=hs.trans s7;simp only[go_sem,seval,a7,a6,ak,au];refine ad λi8 Z8 s8 a8 f8=>?_;have n68:=al a6 f8;replace a6:=s8 _ _ a6;have Wg:=al a7 f8;replace a7:=s8 _ _ a7;have z8:=hs.none f8;replace hs:=hs.trans s8;simp only[go_sem,seval,a8,a7,a6,ak,au];refine ad λi9 Z9 s9 a9 f9=>?_;have YR:=al a6 f9;replace a6:=s9 _ _ a6;have VS:=al a7 f9;replace a7:=s9 _ _ a7;have WD:=al a8 f9;replace a8:=s9 _ _ a8;have z9:=hs.none f9;replace hs:=hs.trans s9;simp only[go_sem,seval,a9,a8,a7,a6,ak,au,ab YR,ab VS,ab WD];generalize Qv:C' _ i9 _=Y9;replace a9:=(congrFun Qv i9).symm.trans af;replace a6:=((congrFun Qv i6).symm.trans (ab YR)).trans a6;replace a7:=((congrFun Qv i7).symm.trans (ab VS)).trans a7;replace a8:=((congrFun Qv i8).symm.trans (ab WD)).trans a8;replace hs:=Eq.subst (motive:=aa _) Qv (hs.aD z9);clear Qv;have hf:=ME ws space i;rw[show decide ((i:Int)<0\/(i:Int)>=ws.length)=false by simp;omega]at hf;refine ae.aC rfl rfl rfl (hf _) ?_;apply sR;simp only[go_sem,seval,a9,a8,a7,a6];refine ad λQb UP Re P0 f10=>?_;have Za:=al a6 f10;replace a6:=Re _ _ a6;have UZ:=al a7 f10;replace a7:=Re _ _ a7;have n810:=al a8 f10;replace a8:=Re _ _ a8;have VF:=al a9 f10;replace a9:=Re _ _ a9;have SS:=hs.none f10;replace hs:=hs.trans Re;simp only[go_sem,seval,P0,a9,a8,a7,a6];refine ae.aC rfl rfl rfl (KM ws space i _) ?_;apply sR;simp only[go_sem,seval,P0,a9,a8,a7,a6];generalize hS:mix 13 _ _=S;have S6:S 6=.ptr i6 0 0:=by rw[<-hS];rfl
 have S7:S 7=.ptr i7 0 0:=by rw[<-hS];rfl
 have S8:S 8=.ptr i8 0 0:=by rw[<-hS];rfl
 have Zb:S 10=.ptr Qb 0 0:=by rw[<-hS];rfl
 have S22:S 22=.fn 211 [.rp (lf ws space),.rp (vI i)]:=by rw[<-hS];rfl
 clear hS;have Va:=Di ws space hw i hi;have hdr:ws.drop i=ws[i]::ws.drop (i+1):=iy hi;have Vs:ws.getD i 0=ws[i]:=by simp[hi]
 have hxi:=hw.get hi;have fin:∀(J:ag) (w:V),aa U J->J i8=some ⟨293,3,[.agg [vI 0,vI 0,vI 0]]⟩->J Qb=some ⟨293,3,[wY i (ld ws space width i).1 (ld ws space width i).2]⟩->
  ae prog 39 [It.code (.seq (.TB false [⟨some 38,.load true 3 (.t 10),none⟩,⟨none,.store 3 (.t 8) (.t 38),none⟩]) .ret)] ⟨S,J⟩ (λst=>TF [VR.cell true 3 (VX.t 8)] st λr Z'=>r=wY i (ld ws space width i).1 (ld ws space width i).2/\Z'=U):=by
  intro J w h1 h2 h3;refine ae.mix 13 ?_;rw[wY]at h3;apply sR;simp only[go_sem,seval,S8,Zb,h2,h3];exact av.pure (h1.aD z8) rfl
 refine ae.fk (g:=.t 22) (caps:=[.rp (lf ws space),.rp (vI i)]) S22 Va (λx hx=>?_) [0] (λpre ZJ=>∃v,TkJ ws space width i U i6 i7 i8 Qb pre v ZJ)
  (λe pre ZJ=>e=some 0/\aa U ZJ/\ZJ i8=some ⟨293,3,[.agg [vI 0,vI 0,vI 0]]⟩/\ZJ Qb=some ⟨293,3,[wY i (ld ws space width i).1 (ld ws space width i).2]⟩) ?_ ?_ ?_ ?_ ?_
 .obtain⟨t,_,rfl⟩:=fM.1 hx;rfl
 .exact⟨_,hs,a8,a6,a7,P0,.inl ⟨rfl,rfl⟩⟩
 .rintro pre x post ZJ ZB Sb ⟨v,τ⟩ G';have b6:=G' _ _ τ.r6;have b7:=G' _ _ τ.r7;have b8:=G' _ _ τ.r8;have WH:=G' _ _ τ.VU;rcases τ.st with⟨rfl,rfl⟩|⟨n,hp,TY,hr,QF,rfl⟩
  .obtain rfl:x=[vI ((i:Int)+1),vI ws[i]]:=by
    rw[hdr]at Sb;simp only[gK,ga,eD,mo,List.cons.injEq]at Sb;rw[<-Sb.1];simp only[Int.sub_add_cancel,Int.zero_add];rw[show((i+1:Nat):Int)=(i:Int)+1 by omega]
   refine ae.mix 13 ?_;generalize RI:mI S [23,24] _=S0;have T6:S0 6=.ptr i6 0 0:=by rw[<-RI];exact S6
   have T7:S0 7=.ptr i7 0 0:=by rw[<-RI];exact S7
   have VH:S0 10=.ptr Qb 0 0:=by rw[<-RI];exact Zb
   have T23:S0 23=vI ((i:Int)+1):=by rw[<-RI];rfl
   have T24:S0 24=vI ws[i]:=by rw[<-RI];rfl
   clear RI;have r1:PY .i64 ((i:Int)+1):=ar;have q:((i:Int)+1>(i:Int)+1)=False:=PF;apply sR;simp only[go_sem,seval,T6,T7,VH,T23,T24];apply sR;simp only[go_sem,seval,T6,T7,VH,T23,T24,b6,b7,WH,r1,q];refine⟨_,(bp.refl G').set τ.VU,_,τ.sub.aD SS,by rw[ab n810];exact τ.r8,by rw[ab Za];exact τ.r6,by rw[ab UZ];exact τ.r7,af,.inr ⟨ws[i],by simp,by simp;omega,?_,?_,?_⟩⟩
   .rw[hdr,gK];simp only[Int.sub_add_cancel,Int.zero_add,ga,eD,mo,Q4,List.length_nil,List.cons_append];rw[show((i+1:Nat):Int)=(i:Int)+1 by omega]
   .unfold ld;rw[Vs];rfl
   .simp
  .have H':i+pre.length<ws.length:=by
    rcases Nat.lt_or_ge (i+pre.length) ws.length with h|h
    .exact h
    .exfalso;rw[List.drop_of_length_le h]at hr;rw[hr]at Sb;have:=congrArg List.length Sb;simp[gK,ga]at this
   have Wn:ws.drop (i+pre.length)=ws[i+pre.length]::ws.drop (i+pre.length+1):=iy H';obtain rfl:x=[vI ((i:Int)+pre.length+1),vI (n+space+ws[i+pre.length])]:=by
    rw[hr,Wn]at Sb;have h2:=List.append_cancel_left Sb;simp only[gK,ga,eD,List.cons.injEq]at h2;rw[<-h2.1];rw[show((i+pre.length+1:Nat):Int)=(i:Int)+pre.length+1 by omega]
   rw[Wn,pD]at QF;refine ae.mix 13 ?_;generalize RI:mI S [23,24] _=S0;have T6:S0 6=.ptr i6 0 0:=by rw[<-RI];exact S6
   have T7:S0 7=.ptr i7 0 0:=by rw[<-RI];exact S7
   have VH:S0 10=.ptr Qb 0 0:=by rw[<-RI];exact Zb
   have T23:S0 23=vI ((i:Int)+pre.length+1):=by rw[<-RI];rfl
   have T24:S0 24=vI (n+space+ws[i+pre.length]):=by rw[<-RI];rfl
   clear RI;have r1:PY .i64 ((i:Int)+1):=ar;have q:((i:Int)+pre.length+1>(i:Int)+1)=True:=PK;apply sR;simp only[go_sem,seval,T6,T7,VH,T23,T24];by_cases Ua:n+space+ws[i+pre.length]>width
   .have q2:(n+space+ws[i+pre.length]>width)=True:=PK Ua;rw[aE Ua]at QF;apply sR;simp only[go_sem,seval,T6,T7,VH,T23,T24,b6,b7,WH,r1,q,q2];refine⟨_,bp.refl G',τ.sub,τ.r8,?_⟩;rw[τ.VU,QF];rfl
   .have q2:(n+space+ws[i+pre.length]>width)=False:=PF Ua;rw[aH Ua]at QF;apply sR;simp only[go_sem,seval,T6,T7,VH,T23,T24,b6,b7,WH,r1,q,q2];have hpl2:(pre++[[vI ((i:Int)+pre.length+1),vI (n+space+ws[i+pre.length])]]).length=pre.length+1:=by simp
    refine⟨_,(bp.refl G').set τ.VU,_,τ.sub.aD SS,by rw[ab n810];exact τ.r8,by rw[ab Za];exact τ.r6,by rw[ab UZ];exact τ.r7,af,.inr ⟨n+space+ws[i+pre.length],by omega,by omega,?_,?_,?_⟩⟩
    .rw[hr,Wn,hpl2,gK];simp only[ga,eD,ly,List.cons_append,mo];rw[show((i+pre.length+1:Nat):Int)=(i:Int)+pre.length+1 by omega];rfl
    .rw[hpl2];exact QF
    .rw[hpl2,show((i+(pre.length+1):Nat):Int)=(i:Int)+pre.length+1 by omega]
 .rintro Z' ⟨v,τ⟩;rcases τ.st with⟨h0,rfl⟩|⟨n,hp,TY,hr,QF,rfl⟩
  .exfalso;rw[hdr]at h0;simp[gK,ga]at h0
  .have he:ga (gK space (ws.drop (i+(ga (gK space (ws.drop i) i (0-space))).length)) (i+(ga (gK space (ws.drop i) i (0-space))).length) n)=[]:=by
    have:=congrArg List.length hr;rw[gY]at this;exact qK (by omega)
   generalize (ga (gK space (ws.drop i) i (0-space))).length=p at*;have hd:ws.drop (i+p)=[]:=by
    cases h:ws.drop (i+p)with
    |nil=>rfl
    |cons a b=>rw[h]at he;simp[gK,ga]at he
   rw[hd,pD]at QF;refine ae.inBlock (fin Z' .aT τ.sub τ.r8 ?_);rw[τ.VU,QF];rfl
 .intro id M' pre Z' _ ⟨h0,h1,h2,h3⟩;obtain rfl:id=0:=by simpa using M'
  refine ae.exit rfl ?_;exact fin Z' .aT h1 h2 h3
 .rintro pre Z' _ ⟨h0,_⟩;cases h0
open Go.Proofs Go.Proofs.Tryz
def tF(p:Pn)(n:Int):Pn:=⟨if n>0 then p.y+p.m+n else p.y,if n>0 then 0 else p.m⟩
def eK(p:Pn)(mg n:Int):Pn:=tF ⟨p.y,max p.m mg⟩ n
def mn(p:Pn)(mg n:Int):Pn:=⟨(tF p n).y,max (tF p n).m mg⟩
def C4(p:Pn)(mg n:Int)(h1:Bq p.y)(h2:Bq p.m)(h3:Bq mg)(h4:Bq n):bb prog 138 [ir p,vI mg,vI n] (ir (eK p mg n)):=λU=>by
 refine Pq.r (by simp[Mf]) ?_;have hs:=aa.refl U;refine ae.mix 10 ?_;apply sR;simp only[go_sem,seval,Mf,ir];refine ad λi3 Z3 s3 a3 f3=>?_;have z3:=hs.none f3;replace hs:=hs.trans s3;simp only[go_sem,seval,a3];refine ad λi6 Z6 s6 a6 f6=>?_;have n36:=al a3 f6;replace a3:=s6 _ _ a3;have z6:=hs.none f6;replace hs:=hs.trans s6;simp only[go_sem,seval,a6,a3];refine ad λi7 Z7 s7 a7 f7=>?_;have X6:=al a3 f7;replace a3:=s7 _ _ a3;have UH:=al a6 f7;replace a6:=s7 _ _ a6;have z7:=hs.none f7;replace hs:=hs.trans s7;simp only[go_sem,seval,a7,a6,a3,ab X6,ab UH];generalize Sx:C' _ i7 _=Y7;replace a7:=(congrFun Sx i7).symm.trans af;replace a3:=((congrFun Sx i3).symm.trans (ab X6)).trans a3;replace a6:=((congrFun Sx i6).symm.trans (ab UH)).trans a6;replace hs:=Eq.subst (motive:=aa _) Sx (hs.aD z7);clear Sx;refine ae.call rfl rfl rfl (Cn p.y p.m mg a7) ?_;rintro r Z1 ⟨rfl,rfl⟩;apply sR;simp only[go_sem,seval];have hm:Bq (max p.m mg):=by obtain⟨g1,g2⟩:=h2;obtain⟨g3,g4⟩:=h3;exact⟨by omega,by omega⟩
 refine ae.call rfl rfl rfl (IX p.y (max p.m mg) n h1 hm h4 af) ?_;rintro r Z2 ⟨rfl,rfl⟩;apply sR;simp only[go_sem,seval,a6,ab UH,ab UH.symm];exact av.pure ((hs.aD z7).aD z6) rfl
def C3(p:Pn)(mg n:Int)(h1:Bq p.y)(h2:Bq p.m)(h3:Bq mg)(h4:Bq n):bb prog 139 [ir p,vI mg,vI n] (ir (mn p mg n)):=λU=>by
 refine O1.r (by simp[JI]) ?_;have hs:=aa.refl U;refine ae.mix 10 ?_;apply sR;simp only[go_sem,seval,JI,ir];refine ad λi3 Z3 s3 a3 f3=>?_;have z3:=hs.none f3;replace hs:=hs.trans s3;simp only[go_sem,seval,a3];refine ad λi6 Z6 s6 a6 f6=>?_;have n36:=al a3 f6;replace a3:=s6 _ _ a3;have z6:=hs.none f6;replace hs:=hs.trans s6;simp only[go_sem,seval,a6,a3];refine ad λi7 Z7 s7 a7 f7=>?_;have X6:=al a3 f7;replace a3:=s7 _ _ a3;have UH:=al a6 f7;replace a6:=s7 _ _ a6;have z7:=hs.none f7;replace hs:=hs.trans s7;simp only[go_sem,seval,a7,a6,a3,ab X6,ab UH];generalize Sx:C' _ i7 _=Y7;replace a7:=(congrFun Sx i7).symm.trans af;replace a3:=((congrFun Sx i3).symm.trans (ab X6)).trans a3;replace a6:=((congrFun Sx i6).symm.trans (ab UH)).trans a6;replace hs:=Eq.subst (motive:=aa _) Sx (hs.aD z7);clear Sx;refine ae.call rfl rfl rfl (IX p.y p.m n h1 h2 h4 a7) ?_;rintro r Z1 ⟨rfl,rfl⟩;apply sR;simp only[go_sem,seval];refine ae.call rfl rfl rfl (Cn _ _ mg af) ?_;rintro r Z2 ⟨rfl,rfl⟩;apply sR;simp only[go_sem,seval,a6,ab UH,ab UH.symm];exact av.pure ((hs.aD z7).aD z6) rfl
structure Ln where
 (fr to x y w:Int)
deriving DecidableEq
def nr(l:Ln):V:=.agg [vI l.fr,vI l.to,vI l.x,vI l.y,vI l.w]
def oI(fs:List PI)(ws:List Int)(space high:Int)(i:Nat)(y:Int)(s:QN):Ln:=
 let Qf:=lX fs (ws.getD i 0) high s y
 let b:=ef fs Qf high s
 let t:=ld ws space (kE b) i
 ⟨i,t.1,b.a,Qf,t.2⟩
def Ir(fs:List PI)(ws:List Int)(space high:Int)(i:Nat)(y:Int)(s:QN)(hl:fs.length<=1000000)(P5:∀f∈fs,f.ok)(hy:RB y)(hh:Bq high)(Sn:RB s.a/\RB s.b)(hw:WOk ws space)(hi:i<ws.length):
 bb prog 161 [aS fs,bD ws,vI space,vI high,vI i,vI y,bh s] (nr (oI fs ws space high i y s)):=λU=>by
 refine OB.r (by simp[Kk]) ?_;have hs:=aa.refl U;have hn:=fU ws;have O':=λU=>iZ (U:=U) hi;have q0:((i:Int)<0)=False:=PF;have q1:((i:Int)>=ws.length)=False:=PF;refine ae.mix 18 ?_;apply sR;simp only[go_sem,seval,Kk,bh];refine ad λVI Y13 s13 R5 f13=>?_;have z13:=hs.none f13;replace hs:=hs.trans s13;simp only[go_sem,seval,R5];refine ad λi14 Z14 s14 Uc f14=>?_;have n1314:=al R5 f14;replace R5:=s14 _ _ R5;have z14:=hs.none f14;replace hs:=hs.trans s14;simp only[go_sem,seval,Uc,R5,hn,O',q0,q1];have Vs:ws.getD i 0=ws[i]:=by simp[hi]
 obtain⟨Qf,RG⟩:∃a,a=lX fs ws[i] high s y:=⟨_,rfl⟩
 have UW:=Gr fs ws[i] high y s hl P5 hy hh Sn;rw[<-RG]at UW;have ZX:=nA (y:=Qf) (high:=high) P5 Sn;unfold oI;rw[Vs];simp only;rw[<-RG];obtain⟨b,hb⟩:∃b,b=ef fs Qf high s:=⟨_,rfl⟩
 rw[<-hb]at UW ZX|-;refine Go.bZ rfl rfl rfl UW ?_;apply sG;simp only[go_sem,seval,bh];refine bc λVW Y15 Vi SR f15=>?_;have n1315:=al R5 f15;replace R5:=Vi _ _ R5;have n1415:=al Uc f15;replace Uc:=Vi _ _ Uc;have z15:=hs.none f15;replace hs:=hs.trans Vi;simp only[go_sem,seval,SR,Uc,R5,bh];generalize Rs:C' _ VW _=Z15;replace SR:=(congrFun Rs VW).symm.trans af;replace R5:=((congrFun Rs VI).symm.trans (ab n1315)).trans R5;replace Uc:=((congrFun Rs i14).symm.trans (ab n1415)).trans Uc;replace hs:=Eq.subst (motive:=aa _) Rs (hs.aD z15);clear Rs;refine ae.aC rfl rfl rfl (En b ZX.1 ZX.2 _) ?_;apply sR;simp only[go_sem,seval];refine ae.aC rfl rfl rfl (Ho ws space (kE b) hw i hi _) ?_;apply sR;simp only[go_sem,seval,wY];refine ad λVY Y17 U1 SB f17=>?_;have XA:=al R5 f17;replace R5:=U1 _ _ R5;have n1417:=al Uc f17;replace Uc:=U1 _ _ Uc;have n1517:=al SR f17;replace SR:=U1 _ _ SR;have z17:=hs.none f17;replace hs:=hs.trans U1;simp only[go_sem,seval,SB,SR,Uc,ab XA,ab n1417,ab n1517];exact av.pure ((hs.aD z17).aD z14) rfl
open Go.Proofs Go.Proofs.Tryz
def aU.BD{K ZJ Z1:ag}{e sz:Nat}{v:V}{rows:List V}(h:aU K ZJ e sz v rows)(hs:aa ZJ Z1):
 ∃PU,cZ Z1 e sz v=some (rows,PU)/\(∀K':ag,aa K' K->∀Z2,aa K' Z2->aa K' (Vc.bI Z2 PU))/\(∀i o,ZJ i=some o->(o.elem≠e\/o.sz≠sz)->∀Z2:ag,Vc.bI Z2 PU i=Z2 i)/\(∀i,ZJ i=none->∀Z2:ag,Vc.bI Z2 PU i=Z2 i):=by
 rcases h with⟨rfl,rfl⟩|⟨id,rfl,ho,hk⟩
 .exact⟨none,rfl,λ_ _ _ h=>h,λ_ _ _ _ _=>rfl,λ_ _ _=>rfl⟩
 .refine⟨some id,?_,λK' hK Z2 h=>h.Gb (hK.none hk),λi o hi P' Z2=>?_,λi hi Z2=>?_⟩
  .simp only[cZ,hs _ _ ho];rw[aE ⟨trivial,trivial,trivial,Qt _⟩,jK]
  .refine dN λe'=>?_;subst e';rw[ho]at hi;injection hi with hi;subst hi;rcases P' with h|h<;>exact h rfl
  .refine dN λe'=>?_;subst e';rw[ho]at hi;cases hi
def rO{l:List PI}{w high B:Int}{s:QN}(hB:∀f∈l,f.y+f.h<=B):∀(k:Nat) (y:Int),y<=pk l w high s k y/\pk l w high s k y<=max y B
 |0,y=>by simp only[pk];omega
 |k+1,y=>by
  rw[pk];split
  .omega
  .rename_i hf;have P':ef l y high s≠s:=λe=>hf (by simp[wH,e]);obtain⟨f,hm,h1,h2⟩:=jc (o5 P');have:=rO hB k (gX l y high s).1 (w:=w) (high:=high) (s:=s);have:=hB f hm;omega
def gm{l:List PI}{w high B y:Int}{s:QN}(hB:∀f∈l,f.y+f.h<=B):y<=lX l w high s y/\lX l w high s y<=max y B:=rO hB _ _
def dT(fs:List PI)(ws:List Int)(space high:Int)(s:QN):Nat->Nat->Int->List Ln
 |0,_,_=>[]
 |k+1,i,y=>if i<ws.length then oI fs ws space high i y s::dT fs ws space high s k (oI fs ws space high i y s).to.toNat ((oI fs ws space high i y s).y+high)else[]
def kH(fs:List PI)(ws:List Int)(space high:Int)(s:QN):∀(k i:Nat) (y:Int),(dT fs ws space high s k i y).length<=k
 |0,_,_=>by simp[dT]
 |k+1,i,y=>by
  rw[dT];split
  .have:=kH fs ws space high s k (oI fs ws space high i y s).to.toNat ((oI fs ws space high i y s).y+high);simp only[Q4];omega
  .simp
def zT(l:Ln):(nr l).cells=[vI l.fr,vI l.to,vI l.x,vI l.y,vI l.w]:=rfl
def zJ(l:Ln):(nr l).stays=true:=rfl
def qU(l:List Ln):V:=.sl 5 (l.map nr)
variable {P:Program} {n:Nat} {st:St} {Q:St->Prop} {k:List It}
def oJ(D:List (List Nat))(S:List Nat)(s:Nat):List (List Nat):=(List.range D.length).map λi=>if S.contains i&&!(i==s)then s::D.getD i []else D.getD i []
def AS{D:List (List Nat)}{S:List Nat}{s:Nat}:(oJ D S s).length=D.length:=by simp[oJ]
def Ar{D:List (List Nat)}{S:List Nat}{s i:Nat}:(oJ D S s).getD i []=if i<D.length/\i∈S/\i≠s then s::D.getD i []else D.getD i []:=by
 unfold oJ;rw[uG,ph];by_cases hi:i<D.length
 .rw[List.getElem?_range hi];by_cases hs:i∈S
  .by_cases he:i=s
   .simp[he]
   .simp[hi,hs,he]
  .simp[hs]
 .have h1:(List.range D.length)[i]?=none:=rC (by simpa using hi);rw[h1,aH (λh=>hi h.1)];simp[rC (show D.length<=i by omega)]
def zI{D:List (List Nat)}{S:List Nat}{s i:Nat}(h:i∉S\/i=s):(oJ D S s).getD i []=D.getD i []:=by
 rw[Ar,aH];rintro⟨_,h1,h2⟩;exact h.elim (λh=>h h1) h2
def sH{D:List (List Nat)}{S:List Nat}{s:Nat}{L:List Nat}(hp:s∈L):ec (oJ D S s) L=ec D L:=by
 unfold ec;rw[AS];refine List.filter_congr λi hi=>?_;rw[Ar];split
 .simp[hp]
 .rfl
def vm{l:List aK}{D:List (List Nat)}{S:List Nat}{s:Nat}{K:St->Prop}:∀(f:Nat) (L:List Nat) (y:St),s∈L->jb P l (oJ D S s) K f L y->jb P l D K f L y
 |0,L,y,hp,h=>⟨by rw[<-sH hp];exact h.1,h.2⟩
 |f+1,L,y,hp,h=>by
  unfold jb at h|-;rw[sH hp]at h;cases hr:ec D L with
  |nil=>rw[hr]at h;exact h
  |cons a r=>
   rw[hr]at h;refine qg λi hi=>?_;obtain⟨ins,h1,h2⟩:=nT h i hi;exact⟨ins,h1,TC.mono (λx hx=>vm f _ x (by simp[hp]) hx) h2⟩
def wN{l:List aK}{K:St->Prop}{b:List Nat}:∀{a:List Nat},RE P l K (a++b)=RE P l (RE P l K b) a
 |[]=>rfl
 |m::a=>by
  funext x;rw[List.cons_append,RE,RE,wN]
def n9{l:List aK}{P4:List (List Nat)}{b:List Nat}:∀{a done:List Nat},eC l P4 done (a++b)=eC l P4 done a++eC l P4 (done++a) b
 |[],done=>by simp[eC]
 |e::a,done=>by
  rw[List.cons_append,eC,eC,n9];simp
def RE.mono{l:List aK}{K K':St->Prop}(hk:∀x,K x->K' x):∀{a:List Nat} {x:St},RE P l K a x->RE P l K' a x
 |[],x,h=>hk x h
 |m::a,x,h=>by
  rw[RE]at h|-;cases hm:l[m/2]? with
  |none=>rw[hm]at h;exact h.elim
  |some i=>
   rw[hm]at h;simp only at h|-;split at h<;>rename_i he
   .rw[aE he];exact TC.mono (λx hx=>RE.mono hk hx) h
   .rw[aH he];exact⟨h.1,RE.mono hk h.2⟩
structure FN(l:List aK)(D P4:List (List Nat))(pre tail S:List Nat)(befs:Nat->List (List Nat)):Prop where
 e:EOkW l D P4 (pre++tail)
 RQ:∀a b x y,pre++tail=a++b->x∈a->y∈b->x∈pre->dK l P4 x=true->x∈eX P4 y
 sub:∀s∈S,s∈tail
 some:∃s,s∈S
 later:∀i∈tail,i∉S->∃s∈S,s∈eX P4 i
 agree:∀s∈S,∀i∈pre,dK l (befs s) i=dK l P4 i
section
variable {l:List aK} {D P4:List (List Nat)} {pre tail S:List Nat} {befs:Nat->List (List Nat)} {K:St->Prop} {Ks:Nat->St->Prop} (hF:FN l D P4 pre tail S befs)
include hF
def kc.Ni{L:List Nat}{y:St}:∀{rest done:List Nat} {x:St},kc P l D P4 pre K L y done rest x->
 ∃YW Wh x',kc P l D P4 pre K L y YW Wh x'/\∀h r,Wh=h::r->dK l P4 h=true
 |[],done,x,h=>⟨done,[],x,h,by simp⟩
 |e::rest,done,x,h=>by
  have hE:=hF.e;cases Sv:dK l P4 e with
  |true=>exact⟨done,e::rest,x,h,λa r he=>by cases he;exact Sv⟩
  |false=>
   have TR:e<l.length:=hE.lt e (by rw[h.split];simp);obtain⟨hk,YX⟩:=iu Sv TR (hE.nR TR);have Rh:=(List.nodup_append.1 hE.nodup).1;rw[h.split]at Rh;have hed:e∉done:=λhm=>(List.nodup_append.1 Rh).2.2 e hm e (by simp) rfl;have W7:e∉L:=λhm=>hed (h.sub e hm);have RO:=h.go;rw[eC,Cd TR,Dm,aH (by simp[Sv]),mo]at RO;have hT:T P (bC l e) x (RE P l K (eC l P4 (done++[e]) rest)):=by
    rcases RO with RO|⟨_,RO⟩
    .exact RO
    .exfalso;revert RO hk;generalize (bC l e).op=op;intro hk RO;split at RO
     .simp[bx]at hk
     .simp[bx]at hk
     .simp[bx]at hk
     .exact RO
   obtain⟨v,hv,W8⟩:=(cN (by simp[fN,hk])).1 hT;refine kc.Ni (rest:=rest) (done:=done++[e]) (x:=⟨aZ x.s (bC l e).dst v,x.U⟩) ⟨by rw[h.split];simp,λi hi=>by simp[h.sub i hi],h.nodup,h.closed,λi hi RH=>?_,h.store,λd hd=>?_,λi hi TM=>?_,W8⟩
   .rcases ei.1 hi with hi|hi
    .exact h.RQ i hi RH
    .simp only[iW]at hi;rw[hi,Sv]at RH;cases RH
   .have h1:=h.slot d λi hi TM=>hd i (by simp[hi]) TM;have h2:=hd e (by simp) W7;rw[h1];simp only;cases W6:(bC l e).dst with
    |none=>rfl
    |some d'=>
     rw[W6]at h2;simp only[aZ];rw[aH (λe'=>h2 (by rw[e']))]
   .by_cases RH:i=e
    .subst RH;unfold Yl;cases hd:(bC l i).dst with
     |none=>exact⟨v,hv⟩
     |some d=>
      simp only;have e1:aZ x.s (some d) v d=v:=by simp[aZ]
      rw[e1];exact(gi (λt ht=>by cases ht;exact YX d hd)).2 hv
    .have M':i∈done:=by
      rcases ei.1 hi with hi|hi
      .exact hi
      .simp only[iW]at hi;exact absurd hi RH
     have So:i<l.length:=hE.lt i (by rw[h.split];simp[M']);refine tp hE So TR RH (λd hd hu=>?_) (λv hv=>hv) (h.YV i M' TM);rcases hE.XX i e So TR RH d hd hu with h1|⟨h1,_⟩
     .obtain⟨a,b,UY⟩:=List.append_of_mem M';have h2:=hE.mK (a:=a) (j:=i) (b:=b++e::rest++tail) (by rw[h.split,UY];simp) e h1;exact hed (by rw[UY];simp[h2])
     .rw[Sv]at h1;cases h1
def Bt(hH:∀s∈S,∀(f:Nat) (L:List Nat) (y:St) (done rest:List Nat) (x:St),f+L.length=l.length->kc P l (oJ D S s) (befs s) pre (Ks s) L y done rest x->jb P l (oJ D S s) K f L y):
 ∀(f:Nat) (L:List Nat) (y:St) (done rest:List Nat) (x:St),f+L.length=l.length->(∀s∈S,s∉L)->kc P l D P4 pre (λx=>∀s∈S,Ks s x) L y done rest x->jb P l D K f L y:=by
 have hE:=hF.e;obtain⟨s0,QP⟩:=hF.some;have H':∀s∈S,s<l.length:=λs hs=>hE.lt s (by simp[hF.sub s hs]);have US:∀s∈S,s∉pre:=λs hs hm=>(List.nodup_append.1 hE.nodup).2.2 s hm s (hF.sub s hs) rfl;intro f
 induction f with
 |zero=>
  intro L y done rest x hf hSL h;exact absurd ((vw l.length L h.nodup λi hi=>hE.lt i (by rw[h.split];simp[h.sub i hi])).2 (by omega) s0 (H' s0 QP)) (hSL s0 QP)
 |succ f ih=>
  intro L y done rest x hf hSL h;obtain⟨done,rest,x,h,Xz⟩:=kc.Ni hF h;have Rh:=(List.nodup_append.1 hE.nodup).1;rw[h.split]at Rh;have hdp:∀i∈done,i∈pre:=λi hi=>by rw[h.split];simp[hi]
  have QG:∀m∈L,∀d∈D.getD m [],d∈L:=h.closed;have hclS:∀s,∀m∈L,∀d∈(oJ D S s).getD m [],d∈L:=λs m hm d hd=>by
   rw[zI (.inl λhs=>hSL m hs hm)]at hd;exact h.closed m hm d hd
  have take:rest=[]->∀s∈S,jb P l (oJ D S s) K (f+1) L y:=λhr s hs=>by
   subst hr;have hdp':pre=done:=by rw[h.split];simp
   refine hH s hs (f+1) L y done [] x hf ⟨by rw[hdp'];simp,h.sub,h.nodup,hclS s,λi hi RH=>h.RQ i hi (by rw[<-hF.agree s hs i (hdp i hi)];exact RH),h.store,h.slot,h.YV,?_⟩;exact h.go s hs
  have key:uX P l (jb P l D K f) L y (ec D L):=by
   refine qg λi hi=>?_;have hi0:=hi;obtain⟨So,TM,Wi⟩:=vz hi;rw[hE.XW]at So;by_cases hiS:i∈S
   .have hm:i∈ec (oJ D S i) L:=by
     unfold ec;refine sX.2 ⟨by rw[AS,hE.XW];simpa using So,?_⟩;rw[zI (.inr rfl)];exact(sX.1 hi).2
    have Ss:rest=[]:=by
     cases hrr:rest with
     |nil=>rfl
     |cons a rr=>
      exfalso;have ha:=Xz a rr hrr;have hapre:a∈pre:=by rw[h.split,hrr];simp
      have hb:a∈eX P4 i:=hF.RQ pre tail a i rfl hapre (hF.sub i hiS) hapre ha;obtain⟨pa,pb,hpe⟩:=List.append_of_mem (hE.mem i So);have haL:a∈L:=hE.closed QG hE.mem (pa.length+1) pa i pb (by omega) hpe (λd hd=>Wi d hd) a hb;rw[hrr]at Rh;exact(List.nodup_append.1 Rh).2.2 a (h.sub a haL) a (by simp) rfl
    have h1:=take Ss i hiS;unfold jb at h1;cases hr:ec (oJ D S i) L with
    |nil=>rw[hr]at hm;cases hm
    |cons a r=>
     rw[hr]at h1 hm;obtain⟨ins,g1,g2⟩:=nT h1 i hm;exact⟨ins,g1,TC.mono (λx hx=>vm f _ x (by simp) hx) g2⟩
   refine⟨bC l i,by simp[bC,Tq So],?_⟩;obtain⟨pa,pb,hpe⟩:=List.append_of_mem (hE.mem i So);have SU:∀j∈eX P4 i,j∈L:=hE.closed QG hE.mem (pa.length+1) pa i pb (by omega) hpe Wi;have Wj:∀u∈(bC l i).lF,x.s u=y.s u:=λu hu=>(h.slot u λj hj Uh hd=>by
    have Ta:j<l.length:=hE.lt j (by simp[hdp j hj]);by_cases RA:j=i
    .subst RA;cases Rf:dK l P4 j with
     |true=>exact Uh (h.RQ j hj Rf)
     |false=>exact(iu Rf Ta (hE.nR Ta)).2 u hd hu
    .rcases hE.XX i j So Ta (λe=>RA e.symm) u hd hu with h1|⟨h1,_⟩
     .exact Uh (SU j h1)
     .exact Uh (h.RQ j hj h1)).symm
   by_cases M':i∈done
   .have RH:dK l P4 i=false:=by
     cases RH:dK l P4 i with
     |false=>rfl
     |true=>exact absurd (h.RQ i M' RH) TM
    obtain⟨hk,_⟩:=iu RH So (hE.nR So);have hq:=h.YV i M' TM;obtain⟨v,hv,hvd⟩:∃v,QY P (bC l i) x.s x.U v/\∀d,(bC l i).dst=some d->x.s d=v:=by
     unfold Yl at hq;cases hd:(bC l i).dst with
     |none=>rw[hd]at hq;obtain⟨v,hq⟩:=hq;exact⟨v,hq,by simp⟩
     |some d=>rw[hd]at hq;exact⟨_,hq,λd' e=>by cases e;rfl⟩
    refine .inl ((cN (by simp[fN,hk])).2 ⟨v,?_,?_⟩)
    .rw[h.store];exact Aj Wj hv
    .refine ih (i::L) _ done rest x (by simp only[Q4];omega) (λs hs hm=>(dc.1 hm).elim (λe=>hiS (e▸hs)) (hSL s hs)) ⟨h.split,λj hj=>?_,List.nodup_cons.2 ⟨TM,h.nodup⟩,λm hm d hd=>?_,λj hj Rf=>by simp[h.RQ j hj Rf],h.store,λd hd=>?_,λj hj Uh=>h.YV j hj (λhm=>Uh (by simp[hm])),h.go⟩
     .rcases dc.1 hj with rfl|hj
      .exact M'
      .exact h.sub j hj
     .rcases dc.1 hm with rfl|hm
      .simp[Wi d hd]
      .simp[h.closed m hm d hd]
     .simp only;by_cases W9:(bC l i).dst=some d
      .rw[W9];simp only[aZ];rw[aE trivial];exact(hvd d W9).symm
      .have h1:=h.slot d λj hj Uh=>by
        by_cases RA:j=i
        .rw[RA];exact W9
        .exact hd j hj (by simp[RA,Uh])
       rw[<-h1];cases W6:(bC l i).dst with
       |none=>rfl
       |some d'=>
        rw[W6]at W9;simp only[aZ];rw[aH (λe'=>W9 (by rw[e']))]
   .have ZW:i∈rest++tail:=by
     have:=hE.mem i So;rw[h.split,ly]at this;exact(ei.1 this).resolve_left M'
    obtain⟨Us,rr,rfl⟩:∃a r,rest=a::r:=by
     cases rest with
     |nil=>
      exfalso;rw[mo]at ZW;obtain⟨s,hs,hsb⟩:=hF.later i ZW hiS;exact hSL s hs (SU _ hsb)
     |cons a r=>exact⟨a,r,rfl⟩
    have Sv:=Xz Us rr rfl;have XY:Us∉done:=λhm=>(List.nodup_append.1 Rh).2.2 Us hm Us (by simp) rfl;have hih:i=Us:=by
     rcases dc.1 (show i∈Us::(rr++tail)from ZW)with e|ZW
     .exact e
     .exfalso;have:=hF.RQ (done++[Us]) (rr++tail) Us i (by rw[h.split];simp) (by simp) ZW (by rw[h.split];simp) Sv;exact XY (h.sub _ (SU _ this))
    subst hih;have RO:=h.go;rw[show eC l P4 done (i::rr)=2*i::(Dm l P4 done i++eC l P4 (done++[i]) rr)from rfl,Cd So]at RO;refine yU Wj h.store.symm (λr Z' hK=>?_) RO;rw[Dm,aE Sv]at hK;obtain⟨hck,W8⟩:=tv (λk=>!(dK l P4 k)&&(!(k0 (bC l k).op)&&!((eX P4 i).contains k))) (λj hj=>hE.lt j (by simp[hdp j hj])) hK;refine ih (i::L) _ (done++[i]) rr ⟨aZ x.s (bC l i).dst r,Z'⟩ (by simp only[Q4];omega) (λs hs hm=>(dc.1 hm).elim (λe=>hiS (e▸hs)) (hSL s hs)) ⟨by rw[h.split];simp,λj hj=>?_,List.nodup_cons.2 ⟨TM,h.nodup⟩,λm hm d hd=>?_,λj hj Rf=>?_,rfl,λd hd=>?_,λj hj Uh=>?_,W8⟩
    .rcases dc.1 hj with rfl|hj
     .simp
     .simp[h.sub j hj]
    .rcases dc.1 hm with rfl|hm
     .simp[Wi d hd]
     .simp[h.closed m hm d hd]
    .rcases ei.1 hj with hj|hj
     .simp[h.RQ j hj Rf]
     .simp only[iW]at hj;simp[hj]
    .have h1:(bC l i).dst=some d\/y.s d=x.s d:=by
      by_cases W9:(bC l i).dst=some d
      .exact .inl W9
      .exact .inr (h.slot d λj hj Uh=>hd j (by simp[hj]) (by
        simp only[dc,not_or];exact⟨λe=>M' (e▸hj),Uh⟩))
     simp only;cases W6:(bC l i).dst with
     |none=>rw[W6]at h1;exact h1.resolve_left (by simp)
     |some d'=>
      simp only[aZ];split
      .rfl
      .rename_i P';rw[W6]at h1;exact h1.resolve_left (λe=>P' (by cases e;rfl))
    .have XZ:j∈done:=by
      rcases ei.1 hj with hj|hj
      .exact hj
      .simp only[iW]at hj;exact absurd (by simp[hj]) Uh
     have VG:j∉L:=λhm=>Uh (by simp[hm]);have Ta:j<l.length:=hE.lt j (by simp[hdp j XZ]);have RA:j≠i:=λe=>M' (e▸XZ);have Rf:dK l P4 j=false:=by
      cases Rf:dK l P4 j with
      |false=>rfl
      |true=>exact absurd (h.RQ j XZ Rf) VG
     cases hsf:k0 (bC l j).op with
     |true=>
      refine tp hE Ta So RA (λd hd hu=>?_) (λv hv=>j8 hsf hv) (h.YV j XZ VG);rcases hE.XX j i Ta So RA d hd hu with h1|⟨_,h1⟩
      .obtain⟨a,b,UY⟩:=List.append_of_mem XZ;have h2:=hE.mK (a:=a) (j:=j) (b:=b++i::rr++tail) (by rw[h.split,UY];simp) i h1;exact M' (by rw[UY];simp[h2])
      .exact VG (SU j h1)
     |false=>
      refine hck j XZ ?_;simp only[Rf,hsf,Bool.not_false,Bool.true_and,Bool.not_eq_true'];cases hc:(eX P4 i).contains j with
      |false=>rfl
      |true=>exact absurd (SU j (List.contains_iff_mem.1 hc)) VG
  cases hr:ec D L with
  |cons a r=>unfold jb;rw[hr]at key|-;exact key
  |nil=>
   exfalso;have first:∀(a b:List Nat),pre++tail=a++b->(∀j∈a,j∈L)->(∃i∈b,i∉L)->∃a' e b',pre++tail=a'++e::b'/\(∀j∈a',j∈L)/\e∉L:=by
    intro a b
    induction b generalizing a with
    |nil=>rintro _ _ ⟨i,h,_⟩;cases h
    |cons e b ihb=>
     intro he ha hx;by_cases W7:e∈L
     .refine ihb (a++[e]) (by rw[he];simp) (λj hj=>?_) ?_
      .rcases ei.1 hj with hj|hj
       .exact ha j hj
       .simp only[iW]at hj;rw[hj];exact W7
      .obtain⟨i,hi,TM⟩:=hx;rcases dc.1 hi with rfl|hi
       .exact absurd W7 TM
       .exact⟨i,hi,TM⟩
     .exact⟨a,e,b,he,ha,W7⟩
   obtain⟨a,e,b,he,ha,W7⟩:=first [] (pre++tail) rfl (by simp) ⟨s0,by simp[hF.sub s0 QP],hSL s0 QP⟩
   have TR:e<l.length:=hE.lt e (by rw[he];simp);have:e∈ec D L:=by
    unfold ec;refine sX.2 ⟨by simp[hE.XW,TR],?_⟩;simp only[Ba,Bool.not_eq_true',fv];exact⟨by simpa using W7,λd hd=>List.contains_iff_mem.2 (ha d (hE.ahead a e b he d hd))⟩
   rw[hr]at this;cases this
end
inductive PT where
 |leaf (P4:List (List Nat)) (r:List Nat)
 |fork (P4:List (List Nat)) (m:List Nat) (S:List Nat) (kids:List PT)
def PT.P4:PT->List (List Nat)
 |.leaf b _=>b
 |.fork b _ _ _=>b
def PT.ord:Nat->PT->List Nat
 |0,_=>[]
 |f+1,t=>match t with
  |.leaf _ r=>r
  |.fork _ m _ kids=>m++(match kids with
   |k::_=>PT.ord f k
   |[]=>[])
def C0(g:Nat->PT->Bool):List Nat->List PT->Bool
 |[],[]=>true
 |s::ss,t::ts=>g s t&&C0 g ss ts
 |_,_=>false
def tC{g:Nat->PT->Bool}:∀{S:List Nat} {ts:List PT},C0 g S ts=true->∀s∈S,∃t∈ts,g s t=true
 |[],[],_,s,hs=>by cases hs
 |a::S,t::ts,h,s,hs=>by
  simp only[C0,Ba]at h;rcases dc.1 hs with rfl|hs
  .exact⟨t,by simp,h.1⟩
  .obtain⟨t',h1,h2⟩:=tC h.2 s hs;exact⟨t',by simp[h1],h2⟩
def IM(l:List aK)(D P4:List (List Nat))(pre tail S:List Nat):Bool:=
 HO l D P4 (pre++tail)&&(mL (λa b=>!(pre.contains a)||(!(dK l P4 a)||(eX P4 b).contains a)) (pre++tail)&&
 (S.all tail.contains&&(!S.isEmpty&&tail.all λi=>S.contains i||S.any λs=>(eX P4 i).contains s)))
def Es(l:List aK):Nat->List (List Nat)->List Nat->PT->Bool
 |0,_,_,_=>false
 |f+1,D,pre,t=>match t with
  |.leaf P4 r=>eOk l D P4 (pre++r)
  |.fork P4 m S kids=>IM l D P4 (pre++m) (match kids with
    |k::_=>PT.ord f k
    |[]=>[]) S&&C0 (λs k=>((pre++m).all λi=>dK l k.P4 i==dK l P4 i)&&Es l f (oJ D S s) (pre++m) k) S kids
def GT(P:Program)(l:List aK)(K:St->Prop):Nat->List Nat->PT->St->Prop
 |0,_,_,_=>False
 |f+1,pre,t,x=>match t with
  |.leaf P4 r=>RE P l K (eC l P4 pre r) x
  |.fork P4 m _ kids=>RE P l (λx=>∀k∈kids,GT P l K f (pre++m) k x) (eC l P4 pre m) x
def kc.more{l:List aK}{D P4:List (List Nat)}{pre m:List Nat}{K:St->Prop}{L:List Nat}{y:St}{done rest:List Nat}{x:St}(h:kc P l D P4 pre (RE P l K (eC l P4 pre m)) L y done rest x):
 kc P l D P4 (pre++m) K L y done (rest++m) x:=by
 refine⟨by rw[h.split];simp,h.sub,h.nodup,h.closed,h.RQ,h.store,h.slot,h.YV,?_⟩;rw[n9,wN,<-h.split];exact h.go
def kc.mono{l:List aK}{D P4:List (List Nat)}{pre:List Nat}{K K':St->Prop}(hk:∀x,K x->K' x){L:List Nat}{y:St}{done rest:List Nat}{x:St}(h:kc P l D P4 pre K L y done rest x):
 kc P l D P4 pre K' L y done rest x:=⟨h.split,h.sub,h.nodup,h.closed,h.RQ,h.store,h.slot,h.YV,RE.mono hk h.go⟩
def Cz{l:List aK}{K:St->Prop}:∀(fu:Nat) (D:List (List Nat)) (pre:List Nat) (t:PT),Es l fu D pre t=true->∀(f:Nat) (L:List Nat) (y:St) (done rest:List Nat) (x:St),f+L.length=l.length->
 (∀i∈L,i∈pre)->kc P l D t.P4 pre (GT P l K fu pre t) L y done rest x->jb P l D K f L y
 |0,_,_,_,h,_,_,_,_,_,_,_,_,_=>by cases h
 |fu+1,D,pre,t,h,f,L,y,done,rest,x,hf,hLp,hl=>by
  cases t with
  |leaf P4 r=>exact pN (zh h) f L y done (rest++r) x hf (kc.more hl)
  |fork P4 m S kids=>
   simp only[Es,Ba]at h;obtain⟨h1,h2⟩:=h;generalize (match kids with
    |k::_=>PT.ord fu k
    |[]=>[])=tail at h1
   simp only[IM,Ba]at h1;obtain⟨g1,g2,g3,g4,g5⟩:=h1;have hk:=tC h2;have hW:=wK g1;have hF:∀kid:Nat->PT,(∀s∈S,((pre++m).all λi=>dK l (kid s).P4 i==dK l P4 i)=true)->FN l D P4 (pre++m) tail S (λs=>(kid s).P4):=λkid U2=>by
    refine⟨hW,λa b u v he hu hv hup hue=>?_,λs hs=>by simpa using fv.1 g3 s hs,?_,λi hi hiS=>?_,λs hs i hi=>by simpa using fv.1 (U2 s hs) i hi⟩
    .rw[he]at g2;have:=nb g2 hu hv;simp only[kJ,Bool.not_eq_true',List.contains_iff_mem,hue,Bool.true_eq_false,false_or]at this;rcases this with h|h
     .have hc:(pre++m).contains u=true:=List.contains_iff_mem.2 hup;rw[hc]at h;cases h
     .exact h
    .cases S with
     |nil=>simp at g4
     |cons s S=>exact⟨s,by simp⟩
    .have:=fv.1 g5 i hi;simp only[kJ,List.contains_iff_mem,Ic]at this;exact this.resolve_left hiS
   have ZI:∀s,∃k:PT,s∈S->(k∈kids/\(((pre++m).all λi=>dK l k.P4 i==dK l P4 i)=true/\Es l fu (oJ D S s) (pre++m) k=true)):=λs=>by
    by_cases hs:s∈S
    .obtain⟨k,h3,h4⟩:=hk s hs;simp only[Ba]at h4;exact⟨k,λ_=>⟨h3,h4⟩⟩
    .exact⟨.leaf [] [],λh=>absurd h hs⟩
   obtain⟨kid,U2⟩:=Classical.axiomOfChoice ZI;have hFN:=hF kid λs hs=>(U2 s hs).2.1;have hSpre:∀s∈S,s∉pre++m:=λs hs hm=>(List.nodup_append.1 hW.nodup).2.2 s hm s (hFN.sub s hs) rfl;refine Bt (Ks:=λs=>GT P l K fu (pre++m) (kid s)) hFN (λs hs f L y done rest x hf hl=>?_) f L y done (rest++m) x hf (λs hs hm=>hSpre s hs (List.mem_append_left _ (hLp s hm))) ?_
   .refine Cz fu _ _ _ (U2 s hs).2.2 f L y done rest x hf (λi hi=>?_) hl;have:=hl.sub i hi;rw[hl.split];simp[this]
   .exact kc.mono (λx hx s hs=>hx (kid s) (U2 s hs).1) (kc.more hl)
def ae.vW(hm:P.follows .mixedOrders=true){l:List aK}{P7:List (List Nat)}(fu:Nat)(t:PT)(hB:Es l fu P7 [] t=true)(h:GT P l (λx=>ae P n k x Q) fu [] t st):ae P n (.code (.Uv l P7)::k) st Q:=by
 refine ae.Jf hm (Cz fu P7 [] t hB l.length [] st [] [] st (by simp) (by simp) ⟨rfl,by simp,List.nodup_nil,by simp,by simp,rfl,λ_ _=>rfl,by simp,?_⟩);exact h
variable {P:Program} {l:List aK} {K:St->Prop} {f:Nat} {pre m S r its:List Nat} {P4:List (List Nat)} {a b c:PT} {x:St}
def GT.eS(h:eC l P4 pre r=its)(hg:RE P l K its x):GT P l K (f+1) pre (.leaf P4 r) x:=by subst h;exact hg
def GT.lh(h:eC l P4 pre m=its)(hg:RE P l (λx=>GT P l K f (pre++m) a x/\GT P l K f (pre++m) b x) its x):GT P l K (f+1) pre (.fork P4 m S [a,b]) x:=by
 subst h;refine RE.mono (λx hx k hk=>?_) hg;simp only[dc,List.not_mem_nil,or_false]at hk;rcases hk with rfl|rfl
 .exact hx.1
 .exact hx.2
def GT.IT(h:eC l P4 pre m=its)(hg:RE P l (λx=>GT P l K f (pre++m) a x/\GT P l K f (pre++m) b x/\GT P l K f (pre++m) c x) its x):GT P l K (f+1) pre (.fork P4 m S [a,b,c]) x:=by
 subst h;refine RE.mono (λx hx k hk=>?_) hg;simp only[dc,List.not_mem_nil,or_false]at hk;rcases hk with rfl|rfl|rfl
 .exact hx.1
 .exact hx.2.1
 .exact hx.2.2
open Go.Proofs Go.Proofs.Tryz
def oP(fs:List PI)(y:Int):Int:=if(ek uK fs).2 then max y (ek uK fs).1 else y
def lM(fs:List PI)(f:PI)(y:Int)(s:QN):Int:=ql fs f.w f.h s (oP fs y)
def pG(fs:List PI)(f:PI)(y:Int)(s:QN):Int:=
 let b:=ef fs (lM fs f y s) f.h s
 if f.side=1 then b.a else max b.a (b.b-f.w)
def kz(fs:List PI)(f:PI)(y:Int)(s:QN):PI:={ f with x:=pG fs f y s,y:=lM fs f y s }
def tR(fs:List PI)(f:PI)(y:Int)(s:QN):List PI:=fs++[kz fs f y s]
def HH{fs:List PI}{y:Int}(P5:∀f∈fs,f.ok)(hy:RB y):RB (oP fs y):=by
 unfold oP;split
 .rename_i h;obtain⟨f,hf,h1,_⟩:=mr h;obtain⟨_,⟨h3,h4⟩,_⟩:=P5 f hf;obtain⟨g1,g2⟩:=hy;rw[h1];simp only[uK];exact⟨by omega,by omega⟩
 .exact hy
def Kj(fs:List PI)(f:PI)(y:Int)(s:QN)(hl:fs.length<=1000000)(P5:∀f∈fs,f.ok)(hy:RB y)(hh:Bq f.h)(hw:Bq f.w)(Sn:RB s.a/\RB s.b):
 bb prog 166 [aS fs,aX f,vI y,bh s] (.PN [vI (pG fs f y s),vI (lM fs f y s)]):=λU=>by
 refine Pm.r (by simp[Kt]) ?_;have hs:=aa.refl U;refine ae.mix 14 ?_;apply sR;simp only[go_sem,seval,Kt,aX,bh];refine ad λi5 Z5 s5 a5 f5=>?_;have z5:=hs.none f5;replace hs:=hs.trans s5;simp only[go_sem,seval,a5];refine ad λi7 Z7 s7 a7 f7=>?_;have n57:=al a5 f7;replace a5:=s7 _ _ a5;have z7:=hs.none f7;replace hs:=hs.trans s7;simp only[go_sem,seval,a7,a5];refine ae.aC rfl rfl rfl (MA fs hl P5 _) ?_;have Vr:=HH (y:=y) P5 hy;have WY:=IE fs f (oP fs y) s hl P5 Vr hh Sn;have ZX:=nA (y:=lM fs f y s) (high:=f.h) P5 Sn;obtain⟨z,hz⟩:∃z,z=lM fs f y s:=⟨_,rfl⟩
 have hz2:ql fs f.w f.h s (oP fs y)=z:=hz.symm;rw[hz2]at WY;rw[<-hz]at ZX;obtain⟨b,hb⟩:∃b,b=ef fs z f.h s:=⟨_,rfl⟩
 have hx:pG fs f y s=if f.side=1 then b.a else max b.a (b.b-f.w):=by unfold pG;rw[<-hz,<-hb]
 rw[<-hz,hx];rw[<-hb]at WY ZX;obtain⟨Tg,QD,hb3,hb4⟩:-2305843009213693952<=b.a/\b.a<=2305843009213693952/\-2305843009213693952<=b.b/\b.b<=2305843009213693952:=⟨ZX.1.1,ZX.1.2,ZX.2.1,ZX.2.2⟩
 obtain⟨hw1,Ua⟩:=hw;cases ht:(ek uK fs).2
 .have hty2:oP fs y=y:=by unfold oP;rw[ht];rfl
  rw[hty2]at WY;apply sR;simp only[go_sem,seval,a7,a5,aO,aP];refine ae.aC rfl rfl rfl (WY _) ?_;apply sR;simp only[go_sem,seval,a7,a5,bh];refine ad λQT Z12 TT a12 f12=>?_;have Xa:=al a5 f12;replace a5:=TT _ _ a5;have Zc:=al a7 f12;replace a7:=TT _ _ a7;have z12:=hs.none f12;replace hs:=hs.trans TT;by_cases Zd:f.side=1
  .have q:(f.side=1)=True:=PK Zd;rw[aE Zd];simp only[go_sem,seval,a12,a7,a5,q,ab Xa,ab Zc];exact av.pure (hs.aD z12) rfl
  .have q:(f.side=1)=False:=PF Zd;rw[aH Zd];have r1:PY .i64 (b.b-f.w):=ar;simp only[go_sem,seval,a12,a7,a5,q,r1,dy,ab Xa,ab Zc];exact av.pure (hs.aD z12) rfl
 .have hty2:oP fs y=max y (ek uK fs).1:=by unfold oP;rw[ht];rfl
  rw[hty2]at WY;apply sR;simp only[go_sem,seval,a7,a5,aO,aP,dy];refine ae.aC rfl rfl rfl (WY _) ?_;apply sR;simp only[go_sem,seval,a7,a5,bh];refine ad λQT Z12 TT a12 f12=>?_;have Xa:=al a5 f12;replace a5:=TT _ _ a5;have Zc:=al a7 f12;replace a7:=TT _ _ a7;have z12:=hs.none f12;replace hs:=hs.trans TT;by_cases Zd:f.side=1
  .have q:(f.side=1)=True:=PK Zd;rw[aE Zd];simp only[go_sem,seval,a12,a7,a5,q,ab Xa,ab Zc];exact av.pure (hs.aD z12) rfl
  .have q:(f.side=1)=False:=PF Zd;rw[aH Zd];have r1:PY .i64 (b.b-f.w):=ar;simp only[go_sem,seval,a12,a7,a5,q,r1,dy,ab Xa,ab Zc];exact av.pure (hs.aD z12) rfl
open Go.Proofs Go.Proofs.Tryz
def Qn(l:List Nd)(i:Nat):Int:=((l[i]?).map Nd.size).getD 0
def wb(l:List Nd)(a:Int):Bool:=decide (0<=a)&&decide (a<l.length)
def iL(l:List Nd)(a b:Int):Bool:=wb l a&&(wb l b&&(decide (b>=a)&&decide (b-a<Qn l a.toNat)))
def ig(l:List Nd)(a:Nat):Nat->List Int
 |0=>[]
 |k+1=>if iL l k a then(k:Int)::ig l a k else ig l a k
def sZ(l:List Nd)(a:Nat):Nat->Int
 |0=>-1
 |k+1=>if iL l k a then(k:Int)else sZ l a k
def eT(l:List Nd)(a:Nat):Int:=sZ l a a
def AV{l:List Nd}{a:Int}:wb l a=true↔0<=a/\a<l.length:=by simp[wb]
def mu{l:List Nd}{i:Nat}(h:i<l.length):Qn l i=l[i].size:=by simp[Qn,h]
def EG{l:List Nd}(h:Qy l=true){i:Nat}(hi:i<l.length):1<=l[i].size/\l[i].size<=(l.length:Int)-i/\(l[i].kind=1\/l[i].size<=1):=by
 simp only[Qy,Ba]at h;exact jg l (l.length+1) 0 l.length (by omega) (Qt _) h.2 i (by omega) hi hi
def tI(l:List Nd)(a:Nat):∀k,-1<=sZ l a k/\sZ l a k<k
 |0=>by simp[sZ]
 |k+1=>by
  rw[sZ];split
  .omega
  .have:=tI l a k;omega
open Go.Proofs Go.Proofs.Tryz
def xI(U:ag)(l:List Int):cK U 1 (bD l)=some (l.map vI):=by simp[bD,cK]
def rz{l:List Nd}(hb:Qy l=true){i:Nat}(h:i<l.length):1<=Qn l i/\Qn l i<=l.length:=by
 rw[mu h];have:=EG hb h;omega
open Go.Proofs Go.Proofs.Tryz
def nj(l:List Nd):∀(m a e:Nat),e-a<m->e<=l.length->cJ l a e=true->∀k,a<=k->(h:k<e)->(h2:k<l.length)->cJ l (k+1) (k+l[k].size.toNat)=true
 |0,_,_,h,_,_=>by omega
 |m+1,a,e,hm,he,hr=>by
  intro k hk hke h2;have Vz:a<e:=by omega
  have ha:a<l.length:=by omega
  rw[cJ,dif_pos Vz]at hr;have hga:l[a]?=some l[a]:=by simp[ha]
  rw[hga]at hr;simp only at hr;split at hr
  .rename_i hx;simp only[Ba]at hr;obtain⟨⟨h3,h4⟩,h5⟩:=hr;by_cases hka:k=a
   .subst hka;exact h4
   .by_cases Vx:k<a+l[a].size.toNat
    .exact nj l m (a+1) (a+l[a].size.toNat) (by omega) (by omega) h4 k (by omega) Vx h2
    .exact nj l m (a+l[a].size.toNat) e (by omega) he h5 k (by omega) hke h2
  .cases hr
def Q7(x:Nd):Int:=if x.kind=1 then x.st.top+x.st.P8+x.st.PS+x.st.PG+x.st.head else if x.kind=2 then x.line*x.words.length else x.h
def pof(x:Nd):Int:=if x.kind=1 then 0 else if x.kind=2 then x.words.length else 1
def jA:List Nd->Int
 |[]=>0
 |x::l=>Q7 x+jA l
def lC:List Nd->Int
 |[]=>0
 |x::l=>pof x+lC l
def Ad(a b:List Nd):jA (a++b)=jA a+jA b:=by
 induction a with
 |nil=>simp[jA]
 |cons x a ih=>simp only[List.cons_append,jA,ih];omega
def Ae(a b:List Nd):lC (a++b)=lC a+lC b:=by
 induction a with
 |nil=>simp[lC]
 |cons x a ih=>simp only[List.cons_append,lC,ih];omega
def tP{x:Nd}(h:x.ok=true):0<=Q7 x:=by
 obtain⟨p1,p2,p3,p4,p5,p6⟩:=kD h;unfold Q7;split
 .rename_i hk;obtain⟨q1,q2,q3,q4,q5⟩:=p6 hk;omega
 .split
  .exact Int.mul_nonneg p2 (by omega)
  .exact p4
def zp{l:List Nd}(h:l.all Nd.ok=true):0<=jA l:=by
 induction l with
 |nil=>simp[jA]
 |cons x l ih=>
  simp only[yD,Ba]at h;have:=tP h.1;have:=ih h.2;simp only[jA];omega
def dm(l:List Nd):Nat->Int
 |0=>0
 |i+1=>match l[i]? with
  |some x=>if x.kind=1 then max (dm l i) (jx l i (i+1))else dm l i
  |none=>dm l i
def FY{l:List Nd}{i:Nat}{x:Nd}{s:Sm}(hx:x.ok=true)(hs:0<=s.L'/\s.L'<=1099511627777):(pf l i x s).L'=min (s.L'+Q7 x) 1099511627777/\(pf l i x s).pieces=s.pieces+pof x/\
 (pf l i x s).depth=(if x.kind=1 then max s.depth (jx l i (i+1))else s.depth)/\(pf l i x s).nodes=s.nodes:=by
 obtain⟨p1,p2,p3,p4,p5,p6⟩:=kD hx;unfold pf Q7 pof;by_cases hk:x.kind=1
 .obtain⟨q1,q2,q3,q4,q5⟩:=p6 hk;simp only[hk,if_true,j7];refine⟨by omega,by omega,trivial,trivial⟩
 .by_cases SF:x.kind=2
  .rw[aH hk,aE SF,aH hk,aE SF,aH hk,aE SF,aH hk];simp only[];refine⟨te hs p2 _,trivial,trivial,trivial⟩
  .rw[aH hk,aH SF,aH hk,aH SF,aH hk,aH SF,aH hk];exact⟨rfl,rfl,rfl,rfl⟩
def vH(l:List Nd)(P5:l.all Nd.ok=true):∀i,i<=l.length->(ik l ⟨0,0,l.length,0⟩ i)=⟨dm l i,lC (l.take i),l.length,min (jA (l.take i)) 1099511627777⟩
 |0,_=>by simp[ik,dm,lC,jA];omega
 |i+1,hi=>by
  have ih:=vH l P5 i (by omega);have hg:l[i]?=some l[i]:=by simp[show i<l.length by omega]
  have hx:=fv.1 P5 _ (QL (show i<l.length by omega));have ht:l.take (i+1)=l.take i++[l[i]]:=Tp (by omega);have hn:0<=jA (l.take i):=zp (fv.2 λx hx=>fv.1 P5 x (qL hx));have hh:=tP hx;simp only[ik,hg,ih];obtain⟨g1,g2,g3,g4⟩:=FY (l:=l) (i:=i) (s:=⟨dm l i,lC (l.take i),l.length,min (jA (l.take i)) 1099511627777⟩) hx ⟨by simp only;omega,by simp only;omega⟩;generalize pf l i l[i] ⟨dm l i,lC (l.take i),l.length,min (jA (l.take i)) 1099511627777⟩=r at*;obtain⟨r1,r2,r3,r4⟩:=r;simp only at g1 g2 g3 g4;subst g1 g2 g3 g4;simp only[dm,hg,ht,Ae,Ad,lC,jA,Sm.mk.injEq,Int.add_zero,true_and];omega
open Go.Proofs Go.Proofs.Tryz
def V.flat:V->Bool
 |.agg vs=>vs.all V.lone
 |v=>v.lone
def V.C5:V->Bool
 |.PN vs=>vs.all V.flat
 |v=>v.flat
def ax.lone{I Y':Mu}{ow R9:Nat->Prop}{w w':World}:∀{vs:List V} {l:List Value},vs.all V.lone=true->ax I ow w vs l->ax Y' R9 w' vs l
 |[],l,_,h=>by simpa[ax]using h
 |v::vs,l,hv,h=>by
  simp only[yD,Ba]at hv;simp only[ax]at h|-;obtain⟨x,xs,rfl,h1,h2⟩:=h;exact⟨x,xs,rfl,E'.lone hv.1 h1,ax.lone hv.2 h2⟩
def E'.flat{I Y':Mu}{ow R9:Nat->Prop}{w w':World}{v:V}{x:Value}(hv:v.flat=true)(h:E' I ow w v x):E' Y' R9 w' v x:=by
 cases v<;>try exact E'.lone hv h
 rename_i vs;simp only[E']at h|-;obtain⟨PO,rfl,h1,h2⟩:=h;exact⟨PO,rfl,ax.lone hv h1,h2⟩
def ax.flat{I Y':Mu}{ow R9:Nat->Prop}{w w':World}:∀{vs:List V} {l:List Value},vs.all V.flat=true->ax I ow w vs l->ax Y' R9 w' vs l
 |[],l,_,h=>by simpa[ax]using h
 |v::vs,l,hv,h=>by
  simp only[yD,Ba]at hv;simp only[ax]at h|-;obtain⟨x,xs,rfl,h1,h2⟩:=h;exact⟨x,xs,rfl,E'.flat hv.1 h1,ax.flat hv.2 h2⟩
def E'.C5{I Y':Mu}{ow R9:Nat->Prop}{w w':World}{v:V}{x:Value}(hv:v.C5=true)(h:E' I ow w v x):E' Y' R9 w' v x:=by
 cases v<;>try exact E'.flat hv h
 rename_i vs;simp only[E']at h|-;obtain⟨PO,rfl,h1⟩:=h;exact⟨PO,rfl,ax.flat hv h1⟩
def bb.A3{P:Program}{f:FuncId}{args args':List V}{v:V}{U:ag}(hw:Yg U lB args args')(h:bb P f args' v)(hv:v.C5=true):
 aB P f args U λr Z'=>r=v/\Z'=U:=by
 refine⟨(h lB).1,?_⟩;intro I w PO hs hr;have QP:Sat w (aI I lB) I lB w:=by
  have:=hs.drop (pJ U);exact⟨Qt _,rfl,rfl,rfl,λ_ _ _=>rfl,this.fin,this.inj,this.obj,λb hb _=>hb,this.pj⟩
 refine((h lB).2 I w PO QP (Yg.all hs hw hr)).mono ?_;rintro e w' ⟨r,Z',Y',val,rfl,⟨rfl,rfl⟩,hle,PZ,Rc⟩;have Qr:∀b,¬aI I lB b:=λb ⟨_,_,_,_,h,_⟩=>by simp[lB]at h
 have RV:∀b,b<w.heap.size->w'.heap[b]?=w.heap[b]?:=λb hb=>PZ.same b hb (Qr b);have SN:∀id o,U id=some o->Y' id=I id:=λid o ho=>hle id (λe=>by
  have:=hs.obj id o ho;rw[e]at this;exact this)
 have YM:∀b,aI Y' U b->aI I U b:=λb ⟨id,o,sz,cap,h1,h2⟩=>⟨id,o,sz,cap,h1,SN id o h1▸h2⟩
 have hk:dg (aI I U) (aI Y' U) w w':=λb hb hn=>⟨λho=>hn (YM b ho),RV b hb⟩
 refine⟨_,U,Y',val,rfl,⟨rfl,rfl⟩,hle,?_,E'.C5 hv Rc⟩;refine⟨PZ.size,PZ.os,PZ.tape,PZ.output,λb hb _=>RV b hb,PZ.fin,?_,?_,λb hb _=>YM b hb,hs.SD⟩
 .intro id Sq o o' b sz cap SC Rl h1 h2 h3 h4;exact hs.inj id Sq o o' b sz cap SC Rl h1 h2 (SN id o h1▸h3) (SN Sq o' h2▸h4)
 .intro id o ho;rw[SN id o ho];refine(hs.obj id o ho).mono hle hk PZ.size λb sz cap hp=>RV b ?_;exact aI.lt hs ⟨id,o,sz,cap,ho,hp⟩
open Go.Proofs Go.Proofs.Tryz
def dB{l:List Nd}{a e:Nat}(he:e<=l.length)(h:cJ l a e=true){k:Nat}(h1:a<=k)(h2:k<e):(k:Int)+Qn l k<=e/\1<=Qn l k:=by
 have:=jg l (e-a+1) a e (by omega) he h k h1 h2 (by omega);rw[mu (by omega)];omega
def er{l:List Nd}{a e:Nat}(he:e<=l.length)(h:cJ l a e=true)(Vz:a<e):cJ l (a+(Qn l a).toNat) e=true/\cJ l (a+1) (a+(Qn l a).toNat)=true:=by
 have ha:a<l.length:=by omega
 rw[cJ,dif_pos Vz]at h;simp only[Tq ha]at h;rw[mu ha];split at h
 .simp only[Ba]at h;exact⟨h.2,h.1.2⟩
 .cases h
open Go.Proofs Go.Proofs.Tryz
def BL(l:List Nd)(hl:ed l)(hb:Qy l=true):bb prog 110 [aQ l] (.agg [aQ l]):=λU=>by
 refine OL.r (by simp[JS]) ?_;refine ae.mix 3 ?_;apply sR;simp only[go_sem,seval,JS];refine ad λU0 Z1 s1 a2 f2=>?_;simp only[go_sem,seval,a2];refine ae.aC rfl rfl rfl (Cp l hl _) ?_;apply sR;simp only[go_sem,seval,hb,a2,aQ];refine av.pure (s1.aD f2) rfl
def Jk(l:List Nd)(a:Int):bb prog 134 [aQ l,vI a] (.bool (wb l a)):=λU=>by
 refine Pp.r (by simp[KG]) ?_;refine ae.mix 6 ?_;apply sR;simp only[go_sem,seval,aN,aV,KG,fe];refine And.intro (λh=>?_) (λh=>?_)
 .refine av.same ?_;simp[wb];omega
 .refine av.same ?_;simp[wb];omega
def xq(l:List Nd)(hl:ed l)(hb:Qy l=true)(a:Nat)(ha:a<l.length):bb prog 135 [aQ l,vI a] (vI (eT l a)):=λU=>by
 have hl1:=hl.1;refine NF.r (by simp[KJ]) ?_;refine ae.mix 6 ?_;apply sR;simp only[go_sem,seval,aN,aV,KJ];refine⟨ar,?_⟩;refine ae.loop (λm st=>∃(k:Nat),k<=a/\m=k/\eT l a=sZ l a k/\st.U=U/\st.s 0=aQ l/\st.s 1=vI a/\st.s 5=vI ((k:Int)-1)) a ?_ ?_
 .exact⟨a,by omega,rfl,rfl,rfl,rfl,rfl,rfl⟩
 .rintro m ⟨s,Z'⟩ ⟨k,hk,rfl,heq,Qj,h0,h1,h5⟩;simp only at Qj h0 h1 h5;subst Qj;refine ae.mix 6 ?_;apply sR;simp only[go_sem,seval,aN,aV,h0,h1,h5];refine And.intro (λh=>?_) (λh=>?_)
  .obtain⟨k,rfl⟩:∃j,m=j+1:=⟨m-1,by omega⟩
   have e1:((k+1:Nat):Int)-1=k:=by omega
   have H':k<l.length:=by omega
   have RS:=rz hb H';have hse:=mu H';have hx:=mQ (U:=Z') H';simp only[go_sem,seval,aN,aV,e1,hx,Nd.cells,h0,h1,h5];rw[<-hse];refine⟨ar,And.intro (λhc=>?_) (λhc=>?_)⟩
   .refine av.same ?_;rw[heq,sZ,aE];simp only[iL,Ba,Sp,wb];simp;omega
   .refine⟨ar,_,?_,k,by omega,rfl,?_,rfl⟩
    .omega
    .rw[heq,sZ,aH];simp only[iL,Ba,Sp,wb];simp;omega
  .have TK:m=0:=by omega
   subst TK;refine av.same ?_;rw[heq];rfl
end Go.Vc
