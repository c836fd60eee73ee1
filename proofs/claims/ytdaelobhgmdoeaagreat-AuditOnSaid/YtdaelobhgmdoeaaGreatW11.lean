/- Part 11 of the library of this proof. -/
import Derived.Test.YtdaelobhgmdoeaaGreatW10
set_option linter.all false
set_option maxHeartbeats 8000000
set_option maxRecDepth 100000
namespace Go.Vc
open Go.RowKit
variable {P:Program} {n:Nat} {st:St} {Q:St->Prop} {k:List It} {I:Mu} {w:World}
def I1(c:IntKind)(m:Int):Value->Bool
 |.int c' m'=>decide (c'=c/\m'=m)
 |_=>false
def j6{c:IntKind}{m m':Int}:I1 c m (.int c m')=decide (m'=m):=by simp[I1]
def fF(c:IntKind)(m:Int):List MapEntry->List V->Option V
 |e::es,v::vs=>if I1 c m e.key then some v else fF c m es vs
 |_,_=>none
structure oD(c:IntKind)(es:List MapEntry)(env:List V)(f:Int->Option V):Prop where
 len:es.length=env.length
 keys:∀e∈es,∃m,e.key=.int c m
 get:∀m,fF c m es env=f m
 apart:es.Pairwise λa b=>a.key≠b.key
def l6(c:IntKind)(U:af)(id:Nat)(f:Int->Option V):Prop:=
 ∃(es:Array MapEntry) (clock:Nat) (env:List V),U id=some (gh (.map es clock) env)/\oD c es.toList env f
def l6.sub{c:IntKind}{U Z':af}{id:Nat}{f:Int->Option V}(h:l6 c U id f)(hs:aa U Z'):l6 c Z' id f:=by
 obtain⟨es,clock,env,h1,h2⟩:=h;exact⟨es,clock,env,hs _ _ h1,h2⟩
def l6.ne{c:IntKind}{U:af}{id j:Nat}{f:Int->Option V}{e:TypeId}{sz:Nat}{rows:List V}(h:l6 c U id f)(hj:U j=some ⟨e,sz,rows⟩)(hz:sz≠0):j≠id:=by
 rintro rfl;obtain⟨es,clock,env,h1,_⟩:=h;rw[h1]at hj;simp only[gh,aB,Ob.mk.injEq]at hj;exact hz hj.2.1.symm
def xp(c:IntKind)(kk:IntKind)(m:Int):∀(es:List MapEntry) (env:List V) (i:Nat),es.length=env.length->(∀e∈es,∃m,e.key=.int c m)->
 (fF c m es env=none/\Instr.findNow (.int kk) (.int c m) es i=some none/\∀e∈es,e.key≠.int c m)\/
 (∃j e v,es[j]?=some e/\env[j]?=some v/\e.key=.int c m/\fF c m es env=some v/\Instr.findNow (.int kk) (.int c m) es i=some (some (i+j,e.val)))
 |[],env,i,_,_=>.inl ⟨by simp[fF],by simp[Instr.findNow],by simp⟩
 |e::es,[],i,hl,_=>by simp at hl
 |e::es,v::vs,i,hl,hk=>by
  obtain⟨m',hm'⟩:=hk e (by simp);by_cases hm:m'=m
  .subst hm;refine .inr ⟨0,e,v,rfl,rfl,hm',by simp[fF,hm',j6],?_⟩;simp[Instr.findNow,Instr.sameNow,hm']
  .have hmm:¬m=m':=λe=>hm e.symm;have hg:fF c m (e::es) (v::vs)=fF c m es vs:=by simp[fF,hm',j6,hm]
   have hf:Instr.findNow (.int kk) (.int c m) (e::es) i=Instr.findNow (.int kk) (.int c m) es (i+1):=by
    have hb:(m==m')=false:=by simpa using hmm
    simp[Instr.findNow,Instr.sameNow,hm',hb]
   rcases xp c kk m es vs (i+1) (by simpa using hl) (λx hx=>hk x (by simp[hx]))with⟨h1,h2,h3⟩|⟨j,e',v',h1,h2,h3,h4,h5⟩
   .refine .inl ⟨by rw[hg,h1],by rw[hf,h2],λx hx=>?_⟩;rcases cg.1 hx with rfl|hx
    .rw[hm'];intro e;cases e;exact hm rfl
    .exact h3 x hx
   .refine .inr ⟨j+1,e',v',by simpa using h1,by simpa using h2,h3,by rw[hg,h4],?_⟩;rw[hf,h5,show i+1+j=i+(j+1) by omega]
def vx{c:IntKind}{m:Int}{v:V}{e':MapEntry}(he':e'.key=.int c m)(m':Int):∀(es:List MapEntry) (env:List V) (j:Nat) (e:MapEntry),es.length=env.length->(∀e∈es,∃m,e.key=.int c m)->
 es.Pairwise (λa b=>a.key≠b.key)->es[j]?=some e->e.key=.int c m->fF c m' (es.set j e') (env.set j v)=if m'=m then some v else fF c m' es env
 |[],_,j,e,_,_,_,h,_=>by simp at h
 |x::es,[],j,e,hl,_,_,_,_=>by simp at hl
 |x::es,u::us,0,e,hl,hk,hp,h,he=>by
  simp at h;subst h;simp only[List.set_cons_zero,fF,he',he,j6];by_cases hm:m'=m
  .subst hm;simp
  .have:¬m=m':=λe=>hm e.symm;simp[hm,this]
 |x::es,u::us,j+1,e,hl,hk,hp,h,he=>by
  obtain⟨mx,hmx⟩:=hk x (by simp);have hpx:=(List.pairwise_cons.1 hp)
  have YA:mx≠m:=by
   rintro rfl;exact hpx.1 e (vM (by simpa using h)) (by rw[hmx,he])
  have ih:=vx he' m' (v:=v) es us j e (by simpa using hl) (λy hy=>hk y (by simp[hy])) hpx.2 (by simpa using h) he;simp only[List.set_cons_succ,fF,hmx,j6];by_cases hm:mx=m'
  .have:¬m'=m:=λe=>YA (hm.trans e);simp[hm,this]
  .simp only[hm,decide_false,eQ,if_false];exact ih
def tC{c:IntKind}{m:Int}{v:V}{e':MapEntry}(he':e'.key=.int c m)(m':Int):∀(es:List MapEntry) (env:List V),es.length=env.length->(∀e∈es,∃m,e.key=.int c m)->
 (∀e∈es,e.key≠.int c m)->fF c m' (es++[e']) (env++[v])=if m'=m then some v else fF c m' es env
 |[],[],_,_,_=>by
  simp only[kA,fF,he',j6];by_cases hm:m'=m
  .subst hm;simp
  .have:¬m=m':=λe=>hm e.symm;simp[hm,this]
 |[],_::_,hl,_,_=>by simp at hl
 |x::es,[],hl,_,_=>by simp at hl
 |x::es,u::us,hl,hk,hn=>by
  obtain⟨mx,hmx⟩:=hk x (by simp);have YA:mx≠m:=by
   rintro rfl;exact hn x (by simp) hmx
  have ih:=tC he' m' (v:=v) es us (by simpa using hl) (λy hy=>hk y (by simp[hy])) (λy hy=>hn y (by simp[hy]));simp only[List.cons_append,fF,hmx,j6];by_cases hm:mx=m'
  .have:¬m'=m:=λe=>YA (hm.trans e);simp[hm,this]
  .simp only[hm,decide_false,eQ,if_false];exact ih
def oD.set{c:IntKind}{es:List MapEntry}{env:List V}{f:Int->Option V}(h:oD c es env f){m:Int}{v:V}{j:Nat}{e e':MapEntry}(hj:es[j]?=some e)(he:e.key=.int c m)(he':e'.key=.int c m):
 oD c (es.set j e') (env.set j v) λm'=>if m'=m then some v else f m' where
 len:=by simp[h.len]
 keys:=λx hx=>by
  rcases List.mem_or_eq_of_mem_set hx with hx|rfl
  .exact h.keys x hx
  .exact⟨m,he'⟩
 get:=λm'=>by rw[vx he' m' es env j e h.len h.keys h.apart hj he,h.get m']
 apart:=by
  have hmap:(es.set j e').map (·.key)=es.map (·.key):=by
   rw[List.map_set,he',<-he];apply List.ext_getElem?;intro i;rw[List.getElem?_set];split
   .rename_i e1;subst e1;split
    .simp[hj]
    .rename_i hge;rw[rO (by omega)]
   .rfl
  have h1:(es.map (·.key)).Pairwise (·≠·):=List.pairwise_map.2 h.apart;rw[<-hmap]at h1;exact List.pairwise_map.1 h1
def oD.push{c:IntKind}{es:List MapEntry}{env:List V}{f:Int->Option V}(h:oD c es env f){m:Int}{v:V}{e':MapEntry}(hn:∀e∈es,e.key≠.int c m)(he':e'.key=.int c m):
 oD c (es++[e']) (env++[v]) λm'=>if m'=m then some v else f m' where
 len:=by simp[h.len]
 keys:=λx hx=>by
  rcases dc.1 hx with hx|hx
  .exact h.keys x hx
  .simp at hx;subst hx;exact⟨m,he'⟩
 get:=λm'=>by rw[tC he' m' es env h.len h.keys hn,h.get m']
 apart:=by
  rw[List.pairwise_append];refine⟨h.apart,by simp,λa ha b hb=>?_⟩;simp at hb;subst hb;rw[he'];exact hn a ha
open Go.RowKit
variable {P:Program} {n:Nat} {st:St} {Q:St->Prop} {k:List It} {I:Mu} {w:World}
def yQ{t e:TypeId}(h:Dk P t=some e):∃kt kk,P.underlying t=some (.map kt e)/\P.underlying kt=some (.int kk):=by
 unfold Dk at h;split at h
 .rename_i kt et ht;split at h
  .rename_i kk hk;simp only[aB]at h;subst h;exact⟨kt,kk,ht,hk⟩
  .cases h
 .cases h
def HR{o:Op}{xs:List VX}(h:Yh P n o=.more .mkMap xs):∃t,o=.makeMap t none/\xs=[]:=by
 cases o
 case makeMap t r=>
  simp only[Yh]at h;split at h
  .rename_i hc;simp only[Ba,Option.isNone_iff_eq_none]at hc;obtain⟨rfl,_⟩:=hc;simp only[Yq.more.injEq,true_and]at h;exact⟨t,rfl,h.symm⟩
  .cases h
 case call c=>
  obtain⟨callee,args,argTypes⟩:=c;cases callee
  case value=>simp[Yh]at h
  case invoke r name=>simp[Yh]at h
  case builtin b=>cases b<;>(simp only[Yh]at h;(repeat' split at h)<;>cases h)
 case unOp op t x=>cases op<;>simp only[Yh]at h<;>cases h
 case makeFunc f a b=>cases f<;>simp only[Yh]at h<;>(repeat' split at h)<;>cases h
 all_goals (simp only[Yh,jk]at h;(repeat' split at h)<;>cases h)
def IH{o:Op}{xs:List VX}(h:Yh P n o=.more .HU xs):∃t m y x,(o=.insert t m y x\/o=.mapUpdate t m y x)/\(Dk P t).isSome=true/\xs=[cx n m,cx n y,cx n x]:=by
 cases o
 case insert t m y x=>
  simp only[Yh]at h;split at h
  .rename_i hc;simp only[Yq.more.injEq,true_and]at h;exact⟨t,m,y,x,.inl rfl,hc,h.symm⟩
  .cases h
 case mapUpdate t m y x=>
  simp only[Yh]at h;split at h
  .rename_i hc;simp only[Yq.more.injEq,true_and]at h;exact⟨t,m,y,x,.inr rfl,hc,h.symm⟩
  .cases h
 case call c=>
  obtain⟨callee,args,argTypes⟩:=c;cases callee
  case value=>simp[Yh]at h
  case invoke r name=>simp[Yh]at h
  case builtin b=>cases b<;>(simp only[Yh]at h;(repeat' split at h)<;>cases h)
 case unOp op t x=>cases op<;>simp only[Yh]at h<;>cases h
 case makeFunc f a b=>cases f<;>simp only[Yh]at h<;>(repeat' split at h)<;>cases h
 all_goals (simp only[Yh,jk]at h;(repeat' split at h)<;>cases h)
def GN{o:Op}{xs:List VX}{ok:Bool}{zv:V}(h:Yh P n o=.more (.tJ ok zv) xs):∃t x y e i z,o=.lookup t x y ok/\Dk P t=some e/\zeroOf P e=some (i,z)/\zv=ofValue z/\xs=[cx n x,cx n y]:=by
 cases o
 case lookup t x y ok'=>
  simp only[Yh]at h;split at h
  .rename_i e he;split at h
   .rename_i i z hz;simp only[Yq.more.injEq,MOp.tJ.injEq]at h;obtain⟨⟨rfl,rfl⟩,rfl⟩:=h;exact⟨t,x,y,e,i,z,rfl,he,hz,rfl,rfl⟩
   .cases h
  .cases h
 case call c=>
  obtain⟨callee,args,argTypes⟩:=c;cases callee
  case value=>simp[Yh]at h
  case invoke r name=>simp[Yh]at h
  case builtin b=>cases b<;>(simp only[Yh]at h;(repeat' split at h)<;>cases h)
 case unOp op t x=>cases op<;>simp only[Yh]at h<;>cases h
 case makeFunc f a b=>cases f<;>simp only[Yh]at h<;>(repeat' split at h)<;>cases h
 all_goals (simp only[Yh,jk]at h;(repeat' split at h)<;>cases h)
def qL{b:Nat}{es:Array MapEntry}{c:Nat}(h:w.heap[b]?=some (.map es c)):(getObj b).run P w=.ok (.map es c) w:=by simp[getObj,Sem.run,h]
def A5{b:Nat}{es:Array MapEntry}{c:Nat}(o':Obj)(h:w.heap[b]?=some (.map es c)):(setObj b o').run P w=.ok () (w.putObj b o'):=by simp[setObj,Sem.run,h,World.putObj]
def mE{em:Bool}{t:TypeId}{kk c:IntKind}{m:Int}(h:P.underlying t=some (.int kk)):(Instr.checkKey em 10000 t (.int c m)).run P w=.ok () w:=by
 show(Instr.checkKey em (9999+1) t (.int c m)).run P w=.ok () w;rw[Instr.checkKey];simp[run_underlying h]
def pk{t:TypeId}{kk c:IntKind}{m:Int}(h:P.underlying t=some (.int kk)){es:List MapEntry}{r:Option (Nat×Value)}(hf:Instr.findNow (.int kk) (.int c m) es 0=some r):
 (Instr.findKey t (.int c m) es).run P w=.ok r w:=by
 simp[Instr.findKey,run_underlying h,hf]
def zN{c:IntKind}{m:Int}:(Instr.keyThatStays (.int c m) (.int c m)).run P w=.ok (.int c m) w:=by
 have:Instr.sameBits 10000 (.int c m) (.int c m)=true:=by
  show Instr.sameBits (9999+1) (.int c m) (.int c m)=true;simp[Instr.sameBits]
 simp[Instr.keyThatStays,this]
def al.set{ow:Nat->Prop}:∀{vs:List V} {l:List Value} {v:V} {x:Value} (j:Nat),al I ow w vs l->E' I ow w v x->al I ow w (vs.set j v) (l.set j x)
 |[],l,v,x,j,h,hv=>by simp only[al]at h;subst h;simp[al]
 |u::us,l,v,x,0,h,hv=>by
  simp only[al]at h;obtain⟨y,ys,rfl,h1,h2⟩:=h;simp only[List.set_cons_zero,al];exact⟨x,ys,rfl,hv,h2⟩
 |u::us,l,v,x,j+1,h,hv=>by
  simp only[al]at h;obtain⟨y,ys,rfl,h1,h2⟩:=h;simp only[List.set_cons_succ,al];exact⟨y,_,rfl,h1,al.set j h2 hv⟩
def ab.mkMap{i:az}{l:List az}{xs:List VX}(hw:aQ st.s i.g=some true)(ho:i.op=.more .mkMap xs)
 (h:∀id,st.U id=none->ab P n (.ops l::k) ⟨aO st.s i.dst (.mp id),C' st.U id (gh (.map #[] 0) [])⟩ Q):ab P n (.ops (i::l)::k) st Q:=by
 refine ab.ins (by rw[ho];simp) hw λF hn I a w o all hi hs next Q' X7=>?_
 subst hn;obtain⟨X9,hd⟩:=bZ hi;rw[ho]at X9;obtain⟨t,h1,_⟩:=HR X9;obtain⟨id,O',Y',g1,g2,g3,g4⟩:=hs.sat.Uc (.map #[] 0) [] (by simp[al,tmpsOf]);have Yw:(execOp a.eval o).run P w=.ok (.value (.map (some w.heap.size))) (w.alloc (.map #[] 0)):=by
  unfold execOp;rw[h1];simp[Instr.makeMap]
  all_goals rfl
 unfold Oper.wp;rw[Yw];refine X7 _ _ _ ⟨Y',?_⟩ (h id O');rw[<-hd];exact hs.step g3 g2 g4 (by simp) (by simp[E',g1])
def I8{i:az}{xm xk:VX}{ok:Bool}{zv:V}(ho:i.op=.more (.tJ ok zv) [xm,xk]){id:Nat}{c:IntKind}{f:Int->Option V}{m:Int}
 (hm:xm.ev st.s=.mp id)(hmap:l6 c st.U id f)(hk:xk.ev st.s=.int c m){K:St->Prop}
 (h:K ⟨aO st.s i.dst (if ok then .P' [(f m).getD zv,.bool (f m).isSome]else(f m).getD zv),st.U⟩):
 ∀(F:Fr),F.n=n->∀(I:Mu) (a:Act) (w:World) (o:Oper) (all:Array Oper),bI P n all o=i->cI F I st a w->
  ∀(next:Act->World->Prop) (Q':Exit->Act->World->Prop),(∀YW a' w',ee F YW a' w'->K YW->next a' w')->o.wp P a w next Q':=by
 intro F hn I a w o all hi hs next Q' X7
 subst hn;obtain⟨X9,hd⟩:=bZ hi;rw[ho]at X9;obtain⟨t,x,y,e,ti,z,g1,g2,g3,rfl,g4⟩:=GN X9;simp only[List.cons.injEq,and_true]at g4;obtain⟨rfl,rfl⟩:=g4;obtain⟨kt,kk,u1,u2⟩:=yQ g2;obtain⟨es,clock,env,YF,hrel⟩:=hmap;have hr:=bH hs x;have hrk:=bH hs y;rw[hm]at hr;rw[hk]at hrk;simp only[E']at hr hrk;split at hr
 .rename_i b cap O';obtain⟨YV,henv⟩:=hs.sat.No YF O';simp only[tmpsOf]at henv;rcases xp c kk m es.toList env 0 hrel.len hrel.keys with⟨q1,q2,q3⟩|⟨j,en,v,q1,q2,q3,q4,q5⟩
  .rw[hrel.get m]at q1;rw[q1]at h;have Yw:(Instr.lookup t (a.eval x) (a.eval y) ok).run P w=.ok (if ok then .tuple #[z,.bool false]else z) w:=by
    simp[Instr.lookup,run_underlying u1,hr,hrk,qL YV,mE u2,pk u2 q2,eo g3]
   have hx:(execOp a.eval o).run P w=.ok (.value (if ok then .tuple #[z,.bool false]else z)) w:=by
    unfold execOp;rw[g1];simp[Yw]
   unfold Oper.wp;rw[hx];refine X7 _ _ _ ⟨I,?_⟩ h;rw[<-hd];have hz:E' I (aA I st.U) w (ofValue z) z:=ov z;refine hs.pure ?_;cases ok
   .simpa using hz
   .simp only[if_true,Option.getD_none,Option.isSome_none,E'];exact⟨_,rfl,by simp only[al,E'];exact⟨_,_,rfl,hz,_,_,rfl,rfl,rfl⟩⟩
  .rw[hrel.get m]at q4;rw[q4]at h;rw[gY]at q5;have hv:E' I (aA I st.U) w v en.val:=by
    obtain⟨x',YD,hrx⟩:=henv.get q2;rw[qJ,q1]at YD;simp at YD;subst YD;exact hrx
   have Yw:(Instr.lookup t (a.eval x) (a.eval y) ok).run P w=.ok (if ok then .tuple #[en.val,.bool true]else en.val) w:=by
    simp[Instr.lookup,run_underlying u1,hr,hrk,qL YV,mE u2,pk u2 q5]
   have hx:(execOp a.eval o).run P w=.ok (.value (if ok then .tuple #[en.val,.bool true]else en.val)) w:=by
    unfold execOp;rw[g1];simp[Yw]
   unfold Oper.wp;rw[hx];refine X7 _ _ _ ⟨I,?_⟩ h;rw[<-hd];refine hs.pure ?_;cases ok
   .simpa using hv
   .simp only[if_true,Option.getD_some,Option.isSome_some,E'];exact⟨_,rfl,by simp only[al,E'];exact⟨_,_,rfl,hv,_,_,rfl,rfl,rfl⟩⟩
 .exact hr.elim
open Go.RowKit
variable {P:Program} {n:Nat} {st:St} {Q:St->Prop} {k:List It} {I:Mu} {w:World}
def qv{α:Type}{f:α->α}:∀(l:List α) (j:Nat) (x:α),l[j]?=some x->l.modify j f=l.set j (f x)
 |[],j,x,h=>by simp at h
 |y::l,0,x,h=>by simp at h;subst h;rfl
 |y::l,j+1,x,h=>by
  have:=qv (f:=f) l j x (by simpa using h);rw[List.modify_succ_cons,List.set_cons_succ,this]
def LA{i:az}{xm xk xv:VX}(ho:i.op=.more .HU [xm,xk,xv]){id:Nat}{c:IntKind}{f:Int->Option V}{m:Int}{v:V}
 (hm:xm.ev st.s=.mp id)(hmap:l6 c st.U id f)(hk:xk.ev st.s=.int c m)(hv:xv.ev st.s=v){K:St->Prop}
 (h:∀ob:Ob,ob.sz=0->l6 c (C' st.U id ob) id (λm'=>if m'=m then some v else f m')->K ⟨aO st.s i.dst (.P' []),C' st.U id ob⟩):
 ∀(F:Fr),F.n=n->∀(I:Mu) (a:Act) (w:World) (o:Oper) (all:Array Oper),bI P n all o=i->cI F I st a w->
  ∀(next:Act->World->Prop) (Q':Exit->Act->World->Prop),(∀YW a' w',ee F YW a' w'->K YW->next a' w')->o.wp P a w next Q':=by
 intro F hn I a w o all hi hs next Q' X7
 subst hn;obtain⟨X9,hd⟩:=bZ hi;rw[ho]at X9;obtain⟨t,x,y,z,g1,g2,g4⟩:=IH X9;simp only[List.cons.injEq,and_true]at g4;obtain⟨rfl,rfl,rfl⟩:=g4;obtain⟨e,he⟩:=Option.isSome_iff_exists.1 g2;obtain⟨kt,kk,u1,u2⟩:=yQ he;obtain⟨es,clock,env,YF,hrel⟩:=hmap;have hr:=bH hs x;have hrk:=bH hs y;have hrv:=bH hs z;rw[hm]at hr;rw[hk]at hrk;rw[hv]at hrv;simp only[E']at hr hrk;split at hr
 .rename_i b cap O';obtain⟨YV,henv⟩:=hs.sat.No YF O';simp only[tmpsOf]at henv;have Zg:∀(o':Obj) (env':List V),(∀es' clock',o'=.map es' clock'->oD c es'.toList env' (λm'=>if m'=m then some v else f m'))->(∃es' clock',o'=.map es' clock')->al I (aA I st.U) w env' (tmpsOf o')->
   (Instr.mapUpdate t (a.eval x) (a.eval y) (a.eval z)).run P w=.ok () (w.putObj b o')->o.wp P a w next Q':=by
   intro o' env' hmr hmap' hrep Yw;have hx:(execOp a.eval o).run P w=.ok .skip (w.putObj b o'):=by
    unfold execOp;rcases g1 with g1|g1<;>(rw[g1];simp[Yw])
   have hset:=hs.sat.Uj YF O' o' env' hrep;obtain⟨es',clock',rfl⟩:=hmap';unfold Oper.wp;rw[hx];refine X7 _ _ _ ⟨I,?_⟩ (h (gh (.map es' clock') env') rfl ⟨es',clock',env',ag,hmr _ _ rfl⟩);rw[<-hd];exact hs.step hset.1 (cC.refl _) hset.2 (by simp) (by simp only[E'];exact⟨[],rfl,by simp[al]⟩)
  rcases xp c kk m es.toList env 0 hrel.len hrel.keys with⟨q1,q2,q3⟩|⟨j,en,v0,q1,q2,q3,q4,q5⟩
  .refine Zg (.map (es.push { key:=.int c m,val:=a.eval z,born:=clock }) (clock+1)) (env++[v]) (λes' clock' e=>?_) ⟨_,_,rfl⟩ ?_ ?_
   .cases e;rw[Array.toList_push];exact hrel.push q3 rfl
   .simp only[tmpsOf,Array.toList_push,gl,dS,List.map_nil];exact henv.append (by simp only[al];exact⟨_,_,rfl,hrv,rfl⟩)
   .simp[Instr.mapUpdate,run_underlying u1,hr,hrk,qL YV,mE u2,pk u2 q2,A5 _ YV]
  .rw[gY]at q5;refine Zg (.map (es.modify j λe=>{ e with key:=.int c m,val:=a.eval z }) clock) (env.set j v) (λes' clock' e=>?_) ⟨_,_,rfl⟩ ?_ ?_
   .cases e;have hl:(es.modify j λe=>{ e with key:=.int c m,val:=a.eval z }).toList=es.toList.set j { en with key:=.int c m,val:=a.eval z }:=by
     rw[Array.toList_modify,qv _ _ _ q1]
    rw[hl];exact hrel.set q1 q3 rfl
   .have hl:(es.modify j λe=>{ e with key:=.int c m,val:=a.eval z }).toList=es.toList.set j { en with key:=.int c m,val:=a.eval z }:=by
     rw[Array.toList_modify,qv _ _ _ q1]
    simp only[tmpsOf,hl,List.map_set];exact al.set j henv hrv
   .have hkey:((es[j]?).map (·.key)).getD (.int c m)=.int c m:=by
     rw[<-Array.getElem?_toList,q1];simp[q3]
    simp[Instr.mapUpdate,run_underlying u1,hr,hrk,qL YV,mE u2,pk u2 q5,A5 _ YV,hkey,zN]
 .exact hr.elim
open Go.RowKit
variable {P:Program} {n:Nat} {st:St} {Q:St->Prop} {k:List It}
def TS(P:Program)(n:Nat)(i:az)(x:St)(K:St->Prop):Prop:=i.op≠.bad/\aQ x.s i.g=some true/\
 ∀(F:Fr),F.n=n->∀(I:Mu) (a:Act) (w:World) (o:Oper) (all:Array Oper),bI P n all o=i->cI F I x a w->
  ∀(next:Act->World->Prop) (Q':Exit->Act->World->Prop),(∀YW a' w',ee F YW a' w'->K YW->next a' w')->o.wp P a w next Q'
def XT(P:Program)(n:Nat)(sp:List Nat)(m:Nat)(i:az)(x:St)(K:St->Prop):Prop:=T P i x K\/m∈sp/\TS P n i x K
variable {sp:List Nat}
def XT.mono{m:Nat}{i:az}{x:St}{K K':St->Prop}(hk:∀x,K x->K' x)(h:XT P n sp m i x K):XT P n sp m i x K':=by
 rcases h with h|⟨h1,h2,h3,h4⟩
 .exact .inl (h.mono hk)
 .exact .inr ⟨h1,h2,h3,λF hn I a w o all hi hs next Q' X7=>h4 F hn I a w o all hi hs next Q' λYW a' w' Ye hq=>X7 _ _ _ Ye (hk _ hq)⟩
def XT.inf{m:Nat}{i:az}{x:St}{K:St->Prop}(hi:Inf x.U)(h:XT P n sp m i x K):XT P n sp m i x λx'=>Inf x'.U/\K x':=by
 rcases h with h|⟨h1,h2,h3,h4⟩
 .exact .inl (h.inf hi)
 .exact .inr ⟨h1,h2,h3,λF hn I a w o all hi hs next Q' X7=>h4 F hn I a w o all hi hs next Q' λYW a' w' Ye hq=>X7 _ _ _ Ye ⟨Ye.inf,hq⟩⟩
def chB(l:List az):Nat->Nat->Nat->Bool
 |0,_,_=>false
 |f+1,i,j=>match l[i]?,l[j]? with
  |some a,some b=>!iD a b||(List.range l.length).any λk=>decide (i<k)&&(decide (k<j)&&((match l[k]? with
   |some c=>!iD a c
   |none=>false)&&chB l f k j))
  |_,_=>false
def JS(l:List az)(sp:List Nat):Bool:=sp.all λm=>(List.range l.length).all λi=>decide (i=m)||(decide (i<m)&&chB l 8 i m||decide (m<i)&&chB l 8 m i)
def HB(P:Program)(n:Nat)(ops:Array Oper)(k:Nat):Prop:=∀i j oi oj,k<=i->i<j->ops[i]?=some oi->ops[j]?=some oj->((Region.before ops).getD j 0).testBit i=true\/iD (bI P n ops oi) (bI P n ops oj)=true
def KM{ops:Array Oper}:∀(m k:Nat) (A':Array Bool),m+k=ops.size->(∀j,k<=j->j<ops.size->A'.getD j true=false)->ym P n ops m k A'=true->HB P n ops k
 |0,k,A',hm,_,_=>λi j oi oj h1 h2 h3 h4=>by
  have:=(nN.1 h3).1;omega
 |m+1,k,A',hm,hl,h=>λi j oi oj h1 h2 h3 h4=>by
  simp only[ym,Ba]at h;obtain⟨⟨_,hf⟩,hB⟩:=h;have hj:=(nN.1 h4).1;by_cases hik:i=k
  .subst hik;cases hb:((Region.before ops).getD j 0).testBit i with
   |true=>exact .inl rfl
   |false=>exact .inr (mH h3 hf j oj h4 (by omega) (hl j (by omega) hj) hb)
  .exact KM m (k+1) _ (by omega) (λj' h5 h6=>by rw[getD_set_ne true (by omega)];exact hl j' (by omega) h6) hB i j oi oj (by omega) h2 h3 h4
def AG{a:Array Bool}{i:Nat}(h:a.getD i false=true):a.getD i true=true:=by
 rw[Zq7]at h|-;cases hi:a[i]? with
 |none=>rfl
 |some b=>rw[hi]at h;exact h
def qe{ops:Array Oper}{A':Array Bool}(YZ:iM ops A')(hG:HB P n ops 0):∀(f i j:Nat) (oj:Oper),i<j->ops[j]?=some oj->(∀e∈oj.after,Region.binds .any e=true->A'.getD e.on false=true)->
 chB (ops.toList.map (bI P n ops)) f i j=true->A'.getD i false=true
 |0,_,_,_,_,_,_,h=>by cases h
 |f+1,i,j,oj,hij,hoj,YU,h=>by
  have get:∀(m:Nat) (om:Oper),ops[m]?=some om->(ops.toList.map (bI P n ops))[m]?=some (bI P n ops om):=λm om hm=>by
   rw[qJ,Array.getElem?_toList,hm];rfl
  have hjl:=(nN.1 hoj).1;obtain⟨oi,hoi⟩:∃o,ops[i]?=some o:=⟨ops[i]'(by omega),Array.getElem?_eq_getElem (by omega)⟩
  have key:∀(k:Nat) (ok:Oper),i<k->ops[k]?=some ok->(∀e∈ok.after,Region.binds .any e=true->A'.getD e.on false=true)->iD (bI P n ops oi) (bI P n ops ok)=false->A'.getD i false=true:=λk ok hk M' hal hp=>by
   rcases hG i k oi ok (Nat.zero_le _) hk hoi M' with hb|hb
   .exact lf YZ k ok i M' hb hal
   .rw[hp]at hb;cases hb
  simp only[chB,get i oi hoi,get j oj hoj,kS,Bool.not_eq_true']at h;rcases h with h|h
  .exact key j oj hij hoj YU h
  .obtain⟨k,_,hk⟩:=Qu.1 h;simp only[Ba,Zq9]at hk;obtain⟨h1,h2,h3,h4⟩:=hk;obtain⟨ok,M'⟩:∃o,ops[k]?=some o:=⟨ops[k]'(by omega),Array.getElem?_eq_getElem (by omega)⟩
   have hkl:=qe YZ hG f k j oj h2 hoj YU h4;rw[get k ok M']at h3;exact key k ok h1 M' (YZ k ok M' (AG hkl)) (by simpa using h3)
def wg{ops:Array Oper}{A':Array Bool}(YZ:iM ops A')(hG:HB P n ops 0)(hsp:JS (ops.toList.map (bI P n ops)) sp=true){m j:Nat}(hm:m∈sp)(hrm:m∈Region.ready .any ops A')(hrj:j∈Region.ready .any ops A')(YA:j≠m):False:=by
 obtain⟨um,om,hom,am⟩:=mem_ready.1 hrm;obtain⟨uj,oj,hoj,aj⟩:=mem_ready.1 hrj;have hjl:=(nN.1 hoj).1;have h:=dX.1 (dX.1 hsp m hm) j (List.mem_range.2 (by simpa using hjl));simp only[kS,Ba,Zq9,YA,false_or]at h;rcases h with⟨h1,h2⟩|⟨h1,h2⟩
 .have:=qe YZ hG 8 j m om h1 hom am h2;rw[AG this]at uj;cases uj
 .have:=qe YZ hG 8 m j oj h1 hoj aj h2;rw[AG this]at um;cases um
def Xn(P:Program)(n:Nat)(sp:List Nat)(ops:Array Oper)(i:Nat)(x:St)(K:St->Prop):Prop:=match ops[i]? with
 |some o=>XT P n sp i (bI P n ops o) x K
 |none=>K x
def sX(P:Program)(n:Nat)(sp:List Nat)(ops:Array Oper)(Q:St->Prop):Nat->Array Bool->St->Prop
 |0,A',x=>Region.ready .any ops A'=[]/\Q x
 |f+1,A',x=>(Region.ready .any ops A'=[]->Q x)/\∀i∈Region.ready .any ops A',Xn P n sp ops i x (sX P n sp ops Q f (A'.setIfInBounds i true))
def mI{F:Fr}(hn:F.n=n){ops:Array Oper}{Q:St->Prop}{Q':Exit->Act->World->Prop}(hQ:∀x a w,ee F x a w->Q x->Q' .normal a w):
 ∀(f:Nat) (A':Array Bool) (x:St) (a:Act) (w:World),ee F x a w->sX P n sp ops Q f A' x->wpAnyIn F.dV 0 P .any ops Q' f A' a w
 |0,_,_,_,_,hs,h=>⟨h.1,hQ _ _ _ hs h.2⟩
 |f+1,A',x,a,w,hs,h=>by
  refine⟨λh0=>hQ _ _ _ hs (h.1 h0),λi hi=>?_⟩;have h1:=h.2 i hi;unfold Xn at h1;unfold wpOpIn;cases ho:ops[i]? with
  |none=>
   simp only[ho]at h1;exact mI hn hQ f _ x a w hs h1
  |some o=>
   simp only[ho]at h1;rcases h1 with h1|⟨-,g2,g3,g4⟩
   .have h2:=uS (Q':=Q') hn h1 hs λx' a' w' Ye hk=>mI hn hQ f _ x' a' w' Ye hk;by_cases hw:Region.wanted o (yielded ops a.tmps)=true
    .rw[ar hw]at h2;simp only[hw,if_true];exact GS (j7 h2.1) h2.2
    .rw[av hw]at h2;simp only[hw];exact⟨λ_ _=>trivial,h2⟩
   .obtain⟨I,hs⟩:=hs;have hw:Region.wanted o (yielded ops a.tmps)=true:=by
     subst hn;exact o7 (P:=P) hs ops o g3
    simp only[hw,if_true];exact GS (j7 (P:=P) (n:=n) g2) (g4 F hn I a w o ops rfl hs _ _ λx' a' w' Ye hk=>mI hn hQ f _ x' a' w' Ye hk)
def AN{ops:Array Oper}{Q:St->Prop}(hG:HB P n ops 0)(hsp:JS (ops.toList.map (bI P n ops)) sp=true){i:Nat}{oi:Oper}(hi:ops[i]?=some oi):∀(f:Nat) (A':Array Bool) (x:St),Inf x.U->iM ops A'->
 (∀j oj,ops[j]?=some oj->j≠i->A'.getD j true=false->((Region.before ops).getD j 0).testBit i=false->iD (bI P n ops oi) (bI P n ops oj)=true)->
 i∈Region.ready .any ops A'->XT P n sp i (bI P n ops oi) x (sX P n sp ops Q f (A'.setIfInBounds i true))->sX P n sp ops Q (f+1) A' x:=by
 intro f
 induction f with
 |zero=>
  intro A' x hinf YZ hfree hr H;refine⟨λh=>(by rw[h]at hr;cases hr),λj hj=>?_⟩;by_cases hji:j=i
  .subst hji;unfold Xn;simp only[hi];exact H
  .rcases H with H|H
   .have:=ready_mono hj hji;obtain⟨x',YD⟩:=H.exists hinf;rw[YD.1]at this;cases this
   .exact(wg YZ hG hsp H.1 hr hj hji).elim
 |succ f ih=>
  intro A' x hinf YZ hfree hr H;refine⟨λh=>(by rw[h]at hr;cases hr),λj hj=>?_⟩;by_cases hji:j=i
  .subst hji;unfold Xn;simp only[hi];exact H
  .obtain⟨hjun,oj,hoj,YU⟩:=mem_ready.1 hj;rcases H with H|H
   .have hnot:((Region.before ops).getD j 0).testBit i=false:=by
     cases hb:((Region.before ops).getD j 0).testBit i with
     |false=>rfl
     |true=>
      exfalso;have h1:=lf YZ j oj i hoj hb YU;have h0:=(mem_ready.1 hr).1;rcases Nat.lt_or_ge i A'.size with h'|h'
      .simp[h']at h0 h1;rw[h0]at h1;cases h1
      .simp[Array.getElem?_eq_none h']at h1
    have H2:T P (bI P n ops oi) x λx'=>T P (bI P n ops oj) x' (sX P n sp ops Q f ((A'.setIfInBounds i true).setIfInBounds j true)):=by
     refine H.mono λx' YD=>?_;have:=YD.2 j (ready_mono hj hji);unfold Xn at this;simp only[hoj]at this;rcases this with h|h
     .exact h
     .exact(wg YZ hG hsp h.1 hj hr (Ne.symm hji)).elim
    have h2:=Eo (hfree j oj hoj hji hjun hnot) hinf H2;have hfree':∀k ok,ops[k]?=some ok->k≠i->(A'.setIfInBounds j true).getD k true=false->
     ((Region.before ops).getD k 0).testBit i=false->iD (bI P n ops oi) (bI P n ops ok)=true:=λk ok hk hki hun Yx=>by
     refine hfree k ok hk hki ?_ Yx;by_cases hjk:j=k
     .subst hjk;exact hjun
     .rw[getD_set_ne true hjk]at hun;exact hun
    unfold Xn;simp only[hoj];refine .inl ((h2.inf hinf).mono λx' YD=>ih (A'.setIfInBounds j true) x' YD.1 (YZ.list hj) hfree' (ready_mono hr (Ne.symm hji)) ?_);rw[Array.setIfInBounds_comm _ _ hji];exact .inl YD.2
   .exact(wg YZ hG hsp H.1 hr hj hji).elim
def fE(P:Program)(n:Nat)(sp:List Nat)(Q:St->Prop):Nat->List az->St->Prop
 |_,[],x=>Q x
 |m,i::l,x=>XT P n sp m i x (fE P n sp Q (m+1) l)
def vF{ops:Array Oper}{Q:St->Prop}(hG:HB P n ops 0)(hsp:JS (ops.toList.map (bI P n ops)) sp=true):∀(l:List Oper) (k:Nat) (A':Array Bool) (x:St),Inf x.U->iM ops A'->(∀j,l[j]?=ops[k+j]?)->
 ym P n ops l.length k A'=true->fE P n sp Q k (l.map (bI P n ops)) x->sX P n sp ops Q l.length A' x
 |[],_,_,_,_,_,_,hB,h=>⟨by simpa[ym]using hB,h⟩
 |o::l,k,A',x,hinf,YZ,hl,hB,h=>by
  have h0:ops[k]?=some o:=by simpa using(hl 0).symm
  simp only[ZK,ym,Ba]at hB;obtain⟨⟨hr,hf⟩,hB'⟩:=hB;refine AN hG hsp h0 l.length A' x hinf YZ (mH h0 hf) (by simpa using hr) ?_;refine(XT.inf hinf h).mono λx' YD=>?_;exact vF hG hsp l (k+1) _ x' YD.1 (YZ.list (by simpa using hr)) (λj=>by have:=hl (j+1);simpa[Nat.add_assoc,Ej 1 j]using this) hB' YD.2
def xZ{F:Fr}(hn:F.n=n){ops:Array Oper}(M':qn P n ops=true)(hsp:JS (ops.toList.map (bI P n ops)) sp=true){id:Nat}{x:St}{a:Act}{w:World}(hs:ee F x a w){Q:St->Prop}{Q':Exit->Act->World->Prop}
 (hQ:∀x a w,ee F x a w->Q x->Q' .normal a w)(h:fE P n sp Q 0 (ops.toList.map (bI P n ops)) x):(Code.region id ops true).wpIn F.dV 0 P Q' a w:=by
 simp only[qn,Ba]at M';have Ye:ee F x a { w with drawn:=w.drawn+1 }:=by
  obtain⟨I,hs⟩:=hs;have hk:cD (aA I x.U) (aA I x.U) w { w with drawn:=w.drawn+1 }:=λ_ _ h=>⟨h,rfl⟩
  refine⟨I,⟨⟨hs.sat.size,hs.sat.os,hs.sat.tape,hs.sat.output,hs.sat.same,hs.sat.fin,hs.sat.inj,λid o ho=>?_,hs.sat.fresh,hs.sat.glob⟩,hs.le,hs.size,hs.book.gJ hk,λi hi=>?_⟩⟩
  .exact(hs.sat.obj id o ho).mono (cC.refl I) hk (YQ _) (λ_ _ _ _=>rfl)
  .exact E'.mono (cC.refl I) hk (YQ _) _ _ (hs.slot i hi)
 have hrep:∀j,j<ops.size->(Array.replicate ops.size false).getD j true=false:=λj hj=>by
  rw[Zq7,Array.getElem?_replicate,ar hj];rfl
 have hG:HB P n ops 0:=KM ops.size 0 (Array.replicate ops.size false) rfl (λj _ hj=>hrep j hj) (by simpa using M'.2.2);refine wpIn_region_any M'.1 (mI (sp:=sp) hn hQ _ _ _ _ _ Ye ?_);have:=vF (P:=P) (n:=n) (Q:=Q) hG hsp ops.toList 0 (Array.replicate ops.size false) x hs.inf (λm om hm hl=>by
  have H':m<ops.size:=(nN.1 hm).1;rw[hrep m H']at hl;cases hl) (by simp) (by simpa using M'.2.2) h
 simpa using this
def ab.SS(sp:List Nat){l:List az}(hsp:JS l sp=true)(h:fE P n sp (λx=>ab P n k x Q) 0 l st):ab P n (.code (.reg true l)::k) st Q:=by
 intro F hn kt hk a w hs;obtain⟨z,kt',rfl,hy,ZL⟩:=dn hk;obtain⟨c0,rfl,ZA⟩:=fV hy;have hc0:∃id ops,c0=.region id ops true/\qn P n ops=true/\ops.toList.map (bI P n ops)=l:=by
  cases c0<;>simp only[cY,reduceCtorEq]at ZA;rename_i id ops draw;cases draw
  .simp at ZA
  .simp only[Bool.true_and]at ZA;split at ZA
   .cases ZA
   .split at ZA
    .cases ZA
    .rename_i hd;simp only[bf.reg.injEq,true_and]at ZA;exact⟨id,ops,rfl,by simpa using hd,ZA⟩
 obtain⟨id,ops,rfl,M',rfl⟩:=hc0;exact xZ hn M' hsp hs (λx a w hs h=>h F hn kt' ZL a w hs) h
variable {K:St->Prop} {m:Nat} {x:St}
def XC.app{suf:List az}:∀(pre:List az) {m:Nat} {x:St},Go P n (.d pre [.stop λy=>fE P n sp K (m+pre.length) suf y]) x Q->fE P n sp K m (pre++suf) x
 |[],_,_,h=>h
 |i::pre,m,_,h=>.inl (T.mono (λ_ h=>XC.app (m:=m+1) pre (by rw[show m+1+pre.length=m+(i::pre).length by simp;omega];exact h)) h)
def XC.go(j:Nat){l:List az}(h:Go P n (.d (l.take j) [.stop λy=>fE P n sp K (m+(l.take j).length) (l.drop j) y]) x λ_=>True):fE P n sp K m l x:=by
 have:=XC.app _ h
 rwa [sZ]at this
def XC.tJ{i:az}{l:List az}{xm xk:VX}{ok:Bool}{zv:V}(hm:m∈sp)(hw:aQ x.s i.g=some true)(ho:i.op=.more (.tJ ok zv) [xm,xk]){id:Nat}{c:IntKind}{f:Int->Option V}{q:Int}
 (hx:xm.ev x.s=.mp id)(hmap:l6 c x.U id f)(hk:xk.ev x.s=.int c q)
 (h:fE P n sp K (m+1) l ⟨aO x.s i.dst (if ok then .P' [(f q).getD zv,.bool (f q).isSome]else(f q).getD zv),x.U⟩):fE P n sp K m (i::l) x:=
 .inr ⟨hm,by rw[ho];simp,hw,I8 ho hx hmap hk h⟩
def XC.HU{i:az}{l:List az}{xm xk xv:VX}(hm:m∈sp)(hw:aQ x.s i.g=some true)(ho:i.op=.more .HU [xm,xk,xv]){id:Nat}{c:IntKind}{f:Int->Option V}{q:Int}{v:V}
 (hx:xm.ev x.s=.mp id)(hmap:l6 c x.U id f)(hk:xk.ev x.s=.int c q)(hv:xv.ev x.s=v)
 (h:∀ob:Ob,ob.sz=0->l6 c (C' x.U id ob) id (λm'=>if m'=q then some v else f m')->fE P n sp K (m+1) l ⟨aO x.s i.dst (.P' []),C' x.U id ob⟩):fE P n sp K m (i::l) x:=
 .inr ⟨hm,by rw[ho];simp,hw,LA ho hx hmap hk hv h⟩
def XC.call{i:az}{l:List az}{fx:VX}{xs:List VX}(hm:m∈sp)(hw:aQ x.s i.g=some true)(ho:i.op=.call fx xs){f:FuncId}{caps:List V}(hf:fx.ev x.s=.fn f caps)
 {Post:V->af->Prop}(hc:au P f (xs.map (·.ev x.s)++caps) x.U Post)(h:∀r Z',Post r Z'->fE P n sp K (m+1) l ⟨aO x.s i.dst r,Z'⟩):fE P n sp K m (i::l) x:=by
 refine .inr ⟨hm,by rw[ho];simp,hw,λF hn I a w o all hi hs next Q' X7=>?_⟩;subst hn;obtain⟨X9,hd⟩:=bZ hi;rw[ho]at X9;obtain⟨f0,args,argTypes,g1,rfl,rfl⟩:=lX X9;refine mN hs g1 hf hc λr Z' hp a' w' Ye=>X7 _ a' w' Ye ?_;rw[hd];exact h r Z' hp
def XC.skip{i:az}{l:List az}(hw:aQ x.s i.g=some false)(h:fE P n sp K (m+1) l ⟨aO x.s i.dst (.P' []),x.U⟩):fE P n sp K m (i::l) x:=by
 refine .inl ?_;unfold T;rw[hw];exact h
def XC.nil(h:K x):fE P n sp K m [] x:=h
open Go.Proofs Go.Proofs.Tryz
def pN(b:Bk):V:=.agg [.rp (bC b),br b.atoms,aG b.X8,vI b.Yg,bE b.Ym]
def EC:V:=.agg [.nilp,.aC,.aC,vI 0,.aC]
def dy(b:Bk):(pN b).cells=[.rp (bC b),br b.atoms,aG b.X8,vI b.Yg,bE b.Ym]:=rfl
def pt(b:Bk):(pN b).stays=true:=rfl
def CG(l:List Nd)(w h:Int):V:=if eu l w h=0 then pN (aY l w h)else EC
def CL(l:List Nd)(hl:dU l)(w h:Int):aJ prog 26 [aH l,vI w,vI h] (.P' [CG l w h,vI (eu l w h)]):=λU=>by
 refine e26.r (by simp[c26]) ?_;have hs:=aa.refl U;have hn:=N4 l hl w h;unfold Ey at hn;refine ab.mix 9 ?_;apply sR;simp only[go_sem,seval,c26];refine ad λi6 Z6 s6 a6 f6=>?_;have z6:=hs.none f6;replace hs:=hs.trans s6;simp only[go_sem,seval];refine ab.ay rfl rfl rfl (hn _) ?_;by_cases he:eu l w h=0
 .have hb:=gU hl he;unfold CG;rw[ar he,ar he,he];generalize aY l w h=b at*;have q:((0:Int)≠0)=False:=T' (λh=>h rfl);have hgc:(AS b).cells=[br b.atoms,aG b.X8,vI b.Yg]:=rfl;have hgs:(AS b).stays=true:=rfl;apply sR;simp only[go_sem,seval,q];refine ab.ay rfl rfl rfl (y8 b hb.toBkFull _) ?_;apply sR;simp only[go_sem,seval];refine ab.ay rfl rfl rfl (zr b hb.toBkFull _) ?_;apply sR;simp only[go_sem,seval,a6,hgc,hgs,mM,mQ];exact ak.pure (hs.ax z6) rfl
 .have q:(eu l w h≠0)=True:=Yd he;unfold CG;rw[av he,av he];generalize eu l w h=E at*;apply sR;simp only[go_sem,seval,q,a6];exact ak.pure (hs.ax z6) rfl
def Km(b:Bk)(hb:BkOk b):aJ prog 63 [pN b] (.bool (decide ((b.atoms.length:Int)+b.X8.length=0))):=λU=>by
 refine e63.r (by simp[c63]) ?_;have hs:=aa.refl U;have h1:=iB b.atoms;have h2:=fX b.X8;have hal:=hb.len;have hfl:=hb.flen;have r1:Yl .i64 ((b.atoms.length:Int)+b.X8.length):=ai;refine ab.mix 3 ?_;apply sR;simp only[go_sem,seval,c63,dy,pt];refine ad λi1 Z1 s1 a1 f1=>?_;replace hs:=hs.trans s1;simp only[go_sem,seval,a1,dy,h1,h2,r1];exact ak.pure hs rfl
def Ja(n:Int):aJ prog 182 [vI n] (.bool (decide (nv n))):=λU=>by
 refine Vl.r (by simp[JJ]) ?_;generalize hX:decide (nv n)=X;refine ab.mix 3 ?_;by_cases h1:n< -1152921504606846976
 .have q:(n< -1152921504606846976)=True:=Yd h1;apply sR;simp only[go_sem,seval,JJ,q];exact ak.same (by rw[<-hX,ZG (.inl h1)])
 .have q:(n< -1152921504606846976)=False:=T' h1;by_cases h2:n>1152921504606846976
  .have q2:(n>1152921504606846976)=True:=Yd h2;apply sR;simp only[go_sem,seval,JJ,q,q2];exact ak.same (by rw[<-hX,ZG (.inr h2)])
  .have q2:(n>1152921504606846976)=False:=T' h2;apply sR;simp only[go_sem,seval,JJ,q,q2];exact ak.same (by rw[<-hX,Zu λh=>h.elim h1 h2])
def Hy(b:Bk)(f:U')(s:Zf):aJ prog 123 [pN b,aK f,aV s] (.bool (ij b f s)):=λU=>by
 refine WL.r (by simp[Rw]) ?_;have hs:=aa.refl U;have h1:=iB b.atoms;have hfc:∀f:U',(aK f).cells=[vI f.node,vI f.side,vI f.anchor,vI f.x,vI f.y,vI f.w,vI f.h]:=λ_=>rfl;have hfs:∀f:U',(aK f).stays=true:=λ_=>rfl;generalize hX:ij b f s=X;unfold ij at hX;refine ab.mix 7 ?_;apply sR;simp only[go_sem,seval,Rw,dy,pt];refine ad λi3 Z3 s3 a3 f3=>?_;have z3:=hs.none f3;replace hs:=hs.trans s3;simp only[go_sem,seval,hfc,hfs];refine ad λi4 Z4 s4 a4 f4=>?_;have n34:=ao a3 f4;replace a3:=s4 _ _ a3;have z4:=hs.none f4;replace hs:=hs.trans s4;simp only[go_sem,seval,dx,wi];refine ad λi5 Z5 s5 a5 f5=>?_;have n35:=ao a3 f5;replace a3:=s5 _ _ a3;have n45:=ao a4 f5;replace a4:=s5 _ _ a4;have z5:=hs.none f5;replace hs:=hs.trans s5;by_cases e0:(b.atoms.length:Int)=0
 .have q0:((b.atoms.length:Int)=0)=True:=Yd e0;rw[ar e0]at hX;simp only[go_sem,seval,a3,a5,q0,h1,dy,dx];exact ak.pure hs (by rw[<-hX])
 .have q0:((b.atoms.length:Int)=0)=False:=T' e0;rw[av e0]at hX;by_cases e1:f.anchor<s.atom
  .have q1:(f.anchor<s.atom)=True:=Yd e1;simp only[go_sem,seval,a3,a4,a5,q0,q1,h1,hfc,dy,dx];exact ak.pure hs (by rw[<-hX,ZG (.inl e1)])
  .have q1:(f.anchor<s.atom)=False:=T' e1;by_cases e2:f.anchor=s.atom
   .have q2:(f.anchor=s.atom)=True:=Yd e2;by_cases e3:s.done>0
    .have q3:(s.done>0)=True:=Yd e3;simp only[go_sem,seval,a3,a4,a5,q0,q1,q2,q3,h1,hfc,dy,dx];exact ak.pure hs (by rw[<-hX,ZG (.inr ⟨e2,e3⟩)])
    .have q3:(s.done>0)=False:=T' e3;simp only[go_sem,seval,a3,a4,a5,q0,q1,q2,q3,h1,hfc,dy,dx];exact ak.pure hs (by rw[<-hX,Zu λh=>h.elim e1 λg=>e3 g.2])
   .have q2:(f.anchor=s.atom)=False:=T' e2;simp only[go_sem,seval,a3,a4,a5,q0,q1,q2,h1,hfc,dy,dx];exact ak.pure hs (by rw[<-hX,Zu λh=>h.elim e1 λg=>e2 g.1])
def LQ(b:Bk)(ZE:b.Ym.length<=1000000)(p:YG)(s:Zf)(h0:0<=s.atom)(h1:s.atom<b.Ym.length)(no:Int)(Yx:0<=no):aJ prog 65 [pN b,aM p,aV s,vI no] (.bool (decide (lV b p s no))):=λU=>by
 refine e65.r (by simp[c65]) ?_;have hs:=aa.refl U;obtain⟨k,hk⟩:∃k:Nat,s.atom=k:=⟨s.atom.toNat,by omega⟩
 have hkl:k<b.Ym.length:=by omega
 have X2:=λU=>rV (U:=U) hkl;have hg:bkG b.Ym s.atom.toNat=b.Ym[k]:=by rw[hk];simp[bkG,hkl]
 have hb3:∀x:Brk,(e8 x).cells=[vI x.cls,vI x.forced,vI x.Zq]:=λ_=>rfl;have htm:no.tmod 2=no%2:=Int.tmod_eq_emod_of_nonneg Yx;have Zw:∀p:YG,(aM p).cells=[vI p.no,vI p.kind,aI p.hs,aI p.fs,aI p.ls]:=λ_=>rfl;have hps:∀p:YG,(aM p).stays=true:=λ_=>rfl;have hD:decide (lV b p s no)=decide (p.kind=1/\¬s.done>0/\(b.Ym[k].forced=3/\no%2=1\/b.Ym[k].forced=4/\no%2=0)):=decide_eq_decide.2 (by unfold lV;rw[hg]);rw[hD];clear hD hg;generalize hX:decide (p.kind=1/\¬s.done>0/\(b.Ym[k].forced=3/\no%2=1\/b.Ym[k].forced=4/\no%2=0))=X;generalize b.Ym[k]=x at*;refine ab.mix 10 ?_;apply sR;simp only[go_sem,seval,c65,dy,pt];refine ad λi4 Z4 s4 a4 f4=>?_;replace hs:=hs.trans s4;simp only[go_sem,seval,Zw,hps];refine ad λi5 Z5 s5 a5 f5=>?_;replace a4:=s5 _ _ a4;replace hs:=hs.trans s5;simp only[go_sem,seval,dx,wi];refine ad λi6 Z6 s6 a6 f6=>?_;replace a4:=s6 _ _ a4;replace a5:=s6 _ _ a5;replace hs:=hs.trans s6;by_cases q1:p.kind=1
 .have q1':(p.kind≠1)=False:=T' (λh=>h q1);by_cases q2:s.done>0
  .have q2':(s.done>0)=True:=Yd q2;simp only[go_sem,seval,a5,a6,q1',q2',Zw,dx];exact ak.pure hs (by rw[<-hX,Zu λh=>h.2.1 q2])
  .have q2':(s.done>0)=False:=T' q2;by_cases q3:x.forced=3
   .have q3':(x.forced=3)=True:=Yd q3;have q6:(x.forced=4)=False:=T';by_cases q4:no%2=1
    .have q4':(no.tmod 2=1)=True:=Yd;simp only[go_sem,seval,a4,a5,a6,q1',q2',q3',q4',hk,X2,hb3,Zw,dx,dy];exact ak.pure hs (by rw[<-hX,ZG ⟨q1,q2,.inl ⟨q3,q4⟩⟩])
    .have q4':(no.tmod 2=1)=False:=T';simp only[go_sem,seval,a4,a5,a6,q1',q2',q3',q4',q6,hk,X2,hb3,Zw,dx,dy];exact ak.pure hs (by rw[<-hX,Zu];omega)
   .have q3':(x.forced=3)=False:=T' q3;by_cases q6:x.forced=4
    .have q6':(x.forced=4)=True:=Yd q6;by_cases q4:no%2=0
     .have q4':(no.tmod 2=0)=True:=Yd;simp only[go_sem,seval,a4,a5,a6,q1',q2',q3',q4',q6',hk,X2,hb3,Zw,dx,dy];exact ak.pure hs (by rw[<-hX,ZG ⟨q1,q2,.inr ⟨q6,q4⟩⟩])
     .have q4':(no.tmod 2=0)=False:=T';simp only[go_sem,seval,a4,a5,a6,q1',q2',q3',q4',q6',hk,X2,hb3,Zw,dx,dy];exact ak.pure hs (by rw[<-hX,Zu];omega)
    .have q6':(x.forced=4)=False:=T' q6;simp only[go_sem,seval,a4,a5,a6,q1',q2',q3',q6',hk,X2,hb3,Zw,dx,dy];exact ak.pure hs (by rw[<-hX,Zu];omega)
 .have q1':(p.kind≠1)=True:=Yd q1;simp only[go_sem,seval,a5,q1',Zw];exact ak.pure hs (by rw[<-hX,Zu λh=>q1 h.1])
open Go.Proofs Go.Proofs.Tryz
def mo(b:Bk)(t:ZF)(im:Nat):List V:=[.rp (bC b),br b.atoms,aG b.X8,vI b.Yg,bE b.Ym,vI t.last.node,vI t.last.atom,vI t.last.fr,vI t.last.x,vI t.last.y,vI t.last.w,vI t.last.h,vI t.parts,vI t.B',.mp im]
def shF(t:ZF)(n:Int):Option V:=if t.shown n=0 then none else some (vI (t.shown n))
structure eJ(b:Bk)(t:ZF)(K U:af)(i im:Nat):Prop where
 row:U i=some ⟨153,15,[.agg (mo b t im)]⟩
 mp:l6 .i64 U im (shF t)
 ni:K i=none
 nm:K im=none
 sub:aa K U
def eJ.ne{b:Bk}{t:ZF}{K U:af}{i im:Nat}(h:eJ b t K U i im):i≠im:=h.mp.ne h.row (by decide)
def eJ.mono{b:Bk}{t:ZF}{K U J:af}{i im:Nat}(h:eJ b t K U i im)(hs:aa U J):eJ b t K J i im:=⟨hs _ _ h.row,h.mp.sub hs,h.ni,h.nm,h.sub.trans hs⟩
def zc(fs:List Zh)(n:Int):(fs.filter λf=>decide (f.node=n)).length<=fs.length:=List.length_filter_le _ _
def kj(t:ZF)(fs:List Zh):ZF:={ t with shown:=λn=>t.shown n+(fs.filter λf=>decide (f.node=n)).length }
def BK(t:ZF)(fs:List Zh)(f:Zh):shF (kj t (fs++[f]))=λm=>if m=f.node then some (vI ((kj t fs).shown f.node+1:Nat))else shF (kj t fs) m:=by
 funext m;unfold shF kj;simp only[List.filter_append,gZ];by_cases h:m=f.node
 .subst h;rw[ar rfl];simp;omega
 .rw[av h];have:(List.filter (λg=>decide (g.node=m)) [f])=[]:=by
   rw[List.filter_cons];simp[Ne.symm h]
  rw[this];simp
def nQ(t:ZF)(p:YG):ZF:={ t with last:=p.fs.getLast?.getD t.last,parts:=t.parts+p.fs.length }
def ra(t:ZF)(p:YG):ZF:={ nQ t p with B':=t.B'+(if p.kind=2 then 1 else 0) }
def Nk(t:ZF)(p:YG):kj (ra t p) p.ls=eF t p:=rfl
structure SP(b:Bk)(p:YG)(K:af)(i im:Nat)(u:ZF)(st:St):Prop where
 pg:∃i3,st.U i3=some ⟨37,5,[aM p]⟩/\i3≠i/\i3≠im/\st.s 3=.ptr i3 0 0
 tj:eJ b u K st.U i im
 s0:st.s 0=.ptr i 0 0
def eJ.nem{b:Bk}{t:ZF}{K U:af}{i im j:Nat}(h:eJ b t K U i im)(hf:U j=none):j≠im:=λe=>by
 obtain⟨es,ck,env,g1,-⟩:=h.mp;rw[e,g1]at hf;cases hf
def vG{b:Bk}{t u:ZF}{K U:af}{i im:Nat}(h:eJ b t K U i im)(hu:u.shown=t.shown):eJ b u K (C' U i ⟨153,15,[.agg (mo b u im)]⟩) i im:=by
 obtain⟨es,clock,env,h1,h2⟩:=h.mp;refine⟨ag,⟨es,clock,env,(ae (Ne.symm h.ne)).trans h1,?_⟩,h.ni,h.nm,h.sub.ax h.ni⟩;have:shF u=shF t:=by unfold shF;rw[hu]
 rw[this];exact h2
def AR(b:Bk)(t:ZF)(p:YG)(hp:t.parts+p.fs.length<=1000000000000000000)(hf:t.B'<=1000000000000000000)(hn:∀n,t.shown n<=1000000000000000000)(hl:p.ls.length<=1000000000000000){K U:af}{i im:Nat}(hJ:eJ b t K U i im):
 au prog 30 [.ptr i 0 0,aM p] U λr Z'=>r=.P' []/\eJ b (eF t p) K Z' i im:=by
 refine e30.r (by simp[c30]) ?_;have Zw:∀p:YG,(aM p).cells=[vI p.no,vI p.kind,aI p.hs,aI p.fs,aI p.ls]:=λ_=>rfl;have hps:∀p:YG,(aM p).stays=true:=λ_=>rfl;have hfc:∀f:Zh,(bb f).cells=[vI f.node,vI f.atom,vI f.fr,vI f.x,vI f.y,vI f.w,vI f.h]:=λ_=>rfl;have hfs:∀f:Zh,(bb f).stays=true:=λ_=>rfl;have ldR:∀(U:af) (f:Zh),bB U true 7 (.rp (bb f))=some (bb f):=λ_ _=>rfl;have hlf:=jo p.fs;have hll:=jo p.ls;refine ab.mix 44 ?_;refine ab.seq (ab.cut (SP b p K i im t) ?_ ?_)
 .have hs:=aa.refl U;apply sR;simp only[go_sem,seval,c30,Zw,hps];refine ad λi3 Z3 s3 a3 f3=>?_;replace hs:=hs.trans s3;simp only[go_sem,seval];exact⟨⟨i3,a3,(ao hJ.row f3).symm,hJ.nem f3,rfl⟩,hJ.mono s3,rfl⟩
 rintro⟨S,J⟩ ⟨⟨i3,a3,n3,n3m,t3⟩,hJ,t0⟩;simp only at a3 t3 hJ t0;refine ab.seq (ab.cut (SP b p K i im (nQ t p)) ?_ ?_)
 .have h0:=hJ.row;unfold mo at h0;refine ab.mix 44 ?_;by_cases hz:p.fs=[]
  .have q:((p.fs.length:Int)>0)=False:=T' (by rw[hz];decide);apply sR;simp only[go_sem,seval,t3,a3,Zw,hlf,q];exact⟨⟨i3,a3,n3,n3m,t3⟩,by have e:nQ t p=t:=(by unfold nQ;rw[hz];rfl);rw[e];exact hJ,t0⟩
  .have H':=wH.2 hz;have q:((p.fs.length:Int)>0)=True:=Yd;have r1:Yl .i64 ((p.fs.length:Int)-1):=ai;have r2:Yl .i64 ((t.parts:Int)+p.fs.length):=ai;have hi:∀U,bo U 7 (aI p.fs) (.int .i64 ((p.fs.length:Int)-1))=some (.rp (bb p.fs[p.fs.length-1])):=λU=>by
    rw[show(p.fs.length:Int)-1=((p.fs.length-1:Nat):Int) by omega];exact uP (by omega)
   have hla:p.fs.getLast?.getD t.last=p.fs[p.fs.length-1]:=by rw[List.getLast?_eq_getElem?,Zq6 (by omega)];rfl
   have hJ2:=vG (u:=nQ t p) hJ rfl;unfold mo nQ at hJ2;rw[hla]at hJ2;unfold nQ;rw[hla];generalize p.fs[p.fs.length-1]=f at*;apply sR;simp only[go_sem,seval,t0,t3,a3,h0,Zw,hfc,hfs,hlf,q,r1,r2,hi,ldR];exact⟨⟨i3,(ae n3).trans a3,n3,n3m,t3⟩,hJ2,t0⟩
 rintro⟨S,J⟩ ⟨⟨i3,a3,n3,n3m,t3⟩,hJ,t0⟩;simp only at a3 t3 hJ t0;refine ab.seq (ab.cut (SP b p K i im (ra t p)) ?_ ?_)
 .have h0:=hJ.row;unfold mo nQ at h0;refine ab.mix 44 ?_;by_cases hz:p.kind=2
  .have q:(p.kind=2)=True:=Yd hz;have r1:Yl .i64 ((t.B':Int)+1):=ai;have hJ2:=vG (u:=ra t p) hJ rfl;unfold mo ra nQ at hJ2;rw[ar hz]at hJ2;unfold ra nQ;rw[ar hz];apply sR;simp only[go_sem,seval,t0,t3,a3,h0,Zw,q,r1];exact⟨⟨i3,(ae n3).trans a3,n3,n3m,t3⟩,hJ2,t0⟩
  .have q:(p.kind=2)=False:=T' hz;apply sR;simp only[go_sem,seval,t3,a3,Zw,q];exact⟨⟨i3,a3,n3,n3m,t3⟩,by have e:ra t p=nQ t p:=(by unfold ra;rw[av hz];rfl);rw[e];exact hJ,t0⟩
 rintro⟨S,J⟩ ⟨⟨i3,a3,n3,n3m,t3⟩,hJ,t0⟩;simp only at a3 t3 hJ t0;refine ab.mix 44 ?_;apply sR;simp only[go_sem,seval,t3,a3,Zw,hll];rw[<-Nk];have hus:(ra t p).shown=t.shown:=rfl;generalize ra t p=u at*;refine ab.loop (λm st=>∃j:Nat,j<=p.ls.length/\m=p.ls.length-j/\eJ b (kj u (p.ls.take j)) K st.U i im/\st.s 0=.ptr i 0 0/\st.s 41=aI p.ls/\st.s 42=vI p.ls.length/\st.s 43=vI j) p.ls.length ?_ ?_
 .exact⟨0,by omega,rfl,by have e:kj u (p.ls.take 0)=u:=(by unfold kj;simp);rw[e];exact hJ,t0,rfl,rfl,rfl⟩
 .rintro m ⟨S,J⟩ ⟨j,hj,rfl,hJ,t0,t41,t42,t43⟩;simp only at hJ t0 t41 t42 t43;refine ab.mix 44 ?_;by_cases H':j<p.ls.length
  .have q1:((j:Int)<p.ls.length)=True:=Yd;have hi:=λU=>uP (U:=U) H';have Zb:=Zq0 H';generalize p.ls[j]=f at*;have hs:=aa.refl J
   (refine ab.bg ZQ.nothing 16 ?_;simp only[go_sem,seval,t41,t42,t43,q1,hi,ldR])
   refine ad λi6 Z6 s6 a6 f6=>?_;have z6:=hs.none f6;replace hs:=hs.trans s6;simp only[go_sem,seval,a6,hfc,hfs,fw];generalize hq6:C' _ i6 _=Y6;replace a6:=(congrFun hq6 i6).symm.trans ag;replace hs:=Eq.subst (motive:=aa _) hq6 (hs.ax z6);clear hq6;have hJ6:=hJ.mono hs;have h0:=hJ6.row;unfold mo at h0;generalize hT:kj u (p.ls.take j)=T at*;have hN:T.shown f.node<=2000000000000000000:=by
    have h1:=hn f.node;have h2:=zc (p.ls.take j) f.node;rw[fY]at h2;rw[<-hT];unfold kj;rw[hus];simp only;omega
   have hg:(shF T f.node).getD (V.int .i64 0)=vI (T.shown f.node):=by
    unfold shF;split
    .rename_i h;rw[h];rfl
    .rfl
   have r1:Yl .i64 ((T.shown f.node:Int)+1):=ai;refine ab.SS [6,8] rfl (XC.go 6 ?_);apply sG;simp only[go_sem,seval,a6,t0,h0,hfc,pA,List.take_zero];refine XC.tJ (by decide) rfl rfl rfl hJ6.mp rfl ?_;refine XC.go 1 ?_;apply sG;simp only[go_sem,seval,hg,r1];refine XC.HU (by decide) rfl rfl rfl hJ6.mp rfl rfl λob YV hm=>XC.nil ?_;apply sR;simp only[go_sem,seval,t43,t0,t41,t42];have hnew:eJ b (kj u (p.ls.take (j+1))) K (C' Y6 im ob) i im:=by
    rw[Zb];subst hT;refine⟨(ae hJ6.ne).trans hJ6.row,?_,hJ6.ni,hJ6.nm,hJ6.sub.ax hJ6.nm⟩;rw[BK];exact hm
   exact⟨ai,_,by omega,j+1,by omega,rfl,hnew,by simp[vI]⟩
  .have q1:((j:Int)<p.ls.length)=False:=T';apply sR;simp only[go_sem,seval,t42,t43,q1];rw[jj (by omega)]at hJ;rw[show c30.res=[]from rfl,u9];exact⟨_,_,aa.refl _,Wk.refl (aa.refl _) _,rfl,hJ⟩
open Go.Proofs Go.Proofs.Tryz
def kO(b:Bk)(t:ZF):Zf:=
 if t.parts=0 then⟨0,0,decide ((b.atoms.length:Int)>0\/t.B'=0)⟩
 else if t.last.atom<0\/t.last.atom>=b.atoms.length\/nv t.last.fr\/nv t.last.h then⟨0,0,false⟩
 else if t.last.fr+t.last.h<(atG b.atoms t.last.atom).h then⟨t.last.atom,t.last.fr+t.last.h,false⟩
 else⟨t.last.atom+1,0,decide (t.last.atom+1<b.atoms.length/\(bkG b.Ym (t.last.atom+1).toNat).forced≠0)⟩
def B1{b:Bk}{t:ZF}{s:Zf}(h:gM b t=some s):kO b t=s:=by
 unfold gM at h;unfold kO;split at h
 .rename_i h1;rw[ar h1];exact Option.some.inj h
 .rename_i h1;rw[av h1];split at h
  .cases h
  .rename_i h2;rw[av h2];split at h
   .rename_i h3;rw[ar h3];split at h
    .exact Option.some.inj h
    .cases h
   .rename_i h3;rw[av h3];exact Option.some.inj h
def fH(b:Bk)(t:ZF):Bool:=
 if t.parts=0 then true
 else if t.last.atom<0\/t.last.atom>=b.atoms.length\/nv t.last.fr\/nv t.last.h then false
 else if t.last.fr+t.last.h<(atG b.atoms t.last.atom).h then decide (t.last.fr+t.last.h>0)
 else true
def yz(b:Bk)(t:ZF):fH b t=(gM b t).isSome:=by
 unfold fH gM;split
 .rfl
 .split
  .rfl
  .split
   .split
    .rename_i h;rw[ZG h];rfl
    .rename_i h;rw[Zu h];rfl
   .rfl
def IK(b:Bk)(hb:BkOk b)(t:ZF){K U:af}{i im:Nat}(hJ:eJ b t K U i im):
 au prog 121 [.ptr i 0 0] U λr Z'=>r=.P' [aV (kO b t),.bool (fH b t)]/\Z'=U:=by
 refine Vg.r (by simp[Pf]) ?_;have hs:=aa.refl U;have h0:=hJ.row;unfold mo at h0;have hal:=hb.len;have ZE:=hb.brk;have hla:=iB b.atoms;have hfc:∀f:Zh,(bb f).cells=[vI f.node,vI f.atom,vI f.fr,vI f.x,vI f.y,vI f.w,vI f.h]:=λ_=>rfl;have hfs:∀f:Zh,(bb f).stays=true:=λ_=>rfl;refine ab.mix 9 ?_;apply sR;simp only[go_sem,seval,Pf];refine ad λi2 Z2 s2 a2 f2=>?_;have z2:=hs.none f2;replace hs:=hs.trans s2;replace h0:=s2 _ _ h0;by_cases hz:t.parts=0
 .have q1:((t.parts:Int)=0)=True:=Yd;have eV:kO b t=⟨0,0,decide ((b.atoms.length:Int)>0\/t.B'=0)⟩:=by unfold kO;rw[ar hz]
  have eB:fH b t=true:=by unfold fH;rw[ar hz]
  rw[eV,eB];by_cases hn:(b.atoms.length:Int)>0
  .have q2:((b.atoms.length:Int)>0)=True:=Yd hn;rw[ZG (.inl hn)];simp only[go_sem,seval,h0,a2,q1,q2,hla];exact ak.pure (hs.ax z2) rfl
  .have q2:((b.atoms.length:Int)>0)=False:=T' hn;by_cases hf:t.B'=0
   .have q3:((t.B':Int)=0)=True:=Yd;rw[ZG (.inr hf)];simp only[go_sem,seval,h0,a2,q1,q2,q3,hla];exact ak.pure (hs.ax z2) rfl
   .have q3:((t.B':Int)=0)=False:=T';rw[Zu λh=>h.elim hn hf];simp only[go_sem,seval,h0,a2,q1,q2,q3,hla];exact ak.pure (hs.ax z2) rfl
 .have q1:((t.parts:Int)=0)=False:=T';have eV:kO b t=if t.last.atom<0\/t.last.atom>=b.atoms.length\/nv t.last.fr\/nv t.last.h then⟨0,0,false⟩
   else if t.last.fr+t.last.h<(atG b.atoms t.last.atom).h then⟨t.last.atom,t.last.fr+t.last.h,false⟩
   else⟨t.last.atom+1,0,decide (t.last.atom+1<b.atoms.length/\(bkG b.Ym (t.last.atom+1).toNat).forced≠0)⟩:=by unfold kO;rw[av hz]
  have eB:fH b t=if t.last.atom<0\/t.last.atom>=b.atoms.length\/nv t.last.fr\/nv t.last.h then false
   else if t.last.fr+t.last.h<(atG b.atoms t.last.atom).h then decide (t.last.fr+t.last.h>0)else true:=by unfold fH;rw[av hz]
  have hag:V.agg [vI t.last.node,vI t.last.atom,vI t.last.fr,vI t.last.x,vI t.last.y,vI t.last.w,vI t.last.h]=bb t.last:=rfl;generalize kO b t=SV at*;generalize fH b t=SB at*;have c1:=Ja t.last.fr;have c2:=Ja t.last.h;by_cases p1:t.last.atom<0
  .have q2:(t.last.atom<0)=True:=Yd p1;have q3:True:=trivial;rw[ar (.inl p1)]at eV eB;subst eV eB;simp only[go_sem,seval,h0,q1,hla];refine ad λi5 Z5 s5 a5 f5=>?_;have n25:=ao a2 f5;replace a2:=s5 _ _ a2;have z5:=hs.none f5;replace hs:=hs.trans s5;replace h0:=s5 _ _ h0;have n5:=ao (s2 _ _ hJ.row) f5;simp only[go_sem,seval,a2,a5,hag,hfc,hfs,q2,ae n25];generalize ZN:C' _ i5 _=Y5;replace a5:=(congrFun ZN i5).symm.trans ag;replace a2:=((congrFun ZN i2).symm.trans (ae n25)).trans a2;replace h0:=((congrFun ZN i).symm.trans (ae n5)).trans h0;replace hs:=Eq.subst (motive:=aa _) ZN (hs.ax z5);clear ZN;exact ak.pure (hs.ax z2) rfl
  have q2:(t.last.atom<0)=False:=T' p1;by_cases p2:t.last.atom>=b.atoms.length
  .have q3:(t.last.atom>=(b.atoms.length:Int))=True:=Yd p2;rw[ar (.inr (.inl p2))]at eV eB;subst eV eB;simp only[go_sem,seval,h0,q1,hla];refine ad λi5 Z5 s5 a5 f5=>?_;have n25:=ao a2 f5;replace a2:=s5 _ _ a2;have z5:=hs.none f5;replace hs:=hs.trans s5;replace h0:=s5 _ _ h0;have n5:=ao (s2 _ _ hJ.row) f5;simp only[go_sem,seval,a2,a5,hag,hfc,hfs,q2,q3,ae n25];generalize ZN:C' _ i5 _=Y5;replace a5:=(congrFun ZN i5).symm.trans ag;replace a2:=((congrFun ZN i2).symm.trans (ae n25)).trans a2;replace h0:=((congrFun ZN i).symm.trans (ae n5)).trans h0;replace hs:=Eq.subst (motive:=aa _) ZN (hs.ax z5);clear ZN;exact ak.pure (hs.ax z2) rfl
  have q3:(t.last.atom>=(b.atoms.length:Int))=False:=T' p2;simp only[go_sem,seval,h0,q1,hla];refine ad λi5 Z5 s5 a5 f5=>?_;have n25:=ao a2 f5;replace a2:=s5 _ _ a2;have z5:=hs.none f5;replace hs:=hs.trans s5;replace h0:=s5 _ _ h0;have n5:=ao (s2 _ _ hJ.row) f5;simp only[go_sem,seval,a5,hag,hfc,hfs,q2,q3];generalize ZN:C' _ i5 _=Y5;replace a5:=(congrFun ZN i5).symm.trans ag;replace a2:=((congrFun ZN i2).symm.trans (ae n25)).trans a2;replace h0:=((congrFun ZN i).symm.trans (ae n5)).trans h0;replace hs:=Eq.subst (motive:=aa _) ZN (hs.ax z5);clear ZN;refine ab.ay rfl rfl rfl (c1 _) ?_;by_cases p3:nv t.last.fr
  .rw[ZG p3];rw[ar (.inr (.inr (.inl p3)))]at eV eB;subst eV eB;apply sR;simp only[go_sem,seval,a2];exact ak.pure (hs.ax z2) rfl
  rw[Zu p3];apply sR;simp only[go_sem,seval,a5,hfc];refine ab.ay rfl rfl rfl (c2 _) ?_;by_cases p4:nv t.last.h
  .rw[ZG p4];rw[ar (.inr (.inr (.inr p4)))]at eV eB;subst eV eB;apply sR;simp only[go_sem,seval,a2];exact ak.pure (hs.ax z2) rfl
  rw[Zu p4];rw[av λh=>h.elim p1 λh=>h.elim p2 λh=>h.elim p3 p4]at eV eB;unfold nv at p3 p4;obtain⟨k,hk⟩:∃k:Nat,t.last.atom=k:=⟨t.last.atom.toNat,by omega⟩
  have hkl:k<b.atoms.length:=by omega
  have X2:=λU=>jg (U:=U) hkl;have hac:∀a:Zj,(dh a).cells=[vI a.kind,vI a.node,vI a.fr,vI a.to,vI a.x,vI a.y,vI a.w,vI a.h]:=λ_=>rfl;rw[hk,aZ hkl]at eV eB;generalize b.atoms[k]=A at*;have r1:Yl .i64 (t.last.fr+t.last.h):=ai;have r2:Yl .i64 ((k:Int)+1):=ai;by_cases p5:t.last.fr+t.last.h<A.h
  .have q5:(t.last.fr+t.last.h<A.h)=True:=Yd p5;rw[ar p5]at eV eB;subst eV eB;by_cases p6:t.last.fr+t.last.h>0
   .have q6:(t.last.fr+t.last.h>0)=True:=Yd p6;rw[ZG p6];apply sR;simp only[go_sem,seval,h0,a2,a5,hfc,hk,X2,hac,r1,q5,q6];exact ak.pure (hs.ax z2) (by rw[<-hk];rfl)
   .have q6:(t.last.fr+t.last.h>0)=False:=T' p6;rw[Zu p6];apply sR;simp only[go_sem,seval,h0,a2,a5,hfc,hk,X2,hac,r1,q5,q6];exact ak.pure (hs.ax z2) (by rw[<-hk];rfl)
  .have q5:(t.last.fr+t.last.h<A.h)=False:=T' p5;rw[av p5]at eV eB;subst eV eB;by_cases p6:(k:Int)+1<b.atoms.length
   .have q6:((k:Int)+1<(b.atoms.length:Int))=True:=Yd p6;have hkb:k+1<b.Ym.length:=by omega
    have hidb:∀U,bo U 3 (bE b.Ym) (.int .i64 ((k:Int)+1))=some (.rp (e8 b.Ym[k+1])):=λU=>by
     rw[show(k:Int)+1=((k+1:Nat):Int) by omega];exact rV hkb
    have hbG:bkG b.Ym ((k:Int)+1).toNat=b.Ym[k+1]:=by
     rw[show((k:Int)+1).toNat=k+1 by omega];simp[bkG,hkb]
    have hb3:∀x:Brk,(e8 x).cells=[vI x.cls,vI x.forced,vI x.Zq]:=λ_=>rfl;have hdd:decide ((k:Int)+1<b.atoms.length/\(bkG b.Ym ((k:Int)+1).toNat).forced≠0)=decide (b.Ym[k+1].forced≠0):=decide_eq_decide.2 (by rw[hbG];simp[p6]);rw[hdd];clear hdd hbG;generalize b.Ym[k+1]=x at*;by_cases p7:x.forced=0
    .have q7:(x.forced≠0)=False:=T' λh=>h p7;rw[Zu λh=>h p7];apply sR;simp only[go_sem,seval,h0,a2,a5,hfc,hk,X2,hac,r1,r2,q5,q6,q7,hidb,hb3];exact ak.pure (hs.ax z2) rfl
    .have q7:(x.forced≠0)=True:=Yd p7;rw[ZG p7];apply sR;simp only[go_sem,seval,h0,a2,a5,hfc,hk,X2,hac,r1,r2,q5,q6,q7,hidb,hb3];exact ak.pure (hs.ax z2) rfl
   .have q6:((k:Int)+1<(b.atoms.length:Int))=False:=T' p6;rw[Zu λh=>p6 h.1];apply sR;simp only[go_sem,seval,h0,a2,a5,hfc,hk,X2,hac,r1,r2,q5,q6];exact ak.pure (hs.ax z2) rfl
open Go.Proofs Go.Proofs.Tryz
def vm:∀(l:List YG) (t:ZF),(∀p∈l,p.fs.length<=1000000/\p.ls.length<=2000000)->(l.foldl eF t).parts<=t.parts+l.length*1000000/\(l.foldl eF t).B'<=t.B'+l.length/\∀n,(l.foldl eF t).shown n<=t.shown n+l.length*2000000
 |[],t,_=>by simp
 |p::l,t,h=>by
  obtain⟨h1,h2,h3⟩:=vm l (eF t p) λq hq=>h q (by simp[hq]);obtain⟨g1,g2⟩:=h p (by simp);rw[j5];have e1:(eF t p).parts=t.parts+p.fs.length:=rfl;have e2:(eF t p).B'<=t.B'+1:=by show t.B'+(if p.kind=2 then 1 else 0)<=_;split<;>omega
  refine⟨?_,?_,λn=>?_⟩
  .simp only[ZK];omega
  .simp only[ZK];omega
  .have e3:(eF t p).shown n=t.shown n+(p.ls.filter λf=>decide (f.node=n)).length:=rfl;have:=h3 n;have:=zc p.ls n;simp only[ZK];omega
def qh{P:List YG}(hP:∀p∈P,p.fs.length<=1000000/\p.ls.length<=2000000)(k:Nat):(bO .nil P k).parts<=P.length*1000000/\(bO .nil P k).B'<=P.length/\∀n,(bO .nil P k).shown n<=P.length*2000000:=by
 obtain⟨h1,h2,h3⟩:=vm (P.take k) .nil λp hp=>hP p (pz hp);have hl:(P.take k).length<=P.length:=by rw[fY];omega
 have e:bO .nil P k=(P.take k).foldl eF .nil:=rfl;have z1:ZF.nil.parts=0:=rfl;have z2:ZF.nil.B'=0:=rfl;have z3:∀n,ZF.nil.shown n=0:=λ_=>rfl;rw[<-e]at h1 h2 h3;exact⟨by omega,by omega,λn=>by have:=h3 n;rw[z3]at this;omega⟩
def eJ.C'{b:Bk}{t:ZF}{K U:af}{i im j:Nat}{o:Ob}(h:eJ b t K U i im)(hi:j≠i)(hm:j≠im)(hK:aa K (C' U j o)):eJ b t K (Vc.C' U j o) i im:=by
 obtain⟨es,ck,env,g1,g2⟩:=h.mp;exact⟨(ae (Ne.symm hi)).trans h.row,⟨es,ck,env,(ae (Ne.symm hm)).trans g1,g2⟩,h.ni,h.nm,hK⟩
def Gb(b:Bk)(vp:V)(P:List YG)(hlP:cW false vp=some (.int .i64 P.length))(hiP:∀(U:af) (i:Nat) (h:i<P.length),bo U 5 vp (.int .i64 i)=some (.rp (aM P[i])))
 (hP:∀p∈P,p.fs.length<=1000000/\p.ls.length<=2000000)(hPl:P.length<=10000000000)(U:af):
 au prog 27 [pN b,vp] U λr Z'=>∃i im,r=.ptr i 0 0/\eJ b (bO .nil P P.length) U Z' i im:=by
 refine e27.r (by simp[c27]) ?_;have hs:=aa.refl U;have Zw:∀p:YG,(aM p).cells=[vI p.no,vI p.kind,aI p.hs,aI p.fs,aI p.ls]:=λ_=>rfl;have hps:∀p:YG,(aM p).stays=true:=λ_=>rfl;have ldP:∀(U:af) (p:YG),bB U true 5 (.rp (aM p))=some (aM p):=λ_ _=>rfl;refine ab.mix 9 ?_;apply sR;simp only[go_sem,seval,c27,dy,pt];refine ad λi2 Z2 s2 a2 f2=>?_;replace hs:=hs.trans s2;simp only[go_sem,seval,a2,dy];refine ab.mkMap rfl rfl λim fm=>?_;have hmc:(V.mp im).cells=[.mp im]:=rfl;have hms:(V.mp im).stays=true:=rfl;have n2m:i2≠im:=ao a2 fm;have zm:=hs.none fm;have hm0:l6 .i64 (C' Z2 im (gh (.map #[] 0) [])) im (shF .nil):=⟨#[],0,[],ag,⟨rfl,by simp,λm=>rfl,by simp⟩⟩
 replace a2:=(ae (o:=gh (.map #[] 0) []) n2m).trans a2;replace hs:=hs.ax (o:=gh (.map #[] 0) []) zm;generalize C' Z2 im (gh (.map #[] 0) [])=J at*;apply sR;simp only[go_sem,seval,hmc,hms];refine ad λi11 Z11 s11 a11 f11=>?_;have z11:=hs.none f11;replace hs:=hs.trans s11;have hJ0:eJ b .nil U Z11 i11 im:=⟨by rw[a11];rfl,hm0.sub s11,z11,zm,hs⟩
 simp only[go_sem,seval,hlP];have htb:=qh hP;generalize Z11=X' at*;clear hs a11 a2 hm0;refine ab.loop (λm st=>∃j:Nat,j<=P.length/\m=P.length-j/\eJ b (bO .nil P j) U st.U i11 im/\st.s 5=.ptr i11 0 0/\st.s 12=vp/\st.s 13=vI P.length/\st.s 14=vI j) P.length ?_ ?_
 .exact⟨0,by omega,rfl,hJ0,rfl,rfl,rfl,rfl⟩
 .rintro m ⟨S,ω⟩ ⟨j,hj,rfl,hJ,t5,t12,t13,t14⟩;simp only at hJ t5 t12 t13 t14;refine ab.mix 9 ?_;by_cases H':j<P.length
  .have q1:((j:Int)<P.length)=True:=Yd;have hi:=λU=>hiP U j H';have hts:bO .nil P (j+1)=eF (bO .nil P j) P[j]:=te (Zq6 H');obtain⟨b1,b2⟩:=hP _ (Zr H');obtain⟨b3,b4,b5⟩:=htb j;generalize P[j]=p at*;have hs:=aa.refl ω;apply sR;simp only[go_sem,seval,t12,t13,t14,q1,hi,ldP];refine ad λi7 Z7 s7 a7 f7=>?_;have z7:=hs.none f7;replace hs:=hs.trans s7;simp only[go_sem,seval,a7,t5,Zw,hps];generalize hq7:C' _ i7 _=Y7;replace a7:=(congrFun hq7 i7).symm.trans ag;replace hs:=Eq.subst (motive:=aa _) hq7 (hs.ax z7);clear hq7;have hJ7:=hJ.mono hs;apply sR;simp only[go_sem,seval];refine ab.call rfl rfl rfl (AR b _ p (by omega) (by omega) (λn=>by have:=b5 n;omega) (by omega) hJ7) ?_;rintro r Z' ⟨rfl,hJ'⟩;have r1:Yl .i64 ((j:Int)+1):=ai;apply sR;simp only[go_sem,seval,t14,t5,t12,t13,r1];exact⟨_,by omega,j+1,by omega,rfl,by rw[hts];exact hJ',by simp⟩
  .have q1:((j:Int)<P.length)=False:=T';have hje:j=P.length:=by omega
   subst hje;apply sR;simp only[go_sem,seval,t13,t14,t5,q1];exact⟨_,_,aa.refl _,Wk.refl (aa.refl _) _,i11,im,rfl,hJ⟩
open Go.Proofs Go.Proofs.Tryz
def F2(b:Bk)(t:ZF)(s:Zf)(f:U'):Bool:=ij b f s&&decide (t.shown f.node=0)
def J6(b:Bk)(t:ZF)(s:Zf)(f:U'){K U:af}{i im i1 i4:Nat}(hJ:eJ b t K U i im)(a1:U i1=some ⟨86,1,[.ptr i 0 0]⟩)(a4:U i4=some ⟨42,3,[aV s]⟩):
 au prog 122 [aK f,.ptr i1 0 0,.ptr i4 0 0] U λr Z'=>r=.bool (F2 b t s f)/\Z'=U:=by
 refine UZ.r (by simp[Sx]) ?_;have hs:=aa.refl U;have hfc:∀f:U',(aK f).cells=[vI f.node,vI f.side,vI f.anchor,vI f.x,vI f.y,vI f.w,vI f.h]:=λ_=>rfl;have hfs:∀f:U',(aK f).stays=true:=λ_=>rfl;have hfa:∀f:U',V.agg [vI f.node,vI f.side,vI f.anchor,vI f.x,vI f.y,vI f.w,vI f.h]=aK f:=λ_=>rfl;have ZA:=Hy b f s;refine ab.mix 5 ?_
 (refine ab.bg ZQ.nothing 6 ?_;simp only[go_sem,seval,Sx,hfc,hfs])
 refine ad λi3 Z3 s3 a3 f3=>?_;replace hs:=hs.trans s3;simp only[go_sem,seval,fw];have hJ3:=hJ.mono s3;have h0:=hJ3.row;unfold mo at h0;replace a1:=s3 _ _ a1;replace a4:=s3 _ _ a4;have hg:(shF t f.node).getD (V.int .i64 0)=vI (t.shown f.node):=by
  unfold shF;split
  .rename_i h;rw[h];rfl
  .rfl
 unfold F2;refine ab.SS [14] rfl (XC.go 14 ?_);apply sG;simp only[go_sem,seval,h0,a1,a3,a4,hfc,dx,pA,List.take_zero];rw[<-pN,<-aV,hfa];refine Go.cm rfl rfl rfl ZA ?_;cases hc:ij b f s
 .apply sG;simp only[go_sem,seval];refine XC.skip rfl (XC.go 3 ?_);apply sG;simp only[go_sem,seval,pA,List.take_zero];refine XC.nil ?_;apply sR;simp only[go_sem,seval];exact ak.pure hs rfl
 .apply sG;simp only[go_sem,seval,h0,a1,a3,hfc];refine XC.tJ (by decide) rfl rfl rfl hJ3.mp rfl (XC.go 3 ?_);by_cases hz:t.shown f.node=0
  .have q:((t.shown f.node:Int)=0)=True:=Yd;rw[ZG hz];apply sG;simp only[go_sem,seval,hg,q,pA,List.take_zero];refine XC.nil ?_;apply sR;simp only[go_sem,seval];exact ak.pure hs rfl
  .have q:((t.shown f.node:Int)=0)=False:=T';rw[Zu hz];apply sG;simp only[go_sem,seval,hg,q,pA,List.take_zero];refine XC.nil ?_;apply sR;simp only[go_sem,seval];exact ak.pure hs rfl
open Go.Proofs Go.Proofs.Tryz
def ic(b:Bk)(t:ZF):ZY:=if fH b t=true then⟨kO b t,b.X8.filter (F2 b t (kO b t))⟩else⟨⟨0,0,false⟩,[]⟩
def tN{b:Bk}{t:ZF}{s:ZY}(h:stateT b t=some s):ic b t=s/\fH b t=true:=by
 unfold stateT at h;cases hs:gM b t with
 |none=>rw[hs]at h;cases h
 |some s0=>
  rw[hs]at h;have hB:fH b t=true:=by rw[yz,hs];rfl
  refine⟨?_,hB⟩;unfold ic;rw[ar hB,B1 hs];exact Option.some.inj h
def Ci{b:Bk}{t:ZF}(h:stateT b t=none):fH b t=false:=by
 unfold stateT at h;cases hs:gM b t with
 |none=>rw[yz,hs];rfl
 |some s0=>rw[hs]at h;cases h
def Dx(b:Bk)(hb:BkOk b)(t:ZF){K U:af}{i im:Nat}(hJ:eJ b t K U i im):
 au prog 64 [.ptr i 0 0] U λr Z'=>r=.P' [bF (ic b t),.bool (fH b t)]/\Z'=U:=by
 refine e64.r (by simp[c64]) ?_;have hs:=aa.refl U;have hfl:=hb.flen;have hln:=fX b.X8;have hfc:∀f:U',(aK f).cells=[vI f.node,vI f.side,vI f.anchor,vI f.x,vI f.y,vI f.w,vI f.h]:=λ_=>rfl;have hfa:∀f:U',V.agg [vI f.node,vI f.side,vI f.anchor,vI f.x,vI f.y,vI f.w,vI f.h]=aK f:=λ_=>rfl;refine ab.mix 10 ?_;apply sR;simp only[go_sem,seval,c64];refine ad λi1 Z1 s1 a1 f1=>?_;replace hs:=hs.trans s1;simp only[go_sem,seval];refine ad λi2 Z2 s2 a2 f2=>?_;replace a1:=s2 _ _ a1;have z2:=hs.none f2;replace hs:=hs.trans s2;have hJ2:=hJ.mono hs;simp only[go_sem,seval,a1];refine ab.ay rfl rfl rfl (IK b hb t hJ2) ?_;unfold ic;generalize kO b t=s at*;apply sR;simp only[go_sem,seval];refine ad λi4 Z4 s4 a4 f4=>?_;have n14:=ao a1 f4;replace a1:=s4 _ _ a1;have n24:=ao a2 f4;replace a2:=s4 _ _ a2;have z4:=hs.none f4;replace hs:=hs.trans s4;simp only[go_sem,seval,a4,dx,wi];generalize hq4:C' _ i4 _=Y4;replace a4:=(congrFun hq4 i4).symm.trans ag;replace a1:=((congrFun hq4 i1).symm.trans (ae n14)).trans a1;replace a2:=((congrFun hq4 i2).symm.trans (ae n24)).trans a2;replace hs:=Eq.subst (motive:=aa _) hq4 (hs.ax z4);clear hq4;have hJ4:=hJ.mono hs;cases hB:fH b t
 .simp only[go_sem,seval,a2];have Ye:=hs.ax (o:=⟨45,4,[.agg [vI 0,vI 0,.bool false,.aC]]⟩) z2;exact⟨_,U,Ye,Wk.P' (vs':=[bF ⟨⟨0,0,false⟩,[]⟩,.bool false]) ⟨Wk.agg (vs':=[vI 0,vI 0,.bool false,aG []]) ⟨Wk.refl Ye _,Wk.refl Ye _,Wk.refl Ye _,Wk.aC 7,trivial⟩,Wk.refl Ye _,trivial⟩,rfl,rfl⟩
 .have h0:=hJ4.row;unfold mo at h0;have ha4:=a4;rw[aV]at ha4;simp only[go_sem,seval,a4,dx];have hs4:=hs;refine ad λi6 Z6 s6 a6 f6=>?_;simp only[go_sem,seval,a6];generalize hq6:C' Z6 i6 _=Y6;have sA:aa Y4 Y6:=by rw[<-hq6];exact s6.ax f6
  replace a6:=(congrFun hq6 i6).symm.trans ag;clear hq6;have b1:=sA _ _ a1;simp only[go_sem,seval,b1,sA _ _ hJ4.row,mo,hln];generalize hW:F2 b t s=W;have Zg:b.X8.filter W=(b.X8.take b.X8.length).filter W:=by rw[hU]
  refine ab.fj (λst=>∃v,aa Y4 st.U/\st.U i6=some ⟨45,4,[.agg [vI s.atom,vI s.done,.bool s.free,v]]⟩/\aL (aU Y4 i6) st.U 150 7 v ((b.X8.filter W).map aK)/\st.s 2=.ptr i2 0 0/\st.s 6=.ptr i6 0 0)
   (λm st=>∃(j:Nat) (v:V),j<=b.X8.length/\m=b.X8.length-j/\aa Y4 st.U/\st.U i6=some ⟨45,4,[.agg [vI s.atom,vI s.done,.bool s.free,v]]⟩/\aL (aU Y4 i6) st.U 150 7 v (((b.X8.take j).filter W).map aK)/\st.s 2=.ptr i2 0 0/\st.s 6=.ptr i6 0 0/\st.s 7=.fn 122 [.ptr i1 0 0,.ptr i4 0 0]/\st.s 26=aG b.X8/\st.s 27=vI b.X8.length/\st.s 28=vI j) b.X8.length ?_ ?_ ?_
  .exact⟨0,.aC,by omega,rfl,sA,a6,aL.start,rfl,rfl,rfl,rfl,rfl,rfl⟩
  .clear a6 b1 sA;rintro m ⟨S,ω⟩ ⟨j,v,hj,rfl,sA,a6,ho,t2,t6,t7,t26,t27,t28⟩;simp only at sA a6 ho t2 t6 t7 t26 t27 t28;refine ab.mix 10 ?_;by_cases H':j<b.X8.length
   .have q1:((j:Int)<b.X8.length)=True:=Yd;have X2:=λU=>j2 (U:=U) H';have Zb:=Zq0 H';have r1:Yl .i64 ((j:Int)+1):=ai;have hln2:((b.X8.take j).filter W).length<=1000000:=by
     have:=List.length_filter_le W (b.X8.take j);rw[fY]at this;omega
    generalize b.X8[j]=f at*;have hs:=aa.refl ω;obtain⟨hvc,hvs⟩:=ho.vc;apply sR;simp only[go_sem,seval,t26,t27,t28,q1,X2];refine ad λi9 Z9 s9 a9 f9=>?_;have n69:=ao a6 f9;replace a6:=s9 _ _ a6;have z9:=hs.none f9;replace hs:=hs.trans s9;simp only[go_sem,seval,a9,t7,hfc];generalize Zs:C' _ i9 _=Y9;replace a9:=(congrFun Zs i9).symm.trans ag;replace a6:=((congrFun Zs i6).symm.trans (ae n69)).trans a6;replace hs:=Eq.subst (motive:=aa _) Zs (hs.ax z9);clear Zs;apply sR;simp only[go_sem,seval];rw[hfa];have hsA:=sA.trans hs;refine ab.ay rfl rfl rfl (J6 b t s f (hJ4.mono hsA) (hsA _ _ a1) (hsA _ _ a4)) ?_;rw[hW];have ho9:=ho.mono hs;cases hwf:W f
    .have htf:(b.X8.take (j+1)).filter W=(b.X8.take j).filter W:=by rw[Zb,List.filter_append];simp[hwf]
     apply sR;simp only[go_sem,seval,t2,t6,t7,t26,t27,t28,r1];exact⟨_,by omega,j+1,v,by omega,rfl,hsA,a6,by rw[htf];exact ho9,by simp⟩
    .have htf:(b.X8.take (j+1)).filter W=(b.X8.take j).filter W++[f]:=by rw[Zb,List.filter_append];simp[hwf]
     apply sR;simp only[go_sem,seval,t6,a6,a9];rw[hfa];refine ad λi38 Z38 s38 a38 f38=>?_;have ho38:=ho9.mono s38;obtain⟨Yn,ZV,hgr⟩:=zu (hsA.trans s38) f6 (s38 _ _ a6) ho38;have Zl:(((b.X8.take j).filter W).map aK).length+1<=1000001:=by rw[cL];omega
     generalize hrw:((b.X8.take j).filter W).map aK=rows at*;have hb3:(rows.length+1)*57<=140737488355328:=by omega
     simp only[go_sem,seval,ZV,cT a38,hb3];refine cO λi39 Z39 s39 a39 f39=>?_;obtain⟨c6,hg⟩:=hgr Z39 i39 _ s39 a39 f39;obtain⟨g1,g2,-⟩:=hg ⟨45,4,[.agg [vI s.atom,vI s.done,.bool s.free,.own i39 0 (rows.length+1)]]⟩;simp only[go_sem,seval,c6,t2,t6,t7,t26,t27,t28,r1];have hle:(rows++[aK f]).length=rows.length+1:=by simp
     rw[hle]at g2;exact⟨_,by omega,j+1,.own i39 0 (rows.length+1),by omega,rfl,g1,rfl,by rw[htf,gl,hrw];exact g2,by simp⟩
   .have q1:((j:Int)<b.X8.length)=False:=T';have hje:j=b.X8.length:=by omega
    rw[hje,hU]at ho;apply sR;simp only[go_sem,seval,t2,t6,t27,t28,q1];exact⟨v,sA,a6,ho⟩
  .rintro⟨S,ω⟩ ⟨v,sA',a6',ho,t2,t6⟩;simp only at sA' a6' ho t2 t6;obtain⟨hvc,hvs⟩:=ho.vc;refine ab.mix 10 ?_;have b2:=sA' _ _ a2;apply sR;simp only[go_sem,seval,t2,t6,a6',b2];have Ye:=(hs4.trans sA').ax (o:=⟨45,4,[.agg [vI s.atom,vI s.done,.bool s.free,v]]⟩) z2;have n26:i2≠i6:=λe=>by rw[<-e]at f6;rw[f6]at a2;cases a2
   have hk2:aU Y4 i6 i2≠none:=by rw[aU,av n26,a2];simp
   have hK:aa U (aU Y4 i6):=λj o hh=>by
    have h1:=hs4 _ _ hh;rw[aU,av (λe=>by rw[e,f6]at h1;cases h1)];exact h1
   exact⟨_,U,Ye,Wk.P' (vs':=[bF ⟨s,b.X8.filter W⟩,.bool true]) ⟨Wk.agg (vs':=[vI s.atom,vI s.done,.bool s.free,aG (b.X8.filter W)]) ⟨Wk.refl Ye _,Wk.refl Ye _,Wk.refl Ye _,(ho.ae hk2).wk hK Ye,trivial⟩,Wk.refl Ye _,trivial⟩,rfl,rfl⟩
open Go.Proofs Go.Proofs.Tryz
def Hz{b:Bk}(hb:BkOk b){s:ZY}(h:kz b s):s.bJ.length<=1000000:=by
 have h1:=(CY _ 0 h.1).length_le;rw[yq]at h1;have:=hb.flen;omega
def yi(b:Bk)(t:ZF)(no:Int):YG:=if(b.atoms.length:Int)+b.X8.length=0 then⟨no,3,[],[],[]⟩else(dB b t no).getD ⟨0,0,[],[],[]⟩
def yU{b:Bk}{t:ZF}{no:Int}{p:YG}(h:dB b t no=some p):yi b t no=p:=by
 unfold yi;split
 .rename_i h0;unfold dB at h;rw[ar h0]at h;split at h
  .exact Option.some.inj h
  .cases h
 .rw[h];rfl
def nT{U J:af}(hs:aa U J)(n k:Int)(x:Bool):ak (.P' [.agg [vI n,vI k,.aC,.aC,.aC],.bool x]) J λr Z'=>r=.P' [aM ⟨n,k,[],[],[]⟩,.bool x]/\Z'=U:=
 ⟨_,U,hs,Wk.P' (vs':=[aM ⟨n,k,[],[],[]⟩,.bool x]) ⟨Wk.agg (vs':=[vI n,vI k,aI [],aI [],aI []]) ⟨Wk.refl hs _,Wk.refl hs _,Wk.aC 7,Wk.aC 7,Wk.aC 7,trivial⟩,Wk.refl hs _,trivial⟩,rfl,rfl⟩
def xD(b:Bk)(hb:eT b)(t:ZF)(no:Int)(Yx:0<=no){K U:af}{i im:Nat}(hJ:eJ b t K U i im):
 au prog 28 [.ptr i 0 0,vI no] U λr Z'=>r=.P' [aM (yi b t no),.bool (dB b t no).isSome]/\Z'=U:=by
 refine e28.r (by simp[c28]) ?_;have hs:=aa.refl U;have Zw:∀p:YG,(aM p).cells=[vI p.no,vI p.kind,aI p.hs,aI p.fs,aI p.ls]:=λ_=>rfl;have hps:∀p:YG,(aM p).stays=true:=λ_=>rfl;have h0:=hJ.row;unfold mo at h0;have ZE:=hb.brk;have hal:=hb.len;have hec:=Km b hb.toBkOk;refine ab.mix 11 ?_;apply sR;simp only[go_sem,seval,c28];refine ad λi4 Z4 s4 a4 f4=>?_;have z4:=hs.none f4;replace hs:=hs.trans s4;replace h0:=s4 _ _ h0;simp only[go_sem,seval,h0];rw[<-pN];refine ab.ay rfl rfl rfl (hec _) ?_;by_cases he0:(b.atoms.length:Int)+b.X8.length=0
 .rw[ZG he0];have eP:yi b t no=⟨no,3,[],[],[]⟩:=by unfold yi;rw[ar he0]
  rw[eP];by_cases h1:no=1
  .have q1:(no=1)=True:=Yd h1;have eA:(dB b t no).isSome=true:=by unfold dB;rw[ar he0,ar h1];rfl
   rw[eA];apply sR;simp only[go_sem,seval,a4,q1];exact nT (hs.ax z4) _ _ _
  .have q1:(no=1)=False:=T' h1;have eA:(dB b t no).isSome=false:=by unfold dB;rw[ar he0,av h1];rfl
   rw[eA];apply sR;simp only[go_sem,seval,a4,q1];exact nT (hs.ax z4) _ _ _
 rw[Zu he0];have hJ4:=hJ.mono hs;have eP:yi b t no=(dB b t no).getD ⟨0,0,[],[],[]⟩:=by unfold yi;rw[av he0]
 rw[eP];clear eP;have eA:dB b t no=match stateT b t with
  |none=>none
  |some s=>if eH b s then none else if lV b (aP b s).1 s.s no then some ⟨no,3,[],[],[]⟩else some { (aP b s).1 with no:=no }:=by
  unfold dB;rw[av he0];rfl
 apply sR;simp only[go_sem,seval];refine ab.ay rfl rfl rfl (Dx b hb.toBkOk t hJ4) ?_;have hcase:stateT b t=none/\fH b t=false\/∃s,stateT b t=some s/\ic b t=s/\fH b t=true:=by
  cases h:stateT b t with
  |none=>exact .inl ⟨rfl,Ci h⟩
  |some s=>exact .inr ⟨s,rfl,tN h⟩
 generalize ic b t=s at*;apply sR;simp only[go_sem,seval];refine ad λi6 Z6 s6 a6 f6=>?_;have n46:=ao a4 f6;replace a4:=s6 _ _ a4;have z6:=hs.none f6;replace hs:=hs.trans s6;simp only[go_sem,seval,a6,dg,gq];generalize hq6:C' _ i6 _=Y6;replace a6:=(congrFun hq6 i6).symm.trans ag;replace a4:=((congrFun hq6 i4).symm.trans (ae n46)).trans a4;replace hs:=Eq.subst (motive:=aa _) hq6 (hs.ax z6);clear hq6;rcases hcase with⟨e1,e2⟩|⟨s',e1,rfl,e2⟩
 .rw[e1]at eA;simp only at eA;rw[e2,eA];simp only[go_sem,seval,a4];exact nT (hs.ax z4) _ _ _
 rw[e1]at eA;simp only at eA;rw[e2];have hJ6:=hJ.mono hs;have h0:=hJ6.row;unfold mo at h0;have hpl:s.bJ.length<=1000000:=by
  unfold stateT at e1;cases Ys:gM b t with
  |none=>rw[Ys]at e1;cases e1
  |some s0=>
   rw[Ys]at e1;have:=Option.some.inj e1;rw[<-this];exact jI (List.length_filter_le _ _) hb.flen
 simp only[go_sem,seval,h0,a6,dg];rw[<-bF];refine Go.cm rfl rfl rfl (zU b hb.toBkFull s hpl) ?_;by_cases hends:eH b s
 .rw[ar hends]at eA;rw[ZG hends,eA];apply sG;simp only[go_sem,seval,a4];exact nT (hs.ax z4) _ _ _
 rw[av hends]at eA;rw[Zu hends];have ZC:kz b s:=Decidable.byContradiction λh=>hends (.inl h);have hat:0<=s.s.atom/\s.s.atom<b.Ym.length:=by
  rcases ZC.2 with h|h
  .have:=h.1;omega
  .omega
 have hpg:=Fs b hb.toBkFull hb.fh s hpl;rw[av hends]at hpg;have hsd:=LQ b (by omega) (aP b s).1 s.s hat.1 hat.2 no Yx;generalize aP b s=X at*;obtain⟨p,nx⟩:=X;simp only at hpg hsd eA;have fin:∀(S:Nat->V) (J:af) (i8:Nat) (G':aa Y6 J) (z8:Y6 i8=none) (a8:J i8=some ⟨37,5,[aM p]⟩) (t0:S 0=.ptr i 0 0) (t1:S 1=vI no) (t4:S 4=.ptr i4 0 0) (t6:S 6=.ptr i6 0 0) (t8:S 8=.ptr i8 0 0),
  ab prog 62 [It.code c28.code.rt.rt.rt.rt.rt] ⟨S,J⟩ λst=>Ret [.cell true 5 (.t 4),.tmp (.t 5)] st λr Z'=>r=.P' [aM ((dB b t no).getD ⟨0,0,[],[],[]⟩),.bool (dB b t no).isSome]/\Z'=U:=by
  intro S J i8 G' z8 a8 t0 t1 t4 t6 t8;have b0:=G' _ _ h0;have b4:=G' _ _ a4;have b6:=G' _ _ a6;have n48:i4≠i8:=ao a4 z8;have z8':=hs.none z8;have hsZ:=hs.trans G';refine ab.mix 11 ?_;apply sR;simp only[go_sem,seval,c28,bf.rt,t0,t1,t6,t8,b0,a8,b6,dg,Zw];rw[<-pN,Mp];refine ab.ay rfl rfl rfl (hsd _) ?_;by_cases hsi:lV b p s.s no
  .rw[ar hsi]at eA;rw[ZG hsi,eA];apply sR;simp only[go_sem,seval,t1,t4,b4];exact nT (hsZ.ax z4) _ _ _
  .rw[av hsi]at eA;rw[Zu hsi,eA];apply sR;simp only[go_sem,seval,t1,t4,t8,b4,a8,Zw,ae n48];exact ak.pure ((hsZ.ax z8').ax z4) rfl
 apply sG;simp only[go_sem,seval,cP];have a8:True:=trivial;have a9:True:=trivial;have YL:=aa.refl Y6;refine ab.Et (by kernel_rfl) 8 (.fork [[],[0],[1,0],[2,1,0],[3,2,1,0],[],[4,5,3,2,1,0],[6,4,5,3,2,1,0],[7,6,4,5,3,2,1,0],[7,6,4,5,3,2,1,0],[7,6,4,5,3,2,1,0],[],[],[11,8,6,0,1,2,3,4,5,7,12],[12,9,13,0,1,2,3,4,5,6,7,8,11],[10,14,0,1,2,3,4,5,6,7,8,9,11,12,13]] [0,1,2,3,4,5] [6,11,12] [(.fork [[],[0],[1,0],[2,1,0],[3,2,1,0],[],[4,5,3,2,1,0],[6,4,5,3,2,1,0],[7,6,4,5,3,2,1,0],[7,6,4,5,3,2,1,0],[7,6,4,5,3,2,1,0],[6,4,5,3,2,1,0],[6,4,5,3,2,1,0],[6,4,5,3,2,1,0,11,8,7,12],[6,4,5,3,2,1,0,12,9,13,7,8,11],[6,4,5,3,2,1,0,10,14,7,8,9,11,12,13]] [6,7,8,9,10] [11,12] [(.leaf [[],[0],[1,0],[2,1,0],[3,2,1,0],[],[4,5,3,2,1,0],[6,4,5,3,2,1,0],[7,6,4,5,3,2,1,0],[7,6,4,5,3,2,1,0],[7,6,4,5,3,2,1,0],[6,4,5,3,2,1,0],[11,6,4,5,3,2,1,0],[11,6,4,5,3,2,1,0,8,7,12],[11,6,4,5,3,2,1,0,12,9,13,7,8],[11,6,4,5,3,2,1,0,10,14,7,8,9,12,13]] [11,12,13,14,15]),(.leaf [[],[0],[1,0],[2,1,0],[3,2,1,0],[],[4,5,3,2,1,0],[6,4,5,3,2,1,0],[7,6,4,5,3,2,1,0],[7,6,4,5,3,2,1,0],[7,6,4,5,3,2,1,0],[12,6,4,5,3,2,1,0],[6,4,5,3,2,1,0],[12,6,4,5,3,2,1,0,11,8,7],[12,6,4,5,3,2,1,0,9,13,7,8,11],[12,6,4,5,3,2,1,0,10,14,7,8,9,11,13]] [12,11,13,14,15])]),(.fork [[],[0],[1,0],[2,1,0],[3,2,1,0],[],[11,4,5,3,2,1,0],[11,6,4,5,3,2,1,0],[11,7,6,4,5,3,2,1,0],[11,7,6,4,5,3,2,1,0],[11,7,6,4,5,3,2,1,0],[],[11],[11,8,6,0,1,2,3,4,5,7,12],[11,12,9,13,0,1,2,3,4,5,6,7,8],[11,10,14,0,1,2,3,4,5,6,7,8,9,12,13]] [11] [6,12] [(.leaf [[],[0],[1,0],[2,1,0],[3,2,1,0],[],[11,4,5,3,2,1,0],[11,6,4,5,3,2,1,0],[11,7,6,4,5,3,2,1,0],[11,7,6,4,5,3,2,1,0],[11,7,6,4,5,3,2,1,0],[],[6,11,4,5,3,2,1,0],[6,11,4,5,3,2,1,0,8,7,12],[6,11,4,5,3,2,1,0,12,9,13,7,8],[6,11,4,5,3,2,1,0,10,14,7,8,9,12,13]] [6,7,8,9,10,12,13,14,15]),(.leaf [[],[0],[1,0],[2,1,0],[3,2,1,0],[],[12,11,4,5,3,2,1,0],[12,11,6,4,5,3,2,1,0],[12,11,7,6,4,5,3,2,1,0],[12,11,7,6,4,5,3,2,1,0],[12,11,7,6,4,5,3,2,1,0],[],[11],[12,11,8,6,0,1,2,3,4,5,7],[12,11,9,13,0,1,2,3,4,5,6,7,8],[12,11,10,14,0,1,2,3,4,5,6,7,8,9,13]] [12,6,7,8,9,10,13,14,15])]),(.fork [[],[0],[1,0],[2,1,0],[3,2,1,0],[],[12,4,5,3,2,1,0],[12,6,4,5,3,2,1,0],[12,7,6,4,5,3,2,1,0],[12,7,6,4,5,3,2,1,0],[12,7,6,4,5,3,2,1,0],[12],[],[12,11,8,6,0,1,2,3,4,5,7],[12,9,13,0,1,2,3,4,5,6,7,8,11],[12,10,14,0,1,2,3,4,5,6,7,8,9,11,13]] [12] [6,11] [(.leaf [[],[0],[1,0],[2,1,0],[3,2,1,0],[],[12,4,5,3,2,1,0],[12,6,4,5,3,2,1,0],[12,7,6,4,5,3,2,1,0],[12,7,6,4,5,3,2,1,0],[12,7,6,4,5,3,2,1,0],[6,12,4,5,3,2,1,0],[],[6,12,4,5,3,2,1,0,11,8,7],[6,12,4,5,3,2,1,0,9,13,7,8,11],[6,12,4,5,3,2,1,0,10,14,7,8,9,11,13]] [6,7,8,9,10,11,13,14,15]),(.leaf [[],[0],[1,0],[2,1,0],[3,2,1,0],[],[11,12,4,5,3,2,1,0],[11,12,6,4,5,3,2,1,0],[11,12,7,6,4,5,3,2,1,0],[11,12,7,6,4,5,3,2,1,0],[11,12,7,6,4,5,3,2,1,0],[12],[],[11,12,8,6,0,1,2,3,4,5,7],[11,12,9,13,0,1,2,3,4,5,6,7,8],[11,12,10,14,0,1,2,3,4,5,6,7,8,9,13]] [11,6,7,8,9,10,13,14,15])])]) (by kernel_rfl) ?_;refine GT.OE (its:=[0,2,4,6,8,10]) (by kernel_rfl) ?_;refine RE.Zy (n:=0) [] [0,2,4,6,8,10] [⟨(.some 38),(.YH (.t 0)),.none⟩,⟨(.some 39),(.nilCheck (.t 38)),.none⟩,⟨(.some 40),(.YB .true 0 5 (.t 39)),.none⟩,⟨(.some 41),(.YB .false 0 1 (.t 40)),.none⟩,⟨(.some 42),(.load .false 1 (.t 41)),.none⟩,⟨(.some 43),(.load .true 4 (.t 6)),.none⟩] rfl rfl ?_;apply sG;simp only[go_sem,seval,h0,a6,dg];refine⟨?_,?_,?_⟩
 .refine GT.nW (its:=[12,14,16,18,20]) (by kernel_rfl) ?_;rw[<-bF];refine RE.ay rfl rfl rfl rfl rfl (hpg _) ?_;refine RE.Zy (n:=0) [] [14,16,18,20] [⟨(.some 37),(.YH (.t 44)),.none⟩,⟨(.some 45),(.ext 0 (.t 37)),.none⟩,⟨(.some 46),(.ext 1 (.t 37)),.none⟩,⟨(.some 47),(.ext 2 (.t 37)),.none⟩] rfl rfl ?_;apply sG;simp only[go_sem,seval];refine⟨?_,?_⟩
  .refine GT.gr (its:=[22,24,26,28,30]) (by kernel_rfl) ?_;refine RE.Zy (n:=0) [] [22,24,26,28,30] [⟨(.some 8),(.alloc 37 5 (.agg [(.int .i64 0),(.int .i64 0),.aC,.aC,.aC])),.none⟩,⟨(.some 9),(.alloc 45 4 (.agg [(.int .i64 0),(.int .i64 0),(.bool .false),.aC])),.none⟩,⟨.none,(.store 5 (.t 8) (.t 45)),.none⟩,⟨.none,(.store 4 (.t 9) (.t 46)),.none⟩,⟨(.some 10),(.YH (.t 47)),.none⟩] rfl rfl ?_;apply sG;simp only[go_sem,seval];refine aW λi8 Z8 s8 a8 f8=>?_
   try replace hn:=cy (ao a9 f8).symm
   try replace a9:=s8 _ _ a9
   have z8:=YL.none f8;replace h0:=s8 _ _ h0;replace a6:=s8 _ _ a6;replace YL:=YL.trans s8;simp only[go_sem,seval];refine aW λi9 Z9 s9 a9 f9=>?_
   try replace hn:=cy (ao a8 f9)
   try replace a8:=s9 _ _ a8
   have z9:=YL.none f9;replace h0:=s9 _ _ h0;replace a6:=s9 _ _ a6;replace YL:=YL.trans s9;simp only[go_sem,seval,a8,a9,hn,dg,gq,Zw,hps];exact fin _ _ i8 ((YL.ax z8).ax z9) z8 ((hn.2 _ _).trans ag) rfl rfl rfl rfl rfl
  .refine GT.gr (its:=[24,22,26,28,30]) (by kernel_rfl) ?_;refine RE.Zy (n:=0) [] [24,22,26,28,30] [⟨(.some 9),(.alloc 45 4 (.agg [(.int .i64 0),(.int .i64 0),(.bool .false),.aC])),.none⟩,⟨(.some 8),(.alloc 37 5 (.agg [(.int .i64 0),(.int .i64 0),.aC,.aC,.aC])),.none⟩,⟨.none,(.store 5 (.t 8) (.t 45)),.none⟩,⟨.none,(.store 4 (.t 9) (.t 46)),.none⟩,⟨(.some 10),(.YH (.t 47)),.none⟩] rfl rfl ?_;apply sG;simp only[go_sem,seval];refine aW λi9 Z9 s9 a9 f9=>?_
   try replace hn:=cy (ao a8 f9)
   try replace a8:=s9 _ _ a8
   have z9:=YL.none f9;replace h0:=s9 _ _ h0;replace a6:=s9 _ _ a6;replace YL:=YL.trans s9;simp only[go_sem,seval];refine aW λi8 Z8 s8 a8 f8=>?_
   try replace hn:=cy (ao a9 f8).symm
   try replace a9:=s8 _ _ a9
   have z8:=YL.none f8;replace h0:=s8 _ _ h0;replace a6:=s8 _ _ a6;replace YL:=YL.trans s8;simp only[go_sem,seval,a8,a9,hn,dg,gq,Zw,hps];exact fin _ _ i8 ((YL.ax z8).ax z9) z8 ((hn.2 _ _).trans ag) rfl rfl rfl rfl rfl
 .refine GT.nW (its:=[22,9,11]) (by kernel_rfl) ?_;refine RE.Zy (n:=0) [9,11] [22] [⟨(.some 8),(.alloc 37 5 (.agg [(.int .i64 0),(.int .i64 0),.aC,.aC,.aC])),.none⟩] rfl rfl ?_;apply sG;simp only[go_sem,seval];refine aW λi8 Z8 s8 a8 f8=>?_
  try replace hn:=cy (ao a9 f8).symm
  try replace a9:=s8 _ _ a9
  have z8:=YL.none f8;replace h0:=s8 _ _ h0;replace a6:=s8 _ _ a6;replace YL:=YL.trans s8;simp only[go_sem,seval];refine RE.chk rfl rfl rfl rfl rfl trivial (by simp only[go_sem,seval,h0]) ?_;refine RE.chk rfl rfl rfl rfl rfl trivial (by simp only[go_sem,seval,a6,dg]) ?_;refine⟨?_,?_⟩
  .refine GT.gr (its:=[12,14,16,18,20,24,26,28,30]) (by kernel_rfl) ?_;rw[<-bF];refine RE.ay rfl rfl rfl rfl rfl (hpg _) ?_;refine RE.Zy (n:=0) [] [14,16,18,20,24,26,28,30] [⟨(.some 37),(.YH (.t 44)),.none⟩,⟨(.some 45),(.ext 0 (.t 37)),.none⟩,⟨(.some 46),(.ext 1 (.t 37)),.none⟩,⟨(.some 47),(.ext 2 (.t 37)),.none⟩,⟨(.some 9),(.alloc 45 4 (.agg [(.int .i64 0),(.int .i64 0),(.bool .false),.aC])),.none⟩,⟨.none,(.store 5 (.t 8) (.t 45)),.none⟩,⟨.none,(.store 4 (.t 9) (.t 46)),.none⟩,⟨(.some 10),(.YH (.t 47)),.none⟩] rfl rfl ?_;apply sG;simp only[go_sem,seval];refine aW λi9 Z9 s9 a9 f9=>?_
   try replace hn:=cy (ao a8 f9)
   try replace a8:=s9 _ _ a8
   have z9:=YL.none f9;replace h0:=s9 _ _ h0;replace a6:=s9 _ _ a6;replace YL:=YL.trans s9;simp only[go_sem,seval,a8,a9,hn,dg,gq,Zw,hps];exact fin _ _ i8 ((YL.ax z8).ax z9) z8 ((hn.2 _ _).trans ag) rfl rfl rfl rfl rfl
  .refine GT.gr (its:=[24,9,11,12,14,16,18,20,26,28,30]) (by kernel_rfl) ?_;refine RE.Zy (n:=0) [9,11,12,14,16,18,20,26,28,30] [24] [⟨(.some 9),(.alloc 45 4 (.agg [(.int .i64 0),(.int .i64 0),(.bool .false),.aC])),.none⟩] rfl rfl ?_;apply sG;simp only[go_sem,seval];refine aW λi9 Z9 s9 a9 f9=>?_
   try replace hn:=cy (ao a8 f9)
   try replace a8:=s9 _ _ a8
   have z9:=YL.none f9;replace h0:=s9 _ _ h0;replace a6:=s9 _ _ a6;replace YL:=YL.trans s9;simp only[go_sem,seval];refine RE.chk rfl rfl rfl rfl rfl trivial (by simp only[go_sem,seval,h0]) ?_;refine RE.chk rfl rfl rfl rfl rfl trivial (by simp only[go_sem,seval,a6,dg]) ?_;rw[<-bF];refine RE.ay rfl rfl rfl rfl rfl (hpg _) ?_;refine RE.Zy (n:=0) [] [14,16,18,20,26,28,30] [⟨(.some 37),(.YH (.t 44)),.none⟩,⟨(.some 45),(.ext 0 (.t 37)),.none⟩,⟨(.some 46),(.ext 1 (.t 37)),.none⟩,⟨(.some 47),(.ext 2 (.t 37)),.none⟩,⟨.none,(.store 5 (.t 8) (.t 45)),.none⟩,⟨.none,(.store 4 (.t 9) (.t 46)),.none⟩,⟨(.some 10),(.YH (.t 47)),.none⟩] rfl rfl ?_;apply sG;simp only[go_sem,seval,a8,a9,hn,dg,gq,Zw,hps];exact fin _ _ i8 ((YL.ax z8).ax z9) z8 ((hn.2 _ _).trans ag) rfl rfl rfl rfl rfl
 .refine GT.nW (its:=[24,9,11]) (by kernel_rfl) ?_;refine RE.Zy (n:=0) [9,11] [24] [⟨(.some 9),(.alloc 45 4 (.agg [(.int .i64 0),(.int .i64 0),(.bool .false),.aC])),.none⟩] rfl rfl ?_;apply sG;simp only[go_sem,seval];refine aW λi9 Z9 s9 a9 f9=>?_
  try replace hn:=cy (ao a8 f9)
  try replace a8:=s9 _ _ a8
  have z9:=YL.none f9;replace h0:=s9 _ _ h0;replace a6:=s9 _ _ a6;replace YL:=YL.trans s9;simp only[go_sem,seval];refine RE.chk rfl rfl rfl rfl rfl trivial (by simp only[go_sem,seval,h0]) ?_;refine RE.chk rfl rfl rfl rfl rfl trivial (by simp only[go_sem,seval,a6,dg]) ?_;refine⟨?_,?_⟩
  .refine GT.gr (its:=[12,14,16,18,20,22,26,28,30]) (by kernel_rfl) ?_;rw[<-bF];refine RE.ay rfl rfl rfl rfl rfl (hpg _) ?_;refine RE.Zy (n:=0) [] [14,16,18,20,22,26,28,30] [⟨(.some 37),(.YH (.t 44)),.none⟩,⟨(.some 45),(.ext 0 (.t 37)),.none⟩,⟨(.some 46),(.ext 1 (.t 37)),.none⟩,⟨(.some 47),(.ext 2 (.t 37)),.none⟩,⟨(.some 8),(.alloc 37 5 (.agg [(.int .i64 0),(.int .i64 0),.aC,.aC,.aC])),.none⟩,⟨.none,(.store 5 (.t 8) (.t 45)),.none⟩,⟨.none,(.store 4 (.t 9) (.t 46)),.none⟩,⟨(.some 10),(.YH (.t 47)),.none⟩] rfl rfl ?_;apply sG;simp only[go_sem,seval];refine aW λi8 Z8 s8 a8 f8=>?_
   try replace hn:=cy (ao a9 f8).symm
   try replace a9:=s8 _ _ a9
   have z8:=YL.none f8;replace h0:=s8 _ _ h0;replace a6:=s8 _ _ a6;replace YL:=YL.trans s8;simp only[go_sem,seval,a8,a9,hn,dg,gq,Zw,hps];exact fin _ _ i8 ((YL.ax z8).ax z9) z8 ((hn.2 _ _).trans ag) rfl rfl rfl rfl rfl
  .refine GT.gr (its:=[22,9,11,12,14,16,18,20,26,28,30]) (by kernel_rfl) ?_;refine RE.Zy (n:=0) [9,11,12,14,16,18,20,26,28,30] [22] [⟨(.some 8),(.alloc 37 5 (.agg [(.int .i64 0),(.int .i64 0),.aC,.aC,.aC])),.none⟩] rfl rfl ?_;apply sG;simp only[go_sem,seval];refine aW λi8 Z8 s8 a8 f8=>?_
   try replace hn:=cy (ao a9 f8).symm
   try replace a9:=s8 _ _ a9
   have z8:=YL.none f8;replace h0:=s8 _ _ h0;replace a6:=s8 _ _ a6;replace YL:=YL.trans s8;simp only[go_sem,seval];refine RE.chk rfl rfl rfl rfl rfl trivial (by simp only[go_sem,seval,h0]) ?_;refine RE.chk rfl rfl rfl rfl rfl trivial (by simp only[go_sem,seval,a6,dg]) ?_;rw[<-bF];refine RE.ay rfl rfl rfl rfl rfl (hpg _) ?_;refine RE.Zy (n:=0) [] [14,16,18,20,26,28,30] [⟨(.some 37),(.YH (.t 44)),.none⟩,⟨(.some 45),(.ext 0 (.t 37)),.none⟩,⟨(.some 46),(.ext 1 (.t 37)),.none⟩,⟨(.some 47),(.ext 2 (.t 37)),.none⟩,⟨.none,(.store 5 (.t 8) (.t 45)),.none⟩,⟨.none,(.store 4 (.t 9) (.t 46)),.none⟩,⟨(.some 10),(.YH (.t 47)),.none⟩] rfl rfl ?_;apply sG;simp only[go_sem,seval,a8,a9,hn,dg,gq,Zw,hps];exact fin _ _ i8 ((YL.ax z8).ax z9) z8 ((hn.2 _ _).trans ag) rfl rfl rfl rfl rfl
open Go.Proofs Go.Proofs.Tryz
def mi(a p:YG):V:=.agg [vI a.no,vI a.kind,aI a.hs,aI a.fs,aI a.ls,vI p.no,vI p.kind,aI p.hs,aI p.fs,aI p.ls]
def cM(a p:YG):(mi a p).cells=[vI a.no,vI a.kind,aI a.hs,aI a.fs,aI a.ls,vI p.no,vI p.kind,aI p.hs,aI p.fs,aI p.ls]:=rfl
def jV(a p:YG):(mi a p).stays=true:=rfl
def eD(f:Zh):(bb f).cells=[vI f.node,vI f.atom,vI f.fr,vI f.x,vI f.y,vI f.w,vI f.h]:=rfl
def lN(f:Zh):(bb f).stays=true:=rfl
def Jy(a b:Zh):sK true [0,0,0,0,0,0,0] (bb a) (bb b)=some (.bool (decide (a≠b))):=by
 obtain⟨a1,a2,a3,a4,a5,a6,a7⟩:=a;obtain⟨b1,b2,b3,b4,b5,b6,b7⟩:=b;simp only[sK,bb,jP,gE,lA,vI,ZK,List.length_nil,true_and,↓reduceIte,ne_eq,Zh.mk.injEq];by_cases h1:a1=b1<;>simp[h1]
def AB(a b:List Zh)(h:a.length<=1000000000000000):aJ prog 183 [aI a,aI b] (.bool (decide (a=b))):=
 Pm func183 (TH.b.trans rfl) TH.c bb Jy (λ_ _=>rfl) a b h
def IC{f:FuncId}(p:Zh->Zh->Bool)(xs ys:List Zh)(hx:xs.length<=1000000000000000)(hf:∀x y,aJ prog f [bb x,bb y] (.bool (p x y))):
 aJ prog 184 [aI xs,aI ys,.fn f []] (.bool (uv p xs ys)):=λU=>by
 refine Vd.r (by simp[M7]) ?_;refine ab.mix 10 ?_;have n1:=jo xs;have n2:=jo ys;have ldR:∀(U:af) (f:Zh),bB U true 7 (.rp (bb f))=some (bb f):=λ_ _=>rfl;by_cases hlen:xs.length=ys.length
 .have q:((xs.length:Int)≠ys.length)=False:=T';apply sR;simp only[go_sem,seval,M7,n1,n2,q];refine ab.loop (λm st=>∃j,j<=xs.length/\m=xs.length-j/\uv p xs ys=uv p (xs.drop j) (ys.drop j)/\st.s 1=aI ys/\st.s 2=.fn f []/\st.s 15=aI xs/\st.s 16=.int .i64 xs.length/\st.s 17=.int .i64 j/\aa U st.U) xs.length ⟨0,by omega,rfl,rfl,rfl,rfl,rfl,rfl,rfl,aa.refl _⟩ ?_;rintro m ⟨S,Z'⟩ ⟨j,hj,rfl,ht,t1,t2,t15,t16,t17,hs⟩;simp only at t1 t2 t15 t16 t17 hs;refine ab.mix 10 ?_;by_cases H':j<xs.length
  .have q1:((j:Int)<xs.length)=True:=Yd;have hlt2:j<ys.length:=by omega
   have i1:=λU=>uP (U:=U) H';have i2:=λU=>uP (U:=U) hlt2;have hee:=hf xs[j] ys[j];rw[ia H',ia hlt2,uv]at ht;have r1:Yl .i64 ((j:Int)+1):=ai;generalize xs[j]=x at*;generalize ys[j]=y at*;apply sR;simp only[go_sem,seval,t15,t16,t17,q1,i1,ldR];refine ad λi8 Z8 s8 a8 f8=>?_;have z8:=hs.none f8;replace hs:=hs.trans s8;simp only[go_sem,seval,a8,t1,i2,ldR,eD,lN];generalize hq8:C' _ i8 _=Y8;replace a8:=(congrFun hq8 i8).symm.trans ag;replace hs:=Eq.subst (motive:=aa _) hq8 (hs.ax z8);clear hq8;refine ad λi9 Z9 s9 a9 f9=>?_;have n89:=ao a8 f9;replace a8:=s9 _ _ a8;have z9:=hs.none f9;replace hs:=hs.trans s9;simp only[go_sem,seval,a9,t2,eD,lN];generalize Zs:C' _ i9 _=Y9;replace a9:=(congrFun Zs i9).symm.trans ag;replace a8:=((congrFun Zs i8).symm.trans (ae n89)).trans a8;replace hs:=Eq.subst (motive:=aa _) Zs (hs.ax z9);clear Zs;simp only[go_sem,seval,a8,a9,eD];refine ab.ay rfl rfl rfl (hee _) ?_;cases hp:p x y
   .apply sR;simp only[go_sem,seval];exact ak.pure hs (by rw[ht,hp];rfl)
   .apply sR;simp only[go_sem,seval,t1,t2,t15,t16,t17,r1];exact⟨_,by omega,j+1,by omega,rfl,by rw[ht,hp];rfl,by simp;exact hs⟩
  .have q1:((j:Int)<xs.length)=False:=T';apply sR;simp only[go_sem,seval,t16,t17,q1];refine ak.pure hs ?_;rw[ht,Ah (by omega),Ah (by omega)];rfl
 .have q:((xs.length:Int)≠ys.length)=True:=Yd;apply sR;simp only[go_sem,seval,M7,n1,n2,q];exact ak.same (by rw[C2 hlen])
def wC{α β:Type}[DecidableEq β](g:α->β):∀(l m:List α),uv (λx y=>decide (g x=g y)) l m=decide (l.map g=m.map g)
 |[],[]=>by simp[uv]
 |[],y::m=>by simp[uv]
 |x::l,[]=>by simp[uv]
 |x::l,y::m=>by
  rw[uv,wC g l m];by_cases h:g x=g y
  .simp[h]
  .simp[h]
def LI(x y:Zh):aJ prog 185 [bb x,bb y] (.bool (decide (uE x=uE y))):=λU=>by
 refine VU.r (by simp[PN]) ?_;have hs:=aa.refl U;generalize hX:decide (uE x=uE y)=X;unfold uE at hX;simp only[Prod.mk.injEq]at hX;refine ab.mix 5 ?_;apply sR;simp only[go_sem,seval,PN,eD,lN];refine ad λi2 Z2 s2 a2 f2=>?_;replace hs:=hs.trans s2;simp only[go_sem,seval,eD,lN];refine ad λi3 Z3 s3 a3 f3=>?_;replace a2:=s3 _ _ a2;replace hs:=hs.trans s3;by_cases h1:x.node=y.node
 .have q1:(x.node=y.node)=True:=Yd h1;by_cases h2:x.atom=y.atom
  .have q2:(x.atom=y.atom)=True:=Yd h2;by_cases h3:x.fr=y.fr
   .have q3:(x.fr=y.fr)=True:=Yd h3;by_cases h4:x.h=y.h
    .have q4:(x.h=y.h)=True:=Yd h4;simp only[go_sem,seval,a2,a3,eD,q1,q2,q3,q4];exact ak.pure hs (by rw[<-hX];simp[h1,h2,h3,h4])
    .have q4:(x.h=y.h)=False:=T' h4;simp only[go_sem,seval,a2,a3,eD,q1,q2,q3,q4];exact ak.pure hs (by rw[<-hX];simp[h4])
   .have q3:(x.fr=y.fr)=False:=T' h3;simp only[go_sem,seval,a2,a3,eD,q1,q2,q3];exact ak.pure hs (by rw[<-hX];simp[h3])
  .have q2:(x.atom=y.atom)=False:=T' h2;simp only[go_sem,seval,a2,a3,eD,q1,q2];exact ak.pure hs (by rw[<-hX];simp[h2])
 .have q1:(x.node=y.node)=False:=T' h1;simp only[go_sem,seval,a2,a3,eD,q1];exact ak.pure hs (by rw[<-hX];simp[h1])
def LJ(x y:Zh):aJ prog 186 [bb x,bb y] (.bool (decide (x.node=y.node))):=λU=>by
 refine Xd.r (by simp[Rx]) ?_;have hs:=aa.refl U;refine ab.mix 5 ?_;apply sR;simp only[go_sem,seval,Rx,eD,lN];refine ad λi2 Z2 s2 a2 f2=>?_;replace hs:=hs.trans s2;simp only[go_sem,seval,eD,lN];refine ad λi3 Z3 s3 a3 f3=>?_;replace a2:=s3 _ _ a2;replace hs:=hs.trans s3;simp only[go_sem,seval,a2,a3,eD];exact ak.pure hs rfl
open Go.Proofs Go.Proofs.Tryz
def okR(a p:YG):Nat->Bool
 |1=>decide (p.no=a.no)
 |2=>decide (a.kind≠3\/p.kind=3)
 |3=>decide (p.kind=a.kind/\(a.kind≠3\/¬((p.hs.length:Int)+p.fs.length+p.ls.length>0)))
 |4=>decide (p.hs=a.hs)
 |5=>decide (p.fs.map uE=a.fs.map uE)
 |6=>decide (p.fs=a.fs)
 |7=>decide (p.ls.map (·.node)=a.ls.map (·.node))
 |8=>decide (p.ls=a.ls)
 |_=>true
def ly(p:YG):Prop:=p.hs.length<=1000000000000000/\p.fs.length<=1000000000000000/\p.ls.length<=1000000000000000
def Hs(a p:YG):aJ prog 124 [mi a p] (.bool (okR a p 1)):=λU=>by
 refine XY.r (by simp[QF]) ?_;have hs:=aa.refl U;refine ab.mix 3 ?_;apply sR;simp only[go_sem,seval,QF,cM,jV];refine ad λi1 Z1 s1 a1 f1=>?_;replace hs:=hs.trans s1;simp only[go_sem,seval,a1,cM];exact ak.pure hs rfl
def Ms(a p:YG):aJ prog 125 [mi a p] (.bool (okR a p 2)):=λU=>by
 refine Xg.r (by simp[QE]) ?_;have hs:=aa.refl U;generalize hX:okR a p 2=X;simp only[okR]at hX;refine ab.mix 3 ?_;apply sR;simp only[go_sem,seval,QE,cM,jV];refine ad λi1 Z1 s1 a1 f1=>?_;replace hs:=hs.trans s1;by_cases h1:a.kind=3
 .have q1:(a.kind≠3)=False:=T' λh=>h h1;simp only[go_sem,seval,a1,q1,cM];exact ak.pure hs (by rw[<-hX];simp[h1])
 .have q1:(a.kind≠3)=True:=Yd h1;simp only[go_sem,seval,a1,q1,cM];exact ak.pure hs (by rw[<-hX];simp[h1])
def MM(a p:YG)(hp:ly p):aJ prog 126 [mi a p] (.bool (okR a p 3)):=λU=>by
 refine XV.r (by simp[Rr]) ?_;have hs:=aa.refl U;generalize hX:okR a p 3=X;simp only[okR]at hX;have l1:=jo p.hs;have l2:=jo p.fs;have l3:=jo p.ls;obtain⟨g1,g2,g3⟩:=hp;have r1:Yl .i64 ((p.hs.length:Int)+p.fs.length):=ai;have r2:Yl .i64 ((p.hs.length:Int)+p.fs.length+p.ls.length):=ai;refine ab.mix 4 ?_;apply sR;simp only[go_sem,seval,Rr,cM,jV];refine ad λi1 Z1 s1 a1 f1=>?_;replace hs:=hs.trans s1;by_cases h1:p.kind=a.kind
 .have q1:(p.kind=a.kind)=True:=Yd h1;by_cases h2:a.kind=3
  .have q2:(a.kind≠3)=False:=T' λh=>h h2;by_cases h3:(p.hs.length:Int)+p.fs.length+p.ls.length>0
   .have q3:((p.hs.length:Int)+p.fs.length+p.ls.length>0)=True:=Yd h3;simp only[go_sem,seval,a1,q1,q2,q3,l1,l2,l3,r1,r2,cM];exact ak.pure hs (by rw[<-hX,Zu λh=>h.2.elim (λg=>g h2) λg=>g h3])
   .have q3:((p.hs.length:Int)+p.fs.length+p.ls.length>0)=False:=T' h3;simp only[go_sem,seval,a1,q1,q2,q3,l1,l2,l3,r1,r2,cM];exact ak.pure hs (by rw[<-hX,ZG ⟨h1,.inr h3⟩])
  .have q2:(a.kind≠3)=True:=Yd h2;simp only[go_sem,seval,a1,q1,q2,l1,l2,l3,r1,r2,cM];exact ak.pure hs (by rw[<-hX,ZG ⟨h1,.inl h2⟩])
 .have q1:(p.kind=a.kind)=False:=T' h1;simp only[go_sem,seval,a1,q1,l1,l2,l3,r1,r2,cM];exact ak.pure hs (by rw[<-hX,Zu λh=>h1 h.1])
def K3(a p:YG)(hp:ly p):aJ prog 127 [mi a p] (.bool (okR a p 4)):=λU=>by
 refine Wt.r (by simp[P5]) ?_;have hs:=aa.refl U;have hc:=AB p.hs a.hs hp.1;refine ab.mix 3 ?_;apply sR;simp only[go_sem,seval,P5,cM,jV];refine ad λi1 Z1 s1 a1 f1=>?_;replace hs:=hs.trans s1;simp only[go_sem,seval,a1,cM];refine ab.ay rfl rfl rfl (hc _) ?_;apply sR;simp only[go_sem,seval];exact ak.pure hs rfl
def SK(a p:YG)(hp:ly p):aJ prog 128 [mi a p] (.bool (okR a p 5)):=λU=>by
 refine Wr.r (by simp[OW]) ?_;have hs:=aa.refl U;have hc:=IC (λx y=>decide (uE x=uE y)) p.fs a.fs hp.2.1 LI;rw[wC uE]at hc;refine ab.mix 3 ?_;apply sR;simp only[go_sem,seval,OW,cM,jV];refine ad λi1 Z1 s1 a1 f1=>?_;replace hs:=hs.trans s1;simp only[go_sem,seval,a1,cM];refine ab.ay rfl rfl rfl (hc _) ?_;apply sR;simp only[go_sem,seval];exact ak.pure hs rfl
def KD(a p:YG)(hp:ly p):aJ prog 129 [mi a p] (.bool (okR a p 6)):=λU=>by
 refine Vw.r (by simp[Rj]) ?_;have hs:=aa.refl U;have hc:=AB p.fs a.fs hp.2.1;refine ab.mix 3 ?_;apply sR;simp only[go_sem,seval,Rj,cM,jV];refine ad λi1 Z1 s1 a1 f1=>?_;replace hs:=hs.trans s1;simp only[go_sem,seval,a1,cM];refine ab.ay rfl rfl rfl (hc _) ?_;apply sR;simp only[go_sem,seval];exact ak.pure hs rfl
def HQ(a p:YG)(hp:ly p):aJ prog 130 [mi a p] (.bool (okR a p 7)):=λU=>by
 refine VQ.r (by simp[PU]) ?_;have hs:=aa.refl U;have hc:=IC (λx y=>decide (x.node=y.node)) p.ls a.ls hp.2.2 LJ;rw[wC (λx:Zh=>x.node)]at hc;refine ab.mix 3 ?_;apply sR;simp only[go_sem,seval,PU,cM,jV];refine ad λi1 Z1 s1 a1 f1=>?_;replace hs:=hs.trans s1;simp only[go_sem,seval,a1,cM];refine ab.ay rfl rfl rfl (hc _) ?_;apply sR;simp only[go_sem,seval];exact ak.pure hs rfl
def IY(a p:YG)(hp:ly p):aJ prog 131 [mi a p] (.bool (okR a p 8)):=λU=>by
 refine Wa.r (by simp[Q9]) ?_;have hs:=aa.refl U;have hc:=AB p.ls a.ls hp.2.2;refine ab.mix 3 ?_;apply sR;simp only[go_sem,seval,Q9,cM,jV];refine ad λi1 Z1 s1 a1 f1=>?_;replace hs:=hs.trans s1;simp only[go_sem,seval,a1,cM];refine ab.ay rfl rfl rfl (hc _) ?_;apply sR;simp only[go_sem,seval];exact ak.pure hs rfl
def Nb:List V:=[.YS,.fn 124 [],.fn 125 [],.fn 126 [],.fn 127 [],.fn 128 [],.fn 129 [],.fn 130 [],.fn 131 []]
def JV:aJ prog 66 [] (.agg Nb):=λU=>by
 refine e66.r (by simp[c66]) ?_;have hs:=aa.refl U;refine ab.mix 2 ?_;apply sR;simp only[go_sem,seval,c66];refine ad λi0 Z0 s0 a0 f0=>?_;have z0:=hs.none f0;replace hs:=hs.trans s0;simp only[go_sem,seval,a0];exact ak.pure (hs.ax z0) rfl
def NI(a p:YG)(hp:ly p):∀j,1<=j->j<9->∃f,Nb[j]?=some (.fn f [])/\aJ prog f [mi a p] (.bool (okR a p j))
 |0,h,_=>absurd h (by omega)
 |1,_,_=>⟨_,rfl,Hs a p⟩
 |2,_,_=>⟨_,rfl,Ms a p⟩
 |3,_,_=>⟨_,rfl,MM a p hp⟩
 |4,_,_=>⟨_,rfl,K3 a p hp⟩
 |5,_,_=>⟨_,rfl,SK a p hp⟩
 |6,_,_=>⟨_,rfl,KD a p hp⟩
 |7,_,_=>⟨_,rfl,HQ a p hp⟩
 |8,_,_=>⟨_,rfl,IY a p hp⟩
 |n+9,_,h=>absurd h (by omega)
def MD:(true != true)=false:=rfl
def Mi:(false != true)=true:=rfl
def GL(a p:YG){j:Nat}(h1:1<=j)(h9:j<9)(hb:∀i,1<=i->i<j->okR a p i=true)(hj:okR a p j=false):eU a p=j:=by
 have g:∀i,1<=i->i<j->okR a p i=true:=hb;unfold eU
 match j,h1,h9,g,hj with
 |1,_,_,g,hj=>simp only[okR,decide_eq_false_iff_not]at hj;rw[ar hj];rfl
 |2,_,_,g,hj=>
  have g1:=g 1 (by omega) (by omega);simp only[okR,decide_eq_false_iff_not,Zq9]at hj g1;rw[av (λh=>h g1),ar hj];rfl
 |3,_,_,g,hj=>
  have g1:=g 1 (by omega) (by omega);have g2:=g 2 (by omega) (by omega);simp only[okR,decide_eq_false_iff_not,Zq9]at hj g1 g2;rw[av (λh=>h g1),av (λh=>h g2),ar hj];rfl
 |4,_,_,g,hj=>
  have g1:=g 1 (by omega) (by omega);have g2:=g 2 (by omega) (by omega);have g3:=g 3 (by omega) (by omega);simp only[okR,decide_eq_false_iff_not,Zq9]at hj g1 g2 g3;rw[av (λh=>h g1),av (λh=>h g2),av (λh=>h g3),ar hj];rfl
 |5,_,_,g,hj=>
  have g1:=g 1 (by omega) (by omega);have g2:=g 2 (by omega) (by omega);have g3:=g 3 (by omega) (by omega);have g4:=g 4 (by omega) (by omega);simp only[okR,decide_eq_false_iff_not,Zq9]at hj g1 g2 g3 g4;rw[av (λh=>h g1),av (λh=>h g2),av (λh=>h g3),av (λh=>h g4),ar hj];rfl
 |6,_,_,g,hj=>
  have g1:=g 1 (by omega) (by omega);have g2:=g 2 (by omega) (by omega);have g3:=g 3 (by omega) (by omega);have g4:=g 4 (by omega) (by omega);have g5:=g 5 (by omega) (by omega);simp only[okR,decide_eq_false_iff_not,Zq9]at hj g1 g2 g3 g4 g5;rw[av (λh=>h g1),av (λh=>h g2),av (λh=>h g3),av (λh=>h g4),av (λh=>h g5),ar hj];rfl
 |7,_,_,g,hj=>
  have g1:=g 1 (by omega) (by omega);have g2:=g 2 (by omega) (by omega);have g3:=g 3 (by omega) (by omega);have g4:=g 4 (by omega) (by omega);have g5:=g 5 (by omega) (by omega);have g6:=g 6 (by omega) (by omega);simp only[okR,decide_eq_false_iff_not,Zq9]at hj g1 g2 g3 g4 g5 g6;rw[av (λh=>h g1),av (λh=>h g2),av (λh=>h g3),av (λh=>h g4),av (λh=>h g5),av (λh=>h g6),ar hj];rfl
 |8,_,_,g,hj=>
  have g1:=g 1 (by omega) (by omega);have g2:=g 2 (by omega) (by omega);have g3:=g 3 (by omega) (by omega);have g4:=g 4 (by omega) (by omega);have g5:=g 5 (by omega) (by omega);have g6:=g 6 (by omega) (by omega);have g7:=g 7 (by omega) (by omega);simp only[okR,decide_eq_false_iff_not,Zq9]at hj g1 g2 g3 g4 g5 g6 g7;rw[av (λh=>h g1),av (λh=>h g2),av (λh=>h g3),av (λh=>h g4),av (λh=>h g5),av (λh=>h g6),av (λh=>h g7),ar hj];rfl
 |n+9,_,h,_,_=>omega
def G8(a p:YG)(hb:∀i,1<=i->i<9->okR a p i=true):eU a p=0:=by
 have g1:=hb 1 (by omega) (by omega);have g2:=hb 2 (by omega) (by omega);have g3:=hb 3 (by omega) (by omega);have g4:=hb 4 (by omega) (by omega);have g5:=hb 5 (by omega) (by omega);have g6:=hb 6 (by omega) (by omega);have g7:=hb 7 (by omega) (by omega);have g8:=hb 8 (by omega) (by omega);simp only[okR,Zq9]at g1 g2 g3 g4 g5 g6 g7 g8;unfold eU;rw[av (λh=>h g1),av (λh=>h g2),av (λh=>h g3),av (λh=>h g4),av (λh=>h g5),av (λh=>h g6),av (λh=>h g7),av (λh=>h g8)]
def G1(a p:YG)(hp:ly p):aJ prog 29 [mi a p] (vI (eU a p)):=λU=>by
 refine e29.r (by simp[c29]) ?_;have hs:=aa.refl U;refine ab.mix 7 ?_;apply sR;simp only[go_sem,seval,c29,cM,jV];refine ad λi1 Z1 s1 a1 f1=>?_;replace hs:=hs.trans s1;simp only[go_sem,seval];refine ab.ay rfl rfl rfl (JV _) ?_;apply sR;simp only[go_sem,seval];refine ab.loop (λm st=>∃j:Nat,j<=9/\m=9-j/\(∀i,1<=i->i<j->okR a p i=true)/\aa U st.U/\st.U i1=some ⟨91,10,[mi a p]⟩/\st.s 1=.ptr i1 0 0/\st.s 5=.agg Nb/\st.s 6=vI j) 9 ?_ ?_
 .exact⟨0,by omega,rfl,λi h1 h2=>by omega,hs,a1,rfl,rfl,rfl⟩
 .clear hs a1;rintro m ⟨S,J⟩ ⟨j,hj,rfl,hb,hs,a1,t1,t5,t6⟩;simp only at hs a1 t1 t5 t6;refine ab.mix 7 ?_;have r1:Yl .i64 ((j:Int)+1):=ai;by_cases H':j<9
  .have q1:((j:Int)<9)=True:=Yd;have b0:((0:Int)<=j)=True:=Yd;by_cases h0:j=0
   .have ig:Nb[j]?=some .YS:=by rw[h0];rfl
    (refine ab.bg ZQ.nothing 19 ?_;simp only[go_sem,seval,fw,t5,t6,q1,b0,eX,Nat.mul_one,ig])
    refine ab.LU rfl rfl (b:=true) (.inl ⟨rfl,rfl⟩) ?_;apply sR;simp only[go_sem,seval,MD,t1,t5,t6,r1];exact⟨_,by omega,j+1,by omega,rfl,λi h1 h2=>by omega,hs,a1,by simp⟩
   .obtain⟨f,ig,hc⟩:=NI a p hp j (by omega) H'
    (refine ab.bg ZQ.nothing 19 ?_;simp only[go_sem,seval,fw,t5,t6,q1,b0,eX,Nat.mul_one,ig])
    refine ab.LU rfl rfl (b:=false) (.inr ⟨_,_,rfl,rfl⟩) ?_;apply sR;simp only[go_sem,seval,Mi,t1,a1,cM];refine ab.ay rfl rfl rfl (hc _) ?_;cases hk:okR a p j
    .apply sR;simp only[go_sem,seval];exact ak.pure hs (by rw[GL a p (by omega) H' hb hk])
    .apply sR;simp only[go_sem,seval,t1,t5,t6,r1];exact⟨_,by omega,j+1,by omega,rfl,λi h1 h2=>(Nat.lt_or_eq_of_le (Nat.le_of_lt_succ h2)).elim (hb i h1) λe=>by rw[e];exact hk,hs,a1,by simp⟩
  .have q1:((j:Int)<9)=False:=T';apply sR;simp only[go_sem,seval,t6,q1];exact ak.pure hs (by rw[G8 a p λi h1 h2=>hb i h1 (by omega)])
open Go.Proofs Go.Proofs.Tryz
def qE{b:Bk}{s:Zf}{to kept shift body:Int}:(dO b.atoms b.X8 s to kept shift body).1.length<=b.X8.length:=by
 unfold dO;split
 .have h1:=pn (uB b.atoms s kept) shift body (eC b.X8 s to);have h2:(eC b.X8 s to).length<=b.X8.length:=oO _ _ _;omega
 .simp
def HT{b:Bk}(hb:eT b){s:ZY}(he:¬eH b s):(aP b s).1.hs.length<=1000000/\(aP b s).1.fs.length<=1000000/\(aP b s).1.ls.length<=2000000:=by
 have ZC:kz b s:=Decidable.byContradiction λh=>he (.inl h);have hat:0<=s.s.atom:=by rcases ZC.2 with h|h;exact h.1.1;omega
 have hg:=jd hb he;have hpl:=Hz hb.toBkOk ZC;have hfl:=hb.flen;have hal:=hb.len;have hro:=uQ hb.toBkFull s.s;have hr1:=gT hb.toBkFull s.s hat;have hpf:∀f∈s.bJ,0<=f.h:=λf hf=>hb.fh f (oW _ _ ZC.1 f hf);have htl:=(uU (body:=(bw b s.s).body) s.bJ 0 (Int.le_refl _) (by omega) hpf).1;refine⟨?_,?_,?_⟩
 .have h1:((hdK b.nodes b.w (bw b s.s).Yz).1).length<=1000000:=by rw[Ft];exact hro.len
  unfold aP;split
  .exact h1
  .split
   .exact h1
   .show(dM b (cb b s)).hs.length<=_;rw[(jA b (cb b s)).1];exact h1
 .rcases hg.kd with k|k
  .obtain⟨hm,h1,-,hc⟩:=hg.cut k;cases hc with
   |more q1 q2 q3 q4 q5=>omega
   |whole c r y q1 q2 q3 q4 q5 q6 q7 q8 q9=>omega
  .rw[hg.no' k];simp
 .have h0:(cb b s).ls.length<=1000000:=by
   show([]++(dk (bw b s.s).body s.bJ 0).1.map (l7 (bw b s.s).high)).length<=_;rw[kA,cL];omega
  unfold aP;split
  .show([]++(b.X8.takeWhile (kU _)).map (l7 _)).length<=_;rw[kA,cL];have:=(List.takeWhile_sublist (l:=b.X8) (kU (bD b s.s .aC).body)).length_le;omega
  .split
   .exact jI h0 (by omega)
   .show(dM b (cb b s)).ls.length<=_;unfold dM;split
    .show((cb b s).ls++((dO b.atoms b.X8 _ _ _ _ _).1).map _).length<=_;rw[gZ,cL];have:=qE (b:=b) (s:=({ cb b s with kind:=1 }:Wx).s) (to:=((yc b (cb b s)).toNat:Int)) (kept:=dN b (cb b s)) (shift:=({ cb b s with kind:=1 }:Wx).shift) (body:=({ cb b s with kind:=1 }:Wx).body);exact jI (Nat.add_le_add h0 (jI qE hfl)) (by omega)
    .show((cb b s).ls++((dO b.atoms b.X8 _ _ _ _ _).1).map _).length<=_;rw[gZ,cL];exact jI (Nat.add_le_add h0 (jI qE hfl)) (by omega)
def mU(b:Bk):(bx b).length<=10000000000:=by
 unfold bx;split
 .simp
 .have h1:(uw (shK b 1000000001 ⟨⟨0,0,true⟩,[]⟩ 0)).length=(shK b 1000000001 ⟨⟨0,0,true⟩,[]⟩ 0).length:=by unfold uw;simp
  have:=uJ b 1000000001 ⟨⟨0,0,true⟩,[]⟩ 0;omega
def Hg{b:Bk}(hb:eT b){t:ZF}{no:Int}{p:YG}(h:dB b t no=some p):p.hs.length<=1000000/\p.fs.length<=1000000/\p.ls.length<=2000000:=by
 unfold dB at h;split at h
 .split at h
  .simp only[aB]at h;subst h;simp
  .cases h
 .split at h
  .cases h
  .split at h
   .cases h
   .rename_i he;split at h
    .simp only[aB]at h;subst h;simp
    .simp only[aB]at h;subst h;exact HT hb he
def oR{l:List Nd}(hl:dU l){w h:Int}(he:eu l w h=0):∀p∈bx (aY l w h),p.hs.length<=1000000/\p.fs.length<=1000000/\p.ls.length<=2000000:=λp hp=>by
 obtain⟨i,hi⟩:=ET hp;have:=(ml hl he i (by have:=(iT.1 hi).1;omega)).1;exact Hg (gU hl he) (this.trans hi)
def Dy:∀(U:af) (i:Nat) (h:i<([]:List YG).length),bo U 5 .aC (.int .i64 i)=some (.rp (aM ([]:List YG)[i])):=λ_ i h=>absurd h (by simp)
def Ic(x:Int×Int):V:=.agg [vI x.1,vI x.2]
def zt{R r:List YG}{j:Nat}(h:R.take j=r.take j)(hj:j<=R.length)(hj2:j<=r.length):jy R r 0=jy (R.drop j) (r.drop j) j:=by
 have key:∀(j:Nat) (R r:List YG) (i:Nat),R.take j=r.take j->j<=R.length->j<=r.length->jy R r i=jy (R.drop j) (r.drop j) (i+j):=by
  intro j
  induction j with
  |zero=>intro R r i _ _ _;rfl
  |succ j ih=>
   intro R r i h h1 h2;cases R with
   |nil=>simp at h1
   |cons a R=>
    cases r with
    |nil=>simp at h2
    |cons p r=>
     simp only[pA,List.cons.injEq]at h;obtain⟨rfl,h⟩:=h;rw[jy,ar rfl,ih R r (i+1) h (by simpa using h1) (by simpa using h2),Kx,Kx,show i+1+j=i+(j+1) by omega]
 have:=key j R r 0 h hj hj2
 rwa [gY]at this
def BC(l:List Nd)(hl:dU l)(w h:Int)(vp:V)(P:List YG)(hlP:cW false vp=some (.int .i64 P.length))(hiP:∀(U:af) (i:Nat) (h:i<P.length),bo U 5 vp (.int .i64 i)=some (.rp (aM P[i])))
 (hPp:∀p∈P,ly p)(hPl:P.length<=10000000000000):
 aJ prog 10 [aH l,vI w,vI h,vp] (.P' [if eu l w h=0 then Ic (jy (bx (aY l w h)) P 0)else Ic (0,0),vI (eu l w h)]):=λU=>by
 refine e10.r (by simp[c10]) ?_;have hs:=aa.refl U;have hbg:=CL l hl w h;unfold CG at hbg;have Zw:∀p:YG,(aM p).cells=[vI p.no,vI p.kind,aI p.hs,aI p.fs,aI p.ls]:=λ_=>rfl;have hps:∀p:YG,(aM p).stays=true:=λ_=>rfl;have ldP:∀(U:af) (p:YG),bB U true 5 (.rp (aM p))=some (aM p):=λ_ _=>rfl;refine ab.mix 20 ?_;apply sR;simp only[go_sem,seval,c10];refine ad λi8 Z8 s8 a8 f8=>?_;have z8:=hs.none f8;replace hs:=hs.trans s8;simp only[go_sem,seval];refine ab.ay rfl rfl rfl (hbg _) ?_;by_cases he:eu l w h=0
 .have hb:=gU hl he;have hbt:=λi=>ml hl he i;have hrl:=oR hl he;have hrb:=tA hl he;have hPR:=mU (aY l w h);rw[ar he,ar he,he];generalize aY l w h=b at*;generalize bx b=R at*;have q0:((0:Int)≠0)=False:=T' (λh=>h rfl);have htb:=qh (P:=R) λp hp=>(hrl p hp).2;apply sR;simp only[go_sem,seval];refine ad λYM Z10 s10 YX f10=>?_;have n810:=ao a8 f10;replace a8:=s10 _ _ a8;have z10:=hs.none f10;replace hs:=hs.trans s10;simp only[go_sem,seval,YX,q0,dy,pt];generalize hq10:C' _ YM _=Y10;replace YX:=(congrFun hq10 YM).symm.trans ag;replace a8:=((congrFun hq10 i8).symm.trans (ae n810)).trans a8;replace hs:=Eq.subst (motive:=aa _) hq10 (hs.ax z10);clear hq10;have hsO:=hs;refine ab.call rfl rfl rfl (Gb b .aC [] rfl Dy (by simp) (by simp) _) ?_;rintro r Z' ⟨i,im,rfl,hJ⟩;have e0:bO .nil ([]:List YG) ([]:List YG).length=bO .nil R 0:=rfl;rw[e0]at hJ;generalize hV:jy R P 0=VV;apply sR;simp only[go_sem,seval,hlP];refine ab.fj (λst=>P.length<=R.length/\R.take P.length=P/\eJ b (bO .nil R P.length) Y10 st.U i im/\st.s 3=vp/\st.s 8=.ptr i8 0 0/\st.s 12=.ptr i 0 0)
   (λm st=>∃j:Nat,j<=P.length/\m=P.length-j/\j<=R.length/\R.take j=P.take j/\eJ b (bO .nil R j) Y10 st.U i im/\st.s 3=vp/\st.s 8=.ptr i8 0 0/\st.s 12=.ptr i 0 0/\st.s 33=vp/\st.s 34=vI P.length/\st.s 35=vI j) P.length ?_ ?_ ?_
  .exact⟨0,by omega,rfl,by omega,rfl,hJ,rfl,rfl,rfl,rfl,rfl,rfl⟩
  .rintro m ⟨S,ω⟩ ⟨j,hj,rfl,hjR,Zb,hJ,t3,t8,t12,t33,t34,t35⟩;simp only at hJ t3 t8 t12 t33 t34 t35;refine ab.mix 20 ?_;by_cases H':j<P.length
   .have q1:((j:Int)<P.length)=True:=Yd;have hi:=λU=>hiP U j H';have hpl:=hPp _ (Zr H');have hvs:=zt Zb hjR (by omega);rw[hV,ia H']at hvs;have htP:=Zq0 H';have hbtj:=(hbt j hjR).1;obtain⟨b3,b4,b5⟩:=htb j;have hac:=λ{V':af} (hs:aa ω V')=>xD b hb (bO .nil R j) ((j:Int)+1) (by omega) (hJ.mono hs);have r1:Yl .i64 ((j:Int)+1):=ai;generalize P[j]=p at*;have hs:=aa.refl ω;apply sR;simp only[go_sem,seval,t33,t34,t35,q1,hi,ldP];refine ad λi14 Z14 s14 a14 f14=>?_;have z14:=hs.none f14;replace hs:=hs.trans s14;simp only[go_sem,seval,a14,t12,r1,Zw,hps];generalize hq14:C' _ i14 _=Y14;replace a14:=(congrFun hq14 i14).symm.trans ag;replace hs:=Eq.subst (motive:=aa _) hq14 (hs.ax z14);clear hq14;refine ab.ay rfl rfl rfl (hac hs) ?_;rw[hbtj];have hsub10:=hJ.sub;cases hR:R[j]? with
    |none=>
     have hRl:=Ql.1 hR;rw[Ah hRl,jy]at hvs;apply sR;simp only[go_sem,seval];refine ad λi15 Y15 s15 a15 f15=>?_;have n1415:=ao a14 f15;replace a14:=s15 _ _ a14;have z15:=hs.none f15;replace hs:=hs.trans s15;simp only[go_sem,seval,a15,Zw,hps];generalize ZX:C' _ i15 _=Z15;replace a15:=(congrFun ZX i15).symm.trans ag;replace a14:=((congrFun ZX i14).symm.trans (ae n1415)).trans a14;replace hs:=Eq.subst (motive:=aa _) ZX (hs.ax z15);clear ZX;have b8:=(hsub10.trans hs) _ _ a8;simp only[go_sem,seval,t8,b8,r1,Option.isSome_none];rw[hvs];exact ak.pure ((hsO.trans (hsub10.trans hs)).ax z8) rfl
    |some a=>
     obtain⟨hRl,hRa⟩:=iT.1 hR;have ha:yi b (bO .nil R j) ((j:Int)+1)=a:=yU (hbtj.trans hR);rw[ha];rw[ia hRl,hRa,jy]at hvs;have hjb:=G1 a p hpl;apply sR;simp only[go_sem,seval];refine ad λi15 Y15 s15 a15 f15=>?_;have n1415:=ao a14 f15;replace a14:=s15 _ _ a14;have z15:=hs.none f15;replace hs:=hs.trans s15;simp only[go_sem,seval,a15,Zw,hps];generalize ZX:C' _ i15 _=Z15;replace a15:=(congrFun ZX i15).symm.trans ag;replace a14:=((congrFun ZX i14).symm.trans (ae n1415)).trans a14;replace hs:=Eq.subst (motive:=aa _) ZX (hs.ax z15);clear ZX;simp only[go_sem,seval,a14,Zw];refine ab.ay rfl rfl rfl (hjb _) ?_;have hz:=Cn (j:=a) (p:=p) (hrb a (by rw[<-hRa];exact Zr hRl));have hrg:=EV a p;by_cases hap:a=p
     .rw[ar hap]at hvs;have hb0:eU a p=0:=hz.2 hap;have q2:((0:Int)>0)=False:=T';rw[hb0];obtain⟨-,l2,l3⟩:=hrl a (by rw[<-hRa];exact Zr hRl);rw[hap]at l2 l3;apply sR;simp only[go_sem,seval,t12,q2,a14,Zw];refine ab.call rfl rfl rfl (AR b _ p (by omega) (by omega) (λn=>by have:=b5 n;omega) (by omega) (hJ.mono hs)) ?_;rintro r Z'' ⟨rfl,hJ'⟩;have hts:bO .nil R (j+1)=eF (bO .nil R j) p:=by rw[<-hap];exact te hR
      rw[<-hts]at hJ';apply sR;simp only[go_sem,seval,t3,t8,t12,t33,t34,t35,r1];exact⟨_,by omega,j+1,by omega,rfl,by omega,by rw[htP,Zq0 hRl,hRa,Zb,hap],hJ',by simp⟩
     .rw[av hap]at hvs;have hb0:eU a p≠0:=λe=>hap (hz.1 e);have q2:(eU a p>0)=True:=Yd;have b8:=(hsub10.trans hs) _ _ a8;apply sR;simp only[go_sem,seval,t8,q2,r1,b8];rw[hvs];exact ak.pure ((hsO.trans (hsub10.trans hs)).ax z8) rfl
   .have q1:((j:Int)<P.length)=False:=T';have hje:j=P.length:=by omega
    subst hje;rw[hU]at Zb;apply sR;simp only[go_sem,seval,t34,t35,t3,t8,t12,q1];exact⟨hjR,Zb,hJ⟩
  .rintro⟨S,ω⟩ ⟨hjR,Zb,hJ,t3,t8,t12⟩;simp only at hJ t3 t8 t12;refine ab.mix 20 ?_;have r1:Yl .i64 ((P.length:Int)+1):=ai;have hvs:=zt (by rw[Zb,hU]) hjR (YQ _);rw[hV,x5]at hvs;have hbtj:=(hbt _ hjR).1;have hs:=aa.refl ω;have hsub10:=hJ.sub;apply sR;simp only[go_sem,seval,t3,t12,hlP,r1];refine ab.ay rfl rfl rfl (xD b hb (bO .nil R P.length) ((P.length:Int)+1) (by omega) hJ) ?_;rw[hbtj];cases hR:R[P.length]? with
   |none=>
    have hRl:=Ql.1 hR;rw[Ah hRl,jy]at hvs;apply sR;simp only[go_sem,seval];refine ad λi18 Z18 s18 a18 f18=>?_;have z18:=hs.none f18;replace hs:=hs.trans s18;simp only[go_sem,seval,a18,Zw,hps];generalize hq18:C' _ i18 _=Y18;replace a18:=(congrFun hq18 i18).symm.trans ag;replace hs:=Eq.subst (motive:=aa _) hq18 (hs.ax z18);clear hq18;have b8:=(hsub10.trans hs) _ _ a8;simp only[go_sem,seval,t8,b8,Option.isSome_none];rw[hvs];exact ak.pure ((hsO.trans (hsub10.trans hs)).ax z8) rfl
   |some a=>
    obtain⟨hRl,hRa⟩:=iT.1 hR;rw[ia hRl,jy]at hvs;apply sR;simp only[go_sem,seval];refine ad λi18 Z18 s18 a18 f18=>?_;have z18:=hs.none f18;replace hs:=hs.trans s18;simp only[go_sem,seval,a18,Zw,hps];generalize hq18:C' _ i18 _=Y18;replace a18:=(congrFun hq18 i18).symm.trans ag;replace hs:=Eq.subst (motive:=aa _) hq18 (hs.ax z18);clear hq18;have b8:=(hsub10.trans hs) _ _ a8;simp only[go_sem,seval,t3,t8,b8,hlP,r1];rw[hvs];exact ak.pure ((hsO.trans (hsub10.trans hs)).ax z8) rfl
 .rw[av he,av he];have q:(eu l w h≠0)=True:=Yd he;generalize eu l w h=E at*;have hdz:EC.cells=[.nilp,.aC,.aC,vI 0,.aC]:=rfl;have hds:EC.stays=true:=rfl;apply sR;simp only[go_sem,seval];refine ad λYM Z10 s10 YX f10=>?_;have n810:=ao a8 f10;replace a8:=s10 _ _ a8;have z10:=hs.none f10;replace hs:=hs.trans s10;simp only[go_sem,seval,YX,a8,hdz,hds,q,ae n810];exact ak.pure ((hs.ax z10).ax z8) rfl
open Go.Proofs Go.Proofs.Tryz
def eJ.less{b:Bk}{t:ZF}{K K' U:af}{i im:Nat}(h:eJ b t K' U i im)(hk:aa K K'):eJ b t K U i im:=⟨h.row,h.mp,hk.none h.ni,hk.none h.nm,hk.trans h.sub⟩
def eJ.neK{b:Bk}{t:ZF}{K U:af}{i im j:Nat}{o:Ob}(h:eJ b t K U i im)(hj:K j=some o):j≠i/\j≠im:=by
 constructor
 .intro e;rw[e,h.ni]at hj;cases hj
 .intro e;rw[e,h.nm]at hj;cases hj
def sV(P:List YG):∀(U:af) (i:Nat) (h:i<P.length),bo U 5 (bp P) (.int .i64 i)=some (.rp (aM P[i])):=λ_ _ h=>wY h
def wK{P:List YG}{k:Nat}(h:k<=P.length):∀U,ek U 5 (bp P) none (some (.int .i64 k)) none=some (bp (P.take k)):=λU=>by
 have h1:(k:Int)<=P.length:=by omega
 simp only[bp,ek,bS,cL];rw[ar ⟨Int.le_refl _,by omega,by omega,by omega,trivial⟩];simp
def Nt{s:Nat->V}{U:af}{a1:Bool}{n1 d e t:Nat}{Post:V->af->Prop}:
 Ret [.tmp (.t t),.cell a1 n1 (.t d),.tmp (.t e)] ⟨s,U⟩ Post=di (bB U a1 n1 (s d)) λv=>ak (.P' [s t,v,s e]) U Post:=by
 unfold Ret ak nY;simp only[ej,gm,VX.ev];cases bB U a1 n1 (s d)<;>simp[di]
def Bw(l:List Nd)(hl:dU l)(w h:Int)(he:eu l w h=0)(k:Nat)(hk:k<=(bx (aY l w h)).length)(P:List YG)(hkP:k<=P.length)(hP:P.take k=(bx (aY l w h)).take k)(U:af):
 au prog 32 [aH l,vI w,vI h,bp P,vI k] U λr Z'=>∃i im,r=.P' [.ptr i 0 0,bF (ic (aY l w h) (bO .nil (bx (aY l w h)) k)),vI 0]/\eJ (aY l w h) (bO .nil (bx (aY l w h)) k) U Z' i im:=by
 refine e32.r (by simp[c32]) ?_;have hs:=aa.refl U;have hbg:=CL l hl w h;unfold CG at hbg;rw[ar he,he]at hbg;have hb:=gU hl he;have hbt:=(ml hl he k hk).2;have hrl:=oR hl he;have hPR:=mU (aY l w h);generalize aY l w h=b at*;generalize bx b=R at*;have hlR:=ju P;have q0:((0:Int)≠0)=False:=T' (λh=>h rfl);have q1:((k:Int)<0)=False:=T';have q2:((k:Int)>P.length)=False:=T';have hsl:=wK hkP;rw[hP]at hsl;have ht:bO .nil (R.take k) (R.take k).length=bO .nil R k:=by
  unfold bO;rw[hU]
 have hJt:=λU=>Gb b (bp (R.take k)) (R.take k) (ju _) (sV _) (λp hp=>(hrl p (pz hp)).2) (by rw[fY];omega) U;rw[ht]at hJt;refine ab.mix 19 ?_;apply sR;simp only[go_sem,seval,c32];refine ad λi11 Z11 s11 a11 f11=>?_;have z11:=hs.none f11;replace hs:=hs.trans s11;simp only[go_sem,seval];refine ab.ay rfl rfl rfl (hbg _) ?_
 (refine ab.bg ZQ.nothing 30 ?_;simp only[go_sem,seval])
 refine ad λi13 Y13 s13 a13 f13=>?_;have n1113:=ao a11 f13;replace a11:=s13 _ _ a11;have z13:=hs.none f13;replace hs:=hs.trans s13;simp only[go_sem,seval,a13,dy,pt,q0,q1,q2,hlR,fw];generalize hq13:C' _ i13 _=Z13;replace a13:=(congrFun hq13 i13).symm.trans ag;replace a11:=((congrFun hq13 i11).symm.trans (ae n1113)).trans a11;replace hs:=Eq.subst (motive:=aa _) hq13 (hs.ax z13);clear hq13;refine ab.SS [4] rfl (XC.go 4 ?_);apply sG;simp only[BB,seval,aX,ez,aE,ef,ZQ.nothing,a13,hsl,dy];have hsO:=hs;refine XC.call (by decide) rfl rfl rfl (hJt _) ?_;rintro r Z' ⟨i,im,rfl,hJ⟩;refine XC.go 1 ?_;apply sG;simp only[go_sem,seval,pA,List.take_zero];refine XC.nil ?_;have n11:=(hJ.neK a11).1;have n11m:=(hJ.neK a11).2;replace a11:=hJ.sub _ _ a11;have Ys:fH b (bO .nil R k)=true:=by
  cases h:stateT b (bO .nil R k)with
  |none=>rw[h]at hbt;cases hbt
  |some s=>exact(tN h).2
 have hcs:=Dx b hb.toBkOk (bO .nil R k) hJ;generalize ic b (bO .nil R k)=sv at*;rw[Ys]at hcs;replace hs:=aa.refl Z';apply sR;simp only[go_sem,seval];refine ab.ay rfl rfl rfl hcs ?_;apply sR;simp only[go_sem,seval];refine ad λi16 Z16 s16 a16 f16=>?_;have n1116:=ao a11 f16;replace a11:=s16 _ _ a11;have z16:=hs.none f16;replace hs:=hs.trans s16;simp only[go_sem,seval,a16,dg,gq];generalize hq16:C' _ i16 _=Y16;replace a16:=(congrFun hq16 i16).symm.trans ag;replace a11:=((congrFun hq16 i11).symm.trans (ae n1116)).trans a11;replace hs:=Eq.subst (motive:=aa _) hq16 (hs.ax z16);clear hq16;have hJ6:=hJ.mono hs;simp only[go_sem,seval,a11,Nt];exact⟨_,_,aa.refl _,Wk.refl (aa.refl _) _,i,im,rfl,(hJ6.less hsO).C' n11 n11m ((hsO.trans hJ6.sub).ax z11)⟩
open Go.Proofs Go.Proofs.Tryz
def Ct(l:List Nd)(hl:dU l)(w h:Int)(he:eu l w h=0)(k:Nat)(hk:k<=(bx (aY l w h)).length):
 aJ prog 15 [aH l,vI w,vI h,bp (bx (aY l w h)),vI k] (.P' [bF (ic (aY l w h) (bO .nil (bx (aY l w h)) k)),vI 0]):=λU=>by
 refine e15.r (by simp[c15]) ?_;have hs:=aa.refl U;have hf:=λU=>Bw l hl w h he k hk _ hk rfl U;generalize ic (aY l w h) (bO .nil (bx (aY l w h)) k)=sv at*;refine ab.mix 16 ?_;apply sR;simp only[go_sem,seval,c15];refine ad λYM Z10 s10 YX f10=>?_;have z10:=hs.none f10;replace hs:=hs.trans s10;simp only[go_sem,seval];refine ab.call rfl rfl rfl (hf _) ?_;rintro r Z' ⟨i,im,rfl,hJ⟩;have h10:=hJ.sub _ _ YX;replace hs:=hs.trans hJ.sub;clear YX;have YX:=h10;apply sR;simp only[go_sem,seval];refine ad λi13 Y13 s13 a13 f13=>?_;have n1013:=ao YX f13;replace YX:=s13 _ _ YX;have z13:=hs.none f13;replace hs:=hs.trans s13;simp only[go_sem,seval,a13,dg,gq];generalize hq13:C' _ i13 _=Z13;replace a13:=(congrFun hq13 i13).symm.trans ag;replace YX:=((congrFun hq13 YM).symm.trans (ae n1013)).trans YX;replace hs:=Eq.subst (motive:=aa _) hq13 (hs.ax z13);clear hq13;simp only[go_sem,seval,YX];exact ak.pure (hs.ax z10) rfl
def GF(U:af)(i im:Nat):af:=λj=>if j=i\/j=im then none else U j
def nS{U:af}{i im j:Nat}(h1:j≠i)(h2:j≠im):GF U i im j=U j:=av λh=>h.elim h1 h2
def eJ.off{b:Bk}{t:ZF}{K U:af}{i im:Nat}(h:eJ b t K U i im):eJ b t (GF U i im) U i im:=⟨h.row,h.mp,ar (.inl rfl),ar (.inr rfl),λj o hj=>by
 unfold GF at hj;split at hj
 .cases hj
 .exact hj⟩
def eJ.NW{b:Bk}{t:ZF}{K U:af}{i im:Nat}(h:eJ b t K U i im):aa K (GF U i im):=λj o hj=>by
 obtain⟨h1,h2⟩:=h.neK hj;rw[nS h1 h2];exact h.sub _ _ hj
def eJ.gJ{b:Bk}{t:ZF}{K K2 ω V':af}{i im:Nat}(h:eJ b t K ω i im)(hk:∀j,K2 j≠none->∀o,ω j=some o->V' j=some o)(hi:K2 i≠none)(hm:K2 im≠none)(hs:aa K V'):eJ b t K V' i im:=by
 obtain⟨es,ck,env,g1,g2⟩:=h.mp;exact⟨hk _ hi _ h.row,⟨es,ck,env,hk _ hm _ g1,g2⟩,h.ni,h.nm,hs⟩
def Hr(l:List Nd)(hl:dU l)(w h:Int)(he:eu l w h=0)(k:Nat)(hk:k<=(bx (aY l w h)).length)(P:List YG)(hkP:k<=P.length)(hP:P.take k=(bx (aY l w h)).take k)(U:af):
 au prog 13 [aH l,vI w,vI h,bp P,vI k] U λr Z'=>∃v,r=.P' [v,vI 0]/\aa U Z'/\aL U Z' 37 5 v (((bx (aY l w h)).drop k).map aM):=by
 refine e13.r (by simp[c13]) ?_;have hf:=λU=>Bw l hl w h he k hk P hkP hP U;have hb:=gU hl he;have hbt:=λi=>ml hl he i;have hrl:=oR hl he;have hPR:=mU (aY l w h);generalize aY l w h=b at*;generalize bx b=R at*;have htb:=qh (P:=R) λp hp=>(hrl p hp).2;have Zw:∀p:YG,(aM p).cells=[vI p.no,vI p.kind,aI p.hs,aI p.fs,aI p.ls]:=λ_=>rfl;have hps:∀p:YG,(aM p).stays=true:=λ_=>rfl;generalize ic b (bO .nil R k)=sv at*;have q0:((0:Int)≠0)=False:=T' (λh=>h rfl);have r0:Yl .i64 ((k:Int)+1):=ai;refine ab.mix 19 ?_;apply sR;simp only[go_sem,seval,c13];refine ab.call rfl rfl rfl (hf _) ?_;rintro r Z' ⟨i,im,rfl,hJ⟩;apply sR;simp only[go_sem,seval];replace hs:=aa.refl Z';refine ad λi13 Y13 s13 a13 f13=>?_;have z13:=hs.none f13;replace hs:=hs.trans s13;simp only[go_sem,seval,a13,dg,gq,q0,r0];generalize hq13:C' _ i13 _=Z13;replace a13:=(congrFun hq13 i13).symm.trans ag;replace hs:=Eq.subst (motive:=aa _) hq13 (hs.ax z13);clear hq13;have hJ3:=hJ.mono hs;have hK13:=hJ3.sub;have hK2i:Z13 i≠none:=by rw[hJ3.row];simp
 have hK2m:Z13 im≠none:=by obtain⟨es,ck,env,g1,-⟩:=hJ3.mp;rw[g1];simp
 refine ab.loop (λm st=>∃(j:Nat) (v:V),j<=R.length/\k<=j/\m=R.length-j/\eJ b (bO .nil R j) U st.U i im/\aL Z13 st.U 37 5 v (((R.take j).drop k).map aM)/\aa (GF Z13 i im) st.U/\st.s 12=.ptr i 0 0/\st.s 15=v/\st.s 16=vI ((j:Int)+1)) (R.length-k) ?_ ?_
 .exact⟨k,.aC,hk,YQ _,rfl,hJ3,by rw[Ah (by rw[fY];omega)];exact aL.start,hJ3.off.sub,rfl,rfl,rfl⟩
 .rintro m ⟨S,ω⟩ ⟨j,v,hj,hkj,rfl,hJ,ho,G',t12,t15,t16⟩;simp only at hJ ho G' t12 t15 t16;refine ab.mix 19 ?_;have hbtj:=(hbt j hj).1;have r1:Yl .i64 ((j:Int)+1+1):=ai;obtain⟨b3,b4,b5⟩:=htb j;apply sR;simp only[go_sem,seval,t12,t16];refine ab.ay rfl rfl rfl (xD b hb (bO .nil R j) ((j:Int)+1) (by omega) hJ) ?_;rw[hbtj];have hs:=aa.refl ω;cases hR:R[j]? with
  |none=>
   have hRl:=Ql.1 hR;apply sR;simp only[go_sem,seval];refine ad λi17 Y17 s17 a17 f17=>?_;have z17:=hs.none f17;replace hs:=hs.trans s17;simp only[go_sem,seval,a17,t15,Zw,hps,Option.isSome_none];have hjR:R.take j=R:=jj hRl;rw[hjR]at ho;have hfs:=hs.ax (o:=⟨37,5,[aM (yi b (bO .nil R j) ((j:Int)+1))]⟩) z17;exact⟨_,_,aa.refl _,Wk.refl (aa.refl _) _,v,rfl,hJ.sub.trans hfs,(ho.N7 hK13).mono hfs⟩
  |some p=>
   obtain⟨hRl,hRa⟩:=iT.1 hR;have ha:yi b (bO .nil R j) ((j:Int)+1)=p:=yU (hbtj.trans hR);rw[ha];obtain⟨hvc,hvs⟩:=ho.vc;apply sR;simp only[go_sem,seval];refine ad λi17 Y17 s17 a17 f17=>?_;have z17:=hs.none f17;replace hs:=hs.trans s17;simp only[go_sem,seval,a17,t15,Zw,hps];generalize hq17:C' _ i17 _=Z17;replace a17:=(congrFun hq17 i17).symm.trans ag;replace hs:=Eq.subst (motive:=aa _) hq17 (hs.ax z17);clear hq17;refine ad λi91 Z91 s91 a91 f91=>?_;have hlen:((R.take j).drop k).length<=10000000000:=by rw[qF,fY];omega
   obtain⟨Yn,ZV,hdA⟩:=ho.QV (hs.trans s91);have Zl:((((R.take j).drop k).map aM).length+1)*89<=140737488355328:=by rw[cL];omega
   generalize YK:((R.take j).drop k).map aM=rows at*;simp only[go_sem,seval,ZV,cT a91,Zl];refine cO λi92 Z92 s92 a92 f92=>?_;have dne:∀q,Z13 q≠none->Vc.bt Z91 Yn q=Z91 q:=λq hq=>by
    cases Yn with
    |none=>rfl
    |some a=>exact bR λe=>hq (by rw[e];exact(hdA a rfl).1)
   have ZI:∀q,Z13 q≠none->∀o,ω q=some o->Z92 q=some o:=λq hq o h=>s92 _ _ ((dne q hq).trans ((hs.trans s91) _ _ h));have c17:Z92 i17=some ⟨37,5,[aM p]⟩:=by
    refine s92 _ _ (Eq.trans ?_ (s91 _ _ a17));cases Yn with
    |none=>rfl
    |some a=>exact bR λe=>by obtain⟨o,ho⟩:=(hdA a rfl).2.1;rw[<-e,z17]at ho;cases ho
   have hJ':=hJ.gJ ZI hK2i hK2m λq o hq=>ZI q (by rw[hK13 _ _ hq];simp) _ (hJ.sub _ _ hq);have n92:i92≠i:=λe=>by rw[e]at f92;have:=(hs.trans s91) _ _ hJ.row;rw[f92]at this;cases this
   have n92m:i92≠im:=λe=>by
    obtain⟨es,ck,env,g1,-⟩:=hJ.mp;rw[e]at f92;have:=(hs.trans s91) _ _ g1;rw[f92]at this;cases this
   have k92:Z13 i92=none:=by
    have:=((G'.trans hs).trans s91).none f92
    rwa [nS n92 n92m]at this
   obtain⟨-,l2,l3⟩:=hrl p (by rw[<-hRa];exact Zr hRl);simp only[go_sem,seval,t12,c17,Zw];refine ab.call rfl rfl rfl (AR b _ p (by omega) (by omega) (λn=>by have:=b5 n;omega) (by omega) hJ'.off) ?_;rintro r Z'' ⟨rfl,hJ''⟩;rw[<-te hR]at hJ'';have ho2:aL Z13 Z'' 37 5 (.own i92 0 (rows.length+1)) (((R.take (j+1)).drop k).map aM):=by
    have Zb:(R.take (j+1)).drop k=(R.take j).drop k++[p]:=by
     rw[Zq0 hRl,hRa,Eu (by rw[fY];omega)]
    rw[Zb,gl,YK];refine aL.new (by simp) (hJ''.sub _ _ ?_) k92;rw[nS n92 n92m];exact a92
   apply sR;simp only[go_sem,seval,t12,t16,r1];exact⟨_,by omega,j+1,.own i92 0 (rows.length+1),by omega,by omega,rfl,hJ''.less hJ'.NW,ho2,λq o hq=>by
    unfold GF at hq;split at hq
    .cases hq
    .rename_i hn;refine hJ''.sub _ _ ?_;rw[nS (λe=>hn (.inl e)) (λe=>hn (.inr e))];exact ZI q (by rw[hq];simp) _ (G' _ _ (by rw[nS (λe=>hn (.inl e)) (λe=>hn (.inr e))];exact hq)),by simp⟩
def vv(l:List Nd)(hl:dU l)(w h:Int)(he:eu l w h=0)(k:Nat)(hk:k<=(bx (aY l w h)).length)(P:List YG)(hkP:k<=P.length)(hP:P.take k=(bx (aY l w h)).take k):
 aJ prog 13 [aH l,vI w,vI h,bp P,vI k] (.P' [bp ((bx (aY l w h)).drop k),vI 0]):=λU=>by
 refine(Hr l hl w h he k hk P hkP hP U).Aj λr Z' h=>?_;obtain⟨v,rfl,hs,ho⟩:=h;exact⟨_,U,hs,Fz.wk (N:=λid=>U id=none) (.P' _ _ (.cons _ _ _ _ (ho.TQ (λid h=>h) (FzL.same _ (mu (f:=aM) tp _))) (.cons _ _ _ _ (.same _ rfl) .nil))) hs (λ_ h=>h),rfl,rfl⟩
open Go.Proofs Go.Proofs.Tryz
def UL(p:YG):∀U:af,bB U true 5 (.rp (aM p))=some (aM p):=λ_=>rfl
def iU(p:YG):(aM p).cells=[vI p.no,vI p.kind,aI p.hs,aI p.fs,aI p.ls]:=rfl
def yD(p:YG):(aM p).stays=true:=rfl
def sU(a b:List Zh)(h:a.length<=2000000):aJ prog 31 [aI a,aI b] (.bool (decide (a=b))):=
 Nu func31 (sz:=7) (ks:=[0,0,0,0,0,0,0]) (e31.b.trans rfl) e31.c bb Jy (λ_ _=>rfl) a b (by omega)
def LP(p q:YG)(hp:p.hs.length<=2000000/\p.fs.length<=2000000/\p.ls.length<=2000000):aJ prog 12 [aM p,aM q] (.bool (decide (p=q))):=λU=>by
 refine e12.r (by simp[c12]) ?_;have hs:=aa.refl U;have c1:=sU p.hs q.hs hp.1;have c2:=sU p.fs q.fs hp.2.1;have c3:=sU p.ls q.ls hp.2.2;generalize hX:decide (p=q)=X;have hX':(p.no=q.no/\p.kind=q.kind/\p.hs=q.hs/\p.fs=q.fs/\p.ls=q.ls)↔p=q:=by cases p;cases q;simp
 refine ab.mix 5 ?_;apply sR;simp only[go_sem,seval,c12,iU,yD];refine ad λi2 Z2 s2 a2 f2=>?_;replace hs:=hs.trans s2;simp only[go_sem,seval,iU,yD];refine ad λi3 Z3 s3 a3 f3=>?_;replace a2:=s3 _ _ a2;replace hs:=hs.trans s3;by_cases h1:p.no=q.no
 .have q1:(p.no=q.no)=True:=Yd h1;by_cases h2:p.kind=q.kind
  .have q2:(p.kind=q.kind)=True:=Yd h2;simp only[go_sem,seval,a2,a3,q1,q2,iU];refine ab.ay rfl rfl rfl (c1 _) ?_;by_cases h3:p.hs=q.hs
   .rw[ZG h3];apply sR;simp only[go_sem,seval,a2,a3,iU];refine ab.ay rfl rfl rfl (c2 _) ?_;by_cases h4:p.fs=q.fs
    .rw[ZG h4];apply sR;simp only[go_sem,seval,a2,a3,iU];refine ab.ay rfl rfl rfl (c3 _) ?_;by_cases h5:p.ls=q.ls
     .rw[ZG h5];apply sR;simp only[go_sem,seval];exact ak.pure hs (by rw[<-hX,ZG (hX'.1 ⟨h1,h2,h3,h4,h5⟩)])
     .rw[Zu h5];apply sR;simp only[go_sem,seval];exact ak.pure hs (by rw[<-hX,Zu λh=>h5 (hX'.2 h).2.2.2.2])
    .rw[Zu h4];apply sR;simp only[go_sem,seval];exact ak.pure hs (by rw[<-hX,Zu λh=>h4 (hX'.2 h).2.2.2.1])
   .rw[Zu h3];apply sR;simp only[go_sem,seval];exact ak.pure hs (by rw[<-hX,Zu λh=>h3 (hX'.2 h).2.2.1])
  .have q2:(p.kind=q.kind)=False:=T' h2;simp only[go_sem,seval,a2,a3,q1,q2,iU];exact ak.pure hs (by rw[<-hX,Zu λh=>h2 (hX'.2 h).2.1])
 .have q1:(p.no=q.no)=False:=T' h1;simp only[go_sem,seval,a2,a3,q1,iU];exact ak.pure hs (by rw[<-hX,Zu λh=>h1 (hX'.2 h).1])
def Lp(xs ys:List YG)(hx:xs.length<=10000000000)(hl:∀p∈xs,p.hs.length<=2000000/\p.fs.length<=2000000/\p.ls.length<=2000000):aJ prog 11 [bp xs,bp ys] (.bool (decide (xs=ys))):=λU=>by
 refine e11.r (by simp[c11]) ?_;have n1:=ju xs;have n2:=ju ys;refine ab.mix 6 ?_;by_cases hlen:xs.length=ys.length
 .have q:((xs.length:Int)≠ys.length)=False:=T';apply sR;simp only[go_sem,seval,c11,n1,n2,q];refine ab.loop (λm st=>∃j,j<=xs.length/\m=xs.length-j/\xs.take j=ys.take j/\st.s 0=bp xs/\st.s 1=bp ys/\st.s 5=.int .i64 j/\st.U=U) xs.length ⟨0,by omega,rfl,rfl,rfl,rfl,rfl,rfl⟩ ?_;rintro m ⟨S,Z'⟩ ⟨j,hj,rfl,ht,t0,t1,t5,YF⟩;simp only at t0 t1 t5 YF;subst YF;refine ab.mix 6 ?_;by_cases H':j<xs.length
  .have q1:((j:Int)<xs.length)=True:=Yd;have hlt2:j<ys.length:=by omega
   have i1:=λU=>wY (U:=U) H';have i2:=λU=>wY (U:=U) hlt2;have hee:=LP xs[j] ys[j] (hl _ (Zr H'));have tx:=Zq0 H';have ty:=Zq0 hlt2;have r1:Yl .i64 ((j:Int)+1):=ai;have hxy:xs[j]≠ys[j]->xs≠ys:=λhn h=>hn (by simp only[h]);generalize xs[j]=x at*;generalize ys[j]=y at*;have l1:=UL x;have l2:=UL y;apply sR;simp only[go_sem,seval,t0,t1,t5,n1,q1,i1,i2,l1,l2];refine Go.cm rfl rfl rfl hee ?_;by_cases hq:x=y
   .rw[ZG hq];apply sG;simp only[go_sem,seval,t0,t1,t5,r1];exact⟨_,by omega,j+1,by omega,rfl,by rw[tx,ty,ht,hq],by simp⟩
   .rw[Zu hq];apply sG;simp only[go_sem,seval];exact ak.same (by rw[Zu (hxy hq)])
  .have q1:((j:Int)<xs.length)=False:=T';apply sR;simp only[go_sem,seval,t0,t5,n1,q1];refine ak.same ?_;rw[jj (by omega),jj (by omega)]at ht;rw[ZG ht]
 .have q:((xs.length:Int)≠ys.length)=True:=Yd;apply sR;simp only[go_sem,seval,c11,n1,n2,q];exact ak.same (by rw[Zu λh=>hlen (by rw[h])])
def KE{U:af}{l:List YG}{j:Nat}{p:YG}(h:l[j]?=some p):bo U 5 (bp l) (.int .i64 j)=some (.rp (aM p)):=by simp[bp,bo,h,aM]
def Nj(p:YG)(U:af):bB U true 5 (.rp (aM p))=some (aM p):=rfl
def EM(l:List Zh)(U:af):bB U false 1 (.rp (aI l))=some (aI l):=rfl
def wS{U:af}{id e sz:Nat}(h:U id=some ⟨e,sz,[]⟩):bN U e sz (.own id 0 0)=some ([],some id):=by
 simp only[bN,h];rw[ar (by simp)];simp
def zV(l:List Zh)(U:af):bz U 7 (aI l)=some (l.map bb):=by simp[aI,bz]
def MH(l:List YG)(hl1:l.length<=1000000000000)(hl2:∀p∈l,p.hs.length<=2000000/\p.fs.length<=2000000/\p.ls.length<=2000000)(U:af):
 au prog 14 [bp l] U λr Z'=>aa U Z'/\aL U Z' 37 5 r (l.map aM):=by
 refine e14.r (by simp[c14]) ?_;have hn:=ju l;refine ab.mix 6 ?_;apply sR;simp only[go_sem,seval,c14];refine ab.loop (λm st=>∃j:Nat,j<=l.length/\m=l.length-j/\st.s 0=bp l/\aL U st.U 37 5 (st.s 3) ((l.take j).map aM)/\st.s 4=vI j/\aa U st.U) l.length ⟨0,by omega,rfl,rfl,aL.start,rfl,aa.refl U⟩ ?_;rintro m ⟨s',Z'⟩ ⟨j,hj,rfl,h0,h3,h4,YF⟩;simp only at h0 h3 h4 YF;generalize hv:s' 3=v at h3;refine ab.mix 45 ?_;by_cases H':j<l.length
 .obtain⟨p,hp⟩:∃p:YG,l[j]?=some p:=⟨l[j],by simp[H']⟩
  have hi:=λU=>KE (U:=U) hp;have hc:((j:Int)<l.length)=True:=by simp;omega
  have hld:=λU=>Nj p U;have hpm:=hl2 p (vM hp);have hP:aM p=.agg [vI p.no,vI p.kind,aI p.hs,aI p.fs,aI p.ls]:=rfl;have hs:=aa.refl Z';have hb1:p.hs.length*57<=140737488355328:=by omega
  have Zl:p.fs.length*57<=140737488355328:=by omega
  have hb3:p.ls.length*57<=140737488355328:=by omega
  (refine ab.bg ZQ.nothing 30 ?_;simp only[go_sem,seval,h0,h4,hi,hc,hn,hld])
  refine ad λi5 Z5 s5 a5 f5=>?_;have z5:=hs.none f5;replace hs:=hs.trans s5;simp only[go_sem,seval,a5,hP];generalize ZN:C' _ i5 _=Y5;replace a5:=(congrFun ZN i5).symm.trans ag;replace hs:=Eq.subst (motive:=aa _) ZN (hs.ax z5);clear ZN;refine ad λi16 Z16 s16 a16 f16=>?_;have n516:=ao a5 f16;replace a5:=s16 _ _ a5;have z16:=hs.none f16;replace hs:=hs.trans s16;have hd16:=wS a16;have hsr:=zV p.hs;have hl16:=EM p.hs;simp only[go_sem,seval,h0,h4,hi,hP,hl16,hd16,hsr,hb1,cL,gY];refine cO λi22 Z22 s22 a22 f22=>?_;have n522:=ao a5 f22;have z22:=hs.none f22;replace a5:=s22 i5 _ ((bR n516).trans a5);replace hs:=(hs.xP z16).trans s22;simp only[go_sem,seval,fw];refine ab.freeze [0,3,4,5] 22 i22 0 p.hs.length (aa.qk Z22 i22) a22 (by simp[del]) rfl (by simp) ?_;replace a5:=(bR n522).trans a5;replace hs:=hs.xP z22;clear a16 a22 s22 f22 n522 z22 n516 z16 s16 f16 s5 f5 hd16;generalize del Z22 i22=Z22 at*
  (refine ab.bg ZQ.nothing 12 ?_;simp only[go_sem,seval,a5])
  generalize ZN:C' _ i5 _=Y5;replace a5:=(congrFun ZN i5).symm.trans ag;replace hs:=Eq.subst (motive:=aa _) ZN (hs.ax z5);clear ZN;refine ad λi24 Z24 s24 a24 f24=>?_;have n524:=ao a5 f24;replace a5:=s24 _ _ a5;have z24:=hs.none f24;replace hs:=hs.trans s24;have hd24:=wS a24;have hsr:=zV p.fs;have hl24:=EM p.fs;simp only[go_sem,seval,h0,h4,hi,hP,hl24,hd24,hsr,Zl,cL,gY];refine cO λi30 Z30 s30 a30 f30=>?_;have n530:=ao a5 f30;have z30:=hs.none f30;replace a5:=s30 i5 _ ((bR n524).trans a5);replace hs:=(hs.xP z24).trans s30;simp only[go_sem,seval,fw];refine ab.freeze [0,3,4,5] 30 i30 0 p.fs.length (aa.qk Z30 i30) a30 (by simp[del]) rfl (by simp) ?_;replace a5:=(bR n530).trans a5;replace hs:=hs.xP z30;clear a24 a30 s30 f30 n530 z30 n524 z24 s24 f24 hd24;generalize del Z30 i30=Z30 at*
  (refine ab.bg ZQ.nothing 12 ?_;simp only[go_sem,seval,a5])
  generalize ZN:C' _ i5 _=Y5;replace a5:=(congrFun ZN i5).symm.trans ag;replace hs:=Eq.subst (motive:=aa _) ZN (hs.ax z5);clear ZN;refine ad λi32 Z32 s32 a32 f32=>?_;have n532:=ao a5 f32;replace a5:=s32 _ _ a5;have z32:=hs.none f32;replace hs:=hs.trans s32;have hd32:=wS a32;have hsr:=zV p.ls;have hl32:=EM p.ls;simp only[go_sem,seval,h0,h4,hi,hP,hl32,hd32,hsr,hb3,cL,gY];refine cO λi38 Z38 s38 a38 f38=>?_;have n538:=ao a5 f38;have z38:=hs.none f38;replace a5:=s38 i5 _ ((bR n532).trans a5);replace hs:=(hs.xP z32).trans s38;simp only[go_sem,seval,fw];refine ab.freeze [0,3,4,5] 38 i38 0 p.ls.length (aa.qk Z38 i38) a38 (by simp[del]) rfl (by simp) ?_;replace a5:=(bR n538).trans a5;replace hs:=hs.xP z38;clear a32 a38 s38 f38 n538 z38 n532 z32 s32 f32 hd32;generalize del Z38 i38=Z38 at*
  (refine ab.bg ZQ.nothing 4 ?_;simp only[go_sem,seval,fw,a5,fw])
  generalize ZN:C' _ i5 _=Y5;replace a5:=(congrFun ZN i5).symm.trans ag;replace hs:=Eq.subst (motive:=aa _) ZN (hs.ax z5);clear ZN;apply sR;simp only[go_sem,seval,a5,hv];refine ad λi42 Z42 s42 a42 f42=>?_;replace a5:=s42 _ _ a5;replace hs:=hs.trans s42;obtain⟨Yn,hd,Zk⟩:=(h3.mono hs).dst (aa.refl _);have hsr:=cT a42;have hb:(((l.take j).map aM).length+1)*89<=140737488355328:=by simp only[cL,fY];omega
  have Zb:(l.take (j+1)).map aM=(l.take j).map aM++[aM p]:=by rw[HL,hp];simp
  simp only[go_sem,seval,hd,hsr,hb];refine cO λi43 Z43 s43 a43 f43=>?_;have ht:∀q:List Zh,(q.map bb).take q.length=q.map bb:=λq=>jj (by simp);rw[ht,ht,ht]at a43;simp only[go_sem,seval,h0,h4];exact⟨ai,l.length-(j+1),by omega,j+1,by omega,rfl,by rw[Zb];exact aL.new (by simp) a43 (YF.none (hs.none f43)),by simp[vI],(Zk U (aa.refl _) _ (YF.trans hs)).trans s43⟩
 .have hc:((j:Int)<l.length)=False:=by simp;omega
  apply sR;simp only[go_sem,seval,h0,hv,h4,hc,hn];have:l.take j=l:=jj (by omega);rw[this]at h3;exact⟨_,_,aa.refl _,Wk.refl (aa.refl _) _,YF,h3⟩
open Go.Proofs Go.Proofs.Tryz
def Ed:dU pZ:=⟨by decide,by decide⟩
def FJ(vp:V)(P:List YG)(hlP:cW false vp=some (.int .i64 P.length))(hiP:∀(U:af) (i:Nat) (h:i<P.length),bo U 5 vp (.int .i64 i)=some (.rp (aM P[i])))
 (hPp:∀p∈P,ly p)(hPl:P.length<=10000000000000)(page rule:Int)(he:eu pZ 8 20=0)(hv:jy (bx (aY pZ 8 20)) P 0=(page,rule)):
 aJ prog 22 [vp,vI page,vI rule] (.bool true):=λU=>by
 refine e22.r (by simp[c22]) ?_;have hs:=aa.refl U;have hc:=BC pZ Ed 8 20 vp P hlP hiP hPp hPl;rw[ar he,hv,he]at hc;have ZR:aJ prog 20 [.str [91,111,49,119,49,32,40,49,48,32,48,32,53,32,53,32,53,41,93]] (.P' [aH pZ,vI 0,vI 0]):=CE;generalize pZ=D at*;refine ab.mix 12 ?_;apply sR;simp only[go_sem,seval,c22];refine ab.ay rfl rfl rfl (ZR _) ?_;apply sR;simp only[go_sem,seval];refine ab.ay rfl rfl rfl (hc _) ?_;apply sR;simp only[go_sem,seval];refine ad λYM Z10 s10 YX f10=>?_;have z10:=hs.none f10;replace hs:=hs.trans s10;simp only[go_sem,seval,YX,Ic];generalize hq10:C' _ YM _=Y10;replace YX:=(congrFun hq10 YM).symm.trans ag;replace hs:=Eq.subst (motive:=aa _) hq10 (hs.ax z10);clear hq10;exact ak.pure hs rfl
open Go.Proofs Go.Proofs.Tryz
set_option maxRecDepth 100000
def A31:YG:=⟨1,1,[],[⟨1,0,0,0,0,5,10⟩,⟨1,1,0,0,10,5,10⟩],[]⟩
def B31:YG:=⟨2,1,[],[⟨1,2,0,0,0,5,10⟩],[]⟩
def Gq:eu pZ 8 20=0:=by kernel_rfl
def E6:bx (aY pZ 8 20)=[A31,B31]:=by kernel_rfl
def Xp:ic (aY pZ 8 20) (bO .nil [A31,B31] 1)=⟨⟨2,0,false⟩,[]⟩:=by kernel_rfl
def Vf(U:af)(N:Nat->Prop):Fz U N Ew (bp [A31,B31]):=
 .sl _ _ _ (.cons _ _ _ _ (.agg _ _ (.cons _ _ _ _ (.same _ rfl) (.cons _ _ _ _ (.same _ rfl) (.cons _ _ _ _ (.nil 7) (.cons _ _ _ _ (.same _ rfl) (.cons _ _ _ _ (.same _ rfl) .nil))))))
  (.cons _ _ _ _ (.agg _ _ (.cons _ _ _ _ (.same _ rfl) (.cons _ _ _ _ (.same _ rfl) (.cons _ _ _ _ (.nil 7) (.cons _ _ _ _ (.same _ rfl) (.cons _ _ _ _ (.same _ rfl) .nil)))))) .nil))
def TF:aJ prog 21 [aH pZ,vI 8,vI 20] (.P' [bp [A31,B31],vI 0]):=λU=>by
 have h0:au prog 21 [aH pZ,vI 8,vI 20] U λr Z'=>r=.P' [Ew,Kf]/\Z'=U:=NL U;refine h0.Aj λr Z' h=>?_
 .obtain⟨rfl,rfl⟩:=h;exact⟨_,_,aa.refl _,Fz.wk (N:=λ_=>False) (.P' _ _ (.cons _ _ _ _ (Vf _ _) (.cons _ _ _ _ (.same _ rfl) .nil))) (aa.refl _) (λ_ h=>h.elim),rfl,rfl⟩
def NS:aJ prog 15 [aH pZ,vI 8,vI 20,bp [A31,B31],vI 1] (.P' [bF ⟨⟨2,0,false⟩,[]⟩,vI 0]):=by
 have h:=Ct pZ Ed 8 20 Gq 1 (by rw[E6];decide);rw[E6,Xp]at h;exact h
def IP:aJ prog 13 [aH pZ,vI 8,vI 20,bp [A31,B31],vI 1] (.P' [bp [B31],vI 0]):=by
 have h:=vv pZ Ed 8 20 Gq 1 (by rw[E6];decide) _ (by rw[E6];decide) rfl;rw[E6]at h;exact h
def oP(Q:List YG)(hQ:∀p∈Q,ly p)(hl:Q.length<=10000000000000)(page rule:Int)(hv:jy [A31,B31] Q 0=(page,rule)):aJ prog 22 [bp Q,vI page,vI rule] (.bool true):=
 FJ (bp Q) Q (ju Q) (sV Q) hQ hl page rule Gq (by rw[E6];exact hv)
def TG:aJ prog 22 [.aC,vI 1,vI 9] (.bool true):=
 FJ .aC [] rfl Dy (by simp) (by decide) 1 9 Gq (by rw[E6];decide)
def GY{p:YG}(h1:p.hs.length<=2)(h2:p.fs.length<=2)(h3:p.ls.length<=2):ly p:=by unfold ly;omega
def UC:aJ prog 22 [bp [A31,B31],vI 0,vI 0] (.bool true):=oP _ (by intro p hp;simp only[cg,List.mem_nil_iff,or_false]at hp;rcases hp with rfl|rfl<;>exact GY (by decide) (by decide) (by decide)) (by decide) 0 0 (by decide)
def TN:aJ prog 22 [bp [A31],vI 2,vI 9] (.bool true):=oP _ (by intro p hp;rw[er.1 hp];exact GY (by decide) (by decide) (by decide)) (by decide) 2 9 (by decide)
def UD:aJ prog 22 [bp [{ A31 with no:=2 }],vI 1,vI 1] (.bool true):=oP _ (by intro p hp;rw[er.1 hp];exact GY (by decide) (by decide) (by decide)) (by decide) 1 1 (by decide)
def UI:aJ prog 22 [bp [B31],vI 1,vI 1] (.bool true):=oP _ (by intro p hp;rw[er.1 hp];exact GY (by decide) (by decide) (by decide)) (by decide) 1 1 (by decide)
def TE:aJ prog 22 [bp [{ A31 with fs:=[⟨1,0,0,0,0,5,10⟩] }],vI 1,vI 5] (.bool true):=oP _ (by intro p hp;rw[er.1 hp];exact GY (by decide) (by decide) (by decide)) (by decide) 1 5 (by decide)
def Ui:aJ prog 22 [bp [{ A31 with fs:=[⟨1,0,0,0,0,5,10⟩,⟨1,1,0,0,11,5,10⟩] }],vI 1,vI 6] (.bool true):=oP _ (by intro p hp;rw[er.1 hp];exact GY (by decide) (by decide) (by decide)) (by decide) 1 6 (by decide)
end Go.Vc
