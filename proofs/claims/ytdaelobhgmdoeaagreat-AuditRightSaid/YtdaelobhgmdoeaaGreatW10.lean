/- Part 10 of the library of this proof. -/
import Derived.Test.YtdaelobhgmdoeaaGreatW9
set_option linter.all false
set_option maxHeartbeats 8000000
set_option maxRecDepth 100000
namespace Go.Vc
open Go.RowKit
variable {P:Program} {n:Nat} {st:St} {Q:St->Prop} {k:List It} {I:Mu} {w:World}
def L3{o:Op}{tbl:List (TypeId×FuncId)}{xs:List VX}(h:Yn P n o=.more (.inv tbl) xs):∃r name args argTypes,o=.call { callee:=.invoke r name,args:=args,argTypes:=argTypes }/\
 tbl=As P name/\xs=cx n r::args.toList.map (cx n):=by
 cases o
 case call c=>
  obtain⟨callee,args,argTypes⟩:=c;cases callee
  case value=>simp[Yn]at h
  case invoke r name=>
   simp only[Yn,Yw.more.injEq,MOp.inv.injEq]at h;exact⟨r,name,args,argTypes,rfl,h.1.symm,h.2.symm⟩
  case builtin b=>cases b<;>(simp only[Yn,bR]at h;(repeat' split at h)<;>cases h)
 case unOp op t x=>cases op<;>simp only[Yn,bR]at h<;>cases h
 case makeFunc f a b=>cases f<;>simp only[Yn,bR]at h<;>(repeat' split at h)<;>cases h
 all_goals (simp only[Yn,bR]at h;(repeat' split at h)<;>cases h)
def Eh{name:String}{t:TypeId}{f:FuncId}(h:(As P name).lookup t=some f):w8 P name t=some f/\t<P.types.size:=by
 unfold As at h;have key:∀l:List Nat,(l.filterMap λt=>(w8 P name t).map λf=>(t,f)).lookup t=some f->w8 P name t=some f/\t∈l:=by
  intro l
  induction l with
  |nil=>intro h;simp at h
  |cons a l ih=>
   intro h;rw[List.filterMap_cons]at h;cases ha:w8 P name a with
   |none=>
    rw[ha]at h;simp only[Option.map_none]at h;obtain⟨h1,h2⟩:=ih h;exact⟨h1,List.mem_cons_of_mem _ h2⟩
   |some g=>
    rw[ha]at h;simp only[Option.map_some,List.lookup_cons]at h;by_cases e:t=a
    .subst e;simp at h;subst h;exact⟨ha,by simp⟩
    .have:(t==a)=false:=by simpa using e
     rw[this]at h;obtain⟨h1,h2⟩:=ih h;exact⟨h1,List.mem_cons_of_mem _ h2⟩
 obtain⟨h1,h2⟩:=key _ h;exact⟨h1,by simpa using h2⟩
def D8{name:String}{t:TypeId}{f:FuncId}(h:w8 P name t=some f)(fuel:Nat)(v:Value):(method (fuel+1) t v name).run P w=.ok (f,v) w:=by
 unfold w8 at h;cases hi:P.info? t with
 |none=>rw[hi]at h;cases h
 |some i=>
  rw[hi]at h;simp only at h;cases hm:i.methods.find? (·.name==name)with
  |none=>rw[hm]at h;cases h
  |some m=>
   rw[hm]at h;simp only at h;split at h
   .rename_i hp;have hp':m.path.toList=[]:=by simpa using hp
    cases hf:m.func with
    |none=>rw[hf]at h;simp at h
    |some fp=>
     obtain⟨f0,pr⟩:=fp;rw[hf]at h;cases hu:P.underlying t with
     |none=>rw[hu]at h;cases pr<;>simp at h
     |some d=>
      rw[hu]at h;cases pr
      .cases d
       case pointer e=>simp at h
       all_goals
        simp only[aB]at h;subst h;simp[method,typeInfo,hi,hm,follow,hp',hf,receiverAt,run_underlying hu,Place.get]
      .cases d
       case pointer e=>
        simp only[aB]at h;subst h;simp[method,typeInfo,hi,hm,follow,hp',hf,receiverAt,run_underlying hu,Place.get]
       all_goals simp at h
   .cases h
def ab.inv{i:az}{l:List az}{tbl:List (TypeId×FuncId)}{rx:VX}{xs:List VX}(hw:aP st.s i.g=some true)(ho:i.op=.more (.inv tbl) (rx::xs)){t:TypeId}{v:V}(hr:rx.ev st.s=.iface t v)
 {f:FuncId}(hf:tbl.lookup t=some f){Post:V->af->Prop}(hc:au P f (v::xs.map (·.ev st.s)) st.U Post)
 (h:∀r Z',Post r Z'->ab P n (.ops l::k) ⟨aN st.s i.dst r,Z'⟩ Q):ab P n (.ops (i::l)::k) st Q:=by
 refine ab.ins (by rw[ho];simp) hw λF hn I a w o all hi hs next Q' Yd=>?_
 subst hn;obtain⟨Yf,hd⟩:=bZ hi;rw[ho]at Yf;obtain⟨r0,name,args,argTypes,g1,rfl,g2⟩:=L3 Yf;simp only[List.cons.injEq]at g2;obtain⟨rfl,rfl⟩:=g2;obtain⟨q1,q2⟩:=Eh hf;have hfr:=bE hs r0;rw[hr]at hfr;simp only[E']at hfr;obtain⟨y,hy,hry⟩:=hfr;have YN:al I (aA I st.U) w (v::(args.toList.map (cx F.n)).map (·.ev st.s)) (y::args.toList.map a.eval):=by
  simp only[al];exact⟨y,_,rfl,hry,mK hs args.toList⟩
 have YD:(execOp a.eval o).run P w=.ok (.enter f ((y::args.toList.map a.eval).toArray)) w:=by
  unfold execOp;rw[g1];have ZX:0<P.types.size:=Nat.lt_of_le_of_lt (Nat.zero_le _) q2;obtain⟨fu,hfu⟩:∃fu,P.types.size+Made.depth=fu+1:=⟨P.types.size+Made.depth-1,by omega⟩
  have hprog:(program:Sem Program).run P w=.ok P w:=rfl;have harr:(#[Value.iface t y]++args.map a.eval).extract 1 (#[Value.iface t y]++args.map a.eval).size=args.map a.eval:=by
   apply Array.ext';simp[jW]
  have hget:(#[Value.iface t y]++args.map a.eval)[0]?=some (.iface t y):=by
   rw[Array.getElem?_append_left (by simp)];rfl
  simp only[resolve,Sem.run_bind,Sem.run_pure,Result.andThen_ok,invoke,hy,hget,harr,callMethod,hprog,hfu,D8 q1];have hen:=j9 (w:=w) hc.1 (#[y]++args.map a.eval);rw[hen];congr 2;apply Array.ext';simp
 unfold Oper.wp;rw[YD];simp only[Oper.upon];have hsat:Sat w (aA I st.U) I st.U w:=hs.sat.here;refine(hc.2 I w _ hsat YN).mono ?_;rintro e w' ⟨r,Z',Y',val,rfl,hp,hle,Yk,hr'⟩;obtain⟨Zn,ZS⟩:=hs.sat.compose Yk;refine Yd _ _ _ ⟨Y',?_⟩ (h r Z' hp);rw[<-hd];exact hs.step Zn hle ZS Yk.size hr'
open Go.RowKit
variable {P:Program} {n:Nat} {st:St} {Q:St->Prop} {k:List It} {I:Mu} {w:World}
def JL(c:IntKind)(m:Int):Value->Bool
 |.int c' m'=>decide (c'=c/\m'=m)
 |_=>false
def ke{c:IntKind}{m m':Int}:JL c m (.int c m')=decide (m'=m):=by simp[JL]
def fG(c:IntKind)(m:Int):List MapEntry->List V->Option V
 |e::es,v::vs=>if JL c m e.key then some v else fG c m es vs
 |_,_=>none
structure nG(c:IntKind)(es:List MapEntry)(env:List V)(f:Int->Option V):Prop where
 len:es.length=env.length
 keys:∀e∈es,∃m,e.key=.int c m
 get:∀m,fG c m es env=f m
 apart:es.Pairwise λa b=>a.key≠b.key
def mq(c:IntKind)(U:af)(id:Nat)(f:Int->Option V):Prop:=
 ∃(es:Array MapEntry) (clock:Nat) (env:List V),U id=some (gh (.map es clock) env)/\nG c es.toList env f
def mq.sub{c:IntKind}{U Z':af}{id:Nat}{f:Int->Option V}(h:mq c U id f)(hs:aa U Z'):mq c Z' id f:=by
 obtain⟨es,clock,env,h1,h2⟩:=h;exact⟨es,clock,env,hs _ _ h1,h2⟩
def mq.ne{c:IntKind}{U:af}{id j:Nat}{f:Int->Option V}{e:TypeId}{sz:Nat}{rows:List V}(h:mq c U id f)(hj:U j=some ⟨e,sz,rows⟩)(hz:sz≠0):j≠id:=by
 rintro rfl;obtain⟨es,clock,env,h1,_⟩:=h;rw[h1]at hj;simp only[gh,aB,Ob.mk.injEq]at hj;exact hz hj.2.1.symm
def w9(c:IntKind)(kk:IntKind)(m:Int):∀(es:List MapEntry) (env:List V) (i:Nat),es.length=env.length->(∀e∈es,∃m,e.key=.int c m)->
 (fG c m es env=none/\Instr.findNow (.int kk) (.int c m) es i=some none/\∀e∈es,e.key≠.int c m)\/
 (∃j e v,es[j]?=some e/\env[j]?=some v/\e.key=.int c m/\fG c m es env=some v/\Instr.findNow (.int kk) (.int c m) es i=some (some (i+j,e.val)))
 |[],env,i,_,_=>.inl ⟨by simp[fG],by simp[Instr.findNow],by simp⟩
 |e::es,[],i,hl,_=>by simp at hl
 |e::es,v::vs,i,hl,hk=>by
  obtain⟨m',hm'⟩:=hk e (by simp);by_cases hm:m'=m
  .subst hm;refine .inr ⟨0,e,v,rfl,rfl,hm',by simp[fG,hm',ke],?_⟩;simp[Instr.findNow,Instr.sameNow,hm']
  .have hmm:¬m=m':=λe=>hm e.symm;have hg:fG c m (e::es) (v::vs)=fG c m es vs:=by simp[fG,hm',ke,hm]
   have hf:Instr.findNow (.int kk) (.int c m) (e::es) i=Instr.findNow (.int kk) (.int c m) es (i+1):=by
    have hb:(m==m')=false:=by simpa using hmm
    simp[Instr.findNow,Instr.sameNow,hm',hb]
   rcases w9 c kk m es vs (i+1) (by simpa using hl) (λx hx=>hk x (by simp[hx]))with⟨h1,h2,h3⟩|⟨j,e',v',h1,h2,h3,h4,h5⟩
   .refine .inl ⟨by rw[hg,h1],by rw[hf,h2],λx hx=>?_⟩;rcases cm.1 hx with rfl|hx
    .rw[hm'];intro e;cases e;exact hm rfl
    .exact h3 x hx
   .refine .inr ⟨j+1,e',v',by simpa using h1,by simpa using h2,h3,by rw[hg,h4],?_⟩;rw[hf,h5,show i+1+j=i+(j+1) by omega]
def vR{c:IntKind}{m:Int}{v:V}{e':MapEntry}(he':e'.key=.int c m)(m':Int):∀(es:List MapEntry) (env:List V) (j:Nat) (e:MapEntry),es.length=env.length->(∀e∈es,∃m,e.key=.int c m)->
 es.Pairwise (λa b=>a.key≠b.key)->es[j]?=some e->e.key=.int c m->fG c m' (es.set j e') (env.set j v)=if m'=m then some v else fG c m' es env
 |[],_,j,e,_,_,_,h,_=>by simp at h
 |x::es,[],j,e,hl,_,_,_,_=>by simp at hl
 |x::es,u::us,0,e,hl,hk,hp,h,he=>by
  simp at h;subst h;simp only[List.set_cons_zero,fG,he',he,ke];by_cases hm:m'=m
  .subst hm;simp
  .have:¬m=m':=λe=>hm e.symm;simp[hm,this]
 |x::es,u::us,j+1,e,hl,hk,hp,h,he=>by
  obtain⟨mx,hmx⟩:=hk x (by simp);have hpx:=(List.pairwise_cons.1 hp)
  have YF:mx≠m:=by
   rintro rfl;exact hpx.1 e (yd (by simpa using h)) (by rw[hmx,he])
  have ih:=vR he' m' (v:=v) es us j e (by simpa using hl) (λy hy=>hk y (by simp[hy])) hpx.2 (by simpa using h) he;simp only[List.set_cons_succ,fG,hmx,ke];by_cases hm:mx=m'
  .have:¬m'=m:=λe=>YF (hm.trans e);simp[hm,this]
  .simp only[hm,decide_false,eT,if_false];exact ih
def uB{c:IntKind}{m:Int}{v:V}{e':MapEntry}(he':e'.key=.int c m)(m':Int):∀(es:List MapEntry) (env:List V),es.length=env.length->(∀e∈es,∃m,e.key=.int c m)->
 (∀e∈es,e.key≠.int c m)->fG c m' (es++[e']) (env++[v])=if m'=m then some v else fG c m' es env
 |[],[],_,_,_=>by
  simp only[kW,fG,he',ke];by_cases hm:m'=m
  .subst hm;simp
  .have:¬m=m':=λe=>hm e.symm;simp[hm,this]
 |[],_::_,hl,_,_=>by simp at hl
 |x::es,[],hl,_,_=>by simp at hl
 |x::es,u::us,hl,hk,hn=>by
  obtain⟨mx,hmx⟩:=hk x (by simp);have YF:mx≠m:=by
   rintro rfl;exact hn x (by simp) hmx
  have ih:=uB he' m' (v:=v) es us (by simpa using hl) (λy hy=>hk y (by simp[hy])) (λy hy=>hn y (by simp[hy]));simp only[List.cons_append,fG,hmx,ke];by_cases hm:mx=m'
  .have:¬m'=m:=λe=>YF (hm.trans e);simp[hm,this]
  .simp only[hm,decide_false,eT,if_false];exact ih
def nG.set{c:IntKind}{es:List MapEntry}{env:List V}{f:Int->Option V}(h:nG c es env f){m:Int}{v:V}{j:Nat}{e e':MapEntry}(hj:es[j]?=some e)(he:e.key=.int c m)(he':e'.key=.int c m):
 nG c (es.set j e') (env.set j v) λm'=>if m'=m then some v else f m' where
 len:=by simp[h.len]
 keys:=λx hx=>by
  rcases List.mem_or_eq_of_mem_set hx with hx|rfl
  .exact h.keys x hx
  .exact⟨m,he'⟩
 get:=λm'=>by rw[vR he' m' es env j e h.len h.keys h.apart hj he,h.get m']
 apart:=by
  have hmap:(es.set j e').map (·.key)=es.map (·.key):=by
   rw[List.map_set,he',<-he];apply List.ext_getElem?;intro i;rw[List.getElem?_set];split
   .rename_i e1;subst e1;split
    .simp[hj]
    .rename_i hge;rw[qY (by omega)]
   .rfl
  have h1:(es.map (·.key)).Pairwise (·≠·):=List.pairwise_map.2 h.apart;rw[<-hmap]at h1;exact List.pairwise_map.1 h1
def nG.push{c:IntKind}{es:List MapEntry}{env:List V}{f:Int->Option V}(h:nG c es env f){m:Int}{v:V}{e':MapEntry}(hn:∀e∈es,e.key≠.int c m)(he':e'.key=.int c m):
 nG c (es++[e']) (env++[v]) λm'=>if m'=m then some v else f m' where
 len:=by simp[h.len]
 keys:=λx hx=>by
  rcases db.1 hx with hx|hx
  .exact h.keys x hx
  .simp at hx;subst hx;exact⟨m,he'⟩
 get:=λm'=>by rw[uB he' m' es env h.len h.keys hn,h.get m']
 apart:=by
  rw[List.pairwise_append];refine⟨h.apart,by simp,λa ha b hb=>?_⟩;simp at hb;subst hb;rw[he'];exact hn a ha
open Go.RowKit
variable {P:Program} {n:Nat} {st:St} {Q:St->Prop} {k:List It} {I:Mu} {w:World}
def zt{t e:TypeId}(h:Co P t=some e):∃kt kk,P.underlying t=some (.map kt e)/\P.underlying kt=some (.int kk):=by
 unfold Co at h;split at h
 .rename_i kt et ht;split at h
  .rename_i kk hk;simp only[aB]at h;subst h;exact⟨kt,kk,ht,hk⟩
  .cases h
 .cases h
def G2{o:Op}{xs:List VX}(h:Yn P n o=.more .mkMap xs):∃t,o=.makeMap t none/\xs=[]:=by
 cases o
 case makeMap t r=>
  simp only[Yn]at h;split at h
  .rename_i hc;simp only[Ba,Option.isNone_iff_eq_none]at hc;obtain⟨rfl,_⟩:=hc;simp only[Yw.more.injEq,true_and]at h;exact⟨t,rfl,h.symm⟩
  .cases h
 case call c=>
  obtain⟨callee,args,argTypes⟩:=c;cases callee
  case value=>simp[Yn]at h
  case invoke r name=>simp[Yn]at h
  case builtin b=>cases b<;>(simp only[Yn]at h;(repeat' split at h)<;>cases h)
 case unOp op t x=>cases op<;>simp only[Yn]at h<;>cases h
 case makeFunc f a b=>cases f<;>simp only[Yn]at h<;>(repeat' split at h)<;>cases h
 all_goals (simp only[Yn,bR]at h;(repeat' split at h)<;>cases h)
def KN{o:Op}{xs:List VX}(h:Yn P n o=.more .HN xs):∃t m y x,(o=.insert t m y x\/o=.mapUpdate t m y x)/\(Co P t).isSome=true/\xs=[cx n m,cx n y,cx n x]:=by
 cases o
 case insert t m y x=>
  simp only[Yn]at h;split at h
  .rename_i hc;simp only[Yw.more.injEq,true_and]at h;exact⟨t,m,y,x,.inl rfl,hc,h.symm⟩
  .cases h
 case mapUpdate t m y x=>
  simp only[Yn]at h;split at h
  .rename_i hc;simp only[Yw.more.injEq,true_and]at h;exact⟨t,m,y,x,.inr rfl,hc,h.symm⟩
  .cases h
 case call c=>
  obtain⟨callee,args,argTypes⟩:=c;cases callee
  case value=>simp[Yn]at h
  case invoke r name=>simp[Yn]at h
  case builtin b=>cases b<;>(simp only[Yn]at h;(repeat' split at h)<;>cases h)
 case unOp op t x=>cases op<;>simp only[Yn]at h<;>cases h
 case makeFunc f a b=>cases f<;>simp only[Yn]at h<;>(repeat' split at h)<;>cases h
 all_goals (simp only[Yn,bR]at h;(repeat' split at h)<;>cases h)
def Hk{o:Op}{xs:List VX}{ok:Bool}{zv:V}(h:Yn P n o=.more (.tL ok zv) xs):∃t x y e i z,o=.lookup t x y ok/\Co P t=some e/\zeroOf P e=some (i,z)/\zv=ofValue z/\xs=[cx n x,cx n y]:=by
 cases o
 case lookup t x y ok'=>
  simp only[Yn]at h;split at h
  .rename_i e he;split at h
   .rename_i i z hz;simp only[Yw.more.injEq,MOp.tL.injEq]at h;obtain⟨⟨rfl,rfl⟩,rfl⟩:=h;exact⟨t,x,y,e,i,z,rfl,he,hz,rfl,rfl⟩
   .cases h
  .cases h
 case call c=>
  obtain⟨callee,args,argTypes⟩:=c;cases callee
  case value=>simp[Yn]at h
  case invoke r name=>simp[Yn]at h
  case builtin b=>cases b<;>(simp only[Yn]at h;(repeat' split at h)<;>cases h)
 case unOp op t x=>cases op<;>simp only[Yn]at h<;>cases h
 case makeFunc f a b=>cases f<;>simp only[Yn]at h<;>(repeat' split at h)<;>cases h
 all_goals (simp only[Yn,bR]at h;(repeat' split at h)<;>cases h)
def qQ{b:Nat}{es:Array MapEntry}{c:Nat}(h:w.heap[b]?=some (.map es c)):(getObj b).run P w=.ok (.map es c) w:=by simp[getObj,Sem.run,h]
def C3{b:Nat}{es:Array MapEntry}{c:Nat}(o':Obj)(h:w.heap[b]?=some (.map es c)):(setObj b o').run P w=.ok () (w.putObj b o'):=by simp[setObj,Sem.run,h,World.putObj]
def mR{em:Bool}{t:TypeId}{kk c:IntKind}{m:Int}(h:P.underlying t=some (.int kk)):(Instr.checkKey em 10000 t (.int c m)).run P w=.ok () w:=by
 show(Instr.checkKey em (9999+1) t (.int c m)).run P w=.ok () w;rw[Instr.checkKey];simp[run_underlying h]
def pB{t:TypeId}{kk c:IntKind}{m:Int}(h:P.underlying t=some (.int kk)){es:List MapEntry}{r:Option (Nat×Value)}(hf:Instr.findNow (.int kk) (.int c m) es 0=some r):
 (Instr.findKey t (.int c m) es).run P w=.ok r w:=by
 simp[Instr.findKey,run_underlying h,hf]
def A3{c:IntKind}{m:Int}:(Instr.keyThatStays (.int c m) (.int c m)).run P w=.ok (.int c m) w:=by
 have:Instr.sameBits 10000 (.int c m) (.int c m)=true:=by
  show Instr.sameBits (9999+1) (.int c m) (.int c m)=true;simp[Instr.sameBits]
 simp[Instr.keyThatStays,this]
def al.set{ow:Nat->Prop}:∀{vs:List V} {l:List Value} {v:V} {x:Value} (j:Nat),al I ow w vs l->E' I ow w v x->al I ow w (vs.set j v) (l.set j x)
 |[],l,v,x,j,h,hv=>by simp only[al]at h;subst h;simp[al]
 |u::us,l,v,x,0,h,hv=>by
  simp only[al]at h;obtain⟨y,ys,rfl,h1,h2⟩:=h;simp only[List.set_cons_zero,al];exact⟨x,ys,rfl,hv,h2⟩
 |u::us,l,v,x,j+1,h,hv=>by
  simp only[al]at h;obtain⟨y,ys,rfl,h1,h2⟩:=h;simp only[List.set_cons_succ,al];exact⟨y,_,rfl,h1,al.set j h2 hv⟩
def ab.mkMap{i:az}{l:List az}{xs:List VX}(hw:aP st.s i.g=some true)(ho:i.op=.more .mkMap xs)
 (h:∀id,st.U id=none->ab P n (.ops l::k) ⟨aN st.s i.dst (.mp id),C' st.U id (gh (.map #[] 0) [])⟩ Q):ab P n (.ops (i::l)::k) st Q:=by
 refine ab.ins (by rw[ho];simp) hw λF hn I a w o all hi hs next Q' Yd=>?_
 subst hn;obtain⟨Yf,hd⟩:=bZ hi;rw[ho]at Yf;obtain⟨t,h1,_⟩:=G2 Yf;obtain⟨id,O',Y',g1,g2,g3,g4⟩:=hs.sat.TE (.map #[] 0) [] (by simp[al,tmpsOf]);have YD:(execOp a.eval o).run P w=.ok (.value (.map (some w.heap.size))) (w.alloc (.map #[] 0)):=by
  unfold execOp;rw[h1];simp[Instr.makeMap]
  all_goals rfl
 unfold Oper.wp;rw[YD];refine Yd _ _ _ ⟨Y',?_⟩ (h id O');rw[<-hd];exact hs.step g3 g2 g4 (by simp) (by simp[E',g1])
def K9{i:az}{xm xk:VX}{ok:Bool}{zv:V}(ho:i.op=.more (.tL ok zv) [xm,xk]){id:Nat}{c:IntKind}{f:Int->Option V}{m:Int}
 (hm:xm.ev st.s=.mp id)(hmap:mq c st.U id f)(hk:xk.ev st.s=.int c m){K:St->Prop}
 (h:K ⟨aN st.s i.dst (if ok then .P' [(f m).getD zv,.bool (f m).isSome]else(f m).getD zv),st.U⟩):
 ∀(F:Fr),F.n=n->∀(I:Mu) (a:Act) (w:World) (o:Oper) (all:Array Oper),bG P n all o=i->cK F I st a w->
  ∀(next:Act->World->Prop) (Q':Exit->Act->World->Prop),(∀Zd a' w',ef F Zd a' w'->K Zd->next a' w')->o.wp P a w next Q':=by
 intro F hn I a w o all hi hs next Q' Yd
 subst hn;obtain⟨Yf,hd⟩:=bZ hi;rw[ho]at Yf;obtain⟨t,x,y,e,ti,z,g1,g2,g3,rfl,g4⟩:=Hk Yf;simp only[List.cons.injEq,and_true]at g4;obtain⟨rfl,rfl⟩:=g4;obtain⟨kt,kk,u1,u2⟩:=zt g2;obtain⟨es,clock,env,YK,hrel⟩:=hmap;have hr:=bE hs x;have hrk:=bE hs y;rw[hm]at hr;rw[hk]at hrk;simp only[E']at hr hrk;split at hr
 .rename_i b cap O';obtain⟨Zb,henv⟩:=hs.sat.MQ YK O';simp only[tmpsOf]at henv;rcases w9 c kk m es.toList env 0 hrel.len hrel.keys with⟨q1,q2,q3⟩|⟨j,en,v,q1,q2,q3,q4,q5⟩
  .rw[hrel.get m]at q1;rw[q1]at h;have YD:(Instr.lookup t (a.eval x) (a.eval y) ok).run P w=.ok (if ok then .tuple #[z,.bool false]else z) w:=by
    simp[Instr.lookup,run_underlying u1,hr,hrk,qQ Zb,mR u2,pB u2 q2,dK g3]
   have hx:(execOp a.eval o).run P w=.ok (.value (if ok then .tuple #[z,.bool false]else z)) w:=by
    unfold execOp;rw[g1];simp[YD]
   unfold Oper.wp;rw[hx];refine Yd _ _ _ ⟨I,?_⟩ h;rw[<-hd];have hz:E' I (aA I st.U) w (ofValue z) z:=n9 z;refine hs.pure ?_;cases ok
   .simpa using hz
   .simp only[if_true,Option.getD_none,Option.isSome_none,E'];exact⟨_,rfl,by simp only[al,E'];exact⟨_,_,rfl,hz,_,_,rfl,rfl,rfl⟩⟩
  .rw[hrel.get m]at q4;rw[q4]at h;rw[jc]at q5;have hv:E' I (aA I st.U) w v en.val:=by
    obtain⟨x',YM,hrx⟩:=henv.get q2;rw[ry,q1]at YM;simp at YM;subst YM;exact hrx
   have YD:(Instr.lookup t (a.eval x) (a.eval y) ok).run P w=.ok (if ok then .tuple #[en.val,.bool true]else en.val) w:=by
    simp[Instr.lookup,run_underlying u1,hr,hrk,qQ Zb,mR u2,pB u2 q5]
   have hx:(execOp a.eval o).run P w=.ok (.value (if ok then .tuple #[en.val,.bool true]else en.val)) w:=by
    unfold execOp;rw[g1];simp[YD]
   unfold Oper.wp;rw[hx];refine Yd _ _ _ ⟨I,?_⟩ h;rw[<-hd];refine hs.pure ?_;cases ok
   .simpa using hv
   .simp only[if_true,Option.getD_some,Option.isSome_some,E'];exact⟨_,rfl,by simp only[al,E'];exact⟨_,_,rfl,hv,_,_,rfl,rfl,rfl⟩⟩
 .exact hr.elim
open Go.RowKit
variable {P:Program} {n:Nat} {st:St} {Q:St->Prop} {k:List It} {I:Mu} {w:World}
def qF{α:Type}{f:α->α}:∀(l:List α) (j:Nat) (x:α),l[j]?=some x->l.modify j f=l.set j (f x)
 |[],j,x,h=>by simp at h
 |y::l,0,x,h=>by simp at h;subst h;rfl
 |y::l,j+1,x,h=>by
  have:=qF (f:=f) l j x (by simpa using h);rw[List.modify_succ_cons,List.set_cons_succ,this]
def NM{i:az}{xm xk xv:VX}(ho:i.op=.more .HN [xm,xk,xv]){id:Nat}{c:IntKind}{f:Int->Option V}{m:Int}{v:V}
 (hm:xm.ev st.s=.mp id)(hmap:mq c st.U id f)(hk:xk.ev st.s=.int c m)(hv:xv.ev st.s=v){K:St->Prop}
 (h:∀ob:Ob,ob.sz=0->mq c (C' st.U id ob) id (λm'=>if m'=m then some v else f m')->K ⟨aN st.s i.dst (.P' []),C' st.U id ob⟩):
 ∀(F:Fr),F.n=n->∀(I:Mu) (a:Act) (w:World) (o:Oper) (all:Array Oper),bG P n all o=i->cK F I st a w->
  ∀(next:Act->World->Prop) (Q':Exit->Act->World->Prop),(∀Zd a' w',ef F Zd a' w'->K Zd->next a' w')->o.wp P a w next Q':=by
 intro F hn I a w o all hi hs next Q' Yd
 subst hn;obtain⟨Yf,hd⟩:=bZ hi;rw[ho]at Yf;obtain⟨t,x,y,z,g1,g2,g4⟩:=KN Yf;simp only[List.cons.injEq,and_true]at g4;obtain⟨rfl,rfl,rfl⟩:=g4;obtain⟨e,he⟩:=Option.isSome_iff_exists.1 g2;obtain⟨kt,kk,u1,u2⟩:=zt he;obtain⟨es,clock,env,YK,hrel⟩:=hmap;have hr:=bE hs x;have hrk:=bE hs y;have hrv:=bE hs z;rw[hm]at hr;rw[hk]at hrk;rw[hv]at hrv;simp only[E']at hr hrk;split at hr
 .rename_i b cap O';obtain⟨Zb,henv⟩:=hs.sat.MQ YK O';simp only[tmpsOf]at henv;have Zn:∀(o':Obj) (env':List V),(∀es' clock',o'=.map es' clock'->nG c es'.toList env' (λm'=>if m'=m then some v else f m'))->(∃es' clock',o'=.map es' clock')->al I (aA I st.U) w env' (tmpsOf o')->
   (Instr.mapUpdate t (a.eval x) (a.eval y) (a.eval z)).run P w=.ok () (w.putObj b o')->o.wp P a w next Q':=by
   intro o' env' hmr hmap' hrep YD;have hx:(execOp a.eval o).run P w=.ok .skip (w.putObj b o'):=by
    unfold execOp;rcases g1 with g1|g1<;>(rw[g1];simp[YD])
   have hset:=hs.sat.UU YK O' o' env' hrep;obtain⟨es',clock',rfl⟩:=hmap';unfold Oper.wp;rw[hx];refine Yd _ _ _ ⟨I,?_⟩ (h (gh (.map es' clock') env') rfl ⟨es',clock',env',ag,hmr _ _ rfl⟩);rw[<-hd];exact hs.step hset.1 (cD.refl _) hset.2 (by simp) (by simp only[E'];exact⟨[],rfl,by simp[al]⟩)
  rcases w9 c kk m es.toList env 0 hrel.len hrel.keys with⟨q1,q2,q3⟩|⟨j,en,v0,q1,q2,q3,q4,q5⟩
  .refine Zn (.map (es.push { key:=.int c m,val:=a.eval z,born:=clock }) (clock+1)) (env++[v]) (λes' clock' e=>?_) ⟨_,_,rfl⟩ ?_ ?_
   .cases e;rw[Array.toList_push];exact hrel.push q3 rfl
   .simp only[tmpsOf,Array.toList_push,gy,dP,List.map_nil];exact henv.append (by simp only[al];exact⟨_,_,rfl,hrv,rfl⟩)
   .simp[Instr.mapUpdate,run_underlying u1,hr,hrk,qQ Zb,mR u2,pB u2 q2,C3 _ Zb]
  .rw[jc]at q5;refine Zn (.map (es.modify j λe=>{ e with key:=.int c m,val:=a.eval z }) clock) (env.set j v) (λes' clock' e=>?_) ⟨_,_,rfl⟩ ?_ ?_
   .cases e;have hl:(es.modify j λe=>{ e with key:=.int c m,val:=a.eval z }).toList=es.toList.set j { en with key:=.int c m,val:=a.eval z }:=by
     rw[Array.toList_modify,qF _ _ _ q1]
    rw[hl];exact hrel.set q1 q3 rfl
   .have hl:(es.modify j λe=>{ e with key:=.int c m,val:=a.eval z }).toList=es.toList.set j { en with key:=.int c m,val:=a.eval z }:=by
     rw[Array.toList_modify,qF _ _ _ q1]
    simp only[tmpsOf,hl,List.map_set];exact al.set j henv hrv
   .have hkey:((es[j]?).map (·.key)).getD (.int c m)=.int c m:=by
     rw[<-Array.getElem?_toList,q1];simp[q3]
    simp[Instr.mapUpdate,run_underlying u1,hr,hrk,qQ Zb,mR u2,pB u2 q5,C3 _ Zb,hkey,A3]
 .exact hr.elim
open Go.RowKit
variable {P:Program} {n:Nat} {st:St} {Q:St->Prop} {k:List It}
def TS(P:Program)(n:Nat)(i:az)(x:St)(K:St->Prop):Prop:=i.op≠.bad/\aP x.s i.g=some true/\
 ∀(F:Fr),F.n=n->∀(I:Mu) (a:Act) (w:World) (o:Oper) (all:Array Oper),bG P n all o=i->cK F I x a w->
  ∀(next:Act->World->Prop) (Q':Exit->Act->World->Prop),(∀Zd a' w',ef F Zd a' w'->K Zd->next a' w')->o.wp P a w next Q'
def XT(P:Program)(n:Nat)(sp:List Nat)(m:Nat)(i:az)(x:St)(K:St->Prop):Prop:=T P i x K\/m∈sp/\TS P n i x K
variable {sp:List Nat}
def XT.mono{m:Nat}{i:az}{x:St}{K K':St->Prop}(hk:∀x,K x->K' x)(h:XT P n sp m i x K):XT P n sp m i x K':=by
 rcases h with h|⟨h1,h2,h3,h4⟩
 .exact .inl (h.mono hk)
 .exact .inr ⟨h1,h2,h3,λF hn I a w o all hi hs next Q' Yd=>h4 F hn I a w o all hi hs next Q' λZd a' w' Yk hq=>Yd _ _ _ Yk (hk _ hq)⟩
def XT.inf{m:Nat}{i:az}{x:St}{K:St->Prop}(hi:Inf x.U)(h:XT P n sp m i x K):XT P n sp m i x λx'=>Inf x'.U/\K x':=by
 rcases h with h|⟨h1,h2,h3,h4⟩
 .exact .inl (h.inf hi)
 .exact .inr ⟨h1,h2,h3,λF hn I a w o all hi hs next Q' Yd=>h4 F hn I a w o all hi hs next Q' λZd a' w' Yk hq=>Yd _ _ _ Yk ⟨Yk.inf,hq⟩⟩
def chB(l:List az):Nat->Nat->Nat->Bool
 |0,_,_=>false
 |f+1,i,j=>match l[i]?,l[j]? with
  |some a,some b=>!iF a b||(List.range l.length).any λk=>decide (i<k)&&(decide (k<j)&&((match l[k]? with
   |some c=>!iF a c
   |none=>false)&&chB l f k j))
  |_,_=>false
def IM(l:List az)(sp:List Nat):Bool:=sp.all λm=>(List.range l.length).all λi=>decide (i=m)||(decide (i<m)&&chB l 8 i m||decide (m<i)&&chB l 8 m i)
def HT(P:Program)(n:Nat)(ops:Array Oper)(k:Nat):Prop:=∀i j oi oj,k<=i->i<j->ops[i]?=some oi->ops[j]?=some oj->((Region.before ops).getD j 0).testBit i=true\/iF (bG P n ops oi) (bG P n ops oj)=true
def J6{ops:Array Oper}:∀(m k:Nat) (A':Array Bool),m+k=ops.size->(∀j,k<=j->j<ops.size->A'.getD j true=false)->xZ P n ops m k A'=true->HT P n ops k
 |0,k,A',hm,_,_=>λi j oi oj h1 h2 h3 h4=>by
  have:=(nP.1 h3).1;omega
 |m+1,k,A',hm,hl,h=>λi j oi oj h1 h2 h3 h4=>by
  simp only[xZ,Ba]at h;obtain⟨⟨_,hf⟩,hB⟩:=h;have hj:=(nP.1 h4).1;by_cases hik:i=k
  .subst hik;cases hb:((Region.before ops).getD j 0).testBit i with
   |true=>exact .inl rfl
   |false=>exact .inr (mW h3 hf j oj h4 (by omega) (hl j (by omega) hj) hb)
  .exact J6 m (k+1) _ (by omega) (λj' h5 h6=>by rw[getD_set_ne true (by omega)];exact hl j' (by omega) h6) hB i j oi oj (by omega) h2 h3 h4
def At{a:Array Bool}{i:Nat}(h:a.getD i false=true):a.getD i true=true:=by
 rw[Zq7]at h|-;cases hi:a[i]? with
 |none=>rfl
 |some b=>rw[hi]at h;exact h
def qI{ops:Array Oper}{A':Array Bool}(Zj:iK ops A')(hG:HT P n ops 0):∀(f i j:Nat) (oj:Oper),i<j->ops[j]?=some oj->(∀e∈oj.after,Region.binds .any e=true->A'.getD e.on false=true)->
 chB (ops.toList.map (bG P n ops)) f i j=true->A'.getD i false=true
 |0,_,_,_,_,_,_,h=>by cases h
 |f+1,i,j,oj,hij,hoj,Ze,h=>by
  have get:∀(m:Nat) (om:Oper),ops[m]?=some om->(ops.toList.map (bG P n ops))[m]?=some (bG P n ops om):=λm om hm=>by
   rw[ry,Array.getElem?_toList,hm];rfl
  have hjl:=(nP.1 hoj).1;obtain⟨oi,hoi⟩:∃o,ops[i]?=some o:=⟨ops[i]'(by omega),Array.getElem?_eq_getElem (by omega)⟩
  have key:∀(k:Nat) (ok:Oper),i<k->ops[k]?=some ok->(∀e∈ok.after,Region.binds .any e=true->A'.getD e.on false=true)->iF (bG P n ops oi) (bG P n ops ok)=false->A'.getD i false=true:=λk ok hk M' hal hp=>by
   rcases hG i k oi ok (Nat.zero_le _) hk hoi M' with hb|hb
   .exact lk Zj k ok i M' hb hal
   .rw[hp]at hb;cases hb
  simp only[chB,get i oi hoi,get j oj hoj,kU,Bool.not_eq_true']at h;rcases h with h|h
  .exact key j oj hij hoj Ze h
  .obtain⟨k,_,hk⟩:=Ra.1 h;simp only[Ba,Zq9]at hk;obtain⟨h1,h2,h3,h4⟩:=hk;obtain⟨ok,M'⟩:∃o,ops[k]?=some o:=⟨ops[k]'(by omega),Array.getElem?_eq_getElem (by omega)⟩
   have hkl:=qI Zj hG f k j oj h2 hoj Ze h4;rw[get k ok M']at h3;exact key k ok h1 M' (Zj k ok M' (At hkl)) (by simpa using h3)
def xO{ops:Array Oper}{A':Array Bool}(Zj:iK ops A')(hG:HT P n ops 0)(hsp:IM (ops.toList.map (bG P n ops)) sp=true){m j:Nat}(hm:m∈sp)(hrm:m∈Region.ready .any ops A')(hrj:j∈Region.ready .any ops A')(YF:j≠m):False:=by
 obtain⟨um,om,hom,am⟩:=mem_ready.1 hrm;obtain⟨uj,oj,hoj,aj⟩:=mem_ready.1 hrj;have hjl:=(nP.1 hoj).1;have h:=ed.1 (ed.1 hsp m hm) j (List.mem_range.2 (by simpa using hjl));simp only[kU,Ba,Zq9,YF,false_or]at h;rcases h with⟨h1,h2⟩|⟨h1,h2⟩
 .have:=qI Zj hG 8 j m om h1 hom am h2;rw[At this]at uj;cases uj
 .have:=qI Zj hG 8 m j oj h1 hoj aj h2;rw[At this]at um;cases um
def Xn(P:Program)(n:Nat)(sp:List Nat)(ops:Array Oper)(i:Nat)(x:St)(K:St->Prop):Prop:=match ops[i]? with
 |some o=>XT P n sp i (bG P n ops o) x K
 |none=>K x
def sD(P:Program)(n:Nat)(sp:List Nat)(ops:Array Oper)(Q:St->Prop):Nat->Array Bool->St->Prop
 |0,A',x=>Region.ready .any ops A'=[]/\Q x
 |f+1,A',x=>(Region.ready .any ops A'=[]->Q x)/\∀i∈Region.ready .any ops A',Xn P n sp ops i x (sD P n sp ops Q f (A'.setIfInBounds i true))
def mO{F:Fr}(hn:F.n=n){ops:Array Oper}{Q:St->Prop}{Q':Exit->Act->World->Prop}(hQ:∀x a w,ef F x a w->Q x->Q' .normal a w):
 ∀(f:Nat) (A':Array Bool) (x:St) (a:Act) (w:World),ef F x a w->sD P n sp ops Q f A' x->wpAnyIn F.dW 0 P .any ops Q' f A' a w
 |0,_,_,_,_,hs,h=>⟨h.1,hQ _ _ _ hs h.2⟩
 |f+1,A',x,a,w,hs,h=>by
  refine⟨λh0=>hQ _ _ _ hs (h.1 h0),λi hi=>?_⟩;have h1:=h.2 i hi;unfold Xn at h1;unfold wpOpIn;cases ho:ops[i]? with
  |none=>
   simp only[ho]at h1;exact mO hn hQ f _ x a w hs h1
  |some o=>
   simp only[ho]at h1;rcases h1 with h1|⟨-,g2,g3,g4⟩
   .have h2:=vq (Q':=Q') hn h1 hs λx' a' w' Yk hk=>mO hn hQ f _ x' a' w' Yk hk;by_cases hw:Region.wanted o (yielded ops a.tmps)=true
    .rw[ar hw]at h2;simp only[hw,if_true];exact Hf (kg h2.1) h2.2
    .rw[av hw]at h2;simp only[hw];exact⟨λ_ _=>trivial,h2⟩
   .obtain⟨I,hs⟩:=hs;have hw:Region.wanted o (yielded ops a.tmps)=true:=by
     subst hn;exact pF (P:=P) hs ops o g3
    simp only[hw,if_true];exact Hf (kg (P:=P) (n:=n) g2) (g4 F hn I a w o ops rfl hs _ _ λx' a' w' Yk hk=>mO hn hQ f _ x' a' w' Yk hk)
def AS{ops:Array Oper}{Q:St->Prop}(hG:HT P n ops 0)(hsp:IM (ops.toList.map (bG P n ops)) sp=true){i:Nat}{oi:Oper}(hi:ops[i]?=some oi):∀(f:Nat) (A':Array Bool) (x:St),Inf x.U->iK ops A'->
 (∀j oj,ops[j]?=some oj->j≠i->A'.getD j true=false->((Region.before ops).getD j 0).testBit i=false->iF (bG P n ops oi) (bG P n ops oj)=true)->
 i∈Region.ready .any ops A'->XT P n sp i (bG P n ops oi) x (sD P n sp ops Q f (A'.setIfInBounds i true))->sD P n sp ops Q (f+1) A' x:=by
 intro f
 induction f with
 |zero=>
  intro A' x hinf Zj hfree hr H;refine⟨λh=>(by rw[h]at hr;cases hr),λj hj=>?_⟩;by_cases hji:j=i
  .subst hji;unfold Xn;simp only[hi];exact H
  .rcases H with H|H
   .have:=ready_mono hj hji;obtain⟨x',YM⟩:=H.exists hinf;rw[YM.1]at this;cases this
   .exact(xO Zj hG hsp H.1 hr hj hji).elim
 |succ f ih=>
  intro A' x hinf Zj hfree hr H;refine⟨λh=>(by rw[h]at hr;cases hr),λj hj=>?_⟩;by_cases hji:j=i
  .subst hji;unfold Xn;simp only[hi];exact H
  .obtain⟨hjun,oj,hoj,Ze⟩:=mem_ready.1 hj;rcases H with H|H
   .have hnot:((Region.before ops).getD j 0).testBit i=false:=by
     cases hb:((Region.before ops).getD j 0).testBit i with
     |false=>rfl
     |true=>
      exfalso;have h1:=lk Zj j oj i hoj hb Ze;have h0:=(mem_ready.1 hr).1;rcases Nat.lt_or_ge i A'.size with h'|h'
      .simp[h']at h0 h1;rw[h0]at h1;cases h1
      .simp[Array.getElem?_eq_none h']at h1
    have H2:T P (bG P n ops oi) x λx'=>T P (bG P n ops oj) x' (sD P n sp ops Q f ((A'.setIfInBounds i true).setIfInBounds j true)):=by
     refine H.mono λx' YM=>?_;have:=YM.2 j (ready_mono hj hji);unfold Xn at this;simp only[hoj]at this;rcases this with h|h
     .exact h
     .exact(xO Zj hG hsp h.1 hj hr (Ne.symm hji)).elim
    have h2:=EU (hfree j oj hoj hji hjun hnot) hinf H2;have hfree':∀k ok,ops[k]?=some ok->k≠i->(A'.setIfInBounds j true).getD k true=false->
     ((Region.before ops).getD k 0).testBit i=false->iF (bG P n ops oi) (bG P n ops ok)=true:=λk ok hk hki hun YE=>by
     refine hfree k ok hk hki ?_ YE;by_cases hjk:j=k
     .subst hjk;exact hjun
     .rw[getD_set_ne true hjk]at hun;exact hun
    unfold Xn;simp only[hoj];refine .inl ((h2.inf hinf).mono λx' YM=>ih (A'.setIfInBounds j true) x' YM.1 (Zj.list hj) hfree' (ready_mono hr (Ne.symm hji)) ?_);rw[Array.setIfInBounds_comm _ _ hji];exact .inl YM.2
   .exact(xO Zj hG hsp H.1 hr hj hji).elim
def fM(P:Program)(n:Nat)(sp:List Nat)(Q:St->Prop):Nat->List az->St->Prop
 |_,[],x=>Q x
 |m,i::l,x=>XT P n sp m i x (fM P n sp Q (m+1) l)
def xu{ops:Array Oper}{Q:St->Prop}(hG:HT P n ops 0)(hsp:IM (ops.toList.map (bG P n ops)) sp=true):∀(l:List Oper) (k:Nat) (A':Array Bool) (x:St),Inf x.U->iK ops A'->(∀j,l[j]?=ops[k+j]?)->
 xZ P n ops l.length k A'=true->fM P n sp Q k (l.map (bG P n ops)) x->sD P n sp ops Q l.length A' x
 |[],_,_,_,_,_,_,hB,h=>⟨by simpa[xZ]using hB,h⟩
 |o::l,k,A',x,hinf,Zj,hl,hB,h=>by
  have h0:ops[k]?=some o:=by simpa using(hl 0).symm
  simp only[ZR,xZ,Ba]at hB;obtain⟨⟨hr,hf⟩,hB'⟩:=hB;refine AS hG hsp h0 l.length A' x hinf Zj (mW h0 hf) (by simpa using hr) ?_;refine(XT.inf hinf h).mono λx' YM=>?_;exact xu hG hsp l (k+1) _ x' YM.1 (Zj.list (by simpa using hr)) (λj=>by have:=hl (j+1);simpa[Nat.add_assoc,Eu 1 j]using this) hB' YM.2
def yi{F:Fr}(hn:F.n=n){ops:Array Oper}(M':qo P n ops=true)(hsp:IM (ops.toList.map (bG P n ops)) sp=true){id:Nat}{x:St}{a:Act}{w:World}(hs:ef F x a w){Q:St->Prop}{Q':Exit->Act->World->Prop}
 (hQ:∀x a w,ef F x a w->Q x->Q' .normal a w)(h:fM P n sp Q 0 (ops.toList.map (bG P n ops)) x):(Code.region id ops true).wpIn F.dW 0 P Q' a w:=by
 simp only[qo,Ba]at M';have Yk:ef F x a { w with drawn:=w.drawn+1 }:=by
  obtain⟨I,hs⟩:=hs;have hk:cF (aA I x.U) (aA I x.U) w { w with drawn:=w.drawn+1 }:=λ_ _ h=>⟨h,rfl⟩
  refine⟨I,⟨⟨hs.sat.size,hs.sat.os,hs.sat.tape,hs.sat.output,hs.sat.same,hs.sat.fin,hs.sat.inj,λid o ho=>?_,hs.sat.fresh,hs.sat.glob⟩,hs.le,hs.size,hs.book.gP hk,λi hi=>?_⟩⟩
  .exact(hs.sat.obj id o ho).mono (cD.refl I) hk (YY _) (λ_ _ _ _=>rfl)
  .exact E'.mono (cD.refl I) hk (YY _) _ _ (hs.slot i hi)
 have hrep:∀j,j<ops.size->(Array.replicate ops.size false).getD j true=false:=λj hj=>by
  rw[Zq7,Array.getElem?_replicate,ar hj];rfl
 have hG:HT P n ops 0:=J6 ops.size 0 (Array.replicate ops.size false) rfl (λj _ hj=>hrep j hj) (by simpa using M'.2.2);refine wpIn_region_any M'.1 (mO (sp:=sp) hn hQ _ _ _ _ _ Yk ?_);have:=xu (P:=P) (n:=n) (Q:=Q) hG hsp ops.toList 0 (Array.replicate ops.size false) x hs.inf (λm om hm hl=>by
  have L':m<ops.size:=(nP.1 hm).1;rw[hrep m L']at hl;cases hl) (by simp) (by simpa using M'.2.2) h
 simpa using this
def ab.Q2(sp:List Nat){l:List az}(hsp:IM l sp=true)(h:fM P n sp (λx=>ab P n k x Q) 0 l st):ab P n (.code (.reg true l)::k) st Q:=by
 intro F hn kt hk a w hs;obtain⟨z,kt',rfl,hy,ZU⟩:=dn hk;obtain⟨c0,rfl,ZH⟩:=fX hy;have hc0:∃id ops,c0=.region id ops true/\qo P n ops=true/\ops.toList.map (bG P n ops)=l:=by
  cases c0<;>simp only[cX,reduceCtorEq]at ZH;rename_i id ops draw;cases draw
  .simp at ZH
  .simp only[Bool.true_and]at ZH;split at ZH
   .cases ZH
   .split at ZH
    .cases ZH
    .rename_i hd;simp only[bc.reg.injEq,true_and]at ZH;exact⟨id,ops,rfl,by simpa using hd,ZH⟩
 obtain⟨id,ops,rfl,M',rfl⟩:=hc0;exact yi hn M' hsp hs (λx a w hs h=>h F hn kt' ZU a w hs) h
variable {K:St->Prop} {m:Nat} {x:St}
def XC.app{suf:List az}:∀(pre:List az) {m:Nat} {x:St},Go P n (.d pre [.stop λy=>fM P n sp K (m+pre.length) suf y]) x Q->fM P n sp K m (pre++suf) x
 |[],_,_,h=>h
 |i::pre,m,_,h=>.inl (T.mono (λ_ h=>XC.app (m:=m+1) pre (by rw[show m+1+pre.length=m+(i::pre).length by simp;omega];exact h)) h)
def XC.go(j:Nat){l:List az}(h:Go P n (.d (l.take j) [.stop λy=>fM P n sp K (m+(l.take j).length) (l.drop j) y]) x λ_=>True):fM P n sp K m l x:=by
 have:=XC.app _ h
 rwa [uQ]at this
def XC.tL{i:az}{l:List az}{xm xk:VX}{ok:Bool}{zv:V}(hm:m∈sp)(hw:aP x.s i.g=some true)(ho:i.op=.more (.tL ok zv) [xm,xk]){id:Nat}{c:IntKind}{f:Int->Option V}{q:Int}
 (hx:xm.ev x.s=.mp id)(hmap:mq c x.U id f)(hk:xk.ev x.s=.int c q)
 (h:fM P n sp K (m+1) l ⟨aN x.s i.dst (if ok then .P' [(f q).getD zv,.bool (f q).isSome]else(f q).getD zv),x.U⟩):fM P n sp K m (i::l) x:=
 .inr ⟨hm,by rw[ho];simp,hw,K9 ho hx hmap hk h⟩
def XC.HN{i:az}{l:List az}{xm xk xv:VX}(hm:m∈sp)(hw:aP x.s i.g=some true)(ho:i.op=.more .HN [xm,xk,xv]){id:Nat}{c:IntKind}{f:Int->Option V}{q:Int}{v:V}
 (hx:xm.ev x.s=.mp id)(hmap:mq c x.U id f)(hk:xk.ev x.s=.int c q)(hv:xv.ev x.s=v)
 (h:∀ob:Ob,ob.sz=0->mq c (C' x.U id ob) id (λm'=>if m'=q then some v else f m')->fM P n sp K (m+1) l ⟨aN x.s i.dst (.P' []),C' x.U id ob⟩):fM P n sp K m (i::l) x:=
 .inr ⟨hm,by rw[ho];simp,hw,NM ho hx hmap hk hv h⟩
def XC.call{i:az}{l:List az}{fx:VX}{xs:List VX}(hm:m∈sp)(hw:aP x.s i.g=some true)(ho:i.op=.call fx xs){f:FuncId}{caps:List V}(hf:fx.ev x.s=.fn f caps)
 {Post:V->af->Prop}(hc:au P f (xs.map (·.ev x.s)++caps) x.U Post)(h:∀r Z',Post r Z'->fM P n sp K (m+1) l ⟨aN x.s i.dst r,Z'⟩):fM P n sp K m (i::l) x:=by
 refine .inr ⟨hm,by rw[ho];simp,hw,λF hn I a w o all hi hs next Q' Yd=>?_⟩;subst hn;obtain⟨Yf,hd⟩:=bZ hi;rw[ho]at Yf;obtain⟨f0,args,argTypes,g1,rfl,rfl⟩:=mC Yf;refine mT hs g1 hf hc λr Z' hp a' w' Yk=>Yd _ a' w' Yk ?_;rw[hd];exact h r Z' hp
def XC.skip{i:az}{l:List az}(hw:aP x.s i.g=some false)(h:fM P n sp K (m+1) l ⟨aN x.s i.dst (.P' []),x.U⟩):fM P n sp K m (i::l) x:=by
 refine .inl ?_;unfold T;rw[hw];exact h
def XC.nil(h:K x):fM P n sp K m [] x:=h
open Go.Proofs Go.Proofs.Tryz
def pO(b:Bk):V:=.agg [.rp (bx b),bp b.atoms,aH b.Ye,vI b.Ym,bC b.Ys]
def Et:V:=.agg [.nilp,.aC,.aC,vI 0,.aC]
def dE(b:Bk):(pO b).cells=[.rp (bx b),bp b.atoms,aH b.Ye,vI b.Ym,bC b.Ys]:=rfl
def py(b:Bk):(pO b).stays=true:=rfl
def Dy(l:List Nd)(w h:Int):V:=if ew l w h=0 then pO (br l w h)else Et
def B2(l:List Nd)(hl:dV l)(w h:Int):aJ prog 26 [aI l,vI w,vI h] (.P' [Dy l w h,vI (ew l w h)]):=λU=>by
 refine e26.r (by simp[c26]) ?_;have hs:=aa.refl U;have hn:=OS l hl w h;unfold Ev at hn;refine ab.mix 9 ?_;apply sR;simp only[go_sem,seval,c26];refine ad λi6 Z6 s6 a6 f6=>?_;have z6:=hs.none f6;replace hs:=hs.trans s6;simp only[go_sem,seval];refine ab.ay rfl rfl rfl (hn _) ?_;by_cases he:ew l w h=0
 .have hb:=gV hl he;unfold Dy;rw[ar he,ar he,he];generalize br l w h=b at*;have q:((0:Int)≠0)=False:=T' (λh=>h rfl);have hgc:(AX b).cells=[bp b.atoms,aH b.Ye,vI b.Ym]:=rfl;have hgs:(AX b).stays=true:=rfl;apply sR;simp only[go_sem,seval,q];refine ab.ay rfl rfl rfl (zd b hb.toBkFull _) ?_;apply sR;simp only[go_sem,seval];refine ab.ay rfl rfl rfl (yX b hb.toBkFull _) ?_;apply sR;simp only[go_sem,seval,a6,hgc,hgs,j8,j5];exact ak.pure (hs.ax z6) rfl
 .have q:(ew l w h≠0)=True:=Yi he;unfold Dy;rw[av he,av he];generalize ew l w h=E at*;apply sR;simp only[go_sem,seval,q,a6];exact ak.pure (hs.ax z6) rfl
def Jg(b:Bk)(hb:BkOk b):aJ prog 63 [pO b] (.bool (decide ((b.atoms.length:Int)+b.Ye.length=0))):=λU=>by
 refine e63.r (by simp[c63]) ?_;have hs:=aa.refl U;have h1:=ik b.atoms;have h2:=fZ b.Ye;have hal:=hb.len;have hfl:=hb.flen;have r1:Yr .i64 ((b.atoms.length:Int)+b.Ye.length):=ai;refine ab.mix 3 ?_;apply sR;simp only[go_sem,seval,c63,dE,py];refine ad λi1 Z1 s1 a1 f1=>?_;replace hs:=hs.trans s1;simp only[go_sem,seval,a1,dE,h1,h2,r1];exact ak.pure hs rfl
def I5(n:Int):aJ prog 182 [vI n] (.bool (decide (ny n))):=λU=>by
 refine X4.r (by simp[JR]) ?_;generalize hX:decide (ny n)=X;refine ab.mix 3 ?_;by_cases h1:n< -1152921504606846976
 .have q:(n< -1152921504606846976)=True:=Yi h1;apply sR;simp only[go_sem,seval,JR,q];exact ak.same (by rw[<-hX,ZN (.inl h1)])
 .have q:(n< -1152921504606846976)=False:=T' h1;by_cases h2:n>1152921504606846976
  .have q2:(n>1152921504606846976)=True:=Yi h2;apply sR;simp only[go_sem,seval,JR,q,q2];exact ak.same (by rw[<-hX,ZN (.inr h2)])
  .have q2:(n>1152921504606846976)=False:=T' h2;apply sR;simp only[go_sem,seval,JR,q,q2];exact ak.same (by rw[<-hX,Zz λh=>h.elim h1 h2])
def H0(b:Bk)(f:U')(s:Zm):aJ prog 123 [pO b,aK f,aV s] (.bool (iD b f s)):=λU=>by
 refine Wb.r (by simp[Sl]) ?_;have hs:=aa.refl U;have h1:=ik b.atoms;have hfc:∀f:U',(aK f).cells=[vI f.node,vI f.side,vI f.anchor,vI f.x,vI f.y,vI f.w,vI f.h]:=λ_=>rfl;have hfs:∀f:U',(aK f).stays=true:=λ_=>rfl;generalize hX:iD b f s=X;unfold iD at hX;refine ab.mix 7 ?_;apply sR;simp only[go_sem,seval,Sl,dE,py];refine ad λi3 Z3 s3 a3 f3=>?_;have z3:=hs.none f3;replace hs:=hs.trans s3;simp only[go_sem,seval,hfc,hfs];refine ad λi4 Z4 s4 a4 f4=>?_;have n34:=ao a3 f4;replace a3:=s4 _ _ a3;have z4:=hs.none f4;replace hs:=hs.trans s4;simp only[go_sem,seval,dx,xG];refine ad λi5 Z5 s5 a5 f5=>?_;have n35:=ao a3 f5;replace a3:=s5 _ _ a3;have n45:=ao a4 f5;replace a4:=s5 _ _ a4;have z5:=hs.none f5;replace hs:=hs.trans s5;by_cases e0:(b.atoms.length:Int)=0
 .have q0:((b.atoms.length:Int)=0)=True:=Yi e0;rw[ar e0]at hX;simp only[go_sem,seval,a3,a5,q0,h1,dE,dx];exact ak.pure hs (by rw[<-hX])
 .have q0:((b.atoms.length:Int)=0)=False:=T' e0;rw[av e0]at hX;by_cases e1:f.anchor<s.atom
  .have q1:(f.anchor<s.atom)=True:=Yi e1;simp only[go_sem,seval,a3,a4,a5,q0,q1,h1,hfc,dE,dx];exact ak.pure hs (by rw[<-hX,ZN (.inl e1)])
  .have q1:(f.anchor<s.atom)=False:=T' e1;by_cases e2:f.anchor=s.atom
   .have q2:(f.anchor=s.atom)=True:=Yi e2;by_cases e3:s.done>0
    .have q3:(s.done>0)=True:=Yi e3;simp only[go_sem,seval,a3,a4,a5,q0,q1,q2,q3,h1,hfc,dE,dx];exact ak.pure hs (by rw[<-hX,ZN (.inr ⟨e2,e3⟩)])
    .have q3:(s.done>0)=False:=T' e3;simp only[go_sem,seval,a3,a4,a5,q0,q1,q2,q3,h1,hfc,dE,dx];exact ak.pure hs (by rw[<-hX,Zz λh=>h.elim e1 λg=>e3 g.2])
   .have q2:(f.anchor=s.atom)=False:=T' e2;simp only[go_sem,seval,a3,a4,a5,q0,q1,q2,h1,hfc,dE,dx];exact ak.pure hs (by rw[<-hX,Zz λh=>h.elim e1 λg=>e2 g.1])
def MU(b:Bk)(ZO:b.Ys.length<=1000000)(p:YL)(s:Zm)(h0:0<=s.atom)(h1:s.atom<b.Ys.length)(no:Int)(YE:0<=no):aJ prog 65 [pO b,aQ p,aV s,vI no] (.bool (decide (lS b p s no))):=λU=>by
 refine e65.r (by simp[c65]) ?_;have hs:=aa.refl U;obtain⟨k,hk⟩:∃k:Nat,s.atom=k:=⟨s.atom.toNat,by omega⟩
 have hkl:k<b.Ys.length:=by omega
 have Yb:=λU=>ta (U:=U) hkl;have hg:bkG b.Ys s.atom.toNat=b.Ys[k]:=by rw[hk];simp[bkG,hkl]
 have hb3:∀x:Brk,(fc x).cells=[vI x.cls,vI x.forced,vI x.Zy]:=λ_=>rfl;have htm:no.tmod 2=no%2:=Int.tmod_eq_emod_of_nonneg YE;have ZD:∀p:YL,(aQ p).cells=[vI p.no,vI p.kind,aG p.hs,aG p.fs,aG p.ls]:=λ_=>rfl;have hps:∀p:YL,(aQ p).stays=true:=λ_=>rfl;have hD:decide (lS b p s no)=decide (p.kind=1/\¬s.done>0/\(b.Ys[k].forced=3/\no%2=1\/b.Ys[k].forced=4/\no%2=0)):=decide_eq_decide.2 (by unfold lS;rw[hg]);rw[hD];clear hD hg;generalize hX:decide (p.kind=1/\¬s.done>0/\(b.Ys[k].forced=3/\no%2=1\/b.Ys[k].forced=4/\no%2=0))=X;generalize b.Ys[k]=x at*;refine ab.mix 10 ?_;apply sR;simp only[go_sem,seval,c65,dE,py];refine ad λi4 Z4 s4 a4 f4=>?_;replace hs:=hs.trans s4;simp only[go_sem,seval,ZD,hps];refine ad λi5 Z5 s5 a5 f5=>?_;replace a4:=s5 _ _ a4;replace hs:=hs.trans s5;simp only[go_sem,seval,dx,xG];refine ad λi6 Z6 s6 a6 f6=>?_;replace a4:=s6 _ _ a4;replace a5:=s6 _ _ a5;replace hs:=hs.trans s6;by_cases q1:p.kind=1
 .have q1':(p.kind≠1)=False:=T' (λh=>h q1);by_cases q2:s.done>0
  .have q2':(s.done>0)=True:=Yi q2;simp only[go_sem,seval,a5,a6,q1',q2',ZD,dx];exact ak.pure hs (by rw[<-hX,Zz λh=>h.2.1 q2])
  .have q2':(s.done>0)=False:=T' q2;by_cases q3:x.forced=3
   .have q3':(x.forced=3)=True:=Yi q3;have q6:(x.forced=4)=False:=T';by_cases q4:no%2=1
    .have q4':(no.tmod 2=1)=True:=Yi;simp only[go_sem,seval,a4,a5,a6,q1',q2',q3',q4',hk,Yb,hb3,ZD,dx,dE];exact ak.pure hs (by rw[<-hX,ZN ⟨q1,q2,.inl ⟨q3,q4⟩⟩])
    .have q4':(no.tmod 2=1)=False:=T';simp only[go_sem,seval,a4,a5,a6,q1',q2',q3',q4',q6,hk,Yb,hb3,ZD,dx,dE];exact ak.pure hs (by rw[<-hX,Zz];omega)
   .have q3':(x.forced=3)=False:=T' q3;by_cases q6:x.forced=4
    .have q6':(x.forced=4)=True:=Yi q6;by_cases q4:no%2=0
     .have q4':(no.tmod 2=0)=True:=Yi;simp only[go_sem,seval,a4,a5,a6,q1',q2',q3',q4',q6',hk,Yb,hb3,ZD,dx,dE];exact ak.pure hs (by rw[<-hX,ZN ⟨q1,q2,.inr ⟨q6,q4⟩⟩])
     .have q4':(no.tmod 2=0)=False:=T';simp only[go_sem,seval,a4,a5,a6,q1',q2',q3',q4',q6',hk,Yb,hb3,ZD,dx,dE];exact ak.pure hs (by rw[<-hX,Zz];omega)
    .have q6':(x.forced=4)=False:=T' q6;simp only[go_sem,seval,a4,a5,a6,q1',q2',q3',q6',hk,Yb,hb3,ZD,dx,dE];exact ak.pure hs (by rw[<-hX,Zz];omega)
 .have q1':(p.kind≠1)=True:=Yi q1;simp only[go_sem,seval,a5,q1',ZD];exact ak.pure hs (by rw[<-hX,Zz λh=>q1 h.1])
open Go.Proofs Go.Proofs.Tryz
def lV(b:Bk)(t:ZP)(im:Nat):List V:=[.rp (bx b),bp b.atoms,aH b.Ye,vI b.Ym,bC b.Ys,vI t.last.node,vI t.last.atom,vI t.last.fr,vI t.last.x,vI t.last.y,vI t.last.w,vI t.last.h,vI t.parts,vI t.B',.mp im]
def shF(t:ZP)(n:Int):Option V:=if t.shown n=0 then none else some (vI (t.shown n))
structure eD(b:Bk)(t:ZP)(K U:af)(i im:Nat):Prop where
 row:U i=some ⟨153,15,[.agg (lV b t im)]⟩
 mp:mq .i64 U im (shF t)
 ni:K i=none
 nm:K im=none
 sub:aa K U
def eD.ne{b:Bk}{t:ZP}{K U:af}{i im:Nat}(h:eD b t K U i im):i≠im:=h.mp.ne h.row (by decide)
def eD.mono{b:Bk}{t:ZP}{K U C:af}{i im:Nat}(h:eD b t K U i im)(hs:aa U C):eD b t K C i im:=⟨hs _ _ h.row,h.mp.sub hs,h.ni,h.nm,h.sub.trans hs⟩
def zo(fs:List Zi)(n:Int):(fs.filter λf=>decide (f.node=n)).length<=fs.length:=List.length_filter_le _ _
def kx(t:ZP)(fs:List Zi):ZP:={ t with shown:=λn=>t.shown n+(fs.filter λf=>decide (f.node=n)).length }
def Bc(t:ZP)(fs:List Zi)(f:Zi):shF (kx t (fs++[f]))=λm=>if m=f.node then some (vI ((kx t fs).shown f.node+1:Nat))else shF (kx t fs) m:=by
 funext m;unfold shF kx;simp only[List.filter_append,iE];by_cases h:m=f.node
 .subst h;rw[ar rfl];simp;omega
 .rw[av h];have:(List.filter (λg=>decide (g.node=m)) [f])=[]:=by
   rw[List.filter_cons];simp[Ne.symm h]
  rw[this];simp
def oK(t:ZP)(p:YL):ZP:={ t with last:=p.fs.getLast?.getD t.last,parts:=t.parts+p.fs.length }
def rB(t:ZP)(p:YL):ZP:={ oK t p with B':=t.B'+(if p.kind=2 then 1 else 0) }
def NI(t:ZP)(p:YL):kx (rB t p) p.ls=eG t p:=rfl
structure RF(b:Bk)(p:YL)(K:af)(i im:Nat)(u:ZP)(st:St):Prop where
 pg:∃i3,st.U i3=some ⟨37,5,[aQ p]⟩/\i3≠i/\i3≠im/\st.s 3=.ptr i3 0 0
 tj:eD b u K st.U i im
 s0:st.s 0=.ptr i 0 0
def eD.nem{b:Bk}{t:ZP}{K U:af}{i im j:Nat}(h:eD b t K U i im)(hf:U j=none):j≠im:=λe=>by
 obtain⟨es,ck,env,g1,-⟩:=h.mp;rw[e,g1]at hf;cases hf
def vD{b:Bk}{t u:ZP}{K U:af}{i im:Nat}(h:eD b t K U i im)(hu:u.shown=t.shown):eD b u K (C' U i ⟨153,15,[.agg (lV b u im)]⟩) i im:=by
 obtain⟨es,clock,env,h1,h2⟩:=h.mp;refine⟨ag,⟨es,clock,env,(ae (Ne.symm h.ne)).trans h1,?_⟩,h.ni,h.nm,h.sub.ax h.ni⟩;have:shF u=shF t:=by unfold shF;rw[hu]
 rw[this];exact h2
def zX(b:Bk)(t:ZP)(p:YL)(hp:t.parts+p.fs.length<=1000000000000000000)(hf:t.B'<=1000000000000000000)(hn:∀n,t.shown n<=1000000000000000000)(hl:p.ls.length<=1000000000000000){K U:af}{i im:Nat}(hJ:eD b t K U i im):
 au prog 30 [.ptr i 0 0,aQ p] U λr Z'=>r=.P' []/\eD b (eG t p) K Z' i im:=by
 refine e30.r (by simp[c30]) ?_;have ZD:∀p:YL,(aQ p).cells=[vI p.no,vI p.kind,aG p.hs,aG p.fs,aG p.ls]:=λ_=>rfl;have hps:∀p:YL,(aQ p).stays=true:=λ_=>rfl;have hFc:∀l:List Zi,(aG l).cells=[aG l]:=λ_=>rfl;have hFs:∀l:List Zi,(aG l).stays=true:=λ_=>rfl;have hfc:∀f:Zi,(bb f).cells=[vI f.node,vI f.atom,vI f.fr,vI f.x,vI f.y,vI f.w,vI f.h]:=λ_=>rfl;have hfs:∀f:Zi,(bb f).stays=true:=λ_=>rfl;have ldR:∀(U:af) (f:Zi),bB U true 7 (.rp (bb f))=some (bb f):=λ_ _=>rfl;have hmc:(V.mp im).cells=[.mp im]:=rfl;have hms:(V.mp im).stays=true:=rfl;have hlf:=jn p.fs;have hll:=jn p.ls;refine ab.mix 44 ?_;refine ab.seq (ab.cut (RF b p K i im t) ?_ ?_)
 .have hs:=aa.refl U;apply sR;simp only[go_sem,seval,c30,ZD,hps];refine ad λi3 Z3 s3 a3 f3=>?_;replace hs:=hs.trans s3;simp only[go_sem,seval];exact⟨⟨i3,a3,(ao hJ.row f3).symm,hJ.nem f3,rfl⟩,hJ.mono s3,rfl⟩
 rintro⟨S,C⟩ ⟨⟨i3,a3,n3,n3m,t3⟩,hJ,t0⟩;simp only at a3 t3 hJ t0;refine ab.seq (ab.cut (RF b p K i im (oK t p)) ?_ ?_)
 .have h0:=hJ.row;unfold lV at h0;refine ab.mix 44 ?_;by_cases hz:p.fs=[]
  .have q:((p.fs.length:Int)>0)=False:=T' (by rw[hz];decide);apply sR;simp only[go_sem,seval,t3,a3,ZD,hlf,q];exact⟨⟨i3,a3,n3,n3m,t3⟩,by have e:oK t p=t:=(by unfold oK;rw[hz];rfl);rw[e];exact hJ,t0⟩
  .have L':=wK.2 hz;have q:((p.fs.length:Int)>0)=True:=Yi;have r1:Yr .i64 ((p.fs.length:Int)-1):=ai;have r2:Yr .i64 ((t.parts:Int)+p.fs.length):=ai;have hi:∀U,bo U 7 (aG p.fs) (.int .i64 ((p.fs.length:Int)-1))=some (.rp (bb p.fs[p.fs.length-1])):=λU=>by
    rw[show(p.fs.length:Int)-1=((p.fs.length-1:Nat):Int) by omega];exact uX (by omega)
   have hla:p.fs.getLast?.getD t.last=p.fs[p.fs.length-1]:=by rw[List.getLast?_eq_getElem?,Zq6 (by omega)];rfl
   have hJ2:=vD (u:=oK t p) hJ rfl;unfold lV oK at hJ2;rw[hla]at hJ2;unfold oK;rw[hla];generalize p.fs[p.fs.length-1]=f at*;apply sR;simp only[go_sem,seval,t0,t3,a3,h0,ZD,hfc,hfs,hlf,q,r1,r2,hi,ldR];exact⟨⟨i3,(ae n3).trans a3,n3,n3m,t3⟩,hJ2,t0⟩
 rintro⟨S,C⟩ ⟨⟨i3,a3,n3,n3m,t3⟩,hJ,t0⟩;simp only at a3 t3 hJ t0;refine ab.seq (ab.cut (RF b p K i im (rB t p)) ?_ ?_)
 .have h0:=hJ.row;unfold lV oK at h0;refine ab.mix 44 ?_;by_cases hz:p.kind=2
  .have q:(p.kind=2)=True:=Yi hz;have r1:Yr .i64 ((t.B':Int)+1):=ai;have hJ2:=vD (u:=rB t p) hJ rfl;unfold lV rB oK at hJ2;rw[ar hz]at hJ2;unfold rB oK;rw[ar hz];apply sR;simp only[go_sem,seval,t0,t3,a3,h0,ZD,q,r1];exact⟨⟨i3,(ae n3).trans a3,n3,n3m,t3⟩,hJ2,t0⟩
  .have q:(p.kind=2)=False:=T' hz;apply sR;simp only[go_sem,seval,t3,a3,ZD,q];exact⟨⟨i3,a3,n3,n3m,t3⟩,by have e:rB t p=oK t p:=(by unfold rB;rw[av hz];rfl);rw[e];exact hJ,t0⟩
 rintro⟨S,C⟩ ⟨⟨i3,a3,n3,n3m,t3⟩,hJ,t0⟩;simp only at a3 t3 hJ t0;refine ab.mix 44 ?_;apply sR;simp only[go_sem,seval,t3,a3,ZD,hll];rw[<-NI];have hus:(rB t p).shown=t.shown:=rfl;generalize rB t p=u at*;refine ab.loop (λm st=>∃j:Nat,j<=p.ls.length/\m=p.ls.length-j/\eD b (kx u (p.ls.take j)) K st.U i im/\st.s 0=.ptr i 0 0/\st.s 41=aG p.ls/\st.s 42=vI p.ls.length/\st.s 43=vI j) p.ls.length ?_ ?_
 .exact⟨0,by omega,rfl,by have e:kx u (p.ls.take 0)=u:=(by unfold kx;simp);rw[e];exact hJ,t0,rfl,rfl,rfl⟩
 .rintro m ⟨S,C⟩ ⟨j,hj,rfl,hJ,t0,t41,t42,t43⟩;simp only at hJ t0 t41 t42 t43;refine ab.mix 44 ?_;by_cases L':j<p.ls.length
  .have q1:((j:Int)<p.ls.length)=True:=Yi;have hi:=λU=>uX (U:=U) L';have Zg:=Zq0 L';generalize p.ls[j]=f at*;have hs:=aa.refl C
   (refine ab.bn Orc.nothing 16 ?_;simp only[go_sem,seval,t41,t42,t43,q1,hi,ldR])
   refine ad λi6 Z6 s6 a6 f6=>?_;have z6:=hs.none f6;replace hs:=hs.trans s6;simp only[go_sem,seval,a6,hfc,hfs,jK];generalize hq6:C' _ i6 _=Y6;replace a6:=(congrFun hq6 i6).symm.trans ag;replace hs:=Eq.subst (motive:=aa _) hq6 (hs.ax z6);clear hq6;have hJ6:=hJ.mono hs;have h0:=hJ6.row;unfold lV at h0;generalize hT:kx u (p.ls.take j)=T at*;have hN:T.shown f.node<=2000000000000000000:=by
    have h1:=hn f.node;have h2:=zo (p.ls.take j) f.node;rw[ia]at h2;rw[<-hT];unfold kx;rw[hus];simp only;omega
   have hg:(shF T f.node).getD (V.int .i64 0)=vI (T.shown f.node):=by
    unfold shF;split
    .rename_i h;rw[h];rfl
    .rfl
   have r1:Yr .i64 ((T.shown f.node:Int)+1):=ai;refine ab.Q2 [6,8] rfl (XC.go 6 ?_);apply sG;simp only[go_sem,seval,a6,t0,h0,hfc,pK,List.take_zero];refine XC.tL (by decide) rfl rfl rfl hJ6.mp rfl ?_;refine XC.go 1 ?_;apply sG;simp only[go_sem,seval,hg,r1];refine XC.HN (by decide) rfl rfl rfl hJ6.mp rfl rfl λob Zb hm=>XC.nil ?_;apply sR;simp only[go_sem,seval,t43,t0,t41,t42];have hnew:eD b (kx u (p.ls.take (j+1))) K (C' Y6 im ob) i im:=by
    rw[Zg];subst hT;refine⟨(ae hJ6.ne).trans hJ6.row,?_,hJ6.ni,hJ6.nm,hJ6.sub.ax hJ6.nm⟩;rw[Bc];exact hm
   exact⟨ai,_,by omega,j+1,by omega,rfl,hnew,by simp[vI]⟩
  .have q1:((j:Int)<p.ls.length)=False:=T';apply sR;simp only[go_sem,seval,t42,t43,q1];rw[jW (by omega)]at hJ;rw[show c30.res=[]from rfl,wU];exact⟨_,_,aa.refl _,Wk.refl (aa.refl _) _,rfl,hJ⟩
open Go.Proofs Go.Proofs.Tryz
def kz(b:Bk)(t:ZP):Zm:=
 if t.parts=0 then⟨0,0,decide ((b.atoms.length:Int)>0\/t.B'=0)⟩
 else if t.last.atom<0\/t.last.atom>=b.atoms.length\/ny t.last.fr\/ny t.last.h then⟨0,0,false⟩
 else if t.last.fr+t.last.h<(atG b.atoms t.last.atom).h then⟨t.last.atom,t.last.fr+t.last.h,false⟩
 else⟨t.last.atom+1,0,decide (t.last.atom+1<b.atoms.length/\(bkG b.Ys (t.last.atom+1).toNat).forced≠0)⟩
def DD{b:Bk}{t:ZP}{s:Zm}(h:gQ b t=some s):kz b t=s:=by
 unfold gQ at h;unfold kz;split at h
 .rename_i h1;rw[ar h1];exact Option.some.inj h
 .rename_i h1;rw[av h1];split at h
  .cases h
  .rename_i h2;rw[av h2];split at h
   .rename_i h3;rw[ar h3];split at h
    .exact Option.some.inj h
    .cases h
   .rename_i h3;rw[av h3];exact Option.some.inj h
def fE(b:Bk)(t:ZP):Bool:=
 if t.parts=0 then true
 else if t.last.atom<0\/t.last.atom>=b.atoms.length\/ny t.last.fr\/ny t.last.h then false
 else if t.last.fr+t.last.h<(atG b.atoms t.last.atom).h then decide (t.last.fr+t.last.h>0)
 else true
def yH(b:Bk)(t:ZP):fE b t=(gQ b t).isSome:=by
 unfold fE gQ;split
 .rfl
 .split
  .rfl
  .split
   .split
    .rename_i h;rw[ZN h];rfl
    .rename_i h;rw[Zz h];rfl
   .rfl
def K0(b:Bk)(hb:BkOk b)(t:ZP){K U:af}{i im:Nat}(hJ:eD b t K U i im):
 au prog 121 [.ptr i 0 0] U λr Z'=>r=.P' [aV (kz b t),.bool (fE b t)]/\Z'=U:=by
 refine X6.r (by simp[PU]) ?_;have hs:=aa.refl U;have h0:=hJ.row;unfold lV at h0;have hal:=hb.len;have ZO:=hb.brk;have hla:=ik b.atoms;have hmc:(V.mp im).cells=[.mp im]:=rfl;have hms:(V.mp im).stays=true:=rfl;have hfc:∀f:Zi,(bb f).cells=[vI f.node,vI f.atom,vI f.fr,vI f.x,vI f.y,vI f.w,vI f.h]:=λ_=>rfl;have hfs:∀f:Zi,(bb f).stays=true:=λ_=>rfl;refine ab.mix 9 ?_;apply sR;simp only[go_sem,seval,PU];refine ad λi2 Z2 s2 a2 f2=>?_;have z2:=hs.none f2;replace hs:=hs.trans s2;replace h0:=s2 _ _ h0;by_cases hz:t.parts=0
 .have q1:((t.parts:Int)=0)=True:=Yi;have eV:kz b t=⟨0,0,decide ((b.atoms.length:Int)>0\/t.B'=0)⟩:=by unfold kz;rw[ar hz]
  have eB:fE b t=true:=by unfold fE;rw[ar hz]
  rw[eV,eB];by_cases hn:(b.atoms.length:Int)>0
  .have q2:((b.atoms.length:Int)>0)=True:=Yi hn;rw[ZN (.inl hn)];simp only[go_sem,seval,h0,a2,q1,q2,hla];exact ak.pure (hs.ax z2) rfl
  .have q2:((b.atoms.length:Int)>0)=False:=T' hn;by_cases hf:t.B'=0
   .have q3:((t.B':Int)=0)=True:=Yi;rw[ZN (.inr hf)];simp only[go_sem,seval,h0,a2,q1,q2,q3,hla];exact ak.pure (hs.ax z2) rfl
   .have q3:((t.B':Int)=0)=False:=T';rw[Zz λh=>h.elim hn hf];simp only[go_sem,seval,h0,a2,q1,q2,q3,hla];exact ak.pure (hs.ax z2) rfl
 .have q1:((t.parts:Int)=0)=False:=T';have eV:kz b t=if t.last.atom<0\/t.last.atom>=b.atoms.length\/ny t.last.fr\/ny t.last.h then⟨0,0,false⟩
   else if t.last.fr+t.last.h<(atG b.atoms t.last.atom).h then⟨t.last.atom,t.last.fr+t.last.h,false⟩
   else⟨t.last.atom+1,0,decide (t.last.atom+1<b.atoms.length/\(bkG b.Ys (t.last.atom+1).toNat).forced≠0)⟩:=by unfold kz;rw[av hz]
  have eB:fE b t=if t.last.atom<0\/t.last.atom>=b.atoms.length\/ny t.last.fr\/ny t.last.h then false
   else if t.last.fr+t.last.h<(atG b.atoms t.last.atom).h then decide (t.last.fr+t.last.h>0)else true:=by unfold fE;rw[av hz]
  have hag:V.agg [vI t.last.node,vI t.last.atom,vI t.last.fr,vI t.last.x,vI t.last.y,vI t.last.w,vI t.last.h]=bb t.last:=rfl;generalize kz b t=SV at*;generalize fE b t=SB at*;have c1:=I5 t.last.fr;have c2:=I5 t.last.h;by_cases p1:t.last.atom<0
  .have q2:(t.last.atom<0)=True:=Yi p1;have q3:True:=trivial;rw[ar (.inl p1)]at eV eB;subst eV eB;simp only[go_sem,seval,h0,q1,hla];refine ad λi5 Z5 s5 a5 f5=>?_;have n25:=ao a2 f5;replace a2:=s5 _ _ a2;have z5:=hs.none f5;replace hs:=hs.trans s5;replace h0:=s5 _ _ h0;have n5:=ao (s2 _ _ hJ.row) f5;simp only[go_sem,seval,a2,a5,hag,hfc,hfs,q2,ae n25];generalize hq5:C' _ i5 _=Y5;replace a5:=(congrFun hq5 i5).symm.trans ag;replace a2:=((congrFun hq5 i2).symm.trans (ae n25)).trans a2;replace h0:=((congrFun hq5 i).symm.trans (ae n5)).trans h0;replace hs:=Eq.subst (motive:=aa _) hq5 (hs.ax z5);clear hq5;exact ak.pure (hs.ax z2) rfl
  have q2:(t.last.atom<0)=False:=T' p1;by_cases p2:t.last.atom>=b.atoms.length
  .have q3:(t.last.atom>=(b.atoms.length:Int))=True:=Yi p2;rw[ar (.inr (.inl p2))]at eV eB;subst eV eB;simp only[go_sem,seval,h0,q1,hla];refine ad λi5 Z5 s5 a5 f5=>?_;have n25:=ao a2 f5;replace a2:=s5 _ _ a2;have z5:=hs.none f5;replace hs:=hs.trans s5;replace h0:=s5 _ _ h0;have n5:=ao (s2 _ _ hJ.row) f5;simp only[go_sem,seval,a2,a5,hag,hfc,hfs,q2,q3,ae n25];generalize hq5:C' _ i5 _=Y5;replace a5:=(congrFun hq5 i5).symm.trans ag;replace a2:=((congrFun hq5 i2).symm.trans (ae n25)).trans a2;replace h0:=((congrFun hq5 i).symm.trans (ae n5)).trans h0;replace hs:=Eq.subst (motive:=aa _) hq5 (hs.ax z5);clear hq5;exact ak.pure (hs.ax z2) rfl
  have q3:(t.last.atom>=(b.atoms.length:Int))=False:=T' p2;simp only[go_sem,seval,h0,q1,hla];refine ad λi5 Z5 s5 a5 f5=>?_;have n25:=ao a2 f5;replace a2:=s5 _ _ a2;have z5:=hs.none f5;replace hs:=hs.trans s5;replace h0:=s5 _ _ h0;have n5:=ao (s2 _ _ hJ.row) f5;simp only[go_sem,seval,a5,hag,hfc,hfs,q2,q3];generalize hq5:C' _ i5 _=Y5;replace a5:=(congrFun hq5 i5).symm.trans ag;replace a2:=((congrFun hq5 i2).symm.trans (ae n25)).trans a2;replace h0:=((congrFun hq5 i).symm.trans (ae n5)).trans h0;replace hs:=Eq.subst (motive:=aa _) hq5 (hs.ax z5);clear hq5;refine ab.ay rfl rfl rfl (c1 _) ?_;by_cases p3:ny t.last.fr
  .rw[ZN p3];rw[ar (.inr (.inr (.inl p3)))]at eV eB;subst eV eB;apply sR;simp only[go_sem,seval,a2];exact ak.pure (hs.ax z2) rfl
  rw[Zz p3];apply sR;simp only[go_sem,seval,a5,hfc];refine ab.ay rfl rfl rfl (c2 _) ?_;by_cases p4:ny t.last.h
  .rw[ZN p4];rw[ar (.inr (.inr (.inr p4)))]at eV eB;subst eV eB;apply sR;simp only[go_sem,seval,a2];exact ak.pure (hs.ax z2) rfl
  rw[Zz p4];rw[av λh=>h.elim p1 λh=>h.elim p2 λh=>h.elim p3 p4]at eV eB;unfold ny at p3 p4;obtain⟨k,hk⟩:∃k:Nat,t.last.atom=k:=⟨t.last.atom.toNat,by omega⟩
  have hkl:k<b.atoms.length:=by omega
  have Yb:=λU=>jf (U:=U) hkl;have hac:∀a:Zq,(di a).cells=[vI a.kind,vI a.node,vI a.fr,vI a.to,vI a.x,vI a.y,vI a.w,vI a.h]:=λ_=>rfl;rw[hk,aZ hkl]at eV eB;generalize b.atoms[k]=A at*;have r1:Yr .i64 (t.last.fr+t.last.h):=ai;have r2:Yr .i64 ((k:Int)+1):=ai;by_cases p5:t.last.fr+t.last.h<A.h
  .have q5:(t.last.fr+t.last.h<A.h)=True:=Yi p5;rw[ar p5]at eV eB;subst eV eB;by_cases p6:t.last.fr+t.last.h>0
   .have q6:(t.last.fr+t.last.h>0)=True:=Yi p6;rw[ZN p6];apply sR;simp only[go_sem,seval,h0,a2,a5,hfc,hk,Yb,hac,r1,q5,q6];exact ak.pure (hs.ax z2) (by rw[<-hk];rfl)
   .have q6:(t.last.fr+t.last.h>0)=False:=T' p6;rw[Zz p6];apply sR;simp only[go_sem,seval,h0,a2,a5,hfc,hk,Yb,hac,r1,q5,q6];exact ak.pure (hs.ax z2) (by rw[<-hk];rfl)
  .have q5:(t.last.fr+t.last.h<A.h)=False:=T' p5;rw[av p5]at eV eB;subst eV eB;by_cases p6:(k:Int)+1<b.atoms.length
   .have q6:((k:Int)+1<(b.atoms.length:Int))=True:=Yi p6;have hkb:k+1<b.Ys.length:=by omega
    have hidb:∀U,bo U 3 (bC b.Ys) (.int .i64 ((k:Int)+1))=some (.rp (fc b.Ys[k+1])):=λU=>by
     rw[show(k:Int)+1=((k+1:Nat):Int) by omega];exact ta hkb
    have hbG:bkG b.Ys ((k:Int)+1).toNat=b.Ys[k+1]:=by
     rw[show((k:Int)+1).toNat=k+1 by omega];simp[bkG,hkb]
    have hb3:∀x:Brk,(fc x).cells=[vI x.cls,vI x.forced,vI x.Zy]:=λ_=>rfl;have hdd:decide ((k:Int)+1<b.atoms.length/\(bkG b.Ys ((k:Int)+1).toNat).forced≠0)=decide (b.Ys[k+1].forced≠0):=decide_eq_decide.2 (by rw[hbG];simp[p6]);rw[hdd];clear hdd hbG;generalize b.Ys[k+1]=x at*;by_cases p7:x.forced=0
    .have q7:(x.forced≠0)=False:=T' λh=>h p7;rw[Zz λh=>h p7];apply sR;simp only[go_sem,seval,h0,a2,a5,hfc,hk,Yb,hac,r1,r2,q5,q6,q7,hidb,hb3];exact ak.pure (hs.ax z2) rfl
    .have q7:(x.forced≠0)=True:=Yi p7;rw[ZN p7];apply sR;simp only[go_sem,seval,h0,a2,a5,hfc,hk,Yb,hac,r1,r2,q5,q6,q7,hidb,hb3];exact ak.pure (hs.ax z2) rfl
   .have q6:((k:Int)+1<(b.atoms.length:Int))=False:=T' p6;rw[Zz λh=>p6 h.1];apply sR;simp only[go_sem,seval,h0,a2,a5,hfc,hk,Yb,hac,r1,r2,q5,q6];exact ak.pure (hs.ax z2) rfl
open Go.Proofs Go.Proofs.Tryz
def xS:∀(l:List YL) (t:ZP),(∀p∈l,p.fs.length<=1000000/\p.ls.length<=2000000)->(l.foldl eG t).parts<=t.parts+l.length*1000000/\(l.foldl eG t).B'<=t.B'+l.length/\∀n,(l.foldl eG t).shown n<=t.shown n+l.length*2000000
 |[],t,_=>by simp
 |p::l,t,h=>by
  obtain⟨h1,h2,h3⟩:=xS l (eG t p) λq hq=>h q (by simp[hq]);obtain⟨g1,g2⟩:=h p (by simp);rw[j4];have e1:(eG t p).parts=t.parts+p.fs.length:=rfl;have e2:(eG t p).B'<=t.B'+1:=by show t.B'+(if p.kind=2 then 1 else 0)<=_;split<;>omega
  refine⟨?_,?_,λn=>?_⟩
  .simp only[ZR];omega
  .simp only[ZR];omega
  .have e3:(eG t p).shown n=t.shown n+(p.ls.filter λf=>decide (f.node=n)).length:=rfl;have:=h3 n;have:=zo p.ls n;simp only[ZR];omega
def qx{P:List YL}(hP:∀p∈P,p.fs.length<=1000000/\p.ls.length<=2000000)(k:Nat):(bN .nil P k).parts<=P.length*1000000/\(bN .nil P k).B'<=P.length/\∀n,(bN .nil P k).shown n<=P.length*2000000:=by
 obtain⟨h1,h2,h3⟩:=xS (P.take k) .nil λp hp=>hP p (rq hp);have hl:(P.take k).length<=P.length:=by rw[ia];omega
 have e:bN .nil P k=(P.take k).foldl eG .nil:=rfl;have z1:ZP.nil.parts=0:=rfl;have z2:ZP.nil.B'=0:=rfl;have z3:∀n,ZP.nil.shown n=0:=λ_=>rfl;rw[<-e]at h1 h2 h3;exact⟨by omega,by omega,λn=>by have:=h3 n;rw[z3]at this;omega⟩
def eD.C'{b:Bk}{t:ZP}{K U:af}{i im j:Nat}{o:Ob}(h:eD b t K U i im)(hi:j≠i)(hm:j≠im)(hK:aa K (C' U j o)):eD b t K (Vc.C' U j o) i im:=by
 obtain⟨es,ck,env,g1,g2⟩:=h.mp;exact⟨(ae (Ne.symm hi)).trans h.row,⟨es,ck,env,(ae (Ne.symm hm)).trans g1,g2⟩,h.ni,h.nm,hK⟩
def FJ(b:Bk)(vp:V)(P:List YL)(hlP:cU false vp=some (.int .i64 P.length))(hiP:∀(U:af) (i:Nat) (h:i<P.length),bo U 5 vp (.int .i64 i)=some (.rp (aQ P[i])))
 (hP:∀p∈P,p.fs.length<=1000000/\p.ls.length<=2000000)(hPl:P.length<=10000000000)(U:af):
 au prog 27 [pO b,vp] U λr Z'=>∃i im,r=.ptr i 0 0/\eD b (bN .nil P P.length) U Z' i im:=by
 refine e27.r (by simp[c27]) ?_;have hs:=aa.refl U;have ZD:∀p:YL,(aQ p).cells=[vI p.no,vI p.kind,aG p.hs,aG p.fs,aG p.ls]:=λ_=>rfl;have hps:∀p:YL,(aQ p).stays=true:=λ_=>rfl;have hFc:∀l:List Zi,(aG l).cells=[aG l]:=λ_=>rfl;have hFs:∀l:List Zi,(aG l).stays=true:=λ_=>rfl;have ldP:∀(U:af) (p:YL),bB U true 5 (.rp (aQ p))=some (aQ p):=λ_ _=>rfl;refine ab.mix 9 ?_;apply sR;simp only[go_sem,seval,c27,dE,py];refine ad λi2 Z2 s2 a2 f2=>?_;replace hs:=hs.trans s2;simp only[go_sem,seval,a2,dE];refine ab.mkMap rfl rfl λim fm=>?_;have hmc:(V.mp im).cells=[.mp im]:=rfl;have hms:(V.mp im).stays=true:=rfl;have n2m:i2≠im:=ao a2 fm;have zm:=hs.none fm;have hm0:mq .i64 (C' Z2 im (gh (.map #[] 0) [])) im (shF .nil):=⟨#[],0,[],ag,⟨rfl,by simp,λm=>rfl,by simp⟩⟩
 replace a2:=(ae (o:=gh (.map #[] 0) []) n2m).trans a2;replace hs:=hs.ax (o:=gh (.map #[] 0) []) zm;generalize C' Z2 im (gh (.map #[] 0) [])=C at*;apply sR;simp only[go_sem,seval,hmc,hms];refine ad λZM Z11 s11 ZT f11=>?_;have z11:=hs.none f11;replace hs:=hs.trans s11;have hJ0:eD b .nil U Z11 ZM im:=⟨by rw[ZT];rfl,hm0.sub s11,z11,zm,hs⟩
 simp only[go_sem,seval,hlP];have htb:=qx hP;generalize Z11=X' at*;clear hs ZT a2 hm0;refine ab.loop (λm st=>∃j:Nat,j<=P.length/\m=P.length-j/\eD b (bN .nil P j) U st.U ZM im/\st.s 5=.ptr ZM 0 0/\st.s 12=vp/\st.s 13=vI P.length/\st.s 14=vI j) P.length ?_ ?_
 .exact⟨0,by omega,rfl,hJ0,rfl,rfl,rfl,rfl⟩
 .rintro m ⟨S,ω⟩ ⟨j,hj,rfl,hJ,t5,t12,t13,t14⟩;simp only at hJ t5 t12 t13 t14;refine ab.mix 9 ?_;by_cases L':j<P.length
  .have q1:((j:Int)<P.length)=True:=Yi;have hi:=λU=>hiP U j L';have hts:bN .nil P (j+1)=eG (bN .nil P j) P[j]:=sJ (Zq6 L');obtain⟨b1,b2⟩:=hP _ (Zw L');obtain⟨b3,b4,b5⟩:=htb j;generalize P[j]=p at*;have hs:=aa.refl ω;apply sR;simp only[go_sem,seval,t12,t13,t14,q1,hi,ldP];refine ad λi7 Z7 s7 a7 f7=>?_;have z7:=hs.none f7;replace hs:=hs.trans s7;simp only[go_sem,seval,a7,t5,ZD,hps];generalize hq7:C' _ i7 _=Y7;replace a7:=(congrFun hq7 i7).symm.trans ag;replace hs:=Eq.subst (motive:=aa _) hq7 (hs.ax z7);clear hq7;have hJ7:=hJ.mono hs;apply sR;simp only[go_sem,seval];refine ab.call rfl rfl rfl (zX b _ p (by omega) (by omega) (λn=>by have:=b5 n;omega) (by omega) hJ7) ?_;rintro r Z' ⟨rfl,hJ'⟩;have r1:Yr .i64 ((j:Int)+1):=ai;apply sR;simp only[go_sem,seval,t14,t5,t12,t13,r1];exact⟨_,by omega,j+1,by omega,rfl,by rw[hts];exact hJ',by simp⟩
  .have q1:((j:Int)<P.length)=False:=T';have hje:j=P.length:=by omega
   subst hje;apply sR;simp only[go_sem,seval,t13,t14,t5,q1];exact⟨_,_,aa.refl _,Wk.refl (aa.refl _) _,ZM,im,rfl,hJ⟩
open Go.Proofs Go.Proofs.Tryz
def GG(b:Bk)(t:ZP)(s:Zm)(f:U'):Bool:=iD b f s&&decide (t.shown f.node=0)
def K6(b:Bk)(t:ZP)(s:Zm)(f:U'){K U:af}{i im i1 i4:Nat}(hJ:eD b t K U i im)(a1:U i1=some ⟨86,1,[.ptr i 0 0]⟩)(a4:U i4=some ⟨42,3,[aV s]⟩):
 au prog 122 [aK f,.ptr i1 0 0,.ptr i4 0 0] U λr Z'=>r=.bool (GG b t s f)/\Z'=U:=by
 refine WA.r (by simp[RK]) ?_;have hs:=aa.refl U;have hfc:∀f:U',(aK f).cells=[vI f.node,vI f.side,vI f.anchor,vI f.x,vI f.y,vI f.w,vI f.h]:=λ_=>rfl;have hfs:∀f:U',(aK f).stays=true:=λ_=>rfl;have hfa:∀f:U',V.agg [vI f.node,vI f.side,vI f.anchor,vI f.x,vI f.y,vI f.w,vI f.h]=aK f:=λ_=>rfl;have hmc:(V.mp im).cells=[.mp im]:=rfl;have hms:(V.mp im).stays=true:=rfl;have ZH:=H0 b f s;refine ab.mix 5 ?_
 (refine ab.bn Orc.nothing 6 ?_;simp only[go_sem,seval,RK,hfc,hfs])
 refine ad λi3 Z3 s3 a3 f3=>?_;replace hs:=hs.trans s3;simp only[go_sem,seval,jK];have hJ3:=hJ.mono s3;have h0:=hJ3.row;unfold lV at h0;replace a1:=s3 _ _ a1;replace a4:=s3 _ _ a4;have hg:(shF t f.node).getD (V.int .i64 0)=vI (t.shown f.node):=by
  unfold shF;split
  .rename_i h;rw[h];rfl
  .rfl
 unfold GG;refine ab.Q2 [14] rfl (XC.go 14 ?_);apply sG;simp only[go_sem,seval,h0,a1,a3,a4,hfc,dx,pK,List.take_zero];rw[<-pO,<-aV,hfa];refine Go.bW rfl rfl rfl ZH ?_;cases hc:iD b f s
 .apply sG;simp only[go_sem,seval];refine XC.skip rfl (XC.go 3 ?_);apply sG;simp only[go_sem,seval,pK,List.take_zero];refine XC.nil ?_;apply sR;simp only[go_sem,seval];exact ak.pure hs rfl
 .apply sG;simp only[go_sem,seval,h0,a1,a3,hfc];refine XC.tL (by decide) rfl rfl rfl hJ3.mp rfl (XC.go 3 ?_);by_cases hz:t.shown f.node=0
  .have q:((t.shown f.node:Int)=0)=True:=Yi;rw[ZN hz];apply sG;simp only[go_sem,seval,hg,q,pK,List.take_zero];refine XC.nil ?_;apply sR;simp only[go_sem,seval];exact ak.pure hs rfl
  .have q:((t.shown f.node:Int)=0)=False:=T';rw[Zz hz];apply sG;simp only[go_sem,seval,hg,q,pK,List.take_zero];refine XC.nil ?_;apply sR;simp only[go_sem,seval];exact ak.pure hs rfl
open Go.Proofs Go.Proofs.Tryz
def jH(b:Bk)(t:ZP):Sta:=if fE b t=true then⟨kz b t,b.Ye.filter (GG b t (kz b t))⟩else⟨⟨0,0,false⟩,[]⟩
def ub{b:Bk}{t:ZP}{s:Sta}(h:stateT b t=some s):jH b t=s/\fE b t=true:=by
 unfold stateT at h;cases hs:gQ b t with
 |none=>rw[hs]at h;cases h
 |some s0=>
  rw[hs]at h;have hB:fE b t=true:=by rw[yH,hs];rfl
  refine⟨?_,hB⟩;unfold jH;rw[ar hB,DD hs];exact Option.some.inj h
def C4{b:Bk}{t:ZP}(h:stateT b t=none):fE b t=false:=by
 unfold stateT at h;cases hs:gQ b t with
 |none=>rw[yH,hs];rfl
 |some s0=>rw[hs]at h;cases h
def B8(b:Bk)(hb:BkOk b)(t:ZP){K U:af}{i im:Nat}(hJ:eD b t K U i im):
 au prog 64 [.ptr i 0 0] U λr Z'=>r=.P' [bI (jH b t),.bool (fE b t)]/\Z'=U:=by
 refine e64.r (by simp[c64]) ?_;have hs:=aa.refl U;have hfl:=hb.flen;have hln:=fZ b.Ye;have hfc:∀f:U',(aK f).cells=[vI f.node,vI f.side,vI f.anchor,vI f.x,vI f.y,vI f.w,vI f.h]:=λ_=>rfl;have hfs:∀f:U',(aK f).stays=true:=λ_=>rfl;have hfa:∀f:U',V.agg [vI f.node,vI f.side,vI f.anchor,vI f.x,vI f.y,vI f.w,vI f.h]=aK f:=λ_=>rfl;refine ab.mix 10 ?_;apply sR;simp only[go_sem,seval,c64];refine ad λi1 Z1 s1 a1 f1=>?_;replace hs:=hs.trans s1;simp only[go_sem,seval];refine ad λi2 Z2 s2 a2 f2=>?_;replace a1:=s2 _ _ a1;have z2:=hs.none f2;replace hs:=hs.trans s2;have hJ2:=hJ.mono hs;simp only[go_sem,seval,a1];refine ab.ay rfl rfl rfl (K0 b hb t hJ2) ?_;unfold jH;generalize kz b t=s at*;apply sR;simp only[go_sem,seval];refine ad λi4 Z4 s4 a4 f4=>?_;have n14:=ao a1 f4;replace a1:=s4 _ _ a1;have n24:=ao a2 f4;replace a2:=s4 _ _ a2;have z4:=hs.none f4;replace hs:=hs.trans s4;simp only[go_sem,seval,a4,dx,xG];generalize hq4:C' _ i4 _=Y4;replace a4:=(congrFun hq4 i4).symm.trans ag;replace a1:=((congrFun hq4 i1).symm.trans (ae n14)).trans a1;replace a2:=((congrFun hq4 i2).symm.trans (ae n24)).trans a2;replace hs:=Eq.subst (motive:=aa _) hq4 (hs.ax z4);clear hq4;have hJ4:=hJ.mono hs;cases hB:fE b t
 .simp only[go_sem,seval,a2];have Yk:=hs.ax (o:=⟨45,4,[.agg [vI 0,vI 0,.bool false,.aC]]⟩) z2;exact⟨_,U,Yk,Wk.P' (vs':=[bI ⟨⟨0,0,false⟩,[]⟩,.bool false]) ⟨Wk.agg (vs':=[vI 0,vI 0,.bool false,aH []]) ⟨Wk.refl Yk _,Wk.refl Yk _,Wk.refl Yk _,Wk.aC 7,trivial⟩,Wk.refl Yk _,trivial⟩,rfl,rfl⟩
 .have h0:=hJ4.row;unfold lV at h0;have ha4:=a4;rw[aV]at ha4;simp only[go_sem,seval,a4,dx];have hs4:=hs;refine ad λi6 Z6 s6 a6 f6=>?_;simp only[go_sem,seval,a6];generalize hq6:C' Z6 i6 _=Y6;have sA:aa Y4 Y6:=by rw[<-hq6];exact s6.ax f6
  replace a6:=(congrFun hq6 i6).symm.trans ag;clear hq6;have b1:=sA _ _ a1;simp only[go_sem,seval,b1,sA _ _ hJ4.row,lV,hln];generalize hW:GG b t s=W;have Zn:b.Ye.filter W=(b.Ye.take b.Ye.length).filter W:=by rw[ic]
  refine ab.eY (λst=>∃v,aa Y4 st.U/\st.U i6=some ⟨45,4,[.agg [vI s.atom,vI s.done,.bool s.free,v]]⟩/\aL (aU Y4 i6) st.U 150 7 v ((b.Ye.filter W).map aK)/\st.s 2=.ptr i2 0 0/\st.s 6=.ptr i6 0 0)
   (λm st=>∃(j:Nat) (v:V),j<=b.Ye.length/\m=b.Ye.length-j/\aa Y4 st.U/\st.U i6=some ⟨45,4,[.agg [vI s.atom,vI s.done,.bool s.free,v]]⟩/\aL (aU Y4 i6) st.U 150 7 v (((b.Ye.take j).filter W).map aK)/\st.s 2=.ptr i2 0 0/\st.s 6=.ptr i6 0 0/\st.s 7=.fn 122 [.ptr i1 0 0,.ptr i4 0 0]/\st.s 26=aH b.Ye/\st.s 27=vI b.Ye.length/\st.s 28=vI j) b.Ye.length ?_ ?_ ?_
  .exact⟨0,.aC,by omega,rfl,sA,a6,aL.start,rfl,rfl,rfl,rfl,rfl,rfl⟩
  .clear a6 b1 sA;rintro m ⟨S,ω⟩ ⟨j,v,hj,rfl,sA,a6,ho,t2,t6,t7,t26,t27,t28⟩;simp only at sA a6 ho t2 t6 t7 t26 t27 t28;refine ab.mix 10 ?_;by_cases L':j<b.Ye.length
   .have q1:((j:Int)<b.Ye.length)=True:=Yi;have Yb:=λU=>jY (U:=U) L';have Zg:=Zq0 L';have r1:Yr .i64 ((j:Int)+1):=ai;have hln2:((b.Ye.take j).filter W).length<=1000000:=by
     have:=List.length_filter_le W (b.Ye.take j);rw[ia]at this;omega
    generalize b.Ye[j]=f at*;have hs:=aa.refl ω;obtain⟨hvc,hvs⟩:=ho.vc;apply sR;simp only[go_sem,seval,t26,t27,t28,q1,Yb];refine ad λi9 Z9 s9 a9 f9=>?_;have n69:=ao a6 f9;replace a6:=s9 _ _ a6;have z9:=hs.none f9;replace hs:=hs.trans s9;simp only[go_sem,seval,a9,t7,hfc];generalize ZA:C' _ i9 _=Y9;replace a9:=(congrFun ZA i9).symm.trans ag;replace a6:=((congrFun ZA i6).symm.trans (ae n69)).trans a6;replace hs:=Eq.subst (motive:=aa _) ZA (hs.ax z9);clear ZA;apply sR;simp only[go_sem,seval];rw[hfa];have hsA:=sA.trans hs;refine ab.ay rfl rfl rfl (K6 b t s f (hJ4.mono hsA) (hsA _ _ a1) (hsA _ _ a4)) ?_;rw[hW];have ho9:=ho.mono hs;cases hwf:W f
    .have htf:(b.Ye.take (j+1)).filter W=(b.Ye.take j).filter W:=by rw[Zg,List.filter_append];simp[hwf]
     apply sR;simp only[go_sem,seval,t2,t6,t7,t26,t27,t28,r1];exact⟨_,by omega,j+1,v,by omega,rfl,hsA,a6,by rw[htf];exact ho9,by simp⟩
    .have htf:(b.Ye.take (j+1)).filter W=(b.Ye.take j).filter W++[f]:=by rw[Zg,List.filter_append];simp[hwf]
     apply sR;simp only[go_sem,seval,t6,a6,a9];rw[hfa];refine ad λi38 Z38 s38 a38 f38=>?_;have ho38:=ho9.mono s38;obtain⟨Yt,hda,hgr⟩:=zj (hsA.trans s38) f6 (s38 _ _ a6) ho38;have Zu:(((b.Ye.take j).filter W).map aK).length+1<=1000001:=by rw[de];omega
     generalize hrw:((b.Ye.take j).filter W).map aK=rows at*;have hb3:(rows.length+1)*57<=140737488355328:=by omega
     simp only[go_sem,seval,hda,dh a38,hb3];refine eL λi39 Z39 s39 a39 f39=>?_;obtain⟨c6,hg⟩:=hgr Z39 i39 _ s39 a39 f39;obtain⟨g1,g2,-⟩:=hg ⟨45,4,[.agg [vI s.atom,vI s.done,.bool s.free,.own i39 0 (rows.length+1)]]⟩;simp only[go_sem,seval,c6,t2,t6,t7,t26,t27,t28,r1];have hle:(rows++[aK f]).length=rows.length+1:=by simp
     rw[hle]at g2;exact⟨_,by omega,j+1,.own i39 0 (rows.length+1),by omega,rfl,g1,rfl,by rw[htf,gy,hrw];exact g2,by simp⟩
   .have q1:((j:Int)<b.Ye.length)=False:=T';have hje:j=b.Ye.length:=by omega
    rw[hje,ic]at ho;apply sR;simp only[go_sem,seval,t2,t6,t27,t28,q1];exact⟨v,sA,a6,ho⟩
  .rintro⟨S,ω⟩ ⟨v,sA',a6',ho,t2,t6⟩;simp only at sA' a6' ho t2 t6;obtain⟨hvc,hvs⟩:=ho.vc;refine ab.mix 10 ?_;have b2:=sA' _ _ a2;apply sR;simp only[go_sem,seval,t2,t6,a6',b2];have Yk:=(hs4.trans sA').ax (o:=⟨45,4,[.agg [vI s.atom,vI s.done,.bool s.free,v]]⟩) z2;have n26:i2≠i6:=λe=>by rw[<-e]at f6;rw[f6]at a2;cases a2
   have hk2:aU Y4 i6 i2≠none:=by rw[aU,av n26,a2];simp
   have hK:aa U (aU Y4 i6):=λj o hh=>by
    have h1:=hs4 _ _ hh;rw[aU,av (λe=>by rw[e,f6]at h1;cases h1)];exact h1
   exact⟨_,U,Yk,Wk.P' (vs':=[bI ⟨s,b.Ye.filter W⟩,.bool true]) ⟨Wk.agg (vs':=[vI s.atom,vI s.done,.bool s.free,aH (b.Ye.filter W)]) ⟨Wk.refl Yk _,Wk.refl Yk _,Wk.refl Yk _,(ho.ae hk2).wk hK Yk,trivial⟩,Wk.refl Yk _,trivial⟩,rfl,rfl⟩
open Go.Proofs Go.Proofs.Tryz
def H7{b:Bk}(hb:BkOk b){s:Sta}(h:kX b s):s.bJ.length<=1000000:=by
 have h1:=(Cs _ 0 h.1).length_le;rw[Ad]at h1;have:=hb.flen;omega
def xU(b:Bk)(t:ZP)(no:Int):YL:=if(b.atoms.length:Int)+b.Ye.length=0 then⟨no,3,[],[],[]⟩else(dD b t no).getD ⟨0,0,[],[],[]⟩
def yK{b:Bk}{t:ZP}{no:Int}{p:YL}(h:dD b t no=some p):xU b t no=p:=by
 unfold xU;split
 .rename_i h0;unfold dD at h;rw[ar h0]at h;split at h
  .exact Option.some.inj h
  .cases h
 .rw[h];rfl
def nU{U C:af}(hs:aa U C)(n k:Int)(x:Bool):ak (.P' [.agg [vI n,vI k,.aC,.aC,.aC],.bool x]) C λr Z'=>r=.P' [aQ ⟨n,k,[],[],[]⟩,.bool x]/\Z'=U:=
 ⟨_,U,hs,Wk.P' (vs':=[aQ ⟨n,k,[],[],[]⟩,.bool x]) ⟨Wk.agg (vs':=[vI n,vI k,aG [],aG [],aG []]) ⟨Wk.refl hs _,Wk.refl hs _,Wk.aC 7,Wk.aC 7,Wk.aC 7,trivial⟩,Wk.refl hs _,trivial⟩,rfl,rfl⟩
def wR(b:Bk)(hb:fa b)(t:ZP)(no:Int)(YE:0<=no){K U:af}{i im:Nat}(hJ:eD b t K U i im):
 au prog 28 [.ptr i 0 0,vI no] U λr Z'=>r=.P' [aQ (xU b t no),.bool (dD b t no).isSome]/\Z'=U:=by
 refine e28.r (by simp[c28]) ?_;have hs:=aa.refl U;have hmc:(V.mp im).cells=[.mp im]:=rfl;have hms:(V.mp im).stays=true:=rfl;have ZD:∀p:YL,(aQ p).cells=[vI p.no,vI p.kind,aG p.hs,aG p.fs,aG p.ls]:=λ_=>rfl;have hps:∀p:YL,(aQ p).stays=true:=λ_=>rfl;have hFc:∀l:List Zi,(aG l).cells=[aG l]:=λ_=>rfl;have hFs:∀l:List Zi,(aG l).stays=true:=λ_=>rfl;have h0:=hJ.row;unfold lV at h0;have ZO:=hb.brk;have hal:=hb.len;have hec:=Jg b hb.toBkOk;refine ab.mix 11 ?_;apply sR;simp only[go_sem,seval,c28];refine ad λi4 Z4 s4 a4 f4=>?_;have z4:=hs.none f4;replace hs:=hs.trans s4;replace h0:=s4 _ _ h0;simp only[go_sem,seval,h0];rw[<-pO];refine ab.ay rfl rfl rfl (hec _) ?_;by_cases he0:(b.atoms.length:Int)+b.Ye.length=0
 .rw[ZN he0];have eP:xU b t no=⟨no,3,[],[],[]⟩:=by unfold xU;rw[ar he0]
  rw[eP];by_cases h1:no=1
  .have q1:(no=1)=True:=Yi h1;have eA:(dD b t no).isSome=true:=by unfold dD;rw[ar he0,ar h1];rfl
   rw[eA];apply sR;simp only[go_sem,seval,a4,q1];exact nU (hs.ax z4) _ _ _
  .have q1:(no=1)=False:=T' h1;have eA:(dD b t no).isSome=false:=by unfold dD;rw[ar he0,av h1];rfl
   rw[eA];apply sR;simp only[go_sem,seval,a4,q1];exact nU (hs.ax z4) _ _ _
 rw[Zz he0];have hJ4:=hJ.mono hs;have eP:xU b t no=(dD b t no).getD ⟨0,0,[],[],[]⟩:=by unfold xU;rw[av he0]
 rw[eP];clear eP;have eA:dD b t no=match stateT b t with
  |none=>none
  |some s=>if eK b s then none else if lS b (aO b s).1 s.s no then some ⟨no,3,[],[],[]⟩else some { (aO b s).1 with no:=no }:=by
  unfold dD;rw[av he0];rfl
 apply sR;simp only[go_sem,seval];refine ab.ay rfl rfl rfl (B8 b hb.toBkOk t hJ4) ?_;have hcase:stateT b t=none/\fE b t=false\/∃s,stateT b t=some s/\jH b t=s/\fE b t=true:=by
  cases h:stateT b t with
  |none=>exact .inl ⟨rfl,C4 h⟩
  |some s=>exact .inr ⟨s,rfl,ub h⟩
 generalize jH b t=s at*;apply sR;simp only[go_sem,seval];refine ad λi6 Z6 s6 a6 f6=>?_;have n46:=ao a4 f6;replace a4:=s6 _ _ a4;have z6:=hs.none f6;replace hs:=hs.trans s6;simp only[go_sem,seval,a6,df,gw];generalize hq6:C' _ i6 _=Y6;replace a6:=(congrFun hq6 i6).symm.trans ag;replace a4:=((congrFun hq6 i4).symm.trans (ae n46)).trans a4;replace hs:=Eq.subst (motive:=aa _) hq6 (hs.ax z6);clear hq6;rcases hcase with⟨e1,e2⟩|⟨s',e1,rfl,e2⟩
 .rw[e1]at eA;simp only at eA;rw[e2,eA];simp only[go_sem,seval,a4];exact nU (hs.ax z4) _ _ _
 rw[e1]at eA;simp only at eA;rw[e2];have hJ6:=hJ.mono hs;have h0:=hJ6.row;unfold lV at h0;have hpl:s.bJ.length<=1000000:=by
  unfold stateT at e1;cases Yy:gQ b t with
  |none=>rw[Yy]at e1;cases e1
  |some s0=>
   rw[Yy]at e1;have:=Option.some.inj e1;rw[<-this];exact jE (List.length_filter_le _ _) hb.flen
 simp only[go_sem,seval,h0,a6,df];rw[<-bI];refine Go.bW rfl rfl rfl (zL b hb.toBkFull s hpl) ?_;by_cases hends:eK b s
 .rw[ar hends]at eA;rw[ZN hends,eA];apply sG;simp only[go_sem,seval,a4];exact nU (hs.ax z4) _ _ _
 rw[av hends]at eA;rw[Zz hends];have ZK:kX b s:=Decidable.byContradiction λh=>hends (.inl h);have hat:0<=s.s.atom/\s.s.atom<b.Ys.length:=by
  rcases ZK.2 with h|h
  .have:=h.1;omega
  .omega
 have hpg:=F2 b hb.toBkFull hb.fh s hpl;rw[av hends]at hpg;have hsd:=MU b (by omega) (aO b s).1 s.s hat.1 hat.2 no YE;generalize aO b s=X at*;obtain⟨p,nx⟩:=X;simp only at hpg hsd eA;have fin:∀(S:Nat->V) (C:af) (i8:Nat) (G':aa Y6 C) (z8:Y6 i8=none) (a8:C i8=some ⟨37,5,[aQ p]⟩) (t0:S 0=.ptr i 0 0) (t1:S 1=vI no) (t4:S 4=.ptr i4 0 0) (t6:S 6=.ptr i6 0 0) (t8:S 8=.ptr i8 0 0),
  ab prog 62 [It.code c28.code.rt.rt.rt.rt.rt] ⟨S,C⟩ λst=>Ret [.cell true 5 (.t 4),.tmp (.t 5)] st λr Z'=>r=.P' [aQ ((dD b t no).getD ⟨0,0,[],[],[]⟩),.bool (dD b t no).isSome]/\Z'=U:=by
  intro S C i8 G' z8 a8 t0 t1 t4 t6 t8;have b0:=G' _ _ h0;have b4:=G' _ _ a4;have b6:=G' _ _ a6;have n48:i4≠i8:=ao a4 z8;have z8':=hs.none z8;have hsZ:=hs.trans G';refine ab.mix 11 ?_;apply sR;simp only[go_sem,seval,c28,bc.rt,t0,t1,t6,t8,b0,a8,b6,df,ZD];rw[<-pO,N5];refine ab.ay rfl rfl rfl (hsd _) ?_;by_cases hsi:lS b p s.s no
  .rw[ar hsi]at eA;rw[ZN hsi,eA];apply sR;simp only[go_sem,seval,t1,t4,b4];exact nU (hsZ.ax z4) _ _ _
  .rw[av hsi]at eA;rw[Zz hsi,eA];apply sR;simp only[go_sem,seval,t1,t4,t8,b4,a8,ZD,ae n48];exact ak.pure ((hsZ.ax z8').ax z4) rfl
 apply sG;simp only[go_sem,seval,cQ];have a8:True:=trivial;have a9:True:=trivial;have hn:True:=trivial;have YT:=aa.refl Y6;refine ab.D5 (by kernel_rfl) 8 (.fork [[],[0],[1,0],[2,1,0],[3,2,1,0],[],[4,5,3,2,1,0],[6,4,5,3,2,1,0],[7,6,4,5,3,2,1,0],[7,6,4,5,3,2,1,0],[7,6,4,5,3,2,1,0],[],[],[11,8,6,0,1,2,3,4,5,7,12],[12,9,13,0,1,2,3,4,5,6,7,8,11],[10,14,0,1,2,3,4,5,6,7,8,9,11,12,13]] [0,1,2,3,4,5] [6,11,12] [(.fork [[],[0],[1,0],[2,1,0],[3,2,1,0],[],[4,5,3,2,1,0],[6,4,5,3,2,1,0],[7,6,4,5,3,2,1,0],[7,6,4,5,3,2,1,0],[7,6,4,5,3,2,1,0],[6,4,5,3,2,1,0],[6,4,5,3,2,1,0],[6,4,5,3,2,1,0,11,8,7,12],[6,4,5,3,2,1,0,12,9,13,7,8,11],[6,4,5,3,2,1,0,10,14,7,8,9,11,12,13]] [6,7,8,9,10] [11,12] [(.leaf [[],[0],[1,0],[2,1,0],[3,2,1,0],[],[4,5,3,2,1,0],[6,4,5,3,2,1,0],[7,6,4,5,3,2,1,0],[7,6,4,5,3,2,1,0],[7,6,4,5,3,2,1,0],[6,4,5,3,2,1,0],[11,6,4,5,3,2,1,0],[11,6,4,5,3,2,1,0,8,7,12],[11,6,4,5,3,2,1,0,12,9,13,7,8],[11,6,4,5,3,2,1,0,10,14,7,8,9,12,13]] [11,12,13,14,15]),(.leaf [[],[0],[1,0],[2,1,0],[3,2,1,0],[],[4,5,3,2,1,0],[6,4,5,3,2,1,0],[7,6,4,5,3,2,1,0],[7,6,4,5,3,2,1,0],[7,6,4,5,3,2,1,0],[12,6,4,5,3,2,1,0],[6,4,5,3,2,1,0],[12,6,4,5,3,2,1,0,11,8,7],[12,6,4,5,3,2,1,0,9,13,7,8,11],[12,6,4,5,3,2,1,0,10,14,7,8,9,11,13]] [12,11,13,14,15])]),(.fork [[],[0],[1,0],[2,1,0],[3,2,1,0],[],[11,4,5,3,2,1,0],[11,6,4,5,3,2,1,0],[11,7,6,4,5,3,2,1,0],[11,7,6,4,5,3,2,1,0],[11,7,6,4,5,3,2,1,0],[],[11],[11,8,6,0,1,2,3,4,5,7,12],[11,12,9,13,0,1,2,3,4,5,6,7,8],[11,10,14,0,1,2,3,4,5,6,7,8,9,12,13]] [11] [6,12] [(.leaf [[],[0],[1,0],[2,1,0],[3,2,1,0],[],[11,4,5,3,2,1,0],[11,6,4,5,3,2,1,0],[11,7,6,4,5,3,2,1,0],[11,7,6,4,5,3,2,1,0],[11,7,6,4,5,3,2,1,0],[],[6,11,4,5,3,2,1,0],[6,11,4,5,3,2,1,0,8,7,12],[6,11,4,5,3,2,1,0,12,9,13,7,8],[6,11,4,5,3,2,1,0,10,14,7,8,9,12,13]] [6,7,8,9,10,12,13,14,15]),(.leaf [[],[0],[1,0],[2,1,0],[3,2,1,0],[],[12,11,4,5,3,2,1,0],[12,11,6,4,5,3,2,1,0],[12,11,7,6,4,5,3,2,1,0],[12,11,7,6,4,5,3,2,1,0],[12,11,7,6,4,5,3,2,1,0],[],[11],[12,11,8,6,0,1,2,3,4,5,7],[12,11,9,13,0,1,2,3,4,5,6,7,8],[12,11,10,14,0,1,2,3,4,5,6,7,8,9,13]] [12,6,7,8,9,10,13,14,15])]),(.fork [[],[0],[1,0],[2,1,0],[3,2,1,0],[],[12,4,5,3,2,1,0],[12,6,4,5,3,2,1,0],[12,7,6,4,5,3,2,1,0],[12,7,6,4,5,3,2,1,0],[12,7,6,4,5,3,2,1,0],[12],[],[12,11,8,6,0,1,2,3,4,5,7],[12,9,13,0,1,2,3,4,5,6,7,8,11],[12,10,14,0,1,2,3,4,5,6,7,8,9,11,13]] [12] [6,11] [(.leaf [[],[0],[1,0],[2,1,0],[3,2,1,0],[],[12,4,5,3,2,1,0],[12,6,4,5,3,2,1,0],[12,7,6,4,5,3,2,1,0],[12,7,6,4,5,3,2,1,0],[12,7,6,4,5,3,2,1,0],[6,12,4,5,3,2,1,0],[],[6,12,4,5,3,2,1,0,11,8,7],[6,12,4,5,3,2,1,0,9,13,7,8,11],[6,12,4,5,3,2,1,0,10,14,7,8,9,11,13]] [6,7,8,9,10,11,13,14,15]),(.leaf [[],[0],[1,0],[2,1,0],[3,2,1,0],[],[11,12,4,5,3,2,1,0],[11,12,6,4,5,3,2,1,0],[11,12,7,6,4,5,3,2,1,0],[11,12,7,6,4,5,3,2,1,0],[11,12,7,6,4,5,3,2,1,0],[12],[],[11,12,8,6,0,1,2,3,4,5,7],[11,12,9,13,0,1,2,3,4,5,6,7,8],[11,12,10,14,0,1,2,3,4,5,6,7,8,9,13]] [11,6,7,8,9,10,13,14,15])])]) (by kernel_rfl) ?_;refine GT.Of (its:=[0,2,4,6,8,10]) (by kernel_rfl) ?_;refine RE.ZF (n:=0) [] [0,2,4,6,8,10] [⟨(.some 38),(.YO (.t 0)),.none⟩,⟨(.some 39),(.nilCheck (.t 38)),.none⟩,⟨(.some 40),(.YJ .true 0 5 (.t 39)),.none⟩,⟨(.some 41),(.YJ .false 0 1 (.t 40)),.none⟩,⟨(.some 42),(.load .false 1 (.t 41)),.none⟩,⟨(.some 43),(.load .true 4 (.t 6)),.none⟩] rfl rfl ?_;apply sG;simp only[go_sem,seval,h0,a6,df];refine⟨?_,?_,?_⟩
 .refine GT.oQ (its:=[12,14,16,18,20]) (by kernel_rfl) ?_;rw[<-bI];refine RE.ay rfl rfl rfl rfl rfl (hpg _) ?_;refine RE.ZF (n:=0) [] [14,16,18,20] [⟨(.some 37),(.YO (.t 44)),.none⟩,⟨(.some 45),(.ext 0 (.t 37)),.none⟩,⟨(.some 46),(.ext 1 (.t 37)),.none⟩,⟨(.some 47),(.ext 2 (.t 37)),.none⟩] rfl rfl ?_;apply sG;simp only[go_sem,seval];refine⟨?_,?_⟩
  .refine GT.gE (its:=[22,24,26,28,30]) (by kernel_rfl) ?_;refine RE.ZF (n:=0) [] [22,24,26,28,30] [⟨(.some 8),(.alloc 37 5 (.agg [(.int .i64 0),(.int .i64 0),.aC,.aC,.aC])),.none⟩,⟨(.some 9),(.alloc 45 4 (.agg [(.int .i64 0),(.int .i64 0),(.bool .false),.aC])),.none⟩,⟨.none,(.store 5 (.t 8) (.t 45)),.none⟩,⟨.none,(.store 4 (.t 9) (.t 46)),.none⟩,⟨(.some 10),(.YO (.t 47)),.none⟩] rfl rfl ?_;apply sG;simp only[go_sem,seval];refine aW λi8 Z8 s8 a8 f8=>?_
   try replace hn:=cz (ao a9 f8).symm
   try replace a9:=s8 _ _ a9
   have z8:=YT.none f8;replace h0:=s8 _ _ h0;replace a6:=s8 _ _ a6;replace YT:=YT.trans s8;simp only[go_sem,seval];refine aW λi9 Z9 s9 a9 f9=>?_
   try replace hn:=cz (ao a8 f9)
   try replace a8:=s9 _ _ a8
   have z9:=YT.none f9;replace h0:=s9 _ _ h0;replace a6:=s9 _ _ a6;replace YT:=YT.trans s9;simp only[go_sem,seval,a8,a9,hn,df,gw,ZD,hps];exact fin _ _ i8 ((YT.ax z8).ax z9) z8 ((hn.2 _ _).trans ag) rfl rfl rfl rfl rfl
  .refine GT.gE (its:=[24,22,26,28,30]) (by kernel_rfl) ?_;refine RE.ZF (n:=0) [] [24,22,26,28,30] [⟨(.some 9),(.alloc 45 4 (.agg [(.int .i64 0),(.int .i64 0),(.bool .false),.aC])),.none⟩,⟨(.some 8),(.alloc 37 5 (.agg [(.int .i64 0),(.int .i64 0),.aC,.aC,.aC])),.none⟩,⟨.none,(.store 5 (.t 8) (.t 45)),.none⟩,⟨.none,(.store 4 (.t 9) (.t 46)),.none⟩,⟨(.some 10),(.YO (.t 47)),.none⟩] rfl rfl ?_;apply sG;simp only[go_sem,seval];refine aW λi9 Z9 s9 a9 f9=>?_
   try replace hn:=cz (ao a8 f9)
   try replace a8:=s9 _ _ a8
   have z9:=YT.none f9;replace h0:=s9 _ _ h0;replace a6:=s9 _ _ a6;replace YT:=YT.trans s9;simp only[go_sem,seval];refine aW λi8 Z8 s8 a8 f8=>?_
   try replace hn:=cz (ao a9 f8).symm
   try replace a9:=s8 _ _ a9
   have z8:=YT.none f8;replace h0:=s8 _ _ h0;replace a6:=s8 _ _ a6;replace YT:=YT.trans s8;simp only[go_sem,seval,a8,a9,hn,df,gw,ZD,hps];exact fin _ _ i8 ((YT.ax z8).ax z9) z8 ((hn.2 _ _).trans ag) rfl rfl rfl rfl rfl
 .refine GT.oQ (its:=[22,9,11]) (by kernel_rfl) ?_;refine RE.ZF (n:=0) [9,11] [22] [⟨(.some 8),(.alloc 37 5 (.agg [(.int .i64 0),(.int .i64 0),.aC,.aC,.aC])),.none⟩] rfl rfl ?_;apply sG;simp only[go_sem,seval];refine aW λi8 Z8 s8 a8 f8=>?_
  try replace hn:=cz (ao a9 f8).symm
  try replace a9:=s8 _ _ a9
  have z8:=YT.none f8;replace h0:=s8 _ _ h0;replace a6:=s8 _ _ a6;replace YT:=YT.trans s8;simp only[go_sem,seval];refine RE.chk rfl rfl rfl rfl rfl trivial (by simp only[go_sem,seval,h0]) ?_;refine RE.chk rfl rfl rfl rfl rfl trivial (by simp only[go_sem,seval,a6,df]) ?_;refine⟨?_,?_⟩
  .refine GT.gE (its:=[12,14,16,18,20,24,26,28,30]) (by kernel_rfl) ?_;rw[<-bI];refine RE.ay rfl rfl rfl rfl rfl (hpg _) ?_;refine RE.ZF (n:=0) [] [14,16,18,20,24,26,28,30] [⟨(.some 37),(.YO (.t 44)),.none⟩,⟨(.some 45),(.ext 0 (.t 37)),.none⟩,⟨(.some 46),(.ext 1 (.t 37)),.none⟩,⟨(.some 47),(.ext 2 (.t 37)),.none⟩,⟨(.some 9),(.alloc 45 4 (.agg [(.int .i64 0),(.int .i64 0),(.bool .false),.aC])),.none⟩,⟨.none,(.store 5 (.t 8) (.t 45)),.none⟩,⟨.none,(.store 4 (.t 9) (.t 46)),.none⟩,⟨(.some 10),(.YO (.t 47)),.none⟩] rfl rfl ?_;apply sG;simp only[go_sem,seval];refine aW λi9 Z9 s9 a9 f9=>?_
   try replace hn:=cz (ao a8 f9)
   try replace a8:=s9 _ _ a8
   have z9:=YT.none f9;replace h0:=s9 _ _ h0;replace a6:=s9 _ _ a6;replace YT:=YT.trans s9;simp only[go_sem,seval,a8,a9,hn,df,gw,ZD,hps];exact fin _ _ i8 ((YT.ax z8).ax z9) z8 ((hn.2 _ _).trans ag) rfl rfl rfl rfl rfl
  .refine GT.gE (its:=[24,9,11,12,14,16,18,20,26,28,30]) (by kernel_rfl) ?_;refine RE.ZF (n:=0) [9,11,12,14,16,18,20,26,28,30] [24] [⟨(.some 9),(.alloc 45 4 (.agg [(.int .i64 0),(.int .i64 0),(.bool .false),.aC])),.none⟩] rfl rfl ?_;apply sG;simp only[go_sem,seval];refine aW λi9 Z9 s9 a9 f9=>?_
   try replace hn:=cz (ao a8 f9)
   try replace a8:=s9 _ _ a8
   have z9:=YT.none f9;replace h0:=s9 _ _ h0;replace a6:=s9 _ _ a6;replace YT:=YT.trans s9;simp only[go_sem,seval];refine RE.chk rfl rfl rfl rfl rfl trivial (by simp only[go_sem,seval,h0]) ?_;refine RE.chk rfl rfl rfl rfl rfl trivial (by simp only[go_sem,seval,a6,df]) ?_;rw[<-bI];refine RE.ay rfl rfl rfl rfl rfl (hpg _) ?_;refine RE.ZF (n:=0) [] [14,16,18,20,26,28,30] [⟨(.some 37),(.YO (.t 44)),.none⟩,⟨(.some 45),(.ext 0 (.t 37)),.none⟩,⟨(.some 46),(.ext 1 (.t 37)),.none⟩,⟨(.some 47),(.ext 2 (.t 37)),.none⟩,⟨.none,(.store 5 (.t 8) (.t 45)),.none⟩,⟨.none,(.store 4 (.t 9) (.t 46)),.none⟩,⟨(.some 10),(.YO (.t 47)),.none⟩] rfl rfl ?_;apply sG;simp only[go_sem,seval,a8,a9,hn,df,gw,ZD,hps];exact fin _ _ i8 ((YT.ax z8).ax z9) z8 ((hn.2 _ _).trans ag) rfl rfl rfl rfl rfl
 .refine GT.oQ (its:=[24,9,11]) (by kernel_rfl) ?_;refine RE.ZF (n:=0) [9,11] [24] [⟨(.some 9),(.alloc 45 4 (.agg [(.int .i64 0),(.int .i64 0),(.bool .false),.aC])),.none⟩] rfl rfl ?_;apply sG;simp only[go_sem,seval];refine aW λi9 Z9 s9 a9 f9=>?_
  try replace hn:=cz (ao a8 f9)
  try replace a8:=s9 _ _ a8
  have z9:=YT.none f9;replace h0:=s9 _ _ h0;replace a6:=s9 _ _ a6;replace YT:=YT.trans s9;simp only[go_sem,seval];refine RE.chk rfl rfl rfl rfl rfl trivial (by simp only[go_sem,seval,h0]) ?_;refine RE.chk rfl rfl rfl rfl rfl trivial (by simp only[go_sem,seval,a6,df]) ?_;refine⟨?_,?_⟩
  .refine GT.gE (its:=[12,14,16,18,20,22,26,28,30]) (by kernel_rfl) ?_;rw[<-bI];refine RE.ay rfl rfl rfl rfl rfl (hpg _) ?_;refine RE.ZF (n:=0) [] [14,16,18,20,22,26,28,30] [⟨(.some 37),(.YO (.t 44)),.none⟩,⟨(.some 45),(.ext 0 (.t 37)),.none⟩,⟨(.some 46),(.ext 1 (.t 37)),.none⟩,⟨(.some 47),(.ext 2 (.t 37)),.none⟩,⟨(.some 8),(.alloc 37 5 (.agg [(.int .i64 0),(.int .i64 0),.aC,.aC,.aC])),.none⟩,⟨.none,(.store 5 (.t 8) (.t 45)),.none⟩,⟨.none,(.store 4 (.t 9) (.t 46)),.none⟩,⟨(.some 10),(.YO (.t 47)),.none⟩] rfl rfl ?_;apply sG;simp only[go_sem,seval];refine aW λi8 Z8 s8 a8 f8=>?_
   try replace hn:=cz (ao a9 f8).symm
   try replace a9:=s8 _ _ a9
   have z8:=YT.none f8;replace h0:=s8 _ _ h0;replace a6:=s8 _ _ a6;replace YT:=YT.trans s8;simp only[go_sem,seval,a8,a9,hn,df,gw,ZD,hps];exact fin _ _ i8 ((YT.ax z8).ax z9) z8 ((hn.2 _ _).trans ag) rfl rfl rfl rfl rfl
  .refine GT.gE (its:=[22,9,11,12,14,16,18,20,26,28,30]) (by kernel_rfl) ?_;refine RE.ZF (n:=0) [9,11,12,14,16,18,20,26,28,30] [22] [⟨(.some 8),(.alloc 37 5 (.agg [(.int .i64 0),(.int .i64 0),.aC,.aC,.aC])),.none⟩] rfl rfl ?_;apply sG;simp only[go_sem,seval];refine aW λi8 Z8 s8 a8 f8=>?_
   try replace hn:=cz (ao a9 f8).symm
   try replace a9:=s8 _ _ a9
   have z8:=YT.none f8;replace h0:=s8 _ _ h0;replace a6:=s8 _ _ a6;replace YT:=YT.trans s8;simp only[go_sem,seval];refine RE.chk rfl rfl rfl rfl rfl trivial (by simp only[go_sem,seval,h0]) ?_;refine RE.chk rfl rfl rfl rfl rfl trivial (by simp only[go_sem,seval,a6,df]) ?_;rw[<-bI];refine RE.ay rfl rfl rfl rfl rfl (hpg _) ?_;refine RE.ZF (n:=0) [] [14,16,18,20,26,28,30] [⟨(.some 37),(.YO (.t 44)),.none⟩,⟨(.some 45),(.ext 0 (.t 37)),.none⟩,⟨(.some 46),(.ext 1 (.t 37)),.none⟩,⟨(.some 47),(.ext 2 (.t 37)),.none⟩,⟨.none,(.store 5 (.t 8) (.t 45)),.none⟩,⟨.none,(.store 4 (.t 9) (.t 46)),.none⟩,⟨(.some 10),(.YO (.t 47)),.none⟩] rfl rfl ?_;apply sG;simp only[go_sem,seval,a8,a9,hn,df,gw,ZD,hps];exact fin _ _ i8 ((YT.ax z8).ax z9) z8 ((hn.2 _ _).trans ag) rfl rfl rfl rfl rfl
open Go.Proofs Go.Proofs.Tryz
def lR(a p:YL):V:=.agg [vI a.no,vI a.kind,aG a.hs,aG a.fs,aG a.ls,vI p.no,vI p.kind,aG p.hs,aG p.fs,aG p.ls]
def cN(a p:YL):(lR a p).cells=[vI a.no,vI a.kind,aG a.hs,aG a.fs,aG a.ls,vI p.no,vI p.kind,aG p.hs,aG p.fs,aG p.ls]:=rfl
def j2(a p:YL):(lR a p).stays=true:=rfl
def eH(f:Zi):(bb f).cells=[vI f.node,vI f.atom,vI f.fr,vI f.x,vI f.y,vI f.w,vI f.h]:=rfl
def lT(f:Zi):(bb f).stays=true:=rfl
def JG(a b:Zi):sM true [0,0,0,0,0,0,0] (bb a) (bb b)=some (.bool (decide (a≠b))):=by
 obtain⟨a1,a2,a3,a4,a5,a6,a7⟩:=a;obtain⟨b1,b2,b3,b4,b5,b6,b7⟩:=b;simp only[sM,bb,jM,gJ,lI,vI,ZR,List.length_nil,true_and,↓reduceIte,ne_eq,Zi.mk.injEq];by_cases h1:a1=b1<;>simp[h1]
def Ax(a b:List Zi)(h:a.length<=1000000000000000):aJ prog 183 [aG a,aG b] (.bool (decide (a=b))):=
 Sc func183 (UZ.b.trans rfl) UZ.c bb JG (λ_ _=>rfl) a b h
def Lx{f:FuncId}(p:Zi->Zi->Bool)(xs ys:List Zi)(hx:xs.length<=1000000000000000)(hf:∀x y,aJ prog f [bb x,bb y] (.bool (p x y))):
 aJ prog 184 [aG xs,aG ys,.fn f []] (.bool (uK p xs ys)):=λU=>by
 refine Xk.r (by simp[NP]) ?_;refine ab.mix 10 ?_;have n1:=jn xs;have n2:=jn ys;have ldR:∀(U:af) (f:Zi),bB U true 7 (.rp (bb f))=some (bb f):=λ_ _=>rfl;by_cases hlen:xs.length=ys.length
 .have q:((xs.length:Int)≠ys.length)=False:=T';apply sR;simp only[go_sem,seval,NP,n1,n2,q];refine ab.loop (λm st=>∃j,j<=xs.length/\m=xs.length-j/\uK p xs ys=uK p (xs.drop j) (ys.drop j)/\st.s 1=aG ys/\st.s 2=.fn f []/\st.s 15=aG xs/\st.s 16=.int .i64 xs.length/\st.s 17=.int .i64 j/\aa U st.U) xs.length ⟨0,by omega,rfl,rfl,rfl,rfl,rfl,rfl,rfl,aa.refl _⟩ ?_;rintro m ⟨S,Z'⟩ ⟨j,hj,rfl,ht,t1,t2,t15,t16,t17,hs⟩;simp only at t1 t2 t15 t16 t17 hs;refine ab.mix 10 ?_;by_cases L':j<xs.length
  .have q1:((j:Int)<xs.length)=True:=Yi;have hlt2:j<ys.length:=by omega
   have i1:=λU=>uX (U:=U) L';have i2:=λU=>uX (U:=U) hlt2;have hee:=hf xs[j] ys[j];rw[ie L',ie hlt2,uK]at ht;have r1:Yr .i64 ((j:Int)+1):=ai;generalize xs[j]=x at*;generalize ys[j]=y at*;apply sR;simp only[go_sem,seval,t15,t16,t17,q1,i1,ldR];refine ad λi8 Z8 s8 a8 f8=>?_;have z8:=hs.none f8;replace hs:=hs.trans s8;simp only[go_sem,seval,a8,t1,i2,ldR,eH,lT];generalize hq8:C' _ i8 _=Y8;replace a8:=(congrFun hq8 i8).symm.trans ag;replace hs:=Eq.subst (motive:=aa _) hq8 (hs.ax z8);clear hq8;refine ad λi9 Z9 s9 a9 f9=>?_;have n89:=ao a8 f9;replace a8:=s9 _ _ a8;have z9:=hs.none f9;replace hs:=hs.trans s9;simp only[go_sem,seval,a9,t2,eH,lT];generalize ZA:C' _ i9 _=Y9;replace a9:=(congrFun ZA i9).symm.trans ag;replace a8:=((congrFun ZA i8).symm.trans (ae n89)).trans a8;replace hs:=Eq.subst (motive:=aa _) ZA (hs.ax z9);clear ZA;simp only[go_sem,seval,a8,a9,eH];refine ab.ay rfl rfl rfl (hee _) ?_;cases hp:p x y
   .apply sR;simp only[go_sem,seval];exact ak.pure hs (by rw[ht,hp];rfl)
   .apply sR;simp only[go_sem,seval,t1,t2,t15,t16,t17,r1];exact⟨_,by omega,j+1,by omega,rfl,by rw[ht,hp];rfl,by simp;exact hs⟩
  .have q1:((j:Int)<xs.length)=False:=T';apply sR;simp only[go_sem,seval,t16,t17,q1];refine ak.pure hs ?_;rw[ht,Aw (by omega),Aw (by omega)];rfl
 .have q:((xs.length:Int)≠ys.length)=True:=Yi;apply sR;simp only[go_sem,seval,NP,n1,n2,q];exact ak.same (by rw[CD hlen])
def xN{α β:Type}[DecidableEq β](g:α->β):∀(l m:List α),uK (λx y=>decide (g x=g y)) l m=decide (l.map g=m.map g)
 |[],[]=>by simp[uK]
 |[],y::m=>by simp[uK]
 |x::l,[]=>by simp[uK]
 |x::l,y::m=>by
  rw[uK,xN g l m];by_cases h:g x=g y
  .simp[h]
  .simp[h]
def MP(x y:Zi):aJ prog 185 [bb x,bb y] (.bool (decide (uR x=uR y))):=λU=>by
 refine Wa.r (by simp[Ru]) ?_;have hs:=aa.refl U;generalize hX:decide (uR x=uR y)=X;unfold uR at hX;simp only[Prod.mk.injEq]at hX;refine ab.mix 5 ?_;apply sR;simp only[go_sem,seval,Ru,eH,lT];refine ad λi2 Z2 s2 a2 f2=>?_;replace hs:=hs.trans s2;simp only[go_sem,seval,eH,lT];refine ad λi3 Z3 s3 a3 f3=>?_;replace a2:=s3 _ _ a2;replace hs:=hs.trans s3;by_cases h1:x.node=y.node
 .have q1:(x.node=y.node)=True:=Yi h1;by_cases h2:x.atom=y.atom
  .have q2:(x.atom=y.atom)=True:=Yi h2;by_cases h3:x.fr=y.fr
   .have q3:(x.fr=y.fr)=True:=Yi h3;by_cases h4:x.h=y.h
    .have q4:(x.h=y.h)=True:=Yi h4;simp only[go_sem,seval,a2,a3,eH,q1,q2,q3,q4];exact ak.pure hs (by rw[<-hX];simp[h1,h2,h3,h4])
    .have q4:(x.h=y.h)=False:=T' h4;simp only[go_sem,seval,a2,a3,eH,q1,q2,q3,q4];exact ak.pure hs (by rw[<-hX];simp[h4])
   .have q3:(x.fr=y.fr)=False:=T' h3;simp only[go_sem,seval,a2,a3,eH,q1,q2,q3];exact ak.pure hs (by rw[<-hX];simp[h3])
  .have q2:(x.atom=y.atom)=False:=T' h2;simp only[go_sem,seval,a2,a3,eH,q1,q2];exact ak.pure hs (by rw[<-hX];simp[h2])
 .have q1:(x.node=y.node)=False:=T' h1;simp only[go_sem,seval,a2,a3,eH,q1];exact ak.pure hs (by rw[<-hX];simp[h1])
def Ns(x y:Zi):aJ prog 186 [bb x,bb y] (.bool (decide (x.node=y.node))):=λU=>by
 refine U2.r (by simp[Ri]) ?_;have hs:=aa.refl U;refine ab.mix 5 ?_;apply sR;simp only[go_sem,seval,Ri,eH,lT];refine ad λi2 Z2 s2 a2 f2=>?_;replace hs:=hs.trans s2;simp only[go_sem,seval,eH,lT];refine ad λi3 Z3 s3 a3 f3=>?_;replace a2:=s3 _ _ a2;replace hs:=hs.trans s3;simp only[go_sem,seval,a2,a3,eH];exact ak.pure hs rfl
open Go.Proofs Go.Proofs.Tryz
def okR(a p:YL):Nat->Bool
 |1=>decide (p.no=a.no)
 |2=>decide (a.kind≠3\/p.kind=3)
 |3=>decide (p.kind=a.kind/\(a.kind≠3\/¬((p.hs.length:Int)+p.fs.length+p.ls.length>0)))
 |4=>decide (p.hs=a.hs)
 |5=>decide (p.fs.map uR=a.fs.map uR)
 |6=>decide (p.fs=a.fs)
 |7=>decide (p.ls.map (·.node)=a.ls.map (·.node))
 |8=>decide (p.ls=a.ls)
 |_=>true
def kL(p:YL):Prop:=p.hs.length<=1000000000000000/\p.fs.length<=1000000000000000/\p.ls.length<=1000000000000000
def Hz(a p:YL):aJ prog 124 [lR a p] (.bool (okR a p 1)):=λU=>by
 refine Ve.r (by simp[PC]) ?_;have hs:=aa.refl U;refine ab.mix 3 ?_;apply sR;simp only[go_sem,seval,PC,cN,j2];refine ad λi1 Z1 s1 a1 f1=>?_;replace hs:=hs.trans s1;simp only[go_sem,seval,a1,cN];exact ak.pure hs rfl
def N6(a p:YL):aJ prog 125 [lR a p] (.bool (okR a p 2)):=λU=>by
 refine WY.r (by simp[RJ]) ?_;have hs:=aa.refl U;generalize hX:okR a p 2=X;simp only[okR]at hX;refine ab.mix 3 ?_;apply sR;simp only[go_sem,seval,RJ,cN,j2];refine ad λi1 Z1 s1 a1 f1=>?_;replace hs:=hs.trans s1;by_cases h1:a.kind=3
 .have q1:(a.kind≠3)=False:=T' λh=>h h1;simp only[go_sem,seval,a1,q1,cN];exact ak.pure hs (by rw[<-hX];simp[h1])
 .have q1:(a.kind≠3)=True:=Yi h1;simp only[go_sem,seval,a1,q1,cN];exact ak.pure hs (by rw[<-hX];simp[h1])
def LR(a p:YL)(hp:kL p):aJ prog 126 [lR a p] (.bool (okR a p 3)):=λU=>by
 refine Xu.r (by simp[PN]) ?_;have hs:=aa.refl U;generalize hX:okR a p 3=X;simp only[okR]at hX;have l1:=jn p.hs;have l2:=jn p.fs;have l3:=jn p.ls;obtain⟨g1,g2,g3⟩:=hp;have r1:Yr .i64 ((p.hs.length:Int)+p.fs.length):=ai;have r2:Yr .i64 ((p.hs.length:Int)+p.fs.length+p.ls.length):=ai;refine ab.mix 4 ?_;apply sR;simp only[go_sem,seval,PN,cN,j2];refine ad λi1 Z1 s1 a1 f1=>?_;replace hs:=hs.trans s1;by_cases h1:p.kind=a.kind
 .have q1:(p.kind=a.kind)=True:=Yi h1;by_cases h2:a.kind=3
  .have q2:(a.kind≠3)=False:=T' λh=>h h2;by_cases h3:(p.hs.length:Int)+p.fs.length+p.ls.length>0
   .have q3:((p.hs.length:Int)+p.fs.length+p.ls.length>0)=True:=Yi h3;simp only[go_sem,seval,a1,q1,q2,q3,l1,l2,l3,r1,r2,cN];exact ak.pure hs (by rw[<-hX,Zz λh=>h.2.elim (λg=>g h2) λg=>g h3])
   .have q3:((p.hs.length:Int)+p.fs.length+p.ls.length>0)=False:=T' h3;simp only[go_sem,seval,a1,q1,q2,q3,l1,l2,l3,r1,r2,cN];exact ak.pure hs (by rw[<-hX,ZN ⟨h1,.inr h3⟩])
  .have q2:(a.kind≠3)=True:=Yi h2;simp only[go_sem,seval,a1,q1,q2,l1,l2,l3,r1,r2,cN];exact ak.pure hs (by rw[<-hX,ZN ⟨h1,.inl h2⟩])
 .have q1:(p.kind=a.kind)=False:=T' h1;simp only[go_sem,seval,a1,q1,l1,l2,l3,r1,r2,cN];exact ak.pure hs (by rw[<-hX,Zz λh=>h1 h.1])
def Jk(a p:YL)(hp:kL p):aJ prog 127 [lR a p] (.bool (okR a p 4)):=λU=>by
 refine Xp.r (by simp[R5]) ?_;have hs:=aa.refl U;have hc:=Ax p.hs a.hs hp.1;refine ab.mix 3 ?_;apply sR;simp only[go_sem,seval,R5,cN,j2];refine ad λi1 Z1 s1 a1 f1=>?_;replace hs:=hs.trans s1;simp only[go_sem,seval,a1,cN];refine ab.ay rfl rfl rfl (hc _) ?_;apply sR;simp only[go_sem,seval];exact ak.pure hs rfl
def OY(a p:YL)(hp:kL p):aJ prog 128 [lR a p] (.bool (okR a p 5)):=λU=>by
 refine XZ.r (by simp[O6]) ?_;have hs:=aa.refl U;have hc:=Lx (λx y=>decide (uR x=uR y)) p.fs a.fs hp.2.1 MP;rw[xN uR]at hc;refine ab.mix 3 ?_;apply sR;simp only[go_sem,seval,O6,cN,j2];refine ad λi1 Z1 s1 a1 f1=>?_;replace hs:=hs.trans s1;simp only[go_sem,seval,a1,cN];refine ab.ay rfl rfl rfl (hc _) ?_;apply sR;simp only[go_sem,seval];exact ak.pure hs rfl
def Je(a p:YL)(hp:kL p):aJ prog 129 [lR a p] (.bool (okR a p 6)):=λU=>by
 refine XF.r (by simp[Tm]) ?_;have hs:=aa.refl U;have hc:=Ax p.fs a.fs hp.2.1;refine ab.mix 3 ?_;apply sR;simp only[go_sem,seval,Tm,cN,j2];refine ad λi1 Z1 s1 a1 f1=>?_;replace hs:=hs.trans s1;simp only[go_sem,seval,a1,cN];refine ab.ay rfl rfl rfl (hc _) ?_;apply sR;simp only[go_sem,seval];exact ak.pure hs rfl
def HW(a p:YL)(hp:kL p):aJ prog 130 [lR a p] (.bool (okR a p 7)):=λU=>by
 refine X3.r (by simp[Qk]) ?_;have hs:=aa.refl U;have hc:=Lx (λx y=>decide (x.node=y.node)) p.ls a.ls hp.2.2 Ns;rw[xN (λx:Zi=>x.node)]at hc;refine ab.mix 3 ?_;apply sR;simp only[go_sem,seval,Qk,cN,j2];refine ad λi1 Z1 s1 a1 f1=>?_;replace hs:=hs.trans s1;simp only[go_sem,seval,a1,cN];refine ab.ay rfl rfl rfl (hc _) ?_;apply sR;simp only[go_sem,seval];exact ak.pure hs rfl
def K1(a p:YL)(hp:kL p):aJ prog 131 [lR a p] (.bool (okR a p 8)):=λU=>by
 refine VI.r (by simp[PV]) ?_;have hs:=aa.refl U;have hc:=Ax p.ls a.ls hp.2.2;refine ab.mix 3 ?_;apply sR;simp only[go_sem,seval,PV,cN,j2];refine ad λi1 Z1 s1 a1 f1=>?_;replace hs:=hs.trans s1;simp only[go_sem,seval,a1,cN];refine ab.ay rfl rfl rfl (hc _) ?_;apply sR;simp only[go_sem,seval];exact ak.pure hs rfl
def ML:List V:=[.YQ,.fn 124 [],.fn 125 [],.fn 126 [],.fn 127 [],.fn 128 [],.fn 129 [],.fn 130 [],.fn 131 []]
def J9:aJ prog 66 [] (.agg ML):=λU=>by
 refine e66.r (by simp[c66]) ?_;have hs:=aa.refl U;refine ab.mix 2 ?_;apply sR;simp only[go_sem,seval,c66];refine ad λi0 Z0 s0 a0 f0=>?_;have z0:=hs.none f0;replace hs:=hs.trans s0;simp only[go_sem,seval,a0];exact ak.pure (hs.ax z0) rfl
def L8(a p:YL)(hp:kL p):∀j,1<=j->j<9->∃f,ML[j]?=some (.fn f [])/\aJ prog f [lR a p] (.bool (okR a p j))
 |0,h,_=>absurd h (by omega)
 |1,_,_=>⟨_,rfl,Hz a p⟩
 |2,_,_=>⟨_,rfl,N6 a p⟩
 |3,_,_=>⟨_,rfl,LR a p hp⟩
 |4,_,_=>⟨_,rfl,Jk a p hp⟩
 |5,_,_=>⟨_,rfl,OY a p hp⟩
 |6,_,_=>⟨_,rfl,Je a p hp⟩
 |7,_,_=>⟨_,rfl,HW a p hp⟩
 |8,_,_=>⟨_,rfl,K1 a p hp⟩
 |n+9,_,h=>absurd h (by omega)
def M8:(true != true)=false:=rfl
def Mz:(false != true)=true:=rfl
def G7(a p:YL){j:Nat}(h1:1<=j)(h9:j<9)(hb:∀i,1<=i->i<j->okR a p i=true)(hj:okR a p j=false):eC a p=j:=by
 have g:∀i,1<=i->i<j->okR a p i=true:=hb;unfold eC
 match j,h1,h9,g,hj with
 |1,_,_,g,hj=>simp only[okR,decide_eq_false_iff_not]at hj;rw[ar hj];rfl
 |2,_,_,g,hj=>
  have g1:=g 1 (by omega) (by omega);simp only[okR,decide_eq_false_iff_not,Zq9]at hj g1;rw[av (λh=>h g1),ar hj];rfl
 |3,_,_,g,hj=>
  have g1:=g 1 (by omega) (by omega);have g2:=g 2 (by omega) (by omega);simp only[okR,decide_eq_false_iff_not,Zq9]at hj g1 g2;rw[av (λh=>h g1),av (λh=>h g2),ar hj];rfl
 |4,_,_,g,hj=>
  have g1:=g 1 (by omega) (by omega);have g2:=g 2 (by omega) (by omega);have g3:=g 3 (by omega) (by omega);simp only[okR,decide_eq_false_iff_not,Zq9]at hj g1 g2 g3;rw[av (λh=>h g1),av (λh=>h g2),av (λh=>h g3),ar hj];rfl
 |5,_,_,g,hj=>
  have g1:=g 1 (by omega) (by omega);have g2:=g 2 (by omega) (by omega);have g3:=g 3 (by omega) (by omega);have g4:=g 4 (by omega) (by omega);simp only[okR,decide_eq_false_iff_not,Zq9]at hj g1 g2 g3 g4;rw[av (λh=>h g1),av (λh=>h g2),av (λh=>h g3),av (λh=>h g4),ar hj];rfl
 |6,_,_,g,hj=>
  have g1:=g 1 (by omega) (by omega);have g2:=g 2 (by omega) (by omega);have g3:=g 3 (by omega) (by omega);have g4:=g 4 (by omega) (by omega);have g5:=g 5 (by omega) (by omega);simp only[okR,decide_eq_false_iff_not,Zq9]at hj g1 g2 g3 g4 g5;rw[av (λh=>h g1),av (λh=>h g2),av (λh=>h g3),av (λh=>h g4),av (λh=>h g5),ar hj];rfl
 |7,_,_,g,hj=>
  have g1:=g 1 (by omega) (by omega);have g2:=g 2 (by omega) (by omega);have g3:=g 3 (by omega) (by omega);have g4:=g 4 (by omega) (by omega);have g5:=g 5 (by omega) (by omega);have g6:=g 6 (by omega) (by omega);simp only[okR,decide_eq_false_iff_not,Zq9]at hj g1 g2 g3 g4 g5 g6;rw[av (λh=>h g1),av (λh=>h g2),av (λh=>h g3),av (λh=>h g4),av (λh=>h g5),av (λh=>h g6),ar hj];rfl
 |8,_,_,g,hj=>
  have g1:=g 1 (by omega) (by omega);have g2:=g 2 (by omega) (by omega);have g3:=g 3 (by omega) (by omega);have g4:=g 4 (by omega) (by omega);have g5:=g 5 (by omega) (by omega);have g6:=g 6 (by omega) (by omega);have g7:=g 7 (by omega) (by omega);simp only[okR,decide_eq_false_iff_not,Zq9]at hj g1 g2 g3 g4 g5 g6 g7;rw[av (λh=>h g1),av (λh=>h g2),av (λh=>h g3),av (λh=>h g4),av (λh=>h g5),av (λh=>h g6),av (λh=>h g7),ar hj];rfl
 |n+9,_,h,_,_=>omega
def HM(a p:YL)(hb:∀i,1<=i->i<9->okR a p i=true):eC a p=0:=by
 have g1:=hb 1 (by omega) (by omega);have g2:=hb 2 (by omega) (by omega);have g3:=hb 3 (by omega) (by omega);have g4:=hb 4 (by omega) (by omega);have g5:=hb 5 (by omega) (by omega);have g6:=hb 6 (by omega) (by omega);have g7:=hb 7 (by omega) (by omega);have g8:=hb 8 (by omega) (by omega);simp only[okR,Zq9]at g1 g2 g3 g4 g5 g6 g7 g8;unfold eC;rw[av (λh=>h g1),av (λh=>h g2),av (λh=>h g3),av (λh=>h g4),av (λh=>h g5),av (λh=>h g6),av (λh=>h g7),av (λh=>h g8)]
def Hw(a p:YL)(hp:kL p):aJ prog 29 [lR a p] (vI (eC a p)):=λU=>by
 refine e29.r (by simp[c29]) ?_;have hs:=aa.refl U;refine ab.mix 7 ?_;apply sR;simp only[go_sem,seval,c29,cN,j2];refine ad λi1 Z1 s1 a1 f1=>?_;replace hs:=hs.trans s1;simp only[go_sem,seval];refine ab.ay rfl rfl rfl (J9 _) ?_;apply sR;simp only[go_sem,seval];refine ab.loop (λm st=>∃j:Nat,j<=9/\m=9-j/\(∀i,1<=i->i<j->okR a p i=true)/\aa U st.U/\st.U i1=some ⟨91,10,[lR a p]⟩/\st.s 1=.ptr i1 0 0/\st.s 5=.agg ML/\st.s 6=vI j) 9 ?_ ?_
 .exact⟨0,by omega,rfl,λi h1 h2=>by omega,hs,a1,rfl,rfl,rfl⟩
 .clear hs a1;rintro m ⟨S,C⟩ ⟨j,hj,rfl,hb,hs,a1,t1,t5,t6⟩;simp only at hs a1 t1 t5 t6;refine ab.mix 7 ?_;have r1:Yr .i64 ((j:Int)+1):=ai;by_cases L':j<9
  .have q1:((j:Int)<9)=True:=Yi;have b0:((0:Int)<=j)=True:=Yi;have nfc:(V.YQ).cells=[.YQ]:=rfl;have nfs:(V.YQ).stays=true:=rfl;by_cases h0:j=0
   .have ig:ML[j]?=some .YQ:=by rw[h0];rfl
    (refine ab.bn Orc.nothing 19 ?_;simp only[go_sem,seval,jK,t5,t6,q1,b0,e8,Nat.mul_one,ig])
    refine ab.NF rfl rfl (b:=true) (.inl ⟨rfl,rfl⟩) ?_;apply sR;simp only[go_sem,seval,M8,t1,t5,t6,r1];exact⟨_,by omega,j+1,by omega,rfl,λi h1 h2=>by omega,hs,a1,by simp⟩
   .obtain⟨f,ig,hc⟩:=L8 a p hp j (by omega) L'
    (refine ab.bn Orc.nothing 19 ?_;simp only[go_sem,seval,jK,t5,t6,q1,b0,e8,Nat.mul_one,ig])
    refine ab.NF rfl rfl (b:=false) (.inr ⟨_,_,rfl,rfl⟩) ?_;apply sR;simp only[go_sem,seval,Mz,t1,a1,cN];refine ab.ay rfl rfl rfl (hc _) ?_;cases hk:okR a p j
    .apply sR;simp only[go_sem,seval];exact ak.pure hs (by rw[G7 a p (by omega) L' hb hk])
    .apply sR;simp only[go_sem,seval,t1,t5,t6,r1];exact⟨_,by omega,j+1,by omega,rfl,λi h1 h2=>(Nat.lt_or_eq_of_le (Nat.le_of_lt_succ h2)).elim (hb i h1) λe=>by rw[e];exact hk,hs,a1,by simp⟩
  .have q1:((j:Int)<9)=False:=T';apply sR;simp only[go_sem,seval,t6,q1];exact ak.pure hs (by rw[HM a p λi h1 h2=>hb i h1 (by omega)])
open Go.Proofs Go.Proofs.Tryz
def qu{b:Bk}{s:Zm}{to kept shift body:Int}:(dS b.atoms b.Ye s to kept shift body).1.length<=b.Ye.length:=by
 unfold dS;split
 .have h1:=pf (uL b.atoms s kept) shift body (ez b.Ye s to);have h2:(ez b.Ye s to).length<=b.Ye.length:=pd _ _ _;omega
 .simp
def GM{b:Bk}(hb:fa b){s:Sta}(he:¬eK b s):(aO b s).1.hs.length<=1000000/\(aO b s).1.fs.length<=1000000/\(aO b s).1.ls.length<=2000000:=by
 have ZK:kX b s:=Decidable.byContradiction λh=>he (.inl h);have hat:0<=s.s.atom:=by rcases ZK.2 with h|h;exact h.1.1;omega
 have hg:=iY hb he;have hpl:=H7 hb.toBkOk ZK;have hfl:=hb.flen;have hal:=hb.len;have hro:=vm hb.toBkFull s.s;have hr1:=gT hb.toBkFull s.s hat;have hpf:∀f∈s.bJ,0<=f.h:=λf hf=>hb.fh f (pC _ _ ZK.1 f hf);have htl:=(u7 (body:=(bw b s.s).body) s.bJ 0 (Int.le_refl _) (by omega) hpf).1;refine⟨?_,?_,?_⟩
 .have h1:((hdK b.nodes b.w (bw b s.s).YH).1).length<=1000000:=by rw[Gv];exact hro.len
  unfold aO;split
  .exact h1
  .split
   .exact h1
   .show(dO b (cd b s)).hs.length<=_;rw[(jv b (cd b s)).1];exact h1
 .rcases hg.kd with k|k
  .obtain⟨hm,h1,-,hc⟩:=hg.cut k;cases hc with
   |more q1 q2 q3 q4 q5=>omega
   |whole c r y q1 q2 q3 q4 q5 q6 q7 q8 q9=>omega
  .rw[hg.no' k];simp
 .have h0:(cd b s).ls.length<=1000000:=by
   show([]++(dk (bw b s.s).body s.bJ 0).1.map (mu (bw b s.s).high)).length<=_;rw[kW,de];omega
  unfold aO;split
  .show([]++(b.Ye.takeWhile (kE _)).map (mu _)).length<=_;rw[kW,de];have:=(List.takeWhile_sublist (l:=b.Ye) (kE (bz b s.s .aC).body)).length_le;omega
  .split
   .exact jE h0 (by omega)
   .show(dO b (cd b s)).ls.length<=_;unfold dO;split
    .show((cd b s).ls++((dS b.atoms b.Ye _ _ _ _ _).1).map _).length<=_;rw[iE,de];have:=qu (b:=b) (s:=({ cd b s with kind:=1 }:Wx).s) (to:=((ye b (cd b s)).toNat:Int)) (kept:=dN b (cd b s)) (shift:=({ cd b s with kind:=1 }:Wx).shift) (body:=({ cd b s with kind:=1 }:Wx).body);exact jE (Nat.add_le_add h0 (jE qu hfl)) (by omega)
    .show((cd b s).ls++((dS b.atoms b.Ye _ _ _ _ _).1).map _).length<=_;rw[iE,de];exact jE (Nat.add_le_add h0 (jE qu hfl)) (by omega)
def mG(b:Bk):(cb b).length<=10000000000:=by
 unfold cb;split
 .simp
 .have h1:(uP (shK b 1000000001 ⟨⟨0,0,true⟩,[]⟩ 0)).length=(shK b 1000000001 ⟨⟨0,0,true⟩,[]⟩ 0).length:=by unfold uP;simp
  have:=vd b 1000000001 ⟨⟨0,0,true⟩,[]⟩ 0;omega
def HO{b:Bk}(hb:fa b){t:ZP}{no:Int}{p:YL}(h:dD b t no=some p):p.hs.length<=1000000/\p.fs.length<=1000000/\p.ls.length<=2000000:=by
 unfold dD at h;split at h
 .split at h
  .simp only[aB]at h;subst h;simp
  .cases h
 .split at h
  .cases h
  .split at h
   .cases h
   .rename_i he;split at h
    .simp only[aB]at h;subst h;simp
    .simp only[aB]at h;subst h;exact GM hb he
def pk{l:List Nd}(hl:dV l){w h:Int}(he:ew l w h=0):∀p∈cb (br l w h),p.hs.length<=1000000/\p.fs.length<=1000000/\p.ls.length<=2000000:=λp hp=>by
 obtain⟨i,hi⟩:=Fe hp;have:=(lY hl he i (by have:=(jj.1 hi).1;omega)).1;exact HO (gV hl he) (this.trans hi)
def DF:∀(U:af) (i:Nat) (h:i<([]:List YL).length),bo U 5 .aC (.int .i64 i)=some (.rp (aQ ([]:List YL)[i])):=λ_ i h=>absurd h (by simp)
def EA(x:Int×Int):V:=.agg [vI x.1,vI x.2]
def yT{R r:List YL}{j:Nat}(h:R.take j=r.take j)(hj:j<=R.length)(hj2:j<=r.length):eF R r 0=eF (R.drop j) (r.drop j) j:=by
 have key:∀(j:Nat) (R r:List YL) (i:Nat),R.take j=r.take j->j<=R.length->j<=r.length->eF R r i=eF (R.drop j) (r.drop j) (i+j):=by
  intro j
  induction j with
  |zero=>intro R r i _ _ _;rfl
  |succ j ih=>
   intro R r i h h1 h2;cases R with
   |nil=>simp at h1
   |cons a R=>
    cases r with
    |nil=>simp at h2
    |cons p r=>
     simp only[pK,List.cons.injEq]at h;obtain⟨rfl,h⟩:=h;rw[eF,ar rfl,ih R r (i+1) h (by simpa using h1) (by simpa using h2),Lf,Lf,show i+1+j=i+(j+1) by omega]
 have:=key j R r 0 h hj hj2
 rwa [jc]at this
def vw(l:List Nd)(hl:dV l)(w h:Int)(vp:V)(P:List YL)(hlP:cU false vp=some (.int .i64 P.length))(hiP:∀(U:af) (i:Nat) (h:i<P.length),bo U 5 vp (.int .i64 i)=some (.rp (aQ P[i])))
 (hPp:∀p∈P,kL p)(hPl:P.length<=10000000000000):
 aJ prog 10 [aI l,vI w,vI h,vp] (.P' [if ew l w h=0 then EA (eF (cb (br l w h)) P 0)else EA (0,0),vI (ew l w h)]):=λU=>by
 refine e10.r (by simp[c10]) ?_;have hs:=aa.refl U;have hbg:=B2 l hl w h;unfold Dy at hbg;have ZD:∀p:YL,(aQ p).cells=[vI p.no,vI p.kind,aG p.hs,aG p.fs,aG p.ls]:=λ_=>rfl;have hps:∀p:YL,(aQ p).stays=true:=λ_=>rfl;have ldP:∀(U:af) (p:YL),bB U true 5 (.rp (aQ p))=some (aQ p):=λ_ _=>rfl;refine ab.mix 20 ?_;apply sR;simp only[go_sem,seval,c10];refine ad λi8 Z8 s8 a8 f8=>?_;have z8:=hs.none f8;replace hs:=hs.trans s8;simp only[go_sem,seval];refine ab.ay rfl rfl rfl (hbg _) ?_;by_cases he:ew l w h=0
 .have hb:=gV hl he;have hbt:=λi=>lY hl he i;have hrl:=pk hl he;have hrb:=tJ hl he;have hPR:=mG (br l w h);rw[ar he,ar he,he];generalize br l w h=b at*;generalize cb b=R at*;have q0:((0:Int)≠0)=False:=T' (λh=>h rfl);have htb:=qx (P:=R) λp hp=>(hrl p hp).2;apply sR;simp only[go_sem,seval];refine ad λYU Z10 s10 Zf f10=>?_;have n810:=ao a8 f10;replace a8:=s10 _ _ a8;have z10:=hs.none f10;replace hs:=hs.trans s10;simp only[go_sem,seval,Zf,q0,dE,py];generalize hq10:C' _ YU _=Y10;replace Zf:=(congrFun hq10 YU).symm.trans ag;replace a8:=((congrFun hq10 i8).symm.trans (ae n810)).trans a8;replace hs:=Eq.subst (motive:=aa _) hq10 (hs.ax z10);clear hq10;have hsO:=hs;refine ab.call rfl rfl rfl (FJ b .aC [] rfl DF (by simp) (by simp) _) ?_;rintro r Z' ⟨i,im,rfl,hJ⟩;have e0:bN .nil ([]:List YL) ([]:List YL).length=bN .nil R 0:=rfl;rw[e0]at hJ;generalize hV:eF R P 0=VV;apply sR;simp only[go_sem,seval,hlP];refine ab.eY (λst=>P.length<=R.length/\R.take P.length=P/\eD b (bN .nil R P.length) Y10 st.U i im/\st.s 3=vp/\st.s 8=.ptr i8 0 0/\st.s 12=.ptr i 0 0)
   (λm st=>∃j:Nat,j<=P.length/\m=P.length-j/\j<=R.length/\R.take j=P.take j/\eD b (bN .nil R j) Y10 st.U i im/\st.s 3=vp/\st.s 8=.ptr i8 0 0/\st.s 12=.ptr i 0 0/\st.s 33=vp/\st.s 34=vI P.length/\st.s 35=vI j) P.length ?_ ?_ ?_
  .exact⟨0,by omega,rfl,by omega,rfl,hJ,rfl,rfl,rfl,rfl,rfl,rfl⟩
  .rintro m ⟨S,ω⟩ ⟨j,hj,rfl,hjR,Zg,hJ,t3,t8,t12,t33,t34,t35⟩;simp only at hJ t3 t8 t12 t33 t34 t35;refine ab.mix 20 ?_;by_cases L':j<P.length
   .have q1:((j:Int)<P.length)=True:=Yi;have hi:=λU=>hiP U j L';have hpl:=hPp _ (Zw L');have hvs:=yT Zg hjR (by omega);rw[hV,ie L']at hvs;have htP:=Zq0 L';have hbtj:=(hbt j hjR).1;obtain⟨b3,b4,b5⟩:=htb j;have hac:=λ{V':af} (hs:aa ω V')=>wR b hb (bN .nil R j) ((j:Int)+1) (by omega) (hJ.mono hs);have r1:Yr .i64 ((j:Int)+1):=ai;generalize P[j]=p at*;have hs:=aa.refl ω;apply sR;simp only[go_sem,seval,t33,t34,t35,q1,hi,ldP];refine ad λi14 Z14 s14 a14 f14=>?_;have z14:=hs.none f14;replace hs:=hs.trans s14;simp only[go_sem,seval,a14,t12,r1,ZD,hps];generalize hq14:C' _ i14 _=Y14;replace a14:=(congrFun hq14 i14).symm.trans ag;replace hs:=Eq.subst (motive:=aa _) hq14 (hs.ax z14);clear hq14;refine ab.ay rfl rfl rfl (hac hs) ?_;rw[hbtj];have hsub10:=hJ.sub;cases hR:R[j]? with
    |none=>
     have hRl:=Qn.1 hR;rw[Aw hRl,eF]at hvs;apply sR;simp only[go_sem,seval];refine ad λi15 Y15 s15 a15 f15=>?_;have n1415:=ao a14 f15;replace a14:=s15 _ _ a14;have z15:=hs.none f15;replace hs:=hs.trans s15;simp only[go_sem,seval,a15,ZD,hps];generalize hq15:C' _ i15 _=Z15;replace a15:=(congrFun hq15 i15).symm.trans ag;replace a14:=((congrFun hq15 i14).symm.trans (ae n1415)).trans a14;replace hs:=Eq.subst (motive:=aa _) hq15 (hs.ax z15);clear hq15;have b8:=(hsub10.trans hs) _ _ a8;simp only[go_sem,seval,t8,b8,r1,Option.isSome_none];rw[hvs];exact ak.pure ((hsO.trans (hsub10.trans hs)).ax z8) rfl
    |some a=>
     obtain⟨hRl,hRa⟩:=jj.1 hR;have ha:xU b (bN .nil R j) ((j:Int)+1)=a:=yK (hbtj.trans hR);rw[ha];rw[ie hRl,hRa,eF]at hvs;have hjb:=Hw a p hpl;apply sR;simp only[go_sem,seval];refine ad λi15 Y15 s15 a15 f15=>?_;have n1415:=ao a14 f15;replace a14:=s15 _ _ a14;have z15:=hs.none f15;replace hs:=hs.trans s15;simp only[go_sem,seval,a15,ZD,hps];generalize hq15:C' _ i15 _=Z15;replace a15:=(congrFun hq15 i15).symm.trans ag;replace a14:=((congrFun hq15 i14).symm.trans (ae n1415)).trans a14;replace hs:=Eq.subst (motive:=aa _) hq15 (hs.ax z15);clear hq15;simp only[go_sem,seval,a14,ZD];refine ab.ay rfl rfl rfl (hjb _) ?_;have hz:=tv (j:=a) (p:=p) (hrb a (by rw[<-hRa];exact Zw hRl));have hrg:=xd a p;by_cases hap:a=p
     .rw[ar hap]at hvs;have hb0:eC a p=0:=hz.2 hap;have q2:((0:Int)>0)=False:=T';rw[hb0];obtain⟨-,l2,l3⟩:=hrl a (by rw[<-hRa];exact Zw hRl);rw[hap]at l2 l3;apply sR;simp only[go_sem,seval,t12,q2,a14,ZD];refine ab.call rfl rfl rfl (zX b _ p (by omega) (by omega) (λn=>by have:=b5 n;omega) (by omega) (hJ.mono hs)) ?_;rintro r Z'' ⟨rfl,hJ'⟩;have hts:bN .nil R (j+1)=eG (bN .nil R j) p:=by rw[<-hap];exact sJ hR
      rw[<-hts]at hJ';apply sR;simp only[go_sem,seval,t3,t8,t12,t33,t34,t35,r1];exact⟨_,by omega,j+1,by omega,rfl,by omega,by rw[htP,Zq0 hRl,hRa,Zg,hap],hJ',by simp⟩
     .rw[av hap]at hvs;have hb0:eC a p≠0:=λe=>hap (hz.1 e);have q2:(eC a p>0)=True:=Yi;have b8:=(hsub10.trans hs) _ _ a8;apply sR;simp only[go_sem,seval,t8,q2,r1,b8];rw[hvs];exact ak.pure ((hsO.trans (hsub10.trans hs)).ax z8) rfl
   .have q1:((j:Int)<P.length)=False:=T';have hje:j=P.length:=by omega
    subst hje;rw[ic]at Zg;apply sR;simp only[go_sem,seval,t34,t35,t3,t8,t12,q1];exact⟨hjR,Zg,hJ⟩
  .rintro⟨S,ω⟩ ⟨hjR,Zg,hJ,t3,t8,t12⟩;simp only at hJ t3 t8 t12;refine ab.mix 20 ?_;have r1:Yr .i64 ((P.length:Int)+1):=ai;have hvs:=yT (by rw[Zg,ic]) hjR (YY _);rw[hV,ym]at hvs;have hbtj:=(hbt _ hjR).1;have hs:=aa.refl ω;have hsub10:=hJ.sub;apply sR;simp only[go_sem,seval,t3,t12,hlP,r1];refine ab.ay rfl rfl rfl (wR b hb (bN .nil R P.length) ((P.length:Int)+1) (by omega) hJ) ?_;rw[hbtj];cases hR:R[P.length]? with
   |none=>
    have hRl:=Qn.1 hR;rw[Aw hRl,eF]at hvs;apply sR;simp only[go_sem,seval];refine ad λi18 Z18 s18 a18 f18=>?_;have z18:=hs.none f18;replace hs:=hs.trans s18;simp only[go_sem,seval,a18,ZD,hps];generalize hq18:C' _ i18 _=Y18;replace a18:=(congrFun hq18 i18).symm.trans ag;replace hs:=Eq.subst (motive:=aa _) hq18 (hs.ax z18);clear hq18;have b8:=(hsub10.trans hs) _ _ a8;simp only[go_sem,seval,t8,b8,Option.isSome_none];rw[hvs];exact ak.pure ((hsO.trans (hsub10.trans hs)).ax z8) rfl
   |some a=>
    obtain⟨hRl,hRa⟩:=jj.1 hR;rw[ie hRl,eF]at hvs;apply sR;simp only[go_sem,seval];refine ad λi18 Z18 s18 a18 f18=>?_;have z18:=hs.none f18;replace hs:=hs.trans s18;simp only[go_sem,seval,a18,ZD,hps];generalize hq18:C' _ i18 _=Y18;replace a18:=(congrFun hq18 i18).symm.trans ag;replace hs:=Eq.subst (motive:=aa _) hq18 (hs.ax z18);clear hq18;have b8:=(hsub10.trans hs) _ _ a8;simp only[go_sem,seval,t3,t8,b8,hlP,r1];rw[hvs];exact ak.pure ((hsO.trans (hsub10.trans hs)).ax z8) rfl
 .rw[av he,av he];have q:(ew l w h≠0)=True:=Yi he;generalize ew l w h=E at*;have hdz:Et.cells=[.nilp,.aC,.aC,vI 0,.aC]:=rfl;have hds:Et.stays=true:=rfl;apply sR;simp only[go_sem,seval];refine ad λYU Z10 s10 Zf f10=>?_;have n810:=ao a8 f10;replace a8:=s10 _ _ a8;have z10:=hs.none f10;replace hs:=hs.trans s10;simp only[go_sem,seval,Zf,a8,hdz,hds,q,ae n810];exact ak.pure ((hs.ax z10).ax z8) rfl
open Go.Proofs Go.Proofs.Tryz
def eD.less{b:Bk}{t:ZP}{K K' U:af}{i im:Nat}(h:eD b t K' U i im)(hk:aa K K'):eD b t K U i im:=⟨h.row,h.mp,hk.none h.ni,hk.none h.nm,hk.trans h.sub⟩
def eD.neK{b:Bk}{t:ZP}{K U:af}{i im j:Nat}{o:Ob}(h:eD b t K U i im)(hj:K j=some o):j≠i/\j≠im:=by
 constructor
 .intro e;rw[e,h.ni]at hj;cases hj
 .intro e;rw[e,h.nm]at hj;cases hj
def mE(P:List YL):∀(U:af) (i:Nat) (h:i<P.length),bo U 5 (bl P) (.int .i64 i)=some (.rp (aQ P[i])):=λ_ _ h=>oS h
def Ed{P:List YL}{k:Nat}(h:k<=P.length):∀U,eo U 5 (bl P) none (some (.int .i64 k)) none=some (bl (P.take k)):=λU=>by
 have h1:(k:Int)<=P.length:=by omega
 simp only[bl,eo,bS,de];rw[ar ⟨Int.le_refl _,by omega,by omega,by omega,trivial⟩];simp
def Ml{s:Nat->V}{U:af}{a1:Bool}{n1 d e t:Nat}{Post:V->af->Prop}:
 Ret [.tmp (.t t),.cell a1 n1 (.t d),.tmp (.t e)] ⟨s,U⟩ Post=dj (bB U a1 n1 (s d)) λv=>ak (.P' [s t,v,s e]) U Post:=by
 unfold Ret ak nS;simp only[ei,gj,VX.ev];cases bB U a1 n1 (s d)<;>simp[dj]
def Cv(l:List Nd)(hl:dV l)(w h:Int)(he:ew l w h=0)(k:Nat)(hk:k<=(cb (br l w h)).length)(P:List YL)(hkP:k<=P.length)(hP:P.take k=(cb (br l w h)).take k)(U:af):
 au prog 32 [aI l,vI w,vI h,bl P,vI k] U λr Z'=>∃i im,r=.P' [.ptr i 0 0,bI (jH (br l w h) (bN .nil (cb (br l w h)) k)),vI 0]/\eD (br l w h) (bN .nil (cb (br l w h)) k) U Z' i im:=by
 refine e32.r (by simp[c32]) ?_;have hs:=aa.refl U;have hbg:=B2 l hl w h;unfold Dy at hbg;rw[ar he,he]at hbg;have hb:=gV hl he;have hbt:=(lY hl he k hk).2;have hrl:=pk hl he;have hPR:=mG (br l w h);generalize br l w h=b at*;generalize cb b=R at*;have hlR:=jt P;have q0:((0:Int)≠0)=False:=T' (λh=>h rfl);have q1:((k:Int)<0)=False:=T';have q2:((k:Int)>P.length)=False:=T';have hsl:=Ed hkP;rw[hP]at hsl;have ht:bN .nil (R.take k) (R.take k).length=bN .nil R k:=by
  unfold bN;rw[ic]
 have hJt:=λU=>FJ b (bl (R.take k)) (R.take k) (jt _) (mE _) (λp hp=>(hrl p (rq hp)).2) (by rw[ia];omega) U;rw[ht]at hJt;refine ab.mix 19 ?_;apply sR;simp only[go_sem,seval,c32];refine ad λZM Z11 s11 ZT f11=>?_;have z11:=hs.none f11;replace hs:=hs.trans s11;simp only[go_sem,seval];refine ab.ay rfl rfl rfl (hbg _) ?_
 (refine ab.bn Orc.nothing 30 ?_;simp only[go_sem,seval])
 refine ad λi13 Y13 s13 a13 f13=>?_;have n1113:=ao ZT f13;replace ZT:=s13 _ _ ZT;have z13:=hs.none f13;replace hs:=hs.trans s13;simp only[go_sem,seval,a13,dE,py,q0,q1,q2,hlR,jK];generalize hq13:C' _ i13 _=Z13;replace a13:=(congrFun hq13 i13).symm.trans ag;replace ZT:=((congrFun hq13 ZM).symm.trans (ae n1113)).trans ZT;replace hs:=Eq.subst (motive:=aa _) hq13 (hs.ax z13);clear hq13;refine ab.Q2 [4] rfl (XC.go 4 ?_);apply sG;simp only[BB,seval,aX,eN,aE,fb,Orc.nothing,a13,hsl,dE];have hsO:=hs;refine XC.call (by decide) rfl rfl rfl (hJt _) ?_;rintro r Z' ⟨i,im,rfl,hJ⟩;refine XC.go 1 ?_;apply sG;simp only[go_sem,seval,pK,List.take_zero];refine XC.nil ?_;have n11:=(hJ.neK ZT).1;have n11m:=(hJ.neK ZT).2;replace ZT:=hJ.sub _ _ ZT;have Yy:fE b (bN .nil R k)=true:=by
  cases h:stateT b (bN .nil R k)with
  |none=>rw[h]at hbt;cases hbt
  |some s=>exact(ub h).2
 have hcs:=B8 b hb.toBkOk (bN .nil R k) hJ;generalize jH b (bN .nil R k)=sv at*;rw[Yy]at hcs;replace hs:=aa.refl Z';apply sR;simp only[go_sem,seval];refine ab.ay rfl rfl rfl hcs ?_;apply sR;simp only[go_sem,seval];refine ad λi16 Z16 s16 a16 f16=>?_;have n1116:=ao ZT f16;replace ZT:=s16 _ _ ZT;have z16:=hs.none f16;replace hs:=hs.trans s16;simp only[go_sem,seval,a16,df,gw];generalize hq16:C' _ i16 _=Y16;replace a16:=(congrFun hq16 i16).symm.trans ag;replace ZT:=((congrFun hq16 ZM).symm.trans (ae n1116)).trans ZT;replace hs:=Eq.subst (motive:=aa _) hq16 (hs.ax z16);clear hq16;have hJ6:=hJ.mono hs;simp only[go_sem,seval,ZT,Ml];exact⟨_,_,aa.refl _,Wk.refl (aa.refl _) _,i,im,rfl,(hJ6.less hsO).C' n11 n11m ((hsO.trans hJ6.sub).ax z11)⟩
open Go.Proofs Go.Proofs.Tryz
def IX(l:List Nd)(hl:dV l)(w h:Int)(he:ew l w h=0)(k:Nat)(hk:k<=(cb (br l w h)).length):
 aJ prog 15 [aI l,vI w,vI h,bl (cb (br l w h)),vI k] (.P' [bI (jH (br l w h) (bN .nil (cb (br l w h)) k)),vI 0]):=λU=>by
 refine e15.r (by simp[c15]) ?_;have hs:=aa.refl U;have hf:=λU=>Cv l hl w h he k hk _ hk rfl U;generalize jH (br l w h) (bN .nil (cb (br l w h)) k)=sv at*;refine ab.mix 16 ?_;apply sR;simp only[go_sem,seval,c15];refine ad λYU Z10 s10 Zf f10=>?_;have z10:=hs.none f10;replace hs:=hs.trans s10;simp only[go_sem,seval];refine ab.call rfl rfl rfl (hf _) ?_;rintro r Z' ⟨i,im,rfl,hJ⟩;have h10:=hJ.sub _ _ Zf;replace hs:=hs.trans hJ.sub;clear Zf;have Zf:=h10;apply sR;simp only[go_sem,seval];refine ad λi13 Y13 s13 a13 f13=>?_;have n1013:=ao Zf f13;replace Zf:=s13 _ _ Zf;have z13:=hs.none f13;replace hs:=hs.trans s13;simp only[go_sem,seval,a13,df,gw];generalize hq13:C' _ i13 _=Z13;replace a13:=(congrFun hq13 i13).symm.trans ag;replace Zf:=((congrFun hq13 YU).symm.trans (ae n1013)).trans Zf;replace hs:=Eq.subst (motive:=aa _) hq13 (hs.ax z13);clear hq13;simp only[go_sem,seval,Zf];exact ak.pure (hs.ax z10) rfl
def Hc(U:af)(i im:Nat):af:=λj=>if j=i\/j=im then none else U j
def n7{U:af}{i im j:Nat}(h1:j≠i)(h2:j≠im):Hc U i im j=U j:=av λh=>h.elim h1 h2
def eD.off{b:Bk}{t:ZP}{K U:af}{i im:Nat}(h:eD b t K U i im):eD b t (Hc U i im) U i im:=⟨h.row,h.mp,ar (.inl rfl),ar (.inr rfl),λj o hj=>by
 unfold Hc at hj;split at hj
 .cases hj
 .exact hj⟩
def eD.Np{b:Bk}{t:ZP}{K U:af}{i im:Nat}(h:eD b t K U i im):aa K (Hc U i im):=λj o hj=>by
 obtain⟨h1,h2⟩:=h.neK hj;rw[n7 h1 h2];exact h.sub _ _ hj
def eD.gP{b:Bk}{t:ZP}{K K2 ω V':af}{i im:Nat}(h:eD b t K ω i im)(hk:∀j,K2 j≠none->∀o,ω j=some o->V' j=some o)(hi:K2 i≠none)(hm:K2 im≠none)(hs:aa K V'):eD b t K V' i im:=by
 obtain⟨es,ck,env,g1,g2⟩:=h.mp;exact⟨hk _ hi _ h.row,⟨es,ck,env,hk _ hm _ g1,g2⟩,h.ni,h.nm,hs⟩
def HQ(l:List Nd)(hl:dV l)(w h:Int)(he:ew l w h=0)(k:Nat)(hk:k<=(cb (br l w h)).length)(P:List YL)(hkP:k<=P.length)(hP:P.take k=(cb (br l w h)).take k)(U:af):
 au prog 13 [aI l,vI w,vI h,bl P,vI k] U λr Z'=>∃v,r=.P' [v,vI 0]/\aa U Z'/\aL U Z' 37 5 v (((cb (br l w h)).drop k).map aQ):=by
 refine e13.r (by simp[c13]) ?_;have hf:=λU=>Cv l hl w h he k hk P hkP hP U;have hb:=gV hl he;have hbt:=λi=>lY hl he i;have hrl:=pk hl he;have hPR:=mG (br l w h);generalize br l w h=b at*;generalize cb b=R at*;have htb:=qx (P:=R) λp hp=>(hrl p hp).2;have ZD:∀p:YL,(aQ p).cells=[vI p.no,vI p.kind,aG p.hs,aG p.fs,aG p.ls]:=λ_=>rfl;have hps:∀p:YL,(aQ p).stays=true:=λ_=>rfl;generalize jH b (bN .nil R k)=sv at*;have q0:((0:Int)≠0)=False:=T' (λh=>h rfl);have r0:Yr .i64 ((k:Int)+1):=ai;refine ab.mix 19 ?_;apply sR;simp only[go_sem,seval,c13];refine ab.call rfl rfl rfl (hf _) ?_;rintro r Z' ⟨i,im,rfl,hJ⟩;apply sR;simp only[go_sem,seval];replace hs:=aa.refl Z';refine ad λi13 Y13 s13 a13 f13=>?_;have z13:=hs.none f13;replace hs:=hs.trans s13;simp only[go_sem,seval,a13,df,gw,q0,r0];generalize hq13:C' _ i13 _=Z13;replace a13:=(congrFun hq13 i13).symm.trans ag;replace hs:=Eq.subst (motive:=aa _) hq13 (hs.ax z13);clear hq13;have hJ3:=hJ.mono hs;have hK13:=hJ3.sub;have hK2i:Z13 i≠none:=by rw[hJ3.row];simp
 have hK2m:Z13 im≠none:=by obtain⟨es,ck,env,g1,-⟩:=hJ3.mp;rw[g1];simp
 refine ab.loop (λm st=>∃(j:Nat) (v:V),j<=R.length/\k<=j/\m=R.length-j/\eD b (bN .nil R j) U st.U i im/\aL Z13 st.U 37 5 v (((R.take j).drop k).map aQ)/\aa (Hc Z13 i im) st.U/\st.s 12=.ptr i 0 0/\st.s 15=v/\st.s 16=vI ((j:Int)+1)) (R.length-k) ?_ ?_
 .exact⟨k,.aC,hk,YY _,rfl,hJ3,by rw[Aw (by rw[ia];omega)];exact aL.start,hJ3.off.sub,rfl,rfl,rfl⟩
 .rintro m ⟨S,ω⟩ ⟨j,v,hj,hkj,rfl,hJ,ho,G',t12,t15,t16⟩;simp only at hJ ho G' t12 t15 t16;refine ab.mix 19 ?_;have hbtj:=(hbt j hj).1;have r1:Yr .i64 ((j:Int)+1+1):=ai;obtain⟨b3,b4,b5⟩:=htb j;apply sR;simp only[go_sem,seval,t12,t16];refine ab.ay rfl rfl rfl (wR b hb (bN .nil R j) ((j:Int)+1) (by omega) hJ) ?_;rw[hbtj];have hs:=aa.refl ω;cases hR:R[j]? with
  |none=>
   have hRl:=Qn.1 hR;apply sR;simp only[go_sem,seval];refine ad λi17 Y17 s17 a17 f17=>?_;have z17:=hs.none f17;replace hs:=hs.trans s17;simp only[go_sem,seval,a17,t15,ZD,hps,Option.isSome_none];have hjR:R.take j=R:=jW hRl;rw[hjR]at ho;have hfs:=hs.ax (o:=⟨37,5,[aQ (xU b (bN .nil R j) ((j:Int)+1))]⟩) z17;exact⟨_,_,aa.refl _,Wk.refl (aa.refl _) _,v,rfl,hJ.sub.trans hfs,(ho.OB hK13).mono hfs⟩
  |some p=>
   obtain⟨hRl,hRa⟩:=jj.1 hR;have ha:xU b (bN .nil R j) ((j:Int)+1)=p:=yK (hbtj.trans hR);rw[ha];obtain⟨hvc,hvs⟩:=ho.vc;apply sR;simp only[go_sem,seval];refine ad λi17 Y17 s17 a17 f17=>?_;have z17:=hs.none f17;replace hs:=hs.trans s17;simp only[go_sem,seval,a17,t15,ZD,hps];generalize hq17:C' _ i17 _=Z17;replace a17:=(congrFun hq17 i17).symm.trans ag;replace hs:=Eq.subst (motive:=aa _) hq17 (hs.ax z17);clear hq17;refine ad λi91 Z91 s91 a91 f91=>?_;have hlen:((R.take j).drop k).length<=10000000000:=by rw[rW,ia];omega
   obtain⟨Yt,hda,hdA⟩:=ho.O4 (hs.trans s91);have Zu:((((R.take j).drop k).map aQ).length+1)*89<=140737488355328:=by rw[de];omega
   generalize YS:((R.take j).drop k).map aQ=rows at*;simp only[go_sem,seval,hda,dh a91,Zu];refine eL λi92 Z92 s92 a92 f92=>?_;have dne:∀q,Z13 q≠none->Vc.bt Z91 Yt q=Z91 q:=λq hq=>by
    cases Yt with
    |none=>rfl
    |some a=>exact cA λe=>hq (by rw[e];exact(hdA a rfl).1)
   have ZS:∀q,Z13 q≠none->∀o,ω q=some o->Z92 q=some o:=λq hq o h=>s92 _ _ ((dne q hq).trans ((hs.trans s91) _ _ h));have c17:Z92 i17=some ⟨37,5,[aQ p]⟩:=by
    refine s92 _ _ (Eq.trans ?_ (s91 _ _ a17));cases Yt with
    |none=>rfl
    |some a=>exact cA λe=>by obtain⟨o,ho⟩:=(hdA a rfl).2.1;rw[<-e,z17]at ho;cases ho
   have hJ':=hJ.gP ZS hK2i hK2m λq o hq=>ZS q (by rw[hK13 _ _ hq];simp) _ (hJ.sub _ _ hq);have n92:i92≠i:=λe=>by rw[e]at f92;have:=(hs.trans s91) _ _ hJ.row;rw[f92]at this;cases this
   have n92m:i92≠im:=λe=>by
    obtain⟨es,ck,env,g1,-⟩:=hJ.mp;rw[e]at f92;have:=(hs.trans s91) _ _ g1;rw[f92]at this;cases this
   have k92:Z13 i92=none:=by
    have:=((G'.trans hs).trans s91).none f92
    rwa [n7 n92 n92m]at this
   obtain⟨-,l2,l3⟩:=hrl p (by rw[<-hRa];exact Zw hRl);simp only[go_sem,seval,t12,c17,ZD];refine ab.call rfl rfl rfl (zX b _ p (by omega) (by omega) (λn=>by have:=b5 n;omega) (by omega) hJ'.off) ?_;rintro r Z'' ⟨rfl,hJ''⟩;rw[<-sJ hR]at hJ'';have ho2:aL Z13 Z'' 37 5 (.own i92 0 (rows.length+1)) (((R.take (j+1)).drop k).map aQ):=by
    have Zg:(R.take (j+1)).drop k=(R.take j).drop k++[p]:=by
     rw[Zq0 hRl,hRa,E1 (by rw[ia];omega)]
    rw[Zg,gy,YS];refine aL.new (by simp) (hJ''.sub _ _ ?_) k92;rw[n7 n92 n92m];exact a92
   apply sR;simp only[go_sem,seval,t12,t16,r1];exact⟨_,by omega,j+1,.own i92 0 (rows.length+1),by omega,by omega,rfl,hJ''.less hJ'.Np,ho2,λq o hq=>by
    unfold Hc at hq;split at hq
    .cases hq
    .rename_i hn;refine hJ''.sub _ _ ?_;rw[n7 (λe=>hn (.inl e)) (λe=>hn (.inr e))];exact ZS q (by rw[hq];simp) _ (G' _ _ (by rw[n7 (λe=>hn (.inl e)) (λe=>hn (.inr e))];exact hq)),by simp⟩
def E3(l:List Nd)(hl:dV l)(w h:Int)(he:ew l w h=0)(k:Nat)(hk:k<=(cb (br l w h)).length)(P:List YL)(hkP:k<=P.length)(hP:P.take k=(cb (br l w h)).take k):
 aJ prog 13 [aI l,vI w,vI h,bl P,vI k] (.P' [bl ((cb (br l w h)).drop k),vI 0]):=λU=>by
 refine(HQ l hl w h he k hk P hkP hP U).AL λr Z' h=>?_;obtain⟨v,rfl,hs,ho⟩:=h;exact⟨_,U,hs,Fz.wk (N:=λid=>U id=none) (.P' _ _ (.cons _ _ _ _ (ho.Ud (λid h=>h) (FzL.same _ (mA (f:=aQ) tD _))) (.cons _ _ _ _ (.same _ rfl) .nil))) hs (λ_ h=>h),rfl,rfl⟩
inductive Tr(α:Type) where
 |e
 |n (l:Tr α) (v:α) (r:Tr α)
def BJ:Nat->Nat->List Bool
 |0,_=>[]
 |_+1,0=>[]
 |f+1,k+1=>Nat.beq (Nat.mod k 2) 0::BJ f (Nat.div k 2)
def pathOf(k:Nat):List Bool:=BJ (Nat.succ k) k
def Ui{α:Type}(d:α)(f:Nat):List Bool->Tr α->α:=
 @Nat.rec (λ_=>List Bool->Tr α->α) (λ_ _=>d)
  (λ_ ih p t=>@List.casesOn Bool (λ_=>α) p (@Tr.casesOn α (λ_=>α) t d (λ_ v _=>v))
    (λb p'=>@Tr.casesOn α (λ_=>α) t d (λl _ r=>ih p' (@Bool.casesOn (λ_=>Tr α) b r l)))) f
def fj{α:Type}(d:α)(k:Nat)(t:Tr α):α:=Ui d (Nat.succ k) (pathOf k) t
def TW{α:Type}(d v:α)(f:Nat):List Bool->Tr α->Tr α:=
 @Nat.rec (λ_=>List Bool->Tr α->Tr α) (λ_ t=>t)
  (λ_ ih p t=>@List.casesOn Bool (λ_=>Tr α) p (@Tr.casesOn α (λ_=>Tr α) t (.n .e v .e) (λl _ r=>.n l v r))
    (λb p'=>@Tr.casesOn α (λ_=>Tr α) t (@Bool.casesOn (λ_=>Tr α) b (.n .e d (ih p' .e)) (.n (ih p' .e) d .e))
      (λl u r=>@Bool.casesOn (λ_=>Tr α) b (.n l u (ih p' r)) (.n (ih p' l) u r)))) f
def kc{α:Type}(d v:α)(k:Nat)(t:Tr α):Tr α:=TW d v (Nat.succ k) (pathOf k) t
structure CS where
 s:Tr V
 U:Tr (Option Ob)
 YA:Nat
def CS.sf(cs:CS):Nat->V:=λi=>fj (.P' []) i cs.s
def ZQ(U:Tr (Option Ob)):af:=λi=>fj none i U
def VK(cs:CS)(d:Nat)(v:V):CS:=⟨kc (.P' []) v d cs.s,cs.U,cs.YA⟩
def CS.put(cs:CS)(d:Option Nat)(v:V):CS:=@Option.casesOn Nat (λ_=>CS) d cs (λd=>VK cs d v)
def eqQ:Int->Int->Bool
 |.ofNat m,.ofNat n=>Nat.beq m n
 |.negSucc m,.negSucc n=>Nat.beq m n
 |_,_=>false
def leQ:Int->Int->Bool
 |.ofNat m,.ofNat n=>Nat.ble m n
 |.negSucc _,.ofNat _=>true
 |.negSucc m,.negSucc n=>Nat.ble n m
 |.ofNat _,.negSucc _=>false
def Ub:Int->Int->Int
 |.ofNat m,.ofNat n=>.ofNat (Nat.add m n)
 |a,b=>a+b
def SJ:Int->Int->Int
 |.ofNat m,.ofNat n=>@Bool.casesOn (λ_=>Int) (Nat.ble n m) (.negSucc (Nat.sub (Nat.sub n m) 1)) (.ofNat (Nat.sub m n))
 |a,b=>a-b
def R7:Int->Bool
 |.ofNat m=>Nat.ble m 9223372036854775807
 |.negSucc m=>Nat.ble m 9223372036854775807
def O7(k:IntKind)(n:Int):Bool:=match k with
 |.i64=>R7 n
 |k=>decide (k.wrap n=n)
def gI(k:IntKind)(n:Int):Option V:=@Bool.casesOn (λ_=>Option V) (O7 k n) none (some (.int k n))
def eqK(k k':IntKind):Bool:=decide (k=k')
def RY:IntKind->Bool
 |.i64=>true
 |_=>false
structure FI where
 f:IntKind->Int->Int->Option V
def rh(op:BinOp):FI:=
 match op with
 |.add=>⟨λk a b=>gI k (Ub a b)⟩
 |.sub=>⟨λk a b=>gI k (SJ a b)⟩
 |.mul=>⟨λk a b=>gI k (a*b)⟩
 |.quo=>⟨λk a b=>if b=0 then none else gI k (a.tdiv b)⟩
 |.rem=>⟨λk a b=>if b=0 then none else some (.int k (a.tmod b))⟩
 |.eql=>⟨λ_ a b=>some (.bool (eqQ a b))⟩
 |.neq=>⟨λ_ a b=>some (.bool (not (eqQ a b)))⟩
 |.lss=>⟨λ_ a b=>some (.bool (not (leQ b a)))⟩
 |.leq=>⟨λ_ a b=>some (.bool (leQ a b))⟩
 |.gtr=>⟨λ_ a b=>some (.bool (not (leQ a b)))⟩
 |.geq=>⟨λ_ a b=>some (.bool (leQ b a))⟩
 |.and=>⟨λk a b=>dX .and k a b⟩
 |.or=>⟨λk a b=>dX .or k a b⟩
 |.shl=>⟨λk a b=>dX .shl k a b⟩
 |.shr=>⟨λk a b=>dX .shr k a b⟩
 |_=>⟨λ_ _ _=>none⟩
def Aj(op:BinOp)(a b:List UInt8):Option V:=
 match op with
 |.add=>@Bool.casesOn (λ_=>Option V) (Nat.ble (a.length+b.length) 9223372036854775807) none (some (.str (a++b)))
 |.eql=>some (.bool (decide (a=b)))
 |.neq=>some (.bool (decide (a≠b)))
 |_=>none
def J3(k k':IntKind):Bool:=@Bool.casesOn (λ_=>Bool) (RY k) (eqK k k') (RY k')
def Ue(k:IntKind)(a:Int)(g:IntKind->Int->Int->Option V):V->Option V
 |.int k' b=>@Bool.casesOn (λ_=>Option V) (J3 k k') none (g k a b)
 |_=>none
def UO(op:BinOp)(a:List UInt8):V->Option V
 |.str b=>Aj op a b
 |_=>none
def NB(op:BinOp)(g:IntKind->Int->Int->Option V)(y:V):V->Option V
 |.int k a=>Ue k a g y
 |.str a=>UO op a y
 |_=>none
def UL:V->Option V
 |.int k a=>gI k (0-a)
 |_=>none
def Og(k:IntKind):V->Option V
 |.int _ a=>gI k a
 |_=>none
def TU:V->Option V
 |.bool b=>some (.bool (!b))
 |_=>none
def On(a b:V):V->Option V
 |.bool t=>some (@Bool.casesOn (λ_=>V) t b a)
 |_=>none
def Cm:Int->Option Nat
 |.ofNat m=>some m
 |_=>none
def RR(U:Tr (Option Ob))(ZZ:Nat)(x i:V):Option V:=
 match x,i with
 |.own id off len,.int _ j=>match Cm j with
  |some m=>match fj none id U with
   |some ob=>@Bool.casesOn (λ_=>Option V) (Nat.beq ob.sz ZZ&&Nat.blt m len) none (some (.ptr id (Nat.add off m) 0))
   |none=>none
  |none=>none
 |.sl sz rows,.int _ j=>match Cm j with
  |some m=>@Bool.casesOn (λ_=>Option V) (Nat.beq sz ZZ) none (match rows[m]? with
   |some r=>some (.rp r)
   |none=>none)
  |none=>none
 |_,_=>none
def IY(U:Tr (Option Ob))(agg:Bool)(sz:Nat)(x:V):Option V:=
 match x with
 |.ptr id i k=>match fj none id U with
  |some ob=>match ob.rows[i]? with
   |some r=>match agg with
    |true=>@Bool.casesOn (λ_=>Option V) (Nat.beq k 0&&Nat.beq r.cells.length sz)
       (@Bool.casesOn (λ_=>Option V) (Nat.ble (Nat.add k sz) r.cells.length) none (some (.agg ((r.cells.drop k).take sz)))) (some (.agg r.cells))
    |false=>r.cells[k]?
   |none=>none
  |none=>none
 |x=>bB (ZQ U) agg sz x
def Iq:V->V->Option V
 |.str s,.int _ j=>match Cm j with
  |some m=>match s[m]? with
   |some b=>some (.int .u8 (Int.ofNat b.toNat))
   |none=>none
  |none=>none
 |_,_=>none
structure Mk where
 var:Bool
 len:Nat
 gone:Option Nat
 ob:Ob
def TF(e sz:Nat)(x:V):Option Mk:=@Bool.casesOn (λ_=>Option Mk) (Nat.beq x.cells.length sz&&x.stays) none (some ⟨true,0,none,⟨e,sz,[x]⟩⟩)
def Gm(e sz:Nat)(xs:List V):Option Mk:=@Bool.casesOn (λ_=>Option Mk) (xs.all λx=>Nat.beq x.cells.length sz&&x.stays) none (some ⟨false,xs.length,none,⟨e,sz,xs⟩⟩)
def mkQ(e sz bytes:Nat)(z:V):V->Option Mk
 |.int k m=>match k with
  |.i64=>match Cm m with
   |some j=>@Bool.casesOn (λ_=>Option Mk) (Nat.ble (j*(bytes+1)) 140737488355328) none (some ⟨false,j,none,⟨e,sz,List.replicate j z⟩⟩)
   |none=>none
  |_=>none
 |_=>none
def Fv(U:Tr (Option Ob))(e sz bytes:Nat)(a b:V):Option Mk:=match bP (ZQ U) e sz a,bF (ZQ U) sz b with
 |some (base,Yt),some src=>@Bool.casesOn (λ_=>Option Mk) (Nat.ble ((base.length+src.length)*(bytes+1)) 140737488355328) none (some ⟨false,base.length+src.length,Yt,⟨e,sz,base++src⟩⟩)
 |_,_=>none
def Ak(fl:Nat)(dst:Option Nat)(cs:CS)(m:Mk):Option CS:=
 match m.gone with
 |none=>some (CS.put ⟨cs.s,kc none (some m.ob) cs.YA cs.U,Nat.succ cs.YA⟩ dst (@Bool.casesOn (λ_=>V) m.var (.own cs.YA 0 m.len) (.ptr cs.YA 0 0)))
 |some d=>@Bool.casesOn (λ_=>Option CS) (Nat.ble fl d) none
    (some (CS.put ⟨cs.s,kc none (some m.ob) cs.YA (kc none none d cs.U),Nat.succ cs.YA⟩ dst (@Bool.casesOn (λ_=>V) m.var (.own cs.YA 0 m.len) (.ptr cs.YA 0 0))))
inductive Out where
 |nx (cs:CS)
 |ex (id:Nat) (cs:CS)
 |rt (cs:CS)
 |bad
structure Rs where
 v:V
 U:Tr (Option Ob)
 YA:Nat
def gr:=FuncId->List V->Tr (Option Ob)->Nat->Nat->Option Rs
structure BI where
 f:gr->Nat->CS->Option CS
def kN(dst:Option Nat)(g:CS->Option V):BI:=⟨λ_ _ cs=>match g cs with
 |some v=>some (cs.put dst v)
 |none=>none⟩
def Tq(dst:Option Nat)(x:VX):BI:=⟨λ_ _ cs=>some (cs.put dst (x.ev cs.sf))⟩
def Fh(dst:Option Nat)(g:CS->Option Mk):BI:=⟨λ_ fl cs=>match g cs with
 |some m=>Ak fl dst cs m
 |none=>none⟩
def ir(dst:Option Nat)(cs:CS):Option Rs->Option CS
 |some r=>some (CS.put ⟨cs.s,r.U,r.YA⟩ dst r.v)
 |none=>none
def N1(dst:Option Nat)(cs:CS):Option Rs->Option CS
 |some r=>@Bool.casesOn (λ_=>Option CS) r.v.cu none (some (cs.put dst r.v))
 |none=>none
def IF(draw:Bool)(dst:Option Nat)(fx:VX)(xs:List VX):BI:=match draw with
 |true=>⟨λcall _ cs=>match fx.ev cs.sf with
  |.fn f caps=>N1 dst cs (call f (xs.map (·.ev cs.sf)++caps) cs.U cs.YA cs.YA)
  |_=>none⟩
 |false=>⟨λcall fl cs=>match fx.ev cs.sf with
  |.fn f caps=>ir dst cs (call f (xs.map (·.ev cs.sf)++caps) cs.U cs.YA fl)
  |_=>none⟩
def Fx(dst:Option Nat)(fl sz:Nat)(xv:V)(cs:CS):V->Option CS
 |.ptr id i0 c=>@Bool.casesOn (λ_=>Option CS) (Nat.ble fl id) none (match fj none id cs.U with
  |some ob=>match ob.rows[i0]? with
   |some r=>match fC r c sz xv with
    |some r'=>some (CS.put ⟨cs.s,kc none (some ⟨ob.elem,ob.sz,ob.rows.set i0 r'⟩) id cs.U,cs.YA⟩ dst (.P' []))
    |none=>none
   |none=>none
  |none=>none)
 |_=>none
def Fc(dst:Option Nat)(sz:Nat)(xa xv:VX):BI:=⟨λ_ fl cs=>Fx dst fl sz (xv.ev cs.sf) cs (xa.ev cs.sf)⟩
def FY(dst:Option Nat)(fl sz:Nat)(z:V)(cs:CS):V->Option CS
 |.own id off len=>@Bool.casesOn (λ_=>Option CS) (Nat.ble fl id) none (match fj none id cs.U with
  |some ob=>@Bool.casesOn (λ_=>Option CS) (Nat.beq ob.sz sz&&Nat.ble (off+len) ob.rows.length) none
     (some (CS.put ⟨cs.s,kc none (some ⟨ob.elem,ob.sz,ob.rows.take off++List.replicate len z++ob.rows.drop (off+len)⟩) id cs.U,cs.YA⟩ dst (.P' [])))
  |none=>none)
 |_=>none
def DV(draw:Bool)(dst:Option Nat)(sz:Nat)(z:V)(xv:VX):BI:=match draw with
 |true=>⟨λ_ _ _=>none⟩
 |false=>⟨λ_ fl cs=>FY dst fl sz z cs (xv.ev cs.sf)⟩
def ju(draw:Bool)(dst:Option Nat)(op:Yw):BI:=match op with
 |.YO x=>Tq dst x
 |.pick c a b=>kN dst λcs=>On (a.ev cs.sf) (b.ev cs.sf) (c.ev cs.sf)
 |.bin op x y=>@FI.casesOn (λ_=>BI) (rh op) λg=>kN dst λcs=>NB op g (y.ev cs.sf) (x.ev cs.sf)
 |.not x=>kN dst λcs=>TU (x.ev cs.sf)
 |.neg x=>kN dst λcs=>UL (x.ev cs.sf)
 |.convI k x=>kN dst λcs=>Og k (x.ev cs.sf)
 |.idxA ZZ x i=>kN dst λcs=>RR cs.U ZZ (x.ev cs.sf) (i.ev cs.sf)
 |.idxS x i=>kN dst λcs=>Iq (x.ev cs.sf) (i.ev cs.sf)
 |.load agg sz x=>kN dst λcs=>IY cs.U agg sz (x.ev cs.sf)
 |.box e sz x=>Fh dst λcs=>TF e sz (x.ev cs.sf)
 |.alloc e sz z=>Fh dst λ_=>some ⟨true,0,none,⟨e,sz,[z]⟩⟩
 |.eU e sz xs=>Fh dst λcs=>Gm e sz (xs.map (·.ev cs.sf))
 |.mk e sz bytes z x=>Fh dst λcs=>mkQ e sz bytes z (x.ev cs.sf)
 |.append e sz bytes a b=>Fh dst λcs=>Fv cs.U e sz bytes (a.ev cs.sf) (b.ev cs.sf)
 |.call f xs=>IF draw dst f xs
 |.store sz a x=>Fc dst sz a x
 |.clear sz z x=>DV draw dst sz z x
 |op=>kN dst λcs=>aE (ZQ cs.U) cs.sf op
def te(dst:Option Nat)(b:Bool)(B:BI)(call:gr)(fl:Nat)(cs:CS):V->Option CS
 |.bool c=>@Bool.casesOn (λ_=>Option CS) (Bool.xor c b) (B.f call fl cs) (some (cs.put dst (.P' [])))
 |.P' []=>some (cs.put dst (.P' []))
 |.int _ _=>some (cs.put dst (.P' []))
 |_=>none
def wo(draw:Bool)(i:az):BI:=match i.g with
 |none=>ju draw i.dst i.op
 |some (x,b)=>⟨λcall fl cs=>te i.dst b (ju draw i.dst i.op) call fl cs (x.ev cs.sf)⟩
def Tr.ofL:List V->Nat->Tr V->Tr V
 |[],_,t=>t
 |v::l,k,t=>Tr.ofL l (Nat.succ k) (kc (.P' []) v k t)
def DL(res:List VR)(cs:CS):Option Rs:=match nS ⟨cs.sf,ZQ cs.U⟩ res with
 |some v=>some ⟨v,cs.U,cs.YA⟩
 |none=>none
def Nu(res:List VR):Out->Option Rs
 |.nx cs=>DL res cs
 |.rt cs=>DL res cs
 |_=>none
def yc(o:Out)(k:CS->Out):Out:=@Out.casesOn (λ_=>Out) o k (λid cs=>.ex id cs) (λcs=>.rt cs) .bad
def Qh(id:Nat)(o:Out):Out:=@Out.casesOn (λ_=>Out) o (λcs=>.nx cs) (λj cs=>@Bool.casesOn (λ_=>Out) (Nat.beq j id) (.ex j cs) (.nx cs)) (λcs=>.rt cs) .bad
def onB(v:V)(a b:Out):Out:=match v with
 |.bool c=>@Bool.casesOn (λ_=>Out) c b a
 |_=>.bad
def gL{α:Type}(d:α):List Bool->Tr α->α
 |_,.e=>d
 |[],.n _ v _=>v
 |b::p,.n l _ r=>gL d p (if b then l else r)
def sL{α:Type}(d v:α):List Bool->Tr α->Tr α
 |[],.e=>.n .e v .e
 |[],.n l _ r=>.n l v r
 |b::p,.e=>if b then .n (sL d v p .e) d .e else .n .e d (sL d v p .e)
 |b::p,.n l u r=>if b then .n (sL d v p l) u r else .n l u (sL d v p r)
def ph{α:Type}(d:α):∀(f:Nat) (p:List Bool) (t:Tr α),p.length<f->Ui d f p t=gL d p t
 |0,_,_,h=>by omega
 |f+1,[],t,_=>by cases t<;>rfl
 |f+1,b::p,t,h=>by
  cases t with
  |e=>rfl
  |n l u r=>
   have ih:=ph d f p (if b then l else r) (by simpa using h);cases b<;>exact ih
def Ar{α:Type}(d v:α):∀(f:Nat) (p:List Bool) (t:Tr α),p.length<f->TW d v f p t=sL d v p t
 |0,_,_,h=>by omega
 |f+1,[],t,_=>by cases t<;>rfl
 |f+1,b::p,t,h=>by
  have h':p.length<f:=by simpa using h
  cases t with
  |e=>cases b<;>simp only[sL,eT,if_false,if_true]<;>rw[<-Ar d v f p _ h']<;>rfl
  |n l u r=>cases b<;>simp only[sL,eT,if_false,if_true]<;>rw[<-Ar d v f p _ h']<;>rfl
def NO{α:Type}(d:α)(p:List Bool):gL d p .e=d:=by cases p<;>rfl
def GH{α:Type}(d v:α):∀(p q:List Bool) (t:Tr α),gL d q (sL d v p t)=if q=p then v else gL d q t
 |[],[],t=>by cases t<;>simp[sL,gL]
 |[],b::q,t=>by cases t<;>simp[sL,gL,NO]
 |a::p,[],t=>by cases t<;>cases a<;>simp[sL,gL]
 |a::p,b::q,t=>by
  cases t with
  |e=>
   have ih:=GH d v p q .e;cases a<;>cases b<;>simp[sL,gL,NO,ih]
  |n l u r=>
   have ihl:=GH d v p q l;have ihr:=GH d v p q r;cases a<;>cases b<;>simp[sL,gL,ihl,ihr]
def zM:List Bool->Nat
 |[]=>0
 |b::p=>2*zM p+(if b then 1 else 2)
def o7:∀(f k:Nat),k<f->zM (BJ f k)=k
 |0,_,h=>by omega
 |f+1,0,_=>rfl
 |f+1,k+1,h=>by
  have ih:=o7 f (k/2) (by omega);have ih':zM (BJ f (k.div 2))=k/2:=ih;simp only[BJ,zM,ih'];have h1:Nat.mod k 2=k%2:=rfl;by_cases hk:k%2=0
  .have:Nat.beq (Nat.mod k 2) 0=true:=by rw[h1,hk];rfl
   simp only[this,if_true];omega
  .have hk1:k%2=1:=by omega
   have:Nat.beq (Nat.mod k 2) 0=false:=by rw[h1,hk1];rfl
   simp only[this,eT,if_false];omega
def Uz:∀p:List Bool,p.length<=zM p
 |[]=>YY _
 |b::p=>by have:=Uz p;simp only[ZR,zM];split<;>omega
def iZ(k:Nat):(pathOf k).length<k.succ:=by
 have h1:=Uz (pathOf k);have h2:zM (pathOf k)=k:=o7 (k+1) k (by omega);omega
def D0{i k:Nat}(h:pathOf i=pathOf k):i=k:=by
 have h1:zM (pathOf i)=i:=o7 (i+1) i (by omega);have h2:zM (pathOf k)=k:=o7 (k+1) k (by omega);rw[<-h1,<-h2,h]
def kr{α:Type}(d v:α)(i k:Nat)(t:Tr α):fj d i (kc d v k t)=if i=k then v else fj d i t:=by
 unfold fj kc;rw[ph _ _ _ _ (iZ i),ph _ _ _ _ (iZ i),Ar _ _ _ _ _ (iZ k),GH];by_cases h:i=k
 .simp[h]
 .rw[av h,av (λe=>h (D0 e))]
def wg{α:Type}(d:α)(i:Nat):fj d i .e=d:=by
 unfold fj;rw[ph _ _ _ _ (iZ i),NO]
def JF(cs:CS)(d:Option Nat)(v:V):(cs.put d v).sf=aN cs.sf d v:=by
 funext i;cases d with
 |none=>rfl
 |some d=>show fj _ i (kc _ v d cs.s)=_;rw[kr];rfl
def JX(cs:CS)(d:Option Nat)(v:V):(cs.put d v).U=cs.U/\(cs.put d v).YA=cs.YA:=by cases d<;>exact⟨rfl,rfl⟩
def vk(U:Tr (Option Ob))(k:Nat)(o:Ob):ZQ (kc none (some o) k U)=C' (ZQ U) k o:=by
 funext i;show fj none i _=_;rw[kr];rfl
def FU(U:Tr (Option Ob))(k:Nat):ZQ (kc none none k U)=del (ZQ U) k:=by
 funext i;show fj none i _=_;rw[kr];rfl
mutual
def aq(R:Nat->Nat->Prop):V->V->Prop
 |.own id off len,u=>∃ZL,u=.own ZL off len/\R id ZL
 |.ptr id i k,u=>∃ZL,u=.ptr ZL i k/\R id ZL
 |.sl sz rows,u=>∃Yc,u=.sl sz Yc/\aD R rows Yc
 |.rp v,u=>∃v',u=.rp v'/\aq R v v'
 |.fn f caps,u=>∃Zl,u=.fn f Zl/\aD R caps Zl
 |.bm f caps,u=>∃Zl,u=.bm f Zl/\aD R caps Zl
 |.iface t v,u=>∃v',u=.iface t v'/\aq R v v'
 |.agg c,u=>∃c',u=.agg c'/\aD R c c'
 |.P' c,u=>∃c',u=.P' c'/\aD R c c'
 |.undef,u=>u=.undef
 |.int k n,u=>u=.int k n
 |.bool b,u=>u=.bool b
 |.str s,u=>u=.str s
 |.aC,u=>u=.aC
 |.nilp,u=>u=.nilp
 |.YQ,u=>u=.YQ
 |.Yz,u=>u=.Yz
 |.raw v,u=>u=.raw v
 |.obj v,u=>u=.obj v
 |.gp v,u=>u=.gp v
 |.yl v,u=>∃ZL,u=.yl ZL/\R v ZL
 |.mp v,u=>u=.mp v
def aD(R:Nat->Nat->Prop):List V->List V->Prop
 |[],l=>l=[]
 |v::vs,l=>∃u us,l=u::us/\aq R v u/\aD R vs us
end
section
variable {R R':Nat->Nat->Prop}
mutual
def aq.mono(h:∀a b,R a b->R' a b):∀(v u:V),aq R v u->aq R' v u
 |.own id off len,u,g=>by simp only[aq]at g|-;obtain⟨i,e,r⟩:=g;exact⟨i,e,h _ _ r⟩
 |.ptr id i k,u,g=>by simp only[aq]at g|-;obtain⟨i,e,r⟩:=g;exact⟨i,e,h _ _ r⟩
 |.sl sz rows,u,g=>by simp only[aq]at g|-;obtain⟨i,e,r⟩:=g;exact⟨i,e,aD.mono h _ _ r⟩
 |.rp v,u,g=>by simp only[aq]at g|-;obtain⟨i,e,r⟩:=g;exact⟨i,e,aq.mono h _ _ r⟩
 |.fn f caps,u,g=>by simp only[aq]at g|-;obtain⟨i,e,r⟩:=g;exact⟨i,e,aD.mono h _ _ r⟩
 |.bm f caps,u,g=>by simp only[aq]at g|-;obtain⟨i,e,r⟩:=g;exact⟨i,e,aD.mono h _ _ r⟩
 |.iface t v,u,g=>by simp only[aq]at g|-;obtain⟨i,e,r⟩:=g;exact⟨i,e,aq.mono h _ _ r⟩
 |.agg c,u,g=>by simp only[aq]at g|-;obtain⟨i,e,r⟩:=g;exact⟨i,e,aD.mono h _ _ r⟩
 |.P' c,u,g=>by simp only[aq]at g|-;obtain⟨i,e,r⟩:=g;exact⟨i,e,aD.mono h _ _ r⟩
 |.undef,u,g=>by simpa[aq]using g
 |.int k n,u,g=>by simpa[aq]using g
 |.bool b,u,g=>by simpa[aq]using g
 |.str s,u,g=>by simpa[aq]using g
 |.aC,u,g=>by simpa[aq]using g
 |.nilp,u,g=>by simpa[aq]using g
 |.YQ,u,g=>by simpa[aq]using g
 |.Yz,u,g=>by simpa[aq]using g
 |.raw v,u,g=>by simpa[aq]using g
 |.obj v,u,g=>by simpa[aq]using g
 |.gp v,u,g=>by simpa[aq]using g
 |.yl v,u,g=>by simp only[aq]at g|-;obtain⟨i,e,r⟩:=g;exact⟨i,e,h _ _ r⟩
 |.mp v,u,g=>by simpa[aq]using g
def aD.mono(h:∀a b,R a b->R' a b):∀(v u:List V),aD R v u->aD R' v u
 |[],u,g=>by simpa[aD]using g
 |v::vs,u,g=>by
  simp only[aD]at g|-;obtain⟨a,as1,e,r,rs⟩:=g;exact⟨a,as1,e,aq.mono h _ _ r,aD.mono h _ _ rs⟩
end
mutual
def cT:∀(v:V),v.cu=true->aq R v v
 |.own ..,g=>by simp[V.cu]at g
 |.ptr ..,g=>by simp[V.cu]at g
 |.sl sz rows,g=>by simp only[V.cu]at g;simp only[aq];exact⟨rows,rfl,eR rows g⟩
 |.rp v,g=>by simp only[V.cu]at g;simp only[aq];exact⟨v,rfl,cT v g⟩
 |.fn f caps,g=>by simp only[V.cu]at g;simp only[aq];exact⟨caps,rfl,eR caps g⟩
 |.bm f caps,g=>by simp only[V.cu]at g;simp only[aq];exact⟨caps,rfl,eR caps g⟩
 |.iface t v,g=>by simp only[V.cu]at g;simp only[aq];exact⟨v,rfl,cT v g⟩
 |.agg c,g=>by simp only[V.cu]at g;simp only[aq];exact⟨c,rfl,eR c g⟩
 |.P' c,g=>by simp only[V.cu]at g;simp only[aq];exact⟨c,rfl,eR c g⟩
 |.undef,_=>by simp[aq]
 |.int k n,_=>by simp[aq]
 |.bool b,_=>by simp[aq]
 |.str s,_=>by simp[aq]
 |.aC,_=>by simp[aq]
 |.nilp,_=>by simp[aq]
 |.YQ,_=>by simp[aq]
 |.Yz,_=>by simp[aq]
 |.raw v,_=>by simp[aq]
 |.obj v,_=>by simp[aq]
 |.gp v,_=>by simp[aq]
 |.yl v,g=>by simp[V.cu]at g
 |.mp v,_=>by simp[aq]
def eR:∀(l:List V),cj l=true->aD R l l
 |[],_=>by simp[aD]
 |v::vs,g=>by
  simp only[cj,Ba]at g;simp only[aD];exact⟨v,vs,rfl,cT v g.1,eR vs g.2⟩
end
mutual
def pq:∀(v u:V),v.cu=true->aq R v u->u=v
 |.own ..,_,g,_=>by simp[V.cu]at g
 |.ptr ..,_,g,_=>by simp[V.cu]at g
 |.sl sz rows,u,g,h=>by simp only[V.cu]at g;simp only[aq]at h;obtain⟨r,rfl,h⟩:=h;rw[jw rows r g h]
 |.rp v,u,g,h=>by simp only[V.cu]at g;simp only[aq]at h;obtain⟨r,rfl,h⟩:=h;rw[pq v r g h]
 |.fn f caps,u,g,h=>by simp only[V.cu]at g;simp only[aq]at h;obtain⟨r,rfl,h⟩:=h;rw[jw caps r g h]
 |.bm f caps,u,g,h=>by simp only[V.cu]at g;simp only[aq]at h;obtain⟨r,rfl,h⟩:=h;rw[jw caps r g h]
 |.iface t v,u,g,h=>by simp only[V.cu]at g;simp only[aq]at h;obtain⟨r,rfl,h⟩:=h;rw[pq v r g h]
 |.agg c,u,g,h=>by simp only[V.cu]at g;simp only[aq]at h;obtain⟨r,rfl,h⟩:=h;rw[jw c r g h]
 |.P' c,u,g,h=>by simp only[V.cu]at g;simp only[aq]at h;obtain⟨r,rfl,h⟩:=h;rw[jw c r g h]
 |.undef,u,_,h=>by simpa[aq]using h
 |.int k n,u,_,h=>by simpa[aq]using h
 |.bool b,u,_,h=>by simpa[aq]using h
 |.str s,u,_,h=>by simpa[aq]using h
 |.aC,u,_,h=>by simpa[aq]using h
 |.nilp,u,_,h=>by simpa[aq]using h
 |.YQ,u,_,h=>by simpa[aq]using h
 |.Yz,u,_,h=>by simpa[aq]using h
 |.raw v,u,_,h=>by simpa[aq]using h
 |.obj v,u,_,h=>by simpa[aq]using h
 |.gp v,u,_,h=>by simpa[aq]using h
 |.yl v,_,g,_=>by simp[V.cu]at g
 |.mp v,u,_,h=>by simpa[aq]using h
def jw:∀(l m:List V),cj l=true->aD R l m->m=l
 |[],m,_,h=>by simpa[aD]using h
 |v::vs,m,g,h=>by
  simp only[cj,Ba]at g;simp only[aD]at h;obtain⟨u,us,rfl,h1,h2⟩:=h;rw[pq v u g.1 h1,jw vs us g.2 h2]
end
def aD.eX{l:List V}:aD R [] l↔l=[]:=by simp[aD]
def aD.bu{v:V}{vs l:List V}:aD R (v::vs) l↔∃u us,l=u::us/\aq R v u/\aD R vs us:=by simp[aD]
def aD.length:∀{l m:List V},aD R l m->m.length=l.length
 |[],_,h=>by rw[aD.eX]at h;simp[h]
 |v::vs,_,h=>by obtain⟨u,us,rfl,_,h2⟩:=aD.bu.1 h;simp[h2.length]
def aD.get:∀{l m:List V},aD R l m->∀{i:Nat} {v:V},l[i]?=some v->∃u,m[i]?=some u/\aq R v u
 |[],_,_,i,v,hv=>by simp at hv
 |v::vs,_,h,i,x,hv=>by
  obtain⟨u,us,rfl,h1,h2⟩:=aD.bu.1 h;cases i with
  |zero=>simp at hv;subst hv;exact⟨u,by simp,h1⟩
  |succ i=>simp at hv;simpa using h2.get hv
def aD.append:∀{l m l' m':List V},aD R l m->aD R l' m'->aD R (l++l') (m++m')
 |[],_,_,_,h,h'=>by rw[aD.eX]at h;subst h;simpa using h'
 |v::vs,_,_,_,h,h'=>by
  obtain⟨u,us,rfl,h1,h2⟩:=aD.bu.1 h;exact aD.bu.2 ⟨u,us++_,by simp,h1,h2.append h'⟩
def aD.take:∀{l m:List V},aD R l m->∀i,aD R (l.take i) (m.take i)
 |[],_,h,i=>by rw[aD.eX]at h;subst h;simp[aD]
 |v::vs,_,h,i=>by
  obtain⟨u,us,rfl,h1,h2⟩:=aD.bu.1 h;cases i with
  |zero=>simp[aD]
  |succ i=>exact aD.bu.2 ⟨u,us.take i,by simp,h1,h2.take i⟩
def aD.drop:∀{l m:List V},aD R l m->∀i,aD R (l.drop i) (m.drop i)
 |[],_,h,i=>by rw[aD.eX]at h;subst h;simp[aD]
 |v::vs,_,h,i=>by
  obtain⟨u,us,rfl,h1,h2⟩:=aD.bu.1 h;cases i with
  |zero=>exact aD.bu.2 ⟨u,us,by simp,h1,h2⟩
  |succ i=>simpa using h2.drop i
def aD.set:∀{l m:List V},aD R l m->∀(i:Nat) {v u:V},aq R v u->aD R (l.set i v) (m.set i u)
 |[],_,h,i,_,_,_=>by rw[aD.eX]at h;subst h;simp[aD]
 |v::vs,_,h,i,x,y,hx=>by
  obtain⟨u,us,rfl,h1,h2⟩:=aD.bu.1 h;cases i with
  |zero=>exact aD.bu.2 ⟨y,us,by simp,hx,h2⟩
  |succ i=>exact aD.bu.2 ⟨u,us.set i y,by simp,h1,h2.set i hx⟩
def aD.replicate{v u:V}(h:aq R v u):∀n,aD R (List.replicate n v) (List.replicate n u)
 |0=>by simp[aD]
 |n+1=>aD.bu.2 ⟨u,List.replicate n u,by simp[List.replicate_succ],h,aD.replicate h n⟩
def aD.one{v u:V}(h:aq R v u):aD R [v] [u]:=aD.bu.2 ⟨u,[],rfl,h,by simp[aD]⟩
def aq.iH{k:IntKind}{n:Int}{u:V}:aq R (.int k n) u↔u=.int k n:=by simp[aq]
def aq.ij{b:Bool}{u:V}:aq R (.bool b) u↔u=.bool b:=by simp[aq]
def aq.vj{b:List UInt8}{u:V}:aq R (.str b) u↔u=.str b:=by simp[aq]
def aq.re{b:List V}{u:V}:aq R (.agg b) u↔∃c,u=.agg c/\aD R b c:=by simp[aq]
def aq.agg{l m:List V}(h:aD R l m):aq R (.agg l) (.agg m):=aq.re.2 ⟨m,rfl,h⟩
def aq.rp{l m:V}(h:aq R l m):aq R (.rp l) (.rp m):=by simp only[aq];exact⟨m,rfl,h⟩
def aq.cells{v u:V}(h:aq R v u):aD R v.cells u.cells:=by
 cases v<;>simp only[aq]at h
 case agg c=>obtain⟨c',rfl,h⟩:=h;simpa[V.cells]using h
 all_goals first
  |(subst h;exact aD.one (by simp[aq]))
  |(obtain⟨c,rfl,h⟩:=h;exact aD.one (by simp only[aq];exact⟨_,rfl,h⟩))
def aq.stays{v u:V}(h:aq R v u):u.stays=v.stays:=by
 cases v<;>simp only[aq]at h<;>first
  |(subst h;rfl)
  |(obtain⟨c,rfl,h⟩:=h;rfl)
end
def Lv(R:Nat->Nat->Prop)(Zc U:af):Prop:=∀c a o,R c a->Zc c=some o->∃Yc,U a=some ⟨o.elem,o.sz,Yc⟩/\aD R o.rows Yc
def Lv.sup{R:Nat->Nat->Prop}{Zc U Z1:af}(h:Lv R Zc U)(hs:aa U Z1):Lv R Zc Z1:=λc a o hc ho=>by
 obtain⟨Yc,h1,h2⟩:=h c a o hc ho;exact⟨Yc,hs _ _ h1,h2⟩
structure fW(K:af)(fl:Nat)(R:Nat->Nat->Prop)(Zc:af)(YA:Nat)(U:af):Prop where
 dom:∀c a,R c a->c<YA
 live:Lv R Zc U
 inj:∀c c' a o o',R c a->R c' a->Zc c=some o->Zc c'=some o'->c=c'
 fn:∀c a a',R c a->R c a'->a=a'
 gP:aa K U
 kfl:∀a o c oc,K a=some o->R c a->Zc c=some oc->c<fl
section
variable {R:Nat->Nat->Prop} {K Zc U:af} {fl YA:Nat}
def fW.write(h:fW K fl R Zc YA U){c a:Nat}{o:Ob}(hc:R c a)(ho:Zc c=some o)(hf:fl<=c){rows Yc:List V}(hr:aD R rows Yc):
 fW K fl R (C' Zc c ⟨o.elem,o.sz,rows⟩) YA (C' U a ⟨o.elem,o.sz,Yc⟩):=by
 have hlive:∀i x,C' Zc c ⟨o.elem,o.sz,rows⟩ i=some x->∃y,Zc i=some y:=λi x hx=>by
  by_cases e:i=c
  .rw[e];exact⟨o,ho⟩
  .rw[ae e]at hx;exact⟨x,hx⟩
 refine⟨h.dom,?_,?_,?_,?_,?_⟩
 .intro c1 a1 o1 h1 h2;by_cases e:c1=c
  .subst e;have:a1=a:=h.fn c1 a1 a h1 hc;subst this;rw[ag]at h2;simp only[aB]at h2;subst h2;exact⟨Yc,ag,hr⟩
  .rw[ae e]at h2;have YF:a1≠a:=λe'=>by subst e';exact e (h.inj c1 c a1 o1 o h1 hc h2 ho)
   rw[ae YF];exact h.live c1 a1 o1 h1 h2
 .intro c1 c2 a1 o1 o2 h1 h2 h3 h4;obtain⟨y,hy⟩:=hlive _ _ h3;obtain⟨z,hz⟩:=hlive _ _ h4;exact h.inj c1 c2 a1 y z h1 h2 hy hz
 .exact h.fn
 .intro i x hx;have YF:i≠a:=λe=>by subst e;have:=h.kfl i x c o hx hc ho;omega
  rw[ae YF];exact h.gP i x hx
 .intro a1 o1 c1 oc h1 h2 h3;obtain⟨y,hy⟩:=hlive _ _ h3;exact h.kfl a1 o1 c1 y h1 h2 hy
def fW.rem(h:fW K fl R Zc YA U){c a:Nat}{o:Ob}(hc:R c a)(ho:Zc c=some o)(hf:fl<=c):
 fW K fl R (del Zc c) YA (del U a):=by
 have hlive:∀i x,del Zc c i=some x->i≠c/\Zc i=some x:=λi x hx=>by
  by_cases e:i=c
  .subst e;simp[Vc.del]at hx
  .rw[cA e]at hx;exact⟨e,hx⟩
 refine⟨h.dom,?_,?_,?_,?_,?_⟩
 .intro c1 a1 o1 h1 h2;obtain⟨e,h2⟩:=hlive _ _ h2;have YF:a1≠a:=λe'=>by subst e';exact e (h.inj c1 c a1 o1 o h1 hc h2 ho)
  rw[cA YF];exact h.live c1 a1 o1 h1 h2
 .intro c1 c2 a1 o1 o2 h1 h2 h3 h4;exact h.inj c1 c2 a1 o1 o2 h1 h2 (hlive _ _ h3).2 (hlive _ _ h4).2
 .exact h.fn
 .intro i x hx;have YF:i≠a:=λe=>by subst e;have:=h.kfl i x c o hx hc ho;omega
  rw[cA YF];exact h.gP i x hx
 .intro a1 o1 c1 oc h1 h2 h3;exact h.kfl a1 o1 c1 oc h1 h2 (hlive _ _ h3).2
def ext(R:Nat->Nat->Prop)(c a:Nat):Nat->Nat->Prop:=λx y=>R x y\/(x=c/\y=a)
def zU(c a:Nat):∀x y,R x y->ext R c a x y:=λ_ _ h=>.inl h
def fW.new(h:fW K fl R Zc YA U){i:Nat}(hi:U i=none){ob:Ob}{Yc:List V}(hr:aD R ob.rows Yc):
 fW K fl (ext R YA i) (C' Zc YA ob) (YA+1) (C' U i ⟨ob.elem,ob.sz,Yc⟩):=by
 have L':∀c a,R c a->c≠YA:=λc a hc=>by have:=h.dom c a hc;omega
 have hold:∀c a o,R c a->C' Zc YA ob c=some o->Zc c=some o/\a≠i:=λc a o hc ho=>by
  rw[ae (L' c a hc)]at ho;refine⟨ho,λe=>?_⟩;subst e;obtain⟨r,hr,_⟩:=h.live c a o hc ho;rw[hi]at hr;cases hr
 refine⟨?_,?_,?_,?_,h.gP.C' hi,?_⟩
 .rintro c a (hc|⟨rfl,rfl⟩)
  .have:=h.dom c a hc;omega
  .omega
 .rintro c a o (hc|⟨rfl,rfl⟩) ho
  .obtain⟨h1,h2⟩:=hold c a o hc ho;obtain⟨r,h3,h4⟩:=h.live c a o hc h1;rw[ae h2];exact⟨r,h3,aD.mono (zU YA i) _ _ h4⟩
  .rw[ag]at ho;simp only[aB]at ho;subst ho;exact⟨Yc,ag,aD.mono (zU _ _) _ _ hr⟩
 .rintro c c' a o o' (hc|⟨rfl,rfl⟩) (hc'|⟨rfl,e⟩) ho ho'
  .exact h.inj c c' a o o' hc hc' (hold _ _ _ hc ho).1 (hold _ _ _ hc' ho').1
  .exact absurd e (hold _ _ _ hc ho).2
  .exact absurd rfl (hold _ _ _ hc' ho').2
  .rfl
 .rintro c a a' (hc|⟨rfl,rfl⟩) (hc'|⟨e,rfl⟩)
  .exact h.fn c a a' hc hc'
  .exact absurd e (L' _ _ hc)
  .exact absurd rfl (L' _ _ hc')
  .rfl
 .rintro a o c oc hk (hc|⟨rfl,rfl⟩) ho
  .exact h.kfl a o c oc hk hc (hold _ _ _ hc ho).1
  .have:=h.gP a o hk;rw[hi]at this;cases this
def okX:VX->Bool
 |.t _=>true
 |.c v=>v.cu
def jV(op:Yw):Bool:=op.xs.all okX&&(match op with
 |.alloc _ _ z=>z.cu
 |.build zero _=>cj zero
 |.clear _ z _=>z.cu
 |.mk _ _ _ z _=>z.cu
 |.more (.tas _ _ z) _=>z.cu
 |_=>true)
def dv(i:az):Bool:=jV i.op&&(match i.g with
 |some (x,_)=>okX x
 |none=>true)
def F3:VR->Bool
 |.tmp x=>okX x
 |.cell _ _ x=>okX x
 |.bad=>true
variable {s s':Nat->V}
def cg(hs:∀i,aq R (s i) (s' i)){x:VX}(hx:okX x=true):aq R (x.ev s) (x.ev s'):=by
 cases x with
 |t n=>exact hs n
 |c v=>exact cT v hx
def ga(hs:∀i,aq R (s i) (s' i)):∀{xs:List VX},xs.all okX=true->aD R (xs.map (·.ev s)) (xs.map (·.ev s'))
 |[],_=>by simp[aD]
 |x::xs,h=>by
  simp only[ja,Ba]at h;exact aD.bu.2 ⟨_,_,rfl,cg hs h.1,ga hs h.2⟩
def Dl{op:BinOp}{k:IntKind}{a b:Int}{v:V}(h:dX op k a b=some v):v.cu=true:=by
 unfold dX at h;split at h<;>first
  |(simp only[aB]at h;subst h;rfl)
  |(split at h<;>first|(simp only[aB]at h;subst h;rfl)|cases h)
  |cases h
def Bp{op:BinOp}{a b:List UInt8}{v:V}(h:qv op a b=some v):v.cu=true:=by
 unfold qv at h;split at h<;>first
  |(simp only[aB]at h;subst h;rfl)
  |cases h
def IZ{op:BinOp}{a b a' b' v:V}(ha:aq R a a')(hb:aq R b b')(h:x7 op a b=some v):a'=a/\b'=b/\v.cu=true:=by
 unfold x7 at h;split at h
 .simp only[aq]at ha hb;split at h
  .exact⟨ha,hb,Dl h⟩
  .cases h
 .simp only[aq]at ha hb;exact⟨ha,hb,Bp h⟩
 .cases h
def Kq{b:Bool}{x x' v:V}(hx:aq R x x')(h:cU b x=some v):∃v',cU b x'=some v'/\aq R v v':=by
 unfold cU at h;split at h<;>simp only[aB,reduceCtorEq]at h<;>simp only[aq]at hx<;>subst h
 .obtain⟨i,rfl,_⟩:=hx;exact⟨_,rfl,by simp[aq]⟩
 .obtain⟨i,rfl,hr⟩:=hx;exact⟨_,rfl,by simp[aq,hr.length]⟩
 .subst hx;exact⟨_,rfl,by simp[aq]⟩
 .subst hx;exact⟨_,rfl,by simp[aq]⟩
def j7{agg:Bool}{off sz:Nat}{vs us:List V}{v:V}(h:aD R vs us)(hv:cP agg off sz vs=some v):∃v',cP agg off sz us=some v'/\aq R v v':=by
 unfold cP at hv|-;cases agg
 .simpa using h.get hv
 .simp only[if_true,aB]at hv|-;subst hv;exact⟨_,rfl,aq.agg ((h.drop off).take sz)⟩
def I0{agg:Bool}{off sz:Nat}{x x' v:V}(hx:aq R x x')(h:H9 agg off sz x=some v):∃v',H9 agg off sz x'=some v'/\aq R v v':=by
 unfold H9 at h;split at h
 .obtain⟨c,rfl,hr⟩:=aq.re.1 hx;exact j7 hr h
 .cases h
def Ik{agg:Bool}{off sz:Nat}{x x' v:V}(hx:aq R x x')(h:mf agg off sz x=some v):∃v',mf agg off sz x'=some v'/\aq R v v':=by
 unfold mf at h;split at h
 .simp only[aq]at hx;obtain⟨i,rfl,hr⟩:=hx;simp only[aB]at h;subst h;exact⟨_,rfl,by simp only[aq];exact⟨i,rfl,hr⟩⟩
 .simp only[aq]at hx;obtain⟨u,rfl,hr⟩:=hx;simp only[Zq8]at h;obtain⟨w,hw,rfl⟩:=h;obtain⟨w',h1,h2⟩:=j7 hr.cells hw;exact⟨.rp w',by simp[mf,h1],aq.rp h2⟩
 .cases h
def G5(hm:Lv R Zc U){ZZ:Nat}{x i x' i' v:V}(hx:aq R x x')(hi:aq R i i')(h:bo Zc ZZ x i=some v):∃v',bo U ZZ x' i'=some v'/\aq R v v':=by
 unfold bo at h;split at h
 .simp only[aq]at hx hi;obtain⟨a,rfl,ha⟩:=hx;subst hi;split at h
  .rename_i ob Zb;obtain⟨Yc,h1,h2⟩:=hm _ _ _ ha Zb;split at h
   .rename_i hc;simp only[aB]at h;subst h;refine⟨_,?_,by simp only[aq];exact⟨a,rfl,ha⟩⟩;simp only[bo,h1];rw[ar hc]
   .cases h
  .cases h
 .simp only[aq]at hx hi;obtain⟨Yc,rfl,hr⟩:=hx;subst hi;split at h
  .rename_i hc;split at h
   .rename_i r hrr;simp only[aB]at h;subst h;obtain⟨u,h1,h2⟩:=hr.get hrr;refine⟨.rp u,?_,aq.rp h2⟩;simp only[bo,h1];rw[ar hc]
   .cases h
  .cases h
 .cases h
def EK{agg:Bool}{n ZZ:Nat}{x i x' i' v:V}(hx:aq R x x')(hi:aq R i i')(h:mI agg n ZZ x i=some v):∃v',mI agg n ZZ x' i'=some v'/\aq R v v':=by
 unfold mI at h;split at h
 .simp only[aq]at hx hi;obtain⟨a,rfl,ha⟩:=hx;subst hi;split at h
  .rename_i hc;simp only[aB]at h;subst h;exact⟨_,by simp only[mI];rw[ar hc],by simp only[aq];exact⟨a,rfl,ha⟩⟩
  .cases h
 .simp only[aq]at hx hi;obtain⟨u,rfl,hr⟩:=hx;subst hi;split at h
  .rename_i hc;simp only[Zq8]at h;obtain⟨w,hw,rfl⟩:=h;obtain⟨w',h1,h2⟩:=j7 hr.cells hw;exact⟨.rp w',by simp only[mI];rw[ar hc,h1];rfl,aq.rp h2⟩
  .cases h
 .cases h
def Hx{agg:Bool}{n ZZ:Nat}{x i x' i' v:V}(hx:aq R x x')(hi:aq R i i')(h:tB agg n ZZ x i=some v):∃v',tB agg n ZZ x' i'=some v'/\aq R v v':=by
 unfold tB at h;split at h
 .obtain⟨c,rfl,hr⟩:=aq.re.1 hx;rw[aq.iH]at hi;subst hi;split at h
  .rename_i hc;obtain⟨w',h1,h2⟩:=j7 hr h;exact⟨w',by simp only[tB];rw[ar hc,h1],h2⟩
  .cases h
 .cases h
def Hg{x i x' i' v:V}(hx:aq R x x')(hi:aq R i i')(h:qO x i=some v):∃v',qO x' i'=some v'/\aq R v v':=by
 have h0:=h;unfold qO at h;split at h
 .rw[aq.vj]at hx;rw[aq.iH]at hi;subst hx hi;refine⟨v,h0,?_⟩;split at h
  .split at h
   .simp only[aB]at h;subst h;simp[aq]
   .cases h
  .cases h
 .cases h
def yS(hm:Lv R Zc U){agg:Bool}{sz:Nat}{x x' v:V}(hx:aq R x x')(h:bB Zc agg sz x=some v):∃v',bB U agg sz x'=some v'/\aq R v v':=by
 unfold bB at h;split at h
 .simp only[aq]at hx;obtain⟨a,rfl,ha⟩:=hx;split at h
  .rename_i ob Zb;obtain⟨Yc,h1,h2⟩:=hm _ _ _ ha Zb;split at h
   .rename_i r hr;obtain⟨r',h3,h4⟩:=h2.get hr;have hl:=h4.cells.length;simp only[bB,h1,h3,hl];cases agg
    .simp only[eT,if_false]at h|-;exact h4.cells.get h
    .simp only[if_true]at h|-;split at h
     .rename_i hc;simp only[aB]at h;subst h;exact⟨_,by rw[ar hc],aq.agg h4.cells⟩
     .split at h
      .rename_i hc hc';rw[av hc,ar hc'];simp only[aB]at h;subst h;exact⟨_,rfl,aq.agg ((h4.cells.drop _).take _)⟩
      .cases h
   .cases h
  .cases h
 .simp only[aq]at hx;obtain⟨u,rfl,hr⟩:=hx;rename_i w;have hl:=hr.cells.length;cases agg
  .simp only[eT,if_false]at h;split at h
   .cases h
   .simp only[aB]at h;subst h;rename_i hna;refine⟨u,?_,hr⟩;cases u<;>simp only[bB,eT,if_false];cases w<;>simp only[aq]at hr<;>simp at hr hna
  .simp only[if_true]at h;split at h
   .rename_i hc;simp only[aB]at h;subst h;refine⟨_,?_,aq.agg hr.cells⟩;simp only[bB,hl,if_true];rw[ar hc]
   .cases h
 .cases h
def EO{d:Int}:∀{o o':Option V},(match o,o' with|none,none=>True|some x,some x'=>aq R x x'|_,_=>False)->∀{j:Int},bS d o=some j->bS d o'=some j
 |none,none,_,j,h=>h
 |some x,some x',hx,j,h=>by
  simp only at hx;cases x<;>simp only[bS]at h<;>first|cases h|skip
  rw[aq.iH]at hx;subst hx;rfl
 |none,some _,hx,_,_=>hx.elim
 |some _,none,hx,_,_=>hx.elim
def EW(hm:Lv R Zc U){ZZ:Nat}{x x' v:V}{lo hi mx lo' hi' mx':Option V}(hx:aq R x x')
 (h1:∀d j,bS d lo=some j->bS d lo'=some j)(h2:∀d j,bS d hi=some j->bS d hi'=some j)(h3:∀d j,bS d mx=some j->bS d mx'=some j)
 (h:eo Zc ZZ x lo hi mx=some v):∃v',eo U ZZ x' lo' hi' mx'=some v'/\aq R v v':=by
 unfold eo at h;split at h
 .simp only[aq]at hx;obtain⟨a,rfl,ha⟩:=hx;split at h
  .rename_i l hh m e1 e2 e3;split at h
   .rename_i hc;simp only[aB]at h;subst h;have hsz:xY U a ZZ=true:=by
     have hz:=hc.2.2.2.2;unfold xY at hz|-;split at hz
     .rename_i ob Zb;obtain⟨Yc,g1,g2⟩:=hm _ _ _ ha Zb;rw[g1];exact hz
     .cases hz
    refine⟨_,?_,by simp only[aq];exact⟨a,rfl,ha⟩⟩;simp only[eo,h1 _ _ e1,h2 _ _ e2,h3 _ _ e3];rw[ar ⟨hc.1,hc.2.1,hc.2.2.1,hc.2.2.2.1,hsz⟩]
   .cases h
  .cases h
 .simp only[aq]at hx;obtain⟨Yc,rfl,hr⟩:=hx;have hl:=hr.length;split at h
  .rename_i l hh m e1 e2 e3;split at h
   .rename_i hc;simp only[aB]at h;subst h;refine⟨.sl _ ((Yc.drop l.toNat).take (hh.toNat-l.toNat)),?_,by simp only[aq];exact⟨_,rfl,(hr.drop _).take _⟩⟩;simp only[eo,h1 _ _ e1,hl,h2 _ _ e2,h3 _ _ e3];rw[ar hc]
   .cases h
  .cases h
 .simp only[aq]at hx;subst hx;split at h
  .rename_i l hh m e1 e2 e3;split at h
   .rename_i hc;simp only[aB]at h;subst h;refine⟨.aC,?_,by simp[aq]⟩;simp only[eo,h1 _ _ e1,h2 _ _ e2,h3 _ _ e3];rw[ar hc]
   .cases h
  .cases h
 .cases h
def Ck{x x' v:V}{lo hi lo' hi':Option V}(hx:aq R x x')
 (h1:∀d j,bS d lo=some j->bS d lo'=some j)(h2:∀d j,bS d hi=some j->bS d hi'=some j)
 (h:lg x lo hi=some v):∃v',lg x' lo' hi'=some v'/\aq R v v':=by
 unfold lg at h;split at h
 .rw[aq.vj]at hx;subst hx;split at h
  .rename_i l hh e1 e2;split at h
   .rename_i hc;simp only[aB]at h;subst h;refine⟨_,?_,aq.vj.2 rfl⟩;simp only[lg,h1 _ _ e1,h2 _ _ e2];rw[ar hc]
   .cases h
  .cases h
 .cases h
def yg{x x' v:V}(hx:aq R x x')(h:gW x=some v):∃v',gW x'=some v'/\aq R v v':=by
 unfold gW at h;split at h<;>first|cases h|skip
 all_goals (have hx0:=hx;simp only[aq]at hx;obtain⟨i,rfl,_⟩:=hx;exact⟨_,rfl,hx0⟩)
def Hh{neg:Bool}{x y x' y' v:V}(hx:aq R x x')(hy:aq R y y')(h:binBV neg x y=some v):∃v',binBV neg x' y'=some v'/\aq R v v':=by
 have h0:=h;unfold binBV at h;split at h
 .rw[aq.ij]at hx hy;subst hx hy;refine⟨v,h0,?_⟩;simp only[aB]at h;subst h;simp[aq]
 .cases h
def Dc{m:Bool}{x y x' y' v:V}(hx:aq R x x')(hy:aq R y y')(h:mS m x y=some v):∃v',mS m x' y'=some v'/\aq R v v':=by
 have h0:=h;unfold mS at h;split at h
 .rw[aq.iH]at hx hy;subst hx hy;refine⟨v,h0,?_⟩;split at h
  .simp only[aB]at h;subst h;simp[aq]
  .cases h
 .cases h
def Ea{x y x' y':V}{b:Bool}(hx:aq R x x')(hy:aq R y y')(h:lI x y=some b):x'=x/\y'=y:=by
 unfold lI at h;split at h<;>first|cases h|skip
 all_goals simp only[aq]at hx hy
 all_goals exact⟨hx,hy⟩
def uq:∀{l m l' m':List V} {b:Bool},aD R l l'->aD R m m'->gJ l m=some b->l'=l/\m'=m
 |[],[],_,_,_,h1,h2,_=>by rw[aD.eX]at h1 h2;exact⟨h1,h2⟩
 |v::vs,u::us,_,_,b,h1,h2,h=>by
  obtain⟨v',vs',rfl,g1,g2⟩:=aD.bu.1 h1;obtain⟨u',us',rfl,g3,g4⟩:=aD.bu.1 h2;simp only[gJ]at h;split at h
  .rename_i e1 e2;obtain⟨rfl,rfl⟩:=Ea g1 g3 e1;obtain⟨rfl,rfl⟩:=uq g2 g4 e2;exact⟨rfl,rfl⟩
  .cases h
 |[],_::_,_,_,_,_,_,h=>by simp[gJ]at h
 |_::_,[],_,_,_,_,_,h=>by simp[gJ]at h
def Ly{neg:Bool}{ks:List Nat}{x y x' y' v:V}(hx:aq R x x')(hy:aq R y y')(h:sM neg ks x y=some v):∃v',sM neg ks x' y'=some v'/\aq R v v':=by
 have h0:=h;unfold sM at h;split at h
 .obtain⟨c,rfl,g1⟩:=aq.re.1 hx;obtain⟨d,rfl,g2⟩:=aq.re.1 hy;split at h
  .split at h
   .rename_i e;obtain⟨rfl,rfl⟩:=uq g1 g2 e;refine⟨v,h0,?_⟩;simp only[aB]at h;subst h;simp[aq]
   .cases h
  .cases h
 .cases h
def tU:∀{l m:List V} {b:List UInt8},aD R l m->bytesOf l=some b->m=l
 |[],_,_,h,_=>by rw[aD.eX]at h;exact h
 |v::vs,_,b,h,hb=>by
  obtain⟨u,us,rfl,g1,g2⟩:=aD.bu.1 h;simp only[bytesOf]at hb;split at hb
  .rename_i e1 e2;rw[tU g2 e2];cases v<;>simp[byteOf]at e1;rw[aq.iH]at g1;rw[g1]
  .cases hb
def EN(hm:Lv R Zc U){x x' v:V}(hx:aq R x x')(h:kR Zc x=some v):∃v',kR U x'=some v'/\aq R v v':=by
 unfold kR at h;split at h
 .simp only[aq]at hx;subst hx;simp only[aB]at h;subst h;exact⟨_,rfl,by simp[aq]⟩
 .simp only[aq]at hx;obtain⟨a,rfl,ha⟩:=hx;split at h
  .rename_i ob Zb;obtain⟨Yc,h1,h2⟩:=hm _ _ _ ha Zb;split at h
   .rename_i hc;simp only[Zq8]at h;obtain⟨l,hl,rfl⟩:=h;have e:=tU ((h2.drop _).take _) hl;refine⟨_,?_,aq.vj.2 rfl⟩;simp only[kR,h1,h2.length,e,hl,Option.map_some];rw[ar hc]
   .cases h
  .cases h
 .cases h
def JQ{i:Nat}{x x' v:V}(hx:aq R x x')(h:HA i x=some v):∃v',HA i x'=some v'/\aq R v v':=by
 unfold HA at h;split at h
 .simp only[aq]at hx;obtain⟨c,rfl,hr⟩:=hx;exact hr.get h
 .cases h
def kK(R:Nat->Nat->Prop):List (Nat×Nat×V)->List (Nat×Nat×V)->Prop
 |[],l=>l=[]
 |p::ps,l=>∃u us,l=(p.1,p.2.1,u)::us/\aq R p.2.2 u/\kK R ps us
def wy:∀{ps ps':List (Nat×Nat×V)} {z z' l:List V},aD R z z'->kK R ps ps'->jG z ps=some l->∃l',jG z' ps'=some l'/\aD R l l'
 |[],_,z,z',l,hz,hp,h=>by
  simp only[kK]at hp;subst hp;simp only[jG,aB]at h;subst h;exact⟨_,rfl,hz⟩
 |(off,sz,x)::ps,_,z,z',l,hz,hp,h=>by
  simp only[kK]at hp;obtain⟨u,us,rfl,h1,h2⟩:=hp;simp only[jG]at h|-;split at h
  .rename_i hc;rw[ar ⟨by rw[h1.cells.length];exact hc.1,by rw[h1.stays];exact hc.2.1,by rw[hz.length];exact hc.2.2⟩];refine wy ?_ h2 h;unfold dY;rw[h1.cells.length];exact((hz.take _).append h1.cells).append (hz.drop _)
  .cases h
def nO(hs:∀i,aq R (s i) (s' i)){lo:Option VX}(h:∀x∈lo.toList,okX x=true)(d j:Int):bS d (lo.map (·.ev s))=some j->bS d (lo.map (·.ev s'))=some j:=by
 refine EO (R:=R) ?_;cases lo with
 |none=>trivial
 |some x=>exact cg hs (h x (by simp))
def HD(hm:Lv R Zc U)(hs:∀i,aq R (s i) (s' i)){op:Yw}(M':jV op=true){v:V}(hp:eN s op)(h:aE Zc s op=some v):
 eN s' op/\∃v',aE U s' op=some v'/\aq R v v':=by
 have hok':=M';simp only[jV,Ba]at M';have hx:=ed.1 M'.1;have E:∀x,x∈op.xs->aq R (x.ev s) (x.ev s'):=λx h=>cg hs (hx x h);cases op<;>simp only[Yw.xs,cm,List.not_mem_nil,or_false,forall_eq_or_imp,forall_eq,db]at E<;>simp only[aE,eN,aB,reduceCtorEq,true_and]at h hp|-
 case YO=>subst h;exact⟨_,rfl,E⟩
 case pick c a b=>
  split at h
  .rename_i t ht;have:=E.1;rw[ht,aq.ij]at this;rw[this];simp only[aB]at h|-;subst h;refine⟨_,rfl,?_⟩;cases t
   .exact E.2.2
   .exact E.2.1
  .cases h
 case bin op x y=>
  obtain⟨e1,e2,e3⟩:=IZ E.1 E.2 h;rw[e1,e2];exact⟨hp,v,h,cT v e3⟩
 case not x=>
  split at h
  .rename_i b hb;rw[hb,aq.ij]at E;rw[E];simp only[aB]at h|-;subst h;exact⟨_,rfl,by simp[aq]⟩
  .cases h
 case neg x=>
  split at h
  .rename_i k b hb;rw[hb]at hp;rw[hb,aq.iH]at E;rw[E];simp only[aB]at h|-;subst h;exact⟨hp,_,rfl,by simp[aq]⟩
  .cases h
 case len=>exact Kq E h
 case cap=>
  unfold MS at h;split at h
  .rename_i hn;rw[hn]at E;simp only[aq]at E;rw[E];simp only[aB]at h;subst h;exact⟨_,rfl,by simp[aq]⟩
  .cases h
 case fld=>exact I0 E h
 case YJ=>exact Ik E h
 case idxA=>exact G5 hm E.1 E.2 h
 case idxAA=>exact EK E.1 E.2 h
 case idxV=>exact Hx E.1 E.2 h
 case idxS=>exact Hg E.1 E.2 h
 case load=>exact yS hm E h
 case slice ZZ x lo hi mx=>
  have YM:=hx;simp only[Yw.xs,cm,db]at YM;exact EW hm E.1 (nO hs λy hy=>YM y (.inr (.inl (.inl hy)))) (nO hs λy hy=>YM y (.inr (.inl (.inr hy)))) (nO hs λy hy=>YM y (.inr (.inr hy))) h
 case sliceS x lo hi=>
  have YM:=hx;simp only[Yw.xs,cm,db]at YM;exact Ck E.1 (nO hs λy hy=>YM y (.inr (.inl hy))) (nO hs λy hy=>YM y (.inr (.inr hy))) h
 case ext=>exact JQ E h
 case more m xs=>
  by_cases hb:∃f,m=.mkB f
  .obtain⟨f,rfl⟩:=hb;simp only[aE,aB]at h|-;subst h;exact⟨_,rfl,by simp only[aq];exact⟨_,rfl,ga hs M'.1⟩⟩
  cases xs with
  |nil=>cases m<;>first|exact absurd ⟨_,rfl⟩ hb|simp[aE]at h
  |cons x xs=>
   have ex:=E x (by simp);cases xs with
   |cons y ys=>cases m<;>first|exact absurd ⟨_,rfl⟩ hb|simp[aE]at h
   |nil=>
    cases m
    case mkB=>exact absurd ⟨_,rfl⟩ hb
    case mkI t=>
     simp only[aB]at h|-;subst h;exact⟨_,rfl,by simp only[aq];exact⟨_,rfl,ex⟩⟩
    case tas t ok z=>
     have hz:z.cu=true:=M'.2;simp only[]at h|-;unfold I2 at h|-;split at h
     .rename_i t' v' hv';rw[hv']at ex;simp only[aq]at ex;obtain⟨u,hu,hru⟩:=ex;rw[hu];simp only;split at h
      .rename_i e;rw[ar e];simp only[aB]at h|-;subst h;refine⟨_,rfl,?_⟩;cases ok
       .exact hru
       .simp only[if_true,aq,aD];exact⟨_,rfl,_,_,rfl,hru,_,_,rfl,rfl,rfl⟩
      .rename_i e;rw[av e];cases ok
       .simp at h
       .simp only[if_true,aB]at h|-;subst h;refine⟨_,rfl,?_⟩;simp only[aq,aD];exact⟨_,rfl,_,_,rfl,cT z hz,_,_,rfl,rfl,rfl⟩
     .rename_i hv';rw[hv']at ex;simp only[aq]at ex;rw[ex];cases ok
      .simp at h
      .simp only[if_true,aB]at h|-;subst h;refine⟨_,rfl,?_⟩;simp only[aq,aD];exact⟨_,rfl,_,_,rfl,cT z hz,_,_,rfl,rfl,rfl⟩
     .cases h
    case nilP neg=>
     simp only[]at h|-;unfold FQ at h;split at h
     .rename_i hv';rw[hv']at ex;simp only[aq]at ex;rw[ex];exact⟨v,h,by simp only[aB]at h;subst h;simp[aq]⟩
     .rename_i hv';rw[hv']at ex;simp only[aq]at ex;obtain⟨u,hu,_⟩:=ex;rw[hu];exact⟨v,h,by simp only[aB]at h;subst h;simp[aq]⟩
     .rename_i hv';rw[hv']at ex;simp only[aq]at ex;obtain⟨u,hu,_⟩:=ex;rw[hu];exact⟨v,h,by simp only[aB]at h;subst h;simp[aq]⟩
     .cases h
    all_goals simp[aE]at h
 case mkfn f xs=>
  subst h;exact⟨_,rfl,by simp only[aq];exact⟨_,rfl,ga hs M'.1⟩⟩
 case convI k x=>
  split at h
  .rename_i k' b hb;rw[hb]at hp;rw[hb,aq.iH]at E;rw[E];simp only[aB]at h|-;subst h;exact⟨hp,_,rfl,by simp[aq]⟩
  .cases h
 case nilCheck=>exact yg E h
 case ZG=>exact Hh E.1 E.2 h
 case eqS=>exact Ly E.1 E.2 h
 case minmax=>exact Dc E.1 E.2 h
 case bstr=>exact EN hm E h
 case build zero parts=>
  simp only[Zq8]at h;obtain⟨l,hl,rfl⟩:=h;have hpr:∀ps:List (Nat×Nat×VX),(∀p∈ps,okX p.2.2=true)->kK R (ps.map λp=>(p.1,p.2.1,p.2.2.ev s)) (ps.map λp=>(p.1,p.2.1,p.2.2.ev s')):=by
   intro ps
   induction ps with
   |nil=>intro _;simp[kK]
   |cons p ps ih=>
    intro hps;simp only[dP,kK];exact⟨_,_,rfl,cg hs (hps p (by simp)),ih λq hq=>hps q (by simp[hq])⟩
  obtain⟨l',h1,h2⟩:=wy (eR zero M'.2) (hpr parts λp hp=>hx _ (by simp only[Yw.xs,gl];exact⟨p,hp,rfl⟩)) hl;exact⟨.agg l',by rw[h1];rfl,aq.agg h2⟩
end
variable {R:Nat->Nat->Prop} {K:af} {fl:Nat} {P:Program} {n:Nat}
structure cC(K:af)(fl:Nat)(R:Nat->Nat->Prop)(cs:CS)(st:St):Prop where
 slot:∀i,aq R (cs.sf i) (st.s i)
 mem:fW K fl R (ZQ cs.U) cs.YA st.U
def Im{s s':Nat->V}(h:∀i,aq R (s i) (s' i)){d:Option Nat}{v u:V}(hv:aq R v u):∀i,aq R (aN s d v i) (aN s' d u i):=by
 intro i;cases d with
 |none=>exact h i
 |some d=>
  show aq R (if i=d then v else s i) (if i=d then u else s' i);split
  .exact hv
  .exact h i
def cC.put{cs:CS}{st:St}(h:cC K fl R cs st){d:Option Nat}{v u:V}(hv:aq R v u):cC K fl R (cs.put d v) ⟨aN st.s d u,st.U⟩:=by
 refine⟨?_,?_⟩
 .rw[JF];exact Im h.slot hv
 .rw[(JX cs d v).1,(JX cs d v).2];exact h.mem
def aq.An:aq R (.P' []) (.P' []):=by simp[aq,aD]
def Si(a b:Int):eqQ a b=decide (a=b):=by
 cases a<;>cases b<;>rw[Bool.eq_iff_iff]<;>simp[eqQ]<;>first|rfl|omega
def Rp(a b:Int):leQ a b=decide (a<=b):=by
 cases a<;>cases b<;>rw[Bool.eq_iff_iff]<;>simp only[leQ,Nat.ble_eq,Zq9,eT,false_iff,true_iff,Int.ofNat_eq_natCast]<;>omega
def L9(a b:Int):Ub a b=a+b:=by cases a<;>cases b<;>rfl
def Nz(a b:Int):SJ a b=a-b:=by
 cases a<;>cases b<;>simp only[SJ];rename_i m k;cases h:Nat.ble k m
 .have:¬k<=m:=by rw[<-Nat.ble_eq];simp[h]
  simp only[Nat.sub_eq,Int.ofNat_eq_natCast];omega
 .have:k<=m:=nH h;simp only[Nat.sub_eq,Int.ofNat_eq_natCast];omega
def MI{a:Int}(h:R7 a=true):Yr .i64 a:=by
 cases a<;>simp only[R7,Nat.ble_eq]at h
 .rw[Int.ofNat_eq_natCast];exact ai
 .exact ai
def M5{k:IntKind}{a:Int}(h:O7 k a=true):Yr k a:=by
 unfold O7 at h;split at h
 .exact MI h
 .simpa[Yr]using h
def bO{α:Type}{b:Bool}{x y:α}:@Bool.casesOn (λ_=>α) b x y=if b then y else x:=by cases b<;>rfl
def sd{α:Type}{b:Bool}{x y:α}:@Bool.rec (λ_=>α) x y b=if b then y else x:=by cases b<;>rfl
def zB{k:IntKind}{a:Int}{v:V}(h:gI k a=some v):v=.int k a/\Yr k a:=by
 unfold gI at h;rw[bO]at h;split at h
 .rename_i hi;simp only[aB]at h;exact⟨h.symm,M5 hi⟩
 .cases h
def Ei{op:BinOp}{k:IntKind}{a b:Int}{v:V}(h:(rh op).f k a b=some v):jm op k a b/\dX op k a b=some v:=by
 unfold rh at h;split at h<;>simp only[]at h
 .obtain⟨rfl,h2⟩:=zB h;rw[L9]at*;exact⟨h2,rfl⟩
 .obtain⟨rfl,h2⟩:=zB h;rw[Nz]at*;exact⟨h2,rfl⟩
 .obtain⟨rfl,h2⟩:=zB h;exact⟨h2,rfl⟩
 .split at h
  .cases h
  .rename_i hb;obtain⟨rfl,h2⟩:=zB h;exact⟨h2,by simp[dX,hb]⟩
 .split at h
  .cases h
  .rename_i hb;simp only[aB]at h;subst h;exact⟨trivial,by simp[dX,hb]⟩
 all_goals first
  |exact⟨trivial,h⟩
  |(simp only[aB]at h;subst h;refine⟨trivial,?_⟩;simp only[Si,Rp,dX,aB,V.bool.injEq];try (rw[Bool.eq_iff_iff];simp))
  |cases h
def DW{op:BinOp}{a b:List UInt8}{v:V}(h:Aj op a b=some v):vO op a b/\qv op a b=some v:=by
 unfold Aj at h;split at h
 .rw[bO]at h;split at h
  .rename_i hb;simp only[aB]at h;subst h;exact⟨nH hb,rfl⟩
  .cases h
 .exact⟨trivial,h⟩
 .exact⟨trivial,h⟩
 .cases h
def I4{k k':IntKind}(h:J3 k k'=true):k=k':=by
 unfold J3 at h;rw[bO]at h;cases k<;>cases k'<;>simp_all [RY,eqK]
def Mo{op:BinOp}{x y v:V}(h:NB op (rh op).f y x=some v):qJ op x y/\x7 op x y=some v:=by
 unfold NB at h;split at h
 .unfold Ue at h;split at h
  .rw[bO]at h;split at h
   .rename_i hk;have:=I4 hk;subst this;obtain⟨h1,h2⟩:=Ei h;exact⟨h1,by simp[x7,h2]⟩
   .cases h
  .cases h
 .unfold UO at h;split at h
  .exact DW h
  .cases h
 .cases h
def LS{U:Tr (Option Ob)}{ZZ:Nat}{x i v:V}(h:RR U ZZ x i=some v):bo (ZQ U) ZZ x i=some v:=by
 unfold RR at h;split at h
 .split at h
  .rename_i m hm;have hj:=hm;unfold Cm at hm;split at hm
   .simp only[aB]at hm;subst hm;split at h
    .rename_i ob Zb;rw[bO]at h;split at h
     .rename_i hc;simp only[Ba,Nat.beq_eq,Nat.blt_eq]at hc;have e:ZQ U _=some ob:=Zb;simp only[bo,e];rw[ar ⟨hc.1,by simp,by simpa using hc.2⟩];exact h
     .cases h
    .cases h
   .cases hm
  .cases h
 .split at h
  .rename_i m hm;unfold Cm at hm;split at hm
   .simp only[aB]at hm;subst hm;rw[bO]at h;split at h
    .rename_i hc;rw[Nat.beq_eq]at hc;simp only[bo];rw[ar ⟨hc,by simp⟩];exact h
    .cases h
   .cases hm
  .cases h
 .cases h
def Iw{x i v:V}(h:Iq x i=some v):qO x i=some v:=by
 unfold Iq at h;split at h
 .split at h
  .rename_i m hm;unfold Cm at hm;split at hm
   .simp only[aB]at hm;subst hm;simp only[qO];rw[ar (by simp)];exact h
   .cases hm
  .cases h
 .cases h
def Lu{U:Tr (Option Ob)}{agg:Bool}{sz:Nat}{x v:V}(h:IY U agg sz x=some v):bB (ZQ U) agg sz x=some v:=by
 unfold IY at h;split at h
 .split at h
  .rename_i ob Zb;have e:ZQ U _=some ob:=Zb;split at h
   .rename_i r hr;simp only[bB,e,hr];split at h
    .rw[bO,bO]at h;simp only[if_true];split at h
     .rename_i hc;simp only[Ba,Nat.beq_eq]at hc;rw[ar hc];exact h
     .rename_i hc;split at h
      .rename_i hc';rw[av (by simpa using hc),ar (show _+sz<=_ from nH hc')];exact h
      .cases h
    .simpa using h
   .cases h
  .cases h
 .exact h
def oX{draw:Bool}{call:gr}{dst:Option Nat}{op:Yw}{cs YG:CS}{st:St}(hk:aX op=0)(M':jV op=true)(h:cC K fl R cs st)
 (hr:(ju draw dst op).f call fl cs=some YG):∃v',eN st.s op/\aE st.U st.s op=some v'/\cC K fl R YG ⟨aN st.s dst v',st.U⟩:=by
 have key:∃v,eN cs.sf op/\aE (ZQ cs.U) cs.sf op=some v/\YG=cs.put dst v:=by
  have hp:∀(g:CS->Option V),(kN dst g).f call fl cs=some YG->∃v,g cs=some v/\YG=cs.put dst v:=by
   intro g hg;simp only[kN]at hg;split at hg
   .rename_i v hv;simp only[aB]at hg;exact⟨v,hv,hg.symm⟩
   .cases hg
  cases op<;>simp only[aX,reduceCtorEq,Nat.reduceEqDiff]at hk<;>simp only[ju]at hr
  case YO x=>
   simp only[Tq,aB]at hr;exact⟨_,trivial,rfl,hr.symm⟩
  case bin op x y=>
   have hr':(kN dst λcs=>NB op (rh op).f (y.ev cs.sf) (x.ev cs.sf)).f call fl cs=some YG:=hr;obtain⟨v,h1,h2⟩:=hp _ hr';obtain⟨h3,h4⟩:=Mo h1;exact⟨v,h3,h4,h2⟩
  case pick c a b=>
   obtain⟨v,h1,h2⟩:=hp _ hr;refine⟨v,trivial,?_,h2⟩;simp only[aE];unfold On at h1;split at h1
   .rename_i t ht;rw[bO]at h1;rw[ht];exact h1
   .cases h1
  case not x=>
   obtain⟨v,h1,h2⟩:=hp _ hr;refine⟨v,trivial,?_,h2⟩;simp only[aE];unfold TU at h1;split at h1
   .rename_i t ht;rw[ht];exact h1
   .cases h1
  case neg x=>
   obtain⟨v,h1,h2⟩:=hp _ hr;unfold UL at h1;split at h1
   .rename_i k t ht;obtain⟨h3,h4⟩:=zB h1;exact⟨v,by simp only[eN,ht];exact h4,by simp only[aE,ht,h3],h2⟩
   .cases h1
  case convI k x=>
   obtain⟨v,h1,h2⟩:=hp _ hr;unfold Og at h1;split at h1
   .rename_i k t ht;obtain⟨h3,h4⟩:=zB h1;exact⟨v,by simp only[eN,ht];exact h4,by simp only[aE,ht,h3],h2⟩
   .cases h1
  case idxA=>obtain⟨v,h1,h2⟩:=hp _ hr;exact⟨v,trivial,LS h1,h2⟩
  case idxS=>obtain⟨v,h1,h2⟩:=hp _ hr;exact⟨v,trivial,Iw h1,h2⟩
  case load=>obtain⟨v,h1,h2⟩:=hp _ hr;exact⟨v,trivial,Lu h1,h2⟩
  all_goals (obtain⟨v,h1,h2⟩:=hp _ hr;exact⟨v,trivial,h1,h2⟩)
 obtain⟨v,h1,h2,rfl⟩:=key;obtain⟨h3,v',h4,h5⟩:=HD h.mem.live h.slot M' h1 h2;exact⟨v',h3,h4,h.put h5⟩
def Dt{Zc U:af}(hm:Lv R Zc U){sz:Nat}{x x':V}{l:List V}(hx:aq R x x')(h:bF Zc sz x=some l):∃l',bF U sz x'=some l'/\aD R l l':=by
 unfold bF at h;split at h
 .simp only[aq]at hx;obtain⟨a,rfl,ha⟩:=hx;split at h
  .rename_i ob Zb;obtain⟨Yc,h1,h2⟩:=hm _ _ _ ha Zb;split at h
   .rename_i hc;simp only[aB]at h;subst h;refine⟨_,?_,(h2.drop _).take _⟩;simp only[bF,h1,h2.length];rw[ar hc]
   .cases h
  .cases h
 .simp only[aq]at hx;obtain⟨Yc,rfl,hr⟩:=hx;split at h
  .rename_i hc;simp only[aB]at h;subst h;exact⟨Yc,by simp[bF,hc],hr⟩
  .cases h
 .simp only[aq]at hx;subst hx;simp only[aB]at h;subst h;exact⟨[],rfl,by simp[aD]⟩
 .rename_i s;simp only[aq]at hx;subst hx;refine⟨l,h,?_⟩;split at h
  .simp only[aB]at h;subst h
   induction s with
   |nil=>simp[aD]
   |cons b s ih=>simp only[dP,aD];exact⟨_,_,rfl,by simp[aq],ih⟩
  .cases h
 .cases h
def Bo{Zc U:af}(hm:Lv R Zc U){e sz:Nat}{x x':V}{l:List V}{d:Option Nat}(hx:aq R x x')(h:bP Zc e sz x=some (l,d)):
 ∃l' d',bP U e sz x'=some (l',d')/\aD R l l'/\(d=none/\d'=none\/∃c a o,d=some c/\d'=some a/\R c a/\Zc c=some o):=by
 unfold bP at h;split at h
 .simp only[aq]at hx;obtain⟨a,rfl,ha⟩:=hx;split at h
  .rename_i ob Zb;obtain⟨Yc,h1,h2⟩:=hm _ _ _ ha Zb;split at h
   .rename_i hc;simp only[aB,Prod.mk.injEq]at h;obtain⟨rfl,rfl⟩:=h;refine⟨_,some a,?_,h2.take _,.inr ⟨_,a,ob,rfl,rfl,ha,Zb⟩⟩;simp only[bP,h1,h2.length];rw[ar hc]
   .cases h
  .cases h
 .simp only[aq]at hx;subst hx;simp only[aB,Prod.mk.injEq]at h;obtain⟨rfl,rfl⟩:=h;exact⟨[],none,rfl,by simp[aD],.inl ⟨rfl,rfl⟩⟩
 .cases h
def kF{dst:Option Nat}{cs YG:CS}{st:St}(h:cC K fl R cs st){m:Mk}{Yc:List V}{d':Option Nat}(YS:aD R m.ob.rows Yc)
 (hd:m.gone=none/\d'=none\/∃c a o,m.gone=some c/\d'=some a/\R c a/\ZQ cs.U c=some o)(hr:Ak fl dst cs m=some YG){id:Nat}(O':st.U id=none):
 ∃R',(∀a b,R a b->R' a b)/\cC K fl R' YG ⟨aN st.s dst (if m.var then .ptr id 0 0 else .own id 0 m.len),C' (bt st.U d') id ⟨m.ob.elem,m.ob.sz,Yc⟩⟩:=by
 refine⟨ext R cs.YA id,zU _ _,?_⟩;have hval:aq (ext R cs.YA id) (@Bool.casesOn (λ_=>V) m.var (.own cs.YA 0 m.len) (.ptr cs.YA 0 0)) (if m.var then .ptr id 0 0 else .own id 0 m.len):=by
  cases m.var
  .simp only[aq,eT,if_false];exact⟨id,rfl,.inr ⟨rfl,rfl⟩⟩
  .simp only[aq,if_true];exact⟨id,rfl,.inr ⟨rfl,rfl⟩⟩
 have hslot:∀i,aq (ext R cs.YA id) (cs.sf i) (st.s i):=λi=>aq.mono (zU _ _) _ _ (h.slot i);unfold Ak at hr;rcases hd with⟨e1,rfl⟩|⟨c,a,o,e1,rfl,hR,ho⟩
 .rw[e1]at hr;simp only[aB]at hr;subst hr;have hm:=h.mem.new O' YS;have hS:cC K fl (ext R cs.YA id) ⟨cs.s,kc none (some m.ob) cs.YA cs.U,Nat.succ cs.YA⟩ ⟨st.s,C' st.U id ⟨m.ob.elem,m.ob.sz,Yc⟩⟩:=
   ⟨hslot,by simp only[vk];exact hm⟩
  exact hS.put hval
 .rw[e1]at hr;simp only[bO]at hr;split at hr
  .rename_i hf;simp only[aB]at hr;subst hr;have h1:=h.mem.rem hR ho (nH hf);have hid':del st.U a id=none:=by
    by_cases e:id=a
    .simp[del,e]
    .rw[cA e];exact O'
   have hm:=h1.new hid' YS;have hS:cC K fl (ext R cs.YA id) ⟨cs.s,kc none (some m.ob) cs.YA (kc none none c cs.U),Nat.succ cs.YA⟩ ⟨st.s,C' (del st.U a) id ⟨m.ob.elem,m.ob.sz,Yc⟩⟩:=
    ⟨hslot,by simp only[vk,FU];exact hm⟩
   rw[bO]at hval;exact hS.put hval
  .cases hr
def xT{draw:Bool}{call:gr}{dst:Option Nat}{op:Yw}{cs YG:CS}{st:St}(hk:aX op=3)(M':jV op=true)(h:cC K fl R cs st)
 (hr:(ju draw dst op).f call fl cs=some YG):∃g',eff st.s st.U op=some g'/\∀id,st.U id=none->∃R',(∀a b,R a b->R' a b)/\
   cC K fl R' YG ⟨aN st.s dst (g' id).1,(g' id).2⟩:=by
 have hp:∀(g:CS->Option Mk),(Fh dst g).f call fl cs=some YG->∃m,g cs=some m/\Ak fl dst cs m=some YG:=by
  intro g hg;simp only[Fh]at hg;split at hg
  .rename_i v hv;exact⟨v,hv,hg⟩
  .cases hg
 simp only[jV,Ba]at M';have hx:=ed.1 M'.1;cases op<;>simp only[aX,reduceCtorEq,Nat.reduceEqDiff]at hk<;>simp only[ju]at hr
 case more m xs=>cases m<;>simp at hk
 case alloc e sz z=>
  obtain⟨m,h1,h2⟩:=hp _ hr;simp only[aB]at h1;subst h1;refine⟨_,rfl,λid O'=>?_⟩;have:=kF (d':=none) h (aD.one (cT (R:=R) z M'.2)) (.inl ⟨rfl,rfl⟩) h2 O';simpa[bt]using this
 case box e sz x=>
  obtain⟨m,h1,h2⟩:=hp _ hr;have hv:=cg h.slot (hx x (by simp[Yw.xs]));unfold TF at h1;rw[bO]at h1;split at h1
  .rename_i hc;simp only[Ba,Nat.beq_eq]at hc;simp only[aB]at h1;subst h1;refine⟨λid=>(.ptr id 0 0,C' st.U id ⟨e,sz,[x.ev st.s]⟩),?_,λid O'=>?_⟩
   .simp only[eff];rw[ar ⟨by rw[hv.cells.length];exact hc.1,by rw[hv.stays];exact hc.2⟩]
   .have:=kF (d':=none) h (aD.one hv) (.inl ⟨rfl,rfl⟩) h2 O';simpa[bt]using this
  .cases h1
 case appz=>simp[kN,aE]at hr
 case mk e sz bytes z x=>
  obtain⟨m,h1,h2⟩:=hp _ hr;have hv:=cg h.slot (hx x (by simp[Yw.xs]));unfold mkQ at h1;split at h1
  .rename_i kk mm hxe;rw[hxe]at hv;simp only[aq]at hv;split at h1
   .split at h1
    .rename_i j hj;rw[bO]at h1;split at h1
     .rename_i hc;simp only[aB]at h1;subst h1;have hmj:mm=(j:Int):=by
       cases mm<;>simp only[Cm,aB,reduceCtorEq]at hj;subst hj;rfl
      subst hmj;refine⟨λid=>(.own id 0 j,C' st.U id ⟨e,sz,List.replicate j z⟩),?_,λid O'=>?_⟩
      .simp only[eff];rw[hv];have hc':j*(bytes+1)<=140737488355328:=nH hc;simp only[e8];rw[ar ⟨by omega,hc'⟩]
      .have:=kF (d':=none) h (aD.replicate (cT (R:=R) z M'.2) j) (.inl ⟨rfl,rfl⟩) h2 O';simpa[bt]using this
     .cases h1
    .cases h1
   .cases h1
  .cases h1
 case eU e sz xs=>
  obtain⟨m,h1,h2⟩:=hp _ hr;have hv:=ga h.slot M'.1;simp only[Yw.xs]at hv;unfold Gm at h1;rw[bO]at h1;split at h1
  .rename_i hc;simp only[aB]at h1;subst h1;refine⟨λid=>(.own id 0 xs.length,C' st.U id ⟨e,sz,xs.map (·.ev st.s)⟩),?_,λid O'=>?_⟩
   .simp only[eff];rw[ar];rw[ed];intro y hy;rw[gl]at hy;obtain⟨x,hxx,rfl⟩:=hy;have hvx:=cg h.slot (hx x (by simp[Yw.xs,hxx]));have:=ed.1 hc (x.ev cs.sf) (gl.2 ⟨x,hxx,rfl⟩);simp only[Ba,Nat.beq_eq]at this;simp[hvx.cells.length,hvx.stays,this]
   .have:=kF (d':=none) h hv (.inl ⟨rfl,rfl⟩) h2 O';simpa[bt]using this
  .cases h1
 case append e sz bytes xa xb=>
  obtain⟨m,h1,h2⟩:=hp _ hr;have ha:=cg h.slot (hx xa (by simp[Yw.xs]));have hb:=cg h.slot (hx xb (by simp[Yw.xs]));unfold Fv at h1;split at h1
  .rename_i base Yt src e1 e2;obtain⟨base',d',g1,g2,g3⟩:=Bo h.mem.live ha e1;obtain⟨src',g4,g5⟩:=Dt h.mem.live hb e2;rw[bO]at h1;split at h1
   .rename_i hc;simp only[aB]at h1;subst h1;refine⟨λid=>(.own id 0 (base'.length+src'.length),C' (bt st.U d') id ⟨e,sz,base'++src'⟩),?_,λid O'=>?_⟩
    .simp only[eff,g1,g4];rw[ar (by rw[g2.length,g5.length];exact nH hc)]
    .have:=kF h (g2.append g5) g3 h2 O';simpa[g2.length,g5.length]using this
   .cases h1
  .cases h1
def BM{r r' x x' q:V}{k sz:Nat}(hr:aq R r r')(hx:aq R x x')(h:fC r k sz x=some q):∃q',fC r' k sz x'=some q'/\aq R q q':=by
 unfold fC at h;split at h
 .rename_i hc;have hc':x'.cells.length=sz/\x'.stays=true:=⟨by rw[hx.cells.length];exact hc.1,by rw[hx.stays];exact hc.2⟩
  split at h
  .rename_i hd;simp only[aB]at h;subst h;refine⟨x',?_,hx⟩;unfold fC;rw[ar hc',ar ⟨hd.1,by rw[hr.cells.length];exact hd.2⟩]
  .rename_i hd;split at h
   .rename_i he;simp only[aB]at h;subst h;refine⟨_,?_,aq.agg (((hr.cells.take k).append hx.cells).append (hr.cells.drop (k+sz)))⟩;unfold fC;rw[ar hc',av (by rw[hr.cells.length];exact hd),ar (by rw[hr.cells.length];exact he)]
   .cases h
 .cases h
def qe{dst:Option Nat}{sz:Nat}{xa xv:VX}{call:gr}{cs YG:CS}{st:St}(M':jV (.store sz xa xv)=true)(h:cC K fl R cs st)
 (hr:(Fc dst sz xa xv).f call fl cs=some YG):∃Z',gk st.U sz (xa.ev st.s) (xv.ev st.s)=some Z'/\cC K fl R YG ⟨aN st.s dst (.P' []),Z'⟩:=by
 simp only[jV,Yw.xs,ja,List.all_nil,Bool.and_true,Ba]at M';have ha:=cg h.slot M'.1;have hv:=cg h.slot M'.2;simp only[Fc,Fx]at hr;split at hr
 .rename_i id i0 c hptr;rw[hptr]at ha;simp only[aq]at ha;obtain⟨a,ha1,ha2⟩:=ha;rw[sd]at hr;split at hr
  .rename_i hf;split at hr
   .rename_i ob Zb;have hob':ZQ cs.U id=some ob:=Zb;obtain⟨Yc,h1,h2⟩:=h.mem.live _ _ _ ha2 hob';split at hr
    .rename_i r hrr;obtain⟨r',h3,h4⟩:=h2.get hrr;split at hr
     .rename_i q hq;obtain⟨q',h5,h6⟩:=BM h4 hv hq;simp only[aB]at hr;subst hr;refine⟨C' st.U a ⟨ob.elem,ob.sz,Yc.set i0 q'⟩,?_,?_⟩
      .simp only[gk,ha1,h1,h3,h5]
      .have hm:=h.mem.write ha2 hob' (nH hf) (h2.set i0 h6);have hS:cC K fl R ⟨cs.s,kc none (some ⟨ob.elem,ob.sz,ob.rows.set i0 q⟩) id cs.U,cs.YA⟩ ⟨st.s,C' st.U a ⟨ob.elem,ob.sz,Yc.set i0 q'⟩⟩:=
        ⟨h.slot,by simp only[vk];exact hm⟩
       exact hS.put aq.An
     .cases hr
    .cases hr
   .cases hr
  .cases hr
 .cases hr
variable {P:Program} {n:Nat}
def Le(R R':Nat->Nat->Prop):Prop:=∀a b,R a b->R' a b
def Le.refl(R:Nat->Nat->Prop):Le R R:=λ_ _ h=>h
def Le.trans{R R' R'':Nat->Nat->Prop}(h:Le R R')(h':Le R' R''):Le R R'':=λa b g=>h' a b (h a b g)
def kQ(P:Program)(call:gr):Prop:=∀g args Zc YA fl r,call g args Zc YA fl=some r->∀(K:af) (R:Nat->Nat->Prop) (U:af) (args':List V),
 fW K fl R (ZQ Zc) YA U->aD R args args'->au P g args' U λv Z'=>∃R',Le R R'/\aq R' r.v v/\fW K fl R' (ZQ r.U) r.YA Z'
def au.drop{f:FuncId}{args:List V}{U:af}{Post Post':V->af->Prop}(h:au P f args U Post)
 (hp:∀r Z',Post r Z'->∃Z0,aa Z0 Z'/\Post' r Z0):au P f args U Post':=by
 refine⟨h.1,λI w Yl hs hr=>(h.2 I w Yl hs hr).mono ?_⟩;rintro e w' ⟨r,Z',Y',val,h1,h2,h3,h4,h5⟩;obtain⟨Z0,h6,h7⟩:=hp r Z' h2;exact⟨r,Z0,Y',val,h1,h7,h3,h4.drop h6,Wk.refl h6 r Y' _ _ _ val h4 h5⟩
section
variable {call:gr} {K:af} {fl:Nat} {R:Nat->Nat->Prop} {cs YG:CS} {st:St} {Q:St->Prop} {k:List It}
def oE{draw:Bool}{i:az}(M':dv i=true)(h:cC K fl R cs st)(hr:(wo draw i).f call fl cs=some YG):
 (aP st.s i.g=some true/\(ju draw i.dst i.op).f call fl cs=some YG)\/(aP st.s i.g=some false/\YG=cs.put i.dst (.P' [])):=by
 simp only[dv,Ba]at M';unfold wo at hr;split at hr
 .rename_i hg;exact .inl ⟨by simp[hg,aP],hr⟩
 .rename_i x b hg;have hx:=M'.2;simp only[hg]at hx;have hv:=cg h.slot hx;simp only[te]at hr;split at hr
  .rename_i c hc;rw[hc,aq.ij]at hv;rw[sd]at hr;split at hr
   .rename_i hcb;simp only[aB]at hr;refine .inr ⟨?_,hr.symm⟩;simp only[hg,aP,hv];cases c<;>cases b<;>simp_all
   .rename_i hcb;refine .inl ⟨?_,hr⟩;simp only[hg,aP,hv];cases c<;>cases b<;>simp_all
  .rename_i hc;rw[hc]at hv;simp only[aq,aD]at hv;obtain⟨c',hv,rfl⟩:=hv;simp only[aB]at hr;exact .inr ⟨by simp only[hg,aP,hv],hr.symm⟩
  .rename_i hc;rw[hc,aq.iH]at hv;simp only[aB]at hr;exact .inr ⟨by simp only[hg,aP,hv],hr.symm⟩
  .cases hr
def A6{draw:Bool}{dst:Option Nat}{op:Yw}(h:op=.bad\/(∃b x,op=.rngS b x)\/(∃x,op=.nxtS x)\/∃m xs,op=.more m xs/\aX op=4)(hr:(ju draw dst op).f call fl cs=some YG):False:=by
 rcases h with rfl|⟨b,x,rfl⟩|⟨x,rfl⟩|⟨m,xs,rfl,hk⟩
 case inr.inr.inr=>cases m<;>simp[aX]at hk<;>simp[ju,kN,aE]at hr
 all_goals simp[ju,kN,aE]at hr
def nX(op:Yw):aX op=0\/(∃fx xs,op=.call fx xs)\/(∃sz a x,op=.store sz a x)\/aX op=3\/(∃sz z x,op=.clear sz z x)\/(op=.bad\/(∃b x,op=.rngS b x)\/(∃x,op=.nxtS x)\/∃m xs,op=.more m xs/\aX op=4):=by
 cases op
 case more m xs=>cases m<;>simp[aX]
 all_goals simp[aX]
def M3(hc:kQ P call){i:az}{l:List az}(M':dv i=true)(h:cC K fl R cs st)(hr:(wo false i).f call fl cs=some YG)
 (hk:∀R' Zd,Le R R'->cC K fl R' YG Zd->ab P n (.ops l::k) Zd Q):ab P n (.ops (i::l)::k) st Q:=by
 have Yf:jV i.op=true:=by simp only[dv,Ba]at M';exact M'.1
 rcases oE M' h hr with⟨hw,hr⟩|⟨hw,rfl⟩
 .rcases nX i.op with h0|⟨fx,xs,h0⟩|⟨sz,a,x,h0⟩|h0|⟨sz,z,x,h0⟩|h0
  .obtain⟨v',h1,h2,h3⟩:=oX h0 Yf h hr;exact ab.pure hw h1 h2 (hk R _ (Le.refl R) h3)
  .rw[h0]at hr Yf;simp only[ju,IF]at hr;simp only[jV,Yw.xs,ja,Ba]at Yf;split at hr
   .rename_i f caps hf;have hfx:=cg h.slot Yf.1.1;rw[hf]at hfx;simp only[aq]at hfx;obtain⟨Zl,hf',hcaps⟩:=hfx;generalize Zj:call f (xs.map (·.ev cs.sf)++caps) cs.U cs.YA fl=r at hr;cases r with
    |none=>simp[ir]at hr
    |some r=>
     simp only[ir,aB]at hr;refine ab.call hw h0 hf' (hc _ _ _ _ _ _ Zj K R st.U _ h.mem ((ga h.slot Yf.1.2).append hcaps)) ?_;rintro v Z' ⟨R',hle,hv,hm⟩;have hS:cC K fl R' ⟨cs.s,r.U,r.YA⟩ ⟨st.s,Z'⟩:=⟨λj=>aq.mono hle _ _ (h.slot j),hm⟩
     exact hk R' _ hle (hr▸hS.put hv)
   .cases hr
  .rw[h0]at hr Yf;obtain⟨Z',h1,h2⟩:=qe Yf h hr;exact ab.gk hw h0 h1 (hk R _ (Le.refl R) h2)
  .obtain⟨g',h1,h2⟩:=xT h0 Yf h hr;refine ab.eff hw h1 λid O'=>?_;obtain⟨R',h3,h4⟩:=h2 id O';exact hk R' _ h3 h4
  .rw[h0]at hr Yf;simp only[ju,DV,FY]at hr;simp only[jV,Yw.xs,ja,List.all_nil,Bool.and_true,Ba]at Yf;have hx:=cg h.slot Yf.1;split at hr
   .rename_i id off len O';rw[O']at hx;simp only[aq]at hx;obtain⟨a,ha1,ha2⟩:=hx;rw[sd]at hr;split at hr
    .rename_i hf;split at hr
     .rename_i ob Zb;have hob':ZQ cs.U id=some ob:=Zb;obtain⟨Yc,g1,g2⟩:=h.mem.live _ _ _ ha2 hob';rw[sd]at hr;split at hr
      .rename_i ZH;simp only[Ba,Nat.beq_eq,Nat.ble_eq]at ZH;simp only[aB]at hr;refine ab.clear hw h0 ha1 g1 ZH.1 (by rw[g2.length];exact ZH.2) ?_;have hm:=h.mem.write ha2 hob' (nH hf) (((g2.take off).append (aD.replicate (cT (R:=R) z Yf.2) len)).append (g2.drop (off+len)));have hS:cC K fl R ⟨cs.s,kc none (some ⟨ob.elem,ob.sz,ob.rows.take off++List.replicate len z++ob.rows.drop (off+len)⟩) id cs.U,cs.YA⟩
        ⟨st.s,C' st.U a ⟨ob.elem,ob.sz,Yc.take off++List.replicate len z++Yc.drop (off+len)⟩⟩:=⟨h.slot,by simp only[vk];exact hm⟩
       exact hk R _ (Le.refl R) (hr▸hS.put aq.An)
      .cases hr
     .cases hr
    .cases hr
   .cases hr
  .exact(A6 h0 hr).elim
 .exact ab.o6 hw (hk R _ (Le.refl R) (h.put aq.An))
end
def uM(P:Program)(n:Nat)(K:af)(fl:Nat)(R:Nat->Nat->Prop)(k:List It)(Q:St->Prop):Out->Prop
 |.nx cs=>∀R' st,Le R R'->cC K fl R' cs st->ab P n k st Q
 |.ex id cs=>∃k',gg id k=some k'/\∀R' st,Le R R'->cC K fl R' cs st->ab P n k' st Q
 |.rt cs=>∀R' st,Le R R'->cC K fl R' cs st->Q st
 |.bad=>False
def uM.le{K:af}{fl:Nat}{R R':Nat->Nat->Prop}{k:List It}{Q:St->Prop}{o:Out}(h:uM P n K fl R k Q o)(hle:Le R R'):uM P n K fl R' k Q o:=by
 cases o
 case bad=>exact h
 case ex=>obtain⟨k',h1,h2⟩:=h;exact⟨k',h1,λR'' st h3 h4=>h2 R'' st (hle.trans h3) h4⟩
 all_goals exact λR'' st h3 h4=>h R'' st (hle.trans h3) h4
def AP(i:Nat):∀(l:List V) (k:Nat) (t:Tr V),fj (.P' []) i (Tr.ofL l k t)=if k<=i/\i<k+l.length then l.getD (i-k) (.P' [])else fj (.P' []) i t
 |[],k,t=>by simp[Tr.ofL];intro h1 h2;omega
 |v::l,k,t=>by
  rw[Tr.ofL,AP i l (k+1),kr];simp only[ZR];by_cases h1:i=k
  .subst h1;rw[av (by omega),ar rfl,ar (by omega)];simp
  .by_cases h2:k+1<=i/\i<k+1+l.length
   .rw[ar h2,ar (by omega),show i-k=(i-(k+1))+1 by omega];simp
   .rw[av h2,av h1,av (by omega)]
def EG{K:af}{fl:Nat}{R:Nat->Nat->Prop}{cs:CS}{st:St}(h:cC K fl R cs st){r:VR}(M':F3 r=true){v:V}(hv:gj ⟨cs.sf,ZQ cs.U⟩ r=some v):
 ∃v',gj st r=some v'/\aq R v v':=by
 cases r<;>simp only[gj,reduceCtorEq,aB]at hv|-
 case tmp x=>subst hv;exact⟨_,rfl,cg h.slot M'⟩
 case cell agg sz x=>exact yS h.mem.live (cg h.slot M') hv
def wG{K:af}{fl:Nat}{R:Nat->Nat->Prop}{cs:CS}{st:St}(h:cC K fl R cs st):∀{l:List VR},l.all F3=true->∀{vs:List V},ei ⟨cs.sf,ZQ cs.U⟩ l=some vs->
 ∃vs',ei st l=some vs'/\aD R vs vs'
 |[],_,vs,hv=>by simp only[ei,aB]at hv;subst hv;exact⟨[],rfl,by simp[aD]⟩
 |r::l,M',vs,hv=>by
  simp only[ja,Ba]at M';simp only[ei]at hv;split at hv
  .rename_i v h1;split at hv
   .rename_i us h2;simp only[aB]at hv;subst hv;obtain⟨v',g1,g2⟩:=EG h M'.1 h1;obtain⟨us',g3,g4⟩:=wG h M'.2 h2;exact⟨v'::us',by simp[ei,g1,g3],aD.bu.2 ⟨v',us',rfl,g2,g4⟩⟩
   .cases hv
  .cases hv
def Br{K:af}{fl:Nat}{R:Nat->Nat->Prop}{cs:CS}{st:St}(h:cC K fl R cs st){l:List VR}(M':l.all F3=true){v:V}(hv:nS ⟨cs.sf,ZQ cs.U⟩ l=some v):
 ∃v',nS st l=some v'/\aq R v v':=by
 unfold nS at hv;cases hr:ei ⟨cs.sf,ZQ cs.U⟩ l with
 |none=>simp[hr]at hv
 |some vs=>
  obtain⟨vs',g1,g2⟩:=wG h M' hr;rw[hr]at hv;unfold nS;rw[g1]
  match vs,hv,g2 with
  |[],hv,g2=>
   rw[aD.eX]at g2;subst g2;simp only[aB]at hv;subst hv;exact⟨_,rfl,by simp[aq,aD]⟩
  |[u],hv,g2=>
   obtain⟨x,xs,rfl,g3,g4⟩:=aD.bu.1 g2;rw[aD.eX]at g4;subst g4;simp only[aB]at hv;subst hv;exact⟨_,rfl,g3⟩
  |u1::u2::us,hv,g2=>
   obtain⟨x,xs,rfl,g3,g4⟩:=aD.bu.1 g2;obtain⟨y,ys,rfl,g5,g6⟩:=aD.bu.1 g4;simp only[aB]at hv;subst hv;exact⟨_,rfl,by simp only[aq];exact⟨_,rfl,g2⟩⟩
def GC{a b:Int}(h:eqQ a b=true):a=b:=by
 cases a<;>cases b<;>simp only[eqQ,eT]at h
 .rw[gC h]
 .rw[gC h]
open Go.Proofs Go.Proofs.Tryz
def X2:Sty:=⟨0,0,0,0,0,0,0,0,0,0,0,0⟩
def Wf(n:Int):Nd:=⟨1,n,⟨0,0,0,0,0,1,1,0,0,0,0,0⟩,0,0,[],0,0,0⟩
def XP(ws:List Int):Nd:=⟨2,1,X2,10,0,ws,0,0,0⟩
def qH:List Nd:=[Wf 2,XP [5,5,5]]
set_option maxRecDepth 1000000
end Go.Vc
